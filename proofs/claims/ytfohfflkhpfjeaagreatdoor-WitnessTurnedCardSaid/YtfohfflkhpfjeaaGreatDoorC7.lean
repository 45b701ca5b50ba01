/-
 Texts of one claim, laid together: W9, Ref1, Ref2, Ref3, Ref4, Ref5, Ref6, Ref7, Geo1, Exact, W10, Pack2.
-/
import Derived.Test.YtfohfflkhpfjeaaGreatDoorC6
set_option maxHeartbeats 8000000
set_option linter.unusedSimpArgs false
set_option linter.unusedVariables false
set_option linter.unusedSectionVars false
namespace Go.Proofs.YtfohfflkhpfjeaaGreatDoor
open Go.Proofs.Tryz
open Go.RowKit Go.Lith
set_option maxRecDepth 100000
attribute [local irreducible] wpList wpQuiet dY dQ dO Code.wp
theorem abh : rN prog 53 tr:=by
 refine rN.agg (cs:=fun p=>#[.int .i64 p.a.x,.int .i64 p.a.y,.int .i64 p.a.z,.int .i64 p.b.x,.int .i64 p.b.y,.int .i64 p.b.z,.int .i64 p.c.x,.int .i64 p.c.y,.int .i64 p.c.z]) (fun _=>rfl) bL (fun e p=>?_) (fun p q=>?_) (fun p=>?_)
 ·
  refine rU.array (d:=9999) bL aF fun i hi=>?_;obtain rfl | rfl | rfl:=(by omega : i = 0 ∨ i = 1 ∨ i = 2)
  ·
   refine ⟨_,fS aJ aF rfl,?_⟩;refine rU.struct (d:=9998) eD fun f hf=>?_;simp only[List.mem_cons,List.not_mem_nil,or_false] at hf;rcases hf with rfl | rfl | rfl
   · exact ⟨_,dT bT rfl,rU.int (d:=9997) jC⟩
   · exact ⟨_,dT bT rfl,rU.int (d:=9997) jC⟩
   · exact ⟨_,dT bT rfl,rU.int (d:=9997) jC⟩
  ·
   refine ⟨_,fS aJ aF rfl,?_⟩;refine rU.struct (d:=9998) eD fun f hf=>?_;simp only[List.mem_cons,List.not_mem_nil,or_false] at hf;rcases hf with rfl | rfl | rfl
   · exact ⟨_,dT bT rfl,rU.int (d:=9997) jC⟩
   · exact ⟨_,dT bT rfl,rU.int (d:=9997) jC⟩
   · exact ⟨_,dT bT rfl,rU.int (d:=9997) jC⟩
  ·
   refine ⟨_,fS aJ aF rfl,?_⟩;refine rU.struct (d:=9998) eD fun f hf=>?_;simp only[List.mem_cons,List.not_mem_nil,or_false] at hf;rcases hf with rfl | rfl | rfl
   · exact ⟨_,dT bT rfl,rU.int (d:=9997) jC⟩
   · exact ⟨_,dT bT rfl,rU.int (d:=9997) jC⟩
   · exact ⟨_,dT bT rfl,rU.int (d:=9997) jC⟩
 · exact (aao _).iff ⟨fun h=>Rr (P3.eq (h.1) (h.2.1) (h.2.2.1)) (P3.eq (h.2.2.2.1) (h.2.2.2.2.1) (h.2.2.2.2.2.1)) (P3.eq (h.2.2.2.2.2.2.1) (h.2.2.2.2.2.2.2.1) (h.2.2.2.2.2.2.2.2)),fun h=>by subst h;simp only[and_self]⟩
 · simp [tr,Instr.sameBits]
def Bq {K : Type} [DecidableEq K] (D : List (K × Bool)) (ks : List K) : List (K × Bool):=ks.foldl (fun D k=>gS D k false) D
theorem Xn {K : Type} [DecidableEq K] (D : List (K × Bool)) (ks : List K) (k : K) : Bq D (ks ++ [k]) = gS (Bq D ks) k false:=by unfold Bq;rw [List.foldl_append];rfl
theorem Gn {K : Type} [DecidableEq K] : ∀ (ks : List K) (D : List (K × Bool)) (a : K),dD (Bq D ks) a = if a ∈ ks then some false else dD D a
 | [],D,a=>by simp [Bq]
 | k :: ks,D,a=>by
  show dD (Bq (gS D k false) ks) a = _
  rw [Gn ks,mV];by_cases h1 : a ∈ ks
  · rw [if_pos h1,if_pos (List.mem_cons_of_mem _ h1)]
  ·
   rw [if_neg h1];by_cases h2 : k = a
   · rw [if_pos h2,if_pos (by rw [h2];exact List.mem_cons_self ..)]
   · rw [if_neg h2,if_neg (fun h=>(List.mem_cons.1 h).elim (fun e=>h2 e.symm) h1)]
theorem xT {K : Type} [DecidableEq K] : ∀ (ks : List K) (D : List (K × Bool)),(D.map (·.1)).Nodup → ((Bq D ks).map (·.1)).Nodup
 | [],_,h=>h
 | k :: ks,D,h=>xT ks _ (xO h k false)
theorem Pe {K : Type} [DecidableEq K] (ks hs : List K) (a : K) : (dD (Bq (gI [] ks) hs) a).getD false = decide (a ∈ ks ∧ a ∉ hs):=by
 rw [Gn];by_cases h : a ∈ hs
 · rw [if_pos h,decide_eq_false (fun k=>k.2 h)];rfl
 · rw [if_neg h,qM,decide_eq_decide];exact ⟨fun k=>⟨k,h⟩,And.left⟩
theorem abi {f c : List T3} {ms : List Mv} {i : Nat} {t : T3} (ht : f[i]? = some t) (h : ¬ Rx f c ms i t) : kC f c ms = false:=by
 cases hh : kC f c ms with
 | false=>rfl
 | true=>exact absurd ((wL.1 hh).1 i t ht) h
theorem ade {x : T3} : ((decide (¬ (x.a.x = x.b.x ∧ x.a.y = x.b.y ∧ x.a.z = x.b.z)) && decide (¬ (x.b.x = x.c.x ∧ x.b.y = x.c.y ∧ x.b.z = x.c.z))) && decide (¬ (x.c.x = x.a.x ∧ x.c.y = x.a.y ∧ x.c.z = x.a.z))) = x.nd:=by
 simp only[T3.nd,gH,ne_eq]
theorem adf {f c : List T3} {ms : List Mv} {k : Nat} {t : T3} (hn : (t.img ms).nd = true) {b : Bool} (h : (!(dD (Bq (gI [] (c.map eC)) (oL ms (f.take k))) (eC (t.img ms))).getD false) = b) : Rx f c ms k t ↔ b = false:=by
 rw [Pe] at h;rw [Rx,hn,if_pos rfl,← h];simp
theorem adg {f c : List T3} {ms : List Mv} {k : Nat} {t : T3} (hn : (t.img ms).nd = false) {b : Bool} (h : ((!(dD (gI [] (lW c)) ((t.img ms).a,(t.img ms).b)).getD false) || (!(dD (gI [] (lW c)) ((t.img ms).b,(t.img ms).c)).getD false)) = b) : Rx f c ms k t ↔ b = false:=by
 rw [wI,wI] at h;rw [Rx,hn,if_neg Bool.false_ne_true,← h];simp
theorem acJ {f c : List T3} {ms : List Mv} {es : Array MapEntry} {sn : Array Nat} {dn : List (T3 × Bool)} (h : mQ tr Value.bool (Bq (gI [] (c.map eC)) (oL ms f)) es sn dn []) (hno : ∀ y ∈ dn,y.2 = false) (hok : ∀ j t,f[j]? = some t → Rx f c ms j t) : kC f c ms = true:=by
 refine wL.2 ⟨hok,fun u hu=>?_⟩;have hn:=xT (oL ms f) _ (oH (c.map eC) [] (by simp));have hg:=Gn (oL ms f) (gI [] (c.map eC)) (eC u);refine Decidable.byContradiction fun hx=>?_;rw [if_neg hx,yZ,if_pos (List.mem_map.2 ⟨u,hu,rfl⟩)] at hg;have:=hno _ (h.done.mem_iff.2 (yW hg));cases this
theorem abj {f c : List T3} {ms : List Mv} {es : Array MapEntry} {sn : Array Nat} {dn rs : List (T3 × Bool)} (h : mQ tr Value.bool (Bq (gI [] (c.map eC)) (oL ms f)) es sn dn rs) {y : T3} (hy : (y,true) ∈ dn) : kC f c ms = false:=by
 cases hh : kC f c ms with
 | false=>rfl
 | true =>
  have hn:=xT (oL ms f) _ (oH (c.map eC) [] (by simp));have hg:=mW hn (h.1.mem_iff.1 (List.mem_append_left _ hy));have hg2:=Pe (c.map eC) (oL ms f) y;rw [hg] at hg2;obtain ⟨h1,h2⟩:=of_decide_eq_true hg2.symm;obtain ⟨u,hu,rfl⟩:=List.mem_map.1 h1;exact absurd ((wL.1 hh).2 u hu) h2
theorem aeB {ms : List Mv} {f : List T3} {k : Nat} {t : T3} (h : f[k]? = some t) (hn : (t.img ms).nd = true) : oL ms (f.take (k + 1)) = oL ms (f.take k) ++ [eC (t.img ms)]:=by rw [zX h,hn];rfl
theorem aeC {ms : List Mv} {f : List T3} {k : Nat} {t : T3} (h : f[k]? = some t) (hn : (t.img ms).nd = false) : oL ms (f.take (k + 1)) = oL ms (f.take k):=by rw [zX h,hn];simp
theorem Tx {f c : List T3} {ms : List Mv} {k : Nat} {t : T3} (ht : f[k]? = some t) (h : Rx f c ms k t) (hok : ∀ i t,i < k → f[i]? = some t → Rx f c ms i t) : ∀ i t,i < k + 1 → f[i]? = some t → Rx f c ms i t:=fun i u hi hu=>by
 rcases Nat.lt_or_ge i k with h1 | h1
 · exact hok i u h1 hu
 ·
  obtain rfl : i = k:=by omega
  obtain rfl:=Option.some.inj (ht.symm.trans hu);exact h
theorem Gp {F G H R J : Value} {g1 q c : Nat} {es : Array MapEntry} {D : List (P3 × P3)} {p : P3} {ms : List Mv} (w : World) (hB1 : gJ w g1 [F,G,H,R,.map (some q),J] 73) (hM : kZ w q es c) (hD : cO pt pt D es c) (hi : ∀ p,(dD D p).getD p = dX ms p) :
 eK prog 75 [.pointer (some ⟨g1,0,none⟩),pt p] w (fun v _=>v = pt (dX ms p)):=(acF w hB1 hM hD).mono fun v w' _ h=>by rw [h,hi]
theorem acK {fs gs : List T3} {N cap N2 cap2 : Nat} {A A2 : Option Addr} {H R J : Value} {g1 q7 c7 : Nat} {es7 : Array MapEntry} {D : List (P3 × P3)} {ms : List Mv} (w : World) (hB1 : gJ w g1 [.slice A N cap,.slice A2 N2 cap2,H,R,.map (some q7),J] 73) (hT : eO w A N fs) (hT2 : eO w A2 N2 gs) (hN : N ≤ 300000) (hN2 : N2 ≤ 300000) (hMq : kZ w q7 es7 c7) (hD : cO pt pt D es7 c7) (himg : ∀ p,(dD D p).getD p = dX ms p) : eK prog 34 [.pointer (some ⟨g1,0,none⟩)] w (fun v _=>v = .int .i64 (if kC fs gs ms = true then 0 else 32)):=by
 refine ⟨afx,?_⟩;have m:=cA.refl w
 go_enter func34,ntmps34
 refine aD fun K1 k1=>wp_region_lit (aA (aC) (aG (k1 _ _ ?_)));refine aD fun K2 k2=>wp_region_lit ?_;simp only[zz];refine kT m ?_;clear m;intro q8 u m;have hD8:=cO.nil (K:=T3) (V:=Bool) tr Value.bool;refine aA (aC) (aG (k2 _ _ ?_));refine aD fun K3 k3=>aD fun K4 k4=>wp_region_lit (aA (aB) (aA (dA rfl) ?_));simp only[zz];refine aA (aN (c:=0) jJ rfl jS rfl rfl) ?_;simp only[zz];refine aK rfl ((hB1.ext m.ext).lies1 oE rfl) ?_;simp only[zz];refine aA (aW rfl bS rfl) (aA (aB) (aG (k4 _ _ ?_)));refine wp_block ?_;simp only[zz];try simp only[Nat.zero_add,Nat.reduceAdd,Nat.reduceMul,Int.reduceToNat]
 refine bH [18] [5,19,20,21,22,23,24,25] (fun n vs wl=>∃ (k : Nat) (es : Array MapEntry) (cc : Nat),vs = [.int .i64 (k:Int)] ∧ cA w wl [mI q8 es cc] ∧ (cO tr Value.bool (gI [] ((gs.take k).map eC)) es cc) ∧ (k ≤ N2) ∧ (n = N2 - k)) ?_ ?_
 ·
  apply Exists.intro;simp only[zQ,zR,zD,zE];exact ⟨0,_,_,rfl,m,hD8,Nat.zero_le _,rfl⟩
 ·
  intro n vs wr hI u;clear m;obtain ⟨k,es8,c8,rfl,m,hD8,hk,hn⟩:=hI;simp only[zu,zF,zG];refine aD fun K5 k5=>wp_region_lit (aA (cE rfl rfl) (aG (k5 _ _ ?_)));refine aD fun K6 k6=>?_;simp only[zz];refine bZ rfl (fun hc1=>?_) (fun hc1=>?_)
  ·
   obtain ⟨t,ht,_,a,rfl,hrow⟩:=hT2.get (i:=k) (by omega);refine wp_skip (k6 _ _ ?_);refine aD fun K7 k7=>wp_block (aD fun K8 k8=>wp_region_lit (aA (aI bS aT rfl rfl (by omega) (by omega) (bV (Int.toNat_natCast _))) ?_));simp only[zz];refine aK rfl ((hrow.ext m.ext).lies eQ aT) ?_;simp only[zz];refine bF m jX rfl ?_;clear m;intro g3 u m;simp only[zz];refine aS m 0 rfl rfl rfl aT (dZ rfl) rfl ?_;clear m;intro u m;simp only[zy,zx,bG,zF,zG,Nat.reduceAdd] at m;refine aG (k8 _ _ ?_);refine wp_region_lit (aA (aB) ?_);simp only[zz];refine aK rfl ((m.b 0 rfl).full eQ aT) ?_;simp only[zz];refine gG m rfl rfl (Jk (t:=t)) ?_;clear m;intro u m;simp only[zz];refine fX (ek:=tr) (en:=Value.bool) (a:=eC t) (v:=true) m 1 rfl underlying110 abh rfl rfl rfl hD8 ?_;clear m;intro es8 c8 u m hD';clear hD8;have hD8:=hD';clear hD';simp only[zF,zG] at m;refine aG (k7 _ _ ?_);refine wp_region_lit (aA (aP rfl rfl (aM (by omega) (by omega))) (aA (aB) (aG ?_)));simp only[zz];simp only[Exit.inBlock,Exit.then];refine ⟨N2 - (k + 1),_,?_,rfl,?_,?_⟩
   · omega
   · simp only[zz,zv]
   ·
    simp only[zQ,zR,zD,zE];exact ⟨k + 1,_,_,rfl,(m.sel [false,true]),by rw [dF ht,List.map_append,List.map_cons,List.map_nil,mX];exact hD8,by omega,rfl⟩
  ·
   have hkN : k = N2:=by omega
   rw [List.take_of_length_le (by rw [hT2.len];omega)] at hD8;refine wp_exit (k3 _ _ ?_);refine aD fun K9 k9=>wp_region_lit (aA (aB) (aA (dA rfl) (aA (aN (c:=0) jJ rfl jS rfl rfl) ?_)));simp only[zz];refine aK rfl ((hB1.ext m.ext).lies1 oE rfl) ?_;simp only[zz];refine bA rfl rfl (Gi _ (hT2.ext m.ext) (by omega)) ?_;rintro v u e ⟨g9,es9,c9,rfl,hM,hD9⟩;replace m:=m.plus hM;clear hM e;simp only[List.cons_append,List.nil_append] at m;refine aA (aC) (aG (k9 _ _ ?_));refine aD fun K10 k10=>aD fun K11 k11=>wp_region_lit (aA (aB) (aA (dA rfl) ?_));simp only[zz];refine aA (aN (c:=0) jJ rfl jS rfl rfl) ?_;simp only[zz];refine aK rfl ((hB1.ext m.ext).lies1 oE rfl) ?_;simp only[zz];refine aA (aW rfl bS rfl) (aA (aB) (aG (k11 _ _ ?_)));refine wp_block ?_;simp only[zz];try simp only[Nat.zero_add,Nat.reduceAdd,Nat.reduceMul,Int.reduceToNat]
   refine bH [36] [2,8,9,37,38,39,40,41,42,43,44,45,46,47,48,49,50,51,52,53,54,55,56,57,58,59,60,61,62,63,64,65,66,67,68,69,70,71,72,73,74,75,76,77,78,79,80,81,82,83,84,85,86,87,88,89,90,91,92,93,94,95,96,97,98] (fun n vs wl=>∃ (k : Nat) (es : Array MapEntry) (cc : Nat),vs = [.int .i64 (k:Int)] ∧ cA w wl [mI g9 es9 c9,mI q8 es cc] ∧ (cO tr Value.bool (Bq (gI [] (gs.map eC)) (oL ms (fs.take k))) es cc) ∧ (∀ i t,i < k → fs[i]? = some t → Rx fs gs ms i t) ∧ (k ≤ N) ∧ (n = N - k)) ?_ ?_
   ·
    apply Exists.intro;simp only[zQ,zR,zD,zE];exact ⟨0,_,_,rfl,m,hD8,fun _ _ h=>absurd h (Nat.not_lt_zero _),Nat.zero_le _,rfl⟩
   ·
    intro n vs wr hI u;clear m;obtain ⟨k,es8,c8,rfl,m,hD8,hok,hk,hn⟩:=hI;simp only[zu,zF,zG];refine aD fun K12 k12=>wp_region_lit (aA (cE rfl rfl) (aG (k12 _ _ ?_)));refine aD fun K13 k13=>?_;simp only[zz];refine bZ rfl (fun hc2=>?_) (fun hc2=>?_)
    ·
     obtain ⟨t,ht,_,a,rfl,hrow⟩:=hT.get (i:=k) (by omega);refine wp_skip (k13 _ _ ?_);refine aD fun K14 k14=>wp_block (aD fun K15 k15=>wp_region_lit (aA (aI bS aT rfl rfl (by omega) (by omega) (bV (Int.toNat_natCast _))) ?_));simp only[zz];refine aK rfl ((hrow.ext m.ext).lies eQ aT) ?_;simp only[zz];refine bF m jX rfl ?_;clear m;intro g3 u m;simp only[zz];refine aS m 0 rfl rfl rfl aT (dZ rfl) rfl ?_;clear m;intro u m;simp only[zy,zx,bG,zF,zG,Nat.reduceAdd] at m;refine aG (k15 _ _ ?_);refine aD fun K16 k16=>?_;refine jM 14 [0,1,2,3,4,5,6,7,8,9,10,11,12] [⟨13,9,53,[.int .i64 0,.int .i64 0,.int .i64 0,.int .i64 0,.int .i64 0,.int .i64 0,.int .i64 0,.int .i64 0,.int .i64 0]⟩] aO (by kernel_rfl) (al1 ⟨_,_,_,rfl,by kernel_rfl,_,jX,rfl⟩) (ol:=?_) ?hol ?_
     case hol=>simp only[zw,zQ,zR];try rfl
     intro u e;replace m:=m.ext' e;clear e;refine gX (aB) (gX (aH bL aF rfl rfl (by decide) (by decide) rfl) ?_);simp only[zz];refine lU rfl (fun u e=>(((m.ext' e).b 0 rfl).lies aJ aF rfl rfl)) ?_;simp only[zz,zy,Nat.zero_add,Nat.reduceAdd,Nat.reduceMul,Int.reduceToNat];refine Db rfl rfl (fun u e=>Gp (p:=t.a) _ (hB1.ext (m.ext' e).ext) (hMq.ext (m.ext' e).ext) hD himg) (gX (aB) (gX (aH bL aF rfl rfl (by decide) (by decide) rfl) ?_));simp only[zz];refine lU rfl (fun u e=>(((m.ext' e).b 0 rfl).lies aJ aF rfl rfl)) ?_;simp only[zz,zy,Nat.zero_add,Nat.reduceAdd,Nat.reduceMul,Int.reduceToNat];refine Db rfl rfl (fun u e=>Gp (p:=t.b) _ (hB1.ext (m.ext' e).ext) (hMq.ext (m.ext' e).ext) hD himg) (gX (aB) (gX (aH bL aF rfl rfl (by decide) (by decide) rfl) ?_));simp only[zz];refine lU rfl (fun u e=>(((m.ext' e).b 0 rfl).lies aJ aF rfl rfl)) ?_;simp only[zz,zy,Nat.zero_add,Nat.reduceAdd,Nat.reduceMul,Int.reduceToNat];refine Db rfl rfl (fun u e=>Gp (p:=t.c) _ (hB1.ext (m.ext' e).ext) (hMq.ext (m.ext' e).ext) hD himg) (gX (bM rfl rfl rfl) (Ib ?_));simp only[zz];refine mf1 m ?_;clear m;intro g4 u m;simp only[zJ,zK,zF,zG];refine aS m 0 rfl rfl rfl aT (dZ rfl) rfl ?_;clear m;intro u m;simp only[zy,zx,bG,zF,zG,Nat.reduceAdd] at m;refine aG (k16 _ _ ?_);refine aD fun K17 k17=>aD fun K18 k18=>wp_region_lit (aA (aH bL aF rfl rfl (by decide) (by decide) rfl) ?_);simp only[zz];refine aK rfl ((m.b 0 rfl).lies aJ aF rfl rfl) ?_;simp only[zz,zy,Nat.zero_add,Nat.reduceAdd,Nat.reduceMul,Int.reduceToNat];refine aA (aH bL aF rfl rfl (by decide) (by decide) rfl) ?_;simp only[zz];refine aK rfl ((m.b 0 rfl).lies aJ aF rfl rfl) ?_;simp only[zz,zy,Nat.zero_add,Nat.reduceAdd,Nat.reduceMul,Int.reduceToNat];refine aA (gA rfl rfl) (aA (aB) (cW rfl (fun hb=>aH bL aF rfl rfl (by decide) (by decide) rfl) ?_));simp only[zz];refine eW rfl (fun hb=>cC (bK hb rfl) ((m.b 0 rfl).lies aJ aF rfl rfl)) ?_;simp only[zz,zy,Nat.zero_add,Nat.reduceAdd,Nat.reduceMul,Int.reduceToNat];refine cW rfl (fun hb=>aH bL aF rfl rfl (by decide) (by decide) rfl) ?_;simp only[zz];refine eW rfl (fun hb=>cC (bK hb rfl) ((m.b 0 rfl).lies aJ aF rfl rfl)) ?_;simp only[zz,zy,Nat.zero_add,Nat.reduceAdd,Nat.reduceMul,Int.reduceToNat];refine cW rfl (fun hb=>gA (bK hb rfl) (bK hb rfl)) (aA (cK rfl rfl rfl) (aA (aB) (cW rfl (fun hb=>aH bL aF rfl rfl (by decide) (by decide) rfl) ?_)));simp only[zz];refine eW rfl (fun hb=>cC (bK hb rfl) ((m.b 0 rfl).lies aJ aF rfl rfl)) ?_;simp only[zz,zy,Nat.zero_add,Nat.reduceAdd,Nat.reduceMul,Int.reduceToNat];refine cW rfl (fun hb=>aH bL aF rfl rfl (by decide) (by decide) rfl) ?_;simp only[zz];refine eW rfl (fun hb=>cC (bK hb rfl) ((m.b 0 rfl).lies aJ aF rfl rfl)) ?_;simp only[zz,zy,Nat.zero_add,Nat.reduceAdd,Nat.reduceMul,Int.reduceToNat];refine cW rfl (fun hb=>gA (bK hb rfl) (bK hb rfl)) (aA (cK rfl rfl rfl) (aG (k18 _ _ ?_)));simp only[zz];refine eE rfl (fun hc3=>?_) (fun hc3=>?_)
     ·
      have hn : (t.img ms).nd = true:=ade.symm.trans hc3;refine aD fun K19 k19=>wp_region_lit (aK rfl ((m.b 0 rfl).full eQ aT) ?_);simp only[zz];refine gG m rfl rfl (Jk (t:=t.img ms)) ?_;clear m;intro u m;simp only[zz];refine aS m 0 rfl rfl rfl aT (dZ rfl) rfl ?_;clear m;intro u m;simp only[zy,zx,bG,zF,zG,Nat.reduceAdd] at m;refine aG (k19 _ _ ?_);refine aD fun K20 k20=>aD fun K21 k21=>wp_region_lit (aA (aB) ?_);simp only[zz];refine aK rfl ((m.b 0 rfl).full eQ aT) ?_;simp only[zz];refine fP (eV (ek:=tr) (en:=Value.bool) (k:=eC (t.img ms)) (v0:=false) underlying110 mP abh rfl rfl (m.p 3 rfl) hD8) ?_;simp only[zz];refine aA (fQ rfl) (aG (k21 _ _ ?_));simp only[zz];refine eE rfl (fun hc4=>?_) (fun hc4=>?_)
      ·
       have hnk:=abi ht (mt (adf hn hc4).1 (by decide));refine aD fun K22 k22=>wp_region_lit (aA (aC) (aG (k22 _ _ ?_)));refine wp_ret ?_;simp only[zz];try simp only[Exit.inBlock,Exit.then,if_true]
       refine bO rfl rfl ?_;try simp only[zD,zE]
       exact ⟨_,rfl,m.ext,by rw [if_neg (by rw [hnk];exact Bool.false_ne_true)]⟩
      ·
       have hk2:=Tx ht ((adf hn hc4).2 rfl) hok;refine wp_skip (k20 _ _ ?_);refine aD fun K23 k23=>wp_region_lit (aA (aB) ?_);simp only[zz];refine aK rfl ((m.b 0 rfl).full eQ aT) ?_;simp only[zz];refine fX (ek:=tr) (en:=Value.bool) (a:=eC (t.img ms)) (v:=false) m 3 rfl underlying110 abh rfl rfl rfl hD8 ?_;clear m;intro es8 c8 u m hD';clear hD8;have hD8:=hD';clear hD';simp only[zF,zG] at m;refine aG (k23 _ _ ?_);refine wp_exit (k14 _ _ ?_);refine wp_region_lit (aA (aP rfl rfl (aM (by omega) (by omega))) (aA (aB) (aG ?_)));simp only[zz];simp only[Exit.inBlock,Exit.then];refine ⟨N - (k + 1),_,?_,rfl,?_,?_⟩
       · omega
       · simp only[zz,zv]
       ·
        simp only[zQ,zR,zD,zE];exact ⟨k + 1,_,_,rfl,(m.sel [false,false,true,true]),by rw [aeB ht hn,Xn];exact hD8,hk2,by omega,rfl⟩
     ·
      have hn : (t.img ms).nd = false:=ade.symm.trans hc3;refine wp_skip (k17 _ _ ?_);refine aD fun K24 k24=>wp_region_lit (aA (aB) (aA (aH bL aF rfl rfl (by decide) (by decide) rfl) ?_));simp only[zz];refine aK rfl ((m.b 0 rfl).lies aJ aF rfl rfl) ?_;simp only[zz,zy,Nat.zero_add,Nat.reduceAdd,Nat.reduceMul,Int.reduceToNat];refine aA (aH bL aF rfl rfl (by decide) (by decide) rfl) ?_;simp only[zz];refine aK rfl ((m.b 0 rfl).lies aJ aF rfl rfl) ?_;simp only[zz,zy,Nat.zero_add,Nat.reduceAdd,Nat.reduceMul,Int.reduceToNat];refine aA (cP rfl rfl) ?_;simp only[zz];refine fP (eV (ek:=ed) (en:=Value.bool) (k:=((t.img ms).a,(t.img ms).b)) (v0:=false) oM mP nX rfl rfl (m.p 2 rfl) hD9) ?_;simp only[zz];refine aA (fQ rfl) (aA (aB) (fH rfl (fun hb=>aB) (fH rfl (fun hb=>aH bL aF rfl rfl (by decide) (by decide) rfl) ?_)));simp only[zz];refine oR rfl (fun hb=>cC (bK hb rfl) ((m.b 0 rfl).lies aJ aF rfl rfl)) ?_;simp only[zz,zy,Nat.zero_add,Nat.reduceAdd,Nat.reduceMul,Int.reduceToNat];refine fH rfl (fun hb=>aH bL aF rfl rfl (by decide) (by decide) rfl) ?_;simp only[zz];refine oR rfl (fun hb=>cC (bK hb rfl) ((m.b 0 rfl).lies aJ aF rfl rfl)) ?_;simp only[zz,zy,Nat.zero_add,Nat.reduceAdd,Nat.reduceMul,Int.reduceToNat];refine fH rfl (fun hb=>cP (agB hb rfl rfl) (agB hb rfl rfl)) ?_;simp only[zz];refine oR rfl (fun hb=>eV (ek:=ed) (en:=Value.bool) (k:=((t.img ms).b,(t.img ms).c)) (v0:=false) oM mP nX (bK hb rfl) (bK hb rfl) (m.p 2 rfl) hD9) ?_;simp only[zz];refine fH rfl (fun hb=>fQ (bK hb rfl)) (aA (fT rfl rfl rfl) (aG (k24 _ _ ?_)));simp only[zz];refine eE rfl (fun hc5=>?_) (fun hc5=>?_)
      ·
       have hnk:=abi ht (mt (adg hn hc5).1 (by decide));refine aD fun K25 k25=>wp_region_lit (aA (aC) (aG (k25 _ _ ?_)));refine wp_ret ?_;simp only[zz];try simp only[Exit.inBlock,Exit.then,if_true]
       refine bO rfl rfl ?_;try simp only[zD,zE]
       exact ⟨_,rfl,m.ext,by rw [if_neg (by rw [hnk];exact Bool.false_ne_true)]⟩
      ·
       have hk2:=Tx ht ((adg hn hc5).2 rfl) hok;refine wp_skip (k14 _ _ ?_);refine wp_region_lit (aA (aP rfl rfl (aM (by omega) (by omega))) (aA (aB) (aG ?_)));simp only[zz];simp only[Exit.inBlock,Exit.then];refine ⟨N - (k + 1),_,?_,rfl,?_,?_⟩
       · omega
       · simp only[zz,zv]
       ·
        simp only[zQ,zR,zD,zE];exact ⟨k + 1,_,_,rfl,(m.sel [false,false,true,true]),by rw [aeC ht hn];exact hD8,hk2,by omega,rfl⟩
    ·
     have hkN : k = N:=by omega
     rw [List.take_of_length_le (by rw [hT.len];omega)] at hD8;have hall : ∀ i t,fs[i]? = some t → Rx fs gs ms i t:=fun i t ht=>hok i t (by have:=(List.getElem?_eq_some_iff.1 ht).1;rw [hT.len] at this;omega) ht;refine wp_exit (k10 _ _ ?_);refine aD fun K26 k26=>aD fun K27 k27=>wp_region_lit (aA (aB) ?_);simp only[zz];refine xP m underlying110 rfl (m.p 1 rfl) ?_;clear m;intro r1 u m;refine aG (k27 _ _ ?_);refine wp_block ?_;simp only[zz];try simp only[Nat.zero_add,Nat.reduceAdd,Nat.reduceMul,Int.reduceToNat]
     refine bH [] [2,11,101,102,103,104,105] (fun n vs wl=>∃ (dn rs : List (T3 × Bool)) (sn : Array Nat),vs = [] ∧ cA w wl [iI r1 q8 c8 sn,mI q8 es8 c8] ∧ (mQ tr Value.bool (Bq (gI [] (gs.map eC)) (oL ms (fs))) es8 sn dn rs) ∧ (∀ y ∈ dn,y.2 = false) ∧ (n = rs.length)) ?_ ?_
     ·
      apply Exists.intro;simp only[zQ,zR,zD,zE];exact ⟨[],_,#[],trivial,(m.sel [true,false,true]),mQ.start hD8,fun _ h=>(by cases h),rfl⟩
     ·
      intro n vs wr hI u;clear m;obtain ⟨dn,rs,sn,rfl,m,hT9,hno,hn⟩:=hI;simp only[zu,zF,zG];refine aD fun K28 k28=>wp_region_lit (Fc m 0 rfl rfl (m.p 1 rfl) hD8 hT9 ?_);clear m;intro bb kk vv sn u m hN;simp only[zF,zG] at m;refine aA (tP rfl) (aG (k28 _ _ ?_));refine aD fun K29 k29=>?_;simp only[zz];refine eE rfl (fun hc6=>?_) (fun hc6=>?_)
      ·
       obtain ⟨kp,kb,rs2,hp,hT10⟩:=Fh hc6 hN;refine wp_skip (k29 _ _ ?_);refine wp_block (aD fun K30 k30=>wp_region_lit (fP (tQ rfl (m.r 0 rfl) (m.p 1 rfl) hD8 hT10) ?_));simp only[zz];refine aA (bE rfl rfl) (aA (aC) (aG (k30 _ _ ?_)));refine aD fun K31 k31=>wp_region_lit (aA (aB) (aG (k31 _ _ ?_)));simp only[zz];refine eE rfl (fun hc7=>?_) (fun hc7=>?_)
       ·
        have hnk:=abj hT10 (y:=kp) (by rw [← hc7];simp);refine aD fun K32 k32=>wp_region_lit (aA (aC) (aG (k32 _ _ ?_)));refine wp_ret ?_;simp only[zz];try simp only[Exit.inBlock,Exit.then,if_true]
        refine bO rfl rfl ?_;try simp only[zD,zE]
        exact ⟨_,rfl,m.ext,by rw [if_neg (by rw [hnk];exact Bool.false_ne_true)]⟩
       ·
        skip
        refine wp_skip ?_;simp only[Exit.inBlock,Exit.then];refine ⟨rs2.length,_,?_,rfl,?_,?_⟩
        · rw [hn,hp.length_eq];exact Nat.lt_succ_self _
        · simp only[zz,zv]
        ·
         simp only[zQ,zR,zD,zE];exact ⟨dn ++ [(kp,kb)],rs2,_,trivial,m,hT10,fun y hy=>(List.mem_append.1 hy).elim (hno y) fun hy=>by obtain rfl:=List.mem_singleton.1 hy;exact hc7,rfl⟩
      ·
       obtain rfl:=Fg hc6 hN;refine wp_exit (k26 _ _ ?_);refine aD fun K33 k33=>wp_region_lit (aA (aC) (aG (k33 _ _ ?_)));refine wp_ret ?_;simp only[zz];try simp only[Exit.inBlock,Exit.then,if_true]
       refine bO rfl rfl ?_;try simp only[zD,zE]
       exact ⟨_,rfl,m.ext,by rw [if_pos (acJ hT9 hno hall)]⟩
end Go.Proofs.YtfohfflkhpfjeaaGreatDoor
namespace Go.Proofs.YtfohfflkhpfjeaaGreatDoor
open Go.Proofs.Tryz
open Go.RowKit Go.Lith
set_option maxRecDepth 100000
attribute [local irreducible] wpList wpQuiet dY Code.wp
theorem oP {A : Option Addr} {xs : List Nat} {b na cap : Nat} (w : World) (hS : cX w b A na cap xs) : eK prog 94 [.slice A na cap] w (fun v _=>v = .slice A (trim xs).length cap):=by
 skip
 refine ⟨agu,?_⟩;have hX:=dJ.refl w;obtain rfl:=hS.eq;have hl:=hS.len;have hle:=hS.le;have hcp:=hS.cap
 go_enter func94,ntmps94
 refine aD (fun K1 hK1=>wp_region_lit (aA (aC) ?_));simp only[zz];refine aG (hK1 _ _ ?_);refine aD (fun K2 hK2=>wp_block ?_);refine bH [0] [3,4,5,6,7,8,9,10,11,12,13,14,15,16,17,18,19] (fun n vs wl=>∃ (k : Nat),vs = [.slice A k cap] ∧ (dJ w wl) ∧ (k ≤ xs.length) ∧ (trim (xs.take k) = trim xs) ∧ (n = k)) ?_ ?_
 ·
  apply Exists.intro;simp only[zQ,zR,zD,zE];exact ⟨xs.length,rfl,hX,Nat.le_refl _,by rw [List.take_length],rfl⟩
 ·
  intro n vs wr hI u;obtain ⟨k,rfl,hX,hk,ht,hn⟩:=hI;simp only[zu,zF,zG];refine aD (fun K3 hK3=>aD (fun K4 hK4=>?_));by_cases hk0 : 0 < k
  ·
   obtain ⟨a,rfl,hcell,hlt⟩:=(hS.ext hX).get (show k - 1 < xs.length by omega);refine wp_region_lit (aA (aB) (aA (aW rfl bW rfl) (aA (xD rfl rfl (by omega)) ?_)));simp only[zz];refine aA (aB) ?_;simp only[zz];refine bN rfl (aA (aB) ?_);simp only[zz];refine bN rfl (aA (aB) ?_);simp only[zz];refine bN rfl (aA (aW rfl bW rfl) ?_);simp only[zz];refine bN rfl (aA (eR rfl rfl (aM (by omega) (by omega))) ?_);simp only[zz];refine bN rfl (aA (aI bW bD rfl rfl (by omega) (by omega) (gM (show _ = k - 1 by omega))) ?_);simp only[zz];refine bN rfl (aK rfl (lies1 hcell bT) ?_);simp only[zz];refine bN rfl (aA (pZ rfl rfl) (aA (fA rfl) ?_));simp only[zz];refine aG (hK4 _ _ ?_);refine bZ rfl (fun hc1=>?_) (fun hc1=>?_)
   ·
    refine wp_skip ?_;refine hK3 _ _ (wp_block (wp_region_lit (aA (aB) (aA (aB) (aA (aW rfl bW rfl) ?_)))));simp only[zz];refine aA (eR rfl rfl (aM (by omega) (by omega))) (aA (kV bW bD rfl rfl (show _ = k - 1 by omega) (by omega) (by omega)) (aA (aC) ?_));simp only[zz];refine aG ?_;simp only[Exit.inBlock,Exit.then];refine ⟨k - 1,_,?_,rfl,?_,?_⟩
    · omega
    · simp only[zz,zv]
    ·
     simp only[zQ,zR,zD,zE];exact ⟨k - 1,rfl,hX,by omega,Hs hk0 (by omega) hc1 ht,rfl⟩
   ·
    refine wp_exit ?_;refine hK2 _ _ (aD (fun K5 hK5=>wp_region_lit (aA (aB) (aA (aC) ?_))));simp only[zz];refine aG (hK5 _ _ ?_);refine wp_ret ?_;try simp only[Exit.inBlock,Exit.then]
    refine bO rfl rfl ?_;try simp only[zD,zE]
    exact ⟨_,rfl,hX,by rw [← Mf hk0 (by omega) hc1 ht]⟩
  ·
   obtain rfl : k = 0:=by omega
   refine wp_region_lit (aA (aB) (aA (aW rfl bW rfl) (aA (uN rfl rfl (by omega)) ?_)));simp only[zz];refine aA (aB) ?_;simp only[zz];refine cD rfl ?_;simp only[zz];refine cD rfl ?_;simp only[zz];refine cD rfl ?_;simp only[zz];refine cD rfl ?_;simp only[zz];refine cD rfl ?_;simp only[zz];refine cD rfl ?_;simp only[zz];refine cD rfl ?_;simp only[zz];refine aA (fL rfl) ?_;simp only[zz];refine aG (hK4 _ _ ?_);refine iO rfl (wp_exit ?_);refine hK2 _ _ (aD (fun K6 hK6=>wp_region_lit (aA (aB) (aA (aC) ?_))));simp only[zz];refine aG (hK6 _ _ ?_);refine wp_ret ?_;try simp only[Exit.inBlock,Exit.then]
   refine bO rfl rfl ?_;try simp only[zD,zE]
   exact ⟨_,rfl,hX,by rw [← Mg ht]⟩
theorem sS {A B : Option Addr} {xs ys : List Nat} {b b2 na nb ca cb : Nat} (w : World) (hS : cX w b A na ca xs) (hR : cX w b2 B nb cb ys) (tx : fW xs) (ty : fW ys) : eK prog 61 [.slice A na ca,.slice B nb cb] w (fun v _=>v = .int .i64 (Kb (val 65536 xs) (val 65536 ys))):=by
 skip
 refine ⟨afW,?_⟩;have hX:=dJ.refl w;obtain rfl:=hS.eq;obtain rfl:=hR.eq;have hl:=hS.len;have hl2:=hR.len
 go_enter func61,ntmps61
 refine aD (fun K1 hK1=>wp_region_lit (aA (aC) ?_));simp only[zz];refine aG (hK1 _ _ ?_);refine aD (fun K2 hK2=>aD (fun K3 hK3=>wp_region_lit (aA (aB) (aA (aW rfl bW rfl) (aA (aB) ?_)))));simp only[zz];refine aA (aW rfl bW rfl) (aA (lG rfl rfl) ?_);simp only[zz];refine aG (hK3 _ _ ?_);refine bZ rfl (fun hc1=>?_) (fun hc1=>?_)
 ·
  refine aD (fun K4 hK4=>aD (fun K5 hK5=>wp_region_lit (aA (aB) (aA (aW rfl bW rfl) (aA (aB) ?_)))));simp only[zz];refine aA (aW rfl bW rfl) (aA (cE rfl rfl) ?_);simp only[zz];refine aG (hK5 _ _ ?_);refine bZ rfl (fun hc2=>?_) (fun hc2=>?_)
  ·
   refine aD (fun K6 hK6=>wp_region_lit (aA (aC) ?_));simp only[zz];refine aG (hK6 _ _ ?_);refine wp_ret ?_;try simp only[Exit.inBlock,Exit.then]
   refine bO rfl rfl ?_;try simp only[zD,zE]
   exact ⟨_,rfl,hX,by rw [Kb,if_pos (jZ (by omega) hS.digs hR.digs ty (by omega))]⟩
  ·
   refine wp_skip ?_;refine hK4 _ _ (aD (fun K7 hK7=>wp_region_lit (aA (aC) ?_)));simp only[zz];refine aG (hK7 _ _ ?_);refine wp_ret ?_;try simp only[Exit.inBlock,Exit.then]
   refine bO rfl rfl ?_;try simp only[zD,zE]
   exact ⟨_,rfl,hX,by have:=jZ (B:=65536) (by omega) hR.digs hS.digs tx (by omega);rw [Kb,if_neg (by omega),if_pos this]⟩
 ·
  refine wp_skip ?_;refine hK2 _ _ (aD (fun K8 hK8=>aD (fun K9 hK9=>wp_region_lit (aA (aB) (aA (aW rfl bW rfl) (aA (eR rfl rfl (aM (by omega) (by omega))) ?_))))));simp only[zz];refine aA (aC) ?_;simp only[zz];refine aG (hK9 _ _ ?_);refine wp_block (bH [5] [4,19,20,21,22,23,24,25,26,27,28,29,30,31,32,33,34,35,36,37,38,39,40] (fun n vs wl=>∃ (k : Nat),vs = [.int .i64 ((k:Int) - 1)] ∧ (dJ w wl) ∧ (k ≤ xs.length) ∧ (xs.drop k = ys.drop k) ∧ (n = k)) ?_ ?_)
  ·
   apply Exists.intro;simp only[zQ,zR,zD,zE];exact ⟨xs.length,rfl,hX,Nat.le_refl _,by rw [List.drop_length,show xs.length = ys.length by omega,List.drop_length],rfl⟩
  ·
   intro n vs wr hI u;obtain ⟨k,rfl,hX,hk,hd,hn⟩:=hI;simp only[zu,zF,zG];refine aD (fun K10 hK10=>aD (fun K11 hK11=>wp_region_lit (aA (aB) (aA (pM rfl rfl) ?_))));simp only[zz];refine aG (hK11 _ _ ?_);refine bZ rfl (fun hc3=>?_) (fun hc3=>?_)
   ·
    refine wp_skip ?_;refine hK10 _ _ (aD (fun K12 hK12=>wp_block (aD (fun K13 hK13=>?_))));obtain ⟨a,rfl,hca,_⟩:=(hS.ext hX).get (show k - 1 < xs.length by omega);obtain ⟨b,rfl,hcb,_⟩:=(hR.ext hX).get (show k - 1 < ys.length by omega);refine iV aO (by kernel_rfl) (aL (aB) (aL (aB) (aL (aI bW bD rfl rfl (by omega) (by omega) (gM (show _ = k - 1 by omega))) ?_)));simp only[zz];refine iZ rfl (fun _ hE'=>(lies1 (hE'.cell hca) bT)) ?_;simp only[zz];refine aL (aB) (aL (aB) (aL (aI bW bD rfl rfl (by omega) (by omega) (gM (show _ = k - 1 by omega))) ?_));simp only[zz];refine iZ rfl (fun _ hE'=>(lies1 (hE'.cell hcb) bT)) ?_;simp only[zz];refine aL (lG rfl rfl) ?_;simp only[zz];refine dK ?_;intro w1 hE;replace hX:=hX.trans hE;clear hE;refine hK13 _ _ (bZ rfl (fun hc4=>?_) (fun hc4=>?_))
    ·
     refine aD (fun K14 hK14=>aD (fun K15 hK15=>?_));have hca:=(hS.ext hX).at (show k - 1 < xs.length by omega);have hcb:=(hR.ext hX).at (show k - 1 < ys.length by omega);refine iV aO (by kernel_rfl) (aL (aB) (aL (aB) (aL (aI bW bD rfl rfl (by omega) (by omega) (gM (show _ = k - 1 by omega))) ?_)));simp only[zz];refine iZ rfl (fun _ hE'=>(lies1 (hE'.cell hca) bT)) ?_;simp only[zz];refine aL (aB) (aL (aB) (aL (aI bW bD rfl rfl (by omega) (by omega) (gM (show _ = k - 1 by omega))) ?_));simp only[zz];refine iZ rfl (fun _ hE'=>(lies1 (hE'.cell hcb) bT)) ?_;simp only[zz];refine aL (cE rfl rfl) ?_;simp only[zz];refine dK ?_;intro w2 hE;replace hX:=hX.trans hE;clear hE;refine hK15 _ _ (bZ rfl (fun hc5=>?_) (fun hc5=>?_))
     ·
      refine aD (fun K16 hK16=>wp_region_lit (aA (aC) ?_));simp only[zz];refine aG (hK16 _ _ ?_);refine wp_ret ?_;try simp only[Exit.inBlock,Exit.then]
      refine bO rfl rfl ?_;try simp only[zD,zE]
      exact ⟨_,rfl,hX,by rw [Kb,if_pos (Oz hS.digs (by omega) (by omega) (by omega) hd hc5)]⟩
     ·
      refine wp_skip ?_;refine hK14 _ _ (aD (fun K17 hK17=>wp_region_lit (aA (aC) ?_)));simp only[zz];refine aG (hK17 _ _ ?_);refine wp_ret ?_;try simp only[Exit.inBlock,Exit.then]
      refine bO rfl rfl ?_;try simp only[zD,zE]
      exact ⟨_,rfl,hX,by have:=Oz hR.digs (by omega) (by omega) (by omega) hd.symm (by omega);rw [Kb,if_neg (by omega),if_pos this]⟩
    ·
     refine wp_skip ?_;refine hK12 _ _ (wp_region_lit (aA (aB) (aA (eR rfl rfl (aM (by omega) (by omega))) (aA (aC) ?_))));simp only[zz];refine aG ?_;rw [show ((k:Int) - 1 - 1) = ((k - 1 : Nat) : Int) - 1 by omega];simp only[Exit.inBlock,Exit.then];refine ⟨k - 1,_,?_,rfl,?_,?_⟩
     · omega
     · simp only[zz,zv]
     ·
      simp only[zQ,zR,zD,zE];exact ⟨k - 1,rfl,hX,by omega,aaZ (by omega) (by omega) (by omega) hd (by omega),rfl⟩
   ·
    refine wp_exit ?_;refine hK8 _ _ (aD (fun K18 hK18=>wp_region_lit (aA (aC) ?_)));simp only[zz];refine aG (hK18 _ _ ?_);refine wp_ret ?_;try simp only[Exit.inBlock,Exit.then]
    refine bO rfl rfl ?_;try simp only[zD,zE]
    exact ⟨_,rfl,hX,by have h0 : k = 0:=(by omega);subst h0;simp only[List.drop_zero] at hd;rw [hd,Kb,if_neg (by omega),if_neg (by omega)]⟩
theorem aeD {A B : Option Addr} {xs ys : List Nat} {na nb ca cb : Nat} (w : World) (hS : cX w w.heap.size A na ca xs) (hR : cX w w.heap.size B nb cb ys) (hlx : xs.length ≤ 1000000000000) (hly : ys.length ≤ 1000000000000) : eK prog 60 [.slice A na ca,.slice B nb cb] w (aeu (val 65536 xs + val 65536 ys) (max xs.length ys.length + 1)):=by
 skip
 refine ⟨afV,?_⟩;have hX:=dJ.refl w;obtain rfl:=hS.eq;obtain rfl:=hR.eq;obtain ⟨M,hM⟩ : ∃ M,M = max xs.length ys.length:=⟨_,rfl⟩
 rw [← hM]
 go_enter func60,ntmps60
 refine aD (fun K1 hK1=>wp_region_lit (aA (aC) ?_));simp only[zz];refine aG (hK1 _ _ ?_);refine aD (fun K2 hK2=>wp_region_lit (aA (aC) ?_));simp only[zz];obtain ⟨b5,hb5e,hb5l⟩:=hX.base;have hS5:=sQ.of hX hb5e;have hO5:=jA.nil_of hX b5 3 1;clear hb5e;refine aG (hK2 _ _ ?_);refine aD (fun K3 hK3=>wp_region_lit (aA (aC) ?_));simp only[zz];refine aG (hK3 _ _ ?_);refine aD (fun K4 hK4=>aD (fun K5 hK5=>wp_region_lit (aA (aC) ?_)));simp only[zz];refine aG (hK5 _ _ ?_);refine wp_block (bH [5,6,7] [8,9,10,11,12,13,14,15,16,17,18,19,20,21,22,23,24,25,26,27,28,29,30,31,32,33,34,35,36,37,38,39,40,41,42,43,44,45,46,47,48,49,50,51,52] (fun n vs wl=>∃ (i c : Nat) (os : List Nat) (v5 : Value),vs = [v5,.int .i64 (c:Int),.int .i64 (i:Int)] ∧ (dJ w wl) ∧ (cX wl w.heap.size A xs.length ca xs) ∧ (cX wl w.heap.size B ys.length cb ys) ∧ (sQ wl b5) ∧ (jA wl b5 3 1 v5 os.length (os.map pS)) ∧ (os.length = i) ∧ (val 65536 os + 65536 ^ i * c = val 65536 (xs.take i) + val 65536 (ys.take i)) ∧ (cY 65536 os) ∧ (c ≤ 1) ∧ (i ≤ M + 1) ∧ (i = M + 1 → c = 0) ∧ (n = M + 1 - i)) ?_ ?_)
 ·
  apply Exists.intro;simp only[zQ,zR,zD,zE];exact ⟨0,0,[],_,rfl,hX,hS,hR,hS5,hO5,rfl,by simp [val],kQ _,by omega,by omega,fun _=>rfl,rfl⟩
 ·
  intro n vs wr hI u;obtain ⟨i,c,os,v5,rfl,hX,hS,hR,hS5,hO5,hlo,hv,hd,hc,hi,hic,hn⟩:=hI;simp only[zu,zF,zG];refine aD (fun K6 hK6=>aD (fun K7 hK7=>?_));rcases (show i < xs.length ∨ (¬ i < xs.length ∧ i < ys.length) ∨ (¬ i < xs.length ∧ ¬ i < ys.length ∧ 0 < c) ∨ (¬ i < xs.length ∧ ¬ i < ys.length ∧ c = 0) by omega) with hw | ⟨hw,hw2⟩ | ⟨hw,hw2,hw3⟩ | ⟨hw,hw2,rfl⟩
  ·
   refine wp_region_lit (aA (aB) (aA (aB) (aA (aW rfl bW rfl) ?_)));simp only[zz];refine aA (bX rfl rfl (by omega)) (aA (aB) ?_);simp only[zz];refine fV rfl ?_;simp only[zz];refine fV rfl ?_;simp only[zz];refine fV rfl ?_;simp only[zz];refine fV rfl ?_;simp only[zz];refine aA (fA rfl) (aA (aB) ?_);simp only[zz];refine fV rfl ?_;simp only[zz];refine fV rfl ?_;simp only[zz];refine aA (fA rfl) ?_;simp only[zz];refine aG (hK7 _ _ ?_);refine cG rfl (wp_skip ?_);refine hK6 _ _ (aD (fun K8 hK8=>wp_block (aD (fun K9 hK9=>wp_region_lit (aA (aB) (aA (aC) ?_))))));simp only[zz];refine aG (hK9 _ _ ?_);refine aD (fun K10 hK10=>aD (fun K11 hK11=>wp_region_lit (aA (aB) (aA (aB) (aA (aW rfl bW rfl) ?_)))));simp only[zz];refine aA (bX rfl rfl (by omega)) ?_;simp only[zz];refine aG (hK11 _ _ ?_);refine cG rfl ?_;obtain ⟨a,rfl,hca,hla⟩:=hS.get (show i < xs.length by omega);refine wp_region_lit (aA (aB) (aA (aB) (aA (aB) ?_)));simp only[zz];refine aA (aI bW bD rfl rfl (by omega) (by omega) (gM (Int.toNat_natCast _))) ?_;simp only[zz];refine aK rfl (lies1 hca bT) ?_;simp only[zz];refine aA (aP rfl rfl (aM (by omega) (by omega))) (aA (aC) ?_);simp only[zz];refine aG ?_;obtain ⟨s1,hs1⟩ : ∃ s1 : Nat,s1 = c + xs[i]:=⟨_,rfl⟩
   rw [show ((c:Int) + (xs[i]:Int)) = (s1:Int) by omega];have hs2 : s1 = c + xs[i]?.getD 0:=by rw [List.getElem?_eq_getElem (by omega)];exact hs1
   have hs3 : s1 < 65537:=by omega
   refine hK10 _ _ ?_;refine aD (fun K12 hK12=>aD (fun K13 hK13=>wp_region_lit (aA (aB) (aA (aB) (aA (aW rfl bW rfl) ?_)))));simp only[zz];refine aA (cE rfl rfl) ?_;simp only[zz];refine aG (hK13 _ _ ?_);refine bZ rfl (fun hc3=>?_) (fun hc3=>?_)
   ·
    obtain ⟨a2,rfl,hcb,hlb⟩:=hR.get (show i < ys.length by omega);refine wp_region_lit (aA (aB) (aA (aB) (aA (aB) ?_)));simp only[zz];refine aA (aI bW bD rfl rfl (by omega) (by omega) (gM (Int.toNat_natCast _))) ?_;simp only[zz];refine aK rfl (lies1 hcb bT) ?_;simp only[zz];refine aA (aP rfl rfl (aM (by omega) (by omega))) (aA (aC) ?_);simp only[zz];refine aG ?_;obtain ⟨s,hs⟩ : ∃ s : Nat,s = s1 + ys[i]:=⟨_,rfl⟩
    rw [show ((s1:Int) + (ys[i]:Int)) = (s:Int) by omega];have hs4 : s = c + xs[i]?.getD 0 + ys[i]?.getD 0:=by rw [List.getElem?_eq_getElem (l:=ys) (by omega)];simp only[Option.getD_some];omega
    have hs5 : s < 131072:=by omega
    refine hK12 _ _ ?_;refine aD (fun K14 hK14=>wp_region_lit (aA (aB) (aA (aB) (aA (dG rfl rfl (by omega) (lM (n:=65536))) ?_))));simp only[zz];refine fG bW (z:=.int .i64 0) (by kernel_rfl) rfl (by simp only[zz];rfl) (by rfl) ?_;intro w1 g1 hE hg1 hB1;have hG1:=Nat.le_trans hX.size hg1
    (try replace hS:=hS.ext hE);(try replace hR:=hR.ext hE);(try replace hS5:=hS5.ext hE);(try replace hO5:=hO5.ext hE);replace hX:=hX.trans hE
    clear hE hg1;simp only[zz];refine fY rfl bW lE rfl (by decide) rfl hO5 rfl (news:=_) rfl hB1.row0 (by simp [Value.oneCell']) (by omega) (by omega) hS5.h ?_;clear hO5;intro v5 w2 hO5 hGr _
    (try replace hS:=hS.grew hGr (by first | trivial | omega));(try replace hR:=hR.grew hGr (by first | trivial | omega));(try replace hS5:=hS5.grew hGr (by first | trivial | omega));replace hX:=hX.grown hGr hb5l
    clear hGr;replace hO5:=hO5.snoc;simp only[zz];refine aA (aC) ?_;simp only[zz];refine aG (hK14 _ _ ?_);refine wp_region_lit (aA (aB) (aA (gW rfl rfl (by omega) (lN (n:=65536) (by omega))) (aA (aC) ?_)));simp only[zz];refine aG (hK8 _ _ ?_);refine wp_region_lit (aA (aB) (aA (aP rfl rfl (aM (by omega) (by omega))) (aA (aC) ?_)));simp only[zz];refine aG ?_;obtain ⟨r1,r2⟩:=uA hlo hv hd hs4;rw [show ((i:Int) + 1) = ((i + 1 : Nat) : Int) by omega];simp only[Exit.inBlock,Exit.then];refine ⟨M + 1 - (i + 1),_,?_,rfl,?_,?_⟩
    · omega
    · simp only[zz,zv]
    ·
     simp only[zQ,zR,zD,zE];exact ⟨i + 1,s / 65536,os ++ [s % 65536],v5,rfl,hX,hS,hR,hS5,hO5,by simp;omega,r1,r2,by omega,by omega,fun h=>by rw [List.getElem?_eq_none (l:=xs) (by omega),List.getElem?_eq_none (l:=ys) (by omega)] at hs4;simp at hs4;omega,rfl⟩
   ·
    obtain ⟨s,hs⟩ : ∃ s : Nat,s = s1:=⟨_,rfl⟩
    rw [← hs];have hs4 : s = c + xs[i]?.getD 0 + ys[i]?.getD 0:=by rw [List.getElem?_eq_none (l:=ys) (by omega)];simp only[Option.getD_none];omega
    have hs5 : s < 131072:=by omega
    refine wp_skip ?_;refine hK12 _ _ (aD (fun K15 hK15=>wp_region_lit (aA (aB) (aA (aB) (aA (dG rfl rfl (by omega) (lM (n:=65536))) ?_)))));simp only[zz];refine fG bW (z:=.int .i64 0) (by kernel_rfl) rfl (by simp only[zz];rfl) (by rfl) ?_;intro w1 g1 hE hg1 hB1;have hG1:=Nat.le_trans hX.size hg1
    (try replace hS:=hS.ext hE);(try replace hR:=hR.ext hE);(try replace hS5:=hS5.ext hE);(try replace hO5:=hO5.ext hE);replace hX:=hX.trans hE
    clear hE hg1;simp only[zz];refine fY rfl bW lE rfl (by decide) rfl hO5 rfl (news:=_) rfl hB1.row0 (by simp [Value.oneCell']) (by omega) (by omega) hS5.h ?_;clear hO5;intro v5 w2 hO5 hGr _
    (try replace hS:=hS.grew hGr (by first | trivial | omega));(try replace hR:=hR.grew hGr (by first | trivial | omega));(try replace hS5:=hS5.grew hGr (by first | trivial | omega));replace hX:=hX.grown hGr hb5l
    clear hGr;replace hO5:=hO5.snoc;simp only[zz];refine aA (aC) ?_;simp only[zz];refine aG (hK15 _ _ ?_);refine wp_region_lit (aA (aB) (aA (gW rfl rfl (by omega) (lN (n:=65536) (by omega))) (aA (aC) ?_)));simp only[zz];refine aG (hK8 _ _ ?_);refine wp_region_lit (aA (aB) (aA (aP rfl rfl (aM (by omega) (by omega))) (aA (aC) ?_)));simp only[zz];refine aG ?_;obtain ⟨r1,r2⟩:=uA hlo hv hd hs4;rw [show ((i:Int) + 1) = ((i + 1 : Nat) : Int) by omega];simp only[Exit.inBlock,Exit.then];refine ⟨M + 1 - (i + 1),_,?_,rfl,?_,?_⟩
    · omega
    · simp only[zz,zv]
    ·
     simp only[zQ,zR,zD,zE];exact ⟨i + 1,s / 65536,os ++ [s % 65536],v5,rfl,hX,hS,hR,hS5,hO5,by simp;omega,r1,r2,by omega,by omega,fun h=>by rw [List.getElem?_eq_none (l:=xs) (by omega),List.getElem?_eq_none (l:=ys) (by omega)] at hs4;simp at hs4;omega,rfl⟩
  ·
   refine wp_region_lit (aA (aB) (aA (aB) (aA (aW rfl bW rfl) ?_)));simp only[zz];refine aA (eU rfl rfl (by omega)) (aA (aB) ?_);simp only[zz];refine bN rfl (aA (aB) ?_);simp only[zz];refine bN rfl (aA (aB) ?_);simp only[zz];refine bN rfl (aA (aW rfl bW rfl) ?_);simp only[zz];refine bN rfl (aA (bX rfl rfl (by omega)) (aA (fL rfl) (aA (aB) ?_)));simp only[zz];refine fV rfl ?_;simp only[zz];refine fV rfl ?_;simp only[zz];refine aA (fA rfl) ?_;simp only[zz];refine aG (hK7 _ _ ?_);refine cG rfl (wp_skip ?_);refine hK6 _ _ (aD (fun K16 hK16=>wp_block (aD (fun K17 hK17=>wp_region_lit (aA (aB) (aA (aC) ?_))))));simp only[zz];refine aG ?_;obtain ⟨s1,hs1⟩ : ∃ s1 : Nat,s1 = c:=⟨_,rfl⟩
   rw [← hs1];have hs2 : s1 = c + xs[i]?.getD 0:=by rw [List.getElem?_eq_none (by omega)];exact hs1
   have hs3 : s1 < 65537:=by omega
   refine hK17 _ _ ?_;refine aD (fun K18 hK18=>aD (fun K19 hK19=>wp_region_lit (aA (aB) (aA (aB) (aA (aW rfl bW rfl) ?_)))));simp only[zz];refine aA (eU rfl rfl (by omega)) ?_;simp only[zz];refine aG (hK19 _ _ ?_);refine iO rfl (wp_skip ?_);refine hK18 _ _ (aD (fun K20 hK20=>aD (fun K21 hK21=>wp_region_lit (aA (aB) (aA (aB) (aA (aW rfl bW rfl) ?_))))));simp only[zz];refine aA (bX rfl rfl (by omega)) ?_;simp only[zz];refine aG (hK21 _ _ ?_);refine cG rfl ?_;obtain ⟨a2,rfl,hcb,hlb⟩:=hR.get (show i < ys.length by omega);refine wp_region_lit (aA (aB) (aA (aB) (aA (aB) ?_)));simp only[zz];refine aA (aI bW bD rfl rfl (by omega) (by omega) (gM (Int.toNat_natCast _))) ?_;simp only[zz];refine aK rfl (lies1 hcb bT) ?_;simp only[zz];refine aA (aP rfl rfl (aM (by omega) (by omega))) (aA (aC) ?_);simp only[zz];refine aG ?_;obtain ⟨s,hs⟩ : ∃ s : Nat,s = s1 + ys[i]:=⟨_,rfl⟩
   rw [show ((s1:Int) + (ys[i]:Int)) = (s:Int) by omega];have hs4 : s = c + xs[i]?.getD 0 + ys[i]?.getD 0:=by rw [List.getElem?_eq_getElem (l:=ys) (by omega)];simp only[Option.getD_some];omega
   have hs5 : s < 131072:=by omega
   refine hK20 _ _ ?_;refine aD (fun K22 hK22=>wp_region_lit (aA (aB) (aA (aB) (aA (dG rfl rfl (by omega) (lM (n:=65536))) ?_))));simp only[zz];refine fG bW (z:=.int .i64 0) (by kernel_rfl) rfl (by simp only[zz];rfl) (by rfl) ?_;intro w1 g1 hE hg1 hB1;have hG1:=Nat.le_trans hX.size hg1
   (try replace hS:=hS.ext hE);(try replace hR:=hR.ext hE);(try replace hS5:=hS5.ext hE);(try replace hO5:=hO5.ext hE);replace hX:=hX.trans hE
   clear hE hg1;simp only[zz];refine fY rfl bW lE rfl (by decide) rfl hO5 rfl (news:=_) rfl hB1.row0 (by simp [Value.oneCell']) (by omega) (by omega) hS5.h ?_;clear hO5;intro v5 w2 hO5 hGr _
   (try replace hS:=hS.grew hGr (by first | trivial | omega));(try replace hR:=hR.grew hGr (by first | trivial | omega));(try replace hS5:=hS5.grew hGr (by first | trivial | omega));replace hX:=hX.grown hGr hb5l
   clear hGr;replace hO5:=hO5.snoc;simp only[zz];refine aA (aC) ?_;simp only[zz];refine aG (hK22 _ _ ?_);refine wp_region_lit (aA (aB) (aA (gW rfl rfl (by omega) (lN (n:=65536) (by omega))) (aA (aC) ?_)));simp only[zz];refine aG (hK16 _ _ ?_);refine wp_region_lit (aA (aB) (aA (aP rfl rfl (aM (by omega) (by omega))) (aA (aC) ?_)));simp only[zz];refine aG ?_;obtain ⟨r1,r2⟩:=uA hlo hv hd hs4;rw [show ((i:Int) + 1) = ((i + 1 : Nat) : Int) by omega];simp only[Exit.inBlock,Exit.then];refine ⟨M + 1 - (i + 1),_,?_,rfl,?_,?_⟩
   · omega
   · simp only[zz,zv]
   ·
    simp only[zQ,zR,zD,zE];exact ⟨i + 1,s / 65536,os ++ [s % 65536],v5,rfl,hX,hS,hR,hS5,hO5,by simp;omega,r1,r2,by omega,by omega,fun h=>by rw [List.getElem?_eq_none (l:=xs) (by omega),List.getElem?_eq_none (l:=ys) (by omega)] at hs4;simp at hs4;omega,rfl⟩
  ·
   refine wp_region_lit (aA (aB) (aA (aB) (aA (aW rfl bW rfl) ?_)));simp only[zz];refine aA (eU rfl rfl (by omega)) (aA (aB) ?_);simp only[zz];refine bN rfl (aA (aB) ?_);simp only[zz];refine bN rfl (aA (aB) ?_);simp only[zz];refine bN rfl (aA (aW rfl bW rfl) ?_);simp only[zz];refine bN rfl (aA (eU rfl rfl (by omega)) (aA (fL rfl) (aA (aB) ?_)));simp only[zz];refine bN rfl (aA (aB) ?_);simp only[zz];refine bN rfl (aA (xD rfl rfl (by omega)) (aA (fL rfl) ?_));simp only[zz];refine aG (hK7 _ _ ?_);refine cG rfl (wp_skip ?_);refine hK6 _ _ (aD (fun K23 hK23=>wp_block (aD (fun K24 hK24=>wp_region_lit (aA (aB) (aA (aC) ?_))))));simp only[zz];refine aG ?_;obtain ⟨s1,hs1⟩ : ∃ s1 : Nat,s1 = c:=⟨_,rfl⟩
   rw [← hs1];have hs2 : s1 = c + xs[i]?.getD 0:=by rw [List.getElem?_eq_none (by omega)];exact hs1
   have hs3 : s1 < 65537:=by omega
   refine hK24 _ _ ?_;refine aD (fun K25 hK25=>aD (fun K26 hK26=>wp_region_lit (aA (aB) (aA (aB) (aA (aW rfl bW rfl) ?_)))));simp only[zz];refine aA (eU rfl rfl (by omega)) ?_;simp only[zz];refine aG (hK26 _ _ ?_);refine iO rfl (wp_skip ?_);refine hK25 _ _ (aD (fun K27 hK27=>aD (fun K28 hK28=>wp_region_lit (aA (aB) (aA (aB) (aA (aW rfl bW rfl) ?_))))));simp only[zz];refine aA (eU rfl rfl (by omega)) ?_;simp only[zz];refine aG (hK28 _ _ ?_);refine iO rfl (wp_skip ?_);refine hK27 _ _ (aD (fun K29 hK29=>?_));obtain ⟨s,hs⟩ : ∃ s : Nat,s = s1:=⟨_,rfl⟩
   rw [← hs];have hs4 : s = c + xs[i]?.getD 0 + ys[i]?.getD 0:=by rw [List.getElem?_eq_none (l:=ys) (by omega)];simp only[Option.getD_none];omega
   have hs5 : s < 131072:=by omega
   refine wp_region_lit (aA (aB) (aA (aB) (aA (dG rfl rfl (by omega) (lM (n:=65536))) ?_)));simp only[zz];refine fG bW (z:=.int .i64 0) (by kernel_rfl) rfl (by simp only[zz];rfl) (by rfl) ?_;intro w1 g1 hE hg1 hB1;have hG1:=Nat.le_trans hX.size hg1
   (try replace hS:=hS.ext hE);(try replace hR:=hR.ext hE);(try replace hS5:=hS5.ext hE);(try replace hO5:=hO5.ext hE);replace hX:=hX.trans hE
   clear hE hg1;simp only[zz];refine fY rfl bW lE rfl (by decide) rfl hO5 rfl (news:=_) rfl hB1.row0 (by simp [Value.oneCell']) (by omega) (by omega) hS5.h ?_;clear hO5;intro v5 w2 hO5 hGr _
   (try replace hS:=hS.grew hGr (by first | trivial | omega));(try replace hR:=hR.grew hGr (by first | trivial | omega));(try replace hS5:=hS5.grew hGr (by first | trivial | omega));replace hX:=hX.grown hGr hb5l
   clear hGr;replace hO5:=hO5.snoc;simp only[zz];refine aA (aC) ?_;simp only[zz];refine aG (hK29 _ _ ?_);refine wp_region_lit (aA (aB) (aA (gW rfl rfl (by omega) (lN (n:=65536) (by omega))) (aA (aC) ?_)));simp only[zz];refine aG (hK23 _ _ ?_);refine wp_region_lit (aA (aB) (aA (aP rfl rfl (aM (by omega) (by omega))) (aA (aC) ?_)));simp only[zz];refine aG ?_;obtain ⟨r1,r2⟩:=uA hlo hv hd hs4;rw [show ((i:Int) + 1) = ((i + 1 : Nat) : Int) by omega];simp only[Exit.inBlock,Exit.then];refine ⟨M + 1 - (i + 1),_,?_,rfl,?_,?_⟩
   · omega
   · simp only[zz,zv]
   ·
    simp only[zQ,zR,zD,zE];exact ⟨i + 1,s / 65536,os ++ [s % 65536],v5,rfl,hX,hS,hR,hS5,hO5,by simp;omega,r1,r2,by omega,by omega,fun h=>by rw [List.getElem?_eq_none (l:=xs) (by omega),List.getElem?_eq_none (l:=ys) (by omega)] at hs4;simp at hs4;omega,rfl⟩
  ·
   refine wp_region_lit (aA (aB) (aA (aB) (aA (aW rfl bW rfl) ?_)));simp only[zz];refine aA (eU rfl rfl (by omega)) (aA (aB) ?_);simp only[zz];refine bN rfl (aA (aB) ?_);simp only[zz];refine bN rfl (aA (aB) ?_);simp only[zz];refine bN rfl (aA (aW rfl bW rfl) ?_);simp only[zz];refine bN rfl (aA (eU rfl rfl (by omega)) (aA (fL rfl) (aA (aB) ?_)));simp only[zz];refine bN rfl (aA (aB) ?_);simp only[zz];refine bN rfl (aA (uN rfl rfl (by omega)) (aA (fL rfl) ?_));simp only[zz];refine aG (hK7 _ _ ?_);refine iO rfl (wp_exit ?_);refine hK4 _ _ (aD (fun K30 hK30=>wp_region_lit (aA (aB) (aA (aC) ?_))));simp only[zz];refine aG (hK30 _ _ ?_);refine wp_ret ?_;try simp only[Exit.inBlock,Exit.then]
   refine bO rfl rfl ?_;try simp only[zD,zE]
   (obtain ⟨A5,c5,rfl,hD,_⟩:=cX.of_owns hO5 rfl hd (by omega));exact ⟨_,rfl,hX,A5,c5,os,rfl,hD,by rw [List.take_of_length_le (by omega),List.take_of_length_le (by omega)] at hv;simpa using hv,by omega⟩
end Go.Proofs.YtfohfflkhpfjeaaGreatDoor
namespace Go.Proofs.YtfohfflkhpfjeaaGreatDoor
open Go.Proofs.Tryz
open Go.RowKit Go.Lith
set_option maxRecDepth 100000
attribute [local irreducible] wpList wpQuiet dY Code.wp
theorem Ty {A B : Option Addr} {xs ys : List Nat} {na nb ca cb : Nat} (w : World) (hS : cX w w.heap.size A na ca xs) (hR : cX w w.heap.size B nb cb ys) (hle : ys.length ≤ xs.length) (hge : val 65536 ys ≤ val 65536 xs) (hlx : xs.length ≤ 1000000000000) : eK prog 62 [.slice A na ca,.slice B nb cb] w (fun v w'=>rQ (val 65536 xs - val 65536 ys) v w' ∧ rX w v):=by
 skip
 refine ⟨afX,?_⟩;have hX:=dJ.refl w;obtain rfl:=hS.eq;obtain rfl:=hR.eq
 go_enter func62,ntmps62
 refine aD (fun K1 hK1=>wp_region_lit (aA (aC) ?_));simp only[zz];refine aG (hK1 _ _ ?_);refine aD (fun K2 hK2=>wp_region_lit (aA (aC) ?_));simp only[zz];obtain ⟨b5,hb5e,hb5l⟩:=hX.base;have hS5:=sQ.of hX hb5e;have hO5:=jA.nil_of hX b5 3 1;clear hb5e;refine aG (hK2 _ _ ?_);refine aD (fun K3 hK3=>wp_region_lit (aA (aC) ?_));simp only[zz];refine aG (hK3 _ _ ?_);refine aD (fun K4 hK4=>aD (fun K5 hK5=>wp_region_lit (aA (aC) ?_)));simp only[zz];refine aG (hK5 _ _ ?_);refine wp_block (bH [5,6,7] [8,9,10,11,12,13,14,15,16,17,18,19,20,21,22,23,24,25,26,27,28,29,30,31,32,33,34,35,36,37,38] (fun n vs wl=>∃ (i c : Nat) (os : List Nat) (v5 : Value),vs = [v5,.int .i64 (c:Int),.int .i64 (i:Int)] ∧ (dJ w wl) ∧ (cX wl w.heap.size A xs.length ca xs) ∧ (cX wl w.heap.size B ys.length cb ys) ∧ (sQ wl b5) ∧ (jA wl b5 3 1 v5 os.length (os.map pS)) ∧ (os.length = i) ∧ (val 65536 os + val 65536 (ys.take i) = val 65536 (xs.take i) + 65536 ^ i * c) ∧ (cY 65536 os) ∧ (c ≤ 1) ∧ (i ≤ xs.length) ∧ (n = xs.length - i)) ?_ ?_)
 ·
  apply Exists.intro;simp only[zQ,zR,zD,zE];exact ⟨0,0,[],_,rfl,hX,hS,hR,hS5,hO5,rfl,by simp [val],kQ _,by omega,by omega,rfl⟩
 ·
  intro n vs wr hI u;obtain ⟨i,c,os,v5,rfl,hX,hS,hR,hS5,hO5,hlo,hv,hd,hc,hi,hn⟩:=hI;simp only[zu,zF,zG];refine aD (fun K6 hK6=>aD (fun K7 hK7=>wp_region_lit (aA (aB) (aA (aB) (aA (aW rfl bW rfl) ?_)))));simp only[zz];refine aA (cE rfl rfl) ?_;simp only[zz];refine aG (hK7 _ _ ?_);refine bZ rfl (fun hc1=>?_) (fun hc1=>?_)
  ·
   refine wp_skip ?_;refine hK6 _ _ (aD (fun K8 hK8=>wp_block (aD (fun K9 hK9=>?_))));obtain ⟨a,rfl,hca,hla⟩:=hS.get (show i < xs.length by omega);have hyd : ys[i]?.getD 0 < 65536:=by
    rcases Nat.lt_or_ge i ys.length with h | h
    · rw [List.getElem?_eq_getElem h];exact hR.lt h
    · rw [List.getElem?_eq_none h];decide
   refine wp_region_lit (aA (aB) (aA (aB) (aA (aI bW bD rfl rfl (by omega) (by omega) (gM (Int.toNat_natCast _))) ?_)));simp only[zz];refine aK rfl (lies1 hca bT) ?_;simp only[zz];refine aA (aB) (aA (eR rfl rfl (aM (by omega) (by omega))) (aA (aC) ?_));simp only[zz];refine aG (hK9 _ _ ?_);refine aD (fun K10 hK10=>aD (fun K11 hK11=>wp_region_lit (aA (aB) (aA (aB) (aA (aW rfl bW rfl) ?_)))));simp only[zz];refine aA (cE rfl rfl) ?_;simp only[zz];refine aG (hK11 _ _ ?_);refine bZ rfl (fun hc2=>?_) (fun hc2=>?_)
   ·
    obtain ⟨a2,rfl,hcb,hlb⟩:=hR.get (show i < ys.length by omega);refine wp_region_lit (aA (aB) (aA (aB) (aA (aB) ?_)));simp only[zz];refine aA (aI bW bD rfl rfl (by omega) (by omega) (gM (Int.toNat_natCast _))) ?_;simp only[zz];refine aK rfl (lies1 hcb bT) ?_;simp only[zz];refine aA (eR rfl rfl (aM (by omega) (by omega))) (aA (aC) ?_);simp only[zz];refine aG ?_;obtain ⟨e,he⟩ : ∃ e : Int,e = (xs[i] : Int) - (c : Int) - (ys[i] : Int):=⟨_,rfl⟩
    rw [← he];have he2 : e = (xs[i] : Int) - (c : Int) - ((ys[i]?.getD 0 : Nat) : Int):=by rw [List.getElem?_eq_getElem (by omega)];exact he
    refine hK10 _ _ ?_;refine aD (fun K12 hK12=>wp_region_lit (aA (aC) ?_));simp only[zz];refine aG (hK12 _ _ ?_);refine aD (fun K13 hK13=>aD (fun K14 hK14=>wp_region_lit (aA (aB) (aA (cE rfl rfl) ?_))));simp only[zz];refine aG (hK14 _ _ ?_);refine bZ rfl (fun hc3=>?_) (fun hc3=>?_)
    ·
     obtain ⟨s,hs⟩ : ∃ s : Nat,(s : Int) = e + 65536:=⟨(e + 65536).toNat,by omega⟩
     have hs6 : s + ys[i]?.getD 0 + c = xs[i] + 65536 * 1:=by omega
     have hs7 : s < 65536:=by omega
     refine aD (fun K15 hK15=>wp_region_lit (aA (aB) (aA (Yc (aP rfl rfl (aM (by omega) (by omega))) (Yd hs.symm)) (aA (aC) ?_))));simp only[zz];refine aG (hK15 _ _ ?_);refine wp_region_lit (aA (aC) ?_);simp only[zz];refine aG (hK13 _ _ ?_);refine wp_region_lit (aA (aB) (aA (aB) ?_));simp only[zz];refine fG bW (z:=.int .i64 0) (by kernel_rfl) rfl (by simp only[zz];rfl) (by rfl) ?_;intro w1 g1 hE hg1 hB1;have hG1:=Nat.le_trans hX.size hg1
     (try replace hS:=hS.ext hE);(try replace hR:=hR.ext hE);(try replace hS5:=hS5.ext hE);(try replace hO5:=hO5.ext hE);replace hX:=hX.trans hE
     clear hE hg1;simp only[zz];refine fY rfl bW lE rfl (by decide) rfl hO5 rfl (news:=_) rfl hB1.row0 (by simp [Value.oneCell']) (by omega) (by omega) hS5.h ?_;clear hO5;intro v5 w2 hO5 hGr _
     (try replace hS:=hS.grew hGr (by first | trivial | omega));(try replace hR:=hR.grew hGr (by first | trivial | omega));(try replace hS5:=hS5.grew hGr (by first | trivial | omega));replace hX:=hX.grown hGr hb5l
     clear hGr;replace hO5:=hO5.snoc;simp only[zz];refine aA (aC) ?_;simp only[zz];refine aG (hK8 _ _ ?_);refine wp_region_lit (aA (aB) (aA (aP rfl rfl (aM (by omega) (by omega))) (aA (aC) ?_)));simp only[zz];refine aG ?_;obtain ⟨r1,r2⟩:=rD (by omega) hlo hv hd hs6 hs7;rw [show ((i:Int) + 1) = ((i + 1 : Nat) : Int) by omega];simp only[Exit.inBlock,Exit.then];refine ⟨xs.length - (i + 1),_,?_,rfl,?_,?_⟩
     · omega
     · simp only[zz,zv]
     ·
      simp only[zQ,zR,zD,zE];exact ⟨i + 1,1,os ++ [s],v5,rfl,hX,hS,hR,hS5,hO5,by simp;omega,r1,r2,by omega,by omega,rfl⟩
    ·
     obtain ⟨s,hs⟩ : ∃ s : Nat,(s : Int) = e:=⟨e.toNat,by omega⟩
     rw [← hs];have hs6 : s + ys[i]?.getD 0 + c = xs[i] + 65536 * 0:=by omega
     have hs7 : s < 65536:=by omega
     refine wp_skip ?_;refine hK13 _ _ (wp_region_lit (aA (aB) (aA (aB) ?_)));simp only[zz];refine fG bW (z:=.int .i64 0) (by kernel_rfl) rfl (by simp only[zz];rfl) (by rfl) ?_;intro w1 g1 hE hg1 hB1;have hG1:=Nat.le_trans hX.size hg1
     (try replace hS:=hS.ext hE);(try replace hR:=hR.ext hE);(try replace hS5:=hS5.ext hE);(try replace hO5:=hO5.ext hE);replace hX:=hX.trans hE
     clear hE hg1;simp only[zz];refine fY rfl bW lE rfl (by decide) rfl hO5 rfl (news:=_) rfl hB1.row0 (by simp [Value.oneCell']) (by omega) (by omega) hS5.h ?_;clear hO5;intro v5 w2 hO5 hGr _
     (try replace hS:=hS.grew hGr (by first | trivial | omega));(try replace hR:=hR.grew hGr (by first | trivial | omega));(try replace hS5:=hS5.grew hGr (by first | trivial | omega));replace hX:=hX.grown hGr hb5l
     clear hGr;replace hO5:=hO5.snoc;simp only[zz];refine aA (aC) ?_;simp only[zz];refine aG (hK8 _ _ ?_);refine wp_region_lit (aA (aB) (aA (aP rfl rfl (aM (by omega) (by omega))) (aA (aC) ?_)));simp only[zz];refine aG ?_;obtain ⟨r1,r2⟩:=rD (by omega) hlo hv hd hs6 hs7;rw [show ((i:Int) + 1) = ((i + 1 : Nat) : Int) by omega];simp only[Exit.inBlock,Exit.then];refine ⟨xs.length - (i + 1),_,?_,rfl,?_,?_⟩
     · omega
     · simp only[zz,zv]
     ·
      simp only[zQ,zR,zD,zE];exact ⟨i + 1,0,os ++ [s],v5,rfl,hX,hS,hR,hS5,hO5,by simp;omega,r1,r2,by omega,by omega,rfl⟩
   ·
    obtain ⟨e,he⟩ : ∃ e : Int,e = (xs[i] : Int) - (c : Int):=⟨_,rfl⟩
    rw [← he];have he2 : e = (xs[i] : Int) - (c : Int) - ((ys[i]?.getD 0 : Nat) : Int):=by rw [List.getElem?_eq_none (by omega)];simp only[Option.getD_none];omega
    refine wp_skip ?_;refine hK10 _ _ (aD (fun K16 hK16=>wp_region_lit (aA (aC) ?_)));simp only[zz];refine aG (hK16 _ _ ?_);refine aD (fun K17 hK17=>aD (fun K18 hK18=>wp_region_lit (aA (aB) (aA (cE rfl rfl) ?_))));simp only[zz];refine aG (hK18 _ _ ?_);refine bZ rfl (fun hc3=>?_) (fun hc3=>?_)
    ·
     obtain ⟨s,hs⟩ : ∃ s : Nat,(s : Int) = e + 65536:=⟨(e + 65536).toNat,by omega⟩
     have hs6 : s + ys[i]?.getD 0 + c = xs[i] + 65536 * 1:=by omega
     have hs7 : s < 65536:=by omega
     refine aD (fun K19 hK19=>wp_region_lit (aA (aB) (aA (Yc (aP rfl rfl (aM (by omega) (by omega))) (Yd hs.symm)) (aA (aC) ?_))));simp only[zz];refine aG (hK19 _ _ ?_);refine wp_region_lit (aA (aC) ?_);simp only[zz];refine aG (hK17 _ _ ?_);refine wp_region_lit (aA (aB) (aA (aB) ?_));simp only[zz];refine fG bW (z:=.int .i64 0) (by kernel_rfl) rfl (by simp only[zz];rfl) (by rfl) ?_;intro w1 g1 hE hg1 hB1;have hG1:=Nat.le_trans hX.size hg1
     (try replace hS:=hS.ext hE);(try replace hR:=hR.ext hE);(try replace hS5:=hS5.ext hE);(try replace hO5:=hO5.ext hE);replace hX:=hX.trans hE
     clear hE hg1;simp only[zz];refine fY rfl bW lE rfl (by decide) rfl hO5 rfl (news:=_) rfl hB1.row0 (by simp [Value.oneCell']) (by omega) (by omega) hS5.h ?_;clear hO5;intro v5 w2 hO5 hGr _
     (try replace hS:=hS.grew hGr (by first | trivial | omega));(try replace hR:=hR.grew hGr (by first | trivial | omega));(try replace hS5:=hS5.grew hGr (by first | trivial | omega));replace hX:=hX.grown hGr hb5l
     clear hGr;replace hO5:=hO5.snoc;simp only[zz];refine aA (aC) ?_;simp only[zz];refine aG (hK8 _ _ ?_);refine wp_region_lit (aA (aB) (aA (aP rfl rfl (aM (by omega) (by omega))) (aA (aC) ?_)));simp only[zz];refine aG ?_;obtain ⟨r1,r2⟩:=rD (by omega) hlo hv hd hs6 hs7;rw [show ((i:Int) + 1) = ((i + 1 : Nat) : Int) by omega];simp only[Exit.inBlock,Exit.then];refine ⟨xs.length - (i + 1),_,?_,rfl,?_,?_⟩
     · omega
     · simp only[zz,zv]
     ·
      simp only[zQ,zR,zD,zE];exact ⟨i + 1,1,os ++ [s],v5,rfl,hX,hS,hR,hS5,hO5,by simp;omega,r1,r2,by omega,by omega,rfl⟩
    ·
     obtain ⟨s,hs⟩ : ∃ s : Nat,(s : Int) = e:=⟨e.toNat,by omega⟩
     rw [← hs];have hs6 : s + ys[i]?.getD 0 + c = xs[i] + 65536 * 0:=by omega
     have hs7 : s < 65536:=by omega
     refine wp_skip ?_;refine hK17 _ _ (wp_region_lit (aA (aB) (aA (aB) ?_)));simp only[zz];refine fG bW (z:=.int .i64 0) (by kernel_rfl) rfl (by simp only[zz];rfl) (by rfl) ?_;intro w1 g1 hE hg1 hB1;have hG1:=Nat.le_trans hX.size hg1
     (try replace hS:=hS.ext hE);(try replace hR:=hR.ext hE);(try replace hS5:=hS5.ext hE);(try replace hO5:=hO5.ext hE);replace hX:=hX.trans hE
     clear hE hg1;simp only[zz];refine fY rfl bW lE rfl (by decide) rfl hO5 rfl (news:=_) rfl hB1.row0 (by simp [Value.oneCell']) (by omega) (by omega) hS5.h ?_;clear hO5;intro v5 w2 hO5 hGr _
     (try replace hS:=hS.grew hGr (by first | trivial | omega));(try replace hR:=hR.grew hGr (by first | trivial | omega));(try replace hS5:=hS5.grew hGr (by first | trivial | omega));replace hX:=hX.grown hGr hb5l
     clear hGr;replace hO5:=hO5.snoc;simp only[zz];refine aA (aC) ?_;simp only[zz];refine aG (hK8 _ _ ?_);refine wp_region_lit (aA (aB) (aA (aP rfl rfl (aM (by omega) (by omega))) (aA (aC) ?_)));simp only[zz];refine aG ?_;obtain ⟨r1,r2⟩:=rD (by omega) hlo hv hd hs6 hs7;rw [show ((i:Int) + 1) = ((i + 1 : Nat) : Int) by omega];simp only[Exit.inBlock,Exit.then];refine ⟨xs.length - (i + 1),_,?_,rfl,?_,?_⟩
     · omega
     · simp only[zz,zv]
     ·
      simp only[zQ,zR,zD,zE];exact ⟨i + 1,0,os ++ [s],v5,rfl,hX,hS,hR,hS5,hO5,by simp;omega,r1,r2,by omega,by omega,rfl⟩
  ·
   refine wp_exit ?_;refine hK4 _ _ (aD (fun K20 hK20=>?_));obtain rfl : i = xs.length:=by omega
   obtain ⟨A5,c5,rfl,hD,hbn⟩:=cX.of_owns hO5 rfl hd (by omega);refine wp_region_lit (aA (aB) ?_);simp only[zz];refine bA rfl rfl (oP _ hD) ?_;rintro v w1 hE rfl
   (try replace hD:=hD.ext hE);replace hX:=hX.trans hE
   clear hE;simp only[zz];refine aA (aC) ?_;simp only[zz];refine aG (hK20 _ _ ?_);refine wp_ret ?_;try simp only[Exit.inBlock,Exit.then]
   refine bO rfl rfl ?_;try simp only[zD,zE]
   exact ⟨_,rfl,hX,rQ.of_trim hD (Xa hle hlo hd hv hge),fun a n c e=>by cases e;exact Nat.le_trans hb5l (hbn _ rfl)⟩
theorem Ah {A B : Option Addr} {xs ys : List Nat} {na nb ca cb : Nat} (w : World) (hS : cX w w.heap.size A na ca xs) (hR : cX w w.heap.size B nb cb ys) (hlx : xs.length ≤ 1000000000000) (hly : ys.length ≤ 1000000000000) : eK prog 93 [.slice A na ca,.slice B nb cb] w (fun v w'=>rQ (val 65536 xs * val 65536 ys) v w' ∧ rX w v):=by
 skip
 refine ⟨agt,?_⟩;have hX:=dJ.refl w;obtain rfl:=hS.eq;obtain rfl:=hR.eq
 go_enter func93,ntmps93
 refine aD (fun K1 hK1=>wp_region_lit (aA (aC) ?_));simp only[zz];refine aG (hK1 _ _ ?_);refine aD (fun K2 hK2=>wp_region_lit (aA (aB) (aA (aW rfl bW rfl) (aA (aB) ?_))));simp only[zz];refine aA (aW rfl bW rfl) (aA (aP rfl rfl (aM (by omega) (by omega))) ?_);simp only[zz];refine jO bW lE rfl rfl rfl (show _ = xs.length + ys.length by omega) (show _ = xs.length + ys.length by omega) (by omega) (by omega) (by omega) (by omega) ?_;intro w1 g1 hE hg1 hB1;have hG1:=Nat.le_trans hX.size hg1
 (try replace hS:=hS.ext hE);(try replace hR:=hR.ext hE);replace hX:=hX.trans hE
 clear hE hg1;simp only[zz];refine aA (aC) ?_;simp only[zz];refine aG ?_;rw [mF] at hB1;refine hK2 _ _ (aD (fun K3 hK3=>aD (fun K4 hK4=>wp_region_lit (aA (aC) ?_))));simp only[zz];refine aG (hK4 _ _ ?_);refine wp_block (bH [6] [7,8,9,16,17,18,19,20,21,22,23,24,25,26,27,28,29,30,31,32,33,34,35,36,37,38,39,40,41,42,43,44,45,46,47,48,49,50,51,52,53,54,55,56,57,58,59,60,61] (fun n vs wl=>∃ (i : Nat) (os : List Nat),vs = [.int .i64 (i:Int)] ∧ (dJ w wl) ∧ (cX wl w.heap.size A xs.length ca xs) ∧ (cX wl w.heap.size B ys.length cb ys) ∧ (gJ wl g1 (os.map pS) 3) ∧ (i ≤ xs.length) ∧ (os.length = xs.length + ys.length) ∧ (val 65536 os = val 65536 (xs.take i) * val 65536 ys) ∧ (os.drop (i + ys.length) = List.replicate (xs.length - i) 0) ∧ (cY 65536 os) ∧ (n = xs.length - i)) ?_ ?_)
 ·
  apply Exists.intro;simp only[zQ,zR,zD,zE];exact ⟨0,List.replicate (xs.length + ys.length) 0,rfl,hX,hS,hR,hB1,by omega,by simp,by rw [eX,List.take_zero];simp only[val,Nat.zero_mul],by rw [List.drop_replicate];congr 1;omega,fun x hx=>by rw [List.eq_of_mem_replicate hx];decide,rfl⟩
 ·
  intro n vs wr hI u;obtain ⟨i,os,rfl,hX,hS,hR,hB1,hi,hlo,hv,hz,hd,hn⟩:=hI;simp only[zu,zF,zG];refine aD (fun K5 hK5=>aD (fun K6 hK6=>wp_region_lit (aA (aB) (aA (aB) (aA (aW rfl bW rfl) ?_)))));simp only[zz];refine aA (cE rfl rfl) ?_;simp only[zz];refine aG (hK6 _ _ ?_);refine bZ rfl (fun hc1=>?_) (fun hc1=>?_)
  ·
   refine wp_skip ?_;refine hK5 _ _ (aD (fun K7 hK7=>wp_block (aD (fun K8 hK8=>wp_region_lit (aA (aC) ?_)))));simp only[zz];refine aG (hK8 _ _ ?_);refine aD (fun K9 hK9=>aD (fun K10 hK10=>wp_region_lit (aA (aC) ?_)));simp only[zz];refine aG (hK10 _ _ ?_);refine wp_block (bH [7,8] [9,22,23,24,25,26,27,28,29,30,31,32,33,34,35,36,37,38,39,40,41,42,43,44,45,46,47,48,49,50,51,52,53,54] (fun n vs wl=>∃ (k c : Nat) (os : List Nat),vs = [.int .i64 (c:Int),.int .i64 (k:Int)] ∧ (dJ w wl) ∧ (cX wl w.heap.size A xs.length ca xs) ∧ (cX wl w.heap.size B ys.length cb ys) ∧ (gJ wl g1 (os.map pS) 3) ∧ (k ≤ ys.length) ∧ (os.length = xs.length + ys.length) ∧ (val 65536 os + 65536 ^ (i + k) * c = val 65536 (xs.take i) * val 65536 ys + 65536 ^ i * (xs[i] * val 65536 (ys.take k))) ∧ (os.drop (i + ys.length) = List.replicate (xs.length - i) 0) ∧ (cY 65536 os) ∧ (c < 65536) ∧ (n = ys.length - k)) ?_ ?_)
   ·
    apply Exists.intro;simp only[zQ,zR,zD,zE];exact ⟨0,0,os,rfl,hX,hS,hR,hB1,by omega,hlo,by rw [List.take_zero,hv];simp only[val,Nat.mul_zero],hz,hd,by omega,rfl⟩
   ·
    intro n vs wr hI u;obtain ⟨k,c,os,rfl,hX,hS,hR,hB1,hk,hlo,hv2,hz,hd,hc,hn2⟩:=hI;simp only[zu,zF,zG];refine aD (fun K11 hK11=>aD (fun K12 hK12=>wp_region_lit (aA (aB) (aA (aB) (aA (aW rfl bW rfl) ?_)))));simp only[zz];refine aA (cE rfl rfl) ?_;simp only[zz];refine aG (hK12 _ _ ?_);refine bZ rfl (fun hc2=>?_) (fun hc2=>?_)
    ·
     refine wp_skip ?_;refine hK11 _ _ (aD (fun K13 hK13=>wp_block (aD (fun K14 hK14=>?_))));obtain ⟨a,rfl,hca,hla⟩:=hS.get (show i < xs.length by omega);obtain ⟨a2,rfl,hcb,hlb⟩:=hR.get (show k < ys.length by omega);have hco:=hB1.digit (show i + k < os.length by omega);have hlo2:=hd.get (List.getElem?_eq_getElem (show i + k < os.length by omega));obtain ⟨hm0,hm1⟩:=Xc hla hlb;refine iV aO (by kernel_rfl) (aL (aB) (aL (aB) (aL (aB) ?_)));simp only[zz];refine aL (aP rfl rfl (aM (by omega) (by omega))) (aL (aI bW bD rfl rfl (by omega) (by omega) (fE (show _ = i + k by omega))) ?_);simp only[zz];refine iZ rfl (fun _ hE'=>(lies1 (hE'.cell hco) bT)) ?_;simp only[zz];refine aL (aB) (aL (aB) (aL (aI bW bD rfl rfl (by omega) (by omega) (gM (Int.toNat_natCast _))) ?_));simp only[zz];refine iZ rfl (fun _ hE'=>(lies1 (hE'.cell hca) bT)) ?_;simp only[zz];refine aL (aB) (aL (aB) (aL (aI bW bD rfl rfl (by omega) (by omega) (gM (Int.toNat_natCast _))) ?_));simp only[zz];refine iZ rfl (fun _ hE'=>(lies1 (hE'.cell hcb) bT)) ?_;simp only[zz];refine aL (fJ rfl rfl (aM (by omega) (by omega))) (aL (aP rfl rfl (aM (by omega) (by omega))) (aL (aB) ?_));simp only[zz];refine aL (aP rfl rfl (aM (by omega) (by omega))) (aL (aC) ?_);simp only[zz];refine dK ?_;intro w2 hE;replace hB1:=hB1.ext hE;(try replace hS:=hS.ext hE);(try replace hR:=hR.ext hE);replace hX:=hX.trans hE;clear hE;obtain ⟨s,hs⟩ : ∃ s,s = os[i + k] + xs[i] * ys[k] + c:=⟨_,rfl⟩
     have hsI : (↑os[i + k] + ↑xs[i] * ↑ys[k] + ↑c : Int) = (s : Int):=by rw [hs];simp
     rw [hsI];have hs64 : s < 4294967296:=by have:=Oy hla hlb;omega
     refine hK14 _ _ ?_;refine aD (fun K15 hK15=>wp_region_lit (aA (aB) (aA (aB) (aA (aB) ?_))));simp only[zz];refine aA (aP rfl rfl (aM (by omega) (by omega))) (aA (aB) (aA (dG rfl rfl (by omega) (lM (n:=65536))) ?_));simp only[zz];refine aA (aI bW bD rfl rfl (by omega) (by omega) (fE (show _ = i + k by omega))) ?_;simp only[zz];refine cZ rfl (by simp only[zz];rfl) (by exact bD) hB1 (by simp;omega) (by simp [Value.oneCell']) ?_;clear hB1;intro w3 hC hB1
     (try replace hS:=hS.chg hC (by first | assumption | rfl));(try replace hR:=hR.chg hC (by first | assumption | rfl));replace hX:=hX.chg hC hG1
     clear hC;rw [Ac (by omega)] at hB1;refine aG (hK15 _ _ ?_);refine wp_region_lit (aA (aB) (aA (gW rfl rfl (by omega) (lN (n:=65536) (by omega))) (aA (aC) ?_)));simp only[zz];refine aG (hK13 _ _ ?_);refine wp_region_lit (aA (aB) (aA (aP rfl rfl (aM (by omega) (by omega))) (aA (aC) ?_)));simp only[zz];refine aG ?_;have r1:=Ox (by omega) (by omega) hlo hv2 hs;rw [show ((k:Int) + 1) = ((k + 1 : Nat) : Int) by omega];simp only[Exit.inBlock,Exit.then];refine ⟨ys.length - (k + 1),_,?_,rfl,?_,?_⟩
     · omega
     · simp only[zz,zv]
     ·
      simp only[zQ,zR,zD,zE];exact ⟨k + 1,s / 65536,os.set (i + k) (s % 65536),rfl,hX,hS,hR,hB1,by omega,by simpa using hlo,r1,by rw [oX (by omega)];exact hz,hd.set (by omega),by omega,rfl⟩
    ·
     refine wp_exit ?_;refine hK9 _ _ ?_;obtain rfl : k = ys.length:=by omega
     refine wp_region_lit (aA (aB) (aA (aB) (aA (aB) ?_)));simp only[zz];refine aA (aW rfl bW rfl) (aA (aP rfl rfl (aM (by omega) (by omega))) (aA (aB) ?_));simp only[zz];refine aA (aI bW bD rfl rfl (by omega) (by omega) (fE (show _ = i + ys.length by omega))) ?_;simp only[zz];refine cZ rfl (by simp only[zz];rfl) (by exact bD) hB1 (by simp;omega) (by simp [Value.oneCell']) ?_;clear hB1;intro w2 hC hB1
     (try replace hS:=hS.chg hC (by first | assumption | rfl));(try replace hR:=hR.chg hC (by first | assumption | rfl));replace hX:=hX.chg hC hG1
     clear hC;rw [Ac (by omega)] at hB1;refine aG (hK7 _ _ ?_);refine wp_region_lit (aA (aB) (aA (aP rfl rfl (aM (by omega) (by omega))) (aA (aC) ?_)));simp only[zz];refine aG ?_;obtain ⟨r1,r2⟩:=Xb (by omega) hlo hv2 hz;rw [show ((i:Int) + 1) = ((i + 1 : Nat) : Int) by omega];simp only[Exit.inBlock,Exit.then];refine ⟨xs.length - (i + 1),_,?_,rfl,?_,?_⟩
     · omega
     · simp only[zz,zv]
     ·
      simp only[zQ,zR,zD,zE];exact ⟨i + 1,os.set (i + ys.length) c,rfl,hX,hS,hR,hB1,by omega,by simpa using hlo,r1,r2,hd.set (by omega),rfl⟩
  ·
   refine wp_exit ?_;refine hK3 _ _ (aD (fun K16 hK16=>?_));obtain rfl : i = xs.length:=by omega
   refine wp_region_lit (aA (aB) ?_);simp only[zz];rw [← hlo];refine bA rfl rfl (oP _ (cX.of_blk hB1 hd rfl (by omega))) ?_;rintro v w2 hE rfl;replace hB1:=hB1.ext hE;replace hX:=hX.trans hE;clear hE;simp only[zz];refine aA (aC) ?_;simp only[zz];refine aG (hK16 _ _ ?_);refine wp_ret ?_;try simp only[Exit.inBlock,Exit.then]
   refine bO rfl rfl ?_;try simp only[zD,zE]
   exact ⟨_,rfl,hX,rQ.of_trim (cX.of_blk hB1 hd rfl (by omega)) (by rw [hv,List.take_length]),fun a n c e=>by cases e;exact hG1⟩
end Go.Proofs.YtfohfflkhpfjeaaGreatDoor
namespace Go.Proofs.YtfohfflkhpfjeaaGreatDoor
open Go.Proofs.Tryz
open Go.RowKit Go.Lith
set_option maxRecDepth 100000
attribute [local irreducible] wpList wpQuiet dY Code.wp
end Go.Proofs.YtfohfflkhpfjeaaGreatDoor
namespace Go.Proofs.YtfohfflkhpfjeaaGreatDoor
open Go.Proofs.Tryz
open Go.RowKit Go.Lith
set_option maxRecDepth 100000
attribute [local irreducible] wpList wpQuiet dY Code.wp
theorem pF {neg : Bool} {s : ByteArray} (w : World) (hs : s.size ≤ 1000000000000) : eK prog 58 [.agg #[.bool neg,.string s]] w (rQ (abS s)):=by
 skip
 refine ⟨afT,?_⟩;have hX:=dJ.refl w;have hbl:=rJ s;have hbd:=Bx s
 go_enter func58,ntmps58
 refine aD (fun K1 hK1=>wp_region_lit ?_);refine lB (by simp only[zz];rfl) ?_;intro w1 g1 hE hg1 hB1;have hG1:=Nat.le_trans hX.size hg1;replace hX:=hX.trans hE;clear hE hg1;simp only[zz];refine aA (aC) ?_;simp only[zz];refine aG (hK1 _ _ ?_);refine aD (fun K2 hK2=>wp_region_lit (aA (aC) ?_));simp only[zz];obtain ⟨b3,hb3e,hb3l⟩:=hX.base;have hS3:=sQ.of hX hb3e;have hO3:=jA.nil_of hX b3 3 1;have hl3_1 : g1 < b3:=by rw [hb3e];exact hB1.lt
 clear hb3e;refine aG (hK2 _ _ ?_);refine aD (fun K3 hK3=>wp_region_lit (aA (aN (c:=0) gN rfl rA rfl rfl) ?_));simp only[zz];refine aK rfl (hB1.lies1 yN rfl) ?_;simp only[zz];refine aA (qB rfl qU rfl) (aA (aC) ?_);simp only[zz];refine aG (hK3 _ _ ?_);refine aD (fun K4 hK4=>aD (fun K5 hK5=>wp_region_lit (aA (aB) (aA (aC) ?_))));simp only[zz];refine aG (hK5 _ _ ?_);refine wp_block (bH [3,5] [6,11,12,13,14,15,16,17,18,19,20,21,22,23,24,25,26,27,28,29,30,31,32,33,34,35] (fun n vs wl=>∃ (k : Nat) (os : List Nat) (v3 : Value),vs = [v3,.int .i64 ((s.size : Int) - 2 * (k : Int))] ∧ (dJ w wl) ∧ (gJ wl g1 [.bool neg,.string s] 65) ∧ (sQ wl b3) ∧ (jA wl b3 3 1 v3 os.length (os.map pS)) ∧ (os.length = k) ∧ (val 65536 os = val 256 ((mL s).take (2 * k))) ∧ (cY 65536 os) ∧ (2 * k ≤ s.size + 1) ∧ (n = s.size - 2 * k)) ?_ ?_)
 ·
  rw [show ((s.size : Int)) = (s.size : Int) - 2 * ((0 : Nat) : Int) by omega];apply Exists.intro;simp only[zQ,zR,zD,zE];exact ⟨0,[],_,rfl,hX,hB1,hS3,hO3,rfl,by simp [val],kQ _,by omega,rfl⟩
 ·
  intro n vs wr hI u;obtain ⟨k,os,v3,rfl,hX,hB1,hS3,hO3,hlo,hv,hd,hk,hn⟩:=hI;simp only[zu,zF,zG];refine aD (fun K6 hK6=>aD (fun K7 hK7=>wp_region_lit (aA (aB) (aA (oU rfl rfl) ?_))));simp only[zz];refine aG (hK7 _ _ ?_);refine bZ rfl (fun hc1=>?_) (fun hc1=>?_)
  ·
   refine wp_skip ?_;refine hK6 _ _ (aD (fun K8 hK8=>wp_block (aD (fun K9 hK9=>?_))));obtain ⟨y1,hb1,hp1,hy1⟩:=xE (show 2 * k + 1 + (s.size - 2 * k - 1) = s.size by omega);have hy1l : y1.toNat < 256:=y1.toNat_lt;refine wp_region_lit (aA (aN (c:=0) gN rfl rA rfl rfl) ?_);simp only[zz];refine aK rfl (hB1.lies1 yN rfl) ?_;simp only[zz];refine aA (aB) (aA (eR rfl rfl (aM (by omega) (by omega))) ?_);simp only[zz];refine aA ((nY qU rfl rfl (by omega) (by rw [show ((s.size : Int) - 2 * (k : Int) - 1).toNat = s.size - 2 * k - 1 by omega];exact hb1))) ?_;simp only[zz];refine aA (jU jC Hm rfl (aM (by omega) (by omega))) (aA (aC) ?_);simp only[zz];refine aG (hK9 _ _ ?_);refine aD (fun K10 hK10=>aD (fun K11 hK11=>wp_region_lit (aA (aB) (aA (oU rfl rfl) ?_))));simp only[zz];refine aG (hK11 _ _ ?_);refine bZ rfl (fun hc2=>?_) (fun hc2=>?_)
   ·
    obtain ⟨y2,hb2,hp2,hy2⟩:=xE (show 2 * k + 1 + 1 + (s.size - 2 * k - 2) = s.size by omega);have hy2l : y2.toNat < 256:=y2.toNat_lt;refine wp_region_lit (aA (aB) (aA (aN (c:=0) gN rfl rA rfl rfl) ?_));simp only[zz];refine aK rfl (hB1.lies1 yN rfl) ?_;simp only[zz];refine aA (aB) (aA (eR rfl rfl (aM (by omega) (by omega))) ?_);simp only[zz];refine aA ((nY qU rfl rfl (by omega) (by rw [show ((s.size : Int) - 2 * (k : Int) - 2).toNat = s.size - 2 * k - 2 by omega];exact hb2))) ?_;simp only[zz];refine aA (jU jC Hm rfl (aM (by omega) (by omega))) (aA (fJ rfl rfl (aM (by omega) (by omega))) (aA (aP rfl rfl (aM (by omega) (by omega))) ?_));simp only[zz];refine aA (aC) ?_;simp only[zz];refine aG ?_;obtain ⟨d,hd1⟩ : ∃ d : Nat,d = y1.toNat + 256 * y2.toNat:=⟨_,rfl⟩
    rw [show ((y1.toNat : Int) + 256 * (y2.toNat : Int)) = (d : Int) by omega];have hd2 : d = (mL s)[2 * k] + 256 * ((mL s)[2 * k + 1]?.getD 0):=by rw [List.getElem?_eq_getElem hp2,hy1];simp only[Option.getD_some];rw [hy2];exact hd1
    refine hK10 _ _ ?_;refine wp_region_lit (aA (aB) (aA (aB) ?_));simp only[zz];refine fG bW (z:=.int .i64 0) (by kernel_rfl) rfl (by simp only[zz];rfl) (by rfl) ?_;intro w2 g2 hE hg2 hB2;have hG2:=Nat.le_trans hX.size hg2;have hN2_1 : g2 ≠ g1:=Nat.ne_of_gt (Nat.lt_of_lt_of_le hB1.lt hg2);replace hB1:=hB1.ext hE;(try replace hS3:=hS3.ext hE);(try replace hO3:=hO3.ext hE);replace hX:=hX.trans hE;clear hE hg2;simp only[zz];refine fY rfl bW lE rfl (by decide) rfl hO3 rfl (news:=_) rfl hB2.row0 (by simp [Value.oneCell']) (by omega) (by omega) hS3.h ?_;clear hO3;intro v3 w3 hO3 hGr _;replace hB1:=hB1.grew hGr hl3_1;(try replace hS3:=hS3.grew hGr (by first | trivial | omega));replace hX:=hX.grown hGr hb3l;clear hGr;replace hO3:=hO3.snoc;simp only[zz];refine aA (aC) ?_;simp only[zz];refine aG (hK8 _ _ ?_);refine wp_region_lit (aA (aB) (aA (eR rfl rfl (aM (by omega) (by omega))) (aA (aC) ?_)));simp only[zz];refine aG ?_;obtain ⟨r1,r2⟩:=Ae hlo hv (by omega) hd2 hbd hd;rw [show ((s.size : Int) - 2 * (k : Int) - 2) = (s.size : Int) - 2 * ((k + 1 : Nat) : Int) by omega];simp only[Exit.inBlock,Exit.then];refine ⟨s.size - 2 * (k + 1),_,?_,rfl,?_,?_⟩
    · omega
    · simp only[zz,zv]
    ·
     simp only[zQ,zR,zD,zE];exact ⟨k + 1,os ++ [d],v3,rfl,hX,hB1,hS3,hO3,by simp;omega,r1,r2,by omega,rfl⟩
   ·
    obtain ⟨d,hd1⟩ : ∃ d : Nat,d = y1.toNat:=⟨_,rfl⟩
    rw [← hd1];have hd2 : d = (mL s)[2 * k] + 256 * ((mL s)[2 * k + 1]?.getD 0):=by rw [List.getElem?_eq_none (by omega),hy1];simp only[Option.getD_none];omega
    refine wp_skip ?_;refine hK10 _ _ (wp_region_lit (aA (aB) (aA (aB) ?_)));simp only[zz];refine fG bW (z:=.int .i64 0) (by kernel_rfl) rfl (by simp only[zz];rfl) (by rfl) ?_;intro w2 g2 hE hg2 hB2;have hG2:=Nat.le_trans hX.size hg2;have hN2_1 : g2 ≠ g1:=Nat.ne_of_gt (Nat.lt_of_lt_of_le hB1.lt hg2);replace hB1:=hB1.ext hE;(try replace hS3:=hS3.ext hE);(try replace hO3:=hO3.ext hE);replace hX:=hX.trans hE;clear hE hg2;simp only[zz];refine fY rfl bW lE rfl (by decide) rfl hO3 rfl (news:=_) rfl hB2.row0 (by simp [Value.oneCell']) (by omega) (by omega) hS3.h ?_;clear hO3;intro v3 w3 hO3 hGr _;replace hB1:=hB1.grew hGr hl3_1;(try replace hS3:=hS3.grew hGr (by first | trivial | omega));replace hX:=hX.grown hGr hb3l;clear hGr;replace hO3:=hO3.snoc;simp only[zz];refine aA (aC) ?_;simp only[zz];refine aG (hK8 _ _ ?_);refine wp_region_lit (aA (aB) (aA (eR rfl rfl (aM (by omega) (by omega))) (aA (aC) ?_)));simp only[zz];refine aG ?_;obtain ⟨r1,r2⟩:=Ae hlo hv (by omega) hd2 hbd hd;rw [show ((s.size : Int) - 2 * (k : Int) - 2) = (s.size : Int) - 2 * ((k + 1 : Nat) : Int) by omega];simp only[Exit.inBlock,Exit.then];refine ⟨s.size - 2 * (k + 1),_,?_,rfl,?_,?_⟩
    · omega
    · simp only[zz,zv]
    ·
     simp only[zQ,zR,zD,zE];exact ⟨k + 1,os ++ [d],v3,rfl,hX,hB1,hS3,hO3,by simp;omega,r1,r2,by omega,rfl⟩
  ·
   refine wp_exit ?_;refine hK4 _ _ (aD (fun K12 hK12=>?_));obtain ⟨A3,c3,rfl,hD,_⟩:=cX.of_owns hO3 rfl hd (by omega);refine wp_region_lit (aA (aB) ?_);simp only[zz];refine bA rfl rfl (oP _ hD) ?_;rintro v w2 hE rfl
   (try replace hD:=hD.ext hE);replace hX:=hX.trans hE
   clear hE;simp only[zz];refine aA (aC) ?_;simp only[zz];refine aG (hK12 _ _ ?_);refine wp_ret ?_;try simp only[Exit.inBlock,Exit.then]
   refine bO rfl rfl ?_;try simp only[zD,zE]
   exact ⟨_,rfl,hX,rQ.of_trim hD (by rw [hv,List.take_of_length_le (by omega)];rfl)⟩
theorem rF {A : Option Addr} {xs : List Nat} {b na cap : Nat} {neg : Bool} (w : World) (hS : cX w b A na cap xs) (hl : xs.length ≤ 100000000000) : eK prog 59 [.bool neg,.slice A na cap] w (fun v _=>v = W (Hd neg (val 65536 xs))):=by
 skip
 refine ⟨afU,?_⟩;have hX:=dJ.refl w;obtain rfl:=hS.eq;have hlt:=jB xs;have hT : cX w w.heap.size A (trim xs).length cap (trim xs):=by
  have h:=(hS.take (trim xs).length).here;rwa [← gY] at h
 have htr:=kH xs;have hvx:=jP 65536 xs;obtain ⟨ys,hys⟩ : ∃ ys,ys = trim xs:=⟨_,rfl⟩
 rw [← hys] at hT htr hlt hvx;have hyd:=hT.digs;have h2l:=Xd ys
 go_enter func59,ntmps59
 refine aD (fun K1 hK1=>wp_region_lit ?_);refine jW fC rfl ?_;intro w1 g1 hE hg1 hB1;have hG1:=Nat.le_trans hX.size hg1
 (try replace hT:=hT.ext hE);replace hX:=hX.trans hE
 clear hE hg1;simp only[zz];refine aG (hK1 _ _ ?_);refine aD (fun K2 hK2=>wp_region_lit (aA (aB) ?_));simp only[zz];refine bA rfl rfl (oP _ (hS.ext hX)) ?_;rintro v w2 hE rfl;replace hB1:=hB1.ext hE;(try replace hT:=hT.ext hE);replace hX:=hX.trans hE;clear hE;rw [← hys];clear hys;simp only[zz];refine aA (aC) ?_;simp only[zz];refine aG (hK2 _ _ ?_);refine aD (fun K3 hK3=>aD (fun K4 hK4=>?_));by_cases hy0 : ys = []
 ·
  subst hy0;refine wp_region_lit (aA (aB) (aA (aW rfl bW rfl) (aA (sY rfl rfl (by rfl)) ?_)));simp only[zz];refine aG (hK4 _ _ ?_);refine cG rfl (aD (fun K5 hK5=>wp_region_lit (aA (Cc) ?_)));simp only[zz];refine cZ rfl (by simp only[zz];rfl) (by exact aR) hB1 (by simp) (by simp [Value.oneCell']) ?_;clear hB1;intro w3 hC hB1;replace hX:=hX.chg hC hG1;clear hC;simp only[zy,zx,bG,Nat.reduceAdd] at hB1;refine aG (hK5 _ _ ?_);refine wp_ret ?_;try simp only[Exit.inBlock,Exit.then]
  refine bO rfl ⟨_,rfl,(hB1.lies bY aR rfl rfl)⟩ ?_;try simp only[zD,zE]
  exact ⟨_,rfl,hX,by rw [← hvx];cases neg <;> rfl⟩
 ·
  have hyl : 0 < ys.length:=List.length_pos_iff.2 hy0;have htop:=uO htr hyl;refine wp_region_lit (aA (aB) (aA (aW rfl bW rfl) (aA (Qd rfl rfl (by omega)) ?_)));simp only[zz];refine aG (hK4 _ _ ?_);refine iO rfl (wp_skip ?_);refine hK3 _ _ (aD (fun K6 hK6=>wp_region_lit (aA (aC) ?_)));simp only[zz];obtain ⟨b5,hb5e,hb5l⟩:=hX.base;have hS5:=sQ.of hX hb5e;have hO5:=jA.nil_of hX b5 5 1;have hl5_1 : g1 < b5:=by rw [hb5e];exact hB1.lt
  clear hb5e;refine aG (hK6 _ _ ?_);refine aD (fun K7 hK7=>aD (fun K8 hK8=>wp_region_lit (aA (aB) (aA (aW rfl bW rfl) (aA (eR rfl rfl (aM (by omega) (by omega))) ?_)))));simp only[zz];refine aA (aC) ?_;simp only[zz];refine aG (hK8 _ _ ?_);refine wp_block (bH [5,6] [16,17,18,19,20,21,22,23,24,25,26,27,28,29,30,31,32,33,34,35,36,37,38,39,40,41,42,43,44,45,46,47,48,49] (fun n vs wl=>∃ (k : Nat) (os : List UInt8) (v5 : Value),vs = [v5,.int .i64 ((k:Int) - 1)] ∧ (dJ w wl) ∧ (gJ wl g1 [.bool false,.string ⟨#[]⟩] 65) ∧ (cX wl w.heap.size A ys.length cap ys) ∧ (sQ wl b5) ∧ (jA wl b5 5 1 v5 os.length (os.map u8v)) ∧ (os = mG ys k) ∧ (k ≤ ys.length) ∧ (k < ys.length → mG ys k ≠ []) ∧ (os.length ≤ 2 * ys.length) ∧ (n = k)) ?_ ?_)
  ·
   apply Exists.intro;simp only[zQ,zR,zD,zE];exact ⟨ys.length,[],_,rfl,hX,hB1,hT,hS5,hO5,(Jl ys).symm,by omega,fun h=>absurd h (by omega),by simp,rfl⟩
  ·
   intro n vs wr hI u;obtain ⟨k,os,v5,rfl,hX,hB1,hT,hS5,hO5,hos,hk,hne,hosl,hn⟩:=hI;simp only[zu,zF,zG];refine aD (fun K9 hK9=>aD (fun K10 hK10=>wp_region_lit (aA (aB) (aA (pM rfl rfl) ?_))));simp only[zz];refine aG (hK10 _ _ ?_);refine bZ rfl (fun hc2=>?_) (fun hc2=>?_)
   ·
    refine wp_skip ?_;refine hK9 _ _ (aD (fun K11 hK11=>wp_block (aD (fun K12 hK12=>aD (fun K13 hK13=>?_)))));obtain ⟨a,rfl,hca,hla⟩:=hT.get (show k - 1 < ys.length by omega);rcases (show k < ys.length ∨ k = ys.length by omega) with hkl | hkl
    ·
     obtain ⟨r1,r2⟩:=Sf (show 0 < k by omega) (by omega) (hne hkl);refine wp_region_lit (aA (aB) (aA (aB) (aA (aW rfl bW rfl) ?_)));simp only[zz];refine aA (eR rfl rfl (aM (by omega) (by omega))) (aA (bX rfl rfl (by omega)) (aA (aB) ?_));simp only[zz];refine fV rfl ?_;simp only[zz];refine fV rfl ?_;simp only[zz];refine fV rfl ?_;simp only[zz];refine fV rfl ?_;simp only[zz];refine fV rfl ?_;simp only[zz];refine aA (fA rfl) ?_;simp only[zz];refine aG (hK13 _ _ ?_);refine cG rfl ?_;have hca:=hT.at (show k - 1 < ys.length by omega);refine wp_region_lit (aA (aB) (aA (aB) (aA (aB) ?_)));simp only[zz];refine aA (aI bW bD rfl rfl (by omega) (by omega) (gM (show _ = k - 1 by omega))) ?_;simp only[zz];refine aK rfl (lies1 hca bT) ?_;simp only[zz];refine aA (gW rfl rfl (by omega) (lN (n:=256) (by omega))) (aA (jU Hm jC rfl (vR (by omega))) ?_);simp only[zz];refine fG mN (z:=.int .u8 0) (by kernel_rfl) rfl (by simp only[zz];rfl) (by rfl) ?_;intro w3 g2 hE hg2 hB2;have hG2:=Nat.le_trans hX.size hg2;have hN2_1 : g2 ≠ g1:=Nat.ne_of_gt (Nat.lt_of_lt_of_le hB1.lt hg2);replace hB1:=hB1.ext hE;(try replace hT:=hT.ext hE);(try replace hS5:=hS5.ext hE);(try replace hO5:=hO5.ext hE);replace hX:=hX.trans hE;clear hE hg2;simp only[zz];refine fY rfl mN Io rfl (by decide) rfl hO5 rfl (news:=_) rfl hB2.row0 (by simp [Value.oneCell']) (by omega) (by omega) hS5.h ?_;clear hO5;intro v5 w4 hO5 hGr _;replace hB1:=hB1.grew hGr hl5_1;(try replace hT:=hT.grew hGr (by first | trivial | omega));(try replace hS5:=hS5.grew hGr (by first | trivial | omega));replace hX:=hX.grown hGr hb5l;clear hGr;replace hO5:=hO5.snoc8 (by omega);simp only[zz];refine aA (aC) ?_;simp only[zz];refine aG (hK12 _ _ ?_);have hca:=hT.at (show k - 1 < ys.length by omega);refine wp_region_lit (aA (aB) (aA (aB) (aA (aB) ?_)));simp only[zz];refine aA (aI bW bD rfl rfl (by omega) (by omega) (gM (show _ = k - 1 by omega))) ?_;simp only[zz];refine aK rfl (lies1 hca bT) ?_;simp only[zz];refine aA (dG rfl rfl (by omega) (lM (n:=256))) (aA (jU Hm jC rfl (vR (by omega))) ?_);simp only[zz];refine fG mN (z:=.int .u8 0) (by kernel_rfl) rfl (by simp only[zz];rfl) (by rfl) ?_;intro w5 g3 hE hg3 hB3;have hG3:=Nat.le_trans hX.size hg3;have hN3_1 : g3 ≠ g1:=Nat.ne_of_gt (Nat.lt_of_lt_of_le hB1.lt hg3);replace hB1:=hB1.ext hE;(try replace hT:=hT.ext hE);(try replace hS5:=hS5.ext hE);(try replace hO5:=hO5.ext hE);replace hX:=hX.trans hE;clear hE hg3;simp only[zz];refine fY rfl mN Io rfl (by decide) rfl hO5 rfl (news:=_) rfl hB3.row0 (by simp [Value.oneCell']) (by first | omega | (simp;omega)) (by first | omega | (simp;omega)) hS5.h ?_;clear hO5;intro v5 w6 hO5 hGr _;replace hB1:=hB1.grew hGr hl5_1;(try replace hT:=hT.grew hGr (by first | trivial | omega));(try replace hS5:=hS5.grew hGr (by first | trivial | omega));replace hX:=hX.grown hGr hb5l;clear hGr;replace hO5:=hO5.snoc8 (by omega);simp only[zz];refine aA (aC) ?_;simp only[zz];refine aG (hK11 _ _ ?_);refine wp_region_lit (aA (aB) (aA (eR rfl rfl (aM (by omega) (by omega))) (aA (aC) ?_)));simp only[zz];refine aG ?_;have hos2 : os ++ [UInt8.ofNat (ys[k - 1] / 256)] ++ [UInt8.ofNat (ys[k - 1] % 256)] = mG ys (k - 1):=by rw [r1,hos]
     rw [show ((k:Int) - 1 - 1) = ((k - 1 : Nat) : Int) - 1 by omega];simp only[Exit.inBlock,Exit.then];refine ⟨k - 1,_,?_,rfl,?_,?_⟩
     · omega
     · simp only[zz,zv]
     ·
      simp only[zQ,zR,zD,zE];exact ⟨k - 1,os ++ [UInt8.ofNat (ys[k - 1] / 256)] ++ [UInt8.ofNat (ys[k - 1] % 256)],v5,rfl,hX,hB1,hT,hS5,hO5,hos2,by omega,fun _=>r2,by rw [hos2];exact h2l _,rfl⟩
    ·
     subst hkl;obtain ⟨f1,f2⟩:=Pb (by omega) htop hla;have hos0 : os = []:=by rw [hos];exact Jl ys
     refine wp_region_lit (aA (aB) (aA (aB) (aA (aW rfl bW rfl) ?_)));simp only[zz];refine aA (eR rfl rfl (aM (by omega) (by omega))) (aA (eU rfl rfl (by omega)) (aA (aB) ?_));simp only[zz];refine bN rfl (aA (aB) ?_);simp only[zz];refine bN rfl (aA (aB) ?_);simp only[zz];refine bN rfl (aA (aI bW bD rfl rfl (by omega) (by omega) (gM (show _ = ys.length - 1 by omega))) ?_);simp only[zz];refine bN rfl (aK rfl (lies1 hca bT) ?_);simp only[zz];refine bN rfl (aA (pM rfl rfl) (aA (fL rfl) ?_));simp only[zz];refine aG (hK13 _ _ ?_);refine bZ rfl (fun hc3=>?_) (fun hc3=>?_)
     ·
      have hca:=hT.at (show ys.length - 1 < ys.length by omega);refine wp_region_lit (aA (aB) (aA (aB) (aA (aB) ?_)));simp only[zz];refine aA (aI bW bD rfl rfl (by omega) (by omega) (gM (show _ = ys.length - 1 by omega))) ?_;simp only[zz];refine aK rfl (lies1 hca bT) ?_;simp only[zz];refine aA (gW rfl rfl (by omega) (lN (n:=256) (by omega))) (aA (jU Hm jC rfl (vR (by omega))) ?_);simp only[zz];refine fG mN (z:=.int .u8 0) (by kernel_rfl) rfl (by simp only[zz];rfl) (by rfl) ?_;intro w3 g2 hE hg2 hB2;have hG2:=Nat.le_trans hX.size hg2;have hN2_1 : g2 ≠ g1:=Nat.ne_of_gt (Nat.lt_of_lt_of_le hB1.lt hg2);replace hB1:=hB1.ext hE;(try replace hT:=hT.ext hE);(try replace hS5:=hS5.ext hE);(try replace hO5:=hO5.ext hE);replace hX:=hX.trans hE;clear hE hg2;simp only[zz];refine fY rfl mN Io rfl (by decide) rfl hO5 rfl (news:=_) rfl hB2.row0 (by simp [Value.oneCell']) (by omega) (by omega) hS5.h ?_;clear hO5;intro v5 w4 hO5 hGr _;replace hB1:=hB1.grew hGr hl5_1;(try replace hT:=hT.grew hGr (by first | trivial | omega));(try replace hS5:=hS5.grew hGr (by first | trivial | omega));replace hX:=hX.grown hGr hb5l;clear hGr;replace hO5:=hO5.snoc8 (by omega);simp only[zz];refine aA (aC) ?_;simp only[zz];refine aG (hK12 _ _ ?_);have hca:=hT.at (show ys.length - 1 < ys.length by omega);refine wp_region_lit (aA (aB) (aA (aB) (aA (aB) ?_)));simp only[zz];refine aA (aI bW bD rfl rfl (by omega) (by omega) (gM (show _ = ys.length - 1 by omega))) ?_;simp only[zz];refine aK rfl (lies1 hca bT) ?_;simp only[zz];refine aA (dG rfl rfl (by omega) (lM (n:=256))) (aA (jU Hm jC rfl (vR (by omega))) ?_);simp only[zz];refine fG mN (z:=.int .u8 0) (by kernel_rfl) rfl (by simp only[zz];rfl) (by rfl) ?_;intro w5 g3 hE hg3 hB3;have hG3:=Nat.le_trans hX.size hg3;have hN3_1 : g3 ≠ g1:=Nat.ne_of_gt (Nat.lt_of_lt_of_le hB1.lt hg3);replace hB1:=hB1.ext hE;(try replace hT:=hT.ext hE);(try replace hS5:=hS5.ext hE);(try replace hO5:=hO5.ext hE);replace hX:=hX.trans hE;clear hE hg3;simp only[zz];refine fY rfl mN Io rfl (by decide) rfl hO5 rfl (news:=_) rfl hB3.row0 (by simp [Value.oneCell']) (by first | omega | (simp;omega)) (by first | omega | (simp;omega)) hS5.h ?_;clear hO5;intro v5 w6 hO5 hGr _;replace hB1:=hB1.grew hGr hl5_1;(try replace hT:=hT.grew hGr (by first | trivial | omega));(try replace hS5:=hS5.grew hGr (by first | trivial | omega));replace hX:=hX.grown hGr hb5l;clear hGr;replace hO5:=hO5.snoc8 (by omega);simp only[zz];refine aA (aC) ?_;simp only[zz];refine aG (hK11 _ _ ?_);refine wp_region_lit (aA (aB) (aA (eR rfl rfl (aM (by omega) (by omega))) (aA (aC) ?_)));simp only[zz];refine aG ?_;have hos2 : os ++ [UInt8.ofNat (ys[ys.length - 1] / 256)] ++ [UInt8.ofNat (ys[ys.length - 1] % 256)] = mG ys (ys.length - 1):=by rw [f1,if_pos (by omega),hos0];rfl
      rw [show ((ys.length:Int) - 1 - 1) = ((ys.length - 1 : Nat) : Int) - 1 by omega];simp only[Exit.inBlock,Exit.then];refine ⟨ys.length - 1,_,?_,rfl,?_,?_⟩
      · omega
      · simp only[zz,zv]
      ·
       simp only[zQ,zR,zD,zE];exact ⟨ys.length - 1,os ++ [UInt8.ofNat (ys[ys.length - 1] / 256)] ++ [UInt8.ofNat (ys[ys.length - 1] % 256)],v5,rfl,hX,hB1,hT,hS5,hO5,hos2,by omega,fun _=>f2,by rw [hos2];exact h2l _,rfl⟩
     ·
      refine wp_skip ?_;refine hK12 _ _ ?_;have hca:=hT.at (show ys.length - 1 < ys.length by omega);refine wp_region_lit (aA (aB) (aA (aB) (aA (aB) ?_)));simp only[zz];refine aA (aI bW bD rfl rfl (by omega) (by omega) (gM (show _ = ys.length - 1 by omega))) ?_;simp only[zz];refine aK rfl (lies1 hca bT) ?_;simp only[zz];refine aA (dG rfl rfl (by omega) (lM (n:=256))) (aA (jU Hm jC rfl (vR (by omega))) ?_);simp only[zz];refine fG mN (z:=.int .u8 0) (by kernel_rfl) rfl (by simp only[zz];rfl) (by rfl) ?_;intro w3 g2 hE hg2 hB2;have hG2:=Nat.le_trans hX.size hg2;have hN2_1 : g2 ≠ g1:=Nat.ne_of_gt (Nat.lt_of_lt_of_le hB1.lt hg2);replace hB1:=hB1.ext hE;(try replace hT:=hT.ext hE);(try replace hS5:=hS5.ext hE);(try replace hO5:=hO5.ext hE);replace hX:=hX.trans hE;clear hE hg2;simp only[zz];refine fY rfl mN Io rfl (by decide) rfl hO5 rfl (news:=_) rfl hB2.row0 (by simp [Value.oneCell']) (by first | omega | (simp;omega)) (by first | omega | (simp;omega)) hS5.h ?_;clear hO5;intro v5 w4 hO5 hGr _;replace hB1:=hB1.grew hGr hl5_1;(try replace hT:=hT.grew hGr (by first | trivial | omega));(try replace hS5:=hS5.grew hGr (by first | trivial | omega));replace hX:=hX.grown hGr hb5l;clear hGr;replace hO5:=hO5.snoc8 (by omega);simp only[zz];refine aA (aC) ?_;simp only[zz];refine aG (hK11 _ _ ?_);refine wp_region_lit (aA (aB) (aA (eR rfl rfl (aM (by omega) (by omega))) (aA (aC) ?_)));simp only[zz];refine aG ?_;have hos2 : os ++ [UInt8.ofNat (ys[ys.length - 1] % 256)] = mG ys (ys.length - 1):=by rw [f1,if_neg (by omega),hos0]
      rw [show ((ys.length:Int) - 1 - 1) = ((ys.length - 1 : Nat) : Int) - 1 by omega];simp only[Exit.inBlock,Exit.then];refine ⟨ys.length - 1,_,?_,rfl,?_,?_⟩
      · omega
      · simp only[zz,zv]
      ·
       simp only[zQ,zR,zD,zE];exact ⟨ys.length - 1,os ++ [UInt8.ofNat (ys[ys.length - 1] % 256)],v5,rfl,hX,hB1,hT,hS5,hO5,hos2,by omega,fun _=>f2,by rw [hos2];exact h2l _,rfl⟩
   ·
    refine wp_exit ?_;refine hK7 _ _ (aD (fun K14 hK14=>wp_region_lit (aA (aB) (aA (aB) ?_))));simp only[zz];refine fP (Ea mN Hm qU rfl hO5) ?_;simp only[zz];refine aA (qI rfl rfl) ?_;simp only[zz];refine cZ rfl (by simp only[zz];rfl) (by exact aR) hB1 (by simp) (by simp [Value.oneCell']) ?_;clear hB1;intro w3 hC hB1;replace hX:=hX.chg hC hG1;clear hC;simp only[zy,zx,bG,Nat.reduceAdd] at hB1;refine aG (hK14 _ _ ?_);refine wp_ret ?_;try simp only[Exit.inBlock,Exit.then]
    refine bO rfl ⟨_,rfl,(hB1.lies bY aR rfl rfl)⟩ ?_;try simp only[zD,zE]
    exact ⟨_,rfl,hX,by (obtain rfl : k = 0:=by omega);(have hV : val 65536 ys ≠ 0:=Nat.ne_of_gt (yC (by omega) htr hy0));rw [hos,Sg hyd neg,← hvx];simp [Lith.W,Ki,hV]⟩
end Go.Proofs.YtfohfflkhpfjeaaGreatDoor
namespace Go.Proofs.YtfohfflkhpfjeaaGreatDoor
open Go.Proofs.Tryz
open Go.RowKit Go.Lith
set_option maxRecDepth 100000
attribute [local irreducible] wpList wpQuiet dY Code.wp
theorem Xo {k : Nat} {a b : Int} (ha : Bd k a) (hb : Bd k b) : (digs 65536 (a * b).natAbs).length ≤ k + k:=pE (Bd.mul ha hb)
theorem Jo {a : Int} : (((digs 65536 a.natAbs).length : Int) = 0) ↔ a = 0:=by
 constructor
 ·
  intro h;have h0 : digs 65536 a.natAbs = []:=List.eq_nil_of_length_eq_zero (by omega);have:=(qY (by omega)).1 h0;omega
 · rintro rfl;rfl
theorem acL {a : Int} (ha : Bd 1000000 a) : jG prog 95 [W a] (.int .i64 (Bz a)):=by
 intro w;refine ⟨agv,?_⟩;have hX:=dJ.refl w
 go_enter func95,ntmps95
 refine aD (fun K1 hK1=>wp_region_lit ?_);refine lB (by simp only[zz];rfl) ?_;intro w1 g1 hE hg1 hB1;have hG1:=Nat.le_trans hX.size hg1;replace hX:=hX.trans hE;clear hE hg1;simp only[zz];refine aA (aC) ?_;simp only[zz];refine aG (hK1 _ _ ?_);refine aD (fun K2 hK2=>aD (fun K3 hK3=>wp_region_lit ?_));refine aK rfl (hB1.lies bY aR rfl rfl) ?_;simp only[zz];refine bA rfl rfl (pF _ (gU ha)) ?_;rintro v w2 hE ⟨A1,c1,rfl,hD1⟩;replace hB1:=hB1.ext hE;replace hX:=hX.trans hE;clear hE;rw [gK] at hD1 ⊢;simp only[zz];refine aA (aW rfl bW rfl) (aA (pZ rfl rfl) ?_);simp only[zz];refine aG (hK3 _ _ ?_);refine bZ rfl (fun hc1=>?_) (fun hc1=>?_)
 ·
  have h0:=Jo.1 hc1;refine aD (fun K4 hK4=>wp_region_lit (aA (aC) ?_));simp only[zz];refine aG (hK4 _ _ ?_);refine wp_ret ?_;try simp only[Exit.inBlock,Exit.then]
  refine bO rfl rfl ?_;try simp only[zD,zE]
  exact ⟨_,rfl,hX,by rw [h0];rfl⟩
 ·
  refine wp_skip ?_;refine hK2 _ _ (aD (fun K5 hK5=>aD (fun K6 hK6=>wp_region_lit (aA (aN (c:=0) gN rfl fF rfl rfl) ?_))));simp only[zz];refine aK rfl (hB1.lies1 jR rfl) ?_;simp only[zz];refine aG (hK6 _ _ ?_);refine lS rfl (fun hc2=>?_) (fun hc2=>?_)
  ·
   have hn:=Av hc2;refine aD (fun K7 hK7=>wp_region_lit (aA (aC) ?_));simp only[zz];refine aG (hK7 _ _ ?_);refine wp_ret ?_;try simp only[Exit.inBlock,Exit.then]
   refine bO rfl rfl ?_;try simp only[zD,zE]
   exact ⟨_,rfl,hX,by rw [Uz hn]⟩
  ·
   have hn:=Ed hc2;have h0 : ¬ a = 0:=fun e=>hc1 (Jo.2 e);refine wp_skip (hK5 _ _ ?_);refine aD (fun K8 hK8=>wp_region_lit (aA (aC) ?_));simp only[zz];refine aG (hK8 _ _ ?_);refine wp_ret ?_;try simp only[Exit.inBlock,Exit.then]
   refine bO rfl rfl ?_;try simp only[zD,zE]
   exact ⟨_,rfl,hX,by rw [Va (by omega)]⟩
theorem aeE {a : Int} (ha : Bd 1000000 a) : jG prog 98 [W a] (W (-a)):=by
 intro w;refine ⟨agx,?_⟩;have hX:=dJ.refl w;have hla : (digs 65536 a.natAbs).length ≤ 1000000:=pE ha
 go_enter func98,ntmps98
 refine aD (fun K1 hK1=>wp_region_lit ?_);refine lB (by simp only[zz];rfl) ?_;intro w1 g1 hE hg1 hB1;have hG1:=Nat.le_trans hX.size hg1;replace hX:=hX.trans hE;clear hE hg1;simp only[zz];refine jW fC rfl ?_;intro w2 g2 hE hg2 hB2;have hG2:=Nat.le_trans hX.size hg2;have hN2_1 : g2 ≠ g1:=Nat.ne_of_gt (Nat.lt_of_lt_of_le hB1.lt hg2);replace hB1:=hB1.ext hE;replace hX:=hX.trans hE;clear hE hg2;simp only[zz];refine aG (hK1 _ _ ?_);refine aD (fun K2 hK2=>?_);refine eJ [(0,true),(1,true),(2,true),(3,true),(4,false),(5,false),(6,false)] aO (by kernel_rfl) (dL (fun _ _ _ _ _ h=>h)) (ol:=?_) ?hol ?_
 case hol=>simp only[zw,zQ,zR];try rfl
 intro w3 hE;replace hB1:=hB1.ext hE;replace hB2:=hB2.ext hE;replace hX:=hX.trans hE;clear hE;refine ⟨_,(lT.blk hB1 lT.nil),?_⟩;refine aZ (aN (c:=0) gN rfl fF rfl rfl) ?_;simp only[zz];refine dI rfl (fun _ ⟨hB1,_⟩=>(hB1.lies1 jR rfl)) ?_;simp only[zz];refine aZ (fQ rfl) ?_;simp only[zz];refine dI rfl (fun _ ⟨hB1,_⟩=>(hB1.lies bY aR rfl rfl)) ?_;simp only[zz];refine cS (bA rfl rfl (pF _ (gU ha)) ?_);rintro v w4 hE ⟨A1,c1,rfl,hD1⟩;replace hB1:=hB1.ext hE;replace hB2:=hB2.ext hE;replace hX:=hX.trans hE;clear hE;rw [gK] at hD1 ⊢;simp only[zz];refine aG (⟨⟨hB1,trivial⟩,?_⟩);refine cS (bA rfl rfl (rF _ hD1 (Nat.le_trans hla (by decide))) ?_);rintro v w5 hE rfl;replace hB1:=hB1.ext hE;replace hB2:=hB2.ext hE;replace hX:=hX.trans hE;clear hE;simp only[eM];simp only[zz];refine aG (⟨⟨hB1,trivial⟩,?_⟩);refine cS ?_;refine cZ rfl (by simp only[zz];rfl) (by exact aR) hB2 (by simp) (by simp [Value.oneCell']) ?_;clear hB2;intro w6 hC hB2;replace hB1:=hB1.chg hC (by first | exact hN1_2 | exact Ne.symm hN2_1);replace hX:=hX.chg hC hG2;clear hC;simp only[zy,zx,bG,Nat.reduceAdd] at hB2;refine aG (⟨⟨hB1,trivial⟩,?_⟩);refine dN ?_;rw [Su] at hB2;refine hK2 _ _ (wp_ret ?_);try simp only[Exit.inBlock,Exit.then]
 refine bO rfl ⟨_,rfl,(hB2.lies bY aR rfl rfl)⟩ ?_;try simp only[zD,zE]
 exact ⟨_,rfl,hX,rfl⟩
theorem Lr {a b : Int} (ha : Bd 1000000 a) (hb : Bd 1000000 b) : jG prog 28 [W a,W b] (W (a + b)):=by
 intro w;refine ⟨afr,?_⟩;have hX:=dJ.refl w;have hla : (digs 65536 a.natAbs).length ≤ 1000000:=pE ha;have hlb : (digs 65536 b.natAbs).length ≤ 1000000:=pE hb
 go_enter func28,ntmps28
 refine aD (fun K1 hK1=>wp_region_lit ?_);refine lB (by simp only[zz];rfl) ?_;intro w1 g1 hE hg1 hB1;have hG1:=Nat.le_trans hX.size hg1;replace hX:=hX.trans hE;clear hE hg1;simp only[zz];refine lB (by simp only[zz];rfl) ?_;intro w2 g2 hE hg2 hB2;have hG2:=Nat.le_trans hX.size hg2;have hN2_1 : g2 ≠ g1:=Nat.ne_of_gt (Nat.lt_of_lt_of_le hB1.lt hg2);replace hB1:=hB1.ext hE;replace hX:=hX.trans hE;clear hE hg2;simp only[zz];refine jW fC rfl ?_;intro w3 g3 hE hg3 hB3;have hG3:=Nat.le_trans hX.size hg3;have hN3_1 : g3 ≠ g1:=Nat.ne_of_gt (Nat.lt_of_lt_of_le hB1.lt hg3);have hN3_2 : g3 ≠ g2:=Nat.ne_of_gt (Nat.lt_of_lt_of_le hB2.lt hg3);replace hB1:=hB1.ext hE;replace hB2:=hB2.ext hE;replace hX:=hX.trans hE;clear hE hg3;simp only[zz];refine aG (hK1 _ _ ?_);refine aD (fun K2 hK2=>wp_region_lit ?_);refine aK rfl (hB1.lies bY aR rfl rfl) ?_;simp only[zz];refine bA rfl rfl (pF _ (gU ha)) ?_;rintro v w4 hE ⟨A1,c1,rfl,hD1⟩;replace hB1:=hB1.ext hE;replace hB2:=hB2.ext hE;replace hB3:=hB3.ext hE;replace hX:=hX.trans hE;clear hE;rw [gK] at hD1 ⊢;simp only[zz];refine aA (aC) ?_;simp only[zz];refine aG (hK2 _ _ ?_);refine aD (fun K3 hK3=>wp_region_lit ?_);refine aK rfl (hB2.lies bY aR rfl rfl) ?_;simp only[zz];refine bA rfl rfl (pF _ (gU hb)) ?_;rintro v w5 hE ⟨A2,c2,rfl,hD2⟩;replace hB1:=hB1.ext hE;replace hB2:=hB2.ext hE;replace hB3:=hB3.ext hE;(try replace hD1:=hD1.ext hE);replace hX:=hX.trans hE;clear hE;rw [gK] at hD2 ⊢;simp only[zz];refine aA (aC) ?_;simp only[zz];refine aG (hK3 _ _ ?_);refine aD (fun K4 hK4=>aD (fun K5 hK5=>wp_region_lit (aA (aN (c:=0) gN rfl fF rfl rfl) ?_)));simp only[zz];refine aK rfl (hB1.lies1 jR rfl) ?_;simp only[zz];refine aA (aN (c:=0) gN rfl fF rfl rfl) ?_;simp only[zz];refine aK rfl (hB2.lies1 jR rfl) ?_;simp only[zz];refine aA (Yu Qz rfl rfl) ?_;simp only[zz];refine aG (hK5 _ _ ?_);refine bZ rfl (fun hc1=>?_) (fun hc1=>?_)
 ·
  refine aD (fun K6 hK6=>?_);refine eJ [(0,true),(2,true),(3,true),(1,true),(4,false),(5,false),(6,false)] aO (by kernel_rfl) (dL (fun _ _ _ _ _ h=>h)) (ol:=?_) ?hol ?_
  case hol=>simp only[zw,zQ,zR];try rfl
  intro w6 hE;replace hB1:=hB1.ext hE;replace hB3:=hB3.ext hE;(try replace hD1:=hD1.ext hE);(try replace hD2:=hD2.ext hE);replace hX:=hX.trans hE;clear hE;refine ⟨_,(lT.blk hB1 lT.nil),?_⟩;refine aZ (aN (c:=0) gN rfl fF rfl rfl) (aZ (aB) (aZ (aB) ?_));simp only[zz];refine dI rfl (fun _ ⟨hB1,_⟩=>(hB1.lies1 jR rfl)) ?_;simp only[zz];refine cS (bA rfl rfl (aeD _ hD1.here hD2.here (Nat.le_trans hla (by decide)) (Nat.le_trans hlb (by decide))) ?_);rintro v w7 hE ⟨A3,c3,os,rfl,hD3,hv3,hl3⟩;replace hB1:=hB1.ext hE;replace hB3:=hB3.ext hE;replace hX:=hX.trans hE;clear hE;simp only[eM] at hv3;simp only[zz];refine aG (⟨⟨hB1,trivial⟩,?_⟩);refine cS (bA rfl rfl (rF _ hD3 (by omega)) ?_);rintro v w8 hE rfl;replace hB1:=hB1.ext hE;replace hB3:=hB3.ext hE;replace hX:=hX.trans hE;clear hE;rw [hv3];simp only[zz];refine aG (⟨⟨hB1,trivial⟩,?_⟩);refine cS ?_;refine cZ rfl (by simp only[zz];rfl) (by exact aR) hB3 (by simp) (by simp [Value.oneCell']) ?_;clear hB3;intro w9 hC hB3;replace hB1:=hB1.chg hC (by first | exact hN1_3 | exact Ne.symm hN3_1);replace hX:=hX.chg hC hG3;clear hC;simp only[zy,zx,bG,Nat.reduceAdd] at hB3;refine aG (⟨⟨hB1,trivial⟩,?_⟩);refine dN ?_;rw [Sv hc1] at hB3;refine hK6 _ _ (wp_ret ?_);try simp only[Exit.inBlock,Exit.then]
  refine bO rfl ⟨_,rfl,(hB3.lies bY aR rfl rfl)⟩ ?_;try simp only[zD,zE]
  exact ⟨_,rfl,hX,rfl⟩
 ·
  refine wp_skip ?_;refine hK4 _ _ (aD (fun K7 hK7=>aD (fun K8 hK8=>wp_region_lit (aA (aB) (aA (aB) ?_)))));simp only[zz];refine bA rfl rfl (sS _ hD1 hD2 (kD _) (kD _)) ?_;rintro v w6 hE rfl;replace hB1:=hB1.ext hE;replace hB2:=hB2.ext hE;replace hB3:=hB3.ext hE;(try replace hD1:=hD1.ext hE);(try replace hD2:=hD2.ext hE);replace hX:=hX.trans hE;clear hE;simp only[eM];simp only[zz];refine aA (pM rfl rfl) ?_;simp only[zz];refine aG (hK8 _ _ ?_);refine bZ rfl (fun hc2=>?_) (fun hc2=>?_)
  ·
   have hge:=tE.1 hc2;refine aD (fun K9 hK9=>?_);refine eJ [(0,true),(2,true),(3,true),(1,true),(4,false),(5,false),(6,false)] aO (by kernel_rfl) (dL (fun _ _ _ _ _ h=>h)) (ol:=?_) ?hol ?_
   case hol=>simp only[zw,zQ,zR];try rfl
   intro w7 hE;replace hB1:=hB1.ext hE;replace hB3:=hB3.ext hE;(try replace hD1:=hD1.ext hE);(try replace hD2:=hD2.ext hE);replace hX:=hX.trans hE;clear hE;refine ⟨_,(lT.blk hB1 lT.nil),?_⟩;refine aZ (aN (c:=0) gN rfl fF rfl rfl) (aZ (aB) (aZ (aB) ?_));simp only[zz];refine dI rfl (fun _ ⟨hB1,_⟩=>(hB1.lies1 jR rfl)) ?_;simp only[zz];refine cS ?_;refine bA rfl rfl (Ty _ hD1.here hD2.here (Ad hge) (by simp only[eM];omega) (Nat.le_trans hla (by decide))) ?_;rintro v w8 hE ⟨⟨A3,c3,rfl,hD3⟩,_⟩;replace hB1:=hB1.ext hE;replace hB3:=hB3.ext hE;replace hX:=hX.trans hE;clear hE;simp only[eM] at hD3 ⊢;have hl3:=Ad (Nat.sub_le a.natAbs b.natAbs);simp only[zz];refine aG (⟨⟨hB1,trivial⟩,?_⟩);refine cS (bA rfl rfl (rF _ hD3 (Nat.le_trans hl3 (Nat.le_trans hla (by decide)))) ?_);rintro v w9 hE rfl;replace hB1:=hB1.ext hE;replace hB3:=hB3.ext hE;replace hX:=hX.trans hE;clear hE;simp only[eM];simp only[zz];refine aG (⟨⟨hB1,trivial⟩,?_⟩);refine cS ?_;refine cZ rfl (by simp only[zz];rfl) (by exact aR) hB3 (by simp) (by simp [Value.oneCell']) ?_;clear hB3;intro w10 hC hB3;replace hB1:=hB1.chg hC (by first | exact hN1_3 | exact Ne.symm hN3_1);replace hX:=hX.chg hC hG3;clear hC;simp only[zy,zx,bG,Nat.reduceAdd] at hB3;refine aG (⟨⟨hB1,trivial⟩,?_⟩);refine dN ?_;rw [Za hc1 hge] at hB3;refine hK9 _ _ (wp_ret ?_);try simp only[Exit.inBlock,Exit.then]
   refine bO rfl ⟨_,rfl,(hB3.lies bY aR rfl rfl)⟩ ?_;try simp only[zD,zE]
   exact ⟨_,rfl,hX,rfl⟩
  ·
   have hlt : a.natAbs < b.natAbs:=Nat.lt_of_not_le fun h=>hc2 (tE.2 h);refine wp_skip (hK7 _ _ ?_);refine aD (fun K10 hK10=>?_);refine eJ [(0,true),(2,true),(3,true),(1,true),(4,false),(5,false),(6,false)] aO (by kernel_rfl) (dL (fun _ _ _ _ _ h=>h)) (ol:=?_) ?hol ?_
   case hol=>simp only[zw,zQ,zR];try rfl
   intro w7 hE;replace hB2:=hB2.ext hE;replace hB3:=hB3.ext hE;(try replace hD1:=hD1.ext hE);(try replace hD2:=hD2.ext hE);replace hX:=hX.trans hE;clear hE;refine ⟨_,(lT.blk hB2 lT.nil),?_⟩;refine aZ (aN (c:=0) gN rfl fF rfl rfl) (aZ (aB) (aZ (aB) ?_));simp only[zz];refine dI rfl (fun _ ⟨hB2,_⟩=>(hB2.lies1 jR rfl)) ?_;simp only[zz];refine cS ?_;refine bA rfl rfl (Ty _ hD2.here hD1.here (Ad (Nat.le_of_lt hlt)) (by simp only[eM];omega) (Nat.le_trans hlb (by decide))) ?_;rintro v w8 hE ⟨⟨A3,c3,rfl,hD3⟩,_⟩;replace hB2:=hB2.ext hE;replace hB3:=hB3.ext hE;replace hX:=hX.trans hE;clear hE;simp only[eM] at hD3 ⊢;have hl3:=Ad (Nat.sub_le b.natAbs a.natAbs);simp only[zz];refine aG (⟨⟨hB2,trivial⟩,?_⟩);refine cS (bA rfl rfl (rF _ hD3 (Nat.le_trans hl3 (Nat.le_trans hlb (by decide)))) ?_);rintro v w9 hE rfl;replace hB2:=hB2.ext hE;replace hB3:=hB3.ext hE;replace hX:=hX.trans hE;clear hE;simp only[eM];simp only[zz];refine aG (⟨⟨hB2,trivial⟩,?_⟩);refine cS ?_;refine cZ rfl (by simp only[zz];rfl) (by exact aR) hB3 (by simp) (by simp [Value.oneCell']) ?_;clear hB3;intro w10 hC hB3;replace hB2:=hB2.chg hC (by first | exact hN2_3 | exact Ne.symm hN3_2);replace hX:=hX.chg hC hG3;clear hC;simp only[zy,zx,bG,Nat.reduceAdd] at hB3;refine aG (⟨⟨hB2,trivial⟩,?_⟩);refine dN ?_;rw [Yz hc1 hlt] at hB3;refine hK10 _ _ (wp_ret ?_);try simp only[Exit.inBlock,Exit.then]
   refine bO rfl ⟨_,rfl,(hB3.lies bY aR rfl rfl)⟩ ?_;try simp only[zD,zE]
   exact ⟨_,rfl,hX,rfl⟩
theorem Ls {a b : Int} (ha : Bd 1000000 a) (hb : Bd 1000000 b) : jG prog 56 [W a,W b] (W (a - b)):=by
 intro w;refine ⟨afS,?_⟩;have hX:=dJ.refl w
 go_enter func56,ntmps56
 refine aD (fun K1 hK1=>wp_region_lit ?_);refine lB (by simp only[zz];rfl) ?_;intro w1 g1 hE hg1 hB1;have hG1:=Nat.le_trans hX.size hg1;replace hX:=hX.trans hE;clear hE hg1;simp only[zz];refine lB (by simp only[zz];rfl) ?_;intro w2 g2 hE hg2 hB2;have hG2:=Nat.le_trans hX.size hg2;have hN2_1 : g2 ≠ g1:=Nat.ne_of_gt (Nat.lt_of_lt_of_le hB1.lt hg2);replace hB1:=hB1.ext hE;replace hX:=hX.trans hE;clear hE hg2;simp only[zz];refine jW fC rfl ?_;intro w3 g3 hE hg3 hB3;have hG3:=Nat.le_trans hX.size hg3;have hN3_1 : g3 ≠ g1:=Nat.ne_of_gt (Nat.lt_of_lt_of_le hB1.lt hg3);have hN3_2 : g3 ≠ g2:=Nat.ne_of_gt (Nat.lt_of_lt_of_le hB2.lt hg3);replace hB1:=hB1.ext hE;replace hB2:=hB2.ext hE;replace hX:=hX.trans hE;clear hE hg3;simp only[zz];refine aG (hK1 _ _ ?_);refine aD (fun K2 hK2=>?_);refine iY 4 aO (by kernel_rfl) ?_;simp only[zy];refine iZ rfl (fun _ hE'=>((hB1.ext hE').lies bY aR rfl rfl)) ?_;simp only[zz];refine iZ rfl (fun _ hE'=>((hB2.ext hE').lies bY aR rfl rfl)) ?_;simp only[zz];refine Ct rfl rfl (aeE hb) ?_;simp only[zz];refine Ct rfl rfl (Lr ha hb.neg) ?_;simp only[zz];refine dK ?_;intro w4 hE;replace hB3:=hB3.ext hE;replace hX:=hX.trans hE;clear hE;refine cZ rfl (by simp only[zz];rfl) (by exact aR) hB3 (by simp) (by simp [Value.oneCell']) ?_;clear hB3;intro w5 hC hB3;replace hX:=hX.chg hC hG3;clear hC;simp only[zy,zx,bG,Nat.reduceAdd] at hB3;refine aG ?_;rw [← Int.sub_eq_add_neg] at hB3;refine hK2 _ _ (wp_ret ?_);try simp only[Exit.inBlock,Exit.then]
 refine bO rfl ⟨_,rfl,(hB3.lies bY aR rfl rfl)⟩ ?_;try simp only[zD,zE]
 exact ⟨_,rfl,hX,rfl⟩
theorem Lu {a b : Int} (ha : Bd 1000000 a) (hb : Bd 1000000 b) : jG prog 51 [W a,W b] (W (a * b)):=by
 intro w;refine ⟨afO,?_⟩;have hX:=dJ.refl w;have hla : (digs 65536 a.natAbs).length ≤ 1000000:=pE ha;have hlb : (digs 65536 b.natAbs).length ≤ 1000000:=pE hb;have hls:=Xo ha hb
 go_enter func51,ntmps51
 refine aD (fun K1 hK1=>wp_region_lit ?_);refine lB (by simp only[zz];rfl) ?_;intro w1 g1 hE hg1 hB1;have hG1:=Nat.le_trans hX.size hg1;replace hX:=hX.trans hE;clear hE hg1;simp only[zz];refine lB (by simp only[zz];rfl) ?_;intro w2 g2 hE hg2 hB2;have hG2:=Nat.le_trans hX.size hg2;have hN2_1 : g2 ≠ g1:=Nat.ne_of_gt (Nat.lt_of_lt_of_le hB1.lt hg2);replace hB1:=hB1.ext hE;replace hX:=hX.trans hE;clear hE hg2;simp only[zz];refine jW fC rfl ?_;intro w3 g3 hE hg3 hB3;have hG3:=Nat.le_trans hX.size hg3;have hN3_1 : g3 ≠ g1:=Nat.ne_of_gt (Nat.lt_of_lt_of_le hB1.lt hg3);have hN3_2 : g3 ≠ g2:=Nat.ne_of_gt (Nat.lt_of_lt_of_le hB2.lt hg3);replace hB1:=hB1.ext hE;replace hB2:=hB2.ext hE;replace hX:=hX.trans hE;clear hE hg3;simp only[zz];refine aG (hK1 _ _ ?_);refine aD (fun K2 hK2=>?_);refine eJ [(0,true),(2,true),(1,true),(3,true),(4,true),(5,true),(7,true),(6,false),(8,false),(9,false),(10,false),(11,false)] aO (by kernel_rfl) (dL (fun _ _ _ _ _ h=>h)) (ol:=?_) ?hol ?_
 case hol=>simp only[zw,zQ,zR];try rfl
 intro w4 hE;replace hB1:=hB1.ext hE;replace hB2:=hB2.ext hE;replace hB3:=hB3.ext hE;replace hX:=hX.trans hE;clear hE;refine ⟨_,(lT.blk hB1 (lT.blk hB2 lT.nil)),?_⟩;refine aZ (aN (c:=0) gN rfl fF rfl rfl) (aZ (aN (c:=0) gN rfl fF rfl rfl) ?_);simp only[zz];refine dI rfl (fun _ ⟨hB1,hB2,_⟩=>(hB1.lies1 jR rfl)) ?_;simp only[zz];refine dI rfl (fun _ ⟨hB1,hB2,_⟩=>(hB2.lies1 jR rfl)) ?_;simp only[zz];refine aZ (Yv Qz rfl rfl) ?_;simp only[zz];refine dI rfl (fun _ ⟨hB1,hB2,_⟩=>(hB1.lies bY aR rfl rfl)) ?_;simp only[zz];refine dI rfl (fun _ ⟨hB1,hB2,_⟩=>(hB2.lies bY aR rfl rfl)) ?_;simp only[zz];refine cS (bA rfl rfl (pF _ (gU ha)) ?_);rintro v w5 hE ⟨A1,c1,rfl,hD1⟩;replace hB1:=hB1.ext hE;replace hB2:=hB2.ext hE;replace hB3:=hB3.ext hE;replace hX:=hX.trans hE;clear hE;rw [gK] at hD1 ⊢;simp only[zz];refine aG (⟨⟨hB1,hB2,trivial⟩,?_⟩);refine cS (bA rfl rfl (pF _ (gU hb)) ?_);rintro v w6 hE ⟨A2,c2,rfl,hD2⟩;replace hB1:=hB1.ext hE;replace hB2:=hB2.ext hE;replace hB3:=hB3.ext hE;(try replace hD1:=hD1.ext hE);replace hX:=hX.trans hE;clear hE;rw [gK] at hD2 ⊢;simp only[zz];refine aG (⟨⟨hB1,hB2,trivial⟩,?_⟩);refine cS (bA rfl rfl (Ah _ hD1.here hD2.here (Nat.le_trans hla (by decide)) (Nat.le_trans hlb (by decide))) ?_);rintro v w7 hE ⟨⟨A3,c3,rfl,hD3⟩,_⟩;replace hB1:=hB1.ext hE;replace hB2:=hB2.ext hE;replace hB3:=hB3.ext hE;replace hX:=hX.trans hE;clear hE;simp only[eM] at hD3 ⊢;rw [← Int.natAbs_mul] at hD3 ⊢;simp only[zz];refine aG (⟨⟨hB1,hB2,trivial⟩,?_⟩);refine cS (bA rfl rfl (rF _ hD3 (Nat.le_trans hls (by decide))) ?_);rintro v w8 hE rfl;replace hB1:=hB1.ext hE;replace hB2:=hB2.ext hE;replace hB3:=hB3.ext hE;replace hX:=hX.trans hE;clear hE;simp only[eM];simp only[zz];refine aG (⟨⟨hB1,hB2,trivial⟩,?_⟩);refine cS ?_;refine cZ rfl (by simp only[zz];rfl) (by exact aR) hB3 (by simp) (by simp [Value.oneCell']) ?_;clear hB3;intro w9 hC hB3;replace hB1:=hB1.chg hC (by first | exact hN1_3 | exact Ne.symm hN3_1);replace hB2:=hB2.chg hC (by first | exact hN2_3 | exact Ne.symm hN3_2);replace hX:=hX.chg hC hG3;clear hC;simp only[zy,zx,bG,Nat.reduceAdd] at hB3;refine aG (⟨⟨hB1,hB2,trivial⟩,?_⟩);refine dN ?_;rw [Int.natAbs_mul,Sw] at hB3;refine hK2 _ _ (wp_ret ?_);try simp only[Exit.inBlock,Exit.then]
 refine bO rfl ⟨_,rfl,(hB3.lies bY aR rfl rfl)⟩ ?_;try simp only[zD,zE]
 exact ⟨_,rfl,hX,rfl⟩
theorem aeF {a b : Int} (ha : Bd 900000 a) (hb : Bd 900000 b) : jG prog 50 [W a,W b] (.int .i64 (Bz (a - b))):=by
 intro w;refine ⟨afN,?_⟩;have hX:=dJ.refl w
 go_enter func50,ntmps50
 refine aD (fun K1 hK1=>wp_region_lit ?_);refine lB (by simp only[zz];rfl) ?_;intro w1 g1 hE hg1 hB1;have hG1:=Nat.le_trans hX.size hg1;replace hX:=hX.trans hE;clear hE hg1;simp only[zz];refine lB (by simp only[zz];rfl) ?_;intro w2 g2 hE hg2 hB2;have hG2:=Nat.le_trans hX.size hg2;have hN2_1 : g2 ≠ g1:=Nat.ne_of_gt (Nat.lt_of_lt_of_le hB1.lt hg2);replace hB1:=hB1.ext hE;replace hX:=hX.trans hE;clear hE hg2;simp only[zz];refine aA (aC) ?_;simp only[zz];refine aG (hK1 _ _ ?_);refine aD (fun K2 hK2=>wp_region_lit ?_);refine aK rfl (hB1.lies bY aR rfl rfl) ?_;simp only[zz];refine aK rfl (hB2.lies bY aR rfl rfl) ?_;simp only[zz];refine vV rfl rfl (Ls (ha.mono (by decide)) (hb.mono (by decide))) ?_;intro w3 hE;replace hX:=hX.trans hE;clear hE;simp only[zz];refine vV rfl rfl (acL ((Bd.sub ha hb).mono (by decide))) ?_;intro w4 hE;replace hX:=hX.trans hE;clear hE;simp only[zz];refine aA (aC) ?_;simp only[zz];refine aG (hK2 _ _ ?_);refine wp_ret ?_;try simp only[Exit.inBlock,Exit.then]
 refine bO rfl rfl ?_;try simp only[zD,zE]
 exact ⟨_,rfl,hX,rfl⟩
theorem uB {n : Int} (h : nR n) : jG prog 52 [.int .i64 n] (W n):=by
 intro w;refine ⟨afP,?_⟩;have hX:=dJ.refl w;have hna:=h.natAbs
 go_enter func52,ntmps52
 refine aD (fun K1 hK1=>wp_region_lit ?_);refine jW fC rfl ?_;intro w1 g1 hE hg1 hB1;have hG1:=Nat.le_trans hX.size hg1;replace hX:=hX.trans hE;clear hE hg1;simp only[zz];refine aG (hK1 _ _ ?_);refine aD (fun K2 hK2=>wp_region_lit (aA (aC) ?_));simp only[zz];obtain ⟨b3,hb3e,hb3l⟩:=hX.base;have hS3:=sQ.of hX hb3e;have hO3:=jA.nil_of hX b3 3 1;have hl3_1 : g1 < b3:=by rw [hb3e];exact hB1.lt
 clear hb3e;refine aG (hK2 _ _ ?_);refine aD (fun K3 hK3=>?_);rcases (show n < 0 ∨ 0 ≤ n by omega) with h0 | h0
 ·
  have hwn : true = iJ n:=(decide_eq_true h0).symm;refine wp_region_lit (aA (aB) (aA (jU oD jC rfl (Sx h h0)) (aA (aC) ?_)));simp only[zz];refine aG (hK3 _ _ ?_);refine aD (fun K4 hK4=>aD (fun K5 hK5=>wp_region_lit (aA (aB) (aA (bX rfl rfl (by omega)) ?_))));simp only[zz];refine aG (hK5 _ _ ?_);refine cG rfl (wp_region_lit (aA (aB) (aA (Ss rfl (Hx hna (by omega))) (aA (aC) ?_))));simp only[zz];refine aG (hK4 _ _ ?_);refine aD (fun K6 hK6=>wp_block ?_);refine bH [3,4] [11,12,13,14,15,16,17,18,19,20] (fun k vs wl=>∃ (m : Nat) (os : List Nat) (v3 : Value),vs = [v3,.int .u64 (m : Int)] ∧ (dJ w wl) ∧ (gJ wl g1 [.bool false,.string ⟨#[]⟩] 65) ∧ (sQ wl b3) ∧ (jA wl b3 3 1 v3 os.length (os.map pS)) ∧ (val 65536 os + 65536 ^ os.length * m = n.natAbs) ∧ (cY 65536 os) ∧ (m ≤ 9223372036854775808) ∧ (os.length + m ≤ 9223372036854775808 + 64) ∧ (m < 2 ^ (64 - os.length)) ∧ (os.length ≤ 64) ∧ (k = m)) ?_ ?_
  ·
   apply Exists.intro;simp only[zQ,zR,zD,zE];exact ⟨n.natAbs,[],_,rfl,hX,hB1,hS3,hO3,by simp [val],kQ _,hna,by simp;omega,by simp;omega,by simp,rfl⟩
  ·
   intro n vs wr hI u;obtain ⟨m,os,v3,rfl,hX,hB1,hS3,hO3,hv,hd,hm,hol,hol2,hol3,hn⟩:=hI;simp only[zu,zF,zG];refine aD (fun K7 hK7=>aD (fun K8 hK8=>wp_region_lit (aA (aB) (aA (oU rfl rfl) ?_))));simp only[zz];refine aG (hK8 _ _ ?_);refine bZ rfl (fun hc2=>?_) (fun hc2=>?_)
   ·
    refine wp_skip ?_;refine hK7 _ _ (wp_block (aD (fun K9 hK9=>wp_region_lit (aA (aB) (aA (aB) (aA (dG rfl rfl (by omega) (lM (n:=65536))) ?_))))));simp only[zz];refine aA (jU jC oD rfl (aM (by omega) (by omega))) ?_;simp only[zz];refine fG bW (z:=.int .i64 0) (by kernel_rfl) rfl (by simp only[zz];rfl) (by rfl) ?_;intro w2 g2 hE hg2 hB2;have hG2:=Nat.le_trans hX.size hg2;have hN2_1 : g2 ≠ g1:=Nat.ne_of_gt (Nat.lt_of_lt_of_le hB1.lt hg2);replace hB1:=hB1.ext hE;(try replace hS3:=hS3.ext hE);(try replace hO3:=hO3.ext hE);replace hX:=hX.trans hE;clear hE hg2;simp only[zz];refine fY rfl bW lE rfl (by decide) rfl hO3 rfl (news:=_) rfl hB2.row0 (by simp [Value.oneCell']) (by omega) (by omega) hS3.h ?_;clear hO3;intro v3 w3 hO3 hGr _;replace hB1:=hB1.grew hGr hl3_1;(try replace hS3:=hS3.grew hGr (by first | trivial | omega));replace hX:=hX.grown hGr hb3l;clear hGr;replace hO3:=hO3.snoc;simp only[zz];refine aA (aC) ?_;simp only[zz];refine aG (hK9 _ _ ?_);refine wp_region_lit (aA (aB) (aA (gW rfl rfl (by omega) (Cx (n:=65536) (by omega))) (aA (aC) ?_)));simp only[zz];refine aG ?_;have r:=Ge hv hd hol2 hol3 (show 0 < m by omega);simp only[Exit.inBlock,Exit.then];refine ⟨m / 65536,_,?_,rfl,?_,?_⟩
    · omega
    · simp only[zz,zv]
    ·
     simp only[zQ,zR,zD,zE];exact ⟨m / 65536,os ++ [m % 65536],v3,rfl,hX,hB1,hS3,hO3,r.1,r.2.1,by omega,by simp;omega,r.2.2.1,r.2.2.2,rfl⟩
   ·
    refine wp_exit ?_;refine hK6 _ _ (aD (fun K10 hK10=>?_));obtain rfl : m = 0:=by omega
    rw [Nat.mul_zero,Nat.add_zero] at hv;obtain ⟨A3,c3,rfl,hD,_⟩:=cX.of_owns hO3 rfl hd (by omega);refine wp_region_lit (aA (aB) (aA (bX rfl rfl (by omega)) (aA (aB) ?_)));simp only[zz];refine bA rfl rfl (rF _ hD (by omega)) ?_;rintro v w2 hE rfl;replace hB1:=hB1.ext hE;replace hX:=hX.trans hE;clear hE;rw [hv,hwn,yG];simp only[zz];refine cZ rfl (by simp only[zz];rfl) (by exact aR) hB1 (by simp) (by simp [Value.oneCell']) ?_;clear hB1;intro w3 hC hB1;replace hX:=hX.chg hC hG1;clear hC;simp only[zy,zx,bG,Nat.reduceAdd] at hB1;refine aG (hK10 _ _ ?_);refine wp_ret ?_;try simp only[Exit.inBlock,Exit.then]
    refine bO rfl ⟨_,rfl,(hB1.lies bY aR rfl rfl)⟩ ?_;try simp only[zD,zE]
    exact ⟨_,rfl,hX,rfl⟩
 ·
  have hwn : false = iJ n:=(decide_eq_false (by omega)).symm;refine wp_region_lit (aA (aB) (aA (jU oD jC rfl (Zb h h0)) (aA (aC) ?_)));simp only[zz];refine aG (hK3 _ _ ?_);refine aD (fun K11 hK11=>aD (fun K12 hK12=>wp_region_lit (aA (aB) (aA (eU rfl rfl (by omega)) ?_))));simp only[zz];refine aG (hK12 _ _ ?_);refine iO rfl (wp_skip ?_);refine hK11 _ _ (aD (fun K13 hK13=>wp_block ?_));refine bH [3,4] [11,12,13,14,15,16,17,18,19,20] (fun k vs wl=>∃ (m : Nat) (os : List Nat) (v3 : Value),vs = [v3,.int .u64 (m : Int)] ∧ (dJ w wl) ∧ (gJ wl g1 [.bool false,.string ⟨#[]⟩] 65) ∧ (sQ wl b3) ∧ (jA wl b3 3 1 v3 os.length (os.map pS)) ∧ (val 65536 os + 65536 ^ os.length * m = n.natAbs) ∧ (cY 65536 os) ∧ (m ≤ 9223372036854775808) ∧ (os.length + m ≤ 9223372036854775808 + 64) ∧ (m < 2 ^ (64 - os.length)) ∧ (os.length ≤ 64) ∧ (k = m)) ?_ ?_
  ·
   apply Exists.intro;simp only[zQ,zR,zD,zE];exact ⟨n.natAbs,[],_,rfl,hX,hB1,hS3,hO3,by simp [val],kQ _,hna,by simp;omega,by simp;omega,by simp,rfl⟩
  ·
   intro n vs wr hI u;obtain ⟨m,os,v3,rfl,hX,hB1,hS3,hO3,hv,hd,hm,hol,hol2,hol3,hn⟩:=hI;simp only[zu,zF,zG];refine aD (fun K14 hK14=>aD (fun K15 hK15=>wp_region_lit (aA (aB) (aA (oU rfl rfl) ?_))));simp only[zz];refine aG (hK15 _ _ ?_);refine bZ rfl (fun hc2=>?_) (fun hc2=>?_)
   ·
    refine wp_skip ?_;refine hK14 _ _ (wp_block (aD (fun K16 hK16=>wp_region_lit (aA (aB) (aA (aB) (aA (dG rfl rfl (by omega) (lM (n:=65536))) ?_))))));simp only[zz];refine aA (jU jC oD rfl (aM (by omega) (by omega))) ?_;simp only[zz];refine fG bW (z:=.int .i64 0) (by kernel_rfl) rfl (by simp only[zz];rfl) (by rfl) ?_;intro w2 g2 hE hg2 hB2;have hG2:=Nat.le_trans hX.size hg2;have hN2_1 : g2 ≠ g1:=Nat.ne_of_gt (Nat.lt_of_lt_of_le hB1.lt hg2);replace hB1:=hB1.ext hE;(try replace hS3:=hS3.ext hE);(try replace hO3:=hO3.ext hE);replace hX:=hX.trans hE;clear hE hg2;simp only[zz];refine fY rfl bW lE rfl (by decide) rfl hO3 rfl (news:=_) rfl hB2.row0 (by simp [Value.oneCell']) (by omega) (by omega) hS3.h ?_;clear hO3;intro v3 w3 hO3 hGr _;replace hB1:=hB1.grew hGr hl3_1;(try replace hS3:=hS3.grew hGr (by first | trivial | omega));replace hX:=hX.grown hGr hb3l;clear hGr;replace hO3:=hO3.snoc;simp only[zz];refine aA (aC) ?_;simp only[zz];refine aG (hK16 _ _ ?_);refine wp_region_lit (aA (aB) (aA (gW rfl rfl (by omega) (Cx (n:=65536) (by omega))) (aA (aC) ?_)));simp only[zz];refine aG ?_;have r:=Ge hv hd hol2 hol3 (show 0 < m by omega);simp only[Exit.inBlock,Exit.then];refine ⟨m / 65536,_,?_,rfl,?_,?_⟩
    · omega
    · simp only[zz,zv]
    ·
     simp only[zQ,zR,zD,zE];exact ⟨m / 65536,os ++ [m % 65536],v3,rfl,hX,hB1,hS3,hO3,r.1,r.2.1,by omega,by simp;omega,r.2.2.1,r.2.2.2,rfl⟩
   ·
    refine wp_exit ?_;refine hK13 _ _ (aD (fun K17 hK17=>?_));obtain rfl : m = 0:=by omega
    rw [Nat.mul_zero,Nat.add_zero] at hv;obtain ⟨A3,c3,rfl,hD,_⟩:=cX.of_owns hO3 rfl hd (by omega);refine wp_region_lit (aA (aB) (aA (eU rfl rfl (by omega)) (aA (aB) ?_)));simp only[zz];refine bA rfl rfl (rF _ hD (by omega)) ?_;rintro v w2 hE rfl;replace hB1:=hB1.ext hE;replace hX:=hX.trans hE;clear hE;rw [hv,hwn,yG];simp only[zz];refine cZ rfl (by simp only[zz];rfl) (by exact aR) hB1 (by simp) (by simp [Value.oneCell']) ?_;clear hB1;intro w3 hC hB1;replace hX:=hX.chg hC hG1;clear hC;simp only[zy,zx,bG,Nat.reduceAdd] at hB1;refine aG (hK17 _ _ ?_);refine wp_ret ?_;try simp only[Exit.inBlock,Exit.then]
    refine bO rfl ⟨_,rfl,(hB1.lies bY aR rfl rfl)⟩ ?_;try simp only[zD,zE]
    exact ⟨_,rfl,hX,rfl⟩
end Go.Proofs.YtfohfflkhpfjeaaGreatDoor
namespace Go.Proofs.YtfohfflkhpfjeaaGreatDoor
open Go.Proofs.Tryz
open Go.RowKit Go.Lith
set_option maxRecDepth 100000
attribute [local irreducible] wpList wpQuiet dY Code.wp
end Go.Proofs.YtfohfflkhpfjeaaGreatDoor
namespace Go.Proofs.YtfohfflkhpfjeaaGreatDoor
open Go.Proofs.Tryz
open Go.RowKit Go.Lith
set_option maxRecDepth 100000
attribute [local irreducible] wpList wpQuiet dY Code.wp
theorem aeG {a : Int} (ha : Bd 1000000 a) (h0 : 0 ≤ a) : jG prog 92 [W a] (.bool false):=by
 intro w;refine ⟨ags,?_⟩;have hX:=dJ.refl w;have hw : iJ a = false:=decide_eq_false (by omega)
 go_enter func92,ntmps92
 refine aD (fun K1 hK1=>wp_region_lit ?_);refine lB (by simp only[zz];rfl) ?_;intro w1 g1 hE hg1 hB1;have hG1:=Nat.le_trans hX.size hg1;replace hX:=hX.trans hE;clear hE hg1;simp only[zz];refine aA (aC) ?_;simp only[zz];refine aG (hK1 _ _ ?_);refine aD (fun K2 hK2=>?_);rw [hw] at hB1
 ·
  refine wp_region_lit (aA (aN (c:=0) gN rfl fF rfl rfl) ?_);simp only[zz];refine aK rfl (hB1.lies1 jR rfl) ?_;simp only[zz];refine aA (aB) ?_;simp only[zz];refine cD rfl ?_;simp only[zz];refine cD rfl ?_;simp only[zz];refine cD rfl ?_;simp only[zz];refine cD rfl ?_;simp only[zz];refine aA (fL rfl) (aA (aC) ?_);simp only[zz];refine aG (hK2 _ _ ?_);refine wp_ret ?_;try simp only[Exit.inBlock,Exit.then]
  refine bO rfl rfl ?_;try simp only[zD,zE]
  exact ⟨_,rfl,hX,rfl⟩
theorem acM {a : Int} (ha : Bd 1000000 a) (h0 : 0 ≤ a) : jG prog 49 [W a] (.tuple #[W (eG a.natAbs : Int),.bool true]):=by
 intro w;refine ⟨afM,?_⟩;have hX:=dJ.refl w;have hla : (digs 65536 a.natAbs).length ≤ 1000000:=pE ha;obtain ⟨X,hXa⟩ : ∃ X,X = a.natAbs:=⟨_,rfl⟩
 obtain ⟨K,hK⟩ : ∃ K,K = ((digs 65536 X).length + 1) / 2:=⟨_,rfl⟩
 rw [← hXa] at hla;have hXd : X < 65536 ^ (digs 65536 X).length:=by have:=iD (kG X);rwa [eM] at this
 have hst:=Xe (K:=K) hXd (by omega);rw [← hXa]
 go_enter func49,ntmps49
 refine aD (fun K1 hK1=>wp_region_lit ?_);refine lB (by simp only[zz];rfl) ?_;intro w1 g1 hE hg1 hB1;have hG1:=Nat.le_trans hX.size hg1;replace hX:=hX.trans hE;clear hE;simp only[zz];refine jW fC rfl ?_;intro w2 g2 hE hg2 hB2;have hG2:=Nat.le_trans hX.size hg2;have hN2_1 : g2 ≠ g1:=Nat.ne_of_gt (Nat.lt_of_lt_of_le hB1.lt hg2);have hL2_1:=Nat.lt_of_lt_of_le hB1.lt hg2;replace hB1:=hB1.ext hE;replace hX:=hX.trans hE;clear hE;simp only[zz];refine aA (aC) ?_;simp only[zz];refine aG (hK1 _ _ ?_);refine aD (fun K2 hK2=>aD (fun K3 hK3=>wp_region_lit ?_));refine aK rfl (hB1.lies bY aR rfl rfl) ?_;simp only[zz];refine vV rfl rfl (aeG ha h0) ?_;intro w3 hE;replace hB1:=hB1.ext hE;replace hB2:=hB2.ext hE;replace hX:=hX.trans hE;clear hE;simp only[zz];refine aG (hK3 _ _ ?_);refine iO rfl (wp_skip ?_);refine hK2 _ _ (aD (fun K4 hK4=>wp_region_lit ?_));refine aK rfl (hB1.lies bY aR rfl rfl) ?_;simp only[zz];refine bA rfl rfl (pF _ (gU ha)) ?_;rintro v w4 hE ⟨A4,c4,rfl,hD4⟩;replace hB2:=hB2.ext hE;(try replace hD4:=hD4.ext hE);replace hX:=hX.trans hE;clear hE;rw [gK,← hXa] at hD4 ⊢;simp only[zz];refine aA (aC) ?_;simp only[zz];refine aG (hK4 _ _ ?_);refine aD (fun K5 hK5=>wp_region_lit (aA (aC) ?_));simp only[zz];refine aG (hK5 _ _ ?_);refine aD (fun K6 hK6=>aD (fun K7 hK7=>wp_region_lit (aA (aB) (aA (aW rfl bW rfl) (aA (aP rfl rfl (aM (by omega) (by omega))) ?_)))));simp only[zz];rw [show (((digs 65536 X).length : Int) + 1) = (((digs 65536 X).length + 1 : Nat) : Int) by omega];refine aA (gW rfl rfl (by omega) (lN (m:=(digs 65536 X).length + 1) (n:=2) (by omega))) (aA (eR rfl rfl (aM (by omega) (by omega))) (aA (aC) ?_));simp only[zz];refine aG ?_;rw [← hK];refine hK7 _ _ (wp_block ?_);refine bH [5,6] [7,8,9,10,11,22,23,24,25,26,27,28,29,30,31,32,33,34,35,36,37,38,39,40,41,42,43,44,45,46,47,48,49,50,51,52,53,54,55,56,57] (fun n vs wl=>∃ (k : Nat) (rs : List Nat) (A5 : Option Addr) (c5 : Nat),vs = [.slice A5 rs.length c5,.int .i64 ((k:Int) - 1)] ∧ (dJ w wl) ∧ (gJ wl g2 [.bool false,.string ⟨#[]⟩] 65) ∧ (cX wl wl.heap.size A4 (digs 65536 X).length c4 (digs 65536 X)) ∧ (cX wl wl.heap.size A5 rs.length c5 rs) ∧ (rs.length + k = K) ∧ (cY 65536 rs) ∧ (val 65536 rs * val 65536 rs * 65536 ^ (2 * k) ≤ X) ∧ (X < (val 65536 rs + 1) * (val 65536 rs + 1) * 65536 ^ (2 * k)) ∧ (n = k)) ?_ ?_
 ·
  apply Exists.intro;simp only[zQ,zR,zD,zE];exact ⟨K,[],none,0,rfl,hX,hB2,hD4.here,cX.nil _ _,by simp,kQ _,by simp [val],hst,rfl⟩
 ·
  intro n vs wr hI u;obtain ⟨k,rs,A5,c5,rfl,hX,hB2,hD4,hD5,hrl,hrd,hr1,hr2,hn⟩:=hI;simp only[zu,zF,zG];refine aD (fun K8 hK8=>aD (fun K9 hK9=>wp_region_lit (aA (aB) (aA (pM rfl rfl) ?_))));simp only[zz];refine aG (hK9 _ _ ?_);refine bZ rfl (fun hc2=>?_) (fun hc2=>?_)
  ·
   obtain ⟨i,rfl⟩ : ∃ i,k = i + 1:=⟨k - 1,by omega⟩
   rw [show (((i + 1 : Nat) : Int) - 1) = (i : Int) by omega];refine wp_skip (hK8 _ _ ?_);refine aD (fun K10 hK10=>wp_block (aD (fun K11 hK11=>wp_region_lit (aA (aC) ?_))));simp only[zz];refine aG (hK11 _ _ ?_);refine aD (fun K12 hK12=>wp_region_lit (aA (aC) ?_));simp only[zz];refine aG (hK12 _ _ ?_);refine aD (fun K13 hK13=>wp_block ?_);refine bH [7,8] [9,10,11,26,27,28,29,30,31,32,33,34,35,36,37,38,39,40,41,42,43,44,45,46,47,48,49,50,51,52,53] (fun n vs wl=>∃ (low high : Nat),vs = [.int .i64 (low:Int),.int .i64 (high:Int)] ∧ (dJ w wl) ∧ (gJ wl g2 [.bool false,.string ⟨#[]⟩] 65) ∧ (cX wl wl.heap.size A4 (digs 65536 X).length c4 (digs 65536 X)) ∧ (cX wl wl.heap.size A5 rs.length c5 rs) ∧ ((low + 65536 * val 65536 rs) * (low + 65536 * val 65536 rs) * 65536 ^ (2 * i) ≤ X) ∧ (X < (high + 65536 * val 65536 rs) * (high + 65536 * val 65536 rs) * 65536 ^ (2 * i)) ∧ (low < high) ∧ (high ≤ 65536) ∧ (n = high - low)) ?_ ?_
   ·
    apply Exists.intro;simp only[zQ,zR,zD,zE];exact ⟨0,65536,rfl,hX,hB2,hD4.here,hD5.here,aa0 hr1,Xf hr2,by omega,by omega,rfl⟩
   ·
    intro n vs wr hI u;obtain ⟨low,high,rfl,hX,hB2,hD4,hD5,hlow,hhigh,hl1,hl2,hn2⟩:=hI;simp only[zu,zF,zG];refine aD (fun K14 hK14=>aD (fun K15 hK15=>wp_region_lit (aA (aB) (aA (aB) (aA (eR rfl rfl (aM (by omega) (by omega))) ?_)))));simp only[zz];refine aA (oU rfl rfl) ?_;simp only[zz];refine aG (hK15 _ _ ?_);refine bZ rfl (fun hc3=>?_) (fun hc3=>?_)
    ·
     have hm1 : low < (low + high) / 2:=by omega
     have hm2 : (low + high) / 2 < high:=by omega
     refine wp_skip ?_;refine hK14 _ _ (wp_block (aD (fun K16 hK16=>wp_region_lit (aA (aB) (aA (aB) (aA (aP rfl rfl (aM (by omega) (by omega))) ?_))))));simp only[zz];rw [show ((low : Int) + (high : Int)) = ((low + high : Nat) : Int) by omega];refine aA (gW rfl rfl (by omega) (lN (m:=low + high) (n:=2) (by omega))) (aA (aC) ?_);simp only[zz];refine aG ?_;obtain ⟨m,hm⟩ : ∃ m,m = (low + high) / 2:=⟨_,rfl⟩
     rw [← hm] at hm1 hm2 ⊢;have hm16 : m < 65536:=by omega
     refine hK16 _ _ ?_;refine aD (fun K17 hK17=>?_);obtain ⟨b12,hS12,hD4,hD5⟩:=Gg hD4 hD5;refine wp_region_lit (aA (aB) ?_);simp only[zz];refine fG bW (z:=.int .i64 0) (by kernel_rfl) rfl (by simp only[zz];rfl) (by rfl) ?_;intro w5 g3 hE hg3 hB3;have hb12:=Nat.le_trans hS12.h hg3;have hG3:=Nat.le_trans hX.size hg3;have hN3_2 : g3 ≠ g2:=Nat.ne_of_gt (Nat.lt_of_lt_of_le hB2.lt hg3);have hL3_2:=Nat.lt_of_lt_of_le hB2.lt hg3;replace hB2:=hB2.ext hE;(try replace hD4:=hD4.ext hE);(try replace hD5:=hD5.ext hE);replace hX:=hX.trans hE;clear hE;simp only[zz];refine aA (aB) ?_;simp only[zz];have hO6:=jA.full (base:=g3) (n:=1) hB3 (Nat.le_refl _) rfl (by omega);refine pY rfl bW lE rfl (by decide) rfl hO6 rfl (news:=rs.map pS) (by simp) hD5.rows (fun u hu=>by obtain ⟨x,_,rfl⟩:=List.mem_map.1 hu;rfl) (by omega) (by omega) (Nat.le_of_lt hB3.lt) ?_;intro v6 w9 hO hGr _;replace hX:=hX.grown hGr hG3;replace hB2:=hB2.grew hGr hL3_2;replace hD4:=(hD4.grew hGr hb12).here;replace hD5:=(hD5.grew hGr hb12).here;clear hB3 hO6;obtain ⟨A6,c6,rfl,hD6,_⟩:=cX.of_owns (xs:=m :: rs) (by simpa [Nat.add_comm] using hO) (by first | simp;done | (simp only[List.length_cons];omega)) (lK (by omega) hrd) (by omega);simp only[zz];refine aA (aC) ?_;simp only[zz];refine aG (hK17 _ _ ?_);refine aD (fun K18 hK18=>?_);obtain ⟨b12,hS12,hD4,hD5⟩:=Gg hD4 hD5;refine uT (.take 0 (.take 1 (.take 3 (.take 5 (.two 2 (.one 4 (.one 6 (.one 7 (.one 8 (.take 9 .nil))))) 4 (.two 2 (.one 6 (.one 7 (.one 8 (.take 9 .nil)))) 6 (.two 2 (.one 7 (.one 8 (.take 9 .nil))) 7 (.one 2 (.one 8 (.take 9 .nil)))))))))) aO (by kernel_rfl) (dL (fun _ _ _ _ _ h=>h)) ?_;intro w6 hE;replace hB2:=hB2.ext hE;(try replace hD4:=hD4.ext hE);(try replace hD5:=hD5.ext hE);(try replace hD6:=hD6.ext hE);(try replace hS12:=hS12.ext hE);replace hX:=hX.trans hE;clear hE;refine ⟨_,lT.nil,?_⟩;refine dW (by simp only[zw];rfl) (aZ (aB) ?_);simp only[zz];refine dN ?_;refine dW (by simp only[zw];rfl) (aZ (fJ rfl rfl ((aM (by omega) (by omega)).trans (show (2 : Int) * (i : Int) = ((2 * i : Nat) : Int) by omega))) ?_);simp only[zz];refine dN ?_;refine dW (by simp only[zw];rfl) (aZ (aB) ?_);simp only[zz];refine dN ?_;refine dW (by simp only[zw];rfl) (aZ (aB) ?_);simp only[zz];refine dN ?_;refine Eg (by simp only[zw];rfl) (by simp only[zw];rfl) ?_ ?_
     ·
      refine jO bW lE rfl rfl rfl (show _ = 2 * i by omega) (show _ = 2 * i by omega) (by omega) (by omega) (by omega) (by omega) ?_;intro w7 g4 hE hg4 hB4;have hb12:=Nat.le_trans hS12.h hg4;have hG4:=Nat.le_trans hX.size hg4;have hN4_2 : g4 ≠ g2:=Nat.ne_of_gt (Nat.lt_of_lt_of_le hB2.lt hg4);have hL4_2:=Nat.lt_of_lt_of_le hB2.lt hg4;replace hB2:=hB2.ext hE;(try replace hD4:=hD4.ext hE);(try replace hD5:=hD5.ext hE);(try replace hD6:=hD6.ext hE);replace hX:=hX.trans hE;clear hE;simp only[zz];refine aG (⟨trivial,?_⟩);refine jH (by simp only[zw];rfl) ?_;refine bA rfl rfl (oP _ hD6) ?_;rintro v w8 hE rfl;replace hB2:=hB2.ext hE;replace hB4:=hB4.ext hE;(try replace hD4:=hD4.ext hE);(try replace hD5:=hD5.ext hE);(try replace hD6:=hD6.ext hE);replace hX:=hX.trans hE;clear hE;simp only[zz];refine aG (⟨trivial,?_⟩);refine jH (by simp only[zw];rfl) ?_;refine bA rfl rfl (oP _ hD6) ?_;rintro v w9 hE rfl;replace hB2:=hB2.ext hE;replace hB4:=hB4.ext hE;(try replace hD4:=hD4.ext hE);(try replace hD5:=hD5.ext hE);(try replace hD6:=hD6.ext hE);replace hX:=hX.trans hE;clear hE;simp only[zz];refine aG (⟨trivial,?_⟩);refine jH (by simp only[zw];rfl) ?_;have hl6:=jB (m :: rs);simp only[List.length_cons] at hl6;refine bA rfl rfl (Ah _ hD6.trimmed hD6.trimmed (by omega) (by omega)) ?_;rintro v w10 hE ⟨⟨A8,c8,rfl,hD8⟩,_⟩;replace hB2:=hB2.ext hE;replace hB4:=hB4.ext hE;(try replace hD4:=hD4.ext hE);(try replace hD5:=hD5.ext hE);(try replace hD8:=hD8.ext hE);replace hX:=hX.trans hE;clear hE;simp only[jP] at hD8 ⊢;simp only[zz];refine aG (⟨trivial,?_⟩);refine jH (by simp only[zw];rfl) ?_;have hl8 : (digs 65536 (val 65536 (m :: rs) * val 65536 (m :: rs))).length ≤ 2 * (rs.length + 1):=Ll hm16 hrd;have hO7:=jA.full (base:=g4) (n:=2 * i) hB4 (Nat.le_refl _) (by simp) (by omega);refine pY rfl bW lE rfl (by decide) rfl hO7 rfl (news:=(digs 65536 (val 65536 (m :: rs) * val 65536 (m :: rs))).map pS) (by simp) hD8.rows (fun u hu=>by obtain ⟨x,_,rfl⟩:=List.mem_map.1 hu;rfl) (by omega) (by omega) (Nat.le_of_lt hB4.lt) ?_;intro v6 w9 hO hGr _;replace hX:=hX.grown hGr hG4;replace hB2:=hB2.grew hGr hL4_2;replace hD4:=(hD4.grew hGr hb12).here;replace hD5:=(hD5.grew hGr hb12).here;clear hB4 hO7;obtain ⟨A9,c9,rfl,hD9,_⟩:=cX.of_owns (xs:=List.replicate (2 * i) 0 ++ digs 65536 (val 65536 (m :: rs) * val 65536 (m :: rs))) (by rw [List.map_append,← mF];exact hO) (by simp) (fun x hx=>by rcases List.mem_append.1 hx with h | h;rw [List.eq_of_mem_replicate h];decide;exact kG _ x h) (by omega);simp only[zz];refine aG (⟨trivial,?_⟩);refine dW (by simp only[zw];rfl) (aZ (aC) ?_);simp only[zz];refine dN (sA ?_);refine hK18 _ _ (aD (fun K19 hK19=>wp_region_lit (aA (aB) ?_)));simp only[zz];refine bA rfl rfl (oP _ hD9) ?_;rintro v w11 hE rfl;replace hB2:=hB2.ext hE;(try replace hD4:=hD4.ext hE);(try replace hD5:=hD5.ext hE);(try replace hD9:=hD9.ext hE);replace hX:=hX.trans hE;clear hE;simp only[zz];refine aA (aB) ?_;simp only[zz];have hT9:=hD9.trimmed;refine bA rfl rfl (sS _ hT9 hD4 (kH _) (kD _)) ?_;rintro v w12 hE rfl;replace hB2:=hB2.ext hE;(try replace hD4:=hD4.ext hE);(try replace hD5:=hD5.ext hE);replace hX:=hX.trans hE;clear hE;rw [jP,eM,Af];simp only[zz];refine aA (Ds rfl rfl) ?_;simp only[zz];refine aG (hK19 _ _ ?_);refine bZ rfl (fun hc4=>?_) (fun hc4=>?_)
      ·
       have hle4:=lI.1 hc4;refine wp_region_lit (aA (aB) (aA (aC) ?_));simp only[zz];refine aG ?_;simp only[Exit.inBlock,Exit.then];refine ⟨high - m,_,?_,rfl,?_,?_⟩
       · omega
       · simp only[zz,zv]
       ·
        simp only[zQ,zR,zD,zE];exact ⟨m,high,rfl,hX,hB2,hD4.here,hD5.here,hle4,hhigh,hm2,hl2,rfl⟩
      ·
       have hle4:=Nat.lt_of_not_le fun h=>hc4 (lI.2 h);refine wp_region_lit (aA (aB) (aA (aC) ?_));simp only[zz];refine aG ?_;simp only[Exit.inBlock,Exit.then];refine ⟨m - low,_,?_,rfl,?_,?_⟩
       · omega
       · simp only[zz,zv]
       ·
        simp only[zQ,zR,zD,zE];exact ⟨low,m,rfl,hX,hB2,hD4.here,hD5.here,hlow,hle4,hm1,by omega,rfl⟩
     ·
      refine bA rfl rfl (oP _ hD6) ?_;rintro v w7 hE rfl;replace hB2:=hB2.ext hE;(try replace hD4:=hD4.ext hE);(try replace hD5:=hD5.ext hE);(try replace hD6:=hD6.ext hE);(try replace hS12:=hS12.ext hE);replace hX:=hX.trans hE;clear hE;simp only[zz];refine aG (⟨trivial,?_⟩);refine Eg (by simp only[zw];rfl) (by simp only[zw];rfl) ?_ ?_
      ·
       refine jO bW lE rfl rfl rfl (show _ = 2 * i by omega) (show _ = 2 * i by omega) (by omega) (by omega) (by omega) (by omega) ?_;intro w8 g4 hE hg4 hB4;have hb12:=Nat.le_trans hS12.h hg4;have hG4:=Nat.le_trans hX.size hg4;have hN4_2 : g4 ≠ g2:=Nat.ne_of_gt (Nat.lt_of_lt_of_le hB2.lt hg4);have hL4_2:=Nat.lt_of_lt_of_le hB2.lt hg4;replace hB2:=hB2.ext hE;(try replace hD4:=hD4.ext hE);(try replace hD5:=hD5.ext hE);(try replace hD6:=hD6.ext hE);replace hX:=hX.trans hE;clear hE;simp only[zz];refine aG (⟨trivial,?_⟩);refine jH (by simp only[zw];rfl) ?_;refine bA rfl rfl (oP _ hD6) ?_;rintro v w9 hE rfl;replace hB2:=hB2.ext hE;replace hB4:=hB4.ext hE;(try replace hD4:=hD4.ext hE);(try replace hD5:=hD5.ext hE);(try replace hD6:=hD6.ext hE);replace hX:=hX.trans hE;clear hE;simp only[zz];refine aG (⟨trivial,?_⟩);refine jH (by simp only[zw];rfl) ?_;have hl6:=jB (m :: rs);simp only[List.length_cons] at hl6;refine bA rfl rfl (Ah _ hD6.trimmed hD6.trimmed (by omega) (by omega)) ?_;rintro v w10 hE ⟨⟨A8,c8,rfl,hD8⟩,_⟩;replace hB2:=hB2.ext hE;replace hB4:=hB4.ext hE;(try replace hD4:=hD4.ext hE);(try replace hD5:=hD5.ext hE);(try replace hD8:=hD8.ext hE);replace hX:=hX.trans hE;clear hE;simp only[jP] at hD8 ⊢;simp only[zz];refine aG (⟨trivial,?_⟩);refine jH (by simp only[zw];rfl) ?_;have hl8 : (digs 65536 (val 65536 (m :: rs) * val 65536 (m :: rs))).length ≤ 2 * (rs.length + 1):=Ll hm16 hrd;have hO7:=jA.full (base:=g4) (n:=2 * i) hB4 (Nat.le_refl _) (by simp) (by omega);refine pY rfl bW lE rfl (by decide) rfl hO7 rfl (news:=(digs 65536 (val 65536 (m :: rs) * val 65536 (m :: rs))).map pS) (by simp) hD8.rows (fun u hu=>by obtain ⟨x,_,rfl⟩:=List.mem_map.1 hu;rfl) (by omega) (by omega) (Nat.le_of_lt hB4.lt) ?_;intro v6 w9 hO hGr _;replace hX:=hX.grown hGr hG4;replace hB2:=hB2.grew hGr hL4_2;replace hD4:=(hD4.grew hGr hb12).here;replace hD5:=(hD5.grew hGr hb12).here;clear hB4 hO7;obtain ⟨A9,c9,rfl,hD9,_⟩:=cX.of_owns (xs:=List.replicate (2 * i) 0 ++ digs 65536 (val 65536 (m :: rs) * val 65536 (m :: rs))) (by rw [List.map_append,← mF];exact hO) (by simp) (fun x hx=>by rcases List.mem_append.1 hx with h | h;rw [List.eq_of_mem_replicate h];decide;exact kG _ x h) (by omega);simp only[zz];refine aG (⟨trivial,?_⟩);refine dW (by simp only[zw];rfl) (aZ (aC) ?_);simp only[zz];refine dN (sA ?_);refine hK18 _ _ (aD (fun K20 hK20=>wp_region_lit (aA (aB) ?_)));simp only[zz];refine bA rfl rfl (oP _ hD9) ?_;rintro v w11 hE rfl;replace hB2:=hB2.ext hE;(try replace hD4:=hD4.ext hE);(try replace hD5:=hD5.ext hE);(try replace hD9:=hD9.ext hE);replace hX:=hX.trans hE;clear hE;simp only[zz];refine aA (aB) ?_;simp only[zz];have hT9:=hD9.trimmed;refine bA rfl rfl (sS _ hT9 hD4 (kH _) (kD _)) ?_;rintro v w12 hE rfl;replace hB2:=hB2.ext hE;(try replace hD4:=hD4.ext hE);(try replace hD5:=hD5.ext hE);replace hX:=hX.trans hE;clear hE;rw [jP,eM,Af];simp only[zz];refine aA (Ds rfl rfl) ?_;simp only[zz];refine aG (hK20 _ _ ?_);refine bZ rfl (fun hc4=>?_) (fun hc4=>?_)
       ·
        have hle4:=lI.1 hc4;refine wp_region_lit (aA (aB) (aA (aC) ?_));simp only[zz];refine aG ?_;simp only[Exit.inBlock,Exit.then];refine ⟨high - m,_,?_,rfl,?_,?_⟩
        · omega
        · simp only[zz,zv]
        ·
         simp only[zQ,zR,zD,zE];exact ⟨m,high,rfl,hX,hB2,hD4.here,hD5.here,hle4,hhigh,hm2,hl2,rfl⟩
       ·
        have hle4:=Nat.lt_of_not_le fun h=>hc4 (lI.2 h);refine wp_region_lit (aA (aB) (aA (aC) ?_));simp only[zz];refine aG ?_;simp only[Exit.inBlock,Exit.then];refine ⟨m - low,_,?_,rfl,?_,?_⟩
        · omega
        · simp only[zz,zv]
        ·
         simp only[zQ,zR,zD,zE];exact ⟨low,m,rfl,hX,hB2,hD4.here,hD5.here,hlow,hle4,hm1,by omega,rfl⟩
      ·
       refine bA rfl rfl (oP _ hD6) ?_;rintro v w8 hE rfl;replace hB2:=hB2.ext hE;(try replace hD4:=hD4.ext hE);(try replace hD5:=hD5.ext hE);(try replace hD6:=hD6.ext hE);(try replace hS12:=hS12.ext hE);replace hX:=hX.trans hE;clear hE;simp only[zz];refine aG (⟨trivial,?_⟩);refine Eg (by simp only[zw];rfl) (by simp only[zw];rfl) ?_ ?_
       ·
        refine jO bW lE rfl rfl rfl (show _ = 2 * i by omega) (show _ = 2 * i by omega) (by omega) (by omega) (by omega) (by omega) ?_;intro w9 g4 hE hg4 hB4;have hb12:=Nat.le_trans hS12.h hg4;have hG4:=Nat.le_trans hX.size hg4;have hN4_2 : g4 ≠ g2:=Nat.ne_of_gt (Nat.lt_of_lt_of_le hB2.lt hg4);have hL4_2:=Nat.lt_of_lt_of_le hB2.lt hg4;replace hB2:=hB2.ext hE;(try replace hD4:=hD4.ext hE);(try replace hD5:=hD5.ext hE);(try replace hD6:=hD6.ext hE);replace hX:=hX.trans hE;clear hE;simp only[zz];refine aG (⟨trivial,?_⟩);refine jH (by simp only[zw];rfl) ?_;have hl6:=jB (m :: rs);simp only[List.length_cons] at hl6;refine bA rfl rfl (Ah _ hD6.trimmed hD6.trimmed (by omega) (by omega)) ?_;rintro v w10 hE ⟨⟨A8,c8,rfl,hD8⟩,_⟩;replace hB2:=hB2.ext hE;replace hB4:=hB4.ext hE;(try replace hD4:=hD4.ext hE);(try replace hD5:=hD5.ext hE);(try replace hD8:=hD8.ext hE);replace hX:=hX.trans hE;clear hE;simp only[jP] at hD8 ⊢;simp only[zz];refine aG (⟨trivial,?_⟩);refine jH (by simp only[zw];rfl) ?_;have hl8 : (digs 65536 (val 65536 (m :: rs) * val 65536 (m :: rs))).length ≤ 2 * (rs.length + 1):=Ll hm16 hrd;have hO7:=jA.full (base:=g4) (n:=2 * i) hB4 (Nat.le_refl _) (by simp) (by omega);refine pY rfl bW lE rfl (by decide) rfl hO7 rfl (news:=(digs 65536 (val 65536 (m :: rs) * val 65536 (m :: rs))).map pS) (by simp) hD8.rows (fun u hu=>by obtain ⟨x,_,rfl⟩:=List.mem_map.1 hu;rfl) (by omega) (by omega) (Nat.le_of_lt hB4.lt) ?_;intro v6 w9 hO hGr _;replace hX:=hX.grown hGr hG4;replace hB2:=hB2.grew hGr hL4_2;replace hD4:=(hD4.grew hGr hb12).here;replace hD5:=(hD5.grew hGr hb12).here;clear hB4 hO7;obtain ⟨A9,c9,rfl,hD9,_⟩:=cX.of_owns (xs:=List.replicate (2 * i) 0 ++ digs 65536 (val 65536 (m :: rs) * val 65536 (m :: rs))) (by rw [List.map_append,← mF];exact hO) (by simp) (fun x hx=>by rcases List.mem_append.1 hx with h | h;rw [List.eq_of_mem_replicate h];decide;exact kG _ x h) (by omega);simp only[zz];refine aG (⟨trivial,?_⟩);refine dW (by simp only[zw];rfl) (aZ (aC) ?_);simp only[zz];refine dN (sA ?_);refine hK18 _ _ (aD (fun K21 hK21=>wp_region_lit (aA (aB) ?_)));simp only[zz];refine bA rfl rfl (oP _ hD9) ?_;rintro v w11 hE rfl;replace hB2:=hB2.ext hE;(try replace hD4:=hD4.ext hE);(try replace hD5:=hD5.ext hE);(try replace hD9:=hD9.ext hE);replace hX:=hX.trans hE;clear hE;simp only[zz];refine aA (aB) ?_;simp only[zz];have hT9:=hD9.trimmed;refine bA rfl rfl (sS _ hT9 hD4 (kH _) (kD _)) ?_;rintro v w12 hE rfl;replace hB2:=hB2.ext hE;(try replace hD4:=hD4.ext hE);(try replace hD5:=hD5.ext hE);replace hX:=hX.trans hE;clear hE;rw [jP,eM,Af];simp only[zz];refine aA (Ds rfl rfl) ?_;simp only[zz];refine aG (hK21 _ _ ?_);refine bZ rfl (fun hc4=>?_) (fun hc4=>?_)
        ·
         have hle4:=lI.1 hc4;refine wp_region_lit (aA (aB) (aA (aC) ?_));simp only[zz];refine aG ?_;simp only[Exit.inBlock,Exit.then];refine ⟨high - m,_,?_,rfl,?_,?_⟩
         · omega
         · simp only[zz,zv]
         ·
          simp only[zQ,zR,zD,zE];exact ⟨m,high,rfl,hX,hB2,hD4.here,hD5.here,hle4,hhigh,hm2,hl2,rfl⟩
        ·
         have hle4:=Nat.lt_of_not_le fun h=>hc4 (lI.2 h);refine wp_region_lit (aA (aB) (aA (aC) ?_));simp only[zz];refine aG ?_;simp only[Exit.inBlock,Exit.then];refine ⟨m - low,_,?_,rfl,?_,?_⟩
         · omega
         · simp only[zz,zv]
         ·
          simp only[zQ,zR,zD,zE];exact ⟨low,m,rfl,hX,hB2,hD4.here,hD5.here,hlow,hle4,hm1,by omega,rfl⟩
       ·
        have hl6:=jB (m :: rs);simp only[List.length_cons] at hl6;refine bA rfl rfl (Ah _ hD6.trimmed hD6.trimmed (by omega) (by omega)) ?_;rintro v w9 hE ⟨⟨A8,c8,rfl,hD8⟩,_⟩;replace hB2:=hB2.ext hE;(try replace hD4:=hD4.ext hE);(try replace hD5:=hD5.ext hE);(try replace hD8:=hD8.ext hE);(try replace hS12:=hS12.ext hE);replace hX:=hX.trans hE;clear hE;simp only[jP] at hD8 ⊢;simp only[zz];refine aG (⟨trivial,?_⟩);refine jH (by simp only[zw];rfl) ?_;refine jO bW lE rfl rfl rfl (show _ = 2 * i by omega) (show _ = 2 * i by omega) (by omega) (by omega) (by omega) (by omega) ?_;intro w10 g4 hE hg4 hB4;have hb12:=Nat.le_trans hS12.h hg4;have hG4:=Nat.le_trans hX.size hg4;have hN4_2 : g4 ≠ g2:=Nat.ne_of_gt (Nat.lt_of_lt_of_le hB2.lt hg4);have hL4_2:=Nat.lt_of_lt_of_le hB2.lt hg4;replace hB2:=hB2.ext hE;(try replace hD4:=hD4.ext hE);(try replace hD5:=hD5.ext hE);(try replace hD8:=hD8.ext hE);replace hX:=hX.trans hE;clear hE;simp only[zz];refine aG (⟨trivial,?_⟩);refine jH (by simp only[zw];rfl) ?_;have hl8 : (digs 65536 (val 65536 (m :: rs) * val 65536 (m :: rs))).length ≤ 2 * (rs.length + 1):=Ll hm16 hrd;have hO7:=jA.full (base:=g4) (n:=2 * i) hB4 (Nat.le_refl _) (by simp) (by omega);refine pY rfl bW lE rfl (by decide) rfl hO7 rfl (news:=(digs 65536 (val 65536 (m :: rs) * val 65536 (m :: rs))).map pS) (by simp) hD8.rows (fun u hu=>by obtain ⟨x,_,rfl⟩:=List.mem_map.1 hu;rfl) (by omega) (by omega) (Nat.le_of_lt hB4.lt) ?_;intro v6 w9 hO hGr _;replace hX:=hX.grown hGr hG4;replace hB2:=hB2.grew hGr hL4_2;replace hD4:=(hD4.grew hGr hb12).here;replace hD5:=(hD5.grew hGr hb12).here;clear hB4 hO7;obtain ⟨A9,c9,rfl,hD9,_⟩:=cX.of_owns (xs:=List.replicate (2 * i) 0 ++ digs 65536 (val 65536 (m :: rs) * val 65536 (m :: rs))) (by rw [List.map_append,← mF];exact hO) (by simp) (fun x hx=>by rcases List.mem_append.1 hx with h | h;rw [List.eq_of_mem_replicate h];decide;exact kG _ x h) (by omega);simp only[zz];refine aG (⟨trivial,?_⟩);refine dW (by simp only[zw];rfl) (aZ (aC) ?_);simp only[zz];refine dN (sA ?_);refine hK18 _ _ (aD (fun K22 hK22=>wp_region_lit (aA (aB) ?_)));simp only[zz];refine bA rfl rfl (oP _ hD9) ?_;rintro v w11 hE rfl;replace hB2:=hB2.ext hE;(try replace hD4:=hD4.ext hE);(try replace hD5:=hD5.ext hE);(try replace hD9:=hD9.ext hE);replace hX:=hX.trans hE;clear hE;simp only[zz];refine aA (aB) ?_;simp only[zz];have hT9:=hD9.trimmed;refine bA rfl rfl (sS _ hT9 hD4 (kH _) (kD _)) ?_;rintro v w12 hE rfl;replace hB2:=hB2.ext hE;(try replace hD4:=hD4.ext hE);(try replace hD5:=hD5.ext hE);replace hX:=hX.trans hE;clear hE;rw [jP,eM,Af];simp only[zz];refine aA (Ds rfl rfl) ?_;simp only[zz];refine aG (hK22 _ _ ?_);refine bZ rfl (fun hc4=>?_) (fun hc4=>?_)
        ·
         have hle4:=lI.1 hc4;refine wp_region_lit (aA (aB) (aA (aC) ?_));simp only[zz];refine aG ?_;simp only[Exit.inBlock,Exit.then];refine ⟨high - m,_,?_,rfl,?_,?_⟩
         · omega
         · simp only[zz,zv]
         ·
          simp only[zQ,zR,zD,zE];exact ⟨m,high,rfl,hX,hB2,hD4.here,hD5.here,hle4,hhigh,hm2,hl2,rfl⟩
        ·
         have hle4:=Nat.lt_of_not_le fun h=>hc4 (lI.2 h);refine wp_region_lit (aA (aB) (aA (aC) ?_));simp only[zz];refine aG ?_;simp only[Exit.inBlock,Exit.then];refine ⟨m - low,_,?_,rfl,?_,?_⟩
         · omega
         · simp only[zz,zv]
         ·
          simp only[zQ,zR,zD,zE];exact ⟨low,m,rfl,hX,hB2,hD4.here,hD5.here,hlow,hle4,hm1,by omega,rfl⟩
    ·
     refine wp_exit ?_;refine hK13 _ _ ?_;obtain ⟨b12,hS12,hD4,hD5⟩:=Gg hD4 hD5;refine wp_region_lit (aA (aB) ?_);simp only[zz];refine fG bW (z:=.int .i64 0) (by kernel_rfl) rfl (by simp only[zz];rfl) (by rfl) ?_;intro w5 g3 hE hg3 hB3;have hb12:=Nat.le_trans hS12.h hg3;have hG3:=Nat.le_trans hX.size hg3;have hN3_2 : g3 ≠ g2:=Nat.ne_of_gt (Nat.lt_of_lt_of_le hB2.lt hg3);have hL3_2:=Nat.lt_of_lt_of_le hB2.lt hg3;replace hB2:=hB2.ext hE;(try replace hD4:=hD4.ext hE);(try replace hD5:=hD5.ext hE);replace hX:=hX.trans hE;clear hE;simp only[zz];refine aA (aB) ?_;simp only[zz];have hO6:=jA.full (base:=g3) (n:=1) hB3 (Nat.le_refl _) rfl (by omega);refine pY rfl bW lE rfl (by decide) rfl hO6 rfl (news:=rs.map pS) (by simp) hD5.rows (fun u hu=>by obtain ⟨x,_,rfl⟩:=List.mem_map.1 hu;rfl) (by omega) (by omega) (Nat.le_of_lt hB3.lt) ?_;intro v6 w9 hO hGr _;replace hX:=hX.grown hGr hG3;replace hB2:=hB2.grew hGr hL3_2;replace hD4:=(hD4.grew hGr hb12).here;clear hB3 hO6;obtain ⟨A6,c6,rfl,hD6,_⟩:=cX.of_owns (xs:=low :: rs) (by simpa [Nat.add_comm] using hO) (by first | simp;done | (simp only[List.length_cons];omega)) (lK (by omega) hrd) (by omega);simp only[zz];refine aA (aC) ?_;simp only[zz];refine aG (hK10 _ _ ?_);refine wp_region_lit (aA (aB) (aA (eR rfl rfl (aM (by omega) (by omega))) (aA (aC) ?_)));simp only[zz];refine aG ?_;simp only[Exit.inBlock,Exit.then];refine ⟨i,_,?_,rfl,?_,?_⟩
     · omega
     · simp only[zz,zv]
     ·
      simp only[zQ,zR,zD,zE];exact ⟨i,low :: rs,A6,c6,rfl,hX,hB2,hD4.here,hD6.here,by simp;omega,lK (by omega) hrd,by rw [Gf];exact hlow,by rw [Gf];exact acC hhigh hc3,rfl⟩
  ·
   obtain rfl : k = 0:=by omega
   have hres:=aa1 hr1 hr2;refine wp_exit (hK6 _ _ ?_);refine aD (fun K23 hK23=>wp_region_lit (aA (aB) ?_));simp only[zz];refine bA rfl rfl (rF _ hD5 (by omega)) ?_;rintro v w5 hE rfl;replace hB2:=hB2.ext hE;replace hX:=hX.trans hE;clear hE;rw [hres,oA];simp only[zz];refine cZ rfl (by simp only[zz];rfl) (by exact aR) hB2 (by simp) (by simp [Value.oneCell']) ?_;clear hB2;intro w6 hC hB2;replace hX:=hX.chg hC hG2;clear hC;simp only[zy,zx,bG,Nat.reduceAdd] at hB2;refine aA (aC) ?_;simp only[zz];refine aG (hK23 _ _ ?_);refine wp_ret ?_;try simp only[Exit.inBlock,Exit.then]
   refine kE rfl ⟨_,rfl,(hB2.lies bY aR rfl rfl)⟩ rfl ?_;try simp only[zD,zE]
   exact ⟨_,rfl,hX,rfl⟩
end Go.Proofs.YtfohfflkhpfjeaaGreatDoor
namespace Go.Proofs.YtfohfflkhpfjeaaGreatDoor
open Go.Proofs.Tryz
open Go.RowKit Go.Lith
set_option maxRecDepth 100000
attribute [local irreducible] wpList wpQuiet dY dQ dO Code.wp
theorem agS {p : P3} : jG prog 129 [pt p] (.int .i64 p.x):=by
 intro w;refine ⟨aac,?_⟩;have m:=cA.refl w
 go_enter func129,ntmps129
 refine aD fun K1 k1=>wp_region_lit (eP m rfl ?_);clear m;intro g1 u m;refine aA (aC) (aG (k1 _ _ ?_));refine aD fun K2 k2=>wp_region_lit (aA (aN (c:=0) Bj rfl bD rfl rfl) ?_);simp only[zz];refine aK rfl ((m.b 0 rfl).lies1 bT rfl) ?_;simp only[zz];refine aA (aC) (aG (k2 _ _ ?_));refine wp_ret ?_;simp only[zz];try simp only[Exit.inBlock,Exit.then,if_true]
 refine bO rfl rfl ?_;try simp only[zD,zE]
 exact ⟨_,rfl,m.ext,rfl⟩
theorem agT {p : P3} : jG prog 130 [pt p] (.int .i64 p.y):=by
 intro w;refine ⟨aad,?_⟩;have m:=cA.refl w
 go_enter func130,ntmps130
 refine aD fun K1 k1=>wp_region_lit (eP m rfl ?_);clear m;intro g1 u m;refine aA (aC) (aG (k1 _ _ ?_));refine aD fun K2 k2=>wp_region_lit (aA (aN (c:=0) Bj rfl bD rfl rfl) ?_);simp only[zz];refine aK rfl ((m.b 0 rfl).lies1 bT rfl) ?_;simp only[zz];refine aA (aC) (aG (k2 _ _ ?_));refine wp_ret ?_;simp only[zz];try simp only[Exit.inBlock,Exit.then,if_true]
 refine bO rfl rfl ?_;try simp only[zD,zE]
 exact ⟨_,rfl,m.ext,rfl⟩
theorem agU {p : P3} : jG prog 131 [pt p] (.int .i64 p.z):=by
 intro w;refine ⟨aae,?_⟩;have m:=cA.refl w
 go_enter func131,ntmps131
 refine aD fun K1 k1=>wp_region_lit (eP m rfl ?_);clear m;intro g1 u m;refine aA (aC) (aG (k1 _ _ ?_));refine aD fun K2 k2=>wp_region_lit (aA (aN (c:=0) Bj rfl bD rfl rfl) ?_);simp only[zz];refine aK rfl ((m.b 0 rfl).lies1 bT rfl) ?_;simp only[zz];refine aA (aC) (aG (k2 _ _ ?_));refine wp_ret ?_;simp only[zz];try simp only[Exit.inBlock,Exit.then,if_true]
 refine bO rfl rfl ?_;try simp only[zD,zE]
 exact ⟨_,rfl,m.ext,rfl⟩
theorem aeH  : jG prog 111 [] (.agg #[.func (.func 129) #[] #[],.func (.func 130) #[] #[],.func (.func 131) #[] #[]]):=by
 intro w;refine ⟨aab,?_⟩;have m:=cA.refl w
 go_enter func111,ntmps111
 refine aD fun K1 k1=>wp_region_lit (bF m Ez rfl ?_);clear m;intro g1 u m;refine aG (k1 _ _ ?_);refine aD fun K2 k2=>wp_region_lit (aA (rB rfl rfl rfl) ?_);simp only[zz];refine aS m 0 rfl rfl rfl wF (dZ rfl) rfl ?_;clear m;intro u m;simp only[zy,zx,bG,zF,zG,Nat.reduceAdd] at m;refine aG (k2 _ _ ?_);refine wp_ret ?_;try simp only[Exit.inBlock,Exit.then,if_true]
 refine bO rfl ⟨_,rfl,((m.b 0 rfl).full Td wF)⟩ ?_;try simp only[zD,zE]
 exact ⟨_,rfl,m.ext,rfl⟩
theorem Pf {p q : P3} [I3 p] [I3 q] : jG prog 112 [pt p,pt q] (wv (q.sub p)):=by
 intro w;refine ⟨adI,?_⟩;have m:=cA.refl w
 go_enter func112,ntmps112
 refine aD fun K1 k1=>wp_region_lit (eP m rfl ?_);clear m;intro g1 u m;simp only[zz];refine eP m rfl ?_;clear m;intro g2 u m;simp only[zz];refine bF m Fa rfl ?_;clear m;intro g3 u m;refine aG (k1 _ _ ?_);refine aD fun K2 k2=>wp_region_lit ?_;simp only[zz];refine bF m Fa rfl ?_;clear m;intro g4 u m;refine aG (k2 _ _ ?_);refine aD fun K3 k3=>aD fun K4 k4=>wp_region_lit ?_;simp only[zz];refine gG m rfl rfl (aeH) ?_;clear m;intro u m;refine aA (aB) (aG (k4 _ _ ?_));refine wp_block (wp_loop_rounds 4 (dU (aD fun K5 k5=>wp_region_lit (aA (bX (m:=0) (n:=3) rfl rfl (by decide)) (aG (k5 _ _ ?_))))));refine aD fun K6 k6=>cG rfl (wp_skip (k6 _ _ ?_));refine aD fun K7 k7=>wp_block (aD fun K8 k8=>wp_region_lit (aA (aB) ?_));simp only[zz];refine aA (wX rfl rfl) (aA (aC) (aA (aC) (aG (k8 _ _ ?_))));simp only[zz];refine iU m 11 aO (by kernel_rfl) ?_;simp only[zy];refine aL (aB) (aL (aB) ?_);simp only[zz];refine ql rfl (fun u m=>((m.b 2 rfl).full aJ aF)) ?_;simp only[zz];refine tJ rfl rfl (agS) ?_;simp only[zz];refine tJ rfl rfl (xS Iw.h) (aL (aB) ?_);simp only[zz];refine ql rfl (fun u m=>((m.b 3 rfl).full aJ aF)) ?_;simp only[zz];refine tJ rfl rfl (agS) ?_;simp only[zz];refine tJ rfl rfl (xS Iw.h) ?_;simp only[zz];refine tJ rfl rfl (abe Bw.up Bw.up) (aL (aH rL aR rfl rfl (by decide) (by decide) rfl) (dK ?_));clear m;intro u m;simp only[zz];refine aS m 0 rfl rfl rfl aR (dZ rfl) rfl ?_;clear m;intro u m;simp only[zy,zx,bG,zF,zG,Nat.reduceAdd] at m;refine aG (k7 _ _ ?_);refine wp_region_lit (aA (aP (m:=0) (n:=1) (r:=1) rfl rfl (by decide)) (aA (aB) (aG (aU (aD fun K9 k9=>wp_region_lit (aA (bX (m:=1) (n:=3) rfl rfl (by decide)) (aG (k9 _ _ ?_))))))));refine aD fun K10 k10=>cG rfl (wp_skip (k10 _ _ ?_));refine aD fun K11 k11=>wp_block (aD fun K12 k12=>wp_region_lit (aA (aB) ?_));simp only[zz];refine aA (wY rfl rfl) (aA (aC) (aA (aC) (aG (k12 _ _ ?_))));simp only[zz];refine iU m 11 aO (by kernel_rfl) ?_;simp only[zy];refine aL (aB) (aL (aB) ?_);simp only[zz];refine ql rfl (fun u m=>((m.b 2 rfl).full aJ aF)) ?_;simp only[zz];refine tJ rfl rfl (agT) ?_;simp only[zz];refine tJ rfl rfl (xS Iw.h) (aL (aB) ?_);simp only[zz];refine ql rfl (fun u m=>((m.b 3 rfl).full aJ aF)) ?_;simp only[zz];refine tJ rfl rfl (agT) ?_;simp only[zz];refine tJ rfl rfl (xS Iw.h) ?_;simp only[zz];refine tJ rfl rfl (abe Bw.up Bw.up) (aL (aH rL aR rfl rfl (by decide) (by decide) rfl) (dK ?_));clear m;intro u m;simp only[zz];refine aS m 0 rfl rfl rfl aR (dZ rfl) rfl ?_;clear m;intro u m;simp only[zy,zx,bG,zF,zG,Nat.reduceAdd] at m;refine aG (k11 _ _ ?_);refine wp_region_lit (aA (aP (m:=1) (n:=1) (r:=2) rfl rfl (by decide)) (aA (aB) (aG (aU (aD fun K13 k13=>wp_region_lit (aA (bX (m:=2) (n:=3) rfl rfl (by decide)) (aG (k13 _ _ ?_))))))));refine aD fun K14 k14=>cG rfl (wp_skip (k14 _ _ ?_));refine aD fun K15 k15=>wp_block (aD fun K16 k16=>wp_region_lit (aA (aB) ?_));simp only[zz];refine aA (wZ rfl rfl) (aA (aC) (aA (aC) (aG (k16 _ _ ?_))));simp only[zz];refine iU m 11 aO (by kernel_rfl) ?_;simp only[zy];refine aL (aB) (aL (aB) ?_);simp only[zz];refine ql rfl (fun u m=>((m.b 2 rfl).full aJ aF)) ?_;simp only[zz];refine tJ rfl rfl (agU) ?_;simp only[zz];refine tJ rfl rfl (xS Iw.h) (aL (aB) ?_);simp only[zz];refine ql rfl (fun u m=>((m.b 3 rfl).full aJ aF)) ?_;simp only[zz];refine tJ rfl rfl (agU) ?_;simp only[zz];refine tJ rfl rfl (xS Iw.h) ?_;simp only[zz];refine tJ rfl rfl (abe Bw.up Bw.up) (aL (aH rL aR rfl rfl (by decide) (by decide) rfl) (dK ?_));clear m;intro u m;simp only[zz];refine aS m 0 rfl rfl rfl aR (dZ rfl) rfl ?_;clear m;intro u m;simp only[zy,zx,bG,zF,zG,Nat.reduceAdd] at m;refine aG (k15 _ _ ?_);refine wp_region_lit (aA (aP (m:=2) (n:=1) (r:=3) rfl rfl (by decide)) (aA (aB) (aG (aU (aD fun K17 k17=>wp_region_lit (aA (eU (m:=3) (n:=3) rfl rfl (by decide)) (aG (k17 _ _ ?_))))))));refine aD fun K18 k18=>iO rfl (wp_exit (k3 _ _ ?_));refine aD fun K19 k19=>wp_region_lit ?_;simp only[zz];refine aK rfl ((m.b 0 rfl).full De pW) ?_;simp only[zz];refine aS m 1 rfl rfl rfl pW (dZ rfl) rfl ?_;clear m;intro u m;simp only[zy,zx,bG,zF,zG,Nat.reduceAdd] at m;refine aG (k19 _ _ ?_);refine wp_ret ?_;try simp only[Exit.inBlock,Exit.then,if_true]
 refine bO rfl ⟨_,rfl,((m.b 1 rfl).full De pW)⟩ ?_;try simp only[zD,zE]
 exact ⟨_,rfl,m.ext,rfl⟩
theorem aeI {b : Int} (hb : Bd 1000000 b) : jG prog 79 [.agg #[.bool false,.string ⟨#[]⟩],W b] (W (0 + b)):=by
 rw [← adq];exact Pd (St _) hb
theorem Pg {u v : P3} (hu : Bv 400000 u) (hv : Bv 400000 v) : jG prog 113 [wv u,wv v] (W (u.dot v)):=by
 intro w;refine ⟨adJ,?_⟩;have m:=cA.refl w
 go_enter func113,ntmps113
 refine aD fun K1 k1=>wp_region_lit (eP m rfl ?_);clear m;intro g1 u m;simp only[zz];refine eP m rfl ?_;clear m;intro g2 u m;simp only[zz];refine bF m fC rfl ?_;clear m;intro g3 u m;refine aG (k1 _ _ ?_);refine aD fun K2 k2=>wp_region_lit ?_;simp only[zz];refine bF m fC rfl ?_;clear m;intro g4 u m;refine aG (k2 _ _ ?_);refine aD fun K3 k3=>aD fun K4 k4=>wp_region_lit (aA (aB) (aG (k4 _ _ ?_)));refine wp_block (wp_loop_rounds 4 (dU (aD fun K5 k5=>wp_region_lit (aA (bX (m:=0) (n:=3) rfl rfl (by decide)) (aG (k5 _ _ ?_))))));refine aD fun K6 k6=>cG rfl (wp_skip (k6 _ _ ?_));refine aD fun K7 k7=>wp_block (aD fun K8 k8=>wp_region_lit (aA (aB) ?_));simp only[zz];refine aA (aC) (aG (k8 _ _ ?_));simp only[zz];refine iU m 9 aO (by kernel_rfl) ?_;simp only[zy];refine ql rfl (fun u m=>((m.b 0 rfl).full bY aR)) ?_;simp only[zz];refine aL (aB) (aL (aH rL aR rfl rfl (by decide) (by decide) rfl) ?_);simp only[zz];refine ql rfl (fun u m=>((m.b 3 rfl).lies bY aR rfl rfl)) ?_;simp only[zz,zy,Nat.zero_add,Nat.reduceAdd,Nat.reduceMul,Int.reduceToNat];refine aL (aB) (aL (aH rL aR rfl rfl (by decide) (by decide) rfl) ?_);simp only[zz];refine ql rfl (fun u m=>((m.b 2 rfl).lies bY aR rfl rfl)) ?_;simp only[zz,zy,Nat.zero_add,Nat.reduceAdd,Nat.reduceMul,Int.reduceToNat];refine tJ rfl rfl (Tu Bw.up Bw.up) ?_;simp only[zz];refine tJ rfl rfl (aeI Bw.up) (dK ?_);clear m;intro u m;simp only[zz];refine aS m 0 rfl rfl rfl aR (dZ rfl) rfl ?_;clear m;intro u m;simp only[zy,zx,bG,zF,zG,Nat.reduceAdd] at m;refine aG (k7 _ _ ?_);refine wp_region_lit (aA (aP (m:=0) (n:=1) (r:=1) rfl rfl (by decide)) (aA (aB) (aG (aU (aD fun K9 k9=>wp_region_lit (aA (bX (m:=1) (n:=3) rfl rfl (by decide)) (aG (k9 _ _ ?_))))))));refine aD fun K10 k10=>cG rfl (wp_skip (k10 _ _ ?_));refine aD fun K11 k11=>wp_block (aD fun K12 k12=>wp_region_lit (aA (aB) ?_));simp only[zz];refine aA (aC) (aG (k12 _ _ ?_));simp only[zz];refine iU m 9 aO (by kernel_rfl) ?_;simp only[zy];refine ql rfl (fun u m=>((m.b 0 rfl).full bY aR)) ?_;simp only[zz];refine aL (aB) (aL (aH rL aR rfl rfl (by decide) (by decide) rfl) ?_);simp only[zz];refine ql rfl (fun u m=>((m.b 3 rfl).lies bY aR rfl rfl)) ?_;simp only[zz,zy,Nat.zero_add,Nat.reduceAdd,Nat.reduceMul,Int.reduceToNat];refine aL (aB) (aL (aH rL aR rfl rfl (by decide) (by decide) rfl) ?_);simp only[zz];refine ql rfl (fun u m=>((m.b 2 rfl).lies bY aR rfl rfl)) ?_;simp only[zz,zy,Nat.zero_add,Nat.reduceAdd,Nat.reduceMul,Int.reduceToNat];refine tJ rfl rfl (Tu Bw.up Bw.up) ?_;simp only[zz];refine tJ rfl rfl (Pd Bw.up Bw.up) (dK ?_);clear m;intro u m;simp only[zz];refine aS m 0 rfl rfl rfl aR (dZ rfl) rfl ?_;clear m;intro u m;simp only[zy,zx,bG,zF,zG,Nat.reduceAdd] at m;refine aG (k11 _ _ ?_);refine wp_region_lit (aA (aP (m:=1) (n:=1) (r:=2) rfl rfl (by decide)) (aA (aB) (aG (aU (aD fun K13 k13=>wp_region_lit (aA (bX (m:=2) (n:=3) rfl rfl (by decide)) (aG (k13 _ _ ?_))))))));refine aD fun K14 k14=>cG rfl (wp_skip (k14 _ _ ?_));refine aD fun K15 k15=>wp_block (aD fun K16 k16=>wp_region_lit (aA (aB) ?_));simp only[zz];refine aA (aC) (aG (k16 _ _ ?_));simp only[zz];refine iU m 9 aO (by kernel_rfl) ?_;simp only[zy];refine ql rfl (fun u m=>((m.b 0 rfl).full bY aR)) ?_;simp only[zz];refine aL (aB) (aL (aH rL aR rfl rfl (by decide) (by decide) rfl) ?_);simp only[zz];refine ql rfl (fun u m=>((m.b 3 rfl).lies bY aR rfl rfl)) ?_;simp only[zz,zy,Nat.zero_add,Nat.reduceAdd,Nat.reduceMul,Int.reduceToNat];refine aL (aB) (aL (aH rL aR rfl rfl (by decide) (by decide) rfl) ?_);simp only[zz];refine ql rfl (fun u m=>((m.b 2 rfl).lies bY aR rfl rfl)) ?_;simp only[zz,zy,Nat.zero_add,Nat.reduceAdd,Nat.reduceMul,Int.reduceToNat];refine tJ rfl rfl (Tu Bw.up Bw.up) ?_;simp only[zz];refine tJ rfl rfl (Pd Bw.up Bw.up) (dK ?_);clear m;intro u m;simp only[zz];refine aS m 0 rfl rfl rfl aR (dZ rfl) rfl ?_;clear m;intro u m;simp only[zy,zx,bG,zF,zG,Nat.reduceAdd] at m;refine aG (k15 _ _ ?_);refine wp_region_lit (aA (aP (m:=2) (n:=1) (r:=3) rfl rfl (by decide)) (aA (aB) (aG (aU (aD fun K17 k17=>wp_region_lit (aA (eU (m:=3) (n:=3) rfl rfl (by decide)) (aG (k17 _ _ ?_))))))));refine aD fun K18 k18=>iO rfl (wp_exit (k3 _ _ ?_));refine aD fun K19 k19=>wp_region_lit ?_;simp only[zz];refine aK rfl ((m.b 0 rfl).full bY aR) ?_;simp only[zz];refine aS m 1 rfl rfl rfl aR (dZ rfl) rfl ?_;clear m;intro u m;simp only[zy,zx,bG,zF,zG,Nat.reduceAdd] at m;refine aG (k19 _ _ ?_);refine wp_ret ?_;try simp only[Exit.inBlock,Exit.then,if_true]
 refine bO rfl ⟨_,rfl,((m.b 1 rfl).full bY aR)⟩ ?_;try simp only[zD,zE]
 exact ⟨_,rfl,m.ext,by rw [← P3.dot0];rfl⟩
end Go.Proofs.YtfohfflkhpfjeaaGreatDoor
namespace Go.Proofs.YtfohfflkhpfjeaaGreatDoor
open Go.Proofs.Tryz
open Go.RowKit Go.Lith
set_option maxRecDepth 100000
attribute [local irreducible] wpList wpQuiet dY dQ dO Code.wp
theorem acN {p q : P3} [I3 p] [I3 q] : jG prog 76 [pt p,pt q] (W ((q.sub p).dot (q.sub p))):=by
 intro w;refine ⟨agb,?_⟩;have m:=cA.refl w
 go_enter func76,ntmps76
 refine aD fun K1 k1=>wp_region_lit (eP m rfl ?_);clear m;intro g1 u m;simp only[zz];refine eP m rfl ?_;clear m;intro g2 u m;simp only[zz];refine bF m fC rfl ?_;clear m;intro g3 u m;refine aG (k1 _ _ ?_);refine aD fun K2 k2=>wp_region_lit ?_;simp only[zz];refine aK rfl ((m.b 2 rfl).full aJ aF) ?_;simp only[zz];refine aK rfl ((m.b 1 rfl).full aJ aF) ?_;simp only[zz];refine gG m rfl rfl (Pf) ?_;clear m;intro u m;simp only[zz];refine bF m Fa rfl ?_;clear m;intro g4 u m;simp only[zz];refine aS m 0 rfl rfl rfl pW (dZ rfl) rfl ?_;clear m;intro u m;simp only[zy,zx,bG,zF,zG,Nat.reduceAdd] at m;refine aG (k2 _ _ ?_);refine aD fun K3 k3=>wp_region_lit (aK rfl ((m.b 0 rfl).full De pW) ?_);simp only[zz];refine aK rfl ((m.b 0 rfl).full De pW) ?_;simp only[zz];refine gG m rfl rfl (Pg Bv.of Bv.of) ?_;clear m;intro u m;simp only[zz];refine aS m 1 rfl rfl rfl aR (dZ rfl) rfl ?_;clear m;intro u m;simp only[zy,zx,bG,zF,zG,Nat.reduceAdd] at m;refine aG (k3 _ _ ?_);refine wp_ret ?_;try simp only[Exit.inBlock,Exit.then,if_true]
 refine bO rfl ⟨_,rfl,((m.b 1 rfl).full bY aR)⟩ ?_;try simp only[zD,zE]
 exact ⟨_,rfl,m.ext,rfl⟩
end Go.Proofs.YtfohfflkhpfjeaaGreatDoor
namespace Go.Proofs.YtfohfflkhpfjeaaGreatDoor
open Go.Proofs.Tryz
open Go.RowKit Go.Lith
set_option maxRecDepth 100000
attribute [local irreducible] wpList wpQuiet dY dQ dO Code.wp
theorem Tz (m n : Int) : (if m < n then n else m) = max m n:=by split <;> omega
theorem acO {w : World} {a : Addr} {e : E3} (h : jK w a (bU e)) : jK w a [.int .i64 e.1.x,.int .i64 e.1.y,.int .i64 e.1.z,.int .i64 e.2.x,.int .i64 e.2.y,.int .i64 e.2.z]:=h
theorem Lv (p q : P3) : (q.sub p).dot (q.sub p) = ((oO p q : Nat) : Int):=by unfold oO;have:=adt (q.sub p);omega
theorem pL {p q : P3} [I3 p] [I3 q] : Bd 200 ((oO p q : Nat) : Int):=by rw [← Lv];exact (Bw.up : Bd 200 ((q.sub p).dot (q.sub p)))
theorem aeJ (n : Nat) : eG n ≤ n:=by
 obtain ⟨h,_⟩:=tD n;rcases Nat.eq_zero_or_pos (eG n) with e | e
 · omega
 · exact Nat.le_trans (Nat.le_mul_of_pos_left _ e) h
theorem uC {n : Nat} (h : Bd 200 ((n : Nat) : Int)) : Bd 200 ((eG n : Nat) : Int):=by
 have h1 : (n : Int).natAbs < 2 ^ 200:=h;show (eG n : Int).natAbs < 2 ^ 200
 have:=aeJ n;omega
theorem Ph {p q : P3} (h : eG (oO p q) * eG (oO p q) = oO p q) : ((eG (oO p q) : Nat) : Int) = pT p q:=by rw [pT,if_pos h,Int.add_zero]
theorem Ua {p q : P3} (h : ¬ eG (oO p q) * eG (oO p q) = oO p q) : ((eG (oO p q) : Nat) : Int) + 1 = pT p q:=by rw [pT,if_neg h]
theorem Ub {p q : P3} [I3 p] [I3 q] : Bd 250 (pT p q):=by
 have h : (eG (oO p q) : Int).natAbs < 2 ^ 200:=uC pL;show (pT p q).natAbs < 2 ^ 250
 have h2 : (2 : Nat) ^ 200 + 1 ≤ 2 ^ 250:=by decide
 unfold pT;split <;> omega
theorem adh {r d : Nat} : (¬ (iJ ((r : Int) * (r : Int)) = iJ (d : Int) ∧ nC ((r : Int) * (r : Int)) = nC (d : Int))) ↔ ¬ r * r = d:=by
 rw [Zh];refine not_congr ⟨fun h=>?_,fun h=>by rw [← h];simp⟩;exact Int.ofNat_inj.1 (by rw [← h];simp)
theorem Pi {ms : List Mv} {k : Nat} {mv : Mv} {y0 y : Int} (hm : ms[k]? = some mv) (h : lR ms y0 = lR (ms.drop k) y) (hi : nR (pT mv.1 mv.2)) : lR ms y0 = lR (ms.drop (k + 1)) (max y (pT mv.1 mv.2)):=by
 rw [h,List.drop_eq_getElem_cons (List.getElem?_eq_some_iff.1 hm).1,(List.getElem?_eq_some_iff.1 hm).2,lR,if_pos hi]
theorem Uc {ms : List Mv} {k : Nat} {mv : Mv} {y0 y : Int} (hm : ms[k]? = some mv) (h : lR ms y0 = lR (ms.drop k) y) (hi : ¬ nR (pT mv.1 mv.2)) : lR ms y0 = none:=by
 rw [h,List.drop_eq_getElem_cons (List.getElem?_eq_some_iff.1 hm).1,(List.getElem?_eq_some_iff.1 hm).2,lR,if_neg hi]
theorem Xp {w0 w : World} {K : It} {ms : List Mv} {N3 cap3 : Nat} {A3 : Option Addr} {F G R M : Value} {g1 : Nat} {y0 : Int} (m : cA w0 w [bI g1 [F,G,.slice A3 N3 cap3,R,M,.int .i64 y0] 73,K]) (hL3 : nS bU 6 w0 A3 N3 ms) (hN3 : N3 ≤ 10000000) (hI : ∀ mv ∈ ms,I3 mv.1 ∧ I3 mv.2) : Tv prog 35 [.pointer (some ⟨g1,0,none⟩)] w fun v w'=>∃ y,v = .int .i64 (if (lR ms y0).isSome = true then 0 else 3) ∧ cA w0 w' [bI g1 [F,G,.slice A3 N3 cap3,R,M,.int .i64 y] 73,K] ∧ ∀ n,lR ms y0 = some n → n = y:=by
 refine ⟨afy,?_⟩
 go_enter func35,ntmps35
 refine aD fun K1 k1=>wp_region_lit (aA (aC) (aG (k1 _ _ ?_)));refine aD fun K2 k2=>aD fun K3 k3=>wp_region_lit (aA (aB) (aA (dA rfl) (aA (aN (c:=0) jJ rfl vE rfl rfl) ?_)));simp only[zz];refine aK rfl ((m.b 0 rfl).lies1 Kv rfl) ?_;simp only[zz];refine aA (aW rfl kB rfl) (aA (aB) (aG (k3 _ _ ?_)));refine wp_block ?_;simp only[zz];try simp only[Nat.zero_add,Nat.reduceAdd,Nat.reduceMul,Int.reduceToNat]
 refine bH [15] [2,4,5,6,7,8,9,16,17,18,19,20,21,22,23,24,25,26,27,28,29,30,31,32,33,34,35,36,37,38,39,40,41,42,43,44,45,46,47,48,49,50,51,52,53] (fun n vs wl=>∃ (k : Nat) (y : Int),vs = [.int .i64 (k:Int)] ∧ cA w0 wl [bI g1 [F,G,.slice A3 N3 cap3,R,M,.int .i64 y] 73,K] ∧ (lR ms y0 = lR (ms.drop k) y) ∧ (k ≤ N3) ∧ (n = N3 - k)) ?_ ?_
 ·
  apply Exists.intro;simp only[zQ,zR,zD,zE];exact ⟨0,_,rfl,m,rfl,Nat.zero_le _,rfl⟩
 ·
  intro n vs wr hI u;clear m;obtain ⟨k,y,rfl,m,hme,hk,hn⟩:=hI;simp only[zu,zF,zG];refine aD fun K4 k4=>wp_region_lit (aA (cE rfl rfl) (aG (k4 _ _ ?_)));refine aD fun K5 k5=>?_;simp only[zz];refine bZ rfl (fun hc1=>?_) (fun hc1=>?_)
  ·
   obtain ⟨mv,hmv,a3,rfl,hrow3⟩:=hL3.get (i:=k) (by omega);haveI:=(hI mv (List.mem_of_getElem? hmv)).1;haveI:=(hI mv (List.mem_of_getElem? hmv)).2;refine wp_skip (k5 _ _ ?_);refine aD fun K6 k6=>wp_block (aD fun K7 k7=>wp_region_lit (aA (aI kB fO rfl rfl (by omega) (by omega) (bV (Int.toNat_natCast _))) ?_));simp only[zz];refine aK rfl ((acO (hrow3.ext m.ext)).lies Rb fO) ?_;simp only[zz];refine bF m yP rfl ?_;clear m;intro g2 u m;simp only[zz];refine aS m 0 rfl rfl rfl fO (dZ rfl) rfl ?_;clear m;intro u m;simp only[zy,zx,bG,zF,zG,Nat.reduceAdd] at m;refine aG (k7 _ _ ?_);refine aD fun K8 k8=>wp_region_lit (aA (aN (c:=2) jI rfl aF rfl rfl) ?_);simp only[zz];refine aK rfl ((m.b 0 rfl).lies aJ aF rfl rfl) ?_;simp only[zz,zy,Nat.zero_add,Nat.reduceAdd,Nat.reduceMul,Int.reduceToNat];refine aA (aN (c:=2) jI rfl aF rfl rfl) ?_;simp only[zz];refine aK rfl ((m.b 0 rfl).lies aJ aF rfl rfl) ?_;simp only[zz,zy,Nat.zero_add,Nat.reduceAdd,Nat.reduceMul,Int.reduceToNat];refine gG m rfl rfl (acN (p:=mv.1) (q:=mv.2)) ?_;clear m;intro u m;simp only[zz];refine bF m fC rfl ?_;clear m;intro g3 u m;simp only[zz];refine aS m 0 rfl rfl rfl aR (dZ rfl) rfl ?_;clear m;intro u m;simp only[zy,zx,bG,zF,zG,Nat.reduceAdd] at m;refine aG ?_;rw [Lv] at m;refine k8 _ _ ?_;refine aD fun K9 k9=>wp_region_lit (aK rfl ((m.b 0 rfl).full bY aR) ?_);simp only[zz];refine gG m rfl rfl (aey (a:=((oO mv.1 mv.2 : Nat) : Int)) (pL.mono (by decide)) (by omega)) ?_;clear m;intro u m;refine aA (aB) (aA (bE rfl rfl) (aA (bE rfl rfl) ?_));simp only[zz];refine bF m fC rfl ?_;clear m;intro g4 u m;simp only[zz];refine aS m 0 rfl rfl rfl aR (dZ rfl) rfl ?_;clear m;intro u m;simp only[zy,zx,bG,zF,zG,Nat.reduceAdd] at m;refine aA (aC) (aG ?_);simp only[zz];rw [Int.natAbs_natCast] at m;refine k9 _ _ ?_;refine aD fun K10 k10=>aD fun K11 k11=>mq m aO (by kernel_rfl) (ql rfl (fun u m=>((m.b 0 rfl).full bY aR)) ?_);simp only[zz];refine ql rfl (fun u m=>((m.b 0 rfl).full bY aR)) ?_;simp only[zz];refine tJ rfl rfl (Tu (a:=((eG (oO mv.1 mv.2) : Nat) : Int)) (b:=((eG (oO mv.1 mv.2) : Nat) : Int)) ((uC pL).mono (by decide)) ((uC pL).mono (by decide))) ?_;simp only[zz];refine ql rfl (fun u m=>((m.b 1 rfl).full bY aR)) ?_;simp only[zz];refine aL (Wa rfl rfl) (dK ?_);clear m;intro u m;refine k11 _ _ ?_;simp only[zz];refine pR m 0 [] [34,35,36] (fun vs i=>vs = [] ∧ i = bI g4 [.bool (iJ (pT mv.1 mv.2)),.string (nC (pT mv.1 mv.2))] 65) ?_ ?_
   ·
    refine bZ rfl (fun hc2=>?_) (fun hc2=>?_)
    ·
     have hsq:=adh.1 hc2;refine iU m 3 aO (by kernel_rfl) ?_;simp only[zy];refine ql rfl (fun u m=>((m.b 0 rfl).full bY aR)) ?_;simp only[zz];refine tJ rfl rfl (xS (n:=1) (show nR 1 by unfold nR;decide)) ?_;simp only[zz];refine tJ rfl rfl (Pd (a:=((eG (oO mv.1 mv.2) : Nat) : Int)) (b:=1) ((uC pL).mono (by decide)) Bw.up) (dK ?_);clear m;intro u m;simp only[zz];refine aS m 0 rfl rfl rfl aR (dZ rfl) rfl ?_;clear m;intro u m;simp only[zy,zx,bG,zF,zG,Nat.reduceAdd] at m;refine aG ?_;rw [Ua hsq] at m;simp only[Exit.inBlock,Exit.then];refine ⟨_,_,rfl,?_,m,?_⟩
     · simp only[zz,zv]
     ·
      simp only[zQ,zR,zD,zE];exact ⟨trivial,trivial⟩
    ·
     have hsq:=Classical.not_not.1 (mt adh.2 hc2);refine wp_skip ?_;rw [Ph hsq] at m;simp only[Exit.inBlock,Exit.then];refine ⟨_,_,rfl,?_,m,?_⟩
     · simp only[zz,zv]
     ·
      simp only[zQ,zR,zD,zE];exact ⟨trivial,trivial⟩
   ·
    intro vs i wr m hI u;obtain ⟨rfl,rfl⟩:=hI;simp only[zF,zG] at m;simp only[zu,zF,zG];refine k10 _ _ ?_;refine aD fun K12 k12=>wp_region_lit (aK rfl ((m.b 0 rfl).full bY aR) ?_);simp only[zz];refine gG m rfl rfl (aez (a:=pT mv.1 mv.2) (Ub.mono (by decide))) ?_;clear m;intro u m;refine aA (aB) (aA (bE rfl rfl) (aA (bE rfl rfl) ?_));simp only[zz];refine aA (aC) (aA (aC) (aG (k12 _ _ ?_)));refine aD fun K13 k13=>aD fun K14 k14=>wp_region_lit (aA (aB) (aA (fQ rfl) ?_));simp only[zz];refine aG (k14 _ _ ?_);refine eE rfl (fun hc3=>?_) (fun hc3=>?_)
    ·
     have hc3 : ¬ nR (pT mv.1 mv.2):=by simpa using hc3
     have hno:=Uc hmv hme hc3;refine aD fun K15 k15=>wp_region_lit (aA (aC) (aG (k15 _ _ ?_)));refine wp_ret ?_;simp only[zz];try simp only[Exit.inBlock,Exit.then,if_true]
     refine bO rfl rfl ?_;try simp only[zD,zE]
     exact ⟨_,rfl,_,by rw [hno];rfl,m.sel [false,false,false,true,true],fun n h=>by rw [hno] at h;cases h⟩
    ·
     have hc3 : nR (pT mv.1 mv.2):=by simpa using hc3
     have hme2:=Pi hmv hme hc3;refine wp_skip (k13 _ _ ?_);rw [Lm,if_pos hc3];refine wp_region_lit (aA (aB) (aA (aB) (aA (dA rfl) (aA (aN (c:=0) jJ rfl bD rfl rfl) ?_))));simp only[zz];refine aK rfl ((m.b 3 rfl).lies1 bT rfl) ?_;simp only[zz];refine aA (aB) (aA (acW rfl rfl (Tz _ _)) (aA (dA rfl) (aA (aN (c:=0) jJ rfl bD rfl rfl) ?_)));simp only[zz];refine Km (off:=5) m 3 rfl rfl rfl bD (dZ rfl) ⟨rfl,rfl⟩ ?_;clear m;intro u m;simp only[zz,zy,zx,bG,Nat.reduceAdd] at m;refine aG (k6 _ _ ?_);refine wp_region_lit (aA (aP rfl rfl (aM (by omega) (by omega))) (aA (aB) (aG ?_)));simp only[zz];simp only[Exit.inBlock,Exit.then];refine ⟨N3 - (k + 1),_,?_,rfl,?_,?_⟩
     · omega
     · simp only[zz,zv]
     ·
      simp only[zQ,zR,zD,zE];exact ⟨k + 1,_,rfl,(m.sel [false,false,false,true,true]),hme2,by omega,rfl⟩
  ·
   have hkN : k = N3:=by omega
   rw [List.drop_of_length_le (by rw [hL3.len];omega)] at hme;refine wp_exit (k2 _ _ ?_);refine aD fun K16 k16=>wp_region_lit (aA (aC) (aG (k16 _ _ ?_)));refine wp_ret ?_;simp only[zz];try simp only[Exit.inBlock,Exit.then,if_true]
   refine bO rfl rfl ?_;try simp only[zD,zE]
   exact ⟨_,rfl,_,by rw [hme];rfl,m.sel [true,true],fun n h=>by rw [hme] at h;cases h;rfl⟩
end Go.Proofs.YtfohfflkhpfjeaaGreatDoor
namespace Go.Lith
section
variable {w0 w : World} {x y z : It} {is : List It}
theorem cA.pack1 (m : cA w0 w (x :: is)) : cA w0 w [x,Jn is]:=cA.pack [x] m
theorem cA.unpack2 (m : cA w0 w [x,y,Jn is]) : cA w0 w (x :: y :: is):=cA.unpack [x,y] m
theorem cA.pack3 (m : cA w0 w (x :: y :: z :: is)) : cA w0 w [x,y,z,Jn is]:=cA.pack [x,y,z] m
theorem cA.unpack3 (m : cA w0 w [x,y,z,Jn is]) : cA w0 w (x :: y :: z :: is):=cA.unpack [x,y,z] m
end
end Go.Lith
