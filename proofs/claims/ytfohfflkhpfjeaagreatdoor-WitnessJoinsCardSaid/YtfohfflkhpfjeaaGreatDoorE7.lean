/-
 Texts of one claim, laid together: W9, Ref1, Ref2, Ref3, Ref4, Ref5, Ref6, Ref7, Geo1, Exact, W10, Pack2.
-/
import Derived.Test.YtfohfflkhpfjeaaGreatDoorE6
set_option maxHeartbeats 8000000
set_option linter.unusedSimpArgs false
set_option linter.unusedVariables false
set_option linter.unusedSectionVars false
namespace Go.Proofs.YtfohfflkhpfjeaaGreatDoor
open Go.Proofs.Tryz
open Go.RowKit Go.Lith
set_option maxRecDepth 100000
attribute [local irreducible] wpList wpQuiet dY dO dN Code.wp
theorem aar : rB prog 53 tr:=by
 refine rB.agg (cs:=fun p=>#[.int .i64 p.a.x,.int .i64 p.a.y,.int .i64 p.a.z,.int .i64 p.b.x,.int .i64 p.b.y,.int .i64 p.b.z,.int .i64 p.c.x,.int .i64 p.c.y,.int .i64 p.c.z]) (fun _=>rfl) aY (fun e p=>?_) (fun p q=>?_) (fun p=>?_)
 ·
  refine rI.array (d:=9999) aY aC fun i hi=>?_;obtain rfl | rfl | rfl:=(by omega : i = 0 ∨ i = 1 ∨ i = 2)
  ·
   refine ⟨_,fP aJ aC rfl,?_⟩;refine rI.struct (d:=9998) dW fun f hf=>?_;simp only[List.mem_cons,List.not_mem_nil,or_false] at hf;rcases hf with rfl | rfl | rfl
   · exact ⟨_,dR bZ rfl,rI.int (d:=9997) iT⟩
   · exact ⟨_,dR bZ rfl,rI.int (d:=9997) iT⟩
   · exact ⟨_,dR bZ rfl,rI.int (d:=9997) iT⟩
  ·
   refine ⟨_,fP aJ aC rfl,?_⟩;refine rI.struct (d:=9998) dW fun f hf=>?_;simp only[List.mem_cons,List.not_mem_nil,or_false] at hf;rcases hf with rfl | rfl | rfl
   · exact ⟨_,dR bZ rfl,rI.int (d:=9997) iT⟩
   · exact ⟨_,dR bZ rfl,rI.int (d:=9997) iT⟩
   · exact ⟨_,dR bZ rfl,rI.int (d:=9997) iT⟩
  ·
   refine ⟨_,fP aJ aC rfl,?_⟩;refine rI.struct (d:=9998) dW fun f hf=>?_;simp only[List.mem_cons,List.not_mem_nil,or_false] at hf;rcases hf with rfl | rfl | rfl
   · exact ⟨_,dR bZ rfl,rI.int (d:=9997) iT⟩
   · exact ⟨_,dR bZ rfl,rI.int (d:=9997) iT⟩
   · exact ⟨_,dR bZ rfl,rI.int (d:=9997) iT⟩
 · exact (Yq _).iff ⟨fun h=>Pr (P3.eq (h.1) (h.2.1) (h.2.2.1)) (P3.eq (h.2.2.2.1) (h.2.2.2.2.1) (h.2.2.2.2.2.1)) (P3.eq (h.2.2.2.2.2.2.1) (h.2.2.2.2.2.2.2.1) (h.2.2.2.2.2.2.2.2)),fun h=>by subst h;simp only[and_self]⟩
 · simp [tr,Instr.sameBits]
def Ag {K : Type} [DecidableEq K] (D : List (K × Bool)) (ks : List K) : List (K × Bool):=ks.foldl (fun D k=>gL D k false) D
theorem Vo {K : Type} [DecidableEq K] (D : List (K × Bool)) (ks : List K) (k : K) : Ag D (ks ++ [k]) = gL (Ag D ks) k false:=by unfold Ag;rw [List.foldl_append];rfl
theorem Fh {K : Type} [DecidableEq K] : ∀ (ks : List K) (D : List (K × Bool)) (a : K),dG (Ag D ks) a = if a ∈ ks then some false else dG D a
 | [],D,a=>by simp [Ag]
 | k :: ks,D,a=>by
  show dG (Ag (gL D k false) ks) a = _
  rw [Fh ks,mP];by_cases h1 : a ∈ ks
  · rw [if_pos h1,if_pos (List.mem_cons_of_mem _ h1)]
  ·
   rw [if_neg h1];by_cases h2 : k = a
   · rw [if_pos h2,if_pos (by rw [h2];exact List.mem_cons_self ..)]
   · rw [if_neg h2,if_neg (fun h=>(List.mem_cons.1 h).elim (fun e=>h2 e.symm) h1)]
theorem wQ {K : Type} [DecidableEq K] : ∀ (ks : List K) (D : List (K × Bool)),(D.map (·.1)).Nodup → ((Ag D ks).map (·.1)).Nodup
 | [],_,h=>h
 | k :: ks,D,h=>wQ ks _ (wL h k false)
theorem Nc {K : Type} [DecidableEq K] (ks hs : List K) (a : K) : (dG (Ag (gB [] ks) hs) a).getD false = decide (a ∈ ks ∧ a ∉ hs):=by
 rw [Fh];by_cases h : a ∈ hs
 · rw [if_pos h,decide_eq_false (fun k=>k.2 h)];rfl
 · rw [if_neg h,qB,decide_eq_decide];exact ⟨fun k=>⟨k,h⟩,And.left⟩
theorem aas {f c : List T3} {ms : List Mv} {i : Nat} {t : T3} (ht : f[i]? = some t) (h : ¬ Px f c ms i t) : kP f c ms = false:=by
 cases hh : kP f c ms with
 | false=>rfl
 | true=>exact absurd ((zY.1 hh).1 i t ht) h
theorem acg {x : T3} : ((decide (¬ (x.a.x = x.b.x ∧ x.a.y = x.b.y ∧ x.a.z = x.b.z)) && decide (¬ (x.b.x = x.c.x ∧ x.b.y = x.c.y ∧ x.b.z = x.c.z))) && decide (¬ (x.c.x = x.a.x ∧ x.c.y = x.a.y ∧ x.c.z = x.a.z))) = x.nd:=by
 simp only[T3.nd,gK,ne_eq]
theorem ach {f c : List T3} {ms : List Mv} {k : Nat} {t : T3} (hn : (t.img ms).nd = true) {b : Bool} (h : (!(dG (Ag (gB [] (c.map eS)) (nX ms (f.take k))) (eS (t.img ms))).getD false) = b) : Px f c ms k t ↔ b = false:=by
 rw [Nc] at h;rw [Px,hn,if_pos rfl,← h];simp
theorem aci {f c : List T3} {ms : List Mv} {k : Nat} {t : T3} (hn : (t.img ms).nd = false) {b : Bool} (h : ((!(dG (gB [] (lL c)) ((t.img ms).a,(t.img ms).b)).getD false) || (!(dG (gB [] (lL c)) ((t.img ms).b,(t.img ms).c)).getD false)) = b) : Px f c ms k t ↔ b = false:=by
 rw [vG,vG] at h;rw [Px,hn,if_neg Bool.false_ne_true,← h];simp
theorem abO {f c : List T3} {ms : List Mv} {es : Array MapEntry} {sn : Array Nat} {dn : List (T3 × Bool)} (h : mF tr Value.bool (Ag (gB [] (c.map eS)) (nX ms f)) es sn dn []) (hno : ∀ y ∈ dn,y.2 = false) (hok : ∀ j t,f[j]? = some t → Px f c ms j t) : kP f c ms = true:=by
 refine zY.2 ⟨hok,fun u hu=>?_⟩;have hn:=wQ (nX ms f) _ (nW (c.map eS) [] (by simp));have hg:=Fh (nX ms f) (gB [] (c.map eS)) (eS u);refine Decidable.byContradiction fun hx=>?_;rw [if_neg hx,xU,if_pos (List.mem_map.2 ⟨u,hu,rfl⟩)] at hg;have:=hno _ (h.done.mem_iff.2 (xQ hg));cases this
theorem aat {f c : List T3} {ms : List Mv} {es : Array MapEntry} {sn : Array Nat} {dn rs : List (T3 × Bool)} (h : mF tr Value.bool (Ag (gB [] (c.map eS)) (nX ms f)) es sn dn rs) {y : T3} (hy : (y,true) ∈ dn) : kP f c ms = false:=by
 cases hh : kP f c ms with
 | false=>rfl
 | true =>
  have hn:=wQ (nX ms f) _ (nW (c.map eS) [] (by simp));have hg:=mQ hn (h.1.mem_iff.1 (List.mem_append_left _ hy));have hg2:=Nc (c.map eS) (nX ms f) y;rw [hg] at hg2;obtain ⟨h1,h2⟩:=of_decide_eq_true hg2.symm;obtain ⟨u,hu,rfl⟩:=List.mem_map.1 h1;exact absurd ((zY.1 hh).2 u hu) h2
theorem adH {ms : List Mv} {f : List T3} {k : Nat} {t : T3} (h : f[k]? = some t) (hn : (t.img ms).nd = true) : nX ms (f.take (k + 1)) = nX ms (f.take k) ++ [eS (t.img ms)]:=by rw [xX h,hn];rfl
theorem adI {ms : List Mv} {f : List T3} {k : Nat} {t : T3} (h : f[k]? = some t) (hn : (t.img ms).nd = false) : nX ms (f.take (k + 1)) = nX ms (f.take k):=by rw [xX h,hn];simp
theorem Ry {f c : List T3} {ms : List Mv} {k : Nat} {t : T3} (ht : f[k]? = some t) (h : Px f c ms k t) (hok : ∀ i t,i < k → f[i]? = some t → Px f c ms i t) : ∀ i t,i < k + 1 → f[i]? = some t → Px f c ms i t:=fun i u hi hu=>by
 rcases Nat.lt_or_ge i k with h1 | h1
 · exact hok i u h1 hu
 ·
  obtain rfl : i = k:=by omega
  obtain rfl:=Option.some.inj (ht.symm.trans hu);exact h
theorem Fi {F G H R J : Value} {g1 q c : Nat} {es : Array MapEntry} {D : List (P3 × P3)} {p : P3} {ms : List Mv} (w : World) (hB1 : gD w g1 [F,G,H,R,.map (some q),J] 73) (hM : kO w q es c) (hD : cS pt pt D es c) (hi : ∀ p,(dG D p).getD p = qI ms p) :
 eL prog 75 [.pointer (some ⟨g1,0,none⟩),pt p] w (fun v _=>v = pt (qI ms p)):=(abK w hB1 hM hD).mono fun v w' _ h=>by rw [h,hi]
theorem abP {fs gs : List T3} {N cap N2 cap2 : Nat} {A A2 : Option Addr} {H R J : Value} {g1 q7 c7 : Nat} {es7 : Array MapEntry} {D : List (P3 × P3)} {ms : List Mv} (w : World) (hB1 : gD w g1 [.slice A N cap,.slice A2 N2 cap2,H,R,.map (some q7),J] 73) (hT : fA w A N fs) (hT2 : fA w A2 N2 gs) (hN : N ≤ 300000) (hN2 : N2 ≤ 300000) (hMq : kO w q7 es7 c7) (hD : cS pt pt D es7 c7) (himg : ∀ p,(dG D p).getD p = qI ms p) : eL prog 34 [.pointer (some ⟨g1,0,none⟩)] w (fun v _=>v = .int .i64 (if kP fs gs ms = true then 0 else 32)):=by
 refine ⟨aeA,?_⟩;have m:=cF.refl w
 go_enter func34,ntmps34
 refine aF fun K1 k1=>wp_region_lit (aA (aD) (aG (k1 _ _ ?_)));refine aF fun K2 k2=>wp_region_lit ?_;simp only[zz];refine kL m ?_;clear m;intro q8 u m;have hD8:=cS.nil (K:=T3) (V:=Bool) tr Value.bool;refine aA (aD) (aG (k2 _ _ ?_));refine aF fun K3 k3=>aF fun K4 k4=>wp_region_lit (aA (aB) (aA (dB rfl) ?_));simp only[zz];refine aA (aO (c:=0) iZ rfl jH rfl rfl) ?_;simp only[zz];refine aL rfl ((hB1.ext m.ext).lies1 nS rfl) ?_;simp only[zz];refine aA (bA rfl bV rfl) (aA (aB) (aG (k4 _ _ ?_)));refine wp_block ?_;simp only[zz];try simp only[Nat.zero_add,Nat.reduceAdd,Nat.reduceMul,Int.reduceToNat]
 refine bJ [18] [5,19,20,21,22,23,24,25] (fun n vs wl=>∃ (k : Nat) (es : Array MapEntry) (cc : Nat),vs = [.int .i64 (k:Int)] ∧ cF w wl [mI q8 es cc] ∧ (cS tr Value.bool (gB [] ((gs.take k).map eS)) es cc) ∧ (k ≤ N2) ∧ (n = N2 - k)) ?_ ?_
 ·
  apply Exists.intro;simp only[zQ,zR,zD,zE];exact ⟨0,_,_,rfl,m,hD8,Nat.zero_le _,rfl⟩
 ·
  intro n vs wr hI u;clear m;obtain ⟨k,es8,c8,rfl,m,hD8,hk,hn⟩:=hI;simp only[zu,zF,zG];refine aF fun K5 k5=>wp_region_lit (aA (cO rfl rfl) (aG (k5 _ _ ?_)));refine aF fun K6 k6=>?_;simp only[zz];refine cC rfl (fun hc1=>?_) (fun hc1=>?_)
  ·
   obtain ⟨t,ht,_,a,rfl,hrow⟩:=hT2.get (i:=k) (by omega);refine wp_skip (k6 _ _ ?_);refine aF fun K7 k7=>wp_block (aF fun K8 k8=>wp_region_lit (aA (aK bV aS rfl rfl (by omega) (by omega) (bY (Int.toNat_natCast _))) ?_));simp only[zz];refine aL rfl ((hrow.ext m.ext).lies eF aS) ?_;simp only[zz];refine bH m kB rfl ?_;clear m;intro g3 u m;simp only[zz];refine aT m 0 rfl rfl rfl aS (dX rfl) rfl ?_;clear m;intro u m;simp only[zy,zx,bK,zF,zG,Nat.reduceAdd] at m;refine aG (k8 _ _ ?_);refine wp_region_lit (aA (aB) ?_);simp only[zz];refine aL rfl ((m.b 0 rfl).full eF aS) ?_;simp only[zz];refine gJ m rfl rfl (Hu (t:=t)) ?_;clear m;intro u m;simp only[zz];refine fT (ek:=tr) (en:=Value.bool) (a:=eS t) (v:=true) m 1 rfl underlying110 aar rfl rfl rfl hD8 ?_;clear m;intro es8 c8 u m hD';clear hD8;have hD8:=hD';clear hD';simp only[zF,zG] at m;refine aG (k7 _ _ ?_);refine wp_region_lit (aA (aQ rfl rfl (aM (by omega) (by omega))) (aA (aB) (aG ?_)));simp only[zz];simp only[Exit.inBlock,Exit.then];refine ⟨N2 - (k + 1),_,?_,rfl,?_,?_⟩
   · omega
   · simp only[zz,zv]
   ·
    simp only[zQ,zR,zD,zE];exact ⟨k + 1,_,_,rfl,(m.sel [false,true]),by rw [dJ ht,List.map_append,List.map_cons,List.map_nil,mR];exact hD8,by omega,rfl⟩
  ·
   have hkN : k = N2:=by omega
   rw [List.take_of_length_le (by rw [hT2.len];omega)] at hD8;refine wp_exit (k3 _ _ ?_);refine aF fun K9 k9=>wp_region_lit (aA (aB) (aA (dB rfl) (aA (aO (c:=0) iZ rfl jH rfl rfl) ?_)));simp only[zz];refine aL rfl ((hB1.ext m.ext).lies1 nS rfl) ?_;simp only[zz];refine bE rfl rfl (Fb _ (hT2.ext m.ext) (by omega)) ?_;rintro v u e ⟨g9,es9,c9,rfl,hM,hD9⟩;replace m:=m.plus hM;clear hM e;simp only[List.cons_append,List.nil_append] at m;refine aA (aD) (aG (k9 _ _ ?_));refine aF fun K10 k10=>aF fun K11 k11=>wp_region_lit (aA (aB) (aA (dB rfl) ?_));simp only[zz];refine aA (aO (c:=0) iZ rfl jH rfl rfl) ?_;simp only[zz];refine aL rfl ((hB1.ext m.ext).lies1 nS rfl) ?_;simp only[zz];refine aA (bA rfl bV rfl) (aA (aB) (aG (k11 _ _ ?_)));refine wp_block ?_;simp only[zz];try simp only[Nat.zero_add,Nat.reduceAdd,Nat.reduceMul,Int.reduceToNat]
   refine bJ [36] [2,8,9,37,38,39,40,41,42,43,44,45,46,47,48,49,50,51,52,53,54,55,56,57,58,59,60,61,62,63,64,65,66,67,68,69,70,71,72,73,74,75,76,77,78,79,80,81,82,83,84,85,86,87,88,89,90,91,92,93,94,95,96,97,98] (fun n vs wl=>∃ (k : Nat) (es : Array MapEntry) (cc : Nat),vs = [.int .i64 (k:Int)] ∧ cF w wl [mI g9 es9 c9,mI q8 es cc] ∧ (cS tr Value.bool (Ag (gB [] (gs.map eS)) (nX ms (fs.take k))) es cc) ∧ (∀ i t,i < k → fs[i]? = some t → Px fs gs ms i t) ∧ (k ≤ N) ∧ (n = N - k)) ?_ ?_
   ·
    apply Exists.intro;simp only[zQ,zR,zD,zE];exact ⟨0,_,_,rfl,m,hD8,fun _ _ h=>absurd h (Nat.not_lt_zero _),Nat.zero_le _,rfl⟩
   ·
    intro n vs wr hI u;clear m;obtain ⟨k,es8,c8,rfl,m,hD8,hok,hk,hn⟩:=hI;simp only[zu,zF,zG];refine aF fun K12 k12=>wp_region_lit (aA (cO rfl rfl) (aG (k12 _ _ ?_)));refine aF fun K13 k13=>?_;simp only[zz];refine cC rfl (fun hc2=>?_) (fun hc2=>?_)
    ·
     obtain ⟨t,ht,_,a,rfl,hrow⟩:=hT.get (i:=k) (by omega);refine wp_skip (k13 _ _ ?_);refine aF fun K14 k14=>wp_block (aF fun K15 k15=>wp_region_lit (aA (aK bV aS rfl rfl (by omega) (by omega) (bY (Int.toNat_natCast _))) ?_));simp only[zz];refine aL rfl ((hrow.ext m.ext).lies eF aS) ?_;simp only[zz];refine bH m kB rfl ?_;clear m;intro g3 u m;simp only[zz];refine aT m 0 rfl rfl rfl aS (dX rfl) rfl ?_;clear m;intro u m;simp only[zy,zx,bK,zF,zG,Nat.reduceAdd] at m;refine aG (k15 _ _ ?_);refine aF fun K16 k16=>?_;refine kI 14 [0,1,2,3,4,5,6,7,8,9,10,11,12] [⟨13,9,53,[.int .i64 0,.int .i64 0,.int .i64 0,.int .i64 0,.int .i64 0,.int .i64 0,.int .i64 0,.int .i64 0,.int .i64 0]⟩] aP (by kernel_rfl) (al1 ⟨_,_,_,rfl,by kernel_rfl,_,kB,rfl⟩) (ol:=?_) ?hol ?_
     case hol=>simp only[zw,zQ,zR];try rfl
     intro u e;replace m:=m.ext' e;clear e;refine oK (aB) (oK (aH aY aC rfl rfl (by decide) (by decide) rfl) ?_);simp only[zz];refine nQ rfl (fun u e=>(((m.ext' e).b 0 rfl).lies aJ aC rfl rfl)) ?_;simp only[zz,zy,Nat.zero_add,Nat.reduceAdd,Nat.reduceMul,Int.reduceToNat];refine By rfl rfl (fun u e=>Fi (p:=t.a) _ (hB1.ext (m.ext' e).ext) (hMq.ext (m.ext' e).ext) hD himg) (oK (aB) (oK (aH aY aC rfl rfl (by decide) (by decide) rfl) ?_));simp only[zz];refine nQ rfl (fun u e=>(((m.ext' e).b 0 rfl).lies aJ aC rfl rfl)) ?_;simp only[zz,zy,Nat.zero_add,Nat.reduceAdd,Nat.reduceMul,Int.reduceToNat];refine By rfl rfl (fun u e=>Fi (p:=t.b) _ (hB1.ext (m.ext' e).ext) (hMq.ext (m.ext' e).ext) hD himg) (oK (aB) (oK (aH aY aC rfl rfl (by decide) (by decide) rfl) ?_));simp only[zz];refine nQ rfl (fun u e=>(((m.ext' e).b 0 rfl).lies aJ aC rfl rfl)) ?_;simp only[zz,zy,Nat.zero_add,Nat.reduceAdd,Nat.reduceMul,Int.reduceToNat];refine By rfl rfl (fun u e=>Fi (p:=t.c) _ (hB1.ext (m.ext' e).ext) (hMq.ext (m.ext' e).ext) hD himg) (oK (bR rfl rfl rfl) (Kv ?_));simp only[zz];refine mf1 m ?_;clear m;intro g4 u m;simp only[zJ,zK,zF,zG];refine aT m 0 rfl rfl rfl aS (dX rfl) rfl ?_;clear m;intro u m;simp only[zy,zx,bK,zF,zG,Nat.reduceAdd] at m;refine aG (k16 _ _ ?_);refine aF fun K17 k17=>aF fun K18 k18=>wp_region_lit (aA (aH aY aC rfl rfl (by decide) (by decide) rfl) ?_);simp only[zz];refine aL rfl ((m.b 0 rfl).lies aJ aC rfl rfl) ?_;simp only[zz,zy,Nat.zero_add,Nat.reduceAdd,Nat.reduceMul,Int.reduceToNat];refine aA (aH aY aC rfl rfl (by decide) (by decide) rfl) ?_;simp only[zz];refine aL rfl ((m.b 0 rfl).lies aJ aC rfl rfl) ?_;simp only[zz,zy,Nat.zero_add,Nat.reduceAdd,Nat.reduceMul,Int.reduceToNat];refine aA (fW rfl rfl) (aA (aB) (dF rfl (fun hb=>aH aY aC rfl rfl (by decide) (by decide) rfl) ?_));simp only[zz];refine eC rfl (fun hb=>cM (bO hb rfl) ((m.b 0 rfl).lies aJ aC rfl rfl)) ?_;simp only[zz,zy,Nat.zero_add,Nat.reduceAdd,Nat.reduceMul,Int.reduceToNat];refine dF rfl (fun hb=>aH aY aC rfl rfl (by decide) (by decide) rfl) ?_;simp only[zz];refine eC rfl (fun hb=>cM (bO hb rfl) ((m.b 0 rfl).lies aJ aC rfl rfl)) ?_;simp only[zz,zy,Nat.zero_add,Nat.reduceAdd,Nat.reduceMul,Int.reduceToNat];refine dF rfl (fun hb=>fW (bO hb rfl) (bO hb rfl)) (aA (dC rfl rfl rfl) (aA (aB) (dF rfl (fun hb=>aH aY aC rfl rfl (by decide) (by decide) rfl) ?_)));simp only[zz];refine eC rfl (fun hb=>cM (bO hb rfl) ((m.b 0 rfl).lies aJ aC rfl rfl)) ?_;simp only[zz,zy,Nat.zero_add,Nat.reduceAdd,Nat.reduceMul,Int.reduceToNat];refine dF rfl (fun hb=>aH aY aC rfl rfl (by decide) (by decide) rfl) ?_;simp only[zz];refine eC rfl (fun hb=>cM (bO hb rfl) ((m.b 0 rfl).lies aJ aC rfl rfl)) ?_;simp only[zz,zy,Nat.zero_add,Nat.reduceAdd,Nat.reduceMul,Int.reduceToNat];refine dF rfl (fun hb=>fW (bO hb rfl) (bO hb rfl)) (aA (dC rfl rfl rfl) (aG (k18 _ _ ?_)));simp only[zz];refine eD rfl (fun hc3=>?_) (fun hc3=>?_)
     ·
      have hn : (t.img ms).nd = true:=acg.symm.trans hc3;refine aF fun K19 k19=>wp_region_lit (aL rfl ((m.b 0 rfl).full eF aS) ?_);simp only[zz];refine gJ m rfl rfl (Hu (t:=t.img ms)) ?_;clear m;intro u m;simp only[zz];refine aT m 0 rfl rfl rfl aS (dX rfl) rfl ?_;clear m;intro u m;simp only[zy,zx,bK,zF,zG,Nat.reduceAdd] at m;refine aG (k19 _ _ ?_);refine aF fun K20 k20=>aF fun K21 k21=>wp_region_lit (aA (aB) ?_);simp only[zz];refine aL rfl ((m.b 0 rfl).full eF aS) ?_;simp only[zz];refine fL (eR (ek:=tr) (en:=Value.bool) (k:=eS (t.img ms)) (v0:=false) underlying110 mD aar rfl rfl (m.p 3 rfl) hD8) ?_;simp only[zz];refine aA (fN rfl) (aG (k21 _ _ ?_));simp only[zz];refine eD rfl (fun hc4=>?_) (fun hc4=>?_)
      ·
       have hnk:=aas ht (mt (ach hn hc4).1 (by decide));refine aF fun K22 k22=>wp_region_lit (aA (aD) (aG (k22 _ _ ?_)));refine wp_ret ?_;simp only[zz];try simp only[Exit.inBlock,Exit.then,if_true]
       refine bS rfl rfl ?_;try simp only[zD,zE]
       exact ⟨_,rfl,m.ext,by rw [if_neg (by rw [hnk];exact Bool.false_ne_true)]⟩
      ·
       have hk2:=Ry ht ((ach hn hc4).2 rfl) hok;refine wp_skip (k20 _ _ ?_);refine aF fun K23 k23=>wp_region_lit (aA (aB) ?_);simp only[zz];refine aL rfl ((m.b 0 rfl).full eF aS) ?_;simp only[zz];refine fT (ek:=tr) (en:=Value.bool) (a:=eS (t.img ms)) (v:=false) m 3 rfl underlying110 aar rfl rfl rfl hD8 ?_;clear m;intro es8 c8 u m hD';clear hD8;have hD8:=hD';clear hD';simp only[zF,zG] at m;refine aG (k23 _ _ ?_);refine wp_exit (k14 _ _ ?_);refine wp_region_lit (aA (aQ rfl rfl (aM (by omega) (by omega))) (aA (aB) (aG ?_)));simp only[zz];simp only[Exit.inBlock,Exit.then];refine ⟨N - (k + 1),_,?_,rfl,?_,?_⟩
       · omega
       · simp only[zz,zv]
       ·
        simp only[zQ,zR,zD,zE];exact ⟨k + 1,_,_,rfl,(m.sel [false,false,true,true]),by rw [adH ht hn,Vo];exact hD8,hk2,by omega,rfl⟩
     ·
      have hn : (t.img ms).nd = false:=acg.symm.trans hc3;refine wp_skip (k17 _ _ ?_);refine aF fun K24 k24=>wp_region_lit (aA (aB) (aA (aH aY aC rfl rfl (by decide) (by decide) rfl) ?_));simp only[zz];refine aL rfl ((m.b 0 rfl).lies aJ aC rfl rfl) ?_;simp only[zz,zy,Nat.zero_add,Nat.reduceAdd,Nat.reduceMul,Int.reduceToNat];refine aA (aH aY aC rfl rfl (by decide) (by decide) rfl) ?_;simp only[zz];refine aL rfl ((m.b 0 rfl).lies aJ aC rfl rfl) ?_;simp only[zz,zy,Nat.zero_add,Nat.reduceAdd,Nat.reduceMul,Int.reduceToNat];refine aA (cL rfl rfl) ?_;simp only[zz];refine fL (eR (ek:=ed) (en:=Value.bool) (k:=((t.img ms).a,(t.img ms).b)) (v0:=false) nY mD nM rfl rfl (m.p 2 rfl) hD9) ?_;simp only[zz];refine aA (fN rfl) (aA (aB) (fE rfl (fun hb=>aB) (fE rfl (fun hb=>aH aY aC rfl rfl (by decide) (by decide) rfl) ?_)));simp only[zz];refine nB rfl (fun hb=>cM (bO hb rfl) ((m.b 0 rfl).lies aJ aC rfl rfl)) ?_;simp only[zz,zy,Nat.zero_add,Nat.reduceAdd,Nat.reduceMul,Int.reduceToNat];refine fE rfl (fun hb=>aH aY aC rfl rfl (by decide) (by decide) rfl) ?_;simp only[zz];refine nB rfl (fun hb=>cM (bO hb rfl) ((m.b 0 rfl).lies aJ aC rfl rfl)) ?_;simp only[zz,zy,Nat.zero_add,Nat.reduceAdd,Nat.reduceMul,Int.reduceToNat];refine fE rfl (fun hb=>cL (afE hb rfl rfl) (afE hb rfl rfl)) ?_;simp only[zz];refine nB rfl (fun hb=>eR (ek:=ed) (en:=Value.bool) (k:=((t.img ms).b,(t.img ms).c)) (v0:=false) nY mD nM (bO hb rfl) (bO hb rfl) (m.p 2 rfl) hD9) ?_;simp only[zz];refine fE rfl (fun hb=>fN (bO hb rfl)) (aA (fQ rfl rfl rfl) (aG (k24 _ _ ?_)));simp only[zz];refine eD rfl (fun hc5=>?_) (fun hc5=>?_)
      ·
       have hnk:=aas ht (mt (aci hn hc5).1 (by decide));refine aF fun K25 k25=>wp_region_lit (aA (aD) (aG (k25 _ _ ?_)));refine wp_ret ?_;simp only[zz];try simp only[Exit.inBlock,Exit.then,if_true]
       refine bS rfl rfl ?_;try simp only[zD,zE]
       exact ⟨_,rfl,m.ext,by rw [if_neg (by rw [hnk];exact Bool.false_ne_true)]⟩
      ·
       have hk2:=Ry ht ((aci hn hc5).2 rfl) hok;refine wp_skip (k14 _ _ ?_);refine wp_region_lit (aA (aQ rfl rfl (aM (by omega) (by omega))) (aA (aB) (aG ?_)));simp only[zz];simp only[Exit.inBlock,Exit.then];refine ⟨N - (k + 1),_,?_,rfl,?_,?_⟩
       · omega
       · simp only[zz,zv]
       ·
        simp only[zQ,zR,zD,zE];exact ⟨k + 1,_,_,rfl,(m.sel [false,false,true,true]),by rw [adI ht hn];exact hD8,hk2,by omega,rfl⟩
    ·
     have hkN : k = N:=by omega
     rw [List.take_of_length_le (by rw [hT.len];omega)] at hD8;have hall : ∀ i t,fs[i]? = some t → Px fs gs ms i t:=fun i t ht=>hok i t (by have:=(List.getElem?_eq_some_iff.1 ht).1;rw [hT.len] at this;omega) ht;refine wp_exit (k10 _ _ ?_);refine aF fun K26 k26=>aF fun K27 k27=>wp_region_lit (aA (aB) ?_);simp only[zz];refine wM m underlying110 rfl (m.p 1 rfl) ?_;clear m;intro r1 u m;refine aG (k27 _ _ ?_);refine wp_block ?_;simp only[zz];try simp only[Nat.zero_add,Nat.reduceAdd,Nat.reduceMul,Int.reduceToNat]
     refine bJ [] [2,11,101,102,103,104,105] (fun n vs wl=>∃ (dn rs : List (T3 × Bool)) (sn : Array Nat),vs = [] ∧ cF w wl [iI r1 q8 c8 sn,mI q8 es8 c8] ∧ (mF tr Value.bool (Ag (gB [] (gs.map eS)) (nX ms (fs))) es8 sn dn rs) ∧ (∀ y ∈ dn,y.2 = false) ∧ (n = rs.length)) ?_ ?_
     ·
      apply Exists.intro;simp only[zQ,zR,zD,zE];exact ⟨[],_,#[],trivial,(m.sel [true,false,true]),mF.start hD8,fun _ h=>(by cases h),rfl⟩
     ·
      intro n vs wr hI u;clear m;obtain ⟨dn,rs,sn,rfl,m,hT9,hno,hn⟩:=hI;simp only[zu,zF,zG];refine aF fun K28 k28=>wp_region_lit (Dv m 0 rfl rfl (m.p 1 rfl) hD8 hT9 ?_);clear m;intro bb kk vv sn u m hN;simp only[zF,zG] at m;refine aA (sW rfl) (aG (k28 _ _ ?_));refine aF fun K29 k29=>?_;simp only[zz];refine eD rfl (fun hc6=>?_) (fun hc6=>?_)
      ·
       obtain ⟨kp,kb,rs2,hp,hT10⟩:=Dy hc6 hN;refine wp_skip (k29 _ _ ?_);refine wp_block (aF fun K30 k30=>wp_region_lit (fL (sX rfl (m.r 0 rfl) (m.p 1 rfl) hD8 hT10) ?_));simp only[zz];refine aA (bM rfl rfl) (aA (aD) (aG (k30 _ _ ?_)));refine aF fun K31 k31=>wp_region_lit (aA (aB) (aG (k31 _ _ ?_)));simp only[zz];refine eD rfl (fun hc7=>?_) (fun hc7=>?_)
       ·
        have hnk:=aat hT10 (y:=kp) (by rw [← hc7];simp);refine aF fun K32 k32=>wp_region_lit (aA (aD) (aG (k32 _ _ ?_)));refine wp_ret ?_;simp only[zz];try simp only[Exit.inBlock,Exit.then,if_true]
        refine bS rfl rfl ?_;try simp only[zD,zE]
        exact ⟨_,rfl,m.ext,by rw [if_neg (by rw [hnk];exact Bool.false_ne_true)]⟩
       ·
        skip
        refine wp_skip ?_;simp only[Exit.inBlock,Exit.then];refine ⟨rs2.length,_,?_,rfl,?_,?_⟩
        · rw [hn,hp.length_eq];exact Nat.lt_succ_self _
        · simp only[zz,zv]
        ·
         simp only[zQ,zR,zD,zE];exact ⟨dn ++ [(kp,kb)],rs2,_,trivial,m,hT10,fun y hy=>(List.mem_append.1 hy).elim (hno y) fun hy=>by obtain rfl:=List.mem_singleton.1 hy;exact hc7,rfl⟩
      ·
       obtain rfl:=Dx hc6 hN;refine wp_exit (k26 _ _ ?_);refine aF fun K33 k33=>wp_region_lit (aA (aD) (aG (k33 _ _ ?_)));refine wp_ret ?_;simp only[zz];try simp only[Exit.inBlock,Exit.then,if_true]
       refine bS rfl rfl ?_;try simp only[zD,zE]
       exact ⟨_,rfl,m.ext,by rw [if_pos (abO hT9 hno hall)]⟩
end Go.Proofs.YtfohfflkhpfjeaaGreatDoor
namespace Go.Proofs.YtfohfflkhpfjeaaGreatDoor
open Go.Proofs.Tryz
open Go.RowKit Go.Lith
set_option maxRecDepth 100000
attribute [local irreducible] wpList wpQuiet dY Code.wp
theorem oB {A : Option Addr} {xs : List Nat} {b na cap : Nat} (w : World) (hS : cY w b A na cap xs) : eL prog 94 [.slice A na cap] w (fun v _=>v = .slice A (trim xs).length cap):=by
 skip
 refine ⟨afw,?_⟩;have hX:=dK.refl w;obtain rfl:=hS.eq;have hl:=hS.len;have hle:=hS.le;have hcp:=hS.cap
 go_enter func94,ntmps94
 refine aF (fun K1 hK1=>wp_region_lit (aA (aD) ?_));simp only[zz];refine aG (hK1 _ _ ?_);refine aF (fun K2 hK2=>wp_block ?_);refine bJ [0] [3,4,5,6,7,8,9,10,11,12,13,14,15,16,17,18,19] (fun n vs wl=>∃ (k : Nat),vs = [.slice A k cap] ∧ (dK w wl) ∧ (k ≤ xs.length) ∧ (trim (xs.take k) = trim xs) ∧ (n = k)) ?_ ?_
 ·
  apply Exists.intro;simp only[zQ,zR,zD,zE];exact ⟨xs.length,rfl,hX,Nat.le_refl _,by rw [List.take_length],rfl⟩
 ·
  intro n vs wr hI u;obtain ⟨k,rfl,hX,hk,ht,hn⟩:=hI;simp only[zu,zF,zG];refine aF (fun K3 hK3=>aF (fun K4 hK4=>?_));by_cases hk0 : 0 < k
  ·
   obtain ⟨a,rfl,hcell,hlt⟩:=(hS.ext hX).get (show k - 1 < xs.length by omega);refine wp_region_lit (aA (aB) (aA (bA rfl bX rfl) (aA (wB rfl rfl (by omega)) ?_)));simp only[zz];refine aA (aB) ?_;simp only[zz];refine bN rfl (aA (aB) ?_);simp only[zz];refine bN rfl (aA (aB) ?_);simp only[zz];refine bN rfl (aA (bA rfl bX rfl) ?_);simp only[zz];refine bN rfl (aA (eO rfl rfl (aM (by omega) (by omega))) ?_);simp only[zz];refine bN rfl (aA (aK bX bG rfl rfl (by omega) (by omega) (gF (show _ = k - 1 by omega))) ?_);simp only[zz];refine bN rfl (aL rfl (lies1 hcell bZ) ?_);simp only[zz];refine bN rfl (aA (rJ rfl rfl) (aA (cJ rfl) ?_));simp only[zz];refine aG (hK4 _ _ ?_);refine cC rfl (fun hc1=>?_) (fun hc1=>?_)
   ·
    refine wp_skip ?_;refine hK3 _ _ (wp_block (wp_region_lit (aA (aB) (aA (aB) (aA (bA rfl bX rfl) ?_)))));simp only[zz];refine aA (eO rfl rfl (aM (by omega) (by omega))) (aA (kZ bX bG rfl rfl (show _ = k - 1 by omega) (by omega) (by omega)) (aA (aD) ?_));simp only[zz];refine aG ?_;simp only[Exit.inBlock,Exit.then];refine ⟨k - 1,_,?_,rfl,?_,?_⟩
    · omega
    · simp only[zz,zv]
    ·
     simp only[zQ,zR,zD,zE];exact ⟨k - 1,rfl,hX,by omega,Gj hk0 (by omega) hc1 ht,rfl⟩
   ·
    refine wp_exit ?_;refine hK2 _ _ (aF (fun K5 hK5=>wp_region_lit (aA (aB) (aA (aD) ?_))));simp only[zz];refine aG (hK5 _ _ ?_);refine wp_ret ?_;try simp only[Exit.inBlock,Exit.then]
    refine bS rfl rfl ?_;try simp only[zD,zE]
    exact ⟨_,rfl,hX,by rw [← Kj hk0 (by omega) hc1 ht]⟩
  ·
   obtain rfl : k = 0:=by omega
   refine wp_region_lit (aA (aB) (aA (bA rfl bX rfl) (aA (tQ rfl rfl (by omega)) ?_)));simp only[zz];refine aA (aB) ?_;simp only[zz];refine cN rfl ?_;simp only[zz];refine cN rfl ?_;simp only[zz];refine cN rfl ?_;simp only[zz];refine cN rfl ?_;simp only[zz];refine cN rfl ?_;simp only[zz];refine cN rfl ?_;simp only[zz];refine cN rfl ?_;simp only[zz];refine aA (cG rfl) ?_;simp only[zz];refine aG (hK4 _ _ ?_);refine iD rfl (wp_exit ?_);refine hK2 _ _ (aF (fun K6 hK6=>wp_region_lit (aA (aB) (aA (aD) ?_))));simp only[zz];refine aG (hK6 _ _ ?_);refine wp_ret ?_;try simp only[Exit.inBlock,Exit.then]
   refine bS rfl rfl ?_;try simp only[zD,zE]
   exact ⟨_,rfl,hX,by rw [← Kk ht]⟩
theorem sG {A B : Option Addr} {xs ys : List Nat} {b b2 na nb ca cb : Nat} (w : World) (hS : cY w b A na ca xs) (hR : cY w b2 B nb cb ys) (tx : fS xs) (ty : fS ys) : eL prog 61 [.slice A na ca,.slice B nb cb] w (fun v _=>v = .int .i64 (Ij (val 65536 xs) (val 65536 ys))):=by
 skip
 refine ⟨aeZ,?_⟩;have hX:=dK.refl w;obtain rfl:=hS.eq;obtain rfl:=hR.eq;have hl:=hS.len;have hl2:=hR.len
 go_enter func61,ntmps61
 refine aF (fun K1 hK1=>wp_region_lit (aA (aD) ?_));simp only[zz];refine aG (hK1 _ _ ?_);refine aF (fun K2 hK2=>aF (fun K3 hK3=>wp_region_lit (aA (aB) (aA (bA rfl bX rfl) (aA (aB) ?_)))));simp only[zz];refine aA (bA rfl bX rfl) (aA (kW rfl rfl) ?_);simp only[zz];refine aG (hK3 _ _ ?_);refine cC rfl (fun hc1=>?_) (fun hc1=>?_)
 ·
  refine aF (fun K4 hK4=>aF (fun K5 hK5=>wp_region_lit (aA (aB) (aA (bA rfl bX rfl) (aA (aB) ?_)))));simp only[zz];refine aA (bA rfl bX rfl) (aA (cO rfl rfl) ?_);simp only[zz];refine aG (hK5 _ _ ?_);refine cC rfl (fun hc2=>?_) (fun hc2=>?_)
  ·
   refine aF (fun K6 hK6=>wp_region_lit (aA (aD) ?_));simp only[zz];refine aG (hK6 _ _ ?_);refine wp_ret ?_;try simp only[Exit.inBlock,Exit.then]
   refine bS rfl rfl ?_;try simp only[zD,zE]
   exact ⟨_,rfl,hX,by rw [Ij,if_pos (jN (by omega) hS.digs hR.digs ty (by omega))]⟩
  ·
   refine wp_skip ?_;refine hK4 _ _ (aF (fun K7 hK7=>wp_region_lit (aA (aD) ?_)));simp only[zz];refine aG (hK7 _ _ ?_);refine wp_ret ?_;try simp only[Exit.inBlock,Exit.then]
   refine bS rfl rfl ?_;try simp only[zD,zE]
   exact ⟨_,rfl,hX,by have:=jN (B:=65536) (by omega) hR.digs hS.digs tx (by omega);rw [Ij,if_neg (by omega),if_pos this]⟩
 ·
  refine wp_skip ?_;refine hK2 _ _ (aF (fun K8 hK8=>aF (fun K9 hK9=>wp_region_lit (aA (aB) (aA (bA rfl bX rfl) (aA (eO rfl rfl (aM (by omega) (by omega))) ?_))))));simp only[zz];refine aA (aD) ?_;simp only[zz];refine aG (hK9 _ _ ?_);refine wp_block (bJ [5] [4,19,20,21,22,23,24,25,26,27,28,29,30,31,32,33,34,35,36,37,38,39,40] (fun n vs wl=>∃ (k : Nat),vs = [.int .i64 ((k:Int) - 1)] ∧ (dK w wl) ∧ (k ≤ xs.length) ∧ (xs.drop k = ys.drop k) ∧ (n = k)) ?_ ?_)
  ·
   apply Exists.intro;simp only[zQ,zR,zD,zE];exact ⟨xs.length,rfl,hX,Nat.le_refl _,by rw [List.drop_length,show xs.length = ys.length by omega,List.drop_length],rfl⟩
  ·
   intro n vs wr hI u;obtain ⟨k,rfl,hX,hk,hd,hn⟩:=hI;simp only[zu,zF,zG];refine aF (fun K10 hK10=>aF (fun K11 hK11=>wp_region_lit (aA (aB) (aA (pP rfl rfl) ?_))));simp only[zz];refine aG (hK11 _ _ ?_);refine cC rfl (fun hc3=>?_) (fun hc3=>?_)
   ·
    refine wp_skip ?_;refine hK10 _ _ (aF (fun K12 hK12=>wp_block (aF (fun K13 hK13=>?_))));obtain ⟨a,rfl,hca,_⟩:=(hS.ext hX).get (show k - 1 < xs.length by omega);obtain ⟨b,rfl,hcb,_⟩:=(hR.ext hX).get (show k - 1 < ys.length by omega);refine iM aP (by kernel_rfl) (aI (aB) (aI (aB) (aI (aK bX bG rfl rfl (by omega) (by omega) (gF (show _ = k - 1 by omega))) ?_)));simp only[zz];refine iQ rfl (fun _ hE'=>(lies1 (hE'.cell hca) bZ)) ?_;simp only[zz];refine aI (aB) (aI (aB) (aI (aK bX bG rfl rfl (by omega) (by omega) (gF (show _ = k - 1 by omega))) ?_));simp only[zz];refine iQ rfl (fun _ hE'=>(lies1 (hE'.cell hcb) bZ)) ?_;simp only[zz];refine aI (kW rfl rfl) ?_;simp only[zz];refine cP ?_;intro w1 hE;replace hX:=hX.trans hE;clear hE;refine hK13 _ _ (cC rfl (fun hc4=>?_) (fun hc4=>?_))
    ·
     refine aF (fun K14 hK14=>aF (fun K15 hK15=>?_));have hca:=(hS.ext hX).at (show k - 1 < xs.length by omega);have hcb:=(hR.ext hX).at (show k - 1 < ys.length by omega);refine iM aP (by kernel_rfl) (aI (aB) (aI (aB) (aI (aK bX bG rfl rfl (by omega) (by omega) (gF (show _ = k - 1 by omega))) ?_)));simp only[zz];refine iQ rfl (fun _ hE'=>(lies1 (hE'.cell hca) bZ)) ?_;simp only[zz];refine aI (aB) (aI (aB) (aI (aK bX bG rfl rfl (by omega) (by omega) (gF (show _ = k - 1 by omega))) ?_));simp only[zz];refine iQ rfl (fun _ hE'=>(lies1 (hE'.cell hcb) bZ)) ?_;simp only[zz];refine aI (cO rfl rfl) ?_;simp only[zz];refine cP ?_;intro w2 hE;replace hX:=hX.trans hE;clear hE;refine hK15 _ _ (cC rfl (fun hc5=>?_) (fun hc5=>?_))
     ·
      refine aF (fun K16 hK16=>wp_region_lit (aA (aD) ?_));simp only[zz];refine aG (hK16 _ _ ?_);refine wp_ret ?_;try simp only[Exit.inBlock,Exit.then]
      refine bS rfl rfl ?_;try simp only[zD,zE]
      exact ⟨_,rfl,hX,by rw [Ij,if_pos (Mx hS.digs (by omega) (by omega) (by omega) hd hc5)]⟩
     ·
      refine wp_skip ?_;refine hK14 _ _ (aF (fun K17 hK17=>wp_region_lit (aA (aD) ?_)));simp only[zz];refine aG (hK17 _ _ ?_);refine wp_ret ?_;try simp only[Exit.inBlock,Exit.then]
      refine bS rfl rfl ?_;try simp only[zD,zE]
      exact ⟨_,rfl,hX,by have:=Mx hR.digs (by omega) (by omega) (by omega) hd.symm (by omega);rw [Ij,if_neg (by omega),if_pos this]⟩
    ·
     refine wp_skip ?_;refine hK12 _ _ (wp_region_lit (aA (aB) (aA (eO rfl rfl (aM (by omega) (by omega))) (aA (aD) ?_))));simp only[zz];refine aG ?_;rw [show ((k:Int) - 1 - 1) = ((k - 1 : Nat) : Int) - 1 by omega];simp only[Exit.inBlock,Exit.then];refine ⟨k - 1,_,?_,rfl,?_,?_⟩
     · omega
     · simp only[zz,zv]
     ·
      simp only[zQ,zR,zD,zE];exact ⟨k - 1,rfl,hX,by omega,aaa (by omega) (by omega) (by omega) hd (by omega),rfl⟩
   ·
    refine wp_exit ?_;refine hK8 _ _ (aF (fun K18 hK18=>wp_region_lit (aA (aD) ?_)));simp only[zz];refine aG (hK18 _ _ ?_);refine wp_ret ?_;try simp only[Exit.inBlock,Exit.then]
    refine bS rfl rfl ?_;try simp only[zD,zE]
    exact ⟨_,rfl,hX,by have h0 : k = 0:=(by omega);subst h0;simp only[List.drop_zero] at hd;rw [hd,Ij,if_neg (by omega),if_neg (by omega)]⟩
theorem adJ {A B : Option Addr} {xs ys : List Nat} {na nb ca cb : Nat} (w : World) (hS : cY w w.heap.size A na ca xs) (hR : cY w w.heap.size B nb cb ys) (hlx : xs.length ≤ 1000000000000) (hly : ys.length ≤ 1000000000000) : eL prog 60 [.slice A na ca,.slice B nb cb] w (adA (val 65536 xs + val 65536 ys) (max xs.length ys.length + 1)):=by
 skip
 refine ⟨aeY,?_⟩;have hX:=dK.refl w;obtain rfl:=hS.eq;obtain rfl:=hR.eq;obtain ⟨M,hM⟩ : ∃ M,M = max xs.length ys.length:=⟨_,rfl⟩
 rw [← hM]
 go_enter func60,ntmps60
 refine aF (fun K1 hK1=>wp_region_lit (aA (aD) ?_));simp only[zz];refine aG (hK1 _ _ ?_);refine aF (fun K2 hK2=>wp_region_lit (aA (aD) ?_));simp only[zz];obtain ⟨b5,hb5e,hb5l⟩:=hX.base;have hS5:=sE.of hX hb5e;have hO5:=iR.nil_of hX b5 3 1;clear hb5e;refine aG (hK2 _ _ ?_);refine aF (fun K3 hK3=>wp_region_lit (aA (aD) ?_));simp only[zz];refine aG (hK3 _ _ ?_);refine aF (fun K4 hK4=>aF (fun K5 hK5=>wp_region_lit (aA (aD) ?_)));simp only[zz];refine aG (hK5 _ _ ?_);refine wp_block (bJ [5,6,7] [8,9,10,11,12,13,14,15,16,17,18,19,20,21,22,23,24,25,26,27,28,29,30,31,32,33,34,35,36,37,38,39,40,41,42,43,44,45,46,47,48,49,50,51,52] (fun n vs wl=>∃ (i c : Nat) (os : List Nat) (v5 : Value),vs = [v5,.int .i64 (c:Int),.int .i64 (i:Int)] ∧ (dK w wl) ∧ (cY wl w.heap.size A xs.length ca xs) ∧ (cY wl w.heap.size B ys.length cb ys) ∧ (sE wl b5) ∧ (iR wl b5 3 1 v5 os.length (os.map pI)) ∧ (os.length = i) ∧ (val 65536 os + 65536 ^ i * c = val 65536 (xs.take i) + val 65536 (ys.take i)) ∧ (cZ 65536 os) ∧ (c ≤ 1) ∧ (i ≤ M + 1) ∧ (i = M + 1 → c = 0) ∧ (n = M + 1 - i)) ?_ ?_)
 ·
  apply Exists.intro;simp only[zQ,zR,zD,zE];exact ⟨0,0,[],_,rfl,hX,hS,hR,hS5,hO5,rfl,by simp [val],kG _,by omega,by omega,fun _=>rfl,rfl⟩
 ·
  intro n vs wr hI u;obtain ⟨i,c,os,v5,rfl,hX,hS,hR,hS5,hO5,hlo,hv,hd,hc,hi,hic,hn⟩:=hI;simp only[zu,zF,zG];refine aF (fun K6 hK6=>aF (fun K7 hK7=>?_));rcases (show i < xs.length ∨ (¬ i < xs.length ∧ i < ys.length) ∨ (¬ i < xs.length ∧ ¬ i < ys.length ∧ 0 < c) ∨ (¬ i < xs.length ∧ ¬ i < ys.length ∧ c = 0) by omega) with hw | ⟨hw,hw2⟩ | ⟨hw,hw2,hw3⟩ | ⟨hw,hw2,rfl⟩
  ·
   refine wp_region_lit (aA (aB) (aA (aB) (aA (bA rfl bX rfl) ?_)));simp only[zz];refine aA (bW rfl rfl (by omega)) (aA (aB) ?_);simp only[zz];refine fM rfl ?_;simp only[zz];refine fM rfl ?_;simp only[zz];refine fM rfl ?_;simp only[zz];refine fM rfl ?_;simp only[zz];refine aA (cJ rfl) (aA (aB) ?_);simp only[zz];refine fM rfl ?_;simp only[zz];refine fM rfl ?_;simp only[zz];refine aA (cJ rfl) ?_;simp only[zz];refine aG (hK7 _ _ ?_);refine cQ rfl (wp_skip ?_);refine hK6 _ _ (aF (fun K8 hK8=>wp_block (aF (fun K9 hK9=>wp_region_lit (aA (aB) (aA (aD) ?_))))));simp only[zz];refine aG (hK9 _ _ ?_);refine aF (fun K10 hK10=>aF (fun K11 hK11=>wp_region_lit (aA (aB) (aA (aB) (aA (bA rfl bX rfl) ?_)))));simp only[zz];refine aA (bW rfl rfl (by omega)) ?_;simp only[zz];refine aG (hK11 _ _ ?_);refine cQ rfl ?_;obtain ⟨a,rfl,hca,hla⟩:=hS.get (show i < xs.length by omega);refine wp_region_lit (aA (aB) (aA (aB) (aA (aB) ?_)));simp only[zz];refine aA (aK bX bG rfl rfl (by omega) (by omega) (gF (Int.toNat_natCast _))) ?_;simp only[zz];refine aL rfl (lies1 hca bZ) ?_;simp only[zz];refine aA (aQ rfl rfl (aM (by omega) (by omega))) (aA (aD) ?_);simp only[zz];refine aG ?_;obtain ⟨s1,hs1⟩ : ∃ s1 : Nat,s1 = c + xs[i]:=⟨_,rfl⟩
   rw [show ((c:Int) + (xs[i]:Int)) = (s1:Int) by omega];have hs2 : s1 = c + xs[i]?.getD 0:=by rw [List.getElem?_eq_getElem (by omega)];exact hs1
   have hs3 : s1 < 65537:=by omega
   refine hK10 _ _ ?_;refine aF (fun K12 hK12=>aF (fun K13 hK13=>wp_region_lit (aA (aB) (aA (aB) (aA (bA rfl bX rfl) ?_)))));simp only[zz];refine aA (cO rfl rfl) ?_;simp only[zz];refine aG (hK13 _ _ ?_);refine cC rfl (fun hc3=>?_) (fun hc3=>?_)
   ·
    obtain ⟨a2,rfl,hcb,hlb⟩:=hR.get (show i < ys.length by omega);refine wp_region_lit (aA (aB) (aA (aB) (aA (aB) ?_)));simp only[zz];refine aA (aK bX bG rfl rfl (by omega) (by omega) (gF (Int.toNat_natCast _))) ?_;simp only[zz];refine aL rfl (lies1 hcb bZ) ?_;simp only[zz];refine aA (aQ rfl rfl (aM (by omega) (by omega))) (aA (aD) ?_);simp only[zz];refine aG ?_;obtain ⟨s,hs⟩ : ∃ s : Nat,s = s1 + ys[i]:=⟨_,rfl⟩
    rw [show ((s1:Int) + (ys[i]:Int)) = (s:Int) by omega];have hs4 : s = c + xs[i]?.getD 0 + ys[i]?.getD 0:=by rw [List.getElem?_eq_getElem (l:=ys) (by omega)];simp only[Option.getD_some];omega
    have hs5 : s < 131072:=by omega
    refine hK12 _ _ ?_;refine aF (fun K14 hK14=>wp_region_lit (aA (aB) (aA (aB) (aA (cE rfl rfl (by omega) (lC (n:=65536))) ?_))));simp only[zz];refine fD bX (z:=.int .i64 0) (by kernel_rfl) rfl (by simp only[zz];rfl) (by rfl) ?_;intro w1 g1 hE hg1 hB1;have hG1:=Nat.le_trans hX.size hg1
    (try replace hS:=hS.ext hE);(try replace hR:=hR.ext hE);(try replace hS5:=hS5.ext hE);(try replace hO5:=hO5.ext hE);replace hX:=hX.trans hE
    clear hE hg1;simp only[zz];refine fU rfl bX kU rfl (by decide) rfl hO5 rfl (news:=_) rfl hB1.row0 (by simp [Value.oneCell']) (by omega) (by omega) hS5.h ?_;clear hO5;intro v5 w2 hO5 hGr _
    (try replace hS:=hS.grew hGr (by first | trivial | omega));(try replace hR:=hR.grew hGr (by first | trivial | omega));(try replace hS5:=hS5.grew hGr (by first | trivial | omega));replace hX:=hX.grown hGr hb5l
    clear hGr;replace hO5:=hO5.snoc;simp only[zz];refine aA (aD) ?_;simp only[zz];refine aG (hK14 _ _ ?_);refine wp_region_lit (aA (aB) (aA (gY rfl rfl (by omega) (lD (n:=65536) (by omega))) (aA (aD) ?_)));simp only[zz];refine aG (hK8 _ _ ?_);refine wp_region_lit (aA (aB) (aA (aQ rfl rfl (aM (by omega) (by omega))) (aA (aD) ?_)));simp only[zz];refine aG ?_;obtain ⟨r1,r2⟩:=tF hlo hv hd hs4;rw [show ((i:Int) + 1) = ((i + 1 : Nat) : Int) by omega];simp only[Exit.inBlock,Exit.then];refine ⟨M + 1 - (i + 1),_,?_,rfl,?_,?_⟩
    · omega
    · simp only[zz,zv]
    ·
     simp only[zQ,zR,zD,zE];exact ⟨i + 1,s / 65536,os ++ [s % 65536],v5,rfl,hX,hS,hR,hS5,hO5,by simp;omega,r1,r2,by omega,by omega,fun h=>by rw [List.getElem?_eq_none (l:=xs) (by omega),List.getElem?_eq_none (l:=ys) (by omega)] at hs4;simp at hs4;omega,rfl⟩
   ·
    obtain ⟨s,hs⟩ : ∃ s : Nat,s = s1:=⟨_,rfl⟩
    rw [← hs];have hs4 : s = c + xs[i]?.getD 0 + ys[i]?.getD 0:=by rw [List.getElem?_eq_none (l:=ys) (by omega)];simp only[Option.getD_none];omega
    have hs5 : s < 131072:=by omega
    refine wp_skip ?_;refine hK12 _ _ (aF (fun K15 hK15=>wp_region_lit (aA (aB) (aA (aB) (aA (cE rfl rfl (by omega) (lC (n:=65536))) ?_)))));simp only[zz];refine fD bX (z:=.int .i64 0) (by kernel_rfl) rfl (by simp only[zz];rfl) (by rfl) ?_;intro w1 g1 hE hg1 hB1;have hG1:=Nat.le_trans hX.size hg1
    (try replace hS:=hS.ext hE);(try replace hR:=hR.ext hE);(try replace hS5:=hS5.ext hE);(try replace hO5:=hO5.ext hE);replace hX:=hX.trans hE
    clear hE hg1;simp only[zz];refine fU rfl bX kU rfl (by decide) rfl hO5 rfl (news:=_) rfl hB1.row0 (by simp [Value.oneCell']) (by omega) (by omega) hS5.h ?_;clear hO5;intro v5 w2 hO5 hGr _
    (try replace hS:=hS.grew hGr (by first | trivial | omega));(try replace hR:=hR.grew hGr (by first | trivial | omega));(try replace hS5:=hS5.grew hGr (by first | trivial | omega));replace hX:=hX.grown hGr hb5l
    clear hGr;replace hO5:=hO5.snoc;simp only[zz];refine aA (aD) ?_;simp only[zz];refine aG (hK15 _ _ ?_);refine wp_region_lit (aA (aB) (aA (gY rfl rfl (by omega) (lD (n:=65536) (by omega))) (aA (aD) ?_)));simp only[zz];refine aG (hK8 _ _ ?_);refine wp_region_lit (aA (aB) (aA (aQ rfl rfl (aM (by omega) (by omega))) (aA (aD) ?_)));simp only[zz];refine aG ?_;obtain ⟨r1,r2⟩:=tF hlo hv hd hs4;rw [show ((i:Int) + 1) = ((i + 1 : Nat) : Int) by omega];simp only[Exit.inBlock,Exit.then];refine ⟨M + 1 - (i + 1),_,?_,rfl,?_,?_⟩
    · omega
    · simp only[zz,zv]
    ·
     simp only[zQ,zR,zD,zE];exact ⟨i + 1,s / 65536,os ++ [s % 65536],v5,rfl,hX,hS,hR,hS5,hO5,by simp;omega,r1,r2,by omega,by omega,fun h=>by rw [List.getElem?_eq_none (l:=xs) (by omega),List.getElem?_eq_none (l:=ys) (by omega)] at hs4;simp at hs4;omega,rfl⟩
  ·
   refine wp_region_lit (aA (aB) (aA (aB) (aA (bA rfl bX rfl) ?_)));simp only[zz];refine aA (eM rfl rfl (by omega)) (aA (aB) ?_);simp only[zz];refine bN rfl (aA (aB) ?_);simp only[zz];refine bN rfl (aA (aB) ?_);simp only[zz];refine bN rfl (aA (bA rfl bX rfl) ?_);simp only[zz];refine bN rfl (aA (bW rfl rfl (by omega)) (aA (cG rfl) (aA (aB) ?_)));simp only[zz];refine fM rfl ?_;simp only[zz];refine fM rfl ?_;simp only[zz];refine aA (cJ rfl) ?_;simp only[zz];refine aG (hK7 _ _ ?_);refine cQ rfl (wp_skip ?_);refine hK6 _ _ (aF (fun K16 hK16=>wp_block (aF (fun K17 hK17=>wp_region_lit (aA (aB) (aA (aD) ?_))))));simp only[zz];refine aG ?_;obtain ⟨s1,hs1⟩ : ∃ s1 : Nat,s1 = c:=⟨_,rfl⟩
   rw [← hs1];have hs2 : s1 = c + xs[i]?.getD 0:=by rw [List.getElem?_eq_none (by omega)];exact hs1
   have hs3 : s1 < 65537:=by omega
   refine hK17 _ _ ?_;refine aF (fun K18 hK18=>aF (fun K19 hK19=>wp_region_lit (aA (aB) (aA (aB) (aA (bA rfl bX rfl) ?_)))));simp only[zz];refine aA (eM rfl rfl (by omega)) ?_;simp only[zz];refine aG (hK19 _ _ ?_);refine iD rfl (wp_skip ?_);refine hK18 _ _ (aF (fun K20 hK20=>aF (fun K21 hK21=>wp_region_lit (aA (aB) (aA (aB) (aA (bA rfl bX rfl) ?_))))));simp only[zz];refine aA (bW rfl rfl (by omega)) ?_;simp only[zz];refine aG (hK21 _ _ ?_);refine cQ rfl ?_;obtain ⟨a2,rfl,hcb,hlb⟩:=hR.get (show i < ys.length by omega);refine wp_region_lit (aA (aB) (aA (aB) (aA (aB) ?_)));simp only[zz];refine aA (aK bX bG rfl rfl (by omega) (by omega) (gF (Int.toNat_natCast _))) ?_;simp only[zz];refine aL rfl (lies1 hcb bZ) ?_;simp only[zz];refine aA (aQ rfl rfl (aM (by omega) (by omega))) (aA (aD) ?_);simp only[zz];refine aG ?_;obtain ⟨s,hs⟩ : ∃ s : Nat,s = s1 + ys[i]:=⟨_,rfl⟩
   rw [show ((s1:Int) + (ys[i]:Int)) = (s:Int) by omega];have hs4 : s = c + xs[i]?.getD 0 + ys[i]?.getD 0:=by rw [List.getElem?_eq_getElem (l:=ys) (by omega)];simp only[Option.getD_some];omega
   have hs5 : s < 131072:=by omega
   refine hK20 _ _ ?_;refine aF (fun K22 hK22=>wp_region_lit (aA (aB) (aA (aB) (aA (cE rfl rfl (by omega) (lC (n:=65536))) ?_))));simp only[zz];refine fD bX (z:=.int .i64 0) (by kernel_rfl) rfl (by simp only[zz];rfl) (by rfl) ?_;intro w1 g1 hE hg1 hB1;have hG1:=Nat.le_trans hX.size hg1
   (try replace hS:=hS.ext hE);(try replace hR:=hR.ext hE);(try replace hS5:=hS5.ext hE);(try replace hO5:=hO5.ext hE);replace hX:=hX.trans hE
   clear hE hg1;simp only[zz];refine fU rfl bX kU rfl (by decide) rfl hO5 rfl (news:=_) rfl hB1.row0 (by simp [Value.oneCell']) (by omega) (by omega) hS5.h ?_;clear hO5;intro v5 w2 hO5 hGr _
   (try replace hS:=hS.grew hGr (by first | trivial | omega));(try replace hR:=hR.grew hGr (by first | trivial | omega));(try replace hS5:=hS5.grew hGr (by first | trivial | omega));replace hX:=hX.grown hGr hb5l
   clear hGr;replace hO5:=hO5.snoc;simp only[zz];refine aA (aD) ?_;simp only[zz];refine aG (hK22 _ _ ?_);refine wp_region_lit (aA (aB) (aA (gY rfl rfl (by omega) (lD (n:=65536) (by omega))) (aA (aD) ?_)));simp only[zz];refine aG (hK16 _ _ ?_);refine wp_region_lit (aA (aB) (aA (aQ rfl rfl (aM (by omega) (by omega))) (aA (aD) ?_)));simp only[zz];refine aG ?_;obtain ⟨r1,r2⟩:=tF hlo hv hd hs4;rw [show ((i:Int) + 1) = ((i + 1 : Nat) : Int) by omega];simp only[Exit.inBlock,Exit.then];refine ⟨M + 1 - (i + 1),_,?_,rfl,?_,?_⟩
   · omega
   · simp only[zz,zv]
   ·
    simp only[zQ,zR,zD,zE];exact ⟨i + 1,s / 65536,os ++ [s % 65536],v5,rfl,hX,hS,hR,hS5,hO5,by simp;omega,r1,r2,by omega,by omega,fun h=>by rw [List.getElem?_eq_none (l:=xs) (by omega),List.getElem?_eq_none (l:=ys) (by omega)] at hs4;simp at hs4;omega,rfl⟩
  ·
   refine wp_region_lit (aA (aB) (aA (aB) (aA (bA rfl bX rfl) ?_)));simp only[zz];refine aA (eM rfl rfl (by omega)) (aA (aB) ?_);simp only[zz];refine bN rfl (aA (aB) ?_);simp only[zz];refine bN rfl (aA (aB) ?_);simp only[zz];refine bN rfl (aA (bA rfl bX rfl) ?_);simp only[zz];refine bN rfl (aA (eM rfl rfl (by omega)) (aA (cG rfl) (aA (aB) ?_)));simp only[zz];refine bN rfl (aA (aB) ?_);simp only[zz];refine bN rfl (aA (wB rfl rfl (by omega)) (aA (cG rfl) ?_));simp only[zz];refine aG (hK7 _ _ ?_);refine cQ rfl (wp_skip ?_);refine hK6 _ _ (aF (fun K23 hK23=>wp_block (aF (fun K24 hK24=>wp_region_lit (aA (aB) (aA (aD) ?_))))));simp only[zz];refine aG ?_;obtain ⟨s1,hs1⟩ : ∃ s1 : Nat,s1 = c:=⟨_,rfl⟩
   rw [← hs1];have hs2 : s1 = c + xs[i]?.getD 0:=by rw [List.getElem?_eq_none (by omega)];exact hs1
   have hs3 : s1 < 65537:=by omega
   refine hK24 _ _ ?_;refine aF (fun K25 hK25=>aF (fun K26 hK26=>wp_region_lit (aA (aB) (aA (aB) (aA (bA rfl bX rfl) ?_)))));simp only[zz];refine aA (eM rfl rfl (by omega)) ?_;simp only[zz];refine aG (hK26 _ _ ?_);refine iD rfl (wp_skip ?_);refine hK25 _ _ (aF (fun K27 hK27=>aF (fun K28 hK28=>wp_region_lit (aA (aB) (aA (aB) (aA (bA rfl bX rfl) ?_))))));simp only[zz];refine aA (eM rfl rfl (by omega)) ?_;simp only[zz];refine aG (hK28 _ _ ?_);refine iD rfl (wp_skip ?_);refine hK27 _ _ (aF (fun K29 hK29=>?_));obtain ⟨s,hs⟩ : ∃ s : Nat,s = s1:=⟨_,rfl⟩
   rw [← hs];have hs4 : s = c + xs[i]?.getD 0 + ys[i]?.getD 0:=by rw [List.getElem?_eq_none (l:=ys) (by omega)];simp only[Option.getD_none];omega
   have hs5 : s < 131072:=by omega
   refine wp_region_lit (aA (aB) (aA (aB) (aA (cE rfl rfl (by omega) (lC (n:=65536))) ?_)));simp only[zz];refine fD bX (z:=.int .i64 0) (by kernel_rfl) rfl (by simp only[zz];rfl) (by rfl) ?_;intro w1 g1 hE hg1 hB1;have hG1:=Nat.le_trans hX.size hg1
   (try replace hS:=hS.ext hE);(try replace hR:=hR.ext hE);(try replace hS5:=hS5.ext hE);(try replace hO5:=hO5.ext hE);replace hX:=hX.trans hE
   clear hE hg1;simp only[zz];refine fU rfl bX kU rfl (by decide) rfl hO5 rfl (news:=_) rfl hB1.row0 (by simp [Value.oneCell']) (by omega) (by omega) hS5.h ?_;clear hO5;intro v5 w2 hO5 hGr _
   (try replace hS:=hS.grew hGr (by first | trivial | omega));(try replace hR:=hR.grew hGr (by first | trivial | omega));(try replace hS5:=hS5.grew hGr (by first | trivial | omega));replace hX:=hX.grown hGr hb5l
   clear hGr;replace hO5:=hO5.snoc;simp only[zz];refine aA (aD) ?_;simp only[zz];refine aG (hK29 _ _ ?_);refine wp_region_lit (aA (aB) (aA (gY rfl rfl (by omega) (lD (n:=65536) (by omega))) (aA (aD) ?_)));simp only[zz];refine aG (hK23 _ _ ?_);refine wp_region_lit (aA (aB) (aA (aQ rfl rfl (aM (by omega) (by omega))) (aA (aD) ?_)));simp only[zz];refine aG ?_;obtain ⟨r1,r2⟩:=tF hlo hv hd hs4;rw [show ((i:Int) + 1) = ((i + 1 : Nat) : Int) by omega];simp only[Exit.inBlock,Exit.then];refine ⟨M + 1 - (i + 1),_,?_,rfl,?_,?_⟩
   · omega
   · simp only[zz,zv]
   ·
    simp only[zQ,zR,zD,zE];exact ⟨i + 1,s / 65536,os ++ [s % 65536],v5,rfl,hX,hS,hR,hS5,hO5,by simp;omega,r1,r2,by omega,by omega,fun h=>by rw [List.getElem?_eq_none (l:=xs) (by omega),List.getElem?_eq_none (l:=ys) (by omega)] at hs4;simp at hs4;omega,rfl⟩
  ·
   refine wp_region_lit (aA (aB) (aA (aB) (aA (bA rfl bX rfl) ?_)));simp only[zz];refine aA (eM rfl rfl (by omega)) (aA (aB) ?_);simp only[zz];refine bN rfl (aA (aB) ?_);simp only[zz];refine bN rfl (aA (aB) ?_);simp only[zz];refine bN rfl (aA (bA rfl bX rfl) ?_);simp only[zz];refine bN rfl (aA (eM rfl rfl (by omega)) (aA (cG rfl) (aA (aB) ?_)));simp only[zz];refine bN rfl (aA (aB) ?_);simp only[zz];refine bN rfl (aA (tQ rfl rfl (by omega)) (aA (cG rfl) ?_));simp only[zz];refine aG (hK7 _ _ ?_);refine iD rfl (wp_exit ?_);refine hK4 _ _ (aF (fun K30 hK30=>wp_region_lit (aA (aB) (aA (aD) ?_))));simp only[zz];refine aG (hK30 _ _ ?_);refine wp_ret ?_;try simp only[Exit.inBlock,Exit.then]
   refine bS rfl rfl ?_;try simp only[zD,zE]
   (obtain ⟨A5,c5,rfl,hD,_⟩:=cY.of_owns hO5 rfl hd (by omega));exact ⟨_,rfl,hX,A5,c5,os,rfl,hD,by rw [List.take_of_length_le (by omega),List.take_of_length_le (by omega)] at hv;simpa using hv,by omega⟩
end Go.Proofs.YtfohfflkhpfjeaaGreatDoor
namespace Go.Proofs.YtfohfflkhpfjeaaGreatDoor
open Go.Proofs.Tryz
open Go.RowKit Go.Lith
set_option maxRecDepth 100000
attribute [local irreducible] wpList wpQuiet dY Code.wp
theorem Rz {A B : Option Addr} {xs ys : List Nat} {na nb ca cb : Nat} (w : World) (hS : cY w w.heap.size A na ca xs) (hR : cY w w.heap.size B nb cb ys) (hle : ys.length ≤ xs.length) (hge : val 65536 ys ≤ val 65536 xs) (hlx : xs.length ≤ 1000000000000) : eL prog 62 [.slice A na ca,.slice B nb cb] w (fun v w'=>rF (val 65536 xs - val 65536 ys) v w' ∧ rM w v):=by
 skip
 refine ⟨ae0,?_⟩;have hX:=dK.refl w;obtain rfl:=hS.eq;obtain rfl:=hR.eq
 go_enter func62,ntmps62
 refine aF (fun K1 hK1=>wp_region_lit (aA (aD) ?_));simp only[zz];refine aG (hK1 _ _ ?_);refine aF (fun K2 hK2=>wp_region_lit (aA (aD) ?_));simp only[zz];obtain ⟨b5,hb5e,hb5l⟩:=hX.base;have hS5:=sE.of hX hb5e;have hO5:=iR.nil_of hX b5 3 1;clear hb5e;refine aG (hK2 _ _ ?_);refine aF (fun K3 hK3=>wp_region_lit (aA (aD) ?_));simp only[zz];refine aG (hK3 _ _ ?_);refine aF (fun K4 hK4=>aF (fun K5 hK5=>wp_region_lit (aA (aD) ?_)));simp only[zz];refine aG (hK5 _ _ ?_);refine wp_block (bJ [5,6,7] [8,9,10,11,12,13,14,15,16,17,18,19,20,21,22,23,24,25,26,27,28,29,30,31,32,33,34,35,36,37,38] (fun n vs wl=>∃ (i c : Nat) (os : List Nat) (v5 : Value),vs = [v5,.int .i64 (c:Int),.int .i64 (i:Int)] ∧ (dK w wl) ∧ (cY wl w.heap.size A xs.length ca xs) ∧ (cY wl w.heap.size B ys.length cb ys) ∧ (sE wl b5) ∧ (iR wl b5 3 1 v5 os.length (os.map pI)) ∧ (os.length = i) ∧ (val 65536 os + val 65536 (ys.take i) = val 65536 (xs.take i) + 65536 ^ i * c) ∧ (cZ 65536 os) ∧ (c ≤ 1) ∧ (i ≤ xs.length) ∧ (n = xs.length - i)) ?_ ?_)
 ·
  apply Exists.intro;simp only[zQ,zR,zD,zE];exact ⟨0,0,[],_,rfl,hX,hS,hR,hS5,hO5,rfl,by simp [val],kG _,by omega,by omega,rfl⟩
 ·
  intro n vs wr hI u;obtain ⟨i,c,os,v5,rfl,hX,hS,hR,hS5,hO5,hlo,hv,hd,hc,hi,hn⟩:=hI;simp only[zu,zF,zG];refine aF (fun K6 hK6=>aF (fun K7 hK7=>wp_region_lit (aA (aB) (aA (aB) (aA (bA rfl bX rfl) ?_)))));simp only[zz];refine aA (cO rfl rfl) ?_;simp only[zz];refine aG (hK7 _ _ ?_);refine cC rfl (fun hc1=>?_) (fun hc1=>?_)
  ·
   refine wp_skip ?_;refine hK6 _ _ (aF (fun K8 hK8=>wp_block (aF (fun K9 hK9=>?_))));obtain ⟨a,rfl,hca,hla⟩:=hS.get (show i < xs.length by omega);have hyd : ys[i]?.getD 0 < 65536:=by
    rcases Nat.lt_or_ge i ys.length with h | h
    · rw [List.getElem?_eq_getElem h];exact hR.lt h
    · rw [List.getElem?_eq_none h];decide
   refine wp_region_lit (aA (aB) (aA (aB) (aA (aK bX bG rfl rfl (by omega) (by omega) (gF (Int.toNat_natCast _))) ?_)));simp only[zz];refine aL rfl (lies1 hca bZ) ?_;simp only[zz];refine aA (aB) (aA (eO rfl rfl (aM (by omega) (by omega))) (aA (aD) ?_));simp only[zz];refine aG (hK9 _ _ ?_);refine aF (fun K10 hK10=>aF (fun K11 hK11=>wp_region_lit (aA (aB) (aA (aB) (aA (bA rfl bX rfl) ?_)))));simp only[zz];refine aA (cO rfl rfl) ?_;simp only[zz];refine aG (hK11 _ _ ?_);refine cC rfl (fun hc2=>?_) (fun hc2=>?_)
   ·
    obtain ⟨a2,rfl,hcb,hlb⟩:=hR.get (show i < ys.length by omega);refine wp_region_lit (aA (aB) (aA (aB) (aA (aB) ?_)));simp only[zz];refine aA (aK bX bG rfl rfl (by omega) (by omega) (gF (Int.toNat_natCast _))) ?_;simp only[zz];refine aL rfl (lies1 hcb bZ) ?_;simp only[zz];refine aA (eO rfl rfl (aM (by omega) (by omega))) (aA (aD) ?_);simp only[zz];refine aG ?_;obtain ⟨e,he⟩ : ∃ e : Int,e = (xs[i] : Int) - (c : Int) - (ys[i] : Int):=⟨_,rfl⟩
    rw [← he];have he2 : e = (xs[i] : Int) - (c : Int) - ((ys[i]?.getD 0 : Nat) : Int):=by rw [List.getElem?_eq_getElem (by omega)];exact he
    refine hK10 _ _ ?_;refine aF (fun K12 hK12=>wp_region_lit (aA (aD) ?_));simp only[zz];refine aG (hK12 _ _ ?_);refine aF (fun K13 hK13=>aF (fun K14 hK14=>wp_region_lit (aA (aB) (aA (cO rfl rfl) ?_))));simp only[zz];refine aG (hK14 _ _ ?_);refine cC rfl (fun hc3=>?_) (fun hc3=>?_)
    ·
     obtain ⟨s,hs⟩ : ∃ s : Nat,(s : Int) = e + 65536:=⟨(e + 65536).toNat,by omega⟩
     have hs6 : s + ys[i]?.getD 0 + c = xs[i] + 65536 * 1:=by omega
     have hs7 : s < 65536:=by omega
     refine aF (fun K15 hK15=>wp_region_lit (aA (aB) (aA (fI (aQ rfl rfl (aM (by omega) (by omega))) (Wg hs.symm)) (aA (aD) ?_))));simp only[zz];refine aG (hK15 _ _ ?_);refine wp_region_lit (aA (aD) ?_);simp only[zz];refine aG (hK13 _ _ ?_);refine wp_region_lit (aA (aB) (aA (aB) ?_));simp only[zz];refine fD bX (z:=.int .i64 0) (by kernel_rfl) rfl (by simp only[zz];rfl) (by rfl) ?_;intro w1 g1 hE hg1 hB1;have hG1:=Nat.le_trans hX.size hg1
     (try replace hS:=hS.ext hE);(try replace hR:=hR.ext hE);(try replace hS5:=hS5.ext hE);(try replace hO5:=hO5.ext hE);replace hX:=hX.trans hE
     clear hE hg1;simp only[zz];refine fU rfl bX kU rfl (by decide) rfl hO5 rfl (news:=_) rfl hB1.row0 (by simp [Value.oneCell']) (by omega) (by omega) hS5.h ?_;clear hO5;intro v5 w2 hO5 hGr _
     (try replace hS:=hS.grew hGr (by first | trivial | omega));(try replace hR:=hR.grew hGr (by first | trivial | omega));(try replace hS5:=hS5.grew hGr (by first | trivial | omega));replace hX:=hX.grown hGr hb5l
     clear hGr;replace hO5:=hO5.snoc;simp only[zz];refine aA (aD) ?_;simp only[zz];refine aG (hK8 _ _ ?_);refine wp_region_lit (aA (aB) (aA (aQ rfl rfl (aM (by omega) (by omega))) (aA (aD) ?_)));simp only[zz];refine aG ?_;obtain ⟨r1,r2⟩:=qR (by omega) hlo hv hd hs6 hs7;rw [show ((i:Int) + 1) = ((i + 1 : Nat) : Int) by omega];simp only[Exit.inBlock,Exit.then];refine ⟨xs.length - (i + 1),_,?_,rfl,?_,?_⟩
     · omega
     · simp only[zz,zv]
     ·
      simp only[zQ,zR,zD,zE];exact ⟨i + 1,1,os ++ [s],v5,rfl,hX,hS,hR,hS5,hO5,by simp;omega,r1,r2,by omega,by omega,rfl⟩
    ·
     obtain ⟨s,hs⟩ : ∃ s : Nat,(s : Int) = e:=⟨e.toNat,by omega⟩
     rw [← hs];have hs6 : s + ys[i]?.getD 0 + c = xs[i] + 65536 * 0:=by omega
     have hs7 : s < 65536:=by omega
     refine wp_skip ?_;refine hK13 _ _ (wp_region_lit (aA (aB) (aA (aB) ?_)));simp only[zz];refine fD bX (z:=.int .i64 0) (by kernel_rfl) rfl (by simp only[zz];rfl) (by rfl) ?_;intro w1 g1 hE hg1 hB1;have hG1:=Nat.le_trans hX.size hg1
     (try replace hS:=hS.ext hE);(try replace hR:=hR.ext hE);(try replace hS5:=hS5.ext hE);(try replace hO5:=hO5.ext hE);replace hX:=hX.trans hE
     clear hE hg1;simp only[zz];refine fU rfl bX kU rfl (by decide) rfl hO5 rfl (news:=_) rfl hB1.row0 (by simp [Value.oneCell']) (by omega) (by omega) hS5.h ?_;clear hO5;intro v5 w2 hO5 hGr _
     (try replace hS:=hS.grew hGr (by first | trivial | omega));(try replace hR:=hR.grew hGr (by first | trivial | omega));(try replace hS5:=hS5.grew hGr (by first | trivial | omega));replace hX:=hX.grown hGr hb5l
     clear hGr;replace hO5:=hO5.snoc;simp only[zz];refine aA (aD) ?_;simp only[zz];refine aG (hK8 _ _ ?_);refine wp_region_lit (aA (aB) (aA (aQ rfl rfl (aM (by omega) (by omega))) (aA (aD) ?_)));simp only[zz];refine aG ?_;obtain ⟨r1,r2⟩:=qR (by omega) hlo hv hd hs6 hs7;rw [show ((i:Int) + 1) = ((i + 1 : Nat) : Int) by omega];simp only[Exit.inBlock,Exit.then];refine ⟨xs.length - (i + 1),_,?_,rfl,?_,?_⟩
     · omega
     · simp only[zz,zv]
     ·
      simp only[zQ,zR,zD,zE];exact ⟨i + 1,0,os ++ [s],v5,rfl,hX,hS,hR,hS5,hO5,by simp;omega,r1,r2,by omega,by omega,rfl⟩
   ·
    obtain ⟨e,he⟩ : ∃ e : Int,e = (xs[i] : Int) - (c : Int):=⟨_,rfl⟩
    rw [← he];have he2 : e = (xs[i] : Int) - (c : Int) - ((ys[i]?.getD 0 : Nat) : Int):=by rw [List.getElem?_eq_none (by omega)];simp only[Option.getD_none];omega
    refine wp_skip ?_;refine hK10 _ _ (aF (fun K16 hK16=>wp_region_lit (aA (aD) ?_)));simp only[zz];refine aG (hK16 _ _ ?_);refine aF (fun K17 hK17=>aF (fun K18 hK18=>wp_region_lit (aA (aB) (aA (cO rfl rfl) ?_))));simp only[zz];refine aG (hK18 _ _ ?_);refine cC rfl (fun hc3=>?_) (fun hc3=>?_)
    ·
     obtain ⟨s,hs⟩ : ∃ s : Nat,(s : Int) = e + 65536:=⟨(e + 65536).toNat,by omega⟩
     have hs6 : s + ys[i]?.getD 0 + c = xs[i] + 65536 * 1:=by omega
     have hs7 : s < 65536:=by omega
     refine aF (fun K19 hK19=>wp_region_lit (aA (aB) (aA (fI (aQ rfl rfl (aM (by omega) (by omega))) (Wg hs.symm)) (aA (aD) ?_))));simp only[zz];refine aG (hK19 _ _ ?_);refine wp_region_lit (aA (aD) ?_);simp only[zz];refine aG (hK17 _ _ ?_);refine wp_region_lit (aA (aB) (aA (aB) ?_));simp only[zz];refine fD bX (z:=.int .i64 0) (by kernel_rfl) rfl (by simp only[zz];rfl) (by rfl) ?_;intro w1 g1 hE hg1 hB1;have hG1:=Nat.le_trans hX.size hg1
     (try replace hS:=hS.ext hE);(try replace hR:=hR.ext hE);(try replace hS5:=hS5.ext hE);(try replace hO5:=hO5.ext hE);replace hX:=hX.trans hE
     clear hE hg1;simp only[zz];refine fU rfl bX kU rfl (by decide) rfl hO5 rfl (news:=_) rfl hB1.row0 (by simp [Value.oneCell']) (by omega) (by omega) hS5.h ?_;clear hO5;intro v5 w2 hO5 hGr _
     (try replace hS:=hS.grew hGr (by first | trivial | omega));(try replace hR:=hR.grew hGr (by first | trivial | omega));(try replace hS5:=hS5.grew hGr (by first | trivial | omega));replace hX:=hX.grown hGr hb5l
     clear hGr;replace hO5:=hO5.snoc;simp only[zz];refine aA (aD) ?_;simp only[zz];refine aG (hK8 _ _ ?_);refine wp_region_lit (aA (aB) (aA (aQ rfl rfl (aM (by omega) (by omega))) (aA (aD) ?_)));simp only[zz];refine aG ?_;obtain ⟨r1,r2⟩:=qR (by omega) hlo hv hd hs6 hs7;rw [show ((i:Int) + 1) = ((i + 1 : Nat) : Int) by omega];simp only[Exit.inBlock,Exit.then];refine ⟨xs.length - (i + 1),_,?_,rfl,?_,?_⟩
     · omega
     · simp only[zz,zv]
     ·
      simp only[zQ,zR,zD,zE];exact ⟨i + 1,1,os ++ [s],v5,rfl,hX,hS,hR,hS5,hO5,by simp;omega,r1,r2,by omega,by omega,rfl⟩
    ·
     obtain ⟨s,hs⟩ : ∃ s : Nat,(s : Int) = e:=⟨e.toNat,by omega⟩
     rw [← hs];have hs6 : s + ys[i]?.getD 0 + c = xs[i] + 65536 * 0:=by omega
     have hs7 : s < 65536:=by omega
     refine wp_skip ?_;refine hK17 _ _ (wp_region_lit (aA (aB) (aA (aB) ?_)));simp only[zz];refine fD bX (z:=.int .i64 0) (by kernel_rfl) rfl (by simp only[zz];rfl) (by rfl) ?_;intro w1 g1 hE hg1 hB1;have hG1:=Nat.le_trans hX.size hg1
     (try replace hS:=hS.ext hE);(try replace hR:=hR.ext hE);(try replace hS5:=hS5.ext hE);(try replace hO5:=hO5.ext hE);replace hX:=hX.trans hE
     clear hE hg1;simp only[zz];refine fU rfl bX kU rfl (by decide) rfl hO5 rfl (news:=_) rfl hB1.row0 (by simp [Value.oneCell']) (by omega) (by omega) hS5.h ?_;clear hO5;intro v5 w2 hO5 hGr _
     (try replace hS:=hS.grew hGr (by first | trivial | omega));(try replace hR:=hR.grew hGr (by first | trivial | omega));(try replace hS5:=hS5.grew hGr (by first | trivial | omega));replace hX:=hX.grown hGr hb5l
     clear hGr;replace hO5:=hO5.snoc;simp only[zz];refine aA (aD) ?_;simp only[zz];refine aG (hK8 _ _ ?_);refine wp_region_lit (aA (aB) (aA (aQ rfl rfl (aM (by omega) (by omega))) (aA (aD) ?_)));simp only[zz];refine aG ?_;obtain ⟨r1,r2⟩:=qR (by omega) hlo hv hd hs6 hs7;rw [show ((i:Int) + 1) = ((i + 1 : Nat) : Int) by omega];simp only[Exit.inBlock,Exit.then];refine ⟨xs.length - (i + 1),_,?_,rfl,?_,?_⟩
     · omega
     · simp only[zz,zv]
     ·
      simp only[zQ,zR,zD,zE];exact ⟨i + 1,0,os ++ [s],v5,rfl,hX,hS,hR,hS5,hO5,by simp;omega,r1,r2,by omega,by omega,rfl⟩
  ·
   refine wp_exit ?_;refine hK4 _ _ (aF (fun K20 hK20=>?_));obtain rfl : i = xs.length:=by omega
   obtain ⟨A5,c5,rfl,hD,hbn⟩:=cY.of_owns hO5 rfl hd (by omega);refine wp_region_lit (aA (aB) ?_);simp only[zz];refine bE rfl rfl (oB _ hD) ?_;rintro v w1 hE rfl
   (try replace hD:=hD.ext hE);replace hX:=hX.trans hE
   clear hE;simp only[zz];refine aA (aD) ?_;simp only[zz];refine aG (hK20 _ _ ?_);refine wp_ret ?_;try simp only[Exit.inBlock,Exit.then]
   refine bS rfl rfl ?_;try simp only[zD,zE]
   exact ⟨_,rfl,hX,rF.of_trim hD (Vb hle hlo hd hv hge),fun a n c e=>by cases e;exact Nat.le_trans hb5l (hbn _ rfl)⟩
theorem yH {A B : Option Addr} {xs ys : List Nat} {na nb ca cb : Nat} (w : World) (hS : cY w w.heap.size A na ca xs) (hR : cY w w.heap.size B nb cb ys) (hlx : xs.length ≤ 1000000000000) (hly : ys.length ≤ 1000000000000) : eL prog 93 [.slice A na ca,.slice B nb cb] w (fun v w'=>rF (val 65536 xs * val 65536 ys) v w' ∧ rM w v):=by
 skip
 refine ⟨afv,?_⟩;have hX:=dK.refl w;obtain rfl:=hS.eq;obtain rfl:=hR.eq
 go_enter func93,ntmps93
 refine aF (fun K1 hK1=>wp_region_lit (aA (aD) ?_));simp only[zz];refine aG (hK1 _ _ ?_);refine aF (fun K2 hK2=>wp_region_lit (aA (aB) (aA (bA rfl bX rfl) (aA (aB) ?_))));simp only[zz];refine aA (bA rfl bX rfl) (aA (aQ rfl rfl (aM (by omega) (by omega))) ?_);simp only[zz];refine jE bX kU rfl rfl rfl (show _ = xs.length + ys.length by omega) (show _ = xs.length + ys.length by omega) (by omega) (by omega) (by omega) (by omega) ?_;intro w1 g1 hE hg1 hB1;have hG1:=Nat.le_trans hX.size hg1
 (try replace hS:=hS.ext hE);(try replace hR:=hR.ext hE);replace hX:=hX.trans hE
 clear hE hg1;simp only[zz];refine aA (aD) ?_;simp only[zz];refine aG ?_;rw [lU] at hB1;refine hK2 _ _ (aF (fun K3 hK3=>aF (fun K4 hK4=>wp_region_lit (aA (aD) ?_))));simp only[zz];refine aG (hK4 _ _ ?_);refine wp_block (bJ [6] [7,8,9,16,17,18,19,20,21,22,23,24,25,26,27,28,29,30,31,32,33,34,35,36,37,38,39,40,41,42,43,44,45,46,47,48,49,50,51,52,53,54,55,56,57,58,59,60,61] (fun n vs wl=>∃ (i : Nat) (os : List Nat),vs = [.int .i64 (i:Int)] ∧ (dK w wl) ∧ (cY wl w.heap.size A xs.length ca xs) ∧ (cY wl w.heap.size B ys.length cb ys) ∧ (gD wl g1 (os.map pI) 3) ∧ (i ≤ xs.length) ∧ (os.length = xs.length + ys.length) ∧ (val 65536 os = val 65536 (xs.take i) * val 65536 ys) ∧ (os.drop (i + ys.length) = List.replicate (xs.length - i) 0) ∧ (cZ 65536 os) ∧ (n = xs.length - i)) ?_ ?_)
 ·
  apply Exists.intro;simp only[zQ,zR,zD,zE];exact ⟨0,List.replicate (xs.length + ys.length) 0,rfl,hX,hS,hR,hB1,by omega,by simp,by rw [eT,List.take_zero];simp only[val,Nat.zero_mul],by rw [List.drop_replicate];congr 1;omega,fun x hx=>by rw [List.eq_of_mem_replicate hx];decide,rfl⟩
 ·
  intro n vs wr hI u;obtain ⟨i,os,rfl,hX,hS,hR,hB1,hi,hlo,hv,hz,hd,hn⟩:=hI;simp only[zu,zF,zG];refine aF (fun K5 hK5=>aF (fun K6 hK6=>wp_region_lit (aA (aB) (aA (aB) (aA (bA rfl bX rfl) ?_)))));simp only[zz];refine aA (cO rfl rfl) ?_;simp only[zz];refine aG (hK6 _ _ ?_);refine cC rfl (fun hc1=>?_) (fun hc1=>?_)
  ·
   refine wp_skip ?_;refine hK5 _ _ (aF (fun K7 hK7=>wp_block (aF (fun K8 hK8=>wp_region_lit (aA (aD) ?_)))));simp only[zz];refine aG (hK8 _ _ ?_);refine aF (fun K9 hK9=>aF (fun K10 hK10=>wp_region_lit (aA (aD) ?_)));simp only[zz];refine aG (hK10 _ _ ?_);refine wp_block (bJ [7,8] [9,22,23,24,25,26,27,28,29,30,31,32,33,34,35,36,37,38,39,40,41,42,43,44,45,46,47,48,49,50,51,52,53,54] (fun n vs wl=>∃ (k c : Nat) (os : List Nat),vs = [.int .i64 (c:Int),.int .i64 (k:Int)] ∧ (dK w wl) ∧ (cY wl w.heap.size A xs.length ca xs) ∧ (cY wl w.heap.size B ys.length cb ys) ∧ (gD wl g1 (os.map pI) 3) ∧ (k ≤ ys.length) ∧ (os.length = xs.length + ys.length) ∧ (val 65536 os + 65536 ^ (i + k) * c = val 65536 (xs.take i) * val 65536 ys + 65536 ^ i * (xs[i] * val 65536 (ys.take k))) ∧ (os.drop (i + ys.length) = List.replicate (xs.length - i) 0) ∧ (cZ 65536 os) ∧ (c < 65536) ∧ (n = ys.length - k)) ?_ ?_)
   ·
    apply Exists.intro;simp only[zQ,zR,zD,zE];exact ⟨0,0,os,rfl,hX,hS,hR,hB1,by omega,hlo,by rw [List.take_zero,hv];simp only[val,Nat.mul_zero],hz,hd,by omega,rfl⟩
   ·
    intro n vs wr hI u;obtain ⟨k,c,os,rfl,hX,hS,hR,hB1,hk,hlo,hv2,hz,hd,hc,hn2⟩:=hI;simp only[zu,zF,zG];refine aF (fun K11 hK11=>aF (fun K12 hK12=>wp_region_lit (aA (aB) (aA (aB) (aA (bA rfl bX rfl) ?_)))));simp only[zz];refine aA (cO rfl rfl) ?_;simp only[zz];refine aG (hK12 _ _ ?_);refine cC rfl (fun hc2=>?_) (fun hc2=>?_)
    ·
     refine wp_skip ?_;refine hK11 _ _ (aF (fun K13 hK13=>wp_block (aF (fun K14 hK14=>?_))));obtain ⟨a,rfl,hca,hla⟩:=hS.get (show i < xs.length by omega);obtain ⟨a2,rfl,hcb,hlb⟩:=hR.get (show k < ys.length by omega);have hco:=hB1.digit (show i + k < os.length by omega);have hlo2:=hd.get (List.getElem?_eq_getElem (show i + k < os.length by omega));obtain ⟨hm0,hm1⟩:=Vd hla hlb;refine iM aP (by kernel_rfl) (aI (aB) (aI (aB) (aI (aB) ?_)));simp only[zz];refine aI (aQ rfl rfl (aM (by omega) (by omega))) (aI (aK bX bG rfl rfl (by omega) (by omega) (eZ (show _ = i + k by omega))) ?_);simp only[zz];refine iQ rfl (fun _ hE'=>(lies1 (hE'.cell hco) bZ)) ?_;simp only[zz];refine aI (aB) (aI (aB) (aI (aK bX bG rfl rfl (by omega) (by omega) (gF (Int.toNat_natCast _))) ?_));simp only[zz];refine iQ rfl (fun _ hE'=>(lies1 (hE'.cell hca) bZ)) ?_;simp only[zz];refine aI (aB) (aI (aB) (aI (aK bX bG rfl rfl (by omega) (by omega) (gF (Int.toNat_natCast _))) ?_));simp only[zz];refine iQ rfl (fun _ hE'=>(lies1 (hE'.cell hcb) bZ)) ?_;simp only[zz];refine aI (fF rfl rfl (aM (by omega) (by omega))) (aI (aQ rfl rfl (aM (by omega) (by omega))) (aI (aB) ?_));simp only[zz];refine aI (aQ rfl rfl (aM (by omega) (by omega))) (aI (aD) ?_);simp only[zz];refine cP ?_;intro w2 hE;replace hB1:=hB1.ext hE;(try replace hS:=hS.ext hE);(try replace hR:=hR.ext hE);replace hX:=hX.trans hE;clear hE;obtain ⟨s,hs⟩ : ∃ s,s = os[i + k] + xs[i] * ys[k] + c:=⟨_,rfl⟩
     have hsI : (↑os[i + k] + ↑xs[i] * ↑ys[k] + ↑c : Int) = (s : Int):=by rw [hs];simp
     rw [hsI];have hs64 : s < 4294967296:=by have:=Mw hla hlb;omega
     refine hK14 _ _ ?_;refine aF (fun K15 hK15=>wp_region_lit (aA (aB) (aA (aB) (aA (aB) ?_))));simp only[zz];refine aA (aQ rfl rfl (aM (by omega) (by omega))) (aA (aB) (aA (cE rfl rfl (by omega) (lC (n:=65536))) ?_));simp only[zz];refine aA (aK bX bG rfl rfl (by omega) (by omega) (eZ (show _ = i + k by omega))) ?_;simp only[zz];refine dA rfl (by simp only[zz];rfl) (by exact bG) hB1 (by simp;omega) (by simp [Value.oneCell']) ?_;clear hB1;intro w3 hC hB1
     (try replace hS:=hS.chg hC (by first | assumption | rfl));(try replace hR:=hR.chg hC (by first | assumption | rfl));replace hX:=hX.chg hC hG1
     clear hC;rw [yC (by omega)] at hB1;refine aG (hK15 _ _ ?_);refine wp_region_lit (aA (aB) (aA (gY rfl rfl (by omega) (lD (n:=65536) (by omega))) (aA (aD) ?_)));simp only[zz];refine aG (hK13 _ _ ?_);refine wp_region_lit (aA (aB) (aA (aQ rfl rfl (aM (by omega) (by omega))) (aA (aD) ?_)));simp only[zz];refine aG ?_;have r1:=Mu (by omega) (by omega) hlo hv2 hs;rw [show ((k:Int) + 1) = ((k + 1 : Nat) : Int) by omega];simp only[Exit.inBlock,Exit.then];refine ⟨ys.length - (k + 1),_,?_,rfl,?_,?_⟩
     · omega
     · simp only[zz,zv]
     ·
      simp only[zQ,zR,zD,zE];exact ⟨k + 1,s / 65536,os.set (i + k) (s % 65536),rfl,hX,hS,hR,hB1,by omega,by simpa using hlo,r1,by rw [oH (by omega)];exact hz,hd.set (by omega),by omega,rfl⟩
    ·
     refine wp_exit ?_;refine hK9 _ _ ?_;obtain rfl : k = ys.length:=by omega
     refine wp_region_lit (aA (aB) (aA (aB) (aA (aB) ?_)));simp only[zz];refine aA (bA rfl bX rfl) (aA (aQ rfl rfl (aM (by omega) (by omega))) (aA (aB) ?_));simp only[zz];refine aA (aK bX bG rfl rfl (by omega) (by omega) (eZ (show _ = i + ys.length by omega))) ?_;simp only[zz];refine dA rfl (by simp only[zz];rfl) (by exact bG) hB1 (by simp;omega) (by simp [Value.oneCell']) ?_;clear hB1;intro w2 hC hB1
     (try replace hS:=hS.chg hC (by first | assumption | rfl));(try replace hR:=hR.chg hC (by first | assumption | rfl));replace hX:=hX.chg hC hG1
     clear hC;rw [yC (by omega)] at hB1;refine aG (hK7 _ _ ?_);refine wp_region_lit (aA (aB) (aA (aQ rfl rfl (aM (by omega) (by omega))) (aA (aD) ?_)));simp only[zz];refine aG ?_;obtain ⟨r1,r2⟩:=Vc (by omega) hlo hv2 hz;rw [show ((i:Int) + 1) = ((i + 1 : Nat) : Int) by omega];simp only[Exit.inBlock,Exit.then];refine ⟨xs.length - (i + 1),_,?_,rfl,?_,?_⟩
     · omega
     · simp only[zz,zv]
     ·
      simp only[zQ,zR,zD,zE];exact ⟨i + 1,os.set (i + ys.length) c,rfl,hX,hS,hR,hB1,by omega,by simpa using hlo,r1,r2,hd.set (by omega),rfl⟩
  ·
   refine wp_exit ?_;refine hK3 _ _ (aF (fun K16 hK16=>?_));obtain rfl : i = xs.length:=by omega
   refine wp_region_lit (aA (aB) ?_);simp only[zz];rw [← hlo];refine bE rfl rfl (oB _ (cY.of_blk hB1 hd rfl (by omega))) ?_;rintro v w2 hE rfl;replace hB1:=hB1.ext hE;replace hX:=hX.trans hE;clear hE;simp only[zz];refine aA (aD) ?_;simp only[zz];refine aG (hK16 _ _ ?_);refine wp_ret ?_;try simp only[Exit.inBlock,Exit.then]
   refine bS rfl rfl ?_;try simp only[zD,zE]
   exact ⟨_,rfl,hX,rF.of_trim (cY.of_blk hB1 hd rfl (by omega)) (by rw [hv,List.take_length]),fun a n c e=>by cases e;exact hG1⟩
end Go.Proofs.YtfohfflkhpfjeaaGreatDoor
namespace Go.Proofs.YtfohfflkhpfjeaaGreatDoor
open Go.Proofs.Tryz
open Go.RowKit Go.Lith
set_option maxRecDepth 100000
attribute [local irreducible] wpList wpQuiet dY Code.wp
end Go.Proofs.YtfohfflkhpfjeaaGreatDoor
namespace Go.Proofs.YtfohfflkhpfjeaaGreatDoor
open Go.Proofs.Tryz
open Go.RowKit Go.Lith
set_option maxRecDepth 100000
attribute [local irreducible] wpList wpQuiet dY Code.wp
theorem oT {neg : Bool} {s : ByteArray} (w : World) (hs : s.size ≤ 1000000000000) : eL prog 58 [.agg #[.bool neg,.string s]] w (rF (aaV s)):=by
 skip
 refine ⟨aeW,?_⟩;have hX:=dK.refl w;have hbl:=qW s;have hbd:=Aj s
 go_enter func58,ntmps58
 refine aF (fun K1 hK1=>wp_region_lit ?_);refine kR (by simp only[zz];rfl) ?_;intro w1 g1 hE hg1 hB1;have hG1:=Nat.le_trans hX.size hg1;replace hX:=hX.trans hE;clear hE hg1;simp only[zz];refine aA (aD) ?_;simp only[zz];refine aG (hK1 _ _ ?_);refine aF (fun K2 hK2=>wp_region_lit (aA (aD) ?_));simp only[zz];obtain ⟨b3,hb3e,hb3l⟩:=hX.base;have hS3:=sE.of hX hb3e;have hO3:=iR.nil_of hX b3 3 1;have hl3_1 : g1 < b3:=by rw [hb3e];exact hB1.lt
 clear hb3e;refine aG (hK2 _ _ ?_);refine aF (fun K3 hK3=>wp_region_lit (aA (aO (c:=0) gG rfl qO rfl rfl) ?_));simp only[zz];refine aL rfl (hB1.lies1 xH rfl) ?_;simp only[zz];refine aA (pR rfl qH rfl) (aA (aD) ?_);simp only[zz];refine aG (hK3 _ _ ?_);refine aF (fun K4 hK4=>aF (fun K5 hK5=>wp_region_lit (aA (aB) (aA (aD) ?_))));simp only[zz];refine aG (hK5 _ _ ?_);refine wp_block (bJ [3,5] [6,11,12,13,14,15,16,17,18,19,20,21,22,23,24,25,26,27,28,29,30,31,32,33,34,35] (fun n vs wl=>∃ (k : Nat) (os : List Nat) (v3 : Value),vs = [v3,.int .i64 ((s.size : Int) - 2 * (k : Int))] ∧ (dK w wl) ∧ (gD wl g1 [.bool neg,.string s] 65) ∧ (sE wl b3) ∧ (iR wl b3 3 1 v3 os.length (os.map pI)) ∧ (os.length = k) ∧ (val 65536 os = val 256 ((mA s).take (2 * k))) ∧ (cZ 65536 os) ∧ (2 * k ≤ s.size + 1) ∧ (n = s.size - 2 * k)) ?_ ?_)
 ·
  rw [show ((s.size : Int)) = (s.size : Int) - 2 * ((0 : Nat) : Int) by omega];apply Exists.intro;simp only[zQ,zR,zD,zE];exact ⟨0,[],_,rfl,hX,hB1,hS3,hO3,rfl,by simp [val],kG _,by omega,rfl⟩
 ·
  intro n vs wr hI u;obtain ⟨k,os,v3,rfl,hX,hB1,hS3,hO3,hlo,hv,hd,hk,hn⟩:=hI;simp only[zu,zF,zG];refine aF (fun K6 hK6=>aF (fun K7 hK7=>wp_region_lit (aA (aB) (aA (oE rfl rfl) ?_))));simp only[zz];refine aG (hK7 _ _ ?_);refine cC rfl (fun hc1=>?_) (fun hc1=>?_)
  ·
   refine wp_skip ?_;refine hK6 _ _ (aF (fun K8 hK8=>wp_block (aF (fun K9 hK9=>?_))));obtain ⟨y1,hb1,hp1,hy1⟩:=wC (show 2 * k + 1 + (s.size - 2 * k - 1) = s.size by omega);have hy1l : y1.toNat < 256:=y1.toNat_lt;refine wp_region_lit (aA (aO (c:=0) gG rfl qO rfl rfl) ?_);simp only[zz];refine aL rfl (hB1.lies1 xH rfl) ?_;simp only[zz];refine aA (aB) (aA (eO rfl rfl (aM (by omega) (by omega))) ?_);simp only[zz];refine aA ((nN qH rfl rfl (by omega) (by rw [show ((s.size : Int) - 2 * (k : Int) - 1).toNat = s.size - 2 * k - 1 by omega];exact hb1))) ?_;simp only[zz];refine aA (jI iT Ge rfl (aM (by omega) (by omega))) (aA (aD) ?_);simp only[zz];refine aG (hK9 _ _ ?_);refine aF (fun K10 hK10=>aF (fun K11 hK11=>wp_region_lit (aA (aB) (aA (oE rfl rfl) ?_))));simp only[zz];refine aG (hK11 _ _ ?_);refine cC rfl (fun hc2=>?_) (fun hc2=>?_)
   ·
    obtain ⟨y2,hb2,hp2,hy2⟩:=wC (show 2 * k + 1 + 1 + (s.size - 2 * k - 2) = s.size by omega);have hy2l : y2.toNat < 256:=y2.toNat_lt;refine wp_region_lit (aA (aB) (aA (aO (c:=0) gG rfl qO rfl rfl) ?_));simp only[zz];refine aL rfl (hB1.lies1 xH rfl) ?_;simp only[zz];refine aA (aB) (aA (eO rfl rfl (aM (by omega) (by omega))) ?_);simp only[zz];refine aA ((nN qH rfl rfl (by omega) (by rw [show ((s.size : Int) - 2 * (k : Int) - 2).toNat = s.size - 2 * k - 2 by omega];exact hb2))) ?_;simp only[zz];refine aA (jI iT Ge rfl (aM (by omega) (by omega))) (aA (fF rfl rfl (aM (by omega) (by omega))) (aA (aQ rfl rfl (aM (by omega) (by omega))) ?_));simp only[zz];refine aA (aD) ?_;simp only[zz];refine aG ?_;obtain ⟨d,hd1⟩ : ∃ d : Nat,d = y1.toNat + 256 * y2.toNat:=⟨_,rfl⟩
    rw [show ((y1.toNat : Int) + 256 * (y2.toNat : Int)) = (d : Int) by omega];have hd2 : d = (mA s)[2 * k] + 256 * ((mA s)[2 * k + 1]?.getD 0):=by rw [List.getElem?_eq_getElem hp2,hy1];simp only[Option.getD_some];rw [hy2];exact hd1
    refine hK10 _ _ ?_;refine wp_region_lit (aA (aB) (aA (aB) ?_));simp only[zz];refine fD bX (z:=.int .i64 0) (by kernel_rfl) rfl (by simp only[zz];rfl) (by rfl) ?_;intro w2 g2 hE hg2 hB2;have hG2:=Nat.le_trans hX.size hg2;have hN2_1 : g2 ≠ g1:=Nat.ne_of_gt (Nat.lt_of_lt_of_le hB1.lt hg2);replace hB1:=hB1.ext hE;(try replace hS3:=hS3.ext hE);(try replace hO3:=hO3.ext hE);replace hX:=hX.trans hE;clear hE hg2;simp only[zz];refine fU rfl bX kU rfl (by decide) rfl hO3 rfl (news:=_) rfl hB2.row0 (by simp [Value.oneCell']) (by omega) (by omega) hS3.h ?_;clear hO3;intro v3 w3 hO3 hGr _;replace hB1:=hB1.grew hGr hl3_1;(try replace hS3:=hS3.grew hGr (by first | trivial | omega));replace hX:=hX.grown hGr hb3l;clear hGr;replace hO3:=hO3.snoc;simp only[zz];refine aA (aD) ?_;simp only[zz];refine aG (hK8 _ _ ?_);refine wp_region_lit (aA (aB) (aA (eO rfl rfl (aM (by omega) (by omega))) (aA (aD) ?_)));simp only[zz];refine aG ?_;obtain ⟨r1,r2⟩:=yE hlo hv (by omega) hd2 hbd hd;rw [show ((s.size : Int) - 2 * (k : Int) - 2) = (s.size : Int) - 2 * ((k + 1 : Nat) : Int) by omega];simp only[Exit.inBlock,Exit.then];refine ⟨s.size - 2 * (k + 1),_,?_,rfl,?_,?_⟩
    · omega
    · simp only[zz,zv]
    ·
     simp only[zQ,zR,zD,zE];exact ⟨k + 1,os ++ [d],v3,rfl,hX,hB1,hS3,hO3,by simp;omega,r1,r2,by omega,rfl⟩
   ·
    obtain ⟨d,hd1⟩ : ∃ d : Nat,d = y1.toNat:=⟨_,rfl⟩
    rw [← hd1];have hd2 : d = (mA s)[2 * k] + 256 * ((mA s)[2 * k + 1]?.getD 0):=by rw [List.getElem?_eq_none (by omega),hy1];simp only[Option.getD_none];omega
    refine wp_skip ?_;refine hK10 _ _ (wp_region_lit (aA (aB) (aA (aB) ?_)));simp only[zz];refine fD bX (z:=.int .i64 0) (by kernel_rfl) rfl (by simp only[zz];rfl) (by rfl) ?_;intro w2 g2 hE hg2 hB2;have hG2:=Nat.le_trans hX.size hg2;have hN2_1 : g2 ≠ g1:=Nat.ne_of_gt (Nat.lt_of_lt_of_le hB1.lt hg2);replace hB1:=hB1.ext hE;(try replace hS3:=hS3.ext hE);(try replace hO3:=hO3.ext hE);replace hX:=hX.trans hE;clear hE hg2;simp only[zz];refine fU rfl bX kU rfl (by decide) rfl hO3 rfl (news:=_) rfl hB2.row0 (by simp [Value.oneCell']) (by omega) (by omega) hS3.h ?_;clear hO3;intro v3 w3 hO3 hGr _;replace hB1:=hB1.grew hGr hl3_1;(try replace hS3:=hS3.grew hGr (by first | trivial | omega));replace hX:=hX.grown hGr hb3l;clear hGr;replace hO3:=hO3.snoc;simp only[zz];refine aA (aD) ?_;simp only[zz];refine aG (hK8 _ _ ?_);refine wp_region_lit (aA (aB) (aA (eO rfl rfl (aM (by omega) (by omega))) (aA (aD) ?_)));simp only[zz];refine aG ?_;obtain ⟨r1,r2⟩:=yE hlo hv (by omega) hd2 hbd hd;rw [show ((s.size : Int) - 2 * (k : Int) - 2) = (s.size : Int) - 2 * ((k + 1 : Nat) : Int) by omega];simp only[Exit.inBlock,Exit.then];refine ⟨s.size - 2 * (k + 1),_,?_,rfl,?_,?_⟩
    · omega
    · simp only[zz,zv]
    ·
     simp only[zQ,zR,zD,zE];exact ⟨k + 1,os ++ [d],v3,rfl,hX,hB1,hS3,hO3,by simp;omega,r1,r2,by omega,rfl⟩
  ·
   refine wp_exit ?_;refine hK4 _ _ (aF (fun K12 hK12=>?_));obtain ⟨A3,c3,rfl,hD,_⟩:=cY.of_owns hO3 rfl hd (by omega);refine wp_region_lit (aA (aB) ?_);simp only[zz];refine bE rfl rfl (oB _ hD) ?_;rintro v w2 hE rfl
   (try replace hD:=hD.ext hE);replace hX:=hX.trans hE
   clear hE;simp only[zz];refine aA (aD) ?_;simp only[zz];refine aG (hK12 _ _ ?_);refine wp_ret ?_;try simp only[Exit.inBlock,Exit.then]
   refine bS rfl rfl ?_;try simp only[zD,zE]
   exact ⟨_,rfl,hX,rF.of_trim hD (by rw [hv,List.take_of_length_le (by omega)];rfl)⟩
theorem qS {A : Option Addr} {xs : List Nat} {b na cap : Nat} {neg : Bool} (w : World) (hS : cY w b A na cap xs) (hl : xs.length ≤ 100000000000) : eL prog 59 [.bool neg,.slice A na cap] w (fun v _=>v = W (Fw neg (val 65536 xs))):=by
 skip
 refine ⟨aeX,?_⟩;have hX:=dK.refl w;obtain rfl:=hS.eq;have hlt:=iS xs;have hT : cY w w.heap.size A (trim xs).length cap (trim xs):=by
  have h:=(hS.take (trim xs).length).here;rwa [← gS] at h
 have htr:=jX xs;have hvx:=jF 65536 xs;obtain ⟨ys,hys⟩ : ∃ ys,ys = trim xs:=⟨_,rfl⟩
 rw [← hys] at hT htr hlt hvx;have hyd:=hT.digs;have h2l:=Ve ys
 go_enter func59,ntmps59
 refine aF (fun K1 hK1=>wp_region_lit ?_);refine jM eX rfl ?_;intro w1 g1 hE hg1 hB1;have hG1:=Nat.le_trans hX.size hg1
 (try replace hT:=hT.ext hE);replace hX:=hX.trans hE
 clear hE hg1;simp only[zz];refine aG (hK1 _ _ ?_);refine aF (fun K2 hK2=>wp_region_lit (aA (aB) ?_));simp only[zz];refine bE rfl rfl (oB _ (hS.ext hX)) ?_;rintro v w2 hE rfl;replace hB1:=hB1.ext hE;(try replace hT:=hT.ext hE);replace hX:=hX.trans hE;clear hE;rw [← hys];clear hys;simp only[zz];refine aA (aD) ?_;simp only[zz];refine aG (hK2 _ _ ?_);refine aF (fun K3 hK3=>aF (fun K4 hK4=>?_));by_cases hy0 : ys = []
 ·
  subst hy0;refine wp_region_lit (aA (aB) (aA (bA rfl bX rfl) (aA (qT rfl rfl (by rfl)) ?_)));simp only[zz];refine aG (hK4 _ _ ?_);refine cQ rfl (aF (fun K5 hK5=>wp_region_lit (aA (Ar) ?_)));simp only[zz];refine dA rfl (by simp only[zz];rfl) (by exact aR) hB1 (by simp) (by simp [Value.oneCell']) ?_;clear hB1;intro w3 hC hB1;replace hX:=hX.chg hC hG1;clear hC;simp only[zy,zx,bK,Nat.reduceAdd] at hB1;refine aG (hK5 _ _ ?_);refine wp_ret ?_;try simp only[Exit.inBlock,Exit.then]
  refine bS rfl ⟨_,rfl,(hB1.lies cA aR rfl rfl)⟩ ?_;try simp only[zD,zE]
  exact ⟨_,rfl,hX,by rw [← hvx];cases neg <;> rfl⟩
 ·
  have hyl : 0 < ys.length:=List.length_pos_iff.2 hy0;have htop:=tR htr hyl;refine wp_region_lit (aA (aB) (aA (bA rfl bX rfl) (aA (Nx rfl rfl (by omega)) ?_)));simp only[zz];refine aG (hK4 _ _ ?_);refine iD rfl (wp_skip ?_);refine hK3 _ _ (aF (fun K6 hK6=>wp_region_lit (aA (aD) ?_)));simp only[zz];obtain ⟨b5,hb5e,hb5l⟩:=hX.base;have hS5:=sE.of hX hb5e;have hO5:=iR.nil_of hX b5 5 1;have hl5_1 : g1 < b5:=by rw [hb5e];exact hB1.lt
  clear hb5e;refine aG (hK6 _ _ ?_);refine aF (fun K7 hK7=>aF (fun K8 hK8=>wp_region_lit (aA (aB) (aA (bA rfl bX rfl) (aA (eO rfl rfl (aM (by omega) (by omega))) ?_)))));simp only[zz];refine aA (aD) ?_;simp only[zz];refine aG (hK8 _ _ ?_);refine wp_block (bJ [5,6] [16,17,18,19,20,21,22,23,24,25,26,27,28,29,30,31,32,33,34,35,36,37,38,39,40,41,42,43,44,45,46,47,48,49] (fun n vs wl=>∃ (k : Nat) (os : List UInt8) (v5 : Value),vs = [v5,.int .i64 ((k:Int) - 1)] ∧ (dK w wl) ∧ (gD wl g1 [.bool false,.string ⟨#[]⟩] 65) ∧ (cY wl w.heap.size A ys.length cap ys) ∧ (sE wl b5) ∧ (iR wl b5 5 1 v5 os.length (os.map u8v)) ∧ (os = lV ys k) ∧ (k ≤ ys.length) ∧ (k < ys.length → lV ys k ≠ []) ∧ (os.length ≤ 2 * ys.length) ∧ (n = k)) ?_ ?_)
  ·
   apply Exists.intro;simp only[zQ,zR,zD,zE];exact ⟨ys.length,[],_,rfl,hX,hB1,hT,hS5,hO5,(Hv ys).symm,by omega,fun h=>absurd h (by omega),by simp,rfl⟩
  ·
   intro n vs wr hI u;obtain ⟨k,os,v5,rfl,hX,hB1,hT,hS5,hO5,hos,hk,hne,hosl,hn⟩:=hI;simp only[zu,zF,zG];refine aF (fun K9 hK9=>aF (fun K10 hK10=>wp_region_lit (aA (aB) (aA (pP rfl rfl) ?_))));simp only[zz];refine aG (hK10 _ _ ?_);refine cC rfl (fun hc2=>?_) (fun hc2=>?_)
   ·
    refine wp_skip ?_;refine hK9 _ _ (aF (fun K11 hK11=>wp_block (aF (fun K12 hK12=>aF (fun K13 hK13=>?_)))));obtain ⟨a,rfl,hca,hla⟩:=hT.get (show k - 1 < ys.length by omega);rcases (show k < ys.length ∨ k = ys.length by omega) with hkl | hkl
    ·
     obtain ⟨r1,r2⟩:=Qh (show 0 < k by omega) (by omega) (hne hkl);refine wp_region_lit (aA (aB) (aA (aB) (aA (bA rfl bX rfl) ?_)));simp only[zz];refine aA (eO rfl rfl (aM (by omega) (by omega))) (aA (bW rfl rfl (by omega)) (aA (aB) ?_));simp only[zz];refine fM rfl ?_;simp only[zz];refine fM rfl ?_;simp only[zz];refine fM rfl ?_;simp only[zz];refine fM rfl ?_;simp only[zz];refine fM rfl ?_;simp only[zz];refine aA (cJ rfl) ?_;simp only[zz];refine aG (hK13 _ _ ?_);refine cQ rfl ?_;have hca:=hT.at (show k - 1 < ys.length by omega);refine wp_region_lit (aA (aB) (aA (aB) (aA (aB) ?_)));simp only[zz];refine aA (aK bX bG rfl rfl (by omega) (by omega) (gF (show _ = k - 1 by omega))) ?_;simp only[zz];refine aL rfl (lies1 hca bZ) ?_;simp only[zz];refine aA (gY rfl rfl (by omega) (lD (n:=256) (by omega))) (aA (jI Ge iT rfl (uQ (by omega))) ?_);simp only[zz];refine fD mB (z:=.int .u8 0) (by kernel_rfl) rfl (by simp only[zz];rfl) (by rfl) ?_;intro w3 g2 hE hg2 hB2;have hG2:=Nat.le_trans hX.size hg2;have hN2_1 : g2 ≠ g1:=Nat.ne_of_gt (Nat.lt_of_lt_of_le hB1.lt hg2);replace hB1:=hB1.ext hE;(try replace hT:=hT.ext hE);(try replace hS5:=hS5.ext hE);(try replace hO5:=hO5.ext hE);replace hX:=hX.trans hE;clear hE hg2;simp only[zz];refine fU rfl mB Gy rfl (by decide) rfl hO5 rfl (news:=_) rfl hB2.row0 (by simp [Value.oneCell']) (by omega) (by omega) hS5.h ?_;clear hO5;intro v5 w4 hO5 hGr _;replace hB1:=hB1.grew hGr hl5_1;(try replace hT:=hT.grew hGr (by first | trivial | omega));(try replace hS5:=hS5.grew hGr (by first | trivial | omega));replace hX:=hX.grown hGr hb5l;clear hGr;replace hO5:=hO5.snoc8 (by omega);simp only[zz];refine aA (aD) ?_;simp only[zz];refine aG (hK12 _ _ ?_);have hca:=hT.at (show k - 1 < ys.length by omega);refine wp_region_lit (aA (aB) (aA (aB) (aA (aB) ?_)));simp only[zz];refine aA (aK bX bG rfl rfl (by omega) (by omega) (gF (show _ = k - 1 by omega))) ?_;simp only[zz];refine aL rfl (lies1 hca bZ) ?_;simp only[zz];refine aA (cE rfl rfl (by omega) (lC (n:=256))) (aA (jI Ge iT rfl (uQ (by omega))) ?_);simp only[zz];refine fD mB (z:=.int .u8 0) (by kernel_rfl) rfl (by simp only[zz];rfl) (by rfl) ?_;intro w5 g3 hE hg3 hB3;have hG3:=Nat.le_trans hX.size hg3;have hN3_1 : g3 ≠ g1:=Nat.ne_of_gt (Nat.lt_of_lt_of_le hB1.lt hg3);replace hB1:=hB1.ext hE;(try replace hT:=hT.ext hE);(try replace hS5:=hS5.ext hE);(try replace hO5:=hO5.ext hE);replace hX:=hX.trans hE;clear hE hg3;simp only[zz];refine fU rfl mB Gy rfl (by decide) rfl hO5 rfl (news:=_) rfl hB3.row0 (by simp [Value.oneCell']) (by first | omega | (simp;omega)) (by first | omega | (simp;omega)) hS5.h ?_;clear hO5;intro v5 w6 hO5 hGr _;replace hB1:=hB1.grew hGr hl5_1;(try replace hT:=hT.grew hGr (by first | trivial | omega));(try replace hS5:=hS5.grew hGr (by first | trivial | omega));replace hX:=hX.grown hGr hb5l;clear hGr;replace hO5:=hO5.snoc8 (by omega);simp only[zz];refine aA (aD) ?_;simp only[zz];refine aG (hK11 _ _ ?_);refine wp_region_lit (aA (aB) (aA (eO rfl rfl (aM (by omega) (by omega))) (aA (aD) ?_)));simp only[zz];refine aG ?_;have hos2 : os ++ [UInt8.ofNat (ys[k - 1] / 256)] ++ [UInt8.ofNat (ys[k - 1] % 256)] = lV ys (k - 1):=by rw [r1,hos]
     rw [show ((k:Int) - 1 - 1) = ((k - 1 : Nat) : Int) - 1 by omega];simp only[Exit.inBlock,Exit.then];refine ⟨k - 1,_,?_,rfl,?_,?_⟩
     · omega
     · simp only[zz,zv]
     ·
      simp only[zQ,zR,zD,zE];exact ⟨k - 1,os ++ [UInt8.ofNat (ys[k - 1] / 256)] ++ [UInt8.ofNat (ys[k - 1] % 256)],v5,rfl,hX,hB1,hT,hS5,hO5,hos2,by omega,fun _=>r2,by rw [hos2];exact h2l _,rfl⟩
    ·
     subst hkl;obtain ⟨f1,f2⟩:=Mz (by omega) htop hla;have hos0 : os = []:=by rw [hos];exact Hv ys
     refine wp_region_lit (aA (aB) (aA (aB) (aA (bA rfl bX rfl) ?_)));simp only[zz];refine aA (eO rfl rfl (aM (by omega) (by omega))) (aA (eM rfl rfl (by omega)) (aA (aB) ?_));simp only[zz];refine bN rfl (aA (aB) ?_);simp only[zz];refine bN rfl (aA (aB) ?_);simp only[zz];refine bN rfl (aA (aK bX bG rfl rfl (by omega) (by omega) (gF (show _ = ys.length - 1 by omega))) ?_);simp only[zz];refine bN rfl (aL rfl (lies1 hca bZ) ?_);simp only[zz];refine bN rfl (aA (pP rfl rfl) (aA (cG rfl) ?_));simp only[zz];refine aG (hK13 _ _ ?_);refine cC rfl (fun hc3=>?_) (fun hc3=>?_)
     ·
      have hca:=hT.at (show ys.length - 1 < ys.length by omega);refine wp_region_lit (aA (aB) (aA (aB) (aA (aB) ?_)));simp only[zz];refine aA (aK bX bG rfl rfl (by omega) (by omega) (gF (show _ = ys.length - 1 by omega))) ?_;simp only[zz];refine aL rfl (lies1 hca bZ) ?_;simp only[zz];refine aA (gY rfl rfl (by omega) (lD (n:=256) (by omega))) (aA (jI Ge iT rfl (uQ (by omega))) ?_);simp only[zz];refine fD mB (z:=.int .u8 0) (by kernel_rfl) rfl (by simp only[zz];rfl) (by rfl) ?_;intro w3 g2 hE hg2 hB2;have hG2:=Nat.le_trans hX.size hg2;have hN2_1 : g2 ≠ g1:=Nat.ne_of_gt (Nat.lt_of_lt_of_le hB1.lt hg2);replace hB1:=hB1.ext hE;(try replace hT:=hT.ext hE);(try replace hS5:=hS5.ext hE);(try replace hO5:=hO5.ext hE);replace hX:=hX.trans hE;clear hE hg2;simp only[zz];refine fU rfl mB Gy rfl (by decide) rfl hO5 rfl (news:=_) rfl hB2.row0 (by simp [Value.oneCell']) (by omega) (by omega) hS5.h ?_;clear hO5;intro v5 w4 hO5 hGr _;replace hB1:=hB1.grew hGr hl5_1;(try replace hT:=hT.grew hGr (by first | trivial | omega));(try replace hS5:=hS5.grew hGr (by first | trivial | omega));replace hX:=hX.grown hGr hb5l;clear hGr;replace hO5:=hO5.snoc8 (by omega);simp only[zz];refine aA (aD) ?_;simp only[zz];refine aG (hK12 _ _ ?_);have hca:=hT.at (show ys.length - 1 < ys.length by omega);refine wp_region_lit (aA (aB) (aA (aB) (aA (aB) ?_)));simp only[zz];refine aA (aK bX bG rfl rfl (by omega) (by omega) (gF (show _ = ys.length - 1 by omega))) ?_;simp only[zz];refine aL rfl (lies1 hca bZ) ?_;simp only[zz];refine aA (cE rfl rfl (by omega) (lC (n:=256))) (aA (jI Ge iT rfl (uQ (by omega))) ?_);simp only[zz];refine fD mB (z:=.int .u8 0) (by kernel_rfl) rfl (by simp only[zz];rfl) (by rfl) ?_;intro w5 g3 hE hg3 hB3;have hG3:=Nat.le_trans hX.size hg3;have hN3_1 : g3 ≠ g1:=Nat.ne_of_gt (Nat.lt_of_lt_of_le hB1.lt hg3);replace hB1:=hB1.ext hE;(try replace hT:=hT.ext hE);(try replace hS5:=hS5.ext hE);(try replace hO5:=hO5.ext hE);replace hX:=hX.trans hE;clear hE hg3;simp only[zz];refine fU rfl mB Gy rfl (by decide) rfl hO5 rfl (news:=_) rfl hB3.row0 (by simp [Value.oneCell']) (by first | omega | (simp;omega)) (by first | omega | (simp;omega)) hS5.h ?_;clear hO5;intro v5 w6 hO5 hGr _;replace hB1:=hB1.grew hGr hl5_1;(try replace hT:=hT.grew hGr (by first | trivial | omega));(try replace hS5:=hS5.grew hGr (by first | trivial | omega));replace hX:=hX.grown hGr hb5l;clear hGr;replace hO5:=hO5.snoc8 (by omega);simp only[zz];refine aA (aD) ?_;simp only[zz];refine aG (hK11 _ _ ?_);refine wp_region_lit (aA (aB) (aA (eO rfl rfl (aM (by omega) (by omega))) (aA (aD) ?_)));simp only[zz];refine aG ?_;have hos2 : os ++ [UInt8.ofNat (ys[ys.length - 1] / 256)] ++ [UInt8.ofNat (ys[ys.length - 1] % 256)] = lV ys (ys.length - 1):=by rw [f1,if_pos (by omega),hos0];rfl
      rw [show ((ys.length:Int) - 1 - 1) = ((ys.length - 1 : Nat) : Int) - 1 by omega];simp only[Exit.inBlock,Exit.then];refine ⟨ys.length - 1,_,?_,rfl,?_,?_⟩
      · omega
      · simp only[zz,zv]
      ·
       simp only[zQ,zR,zD,zE];exact ⟨ys.length - 1,os ++ [UInt8.ofNat (ys[ys.length - 1] / 256)] ++ [UInt8.ofNat (ys[ys.length - 1] % 256)],v5,rfl,hX,hB1,hT,hS5,hO5,hos2,by omega,fun _=>f2,by rw [hos2];exact h2l _,rfl⟩
     ·
      refine wp_skip ?_;refine hK12 _ _ ?_;have hca:=hT.at (show ys.length - 1 < ys.length by omega);refine wp_region_lit (aA (aB) (aA (aB) (aA (aB) ?_)));simp only[zz];refine aA (aK bX bG rfl rfl (by omega) (by omega) (gF (show _ = ys.length - 1 by omega))) ?_;simp only[zz];refine aL rfl (lies1 hca bZ) ?_;simp only[zz];refine aA (cE rfl rfl (by omega) (lC (n:=256))) (aA (jI Ge iT rfl (uQ (by omega))) ?_);simp only[zz];refine fD mB (z:=.int .u8 0) (by kernel_rfl) rfl (by simp only[zz];rfl) (by rfl) ?_;intro w3 g2 hE hg2 hB2;have hG2:=Nat.le_trans hX.size hg2;have hN2_1 : g2 ≠ g1:=Nat.ne_of_gt (Nat.lt_of_lt_of_le hB1.lt hg2);replace hB1:=hB1.ext hE;(try replace hT:=hT.ext hE);(try replace hS5:=hS5.ext hE);(try replace hO5:=hO5.ext hE);replace hX:=hX.trans hE;clear hE hg2;simp only[zz];refine fU rfl mB Gy rfl (by decide) rfl hO5 rfl (news:=_) rfl hB2.row0 (by simp [Value.oneCell']) (by first | omega | (simp;omega)) (by first | omega | (simp;omega)) hS5.h ?_;clear hO5;intro v5 w4 hO5 hGr _;replace hB1:=hB1.grew hGr hl5_1;(try replace hT:=hT.grew hGr (by first | trivial | omega));(try replace hS5:=hS5.grew hGr (by first | trivial | omega));replace hX:=hX.grown hGr hb5l;clear hGr;replace hO5:=hO5.snoc8 (by omega);simp only[zz];refine aA (aD) ?_;simp only[zz];refine aG (hK11 _ _ ?_);refine wp_region_lit (aA (aB) (aA (eO rfl rfl (aM (by omega) (by omega))) (aA (aD) ?_)));simp only[zz];refine aG ?_;have hos2 : os ++ [UInt8.ofNat (ys[ys.length - 1] % 256)] = lV ys (ys.length - 1):=by rw [f1,if_neg (by omega),hos0]
      rw [show ((ys.length:Int) - 1 - 1) = ((ys.length - 1 : Nat) : Int) - 1 by omega];simp only[Exit.inBlock,Exit.then];refine ⟨ys.length - 1,_,?_,rfl,?_,?_⟩
      · omega
      · simp only[zz,zv]
      ·
       simp only[zQ,zR,zD,zE];exact ⟨ys.length - 1,os ++ [UInt8.ofNat (ys[ys.length - 1] % 256)],v5,rfl,hX,hB1,hT,hS5,hO5,hos2,by omega,fun _=>f2,by rw [hos2];exact h2l _,rfl⟩
   ·
    refine wp_exit ?_;refine hK7 _ _ (aF (fun K14 hK14=>wp_region_lit (aA (aB) (aA (aB) ?_))));simp only[zz];refine fL (Cu mB Ge qH rfl hO5) ?_;simp only[zz];refine aA (pX rfl rfl) ?_;simp only[zz];refine dA rfl (by simp only[zz];rfl) (by exact aR) hB1 (by simp) (by simp [Value.oneCell']) ?_;clear hB1;intro w3 hC hB1;replace hX:=hX.chg hC hG1;clear hC;simp only[zy,zx,bK,Nat.reduceAdd] at hB1;refine aG (hK14 _ _ ?_);refine wp_ret ?_;try simp only[Exit.inBlock,Exit.then]
    refine bS rfl ⟨_,rfl,(hB1.lies cA aR rfl rfl)⟩ ?_;try simp only[zD,zE]
    exact ⟨_,rfl,hX,by (obtain rfl : k = 0:=by omega);(have hV : val 65536 ys ≠ 0:=Nat.ne_of_gt (wW (by omega) htr hy0));rw [hos,Qi hyd neg,← hvx];simp [Lith.W,Ir,hV]⟩
end Go.Proofs.YtfohfflkhpfjeaaGreatDoor
namespace Go.Proofs.YtfohfflkhpfjeaaGreatDoor
open Go.Proofs.Tryz
open Go.RowKit Go.Lith
set_option maxRecDepth 100000
attribute [local irreducible] wpList wpQuiet dY Code.wp
theorem Vp {k : Nat} {a b : Int} (ha : Bd k a) (hb : Bd k b) : (digs 65536 (a * b).natAbs).length ≤ k + k:=oS (Bd.mul ha hb)
theorem Hy {a : Int} : (((digs 65536 a.natAbs).length : Int) = 0) ↔ a = 0:=by
 constructor
 ·
  intro h;have h0 : digs 65536 a.natAbs = []:=List.eq_nil_of_length_eq_zero (by omega);have:=(qL (by omega)).1 h0;omega
 · rintro rfl;rfl
theorem abQ {a : Int} (ha : Bd 1000000 a) : iX prog 95 [W a] (.int .i64 (Am a)):=by
 intro w;refine ⟨afx,?_⟩;have hX:=dK.refl w
 go_enter func95,ntmps95
 refine aF (fun K1 hK1=>wp_region_lit ?_);refine kR (by simp only[zz];rfl) ?_;intro w1 g1 hE hg1 hB1;have hG1:=Nat.le_trans hX.size hg1;replace hX:=hX.trans hE;clear hE hg1;simp only[zz];refine aA (aD) ?_;simp only[zz];refine aG (hK1 _ _ ?_);refine aF (fun K2 hK2=>aF (fun K3 hK3=>wp_region_lit ?_));refine aL rfl (hB1.lies cA aR rfl rfl) ?_;simp only[zz];refine bE rfl rfl (oT _ (gQ ha)) ?_;rintro v w2 hE ⟨A1,c1,rfl,hD1⟩;replace hB1:=hB1.ext hE;replace hX:=hX.trans hE;clear hE;rw [gC] at hD1 ⊢;simp only[zz];refine aA (bA rfl bX rfl) (aA (rJ rfl rfl) ?_);simp only[zz];refine aG (hK3 _ _ ?_);refine cC rfl (fun hc1=>?_) (fun hc1=>?_)
 ·
  have h0:=Hy.1 hc1;refine aF (fun K4 hK4=>wp_region_lit (aA (aD) ?_));simp only[zz];refine aG (hK4 _ _ ?_);refine wp_ret ?_;try simp only[Exit.inBlock,Exit.then]
  refine bS rfl rfl ?_;try simp only[zD,zE]
  exact ⟨_,rfl,hX,by rw [h0];rfl⟩
 ·
  refine wp_skip ?_;refine hK2 _ _ (aF (fun K5 hK5=>aF (fun K6 hK6=>wp_region_lit (aA (aO (c:=0) gG rfl fC rfl rfl) ?_))));simp only[zz];refine aL rfl (hB1.lies1 jG rfl) ?_;simp only[zz];refine aG (hK6 _ _ ?_);refine lI rfl (fun hc2=>?_) (fun hc2=>?_)
  ·
   have hn:=yP hc2;refine aF (fun K7 hK7=>wp_region_lit (aA (aD) ?_));simp only[zz];refine aG (hK7 _ _ ?_);refine wp_ret ?_;try simp only[Exit.inBlock,Exit.then]
   refine bS rfl rfl ?_;try simp only[zD,zE]
   exact ⟨_,rfl,hX,by rw [Ta hn]⟩
  ·
   have hn:=Cx hc2;have h0 : ¬ a = 0:=fun e=>hc1 (Hy.2 e);refine wp_skip (hK5 _ _ ?_);refine aF (fun K8 hK8=>wp_region_lit (aA (aD) ?_));simp only[zz];refine aG (hK8 _ _ ?_);refine wp_ret ?_;try simp only[Exit.inBlock,Exit.then]
   refine bS rfl rfl ?_;try simp only[zD,zE]
   exact ⟨_,rfl,hX,by rw [Tb (by omega)]⟩
theorem adK {a : Int} (ha : Bd 1000000 a) : iX prog 98 [W a] (W (-a)):=by
 intro w;refine ⟨afz,?_⟩;have hX:=dK.refl w;have hla : (digs 65536 a.natAbs).length ≤ 1000000:=oS ha
 go_enter func98,ntmps98
 refine aF (fun K1 hK1=>wp_region_lit ?_);refine kR (by simp only[zz];rfl) ?_;intro w1 g1 hE hg1 hB1;have hG1:=Nat.le_trans hX.size hg1;replace hX:=hX.trans hE;clear hE hg1;simp only[zz];refine jM eX rfl ?_;intro w2 g2 hE hg2 hB2;have hG2:=Nat.le_trans hX.size hg2;have hN2_1 : g2 ≠ g1:=Nat.ne_of_gt (Nat.lt_of_lt_of_le hB1.lt hg2);replace hB1:=hB1.ext hE;replace hX:=hX.trans hE;clear hE hg2;simp only[zz];refine aG (hK1 _ _ ?_);refine aF (fun K2 hK2=>?_);refine eH [(0,true),(1,true),(2,true),(3,true),(4,false),(5,false),(6,false)] aP (by kernel_rfl) (dL (fun _ _ _ _ _ h=>h)) (ol:=?_) ?hol ?_
 case hol=>simp only[zw,zQ,zR];try rfl
 intro w3 hE;replace hB1:=hB1.ext hE;replace hB2:=hB2.ext hE;replace hX:=hX.trans hE;clear hE;refine ⟨_,(lJ.blk hB1 lJ.nil),?_⟩;refine aZ (aO (c:=0) gG rfl fC rfl rfl) ?_;simp only[zz];refine cU rfl (fun _ ⟨hB1,_⟩=>(hB1.lies1 jG rfl)) ?_;simp only[zz];refine aZ (fN rfl) ?_;simp only[zz];refine cU rfl (fun _ ⟨hB1,_⟩=>(hB1.lies cA aR rfl rfl)) ?_;simp only[zz];refine cW (bE rfl rfl (oT _ (gQ ha)) ?_);rintro v w4 hE ⟨A1,c1,rfl,hD1⟩;replace hB1:=hB1.ext hE;replace hB2:=hB2.ext hE;replace hX:=hX.trans hE;clear hE;rw [gC] at hD1 ⊢;simp only[zz];refine aG (⟨⟨hB1,trivial⟩,?_⟩);refine cW (bE rfl rfl (qS _ hD1 (Nat.le_trans hla (by decide))) ?_);rintro v w5 hE rfl;replace hB1:=hB1.ext hE;replace hB2:=hB2.ext hE;replace hX:=hX.trans hE;clear hE;simp only[eK];simp only[zz];refine aG (⟨⟨hB1,trivial⟩,?_⟩);refine cW ?_;refine dA rfl (by simp only[zz];rfl) (by exact aR) hB2 (by simp) (by simp [Value.oneCell']) ?_;clear hB2;intro w6 hC hB2;replace hB1:=hB1.chg hC (by first | exact hN1_2 | exact Ne.symm hN2_1);replace hX:=hX.chg hC hG2;clear hC;simp only[zy,zx,bK,Nat.reduceAdd] at hB2;refine aG (⟨⟨hB1,trivial⟩,?_⟩);refine dU ?_;rw [Qs] at hB2;refine hK2 _ _ (wp_ret ?_);try simp only[Exit.inBlock,Exit.then]
 refine bS rfl ⟨_,rfl,(hB2.lies cA aR rfl rfl)⟩ ?_;try simp only[zD,zE]
 exact ⟨_,rfl,hX,rfl⟩
theorem Jw {a b : Int} (ha : Bd 1000000 a) (hb : Bd 1000000 b) : iX prog 28 [W a,W b] (W (a + b)):=by
 intro w;refine ⟨aeu,?_⟩;have hX:=dK.refl w;have hla : (digs 65536 a.natAbs).length ≤ 1000000:=oS ha;have hlb : (digs 65536 b.natAbs).length ≤ 1000000:=oS hb
 go_enter func28,ntmps28
 refine aF (fun K1 hK1=>wp_region_lit ?_);refine kR (by simp only[zz];rfl) ?_;intro w1 g1 hE hg1 hB1;have hG1:=Nat.le_trans hX.size hg1;replace hX:=hX.trans hE;clear hE hg1;simp only[zz];refine kR (by simp only[zz];rfl) ?_;intro w2 g2 hE hg2 hB2;have hG2:=Nat.le_trans hX.size hg2;have hN2_1 : g2 ≠ g1:=Nat.ne_of_gt (Nat.lt_of_lt_of_le hB1.lt hg2);replace hB1:=hB1.ext hE;replace hX:=hX.trans hE;clear hE hg2;simp only[zz];refine jM eX rfl ?_;intro w3 g3 hE hg3 hB3;have hG3:=Nat.le_trans hX.size hg3;have hN3_1 : g3 ≠ g1:=Nat.ne_of_gt (Nat.lt_of_lt_of_le hB1.lt hg3);have hN3_2 : g3 ≠ g2:=Nat.ne_of_gt (Nat.lt_of_lt_of_le hB2.lt hg3);replace hB1:=hB1.ext hE;replace hB2:=hB2.ext hE;replace hX:=hX.trans hE;clear hE hg3;simp only[zz];refine aG (hK1 _ _ ?_);refine aF (fun K2 hK2=>wp_region_lit ?_);refine aL rfl (hB1.lies cA aR rfl rfl) ?_;simp only[zz];refine bE rfl rfl (oT _ (gQ ha)) ?_;rintro v w4 hE ⟨A1,c1,rfl,hD1⟩;replace hB1:=hB1.ext hE;replace hB2:=hB2.ext hE;replace hB3:=hB3.ext hE;replace hX:=hX.trans hE;clear hE;rw [gC] at hD1 ⊢;simp only[zz];refine aA (aD) ?_;simp only[zz];refine aG (hK2 _ _ ?_);refine aF (fun K3 hK3=>wp_region_lit ?_);refine aL rfl (hB2.lies cA aR rfl rfl) ?_;simp only[zz];refine bE rfl rfl (oT _ (gQ hb)) ?_;rintro v w5 hE ⟨A2,c2,rfl,hD2⟩;replace hB1:=hB1.ext hE;replace hB2:=hB2.ext hE;replace hB3:=hB3.ext hE;(try replace hD1:=hD1.ext hE);replace hX:=hX.trans hE;clear hE;rw [gC] at hD2 ⊢;simp only[zz];refine aA (aD) ?_;simp only[zz];refine aG (hK3 _ _ ?_);refine aF (fun K4 hK4=>aF (fun K5 hK5=>wp_region_lit (aA (aO (c:=0) gG rfl fC rfl rfl) ?_)));simp only[zz];refine aL rfl (hB1.lies1 jG rfl) ?_;simp only[zz];refine aA (aO (c:=0) gG rfl fC rfl rfl) ?_;simp only[zz];refine aL rfl (hB2.lies1 jG rfl) ?_;simp only[zz];refine aA (Wz Oy rfl rfl) ?_;simp only[zz];refine aG (hK5 _ _ ?_);refine cC rfl (fun hc1=>?_) (fun hc1=>?_)
 ·
  refine aF (fun K6 hK6=>?_);refine eH [(0,true),(2,true),(3,true),(1,true),(4,false),(5,false),(6,false)] aP (by kernel_rfl) (dL (fun _ _ _ _ _ h=>h)) (ol:=?_) ?hol ?_
  case hol=>simp only[zw,zQ,zR];try rfl
  intro w6 hE;replace hB1:=hB1.ext hE;replace hB3:=hB3.ext hE;(try replace hD1:=hD1.ext hE);(try replace hD2:=hD2.ext hE);replace hX:=hX.trans hE;clear hE;refine ⟨_,(lJ.blk hB1 lJ.nil),?_⟩;refine aZ (aO (c:=0) gG rfl fC rfl rfl) (aZ (aB) (aZ (aB) ?_));simp only[zz];refine cU rfl (fun _ ⟨hB1,_⟩=>(hB1.lies1 jG rfl)) ?_;simp only[zz];refine cW (bE rfl rfl (adJ _ hD1.here hD2.here (Nat.le_trans hla (by decide)) (Nat.le_trans hlb (by decide))) ?_);rintro v w7 hE ⟨A3,c3,os,rfl,hD3,hv3,hl3⟩;replace hB1:=hB1.ext hE;replace hB3:=hB3.ext hE;replace hX:=hX.trans hE;clear hE;simp only[eK] at hv3;simp only[zz];refine aG (⟨⟨hB1,trivial⟩,?_⟩);refine cW (bE rfl rfl (qS _ hD3 (by omega)) ?_);rintro v w8 hE rfl;replace hB1:=hB1.ext hE;replace hB3:=hB3.ext hE;replace hX:=hX.trans hE;clear hE;rw [hv3];simp only[zz];refine aG (⟨⟨hB1,trivial⟩,?_⟩);refine cW ?_;refine dA rfl (by simp only[zz];rfl) (by exact aR) hB3 (by simp) (by simp [Value.oneCell']) ?_;clear hB3;intro w9 hC hB3;replace hB1:=hB1.chg hC (by first | exact hN1_3 | exact Ne.symm hN3_1);replace hX:=hX.chg hC hG3;clear hC;simp only[zy,zx,bK,Nat.reduceAdd] at hB3;refine aG (⟨⟨hB1,trivial⟩,?_⟩);refine dU ?_;rw [Qt hc1] at hB3;refine hK6 _ _ (wp_ret ?_);try simp only[Exit.inBlock,Exit.then]
  refine bS rfl ⟨_,rfl,(hB3.lies cA aR rfl rfl)⟩ ?_;try simp only[zD,zE]
  exact ⟨_,rfl,hX,rfl⟩
 ·
  refine wp_skip ?_;refine hK4 _ _ (aF (fun K7 hK7=>aF (fun K8 hK8=>wp_region_lit (aA (aB) (aA (aB) ?_)))));simp only[zz];refine bE rfl rfl (sG _ hD1 hD2 (jS _) (jS _)) ?_;rintro v w6 hE rfl;replace hB1:=hB1.ext hE;replace hB2:=hB2.ext hE;replace hB3:=hB3.ext hE;(try replace hD1:=hD1.ext hE);(try replace hD2:=hD2.ext hE);replace hX:=hX.trans hE;clear hE;simp only[eK];simp only[zz];refine aA (pP rfl rfl) ?_;simp only[zz];refine aG (hK8 _ _ ?_);refine cC rfl (fun hc2=>?_) (fun hc2=>?_)
  ·
   have hge:=sQ.1 hc2;refine aF (fun K9 hK9=>?_);refine eH [(0,true),(2,true),(3,true),(1,true),(4,false),(5,false),(6,false)] aP (by kernel_rfl) (dL (fun _ _ _ _ _ h=>h)) (ol:=?_) ?hol ?_
   case hol=>simp only[zw,zQ,zR];try rfl
   intro w7 hE;replace hB1:=hB1.ext hE;replace hB3:=hB3.ext hE;(try replace hD1:=hD1.ext hE);(try replace hD2:=hD2.ext hE);replace hX:=hX.trans hE;clear hE;refine ⟨_,(lJ.blk hB1 lJ.nil),?_⟩;refine aZ (aO (c:=0) gG rfl fC rfl rfl) (aZ (aB) (aZ (aB) ?_));simp only[zz];refine cU rfl (fun _ ⟨hB1,_⟩=>(hB1.lies1 jG rfl)) ?_;simp only[zz];refine cW ?_;refine bE rfl rfl (Rz _ hD1.here hD2.here (yD hge) (by simp only[eK];omega) (Nat.le_trans hla (by decide))) ?_;rintro v w8 hE ⟨⟨A3,c3,rfl,hD3⟩,_⟩;replace hB1:=hB1.ext hE;replace hB3:=hB3.ext hE;replace hX:=hX.trans hE;clear hE;simp only[eK] at hD3 ⊢;have hl3:=yD (Nat.sub_le a.natAbs b.natAbs);simp only[zz];refine aG (⟨⟨hB1,trivial⟩,?_⟩);refine cW (bE rfl rfl (qS _ hD3 (Nat.le_trans hl3 (Nat.le_trans hla (by decide)))) ?_);rintro v w9 hE rfl;replace hB1:=hB1.ext hE;replace hB3:=hB3.ext hE;replace hX:=hX.trans hE;clear hE;simp only[eK];simp only[zz];refine aG (⟨⟨hB1,trivial⟩,?_⟩);refine cW ?_;refine dA rfl (by simp only[zz];rfl) (by exact aR) hB3 (by simp) (by simp [Value.oneCell']) ?_;clear hB3;intro w10 hC hB3;replace hB1:=hB1.chg hC (by first | exact hN1_3 | exact Ne.symm hN3_1);replace hX:=hX.chg hC hG3;clear hC;simp only[zy,zx,bK,Nat.reduceAdd] at hB3;refine aG (⟨⟨hB1,trivial⟩,?_⟩);refine dU ?_;rw [Xf hc1 hge] at hB3;refine hK9 _ _ (wp_ret ?_);try simp only[Exit.inBlock,Exit.then]
   refine bS rfl ⟨_,rfl,(hB3.lies cA aR rfl rfl)⟩ ?_;try simp only[zD,zE]
   exact ⟨_,rfl,hX,rfl⟩
  ·
   have hlt : a.natAbs < b.natAbs:=Nat.lt_of_not_le fun h=>hc2 (sQ.2 h);refine wp_skip (hK7 _ _ ?_);refine aF (fun K10 hK10=>?_);refine eH [(0,true),(2,true),(3,true),(1,true),(4,false),(5,false),(6,false)] aP (by kernel_rfl) (dL (fun _ _ _ _ _ h=>h)) (ol:=?_) ?hol ?_
   case hol=>simp only[zw,zQ,zR];try rfl
   intro w7 hE;replace hB2:=hB2.ext hE;replace hB3:=hB3.ext hE;(try replace hD1:=hD1.ext hE);(try replace hD2:=hD2.ext hE);replace hX:=hX.trans hE;clear hE;refine ⟨_,(lJ.blk hB2 lJ.nil),?_⟩;refine aZ (aO (c:=0) gG rfl fC rfl rfl) (aZ (aB) (aZ (aB) ?_));simp only[zz];refine cU rfl (fun _ ⟨hB2,_⟩=>(hB2.lies1 jG rfl)) ?_;simp only[zz];refine cW ?_;refine bE rfl rfl (Rz _ hD2.here hD1.here (yD (Nat.le_of_lt hlt)) (by simp only[eK];omega) (Nat.le_trans hlb (by decide))) ?_;rintro v w8 hE ⟨⟨A3,c3,rfl,hD3⟩,_⟩;replace hB2:=hB2.ext hE;replace hB3:=hB3.ext hE;replace hX:=hX.trans hE;clear hE;simp only[eK] at hD3 ⊢;have hl3:=yD (Nat.sub_le b.natAbs a.natAbs);simp only[zz];refine aG (⟨⟨hB2,trivial⟩,?_⟩);refine cW (bE rfl rfl (qS _ hD3 (Nat.le_trans hl3 (Nat.le_trans hlb (by decide)))) ?_);rintro v w9 hE rfl;replace hB2:=hB2.ext hE;replace hB3:=hB3.ext hE;replace hX:=hX.trans hE;clear hE;simp only[eK];simp only[zz];refine aG (⟨⟨hB2,trivial⟩,?_⟩);refine cW ?_;refine dA rfl (by simp only[zz];rfl) (by exact aR) hB3 (by simp) (by simp [Value.oneCell']) ?_;clear hB3;intro w10 hC hB3;replace hB2:=hB2.chg hC (by first | exact hN2_3 | exact Ne.symm hN3_2);replace hX:=hX.chg hC hG3;clear hC;simp only[zy,zx,bK,Nat.reduceAdd] at hB3;refine aG (⟨⟨hB2,trivial⟩,?_⟩);refine dU ?_;rw [Xe hc1 hlt] at hB3;refine hK10 _ _ (wp_ret ?_);try simp only[Exit.inBlock,Exit.then]
   refine bS rfl ⟨_,rfl,(hB3.lies cA aR rfl rfl)⟩ ?_;try simp only[zD,zE]
   exact ⟨_,rfl,hX,rfl⟩
theorem Jy {a b : Int} (ha : Bd 1000000 a) (hb : Bd 1000000 b) : iX prog 56 [W a,W b] (W (a - b)):=by
 intro w;refine ⟨aeV,?_⟩;have hX:=dK.refl w
 go_enter func56,ntmps56
 refine aF (fun K1 hK1=>wp_region_lit ?_);refine kR (by simp only[zz];rfl) ?_;intro w1 g1 hE hg1 hB1;have hG1:=Nat.le_trans hX.size hg1;replace hX:=hX.trans hE;clear hE hg1;simp only[zz];refine kR (by simp only[zz];rfl) ?_;intro w2 g2 hE hg2 hB2;have hG2:=Nat.le_trans hX.size hg2;have hN2_1 : g2 ≠ g1:=Nat.ne_of_gt (Nat.lt_of_lt_of_le hB1.lt hg2);replace hB1:=hB1.ext hE;replace hX:=hX.trans hE;clear hE hg2;simp only[zz];refine jM eX rfl ?_;intro w3 g3 hE hg3 hB3;have hG3:=Nat.le_trans hX.size hg3;have hN3_1 : g3 ≠ g1:=Nat.ne_of_gt (Nat.lt_of_lt_of_le hB1.lt hg3);have hN3_2 : g3 ≠ g2:=Nat.ne_of_gt (Nat.lt_of_lt_of_le hB2.lt hg3);replace hB1:=hB1.ext hE;replace hB2:=hB2.ext hE;replace hX:=hX.trans hE;clear hE hg3;simp only[zz];refine aG (hK1 _ _ ?_);refine aF (fun K2 hK2=>?_);refine iP 4 aP (by kernel_rfl) ?_;simp only[zy];refine iQ rfl (fun _ hE'=>((hB1.ext hE').lies cA aR rfl rfl)) ?_;simp only[zz];refine iQ rfl (fun _ hE'=>((hB2.ext hE').lies cA aR rfl rfl)) ?_;simp only[zz];refine Bn rfl rfl (adK hb) ?_;simp only[zz];refine Bn rfl rfl (Jw ha hb.neg) ?_;simp only[zz];refine cP ?_;intro w4 hE;replace hB3:=hB3.ext hE;replace hX:=hX.trans hE;clear hE;refine dA rfl (by simp only[zz];rfl) (by exact aR) hB3 (by simp) (by simp [Value.oneCell']) ?_;clear hB3;intro w5 hC hB3;replace hX:=hX.chg hC hG3;clear hC;simp only[zy,zx,bK,Nat.reduceAdd] at hB3;refine aG ?_;rw [← Int.sub_eq_add_neg] at hB3;refine hK2 _ _ (wp_ret ?_);try simp only[Exit.inBlock,Exit.then]
 refine bS rfl ⟨_,rfl,(hB3.lies cA aR rfl rfl)⟩ ?_;try simp only[zD,zE]
 exact ⟨_,rfl,hX,rfl⟩
theorem Jz {a b : Int} (ha : Bd 1000000 a) (hb : Bd 1000000 b) : iX prog 51 [W a,W b] (W (a * b)):=by
 intro w;refine ⟨aeR,?_⟩;have hX:=dK.refl w;have hla : (digs 65536 a.natAbs).length ≤ 1000000:=oS ha;have hlb : (digs 65536 b.natAbs).length ≤ 1000000:=oS hb;have hls:=Vp ha hb
 go_enter func51,ntmps51
 refine aF (fun K1 hK1=>wp_region_lit ?_);refine kR (by simp only[zz];rfl) ?_;intro w1 g1 hE hg1 hB1;have hG1:=Nat.le_trans hX.size hg1;replace hX:=hX.trans hE;clear hE hg1;simp only[zz];refine kR (by simp only[zz];rfl) ?_;intro w2 g2 hE hg2 hB2;have hG2:=Nat.le_trans hX.size hg2;have hN2_1 : g2 ≠ g1:=Nat.ne_of_gt (Nat.lt_of_lt_of_le hB1.lt hg2);replace hB1:=hB1.ext hE;replace hX:=hX.trans hE;clear hE hg2;simp only[zz];refine jM eX rfl ?_;intro w3 g3 hE hg3 hB3;have hG3:=Nat.le_trans hX.size hg3;have hN3_1 : g3 ≠ g1:=Nat.ne_of_gt (Nat.lt_of_lt_of_le hB1.lt hg3);have hN3_2 : g3 ≠ g2:=Nat.ne_of_gt (Nat.lt_of_lt_of_le hB2.lt hg3);replace hB1:=hB1.ext hE;replace hB2:=hB2.ext hE;replace hX:=hX.trans hE;clear hE hg3;simp only[zz];refine aG (hK1 _ _ ?_);refine aF (fun K2 hK2=>?_);refine eH [(0,true),(2,true),(1,true),(3,true),(4,true),(5,true),(7,true),(6,false),(8,false),(9,false),(10,false),(11,false)] aP (by kernel_rfl) (dL (fun _ _ _ _ _ h=>h)) (ol:=?_) ?hol ?_
 case hol=>simp only[zw,zQ,zR];try rfl
 intro w4 hE;replace hB1:=hB1.ext hE;replace hB2:=hB2.ext hE;replace hB3:=hB3.ext hE;replace hX:=hX.trans hE;clear hE;refine ⟨_,(lJ.blk hB1 (lJ.blk hB2 lJ.nil)),?_⟩;refine aZ (aO (c:=0) gG rfl fC rfl rfl) (aZ (aO (c:=0) gG rfl fC rfl rfl) ?_);simp only[zz];refine cU rfl (fun _ ⟨hB1,hB2,_⟩=>(hB1.lies1 jG rfl)) ?_;simp only[zz];refine cU rfl (fun _ ⟨hB1,hB2,_⟩=>(hB2.lies1 jG rfl)) ?_;simp only[zz];refine aZ (Xa Oy rfl rfl) ?_;simp only[zz];refine cU rfl (fun _ ⟨hB1,hB2,_⟩=>(hB1.lies cA aR rfl rfl)) ?_;simp only[zz];refine cU rfl (fun _ ⟨hB1,hB2,_⟩=>(hB2.lies cA aR rfl rfl)) ?_;simp only[zz];refine cW (bE rfl rfl (oT _ (gQ ha)) ?_);rintro v w5 hE ⟨A1,c1,rfl,hD1⟩;replace hB1:=hB1.ext hE;replace hB2:=hB2.ext hE;replace hB3:=hB3.ext hE;replace hX:=hX.trans hE;clear hE;rw [gC] at hD1 ⊢;simp only[zz];refine aG (⟨⟨hB1,hB2,trivial⟩,?_⟩);refine cW (bE rfl rfl (oT _ (gQ hb)) ?_);rintro v w6 hE ⟨A2,c2,rfl,hD2⟩;replace hB1:=hB1.ext hE;replace hB2:=hB2.ext hE;replace hB3:=hB3.ext hE;(try replace hD1:=hD1.ext hE);replace hX:=hX.trans hE;clear hE;rw [gC] at hD2 ⊢;simp only[zz];refine aG (⟨⟨hB1,hB2,trivial⟩,?_⟩);refine cW (bE rfl rfl (yH _ hD1.here hD2.here (Nat.le_trans hla (by decide)) (Nat.le_trans hlb (by decide))) ?_);rintro v w7 hE ⟨⟨A3,c3,rfl,hD3⟩,_⟩;replace hB1:=hB1.ext hE;replace hB2:=hB2.ext hE;replace hB3:=hB3.ext hE;replace hX:=hX.trans hE;clear hE;simp only[eK] at hD3 ⊢;rw [← Int.natAbs_mul] at hD3 ⊢;simp only[zz];refine aG (⟨⟨hB1,hB2,trivial⟩,?_⟩);refine cW (bE rfl rfl (qS _ hD3 (Nat.le_trans hls (by decide))) ?_);rintro v w8 hE rfl;replace hB1:=hB1.ext hE;replace hB2:=hB2.ext hE;replace hB3:=hB3.ext hE;replace hX:=hX.trans hE;clear hE;simp only[eK];simp only[zz];refine aG (⟨⟨hB1,hB2,trivial⟩,?_⟩);refine cW ?_;refine dA rfl (by simp only[zz];rfl) (by exact aR) hB3 (by simp) (by simp [Value.oneCell']) ?_;clear hB3;intro w9 hC hB3;replace hB1:=hB1.chg hC (by first | exact hN1_3 | exact Ne.symm hN3_1);replace hB2:=hB2.chg hC (by first | exact hN2_3 | exact Ne.symm hN3_2);replace hX:=hX.chg hC hG3;clear hC;simp only[zy,zx,bK,Nat.reduceAdd] at hB3;refine aG (⟨⟨hB1,hB2,trivial⟩,?_⟩);refine dU ?_;rw [Int.natAbs_mul,Qu] at hB3;refine hK2 _ _ (wp_ret ?_);try simp only[Exit.inBlock,Exit.then]
 refine bS rfl ⟨_,rfl,(hB3.lies cA aR rfl rfl)⟩ ?_;try simp only[zD,zE]
 exact ⟨_,rfl,hX,rfl⟩
theorem adL {a b : Int} (ha : Bd 900000 a) (hb : Bd 900000 b) : iX prog 50 [W a,W b] (.int .i64 (Am (a - b))):=by
 intro w;refine ⟨aeQ,?_⟩;have hX:=dK.refl w
 go_enter func50,ntmps50
 refine aF (fun K1 hK1=>wp_region_lit ?_);refine kR (by simp only[zz];rfl) ?_;intro w1 g1 hE hg1 hB1;have hG1:=Nat.le_trans hX.size hg1;replace hX:=hX.trans hE;clear hE hg1;simp only[zz];refine kR (by simp only[zz];rfl) ?_;intro w2 g2 hE hg2 hB2;have hG2:=Nat.le_trans hX.size hg2;have hN2_1 : g2 ≠ g1:=Nat.ne_of_gt (Nat.lt_of_lt_of_le hB1.lt hg2);replace hB1:=hB1.ext hE;replace hX:=hX.trans hE;clear hE hg2;simp only[zz];refine aA (aD) ?_;simp only[zz];refine aG (hK1 _ _ ?_);refine aF (fun K2 hK2=>wp_region_lit ?_);refine aL rfl (hB1.lies cA aR rfl rfl) ?_;simp only[zz];refine aL rfl (hB2.lies cA aR rfl rfl) ?_;simp only[zz];refine uT rfl rfl (Jy (ha.mono (by decide)) (hb.mono (by decide))) ?_;intro w3 hE;replace hX:=hX.trans hE;clear hE;simp only[zz];refine uT rfl rfl (abQ ((Bd.sub ha hb).mono (by decide))) ?_;intro w4 hE;replace hX:=hX.trans hE;clear hE;simp only[zz];refine aA (aD) ?_;simp only[zz];refine aG (hK2 _ _ ?_);refine wp_ret ?_;try simp only[Exit.inBlock,Exit.then]
 refine bS rfl rfl ?_;try simp only[zD,zE]
 exact ⟨_,rfl,hX,rfl⟩
theorem tG {n : Int} (h : oJ n) : iX prog 52 [.int .i64 n] (W n):=by
 intro w;refine ⟨aeS,?_⟩;have hX:=dK.refl w;have hna:=h.natAbs
 go_enter func52,ntmps52
 refine aF (fun K1 hK1=>wp_region_lit ?_);refine jM eX rfl ?_;intro w1 g1 hE hg1 hB1;have hG1:=Nat.le_trans hX.size hg1;replace hX:=hX.trans hE;clear hE hg1;simp only[zz];refine aG (hK1 _ _ ?_);refine aF (fun K2 hK2=>wp_region_lit (aA (aD) ?_));simp only[zz];obtain ⟨b3,hb3e,hb3l⟩:=hX.base;have hS3:=sE.of hX hb3e;have hO3:=iR.nil_of hX b3 3 1;have hl3_1 : g1 < b3:=by rw [hb3e];exact hB1.lt
 clear hb3e;refine aG (hK2 _ _ ?_);refine aF (fun K3 hK3=>?_);rcases (show n < 0 ∨ 0 ≤ n by omega) with h0 | h0
 ·
  have hwn : true = iE n:=(decide_eq_true h0).symm;refine wp_region_lit (aA (aB) (aA (jI nR iT rfl (Qv h h0)) (aA (aD) ?_)));simp only[zz];refine aG (hK3 _ _ ?_);refine aF (fun K4 hK4=>aF (fun K5 hK5=>wp_region_lit (aA (aB) (aA (bW rfl rfl (by omega)) ?_))));simp only[zz];refine aG (hK5 _ _ ?_);refine cQ rfl (wp_region_lit (aA (aB) (aA (Qq rfl (Gp hna (by omega))) (aA (aD) ?_))));simp only[zz];refine aG (hK4 _ _ ?_);refine aF (fun K6 hK6=>wp_block ?_);refine bJ [3,4] [11,12,13,14,15,16,17,18,19,20] (fun k vs wl=>∃ (m : Nat) (os : List Nat) (v3 : Value),vs = [v3,.int .u64 (m : Int)] ∧ (dK w wl) ∧ (gD wl g1 [.bool false,.string ⟨#[]⟩] 65) ∧ (sE wl b3) ∧ (iR wl b3 3 1 v3 os.length (os.map pI)) ∧ (val 65536 os + 65536 ^ os.length * m = n.natAbs) ∧ (cZ 65536 os) ∧ (m ≤ 9223372036854775808) ∧ (os.length + m ≤ 9223372036854775808 + 64) ∧ (m < 2 ^ (64 - os.length)) ∧ (os.length ≤ 64) ∧ (k = m)) ?_ ?_
  ·
   apply Exists.intro;simp only[zQ,zR,zD,zE];exact ⟨n.natAbs,[],_,rfl,hX,hB1,hS3,hO3,by simp [val],kG _,hna,by simp;omega,by simp;omega,by simp,rfl⟩
  ·
   intro n vs wr hI u;obtain ⟨m,os,v3,rfl,hX,hB1,hS3,hO3,hv,hd,hm,hol,hol2,hol3,hn⟩:=hI;simp only[zu,zF,zG];refine aF (fun K7 hK7=>aF (fun K8 hK8=>wp_region_lit (aA (aB) (aA (oE rfl rfl) ?_))));simp only[zz];refine aG (hK8 _ _ ?_);refine cC rfl (fun hc2=>?_) (fun hc2=>?_)
   ·
    refine wp_skip ?_;refine hK7 _ _ (wp_block (aF (fun K9 hK9=>wp_region_lit (aA (aB) (aA (aB) (aA (cE rfl rfl (by omega) (lC (n:=65536))) ?_))))));simp only[zz];refine aA (jI iT nR rfl (aM (by omega) (by omega))) ?_;simp only[zz];refine fD bX (z:=.int .i64 0) (by kernel_rfl) rfl (by simp only[zz];rfl) (by rfl) ?_;intro w2 g2 hE hg2 hB2;have hG2:=Nat.le_trans hX.size hg2;have hN2_1 : g2 ≠ g1:=Nat.ne_of_gt (Nat.lt_of_lt_of_le hB1.lt hg2);replace hB1:=hB1.ext hE;(try replace hS3:=hS3.ext hE);(try replace hO3:=hO3.ext hE);replace hX:=hX.trans hE;clear hE hg2;simp only[zz];refine fU rfl bX kU rfl (by decide) rfl hO3 rfl (news:=_) rfl hB2.row0 (by simp [Value.oneCell']) (by omega) (by omega) hS3.h ?_;clear hO3;intro v3 w3 hO3 hGr _;replace hB1:=hB1.grew hGr hl3_1;(try replace hS3:=hS3.grew hGr (by first | trivial | omega));replace hX:=hX.grown hGr hb3l;clear hGr;replace hO3:=hO3.snoc;simp only[zz];refine aA (aD) ?_;simp only[zz];refine aG (hK9 _ _ ?_);refine wp_region_lit (aA (aB) (aA (gY rfl rfl (by omega) (Br (n:=65536) (by omega))) (aA (aD) ?_)));simp only[zz];refine aG ?_;have r:=Ex hv hd hol2 hol3 (show 0 < m by omega);simp only[Exit.inBlock,Exit.then];refine ⟨m / 65536,_,?_,rfl,?_,?_⟩
    · omega
    · simp only[zz,zv]
    ·
     simp only[zQ,zR,zD,zE];exact ⟨m / 65536,os ++ [m % 65536],v3,rfl,hX,hB1,hS3,hO3,r.1,r.2.1,by omega,by simp;omega,r.2.2.1,r.2.2.2,rfl⟩
   ·
    refine wp_exit ?_;refine hK6 _ _ (aF (fun K10 hK10=>?_));obtain rfl : m = 0:=by omega
    rw [Nat.mul_zero,Nat.add_zero] at hv;obtain ⟨A3,c3,rfl,hD,_⟩:=cY.of_owns hO3 rfl hd (by omega);refine wp_region_lit (aA (aB) (aA (bW rfl rfl (by omega)) (aA (aB) ?_)));simp only[zz];refine bE rfl rfl (qS _ hD (by omega)) ?_;rintro v w2 hE rfl;replace hB1:=hB1.ext hE;replace hX:=hX.trans hE;clear hE;rw [hv,hwn,xA];simp only[zz];refine dA rfl (by simp only[zz];rfl) (by exact aR) hB1 (by simp) (by simp [Value.oneCell']) ?_;clear hB1;intro w3 hC hB1;replace hX:=hX.chg hC hG1;clear hC;simp only[zy,zx,bK,Nat.reduceAdd] at hB1;refine aG (hK10 _ _ ?_);refine wp_ret ?_;try simp only[Exit.inBlock,Exit.then]
    refine bS rfl ⟨_,rfl,(hB1.lies cA aR rfl rfl)⟩ ?_;try simp only[zD,zE]
    exact ⟨_,rfl,hX,rfl⟩
 ·
  have hwn : false = iE n:=(decide_eq_false (by omega)).symm;refine wp_region_lit (aA (aB) (aA (jI nR iT rfl (Xg h h0)) (aA (aD) ?_)));simp only[zz];refine aG (hK3 _ _ ?_);refine aF (fun K11 hK11=>aF (fun K12 hK12=>wp_region_lit (aA (aB) (aA (eM rfl rfl (by omega)) ?_))));simp only[zz];refine aG (hK12 _ _ ?_);refine iD rfl (wp_skip ?_);refine hK11 _ _ (aF (fun K13 hK13=>wp_block ?_));refine bJ [3,4] [11,12,13,14,15,16,17,18,19,20] (fun k vs wl=>∃ (m : Nat) (os : List Nat) (v3 : Value),vs = [v3,.int .u64 (m : Int)] ∧ (dK w wl) ∧ (gD wl g1 [.bool false,.string ⟨#[]⟩] 65) ∧ (sE wl b3) ∧ (iR wl b3 3 1 v3 os.length (os.map pI)) ∧ (val 65536 os + 65536 ^ os.length * m = n.natAbs) ∧ (cZ 65536 os) ∧ (m ≤ 9223372036854775808) ∧ (os.length + m ≤ 9223372036854775808 + 64) ∧ (m < 2 ^ (64 - os.length)) ∧ (os.length ≤ 64) ∧ (k = m)) ?_ ?_
  ·
   apply Exists.intro;simp only[zQ,zR,zD,zE];exact ⟨n.natAbs,[],_,rfl,hX,hB1,hS3,hO3,by simp [val],kG _,hna,by simp;omega,by simp;omega,by simp,rfl⟩
  ·
   intro n vs wr hI u;obtain ⟨m,os,v3,rfl,hX,hB1,hS3,hO3,hv,hd,hm,hol,hol2,hol3,hn⟩:=hI;simp only[zu,zF,zG];refine aF (fun K14 hK14=>aF (fun K15 hK15=>wp_region_lit (aA (aB) (aA (oE rfl rfl) ?_))));simp only[zz];refine aG (hK15 _ _ ?_);refine cC rfl (fun hc2=>?_) (fun hc2=>?_)
   ·
    refine wp_skip ?_;refine hK14 _ _ (wp_block (aF (fun K16 hK16=>wp_region_lit (aA (aB) (aA (aB) (aA (cE rfl rfl (by omega) (lC (n:=65536))) ?_))))));simp only[zz];refine aA (jI iT nR rfl (aM (by omega) (by omega))) ?_;simp only[zz];refine fD bX (z:=.int .i64 0) (by kernel_rfl) rfl (by simp only[zz];rfl) (by rfl) ?_;intro w2 g2 hE hg2 hB2;have hG2:=Nat.le_trans hX.size hg2;have hN2_1 : g2 ≠ g1:=Nat.ne_of_gt (Nat.lt_of_lt_of_le hB1.lt hg2);replace hB1:=hB1.ext hE;(try replace hS3:=hS3.ext hE);(try replace hO3:=hO3.ext hE);replace hX:=hX.trans hE;clear hE hg2;simp only[zz];refine fU rfl bX kU rfl (by decide) rfl hO3 rfl (news:=_) rfl hB2.row0 (by simp [Value.oneCell']) (by omega) (by omega) hS3.h ?_;clear hO3;intro v3 w3 hO3 hGr _;replace hB1:=hB1.grew hGr hl3_1;(try replace hS3:=hS3.grew hGr (by first | trivial | omega));replace hX:=hX.grown hGr hb3l;clear hGr;replace hO3:=hO3.snoc;simp only[zz];refine aA (aD) ?_;simp only[zz];refine aG (hK16 _ _ ?_);refine wp_region_lit (aA (aB) (aA (gY rfl rfl (by omega) (Br (n:=65536) (by omega))) (aA (aD) ?_)));simp only[zz];refine aG ?_;have r:=Ex hv hd hol2 hol3 (show 0 < m by omega);simp only[Exit.inBlock,Exit.then];refine ⟨m / 65536,_,?_,rfl,?_,?_⟩
    · omega
    · simp only[zz,zv]
    ·
     simp only[zQ,zR,zD,zE];exact ⟨m / 65536,os ++ [m % 65536],v3,rfl,hX,hB1,hS3,hO3,r.1,r.2.1,by omega,by simp;omega,r.2.2.1,r.2.2.2,rfl⟩
   ·
    refine wp_exit ?_;refine hK13 _ _ (aF (fun K17 hK17=>?_));obtain rfl : m = 0:=by omega
    rw [Nat.mul_zero,Nat.add_zero] at hv;obtain ⟨A3,c3,rfl,hD,_⟩:=cY.of_owns hO3 rfl hd (by omega);refine wp_region_lit (aA (aB) (aA (eM rfl rfl (by omega)) (aA (aB) ?_)));simp only[zz];refine bE rfl rfl (qS _ hD (by omega)) ?_;rintro v w2 hE rfl;replace hB1:=hB1.ext hE;replace hX:=hX.trans hE;clear hE;rw [hv,hwn,xA];simp only[zz];refine dA rfl (by simp only[zz];rfl) (by exact aR) hB1 (by simp) (by simp [Value.oneCell']) ?_;clear hB1;intro w3 hC hB1;replace hX:=hX.chg hC hG1;clear hC;simp only[zy,zx,bK,Nat.reduceAdd] at hB1;refine aG (hK17 _ _ ?_);refine wp_ret ?_;try simp only[Exit.inBlock,Exit.then]
    refine bS rfl ⟨_,rfl,(hB1.lies cA aR rfl rfl)⟩ ?_;try simp only[zD,zE]
    exact ⟨_,rfl,hX,rfl⟩
end Go.Proofs.YtfohfflkhpfjeaaGreatDoor
namespace Go.Proofs.YtfohfflkhpfjeaaGreatDoor
open Go.Proofs.Tryz
open Go.RowKit Go.Lith
set_option maxRecDepth 100000
attribute [local irreducible] wpList wpQuiet dY Code.wp
end Go.Proofs.YtfohfflkhpfjeaaGreatDoor
namespace Go.Proofs.YtfohfflkhpfjeaaGreatDoor
open Go.Proofs.Tryz
open Go.RowKit Go.Lith
set_option maxRecDepth 100000
attribute [local irreducible] wpList wpQuiet dY Code.wp
theorem adM {a : Int} (ha : Bd 1000000 a) (h0 : 0 ≤ a) : iX prog 92 [W a] (.bool false):=by
 intro w;refine ⟨afu,?_⟩;have hX:=dK.refl w;have hw : iE a = false:=decide_eq_false (by omega)
 go_enter func92,ntmps92
 refine aF (fun K1 hK1=>wp_region_lit ?_);refine kR (by simp only[zz];rfl) ?_;intro w1 g1 hE hg1 hB1;have hG1:=Nat.le_trans hX.size hg1;replace hX:=hX.trans hE;clear hE hg1;simp only[zz];refine aA (aD) ?_;simp only[zz];refine aG (hK1 _ _ ?_);refine aF (fun K2 hK2=>?_);rw [hw] at hB1
 ·
  refine wp_region_lit (aA (aO (c:=0) gG rfl fC rfl rfl) ?_);simp only[zz];refine aL rfl (hB1.lies1 jG rfl) ?_;simp only[zz];refine aA (aB) ?_;simp only[zz];refine cN rfl ?_;simp only[zz];refine cN rfl ?_;simp only[zz];refine cN rfl ?_;simp only[zz];refine cN rfl ?_;simp only[zz];refine aA (cG rfl) (aA (aD) ?_);simp only[zz];refine aG (hK2 _ _ ?_);refine wp_ret ?_;try simp only[Exit.inBlock,Exit.then]
  refine bS rfl rfl ?_;try simp only[zD,zE]
  exact ⟨_,rfl,hX,rfl⟩
theorem abR {a : Int} (ha : Bd 1000000 a) (h0 : 0 ≤ a) : iX prog 49 [W a] (.tuple #[W (eE a.natAbs : Int),.bool true]):=by
 intro w;refine ⟨aeP,?_⟩;have hX:=dK.refl w;have hla : (digs 65536 a.natAbs).length ≤ 1000000:=oS ha;obtain ⟨X,hXa⟩ : ∃ X,X = a.natAbs:=⟨_,rfl⟩
 obtain ⟨K,hK⟩ : ∃ K,K = ((digs 65536 X).length + 1) / 2:=⟨_,rfl⟩
 rw [← hXa] at hla;have hXd : X < 65536 ^ (digs 65536 X).length:=by have:=gZ (jU X);rwa [eK] at this
 have hst:=Vf (K:=K) hXd (by omega);rw [← hXa]
 go_enter func49,ntmps49
 refine aF (fun K1 hK1=>wp_region_lit ?_);refine kR (by simp only[zz];rfl) ?_;intro w1 g1 hE hg1 hB1;have hG1:=Nat.le_trans hX.size hg1;replace hX:=hX.trans hE;clear hE;simp only[zz];refine jM eX rfl ?_;intro w2 g2 hE hg2 hB2;have hG2:=Nat.le_trans hX.size hg2;have hN2_1 : g2 ≠ g1:=Nat.ne_of_gt (Nat.lt_of_lt_of_le hB1.lt hg2);have hL2_1:=Nat.lt_of_lt_of_le hB1.lt hg2;replace hB1:=hB1.ext hE;replace hX:=hX.trans hE;clear hE;simp only[zz];refine aA (aD) ?_;simp only[zz];refine aG (hK1 _ _ ?_);refine aF (fun K2 hK2=>aF (fun K3 hK3=>wp_region_lit ?_));refine aL rfl (hB1.lies cA aR rfl rfl) ?_;simp only[zz];refine uT rfl rfl (adM ha h0) ?_;intro w3 hE;replace hB1:=hB1.ext hE;replace hB2:=hB2.ext hE;replace hX:=hX.trans hE;clear hE;simp only[zz];refine aG (hK3 _ _ ?_);refine iD rfl (wp_skip ?_);refine hK2 _ _ (aF (fun K4 hK4=>wp_region_lit ?_));refine aL rfl (hB1.lies cA aR rfl rfl) ?_;simp only[zz];refine bE rfl rfl (oT _ (gQ ha)) ?_;rintro v w4 hE ⟨A4,c4,rfl,hD4⟩;replace hB2:=hB2.ext hE;(try replace hD4:=hD4.ext hE);replace hX:=hX.trans hE;clear hE;rw [gC,← hXa] at hD4 ⊢;simp only[zz];refine aA (aD) ?_;simp only[zz];refine aG (hK4 _ _ ?_);refine aF (fun K5 hK5=>wp_region_lit (aA (aD) ?_));simp only[zz];refine aG (hK5 _ _ ?_);refine aF (fun K6 hK6=>aF (fun K7 hK7=>wp_region_lit (aA (aB) (aA (bA rfl bX rfl) (aA (aQ rfl rfl (aM (by omega) (by omega))) ?_)))));simp only[zz];rw [show (((digs 65536 X).length : Int) + 1) = (((digs 65536 X).length + 1 : Nat) : Int) by omega];refine aA (gY rfl rfl (by omega) (lD (m:=(digs 65536 X).length + 1) (n:=2) (by omega))) (aA (eO rfl rfl (aM (by omega) (by omega))) (aA (aD) ?_));simp only[zz];refine aG ?_;rw [← hK];refine hK7 _ _ (wp_block ?_);refine bJ [5,6] [7,8,9,10,11,22,23,24,25,26,27,28,29,30,31,32,33,34,35,36,37,38,39,40,41,42,43,44,45,46,47,48,49,50,51,52,53,54,55,56,57] (fun n vs wl=>∃ (k : Nat) (rs : List Nat) (A5 : Option Addr) (c5 : Nat),vs = [.slice A5 rs.length c5,.int .i64 ((k:Int) - 1)] ∧ (dK w wl) ∧ (gD wl g2 [.bool false,.string ⟨#[]⟩] 65) ∧ (cY wl wl.heap.size A4 (digs 65536 X).length c4 (digs 65536 X)) ∧ (cY wl wl.heap.size A5 rs.length c5 rs) ∧ (rs.length + k = K) ∧ (cZ 65536 rs) ∧ (val 65536 rs * val 65536 rs * 65536 ^ (2 * k) ≤ X) ∧ (X < (val 65536 rs + 1) * (val 65536 rs + 1) * 65536 ^ (2 * k)) ∧ (n = k)) ?_ ?_
 ·
  apply Exists.intro;simp only[zQ,zR,zD,zE];exact ⟨K,[],none,0,rfl,hX,hB2,hD4.here,cY.nil _ _,by simp,kG _,by simp [val],hst,rfl⟩
 ·
  intro n vs wr hI u;obtain ⟨k,rs,A5,c5,rfl,hX,hB2,hD4,hD5,hrl,hrd,hr1,hr2,hn⟩:=hI;simp only[zu,zF,zG];refine aF (fun K8 hK8=>aF (fun K9 hK9=>wp_region_lit (aA (aB) (aA (pP rfl rfl) ?_))));simp only[zz];refine aG (hK9 _ _ ?_);refine cC rfl (fun hc2=>?_) (fun hc2=>?_)
  ·
   obtain ⟨i,rfl⟩ : ∃ i,k = i + 1:=⟨k - 1,by omega⟩
   rw [show (((i + 1 : Nat) : Int) - 1) = (i : Int) by omega];refine wp_skip (hK8 _ _ ?_);refine aF (fun K10 hK10=>wp_block (aF (fun K11 hK11=>wp_region_lit (aA (aD) ?_))));simp only[zz];refine aG (hK11 _ _ ?_);refine aF (fun K12 hK12=>wp_region_lit (aA (aD) ?_));simp only[zz];refine aG (hK12 _ _ ?_);refine aF (fun K13 hK13=>wp_block ?_);refine bJ [7,8] [9,10,11,26,27,28,29,30,31,32,33,34,35,36,37,38,39,40,41,42,43,44,45,46,47,48,49,50,51,52,53] (fun n vs wl=>∃ (low high : Nat),vs = [.int .i64 (low:Int),.int .i64 (high:Int)] ∧ (dK w wl) ∧ (gD wl g2 [.bool false,.string ⟨#[]⟩] 65) ∧ (cY wl wl.heap.size A4 (digs 65536 X).length c4 (digs 65536 X)) ∧ (cY wl wl.heap.size A5 rs.length c5 rs) ∧ ((low + 65536 * val 65536 rs) * (low + 65536 * val 65536 rs) * 65536 ^ (2 * i) ≤ X) ∧ (X < (high + 65536 * val 65536 rs) * (high + 65536 * val 65536 rs) * 65536 ^ (2 * i)) ∧ (low < high) ∧ (high ≤ 65536) ∧ (n = high - low)) ?_ ?_
   ·
    apply Exists.intro;simp only[zQ,zR,zD,zE];exact ⟨0,65536,rfl,hX,hB2,hD4.here,hD5.here,aab hr1,Vg hr2,by omega,by omega,rfl⟩
   ·
    intro n vs wr hI u;obtain ⟨low,high,rfl,hX,hB2,hD4,hD5,hlow,hhigh,hl1,hl2,hn2⟩:=hI;simp only[zu,zF,zG];refine aF (fun K14 hK14=>aF (fun K15 hK15=>wp_region_lit (aA (aB) (aA (aB) (aA (eO rfl rfl (aM (by omega) (by omega))) ?_)))));simp only[zz];refine aA (oE rfl rfl) ?_;simp only[zz];refine aG (hK15 _ _ ?_);refine cC rfl (fun hc3=>?_) (fun hc3=>?_)
    ·
     have hm1 : low < (low + high) / 2:=by omega
     have hm2 : (low + high) / 2 < high:=by omega
     refine wp_skip ?_;refine hK14 _ _ (wp_block (aF (fun K16 hK16=>wp_region_lit (aA (aB) (aA (aB) (aA (aQ rfl rfl (aM (by omega) (by omega))) ?_))))));simp only[zz];rw [show ((low : Int) + (high : Int)) = ((low + high : Nat) : Int) by omega];refine aA (gY rfl rfl (by omega) (lD (m:=low + high) (n:=2) (by omega))) (aA (aD) ?_);simp only[zz];refine aG ?_;obtain ⟨m,hm⟩ : ∃ m,m = (low + high) / 2:=⟨_,rfl⟩
     rw [← hm] at hm1 hm2 ⊢;have hm16 : m < 65536:=by omega
     refine hK16 _ _ ?_;refine aF (fun K17 hK17=>?_);obtain ⟨b12,hS12,hD4,hD5⟩:=Ez hD4 hD5;refine wp_region_lit (aA (aB) ?_);simp only[zz];refine fD bX (z:=.int .i64 0) (by kernel_rfl) rfl (by simp only[zz];rfl) (by rfl) ?_;intro w5 g3 hE hg3 hB3;have hb12:=Nat.le_trans hS12.h hg3;have hG3:=Nat.le_trans hX.size hg3;have hN3_2 : g3 ≠ g2:=Nat.ne_of_gt (Nat.lt_of_lt_of_le hB2.lt hg3);have hL3_2:=Nat.lt_of_lt_of_le hB2.lt hg3;replace hB2:=hB2.ext hE;(try replace hD4:=hD4.ext hE);(try replace hD5:=hD5.ext hE);replace hX:=hX.trans hE;clear hE;simp only[zz];refine aA (aB) ?_;simp only[zz];have hO6:=iR.full (base:=g3) (n:=1) hB3 (Nat.le_refl _) rfl (by omega);refine pO rfl bX kU rfl (by decide) rfl hO6 rfl (news:=rs.map pI) (by simp) hD5.rows (fun u hu=>by obtain ⟨x,_,rfl⟩:=List.mem_map.1 hu;rfl) (by omega) (by omega) (Nat.le_of_lt hB3.lt) ?_;intro v6 w9 hO hGr _;replace hX:=hX.grown hGr hG3;replace hB2:=hB2.grew hGr hL3_2;replace hD4:=(hD4.grew hGr hb12).here;replace hD5:=(hD5.grew hGr hb12).here;clear hB3 hO6;obtain ⟨A6,c6,rfl,hD6,_⟩:=cY.of_owns (xs:=m :: rs) (by simpa [Nat.add_comm] using hO) (by first | simp;done | (simp only[List.length_cons];omega)) (lA (by omega) hrd) (by omega);simp only[zz];refine aA (aD) ?_;simp only[zz];refine aG (hK17 _ _ ?_);refine aF (fun K18 hK18=>?_);obtain ⟨b12,hS12,hD4,hD5⟩:=Ez hD4 hD5;refine tW (.take 0 (.take 1 (.take 3 (.take 5 (.two 2 (.one 4 (.one 6 (.one 7 (.one 8 (.take 9 .nil))))) 4 (.two 2 (.one 6 (.one 7 (.one 8 (.take 9 .nil)))) 6 (.two 2 (.one 7 (.one 8 (.take 9 .nil))) 7 (.one 2 (.one 8 (.take 9 .nil)))))))))) aP (by kernel_rfl) (dL (fun _ _ _ _ _ h=>h)) ?_;intro w6 hE;replace hB2:=hB2.ext hE;(try replace hD4:=hD4.ext hE);(try replace hD5:=hD5.ext hE);(try replace hD6:=hD6.ext hE);(try replace hS12:=hS12.ext hE);replace hX:=hX.trans hE;clear hE;refine ⟨_,lJ.nil,?_⟩;refine eN (by simp only[zw];rfl) (aZ (aB) ?_);simp only[zz];refine dU ?_;refine eN (by simp only[zw];rfl) (aZ (fF rfl rfl ((aM (by omega) (by omega)).trans (show (2 : Int) * (i : Int) = ((2 * i : Nat) : Int) by omega))) ?_);simp only[zz];refine dU ?_;refine eN (by simp only[zw];rfl) (aZ (aB) ?_);simp only[zz];refine dU ?_;refine eN (by simp only[zw];rfl) (aZ (aB) ?_);simp only[zz];refine dU ?_;refine Da (by simp only[zw];rfl) (by simp only[zw];rfl) ?_ ?_
     ·
      refine jE bX kU rfl rfl rfl (show _ = 2 * i by omega) (show _ = 2 * i by omega) (by omega) (by omega) (by omega) (by omega) ?_;intro w7 g4 hE hg4 hB4;have hb12:=Nat.le_trans hS12.h hg4;have hG4:=Nat.le_trans hX.size hg4;have hN4_2 : g4 ≠ g2:=Nat.ne_of_gt (Nat.lt_of_lt_of_le hB2.lt hg4);have hL4_2:=Nat.lt_of_lt_of_le hB2.lt hg4;replace hB2:=hB2.ext hE;(try replace hD4:=hD4.ext hE);(try replace hD5:=hD5.ext hE);(try replace hD6:=hD6.ext hE);replace hX:=hX.trans hE;clear hE;simp only[zz];refine aG (⟨trivial,?_⟩);refine jO (by simp only[zw];rfl) ?_;refine bE rfl rfl (oB _ hD6) ?_;rintro v w8 hE rfl;replace hB2:=hB2.ext hE;replace hB4:=hB4.ext hE;(try replace hD4:=hD4.ext hE);(try replace hD5:=hD5.ext hE);(try replace hD6:=hD6.ext hE);replace hX:=hX.trans hE;clear hE;simp only[zz];refine aG (⟨trivial,?_⟩);refine jO (by simp only[zw];rfl) ?_;refine bE rfl rfl (oB _ hD6) ?_;rintro v w9 hE rfl;replace hB2:=hB2.ext hE;replace hB4:=hB4.ext hE;(try replace hD4:=hD4.ext hE);(try replace hD5:=hD5.ext hE);(try replace hD6:=hD6.ext hE);replace hX:=hX.trans hE;clear hE;simp only[zz];refine aG (⟨trivial,?_⟩);refine jO (by simp only[zw];rfl) ?_;have hl6:=iS (m :: rs);simp only[List.length_cons] at hl6;refine bE rfl rfl (yH _ hD6.trimmed hD6.trimmed (by omega) (by omega)) ?_;rintro v w10 hE ⟨⟨A8,c8,rfl,hD8⟩,_⟩;replace hB2:=hB2.ext hE;replace hB4:=hB4.ext hE;(try replace hD4:=hD4.ext hE);(try replace hD5:=hD5.ext hE);(try replace hD8:=hD8.ext hE);replace hX:=hX.trans hE;clear hE;simp only[jF] at hD8 ⊢;simp only[zz];refine aG (⟨trivial,?_⟩);refine jO (by simp only[zw];rfl) ?_;have hl8 : (digs 65536 (val 65536 (m :: rs) * val 65536 (m :: rs))).length ≤ 2 * (rs.length + 1):=Jr hm16 hrd;have hO7:=iR.full (base:=g4) (n:=2 * i) hB4 (Nat.le_refl _) (by simp) (by omega);refine pO rfl bX kU rfl (by decide) rfl hO7 rfl (news:=(digs 65536 (val 65536 (m :: rs) * val 65536 (m :: rs))).map pI) (by simp) hD8.rows (fun u hu=>by obtain ⟨x,_,rfl⟩:=List.mem_map.1 hu;rfl) (by omega) (by omega) (Nat.le_of_lt hB4.lt) ?_;intro v6 w9 hO hGr _;replace hX:=hX.grown hGr hG4;replace hB2:=hB2.grew hGr hL4_2;replace hD4:=(hD4.grew hGr hb12).here;replace hD5:=(hD5.grew hGr hb12).here;clear hB4 hO7;obtain ⟨A9,c9,rfl,hD9,_⟩:=cY.of_owns (xs:=List.replicate (2 * i) 0 ++ digs 65536 (val 65536 (m :: rs) * val 65536 (m :: rs))) (by rw [List.map_append,← lU];exact hO) (by simp) (fun x hx=>by rcases List.mem_append.1 hx with h | h;rw [List.eq_of_mem_replicate h];decide;exact jU _ x h) (by omega);simp only[zz];refine aG (⟨trivial,?_⟩);refine eN (by simp only[zw];rfl) (aZ (aD) ?_);simp only[zz];refine dU (tK ?_);refine hK18 _ _ (aF (fun K19 hK19=>wp_region_lit (aA (aB) ?_)));simp only[zz];refine bE rfl rfl (oB _ hD9) ?_;rintro v w11 hE rfl;replace hB2:=hB2.ext hE;(try replace hD4:=hD4.ext hE);(try replace hD5:=hD5.ext hE);(try replace hD9:=hD9.ext hE);replace hX:=hX.trans hE;clear hE;simp only[zz];refine aA (aB) ?_;simp only[zz];have hT9:=hD9.trimmed;refine bE rfl rfl (sG _ hT9 hD4 (jX _) (jS _)) ?_;rintro v w12 hE rfl;replace hB2:=hB2.ext hE;(try replace hD4:=hD4.ext hE);(try replace hD5:=hD5.ext hE);replace hX:=hX.trans hE;clear hE;rw [jF,eK,yF];simp only[zz];refine aA (Cn rfl rfl) ?_;simp only[zz];refine aG (hK19 _ _ ?_);refine cC rfl (fun hc4=>?_) (fun hc4=>?_)
      ·
       have hle4:=kY.1 hc4;refine wp_region_lit (aA (aB) (aA (aD) ?_));simp only[zz];refine aG ?_;simp only[Exit.inBlock,Exit.then];refine ⟨high - m,_,?_,rfl,?_,?_⟩
       · omega
       · simp only[zz,zv]
       ·
        simp only[zQ,zR,zD,zE];exact ⟨m,high,rfl,hX,hB2,hD4.here,hD5.here,hle4,hhigh,hm2,hl2,rfl⟩
      ·
       have hle4:=Nat.lt_of_not_le fun h=>hc4 (kY.2 h);refine wp_region_lit (aA (aB) (aA (aD) ?_));simp only[zz];refine aG ?_;simp only[Exit.inBlock,Exit.then];refine ⟨m - low,_,?_,rfl,?_,?_⟩
       · omega
       · simp only[zz,zv]
       ·
        simp only[zQ,zR,zD,zE];exact ⟨low,m,rfl,hX,hB2,hD4.here,hD5.here,hlow,hle4,hm1,by omega,rfl⟩
     ·
      refine bE rfl rfl (oB _ hD6) ?_;rintro v w7 hE rfl;replace hB2:=hB2.ext hE;(try replace hD4:=hD4.ext hE);(try replace hD5:=hD5.ext hE);(try replace hD6:=hD6.ext hE);(try replace hS12:=hS12.ext hE);replace hX:=hX.trans hE;clear hE;simp only[zz];refine aG (⟨trivial,?_⟩);refine Da (by simp only[zw];rfl) (by simp only[zw];rfl) ?_ ?_
      ·
       refine jE bX kU rfl rfl rfl (show _ = 2 * i by omega) (show _ = 2 * i by omega) (by omega) (by omega) (by omega) (by omega) ?_;intro w8 g4 hE hg4 hB4;have hb12:=Nat.le_trans hS12.h hg4;have hG4:=Nat.le_trans hX.size hg4;have hN4_2 : g4 ≠ g2:=Nat.ne_of_gt (Nat.lt_of_lt_of_le hB2.lt hg4);have hL4_2:=Nat.lt_of_lt_of_le hB2.lt hg4;replace hB2:=hB2.ext hE;(try replace hD4:=hD4.ext hE);(try replace hD5:=hD5.ext hE);(try replace hD6:=hD6.ext hE);replace hX:=hX.trans hE;clear hE;simp only[zz];refine aG (⟨trivial,?_⟩);refine jO (by simp only[zw];rfl) ?_;refine bE rfl rfl (oB _ hD6) ?_;rintro v w9 hE rfl;replace hB2:=hB2.ext hE;replace hB4:=hB4.ext hE;(try replace hD4:=hD4.ext hE);(try replace hD5:=hD5.ext hE);(try replace hD6:=hD6.ext hE);replace hX:=hX.trans hE;clear hE;simp only[zz];refine aG (⟨trivial,?_⟩);refine jO (by simp only[zw];rfl) ?_;have hl6:=iS (m :: rs);simp only[List.length_cons] at hl6;refine bE rfl rfl (yH _ hD6.trimmed hD6.trimmed (by omega) (by omega)) ?_;rintro v w10 hE ⟨⟨A8,c8,rfl,hD8⟩,_⟩;replace hB2:=hB2.ext hE;replace hB4:=hB4.ext hE;(try replace hD4:=hD4.ext hE);(try replace hD5:=hD5.ext hE);(try replace hD8:=hD8.ext hE);replace hX:=hX.trans hE;clear hE;simp only[jF] at hD8 ⊢;simp only[zz];refine aG (⟨trivial,?_⟩);refine jO (by simp only[zw];rfl) ?_;have hl8 : (digs 65536 (val 65536 (m :: rs) * val 65536 (m :: rs))).length ≤ 2 * (rs.length + 1):=Jr hm16 hrd;have hO7:=iR.full (base:=g4) (n:=2 * i) hB4 (Nat.le_refl _) (by simp) (by omega);refine pO rfl bX kU rfl (by decide) rfl hO7 rfl (news:=(digs 65536 (val 65536 (m :: rs) * val 65536 (m :: rs))).map pI) (by simp) hD8.rows (fun u hu=>by obtain ⟨x,_,rfl⟩:=List.mem_map.1 hu;rfl) (by omega) (by omega) (Nat.le_of_lt hB4.lt) ?_;intro v6 w9 hO hGr _;replace hX:=hX.grown hGr hG4;replace hB2:=hB2.grew hGr hL4_2;replace hD4:=(hD4.grew hGr hb12).here;replace hD5:=(hD5.grew hGr hb12).here;clear hB4 hO7;obtain ⟨A9,c9,rfl,hD9,_⟩:=cY.of_owns (xs:=List.replicate (2 * i) 0 ++ digs 65536 (val 65536 (m :: rs) * val 65536 (m :: rs))) (by rw [List.map_append,← lU];exact hO) (by simp) (fun x hx=>by rcases List.mem_append.1 hx with h | h;rw [List.eq_of_mem_replicate h];decide;exact jU _ x h) (by omega);simp only[zz];refine aG (⟨trivial,?_⟩);refine eN (by simp only[zw];rfl) (aZ (aD) ?_);simp only[zz];refine dU (tK ?_);refine hK18 _ _ (aF (fun K20 hK20=>wp_region_lit (aA (aB) ?_)));simp only[zz];refine bE rfl rfl (oB _ hD9) ?_;rintro v w11 hE rfl;replace hB2:=hB2.ext hE;(try replace hD4:=hD4.ext hE);(try replace hD5:=hD5.ext hE);(try replace hD9:=hD9.ext hE);replace hX:=hX.trans hE;clear hE;simp only[zz];refine aA (aB) ?_;simp only[zz];have hT9:=hD9.trimmed;refine bE rfl rfl (sG _ hT9 hD4 (jX _) (jS _)) ?_;rintro v w12 hE rfl;replace hB2:=hB2.ext hE;(try replace hD4:=hD4.ext hE);(try replace hD5:=hD5.ext hE);replace hX:=hX.trans hE;clear hE;rw [jF,eK,yF];simp only[zz];refine aA (Cn rfl rfl) ?_;simp only[zz];refine aG (hK20 _ _ ?_);refine cC rfl (fun hc4=>?_) (fun hc4=>?_)
       ·
        have hle4:=kY.1 hc4;refine wp_region_lit (aA (aB) (aA (aD) ?_));simp only[zz];refine aG ?_;simp only[Exit.inBlock,Exit.then];refine ⟨high - m,_,?_,rfl,?_,?_⟩
        · omega
        · simp only[zz,zv]
        ·
         simp only[zQ,zR,zD,zE];exact ⟨m,high,rfl,hX,hB2,hD4.here,hD5.here,hle4,hhigh,hm2,hl2,rfl⟩
       ·
        have hle4:=Nat.lt_of_not_le fun h=>hc4 (kY.2 h);refine wp_region_lit (aA (aB) (aA (aD) ?_));simp only[zz];refine aG ?_;simp only[Exit.inBlock,Exit.then];refine ⟨m - low,_,?_,rfl,?_,?_⟩
        · omega
        · simp only[zz,zv]
        ·
         simp only[zQ,zR,zD,zE];exact ⟨low,m,rfl,hX,hB2,hD4.here,hD5.here,hlow,hle4,hm1,by omega,rfl⟩
      ·
       refine bE rfl rfl (oB _ hD6) ?_;rintro v w8 hE rfl;replace hB2:=hB2.ext hE;(try replace hD4:=hD4.ext hE);(try replace hD5:=hD5.ext hE);(try replace hD6:=hD6.ext hE);(try replace hS12:=hS12.ext hE);replace hX:=hX.trans hE;clear hE;simp only[zz];refine aG (⟨trivial,?_⟩);refine Da (by simp only[zw];rfl) (by simp only[zw];rfl) ?_ ?_
       ·
        refine jE bX kU rfl rfl rfl (show _ = 2 * i by omega) (show _ = 2 * i by omega) (by omega) (by omega) (by omega) (by omega) ?_;intro w9 g4 hE hg4 hB4;have hb12:=Nat.le_trans hS12.h hg4;have hG4:=Nat.le_trans hX.size hg4;have hN4_2 : g4 ≠ g2:=Nat.ne_of_gt (Nat.lt_of_lt_of_le hB2.lt hg4);have hL4_2:=Nat.lt_of_lt_of_le hB2.lt hg4;replace hB2:=hB2.ext hE;(try replace hD4:=hD4.ext hE);(try replace hD5:=hD5.ext hE);(try replace hD6:=hD6.ext hE);replace hX:=hX.trans hE;clear hE;simp only[zz];refine aG (⟨trivial,?_⟩);refine jO (by simp only[zw];rfl) ?_;have hl6:=iS (m :: rs);simp only[List.length_cons] at hl6;refine bE rfl rfl (yH _ hD6.trimmed hD6.trimmed (by omega) (by omega)) ?_;rintro v w10 hE ⟨⟨A8,c8,rfl,hD8⟩,_⟩;replace hB2:=hB2.ext hE;replace hB4:=hB4.ext hE;(try replace hD4:=hD4.ext hE);(try replace hD5:=hD5.ext hE);(try replace hD8:=hD8.ext hE);replace hX:=hX.trans hE;clear hE;simp only[jF] at hD8 ⊢;simp only[zz];refine aG (⟨trivial,?_⟩);refine jO (by simp only[zw];rfl) ?_;have hl8 : (digs 65536 (val 65536 (m :: rs) * val 65536 (m :: rs))).length ≤ 2 * (rs.length + 1):=Jr hm16 hrd;have hO7:=iR.full (base:=g4) (n:=2 * i) hB4 (Nat.le_refl _) (by simp) (by omega);refine pO rfl bX kU rfl (by decide) rfl hO7 rfl (news:=(digs 65536 (val 65536 (m :: rs) * val 65536 (m :: rs))).map pI) (by simp) hD8.rows (fun u hu=>by obtain ⟨x,_,rfl⟩:=List.mem_map.1 hu;rfl) (by omega) (by omega) (Nat.le_of_lt hB4.lt) ?_;intro v6 w9 hO hGr _;replace hX:=hX.grown hGr hG4;replace hB2:=hB2.grew hGr hL4_2;replace hD4:=(hD4.grew hGr hb12).here;replace hD5:=(hD5.grew hGr hb12).here;clear hB4 hO7;obtain ⟨A9,c9,rfl,hD9,_⟩:=cY.of_owns (xs:=List.replicate (2 * i) 0 ++ digs 65536 (val 65536 (m :: rs) * val 65536 (m :: rs))) (by rw [List.map_append,← lU];exact hO) (by simp) (fun x hx=>by rcases List.mem_append.1 hx with h | h;rw [List.eq_of_mem_replicate h];decide;exact jU _ x h) (by omega);simp only[zz];refine aG (⟨trivial,?_⟩);refine eN (by simp only[zw];rfl) (aZ (aD) ?_);simp only[zz];refine dU (tK ?_);refine hK18 _ _ (aF (fun K21 hK21=>wp_region_lit (aA (aB) ?_)));simp only[zz];refine bE rfl rfl (oB _ hD9) ?_;rintro v w11 hE rfl;replace hB2:=hB2.ext hE;(try replace hD4:=hD4.ext hE);(try replace hD5:=hD5.ext hE);(try replace hD9:=hD9.ext hE);replace hX:=hX.trans hE;clear hE;simp only[zz];refine aA (aB) ?_;simp only[zz];have hT9:=hD9.trimmed;refine bE rfl rfl (sG _ hT9 hD4 (jX _) (jS _)) ?_;rintro v w12 hE rfl;replace hB2:=hB2.ext hE;(try replace hD4:=hD4.ext hE);(try replace hD5:=hD5.ext hE);replace hX:=hX.trans hE;clear hE;rw [jF,eK,yF];simp only[zz];refine aA (Cn rfl rfl) ?_;simp only[zz];refine aG (hK21 _ _ ?_);refine cC rfl (fun hc4=>?_) (fun hc4=>?_)
        ·
         have hle4:=kY.1 hc4;refine wp_region_lit (aA (aB) (aA (aD) ?_));simp only[zz];refine aG ?_;simp only[Exit.inBlock,Exit.then];refine ⟨high - m,_,?_,rfl,?_,?_⟩
         · omega
         · simp only[zz,zv]
         ·
          simp only[zQ,zR,zD,zE];exact ⟨m,high,rfl,hX,hB2,hD4.here,hD5.here,hle4,hhigh,hm2,hl2,rfl⟩
        ·
         have hle4:=Nat.lt_of_not_le fun h=>hc4 (kY.2 h);refine wp_region_lit (aA (aB) (aA (aD) ?_));simp only[zz];refine aG ?_;simp only[Exit.inBlock,Exit.then];refine ⟨m - low,_,?_,rfl,?_,?_⟩
         · omega
         · simp only[zz,zv]
         ·
          simp only[zQ,zR,zD,zE];exact ⟨low,m,rfl,hX,hB2,hD4.here,hD5.here,hlow,hle4,hm1,by omega,rfl⟩
       ·
        have hl6:=iS (m :: rs);simp only[List.length_cons] at hl6;refine bE rfl rfl (yH _ hD6.trimmed hD6.trimmed (by omega) (by omega)) ?_;rintro v w9 hE ⟨⟨A8,c8,rfl,hD8⟩,_⟩;replace hB2:=hB2.ext hE;(try replace hD4:=hD4.ext hE);(try replace hD5:=hD5.ext hE);(try replace hD8:=hD8.ext hE);(try replace hS12:=hS12.ext hE);replace hX:=hX.trans hE;clear hE;simp only[jF] at hD8 ⊢;simp only[zz];refine aG (⟨trivial,?_⟩);refine jO (by simp only[zw];rfl) ?_;refine jE bX kU rfl rfl rfl (show _ = 2 * i by omega) (show _ = 2 * i by omega) (by omega) (by omega) (by omega) (by omega) ?_;intro w10 g4 hE hg4 hB4;have hb12:=Nat.le_trans hS12.h hg4;have hG4:=Nat.le_trans hX.size hg4;have hN4_2 : g4 ≠ g2:=Nat.ne_of_gt (Nat.lt_of_lt_of_le hB2.lt hg4);have hL4_2:=Nat.lt_of_lt_of_le hB2.lt hg4;replace hB2:=hB2.ext hE;(try replace hD4:=hD4.ext hE);(try replace hD5:=hD5.ext hE);(try replace hD8:=hD8.ext hE);replace hX:=hX.trans hE;clear hE;simp only[zz];refine aG (⟨trivial,?_⟩);refine jO (by simp only[zw];rfl) ?_;have hl8 : (digs 65536 (val 65536 (m :: rs) * val 65536 (m :: rs))).length ≤ 2 * (rs.length + 1):=Jr hm16 hrd;have hO7:=iR.full (base:=g4) (n:=2 * i) hB4 (Nat.le_refl _) (by simp) (by omega);refine pO rfl bX kU rfl (by decide) rfl hO7 rfl (news:=(digs 65536 (val 65536 (m :: rs) * val 65536 (m :: rs))).map pI) (by simp) hD8.rows (fun u hu=>by obtain ⟨x,_,rfl⟩:=List.mem_map.1 hu;rfl) (by omega) (by omega) (Nat.le_of_lt hB4.lt) ?_;intro v6 w9 hO hGr _;replace hX:=hX.grown hGr hG4;replace hB2:=hB2.grew hGr hL4_2;replace hD4:=(hD4.grew hGr hb12).here;replace hD5:=(hD5.grew hGr hb12).here;clear hB4 hO7;obtain ⟨A9,c9,rfl,hD9,_⟩:=cY.of_owns (xs:=List.replicate (2 * i) 0 ++ digs 65536 (val 65536 (m :: rs) * val 65536 (m :: rs))) (by rw [List.map_append,← lU];exact hO) (by simp) (fun x hx=>by rcases List.mem_append.1 hx with h | h;rw [List.eq_of_mem_replicate h];decide;exact jU _ x h) (by omega);simp only[zz];refine aG (⟨trivial,?_⟩);refine eN (by simp only[zw];rfl) (aZ (aD) ?_);simp only[zz];refine dU (tK ?_);refine hK18 _ _ (aF (fun K22 hK22=>wp_region_lit (aA (aB) ?_)));simp only[zz];refine bE rfl rfl (oB _ hD9) ?_;rintro v w11 hE rfl;replace hB2:=hB2.ext hE;(try replace hD4:=hD4.ext hE);(try replace hD5:=hD5.ext hE);(try replace hD9:=hD9.ext hE);replace hX:=hX.trans hE;clear hE;simp only[zz];refine aA (aB) ?_;simp only[zz];have hT9:=hD9.trimmed;refine bE rfl rfl (sG _ hT9 hD4 (jX _) (jS _)) ?_;rintro v w12 hE rfl;replace hB2:=hB2.ext hE;(try replace hD4:=hD4.ext hE);(try replace hD5:=hD5.ext hE);replace hX:=hX.trans hE;clear hE;rw [jF,eK,yF];simp only[zz];refine aA (Cn rfl rfl) ?_;simp only[zz];refine aG (hK22 _ _ ?_);refine cC rfl (fun hc4=>?_) (fun hc4=>?_)
        ·
         have hle4:=kY.1 hc4;refine wp_region_lit (aA (aB) (aA (aD) ?_));simp only[zz];refine aG ?_;simp only[Exit.inBlock,Exit.then];refine ⟨high - m,_,?_,rfl,?_,?_⟩
         · omega
         · simp only[zz,zv]
         ·
          simp only[zQ,zR,zD,zE];exact ⟨m,high,rfl,hX,hB2,hD4.here,hD5.here,hle4,hhigh,hm2,hl2,rfl⟩
        ·
         have hle4:=Nat.lt_of_not_le fun h=>hc4 (kY.2 h);refine wp_region_lit (aA (aB) (aA (aD) ?_));simp only[zz];refine aG ?_;simp only[Exit.inBlock,Exit.then];refine ⟨m - low,_,?_,rfl,?_,?_⟩
         · omega
         · simp only[zz,zv]
         ·
          simp only[zQ,zR,zD,zE];exact ⟨low,m,rfl,hX,hB2,hD4.here,hD5.here,hlow,hle4,hm1,by omega,rfl⟩
    ·
     refine wp_exit ?_;refine hK13 _ _ ?_;obtain ⟨b12,hS12,hD4,hD5⟩:=Ez hD4 hD5;refine wp_region_lit (aA (aB) ?_);simp only[zz];refine fD bX (z:=.int .i64 0) (by kernel_rfl) rfl (by simp only[zz];rfl) (by rfl) ?_;intro w5 g3 hE hg3 hB3;have hb12:=Nat.le_trans hS12.h hg3;have hG3:=Nat.le_trans hX.size hg3;have hN3_2 : g3 ≠ g2:=Nat.ne_of_gt (Nat.lt_of_lt_of_le hB2.lt hg3);have hL3_2:=Nat.lt_of_lt_of_le hB2.lt hg3;replace hB2:=hB2.ext hE;(try replace hD4:=hD4.ext hE);(try replace hD5:=hD5.ext hE);replace hX:=hX.trans hE;clear hE;simp only[zz];refine aA (aB) ?_;simp only[zz];have hO6:=iR.full (base:=g3) (n:=1) hB3 (Nat.le_refl _) rfl (by omega);refine pO rfl bX kU rfl (by decide) rfl hO6 rfl (news:=rs.map pI) (by simp) hD5.rows (fun u hu=>by obtain ⟨x,_,rfl⟩:=List.mem_map.1 hu;rfl) (by omega) (by omega) (Nat.le_of_lt hB3.lt) ?_;intro v6 w9 hO hGr _;replace hX:=hX.grown hGr hG3;replace hB2:=hB2.grew hGr hL3_2;replace hD4:=(hD4.grew hGr hb12).here;clear hB3 hO6;obtain ⟨A6,c6,rfl,hD6,_⟩:=cY.of_owns (xs:=low :: rs) (by simpa [Nat.add_comm] using hO) (by first | simp;done | (simp only[List.length_cons];omega)) (lA (by omega) hrd) (by omega);simp only[zz];refine aA (aD) ?_;simp only[zz];refine aG (hK10 _ _ ?_);refine wp_region_lit (aA (aB) (aA (eO rfl rfl (aM (by omega) (by omega))) (aA (aD) ?_)));simp only[zz];refine aG ?_;simp only[Exit.inBlock,Exit.then];refine ⟨i,_,?_,rfl,?_,?_⟩
     · omega
     · simp only[zz,zv]
     ·
      simp only[zQ,zR,zD,zE];exact ⟨i,low :: rs,A6,c6,rfl,hX,hB2,hD4.here,hD6.here,by simp;omega,lA (by omega) hrd,by rw [Ey];exact hlow,by rw [Ey];exact abH hhigh hc3,rfl⟩
  ·
   obtain rfl : k = 0:=by omega
   have hres:=aac hr1 hr2;refine wp_exit (hK6 _ _ ?_);refine aF (fun K23 hK23=>wp_region_lit (aA (aB) ?_));simp only[zz];refine bE rfl rfl (qS _ hD5 (by omega)) ?_;rintro v w5 hE rfl;replace hB2:=hB2.ext hE;replace hX:=hX.trans hE;clear hE;rw [hres,nP];simp only[zz];refine dA rfl (by simp only[zz];rfl) (by exact aR) hB2 (by simp) (by simp [Value.oneCell']) ?_;clear hB2;intro w6 hC hB2;replace hX:=hX.chg hC hG2;clear hC;simp only[zy,zx,bK,Nat.reduceAdd] at hB2;refine aA (aD) ?_;simp only[zz];refine aG (hK23 _ _ ?_);refine wp_ret ?_;try simp only[Exit.inBlock,Exit.then]
   refine jW rfl ⟨_,rfl,(hB2.lies cA aR rfl rfl)⟩ rfl ?_;try simp only[zD,zE]
   exact ⟨_,rfl,hX,rfl⟩
end Go.Proofs.YtfohfflkhpfjeaaGreatDoor
namespace Go.Proofs.YtfohfflkhpfjeaaGreatDoor
open Go.Proofs.Tryz
open Go.RowKit Go.Lith
set_option maxRecDepth 100000
attribute [local irreducible] wpList wpQuiet dY dO dN Code.wp
theorem afV {p : P3} : iX prog 129 [pt p] (.int .i64 p.x):=by
 intro w;refine ⟨Yi,?_⟩;have m:=cF.refl w
 go_enter func129,ntmps129
 refine aF fun K1 k1=>wp_region_lit (eP m rfl ?_);clear m;intro g1 u m;refine aA (aD) (aG (k1 _ _ ?_));refine aF fun K2 k2=>wp_region_lit (aA (aO (c:=0) zZ rfl bG rfl rfl) ?_);simp only[zz];refine aL rfl ((m.b 0 rfl).lies1 bZ rfl) ?_;simp only[zz];refine aA (aD) (aG (k2 _ _ ?_));refine wp_ret ?_;simp only[zz];try simp only[Exit.inBlock,Exit.then,if_true]
 refine bS rfl rfl ?_;try simp only[zD,zE]
 exact ⟨_,rfl,m.ext,rfl⟩
theorem afW {p : P3} : iX prog 130 [pt p] (.int .i64 p.y):=by
 intro w;refine ⟨Yj,?_⟩;have m:=cF.refl w
 go_enter func130,ntmps130
 refine aF fun K1 k1=>wp_region_lit (eP m rfl ?_);clear m;intro g1 u m;refine aA (aD) (aG (k1 _ _ ?_));refine aF fun K2 k2=>wp_region_lit (aA (aO (c:=0) zZ rfl bG rfl rfl) ?_);simp only[zz];refine aL rfl ((m.b 0 rfl).lies1 bZ rfl) ?_;simp only[zz];refine aA (aD) (aG (k2 _ _ ?_));refine wp_ret ?_;simp only[zz];try simp only[Exit.inBlock,Exit.then,if_true]
 refine bS rfl rfl ?_;try simp only[zD,zE]
 exact ⟨_,rfl,m.ext,rfl⟩
theorem afX {p : P3} : iX prog 131 [pt p] (.int .i64 p.z):=by
 intro w;refine ⟨Yk,?_⟩;have m:=cF.refl w
 go_enter func131,ntmps131
 refine aF fun K1 k1=>wp_region_lit (eP m rfl ?_);clear m;intro g1 u m;refine aA (aD) (aG (k1 _ _ ?_));refine aF fun K2 k2=>wp_region_lit (aA (aO (c:=0) zZ rfl bG rfl rfl) ?_);simp only[zz];refine aL rfl ((m.b 0 rfl).lies1 bZ rfl) ?_;simp only[zz];refine aA (aD) (aG (k2 _ _ ?_));refine wp_ret ?_;simp only[zz];try simp only[Exit.inBlock,Exit.then,if_true]
 refine bS rfl rfl ?_;try simp only[zD,zE]
 exact ⟨_,rfl,m.ext,rfl⟩
theorem adN  : iX prog 111 [] (.agg #[.func (.func 129) #[] #[],.func (.func 130) #[] #[],.func (.func 131) #[] #[]]):=by
 intro w;refine ⟨Yh,?_⟩;have m:=cF.refl w
 go_enter func111,ntmps111
 refine aF fun K1 k1=>wp_region_lit (bH m Ds rfl ?_);clear m;intro g1 u m;refine aG (k1 _ _ ?_);refine aF fun K2 k2=>wp_region_lit (aA (qQ rfl rfl rfl) ?_);simp only[zz];refine aT m 0 rfl rfl rfl vD (dX rfl) rfl ?_;clear m;intro u m;simp only[zy,zx,bK,zF,zG,Nat.reduceAdd] at m;refine aG (k2 _ _ ?_);refine wp_ret ?_;try simp only[Exit.inBlock,Exit.then,if_true]
 refine bS rfl ⟨_,rfl,((m.b 0 rfl).full Re vD)⟩ ?_;try simp only[zD,zE]
 exact ⟨_,rfl,m.ext,rfl⟩
theorem Nd {p q : P3} [I3 p] [I3 q] : iX prog 112 [pt p,pt q] (wv (q.sub p)):=by
 intro w;refine ⟨acP,?_⟩;have m:=cF.refl w
 go_enter func112,ntmps112
 refine aF fun K1 k1=>wp_region_lit (eP m rfl ?_);clear m;intro g1 u m;simp only[zz];refine eP m rfl ?_;clear m;intro g2 u m;simp only[zz];refine bH m Dt rfl ?_;clear m;intro g3 u m;refine aG (k1 _ _ ?_);refine aF fun K2 k2=>wp_region_lit ?_;simp only[zz];refine bH m Dt rfl ?_;clear m;intro g4 u m;refine aG (k2 _ _ ?_);refine aF fun K3 k3=>aF fun K4 k4=>wp_region_lit ?_;simp only[zz];refine gJ m rfl rfl (adN) ?_;clear m;intro u m;refine aA (aB) (aG (k4 _ _ ?_));refine wp_block (wp_loop_rounds 4 (dP (aF fun K5 k5=>wp_region_lit (aA (bW (m:=0) (n:=3) rfl rfl (by decide)) (aG (k5 _ _ ?_))))));refine aF fun K6 k6=>cQ rfl (wp_skip (k6 _ _ ?_));refine aF fun K7 k7=>wp_block (aF fun K8 k8=>wp_region_lit (aA (aB) ?_));simp only[zz];refine aA (vU rfl rfl) (aA (aD) (aA (aD) (aG (k8 _ _ ?_))));simp only[zz];refine gN m 11 aP (by kernel_rfl) ?_;simp only[zy];refine aI (aB) (aI (aB) ?_);simp only[zz];refine ql rfl (fun u m=>((m.b 2 rfl).full aJ aC)) ?_;simp only[zz];refine sS rfl rfl (afV) ?_;simp only[zz];refine sS rfl rfl (wP Iw.h) (aI (aB) ?_);simp only[zz];refine ql rfl (fun u m=>((m.b 3 rfl).full aJ aC)) ?_;simp only[zz];refine sS rfl rfl (afV) ?_;simp only[zz];refine sS rfl rfl (wP Iw.h) ?_;simp only[zz];refine sS rfl rfl (aao Bw.up Bw.up) (aI (aH qZ aR rfl rfl (by decide) (by decide) rfl) (cP ?_));clear m;intro u m;simp only[zz];refine aT m 0 rfl rfl rfl aR (dX rfl) rfl ?_;clear m;intro u m;simp only[zy,zx,bK,zF,zG,Nat.reduceAdd] at m;refine aG (k7 _ _ ?_);refine wp_region_lit (aA (aQ (m:=0) (n:=1) (r:=1) rfl rfl (by decide)) (aA (aB) (aG (aX (aF fun K9 k9=>wp_region_lit (aA (bW (m:=1) (n:=3) rfl rfl (by decide)) (aG (k9 _ _ ?_))))))));refine aF fun K10 k10=>cQ rfl (wp_skip (k10 _ _ ?_));refine aF fun K11 k11=>wp_block (aF fun K12 k12=>wp_region_lit (aA (aB) ?_));simp only[zz];refine aA (vV rfl rfl) (aA (aD) (aA (aD) (aG (k12 _ _ ?_))));simp only[zz];refine gN m 11 aP (by kernel_rfl) ?_;simp only[zy];refine aI (aB) (aI (aB) ?_);simp only[zz];refine ql rfl (fun u m=>((m.b 2 rfl).full aJ aC)) ?_;simp only[zz];refine sS rfl rfl (afW) ?_;simp only[zz];refine sS rfl rfl (wP Iw.h) (aI (aB) ?_);simp only[zz];refine ql rfl (fun u m=>((m.b 3 rfl).full aJ aC)) ?_;simp only[zz];refine sS rfl rfl (afW) ?_;simp only[zz];refine sS rfl rfl (wP Iw.h) ?_;simp only[zz];refine sS rfl rfl (aao Bw.up Bw.up) (aI (aH qZ aR rfl rfl (by decide) (by decide) rfl) (cP ?_));clear m;intro u m;simp only[zz];refine aT m 0 rfl rfl rfl aR (dX rfl) rfl ?_;clear m;intro u m;simp only[zy,zx,bK,zF,zG,Nat.reduceAdd] at m;refine aG (k11 _ _ ?_);refine wp_region_lit (aA (aQ (m:=1) (n:=1) (r:=2) rfl rfl (by decide)) (aA (aB) (aG (aX (aF fun K13 k13=>wp_region_lit (aA (bW (m:=2) (n:=3) rfl rfl (by decide)) (aG (k13 _ _ ?_))))))));refine aF fun K14 k14=>cQ rfl (wp_skip (k14 _ _ ?_));refine aF fun K15 k15=>wp_block (aF fun K16 k16=>wp_region_lit (aA (aB) ?_));simp only[zz];refine aA (vW rfl rfl) (aA (aD) (aA (aD) (aG (k16 _ _ ?_))));simp only[zz];refine gN m 11 aP (by kernel_rfl) ?_;simp only[zy];refine aI (aB) (aI (aB) ?_);simp only[zz];refine ql rfl (fun u m=>((m.b 2 rfl).full aJ aC)) ?_;simp only[zz];refine sS rfl rfl (afX) ?_;simp only[zz];refine sS rfl rfl (wP Iw.h) (aI (aB) ?_);simp only[zz];refine ql rfl (fun u m=>((m.b 3 rfl).full aJ aC)) ?_;simp only[zz];refine sS rfl rfl (afX) ?_;simp only[zz];refine sS rfl rfl (wP Iw.h) ?_;simp only[zz];refine sS rfl rfl (aao Bw.up Bw.up) (aI (aH qZ aR rfl rfl (by decide) (by decide) rfl) (cP ?_));clear m;intro u m;simp only[zz];refine aT m 0 rfl rfl rfl aR (dX rfl) rfl ?_;clear m;intro u m;simp only[zy,zx,bK,zF,zG,Nat.reduceAdd] at m;refine aG (k15 _ _ ?_);refine wp_region_lit (aA (aQ (m:=2) (n:=1) (r:=3) rfl rfl (by decide)) (aA (aB) (aG (aX (aF fun K17 k17=>wp_region_lit (aA (eM (m:=3) (n:=3) rfl rfl (by decide)) (aG (k17 _ _ ?_))))))));refine aF fun K18 k18=>iD rfl (wp_exit (k3 _ _ ?_));refine aF fun K19 k19=>wp_region_lit ?_;simp only[zz];refine aL rfl ((m.b 0 rfl).full Ca pL) ?_;simp only[zz];refine aT m 1 rfl rfl rfl pL (dX rfl) rfl ?_;clear m;intro u m;simp only[zy,zx,bK,zF,zG,Nat.reduceAdd] at m;refine aG (k19 _ _ ?_);refine wp_ret ?_;try simp only[Exit.inBlock,Exit.then,if_true]
 refine bS rfl ⟨_,rfl,((m.b 1 rfl).full Ca pL)⟩ ?_;try simp only[zD,zE]
 exact ⟨_,rfl,m.ext,rfl⟩
theorem adO {b : Int} (hb : Bd 1000000 b) : iX prog 79 [.agg #[.bool false,.string ⟨#[]⟩],W b] (W (0 + b)):=by
 rw [← acx];exact Nb (Qr _) hb
theorem Nf {u v : P3} (hu : Bv 400000 u) (hv : Bv 400000 v) : iX prog 113 [wv u,wv v] (W (u.dot v)):=by
 intro w;refine ⟨acQ,?_⟩;have m:=cF.refl w
 go_enter func113,ntmps113
 refine aF fun K1 k1=>wp_region_lit (eP m rfl ?_);clear m;intro g1 u m;simp only[zz];refine eP m rfl ?_;clear m;intro g2 u m;simp only[zz];refine bH m eX rfl ?_;clear m;intro g3 u m;refine aG (k1 _ _ ?_);refine aF fun K2 k2=>wp_region_lit ?_;simp only[zz];refine bH m eX rfl ?_;clear m;intro g4 u m;refine aG (k2 _ _ ?_);refine aF fun K3 k3=>aF fun K4 k4=>wp_region_lit (aA (aB) (aG (k4 _ _ ?_)));refine wp_block (wp_loop_rounds 4 (dP (aF fun K5 k5=>wp_region_lit (aA (bW (m:=0) (n:=3) rfl rfl (by decide)) (aG (k5 _ _ ?_))))));refine aF fun K6 k6=>cQ rfl (wp_skip (k6 _ _ ?_));refine aF fun K7 k7=>wp_block (aF fun K8 k8=>wp_region_lit (aA (aB) ?_));simp only[zz];refine aA (aD) (aG (k8 _ _ ?_));simp only[zz];refine gN m 9 aP (by kernel_rfl) ?_;simp only[zy];refine ql rfl (fun u m=>((m.b 0 rfl).full cA aR)) ?_;simp only[zz];refine aI (aB) (aI (aH qZ aR rfl rfl (by decide) (by decide) rfl) ?_);simp only[zz];refine ql rfl (fun u m=>((m.b 3 rfl).lies cA aR rfl rfl)) ?_;simp only[zz,zy,Nat.zero_add,Nat.reduceAdd,Nat.reduceMul,Int.reduceToNat];refine aI (aB) (aI (aH qZ aR rfl rfl (by decide) (by decide) rfl) ?_);simp only[zz];refine ql rfl (fun u m=>((m.b 2 rfl).lies cA aR rfl rfl)) ?_;simp only[zz,zy,Nat.zero_add,Nat.reduceAdd,Nat.reduceMul,Int.reduceToNat];refine sS rfl rfl (Rv Bw.up Bw.up) ?_;simp only[zz];refine sS rfl rfl (adO Bw.up) (cP ?_);clear m;intro u m;simp only[zz];refine aT m 0 rfl rfl rfl aR (dX rfl) rfl ?_;clear m;intro u m;simp only[zy,zx,bK,zF,zG,Nat.reduceAdd] at m;refine aG (k7 _ _ ?_);refine wp_region_lit (aA (aQ (m:=0) (n:=1) (r:=1) rfl rfl (by decide)) (aA (aB) (aG (aX (aF fun K9 k9=>wp_region_lit (aA (bW (m:=1) (n:=3) rfl rfl (by decide)) (aG (k9 _ _ ?_))))))));refine aF fun K10 k10=>cQ rfl (wp_skip (k10 _ _ ?_));refine aF fun K11 k11=>wp_block (aF fun K12 k12=>wp_region_lit (aA (aB) ?_));simp only[zz];refine aA (aD) (aG (k12 _ _ ?_));simp only[zz];refine gN m 9 aP (by kernel_rfl) ?_;simp only[zy];refine ql rfl (fun u m=>((m.b 0 rfl).full cA aR)) ?_;simp only[zz];refine aI (aB) (aI (aH qZ aR rfl rfl (by decide) (by decide) rfl) ?_);simp only[zz];refine ql rfl (fun u m=>((m.b 3 rfl).lies cA aR rfl rfl)) ?_;simp only[zz,zy,Nat.zero_add,Nat.reduceAdd,Nat.reduceMul,Int.reduceToNat];refine aI (aB) (aI (aH qZ aR rfl rfl (by decide) (by decide) rfl) ?_);simp only[zz];refine ql rfl (fun u m=>((m.b 2 rfl).lies cA aR rfl rfl)) ?_;simp only[zz,zy,Nat.zero_add,Nat.reduceAdd,Nat.reduceMul,Int.reduceToNat];refine sS rfl rfl (Rv Bw.up Bw.up) ?_;simp only[zz];refine sS rfl rfl (Nb Bw.up Bw.up) (cP ?_);clear m;intro u m;simp only[zz];refine aT m 0 rfl rfl rfl aR (dX rfl) rfl ?_;clear m;intro u m;simp only[zy,zx,bK,zF,zG,Nat.reduceAdd] at m;refine aG (k11 _ _ ?_);refine wp_region_lit (aA (aQ (m:=1) (n:=1) (r:=2) rfl rfl (by decide)) (aA (aB) (aG (aX (aF fun K13 k13=>wp_region_lit (aA (bW (m:=2) (n:=3) rfl rfl (by decide)) (aG (k13 _ _ ?_))))))));refine aF fun K14 k14=>cQ rfl (wp_skip (k14 _ _ ?_));refine aF fun K15 k15=>wp_block (aF fun K16 k16=>wp_region_lit (aA (aB) ?_));simp only[zz];refine aA (aD) (aG (k16 _ _ ?_));simp only[zz];refine gN m 9 aP (by kernel_rfl) ?_;simp only[zy];refine ql rfl (fun u m=>((m.b 0 rfl).full cA aR)) ?_;simp only[zz];refine aI (aB) (aI (aH qZ aR rfl rfl (by decide) (by decide) rfl) ?_);simp only[zz];refine ql rfl (fun u m=>((m.b 3 rfl).lies cA aR rfl rfl)) ?_;simp only[zz,zy,Nat.zero_add,Nat.reduceAdd,Nat.reduceMul,Int.reduceToNat];refine aI (aB) (aI (aH qZ aR rfl rfl (by decide) (by decide) rfl) ?_);simp only[zz];refine ql rfl (fun u m=>((m.b 2 rfl).lies cA aR rfl rfl)) ?_;simp only[zz,zy,Nat.zero_add,Nat.reduceAdd,Nat.reduceMul,Int.reduceToNat];refine sS rfl rfl (Rv Bw.up Bw.up) ?_;simp only[zz];refine sS rfl rfl (Nb Bw.up Bw.up) (cP ?_);clear m;intro u m;simp only[zz];refine aT m 0 rfl rfl rfl aR (dX rfl) rfl ?_;clear m;intro u m;simp only[zy,zx,bK,zF,zG,Nat.reduceAdd] at m;refine aG (k15 _ _ ?_);refine wp_region_lit (aA (aQ (m:=2) (n:=1) (r:=3) rfl rfl (by decide)) (aA (aB) (aG (aX (aF fun K17 k17=>wp_region_lit (aA (eM (m:=3) (n:=3) rfl rfl (by decide)) (aG (k17 _ _ ?_))))))));refine aF fun K18 k18=>iD rfl (wp_exit (k3 _ _ ?_));refine aF fun K19 k19=>wp_region_lit ?_;simp only[zz];refine aL rfl ((m.b 0 rfl).full cA aR) ?_;simp only[zz];refine aT m 1 rfl rfl rfl aR (dX rfl) rfl ?_;clear m;intro u m;simp only[zy,zx,bK,zF,zG,Nat.reduceAdd] at m;refine aG (k19 _ _ ?_);refine wp_ret ?_;try simp only[Exit.inBlock,Exit.then,if_true]
 refine bS rfl ⟨_,rfl,((m.b 1 rfl).full cA aR)⟩ ?_;try simp only[zD,zE]
 exact ⟨_,rfl,m.ext,by rw [← P3.dot0];rfl⟩
end Go.Proofs.YtfohfflkhpfjeaaGreatDoor
namespace Go.Proofs.YtfohfflkhpfjeaaGreatDoor
open Go.Proofs.Tryz
open Go.RowKit Go.Lith
set_option maxRecDepth 100000
attribute [local irreducible] wpList wpQuiet dY dO dN Code.wp
theorem abS {p q : P3} [I3 p] [I3 q] : iX prog 76 [pt p,pt q] (W ((q.sub p).dot (q.sub p))):=by
 intro w;refine ⟨afe,?_⟩;have m:=cF.refl w
 go_enter func76,ntmps76
 refine aF fun K1 k1=>wp_region_lit (eP m rfl ?_);clear m;intro g1 u m;simp only[zz];refine eP m rfl ?_;clear m;intro g2 u m;simp only[zz];refine bH m eX rfl ?_;clear m;intro g3 u m;refine aG (k1 _ _ ?_);refine aF fun K2 k2=>wp_region_lit ?_;simp only[zz];refine aL rfl ((m.b 2 rfl).full aJ aC) ?_;simp only[zz];refine aL rfl ((m.b 1 rfl).full aJ aC) ?_;simp only[zz];refine gJ m rfl rfl (Nd) ?_;clear m;intro u m;simp only[zz];refine bH m Dt rfl ?_;clear m;intro g4 u m;simp only[zz];refine aT m 0 rfl rfl rfl pL (dX rfl) rfl ?_;clear m;intro u m;simp only[zy,zx,bK,zF,zG,Nat.reduceAdd] at m;refine aG (k2 _ _ ?_);refine aF fun K3 k3=>wp_region_lit (aL rfl ((m.b 0 rfl).full Ca pL) ?_);simp only[zz];refine aL rfl ((m.b 0 rfl).full Ca pL) ?_;simp only[zz];refine gJ m rfl rfl (Nf Bv.of Bv.of) ?_;clear m;intro u m;simp only[zz];refine aT m 1 rfl rfl rfl aR (dX rfl) rfl ?_;clear m;intro u m;simp only[zy,zx,bK,zF,zG,Nat.reduceAdd] at m;refine aG (k3 _ _ ?_);refine wp_ret ?_;try simp only[Exit.inBlock,Exit.then,if_true]
 refine bS rfl ⟨_,rfl,((m.b 1 rfl).full cA aR)⟩ ?_;try simp only[zD,zE]
 exact ⟨_,rfl,m.ext,rfl⟩
end Go.Proofs.YtfohfflkhpfjeaaGreatDoor
namespace Go.Proofs.YtfohfflkhpfjeaaGreatDoor
open Go.Proofs.Tryz
open Go.RowKit Go.Lith
set_option maxRecDepth 100000
attribute [local irreducible] wpList wpQuiet dY dO dN Code.wp
theorem Sa (m n : Int) : (if m < n then n else m) = max m n:=by split <;> omega
theorem abT {w : World} {a : Addr} {e : E3} (h : jL w a (cB e)) : jL w a [.int .i64 e.1.x,.int .i64 e.1.y,.int .i64 e.1.z,.int .i64 e.2.x,.int .i64 e.2.y,.int .i64 e.2.z]:=h
theorem Ka (p q : P3) : (q.sub p).dot (q.sub p) = ((oA p q : Nat) : Int):=by unfold oA;have:=acA (q.sub p);omega
theorem oZ {p q : P3} [I3 p] [I3 q] : Bd 200 ((oA p q : Nat) : Int):=by rw [← Ka];exact (Bw.up : Bd 200 ((q.sub p).dot (q.sub p)))
theorem adP (n : Nat) : eE n ≤ n:=by
 obtain ⟨h,_⟩:=sP n;rcases Nat.eq_zero_or_pos (eE n) with e | e
 · omega
 · exact Nat.le_trans (Nat.le_mul_of_pos_left _ e) h
theorem tH {n : Nat} (h : Bd 200 ((n : Nat) : Int)) : Bd 200 ((eE n : Nat) : Int):=by
 have h1 : (n : Int).natAbs < 2 ^ 200:=h;show (eE n : Int).natAbs < 2 ^ 200
 have:=adP n;omega
theorem Ng {p q : P3} (h : eE (oA p q) * eE (oA p q) = oA p q) : ((eE (oA p q) : Nat) : Int) = pJ p q:=by rw [pJ,if_pos h,Int.add_zero]
theorem Sb {p q : P3} (h : ¬ eE (oA p q) * eE (oA p q) = oA p q) : ((eE (oA p q) : Nat) : Int) + 1 = pJ p q:=by rw [pJ,if_neg h]
theorem Sc {p q : P3} [I3 p] [I3 q] : Bd 250 (pJ p q):=by
 have h : (eE (oA p q) : Int).natAbs < 2 ^ 200:=tH oZ;show (pJ p q).natAbs < 2 ^ 250
 have h2 : (2 : Nat) ^ 200 + 1 ≤ 2 ^ 250:=by decide
 unfold pJ;split <;> omega
theorem acj {r d : Nat} : (¬ (iE ((r : Int) * (r : Int)) = iE (d : Int) ∧ mX ((r : Int) * (r : Int)) = mX (d : Int))) ↔ ¬ r * r = d:=by
 rw [Xm];refine not_congr ⟨fun h=>?_,fun h=>by rw [← h];simp⟩;exact Int.ofNat_inj.1 (by rw [← h];simp)
theorem Nh {ms : List Mv} {k : Nat} {mv : Mv} {y0 y : Int} (hm : ms[k]? = some mv) (h : lH ms y0 = lH (ms.drop k) y) (hi : oJ (pJ mv.1 mv.2)) : lH ms y0 = lH (ms.drop (k + 1)) (max y (pJ mv.1 mv.2)):=by
 rw [h,List.drop_eq_getElem_cons (List.getElem?_eq_some_iff.1 hm).1,(List.getElem?_eq_some_iff.1 hm).2,lH,if_pos hi]
theorem Sd {ms : List Mv} {k : Nat} {mv : Mv} {y0 y : Int} (hm : ms[k]? = some mv) (h : lH ms y0 = lH (ms.drop k) y) (hi : ¬ oJ (pJ mv.1 mv.2)) : lH ms y0 = none:=by
 rw [h,List.drop_eq_getElem_cons (List.getElem?_eq_some_iff.1 hm).1,(List.getElem?_eq_some_iff.1 hm).2,lH,if_neg hi]
theorem Vq {w0 w : World} {K : It} {ms : List Mv} {N3 cap3 : Nat} {A3 : Option Addr} {F G R M : Value} {g1 : Nat} {y0 : Int} (m : cF w0 w [bI g1 [F,G,.slice A3 N3 cap3,R,M,.int .i64 y0] 73,K]) (hL3 : oU cB 6 w0 A3 N3 ms) (hN3 : N3 ≤ 10000000) (hI : ∀ mv ∈ ms,I3 mv.1 ∧ I3 mv.2) : Rw prog 35 [.pointer (some ⟨g1,0,none⟩)] w fun v w'=>∃ y,v = .int .i64 (if (lH ms y0).isSome = true then 0 else 3) ∧ cF w0 w' [bI g1 [F,G,.slice A3 N3 cap3,R,M,.int .i64 y] 73,K] ∧ ∀ n,lH ms y0 = some n → n = y:=by
 refine ⟨aeB,?_⟩
 go_enter func35,ntmps35
 refine aF fun K1 k1=>wp_region_lit (aA (aD) (aG (k1 _ _ ?_)));refine aF fun K2 k2=>aF fun K3 k3=>wp_region_lit (aA (aB) (aA (dB rfl) (aA (aO (c:=0) iZ rfl uG rfl rfl) ?_)));simp only[zz];refine aL rfl ((m.b 0 rfl).lies1 Jd rfl) ?_;simp only[zz];refine aA (bA rfl kJ rfl) (aA (aB) (aG (k3 _ _ ?_)));refine wp_block ?_;simp only[zz];try simp only[Nat.zero_add,Nat.reduceAdd,Nat.reduceMul,Int.reduceToNat]
 refine bJ [15] [2,4,5,6,7,8,9,16,17,18,19,20,21,22,23,24,25,26,27,28,29,30,31,32,33,34,35,36,37,38,39,40,41,42,43,44,45,46,47,48,49,50,51,52,53] (fun n vs wl=>∃ (k : Nat) (y : Int),vs = [.int .i64 (k:Int)] ∧ cF w0 wl [bI g1 [F,G,.slice A3 N3 cap3,R,M,.int .i64 y] 73,K] ∧ (lH ms y0 = lH (ms.drop k) y) ∧ (k ≤ N3) ∧ (n = N3 - k)) ?_ ?_
 ·
  apply Exists.intro;simp only[zQ,zR,zD,zE];exact ⟨0,_,rfl,m,rfl,Nat.zero_le _,rfl⟩
 ·
  intro n vs wr hI u;clear m;obtain ⟨k,y,rfl,m,hme,hk,hn⟩:=hI;simp only[zu,zF,zG];refine aF fun K4 k4=>wp_region_lit (aA (cO rfl rfl) (aG (k4 _ _ ?_)));refine aF fun K5 k5=>?_;simp only[zz];refine cC rfl (fun hc1=>?_) (fun hc1=>?_)
  ·
   obtain ⟨mv,hmv,a3,rfl,hrow3⟩:=hL3.get (i:=k) (by omega);haveI:=(hI mv (List.mem_of_getElem? hmv)).1;haveI:=(hI mv (List.mem_of_getElem? hmv)).2;refine wp_skip (k5 _ _ ?_);refine aF fun K6 k6=>wp_block (aF fun K7 k7=>wp_region_lit (aA (aK kJ fK rfl rfl (by omega) (by omega) (bY (Int.toNat_natCast _))) ?_));simp only[zz];refine aL rfl ((abT (hrow3.ext m.ext)).lies Pa fK) ?_;simp only[zz];refine bH m xJ rfl ?_;clear m;intro g2 u m;simp only[zz];refine aT m 0 rfl rfl rfl fK (dX rfl) rfl ?_;clear m;intro u m;simp only[zy,zx,bK,zF,zG,Nat.reduceAdd] at m;refine aG (k7 _ _ ?_);refine aF fun K8 k8=>wp_region_lit (aA (aO (c:=2) iY rfl aC rfl rfl) ?_);simp only[zz];refine aL rfl ((m.b 0 rfl).lies aJ aC rfl rfl) ?_;simp only[zz,zy,Nat.zero_add,Nat.reduceAdd,Nat.reduceMul,Int.reduceToNat];refine aA (aO (c:=2) iY rfl aC rfl rfl) ?_;simp only[zz];refine aL rfl ((m.b 0 rfl).lies aJ aC rfl rfl) ?_;simp only[zz,zy,Nat.zero_add,Nat.reduceAdd,Nat.reduceMul,Int.reduceToNat];refine gJ m rfl rfl (abS (p:=mv.1) (q:=mv.2)) ?_;clear m;intro u m;simp only[zz];refine bH m eX rfl ?_;clear m;intro g3 u m;simp only[zz];refine aT m 0 rfl rfl rfl aR (dX rfl) rfl ?_;clear m;intro u m;simp only[zy,zx,bK,zF,zG,Nat.reduceAdd] at m;refine aG ?_;rw [Ka] at m;refine k8 _ _ ?_;refine aF fun K9 k9=>wp_region_lit (aL rfl ((m.b 0 rfl).full cA aR) ?_);simp only[zz];refine gJ m rfl rfl (adE (a:=((oA mv.1 mv.2 : Nat) : Int)) (oZ.mono (by decide)) (by omega)) ?_;clear m;intro u m;refine aA (aB) (aA (bM rfl rfl) (aA (bM rfl rfl) ?_));simp only[zz];refine bH m eX rfl ?_;clear m;intro g4 u m;simp only[zz];refine aT m 0 rfl rfl rfl aR (dX rfl) rfl ?_;clear m;intro u m;simp only[zy,zx,bK,zF,zG,Nat.reduceAdd] at m;refine aA (aD) (aG ?_);simp only[zz];rw [Int.natAbs_natCast] at m;refine k9 _ _ ?_;refine aF fun K10 k10=>aF fun K11 k11=>mq m aP (by kernel_rfl) (ql rfl (fun u m=>((m.b 0 rfl).full cA aR)) ?_);simp only[zz];refine ql rfl (fun u m=>((m.b 0 rfl).full cA aR)) ?_;simp only[zz];refine sS rfl rfl (Rv (a:=((eE (oA mv.1 mv.2) : Nat) : Int)) (b:=((eE (oA mv.1 mv.2) : Nat) : Int)) ((tH oZ).mono (by decide)) ((tH oZ).mono (by decide))) ?_;simp only[zz];refine ql rfl (fun u m=>((m.b 1 rfl).full cA aR)) ?_;simp only[zz];refine aI (Uc rfl rfl) (cP ?_);clear m;intro u m;refine k11 _ _ ?_;simp only[zz];refine oD m 0 [] [34,35,36] (fun vs i=>vs = [] ∧ i = bI g4 [.bool (iE (pJ mv.1 mv.2)),.string (mX (pJ mv.1 mv.2))] 65) ?_ ?_
   ·
    refine cC rfl (fun hc2=>?_) (fun hc2=>?_)
    ·
     have hsq:=acj.1 hc2;refine gN m 3 aP (by kernel_rfl) ?_;simp only[zy];refine ql rfl (fun u m=>((m.b 0 rfl).full cA aR)) ?_;simp only[zz];refine sS rfl rfl (wP (n:=1) (show oJ 1 by unfold oJ;decide)) ?_;simp only[zz];refine sS rfl rfl (Nb (a:=((eE (oA mv.1 mv.2) : Nat) : Int)) (b:=1) ((tH oZ).mono (by decide)) Bw.up) (cP ?_);clear m;intro u m;simp only[zz];refine aT m 0 rfl rfl rfl aR (dX rfl) rfl ?_;clear m;intro u m;simp only[zy,zx,bK,zF,zG,Nat.reduceAdd] at m;refine aG ?_;rw [Sb hsq] at m;simp only[Exit.inBlock,Exit.then];refine ⟨_,_,rfl,?_,m,?_⟩
     · simp only[zz,zv]
     ·
      simp only[zQ,zR,zD,zE];exact ⟨trivial,trivial⟩
    ·
     have hsq:=Classical.not_not.1 (mt acj.2 hc2);refine wp_skip ?_;rw [Ng hsq] at m;simp only[Exit.inBlock,Exit.then];refine ⟨_,_,rfl,?_,m,?_⟩
     · simp only[zz,zv]
     ·
      simp only[zQ,zR,zD,zE];exact ⟨trivial,trivial⟩
   ·
    intro vs i wr m hI u;obtain ⟨rfl,rfl⟩:=hI;simp only[zF,zG] at m;simp only[zu,zF,zG];refine k10 _ _ ?_;refine aF fun K12 k12=>wp_region_lit (aL rfl ((m.b 0 rfl).full cA aR) ?_);simp only[zz];refine gJ m rfl rfl (adF (a:=pJ mv.1 mv.2) (Sc.mono (by decide))) ?_;clear m;intro u m;refine aA (aB) (aA (bM rfl rfl) (aA (bM rfl rfl) ?_));simp only[zz];refine aA (aD) (aA (aD) (aG (k12 _ _ ?_)));refine aF fun K13 k13=>aF fun K14 k14=>wp_region_lit (aA (aB) (aA (fN rfl) ?_));simp only[zz];refine aG (k14 _ _ ?_);refine eD rfl (fun hc3=>?_) (fun hc3=>?_)
    ·
     have hc3 : ¬ oJ (pJ mv.1 mv.2):=by simpa using hc3
     have hno:=Sd hmv hme hc3;refine aF fun K15 k15=>wp_region_lit (aA (aD) (aG (k15 _ _ ?_)));refine wp_ret ?_;simp only[zz];try simp only[Exit.inBlock,Exit.then,if_true]
     refine bS rfl rfl ?_;try simp only[zD,zE]
     exact ⟨_,rfl,_,by rw [hno];rfl,m.sel [false,false,false,true,true],fun n h=>by rw [hno] at h;cases h⟩
    ·
     have hc3 : oJ (pJ mv.1 mv.2):=by simpa using hc3
     have hme2:=Nh hmv hme hc3;refine wp_skip (k13 _ _ ?_);rw [Js,if_pos hc3];refine wp_region_lit (aA (aB) (aA (aB) (aA (dB rfl) (aA (aO (c:=0) iZ rfl bG rfl rfl) ?_))));simp only[zz];refine aL rfl ((m.b 3 rfl).lies1 bZ rfl) ?_;simp only[zz];refine aA (aB) (aA (ab0 rfl rfl (Sa _ _)) (aA (dB rfl) (aA (aO (c:=0) iZ rfl bG rfl rfl) ?_)));simp only[zz];refine Bz (off:=5) m 3 rfl rfl rfl bG (dX rfl) ⟨rfl,rfl⟩ ?_;clear m;intro u m;simp only[zz,zy,zx,bK,Nat.reduceAdd] at m;refine aG (k6 _ _ ?_);refine wp_region_lit (aA (aQ rfl rfl (aM (by omega) (by omega))) (aA (aB) (aG ?_)));simp only[zz];simp only[Exit.inBlock,Exit.then];refine ⟨N3 - (k + 1),_,?_,rfl,?_,?_⟩
     · omega
     · simp only[zz,zv]
     ·
      simp only[zQ,zR,zD,zE];exact ⟨k + 1,_,rfl,(m.sel [false,false,false,true,true]),hme2,by omega,rfl⟩
  ·
   have hkN : k = N3:=by omega
   rw [List.drop_of_length_le (by rw [hL3.len];omega)] at hme;refine wp_exit (k2 _ _ ?_);refine aF fun K16 k16=>wp_region_lit (aA (aD) (aG (k16 _ _ ?_)));refine wp_ret ?_;simp only[zz];try simp only[Exit.inBlock,Exit.then,if_true]
   refine bS rfl rfl ?_;try simp only[zD,zE]
   exact ⟨_,rfl,_,by rw [hme];rfl,m.sel [true,true],fun n h=>by rw [hme] at h;cases h;rfl⟩
end Go.Proofs.YtfohfflkhpfjeaaGreatDoor
namespace Go.Lith
section
variable {w0 w : World} {x y z : It} {is : List It}
theorem cF.pack1 (m : cF w0 w (x :: is)) : cF w0 w [x,Hx is]:=cF.pack [x] m
theorem cF.unpack2 (m : cF w0 w [x,y,Hx is]) : cF w0 w (x :: y :: is):=cF.unpack [x,y] m
theorem cF.pack3 (m : cF w0 w (x :: y :: z :: is)) : cF w0 w [x,y,z,Hx is]:=cF.pack [x,y,z] m
theorem cF.unpack3 (m : cF w0 w [x,y,z,Hx is]) : cF w0 w (x :: y :: z :: is):=cF.unpack [x,y,z] m
end
end Go.Lith
