/-
 Texts of one claim, laid together: V1, Cj, V2, Cmp, Grow2, SortPt, Maps1, W1, Bag, W2, Ent.
-/
import Derived.Shelf.SlLaysF0
import Derived.Test.YtfohfflkhpfjeaaGreatDoorProg
import Derived.Test.YtfohfflkhpfjeaaGreatDoorE3
set_option maxHeartbeats 8000000
set_option linter.unusedSimpArgs false
set_option linter.unusedVariables false
set_option linter.unusedSectionVars false
namespace Go.Proofs.YtfohfflkhpfjeaaGreatDoor
open Go.Proofs.Tryz
open Go.RowKit Go.Lith
abbrev zZ:=@underlying152
abbrev bX:=@underlying22
abbrev Ge:=@underlying5
set_option maxRecDepth 100000
attribute [local irreducible] wpList wpQuiet dY dO dN Code.wp
theorem abm {ms : List Mv} {k : Nat} {mv : Mv} {p : P3} (hm : ms[k]? = some mv) (h0 : qI ms p = qI (ms.drop k) p) (h : mv.1 = p) : qI ms p = mv.2:=by
 rw [h0,List.drop_eq_getElem_cons (List.getElem?_eq_some_iff.1 hm).1,(List.getElem?_eq_some_iff.1 hm).2,qI,if_pos h]
theorem Zf {ms : List Mv} {k : Nat} {mv : Mv} {p : P3} (hm : ms[k]? = some mv) (h0 : qI ms p = qI (ms.drop k) p) (h : ¬ mv.1 = p) : qI ms p = qI (ms.drop (k + 1)) p:=by
 rw [h0,List.drop_eq_getElem_cons (List.getElem?_eq_some_iff.1 hm).1,(List.getElem?_eq_some_iff.1 hm).2,qI,if_neg h]
theorem Zg {ts : List T3} {k : Nat} {t : T3} {p : P3} (ht : ts[k]? = some t) : oP (ts.take (k + 1)) p = (oP (ts.take k) p || t.has p):=lS ht
theorem abn {ts : List T3} {k : Nat} {t : T3} {p : P3} (ht : ts[k]? = some t) (h : t.has p = true) : oP ts p = true:=qN ht h
theorem Zh {ts : List T3} {k : Nat} {t : T3} {p q : P3} (ht : ts[k]? = some t) : mV (ts.take (k + 1)) p q = (mV (ts.take k) p q || (t.has p && t.has q)):=lS ht
theorem Ce (t : T3) (p : P3) : oP [t] p = t.has p:=by simp [oP]
theorem Zi {rim : List E3} {k : Nat} {e : E3} {p : P3} (he : rim[k]? = some e) : Bj (rim.take (k + 1)) p = (Bj (rim.take k) p || (decide (e.1 = p) || decide (e.2 = p))):=lS he
def Py (ts : List T3) (p q : P3) : Int:=match ts.findIdx? fun t=>(t.fnd p q).isSome with
 | some k=>(k : Int)
 | none=>-1
theorem Mn {p q : P3} : ∀ {ts : List T3},bP ts p q = none → Py ts p q = -1:=by
 intro ts h;have : ts.findIdx? (fun t=>(t.fnd p q).isSome) = none:=by
  rw [List.findIdx?_eq_none_iff];intro t ht
  induction ts with
  | nil=>cases ht
  | cons u us ih =>
   unfold bP at h;cases hu : u.fnd p q with
   | some x=>rw [hu] at h;cases h
   | none =>
    rw [hu] at h;rcases List.mem_cons.1 ht with rfl | ht
    · rw [hu];rfl
    · exact ih h ht
 rw [Py,this]
theorem xZ {p q x : P3} : ∀ {ts : List T3} {k : Nat} {t : T3},bP (ts.take k) p q = none → ts[k]? = some t → t.fnd p q = some x → Py ts p q = (k : Int):=by
 intro ts k t h ht hx;have key : ∀ (ts : List T3) (k : Nat),bP (ts.take k) p q = none → ts[k]? = some t → ts.findIdx? (fun t=>(t.fnd p q).isSome) = some k:=by
  intro ts
  induction ts with
  | nil=>intro k _ h;cases h
  | cons u us ih =>
   intro k h0 hk;cases k with
   | zero=>cases hk;rw [List.findIdx?_cons,hx];rfl
   | succ k =>
    rw [List.take_succ_cons] at h0;unfold bP at h0;cases hu : u.fnd p q with
    | some y=>rw [hu] at h0;cases h0
    | none =>
     rw [hu] at h0;rw [List.findIdx?_cons,hu,ih k h0 hk];rfl
 rw [Py,key ts k h ht]
theorem Ur (ts : List T3) (p q : P3) : (Py ts p q = -1 ∧ bP ts p q = none) ∨ ∃ (k : Nat) (t : T3) (x : P3),Py ts p q = (k : Int) ∧ ts[k]? = some t ∧ t.fnd p q = some x ∧ bP ts p q = some x:=by
 cases hb : bP ts p q with
 | none=>exact .inl ⟨Mn hb,rfl⟩
 | some x =>
  have key : ∀ us : List T3,bP us p q = some x → ∃ k t,bP (us.take k) p q = none ∧ us[k]? = some t ∧ t.fnd p q = some x:=by
   intro us
   induction us with
   | nil=>intro h;cases h
   | cons u us ih =>
    intro h;unfold bP at h;cases hu : u.fnd p q with
    | some y=>rw [hu] at h;cases h;exact ⟨0,u,rfl,rfl,hu⟩
    | none =>
     rw [hu] at h;obtain ⟨k,t,h1,h2,h3⟩:=ih h;exact ⟨k + 1,t,by rw [List.take_succ_cons,bP,hu];exact h1,h2,h3⟩
  obtain ⟨k,t,h1,h2,h3⟩:=key ts hb;exact .inr ⟨k,t,x,xZ h1 h2 h3,h2,h3,rfl⟩
theorem Jk {t : T3} {p q x : P3} (hd : pW t = false) (h : t.fnd p q = some x) : (t.cor 0 = p → x = t.cor 2) ∧ (t.cor 1 = p → x = t.cor 0) ∧ (t.cor 2 = p → x = t.cor 1) ∧ (t.cor 0 = p ∨ t.cor 1 = p ∨ t.cor 2 = p):=by
 obtain ⟨h1,h2,h3⟩:=afD hd;show (t.a = p → x = t.c) ∧ (t.b = p → x = t.a) ∧ (t.c = p → x = t.b) ∧ (t.a = p ∨ t.b = p ∨ t.c = p)
 unfold T3.fnd at h;split at h
 · rename_i k;cases h;exact ⟨fun _=>rfl,fun e=>absurd (k.1.trans e.symm) h1,fun e=>absurd (e.trans k.1.symm) h3,.inl k.1⟩
 ·
  split at h
  · rename_i k;cases h;exact ⟨fun e=>absurd (e.trans k.1.symm) h1,fun _=>rfl,fun e=>absurd (k.1.trans e.symm) h2,.inr (.inl k.1)⟩
  ·
   split at h
   · rename_i k;cases h;exact ⟨fun e=>absurd (k.1.trans e.symm) h3,fun e=>absurd (e.trans k.1.symm) h2,fun _=>rfl,.inr (.inr k.1)⟩
   · cases h
theorem Zj {ts : List T3} {p a : P3} {n : Nat} (h : bP ts p a = none) : sC ts p n a = a:=by
 cases n with
 | zero=>rfl
 | succ n=>simp only[sC,h]
theorem abo {ts : List T3} {p a x : P3} {n : Nat} (h : bP ts p a = some x) : sC ts p (n + 1) a = sC ts p n x:=by simp only[sC,h]
theorem tC {f c : List T3} {rim : List E3} {k : Nat} {t : T3} (ht : c[k]? = some t) : iV f (c.take (k + 1)) rim = (iV f (c.take k) rim || ((Bj rim t.a && Bj rim t.b && !mV f t.a t.b) || (Bj rim t.b && Bj rim t.c && !mV f t.b t.c) || (Bj rim t.c && Bj rim t.a && !mV f t.c t.a))):=by
 unfold iV;rw [jZ ht,List.any_append];simp [Bool.or_assoc]
theorem Aa {f c : List T3} {rim : List E3} {k : Nat} {t : T3} (ht : c[k]? = some t) (h : iV f (c.take (k + 1)) rim = true) : iV f c rim = true:=by
 unfold iV at h ⊢;obtain ⟨e,he,h⟩:=List.any_eq_true.1 h;refine List.any_eq_true.2 ⟨e,?_,h⟩;obtain ⟨u,hu,h2⟩:=List.mem_flatMap.1 he;exact List.mem_flatMap.2 ⟨u,List.mem_of_mem_take hu,h2⟩
theorem Us {f c : List T3} {rim : List E3} {k : Nat} {e : E3} (he : rim[k]? = some e) (h0 : nJ f c (rim.take k) = true) (h : sC f e.1 f.length e.2 = sC c e.1 c.length e.2) : nJ f c (rim.take (k + 1)) = true:=by
 unfold nJ at h0 ⊢;rw [dJ he,List.all_append,h0];simp [h]
theorem Ut {f c : List T3} {rim : List E3} {k : Nat} {e : E3} (he : rim[k]? = some e) (h : ¬ sC f e.1 f.length e.2 = sC c e.1 c.length e.2) : nJ f c rim = false:=by
 unfold nJ;rw [List.all_eq_false];exact ⟨e,List.mem_of_getElem? he,by simpa using h⟩
theorem Ep {ms : List Mv} {N cap : Nat} {A : Option Addr} {p : P3} (w : World) (hL : oU cB 6 w A N ms) (hN : N ≤ 1000000000) : eL prog 41 [.slice A N cap,pt p] w (fun v _=>v = pt (qI ms p)):=by
 refine ⟨aeH,?_⟩;have m:=cF.refl w
 go_enter func41,ntmps41
 refine aF fun K1 k1=>wp_region_lit (eP m rfl ?_);clear m;intro g1 u m;simp only[zz];refine bH m bU rfl ?_;clear m;intro g2 u m;refine aG (k1 _ _ ?_);refine aF fun K2 k2=>aF fun K3 k3=>wp_region_lit (aA (aD) (aG (k3 _ _ ?_)));refine wp_block ?_;simp only[zz];try simp only[Nat.zero_add,Nat.reduceAdd,Nat.reduceMul,Int.reduceToNat]
 refine bJ [5] [6,7,8,9,10,11,12,13,14,15,16,17,18,19,20,21,22,23] (fun n vs wl=>∃ (k : Nat),vs = [.int .i64 (k:Int)] ∧ cF w wl [bI g2 [.int .i64 0,.int .i64 0,.int .i64 0] 48,bI g1 (uC p) 48] ∧ (qI ms p = qI (ms.drop k) p) ∧ (k ≤ N) ∧ (n = N - k)) ?_ ?_
 ·
  apply Exists.intro;simp only[zQ,zR,zD,zE];exact ⟨0,rfl,m,rfl,Nat.zero_le _,rfl⟩
 ·
  intro n vs wr hI u;clear m;obtain ⟨k,rfl,m,hi,hk,hn⟩:=hI;simp only[zu,zF,zG];refine aF fun K4 k4=>aF fun K5 k5=>wp_region_lit (aA (aB) (aA (aB) (aA (bA rfl kJ rfl) (aA (cO rfl rfl) ?_))));simp only[zz];refine aG (k5 _ _ ?_);refine cC rfl (fun hc1=>?_) (fun hc1=>?_)
  ·
   obtain ⟨mv,hmv,a,rfl,hrow⟩:=hL.get (i:=k) (by omega);refine wp_skip (k4 _ _ ?_);refine aF fun K6 k6=>wp_block (aF fun K7 k7=>mq m aP (by kernel_rfl) (aI (aB) (aI (aB) ?_)));simp only[zz];refine aI (aK kJ fK rfl rfl (by omega) (by omega) (bY (Int.toNat_natCast _))) (aI (aO (c:=2) iY rfl aC rfl rfl) ?_);simp only[zz];refine ql rfl (fun u m=>((rD (hrow.ext m.ext)).lies aJ aC)) ?_;simp only[zz];refine ql rfl (fun u m=>((m.b 1 rfl).full aJ aC)) ?_;simp only[zz];refine aI (aW rfl rfl) (cP ?_);clear m;intro u m;refine k7 _ _ ?_;simp only[zz];refine cC rfl (fun hc2=>?_) (fun hc2=>?_)
   ·
    have hh:=abm hmv hi (gK.1 hc2);refine aF fun K8 k8=>wp_region_lit (aA (aB) (aA (aB) ?_));simp only[zz];refine aA (aK kJ fK rfl rfl (by omega) (by omega) (bY (Int.toNat_natCast _))) (aA (aO (c:=2) iY rfl aC rfl rfl) ?_);simp only[zz];refine aL rfl ((uO (hrow.ext m.ext)).lies aJ aC) ?_;simp only[zz];refine aT m 0 rfl rfl rfl aC (dX rfl) rfl ?_;clear m;intro u m;simp only[zy,zx,bK,zF,zG,Nat.reduceAdd] at m;refine aG (k8 _ _ ?_);refine wp_ret ?_;try simp only[Exit.inBlock,Exit.then,if_true]
    refine bS rfl ⟨_,rfl,((m.b 0 rfl).full aJ aC)⟩ ?_;try simp only[zD,zE]
    exact ⟨_,rfl,m.ext,by rw [hh];rfl⟩
   ·
    have hi2:=Zf hmv hi (mt gK.2 hc2);refine wp_skip (k6 _ _ ?_);refine wp_region_lit (aA (aB) ?_);simp only[zz];refine aA (aQ rfl rfl (aM (by omega) (by omega))) (aA (aD) (aG ?_));simp only[zz];simp only[Exit.inBlock,Exit.then];refine ⟨N - (k + 1),_,?_,rfl,?_,?_⟩
    · omega
    · simp only[zz,zv]
    ·
     simp only[zQ,zR,zD,zE];exact ⟨k + 1,rfl,m,hi2,by omega,rfl⟩
  ·
   have hkN : k = N:=by omega
   rw [hkN,show ms.drop N = [] from List.drop_of_length_le (by rw [hL.len];exact Nat.le_refl _)] at hi;refine wp_exit (k2 _ _ ?_);refine aF fun K9 k9=>wp_region_lit (aL rfl ((m.b 1 rfl).full aJ aC) ?_);simp only[zz];refine aT m 0 rfl rfl rfl aC (dX rfl) rfl ?_;clear m;intro u m;simp only[zy,zx,bK,zF,zG,Nat.reduceAdd] at m;refine aG (k9 _ _ ?_);refine wp_ret ?_;try simp only[Exit.inBlock,Exit.then,if_true]
   refine bS rfl ⟨_,rfl,((m.b 0 rfl).full aJ aC)⟩ ?_;try simp only[zD,zE]
   exact ⟨_,rfl,m.ext,by rw [hi];rfl⟩
theorem Er {ts : List T3} {N cap : Nat} {A : Option Addr} {p : P3} (w : World) (hT : oU bQ 9 w A N ts) (hN : N ≤ 1000000000) : eL prog 88 [.slice A N cap,pt p] w (fun v _=>v = .bool (oP ts p)):=by
 refine ⟨afq,?_⟩;have m:=cF.refl w
 go_enter func88,ntmps88
 refine aF fun K1 k1=>wp_region_lit (eP m rfl ?_);clear m;intro g1 u m;refine aA (aD) (aG (k1 _ _ ?_));refine aF fun K2 k2=>aF fun K3 k3=>wp_region_lit (aA (aD) (aG (k3 _ _ ?_)));refine wp_block ?_;simp only[zz];try simp only[Nat.zero_add,Nat.reduceAdd,Nat.reduceMul,Int.reduceToNat]
 refine bJ [5] [4,6,7,8,9,10,11,12,13,14,15,16,17,18,19,20,21,22,23,24,25,26,27,28,29,30,31,32,33,34,35,36] (fun n vs wl=>∃ (k : Nat),vs = [.int .i64 (k:Int)] ∧ cF w wl [bI g1 (uC p) 48] ∧ (oP (ts.take k) p = false) ∧ (k ≤ N) ∧ (n = N - k)) ?_ ?_
 ·
  apply Exists.intro;simp only[zQ,zR,zD,zE];exact ⟨0,rfl,m,rfl,Nat.zero_le _,rfl⟩
 ·
  intro n vs wr hI u;clear m;obtain ⟨k,rfl,m,h0,hk,hn⟩:=hI;simp only[zu,zF,zG];refine aF fun K4 k4=>aF fun K5 k5=>wp_region_lit (aA (aB) (aA (aB) (aA (bA rfl bV rfl) (aA (cO rfl rfl) ?_))));simp only[zz];refine aG (k5 _ _ ?_);refine cC rfl (fun hc1=>?_) (fun hc1=>?_)
  ·
   obtain ⟨t,ht,a,rfl,hrow⟩:=hT.get (i:=k) (by omega);refine wp_skip (k4 _ _ ?_);refine aF fun K6 k6=>wp_block (aF fun K7 k7=>mq m aP (by kernel_rfl) (aI (aB) (aI (aB) ?_)));simp only[zz];refine aI (aK bV aS rfl rfl (by omega) (by omega) (bY (Int.toNat_natCast _))) (aI (aH aY aC rfl rfl (by decide) (by decide) rfl) ?_);simp only[zz];refine ql rfl (fun u m=>((jL.cor (hrow.ext m.ext) (c:=0) (by omega)).lies aJ aC)) ?_;simp only[zz];refine ql rfl (fun u m=>((m.b 0 rfl).full aJ aC)) ?_;simp only[zz];refine aI (aW rfl rfl) (aI (aB) (dS rfl (fun hb=>aB) (dS rfl (fun hb=>aB) ?_)));simp only[zz];refine dS rfl (fun hb=>aK bV aS (bO hb rfl) (bO hb rfl) (by omega) (by omega) (bY (Int.toNat_natCast _))) (dS rfl (fun hb=>aH aY aC (bO hb rfl) rfl (by decide) (by decide) rfl) ?_);simp only[zz];refine gV rfl (fun hb u m=>cM (bO hb rfl) ((jL.cor (hrow.ext m.ext) (c:=1) (by omega)).lies aJ aC)) (gV rfl (fun hb u m=>cM rfl ((m.b 0 rfl).full aJ aC)) (dS rfl (fun hb=>aW (bO hb rfl) (bO hb rfl)) (aI (fQ rfl rfl rfl) (aI (aB) (dS rfl (fun hb=>aB) ?_)))));simp only[zz];refine dS rfl (fun hb=>aB) ?_;simp only[zz];refine dS rfl (fun hb=>aK bV aS (bO hb rfl) (bO hb rfl) (by omega) (by omega) (bY (Int.toNat_natCast _))) (dS rfl (fun hb=>aH aY aC (bO hb rfl) rfl (by decide) (by decide) rfl) ?_);simp only[zz];refine gV rfl (fun hb u m=>cM (bO hb rfl) ((jL.cor (hrow.ext m.ext) (c:=2) (by omega)).lies aJ aC)) (gV rfl (fun hb u m=>cM rfl ((m.b 0 rfl).full aJ aC)) (dS rfl (fun hb=>aW (bO hb rfl) (bO hb rfl)) (aI (fQ rfl rfl rfl) (cP ?_))));clear m;intro u m;refine k7 _ _ ?_;simp only[zz];refine eD rfl (fun hc2=>?_) (fun hc2=>?_)
   ·
    have hh : oP ts p = true:=abn ht (afF.symm.trans hc2);refine aF fun K8 k8=>wp_region_lit (aA (aD) (aG (k8 _ _ ?_)));refine wp_ret ?_;simp only[zz];try simp only[Exit.inBlock,Exit.then,if_true]
    refine bS rfl rfl ?_;try simp only[zD,zE]
    exact ⟨_,rfl,m.ext,by rw [hh]⟩
   ·
    have h1 : oP (ts.take (k + 1)) p = false:=by rw [Zg ht,h0];exact afF.symm.trans hc2
    refine wp_skip (k6 _ _ ?_);refine wp_region_lit (aA (aB) ?_);simp only[zz];refine aA (aQ rfl rfl (aM (by omega) (by omega))) (aA (aD) (aG ?_));simp only[zz];simp only[Exit.inBlock,Exit.then];refine ⟨N - (k + 1),_,?_,rfl,?_,?_⟩
    · omega
    · simp only[zz,zv]
    ·
     simp only[zQ,zR,zD,zE];exact ⟨k + 1,rfl,m,h1,by omega,rfl⟩
  ·
   have hkN : k = N:=by omega
   rw [hkN,show ts.take N = ts from List.take_of_length_le (by rw [hT.len];exact Nat.le_refl _)] at h0;refine wp_exit (k2 _ _ ?_);refine aF fun K9 k9=>wp_region_lit (aA (aD) (aG (k9 _ _ ?_)));refine wp_ret ?_;simp only[zz];try simp only[Exit.inBlock,Exit.then,if_true]
   refine bS rfl rfl ?_;try simp only[zD,zE]
   exact ⟨_,rfl,m.ext,by rw [h0]⟩
theorem wO {rim : List E3} {N cap : Nat} {A : Option Addr} {p : P3} (w : World) (hL : oU cB 6 w A N rim) (hN : N ≤ 1000000000) : eL prog 40 [.slice A N cap,pt p] w (fun v _=>v = .bool (Bj rim p)):=by
 refine ⟨aeG,?_⟩;have m:=cF.refl w
 go_enter func40,ntmps40
 refine aF fun K1 k1=>wp_region_lit (eP m rfl ?_);clear m;intro g1 u m;refine aA (aD) (aG (k1 _ _ ?_));refine aF fun K2 k2=>aF fun K3 k3=>wp_region_lit (aA (aD) (aG (k3 _ _ ?_)));refine wp_block ?_;simp only[zz];try simp only[Nat.zero_add,Nat.reduceAdd,Nat.reduceMul,Int.reduceToNat]
 refine bJ [5] [4,6,7,8,9,10,11,12,13,14,15,16,17,18,19,20,21,22,23,24,25,26,27] (fun n vs wl=>∃ (k : Nat),vs = [.int .i64 (k:Int)] ∧ cF w wl [bI g1 (uC p) 48] ∧ (Bj (rim.take k) p = false) ∧ (k ≤ N) ∧ (n = N - k)) ?_ ?_
 ·
  apply Exists.intro;simp only[zQ,zR,zD,zE];exact ⟨0,rfl,m,rfl,Nat.zero_le _,rfl⟩
 ·
  intro n vs wr hI u;clear m;obtain ⟨k,rfl,m,h0,hk,hn⟩:=hI;simp only[zu,zF,zG];refine aF fun K4 k4=>aF fun K5 k5=>wp_region_lit (aA (aB) (aA (aB) (aA (bA rfl eU rfl) (aA (cO rfl rfl) ?_))));simp only[zz];refine aG (k5 _ _ ?_);refine cC rfl (fun hc1=>?_) (fun hc1=>?_)
  ·
   obtain ⟨e,he,a,rfl,hrow⟩:=hL.get (i:=k) (by omega);refine wp_skip (k4 _ _ ?_);refine aF fun K6 k6=>wp_block (aF fun K7 k7=>mq m aP (by kernel_rfl) (aI (aB) (aI (aB) ?_)));simp only[zz];refine aI (aK eU cK rfl rfl (by omega) (by omega) (bY (Int.toNat_natCast _))) (aI (aH cH aC rfl rfl (by decide) (by decide) rfl) ?_);simp only[zz];refine ql rfl (fun u m=>((rD (hrow.ext m.ext)).lies aJ aC)) ?_;simp only[zz];refine ql rfl (fun u m=>((m.b 0 rfl).full aJ aC)) ?_;simp only[zz];refine aI (aW rfl rfl) (aI (aB) (dS rfl (fun hb=>aB) (dS rfl (fun hb=>aB) ?_)));simp only[zz];refine dS rfl (fun hb=>aK eU cK (bO hb rfl) (bO hb rfl) (by omega) (by omega) (bY (Int.toNat_natCast _))) (dS rfl (fun hb=>aH cH aC (bO hb rfl) rfl (by decide) (by decide) rfl) ?_);simp only[zz];refine gV rfl (fun hb u m=>cM (bO hb rfl) ((uO (hrow.ext m.ext)).lies aJ aC)) (gV rfl (fun hb u m=>cM rfl ((m.b 0 rfl).full aJ aC)) (dS rfl (fun hb=>aW (bO hb rfl) (bO hb rfl)) (aI (fQ rfl rfl rfl) (cP ?_))));clear m;intro u m;refine k7 _ _ ?_;simp only[zz];refine eD rfl (fun hc2=>?_) (fun hc2=>?_)
   ·
    have hh : Bj rim p = true:=qN he (afG.symm.trans hc2);refine aF fun K8 k8=>wp_region_lit (aA (aD) (aG (k8 _ _ ?_)));refine wp_ret ?_;simp only[zz];try simp only[Exit.inBlock,Exit.then,if_true]
    refine bS rfl rfl ?_;try simp only[zD,zE]
    exact ⟨_,rfl,m.ext,by rw [hh]⟩
   ·
    have h1 : Bj (rim.take (k + 1)) p = false:=by rw [Zi he,h0];exact afG.symm.trans hc2
    refine wp_skip (k6 _ _ ?_);refine wp_region_lit (aA (aB) ?_);simp only[zz];refine aA (aQ rfl rfl (aM (by omega) (by omega))) (aA (aD) (aG ?_));simp only[zz];simp only[Exit.inBlock,Exit.then];refine ⟨N - (k + 1),_,?_,rfl,?_,?_⟩
    · omega
    · simp only[zz,zv]
    ·
     simp only[zQ,zR,zD,zE];exact ⟨k + 1,rfl,m,h1,by omega,rfl⟩
  ·
   have hkN : k = N:=by omega
   rw [hkN,show rim.take N = rim from List.take_of_length_le (by rw [hL.len];exact Nat.le_refl _)] at h0;refine wp_exit (k2 _ _ ?_);refine aF fun K9 k9=>wp_region_lit (aA (aD) (aG (k9 _ _ ?_)));refine wp_ret ?_;simp only[zz];try simp only[Exit.inBlock,Exit.then,if_true]
   refine bS rfl rfl ?_;try simp only[zD,zE]
   exact ⟨_,rfl,m.ext,by rw [h0]⟩
theorem Cf {ts : List T3} {N cap : Nat} {A : Option Addr} {p q : P3} (w : World) (hT : oU bQ 9 w A N ts) (hN : N ≤ 1000000000) (hcap : N ≤ cap) : eL prog 86 [.slice A N cap,pt p,pt q] w (fun v _=>v = .bool (mV ts p q)):=by
 refine ⟨afo,?_⟩;have m:=cF.refl w
 go_enter func86,ntmps86
 refine aF fun K1 k1=>wp_region_lit (eP m rfl ?_);clear m;intro g1 u m;simp only[zz];refine eP m rfl ?_;clear m;intro g2 u m;refine aA (aD) (aG (k1 _ _ ?_));refine aF fun K2 k2=>aF fun K3 k3=>wp_region_lit (aA (aD) (aG (k3 _ _ ?_)));refine wp_block ?_;simp only[zz];try simp only[Nat.zero_add,Nat.reduceAdd,Nat.reduceMul,Int.reduceToNat]
 refine bJ [7] [6,8,9,10,11,12,13,14,15,16,17,18,19,20,21,22,23,24,25,26,27,28,29,30,31,32,33] (fun n vs wl=>∃ (k : Nat),vs = [.int .i64 (k:Int)] ∧ cF w wl [bI g2 (uC q) 48,bI g1 (uC p) 48] ∧ (mV (ts.take k) p q = false) ∧ (k ≤ N) ∧ (n = N - k)) ?_ ?_
 ·
  apply Exists.intro;simp only[zQ,zR,zD,zE];exact ⟨0,rfl,m,rfl,Nat.zero_le _,rfl⟩
 ·
  intro n vs wr hI u;clear m;obtain ⟨k,rfl,m,h0,hk,hn⟩:=hI;simp only[zu,zF,zG];refine aF fun K4 k4=>aF fun K5 k5=>wp_region_lit (aA (aB) (aA (aB) (aA (bA rfl bV rfl) (aA (cO rfl rfl) ?_))));simp only[zz];refine aG (k5 _ _ ?_);refine cC rfl (fun hc1=>?_) (fun hc1=>?_)
  ·
   obtain ⟨t,ht,a,rfl,hrow⟩:=hT.get (i:=k) (by omega);refine wp_skip (k4 _ _ ?_);refine aF fun K6 k6=>wp_block (aF fun K7 k7=>?_);refine mh m [true,true] [(0,true),(1,true),(2,true),(3,true),(4,true),(5,true),(6,false),(7,true)] aP (by kernel_rfl) (dL (fun _ _ _ _ _ h=>h)) (ol:=?_) ?hol ?_
   case hol=>simp only[zw,zQ,zR];try rfl
   clear m;intro u m;refine aZ (aB) (aZ (aB) (aZ (aB) ?_));simp only[zz];refine aZ (aQ rfl rfl (aM (by omega) (by omega))) ?_;simp only[zz];refine aZ (Ai bV aS rfl rfl rfl (show _ = k by omega) (show _ = k + 1 by omega) (by omega) (by omega) (by omega) (if_neg (by omega))) ?_;simp only[zz];refine cU rfl (fun u m=>((m.b 1 rfl).full aJ aC)) ?_;simp only[zz];refine cW ?_;rw [show k + 1 - k = 1 by omega];refine eQ m rfl rfl (Er (ts:=[t]) (p:=p) _ ((oU.one hrow).ext m.ext) (by decide)) ?_;clear m;rintro v u m rfl;refine aG (⟨m,?_⟩);refine aZ (aD) (dU (k7 _ _ ?_));refine aF fun K8 k8=>?_;simp only[zz];refine mh m [true,true] [(0,true),(1,true),(2,true),(3,true),(4,true),(5,true),(6,false),(7,true)] aP (by kernel_rfl) (dL (fun _ _ _ _ _ h=>h)) (ol:=?_) ?hol ?_
   case hol=>simp only[zw,zQ,zR];try rfl
   clear m;intro u m;refine aZ (aB) (aZ (aB) (aZ (aB) ?_));simp only[zz];refine aZ (aQ rfl rfl (aM (by omega) (by omega))) ?_;simp only[zz];refine aZ (Ai bV aS rfl rfl rfl (show _ = k by omega) (show _ = k + 1 by omega) (by omega) (by omega) (by omega) (if_neg (by omega))) ?_;simp only[zz];refine cU rfl (fun u m=>((m.b 0 rfl).full aJ aC)) ?_;simp only[zz];refine cW ?_;rw [show k + 1 - k = 1 by omega];refine eQ m rfl rfl (Er (ts:=[t]) (p:=q) _ ((oU.one hrow).ext m.ext) (by decide)) ?_;clear m;rintro v u m rfl;refine aG (⟨m,?_⟩);refine aZ (aD) (dU (k8 _ _ ?_));refine aF fun K9 k9=>wp_region_lit (aA (aB) (aA (aB) ?_));simp only[zz];refine dF rfl (fun hb=>aB) (aA (dC rfl rfl rfl) (aG (k9 _ _ ?_)));simp only[zz];refine eD rfl (fun hc2=>?_) (fun hc2=>?_)
   ·
    have hh : mV ts p q = true:=qN ht (by rw [Ce,Ce] at hc2;exact hc2);refine aF fun K10 k10=>wp_region_lit (aA (aD) (aG (k10 _ _ ?_)));refine wp_ret ?_;simp only[zz];try simp only[Exit.inBlock,Exit.then,if_true]
    refine bS rfl rfl ?_;try simp only[zD,zE]
    exact ⟨_,rfl,m.ext,by rw [hh]⟩
   ·
    have h1 : mV (ts.take (k + 1)) p q = false:=by rw [Zh ht,h0];rw [Ce,Ce] at hc2;exact hc2
    refine wp_skip (k6 _ _ ?_);refine wp_region_lit (aA (aB) ?_);simp only[zz];refine aA (aQ rfl rfl (aM (by omega) (by omega))) (aA (aD) (aG ?_));simp only[zz];simp only[Exit.inBlock,Exit.then];refine ⟨N - (k + 1),_,?_,rfl,?_,?_⟩
    · omega
    · simp only[zz,zv]
    ·
     simp only[zQ,zR,zD,zE];exact ⟨k + 1,rfl,m,h1,by omega,rfl⟩
  ·
   have hkN : k = N:=by omega
   rw [hkN,show ts.take N = ts from List.take_of_length_le (by rw [hT.len];exact Nat.le_refl _)] at h0;refine wp_exit (k2 _ _ ?_);refine aF fun K11 k11=>wp_region_lit (aA (aD) (aG (k11 _ _ ?_)));refine wp_ret ?_;simp only[zz];try simp only[Exit.inBlock,Exit.then,if_true]
   refine bS rfl rfl ?_;try simp only[zD,zE]
   exact ⟨_,rfl,m.ext,by rw [h0]⟩
theorem adl {ts : List T3} {N cap : Nat} {A : Option Addr} {p q : P3} (w : World) (hT : oU bQ 9 w A N ts) (hN : N ≤ 1000000000) : eL prog 39 [.slice A N cap,pt p,pt q] w (fun v _=>v = .int .i64 (Py ts p q)):=by
 refine ⟨aeF,?_⟩;have m:=cF.refl w
 go_enter func39,ntmps39
 refine aF fun K1 k1=>wp_region_lit (eP m rfl ?_);clear m;intro g1 u m;simp only[zz];refine eP m rfl ?_;clear m;intro g2 u m;refine aA (aD) (aG (k1 _ _ ?_));refine aF fun K2 k2=>aF fun K3 k3=>wp_region_lit (aA (aD) (aG (k3 _ _ ?_)));refine wp_block ?_;simp only[zz];try simp only[Nat.zero_add,Nat.reduceAdd,Nat.reduceMul,Int.reduceToNat]
 refine bJ [7] [6,8,9,10,11,12,13,14,15,16,17,18,19,20,21,22,23,24,25,26,27,28,29,30,31,32,33,34,35,36,37,38,39] (fun n vs wl=>∃ (k : Nat),vs = [.int .i64 (k:Int)] ∧ cF w wl [bI g2 (uC q) 48,bI g1 (uC p) 48] ∧ (bP (ts.take k) p q = none) ∧ (k ≤ N) ∧ (n = N - k)) ?_ ?_
 ·
  apply Exists.intro;simp only[zQ,zR,zD,zE];exact ⟨0,rfl,m,rfl,Nat.zero_le _,rfl⟩
 ·
  intro n vs wr hI u;clear m;obtain ⟨k,rfl,m,hb0,hk,hn⟩:=hI;simp only[zu,zF,zG];refine aF fun K4 k4=>aF fun K5 k5=>wp_region_lit (aA (aB) (aA (aB) (aA (bA rfl bV rfl) (aA (cO rfl rfl) ?_))));simp only[zz];refine aG (k5 _ _ ?_);refine cC rfl (fun hc1=>?_) (fun hc1=>?_)
  ·
   obtain ⟨t,ht,a,rfl,hrow⟩:=hT.get (i:=k) (by omega);refine wp_skip (k4 _ _ ?_);refine aF fun K6 k6=>wp_block (aF fun K7 k7=>wp_region_lit (aA (aD) (aG (k7 _ _ ?_))));refine wp_block (wp_loop_rounds 4 (dP (aF fun K8 k8=>aF fun K9 k9=>wp_region_lit (aA (aB) (aA (bW (m:=0) (n:=3) rfl rfl (by decide)) (aG (k9 _ _ ?_)))))));refine cQ rfl (wp_skip (k8 _ _ ?_));refine aF fun K10 k10=>wp_block (aF fun K11 k11=>?_);simp only[zz];refine mq m aP (by kernel_rfl) (aI (aB) (aI (aB) (aI (aB) ?_)));simp only[zz];refine aI (aK bV aS rfl rfl (by omega) (by omega) (bY (Int.toNat_natCast _))) (aI (aH aY aC rfl rfl (by decide) (by decide) rfl) ?_);simp only[zz];refine ql rfl (fun u m=>((jL.cor (hrow.ext m.ext) (c:=0) (by omega)).lies aJ aC)) ?_;simp only[zz];refine ql rfl (fun u m=>((m.b 1 rfl).full aJ aC)) ?_;simp only[zz];refine aI (aW rfl rfl) (aI (aB) (dH rfl (fun hb=>aB) (dH rfl (fun hb=>aB) ?_)));simp only[zz];refine dH rfl (fun hb=>aB) (dH rfl (fun hb=>aQ (m:=0) (n:=1) (r:=1) (bO hb rfl) rfl (by decide)) (dH rfl (fun hb=>cE (m:=1) (n:=3) (r:=1) (bO hb rfl) rfl (by decide) (by decide)) ?_));simp only[zz];refine dH rfl (fun hb=>aK bV aS (bO hb rfl) (bO hb rfl) (by omega) (by omega) (bY (Int.toNat_natCast _))) (dH rfl (fun hb=>aH aY aC (bO hb rfl) (bO hb rfl) (by decide) (by decide) rfl) ?_);simp only[zz];refine jY rfl (fun hb u m=>cM (bO hb rfl) ((jL.cor (hrow.ext m.ext) (c:=1) (by omega)).lies aJ aC)) (jY rfl (fun hb u m=>cM rfl ((m.b 0 rfl).full aJ aC)) (dH rfl (fun hb=>aW (bO hb rfl) (bO hb rfl)) (aI (dC rfl rfl rfl) (cP ?_))));clear m;intro u m;refine k11 _ _ ?_;simp only[zz];refine eD rfl (fun hc3=>?_) (fun hc3=>?_)
   ·
    have hf:=xZ hb0 ht (aeg  (sU.1 hc3));refine aF fun K12 k12=>wp_region_lit (aA (aB) (aA (aD) (aG (k12 _ _ ?_))));refine wp_ret ?_;simp only[zz];try simp only[Exit.inBlock,Exit.then,if_true]
    refine bS rfl rfl ?_;try simp only[zD,zE]
    exact ⟨_,rfl,m.ext,by rw [hf]⟩
   ·
    have hq0:=yT hc3;refine wp_skip (k10 _ _ ?_);refine wp_region_lit (aA (aB) (aA (aQ (m:=0) (n:=1) (r:=1) rfl rfl (by decide)) (aA (aD) (aG (aX (aF fun K13 k13=>aF fun K14 k14=>wp_region_lit (aA (aB) ?_)))))));simp only[zz];refine aA (bW (m:=1) (n:=3) rfl rfl (by decide)) (aG (k14 _ _ ?_));refine cQ rfl (wp_skip (k13 _ _ ?_));refine aF fun K15 k15=>wp_block (aF fun K16 k16=>?_);simp only[zz];refine mq m aP (by kernel_rfl) (aI (aB) (aI (aB) (aI (aB) ?_)));simp only[zz];refine aI (aK bV aS rfl rfl (by omega) (by omega) (bY (Int.toNat_natCast _))) (aI (aH aY aC rfl rfl (by decide) (by decide) rfl) ?_);simp only[zz];refine ql rfl (fun u m=>((jL.cor (hrow.ext m.ext) (c:=1) (by omega)).lies aJ aC)) ?_;simp only[zz];refine ql rfl (fun u m=>((m.b 1 rfl).full aJ aC)) ?_;simp only[zz];refine aI (aW rfl rfl) (aI (aB) (dH rfl (fun hb=>aB) (dH rfl (fun hb=>aB) ?_)));simp only[zz];refine dH rfl (fun hb=>aB) (dH rfl (fun hb=>aQ (m:=1) (n:=1) (r:=2) (bO hb rfl) rfl (by decide)) (dH rfl (fun hb=>cE (m:=2) (n:=3) (r:=2) (bO hb rfl) rfl (by decide) (by decide)) ?_));simp only[zz];refine dH rfl (fun hb=>aK bV aS (bO hb rfl) (bO hb rfl) (by omega) (by omega) (bY (Int.toNat_natCast _))) (dH rfl (fun hb=>aH aY aC (bO hb rfl) (bO hb rfl) (by decide) (by decide) rfl) ?_);simp only[zz];refine jY rfl (fun hb u m=>cM (bO hb rfl) ((jL.cor (hrow.ext m.ext) (c:=2) (by omega)).lies aJ aC)) (jY rfl (fun hb u m=>cM rfl ((m.b 0 rfl).full aJ aC)) (dH rfl (fun hb=>aW (bO hb rfl) (bO hb rfl)) (aI (dC rfl rfl rfl) (cP ?_))));clear m;intro u m;refine k16 _ _ ?_;simp only[zz];refine eD rfl (fun hc3=>?_) (fun hc3=>?_)
    ·
     have hf:=xZ hb0 ht (aeh hq0 (sU.1 hc3));refine aF fun K17 k17=>wp_region_lit (aA (aB) (aA (aD) (aG (k17 _ _ ?_))));refine wp_ret ?_;simp only[zz];try simp only[Exit.inBlock,Exit.then,if_true]
     refine bS rfl rfl ?_;try simp only[zD,zE]
     exact ⟨_,rfl,m.ext,by rw [hf]⟩
    ·
     have hq1:=yT hc3;refine wp_skip (k15 _ _ ?_);refine wp_region_lit (aA (aB) (aA (aQ (m:=1) (n:=1) (r:=2) rfl rfl (by decide)) (aA (aD) (aG (aX (aF fun K18 k18=>aF fun K19 k19=>wp_region_lit (aA (aB) ?_)))))));simp only[zz];refine aA (bW (m:=2) (n:=3) rfl rfl (by decide)) (aG (k19 _ _ ?_));refine cQ rfl (wp_skip (k18 _ _ ?_));refine aF fun K20 k20=>wp_block (aF fun K21 k21=>?_);simp only[zz];refine mq m aP (by kernel_rfl) (aI (aB) (aI (aB) (aI (aB) ?_)));simp only[zz];refine aI (aK bV aS rfl rfl (by omega) (by omega) (bY (Int.toNat_natCast _))) (aI (aH aY aC rfl rfl (by decide) (by decide) rfl) ?_);simp only[zz];refine ql rfl (fun u m=>((jL.cor (hrow.ext m.ext) (c:=2) (by omega)).lies aJ aC)) ?_;simp only[zz];refine ql rfl (fun u m=>((m.b 1 rfl).full aJ aC)) ?_;simp only[zz];refine aI (aW rfl rfl) (aI (aB) (dH rfl (fun hb=>aB) (dH rfl (fun hb=>aB) ?_)));simp only[zz];refine dH rfl (fun hb=>aB) (dH rfl (fun hb=>aQ (m:=2) (n:=1) (r:=3) (bO hb rfl) rfl (by decide)) (dH rfl (fun hb=>cE (m:=3) (n:=3) (r:=0) (bO hb rfl) rfl (by decide) (by decide)) ?_));simp only[zz];refine dH rfl (fun hb=>aK bV aS (bO hb rfl) (bO hb rfl) (by omega) (by omega) (bY (Int.toNat_natCast _))) (dH rfl (fun hb=>aH aY aC (bO hb rfl) (bO hb rfl) (by decide) (by decide) rfl) ?_);simp only[zz];refine jY rfl (fun hb u m=>cM (bO hb rfl) ((jL.cor (hrow.ext m.ext) (c:=0) (by omega)).lies aJ aC)) (jY rfl (fun hb u m=>cM rfl ((m.b 0 rfl).full aJ aC)) (dH rfl (fun hb=>aW (bO hb rfl) (bO hb rfl)) (aI (dC rfl rfl rfl) (cP ?_))));clear m;intro u m;refine k21 _ _ ?_;simp only[zz];refine eD rfl (fun hc3=>?_) (fun hc3=>?_)
     ·
      have hf:=xZ hb0 ht (aei hq0 hq1 (sU.1 hc3));refine aF fun K22 k22=>wp_region_lit (aA (aB) (aA (aD) (aG (k22 _ _ ?_))));refine wp_ret ?_;simp only[zz];try simp only[Exit.inBlock,Exit.then,if_true]
      refine bS rfl rfl ?_;try simp only[zD,zE]
      exact ⟨_,rfl,m.ext,by rw [hf]⟩
     ·
      have hq2:=yT hc3;refine wp_skip (k20 _ _ ?_);refine wp_region_lit (aA (aB) (aA (aQ (m:=2) (n:=1) (r:=3) rfl rfl (by decide)) (aA (aD) (aG (aX (aF fun K23 k23=>aF fun K24 k24=>wp_region_lit (aA (aB) ?_)))))));simp only[zz];refine aA (eM (m:=3) (n:=3) rfl rfl (by decide)) (aG (k24 _ _ ?_));refine iD rfl (wp_exit (k6 _ _ ?_));refine wp_region_lit (aA (aB) ?_);simp only[zz];refine aA (aQ rfl rfl (aM (by omega) (by omega))) (aA (aD) (aG ?_));simp only[zz];simp only[Exit.inBlock,Exit.then];refine ⟨N - (k + 1),_,?_,rfl,?_,?_⟩
      · omega
      · simp only[zz,zv]
      ·
       simp only[zQ,zR,zD,zE];exact ⟨k + 1,rfl,m,(oM ht hb0).trans (aej hq0 hq1 hq2),by omega,rfl⟩
  ·
   have hkN : k = N:=by omega
   rw [hkN,show ts.take N = ts from List.take_of_length_le (by rw [hT.len];exact Nat.le_refl _)] at hb0;refine wp_exit (k2 _ _ ?_);refine aF fun K25 k25=>wp_region_lit (aA (aD) (aG (k25 _ _ ?_)));refine wp_ret ?_;simp only[zz];try simp only[Exit.inBlock,Exit.then,if_true]
   refine bS rfl rfl ?_;try simp only[zD,zE]
   exact ⟨_,rfl,m.ext,by rw [Mn hb0]⟩
theorem Zk {ts : List T3} {N cap : Nat} {A : Option Addr} {p a0 : P3} (w : World) (hT : oU bQ 9 w A N ts) (hN : N ≤ 1000000000) (hd : Az ts) : eL prog 87 [.slice A N cap,pt p,pt a0] w (fun v _=>v = pt (sC ts p ts.length a0)):=by
 refine ⟨afp,?_⟩;have m:=cF.refl w;obtain rfl : ts.length = N:=hT.len
 go_enter func87,ntmps87
 refine aF fun K1 k1=>wp_region_lit (eP m rfl ?_);clear m;intro g1 u m;simp only[zz];refine eP m rfl ?_;clear m;intro g2 u m;simp only[zz];refine bH m bU rfl ?_;clear m;intro g3 u m;refine aG (k1 _ _ ?_);refine aF fun K2 k2=>aF fun K3 k3=>wp_region_lit (aA (aD) (aG (k3 _ _ ?_)));refine wp_block ?_;simp only[zz];try simp only[Nat.zero_add,Nat.reduceAdd,Nat.reduceMul,Int.reduceToNat]
 refine bJ [7] [8,9,10,11,12,13,14,15,16,17,18,19,20,21,22,23,24,25,26,27,28,29,30,31,32,33,34,35,36,37,38,39,40,41,42] (fun n vs wl=>∃ (i : Nat) (a : P3),vs = [.int .i64 (i:Int)] ∧ cF w wl [bI g3 [.int .i64 0,.int .i64 0,.int .i64 0] 48,bI g2 (uC a) 48,bI g1 (uC p) 48] ∧ (sC ts p ts.length a0 = sC ts p (ts.length - i) a) ∧ (i ≤ ts.length) ∧ (n = ts.length - i)) ?_ ?_
 ·
  apply Exists.intro;simp only[zQ,zR,zD,zE];exact ⟨0,a0,rfl,m,rfl,Nat.zero_le _,rfl⟩
 ·
  intro n vs wr hI u;clear m;obtain ⟨i,a,rfl,m,he,hi,hn⟩:=hI;simp only[zu,zF,zG];refine aF fun K4 k4=>aF fun K5 k5=>wp_region_lit (aA (aB) (aA (aB) (aA (bA rfl bV rfl) (aA (cO rfl rfl) ?_))));simp only[zz];refine aG (k5 _ _ ?_);refine cC rfl (fun hc1=>?_) (fun hc1=>?_)
  ·
   refine wp_skip (k4 _ _ ?_);refine aF fun K6 k6=>wp_block (aF fun K7 k7=>wp_region_lit (aA (aB) ?_));simp only[zz];refine aL rfl ((m.b 2 rfl).full aJ aC) ?_;simp only[zz];refine aL rfl ((m.b 1 rfl).full aJ aC) ?_;simp only[zz];refine eQ m rfl rfl (adl (p:=p) (q:=a) _ (hT.ext m.ext) hN) ?_;clear m;rintro v u m rfl;refine aA (aD) (aG (k7 _ _ ?_));refine aF fun K8 k8=>aF fun K9 k9=>?_;simp only[zz];obtain ⟨ho,hbn⟩ | ⟨q,t,x,ho,ht,hfx,hbx⟩:=Ur ts p a
   ·
    rw [ho];refine wp_region_lit (aA (aB) ?_);simp only[zz];refine aA (bW rfl rfl (by omega)) (aG (k9 _ _ ?_));refine cQ rfl (aF fun K10 k10=>wp_region_lit ?_);simp only[zz];refine aL rfl ((m.b 1 rfl).full aJ aC) ?_;simp only[zz];refine aT m 0 rfl rfl rfl aC (dX rfl) rfl ?_;clear m;intro u m;simp only[zy,zx,bK,zF,zG,Nat.reduceAdd] at m;refine aG (k10 _ _ ?_);refine wp_ret ?_;try simp only[Exit.inBlock,Exit.then,if_true]
    refine bS rfl ⟨_,rfl,((m.b 0 rfl).full aJ aC)⟩ ?_;try simp only[zD,zE]
    exact ⟨_,rfl,m.ext,by rw [he,Zj hbn];rfl⟩
   ·
    rw [ho];obtain ⟨t2,ht2,ad,rfl,hrow⟩:=hT.get (i:=q) (List.getElem?_eq_some_iff.1 ht).1;obtain rfl:=Option.some.inj (ht.symm.trans ht2);have hf:=Jk (hd t (List.mem_of_getElem? ht)) hfx;have hql:=(List.getElem?_eq_some_iff.1 ht).1;obtain ⟨f,hf2⟩ : ∃ f,ts.length - i = f + 1:=⟨ts.length - i - 1,by omega⟩
    rw [hf2,abo hbx] at he;refine wp_region_lit (aA (aB) ?_);simp only[zz];refine aA (eM rfl rfl (by omega)) (aG (k9 _ _ ?_));refine iD rfl (wp_skip (k8 _ _ ?_));refine aF fun K11 k11=>wp_region_lit (aA (aD) (aG (k11 _ _ ?_)));refine wp_block (wp_loop_rounds 4 (dP (aF fun K12 k12=>aF fun K13 k13=>wp_region_lit (aA (aB) (aA (bW (m:=0) (n:=3) rfl rfl (by decide)) ?_)))));simp only[zz];refine aG (k13 _ _ ?_);refine cQ rfl (wp_skip (k12 _ _ ?_));refine aF fun K14 k14=>wp_block (aF fun K15 k15=>mq m aP (by kernel_rfl) (aI (aB) (aI (aB) (aI (aB) ?_))));simp only[zz];refine aI (aK bV aS rfl rfl (by omega) (by omega) (bY (Int.toNat_natCast _))) (aI (aH aY aC rfl rfl (by decide) (by decide) rfl) ?_);simp only[zz];refine ql rfl (fun u m=>((jL.cor (hrow.ext m.ext) (c:=0) (by omega)).lies aJ aC)) ?_;simp only[zz];refine ql rfl (fun u m=>((m.b 2 rfl).full aJ aC)) ?_;simp only[zz];refine aI (aW rfl rfl) (cP ?_);clear m;intro u m;refine k15 _ _ ?_;simp only[zz];refine cC rfl (fun hc4=>?_) (fun hc4=>?_)
    ·
     have hx2 : x = t.cor 2:=hf.1 (gK.1 hc4);refine aF fun K16 k16=>wp_region_lit (aA (aB) (aA (aB) (aA (aB) (aA (aQ (m:=0) (n:=2) (r:=2) rfl rfl (by decide)) ?_))));simp only[zz];refine aA (cE (m:=2) (n:=3) (r:=2) rfl rfl (by decide) (by decide)) ?_;simp only[zz];refine aA (aK bV aS rfl rfl (by omega) (by omega) (bY (Int.toNat_natCast _))) (aA (aH aY aC rfl rfl (by decide) (by decide) rfl) ?_);simp only[zz];refine aL rfl ((jL.cor (hrow.ext m.ext) (c:=2) (by omega)).lies aJ aC) ?_;simp only[zz];refine aT m 1 rfl rfl rfl aC (dX rfl) rfl ?_;clear m;intro u m;simp only[zy,zx,bK,zF,zG,Nat.reduceAdd] at m;refine aG (k16 _ _ ?_);refine wp_exit (k6 _ _ ?_);refine wp_region_lit (aA (aB) ?_);simp only[zz];refine aA (aQ rfl rfl (aM (by omega) (by omega))) (aA (aD) (aG ?_));simp only[zz];rw [← hx2] at m;simp only[Exit.inBlock,Exit.then];refine ⟨ts.length - (i + 1),_,?_,rfl,?_,?_⟩
     · omega
     · simp only[zz,zv]
     ·
      simp only[zQ,zR,zD,zE];exact ⟨i + 1,x,rfl,m,by rw [he,show ts.length - (i + 1) = f by omega],by omega,rfl⟩
    ·
     have hq0 : ¬ t.cor 0 = p:=mt gK.2 hc4;refine wp_skip (k14 _ _ ?_);refine wp_region_lit (aA (aB) (aA (aQ (m:=0) (n:=1) (r:=1) rfl rfl (by decide)) (aA (aD) (aG (aX (aF fun K17 k17=>aF fun K18 k18=>wp_region_lit (aA (aB) ?_)))))));simp only[zz];refine aA (bW (m:=1) (n:=3) rfl rfl (by decide)) (aG (k18 _ _ ?_));refine cQ rfl (wp_skip (k17 _ _ ?_));refine aF fun K19 k19=>wp_block (aF fun K20 k20=>?_);simp only[zz];refine mq m aP (by kernel_rfl) (aI (aB) (aI (aB) (aI (aB) ?_)));simp only[zz];refine aI (aK bV aS rfl rfl (by omega) (by omega) (bY (Int.toNat_natCast _))) (aI (aH aY aC rfl rfl (by decide) (by decide) rfl) ?_);simp only[zz];refine ql rfl (fun u m=>((jL.cor (hrow.ext m.ext) (c:=1) (by omega)).lies aJ aC)) ?_;simp only[zz];refine ql rfl (fun u m=>((m.b 2 rfl).full aJ aC)) ?_;simp only[zz];refine aI (aW rfl rfl) (cP ?_);clear m;intro u m;refine k20 _ _ ?_;simp only[zz];refine cC rfl (fun hc4=>?_) (fun hc4=>?_)
     ·
      have hx2 : x = t.cor 0:=hf.2.1 (gK.1 hc4);refine aF fun K21 k21=>wp_region_lit (aA (aB) (aA (aB) (aA (aB) (aA (aQ (m:=1) (n:=2) (r:=3) rfl rfl (by decide)) ?_))));simp only[zz];refine aA (cE (m:=3) (n:=3) (r:=0) rfl rfl (by decide) (by decide)) ?_;simp only[zz];refine aA (aK bV aS rfl rfl (by omega) (by omega) (bY (Int.toNat_natCast _))) (aA (aH aY aC rfl rfl (by decide) (by decide) rfl) ?_);simp only[zz];refine aL rfl ((jL.cor (hrow.ext m.ext) (c:=0) (by omega)).lies aJ aC) ?_;simp only[zz];refine aT m 1 rfl rfl rfl aC (dX rfl) rfl ?_;clear m;intro u m;simp only[zy,zx,bK,zF,zG,Nat.reduceAdd] at m;refine aG (k21 _ _ ?_);refine wp_exit (k6 _ _ ?_);refine wp_region_lit (aA (aB) ?_);simp only[zz];refine aA (aQ rfl rfl (aM (by omega) (by omega))) (aA (aD) (aG ?_));simp only[zz];rw [← hx2] at m;simp only[Exit.inBlock,Exit.then];refine ⟨ts.length - (i + 1),_,?_,rfl,?_,?_⟩
      · omega
      · simp only[zz,zv]
      ·
       simp only[zQ,zR,zD,zE];exact ⟨i + 1,x,rfl,m,by rw [he,show ts.length - (i + 1) = f by omega],by omega,rfl⟩
     ·
      have hq1 : ¬ t.cor 1 = p:=mt gK.2 hc4;refine wp_skip (k19 _ _ ?_);refine wp_region_lit (aA (aB) (aA (aQ (m:=1) (n:=1) (r:=2) rfl rfl (by decide)) (aA (aD) (aG (aX (aF fun K22 k22=>aF fun K23 k23=>wp_region_lit (aA (aB) ?_)))))));simp only[zz];refine aA (bW (m:=2) (n:=3) rfl rfl (by decide)) (aG (k23 _ _ ?_));refine cQ rfl (wp_skip (k22 _ _ ?_));refine aF fun K24 k24=>wp_block (aF fun K25 k25=>?_);simp only[zz];refine mq m aP (by kernel_rfl) (aI (aB) (aI (aB) (aI (aB) ?_)));simp only[zz];refine aI (aK bV aS rfl rfl (by omega) (by omega) (bY (Int.toNat_natCast _))) (aI (aH aY aC rfl rfl (by decide) (by decide) rfl) ?_);simp only[zz];refine ql rfl (fun u m=>((jL.cor (hrow.ext m.ext) (c:=2) (by omega)).lies aJ aC)) ?_;simp only[zz];refine ql rfl (fun u m=>((m.b 2 rfl).full aJ aC)) ?_;simp only[zz];refine aI (aW rfl rfl) (cP ?_);clear m;intro u m;refine k25 _ _ ?_;simp only[zz];refine cC rfl (fun hc4=>?_) (fun hc4=>?_)
      ·
       have hx2 : x = t.cor 1:=hf.2.2.1 (gK.1 hc4);refine aF fun K26 k26=>wp_region_lit (aA (aB) (aA (aB) (aA (aB) (aA (aQ (m:=2) (n:=2) (r:=4) rfl rfl (by decide)) ?_))));simp only[zz];refine aA (cE (m:=4) (n:=3) (r:=1) rfl rfl (by decide) (by decide)) ?_;simp only[zz];refine aA (aK bV aS rfl rfl (by omega) (by omega) (bY (Int.toNat_natCast _))) (aA (aH aY aC rfl rfl (by decide) (by decide) rfl) ?_);simp only[zz];refine aL rfl ((jL.cor (hrow.ext m.ext) (c:=1) (by omega)).lies aJ aC) ?_;simp only[zz];refine aT m 1 rfl rfl rfl aC (dX rfl) rfl ?_;clear m;intro u m;simp only[zy,zx,bK,zF,zG,Nat.reduceAdd] at m;refine aG (k26 _ _ ?_);refine wp_exit (k6 _ _ ?_);refine wp_region_lit (aA (aB) ?_);simp only[zz];refine aA (aQ rfl rfl (aM (by omega) (by omega))) (aA (aD) (aG ?_));simp only[zz];rw [← hx2] at m;simp only[Exit.inBlock,Exit.then];refine ⟨ts.length - (i + 1),_,?_,rfl,?_,?_⟩
       · omega
       · simp only[zz,zv]
       ·
        simp only[zQ,zR,zD,zE];exact ⟨i + 1,x,rfl,m,by rw [he,show ts.length - (i + 1) = f by omega],by omega,rfl⟩
      ·
       have hq2 : ¬ t.cor 2 = p:=mt gK.2 hc4;exact (hf.2.2.2.elim hq0 fun h=>h.elim hq1 hq2).elim
  ·
   have hi0 : ts.length - i = 0:=by omega
   rw [hi0] at he;refine wp_exit (k2 _ _ ?_);refine aF fun K27 k27=>wp_region_lit (aL rfl ((m.b 1 rfl).full aJ aC) ?_);simp only[zz];refine aT m 0 rfl rfl rfl aC (dX rfl) rfl ?_;clear m;intro u m;simp only[zy,zx,bK,zF,zG,Nat.reduceAdd] at m;refine aG (k27 _ _ ?_);refine wp_ret ?_;try simp only[Exit.inBlock,Exit.then,if_true]
   refine bS rfl ⟨_,rfl,((m.b 0 rfl).full aJ aC)⟩ ?_;try simp only[zD,zE]
   exact ⟨_,rfl,m.ext,by rw [he];rfl⟩
theorem abp {fs gs : List T3} {rim : List E3} {N cap N2 cap2 N3 cap3 : Nat} {A A2 A3 : Option Addr} (w : World) (hT : oU bQ 9 w A N fs) (hT2 : oU bQ 9 w A2 N2 gs) (hL : oU cB 6 w A3 N3 rim) (hN : N ≤ 1000000000) (hN2 : N2 ≤ 1000000000) (hN3 : N3 ≤ 1000000000) (hd : Az fs) (hd2 : Az gs) : eL prog 45 [.slice A N cap,.slice A2 N2 cap2,.slice A3 N3 cap3] w (fun v _=>v = .bool (nJ fs gs rim)):=by
 refine ⟨aeL,?_⟩;have m:=cF.refl w
 go_enter func45,ntmps45
 refine aF fun K1 k1=>wp_region_lit (aA (aD) (aG (k1 _ _ ?_)));refine aF fun K2 k2=>aF fun K3 k3=>wp_region_lit (aA (aD) (aG (k3 _ _ ?_)));refine wp_block ?_;simp only[zz];try simp only[Nat.zero_add,Nat.reduceAdd,Nat.reduceMul,Int.reduceToNat]
 refine bJ [7] [6,8,9,10,11,12,13,14,15,16,17,18,19,20,21,22,23,24,25,26,27,28,29,30,31,32,33,34,35,36,37,38] (fun n vs wl=>∃ (k : Nat),vs = [.int .i64 (k:Int)] ∧ cF w wl [] ∧ (nJ fs gs (rim.take k) = true) ∧ (k ≤ N3) ∧ (n = N3 - k)) ?_ ?_
 ·
  apply Exists.intro;simp only[zQ,zR,zD,zE];exact ⟨0,rfl,m,rfl,Nat.zero_le _,rfl⟩
 ·
  intro n vs wr hI u;clear m;obtain ⟨k,rfl,m,h0,hk,hn⟩:=hI;simp only[zu,zF,zG];refine aF fun K4 k4=>aF fun K5 k5=>wp_region_lit (aA (aB) (aA (aB) (aA (bA rfl eU rfl) (aA (cO rfl rfl) ?_))));simp only[zz];refine aG (k5 _ _ ?_);refine cC rfl (fun hc1=>?_) (fun hc1=>?_)
  ·
   obtain ⟨e,he,a,rfl,hrow⟩:=hL.get (i:=k) (by omega);refine wp_skip (k4 _ _ ?_);refine aF fun K6 k6=>wp_block (aF fun K7 k7=>?_);refine mh m [] [(0,true),(1,true),(2,true),(3,true),(4,true),(6,true),(7,true),(8,true),(9,true),(12,true),(13,true),(14,true),(15,true),(16,true),(18,true),(19,true),(20,true),(21,true),(5,true),(10,true),(17,true),(22,true),(11,false),(23,false),(24,true)] aP (by kernel_rfl) (dL (fun _ _ _ _ _ h=>h)) (ol:=?_) ?hol ?_
   case hol=>simp only[zw,zQ,zR];try rfl
   clear m;intro u m;refine aZ (aB) (aZ (aB) (aZ (aB) ?_));simp only[zz];refine aZ (aK eU cK rfl rfl (by omega) (by omega) (bY (Int.toNat_natCast _))) (aZ (aH cH aC rfl rfl (by decide) (by decide) rfl) (aZ (aB) (aZ (aB) ?_)));simp only[zz];refine aZ (aK eU cK rfl rfl (by omega) (by omega) (bY (Int.toNat_natCast _))) (aZ (aH cH aC rfl rfl (by decide) (by decide) rfl) (aZ (aB) (aZ (aB) ?_)));simp only[zz];refine aZ (aB) ?_;simp only[zz];refine aZ (aK eU cK rfl rfl (by omega) (by omega) (bY (Int.toNat_natCast _))) (aZ (aH cH aC rfl rfl (by decide) (by decide) rfl) (aZ (aB) (aZ (aB) ?_)));simp only[zz];refine aZ (aK eU cK rfl rfl (by omega) (by omega) (bY (Int.toNat_natCast _))) (aZ (aH cH aC rfl rfl (by decide) (by decide) rfl) ?_);simp only[zz];refine cU rfl (fun u m=>((rD (hrow.ext m.ext)).lies aJ aC)) ?_;simp only[zz];refine cU rfl (fun u m=>((uO (hrow.ext m.ext)).lies aJ aC)) ?_;simp only[zz];refine cU rfl (fun u m=>((rD (hrow.ext m.ext)).lies aJ aC)) ?_;simp only[zz];refine cU rfl (fun u m=>((uO (hrow.ext m.ext)).lies aJ aC)) ?_;simp only[zz];refine cW (eQ m rfl rfl (Zk (p:=e.1) (a0:=e.2) _ (hT.ext m.ext) (by omega) hd) ?_);clear m;rintro v u m rfl;refine aG (⟨m,?_⟩);refine cW ?_;simp only[zz];refine eQ m rfl rfl (Zk (p:=e.1) (a0:=e.2) _ (hT2.ext m.ext) (by omega) hd2) ?_;clear m;rintro v u m rfl;refine aG (⟨m,?_⟩);refine aZ (fW rfl rfl) (dU (k7 _ _ ?_));simp only[zz];refine cC rfl (fun hc2=>?_) (fun hc2=>?_)
   ·
    have hh:=Ut he (mt gK.2 hc2);refine aF fun K8 k8=>wp_region_lit (aA (aD) (aG (k8 _ _ ?_)));refine wp_ret ?_;simp only[zz];try simp only[Exit.inBlock,Exit.then,if_true]
    refine bS rfl rfl ?_;try simp only[zD,zE]
    exact ⟨_,rfl,m.ext,by rw [hh]⟩
   ·
    have h1:=Us he h0 (gK.1 (Classical.not_not.1 hc2));refine wp_skip (k6 _ _ ?_);refine wp_region_lit (aA (aB) ?_);simp only[zz];refine aA (aQ rfl rfl (aM (by omega) (by omega))) (aA (aD) (aG ?_));simp only[zz];simp only[Exit.inBlock,Exit.then];refine ⟨N3 - (k + 1),_,?_,rfl,?_,?_⟩
    · omega
    · simp only[zz,zv]
    ·
     simp only[zQ,zR,zD,zE];exact ⟨k + 1,rfl,m,h1,by omega,rfl⟩
  ·
   have hkN : k = N3:=by omega
   rw [hkN,show rim.take N3 = rim from List.take_of_length_le (by rw [hL.len];exact Nat.le_refl _)] at h0;refine wp_exit (k2 _ _ ?_);refine aF fun K9 k9=>wp_region_lit (aA (aD) (aG (k9 _ _ ?_)));refine wp_ret ?_;simp only[zz];try simp only[Exit.inBlock,Exit.then,if_true]
   refine bS rfl rfl ?_;try simp only[zD,zE]
   exact ⟨_,rfl,m.ext,by rw [h0]⟩
theorem Zl {fs gs : List T3} {rim : List E3} {N cap N2 cap2 N3 cap3 : Nat} {A A2 A3 : Option Addr} (w : World) (hT : oU bQ 9 w A N fs) (hT2 : oU bQ 9 w A2 N2 gs) (hL : oU cB 6 w A3 N3 rim) (hN : N ≤ 1000000000) (hN2 : N2 ≤ 1000000000) (hN3 : N3 ≤ 1000000000) (hcap : N ≤ cap) : eL prog 44 [.slice A N cap,.slice A2 N2 cap2,.slice A3 N3 cap3] w (fun v _=>v = .bool (iV fs gs rim)):=by
 refine ⟨aeK,?_⟩;have m:=cF.refl w
 go_enter func44,ntmps44
 refine aF fun K1 k1=>wp_region_lit (aA (aD) (aG (k1 _ _ ?_)));refine aF fun K2 k2=>aF fun K3 k3=>wp_region_lit (aA (aD) (aG (k3 _ _ ?_)));refine wp_block ?_;simp only[zz];try simp only[Nat.zero_add,Nat.reduceAdd,Nat.reduceMul,Int.reduceToNat]
 refine bJ [7] [6,8,9,10,11,12,13,14,15,16,17,18,19,20,21,22,23,24,25,26,27,28,29,30,31,32,33,34,35,36,37,38,39,40,41,42,43,44,45,46,47,48,49,50,51] (fun n vs wl=>∃ (k : Nat),vs = [.int .i64 (k:Int)] ∧ cF w wl [] ∧ (iV fs (gs.take k) rim = false) ∧ (k ≤ N2) ∧ (n = N2 - k)) ?_ ?_
 ·
  apply Exists.intro;simp only[zQ,zR,zD,zE];exact ⟨0,rfl,m,rfl,Nat.zero_le _,rfl⟩
 ·
  intro n vs wr hI u;clear m;obtain ⟨k,rfl,m,h0,hk,hn⟩:=hI;simp only[zu,zF,zG];refine aF fun K4 k4=>aF fun K5 k5=>wp_region_lit (aA (aB) (aA (aB) (aA (bA rfl bV rfl) (aA (cO rfl rfl) ?_))));simp only[zz];refine aG (k5 _ _ ?_);refine cC rfl (fun hc1=>?_) (fun hc1=>?_)
  ·
   obtain ⟨t,ht,a,rfl,hrow⟩:=hT2.get (i:=k) (by omega);refine wp_skip (k4 _ _ ?_);refine aF fun K6 k6=>wp_block (aF fun K7 k7=>wp_region_lit (aA (aD) (aG (k7 _ _ ?_))));refine wp_block (wp_loop_rounds 4 (dP (aF fun K8 k8=>aF fun K9 k9=>wp_region_lit (aA (aB) (aA (bW (m:=0) (n:=3) rfl rfl (by decide)) (aG (k9 _ _ ?_)))))));refine cQ rfl (wp_skip (k8 _ _ ?_));refine aF fun K10 k10=>wp_block (aF fun K11 k11=>wp_region_lit (aA (aB) ?_));simp only[zz];refine aA (aB) (aA (aB) ?_);simp only[zz];refine aA (aK bV aS rfl rfl (by omega) (by omega) (bY (Int.toNat_natCast _))) (aA (aH aY aC rfl rfl (by decide) (by decide) rfl) ?_);simp only[zz];refine aL rfl ((jL.cor (hrow.ext m.ext) (c:=0) (by omega)).lies aJ aC) ?_;simp only[zz];refine bH m bU rfl ?_;clear m;intro g1 u m;simp only[zz];refine aT m 0 rfl rfl rfl aC (dX rfl) rfl ?_;clear m;intro u m;simp only[zy,zx,bK,zF,zG,Nat.reduceAdd] at m;refine aG (k11 _ _ ?_);refine aF fun K12 k12=>wp_region_lit (aA (aB) (aA (aB) (aA (aB) (aA (aQ (m:=0) (n:=1) (r:=1) rfl rfl (by decide)) ?_))));simp only[zz];refine aA (cE (m:=1) (n:=3) (r:=1) rfl rfl (by decide) (by decide)) ?_;simp only[zz];refine aA (aK bV aS rfl rfl (by omega) (by omega) (bY (Int.toNat_natCast _))) (aA (aH aY aC rfl rfl (by decide) (by decide) rfl) ?_);simp only[zz];refine aL rfl ((jL.cor (hrow.ext m.ext) (c:=1) (by omega)).lies aJ aC) ?_;simp only[zz];refine bH m bU rfl ?_;clear m;intro g2 u m;simp only[zz];refine aT m 0 rfl rfl rfl aC (dX rfl) rfl ?_;clear m;intro u m;simp only[zy,zx,bK,zF,zG,Nat.reduceAdd] at m;refine aG (k12 _ _ ?_);refine aF fun K13 k13=>wp_region_lit (aA (aB) ?_);simp only[zz];refine aL rfl ((m.b 1 rfl).full aJ aC) ?_;simp only[zz];refine eQ m rfl rfl (wO (p:=t.a) _ (hL.ext m.ext) (by omega)) ?_;clear m;rintro v u m rfl;refine aA (aB) (dF rfl (fun hb=>aB) ?_);simp only[zz];refine eC rfl (fun hb=>cM rfl ((m.b 0 rfl).full aJ aC)) (tB m rfl rfl (fun hb=>by simp only[List.toList_toArray,List.map_cons,List.map_nil,zA,zB,zC,zD,zE,hb,pA];rfl) (fun hb=>wO (p:=t.b) _ (hL.ext m.ext) (by omega)) ?_);clear m;intro u m;refine aA (dC rfl rfl rfl) (aA (aD) (aG (k13 _ _ ?_)));refine aF fun K14 k14=>wp_region_lit (aA (aB) ?_);simp only[zz];refine aA (aB) (dF rfl (fun hb=>aB) ?_);simp only[zz];refine eC rfl (fun hb=>cM rfl ((m.b 1 rfl).full aJ aC)) (eC rfl (fun hb=>cM rfl ((m.b 0 rfl).full aJ aC)) (tB m rfl rfl (fun hb=>by simp only[List.toList_toArray,List.map_cons,List.map_nil,zA,zB,zC,zD,zE,hb,pA];rfl) (fun hb=>Cf (p:=t.a) (q:=t.b) _ (hT.ext m.ext) (by omega) hcap) ?_));clear m;intro u m;refine dF rfl (fun hb=>fN (bO hb rfl)) (aA (dC rfl rfl rfl) (aG (k14 _ _ ?_)));simp only[zz];refine eD rfl (fun hc3=>?_) (fun hc3=>?_)
   ·
    have hh : iV fs gs rim = true:=Aa ht (by rw [tC ht,hc3];simp);refine aF fun K15 k15=>wp_region_lit (aA (aD) (aG (k15 _ _ ?_)));refine wp_ret ?_;simp only[zz];try simp only[Exit.inBlock,Exit.then,if_true]
    refine bS rfl rfl ?_;try simp only[zD,zE]
    exact ⟨_,rfl,m.ext,by rw [hh]⟩
   ·
    have hj0:=hc3;refine wp_skip (k10 _ _ ?_);refine wp_region_lit (aA (aB) (aA (aQ (m:=0) (n:=1) (r:=1) rfl rfl (by decide)) (aA (aD) (aG (aX (aF fun K16 k16=>aF fun K17 k17=>wp_region_lit (aA (aB) ?_)))))));simp only[zz];refine aA (bW (m:=1) (n:=3) rfl rfl (by decide)) (aG (k17 _ _ ?_));refine cQ rfl (wp_skip (k16 _ _ ?_));refine aF fun K18 k18=>wp_block (aF fun K19 k19=>wp_region_lit (aA (aB) (aA (aB) (aA (aB) ?_))));simp only[zz];refine aA (aK bV aS rfl rfl (by omega) (by omega) (bY (Int.toNat_natCast _))) (aA (aH aY aC rfl rfl (by decide) (by decide) rfl) ?_);simp only[zz];refine aL rfl ((jL.cor (hrow.ext m.ext) (c:=1) (by omega)).lies aJ aC) ?_;simp only[zz];refine bH m bU rfl ?_;clear m;intro g3 u m;simp only[zz];refine aT m 0 rfl rfl rfl aC (dX rfl) rfl ?_;clear m;intro u m;simp only[zy,zx,bK,zF,zG,Nat.reduceAdd] at m;refine aG (k19 _ _ ?_);refine aF fun K20 k20=>wp_region_lit (aA (aB) (aA (aB) (aA (aB) (aA (aQ (m:=1) (n:=1) (r:=2) rfl rfl (by decide)) ?_))));simp only[zz];refine aA (cE (m:=2) (n:=3) (r:=2) rfl rfl (by decide) (by decide)) ?_;simp only[zz];refine aA (aK bV aS rfl rfl (by omega) (by omega) (bY (Int.toNat_natCast _))) (aA (aH aY aC rfl rfl (by decide) (by decide) rfl) ?_);simp only[zz];refine aL rfl ((jL.cor (hrow.ext m.ext) (c:=2) (by omega)).lies aJ aC) ?_;simp only[zz];refine bH m bU rfl ?_;clear m;intro g4 u m;simp only[zz];refine aT m 0 rfl rfl rfl aC (dX rfl) rfl ?_;clear m;intro u m;simp only[zy,zx,bK,zF,zG,Nat.reduceAdd] at m;refine aG (k20 _ _ ?_);refine aF fun K21 k21=>wp_region_lit (aA (aB) ?_);simp only[zz];refine aL rfl ((m.b 1 rfl).full aJ aC) ?_;simp only[zz];refine eQ m rfl rfl (wO (p:=t.b) _ (hL.ext m.ext) (by omega)) ?_;clear m;rintro v u m rfl;refine aA (aB) (dF rfl (fun hb=>aB) ?_);simp only[zz];refine eC rfl (fun hb=>cM rfl ((m.b 0 rfl).full aJ aC)) (tB m rfl rfl (fun hb=>by simp only[List.toList_toArray,List.map_cons,List.map_nil,zA,zB,zC,zD,zE,hb,pA];rfl) (fun hb=>wO (p:=t.c) _ (hL.ext m.ext) (by omega)) ?_);clear m;intro u m;refine aA (dC rfl rfl rfl) (aA (aD) (aG (k21 _ _ ?_)));refine aF fun K22 k22=>wp_region_lit (aA (aB) ?_);simp only[zz];refine aA (aB) (dF rfl (fun hb=>aB) ?_);simp only[zz];refine eC rfl (fun hb=>cM rfl ((m.b 1 rfl).full aJ aC)) (eC rfl (fun hb=>cM rfl ((m.b 0 rfl).full aJ aC)) (tB m rfl rfl (fun hb=>by simp only[List.toList_toArray,List.map_cons,List.map_nil,zA,zB,zC,zD,zE,hb,pA];rfl) (fun hb=>Cf (p:=t.b) (q:=t.c) _ (hT.ext m.ext) (by omega) hcap) ?_));clear m;intro u m;refine dF rfl (fun hb=>fN (bO hb rfl)) (aA (dC rfl rfl rfl) (aG (k22 _ _ ?_)));simp only[zz];refine eD rfl (fun hc3=>?_) (fun hc3=>?_)
    ·
     have hh : iV fs gs rim = true:=Aa ht (by rw [tC ht,hj0,hc3];simp);refine aF fun K23 k23=>wp_region_lit (aA (aD) (aG (k23 _ _ ?_)));refine wp_ret ?_;simp only[zz];try simp only[Exit.inBlock,Exit.then,if_true]
     refine bS rfl rfl ?_;try simp only[zD,zE]
     exact ⟨_,rfl,m.ext,by rw [hh]⟩
    ·
     have hj1:=hc3;refine wp_skip (k18 _ _ ?_);refine wp_region_lit (aA (aB) (aA (aQ (m:=1) (n:=1) (r:=2) rfl rfl (by decide)) (aA (aD) (aG (aX (aF fun K24 k24=>aF fun K25 k25=>wp_region_lit (aA (aB) ?_)))))));simp only[zz];refine aA (bW (m:=2) (n:=3) rfl rfl (by decide)) (aG (k25 _ _ ?_));refine cQ rfl (wp_skip (k24 _ _ ?_));refine aF fun K26 k26=>wp_block (aF fun K27 k27=>wp_region_lit (aA (aB) (aA (aB) (aA (aB) ?_))));simp only[zz];refine aA (aK bV aS rfl rfl (by omega) (by omega) (bY (Int.toNat_natCast _))) (aA (aH aY aC rfl rfl (by decide) (by decide) rfl) ?_);simp only[zz];refine aL rfl ((jL.cor (hrow.ext m.ext) (c:=2) (by omega)).lies aJ aC) ?_;simp only[zz];refine bH m bU rfl ?_;clear m;intro g5 u m;simp only[zz];refine aT m 0 rfl rfl rfl aC (dX rfl) rfl ?_;clear m;intro u m;simp only[zy,zx,bK,zF,zG,Nat.reduceAdd] at m;refine aG (k27 _ _ ?_);refine aF fun K28 k28=>wp_region_lit (aA (aB) (aA (aB) (aA (aB) (aA (aQ (m:=2) (n:=1) (r:=3) rfl rfl (by decide)) ?_))));simp only[zz];refine aA (cE (m:=3) (n:=3) (r:=0) rfl rfl (by decide) (by decide)) ?_;simp only[zz];refine aA (aK bV aS rfl rfl (by omega) (by omega) (bY (Int.toNat_natCast _))) (aA (aH aY aC rfl rfl (by decide) (by decide) rfl) ?_);simp only[zz];refine aL rfl ((jL.cor (hrow.ext m.ext) (c:=0) (by omega)).lies aJ aC) ?_;simp only[zz];refine bH m bU rfl ?_;clear m;intro g6 u m;simp only[zz];refine aT m 0 rfl rfl rfl aC (dX rfl) rfl ?_;clear m;intro u m;simp only[zy,zx,bK,zF,zG,Nat.reduceAdd] at m;refine aG (k28 _ _ ?_);refine aF fun K29 k29=>wp_region_lit (aA (aB) ?_);simp only[zz];refine aL rfl ((m.b 1 rfl).full aJ aC) ?_;simp only[zz];refine eQ m rfl rfl (wO (p:=t.c) _ (hL.ext m.ext) (by omega)) ?_;clear m;rintro v u m rfl;refine aA (aB) (dF rfl (fun hb=>aB) ?_);simp only[zz];refine eC rfl (fun hb=>cM rfl ((m.b 0 rfl).full aJ aC)) (tB m rfl rfl (fun hb=>by simp only[List.toList_toArray,List.map_cons,List.map_nil,zA,zB,zC,zD,zE,hb,pA];rfl) (fun hb=>wO (p:=t.a) _ (hL.ext m.ext) (by omega)) ?_);clear m;intro u m;refine aA (dC rfl rfl rfl) (aA (aD) (aG (k29 _ _ ?_)));refine aF fun K30 k30=>wp_region_lit (aA (aB) ?_);simp only[zz];refine aA (aB) (dF rfl (fun hb=>aB) ?_);simp only[zz];refine eC rfl (fun hb=>cM rfl ((m.b 1 rfl).full aJ aC)) (eC rfl (fun hb=>cM rfl ((m.b 0 rfl).full aJ aC)) (tB m rfl rfl (fun hb=>by simp only[List.toList_toArray,List.map_cons,List.map_nil,zA,zB,zC,zD,zE,hb,pA];rfl) (fun hb=>Cf (p:=t.c) (q:=t.a) _ (hT.ext m.ext) (by omega) hcap) ?_));clear m;intro u m;refine dF rfl (fun hb=>fN (bO hb rfl)) (aA (dC rfl rfl rfl) (aG (k30 _ _ ?_)));simp only[zz];refine eD rfl (fun hc3=>?_) (fun hc3=>?_)
     ·
      have hh : iV fs gs rim = true:=Aa ht (by rw [tC ht,hj0,hj1,hc3];simp);refine aF fun K31 k31=>wp_region_lit (aA (aD) (aG (k31 _ _ ?_)));refine wp_ret ?_;simp only[zz];try simp only[Exit.inBlock,Exit.then,if_true]
      refine bS rfl rfl ?_;try simp only[zD,zE]
      exact ⟨_,rfl,m.ext,by rw [hh]⟩
     ·
      have hj2:=hc3;refine wp_skip (k26 _ _ ?_);refine wp_region_lit (aA (aB) (aA (aQ (m:=2) (n:=1) (r:=3) rfl rfl (by decide)) (aA (aD) (aG (aX (aF fun K32 k32=>aF fun K33 k33=>wp_region_lit (aA (aB) ?_)))))));simp only[zz];refine aA (eM (m:=3) (n:=3) rfl rfl (by decide)) (aG (k33 _ _ ?_));refine iD rfl (wp_exit (k6 _ _ ?_));refine wp_region_lit (aA (aB) ?_);simp only[zz];refine aA (aQ rfl rfl (aM (by omega) (by omega))) (aA (aD) (aG ?_));simp only[zz];simp only[Exit.inBlock,Exit.then];refine ⟨N2 - (k + 1),_,?_,rfl,?_,?_⟩
      · omega
      · simp only[zz,zv]
      ·
       simp only[zQ,zR,zD,zE];exact ⟨k + 1,rfl,(m.sel [false,false,false,false,false,false]),by rw [tC ht,h0,hj0,hj1,hj2];rfl,by omega,rfl⟩
  ·
   have hkN : k = N2:=by omega
   rw [hkN,show gs.take N2 = gs from List.take_of_length_le (by rw [hT2.len];exact Nat.le_refl _)] at h0;refine wp_exit (k2 _ _ ?_);refine aF fun K34 k34=>wp_region_lit (aA (aD) (aG (k34 _ _ ?_)));refine wp_ret ?_;simp only[zz];try simp only[Exit.inBlock,Exit.then,if_true]
   refine bS rfl rfl ?_;try simp only[zD,zE]
   exact ⟨_,rfl,m.ext,by rw [h0]⟩
end Go.Proofs.YtfohfflkhpfjeaaGreatDoor
namespace Go.Lith
open Go.RowKit
section
variable {P : Program} {ds : List Deferred} {l : List Value}
theorem Rp {c : Code} {Q : Exit → Act → World → Prop} {w : World} (ts ss : List Nat) (J : List Value → World → Prop)
 (hc : c.wp P (Exit.then (fun a' w'=>∃ l',a' = Fr l' ds ∧ pS (gM l ts (ts.map (l'.getD · undef))) ss (l'.getD · undef) = l' ∧ J (ts.map (l'.getD · undef)) w') Q) (Fr l ds) w)
 (hn : ∀ vs u,J vs u → ∀ g : Nat → Value,Q .normal (Fr (pS (gM l ts vs) ss g) ds) u) : c.wp P Q (Fr l ds) w:=by
 refine Code.wp_mono ?_ hc;intro e a w' h;cases e with
 | normal =>
  obtain ⟨l',rfl,he,hJ⟩:=h;rw [← he];exact hn _ _ hJ _
 | exit id=>exact h
 | goto id=>exact h
 | ret=>exact h
 | panic ch=>exact h
 | outgrown=>exact h
theorem tD {c : Code} {Q : Exit → Act → World → Prop} {w0 w : World} {is : List It} (m : cF w0 w is) (ts ss : List Nat) (J : List Value → Prop)
 (hc : c.wp P (Exit.then (fun a' w'=>∃ l',a' = Fr l' ds ∧ pS (gM l ts (ts.map (l'.getD · undef))) ss (l'.getD · undef) = l' ∧ cF w0 w' is ∧ J (ts.map (l'.getD · undef))) Q) (Fr l ds) w)
 (hn : ∀ vs u,cF w0 u is → J vs → ∀ g : Nat → Value,Q .normal (Fr (pS (gM l ts vs) ss g) ds) u) : c.wp P Q (Fr l ds) w :=
 Rp ts ss (fun vs w'=>cF w0 w' is ∧ J vs) hc fun vs u h g=>hn vs u h.1 h.2 g
theorem oD {c : Code} {Q : Exit → Act → World → Prop} {w0 w : World} {is : List It} (m : cF w0 w is) (k : Nat) (ts ss : List Nat) (J : List Value → It → Prop)
 (hc : c.wp P (Exit.then (fun a' w'=>∃ l' i,a' = Fr l' ds ∧ pS (gM l ts (ts.map (l'.getD · undef))) ss (l'.getD · undef) = l' ∧ cF w0 w' (is.set k i) ∧ J (ts.map (l'.getD · undef)) i) Q) (Fr l ds) w)
 (hn : ∀ vs i u,cF w0 u (is.set k i) → J vs i → ∀ g : Nat → Value,Q .normal (Fr (pS (gM l ts vs) ss g) ds) u) : c.wp P Q (Fr l ds) w:=by
 refine Rp ts ss (fun vs w'=>∃ i,cF w0 w' (is.set k i) ∧ J vs i) (Code.wp_mono ?_ hc) fun vs u h g=>?_
 · intro e a w' h
   cases e with
   | normal=>obtain ⟨l',i,h1,h2,h3,h4⟩:=h;exact ⟨l',h1,h2,i,h3,h4⟩
   | exit id=>exact h
   | goto id=>exact h
   | ret=>exact h
   | panic ch=>exact h
   | outgrown=>exact h
 · obtain ⟨i,h1,h2⟩:=h
   exact hn vs i u h1 h2 g
end
end Go.Lith
namespace Go.Proofs.YtfohfflkhpfjeaaGreatDoor
open Go.Proofs.Tryz
open Go.RowKit Go.Lith
set_option maxRecDepth 100000
attribute [local irreducible] wpList wpQuiet dY dO dN Code.wp
theorem Uu {f c : List T3} {ms : List Mv} {rim : List E3} {i : Nat} {m : Mv} (hm : ms[i]? = some m) (h : nK f c ms rim i m = false) : lK f c ms rim = false:=by
 cases hh : lK f c ms rim with
 | false=>rfl
 | true=>rw [qD.1 hh i m hm] at h;cases h
theorem adm {ms : List Mv} {q : Nat} {mu : Mv} {p : P3} {b : Bool} (h : ms[q]? = some mu) : ((b && (ms.take q).all fun x=>decide (x.1 ≠ p)) && decide (¬ (mu.1.x = p.x ∧ mu.1.y = p.y ∧ mu.1.z = p.z))) = (b && (ms.take (q + 1)).all fun x=>decide (x.1 ≠ p)):=by
 rw [dJ h,List.all_append,Bool.and_assoc];simp only[gK,List.all_cons,List.all_nil,Bool.and_true,ne_eq]
theorem abq {ms : List Mv} {p : P3} {b : Bool} : b = (b && (ms.take 0).all fun x=>decide (x.1 ≠ p)):=by simp
theorem afH {r f t s : Bool} (h : (((!r || !f) || !t) || s) = true) : (r && f && t && !s) = false:=by revert h;cases r <;> cases f <;> cases t <;> cases s <;> decide
theorem afI {r f t s : Bool} (h : (((!r || !f) || !t) || s) = false) : (r && f && t && !s) = true:=by revert h;cases r <;> cases f <;> cases t <;> cases s <;> decide
theorem adn {ms : List Mv} {mv mw : Mv} {j : Nat} (h : ms[j]? = some mw) : decide (mw.1.Lt mv.1) = (decide (j + 1 = 0) || (ms[j + 1 - 1]?).any fun x=>decide (x.1.Lt mv.1)):=by
 rw [Nat.add_sub_cancel,h];simp
theorem Zm {x y : T3} : (x.a.x = y.a.x ∧ x.a.y = y.a.y ∧ x.a.z = y.a.z ∧ x.b.x = y.b.x ∧ x.b.y = y.b.y ∧ x.b.z = y.b.z ∧ x.c.x = y.c.x ∧ x.c.y = y.c.y ∧ x.c.z = y.c.z) ↔ x = y :=
 ⟨fun ⟨h1,h2,h3,h4,h5,h6,h7,h8,h9⟩=>Pr (P3.eq h1 h2 h3) (P3.eq h4 h5 h6) (P3.eq h7 h8 h9),fun h=>by rw [h];exact ⟨rfl,rfl,rfl,rfl,rfl,rfl,rfl,rfl,rfl⟩⟩
theorem agk {t : T3} {x y z : Bool} (hx : x = decide (t.b.Lt t.a)) (hy : y = decide (t.c.Lt t.a)) (hz : z = decide (t.c.Lt t.b)) (h : (y && (z || !x)) = true) : eS t = ⟨t.c,t.a,t.b⟩:=by
 subst hx;subst hy;subst hz;simp only[Bool.and_eq_true,decide_eq_true_eq,Bool.or_eq_true,Bool.not_eq_true',decide_eq_false_iff_not] at h;exact if_pos h
theorem afJ {t : T3} {x y z : Bool} (hx : x = decide (t.b.Lt t.a)) (hy : y = decide (t.c.Lt t.a)) (hz : z = decide (t.c.Lt t.b)) (h : (y && (z || !x)) = false) (h1 : x = true) : eS t = ⟨t.b,t.c,t.a⟩:=by
 subst hx;subst hy;subst hz;have h2 : ¬ (t.c.Lt t.a ∧ (t.c.Lt t.b ∨ ¬ t.b.Lt t.a)):=fun k=>by
  rw [decide_eq_true k.1,Bool.true_and] at h;rcases k.2 with k2 | k2
  · rw [decide_eq_true k2] at h;cases h
  · exact k2 (of_decide_eq_true h1)
 rw [eS,if_neg h2,if_pos (of_decide_eq_true h1)]
theorem afK {t : T3} {x y z : Bool} (hx : x = decide (t.b.Lt t.a)) (hy : y = decide (t.c.Lt t.a)) (hz : z = decide (t.c.Lt t.b)) (h : (y && (z || !x)) = false) (h1 : x = false) : eS t = t:=by
 subst hx;subst hy;subst hz;have h3:=of_decide_eq_false h1;have h2 : ¬ (t.c.Lt t.a ∧ (t.c.Lt t.b ∨ ¬ t.b.Lt t.a)):=fun k=>by
  rw [decide_eq_true k.1,h1] at h;simp at h
 rw [eS,if_neg h2,if_neg h3]
/-! ### How often a triangle is hit -/
def cV (ms : List Mv) (fs : List T3) (i : Nat) (u : T3) : Value:=.int .i64 ((nL ms (fs.take i) u : Nat) : Int)
def tN (ms : List Mv) (fs gs : List T3) (i q : Nat) : List Value:=(gs.take q).map (cV ms fs (i + 1)) ++ (gs.drop q).map (cV ms fs i)
theorem afL {ms : List Mv} {fs gs : List T3} {i : Nat} : gs.map (cV ms fs i) = tN ms fs gs i 0:=rfl
theorem abr {ms : List Mv} {fs gs : List T3} {i q : Nat} : (tN ms fs gs i q).length = gs.length:=by simp [tN];omega
theorem abt {ms : List Mv} {fs gs : List T3} {i q : Nat} (h : q = gs.length) : tN ms fs gs i q = gs.map (cV ms fs (i + 1)):=by subst h;simp [tN]
theorem abu {ms : List Mv} {fs gs : List T3} {i q : Nat} {u : T3} (h : gs[q]? = some u) : (tN ms fs gs i q)[q]? = some (cV ms fs i u):=by
 have hl:=(List.getElem?_eq_some_iff.1 h).1;rw [tN,List.getElem?_append_right (by simp;omega),List.length_map,List.length_take,Nat.min_eq_left (by omega),Nat.sub_self,List.getElem?_map,List.getElem?_drop,Nat.add_zero,h];rfl
theorem Ab {ms : List Mv} {fs : List T3} {i : Nat} {t u : T3} (ht : fs[i]? = some t) : nL ms (fs.take (i + 1)) u = nL ms (fs.take i) u + if (t.img ms).nd = true ∧ eS u = eS (t.img ms) then 1 else 0:=by
 unfold nL;rw [dJ ht,List.filter_append,List.length_append];by_cases h : (t.img ms).nd = true ∧ eS u = eS (t.img ms)
 · rw [if_pos h];simp [h]
 ·
  rw [if_neg h];have : ((t.img ms).nd && decide (eS u = eS (t.img ms))) = false:=by
   cases hn : (t.img ms).nd with
   | false=>rfl
   | true=>rw [decide_eq_false (fun k=>h ⟨hn,k⟩)];rfl
  simp [this]
theorem abv (ms : List Mv) (fs : List T3) (u : T3) : nL ms fs u ≤ fs.length:=List.length_filter_le _ _
theorem Zn {ms : List Mv} {fs gs : List T3} {i q : Nat} {u : T3} (h : gs[q]? = some u) (v : Value) : bK (tN ms fs gs i q) q [v] = (gs.take q).map (cV ms fs (i + 1)) ++ v :: (gs.drop (q + 1)).map (cV ms fs i):=by
 have hl:=(List.getElem?_eq_some_iff.1 h).1;have e : tN ms fs gs i q = (gs.take q).map (cV ms fs (i + 1)) ++ cV ms fs i u :: (gs.drop (q + 1)).map (cV ms fs i):=by
  rw [tN,List.drop_eq_getElem_cons hl,(List.getElem?_eq_some_iff.1 h).2];rfl
 have hk : ((gs.take q).map (cV ms fs (i + 1))).length = q:=by simp;omega
 rw [bK,e,List.take_left' hk,← List.drop_drop,List.drop_left' hk];simp
theorem abw {ms : List Mv} {fs gs : List T3} {i q : Nat} {t u : T3} (ht : fs[i]? = some t) (hn : (t.img ms).nd = true) (h : gs[q]? = some u) (hr : eS u = eS (t.img ms)) : bK (tN ms fs gs i q) q [.int .i64 (((nL ms (fs.take i) u : Nat) : Int) + 1)] = tN ms fs gs i (q + 1):=by
 rw [Zn h,tN,dJ h,List.map_append,List.append_assoc];have : cV ms fs (i + 1) u = .int .i64 (((nL ms (fs.take i) u : Nat) : Int) + 1):=by
  rw [cV,Ab ht,if_pos ⟨hn,hr⟩];rfl
 simp [this]
theorem ado {ms : List Mv} {fs gs : List T3} {i q : Nat} {t u : T3} (ht : fs[i]? = some t) (h : gs[q]? = some u) (hr : ¬ eS u = eS (t.img ms)) : tN ms fs gs i (q + 1) = tN ms fs gs i q:=by
 have hl:=(List.getElem?_eq_some_iff.1 h).1;have : cV ms fs (i + 1) u = cV ms fs i u:=by rw [cV,Ab ht,if_neg (fun k=>hr k.2)];rfl
 rw [tN,tN,dJ h,List.map_append,List.append_assoc,List.drop_eq_getElem_cons hl,(List.getElem?_eq_some_iff.1 h).2];simp [this]
theorem Zo {ms : List Mv} {fs gs : List T3} {i : Nat} {t : T3} (ht : fs[i]? = some t) (hn : (t.img ms).nd = false) : gs.map (cV ms fs (i + 1)) = gs.map (cV ms fs i) :=
 List.map_congr_left fun u _=>by rw [cV,Ab ht,if_neg (fun k=>by rw [hn] at k;cases k.1)];rfl
theorem afM {ms : List Mv} {fs gs : List T3} : List.replicate gs.length (Value.int .i64 0) = gs.map (cV ms fs 0):=by
 have : gs.map (cV ms fs 0) = gs.map fun _=>Value.int .i64 0:=List.map_congr_left fun u _=>rfl;rw [this,List.map_const']
theorem Zp {a b c : P3} : ((decide (¬ (a.x = b.x ∧ a.y = b.y ∧ a.z = b.z)) && decide (¬ (b.x = c.x ∧ b.y = c.y ∧ b.z = c.z))) && decide (¬ (c.x = a.x ∧ c.y = a.y ∧ c.z = a.z))) = (⟨a,b,c⟩ : T3).nd:=by
 simp only[T3.nd,gK,ne_eq]
theorem Hp {f c : List T3} {ms : List Mv} {i : Nat} {t : T3} (ht : f[i]? = some t) (h : mK c (t.img ms) = false) : kP f c ms = false:=by
 rw [kP,(List.all_eq_false.2 ⟨t,List.mem_of_getElem? ht,by rw [h];exact Bool.false_ne_true⟩)];rfl
theorem Es {f c : List T3} {ms : List Mv} {i : Nat} {t : T3} (ht : f[i]? = some t) (h0 : ((f.take i).all fun t=>mK c (t.img ms)) = true) (h : mK c (t.img ms) = true) : ((f.take (i + 1)).all fun t=>mK c (t.img ms)) = true:=by
 rw [dJ ht,List.all_append,h0];simp [h]
theorem Uv {f c : List T3} {ms : List Mv} {q : Nat} {u : T3} (hu : c[q]? = some u) (h : ¬ ((nL ms f u : Nat) : Int) = 1) : kP f c ms = false:=by
 rw [kP];have : (c.all fun u=>decide (nL ms f u = 1)) = false:=List.all_eq_false.2 ⟨u,List.mem_of_getElem? hu,by simpa using fun k=>h (by omega)⟩;rw [this,Bool.and_false]
theorem Zq {f c : List T3} {ms : List Mv} {q : Nat} {u : T3} (hu : c[q]? = some u) (h0 : ((c.take q).all fun u=>decide (nL ms f u = 1)) = true) (h : ((nL ms f u : Nat) : Int) = 1) : ((c.take (q + 1)).all fun u=>decide (nL ms f u = 1)) = true:=by
 rw [dJ hu,List.all_append,h0];simp;omega
theorem Et {c : List T3} {x : T3} {q : Nat} {u : T3} (hu : c[q]? = some u) : ((c.take (q + 1)).any fun u=>decide (eS u = eS x)) = ((c.take q).any (fun u=>decide (eS u = eS x)) || decide (eS u = eS x)):=lS hu
theorem Mo {c : List T3} {x : T3} (h : x.nd = true) : mK c x = c.any fun u=>decide (eS u = eS x):=by rw [mK,h,if_pos rfl]
theorem Mp {c : List T3} {x : T3} (h : x.nd = false) : mK c x = mV c x.a (if x.a = x.b then x.c else x.b):=by rw [mK,h,if_neg Bool.false_ne_true]
theorem Zr {fs gs : List T3} {ms : List Mv} {rim : List E3} {N cap N2 cap2 N3 cap3 N4 cap4 : Nat} {A A2 A3 A4 : Option Addr} (w : World) (hT : oU bQ 9 w A N fs) (hT2 : oU bQ 9 w A2 N2 gs) (hM : oU cB 6 w A3 N3 ms) (hL : oU cB 6 w A4 N4 rim) (hN : N ≤ 1000000000) (hN2 : N2 ≤ 1000000000) (hN3 : N3 ≤ 1000000000) (hN4 : N4 ≤ 1000000000) : eL prog 46 [.slice A N cap,.slice A2 N2 cap2,.slice A3 N3 cap3,.slice A4 N4 cap4] w (fun v _=>v = .bool (lK fs gs ms rim)):=by
 refine ⟨aeM,?_⟩;have m:=cF.refl w
 go_enter func46,ntmps46
 refine aF fun K1 k1=>wp_region_lit (aA (aD) (aG (k1 _ _ ?_)));refine aF fun K2 k2=>aF fun K3 k3=>wp_region_lit (aA (aD) (aG (k3 _ _ ?_)));refine wp_block ?_;simp only[zz];try simp only[Nat.zero_add,Nat.reduceAdd,Nat.reduceMul,Int.reduceToNat]
 refine bJ [9] [8,10,11,12,13,14,15,16,17,18,19,20,21,22,23,24,25,26,27,28,29,30,31,32,33,34,35,36,37,38,39,40,41,42,43,44,45,46,47,48,49,50,51,52,53,54,55,56,57,58,59,60,61,62,63,64,65,66,67,68,69,70,71,72,73,74,75,76,77,78,79,80,81,82,83,84,85,86,87,88,89,90,91,92,93,94,95,96,97,98,99] (fun n vs wl=>∃ (k : Nat),vs = [.int .i64 (k:Int)] ∧ cF w wl [] ∧ (∀ i mv,i < k → ms[i]? = some mv → nK fs gs ms rim i mv = true) ∧ (k ≤ N3) ∧ (n = N3 - k)) ?_ ?_
 ·
  apply Exists.intro;simp only[zQ,zR,zD,zE];exact ⟨0,rfl,m,fun _ _ h=>absurd h (Nat.not_lt_zero _),Nat.zero_le _,rfl⟩
 ·
  intro n vs wr hI u;clear m;obtain ⟨k,rfl,m,hok,hk,hn⟩:=hI;simp only[zu,zF,zG];refine aF fun K4 k4=>aF fun K5 k5=>wp_region_lit (aA (aB) (aA (aB) (aA (bA rfl kJ rfl) (aA (cO rfl rfl) ?_))));simp only[zz];refine aG (k5 _ _ ?_);refine cC rfl (fun hc1=>?_) (fun hc1=>?_)
  ·
   obtain ⟨mv,hmv,a3,rfl,hrow3⟩:=hM.get (i:=k) (by omega);refine wp_skip (k4 _ _ ?_);refine aF fun K6 k6=>wp_block (aF fun K7 k7=>?_);refine tD m [10] [21,22,23,24,25,26,27,28,29,30,31,32,33,34,35,36] (fun vs=>vs = [.bool (decide (k = 0) || (ms[k - 1]?).any fun x=>decide (x.1.Lt mv.1))]) ?_ ?_
   ·
    rcases Nat.eq_zero_or_pos k with hk0 | hk0
    ·
     subst hk0;refine mq m aP (by kernel_rfl) (aI (aB) ?_);simp only[zz];refine aI (qT rfl rfl (by omega)) (aI (aB) (dV rfl (dV rfl ?_)));simp only[zz];refine dV rfl (dV rfl (dV rfl (dV rfl ?_)));simp only[zz];refine dV rfl (dV rfl (dV rfl (dV rfl ?_)));simp only[zz];refine dV rfl (dV rfl (aI (cJ rfl) (aI (aD) ?_)));simp only[zz];refine cP ?_;clear m;intro u m;simp only[Exit.inBlock,Exit.then];refine ⟨_,rfl,?_,m,?_⟩
     · simp only[zz,zv]
     ·
      simp only[zQ,zR,zD,zE];try rfl
    ·
     obtain ⟨j,rfl⟩ : ∃ j,k = j + 1:=⟨k - 1,by omega⟩
     obtain ⟨mw,hmw,a4,ha4,hrow4⟩:=hM.get (i:=j) (by omega);cases ha4;refine mq m aP (by kernel_rfl) (aI (aB) ?_);simp only[zz];refine aI (Nx rfl rfl (by omega)) (aI (aB) (aN rfl (aI (aB) (aN rfl (aI (aB) ?_)))));simp only[zz];refine aN rfl (aI (eO rfl rfl (aM (by omega) (by omega))) (aN rfl ?_));simp only[zz];refine aI (aK kJ fK rfl rfl (by omega) (by omega) (bY (show Int.toNat (((j + 1 : Nat) : Int) - 1) = j by omega))) (aN rfl (aI (aO (c:=2) iY rfl aC rfl rfl) (aN rfl ?_)));simp only[zz];refine ql rfl (fun u m=>((rD (hrow4.ext m.ext)).lies aJ aC)) ?_;simp only[zz];refine aN rfl (aI (aB) (aN rfl (aI (aB) (aN rfl ?_))));simp only[zz];refine aI (aK kJ fK rfl rfl (by omega) (by omega) (bY (Int.toNat_natCast _))) (aN rfl (aI (aO (c:=2) iY rfl aC rfl rfl) (aN rfl ?_)));simp only[zz];refine ql rfl (fun u m=>((rD (hrow3.ext m.ext)).lies aJ aC)) ?_;simp only[zz];refine aN rfl (sS rfl rfl (sY (p:=mw.1) (q:=mv.1)) (aI (cG rfl) (aI (aD) (cP ?_))));clear m;intro u m;simp only[zz];rw [adn (mv:=mv) hmw];simp only[Exit.inBlock,Exit.then];refine ⟨_,rfl,?_,m,?_⟩
     · simp only[zz,zv]
     ·
      simp only[zQ,zR,zD,zE];try rfl
   ·
    intro vs wr m hI u;obtain rfl:=hI;simp only[zu,zF,zG];refine k7 _ _ ?_;refine aF fun K8 k8=>wp_region_lit (aA (aB) (aA (aB) (aA (aB) ?_)));simp only[zz];refine aA (aK kJ fK rfl rfl (by omega) (by omega) (bY (Int.toNat_natCast _))) (aA (aO (c:=2) iY rfl aC rfl rfl) ?_);simp only[zz];refine aL rfl ((rD (hrow3.ext m.ext)).lies aJ aC) ?_;simp only[zz];refine eQ m rfl rfl (Er (p:=mv.1) _ (hT.ext m.ext) (by omega)) ?_;clear m;rintro v u m rfl;refine aA (aD) (aG (k8 _ _ ?_));refine aF fun K9 k9=>wp_region_lit (aA (aB) (aA (aB) ?_));simp only[zz];refine aA (aB) ?_;simp only[zz];refine aA (aK kJ fK rfl rfl (by omega) (by omega) (bY (Int.toNat_natCast _))) (aA (aO (c:=2) iY rfl aC rfl rfl) ?_);simp only[zz];refine aL rfl ((uO (hrow3.ext m.ext)).lies aJ aC) ?_;simp only[zz];refine eQ m rfl rfl (Er (p:=mv.2) _ (hT2.ext m.ext) (by omega)) ?_;clear m;rintro v u m rfl;refine aA (aB) (dF rfl (fun hb=>aB) (dF rfl (fun hb=>aB) ?_));simp only[zz];refine dF rfl (fun hb=>aB) ?_;simp only[zz];refine dF rfl (fun hb=>aK kJ fK (bO hb rfl) (bO hb rfl) (by omega) (by omega) (bY (Int.toNat_natCast _))) (dF rfl (fun hb=>aO (c:=2) iY rfl aC (bO hb rfl) rfl) ?_);simp only[zz];refine eC rfl (fun hb=>cM (bO hb rfl) ((uO (hrow3.ext m.ext)).lies aJ aC)) (tB m rfl rfl (fun hb=>by simp only[List.toList_toArray,List.map_cons,List.map_nil,zA,zB,zC,zD,zE,hb,pA];rfl) (fun hb=>Er (p:=mv.2) _ (hT.ext m.ext) (by omega)) ?_);clear m;intro u m;refine aA (dC rfl rfl rfl) (aA (aD) (aG (k9 _ _ ?_)));refine aF fun K10 k10=>aF fun K11 k11=>wp_region_lit (aA (aD) ?_);simp only[zz];refine aG ?_;rw [@abq ms mv.2 (oP gs mv.2 && oP fs mv.2)];refine k11 _ _ (wp_block ?_);try simp only[Nat.zero_add,Nat.reduceAdd,Nat.reduceMul,Int.reduceToNat]
    refine bJ [12,13] [60,61,62,63,64,65,66,67,68,69,70,71,72,73,74,75,76,77,78,79] (fun n vs wl=>∃ (q : Nat),vs = [.bool (oP gs mv.2 && oP fs mv.2 && (ms.take q).all fun x=>decide (x.1 ≠ mv.2)),.int .i64 (q:Int)] ∧ cF w wl [] ∧ (q ≤ N3) ∧ (n = N3 - q)) ?_ ?_
    ·
     apply Exists.intro;simp only[zQ,zR,zD,zE];exact ⟨0,rfl,m,Nat.zero_le _,rfl⟩
    ·
     intro n vs wr hI u;clear m;obtain ⟨q,rfl,m,hq,hn2⟩:=hI;simp only[zu,zF,zG];refine aF fun K12 k12=>aF fun K13 k13=>wp_region_lit (aA (aB) (aA (aB) (aA (bA rfl kJ rfl) (aA (cO rfl rfl) ?_))));simp only[zz];refine aG (k13 _ _ ?_);refine cC rfl (fun hc2=>?_) (fun hc2=>?_)
     ·
      obtain ⟨mu,hmu,a5,ha5,hrow5⟩:=hM.get (i:=q) (by omega);cases ha5;refine wp_skip (k12 _ _ ?_);refine aF fun K14 k14=>wp_block (mq m aP (by kernel_rfl) (aI (aB) (aI (aB) (dH rfl (fun hb=>aB) (dH rfl (fun hb=>aB) ?_)))));simp only[zz];refine dH rfl (fun hb=>aK kJ fK (bO hb rfl) (bO hb rfl) (by omega) (by omega) (bY (Int.toNat_natCast _))) (dH rfl (fun hb=>aO (c:=2) iY rfl aC (bO hb rfl) rfl) ?_);simp only[zz];refine jY rfl (fun hb u m=>cM (bO hb rfl) ((rD (hrow5.ext m.ext)).lies aJ aC)) (dH rfl (fun hb=>aB) (dH rfl (fun hb=>aB) ?_));simp only[zz];refine dH rfl (fun hb=>aK kJ fK (bO hb rfl) (bO hb rfl) (by omega) (by omega) (bY (Int.toNat_natCast _))) (dH rfl (fun hb=>aO (c:=2) iY rfl aC (bO hb rfl) rfl) ?_);simp only[zz];refine jY rfl (fun hb u m=>cM (bO hb rfl) ((uO (hrow3.ext m.ext)).lies aJ aC)) (dH rfl (fun hb=>fW (bO hb rfl) (bO hb rfl)) (aI (dC rfl rfl rfl) (aI (aD) (cP ?_))));clear m;intro u m;refine k14 _ _ (wp_region_lit (aA (aB) ?_));simp only[zz];refine aA (aQ rfl rfl (aM (by omega) (by omega))) (aA (aD) (aG ?_));simp only[zz];rw [adm hmu];simp only[Exit.inBlock,Exit.then];refine ⟨N3 - (q + 1),_,?_,rfl,?_,?_⟩
      · omega
      · simp only[zz,zv]
      ·
       simp only[zQ,zR,zD,zE];exact ⟨q + 1,rfl,m,by omega,rfl⟩
     ·
      have hqN : q = N3:=by omega
      rw [hqN,show ms.take N3 = ms from List.take_of_length_le (Nat.le_of_eq hM.len)];refine wp_exit (k10 _ _ ?_);refine aF fun K15 k15=>wp_region_lit (aA (aB) (aA (aB) (aA (aB) ?_)));simp only[zz];refine aA (aK kJ fK rfl rfl (by omega) (by omega) (bY (Int.toNat_natCast _))) (aA (aO (c:=2) iY rfl aC rfl rfl) ?_);simp only[zz];refine aL rfl ((rD (hrow3.ext m.ext)).lies aJ aC) ?_;simp only[zz];refine eQ m rfl rfl (wO (p:=mv.1) _ (hL.ext m.ext) (by omega)) ?_;clear m;rintro v u m rfl;refine aA (aD) (aG (k15 _ _ ?_));refine aF fun K16 k16=>wp_region_lit (aA (aB) (aA (fN rfl) ?_));simp only[zz];refine aA (aB) (fE rfl (fun hb=>aB) (fE rfl (fun hb=>fN (bO hb rfl)) (aA (fQ rfl rfl rfl) ?_)));simp only[zz];refine aA (aB) (fE rfl (fun hb=>aB) (fE rfl (fun hb=>fN (bO hb rfl)) (aA (fQ rfl rfl rfl) ?_)));simp only[zz];refine aA (aB) (fE rfl (fun hb=>aB) (aA (fQ rfl rfl rfl) (aG (k16 _ _ ?_))));simp only[zz];refine eD rfl (fun hc3=>?_) (fun hc3=>?_)
      ·
       have hmr : nK fs gs ms rim k mv = false:=afH hc3;refine aF fun K17 k17=>wp_region_lit (aA (aD) (aG (k17 _ _ ?_)));refine wp_ret ?_;simp only[zz];try simp only[Exit.inBlock,Exit.then,if_true]
       refine bS rfl rfl ?_;try simp only[zD,zE]
       exact ⟨_,rfl,m.ext,by rw [Uu hmv hmr]⟩
      ·
       have hmr : nK fs gs ms rim k mv = true:=afI hc3;have hok2 : ∀ i mv,i < k + 1 → ms[i]? = some mv → nK fs gs ms rim i mv = true:=fun i mw hi hmw=>by
        rcases Nat.lt_or_ge i k with h | h
        · exact hok i mw h hmw
        ·
         obtain rfl : i = k:=by omega
         obtain rfl:=Option.some.inj (hmv.symm.trans hmw);exact hmr
       refine wp_skip (k6 _ _ ?_);refine wp_region_lit (aA (aB) ?_);simp only[zz];refine aA (aQ rfl rfl (aM (by omega) (by omega))) (aA (aD) (aG ?_));simp only[zz];simp only[Exit.inBlock,Exit.then];refine ⟨N3 - (k + 1),_,?_,rfl,?_,?_⟩
       · omega
       · simp only[zz,zv]
       ·
        simp only[zQ,zR,zD,zE];exact ⟨k + 1,rfl,m,hok2,by omega,rfl⟩
  ·
   have hkN : k = N3:=by omega
   have hall : lK fs gs ms rim = true:=qD.2 fun i mv hm=>hok i mv (by have:=(List.getElem?_eq_some_iff.1 hm).1;rw [hM.len] at this;omega) hm;refine wp_exit (k2 _ _ ?_);refine aF fun K18 k18=>wp_region_lit (aA (aD) (aG (k18 _ _ ?_)));refine wp_ret ?_;simp only[zz];try simp only[Exit.inBlock,Exit.then,if_true]
   refine bS rfl rfl ?_;try simp only[zD,zE]
   exact ⟨_,rfl,m.ext,by rw [hall]⟩
theorem Hq {t : T3} : iX prog 89 [tr t] (tr (eS t)):=by
 intro w;refine ⟨afr,?_⟩;have m:=cF.refl w
 go_enter func89,ntmps89
 refine aF fun K1 k1=>wp_region_lit (eP m rfl ?_);clear m;intro g1 u m;simp only[zz];refine bH m kB rfl ?_;clear m;intro g2 u m;refine aG (k1 _ _ ?_);refine aF fun K2 k2=>wp_region_lit (aA (aH aY aC rfl rfl (by decide) (by decide) rfl) ?_);simp only[zz];refine aL rfl ((m.b 1 rfl).lies aJ aC rfl rfl) ?_;simp only[zz,zy,Nat.zero_add,Nat.reduceAdd,Nat.reduceMul,Int.reduceToNat];refine aA (aH aY aC rfl rfl (by decide) (by decide) rfl) ?_;simp only[zz];refine aL rfl ((m.b 1 rfl).lies aJ aC rfl rfl) ?_;simp only[zz,zy,Nat.zero_add,Nat.reduceAdd,Nat.reduceMul,Int.reduceToNat];refine gJ m rfl rfl (sY (p:=t.b) (q:=t.a)) ?_;clear m;intro u m;refine aA (aD) (aG (k2 _ _ ?_));refine aF fun K3 k3=>wp_region_lit (aA (aH aY aC rfl rfl (by decide) (by decide) rfl) ?_);simp only[zz];refine aL rfl ((m.b 1 rfl).lies aJ aC rfl rfl) ?_;simp only[zz,zy,Nat.zero_add,Nat.reduceAdd,Nat.reduceMul,Int.reduceToNat];refine aA (aH aY aC rfl rfl (by decide) (by decide) rfl) ?_;simp only[zz];refine aL rfl ((m.b 1 rfl).lies aJ aC rfl rfl) ?_;simp only[zz,zy,Nat.zero_add,Nat.reduceAdd,Nat.reduceMul,Int.reduceToNat];refine gJ m rfl rfl (sY (p:=t.c) (q:=t.a)) ?_;clear m;intro u m;refine aA (aD) (aG (k3 _ _ ?_));refine aF fun K4 k4=>wp_region_lit (aA (aH aY aC rfl rfl (by decide) (by decide) rfl) ?_);simp only[zz];refine aL rfl ((m.b 1 rfl).lies aJ aC rfl rfl) ?_;simp only[zz,zy,Nat.zero_add,Nat.reduceAdd,Nat.reduceMul,Int.reduceToNat];refine aA (aH aY aC rfl rfl (by decide) (by decide) rfl) ?_;simp only[zz];refine aL rfl ((m.b 1 rfl).lies aJ aC rfl rfl) ?_;simp only[zz,zy,Nat.zero_add,Nat.reduceAdd,Nat.reduceMul,Int.reduceToNat];refine gJ m rfl rfl (sY (p:=t.c) (q:=t.b)) ?_;clear m;intro u m;refine aA (aD) (aG (k4 _ _ ?_));refine aF fun K5 k5=>aF fun K6 k6=>?_;simp only[zz];cases hy : decide (t.c.Lt t.a)
 ·
  refine wp_region_lit (aA (aB) (aA (aB) (cN rfl (cN rfl ?_))));simp only[zz];refine kQ rfl (kQ rfl (cN rfl (aA (cG rfl) ?_)));simp only[zz];refine aG (k6 _ _ ?_);refine iD rfl (wp_skip (k5 _ _ ?_));refine aF fun K7 k7=>aF fun K8 k8=>wp_region_lit (aA (aB) (aG (k8 _ _ ?_)));simp only[zz];refine eD rfl (fun hc2=>?_) (fun hc2=>?_)
  ·
   have hr:=afJ (t:=t) rfl rfl rfl (by rw [hy];rfl) hc2;refine aF fun K9 k9=>wp_region_lit (aA (aH aY aC rfl rfl (by decide) (by decide) rfl) ?_);simp only[zz];refine aL rfl ((m.b 1 rfl).lies aJ aC rfl rfl) ?_;simp only[zz,zy,Nat.zero_add,Nat.reduceAdd,Nat.reduceMul,Int.reduceToNat];refine aA (aH aY aC rfl rfl (by decide) (by decide) rfl) ?_;simp only[zz];refine aL rfl ((m.b 1 rfl).lies aJ aC rfl rfl) ?_;simp only[zz,zy,Nat.zero_add,Nat.reduceAdd,Nat.reduceMul,Int.reduceToNat];refine aA (aH aY aC rfl rfl (by decide) (by decide) rfl) ?_;simp only[zz];refine aL rfl ((m.b 1 rfl).lies aJ aC rfl rfl) ?_;simp only[zz,zy,Nat.zero_add,Nat.reduceAdd,Nat.reduceMul,Int.reduceToNat];refine aA (bR rfl rfl rfl) ?_;simp only[zz];refine aT m 0 rfl rfl rfl aS (dX rfl) rfl ?_;clear m;intro u m;simp only[zy,zx,bK,zF,zG,Nat.reduceAdd] at m;refine aG (k9 _ _ ?_);refine wp_ret ?_;try simp only[Exit.inBlock,Exit.then,if_true]
   refine bS rfl ⟨_,rfl,((m.b 0 rfl).full eF aS)⟩ ?_;try simp only[zD,zE]
   exact ⟨_,rfl,m.ext,by rw [hr];rfl⟩
  ·
   have hr:=afK (t:=t) rfl rfl rfl (by rw [hy];rfl) hc2;refine wp_skip (k7 _ _ ?_);refine aF fun K10 k10=>wp_region_lit (aL rfl ((m.b 1 rfl).full eF aS) ?_);simp only[zz];refine aT m 0 rfl rfl rfl aS (dX rfl) rfl ?_;clear m;intro u m;simp only[zy,zx,bK,zF,zG,Nat.reduceAdd] at m;refine aG (k10 _ _ ?_);refine wp_ret ?_;try simp only[Exit.inBlock,Exit.then,if_true]
   refine bS rfl ⟨_,rfl,((m.b 0 rfl).full eF aS)⟩ ?_;try simp only[zD,zE]
   exact ⟨_,rfl,m.ext,by rw [hr];rfl⟩
 ·
  refine wp_region_lit (aA (aB) (aA (aB) (bN rfl (aA (aB) (bN rfl (aA (aB) ?_))))));simp only[zz];refine fE rfl (fun hb=>aB) (fE rfl (fun hb=>fN (bO hb rfl)) (bN rfl (aA (fQ rfl rfl rfl) (aA (cJ rfl) ?_))));simp only[zz];refine aG (k6 _ _ ?_);refine eD rfl (fun hc1=>?_) (fun hc1=>?_)
  ·
   have hr:=agk (t:=t) rfl rfl rfl (by rw [hy];exact hc1);refine aF fun K11 k11=>wp_region_lit (aA (aH aY aC rfl rfl (by decide) (by decide) rfl) ?_);simp only[zz];refine aL rfl ((m.b 1 rfl).lies aJ aC rfl rfl) ?_;simp only[zz,zy,Nat.zero_add,Nat.reduceAdd,Nat.reduceMul,Int.reduceToNat];refine aA (aH aY aC rfl rfl (by decide) (by decide) rfl) ?_;simp only[zz];refine aL rfl ((m.b 1 rfl).lies aJ aC rfl rfl) ?_;simp only[zz,zy,Nat.zero_add,Nat.reduceAdd,Nat.reduceMul,Int.reduceToNat];refine aA (aH aY aC rfl rfl (by decide) (by decide) rfl) ?_;simp only[zz];refine aL rfl ((m.b 1 rfl).lies aJ aC rfl rfl) ?_;simp only[zz,zy,Nat.zero_add,Nat.reduceAdd,Nat.reduceMul,Int.reduceToNat];refine aA (bR rfl rfl rfl) ?_;simp only[zz];refine aT m 0 rfl rfl rfl aS (dX rfl) rfl ?_;clear m;intro u m;simp only[zy,zx,bK,zF,zG,Nat.reduceAdd] at m;refine aG (k11 _ _ ?_);refine wp_ret ?_;try simp only[Exit.inBlock,Exit.then,if_true]
   refine bS rfl ⟨_,rfl,((m.b 0 rfl).full eF aS)⟩ ?_;try simp only[zD,zE]
   exact ⟨_,rfl,m.ext,by rw [hr];rfl⟩
  ·
   refine wp_skip (k5 _ _ ?_);refine aF fun K12 k12=>aF fun K13 k13=>wp_region_lit (aA (aB) (aG (k13 _ _ ?_)));simp only[zz];refine eD rfl (fun hc2=>?_) (fun hc2=>?_)
   ·
    have hr:=afJ (t:=t) rfl rfl rfl (by rw [hy];exact hc1) hc2;refine aF fun K14 k14=>wp_region_lit (aA (aH aY aC rfl rfl (by decide) (by decide) rfl) ?_);simp only[zz];refine aL rfl ((m.b 1 rfl).lies aJ aC rfl rfl) ?_;simp only[zz,zy,Nat.zero_add,Nat.reduceAdd,Nat.reduceMul,Int.reduceToNat];refine aA (aH aY aC rfl rfl (by decide) (by decide) rfl) ?_;simp only[zz];refine aL rfl ((m.b 1 rfl).lies aJ aC rfl rfl) ?_;simp only[zz,zy,Nat.zero_add,Nat.reduceAdd,Nat.reduceMul,Int.reduceToNat];refine aA (aH aY aC rfl rfl (by decide) (by decide) rfl) ?_;simp only[zz];refine aL rfl ((m.b 1 rfl).lies aJ aC rfl rfl) ?_;simp only[zz,zy,Nat.zero_add,Nat.reduceAdd,Nat.reduceMul,Int.reduceToNat];refine aA (bR rfl rfl rfl) ?_;simp only[zz];refine aT m 0 rfl rfl rfl aS (dX rfl) rfl ?_;clear m;intro u m;simp only[zy,zx,bK,zF,zG,Nat.reduceAdd] at m;refine aG (k14 _ _ ?_);refine wp_ret ?_;try simp only[Exit.inBlock,Exit.then,if_true]
    refine bS rfl ⟨_,rfl,((m.b 0 rfl).full eF aS)⟩ ?_;try simp only[zD,zE]
    exact ⟨_,rfl,m.ext,by rw [hr];rfl⟩
   ·
    have hr:=afK (t:=t) rfl rfl rfl (by rw [hy];exact hc1) hc2;refine wp_skip (k12 _ _ ?_);refine aF fun K15 k15=>wp_region_lit (aL rfl ((m.b 1 rfl).full eF aS) ?_);simp only[zz];refine aT m 0 rfl rfl rfl aS (dX rfl) rfl ?_;clear m;intro u m;simp only[zy,zx,bK,zF,zG,Nat.reduceAdd] at m;refine aG (k15 _ _ ?_);refine wp_ret ?_;try simp only[Exit.inBlock,Exit.then,if_true]
    refine bS rfl ⟨_,rfl,((m.b 0 rfl).full eF aS)⟩ ?_;try simp only[zD,zE]
    exact ⟨_,rfl,m.ext,by rw [hr];rfl⟩
theorem Pz {fs gs : List T3} {ms : List Mv} {N cap N2 cap2 N3 cap3 : Nat} {A A2 A3 : Option Addr} (w : World) (hT : oU bQ 9 w A N fs) (hT2 : oU bQ 9 w A2 N2 gs) (hM : oU cB 6 w A3 N3 ms) (hN : N ≤ 1000000000) (hN2 : N2 ≤ 1000000000) (hN3 : N3 ≤ 1000000000) (hcap2 : N2 ≤ cap2) (hNb : N2 ≤ 1000000) : eL prog 47 [.slice A N cap,.slice A2 N2 cap2,.slice A3 N3 cap3] w (fun v _=>v = .bool (kP fs gs ms)):=by
 refine ⟨aeN,?_⟩;have m:=cF.refl w
 go_enter func47,ntmps47
 refine aF fun K1 k1=>wp_region_lit (aA (aD) (aG (k1 _ _ ?_)));refine aF fun K2 k2=>wp_region_lit (aA (aB) (aA (bA rfl bV rfl) ?_));simp only[zz];refine jE bX kU rfl rfl rfl (Int.toNat_natCast _) (Int.toNat_natCast _) (by omega) (by omega) (by omega) (by omega) ?_;intro u g1 e hg hB;replace m:=m.newB e hg hB;clear e hg hB;refine aA (aD) (aG ?_);simp only[zz];obtain rfl : gs.length = N2:=hT2.len;rw [afM (ms:=ms) (fs:=fs)] at m;refine k2 _ _ ?_;refine aF fun K3 k3=>aF fun K4 k4=>wp_region_lit (aA (aD) (aG (k4 _ _ ?_)));refine wp_block ?_;simp only[zz];try simp only[Nat.zero_add,Nat.reduceAdd,Nat.reduceMul,Int.reduceToNat]
 refine bJ [8] [6,9,10,11,12,13,14,15,16,21,22,23,24,25,26,27,28,29,30,31,32,33,34,35,36,37,38,39,40,41,42,43,44,45,46,47,48,49,50,51,52,53,54,55,56,57,58,59,60,61,62,63,64,65,66,67,68,69,70,71,72,73,74,75,76,77,78,79,80,81,82,83,84,85,86,87,88,89,90,91,92,93,94,95,96,97] (fun n vs wl=>∃ (k : Nat),vs = [.int .i64 (k:Int)] ∧ cF w wl [bI g1 (gs.map (cV ms fs k)) 3] ∧ (((fs.take k).all fun t=>mK gs (t.img ms)) = true) ∧ (k ≤ N) ∧ (n = N - k)) ?_ ?_
 ·
  apply Exists.intro;simp only[zQ,zR,zD,zE];exact ⟨0,rfl,m,rfl,Nat.zero_le _,rfl⟩
 ·
  intro n vs wr hI u;clear m;obtain ⟨k,rfl,m,hp,hk,hn0⟩:=hI;simp only[zu,zF,zG];refine aF fun K5 k5=>aF fun K6 k6=>wp_region_lit (aA (aB) (aA (aB) (aA (bA rfl bV rfl) (aA (cO rfl rfl) ?_))));simp only[zz];refine aG (k6 _ _ ?_);refine cC rfl (fun hc1=>?_) (fun hc1=>?_)
  ·
   obtain ⟨t,ht,a,rfl,hrow⟩:=hT.get (i:=k) (by omega);refine wp_skip (k5 _ _ ?_);refine aF fun K7 k7=>wp_block (aF fun K8 k8=>wp_region_lit (aA (aB) (aA (aB) (aA (aB) ?_))));simp only[zz];refine aA (aK bV aS rfl rfl (by omega) (by omega) (bY (Int.toNat_natCast _))) (aA (aH aY aC rfl rfl (by decide) (by decide) rfl) ?_);simp only[zz];refine aL rfl ((jL.cor (hrow.ext m.ext) (c:=0) (by omega)).lies aJ aC) ?_;simp only[zz];refine eQ m rfl rfl (Ep (p:=t.a) _ (hM.ext m.ext) (by omega)) ?_;clear m;rintro v u m rfl;simp only[zz];refine bH m bU rfl ?_;clear m;intro g2 u m;simp only[zz];refine aT m 0 rfl rfl rfl aC (dX rfl) rfl ?_;clear m;intro u m;simp only[zy,zx,bK,zF,zG,Nat.reduceAdd] at m;refine aG (k8 _ _ ?_);refine aF fun K9 k9=>wp_region_lit (aA (aB) (aA (aB) (aA (aB) ?_)));simp only[zz];refine aA (aK bV aS rfl rfl (by omega) (by omega) (bY (Int.toNat_natCast _))) (aA (aH aY aC rfl rfl (by decide) (by decide) rfl) ?_);simp only[zz];refine aL rfl ((jL.cor (hrow.ext m.ext) (c:=1) (by omega)).lies aJ aC) ?_;simp only[zz];refine eQ m rfl rfl (Ep (p:=t.b) _ (hM.ext m.ext) (by omega)) ?_;clear m;rintro v u m rfl;simp only[zz];refine bH m bU rfl ?_;clear m;intro g3 u m;simp only[zz];refine aT m 0 rfl rfl rfl aC (dX rfl) rfl ?_;clear m;intro u m;simp only[zy,zx,bK,zF,zG,Nat.reduceAdd] at m;refine aG (k9 _ _ ?_);refine aF fun K10 k10=>wp_region_lit (aA (aB) (aA (aB) (aA (aB) ?_)));simp only[zz];refine aA (aK bV aS rfl rfl (by omega) (by omega) (bY (Int.toNat_natCast _))) (aA (aH aY aC rfl rfl (by decide) (by decide) rfl) ?_);simp only[zz];refine aL rfl ((jL.cor (hrow.ext m.ext) (c:=2) (by omega)).lies aJ aC) ?_;simp only[zz];refine eQ m rfl rfl (Ep (p:=t.c) _ (hM.ext m.ext) (by omega)) ?_;clear m;rintro v u m rfl;simp only[zz];refine bH m bU rfl ?_;clear m;intro g4 u m;simp only[zz];refine aT m 0 rfl rfl rfl aC (dX rfl) rfl ?_;clear m;intro u m;simp only[zy,zx,bK,zF,zG,Nat.reduceAdd] at m;refine aG (k10 _ _ ?_);refine aF fun K11 k11=>aF fun K12 k12=>wp_region_lit (aL rfl ((m.b 2 rfl).full aJ aC) ?_);simp only[zz];refine aL rfl ((m.b 1 rfl).full aJ aC) ?_;simp only[zz];refine aA (fW rfl rfl) (aA (aB) ?_);simp only[zz];refine eC rfl (fun hb=>cM rfl ((m.b 1 rfl).full aJ aC)) (eC rfl (fun hb=>cM rfl ((m.b 0 rfl).full aJ aC)) (dF rfl (fun hb=>fW (bO hb rfl) (bO hb rfl)) (aA (dC rfl rfl rfl) (aA (aB) ?_))));simp only[zz];refine eC rfl (fun hb=>cM rfl ((m.b 0 rfl).full aJ aC)) (eC rfl (fun hb=>cM rfl ((m.b 2 rfl).full aJ aC)) (dF rfl (fun hb=>fW (bO hb rfl) (bO hb rfl)) (aA (dC rfl rfl rfl) (aG (k12 _ _ ?_)))));simp only[zz];refine eD rfl (fun hc2=>?_) (fun hc2=>?_)
   ·
    have hn : (t.img ms).nd = true:=Zp.symm.trans hc2;refine aF fun K13 k13=>wp_region_lit (aL rfl ((m.b 2 rfl).full aJ aC) ?_);simp only[zz];refine aL rfl ((m.b 1 rfl).full aJ aC) ?_;simp only[zz];refine aL rfl ((m.b 0 rfl).full aJ aC) ?_;simp only[zz];refine aA (bR rfl rfl rfl) ?_;simp only[zz];refine gJ m rfl rfl (Hq (t:=t.img ms)) ?_;clear m;intro u m;simp only[zz];refine bH m kB rfl ?_;clear m;intro g5 u m;simp only[zz];refine aT m 0 rfl rfl rfl aS (dX rfl) rfl ?_;clear m;intro u m;simp only[zy,zx,bK,zF,zG,Nat.reduceAdd] at m;refine aG (k13 _ _ ?_);refine aF fun K14 k14=>wp_region_lit (aA (aD) (aG (k14 _ _ ?_)));refine aF fun K15 k15=>aF fun K16 k16=>wp_region_lit (aA (aD) (aG (k16 _ _ ?_)));refine wp_block ?_;simp only[zz];try simp only[Nat.zero_add,Nat.reduceAdd,Nat.reduceMul,Int.reduceToNat]
    refine bJ [13,14] [66,67,68,69,70,71,72,73,74,75,76,77,78,79,80,81,82,83,84] (fun n vs wl=>∃ (q : Nat),vs = [.bool ((gs.take q).any fun u=>decide (eS u = eS (t.img ms))),.int .i64 (q:Int)] ∧ cF w wl [bI g5 (bQ (eS (t.img ms))) 53,bI g1 (tN ms fs gs k q) 3] ∧ (q ≤ gs.length) ∧ (n = gs.length - q)) ?_ ?_
    ·
     rw [afL] at m;apply Exists.intro;simp only[zQ,zR,zD,zE];exact ⟨0,rfl,(m.sel [true,false,false,false,true]),Nat.zero_le _,rfl⟩
    ·
     intro n vs wr hI u;clear m;obtain ⟨q,rfl,m,hq,hn1⟩:=hI;simp only[zu,zF,zG];refine aF fun K17 k17=>aF fun K18 k18=>wp_region_lit (aA (aB) (aA (aB) (aA (bA rfl bV rfl) (aA (cO rfl rfl) ?_))));simp only[zz];refine aG (k18 _ _ ?_);refine cC rfl (fun hc3=>?_) (fun hc3=>?_)
     ·
      obtain ⟨u2,hu,a2,rfl,hrow2⟩:=hT2.get (i:=q) (by omega);have hle:=abv ms (fs.take k) u2;rw [List.length_take] at hle;refine wp_skip (k17 _ _ ?_);refine aF fun K19 k19=>wp_block (aF fun K20 k20=>mq m aP (by kernel_rfl) (aI (aB) (aI (aB) ?_)));simp only[zz];refine aI (aK bV aS rfl rfl (by omega) (by omega) (bY (Int.toNat_natCast _))) ?_;simp only[zz];refine ql rfl (fun u m=>((hrow2.ext m.ext).lies eF aS)) ?_;simp only[zz];refine sS rfl rfl (Hq (t:=u2)) ?_;simp only[zz];refine ql rfl (fun u m=>((m.b 0 rfl).full eF aS)) ?_;simp only[zz];refine aI (Ua rfl rfl) (cP ?_);clear m;intro u m;refine k20 _ _ ?_;simp only[zz];refine cC rfl (fun hc4=>?_) (fun hc4=>?_)
      ·
       have hr : eS u2 = eS (t.img ms):=Zm.1 hc4;refine aF fun K21 k21=>wp_region_lit (aA (aD) (aG (k21 _ _ ?_)));refine wp_region_lit (aA (aB) (aA (aB) ?_));simp only[zz];refine aA (aK bX bG rfl rfl (by omega) (by omega) (eZ (Int.toNat_natCast _))) ?_;simp only[zz];refine aL rfl ((m.b 1 rfl).lies1 (i:=q) bZ (abu hu)) ?_;simp only[zz];refine aA (aQ rfl rfl (aM (by omega) (by omega))) ?_;simp only[zz];refine aA (aK bX bG rfl rfl (by omega) (by omega) (eZ (Int.toNat_natCast _))) ?_;simp only[zz];refine Bz m 1 rfl rfl rfl bG (by rw [abr];have:=(List.getElem?_eq_some_iff.1 hu).1;simp;omega) ⟨rfl,rfl⟩ ?_;clear m;intro u m;simp only[zz] at m;rw [abw ht hn hu hr] at m;refine aG (k19 _ _ ?_);refine wp_region_lit (aA (aB) ?_);simp only[zz];refine aA (aQ rfl rfl (aM (by omega) (by omega))) (aA (aD) (aG ?_));simp only[zz];rw [show true = ((gs.take (q + 1)).any fun u=>decide (eS u = eS (t.img ms))) by rw [Et hu,decide_eq_true hr,Bool.or_true]];simp only[Exit.inBlock,Exit.then];refine ⟨gs.length - (q + 1),_,?_,rfl,?_,?_⟩
       · omega
       · simp only[zz,zv]
       ·
        simp only[zQ,zR,zD,zE];exact ⟨q + 1,rfl,m,by omega,rfl⟩
      ·
       have hr : ¬ eS u2 = eS (t.img ms):=mt Zm.2 hc4;refine wp_skip (k19 _ _ ?_);refine wp_region_lit (aA (aB) ?_);simp only[zz];refine aA (aQ rfl rfl (aM (by omega) (by omega))) (aA (aD) (aG ?_));simp only[zz];rw [show ((gs.take q).any fun u=>decide (eS u = eS (t.img ms))) = ((gs.take (q + 1)).any fun u=>decide (eS u = eS (t.img ms))) by rw [Et hu,decide_eq_false hr,Bool.or_false]];rw [← ado ht hu hr] at m;simp only[Exit.inBlock,Exit.then];refine ⟨gs.length - (q + 1),_,?_,rfl,?_,?_⟩
       · omega
       · simp only[zz,zv]
       ·
        simp only[zQ,zR,zD,zE];exact ⟨q + 1,rfl,m,by omega,rfl⟩
     ·
      have hqe : q = gs.length:=by omega
      rw [abt hqe] at m;rw [hqe,List.take_length];refine wp_exit (k15 _ _ ?_);refine aF fun K22 k22=>aF fun K23 k23=>wp_region_lit (aA (aB) (aA (fN rfl) (aG (k23 _ _ ?_))));simp only[zz];refine eD rfl (fun hc5=>?_) (fun hc5=>?_)
      ·
       have hh:=Hp ht ((Mo hn).trans (by simpa using hc5));refine aF fun K24 k24=>wp_region_lit (aA (aD) (aG (k24 _ _ ?_)));refine wp_ret ?_;simp only[zz];try simp only[Exit.inBlock,Exit.then,if_true]
       refine bS rfl rfl ?_;try simp only[zD,zE]
       exact ⟨_,rfl,m.ext,by rw [hh]⟩
      ·
       have hp2:=Es ht hp ((Mo hn).trans (by simpa using hc5));refine wp_skip (k22 _ _ ?_);refine wp_exit (k7 _ _ ?_);refine wp_region_lit (aA (aB) ?_);simp only[zz];refine aA (aQ rfl rfl (aM (by omega) (by omega))) (aA (aD) (aG ?_));simp only[zz];simp only[Exit.inBlock,Exit.then];refine ⟨N - (k + 1),_,?_,rfl,?_,?_⟩
       · omega
       · simp only[zz,zv]
       ·
        simp only[zQ,zR,zD,zE];exact ⟨k + 1,rfl,(m.sel [false,true]),hp2,by omega,rfl⟩
   ·
    have hn : (t.img ms).nd = false:=Zp.symm.trans hc2;refine wp_skip (k11 _ _ ?_);refine aF fun K25 k25=>wp_region_lit (aL rfl ((m.b 1 rfl).full aJ aC) ?_);simp only[zz];refine bH m bU rfl ?_;clear m;intro g5 u m;simp only[zz];refine aT m 0 rfl rfl rfl aC (dX rfl) rfl ?_;clear m;intro u m;simp only[zy,zx,bK,zF,zG,Nat.reduceAdd] at m;refine aG (k25 _ _ ?_);refine aF fun K26 k26=>aF fun K27 k27=>wp_region_lit (aL rfl ((m.b 3 rfl).full aJ aC) ?_);simp only[zz];refine aL rfl ((m.b 2 rfl).full aJ aC) ?_;simp only[zz];refine aA (aW rfl rfl) (aG (k27 _ _ ?_));simp only[zz];refine oD m 0 [] [91] (fun vs i=>vs = [] ∧ i = bI g5 [.int .i64 (if (t.img ms).a = (t.img ms).b then (t.img ms).c else (t.img ms).b).x,.int .i64 (if (t.img ms).a = (t.img ms).b then (t.img ms).c else (t.img ms).b).y,.int .i64 (if (t.img ms).a = (t.img ms).b then (t.img ms).c else (t.img ms).b).z] 48) ?_ ?_
    ·
     refine cC rfl (fun hc6=>?_) (fun hc6=>?_)
     ·
      have hab : (t.img ms).a = (t.img ms).b:=gK.1 hc6;refine wp_region_lit (aL rfl ((m.b 1 rfl).full aJ aC) ?_);simp only[zz];refine aT m 0 rfl rfl rfl aC (dX rfl) rfl ?_;clear m;intro u m;simp only[zy,zx,bK,zF,zG,Nat.reduceAdd] at m;refine aG ?_;simp only[Exit.inBlock,Exit.then];refine ⟨_,_,rfl,?_,m,?_⟩
      · simp only[zz,zv]
      ·
       simp only[zQ,zR,zD,zE];exact ⟨trivial,by rw [if_pos hab];rfl⟩
     ·
      have hab : ¬ (t.img ms).a = (t.img ms).b:=mt gK.2 hc6;refine wp_skip ?_;simp only[Exit.inBlock,Exit.then];refine ⟨_,_,rfl,?_,m,?_⟩
      · simp only[zz,zv]
      ·
       simp only[zQ,zR,zD,zE];exact ⟨trivial,by rw [if_neg hab];rfl⟩
    ·
     intro vs i wr m hI u;obtain ⟨rfl,rfl⟩:=hI;simp only[zF,zG] at m;simp only[zu,zF,zG];refine k26 _ _ ?_;refine aF fun K28 k28=>wp_region_lit (aA (aB) ?_);simp only[zz];refine aL rfl ((m.b 3 rfl).full aJ aC) ?_;simp only[zz];refine aL rfl ((m.b 0 rfl).full aJ aC) ?_;simp only[zz];refine eQ m rfl rfl (Cf (p:=(t.img ms).a) (q:=if (t.img ms).a = (t.img ms).b then (t.img ms).c else (t.img ms).b) _ (hT2.ext m.ext) (by omega) hcap2) ?_;clear m;rintro v u m rfl;refine aA (aD) (aG (k28 _ _ ?_));refine aF fun K29 k29=>wp_region_lit (aA (aB) (aA (fN rfl) ?_));simp only[zz];refine aG (k29 _ _ ?_);refine eD rfl (fun hc7=>?_) (fun hc7=>?_)
     ·
      have hh:=Hp ht ((Mp hn).trans (by simpa using hc7));refine aF fun K30 k30=>wp_region_lit (aA (aD) (aG (k30 _ _ ?_)));refine wp_ret ?_;simp only[zz];try simp only[Exit.inBlock,Exit.then,if_true]
      refine bS rfl rfl ?_;try simp only[zD,zE]
      exact ⟨_,rfl,m.ext,by rw [hh]⟩
     ·
      have hp2:=Es ht hp ((Mp hn).trans (by simpa using hc7));refine wp_skip (k7 _ _ ?_);refine wp_region_lit (aA (aB) ?_);simp only[zz];refine aA (aQ rfl rfl (aM (by omega) (by omega))) (aA (aD) (aG ?_));simp only[zz];rw [← Zo (gs:=gs) ht hn] at m;simp only[Exit.inBlock,Exit.then];refine ⟨N - (k + 1),_,?_,rfl,?_,?_⟩
      · omega
      · simp only[zz,zv]
      ·
       simp only[zQ,zR,zD,zE];exact ⟨k + 1,rfl,(m.sel [false,false,false,false,true]),hp2,by omega,rfl⟩
  ·
   have hkN : k = N:=by omega
   have hp1 : (fs.all fun t=>mK gs (t.img ms)) = true:=by rw [List.take_of_length_le (by rw [hT.len];omega)] at hp;exact hp
   rw [show gs.map (cV ms fs k) = gs.map fun u=>Value.int .i64 ((nL ms fs u : Nat) : Int) from List.map_congr_left fun u _=>by rw [cV,List.take_of_length_le (by rw [hT.len];omega)]] at m;refine wp_exit (k3 _ _ ?_);refine aF fun K31 k31=>aF fun K32 k32=>wp_region_lit (aA (aD) (aG (k32 _ _ ?_)));refine wp_block ?_;simp only[zz];try simp only[Nat.zero_add,Nat.reduceAdd,Nat.reduceMul,Int.reduceToNat]
   refine bJ [17] [6,98,99,100,101,102,103,104,105,106,107,108] (fun n vs wl=>∃ (q : Nat),vs = [.int .i64 (q:Int)] ∧ cF w wl [bI g1 (gs.map fun u=>Value.int .i64 ((nL ms fs u : Nat) : Int)) 3] ∧ (((gs.take q).all fun u=>decide (nL ms fs u = 1)) = true) ∧ (q ≤ gs.length) ∧ (n = gs.length - q)) ?_ ?_
   ·
    apply Exists.intro;simp only[zQ,zR,zD,zE];exact ⟨0,rfl,m,rfl,Nat.zero_le _,rfl⟩
   ·
    intro n vs wr hI u;clear m;obtain ⟨q,rfl,m,hc,hq,hn1⟩:=hI;simp only[zu,zF,zG];refine aF fun K33 k33=>aF fun K34 k34=>wp_region_lit (aA (aB) (aA (aB) (aA (bA rfl bX rfl) (aA (cO rfl rfl) ?_))));simp only[zz];refine aG (k34 _ _ ?_);refine cC rfl (fun hc8=>?_) (fun hc8=>?_)
    ·
     obtain ⟨u2,hu⟩ : ∃ u2,gs[q]? = some u2:=⟨_,List.getElem?_eq_getElem (by omega)⟩
     refine wp_skip (k33 _ _ ?_);refine aF fun K35 k35=>wp_block (aF fun K36 k36=>wp_region_lit (aA (aB) (aA (aB) ?_)));simp only[zz];refine aA (aK bX bG rfl rfl (by omega) (by omega) (eZ (Int.toNat_natCast _))) ?_;simp only[zz];refine aL rfl ((m.b 0 rfl).lies1 (i:=q) bZ (by rw [List.getElem?_map,hu];rfl)) ?_;simp only[zz];refine aA (kW rfl rfl) (aG (k36 _ _ ?_));simp only[zz];refine cC rfl (fun hc9=>?_) (fun hc9=>?_)
     ·
      have hh:=Uv hu hc9;refine aF fun K37 k37=>wp_region_lit (aA (aD) (aG (k37 _ _ ?_)));refine wp_ret ?_;simp only[zz];try simp only[Exit.inBlock,Exit.then,if_true]
      refine bS rfl rfl ?_;try simp only[zD,zE]
      exact ⟨_,rfl,m.ext,by rw [hh]⟩
     ·
      have hc2:=Zq hu hc (Classical.not_not.1 hc9);refine wp_skip (k35 _ _ ?_);refine wp_region_lit (aA (aB) ?_);simp only[zz];refine aA (aQ rfl rfl (aM (by omega) (by omega))) (aA (aD) (aG ?_));simp only[zz];simp only[Exit.inBlock,Exit.then];refine ⟨gs.length - (q + 1),_,?_,rfl,?_,?_⟩
      · omega
      · simp only[zz,zv]
      ·
       simp only[zQ,zR,zD,zE];exact ⟨q + 1,rfl,m,hc2,by omega,rfl⟩
    ·
     have hall : kP fs gs ms = true:=by rw [List.take_of_length_le (by omega)] at hc;rw [kP,hp1,hc];rfl
     refine wp_exit (k31 _ _ ?_);refine aF fun K38 k38=>wp_region_lit (aA (aD) (aG (k38 _ _ ?_)));refine wp_ret ?_;simp only[zz];try simp only[Exit.inBlock,Exit.then,if_true]
     refine bS rfl rfl ?_;try simp only[zD,zE]
     exact ⟨_,rfl,m.ext,by rw [hall]⟩
end Go.Proofs.YtfohfflkhpfjeaaGreatDoor
namespace Go.Proofs.YtfohfflkhpfjeaaGreatDoor
open Go.Proofs.Tryz
open Go.RowKit Go.Lith
set_option maxRecDepth 100000
attribute [local irreducible] wpList wpQuiet dY dO dN Code.wp
theorem aca {p : P3} : tM prog 129 [pt p] (.int .i64 p.x):=by
 intro w;refine ⟨Yi,?_⟩;have m:=iJ.refl w
 go_enter func129,ntmps129
 refine aF fun K1 k1=>wp_region_lit (sT m rfl ?_);clear m;intro g1 u m;refine aA (aD) (aG (k1 _ _ ?_));refine aF fun K2 k2=>wp_region_lit (aA (aO (c:=0) zZ rfl bG rfl rfl) ?_);simp only[zz];refine aL rfl ((m.b 0 rfl).lies1 bZ rfl) ?_;simp only[zz];refine aA (aD) (aG (k2 _ _ ?_));refine wp_ret ?_;simp only[zz];try simp only[Exit.inBlock,Exit.then,if_true]
 refine bS rfl rfl ?_;try simp only[zD,zE]
 exact ⟨_,rfl,m.ext,rfl⟩
theorem acb {p : P3} : tM prog 130 [pt p] (.int .i64 p.y):=by
 intro w;refine ⟨Yj,?_⟩;have m:=iJ.refl w
 go_enter func130,ntmps130
 refine aF fun K1 k1=>wp_region_lit (sT m rfl ?_);clear m;intro g1 u m;refine aA (aD) (aG (k1 _ _ ?_));refine aF fun K2 k2=>wp_region_lit (aA (aO (c:=0) zZ rfl bG rfl rfl) ?_);simp only[zz];refine aL rfl ((m.b 0 rfl).lies1 bZ rfl) ?_;simp only[zz];refine aA (aD) (aG (k2 _ _ ?_));refine wp_ret ?_;simp only[zz];try simp only[Exit.inBlock,Exit.then,if_true]
 refine bS rfl rfl ?_;try simp only[zD,zE]
 exact ⟨_,rfl,m.ext,rfl⟩
theorem acc {p : P3} : tM prog 131 [pt p] (.int .i64 p.z):=by
 intro w;refine ⟨Yk,?_⟩;have m:=iJ.refl w
 go_enter func131,ntmps131
 refine aF fun K1 k1=>wp_region_lit (sT m rfl ?_);clear m;intro g1 u m;refine aA (aD) (aG (k1 _ _ ?_));refine aF fun K2 k2=>wp_region_lit (aA (aO (c:=0) zZ rfl bG rfl rfl) ?_);simp only[zz];refine aL rfl ((m.b 0 rfl).lies1 bZ rfl) ?_;simp only[zz];refine aA (aD) (aG (k2 _ _ ?_));refine wp_ret ?_;simp only[zz];try simp only[Exit.inBlock,Exit.then,if_true]
 refine bS rfl rfl ?_;try simp only[zD,zE]
 exact ⟨_,rfl,m.ext,rfl⟩
theorem abx  : tM prog 111 [] (.agg #[.func (.func 129) #[] #[],.func (.func 130) #[] #[],.func (.func 131) #[] #[]]):=by
 intro w;refine ⟨Yh,?_⟩;have m:=iJ.refl w
 go_enter func111,ntmps111
 refine aF fun K1 k1=>wp_region_lit (aa1 m Ds rfl ?_);clear m;intro g1 u m;refine aG (k1 _ _ ?_);refine aF fun K2 k2=>wp_region_lit (aA (qQ rfl rfl rfl) ?_);simp only[zz];refine Xo m 0 rfl rfl rfl vD (dX rfl) rfl ?_;clear m;intro u m;simp only[zy,zx,bK,zF,zG,Nat.reduceAdd] at m;refine aG (k2 _ _ ?_);refine wp_ret ?_;try simp only[Exit.inBlock,Exit.then,if_true]
 refine bS rfl ⟨_,rfl,((m.b 0 rfl).full Re vD)⟩ ?_;try simp only[zD,zE]
 exact ⟨_,rfl,m.ext,rfl⟩
theorem vJ {p q : P3} : tM prog 73 [pt p,pt q] (.bool (decide (p.Lt q))):=by
 intro w;refine ⟨afb,?_⟩;have m:=iJ.refl w
 go_enter func73,ntmps73
 refine aF fun K1 k1=>wp_region_lit (sT m rfl ?_);clear m;intro g1 u m;simp only[zz];refine sT m rfl ?_;clear m;intro g2 u m;refine aA (aD) (aG (k1 _ _ ?_));refine aF fun K2 k2=>aF fun K3 k3=>wp_region_lit ?_;simp only[zz];refine Iv m rfl rfl (abx) ?_;clear m;intro u m;refine aA (aB) (aG (k3 _ _ ?_));refine wp_block (wp_loop_rounds 4 (dP (aF fun K4 k4=>wp_region_lit (aA (bW (m:=0) (n:=3) rfl rfl (by decide)) (aG (k4 _ _ ?_))))));refine aF fun K5 k5=>cQ rfl (wp_skip (k5 _ _ ?_));refine aF fun K6 k6=>wp_block (aF fun K7 k7=>wp_region_lit (aA (vU rfl rfl) ?_));simp only[zz];refine aA (aD) (aG (k7 _ _ ?_));refine aF fun K8 k8=>?_;simp only[zz];refine Gmq m aP (by kernel_rfl) (aI (aB) ?_);simp only[zz];refine Gql rfl (fun u m=>((m.b 1 rfl).full aJ aC)) ?_;simp only[zz];refine Kx rfl rfl (aca) (aI (aB) ?_);simp only[zz];refine Gql rfl (fun u m=>((m.b 0 rfl).full aJ aC)) ?_;simp only[zz];refine Kx rfl rfl (aca) (aI (aD) (aI (aD) (cP ?_)));clear m;intro u m;refine k8 _ _ ?_;refine aF fun K9 k9=>wp_region_lit (aA (aB) ?_);simp only[zz];refine aA (aB) (aA (kW rfl rfl) (aG (k9 _ _ ?_)));simp only[zz];refine cC rfl (fun hc2=>?_) (fun hc2=>?_)
 ·
  refine aF fun K10 k10=>wp_region_lit (aA (aB) (aA (aB) (aA (cO rfl rfl) (aA (aD) ?_))));simp only[zz];refine aG (k10 _ _ ?_);refine wp_ret ?_;try simp only[Exit.inBlock,Exit.then,if_true]
  refine bS rfl rfl ?_;try simp only[zD,zE]
  exact ⟨_,rfl,m.ext,by simp only[P3.lt_x hc2]⟩
 ·
  have ex : p.x = q.x:=by omega
  refine wp_skip (k6 _ _ ?_);refine wp_region_lit (aA (aQ (m:=0) (n:=1) (r:=1) rfl rfl (by decide)) (aA (aB) (aG (aX (aF fun K11 k11=>wp_region_lit (aA (bW (m:=1) (n:=3) rfl rfl (by decide)) (aG (k11 _ _ ?_))))))));refine aF fun K12 k12=>cQ rfl (wp_skip (k12 _ _ ?_));refine aF fun K13 k13=>wp_block (aF fun K14 k14=>wp_region_lit (aA (vV rfl rfl) ?_));simp only[zz];refine aA (aD) (aG (k14 _ _ ?_));refine aF fun K15 k15=>?_;simp only[zz];refine Gmq m aP (by kernel_rfl) (aI (aB) ?_);simp only[zz];refine Gql rfl (fun u m=>((m.b 1 rfl).full aJ aC)) ?_;simp only[zz];refine Kx rfl rfl (acb) (aI (aB) ?_);simp only[zz];refine Gql rfl (fun u m=>((m.b 0 rfl).full aJ aC)) ?_;simp only[zz];refine Kx rfl rfl (acb) (aI (aD) (aI (aD) (cP ?_)));clear m;intro u m;refine k15 _ _ ?_;refine aF fun K16 k16=>wp_region_lit (aA (aB) ?_);simp only[zz];refine aA (aB) (aA (kW rfl rfl) (aG (k16 _ _ ?_)));simp only[zz];refine cC rfl (fun hc2=>?_) (fun hc2=>?_)
  ·
   refine aF fun K17 k17=>wp_region_lit (aA (aB) (aA (aB) (aA (cO rfl rfl) (aA (aD) ?_))));simp only[zz];refine aG (k17 _ _ ?_);refine wp_ret ?_;try simp only[Exit.inBlock,Exit.then,if_true]
   refine bS rfl rfl ?_;try simp only[zD,zE]
   exact ⟨_,rfl,m.ext,by simp only[P3.lt_y ex hc2]⟩
  ·
   have ey : p.y = q.y:=by omega
   refine wp_skip (k13 _ _ ?_);refine wp_region_lit (aA (aQ (m:=1) (n:=1) (r:=2) rfl rfl (by decide)) (aA (aB) (aG (aX (aF fun K18 k18=>wp_region_lit (aA (bW (m:=2) (n:=3) rfl rfl (by decide)) (aG (k18 _ _ ?_))))))));refine aF fun K19 k19=>cQ rfl (wp_skip (k19 _ _ ?_));refine aF fun K20 k20=>wp_block (aF fun K21 k21=>wp_region_lit (aA (vW rfl rfl) ?_));simp only[zz];refine aA (aD) (aG (k21 _ _ ?_));refine aF fun K22 k22=>?_;simp only[zz];refine Gmq m aP (by kernel_rfl) (aI (aB) ?_);simp only[zz];refine Gql rfl (fun u m=>((m.b 1 rfl).full aJ aC)) ?_;simp only[zz];refine Kx rfl rfl (acc) (aI (aB) ?_);simp only[zz];refine Gql rfl (fun u m=>((m.b 0 rfl).full aJ aC)) ?_;simp only[zz];refine Kx rfl rfl (acc) (aI (aD) (aI (aD) (cP ?_)));clear m;intro u m;refine k22 _ _ ?_;refine aF fun K23 k23=>wp_region_lit (aA (aB) ?_);simp only[zz];refine aA (aB) (aA (kW rfl rfl) (aG (k23 _ _ ?_)));simp only[zz];refine cC rfl (fun hc2=>?_) (fun hc2=>?_)
   ·
    refine aF fun K24 k24=>wp_region_lit (aA (aB) (aA (aB) (aA (cO rfl rfl) (aA (aD) ?_))));simp only[zz];refine aG (k24 _ _ ?_);refine wp_ret ?_;try simp only[Exit.inBlock,Exit.then,if_true]
    refine bS rfl rfl ?_;try simp only[zD,zE]
    exact ⟨_,rfl,m.ext,by simp only[P3.lt_z ex ey]⟩
   ·
    have ez : p.z = q.z:=by omega
    refine wp_skip (k20 _ _ ?_);refine wp_region_lit (aA (aQ (m:=2) (n:=1) (r:=3) rfl rfl (by decide)) (aA (aB) (aG (aX (aF fun K25 k25=>wp_region_lit (aA (eM (m:=3) (n:=3) rfl rfl (by decide)) (aG (k25 _ _ ?_))))))));refine aF fun K26 k26=>iD rfl (wp_exit (k2 _ _ ?_));refine aF fun K27 k27=>wp_region_lit (aA (aD) ?_);simp only[zz];refine aG (k27 _ _ ?_);refine wp_ret ?_;try simp only[Exit.inBlock,Exit.then,if_true]
    refine bS rfl rfl ?_;try simp only[zD,zE]
    exact ⟨_,rfl,m.ext,by rw [decide_eq_false (fun h=>by unfold P3.Lt at h;omega)]⟩
theorem Jn {p q : P3} : tM prog 108 [pt p,pt q] (.int .i64 (xC p q)):=by
 intro w;refine ⟨acN,?_⟩;have m:=iJ.refl w
 go_enter func108,ntmps108
 refine aF fun K1 k1=>wp_region_lit (sT m rfl ?_);clear m;intro g1 u m;simp only[zz];refine sT m rfl ?_;clear m;intro g2 u m;refine aA (aD) (aG (k1 _ _ ?_));refine aF fun K2 k2=>wp_block (aF fun K3 k3=>wp_region_lit ?_);simp only[zz];refine aL rfl ((m.b 1 rfl).full aJ aC) ?_;simp only[zz];refine aL rfl ((m.b 0 rfl).full aJ aC) ?_;simp only[zz];refine Iv m rfl rfl (vJ) ?_;clear m;intro u m;refine aA (aD) (aG (k3 _ _ ?_));simp only[zz];refine cC rfl (fun hc1=>?_) (fun hc1=>?_)
 ·
  refine aF fun K4 k4=>wp_region_lit (aA (aD) (aG (k4 _ _ ?_)));refine wp_ret ?_;simp only[zz];try simp only[Exit.inBlock,Exit.then,if_true]
  refine bS rfl rfl ?_;try simp only[zD,zE]
  exact ⟨_,rfl,m.ext,by simp [xC,hc1]⟩
 ·
  refine aF fun K5 k5=>wp_region_lit (aL rfl ((m.b 0 rfl).full aJ aC) ?_);simp only[zz];refine aL rfl ((m.b 1 rfl).full aJ aC) ?_;simp only[zz];refine Iv m rfl rfl (vJ) ?_;clear m;intro u m;refine aA (aD) (aG (k5 _ _ ?_));simp only[zz];refine cC rfl (fun hc2=>?_) (fun hc2=>?_)
  ·
   refine aF fun K6 k6=>wp_region_lit (aA (aD) (aG (k6 _ _ ?_)));refine wp_ret ?_;simp only[zz];try simp only[Exit.inBlock,Exit.then,if_true]
   refine bS rfl rfl ?_;try simp only[zD,zE]
   exact ⟨_,rfl,m.ext,by simp [xC,hc1,hc2]⟩
  ·
   refine wp_skip (k2 _ _ ?_);refine aF fun K7 k7=>wp_region_lit (aA (aD) (aG (k7 _ _ ?_)));refine wp_ret ?_;simp only[zz];try simp only[Exit.inBlock,Exit.then,if_true]
   refine bS rfl rfl ?_;try simp only[zD,zE]
   exact ⟨_,rfl,m.ext,by simp [xC,hc1,hc2]⟩
end Go.Proofs.YtfohfflkhpfjeaaGreatDoor
namespace Go.Lith
open Go.RowKit
def acd (P : Program) (f : FuncId) (args : List Value) (w : World) (v : Value) : Prop:=bF P f ∧ Calls P f args.toArray w fun e w'=>∃ u,e = .returned u ∧ GX w w' ∧ u = v
section
variable {P : Program} {ds : List Deferred} {l : List Value} {x y : Operand} {T ty : TypeId}
variable {ops : Array Oper} {Q : Exit → Act → World → Prop} {rest : List Oper} {d : Nat} {pos : String} {after : Array Edge} {w w0 : World} {is : List It} {v : Value}
theorem Zs {E : TypeId} {z : Value} (m : iJ w0 w is) (hu : P.underlying T = some (.slice E)) (hi : (P.info? E).map (fun i=>(i.size,i.zero)) = some (1,some z)) (hz : z.cells = #[z]) {v v2 : Value} (hx : ev l x = v) (hv : v.cells = #[v]) (hy : ev l y = v2) (hv2 : v2.cells = #[v2])
 (h : ∀ g u,iJ w0 u (bI g [v,v2] E :: is) → wpList P ops Q rest (Fr (l.set d (.slice (some ⟨g,0,none⟩) 2 2)) ds) u) :
 wpList P ops Q (Oper.mk (some d) (.buildSlice T 2 #[(0,x),(1,y)]) ty pos after none :: rest) (Fr l ds) w:=by
 cases hq : P.info? E with
 | none=>rw [hq] at hi;cases hi
 | some i =>
  rw [hq] at hi;simp only[Option.map_some,Option.some.injEq,Prod.mk.injEq] at hi;obtain ⟨e1,e2⟩:=hi;exact kN (w':=w.alloc (.cells #[v,v2] E)) (v:=.slice (some ⟨w.heap.size,0,none⟩) 2 2) (fun o ho _=>by simp [execOp,ho,Instr.buildSlice,run_underlying hu,sizeOf,typeInfo,zeroValue,hq,e1,e2,hz,dD,hx,hv,hy,hv2,Instr.fill,newRow,newObj,Sem.run,wX]) (h _ _ (m.go (m.mem.newB ((dK.refl w).alloc _) (Nat.le_refl _) (iN w [v,v2] E)) (Nat.le_refl _)))
theorem aby {f : FuncId} {fo : Operand} {xs : Array Operand} {args : List Value} {first cap : Array Value} {a0 : Array TypeId} (m : iJ w0 w is) (hf : ev l fo = .func (.func f) first cap) (hxs : first.toList ++ xs.toList.map (ev l) ++ cap.toList = args) (hc : acd P f args w v)
 (h : ∀ u,iJ w0 u is → wpList P ops Q rest (Fr (l.set d v) ds) u) : wpList P ops Q (Oper.mk (some d) (.call { callee:=.value fo,args:=xs,argTypes:=a0 }) ty pos after none :: rest) (Fr l ds) w:=by
 refine wpList_plain rfl fun K hK=>?_;unfold Oper.wp;rw [iF,lM hc.1 hf hxs _ rfl];refine hc.2.mono ?_;rintro e w' ⟨u,rfl,hE,rfl⟩;show K ((Fr l ds).put (some d) u) w'
 rw [jA];exact hK _ _ (h w' (m.ext' hE))
end
end Go.Lith
namespace Go.Proofs
open Go.Shelf
def Tryz.sort127_ren : Go.Shelf.Ren:=⟨fun | 6=>127 | 15=>140 | 14=>139 | 28=>156 | 29=>157 | 20=>148 | 21=>149 | 22=>150 | 23=>151 | 24=>152 | 25=>153 | 26=>154 | 27=>155 | 46=>169 | 47=>170 | 48=>171 | 49=>172 | 50=>173 | 57=>179 | n=>n,fun | 22=>139 | 24=>143 | 25=>146 | 3=>3 | 39=>113 | 0=>0 | 53=>205 | 55=>126 | 4=>4 | 46=>199 | 45=>198 | 50=>61 | 5=>5 | 9=>9 | 66=>216 | 70=>220 | 76=>225 | 77=>226 | n=>n,fun | n=>n⟩
theorem Tryz.sort127 : Go.Proofs.SlLaysF0.n6 Tryz.prog Tryz.sort127_ren:={
 mixed:=by kernel_rfl
 f6:=⟨Tryz.f127.name,by decide,Tryz.func127.trans (congrArg some (by kernel_rfl))⟩
 f14:=⟨Tryz.f139.name,by decide,Tryz.func139.trans (congrArg some (by kernel_rfl))⟩
 f15:=Tryz.func140.trans (congrArg some (by kernel_rfl))
 f20:=⟨Tryz.f148.name,by decide,Tryz.func148.trans (congrArg some (by kernel_rfl))⟩
 f21:=⟨Tryz.f149.name,by decide,Tryz.func149.trans (congrArg some (by kernel_rfl))⟩
 f22:=⟨Tryz.f150.name,by decide,Tryz.func150.trans (congrArg some (by kernel_rfl))⟩
 f23:=⟨Tryz.f151.name,by decide,Tryz.func151.trans (congrArg some (by kernel_rfl))⟩
 f24:=⟨Tryz.f152.name,by decide,Tryz.func152.trans (congrArg some (by kernel_rfl))⟩
 f25:=⟨Tryz.f153.name,by decide,Tryz.func153.trans (congrArg some (by kernel_rfl))⟩
 f26:=⟨Tryz.f154.name,by decide,Tryz.func154.trans (congrArg some (by kernel_rfl))⟩
 f27:=⟨Tryz.f155.name,by decide,Tryz.func155.trans (congrArg some (by kernel_rfl))⟩
 f28:=Tryz.func156.trans (congrArg some (by kernel_rfl))
 f29:=Tryz.func157.trans (congrArg some (by kernel_rfl))
 f46:=⟨Tryz.f169.name,by decide,Tryz.func169.trans (congrArg some (by kernel_rfl))⟩
 f47:=Tryz.func170.trans (congrArg some (by kernel_rfl))
 f48:=Tryz.func171.trans (congrArg some (by kernel_rfl))
 f49:=⟨Tryz.f172.name,by decide,Tryz.func172.trans (congrArg some (by kernel_rfl))⟩
 f50:=⟨Tryz.f173.name,by decide,Tryz.func173.trans (congrArg some (by kernel_rfl))⟩
 f57:=⟨Tryz.f179.name,by decide,Tryz.func179.trans (congrArg some (by kernel_rfl))⟩
 t0:=Tryz.underlying0
 a0:=Tryz.isAgg0
 z0:=Tryz.sizeOf0
 v0:=Tryz.zeroValue0
 t3:=Tryz.underlying3
 a3:=Tryz.isAgg3
 z3:=Tryz.sizeOf3
 v3:=Tryz.zeroValue3
 t4:=Tryz.underlying4
 a4:=Tryz.isAgg4
 z4:=Tryz.sizeOf4
 v4:=Tryz.zeroValue4
 t5:=Tryz.underlying5
 a5:=Tryz.isAgg5
 z5:=Tryz.sizeOf5
 v5:=Tryz.zeroValue5
 t9:=Tryz.underlying9
 a9:=Tryz.isAgg9
 z9:=Tryz.sizeOf9
 v9:=Tryz.zeroValue9
 t22:=Tryz.underlying139
 a22:=Tryz.isAgg139
 z22:=Tryz.sizeOf139
 v22:=Tryz.zeroValue139
 t25:=Tryz.underlying146
 a25:=Tryz.isAgg146
 z25:=Tryz.sizeOf146
 v25:=Tryz.zeroValue146
 t39:=Tryz.underlying113
 a39:=Tryz.isAgg113
 z39:=Tryz.sizeOf113
 v39:=Tryz.zeroValue113
 t45:=Tryz.underlying198
 a45:=Tryz.isAgg198
 z45:=Tryz.sizeOf198
 v45:=Tryz.zeroValue198
 t46:=Tryz.underlying199
 a46:=Tryz.isAgg199
 z46:=Tryz.sizeOf199
 v46:=Tryz.zeroValue199
 t50:=Tryz.underlying61
 a50:=Tryz.isAgg61
 z50:=Tryz.sizeOf61
 v50:=Tryz.zeroValue61
 t53:=Tryz.underlying205
 a53:=Tryz.isAgg205
 z53:=Tryz.sizeOf205
 v53:=Tryz.zeroValue205
 t55:=Tryz.underlying126
 a55:=Tryz.isAgg126
 z55:=Tryz.sizeOf126
 v55:=Tryz.zeroValue126
 t66:=Tryz.underlying216
 a66:=Tryz.isAgg216
 z66:=Tryz.sizeOf216
 v66:=Tryz.zeroValue216
 t70:=Tryz.underlying220
 a70:=Tryz.isAgg220
 z70:=Tryz.sizeOf220
 v70:=Tryz.zeroValue220
 t76:=Tryz.underlying225
 a76:=Tryz.isAgg225
 z76:=Tryz.sizeOf225
 v76:=Tryz.zeroValue225
 t77:=Tryz.underlying226
 a77:=Tryz.isAgg226
 z77:=Tryz.sizeOf226
 v77:=Tryz.zeroValue226 }
def Tryz.sort128_ren : Go.Shelf.Ren:=⟨fun | 6=>128 | 15=>140 | 14=>141 | 28=>156 | 29=>157 | 20=>158 | 21=>159 | 22=>160 | 23=>161 | 24=>162 | 25=>163 | 26=>164 | 27=>165 | 46=>174 | 47=>170 | 48=>171 | 49=>175 | 50=>176 | 57=>180 | n=>n,fun | 22=>98 | 24=>48 | 25=>145 | 3=>3 | 39=>113 | 0=>0 | 53=>205 | 55=>126 | 4=>4 | 46=>199 | 45=>198 | 50=>61 | 5=>5 | 9=>9 | 66=>216 | 70=>220 | 76=>225 | 77=>226 | n=>n,fun | n=>n⟩
theorem Tryz.sort128 : Go.Proofs.SlLaysF0.n6 Tryz.prog Tryz.sort128_ren:={
 mixed:=by kernel_rfl
 f6:=⟨Tryz.f128.name,by decide,Tryz.func128.trans (congrArg some (by kernel_rfl))⟩
 f14:=⟨Tryz.f141.name,by decide,Tryz.func141.trans (congrArg some (by kernel_rfl))⟩
 f15:=Tryz.func140.trans (congrArg some (by kernel_rfl))
 f20:=⟨Tryz.f158.name,by decide,Tryz.func158.trans (congrArg some (by kernel_rfl))⟩
 f21:=⟨Tryz.f159.name,by decide,Tryz.func159.trans (congrArg some (by kernel_rfl))⟩
 f22:=⟨Tryz.f160.name,by decide,Tryz.func160.trans (congrArg some (by kernel_rfl))⟩
 f23:=⟨Tryz.f161.name,by decide,Tryz.func161.trans (congrArg some (by kernel_rfl))⟩
 f24:=⟨Tryz.f162.name,by decide,Tryz.func162.trans (congrArg some (by kernel_rfl))⟩
 f25:=⟨Tryz.f163.name,by decide,Tryz.func163.trans (congrArg some (by kernel_rfl))⟩
 f26:=⟨Tryz.f164.name,by decide,Tryz.func164.trans (congrArg some (by kernel_rfl))⟩
 f27:=⟨Tryz.f165.name,by decide,Tryz.func165.trans (congrArg some (by kernel_rfl))⟩
 f28:=Tryz.func156.trans (congrArg some (by kernel_rfl))
 f29:=Tryz.func157.trans (congrArg some (by kernel_rfl))
 f46:=⟨Tryz.f174.name,by decide,Tryz.func174.trans (congrArg some (by kernel_rfl))⟩
 f47:=Tryz.func170.trans (congrArg some (by kernel_rfl))
 f48:=Tryz.func171.trans (congrArg some (by kernel_rfl))
 f49:=⟨Tryz.f175.name,by decide,Tryz.func175.trans (congrArg some (by kernel_rfl))⟩
 f50:=⟨Tryz.f176.name,by decide,Tryz.func176.trans (congrArg some (by kernel_rfl))⟩
 f57:=⟨Tryz.f180.name,by decide,Tryz.func180.trans (congrArg some (by kernel_rfl))⟩
 t0:=Tryz.underlying0
 a0:=Tryz.isAgg0
 z0:=Tryz.sizeOf0
 v0:=Tryz.zeroValue0
 t3:=Tryz.underlying3
 a3:=Tryz.isAgg3
 z3:=Tryz.sizeOf3
 v3:=Tryz.zeroValue3
 t4:=Tryz.underlying4
 a4:=Tryz.isAgg4
 z4:=Tryz.sizeOf4
 v4:=Tryz.zeroValue4
 t5:=Tryz.underlying5
 a5:=Tryz.isAgg5
 z5:=Tryz.sizeOf5
 v5:=Tryz.zeroValue5
 t9:=Tryz.underlying9
 a9:=Tryz.isAgg9
 z9:=Tryz.sizeOf9
 v9:=Tryz.zeroValue9
 t22:=Tryz.underlying98
 a22:=Tryz.isAgg98
 z22:=Tryz.sizeOf98
 v22:=Tryz.zeroValue98
 t25:=Tryz.underlying145
 a25:=Tryz.isAgg145
 z25:=Tryz.sizeOf145
 v25:=Tryz.zeroValue145
 t39:=Tryz.underlying113
 a39:=Tryz.isAgg113
 z39:=Tryz.sizeOf113
 v39:=Tryz.zeroValue113
 t45:=Tryz.underlying198
 a45:=Tryz.isAgg198
 z45:=Tryz.sizeOf198
 v45:=Tryz.zeroValue198
 t46:=Tryz.underlying199
 a46:=Tryz.isAgg199
 z46:=Tryz.sizeOf199
 v46:=Tryz.zeroValue199
 t50:=Tryz.underlying61
 a50:=Tryz.isAgg61
 z50:=Tryz.sizeOf61
 v50:=Tryz.zeroValue61
 t53:=Tryz.underlying205
 a53:=Tryz.isAgg205
 z53:=Tryz.sizeOf205
 v53:=Tryz.zeroValue205
 t55:=Tryz.underlying126
 a55:=Tryz.isAgg126
 z55:=Tryz.sizeOf126
 v55:=Tryz.zeroValue126
 t66:=Tryz.underlying216
 a66:=Tryz.isAgg216
 z66:=Tryz.sizeOf216
 v66:=Tryz.zeroValue216
 t70:=Tryz.underlying220
 a70:=Tryz.isAgg220
 z70:=Tryz.sizeOf220
 v70:=Tryz.zeroValue220
 t76:=Tryz.underlying225
 a76:=Tryz.isAgg225
 z76:=Tryz.sizeOf225
 v76:=Tryz.zeroValue225
 t77:=Tryz.underlying226
 a77:=Tryz.isAgg226
 z77:=Tryz.sizeOf226
 v77:=Tryz.zeroValue226 }
end Go.Proofs
namespace Go.Proofs.YtfohfflkhpfjeaaGreatDoor
open Go.Proofs.Tryz
open Go.RowKit Go.Lith
set_option maxRecDepth 100000
attribute [local irreducible] wpList wpQuiet dY dO dN Code.wp
theorem iC : rB prog 48 pt:=by
 refine rB.agg (cs:=fun p=>#[.int .i64 p.x,.int .i64 p.y,.int .i64 p.z]) (fun _=>rfl) dW (fun e p=>?_) (fun p q=>?_) (fun p=>?_)
 ·
  refine rI.struct (d:=9999) dW fun f hf=>?_;simp only[List.mem_cons,List.not_mem_nil,or_false] at hf;rcases hf with rfl | rfl | rfl <;> exact ⟨_,dR bZ rfl,rI.int (d:=9998) iT⟩
 · exact (rA 9998).iff ⟨fun h=>P3.eq h.1 h.2.1 h.2.2,fun h=>by subst h;exact ⟨rfl,rfl,rfl⟩⟩
 · simp [pt,Instr.sameBits]
theorem Qc {w0 w : World} {is : List It} {g c : Nat} {es : Array MapEntry} {D : List (P3 × Bool)} {p : P3} (m : cF w0 w is) (k : Nat) (hk : is[k]? = some (mI g es c)) (hD1 : cS pt Value.bool D es c) : Calls prog 109 [.map (some g),pt p].toArray w fun e w'=>∃ v i,e = .returned v ∧ cF w0 w' (is.set k i) ∧ (v = .bool (!(dG D p).getD false) ∧ ∃ es' c',i = mI g es' c' ∧ cS pt Value.bool (gL D p true) es' c'):=by
 go_enter func109,ntmps109
 refine aF fun K1 k1=>wp_region_lit (eP m rfl ?_);clear m;intro g1 u m;refine aA (aD) (aG (k1 _ _ ?_));refine aF fun K2 k2=>aF fun K3 k3=>wp_region_lit (aA (aB) ?_);simp only[zz];refine aL rfl ((m.b 0 rfl).full aJ aC) ?_;simp only[zz];refine fL (eR (ek:=pt) (en:=Value.bool) (k:=p) (v0:=false) underlying147 mD iC rfl rfl (m.p (k + 1) hk) hD1) ?_;simp only[zz];refine aG (k3 _ _ ?_);refine eD rfl (fun hc1=>?_) (fun hc1=>?_)
 ·
  refine aF fun K4 k4=>wp_region_lit (aA (aD) (aG (k4 _ _ ?_)));refine wp_ret ?_;simp only[zz];try simp only[Exit.inBlock,Exit.then,if_true]
  refine bS rfl rfl ?_;try simp only[zD,zE]
  exact ⟨_,mI g es c,rfl,by rw [Lv hk];exact m.tl,by rw [hc1];rfl,es,c,rfl,by rw [yW (by cases hq : dG D p with | none=>rw [hq] at hc1;cases hc1 | some x=>rw [hq] at hc1;exact congrArg some hc1)];exact hD1⟩
 ·
  refine wp_skip (k2 _ _ ?_);refine aF fun K5 k5=>wp_region_lit (aA (aB) ?_);simp only[zz];refine aL rfl ((m.b 0 rfl).full aJ aC) ?_;simp only[zz];refine fT (ek:=pt) (en:=Value.bool) (a:=p) (v:=true) m (k + 1) hk underlying147 iC rfl rfl rfl hD1 ?_;clear m;intro es1 c1 u m hD';clear hD1;have hD1:=hD';clear hD';simp only[zF,zG] at m;refine aG (k5 _ _ ?_);refine aF fun K6 k6=>wp_region_lit (aA (aD) (aG (k6 _ _ ?_)));refine wp_ret ?_;simp only[zz];try simp only[Exit.inBlock,Exit.then,if_true]
  refine bS rfl rfl ?_;try simp only[zD,zE]
  exact ⟨_,_,rfl,m.tl,by rw [hc1];rfl,_,_,rfl,hD1⟩
theorem abz {w0 w : World} {is : List It} {A : Option Addr} {n cap : Nat} {xs : List P3} (m : cF w0 w is) (k : Nat) (hi : is[k]? = some (oI 48 3 A n cap (xs.flatMap pG))) (hsz : n < 4611686018427387904) :
 Calls prog 128 [.slice A n cap,.func (.func 108) #[] #[]].toArray w fun e w'=>∃ v i,e = .returned v ∧ cF w0 w' (is.set k i) ∧ (v = .tuple #[] ∧ ∃ ys : List P3,i = oI 48 3 A n cap (ys.flatMap pG) ∧ ys.Perm xs ∧ ys.Pairwise fun a b=>ltOf xC b a = false) :=
 Lx (enc:=pG) Tryz.sort128 (fun w=>uU aJ w) (fun w=>fO aC w) (fun _=>rfl) (by decide) Ly xC Yw (fun x y=>Jn) m k hi hsz
theorem Uw {g c : Nat} {es : Array MapEntry} {D : List (P3 × Bool)} (w : World) (hM : kO w g es c) (hD : cS pt Value.bool D es c) (hl : D.length ≤ 1000000) : eL prog 110 [.map (some g),.func (.func 108) #[] #[]] w (OR 48 3 (fun xs=>∃ ps : List P3,xs = ps.flatMap pG ∧ ps.Perm (D.map (·.1)) ∧ ps.Pairwise fun a b=>¬ b.Lt a) w):=by
 refine ⟨acO,?_⟩;have m:=cF.refl w
 go_enter func110,ntmps110
 refine aF fun K1 k1=>wp_region_lit (aA (aD) (aG (k1 _ _ ?_)));refine aF fun K2 k2=>wp_region_lit (aA (aD) ?_);replace m:=m.nilO 48 3;refine aG (k2 _ _ ?_);refine aF fun K3 k3=>aF fun K4 k4=>wp_region_lit (aA (aB) ?_);simp only[zz];refine wM m underlying147 rfl (hM.ext m.ext) ?_;clear m;intro r1 u m;refine aG (k4 _ _ ?_);refine wp_block ?_;simp only[zz];try simp only[Nat.zero_add,Nat.reduceAdd,Nat.reduceMul,Int.reduceToNat]
 refine bJ [5] [6,9,10,11,12,13,14,15,16] (fun n vs wl=>∃ (dn rs : List (P3 × Bool)) (A1 : Option Addr) (n1 cap1 : Nat) (sn : Array Nat),vs = [.slice A1 n1 cap1] ∧ cF w wl [iI r1 g c sn,oI 48 3 A1 n1 cap1 ((dn.map (·.1)).flatMap pG)] ∧ (mF pt Value.bool D es sn dn rs) ∧ (n1 = dn.length) ∧ (n = rs.length)) ?_ ?_
 ·
  apply Exists.intro;simp only[zQ,zR,zD,zE];exact ⟨[],D,none,0,0,#[],rfl,m,mF.start hD,rfl,rfl⟩
 ·
  intro n vs wr hI u;clear m;obtain ⟨dn,rs,A1,n1,cap1,sn,rfl,m,hT,hn1,hn⟩:=hI;have hlen:=hT.len;simp only[zu,zF,zG];refine aF fun K5 k5=>wp_region_lit (Dv m 0 rfl rfl (hM.ext m.ext) hD hT ?_);clear m;intro bb kk vv sn u m hN;simp only[zF,zG] at m;refine aA (sW rfl) (aG (k5 _ _ ?_));refine aF fun K6 k6=>?_;simp only[zz];refine eD rfl (fun hc1=>?_) (fun hc1=>?_)
  ·
   obtain ⟨kp,kb,rs2,hp,hT2⟩:=Dy hc1 hN;refine wp_skip (k6 _ _ ?_);refine wp_block (aF fun K7 k7=>wp_region_lit (fL (sX rfl (m.r 0 rfl) (hM.ext m.ext) hD hT2) ?_));simp only[zz];refine aA (bM rfl rfl) ?_;simp only[zz];refine bH m bU rfl ?_;clear m;intro g2 u m;simp only[zz];refine aT m 0 rfl rfl rfl aC (dX rfl) rfl ?_;clear m;intro u m;simp only[zy,zx,bK,zF,zG,Nat.reduceAdd] at m;refine aG (k7 _ _ ?_);refine wp_region_lit (aA (aB) ?_);simp only[zz];refine aL rfl ((m.b 0 rfl).full aJ aC) ?_;simp only[zz];refine vE rfl ?_;intro u g3 e hg hB;replace m:=m.newB e hg hB;clear e hg hB;simp only[zz];refine eG m 3 rfl rfl kK uH rfl (by decide) rfl rfl rfl (m.b 0 rfl).rowsO (qX rfl) (by omega) (by omega) ?_;clear m;intro A1 cap1 u m;simp only[zF,zG] at m;refine aA (aD) (aG ?_);simp only[zz];simp only[Exit.inBlock,Exit.then];refine ⟨rs2.length,_,?_,rfl,?_,?_⟩
   · rw [hn,hp.length_eq];exact Nat.lt_succ_self _
   · simp only[zz,zv]
   ·
    simp only[zQ,zR,zD,zE];exact ⟨dn ++ [(kp,kb)],rs2,_,_,_,_,rfl,((m.reO 3 rfl ((m.o 3 rfl).as (by simp [pG]))).sel [false,false,true,true]),hT2,by simp [hn1],rfl⟩
  ·
   obtain rfl:=Dx hc1 hN;refine wp_exit (k3 _ _ ?_);refine aF fun K8 k8=>wp_region_lit (aA (aB) (aA (aB) ?_));simp only[zz];refine oX m 1 ac3 rfl rfl (fun m=>abz m 1 rfl (by omega)) ?_;clear m;rintro v i u m ⟨rfl,ys,rfl,hys,hso⟩;simp only[zF,zG] at m;refine aG (k8 _ _ ?_);refine aF fun K9 k9=>wp_region_lit (aA (aB) (aA (aD) (aG (k9 _ _ ?_))));refine wp_ret ?_;simp only[zz];try simp only[Exit.inBlock,Exit.then,if_true]
   refine bS rfl rfl ?_;try simp only[zD,zE]
   exact ⟨_,rfl,m.ext,_,_,_,_,rfl,(m.o 1 rfl),_,rfl,hys.trans (hT.done.map _),hso.imp fun h=>by simpa [ltOf,sA] using h⟩
end Go.Proofs.YtfohfflkhpfjeaaGreatDoor
namespace Go.Proofs.YtfohfflkhpfjeaaGreatDoor
open Go.Proofs.Tryz
open Go.RowKit Go.Lith
set_option maxRecDepth 100000
attribute [local irreducible] wpList wpQuiet dY dO dN Code.wp
theorem uP : rB prog 143 ed:=by
 refine rB.agg (cs:=fun p=>#[.int .i64 p.1.x,.int .i64 p.1.y,.int .i64 p.1.z,.int .i64 p.2.x,.int .i64 p.2.y,.int .i64 p.2.z]) (fun _=>rfl) jQ (fun e p=>?_) (fun p q=>?_) (fun p=>?_)
 ·
  refine rI.struct (d:=9999) jQ fun f hf=>?_;simp only[List.mem_cons,List.not_mem_nil,or_false] at hf;rcases hf with rfl | rfl
  ·
   refine ⟨_,fP aJ aC rfl,?_⟩;refine rI.struct (d:=9998) dW fun f hf=>?_;simp only[List.mem_cons,List.not_mem_nil,or_false] at hf;rcases hf with rfl | rfl | rfl
   · exact ⟨_,dR bZ rfl,rI.int (d:=9997) iT⟩
   · exact ⟨_,dR bZ rfl,rI.int (d:=9997) iT⟩
   · exact ⟨_,dR bZ rfl,rI.int (d:=9997) iT⟩
  ·
   refine ⟨_,fP aJ aC rfl,?_⟩;refine rI.struct (d:=9998) dW fun f hf=>?_;simp only[List.mem_cons,List.not_mem_nil,or_false] at hf;rcases hf with rfl | rfl | rfl
   · exact ⟨_,dR bZ rfl,rI.int (d:=9997) iT⟩
   · exact ⟨_,dR bZ rfl,rI.int (d:=9997) iT⟩
   · exact ⟨_,dR bZ rfl,rI.int (d:=9997) iT⟩
 · exact (abg _).iff ⟨fun h=>Prod.ext (P3.eq (h.1) (h.2.1) (h.2.2.1)) (P3.eq (h.2.2.2.1) (h.2.2.2.2.1) (h.2.2.2.2.2)),fun h=>by subst h;simp only[and_self]⟩
 · simp [ed,Instr.sameBits]
theorem afN {x y : Int} {g1 : Nat} (w : World) (hB1 : gD w g1 [.int .i64 x,.int .i64 y] 3) : acd prog 107 [.slice (some ⟨g1,0,none⟩) 2 2] w (.int .i64 (if x = 0 then y else x)):=by
 refine ⟨acM,?_⟩;have m:=iJ.refl w
 go_enter func107,ntmps107
 refine aF fun K1 k1=>wp_region_lit (aA (aD) (aG (k1 _ _ ?_)));refine aF fun K2 k2=>wp_region_lit (aA (aD) (aG (k2 _ _ ?_)));refine aF fun K3 k3=>aF fun K4 k4=>wp_region_lit (aA (aB) (aA (bA rfl bX rfl) ?_));simp only[zz];refine aA (aB) (aG (k4 _ _ ?_));refine wp_block (wp_loop_rounds 3 (dP (aF fun K5 k5=>wp_region_lit (aA (bW (m:=0) (n:=2) rfl rfl (by decide)) (aG (k5 _ _ ?_))))));refine aF fun K6 k6=>cQ rfl (wp_skip (k6 _ _ ?_));refine aF fun K7 k7=>wp_block (aF fun K8 k8=>wp_region_lit ?_);simp only[zz];refine aA (aK bX bG rfl rfl (by decide) (by omega) rfl) ?_;simp only[zz];refine aL rfl ((hB1.ext m.ext.ext).lies1 bZ rfl) ?_;simp only[zz];refine aA (aD) (aG (k8 _ _ ?_));refine aF fun K9 k9=>wp_region_lit (aA (aB) (aA (aB) (aA (kW rfl rfl) ?_)));simp only[zz];refine aG (k9 _ _ ?_);refine cC rfl (fun hc2=>?_) (fun hc2=>?_)
 ·
  refine aF fun K10 k10=>wp_region_lit (aA (aB) (aA (aD) (aG (k10 _ _ ?_))));refine wp_ret ?_;simp only[zz];try simp only[Exit.inBlock,Exit.then,if_true]
  refine bS rfl rfl ?_;try simp only[zD,zE]
  exact ⟨_,rfl,m.ext,by rw [if_neg hc2]⟩
 ·
  have hx : x = 0:=by omega
  refine wp_skip (k7 _ _ ?_);refine wp_region_lit (aA (aQ (m:=0) (n:=1) (r:=1) rfl rfl (by decide)) (aA (aB) (aG (aX (aF fun K11 k11=>wp_region_lit (aA (bW (m:=1) (n:=2) rfl rfl (by decide)) (aG (k11 _ _ ?_))))))));refine aF fun K12 k12=>cQ rfl (wp_skip (k12 _ _ ?_));refine aF fun K13 k13=>wp_block (aF fun K14 k14=>wp_region_lit ?_);simp only[zz];refine aA (aK bX bG rfl rfl (by decide) (by omega) rfl) ?_;simp only[zz];refine aL rfl ((hB1.ext m.ext.ext).lies1 bZ rfl) ?_;simp only[zz];refine aA (aD) (aG (k14 _ _ ?_));refine aF fun K15 k15=>wp_region_lit (aA (aB) (aA (aB) (aA (kW rfl rfl) ?_)));simp only[zz];refine aG (k15 _ _ ?_);refine cC rfl (fun hc2=>?_) (fun hc2=>?_)
  ·
   refine aF fun K16 k16=>wp_region_lit (aA (aB) (aA (aD) (aG (k16 _ _ ?_))));refine wp_ret ?_;simp only[zz];try simp only[Exit.inBlock,Exit.then,if_true]
   refine bS rfl rfl ?_;try simp only[zD,zE]
   exact ⟨_,rfl,m.ext,by rw [if_pos hx]⟩
  ·
   have hy : y = 0:=by omega
   refine wp_skip (k13 _ _ ?_);refine wp_region_lit (aA (aQ (m:=1) (n:=1) (r:=2) rfl rfl (by decide)) (aA (aB) (aG (aX (aF fun K17 k17=>wp_region_lit (aA (eM (m:=2) (n:=2) rfl rfl (by decide)) (aG (k17 _ _ ?_))))))));refine aF fun K18 k18=>iD rfl (wp_exit (k3 _ _ ?_));refine aF fun K19 k19=>wp_region_lit (aA (aB) ?_);simp only[zz];refine aA (aD) (aG (k19 _ _ ?_));refine wp_ret ?_;simp only[zz];try simp only[Exit.inBlock,Exit.then,if_true]
   refine bS rfl rfl ?_;try simp only[zD,zE]
   exact ⟨_,rfl,m.ext,by rw [if_pos hx,hy]⟩
def Ux (a b : E3) : Int:=if xC a.1 b.1 = 0 then xC a.2 b.2 else xC a.1 b.1
theorem Hr {p q : P3} : xC p q = 0 ↔ p = q:=by
 unfold xC;rcases P3.lt_tri p q with h | h | h
 · rw [if_pos h];exact ⟨fun e=>(by cases e),fun e=>absurd (e ▸ h) (P3.lt_irrefl _)⟩
 · subst h;rw [if_neg (P3.lt_irrefl _),if_neg (P3.lt_irrefl _)];exact ⟨fun _=>rfl,fun _=>rfl⟩
 · rw [if_neg (fun k=>P3.lt_irrefl _ (P3.lt_trans h k)),if_pos h];exact ⟨fun e=>(by cases e),fun e=>absurd (e ▸ h) (P3.lt_irrefl _)⟩
theorem yA (a b : E3) : (Ux a b < 0) ↔ yK a b:=by
 unfold Ux yK;split
 ·
  rename_i h;have h':=Hr.1 h;rw [sA];exact ⟨fun k=>.inr ⟨h',k⟩,fun k=>k.elim (fun k=>absurd (h' ▸ k) (P3.lt_irrefl _)) fun k=>k.2⟩
 ·
  rename_i h;rw [sA];exact ⟨.inl,fun k=>k.elim id fun k=>absurd (Hr.2 k.1) h⟩
instance : Inhabited E3:=⟨(⟨0,0,0⟩,⟨0,0,0⟩)⟩
theorem Zt : Go.Sort.SWO (Go.Proofs.ltOf Ux) where
 irrefl a:=by simp only[Go.Proofs.ltOf,decide_eq_false_iff_not,yA];exact yK.irrefl a
 trans x y z h1 h2:=by
  simp only[Go.Proofs.ltOf,decide_eq_true_eq,yA] at *
  exact h1.trans h2
 ntrans x y z h1 h2:=by
  simp only[Go.Proofs.ltOf,decide_eq_false_iff_not,yA] at *
  intro h;rcases yK.tri y x with k | k | k
  · exact absurd (k.trans h) (by first | exact h2 | exact h1)
  · subst k;first | exact h2 h | exact h1 h
  · first | exact h1 k | exact h2 k
theorem abA {p q : E3} : tM prog 106 [ed p,ed q] (.int .i64 (Ux p q)):=by
 intro w;refine ⟨acL,?_⟩;have m:=iJ.refl w
 go_enter func106,ntmps106
 refine aF fun K1 k1=>wp_region_lit (sT m rfl ?_);clear m;intro g1 u m;simp only[zz];refine sT m rfl ?_;clear m;intro g2 u m;refine aA (aD) (aG (k1 _ _ ?_));refine aF fun K2 k2=>?_;simp only[zz];refine Xp m 10 aP (by kernel_rfl) ?_;simp only[zy];refine aI (aO (c:=2) jQ rfl aC rfl rfl) ?_;simp only[zz];refine Gql rfl (fun u m=>((m.b 1 rfl).lies aJ aC rfl rfl)) ?_;simp only[zz,zy,Nat.zero_add,Nat.reduceAdd,Nat.reduceMul,Int.reduceToNat];refine aI (aO (c:=2) jQ rfl aC rfl rfl) ?_;simp only[zz];refine Gql rfl (fun u m=>((m.b 0 rfl).lies aJ aC rfl rfl)) ?_;simp only[zz,zy,Nat.zero_add,Nat.reduceAdd,Nat.reduceMul,Int.reduceToNat];refine Kx rfl rfl (Jn (p:=p.1) (q:=q.1)) (aI (aO (c:=2) jQ rfl aC rfl rfl) ?_);simp only[zz];refine Gql rfl (fun u m=>((m.b 1 rfl).lies aJ aC rfl rfl)) ?_;simp only[zz,zy,Nat.zero_add,Nat.reduceAdd,Nat.reduceMul,Int.reduceToNat];refine aI (aO (c:=2) jQ rfl aC rfl rfl) ?_;simp only[zz];refine Gql rfl (fun u m=>((m.b 0 rfl).lies aJ aC rfl rfl)) ?_;simp only[zz,zy,Nat.zero_add,Nat.reduceAdd,Nat.reduceMul,Int.reduceToNat];refine Kx rfl rfl (Jn (p:=p.2) (q:=q.2)) (cP ?_);clear m;intro u m;simp only[zz];refine Zs m bX (z:=.int .i64 0) (by kernel_rfl) rfl rfl rfl rfl rfl ?_;clear m;intro g3 u m;simp only[zz];refine aby m rfl rfl (afN _ (m.b 0 rfl)) ?_;clear m;intro u m;refine aA (aD) (aG (k2 _ _ ?_));refine wp_ret ?_;simp only[zz];try simp only[Exit.inBlock,Exit.then,if_true]
 refine bS rfl rfl ?_;try simp only[zD,zE]
 exact ⟨_,rfl,m.ext,rfl⟩
theorem Jo {w0 w : World} {is : List It} {g c : Nat} {es : Array MapEntry} {D : List (E3 × Bool)} {p : E3} (m : cF w0 w is) (k : Nat) (hk : is[k]? = some (mI g es c)) (hD1 : cS ed Value.bool D es c) : Calls prog 125 [.map (some g),ed p].toArray w fun e w'=>∃ v i,e = .returned v ∧ cF w0 w' (is.set k i) ∧ (v = .bool (!(dG D p).getD false) ∧ ∃ es' c',i = mI g es' c' ∧ cS ed Value.bool (gL D p true) es' c'):=by
 go_enter func125,ntmps125
 refine aF fun K1 k1=>wp_region_lit (eP m rfl ?_);clear m;intro g1 u m;refine aA (aD) (aG (k1 _ _ ?_));refine aF fun K2 k2=>aF fun K3 k3=>wp_region_lit (aA (aB) ?_);simp only[zz];refine aL rfl ((m.b 0 rfl).full kC eB) ?_;simp only[zz];refine fL (eR (ek:=ed) (en:=Value.bool) (k:=p) (v0:=false) underlying136 mD uP rfl rfl (m.p (k + 1) hk) hD1) ?_;simp only[zz];refine aG (k3 _ _ ?_);refine eD rfl (fun hc1=>?_) (fun hc1=>?_)
 ·
  refine aF fun K4 k4=>wp_region_lit (aA (aD) (aG (k4 _ _ ?_)));refine wp_ret ?_;simp only[zz];try simp only[Exit.inBlock,Exit.then,if_true]
  refine bS rfl rfl ?_;try simp only[zD,zE]
  exact ⟨_,mI g es c,rfl,by rw [Lv hk];exact m.tl,by rw [hc1];rfl,es,c,rfl,by rw [yW (by cases hq : dG D p with | none=>rw [hq] at hc1;cases hc1 | some x=>rw [hq] at hc1;exact congrArg some hc1)];exact hD1⟩
 ·
  refine wp_skip (k2 _ _ ?_);refine aF fun K5 k5=>wp_region_lit (aA (aB) ?_);simp only[zz];refine aL rfl ((m.b 0 rfl).full kC eB) ?_;simp only[zz];refine fT (ek:=ed) (en:=Value.bool) (a:=p) (v:=true) m (k + 1) hk underlying136 uP rfl rfl rfl hD1 ?_;clear m;intro es1 c1 u m hD';clear hD1;have hD1:=hD';clear hD';simp only[zF,zG] at m;refine aG (k5 _ _ ?_);refine aF fun K6 k6=>wp_region_lit (aA (aD) (aG (k6 _ _ ?_)));refine wp_ret ?_;simp only[zz];try simp only[Exit.inBlock,Exit.then,if_true]
  refine bS rfl rfl ?_;try simp only[zD,zE]
  exact ⟨_,_,rfl,m.tl,by rw [hc1];rfl,_,_,rfl,hD1⟩
theorem Mq (p : E3) : ∀ v ∈ cB p,v.oneCell' = true:=fun v h=>by
 simp only[cB,List.mem_cons,List.not_mem_nil,or_false] at h;rcases h with rfl | rfl | rfl | rfl | rfl | rfl <;> rfl
theorem abB {w0 w : World} {is : List It} {A : Option Addr} {n cap : Nat} {xs : List E3} (m : cF w0 w is) (k : Nat) (hi : is[k]? = some (oI 143 6 A n cap (xs.flatMap cB))) (hsz : n < 4611686018427387904) :
 Calls prog 127 [.slice A n cap,.func (.func 106) #[] #[]].toArray w fun e w'=>∃ v i,e = .returned v ∧ cF w0 w' (is.set k i) ∧ (v = .tuple #[] ∧ ∃ ys : List E3,i = oI 143 6 A n cap (ys.flatMap cB) ∧ ys.Perm xs ∧ ys.Pairwise fun a b=>ltOf Ux b a = false) :=
 Lx (enc:=cB) Tryz.sort127 (fun w=>uU kC w) (fun w=>fO eB w) (fun _=>rfl) (by decide) Mq Ux Zt (fun x y=>abA) m k hi hsz
theorem Uy {g c : Nat} {es : Array MapEntry} {D : List (E3 × Bool)} (w : World) (hM : kO w g es c) (hD : cS ed Value.bool D es c) (hl : D.length ≤ 100000000) : eL prog 105 [.map (some g),.func (.func 106) #[] #[]] w (OR 143 6 (fun xs=>∃ ps : List E3,xs = ps.flatMap cB ∧ ps.Perm (D.map (·.1)) ∧ ps.Pairwise fun a b=>¬ yK b a) w):=by
 refine ⟨acK,?_⟩;have m:=cF.refl w
 go_enter func105,ntmps105
 refine aF fun K1 k1=>wp_region_lit (aA (aD) (aG (k1 _ _ ?_)));refine aF fun K2 k2=>wp_region_lit (aA (aD) ?_);replace m:=m.nilO 143 6;refine aG (k2 _ _ ?_);refine aF fun K3 k3=>aF fun K4 k4=>wp_region_lit (aA (aB) ?_);simp only[zz];refine wM m underlying136 rfl (hM.ext m.ext) ?_;clear m;intro r1 u m;refine aG (k4 _ _ ?_);refine wp_block ?_;simp only[zz];try simp only[Nat.zero_add,Nat.reduceAdd,Nat.reduceMul,Int.reduceToNat]
 refine bJ [5] [6,9,10,11,12,13,14,15,16] (fun n vs wl=>∃ (dn rs : List (E3 × Bool)) (A1 : Option Addr) (n1 cap1 : Nat) (sn : Array Nat),vs = [.slice A1 n1 cap1] ∧ cF w wl [iI r1 g c sn,oI 143 6 A1 n1 cap1 ((dn.map (·.1)).flatMap cB)] ∧ (mF ed Value.bool D es sn dn rs) ∧ (n1 = dn.length) ∧ (n = rs.length)) ?_ ?_
 ·
  apply Exists.intro;simp only[zQ,zR,zD,zE];exact ⟨[],D,none,0,0,#[],rfl,m,mF.start hD,rfl,rfl⟩
 ·
  intro n vs wr hI u;clear m;obtain ⟨dn,rs,A1,n1,cap1,sn,rfl,m,hT,hn1,hn⟩:=hI;have hlen:=hT.len;simp only[zu,zF,zG];refine aF fun K5 k5=>wp_region_lit (Dv m 0 rfl rfl (hM.ext m.ext) hD hT ?_);clear m;intro bb kk vv sn u m hN;simp only[zF,zG] at m;refine aA (sW rfl) (aG (k5 _ _ ?_));refine aF fun K6 k6=>?_;simp only[zz];refine eD rfl (fun hc1=>?_) (fun hc1=>?_)
  ·
   obtain ⟨kp,kb,rs2,hp,hT2⟩:=Dy hc1 hN;refine wp_skip (k6 _ _ ?_);refine wp_block (aF fun K7 k7=>wp_region_lit (fL (sX rfl (m.r 0 rfl) (hM.ext m.ext) hD hT2) ?_));simp only[zz];refine aA (bM rfl rfl) ?_;simp only[zz];refine bH m nE rfl ?_;clear m;intro g2 u m;simp only[zz];refine aT m 0 rfl rfl rfl eB (dX rfl) rfl ?_;clear m;intro u m;simp only[zy,zx,bK,zF,zG,Nat.reduceAdd] at m;refine aG (k7 _ _ ?_);refine wp_region_lit (aA (aB) ?_);simp only[zz];refine aL rfl ((m.b 0 rfl).full kC eB) ?_;simp only[zz];refine Ph rfl ?_;intro u g3 e hg hB;replace m:=m.newB e hg hB;clear e hg hB;simp only[zz];refine eG m 3 rfl rfl underlying139 abe rfl (by decide) rfl rfl rfl (m.b 0 rfl).rowsO (qX rfl) (by omega) (by omega) ?_;clear m;intro A1 cap1 u m;simp only[zF,zG] at m;refine aA (aD) (aG ?_);simp only[zz];simp only[Exit.inBlock,Exit.then];refine ⟨rs2.length,_,?_,rfl,?_,?_⟩
   · rw [hn,hp.length_eq];exact Nat.lt_succ_self _
   · simp only[zz,zv]
   ·
    simp only[zQ,zR,zD,zE];exact ⟨dn ++ [(kp,kb)],rs2,_,_,_,_,rfl,((m.reO 3 rfl ((m.o 3 rfl).as (by simp [cB]))).sel [false,false,true,true]),hT2,by simp [hn1],rfl⟩
  ·
   obtain rfl:=Dx hc1 hN;refine wp_exit (k3 _ _ ?_);refine aF fun K8 k8=>wp_region_lit (aA (aB) (aA (aB) ?_));simp only[zz];refine oX m 1 ac2 rfl rfl (fun m=>abB m 1 rfl (by omega)) ?_;clear m;rintro v i u m ⟨rfl,ys,rfl,hys,hso⟩;simp only[zF,zG] at m;refine aG (k8 _ _ ?_);refine aF fun K9 k9=>wp_region_lit (aA (aB) (aA (aD) (aG (k9 _ _ ?_))));refine wp_ret ?_;simp only[zz];try simp only[Exit.inBlock,Exit.then,if_true]
   refine bS rfl rfl ?_;try simp only[zD,zE]
   exact ⟨_,rfl,m.ext,_,_,_,_,rfl,(m.o 1 rfl),_,rfl,hys.trans (hT.done.map _),hso.imp fun h=>by simpa [ltOf,yA] using h⟩
end Go.Proofs.YtfohfflkhpfjeaaGreatDoor
namespace Go.Lith
open Go.RowKit
section
variable {w0 w w' : World} {is : List It}
theorem cF.plus {js : List It} (m : cF w0 w is) (h : cF w w' js) : cF w0 w' (js ++ is):=by
 have m':=m.ext' h.ext;refine ⟨m'.ext,fun i hi=>?_,fun i hi b hb=>?_,List.pairwise_append.2 ⟨h.nd,m.nd,fun i hi j hj b h1 h2=>?_⟩⟩
 · exact (List.mem_append.1 hi).elim (h.all i) (m'.all i)
 · rcases List.mem_append.1 hi with hi | hi
   · exact Nat.le_trans m.ext.size (h.ge i hi b hb)
   · exact m'.ge i hi b hb
 · have k1:=h.ge i hi b h1
   have k2:=j.lt w b (m.all j hj) h2;omega
end
end Go.Lith
namespace Go.Proofs.YtfohfflkhpfjeaaGreatDoor
open Go.Proofs.Tryz
open Go.RowKit Go.Lith
set_option maxRecDepth 100000
attribute [local irreducible] wpList wpQuiet dY dO dN Code.wp
theorem Zu {t : T3} : iX prog 124 [tr t] (.agg #[.int .i64 t.a.x,.int .i64 t.a.y,.int .i64 t.a.z,.int .i64 t.b.x,.int .i64 t.b.y,.int .i64 t.b.z,.int .i64 t.b.x,.int .i64 t.b.y,.int .i64 t.b.z,.int .i64 t.c.x,.int .i64 t.c.y,.int .i64 t.c.z,.int .i64 t.c.x,.int .i64 t.c.y,.int .i64 t.c.z,.int .i64 t.a.x,.int .i64 t.a.y,.int .i64 t.a.z]):=by
 intro w;refine ⟨ac0,?_⟩;have m:=cF.refl w
 go_enter func124,ntmps124
 refine aF fun K1 k1=>wp_region_lit (eP m rfl ?_);clear m;intro g1 u m;simp only[zz];refine bH m Lj rfl ?_;clear m;intro g2 u m;refine aG (k1 _ _ ?_);refine aF fun K2 k2=>wp_region_lit (aA (aH aY aC rfl rfl (by decide) (by decide) rfl) ?_);simp only[zz];refine aL rfl ((m.b 1 rfl).lies aJ aC rfl rfl) ?_;simp only[zz,zy,Nat.zero_add,Nat.reduceAdd,Nat.reduceMul,Int.reduceToNat];refine aA (aH aY aC rfl rfl (by decide) (by decide) rfl) ?_;simp only[zz];refine aL rfl ((m.b 1 rfl).lies aJ aC rfl rfl) ?_;simp only[zz,zy,Nat.zero_add,Nat.reduceAdd,Nat.reduceMul,Int.reduceToNat];refine aA (gH rfl rfl) (aA (aH aY aC rfl rfl (by decide) (by decide) rfl) ?_);simp only[zz];refine aL rfl ((m.b 1 rfl).lies aJ aC rfl rfl) ?_;simp only[zz,zy,Nat.zero_add,Nat.reduceAdd,Nat.reduceMul,Int.reduceToNat];refine aA (aH aY aC rfl rfl (by decide) (by decide) rfl) ?_;simp only[zz];refine aL rfl ((m.b 1 rfl).lies aJ aC rfl rfl) ?_;simp only[zz,zy,Nat.zero_add,Nat.reduceAdd,Nat.reduceMul,Int.reduceToNat];refine aA (gH rfl rfl) (aA (aH aY aC rfl rfl (by decide) (by decide) rfl) ?_);simp only[zz];refine aL rfl ((m.b 1 rfl).lies aJ aC rfl rfl) ?_;simp only[zz,zy,Nat.zero_add,Nat.reduceAdd,Nat.reduceMul,Int.reduceToNat];refine aA (aH aY aC rfl rfl (by decide) (by decide) rfl) ?_;simp only[zz];refine aL rfl ((m.b 1 rfl).lies aJ aC rfl rfl) ?_;simp only[zz,zy,Nat.zero_add,Nat.reduceAdd,Nat.reduceMul,Int.reduceToNat];refine aA (gH rfl rfl) (aA (xP rfl rfl rfl) ?_);simp only[zz];refine aT m 0 rfl rfl rfl Gz (dX rfl) rfl ?_;clear m;intro u m;simp only[zy,zx,bK,zF,zG,Nat.reduceAdd] at m;refine aG (k2 _ _ ?_);refine wp_ret ?_;try simp only[Exit.inBlock,Exit.then,if_true]
 refine bS rfl ⟨_,rfl,((m.b 0 rfl).full abf Gz)⟩ ?_;try simp only[zD,zE]
 exact ⟨_,rfl,m.ext,rfl⟩
theorem adp {e : E3} : iX prog 126 [ed e] (ed (e.2,e.1)):=by
 intro w;refine ⟨ac1,?_⟩;have m:=cF.refl w
 go_enter func126,ntmps126
 refine aF fun K1 k1=>wp_region_lit (eP m rfl ?_);clear m;intro g1 u m;simp only[zz];refine bH m nE rfl ?_;clear m;intro g2 u m;refine aG (k1 _ _ ?_);refine aF fun K2 k2=>wp_region_lit (aA (aO (c:=2) jQ rfl aC rfl rfl) ?_);simp only[zz];refine aL rfl ((m.b 1 rfl).lies aJ aC rfl rfl) ?_;simp only[zz,zy,Nat.zero_add,Nat.reduceAdd,Nat.reduceMul,Int.reduceToNat];refine aA (aO (c:=2) jQ rfl aC rfl rfl) ?_;simp only[zz];refine aL rfl ((m.b 1 rfl).lies aJ aC rfl rfl) ?_;simp only[zz,zy,Nat.zero_add,Nat.reduceAdd,Nat.reduceMul,Int.reduceToNat];refine aA (gH rfl rfl) ?_;simp only[zz];refine aT m 0 rfl rfl rfl eB (dX rfl) rfl ?_;clear m;intro u m;simp only[zy,zx,bK,zF,zG,Nat.reduceAdd] at m;refine aG (k2 _ _ ?_);refine wp_ret ?_;try simp only[Exit.inBlock,Exit.then,if_true]
 refine bS rfl ⟨_,rfl,((m.b 0 rfl).full kC eB)⟩ ?_;try simp only[zD,zE]
 exact ⟨_,rfl,m.ext,rfl⟩
theorem Qd {E : List E3} {e : E3} (h : (!!(dG (gB [] E) e).getD false) = true) : false = decide (E ++ [e]).Nodup:=by
 rw [Bool.not_not] at h;exact (decide_eq_false fun k=>(wN.1 k).2 (Eb.1 h)).symm
theorem Jp {E : List E3} {e : E3} {b : Bool} (hb : b = decide E.Nodup) (h : (!!(dG (gB [] E) e).getD false) = false) : b = decide (E ++ [e]).Nodup:=by
 rw [Bool.not_not] at h;rw [hb,decide_eq_decide,wN];exact ⟨fun k=>⟨k,fun h2=>by rw [Eb.2 h2] at h;cases h⟩,And.left⟩
theorem mR {K : Type} [DecidableEq K] (ks : List K) (k : K) : gB [] (ks ++ [k]) = gL (gB [] ks) k true:=Mc [] ks [k]
theorem Eu {ts : List T3} {N cap : Nat} {A : Option Addr} (w : World) (hT : fA w A N ts) (hN : N ≤ 10000000) : eL prog 103 [.slice A N cap] w (fun v w'=>∃ g es c,v = .tuple #[.map (some g),.bool (decide (bB ts).Nodup)] ∧ cF w w' [mI g es c] ∧ cS ed Value.bool (gB [] (bB ts)) es c):=by
 refine ⟨acI,?_⟩;have m:=cF.refl w
 go_enter func103,ntmps103
 refine aF fun K1 k1=>wp_region_lit (aA (aD) (aA (aD) (aG (k1 _ _ ?_))));refine aF fun K2 k2=>wp_region_lit ?_;simp only[zz];refine kL m ?_;clear m;intro q8 u m;have hD8:=cS.nil (K:=E3) (V:=Bool) ed Value.bool;refine aA (aD) (aG (k2 _ _ ?_));refine aF fun K3 k3=>wp_region_lit (aA (aD) (aG (k3 _ _ ?_)));refine aF fun K4 k4=>aF fun K5 k5=>wp_region_lit (aA (aB) ?_);simp only[zz];refine aA (bA rfl bV rfl) (aA (aB) (aG (k5 _ _ ?_)));refine wp_block ?_;simp only[zz];try simp only[Nat.zero_add,Nat.reduceAdd,Nat.reduceMul,Int.reduceToNat]
 refine bJ [5,13] [7,9,14,15,16,17,18,19,20,21,22,23,24,25,26,27] (fun n vs wl=>∃ (k : Nat) (es : Array MapEntry) (c : Nat) (b : Bool),vs = [.bool b,.int .i64 (k:Int)] ∧ cF w wl [mI q8 es c] ∧ (cS ed Value.bool (gB [] (bB (ts.take k))) es c) ∧ (b = decide (bB (ts.take k)).Nodup) ∧ (k ≤ N) ∧ (n = N - k)) ?_ ?_
 ·
  apply Exists.intro;simp only[zQ,zR,zD,zE];exact ⟨0,_,_,true,rfl,m,hD8,rfl,Nat.zero_le _,rfl⟩
 ·
  intro n vs wr hI u;clear m;obtain ⟨k,es,c,b0,rfl,m,hD8,hb0,hk,hn⟩:=hI;simp only[zu,zF,zG];refine aF fun K6 k6=>wp_region_lit (aA (cO rfl rfl) (aG (k6 _ _ ?_)));refine aF fun K7 k7=>?_;simp only[zz];refine cC rfl (fun hc1=>?_) (fun hc1=>?_)
  ·
   obtain ⟨t,ht,_,a,rfl,hrow⟩:=hT.get (i:=k) (by omega);refine wp_skip (k7 _ _ ?_);refine aF fun K8 k8=>wp_block (aF fun K9 k9=>wp_region_lit (aA (aK bV aS rfl rfl (by omega) (by omega) (bY (Int.toNat_natCast _))) ?_));simp only[zz];refine aL rfl ((hrow.ext m.ext).lies eF aS) ?_;simp only[zz];refine bH m kB rfl ?_;clear m;intro g2 u m;simp only[zz];refine aT m 0 rfl rfl rfl aS (dX rfl) rfl ?_;clear m;intro u m;simp only[zy,zx,bK,zF,zG,Nat.reduceAdd] at m;refine aG (k9 _ _ ?_);refine aF fun K10 k10=>wp_region_lit (aL rfl ((m.b 0 rfl).full eF aS) ?_);simp only[zz];refine gJ m rfl rfl (Zu) ?_;clear m;intro u m;refine aA (aB) (aG (k10 _ _ ?_));refine wp_block (wp_loop_rounds 4 (dP (aF fun K11 k11=>wp_region_lit (aA (bW (m:=0) (n:=3) rfl rfl (by decide)) (aG (k11 _ _ ?_))))));refine aF fun K12 k12=>cQ rfl (wp_skip (k12 _ _ ?_));refine aF fun K13 k13=>wp_block (aF fun K14 k14=>wp_region_lit (aA (Ga rfl rfl) ?_));simp only[zz];refine bH m nE rfl ?_;clear m;intro g3 u m;simp only[zz];refine aT m 0 rfl rfl rfl eB (dX rfl) rfl ?_;clear m;intro u m;simp only[zy,zx,bK,zF,zG,Nat.reduceAdd] at m;refine aG (k14 _ _ ?_);refine aF fun K15 k15=>wp_region_lit (aA (aB) ?_);simp only[zz];refine aL rfl ((m.b 0 rfl).full kC eB) ?_;simp only[zz];refine oX m 2 Jc rfl rfl (fun m=>Jo (p:=(t.a,t.b)) m 2 rfl hD8) ?_;clear m;rintro v i u m ⟨rfl,es',c',rfl,hD'⟩;simp only[zF,zG] at m;simp only[zz];rw [← mR] at hD';clear hD8;have hD8:=hD';clear hD';refine aA (fN rfl) (aG (k15 _ _ ?_));simp only[zz];refine tD m [5] [] (fun vs=>∃ (b : Bool),vs = [.bool b] ∧ (b = decide (((bB (ts.take k)) ++ [(t.a,t.b)])).Nodup)) ?_ ?_
   ·
    refine eD rfl (fun hc3=>?_) (fun hc3=>?_)
    ·
     refine wp_region_lit (aA (aD) (aG ?_));simp only[zz];simp only[Exit.inBlock,Exit.then];refine ⟨_,rfl,?_,m,?_⟩
     · simp only[zz,zv]
     ·
      simp only[zQ,zR,zD,zE];exact ⟨false,rfl,Qd hc3⟩
    ·
     skip
     refine wp_skip ?_;simp only[Exit.inBlock,Exit.then];refine ⟨_,rfl,?_,m,?_⟩
     · simp only[zz,zv]
     ·
      simp only[zQ,zR,zD,zE];exact ⟨b0,rfl,Jp hb0 hc3⟩
   ·
    intro vs wr m hI u;obtain ⟨b1,rfl,hb1⟩:=hI;simp only[zu,zF,zG];refine k13 _ _ (wp_region_lit (aA (aQ (m:=0) (n:=1) (r:=1) rfl rfl (by decide)) (aA (aB) (aG (aX (aF fun K16 k16=>wp_region_lit (aA (bW (m:=1) (n:=3) rfl rfl (by decide)) (aG (k16 _ _ ?_)))))))));refine aF fun K17 k17=>cQ rfl (wp_skip (k17 _ _ ?_));refine aF fun K18 k18=>wp_block (aF fun K19 k19=>wp_region_lit (aA (Gb rfl rfl) ?_));simp only[zz];refine bH m nE rfl ?_;clear m;intro g4 u m;simp only[zz];refine aT m 0 rfl rfl rfl eB (dX rfl) rfl ?_;clear m;intro u m;simp only[zy,zx,bK,zF,zG,Nat.reduceAdd] at m;refine aG (k19 _ _ ?_);refine aF fun K20 k20=>wp_region_lit (aA (aB) ?_);simp only[zz];refine aL rfl ((m.b 0 rfl).full kC eB) ?_;simp only[zz];refine oX m 3 Jc rfl rfl (fun m=>Jo (p:=(t.b,t.c)) m 3 rfl hD8) ?_;clear m;rintro v i u m ⟨rfl,es',c',rfl,hD'⟩;simp only[zF,zG] at m;simp only[zz];rw [← mR] at hD';clear hD8;have hD8:=hD';clear hD';refine aA (fN rfl) (aG (k20 _ _ ?_));simp only[zz];refine tD m [5] [] (fun vs=>∃ (b : Bool),vs = [.bool b] ∧ (b = decide ((((bB (ts.take k)) ++ [(t.a,t.b)]) ++ [(t.b,t.c)])).Nodup)) ?_ ?_
    ·
     refine eD rfl (fun hc3=>?_) (fun hc3=>?_)
     ·
      refine wp_region_lit (aA (aD) (aG ?_));simp only[zz];simp only[Exit.inBlock,Exit.then];refine ⟨_,rfl,?_,m,?_⟩
      · simp only[zz,zv]
      ·
       simp only[zQ,zR,zD,zE];exact ⟨false,rfl,Qd hc3⟩
     ·
      skip
      refine wp_skip ?_;simp only[Exit.inBlock,Exit.then];refine ⟨_,rfl,?_,m,?_⟩
      · simp only[zz,zv]
      ·
       simp only[zQ,zR,zD,zE];exact ⟨b1,rfl,Jp hb1 hc3⟩
    ·
     intro vs wr m hI u;obtain ⟨b2,rfl,hb2⟩:=hI;simp only[zu,zF,zG];refine k18 _ _ (wp_region_lit (aA (aQ (m:=1) (n:=1) (r:=2) rfl rfl (by decide)) (aA (aB) (aG (aX (aF fun K21 k21=>wp_region_lit (aA (bW (m:=2) (n:=3) rfl rfl (by decide)) (aG (k21 _ _ ?_)))))))));refine aF fun K22 k22=>cQ rfl (wp_skip (k22 _ _ ?_));refine aF fun K23 k23=>wp_block (aF fun K24 k24=>wp_region_lit (aA (Gc rfl rfl) ?_));simp only[zz];refine bH m nE rfl ?_;clear m;intro g5 u m;simp only[zz];refine aT m 0 rfl rfl rfl eB (dX rfl) rfl ?_;clear m;intro u m;simp only[zy,zx,bK,zF,zG,Nat.reduceAdd] at m;refine aG (k24 _ _ ?_);refine aF fun K25 k25=>wp_region_lit (aA (aB) ?_);simp only[zz];refine aL rfl ((m.b 0 rfl).full kC eB) ?_;simp only[zz];refine oX m 4 Jc rfl rfl (fun m=>Jo (p:=(t.c,t.a)) m 4 rfl hD8) ?_;clear m;rintro v i u m ⟨rfl,es',c',rfl,hD'⟩;simp only[zF,zG] at m;simp only[zz];rw [← mR] at hD';clear hD8;have hD8:=hD';clear hD';refine aA (fN rfl) (aG (k25 _ _ ?_));simp only[zz];refine tD m [5] [] (fun vs=>∃ (b : Bool),vs = [.bool b] ∧ (b = decide (((((bB (ts.take k)) ++ [(t.a,t.b)]) ++ [(t.b,t.c)]) ++ [(t.c,t.a)])).Nodup)) ?_ ?_
     ·
      refine eD rfl (fun hc3=>?_) (fun hc3=>?_)
      ·
       refine wp_region_lit (aA (aD) (aG ?_));simp only[zz];simp only[Exit.inBlock,Exit.then];refine ⟨_,rfl,?_,m,?_⟩
       · simp only[zz,zv]
       ·
        simp only[zQ,zR,zD,zE];exact ⟨false,rfl,Qd hc3⟩
      ·
       skip
       refine wp_skip ?_;simp only[Exit.inBlock,Exit.then];refine ⟨_,rfl,?_,m,?_⟩
       · simp only[zz,zv]
       ·
        simp only[zQ,zR,zD,zE];exact ⟨b2,rfl,Jp hb2 hc3⟩
     ·
      intro vs wr m hI u;obtain ⟨b3,rfl,hb3⟩:=hI;simp only[zu,zF,zG];refine k23 _ _ (wp_region_lit (aA (aQ (m:=2) (n:=1) (r:=3) rfl rfl (by decide)) (aA (aB) (aG (aX (aF fun K26 k26=>wp_region_lit (aA (eM (m:=3) (n:=3) rfl rfl (by decide)) (aG (k26 _ _ ?_)))))))));refine aF fun K27 k27=>iD rfl (wp_exit (k8 _ _ ?_));refine wp_region_lit ?_;simp only[zz];refine aA (aQ rfl rfl (aM (by omega) (by omega))) (aA (aB) (aG ?_));simp only[zz];simp only[Exit.inBlock,Exit.then];refine ⟨N - (k + 1),_,?_,rfl,?_,?_⟩
      · omega
      · simp only[zz,zv]
      ·
       simp only[zQ,zR,zD,zE];exact ⟨k + 1,_,_,b3,rfl,(m.sel [false,false,false,false,true]),by rw [jZ ht];simpa [List.append_assoc] using hD8,by rw [hb3,jZ ht];simp only[List.append_assoc,List.cons_append,List.nil_append],by omega,rfl⟩
  ·
   have hkN : k = N:=by omega
   rw [hkN,show ts.take N = ts from List.take_of_length_le (by rw [hT.len];exact Nat.le_refl _)] at hD8 hb0;refine wp_exit (k4 _ _ ?_);refine aF fun K28 k28=>wp_region_lit (aA (aB) (aA (aB) (aA (aD) (aA (aD) ?_))));simp only[zz];refine aG (k28 _ _ ?_);refine wp_ret ?_;try simp only[Exit.inBlock,Exit.then,if_true]
   refine jW rfl rfl rfl ?_;try simp only[zD,zE]
   exact ⟨_,rfl,m.ext,_,_,_,by rw [hb0],m,hD8⟩
theorem adq {E : List E3} {dn : List (E3 × Bool)} {kp : E3} {kb : Bool} (h : (!(dG (gB [] E) (kp.2,kp.1)).getD false) = true) : ((dn ++ [(kp,kb)]).map (·.1)).filter (fun e=>decide ((e.2,e.1) ∉ E)) = (dn.map (·.1)).filter (fun e=>decide ((e.2,e.1) ∉ E)) ++ [kp]:=by
 rw [qB] at h;simp only[List.map_append,List.filter_append,List.map_cons,List.map_nil];rw [List.filter_cons_of_pos (by simpa using h)];rfl
theorem adr {E : List E3} {dn : List (E3 × Bool)} {kp : E3} {kb : Bool} (h : (!(dG (gB [] E) (kp.2,kp.1)).getD false) = false) : ((dn ++ [(kp,kb)]).map (·.1)).filter (fun e=>decide ((e.2,e.1) ∉ E)) = (dn.map (·.1)).filter (fun e=>decide ((e.2,e.1) ∉ E)):=by
 rw [qB] at h;simp only[List.map_append,List.filter_append,List.map_cons,List.map_nil];rw [List.filter_cons_of_neg (by simpa using h)];simp
theorem Zv {E : List E3} {dn : List (E3 × Bool)} (h : dn.Perm (gB [] E)) : (∀ a,a ∈ (dn.map (·.1)).filter (fun e=>decide ((e.2,e.1) ∉ E)) ↔ a ∈ E ∧ (a.2,a.1) ∉ E) ∧ ((dn.map (·.1)).filter (fun e=>decide ((e.2,e.1) ∉ E))).length ≤ E.length:=by
 refine ⟨fun a=>?_,?_⟩
 ·
  rw [List.mem_filter,(h.map (·.1)).mem_iff,uK];simp
 ·
  refine Nat.le_trans (List.length_filter_le _ _) ?_;have:=uL E [];rw [List.length_map,h.length_eq];simpa using this
theorem Uz {g c : Nat} {es : Array MapEntry} {E : List E3} (w : World) (hM : kO w g es c) (hD : cS ed Value.bool (gB [] E) es c) : eL prog 104 [.map (some g)] w (fun v w'=>∃ g es c ks,v = .map (some g) ∧ cF w w' [mI g es c] ∧ cS ed Value.bool (gB [] ks) es c ∧ (∀ a,a ∈ ks ↔ a ∈ E ∧ (a.2,a.1) ∉ E) ∧ ks.length ≤ E.length):=by
 refine ⟨acJ,?_⟩;have m:=cF.refl w
 go_enter func104,ntmps104
 refine aF fun K1 k1=>wp_region_lit (aA (aD) (aG (k1 _ _ ?_)));refine aF fun K2 k2=>wp_region_lit ?_;simp only[zz];refine kL m ?_;clear m;intro q8 u m;have hD8:=cS.nil (K:=E3) (V:=Bool) ed Value.bool;refine aA (aD) (aG (k2 _ _ ?_));refine aF fun K3 k3=>aF fun K4 k4=>wp_region_lit (aA (aB) ?_);simp only[zz];refine wM m underlying136 rfl (hM.ext m.ext) ?_;clear m;intro r1 u m;refine aG (k4 _ _ ?_);refine wp_block ?_;simp only[zz];try simp only[Nat.zero_add,Nat.reduceAdd,Nat.reduceMul,Int.reduceToNat]
 refine bJ [] [4,8,9,10,11,12,13,14,15,16,17,18,19] (fun n vs wl=>∃ (dn rs : List (E3 × Bool)) (sn : Array Nat) (es2 : Array MapEntry) (c2 : Nat),vs = [] ∧ cF w wl [iI r1 g c sn,mI q8 es2 c2] ∧ (cS ed Value.bool (gB [] ((dn.map (·.1)).filter (fun e=>decide ((e.2,e.1) ∉ E)))) es2 c2) ∧ (mF ed Value.bool (gB [] E) es sn dn rs) ∧ (n = rs.length)) ?_ ?_
 ·
  apply Exists.intro;simp only[zQ,zR,zD,zE];exact ⟨[],gB [] E,#[],_,_,trivial,m,hD8,mF.start hD,rfl⟩
 ·
  intro n vs wr hI u;clear m;obtain ⟨dn,rs,sn,es2,c2,rfl,m,hD8,hT,hn⟩:=hI;simp only[zu,zF,zG];refine aF fun K5 k5=>wp_region_lit (Dv m 0 rfl rfl (hM.ext m.ext) hD hT ?_);clear m;intro bb kk vv sn u m hN;simp only[zF,zG] at m;refine aA (sW rfl) (aG (k5 _ _ ?_));refine aF fun K6 k6=>?_;simp only[zz];refine eD rfl (fun hc1=>?_) (fun hc1=>?_)
  ·
   obtain ⟨kp,kb,rs2,hp,hT2⟩:=Dy hc1 hN;refine wp_skip (k6 _ _ ?_);refine wp_block (aF fun K7 k7=>wp_region_lit (fL (sX rfl (m.r 0 rfl) (hM.ext m.ext) hD hT2) ?_));simp only[zz];refine aA (bM rfl rfl) ?_;simp only[zz];refine bH m nE rfl ?_;clear m;intro g3 u m;simp only[zz];refine aT m 0 rfl rfl rfl eB (dX rfl) rfl ?_;clear m;intro u m;simp only[zy,zx,bK,zF,zG,Nat.reduceAdd] at m;refine aG (k7 _ _ ?_);refine aF fun K8 k8=>wp_region_lit (aA (aB) ?_);simp only[zz];refine aL rfl ((m.b 0 rfl).full kC eB) ?_;simp only[zz];refine gJ m rfl rfl (adp) ?_;clear m;intro u m;simp only[zz];refine fL (eR (ek:=ed) (en:=Value.bool) (k:=(kp.2,kp.1)) (v0:=false) underlying136 mD uP rfl rfl (hM.ext m.ext) hD) ?_;simp only[zz];refine aA (fN rfl) (aG (k8 _ _ ?_));simp only[zz];refine eD rfl (fun hc2=>?_) (fun hc2=>?_)
   ·
    refine wp_region_lit (aA (aB) ?_);simp only[zz];refine aL rfl ((m.b 0 rfl).full kC eB) ?_;simp only[zz];refine oX m 2 Jc rfl rfl (fun m=>Jo (p:=kp) m 2 rfl hD8) ?_;clear m;rintro v i u m ⟨rfl,es',c',rfl,hD'⟩;simp only[zF,zG] at m;simp only[zz];rw [← mR] at hD';clear hD8;have hD8:=hD';clear hD';refine aG ?_;simp only[Exit.inBlock,Exit.then];refine ⟨rs2.length,_,?_,rfl,?_,?_⟩
    · rw [hn,hp.length_eq];exact Nat.lt_succ_self _
    · simp only[zz,zv]
    ·
     simp only[zQ,zR,zD,zE];exact ⟨dn ++ [(kp,kb)],rs2,_,_,_,trivial,(m.sel [false,true,true]),by rw [adq hc2];exact hD8,hT2,rfl⟩
   ·
    refine wp_skip ?_;simp only[Exit.inBlock,Exit.then];refine ⟨rs2.length,_,?_,rfl,?_,?_⟩
    · rw [hn,hp.length_eq];exact Nat.lt_succ_self _
    · simp only[zz,zv]
    ·
     simp only[zQ,zR,zD,zE];exact ⟨dn ++ [(kp,kb)],rs2,_,_,_,trivial,(m.sel [false,true,true]),by rw [adr hc2];exact hD8,hT2,rfl⟩
  ·
   obtain rfl:=Dx hc1 hN;refine wp_exit (k3 _ _ ?_);refine aF fun K9 k9=>wp_region_lit (aA (aB) (aA (aD) (aG (k9 _ _ ?_))));refine wp_ret ?_;simp only[zz];try simp only[Exit.inBlock,Exit.then,if_true]
   refine bS rfl rfl ?_;try simp only[zD,zE]
   exact ⟨_,rfl,m.ext,_,_,_,_,rfl,m.sel [false,true],hD8,Zv hT.done⟩
theorem Va {ts : List T3} {ks ps : List E3} (hk : ∀ a,a ∈ ks ↔ a ∈ bB ts ∧ (a.2,a.1) ∉ bB ts) (hp : ps.Perm ((gB [] ks).map (·.1))) (hs : ps.Pairwise fun a b=>¬ yK b a) : ps = aU ts:=by
 refine Ma ?_ (vX ts) fun a=>?_
 ·
  have hn : ps.Nodup:=hp.nodup_iff.2 (nW _ _ .nil);refine List.Pairwise.imp₂ (fun a b (h : ¬ yK b a) (k : a ≠ b)=>?_) hs hn;rcases yK.tri a b with h1 | h1 | h1
  · exact h1
  · exact absurd h1 k
  · exact absurd h1 h
 ·
  rw [hp.mem_iff,uK,nV,hk];simp
theorem Hs {ts : List T3} {N cap : Nat} {A : Option Addr} (w : World) (hT : fA w A N ts) (hN : N ≤ 10000000) : eL prog 66 [.slice A N cap] w (SL 57 6 ((aU ts).flatMap cB) (aU ts).length w):=by
 refine ⟨ae4,?_⟩;have m:=cF.refl w;have htl:=hT.len;have hel:=jD ts
 go_enter func66,ntmps66
 refine aF fun K1 k1=>wp_region_lit (aA (aD) (aG (k1 _ _ ?_)));refine aF fun K2 k2=>wp_region_lit (aA (aB) ?_);simp only[zz];refine bE rfl rfl (Eu _ (hT.ext m.ext) (by omega)) ?_;rintro v u e ⟨g8,es8,c8,rfl,hM,hD8⟩;replace m:=m.plus hM;clear hM e;simp only[List.cons_append,List.nil_append] at m;refine aA (aB) (aA (bM rfl rfl) (aA (bM rfl rfl) ?_));simp only[zz];refine aA (aD) (aA (aD) (aG (k2 _ _ ?_)));refine aF fun K3 k3=>wp_region_lit (aA (aD) ?_);replace m:=m.nilO 57 6;refine aG (k3 _ _ ?_);refine aF fun K4 k4=>aF fun K5 k5=>wp_region_lit (aA (aB) ?_);simp only[zz];refine bE rfl rfl (Uz _ (m.p 1 rfl) hD8) ?_;rintro v u e ⟨g9,es9,c9,ks,rfl,hM,hD9,hks,hkl⟩;replace m:=m.plus hM;clear hM e;simp only[List.cons_append,List.nil_append] at m;simp only[zz];refine bE rfl rfl (Uy _ (m.p 0 rfl) hD9 (by have h1:=uL ks [];simp only[List.length_nil] at h1;omega)) ?_;rintro v u e ⟨A5,n5,cap5,_,rfl,hN,ps,rfl,hps,hso⟩;replace m:=m.newO e hN;clear e hN;obtain rfl:=Va hks hps hso;obtain rfl : (aU ts).length = n5:=(m.o 0 rfl).num rQ (by decide);have hle5:=(m.o 0 rfl).le;have hbl : (aU ts).length ≤ (bB ts).length:=by have:=rS (all:=bB ts) (bB ts) [];simpa [aU] using this
 refine aA (bA rfl underlying139 rfl) (aA (aB) (aG (k5 _ _ ?_)));refine wp_block ?_;simp only[zz];try simp only[Nat.zero_add,Nat.reduceAdd,Nat.reduceMul,Int.reduceToNat]
 refine bJ [5,17] [7,18,19,20,21,22,23,24,25,26,27,28,29] (fun n vs wl=>∃ (k : Nat) (A6 : Option Addr) (cap6 : Nat),vs = [.slice A6 k cap6,.int .i64 (k:Int)] ∧ cF w wl [oI 143 6 A5 (aU ts).length cap5 ((aU ts).flatMap cB),oI 57 6 A6 k cap6 (((aU ts).take k).flatMap cB)] ∧ (k ≤ (aU ts).length) ∧ (n = (aU ts).length - k)) ?_ ?_
 ·
  apply Exists.intro;simp only[zQ,zR,zD,zE];exact ⟨0,_,_,rfl,(m.sel [true,false,true,false]),Nat.zero_le _,rfl⟩
 ·
  intro n vs wr hI u;clear m;obtain ⟨k,A6,cap6,rfl,m,hk,hn⟩:=hI;simp only[zu,zF,zG];refine aF fun K6 k6=>wp_region_lit (aA (cO rfl rfl) (aG (k6 _ _ ?_)));refine aF fun K7 k7=>?_;simp only[zz];refine cC rfl (fun hc1=>?_) (fun hc1=>?_)
  ·
   obtain ⟨e,he⟩ : ∃ e,(aU ts)[k]? = some e:=⟨_,List.getElem?_eq_getElem (by omega)⟩
   obtain ⟨gO,rfl⟩:=(m.o 0 rfl).some (by omega);refine wp_skip (k7 _ _ ?_);refine aF fun K8 k8=>wp_block (aF fun K9 k9=>wp_region_lit (aA (aK underlying139 eB rfl rfl (by omega) (by omega) (bY (Int.toNat_natCast _))) ?_));simp only[zz];refine aL rfl (((m.o 0 rfl).at rQ he).lies kC eB) ?_;simp only[zz];refine bH m nE rfl ?_;clear m;intro g1 u m;simp only[zz];refine aT m 0 rfl rfl rfl eB (dX rfl) rfl ?_;clear m;intro u m;simp only[zy,zx,bK,zF,zG,Nat.reduceAdd] at m;refine aG (k9 _ _ ?_);refine wp_region_lit (aA (aB) (aA (aO (c:=2) jQ rfl aC rfl rfl) ?_));simp only[zz];refine aL rfl ((m.b 0 rfl).lies aJ aC rfl rfl) ?_;simp only[zz,zy,Nat.zero_add,Nat.reduceAdd,Nat.reduceMul,Int.reduceToNat];refine aA (aO (c:=2) jQ rfl aC rfl rfl) ?_;simp only[zz];refine aL rfl ((m.b 0 rfl).lies aJ aC rfl rfl) ?_;simp only[zz,zy,Nat.zero_add,Nat.reduceAdd,Nat.reduceMul,Int.reduceToNat];refine aA (cL rfl rfl) ?_;simp only[zz];refine yU rfl ?_;intro u g2 e hg hB;replace m:=m.newB e hg hB;clear e hg hB;simp only[zz];refine eG m 3 rfl rfl eU sV rfl (by decide) rfl rfl rfl (m.b 0 rfl).rowsO (qX rfl) (by omega) (by omega) ?_;clear m;intro A6 cap6 u m;simp only[zF,zG] at m;refine aA (aD) (aG (k8 _ _ ?_));refine wp_region_lit ?_;simp only[zz];refine aA (aQ rfl rfl (aM (by omega) (by omega))) (aA (aB) (aG ?_));simp only[zz];simp only[Exit.inBlock,Exit.then];refine ⟨(aU ts).length - (k + 1),_,?_,rfl,?_,?_⟩
   · omega
   · simp only[zz,zv]
   ·
    simp only[zQ,zR,zD,zE];exact ⟨k + 1,_,_,rfl,((m.reO 3 rfl ((m.o 3 rfl).as (by rw [dJ he,List.flatMap_append];rfl))).sel [false,false,true,true]),by omega,rfl⟩
  ·
   obtain rfl : k = (aU ts).length:=by omega
   rw [List.take_length] at m;refine wp_exit (k4 _ _ ?_);refine aF fun K10 k10=>wp_region_lit (aA (aB) (aA (aD) (aG (k10 _ _ ?_))));refine wp_ret ?_;simp only[zz];try simp only[Exit.inBlock,Exit.then,if_true]
   refine bS rfl rfl ?_;try simp only[zD,zE]
   exact ⟨_,rfl,m.ext,⟨_,_,_,rfl,rfl,(m.o 1 rfl)⟩⟩
end Go.Proofs.YtfohfflkhpfjeaaGreatDoor
namespace Go.Lith
open Go.RowKit Go.ChangeMaps Go.MapKept
def abC {K V : Type} [DecidableEq K] (ek : K → Value) (en : V → Value) (D : List (K × V)) (k : K) (es : Array MapEntry) (c b : Nat) : Prop :=
 ∀ u,∃ p,es.findIdx? (fun e=>(e.born : Int) == (b : Int)) = some p ∧ cS ek en (gL D k u) (es.modify p fun e=>{ e with val:=en u }) c
section
variable {K V : Type} [DecidableEq K] {P : Program} {T M E ty : TypeId} {ek : K → Value} {en : V → Value} {w w0 : World} {g c : Nat} {es : Array MapEntry} {D : List (K × V)}
theorem ads {α : Type} {l : List α} {p : Nat} {x : α} (h : l[p]? = some x) : l.set p x = l:=by
 apply List.ext_getElem?;intro j;rw [List.getElem?_set];split
 · rename_i e;subst e;rw [if_pos (List.getElem?_eq_some_iff.1 h).1,h]
 · rfl
theorem Mr {b p : Nat} (hn : (es.toList.map (·.born)).Nodup) {e : MapEntry} (he : es[p]? = some e) (hb : e.born = b) : es.findIdx? (fun e=>(e.born : Int) == (b : Int)) = some p:=by
 rw [Array.findIdx?_eq_some_iff_getElem];have hp:=(Array.getElem?_eq_some_iff.1 he).1;have hx:=(Array.getElem?_eq_some_iff.1 he).2;refine ⟨hp,by rw [hx,hb];simp,fun j hj=>?_⟩;have hj' : j < es.size:=by omega
 simp only[Bool.not_eq_true,beq_eq_false_iff_ne,ne_eq,Int.natCast_inj];intro hh;have h1 : (es.toList.map (·.born))[j]'(by simpa using hj') = (es.toList.map (·.born))[p]'(by simpa using hp):=by
  simp only[List.getElem_map,Array.getElem_toList];rw [hh,hx,hb]
 have:=(List.getElem_inj hn).1 h1;omega
theorem Qe {p : Nat} {e : MapEntry} (he : es[p]? = some e) (k u : Value) (hk : e.key = k) : (es.modify p fun e=>{ e with val:=u }) = es.modify p fun e=>{ e with key:=k,val:=u }:=by
 apply Array.ext_getElem?;intro j;rw [Array.getElem?_modify,Array.getElem?_modify];split
 · rename_i hj;subst hj;rw [he];simp [hk]
 · rfl
theorem abD (hD : cS ek en D es c) {p : Nat} {k : K} {v : V} (hp : D[p]? = some (k,v)) : ∃ e,es[p]? = some e ∧ e.key = ek k ∧ e.val = en v:=by
 have h2:=congrArg (fun L=>L[p]?) hD.cells;simp only[List.getElem?_map,hp,Option.map_some] at h2;rw [Array.getElem?_toList] at h2;cases h3 : es[p]? with
 | none=>rw [h3] at h2;cases h2
 | some x =>
  rw [h3] at h2;simp only[Option.map_some,Option.some.injEq,Uh,Prod.mk.injEq] at h2;exact ⟨x,rfl,h2.1,h2.2⟩
theorem Gf {v0 : V} (hu : P.underlying M = some (.map T E)) (hz : mT P E (en v0)) (kt : rB P T ek) (hM : kO w g es c) (hD : cS ek en D es c) (k : K) :
 ∃ es' c' b,(Instr.mapEntry M (.map (some g)) (ek k)).run P w = .ok (.tuple #[en ((dG D k).getD v0),.int .i64 (b : Nat)]) (setBlock w g (.map es' c')) ∧ cS ek en (gL D k ((dG D k).getD v0)) es' c' ∧ abC ek en D k es' c' b:=by
 unfold kO at hM;cases hf : nI D k 0 with
 | none =>
  obtain ⟨h0,h1,_⟩:=nT D k 0 hf;obtain ⟨inf,hi,hz⟩:=hz;have hzv : (zeroValue E).run P w = .ok (en v0) w:=by simp [zeroValue,typeInfo,program,Sem.run,hi,hz]
  have hP:=hD.push k v0;refine ⟨_,_,c,?_,by rw [h0,h1];exact hP,fun u=>⟨es.size,Mr hP.nd (e:={ key:=ek k,val:=en v0,born:=c }) (by simp) rfl,?_⟩⟩
  · simp only[Instr.mapEntry,Sem.run_bind,run_underlying hu,Result.andThen,getObj,Sem.run,hM,Sem.run_pure,kt.chk,pZ kt k w hD,hf,Option.map_none,hzv,run_setObj_map _ hM,h0,Option.getD_none,goInt]
    rfl
  · rw [h1]
    have e : ((es.push { key:=ek k,val:=en v0,born:=c }).modify es.size fun e=>{ e with val:=en u }) = es.push { key:=ek k,val:=en u,born:=c }:=by
     apply Array.ext_getElem?;intro j;rw [Array.getElem?_modify,Array.getElem?_push,Array.getElem?_push];split
     · rename_i hj;subst hj;simp
     · rename_i hj;simp [Ne.symm hj]
    rw [e];exact hD.push k u
 | some p =>
  obtain ⟨j,v⟩:=p;obtain ⟨p,rfl,hp,h0,h1,_⟩:=nU D k 0 j v hf;rw [Nat.zero_add] at hf;obtain ⟨e,he,hk,hv⟩:=abD hD hp;have hk' : ((es[p]?).map (·.key)).getD (ek k) = ek k:=by rw [he];simp [hk]
  have hm : (es.modify p fun e=>{ e with key:=ek k }) = es:=by
   apply Array.ext_getElem?;intro j;rw [Array.getElem?_modify];split
   · rename_i hj;subst hj;rw [he];simp [← hk]
   · rfl
  refine ⟨es,c,e.born,?_,by rw [h0,Option.getD_some,h1,ads hp];exact hD,fun u=>⟨p,Mr hD.nd he rfl,?_⟩⟩
  · simp only[Instr.mapEntry,Sem.run_bind,run_underlying hu,Result.andThen,getObj,Sem.run,hM,Sem.run_pure,kt.chk,pZ kt k w hD,hf,Option.map_some,hk',Instr.keyThatStays,kt.bits,if_true,hm,run_setObj_map _ hM,h0,Option.getD_some,he,hk,kt.bits,if_true,Sem.run_pure,hm,goInt]
    rfl
  · rw [h1,Qe he (ek k) (en u) hk]
    exact hD.set hp u
theorem Bk {b : Nat} {k : K} (hM : kO w g es c) (hS : abC ek en D k es c b) (u : V) :
 ∃ es',(Instr.entryStore M (.map (some g)) (.int .i64 (b : Nat)) (en u)).run P w = .ok () (setBlock w g (.map es' c)) ∧ cS ek en (gL D k u) es' c:=by
 obtain ⟨p,hp,hD⟩:=hS u;unfold kO at hM;refine ⟨_,?_,hD⟩;simp only[Instr.entryStore,Sem.run_bind,Result.andThen,getObj,Sem.run,hM,Sem.run_pure,asInt,asIntOf,hp];exact run_setObj_map _ hM
theorem abE {ds : List Deferred} {l : List Value} {op : Op} {ops : Array Oper} {Q : Exit → Act → World → Prop} {rest : List Oper} {pos : String} {after : Array Edge}
 (h : ∀ o : Oper,o.op = op → ∃ v w',(execOp (Fr l).eval o).run P w = .ok (.value v) w' ∧ wpList P ops Q rest (Fr l ds) w') : wpList P ops Q (Oper.mk none op ty pos after none :: rest) (Fr l ds) w:=by
 refine wpList_plain rfl fun K hK=>?_;unfold Oper.wp;obtain ⟨v,w',hr,hw⟩:=h (Oper.mk none op ty pos after none) rfl;rw [iF,hr];exact hK _ _ hw
variable {is : List It} {ds : List Deferred} {l : List Value} {x y z : Operand} {ops : Array Oper} {Q : Exit → Act → World → Prop} {rest : List Oper} {d : Nat} {pos : String} {after : Array Edge}
theorem Ac {v0 : V} {a : K} (m : cF w0 w is) (k : Nat) (hk : is[k]? = some (mI g es c)) (hu : P.underlying M = some (.map T E)) (hz : mT P E (en v0)) (kt : rB P T ek) (hx : ev l x = .map (some g)) (hy : ev l y = ek a) (hD : cS ek en D es c)
 (h : ∀ es' c' b u,cF w0 u (is.set k (mI g es' c')) → cS ek en (gL D a ((dG D a).getD v0)) es' c' → abC ek en D a es' c' b → wpList P ops Q rest (Fr (l.set d (.tuple #[en ((dG D a).getD v0),.int .i64 (b : Nat)])) ds) u) :
 wpList P ops Q (Oper.mk (some d) (.mapEntry M x y) ty pos after none :: rest) (Fr l ds) w:=by
 have hM:=m.p k hk;obtain ⟨es',c',b,hr,hD',hS⟩:=Gf hu hz kt hM hD a;have hC:=pF (w:=w) (g:=g) (.map es' c');refine kN (w':=setBlock w g (.map es' c')) (fun o ho hty=>by simp [execOp,ho,hty,dD,hx,hy,hr]) (h es' c' b _ ?_ hD' hS);exact m.put k hk hC.os hC.tape hC.output (by rw [hC.size];exact Nat.le_refl _) (fun b _ hne=>hC.block b fun e=>hne (by rw [e];rfl)) (lT hM) (.inl fun _ h=>h)
theorem sD {v : V} {a : K} {b : Nat} (m : cF w0 w is) (k : Nat) (hk : is[k]? = some (mI g es c)) (hx : ev l x = .map (some g)) (hy : ev l y = .int .i64 (b : Nat)) (hz : ev l z = en v) (hS : abC ek en D a es c b)
 (h : ∀ es' u,cF w0 u (is.set k (mI g es' c)) → cS ek en (gL D a v) es' c → wpList P ops Q rest (Fr l ds) u) : wpList P ops Q (Oper.mk none (.entryStore M x y z) ty pos after none :: rest) (Fr l ds) w:=by
 have hM:=m.p k hk;obtain ⟨es',hr,hD'⟩:=Bk (P:=P) (M:=M) hM hS v;have hC:=pF (w:=w) (g:=g) (.map es' c);refine Bm (w':=setBlock w g (.map es' c)) (fun o ho=>by simp [execOp,ho,dD,hx,hy,hz,hr]) (h es' _ ?_ hD');exact m.put k hk hC.os hC.tape hC.output (by rw [hC.size];exact Nat.le_refl _) (fun b _ hne=>hC.block b fun e=>hne (by rw [e];rfl)) (lT hM) (.inl fun _ h=>h)
theorem Ev {a : K} {T2 : TypeId} (m : cF w0 w is) (k : Nat) (hk : is[k]? = some (mI g es c)) (hu : P.underlying M = some (.map T E)) (kt : rB P T ek) (hx : ev l x = .map (some g)) (hy : ev l y = ek a) (hD : cS ek en D es c) {a0 : Array TypeId} (ha : a0 = #[M,T2])
 (h : ∀ es' c' u,cF w0 u (is.set k (mI g es' c')) → cS ek en (pY D a) es' c' → wpList P ops Q rest (Fr l ds) u) : wpList P ops Q (Oper.mk none (.call { callee:=.builtin .delete,args:=#[x,y],argTypes:=a0 }) ty pos after none :: rest) (Fr l ds) w:=by
 subst ha;have hM:=m.p k hk;have hC:=fun es' c'=>pF (w:=w) (g:=g) (.map es' c');refine abE fun o ho=>?_;obtain ⟨es',c',hr,hD'⟩:=Ls (T2:=T2) (ty:=o.type) hu kt hM hD a;exact ⟨.tuple #[],setBlock w g (.map es' c'),by simp [execOp,ho,resolve,invoke,builtin,dD,hx,hy,hr],h es' c' _ (m.put k hk (hC es' c').os (hC es' c').tape (hC es' c').output (by rw [(hC es' c').size];exact Nat.le_refl _) (fun b _ hne=>(hC es' c').block b fun e=>hne (by rw [e];rfl)) (lT hM) (.inl fun _ h=>h)) hD'⟩
end
end Go.Lith
