/-
 Texts of one claim, laid together: W1, Bag, W2, Ent, W3, Nc, Dig, Dig2, Dig3, Cst, We, Maps2, W4, W5, Int, Wide6.
-/
import Derived.Test.YtfohfflkhpfjeaaGreatDoorF3
set_option maxHeartbeats 8000000
set_option linter.unusedSimpArgs false
set_option linter.unusedVariables false
set_option linter.unusedSectionVars false
namespace Go.Proofs.YtfohfflkhpfjeaaGreatDoor
open Go.Proofs.Tryz
open Go.RowKit Go.Lith
abbrev mD:=@underlying102
abbrev sE:=@underlying104
abbrev mQ:=@underlying106
abbrev Af:=@underlying184
abbrev lB:=@underlying185
set_option maxRecDepth 100000
attribute [local irreducible] wpList wpQuiet dC cS cR Code.wp
theorem uF : pV prog 143 ed:=by
 refine pV.agg (cs:=fun p=>#[.int .i64 p.1.x,.int .i64 p.1.y,.int .i64 p.1.z,.int .i64 p.2.x,.int .i64 p.2.y,.int .i64 p.2.z]) (fun _=>rfl) iO (fun e p=>?_) (fun p q=>?_) (fun p=>?_)
 ·
  refine qB.struct (d:=9999) iO fun f hf=>?_;simp only[List.mem_cons,List.not_mem_nil,or_false] at hf;rcases hf with rfl | rfl
  ·
   refine ⟨_,eP aI aC rfl,?_⟩;refine qB.struct (d:=9998) cN fun f hf=>?_;simp only[List.mem_cons,List.not_mem_nil,or_false] at hf;rcases hf with rfl | rfl | rfl
   · exact ⟨_,cX bQ rfl,qB.int (d:=9997) kJ⟩
   · exact ⟨_,cX bQ rfl,qB.int (d:=9997) kJ⟩
   · exact ⟨_,cX bQ rfl,qB.int (d:=9997) kJ⟩
  ·
   refine ⟨_,eP aI aC rfl,?_⟩;refine qB.struct (d:=9998) cN fun f hf=>?_;simp only[List.mem_cons,List.not_mem_nil,or_false] at hf;rcases hf with rfl | rfl | rfl
   · exact ⟨_,cX bQ rfl,qB.int (d:=9997) kJ⟩
   · exact ⟨_,cX bQ rfl,qB.int (d:=9997) kJ⟩
   · exact ⟨_,cX bQ rfl,qB.int (d:=9997) kJ⟩
 · exact (abH _).iff ⟨fun h=>Prod.ext (P3.eq (h.1) (h.2.1) (h.2.2.1)) (P3.eq (h.2.2.2.1) (h.2.2.2.2.1) (h.2.2.2.2.2)),fun h=>by subst h;simp only[and_self]⟩
 · simp [ed,Instr.sameBits]
theorem afR {x y : Int} {g1 : Nat} (w : World) (hB1 : fX w g1 [.int .i64 x,.int .i64 y] 3) : acK prog 107 [.slice (some ⟨g1,0,none⟩) 2 2] w (.int .i64 (if x = 0 then y else x)):=by
 refine ⟨ads,?_⟩;have m:=gG.refl w
 go_enter func107,ntmps107
 refine aD fun K1 k1=>wp_region_lit (aA (aF) (aG (k1 _ _ ?_)));refine aD fun K2 k2=>wp_region_lit (aA (aF) (aG (k2 _ _ ?_)));refine aD fun K3 k3=>aD fun K4 k4=>wp_region_lit (aA (aB) (aA (bF rfl xL rfl) ?_));simp only[zz];refine aA (aB) (aG (k4 _ _ ?_));refine wp_block (wp_loop_rounds 3 (cZ (aD fun K5 k5=>wp_region_lit (aA (bT (m:=0) (n:=2) rfl rfl (by decide)) (aG (k5 _ _ ?_))))));refine aD fun K6 k6=>cK rfl (wp_skip (k6 _ _ ?_));refine aD fun K7 k7=>wp_block (aD fun K8 k8=>wp_region_lit ?_);simp only[zz];refine aA (aM xL bA rfl rfl (by decide) (by omega) rfl) ?_;simp only[zz];refine aJ rfl ((hB1.ext m.ext.ext).lies1 bQ rfl) ?_;simp only[zz];refine aA (aF) (aG (k8 _ _ ?_));refine aD fun K9 k9=>wp_region_lit (aA (aB) (aA (aB) (aA (nS rfl rfl) ?_)));simp only[zz];refine aG (k9 _ _ ?_);refine cO rfl (fun hc2=>?_) (fun hc2=>?_)
 ·
  refine aD fun K10 k10=>wp_region_lit (aA (aB) (aA (aF) (aG (k10 _ _ ?_))));refine wp_ret ?_;simp only[zz];try simp only[Exit.inBlock,Exit.then,if_true]
  refine bS rfl rfl ?_;try simp only[zD,zE]
  exact ⟨_,rfl,m.ext,by rw [if_neg hc2]⟩
 ·
  have hx : x = 0:=by omega
  refine wp_skip (k7 _ _ ?_);refine wp_region_lit (aA (aQ (m:=0) (n:=1) (r:=1) rfl rfl (by decide)) (aA (aB) (aG (aT (aD fun K11 k11=>wp_region_lit (aA (bT (m:=1) (n:=2) rfl rfl (by decide)) (aG (k11 _ _ ?_))))))));refine aD fun K12 k12=>cK rfl (wp_skip (k12 _ _ ?_));refine aD fun K13 k13=>wp_block (aD fun K14 k14=>wp_region_lit ?_);simp only[zz];refine aA (aM xL bA rfl rfl (by decide) (by omega) rfl) ?_;simp only[zz];refine aJ rfl ((hB1.ext m.ext.ext).lies1 bQ rfl) ?_;simp only[zz];refine aA (aF) (aG (k14 _ _ ?_));refine aD fun K15 k15=>wp_region_lit (aA (aB) (aA (aB) (aA (nS rfl rfl) ?_)));simp only[zz];refine aG (k15 _ _ ?_);refine cO rfl (fun hc2=>?_) (fun hc2=>?_)
  ·
   refine aD fun K16 k16=>wp_region_lit (aA (aB) (aA (aF) (aG (k16 _ _ ?_))));refine wp_ret ?_;simp only[zz];try simp only[Exit.inBlock,Exit.then,if_true]
   refine bS rfl rfl ?_;try simp only[zD,zE]
   exact ⟨_,rfl,m.ext,by rw [if_pos hx]⟩
  ·
   have hy : y = 0:=by omega
   refine wp_skip (k13 _ _ ?_);refine wp_region_lit (aA (aQ (m:=1) (n:=1) (r:=2) rfl rfl (by decide)) (aA (aB) (aG (aT (aD fun K17 k17=>wp_region_lit (aA (fT (m:=2) (n:=2) rfl rfl (by decide)) (aG (k17 _ _ ?_))))))));refine aD fun K18 k18=>jM rfl (wp_exit (k3 _ _ ?_));refine aD fun K19 k19=>wp_region_lit (aA (aB) ?_);simp only[zz];refine aA (aF) (aG (k19 _ _ ?_));refine wp_ret ?_;simp only[zz];try simp only[Exit.inBlock,Exit.then,if_true]
   refine bS rfl rfl ?_;try simp only[zD,zE]
   exact ⟨_,rfl,m.ext,by rw [if_pos hx,hy]⟩
def Vw (a b : E3) : Int:=if xF a.1 b.1 = 0 then xF a.2 b.2 else xF a.1 b.1
theorem Ht {p q : P3} : xF p q = 0 ↔ p = q:=by
 unfold xF;rcases P3.lt_tri p q with h | h | h
 · rw [if_pos h];exact ⟨fun e=>(by cases e),fun e=>absurd (e ▸ h) (P3.lt_irrefl _)⟩
 · subst h;rw [if_neg (P3.lt_irrefl _),if_neg (P3.lt_irrefl _)];exact ⟨fun _=>rfl,fun _=>rfl⟩
 · rw [if_neg (fun k=>P3.lt_irrefl _ (P3.lt_trans h k)),if_pos h];exact ⟨fun e=>(by cases e),fun e=>absurd (e ▸ h) (P3.lt_irrefl _)⟩
theorem yC (a b : E3) : (Vw a b < 0) ↔ yN a b:=by
 unfold Vw yN;split
 ·
  rename_i h;have h':=Ht.1 h;rw [qR];exact ⟨fun k=>.inr ⟨h',k⟩,fun k=>k.elim (fun k=>absurd (h' ▸ k) (P3.lt_irrefl _)) fun k=>k.2⟩
 ·
  rename_i h;rw [qR];exact ⟨.inl,fun k=>k.elim id fun k=>absurd (Ht.2 k.1) h⟩
instance : Inhabited E3:=⟨(⟨0,0,0⟩,⟨0,0,0⟩)⟩
theorem aah : Go.Sort.SWO (Go.Proofs.ltOf Vw) where
 irrefl a:=by simp only[Go.Proofs.ltOf,decide_eq_false_iff_not,yC];exact yN.irrefl a
 trans x y z h1 h2:=by
  simp only[Go.Proofs.ltOf,decide_eq_true_eq,yC] at *
  exact h1.trans h2
 ntrans x y z h1 h2:=by
  simp only[Go.Proofs.ltOf,decide_eq_false_iff_not,yC] at *
  intro h;rcases yN.tri y x with k | k | k
  · exact absurd (k.trans h) (by first | exact h2 | exact h1)
  · subst k;first | exact h2 h | exact h1 h
  · first | exact h1 k | exact h2 k
theorem abS {p q : E3} : sM prog 106 [ed p,ed q] (.int .i64 (Vw p q)):=by
 intro w;refine ⟨adr,?_⟩;have m:=gG.refl w
 go_enter func106,ntmps106
 refine aD fun K1 k1=>wp_region_lit (rP m rfl ?_);clear m;intro g1 u m;simp only[zz];refine rP m rfl ?_;clear m;intro g2 u m;refine aA (aF) (aG (k1 _ _ ?_));refine aD fun K2 k2=>?_;simp only[zz];refine Yn m 10 aO (by kernel_rfl) ?_;simp only[zy];refine aL (aK (c:=2) iO rfl aC rfl rfl) ?_;simp only[zz];refine Gql rfl (fun u m=>((m.b 1 rfl).lies aI aC rfl rfl)) ?_;simp only[zz,zy,Nat.zero_add,Nat.reduceAdd,Nat.reduceMul,Int.reduceToNat];refine aL (aK (c:=2) iO rfl aC rfl rfl) ?_;simp only[zz];refine Gql rfl (fun u m=>((m.b 0 rfl).lies aI aC rfl rfl)) ?_;simp only[zz,zy,Nat.zero_add,Nat.reduceAdd,Nat.reduceMul,Int.reduceToNat];refine Lj rfl rfl (Kb (p:=p.1) (q:=q.1)) (aL (aK (c:=2) iO rfl aC rfl rfl) ?_);simp only[zz];refine Gql rfl (fun u m=>((m.b 1 rfl).lies aI aC rfl rfl)) ?_;simp only[zz,zy,Nat.zero_add,Nat.reduceAdd,Nat.reduceMul,Int.reduceToNat];refine aL (aK (c:=2) iO rfl aC rfl rfl) ?_;simp only[zz];refine Gql rfl (fun u m=>((m.b 0 rfl).lies aI aC rfl rfl)) ?_;simp only[zz,zy,Nat.zero_add,Nat.reduceAdd,Nat.reduceMul,Int.reduceToNat];refine Lj rfl rfl (Kb (p:=p.2) (q:=q.2)) (dF ?_);clear m;intro u m;simp only[zz];refine aag m xL (z:=.int .i64 0) (by kernel_rfl) rfl rfl rfl rfl rfl ?_;clear m;intro g3 u m;simp only[zz];refine abQ m rfl rfl (afR _ (m.b 0 rfl)) ?_;clear m;intro u m;refine aA (aF) (aG (k2 _ _ ?_));refine wp_ret ?_;simp only[zz];try simp only[Exit.inBlock,Exit.then,if_true]
 refine bS rfl rfl ?_;try simp only[zD,zE]
 exact ⟨_,rfl,m.ext,rfl⟩
theorem Kc {w0 w : World} {is : List It} {g c : Nat} {es : Array MapEntry} {D : List (E3 × Bool)} {p : E3} (m : bR w0 w is) (k : Nat) (hk : is[k]? = some (mI g es c)) (hD1 : bV ed Value.bool D es c) : Calls prog 125 [.map (some g),ed p].toArray w fun e w'=>∃ v i,e = .returned v ∧ bR w0 w' (is.set k i) ∧ (v = .bool (!(cD D p).getD false) ∧ ∃ es' c',i = mI g es' c' ∧ bV ed Value.bool (fJ D p true) es' c'):=by
 go_enter func125,ntmps125
 refine aD fun K1 k1=>wp_region_lit (eY m rfl ?_);clear m;intro g1 u m;refine aA (aF) (aG (k1 _ _ ?_));refine aD fun K2 k2=>aD fun K3 k3=>wp_region_lit (aA (aB) ?_);simp only[zz];refine aJ rfl ((m.b 0 rfl).full iZ dJ) ?_;simp only[zz];refine eL (dZ (ek:=ed) (en:=Value.bool) (k:=p) (v0:=false) underlying136 kY uF rfl rfl (m.p (k + 1) hk) hD1) ?_;simp only[zz];refine aG (k3 _ _ ?_);refine eU rfl (fun hc1=>?_) (fun hc1=>?_)
 ·
  refine aD fun K4 k4=>wp_region_lit (aA (aF) (aG (k4 _ _ ?_)));refine wp_ret ?_;simp only[zz];try simp only[Exit.inBlock,Exit.then,if_true]
  refine bS rfl rfl ?_;try simp only[zD,zE]
  exact ⟨_,mI g es c,rfl,by rw [Mj hk];exact m.tl,by rw [hc1];rfl,es,c,rfl,by rw [zX (by cases hq : cD D p with | none=>rw [hq] at hc1;cases hc1 | some x=>rw [hq] at hc1;exact congrArg some hc1)];exact hD1⟩
 ·
  refine wp_skip (k2 _ _ ?_);refine aD fun K5 k5=>wp_region_lit (aA (aB) ?_);simp only[zz];refine aJ rfl ((m.b 0 rfl).full iZ dJ) ?_;simp only[zz];refine eS (ek:=ed) (en:=Value.bool) (a:=p) (v:=true) m (k + 1) hk underlying136 uF rfl rfl rfl hD1 ?_;clear m;intro es1 c1 u m hD';clear hD1;have hD1:=hD';clear hD';simp only[zF,zG] at m;refine aG (k5 _ _ ?_);refine aD fun K6 k6=>wp_region_lit (aA (aF) (aG (k6 _ _ ?_)));refine wp_ret ?_;simp only[zz];try simp only[Exit.inBlock,Exit.then,if_true]
  refine bS rfl rfl ?_;try simp only[zD,zE]
  exact ⟨_,_,rfl,m.tl,by rw [hc1];rfl,_,_,rfl,hD1⟩
theorem Nb (p : E3) : ∀ v ∈ bJ p,v.oneCell' = true:=fun v h=>by
 simp only[bJ,List.mem_cons,List.not_mem_nil,or_false] at h;rcases h with rfl | rfl | rfl | rfl | rfl | rfl <;> rfl
theorem abT {w0 w : World} {is : List It} {A : Option Addr} {n cap : Nat} {xs : List E3} (m : bR w0 w is) (k : Nat) (hi : is[k]? = some (oI 143 6 A n cap (xs.flatMap bJ))) (hsz : n < 4611686018427387904) :
 Calls prog 127 [.slice A n cap,.func (.func 106) #[] #[]].toArray w fun e w'=>∃ v i,e = .returned v ∧ bR w0 w' (is.set k i) ∧ (v = .tuple #[] ∧ ∃ ys : List E3,i = oI 143 6 A n cap (ys.flatMap bJ) ∧ ys.Perm xs ∧ ys.Pairwise fun a b=>ltOf Vw b a = false) :=
 Mk (enc:=bJ) Tryz.sort127 (fun w=>uM iZ w) (fun w=>eW dJ w) (fun _=>rfl) (by decide) Nb Vw aah (fun x y=>abS) m k hi hsz
theorem Vx {g c : Nat} {es : Array MapEntry} {D : List (E3 × Bool)} (w : World) (hM : jO w g es c) (hD : bV ed Value.bool D es c) (hl : D.length ≤ 100000000) : eI prog 105 [.map (some g),.func (.func 106) #[] #[]] w (OR 143 6 (fun xs=>∃ ps : List E3,xs = ps.flatMap bJ ∧ ps.Perm (D.map (·.1)) ∧ ps.Pairwise fun a b=>¬ yN b a) w):=by
 refine ⟨adq,?_⟩;have m:=bR.refl w
 go_enter func105,ntmps105
 refine aD fun K1 k1=>wp_region_lit (aA (aF) (aG (k1 _ _ ?_)));refine aD fun K2 k2=>wp_region_lit (aA (aF) ?_);replace m:=m.nilO 143 6;refine aG (k2 _ _ ?_);refine aD fun K3 k3=>aD fun K4 k4=>wp_region_lit (aA (aB) ?_);simp only[zz];refine wK m underlying136 rfl (hM.ext m.ext) ?_;clear m;intro r1 u m;refine aG (k4 _ _ ?_);refine wp_block ?_;simp only[zz];try simp only[Nat.zero_add,Nat.reduceAdd,Nat.reduceMul,Int.reduceToNat]
 refine bM [5] [6,9,10,11,12,13,14,15,16] (fun n vs wl=>∃ (dn rs : List (E3 × Bool)) (A1 : Option Addr) (n1 cap1 : Nat) (sn : Array Nat),vs = [.slice A1 n1 cap1] ∧ bR w wl [iI r1 g c sn,oI 143 6 A1 n1 cap1 ((dn.map (·.1)).flatMap bJ)] ∧ (kZ ed Value.bool D es sn dn rs) ∧ (n1 = dn.length) ∧ (n = rs.length)) ?_ ?_
 ·
  apply Exists.intro;simp only[zQ,zR,zD,zE];exact ⟨[],D,none,0,0,#[],rfl,m,kZ.start hD,rfl,rfl⟩
 ·
  intro n vs wr hI u;clear m;obtain ⟨dn,rs,A1,n1,cap1,sn,rfl,m,hT,hn1,hn⟩:=hI;have hlen:=hT.len;simp only[zu,zF,zG];refine aD fun K5 k5=>wp_region_lit (Du m 0 rfl rfl (hM.ext m.ext) hD hT ?_);clear m;intro bb kk vv sn u m hN;simp only[zF,zG] at m;refine aA (rW rfl) (aG (k5 _ _ ?_));refine aD fun K6 k6=>?_;simp only[zz];refine eU rfl (fun hc1=>?_) (fun hc1=>?_)
  ·
   obtain ⟨kp,kb,rs2,hp,hT2⟩:=Dx hc1 hN;refine wp_skip (k6 _ _ ?_);refine wp_block (aD fun K7 k7=>wp_region_lit (eL (rX rfl (m.r 0 rfl) (hM.ext m.ext) hD hT2) ?_));simp only[zz];refine aA (aZ rfl rfl) ?_;simp only[zz];refine bC m mA rfl ?_;clear m;intro g2 u m;simp only[zz];refine aS m 0 rfl rfl rfl dJ (dX rfl) rfl ?_;clear m;intro u m;simp only[zy,zx,bG,zF,zG,Nat.reduceAdd] at m;refine aG (k7 _ _ ?_);refine wp_region_lit (aA (aB) ?_);simp only[zz];refine aJ rfl ((m.b 0 rfl).full iZ dJ) ?_;simp only[zz];refine Pu rfl ?_;intro u g3 e hg hB;replace m:=m.newB e hg hB;clear e hg hB;simp only[zz];refine dM m 3 rfl rfl underlying139 abF rfl (by decide) rfl rfl rfl (m.b 0 rfl).rowsO (pD rfl) (by omega) (by omega) ?_;clear m;intro A1 cap1 u m;simp only[zF,zG] at m;refine aA (aF) (aG ?_);simp only[zz];simp only[Exit.inBlock,Exit.then];refine ⟨rs2.length,_,?_,rfl,?_,?_⟩
   · rw [hn,hp.length_eq];exact Nat.lt_succ_self _
   · simp only[zz,zv]
   ·
    simp only[zQ,zR,zD,zE];exact ⟨dn ++ [(kp,kb)],rs2,_,_,_,_,rfl,((m.reO 3 rfl ((m.o 3 rfl).as (by simp [bJ]))).sel [false,false,true,true]),hT2,by simp [hn1],rfl⟩
  ·
   obtain rfl:=Dw hc1 hN;refine wp_exit (k3 _ _ ?_);refine aD fun K8 k8=>wp_region_lit (aA (aB) (aA (aB) ?_));simp only[zz];refine nN m 1 adI rfl rfl (fun m=>abT m 1 rfl (by omega)) ?_;clear m;rintro v i u m ⟨rfl,ys,rfl,hys,hso⟩;simp only[zF,zG] at m;refine aG (k8 _ _ ?_);refine aD fun K9 k9=>wp_region_lit (aA (aB) (aA (aF) (aG (k9 _ _ ?_))));refine wp_ret ?_;simp only[zz];try simp only[Exit.inBlock,Exit.then,if_true]
   refine bS rfl rfl ?_;try simp only[zD,zE]
   exact ⟨_,rfl,m.ext,_,_,_,_,rfl,(m.o 1 rfl),_,rfl,hys.trans (hT.done.map _),hso.imp fun h=>by simpa [ltOf,yC] using h⟩
end Go.Proofs.YtfohfflkhpfjeaaGreatDoor
namespace Go.Lith
open Go.RowKit
section
variable {w0 w w' : World} {is : List It}
theorem bR.plus {js : List It} (m : bR w0 w is) (h : bR w w' js) : bR w0 w' (js ++ is):=by
 have m':=m.ext' h.ext;refine ⟨m'.ext,fun i hi=>?_,fun i hi b hb=>?_,List.pairwise_append.2 ⟨h.nd,m.nd,fun i hi j hj b h1 h2=>?_⟩⟩
 · exact (List.mem_append.1 hi).elim (h.all i) (m'.all i)
 · rcases List.mem_append.1 hi with hi | hi
   · exact Nat.le_trans m.ext.size (h.ge i hi b hb)
   · exact m'.ge i hi b hb
 · have k1:=h.ge i hi b h1
   have k2:=j.lt w b (m.all j hj) h2;omega
end
end Go.Lith
namespace Go.Proofs.YtfohfflkhpfjeaaGreatDoor
open Go.Proofs.Tryz
open Go.RowKit Go.Lith
set_option maxRecDepth 100000
attribute [local irreducible] wpList wpQuiet dC cS cR Code.wp
theorem aai {t : T3} : kV prog 124 [tr t] (.agg #[.int .i64 t.a.x,.int .i64 t.a.y,.int .i64 t.a.z,.int .i64 t.b.x,.int .i64 t.b.y,.int .i64 t.b.z,.int .i64 t.b.x,.int .i64 t.b.y,.int .i64 t.b.z,.int .i64 t.c.x,.int .i64 t.c.y,.int .i64 t.c.z,.int .i64 t.c.x,.int .i64 t.c.y,.int .i64 t.c.z,.int .i64 t.a.x,.int .i64 t.a.y,.int .i64 t.a.z]):=by
 intro w;refine ⟨adG,?_⟩;have m:=bR.refl w
 go_enter func124,ntmps124
 refine aD fun K1 k1=>wp_region_lit (eY m rfl ?_);clear m;intro g1 u m;simp only[zz];refine bC m Lz rfl ?_;clear m;intro g2 u m;refine aG (k1 _ _ ?_);refine aD fun K2 k2=>wp_region_lit (aA (aH bL aC rfl rfl (by decide) (by decide) rfl) ?_);simp only[zz];refine aJ rfl ((m.b 1 rfl).lies aI aC rfl rfl) ?_;simp only[zz,zy,Nat.zero_add,Nat.reduceAdd,Nat.reduceMul,Int.reduceToNat];refine aA (aH bL aC rfl rfl (by decide) (by decide) rfl) ?_;simp only[zz];refine aJ rfl ((m.b 1 rfl).lies aI aC rfl rfl) ?_;simp only[zz,zy,Nat.zero_add,Nat.reduceAdd,Nat.reduceMul,Int.reduceToNat];refine aA (fH rfl rfl) (aA (aH bL aC rfl rfl (by decide) (by decide) rfl) ?_);simp only[zz];refine aJ rfl ((m.b 1 rfl).lies aI aC rfl rfl) ?_;simp only[zz,zy,Nat.zero_add,Nat.reduceAdd,Nat.reduceMul,Int.reduceToNat];refine aA (aH bL aC rfl rfl (by decide) (by decide) rfl) ?_;simp only[zz];refine aJ rfl ((m.b 1 rfl).lies aI aC rfl rfl) ?_;simp only[zz,zy,Nat.zero_add,Nat.reduceAdd,Nat.reduceMul,Int.reduceToNat];refine aA (fH rfl rfl) (aA (aH bL aC rfl rfl (by decide) (by decide) rfl) ?_);simp only[zz];refine aJ rfl ((m.b 1 rfl).lies aI aC rfl rfl) ?_;simp only[zz,zy,Nat.zero_add,Nat.reduceAdd,Nat.reduceMul,Int.reduceToNat];refine aA (aH bL aC rfl rfl (by decide) (by decide) rfl) ?_;simp only[zz];refine aJ rfl ((m.b 1 rfl).lies aI aC rfl rfl) ?_;simp only[zz,zy,Nat.zero_add,Nat.reduceAdd,Nat.reduceMul,Int.reduceToNat];refine aA (fH rfl rfl) (aA (xS rfl rfl rfl) ?_);simp only[zz];refine aS m 0 rfl rfl rfl Hh (dX rfl) rfl ?_;clear m;intro u m;simp only[zy,zx,bG,zF,zG,Nat.reduceAdd] at m;refine aG (k2 _ _ ?_);refine wp_ret ?_;try simp only[Exit.inBlock,Exit.then,if_true]
 refine bS rfl ⟨_,rfl,((m.b 0 rfl).full abG Hh)⟩ ?_;try simp only[zD,zE]
 exact ⟨_,rfl,m.ext,rfl⟩
theorem ad5 {e : E3} : kV prog 126 [ed e] (ed (e.2,e.1)):=by
 intro w;refine ⟨adH,?_⟩;have m:=bR.refl w
 go_enter func126,ntmps126
 refine aD fun K1 k1=>wp_region_lit (eY m rfl ?_);clear m;intro g1 u m;simp only[zz];refine bC m mA rfl ?_;clear m;intro g2 u m;refine aG (k1 _ _ ?_);refine aD fun K2 k2=>wp_region_lit (aA (aK (c:=2) iO rfl aC rfl rfl) ?_);simp only[zz];refine aJ rfl ((m.b 1 rfl).lies aI aC rfl rfl) ?_;simp only[zz,zy,Nat.zero_add,Nat.reduceAdd,Nat.reduceMul,Int.reduceToNat];refine aA (aK (c:=2) iO rfl aC rfl rfl) ?_;simp only[zz];refine aJ rfl ((m.b 1 rfl).lies aI aC rfl rfl) ?_;simp only[zz,zy,Nat.zero_add,Nat.reduceAdd,Nat.reduceMul,Int.reduceToNat];refine aA (fH rfl rfl) ?_;simp only[zz];refine aS m 0 rfl rfl rfl dJ (dX rfl) rfl ?_;clear m;intro u m;simp only[zy,zx,bG,zF,zG,Nat.reduceAdd] at m;refine aG (k2 _ _ ?_);refine wp_ret ?_;try simp only[Exit.inBlock,Exit.then,if_true]
 refine bS rfl ⟨_,rfl,((m.b 0 rfl).full iZ dJ)⟩ ?_;try simp only[zD,zE]
 exact ⟨_,rfl,m.ext,rfl⟩
theorem Qn {E : List E3} {e : E3} (h : (!!(cD (fG [] E) e).getD false) = true) : false = decide (E ++ [e]).Nodup:=by
 rw [Bool.not_not] at h;exact (decide_eq_false fun k=>(wL.1 k).2 (Ea.1 h)).symm
theorem Kd {E : List E3} {e : E3} {b : Bool} (hb : b = decide E.Nodup) (h : (!!(cD (fG [] E) e).getD false) = false) : b = decide (E ++ [e]).Nodup:=by
 rw [Bool.not_not] at h;rw [hb,decide_eq_decide,wL];exact ⟨fun k=>⟨k,fun h2=>by rw [Ea.2 h2] at h;cases h⟩,And.left⟩
theorem lL {K : Type} [DecidableEq K] (ks : List K) (k : K) : fG [] (ks ++ [k]) = fJ (fG [] ks) k true:=Mo [] ks [k]
theorem Eo {ts : List T3} {N cap : Nat} {A : Option Addr} (w : World) (hT : eG w A N ts) (hN : N ≤ 10000000) : eI prog 103 [.slice A N cap] w (fun v w'=>∃ g es c,v = .tuple #[.map (some g),.bool (decide (aP ts).Nodup)] ∧ bR w w' [mI g es c] ∧ bV ed Value.bool (fG [] (aP ts)) es c):=by
 refine ⟨ado,?_⟩;have m:=bR.refl w
 go_enter func103,ntmps103
 refine aD fun K1 k1=>wp_region_lit (aA (aF) (aA (aF) (aG (k1 _ _ ?_))));refine aD fun K2 k2=>wp_region_lit ?_;simp only[zz];refine jJ m ?_;clear m;intro q8 u m;have hD8:=bV.nil (K:=E3) (V:=Bool) ed Value.bool;refine aA (aF) (aG (k2 _ _ ?_));refine aD fun K3 k3=>wp_region_lit (aA (aF) (aG (k3 _ _ ?_)));refine aD fun K4 k4=>aD fun K5 k5=>wp_region_lit (aA (aB) ?_);simp only[zz];refine aA (bF rfl bZ rfl) (aA (aB) (aG (k5 _ _ ?_)));refine wp_block ?_;simp only[zz];try simp only[Nat.zero_add,Nat.reduceAdd,Nat.reduceMul,Int.reduceToNat]
 refine bM [5,13] [7,9,14,15,16,17,18,19,20,21,22,23,24,25,26,27] (fun n vs wl=>∃ (k : Nat) (es : Array MapEntry) (c : Nat) (b : Bool),vs = [.bool b,.int .i64 (k:Int)] ∧ bR w wl [mI q8 es c] ∧ (bV ed Value.bool (fG [] (aP (ts.take k))) es c) ∧ (b = decide (aP (ts.take k)).Nodup) ∧ (k ≤ N) ∧ (n = N - k)) ?_ ?_
 ·
  apply Exists.intro;simp only[zQ,zR,zD,zE];exact ⟨0,_,_,true,rfl,m,hD8,rfl,Nat.zero_le _,rfl⟩
 ·
  intro n vs wr hI u;clear m;obtain ⟨k,es,c,b0,rfl,m,hD8,hb0,hk,hn⟩:=hI;simp only[zu,zF,zG];refine aD fun K6 k6=>wp_region_lit (aA (cJ rfl rfl) (aG (k6 _ _ ?_)));refine aD fun K7 k7=>?_;simp only[zz];refine cO rfl (fun hc1=>?_) (fun hc1=>?_)
  ·
   obtain ⟨t,ht,_,a,rfl,hrow⟩:=hT.get (i:=k) (by omega);refine wp_skip (k7 _ _ ?_);refine aD fun K8 k8=>wp_block (aD fun K9 k9=>wp_region_lit (aA (aM bZ aU rfl rfl (by omega) (by omega) (cA (Int.toNat_natCast _))) ?_));simp only[zz];refine aJ rfl ((hrow.ext m.ext).lies eQ aU) ?_;simp only[zz];refine bC m iY rfl ?_;clear m;intro g2 u m;simp only[zz];refine aS m 0 rfl rfl rfl aU (dX rfl) rfl ?_;clear m;intro u m;simp only[zy,zx,bG,zF,zG,Nat.reduceAdd] at m;refine aG (k9 _ _ ?_);refine aD fun K10 k10=>wp_region_lit (aJ rfl ((m.b 0 rfl).full eQ aU) ?_);simp only[zz];refine iV m rfl rfl (aai) ?_;clear m;intro u m;refine aA (aB) (aG (k10 _ _ ?_));refine wp_block (wp_loop_rounds 4 (cZ (aD fun K11 k11=>wp_region_lit (aA (bT (m:=0) (n:=3) rfl rfl (by decide)) (aG (k11 _ _ ?_))))));refine aD fun K12 k12=>cK rfl (wp_skip (k12 _ _ ?_));refine aD fun K13 k13=>wp_block (aD fun K14 k14=>wp_region_lit (aA (Gd rfl rfl) ?_));simp only[zz];refine bC m mA rfl ?_;clear m;intro g3 u m;simp only[zz];refine aS m 0 rfl rfl rfl dJ (dX rfl) rfl ?_;clear m;intro u m;simp only[zy,zx,bG,zF,zG,Nat.reduceAdd] at m;refine aG (k14 _ _ ?_);refine aD fun K15 k15=>wp_region_lit (aA (aB) ?_);simp only[zz];refine aJ rfl ((m.b 0 rfl).full iZ dJ) ?_;simp only[zz];refine nN m 2 Jm rfl rfl (fun m=>Kc (p:=(t.a,t.b)) m 2 rfl hD8) ?_;clear m;rintro v i u m ⟨rfl,es',c',rfl,hD'⟩;simp only[zF,zG] at m;simp only[zz];rw [← lL] at hD';clear hD8;have hD8:=hD';clear hD';refine aA (gX rfl) (aG (k15 _ _ ?_));simp only[zz];refine Ka m [5] [] (fun vs=>∃ (b : Bool),vs = [.bool b] ∧ (b = decide (((aP (ts.take k)) ++ [(t.a,t.b)])).Nodup)) ?_ ?_
   ·
    refine eU rfl (fun hc3=>?_) (fun hc3=>?_)
    ·
     refine wp_region_lit (aA (aF) (aG ?_));simp only[zz];simp only[Exit.inBlock,Exit.then];refine ⟨_,rfl,?_,m,?_⟩
     · simp only[zz,zv]
     ·
      simp only[zQ,zR,zD,zE];exact ⟨false,rfl,Qn hc3⟩
    ·
     skip
     refine wp_skip ?_;simp only[Exit.inBlock,Exit.then];refine ⟨_,rfl,?_,m,?_⟩
     · simp only[zz,zv]
     ·
      simp only[zQ,zR,zD,zE];exact ⟨b0,rfl,Kd hb0 hc3⟩
   ·
    intro vs wr m hI u;obtain ⟨b1,rfl,hb1⟩:=hI;simp only[zu,zF,zG];refine k13 _ _ (wp_region_lit (aA (aQ (m:=0) (n:=1) (r:=1) rfl rfl (by decide)) (aA (aB) (aG (aT (aD fun K16 k16=>wp_region_lit (aA (bT (m:=1) (n:=3) rfl rfl (by decide)) (aG (k16 _ _ ?_)))))))));refine aD fun K17 k17=>cK rfl (wp_skip (k17 _ _ ?_));refine aD fun K18 k18=>wp_block (aD fun K19 k19=>wp_region_lit (aA (Ge rfl rfl) ?_));simp only[zz];refine bC m mA rfl ?_;clear m;intro g4 u m;simp only[zz];refine aS m 0 rfl rfl rfl dJ (dX rfl) rfl ?_;clear m;intro u m;simp only[zy,zx,bG,zF,zG,Nat.reduceAdd] at m;refine aG (k19 _ _ ?_);refine aD fun K20 k20=>wp_region_lit (aA (aB) ?_);simp only[zz];refine aJ rfl ((m.b 0 rfl).full iZ dJ) ?_;simp only[zz];refine nN m 3 Jm rfl rfl (fun m=>Kc (p:=(t.b,t.c)) m 3 rfl hD8) ?_;clear m;rintro v i u m ⟨rfl,es',c',rfl,hD'⟩;simp only[zF,zG] at m;simp only[zz];rw [← lL] at hD';clear hD8;have hD8:=hD';clear hD';refine aA (gX rfl) (aG (k20 _ _ ?_));simp only[zz];refine Ka m [5] [] (fun vs=>∃ (b : Bool),vs = [.bool b] ∧ (b = decide ((((aP (ts.take k)) ++ [(t.a,t.b)]) ++ [(t.b,t.c)])).Nodup)) ?_ ?_
    ·
     refine eU rfl (fun hc3=>?_) (fun hc3=>?_)
     ·
      refine wp_region_lit (aA (aF) (aG ?_));simp only[zz];simp only[Exit.inBlock,Exit.then];refine ⟨_,rfl,?_,m,?_⟩
      · simp only[zz,zv]
      ·
       simp only[zQ,zR,zD,zE];exact ⟨false,rfl,Qn hc3⟩
     ·
      skip
      refine wp_skip ?_;simp only[Exit.inBlock,Exit.then];refine ⟨_,rfl,?_,m,?_⟩
      · simp only[zz,zv]
      ·
       simp only[zQ,zR,zD,zE];exact ⟨b1,rfl,Kd hb1 hc3⟩
    ·
     intro vs wr m hI u;obtain ⟨b2,rfl,hb2⟩:=hI;simp only[zu,zF,zG];refine k18 _ _ (wp_region_lit (aA (aQ (m:=1) (n:=1) (r:=2) rfl rfl (by decide)) (aA (aB) (aG (aT (aD fun K21 k21=>wp_region_lit (aA (bT (m:=2) (n:=3) rfl rfl (by decide)) (aG (k21 _ _ ?_)))))))));refine aD fun K22 k22=>cK rfl (wp_skip (k22 _ _ ?_));refine aD fun K23 k23=>wp_block (aD fun K24 k24=>wp_region_lit (aA (Gf rfl rfl) ?_));simp only[zz];refine bC m mA rfl ?_;clear m;intro g5 u m;simp only[zz];refine aS m 0 rfl rfl rfl dJ (dX rfl) rfl ?_;clear m;intro u m;simp only[zy,zx,bG,zF,zG,Nat.reduceAdd] at m;refine aG (k24 _ _ ?_);refine aD fun K25 k25=>wp_region_lit (aA (aB) ?_);simp only[zz];refine aJ rfl ((m.b 0 rfl).full iZ dJ) ?_;simp only[zz];refine nN m 4 Jm rfl rfl (fun m=>Kc (p:=(t.c,t.a)) m 4 rfl hD8) ?_;clear m;rintro v i u m ⟨rfl,es',c',rfl,hD'⟩;simp only[zF,zG] at m;simp only[zz];rw [← lL] at hD';clear hD8;have hD8:=hD';clear hD';refine aA (gX rfl) (aG (k25 _ _ ?_));simp only[zz];refine Ka m [5] [] (fun vs=>∃ (b : Bool),vs = [.bool b] ∧ (b = decide (((((aP (ts.take k)) ++ [(t.a,t.b)]) ++ [(t.b,t.c)]) ++ [(t.c,t.a)])).Nodup)) ?_ ?_
     ·
      refine eU rfl (fun hc3=>?_) (fun hc3=>?_)
      ·
       refine wp_region_lit (aA (aF) (aG ?_));simp only[zz];simp only[Exit.inBlock,Exit.then];refine ⟨_,rfl,?_,m,?_⟩
       · simp only[zz,zv]
       ·
        simp only[zQ,zR,zD,zE];exact ⟨false,rfl,Qn hc3⟩
      ·
       skip
       refine wp_skip ?_;simp only[Exit.inBlock,Exit.then];refine ⟨_,rfl,?_,m,?_⟩
       · simp only[zz,zv]
       ·
        simp only[zQ,zR,zD,zE];exact ⟨b2,rfl,Kd hb2 hc3⟩
     ·
      intro vs wr m hI u;obtain ⟨b3,rfl,hb3⟩:=hI;simp only[zu,zF,zG];refine k23 _ _ (wp_region_lit (aA (aQ (m:=2) (n:=1) (r:=3) rfl rfl (by decide)) (aA (aB) (aG (aT (aD fun K26 k26=>wp_region_lit (aA (fT (m:=3) (n:=3) rfl rfl (by decide)) (aG (k26 _ _ ?_)))))))));refine aD fun K27 k27=>jM rfl (wp_exit (k8 _ _ ?_));refine wp_region_lit ?_;simp only[zz];refine aA (aQ rfl rfl (aN (by omega) (by omega))) (aA (aB) (aG ?_));simp only[zz];simp only[Exit.inBlock,Exit.then];refine ⟨N - (k + 1),_,?_,rfl,?_,?_⟩
      · omega
      · simp only[zz,zv]
      ·
       simp only[zQ,zR,zD,zE];exact ⟨k + 1,_,_,b3,rfl,(m.sel [false,false,false,false,true]),by rw [oR ht];simpa [List.append_assoc] using hD8,by rw [hb3,oR ht];simp only[List.append_assoc,List.cons_append,List.nil_append],by omega,rfl⟩
  ·
   have hkN : k = N:=by omega
   rw [hkN,show ts.take N = ts from List.take_of_length_le (by rw [hT.len];exact Nat.le_refl _)] at hD8 hb0;refine wp_exit (k4 _ _ ?_);refine aD fun K28 k28=>wp_region_lit (aA (aB) (aA (aB) (aA (aF) (aA (aF) ?_))));simp only[zz];refine aG (k28 _ _ ?_);refine wp_ret ?_;try simp only[Exit.inBlock,Exit.then,if_true]
   refine nV rfl rfl rfl ?_;try simp only[zD,zE]
   exact ⟨_,rfl,m.ext,_,_,_,by rw [hb0],m,hD8⟩
theorem ad6 {E : List E3} {dn : List (E3 × Bool)} {kp : E3} {kb : Bool} (h : (!(cD (fG [] E) (kp.2,kp.1)).getD false) = true) : ((dn ++ [(kp,kb)]).map (·.1)).filter (fun e=>decide ((e.2,e.1) ∉ E)) = (dn.map (·.1)).filter (fun e=>decide ((e.2,e.1) ∉ E)) ++ [kp]:=by
 rw [oZ] at h;simp only[List.map_append,List.filter_append,List.map_cons,List.map_nil];rw [List.filter_cons_of_pos (by simpa using h)];rfl
theorem ad7 {E : List E3} {dn : List (E3 × Bool)} {kp : E3} {kb : Bool} (h : (!(cD (fG [] E) (kp.2,kp.1)).getD false) = false) : ((dn ++ [(kp,kb)]).map (·.1)).filter (fun e=>decide ((e.2,e.1) ∉ E)) = (dn.map (·.1)).filter (fun e=>decide ((e.2,e.1) ∉ E)):=by
 rw [oZ] at h;simp only[List.map_append,List.filter_append,List.map_cons,List.map_nil];rw [List.filter_cons_of_neg (by simpa using h)];simp
theorem aaj {E : List E3} {dn : List (E3 × Bool)} (h : dn.Perm (fG [] E)) : (∀ a,a ∈ (dn.map (·.1)).filter (fun e=>decide ((e.2,e.1) ∉ E)) ↔ a ∈ E ∧ (a.2,a.1) ∉ E) ∧ ((dn.map (·.1)).filter (fun e=>decide ((e.2,e.1) ∉ E))).length ≤ E.length:=by
 refine ⟨fun a=>?_,?_⟩
 ·
  rw [List.mem_filter,(h.map (·.1)).mem_iff,tY];simp
 ·
  refine Nat.le_trans (List.length_filter_le _ _) ?_;have:=tZ E [];rw [List.length_map,h.length_eq];simpa using this
theorem Vy {g c : Nat} {es : Array MapEntry} {E : List E3} (w : World) (hM : jO w g es c) (hD : bV ed Value.bool (fG [] E) es c) : eI prog 104 [.map (some g)] w (fun v w'=>∃ g es c ks,v = .map (some g) ∧ bR w w' [mI g es c] ∧ bV ed Value.bool (fG [] ks) es c ∧ (∀ a,a ∈ ks ↔ a ∈ E ∧ (a.2,a.1) ∉ E) ∧ ks.length ≤ E.length):=by
 refine ⟨adp,?_⟩;have m:=bR.refl w
 go_enter func104,ntmps104
 refine aD fun K1 k1=>wp_region_lit (aA (aF) (aG (k1 _ _ ?_)));refine aD fun K2 k2=>wp_region_lit ?_;simp only[zz];refine jJ m ?_;clear m;intro q8 u m;have hD8:=bV.nil (K:=E3) (V:=Bool) ed Value.bool;refine aA (aF) (aG (k2 _ _ ?_));refine aD fun K3 k3=>aD fun K4 k4=>wp_region_lit (aA (aB) ?_);simp only[zz];refine wK m underlying136 rfl (hM.ext m.ext) ?_;clear m;intro r1 u m;refine aG (k4 _ _ ?_);refine wp_block ?_;simp only[zz];try simp only[Nat.zero_add,Nat.reduceAdd,Nat.reduceMul,Int.reduceToNat]
 refine bM [] [4,8,9,10,11,12,13,14,15,16,17,18,19] (fun n vs wl=>∃ (dn rs : List (E3 × Bool)) (sn : Array Nat) (es2 : Array MapEntry) (c2 : Nat),vs = [] ∧ bR w wl [iI r1 g c sn,mI q8 es2 c2] ∧ (bV ed Value.bool (fG [] ((dn.map (·.1)).filter (fun e=>decide ((e.2,e.1) ∉ E)))) es2 c2) ∧ (kZ ed Value.bool (fG [] E) es sn dn rs) ∧ (n = rs.length)) ?_ ?_
 ·
  apply Exists.intro;simp only[zQ,zR,zD,zE];exact ⟨[],fG [] E,#[],_,_,trivial,m,hD8,kZ.start hD,rfl⟩
 ·
  intro n vs wr hI u;clear m;obtain ⟨dn,rs,sn,es2,c2,rfl,m,hD8,hT,hn⟩:=hI;simp only[zu,zF,zG];refine aD fun K5 k5=>wp_region_lit (Du m 0 rfl rfl (hM.ext m.ext) hD hT ?_);clear m;intro bb kk vv sn u m hN;simp only[zF,zG] at m;refine aA (rW rfl) (aG (k5 _ _ ?_));refine aD fun K6 k6=>?_;simp only[zz];refine eU rfl (fun hc1=>?_) (fun hc1=>?_)
  ·
   obtain ⟨kp,kb,rs2,hp,hT2⟩:=Dx hc1 hN;refine wp_skip (k6 _ _ ?_);refine wp_block (aD fun K7 k7=>wp_region_lit (eL (rX rfl (m.r 0 rfl) (hM.ext m.ext) hD hT2) ?_));simp only[zz];refine aA (aZ rfl rfl) ?_;simp only[zz];refine bC m mA rfl ?_;clear m;intro g3 u m;simp only[zz];refine aS m 0 rfl rfl rfl dJ (dX rfl) rfl ?_;clear m;intro u m;simp only[zy,zx,bG,zF,zG,Nat.reduceAdd] at m;refine aG (k7 _ _ ?_);refine aD fun K8 k8=>wp_region_lit (aA (aB) ?_);simp only[zz];refine aJ rfl ((m.b 0 rfl).full iZ dJ) ?_;simp only[zz];refine iV m rfl rfl (ad5) ?_;clear m;intro u m;simp only[zz];refine eL (dZ (ek:=ed) (en:=Value.bool) (k:=(kp.2,kp.1)) (v0:=false) underlying136 kY uF rfl rfl (hM.ext m.ext) hD) ?_;simp only[zz];refine aA (gX rfl) (aG (k8 _ _ ?_));simp only[zz];refine eU rfl (fun hc2=>?_) (fun hc2=>?_)
   ·
    refine wp_region_lit (aA (aB) ?_);simp only[zz];refine aJ rfl ((m.b 0 rfl).full iZ dJ) ?_;simp only[zz];refine nN m 2 Jm rfl rfl (fun m=>Kc (p:=kp) m 2 rfl hD8) ?_;clear m;rintro v i u m ⟨rfl,es',c',rfl,hD'⟩;simp only[zF,zG] at m;simp only[zz];rw [← lL] at hD';clear hD8;have hD8:=hD';clear hD';refine aG ?_;simp only[Exit.inBlock,Exit.then];refine ⟨rs2.length,_,?_,rfl,?_,?_⟩
    · rw [hn,hp.length_eq];exact Nat.lt_succ_self _
    · simp only[zz,zv]
    ·
     simp only[zQ,zR,zD,zE];exact ⟨dn ++ [(kp,kb)],rs2,_,_,_,trivial,(m.sel [false,true,true]),by rw [ad6 hc2];exact hD8,hT2,rfl⟩
   ·
    refine wp_skip ?_;simp only[Exit.inBlock,Exit.then];refine ⟨rs2.length,_,?_,rfl,?_,?_⟩
    · rw [hn,hp.length_eq];exact Nat.lt_succ_self _
    · simp only[zz,zv]
    ·
     simp only[zQ,zR,zD,zE];exact ⟨dn ++ [(kp,kb)],rs2,_,_,_,trivial,(m.sel [false,true,true]),by rw [ad7 hc2];exact hD8,hT2,rfl⟩
  ·
   obtain rfl:=Dw hc1 hN;refine wp_exit (k3 _ _ ?_);refine aD fun K9 k9=>wp_region_lit (aA (aB) (aA (aF) (aG (k9 _ _ ?_))));refine wp_ret ?_;simp only[zz];try simp only[Exit.inBlock,Exit.then,if_true]
   refine bS rfl rfl ?_;try simp only[zD,zE]
   exact ⟨_,rfl,m.ext,_,_,_,_,rfl,m.sel [false,true],hD8,aaj hT.done⟩
theorem Vz {ts : List T3} {ks ps : List E3} (hk : ∀ a,a ∈ ks ↔ a ∈ aP ts ∧ (a.2,a.1) ∉ aP ts) (hp : ps.Perm ((fG [] ks).map (·.1))) (hs : ps.Pairwise fun a b=>¬ yN b a) : ps = aR ts:=by
 refine Az ?_ (mV ts) fun a=>?_
 ·
  have hn : ps.Nodup:=hp.nodup_iff.2 (mO _ _ .nil);refine List.Pairwise.imp₂ (fun a b (h : ¬ yN b a) (k : a ≠ b)=>?_) hs hn;rcases yN.tri a b with h1 | h1 | h1
  · exact h1
  · exact absurd h1 k
  · exact absurd h1 h
 ·
  rw [hp.mem_iff,tY,oY,hk];simp
theorem Hu {ts : List T3} {N cap : Nat} {A : Option Addr} (w : World) (hT : eG w A N ts) (hN : N ≤ 10000000) : eI prog 66 [.slice A N cap] w (SL 57 6 ((aR ts).flatMap bJ) (aR ts).length w):=by
 refine ⟨afo,?_⟩;have m:=bR.refl w;have htl:=hT.len;have hel:=lG ts
 go_enter func66,ntmps66
 refine aD fun K1 k1=>wp_region_lit (aA (aF) (aG (k1 _ _ ?_)));refine aD fun K2 k2=>wp_region_lit (aA (aB) ?_);simp only[zz];refine bK rfl rfl (Eo _ (hT.ext m.ext) (by omega)) ?_;rintro v u e ⟨g8,es8,c8,rfl,hM,hD8⟩;replace m:=m.plus hM;clear hM e;simp only[List.cons_append,List.nil_append] at m;refine aA (aB) (aA (aZ rfl rfl) (aA (aZ rfl rfl) ?_));simp only[zz];refine aA (aF) (aA (aF) (aG (k2 _ _ ?_)));refine aD fun K3 k3=>wp_region_lit (aA (aF) ?_);replace m:=m.nilO 57 6;refine aG (k3 _ _ ?_);refine aD fun K4 k4=>aD fun K5 k5=>wp_region_lit (aA (aB) ?_);simp only[zz];refine bK rfl rfl (Vy _ (m.p 1 rfl) hD8) ?_;rintro v u e ⟨g9,es9,c9,ks,rfl,hM,hD9,hks,hkl⟩;replace m:=m.plus hM;clear hM e;simp only[List.cons_append,List.nil_append] at m;simp only[zz];refine bK rfl rfl (Vx _ (m.p 0 rfl) hD9 (by have h1:=tZ ks [];simp only[List.length_nil] at h1;omega)) ?_;rintro v u e ⟨A5,n5,cap5,_,rfl,hN,ps,rfl,hps,hso⟩;replace m:=m.newO e hN;clear e hN;obtain rfl:=Vz hks hps hso;obtain rfl : (aR ts).length = n5:=(m.o 0 rfl).num pR (by decide);have hle5:=(m.o 0 rfl).le;have hbl : (aR ts).length ≤ (aP ts).length:=by have:=tN (all:=aP ts) (aP ts) [];simpa [aR] using this
 refine aA (bF rfl underlying139 rfl) (aA (aB) (aG (k5 _ _ ?_)));refine wp_block ?_;simp only[zz];try simp only[Nat.zero_add,Nat.reduceAdd,Nat.reduceMul,Int.reduceToNat]
 refine bM [5,17] [7,18,19,20,21,22,23,24,25,26,27,28,29] (fun n vs wl=>∃ (k : Nat) (A6 : Option Addr) (cap6 : Nat),vs = [.slice A6 k cap6,.int .i64 (k:Int)] ∧ bR w wl [oI 143 6 A5 (aR ts).length cap5 ((aR ts).flatMap bJ),oI 57 6 A6 k cap6 (((aR ts).take k).flatMap bJ)] ∧ (k ≤ (aR ts).length) ∧ (n = (aR ts).length - k)) ?_ ?_
 ·
  apply Exists.intro;simp only[zQ,zR,zD,zE];exact ⟨0,_,_,rfl,(m.sel [true,false,true,false]),Nat.zero_le _,rfl⟩
 ·
  intro n vs wr hI u;clear m;obtain ⟨k,A6,cap6,rfl,m,hk,hn⟩:=hI;simp only[zu,zF,zG];refine aD fun K6 k6=>wp_region_lit (aA (cJ rfl rfl) (aG (k6 _ _ ?_)));refine aD fun K7 k7=>?_;simp only[zz];refine cO rfl (fun hc1=>?_) (fun hc1=>?_)
  ·
   obtain ⟨e,he⟩ : ∃ e,(aR ts)[k]? = some e:=⟨_,List.getElem?_eq_getElem (by omega)⟩
   obtain ⟨gO,rfl⟩:=(m.o 0 rfl).some (by omega);refine wp_skip (k7 _ _ ?_);refine aD fun K8 k8=>wp_block (aD fun K9 k9=>wp_region_lit (aA (aM underlying139 dJ rfl rfl (by omega) (by omega) (cA (Int.toNat_natCast _))) ?_));simp only[zz];refine aJ rfl (((m.o 0 rfl).at pR he).lies iZ dJ) ?_;simp only[zz];refine bC m mA rfl ?_;clear m;intro g1 u m;simp only[zz];refine aS m 0 rfl rfl rfl dJ (dX rfl) rfl ?_;clear m;intro u m;simp only[zy,zx,bG,zF,zG,Nat.reduceAdd] at m;refine aG (k9 _ _ ?_);refine wp_region_lit (aA (aB) (aA (aK (c:=2) iO rfl aC rfl rfl) ?_));simp only[zz];refine aJ rfl ((m.b 0 rfl).lies aI aC rfl rfl) ?_;simp only[zz,zy,Nat.zero_add,Nat.reduceAdd,Nat.reduceMul,Int.reduceToNat];refine aA (aK (c:=2) iO rfl aC rfl rfl) ?_;simp only[zz];refine aJ rfl ((m.b 0 rfl).lies aI aC rfl rfl) ?_;simp only[zz,zy,Nat.zero_add,Nat.reduceAdd,Nat.reduceMul,Int.reduceToNat];refine aA (bW rfl rfl) ?_;simp only[zz];refine yZ rfl ?_;intro u g2 e hg hB;replace m:=m.newB e hg hB;clear e hg hB;simp only[zz];refine dM m 3 rfl rfl fL tU rfl (by decide) rfl rfl rfl (m.b 0 rfl).rowsO (pD rfl) (by omega) (by omega) ?_;clear m;intro A6 cap6 u m;simp only[zF,zG] at m;refine aA (aF) (aG (k8 _ _ ?_));refine wp_region_lit ?_;simp only[zz];refine aA (aQ rfl rfl (aN (by omega) (by omega))) (aA (aB) (aG ?_));simp only[zz];simp only[Exit.inBlock,Exit.then];refine ⟨(aR ts).length - (k + 1),_,?_,rfl,?_,?_⟩
   · omega
   · simp only[zz,zv]
   ·
    simp only[zQ,zR,zD,zE];exact ⟨k + 1,_,_,rfl,((m.reO 3 rfl ((m.o 3 rfl).as (by rw [dN he,List.flatMap_append];rfl))).sel [false,false,true,true]),by omega,rfl⟩
  ·
   obtain rfl : k = (aR ts).length:=by omega
   rw [List.take_length] at m;refine wp_exit (k4 _ _ ?_);refine aD fun K10 k10=>wp_region_lit (aA (aB) (aA (aF) (aG (k10 _ _ ?_))));refine wp_ret ?_;simp only[zz];try simp only[Exit.inBlock,Exit.then,if_true]
   refine bS rfl rfl ?_;try simp only[zD,zE]
   exact ⟨_,rfl,m.ext,⟨_,_,_,rfl,rfl,(m.o 1 rfl)⟩⟩
end Go.Proofs.YtfohfflkhpfjeaaGreatDoor
namespace Go.Lith
open Go.RowKit Go.ChangeMaps Go.MapKept
def abU {K V : Type} [DecidableEq K] (ek : K → Value) (en : V → Value) (D : List (K × V)) (k : K) (es : Array MapEntry) (c b : Nat) : Prop :=
 ∀ u,∃ p,es.findIdx? (fun e=>(e.born : Int) == (b : Int)) = some p ∧ bV ek en (fJ D k u) (es.modify p fun e=>{ e with val:=en u }) c
section
variable {K V : Type} [DecidableEq K] {P : Program} {T M E ty : TypeId} {ek : K → Value} {en : V → Value} {w w0 : World} {g c : Nat} {es : Array MapEntry} {D : List (K × V)}
theorem ad8 {α : Type} {l : List α} {p : Nat} {x : α} (h : l[p]? = some x) : l.set p x = l:=by
 apply List.ext_getElem?;intro j;rw [List.getElem?_set];split
 · rename_i e;subst e;rw [if_pos (List.getElem?_eq_some_iff.1 h).1,h]
 · rfl
theorem Nc {b p : Nat} (hn : (es.toList.map (·.born)).Nodup) {e : MapEntry} (he : es[p]? = some e) (hb : e.born = b) : es.findIdx? (fun e=>(e.born : Int) == (b : Int)) = some p:=by
 rw [Array.findIdx?_eq_some_iff_getElem];have hp:=(Array.getElem?_eq_some_iff.1 he).1;have hx:=(Array.getElem?_eq_some_iff.1 he).2;refine ⟨hp,by rw [hx,hb];simp,fun j hj=>?_⟩;have hj' : j < es.size:=by omega
 simp only[Bool.not_eq_true,beq_eq_false_iff_ne,ne_eq,Int.natCast_inj];intro hh;have h1 : (es.toList.map (·.born))[j]'(by simpa using hj') = (es.toList.map (·.born))[p]'(by simpa using hp):=by
  simp only[List.getElem_map,Array.getElem_toList];rw [hh,hx,hb]
 have:=(List.getElem_inj hn).1 h1;omega
theorem Qo {p : Nat} {e : MapEntry} (he : es[p]? = some e) (k u : Value) (hk : e.key = k) : (es.modify p fun e=>{ e with val:=u }) = es.modify p fun e=>{ e with key:=k,val:=u }:=by
 apply Array.ext_getElem?;intro j;rw [Array.getElem?_modify,Array.getElem?_modify];split
 · rename_i hj;subst hj;rw [he];simp [hk]
 · rfl
theorem abV (hD : bV ek en D es c) {p : Nat} {k : K} {v : V} (hp : D[p]? = some (k,v)) : ∃ e,es[p]? = some e ∧ e.key = ek k ∧ e.val = en v:=by
 have h2:=congrArg (fun L=>L[p]?) hD.cells;simp only[List.getElem?_map,hp,Option.map_some] at h2;rw [Array.getElem?_toList] at h2;cases h3 : es[p]? with
 | none=>rw [h3] at h2;cases h2
 | some x =>
  rw [h3] at h2;simp only[Option.map_some,Option.some.injEq,Vk,Prod.mk.injEq] at h2;exact ⟨x,rfl,h2.1,h2.2⟩
theorem Gi {v0 : V} (hu : P.underlying M = some (.map T E)) (hz : lO P E (en v0)) (kt : pV P T ek) (hM : jO w g es c) (hD : bV ek en D es c) (k : K) :
 ∃ es' c' b,(Instr.mapEntry M (.map (some g)) (ek k)).run P w = .ok (.tuple #[en ((cD D k).getD v0),.int .i64 (b : Nat)]) (setBlock w g (.map es' c')) ∧ bV ek en (fJ D k ((cD D k).getD v0)) es' c' ∧ abU ek en D k es' c' b:=by
 unfold jO at hM;cases hf : mF D k 0 with
 | none =>
  obtain ⟨h0,h1,_⟩:=mM D k 0 hf;obtain ⟨inf,hi,hz⟩:=hz;have hzv : (zeroValue E).run P w = .ok (en v0) w:=by simp [zeroValue,typeInfo,program,Sem.run,hi,hz]
  have hP:=hD.push k v0;refine ⟨_,_,c,?_,by rw [h0,h1];exact hP,fun u=>⟨es.size,Nc hP.nd (e:={ key:=ek k,val:=en v0,born:=c }) (by simp) rfl,?_⟩⟩
  · simp only[Instr.mapEntry,Sem.run_bind,run_underlying hu,Result.andThen,getObj,Sem.run,hM,Sem.run_pure,kt.chk,oW kt k w hD,hf,Option.map_none,hzv,run_setObj_map _ hM,h0,Option.getD_none,goInt]
    rfl
  · rw [h1]
    have e : ((es.push { key:=ek k,val:=en v0,born:=c }).modify es.size fun e=>{ e with val:=en u }) = es.push { key:=ek k,val:=en u,born:=c }:=by
     apply Array.ext_getElem?;intro j;rw [Array.getElem?_modify,Array.getElem?_push,Array.getElem?_push];split
     · rename_i hj;subst hj;simp
     · rename_i hj;simp [Ne.symm hj]
    rw [e];exact hD.push k u
 | some p =>
  obtain ⟨j,v⟩:=p;obtain ⟨p,rfl,hp,h0,h1,_⟩:=mN D k 0 j v hf;rw [Nat.zero_add] at hf;obtain ⟨e,he,hk,hv⟩:=abV hD hp;have hk' : ((es[p]?).map (·.key)).getD (ek k) = ek k:=by rw [he];simp [hk]
  have hm : (es.modify p fun e=>{ e with key:=ek k }) = es:=by
   apply Array.ext_getElem?;intro j;rw [Array.getElem?_modify];split
   · rename_i hj;subst hj;rw [he];simp [← hk]
   · rfl
  refine ⟨es,c,e.born,?_,by rw [h0,Option.getD_some,h1,ad8 hp];exact hD,fun u=>⟨p,Nc hD.nd he rfl,?_⟩⟩
  · simp only[Instr.mapEntry,Sem.run_bind,run_underlying hu,Result.andThen,getObj,Sem.run,hM,Sem.run_pure,kt.chk,oW kt k w hD,hf,Option.map_some,hk',Instr.keyThatStays,kt.bits,if_true,hm,run_setObj_map _ hM,h0,Option.getD_some,he,hk,kt.bits,if_true,Sem.run_pure,hm,goInt]
    rfl
  · rw [h1,Qo he (ek k) (en u) hk]
    exact hD.set hp u
theorem Bj {b : Nat} {k : K} (hM : jO w g es c) (hS : abU ek en D k es c b) (u : V) :
 ∃ es',(Instr.entryStore M (.map (some g)) (.int .i64 (b : Nat)) (en u)).run P w = .ok () (setBlock w g (.map es' c)) ∧ bV ek en (fJ D k u) es' c:=by
 obtain ⟨p,hp,hD⟩:=hS u;unfold jO at hM;refine ⟨_,?_,hD⟩;simp only[Instr.entryStore,Sem.run_bind,Result.andThen,getObj,Sem.run,hM,Sem.run_pure,asInt,asIntOf,hp];exact run_setObj_map _ hM
theorem abW {ds : List Deferred} {l : List Value} {op : Op} {ops : Array Oper} {Q : Exit → Act → World → Prop} {rest : List Oper} {pos : String} {after : Array Edge}
 (h : ∀ o : Oper,o.op = op → ∃ v w',(execOp (Fr l).eval o).run P w = .ok (.value v) w' ∧ wpList P ops Q rest (Fr l ds) w') : wpList P ops Q (Oper.mk none op ty pos after none :: rest) (Fr l ds) w:=by
 refine wpList_plain rfl fun K hK=>?_;unfold Oper.wp;obtain ⟨v,w',hr,hw⟩:=h (Oper.mk none op ty pos after none) rfl;rw [fY,hr];exact hK _ _ hw
variable {is : List It} {ds : List Deferred} {l : List Value} {x y z : Operand} {ops : Array Oper} {Q : Exit → Act → World → Prop} {rest : List Oper} {d : Nat} {pos : String} {after : Array Edge}
theorem Ag {v0 : V} {a : K} (m : bR w0 w is) (k : Nat) (hk : is[k]? = some (mI g es c)) (hu : P.underlying M = some (.map T E)) (hz : lO P E (en v0)) (kt : pV P T ek) (hx : ev l x = .map (some g)) (hy : ev l y = ek a) (hD : bV ek en D es c)
 (h : ∀ es' c' b u,bR w0 u (is.set k (mI g es' c')) → bV ek en (fJ D a ((cD D a).getD v0)) es' c' → abU ek en D a es' c' b → wpList P ops Q rest (Fr (l.set d (.tuple #[en ((cD D a).getD v0),.int .i64 (b : Nat)])) ds) u) :
 wpList P ops Q (Oper.mk (some d) (.mapEntry M x y) ty pos after none :: rest) (Fr l ds) w:=by
 have hM:=m.p k hk;obtain ⟨es',c',b,hr,hD',hS⟩:=Gi hu hz kt hM hD a;have hC:=oA (w:=w) (g:=g) (.map es' c');refine jU (w':=setBlock w g (.map es' c')) (fun o ho hty=>by simp [execOp,ho,hty,cL,hx,hy,hr]) (h es' c' b _ ?_ hD' hS);exact m.put k hk hC.os hC.tape hC.output (by rw [hC.size];exact Nat.le_refl _) (fun b _ hne=>hC.block b fun e=>hne (by rw [e];rfl)) (kL hM) (.inl fun _ h=>h)
theorem qU {v : V} {a : K} {b : Nat} (m : bR w0 w is) (k : Nat) (hk : is[k]? = some (mI g es c)) (hx : ev l x = .map (some g)) (hy : ev l y = .int .i64 (b : Nat)) (hz : ev l z = en v) (hS : abU ek en D a es c b)
 (h : ∀ es' u,bR w0 u (is.set k (mI g es' c)) → bV ek en (fJ D a v) es' c → wpList P ops Q rest (Fr l ds) u) : wpList P ops Q (Oper.mk none (.entryStore M x y z) ty pos after none :: rest) (Fr l ds) w:=by
 have hM:=m.p k hk;obtain ⟨es',hr,hD'⟩:=Bj (P:=P) (M:=M) hM hS v;have hC:=oA (w:=w) (g:=g) (.map es' c);refine Bl (w':=setBlock w g (.map es' c)) (fun o ho=>by simp [execOp,ho,cL,hx,hy,hz,hr]) (h es' _ ?_ hD');exact m.put k hk hC.os hC.tape hC.output (by rw [hC.size];exact Nat.le_refl _) (fun b _ hne=>hC.block b fun e=>hne (by rw [e];rfl)) (kL hM) (.inl fun _ h=>h)
theorem Ep {a : K} {T2 : TypeId} (m : bR w0 w is) (k : Nat) (hk : is[k]? = some (mI g es c)) (hu : P.underlying M = some (.map T E)) (kt : pV P T ek) (hx : ev l x = .map (some g)) (hy : ev l y = ek a) (hD : bV ek en D es c) {a0 : Array TypeId} (ha : a0 = #[M,T2])
 (h : ∀ es' c' u,bR w0 u (is.set k (mI g es' c')) → bV ek en (oV D a) es' c' → wpList P ops Q rest (Fr l ds) u) : wpList P ops Q (Oper.mk none (.call { callee:=.builtin .delete,args:=#[x,y],argTypes:=a0 }) ty pos after none :: rest) (Fr l ds) w:=by
 subst ha;have hM:=m.p k hk;have hC:=fun es' c'=>oA (w:=w) (g:=g) (.map es' c');refine abW fun o ho=>?_;obtain ⟨es',c',hr,hD'⟩:=Mh (T2:=T2) (ty:=o.type) hu kt hM hD a;exact ⟨.tuple #[],setBlock w g (.map es' c'),by simp [execOp,ho,resolve,invoke,builtin,cL,hx,hy,hr],h es' c' _ (m.put k hk (hC es' c').os (hC es' c').tape (hC es' c').output (by rw [(hC es' c').size];exact Nat.le_refl _) (fun b _ hne=>(hC es' c').block b fun e=>hne (by rw [e];rfl)) (kL hM) (.inl fun _ h=>h)) hD'⟩
end
end Go.Lith
namespace Go.Proofs.YtfohfflkhpfjeaaGreatDoor
open Go.Proofs.Tryz
open Go.RowKit Go.Lith
set_option maxRecDepth 100000
attribute [local irreducible] wpList wpQuiet dC cS cR Code.wp
def nD (n : Nat) : Value:=.int .i64 (n : Int)
theorem mR {K V : Type} [DecidableEq K] (xs : List (K × V)) (k : K) (v : V) : lM [] (xs ++ [(k,v)]) = fJ (lM [] xs) k v:=Mp [] xs [(k,v)]
theorem oJ {K : Type} [DecidableEq K] (ks : List K) (k : K) : pW [] (ks ++ [k]) = fJ (pW [] ks) k ((cD (pW [] ks) k).getD 0 + 1):=Zz [] ks [k]
theorem Nd {K : Type} [DecidableEq K] (ks : List K) (k : K) : (cD (pW [] ks) k).getD 0 = lN ks k:=by rw [Mq];simp [cD]
theorem Ce {K : Type} [DecidableEq K] (ks : List K) (k : K) : (cD (pW [] ks) k).getD 0 ≤ ks.length:=by rw [Nd];exact List.length_filter_le _ _
theorem ad9 {nx : P3 → Option P3} {s a y : P3} {n z : Nat} (h : ¬ a = s) (hb : nx a = some y) : uA nx s (n + 1) a z = uA nx s n y (z + 1):=by rw [uA,if_neg h,hb]
theorem abX {nx : P3 → Option P3} {s a : P3} {n z : Nat} (hb : nx a = none) : uA nx s n a z = (a,z):=by
 cases n with
 | zero=>rfl
 | succ n=>rw [uA,hb];split <;> rfl
theorem aea {nx : P3 → Option P3} {s a : P3} {M z : Nat} (hz : z ≤ M + 1) (h : a = s ∨ ¬ z ≤ M) : uA nx s (M + 1 - z) a z = (a,z):=by
 rcases h with rfl | h
 · exact aaa
 · rw [show M + 1 - z = 0 by omega];rfl
theorem aeb {x y : P3} : (¬ x.x = y.x ∨ ¬ x.y = y.y ∨ ¬ x.z = y.z) ↔ ¬ x = y:=by
 rw [← iX];exact ⟨fun h k=>h.elim (fun h=>h k.1) fun h=>h.elim (fun h=>h k.2.1) fun h=>h k.2.2,fun h=>by
  rcases Classical.em (x.x = y.x) with h1 | h1
  ·
   rcases Classical.em (x.y = y.y) with h2 | h2
   · exact .inr (.inr fun h3=>h ⟨h1,h2,h3⟩)
   · exact .inr (.inl h2)
  · exact .inl h1⟩
theorem aak {a s : P3} {z M : Nat} (h : (decide (¬ (a.x = s.x ∧ a.y = s.y ∧ a.z = s.z)) && decide ((z : Int) ≤ (M : Int))) = false) : a = s ∨ ¬ z ≤ M:=by
 rcases Classical.em (a = s) with k | k
 · exact .inl k
 ·
  refine .inr fun k4=>?_;rw [decide_eq_true (mt iX.1 k),decide_eq_true (Int.ofNat_le.2 k4)] at h;cases h
theorem aal {ts : List T3} {es : Array MapEntry} {sn : Array Nat} {dn : List (E3 × P3)} (h : kZ ed pt (lM [] (dS ts)) es sn dn []) (hnd : (aP ts).Nodup) (hno : ∀ y ∈ dn,¬ Ju ts y.1) (e : E3) : ¬ Ju ts e:=fun he=>by
 obtain ⟨x,hx,_⟩:=id he;have h1 : cD (lM [] (dS ts)) e = some x:=by rw [← hx];exact qS hnd e.1 e.2
 exact hno _ (h.done.mem_iff.2 (xT h1)) he
theorem Hv (ts : List T3) : (aY ts).length = ts.length * 3:=xV ts
theorem Qp {ts : List T3} {N cap : Nat} {A : Option Addr} (w : World) (hT : eG w A N ts) (hN : N ≤ 10000000) (hnd : (aP ts).Nodup) : eI prog 123 [.slice A N cap] w (fun v _=>v = .bool ((dR ts).any (xK ts))):=by
 refine ⟨adF,?_⟩;have m:=bR.refl w
 go_enter func123,ntmps123
 refine aD fun K1 k1=>wp_region_lit (aA (aF) (aG (k1 _ _ ?_)));refine aD fun K2 k2=>wp_region_lit ?_;simp only[zz];refine jJ m ?_;clear m;intro q8 u m;have hD8:=bV.nil (K:=E3) (V:=P3) ed pt;refine aA (aF) (aG (k2 _ _ ?_));refine aD fun K3 k3=>wp_region_lit ?_;simp only[zz];refine jJ m ?_;clear m;intro q9 u m;have hD9:=bV.nil (K:=P3) (V:=Nat) pt nD;refine aA (aF) (aG (k3 _ _ ?_));refine aD fun K4 k4=>aD fun K5 k5=>wp_region_lit (aA (aB) (aA (bF rfl bZ rfl) ?_));simp only[zz];refine aA (aB) (aG (k5 _ _ ?_));refine wp_block ?_;simp only[zz];try simp only[Nat.zero_add,Nat.reduceAdd,Nat.reduceMul,Int.reduceToNat]
 refine bM [18] [6,7,8,19,20,21,22,23,24,25,26,27,28,29,30,31,32,33,34,35,36,37,38,39,40,41,42,43,44,45,46,47] (fun n vs wl=>∃ (k : Nat) (es8 es9 : Array MapEntry) (c8 c9 : Nat),vs = [.int .i64 (k:Int)] ∧ bR w wl [mI q9 es9 c9,mI q8 es8 c8] ∧ (bV ed pt (lM [] (dS (ts.take k))) es8 c8) ∧ (bV pt nD (pW [] (aY (ts.take k))) es9 c9) ∧ (k ≤ N) ∧ (n = N - k)) ?_ ?_
 ·
  apply Exists.intro;simp only[zQ,zR,zD,zE];exact ⟨0,_,_,_,_,rfl,m,hD8,hD9,Nat.zero_le _,rfl⟩
 ·
  intro n vs wr hI u;clear m;obtain ⟨k,es8,es9,c8,c9,rfl,m,hD8,hD9,hk,hn⟩:=hI;simp only[zu,zF,zG];refine aD fun K6 k6=>wp_region_lit (aA (cJ rfl rfl) (aG (k6 _ _ ?_)));refine aD fun K7 k7=>?_;simp only[zz];refine cO rfl (fun hc1=>?_) (fun hc1=>?_)
  ·
   obtain ⟨t,ht,_,a,rfl,hrow⟩:=hT.get (i:=k) (by omega);have hcl:=Hv (ts.take k);rw [List.length_take] at hcl;refine wp_skip (k7 _ _ ?_);refine aD fun K8 k8=>wp_block (aD fun K9 k9=>wp_region_lit (aA (aM bZ aU rfl rfl (by omega) (by omega) (cA (Int.toNat_natCast _))) ?_));simp only[zz];refine aJ rfl ((hrow.ext m.ext).lies eQ aU) ?_;simp only[zz];refine bC m iY rfl ?_;clear m;intro g3 u m;simp only[zz];refine aS m 0 rfl rfl rfl aU (dX rfl) rfl ?_;clear m;intro u m;simp only[zy,zx,bG,zF,zG,Nat.reduceAdd] at m;refine aG (k9 _ _ ?_);refine aD fun K10 k10=>wp_region_lit (aJ rfl ((m.b 0 rfl).full eQ aU) ?_);simp only[zz];refine aA (aB) (aG (k10 _ _ ?_));refine wp_block (wp_loop_rounds 4 (cZ (aD fun K11 k11=>wp_region_lit (aA (bT (m:=0) (n:=3) rfl rfl (by decide)) (aG (k11 _ _ ?_))))));refine aD fun K12 k12=>cK rfl (wp_skip (k12 _ _ ?_));refine aD fun K13 k13=>wp_block (aD fun K14 k14=>wp_region_lit (aA (aB) (aA (jA rfl rfl) ?_)));simp only[zz];refine bC m bP rfl ?_;clear m;intro g4 u m;refine aA (aF) ?_;simp only[zz];refine aS m 0 rfl rfl rfl aC (dX rfl) rfl ?_;clear m;intro u m;simp only[zy,zx,bG,zF,zG,Nat.reduceAdd] at m;refine aG (k14 _ _ ?_);refine aD fun K15 k15=>?_;refine gB m 13 aO (by kernel_rfl) ?_;simp only[zy];refine aL (aB) ?_;simp only[zz];refine ql rfl (fun u m=>((m.b 0 rfl).full aI aC)) ?_;simp only[zz];refine aL (aB) (aL (aQ (m:=0) (n:=1) (r:=1) rfl rfl (by decide)) (aL (dK (m:=1) (n:=3) (r:=1) rfl rfl (by decide) (by decide)) (aL (aH bL aC rfl rfl (by decide) (by decide) rfl) ?_)));simp only[zz];refine ql rfl (fun u m=>((m.b 1 rfl).lies aI aC rfl rfl)) ?_;simp only[zz,zy,Nat.zero_add,Nat.reduceAdd,Nat.reduceMul,Int.reduceToNat];refine aL (fH rfl rfl) (aL (aB) (aL (aQ (m:=0) (n:=2) (r:=2) rfl rfl (by decide)) (aL (dK (m:=2) (n:=3) (r:=2) rfl rfl (by decide) (by decide)) ?_)));simp only[zz];refine aL (aH bL aC rfl rfl (by decide) (by decide) rfl) ?_;simp only[zz];refine ql rfl (fun u m=>((m.b 1 rfl).lies aI aC rfl rfl)) ?_;simp only[zz,zy,Nat.zero_add,Nat.reduceAdd,Nat.reduceMul,Int.reduceToNat];refine dF ?_;clear m;intro u m;refine eS (ek:=ed) (en:=pt) (a:=(t.a,t.b)) (v:=t.c) m 3 rfl Af uF rfl rfl rfl hD8 ?_;clear m;intro es8 c8 u m hD';clear hD8;have hD8:=hD';clear hD';simp only[zF,zG] at m;rw [← mR] at hD8;refine aG (k15 _ _ ?_);refine sD m 2 [] [40,41,42,43,44,45] (fun vs i=>∃ (es : Array MapEntry) (c : Nat),vs = [] ∧ i = mI q9 es c ∧ (bV pt nD (pW [] (((aY (ts.take k)) ++ [t.a]))) es c)) ?_ ?_
   ·
    refine Rr m [true,true,false,true] (.take 0 (.take 1 (.two 2 (.take 3 (.one 4 (.take 5 (.one 6 .nil)))) 4 (.take 5 (.one 2 (.take 3 (.one 6 .nil))))))) aO (by kernel_rfl) (eE (fun _ _ _ _ _ h=>h)) ?_;clear m;intro u m;have hb:=Ce (aY (ts.take k)) t.a;try simp only[List.length_append,List.length_cons,List.length_nil] at hb
    refine eV (by simp only[zw];rfl) (bO (aB) (eF (eV (by simp only[zw];rfl) ?_)));simp only[zz];refine dU rfl (fun u m=>((m.b 0 rfl).full aI aC)) ?_;simp only[zz];refine eF ?_;refine Rp (by simp only[zw];rfl) (by simp only[zw];rfl) ?_ ?_
    ·
     refine eL (dZ (ek:=pt) (en:=nD) (k:=t.a) (v0:=0) lB kX fW rfl rfl (m.p 2 rfl) hD9) ?_;simp only[zz];refine aG (⟨m.sel [true,true,false,true],?_⟩);refine eV (by simp only[zw];rfl) (bO (aQ rfl rfl (aN (by omega) (by omega))) (eF (nT (by simp only[zw];rfl) ?_)));simp only[zz];refine Ag (ek:=pt) (en:=nD) (a:=t.a) (v0:=0) m 2 rfl lB kX fW rfl rfl hD9 ?_;clear m;intro es9 c9 bs u m hD' hS;simp only[zF,zG] at m;refine aG (⟨m.sel [true,true,false,true],?_⟩);refine eV (by simp only[zw];rfl) (bO (aZ rfl rfl) (eF (nT (by simp only[zw];rfl) ?_)));simp only[zz];refine qU (ek:=pt) (en:=nD) (a:=t.a) (v:=(cD (pW [] (aY (ts.take k))) t.a).getD 0 + 1) m 2 rfl rfl rfl rfl hS ?_;clear m hD' hS;intro es9 u m hD';clear hD9;have hD9:=hD';clear hD';simp only[zF,zG] at m;rw [← oJ] at hD9;refine aG (⟨m.sel [true,true,false,true],?_⟩);refine Ar ?_;simp only[Exit.inBlock,Exit.then];refine ⟨_,_,rfl,?_,m,?_⟩
     · simp only[zz,zv]
     ·
      simp only[zQ,zR,zD,zE];exact ⟨_,_,trivial,rfl,hD9⟩
    ·
     refine Ag (ek:=pt) (en:=nD) (a:=t.a) (v0:=0) m 2 rfl lB kX fW rfl rfl hD9 ?_;clear m;intro es9 c9 bs u m hD' hS;simp only[zF,zG] at m;refine aG (⟨m.sel [true,true,false,true],?_⟩);refine eV (by simp only[zw];rfl) (bO (aZ rfl rfl) (eF (nT (by simp only[zw];rfl) ?_)));simp only[zz];refine eL (dZ (ek:=pt) (en:=nD) (k:=t.a) (v0:=0) lB kX fW rfl rfl (m.p 2 rfl) hD') ?_;simp only[zz];rw [lI,if_pos rfl,Option.getD_some];refine aG (⟨m.sel [true,true,false,true],?_⟩);refine eV (by simp only[zw];rfl) (bO (aQ rfl rfl (aN (by omega) (by omega))) (eF (nT (by simp only[zw];rfl) ?_)));simp only[zz];refine qU (ek:=pt) (en:=nD) (a:=t.a) (v:=(cD (pW [] (aY (ts.take k))) t.a).getD 0 + 1) m 2 rfl rfl rfl rfl hS ?_;clear m hD' hS;intro es9 u m hD';clear hD9;have hD9:=hD';clear hD';simp only[zF,zG] at m;rw [← oJ] at hD9;refine aG (⟨m.sel [true,true,false,true],?_⟩);refine Ar ?_;simp only[Exit.inBlock,Exit.then];refine ⟨_,_,rfl,?_,m,?_⟩
     · simp only[zz,zv]
     ·
      simp only[zQ,zR,zD,zE];exact ⟨_,_,trivial,rfl,hD9⟩
   ·
    intro vs i wr m hI u;obtain ⟨es9,c9,rfl,rfl,hD9⟩:=hI;simp only[zF,zG] at m;simp only[zu,zF,zG];refine k13 _ _ (wp_region_lit (aA (aQ (m:=0) (n:=1) (r:=1) rfl rfl (by decide)) (aA (aB) (aG (aT (aD fun K16 k16=>wp_region_lit (aA (bT (m:=1) (n:=3) rfl rfl (by decide)) (aG (k16 _ _ ?_)))))))));refine aD fun K17 k17=>cK rfl (wp_skip (k17 _ _ ?_));refine aD fun K18 k18=>wp_block (aD fun K19 k19=>wp_region_lit (aA (aB) ?_));simp only[zz];refine aA (jB rfl rfl) ?_;simp only[zz];refine bC m bP rfl ?_;clear m;intro g5 u m;refine aA (aF) ?_;simp only[zz];refine aS m 0 rfl rfl rfl aC (dX rfl) rfl ?_;clear m;intro u m;simp only[zy,zx,bG,zF,zG,Nat.reduceAdd] at m;refine aG (k19 _ _ ?_);refine aD fun K20 k20=>?_;refine gB m 13 aO (by kernel_rfl) ?_;simp only[zy];refine aL (aB) ?_;simp only[zz];refine ql rfl (fun u m=>((m.b 0 rfl).full aI aC)) ?_;simp only[zz];refine aL (aB) (aL (aQ (m:=1) (n:=1) (r:=2) rfl rfl (by decide)) (aL (dK (m:=2) (n:=3) (r:=2) rfl rfl (by decide) (by decide)) (aL (aH bL aC rfl rfl (by decide) (by decide) rfl) ?_)));simp only[zz];refine ql rfl (fun u m=>((m.b 2 rfl).lies aI aC rfl rfl)) ?_;simp only[zz,zy,Nat.zero_add,Nat.reduceAdd,Nat.reduceMul,Int.reduceToNat];refine aL (fH rfl rfl) (aL (aB) (aL (aQ (m:=1) (n:=2) (r:=3) rfl rfl (by decide)) (aL (dK (m:=3) (n:=3) (r:=0) rfl rfl (by decide) (by decide)) ?_)));simp only[zz];refine aL (aH bL aC rfl rfl (by decide) (by decide) rfl) ?_;simp only[zz];refine ql rfl (fun u m=>((m.b 2 rfl).lies aI aC rfl rfl)) ?_;simp only[zz,zy,Nat.zero_add,Nat.reduceAdd,Nat.reduceMul,Int.reduceToNat];refine dF ?_;clear m;intro u m;refine eS (ek:=ed) (en:=pt) (a:=(t.b,t.c)) (v:=t.a) m 4 rfl Af uF rfl rfl rfl hD8 ?_;clear m;intro es8 c8 u m hD';clear hD8;have hD8:=hD';clear hD';simp only[zF,zG] at m;rw [← mR] at hD8;refine aG (k20 _ _ ?_);refine sD m 3 [] [40,41,42,43,44,45] (fun vs i=>∃ (es : Array MapEntry) (c : Nat),vs = [] ∧ i = mI q9 es c ∧ (bV pt nD (pW [] (((((aY (ts.take k)) ++ [t.a])) ++ [t.b]))) es c)) ?_ ?_
    ·
     refine Rr m [true,true,true,false,true] (.take 0 (.take 1 (.two 2 (.take 3 (.one 4 (.take 5 (.one 6 .nil)))) 4 (.take 5 (.one 2 (.take 3 (.one 6 .nil))))))) aO (by kernel_rfl) (eE (fun _ _ _ _ _ h=>h)) ?_;clear m;intro u m;have hb:=Ce (((aY (ts.take k)) ++ [t.a])) t.b;try simp only[List.length_append,List.length_cons,List.length_nil] at hb
     refine eV (by simp only[zw];rfl) (bO (aB) (eF (eV (by simp only[zw];rfl) ?_)));simp only[zz];refine dU rfl (fun u m=>((m.b 0 rfl).full aI aC)) ?_;simp only[zz];refine eF ?_;refine Rp (by simp only[zw];rfl) (by simp only[zw];rfl) ?_ ?_
     ·
      refine eL (dZ (ek:=pt) (en:=nD) (k:=t.b) (v0:=0) lB kX fW rfl rfl (m.p 3 rfl) hD9) ?_;simp only[zz];refine aG (⟨m.sel [true,true,true,false,true],?_⟩);refine eV (by simp only[zw];rfl) (bO (aQ rfl rfl (aN (by omega) (by omega))) (eF (nT (by simp only[zw];rfl) ?_)));simp only[zz];refine Ag (ek:=pt) (en:=nD) (a:=t.b) (v0:=0) m 3 rfl lB kX fW rfl rfl hD9 ?_;clear m;intro es9 c9 bs u m hD' hS;simp only[zF,zG] at m;refine aG (⟨m.sel [true,true,true,false,true],?_⟩);refine eV (by simp only[zw];rfl) (bO (aZ rfl rfl) (eF (nT (by simp only[zw];rfl) ?_)));simp only[zz];refine qU (ek:=pt) (en:=nD) (a:=t.b) (v:=(cD (pW [] (((aY (ts.take k)) ++ [t.a]))) t.b).getD 0 + 1) m 3 rfl rfl rfl rfl hS ?_;clear m hD' hS;intro es9 u m hD';clear hD9;have hD9:=hD';clear hD';simp only[zF,zG] at m;rw [← oJ] at hD9;refine aG (⟨m.sel [true,true,true,false,true],?_⟩);refine Ar ?_;simp only[Exit.inBlock,Exit.then];refine ⟨_,_,rfl,?_,m,?_⟩
      · simp only[zz,zv]
      ·
       simp only[zQ,zR,zD,zE];exact ⟨_,_,trivial,rfl,hD9⟩
     ·
      refine Ag (ek:=pt) (en:=nD) (a:=t.b) (v0:=0) m 3 rfl lB kX fW rfl rfl hD9 ?_;clear m;intro es9 c9 bs u m hD' hS;simp only[zF,zG] at m;refine aG (⟨m.sel [true,true,true,false,true],?_⟩);refine eV (by simp only[zw];rfl) (bO (aZ rfl rfl) (eF (nT (by simp only[zw];rfl) ?_)));simp only[zz];refine eL (dZ (ek:=pt) (en:=nD) (k:=t.b) (v0:=0) lB kX fW rfl rfl (m.p 3 rfl) hD') ?_;simp only[zz];rw [lI,if_pos rfl,Option.getD_some];refine aG (⟨m.sel [true,true,true,false,true],?_⟩);refine eV (by simp only[zw];rfl) (bO (aQ rfl rfl (aN (by omega) (by omega))) (eF (nT (by simp only[zw];rfl) ?_)));simp only[zz];refine qU (ek:=pt) (en:=nD) (a:=t.b) (v:=(cD (pW [] (((aY (ts.take k)) ++ [t.a]))) t.b).getD 0 + 1) m 3 rfl rfl rfl rfl hS ?_;clear m hD' hS;intro es9 u m hD';clear hD9;have hD9:=hD';clear hD';simp only[zF,zG] at m;rw [← oJ] at hD9;refine aG (⟨m.sel [true,true,true,false,true],?_⟩);refine Ar ?_;simp only[Exit.inBlock,Exit.then];refine ⟨_,_,rfl,?_,m,?_⟩
      · simp only[zz,zv]
      ·
       simp only[zQ,zR,zD,zE];exact ⟨_,_,trivial,rfl,hD9⟩
    ·
     intro vs i wr m hI u;obtain ⟨es9,c9,rfl,rfl,hD9⟩:=hI;simp only[zF,zG] at m;simp only[zu,zF,zG];refine k18 _ _ (wp_region_lit (aA (aQ (m:=1) (n:=1) (r:=2) rfl rfl (by decide)) (aA (aB) (aG (aT (aD fun K21 k21=>wp_region_lit (aA (bT (m:=2) (n:=3) rfl rfl (by decide)) (aG (k21 _ _ ?_)))))))));refine aD fun K22 k22=>cK rfl (wp_skip (k22 _ _ ?_));refine aD fun K23 k23=>wp_block (aD fun K24 k24=>wp_region_lit (aA (aB) ?_));simp only[zz];refine aA (jC rfl rfl) ?_;simp only[zz];refine bC m bP rfl ?_;clear m;intro g6 u m;refine aA (aF) ?_;simp only[zz];refine aS m 0 rfl rfl rfl aC (dX rfl) rfl ?_;clear m;intro u m;simp only[zy,zx,bG,zF,zG,Nat.reduceAdd] at m;refine aG (k24 _ _ ?_);refine aD fun K25 k25=>?_;refine gB m 13 aO (by kernel_rfl) ?_;simp only[zy];refine aL (aB) ?_;simp only[zz];refine ql rfl (fun u m=>((m.b 0 rfl).full aI aC)) ?_;simp only[zz];refine aL (aB) (aL (aQ (m:=2) (n:=1) (r:=3) rfl rfl (by decide)) (aL (dK (m:=3) (n:=3) (r:=0) rfl rfl (by decide) (by decide)) (aL (aH bL aC rfl rfl (by decide) (by decide) rfl) ?_)));simp only[zz];refine ql rfl (fun u m=>((m.b 3 rfl).lies aI aC rfl rfl)) ?_;simp only[zz,zy,Nat.zero_add,Nat.reduceAdd,Nat.reduceMul,Int.reduceToNat];refine aL (fH rfl rfl) (aL (aB) (aL (aQ (m:=2) (n:=2) (r:=4) rfl rfl (by decide)) (aL (dK (m:=4) (n:=3) (r:=1) rfl rfl (by decide) (by decide)) ?_)));simp only[zz];refine aL (aH bL aC rfl rfl (by decide) (by decide) rfl) ?_;simp only[zz];refine ql rfl (fun u m=>((m.b 3 rfl).lies aI aC rfl rfl)) ?_;simp only[zz,zy,Nat.zero_add,Nat.reduceAdd,Nat.reduceMul,Int.reduceToNat];refine dF ?_;clear m;intro u m;refine eS (ek:=ed) (en:=pt) (a:=(t.c,t.a)) (v:=t.b) m 5 rfl Af uF rfl rfl rfl hD8 ?_;clear m;intro es8 c8 u m hD';clear hD8;have hD8:=hD';clear hD';simp only[zF,zG] at m;rw [← mR] at hD8;refine aG (k25 _ _ ?_);refine sD m 4 [] [40,41,42,43,44,45] (fun vs i=>∃ (es : Array MapEntry) (c : Nat),vs = [] ∧ i = mI q9 es c ∧ (bV pt nD (pW [] (((((((aY (ts.take k)) ++ [t.a])) ++ [t.b])) ++ [t.c]))) es c)) ?_ ?_
     ·
      refine Rr m [true,true,true,true,false,true] (.take 0 (.take 1 (.two 2 (.take 3 (.one 4 (.take 5 (.one 6 .nil)))) 4 (.take 5 (.one 2 (.take 3 (.one 6 .nil))))))) aO (by kernel_rfl) (eE (fun _ _ _ _ _ h=>h)) ?_;clear m;intro u m;have hb:=Ce (((((aY (ts.take k)) ++ [t.a])) ++ [t.b])) t.c;try simp only[List.length_append,List.length_cons,List.length_nil] at hb
      refine eV (by simp only[zw];rfl) (bO (aB) (eF (eV (by simp only[zw];rfl) ?_)));simp only[zz];refine dU rfl (fun u m=>((m.b 0 rfl).full aI aC)) ?_;simp only[zz];refine eF ?_;refine Rp (by simp only[zw];rfl) (by simp only[zw];rfl) ?_ ?_
      ·
       refine eL (dZ (ek:=pt) (en:=nD) (k:=t.c) (v0:=0) lB kX fW rfl rfl (m.p 4 rfl) hD9) ?_;simp only[zz];refine aG (⟨m.sel [true,true,true,true,false,true],?_⟩);refine eV (by simp only[zw];rfl) (bO (aQ rfl rfl (aN (by omega) (by omega))) (eF (nT (by simp only[zw];rfl) ?_)));simp only[zz];refine Ag (ek:=pt) (en:=nD) (a:=t.c) (v0:=0) m 4 rfl lB kX fW rfl rfl hD9 ?_;clear m;intro es9 c9 bs u m hD' hS;simp only[zF,zG] at m;refine aG (⟨m.sel [true,true,true,true,false,true],?_⟩);refine eV (by simp only[zw];rfl) (bO (aZ rfl rfl) (eF (nT (by simp only[zw];rfl) ?_)));simp only[zz];refine qU (ek:=pt) (en:=nD) (a:=t.c) (v:=(cD (pW [] (((((aY (ts.take k)) ++ [t.a])) ++ [t.b]))) t.c).getD 0 + 1) m 4 rfl rfl rfl rfl hS ?_;clear m hD' hS;intro es9 u m hD';clear hD9;have hD9:=hD';clear hD';simp only[zF,zG] at m;rw [← oJ] at hD9;refine aG (⟨m.sel [true,true,true,true,false,true],?_⟩);refine Ar ?_;simp only[Exit.inBlock,Exit.then];refine ⟨_,_,rfl,?_,m,?_⟩
       · simp only[zz,zv]
       ·
        simp only[zQ,zR,zD,zE];exact ⟨_,_,trivial,rfl,hD9⟩
      ·
       refine Ag (ek:=pt) (en:=nD) (a:=t.c) (v0:=0) m 4 rfl lB kX fW rfl rfl hD9 ?_;clear m;intro es9 c9 bs u m hD' hS;simp only[zF,zG] at m;refine aG (⟨m.sel [true,true,true,true,false,true],?_⟩);refine eV (by simp only[zw];rfl) (bO (aZ rfl rfl) (eF (nT (by simp only[zw];rfl) ?_)));simp only[zz];refine eL (dZ (ek:=pt) (en:=nD) (k:=t.c) (v0:=0) lB kX fW rfl rfl (m.p 4 rfl) hD') ?_;simp only[zz];rw [lI,if_pos rfl,Option.getD_some];refine aG (⟨m.sel [true,true,true,true,false,true],?_⟩);refine eV (by simp only[zw];rfl) (bO (aQ rfl rfl (aN (by omega) (by omega))) (eF (nT (by simp only[zw];rfl) ?_)));simp only[zz];refine qU (ek:=pt) (en:=nD) (a:=t.c) (v:=(cD (pW [] (((((aY (ts.take k)) ++ [t.a])) ++ [t.b]))) t.c).getD 0 + 1) m 4 rfl rfl rfl rfl hS ?_;clear m hD' hS;intro es9 u m hD';clear hD9;have hD9:=hD';clear hD';simp only[zF,zG] at m;rw [← oJ] at hD9;refine aG (⟨m.sel [true,true,true,true,false,true],?_⟩);refine Ar ?_;simp only[Exit.inBlock,Exit.then];refine ⟨_,_,rfl,?_,m,?_⟩
       · simp only[zz,zv]
       ·
        simp only[zQ,zR,zD,zE];exact ⟨_,_,trivial,rfl,hD9⟩
     ·
      intro vs i wr m hI u;obtain ⟨es9,c9,rfl,rfl,hD9⟩:=hI;simp only[zF,zG] at m;simp only[zu,zF,zG];refine k23 _ _ (wp_region_lit (aA (aQ (m:=2) (n:=1) (r:=3) rfl rfl (by decide)) (aA (aB) (aG (aT (aD fun K26 k26=>wp_region_lit (aA (fT (m:=3) (n:=3) rfl rfl (by decide)) (aG (k26 _ _ ?_)))))))));refine aD fun K27 k27=>jM rfl (wp_exit (k8 _ _ ?_));refine wp_region_lit ?_;simp only[zz];refine aA (aQ rfl rfl (aN (by omega) (by omega))) (aA (aB) (aG ?_));simp only[zz];simp only[Exit.inBlock,Exit.then];refine ⟨N - (k + 1),_,?_,rfl,?_,?_⟩
      · omega
      · simp only[zz,zv]
      ·
       simp only[zQ,zR,zD,zE];exact ⟨k + 1,_,_,_,_,rfl,(m.sel [false,false,false,false,true,true]),by rw [Ed ht];simpa [List.append_assoc] using hD8,by rw [Dy ht];simpa [List.append_assoc] using hD9,by omega,rfl⟩
  ·
   have hkN : k = N:=by omega
   rw [hkN,show ts.take N = ts from List.take_of_length_le (by rw [hT.len];exact Nat.le_refl _)] at hD8 hD9;refine wp_exit (k4 _ _ ?_);refine aD fun K28 k28=>aD fun K29 k29=>wp_region_lit (aA (aB) ?_);simp only[zz];refine wK m Af rfl (m.p 1 rfl) ?_;clear m;intro r1 u m;refine aG (k29 _ _ ?_);refine wp_block ?_;simp only[zz];try simp only[Nat.zero_add,Nat.reduceAdd,Nat.reduceMul,Int.reduceToNat]
   refine bM [] [2,9,10,11,12,13,50,51,52,53,54,55,56,57,58,59,60,61,62,63,64,65,66,67,68,69,70,71,72,73,74,75,76,77,78,79,80,81,82,83,84,85,86,87,88,89,90,91,92,93,94] (fun n vs wl=>∃ (dn rs : List (E3 × P3)) (sn : Array Nat),vs = [] ∧ bR w wl [iI r1 q8 c8 sn,mI q9 es9 c9,mI q8 es8 c8] ∧ (kZ ed pt (lM [] (dS ts)) es8 sn dn rs) ∧ (∀ y ∈ dn,¬ Ju ts y.1) ∧ (n = rs.length)) ?_ ?_
   ·
    apply Exists.intro;simp only[zQ,zR,zD,zE];exact ⟨[],_,#[],trivial,m,kZ.start hD8,fun _ h=>(by cases h),rfl⟩
   ·
    intro n vs wr hI u;clear m;obtain ⟨dn,rs,sn,rfl,m,hT1,hno,hn⟩:=hI;simp only[zu,zF,zG];refine aD fun K30 k30=>wp_region_lit (Du m 0 rfl rfl (m.p 2 rfl) hD8 hT1 ?_);clear m;intro bb kk vv sn u m hN;simp only[zF,zG] at m;refine aA (rW rfl) (aG (k30 _ _ ?_));refine aD fun K31 k31=>?_;simp only[zz];refine eU rfl (fun hc3=>?_) (fun hc3=>?_)
    ·
     obtain ⟨kp,kb,rs2,hp,hT2⟩:=Dx hc3 hN;obtain ⟨x,hx⟩ : ∃ x,cD (lM [] (dS ts)) kp = some x:=by
      cases h : cD (lM [] (dS ts)) kp with
      | some x=>exact ⟨x,rfl⟩
      | none =>
       refine absurd ?_ (qP.1 h);have h1:=hT2.1.mem_iff (a:=(kp,kb));exact List.mem_map.2 ⟨_,h1.1 (by simp),rfl⟩
     have hkx : bD ts kp.1 kp.2 = some x:=by rw [← qS hnd];exact hx
     obtain ⟨M,hM⟩ : ∃ M,M = lN (aY ts) kp.1:=⟨_,rfl⟩
     have hmM : (cD (pW [] (aY ts)) kp.1).getD 0 = M:=by rw [Nd,hM]
     have hMl : M ≤ 30000000:=by have h1:=Ce (aY ts) kp.1;rw [hmM,Hv,hT.len] at h1;omega
     refine wp_skip (k31 _ _ ?_);refine wp_block (aD fun K32 k32=>wp_region_lit (eL (rX rfl (m.r 0 rfl) (m.p 2 rfl) hD8 hT2) ?_));simp only[zz];refine aA (aZ rfl rfl) ?_;simp only[zz];refine bC m mA rfl ?_;clear m;intro g4 u m;simp only[zz];refine aS m 0 rfl rfl rfl dJ (dX rfl) rfl ?_;clear m;intro u m;simp only[zy,zx,bG,zF,zG,Nat.reduceAdd] at m;refine aG (k32 _ _ ?_);refine aD fun K33 k33=>wp_region_lit (aA (aF) (aG (k33 _ _ ?_)));refine aD fun K34 k34=>wp_region_lit (aA (aB) ?_);simp only[zz];refine aJ rfl ((m.b 0 rfl).full iZ dJ) ?_;simp only[zz];refine eL (dZ (ek:=ed) (en:=pt) (k:=kp) (v0:=⟨0,0,0⟩) Af bP uF rfl rfl (m.p 3 rfl) hD8) ?_;simp only[zz];refine bC m bP rfl ?_;clear m;intro g5 u m;simp only[zz];refine aS m 0 rfl rfl rfl aC (dX rfl) rfl ?_;clear m;intro u m;simp only[zy,zx,bG,zF,zG,Nat.reduceAdd] at m;refine aG ?_;rw [hx] at m;simp only[Option.getD_some] at m;refine k34 _ _ ?_;refine aD fun K35 k35=>wp_block ?_;try simp only[Nat.zero_add,Nat.reduceAdd,Nat.reduceMul,Int.reduceToNat]
     refine bM [10] [12,13,57,58,59,60,61,62,63,64,65,66,67,68,69,70,71,72,73,74,75,76,77,78,79,80,81,82] (fun n vs wl=>∃ (z : Nat) (a : P3),vs = [.int .i64 (z:Int)] ∧ bR w wl [bI g5 (wF a) 48,bI g4 (bJ kp) 143,iI r1 q8 c8 sn,mI q9 es9 c9,mI q8 es8 c8] ∧ (uA (bD ts kp.1) kp.2 M x 1 = uA (bD ts kp.1) kp.2 (M + 1 - z) a z) ∧ (1 ≤ z) ∧ (z ≤ M + 1) ∧ (n = M + 1 - z)) ?_ ?_
     ·
      apply Exists.intro;simp only[zQ,zR,zD,zE];exact ⟨1,x,rfl,m,rfl,Nat.le_refl _,by omega,rfl⟩
     ·
      intro n vs wr hI u;clear m;obtain ⟨z,a,rfl,m,hrun,hz1,hz2,hn4⟩:=hI;simp only[zu,zF,zG];refine aD fun K36 k36=>aD fun K37 k37=>wp_region_lit (aJ rfl ((m.b 0 rfl).full aI aC) ?_);simp only[zz];refine aA (aK (c:=2) iO rfl aC rfl rfl) ?_;simp only[zz];refine aJ rfl ((m.b 1 rfl).lies aI aC rfl rfl) ?_;simp only[zz,zy,Nat.zero_add,Nat.reduceAdd,Nat.reduceMul,Int.reduceToNat];refine aA (iD rfl rfl) (aA (aB) (dO rfl (fun hb=>aB) (dO rfl (fun hb=>aB) ?_)));simp only[zz];refine dO rfl (fun hb=>aK (c:=2) iO rfl aC rfl rfl) ?_;simp only[zz];refine iM rfl (fun hb=>cF (bH hb rfl) ((m.b 1 rfl).lies aI aC rfl rfl)) ?_;simp only[zz,zy,Nat.zero_add,Nat.reduceAdd,Nat.reduceMul,Int.reduceToNat];refine iM rfl (fun hb=>dZ (ek:=pt) (en:=nD) (k:=kp.1) (v0:=0) lB kX fW (bH hb rfl) (bH hb rfl) (m.p 3 rfl) hD9) ?_;simp only[zz];refine dO rfl (fun hb=>Xc (bH hb rfl) (bH hb rfl)) (aA (dA rfl rfl rfl) (aG (k37 _ _ ?_)));simp only[zz];refine eU rfl (fun hc4=>?_) (fun hc4=>?_)
      ·
       have hs : ¬ a = kp.2 ∧ z ≤ M:=by rw [hmM] at hc4;simpa [aeb] using hc4
       refine wp_skip (k36 _ _ ?_);refine wp_block (aD fun K38 k38=>wp_region_lit (aA (aB) (aA (aK (c:=2) iO rfl aC rfl rfl) ?_)));simp only[zz];refine aJ rfl ((m.b 1 rfl).lies aI aC rfl rfl) ?_;simp only[zz,zy,Nat.zero_add,Nat.reduceAdd,Nat.reduceMul,Int.reduceToNat];refine aJ rfl ((m.b 0 rfl).full aI aC) ?_;simp only[zz];refine aA (fH rfl rfl) ?_;simp only[zz];refine eL (qQ (ek:=ed) (en:=pt) (k:=(kp.1,a)) (v0:=⟨0,0,0⟩) Af bP uF rfl rfl (m.p 4 rfl) hD8) ?_;simp only[zz];refine aA (aB) (aA (aZ rfl rfl) (aA (aZ rfl rfl) ?_));simp only[zz];refine bC m bP rfl ?_;clear m;intro g6 u m;simp only[zz];refine aS m 0 rfl rfl rfl aC (dX rfl) rfl ?_;clear m;intro u m;simp only[zy,zx,bG,zF,zG,Nat.reduceAdd] at m;refine aA (aF) (aG (k38 _ _ ?_));refine aD fun K39 k39=>aD fun K40 k40=>wp_region_lit (aA (aB) (aA (gX rfl) (aG (k40 _ _ ?_))));simp only[zz];refine eU rfl (fun hc5=>?_) (fun hc5=>?_)
       ·
        have hyn : bD ts kp.1 a = none:=by rw [← qS hnd];simpa using hc5
        have hfin:=hrun.trans (abX hyn);refine wp_exit (k35 _ _ ?_);refine aD fun K41 k41=>wp_region_lit (aJ rfl ((m.b 1 rfl).full aI aC) ?_);simp only[zz];refine aA (aK (c:=2) iO rfl aC rfl rfl) ?_;simp only[zz];refine aJ rfl ((m.b 2 rfl).lies aI aC rfl rfl) ?_;simp only[zz,zy,Nat.zero_add,Nat.reduceAdd,Nat.reduceMul,Int.reduceToNat];refine aA (cP rfl rfl) (aA (aB) (dO rfl (fun hb=>aB) (dO rfl (fun hb=>aB) ?_)));simp only[zz];refine dO rfl (fun hb=>aK (c:=2) iO rfl aC rfl rfl) ?_;simp only[zz];refine iM rfl (fun hb=>cF (bH hb rfl) ((m.b 2 rfl).lies aI aC rfl rfl)) ?_;simp only[zz,zy,Nat.zero_add,Nat.reduceAdd,Nat.reduceMul,Int.reduceToNat];refine iM rfl (fun hb=>dZ (ek:=pt) (en:=nD) (k:=kp.1) (v0:=0) lB kX fW (bH hb rfl) (bH hb rfl) (m.p 4 rfl) hD9) ?_;simp only[zz];refine dO rfl (fun hb=>cJ (bH hb rfl) (bH hb rfl)) (aA (dA rfl rfl rfl) (aG (k41 _ _ ?_)));simp only[zz];refine eU rfl (fun hc6=>?_) (fun hc6=>?_)
        ·
         have hs : a = kp.2 ∧ z < M:=by rw [hmM] at hc6;simpa [← iX] using hc6
         refine aD fun K42 k42=>wp_region_lit (aA (aF) (aG (k42 _ _ ?_)));refine wp_ret ?_;simp only[zz];try simp only[Exit.inBlock,Exit.then,if_true]
         refine bS rfl rfl ?_;try simp only[zD,zE]
         exact ⟨_,rfl,m.ext,by have hp : Ju ts kp:=⟨x,hkx,by rw [Nat.add_sub_cancel,← hM,hfin];exact hs.1,by rw [Nat.add_sub_cancel,← hM,hfin];exact hs.2⟩;rw [pinned.2 ⟨kp,hp⟩]⟩
        ·
         have hs : ¬ (a = kp.2 ∧ z < M):=by rw [hmM] at hc6;simpa [← iX] using hc6
         have hno2 : ∀ y ∈ dn ++ [(kp,kb)],¬ Ju ts y.1:=fun y hy=>by
          rcases List.mem_append.1 hy with hy | hy
          · exact hno y hy
          ·
           obtain rfl:=List.mem_singleton.1 hy;rintro ⟨x2,h1,h2,h3⟩;obtain rfl : x = x2:=Option.some.inj (hkx.symm.trans h1);rw [Nat.add_sub_cancel,← hM,hfin] at h2 h3;exact hs ⟨h2,h3⟩
         refine wp_skip ?_;simp only[Exit.inBlock,Exit.then];refine ⟨rs2.length,_,?_,rfl,?_,?_⟩
         · rw [hn,hp.length_eq];exact Nat.lt_succ_self _
         · simp only[zz,zv]
         ·
          simp only[zQ,zR,zD,zE];exact ⟨dn ++ [(kp,kb)],rs2,_,trivial,(m.sel [false,false,false,true,true,true]),hT2,hno2,rfl⟩
       ·
        obtain ⟨y,hy⟩ : ∃ y,cD (lM [] (dS ts)) (kp.1,a) = some y:=by
         cases h : cD (lM [] (dS ts)) (kp.1,a) with
         | some y=>exact ⟨y,rfl⟩
         | none=>rw [h] at hc5;cases hc5
        have hya : bD ts kp.1 a = some y:=by rw [← qS hnd];exact hy
        rw [hy] at m;simp only[Option.getD_some] at m;refine wp_skip (k39 _ _ ?_);refine aD fun K43 k43=>wp_region_lit (aJ rfl ((m.b 0 rfl).full aI aC) ?_);simp only[zz];refine aS m 1 rfl rfl rfl aC (dX rfl) rfl ?_;clear m;intro u m;simp only[zy,zx,bG,zF,zG,Nat.reduceAdd] at m;refine aG (k43 _ _ ?_);refine wp_region_lit (aA (aB) ?_);simp only[zz];refine aA (aQ rfl rfl (aN (by omega) (by omega))) (aA (aF) (aG ?_));simp only[zz];simp only[Exit.inBlock,Exit.then];refine ⟨M + 1 - (z + 1),_,?_,rfl,?_,?_⟩
        · omega
        · simp only[zz,zv]
        ·
         simp only[zQ,zR,zD,zE];exact ⟨z + 1,y,rfl,(m.sel [false,true,true,true,true,true]),by rw [hrun,show M + 1 - z = (M + 1 - (z + 1)) + 1 by omega,ad9 hs.1 hya],by omega,by omega,rfl⟩
      ·
       have hs0 : a = kp.2 ∨ ¬ z ≤ M:=by rw [hmM] at hc4;exact aak hc4
       have hfin:=hrun.trans (aea hz2 hs0);refine wp_exit (k35 _ _ ?_);refine aD fun K44 k44=>wp_region_lit (aJ rfl ((m.b 0 rfl).full aI aC) ?_);simp only[zz];refine aA (aK (c:=2) iO rfl aC rfl rfl) ?_;simp only[zz];refine aJ rfl ((m.b 1 rfl).lies aI aC rfl rfl) ?_;simp only[zz,zy,Nat.zero_add,Nat.reduceAdd,Nat.reduceMul,Int.reduceToNat];refine aA (cP rfl rfl) (aA (aB) (dO rfl (fun hb=>aB) (dO rfl (fun hb=>aB) ?_)));simp only[zz];refine dO rfl (fun hb=>aK (c:=2) iO rfl aC rfl rfl) ?_;simp only[zz];refine iM rfl (fun hb=>cF (bH hb rfl) ((m.b 1 rfl).lies aI aC rfl rfl)) ?_;simp only[zz,zy,Nat.zero_add,Nat.reduceAdd,Nat.reduceMul,Int.reduceToNat];refine iM rfl (fun hb=>dZ (ek:=pt) (en:=nD) (k:=kp.1) (v0:=0) lB kX fW (bH hb rfl) (bH hb rfl) (m.p 3 rfl) hD9) ?_;simp only[zz];refine dO rfl (fun hb=>cJ (bH hb rfl) (bH hb rfl)) (aA (dA rfl rfl rfl) (aG (k44 _ _ ?_)));simp only[zz];refine eU rfl (fun hc6=>?_) (fun hc6=>?_)
       ·
        have hs : a = kp.2 ∧ z < M:=by rw [hmM] at hc6;simpa [← iX] using hc6
        refine aD fun K45 k45=>wp_region_lit (aA (aF) (aG (k45 _ _ ?_)));refine wp_ret ?_;simp only[zz];try simp only[Exit.inBlock,Exit.then,if_true]
        refine bS rfl rfl ?_;try simp only[zD,zE]
        exact ⟨_,rfl,m.ext,by have hp : Ju ts kp:=⟨x,hkx,by rw [Nat.add_sub_cancel,← hM,hfin];exact hs.1,by rw [Nat.add_sub_cancel,← hM,hfin];exact hs.2⟩;rw [pinned.2 ⟨kp,hp⟩]⟩
       ·
        have hs : ¬ (a = kp.2 ∧ z < M):=by rw [hmM] at hc6;simpa [← iX] using hc6
        have hno2 : ∀ y ∈ dn ++ [(kp,kb)],¬ Ju ts y.1:=fun y hy=>by
         rcases List.mem_append.1 hy with hy | hy
         · exact hno y hy
         ·
          obtain rfl:=List.mem_singleton.1 hy;rintro ⟨x2,h1,h2,h3⟩;obtain rfl : x = x2:=Option.some.inj (hkx.symm.trans h1);rw [Nat.add_sub_cancel,← hM,hfin] at h2 h3;exact hs ⟨h2,h3⟩
        refine wp_skip ?_;simp only[Exit.inBlock,Exit.then];refine ⟨rs2.length,_,?_,rfl,?_,?_⟩
        · rw [hn,hp.length_eq];exact Nat.lt_succ_self _
        · simp only[zz,zv]
        ·
         simp only[zQ,zR,zD,zE];exact ⟨dn ++ [(kp,kb)],rs2,_,trivial,(m.sel [false,false,true,true,true]),hT2,hno2,rfl⟩
    ·
     obtain rfl:=Dw hc3 hN;refine wp_exit (k28 _ _ ?_);refine aD fun K46 k46=>wp_region_lit (aA (aF) (aG (k46 _ _ ?_)));refine wp_ret ?_;simp only[zz];try simp only[Exit.inBlock,Exit.then,if_true]
     refine bS rfl rfl ?_;try simp only[zD,zE]
     exact ⟨_,rfl,m.ext,by cases h : (dR ts).any (xK ts) with | false=>rfl | true=>(obtain ⟨e,he⟩:=pinned.1 h;exact absurd he (aal hT1 hnd hno e))⟩
theorem abY {ts : List T3} (h : ¬ (aP ts).Nodup) : (aP ts).any (fun e=>decide (1 < iW (aP ts) e)) = true:=by rw [xX];exact decide_eq_true h
theorem aam {ts : List T3} (h : (aP ts).Nodup) : (aP ts).any (fun e=>decide (1 < iW (aP ts) e)) = false:=by rw [xX];exact decide_eq_false fun k=>k h
theorem aan {ts : List T3} {N cap : Nat} {A : Option Addr} (w : World) (hT : eG w A N ts) (hN : N ≤ 10000000) : eI prog 102 [.slice A N cap,.bool true] w (fun v _=>v = .int .i64 (cV true ts)):=by
 refine ⟨adn,?_⟩;have m:=bR.refl w
 go_enter func102,ntmps102
 refine aD fun K1 k1=>wp_region_lit (aA (aF) (aG (k1 _ _ ?_)));refine aD fun K2 k2=>aD fun K3 k3=>wp_region_lit (aA (aB) (aA (bF rfl bZ rfl) (aA (aB) ?_)));simp only[zz];refine aG (k3 _ _ ?_);refine wp_block ?_;try simp only[Nat.zero_add,Nat.reduceAdd,Nat.reduceMul,Int.reduceToNat]
 refine bM [11] [4,6,12,13,14,15,16,17,18,19,20,21,22,23,24,25,26,27,28,29,30,31,32,33,34] (fun n vs wl=>∃ (k : Nat),vs = [.int .i64 (k:Int)] ∧ bR w wl [] ∧ ((ts.take k).any jN = false) ∧ (k ≤ N) ∧ (n = N - k)) ?_ ?_
 ·
  apply Exists.intro;simp only[zQ,zR,zD,zE];exact ⟨0,rfl,m,rfl,Nat.zero_le _,rfl⟩
 ·
  intro n vs wr hI u;clear m;obtain ⟨k,rfl,m,hd0,hk,hn⟩:=hI;simp only[zu,zF,zG];refine aD fun K4 k4=>wp_region_lit (aA (cJ rfl rfl) (aG (k4 _ _ ?_)));refine aD fun K5 k5=>?_;simp only[zz];refine cO rfl (fun hc1=>?_) (fun hc1=>?_)
  ·
   obtain ⟨t,ht,_,a,rfl,hrow⟩:=hT.get (i:=k) (by omega);refine wp_skip (k5 _ _ ?_);refine aD fun K6 k6=>wp_block (aD fun K7 k7=>wp_region_lit (aA (aM bZ aU rfl rfl (by omega) (by omega) (cA (Int.toNat_natCast _))) ?_));simp only[zz];refine aJ rfl ((hrow.ext m.ext).lies eQ aU) ?_;simp only[zz];refine bC m iY rfl ?_;clear m;intro g1 u m;simp only[zz];refine aS m 0 rfl rfl rfl aU (dX rfl) rfl ?_;clear m;intro u m;simp only[zy,zx,bG,zF,zG,Nat.reduceAdd] at m;refine aG (k7 _ _ ?_);refine aD fun K8 k8=>wp_region_lit (aA (aH bL aC rfl rfl (by decide) (by decide) rfl) ?_);simp only[zz];refine aJ rfl ((m.b 0 rfl).lies aI aC rfl rfl) ?_;simp only[zz,zy,Nat.zero_add,Nat.reduceAdd,Nat.reduceMul,Int.reduceToNat];refine aA (aH bL aC rfl rfl (by decide) (by decide) rfl) ?_;simp only[zz];refine aJ rfl ((m.b 0 rfl).lies aI aC rfl rfl) ?_;simp only[zz,zy,Nat.zero_add,Nat.reduceAdd,Nat.reduceMul,Int.reduceToNat];refine aA (cP rfl rfl) (aA (aB) (gJ rfl (fun hb=>aH bL aC rfl rfl (by decide) (by decide) rfl) ?_));simp only[zz];refine mU rfl (fun hb=>cF (bH hb rfl) ((m.b 0 rfl).lies aI aC rfl rfl)) ?_;simp only[zz,zy,Nat.zero_add,Nat.reduceAdd,Nat.reduceMul,Int.reduceToNat];refine gJ rfl (fun hb=>aH bL aC rfl rfl (by decide) (by decide) rfl) ?_;simp only[zz];refine mU rfl (fun hb=>cF (bH hb rfl) ((m.b 0 rfl).lies aI aC rfl rfl)) ?_;simp only[zz,zy,Nat.zero_add,Nat.reduceAdd,Nat.reduceMul,Int.reduceToNat];refine gJ rfl (fun hb=>cP (bH hb rfl) (bH hb rfl)) (aA (gU rfl rfl rfl) (aA (aB) (gJ rfl (fun hb=>aH bL aC rfl rfl (by decide) (by decide) rfl) ?_)));simp only[zz];refine mU rfl (fun hb=>cF (bH hb rfl) ((m.b 0 rfl).lies aI aC rfl rfl)) ?_;simp only[zz,zy,Nat.zero_add,Nat.reduceAdd,Nat.reduceMul,Int.reduceToNat];refine gJ rfl (fun hb=>aH bL aC rfl rfl (by decide) (by decide) rfl) ?_;simp only[zz];refine mU rfl (fun hb=>cF (bH hb rfl) ((m.b 0 rfl).lies aI aC rfl rfl)) ?_;simp only[zz,zy,Nat.zero_add,Nat.reduceAdd,Nat.reduceMul,Int.reduceToNat];refine gJ rfl (fun hb=>cP (bH hb rfl) (bH hb rfl)) (aA (gU rfl rfl rfl) (aG (k8 _ _ ?_)));simp only[zz];refine kW rfl (fun hc2=>?_) (fun hc2=>?_)
   ·
    have hd:=rS (p:=jN) ht (Jk.symm.trans hc2);refine aD fun K9 k9=>wp_region_lit (aA (aF) (aG (k9 _ _ ?_)));refine wp_ret ?_;simp only[zz];try simp only[Exit.inBlock,Exit.then,if_true]
    refine bS rfl rfl ?_;try simp only[zD,zE]
    exact ⟨_,rfl,m.ext,by rw [Rz hd]⟩
   ·
    have hd1 : (ts.take (k + 1)).any jN = false:=by rw [nA ht,hd0,← Jk];exact hc2
    refine wp_skip (k6 _ _ ?_);refine wp_region_lit (aA (aQ rfl rfl (aN (by omega) (by omega))) (aA (aB) (aG ?_)));simp only[zz];simp only[Exit.inBlock,Exit.then];refine ⟨N - (k + 1),_,?_,rfl,?_,?_⟩
    · omega
    · simp only[zz,zv]
    ·
     simp only[zQ,zR,zD,zE];exact ⟨k + 1,rfl,(m.sel [false]),hd1,by omega,rfl⟩
  ·
   have hkN : k = N:=by omega
   rw [hkN,show ts.take N = ts from List.take_of_length_le (by rw [hT.len];exact Nat.le_refl _)] at hd0;refine wp_exit (k2 _ _ ?_);refine aD fun K10 k10=>wp_region_lit (aA (aB) ?_);simp only[zz];refine bK rfl rfl (Eo _ (hT.ext m.ext) hN) ?_;rintro v u e ⟨g8,es8,c8,rfl,hM,hD8⟩;replace m:=m.plus hM;clear hM e;simp only[List.cons_append,List.nil_append] at m;refine aA (aB) (aA (aZ rfl rfl) (aA (aZ rfl rfl) ?_));simp only[zz];refine aA (aF) (aA (aF) (aG (k10 _ _ ?_)));refine aD fun K11 k11=>wp_block (aD fun K12 k12=>wp_region_lit (aA (aB) (aA (gX rfl) ?_)));simp only[zz];refine aA (aF) (aG (k12 _ _ ?_));simp only[zz];refine eU rfl (fun hc3=>?_) (fun hc3=>?_)
   ·
    have hnd : ¬ (aP ts).Nodup:=by simpa using hc3
    refine aD fun K13 k13=>wp_region_lit (aA (aF) (aG (k13 _ _ ?_)));refine wp_ret ?_;simp only[zz];try simp only[Exit.inBlock,Exit.then,if_true]
    refine bS rfl rfl ?_;try simp only[zD,zE]
    exact ⟨_,rfl,m.ext,by rw [Sa hd0 (abY hnd)]⟩
   ·
    have hnd : (aP ts).Nodup:=by simpa using hc3
    refine aD fun K14 k14=>wp_region_lit (aA (aB) (aA (gX rfl) (aA (aB) (cU rfl ?_))));simp only[zz];refine cU rfl (cU rfl (cU rfl (aA (iT rfl) ?_)));simp only[zz];refine aA (aF) (aG (k14 _ _ ?_));refine jM rfl (aD fun K15 k15=>wp_region_lit (aA (aB) ?_));simp only[zz];refine gF m rfl rfl (Qp _ (hT.ext m.ext) hN hnd) ?_;clear m;rintro v u m rfl;refine aA (aF) (aG (k15 _ _ ?_));simp only[zz];refine eU rfl (fun hc5=>?_) (fun hc5=>?_)
    ·
     refine aD fun K16 k16=>wp_region_lit (aA (aF) (aG (k16 _ _ ?_)));refine wp_ret ?_;simp only[zz];try simp only[Exit.inBlock,Exit.then,if_true]
     refine bS rfl rfl ?_;try simp only[zD,zE]
     exact ⟨_,rfl,m.ext,by rw [Sb hd0 (aam hnd) rfl hc5]⟩
    ·
     refine wp_skip (k11 _ _ ?_);refine aD fun K17 k17=>wp_region_lit (aA (aF) (aG (k17 _ _ ?_)));refine wp_ret ?_;simp only[zz];try simp only[Exit.inBlock,Exit.then,if_true]
     refine bS rfl rfl ?_;try simp only[zD,zE]
     exact ⟨_,rfl,m.ext,by rw [Zt hd0 (aam hnd) rfl hc5]⟩
theorem yD {ts : List T3} {N cap : Nat} {A : Option Addr} (w : World) (hT : eG w A N ts) (hN : N ≤ 10000000) : eI prog 65 [.slice A N cap] w (fun v _=>v = .int .i64 (cV true ts)):=by
 refine ⟨afn,?_⟩;have m:=bR.refl w
 go_enter func65,ntmps65
 refine aD fun K1 k1=>wp_region_lit (aA (aF) (aG (k1 _ _ ?_)));refine aD fun K2 k2=>wp_region_lit (aA (aB) ?_);simp only[zz];refine gF m rfl rfl (aan _ (hT.ext m.ext) hN) ?_;clear m;rintro v u m rfl;refine aA (aF) (aG (k2 _ _ ?_));refine wp_ret ?_;simp only[zz];try simp only[Exit.inBlock,Exit.then,if_true]
 refine bS rfl rfl ?_;try simp only[zD,zE]
 exact ⟨_,rfl,m.ext,rfl⟩
theorem aec {t : T3} (h1 : t.b.Lt t.a) (h2 : t.c.Lt t.b) : eD t = ⟨t.c,t.a,t.b⟩:=if_pos ⟨P3.lt_trans h2 h1,.inl h2⟩
theorem aed {t : T3} (h1 : t.b.Lt t.a) (h2 : ¬ t.c.Lt t.b) : eD t = ⟨t.b,t.c,t.a⟩:=by rw [eD,if_neg (fun h=>h.2.elim h2 fun k=>k h1),if_pos h1]
theorem aee {t : T3} (h1 : ¬ t.b.Lt t.a) (h2 : t.c.Lt t.a) : eD t = ⟨t.c,t.a,t.b⟩:=if_pos ⟨h2,.inr h1⟩
theorem aef {t : T3} (h1 : ¬ t.b.Lt t.a) (h2 : ¬ t.c.Lt t.a) : eD t = t:=by rw [eD,if_neg (fun h=>h2 h.1),if_neg h1]
theorem Hw {t : T3} : kV prog 74 [tr t] (tr (eD t)):=by
 intro w;refine ⟨afw,?_⟩;have m:=bR.refl w
 go_enter func74,ntmps74
 refine aD fun K1 k1=>wp_region_lit (eY m rfl ?_);clear m;intro g1 u m;simp only[zz];refine bC m iY rfl ?_;clear m;intro g2 u m;refine aG (k1 _ _ ?_);refine aD fun K2 k2=>wp_region_lit (aA (aF) (aG (k2 _ _ ?_)));refine aD fun K3 k3=>aD fun K4 k4=>wp_region_lit (aA (aF) (aG (k4 _ _ ?_)));refine wp_block (wp_loop_rounds 3 (cZ (aD fun K5 k5=>aD fun K6 k6=>wp_region_lit (aA (aB) ?_))));simp only[zz];refine aA (bT (m:=1) (n:=3) rfl rfl (by decide)) (aG (k6 _ _ ?_));refine cK rfl (wp_skip (k5 _ _ ?_));refine aD fun K7 k7=>wp_block (aD fun K8 k8=>?_);simp only[zz];refine mq m aO (by kernel_rfl) (aL (aB) (aL (aH bL aC rfl rfl (by decide) (by decide) rfl) ?_));simp only[zz];refine ql rfl (fun u m=>((m.b 1 rfl).lies aI aC rfl rfl)) ?_;simp only[zz,zy,Nat.zero_add,Nat.reduceAdd,Nat.reduceMul,Int.reduceToNat];refine aL (aB) (aL (aH bL aC rfl rfl (by decide) (by decide) rfl) ?_);simp only[zz];refine ql rfl (fun u m=>((m.b 1 rfl).lies aI aC rfl rfl)) ?_;simp only[zz,zy,Nat.zero_add,Nat.reduceAdd,Nat.reduceMul,Int.reduceToNat];refine wU rfl rfl (vC.pure) (dF ?_);clear m;intro u m;refine k8 _ _ ?_;simp only[zz];refine cO rfl (fun hc2=>?_) (fun hc2=>?_)
 ·
  have h1:=hc2;refine wp_region_lit (aA (aB) (aA (aF) (aG (k7 _ _ ?_))));refine wp_region_lit (aA (aB) (aA (aQ (m:=1) (n:=1) (r:=2) rfl rfl (by decide)) ?_));simp only[zz];refine aA (aF) (aG (aT (aD fun K9 k9=>aD fun K10 k10=>wp_region_lit (aA (aB) (aA (bT (m:=2) (n:=3) rfl rfl (by decide)) (aG (k10 _ _ ?_)))))));refine cK rfl (wp_skip (k9 _ _ ?_));refine aD fun K11 k11=>wp_block (aD fun K12 k12=>?_);simp only[zz];refine mq m aO (by kernel_rfl) (aL (aB) (aL (aH bL aC rfl rfl (by decide) (by decide) rfl) ?_));simp only[zz];refine ql rfl (fun u m=>((m.b 1 rfl).lies aI aC rfl rfl)) ?_;simp only[zz,zy,Nat.zero_add,Nat.reduceAdd,Nat.reduceMul,Int.reduceToNat];refine aL (aB) (aL (aH bL aC rfl rfl (by decide) (by decide) rfl) ?_);simp only[zz];refine ql rfl (fun u m=>((m.b 1 rfl).lies aI aC rfl rfl)) ?_;simp only[zz,zy,Nat.zero_add,Nat.reduceAdd,Nat.reduceMul,Int.reduceToNat];refine wU rfl rfl (vC.pure) (dF ?_);clear m;intro u m;refine k12 _ _ ?_;simp only[zz];refine cO rfl (fun hc2=>?_) (fun hc2=>?_)
  ·
   have h2:=hc2;refine wp_region_lit (aA (aB) (aA (aF) (aG (k11 _ _ ?_))));refine wp_region_lit (aA (aB) (aA (aQ (m:=2) (n:=1) (r:=3) rfl rfl (by decide)) ?_));simp only[zz];refine aA (aF) (aG (aT (aD fun K13 k13=>aD fun K14 k14=>wp_region_lit (aA (aB) (aA (fT (m:=3) (n:=3) rfl rfl (by decide)) (aG (k14 _ _ ?_)))))));refine jM rfl (wp_exit (k3 _ _ ?_));refine aD fun K15 k15=>?_;simp only[zz];refine gB m 14 aO (by kernel_rfl) ?_;simp only[zy];refine aL (aB) (aL (aH bL aC rfl rfl (by decide) (by decide) rfl) ?_);simp only[zz];refine ql rfl (fun u m=>((m.b 1 rfl).lies aI aC rfl rfl)) ?_;simp only[zz,zy,Nat.zero_add,Nat.reduceAdd,Nat.reduceMul,Int.reduceToNat];refine aL (aB) (aL (aQ (m:=2) (n:=1) (r:=3) rfl rfl (by decide)) (aL (dK (m:=3) (n:=3) (r:=0) rfl rfl (by decide) (by decide)) (aL (aH bL aC rfl rfl (by decide) (by decide) rfl) ?_)));simp only[zz];refine ql rfl (fun u m=>((m.b 1 rfl).lies aI aC rfl rfl)) ?_;simp only[zz,zy,Nat.zero_add,Nat.reduceAdd,Nat.reduceMul,Int.reduceToNat];refine aL (aB) (aL (aQ (m:=2) (n:=2) (r:=4) rfl rfl (by decide)) (aL (dK (m:=4) (n:=3) (r:=1) rfl rfl (by decide) (by decide)) (aL (aH bL aC rfl rfl (by decide) (by decide) rfl) ?_)));simp only[zz];refine ql rfl (fun u m=>((m.b 1 rfl).lies aI aC rfl rfl)) ?_;simp only[zz,zy,Nat.zero_add,Nat.reduceAdd,Nat.reduceMul,Int.reduceToNat];refine aL (bN rfl rfl rfl) (dF ?_);clear m;intro u m;simp only[zz];refine aS m 0 rfl rfl rfl aU (dX rfl) rfl ?_;clear m;intro u m;simp only[zy,zx,bG,zF,zG,Nat.reduceAdd] at m;refine aG (k15 _ _ ?_);refine wp_ret ?_;try simp only[Exit.inBlock,Exit.then,if_true]
   refine bS rfl ⟨_,rfl,((m.b 0 rfl).full eQ aU)⟩ ?_;try simp only[zD,zE]
   exact ⟨_,rfl,m.ext,by rw [aec h1 h2];rfl⟩
  ·
   have h2:=hc2;refine wp_skip (k11 _ _ ?_);refine wp_region_lit (aA (aB) (aA (aQ (m:=2) (n:=1) (r:=3) rfl rfl (by decide)) (aA (aF) (aG (aT (aD fun K16 k16=>aD fun K17 k17=>wp_region_lit (aA (aB) ?_)))))));simp only[zz];refine aA (fT (m:=3) (n:=3) rfl rfl (by decide)) (aG (k17 _ _ ?_));refine jM rfl (wp_exit (k3 _ _ ?_));refine aD fun K18 k18=>?_;simp only[zz];refine gB m 14 aO (by kernel_rfl) ?_;simp only[zy];refine aL (aB) (aL (aH bL aC rfl rfl (by decide) (by decide) rfl) ?_);simp only[zz];refine ql rfl (fun u m=>((m.b 1 rfl).lies aI aC rfl rfl)) ?_;simp only[zz,zy,Nat.zero_add,Nat.reduceAdd,Nat.reduceMul,Int.reduceToNat];refine aL (aB) (aL (aQ (m:=1) (n:=1) (r:=2) rfl rfl (by decide)) (aL (dK (m:=2) (n:=3) (r:=2) rfl rfl (by decide) (by decide)) (aL (aH bL aC rfl rfl (by decide) (by decide) rfl) ?_)));simp only[zz];refine ql rfl (fun u m=>((m.b 1 rfl).lies aI aC rfl rfl)) ?_;simp only[zz,zy,Nat.zero_add,Nat.reduceAdd,Nat.reduceMul,Int.reduceToNat];refine aL (aB) (aL (aQ (m:=1) (n:=2) (r:=3) rfl rfl (by decide)) (aL (dK (m:=3) (n:=3) (r:=0) rfl rfl (by decide) (by decide)) (aL (aH bL aC rfl rfl (by decide) (by decide) rfl) ?_)));simp only[zz];refine ql rfl (fun u m=>((m.b 1 rfl).lies aI aC rfl rfl)) ?_;simp only[zz,zy,Nat.zero_add,Nat.reduceAdd,Nat.reduceMul,Int.reduceToNat];refine aL (bN rfl rfl rfl) (dF ?_);clear m;intro u m;simp only[zz];refine aS m 0 rfl rfl rfl aU (dX rfl) rfl ?_;clear m;intro u m;simp only[zy,zx,bG,zF,zG,Nat.reduceAdd] at m;refine aG (k18 _ _ ?_);refine wp_ret ?_;try simp only[Exit.inBlock,Exit.then,if_true]
   refine bS rfl ⟨_,rfl,((m.b 0 rfl).full eQ aU)⟩ ?_;try simp only[zD,zE]
   exact ⟨_,rfl,m.ext,by rw [aed h1 h2];rfl⟩
 ·
  have h1:=hc2;refine wp_skip (k7 _ _ ?_);refine wp_region_lit (aA (aB) (aA (aQ (m:=1) (n:=1) (r:=2) rfl rfl (by decide)) (aA (aF) (aG (aT (aD fun K19 k19=>aD fun K20 k20=>wp_region_lit (aA (aB) ?_)))))));simp only[zz];refine aA (bT (m:=2) (n:=3) rfl rfl (by decide)) (aG (k20 _ _ ?_));refine cK rfl (wp_skip (k19 _ _ ?_));refine aD fun K21 k21=>wp_block (aD fun K22 k22=>?_);simp only[zz];refine mq m aO (by kernel_rfl) (aL (aB) (aL (aH bL aC rfl rfl (by decide) (by decide) rfl) ?_));simp only[zz];refine ql rfl (fun u m=>((m.b 1 rfl).lies aI aC rfl rfl)) ?_;simp only[zz,zy,Nat.zero_add,Nat.reduceAdd,Nat.reduceMul,Int.reduceToNat];refine aL (aB) (aL (aH bL aC rfl rfl (by decide) (by decide) rfl) ?_);simp only[zz];refine ql rfl (fun u m=>((m.b 1 rfl).lies aI aC rfl rfl)) ?_;simp only[zz,zy,Nat.zero_add,Nat.reduceAdd,Nat.reduceMul,Int.reduceToNat];refine wU rfl rfl (vC.pure) (dF ?_);clear m;intro u m;refine k22 _ _ ?_;simp only[zz];refine cO rfl (fun hc2=>?_) (fun hc2=>?_)
  ·
   have h2:=hc2;refine wp_region_lit (aA (aB) (aA (aF) (aG (k21 _ _ ?_))));refine wp_region_lit (aA (aB) (aA (aQ (m:=2) (n:=1) (r:=3) rfl rfl (by decide)) ?_));simp only[zz];refine aA (aF) (aG (aT (aD fun K23 k23=>aD fun K24 k24=>wp_region_lit (aA (aB) (aA (fT (m:=3) (n:=3) rfl rfl (by decide)) (aG (k24 _ _ ?_)))))));refine jM rfl (wp_exit (k3 _ _ ?_));refine aD fun K25 k25=>?_;simp only[zz];refine gB m 14 aO (by kernel_rfl) ?_;simp only[zy];refine aL (aB) (aL (aH bL aC rfl rfl (by decide) (by decide) rfl) ?_);simp only[zz];refine ql rfl (fun u m=>((m.b 1 rfl).lies aI aC rfl rfl)) ?_;simp only[zz,zy,Nat.zero_add,Nat.reduceAdd,Nat.reduceMul,Int.reduceToNat];refine aL (aB) (aL (aQ (m:=2) (n:=1) (r:=3) rfl rfl (by decide)) (aL (dK (m:=3) (n:=3) (r:=0) rfl rfl (by decide) (by decide)) (aL (aH bL aC rfl rfl (by decide) (by decide) rfl) ?_)));simp only[zz];refine ql rfl (fun u m=>((m.b 1 rfl).lies aI aC rfl rfl)) ?_;simp only[zz,zy,Nat.zero_add,Nat.reduceAdd,Nat.reduceMul,Int.reduceToNat];refine aL (aB) (aL (aQ (m:=2) (n:=2) (r:=4) rfl rfl (by decide)) (aL (dK (m:=4) (n:=3) (r:=1) rfl rfl (by decide) (by decide)) (aL (aH bL aC rfl rfl (by decide) (by decide) rfl) ?_)));simp only[zz];refine ql rfl (fun u m=>((m.b 1 rfl).lies aI aC rfl rfl)) ?_;simp only[zz,zy,Nat.zero_add,Nat.reduceAdd,Nat.reduceMul,Int.reduceToNat];refine aL (bN rfl rfl rfl) (dF ?_);clear m;intro u m;simp only[zz];refine aS m 0 rfl rfl rfl aU (dX rfl) rfl ?_;clear m;intro u m;simp only[zy,zx,bG,zF,zG,Nat.reduceAdd] at m;refine aG (k25 _ _ ?_);refine wp_ret ?_;try simp only[Exit.inBlock,Exit.then,if_true]
   refine bS rfl ⟨_,rfl,((m.b 0 rfl).full eQ aU)⟩ ?_;try simp only[zD,zE]
   exact ⟨_,rfl,m.ext,by rw [aee h1 h2];rfl⟩
  ·
   have h2:=hc2;refine wp_skip (k21 _ _ ?_);refine wp_region_lit (aA (aB) (aA (aQ (m:=2) (n:=1) (r:=3) rfl rfl (by decide)) (aA (aF) (aG (aT (aD fun K26 k26=>aD fun K27 k27=>wp_region_lit (aA (aB) ?_)))))));simp only[zz];refine aA (fT (m:=3) (n:=3) rfl rfl (by decide)) (aG (k27 _ _ ?_));refine jM rfl (wp_exit (k3 _ _ ?_));refine aD fun K28 k28=>?_;simp only[zz];refine gB m 14 aO (by kernel_rfl) ?_;simp only[zy];refine aL (aB) (aL (aH bL aC rfl rfl (by decide) (by decide) rfl) ?_);simp only[zz];refine ql rfl (fun u m=>((m.b 1 rfl).lies aI aC rfl rfl)) ?_;simp only[zz,zy,Nat.zero_add,Nat.reduceAdd,Nat.reduceMul,Int.reduceToNat];refine aL (aB) (aL (aQ (m:=0) (n:=1) (r:=1) rfl rfl (by decide)) (aL (dK (m:=1) (n:=3) (r:=1) rfl rfl (by decide) (by decide)) (aL (aH bL aC rfl rfl (by decide) (by decide) rfl) ?_)));simp only[zz];refine ql rfl (fun u m=>((m.b 1 rfl).lies aI aC rfl rfl)) ?_;simp only[zz,zy,Nat.zero_add,Nat.reduceAdd,Nat.reduceMul,Int.reduceToNat];refine aL (aB) (aL (aQ (m:=0) (n:=2) (r:=2) rfl rfl (by decide)) (aL (dK (m:=2) (n:=3) (r:=2) rfl rfl (by decide) (by decide)) (aL (aH bL aC rfl rfl (by decide) (by decide) rfl) ?_)));simp only[zz];refine ql rfl (fun u m=>((m.b 1 rfl).lies aI aC rfl rfl)) ?_;simp only[zz,zy,Nat.zero_add,Nat.reduceAdd,Nat.reduceMul,Int.reduceToNat];refine aL (bN rfl rfl rfl) (dF ?_);clear m;intro u m;simp only[zz];refine aS m 0 rfl rfl rfl aU (dX rfl) rfl ?_;clear m;intro u m;simp only[zy,zx,bG,zF,zG,Nat.reduceAdd] at m;refine aG (k28 _ _ ?_);refine wp_ret ?_;try simp only[Exit.inBlock,Exit.then,if_true]
   refine bS rfl ⟨_,rfl,((m.b 0 rfl).full eQ aU)⟩ ?_;try simp only[zD,zE]
   exact ⟨_,rfl,m.ext,by rw [aef h1 h2];rfl⟩
end Go.Proofs.YtfohfflkhpfjeaaGreatDoor
namespace Go.Lith
open Go.RowKit
theorem cC {P : Program} {l : List Value} {x : Operand} {ty : TypeId} {a : Addr} (hx : ev l x = .pointer (some a)) : gE P l (.nilCheck x) ty (.pointer (some a)):=fun w o ho _=>by
 simp [execOp,ho,cL,hx]
theorem afS {P : Program} {ds : List Deferred} {Q : Exit → Act → World → Prop} {w w0 : World} {is : List It} {c : Code} {a : Act} {l : Nat → List Value} {c1 : List Value} {T1 : TypeId} (m : bR w0 w is) (h1 : c.wp P (fun e a' u=>e = .normal ∧ ∃ g,a' = Fr (l g) ds ∧ bR w0 u (bI g c1 T1 :: is)) a w)
 (h2 : ∀ g u,bR w0 u (bI g c1 T1 :: is) → Q .normal (Fr (l g) ds) u) : c.wp P Q a w:=by
 refine Code.wp_mono ?_ h1;rintro e a' u ⟨rfl,g,rfl,m'⟩;exact h2 g u m'
end Go.Lith
namespace Go.Lith
open Go.RowKit
section
variable {w w' : World} {b : Nat} {A : Option Addr} {n cap : Nat} {xs : List Nat}
end
theorem Nf {m n : Nat} (h : m < 9223372036854775808) : IntKind.i64.wrap ((m : Int).tdiv (n : Int)) = ((m / n : Nat) : Int):=Bt h
section
variable {P : Program} {ds : List Deferred} {l : List Value} {T ty : TypeId}
variable {ops : Array Oper} {Q : Exit → Act → World → Prop} {rest : List Oper} {d : Nat} {pos : String} {after : Array Edge} {w : World}
end
end Go.Lith
namespace Go.Lith
open Go.RowKit
end Go.Lith
namespace Go.Lith
open Go.RowKit
end Go.Lith
namespace Go.Lith
open Go.RowKit
instance (a : Int) : Decidable (nJ a):=inferInstanceAs (Decidable (_ ∧ _))
def Wa (a : Int) : Int:=if nJ a then a else 0
theorem Wb {a : Int} {X : Nat} (h : X = a.natAbs) : (gT a = true ∧ X ≤ 9223372036854775808 ∧ nJ a ∧ a = -(X : Int)) ∨ (gT a = true ∧ 9223372036854775808 < X ∧ ¬ nJ a) ∨
 (gT a = false ∧ 9223372036854775808 ≤ X ∧ ¬ nJ a) ∨ (gT a = false ∧ X < 9223372036854775808 ∧ nJ a ∧ a = (X : Int)):=by
 unfold nJ gT;rcases Int.lt_or_le a 0 with h0 | h0
 · rw [decide_eq_true h0]
   rcases Nat.lt_or_ge 9223372036854775808 X with h1 | h1
   · exact .inr (.inl ⟨rfl,h1,by omega⟩)
   · exact .inl ⟨rfl,h1,by omega,by omega⟩
 · rw [decide_eq_false (by omega)]
   rcases Nat.lt_or_ge X 9223372036854775808 with h1 | h1
   · exact .inr (.inr (.inr ⟨rfl,h1,by omega,by omega⟩))
   · exact .inr (.inr (.inl ⟨rfl,h1,by omega⟩))
theorem Qq {a : Int} (h : ¬ nJ a) : Value.tuple #[.int .i64 0,.bool false] = .tuple #[.int .i64 (Wa a),.bool (decide (nJ a))]:=by rw [Wa,if_neg h,decide_eq_false h]
theorem Sj {a n : Int} (h : nJ a) (e : n = a) : Value.tuple #[.int .i64 n,.bool true] = .tuple #[.int .i64 (Wa a),.bool (decide (nJ a))]:=by rw [Wa,if_pos h,decide_eq_true h,e]
theorem aao {X : Nat} (h : X ≤ 9223372036854775808) : IntKind.i64.wrap (IntKind.u64.wrap (0 - (X : Int))) = -(X : Int):=by
 rw [fO];simp [IntKind.wrap,IntKind.bits,IntKind.signed];split <;> omega
end Go.Lith
namespace Go.Lith
open Go.RowKit
def kO (p q : P3) : Nat:=((q.sub p).dot (q.sub p)).natAbs
def pX (p q : P3) : Int:=(dG (kO p q) : Int) + if dG (kO p q) * dG (kO p q) = kO p q then 0 else 1
def kP : List Mv → Int → Option Int
 | [],n=>some n
 | m :: ms,n=>if nJ (pX m.1 m.2) then kP ms (max n (pX m.1 m.2)) else none
def iK (fine coarse : List T3) (ms : List Mv) : Int × Int :=
 if cV true fine ≠ 0 then (0,cV true fine)
 else if cV true coarse ≠ 0 then (0,cV true coarse)
 else if aR fine ≠ aR coarse then (0,30)
 else if nP fine coarse (aR fine) = true ∨ uC fine coarse (aR fine) = false then (0,30)
 else if nQ fine coarse ms (aR fine) = false then (0,31)
 else if nR fine coarse ms = false then (0,32)
 else match kP ms 0 with
  | some n=>(n,0)
  | none=>(0,3)
/-! ### What CheckOpen says -/
theorem uG {ts : List T3} (h : cV true ts = 0) : lK ts ∧ (aP ts).Nodup:=by
 unfold cV at h;split at h
 · cases h
 · rename_i h1
   split at h
   · cases h
   · rename_i h2
     refine ⟨fun t ht=>?_,?_⟩
     · cases hd : jN t with
       | false=>rfl
       | true=>exact absurd (List.any_eq_true.2 ⟨t,ht,hd⟩) h1
     · rw [xX] at h2
       exact Decidable.not_not.1 fun k=>h2 (decide_eq_true k)
def jS (t : T3) : List E3:=[(t.a,t.b),(t.b,t.c),(t.c,t.a)]
theorem Hx {t : T3} {e : E3} : e ∈ jS (eD t) ↔ e ∈ jS t:=by
 unfold eD;split
 · simp only[jS,List.mem_cons,List.not_mem_nil,or_false]
   exact ⟨fun h=>h.elim (fun h=>.inr (.inr h)) fun h=>h.elim .inl fun h=>.inr (.inl h),fun h=>h.elim (fun h=>.inr (.inl h)) fun h=>h.elim (fun h=>.inr (.inr h)) .inl⟩
 · split
   · simp only[jS,List.mem_cons,List.not_mem_nil,or_false]
     exact ⟨fun h=>h.elim (fun h=>.inr (.inl h)) fun h=>h.elim (fun h=>.inr (.inr h)) .inl,fun h=>h.elim (fun h=>.inr (.inr h)) fun h=>h.elim .inl fun h=>.inr (.inl h)⟩
   · exact Iff.rfl
theorem Hy : ∀ {ts : List T3},(aP ts).Nodup → (ts.map eD).Nodup
 | [],_=>by simp
 | t :: ts,h=>by
  have e : aP (t :: ts) = jS t ++ aP ts:=rfl;rw [e] at h;obtain ⟨_,h2,h3⟩:=List.nodup_append.1 h;rw [List.map_cons,List.nodup_cons];refine ⟨fun k=>?_,Hy h2⟩;obtain ⟨u,hu,hr⟩:=List.mem_map.1 k;have h0 : (t.a,t.b) ∈ jS t:=by simp [jS]
  have h1 : (t.a,t.b) ∈ jS u:=Hx.1 (hr ▸ Hx.2 h0);exact h3 _ h0 _ (List.mem_flatMap.2 ⟨u,hu,h1⟩) rfl
theorem afT {t : T3} (h : jN t = false) : t.nd = true:=by
 obtain ⟨h1,h2,h3⟩:=Gh h;simp [T3.nd,h1,h2,h3]
/-! ### One far move -/
end Go.Lith
namespace Go.Proofs.YtfohfflkhpfjeaaGreatDoor
open Go.Proofs.Tryz
open Go.RowKit Go.Lith
set_option maxRecDepth 100000
attribute [local irreducible] wpList wpQuiet dC cS cR Code.wp
theorem Er {ts : List T3} {N cap : Nat} {A : Option Addr} (w : World) (hT : eG w A N ts) (hN : N ≤ 300000) : eI prog 71 [.slice A N cap] w (OR 48 3 (fun xs=>∃ ps : List P3,xs = ps.flatMap oB ∧ Zw ps ∧ ∀ a,a ∈ ps ↔ a ∈ aY ts) w):=by
 refine ⟨aft,?_⟩;have m:=bR.refl w
 go_enter func71,ntmps71
 refine aD fun K1 k1=>wp_region_lit (aA (aF) (aG (k1 _ _ ?_)));refine aD fun K2 k2=>wp_region_lit ?_;simp only[zz];refine jJ m ?_;clear m;intro q8 u m;have hD8:=bV.nil (K:=P3) (V:=Bool) pt Value.bool;refine aA (aF) (aG (k2 _ _ ?_));refine aD fun K3 k3=>aD fun K4 k4=>wp_region_lit (aA (aB) (aA (bF rfl bZ rfl) ?_));simp only[zz];refine aA (aB) (aG (k4 _ _ ?_));refine wp_block ?_;simp only[zz];try simp only[Nat.zero_add,Nat.reduceAdd,Nat.reduceMul,Int.reduceToNat]
 refine bM [11] [5,7,12,13,14,15,16,17,18,19,20,21,22,23] (fun n vs wl=>∃ (k : Nat) (es : Array MapEntry) (c : Nat),vs = [.int .i64 (k:Int)] ∧ bR w wl [mI q8 es c] ∧ (bV pt Value.bool (tW [] (aY (ts.take k))) es c) ∧ (k ≤ N) ∧ (n = N - k)) ?_ ?_
 ·
  apply Exists.intro;simp only[zQ,zR,zD,zE];exact ⟨0,_,_,rfl,m,hD8,Nat.zero_le _,rfl⟩
 ·
  intro n vs wr hI u;clear m;obtain ⟨k,es,c,rfl,m,hD8,hk,hn⟩:=hI;simp only[zu,zF,zG];refine aD fun K5 k5=>wp_region_lit (aA (cJ rfl rfl) (aG (k5 _ _ ?_)));refine aD fun K6 k6=>?_;simp only[zz];refine cO rfl (fun hc1=>?_) (fun hc1=>?_)
  ·
   obtain ⟨t,ht,_,a,rfl,hrow⟩:=hT.get (i:=k) (by omega);refine wp_skip (k6 _ _ ?_);refine aD fun K7 k7=>wp_block (aD fun K8 k8=>wp_region_lit (aA (aM bZ aU rfl rfl (by omega) (by omega) (cA (Int.toNat_natCast _))) ?_));simp only[zz];refine aJ rfl (((hrow.ext m.ext)).lies eQ aU) ?_;simp only[zz];refine bC m iY rfl ?_;clear m;intro g2 u m;simp only[zz];refine aS m 0 rfl rfl rfl aU (dX rfl) rfl ?_;clear m;intro u m;simp only[zy,zx,bG,zF,zG,Nat.reduceAdd] at m;refine aG (k8 _ _ ?_);refine aD fun K9 k9=>wp_region_lit (aJ rfl ((m.b 0 rfl).full eQ aU) ?_);simp only[zz];refine aA (aB) (aG (k9 _ _ ?_));refine wp_block (wp_loop_rounds 4 (cZ (aD fun K10 k10=>wp_region_lit (aA (bT (m:=0) (n:=3) rfl rfl (by decide)) (aG (k10 _ _ ?_))))));refine aD fun K11 k11=>cK rfl (wp_skip (k11 _ _ ?_));refine aD fun K12 k12=>wp_block (aD fun K13 k13=>wp_region_lit (aA (jA rfl rfl) ?_));simp only[zz];refine bC m bP rfl ?_;clear m;intro g3 u m;simp only[zz];refine aS m 0 rfl rfl rfl aC (dX rfl) rfl ?_;clear m;intro u m;simp only[zy,zx,bG,zF,zG,Nat.reduceAdd] at m;refine aG (k13 _ _ ?_);refine wp_region_lit (aA (aB) ?_);simp only[zz];refine aJ rfl ((m.b 0 rfl).full aI aC) ?_;simp only[zz];refine nN m 2 Pn rfl rfl (fun m=>Qm (p:=t.a) m 2 rfl hD8) ?_;clear m;rintro v i u m ⟨rfl,es',c',rfl,hD'⟩;simp only[zF,zG] at m;simp only[zz];clear hD8;have hD8:=hD';clear hD';refine aG (k12 _ _ ?_);refine wp_region_lit (aA (aQ (m:=0) (n:=1) (r:=1) rfl rfl (by decide)) (aA (aB) (aG (aT (aD fun K14 k14=>wp_region_lit (aA (bT (m:=1) (n:=3) rfl rfl (by decide)) (aG (k14 _ _ ?_))))))));refine aD fun K15 k15=>cK rfl (wp_skip (k15 _ _ ?_));refine aD fun K16 k16=>wp_block (aD fun K17 k17=>wp_region_lit (aA (jB rfl rfl) ?_));simp only[zz];refine bC m bP rfl ?_;clear m;intro g4 u m;simp only[zz];refine aS m 0 rfl rfl rfl aC (dX rfl) rfl ?_;clear m;intro u m;simp only[zy,zx,bG,zF,zG,Nat.reduceAdd] at m;refine aG (k17 _ _ ?_);refine wp_region_lit (aA (aB) ?_);simp only[zz];refine aJ rfl ((m.b 0 rfl).full aI aC) ?_;simp only[zz];refine nN m 3 Pn rfl rfl (fun m=>Qm (p:=t.b) m 3 rfl hD8) ?_;clear m;rintro v i u m ⟨rfl,es',c',rfl,hD'⟩;simp only[zF,zG] at m;simp only[zz];clear hD8;have hD8:=hD';clear hD';refine aG (k16 _ _ ?_);refine wp_region_lit (aA (aQ (m:=1) (n:=1) (r:=2) rfl rfl (by decide)) (aA (aB) (aG (aT (aD fun K18 k18=>wp_region_lit (aA (bT (m:=2) (n:=3) rfl rfl (by decide)) (aG (k18 _ _ ?_))))))));refine aD fun K19 k19=>cK rfl (wp_skip (k19 _ _ ?_));refine aD fun K20 k20=>wp_block (aD fun K21 k21=>wp_region_lit (aA (jC rfl rfl) ?_));simp only[zz];refine bC m bP rfl ?_;clear m;intro g5 u m;simp only[zz];refine aS m 0 rfl rfl rfl aC (dX rfl) rfl ?_;clear m;intro u m;simp only[zy,zx,bG,zF,zG,Nat.reduceAdd] at m;refine aG (k21 _ _ ?_);refine wp_region_lit (aA (aB) ?_);simp only[zz];refine aJ rfl ((m.b 0 rfl).full aI aC) ?_;simp only[zz];refine nN m 4 Pn rfl rfl (fun m=>Qm (p:=t.c) m 4 rfl hD8) ?_;clear m;rintro v i u m ⟨rfl,es',c',rfl,hD'⟩;simp only[zF,zG] at m;simp only[zz];clear hD8;have hD8:=hD';clear hD';refine aG (k20 _ _ ?_);refine wp_region_lit (aA (aQ (m:=2) (n:=1) (r:=3) rfl rfl (by decide)) (aA (aB) (aG (aT (aD fun K22 k22=>wp_region_lit (aA (fT (m:=3) (n:=3) rfl rfl (by decide)) (aG (k22 _ _ ?_))))))));refine aD fun K23 k23=>jM rfl (wp_exit (k7 _ _ ?_));refine wp_region_lit ?_;simp only[zz];refine aA (aQ rfl rfl (aN (by omega) (by omega))) (aA (aB) (aG ?_));simp only[zz];simp only[Exit.inBlock,Exit.then];refine ⟨N - (k + 1),_,?_,rfl,?_,?_⟩
   · omega
   · simp only[zz,zv]
   ·
    simp only[zQ,zR,zD,zE];exact ⟨k + 1,_,_,rfl,(m.sel [false,false,false,false,true]),by rw [Py ht];exact hD8,by omega,rfl⟩
  ·
   have hkN : k = N:=by omega
   rw [hkN,show ts.take N = ts from List.take_of_length_le (by rw [hT.len];exact Nat.le_refl _)] at hD8;refine wp_exit (k3 _ _ ?_);refine aD fun K24 k24=>wp_region_lit (aA (aB) ?_);simp only[zz];refine bK rfl rfl (Vv _ (m.p 0 rfl) hD8 (by have h1:=xU (aY ts) [];have h2:=xV ts;have h3:=hT.len;simp only[List.length_nil] at h1;omega)) ?_;rintro v u e ⟨A9,n9,cap9,_,rfl,hN,ps,rfl,hps,hso⟩;replace m:=m.newO e hN;clear e hN;refine aA (aF) (aG (k24 _ _ ?_));refine wp_ret ?_;simp only[zz];try simp only[Exit.inBlock,Exit.then,if_true]
   refine bS rfl rfl ?_;try simp only[zD,zE]
   exact ⟨_,rfl,m.ext,_,_,_,_,rfl,(m.o 0 rfl),ps,rfl,Vq (hps.nodup_iff.2 (Ay _ _ .nil)) hso,fun a=>by rw [hps.mem_iff,Hn];simp⟩
end Go.Proofs.YtfohfflkhpfjeaaGreatDoor
namespace Go.Proofs.YtfohfflkhpfjeaaGreatDoor
open Go.Proofs.Tryz
open Go.RowKit Go.Lith
set_option maxRecDepth 100000
attribute [local irreducible] wpList wpQuiet dC cS cR Code.wp
theorem mG : pV prog 57 ed:=by
 refine pV.agg (cs:=fun p=>#[.int .i64 p.1.x,.int .i64 p.1.y,.int .i64 p.1.z,.int .i64 p.2.x,.int .i64 p.2.y,.int .i64 p.2.z]) (fun _=>rfl) jH (fun e p=>?_) (fun p q=>?_) (fun p=>?_)
 ·
  refine qB.array (d:=9999) jH aC fun i hi=>?_;obtain rfl | rfl:=(by omega : i = 0 ∨ i = 1)
  ·
   refine ⟨_,eP aI aC rfl,?_⟩;refine qB.struct (d:=9998) cN fun f hf=>?_;simp only[List.mem_cons,List.not_mem_nil,or_false] at hf;rcases hf with rfl | rfl | rfl
   · exact ⟨_,cX bQ rfl,qB.int (d:=9997) kJ⟩
   · exact ⟨_,cX bQ rfl,qB.int (d:=9997) kJ⟩
   · exact ⟨_,cX bQ rfl,qB.int (d:=9997) kJ⟩
  ·
   refine ⟨_,eP aI aC rfl,?_⟩;refine qB.struct (d:=9998) cN fun f hf=>?_;simp only[List.mem_cons,List.not_mem_nil,or_false] at hf;rcases hf with rfl | rfl | rfl
   · exact ⟨_,cX bQ rfl,qB.int (d:=9997) kJ⟩
   · exact ⟨_,cX bQ rfl,qB.int (d:=9997) kJ⟩
   · exact ⟨_,cX bQ rfl,qB.int (d:=9997) kJ⟩
 · exact (Pt _).iff ⟨fun h=>Prod.ext (P3.eq (h.1) (h.2.1) (h.2.2.1)) (P3.eq (h.2.2.2.1) (h.2.2.2.2.1) (h.2.2.2.2.2)),fun h=>by subst h;simp only[and_self]⟩
 · simp [ed,Instr.sameBits]
theorem Es {ts : List T3} {N cap : Nat} {A : Option Addr} (w : World) (hT : eG w A N ts) (hN : N ≤ 10000000) : eI prog 70 [.slice A N cap] w (fun v w'=>∃ g es c,v = .map (some g) ∧ bR w w' [mI g es c] ∧ bV ed Value.bool (fG [] (kB ts)) es c):=by
 refine ⟨afs,?_⟩;have m:=bR.refl w
 go_enter func70,ntmps70
 refine aD fun K1 k1=>wp_region_lit (aA (aF) (aG (k1 _ _ ?_)));refine aD fun K2 k2=>wp_region_lit ?_;simp only[zz];refine jJ m ?_;clear m;intro q8 u m;have hD8:=bV.nil (K:=E3) (V:=Bool) ed Value.bool;refine aA (aF) (aG (k2 _ _ ?_));refine aD fun K3 k3=>aD fun K4 k4=>wp_region_lit (aA (aB) (aA (bF rfl bZ rfl) ?_));simp only[zz];refine aA (aB) (aG (k4 _ _ ?_));refine wp_block ?_;simp only[zz];try simp only[Nat.zero_add,Nat.reduceAdd,Nat.reduceMul,Int.reduceToNat]
 refine bM [13] [5,7,9,14,15,16,17,18,19,20,21,22,23,24,25,26,27,28,29,30,31] (fun n vs wl=>∃ (k : Nat) (es : Array MapEntry) (c : Nat),vs = [.int .i64 (k:Int)] ∧ bR w wl [mI q8 es c] ∧ (bV ed Value.bool (fG [] (kB (ts.take k))) es c) ∧ (k ≤ N) ∧ (n = N - k)) ?_ ?_
 ·
  apply Exists.intro;simp only[zQ,zR,zD,zE];exact ⟨0,_,_,rfl,m,hD8,Nat.zero_le _,rfl⟩
 ·
  intro n vs wr hI u;clear m;obtain ⟨k,es8,c8,rfl,m,hD8,hk,hn⟩:=hI;simp only[zu,zF,zG];refine aD fun K5 k5=>wp_region_lit (aA (cJ rfl rfl) (aG (k5 _ _ ?_)));refine aD fun K6 k6=>?_;simp only[zz];refine cO rfl (fun hc1=>?_) (fun hc1=>?_)
  ·
   obtain ⟨t,ht,_,a,rfl,hrow⟩:=hT.get (i:=k) (by omega);refine wp_skip (k6 _ _ ?_);refine aD fun K7 k7=>wp_block (aD fun K8 k8=>wp_region_lit (aA (aM bZ aU rfl rfl (by omega) (by omega) (cA (Int.toNat_natCast _))) ?_));simp only[zz];refine aJ rfl ((hrow.ext m.ext).lies eQ aU) ?_;simp only[zz];refine bC m iY rfl ?_;clear m;intro g2 u m;simp only[zz];refine aS m 0 rfl rfl rfl aU (dX rfl) rfl ?_;clear m;intro u m;simp only[zy,zx,bG,zF,zG,Nat.reduceAdd] at m;refine aG (k8 _ _ ?_);refine aD fun K9 k9=>wp_region_lit (aJ rfl ((m.b 0 rfl).full eQ aU) ?_);simp only[zz];refine aA (aB) (aG (k9 _ _ ?_));refine wp_block (wp_loop_rounds 4 (cZ (aD fun K10 k10=>wp_region_lit (aA (bT (m:=0) (n:=3) rfl rfl (by decide)) (aG (k10 _ _ ?_))))));refine aD fun K11 k11=>cK rfl (wp_skip (k11 _ _ ?_));refine aD fun K12 k12=>wp_block (aD fun K13 k13=>wp_region_lit (aA (jA rfl rfl) ?_));simp only[zz];refine bC m bP rfl ?_;clear m;intro g3 u m;simp only[zz];refine aS m 0 rfl rfl rfl aC (dX rfl) rfl ?_;clear m;intro u m;simp only[zy,zx,bG,zF,zG,Nat.reduceAdd] at m;refine aG (k13 _ _ ?_);refine aD fun K14 k14=>wp_region_lit (aJ rfl ((m.b 1 rfl).full eQ aU) ?_);simp only[zz];refine aA (aB) (aG (k14 _ _ ?_));refine wp_block (wp_loop_rounds 4 (cZ (aD fun K15 k15=>wp_region_lit (aA (bT (m:=0) (n:=3) rfl rfl (by decide)) (aG (k15 _ _ ?_))))));refine aD fun K16 k16=>cK rfl (wp_skip (k16 _ _ ?_));refine aD fun K17 k17=>wp_block (aD fun K18 k18=>wp_region_lit (aA (jA rfl rfl) ?_));simp only[zz];refine bC m bP rfl ?_;clear m;intro g4 u m;simp only[zz];refine aS m 0 rfl rfl rfl aC (dX rfl) rfl ?_;clear m;intro u m;simp only[zy,zx,bG,zF,zG,Nat.reduceAdd] at m;refine aG (k18 _ _ ?_);refine wp_region_lit (aA (aB) ?_);simp only[zz];refine aJ rfl ((m.b 1 rfl).full aI aC) ?_;simp only[zz];refine aJ rfl ((m.b 0 rfl).full aI aC) ?_;simp only[zz];refine aA (bW rfl rfl) ?_;simp only[zz];refine eS (ek:=ed) (en:=Value.bool) (a:=(t.a,t.a)) (v:=true) m 3 rfl mQ mG rfl rfl rfl hD8 ?_;clear m;intro es8 c8 u m hD';clear hD8;have hD8:=hD';clear hD';simp only[zF,zG] at m;refine aG (k17 _ _ ?_);refine wp_region_lit (aA (aQ (m:=0) (n:=1) (r:=1) rfl rfl (by decide)) (aA (aB) (aG (aT (aD fun K19 k19=>wp_region_lit (aA (bT (m:=1) (n:=3) rfl rfl (by decide)) (aG (k19 _ _ ?_))))))));refine aD fun K20 k20=>cK rfl (wp_skip (k20 _ _ ?_));refine aD fun K21 k21=>wp_block (aD fun K22 k22=>wp_region_lit (aA (jB rfl rfl) ?_));simp only[zz];refine bC m bP rfl ?_;clear m;intro g5 u m;simp only[zz];refine aS m 0 rfl rfl rfl aC (dX rfl) rfl ?_;clear m;intro u m;simp only[zy,zx,bG,zF,zG,Nat.reduceAdd] at m;refine aG (k22 _ _ ?_);refine wp_region_lit (aA (aB) ?_);simp only[zz];refine aJ rfl ((m.b 2 rfl).full aI aC) ?_;simp only[zz];refine aJ rfl ((m.b 0 rfl).full aI aC) ?_;simp only[zz];refine aA (bW rfl rfl) ?_;simp only[zz];refine eS (ek:=ed) (en:=Value.bool) (a:=(t.a,t.b)) (v:=true) m 4 rfl mQ mG rfl rfl rfl hD8 ?_;clear m;intro es8 c8 u m hD';clear hD8;have hD8:=hD';clear hD';simp only[zF,zG] at m;refine aG (k21 _ _ ?_);refine wp_region_lit (aA (aQ (m:=1) (n:=1) (r:=2) rfl rfl (by decide)) (aA (aB) (aG (aT (aD fun K23 k23=>wp_region_lit (aA (bT (m:=2) (n:=3) rfl rfl (by decide)) (aG (k23 _ _ ?_))))))));refine aD fun K24 k24=>cK rfl (wp_skip (k24 _ _ ?_));refine aD fun K25 k25=>wp_block (aD fun K26 k26=>wp_region_lit (aA (jC rfl rfl) ?_));simp only[zz];refine bC m bP rfl ?_;clear m;intro g6 u m;simp only[zz];refine aS m 0 rfl rfl rfl aC (dX rfl) rfl ?_;clear m;intro u m;simp only[zy,zx,bG,zF,zG,Nat.reduceAdd] at m;refine aG (k26 _ _ ?_);refine wp_region_lit (aA (aB) ?_);simp only[zz];refine aJ rfl ((m.b 3 rfl).full aI aC) ?_;simp only[zz];refine aJ rfl ((m.b 0 rfl).full aI aC) ?_;simp only[zz];refine aA (bW rfl rfl) ?_;simp only[zz];refine eS (ek:=ed) (en:=Value.bool) (a:=(t.a,t.c)) (v:=true) m 5 rfl mQ mG rfl rfl rfl hD8 ?_;clear m;intro es8 c8 u m hD';clear hD8;have hD8:=hD';clear hD';simp only[zF,zG] at m;refine aG (k25 _ _ ?_);refine wp_region_lit (aA (aQ (m:=2) (n:=1) (r:=3) rfl rfl (by decide)) (aA (aB) (aG (aT (aD fun K27 k27=>wp_region_lit (aA (fT (m:=3) (n:=3) rfl rfl (by decide)) (aG (k27 _ _ ?_))))))));refine aD fun K28 k28=>jM rfl (wp_exit (k12 _ _ ?_));refine wp_region_lit (aA (aQ (m:=0) (n:=1) (r:=1) rfl rfl (by decide)) ?_);simp only[zz];refine aA (aB) (aG (aT (aD fun K29 k29=>wp_region_lit (aA (bT (m:=1) (n:=3) rfl rfl (by decide)) (aG (k29 _ _ ?_))))));refine aD fun K30 k30=>cK rfl (wp_skip (k30 _ _ ?_));refine aD fun K31 k31=>wp_block (aD fun K32 k32=>wp_region_lit (aA (jB rfl rfl) ?_));simp only[zz];refine bC m bP rfl ?_;clear m;intro g7 u m;simp only[zz];refine aS m 0 rfl rfl rfl aC (dX rfl) rfl ?_;clear m;intro u m;simp only[zy,zx,bG,zF,zG,Nat.reduceAdd] at m;refine aG (k32 _ _ ?_);refine aD fun K33 k33=>wp_region_lit (aJ rfl ((m.b 5 rfl).full eQ aU) ?_);simp only[zz];refine aA (aB) (aG (k33 _ _ ?_));refine wp_block (wp_loop_rounds 4 (cZ (aD fun K34 k34=>wp_region_lit (aA (bT (m:=0) (n:=3) rfl rfl (by decide)) (aG (k34 _ _ ?_))))));refine aD fun K35 k35=>cK rfl (wp_skip (k35 _ _ ?_));refine aD fun K36 k36=>wp_block (aD fun K37 k37=>wp_region_lit (aA (jA rfl rfl) ?_));simp only[zz];refine bC m bP rfl ?_;clear m;intro g8 u m;simp only[zz];refine aS m 0 rfl rfl rfl aC (dX rfl) rfl ?_;clear m;intro u m;simp only[zy,zx,bG,zF,zG,Nat.reduceAdd] at m;refine aG (k37 _ _ ?_);refine wp_region_lit (aA (aB) ?_);simp only[zz];refine aJ rfl ((m.b 1 rfl).full aI aC) ?_;simp only[zz];refine aJ rfl ((m.b 0 rfl).full aI aC) ?_;simp only[zz];refine aA (bW rfl rfl) ?_;simp only[zz];refine eS (ek:=ed) (en:=Value.bool) (a:=(t.b,t.a)) (v:=true) m 7 rfl mQ mG rfl rfl rfl hD8 ?_;clear m;intro es8 c8 u m hD';clear hD8;have hD8:=hD';clear hD';simp only[zF,zG] at m;refine aG (k36 _ _ ?_);refine wp_region_lit (aA (aQ (m:=0) (n:=1) (r:=1) rfl rfl (by decide)) (aA (aB) (aG (aT (aD fun K38 k38=>wp_region_lit (aA (bT (m:=1) (n:=3) rfl rfl (by decide)) (aG (k38 _ _ ?_))))))));refine aD fun K39 k39=>cK rfl (wp_skip (k39 _ _ ?_));refine aD fun K40 k40=>wp_block (aD fun K41 k41=>wp_region_lit (aA (jB rfl rfl) ?_));simp only[zz];refine bC m bP rfl ?_;clear m;intro g9 u m;simp only[zz];refine aS m 0 rfl rfl rfl aC (dX rfl) rfl ?_;clear m;intro u m;simp only[zy,zx,bG,zF,zG,Nat.reduceAdd] at m;refine aG (k41 _ _ ?_);refine wp_region_lit (aA (aB) ?_);simp only[zz];refine aJ rfl ((m.b 2 rfl).full aI aC) ?_;simp only[zz];refine aJ rfl ((m.b 0 rfl).full aI aC) ?_;simp only[zz];refine aA (bW rfl rfl) ?_;simp only[zz];refine eS (ek:=ed) (en:=Value.bool) (a:=(t.b,t.b)) (v:=true) m 8 rfl mQ mG rfl rfl rfl hD8 ?_;clear m;intro es8 c8 u m hD';clear hD8;have hD8:=hD';clear hD';simp only[zF,zG] at m;refine aG (k40 _ _ ?_);refine wp_region_lit (aA (aQ (m:=1) (n:=1) (r:=2) rfl rfl (by decide)) (aA (aB) (aG (aT (aD fun K42 k42=>wp_region_lit (aA (bT (m:=2) (n:=3) rfl rfl (by decide)) (aG (k42 _ _ ?_))))))));refine aD fun K43 k43=>cK rfl (wp_skip (k43 _ _ ?_));refine aD fun K44 k44=>wp_block (aD fun K45 k45=>wp_region_lit (aA (jC rfl rfl) ?_));simp only[zz];refine bC m bP rfl ?_;clear m;intro g10 u m;simp only[zz];refine aS m 0 rfl rfl rfl aC (dX rfl) rfl ?_;clear m;intro u m;simp only[zy,zx,bG,zF,zG,Nat.reduceAdd] at m;refine aG (k45 _ _ ?_);refine wp_region_lit (aA (aB) ?_);simp only[zz];refine aJ rfl ((m.b 3 rfl).full aI aC) ?_;simp only[zz];refine aJ rfl ((m.b 0 rfl).full aI aC) ?_;simp only[zz];refine aA (bW rfl rfl) ?_;simp only[zz];refine eS (ek:=ed) (en:=Value.bool) (a:=(t.b,t.c)) (v:=true) m 9 rfl mQ mG rfl rfl rfl hD8 ?_;clear m;intro es8 c8 u m hD';clear hD8;have hD8:=hD';clear hD';simp only[zF,zG] at m;refine aG (k44 _ _ ?_);refine wp_region_lit (aA (aQ (m:=2) (n:=1) (r:=3) rfl rfl (by decide)) (aA (aB) (aG (aT (aD fun K46 k46=>wp_region_lit (aA (fT (m:=3) (n:=3) rfl rfl (by decide)) (aG (k46 _ _ ?_))))))));refine aD fun K47 k47=>jM rfl (wp_exit (k31 _ _ ?_));refine wp_region_lit (aA (aQ (m:=1) (n:=1) (r:=2) rfl rfl (by decide)) ?_);simp only[zz];refine aA (aB) (aG (aT (aD fun K48 k48=>wp_region_lit (aA (bT (m:=2) (n:=3) rfl rfl (by decide)) (aG (k48 _ _ ?_))))));refine aD fun K49 k49=>cK rfl (wp_skip (k49 _ _ ?_));refine aD fun K50 k50=>wp_block (aD fun K51 k51=>wp_region_lit (aA (jC rfl rfl) ?_));simp only[zz];refine bC m bP rfl ?_;clear m;intro g11 u m;simp only[zz];refine aS m 0 rfl rfl rfl aC (dX rfl) rfl ?_;clear m;intro u m;simp only[zy,zx,bG,zF,zG,Nat.reduceAdd] at m;refine aG (k51 _ _ ?_);refine aD fun K52 k52=>wp_region_lit (aJ rfl ((m.b 9 rfl).full eQ aU) ?_);simp only[zz];refine aA (aB) (aG (k52 _ _ ?_));refine wp_block (wp_loop_rounds 4 (cZ (aD fun K53 k53=>wp_region_lit (aA (bT (m:=0) (n:=3) rfl rfl (by decide)) (aG (k53 _ _ ?_))))));refine aD fun K54 k54=>cK rfl (wp_skip (k54 _ _ ?_));refine aD fun K55 k55=>wp_block (aD fun K56 k56=>wp_region_lit (aA (jA rfl rfl) ?_));simp only[zz];refine bC m bP rfl ?_;clear m;intro g12 u m;simp only[zz];refine aS m 0 rfl rfl rfl aC (dX rfl) rfl ?_;clear m;intro u m;simp only[zy,zx,bG,zF,zG,Nat.reduceAdd] at m;refine aG (k56 _ _ ?_);refine wp_region_lit (aA (aB) ?_);simp only[zz];refine aJ rfl ((m.b 1 rfl).full aI aC) ?_;simp only[zz];refine aJ rfl ((m.b 0 rfl).full aI aC) ?_;simp only[zz];refine aA (bW rfl rfl) ?_;simp only[zz];refine eS (ek:=ed) (en:=Value.bool) (a:=(t.c,t.a)) (v:=true) m 11 rfl mQ mG rfl rfl rfl hD8 ?_;clear m;intro es8 c8 u m hD';clear hD8;have hD8:=hD';clear hD';simp only[zF,zG] at m;refine aG (k55 _ _ ?_);refine wp_region_lit (aA (aQ (m:=0) (n:=1) (r:=1) rfl rfl (by decide)) (aA (aB) (aG (aT (aD fun K57 k57=>wp_region_lit (aA (bT (m:=1) (n:=3) rfl rfl (by decide)) (aG (k57 _ _ ?_))))))));refine aD fun K58 k58=>cK rfl (wp_skip (k58 _ _ ?_));refine aD fun K59 k59=>wp_block (aD fun K60 k60=>wp_region_lit (aA (jB rfl rfl) ?_));simp only[zz];refine bC m bP rfl ?_;clear m;intro g13 u m;simp only[zz];refine aS m 0 rfl rfl rfl aC (dX rfl) rfl ?_;clear m;intro u m;simp only[zy,zx,bG,zF,zG,Nat.reduceAdd] at m;refine aG (k60 _ _ ?_);refine wp_region_lit (aA (aB) ?_);simp only[zz];refine aJ rfl ((m.b 2 rfl).full aI aC) ?_;simp only[zz];refine aJ rfl ((m.b 0 rfl).full aI aC) ?_;simp only[zz];refine aA (bW rfl rfl) ?_;simp only[zz];refine eS (ek:=ed) (en:=Value.bool) (a:=(t.c,t.b)) (v:=true) m 12 rfl mQ mG rfl rfl rfl hD8 ?_;clear m;intro es8 c8 u m hD';clear hD8;have hD8:=hD';clear hD';simp only[zF,zG] at m;refine aG (k59 _ _ ?_);refine wp_region_lit (aA (aQ (m:=1) (n:=1) (r:=2) rfl rfl (by decide)) (aA (aB) (aG (aT (aD fun K61 k61=>wp_region_lit (aA (bT (m:=2) (n:=3) rfl rfl (by decide)) (aG (k61 _ _ ?_))))))));refine aD fun K62 k62=>cK rfl (wp_skip (k62 _ _ ?_));refine aD fun K63 k63=>wp_block (aD fun K64 k64=>wp_region_lit (aA (jC rfl rfl) ?_));simp only[zz];refine bC m bP rfl ?_;clear m;intro g14 u m;simp only[zz];refine aS m 0 rfl rfl rfl aC (dX rfl) rfl ?_;clear m;intro u m;simp only[zy,zx,bG,zF,zG,Nat.reduceAdd] at m;refine aG (k64 _ _ ?_);refine wp_region_lit (aA (aB) ?_);simp only[zz];refine aJ rfl ((m.b 3 rfl).full aI aC) ?_;simp only[zz];refine aJ rfl ((m.b 0 rfl).full aI aC) ?_;simp only[zz];refine aA (bW rfl rfl) ?_;simp only[zz];refine eS (ek:=ed) (en:=Value.bool) (a:=(t.c,t.c)) (v:=true) m 13 rfl mQ mG rfl rfl rfl hD8 ?_;clear m;intro es8 c8 u m hD';clear hD8;have hD8:=hD';clear hD';simp only[zF,zG] at m;refine aG (k63 _ _ ?_);refine wp_region_lit (aA (aQ (m:=2) (n:=1) (r:=3) rfl rfl (by decide)) (aA (aB) (aG (aT (aD fun K65 k65=>wp_region_lit (aA (fT (m:=3) (n:=3) rfl rfl (by decide)) (aG (k65 _ _ ?_))))))));refine aD fun K66 k66=>jM rfl (wp_exit (k50 _ _ ?_));refine wp_region_lit (aA (aQ (m:=2) (n:=1) (r:=3) rfl rfl (by decide)) ?_);simp only[zz];refine aA (aB) (aG (aT (aD fun K67 k67=>wp_region_lit (aA (fT (m:=3) (n:=3) rfl rfl (by decide)) (aG (k67 _ _ ?_))))));refine aD fun K68 k68=>jM rfl (wp_exit (k7 _ _ ?_));refine wp_region_lit ?_;simp only[zz];refine aA (aQ rfl rfl (aN (by omega) (by omega))) (aA (aB) (aG ?_));simp only[zz];simp only[Exit.inBlock,Exit.then];refine ⟨N - (k + 1),_,?_,rfl,?_,?_⟩
   · omega
   · simp only[zz,zv]
   ·
    simp only[zQ,zR,zD,zE];exact ⟨k + 1,_,_,rfl,(m.sel [false,false,false,false,false,false,false,false,false,false,false,false,false,true]),by rw [Qf ht,Mo];exact hD8,by omega,rfl⟩
  ·
   have hkN : k = N:=by omega
   rw [hkN,show ts.take N = ts from List.take_of_length_le (by rw [hT.len];exact Nat.le_refl _)] at hD8;refine wp_exit (k3 _ _ ?_);refine aD fun K69 k69=>wp_region_lit (aA (aB) (aA (aF) (aG (k69 _ _ ?_))));refine wp_ret ?_;simp only[zz];try simp only[Exit.inBlock,Exit.then,if_true]
   refine bS rfl rfl ?_;try simp only[zD,zE]
   exact ⟨_,rfl,m.ext,_,_,_,rfl,m,hD8⟩
theorem aap {ps : List P3} {N cap : Nat} {A : Option Addr} (w : World) (hL : sR wF 3 w A N ps) (hN : N ≤ 9223372036854775807) : eI prog 72 [.slice A N cap] w (fun v w'=>∃ g es c,v = .map (some g) ∧ bR w w' [mI g es c] ∧ bV pt Value.bool (fG [] ps) es c):=by
 refine ⟨afu,?_⟩;have m:=bR.refl w
 go_enter func72,ntmps72
 refine aD fun K1 k1=>wp_region_lit (aA (aF) (aG (k1 _ _ ?_)));refine aD fun K2 k2=>wp_region_lit ?_;simp only[zz];refine jJ m ?_;clear m;intro q8 u m;have hD8:=bV.nil (K:=P3) (V:=Bool) pt Value.bool;refine aA (aF) (aG (k2 _ _ ?_));refine aD fun K3 k3=>aD fun K4 k4=>wp_region_lit (aA (aB) (aA (bF rfl jI rfl) ?_));simp only[zz];refine aA (aB) (aG (k4 _ _ ?_));refine wp_block ?_;simp only[zz];try simp only[Nat.zero_add,Nat.reduceAdd,Nat.reduceMul,Int.reduceToNat]
 refine bM [9] [5,10,11,12,13,14,15] (fun n vs wl=>∃ (k : Nat) (es : Array MapEntry) (c : Nat),vs = [.int .i64 (k:Int)] ∧ bR w wl [mI q8 es c] ∧ (bV pt Value.bool (fG [] (ps.take k)) es c) ∧ (k ≤ N) ∧ (n = N - k)) ?_ ?_
 ·
  apply Exists.intro;simp only[zQ,zR,zD,zE];exact ⟨0,_,_,rfl,m,hD8,Nat.zero_le _,rfl⟩
 ·
  intro n vs wr hI u;clear m;obtain ⟨k,es8,c8,rfl,m,hD8,hk,hn⟩:=hI;simp only[zu,zF,zG];refine aD fun K5 k5=>wp_region_lit (aA (cJ rfl rfl) (aG (k5 _ _ ?_)));refine aD fun K6 k6=>?_;simp only[zz];refine cO rfl (fun hc1=>?_) (fun hc1=>?_)
  ·
   obtain ⟨x,hx,a,rfl,hrow⟩:=hL.get (i:=k) (by omega);refine wp_skip (k6 _ _ ?_);refine aD fun K7 k7=>wp_block (aD fun K8 k8=>wp_region_lit (aA (aM jI aC rfl rfl (by omega) (by omega) (cA (Int.toNat_natCast _))) ?_));simp only[zz];refine aJ rfl ((hrow.ext m.ext).lies aI aC) ?_;simp only[zz];refine bC m bP rfl ?_;clear m;intro g2 u m;simp only[zz];refine aS m 0 rfl rfl rfl aC (dX rfl) rfl ?_;clear m;intro u m;simp only[zy,zx,bG,zF,zG,Nat.reduceAdd] at m;refine aG (k8 _ _ ?_);refine wp_region_lit (aA (aB) ?_);simp only[zz];refine aJ rfl ((m.b 0 rfl).full aI aC) ?_;simp only[zz];refine eS (ek:=pt) (en:=Value.bool) (a:=x) (v:=true) m 1 rfl mD fW rfl rfl rfl hD8 ?_;clear m;intro es8 c8 u m hD';clear hD8;have hD8:=hD';clear hD';simp only[zF,zG] at m;refine aG (k7 _ _ ?_);refine wp_region_lit (aA (aQ rfl rfl (aN (by omega) (by omega))) (aA (aB) (aG ?_)));simp only[zz];simp only[Exit.inBlock,Exit.then];refine ⟨N - (k + 1),_,?_,rfl,?_,?_⟩
   · omega
   · simp only[zz,zv]
   ·
    simp only[zQ,zR,zD,zE];exact ⟨k + 1,_,_,rfl,(m.sel [false,true]),by rw [dN hx,lL];exact hD8,by omega,rfl⟩
  ·
   have hkN : k = N:=by omega
   rw [hkN,show ps.take N = ps from List.take_of_length_le (by rw [hL.len];exact Nat.le_refl _)] at hD8;refine wp_exit (k3 _ _ ?_);refine aD fun K9 k9=>wp_region_lit (aA (aB) (aA (aF) (aG (k9 _ _ ?_))));refine wp_ret ?_;simp only[zz];try simp only[Exit.inBlock,Exit.then,if_true]
   refine bS rfl rfl ?_;try simp only[zD,zE]
   exact ⟨_,rfl,m.ext,_,_,_,rfl,m,hD8⟩
theorem Wc {ts : List T3} {rim : List E3} {k : Nat} {e : E3} (h : rim[k]? = some e) : vW ts (rim.take (k + 1)) = vW ts (rim.take k) ++ [(e,Jv ts e.1 ts.length e.2)]:=by
 rw [dN h];simp [vW]
theorem aaq {ts : List T3} {N cap : Nat} {A : Option Addr} {rim : List E3} {M cap2 : Nat} {A2 : Option Addr} (w : World) (hT : eG w A N ts) (hN : N ≤ 10000000) (hL : sR bJ 6 w A2 M rim) (hM : M ≤ 100000000) (hdg : lK ts) (hnd : (aP ts).Nodup) (hrim : ∀ e ∈ rim,(e.2,e.1) ∉ aP ts) : eI prog 69 [.slice A N cap,.slice A2 M cap2] w (fun v w'=>∃ g es c,v = .map (some g) ∧ bR w w' [mI g es c] ∧ bV ed pt (lM [] (vW ts rim)) es c):=by
 refine ⟨afr,?_⟩;have m:=bR.refl w
 go_enter func69,ntmps69
 refine aD fun K1 k1=>wp_region_lit (aA (aF) (aG (k1 _ _ ?_)));refine aD fun K2 k2=>wp_region_lit ?_;simp only[zz];refine jJ m ?_;clear m;intro q8 u m;have hD8:=bV.nil (K:=E3) (V:=P3) ed pt;refine aA (aF) (aG (k2 _ _ ?_));refine aD fun K3 k3=>aD fun K4 k4=>wp_region_lit (aA (aB) (aA (bF rfl bZ rfl) ?_));simp only[zz];refine aA (aB) (aG (k4 _ _ ?_));refine wp_block ?_;simp only[zz];try simp only[Nat.zero_add,Nat.reduceAdd,Nat.reduceMul,Int.reduceToNat]
 refine bM [19] [7,8,9,20,21,22,23,24,25,26,27,28,29,30,31,32,33,34,35,36,37,38,39,40,41,42] (fun n vs wl=>∃ (k : Nat) (es : Array MapEntry) (c : Nat),vs = [.int .i64 (k:Int)] ∧ bR w wl [mI q8 es c] ∧ (bV ed pt (lM [] (dS (ts.take k))) es c) ∧ (k ≤ N) ∧ (n = N - k)) ?_ ?_
 ·
  apply Exists.intro;simp only[zQ,zR,zD,zE];exact ⟨0,_,_,rfl,m,hD8,Nat.zero_le _,rfl⟩
 ·
  intro n vs wr hI u;clear m;obtain ⟨k,es8,c8,rfl,m,hD8,hk,hn⟩:=hI;simp only[zu,zF,zG];refine aD fun K5 k5=>wp_region_lit (aA (cJ rfl rfl) (aG (k5 _ _ ?_)));refine aD fun K6 k6=>?_;simp only[zz];refine cO rfl (fun hc1=>?_) (fun hc1=>?_)
  ·
   obtain ⟨t,ht,_,a,rfl,hrow⟩:=hT.get (i:=k) (by omega);refine wp_skip (k6 _ _ ?_);refine aD fun K7 k7=>wp_block (aD fun K8 k8=>wp_region_lit (aA (aM bZ aU rfl rfl (by omega) (by omega) (cA (Int.toNat_natCast _))) ?_));simp only[zz];refine aJ rfl ((hrow.ext m.ext).lies eQ aU) ?_;simp only[zz];refine bC m iY rfl ?_;clear m;intro g2 u m;simp only[zz];refine aS m 0 rfl rfl rfl aU (dX rfl) rfl ?_;clear m;intro u m;simp only[zy,zx,bG,zF,zG,Nat.reduceAdd] at m;refine aG (k8 _ _ ?_);refine aD fun K9 k9=>wp_region_lit (aJ rfl ((m.b 0 rfl).full eQ aU) ?_);simp only[zz];refine aA (aB) (aG (k9 _ _ ?_));refine wp_block (wp_loop_rounds 4 (cZ (aD fun K10 k10=>wp_region_lit (aA (bT (m:=0) (n:=3) rfl rfl (by decide)) (aG (k10 _ _ ?_))))));refine aD fun K11 k11=>cK rfl (wp_skip (k11 _ _ ?_));refine aD fun K12 k12=>wp_block (aD fun K13 k13=>wp_region_lit (aA (aB) (aA (jA rfl rfl) ?_)));simp only[zz];refine bC m bP rfl ?_;clear m;intro g3 u m;refine aA (aF) ?_;simp only[zz];refine aS m 0 rfl rfl rfl aC (dX rfl) rfl ?_;clear m;intro u m;simp only[zy,zx,bG,zF,zG,Nat.reduceAdd] at m;refine aG (k13 _ _ ?_);refine gB m 13 aO (by kernel_rfl) ?_;simp only[zy];refine aL (aB) ?_;simp only[zz];refine ql rfl (fun u m=>((m.b 0 rfl).full aI aC)) ?_;simp only[zz];refine aL (aB) (aL (aQ (m:=0) (n:=1) (r:=1) rfl rfl (by decide)) (aL (dK (m:=1) (n:=3) (r:=1) rfl rfl (by decide) (by decide)) (aL (aH bL aC rfl rfl (by decide) (by decide) rfl) ?_)));simp only[zz];refine ql rfl (fun u m=>((m.b 1 rfl).lies aI aC rfl rfl)) ?_;simp only[zz,zy,Nat.zero_add,Nat.reduceAdd,Nat.reduceMul,Int.reduceToNat];refine aL (bW rfl rfl) (aL (aB) (aL (aQ (m:=0) (n:=2) (r:=2) rfl rfl (by decide)) (aL (dK (m:=2) (n:=3) (r:=2) rfl rfl (by decide) (by decide)) ?_)));simp only[zz];refine aL (aH bL aC rfl rfl (by decide) (by decide) rfl) ?_;simp only[zz];refine ql rfl (fun u m=>((m.b 1 rfl).lies aI aC rfl rfl)) ?_;simp only[zz,zy,Nat.zero_add,Nat.reduceAdd,Nat.reduceMul,Int.reduceToNat];refine dF ?_;clear m;intro u m;refine eS (ek:=ed) (en:=pt) (a:=(t.a,t.b)) (v:=t.c) m 2 rfl sE mG rfl rfl rfl hD8 ?_;clear m;intro es8 c8 u m hD';clear hD8;have hD8:=hD';clear hD';simp only[zF,zG] at m;rw [← mR] at hD8;refine aG (k12 _ _ ?_);refine wp_region_lit (aA (aQ (m:=0) (n:=1) (r:=1) rfl rfl (by decide)) (aA (aB) (aG (aT (aD fun K14 k14=>wp_region_lit (aA (bT (m:=1) (n:=3) rfl rfl (by decide)) (aG (k14 _ _ ?_))))))));refine aD fun K15 k15=>cK rfl (wp_skip (k15 _ _ ?_));refine aD fun K16 k16=>wp_block (aD fun K17 k17=>wp_region_lit (aA (aB) ?_));simp only[zz];refine aA (jB rfl rfl) ?_;simp only[zz];refine bC m bP rfl ?_;clear m;intro g4 u m;refine aA (aF) ?_;simp only[zz];refine aS m 0 rfl rfl rfl aC (dX rfl) rfl ?_;clear m;intro u m;simp only[zy,zx,bG,zF,zG,Nat.reduceAdd] at m;refine aG (k17 _ _ ?_);refine gB m 13 aO (by kernel_rfl) ?_;simp only[zy];refine aL (aB) ?_;simp only[zz];refine ql rfl (fun u m=>((m.b 0 rfl).full aI aC)) ?_;simp only[zz];refine aL (aB) (aL (aQ (m:=1) (n:=1) (r:=2) rfl rfl (by decide)) (aL (dK (m:=2) (n:=3) (r:=2) rfl rfl (by decide) (by decide)) (aL (aH bL aC rfl rfl (by decide) (by decide) rfl) ?_)));simp only[zz];refine ql rfl (fun u m=>((m.b 2 rfl).lies aI aC rfl rfl)) ?_;simp only[zz,zy,Nat.zero_add,Nat.reduceAdd,Nat.reduceMul,Int.reduceToNat];refine aL (bW rfl rfl) (aL (aB) (aL (aQ (m:=1) (n:=2) (r:=3) rfl rfl (by decide)) (aL (dK (m:=3) (n:=3) (r:=0) rfl rfl (by decide) (by decide)) ?_)));simp only[zz];refine aL (aH bL aC rfl rfl (by decide) (by decide) rfl) ?_;simp only[zz];refine ql rfl (fun u m=>((m.b 2 rfl).lies aI aC rfl rfl)) ?_;simp only[zz,zy,Nat.zero_add,Nat.reduceAdd,Nat.reduceMul,Int.reduceToNat];refine dF ?_;clear m;intro u m;refine eS (ek:=ed) (en:=pt) (a:=(t.b,t.c)) (v:=t.a) m 3 rfl sE mG rfl rfl rfl hD8 ?_;clear m;intro es8 c8 u m hD';clear hD8;have hD8:=hD';clear hD';simp only[zF,zG] at m;rw [← mR] at hD8;refine aG (k16 _ _ ?_);refine wp_region_lit (aA (aQ (m:=1) (n:=1) (r:=2) rfl rfl (by decide)) (aA (aB) (aG (aT (aD fun K18 k18=>wp_region_lit (aA (bT (m:=2) (n:=3) rfl rfl (by decide)) (aG (k18 _ _ ?_))))))));refine aD fun K19 k19=>cK rfl (wp_skip (k19 _ _ ?_));refine aD fun K20 k20=>wp_block (aD fun K21 k21=>wp_region_lit (aA (aB) ?_));simp only[zz];refine aA (jC rfl rfl) ?_;simp only[zz];refine bC m bP rfl ?_;clear m;intro g5 u m;refine aA (aF) ?_;simp only[zz];refine aS m 0 rfl rfl rfl aC (dX rfl) rfl ?_;clear m;intro u m;simp only[zy,zx,bG,zF,zG,Nat.reduceAdd] at m;refine aG (k21 _ _ ?_);refine gB m 13 aO (by kernel_rfl) ?_;simp only[zy];refine aL (aB) ?_;simp only[zz];refine ql rfl (fun u m=>((m.b 0 rfl).full aI aC)) ?_;simp only[zz];refine aL (aB) (aL (aQ (m:=2) (n:=1) (r:=3) rfl rfl (by decide)) (aL (dK (m:=3) (n:=3) (r:=0) rfl rfl (by decide) (by decide)) (aL (aH bL aC rfl rfl (by decide) (by decide) rfl) ?_)));simp only[zz];refine ql rfl (fun u m=>((m.b 3 rfl).lies aI aC rfl rfl)) ?_;simp only[zz,zy,Nat.zero_add,Nat.reduceAdd,Nat.reduceMul,Int.reduceToNat];refine aL (bW rfl rfl) (aL (aB) (aL (aQ (m:=2) (n:=2) (r:=4) rfl rfl (by decide)) (aL (dK (m:=4) (n:=3) (r:=1) rfl rfl (by decide) (by decide)) ?_)));simp only[zz];refine aL (aH bL aC rfl rfl (by decide) (by decide) rfl) ?_;simp only[zz];refine ql rfl (fun u m=>((m.b 3 rfl).lies aI aC rfl rfl)) ?_;simp only[zz,zy,Nat.zero_add,Nat.reduceAdd,Nat.reduceMul,Int.reduceToNat];refine dF ?_;clear m;intro u m;refine eS (ek:=ed) (en:=pt) (a:=(t.c,t.a)) (v:=t.b) m 4 rfl sE mG rfl rfl rfl hD8 ?_;clear m;intro es8 c8 u m hD';clear hD8;have hD8:=hD';clear hD';simp only[zF,zG] at m;rw [← mR] at hD8;refine aG (k20 _ _ ?_);refine wp_region_lit (aA (aQ (m:=2) (n:=1) (r:=3) rfl rfl (by decide)) (aA (aB) (aG (aT (aD fun K22 k22=>wp_region_lit (aA (fT (m:=3) (n:=3) rfl rfl (by decide)) (aG (k22 _ _ ?_))))))));refine aD fun K23 k23=>jM rfl (wp_exit (k7 _ _ ?_));refine wp_region_lit ?_;simp only[zz];refine aA (aQ rfl rfl (aN (by omega) (by omega))) (aA (aB) (aG ?_));simp only[zz];simp only[Exit.inBlock,Exit.then];refine ⟨N - (k + 1),_,?_,rfl,?_,?_⟩
   · omega
   · simp only[zz,zv]
   ·
    simp only[zQ,zR,zD,zE];exact ⟨k + 1,_,_,rfl,(m.sel [false,false,false,false,true]),by rw [Ed ht];simpa [List.append_assoc] using hD8,by omega,rfl⟩
  ·
   have hkN : k = N:=by omega
   rw [hkN,show ts.take N = ts from List.take_of_length_le (by rw [hT.len];exact Nat.le_refl _)] at hD8;refine wp_exit (k3 _ _ ?_);refine aD fun K24 k24=>wp_region_lit (jJ m ?_);clear m;intro q9 u m;have hD9:=bV.nil (K:=E3) (V:=P3) ed pt;refine aA (aF) (aG (k24 _ _ ?_));refine aD fun K25 k25=>aD fun K26 k26=>wp_region_lit (aA (aB) (aA (bF rfl fL rfl) ?_));simp only[zz];refine aA (aB) (aG (k26 _ _ ?_));refine wp_block ?_;simp only[zz];try simp only[Nat.zero_add,Nat.reduceAdd,Nat.reduceMul,Int.reduceToNat]
   refine bM [46] [12,13,14,15,47,48,49,50,51,52,53,54,55,56,57,58,59,60,61,62,63,64,65,66,67] (fun n vs wl=>∃ (k : Nat) (es : Array MapEntry) (c : Nat),vs = [.int .i64 (k:Int)] ∧ bR w wl [mI q9 es c,mI q8 es8 c8] ∧ (bV ed pt (lM [] (vW ts (rim.take k))) es c) ∧ (k ≤ M) ∧ (n = M - k)) ?_ ?_
   ·
    apply Exists.intro;simp only[zQ,zR,zD,zE];exact ⟨0,_,_,rfl,m,hD9,Nat.zero_le _,rfl⟩
   ·
    intro n vs wr hI u;clear m;obtain ⟨k,es9,c9,rfl,m,hD9,hk,hn⟩:=hI;simp only[zu,zF,zG];refine aD fun K27 k27=>wp_region_lit (aA (cJ rfl rfl) (aG (k27 _ _ ?_)));refine aD fun K28 k28=>?_;simp only[zz];refine cO rfl (fun hc3=>?_) (fun hc3=>?_)
    ·
     obtain ⟨e,he,a,rfl,hrow2⟩:=hL.get (i:=k) (by omega);have hre:=hrim e (List.mem_of_getElem? he);refine wp_skip (k28 _ _ ?_);refine aD fun K29 k29=>wp_block (aD fun K30 k30=>wp_region_lit (aA (aM fL cE rfl rfl (by omega) (by omega) (cA (Int.toNat_natCast _))) ?_));simp only[zz];refine aJ rfl (((hrow2.ext m.ext)).lies jV cE) ?_;simp only[zz];refine bC m rU rfl ?_;clear m;intro g3 u m;simp only[zz];refine aS m 0 rfl rfl rfl cE (dX rfl) rfl ?_;clear m;intro u m;simp only[zy,zx,bG,zF,zG,Nat.reduceAdd] at m;refine aG (k30 _ _ ?_);refine aD fun K31 k31=>wp_region_lit (aA (aH jH aC rfl rfl (by decide) (by decide) rfl) ?_);simp only[zz];refine aJ rfl ((m.b 0 rfl).lies aI aC rfl rfl) ?_;simp only[zz,zy,Nat.zero_add,Nat.reduceAdd,Nat.reduceMul,Int.reduceToNat];refine bC m bP rfl ?_;clear m;intro g4 u m;simp only[zz];refine aS m 0 rfl rfl rfl aC (dX rfl) rfl ?_;clear m;intro u m;simp only[zy,zx,bG,zF,zG,Nat.reduceAdd] at m;refine aG (k31 _ _ ?_);refine aD fun K32 k32=>wp_block ?_;try simp only[Nat.zero_add,Nat.reduceAdd,Nat.reduceMul,Int.reduceToNat]
     refine bM [] [14,15,52,53,54,55,56,57,58,59,60,61,62,63] (fun n vs wl=>∃ (i : Nat) (z : P3),vs = [] ∧ bR w wl [bI g4 (wF z) 48,bI g3 (bJ e) 57,mI q9 es9 c9,mI q8 es8 c8] ∧ (kM ts e.1 i e.2 = some z) ∧ (i ≤ ts.length) ∧ (n = ts.length + 1 - i)) ?_ ?_
     ·
      apply Exists.intro;simp only[zQ,zR,zD,zE];exact ⟨0,e.2,trivial,m,rfl,Nat.zero_le _,rfl⟩
     ·
      intro n vs wr hI u;clear m;obtain ⟨i,z,rfl,m,hit,hil,hn4⟩:=hI;simp only[zu,zF,zG];refine wp_block (aD fun K33 k33=>wp_region_lit (aA (aB) (aA (aH jH aC rfl rfl (by decide) (by decide) rfl) ?_)));simp only[zz];refine aJ rfl ((m.b 1 rfl).lies aI aC rfl rfl) ?_;simp only[zz,zy,Nat.zero_add,Nat.reduceAdd,Nat.reduceMul,Int.reduceToNat];refine aJ rfl ((m.b 0 rfl).full aI aC) ?_;simp only[zz];refine aA (bW rfl rfl) ?_;simp only[zz];refine eL (qQ (ek:=ed) (en:=pt) (k:=(e.1,z)) (v0:=⟨0,0,0⟩) sE bP mG rfl rfl (m.p 3 rfl) hD8) ?_;simp only[zz];refine aA (aB) (aA (aZ rfl rfl) (aA (aZ rfl rfl) ?_));simp only[zz];refine bC m bP rfl ?_;clear m;intro g5 u m;simp only[zz];refine aS m 0 rfl rfl rfl aC (dX rfl) rfl ?_;clear m;intro u m;simp only[zy,zx,bG,zF,zG,Nat.reduceAdd] at m;refine aA (aF) (aG (k33 _ _ ?_));refine aD fun K34 k34=>aD fun K35 k35=>wp_region_lit (aA (aB) (aA (gX rfl) (aG (k35 _ _ ?_))));simp only[zz];refine eU rfl (fun hc4=>?_) (fun hc4=>?_)
      ·
       have hyn : bD ts e.1 z = none:=by rw [← qS hnd];simpa using hc4
       have hend:=Qd i ts.length e.2 z hil hit hyn;refine wp_exit (k32 _ _ ?_);refine wp_region_lit (aA (aB) ?_);simp only[zz];refine aJ rfl ((m.b 2 rfl).full jV cE) ?_;simp only[zz];refine aJ rfl ((m.b 1 rfl).full aI aC) ?_;simp only[zz];refine eS (ek:=ed) (en:=pt) (a:=e) (v:=z) m 3 rfl sE mG rfl rfl rfl hD9 ?_;clear m;intro es9 c9 u m hD';clear hD9;have hD9:=hD';clear hD';simp only[zF,zG] at m;refine aG (k29 _ _ ?_);refine wp_region_lit (aA (aQ rfl rfl (aN (by omega) (by omega))) (aA (aB) (aG ?_)));simp only[zz];simp only[Exit.inBlock,Exit.then];refine ⟨M - (k + 1),_,?_,rfl,?_,?_⟩
       · omega
       · simp only[zz,zv]
       ·
        simp only[zQ,zR,zD,zE];exact ⟨k + 1,_,_,rfl,(m.sel [false,false,false,true,true]),by rw [Wc he,mR,hend];exact hD9,by omega,rfl⟩
      ·
       obtain ⟨y,hy⟩ : ∃ y,cD (lM [] (dS ts)) (e.1,z) = some y:=by
        cases h : cD (lM [] (dS ts)) (e.1,z) with
        | some y=>exact ⟨y,rfl⟩
        | none=>rw [h] at hc4;cases hc4
       have hya : bD ts e.1 z = some y:=by rw [← qS hnd];exact hy
       have hit2 : kM ts e.1 (i + 1) e.2 = some y:=by rw [kN,hit];exact hya
       have hil2:=Jw hdg hnd hre hit2;rw [hy] at m;simp only[Option.getD_some] at m;refine wp_skip (k34 _ _ ?_);refine wp_region_lit (aJ rfl ((m.b 0 rfl).full aI aC) ?_);simp only[zz];refine aS m 1 rfl rfl rfl aC (dX rfl) rfl ?_;clear m;intro u m;simp only[zy,zx,bG,zF,zG,Nat.reduceAdd] at m;refine aG ?_;simp only[Exit.inBlock,Exit.then];refine ⟨ts.length + 1 - (i + 1),_,?_,rfl,?_,?_⟩
       · omega
       · simp only[zz,zv]
       ·
        simp only[zQ,zR,zD,zE];exact ⟨i + 1,y,trivial,(m.sel [false,true,true,true,true]),hit2,hil2,rfl⟩
    ·
     have hkN : k = M:=by omega
     rw [hkN,show rim.take M = rim from List.take_of_length_le (by rw [hL.len];exact Nat.le_refl _)] at hD9;refine wp_exit (k25 _ _ ?_);refine aD fun K36 k36=>wp_region_lit (aA (aB) (aA (aF) (aG (k36 _ _ ?_))));refine wp_ret ?_;simp only[zz];try simp only[Exit.inBlock,Exit.then,if_true]
     refine bS rfl rfl ?_;try simp only[zD,zE]
     exact ⟨_,rfl,m.ext,_,_,_,rfl,m.sel [true,false],hD9⟩
end Go.Proofs.YtfohfflkhpfjeaaGreatDoor
namespace Go.Proofs.YtfohfflkhpfjeaaGreatDoor
open Go.Proofs.Tryz
open Go.RowKit Go.Lith
set_option maxRecDepth 100000
attribute [local irreducible] wpList wpQuiet dC cS cR Code.wp
theorem aar {x y : E3} : (x.1.x = y.1.x ∧ x.1.y = y.1.y ∧ x.1.z = y.1.z ∧ x.2.x = y.2.x ∧ x.2.y = y.2.y ∧ x.2.z = y.2.z) ↔ x = y :=
 ⟨fun h=>Prod.ext (P3.eq h.1 h.2.1 h.2.2.1) (P3.eq h.2.2.2.1 h.2.2.2.2.1 h.2.2.2.2.2),fun h=>by rw [h];exact ⟨rfl,rfl,rfl,rfl,rfl,rfl⟩⟩
theorem Wd {K V : Type} [DecidableEq K] {D1 D2 : List (K × V)} (hk : D1.map (·.1) = D2.map (·.1)) (hn : (D1.map (·.1)).Nodup) (h : ∀ x ∈ D1,cD D2 x.1 = some x.2) : D1 = D2:=by
 apply List.ext_getElem?;intro i;have e:=congrArg (·[i]?) hk;simp only[List.getElem?_map] at e;cases h1 : D1[i]? with
 | none =>
  rw [h1] at e;cases h2 : D2[i]? with
  | none=>rfl
  | some y=>rw [h2] at e;cases e
 | some x =>
  rw [h1] at e;cases h2 : D2[i]? with
  | none=>rw [h2] at e;cases e
  | some y =>
   rw [h2] at e;have e' : x.1 = y.1:=Option.some.inj e;have hm:=h x (List.mem_of_getElem? h1);rw [e',lJ (v:=y.2) (by rw [← hk];exact hn) (List.mem_of_getElem? h2)] at hm;exact congrArg some (Prod.ext e' (Option.some.inj hm).symm)
theorem We {es fs : List E3} {N cap M cap2 : Nat} {A A2 : Option Addr} (w : World) (hL : sR bJ 6 w A N es) (hL2 : sR bJ 6 w A2 M fs) (hN : N ≤ 100000000) : eI prog 67 [.slice A N cap,.slice A2 M cap2] w (fun v _=>v = .bool (decide (es = fs))):=by
 refine ⟨afp,?_⟩;have m:=bR.refl w;have e1:=hL.len;have e2:=hL2.len
 go_enter func67,ntmps67
 refine aD fun K1 k1=>wp_region_lit (aA (aF) (aG (k1 _ _ ?_)));refine aD fun K2 k2=>aD fun K3 k3=>wp_region_lit (aA (aB) (aA (bF rfl fL rfl) (aA (aB) ?_)));simp only[zz];refine aA (bF rfl fL rfl) (aA (nS rfl rfl) (aG (k3 _ _ ?_)));simp only[zz];refine cO rfl (fun hc1=>?_) (fun hc1=>?_)
 ·
  have hne : ¬ es = fs:=fun h=>hc1 (by rw [← e1,← e2,h]);refine aD fun K4 k4=>wp_region_lit (aA (aF) (aG (k4 _ _ ?_)));refine wp_ret ?_;simp only[zz];try simp only[Exit.inBlock,Exit.then,if_true]
  refine bS rfl rfl ?_;try simp only[zD,zE]
  exact ⟨_,rfl,m.ext,by rw [decide_eq_false hne]⟩
 ·
  refine wp_skip (k2 _ _ ?_);refine aD fun K5 k5=>aD fun K6 k6=>wp_region_lit (aA (aB) (aA (bF rfl fL rfl) (aA (aB) (aG (k6 _ _ ?_)))));refine wp_block ?_;simp only[zz];try simp only[Nat.zero_add,Nat.reduceAdd,Nat.reduceMul,Int.reduceToNat]
  refine bM [13] [4,5,14,15,16,17,18,19,20,21,22,23,24,25] (fun n vs wl=>∃ (k : Nat),vs = [.int .i64 (k:Int)] ∧ bR w wl [] ∧ (es.take k = fs.take k) ∧ (k ≤ N) ∧ (n = N - k)) ?_ ?_
  ·
   apply Exists.intro;simp only[zQ,zR,zD,zE];exact ⟨0,rfl,m,rfl,Nat.zero_le _,rfl⟩
  ·
   intro n vs wr hI u;clear m;obtain ⟨k,rfl,m,heq,hk,hn⟩:=hI;simp only[zu,zF,zG];refine aD fun K7 k7=>wp_region_lit (aA (cJ rfl rfl) (aG (k7 _ _ ?_)));refine aD fun K8 k8=>?_;simp only[zz];refine cO rfl (fun hc2=>?_) (fun hc2=>?_)
   ·
    obtain ⟨x,hx,a,rfl,hrow⟩:=hL.get (i:=k) (by omega);obtain ⟨y,hy,a2,rfl,hrow2⟩:=hL2.get (i:=k) (by omega);refine wp_skip (k8 _ _ ?_);refine aD fun K9 k9=>wp_block (aD fun K10 k10=>wp_region_lit (aA (aB) (aA (aF) (aG (k10 _ _ ?_)))));refine aD fun K11 k11=>?_;simp only[zz];refine mq m aO (by kernel_rfl) (aL (aB) (aL (aB) ?_));simp only[zz];refine aL (aM fL cE rfl rfl (by omega) (by omega) (cA (Int.toNat_natCast _))) ?_;simp only[zz];refine ql rfl (fun u m=>((hrow.ext m.ext).lies jV cE)) ?_;simp only[zz];refine aL (aB) (aL (aB) ?_);simp only[zz];refine aL (aM fL cE rfl rfl (by omega) (by omega) (cA (Int.toNat_natCast _))) ?_;simp only[zz];refine ql rfl (fun u m=>((hrow2.ext m.ext).lies jV cE)) ?_;simp only[zz];refine aL (Vd rfl rfl) (dF ?_);clear m;intro u m;refine k11 _ _ ?_;simp only[zz];refine cO rfl (fun hc3=>?_) (fun hc3=>?_)
    ·
     have hne : ¬ es = fs:=fun h=>hc3 (aar.2 (by subst h;exact Option.some.inj (hx.symm.trans hy)));refine aD fun K12 k12=>wp_region_lit (aA (aF) (aG (k12 _ _ ?_)));refine wp_ret ?_;simp only[zz];try simp only[Exit.inBlock,Exit.then,if_true]
     refine bS rfl rfl ?_;try simp only[zD,zE]
     exact ⟨_,rfl,m.ext,by rw [decide_eq_false hne]⟩
    ·
     obtain rfl:=aar.1 (Classical.not_not.1 hc3);refine wp_skip (k9 _ _ ?_);refine wp_region_lit (aA (aQ rfl rfl (aN (by omega) (by omega))) (aA (aB) (aG ?_)));simp only[zz];simp only[Exit.inBlock,Exit.then];refine ⟨N - (k + 1),_,?_,rfl,?_,?_⟩
     · omega
     · simp only[zz,zv]
     ·
      simp only[zQ,zR,zD,zE];exact ⟨k + 1,rfl,m,by rw [dN hx,dN hy,heq],by omega,rfl⟩
   ·
    have hall : es = fs:=by rw [List.take_of_length_le (by omega),List.take_of_length_le (by omega)] at heq;exact heq
    refine wp_exit (k5 _ _ ?_);refine aD fun K13 k13=>wp_region_lit (aA (aF) (aG (k13 _ _ ?_)));refine wp_ret ?_;simp only[zz];try simp only[Exit.inBlock,Exit.then,if_true]
    refine bS rfl rfl ?_;try simp only[zD,zE]
    exact ⟨_,rfl,m.ext,by rw [decide_eq_true hall]⟩
theorem abZ {g c g2 c2 : Nat} {es es2 : Array MapEntry} {D1 D2 : List (E3 × P3)} (w : World) (hM : jO w g es c) (hD : bV ed pt D1 es c) (hM2 : jO w g2 es2 c2) (hD2 : bV ed pt D2 es2 c2) (hk : D1.map (·.1) = D2.map (·.1)) (hnk : (D1.map (·.1)).Nodup) : eI prog 68 [.map (some g),.map (some g2)] w (fun v _=>v = .bool (decide (D1 = D2))):=by
 refine ⟨afq,?_⟩;have m:=bR.refl w;have hl : D1.length = D2.length:=by simpa using congrArg List.length hk
 go_enter func68,ntmps68
 refine aD fun K1 k1=>wp_region_lit (aA (aF) (aG (k1 _ _ ?_)));refine aD fun K2 k2=>aD fun K3 k3=>wp_region_lit (aA (aB) ?_);simp only[zz];refine eL (Zp rfl sE rfl (hM.ext m.ext) hD) (aA (aB) ?_);simp only[zz];refine eL (Zp rfl sE rfl (hM2.ext m.ext) hD2) (aA (nS rfl rfl) (aG (k3 _ _ ?_)));simp only[zz];refine cO rfl (fun hc1=>?_) (fun hc1=>?_)
 ·
  exact absurd (congrArg (Nat.cast (R:=Int)) hl) hc1
 ·
  refine wp_skip (k2 _ _ ?_);refine aD fun K4 k4=>aD fun K5 k5=>wp_region_lit (aA (aB) ?_);simp only[zz];refine wK m sE rfl (hM.ext m.ext) ?_;clear m;intro r1 u m;refine aG (k5 _ _ ?_);refine wp_block ?_;simp only[zz];try simp only[Nat.zero_add,Nat.reduceAdd,Nat.reduceMul,Int.reduceToNat]
  refine bM [] [4,5,6,7,8,16,17,18,19,20,21,22,23,24,25,26,27,28,29,30,31,32,33] (fun n vs wl=>∃ (dn rs : List (E3 × P3)) (sn : Array Nat),vs = [] ∧ bR w wl [iI r1 g c sn] ∧ (kZ ed pt D1 es sn dn rs) ∧ (∀ x ∈ dn,cD D2 x.1 = some x.2) ∧ (n = rs.length)) ?_ ?_
  ·
   apply Exists.intro;simp only[zQ,zR,zD,zE];exact ⟨[],D1,#[],trivial,m,kZ.start hD,fun _ h=>(by cases h),rfl⟩
  ·
   intro n vs wr hI u;clear m;obtain ⟨dn,rs,sn,rfl,m,hT,hall,hn⟩:=hI;simp only[zu,zF,zG];refine aD fun K6 k6=>wp_region_lit (Du m 0 rfl rfl (hM.ext m.ext) hD hT ?_);clear m;intro bb kk vv sn u m hN;simp only[zF,zG] at m;refine aA (rW rfl) (aG (k6 _ _ ?_));refine aD fun K7 k7=>?_;simp only[zz];refine eU rfl (fun hc2=>?_) (fun hc2=>?_)
   ·
    obtain ⟨kp,kb,rs2,hp,hT2⟩:=Dx hc2 hN;have hin : (kp,kb) ∈ D1:=hT2.1.mem_iff.1 (by simp);refine wp_skip (k7 _ _ ?_);refine wp_block (aD fun K8 k8=>wp_region_lit (eL (rX rfl (m.r 0 rfl) (hM.ext m.ext) hD hT2) ?_));simp only[zz];refine aA (aZ rfl rfl) (aA (aZ rfl rfl) ?_);simp only[zz];refine bC m rU rfl ?_;clear m;intro g2 u m;simp only[zz];refine bC m bP rfl ?_;clear m;intro g3 u m;simp only[zz];refine aS m 1 rfl rfl rfl cE (dX rfl) rfl ?_;clear m;intro u m;simp only[zy,zx,bG,zF,zG,Nat.reduceAdd] at m;refine aS m 0 rfl rfl rfl aC (dX rfl) rfl ?_;clear m;intro u m;simp only[zy,zx,bG,zF,zG,Nat.reduceAdd] at m;refine aG (k8 _ _ ?_);refine aD fun K9 k9=>wp_region_lit (aA (aB) ?_);simp only[zz];refine aJ rfl ((m.b 1 rfl).full jV cE) ?_;simp only[zz];refine eL (qQ (ek:=ed) (en:=pt) (k:=kp) (v0:=⟨0,0,0⟩) sE bP mG rfl rfl (hM2.ext m.ext) hD2) ?_;simp only[zz];refine aA (aB) (aA (aZ rfl rfl) (aA (aZ rfl rfl) ?_));simp only[zz];refine bC m bP rfl ?_;clear m;intro g4 u m;simp only[zz];refine aS m 0 rfl rfl rfl aC (dX rfl) rfl ?_;clear m;intro u m;simp only[zy,zx,bG,zF,zG,Nat.reduceAdd] at m;refine aA (aF) (aG (k9 _ _ ?_));refine aD fun K10 k10=>wp_region_lit (aA (aB) (aA (gX rfl) (aA (aB) ?_)));simp only[zz];refine mU rfl (fun hb=>cF rfl ((m.b 1 rfl).full aI aC)) (mU rfl (fun hb=>cF rfl ((m.b 0 rfl).full aI aC)) (gJ rfl (fun hb=>iD (bH hb rfl) (bH hb rfl)) (aA (gU rfl rfl rfl) (aG (k10 _ _ ?_)))));simp only[zz];refine eU rfl (fun hc3=>?_) (fun hc3=>?_)
    ·
     have hne : ¬ D1 = D2:=fun h=>by rw [← h,lJ hnk hin] at hc3;simp at hc3
     refine aD fun K11 k11=>wp_region_lit (aA (aF) (aG (k11 _ _ ?_)));refine wp_ret ?_;simp only[zz];try simp only[Exit.inBlock,Exit.then,if_true]
     refine bS rfl rfl ?_;try simp only[zD,zE]
     exact ⟨_,rfl,m.ext,by rw [decide_eq_false hne]⟩
    ·
     have hv : cD D2 kp = some kb:=by
      cases h : cD D2 kp with
      | none=>rw [h] at hc3;cases hc3
      | some y =>
       rw [h] at hc3;simp only[Option.isSome_some,Bool.not_true,Bool.false_or,Option.getD_some,decide_eq_false_iff_not,Classical.not_not] at hc3;rw [iX.1 hc3]
     refine wp_skip ?_;simp only[Exit.inBlock,Exit.then];refine ⟨rs2.length,_,?_,rfl,?_,?_⟩
     · rw [hn,hp.length_eq];exact Nat.lt_succ_self _
     · simp only[zz,zv]
     ·
      simp only[zQ,zR,zD,zE];exact ⟨dn ++ [(kp,kb)],rs2,_,trivial,(m.sel [false,false,false,true]),hT2,fun x hx=>(List.mem_append.1 hx).elim (hall x) fun hx=>by obtain rfl:=List.mem_singleton.1 hx;exact hv,rfl⟩
   ·
    obtain rfl:=Dw hc2 hN;have hsm : D1 = D2:=Wd hk hnk fun x hx=>hall x (hT.done.mem_iff.2 hx);refine wp_exit (k4 _ _ ?_);refine aD fun K12 k12=>wp_region_lit (aA (aF) (aG (k12 _ _ ?_)));refine wp_ret ?_;simp only[zz];try simp only[Exit.inBlock,Exit.then,if_true]
    refine bS rfl rfl ?_;try simp only[zD,zE]
    exact ⟨_,rfl,m.ext,by rw [decide_eq_true hsm]⟩
theorem ab0 {F G H R J : Value} {g1 q c : Nat} {es : Array MapEntry} {D : List (P3 × P3)} {p : P3} (w : World) (hB1 : fX w g1 [F,G,H,R,.map (some q),J] 73) (hM : jO w q es c) (hD : bV pt pt D es c) : eI prog 75 [.pointer (some ⟨g1,0,none⟩),pt p] w (fun v _=>v = pt ((cD D p).getD p)):=by
 refine ⟨afx,?_⟩;have m:=bR.refl w
 go_enter func75,ntmps75
 refine aD fun K1 k1=>wp_region_lit (eY m rfl ?_);clear m;intro g2 u m;simp only[zz];refine bC m bP rfl ?_;clear m;intro g3 u m;refine aG (k1 _ _ ?_);refine aD fun K2 k2=>aD fun K3 k3=>?_;simp only[zz];apply afS m (T1:=48)
 ·
  refine Rr m [true,true] (.take 0 (.take 1 (.take 2 (.take 3 (.take 4 (.two 5 (.take 6 (.take 7 (.take 8 (.one 9 (.one 10 (.take 11 .nil)))))) 9 (.one 5 (.take 6 (.take 7 (.take 8 (.one 10 (.take 11 .nil)))))))))))) aO (by kernel_rfl) (fun _ _ _ _ _ h=>by cases h.1) ?_;intro u m;refine eV (by simp only[zw];rfl) (bO (aB) (eF (eV (by simp only[zw];rfl) (bO (cC rfl) (eF (eV (by simp only[zw];rfl) (bO (aK (c:=0) gY rfl xO rfl rfl) (eF (eV (by simp only[zw];rfl) ?_)))))))));simp only[zz];refine dU rfl (fun u m=>((hB1.ext m.ext).lies1 Po rfl)) ?_;simp only[zz];refine eF (eV (by simp only[zw];rfl) (dU rfl (fun u m=>((m.b 1 rfl).full aI aC)) ?_));simp only[zz];refine eF ?_;refine Rp (by simp only[zw];rfl) (by simp only[zw];rfl) ?_ ?_
  ·
   refine eL (qQ (ek:=pt) (en:=pt) (k:=p) (v0:=⟨0,0,0⟩) underlying71 bP fW rfl rfl (hM.ext m.ext) hD) ?_;simp only[zz];refine aG (⟨m,?_⟩);refine eV (by simp only[zw];rfl) (bO (aB) (eF (eV (by simp only[zw];rfl) (bO (aZ rfl rfl) (eF (eV (by simp only[zw];rfl) (bO (aZ rfl rfl) (eF (nT (by simp only[zw];rfl) ?_)))))))));simp only[zz];refine bC m bP rfl ?_;clear m;intro g4 u m;refine aG (⟨m.sel [false,true,true],?_⟩);refine nT (by simp only[zw];rfl) ?_;simp only[zz];refine aS m 0 rfl rfl rfl aC (dX rfl) rfl ?_;clear m;intro u m;simp only[zy,zx,bG,zF,zG,Nat.reduceAdd] at m;refine aG (⟨m.sel [false,true,true],?_⟩);refine eV (by simp only[zw];rfl) (bO (aF) (eF (Ar ?_)));exact ⟨rfl,g4,rfl,m⟩
  ·
   refine bC m bP rfl ?_;clear m;intro g4 u m;refine aG (⟨m.sel [false,true,true],?_⟩);refine nT (by simp only[zw];rfl) ?_;simp only[zz];refine eL (qQ (ek:=pt) (en:=pt) (k:=p) (v0:=⟨0,0,0⟩) underlying71 bP fW rfl rfl (hM.ext m.ext) hD) ?_;simp only[zz];refine aG (⟨m.sel [false,true,true],?_⟩);refine eV (by simp only[zw];rfl) (bO (aB) (eF (eV (by simp only[zw];rfl) (bO (aZ rfl rfl) (eF (eV (by simp only[zw];rfl) (bO (aZ rfl rfl) (eF (nT (by simp only[zw];rfl) ?_)))))))));simp only[zz];refine aS m 0 rfl rfl rfl aC (dX rfl) rfl ?_;clear m;intro u m;simp only[zy,zx,bG,zF,zG,Nat.reduceAdd] at m;refine aG (⟨m.sel [false,true,true],?_⟩);refine eV (by simp only[zw];rfl) (bO (aF) (eF (Ar ?_)));exact ⟨rfl,g4,rfl,m⟩
 intro g4 u m;try dsimp only
 refine k3 _ _ ?_;refine aD fun K4 k4=>wp_region_lit (aA (aB) (aG (k4 _ _ ?_)));simp only[zz];refine eU rfl (fun hc1=>?_) (fun hc1=>?_)
 ·
  obtain ⟨y,hy⟩ : ∃ y,cD D p = some y:=by
   cases h : cD D p with
   | some y=>exact ⟨y,rfl⟩
   | none=>rw [h] at hc1;cases hc1
  refine aD fun K5 k5=>wp_region_lit (aJ rfl ((m.b 0 rfl).full aI aC) ?_);simp only[zz];refine aS m 1 rfl rfl rfl aC (dX rfl) rfl ?_;clear m;intro u m;simp only[zy,zx,bG,zF,zG,Nat.reduceAdd] at m;refine aG (k5 _ _ ?_);refine wp_ret ?_;try simp only[Exit.inBlock,Exit.then,if_true]
  refine bS rfl ⟨_,rfl,((m.b 1 rfl).full aI aC)⟩ ?_;try simp only[zD,zE]
  exact ⟨_,rfl,m.ext,by rw [hy];rfl⟩
 ·
  have hy : cD D p = none:=by
   cases h : cD D p with
   | none=>rfl
   | some y=>rw [h] at hc1;cases hc1
  refine wp_skip (k2 _ _ ?_);refine aD fun K6 k6=>wp_region_lit (aJ rfl ((m.b 2 rfl).full aI aC) ?_);simp only[zz];refine aS m 1 rfl rfl rfl aC (dX rfl) rfl ?_;clear m;intro u m;simp only[zy,zx,bG,zF,zG,Nat.reduceAdd] at m;refine aG (k6 _ _ ?_);refine wp_ret ?_;try simp only[Exit.inBlock,Exit.then,if_true]
  refine bS rfl ⟨_,rfl,((m.b 1 rfl).full aI aC)⟩ ?_;try simp only[zD,zE]
  exact ⟨_,rfl,m.ext,by rw [hy];rfl⟩
end Go.Proofs.YtfohfflkhpfjeaaGreatDoor
namespace Go.Lith
open Go.RowKit
theorem afU {d k : Nat} (hd : d < 4294967296) (hk : k < 2) : IntKind.u64.wrap ((d : Int) * 2 ^ (min (32 * (k : Int)).toNat IntKind.u64.bits)) = ((d * 4294967296 ^ k : Nat) : Int):=by
 obtain rfl | rfl : k = 0 ∨ k = 1:=by omega
 · rw [fO];simp;omega
 · rw [fO]
   simp only[IntKind.bits];show ((d : Int) * 2 ^ 32) % 18446744073709551616 = _
   omega
theorem agr {s d k : Nat} (hs : s < 4294967296 ^ k) (hd : d < 4294967296) (hk : k < 2) : IntKind.u64.wrap ((BitVec.ofInt IntKind.u64.bits (s : Int) ||| BitVec.ofInt IntKind.u64.bits ((d * 4294967296 ^ k : Nat) : Int)).toNat : Int) = ((s + d * 4294967296 ^ k : Nat) : Int):=by
 rw [fO];show (((BitVec.ofInt 64 (s : Int) ||| BitVec.ofInt 64 ((d * 4294967296 ^ k : Nat) : Int)).toNat : Nat) : Int) % 18446744073709551616 = _
 rw [BitVec.toNat_or,BitVec.toNat_ofInt,BitVec.toNat_ofInt];obtain rfl | rfl : k = 0 ∨ k = 1:=by omega
 · obtain rfl : s = 0:=by omega
   have h1 : (((0 : Nat) : Int) % ((2 ^ 64 : Nat) : Int)).toNat = 0:=by simp
   have h2 : (((d * 4294967296 ^ 0 : Nat) : Int) % ((2 ^ 64 : Nat) : Int)).toNat = d:=by omega
   rw [h1,h2,Nat.zero_or];omega
 · have hs' : s < 2 ^ 32:=by omega
   have h1 : (((s : Nat) : Int) % ((2 ^ 64 : Nat) : Int)).toNat = s:=by omega
   have h2 : (((d * 4294967296 ^ 1 : Nat) : Int) % ((2 ^ 64 : Nat) : Int)).toNat = d <<< 32:=by rw [Nat.shiftLeft_eq];omega
   rw [h1,h2,Nat.or_comm,← Nat.shiftLeft_add_eq_or_of_lt hs' d,Nat.shiftLeft_eq];omega
theorem aas {a : Int} {X : Nat} (h : X = a.natAbs) (hl : 2 < (digs 4294967296 X).length) : ¬ nJ a:=fun k=>by
 have h1 : X < 4294967296 ^ 2:=by have:=k.natAbs;rw [← h] at this;omega
 have h2:=dY (B:=4294967296) (by omega) h1;omega
end Go.Lith
namespace Go.Proofs.YtfohfflkhpfjeaaGreatDoor
open Go.Proofs.Tryz
open Go.RowKit Go.Lith
set_option maxRecDepth 100000
attribute [local irreducible] wpList wpQuiet dC Code.wp
theorem Et {l : List UInt8} (hl : l.length ≤ 1000000000000000) : kV prog 144 [.string (lF l),.int .u8 0] (.string (lF (oO l))):=by
 intro w;refine ⟨adS,?_⟩;have hX:=dD.refl w
 go_enter func144,ntmps144
 refine aD (fun K1 hK1=>wp_region_lit (aA (aF) ?_));simp only[zz];refine aG (hK1 _ _ ?_);refine aD (fun K2 hK2=>wp_block ?_);refine bM [0] [5,6,7,8,9,10,11,12,13,14,15] (fun n vs wl=>∃ (k : List UInt8),vs = [.string (lF k)] ∧ (dD w wl) ∧ (oO k = oO l) ∧ (k.length ≤ 1000000000000000) ∧ (n = k.length)) ?_ ?_
 ·
  apply Exists.intro;simp only[zQ,zR,zD,zE];exact ⟨l,rfl,hX,rfl,hl,rfl⟩
 ·
  intro n vs wr hI u;obtain ⟨k,rfl,hX,hk,hl,hn⟩:=hI;have hsz:=wA k;simp only[zu,zF,zG];refine aD (fun K3 hK3=>aD (fun K4 hK4=>?_));by_cases hk0 : 0 < k.length
  ·
   obtain ⟨b,hb⟩ : ∃ b,k[0]? = some b:=⟨k[0],List.getElem?_eq_getElem hk0⟩
   refine wp_region_lit (aA (aB) (aA (qD rfl sS rfl) (aA (Co rfl rfl (by omega)) ?_)));simp only[zz];refine aA (aB) ?_;simp only[zz];refine bU rfl (aA (aB) ?_);simp only[zz];refine bU rfl ?_;refine aA ((rI sS rfl rfl (by omega) (by rw [Ue];exact hb))) ?_;simp only[zz];refine bU rfl (aA (aB) ?_);simp only[zz];refine bU rfl (aA (vJ rfl rfl) (aA (gA rfl) ?_));simp only[zz];refine aG (hK4 _ _ ?_);refine cO rfl (fun hc1=>?_) (fun hc1=>?_)
   ·
    refine wp_skip ?_;refine hK3 _ _ (wp_block (wp_region_lit (aA (aB) (aA (Xd sS rfl rfl (by omega) (by omega)) (aA (aF) ?_)))));simp only[zz];refine aG ?_;rw [show (1 : Int).toNat = 1 from rfl,Ov];simp only[Exit.inBlock,Exit.then];refine ⟨(k.drop 1).length,_,?_,rfl,?_,?_⟩
    · rw [List.length_drop];omega
    · simp only[zz,zv]
    ·
     simp only[zQ,zR,zD,zE];exact ⟨k.drop 1,rfl,hX,by rw [Ox hb (by omega)];exact hk,by rw [List.length_drop];omega,rfl⟩
   ·
    refine wp_exit ?_;refine hK2 _ _ (aD (fun K5 hK5=>wp_region_lit (aA (aB) (aA (aF) ?_))));simp only[zz];refine aG (hK5 _ _ ?_);refine wp_ret ?_;try simp only[Exit.inBlock,Exit.then]
    refine bS rfl rfl ?_;try simp only[zD,zE]
    exact ⟨_,rfl,hX,by rw [← hk,Oy hb (by omega)]⟩
  ·
   obtain rfl : k = []:=List.eq_nil_of_length_eq_zero (by omega);refine wp_region_lit (aA (aB) (aA (qD rfl sS rfl) (aA (yP rfl rfl (by omega)) ?_)));simp only[zz];refine aA (aB) ?_;simp only[zz];refine cU rfl ?_;simp only[zz];refine cU rfl ?_;simp only[zz];refine cU rfl ?_;simp only[zz];refine cU rfl ?_;simp only[zz];refine aA (iT rfl) ?_;simp only[zz];refine aG (hK4 _ _ ?_);refine jM rfl (wp_exit ?_);refine hK2 _ _ (aD (fun K6 hK6=>wp_region_lit (aA (aB) (aA (aF) ?_))));simp only[zz];refine aG (hK6 _ _ ?_);refine wp_ret ?_;try simp only[Exit.inBlock,Exit.then]
   refine bS rfl rfl ?_;try simp only[zD,zE]
   exact ⟨_,rfl,hX,by rw [← hk,Uf]⟩
theorem Qr {l : List UInt8} (hl : l.length ≤ 1000000000000000) : kV prog 138 [.string (lF l),.string ⟨#[0]⟩] (.string (lF (oO l))):=by
 intro w;refine ⟨adQ,?_⟩;have hX:=dD.refl w;have hsz:=wA l
 go_enter func138,ntmps138
 refine aD (fun K1 hK1=>wp_region_lit (aA (aF) ?_));simp only[zz];refine aG (hK1 _ _ ?_);refine aD (fun K2 hK2=>aD (fun K3 hK3=>?_));by_cases hk0 : l = []
 ·
  subst hk0;refine wp_region_lit (aA (aB) (aA (acZ (Ot sS rfl rfl) (show _ = Value.bool true by simp [lF])) (aA (aB) ?_)));simp only[zz];refine lP rfl ?_;simp only[zz];refine lP rfl ?_;simp only[zz];refine aA (gA rfl) ?_;simp only[zz];refine aG (hK3 _ _ ?_);refine cK rfl (aD (fun K4 hK4=>wp_region_lit (aA (aB) (aA (aF) ?_))));simp only[zz];refine aG (hK4 _ _ ?_);refine wp_ret ?_;try simp only[Exit.inBlock,Exit.then]
  refine bS rfl rfl ?_;try simp only[zD,zE]
  exact ⟨_,rfl,hX,rfl⟩
 ·
  refine wp_region_lit (aA (aB) (aA (acZ (Ot sS rfl rfl) (show _ = Value.bool false by simp only[Ld,hk0,decide_false])) (aA (aB) ?_)));simp only[zz];refine bU rfl (aA (aB) ?_);simp only[zz];refine bU rfl (aA (acZ (Ot sS rfl rfl) (show _ = Value.bool false by simp)) (aA (iT rfl) ?_));simp only[zz];refine aG (hK3 _ _ ?_);refine jM rfl (wp_skip ?_);refine hK2 _ _ (aD (fun K5 hK5=>aD (fun K6 hK6=>wp_region_lit (aA (aB) (aA (qD rfl sS rfl) (aA (pM rfl rfl rfl) ?_))))));simp only[zz];refine aA (aB) ?_;simp only[zz];refine bU rfl (aA (aB) ?_);simp only[zz];refine bU rfl (aA ((rI (b:=0) sS rfl rfl (by omega) rfl)) ?_);simp only[zz];refine bU rfl (aA (bT rfl rfl (by decide)) (aA (gA rfl) ?_));simp only[zz];refine aG (hK6 _ _ ?_);refine cK rfl (aD (fun K7 hK7=>wp_region_lit (aA (aB) (aA (aB) ?_))));simp only[zz];refine aA ((rI (b:=0) sS rfl rfl (by omega) rfl)) ?_;simp only[zz];refine Ip rfl rfl (Et hl) ?_;intro w1 hE;replace hX:=hX.trans hE;clear hE;simp only[zz];refine aA (aF) ?_;simp only[zz];refine aG (hK7 _ _ ?_);refine wp_ret ?_;try simp only[Exit.inBlock,Exit.then]
  refine bS rfl rfl ?_;try simp only[zD,zE]
  exact ⟨_,rfl,hX,rfl⟩
end Go.Proofs.YtfohfflkhpfjeaaGreatDoor
