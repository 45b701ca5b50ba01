/-
 Texts of one claim, laid together: Maps1, Surf2, Maps2, Ifc, RayO, Sh, Scene, RayK, Lat, Bag, RayA, RayR, Meas1, RefG1.
-/
import Derived.Stop.Asserts
import Derived.Test.YtimjandkmfcmiaaGreatDoorTF5
set_option maxHeartbeats 8000000
set_option linter.unusedSimpArgs false
set_option linter.unusedVariables false
set_option linter.unusedSectionVars false
namespace Go.Proofs.YtimjandkmfcmiaaGreatDoor
open Tryz
open Go.RowKit Go.Lith
abbrev Fa:=@underlying63
set_option maxRecDepth 100000
attribute [local irreducible] wpList wpQuiet eS dV eG Code.wp
theorem Yp : Dt prog 56 pt:=by
 refine Dt.agg (cs:=fun p=>#[.int .i64 p.x,.int .i64 p.y,.int .i64 p.z]) (fun _=>rfl) bZ (fun e p=>?_) (fun p q=>?_) (fun p=>?_)
 ·
  refine Yj.struct (d:=9999) bZ fun f hf=>?_;simp only[List.mem_cons,List.not_mem_nil,or_false] at hf;rcases hf with rfl | rfl | rfl <;> exact ⟨_,iH aZ rfl,Yj.int (d:=9998) jB⟩
 · exact (aaI 9998).iff ⟨fun h=>P3.eq h.1 h.2.1 h.2.2,fun h=>by subst h; exact ⟨rfl,rfl,rfl⟩⟩
 · simp [pt,Instr.sameBits]
theorem Lv {w0 w : World} {is : List It} {g c : Nat} {es : Array MapEntry} {D : List (P3 × Bool)} {p : P3} (m : cR w0 w is) (k : Nat) (hk : is[k]? = some (mI g es c)) (hD1 : kH pt Value.bool D es c) : Calls prog 100 [.map (some g),pt p].toArray w fun e w'=>∃ v i,e = .returned v ∧ cR w0 w' (is.set k i) ∧ (v = .bool (!(tK D p).getD false) ∧ ∃ es' c',i = mI g es' c' ∧ kH pt Value.bool (nU D p true) es' c'):=by
 go_enter func100,ntmps100
 refine aF fun K1 k1=>wp_region_lit (cM m rfl ?_);clear m; intro g1 u m;refine aA (aD) (aC (k1 _ _ ?_));refine aF fun K2 k2=>aF fun K3 k3=>wp_region_lit (aA (aB) ?_);simp only[zz];refine aI rfl ((m.b 0 rfl).full bK aO) ?_;simp only[zz];refine sX (Ta (ek:=pt) (en:=Value.bool) (k:=p) (v0:=false) underlying146 aax Yp rfl rfl (m.p (k + 1) hk) hD1) ?_;simp only[zz];refine aC (k3 _ _ ?_);refine Yi rfl (fun hc1=>?_) (fun hc1=>?_)
 ·
  refine aF fun K4 k4=>wp_region_lit (aA (aD) (aC (k4 _ _ ?_)));refine wp_ret ?_;simp only[zz];try simp only[Exit.inBlock,Exit.then,if_true]
  refine bU rfl rfl ?_;try simp only[zD,zE]
  exact ⟨_,mI g es c,rfl,by rw [Tb hk]; exact m.tl,by rw [hc1]; rfl,es,c,rfl,by rw [Er (by cases hq : tK D p with | none=>rw [hq] at hc1; cases hc1 | some x=>rw [hq] at hc1; exact congrArg some hc1)]; exact hD1⟩
 ·
  refine wp_skip (k2 _ _ ?_);refine aF fun K5 k5=>wp_region_lit (aA (aB) ?_);simp only[zz];refine aI rfl ((m.b 0 rfl).full bK aO) ?_;simp only[zz];refine Wc (ek:=pt) (en:=Value.bool) (a:=p) (v:=true) m (k + 1) hk underlying146 Yp rfl rfl rfl hD1 ?_;clear m; intro es1 c1 u m hD'; clear hD1; have hD1:=hD'; clear hD'; simp only[zF,zG] at m;refine aC (k5 _ _ ?_);refine aF fun K6 k6=>wp_region_lit (aA (aD) (aC (k6 _ _ ?_)));refine wp_ret ?_;simp only[zz];try simp only[Exit.inBlock,Exit.then,if_true]
  refine bU rfl rfl ?_;try simp only[zD,zE]
  exact ⟨_,_,rfl,m.tl,by rw [hc1]; rfl,_,_,rfl,hD1⟩
theorem Wz {w0 w : World} {is : List It} {A : Option Addr} {n cap : Nat} {xs : List P3} (m : cR w0 w is) (k : Nat) (hi : is[k]? = some (oI 56 3 A n cap (xs.flatMap iO))) (hsz : n < 4611686018427387904) :
 Calls prog 129 [.slice A n cap,.func (.func 102) #[] #[]].toArray w fun e w'=>∃ v i,e = .returned v ∧ cR w0 w' (is.set k i) ∧ (v = .tuple #[] ∧ ∃ ys : List P3,i = oI 56 3 A n cap (ys.flatMap iO) ∧ ys.Perm xs ∧ ys.Pairwise fun a b=>ltOf Ha b a = false) :=
 Td (enc:=iO) Tryz.sort129 (fun w=>vR bK w) (fun w=>fP aO w) (fun _=>rfl) (by decide) Jj Ha Te (fun x y=>Wy) m k hi hsz
theorem Ps {g c : Nat} {es : Array MapEntry} {D : List (P3 × Bool)} (w : World) (hM : qO w g es c) (hD : kH pt Value.bool D es c) (hl : D.length ≤ 1000000) : iL prog 101 [.map (some g),.func (.func 102) #[] #[]] w (OR 56 3 (fun xs=>∃ ps : List P3,xs = ps.flatMap iO ∧ ps.Perm (D.map (·.1)) ∧ ps.Pairwise fun a b=>¬ b.Lt a) w):=by
 refine ⟨Za,?_⟩;have m:=cR.refl w
 go_enter func101,ntmps101
 refine aF fun K1 k1=>wp_region_lit (aA (aD) (aC (k1 _ _ ?_)));refine aF fun K2 k2=>wp_region_lit (aA (aD) ?_);replace m:=m.nilO 56 3;refine aC (k2 _ _ ?_);refine aF fun K3 k3=>aF fun K4 k4=>wp_region_lit (aA (aB) ?_);simp only[zz];refine aa5 m underlying146 rfl (hM.ext m.ext) ?_;clear m; intro r1 u m;refine aC (k4 _ _ ?_);refine wp_block ?_;simp only[zz];try simp only[Nat.zero_add,Nat.reduceAdd,Nat.reduceMul,Int.reduceToNat]
 refine dI [5] [6,9,10,11,12,13,14,15,16] (fun n vs wl=>∃ (dn rs : List (P3 × Bool)) (A1 : Option Addr) (n1 cap1 : Nat) (sn : Array Nat),vs = [.slice A1 n1 cap1] ∧ cR w wl [iI r1 g c sn,oI 56 3 A1 n1 cap1 ((dn.map (·.1)).flatMap iO)] ∧ (wP pt Value.bool D es sn dn rs) ∧ (n1 = dn.length) ∧ (n = rs.length)) ?_ ?_
 ·
  apply Exists.intro;simp only[zQ,zR,zD,zE];exact ⟨[],D,none,0,0,#[],rfl,m,wP.start hD,rfl,rfl⟩
 ·
  intro n vs wr hI u;clear m;obtain ⟨dn,rs,A1,n1,cap1,sn,rfl,m,hT,hn1,hn⟩:=hI;have hlen:=hT.len;simp only[zv,zF,zG];refine aF fun K5 k5=>wp_region_lit (ac1 m 0 rfl rfl (hM.ext m.ext) hD hT ?_);clear m; intro bb kk vv sn u m hN; simp only[zF,zG] at m;refine aA (Wd rfl) (aC (k5 _ _ ?_));refine aF fun K6 k6=>?_;simp only[zz];refine Yi rfl (fun hc1=>?_) (fun hc1=>?_)
  ·
   obtain ⟨kp,kb,rs2,hp,hT2⟩:=ac3 hc1 hN;refine wp_skip (k6 _ _ ?_);refine wp_block (aF fun K7 k7=>wp_region_lit (sX (We rfl (m.r 0 rfl) (hM.ext m.ext) hD hT2) ?_));simp only[zz];refine aA (aT rfl rfl) ?_;simp only[zz];refine bC m eH rfl ?_;clear m; intro g2 u m;simp only[zz];refine aL m 0 rfl rfl rfl aO (cA rfl) rfl ?_;clear m; intro u m; simp only[zy,zx,aX,zF,zG,Nat.reduceAdd] at m;refine aC (k7 _ _ ?_);refine wp_region_lit (aA (aB) ?_);simp only[zz];refine aI rfl ((m.b 0 rfl).full bK aO) ?_;simp only[zz];refine Pd rfl ?_;intro u g3 e hg hB; replace m:=m.newB e hg hB; clear e hg hB;simp only[zz];refine fD m 3 rfl rfl sR aaz rfl (by decide) rfl rfl rfl (m.b 0 rfl).rowsO (mJ rfl) (by omega) (by omega) ?_;clear m; intro A1 cap1 u m; simp only[zF,zG] at m;refine aA (aD) (aC ?_);simp only[zz];simp only[Exit.inBlock,Exit.then];refine ⟨rs2.length,_,?_,rfl,?_,?_⟩
   · rw [hn,hp.length_eq]; exact Nat.lt_succ_self _
   · simp only[zz,zv]
   ·
    simp only[zQ,zR,zD,zE];exact ⟨dn ++ [(kp,kb)],rs2,_,_,_,_,rfl,((m.reO 3 rfl ((m.o 3 rfl).as (by simp [iO]))).sel [false,false,true,true]),hT2,by simp [hn1],rfl⟩
  ·
   obtain rfl:=ac2 hc1 hN;refine wp_exit (k3 _ _ ?_);refine aF fun K8 k8=>wp_region_lit (aA (aB) (aA (aB) ?_));simp only[zz];refine Hc m 1 Zy rfl rfl (fun m=>Wz m 1 rfl (by omega)) ?_;clear m; rintro v i u m ⟨rfl,ys,rfl,hys,hso⟩; simp only[zF,zG] at m;refine aC (k8 _ _ ?_);refine aF fun K9 k9=>wp_region_lit (aA (aB) (aA (aD) (aC (k9 _ _ ?_))));refine wp_ret ?_;simp only[zz];try simp only[Exit.inBlock,Exit.then,if_true]
   refine bU rfl rfl ?_;try simp only[zD,zE]
   exact ⟨_,rfl,m.ext,_,_,_,_,rfl,(m.o 1 rfl),_,rfl,hys.trans (hT.done.map _),hso.imp fun h=>by simpa [ltOf,wQ] using h⟩
end Go.Proofs.YtimjandkmfcmiaaGreatDoor
namespace Go.Lith
open Go.RowKit
def T3.cor (t : T3) (c : Nat) : P3:=if c = 0 then t.a else if c = 1 then t.b else t.c
def T3.setC (t : T3) (c : Nat) (p : P3) : T3:=if c = 0 then ⟨p,t.b,t.c⟩ else if c = 1 then ⟨t.a,p,t.c⟩ else ⟨t.a,t.b,p⟩
theorem adm {t : T3} {c : Nat} {p : P3} (hc : c < 3) : aX (eZ t) (c * 3) [.int .i64 p.x,.int .i64 p.y,.int .i64 p.z] = eZ (t.setC c p):=by
 have : c = 0 ∨ c = 1 ∨ c = 2:=by omega
 rcases this with rfl | rfl | rfl <;> rfl
section
variable {w0 w : World} {S : List (Option Nat)} {E : TypeId} {n cap : Nat} {A : Option Addr} {ts : List T3}
theorem qS.cor {a : Addr} {t : T3} {c : Nat} (h : qS w a (eZ t)) (hc : c < 3) : qS w (a.add (c * 3)) [.int .i64 (t.cor c).x,.int .i64 (t.cor c).y,.int .i64 (t.cor c).z]:=by
 have:=(h.sub (c * 3)).take 3;have e : c = 0 ∨ c = 1 ∨ c = 2:=by omega
 rcases e with rfl | rfl | rfl <;> exact this
end
end Go.Lith
namespace Go.Proofs.YtimjandkmfcmiaaGreatDoor
open Tryz
open Go.RowKit Go.Lith
set_option maxRecDepth 100000
attribute [local irreducible] wpList wpQuiet eS dV eG Code.wp
theorem Lw {ts : List T3} {N cap : Nat} {A : Option Addr} (w : World) (hT : dK w A N ts) (hN : N ≤ 300000) : iL prog 61 [.slice A N cap] w (OR 56 3 (fun xs=>∃ ps : List P3,xs = ps.flatMap iO ∧ Tg ps ∧ ∀ a,a ∈ ps ↔ a ∈ eV ts) w):=by
 refine ⟨acf,?_⟩;have m:=cR.refl w
 go_enter func61,ntmps61
 refine aF fun K1 k1=>wp_region_lit (aA (aD) (aC (k1 _ _ ?_)));refine aF fun K2 k2=>wp_region_lit ?_;simp only[zz];refine Sz m ?_;clear m; intro q8 u m;have hD8:=kH.nil (K:=P3) (V:=Bool) pt Value.bool;refine aA (aD) (aC (k2 _ _ ?_));refine aF fun K3 k3=>aF fun K4 k4=>wp_region_lit (aA (aB) (aA (bR rfl nC rfl) ?_));simp only[zz];refine aA (aB) (aC (k4 _ _ ?_));refine wp_block ?_;simp only[zz];try simp only[Nat.zero_add,Nat.reduceAdd,Nat.reduceMul,Int.reduceToNat]
 refine dI [11] [5,7,12,13,14,15,16,17,18,19,20,21,22,23] (fun n vs wl=>∃ (k : Nat) (es : Array MapEntry) (c : Nat),vs = [.int .i64 (k:Int)] ∧ cR w wl [mI q8 es c] ∧ (kH pt Value.bool (tL [] (eV (ts.take k))) es c) ∧ (k ≤ N) ∧ (n = N - k)) ?_ ?_
 ·
  apply Exists.intro;simp only[zQ,zR,zD,zE];exact ⟨0,_,_,rfl,m,hD8,Nat.zero_le _,rfl⟩
 ·
  intro n vs wr hI u;clear m;obtain ⟨k,es,c,rfl,m,hD8,hk,hn⟩:=hI;simp only[zv,zF,zG];refine aF fun K5 k5=>wp_region_lit (aA (eA rfl rfl) (aC (k5 _ _ ?_)));refine aF fun K6 k6=>?_;simp only[zz];refine cQ rfl (fun hc1=>?_) (fun hc1=>?_)
  ·
   obtain ⟨t,ht,_,a,rfl,hrow⟩:=hT.get (i:=k) (by omega);refine wp_skip (k6 _ _ ?_);refine aF fun K7 k7=>wp_block (aF fun K8 k8=>wp_region_lit (aA (aU nC fQ rfl rfl (by omega) (by omega) (wC (Int.toNat_natCast _))) ?_));simp only[zz];refine aI rfl (((hrow.ext m.ext)).lies mM fQ) ?_;simp only[zz];refine bC m Fv rfl ?_;clear m; intro g2 u m;simp only[zz];refine aL m 0 rfl rfl rfl fQ (cA rfl) rfl ?_;clear m; intro u m; simp only[zy,zx,aX,zF,zG,Nat.reduceAdd] at m;refine aC (k8 _ _ ?_);refine aF fun K9 k9=>wp_region_lit (aI rfl ((m.b 0 rfl).full mM fQ) ?_);simp only[zz];refine aA (aB) (aC (k9 _ _ ?_));refine wp_block (wp_loop_rounds 4 (dQ (aF fun K10 k10=>wp_region_lit (aA (cK (m:=0) (n:=3) rfl rfl (by decide)) (aC (k10 _ _ ?_))))));refine aF fun K11 k11=>bX rfl (wp_skip (k11 _ _ ?_));refine aF fun K12 k12=>wp_block (aF fun K13 k13=>wp_region_lit (aA (wH rfl rfl) ?_));simp only[zz];refine bC m eH rfl ?_;clear m; intro g3 u m;simp only[zz];refine aL m 0 rfl rfl rfl aO (cA rfl) rfl ?_;clear m; intro u m; simp only[zy,zx,aX,zF,zG,Nat.reduceAdd] at m;refine aC (k13 _ _ ?_);refine wp_region_lit (aA (aB) ?_);simp only[zz];refine aI rfl ((m.b 0 rfl).full bK aO) ?_;simp only[zz];refine Hc m 2 Kp rfl rfl (fun m=>Lv (p:=t.a) m 2 rfl hD8) ?_;clear m; rintro v i u m ⟨rfl,es',c',rfl,hD'⟩; simp only[zF,zG] at m;simp only[zz];clear hD8; have hD8:=hD'; clear hD';refine aC (k12 _ _ ?_);refine wp_region_lit (aA (bD (m:=0) (n:=1) (r:=1) rfl rfl (by decide)) (aA (aB) (aC (bF (aF fun K14 k14=>wp_region_lit (aA (cK (m:=1) (n:=3) rfl rfl (by decide)) (aC (k14 _ _ ?_))))))));refine aF fun K15 k15=>bX rfl (wp_skip (k15 _ _ ?_));refine aF fun K16 k16=>wp_block (aF fun K17 k17=>wp_region_lit (aA (wI rfl rfl) ?_));simp only[zz];refine bC m eH rfl ?_;clear m; intro g4 u m;simp only[zz];refine aL m 0 rfl rfl rfl aO (cA rfl) rfl ?_;clear m; intro u m; simp only[zy,zx,aX,zF,zG,Nat.reduceAdd] at m;refine aC (k17 _ _ ?_);refine wp_region_lit (aA (aB) ?_);simp only[zz];refine aI rfl ((m.b 0 rfl).full bK aO) ?_;simp only[zz];refine Hc m 3 Kp rfl rfl (fun m=>Lv (p:=t.b) m 3 rfl hD8) ?_;clear m; rintro v i u m ⟨rfl,es',c',rfl,hD'⟩; simp only[zF,zG] at m;simp only[zz];clear hD8; have hD8:=hD'; clear hD';refine aC (k16 _ _ ?_);refine wp_region_lit (aA (bD (m:=1) (n:=1) (r:=2) rfl rfl (by decide)) (aA (aB) (aC (bF (aF fun K18 k18=>wp_region_lit (aA (cK (m:=2) (n:=3) rfl rfl (by decide)) (aC (k18 _ _ ?_))))))));refine aF fun K19 k19=>bX rfl (wp_skip (k19 _ _ ?_));refine aF fun K20 k20=>wp_block (aF fun K21 k21=>wp_region_lit (aA (wJ rfl rfl) ?_));simp only[zz];refine bC m eH rfl ?_;clear m; intro g5 u m;simp only[zz];refine aL m 0 rfl rfl rfl aO (cA rfl) rfl ?_;clear m; intro u m; simp only[zy,zx,aX,zF,zG,Nat.reduceAdd] at m;refine aC (k21 _ _ ?_);refine wp_region_lit (aA (aB) ?_);simp only[zz];refine aI rfl ((m.b 0 rfl).full bK aO) ?_;simp only[zz];refine Hc m 4 Kp rfl rfl (fun m=>Lv (p:=t.c) m 4 rfl hD8) ?_;clear m; rintro v i u m ⟨rfl,es',c',rfl,hD'⟩; simp only[zF,zG] at m;simp only[zz];clear hD8; have hD8:=hD'; clear hD';refine aC (k20 _ _ ?_);refine wp_region_lit (aA (bD (m:=2) (n:=1) (r:=3) rfl rfl (by decide)) (aA (aB) (aC (bF (aF fun K22 k22=>wp_region_lit (aA (fA (m:=3) (n:=3) rfl rfl (by decide)) (aC (k22 _ _ ?_))))))));refine aF fun K23 k23=>eQ rfl (wp_exit (k7 _ _ ?_));refine wp_region_lit ?_;simp only[zz];refine aA (bD rfl rfl (aQ (by omega) (by omega))) (aA (aB) (aC ?_));simp only[zz];simp only[Exit.inBlock,Exit.then];refine ⟨N - (k + 1),_,?_,rfl,?_,?_⟩
   · omega
   · simp only[zz,zv]
   ·
    simp only[zQ,zR,zD,zE];exact ⟨k + 1,_,_,rfl,(m.sel [false,false,false,false,true]),by rw [Lp ht]; exact hD8,by omega,rfl⟩
  ·
   have hkN : k = N:=by omega
   rw [hkN,show ts.take N = ts from List.take_of_length_le (by rw [hT.len]; exact Nat.le_refl _)] at hD8;refine wp_exit (k3 _ _ ?_);refine aF fun K24 k24=>wp_region_lit (aA (aB) ?_);simp only[zz];refine bS rfl rfl (Ps _ (m.p 0 rfl) hD8 (by have h1:=wR (eV ts) []; have h2:=Hg ts; have h3:=hT.len; simp only[List.length_nil] at h1; omega)) ?_;rintro v u e ⟨A9,n9,cap9,_,rfl,hN,ps,rfl,hps,hso⟩; replace m:=m.newO e hN; clear e hN;refine aA (aD) (aC (k24 _ _ ?_));refine wp_ret ?_;simp only[zz];try simp only[Exit.inBlock,Exit.then,if_true]
   refine bU rfl rfl ?_;try simp only[zD,zE]
   exact ⟨_,rfl,m.ext,_,_,_,_,rfl,(m.o 0 rfl),ps,rfl,Pp (hps.nodup_iff.2 (yN _ _ .nil)) hso,fun a=>by rw [hps.mem_iff,Es]; simp⟩
theorem ac4 {ts : List T3} {N cap : Nat} {A : Option Addr} (w : World) (hT : dK w A N ts) (hN : N ≤ 300000) : iL prog 41 [.slice A N cap] w (fun v _=>v = .tuple #[pt (uL (eV ts)),pt (uM (eV ts)),.bool (decide ((0 : Int) < (N : Int)))]):=by
 refine ⟨abX,?_⟩;have m:=cR.refl w
 go_enter func41,ntmps41
 refine aF fun K1 k1=>wp_region_lit (bC m eH rfl ?_);clear m; intro g1 u m;simp only[zz];refine bC m eH rfl ?_;clear m; intro g2 u m;refine aA (aD) (aC (k1 _ _ ?_));refine aF fun K2 k2=>aF fun K3 k3=>wp_region_lit (aA (aB) ?_);simp only[zz];refine bS rfl rfl (Lw _ (hT.ext m.ext) hN) ?_;rintro v u e ⟨A8,n8,cap8,_,rfl,hN,ps,rfl,hso,hmem⟩; replace m:=m.newO e hN; clear e hN;obtain rfl : ps.length = n8:=by have:=(m.o 0 rfl).own.1; rw [aa6] at this; omega
 refine aA (bR rfl sR rfl) (aA (aB) (aC (k3 _ _ ?_)));refine wp_block ?_;simp only[zz];try simp only[Nat.zero_add,Nat.reduceAdd,Nat.reduceMul,Int.reduceToNat]
 refine dI [10] [5,6,11,12,13,14,15,16,17,18,19,20,21,22,23,24,25,26,27,28,29,30,31,32,33,34,35,36,37,38,39,40,41,42,43,44,45,46,47,48,49,50,51] (fun n vs wl=>∃ (k : Nat),vs = [.int .i64 (k:Int)] ∧ cR w wl [oI 56 3 A8 ps.length cap8 (ps.flatMap iO),bI g2 [.int .i64 (uM (ps.take k)).x,.int .i64 (uM (ps.take k)).y,.int .i64 (uM (ps.take k)).z] 56,bI g1 [.int .i64 (uL (ps.take k)).x,.int .i64 (uL (ps.take k)).y,.int .i64 (uL (ps.take k)).z] 56] ∧ (k ≤ ps.length) ∧ (n = ps.length - k)) ?_ ?_
 ·
  apply Exists.intro;simp only[zQ,zR,zD,zE];exact ⟨0,rfl,m,Nat.zero_le _,rfl⟩
 ·
  intro n vs wr hI u;clear m;obtain ⟨k,rfl,m,hk,hn⟩:=hI;simp only[zv,zF,zG];refine aF fun K4 k4=>wp_region_lit (aA (eA rfl rfl) (aC (k4 _ _ ?_)));refine aF fun K5 k5=>?_;simp only[zz];refine cQ rfl (fun hc1=>?_) (fun hc1=>?_)
  ·
   have hle8 : ps.length ≤ 9223372036854775807:=Nat.le_trans (m.o 0 rfl).le (m.o 0 rfl).max;obtain ⟨p,hp⟩ : ∃ p,ps[k]? = some p:=⟨_,List.getElem?_eq_getElem (by omega)⟩
   obtain ⟨gO,rfl⟩:=(m.o 0 rfl).some (by omega);refine wp_skip (k5 _ _ ?_);refine aF fun K6 k6=>wp_block (aF fun K7 k7=>wp_region_lit (aA (aB) ?_));simp only[zz];refine aA (aU sR aO rfl rfl (by omega) (by omega) (wC (Int.toNat_natCast _))) ?_;simp only[zz];refine aI rfl (((m.o 0 rfl).pt hp).lies bK aO) ?_;simp only[zz];refine bC m eH rfl ?_;clear m; intro g3 u m;refine aA (aD) ?_;simp only[zz];refine aL m 0 rfl rfl rfl aO (cA rfl) rfl ?_;clear m; intro u m; simp only[zy,zx,aX,zF,zG,Nat.reduceAdd] at m;refine aC (k7 _ _ ?_);refine aF fun K8 k8=>aF fun K9 k9=>wp_region_lit (aA (aB) (aA (nA rfl rfl) (aC (k9 _ _ ?_))));simp only[zz];refine cQ rfl (fun hc2=>?_) (fun hc2=>?_)
   ·
    refine mh m [true,true,false,false] [(0,true),(1,true),(2,false),(3,false)] aN (by kernel_rfl) (cW (fun _ _ _ _ _ h=>h)) (ol:=?_) ?hol ?_
    case hol=>simp only[zw,zQ,zR]; try rfl
    clear m; intro u m;refine cF rfl (fun u m=>((m.b 0 rfl).full bK aO)) ?_;simp only[zz];refine cF rfl (fun u m=>((m.b 0 rfl).full bK aO)) ?_;simp only[zz];refine cZ (aL m 3 rfl rfl rfl aO (cA rfl) rfl ?_);clear m; intro u m; simp only[zy,zx,aX,zF,zG,Nat.reduceAdd] at m;refine aC (⟨m.sel [true,true,false,false],?_⟩);refine cZ (aL m 2 rfl rfl rfl aO (cA rfl) rfl ?_);clear m; intro u m; simp only[zy,zx,aX,zF,zG,Nat.reduceAdd] at m;refine aC (⟨m.sel [true,true,false,false],?_⟩);refine bA (k8 _ _ ?_);refine aF fun K10 k10=>wp_region_lit (aA (aH (c:=0) bZ rfl aM rfl rfl) ?_);simp only[zz];refine aI rfl ((m.b 3 rfl).lies1 aZ rfl) ?_;simp only[zz];refine aA (aH (c:=0) bZ rfl aM rfl rfl) ?_;simp only[zz];refine aI rfl ((m.b 0 rfl).lies1 aZ rfl) ?_;simp only[zz];refine aA (oY rfl rfl rfl) (aA (aH (c:=0) bZ rfl aM rfl rfl) ?_);simp only[zz];refine aI rfl ((m.b 3 rfl).lies1 aZ rfl) ?_;simp only[zz];refine aA (aH (c:=0) bZ rfl aM rfl rfl) ?_;simp only[zz];refine aI rfl ((m.b 0 rfl).lies1 aZ rfl) ?_;simp only[zz];refine aA (oY rfl rfl rfl) (aA (aH (c:=0) bZ rfl aM rfl rfl) ?_);simp only[zz];refine aI rfl ((m.b 3 rfl).lies1 aZ rfl) ?_;simp only[zz];refine aA (aH (c:=0) bZ rfl aM rfl rfl) ?_;simp only[zz];refine aI rfl ((m.b 0 rfl).lies1 aZ rfl) ?_;simp only[zz];refine aA (oY rfl rfl rfl) (aA (dB rfl rfl rfl) ?_);simp only[zz];refine aL m 3 rfl rfl rfl aO (cA rfl) rfl ?_;clear m; intro u m; simp only[zy,zx,aX,zF,zG,Nat.reduceAdd] at m;refine aC (k10 _ _ ?_);refine wp_region_lit (aA (aH (c:=0) bZ rfl aM rfl rfl) ?_);simp only[zz];refine aI rfl ((m.b 2 rfl).lies1 aZ rfl) ?_;simp only[zz];refine aA (aH (c:=0) bZ rfl aM rfl rfl) ?_;simp only[zz];refine aI rfl ((m.b 0 rfl).lies1 aZ rfl) ?_;simp only[zz];refine aA (jR rfl rfl rfl) (aA (aH (c:=0) bZ rfl aM rfl rfl) ?_);simp only[zz];refine aI rfl ((m.b 2 rfl).lies1 aZ rfl) ?_;simp only[zz];refine aA (aH (c:=0) bZ rfl aM rfl rfl) ?_;simp only[zz];refine aI rfl ((m.b 0 rfl).lies1 aZ rfl) ?_;simp only[zz];refine aA (jR rfl rfl rfl) (aA (aH (c:=0) bZ rfl aM rfl rfl) ?_);simp only[zz];refine aI rfl ((m.b 2 rfl).lies1 aZ rfl) ?_;simp only[zz];refine aA (aH (c:=0) bZ rfl aM rfl rfl) ?_;simp only[zz];refine aI rfl ((m.b 0 rfl).lies1 aZ rfl) ?_;simp only[zz];refine aA (jR rfl rfl rfl) (aA (dB rfl rfl rfl) ?_);simp only[zz];refine aL m 2 rfl rfl rfl aO (cA rfl) rfl ?_;clear m; intro u m; simp only[zy,zx,aX,zF,zG,Nat.reduceAdd] at m;refine aC (k6 _ _ ?_);refine wp_region_lit (aA (bD rfl rfl (aQ (by omega) (by omega))) (aA (aB) (aC ?_)));simp only[zz];simp only[Exit.inBlock,Exit.then];refine ⟨ps.length - (k + 1),_,?_,rfl,?_,?_⟩
    · omega
    · simp only[zz,zv]
    ·
     simp only[zQ,zR,zD,zE];exact ⟨k + 1,rfl,(((m.re 3 rfl (by rw [Tl (by omega) hp]; exact (m.b 3 rfl))).re 2 rfl (by rw [Tm (by omega) hp]; exact (m.b 2 rfl))).sel [false,true,true,true]),by omega,rfl⟩
   ·
    have hk0 : 0 < k:=by omega
    refine wp_skip (k8 _ _ ?_);refine aF fun K11 k11=>wp_region_lit (aA (aH (c:=0) bZ rfl aM rfl rfl) ?_);simp only[zz];refine aI rfl ((m.b 3 rfl).lies1 aZ rfl) ?_;simp only[zz];refine aA (aH (c:=0) bZ rfl aM rfl rfl) ?_;simp only[zz];refine aI rfl ((m.b 0 rfl).lies1 aZ rfl) ?_;simp only[zz];refine aA (oY rfl rfl rfl) (aA (aH (c:=0) bZ rfl aM rfl rfl) ?_);simp only[zz];refine aI rfl ((m.b 3 rfl).lies1 aZ rfl) ?_;simp only[zz];refine aA (aH (c:=0) bZ rfl aM rfl rfl) ?_;simp only[zz];refine aI rfl ((m.b 0 rfl).lies1 aZ rfl) ?_;simp only[zz];refine aA (oY rfl rfl rfl) (aA (aH (c:=0) bZ rfl aM rfl rfl) ?_);simp only[zz];refine aI rfl ((m.b 3 rfl).lies1 aZ rfl) ?_;simp only[zz];refine aA (aH (c:=0) bZ rfl aM rfl rfl) ?_;simp only[zz];refine aI rfl ((m.b 0 rfl).lies1 aZ rfl) ?_;simp only[zz];refine aA (oY rfl rfl rfl) (aA (dB rfl rfl rfl) ?_);simp only[zz];refine aL m 3 rfl rfl rfl aO (cA rfl) rfl ?_;clear m; intro u m; simp only[zy,zx,aX,zF,zG,Nat.reduceAdd] at m;refine aC (k11 _ _ ?_);refine wp_region_lit (aA (aH (c:=0) bZ rfl aM rfl rfl) ?_);simp only[zz];refine aI rfl ((m.b 2 rfl).lies1 aZ rfl) ?_;simp only[zz];refine aA (aH (c:=0) bZ rfl aM rfl rfl) ?_;simp only[zz];refine aI rfl ((m.b 0 rfl).lies1 aZ rfl) ?_;simp only[zz];refine aA (jR rfl rfl rfl) (aA (aH (c:=0) bZ rfl aM rfl rfl) ?_);simp only[zz];refine aI rfl ((m.b 2 rfl).lies1 aZ rfl) ?_;simp only[zz];refine aA (aH (c:=0) bZ rfl aM rfl rfl) ?_;simp only[zz];refine aI rfl ((m.b 0 rfl).lies1 aZ rfl) ?_;simp only[zz];refine aA (jR rfl rfl rfl) (aA (aH (c:=0) bZ rfl aM rfl rfl) ?_);simp only[zz];refine aI rfl ((m.b 2 rfl).lies1 aZ rfl) ?_;simp only[zz];refine aA (aH (c:=0) bZ rfl aM rfl rfl) ?_;simp only[zz];refine aI rfl ((m.b 0 rfl).lies1 aZ rfl) ?_;simp only[zz];refine aA (jR rfl rfl rfl) (aA (dB rfl rfl rfl) ?_);simp only[zz];refine aL m 2 rfl rfl rfl aO (cA rfl) rfl ?_;clear m; intro u m; simp only[zy,zx,aX,zF,zG,Nat.reduceAdd] at m;refine aC (k6 _ _ ?_);refine wp_region_lit (aA (bD rfl rfl (aQ (by omega) (by omega))) (aA (aB) (aC ?_)));simp only[zz];simp only[Exit.inBlock,Exit.then];refine ⟨ps.length - (k + 1),_,?_,rfl,?_,?_⟩
    · omega
    · simp only[zz,zv]
    ·
     simp only[zQ,zR,zD,zE];exact ⟨k + 1,rfl,(((m.re 3 rfl (by rw [Tj hp hk0]; exact (m.b 3 rfl))).re 2 rfl (by rw [Tk hp hk0]; exact (m.b 2 rfl))).sel [false,true,true,true]),by omega,rfl⟩
  ·
   have hkN : k = ps.length:=by omega
   rw [hkN,List.take_length] at m;refine wp_exit (k2 _ _ ?_);refine aF fun K12 k12=>?_;refine kG m [true,false,false] (.take 2 (.take 3 (.take 4 (.two 0 (.two 1 (.one 5 (.one 6 (.take 7 .nil))) 5 (.one 1 (.one 6 (.take 7 .nil)))) 1 (.one 0 (.one 5 (.one 6 (.take 7 .nil)))))))) aN (by kernel_rfl) (cW (fun _ _ _ _ _ h=>h)) ?_;clear m; intro u m;refine aV (by simp only[zw]; rfl) (aY (aB) (bA (aV (by simp only[zw]; rfl) (aY (bR rfl nC rfl) (bA (aV (by simp only[zw]; rfl) (aY (gS rfl rfl) (bA ?_))))))));simp only[zz];refine gX (by simp only[zw]; rfl) (by simp only[zw]; rfl) ?_ ?_
   ·
    refine aI rfl ((m.b 2 rfl).full bK aO) ?_;simp only[zz];refine aC (⟨m.sel [true,false,false],?_⟩);refine gX (by simp only[zw]; rfl) (by simp only[zw]; rfl) ?_ ?_
    ·
     refine aI rfl ((m.b 1 rfl).full bK aO) ?_;simp only[zz];refine aC (⟨m.sel [true,false,false],?_⟩);refine bL (by simp only[zw]; rfl) (aL m 2 rfl rfl rfl aO (cA rfl) rfl ?_);clear m; intro u m; simp only[zy,zx,aX,zF,zG,Nat.reduceAdd] at m;refine aC (⟨m.sel [true,false,false],?_⟩);refine bL (by simp only[zw]; rfl) (aL m 1 rfl rfl rfl aO (cA rfl) rfl ?_);clear m; intro u m; simp only[zy,zx,aX,zF,zG,Nat.reduceAdd] at m;refine aC (⟨m.sel [true,false,false],?_⟩);refine aV (by simp only[zw]; rfl) (aY (aD) (bA (eE (k12 _ _ ?_))));refine wp_ret ?_;simp only[zz];try simp only[Exit.inBlock,Exit.then,if_true]
     refine oJ rfl ⟨_,rfl,((m.b 2 rfl).full bK aO)⟩ ⟨_,rfl,((m.b 1 rfl).full bK aO)⟩ rfl ?_;try simp only[zD,zE]
     exact ⟨_,rfl,m.ext,by rw [He hmem,Hf hmem]; rfl⟩
    ·
     refine aL m 2 rfl rfl rfl aO (cA rfl) rfl ?_;clear m; intro u m; simp only[zy,zx,aX,zF,zG,Nat.reduceAdd] at m;refine aC (⟨m.sel [true,false,false],?_⟩);refine bL (by simp only[zw]; rfl) (aI rfl ((m.b 1 rfl).full bK aO) ?_);simp only[zz];refine aC (⟨m.sel [true,false,false],?_⟩);refine bL (by simp only[zw]; rfl) (aL m 1 rfl rfl rfl aO (cA rfl) rfl ?_);clear m; intro u m; simp only[zy,zx,aX,zF,zG,Nat.reduceAdd] at m;refine aC (⟨m.sel [true,false,false],?_⟩);refine aV (by simp only[zw]; rfl) (aY (aD) (bA (eE (k12 _ _ ?_))));refine wp_ret ?_;simp only[zz];try simp only[Exit.inBlock,Exit.then,if_true]
     refine oJ rfl ⟨_,rfl,((m.b 2 rfl).full bK aO)⟩ ⟨_,rfl,((m.b 1 rfl).full bK aO)⟩ rfl ?_;try simp only[zD,zE]
     exact ⟨_,rfl,m.ext,by rw [He hmem,Hf hmem]; rfl⟩
   ·
    refine aI rfl ((m.b 1 rfl).full bK aO) ?_;simp only[zz];refine aC (⟨m.sel [true,false,false],?_⟩);refine bL (by simp only[zw]; rfl) (aI rfl ((m.b 2 rfl).full bK aO) ?_);simp only[zz];refine aC (⟨m.sel [true,false,false],?_⟩);refine bL (by simp only[zw]; rfl) (aL m 2 rfl rfl rfl aO (cA rfl) rfl ?_);clear m; intro u m; simp only[zy,zx,aX,zF,zG,Nat.reduceAdd] at m;refine aC (⟨m.sel [true,false,false],?_⟩);refine bL (by simp only[zw]; rfl) (aL m 1 rfl rfl rfl aO (cA rfl) rfl ?_);clear m; intro u m; simp only[zy,zx,aX,zF,zG,Nat.reduceAdd] at m;refine aC (⟨m.sel [true,false,false],?_⟩);refine aV (by simp only[zw]; rfl) (aY (aD) (bA (eE (k12 _ _ ?_))));refine wp_ret ?_;simp only[zz];try simp only[Exit.inBlock,Exit.then,if_true]
    refine oJ rfl ⟨_,rfl,((m.b 2 rfl).full bK aO)⟩ ⟨_,rfl,((m.b 1 rfl).full bK aO)⟩ rfl ?_;try simp only[zD,zE]
    exact ⟨_,rfl,m.ext,by rw [He hmem,Hf hmem]; rfl⟩
theorem aba {ts : List T3} {N cap : Nat} {A : Option Addr} (w : World) (hT : dK w A N ts) (hN : N ≤ 300000) : iL prog 47 [.slice A N cap] w (fun v _=>v = .tuple #[pt (uL (eV ts)),pt (uM (eV ts)),.bool (decide ((0 : Int) < (N : Int)))]):=by
 refine ⟨ab3,?_⟩;have m:=cR.refl w
 go_enter func47,ntmps47
 refine aF fun K1 k1=>wp_region_lit (bC m eH rfl ?_);clear m; intro g1 u m;simp only[zz];refine bC m eH rfl ?_;clear m; intro g2 u m;refine aA (aD) (aC (k1 _ _ ?_));refine aF fun K2 k2=>aF fun K3 k3=>wp_region_lit (aA (aB) (aA (bR rfl nC rfl) ?_));simp only[zz];refine aA (nA rfl rfl) (aC (k3 _ _ ?_));simp only[zz];refine cQ rfl (fun hc1=>?_) (fun hc1=>?_)
 ·
  refine aF fun K4 k4=>wp_region_lit (aA (gB) (aA (gB) ?_));simp only[zz];refine aL m 1 rfl rfl rfl aO (cA rfl) rfl ?_;clear m; intro u m; simp only[zy,zx,aX,zF,zG,Nat.reduceAdd] at m;refine aL m 0 rfl rfl rfl aO (cA rfl) rfl ?_;clear m; intro u m; simp only[zy,zx,aX,zF,zG,Nat.reduceAdd] at m;refine aA (aD) (aC (k4 _ _ ?_));refine wp_ret ?_;simp only[zz];try simp only[Exit.inBlock,Exit.then,if_true]
  refine oJ rfl ⟨_,rfl,((m.b 1 rfl).full bK aO)⟩ ⟨_,rfl,((m.b 0 rfl).full bK aO)⟩ rfl ?_;try simp only[zD,zE]
  exact ⟨_,rfl,m.ext,by have hn0 : N = 0:=(by omega); obtain rfl:=hT.empty hn0; subst hn0; rfl⟩
 ·
  refine wp_skip (k2 _ _ ?_);refine aF fun K5 k5=>?_;obtain ⟨t0,ht0,_,a,rfl,hrow⟩:=hT.get (i:=0) (by omega);refine wp_region_lit (aA (aB) ?_);simp only[zz];refine aA (aU nC fQ rfl rfl (by decide) (by omega) rfl) (aA (aJ jS aO rfl rfl (by decide) (by decide) rfl) ?_);simp only[zz];refine aI rfl ((qS.cor ((hrow.ext m.ext)) (c:=0) (by decide)).lies bK aO) ?_;simp only[zz];refine bC m eH rfl ?_;clear m; intro g3 u m;simp only[zz];refine aL m 0 rfl rfl rfl aO (cA rfl) rfl ?_;clear m; intro u m; simp only[zy,zx,aX,zF,zG,Nat.reduceAdd] at m;refine aC (k5 _ _ ?_);refine aF fun K6 k6=>wp_region_lit (aA (aB) ?_);simp only[zz];refine aA (aU nC fQ rfl rfl (by decide) (by omega) rfl) (aA (aJ jS aO rfl rfl (by decide) (by decide) rfl) ?_);simp only[zz];refine aI rfl ((qS.cor ((hrow.ext m.ext)) (c:=0) (by decide)).lies bK aO) ?_;simp only[zz];refine bC m eH rfl ?_;clear m; intro g4 u m;simp only[zz];refine aL m 0 rfl rfl rfl aO (cA rfl) rfl ?_;clear m; intro u m; simp only[zy,zx,aX,zF,zG,Nat.reduceAdd] at m;refine aC (k6 _ _ ?_);refine aF fun K7 k7=>aF fun K8 k8=>wp_region_lit (aA (aD) (aC (k8 _ _ ?_)));refine wp_block ?_;simp only[zz];try simp only[Nat.zero_add,Nat.reduceAdd,Nat.reduceMul,Int.reduceToNat]
  refine dI [7] [8,9,23,24,25,26,27,28,29,30,31,32,33,34,35,36,37,38,39,40,41,42,43,44,45,46,47,48,49,50,51,52,53,54,55,56,57,58,59,60,61,62,63,64,65,66,67,68,69,70] (fun n vs wl=>∃ (k : Nat),vs = [.int .i64 (k:Int)] ∧ cR w wl [bI g4 [.int .i64 (List.foldl lM t0.a (eV (ts.take k))).x,.int .i64 (List.foldl lM t0.a (eV (ts.take k))).y,.int .i64 (List.foldl lM t0.a (eV (ts.take k))).z] 56,bI g3 [.int .i64 (List.foldl lL t0.a (eV (ts.take k))).x,.int .i64 (List.foldl lL t0.a (eV (ts.take k))).y,.int .i64 (List.foldl lL t0.a (eV (ts.take k))).z] 56,bI g2 [.int .i64 0,.int .i64 0,.int .i64 0] 56,bI g1 [.int .i64 0,.int .i64 0,.int .i64 0] 56] ∧ (k ≤ N) ∧ (n = N - k)) ?_ ?_
  ·
   apply Exists.intro;simp only[zQ,zR,zD,zE];exact ⟨0,rfl,m,Nat.zero_le _,rfl⟩
  ·
   intro n vs wr hI u;clear m;obtain ⟨k,rfl,m,hk,hn⟩:=hI;simp only[zv,zF,zG];refine aF fun K9 k9=>aF fun K10 k10=>wp_region_lit (aA (aB) (aA (aB) (aA (bR rfl nC rfl) (aA (eA rfl rfl) ?_))));simp only[zz];refine aC (k10 _ _ ?_);refine cQ rfl (fun hc2=>?_) (fun hc2=>?_)
   ·
    obtain ⟨t,ht,_,_⟩:=hT.get (i:=k) (by omega);have hrow:=hT.at ht;refine wp_skip (k9 _ _ ?_);refine aF fun K11 k11=>wp_block (aF fun K12 k12=>wp_region_lit (aA (aD) (aC (k12 _ _ ?_))));refine wp_block (wp_loop_rounds 4 (dQ (aF fun K13 k13=>aF fun K14 k14=>wp_region_lit (aA (aB) (aA (cK (m:=0) (n:=3) rfl rfl (by decide)) (aC (k14 _ _ ?_)))))));refine bX rfl (wp_skip (k13 _ _ ?_));refine aF fun K15 k15=>wp_block (aF fun K16 k16=>wp_region_lit (aA (aB) ?_));simp only[zz];refine aA (aB) (aA (aB) ?_);simp only[zz];refine aA (aU nC fQ rfl rfl (by omega) (by omega) (wC (Int.toNat_natCast _))) (aA (aJ jS aO rfl rfl (by decide) (by decide) rfl) ?_);simp only[zz];refine aI rfl ((qS.cor ((hrow.ext m.ext)) (c:=0) (by decide)).lies bK aO) ?_;simp only[zz];refine bC m eH rfl ?_;clear m; intro g5 u m;simp only[zz];refine aL m 0 rfl rfl rfl aO (cA rfl) rfl ?_;clear m; intro u m; simp only[zy,zx,aX,zF,zG,Nat.reduceAdd] at m;refine aC (k16 _ _ ?_);refine aF fun K17 k17=>wp_region_lit (aA (aH (c:=0) bZ rfl aM rfl rfl) ?_);simp only[zz];refine aI rfl ((m.b 2 rfl).lies1 aZ rfl) ?_;simp only[zz];refine aA (aH (c:=0) bZ rfl aM rfl rfl) ?_;simp only[zz];refine aI rfl ((m.b 0 rfl).lies1 aZ rfl) ?_;simp only[zz];refine aA (oY rfl rfl rfl) (aA (aH (c:=0) bZ rfl aM rfl rfl) ?_);simp only[zz];refine aI rfl ((m.b 2 rfl).lies1 aZ rfl) ?_;simp only[zz];refine aA (aH (c:=0) bZ rfl aM rfl rfl) ?_;simp only[zz];refine aI rfl ((m.b 0 rfl).lies1 aZ rfl) ?_;simp only[zz];refine aA (oY rfl rfl rfl) (aA (aH (c:=0) bZ rfl aM rfl rfl) ?_);simp only[zz];refine aI rfl ((m.b 2 rfl).lies1 aZ rfl) ?_;simp only[zz];refine aA (aH (c:=0) bZ rfl aM rfl rfl) ?_;simp only[zz];refine aI rfl ((m.b 0 rfl).lies1 aZ rfl) ?_;simp only[zz];refine aA (oY rfl rfl rfl) (aA (dB rfl rfl rfl) ?_);simp only[zz];refine aL m 2 rfl rfl rfl aO (cA rfl) rfl ?_;clear m; intro u m; simp only[zy,zx,aX,zF,zG,Nat.reduceAdd] at m;refine aC (k17 _ _ ?_);refine wp_region_lit (aA (aH (c:=0) bZ rfl aM rfl rfl) ?_);simp only[zz];refine aI rfl ((m.b 1 rfl).lies1 aZ rfl) ?_;simp only[zz];refine aA (aH (c:=0) bZ rfl aM rfl rfl) ?_;simp only[zz];refine aI rfl ((m.b 0 rfl).lies1 aZ rfl) ?_;simp only[zz];refine aA (jR rfl rfl rfl) (aA (aH (c:=0) bZ rfl aM rfl rfl) ?_);simp only[zz];refine aI rfl ((m.b 1 rfl).lies1 aZ rfl) ?_;simp only[zz];refine aA (aH (c:=0) bZ rfl aM rfl rfl) ?_;simp only[zz];refine aI rfl ((m.b 0 rfl).lies1 aZ rfl) ?_;simp only[zz];refine aA (jR rfl rfl rfl) (aA (aH (c:=0) bZ rfl aM rfl rfl) ?_);simp only[zz];refine aI rfl ((m.b 1 rfl).lies1 aZ rfl) ?_;simp only[zz];refine aA (aH (c:=0) bZ rfl aM rfl rfl) ?_;simp only[zz];refine aI rfl ((m.b 0 rfl).lies1 aZ rfl) ?_;simp only[zz];refine aA (jR rfl rfl rfl) (aA (dB rfl rfl rfl) ?_);simp only[zz];refine aL m 1 rfl rfl rfl aO (cA rfl) rfl ?_;clear m; intro u m; simp only[zy,zx,aX,zF,zG,Nat.reduceAdd] at m;refine aC (k15 _ _ ?_);refine wp_region_lit (aA (aB) (aA (bD (m:=0) (n:=1) (r:=1) rfl rfl (by decide)) (aA (aD) (aC (bF (aF fun K18 k18=>aF fun K19 k19=>wp_region_lit (aA (aB) ?_)))))));simp only[zz];refine aA (cK (m:=1) (n:=3) rfl rfl (by decide)) (aC (k19 _ _ ?_));refine bX rfl (wp_skip (k18 _ _ ?_));refine aF fun K20 k20=>wp_block (aF fun K21 k21=>wp_region_lit (aA (aB) (aA (aB) (aA (aB) ?_))));simp only[zz];refine aA (aU nC fQ rfl rfl (by omega) (by omega) (wC (Int.toNat_natCast _))) (aA (aJ jS aO rfl rfl (by decide) (by decide) rfl) ?_);simp only[zz];refine aI rfl ((qS.cor ((hrow.ext m.ext)) (c:=1) (by decide)).lies bK aO) ?_;simp only[zz];refine bC m eH rfl ?_;clear m; intro g6 u m;simp only[zz];refine aL m 0 rfl rfl rfl aO (cA rfl) rfl ?_;clear m; intro u m; simp only[zy,zx,aX,zF,zG,Nat.reduceAdd] at m;refine aC (k21 _ _ ?_);refine aF fun K22 k22=>wp_region_lit (aA (aH (c:=0) bZ rfl aM rfl rfl) ?_);simp only[zz];refine aI rfl ((m.b 3 rfl).lies1 aZ rfl) ?_;simp only[zz];refine aA (aH (c:=0) bZ rfl aM rfl rfl) ?_;simp only[zz];refine aI rfl ((m.b 0 rfl).lies1 aZ rfl) ?_;simp only[zz];refine aA (oY rfl rfl rfl) (aA (aH (c:=0) bZ rfl aM rfl rfl) ?_);simp only[zz];refine aI rfl ((m.b 3 rfl).lies1 aZ rfl) ?_;simp only[zz];refine aA (aH (c:=0) bZ rfl aM rfl rfl) ?_;simp only[zz];refine aI rfl ((m.b 0 rfl).lies1 aZ rfl) ?_;simp only[zz];refine aA (oY rfl rfl rfl) (aA (aH (c:=0) bZ rfl aM rfl rfl) ?_);simp only[zz];refine aI rfl ((m.b 3 rfl).lies1 aZ rfl) ?_;simp only[zz];refine aA (aH (c:=0) bZ rfl aM rfl rfl) ?_;simp only[zz];refine aI rfl ((m.b 0 rfl).lies1 aZ rfl) ?_;simp only[zz];refine aA (oY rfl rfl rfl) (aA (dB rfl rfl rfl) ?_);simp only[zz];refine aL m 3 rfl rfl rfl aO (cA rfl) rfl ?_;clear m; intro u m; simp only[zy,zx,aX,zF,zG,Nat.reduceAdd] at m;refine aC (k22 _ _ ?_);refine wp_region_lit (aA (aH (c:=0) bZ rfl aM rfl rfl) ?_);simp only[zz];refine aI rfl ((m.b 2 rfl).lies1 aZ rfl) ?_;simp only[zz];refine aA (aH (c:=0) bZ rfl aM rfl rfl) ?_;simp only[zz];refine aI rfl ((m.b 0 rfl).lies1 aZ rfl) ?_;simp only[zz];refine aA (jR rfl rfl rfl) (aA (aH (c:=0) bZ rfl aM rfl rfl) ?_);simp only[zz];refine aI rfl ((m.b 2 rfl).lies1 aZ rfl) ?_;simp only[zz];refine aA (aH (c:=0) bZ rfl aM rfl rfl) ?_;simp only[zz];refine aI rfl ((m.b 0 rfl).lies1 aZ rfl) ?_;simp only[zz];refine aA (jR rfl rfl rfl) (aA (aH (c:=0) bZ rfl aM rfl rfl) ?_);simp only[zz];refine aI rfl ((m.b 2 rfl).lies1 aZ rfl) ?_;simp only[zz];refine aA (aH (c:=0) bZ rfl aM rfl rfl) ?_;simp only[zz];refine aI rfl ((m.b 0 rfl).lies1 aZ rfl) ?_;simp only[zz];refine aA (jR rfl rfl rfl) (aA (dB rfl rfl rfl) ?_);simp only[zz];refine aL m 2 rfl rfl rfl aO (cA rfl) rfl ?_;clear m; intro u m; simp only[zy,zx,aX,zF,zG,Nat.reduceAdd] at m;refine aC (k20 _ _ ?_);refine wp_region_lit (aA (aB) (aA (bD (m:=1) (n:=1) (r:=2) rfl rfl (by decide)) (aA (aD) (aC (bF (aF fun K23 k23=>aF fun K24 k24=>wp_region_lit (aA (aB) ?_)))))));simp only[zz];refine aA (cK (m:=2) (n:=3) rfl rfl (by decide)) (aC (k24 _ _ ?_));refine bX rfl (wp_skip (k23 _ _ ?_));refine aF fun K25 k25=>wp_block (aF fun K26 k26=>wp_region_lit (aA (aB) (aA (aB) (aA (aB) ?_))));simp only[zz];refine aA (aU nC fQ rfl rfl (by omega) (by omega) (wC (Int.toNat_natCast _))) (aA (aJ jS aO rfl rfl (by decide) (by decide) rfl) ?_);simp only[zz];refine aI rfl ((qS.cor ((hrow.ext m.ext)) (c:=2) (by decide)).lies bK aO) ?_;simp only[zz];refine bC m eH rfl ?_;clear m; intro g7 u m;simp only[zz];refine aL m 0 rfl rfl rfl aO (cA rfl) rfl ?_;clear m; intro u m; simp only[zy,zx,aX,zF,zG,Nat.reduceAdd] at m;refine aC (k26 _ _ ?_);refine aF fun K27 k27=>wp_region_lit (aA (aH (c:=0) bZ rfl aM rfl rfl) ?_);simp only[zz];refine aI rfl ((m.b 4 rfl).lies1 aZ rfl) ?_;simp only[zz];refine aA (aH (c:=0) bZ rfl aM rfl rfl) ?_;simp only[zz];refine aI rfl ((m.b 0 rfl).lies1 aZ rfl) ?_;simp only[zz];refine aA (oY rfl rfl rfl) (aA (aH (c:=0) bZ rfl aM rfl rfl) ?_);simp only[zz];refine aI rfl ((m.b 4 rfl).lies1 aZ rfl) ?_;simp only[zz];refine aA (aH (c:=0) bZ rfl aM rfl rfl) ?_;simp only[zz];refine aI rfl ((m.b 0 rfl).lies1 aZ rfl) ?_;simp only[zz];refine aA (oY rfl rfl rfl) (aA (aH (c:=0) bZ rfl aM rfl rfl) ?_);simp only[zz];refine aI rfl ((m.b 4 rfl).lies1 aZ rfl) ?_;simp only[zz];refine aA (aH (c:=0) bZ rfl aM rfl rfl) ?_;simp only[zz];refine aI rfl ((m.b 0 rfl).lies1 aZ rfl) ?_;simp only[zz];refine aA (oY rfl rfl rfl) (aA (dB rfl rfl rfl) ?_);simp only[zz];refine aL m 4 rfl rfl rfl aO (cA rfl) rfl ?_;clear m; intro u m; simp only[zy,zx,aX,zF,zG,Nat.reduceAdd] at m;refine aC (k27 _ _ ?_);refine wp_region_lit (aA (aH (c:=0) bZ rfl aM rfl rfl) ?_);simp only[zz];refine aI rfl ((m.b 3 rfl).lies1 aZ rfl) ?_;simp only[zz];refine aA (aH (c:=0) bZ rfl aM rfl rfl) ?_;simp only[zz];refine aI rfl ((m.b 0 rfl).lies1 aZ rfl) ?_;simp only[zz];refine aA (jR rfl rfl rfl) (aA (aH (c:=0) bZ rfl aM rfl rfl) ?_);simp only[zz];refine aI rfl ((m.b 3 rfl).lies1 aZ rfl) ?_;simp only[zz];refine aA (aH (c:=0) bZ rfl aM rfl rfl) ?_;simp only[zz];refine aI rfl ((m.b 0 rfl).lies1 aZ rfl) ?_;simp only[zz];refine aA (jR rfl rfl rfl) (aA (aH (c:=0) bZ rfl aM rfl rfl) ?_);simp only[zz];refine aI rfl ((m.b 3 rfl).lies1 aZ rfl) ?_;simp only[zz];refine aA (aH (c:=0) bZ rfl aM rfl rfl) ?_;simp only[zz];refine aI rfl ((m.b 0 rfl).lies1 aZ rfl) ?_;simp only[zz];refine aA (jR rfl rfl rfl) (aA (dB rfl rfl rfl) ?_);simp only[zz];refine aL m 3 rfl rfl rfl aO (cA rfl) rfl ?_;clear m; intro u m; simp only[zy,zx,aX,zF,zG,Nat.reduceAdd] at m;refine aC (k25 _ _ ?_);refine wp_region_lit (aA (aB) (aA (bD (m:=2) (n:=1) (r:=3) rfl rfl (by decide)) (aA (aD) (aC (bF (aF fun K28 k28=>aF fun K29 k29=>wp_region_lit (aA (aB) ?_)))))));simp only[zz];refine aA (fA (m:=3) (n:=3) rfl rfl (by decide)) (aC (k29 _ _ ?_));refine eQ rfl (wp_exit (k11 _ _ ?_));refine wp_region_lit (aA (aB) ?_);simp only[zz];refine aA (bD rfl rfl (aQ (by omega) (by omega))) (aA (aD) (aC ?_));simp only[zz];simp only[Exit.inBlock,Exit.then];refine ⟨N - (k + 1),_,?_,rfl,?_,?_⟩
    · omega
    · simp only[zz,zv]
    ·
     simp only[zQ,zR,zD,zE];exact ⟨k + 1,rfl,(((m.re 4 rfl (by rw [vL ht,List.foldl_append]; exact (m.b 4 rfl))).re 3 rfl (by rw [vL ht,List.foldl_append]; exact (m.b 3 rfl))).sel [false,false,false,true,true,true,true]),by omega,rfl⟩
   ·
    have hkN : k = N:=by omega
    rw [hkN,show ts.take N = ts from List.take_of_length_le (by rw [hT.len]; exact Nat.le_refl _)] at m;refine wp_exit (k7 _ _ ?_);refine aF fun K30 k30=>?_;refine mh m [true,true,false,false] [(0,true),(1,true),(2,false),(3,false),(4,true)] aN (by kernel_rfl) (cW (fun _ _ _ _ _ h=>h)) (ol:=?_) ?hol ?_
    case hol=>simp only[zw,zQ,zR]; try rfl
    clear m; intro u m;refine cF rfl (fun u m=>((m.b 1 rfl).full bK aO)) ?_;simp only[zz];refine cF rfl (fun u m=>((m.b 0 rfl).full bK aO)) ?_;simp only[zz];refine cZ (aL m 3 rfl rfl rfl aO (cA rfl) rfl ?_);clear m; intro u m; simp only[zy,zx,aX,zF,zG,Nat.reduceAdd] at m;refine aC (⟨m.sel [true,true,false,false],?_⟩);refine cZ (aL m 2 rfl rfl rfl aO (cA rfl) rfl ?_);clear m; intro u m; simp only[zy,zx,aX,zF,zG,Nat.reduceAdd] at m;refine aC (⟨m.sel [true,true,false,false],?_⟩);refine aY (aD) (bA (k30 _ _ ?_));refine wp_ret ?_;simp only[zz];try simp only[Exit.inBlock,Exit.then,if_true]
    refine oJ rfl ⟨_,rfl,((m.b 3 rfl).full bK aO)⟩ ⟨_,rfl,((m.b 2 rfl).full bK aO)⟩ rfl ?_;try simp only[zD,zE]
    exact ⟨_,rfl,m.ext,by rw [← Wj ht0,← Wk ht0,decide_eq_true (show (0 : Int) < (N : Int) by omega)]; rfl⟩
end Go.Proofs.YtimjandkmfcmiaaGreatDoor
namespace Go.Lith
open Go.RowKit
section
variable {P : Program} {ds : List Deferred} {l : List Value} {x y : Operand} {T T' U t ty : TypeId} {v z : Value}
theorem rM (h : P.concrete T = true) (hx : ev l x = v) : gQ P l (.makeInterface T x) ty (.iface T v):=fun w o ho _=>by
 simp [execOp,ho,dH,hx,show (Instr.makeInterface T v).run P w = .ok (.iface T v) w from run_makeInterface (h:=h) ..]
theorem Js (h : P.concrete U = true) (w : World) : (Instr.typeAssert (.iface U v) T U true).run P w = .ok (.tuple #[v,.bool true]) w:=by
 unfold Program.concrete at h;cases hd : P.underlying U with
 | none=>simp [hd] at h
 | some d=>cases d <;> first | (simp [hd] at h; done) | simp [Instr.typeAssert,run_underlying hd]
theorem Jt (h : P.concrete U = true) (hz : lT P U z) (hne : t ≠ U) (w : World) : (Instr.typeAssert (.iface t v) T U true).run P w = .ok (.tuple #[z,.bool false]) w:=by
 unfold Program.concrete at h;obtain ⟨i,hi,hz⟩:=hz;cases hd : P.underlying U with
 | none=>simp [hd] at h
 | some d=>cases d <;> first | (simp [hd] at h; done) | simp [Instr.typeAssert,run_underlying hd,hne,zeroValue,typeInfo,hi,hz]
theorem xV (h : P.concrete U = true) (hx : ev l x = .iface U v) : gQ P l (.typeAssert x T U true) ty (.tuple #[v,.bool true]):=fun w o ho _=>by
 simp [execOp,ho,dH,hx,Js h]
theorem xW (h : P.concrete U = true) (hz : lT P U z) (hne : (t == U) = false) (hx : ev l x = .iface t v) : gQ P l (.typeAssert x T U true) ty (.tuple #[z,.bool false]):=fun w o ho _=>by
 simp [execOp,ho,dH,hx,Jt h hz (by simpa using hne)]
theorem Pt {ms : Array (String × TypeId)} (hi : P.underlying T = some (.interface ms)) (w : World) : (binOp .eql T .nilIface .nilIface).run P w = .ok (.bool true) w:=by
 have h : ∀ d : Nat,(Op.equalIn (d + 1) T .nilIface .nilIface).run P w = .ok true w:=fun d=>by simp [Op.equalIn,run_underlying hi]
 simp only[binOp];simp [Op.equal,Op.maxDepth,h 9999]
theorem Pu {ms : Array (String × TypeId)} (hi : P.underlying T = some (.interface ms)) (w : World) : (binOp .eql T (.iface t v) .nilIface).run P w = .ok (.bool false) w:=by
 have h : ∀ d : Nat,(Op.equalIn (d + 1) T (.iface t v) .nilIface).run P w = .ok false w:=fun d=>by simp [Op.equalIn,run_underlying hi]
 simp only[binOp];simp [Op.equal,Op.maxDepth,h 9999]
theorem Xa {ms : Array (String × TypeId)} (hi : P.underlying T = some (.interface ms)) (hx : ev l x = .nilIface) : gQ P l (.binOp .eql T x (.const .nilIface) T') ty (.bool true):=fun w o ho _=>by
 simp [execOp,ho,dH,hx,bP,eqGuard,Pt hi]
theorem Hm {ms : Array (String × TypeId)} (hi : P.underlying T = some (.interface ms)) (hx : ev l x = .iface t v) : gQ P l (.binOp .eql T x (.const .nilIface) T') ty (.bool false):=fun w o ho _=>by
 simp [execOp,ho,dH,hx,bP,eqGuard,Pu hi]
end
section
variable {P : Program} {ds : List Deferred} {l : List Value} {ty : TypeId} {v u : Value}
variable {ops : Array Oper} {Q : Exit → Act → World → Prop} {rest : List Oper} {d : Nat} {pos : String} {after : Array Edge} {w w0 : World} {is : List It}
theorem oF {f : FuncId} {fo : Operand} {name : String} {args : List Value} {a0 : Array TypeId} (m : cR w0 w is) (hx : ev l fo = u) (hm : ∀ w : World,(invoke (.fn (.method name) #[]) #[u]).run P w = .ok (.enter f args.toArray) w) (hc : dP P f args v)
 (h : ∀ u,cR w0 u is → wpList P ops Q rest (Fr (l.set d v) ds) u) : wpList P ops Q (Oper.mk (some d) (.call { callee:=.invoke fo name,args:=#[],argTypes:=a0 }) ty pos after none :: rest) (Fr l ds) w:=by
 refine wpList_plain rfl fun K hK=>?_;unfold Oper.wp;have e : ∀ o : Oper,o.op = .call { callee:=.invoke fo name,args:=#[],argTypes:=a0 } → (execOp (Fr l).eval o).run P w = .ok (.enter f args.toArray) w:=fun o ho=>by
  have hm:=hm w;simp [execOp,ho,resolve,dH,hx,hm]
 rw [iX,e _ rfl];refine (hc w).2.mono ?_;rintro e w' ⟨v,rfl,hE,rfl⟩;show K ((Fr l ds).put (some d) v) w'
 rw [iP];exact hK _ _ (h w' (m.ext' hE))
end
section
variable {P : Program} {w0 : World} {is : List It} {l : List Value} {ty : TypeId} {u : Value}
variable {ops : Array Oper} {Q : Act → Prop} {rest : List Oper} {d : Nat} {pos : String} {after : Array Edge} {v : Value} {ds : List Deferred}
end
section
variable {P : Program} {l : List Value} {x y z : Operand} {ty : TypeId} {k : IntKind} {m n q r : Int}
theorem abb {a0 : Array TypeId} (hx : ev l x = .int k m) (hy : ev l y = .int k n) (hz : ev l z = .int k q) (hr : (if q < (if n < m then n else m) then q else if n < m then n else m) = r) : gQ P l (.call { callee:=.builtin .min,args:=#[x,y,z],argTypes:=a0 }) ty (.int k r):=fun w o ho _=>by
 subst hr;simp [execOp,ho,resolve,invoke,builtin,Builtin.min_,Builtin.min2,dH,hx,hy,hz]
theorem abc {a0 : Array TypeId} (hx : ev l x = .int k m) (hy : ev l y = .int k n) (hz : ev l z = .int k q) (hr : (if (if m < n then n else m) < q then q else if m < n then n else m) = r) : gQ P l (.call { callee:=.builtin .max,args:=#[x,y,z],argTypes:=a0 }) ty (.int k r):=fun w o ho _=>by
 subst hr;simp [execOp,ho,resolve,invoke,builtin,Builtin.max_,Builtin.max2,dH,hx,hy,hz]
end
theorem wU {P : Program} {Q : Exit → Act → World → Prop} {l : List Value} {ds : List Deferred} {c1 c2 : Code} {w : World} {x : Operand} {p : Prop} [Decidable p] (hx : ev l x = .bool (!decide p)) (ht : ¬ p → c1.wp P Q (Fr l ds) w) (hf : p → c2.wp P Q (Fr l ds) w) : (Code.cond x c1 c2).wp P Q (Fr l ds) w :=
 cQ (p:=¬ p) (by rw [hx,decide_not]) ht (fun h=>hf (Decidable.not_not.1 h))
end Go.Lith
namespace Go.Lith
open Go.RowKit
theorem Ni (bs : List Int) (ls : List (List T3)) : ((cB bs ls).map (·.1)).Pairwise (· < ·) ∧ ∀ x ∈ cB bs ls,x.1 < ls.length:=by
 have H : ∀ k,k ≤ ls.length → ((cB bs (ls.take k)).map (·.1)).Pairwise (· < ·) ∧ ∀ x ∈ cB bs (ls.take k),x.1 < k:=by
  intro k
  induction k with
  | zero=>exact fun _=>⟨.nil,fun x h=>by simp [cB] at h⟩
  | succ k ih =>
   intro hk;obtain ⟨h1,h2⟩:=ih (by omega);obtain ⟨l,hl⟩ : ∃ l,ls[k]? = some l:=⟨_,List.getElem?_eq_getElem (by omega)⟩
   rw [nI hl];split
   · refine ⟨?_,fun x hx=>?_⟩
     · rw [List.map_append,List.pairwise_append]
       refine ⟨h1,List.pairwise_singleton ..,fun a ha b hb=>?_⟩;obtain ⟨x,hx,rfl⟩:=List.mem_map.1 ha;rw [List.mem_singleton.1 hb];exact h2 x hx
     · rcases List.mem_append.1 hx with hx | hx
       · have:=h2 x hx; omega
       · rw [List.mem_singleton.1 hx]; exact Nat.lt_succ_self k
   · rw [List.append_nil]
     exact ⟨h1,fun x hx=>by have:=h2 x hx; omega⟩
 have h:=H ls.length (Nat.le_refl _);rwa [List.take_length] at h
theorem Fb {r : fY} {h : Option (Rat × Nat)} {x : Nat × Kd} : ∀ y ∈ nW r h x,y.1 = x.1:=by
 intro y hy;unfold nW at hy;split at hy
 · cases hy
 · split at hy
   · rw [List.mem_singleton.1 hy]
   · split at hy
     · rw [List.mem_singleton.1 hy]
     · cases hy
theorem Nj {r : fY} {h : Option (Rat × Nat)} : ∀ {xs : List (Nat × Kd)},(xs.map (·.1)).Pairwise (· < ·) → ((cT r h xs).map (·.1)).Pairwise (· < ·)
 | [],_=>.nil
 | x :: xs,hp=>by
  have hp:=List.pairwise_cons.1 hp;unfold cT;rw [List.flatMap_cons,List.map_append,List.pairwise_append];refine ⟨?_,Nj hp.2,fun a ha b hb=>?_⟩
  · have:=Ey (r:=r) (h:=h) (x:=x)
    match hk : nW r h x,this with
    | [],_=>exact .nil
    | [y],_=>exact List.pairwise_singleton ..
  · obtain ⟨y,hy,rfl⟩:=List.mem_map.1 ha
    obtain ⟨z,hz,rfl⟩:=List.mem_map.1 hb;obtain ⟨u,hu,hz⟩:=List.mem_flatMap.1 hz;rw [Fb y hy,Fb z hz];exact hp.1 _ (List.mem_map_of_mem hu)
theorem abd (r : fY) (xs : List (List T3)) (bs : List Int) : (fS r xs bs).opn.Pairwise (· < ·) ∧ ∀ i ∈ (fS r xs bs).opn,0 ≤ i ∧ i < xs.length:=by
 unfold fS;split
 · have u1:=Nj (r:=r) (h:=bE r (bQ bs xs)) (Ni bs xs).1
   unfold Hh;split
   · refine ⟨?_,fun i hi=>?_⟩
     · have e : (cT r (bE r (bQ bs xs)) (cB bs xs)).map (fun x=>(x.1 : Int)) = ((cT r (bE r (bQ bs xs)) (cB bs xs)).map (·.1)).map (fun k : Nat=>(k : Int)):=by rw [List.map_map]; rfl
       show ((cT r (bE r (bQ bs xs)) (cB bs xs)).map (fun x=>(x.1 : Int))).Pairwise (· < ·)
       rw [e,List.pairwise_map];exact u1.imp fun h=>by omega
     · obtain ⟨x,hx,rfl⟩:=List.mem_map.1 hi
       obtain ⟨kd,hm,_⟩:=Ck.1 (show (x.1,x.2) ∈ _ from hx);have:=(Ni bs xs).2 _ hm;simp only at this;omega
   · split
     · exact ⟨.nil,fun i hi=>by cases hi⟩
     · exact ⟨.nil,fun i hi=>by cases hi⟩
 · exact ⟨.nil,fun i hi=>by cases hi⟩
end Go.Lith
namespace Go.Lith
open Go.RowKit
end Go.Lith
namespace Go.Lith
open Go.RowKit
end Go.Lith
namespace Go.Proofs.YtimjandkmfcmiaaGreatDoor
open Tryz
open Go.RowKit Go.Lith
set_option maxRecDepth 100000
attribute [local irreducible] wpList wpQuiet eS dV eG Code.wp
def kdV (i : Nat) : Kd → Go.Value
 | .no=>.nilIface
 | .ex=>.iface 69 (.agg #[.int .i64 (i : Int)])
 | .unk=>.iface 83 (.agg #[.int .i64 (i : Int)])
 | .near lo hi=>.iface 88 (.agg #[.int .i64 (i : Int),.int .i64 lo.x,.int .i64 lo.y,.int .i64 lo.z,.int .i64 hi.x,.int .i64 hi.y,.int .i64 hi.z])
def Lx : Kd → Prop
 | .near lo hi=>I3 lo ∧ I3 hi
 | _=>True
theorem Hn {ps : List P3} (h : ps ≠ []) (hi : ∀ p ∈ ps,I3 p) : I3 (uL ps) ∧ I3 (uM ps):=by
 cases ps with
 | nil=>exact absurd rfl h
 | cons p ps =>
  obtain ⟨_,⟨a,ha,ea⟩,⟨b,hb,eb⟩,⟨c,hc,ec⟩⟩:=Ae ps p;obtain ⟨_,⟨d,hd,ed⟩,⟨e,he,ee⟩,⟨f,hf,ef⟩⟩:=Af ps p;exact ⟨⟨(show (uL (p :: ps)).x = a.x from ea) ▸ (hi a ha).x,(show (uL (p :: ps)).y = b.y from eb) ▸ (hi b hb).y,(show (uL (p :: ps)).z = c.z from ec) ▸ (hi c hc).z⟩,
   ⟨(show (uM (p :: ps)).x = d.x from ed) ▸ (hi d hd).x,(show (uM (p :: ps)).y = e.y from ee) ▸ (hi e he).y,(show (uM (p :: ps)).z = f.z from ef) ▸ (hi f hf).z⟩⟩
theorem Nk {l : List T3} {b : Int} (hl : ∀ t ∈ l,IT t) (h0 : b < 9223372036854775808) : Lx (qQ l b):=by
 unfold qQ
 repeat' split
 all_goals try trivial
 rename_i h1 h2 h3 hf;have h3 : nV l ≠ []:=by
  cases l with
  | nil=>exact absurd rfl h3
  | cons t l=>simp [nV]
 have hi : ∀ p ∈ nV l,I3 p:=fun p hp=>by
  obtain ⟨t,ht,hp⟩:=List.mem_flatMap.1 hp;have:=hl t ht;simp only[List.mem_cons,List.not_mem_nil,or_false] at hp;rcases hp with rfl | rfl | rfl
  · exact this.a
  · exact this.b
  · exact this.c
 obtain ⟨k1,k2⟩:=Hn h3 hi;unfold kI at hf;obtain ⟨⟨a1,a2⟩,⟨a3,a4⟩,a5,a6⟩:=k1;obtain ⟨⟨b1,b2⟩,⟨b3,b4⟩,b5,b6⟩:=k2;refine ⟨⟨⟨?_,?_⟩,⟨?_,?_⟩,⟨?_,?_⟩⟩,⟨⟨?_,?_⟩,⟨?_,?_⟩,⟨?_,?_⟩⟩⟩ <;> (simp only[P3.sub,P3.pls,P3.all]; omega)
theorem Xb (l : List T3) : nV l = eV l:=rfl
theorem Ju {l : List T3} (h : eV l = []) : l = []:=by
 cases l with
 | nil=>rfl
 | cons t l=>simp [eV] at h
theorem Nl {l : List T3} (hl : ∀ t ∈ l,IT t) : ∀ p ∈ eV l,I3 p:=fun p hp=>by
 obtain ⟨t,ht,hp⟩:=List.mem_flatMap.1 hp;have:=hl t ht;simp only[List.mem_cons,List.not_mem_nil,or_false] at hp;rcases hp with rfl | rfl | rfl
 · exact this.a
 · exact this.b
 · exact this.c
theorem abe (i : Int) (w : World) : (invoke (.fn (.method "lithophane/trace.number") #[]) #[.iface 83 (.agg #[.int .i64 i])]).run prog w = .ok (.enter 202 [.int .i64 i].toArray) w:=by kernel_rfl
theorem abf (i a b c d e f : Int) (w : World) : (invoke (.fn (.method "lithophane/trace.number") #[]) #[.iface 88 (.agg #[.int .i64 i,.int .i64 a,.int .i64 b,.int .i64 c,.int .i64 d,.int .i64 e,.int .i64 f])]).run prog w = .ok (.enter 202 [.int .i64 i].toArray) w:=by kernel_rfl
theorem oG {i : Nat} {kd : Kd} (h : kd.other = true) (w : World) : (invoke (.fn (.method "lithophane/trace.number") #[]) #[kdV i kd]).run prog w = .ok (.enter 202 [.int .i64 (i : Int)].toArray) w:=by
 cases kd with
 | no=>cases h
 | ex=>cases h
 | unk=>exact abe i w
 | near lo hi=>exact abf i _ _ _ _ _ _ w
theorem kJ {i : Int} : dP prog 202 [.int .i64 i] (.int .i64 i):=by
 intro w;refine ⟨aaw,?_⟩;have m:=cR.refl w
 go_enter func202,ntmps202
 refine aF fun K1 k1=>wp_region_lit (aA (aD) (aC (k1 _ _ ?_)));refine aF fun K2 k2=>wp_region_lit (aA (aB) (aA (aD) (aC (k2 _ _ ?_))));refine wp_ret ?_;simp only[zz];try simp only[Exit.inBlock,Exit.then,if_true]
 refine bU rfl rfl ?_;try simp only[zD,zE]
 exact ⟨_,rfl,m.ext,rfl⟩
theorem Ho  : dP prog 25 [] (Q 0):=by
 intro w;refine ⟨abI,?_⟩;have m:=cR.refl w
 go_enter func25,ntmps25
 refine aF fun K1 k1=>wp_region_lit (bC m cD rfl ?_);clear m; intro g1 u m;refine aC (k1 _ _ ?_);refine aF fun K2 k2=>?_;simp only[zz];haveI : Iw (1 : Int):=⟨⟨by decide,by decide⟩⟩
 refine wp_region_lit (aW m rfl rfl (lG (n:=1) Iw.h) ?_);clear m; intro u m;refine aA (Ga rfl) ?_;simp only[zz];refine aL m 0 rfl rfl rfl aK (cA rfl) rfl ?_;clear m; intro u m; simp only[zy,zx,aX,zF,zG,Nat.reduceAdd] at m;refine aC (k2 _ _ ?_);refine wp_ret ?_;try simp only[Exit.inBlock,Exit.then,if_true]
 refine bU rfl ⟨_,rfl,((m.b 0 rfl).full bB aK)⟩ ?_;try simp only[zD,zE]
 exact ⟨_,rfl,m.ext,rfl⟩
theorem abg {lo hi : P3} {bd : Int} [I3 lo] [I3 hi] (h0 : 0 < bd) (h1 : bd < 9223372036854775808) : dP prog 42 [pt lo,pt hi,.int .i64 bd] (.bool (decide (kI lo hi bd))):=by
 intro w;refine ⟨abY,?_⟩;have m:=cR.refl w
 go_enter func42,ntmps42
 refine aF fun K1 k1=>wp_region_lit (cM m rfl ?_);clear m; intro g1 u m;simp only[zz];refine cM m rfl ?_;clear m; intro g2 u m;refine aA (aD) (aC (k1 _ _ ?_));refine aF fun K2 k2=>wp_region_lit (aA (aH (c:=0) bZ rfl aM rfl rfl) ?_);simp only[zz];refine aI rfl ((m.b 1 rfl).lies1 aZ rfl) ?_;simp only[zz];refine aA (aH (c:=0) bZ rfl aM rfl rfl) ?_;simp only[zz];refine aI rfl ((m.b 1 rfl).lies1 aZ rfl) ?_;simp only[zz];refine aA (aH (c:=0) bZ rfl aM rfl rfl) ?_;simp only[zz];refine aI rfl ((m.b 1 rfl).lies1 aZ rfl) ?_;simp only[zz];refine aA (abb rfl rfl rfl rfl) (aA (aB) ?_);simp only[zz];refine aA (bD rfl rfl (aQ (by omega) (by omega))) (aA (lC rfl rfl) (aA (aB) (pM rfl (fun hb=>aH (c:=0) bZ rfl aM rfl rfl) ?_)));simp only[zz];refine sI rfl (fun hb=>kS (oC hb rfl) ((m.b 0 rfl).lies1 aZ rfl)) (pM rfl (fun hb=>aH (c:=0) bZ rfl aM rfl rfl) ?_);simp only[zz];refine sI rfl (fun hb=>kS (oC hb rfl) ((m.b 0 rfl).lies1 aZ rfl)) (pM rfl (fun hb=>aH (c:=0) bZ rfl aM rfl rfl) ?_);simp only[zz];refine sI rfl (fun hb=>kS (oC hb rfl) ((m.b 0 rfl).lies1 aZ rfl)) (pM rfl (fun hb=>abc (oC hb rfl) (oC hb rfl) (oC hb rfl) rfl) (pM rfl (fun hb=>aB) ?_));simp only[zz];refine pM rfl (fun hb=>dU rfl (oC hb rfl) (aQ (by omega) (by omega))) (pM rfl (fun hb=>yF (oC hb rfl) (oC hb rfl)) (aA (xT rfl rfl rfl) (aA (aD) ?_)));simp only[zz];refine aC (k2 _ _ ?_);refine wp_ret ?_;try simp only[Exit.inBlock,Exit.then,if_true]
 refine bU rfl rfl ?_;try simp only[zD,zE]
 exact ⟨_,rfl,m.ext,iD (by rw [← Bool.decide_and]; exact decide_eq_decide.2 (by unfold kI; omega))⟩
theorem abh {i N cap M bcap : Nat} {A B : Option Addr} {l : List T3} {bs : List Int} (w : World) (hi : i < 4611686018427387904) (hT : dK w A N l) (hN : N ≤ 300000) (hb : eY w B M bs) : iL prog 26 [.int .i64 (i : Int),.slice A N cap,.slice B M bcap] w (fun v _=>v = kdV i (qQ l (iS bs i))):=by
 refine ⟨abJ,?_⟩;have m:=cR.refl w
 go_enter func26,ntmps26
 refine aF fun K1 k1=>wp_region_lit (aA (aD) (aC (k1 _ _ ?_)));refine aF fun K2 k2=>wp_region_lit (aA (aD) (aC (k2 _ _ ?_)));refine aF fun K3 k3=>aF fun K4 k4=>wp_region_lit (aA (aB) (aA (aB) ?_));simp only[zz];refine aA (bR rfl bN rfl) (aA (eA rfl rfl) (aC (k4 _ _ ?_)));simp only[zz];refine cQ rfl (fun hc1=>?_) (fun hc1=>?_)
 ·
  obtain ⟨z,hz,_,a,rfl,hcell⟩:=hb.get (i:=i) (by omega);have ez : iS bs i = z:=by rw [iS,hz]; rfl
  have hz64 : z < 9223372036854775808:=(hb.it z (List.mem_of_getElem? hz)).2;refine wp_region_lit (aA (aB) (aA (aB) ?_));simp only[zz];refine aA (aU bN aM rfl rfl (by omega) (by omega) (fT (Int.toNat_natCast _))) ?_;simp only[zz];refine aI rfl (Lith.lies1 (m.ext.cell hcell) aZ) ?_;simp only[zz];refine aA (aD) (aC (k3 _ _ ?_));refine aF fun K5 k5=>wp_block (aF fun K6 k6=>wp_region_lit (aA (aB) (aA (eA rfl rfl) (aA (aD) ?_))));simp only[zz];refine aC (k6 _ _ ?_);refine cQ rfl (fun hc2=>?_) (fun hc2=>?_)
  ·
   refine aF fun K7 k7=>wp_region_lit (aA (aB) (aA (rX rfl) (aA (rM (by kernel_rfl) rfl) (aA (aD) ?_))));simp only[zz];refine aC (k7 _ _ ?_);refine wp_ret ?_;try simp only[Exit.inBlock,Exit.then,if_true]
   refine bU rfl rfl ?_;try simp only[zD,zE]
   exact ⟨_,rfl,m.ext,by rw [ez,qQ,if_pos (by omega)]; rfl⟩
  ·
   refine aF fun K8 k8=>wp_region_lit (aA (aB) (aA (nA rfl rfl) (aA (aD) (aC (k8 _ _ ?_)))));simp only[zz];refine cQ rfl (fun hc3=>?_) (fun hc3=>?_)
   ·
    refine aF fun K9 k9=>wp_region_lit (aA (aB) (aA (Gf rfl) (aA (rM (by kernel_rfl) rfl) (aA (aD) ?_))));simp only[zz];refine aC (k9 _ _ ?_);refine wp_ret ?_;try simp only[Exit.inBlock,Exit.then,if_true]
    refine bU rfl rfl ?_;try simp only[zD,zE]
    exact ⟨_,rfl,m.ext,by rw [ez,qQ,if_neg (by omega),if_pos (by omega)]; rfl⟩
   ·
    refine wp_skip (k5 _ _ ?_);refine aF fun K10 k10=>wp_region_lit (aA (aB) ?_);simp only[zz];refine fU m rfl rfl (ac4 _ (hT.ext m.ext) hN) ?_;clear m; rintro v u m rfl;refine aA (aB) (aA (aT rfl rfl) (aA (aT rfl rfl) ?_));simp only[zz];refine aA (aT rfl rfl) ?_;simp only[zz];refine bC m eH rfl ?_;clear m; intro g1 u m;simp only[zz];refine bC m eH rfl ?_;clear m; intro g2 u m;simp only[zz];refine aL m 1 rfl rfl rfl aO (cA rfl) rfl ?_;clear m; intro u m; simp only[zy,zx,aX,zF,zG,Nat.reduceAdd] at m;refine aL m 0 rfl rfl rfl aO (cA rfl) rfl ?_;clear m; intro u m; simp only[zy,zx,aX,zF,zG,Nat.reduceAdd] at m;refine aA (aD) (aC (k10 _ _ ?_));refine aF fun K11 k11=>wp_block (aF fun K12 k12=>wp_region_lit (aA (aB) (aA (eT rfl) (aA (aD) ?_))));simp only[zz];refine aC (k12 _ _ ?_);refine wU rfl (fun hc4=>?_) (fun hc4=>?_)
    ·
     have hl : l = []:=hT.empty (by omega);refine aF fun K13 k13=>wp_region_lit (aA (aD) (aC (k13 _ _ ?_)));refine wp_ret ?_;simp only[zz];try simp only[Exit.inBlock,Exit.then,if_true]
     refine bU rfl rfl ?_;try simp only[zD,zE]
     exact ⟨_,rfl,m.ext,by rw [ez,qQ,if_neg (by omega),if_neg (by omega),if_pos hl]; rfl⟩
    ·
     have hl : l ≠ []:=fun e=>by have:=hT.len; rw [e] at this; simp only[List.length_nil] at this; omega
     have hi3:=Hn (ps:=eV l) (fun e=>hl (Ju e)) (Nl hT.it);haveI:=hi3.1;haveI:=hi3.2;have hb0 : 0 < z:=by omega
     refine aF fun K14 k14=>wp_region_lit (aI rfl ((m.b 1 rfl).full bK aO) ?_);simp only[zz];refine aI rfl ((m.b 0 rfl).full bK aO) ?_;simp only[zz];refine aA (aB) ?_;simp only[zz];refine aW m rfl rfl (abg hb0 hz64) ?_;clear m; intro u m;refine aA (eT rfl) (aA (aD) (aC (k14 _ _ ?_)));simp only[zz];refine wU rfl (fun hc5=>?_) (fun hc5=>?_)
     ·
      have hf : ¬ kI (uL (eV l)) (uM (eV l)) z:=hc5;refine aF fun K15 k15=>wp_region_lit (aA (aB) (aA (rX rfl) (aA (rM (by kernel_rfl) rfl) (aA (aD) ?_))));simp only[zz];refine aC (k15 _ _ ?_);refine wp_ret ?_;try simp only[Exit.inBlock,Exit.then,if_true]
      refine bU rfl rfl ?_;try simp only[zD,zE]
      exact ⟨_,rfl,m.ext,by rw [ez,qQ,if_neg (by omega),if_neg (by omega),if_neg hl,Xb,if_neg hf]; rfl⟩
     ·
      have hf : kI (uL (eV l)) (uM (eV l)) z:=hc5;have hf2:=hf;unfold kI at hf2;obtain ⟨⟨⟨a1,a2⟩,⟨a3,a4⟩,a5,a6⟩,⟨⟨b1,b2⟩,⟨b3,b4⟩,b5,b6⟩⟩:=hi3;refine wp_skip (k11 _ _ ?_);refine aF fun K16 k16=>wp_region_lit (aA (aH (c:=0) bZ rfl aM rfl rfl) ?_);simp only[zz];refine aI rfl ((m.b 1 rfl).lies1 aZ rfl) ?_;simp only[zz];refine aA (aB) ?_;simp only[zz];refine aA (dU rfl rfl (aQ (by omega) (by omega))) (aA (aH (c:=0) bZ rfl aM rfl rfl) ?_);simp only[zz];refine aI rfl ((m.b 1 rfl).lies1 aZ rfl) ?_;simp only[zz];refine aA (aB) ?_;simp only[zz];refine aA (dU rfl rfl (aQ (by omega) (by omega))) (aA (aH (c:=0) bZ rfl aM rfl rfl) ?_);simp only[zz];refine aI rfl ((m.b 1 rfl).lies1 aZ rfl) ?_;simp only[zz];refine aA (aB) ?_;simp only[zz];refine aA (dU rfl rfl (aQ (by omega) (by omega))) (aA (dB rfl rfl rfl) ?_);simp only[zz];refine aL m 1 rfl rfl rfl aO (cA rfl) rfl ?_;clear m; intro u m; simp only[zy,zx,aX,zF,zG,Nat.reduceAdd] at m;refine aC (k16 _ _ ?_);refine aF fun K17 k17=>wp_region_lit (aA (aH (c:=0) bZ rfl aM rfl rfl) ?_);simp only[zz];refine aI rfl ((m.b 0 rfl).lies1 aZ rfl) ?_;simp only[zz];refine aA (aB) ?_;simp only[zz];refine aA (bD rfl rfl (aQ (by omega) (by omega))) (aA (aH (c:=0) bZ rfl aM rfl rfl) ?_);simp only[zz];refine aI rfl ((m.b 0 rfl).lies1 aZ rfl) ?_;simp only[zz];refine aA (aB) ?_;simp only[zz];refine aA (bD rfl rfl (aQ (by omega) (by omega))) (aA (aH (c:=0) bZ rfl aM rfl rfl) ?_);simp only[zz];refine aI rfl ((m.b 0 rfl).lies1 aZ rfl) ?_;simp only[zz];refine aA (aB) ?_;simp only[zz];refine aA (bD rfl rfl (aQ (by omega) (by omega))) (aA (dB rfl rfl rfl) ?_);simp only[zz];refine aL m 0 rfl rfl rfl aO (cA rfl) rfl ?_;clear m; intro u m; simp only[zy,zx,aX,zF,zG,Nat.reduceAdd] at m;refine aC (k17 _ _ ?_);refine aF fun K18 k18=>wp_region_lit (aA (aB) ?_);simp only[zz];refine aI rfl ((m.b 1 rfl).full bK aO) ?_;simp only[zz];refine aI rfl ((m.b 0 rfl).full bK aO) ?_;simp only[zz];refine aA (xI rfl rfl rfl) (aA (rM (by kernel_rfl) rfl) (aA (aD) (aC (k18 _ _ ?_))));refine wp_ret ?_;simp only[zz];try simp only[Exit.inBlock,Exit.then,if_true]
      refine bU rfl rfl ?_;try simp only[zD,zE]
      exact ⟨_,rfl,m.ext,by rw [ez,qQ,if_neg (by omega),if_neg (by omega),if_neg hl,Xb,if_pos hf]; rfl⟩
 ·
  have ez : iS bs i = -1:=by rw [iS,List.getElem?_eq_none (by rw [hb.len]; omega)]; rfl
  refine wp_skip (k3 _ _ ?_);refine aF fun K19 k19=>wp_block (aF fun K20 k20=>wp_region_lit (aA (aB) (aA (cK (m:=(-1)) (n:=0) rfl rfl (by decide)) (aA (aD) (aC (k20 _ _ ?_))))));refine bX rfl (aF fun K21 k21=>wp_region_lit (aA (aB) ?_));simp only[zz];refine aA (rX rfl) (aA (rM (by kernel_rfl) rfl) (aA (aD) (aC (k21 _ _ ?_))));refine wp_ret ?_;simp only[zz];try simp only[Exit.inBlock,Exit.then,if_true]
  refine bU rfl rfl ?_;try simp only[zD,zE]
  exact ⟨_,rfl,m.ext,by rw [ez,qQ,if_pos (by decide)]; rfl⟩
theorem Xc {r : fY} {i : Nat} {kd : Kd} [IR r] (ho : kd.other = true) (hk : Lx kd) : dP prog 28 [lH r,kdV i kd] (.tuple #[Q ((iU r kd).getD 0),.bool (iU r kd).isSome]):=by
 intro w;refine ⟨abL,?_⟩;have m:=cR.refl w
 go_enter func28,ntmps28
 refine aF fun K1 k1=>wp_region_lit (cM m rfl ?_);clear m; intro g1 u m;simp only[zz];refine bC m cD rfl ?_;clear m; intro g2 u m;refine aA (aD) (aC (k1 _ _ ?_));refine aF fun K2 k2=>aF fun K3 k3=>wp_region_lit (aA (aB) (aC (k3 _ _ ?_)));refine wp_block (aF fun K4 k4=>?_);simp only[zz];cases kd
 ·
  cases ho
 ·
  cases ho
 ·
  refine wp_region_lit (aA (xV (by kernel_rfl) rfl) (aA (aT rfl rfl) (aA (aT rfl rfl) (aC (k4 _ _ ?_)))));refine bX rfl (aF fun K5 k5=>wp_region_lit ?_);simp only[zz];refine bC m Fw rfl ?_;clear m; intro g3 u m;simp only[zz];refine aL m 0 rfl rfl rfl Rb (cA rfl) rfl ?_;clear m; intro u m; simp only[zy,zx,aX,zF,zG,Nat.reduceAdd] at m;refine aC (k5 _ _ ?_);refine aF fun K6 k6=>wp_region_lit (aW m rfl rfl (Ho) ?_);clear m; intro u m;simp only[zz];refine aL m 1 rfl rfl rfl aK (cA rfl) rfl ?_;clear m; intro u m; simp only[zy,zx,aX,zF,zG,Nat.reduceAdd] at m;refine aA (aD) (aC (k6 _ _ ?_));refine wp_ret ?_;simp only[zz];try simp only[Exit.inBlock,Exit.then,if_true]
  refine jL rfl ⟨_,rfl,((m.b 1 rfl).full bB aK)⟩ rfl ?_;try simp only[zD,zE]
  exact ⟨_,rfl,m.ext,rfl⟩
 ·
  rename_i lo hi;obtain ⟨hk1,hk2⟩:=hk;haveI:=hk1;haveI:=hk2;refine wp_region_lit (aA (xW (by kernel_rfl) Fw (by decide) rfl) (aA (aT rfl rfl) (aA (aT rfl rfl) (aC (k4 _ _ ?_)))));refine eQ rfl (aF fun K7 k7=>wp_region_lit (aA (xV (by kernel_rfl) rfl) ?_));simp only[zz];refine aA (aT rfl rfl) (aA (aT rfl rfl) (aC (k7 _ _ ?_)));refine bX rfl (aF fun K8 k8=>wp_region_lit ?_);simp only[zz];refine bC m Mo rfl ?_;clear m; intro g3 u m;simp only[zz];refine aL m 0 rfl rfl rfl Rc (cA rfl) rfl ?_;clear m; intro u m; simp only[zy,zx,aX,zF,zG,Nat.reduceAdd] at m;refine aC (k8 _ _ ?_);refine aF fun K9 k9=>?_;have hbv : (∃ p q,nH r lo hi = some (p,q)) ∨ nH r lo hi = none:=by cases nH r lo hi with | none=>exact .inr rfl | some x=>exact .inl ⟨x.1,x.2,rfl⟩
  refine wp_region_lit (aI rfl ((m.b 2 rfl).full fB dJ) ?_);simp only[zz];refine aA (aH (c:=2) underlying88 rfl aO rfl rfl) ?_;simp only[zz];refine aI rfl ((m.b 0 rfl).lies bK aO rfl rfl) ?_;simp only[zz,zy,Nat.zero_add,Nat.reduceAdd,Nat.reduceMul,Int.reduceToNat];refine aA (aH (c:=2) underlying88 rfl aO rfl rfl) ?_;simp only[zz];refine aI rfl ((m.b 0 rfl).lies bK aO rfl rfl) ?_;simp only[zz,zy,Nat.zero_add,Nat.reduceAdd,Nat.reduceMul,Int.reduceToNat];refine aW m rfl rfl (Ts) ?_;clear m; intro u m;refine aA (aB) ?_;simp only[zz];rw [show Wu (nH r lo hi) = .tuple #[Q ((nH r lo hi).getD (0,0)).1,Q ((nH r lo hi).getD (0,0)).2,.bool (nH r lo hi).isSome] by cases nH r lo hi <;> rfl];refine aA (aT rfl rfl) (aA (aT rfl rfl) (aA (aT rfl rfl) ?_));simp only[zz];refine bC m cD rfl ?_;clear m; intro g4 u m;simp only[zz];refine bC m cD rfl ?_;clear m; intro g5 u m;simp only[zz];refine aL m 1 rfl rfl rfl aK (cA rfl) rfl ?_;clear m; intro u m; simp only[zy,zx,aX,zF,zG,Nat.reduceAdd] at m;refine aL m 0 rfl rfl rfl aK (cA rfl) rfl ?_;clear m; intro u m; simp only[zy,zx,aX,zF,zG,Nat.reduceAdd] at m;refine aA (aD) (aC (k9 _ _ ?_));refine aF fun K10 k10=>wp_region_lit ?_;simp only[zz];refine aI rfl ((m.b 1 rfl).full bB aK) ?_;simp only[zz];refine aA (aB) ?_;simp only[zz];refine aL m 3 rfl rfl rfl aK (cA rfl) rfl ?_;clear m; intro u m; simp only[zy,zx,aX,zF,zG,Nat.reduceAdd] at m;refine aA (aD) (aC (k10 _ _ ?_));refine wp_ret ?_;simp only[zz];try simp only[Exit.inBlock,Exit.then,if_true]
  refine jL rfl ⟨_,rfl,((m.b 3 rfl).full bB aK)⟩ rfl ?_;try simp only[zD,zE]
  exact ⟨_,rfl,m.ext,by rw [iU]; rcases hbv with ⟨p,q,e⟩ | e <;> (rw [e]; rfl)⟩
end Go.Proofs.YtimjandkmfcmiaaGreatDoor
namespace Go.Lith
open Go.RowKit
section
variable {α : Type} {enc : α → List Value} {c : Nat} {w w' : World} {A : Option Addr} {n : Nat} {xs : List α}
structure LAt (enc : α → List Value) (c : Nat) (w : World) (A : Option Addr) (n : Nat) (xs : List α) : Prop where
 len : xs.length = n
 row : ∀ i x,xs[i]? = some x → ∃ a,A = some a ∧ qS w (a.add (i * c)) (enc x)
theorem LAt.get (h : LAt enc c w A n xs) {i : Nat} (hi : i < n) : ∃ x,xs[i]? = some x ∧ ∃ a,A = some a ∧ qS w (a.add (i * c)) (enc x):=by
 have hl : i < xs.length:=by rw [h.len]; exact hi
 exact ⟨xs[i],List.getElem?_eq_getElem hl,h.row i _ (List.getElem?_eq_getElem hl)⟩
theorem Cp (hc : ∀ x,(enc x).length = c) : ∀ (xs : List α) (k : Nat),(xs.drop k).flatMap enc = (xs.flatMap enc).drop (k * c)
 | xs,0=>by simp
 | [],k + 1=>by simp
 | x :: xs,k + 1=>by
  rw [List.drop_succ_cons,List.flatMap_cons,Cp hc xs k,List.drop_append,hc,List.drop_of_length_le (l:=enc x) (by rw [hc,Nat.add_mul]; omega),Nat.add_mul,Nat.one_mul,Nat.add_sub_cancel,List.nil_append]
theorem Tt (hc : ∀ x,(enc x).length = c) {xs : List α} {i : Nat} {x : α} (h : xs[i]? = some x) : (xs.flatMap enc).drop (i * c) = enc x ++ (xs.drop (i + 1)).flatMap enc:=by
 rw [← Cp hc,List.drop_eq_getElem_cons (List.getElem?_eq_some_iff.1 h).1,List.flatMap_cons,(List.getElem?_eq_some_iff.1 h).2]
theorem Ow.at {w0 : World} {S : List (Option Nat)} {E : TypeId} {cap g i : Nat} {x : α} (hc : ∀ x,(enc x).length = c) (h : Ow w0 w S E c (Option.some ⟨g,0,none⟩) n cap (xs.flatMap enc)) (hx : xs[i]? = Option.some x) : qS w ((⟨g,0,none⟩ : Addr).add (i * c)) (enc x):=by
 intro j u hj;have hj' : j < (enc x).length:=(List.getElem?_eq_some_iff.1 hj).1;rw [mK];refine h.rows _ _ ?_;rw [← List.getElem?_drop,Tt hc hx,List.getElem?_append_left hj'];exact hj
end
def Yq (p : P3) : List Value:=[.int .i64 p.x,.int .i64 p.y,.int .i64 p.z]
end Go.Lith
namespace Go.Lith
open Go.RowKit
section
variable {w0 w w' : World} {is : List It}
end
structure Hd where
 A : Option Addr
 n : Nat
 cap : Nat
def Hd.v (h : Hd) : Value:=.slice h.A h.n h.cap
structure jJ (w : World) (A : Option Addr) (N : Nat) (xs : List (List T3)) : Prop where
 len : xs.length = N
 row : ∀ i l,xs[i]? = some l → ∃ a,∃ h : Hd,A = some a ∧ w.cell? (a.add i) = some h.v ∧ dK w h.A h.n l ∧ h.n ≤ h.cap
theorem jJ.ext {w w' : World} {A : Option Addr} {N : Nat} {xs : List (List T3)} (h : jJ w A N xs) (hE : dL w w') : jJ w' A N xs :=
 ⟨h.len,fun i l hi=>let ⟨a,hd,e,hc,ht,hl⟩:=h.row i l hi; ⟨a,hd,e,hE.cell hc,ht.ext hE,hl⟩⟩
theorem jJ.get {w : World} {A : Option Addr} {N i : Nat} {xs : List (List T3)} (h : jJ w A N xs) (hi : i < N) : ∃ l,xs[i]? = some l ∧ ∃ a B n c,A = some a ∧ w.cell? (a.add i) = some (.slice B n c) ∧ dK w B n l ∧ n ≤ c:=by
 have hl : i < xs.length:=by rw [h.len]; exact hi
 obtain ⟨a,hd,e,hc,ht,hle⟩:=h.row i _ (List.getElem?_eq_getElem hl);exact ⟨xs[i],List.getElem?_eq_getElem hl,a,hd.A,hd.n,hd.cap,e,hc,ht,hle⟩
end Go.Lith
namespace Go.Proofs.YtimjandkmfcmiaaGreatDoor
open Tryz
open Go.RowKit Go.Lith
set_option maxRecDepth 100000
attribute [local irreducible] wpList wpQuiet eS dV eG Code.wp
def tN (a : oD) (A : Option Addr) (n cap : Nat) : Go.Value:=.agg #[.int .i64 (a.kind),.bool (cN (a.lo).num),.string (cX (a.lo).num),.bool (cN ((a.lo).den : Int)),.string (cX ((a.lo).den : Int)),.bool (cN (a.hi).num),.string (cX (a.hi).num),.bool (cN ((a.hi).den : Int)),.string (cX ((a.hi).den : Int)),.bool a.sure,.slice A n cap]
def Tu (a : oD) (w : World) (v : Go.Value) (w' : World) : Prop:=∃ A n cap,v = tN a A n cap ∧ n = a.opn.length ∧ Ow w w' [] 3 1 A n cap (a.opn.map (Value.int .i64 ·))
def Jv (xs : List (Nat × Kd)) : List Go.Value:=xs.map fun x=>kdV x.1 x.2
def tO : List (Nat × Rat) → Int
 | []=>2
 | _ :: _=>3
def eX (o : List (Nat × Rat)) : List Go.Value:=o.map fun x=>.int .i64 (x.1 : Int)
theorem Hp {w : World} {B : Option Addr} {M : Nat} {bs : List Int} {i : Nat} (hb : eY w B M bs) : iS bs i < 9223372036854775808:=by
 unfold iS;cases h : bs[i]? with
 | none=>decide
 | some z=>exact (hb.it z (List.mem_of_getElem? h)).2
theorem wV {bs : List Int} {ls : List (List T3)} (k : Nat) : (bQ bs (ls.take k)).length ≤ (ls.take k).flatten.length:=by
 have h1 : (ls.take k).flatten = (ls.take k).zipIdx.flatMap fun x=>x.1:=by
  conv=>lhs; rw [← List.zipIdx_map_fst 0 (ls.take k)]
  rw [List.flatMap_def]
 rw [h1];refine Jp fun x _=>?_;split
 · exact Nat.le_refl _
 · exact Nat.zero_le _
theorem Fc {ls : List (List T3)} {k : Nat} {l : List T3} (h : ls[k]? = some l) : (ls.take k).flatten.length + l.length ≤ ls.flatten.length:=by
 have e : ls.flatten = (ls.take (k + 1)).flatten ++ (ls.drop (k + 1)).flatten:=by rw [← List.flatten_append,List.take_append_drop]
 rw [e,nG h,List.flatten_append,List.length_append,List.length_append];simp
theorem pQ {bs : List Int} {ls : List (List T3)} : ∀ k,(cB bs (ls.take k)).length ≤ k:=by
 intro k
 induction k with
 | zero=>simp [cB]
 | succ k ih =>
  cases h : ls[k]? with
  | none =>
   have : ls.take (k + 1) = ls.take k:=by rw [List.take_of_length_le (by have:=List.getElem?_eq_none_iff.1 h; omega),List.take_of_length_le (by have:=List.getElem?_eq_none_iff.1 h; omega)]
   rw [this]; omega
  | some l =>
   rw [nI h,List.length_append];split <;> (simp; omega)
theorem lO {r : fY} {h : Option (Rat × Nat)} : ∀ (xs : List (Nat × Kd)),(cT r h xs).length ≤ xs.length
 | []=>Nat.le_refl _
 | x :: xs=>by
  have h1:=lO (r:=r) (h:=h) xs;have h2:=Ey (r:=r) (h:=h) (x:=x);unfold cT at h1 ⊢;rw [List.flatMap_cons,List.length_append,List.length_cons];omega
theorem Yr (r : fY) (h : Option (Rat × Nat)) (x : Nat × Kd) : (iU r x.2 = none ∧ nW r h x = []) ∨ (∃ q,iU r x.2 = some q ∧ h = none ∧ nW r h x = [(x.1,q)]) ∨
 ∃ q t k,iU r x.2 = some q ∧ h = some (t,k) ∧ nW r h x = if q < t then [(x.1,q)] else []:=by
 cases e : iU r x.2 with
 | none=>exact .inl ⟨rfl,by simp only[nW,e]⟩
 | some q =>
  cases h with
  | none=>exact .inr (.inl ⟨q,rfl,rfl,by simp only[nW,e]⟩)
  | some y=>exact .inr (.inr ⟨q,y.1,y.2,rfl,rfl,by simp only[nW,e]⟩)
theorem kd5 (l : List T3) (z : Int) : qQ l z = .no ∨ qQ l z = .ex ∨ qQ l z = .unk ∨ ∃ lo hi,qQ l z = .near lo hi:=by
 cases qQ l z with
 | no=>exact .inl rfl
 | ex=>exact .inr (.inl rfl)
 | unk=>exact .inr (.inr (.inl rfl))
 | near lo hi=>exact .inr (.inr (.inr ⟨lo,hi,rfl⟩))
theorem wW {o : List (Nat × Rat)} (h : o ≠ []) : tO o = 3:=by
 cases o with
 | nil=>exact absurd rfl h
 | cons=>rfl
theorem gF {o : List (Nat × Rat)} {x : Nat × Rat} : tO (o ++ [x]) = 3:=wW (by simp)
theorem ok3 (r : fY) : r.w ≤ 0 ∨ (0 < r.w ∧ r.d.x = 0 ∧ r.d.y = 0 ∧ r.d.z = 0) ∨ r.ok:=by
 by_cases h : r.w ≤ 0
 · exact .inl h
 ·
  by_cases hd : r.d.x = 0 ∧ r.d.y = 0 ∧ r.d.z = 0
  · exact .inr (.inl ⟨by omega,hd⟩)
  · exact .inr (.inr ⟨by omega,hd⟩)
theorem Tv (o : List (Nat × Rat)) : Hh none o = ⟨tO o,rR o,0,false,o.map fun x=>(x.1 : Int)⟩:=by
 cases o <;> rfl
theorem Tw {t : Rat} {k : Nat} {o : List (Nat × Rat)} (h : o ≠ []) : Hh (some (t,k)) o = ⟨3,rR o,t,true,o.map fun x=>(x.1 : Int)⟩:=if_pos h
theorem abi {r : fY} {lo hi : P3} [IR r] [I3 lo] [I3 hi] (hok : r.ok) : ∀ (k : Nat) (st : Rat × Option Rat),xD r lo hi k = some st → Bq 400000 st.1 ∧ BqO st.2:=by
 have hv : ∀ (p : P3) [I3 p] (k : Nat),Bd 129 ((r.to p).at k):=fun p _ k=>by
  have h : Bv 129 (r.to p):=inferInstance;unfold P3.at;split
  · exact h.x
  · exact h.y
  · exact h.z
 have hd : ∀ k : Nat,Bd 64 (r.d.at k):=fun k=>by
  have h : I3 r.d:=inferInstance;unfold P3.at;split
  · exact h.x.bd
  · exact h.y.bd
  · exact h.z.bd
 intro k
 induction k with
 | zero=>intro st e; cases e; exact ⟨⟨iY _,wK.mono (by decide)⟩,fun q h=>by cases h⟩
 | succ k ih =>
  intro st e;rw [xD] at e;obtain ⟨s,hs,e⟩:=Option.bind_eq_some_iff.1 e;obtain ⟨h1,h2⟩:=ih s hs;unfold Yk at e;split at e
  · cases e
  ·
   split at e
   · cases e; exact ⟨h1,h2⟩
   ·
    rename_i hne;cases e;have hF : Bq 400000 (Dv r ((r.to lo).at k) ((r.to hi).at k) (r.d.at k)):=by
     unfold Dv;split
     · exact yQ (hv hi k) (hd k) hne hok
     · exact yQ (hv lo k) (hd k) hne hok
    have hT : Bq 400000 (Ci r ((r.to lo).at k) ((r.to hi).at k) (r.d.at k)):=by
     unfold Ci;split
     · exact yQ (hv lo k) (hd k) hne hok
     · exact yQ (hv hi k) (hd k) hne hok
    exact ⟨aa8 h1 hF,jI (aa9 h2 hT)⟩
theorem abj {r : fY} {lo hi : P3} {p q : Rat} [IR r] [I3 lo] [I3 hi] (h : nH r lo hi = some (p,q)) : Bq 400000 p ∧ Bq 400000 q:=by
 unfold nH at h;split at h
 ·
  rename_i hok;obtain ⟨s,hs,e⟩:=Option.bind_eq_some_iff.1 h;obtain ⟨h1,h2⟩:=abi hok 3 s hs;split at e
  · cases e
  ·
   rename_i x hx;split at e
   · cases e
   · cases e; exact ⟨h1,h2 _ hx⟩
 · cases h
theorem rN {r : fY} {kd : Kd} {q : Rat} [IR r] (hk : Lx kd) (h : iU r kd = some q) : Bq 400000 q:=by
 cases kd with
 | no=>cases h
 | ex=>cases h
 | unk=>cases h; exact ⟨iY _,wK.mono (by decide)⟩
 | near lo hi =>
  obtain ⟨h1,h2⟩:=hk;rw [iU] at h;obtain ⟨x,hx,rfl⟩:=Option.map_eq_some_iff.1 h;exact (abj (p:=x.1) (q:=x.2) hx).1
theorem Nm {r : fY} {h : Option (Rat × Nat)} {xs : List (Nat × Kd)} [IR r] (hk : ∀ x ∈ xs,Lx x.2) : Bq 400000 (rR (cT r h xs)):=by
 by_cases ho : cT r h xs = []
 · rw [ho]; exact ⟨iY _,wK.mono (by decide)⟩
 ·
  obtain ⟨x,hx,e⟩:=Wm ho;rw [e];obtain ⟨kd,hm,hb,_⟩:=Ck.1 (show (x.1,x.2) ∈ _ from hx);exact rN (hk _ hm) hb
theorem Nn : Bq 400000 (0 : Rat):=⟨iY _,wK.mono (by decide)⟩
theorem Tx : fG prog 65 1:=eP (by kernel_rfl)
theorem abk : iA prog 65 false:=fO _ underlying65 rfl
theorem Ty : (prog.info? 65).map (fun i=>(i.size,i.bytes,i.zero)) = some (1,16,some .nilIface):=by kernel_rfl
theorem yR {r : fY} [IR r] {N cap M bcap : Nat} {A B : Option Addr} {xs : List (List T3)} {bs : List Int} (w : World) (hS : jJ w A N xs) (hb : eY w B M bs) (hN : N ≤ 1000000) (hT : xs.flatten.length ≤ 1099511627776) (hL : ∀ l ∈ xs,l.length ≤ 300000) : iL prog 15 [lH r,.slice A N cap,.slice B M bcap] w (Tu (fS r xs bs) w):=by
 refine ⟨abD,?_⟩;have m:=cR.refl w;have hIT : ∀ t ∈ bQ bs xs,IT t:=fun t ht=>by obtain ⟨i,l,hi,_,hl⟩:=Jn.1 ht; obtain ⟨_,_,_,_,hq,_⟩:=hS.row i l hi; exact hq.it t hl
 have hko : ∀ x ∈ cB bs xs,Lx x.2:=fun x hx=>by obtain ⟨l,hl,e,_⟩:=wS.1 (show (x.1,x.2) ∈ _ from hx); obtain ⟨_,_,_,_,hq,_⟩:=hS.row _ l hl; rw [e]; exact Nk hq.it (Hp hb)
 have hsl:=hS.len
 go_enter func15,ntmps15
 refine aF fun K1 k1=>wp_region_lit (cM m rfl ?_);clear m; intro g1 u m;simp only[zz];refine bC m nM rfl ?_;clear m; intro g2 u m;refine aC (k1 _ _ ?_);refine aF fun K2 k2=>wp_region_lit ?_;simp only[zz];refine aW m rfl rfl (Ho) ?_;clear m; intro u m;simp only[zz];refine aW m rfl rfl (Ho) ?_;clear m; intro u m;refine aA (kY rfl rfl rfl) ?_;simp only[zz];refine bC m nM rfl ?_;clear m; intro g3 u m;simp only[zz];refine aL m 0 rfl rfl rfl dF (cA rfl) rfl ?_;clear m; intro u m; simp only[zy,zx,aX,zF,zG,Nat.reduceAdd] at m;refine aC (k2 _ _ ?_);refine aF fun K3 k3=>aF fun K4 k4=>?_;rcases ok3 r with hw | ⟨hw,hd⟩ | hok
 ·
  have hno : ¬ r.ok:=fun h=>by have:=h.1; omega
  refine wp_region_lit (aA (aH (c:=0) fC rfl aM rfl rfl) ?_);simp only[zz];refine aI rfl ((m.b 2 rfl).lies1 aZ rfl) ?_;simp only[zz];refine aA (Kn rfl rfl (by omega)) (aA (aB) (bG rfl (bG rfl ?_)));simp only[zz];refine bG rfl (bG rfl (aA (cG rfl) (aC (k4 _ _ ?_))));refine bX rfl (aF fun K5 k5=>wp_region_lit ?_);simp only[zz];refine aI rfl ((m.b 0 rfl).full iQ dF) ?_;simp only[zz];refine aL m 1 rfl rfl rfl dF (cA rfl) rfl ?_;clear m; intro u m; simp only[zy,zx,aX,zF,zG,Nat.reduceAdd] at m;refine aC (k5 _ _ ?_);refine wp_ret ?_;try simp only[Exit.inBlock,Exit.then,if_true]
  refine bU rfl ⟨_,rfl,((m.b 1 rfl).full iQ dF)⟩ ?_;try simp only[zD,zE]
  exact ⟨_,rfl,m.ext,_,_,_,by rw [fS,if_neg hno]; rfl,by rw [fS,if_neg hno]; rfl,by rw [fS,if_neg hno]; exact Ow.nil _ _ _ _⟩
 ·
  have hno : ¬ r.ok:=fun h=>h.2 hd;refine wp_region_lit (aA (aH (c:=0) fC rfl aM rfl rfl) ?_);simp only[zz];refine aI rfl ((m.b 2 rfl).lies1 aZ rfl) ?_;simp only[zz];refine aA (As rfl rfl (by omega)) (aA (aB) (aP rfl (aA (aH (c:=2) fC rfl cS rfl rfl) (aP rfl ?_))));simp only[zz];refine aI rfl ((m.b 2 rfl).lies lW cS rfl rfl) ?_;simp only[zz,zy,Nat.zero_add,Nat.reduceAdd,Nat.reduceMul,Int.reduceToNat];refine aP rfl (aA (kV) (aP rfl (aA (qW (tW rfl rfl) (iD (decide_eq_true hd))) (aA (cO rfl) (aC (k4 _ _ ?_))))));refine bX rfl (aF fun K6 k6=>wp_region_lit ?_);simp only[zz];refine aI rfl ((m.b 0 rfl).full iQ dF) ?_;simp only[zz];refine aL m 1 rfl rfl rfl dF (cA rfl) rfl ?_;clear m; intro u m; simp only[zy,zx,aX,zF,zG,Nat.reduceAdd] at m;refine aC (k6 _ _ ?_);refine wp_ret ?_;try simp only[Exit.inBlock,Exit.then,if_true]
  refine bU rfl ⟨_,rfl,((m.b 1 rfl).full iQ dF)⟩ ?_;try simp only[zD,zE]
  exact ⟨_,rfl,m.ext,_,_,_,by rw [fS,if_neg hno]; rfl,by rw [fS,if_neg hno]; rfl,by rw [fS,if_neg hno]; exact Ow.nil _ _ _ _⟩
 ·
  have hw:=hok.1;refine wp_region_lit (aA (aH (c:=0) fC rfl aM rfl rfl) ?_);simp only[zz];refine aI rfl ((m.b 2 rfl).lies1 aZ rfl) ?_;simp only[zz];refine aA (As rfl rfl (by omega)) (aA (aB) (aP rfl (aA (aH (c:=2) fC rfl cS rfl rfl) (aP rfl ?_))));simp only[zz];refine aI rfl ((m.b 2 rfl).lies lW cS rfl rfl) ?_;simp only[zz,zy,Nat.zero_add,Nat.reduceAdd,Nat.reduceMul,Int.reduceToNat];refine aP rfl (aA (kV) (aP rfl (aA (qW (tW rfl rfl) (iD (decide_eq_false hok.2))) (aA (cO rfl) (aC (k4 _ _ ?_))))));refine eQ rfl (wp_skip (k3 _ _ ?_));refine aF fun K7 k7=>wp_region_lit (aA (aD) ?_);simp only[zz];replace m:=m.nilO 58 9;refine aC (k7 _ _ ?_);refine aF fun K8 k8=>wp_region_lit (aA (aD) ?_);replace m:=m.nilO 65 1;refine aC (k8 _ _ ?_);refine aF fun K9 k9=>aF fun K10 k10=>wp_region_lit (aA (aB) (aA (bR rfl pZ rfl) (aA (aB) ?_)));simp only[zz];refine aC (k10 _ _ ?_);refine wp_block ?_;try simp only[Nat.zero_add,Nat.reduceAdd,Nat.reduceMul,Int.reduceToNat]
  refine dI [8,9,36] [10,11,12,13,14,37,38,39,40,41,42,43,44,45,46,47,48,49,50,51,52,53,54,55,56] (fun n vs wl=>∃ (k n1 n2 cap1 cap2 : Nat) (A1 A2 : Option Addr),vs = [.slice A1 n1 cap1,.slice A2 n2 cap2,.int .i64 (k:Int)] ∧ cR w wl [oI 65 1 A2 n2 cap2 (Jv (cB bs (xs.take k))),oI 58 9 A1 n1 cap1 ((bQ bs (xs.take k)).flatMap eZ),bI g3 [.int .i64 (2),.bool (cN ((0 : Rat)).num),.string (cX ((0 : Rat)).num),.bool (cN (((0 : Rat)).den : Int)),.string (cX (((0 : Rat)).den : Int)),.bool (cN ((0 : Rat)).num),.string (cX ((0 : Rat)).num),.bool (cN (((0 : Rat)).den : Int)),.string (cX (((0 : Rat)).den : Int)),.bool false,.slice none 0 0] 39,bI g2 [.int .i64 0,.bool false,.string ⟨#[]⟩,.bool false,.string ⟨#[]⟩,.bool false,.string ⟨#[]⟩,.bool false,.string ⟨#[]⟩,.bool false,.slice none 0 0] 39,bI g1 [.int .i64 r.s.x,.int .i64 r.s.y,.int .i64 r.s.z,.int .i64 r.w,.int .i64 r.d.x,.int .i64 r.d.y,.int .i64 r.d.z] 25] ∧ (n1 = (bQ bs (xs.take k)).length) ∧ (n2 = (cB bs (xs.take k)).length) ∧ (k ≤ N) ∧ (n = N - k)) ?_ ?_
  ·
   apply Exists.intro;simp only[zQ,zR,zD,zE];exact ⟨0,_,_,_,_,_,_,rfl,m,rfl,rfl,Nat.zero_le _,rfl⟩
  ·
   intro n vs wr hI u;clear m;obtain ⟨k,n1,n2,cap1,cap2,A1,A2,rfl,m,hn1,hn2,hk,hn⟩:=hI;simp only[zv,zF,zG];refine aF fun K11 k11=>wp_region_lit (aA (eA rfl rfl) (aC (k11 _ _ ?_)));refine aF fun K12 k12=>?_;simp only[zz];refine cQ rfl (fun hc2=>?_) (fun hc2=>?_)
   ·
    obtain ⟨l,hl,a,Bl,nl,cl,rfl,hcell,hTl,hle⟩:=hS.get (i:=k) (by omega);refine wp_skip (k12 _ _ ?_);refine aF fun K13 k13=>wp_block (aF fun K14 k14=>wp_region_lit (aA (aB) ?_));simp only[zz];refine aA (aU pZ Ax rfl rfl (by omega) (by omega) (fT (Int.toNat_natCast _))) ?_;simp only[zz];refine aI rfl (Lith.lies1 (m.ext.cell hcell) Ks) ?_;simp only[zz];refine aA (aD) (aA (aD) (aC (k14 _ _ ?_)));refine aF fun K15 k15=>wp_region_lit (aA (aB) (aA (aB) ?_));simp only[zz];refine aA (aB) ?_;simp only[zz];refine fU m rfl rfl (abh (i:=k) (l:=l) (bs:=bs) _ (by omega) (hTl.ext m.ext) (by rw [← hTl.len]; exact hL l (List.mem_of_getElem? hl)) (hb.ext m.ext)) ?_;clear m; rintro v u m rfl;refine aC (k15 _ _ ?_);refine wp_block (aF fun K16 k16=>?_);simp only[zz];rcases kd5 l (iS bs k) with hkd | hkd | hkd | ⟨lo,hi,hkd⟩
    ·
     rw [hkd];have hs1 : bQ bs (xs.take (k + 1)) = bQ bs (xs.take k):=by rw [oU hl,hkd]; exact List.append_nil _
     have hr1 : cB bs (xs.take (k + 1)) = cB bs (xs.take k):=by rw [nI hl,hkd]; exact List.append_nil _
     refine wp_region_lit (aA (Xa underlying65 rfl) (aC (k16 _ _ ?_)));refine bX rfl (wp_region_lit (aA (aD) (aC (k13 _ _ ?_))));refine wp_region_lit ?_;simp only[zz];refine aA (bD rfl rfl (aQ (by omega) (by omega))) (aA (aB) (aC ?_));simp only[zz];simp only[Exit.inBlock,Exit.then];refine ⟨N - (k + 1),_,?_,rfl,?_,?_⟩
     · omega
     · simp only[zz,zv]
     ·
      simp only[zQ,zR,zD,zE];exact ⟨k + 1,_,_,_,_,_,_,rfl,((m.reO 1 rfl (by rw [hs1]; exact (m.o 1 rfl))).reO 0 rfl (by rw [hr1]; exact (m.o 0 rfl))),by rw [hs1]; exact hn1,by rw [hr1]; exact hn2,by omega,rfl⟩
    ·
     rw [hkd];have hs1 : bQ bs (xs.take (k + 1)) = bQ bs (xs.take k) ++ l:=by rw [oU hl,hkd]; rfl
     have hr1 : cB bs (xs.take (k + 1)) = cB bs (xs.take k):=by rw [nI hl,hkd]; exact List.append_nil _
     refine wp_region_lit (aA (Hm underlying65 rfl) (aC (k16 _ _ ?_)));refine eQ rfl (aF fun K17 k17=>wp_region_lit (aA (xV (by kernel_rfl) rfl) (aA (aT rfl rfl) (aA (aT rfl rfl) ?_))));simp only[zz];refine aC (k17 _ _ ?_);refine bX rfl (aF fun K18 k18=>wp_region_lit (bC m yY rfl ?_));clear m; intro g4 u m;simp only[zz];refine aL m 0 rfl rfl rfl Ra (cA rfl) rfl ?_;clear m; intro u m; simp only[zy,zx,aX,zF,zG,Nat.reduceAdd] at m;refine aC (k18 _ _ ?_);have hsl1:=wV (bs:=bs) (ls:=xs) k;have hsl2:=Fc hl;have hsl3:=hTl.len;refine wp_region_lit (aA (aB) (aA (aB) ?_));simp only[zz];refine fD m 2 rfl rfl nC Qz rfl (by decide) rfl rfl (by rw [Ad,hTl.len]) (dK.cells (hTl.ext m.ext)) (Jd _) (by omega) (by omega) ?_;clear m; intro A1 cap1 u m; simp only[zF,zG] at m;refine aA (aD) (aC (k13 _ _ ?_));refine wp_region_lit ?_;simp only[zz];refine aA (bD rfl rfl (aQ (by omega) (by omega))) (aA (aB) (aC ?_));simp only[zz];simp only[Exit.inBlock,Exit.then];refine ⟨N - (k + 1),_,?_,rfl,?_,?_⟩
     · omega
     · simp only[zz,zv]
     ·
      simp only[zQ,zR,zD,zE];exact ⟨k + 1,_,_,_,_,_,_,rfl,(((m.reO 2 rfl (by rw [hs1,List.flatMap_append]; exact (m.o 2 rfl))).reO 1 rfl (by rw [hr1]; exact (m.o 1 rfl))).sel [false,true,true,true,true,true]),by rw [hs1,List.length_append,hn1,hTl.len],by rw [hr1]; exact hn2,by omega,rfl⟩
    ·
     rw [hkd];have hs1 : bQ bs (xs.take (k + 1)) = bQ bs (xs.take k):=by rw [oU hl,hkd]; exact List.append_nil _
     have hr1 : cB bs (xs.take (k + 1)) = cB bs (xs.take k) ++ [(k,.unk)]:=by rw [nI hl,hkd]; rfl
     refine wp_region_lit (aA (Hm underlying65 rfl) (aC (k16 _ _ ?_)));refine eQ rfl (aF fun K19 k19=>wp_region_lit (aA (xW (by kernel_rfl) yY (by decide) rfl) (aA (aT rfl rfl) (aA (aT rfl rfl) ?_))));simp only[zz];refine aC (k19 _ _ ?_);refine eQ rfl (aF fun K20 k20=>wp_region_lit (aA (aD) (aC (k20 _ _ ?_))));simp only[zz];have hrl:=pQ (bs:=bs) (ls:=xs) k;refine wp_region_lit (aA (aB) (aA (aB) ?_));simp only[zz];refine cH Fa (z:=.nilIface) (by kernel_rfl) rfl rfl rfl ?_;intro u g4 e hg hB; replace m:=m.newB e hg hB; clear e hg hB;simp only[zz];refine fD m 1 rfl rfl Fa Ty rfl (by decide) rfl rfl rfl (m.b 0 rfl).rowsO (mJ rfl) (by omega) (by omega) ?_;clear m; intro A2 cap2 u m; simp only[zF,zG] at m;refine aA (aD) (aC (k13 _ _ ?_));refine wp_region_lit ?_;simp only[zz];refine aA (bD rfl rfl (aQ (by omega) (by omega))) (aA (aB) (aC ?_));simp only[zz];simp only[Exit.inBlock,Exit.then];refine ⟨N - (k + 1),_,?_,rfl,?_,?_⟩
     · omega
     · simp only[zz,zv]
     ·
      simp only[zQ,zR,zD,zE];exact ⟨k + 1,_,_,_,_,_,_,rfl,(((m.reO 2 rfl (by rw [hs1]; exact (m.o 2 rfl))).reO 1 rfl (by rw [hr1]; exact (m.o 1 rfl).as (by rw [Jv,Jv,List.map_append]; rfl))).sel [false,true,true,true,true,true]),by rw [hs1]; exact hn1,by rw [hr1,List.length_append,hn2]; rfl,by omega,rfl⟩
    ·
     rw [hkd];have hs1 : bQ bs (xs.take (k + 1)) = bQ bs (xs.take k):=by rw [oU hl,hkd]; exact List.append_nil _
     have hr1 : cB bs (xs.take (k + 1)) = cB bs (xs.take k) ++ [(k,.near lo hi)]:=by rw [nI hl,hkd]; rfl
     refine wp_region_lit (aA (Hm underlying65 rfl) (aC (k16 _ _ ?_)));refine eQ rfl (aF fun K21 k21=>wp_region_lit (aA (xW (by kernel_rfl) yY (by decide) rfl) (aA (aT rfl rfl) (aA (aT rfl rfl) ?_))));simp only[zz];refine aC (k21 _ _ ?_);refine eQ rfl (aF fun K22 k22=>wp_region_lit (aA (aD) (aC (k22 _ _ ?_))));simp only[zz];have hrl:=pQ (bs:=bs) (ls:=xs) k;refine wp_region_lit (aA (aB) (aA (aB) ?_));simp only[zz];refine cH Fa (z:=.nilIface) (by kernel_rfl) rfl rfl rfl ?_;intro u g4 e hg hB; replace m:=m.newB e hg hB; clear e hg hB;simp only[zz];refine fD m 1 rfl rfl Fa Ty rfl (by decide) rfl rfl rfl (m.b 0 rfl).rowsO (mJ rfl) (by omega) (by omega) ?_;clear m; intro A2 cap2 u m; simp only[zF,zG] at m;refine aA (aD) (aC (k13 _ _ ?_));refine wp_region_lit ?_;simp only[zz];refine aA (bD rfl rfl (aQ (by omega) (by omega))) (aA (aB) (aC ?_));simp only[zz];simp only[Exit.inBlock,Exit.then];refine ⟨N - (k + 1),_,?_,rfl,?_,?_⟩
     · omega
     · simp only[zz,zv]
     ·
      simp only[zQ,zR,zD,zE];exact ⟨k + 1,_,_,_,_,_,_,rfl,(((m.reO 2 rfl (by rw [hs1]; exact (m.o 2 rfl))).reO 1 rfl (by rw [hr1]; exact (m.o 1 rfl).as (by rw [Jv,Jv,List.map_append]; rfl))).sel [false,true,true,true,true,true]),by rw [hs1]; exact hn1,by rw [hr1,List.length_append,hn2]; rfl,by omega,rfl⟩
   ·
    have hkN : xs.take k = xs:=List.take_of_length_le (by omega);rw [hkN] at m hn1 hn2;have hrl:=pQ (bs:=bs) (ls:=xs) xs.length;rw [List.take_length] at hrl;have hsl1:=wV (bs:=bs) (ls:=xs) xs.length;rw [List.take_length] at hsl1;refine wp_exit (k9 _ _ ?_);refine aF fun K23 k23=>wp_region_lit (aI rfl ((m.b 4 rfl).full fB dJ) ?_);simp only[zz];refine aA (aB) ?_;simp only[zz];refine fU m rfl rfl (Lu (ts:=bQ bs xs) _ ((m.o 1 rfl).tris hIT) (by omega)) ?_;clear m; rintro v u m rfl;refine aA (aB) (aA (aT rfl rfl) (aA (aT rfl rfl) ?_));simp only[zz];refine bC m pV rfl ?_;clear m; intro g4 u m;simp only[zz];refine aL m 0 rfl rfl rfl jE (cA rfl) rfl ?_;clear m; intro u m; simp only[zy,zx,aX,zF,zG,Nat.reduceAdd] at m;refine aA (aD) (aC (k23 _ _ ?_));refine aF fun K24 k24=>aF fun K25 k25=>?_;simp only[zz];replace m:=m.nilO 3 1; have hn3:=pQ (bs:=bs) (ls:=xs) xs.length; rw [List.take_length] at hn3;refine wp_region_lit (aA (aB) (aA (bR rfl Fa rfl) (aA (aB) (aC (k25 _ _ ?_)))));refine wp_block ?_;simp only[zz];try simp only[Nat.zero_add,Nat.reduceAdd,Nat.reduceMul,Int.reduceToNat]
    refine dI [65] [18,19,20,66,67,68,69,70,71,72,73,74,75,76,77,78,79,80,81,82,83,84,85,86,87,88,89,90,91,92,93,94,95,96,97,98,99,100,101,102,103,104,105,106,107] (fun n vs wl=>∃ (k n3 cap3 : Nat) (A3 : Option Addr),vs = [.int .i64 (k:Int)] ∧ cR w wl [oI 3 1 A3 n3 cap3 (eX (cT r (bE r (bQ bs xs)) ((cB bs xs).take k))),bI g4 [.bool (cN (lZ (bE r (bQ bs xs))).num),.string (cX (lZ (bE r (bQ bs xs))).num),.bool (cN ((lZ (bE r (bQ bs xs))).den : Int)),.string (cX ((lZ (bE r (bQ bs xs))).den : Int)),.int .i64 (aa4 (bE r (bQ bs xs)) : Int)] 43,oI 65 1 A2 n2 cap2 (Jv (cB bs xs)),oI 58 9 A1 n1 cap1 ((bQ bs xs).flatMap eZ),bI g3 [.int .i64 (tO (cT r (bE r (bQ bs xs)) ((cB bs xs).take k))),.bool (cN (rR (cT r (bE r (bQ bs xs)) ((cB bs xs).take k))).num),.string (cX (rR (cT r (bE r (bQ bs xs)) ((cB bs xs).take k))).num),.bool (cN ((rR (cT r (bE r (bQ bs xs)) ((cB bs xs).take k))).den : Int)),.string (cX ((rR (cT r (bE r (bQ bs xs)) ((cB bs xs).take k))).den : Int)),.bool (cN ((0 : Rat)).num),.string (cX ((0 : Rat)).num),.bool (cN (((0 : Rat)).den : Int)),.string (cX (((0 : Rat)).den : Int)),.bool false,.slice A3 n3 cap3] 39,bI g2 [.int .i64 0,.bool false,.string ⟨#[]⟩,.bool false,.string ⟨#[]⟩,.bool false,.string ⟨#[]⟩,.bool false,.string ⟨#[]⟩,.bool false,.slice none 0 0] 39,bI g1 [.int .i64 r.s.x,.int .i64 r.s.y,.int .i64 r.s.z,.int .i64 r.w,.int .i64 r.d.x,.int .i64 r.d.y,.int .i64 r.d.z] 25] ∧ (n3 = (cT r (bE r (bQ bs xs)) ((cB bs xs).take k)).length) ∧ (k ≤ n2) ∧ (n = n2 - k)) ?_ ?_
    ·
     apply Exists.intro;simp only[zQ,zR,zD,zE];exact ⟨0,0,0,none,rfl,m,rfl,Nat.zero_le _,rfl⟩
    ·
     intro n vs wr hI u;clear m;obtain ⟨k,n3,cap3,A3,rfl,m,hn3,hk,hn⟩:=hI;simp only[zv,zF,zG];refine aF fun K26 k26=>wp_region_lit (aA (eA rfl rfl) (aC (k26 _ _ ?_)));refine aF fun K27 k27=>?_;simp only[zz];refine cQ rfl (fun hc5=>?_) (fun hc5=>?_)
     ·
      obtain ⟨gO,rfl⟩:=(m.o 2 rfl).some (by omega);obtain ⟨⟨i,kd⟩,hx⟩ : ∃ x,(cB bs xs)[k]? = some x:=⟨_,List.getElem?_eq_getElem (by omega)⟩
      have hx2 : (Jv (cB bs xs))[k]? = some (kdV i kd):=by rw [Jv,List.getElem?_map,hx]; rfl
      have hot : kd.other = true:=(wS.1 (List.mem_of_getElem? hx)).choose_spec.2.2;have hkd : Lx kd:=hko _ (List.mem_of_getElem? hx);refine wp_skip (k27 _ _ ?_);refine aF fun K28 k28=>wp_block (aF fun K29 k29=>wp_region_lit (aA (aU Fa Tx rfl rfl (by omega) (by omega) (fT (Int.toNat_natCast _))) ?_));simp only[zz];refine aI rfl (Lith.lies1 ((m.o 2 rfl).rows k _ hx2) abk) ?_;simp only[zz];refine aA (aD) (aC (k29 _ _ ?_));refine aF fun K30 k30=>wp_region_lit ?_;simp only[zz];refine aI rfl ((m.b 6 rfl).full fB dJ) ?_;simp only[zz];refine aA (aB) ?_;simp only[zz];refine aW m rfl rfl (Xc (r:=r) (i:=i) (kd:=kd) hot hkd) ?_;clear m; intro u m;refine aA (aB) (aA (aT rfl rfl) (aA (aT rfl rfl) ?_));simp only[zz];refine bC m cD rfl ?_;clear m; intro g5 u m;simp only[zz];refine aL m 0 rfl rfl rfl aK (cA rfl) rfl ?_;clear m; intro u m; simp only[zy,zx,aX,zF,zG,Nat.reduceAdd] at m;refine aA (aD) (aC (k30 _ _ ?_));refine aF fun K31 k31=>aF fun K32 k32=>?_;simp only[zz];rcases Yr r (bE r (bQ bs xs)) (i,kd) with ⟨hq,ho4⟩ | ⟨q,hq,hh,ho4⟩ | ⟨q,t,kk,hq,hh,ho4⟩
      ·
       have hq : iU r kd = none:=hq;have hon : cT r (bE r (bQ bs xs)) ((cB bs xs).take (k + 1)) = cT r (bE r (bQ bs xs)) ((cB bs xs).take k):=by rw [uG hx,ho4,List.append_nil]
       rw [hq];simp only[Option.isSome_none,Option.getD_none];refine wp_region_lit (aA (aB) (aA (eT rfl) (aA (aB) (bG rfl ?_))));simp only[zz];refine bG rfl (dM rfl (dM rfl (dM rfl ?_)));simp only[zz];refine dM rfl (dM rfl (bG rfl (aA (cG rfl) ?_)));simp only[zz];refine aC (k32 _ _ ?_);refine bX rfl (wp_exit (k28 _ _ ?_));refine wp_region_lit (aA (bD rfl rfl (aQ (by omega) (by omega))) (aA (aB) (aC ?_)));simp only[zz];simp only[Exit.inBlock,Exit.then];refine ⟨n2 - (k + 1),_,?_,rfl,?_,?_⟩
       · omega
       · simp only[zz,zv]
       ·
        simp only[zQ,zR,zD,zE];exact ⟨k + 1,_,_,_,rfl,(((m.re 5 rfl (by rw [hon]; exact (m.b 5 rfl))).reO 1 rfl (by rw [hon]; exact (m.o 1 rfl))).sel [false,true,true,true,true,true,true,true]),by rw [hon]; exact hn3,by omega,rfl⟩
      ·
       have hq : iU r kd = some q:=hq;have hon : cT r (bE r (bQ bs xs)) ((cB bs xs).take (k + 1)) = cT r (bE r (bQ bs xs)) ((cB bs xs).take k) ++ [(i,q)]:=by rw [uG hx,ho4]
       rw [hq];rw [hq] at m;simp only[Option.isSome_some,Option.getD_some] at m ⊢;refine wp_region_lit (aA (aB) (aA (eT rfl) (aA (aB) (aP rfl ?_))));simp only[zz];refine aA (qW aB (show (Value.bool (bE r (bQ bs xs)).isSome) = .bool false by rw [hh]; rfl)) (aP rfl (aA (aB) (bM rfl (bM rfl ?_))));simp only[zz];refine bM rfl (bM rfl (bM rfl (aP rfl (aA (cO rfl) ?_))));simp only[zz];refine aA (cO rfl) (aC (k32 _ _ ?_));refine eQ rfl (wp_skip (k31 _ _ ?_));refine aF fun K33 k33=>aF fun K34 k34=>?_;simp only[zz];rcases Decidable.em (cT r (bE r (bQ bs xs)) ((cB bs xs).take k) = []) with hoe | hoe
       ·
        have hlo : rR (cT r (bE r (bQ bs xs)) ((cB bs xs).take (k + 1))) = q:=by rw [hon,hoe]; rfl
        rw [show tO (cT r (bE r (bQ bs xs)) ((cB bs xs).take k)) = 2 by rw [hoe]; rfl] at m;refine wp_region_lit (aA (aH (c:=0) cP rfl aM rfl rfl) ?_);simp only[zz];refine aI rfl ((m.b 5 rfl).lies1 aZ rfl) ?_;simp only[zz];refine aA (uX rfl rfl (by decide)) (aA (aB) (bG rfl (bG rfl ?_)));simp only[zz];refine bG rfl (bG rfl (bG rfl (aA (cG rfl) ?_)));simp only[zz];refine aC (k34 _ _ ?_);refine bX rfl (wp_region_lit (aI rfl ((m.b 0 rfl).full bB aK) ?_));simp only[zz];refine aA (aH (c:=3) cP rfl aK rfl rfl) ?_;simp only[zz];refine aL m 5 rfl rfl rfl aK (cA rfl) rfl ?_;clear m; intro u m; simp only[zy,zx,aX,zF,zG,Nat.reduceAdd] at m;refine aC (k33 _ _ ?_);refine aF fun K35 k35=>wp_region_lit (aA (aH (c:=0) cP rfl aM rfl rfl) ?_);simp only[zz];refine dA m 5 rfl rfl rfl aM (cA rfl) ⟨rfl,rfl⟩ ?_;clear m; intro u m; simp only[zy,zx,aX,zF,zG,Nat.reduceAdd] at m;refine aC (k35 _ _ ?_);have hol:=lO (r:=r) (h:=bE r (bQ bs xs)) ((cB bs xs).take k);rw [List.length_take] at hol;refine kG m [true,false,true,true,true,false,true,true] (.take 0 (.take 2 (.two 1 (.one 3 (.one 4 (.one 5 (.take 6 (.one 7 .nil))))) 3 (.two 1 (.one 4 (.one 5 (.take 6 (.one 7 .nil)))) 4 (.one 1 (.one 5 (.take 6 (.one 7 .nil)))))))) aN (by kernel_rfl) (cW (fun _ _ _ _ _ h=>h)) ?_;clear m; intro u m;refine aV (by simp only[zw]; rfl) (aY (aH (c:=0) cP rfl bT rfl rfl) (bA (aV (by simp only[zw]; rfl) (aY (aB) (bA ?_)))));simp only[zz];refine gX (by simp only[zw]; rfl) (by simp only[zw]; rfl) ?_ ?_
        ·
         refine aI rfl ((m.b 5 rfl).lies1 fH rfl) ?_;simp only[zz];refine aC (⟨m.sel [true,false,true,true,true,false,true,true],?_⟩);refine bL (by simp only[zw]; rfl) (oF m rfl (oG hot) kJ ?_);clear m; intro u m;refine aC (⟨m.sel [true,false,true,true,true,false,true,true],?_⟩);refine bL (by simp only[zw]; rfl) ?_;simp only[zz];refine cH bN (z:=.int .i64 0) (by kernel_rfl) rfl rfl rfl ?_;intro u g6 e hg hB; replace m:=m.newB e hg hB; clear e hg hB;refine aC (⟨m.sel [false,true,false,true,true,true,false,true,true],?_⟩);refine bL (by simp only[zw]; rfl) ?_;simp only[zz];refine fD m 2 rfl rfl bN gV rfl (by decide) rfl rfl rfl (m.b 0 rfl).rowsO (mJ rfl) (by omega) (by omega) ?_;clear m; intro A3 cap3 u m; simp only[zF,zG] at m;refine aC (⟨m.sel [false,true,false,true,true,true,false,true,true],?_⟩);refine aV (by simp only[zw]; rfl) (aY (aH (c:=0) cP rfl bT rfl rfl) (bA (bL (by simp only[zw]; rfl) ?_)));simp only[zz];refine dA m 6 rfl rfl rfl bT (cA rfl) ⟨rfl,rfl⟩ ?_;clear m; intro u m; simp only[zy,zx,aX,zF,zG,Nat.reduceAdd] at m;refine aC (⟨m.sel [false,true,false,true,true,true,false,true,true],?_⟩);refine eE (k28 _ _ ?_);refine wp_region_lit (aA (bD rfl rfl (aQ (by omega) (by omega))) (aA (aB) (aC ?_)));simp only[zz];simp only[Exit.inBlock,Exit.then];refine ⟨n2 - (k + 1),_,?_,rfl,?_,?_⟩
         · omega
         · simp only[zz,zv]
         ·
          simp only[zQ,zR,zD,zE];exact ⟨k + 1,_,_,_,rfl,(((m.re 6 rfl (by rw [hlo,hon,gF]; exact (m.b 6 rfl))).reO 2 rfl (by rw [hon]; exact (m.o 2 rfl).as (by rw [eX,eX,List.map_append]; rfl))).sel [false,false,true,true,true,true,true,true,true]),by rw [hon,List.length_append,hn3]; rfl,by omega,rfl⟩
        ·
         refine oF m rfl (oG hot) kJ ?_;clear m; intro u m;refine aC (⟨m.sel [true,false,true,true,true,false,true,true],?_⟩);simp only[zz];refine gX (by simp only[zw]; rfl) (by simp only[zw]; rfl) ?_ ?_
         ·
          refine aI rfl ((m.b 5 rfl).lies1 fH rfl) ?_;simp only[zz];refine aC (⟨m.sel [true,false,true,true,true,false,true,true],?_⟩);refine bL (by simp only[zw]; rfl) (cH bN (z:=.int .i64 0) (by kernel_rfl) rfl rfl rfl ?_);intro u g6 e hg hB; replace m:=m.newB e hg hB; clear e hg hB;refine aC (⟨m.sel [false,true,false,true,true,true,false,true,true],?_⟩);refine bL (by simp only[zw]; rfl) ?_;simp only[zz];refine fD m 2 rfl rfl bN gV rfl (by decide) rfl rfl rfl (m.b 0 rfl).rowsO (mJ rfl) (by omega) (by omega) ?_;clear m; intro A3 cap3 u m; simp only[zF,zG] at m;refine aC (⟨m.sel [false,true,false,true,true,true,false,true,true],?_⟩);refine aV (by simp only[zw]; rfl) (aY (aH (c:=0) cP rfl bT rfl rfl) (bA (bL (by simp only[zw]; rfl) ?_)));simp only[zz];refine dA m 6 rfl rfl rfl bT (cA rfl) ⟨rfl,rfl⟩ ?_;clear m; intro u m; simp only[zy,zx,aX,zF,zG,Nat.reduceAdd] at m;refine aC (⟨m.sel [false,true,false,true,true,true,false,true,true],?_⟩);refine eE (k28 _ _ ?_);refine wp_region_lit (aA (bD rfl rfl (aQ (by omega) (by omega))) (aA (aB) (aC ?_)));simp only[zz];simp only[Exit.inBlock,Exit.then];refine ⟨n2 - (k + 1),_,?_,rfl,?_,?_⟩
          · omega
          · simp only[zz,zv]
          ·
           simp only[zQ,zR,zD,zE];exact ⟨k + 1,_,_,_,rfl,(((m.re 6 rfl (by rw [hlo,hon,gF]; exact (m.b 6 rfl))).reO 2 rfl (by rw [hon]; exact (m.o 2 rfl).as (by rw [eX,eX,List.map_append]; rfl))).sel [false,false,true,true,true,true,true,true,true]),by rw [hon,List.length_append,hn3]; rfl,by omega,rfl⟩
         ·
          refine cH bN (z:=.int .i64 0) (by kernel_rfl) rfl rfl rfl ?_;intro u g6 e hg hB; replace m:=m.newB e hg hB; clear e hg hB;refine aC (⟨m.sel [false,true,false,true,true,true,false,true,true],?_⟩);refine bL (by simp only[zw]; rfl) ?_;simp only[zz];refine aI rfl ((m.b 6 rfl).lies1 fH rfl) ?_;simp only[zz];refine aC (⟨m.sel [false,true,false,true,true,true,false,true,true],?_⟩);refine bL (by simp only[zw]; rfl) (fD m 2 rfl rfl bN gV rfl (by decide) rfl rfl rfl (m.b 0 rfl).rowsO (mJ rfl) (by omega) (by omega) ?_);clear m; intro A3 cap3 u m; simp only[zF,zG] at m;refine aC (⟨m.sel [false,true,false,true,true,true,false,true,true],?_⟩);refine aV (by simp only[zw]; rfl) (aY (aH (c:=0) cP rfl bT rfl rfl) (bA (bL (by simp only[zw]; rfl) ?_)));simp only[zz];refine dA m 6 rfl rfl rfl bT (cA rfl) ⟨rfl,rfl⟩ ?_;clear m; intro u m; simp only[zy,zx,aX,zF,zG,Nat.reduceAdd] at m;refine aC (⟨m.sel [false,true,false,true,true,true,false,true,true],?_⟩);refine eE (k28 _ _ ?_);refine wp_region_lit (aA (bD rfl rfl (aQ (by omega) (by omega))) (aA (aB) (aC ?_)));simp only[zz];simp only[Exit.inBlock,Exit.then];refine ⟨n2 - (k + 1),_,?_,rfl,?_,?_⟩
          · omega
          · simp only[zz,zv]
          ·
           simp only[zQ,zR,zD,zE];exact ⟨k + 1,_,_,_,rfl,(((m.re 6 rfl (by rw [hlo,hon,gF]; exact (m.b 6 rfl))).reO 2 rfl (by rw [hon]; exact (m.o 2 rfl).as (by rw [eX,eX,List.map_append]; rfl))).sel [false,false,true,true,true,true,true,true,true]),by rw [hon,List.length_append,hn3]; rfl,by omega,rfl⟩
       ·
        have hbo:=Nm (r:=r) (h:=bE r (bQ bs xs)) (xs:=(cB bs xs).take k) (fun x hx=>hko x (List.mem_of_mem_take hx));rw [show tO (cT r (bE r (bQ bs xs)) ((cB bs xs).take k)) = 3 from wW hoe] at m;refine wp_region_lit (aA (aH (c:=0) cP rfl aM rfl rfl) ?_);simp only[zz];refine aI rfl ((m.b 5 rfl).lies1 aZ rfl) ?_;simp only[zz];refine aA (qG rfl rfl (by decide)) (aA (aB) (aP rfl ?_));simp only[zz];refine aI rfl ((m.b 0 rfl).full bB aK) ?_;simp only[zz];refine aP rfl (aA (aH (c:=3) cP rfl aK rfl rfl) (aP rfl ?_));simp only[zz];refine aI rfl ((m.b 5 rfl).lies bB aK rfl rfl) ?_;simp only[zz,zy,Nat.zero_add,Nat.reduceAdd,Nat.reduceMul,Int.reduceToNat];refine aP rfl (aW m rfl rfl (jW (p:=q) (q:=rR (cT r (bE r (bQ bs xs)) ((cB bs xs).take k))) (rN hkd hq) hbo) ?_);clear m; intro u m;refine aP rfl (aA (eA rfl rfl) (aA (cO rfl) (aC (k34 _ _ ?_))));simp only[zz];refine cQ rfl (fun hc7=>?_) (fun hc7=>?_)
        ·
         have hlo : rR (cT r (bE r (bQ bs xs)) ((cB bs xs).take (k + 1))) = q:=by rw [hon,nX hoe]; exact if_pos (gD.1 hc7)
         refine wp_region_lit (aI rfl ((m.b 0 rfl).full bB aK) ?_);simp only[zz];refine aA (aH (c:=3) cP rfl aK rfl rfl) ?_;simp only[zz];refine aL m 5 rfl rfl rfl aK (cA rfl) rfl ?_;clear m; intro u m; simp only[zy,zx,aX,zF,zG,Nat.reduceAdd] at m;refine aC (k33 _ _ ?_);refine aF fun K36 k36=>wp_region_lit (aA (aH (c:=0) cP rfl aM rfl rfl) ?_);simp only[zz];refine dA m 5 rfl rfl rfl aM (cA rfl) ⟨rfl,rfl⟩ ?_;clear m; intro u m; simp only[zy,zx,aX,zF,zG,Nat.reduceAdd] at m;refine aC (k36 _ _ ?_);have hol:=lO (r:=r) (h:=bE r (bQ bs xs)) ((cB bs xs).take k);rw [List.length_take] at hol;refine kG m [true,false,true,true,true,false,true,true] (.take 0 (.take 2 (.two 1 (.one 3 (.one 4 (.one 5 (.take 6 (.one 7 .nil))))) 3 (.two 1 (.one 4 (.one 5 (.take 6 (.one 7 .nil)))) 4 (.one 1 (.one 5 (.take 6 (.one 7 .nil)))))))) aN (by kernel_rfl) (cW (fun _ _ _ _ _ h=>h)) ?_;clear m; intro u m;refine aV (by simp only[zw]; rfl) (aY (aH (c:=0) cP rfl bT rfl rfl) (bA (aV (by simp only[zw]; rfl) (aY (aB) (bA ?_)))));simp only[zz];refine gX (by simp only[zw]; rfl) (by simp only[zw]; rfl) ?_ ?_
         ·
          refine aI rfl ((m.b 5 rfl).lies1 fH rfl) ?_;simp only[zz];refine aC (⟨m.sel [true,false,true,true,true,false,true,true],?_⟩);refine bL (by simp only[zw]; rfl) (oF m rfl (oG hot) kJ ?_);clear m; intro u m;refine aC (⟨m.sel [true,false,true,true,true,false,true,true],?_⟩);refine bL (by simp only[zw]; rfl) ?_;simp only[zz];refine cH bN (z:=.int .i64 0) (by kernel_rfl) rfl rfl rfl ?_;intro u g6 e hg hB; replace m:=m.newB e hg hB; clear e hg hB;refine aC (⟨m.sel [false,true,false,true,true,true,false,true,true],?_⟩);refine bL (by simp only[zw]; rfl) ?_;simp only[zz];refine fD m 2 rfl rfl bN gV rfl (by decide) rfl rfl rfl (m.b 0 rfl).rowsO (mJ rfl) (by omega) (by omega) ?_;clear m; intro A3 cap3 u m; simp only[zF,zG] at m;refine aC (⟨m.sel [false,true,false,true,true,true,false,true,true],?_⟩);refine aV (by simp only[zw]; rfl) (aY (aH (c:=0) cP rfl bT rfl rfl) (bA (bL (by simp only[zw]; rfl) ?_)));simp only[zz];refine dA m 6 rfl rfl rfl bT (cA rfl) ⟨rfl,rfl⟩ ?_;clear m; intro u m; simp only[zy,zx,aX,zF,zG,Nat.reduceAdd] at m;refine aC (⟨m.sel [false,true,false,true,true,true,false,true,true],?_⟩);refine eE (k28 _ _ ?_);refine wp_region_lit (aA (bD rfl rfl (aQ (by omega) (by omega))) (aA (aB) (aC ?_)));simp only[zz];simp only[Exit.inBlock,Exit.then];refine ⟨n2 - (k + 1),_,?_,rfl,?_,?_⟩
          · omega
          · simp only[zz,zv]
          ·
           simp only[zQ,zR,zD,zE];exact ⟨k + 1,_,_,_,rfl,(((m.re 6 rfl (by rw [hlo,hon,gF]; exact (m.b 6 rfl))).reO 2 rfl (by rw [hon]; exact (m.o 2 rfl).as (by rw [eX,eX,List.map_append]; rfl))).sel [false,false,true,true,true,true,true,true,true]),by rw [hon,List.length_append,hn3]; rfl,by omega,rfl⟩
         ·
          refine oF m rfl (oG hot) kJ ?_;clear m; intro u m;refine aC (⟨m.sel [true,false,true,true,true,false,true,true],?_⟩);simp only[zz];refine gX (by simp only[zw]; rfl) (by simp only[zw]; rfl) ?_ ?_
          ·
           refine aI rfl ((m.b 5 rfl).lies1 fH rfl) ?_;simp only[zz];refine aC (⟨m.sel [true,false,true,true,true,false,true,true],?_⟩);refine bL (by simp only[zw]; rfl) (cH bN (z:=.int .i64 0) (by kernel_rfl) rfl rfl rfl ?_);intro u g6 e hg hB; replace m:=m.newB e hg hB; clear e hg hB;refine aC (⟨m.sel [false,true,false,true,true,true,false,true,true],?_⟩);refine bL (by simp only[zw]; rfl) ?_;simp only[zz];refine fD m 2 rfl rfl bN gV rfl (by decide) rfl rfl rfl (m.b 0 rfl).rowsO (mJ rfl) (by omega) (by omega) ?_;clear m; intro A3 cap3 u m; simp only[zF,zG] at m;refine aC (⟨m.sel [false,true,false,true,true,true,false,true,true],?_⟩);refine aV (by simp only[zw]; rfl) (aY (aH (c:=0) cP rfl bT rfl rfl) (bA (bL (by simp only[zw]; rfl) ?_)));simp only[zz];refine dA m 6 rfl rfl rfl bT (cA rfl) ⟨rfl,rfl⟩ ?_;clear m; intro u m; simp only[zy,zx,aX,zF,zG,Nat.reduceAdd] at m;refine aC (⟨m.sel [false,true,false,true,true,true,false,true,true],?_⟩);refine eE (k28 _ _ ?_);refine wp_region_lit (aA (bD rfl rfl (aQ (by omega) (by omega))) (aA (aB) (aC ?_)));simp only[zz];simp only[Exit.inBlock,Exit.then];refine ⟨n2 - (k + 1),_,?_,rfl,?_,?_⟩
           · omega
           · simp only[zz,zv]
           ·
            simp only[zQ,zR,zD,zE];exact ⟨k + 1,_,_,_,rfl,(((m.re 6 rfl (by rw [hlo,hon,gF]; exact (m.b 6 rfl))).reO 2 rfl (by rw [hon]; exact (m.o 2 rfl).as (by rw [eX,eX,List.map_append]; rfl))).sel [false,false,true,true,true,true,true,true,true]),by rw [hon,List.length_append,hn3]; rfl,by omega,rfl⟩
          ·
           refine cH bN (z:=.int .i64 0) (by kernel_rfl) rfl rfl rfl ?_;intro u g6 e hg hB; replace m:=m.newB e hg hB; clear e hg hB;refine aC (⟨m.sel [false,true,false,true,true,true,false,true,true],?_⟩);refine bL (by simp only[zw]; rfl) ?_;simp only[zz];refine aI rfl ((m.b 6 rfl).lies1 fH rfl) ?_;simp only[zz];refine aC (⟨m.sel [false,true,false,true,true,true,false,true,true],?_⟩);refine bL (by simp only[zw]; rfl) (fD m 2 rfl rfl bN gV rfl (by decide) rfl rfl rfl (m.b 0 rfl).rowsO (mJ rfl) (by omega) (by omega) ?_);clear m; intro A3 cap3 u m; simp only[zF,zG] at m;refine aC (⟨m.sel [false,true,false,true,true,true,false,true,true],?_⟩);refine aV (by simp only[zw]; rfl) (aY (aH (c:=0) cP rfl bT rfl rfl) (bA (bL (by simp only[zw]; rfl) ?_)));simp only[zz];refine dA m 6 rfl rfl rfl bT (cA rfl) ⟨rfl,rfl⟩ ?_;clear m; intro u m; simp only[zy,zx,aX,zF,zG,Nat.reduceAdd] at m;refine aC (⟨m.sel [false,true,false,true,true,true,false,true,true],?_⟩);refine eE (k28 _ _ ?_);refine wp_region_lit (aA (bD rfl rfl (aQ (by omega) (by omega))) (aA (aB) (aC ?_)));simp only[zz];simp only[Exit.inBlock,Exit.then];refine ⟨n2 - (k + 1),_,?_,rfl,?_,?_⟩
           · omega
           · simp only[zz,zv]
           ·
            simp only[zQ,zR,zD,zE];exact ⟨k + 1,_,_,_,rfl,(((m.re 6 rfl (by rw [hlo,hon,gF]; exact (m.b 6 rfl))).reO 2 rfl (by rw [hon]; exact (m.o 2 rfl).as (by rw [eX,eX,List.map_append]; rfl))).sel [false,false,true,true,true,true,true,true,true]),by rw [hon,List.length_append,hn3]; rfl,by omega,rfl⟩
        ·
         have hlo : rR (cT r (bE r (bQ bs xs)) ((cB bs xs).take (k + 1))) = rR (cT r (bE r (bQ bs xs)) ((cB bs xs).take k)):=by rw [hon,nX hoe]; exact if_neg (mt gD.2 hc7)
         refine wp_skip (k33 _ _ ?_);refine aF fun K37 k37=>wp_region_lit (aA (aH (c:=0) cP rfl aM rfl rfl) ?_);simp only[zz];refine dA m 5 rfl rfl rfl aM (cA rfl) ⟨rfl,rfl⟩ ?_;clear m; intro u m; simp only[zy,zx,aX,zF,zG,Nat.reduceAdd] at m;refine aC (k37 _ _ ?_);have hol:=lO (r:=r) (h:=bE r (bQ bs xs)) ((cB bs xs).take k);rw [List.length_take] at hol;refine kG m [true,false,true,true,true,false,true,true] (.take 0 (.take 2 (.two 1 (.one 3 (.one 4 (.one 5 (.take 6 (.one 7 .nil))))) 3 (.two 1 (.one 4 (.one 5 (.take 6 (.one 7 .nil)))) 4 (.one 1 (.one 5 (.take 6 (.one 7 .nil)))))))) aN (by kernel_rfl) (cW (fun _ _ _ _ _ h=>h)) ?_;clear m; intro u m;refine aV (by simp only[zw]; rfl) (aY (aH (c:=0) cP rfl bT rfl rfl) (bA (aV (by simp only[zw]; rfl) (aY (aB) (bA ?_)))));simp only[zz];refine gX (by simp only[zw]; rfl) (by simp only[zw]; rfl) ?_ ?_
         ·
          refine aI rfl ((m.b 5 rfl).lies1 fH rfl) ?_;simp only[zz];refine aC (⟨m.sel [true,false,true,true,true,false,true,true],?_⟩);refine bL (by simp only[zw]; rfl) (oF m rfl (oG hot) kJ ?_);clear m; intro u m;refine aC (⟨m.sel [true,false,true,true,true,false,true,true],?_⟩);refine bL (by simp only[zw]; rfl) ?_;simp only[zz];refine cH bN (z:=.int .i64 0) (by kernel_rfl) rfl rfl rfl ?_;intro u g6 e hg hB; replace m:=m.newB e hg hB; clear e hg hB;refine aC (⟨m.sel [false,true,false,true,true,true,false,true,true],?_⟩);refine bL (by simp only[zw]; rfl) ?_;simp only[zz];refine fD m 2 rfl rfl bN gV rfl (by decide) rfl rfl rfl (m.b 0 rfl).rowsO (mJ rfl) (by omega) (by omega) ?_;clear m; intro A3 cap3 u m; simp only[zF,zG] at m;refine aC (⟨m.sel [false,true,false,true,true,true,false,true,true],?_⟩);refine aV (by simp only[zw]; rfl) (aY (aH (c:=0) cP rfl bT rfl rfl) (bA (bL (by simp only[zw]; rfl) ?_)));simp only[zz];refine dA m 6 rfl rfl rfl bT (cA rfl) ⟨rfl,rfl⟩ ?_;clear m; intro u m; simp only[zy,zx,aX,zF,zG,Nat.reduceAdd] at m;refine aC (⟨m.sel [false,true,false,true,true,true,false,true,true],?_⟩);refine eE (k28 _ _ ?_);refine wp_region_lit (aA (bD rfl rfl (aQ (by omega) (by omega))) (aA (aB) (aC ?_)));simp only[zz];simp only[Exit.inBlock,Exit.then];refine ⟨n2 - (k + 1),_,?_,rfl,?_,?_⟩
          · omega
          · simp only[zz,zv]
          ·
           simp only[zQ,zR,zD,zE];exact ⟨k + 1,_,_,_,rfl,(((m.re 6 rfl (by rw [hlo,hon,gF]; exact (m.b 6 rfl))).reO 2 rfl (by rw [hon]; exact (m.o 2 rfl).as (by rw [eX,eX,List.map_append]; rfl))).sel [false,false,true,true,true,true,true,true,true]),by rw [hon,List.length_append,hn3]; rfl,by omega,rfl⟩
         ·
          refine oF m rfl (oG hot) kJ ?_;clear m; intro u m;refine aC (⟨m.sel [true,false,true,true,true,false,true,true],?_⟩);simp only[zz];refine gX (by simp only[zw]; rfl) (by simp only[zw]; rfl) ?_ ?_
          ·
           refine aI rfl ((m.b 5 rfl).lies1 fH rfl) ?_;simp only[zz];refine aC (⟨m.sel [true,false,true,true,true,false,true,true],?_⟩);refine bL (by simp only[zw]; rfl) (cH bN (z:=.int .i64 0) (by kernel_rfl) rfl rfl rfl ?_);intro u g6 e hg hB; replace m:=m.newB e hg hB; clear e hg hB;refine aC (⟨m.sel [false,true,false,true,true,true,false,true,true],?_⟩);refine bL (by simp only[zw]; rfl) ?_;simp only[zz];refine fD m 2 rfl rfl bN gV rfl (by decide) rfl rfl rfl (m.b 0 rfl).rowsO (mJ rfl) (by omega) (by omega) ?_;clear m; intro A3 cap3 u m; simp only[zF,zG] at m;refine aC (⟨m.sel [false,true,false,true,true,true,false,true,true],?_⟩);refine aV (by simp only[zw]; rfl) (aY (aH (c:=0) cP rfl bT rfl rfl) (bA (bL (by simp only[zw]; rfl) ?_)));simp only[zz];refine dA m 6 rfl rfl rfl bT (cA rfl) ⟨rfl,rfl⟩ ?_;clear m; intro u m; simp only[zy,zx,aX,zF,zG,Nat.reduceAdd] at m;refine aC (⟨m.sel [false,true,false,true,true,true,false,true,true],?_⟩);refine eE (k28 _ _ ?_);refine wp_region_lit (aA (bD rfl rfl (aQ (by omega) (by omega))) (aA (aB) (aC ?_)));simp only[zz];simp only[Exit.inBlock,Exit.then];refine ⟨n2 - (k + 1),_,?_,rfl,?_,?_⟩
           · omega
           · simp only[zz,zv]
           ·
            simp only[zQ,zR,zD,zE];exact ⟨k + 1,_,_,_,rfl,(((m.re 6 rfl (by rw [hlo,hon,gF]; exact (m.b 6 rfl))).reO 2 rfl (by rw [hon]; exact (m.o 2 rfl).as (by rw [eX,eX,List.map_append]; rfl))).sel [false,false,true,true,true,true,true,true,true]),by rw [hon,List.length_append,hn3]; rfl,by omega,rfl⟩
          ·
           refine cH bN (z:=.int .i64 0) (by kernel_rfl) rfl rfl rfl ?_;intro u g6 e hg hB; replace m:=m.newB e hg hB; clear e hg hB;refine aC (⟨m.sel [false,true,false,true,true,true,false,true,true],?_⟩);refine bL (by simp only[zw]; rfl) ?_;simp only[zz];refine aI rfl ((m.b 6 rfl).lies1 fH rfl) ?_;simp only[zz];refine aC (⟨m.sel [false,true,false,true,true,true,false,true,true],?_⟩);refine bL (by simp only[zw]; rfl) (fD m 2 rfl rfl bN gV rfl (by decide) rfl rfl rfl (m.b 0 rfl).rowsO (mJ rfl) (by omega) (by omega) ?_);clear m; intro A3 cap3 u m; simp only[zF,zG] at m;refine aC (⟨m.sel [false,true,false,true,true,true,false,true,true],?_⟩);refine aV (by simp only[zw]; rfl) (aY (aH (c:=0) cP rfl bT rfl rfl) (bA (bL (by simp only[zw]; rfl) ?_)));simp only[zz];refine dA m 6 rfl rfl rfl bT (cA rfl) ⟨rfl,rfl⟩ ?_;clear m; intro u m; simp only[zy,zx,aX,zF,zG,Nat.reduceAdd] at m;refine aC (⟨m.sel [false,true,false,true,true,true,false,true,true],?_⟩);refine eE (k28 _ _ ?_);refine wp_region_lit (aA (bD rfl rfl (aQ (by omega) (by omega))) (aA (aB) (aC ?_)));simp only[zz];simp only[Exit.inBlock,Exit.then];refine ⟨n2 - (k + 1),_,?_,rfl,?_,?_⟩
           · omega
           · simp only[zz,zv]
           ·
            simp only[zQ,zR,zD,zE];exact ⟨k + 1,_,_,_,rfl,(((m.re 6 rfl (by rw [hlo,hon,gF]; exact (m.b 6 rfl))).reO 2 rfl (by rw [hon]; exact (m.o 2 rfl).as (by rw [eX,eX,List.map_append]; rfl))).sel [false,false,true,true,true,true,true,true,true]),by rw [hon,List.length_append,hn3]; rfl,by omega,rfl⟩
      ·
       have hq : iU r kd = some q:=hq;have hbt:=Cn (r:=r) hIT;have htt : lZ (bE r (bQ bs xs)) = t:=by rw [hh]; rfl
       rw [hq];rw [hq] at m;simp only[Option.isSome_some,Option.getD_some] at m ⊢;refine wp_region_lit (aA (aB) (aA (eT rfl) (aA (aB) (aP rfl ?_))));simp only[zz];refine aA (qW aB (show (Value.bool (bE r (bQ bs xs)).isSome) = .bool true by rw [hh]; rfl)) (aP rfl (aA (aB) (aP rfl ?_)));simp only[zz];refine aI rfl ((m.b 0 rfl).full bB aK) ?_;simp only[zz];refine aP rfl (aA (aH (c:=3) qX rfl aK rfl rfl) (aP rfl ?_));simp only[zz];refine aI rfl ((m.b 2 rfl).lies bB aK rfl rfl) ?_;simp only[zz,zy,Nat.zero_add,Nat.reduceAdd,Nat.reduceMul,Int.reduceToNat];refine aP rfl (aW m rfl rfl (jW (p:=q) (q:=lZ (bE r (bQ bs xs))) (rN hkd hq) hbt) ?_);clear m; intro u m;refine aP rfl (aA (lC rfl rfl) (aP rfl (aA (cG rfl) (aA (cO rfl) ?_))));simp only[zz];refine aC (k32 _ _ ?_);refine cQ rfl (fun hc6=>?_) (fun hc6=>?_)
       ·
        rw [htt] at hc6;have hnl : ¬ q < t:=fun h=>by have:=gD.2 h; omega
        rw [if_neg hnl] at ho4;have hon : cT r (bE r (bQ bs xs)) ((cB bs xs).take (k + 1)) = cT r (bE r (bQ bs xs)) ((cB bs xs).take k):=by rw [uG hx,ho4,List.append_nil]
        refine wp_exit (k28 _ _ ?_);refine wp_region_lit (aA (bD rfl rfl (aQ (by omega) (by omega))) (aA (aB) (aC ?_)));simp only[zz];simp only[Exit.inBlock,Exit.then];refine ⟨n2 - (k + 1),_,?_,rfl,?_,?_⟩
        · omega
        · simp only[zz,zv]
        ·
         simp only[zQ,zR,zD,zE];exact ⟨k + 1,_,_,_,rfl,(((m.re 5 rfl (by rw [hon]; exact (m.b 5 rfl))).reO 1 rfl (by rw [hon]; exact (m.o 1 rfl))).sel [false,true,true,true,true,true,true,true]),by rw [hon]; exact hn3,by omega,rfl⟩
       ·
        rw [htt] at hc6;have hnl : q < t:=gD.1 (by omega);rw [if_pos hnl] at ho4;have hon : cT r (bE r (bQ bs xs)) ((cB bs xs).take (k + 1)) = cT r (bE r (bQ bs xs)) ((cB bs xs).take k) ++ [(i,q)]:=by rw [uG hx,ho4]
        refine wp_skip (k31 _ _ ?_);refine aF fun K38 k38=>aF fun K39 k39=>?_;rcases Decidable.em (cT r (bE r (bQ bs xs)) ((cB bs xs).take k) = []) with hoe | hoe
        ·
         have hlo : rR (cT r (bE r (bQ bs xs)) ((cB bs xs).take (k + 1))) = q:=by rw [hon,hoe]; rfl
         rw [show tO (cT r (bE r (bQ bs xs)) ((cB bs xs).take k)) = 2 by rw [hoe]; rfl] at m;refine wp_region_lit (aA (aH (c:=0) cP rfl aM rfl rfl) ?_);simp only[zz];refine aI rfl ((m.b 5 rfl).lies1 aZ rfl) ?_;simp only[zz];refine aA (uX rfl rfl (by decide)) (aA (aB) (bG rfl (bG rfl ?_)));simp only[zz];refine bG rfl (bG rfl (bG rfl (aA (cG rfl) ?_)));simp only[zz];refine aC (k39 _ _ ?_);refine bX rfl (wp_region_lit (aI rfl ((m.b 0 rfl).full bB aK) ?_));simp only[zz];refine aA (aH (c:=3) cP rfl aK rfl rfl) ?_;simp only[zz];refine aL m 5 rfl rfl rfl aK (cA rfl) rfl ?_;clear m; intro u m; simp only[zy,zx,aX,zF,zG,Nat.reduceAdd] at m;refine aC (k38 _ _ ?_);refine aF fun K40 k40=>wp_region_lit (aA (aH (c:=0) cP rfl aM rfl rfl) ?_);simp only[zz];refine dA m 5 rfl rfl rfl aM (cA rfl) ⟨rfl,rfl⟩ ?_;clear m; intro u m; simp only[zy,zx,aX,zF,zG,Nat.reduceAdd] at m;refine aC (k40 _ _ ?_);have hol:=lO (r:=r) (h:=bE r (bQ bs xs)) ((cB bs xs).take k);rw [List.length_take] at hol;refine kG m [true,false,true,true,true,false,true,true] (.take 0 (.take 2 (.two 1 (.one 3 (.one 4 (.one 5 (.take 6 (.one 7 .nil))))) 3 (.two 1 (.one 4 (.one 5 (.take 6 (.one 7 .nil)))) 4 (.one 1 (.one 5 (.take 6 (.one 7 .nil)))))))) aN (by kernel_rfl) (cW (fun _ _ _ _ _ h=>h)) ?_;clear m; intro u m;refine aV (by simp only[zw]; rfl) (aY (aH (c:=0) cP rfl bT rfl rfl) (bA (aV (by simp only[zw]; rfl) (aY (aB) (bA ?_)))));simp only[zz];refine gX (by simp only[zw]; rfl) (by simp only[zw]; rfl) ?_ ?_
         ·
          refine aI rfl ((m.b 5 rfl).lies1 fH rfl) ?_;simp only[zz];refine aC (⟨m.sel [true,false,true,true,true,false,true,true],?_⟩);refine bL (by simp only[zw]; rfl) (oF m rfl (oG hot) kJ ?_);clear m; intro u m;refine aC (⟨m.sel [true,false,true,true,true,false,true,true],?_⟩);refine bL (by simp only[zw]; rfl) ?_;simp only[zz];refine cH bN (z:=.int .i64 0) (by kernel_rfl) rfl rfl rfl ?_;intro u g6 e hg hB; replace m:=m.newB e hg hB; clear e hg hB;refine aC (⟨m.sel [false,true,false,true,true,true,false,true,true],?_⟩);refine bL (by simp only[zw]; rfl) ?_;simp only[zz];refine fD m 2 rfl rfl bN gV rfl (by decide) rfl rfl rfl (m.b 0 rfl).rowsO (mJ rfl) (by omega) (by omega) ?_;clear m; intro A3 cap3 u m; simp only[zF,zG] at m;refine aC (⟨m.sel [false,true,false,true,true,true,false,true,true],?_⟩);refine aV (by simp only[zw]; rfl) (aY (aH (c:=0) cP rfl bT rfl rfl) (bA (bL (by simp only[zw]; rfl) ?_)));simp only[zz];refine dA m 6 rfl rfl rfl bT (cA rfl) ⟨rfl,rfl⟩ ?_;clear m; intro u m; simp only[zy,zx,aX,zF,zG,Nat.reduceAdd] at m;refine aC (⟨m.sel [false,true,false,true,true,true,false,true,true],?_⟩);refine eE (k28 _ _ ?_);refine wp_region_lit (aA (bD rfl rfl (aQ (by omega) (by omega))) (aA (aB) (aC ?_)));simp only[zz];simp only[Exit.inBlock,Exit.then];refine ⟨n2 - (k + 1),_,?_,rfl,?_,?_⟩
          · omega
          · simp only[zz,zv]
          ·
           simp only[zQ,zR,zD,zE];exact ⟨k + 1,_,_,_,rfl,(((m.re 6 rfl (by rw [hlo,hon,gF]; exact (m.b 6 rfl))).reO 2 rfl (by rw [hon]; exact (m.o 2 rfl).as (by rw [eX,eX,List.map_append]; rfl))).sel [false,false,true,true,true,true,true,true,true]),by rw [hon,List.length_append,hn3]; rfl,by omega,rfl⟩
         ·
          refine oF m rfl (oG hot) kJ ?_;clear m; intro u m;refine aC (⟨m.sel [true,false,true,true,true,false,true,true],?_⟩);simp only[zz];refine gX (by simp only[zw]; rfl) (by simp only[zw]; rfl) ?_ ?_
          ·
           refine aI rfl ((m.b 5 rfl).lies1 fH rfl) ?_;simp only[zz];refine aC (⟨m.sel [true,false,true,true,true,false,true,true],?_⟩);refine bL (by simp only[zw]; rfl) (cH bN (z:=.int .i64 0) (by kernel_rfl) rfl rfl rfl ?_);intro u g6 e hg hB; replace m:=m.newB e hg hB; clear e hg hB;refine aC (⟨m.sel [false,true,false,true,true,true,false,true,true],?_⟩);refine bL (by simp only[zw]; rfl) ?_;simp only[zz];refine fD m 2 rfl rfl bN gV rfl (by decide) rfl rfl rfl (m.b 0 rfl).rowsO (mJ rfl) (by omega) (by omega) ?_;clear m; intro A3 cap3 u m; simp only[zF,zG] at m;refine aC (⟨m.sel [false,true,false,true,true,true,false,true,true],?_⟩);refine aV (by simp only[zw]; rfl) (aY (aH (c:=0) cP rfl bT rfl rfl) (bA (bL (by simp only[zw]; rfl) ?_)));simp only[zz];refine dA m 6 rfl rfl rfl bT (cA rfl) ⟨rfl,rfl⟩ ?_;clear m; intro u m; simp only[zy,zx,aX,zF,zG,Nat.reduceAdd] at m;refine aC (⟨m.sel [false,true,false,true,true,true,false,true,true],?_⟩);refine eE (k28 _ _ ?_);refine wp_region_lit (aA (bD rfl rfl (aQ (by omega) (by omega))) (aA (aB) (aC ?_)));simp only[zz];simp only[Exit.inBlock,Exit.then];refine ⟨n2 - (k + 1),_,?_,rfl,?_,?_⟩
           · omega
           · simp only[zz,zv]
           ·
            simp only[zQ,zR,zD,zE];exact ⟨k + 1,_,_,_,rfl,(((m.re 6 rfl (by rw [hlo,hon,gF]; exact (m.b 6 rfl))).reO 2 rfl (by rw [hon]; exact (m.o 2 rfl).as (by rw [eX,eX,List.map_append]; rfl))).sel [false,false,true,true,true,true,true,true,true]),by rw [hon,List.length_append,hn3]; rfl,by omega,rfl⟩
          ·
           refine cH bN (z:=.int .i64 0) (by kernel_rfl) rfl rfl rfl ?_;intro u g6 e hg hB; replace m:=m.newB e hg hB; clear e hg hB;refine aC (⟨m.sel [false,true,false,true,true,true,false,true,true],?_⟩);refine bL (by simp only[zw]; rfl) ?_;simp only[zz];refine aI rfl ((m.b 6 rfl).lies1 fH rfl) ?_;simp only[zz];refine aC (⟨m.sel [false,true,false,true,true,true,false,true,true],?_⟩);refine bL (by simp only[zw]; rfl) (fD m 2 rfl rfl bN gV rfl (by decide) rfl rfl rfl (m.b 0 rfl).rowsO (mJ rfl) (by omega) (by omega) ?_);clear m; intro A3 cap3 u m; simp only[zF,zG] at m;refine aC (⟨m.sel [false,true,false,true,true,true,false,true,true],?_⟩);refine aV (by simp only[zw]; rfl) (aY (aH (c:=0) cP rfl bT rfl rfl) (bA (bL (by simp only[zw]; rfl) ?_)));simp only[zz];refine dA m 6 rfl rfl rfl bT (cA rfl) ⟨rfl,rfl⟩ ?_;clear m; intro u m; simp only[zy,zx,aX,zF,zG,Nat.reduceAdd] at m;refine aC (⟨m.sel [false,true,false,true,true,true,false,true,true],?_⟩);refine eE (k28 _ _ ?_);refine wp_region_lit (aA (bD rfl rfl (aQ (by omega) (by omega))) (aA (aB) (aC ?_)));simp only[zz];simp only[Exit.inBlock,Exit.then];refine ⟨n2 - (k + 1),_,?_,rfl,?_,?_⟩
           · omega
           · simp only[zz,zv]
           ·
            simp only[zQ,zR,zD,zE];exact ⟨k + 1,_,_,_,rfl,(((m.re 6 rfl (by rw [hlo,hon,gF]; exact (m.b 6 rfl))).reO 2 rfl (by rw [hon]; exact (m.o 2 rfl).as (by rw [eX,eX,List.map_append]; rfl))).sel [false,false,true,true,true,true,true,true,true]),by rw [hon,List.length_append,hn3]; rfl,by omega,rfl⟩
        ·
         have hbo:=Nm (r:=r) (h:=bE r (bQ bs xs)) (xs:=(cB bs xs).take k) (fun x hx=>hko x (List.mem_of_mem_take hx));rw [show tO (cT r (bE r (bQ bs xs)) ((cB bs xs).take k)) = 3 from wW hoe] at m;refine wp_region_lit (aA (aH (c:=0) cP rfl aM rfl rfl) ?_);simp only[zz];refine aI rfl ((m.b 5 rfl).lies1 aZ rfl) ?_;simp only[zz];refine aA (qG rfl rfl (by decide)) (aA (aB) (aP rfl ?_));simp only[zz];refine aI rfl ((m.b 0 rfl).full bB aK) ?_;simp only[zz];refine aP rfl (aA (aH (c:=3) cP rfl aK rfl rfl) (aP rfl ?_));simp only[zz];refine aI rfl ((m.b 5 rfl).lies bB aK rfl rfl) ?_;simp only[zz,zy,Nat.zero_add,Nat.reduceAdd,Nat.reduceMul,Int.reduceToNat];refine aP rfl (aW m rfl rfl (jW (p:=q) (q:=rR (cT r (bE r (bQ bs xs)) ((cB bs xs).take k))) (rN hkd hq) hbo) ?_);clear m; intro u m;refine aP rfl (aA (eA rfl rfl) (aA (cO rfl) (aC (k39 _ _ ?_))));simp only[zz];refine cQ rfl (fun hc7=>?_) (fun hc7=>?_)
         ·
          have hlo : rR (cT r (bE r (bQ bs xs)) ((cB bs xs).take (k + 1))) = q:=by rw [hon,nX hoe]; exact if_pos (gD.1 hc7)
          refine wp_region_lit (aI rfl ((m.b 0 rfl).full bB aK) ?_);simp only[zz];refine aA (aH (c:=3) cP rfl aK rfl rfl) ?_;simp only[zz];refine aL m 5 rfl rfl rfl aK (cA rfl) rfl ?_;clear m; intro u m; simp only[zy,zx,aX,zF,zG,Nat.reduceAdd] at m;refine aC (k38 _ _ ?_);refine aF fun K41 k41=>wp_region_lit (aA (aH (c:=0) cP rfl aM rfl rfl) ?_);simp only[zz];refine dA m 5 rfl rfl rfl aM (cA rfl) ⟨rfl,rfl⟩ ?_;clear m; intro u m; simp only[zy,zx,aX,zF,zG,Nat.reduceAdd] at m;refine aC (k41 _ _ ?_);have hol:=lO (r:=r) (h:=bE r (bQ bs xs)) ((cB bs xs).take k);rw [List.length_take] at hol;refine kG m [true,false,true,true,true,false,true,true] (.take 0 (.take 2 (.two 1 (.one 3 (.one 4 (.one 5 (.take 6 (.one 7 .nil))))) 3 (.two 1 (.one 4 (.one 5 (.take 6 (.one 7 .nil)))) 4 (.one 1 (.one 5 (.take 6 (.one 7 .nil)))))))) aN (by kernel_rfl) (cW (fun _ _ _ _ _ h=>h)) ?_;clear m; intro u m;refine aV (by simp only[zw]; rfl) (aY (aH (c:=0) cP rfl bT rfl rfl) (bA (aV (by simp only[zw]; rfl) (aY (aB) (bA ?_)))));simp only[zz];refine gX (by simp only[zw]; rfl) (by simp only[zw]; rfl) ?_ ?_
          ·
           refine aI rfl ((m.b 5 rfl).lies1 fH rfl) ?_;simp only[zz];refine aC (⟨m.sel [true,false,true,true,true,false,true,true],?_⟩);refine bL (by simp only[zw]; rfl) (oF m rfl (oG hot) kJ ?_);clear m; intro u m;refine aC (⟨m.sel [true,false,true,true,true,false,true,true],?_⟩);refine bL (by simp only[zw]; rfl) ?_;simp only[zz];refine cH bN (z:=.int .i64 0) (by kernel_rfl) rfl rfl rfl ?_;intro u g6 e hg hB; replace m:=m.newB e hg hB; clear e hg hB;refine aC (⟨m.sel [false,true,false,true,true,true,false,true,true],?_⟩);refine bL (by simp only[zw]; rfl) ?_;simp only[zz];refine fD m 2 rfl rfl bN gV rfl (by decide) rfl rfl rfl (m.b 0 rfl).rowsO (mJ rfl) (by omega) (by omega) ?_;clear m; intro A3 cap3 u m; simp only[zF,zG] at m;refine aC (⟨m.sel [false,true,false,true,true,true,false,true,true],?_⟩);refine aV (by simp only[zw]; rfl) (aY (aH (c:=0) cP rfl bT rfl rfl) (bA (bL (by simp only[zw]; rfl) ?_)));simp only[zz];refine dA m 6 rfl rfl rfl bT (cA rfl) ⟨rfl,rfl⟩ ?_;clear m; intro u m; simp only[zy,zx,aX,zF,zG,Nat.reduceAdd] at m;refine aC (⟨m.sel [false,true,false,true,true,true,false,true,true],?_⟩);refine eE (k28 _ _ ?_);refine wp_region_lit (aA (bD rfl rfl (aQ (by omega) (by omega))) (aA (aB) (aC ?_)));simp only[zz];simp only[Exit.inBlock,Exit.then];refine ⟨n2 - (k + 1),_,?_,rfl,?_,?_⟩
           · omega
           · simp only[zz,zv]
           ·
            simp only[zQ,zR,zD,zE];exact ⟨k + 1,_,_,_,rfl,(((m.re 6 rfl (by rw [hlo,hon,gF]; exact (m.b 6 rfl))).reO 2 rfl (by rw [hon]; exact (m.o 2 rfl).as (by rw [eX,eX,List.map_append]; rfl))).sel [false,false,true,true,true,true,true,true,true]),by rw [hon,List.length_append,hn3]; rfl,by omega,rfl⟩
          ·
           refine oF m rfl (oG hot) kJ ?_;clear m; intro u m;refine aC (⟨m.sel [true,false,true,true,true,false,true,true],?_⟩);simp only[zz];refine gX (by simp only[zw]; rfl) (by simp only[zw]; rfl) ?_ ?_
           ·
            refine aI rfl ((m.b 5 rfl).lies1 fH rfl) ?_;simp only[zz];refine aC (⟨m.sel [true,false,true,true,true,false,true,true],?_⟩);refine bL (by simp only[zw]; rfl) (cH bN (z:=.int .i64 0) (by kernel_rfl) rfl rfl rfl ?_);intro u g6 e hg hB; replace m:=m.newB e hg hB; clear e hg hB;refine aC (⟨m.sel [false,true,false,true,true,true,false,true,true],?_⟩);refine bL (by simp only[zw]; rfl) ?_;simp only[zz];refine fD m 2 rfl rfl bN gV rfl (by decide) rfl rfl rfl (m.b 0 rfl).rowsO (mJ rfl) (by omega) (by omega) ?_;clear m; intro A3 cap3 u m; simp only[zF,zG] at m;refine aC (⟨m.sel [false,true,false,true,true,true,false,true,true],?_⟩);refine aV (by simp only[zw]; rfl) (aY (aH (c:=0) cP rfl bT rfl rfl) (bA (bL (by simp only[zw]; rfl) ?_)));simp only[zz];refine dA m 6 rfl rfl rfl bT (cA rfl) ⟨rfl,rfl⟩ ?_;clear m; intro u m; simp only[zy,zx,aX,zF,zG,Nat.reduceAdd] at m;refine aC (⟨m.sel [false,true,false,true,true,true,false,true,true],?_⟩);refine eE (k28 _ _ ?_);refine wp_region_lit (aA (bD rfl rfl (aQ (by omega) (by omega))) (aA (aB) (aC ?_)));simp only[zz];simp only[Exit.inBlock,Exit.then];refine ⟨n2 - (k + 1),_,?_,rfl,?_,?_⟩
            · omega
            · simp only[zz,zv]
            ·
             simp only[zQ,zR,zD,zE];exact ⟨k + 1,_,_,_,rfl,(((m.re 6 rfl (by rw [hlo,hon,gF]; exact (m.b 6 rfl))).reO 2 rfl (by rw [hon]; exact (m.o 2 rfl).as (by rw [eX,eX,List.map_append]; rfl))).sel [false,false,true,true,true,true,true,true,true]),by rw [hon,List.length_append,hn3]; rfl,by omega,rfl⟩
           ·
            refine cH bN (z:=.int .i64 0) (by kernel_rfl) rfl rfl rfl ?_;intro u g6 e hg hB; replace m:=m.newB e hg hB; clear e hg hB;refine aC (⟨m.sel [false,true,false,true,true,true,false,true,true],?_⟩);refine bL (by simp only[zw]; rfl) ?_;simp only[zz];refine aI rfl ((m.b 6 rfl).lies1 fH rfl) ?_;simp only[zz];refine aC (⟨m.sel [false,true,false,true,true,true,false,true,true],?_⟩);refine bL (by simp only[zw]; rfl) (fD m 2 rfl rfl bN gV rfl (by decide) rfl rfl rfl (m.b 0 rfl).rowsO (mJ rfl) (by omega) (by omega) ?_);clear m; intro A3 cap3 u m; simp only[zF,zG] at m;refine aC (⟨m.sel [false,true,false,true,true,true,false,true,true],?_⟩);refine aV (by simp only[zw]; rfl) (aY (aH (c:=0) cP rfl bT rfl rfl) (bA (bL (by simp only[zw]; rfl) ?_)));simp only[zz];refine dA m 6 rfl rfl rfl bT (cA rfl) ⟨rfl,rfl⟩ ?_;clear m; intro u m; simp only[zy,zx,aX,zF,zG,Nat.reduceAdd] at m;refine aC (⟨m.sel [false,true,false,true,true,true,false,true,true],?_⟩);refine eE (k28 _ _ ?_);refine wp_region_lit (aA (bD rfl rfl (aQ (by omega) (by omega))) (aA (aB) (aC ?_)));simp only[zz];simp only[Exit.inBlock,Exit.then];refine ⟨n2 - (k + 1),_,?_,rfl,?_,?_⟩
            · omega
            · simp only[zz,zv]
            ·
             simp only[zQ,zR,zD,zE];exact ⟨k + 1,_,_,_,rfl,(((m.re 6 rfl (by rw [hlo,hon,gF]; exact (m.b 6 rfl))).reO 2 rfl (by rw [hon]; exact (m.o 2 rfl).as (by rw [eX,eX,List.map_append]; rfl))).sel [false,false,true,true,true,true,true,true,true]),by rw [hon,List.length_append,hn3]; rfl,by omega,rfl⟩
         ·
          have hlo : rR (cT r (bE r (bQ bs xs)) ((cB bs xs).take (k + 1))) = rR (cT r (bE r (bQ bs xs)) ((cB bs xs).take k)):=by rw [hon,nX hoe]; exact if_neg (mt gD.2 hc7)
          refine wp_skip (k38 _ _ ?_);refine aF fun K42 k42=>wp_region_lit (aA (aH (c:=0) cP rfl aM rfl rfl) ?_);simp only[zz];refine dA m 5 rfl rfl rfl aM (cA rfl) ⟨rfl,rfl⟩ ?_;clear m; intro u m; simp only[zy,zx,aX,zF,zG,Nat.reduceAdd] at m;refine aC (k42 _ _ ?_);have hol:=lO (r:=r) (h:=bE r (bQ bs xs)) ((cB bs xs).take k);rw [List.length_take] at hol;refine kG m [true,false,true,true,true,false,true,true] (.take 0 (.take 2 (.two 1 (.one 3 (.one 4 (.one 5 (.take 6 (.one 7 .nil))))) 3 (.two 1 (.one 4 (.one 5 (.take 6 (.one 7 .nil)))) 4 (.one 1 (.one 5 (.take 6 (.one 7 .nil)))))))) aN (by kernel_rfl) (cW (fun _ _ _ _ _ h=>h)) ?_;clear m; intro u m;refine aV (by simp only[zw]; rfl) (aY (aH (c:=0) cP rfl bT rfl rfl) (bA (aV (by simp only[zw]; rfl) (aY (aB) (bA ?_)))));simp only[zz];refine gX (by simp only[zw]; rfl) (by simp only[zw]; rfl) ?_ ?_
          ·
           refine aI rfl ((m.b 5 rfl).lies1 fH rfl) ?_;simp only[zz];refine aC (⟨m.sel [true,false,true,true,true,false,true,true],?_⟩);refine bL (by simp only[zw]; rfl) (oF m rfl (oG hot) kJ ?_);clear m; intro u m;refine aC (⟨m.sel [true,false,true,true,true,false,true,true],?_⟩);refine bL (by simp only[zw]; rfl) ?_;simp only[zz];refine cH bN (z:=.int .i64 0) (by kernel_rfl) rfl rfl rfl ?_;intro u g6 e hg hB; replace m:=m.newB e hg hB; clear e hg hB;refine aC (⟨m.sel [false,true,false,true,true,true,false,true,true],?_⟩);refine bL (by simp only[zw]; rfl) ?_;simp only[zz];refine fD m 2 rfl rfl bN gV rfl (by decide) rfl rfl rfl (m.b 0 rfl).rowsO (mJ rfl) (by omega) (by omega) ?_;clear m; intro A3 cap3 u m; simp only[zF,zG] at m;refine aC (⟨m.sel [false,true,false,true,true,true,false,true,true],?_⟩);refine aV (by simp only[zw]; rfl) (aY (aH (c:=0) cP rfl bT rfl rfl) (bA (bL (by simp only[zw]; rfl) ?_)));simp only[zz];refine dA m 6 rfl rfl rfl bT (cA rfl) ⟨rfl,rfl⟩ ?_;clear m; intro u m; simp only[zy,zx,aX,zF,zG,Nat.reduceAdd] at m;refine aC (⟨m.sel [false,true,false,true,true,true,false,true,true],?_⟩);refine eE (k28 _ _ ?_);refine wp_region_lit (aA (bD rfl rfl (aQ (by omega) (by omega))) (aA (aB) (aC ?_)));simp only[zz];simp only[Exit.inBlock,Exit.then];refine ⟨n2 - (k + 1),_,?_,rfl,?_,?_⟩
           · omega
           · simp only[zz,zv]
           ·
            simp only[zQ,zR,zD,zE];exact ⟨k + 1,_,_,_,rfl,(((m.re 6 rfl (by rw [hlo,hon,gF]; exact (m.b 6 rfl))).reO 2 rfl (by rw [hon]; exact (m.o 2 rfl).as (by rw [eX,eX,List.map_append]; rfl))).sel [false,false,true,true,true,true,true,true,true]),by rw [hon,List.length_append,hn3]; rfl,by omega,rfl⟩
          ·
           refine oF m rfl (oG hot) kJ ?_;clear m; intro u m;refine aC (⟨m.sel [true,false,true,true,true,false,true,true],?_⟩);simp only[zz];refine gX (by simp only[zw]; rfl) (by simp only[zw]; rfl) ?_ ?_
           ·
            refine aI rfl ((m.b 5 rfl).lies1 fH rfl) ?_;simp only[zz];refine aC (⟨m.sel [true,false,true,true,true,false,true,true],?_⟩);refine bL (by simp only[zw]; rfl) (cH bN (z:=.int .i64 0) (by kernel_rfl) rfl rfl rfl ?_);intro u g6 e hg hB; replace m:=m.newB e hg hB; clear e hg hB;refine aC (⟨m.sel [false,true,false,true,true,true,false,true,true],?_⟩);refine bL (by simp only[zw]; rfl) ?_;simp only[zz];refine fD m 2 rfl rfl bN gV rfl (by decide) rfl rfl rfl (m.b 0 rfl).rowsO (mJ rfl) (by omega) (by omega) ?_;clear m; intro A3 cap3 u m; simp only[zF,zG] at m;refine aC (⟨m.sel [false,true,false,true,true,true,false,true,true],?_⟩);refine aV (by simp only[zw]; rfl) (aY (aH (c:=0) cP rfl bT rfl rfl) (bA (bL (by simp only[zw]; rfl) ?_)));simp only[zz];refine dA m 6 rfl rfl rfl bT (cA rfl) ⟨rfl,rfl⟩ ?_;clear m; intro u m; simp only[zy,zx,aX,zF,zG,Nat.reduceAdd] at m;refine aC (⟨m.sel [false,true,false,true,true,true,false,true,true],?_⟩);refine eE (k28 _ _ ?_);refine wp_region_lit (aA (bD rfl rfl (aQ (by omega) (by omega))) (aA (aB) (aC ?_)));simp only[zz];simp only[Exit.inBlock,Exit.then];refine ⟨n2 - (k + 1),_,?_,rfl,?_,?_⟩
            · omega
            · simp only[zz,zv]
            ·
             simp only[zQ,zR,zD,zE];exact ⟨k + 1,_,_,_,rfl,(((m.re 6 rfl (by rw [hlo,hon,gF]; exact (m.b 6 rfl))).reO 2 rfl (by rw [hon]; exact (m.o 2 rfl).as (by rw [eX,eX,List.map_append]; rfl))).sel [false,false,true,true,true,true,true,true,true]),by rw [hon,List.length_append,hn3]; rfl,by omega,rfl⟩
           ·
            refine cH bN (z:=.int .i64 0) (by kernel_rfl) rfl rfl rfl ?_;intro u g6 e hg hB; replace m:=m.newB e hg hB; clear e hg hB;refine aC (⟨m.sel [false,true,false,true,true,true,false,true,true],?_⟩);refine bL (by simp only[zw]; rfl) ?_;simp only[zz];refine aI rfl ((m.b 6 rfl).lies1 fH rfl) ?_;simp only[zz];refine aC (⟨m.sel [false,true,false,true,true,true,false,true,true],?_⟩);refine bL (by simp only[zw]; rfl) (fD m 2 rfl rfl bN gV rfl (by decide) rfl rfl rfl (m.b 0 rfl).rowsO (mJ rfl) (by omega) (by omega) ?_);clear m; intro A3 cap3 u m; simp only[zF,zG] at m;refine aC (⟨m.sel [false,true,false,true,true,true,false,true,true],?_⟩);refine aV (by simp only[zw]; rfl) (aY (aH (c:=0) cP rfl bT rfl rfl) (bA (bL (by simp only[zw]; rfl) ?_)));simp only[zz];refine dA m 6 rfl rfl rfl bT (cA rfl) ⟨rfl,rfl⟩ ?_;clear m; intro u m; simp only[zy,zx,aX,zF,zG,Nat.reduceAdd] at m;refine aC (⟨m.sel [false,true,false,true,true,true,false,true,true],?_⟩);refine eE (k28 _ _ ?_);refine wp_region_lit (aA (bD rfl rfl (aQ (by omega) (by omega))) (aA (aB) (aC ?_)));simp only[zz];simp only[Exit.inBlock,Exit.then];refine ⟨n2 - (k + 1),_,?_,rfl,?_,?_⟩
            · omega
            · simp only[zz,zv]
            ·
             simp only[zQ,zR,zD,zE];exact ⟨k + 1,_,_,_,rfl,(((m.re 6 rfl (by rw [hlo,hon,gF]; exact (m.b 6 rfl))).reO 2 rfl (by rw [hon]; exact (m.o 2 rfl).as (by rw [eX,eX,List.map_append]; rfl))).sel [false,false,true,true,true,true,true,true,true]),by rw [hon,List.length_append,hn3]; rfl,by omega,rfl⟩
     ·
      have hkN : (cB bs xs).take k = cB bs xs:=List.take_of_length_le (by omega);rw [hkN] at m hn3;refine wp_exit (k24 _ _ ?_);refine aF fun K43 k43=>wp_block (aF fun K44 k44=>?_);rcases Option.eq_none_or_eq_some (bE r (bQ bs xs)) with hh | ⟨⟨t,kk⟩,hh⟩
      ·
       rw [show (bE r (bQ bs xs)).isSome = false by rw [hh]; rfl];have ha : Hh (bE r (bQ bs xs)) (cT r (bE r (bQ bs xs)) (cB bs xs)) = ⟨tO (cT r (bE r (bQ bs xs)) (cB bs xs)),rR (cT r (bE r (bQ bs xs)) (cB bs xs)),0,false,(cT r (bE r (bQ bs xs)) (cB bs xs)).map fun x=>(x.1 : Int)⟩:=by
        conv=>lhs; arg 1; rw [hh]
        exact Tv _
       refine wp_region_lit (aA (aB) (aA (eT rfl) (aA (aD) (aC (k44 _ _ ?_)))));refine bX rfl (wp_skip (k43 _ _ ?_));refine aF fun K45 k45=>wp_region_lit ?_;simp only[zz];refine aI rfl ((m.b 4 rfl).full iQ dF) ?_;simp only[zz];refine aL m 5 rfl rfl rfl dF (cA rfl) rfl ?_;clear m; intro u m; simp only[zy,zx,aX,zF,zG,Nat.reduceAdd] at m;refine aC (k45 _ _ ?_);refine wp_ret ?_;try simp only[Exit.inBlock,Exit.then,if_true]
       refine bU rfl ⟨_,rfl,((m.b 5 rfl).full iQ dF)⟩ ?_;try simp only[zD,zE]
       exact ⟨_,rfl,m.ext,A3,n3,cap3,by rw [fS,if_pos hok,ha]; rfl,by rw [fS,if_pos hok,ha,hn3]; exact (List.length_map ..).symm,by rw [fS,if_pos hok,ha]; exact (m.o 0 rfl).as (by rw [eX,List.map_map]; rfl)⟩
      ·
       rw [show (bE r (bQ bs xs)).isSome = true by rw [hh]; rfl];rw [show lZ (bE r (bQ bs xs)) = t by rw [hh]; rfl] at m;refine wp_region_lit (aA (aB) (aA (eT rfl) (aA (aD) (aC (k44 _ _ ?_)))));refine eQ rfl (aF fun K46 k46=>?_);simp only[zz];rcases Decidable.em (cT r (bE r (bQ bs xs)) (cB bs xs) = []) with hoe | hoe
       ·
        have ha : Hh (bE r (bQ bs xs)) (cT r (bE r (bQ bs xs)) (cB bs xs)) = ⟨1,t,t,false,[]⟩:=by
         rw [hoe]
         conv=>lhs; arg 1; rw [hh]
         rfl
        rw [show tO (cT r (bE r (bQ bs xs)) (cB bs xs)) = 2 by rw [hoe]; rfl] at m;refine wp_region_lit (aA (aH (c:=0) cP rfl aM rfl rfl) ?_);simp only[zz];refine aI rfl ((m.b 4 rfl).lies1 aZ rfl) ?_;simp only[zz];refine aA (kL rfl rfl (by decide)) (aA (aD) (aC (k46 _ _ ?_)));refine eQ rfl ?_;simp only[zz];refine mh m [true,true,true,true,false,true,true] [(0,true),(2,true),(4,true),(1,true),(3,true),(5,false),(6,true),(7,false),(8,true),(9,false)] aN (by kernel_rfl) (cW (fun _ _ _ _ _ h=>h)) (ol:=?_) ?hol ?_
        case hol=>simp only[zw,zQ,zR]; try rfl
        clear m; intro u m;refine aY (aH (c:=3) qX rfl aK rfl rfl) (aY (aH (c:=3) qX rfl aK rfl rfl) (aY (aH (c:=0) cP rfl aM rfl rfl) ?_));simp only[zz];refine cF rfl (fun u m=>((m.b 1 rfl).lies bB aK rfl rfl)) ?_;simp only[zz,zy,Nat.zero_add,Nat.reduceAdd,Nat.reduceMul,Int.reduceToNat];refine cF rfl (fun u m=>((m.b 1 rfl).lies bB aK rfl rfl)) ?_;simp only[zz,zy,Nat.zero_add,Nat.reduceAdd,Nat.reduceMul,Int.reduceToNat];refine cZ (dA m 4 rfl rfl rfl aM (cA rfl) ⟨rfl,rfl⟩ ?_);clear m; intro u m; simp only[zy,zx,aX,zF,zG,Nat.reduceAdd] at m;refine aC (⟨m.sel [true,true,true,true,false,true,true],?_⟩);refine aY (aH (c:=3) cP rfl aK rfl rfl) (cZ ?_);simp only[zz];refine aL m 4 rfl rfl rfl aK (cA rfl) rfl ?_;clear m; intro u m; simp only[zy,zx,aX,zF,zG,Nat.reduceAdd] at m;refine aC (⟨m.sel [true,true,true,true,false,true,true],?_⟩);refine aY (aH (c:=3) cP rfl aK rfl rfl) (cZ ?_);simp only[zz];refine aL m 4 rfl rfl rfl aK (cA rfl) rfl ?_;clear m; intro u m; simp only[zy,zx,aX,zF,zG,Nat.reduceAdd] at m;refine aC (⟨m.sel [true,true,true,true,false,true,true],?_⟩);refine bA (k43 _ _ ?_);refine aF fun K47 k47=>wp_region_lit (aI rfl ((m.b 4 rfl).full iQ dF) ?_);simp only[zz];refine aL m 5 rfl rfl rfl dF (cA rfl) rfl ?_;clear m; intro u m; simp only[zy,zx,aX,zF,zG,Nat.reduceAdd] at m;refine aC (k47 _ _ ?_);refine wp_ret ?_;try simp only[Exit.inBlock,Exit.then,if_true]
        refine bU rfl ⟨_,rfl,((m.b 5 rfl).full iQ dF)⟩ ?_;try simp only[zD,zE]
        exact ⟨_,rfl,m.ext,A3,n3,cap3,by rw [fS,if_pos hok,ha]; rfl,by rw [fS,if_pos hok,ha,hn3,hoe]; rfl,by rw [fS,if_pos hok,ha]; exact (m.o 0 rfl).as (by rw [hoe]; rfl)⟩
       ·
        have ha : Hh (bE r (bQ bs xs)) (cT r (bE r (bQ bs xs)) (cB bs xs)) = ⟨3,rR (cT r (bE r (bQ bs xs)) (cB bs xs)),t,true,(cT r (bE r (bQ bs xs)) (cB bs xs)).map fun x=>(x.1 : Int)⟩:=by
         conv=>lhs; arg 1; rw [hh]
         exact Tw hoe
        rw [show tO (cT r (bE r (bQ bs xs)) (cB bs xs)) = 3 from wW hoe] at m;refine wp_region_lit (aA (aH (c:=0) cP rfl aM rfl rfl) ?_);simp only[zz];refine aI rfl ((m.b 4 rfl).lies1 aZ rfl) ?_;simp only[zz];refine aA (nD rfl rfl (by decide)) (aA (aD) (aC (k46 _ _ ?_)));refine bX rfl (wp_region_lit (aA (aH (c:=3) qX rfl aK rfl rfl) ?_));simp only[zz];refine aI rfl ((m.b 1 rfl).lies bB aK rfl rfl) ?_;simp only[zz,zy,Nat.zero_add,Nat.reduceAdd,Nat.reduceMul,Int.reduceToNat];refine aA (aH (c:=3) cP rfl aK rfl rfl) ?_;simp only[zz];refine aL m 4 rfl rfl rfl aK (cA rfl) rfl ?_;clear m; intro u m; simp only[zy,zx,aX,zF,zG,Nat.reduceAdd] at m;refine aA (aH (c:=0) cP rfl eJ rfl rfl) ?_;simp only[zz];refine dA m 4 rfl rfl rfl eJ (cA rfl) ⟨rfl,rfl⟩ ?_;clear m; intro u m; simp only[zy,zx,aX,zF,zG,Nat.reduceAdd] at m;refine aC (k43 _ _ ?_);refine aF fun K48 k48=>wp_region_lit (aI rfl ((m.b 4 rfl).full iQ dF) ?_);simp only[zz];refine aL m 5 rfl rfl rfl dF (cA rfl) rfl ?_;clear m; intro u m; simp only[zy,zx,aX,zF,zG,Nat.reduceAdd] at m;refine aC (k48 _ _ ?_);refine wp_ret ?_;try simp only[Exit.inBlock,Exit.then,if_true]
        refine bU rfl ⟨_,rfl,((m.b 5 rfl).full iQ dF)⟩ ?_;try simp only[zD,zE]
        exact ⟨_,rfl,m.ext,A3,n3,cap3,by rw [fS,if_pos hok,ha]; rfl,by rw [fS,if_pos hok,ha,hn3]; exact (List.length_map ..).symm,by rw [fS,if_pos hok,ha]; exact (m.o 0 rfl).as (by rw [eX,List.map_map]; rfl)⟩
end Go.Proofs.YtimjandkmfcmiaaGreatDoor
namespace Go.Lith
open Go.RowKit
theorem ac6 {n D : Int} {t : Rat} (hD : 0 < D) : (n : Rat) ≤ t * (D : Rat) ↔ Rat.divInt n D ≤ t:=by
 rw [Rat.divInt_eq_div,← Rat.not_lt,← Rat.not_lt,Rat.lt_div_iff (Rat.intCast_pos.2 hD)]
theorem ac7 {n D : Int} {t : Rat} (hD : 0 < D) : t * (D : Rat) ≤ (n : Rat) ↔ t ≤ Rat.divInt n D:=by
 rw [Rat.divInt_eq_div,← Rat.not_lt,← Rat.not_lt,Rat.div_lt_iff (Rat.intCast_pos.2 hD)]
theorem axq {n D : Int} {t : Rat} : t * ((-D : Int) : Rat) ≤ ((-n : Int) : Rat) ↔ (n : Rat) ≤ t * (D : Rat):=by
 rw [Rat.intCast_neg,Rat.intCast_neg,Rat.mul_neg];exact Rat.neg_le_neg_iff
theorem adx {n D : Int} {t : Rat} : ((-n : Int) : Rat) ≤ t * ((-D : Int) : Rat) ↔ t * (D : Rat) ≤ (n : Rat):=by
 rw [Rat.intCast_neg,Rat.intCast_neg,Rat.mul_neg];exact Rat.neg_le_neg_iff
theorem ady {n D : Int} {t : Rat} (hD : D < 0) : (n : Rat) ≤ t * (D : Rat) ↔ t ≤ Rat.divInt n D:=by
 rw [← axq,ac7 (by omega),Rat.neg_divInt_neg]
theorem adz {n D : Int} {t : Rat} (hD : D < 0) : t * (D : Rat) ≤ (n : Rat) ↔ Rat.divInt n D ≤ t:=by
 rw [← adx,ac6 (by omega),Rat.neg_divInt_neg]
def Hq (r : fY) (n f d : Int) (t : Rat) : Prop:=(n : Rat) ≤ t * ((r.w * d : Int) : Rat) ∧ t * ((r.w * d : Int) : Rat) ≤ (f : Rat)
theorem Tz {r : fY} {n f d : Int} {t : Rat} (h : lN n f d) : ¬ Hq r n f d t:=by
 rintro ⟨h1,h2⟩;rcases h with h | ⟨rfl,h⟩
 · have:=Rat.intCast_le_intCast.1 (Rat.le_trans h1 h2)
   omega
 · rw [Int.mul_zero,show ((0 : Int) : Rat) = 0 from rfl,Rat.mul_zero] at h1 h2
   have h1:=Rat.intCast_le_intCast.1 (show (n : Rat) ≤ ((0 : Int) : Rat) from h1);have h2:=Rat.intCast_le_intCast.1 (show ((0 : Int) : Rat) ≤ (f : Rat) from h2);omega
theorem Pv {r : fY} {n f : Int} {t : Rat} (h : ¬ lN n f 0) : Hq r n f 0 t:=by
 unfold lN at h;unfold Hq;rw [Int.mul_zero,show ((0 : Int) : Rat) = 0 from rfl,Rat.mul_zero];exact ⟨(Rat.intCast_le_intCast (a:=n) (b:=0)).2 (by omega),(Rat.intCast_le_intCast (a:=0) (b:=f)).2 (by omega)⟩
theorem Ua {r : fY} {n f d : Int} {t : Rat} (hw : 0 < r.w) (hd : d ≠ 0) : Hq r n f d t ↔ Dv r n f d ≤ t ∧ t ≤ Ci r n f d:=by
 unfold Hq Dv Ci;by_cases h : d < 0
 · have hD : r.w * d < 0:=Int.mul_neg_of_pos_of_neg hw h
   rw [if_pos h,if_pos h,ady hD,adz hD];exact And.comm
 · have hD : 0 < r.w * d:=Int.mul_pos hw (by omega)
   rw [if_neg h,if_neg h,ac6 hD,ac7 hD]
theorem Xd {p q t : Rat} : xU p q ≤ t ↔ p ≤ t ∧ q ≤ t:=by
 unfold xU;split
 · rename_i h
   exact ⟨fun k=>⟨Rat.le_trans (Rat.le_of_lt h) k,k⟩,fun k=>k.2⟩
 · rename_i h
   exact ⟨fun k=>⟨k,Rat.le_trans (Rat.not_lt.1 h) k⟩,fun k=>k.1⟩
theorem No {o : Option Rat} {q t : Rat} : t ≤ qP o q ↔ (∀ p,o = some p → t ≤ p) ∧ t ≤ q:=by
 unfold qP;cases o with
 | none=>exact ⟨fun k=>⟨fun p e=>(by cases e),k⟩,fun k=>k.2⟩
 | some p =>
  simp only;split
  · rename_i h
    exact ⟨fun k=>⟨fun p' e=>by cases e; exact Rat.le_trans k (Rat.le_of_lt h),k⟩,fun k=>k.2⟩
  · rename_i h
    exact ⟨fun k=>⟨fun p' e=>by cases e; exact k,Rat.le_trans k (Rat.not_lt.1 h)⟩,fun k=>k.1 p rfl⟩
def nY (r : fY) (lo hi : P3) (k : Nat) (t : Rat) : Prop:=0 ≤ t ∧ ∀ j,j < k → Hq r ((r.to lo).at j) ((r.to hi).at j) (r.d.at j) t
theorem sL {r : fY} {lo hi : P3} {k : Nat} {t : Rat} : nY r lo hi (k + 1) t ↔ nY r lo hi k t ∧ Hq r ((r.to lo).at k) ((r.to hi).at k) (r.d.at k) t :=
 ⟨fun h=>⟨⟨h.1,fun j hj=>h.2 j (by omega)⟩,h.2 k (by omega)⟩,fun h=>⟨h.1.1,fun j hj=>by
  rcases Nat.lt_or_ge j k with h' | h'
  · exact h.1.2 j h'
  · obtain rfl : j = k:=by omega
    exact h.2⟩⟩
def Jw (r : fY) (lo hi : P3) (k : Nat) : List Rat:=if r.d.at k = 0 then [] else [Rat.divInt ((r.to lo).at k) (r.w * r.d.at k),Rat.divInt ((r.to hi).at k) (r.w * r.d.at k)]
def iC (r : fY) (lo hi : P3) : Nat → List Rat
 | 0=>[0]
 | k + 1=>iC r lo hi k ++ Jw r lo hi k
theorem Ub {r : fY} {lo hi : P3} (hw : 0 < r.w) : ∀ k,(xD r lo hi k = none → ∀ t,¬ nY r lo hi k t) ∧
 ∀ st,xD r lo hi k = some st → (∀ t,nY r lo hi k t ↔ st.1 ≤ t ∧ ∀ q,st.2 = some q → t ≤ q) ∧ st.1 ∈ iC r lo hi k ∧ ∀ q,st.2 = some q → q ∈ iC r lo hi k
 | 0=>⟨fun h=>(by cases h),fun st h=>by
  cases h;exact ⟨fun t=>⟨fun h=>⟨h.1,fun q e=>by cases e⟩,fun h=>⟨h.1,fun j hj=>by omega⟩⟩,List.mem_singleton.2 rfl,fun q e=>by cases e⟩⟩
 | k + 1=>by
  obtain ⟨i1,i2⟩:=Ub (r:=r) (lo:=lo) (hi:=hi) hw k;rw [xD];cases hs : xD r lo hi k with
  | none=>exact ⟨fun _ t h=>i1 hs t (sL.1 h).1,fun st h=>by cases h⟩
  | some s =>
   obtain ⟨j1,j2,j3⟩:=i2 s hs;rw [Option.bind_some,Yk];by_cases ho : lN ((r.to lo).at k) ((r.to hi).at k) (r.d.at k)
   · rw [if_pos ho]
     exact ⟨fun _ t h=>Tz ho (sL.1 h).2,fun st h=>by cases h⟩
   · rw [if_neg ho]
     by_cases hd : r.d.at k = 0
     · rw [if_pos hd]
       refine ⟨fun h=>(by cases h),fun st h=>?_⟩;cases h;refine ⟨fun t=>?_,List.mem_append_left _ j2,fun q e=>List.mem_append_left _ (j3 q e)⟩;rw [sL,j1];rw [hd] at ho ⊢;exact ⟨fun h=>h.1,fun h=>⟨h,Pv ho⟩⟩
     · rw [if_neg hd]
       refine ⟨fun h=>(by cases h),fun st h=>?_⟩;cases h;have c1 : ∀ x,x = Rat.divInt ((r.to lo).at k) (r.w * r.d.at k) ∨ x = Rat.divInt ((r.to hi).at k) (r.w * r.d.at k) → x ∈ iC r lo hi (k + 1):=fun x hx=>by
        refine List.mem_append_right _ ?_;rw [Jw,if_neg hd];rcases hx with rfl | rfl <;> simp
       have c2 : Dv r ((r.to lo).at k) ((r.to hi).at k) (r.d.at k) ∈ iC r lo hi (k + 1):=c1 _ (by unfold Dv; split; exact .inr rfl; exact .inl rfl);have c3 : Ci r ((r.to lo).at k) ((r.to hi).at k) (r.d.at k) ∈ iC r lo hi (k + 1):=c1 _ (by unfold Ci; split; exact .inl rfl; exact .inr rfl);refine ⟨fun t=>?_,?_,fun q e=>?_⟩
       · rw [sL,j1,Ua hw hd]
         show _ ↔ xU _ _ ≤ t ∧ ∀ q,some (qP _ _) = some q → t ≤ q
         rw [Xd];constructor
         · rintro ⟨⟨h1,h2⟩,h3,h4⟩
           exact ⟨⟨h1,h3⟩,fun q e=>by cases e; exact No.2 ⟨h2,h4⟩⟩
         · rintro ⟨⟨h1,h3⟩,h2⟩
           have:=No.1 (h2 _ rfl);exact ⟨⟨h1,this.1⟩,h3,this.2⟩
       · show xU _ _ ∈ _
         unfold xU;split
         · exact c2
         · exact List.mem_append_left _ j2
       · have e : some (qP s.2 (Ci r ((r.to lo).at k) ((r.to hi).at k) (r.d.at k))) = some q:=e
         cases e;unfold qP;split
         · exact c3
         · rename_i p hp
           split
           · exact c3
           · exact List.mem_append_left _ (j3 _ hp)
theorem abl {r : fY} {lo hi : P3} (hok : r.ok) : (nH r lo hi = none → ∀ t,¬ nY r lo hi 3 t) ∧
 ∀ p q,nH r lo hi = some (p,q) → (∀ t,nY r lo hi 3 t ↔ p ≤ t ∧ t ≤ q) ∧ p ≤ q ∧ p ∈ iC r lo hi 3 ∧ q ∈ iC r lo hi 3:=by
 obtain ⟨i1,i2⟩:=Ub (r:=r) (lo:=lo) (hi:=hi) hok.1 3;unfold nH;rw [if_pos hok];cases hs : xD r lo hi 3 with
 | none=>exact ⟨fun _=>i1 hs,fun p q h=>by cases h⟩
 | some s =>
  obtain ⟨j1,j2,j3⟩:=i2 s hs;rw [Option.bind_some];obtain ⟨p,o⟩:=s;cases o with
  | none =>
   exfalso;have hall : ∀ j,j < 3 → r.d.at j = 0:=by
    have key : ∀ k st,xD r lo hi k = some st → st.2 = none → ∀ j,j < k → r.d.at j = 0:=by
     intro k
     induction k with
     | zero=>intro st _ _ j hj; omega
     | succ k ih =>
      intro st h hn j hj;rw [xD] at h;obtain ⟨s,hs,e⟩:=Option.bind_eq_some_iff.1 h;unfold Yk at e;split at e
      · cases e
      · split at e
        · rename_i h0
          cases e;rcases Nat.lt_or_ge j k with h' | h'
          · exact ih _ hs hn j h'
          · obtain rfl : j = k:=by omega
            exact h0
        · cases e; cases hn
    exact key 3 _ hs rfl
   exact hok.2 ⟨hall 0 (by decide),hall 1 (by decide),hall 2 (by decide)⟩
  | some q =>
   simp only;have k1 : ∀ t,nY r lo hi 3 t ↔ p ≤ t ∧ t ≤ q:=fun t=>by
    rw [j1];exact ⟨fun h=>⟨h.1,h.2 q rfl⟩,fun h=>⟨h.1,fun q' e=>by cases e; exact h.2⟩⟩
   by_cases hqp : q < p
   · rw [if_pos hqp]
     exact ⟨fun _ t h=>Rat.not_le.2 hqp (Rat.le_trans ((k1 t).1 h).1 ((k1 t).1 h).2),fun p' q' h=>by cases h⟩
   · rw [if_neg hqp]
     refine ⟨fun h=>(by cases h),fun p' q' h=>?_⟩;cases h;exact ⟨k1,Rat.not_lt.1 hqp,j2,j3 q rfl⟩
noncomputable def sU (I : Rat → Prop) (s : Option (Rat × Rat)) (t : Rat) : Option (Rat × Rat) :=
 open Classical in if I t then match s with
  | none=>some (t,t)
  | some (p,q)=>some (if t < p then t else p,if q < t then t else q)
 else s
def Cq (I : Rat → Prop) (L : List Rat) (s : Option (Rat × Rat)) : Prop:=(s = none → ∀ t ∈ L,¬ I t) ∧ ∀ p q,s = some (p,q) → (p ∈ L ∧ I p) ∧ (q ∈ L ∧ I q) ∧ ∀ t ∈ L,I t → p ≤ t ∧ t ≤ q
theorem Pw {I : Rat → Prop} {L : List Rat} {s : Option (Rat × Rat)} (h : Cq I L s) (t : Rat) : Cq I (L ++ [t]) (sU I s t):=by
 obtain ⟨i1,i2⟩:=h;have mem : ∀ x,x ∈ L ++ [t] ↔ x ∈ L ∨ x = t:=fun x=>by simp
 unfold sU;split
 · rename_i hI
   cases hs : s with
   | none =>
    refine ⟨fun h=>(by cases h),fun p q h=>?_⟩;cases h;refine ⟨⟨by simp,hI⟩,⟨by simp,hI⟩,fun x hx hIx=>?_⟩;rcases (mem x).1 hx with hx | rfl
    · exact absurd hIx (i1 hs x hx)
    · exact ⟨Rat.le_refl,Rat.le_refl⟩
   | some s' =>
    obtain ⟨p,q⟩:=s';obtain ⟨⟨a1,a2⟩,⟨b1,b2⟩,c⟩:=i2 p q hs;have hpq:=(c p a1 a2).2;refine ⟨fun h=>(by cases h),fun p' q' h=>?_⟩;cases h;refine ⟨?_,?_,fun x hx hIx=>?_⟩
    · split
      · exact ⟨by simp,hI⟩
      · exact ⟨(mem _).2 (.inl a1),a2⟩
    · split
      · exact ⟨by simp,hI⟩
      · exact ⟨(mem _).2 (.inl b1),b2⟩
    · rcases (mem x).1 hx with hx | rfl
      · obtain ⟨k1,k2⟩:=c x hx hIx
        constructor
        · split
          · rename_i h; exact Rat.le_trans (Rat.le_of_lt h) k1
          · exact k1
        · split
          · rename_i h; exact Rat.le_trans k2 (Rat.le_of_lt h)
          · exact k2
      · constructor
        · split
          · exact Rat.le_refl
          · rename_i h; exact Rat.not_lt.1 h
        · split
          · exact Rat.le_refl
          · rename_i h; exact Rat.not_lt.1 h
 · rename_i hI
   refine ⟨fun h x hx hIx=>?_,fun p q h=>?_⟩
   · rcases (mem x).1 hx with hx | rfl
     · exact i1 h x hx hIx
     · exact hI hIx
   · obtain ⟨⟨a1,a2⟩,⟨b1,b2⟩,c⟩:=i2 p q h
     refine ⟨⟨(mem _).2 (.inl a1),a2⟩,⟨(mem _).2 (.inl b1),b2⟩,fun x hx hIx=>?_⟩;rcases (mem x).1 hx with hx | rfl
     · exact c x hx hIx
     · exact absurd hIx hI
theorem Fe {I : Rat → Prop} : ∀ (L M : List Rat) (s : Option (Rat × Rat)),Cq I M s → Cq I (M ++ L) (L.foldl (sU I) s)
 | [],M,s,h=>by rw [List.append_nil]; exact h
 | t :: L,M,s,h=>by
  have:=Fe L (M ++ [t]) (sU I s t) (Pw h t);rwa [List.append_assoc] at this
theorem Xe {I : Rat → Prop} (L : List Rat) : Cq I L (L.foldl (sU I) none):=Fe L [] none ⟨fun _ t h=>(by cases h),fun p q h=>by cases h⟩
theorem Uc {r : fY} {lo hi : P3} (hok : r.ok) : (iC r lo hi 3).foldl (sU (nY r lo hi 3)) none = nH r lo hi:=by
 obtain ⟨f1,f2⟩:=Xe (I:=nY r lo hi 3) (iC r lo hi 3);obtain ⟨g1,g2⟩:=abl (lo:=lo) (hi:=hi) hok;cases hf : (iC r lo hi 3).foldl (sU (nY r lo hi 3)) none with
 | none =>
  cases hb : nH r lo hi with
  | none=>rfl
  | some y =>
   obtain ⟨p,q⟩:=y;obtain ⟨k1,k2,k3,_⟩:=g2 p q hb;exact absurd ((k1 p).2 ⟨Rat.le_refl,k2⟩) (f1 hf p k3)
 | some x =>
  obtain ⟨p,q⟩:=x;obtain ⟨⟨a1,a2⟩,⟨b1,b2⟩,c⟩:=f2 p q hf;cases hb : nH r lo hi with
  | none=>exact absurd a2 (g1 hb p)
  | some y =>
   obtain ⟨p',q'⟩:=y;obtain ⟨k1,k2,k3,k4⟩:=g2 p' q' hb;have e1:=c p' k3 ((k1 p').2 ⟨Rat.le_refl,k2⟩);have e2:=c q' k4 ((k1 q').2 ⟨k2,Rat.le_refl⟩);have e3:=(k1 p).1 a2;have e4:=(k1 q).1 b2;rw [Rat.le_antisymm e1.1 e3.1,Rat.le_antisymm e4.2 e2.2]
theorem ac8 {W s d : Int} (hW : 0 < W) (t : Rat) : (Rat.divInt s W + t * (d : Rat)) * (W : Rat) = (s : Rat) + t * ((W * d : Int) : Rat):=by
 have hne : (W : Rat) ≠ 0:=fun e=>by
  have:=Rat.intCast_pos.2 hW;rw [e] at this;exact absurd this (by decide)
 rw [Rat.divInt_eq_div,Rat.add_mul,Rat.div_mul_cancel hne,Rat.intCast_mul]
 grind
theorem Xf {W s l d : Int} (hW : 0 < W) {t : Rat} : (l : Rat) ≤ Rat.divInt s W + t * (d : Rat) ↔ ((l * W - s : Int) : Rat) ≤ t * ((W * d : Int) : Rat):=by
 have hp:=Rat.intCast_pos.2 hW;have e:=ac8 (s:=s) (d:=d) hW t;rw [Rat.intCast_sub,Rat.intCast_mul l W];constructor
 · intro h
   have:=Rat.mul_le_mul_of_nonneg_right h (Rat.le_of_lt hp);rw [e] at this
   grind
 · intro h
   refine Rat.le_of_mul_le_mul_right (c:=(W : Rat)) ?_ hp;rw [e]
   grind
theorem Xg {W s l d : Int} (hW : 0 < W) {t : Rat} : Rat.divInt s W + t * (d : Rat) ≤ (l : Rat) ↔ t * ((W * d : Int) : Rat) ≤ ((l * W - s : Int) : Rat):=by
 have hp:=Rat.intCast_pos.2 hW;have e:=ac8 (s:=s) (d:=d) hW t;rw [Rat.intCast_sub,Rat.intCast_mul l W];constructor
 · intro h
   have:=Rat.mul_le_mul_of_nonneg_right h (Rat.le_of_lt hp);rw [e] at this
   grind
 · intro h
   refine Rat.le_of_mul_le_mul_right (c:=(W : Rat)) ?_ hp;rw [e]
   grind
theorem within_iff {r : fY} {lo hi : P3} (hw : 0 < r.w) (k : Nat) (t : Rat) : Hq r ((r.to lo).at k) ((r.to hi).at k) (r.d.at k) t ↔ ((lo.at k : Int) : Rat) ≤ Rat.divInt (r.s.at k) r.w + t * ((r.d.at k : Int) : Rat) ∧ Rat.divInt (r.s.at k) r.w + t * ((r.d.at k : Int) : Rat) ≤ ((hi.at k : Int) : Rat):=by
 have e : ∀ p : P3,(r.to p).at k = p.at k * r.w - r.s.at k:=fun p=>by unfold P3.at; split <;> rfl
 rw [Hq,e,e,Xf hw,Xg hw]
def mZ (r : fY) (ts : List T3) (b : Option Rat) : Prop:=(b = none → ∀ t ∈ ts,¬ iR r t) ∧ ∀ q,b = some q → (∃ t ∈ ts,iR r t ∧ fR r t = q) ∧ ∀ t ∈ ts,iR r t → q ≤ fR r t
theorem Ud (r : fY) : mZ r [] none:=⟨fun _ t h=>(by cases h),fun q h=>by cases h⟩
theorem Xh {r : fY} {t : T3} {ts : List T3} {b : Option Rat} (h : mZ r ts b) (hh : ¬ iR r t) : mZ r (t :: ts) b:=by
 refine ⟨fun e u hu hu'=>?_,fun q e=>?_⟩
 · rcases List.mem_cons.1 hu with rfl | hu
   · exact hh hu'
   · exact h.1 e u hu hu'
 · obtain ⟨⟨u,hu,k⟩,hl⟩:=h.2 q e
   refine ⟨⟨u,List.mem_cons_of_mem _ hu,k⟩,fun v hv hv'=>?_⟩;rcases List.mem_cons.1 hv with rfl | hv
   · exact absurd hv' hh
   · exact hl v hv hv'
theorem Jy {r : fY} {t : T3} {ts : List T3} {b : Option Rat} (h : mZ r ts b) (hh : iR r t) (hq : ∀ q,b = some q → fR r t ≤ q) : mZ r (t :: ts) (some (fR r t)):=by
 refine ⟨fun e=>(by cases e),fun q e=>?_⟩;cases e;refine ⟨⟨t,List.mem_cons_self ..,hh,rfl⟩,fun v hv hv'=>?_⟩;rcases List.mem_cons.1 hv with rfl | hv
 · exact Rat.le_refl
 · cases hb : b with
   | none=>exact absurd hv' (h.1 hb v hv)
   | some q=>exact Rat.le_trans (hq q hb) ((h.2 q hb).2 v hv hv')
theorem Px {r : fY} {t : T3} {ts : List T3} {q : Rat} (h : mZ r ts (some q)) (hq : ¬ fR r t ≤ q) : mZ r (t :: ts) (some q):=by
 refine ⟨fun e=>(by cases e),fun p e=>?_⟩;cases e;obtain ⟨⟨u,hu,k⟩,hl⟩:=h.2 q rfl;refine ⟨⟨u,List.mem_cons_of_mem _ hu,k⟩,fun v hv hv'=>?_⟩;rcases List.mem_cons.1 hv with rfl | hv
 · exact Rat.le_of_lt (Rat.not_le.1 hq)
 · exact hl v hv hv'
theorem Ly {r : fY} {ts : List T3} {b : Option Rat} (h : mZ r ts b) : b.isSome = (bE r ts).isSome ∧ b.getD 0 = lZ (bE r ts):=by
 cases hf : bE r ts with
 | none =>
  cases b with
  | none=>exact ⟨rfl,rfl⟩
  | some q =>
   obtain ⟨⟨t,ht,hh,_⟩,_⟩:=h.2 q rfl;obtain ⟨p,k,e,_⟩:=Ex ht hh;rw [hf] at e;cases e
 | some x =>
  obtain ⟨t,ht,hh,hc⟩:=Jl (q:=x.1) (k:=x.2) hf;cases b with
  | none=>exact absurd hh (h.1 rfl t ht)
  | some q =>
   obtain ⟨⟨u,hu,hu',hq⟩,hl⟩:=h.2 q rfl;obtain ⟨p,k,e,hp⟩:=Ex hu hu';rw [hf] at e;cases e;have h1:=hl t ht hh;rw [hc] at h1;rw [hq] at hp;exact ⟨rfl,Rat.le_antisymm h1 hp⟩
end Go.Lith
namespace Go.Proofs.YtimjandkmfcmiaaGreatDoor
open Tryz
open Go.RowKit Go.Lith
set_option maxRecDepth 100000
attribute [local irreducible] wpList wpQuiet eS dV eG Code.wp
instance : Iw 1:=⟨by unfold jG; decide⟩
end Go.Proofs.YtimjandkmfcmiaaGreatDoor
namespace Go.Proofs.YtimjandkmfcmiaaGreatDoor
open Tryz
open Go.RowKit Go.Lith
set_option maxRecDepth 100000
attribute [local irreducible] wpList wpQuiet eS dV eG Code.wp
theorem wX {p q : P3} [I3 p] [I3 q] : dP prog 112 [pt p,pt q] (wv (q.sub p)):=by
 intro w;refine ⟨Zl,?_⟩;have m:=cR.refl w
 go_enter func112,ntmps112
 refine aF fun K1 k1=>wp_region_lit (cM m rfl ?_);clear m; intro g1 u m;simp only[zz];refine cM m rfl ?_;clear m; intro g2 u m;simp only[zz];refine bC m iB rfl ?_;clear m; intro g3 u m;refine aC (k1 _ _ ?_);refine aF fun K2 k2=>?_;simp only[zz];refine eF 8 [0,1,2,3,4,5,6] [⟨7,5,35,[.bool false,.string ⟨#[]⟩]⟩] aN (by kernel_rfl) (Vv ⟨_,_,_,rfl,by kernel_rfl,_,cI,rfl⟩) (ol:=?_) ?hol ?_
 case hol=>simp only[zw,zQ,zR]; try rfl
 intro u e; replace m:=m.ext' e; clear e;refine jH (aH (c:=0) bZ rfl aM rfl rfl) ?_;simp only[zz];refine eM rfl (fun u e=>(((m.ext' e).b 1 rfl).lies1 aZ rfl)) ?_;simp only[zz];refine eD rfl rfl (dO Iw.h) (jH (aH (c:=0) bZ rfl aM rfl rfl) ?_);simp only[zz];refine eM rfl (fun u e=>(((m.ext' e).b 2 rfl).lies1 aZ rfl)) ?_;simp only[zz];refine eD rfl rfl (dO Iw.h) ?_;simp only[zz];refine eD rfl rfl (lY Bw.up Bw.up) (qA ?_);simp only[zz];refine Yh m ?_;clear m; intro g4 u m;simp only[zJ,zK,zF,zG];refine aL m 0 rfl rfl rfl aG (cA rfl) rfl ?_;clear m; intro u m; simp only[zy,zx,aX,zF,zG,Nat.reduceAdd] at m;refine aC (k2 _ _ ?_);refine aF fun K3 k3=>?_;refine eF 8 [0,1,2,3,4,5,6] [⟨7,6,35,[.bool false,.string ⟨#[]⟩]⟩] aN (by kernel_rfl) (Vv ⟨_,_,_,rfl,by kernel_rfl,_,cI,rfl⟩) (ol:=?_) ?hol ?_
 case hol=>simp only[zw,zQ,zR]; try rfl
 intro u e; replace m:=m.ext' e; clear e;refine jH (aH (c:=0) bZ rfl aM rfl rfl) ?_;simp only[zz];refine eM rfl (fun u e=>(((m.ext' e).b 2 rfl).lies1 aZ rfl)) ?_;simp only[zz];refine eD rfl rfl (dO Iw.h) (jH (aH (c:=0) bZ rfl aM rfl rfl) ?_);simp only[zz];refine eM rfl (fun u e=>(((m.ext' e).b 3 rfl).lies1 aZ rfl)) ?_;simp only[zz];refine eD rfl rfl (dO Iw.h) ?_;simp only[zz];refine eD rfl rfl (lY Bw.up Bw.up) (qA ?_);simp only[zz];refine Yh m ?_;clear m; intro g5 u m;simp only[zJ,zK,zF,zG];refine aL m 0 rfl rfl rfl aG (cA rfl) rfl ?_;clear m; intro u m; simp only[zy,zx,aX,zF,zG,Nat.reduceAdd] at m;refine aC (k3 _ _ ?_);refine aF fun K4 k4=>?_;refine eF 8 [0,1,2,3,4,5,6] [⟨7,7,35,[.bool false,.string ⟨#[]⟩]⟩] aN (by kernel_rfl) (Vv ⟨_,_,_,rfl,by kernel_rfl,_,cI,rfl⟩) (ol:=?_) ?hol ?_
 case hol=>simp only[zw,zQ,zR]; try rfl
 intro u e; replace m:=m.ext' e; clear e;refine jH (aH (c:=0) bZ rfl aM rfl rfl) ?_;simp only[zz];refine eM rfl (fun u e=>(((m.ext' e).b 3 rfl).lies1 aZ rfl)) ?_;simp only[zz];refine eD rfl rfl (dO Iw.h) (jH (aH (c:=0) bZ rfl aM rfl rfl) ?_);simp only[zz];refine eM rfl (fun u e=>(((m.ext' e).b 4 rfl).lies1 aZ rfl)) ?_;simp only[zz];refine eD rfl rfl (dO Iw.h) ?_;simp only[zz];refine eD rfl rfl (lY Bw.up Bw.up) (qA ?_);simp only[zz];refine Yh m ?_;clear m; intro g6 u m;simp only[zJ,zK,zF,zG];refine aL m 0 rfl rfl rfl aG (cA rfl) rfl ?_;clear m; intro u m; simp only[zy,zx,aX,zF,zG,Nat.reduceAdd] at m;refine aC (k4 _ _ ?_);refine aF fun K5 k5=>wp_region_lit (aI rfl ((m.b 2 rfl).full aR aG) ?_);simp only[zz];refine aI rfl ((m.b 1 rfl).full aR aG) ?_;simp only[zz];refine aI rfl ((m.b 0 rfl).full aR aG) ?_;simp only[zz];refine aA (kQ rfl rfl rfl) ?_;simp only[zz];refine aL m 3 rfl rfl rfl cJ (cA rfl) rfl ?_;clear m; intro u m; simp only[zy,zx,aX,zF,zG,Nat.reduceAdd] at m;refine aC (k5 _ _ ?_);refine wp_ret ?_;try simp only[Exit.inBlock,Exit.then,if_true]
 refine bU rfl ⟨_,rfl,((m.b 3 rfl).full eK cJ)⟩ ?_;try simp only[zD,zE]
 exact ⟨_,rfl,m.ext,rfl⟩
theorem xX {a b c d : Int} (ha : Bd 400000 a) (hb : Bd 400000 b) (hc : Bd 400000 c) (hd : Bd 400000 d) : dP prog 141 [W a,W b,W c,W d] (W (a * b - c * d)):=by
 intro w;refine ⟨aah,?_⟩;have m:=cR.refl w;haveI : Bw 400000 a:=⟨ha⟩; haveI : Bw 400000 b:=⟨hb⟩; haveI : Bw 400000 c:=⟨hc⟩; haveI : Bw 400000 d:=⟨hd⟩
 go_enter func141,ntmps141
 refine aF fun K1 k1=>wp_region_lit (cM m rfl ?_);clear m; intro g1 u m;simp only[zz];refine cM m rfl ?_;clear m; intro g2 u m;simp only[zz];refine cM m rfl ?_;clear m; intro g3 u m;simp only[zz];refine cM m rfl ?_;clear m; intro g4 u m;simp only[zz];refine bC m cI rfl ?_;clear m; intro g5 u m;refine aC (k1 _ _ ?_);refine aF fun K2 k2=>?_;simp only[zz];refine dN m 7 aN (by kernel_rfl) ?_;simp only[zy];refine ql rfl (fun u m=>((m.b 4 rfl).full aR aG)) ?_;simp only[zz];refine ql rfl (fun u m=>((m.b 3 rfl).full aR aG)) ?_;simp only[zz];refine gJ rfl rfl (fZ Bw.up Bw.up) ?_;simp only[zz];refine ql rfl (fun u m=>((m.b 2 rfl).full aR aG)) ?_;simp only[zz];refine ql rfl (fun u m=>((m.b 1 rfl).full aR aG)) ?_;simp only[zz];refine gJ rfl rfl (fZ Bw.up Bw.up) ?_;simp only[zz];refine gJ rfl rfl (lY Bw.up Bw.up) (dW ?_);clear m; intro u m;simp only[zz];refine aL m 0 rfl rfl rfl aG (cA rfl) rfl ?_;clear m; intro u m; simp only[zy,zx,aX,zF,zG,Nat.reduceAdd] at m;refine aC (k2 _ _ ?_);refine wp_ret ?_;try simp only[Exit.inBlock,Exit.then,if_true]
 refine bU rfl ⟨_,rfl,((m.b 0 rfl).full aR aG)⟩ ?_;try simp only[zD,zE]
 exact ⟨_,rfl,m.ext,rfl⟩
theorem Jz {u v : P3} (hu : Bv 400000 u) (hv : Bv 400000 v) : dP prog 111 [wv u,wv v] (wv (u.cross v)):=by
 intro w;refine ⟨Zk,?_⟩;have m:=cR.refl w
 go_enter func111,ntmps111
 refine aF fun K1 k1=>wp_region_lit (cM m rfl ?_);clear m; intro g1 u m;simp only[zz];refine cM m rfl ?_;clear m; intro g2 u m;simp only[zz];refine bC m iB rfl ?_;clear m; intro g3 u m;refine aC (k1 _ _ ?_);refine aF fun K2 k2=>?_;simp only[zz];refine dN m 28 aN (by kernel_rfl) ?_;simp only[zy];refine aS (aJ dT aG rfl rfl (by decide) (by decide) rfl) ?_;simp only[zz];refine ql rfl (fun u m=>((m.b 2 rfl).lies aR aG rfl rfl)) ?_;simp only[zz,zy,Nat.zero_add,Nat.reduceAdd,Nat.reduceMul,Int.reduceToNat];refine aS (aJ dT aG rfl rfl (by decide) (by decide) rfl) ?_;simp only[zz];refine ql rfl (fun u m=>((m.b 1 rfl).lies aR aG rfl rfl)) ?_;simp only[zz,zy,Nat.zero_add,Nat.reduceAdd,Nat.reduceMul,Int.reduceToNat];refine aS (aJ dT aG rfl rfl (by decide) (by decide) rfl) ?_;simp only[zz];refine ql rfl (fun u m=>((m.b 2 rfl).lies aR aG rfl rfl)) ?_;simp only[zz,zy,Nat.zero_add,Nat.reduceAdd,Nat.reduceMul,Int.reduceToNat];refine aS (aJ dT aG rfl rfl (by decide) (by decide) rfl) ?_;simp only[zz];refine ql rfl (fun u m=>((m.b 1 rfl).lies aR aG rfl rfl)) ?_;simp only[zz,zy,Nat.zero_add,Nat.reduceAdd,Nat.reduceMul,Int.reduceToNat];refine gJ rfl rfl (xX Bw.up Bw.up Bw.up Bw.up) (aS (aJ dT aG rfl rfl (by decide) (by decide) rfl) ?_);simp only[zz];refine ql rfl (fun u m=>((m.b 2 rfl).lies aR aG rfl rfl)) ?_;simp only[zz,zy,Nat.zero_add,Nat.reduceAdd,Nat.reduceMul,Int.reduceToNat];refine aS (aJ dT aG rfl rfl (by decide) (by decide) rfl) ?_;simp only[zz];refine ql rfl (fun u m=>((m.b 1 rfl).lies aR aG rfl rfl)) ?_;simp only[zz,zy,Nat.zero_add,Nat.reduceAdd,Nat.reduceMul,Int.reduceToNat];refine aS (aJ dT aG rfl rfl (by decide) (by decide) rfl) ?_;simp only[zz];refine ql rfl (fun u m=>((m.b 2 rfl).lies aR aG rfl rfl)) ?_;simp only[zz,zy,Nat.zero_add,Nat.reduceAdd,Nat.reduceMul,Int.reduceToNat];refine aS (aJ dT aG rfl rfl (by decide) (by decide) rfl) ?_;simp only[zz];refine ql rfl (fun u m=>((m.b 1 rfl).lies aR aG rfl rfl)) ?_;simp only[zz,zy,Nat.zero_add,Nat.reduceAdd,Nat.reduceMul,Int.reduceToNat];refine gJ rfl rfl (xX Bw.up Bw.up Bw.up Bw.up) (aS (aJ dT aG rfl rfl (by decide) (by decide) rfl) ?_);simp only[zz];refine ql rfl (fun u m=>((m.b 2 rfl).lies aR aG rfl rfl)) ?_;simp only[zz,zy,Nat.zero_add,Nat.reduceAdd,Nat.reduceMul,Int.reduceToNat];refine aS (aJ dT aG rfl rfl (by decide) (by decide) rfl) ?_;simp only[zz];refine ql rfl (fun u m=>((m.b 1 rfl).lies aR aG rfl rfl)) ?_;simp only[zz,zy,Nat.zero_add,Nat.reduceAdd,Nat.reduceMul,Int.reduceToNat];refine aS (aJ dT aG rfl rfl (by decide) (by decide) rfl) ?_;simp only[zz];refine ql rfl (fun u m=>((m.b 2 rfl).lies aR aG rfl rfl)) ?_;simp only[zz,zy,Nat.zero_add,Nat.reduceAdd,Nat.reduceMul,Int.reduceToNat];refine aS (aJ dT aG rfl rfl (by decide) (by decide) rfl) ?_;simp only[zz];refine ql rfl (fun u m=>((m.b 1 rfl).lies aR aG rfl rfl)) ?_;simp only[zz,zy,Nat.zero_add,Nat.reduceAdd,Nat.reduceMul,Int.reduceToNat];refine gJ rfl rfl (xX Bw.up Bw.up Bw.up Bw.up) (aS (kQ rfl rfl rfl) (dW ?_));clear m; intro u m;simp only[zz];refine aL m 0 rfl rfl rfl cJ (cA rfl) rfl ?_;clear m; intro u m; simp only[zy,zx,aX,zF,zG,Nat.reduceAdd] at m;refine aC (k2 _ _ ?_);refine wp_ret ?_;try simp only[Exit.inBlock,Exit.then,if_true]
 refine bU rfl ⟨_,rfl,((m.b 0 rfl).full eK cJ)⟩ ?_;try simp only[zD,zE]
 exact ⟨_,rfl,m.ext,rfl⟩
theorem Py {t : T3} [IT t] : dP prog 78 [tr t] (wv t.normal):=by
 intro w;refine ⟨acw,?_⟩;have m:=cR.refl w
 go_enter func78,ntmps78
 refine aF fun K1 k1=>wp_region_lit (cM m rfl ?_);clear m; intro g1 u m;simp only[zz];refine bC m iB rfl ?_;clear m; intro g2 u m;refine aC (k1 _ _ ?_);refine aF fun K2 k2=>?_;simp only[zz];refine dN m 11 aN (by kernel_rfl) ?_;simp only[zy];refine aS (aJ jS aO rfl rfl (by decide) (by decide) rfl) ?_;simp only[zz];refine ql rfl (fun u m=>((m.b 1 rfl).lies bK aO rfl rfl)) ?_;simp only[zz,zy,Nat.zero_add,Nat.reduceAdd,Nat.reduceMul,Int.reduceToNat];refine aS (aJ jS aO rfl rfl (by decide) (by decide) rfl) ?_;simp only[zz];refine ql rfl (fun u m=>((m.b 1 rfl).lies bK aO rfl rfl)) ?_;simp only[zz,zy,Nat.zero_add,Nat.reduceAdd,Nat.reduceMul,Int.reduceToNat];refine gJ rfl rfl (wX) (aS (aJ jS aO rfl rfl (by decide) (by decide) rfl) ?_);simp only[zz];refine ql rfl (fun u m=>((m.b 1 rfl).lies bK aO rfl rfl)) ?_;simp only[zz,zy,Nat.zero_add,Nat.reduceAdd,Nat.reduceMul,Int.reduceToNat];refine aS (aJ jS aO rfl rfl (by decide) (by decide) rfl) ?_;simp only[zz];refine ql rfl (fun u m=>((m.b 1 rfl).lies bK aO rfl rfl)) ?_;simp only[zz,zy,Nat.zero_add,Nat.reduceAdd,Nat.reduceMul,Int.reduceToNat];refine gJ rfl rfl (wX) ?_;simp only[zz];refine gJ rfl rfl (Jz Bv.of Bv.of) (dW ?_);clear m; intro u m;simp only[zz];refine aL m 0 rfl rfl rfl cJ (cA rfl) rfl ?_;clear m; intro u m; simp only[zy,zx,aX,zF,zG,Nat.reduceAdd] at m;refine aC (k2 _ _ ?_);refine wp_ret ?_;try simp only[Exit.inBlock,Exit.then,if_true]
 refine bU rfl ⟨_,rfl,((m.b 0 rfl).full eK cJ)⟩ ?_;try simp only[zD,zE]
 exact ⟨_,rfl,m.ext,rfl⟩
theorem Lz {u v : P3} (hu : Bv 400000 u) (hv : Bv 400000 v) : dP prog 79 [wv u,wv v] (W (u.dot v)):=by
 intro w;refine ⟨acx,?_⟩;have m:=cR.refl w
 go_enter func79,ntmps79
 refine aF fun K1 k1=>wp_region_lit (cM m rfl ?_);clear m; intro g1 u m;simp only[zz];refine cM m rfl ?_;clear m; intro g2 u m;simp only[zz];refine bC m cI rfl ?_;clear m; intro g3 u m;refine aC (k1 _ _ ?_);refine aF fun K2 k2=>wp_region_lit (aA (aJ dT aG rfl rfl (by decide) (by decide) rfl) ?_);simp only[zz];refine aI rfl ((m.b 2 rfl).lies aR aG rfl rfl) ?_;simp only[zz,zy,Nat.zero_add,Nat.reduceAdd,Nat.reduceMul,Int.reduceToNat];refine aA (aJ dT aG rfl rfl (by decide) (by decide) rfl) ?_;simp only[zz];refine aI rfl ((m.b 1 rfl).lies aR aG rfl rfl) ?_;simp only[zz,zy,Nat.zero_add,Nat.reduceAdd,Nat.reduceMul,Int.reduceToNat];refine aW m rfl rfl (fZ Bw.up Bw.up) ?_;clear m; intro u m;simp only[zz];refine bC m cI rfl ?_;clear m; intro g4 u m;simp only[zz];refine aL m 0 rfl rfl rfl aG (cA rfl) rfl ?_;clear m; intro u m; simp only[zy,zx,aX,zF,zG,Nat.reduceAdd] at m;refine aC (k2 _ _ ?_);refine aF fun K3 k3=>?_;refine dN m 7 aN (by kernel_rfl) ?_;simp only[zy];refine ql rfl (fun u m=>((m.b 0 rfl).full aR aG)) ?_;simp only[zz];refine aS (aJ dT aG rfl rfl (by decide) (by decide) rfl) ?_;simp only[zz];refine ql rfl (fun u m=>((m.b 3 rfl).lies aR aG rfl rfl)) ?_;simp only[zz,zy,Nat.zero_add,Nat.reduceAdd,Nat.reduceMul,Int.reduceToNat];refine aS (aJ dT aG rfl rfl (by decide) (by decide) rfl) ?_;simp only[zz];refine ql rfl (fun u m=>((m.b 2 rfl).lies aR aG rfl rfl)) ?_;simp only[zz,zy,Nat.zero_add,Nat.reduceAdd,Nat.reduceMul,Int.reduceToNat];refine gJ rfl rfl (fZ Bw.up Bw.up) ?_;simp only[zz];refine gJ rfl rfl (qL Bw.up Bw.up) (dW ?_);clear m; intro u m;simp only[zz];refine aL m 0 rfl rfl rfl aG (cA rfl) rfl ?_;clear m; intro u m; simp only[zy,zx,aX,zF,zG,Nat.reduceAdd] at m;refine aC (k3 _ _ ?_);refine aF fun K4 k4=>?_;refine dN m 7 aN (by kernel_rfl) ?_;simp only[zy];refine ql rfl (fun u m=>((m.b 0 rfl).full aR aG)) ?_;simp only[zz];refine aS (aJ dT aG rfl rfl (by decide) (by decide) rfl) ?_;simp only[zz];refine ql rfl (fun u m=>((m.b 3 rfl).lies aR aG rfl rfl)) ?_;simp only[zz,zy,Nat.zero_add,Nat.reduceAdd,Nat.reduceMul,Int.reduceToNat];refine aS (aJ dT aG rfl rfl (by decide) (by decide) rfl) ?_;simp only[zz];refine ql rfl (fun u m=>((m.b 2 rfl).lies aR aG rfl rfl)) ?_;simp only[zz,zy,Nat.zero_add,Nat.reduceAdd,Nat.reduceMul,Int.reduceToNat];refine gJ rfl rfl (fZ Bw.up Bw.up) ?_;simp only[zz];refine gJ rfl rfl (qL Bw.up Bw.up) (dW ?_);clear m; intro u m;simp only[zz];refine aL m 1 rfl rfl rfl aG (cA rfl) rfl ?_;clear m; intro u m; simp only[zy,zx,aX,zF,zG,Nat.reduceAdd] at m;refine aC (k4 _ _ ?_);refine wp_ret ?_;try simp only[Exit.inBlock,Exit.then,if_true]
 refine bU rfl ⟨_,rfl,((m.b 1 rfl).full aR aG)⟩ ?_;try simp only[zD,zE]
 exact ⟨_,rfl,m.ext,rfl⟩
theorem kC  : dP prog 29 [] (Q 0):=by
 intro w;refine ⟨abM,?_⟩;have m:=cR.refl w;haveI : Iw 0:=⟨by unfold jG; decide⟩
 go_enter func29,ntmps29
 refine aF fun K1 k1=>wp_region_lit (bC m cD rfl ?_);clear m; intro g1 u m;refine aC (k1 _ _ ?_);refine aF fun K2 k2=>wp_region_lit ?_;simp only[zz];refine aW m rfl rfl (dO Iw.h) ?_;clear m; intro u m;simp only[zz];refine aW m rfl rfl (dO Iw.h) ?_;clear m; intro u m;refine aA (gG rfl rfl) ?_;simp only[zz];refine aL m 0 rfl rfl rfl aK (cA rfl) rfl ?_;clear m; intro u m; simp only[zy,zx,aX,zF,zG,Nat.reduceAdd] at m;refine aC (k2 _ _ ?_);refine wp_ret ?_;try simp only[Exit.inBlock,Exit.then,if_true]
 refine bU rfl ⟨_,rfl,((m.b 0 rfl).full bB aK)⟩ ?_;try simp only[zD,zE]
 exact ⟨_,rfl,m.ext,rfl⟩
theorem Xi {u v : P3} (hu : Bv 400000 u) (hv : Bv 400000 v) : dP prog 140 [wv u,wv v,.int .i64 1,.int .i64 2] (W (u.y * v.z - u.z * v.y)):=by
 intro w;refine ⟨Kr,?_⟩;have m:=cR.refl w
 go_enter func140,ntmps140
 refine aF fun K1 k1=>wp_region_lit (cM m rfl ?_);clear m; intro g1 u m;simp only[zz];refine cM m rfl ?_;clear m; intro g2 u m;simp only[zz];refine bC m cI rfl ?_;clear m; intro g3 u m;refine aC (k1 _ _ ?_);refine aF fun K2 k2=>?_;simp only[zz];refine dN m 15 aN (by kernel_rfl) ?_;simp only[zy];refine aS (aB) (aS (aJ dT aG rfl rfl (by decide) (by decide) rfl) ?_);simp only[zz];refine ql rfl (fun u m=>((m.b 2 rfl).lies aR aG rfl rfl)) ?_;simp only[zz,zy,Nat.zero_add,Nat.reduceAdd,Nat.reduceMul,Int.reduceToNat];refine aS (aB) (aS (aJ dT aG rfl rfl (by decide) (by decide) rfl) ?_);simp only[zz];refine ql rfl (fun u m=>((m.b 1 rfl).lies aR aG rfl rfl)) ?_;simp only[zz,zy,Nat.zero_add,Nat.reduceAdd,Nat.reduceMul,Int.reduceToNat];refine gJ rfl rfl (fZ Bw.up Bw.up) (aS (aB) (aS (aJ dT aG rfl rfl (by decide) (by decide) rfl) ?_));simp only[zz];refine ql rfl (fun u m=>((m.b 2 rfl).lies aR aG rfl rfl)) ?_;simp only[zz,zy,Nat.zero_add,Nat.reduceAdd,Nat.reduceMul,Int.reduceToNat];refine aS (aB) (aS (aJ dT aG rfl rfl (by decide) (by decide) rfl) ?_);simp only[zz];refine ql rfl (fun u m=>((m.b 1 rfl).lies aR aG rfl rfl)) ?_;simp only[zz,zy,Nat.zero_add,Nat.reduceAdd,Nat.reduceMul,Int.reduceToNat];refine gJ rfl rfl (fZ Bw.up Bw.up) ?_;simp only[zz];refine gJ rfl rfl (lY Bw.up Bw.up) (dW ?_);clear m; intro u m;simp only[zz];refine aL m 0 rfl rfl rfl aG (cA rfl) rfl ?_;clear m; intro u m; simp only[zy,zx,aX,zF,zG,Nat.reduceAdd] at m;refine aC (k2 _ _ ?_);refine wp_ret ?_;try simp only[Exit.inBlock,Exit.then,if_true]
 refine bU rfl ⟨_,rfl,((m.b 0 rfl).full aR aG)⟩ ?_;try simp only[zD,zE]
 exact ⟨_,rfl,m.ext,rfl⟩
theorem Xj {u v : P3} (hu : Bv 400000 u) (hv : Bv 400000 v) : dP prog 140 [wv u,wv v,.int .i64 2,.int .i64 0] (W (u.z * v.x - u.x * v.z)):=by
 intro w;refine ⟨Kr,?_⟩;have m:=cR.refl w
 go_enter func140,ntmps140
 refine aF fun K1 k1=>wp_region_lit (cM m rfl ?_);clear m; intro g1 u m;simp only[zz];refine cM m rfl ?_;clear m; intro g2 u m;simp only[zz];refine bC m cI rfl ?_;clear m; intro g3 u m;refine aC (k1 _ _ ?_);refine aF fun K2 k2=>?_;simp only[zz];refine dN m 15 aN (by kernel_rfl) ?_;simp only[zy];refine aS (aB) (aS (aJ dT aG rfl rfl (by decide) (by decide) rfl) ?_);simp only[zz];refine ql rfl (fun u m=>((m.b 2 rfl).lies aR aG rfl rfl)) ?_;simp only[zz,zy,Nat.zero_add,Nat.reduceAdd,Nat.reduceMul,Int.reduceToNat];refine aS (aB) (aS (aJ dT aG rfl rfl (by decide) (by decide) rfl) ?_);simp only[zz];refine ql rfl (fun u m=>((m.b 1 rfl).lies aR aG rfl rfl)) ?_;simp only[zz,zy,Nat.zero_add,Nat.reduceAdd,Nat.reduceMul,Int.reduceToNat];refine gJ rfl rfl (fZ Bw.up Bw.up) (aS (aB) (aS (aJ dT aG rfl rfl (by decide) (by decide) rfl) ?_));simp only[zz];refine ql rfl (fun u m=>((m.b 2 rfl).lies aR aG rfl rfl)) ?_;simp only[zz,zy,Nat.zero_add,Nat.reduceAdd,Nat.reduceMul,Int.reduceToNat];refine aS (aB) (aS (aJ dT aG rfl rfl (by decide) (by decide) rfl) ?_);simp only[zz];refine ql rfl (fun u m=>((m.b 1 rfl).lies aR aG rfl rfl)) ?_;simp only[zz,zy,Nat.zero_add,Nat.reduceAdd,Nat.reduceMul,Int.reduceToNat];refine gJ rfl rfl (fZ Bw.up Bw.up) ?_;simp only[zz];refine gJ rfl rfl (lY Bw.up Bw.up) (dW ?_);clear m; intro u m;simp only[zz];refine aL m 0 rfl rfl rfl aG (cA rfl) rfl ?_;clear m; intro u m; simp only[zy,zx,aX,zF,zG,Nat.reduceAdd] at m;refine aC (k2 _ _ ?_);refine wp_ret ?_;try simp only[Exit.inBlock,Exit.then,if_true]
 refine bU rfl ⟨_,rfl,((m.b 0 rfl).full aR aG)⟩ ?_;try simp only[zD,zE]
 exact ⟨_,rfl,m.ext,rfl⟩
theorem Xk {u v : P3} (hu : Bv 400000 u) (hv : Bv 400000 v) : dP prog 140 [wv u,wv v,.int .i64 0,.int .i64 1] (W (u.x * v.y - u.y * v.x)):=by
 intro w;refine ⟨Kr,?_⟩;have m:=cR.refl w
 go_enter func140,ntmps140
 refine aF fun K1 k1=>wp_region_lit (cM m rfl ?_);clear m; intro g1 u m;simp only[zz];refine cM m rfl ?_;clear m; intro g2 u m;simp only[zz];refine bC m cI rfl ?_;clear m; intro g3 u m;refine aC (k1 _ _ ?_);refine aF fun K2 k2=>?_;simp only[zz];refine dN m 15 aN (by kernel_rfl) ?_;simp only[zy];refine aS (aB) (aS (aJ dT aG rfl rfl (by decide) (by decide) rfl) ?_);simp only[zz];refine ql rfl (fun u m=>((m.b 2 rfl).lies aR aG rfl rfl)) ?_;simp only[zz,zy,Nat.zero_add,Nat.reduceAdd,Nat.reduceMul,Int.reduceToNat];refine aS (aB) (aS (aJ dT aG rfl rfl (by decide) (by decide) rfl) ?_);simp only[zz];refine ql rfl (fun u m=>((m.b 1 rfl).lies aR aG rfl rfl)) ?_;simp only[zz,zy,Nat.zero_add,Nat.reduceAdd,Nat.reduceMul,Int.reduceToNat];refine gJ rfl rfl (fZ Bw.up Bw.up) (aS (aB) (aS (aJ dT aG rfl rfl (by decide) (by decide) rfl) ?_));simp only[zz];refine ql rfl (fun u m=>((m.b 2 rfl).lies aR aG rfl rfl)) ?_;simp only[zz,zy,Nat.zero_add,Nat.reduceAdd,Nat.reduceMul,Int.reduceToNat];refine aS (aB) (aS (aJ dT aG rfl rfl (by decide) (by decide) rfl) ?_);simp only[zz];refine ql rfl (fun u m=>((m.b 1 rfl).lies aR aG rfl rfl)) ?_;simp only[zz,zy,Nat.zero_add,Nat.reduceAdd,Nat.reduceMul,Int.reduceToNat];refine gJ rfl rfl (fZ Bw.up Bw.up) ?_;simp only[zz];refine gJ rfl rfl (lY Bw.up Bw.up) (dW ?_);clear m; intro u m;simp only[zz];refine aL m 0 rfl rfl rfl aG (cA rfl) rfl ?_;clear m; intro u m; simp only[zy,zx,aX,zF,zG,Nat.reduceAdd] at m;refine aC (k2 _ _ ?_);refine wp_ret ?_;try simp only[Exit.inBlock,Exit.then,if_true]
 refine bU rfl ⟨_,rfl,((m.b 0 rfl).full aR aG)⟩ ?_;try simp only[zD,zE]
 exact ⟨_,rfl,m.ext,rfl⟩
theorem Ka {u v : P3} (hu : Bv 400000 u) (hv : Bv 400000 v) : dP prog 110 [wv u,wv v] (wv (u.cross v)):=by
 intro w;refine ⟨Zj,?_⟩;have m:=cR.refl w
 go_enter func110,ntmps110
 refine aF fun K1 k1=>wp_region_lit (cM m rfl ?_);clear m; intro g1 u m;simp only[zz];refine cM m rfl ?_;clear m; intro g2 u m;simp only[zz];refine bC m iB rfl ?_;clear m; intro g3 u m;refine aC (k1 _ _ ?_);refine aF fun K2 k2=>?_;simp only[zz];refine dN m 10 aN (by kernel_rfl) ?_;simp only[zy];refine ql rfl (fun u m=>((m.b 2 rfl).full eK cJ)) ?_;simp only[zz];refine ql rfl (fun u m=>((m.b 1 rfl).full eK cJ)) ?_;simp only[zz];refine gJ rfl rfl (Xi hu hv) ?_;simp only[zz];refine ql rfl (fun u m=>((m.b 2 rfl).full eK cJ)) ?_;simp only[zz];refine ql rfl (fun u m=>((m.b 1 rfl).full eK cJ)) ?_;simp only[zz];refine gJ rfl rfl (Xj hu hv) ?_;simp only[zz];refine ql rfl (fun u m=>((m.b 2 rfl).full eK cJ)) ?_;simp only[zz];refine ql rfl (fun u m=>((m.b 1 rfl).full eK cJ)) ?_;simp only[zz];refine gJ rfl rfl (Xk hu hv) (aS (kQ rfl rfl rfl) (dW ?_));clear m; intro u m;simp only[zz];refine aL m 0 rfl rfl rfl cJ (cA rfl) rfl ?_;clear m; intro u m; simp only[zy,zx,aX,zF,zG,Nat.reduceAdd] at m;refine aC (k2 _ _ ?_);refine wp_ret ?_;try simp only[Exit.inBlock,Exit.then,if_true]
 refine bU rfl ⟨_,rfl,((m.b 0 rfl).full eK cJ)⟩ ?_;try simp only[zD,zE]
 exact ⟨_,rfl,m.ext,rfl⟩
end Go.Proofs.YtimjandkmfcmiaaGreatDoor
