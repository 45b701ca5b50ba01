/-
 Texts of one claim, laid together: Rchk2, W2, Ent, W3, K1, K2, K3, K4, Sfa, Nc, K5, Ref1, Ref2, Ref3, Ref4, Ref5, Ref6, Ref7, Wide6.
-/
import Derived.Test.YtfekpcimgncioaaGreatDoorCW3
set_option maxHeartbeats 8000000
set_option linter.unusedSimpArgs false
set_option linter.unusedVariables false
set_option linter.unusedSectionVars false
namespace Go.Proofs.YtfekpcimgncioaaGreatDoor
open Go.Proofs.Tryz
open Go.RowKit Go.Lith
abbrev Cx:=@underlying284
abbrev lB:=@underlying285
set_option maxRecDepth 100000
attribute [local irreducible] wpList wpQuiet dB bL cE Code.wp
theorem Wt {op : Bool} {ts : List T3} (h : ts.any nG = true) : eV op ts = 20:=by simp [eV,h]
theorem Wu {op : Bool} {ts : List T3} (h : ts.any nG = false) (h2 : (bG ts).any (fun e=>decide (1 < kH (bG ts) e)) = true) : eV op ts = 21:=by rw [eV,h,h2];rfl
theorem Wv {op : Bool} {ts : List T3} (h : ts.any nG = false) (h2 : (bG ts).any (fun e=>decide (1 < kH (bG ts) e)) = false) (h3 : (!op && decide (0 < (cS ts).length)) = false) (h4 : (dK ts).any (yZ ts) = true) : eV op ts = 23:=by rw [eV,h,h2,h3,h4];rfl
theorem abZ {op : Bool} {ts : List T3} (h : ts.any nG = false) (h2 : (bG ts).any (fun e=>decide (1 < kH (bG ts) e)) = false) (h3 : (!op && decide (0 < (cS ts).length)) = false) (h4 : (dK ts).any (yZ ts) = false) : eV op ts = 0:=by rw [eV,h,h2,h3,h4];rfl
theorem gt1 {n : Nat} : ((1 : Int) < (n : Int)) ↔ 1 < n:=by omega
theorem ael {ts : List T3} {N cap : Nat} {A : Option Addr} (w : World) (hT : bY w A N ts) (hN : N ≤ 100000000) : eG prog 79 [.slice A N cap,.bool true] w (fun v _=>v = .int .i64 (eV true ts)):=by
 refine ⟨ajr,?_⟩;have m:=Mem.refl w;have htl:=hT.len;have he3:=rO ts;have hcl:=Dn ts
 go_enter func79,ntmps79
 refine aD fun K1 k1=>wp_region_lit (aA (aG) (aF (k1 _ _ ?_)));refine aD fun K2 k2=>aD fun K3 k3=>wp_region_lit (aA (aG) (aF (k3 _ _ ?_)));refine wp_block ?_;simp only[zz];try simp only[Nat.zero_add,Nat.reduceAdd,Nat.reduceMul,Int.reduceToNat]
 refine bT [5] [4,11,12,13,14,15,16,17,18,19,20,21,22,23,24,25,26,27,28,29,30,31,32,33,34,35,36,37,38,39,40,41,42,43,44,45,46,47,48,49,50,51,52,53] (fun n vs wl=>∃ (k : Nat),vs = [.int .i64 (k:Int)] ∧ Mem w wl [] ∧ ((ts.take k).any nG = false) ∧ (k ≤ N) ∧ (n = N - k)) ?_ ?_
 ·
  apply Exists.intro;simp only[zQ,zR,zD,zE];exact ⟨0,rfl,m,rfl,Nat.zero_le _,rfl⟩
 ·
  intro n vs wr hI u;clear m;obtain ⟨k,rfl,m,hd0,hk,hn⟩:=hI;simp only[zu,zF,zG];refine aD fun K4 k4=>aD fun K5 k5=>wp_region_lit (aA (aB) (aA (aB) (aA (bH rfl bQ rfl) (aA (cW rfl rfl) ?_))));simp only[zz];refine aF (k5 _ _ ?_);refine cG rfl (fun hc1=>?_) (fun hc1=>?_)
  ·
   obtain ⟨t,ht,_,a,rfl,hrow⟩:=hT.get (i:=k) (by omega);refine wp_skip (k4 _ _ ?_);refine aD fun K6 k6=>wp_block (aD fun K7 k7=>mq m aM (by kernel_rfl) (aK (aB) (aK (aB) ?_)));simp only[zz];refine aK (aN bQ aR rfl rfl (by omega) (by omega) (dC (Int.toNat_natCast _))) (aK (aH bD aC rfl rfl (by decide) (by decide) rfl) ?_);simp only[zz];refine ql rfl (fun u m=>((mP.cor ((hrow.ext m.ext)) (c:=0) (by decide)).lies aI aC)) ?_;simp only[zz];refine aK (aB) (aK (aB) ?_);simp only[zz];refine aK (aN bQ aR rfl rfl (by omega) (by omega) (dC (Int.toNat_natCast _))) (aK (aH bD aC rfl rfl (by decide) (by decide) rfl) ?_);simp only[zz];refine ql rfl (fun u m=>((mP.cor ((hrow.ext m.ext)) (c:=1) (by decide)).lies aI aC)) ?_;simp only[zz];refine aK (cV rfl rfl) (aK (aB) (fL rfl (fun hb=>aB) (fL rfl (fun hb=>aB) ?_)));simp only[zz];refine fL rfl (fun hb=>aN bQ aR (bW hb rfl) (bW hb rfl) (by omega) (by omega) (dC (Int.toNat_natCast _))) (fL rfl (fun hb=>aH bD aC (bW hb rfl) rfl (by decide) (by decide) rfl) ?_);simp only[zz];refine lS rfl (fun hb u m=>bJ (bW hb rfl) ((mP.cor ((hrow.ext m.ext)) (c:=1) (by decide)).lies aI aC)) (fL rfl (fun hb=>aB) (fL rfl (fun hb=>aB) ?_));simp only[zz];refine fL rfl (fun hb=>aN bQ aR (bW hb rfl) (bW hb rfl) (by omega) (by omega) (dC (Int.toNat_natCast _))) (fL rfl (fun hb=>aH bD aC (bW hb rfl) rfl (by decide) (by decide) rfl) ?_);simp only[zz];refine lS rfl (fun hb u m=>bJ (bW hb rfl) ((mP.cor ((hrow.ext m.ext)) (c:=2) (by decide)).lies aI aC)) (fL rfl (fun hb=>cV (bW hb rfl) (bW hb rfl)) (aK (fH rfl rfl rfl) (aK (aB) (fL rfl (fun hb=>aB) ?_))));simp only[zz];refine fL rfl (fun hb=>aB) ?_;simp only[zz];refine fL rfl (fun hb=>aN bQ aR (bW hb rfl) (bW hb rfl) (by omega) (by omega) (dC (Int.toNat_natCast _))) (fL rfl (fun hb=>aH bD aC (bW hb rfl) rfl (by decide) (by decide) rfl) ?_);simp only[zz];refine lS rfl (fun hb u m=>bJ (bW hb rfl) ((mP.cor ((hrow.ext m.ext)) (c:=2) (by decide)).lies aI aC)) (fL rfl (fun hb=>aB) (fL rfl (fun hb=>aB) ?_));simp only[zz];refine fL rfl (fun hb=>aN bQ aR (bW hb rfl) (bW hb rfl) (by omega) (by omega) (dC (Int.toNat_natCast _))) (fL rfl (fun hb=>aH bD aC (bW hb rfl) rfl (by decide) (by decide) rfl) ?_);simp only[zz];refine lS rfl (fun hb u m=>bJ (bW hb rfl) ((mP.cor ((hrow.ext m.ext)) (c:=0) (by decide)).lies aI aC)) (fL rfl (fun hb=>cV (bW hb rfl) (bW hb rfl)) (aK (fH rfl rfl rfl) (bZ ?_)));clear m;intro u m;refine k7 _ _ ?_;simp only[zz];refine jO rfl (fun hc2=>?_) (fun hc2=>?_)
   ·
    have hd:=zW (p:=nG) ht (Md.symm.trans hc2);refine aD fun K8 k8=>wp_region_lit (aA (aG) (aF (k8 _ _ ?_)));refine wp_ret ?_;simp only[zz];try simp only[Exit.inBlock,Exit.then,if_true]
    refine bE rfl rfl ?_;try simp only[zD,zE]
    exact ⟨_,rfl,m.ext,by rw [Wt hd]⟩
   ·
    have hd1 : (ts.take (k + 1)).any nG = false:=by rw [rR ht,hd0,← Md];exact hc2
    refine wp_skip (k6 _ _ ?_);refine wp_region_lit (aA (aB) ?_);simp only[zz];refine aA (aU rfl rfl (aV (by omega) (by omega))) (aA (aG) (aF ?_));simp only[zz];simp only[Exit.inBlock,Exit.then];refine ⟨N - (k + 1),_,?_,rfl,?_,?_⟩
    · omega
    · simp only[zz,zv]
    ·
     simp only[zQ,zR,zD,zE];exact ⟨k + 1,rfl,m,hd1,by omega,rfl⟩
  ·
   have hkN : k = N:=by omega
   rw [hkN,show ts.take N = ts from List.take_of_length_le (by omega)] at hd0;refine wp_exit (k2 _ _ ?_);refine aD fun K9 k9=>wp_region_lit (aA (aB) ?_);simp only[zz];refine cD rfl rfl (adZ _ (hT.ext m.ext) (by omega)) ?_;rintro v u e ⟨A3,cap3,n3,hn3,rfl,hN⟩;replace m:=m.newO e hN;clear e hN;have hle3:=(m.o 0 rfl).le;refine aA (aG) (aF (k9 _ _ ?_));refine aD fun K10 k10=>aD fun K11 k11=>wp_region_lit (aA (aG) (aF (k11 _ _ ?_)));refine wp_block ?_;simp only[zz];try simp only[Nat.zero_add,Nat.reduceAdd,Nat.reduceMul,Int.reduceToNat]
   refine bT [7] [4,56,57,58,59,60,61,62,63,64,65,66,67,68] (fun n vs wl=>∃ (k : Nat),vs = [.int .i64 (k:Int)] ∧ Mem w wl [oI 56 6 A3 n3 cap3 ((bG ts).flatMap dT)] ∧ (((bG ts).take k).any (fun e=>decide (1 < kH (bG ts) e)) = false) ∧ (k ≤ n3) ∧ (n = n3 - k)) ?_ ?_
   ·
    apply Exists.intro;simp only[zQ,zR,zD,zE];exact ⟨0,rfl,m,rfl,Nat.zero_le _,rfl⟩
   ·
    intro n vs wr hI u;clear m;obtain ⟨k,rfl,m,hc0,hk,hn⟩:=hI;simp only[zu,zF,zG];refine aD fun K12 k12=>aD fun K13 k13=>wp_region_lit (aA (aB) (aA (aB) (aA (bH rfl xC rfl) (aA (cW rfl rfl) ?_))));simp only[zz];refine aF (k13 _ _ ?_);refine cG rfl (fun hc3=>?_) (fun hc3=>?_)
    ·
     obtain ⟨e,he⟩ : ∃ e,(bG ts)[k]? = some e:=⟨_,List.getElem?_eq_getElem (by omega)⟩
     obtain ⟨gO,rfl⟩:=(m.o 0 rfl).some (by omega);refine wp_skip (k12 _ _ ?_);refine aD fun K14 k14=>wp_block (aD fun K15 k15=>wp_region_lit (aA (aB) (aA (aB) (aA (aB) ?_))));simp only[zz];refine aA (aN xC iD rfl rfl (by omega) (by omega) (dC (Int.toNat_natCast _))) ?_;simp only[zz];refine aJ rfl (((m.o 0 rfl).at ed6 he).lies Ci iD) ?_;simp only[zz];refine eE m rfl rfl (ad0 (es:=bG ts) (e:=e) _ ((m.o 0 rfl).lat ed6 (by decide)) (by omega)) ?_;clear m;rintro v u m rfl;refine aA (lD rfl rfl) (aF (k15 _ _ ?_));simp only[zz];refine cG rfl (fun hc4=>?_) (fun hc4=>?_)
     ·
      have hc:=zW (p:=(fun e=>decide (1 < kH (bG ts) e))) he (decide_eq_true (gt1.1 hc4));refine aD fun K16 k16=>wp_region_lit (aA (aG) (aF (k16 _ _ ?_)));refine wp_ret ?_;simp only[zz];try simp only[Exit.inBlock,Exit.then,if_true]
      refine bE rfl rfl ?_;try simp only[zD,zE]
      exact ⟨_,rfl,m.ext,by rw [Wu hd0 hc]⟩
     ·
      have hc01 : ((bG ts).take (k + 1)).any (fun e=>decide (1 < kH (bG ts) e)) = false:=by rw [rR he,hc0,decide_eq_false (fun h=>hc4 (gt1.2 h))];rfl
      refine wp_skip (k14 _ _ ?_);refine wp_region_lit (aA (aB) ?_);simp only[zz];refine aA (aU rfl rfl (aV (by omega) (by omega))) (aA (aG) (aF ?_));simp only[zz];simp only[Exit.inBlock,Exit.then];refine ⟨n3 - (k + 1),_,?_,rfl,?_,?_⟩
      · omega
      · simp only[zz,zv]
      ·
       simp only[zQ,zR,zD,zE];exact ⟨k + 1,rfl,m,hc01,by omega,rfl⟩
    ·
     have hkN : k = (bG ts).length:=by omega
     rw [hkN,List.take_length] at hc0;refine wp_exit (k10 _ _ ?_);refine aD fun K17 k17=>aD fun K18 k18=>wp_region_lit (aA (aB) (aA (fR rfl) (aA (aB) (dY rfl ?_))));simp only[zz];refine dY rfl (dY rfl (dY rfl (aA (iB rfl) ?_)));simp only[zz];refine aF (k18 _ _ ?_);refine gA rfl (wp_skip (k17 _ _ ?_));refine aD fun K19 k19=>wp_region_lit (aA (aB) ?_);simp only[zz];refine cD rfl rfl (Za _ (hT.ext m.ext) hN) ?_;rintro v u e ⟨A8,cap8,n8,hn8,rfl,hN⟩;replace m:=m.newO e hN;clear e hN;have hle8:=(m.o 0 rfl).le;refine aA (aG) (aF (k19 _ _ ?_));refine aD fun K20 k20=>aD fun K21 k21=>wp_region_lit (aA (aG) (aF (k21 _ _ ?_)));refine wp_block ?_;simp only[zz];try simp only[Nat.zero_add,Nat.reduceAdd,Nat.reduceMul,Int.reduceToNat]
     refine bT [9] [4,10,79,80,81,82,83,84,85,86,87,88,89,90,91] (fun n vs wl=>∃ (k : Nat),vs = [.int .i64 (k:Int)] ∧ Mem w wl [oI 30 3 A8 n8 cap8 ((dK ts).flatMap mW)] ∧ (((dK ts).take k).any (yZ ts) = false) ∧ (k ≤ n8) ∧ (n = n8 - k)) ?_ ?_
     ·
      apply Exists.intro;simp only[zQ,zR,zD,zE];exact ⟨0,rfl,(m.sel [true,false]),rfl,Nat.zero_le _,rfl⟩
     ·
      intro n vs wr hI u;clear m;obtain ⟨k,rfl,m,hp0,hk,hn⟩:=hI;simp only[zu,zF,zG];refine aD fun K22 k22=>aD fun K23 k23=>wp_region_lit (aA (aB) (aA (aB) (aA (bH rfl dS rfl) (aA (cW rfl rfl) ?_))));simp only[zz];refine aF (k23 _ _ ?_);refine cG rfl (fun hc6=>?_) (fun hc6=>?_)
      ·
       obtain ⟨x,hx⟩ : ∃ x,(dK ts)[k]? = some x:=⟨_,List.getElem?_eq_getElem (by omega)⟩
       obtain ⟨gO,rfl⟩:=(m.o 0 rfl).some (by omega);refine wp_skip (k22 _ _ ?_);refine aD fun K24 k24=>wp_block (aD fun K25 k25=>wp_region_lit (aA (aB) (aA (aB) (aA (aB) ?_))));simp only[zz];refine aA (aN dS aC rfl rfl (by omega) (by omega) (dC (Int.toNat_natCast _))) ?_;simp only[zz];refine aJ rfl (((m.o 0 rfl).at El hx).lies aI aC) ?_;simp only[zz];refine eE m rfl rfl (Zb (p:=x) _ (hT.ext m.ext) (by omega)) ?_;clear m;rintro v u m rfl;refine aA (aG) (aF (k25 _ _ ?_));refine aD fun K26 k26=>wp_region_lit (aA (aB) (aF (k26 _ _ ?_)));simp only[zz];refine jO rfl (fun hc7=>?_) (fun hc7=>?_)
       ·
        have hp:=zW (p:=yZ ts) hx hc7;refine aD fun K27 k27=>wp_region_lit (aA (aG) (aF (k27 _ _ ?_)));refine wp_ret ?_;simp only[zz];try simp only[Exit.inBlock,Exit.then,if_true]
        refine bE rfl rfl ?_;try simp only[zD,zE]
        exact ⟨_,rfl,m.ext,by rw [Wv hd0 hc0 rfl hp]⟩
       ·
        have hp1 : ((dK ts).take (k + 1)).any (yZ ts) = false:=by rw [rR hx,hp0,hc7];rfl
        refine wp_skip (k24 _ _ ?_);refine wp_region_lit (aA (aB) ?_);simp only[zz];refine aA (aU rfl rfl (aV (by omega) (by omega))) (aA (aG) (aF ?_));simp only[zz];simp only[Exit.inBlock,Exit.then];refine ⟨n8 - (k + 1),_,?_,rfl,?_,?_⟩
        · omega
        · simp only[zz,zv]
        ·
         simp only[zQ,zR,zD,zE];exact ⟨k + 1,rfl,m,hp1,by omega,rfl⟩
      ·
       have hkN : k = (dK ts).length:=by omega
       rw [hkN,List.take_length] at hp0;refine wp_exit (k20 _ _ ?_);refine aD fun K28 k28=>wp_region_lit (aA (aG) (aF (k28 _ _ ?_)));refine wp_ret ?_;simp only[zz];try simp only[Exit.inBlock,Exit.then,if_true]
       refine bE rfl rfl ?_;try simp only[zD,zE]
       exact ⟨_,rfl,m.ext,by rw [abZ hd0 hc0 rfl hp0]⟩
theorem sY {ts : List T3} {N cap : Nat} {A : Option Addr} (w : World) (hT : bY w A N ts) (hN : N ≤ 100000000) : eG prog 30 [.slice A N cap] w (fun v _=>v = .int .i64 (eV true ts)):=by
 refine ⟨aiZ,?_⟩;have m:=Mem.refl w
 go_enter func30,ntmps30
 refine aD fun K1 k1=>wp_region_lit (aA (aG) (aF (k1 _ _ ?_)));refine aD fun K2 k2=>wp_region_lit (aA (aB) ?_);simp only[zz];refine eE m rfl rfl (ael _ (hT.ext m.ext) hN) ?_;clear m;rintro v u m rfl;refine aA (aG) (aF (k2 _ _ ?_));refine wp_ret ?_;simp only[zz];try simp only[Exit.inBlock,Exit.then,if_true]
 refine bE rfl rfl ?_;try simp only[zD,zE]
 exact ⟨_,rfl,m.ext,rfl⟩
end Go.Proofs.YtfekpcimgncioaaGreatDoor
namespace Go.Proofs.YtfekpcimgncioaaGreatDoor
open Go.Proofs.Tryz
open Go.RowKit Go.Lith
set_option maxRecDepth 100000
attribute [local irreducible] wpList wpQuiet dB bL cE Code.wp
theorem ab0 {t : T3} : eQ prog 234 [tr t] (.agg #[.int .i64 t.a.x,.int .i64 t.a.y,.int .i64 t.a.z,.int .i64 t.b.x,.int .i64 t.b.y,.int .i64 t.b.z,.int .i64 t.b.x,.int .i64 t.b.y,.int .i64 t.b.z,.int .i64 t.c.x,.int .i64 t.c.y,.int .i64 t.c.z,.int .i64 t.c.x,.int .i64 t.c.y,.int .i64 t.c.z,.int .i64 t.a.x,.int .i64 t.a.y,.int .i64 t.a.z]):=by
 intro w;refine ⟨agL,?_⟩;have m:=Mem.refl w
 go_enter func234,ntmps234
 refine aD fun K1 k1=>wp_region_lit (cB m rfl ?_);clear m;intro g1 u m;simp only[zz];refine bA m Ph rfl ?_;clear m;intro g2 u m;refine aF (k1 _ _ ?_);refine aD fun K2 k2=>wp_region_lit (aA (aH bD aC rfl rfl (by decide) (by decide) rfl) ?_);simp only[zz];refine aJ rfl ((m.b 1 rfl).lies aI aC rfl rfl) ?_;simp only[zz,zy,Nat.zero_add,Nat.reduceAdd,Nat.reduceMul,Int.reduceToNat];refine aA (aH bD aC rfl rfl (by decide) (by decide) rfl) ?_;simp only[zz];refine aJ rfl ((m.b 1 rfl).lies aI aC rfl rfl) ?_;simp only[zz,zy,Nat.zero_add,Nat.reduceAdd,Nat.reduceMul,Int.reduceToNat];refine aA (fK rfl rfl) (aA (aH bD aC rfl rfl (by decide) (by decide) rfl) ?_);simp only[zz];refine aJ rfl ((m.b 1 rfl).lies aI aC rfl rfl) ?_;simp only[zz,zy,Nat.zero_add,Nat.reduceAdd,Nat.reduceMul,Int.reduceToNat];refine aA (aH bD aC rfl rfl (by decide) (by decide) rfl) ?_;simp only[zz];refine aJ rfl ((m.b 1 rfl).lies aI aC rfl rfl) ?_;simp only[zz,zy,Nat.zero_add,Nat.reduceAdd,Nat.reduceMul,Int.reduceToNat];refine aA (fK rfl rfl) (aA (aH bD aC rfl rfl (by decide) (by decide) rfl) ?_);simp only[zz];refine aJ rfl ((m.b 1 rfl).lies aI aC rfl rfl) ?_;simp only[zz,zy,Nat.zero_add,Nat.reduceAdd,Nat.reduceMul,Int.reduceToNat];refine aA (aH bD aC rfl rfl (by decide) (by decide) rfl) ?_;simp only[zz];refine aJ rfl ((m.b 1 rfl).lies aI aC rfl rfl) ?_;simp only[zz,zy,Nat.zero_add,Nat.reduceAdd,Nat.reduceMul,Int.reduceToNat];refine aA (fK rfl rfl) (aA (Aj rfl rfl rfl) ?_);simp only[zz];refine aT m 0 rfl rfl rfl Ki (cU rfl) rfl ?_;clear m;intro u m;simp only[zy,zx,bB,zF,zG,Nat.reduceAdd] at m;refine aF (k2 _ _ ?_);refine wp_ret ?_;try simp only[Exit.inBlock,Exit.then,if_true]
 refine bE rfl ⟨_,rfl,((m.b 0 rfl).full adV Ki)⟩ ?_;try simp only[zD,zE]
 exact ⟨_,rfl,m.ext,rfl⟩
theorem ahC {e : E3} : eQ prog 236 [ed e] (ed (e.2,e.1)):=by
 intro w;refine ⟨agM,?_⟩;have m:=Mem.refl w
 go_enter func236,ntmps236
 refine aD fun K1 k1=>wp_region_lit (cB m rfl ?_);clear m;intro g1 u m;simp only[zz];refine bA m lU rfl ?_;clear m;intro g2 u m;refine aF (k1 _ _ ?_);refine aD fun K2 k2=>wp_region_lit (aA (aL (c:=2) iO rfl aC rfl rfl) ?_);simp only[zz];refine aJ rfl ((m.b 1 rfl).lies aI aC rfl rfl) ?_;simp only[zz,zy,Nat.zero_add,Nat.reduceAdd,Nat.reduceMul,Int.reduceToNat];refine aA (aL (c:=2) iO rfl aC rfl rfl) ?_;simp only[zz];refine aJ rfl ((m.b 1 rfl).lies aI aC rfl rfl) ?_;simp only[zz,zy,Nat.zero_add,Nat.reduceAdd,Nat.reduceMul,Int.reduceToNat];refine aA (fK rfl rfl) ?_;simp only[zz];refine aT m 0 rfl rfl rfl dO (cU rfl) rfl ?_;clear m;intro u m;simp only[zy,zx,bB,zF,zG,Nat.reduceAdd] at m;refine aF (k2 _ _ ?_);refine wp_ret ?_;try simp only[Exit.inBlock,Exit.then,if_true]
 refine bE rfl ⟨_,rfl,((m.b 0 rfl).full iX dO)⟩ ?_;try simp only[zD,zE]
 exact ⟨_,rfl,m.ext,rfl⟩
theorem Ul {E : List E3} {e : E3} (h : (!!(cK (fB [] E) e).getD false) = true) : false = decide (E ++ [e]).Nodup:=by
 rw [Bool.not_not] at h;exact (decide_eq_false fun k=>(Gw.1 k).2 (Pz.1 h)).symm
theorem Nh {E : List E3} {e : E3} {b : Bool} (hb : b = decide E.Nodup) (h : (!!(cK (fB [] E) e).getD false) = false) : b = decide (E ++ [e]).Nodup:=by
 rw [Bool.not_not] at h;rw [hb,decide_eq_decide,Gw];exact ⟨fun k=>⟨k,fun h2=>by rw [Pz.2 h2] at h;cases h⟩,And.left⟩
theorem jE {K : Type} [DecidableEq K] (ks : List K) (k : K) : fB [] (ks ++ [k]) = eO (fB [] ks) k true:=abt [] ks [k]
theorem Hn {ts : List T3} {N cap : Nat} {A : Option Addr} (w : World) (hT : bY w A N ts) (hN : N ≤ 10000000) : eG prog 164 [.slice A N cap] w (fun v w'=>∃ g es c,v = .tuple #[.map (some g),.bool (decide (bG ts).Nodup)] ∧ Mem w w' [mI g es c] ∧ bP ed Value.bool (fB [] (bG ts)) es c):=by
 refine ⟨agi,?_⟩;have m:=Mem.refl w
 go_enter func164,ntmps164
 refine aD fun K1 k1=>wp_region_lit (aA (aG) (aA (aG) (aF (k1 _ _ ?_))));refine aD fun K2 k2=>wp_region_lit ?_;simp only[zz];refine jA m ?_;clear m;intro q8 u m;have hD8:=bP.nil (K:=E3) (V:=Bool) ed Value.bool;refine aA (aG) (aF (k2 _ _ ?_));refine aD fun K3 k3=>wp_region_lit (aA (aG) (aF (k3 _ _ ?_)));refine aD fun K4 k4=>aD fun K5 k5=>wp_region_lit (aA (aB) ?_);simp only[zz];refine aA (bH rfl bQ rfl) (aA (aB) (aF (k5 _ _ ?_)));refine wp_block ?_;simp only[zz];try simp only[Nat.zero_add,Nat.reduceAdd,Nat.reduceMul,Int.reduceToNat]
 refine bT [5,13] [7,9,14,15,16,17,18,19,20,21,22,23,24,25,26,27] (fun n vs wl=>∃ (k : Nat) (es : Array MapEntry) (c : Nat) (b : Bool),vs = [.bool b,.int .i64 (k:Int)] ∧ Mem w wl [mI q8 es c] ∧ (bP ed Value.bool (fB [] (bG (ts.take k))) es c) ∧ (b = decide (bG (ts.take k)).Nodup) ∧ (k ≤ N) ∧ (n = N - k)) ?_ ?_
 ·
  apply Exists.intro;simp only[zQ,zR,zD,zE];exact ⟨0,_,_,true,rfl,m,hD8,rfl,Nat.zero_le _,rfl⟩
 ·
  intro n vs wr hI u;clear m;obtain ⟨k,es,c,b0,rfl,m,hD8,hb0,hk,hn⟩:=hI;simp only[zu,zF,zG];refine aD fun K6 k6=>wp_region_lit (aA (cW rfl rfl) (aF (k6 _ _ ?_)));refine aD fun K7 k7=>?_;simp only[zz];refine cG rfl (fun hc1=>?_) (fun hc1=>?_)
  ·
   obtain ⟨t,ht,_,a,rfl,hrow⟩:=hT.get (i:=k) (by omega);refine wp_skip (k7 _ _ ?_);refine aD fun K8 k8=>wp_block (aD fun K9 k9=>wp_region_lit (aA (aN bQ aR rfl rfl (by omega) (by omega) (dC (Int.toNat_natCast _))) ?_));simp only[zz];refine aJ rfl ((hrow.ext m.ext).lies bR aR) ?_;simp only[zz];refine bA m fP rfl ?_;clear m;intro g2 u m;simp only[zz];refine aT m 0 rfl rfl rfl aR (cU rfl) rfl ?_;clear m;intro u m;simp only[zy,zx,bB,zF,zG,Nat.reduceAdd] at m;refine aF (k9 _ _ ?_);refine aD fun K10 k10=>wp_region_lit (aJ rfl ((m.b 0 rfl).full bR aR) ?_);simp only[zz];refine dH m rfl rfl (ab0) ?_;clear m;intro u m;refine aA (aB) (aF (k10 _ _ ?_));refine wp_block (wp_loop_rounds 4 (bU (aD fun K11 k11=>wp_region_lit (aA (bF (m:=0) (n:=3) rfl rfl (by decide)) (aF (k11 _ _ ?_))))));refine aD fun K12 k12=>bK rfl (wp_skip (k12 _ _ ?_));refine aD fun K13 k13=>wp_block (aD fun K14 k14=>wp_region_lit (aA (Jb rfl rfl) ?_));simp only[zz];refine bA m lU rfl ?_;clear m;intro g3 u m;simp only[zz];refine aT m 0 rfl rfl rfl dO (cU rfl) rfl ?_;clear m;intro u m;simp only[zy,zx,bB,zF,zG,Nat.reduceAdd] at m;refine aF (k14 _ _ ?_);refine aD fun K15 k15=>wp_region_lit (aA (aB) ?_);simp only[zz];refine aJ rfl ((m.b 0 rfl).full iX dO) ?_;simp only[zz];refine jG m 2 Me rfl rfl (fun m=>Nf (p:=(t.a,t.b)) m 2 rfl hD8) ?_;clear m;rintro v i u m ⟨rfl,es',c',rfl,hD'⟩;simp only[zF,zG] at m;simp only[zz];rw [← jE] at hD';clear hD8;have hD8:=hD';clear hD';refine aA (fR rfl) (aF (k15 _ _ ?_));simp only[zz];refine Ng m [5] [] (fun vs=>∃ (b : Bool),vs = [.bool b] ∧ (b = decide (((bG (ts.take k)) ++ [(t.a,t.b)])).Nodup)) ?_ ?_
   ·
    refine eD rfl (fun hc3=>?_) (fun hc3=>?_)
    ·
     refine wp_region_lit (aA (aG) (aF ?_));simp only[zz];simp only[Exit.inBlock,Exit.then];refine ⟨_,rfl,?_,m,?_⟩
     · simp only[zz,zv]
     ·
      simp only[zQ,zR,zD,zE];exact ⟨false,rfl,Ul hc3⟩
    ·
     skip
     refine wp_skip ?_;simp only[Exit.inBlock,Exit.then];refine ⟨_,rfl,?_,m,?_⟩
     · simp only[zz,zv]
     ·
      simp only[zQ,zR,zD,zE];exact ⟨b0,rfl,Nh hb0 hc3⟩
   ·
    intro vs wr m hI u;obtain ⟨b1,rfl,hb1⟩:=hI;simp only[zu,zF,zG];refine k13 _ _ (wp_region_lit (aA (aU (m:=0) (n:=1) (r:=1) rfl rfl (by decide)) (aA (aB) (aF (aQ (aD fun K16 k16=>wp_region_lit (aA (bF (m:=1) (n:=3) rfl rfl (by decide)) (aF (k16 _ _ ?_)))))))));refine aD fun K17 k17=>bK rfl (wp_skip (k17 _ _ ?_));refine aD fun K18 k18=>wp_block (aD fun K19 k19=>wp_region_lit (aA (Jc rfl rfl) ?_));simp only[zz];refine bA m lU rfl ?_;clear m;intro g4 u m;simp only[zz];refine aT m 0 rfl rfl rfl dO (cU rfl) rfl ?_;clear m;intro u m;simp only[zy,zx,bB,zF,zG,Nat.reduceAdd] at m;refine aF (k19 _ _ ?_);refine aD fun K20 k20=>wp_region_lit (aA (aB) ?_);simp only[zz];refine aJ rfl ((m.b 0 rfl).full iX dO) ?_;simp only[zz];refine jG m 3 Me rfl rfl (fun m=>Nf (p:=(t.b,t.c)) m 3 rfl hD8) ?_;clear m;rintro v i u m ⟨rfl,es',c',rfl,hD'⟩;simp only[zF,zG] at m;simp only[zz];rw [← jE] at hD';clear hD8;have hD8:=hD';clear hD';refine aA (fR rfl) (aF (k20 _ _ ?_));simp only[zz];refine Ng m [5] [] (fun vs=>∃ (b : Bool),vs = [.bool b] ∧ (b = decide ((((bG (ts.take k)) ++ [(t.a,t.b)]) ++ [(t.b,t.c)])).Nodup)) ?_ ?_
    ·
     refine eD rfl (fun hc3=>?_) (fun hc3=>?_)
     ·
      refine wp_region_lit (aA (aG) (aF ?_));simp only[zz];simp only[Exit.inBlock,Exit.then];refine ⟨_,rfl,?_,m,?_⟩
      · simp only[zz,zv]
      ·
       simp only[zQ,zR,zD,zE];exact ⟨false,rfl,Ul hc3⟩
     ·
      skip
      refine wp_skip ?_;simp only[Exit.inBlock,Exit.then];refine ⟨_,rfl,?_,m,?_⟩
      · simp only[zz,zv]
      ·
       simp only[zQ,zR,zD,zE];exact ⟨b1,rfl,Nh hb1 hc3⟩
    ·
     intro vs wr m hI u;obtain ⟨b2,rfl,hb2⟩:=hI;simp only[zu,zF,zG];refine k18 _ _ (wp_region_lit (aA (aU (m:=1) (n:=1) (r:=2) rfl rfl (by decide)) (aA (aB) (aF (aQ (aD fun K21 k21=>wp_region_lit (aA (bF (m:=2) (n:=3) rfl rfl (by decide)) (aF (k21 _ _ ?_)))))))));refine aD fun K22 k22=>bK rfl (wp_skip (k22 _ _ ?_));refine aD fun K23 k23=>wp_block (aD fun K24 k24=>wp_region_lit (aA (Jd rfl rfl) ?_));simp only[zz];refine bA m lU rfl ?_;clear m;intro g5 u m;simp only[zz];refine aT m 0 rfl rfl rfl dO (cU rfl) rfl ?_;clear m;intro u m;simp only[zy,zx,bB,zF,zG,Nat.reduceAdd] at m;refine aF (k24 _ _ ?_);refine aD fun K25 k25=>wp_region_lit (aA (aB) ?_);simp only[zz];refine aJ rfl ((m.b 0 rfl).full iX dO) ?_;simp only[zz];refine jG m 4 Me rfl rfl (fun m=>Nf (p:=(t.c,t.a)) m 4 rfl hD8) ?_;clear m;rintro v i u m ⟨rfl,es',c',rfl,hD'⟩;simp only[zF,zG] at m;simp only[zz];rw [← jE] at hD';clear hD8;have hD8:=hD';clear hD';refine aA (fR rfl) (aF (k25 _ _ ?_));simp only[zz];refine Ng m [5] [] (fun vs=>∃ (b : Bool),vs = [.bool b] ∧ (b = decide (((((bG (ts.take k)) ++ [(t.a,t.b)]) ++ [(t.b,t.c)]) ++ [(t.c,t.a)])).Nodup)) ?_ ?_
     ·
      refine eD rfl (fun hc3=>?_) (fun hc3=>?_)
      ·
       refine wp_region_lit (aA (aG) (aF ?_));simp only[zz];simp only[Exit.inBlock,Exit.then];refine ⟨_,rfl,?_,m,?_⟩
       · simp only[zz,zv]
       ·
        simp only[zQ,zR,zD,zE];exact ⟨false,rfl,Ul hc3⟩
      ·
       skip
       refine wp_skip ?_;simp only[Exit.inBlock,Exit.then];refine ⟨_,rfl,?_,m,?_⟩
       · simp only[zz,zv]
       ·
        simp only[zQ,zR,zD,zE];exact ⟨b2,rfl,Nh hb2 hc3⟩
     ·
      intro vs wr m hI u;obtain ⟨b3,rfl,hb3⟩:=hI;simp only[zu,zF,zG];refine k23 _ _ (wp_region_lit (aA (aU (m:=2) (n:=1) (r:=3) rfl rfl (by decide)) (aA (aB) (aF (aQ (aD fun K26 k26=>wp_region_lit (aA (dM (m:=3) (n:=3) rfl rfl (by decide)) (aF (k26 _ _ ?_)))))))));refine aD fun K27 k27=>gA rfl (wp_exit (k8 _ _ ?_));refine wp_region_lit ?_;simp only[zz];refine aA (aU rfl rfl (aV (by omega) (by omega))) (aA (aB) (aF ?_));simp only[zz];simp only[Exit.inBlock,Exit.then];refine ⟨N - (k + 1),_,?_,rfl,?_,?_⟩
      · omega
      · simp only[zz,zv]
      ·
       simp only[zQ,zR,zD,zE];exact ⟨k + 1,_,_,b3,rfl,(m.sel [false,false,false,false,true]),by rw [pI ht];simpa [List.append_assoc] using hD8,by rw [hb3,pI ht];simp only[List.append_assoc,List.cons_append,List.nil_append],by omega,rfl⟩
  ·
   have hkN : k = N:=by omega
   rw [hkN,show ts.take N = ts from List.take_of_length_le (by rw [hT.len];exact Nat.le_refl _)] at hD8 hb0;refine wp_exit (k4 _ _ ?_);refine aD fun K28 k28=>wp_region_lit (aA (aB) (aA (aB) (aA (aG) (aA (aG) ?_))));simp only[zz];refine aF (k28 _ _ ?_);refine wp_ret ?_;try simp only[Exit.inBlock,Exit.then,if_true]
   refine uA rfl rfl rfl ?_;try simp only[zD,zE]
   exact ⟨_,rfl,m.ext,_,_,_,by rw [hb0],m,hD8⟩
theorem ahD {E : List E3} {dn : List (E3 × Bool)} {kp : E3} {kb : Bool} (h : (!(cK (fB [] E) (kp.2,kp.1)).getD false) = true) : ((dn ++ [(kp,kb)]).map (·.1)).filter (fun e=>decide ((e.2,e.1) ∉ E)) = (dn.map (·.1)).filter (fun e=>decide ((e.2,e.1) ∉ E)) ++ [kp]:=by
 rw [nA] at h;simp only[List.map_append,List.filter_append,List.map_cons,List.map_nil];rw [List.filter_cons_of_pos (by simpa using h)];rfl
theorem ahE {E : List E3} {dn : List (E3 × Bool)} {kp : E3} {kb : Bool} (h : (!(cK (fB [] E) (kp.2,kp.1)).getD false) = false) : ((dn ++ [(kp,kb)]).map (·.1)).filter (fun e=>decide ((e.2,e.1) ∉ E)) = (dn.map (·.1)).filter (fun e=>decide ((e.2,e.1) ∉ E)):=by
 rw [nA] at h;simp only[List.map_append,List.filter_append,List.map_cons,List.map_nil];rw [List.filter_cons_of_neg (by simpa using h)];simp
theorem ab1 {E : List E3} {dn : List (E3 × Bool)} (h : dn.Perm (fB [] E)) : (∀ a,a ∈ (dn.map (·.1)).filter (fun e=>decide ((e.2,e.1) ∉ E)) ↔ a ∈ E ∧ (a.2,a.1) ∉ E) ∧ ((dn.map (·.1)).filter (fun e=>decide ((e.2,e.1) ∉ E))).length ≤ E.length:=by
 refine ⟨fun a=>?_,?_⟩
 ·
  rw [List.mem_filter,(h.map (·.1)).mem_iff,pQ];simp
 ·
  refine Nat.le_trans (List.length_filter_le _ _) ?_;have:=lJ E [];rw [List.length_map,h.length_eq];simpa using this
theorem Zv {g c : Nat} {es : Array MapEntry} {E : List E3} (w : World) (hM : gC w g es c) (hD : bP ed Value.bool (fB [] E) es c) : eG prog 165 [.map (some g)] w (fun v w'=>∃ g es c ks,v = .map (some g) ∧ Mem w w' [mI g es c] ∧ bP ed Value.bool (fB [] ks) es c ∧ (∀ a,a ∈ ks ↔ a ∈ E ∧ (a.2,a.1) ∉ E) ∧ ks.length ≤ E.length):=by
 refine ⟨agj,?_⟩;have m:=Mem.refl w
 go_enter func165,ntmps165
 refine aD fun K1 k1=>wp_region_lit (aA (aG) (aF (k1 _ _ ?_)));refine aD fun K2 k2=>wp_region_lit ?_;simp only[zz];refine jA m ?_;clear m;intro q8 u m;have hD8:=bP.nil (K:=E3) (V:=Bool) ed Value.bool;refine aA (aG) (aF (k2 _ _ ?_));refine aD fun K3 k3=>aD fun K4 k4=>wp_region_lit (aA (aB) ?_);simp only[zz];refine qY m underlying208 rfl (hM.ext m.ext) ?_;clear m;intro r1 u m;refine aF (k4 _ _ ?_);refine wp_block ?_;simp only[zz];try simp only[Nat.zero_add,Nat.reduceAdd,Nat.reduceMul,Int.reduceToNat]
 refine bT [] [4,8,9,10,11,12,13,14,15,16,17,18,19] (fun n vs wl=>∃ (dn rs : List (E3 × Bool)) (sn : Array Nat) (es2 : Array MapEntry) (c2 : Nat),vs = [] ∧ Mem w wl [iI r1 g c sn,mI q8 es2 c2] ∧ (bP ed Value.bool (fB [] ((dn.map (·.1)).filter (fun e=>decide ((e.2,e.1) ∉ E)))) es2 c2) ∧ (kU ed Value.bool (fB [] E) es sn dn rs) ∧ (n = rs.length)) ?_ ?_
 ·
  apply Exists.intro;simp only[zQ,zR,zD,zE];exact ⟨[],fB [] E,#[],_,_,trivial,m,hD8,kU.start hD,rfl⟩
 ·
  intro n vs wr hI u;clear m;obtain ⟨dn,rs,sn,es2,c2,rfl,m,hD8,hT,hn⟩:=hI;simp only[zu,zF,zG];refine aD fun K5 k5=>wp_region_lit (Dt m 0 rfl rfl (hM.ext m.ext) hD hT ?_);clear m;intro bb kk vv sn u m hN;simp only[zF,zG] at m;refine aA (lW rfl) (aF (k5 _ _ ?_));refine aD fun K6 k6=>?_;simp only[zz];refine eD rfl (fun hc1=>?_) (fun hc1=>?_)
  ·
   obtain ⟨kp,kb,rs2,hp,hT2⟩:=Aq hc1 hN;refine wp_skip (k6 _ _ ?_);refine wp_block (aD fun K7 k7=>wp_region_lit (eY (oH rfl (m.r 0 rfl) (hM.ext m.ext) hD hT2) ?_));simp only[zz];refine aA (bC rfl rfl) ?_;simp only[zz];refine bA m lU rfl ?_;clear m;intro g3 u m;simp only[zz];refine aT m 0 rfl rfl rfl dO (cU rfl) rfl ?_;clear m;intro u m;simp only[zy,zx,bB,zF,zG,Nat.reduceAdd] at m;refine aF (k7 _ _ ?_);refine aD fun K8 k8=>wp_region_lit (aA (aB) ?_);simp only[zz];refine aJ rfl ((m.b 0 rfl).full iX dO) ?_;simp only[zz];refine dH m rfl rfl (ahC) ?_;clear m;intro u m;simp only[zz];refine eY (dV (ek:=ed) (en:=Value.bool) (k:=(kp.2,kp.1)) (v0:=false) underlying208 kY vE rfl rfl (hM.ext m.ext) hD) ?_;simp only[zz];refine aA (fR rfl) (aF (k8 _ _ ?_));simp only[zz];refine eD rfl (fun hc2=>?_) (fun hc2=>?_)
   ·
    refine wp_region_lit (aA (aB) ?_);simp only[zz];refine aJ rfl ((m.b 0 rfl).full iX dO) ?_;simp only[zz];refine jG m 2 Me rfl rfl (fun m=>Nf (p:=kp) m 2 rfl hD8) ?_;clear m;rintro v i u m ⟨rfl,es',c',rfl,hD'⟩;simp only[zF,zG] at m;simp only[zz];rw [← jE] at hD';clear hD8;have hD8:=hD';clear hD';refine aF ?_;simp only[Exit.inBlock,Exit.then];refine ⟨rs2.length,_,?_,rfl,?_,?_⟩
    · rw [hn,hp.length_eq];exact Nat.lt_succ_self _
    · simp only[zz,zv]
    ·
     simp only[zQ,zR,zD,zE];exact ⟨dn ++ [(kp,kb)],rs2,_,_,_,trivial,(m.sel [false,true,true]),by rw [ahD hc2];exact hD8,hT2,rfl⟩
   ·
    refine wp_skip ?_;simp only[Exit.inBlock,Exit.then];refine ⟨rs2.length,_,?_,rfl,?_,?_⟩
    · rw [hn,hp.length_eq];exact Nat.lt_succ_self _
    · simp only[zz,zv]
    ·
     simp only[zQ,zR,zD,zE];exact ⟨dn ++ [(kp,kb)],rs2,_,_,_,trivial,(m.sel [false,true,true]),by rw [ahE hc2];exact hD8,hT2,rfl⟩
  ·
   obtain rfl:=An hc1 hN;refine wp_exit (k3 _ _ ?_);refine aD fun K9 k9=>wp_region_lit (aA (aB) (aA (aG) (aF (k9 _ _ ?_))));refine wp_ret ?_;simp only[zz];try simp only[Exit.inBlock,Exit.then,if_true]
   refine bE rfl rfl ?_;try simp only[zD,zE]
   exact ⟨_,rfl,m.ext,_,_,_,_,rfl,m.sel [false,true],hD8,ab1 hT.done⟩
theorem Zw {ts : List T3} {ks ps : List E3} (hk : ∀ a,a ∈ ks ↔ a ∈ bG ts ∧ (a.2,a.1) ∉ bG ts) (hp : ps.Perm ((fB [] ks).map (·.1))) (hs : ps.Pairwise fun a b=>¬ Dw b a) : ps = cS ts:=by
 refine Px ?_ (Jj ts) fun a=>?_
 ·
  have hn : ps.Nodup:=hp.nodup_iff.2 (xT _ _ .nil);refine List.Pairwise.imp₂ (fun a b (h : ¬ Dw b a) (k : a ≠ b)=>?_) hs hn;rcases Dw.tri a b with h1 | h1 | h1
  · exact h1
  · exact absurd h1 k
  · exact absurd h1 h
 ·
  rw [hp.mem_iff,pQ,Tw,hk];simp
theorem Zx {ts : List T3} {N cap : Nat} {A : Option Addr} (w : World) (hT : bY w A N ts) (hN : N ≤ 10000000) : eG prog 98 [.slice A N cap] w (SL 56 6 ((cS ts).flatMap dT) (cS ts).length w):=by
 refine ⟨aju,?_⟩;have m:=Mem.refl w;have htl:=hT.len;have hel:=rO ts
 go_enter func98,ntmps98
 refine aD fun K1 k1=>wp_region_lit (aA (aG) (aF (k1 _ _ ?_)));refine aD fun K2 k2=>wp_region_lit (aA (aB) ?_);simp only[zz];refine cD rfl rfl (Hn _ (hT.ext m.ext) (by omega)) ?_;rintro v u e ⟨g8,es8,c8,rfl,hM,hD8⟩;replace m:=m.plus hM;clear hM e;simp only[List.cons_append,List.nil_append] at m;refine aA (aB) (aA (bC rfl rfl) (aA (bC rfl rfl) ?_));simp only[zz];refine aA (aG) (aA (aG) (aF (k2 _ _ ?_)));refine aD fun K3 k3=>wp_region_lit (aA (aG) ?_);replace m:=m.nilO 56 6;refine aF (k3 _ _ ?_);refine aD fun K4 k4=>aD fun K5 k5=>wp_region_lit (aA (aB) ?_);simp only[zz];refine cD rfl rfl (Zv _ (m.p 1 rfl) hD8) ?_;rintro v u e ⟨g9,es9,c9,ks,rfl,hM,hD9,hks,hkl⟩;replace m:=m.plus hM;clear hM e;simp only[List.cons_append,List.nil_append] at m;simp only[zz];refine cD rfl rfl (Zu _ (m.p 0 rfl) hD9 (by have h1:=lJ ks [];simp only[List.length_nil] at h1;omega)) ?_;rintro v u e ⟨A5,n5,cap5,_,rfl,hN,ps,rfl,hps,hso⟩;replace m:=m.newO e hN;clear e hN;obtain rfl:=Zw hks hps hso;obtain rfl : (cS ts).length = n5:=(m.o 0 rfl).num ed6 (by decide);have hle5:=(m.o 0 rfl).le;have hbl : (cS ts).length ≤ (bG ts).length:=by have:=Gj (all:=bG ts) (bG ts) [];simpa [cS] using this
 refine aA (bH rfl underlying212 rfl) (aA (aB) (aF (k5 _ _ ?_)));refine wp_block ?_;simp only[zz];try simp only[Nat.zero_add,Nat.reduceAdd,Nat.reduceMul,Int.reduceToNat]
 refine bT [5,17] [7,18,19,20,21,22,23,24,25,26,27,28,29] (fun n vs wl=>∃ (k : Nat) (A6 : Option Addr) (cap6 : Nat),vs = [.slice A6 k cap6,.int .i64 (k:Int)] ∧ Mem w wl [oI 215 6 A5 (cS ts).length cap5 ((cS ts).flatMap dT),oI 56 6 A6 k cap6 (((cS ts).take k).flatMap dT)] ∧ (k ≤ (cS ts).length) ∧ (n = (cS ts).length - k)) ?_ ?_
 ·
  apply Exists.intro;simp only[zQ,zR,zD,zE];exact ⟨0,_,_,rfl,(m.sel [true,false,true,false]),Nat.zero_le _,rfl⟩
 ·
  intro n vs wr hI u;clear m;obtain ⟨k,A6,cap6,rfl,m,hk,hn⟩:=hI;simp only[zu,zF,zG];refine aD fun K6 k6=>wp_region_lit (aA (cW rfl rfl) (aF (k6 _ _ ?_)));refine aD fun K7 k7=>?_;simp only[zz];refine cG rfl (fun hc1=>?_) (fun hc1=>?_)
  ·
   obtain ⟨e,he⟩ : ∃ e,(cS ts)[k]? = some e:=⟨_,List.getElem?_eq_getElem (by omega)⟩
   obtain ⟨gO,rfl⟩:=(m.o 0 rfl).some (by omega);refine wp_skip (k7 _ _ ?_);refine aD fun K8 k8=>wp_block (aD fun K9 k9=>wp_region_lit (aA (aN underlying212 dO rfl rfl (by omega) (by omega) (dC (Int.toNat_natCast _))) ?_));simp only[zz];refine aJ rfl (((m.o 0 rfl).at ed6 he).lies iX dO) ?_;simp only[zz];refine bA m lU rfl ?_;clear m;intro g1 u m;simp only[zz];refine aT m 0 rfl rfl rfl dO (cU rfl) rfl ?_;clear m;intro u m;simp only[zy,zx,bB,zF,zG,Nat.reduceAdd] at m;refine aF (k9 _ _ ?_);refine wp_region_lit (aA (aB) (aA (aL (c:=2) iO rfl aC rfl rfl) ?_));simp only[zz];refine aJ rfl ((m.b 0 rfl).lies aI aC rfl rfl) ?_;simp only[zz,zy,Nat.zero_add,Nat.reduceAdd,Nat.reduceMul,Int.reduceToNat];refine aA (aL (c:=2) iO rfl aC rfl rfl) ?_;simp only[zz];refine aJ rfl ((m.b 0 rfl).lies aI aC rfl rfl) ?_;simp only[zz,zy,Nat.zero_add,Nat.reduceAdd,Nat.reduceMul,Int.reduceToNat];refine aA (fI rfl rfl) ?_;simp only[zz];refine Yx rfl ?_;intro u g2 e hg hB;replace m:=m.newB e hg hB;clear e hg hB;simp only[zz];refine dD m 3 rfl rfl xC abb rfl (by decide) rfl rfl rfl (m.b 0 rfl).rowsO (jZ rfl) (by omega) (by omega) ?_;clear m;intro A6 cap6 u m;simp only[zF,zG] at m;refine aA (aG) (aF (k8 _ _ ?_));refine wp_region_lit ?_;simp only[zz];refine aA (aU rfl rfl (aV (by omega) (by omega))) (aA (aB) (aF ?_));simp only[zz];simp only[Exit.inBlock,Exit.then];refine ⟨(cS ts).length - (k + 1),_,?_,rfl,?_,?_⟩
   · omega
   · simp only[zz,zv]
   ·
    simp only[zQ,zR,zD,zE];exact ⟨k + 1,_,_,rfl,((m.reO 3 rfl ((m.o 3 rfl).as (by rw [cQ he,List.flatMap_append];rfl))).sel [false,false,true,true]),by omega,rfl⟩
  ·
   obtain rfl : k = (cS ts).length:=by omega
   rw [List.take_length] at m;refine wp_exit (k4 _ _ ?_);refine aD fun K10 k10=>wp_region_lit (aA (aB) (aA (aG) (aF (k10 _ _ ?_))));refine wp_ret ?_;simp only[zz];try simp only[Exit.inBlock,Exit.then,if_true]
   refine bE rfl rfl ?_;try simp only[zD,zE]
   exact ⟨_,rfl,m.ext,⟨_,_,_,rfl,rfl,(m.o 1 rfl)⟩⟩
end Go.Proofs.YtfekpcimgncioaaGreatDoor
namespace Go.Lith
open Go.RowKit Go.ChangeMaps Go.MapKept
def aem {K V : Type} [DecidableEq K] (ek : K → Value) (en : V → Value) (D : List (K × V)) (k : K) (es : Array MapEntry) (c b : Nat) : Prop :=
 ∀ u,∃ p,es.findIdx? (fun e=>(e.born : Int) == (b : Int)) = some p ∧ bP ek en (eO D k u) (es.modify p fun e=>{ e with val:=en u }) c
section
variable {K V : Type} [DecidableEq K] {P : Program} {T M E ty : TypeId} {ek : K → Value} {en : V → Value} {w w0 : World} {g c : Nat} {es : Array MapEntry} {D : List (K × V)}
theorem ahF {α : Type} {l : List α} {p : Nat} {x : α} (h : l[p]? = some x) : l.set p x = l:=by
 apply List.ext_getElem?;intro j;rw [List.getElem?_set];split
 · rename_i e;subst e;rw [if_pos (List.getElem?_eq_some_iff.1 h).1,h]
 · rfl
theorem Qx {b p : Nat} (hn : (es.toList.map (·.born)).Nodup) {e : MapEntry} (he : es[p]? = some e) (hb : e.born = b) : es.findIdx? (fun e=>(e.born : Int) == (b : Int)) = some p:=by
 rw [Array.findIdx?_eq_some_iff_getElem];have hp:=(Array.getElem?_eq_some_iff.1 he).1;have hx:=(Array.getElem?_eq_some_iff.1 he).2;refine ⟨hp,by rw [hx,hb];simp,fun j hj=>?_⟩;have hj' : j < es.size:=by omega
 simp only[Bool.not_eq_true,beq_eq_false_iff_ne,ne_eq,Int.natCast_inj];intro hh;have h1 : (es.toList.map (·.born))[j]'(by simpa using hj') = (es.toList.map (·.born))[p]'(by simpa using hp):=by
  simp only[List.getElem_map,Array.getElem_toList];rw [hh,hx,hb]
 have:=(List.getElem_inj hn).1 h1;omega
theorem Um {p : Nat} {e : MapEntry} (he : es[p]? = some e) (k u : Value) (hk : e.key = k) : (es.modify p fun e=>{ e with val:=u }) = es.modify p fun e=>{ e with key:=k,val:=u }:=by
 apply Array.ext_getElem?;intro j;rw [Array.getElem?_modify,Array.getElem?_modify];split
 · rename_i hj;subst hj;rw [he];simp [hk]
 · rfl
theorem aen (hD : bP ek en D es c) {p : Nat} {k : K} {v : V} (hp : D[p]? = some (k,v)) : ∃ e,es[p]? = some e ∧ e.key = ek k ∧ e.val = en v:=by
 have h2:=congrArg (fun L=>L[p]?) hD.cells;simp only[List.getElem?_map,hp,Option.map_some] at h2;rw [Array.getElem?_toList] at h2;cases h3 : es[p]? with
 | none=>rw [h3] at h2;cases h2
 | some x =>
  rw [h3] at h2;simp only[Option.map_some,Option.some.injEq,Jh,Prod.mk.injEq] at h2;exact ⟨x,rfl,h2.1,h2.2⟩
theorem Jm {v0 : V} (hu : P.underlying M = some (.map T E)) (hz : iL P E (en v0)) (kt : nK P T ek) (hM : gC w g es c) (hD : bP ek en D es c) (k : K) :
 ∃ es' c' b,(Instr.mapEntry M (.map (some g)) (ek k)).run P w = .ok (.tuple #[en ((cK D k).getD v0),.int .i64 (b : Nat)]) (setBlock w g (.map es' c')) ∧ bP ek en (eO D k ((cK D k).getD v0)) es' c' ∧ aem ek en D k es' c' b:=by
 unfold gC at hM;cases hf : mE D k 0 with
 | none =>
  obtain ⟨h0,h1,_⟩:=mK D k 0 hf;obtain ⟨inf,hi,hz⟩:=hz;have hzv : (zeroValue E).run P w = .ok (en v0) w:=by simp [zeroValue,typeInfo,program,Sem.run,hi,hz]
  have hP:=hD.push k v0;refine ⟨_,_,c,?_,by rw [h0,h1];exact hP,fun u=>⟨es.size,Qx hP.nd (e:={ key:=ek k,val:=en v0,born:=c }) (by simp) rfl,?_⟩⟩
  · simp only[Instr.mapEntry,Sem.run_bind,run_underlying hu,Result.andThen,getObj,Sem.run,hM,Sem.run_pure,kt.chk,pN kt k w hD,hf,Option.map_none,hzv,run_setObj_map _ hM,h0,Option.getD_none,goInt]
    rfl
  · rw [h1]
    have e : ((es.push { key:=ek k,val:=en v0,born:=c }).modify es.size fun e=>{ e with val:=en u }) = es.push { key:=ek k,val:=en u,born:=c }:=by
     apply Array.ext_getElem?;intro j;rw [Array.getElem?_modify,Array.getElem?_push,Array.getElem?_push];split
     · rename_i hj;subst hj;simp
     · rename_i hj;simp [Ne.symm hj]
    rw [e];exact hD.push k u
 | some p =>
  obtain ⟨j,v⟩:=p;obtain ⟨p,rfl,hp,h0,h1,_⟩:=jR D k 0 j v hf;rw [Nat.zero_add] at hf;obtain ⟨e,he,hk,hv⟩:=aen hD hp;have hk' : ((es[p]?).map (·.key)).getD (ek k) = ek k:=by rw [he];simp [hk]
  have hm : (es.modify p fun e=>{ e with key:=ek k }) = es:=by
   apply Array.ext_getElem?;intro j;rw [Array.getElem?_modify];split
   · rename_i hj;subst hj;rw [he];simp [← hk]
   · rfl
  refine ⟨es,c,e.born,?_,by rw [h0,Option.getD_some,h1,ahF hp];exact hD,fun u=>⟨p,Qx hD.nd he rfl,?_⟩⟩
  · simp only[Instr.mapEntry,Sem.run_bind,run_underlying hu,Result.andThen,getObj,Sem.run,hM,Sem.run_pure,kt.chk,pN kt k w hD,hf,Option.map_some,hk',Instr.keyThatStays,kt.bits,if_true,hm,run_setObj_map _ hM,h0,Option.getD_some,he,hk,kt.bits,if_true,Sem.run_pure,hm,goInt]
    rfl
  · rw [h1,Um he (ek k) (en u) hk]
    exact hD.set hp u
theorem Eo {b : Nat} {k : K} (hM : gC w g es c) (hS : aem ek en D k es c b) (u : V) :
 ∃ es',(Instr.entryStore M (.map (some g)) (.int .i64 (b : Nat)) (en u)).run P w = .ok () (setBlock w g (.map es' c)) ∧ bP ek en (eO D k u) es' c:=by
 obtain ⟨p,hp,hD⟩:=hS u;unfold gC at hM;refine ⟨_,?_,hD⟩;simp only[Instr.entryStore,Sem.run_bind,Result.andThen,getObj,Sem.run,hM,Sem.run_pure,asInt,asIntOf,hp];exact run_setObj_map _ hM
theorem aeo {ds : List Deferred} {l : List Value} {op : Op} {ops : Array Oper} {Q : Exit → Act → World → Prop} {rest : List Oper} {pos : String} {after : Array Edge}
 (h : ∀ o : Oper,o.op = op → ∃ v w',(execOp (Fr l).eval o).run P w = .ok (.value v) w' ∧ wpList P ops Q rest (Fr l ds) w') : wpList P ops Q (Oper.mk none op ty pos after none :: rest) (Fr l ds) w:=by
 refine wpList_plain rfl fun K hK=>?_;unfold Oper.wp;obtain ⟨v,w',hr,hw⟩:=h (Oper.mk none op ty pos after none) rfl;rw [gH,hr];exact hK _ _ hw
variable {is : List It} {ds : List Deferred} {l : List Value} {x y z : Operand} {ops : Array Oper} {Q : Exit → Act → World → Prop} {rest : List Oper} {d : Nat} {pos : String} {after : Array Edge}
theorem sZ {v0 : V} {a : K} (m : Mem w0 w is) (k : Nat) (hk : is[k]? = some (mI g es c)) (hu : P.underlying M = some (.map T E)) (hz : iL P E (en v0)) (kt : nK P T ek) (hx : ev l x = .map (some g)) (hy : ev l y = ek a) (hD : bP ek en D es c)
 (h : ∀ es' c' b u,Mem w0 u (is.set k (mI g es' c')) → bP ek en (eO D a ((cK D a).getD v0)) es' c' → aem ek en D a es' c' b → wpList P ops Q rest (Fr (l.set d (.tuple #[en ((cK D a).getD v0),.int .i64 (b : Nat)])) ds) u) :
 wpList P ops Q (Oper.mk (some d) (.mapEntry M x y) ty pos after none :: rest) (Fr l ds) w:=by
 have hM:=m.p k hk;obtain ⟨es',c',b,hr,hD',hS⟩:=Jm hu hz kt hM hD a;have hC:=lV (w:=w) (g:=g) (.map es' c');refine jN (w':=setBlock w g (.map es' c')) (fun o ho hty=>by simp [execOp,ho,hty,cM,hx,hy,hr]) (h es' c' b _ ?_ hD' hS);exact m.put k hk hC.os hC.tape hC.output (by rw [hC.size];exact Nat.le_refl _) (fun b _ hne=>hC.block b fun e=>hne (by rw [e];rfl)) (gT hM) (.inl fun _ h=>h)
theorem lY {v : V} {a : K} {b : Nat} (m : Mem w0 w is) (k : Nat) (hk : is[k]? = some (mI g es c)) (hx : ev l x = .map (some g)) (hy : ev l y = .int .i64 (b : Nat)) (hz : ev l z = en v) (hS : aem ek en D a es c b)
 (h : ∀ es' u,Mem w0 u (is.set k (mI g es' c)) → bP ek en (eO D a v) es' c → wpList P ops Q rest (Fr l ds) u) : wpList P ops Q (Oper.mk none (.entryStore M x y z) ty pos after none :: rest) (Fr l ds) w:=by
 have hM:=m.p k hk;obtain ⟨es',hr,hD'⟩:=Eo (P:=P) (M:=M) hM hS v;have hC:=lV (w:=w) (g:=g) (.map es' c);refine yP (w':=setBlock w g (.map es' c)) (fun o ho=>by simp [execOp,ho,cM,hx,hy,hz,hr]) (h es' _ ?_ hD');exact m.put k hk hC.os hC.tape hC.output (by rw [hC.size];exact Nat.le_refl _) (fun b _ hne=>hC.block b fun e=>hne (by rw [e];rfl)) (gT hM) (.inl fun _ h=>h)
end
end Go.Lith
namespace Go.Proofs.YtfekpcimgncioaaGreatDoor
open Go.Proofs.Tryz
open Go.RowKit Go.Lith
set_option maxRecDepth 100000
attribute [local irreducible] wpList wpQuiet dB bL cE Code.wp
def nC (n : Nat) : Value:=.int .i64 (n : Int)
theorem Cy {K V : Type} [DecidableEq K] (xs : List (K × V)) (k : K) (v : V) : wL [] (xs ++ [(k,v)]) = eO (wL [] xs) k v:=abu [] xs [(k,v)]
theorem oV {K : Type} [DecidableEq K] (ks : List K) (k : K) : qZ [] (ks ++ [k]) = eO (qZ [] ks) k ((cK (qZ [] ks) k).getD 0 + 1):=abw [] ks [k]
theorem Qy {K : Type} [DecidableEq K] (ks : List K) (k : K) : (cK (qZ [] ks) k).getD 0 = pX ks k:=by rw [Qd];simp [cK]
theorem Ez {K : Type} [DecidableEq K] (ks : List K) (k : K) : (cK (qZ [] ks) k).getD 0 ≤ ks.length:=by rw [Qy];exact List.length_filter_le _ _
theorem ahG {nx : P3 → Option P3} {s a y : P3} {n z : Nat} (h : ¬ a = s) (hb : nx a = some y) : uZ nx s (n + 1) a z = uZ nx s n y (z + 1):=by rw [uZ,if_neg h,hb]
theorem aep {nx : P3 → Option P3} {s a : P3} {n z : Nat} (hb : nx a = none) : uZ nx s n a z = (a,z):=by
 cases n with
 | zero=>rfl
 | succ n=>rw [uZ,hb];split <;> rfl
theorem ahH {nx : P3 → Option P3} {s a : P3} {M z : Nat} (hz : z ≤ M + 1) (h : a = s ∨ ¬ z ≤ M) : uZ nx s (M + 1 - z) a z = (a,z):=by
 rcases h with rfl | h
 · exact abx
 · rw [show M + 1 - z = 0 by omega];rfl
theorem ahI {x y : P3} : (¬ x.x = y.x ∨ ¬ x.y = y.y ∨ ¬ x.z = y.z) ↔ ¬ x = y:=by
 rw [← sO];exact ⟨fun h k=>h.elim (fun h=>h k.1) fun h=>h.elim (fun h=>h k.2.1) fun h=>h k.2.2,fun h=>by
  rcases Classical.em (x.x = y.x) with h1 | h1
  ·
   rcases Classical.em (x.y = y.y) with h2 | h2
   · exact .inr (.inr fun h3=>h ⟨h1,h2,h3⟩)
   · exact .inr (.inl h2)
  · exact .inl h1⟩
theorem ab2 {a s : P3} {z M : Nat} (h : (decide (¬ (a.x = s.x ∧ a.y = s.y ∧ a.z = s.z)) && decide ((z : Int) ≤ (M : Int))) = false) : a = s ∨ ¬ z ≤ M:=by
 rcases Classical.em (a = s) with k | k
 · exact .inl k
 ·
  refine .inr fun k4=>?_;rw [decide_eq_true (mt sO.1 k),decide_eq_true (Int.ofNat_le.2 k4)] at h;cases h
theorem ab3 {ts : List T3} {es : Array MapEntry} {sn : Array Nat} {dn : List (E3 × P3)} (h : kU ed pt (wL [] (iF ts)) es sn dn []) (hnd : (bG ts).Nodup) (hno : ∀ y ∈ dn,¬ Mq ts y.1) (e : E3) : ¬ Mq ts e:=fun he=>by
 obtain ⟨x,hx,_⟩:=id he;have h1 : cK (wL [] (iF ts)) e = some x:=by rw [← hx];exact Av hnd e.1 e.2
 exact hno _ (h.done.mem_iff.2 (uU h1)) he
theorem Ky (ts : List T3) : (dF ts).length = ts.length * 3:=oJ ts
theorem Un {ts : List T3} {N cap : Nat} {A : Option Addr} (w : World) (hT : bY w A N ts) (hN : N ≤ 10000000) (hnd : (bG ts).Nodup) : eG prog 166 [.slice A N cap] w (fun v _=>v = .bool ((dK ts).any (yZ ts))):=by
 refine ⟨agk,?_⟩;have m:=Mem.refl w
 go_enter func166,ntmps166
 refine aD fun K1 k1=>wp_region_lit (aA (aG) (aF (k1 _ _ ?_)));refine aD fun K2 k2=>wp_region_lit ?_;simp only[zz];refine jA m ?_;clear m;intro q8 u m;have hD8:=bP.nil (K:=E3) (V:=P3) ed pt;refine aA (aG) (aF (k2 _ _ ?_));refine aD fun K3 k3=>wp_region_lit ?_;simp only[zz];refine jA m ?_;clear m;intro q9 u m;have hD9:=bP.nil (K:=P3) (V:=Nat) pt nC;refine aA (aG) (aF (k3 _ _ ?_));refine aD fun K4 k4=>aD fun K5 k5=>wp_region_lit (aA (aB) (aA (bH rfl bQ rfl) ?_));simp only[zz];refine aA (aB) (aF (k5 _ _ ?_));refine wp_block ?_;simp only[zz];try simp only[Nat.zero_add,Nat.reduceAdd,Nat.reduceMul,Int.reduceToNat]
 refine bT [18] [6,7,8,19,20,21,22,23,24,25,26,27,28,29,30,31,32,33,34,35,36,37,38,39,40,41,42,43,44,45,46,47] (fun n vs wl=>∃ (k : Nat) (es8 es9 : Array MapEntry) (c8 c9 : Nat),vs = [.int .i64 (k:Int)] ∧ Mem w wl [mI q9 es9 c9,mI q8 es8 c8] ∧ (bP ed pt (wL [] (iF (ts.take k))) es8 c8) ∧ (bP pt nC (qZ [] (dF (ts.take k))) es9 c9) ∧ (k ≤ N) ∧ (n = N - k)) ?_ ?_
 ·
  apply Exists.intro;simp only[zQ,zR,zD,zE];exact ⟨0,_,_,_,_,rfl,m,hD8,hD9,Nat.zero_le _,rfl⟩
 ·
  intro n vs wr hI u;clear m;obtain ⟨k,es8,es9,c8,c9,rfl,m,hD8,hD9,hk,hn⟩:=hI;simp only[zu,zF,zG];refine aD fun K6 k6=>wp_region_lit (aA (cW rfl rfl) (aF (k6 _ _ ?_)));refine aD fun K7 k7=>?_;simp only[zz];refine cG rfl (fun hc1=>?_) (fun hc1=>?_)
  ·
   obtain ⟨t,ht,_,a,rfl,hrow⟩:=hT.get (i:=k) (by omega);have hcl:=Ky (ts.take k);rw [List.length_take] at hcl;refine wp_skip (k7 _ _ ?_);refine aD fun K8 k8=>wp_block (aD fun K9 k9=>wp_region_lit (aA (aN bQ aR rfl rfl (by omega) (by omega) (dC (Int.toNat_natCast _))) ?_));simp only[zz];refine aJ rfl ((hrow.ext m.ext).lies bR aR) ?_;simp only[zz];refine bA m fP rfl ?_;clear m;intro g3 u m;simp only[zz];refine aT m 0 rfl rfl rfl aR (cU rfl) rfl ?_;clear m;intro u m;simp only[zy,zx,bB,zF,zG,Nat.reduceAdd] at m;refine aF (k9 _ _ ?_);refine aD fun K10 k10=>wp_region_lit (aJ rfl ((m.b 0 rfl).full bR aR) ?_);simp only[zz];refine aA (aB) (aF (k10 _ _ ?_));refine wp_block (wp_loop_rounds 4 (bU (aD fun K11 k11=>wp_region_lit (aA (bF (m:=0) (n:=3) rfl rfl (by decide)) (aF (k11 _ _ ?_))))));refine aD fun K12 k12=>bK rfl (wp_skip (k12 _ _ ?_));refine aD fun K13 k13=>wp_block (aD fun K14 k14=>wp_region_lit (aA (aB) (aA (oE rfl rfl) ?_)));simp only[zz];refine bA m bO rfl ?_;clear m;intro g4 u m;refine aA (aG) ?_;simp only[zz];refine aT m 0 rfl rfl rfl aC (cU rfl) rfl ?_;clear m;intro u m;simp only[zy,zx,bB,zF,zG,Nat.reduceAdd] at m;refine aF (k14 _ _ ?_);refine aD fun K15 k15=>?_;refine eA m 13 aM (by kernel_rfl) ?_;simp only[zy];refine aK (aB) ?_;simp only[zz];refine ql rfl (fun u m=>((m.b 0 rfl).full aI aC)) ?_;simp only[zz];refine aK (aB) (aK (aU (m:=0) (n:=1) (r:=1) rfl rfl (by decide)) (aK (gD (m:=1) (n:=3) (r:=1) rfl rfl (by decide) (by decide)) (aK (aH bD aC rfl rfl (by decide) (by decide) rfl) ?_)));simp only[zz];refine ql rfl (fun u m=>((m.b 1 rfl).lies aI aC rfl rfl)) ?_;simp only[zz,zy,Nat.zero_add,Nat.reduceAdd,Nat.reduceMul,Int.reduceToNat];refine aK (fK rfl rfl) (aK (aB) (aK (aU (m:=0) (n:=2) (r:=2) rfl rfl (by decide)) (aK (gD (m:=2) (n:=3) (r:=2) rfl rfl (by decide) (by decide)) ?_)));simp only[zz];refine aK (aH bD aC rfl rfl (by decide) (by decide) rfl) ?_;simp only[zz];refine ql rfl (fun u m=>((m.b 1 rfl).lies aI aC rfl rfl)) ?_;simp only[zz,zy,Nat.zero_add,Nat.reduceAdd,Nat.reduceMul,Int.reduceToNat];refine bZ ?_;clear m;intro u m;refine kD (ek:=ed) (en:=pt) (a:=(t.a,t.b)) (v:=t.c) m 3 rfl Cx vE rfl rfl rfl hD8 ?_;clear m;intro es8 c8 u m hD';clear hD8;have hD8:=hD';clear hD';simp only[zF,zG] at m;rw [← Cy] at hD8;refine aF (k15 _ _ ?_);refine iM m 2 [] [40,41,42,43,44,45] (fun vs i=>∃ (es : Array MapEntry) (c : Nat),vs = [] ∧ i = mI q9 es c ∧ (bP pt nC (qZ [] (((dF (ts.take k)) ++ [t.a]))) es c)) ?_ ?_
   ·
    refine wX m [true,true,false,true] (.take 0 (.take 1 (.two 2 (.take 3 (.one 4 (.take 5 (.one 6 .nil)))) 4 (.take 5 (.one 2 (.take 3 (.one 6 .nil))))))) aM (by kernel_rfl) (cN (fun _ _ _ _ _ h=>h)) ?_;clear m;intro u m;have hb:=Ez (dF (ts.take k)) t.a;try simp only[List.length_append,List.length_cons,List.length_nil] at hb
    refine aZ (by simp only[zw];rfl) (aS (aB) (aY (aZ (by simp only[zw];rfl) ?_)));simp only[zz];refine cI rfl (fun u m=>((m.b 0 rfl).full aI aC)) ?_;simp only[zz];refine aY ?_;refine wV (by simp only[zw];rfl) (by simp only[zw];rfl) ?_ ?_
    ·
     refine eY (dV (ek:=pt) (en:=nC) (k:=t.a) (v0:=0) lB iP fD rfl rfl (m.p 2 rfl) hD9) ?_;simp only[zz];refine aF (⟨m.sel [true,true,false,true],?_⟩);refine aZ (by simp only[zw];rfl) (aS (aU rfl rfl (aV (by omega) (by omega))) (aY (dZ (by simp only[zw];rfl) ?_)));simp only[zz];refine sZ (ek:=pt) (en:=nC) (a:=t.a) (v0:=0) m 2 rfl lB iP fD rfl rfl hD9 ?_;clear m;intro es9 c9 bs u m hD' hS;simp only[zF,zG] at m;refine aF (⟨m.sel [true,true,false,true],?_⟩);refine aZ (by simp only[zw];rfl) (aS (bC rfl rfl) (aY (dZ (by simp only[zw];rfl) ?_)));simp only[zz];refine lY (ek:=pt) (en:=nC) (a:=t.a) (v:=(cK (qZ [] (dF (ts.take k))) t.a).getD 0 + 1) m 2 rfl rfl rfl rfl hS ?_;clear m hD' hS;intro es9 u m hD';clear hD9;have hD9:=hD';clear hD';simp only[zF,zG] at m;rw [← oV] at hD9;refine aF (⟨m.sel [true,true,false,true],?_⟩);refine lH ?_;simp only[Exit.inBlock,Exit.then];refine ⟨_,_,rfl,?_,m,?_⟩
     · simp only[zz,zv]
     ·
      simp only[zQ,zR,zD,zE];exact ⟨_,_,trivial,rfl,hD9⟩
    ·
     refine sZ (ek:=pt) (en:=nC) (a:=t.a) (v0:=0) m 2 rfl lB iP fD rfl rfl hD9 ?_;clear m;intro es9 c9 bs u m hD' hS;simp only[zF,zG] at m;refine aF (⟨m.sel [true,true,false,true],?_⟩);refine aZ (by simp only[zw];rfl) (aS (bC rfl rfl) (aY (dZ (by simp only[zw];rfl) ?_)));simp only[zz];refine eY (dV (ek:=pt) (en:=nC) (k:=t.a) (v0:=0) lB iP fD rfl rfl (m.p 2 rfl) hD') ?_;simp only[zz];rw [jD,if_pos rfl,Option.getD_some];refine aF (⟨m.sel [true,true,false,true],?_⟩);refine aZ (by simp only[zw];rfl) (aS (aU rfl rfl (aV (by omega) (by omega))) (aY (dZ (by simp only[zw];rfl) ?_)));simp only[zz];refine lY (ek:=pt) (en:=nC) (a:=t.a) (v:=(cK (qZ [] (dF (ts.take k))) t.a).getD 0 + 1) m 2 rfl rfl rfl rfl hS ?_;clear m hD' hS;intro es9 u m hD';clear hD9;have hD9:=hD';clear hD';simp only[zF,zG] at m;rw [← oV] at hD9;refine aF (⟨m.sel [true,true,false,true],?_⟩);refine lH ?_;simp only[Exit.inBlock,Exit.then];refine ⟨_,_,rfl,?_,m,?_⟩
     · simp only[zz,zv]
     ·
      simp only[zQ,zR,zD,zE];exact ⟨_,_,trivial,rfl,hD9⟩
   ·
    intro vs i wr m hI u;obtain ⟨es9,c9,rfl,rfl,hD9⟩:=hI;simp only[zF,zG] at m;simp only[zu,zF,zG];refine k13 _ _ (wp_region_lit (aA (aU (m:=0) (n:=1) (r:=1) rfl rfl (by decide)) (aA (aB) (aF (aQ (aD fun K16 k16=>wp_region_lit (aA (bF (m:=1) (n:=3) rfl rfl (by decide)) (aF (k16 _ _ ?_)))))))));refine aD fun K17 k17=>bK rfl (wp_skip (k17 _ _ ?_));refine aD fun K18 k18=>wp_block (aD fun K19 k19=>wp_region_lit (aA (aB) ?_));simp only[zz];refine aA (oF rfl rfl) ?_;simp only[zz];refine bA m bO rfl ?_;clear m;intro g5 u m;refine aA (aG) ?_;simp only[zz];refine aT m 0 rfl rfl rfl aC (cU rfl) rfl ?_;clear m;intro u m;simp only[zy,zx,bB,zF,zG,Nat.reduceAdd] at m;refine aF (k19 _ _ ?_);refine aD fun K20 k20=>?_;refine eA m 13 aM (by kernel_rfl) ?_;simp only[zy];refine aK (aB) ?_;simp only[zz];refine ql rfl (fun u m=>((m.b 0 rfl).full aI aC)) ?_;simp only[zz];refine aK (aB) (aK (aU (m:=1) (n:=1) (r:=2) rfl rfl (by decide)) (aK (gD (m:=2) (n:=3) (r:=2) rfl rfl (by decide) (by decide)) (aK (aH bD aC rfl rfl (by decide) (by decide) rfl) ?_)));simp only[zz];refine ql rfl (fun u m=>((m.b 2 rfl).lies aI aC rfl rfl)) ?_;simp only[zz,zy,Nat.zero_add,Nat.reduceAdd,Nat.reduceMul,Int.reduceToNat];refine aK (fK rfl rfl) (aK (aB) (aK (aU (m:=1) (n:=2) (r:=3) rfl rfl (by decide)) (aK (gD (m:=3) (n:=3) (r:=0) rfl rfl (by decide) (by decide)) ?_)));simp only[zz];refine aK (aH bD aC rfl rfl (by decide) (by decide) rfl) ?_;simp only[zz];refine ql rfl (fun u m=>((m.b 2 rfl).lies aI aC rfl rfl)) ?_;simp only[zz,zy,Nat.zero_add,Nat.reduceAdd,Nat.reduceMul,Int.reduceToNat];refine bZ ?_;clear m;intro u m;refine kD (ek:=ed) (en:=pt) (a:=(t.b,t.c)) (v:=t.a) m 4 rfl Cx vE rfl rfl rfl hD8 ?_;clear m;intro es8 c8 u m hD';clear hD8;have hD8:=hD';clear hD';simp only[zF,zG] at m;rw [← Cy] at hD8;refine aF (k20 _ _ ?_);refine iM m 3 [] [40,41,42,43,44,45] (fun vs i=>∃ (es : Array MapEntry) (c : Nat),vs = [] ∧ i = mI q9 es c ∧ (bP pt nC (qZ [] (((((dF (ts.take k)) ++ [t.a])) ++ [t.b]))) es c)) ?_ ?_
    ·
     refine wX m [true,true,true,false,true] (.take 0 (.take 1 (.two 2 (.take 3 (.one 4 (.take 5 (.one 6 .nil)))) 4 (.take 5 (.one 2 (.take 3 (.one 6 .nil))))))) aM (by kernel_rfl) (cN (fun _ _ _ _ _ h=>h)) ?_;clear m;intro u m;have hb:=Ez (((dF (ts.take k)) ++ [t.a])) t.b;try simp only[List.length_append,List.length_cons,List.length_nil] at hb
     refine aZ (by simp only[zw];rfl) (aS (aB) (aY (aZ (by simp only[zw];rfl) ?_)));simp only[zz];refine cI rfl (fun u m=>((m.b 0 rfl).full aI aC)) ?_;simp only[zz];refine aY ?_;refine wV (by simp only[zw];rfl) (by simp only[zw];rfl) ?_ ?_
     ·
      refine eY (dV (ek:=pt) (en:=nC) (k:=t.b) (v0:=0) lB iP fD rfl rfl (m.p 3 rfl) hD9) ?_;simp only[zz];refine aF (⟨m.sel [true,true,true,false,true],?_⟩);refine aZ (by simp only[zw];rfl) (aS (aU rfl rfl (aV (by omega) (by omega))) (aY (dZ (by simp only[zw];rfl) ?_)));simp only[zz];refine sZ (ek:=pt) (en:=nC) (a:=t.b) (v0:=0) m 3 rfl lB iP fD rfl rfl hD9 ?_;clear m;intro es9 c9 bs u m hD' hS;simp only[zF,zG] at m;refine aF (⟨m.sel [true,true,true,false,true],?_⟩);refine aZ (by simp only[zw];rfl) (aS (bC rfl rfl) (aY (dZ (by simp only[zw];rfl) ?_)));simp only[zz];refine lY (ek:=pt) (en:=nC) (a:=t.b) (v:=(cK (qZ [] (((dF (ts.take k)) ++ [t.a]))) t.b).getD 0 + 1) m 3 rfl rfl rfl rfl hS ?_;clear m hD' hS;intro es9 u m hD';clear hD9;have hD9:=hD';clear hD';simp only[zF,zG] at m;rw [← oV] at hD9;refine aF (⟨m.sel [true,true,true,false,true],?_⟩);refine lH ?_;simp only[Exit.inBlock,Exit.then];refine ⟨_,_,rfl,?_,m,?_⟩
      · simp only[zz,zv]
      ·
       simp only[zQ,zR,zD,zE];exact ⟨_,_,trivial,rfl,hD9⟩
     ·
      refine sZ (ek:=pt) (en:=nC) (a:=t.b) (v0:=0) m 3 rfl lB iP fD rfl rfl hD9 ?_;clear m;intro es9 c9 bs u m hD' hS;simp only[zF,zG] at m;refine aF (⟨m.sel [true,true,true,false,true],?_⟩);refine aZ (by simp only[zw];rfl) (aS (bC rfl rfl) (aY (dZ (by simp only[zw];rfl) ?_)));simp only[zz];refine eY (dV (ek:=pt) (en:=nC) (k:=t.b) (v0:=0) lB iP fD rfl rfl (m.p 3 rfl) hD') ?_;simp only[zz];rw [jD,if_pos rfl,Option.getD_some];refine aF (⟨m.sel [true,true,true,false,true],?_⟩);refine aZ (by simp only[zw];rfl) (aS (aU rfl rfl (aV (by omega) (by omega))) (aY (dZ (by simp only[zw];rfl) ?_)));simp only[zz];refine lY (ek:=pt) (en:=nC) (a:=t.b) (v:=(cK (qZ [] (((dF (ts.take k)) ++ [t.a]))) t.b).getD 0 + 1) m 3 rfl rfl rfl rfl hS ?_;clear m hD' hS;intro es9 u m hD';clear hD9;have hD9:=hD';clear hD';simp only[zF,zG] at m;rw [← oV] at hD9;refine aF (⟨m.sel [true,true,true,false,true],?_⟩);refine lH ?_;simp only[Exit.inBlock,Exit.then];refine ⟨_,_,rfl,?_,m,?_⟩
      · simp only[zz,zv]
      ·
       simp only[zQ,zR,zD,zE];exact ⟨_,_,trivial,rfl,hD9⟩
    ·
     intro vs i wr m hI u;obtain ⟨es9,c9,rfl,rfl,hD9⟩:=hI;simp only[zF,zG] at m;simp only[zu,zF,zG];refine k18 _ _ (wp_region_lit (aA (aU (m:=1) (n:=1) (r:=2) rfl rfl (by decide)) (aA (aB) (aF (aQ (aD fun K21 k21=>wp_region_lit (aA (bF (m:=2) (n:=3) rfl rfl (by decide)) (aF (k21 _ _ ?_)))))))));refine aD fun K22 k22=>bK rfl (wp_skip (k22 _ _ ?_));refine aD fun K23 k23=>wp_block (aD fun K24 k24=>wp_region_lit (aA (aB) ?_));simp only[zz];refine aA (oG rfl rfl) ?_;simp only[zz];refine bA m bO rfl ?_;clear m;intro g6 u m;refine aA (aG) ?_;simp only[zz];refine aT m 0 rfl rfl rfl aC (cU rfl) rfl ?_;clear m;intro u m;simp only[zy,zx,bB,zF,zG,Nat.reduceAdd] at m;refine aF (k24 _ _ ?_);refine aD fun K25 k25=>?_;refine eA m 13 aM (by kernel_rfl) ?_;simp only[zy];refine aK (aB) ?_;simp only[zz];refine ql rfl (fun u m=>((m.b 0 rfl).full aI aC)) ?_;simp only[zz];refine aK (aB) (aK (aU (m:=2) (n:=1) (r:=3) rfl rfl (by decide)) (aK (gD (m:=3) (n:=3) (r:=0) rfl rfl (by decide) (by decide)) (aK (aH bD aC rfl rfl (by decide) (by decide) rfl) ?_)));simp only[zz];refine ql rfl (fun u m=>((m.b 3 rfl).lies aI aC rfl rfl)) ?_;simp only[zz,zy,Nat.zero_add,Nat.reduceAdd,Nat.reduceMul,Int.reduceToNat];refine aK (fK rfl rfl) (aK (aB) (aK (aU (m:=2) (n:=2) (r:=4) rfl rfl (by decide)) (aK (gD (m:=4) (n:=3) (r:=1) rfl rfl (by decide) (by decide)) ?_)));simp only[zz];refine aK (aH bD aC rfl rfl (by decide) (by decide) rfl) ?_;simp only[zz];refine ql rfl (fun u m=>((m.b 3 rfl).lies aI aC rfl rfl)) ?_;simp only[zz,zy,Nat.zero_add,Nat.reduceAdd,Nat.reduceMul,Int.reduceToNat];refine bZ ?_;clear m;intro u m;refine kD (ek:=ed) (en:=pt) (a:=(t.c,t.a)) (v:=t.b) m 5 rfl Cx vE rfl rfl rfl hD8 ?_;clear m;intro es8 c8 u m hD';clear hD8;have hD8:=hD';clear hD';simp only[zF,zG] at m;rw [← Cy] at hD8;refine aF (k25 _ _ ?_);refine iM m 4 [] [40,41,42,43,44,45] (fun vs i=>∃ (es : Array MapEntry) (c : Nat),vs = [] ∧ i = mI q9 es c ∧ (bP pt nC (qZ [] (((((((dF (ts.take k)) ++ [t.a])) ++ [t.b])) ++ [t.c]))) es c)) ?_ ?_
     ·
      refine wX m [true,true,true,true,false,true] (.take 0 (.take 1 (.two 2 (.take 3 (.one 4 (.take 5 (.one 6 .nil)))) 4 (.take 5 (.one 2 (.take 3 (.one 6 .nil))))))) aM (by kernel_rfl) (cN (fun _ _ _ _ _ h=>h)) ?_;clear m;intro u m;have hb:=Ez (((((dF (ts.take k)) ++ [t.a])) ++ [t.b])) t.c;try simp only[List.length_append,List.length_cons,List.length_nil] at hb
      refine aZ (by simp only[zw];rfl) (aS (aB) (aY (aZ (by simp only[zw];rfl) ?_)));simp only[zz];refine cI rfl (fun u m=>((m.b 0 rfl).full aI aC)) ?_;simp only[zz];refine aY ?_;refine wV (by simp only[zw];rfl) (by simp only[zw];rfl) ?_ ?_
      ·
       refine eY (dV (ek:=pt) (en:=nC) (k:=t.c) (v0:=0) lB iP fD rfl rfl (m.p 4 rfl) hD9) ?_;simp only[zz];refine aF (⟨m.sel [true,true,true,true,false,true],?_⟩);refine aZ (by simp only[zw];rfl) (aS (aU rfl rfl (aV (by omega) (by omega))) (aY (dZ (by simp only[zw];rfl) ?_)));simp only[zz];refine sZ (ek:=pt) (en:=nC) (a:=t.c) (v0:=0) m 4 rfl lB iP fD rfl rfl hD9 ?_;clear m;intro es9 c9 bs u m hD' hS;simp only[zF,zG] at m;refine aF (⟨m.sel [true,true,true,true,false,true],?_⟩);refine aZ (by simp only[zw];rfl) (aS (bC rfl rfl) (aY (dZ (by simp only[zw];rfl) ?_)));simp only[zz];refine lY (ek:=pt) (en:=nC) (a:=t.c) (v:=(cK (qZ [] (((((dF (ts.take k)) ++ [t.a])) ++ [t.b]))) t.c).getD 0 + 1) m 4 rfl rfl rfl rfl hS ?_;clear m hD' hS;intro es9 u m hD';clear hD9;have hD9:=hD';clear hD';simp only[zF,zG] at m;rw [← oV] at hD9;refine aF (⟨m.sel [true,true,true,true,false,true],?_⟩);refine lH ?_;simp only[Exit.inBlock,Exit.then];refine ⟨_,_,rfl,?_,m,?_⟩
       · simp only[zz,zv]
       ·
        simp only[zQ,zR,zD,zE];exact ⟨_,_,trivial,rfl,hD9⟩
      ·
       refine sZ (ek:=pt) (en:=nC) (a:=t.c) (v0:=0) m 4 rfl lB iP fD rfl rfl hD9 ?_;clear m;intro es9 c9 bs u m hD' hS;simp only[zF,zG] at m;refine aF (⟨m.sel [true,true,true,true,false,true],?_⟩);refine aZ (by simp only[zw];rfl) (aS (bC rfl rfl) (aY (dZ (by simp only[zw];rfl) ?_)));simp only[zz];refine eY (dV (ek:=pt) (en:=nC) (k:=t.c) (v0:=0) lB iP fD rfl rfl (m.p 4 rfl) hD') ?_;simp only[zz];rw [jD,if_pos rfl,Option.getD_some];refine aF (⟨m.sel [true,true,true,true,false,true],?_⟩);refine aZ (by simp only[zw];rfl) (aS (aU rfl rfl (aV (by omega) (by omega))) (aY (dZ (by simp only[zw];rfl) ?_)));simp only[zz];refine lY (ek:=pt) (en:=nC) (a:=t.c) (v:=(cK (qZ [] (((((dF (ts.take k)) ++ [t.a])) ++ [t.b]))) t.c).getD 0 + 1) m 4 rfl rfl rfl rfl hS ?_;clear m hD' hS;intro es9 u m hD';clear hD9;have hD9:=hD';clear hD';simp only[zF,zG] at m;rw [← oV] at hD9;refine aF (⟨m.sel [true,true,true,true,false,true],?_⟩);refine lH ?_;simp only[Exit.inBlock,Exit.then];refine ⟨_,_,rfl,?_,m,?_⟩
       · simp only[zz,zv]
       ·
        simp only[zQ,zR,zD,zE];exact ⟨_,_,trivial,rfl,hD9⟩
     ·
      intro vs i wr m hI u;obtain ⟨es9,c9,rfl,rfl,hD9⟩:=hI;simp only[zF,zG] at m;simp only[zu,zF,zG];refine k23 _ _ (wp_region_lit (aA (aU (m:=2) (n:=1) (r:=3) rfl rfl (by decide)) (aA (aB) (aF (aQ (aD fun K26 k26=>wp_region_lit (aA (dM (m:=3) (n:=3) rfl rfl (by decide)) (aF (k26 _ _ ?_)))))))));refine aD fun K27 k27=>gA rfl (wp_exit (k8 _ _ ?_));refine wp_region_lit ?_;simp only[zz];refine aA (aU rfl rfl (aV (by omega) (by omega))) (aA (aB) (aF ?_));simp only[zz];simp only[Exit.inBlock,Exit.then];refine ⟨N - (k + 1),_,?_,rfl,?_,?_⟩
      · omega
      · simp only[zz,zv]
      ·
       simp only[zQ,zR,zD,zE];exact ⟨k + 1,_,_,_,_,rfl,(m.sel [false,false,false,false,true,true]),by rw [Tx ht];simpa [List.append_assoc] using hD8,by rw [Gu ht];simpa [List.append_assoc] using hD9,by omega,rfl⟩
  ·
   have hkN : k = N:=by omega
   rw [hkN,show ts.take N = ts from List.take_of_length_le (by rw [hT.len];exact Nat.le_refl _)] at hD8 hD9;refine wp_exit (k4 _ _ ?_);refine aD fun K28 k28=>aD fun K29 k29=>wp_region_lit (aA (aB) ?_);simp only[zz];refine qY m Cx rfl (m.p 1 rfl) ?_;clear m;intro r1 u m;refine aF (k29 _ _ ?_);refine wp_block ?_;simp only[zz];try simp only[Nat.zero_add,Nat.reduceAdd,Nat.reduceMul,Int.reduceToNat]
   refine bT [] [2,9,10,11,12,13,50,51,52,53,54,55,56,57,58,59,60,61,62,63,64,65,66,67,68,69,70,71,72,73,74,75,76,77,78,79,80,81,82,83,84,85,86,87,88,89,90,91,92,93,94] (fun n vs wl=>∃ (dn rs : List (E3 × P3)) (sn : Array Nat),vs = [] ∧ Mem w wl [iI r1 q8 c8 sn,mI q9 es9 c9,mI q8 es8 c8] ∧ (kU ed pt (wL [] (iF ts)) es8 sn dn rs) ∧ (∀ y ∈ dn,¬ Mq ts y.1) ∧ (n = rs.length)) ?_ ?_
   ·
    apply Exists.intro;simp only[zQ,zR,zD,zE];exact ⟨[],_,#[],trivial,m,kU.start hD8,fun _ h=>(by cases h),rfl⟩
   ·
    intro n vs wr hI u;clear m;obtain ⟨dn,rs,sn,rfl,m,hT1,hno,hn⟩:=hI;simp only[zu,zF,zG];refine aD fun K30 k30=>wp_region_lit (Dt m 0 rfl rfl (m.p 2 rfl) hD8 hT1 ?_);clear m;intro bb kk vv sn u m hN;simp only[zF,zG] at m;refine aA (lW rfl) (aF (k30 _ _ ?_));refine aD fun K31 k31=>?_;simp only[zz];refine eD rfl (fun hc3=>?_) (fun hc3=>?_)
    ·
     obtain ⟨kp,kb,rs2,hp,hT2⟩:=Aq hc3 hN;obtain ⟨x,hx⟩ : ∃ x,cK (wL [] (iF ts)) kp = some x:=by
      cases h : cK (wL [] (iF ts)) kp with
      | some x=>exact ⟨x,rfl⟩
      | none =>
       refine absurd ?_ (lI.1 h);have h1:=hT2.1.mem_iff (a:=(kp,kb));exact List.mem_map.2 ⟨_,h1.1 (by simp),rfl⟩
     have hkx : bX ts kp.1 kp.2 = some x:=by rw [← Av hnd];exact hx
     obtain ⟨M,hM⟩ : ∃ M,M = pX (dF ts) kp.1:=⟨_,rfl⟩
     have hmM : (cK (qZ [] (dF ts)) kp.1).getD 0 = M:=by rw [Qy,hM]
     have hMl : M ≤ 30000000:=by have h1:=Ez (dF ts) kp.1;rw [hmM,Ky,hT.len] at h1;omega
     refine wp_skip (k31 _ _ ?_);refine wp_block (aD fun K32 k32=>wp_region_lit (eY (oH rfl (m.r 0 rfl) (m.p 2 rfl) hD8 hT2) ?_));simp only[zz];refine aA (bC rfl rfl) ?_;simp only[zz];refine bA m lU rfl ?_;clear m;intro g4 u m;simp only[zz];refine aT m 0 rfl rfl rfl dO (cU rfl) rfl ?_;clear m;intro u m;simp only[zy,zx,bB,zF,zG,Nat.reduceAdd] at m;refine aF (k32 _ _ ?_);refine aD fun K33 k33=>wp_region_lit (aA (aG) (aF (k33 _ _ ?_)));refine aD fun K34 k34=>wp_region_lit (aA (aB) ?_);simp only[zz];refine aJ rfl ((m.b 0 rfl).full iX dO) ?_;simp only[zz];refine eY (dV (ek:=ed) (en:=pt) (k:=kp) (v0:=⟨0,0,0⟩) Cx bO vE rfl rfl (m.p 3 rfl) hD8) ?_;simp only[zz];refine bA m bO rfl ?_;clear m;intro g5 u m;simp only[zz];refine aT m 0 rfl rfl rfl aC (cU rfl) rfl ?_;clear m;intro u m;simp only[zy,zx,bB,zF,zG,Nat.reduceAdd] at m;refine aF ?_;rw [hx] at m;simp only[Option.getD_some] at m;refine k34 _ _ ?_;refine aD fun K35 k35=>wp_block ?_;try simp only[Nat.zero_add,Nat.reduceAdd,Nat.reduceMul,Int.reduceToNat]
     refine bT [10] [12,13,57,58,59,60,61,62,63,64,65,66,67,68,69,70,71,72,73,74,75,76,77,78,79,80,81,82] (fun n vs wl=>∃ (z : Nat) (a : P3),vs = [.int .i64 (z:Int)] ∧ Mem w wl [bI g5 (mW a) 30,bI g4 (dT kp) 215,iI r1 q8 c8 sn,mI q9 es9 c9,mI q8 es8 c8] ∧ (uZ (bX ts kp.1) kp.2 M x 1 = uZ (bX ts kp.1) kp.2 (M + 1 - z) a z) ∧ (1 ≤ z) ∧ (z ≤ M + 1) ∧ (n = M + 1 - z)) ?_ ?_
     ·
      apply Exists.intro;simp only[zQ,zR,zD,zE];exact ⟨1,x,rfl,m,rfl,Nat.le_refl _,by omega,rfl⟩
     ·
      intro n vs wr hI u;clear m;obtain ⟨z,a,rfl,m,hrun,hz1,hz2,hn4⟩:=hI;simp only[zu,zF,zG];refine aD fun K36 k36=>aD fun K37 k37=>wp_region_lit (aJ rfl ((m.b 0 rfl).full aI aC) ?_);simp only[zz];refine aA (aL (c:=2) iO rfl aC rfl rfl) ?_;simp only[zz];refine aJ rfl ((m.b 1 rfl).lies aI aC rfl rfl) ?_;simp only[zz,zy,Nat.zero_add,Nat.reduceAdd,Nat.reduceMul,Int.reduceToNat];refine aA (gE rfl rfl) (aA (aB) (jF rfl (fun hb=>aB) (jF rfl (fun hb=>aB) ?_)));simp only[zz];refine jF rfl (fun hb=>aL (c:=2) iO rfl aC rfl rfl) ?_;simp only[zz];refine gK rfl (fun hb=>bJ (bW hb rfl) ((m.b 1 rfl).lies aI aC rfl rfl)) ?_;simp only[zz,zy,Nat.zero_add,Nat.reduceAdd,Nat.reduceMul,Int.reduceToNat];refine gK rfl (fun hb=>dV (ek:=pt) (en:=nC) (k:=kp.1) (v0:=0) lB iP fD (bW hb rfl) (bW hb rfl) (m.p 3 rfl) hD9) ?_;simp only[zz];refine jF rfl (fun hb=>aaD (bW hb rfl) (bW hb rfl)) (aA (eS rfl rfl rfl) (aF (k37 _ _ ?_)));simp only[zz];refine eD rfl (fun hc4=>?_) (fun hc4=>?_)
      ·
       have hs : ¬ a = kp.2 ∧ z ≤ M:=by rw [hmM] at hc4;simpa [ahI] using hc4
       refine wp_skip (k36 _ _ ?_);refine wp_block (aD fun K38 k38=>wp_region_lit (aA (aB) (aA (aL (c:=2) iO rfl aC rfl rfl) ?_)));simp only[zz];refine aJ rfl ((m.b 1 rfl).lies aI aC rfl rfl) ?_;simp only[zz,zy,Nat.zero_add,Nat.reduceAdd,Nat.reduceMul,Int.reduceToNat];refine aJ rfl ((m.b 0 rfl).full aI aC) ?_;simp only[zz];refine aA (fK rfl rfl) ?_;simp only[zz];refine eY (Kn (ek:=ed) (en:=pt) (k:=(kp.1,a)) (v0:=⟨0,0,0⟩) Cx bO vE rfl rfl (m.p 4 rfl) hD8) ?_;simp only[zz];refine aA (aB) (aA (bC rfl rfl) (aA (bC rfl rfl) ?_));simp only[zz];refine bA m bO rfl ?_;clear m;intro g6 u m;simp only[zz];refine aT m 0 rfl rfl rfl aC (cU rfl) rfl ?_;clear m;intro u m;simp only[zy,zx,bB,zF,zG,Nat.reduceAdd] at m;refine aA (aG) (aF (k38 _ _ ?_));refine aD fun K39 k39=>aD fun K40 k40=>wp_region_lit (aA (aB) (aA (fR rfl) (aF (k40 _ _ ?_))));simp only[zz];refine eD rfl (fun hc5=>?_) (fun hc5=>?_)
       ·
        have hyn : bX ts kp.1 a = none:=by rw [← Av hnd];simpa using hc5
        have hfin:=hrun.trans (aep hyn);refine wp_exit (k35 _ _ ?_);refine aD fun K41 k41=>wp_region_lit (aJ rfl ((m.b 1 rfl).full aI aC) ?_);simp only[zz];refine aA (aL (c:=2) iO rfl aC rfl rfl) ?_;simp only[zz];refine aJ rfl ((m.b 2 rfl).lies aI aC rfl rfl) ?_;simp only[zz,zy,Nat.zero_add,Nat.reduceAdd,Nat.reduceMul,Int.reduceToNat];refine aA (cV rfl rfl) (aA (aB) (jF rfl (fun hb=>aB) (jF rfl (fun hb=>aB) ?_)));simp only[zz];refine jF rfl (fun hb=>aL (c:=2) iO rfl aC rfl rfl) ?_;simp only[zz];refine gK rfl (fun hb=>bJ (bW hb rfl) ((m.b 2 rfl).lies aI aC rfl rfl)) ?_;simp only[zz,zy,Nat.zero_add,Nat.reduceAdd,Nat.reduceMul,Int.reduceToNat];refine gK rfl (fun hb=>dV (ek:=pt) (en:=nC) (k:=kp.1) (v0:=0) lB iP fD (bW hb rfl) (bW hb rfl) (m.p 4 rfl) hD9) ?_;simp only[zz];refine jF rfl (fun hb=>cW (bW hb rfl) (bW hb rfl)) (aA (eS rfl rfl rfl) (aF (k41 _ _ ?_)));simp only[zz];refine eD rfl (fun hc6=>?_) (fun hc6=>?_)
        ·
         have hs : a = kp.2 ∧ z < M:=by rw [hmM] at hc6;simpa [← sO] using hc6
         refine aD fun K42 k42=>wp_region_lit (aA (aG) (aF (k42 _ _ ?_)));refine wp_ret ?_;simp only[zz];try simp only[Exit.inBlock,Exit.then,if_true]
         refine bE rfl rfl ?_;try simp only[zD,zE]
         exact ⟨_,rfl,m.ext,by have hp : Mq ts kp:=⟨x,hkx,by rw [Nat.add_sub_cancel,← hM,hfin];exact hs.1,by rw [Nat.add_sub_cancel,← hM,hfin];exact hs.2⟩;rw [pinned.2 ⟨kp,hp⟩]⟩
        ·
         have hs : ¬ (a = kp.2 ∧ z < M):=by rw [hmM] at hc6;simpa [← sO] using hc6
         have hno2 : ∀ y ∈ dn ++ [(kp,kb)],¬ Mq ts y.1:=fun y hy=>by
          rcases List.mem_append.1 hy with hy | hy
          · exact hno y hy
          ·
           obtain rfl:=List.mem_singleton.1 hy;rintro ⟨x2,h1,h2,h3⟩;obtain rfl : x = x2:=Option.some.inj (hkx.symm.trans h1);rw [Nat.add_sub_cancel,← hM,hfin] at h2 h3;exact hs ⟨h2,h3⟩
         refine wp_skip ?_;simp only[Exit.inBlock,Exit.then];refine ⟨rs2.length,_,?_,rfl,?_,?_⟩
         · rw [hn,hp.length_eq];exact Nat.lt_succ_self _
         · simp only[zz,zv]
         ·
          simp only[zQ,zR,zD,zE];exact ⟨dn ++ [(kp,kb)],rs2,_,trivial,(m.sel [false,false,false,true,true,true]),hT2,hno2,rfl⟩
       ·
        obtain ⟨y,hy⟩ : ∃ y,cK (wL [] (iF ts)) (kp.1,a) = some y:=by
         cases h : cK (wL [] (iF ts)) (kp.1,a) with
         | some y=>exact ⟨y,rfl⟩
         | none=>rw [h] at hc5;cases hc5
        have hya : bX ts kp.1 a = some y:=by rw [← Av hnd];exact hy
        rw [hy] at m;simp only[Option.getD_some] at m;refine wp_skip (k39 _ _ ?_);refine aD fun K43 k43=>wp_region_lit (aJ rfl ((m.b 0 rfl).full aI aC) ?_);simp only[zz];refine aT m 1 rfl rfl rfl aC (cU rfl) rfl ?_;clear m;intro u m;simp only[zy,zx,bB,zF,zG,Nat.reduceAdd] at m;refine aF (k43 _ _ ?_);refine wp_region_lit (aA (aB) ?_);simp only[zz];refine aA (aU rfl rfl (aV (by omega) (by omega))) (aA (aG) (aF ?_));simp only[zz];simp only[Exit.inBlock,Exit.then];refine ⟨M + 1 - (z + 1),_,?_,rfl,?_,?_⟩
        · omega
        · simp only[zz,zv]
        ·
         simp only[zQ,zR,zD,zE];exact ⟨z + 1,y,rfl,(m.sel [false,true,true,true,true,true]),by rw [hrun,show M + 1 - z = (M + 1 - (z + 1)) + 1 by omega,ahG hs.1 hya],by omega,by omega,rfl⟩
      ·
       have hs0 : a = kp.2 ∨ ¬ z ≤ M:=by rw [hmM] at hc4;exact ab2 hc4
       have hfin:=hrun.trans (ahH hz2 hs0);refine wp_exit (k35 _ _ ?_);refine aD fun K44 k44=>wp_region_lit (aJ rfl ((m.b 0 rfl).full aI aC) ?_);simp only[zz];refine aA (aL (c:=2) iO rfl aC rfl rfl) ?_;simp only[zz];refine aJ rfl ((m.b 1 rfl).lies aI aC rfl rfl) ?_;simp only[zz,zy,Nat.zero_add,Nat.reduceAdd,Nat.reduceMul,Int.reduceToNat];refine aA (cV rfl rfl) (aA (aB) (jF rfl (fun hb=>aB) (jF rfl (fun hb=>aB) ?_)));simp only[zz];refine jF rfl (fun hb=>aL (c:=2) iO rfl aC rfl rfl) ?_;simp only[zz];refine gK rfl (fun hb=>bJ (bW hb rfl) ((m.b 1 rfl).lies aI aC rfl rfl)) ?_;simp only[zz,zy,Nat.zero_add,Nat.reduceAdd,Nat.reduceMul,Int.reduceToNat];refine gK rfl (fun hb=>dV (ek:=pt) (en:=nC) (k:=kp.1) (v0:=0) lB iP fD (bW hb rfl) (bW hb rfl) (m.p 3 rfl) hD9) ?_;simp only[zz];refine jF rfl (fun hb=>cW (bW hb rfl) (bW hb rfl)) (aA (eS rfl rfl rfl) (aF (k44 _ _ ?_)));simp only[zz];refine eD rfl (fun hc6=>?_) (fun hc6=>?_)
       ·
        have hs : a = kp.2 ∧ z < M:=by rw [hmM] at hc6;simpa [← sO] using hc6
        refine aD fun K45 k45=>wp_region_lit (aA (aG) (aF (k45 _ _ ?_)));refine wp_ret ?_;simp only[zz];try simp only[Exit.inBlock,Exit.then,if_true]
        refine bE rfl rfl ?_;try simp only[zD,zE]
        exact ⟨_,rfl,m.ext,by have hp : Mq ts kp:=⟨x,hkx,by rw [Nat.add_sub_cancel,← hM,hfin];exact hs.1,by rw [Nat.add_sub_cancel,← hM,hfin];exact hs.2⟩;rw [pinned.2 ⟨kp,hp⟩]⟩
       ·
        have hs : ¬ (a = kp.2 ∧ z < M):=by rw [hmM] at hc6;simpa [← sO] using hc6
        have hno2 : ∀ y ∈ dn ++ [(kp,kb)],¬ Mq ts y.1:=fun y hy=>by
         rcases List.mem_append.1 hy with hy | hy
         · exact hno y hy
         ·
          obtain rfl:=List.mem_singleton.1 hy;rintro ⟨x2,h1,h2,h3⟩;obtain rfl : x = x2:=Option.some.inj (hkx.symm.trans h1);rw [Nat.add_sub_cancel,← hM,hfin] at h2 h3;exact hs ⟨h2,h3⟩
        refine wp_skip ?_;simp only[Exit.inBlock,Exit.then];refine ⟨rs2.length,_,?_,rfl,?_,?_⟩
        · rw [hn,hp.length_eq];exact Nat.lt_succ_self _
        · simp only[zz,zv]
        ·
         simp only[zQ,zR,zD,zE];exact ⟨dn ++ [(kp,kb)],rs2,_,trivial,(m.sel [false,false,true,true,true]),hT2,hno2,rfl⟩
    ·
     obtain rfl:=An hc3 hN;refine wp_exit (k28 _ _ ?_);refine aD fun K46 k46=>wp_region_lit (aA (aG) (aF (k46 _ _ ?_)));refine wp_ret ?_;simp only[zz];try simp only[Exit.inBlock,Exit.then,if_true]
     refine bE rfl rfl ?_;try simp only[zD,zE]
     exact ⟨_,rfl,m.ext,by cases h : (dK ts).any (yZ ts) with | false=>rfl | true=>(obtain ⟨e,he⟩:=pinned.1 h;exact absurd he (ab3 hT1 hnd hno e))⟩
theorem aeq {ts : List T3} (h : ¬ (bG ts).Nodup) : (bG ts).any (fun e=>decide (1 < kH (bG ts) e)) = true:=by rw [Au];exact decide_eq_true h
theorem ab4 {ts : List T3} (h : (bG ts).Nodup) : (bG ts).any (fun e=>decide (1 < kH (bG ts) e)) = false:=by rw [Au];exact decide_eq_false fun k=>k h
theorem ab5 {ts : List T3} {N cap : Nat} {A : Option Addr} (w : World) (hT : bY w A N ts) (hN : N ≤ 10000000) : eG prog 97 [.slice A N cap,.bool true] w (fun v _=>v = .int .i64 (eV true ts)):=by
 refine ⟨ajt,?_⟩;have m:=Mem.refl w
 go_enter func97,ntmps97
 refine aD fun K1 k1=>wp_region_lit (aA (aG) (aF (k1 _ _ ?_)));refine aD fun K2 k2=>aD fun K3 k3=>wp_region_lit (aA (aB) (aA (bH rfl bQ rfl) (aA (aB) ?_)));simp only[zz];refine aF (k3 _ _ ?_);refine wp_block ?_;try simp only[Nat.zero_add,Nat.reduceAdd,Nat.reduceMul,Int.reduceToNat]
 refine bT [11] [4,6,12,13,14,15,16,17,18,19,20,21,22,23,24,25,26,27,28,29,30,31,32,33,34] (fun n vs wl=>∃ (k : Nat),vs = [.int .i64 (k:Int)] ∧ Mem w wl [] ∧ ((ts.take k).any nG = false) ∧ (k ≤ N) ∧ (n = N - k)) ?_ ?_
 ·
  apply Exists.intro;simp only[zQ,zR,zD,zE];exact ⟨0,rfl,m,rfl,Nat.zero_le _,rfl⟩
 ·
  intro n vs wr hI u;clear m;obtain ⟨k,rfl,m,hd0,hk,hn⟩:=hI;simp only[zu,zF,zG];refine aD fun K4 k4=>wp_region_lit (aA (cW rfl rfl) (aF (k4 _ _ ?_)));refine aD fun K5 k5=>?_;simp only[zz];refine cG rfl (fun hc1=>?_) (fun hc1=>?_)
  ·
   obtain ⟨t,ht,_,a,rfl,hrow⟩:=hT.get (i:=k) (by omega);refine wp_skip (k5 _ _ ?_);refine aD fun K6 k6=>wp_block (aD fun K7 k7=>wp_region_lit (aA (aN bQ aR rfl rfl (by omega) (by omega) (dC (Int.toNat_natCast _))) ?_));simp only[zz];refine aJ rfl ((hrow.ext m.ext).lies bR aR) ?_;simp only[zz];refine bA m fP rfl ?_;clear m;intro g1 u m;simp only[zz];refine aT m 0 rfl rfl rfl aR (cU rfl) rfl ?_;clear m;intro u m;simp only[zy,zx,bB,zF,zG,Nat.reduceAdd] at m;refine aF (k7 _ _ ?_);refine aD fun K8 k8=>wp_region_lit (aA (aH bD aC rfl rfl (by decide) (by decide) rfl) ?_);simp only[zz];refine aJ rfl ((m.b 0 rfl).lies aI aC rfl rfl) ?_;simp only[zz,zy,Nat.zero_add,Nat.reduceAdd,Nat.reduceMul,Int.reduceToNat];refine aA (aH bD aC rfl rfl (by decide) (by decide) rfl) ?_;simp only[zz];refine aJ rfl ((m.b 0 rfl).lies aI aC rfl rfl) ?_;simp only[zz,zy,Nat.zero_add,Nat.reduceAdd,Nat.reduceMul,Int.reduceToNat];refine aA (cV rfl rfl) (aA (aB) (fU rfl (fun hb=>aH bD aC rfl rfl (by decide) (by decide) rfl) ?_));simp only[zz];refine eW rfl (fun hb=>bJ (bW hb rfl) ((m.b 0 rfl).lies aI aC rfl rfl)) ?_;simp only[zz,zy,Nat.zero_add,Nat.reduceAdd,Nat.reduceMul,Int.reduceToNat];refine fU rfl (fun hb=>aH bD aC rfl rfl (by decide) (by decide) rfl) ?_;simp only[zz];refine eW rfl (fun hb=>bJ (bW hb rfl) ((m.b 0 rfl).lies aI aC rfl rfl)) ?_;simp only[zz,zy,Nat.zero_add,Nat.reduceAdd,Nat.reduceMul,Int.reduceToNat];refine fU rfl (fun hb=>cV (bW hb rfl) (bW hb rfl)) (aA (fH rfl rfl rfl) (aA (aB) (fU rfl (fun hb=>aH bD aC rfl rfl (by decide) (by decide) rfl) ?_)));simp only[zz];refine eW rfl (fun hb=>bJ (bW hb rfl) ((m.b 0 rfl).lies aI aC rfl rfl)) ?_;simp only[zz,zy,Nat.zero_add,Nat.reduceAdd,Nat.reduceMul,Int.reduceToNat];refine fU rfl (fun hb=>aH bD aC rfl rfl (by decide) (by decide) rfl) ?_;simp only[zz];refine eW rfl (fun hb=>bJ (bW hb rfl) ((m.b 0 rfl).lies aI aC rfl rfl)) ?_;simp only[zz,zy,Nat.zero_add,Nat.reduceAdd,Nat.reduceMul,Int.reduceToNat];refine fU rfl (fun hb=>cV (bW hb rfl) (bW hb rfl)) (aA (fH rfl rfl rfl) (aF (k8 _ _ ?_)));simp only[zz];refine jO rfl (fun hc2=>?_) (fun hc2=>?_)
   ·
    have hd:=zW (p:=nG) ht (Md.symm.trans hc2);refine aD fun K9 k9=>wp_region_lit (aA (aG) (aF (k9 _ _ ?_)));refine wp_ret ?_;simp only[zz];try simp only[Exit.inBlock,Exit.then,if_true]
    refine bE rfl rfl ?_;try simp only[zD,zE]
    exact ⟨_,rfl,m.ext,by rw [Wt hd]⟩
   ·
    have hd1 : (ts.take (k + 1)).any nG = false:=by rw [rR ht,hd0,← Md];exact hc2
    refine wp_skip (k6 _ _ ?_);refine wp_region_lit (aA (aU rfl rfl (aV (by omega) (by omega))) (aA (aB) (aF ?_)));simp only[zz];simp only[Exit.inBlock,Exit.then];refine ⟨N - (k + 1),_,?_,rfl,?_,?_⟩
    · omega
    · simp only[zz,zv]
    ·
     simp only[zQ,zR,zD,zE];exact ⟨k + 1,rfl,(m.sel [false]),hd1,by omega,rfl⟩
  ·
   have hkN : k = N:=by omega
   rw [hkN,show ts.take N = ts from List.take_of_length_le (by rw [hT.len];exact Nat.le_refl _)] at hd0;refine wp_exit (k2 _ _ ?_);refine aD fun K10 k10=>wp_region_lit (aA (aB) ?_);simp only[zz];refine cD rfl rfl (Hn _ (hT.ext m.ext) hN) ?_;rintro v u e ⟨g8,es8,c8,rfl,hM,hD8⟩;replace m:=m.plus hM;clear hM e;simp only[List.cons_append,List.nil_append] at m;refine aA (aB) (aA (bC rfl rfl) (aA (bC rfl rfl) ?_));simp only[zz];refine aA (aG) (aA (aG) (aF (k10 _ _ ?_)));refine aD fun K11 k11=>wp_block (aD fun K12 k12=>wp_region_lit (aA (aB) (aA (fR rfl) ?_)));simp only[zz];refine aA (aG) (aF (k12 _ _ ?_));simp only[zz];refine eD rfl (fun hc3=>?_) (fun hc3=>?_)
   ·
    have hnd : ¬ (bG ts).Nodup:=by simpa using hc3
    refine aD fun K13 k13=>wp_region_lit (aA (aG) (aF (k13 _ _ ?_)));refine wp_ret ?_;simp only[zz];try simp only[Exit.inBlock,Exit.then,if_true]
    refine bE rfl rfl ?_;try simp only[zD,zE]
    exact ⟨_,rfl,m.ext,by rw [Wu hd0 (aeq hnd)]⟩
   ·
    have hnd : (bG ts).Nodup:=by simpa using hc3
    refine aD fun K14 k14=>wp_region_lit (aA (aB) (aA (fR rfl) (aA (aB) (dY rfl ?_))));simp only[zz];refine dY rfl (dY rfl (dY rfl (aA (iB rfl) ?_)));simp only[zz];refine aA (aG) (aF (k14 _ _ ?_));refine gA rfl (aD fun K15 k15=>wp_region_lit (aA (aB) ?_));simp only[zz];refine eE m rfl rfl (Un _ (hT.ext m.ext) hN hnd) ?_;clear m;rintro v u m rfl;refine aA (aG) (aF (k15 _ _ ?_));simp only[zz];refine eD rfl (fun hc5=>?_) (fun hc5=>?_)
    ·
     refine aD fun K16 k16=>wp_region_lit (aA (aG) (aF (k16 _ _ ?_)));refine wp_ret ?_;simp only[zz];try simp only[Exit.inBlock,Exit.then,if_true]
     refine bE rfl rfl ?_;try simp only[zD,zE]
     exact ⟨_,rfl,m.ext,by rw [Wv hd0 (ab4 hnd) rfl hc5]⟩
    ·
     refine wp_skip (k11 _ _ ?_);refine aD fun K17 k17=>wp_region_lit (aA (aG) (aF (k17 _ _ ?_)));refine wp_ret ?_;simp only[zz];try simp only[Exit.inBlock,Exit.then,if_true]
     refine bE rfl rfl ?_;try simp only[zD,zE]
     exact ⟨_,rfl,m.ext,by rw [abZ hd0 (ab4 hnd) rfl hc5]⟩
theorem tA {ts : List T3} {N cap : Nat} {A : Option Addr} (w : World) (hT : bY w A N ts) (hN : N ≤ 10000000) : eG prog 49 [.slice A N cap] w (fun v _=>v = .int .i64 (eV true ts)):=by
 refine ⟨ai5,?_⟩;have m:=Mem.refl w
 go_enter func49,ntmps49
 refine aD fun K1 k1=>wp_region_lit (aA (aG) (aF (k1 _ _ ?_)));refine aD fun K2 k2=>wp_region_lit (aA (aB) ?_);simp only[zz];refine eE m rfl rfl (ab5 _ (hT.ext m.ext) hN) ?_;clear m;rintro v u m rfl;refine aA (aG) (aF (k2 _ _ ?_));refine wp_ret ?_;simp only[zz];try simp only[Exit.inBlock,Exit.then,if_true]
 refine bE rfl rfl ?_;try simp only[zD,zE]
 exact ⟨_,rfl,m.ext,rfl⟩
theorem ahJ {t : T3} (h1 : t.b.Lt t.a) (h2 : t.c.Lt t.b) : kJ t = ⟨t.c,t.a,t.b⟩:=if_pos ⟨P3.lt_trans h2 h1,.inl h2⟩
theorem ahK {t : T3} (h1 : t.b.Lt t.a) (h2 : ¬ t.c.Lt t.b) : kJ t = ⟨t.b,t.c,t.a⟩:=by rw [kJ,if_neg (fun h=>h.2.elim h2 fun k=>k h1),if_pos h1]
theorem ahL {t : T3} (h1 : ¬ t.b.Lt t.a) (h2 : t.c.Lt t.a) : kJ t = ⟨t.c,t.a,t.b⟩:=if_pos ⟨h2,.inr h1⟩
theorem ahM {t : T3} (h1 : ¬ t.b.Lt t.a) (h2 : ¬ t.c.Lt t.a) : kJ t = t:=by rw [kJ,if_neg (fun h=>h2 h.1),if_neg h1]
theorem Zy {t : T3} : eQ prog 111 [tr t] (tr (kJ t)):=by
 intro w;refine ⟨af0,?_⟩;have m:=Mem.refl w
 go_enter func111,ntmps111
 refine aD fun K1 k1=>wp_region_lit (cB m rfl ?_);clear m;intro g1 u m;simp only[zz];refine bA m fP rfl ?_;clear m;intro g2 u m;refine aF (k1 _ _ ?_);refine aD fun K2 k2=>wp_region_lit (aA (aG) (aF (k2 _ _ ?_)));refine aD fun K3 k3=>aD fun K4 k4=>wp_region_lit (aA (aG) (aF (k4 _ _ ?_)));refine wp_block (wp_loop_rounds 3 (bU (aD fun K5 k5=>aD fun K6 k6=>wp_region_lit (aA (aB) ?_))));simp only[zz];refine aA (bF (m:=1) (n:=3) rfl rfl (by decide)) (aF (k6 _ _ ?_));refine bK rfl (wp_skip (k5 _ _ ?_));refine aD fun K7 k7=>wp_block (aD fun K8 k8=>?_);simp only[zz];refine mq m aM (by kernel_rfl) (aK (aB) (aK (aH bD aC rfl rfl (by decide) (by decide) rfl) ?_));simp only[zz];refine ql rfl (fun u m=>((m.b 1 rfl).lies aI aC rfl rfl)) ?_;simp only[zz,zy,Nat.zero_add,Nat.reduceAdd,Nat.reduceMul,Int.reduceToNat];refine aK (aB) (aK (aH bD aC rfl rfl (by decide) (by decide) rfl) ?_);simp only[zz];refine ql rfl (fun u m=>((m.b 1 rfl).lies aI aC rfl rfl)) ?_;simp only[zz,zy,Nat.zero_add,Nat.reduceAdd,Nat.reduceMul,Int.reduceToNat];refine gV rfl rfl (oK.pure) (bZ ?_);clear m;intro u m;refine k8 _ _ ?_;simp only[zz];refine cG rfl (fun hc2=>?_) (fun hc2=>?_)
 ·
  have h1:=hc2;refine wp_region_lit (aA (aB) (aA (aG) (aF (k7 _ _ ?_))));refine wp_region_lit (aA (aB) (aA (aU (m:=1) (n:=1) (r:=2) rfl rfl (by decide)) ?_));simp only[zz];refine aA (aG) (aF (aQ (aD fun K9 k9=>aD fun K10 k10=>wp_region_lit (aA (aB) (aA (bF (m:=2) (n:=3) rfl rfl (by decide)) (aF (k10 _ _ ?_)))))));refine bK rfl (wp_skip (k9 _ _ ?_));refine aD fun K11 k11=>wp_block (aD fun K12 k12=>?_);simp only[zz];refine mq m aM (by kernel_rfl) (aK (aB) (aK (aH bD aC rfl rfl (by decide) (by decide) rfl) ?_));simp only[zz];refine ql rfl (fun u m=>((m.b 1 rfl).lies aI aC rfl rfl)) ?_;simp only[zz,zy,Nat.zero_add,Nat.reduceAdd,Nat.reduceMul,Int.reduceToNat];refine aK (aB) (aK (aH bD aC rfl rfl (by decide) (by decide) rfl) ?_);simp only[zz];refine ql rfl (fun u m=>((m.b 1 rfl).lies aI aC rfl rfl)) ?_;simp only[zz,zy,Nat.zero_add,Nat.reduceAdd,Nat.reduceMul,Int.reduceToNat];refine gV rfl rfl (oK.pure) (bZ ?_);clear m;intro u m;refine k12 _ _ ?_;simp only[zz];refine cG rfl (fun hc2=>?_) (fun hc2=>?_)
  ·
   have h2:=hc2;refine wp_region_lit (aA (aB) (aA (aG) (aF (k11 _ _ ?_))));refine wp_region_lit (aA (aB) (aA (aU (m:=2) (n:=1) (r:=3) rfl rfl (by decide)) ?_));simp only[zz];refine aA (aG) (aF (aQ (aD fun K13 k13=>aD fun K14 k14=>wp_region_lit (aA (aB) (aA (dM (m:=3) (n:=3) rfl rfl (by decide)) (aF (k14 _ _ ?_)))))));refine gA rfl (wp_exit (k3 _ _ ?_));refine aD fun K15 k15=>?_;simp only[zz];refine eA m 14 aM (by kernel_rfl) ?_;simp only[zy];refine aK (aB) (aK (aH bD aC rfl rfl (by decide) (by decide) rfl) ?_);simp only[zz];refine ql rfl (fun u m=>((m.b 1 rfl).lies aI aC rfl rfl)) ?_;simp only[zz,zy,Nat.zero_add,Nat.reduceAdd,Nat.reduceMul,Int.reduceToNat];refine aK (aB) (aK (aU (m:=2) (n:=1) (r:=3) rfl rfl (by decide)) (aK (gD (m:=3) (n:=3) (r:=0) rfl rfl (by decide) (by decide)) (aK (aH bD aC rfl rfl (by decide) (by decide) rfl) ?_)));simp only[zz];refine ql rfl (fun u m=>((m.b 1 rfl).lies aI aC rfl rfl)) ?_;simp only[zz,zy,Nat.zero_add,Nat.reduceAdd,Nat.reduceMul,Int.reduceToNat];refine aK (aB) (aK (aU (m:=2) (n:=2) (r:=4) rfl rfl (by decide)) (aK (gD (m:=4) (n:=3) (r:=1) rfl rfl (by decide) (by decide)) (aK (aH bD aC rfl rfl (by decide) (by decide) rfl) ?_)));simp only[zz];refine ql rfl (fun u m=>((m.b 1 rfl).lies aI aC rfl rfl)) ?_;simp only[zz,zy,Nat.zero_add,Nat.reduceAdd,Nat.reduceMul,Int.reduceToNat];refine aK (cO rfl rfl rfl) (bZ ?_);clear m;intro u m;simp only[zz];refine aT m 0 rfl rfl rfl aR (cU rfl) rfl ?_;clear m;intro u m;simp only[zy,zx,bB,zF,zG,Nat.reduceAdd] at m;refine aF (k15 _ _ ?_);refine wp_ret ?_;try simp only[Exit.inBlock,Exit.then,if_true]
   refine bE rfl ⟨_,rfl,((m.b 0 rfl).full bR aR)⟩ ?_;try simp only[zD,zE]
   exact ⟨_,rfl,m.ext,by rw [ahJ h1 h2];rfl⟩
  ·
   have h2:=hc2;refine wp_skip (k11 _ _ ?_);refine wp_region_lit (aA (aB) (aA (aU (m:=2) (n:=1) (r:=3) rfl rfl (by decide)) (aA (aG) (aF (aQ (aD fun K16 k16=>aD fun K17 k17=>wp_region_lit (aA (aB) ?_)))))));simp only[zz];refine aA (dM (m:=3) (n:=3) rfl rfl (by decide)) (aF (k17 _ _ ?_));refine gA rfl (wp_exit (k3 _ _ ?_));refine aD fun K18 k18=>?_;simp only[zz];refine eA m 14 aM (by kernel_rfl) ?_;simp only[zy];refine aK (aB) (aK (aH bD aC rfl rfl (by decide) (by decide) rfl) ?_);simp only[zz];refine ql rfl (fun u m=>((m.b 1 rfl).lies aI aC rfl rfl)) ?_;simp only[zz,zy,Nat.zero_add,Nat.reduceAdd,Nat.reduceMul,Int.reduceToNat];refine aK (aB) (aK (aU (m:=1) (n:=1) (r:=2) rfl rfl (by decide)) (aK (gD (m:=2) (n:=3) (r:=2) rfl rfl (by decide) (by decide)) (aK (aH bD aC rfl rfl (by decide) (by decide) rfl) ?_)));simp only[zz];refine ql rfl (fun u m=>((m.b 1 rfl).lies aI aC rfl rfl)) ?_;simp only[zz,zy,Nat.zero_add,Nat.reduceAdd,Nat.reduceMul,Int.reduceToNat];refine aK (aB) (aK (aU (m:=1) (n:=2) (r:=3) rfl rfl (by decide)) (aK (gD (m:=3) (n:=3) (r:=0) rfl rfl (by decide) (by decide)) (aK (aH bD aC rfl rfl (by decide) (by decide) rfl) ?_)));simp only[zz];refine ql rfl (fun u m=>((m.b 1 rfl).lies aI aC rfl rfl)) ?_;simp only[zz,zy,Nat.zero_add,Nat.reduceAdd,Nat.reduceMul,Int.reduceToNat];refine aK (cO rfl rfl rfl) (bZ ?_);clear m;intro u m;simp only[zz];refine aT m 0 rfl rfl rfl aR (cU rfl) rfl ?_;clear m;intro u m;simp only[zy,zx,bB,zF,zG,Nat.reduceAdd] at m;refine aF (k18 _ _ ?_);refine wp_ret ?_;try simp only[Exit.inBlock,Exit.then,if_true]
   refine bE rfl ⟨_,rfl,((m.b 0 rfl).full bR aR)⟩ ?_;try simp only[zD,zE]
   exact ⟨_,rfl,m.ext,by rw [ahK h1 h2];rfl⟩
 ·
  have h1:=hc2;refine wp_skip (k7 _ _ ?_);refine wp_region_lit (aA (aB) (aA (aU (m:=1) (n:=1) (r:=2) rfl rfl (by decide)) (aA (aG) (aF (aQ (aD fun K19 k19=>aD fun K20 k20=>wp_region_lit (aA (aB) ?_)))))));simp only[zz];refine aA (bF (m:=2) (n:=3) rfl rfl (by decide)) (aF (k20 _ _ ?_));refine bK rfl (wp_skip (k19 _ _ ?_));refine aD fun K21 k21=>wp_block (aD fun K22 k22=>?_);simp only[zz];refine mq m aM (by kernel_rfl) (aK (aB) (aK (aH bD aC rfl rfl (by decide) (by decide) rfl) ?_));simp only[zz];refine ql rfl (fun u m=>((m.b 1 rfl).lies aI aC rfl rfl)) ?_;simp only[zz,zy,Nat.zero_add,Nat.reduceAdd,Nat.reduceMul,Int.reduceToNat];refine aK (aB) (aK (aH bD aC rfl rfl (by decide) (by decide) rfl) ?_);simp only[zz];refine ql rfl (fun u m=>((m.b 1 rfl).lies aI aC rfl rfl)) ?_;simp only[zz,zy,Nat.zero_add,Nat.reduceAdd,Nat.reduceMul,Int.reduceToNat];refine gV rfl rfl (oK.pure) (bZ ?_);clear m;intro u m;refine k22 _ _ ?_;simp only[zz];refine cG rfl (fun hc2=>?_) (fun hc2=>?_)
  ·
   have h2:=hc2;refine wp_region_lit (aA (aB) (aA (aG) (aF (k21 _ _ ?_))));refine wp_region_lit (aA (aB) (aA (aU (m:=2) (n:=1) (r:=3) rfl rfl (by decide)) ?_));simp only[zz];refine aA (aG) (aF (aQ (aD fun K23 k23=>aD fun K24 k24=>wp_region_lit (aA (aB) (aA (dM (m:=3) (n:=3) rfl rfl (by decide)) (aF (k24 _ _ ?_)))))));refine gA rfl (wp_exit (k3 _ _ ?_));refine aD fun K25 k25=>?_;simp only[zz];refine eA m 14 aM (by kernel_rfl) ?_;simp only[zy];refine aK (aB) (aK (aH bD aC rfl rfl (by decide) (by decide) rfl) ?_);simp only[zz];refine ql rfl (fun u m=>((m.b 1 rfl).lies aI aC rfl rfl)) ?_;simp only[zz,zy,Nat.zero_add,Nat.reduceAdd,Nat.reduceMul,Int.reduceToNat];refine aK (aB) (aK (aU (m:=2) (n:=1) (r:=3) rfl rfl (by decide)) (aK (gD (m:=3) (n:=3) (r:=0) rfl rfl (by decide) (by decide)) (aK (aH bD aC rfl rfl (by decide) (by decide) rfl) ?_)));simp only[zz];refine ql rfl (fun u m=>((m.b 1 rfl).lies aI aC rfl rfl)) ?_;simp only[zz,zy,Nat.zero_add,Nat.reduceAdd,Nat.reduceMul,Int.reduceToNat];refine aK (aB) (aK (aU (m:=2) (n:=2) (r:=4) rfl rfl (by decide)) (aK (gD (m:=4) (n:=3) (r:=1) rfl rfl (by decide) (by decide)) (aK (aH bD aC rfl rfl (by decide) (by decide) rfl) ?_)));simp only[zz];refine ql rfl (fun u m=>((m.b 1 rfl).lies aI aC rfl rfl)) ?_;simp only[zz,zy,Nat.zero_add,Nat.reduceAdd,Nat.reduceMul,Int.reduceToNat];refine aK (cO rfl rfl rfl) (bZ ?_);clear m;intro u m;simp only[zz];refine aT m 0 rfl rfl rfl aR (cU rfl) rfl ?_;clear m;intro u m;simp only[zy,zx,bB,zF,zG,Nat.reduceAdd] at m;refine aF (k25 _ _ ?_);refine wp_ret ?_;try simp only[Exit.inBlock,Exit.then,if_true]
   refine bE rfl ⟨_,rfl,((m.b 0 rfl).full bR aR)⟩ ?_;try simp only[zD,zE]
   exact ⟨_,rfl,m.ext,by rw [ahL h1 h2];rfl⟩
  ·
   have h2:=hc2;refine wp_skip (k21 _ _ ?_);refine wp_region_lit (aA (aB) (aA (aU (m:=2) (n:=1) (r:=3) rfl rfl (by decide)) (aA (aG) (aF (aQ (aD fun K26 k26=>aD fun K27 k27=>wp_region_lit (aA (aB) ?_)))))));simp only[zz];refine aA (dM (m:=3) (n:=3) rfl rfl (by decide)) (aF (k27 _ _ ?_));refine gA rfl (wp_exit (k3 _ _ ?_));refine aD fun K28 k28=>?_;simp only[zz];refine eA m 14 aM (by kernel_rfl) ?_;simp only[zy];refine aK (aB) (aK (aH bD aC rfl rfl (by decide) (by decide) rfl) ?_);simp only[zz];refine ql rfl (fun u m=>((m.b 1 rfl).lies aI aC rfl rfl)) ?_;simp only[zz,zy,Nat.zero_add,Nat.reduceAdd,Nat.reduceMul,Int.reduceToNat];refine aK (aB) (aK (aU (m:=0) (n:=1) (r:=1) rfl rfl (by decide)) (aK (gD (m:=1) (n:=3) (r:=1) rfl rfl (by decide) (by decide)) (aK (aH bD aC rfl rfl (by decide) (by decide) rfl) ?_)));simp only[zz];refine ql rfl (fun u m=>((m.b 1 rfl).lies aI aC rfl rfl)) ?_;simp only[zz,zy,Nat.zero_add,Nat.reduceAdd,Nat.reduceMul,Int.reduceToNat];refine aK (aB) (aK (aU (m:=0) (n:=2) (r:=2) rfl rfl (by decide)) (aK (gD (m:=2) (n:=3) (r:=2) rfl rfl (by decide) (by decide)) (aK (aH bD aC rfl rfl (by decide) (by decide) rfl) ?_)));simp only[zz];refine ql rfl (fun u m=>((m.b 1 rfl).lies aI aC rfl rfl)) ?_;simp only[zz,zy,Nat.zero_add,Nat.reduceAdd,Nat.reduceMul,Int.reduceToNat];refine aK (cO rfl rfl rfl) (bZ ?_);clear m;intro u m;simp only[zz];refine aT m 0 rfl rfl rfl aR (cU rfl) rfl ?_;clear m;intro u m;simp only[zy,zx,bB,zF,zG,Nat.reduceAdd] at m;refine aF (k28 _ _ ?_);refine wp_ret ?_;try simp only[Exit.inBlock,Exit.then,if_true]
   refine bE rfl ⟨_,rfl,((m.b 0 rfl).full bR aR)⟩ ?_;try simp only[zD,zE]
   exact ⟨_,rfl,m.ext,by rw [ahM h1 h2];rfl⟩
end Go.Proofs.YtfekpcimgncioaaGreatDoor
namespace Go.Proofs.YtfekpcimgncioaaGreatDoor
open Go.Proofs.Tryz
open Go.RowKit Go.Lith
set_option maxRecDepth 100000
attribute [local irreducible] wpList wpQuiet dB bL cE Code.wp
theorem ab6 {x y z : Int} {g1 : Nat} (w : World) (hB1 : fF w g1 [.int .i64 x,.int .i64 y,.int .i64 z] 3) : abW prog 125 [.slice (some ⟨g1,0,none⟩) 3 3] w (.int .i64 (if x = 0 then if y = 0 then z else y else x)):=by
 refine ⟨aa2,?_⟩;have m:=fS.refl w
 go_enter func125,ntmps125
 refine aD fun K1 k1=>wp_region_lit (aA (aG) (aF (k1 _ _ ?_)));try clear k1 K1
 refine aD fun K2 k2=>wp_region_lit (aA (aG) (aF (k2 _ _ ?_)));try clear k2 K2
 refine aD fun K3 k3=>aD fun K4 k4=>wp_region_lit (aA (aB) (aA (bH rfl xH rfl) ?_));simp only[zz];refine aA (aB) (aF (k4 _ _ ?_));try clear k4 K4
 refine wp_block (wp_loop_rounds 4 (bU (aD fun K5 k5=>wp_region_lit (aA (bF (m:=0) (n:=3) rfl rfl (by decide)) (aF (k5 _ _ ?_))))));try clear k5 K5
 refine aD fun K6 k6=>bK rfl (wp_skip (k6 _ _ ?_));try clear k6 K6
 refine aD fun K7 k7=>wp_block (aD fun K8 k8=>wp_region_lit ?_);simp only[zz];refine aA (aN xH aO rfl rfl (by decide) (by omega) rfl) ?_;simp only[zz];refine aJ rfl ((hB1.ext m.ext.ext).lies1 aX rfl) ?_;simp only[zz];refine aA (aG) (aF (k8 _ _ ?_));try clear k8 K8
 refine aD fun K9 k9=>wp_region_lit (aA (aB) (aA (aB) (aA (jJ rfl rfl) ?_)));simp only[zz];refine aF (k9 _ _ ?_);try clear k9 K9
 refine cG rfl (fun hc2=>?_) (fun hc2=>?_)
 · skip
   refine aD fun K10 k10=>wp_region_lit (aA (aB) (aA (aG) (aF (k10 _ _ ?_))));try clear k10 K10
   refine wp_ret ?_;simp only[zz];try simp only[Exit.inBlock,Exit.then,if_true]
   refine bE rfl rfl ?_;try simp only[zD,zE]
   exact ⟨_,rfl,m.ext,by rw [if_neg hc2]⟩
 · skip
   have hx : x = 0:=by omega
   refine wp_skip (k7 _ _ ?_);try clear k7 K7
   refine wp_region_lit (aA (aU (m:=0) (n:=1) (r:=1) rfl rfl (by decide)) (aA (aB) (aF (aQ (aD fun K11 k11=>wp_region_lit (aA (bF (m:=1) (n:=3) rfl rfl (by decide)) (aF (k11 _ _ ?_))))))));try clear k11 K11
   refine aD fun K12 k12=>bK rfl (wp_skip (k12 _ _ ?_));try clear k12 K12
   refine aD fun K13 k13=>wp_block (aD fun K14 k14=>wp_region_lit ?_);simp only[zz];refine aA (aN xH aO rfl rfl (by decide) (by omega) rfl) ?_;simp only[zz];refine aJ rfl ((hB1.ext m.ext.ext).lies1 aX rfl) ?_;simp only[zz];refine aA (aG) (aF (k14 _ _ ?_));try clear k14 K14
   refine aD fun K15 k15=>wp_region_lit (aA (aB) (aA (aB) (aA (jJ rfl rfl) ?_)));simp only[zz];refine aF (k15 _ _ ?_);try clear k15 K15
   refine cG rfl (fun hc2=>?_) (fun hc2=>?_)
   · skip
     refine aD fun K16 k16=>wp_region_lit (aA (aB) (aA (aG) (aF (k16 _ _ ?_))));try clear k16 K16
     refine wp_ret ?_;simp only[zz];try simp only[Exit.inBlock,Exit.then,if_true]
     refine bE rfl rfl ?_;try simp only[zD,zE]
     exact ⟨_,rfl,m.ext,by rw [if_pos hx,if_neg hc2]⟩
   · skip
     have hy : y = 0:=by omega
     refine wp_skip (k13 _ _ ?_);try clear k13 K13
     refine wp_region_lit (aA (aU (m:=1) (n:=1) (r:=2) rfl rfl (by decide)) (aA (aB) (aF (aQ (aD fun K17 k17=>wp_region_lit (aA (bF (m:=2) (n:=3) rfl rfl (by decide)) (aF (k17 _ _ ?_))))))));try clear k17 K17
     refine aD fun K18 k18=>bK rfl (wp_skip (k18 _ _ ?_));try clear k18 K18
     refine aD fun K19 k19=>wp_block (aD fun K20 k20=>wp_region_lit ?_);simp only[zz];refine aA (aN xH aO rfl rfl (by decide) (by omega) rfl) ?_;simp only[zz];refine aJ rfl ((hB1.ext m.ext.ext).lies1 aX rfl) ?_;simp only[zz];refine aA (aG) (aF (k20 _ _ ?_));try clear k20 K20
     refine aD fun K21 k21=>wp_region_lit (aA (aB) (aA (aB) (aA (jJ rfl rfl) ?_)));simp only[zz];refine aF (k21 _ _ ?_);try clear k21 K21
     refine cG rfl (fun hc2=>?_) (fun hc2=>?_)
     · skip
       refine aD fun K22 k22=>wp_region_lit (aA (aB) (aA (aG) (aF (k22 _ _ ?_))));try clear k22 K22
       refine wp_ret ?_;simp only[zz];try simp only[Exit.inBlock,Exit.then,if_true]
       refine bE rfl rfl ?_;try simp only[zD,zE]
       exact ⟨_,rfl,m.ext,by rw [if_pos hx,if_pos hy]⟩
     · skip
       have hz : z = 0:=by omega
       refine wp_skip (k19 _ _ ?_);try clear k19 K19
       refine wp_region_lit (aA (aU (m:=2) (n:=1) (r:=3) rfl rfl (by decide)) (aA (aB) (aF (aQ (aD fun K23 k23=>wp_region_lit (aA (dM (m:=3) (n:=3) rfl rfl (by decide)) (aF (k23 _ _ ?_))))))));try clear k23 K23
       refine aD fun K24 k24=>gA rfl (wp_exit (k3 _ _ ?_));try clear k3 K3
       refine aD fun K25 k25=>wp_region_lit (aA (aB) ?_);simp only[zz];refine aA (aG) (aF (k25 _ _ ?_));try clear k25 K25
       refine wp_ret ?_;simp only[zz];try simp only[Exit.inBlock,Exit.then,if_true]
       refine bE rfl rfl ?_;try simp only[zD,zE]
       exact ⟨_,rfl,m.ext,by rw [if_pos hx,if_pos hy,hz]⟩
def Uo (s t : T3) : Int:=if mC s.a t.a = 0 then if mC s.b t.b = 0 then mC s.c t.c else mC s.b t.b else mC s.a t.a
theorem Bf (s t : T3) : (Uo s t < 0) ↔ s.Lt t:=by
 unfold Uo T3.Lt;split
 · rename_i h
   have h':=kE.1 h;have n1 : ¬ s.a.Lt t.a:=fun k=>P3.lt_irrefl _ (h' ▸ k);split
   · rename_i g
     have g':=kE.1 g;have n2 : ¬ s.b.Lt t.b:=fun k=>P3.lt_irrefl _ (g' ▸ k);rw [jB];simp [h',g',P3.lt_irrefl]
   · rename_i g
     have g' : ¬ s.b = t.b:=fun e=>g (kE.2 e);rw [jB];simp [h',g',P3.lt_irrefl]
 · rename_i h
   have h' : ¬ s.a = t.a:=fun e=>h (kE.2 e);rw [jB];simp [h']
instance : Inhabited T3:=⟨⟨⟨0,0,0⟩,⟨0,0,0⟩,⟨0,0,0⟩⟩⟩
theorem ab7 : Go.Sort.SWO (Go.Proofs.ltOf Uo) where
 irrefl a:=by simp only[Go.Proofs.ltOf,decide_eq_false_iff_not,Bf];exact T3.lt_irrefl a
 trans x y z h1 h2:=by
  simp only[Go.Proofs.ltOf,decide_eq_true_eq,Bf] at *
  exact T3.lt_trans h1 h2
 ntrans x y z h1 h2:=by
  simp only[Go.Proofs.ltOf,decide_eq_false_iff_not,Bf] at *
  intro h;rcases T3.lt_tri y x with k | k | k
  · exact absurd (T3.lt_trans k h) (by first | exact h2 | exact h1)
  · subst k;first | exact h2 h | exact h1 h
  · first | exact h1 k | exact h2 k
theorem Ni (t : T3) : ∀ v ∈ aW t,v.oneCell' = true:=fun v h=>by
 simp only[aW,List.mem_cons,List.not_mem_nil,or_false] at h;rcases h with rfl | rfl | rfl | rfl | rfl | rfl | rfl | rfl | rfl <;> rfl
theorem aer {p q : T3} : nP prog 113 [tr p,tr q] (.int .i64 (Uo p q)):=by
 intro w;refine ⟨af2,?_⟩;have m:=fS.refl w
 go_enter func113,ntmps113
 refine aD fun K1 k1=>wp_region_lit (kX m rfl ?_);clear m;intro g1 u m;simp only[zz];refine kX m rfl ?_;clear m;intro g2 u m;refine aA (aG) (aF (k1 _ _ ?_));try clear k1 K1
 refine aD fun K2 k2=>?_;simp only[zz];refine Gf m 15 aM (by kernel_rfl) ?_;simp only[zy];refine aK (aH bD aC rfl rfl (by decide) (by decide) rfl) ?_;simp only[zz];refine Ik rfl (fun u m=>((m.b 1 rfl).lies aI aC rfl rfl)) ?_;simp only[zz,zy,Nat.zero_add,Nat.reduceAdd,Nat.reduceMul,Int.reduceToNat];refine aK (aH bD aC rfl rfl (by decide) (by decide) rfl) ?_;simp only[zz];refine Ik rfl (fun u m=>((m.b 0 rfl).lies aI aC rfl rfl)) ?_;simp only[zz,zy,Nat.zero_add,Nat.reduceAdd,Nat.reduceMul,Int.reduceToNat];refine yW rfl rfl (wE (p:=p.a) (q:=q.a)) (aK (aH bD aC rfl rfl (by decide) (by decide) rfl) ?_);simp only[zz];refine Ik rfl (fun u m=>((m.b 1 rfl).lies aI aC rfl rfl)) ?_;simp only[zz,zy,Nat.zero_add,Nat.reduceAdd,Nat.reduceMul,Int.reduceToNat];refine aK (aH bD aC rfl rfl (by decide) (by decide) rfl) ?_;simp only[zz];refine Ik rfl (fun u m=>((m.b 0 rfl).lies aI aC rfl rfl)) ?_;simp only[zz,zy,Nat.zero_add,Nat.reduceAdd,Nat.reduceMul,Int.reduceToNat];refine yW rfl rfl (wE (p:=p.b) (q:=q.b)) (aK (aH bD aC rfl rfl (by decide) (by decide) rfl) ?_);simp only[zz];refine Ik rfl (fun u m=>((m.b 1 rfl).lies aI aC rfl rfl)) ?_;simp only[zz,zy,Nat.zero_add,Nat.reduceAdd,Nat.reduceMul,Int.reduceToNat];refine aK (aH bD aC rfl rfl (by decide) (by decide) rfl) ?_;simp only[zz];refine Ik rfl (fun u m=>((m.b 0 rfl).lies aI aC rfl rfl)) ?_;simp only[zz,zy,Nat.zero_add,Nat.reduceAdd,Nat.reduceMul,Int.reduceToNat];refine yW rfl rfl (wE (p:=p.c) (q:=q.c)) (bZ ?_);clear m;intro u m;simp only[zz];refine Qv m xH (z:=.int .i64 0) (by kernel_rfl) rfl rfl rfl rfl rfl rfl rfl ?_;clear m;intro g3 u m;simp only[zz];refine Nd m rfl rfl (ab6 _ (m.b 0 rfl)) ?_;clear m;intro u m;refine aA (aG) (aF (k2 _ _ ?_));try clear k2 K2
 refine wp_ret ?_;simp only[zz];try simp only[Exit.inBlock,Exit.then,if_true]
 refine bE rfl rfl ?_;try simp only[zD,zE]
 exact ⟨_,rfl,m.ext,rfl⟩
theorem ahN {p q : P3} (h : p.x = q.x ∧ p.y = q.y ∧ p.z = q.z) : (0 : Int) = mC p q:=(kE.2 (P3.eq h.1 h.2.1 h.2.2)).symm
theorem ahO {p q : P3} (h : p.Lt q) : (-1 : Int) = mC p q:=(if_pos h).symm
theorem ahP {p q : P3} (h1 : ¬ (p.x = q.x ∧ p.y = q.y ∧ p.z = q.z)) (h2 : ¬ p.Lt q) : (1 : Int) = mC p q:=by
 unfold mC;rcases P3.lt_tri p q with h | h | h
 · exact absurd h h2
 · exact absurd (by rw [h];exact ⟨rfl,rfl,rfl⟩) h1
 · rw [if_neg h2,if_pos h]
theorem Ho {p q : P3} : nP prog 70 [pt p,pt q] (.int .i64 (mC p q)):=by
 intro w;refine ⟨ajo,?_⟩;have m:=fS.refl w
 go_enter func70,ntmps70
 refine aD fun K1 k1=>wp_region_lit (kX m rfl ?_);clear m;intro g1 u m;simp only[zz];refine kX m rfl ?_;clear m;intro g2 u m;refine aA (aG) (aF (k1 _ _ ?_));try clear k1 K1
 refine aD fun K2 k2=>wp_block (aD fun K3 k3=>wp_region_lit ?_);simp only[zz];refine aJ rfl ((m.b 1 rfl).full aI aC) ?_;simp only[zz];refine aJ rfl ((m.b 0 rfl).full aI aC) ?_;simp only[zz];refine aA (cV rfl rfl) (aA (aG) (aF (k3 _ _ ?_)));try clear k3 K3
 simp only[zz];refine cG rfl (fun hc1=>?_) (fun hc1=>?_)
 · skip
   refine aD fun K4 k4=>wp_region_lit (aA (aG) (aF (k4 _ _ ?_)));try clear k4 K4
   refine wp_ret ?_;simp only[zz];try simp only[Exit.inBlock,Exit.then,if_true]
   refine bE rfl rfl ?_;try simp only[zD,zE]
   exact ⟨_,rfl,m.ext,by rw [← ahN hc1]⟩
 · skip
   refine aD fun K5 k5=>wp_region_lit (aJ rfl ((m.b 1 rfl).full aI aC) ?_);simp only[zz];refine aJ rfl ((m.b 0 rfl).full aI aC) ?_;simp only[zz];refine Eu m rfl rfl (oK (p:=p) (q:=q)) ?_;clear m;intro u m;refine aA (aG) (aF (k5 _ _ ?_));try clear k5 K5
   simp only[zz];refine cG rfl (fun hc2=>?_) (fun hc2=>?_)
   · skip
     refine aD fun K6 k6=>wp_region_lit (aA (aG) (aF (k6 _ _ ?_)));try clear k6 K6
     refine wp_ret ?_;simp only[zz];try simp only[Exit.inBlock,Exit.then,if_true]
     refine bE rfl rfl ?_;try simp only[zD,zE]
     exact ⟨_,rfl,m.ext,by rw [← ahO hc2]⟩
   · skip
     refine wp_skip (k2 _ _ ?_);try clear k2 K2
     refine aD fun K7 k7=>wp_region_lit (aA (aG) (aF (k7 _ _ ?_)));try clear k7 K7
     refine wp_ret ?_;simp only[zz];try simp only[Exit.inBlock,Exit.then,if_true]
     refine bE rfl rfl ?_;try simp only[zD,zE]
     exact ⟨_,rfl,m.ext,by rw [← ahP hc1 hc2]⟩
end Go.Proofs.YtfekpcimgncioaaGreatDoor
namespace Go.Proofs.YtfekpcimgncioaaGreatDoor
open Go.Proofs.Tryz
open Go.RowKit Go.Lith
set_option maxRecDepth 100000
attribute [local irreducible] wpList wpQuiet dB bL cE Code.wp
theorem Zz {w0 w : World} {is : List It} {A : Option Addr} {n cap : Nat} {xs : List T3} (m : Mem w0 w is) (k : Nat) (hi : is[k]? = some (oI 39 9 A n cap (xs.flatMap aW))) (hsz : n < 4611686018427387904) :
 Calls prog 112 [.slice A n cap,.func (.func 113) #[] #[]].toArray w fun e w'=>∃ v i,e = .returned v ∧ Mem w0 w' (is.set k i) ∧ (v = .tuple #[] ∧ ∃ ys : List T3,i = oI 39 9 A n cap (ys.flatMap aW) ∧ ys.Perm xs ∧ ys.Pairwise fun a b=>ltOf Uo b a = false) :=
 uV (enc:=aW) Tryz.sort112 (fun w=>nZ bR w) (fun w=>dQ aR w) (fun _=>rfl) (by decide) Ni Uo ab7 (fun x y=>aer) m k hi hsz
theorem Up {ts ys : List T3} (h : ys.Perm (ts.map kJ)) (hs : ys.Pairwise fun a b=>Go.Proofs.ltOf Uo b a = false) : ys = cX ts :=
 abF h (hs.imp fun {a b} h k=>by
  have:=(Bf b a).2 k;simp [Go.Proofs.ltOf] at h;omega)
theorem Qz {ts : List T3} {N cap : Nat} {A : Option Addr} (w : World) (hT : bY w A N ts) (hN : N ≤ 10000000) : eG prog 55 [.slice A N cap] w (SL 39 9 ((cX ts).flatMap aW) ts.length w):=by
 refine ⟨aja,?_⟩;have m:=Mem.refl w;have htl:=hT.len
 go_enter func55,ntmps55
 refine aD fun K1 k1=>wp_region_lit (aA (aG) (aF (k1 _ _ ?_)));try clear k1 K1
 refine aD fun K2 k2=>wp_region_lit (aA (aG) ?_);replace m:=m.nilO 39 9;refine aF (k2 _ _ ?_);try clear k2 K2
 refine aD fun K3 k3=>aD fun K4 k4=>wp_region_lit (aA (aB) (aA (bH rfl bQ rfl) ?_));simp only[zz];refine aA (aB) (aF (k4 _ _ ?_));try clear k4 K4
 refine wp_block ?_;simp only[zz];try simp only[Nat.zero_add,Nat.reduceAdd,Nat.reduceMul,Int.reduceToNat]
 refine bT [3,8] [5,9,10,11,12,13,14,15,16,17] (fun n vs wl=>∃ (k : Nat) (A1 : Option Addr) (cap1 : Nat),vs = [.slice A1 k cap1,.int .i64 (k:Int)] ∧ Mem w wl [oI 39 9 A1 k cap1 (((ts.take k).map kJ).flatMap aW)] ∧ (k ≤ N) ∧ (n = N - k)) ?_ ?_
 · skip
   apply Exists.intro;simp only[zQ,zR,zD,zE];exact ⟨0,_,_,rfl,m,Nat.zero_le _,rfl⟩
 · intro n vs wr hI u
   clear m;obtain ⟨k,A1,cap1,rfl,m,hk,hn⟩:=hI;simp only[zu,zF,zG];refine aD fun K5 k5=>wp_region_lit (aA (cW rfl rfl) (aF (k5 _ _ ?_)));try clear k5 K5
   refine aD fun K6 k6=>?_;simp only[zz];refine cG rfl (fun hc1=>?_) (fun hc1=>?_)
   · skip
     obtain ⟨t,ht,_,a,rfl,hrow⟩:=hT.get (i:=k) (by omega);refine wp_skip (k6 _ _ ?_);try clear k6 K6
     refine aD fun K7 k7=>wp_block (aD fun K8 k8=>wp_region_lit (aA (aN bQ aR rfl rfl (by omega) (by omega) (dC (Int.toNat_natCast _))) ?_));simp only[zz];refine aJ rfl ((hrow.ext m.ext).lies bR aR) ?_;simp only[zz];refine bA m fP rfl ?_;clear m;intro g1 u m;simp only[zz];refine aT m 0 rfl rfl rfl aR (cU rfl) rfl ?_;clear m;intro u m;simp only[zy,zx,bB,zF,zG,Nat.reduceAdd] at m;refine aF (k8 _ _ ?_);try clear k8 K8
     refine wp_region_lit (aA (aB) ?_);simp only[zz];refine aJ rfl ((m.b 0 rfl).full bR aR) ?_;simp only[zz];refine dH m rfl rfl (Zy) ?_;clear m;intro u m;simp only[zz];refine eT rfl ?_;intro u g2 e hg hB;replace m:=m.newB e hg hB;clear e hg hB;simp only[zz];refine dD m 2 rfl rfl bQ iK rfl (by decide) rfl rfl rfl (m.b 0 rfl).rowsO (jZ rfl) (by omega) (by omega) ?_;clear m;intro A1 cap1 u m;simp only[zF,zG] at m;rw [show ((ts.take k).map kJ).flatMap aW ++ _ = ((ts.take (k + 1)).map kJ).flatMap aW by rw [cQ ht,List.map_append,List.flatMap_append];rfl] at m;refine aA (aG) (aF (k7 _ _ ?_));try clear k7 K7
     refine wp_region_lit ?_;simp only[zz];refine aA (aU rfl rfl (aV (by omega) (by omega))) (aA (aB) (aF ?_));simp only[zz];simp only[Exit.inBlock,Exit.then];refine ⟨N - (k + 1),_,?_,rfl,?_,?_⟩
     · omega
     · simp only[zz,zv]
     · simp only[zQ,zR,zD,zE]
       exact ⟨k + 1,_,_,rfl,(m.sel [false,false,true]),by omega,rfl⟩
   · skip
     obtain rfl : k = N:=by omega
     rw [show ts.take k = ts from List.take_of_length_le (by omega)] at m;refine wp_exit (k3 _ _ ?_);try clear k3 K3
     refine aD fun K9 k9=>wp_region_lit (aA (aB) ?_);simp only[zz];refine jG m 0 af1 rfl rfl (fun m=>Zz m 0 rfl (by omega)) ?_;clear m;rintro v i u m ⟨rfl,ys,rfl,hys,hso⟩;simp only[zF,zG] at m;simp only[zz];obtain rfl:=Up hys hso;refine aF (k9 _ _ ?_);try clear k9 K9
     refine aD fun K10 k10=>wp_region_lit (aA (aB) (aA (aG) (aF (k10 _ _ ?_))));try clear k10 K10
     refine wp_ret ?_;simp only[zz];try simp only[Exit.inBlock,Exit.then,if_true]
     refine bE rfl rfl ?_;try simp only[zD,zE]
     exact ⟨_,rfl,m.ext,⟨_,_,_,htl.symm,rfl,(m.o 0 rfl)⟩⟩
end Go.Proofs.YtfekpcimgncioaaGreatDoor
namespace Go.Proofs.YtfekpcimgncioaaGreatDoor
open Go.Proofs.Tryz
open Go.RowKit Go.Lith
set_option maxRecDepth 100000
attribute [local irreducible] wpList wpQuiet dB bL cE Code.wp
theorem ab8 {u v x : P3} (h : x.x = u.x ∧ x.y = u.y ∧ x.z = u.z) : xX u v x = v:=by
 rw [show x = u from P3.eq h.1 h.2.1 h.2.2];exact ajE
theorem Uq {u v x : P3} (h : ¬ (x.x = u.x ∧ x.y = u.y ∧ x.z = u.z)) : xX u v x = x:=ajF fun e=>h (by rw [e];exact ⟨rfl,rfl,rfl⟩)
theorem pne {p q : P3} : decide (¬ (p.x = q.x ∧ p.y = q.y ∧ p.z = q.z)) = decide (p ≠ q):=decide_eq_decide.2 ⟨fun h e=>h (by rw [e];exact ⟨rfl,rfl,rfl⟩),fun h e=>h (P3.eq e.1 e.2.1 e.2.2)⟩
theorem Ww {t : T3} {p q : P3} : eQ prog 54 [tr t,pt p,pt q] (.tuple #[tr (pU p q t),.bool (pU p q t).nd]):=by
 intro w;refine ⟨ai9,?_⟩;have m:=Mem.refl w
 go_enter func54,ntmps54
 refine aD fun K1 k1=>wp_region_lit (cB m rfl ?_);clear m;intro g1 u m;simp only[zz];refine cB m rfl ?_;clear m;intro g2 u m;simp only[zz];refine cB m rfl ?_;clear m;intro g3 u m;simp only[zz];refine bA m fP rfl ?_;clear m;intro g4 u m;refine aA (aG) (aF (k1 _ _ ?_));try clear k1 K1
 refine aD fun K2 k2=>aD fun K3 k3=>wp_region_lit (aA (aB) (aF (k3 _ _ ?_)));try clear k3 K3
 refine wp_block (wp_loop_rounds 4 (bU (aD fun K4 k4=>wp_region_lit (aA (bF (m:=0) (n:=3) rfl rfl (by decide)) ?_))));simp only[zz];refine aF (k4 _ _ ?_);try clear k4 K4
 refine aD fun K5 k5=>bK rfl (wp_skip (k5 _ _ ?_));try clear k5 K5
 refine aD fun K6 k6=>wp_block (aD fun K7 k7=>wp_region_lit (aA (aB) (aA (aG) (aF (k7 _ _ ?_)))));try clear k7 K7
 refine aD fun K8 k8=>?_;simp only[zz];refine mq m aM (by kernel_rfl) (aK (aB) (aK (aH bD aC rfl rfl (by decide) (by decide) rfl) ?_));simp only[zz];refine ql rfl (fun u m=>((m.b 3 rfl).lies aI aC rfl rfl)) ?_;simp only[zz,zy,Nat.zero_add,Nat.reduceAdd,Nat.reduceMul,Int.reduceToNat];refine ql rfl (fun u m=>((m.b 2 rfl).full aI aC)) ?_;simp only[zz];refine aK (cV rfl rfl) (bZ ?_);clear m;intro u m;refine k8 _ _ ?_;try clear k8 K8
 simp only[zz];refine iM m 3 [] [17,18,19] (fun vs i=>vs = [] ∧ i = bI g1 [.int .i64 (xX p q t.a).x,.int .i64 (xX p q t.a).y,.int .i64 (xX p q t.a).z,.int .i64 (t.b).x,.int .i64 (t.b).y,.int .i64 (t.b).z,.int .i64 (t.c).x,.int .i64 (t.c).y,.int .i64 (t.c).z] 39) ?_ ?_
 · skip
   refine cG rfl (fun hc2=>?_) (fun hc2=>?_)
   · skip
     refine wp_region_lit (aA (aB) ?_);simp only[zz];refine aJ rfl ((m.b 1 rfl).full aI aC) ?_;simp only[zz];refine aA (aH bD aC rfl rfl (by decide) (by decide) rfl) ?_;simp only[zz];refine aT m 3 rfl rfl rfl aC (cU rfl) rfl ?_;clear m;intro u m;simp only[zy,zx,bB,zF,zG,Nat.reduceAdd] at m;refine aF ?_;simp only[Exit.inBlock,Exit.then];refine ⟨_,_,rfl,?_,m,?_⟩
     · simp only[zz,zv]
     · simp only[zQ,zR,zD,zE]
       exact ⟨trivial,by rw [ab8 hc2] <;> rfl⟩
   · skip
     refine wp_skip ?_;simp only[Exit.inBlock,Exit.then];refine ⟨_,_,rfl,?_,m,?_⟩
     · simp only[zz,zv]
     · simp only[zQ,zR,zD,zE]
       exact ⟨trivial,by rw [Uq hc2] <;> rfl⟩
 · intro vs i wr m hI u
   obtain ⟨rfl,rfl⟩:=hI;simp only[zF,zG] at m;simp only[zu,zF,zG];refine k6 _ _ ?_;try clear k6 K6
   refine wp_region_lit (aA (aU (m:=0) (n:=1) (r:=1) rfl rfl (by decide)) (aA (aB) (aF (aQ (aD fun K9 k9=>wp_region_lit (aA (bF (m:=1) (n:=3) rfl rfl (by decide)) (aF (k9 _ _ ?_))))))));try clear k9 K9
   refine aD fun K10 k10=>bK rfl (wp_skip (k10 _ _ ?_));try clear k10 K10
   refine aD fun K11 k11=>wp_block (aD fun K12 k12=>wp_region_lit (aA (aB) ?_));simp only[zz];refine aA (aG) (aF (k12 _ _ ?_));try clear k12 K12
   refine aD fun K13 k13=>?_;simp only[zz];refine mq m aM (by kernel_rfl) (aK (aB) (aK (aH bD aC rfl rfl (by decide) (by decide) rfl) ?_));simp only[zz];refine ql rfl (fun u m=>((m.b 3 rfl).lies aI aC rfl rfl)) ?_;simp only[zz,zy,Nat.zero_add,Nat.reduceAdd,Nat.reduceMul,Int.reduceToNat];refine ql rfl (fun u m=>((m.b 2 rfl).full aI aC)) ?_;simp only[zz];refine aK (cV rfl rfl) (bZ ?_);clear m;intro u m;refine k13 _ _ ?_;try clear k13 K13
   simp only[zz];refine iM m 3 [] [17,18,19] (fun vs i=>vs = [] ∧ i = bI g1 [.int .i64 (xX p q t.a).x,.int .i64 (xX p q t.a).y,.int .i64 (xX p q t.a).z,.int .i64 (xX p q t.b).x,.int .i64 (xX p q t.b).y,.int .i64 (xX p q t.b).z,.int .i64 (t.c).x,.int .i64 (t.c).y,.int .i64 (t.c).z] 39) ?_ ?_
   · skip
     refine cG rfl (fun hc2=>?_) (fun hc2=>?_)
     · skip
       refine wp_region_lit (aA (aB) ?_);simp only[zz];refine aJ rfl ((m.b 1 rfl).full aI aC) ?_;simp only[zz];refine aA (aH bD aC rfl rfl (by decide) (by decide) rfl) ?_;simp only[zz];refine aT m 3 rfl rfl rfl aC (cU rfl) rfl ?_;clear m;intro u m;simp only[zy,zx,bB,zF,zG,Nat.reduceAdd] at m;refine aF ?_;simp only[Exit.inBlock,Exit.then];refine ⟨_,_,rfl,?_,m,?_⟩
       · simp only[zz,zv]
       · simp only[zQ,zR,zD,zE]
         exact ⟨trivial,by rw [ab8 hc2] <;> rfl⟩
     · skip
       refine wp_skip ?_;simp only[Exit.inBlock,Exit.then];refine ⟨_,_,rfl,?_,m,?_⟩
       · simp only[zz,zv]
       · simp only[zQ,zR,zD,zE]
         exact ⟨trivial,by rw [Uq hc2] <;> rfl⟩
   · intro vs i wr m hI u
     obtain ⟨rfl,rfl⟩:=hI;simp only[zF,zG] at m;simp only[zu,zF,zG];refine k11 _ _ ?_;try clear k11 K11
     refine wp_region_lit (aA (aU (m:=1) (n:=1) (r:=2) rfl rfl (by decide)) (aA (aB) (aF (aQ (aD fun K14 k14=>wp_region_lit (aA (bF (m:=2) (n:=3) rfl rfl (by decide)) (aF (k14 _ _ ?_))))))));try clear k14 K14
     refine aD fun K15 k15=>bK rfl (wp_skip (k15 _ _ ?_));try clear k15 K15
     refine aD fun K16 k16=>wp_block (aD fun K17 k17=>wp_region_lit (aA (aB) ?_));simp only[zz];refine aA (aG) (aF (k17 _ _ ?_));try clear k17 K17
     refine aD fun K18 k18=>?_;simp only[zz];refine mq m aM (by kernel_rfl) (aK (aB) (aK (aH bD aC rfl rfl (by decide) (by decide) rfl) ?_));simp only[zz];refine ql rfl (fun u m=>((m.b 3 rfl).lies aI aC rfl rfl)) ?_;simp only[zz,zy,Nat.zero_add,Nat.reduceAdd,Nat.reduceMul,Int.reduceToNat];refine ql rfl (fun u m=>((m.b 2 rfl).full aI aC)) ?_;simp only[zz];refine aK (cV rfl rfl) (bZ ?_);clear m;intro u m;refine k18 _ _ ?_;try clear k18 K18
     simp only[zz];refine iM m 3 [] [17,18,19] (fun vs i=>vs = [] ∧ i = bI g1 [.int .i64 (xX p q t.a).x,.int .i64 (xX p q t.a).y,.int .i64 (xX p q t.a).z,.int .i64 (xX p q t.b).x,.int .i64 (xX p q t.b).y,.int .i64 (xX p q t.b).z,.int .i64 (xX p q t.c).x,.int .i64 (xX p q t.c).y,.int .i64 (xX p q t.c).z] 39) ?_ ?_
     · skip
       refine cG rfl (fun hc2=>?_) (fun hc2=>?_)
       · skip
         refine wp_region_lit (aA (aB) ?_);simp only[zz];refine aJ rfl ((m.b 1 rfl).full aI aC) ?_;simp only[zz];refine aA (aH bD aC rfl rfl (by decide) (by decide) rfl) ?_;simp only[zz];refine aT m 3 rfl rfl rfl aC (cU rfl) rfl ?_;clear m;intro u m;simp only[zy,zx,bB,zF,zG,Nat.reduceAdd] at m;refine aF ?_;simp only[Exit.inBlock,Exit.then];refine ⟨_,_,rfl,?_,m,?_⟩
         · simp only[zz,zv]
         · simp only[zQ,zR,zD,zE]
           exact ⟨trivial,by rw [ab8 hc2] <;> rfl⟩
       · skip
         refine wp_skip ?_;simp only[Exit.inBlock,Exit.then];refine ⟨_,_,rfl,?_,m,?_⟩
         · simp only[zz,zv]
         · simp only[zQ,zR,zD,zE]
           exact ⟨trivial,by rw [Uq hc2] <;> rfl⟩
     · intro vs i wr m hI u
       obtain ⟨rfl,rfl⟩:=hI;simp only[zF,zG] at m;simp only[zu,zF,zG];refine k16 _ _ ?_;try clear k16 K16
       refine wp_region_lit (aA (aU (m:=2) (n:=1) (r:=3) rfl rfl (by decide)) (aA (aB) (aF (aQ (aD fun K19 k19=>wp_region_lit (aA (dM (m:=3) (n:=3) rfl rfl (by decide)) (aF (k19 _ _ ?_))))))));try clear k19 K19
       refine aD fun K20 k20=>gA rfl (wp_exit (k2 _ _ ?_));try clear k2 K2
       refine aD fun K21 k21=>?_;simp only[zz];refine mh m [false,true,true,true] [(1,true),(3,true),(0,true),(2,true),(4,true),(5,true),(6,true),(7,true),(9,true),(8,true),(10,true),(11,true),(12,true),(13,true),(14,true),(16,true),(15,true),(17,true),(18,true),(19,true),(20,false),(21,true)] aM (by kernel_rfl) (cN (fun _ _ _ _ _ h=>h)) (ol:=?_) ?hol ?_
       case hol=>simp only[zw,zQ,zR];try rfl
       clear m;intro u m;refine aS (aH bD aC rfl rfl (by decide) (by decide) rfl) (aS (aH bD aC rfl rfl (by decide) (by decide) rfl) ?_);simp only[zz];refine cI rfl (fun u m=>((m.b 2 rfl).full bR aR)) ?_;simp only[zz];refine cI rfl (fun u m=>((m.b 2 rfl).lies aI aC rfl rfl)) ?_;simp only[zz,zy,Nat.zero_add,Nat.reduceAdd,Nat.reduceMul,Int.reduceToNat];refine cI rfl (fun u m=>((m.b 2 rfl).lies aI aC rfl rfl)) ?_;simp only[zz,zy,Nat.zero_add,Nat.reduceAdd,Nat.reduceMul,Int.reduceToNat];refine aS (gE rfl rfl) (aS (aB) (Ce rfl (fun hb=>aH bD aC rfl rfl (by decide) (by decide) rfl) (Ce rfl (fun hb=>aH bD aC rfl rfl (by decide) (by decide) rfl) ?_)));simp only[zz];refine yX rfl (fun hb u m=>bJ (bW hb rfl) ((m.b 2 rfl).lies aI aC rfl rfl)) ?_;simp only[zz,zy,Nat.zero_add,Nat.reduceAdd,Nat.reduceMul,Int.reduceToNat];refine yX rfl (fun hb u m=>bJ (bW hb rfl) ((m.b 2 rfl).lies aI aC rfl rfl)) ?_;simp only[zz,zy,Nat.zero_add,Nat.reduceAdd,Nat.reduceMul,Int.reduceToNat];refine Ce rfl (fun hb=>gE (bW hb rfl) (bW hb rfl)) (aS (eS rfl rfl rfl) (aS (aB) (Ce rfl (fun hb=>aH bD aC rfl rfl (by decide) (by decide) rfl) ?_)));simp only[zz];refine Ce rfl (fun hb=>aH bD aC rfl rfl (by decide) (by decide) rfl) ?_;simp only[zz];refine yX rfl (fun hb u m=>bJ (bW hb rfl) ((m.b 2 rfl).lies aI aC rfl rfl)) ?_;simp only[zz,zy,Nat.zero_add,Nat.reduceAdd,Nat.reduceMul,Int.reduceToNat];refine yX rfl (fun hb u m=>bJ (bW hb rfl) ((m.b 2 rfl).lies aI aC rfl rfl)) ?_;simp only[zz,zy,Nat.zero_add,Nat.reduceAdd,Nat.reduceMul,Int.reduceToNat];refine Ce rfl (fun hb=>gE (bW hb rfl) (bW hb rfl)) (aS (eS rfl rfl rfl) (cJ ?_));simp only[zz];refine aT m 0 rfl rfl rfl aR (cU rfl) rfl ?_;clear m;intro u m;simp only[zy,zx,bB,zF,zG,Nat.reduceAdd] at m;refine aF (⟨m.sel [false,true,true,true],?_⟩);refine aS (aG) (aY (k21 _ _ ?_));try clear k21 K21
       refine wp_ret ?_;simp only[zz];try simp only[Exit.inBlock,Exit.then,if_true]
       refine uA rfl ⟨_,rfl,((m.b 0 rfl).full bR aR)⟩ rfl ?_;try simp only[zD,zE]
       exact ⟨_,rfl,m.ext,by rw [pne,pne,pne] <;> rfl⟩
end Go.Proofs.YtfekpcimgncioaaGreatDoor
namespace Go.Proofs.YtfekpcimgncioaaGreatDoor
open Go.Proofs.Tryz
open Go.RowKit Go.Lith
set_option maxRecDepth 100000
attribute [local irreducible] wpList wpQuiet dB bL cE Code.wp
theorem aaa {p q : P3} {ts : List T3} {k : Nat} {t : T3} (h : ts[k]? = some t) : vC p q (ts.take (k + 1)) = vC p q (ts.take k) ++ if (pU p q t).nd then [pU p q t] else []:=by
 rw [cQ h];unfold vC;rw [List.map_append,List.filter_append]
 congr 1
 rw [List.map_cons,List.map_nil,List.filter_cons,List.filter_nil]
theorem Cz {p q x : P3} (hq : I3 q) (hx : I3 x) : I3 (xX p q x):=by
 unfold xX;split
 · exact hq
 · exact hx
theorem Wx {p q : P3} {ts : List T3} (hq : I3 q) (h : ∀ t ∈ ts,IT t) : ∀ t ∈ vC p q ts,IT t:=fun t ht=>by
 obtain ⟨s,hs,rfl⟩:=List.mem_map.1 (List.mem_filter.1 ht).1;have:=h s hs;exact ⟨Cz hq this.a,Cz hq this.b,Cz hq this.c⟩
theorem ab9 {p q : P3} (ts : List T3) : (wM ts p q).length = (vC p q ts).length:=oU _
theorem yA {ts : List T3} {N cap : Nat} {A : Option Addr} {p q : P3} [I3 p] [I3 q] (w : World) (hT : bY w A N ts) (hN : N ≤ 10000000) : eG prog 22 [.slice A N cap,pt p,pt q] w (SL 39 9 ((wM ts p q).flatMap aW) (wM ts p q).length w):=by
 refine ⟨aiW,?_⟩;have m:=Mem.refl w;have htl:=hT.len
 go_enter func22,ntmps22
 refine aD fun K1 k1=>wp_region_lit (cB m rfl ?_);clear m;intro g1 u m;simp only[zz];refine cB m rfl ?_;clear m;intro g2 u m;refine aA (aG) (aF (k1 _ _ ?_));try clear k1 K1
 refine aD fun K2 k2=>wp_region_lit (aA (aG) ?_);replace m:=m.nilO 39 9;refine aF (k2 _ _ ?_);try clear k2 K2
 refine aD fun K3 k3=>aD fun K4 k4=>wp_region_lit (aA (aB) ?_);simp only[zz];refine aA (bH rfl bQ rfl) (aA (aB) (aF (k4 _ _ ?_)));try clear k4 K4
 refine wp_block ?_;simp only[zz];try simp only[Nat.zero_add,Nat.reduceAdd,Nat.reduceMul,Int.reduceToNat]
 refine bT [7,14] [9,10,11,15,16,17,18,19,20,21,22,23,24,25,26,27,28,29,30] (fun n vs wl=>∃ (k : Nat) (A7 : Option Addr) (cap7 : Nat),vs = [.slice A7 (vC p q (ts.take k)).length cap7,.int .i64 (k:Int)] ∧ Mem w wl [oI 39 9 A7 (vC p q (ts.take k)).length cap7 ((vC p q (ts.take k)).flatMap aW),bI g2 [.int .i64 q.x,.int .i64 q.y,.int .i64 q.z] 30,bI g1 [.int .i64 p.x,.int .i64 p.y,.int .i64 p.z] 30] ∧ (k ≤ N) ∧ (n = N - k)) ?_ ?_
 · skip
   apply Exists.intro;simp only[zQ,zR,zD,zE];exact ⟨0,_,_,rfl,m,Nat.zero_le _,rfl⟩
 · intro n vs wr hI u
   clear m;obtain ⟨k,A7,cap7,rfl,m,hk,hn⟩:=hI;simp only[zu,zF,zG];refine aD fun K5 k5=>wp_region_lit (aA (cW rfl rfl) (aF (k5 _ _ ?_)));try clear k5 K5
   refine aD fun K6 k6=>?_;simp only[zz];refine cG rfl (fun hc1=>?_) (fun hc1=>?_)
   · skip
     obtain ⟨t,ht,_,a,rfl,hrow⟩:=hT.get (i:=k) (by omega);have hcs:=aaa (p:=p) (q:=q) ht;have hcl:=Wm p q (ts.take k);rw [List.length_take] at hcl;refine wp_skip (k6 _ _ ?_);try clear k6 K6
     refine aD fun K7 k7=>wp_block (aD fun K8 k8=>wp_region_lit (aA (aN bQ aR rfl rfl (by omega) (by omega) (dC (Int.toNat_natCast _))) ?_));simp only[zz];refine aJ rfl ((hrow.ext m.ext).lies bR aR) ?_;simp only[zz];refine bA m fP rfl ?_;clear m;intro g3 u m;simp only[zz];refine aT m 0 rfl rfl rfl aR (cU rfl) rfl ?_;clear m;intro u m;simp only[zy,zx,bB,zF,zG,Nat.reduceAdd] at m;refine aF (k8 _ _ ?_);try clear k8 K8
     refine aD fun K9 k9=>wp_region_lit (aJ rfl ((m.b 0 rfl).full bR aR) ?_);simp only[zz];refine aJ rfl ((m.b 3 rfl).full aI aC) ?_;simp only[zz];refine aJ rfl ((m.b 2 rfl).full aI aC) ?_;simp only[zz];refine dH m rfl rfl (Ww (t:=t) (p:=p) (q:=q)) ?_;clear m;intro u m;refine aA (aB) (aA (bC rfl rfl) (aA (bC rfl rfl) ?_));simp only[zz];refine bA m fP rfl ?_;clear m;intro g4 u m;simp only[zz];refine aT m 0 rfl rfl rfl aR (cU rfl) rfl ?_;clear m;intro u m;simp only[zy,zx,bB,zF,zG,Nat.reduceAdd] at m;refine aA (aG) (aF (k9 _ _ ?_));try clear k9 K9
     refine aD fun K10 k10=>wp_region_lit (aA (aB) (aF (k10 _ _ ?_)));try clear k10 K10
     simp only[zz];refine eD rfl (fun hc2=>?_) (fun hc2=>?_)
     · skip
       rw [hc2,if_pos rfl] at hcs;refine wp_region_lit (aA (aB) ?_);simp only[zz];refine aJ rfl ((m.b 0 rfl).full bR aR) ?_;simp only[zz];refine eT rfl ?_;intro u g5 e hg hB;replace m:=m.newB e hg hB;clear e hg hB;simp only[zz];refine dD m 3 rfl rfl bQ iK rfl (by decide) rfl rfl rfl (m.b 0 rfl).rowsO (jZ rfl) (by omega) (by omega) ?_;clear m;intro A7 cap7 u m;simp only[zF,zG] at m;rw [show (vC p q (ts.take k)).flatMap aW ++ _ = (vC p q (ts.take (k + 1))).flatMap aW by rw [hcs,List.flatMap_append];rfl] at m;have hll : (vC p q (ts.take k)).length + 1 = (vC p q (ts.take (k + 1))).length:=by rw [hcs,List.length_append];rfl
       rw [hll] at m;rw [hll];refine aA (aG) (aF (k7 _ _ ?_));try clear k7 K7
       refine wp_region_lit ?_;simp only[zz];refine aA (aU rfl rfl (aV (by omega) (by omega))) (aA (aB) (aF ?_));simp only[zz];simp only[Exit.inBlock,Exit.then];refine ⟨N - (k + 1),_,?_,rfl,?_,?_⟩
       · omega
       · simp only[zz,zv]
       · simp only[zQ,zR,zD,zE]
         exact ⟨k + 1,_,_,rfl,(m.sel [false,false,false,true,true,true]),by omega,rfl⟩
     · skip
       rw [hc2,if_neg Bool.false_ne_true,List.append_nil] at hcs;refine wp_skip (k7 _ _ ?_);try clear k7 K7
       refine wp_region_lit (aA (aU rfl rfl (aV (by omega) (by omega))) (aA (aB) (aF ?_)));simp only[zz];rw [← hcs] at m ⊢;simp only[Exit.inBlock,Exit.then];refine ⟨N - (k + 1),_,?_,rfl,?_,?_⟩
       · omega
       · simp only[zz,zv]
       · simp only[zQ,zR,zD,zE]
         exact ⟨k + 1,_,_,rfl,(m.sel [false,false,true,true,true]),by omega,rfl⟩
   · skip
     obtain rfl : k = N:=by omega
     rw [show ts.take k = ts from List.take_of_length_le (by omega)] at m ⊢;refine wp_exit (k3 _ _ ?_);try clear k3 K3
     refine aD fun K11 k11=>wp_region_lit (aA (aB) ?_);simp only[zz];refine cD rfl rfl (Qz (ts:=vC p q ts) _ ((m.o 0 rfl).tris (Wx inferInstance hT.it)) (by have:=Wm p q ts;omega)) ?_;rintro v u e ⟨A8,cap8,n8,hn8,rfl,hN⟩;replace m:=m.newO e hN;clear e hN;refine aA (aG) (aF (k11 _ _ ?_));try clear k11 K11
     refine wp_ret ?_;simp only[zz];try simp only[Exit.inBlock,Exit.then,if_true]
     refine bE rfl rfl ?_;try simp only[zD,zE]
     exact ⟨_,rfl,m.ext,⟨_,_,_,by rw [hn8,ab9],rfl,(m.o 0 rfl)⟩⟩
end Go.Proofs.YtfekpcimgncioaaGreatDoor
namespace Go.Lith
open Go.RowKit
def lL (D : List (P3 × Hd)) (p : P3) : Hd:=(cK D p).getD ⟨none,0,0⟩
def Ra (p : P3) (q : P3) : List P3:=if q ≠ p then [q] else []
def nbT (p : P3) (t : T3) : List P3:=Ra p t.a ++ Ra p t.b ++ Ra p t.c
def kF (ts : List T3) (p : P3) : List P3:=(ts.filter fun t=>t.has p).flatMap (nbT p)
theorem wF {p q x : P3} : x ∈ Ra p q ↔ x = q ∧ x ≠ p:=by
 unfold Ra;split
 · rename_i h;rw [List.mem_singleton];exact ⟨fun e=>⟨e,e ▸ h⟩,fun e=>e.1⟩
 · rename_i h;exact ⟨fun e=>(by cases e),fun e=>absurd (e.1 ▸ e.2) h⟩
theorem nD {ts : List T3} {p x : P3} : x ∈ kF ts p ↔ Mw ts p x = true:=by
 unfold kF;rw [My,Ax,List.mem_flatMap];constructor
 · rintro ⟨t,ht,hx⟩
   obtain ⟨h1,h2⟩:=List.mem_filter.1 ht;unfold nbT at hx;rw [List.mem_append,List.mem_append,wF,wF,wF] at hx;have hne : x ≠ p:=by rcases hx with (h | h) | h <;> exact h.2
   have hh : t.has x = true:=lX.2 (by rcases hx with (h | h) | h <;> simp [h.1]);exact ⟨hne,t,h1,h2,hh⟩
 · rintro ⟨hne,t,h1,h2,hh⟩
   refine ⟨t,List.mem_filter.2 ⟨h1,h2⟩,?_⟩;unfold nbT;rw [List.mem_append,List.mem_append,wF,wF,wF];rcases lX.1 hh with e | e | e
   · exact .inl (.inl ⟨e,hne⟩)
   · exact .inl (.inr ⟨e,hne⟩)
   · exact .inr ⟨e,hne⟩
theorem aca {p q : P3} (h : ¬ (q.x = p.x ∧ q.y = p.y ∧ q.z = p.z)) : Ra p q = [q]:=if_pos fun e=>h (by rw [e];exact ⟨rfl,rfl,rfl⟩)
theorem acb {p q : P3} (h : ¬ ¬ (q.x = p.x ∧ q.y = p.y ∧ q.z = p.z)) : Ra p q = []:=if_neg fun k=>h fun e=>k (P3.eq e.1 e.2.1 e.2.2)
theorem acc {fs : List T3} {p : P3} {k : Nat} {t : T3} (h : fs[k]? = some t) : (fs.take (k + 1)).flatMap (nbT p) = (fs.take k).flatMap (nbT p) ++ Ra p t.a ++ Ra p t.b ++ Ra p t.c:=by
 rw [cQ h,List.flatMap_append,List.flatMap_cons,List.flatMap_nil,List.append_nil];unfold nbT;simp only[List.append_assoc]
end Go.Lith
namespace Go.Lith
open Go.RowKit
theorem bS {P : Program} {l : List Value} {x : Operand} {ty : TypeId} {a : Addr} (hx : ev l x = .pointer (some a)) : fC P l (.nilCheck x) ty (.pointer (some a)):=fun w o ho _=>by
 simp [execOp,ho,cM,hx]
end Go.Lith
namespace Go.Proofs.YtfekpcimgncioaaGreatDoor
open Go.Proofs.Tryz
open Go.RowKit Go.Lith
set_option maxRecDepth 100000
attribute [local irreducible] wpList wpQuiet dB bL cE Code.wp
theorem Nj {g90 ga gf N cap ca : Nat} {A : Option Addr} {ea : Array MapEntry} {D : List (P3 × Hd)} {ts : List T3} {p : P3} (w : World) (hB90 : fF w g90 [.slice A N cap,.map (some ga),.map (some gf)] 109) (hMa : gC w ga ea ca) (hDa : bP pt Hd.v D ea ca) (hS : ∀ p,bY w (lL D p).A (lL D p).n (ts.filter fun t=>t.has p) ∧ (lL D p).n ≤ (lL D p).cap) (hN : ts.length ≤ 10000000) : eG prog 62 [.pointer (some ⟨g90,0,none⟩),pt p] w (fun v w'=>∃ g es c,v = .map (some g) ∧ Mem w w' [mI g es c] ∧ bP pt Value.bool (fB [] (kF ts p)) es c):=by
 refine ⟨ajg,?_⟩;have m:=Mem.refl w
 go_enter func62,ntmps62
 refine aD fun K1 k1=>wp_region_lit (cB m rfl ?_);clear m;intro g1 u m;refine aA (aG) (aF (k1 _ _ ?_));try clear k1 K1
 refine aD fun K2 k2=>wp_region_lit ?_;simp only[zz];refine jA m ?_;clear m;intro q8 u m;have hD8:=bP.nil (K:=P3) (V:=Bool) pt Value.bool;refine aA (aG) (aF (k2 _ _ ?_));try clear k2 K2
 refine aD fun K3 k3=>aD fun K4 k4=>?_;simp only[zz];refine mq m aM (by kernel_rfl) (aK (aB) (aK (bS rfl) (aK (aL (c:=0) pK rfl vX rfl rfl) ?_)));simp only[zz];refine ql rfl (fun u m=>((hB90.ext m.ext).lies1 Mg rfl)) ?_;simp only[zz];refine ql rfl (fun u m=>((m.b 1 rfl).full aI aC)) ?_;simp only[zz];refine gZ (fun u m=>dV (ek:=pt) (en:=Hd.v) (k:=p) (v0:=⟨none,0,0⟩) underlying106 We fD rfl rfl (hMa.ext m.ext) hDa) ?_;simp only[zz];refine aK (bH rfl bQ rfl) (aK (aB) (bZ ?_));clear m;intro u m;simp only[zz];obtain ⟨⟨A9,n9,cap9⟩,hhe⟩ : ∃ h : Hd,h = (cK D p).getD ⟨none,0,0⟩:=⟨_,rfl⟩
 have hT9:=hS p;unfold lL at hT9;rw [← hhe] at hT9;obtain ⟨hT9,hle9⟩:=hT9;simp only at hT9 hle9;have hl9:=hT9.len;have hfl:=List.length_filter_le (fun t=>T3.has t p) ts;rw [← hhe];simp only[Hd.v];refine k4 _ _ ?_;try clear k4 K4
 refine wp_block ?_;try simp only[Nat.zero_add,Nat.reduceAdd,Nat.reduceMul,Int.reduceToNat]
 refine bT [18] [7,9,19,20,21,22,23,24,25,26,27,28,29,30,31,32] (fun n vs wl=>∃ (k : Nat) (es : Array MapEntry) (c : Nat),vs = [.int .i64 (k:Int)] ∧ Mem w wl [mI q8 es c,bI g1 [.int .i64 p.x,.int .i64 p.y,.int .i64 p.z] 30] ∧ (bP pt Value.bool (fB [] (((ts.filter fun t=>t.has p).take k).flatMap (nbT p))) es c) ∧ (k ≤ n9) ∧ (n = n9 - k)) ?_ ?_
 · skip
   apply Exists.intro;simp only[zQ,zR,zD,zE];exact ⟨0,_,_,rfl,m,hD8,Nat.zero_le _,rfl⟩
 · intro n vs wr hI u
   clear m;obtain ⟨k,es8,c8,rfl,m,hD8,hk,hn⟩:=hI;simp only[zu,zF,zG];refine aD fun K5 k5=>wp_region_lit (aA (cW rfl rfl) (aF (k5 _ _ ?_)));try clear k5 K5
   refine aD fun K6 k6=>?_;simp only[zz];refine cG rfl (fun hc1=>?_) (fun hc1=>?_)
   · skip
     obtain ⟨t,ht,_,a,rfl,hrow⟩:=hT9.get (i:=k) (by omega);refine wp_skip (k6 _ _ ?_);try clear k6 K6
     refine aD fun K7 k7=>wp_block (aD fun K8 k8=>wp_region_lit (aA (aN bQ aR rfl rfl (by omega) (by omega) (dC (Int.toNat_natCast _))) ?_));simp only[zz];refine aJ rfl ((hrow.ext m.ext).lies bR aR) ?_;simp only[zz];refine bA m fP rfl ?_;clear m;intro g3 u m;simp only[zz];refine aT m 0 rfl rfl rfl aR (cU rfl) rfl ?_;clear m;intro u m;simp only[zy,zx,bB,zF,zG,Nat.reduceAdd] at m;refine aF (k8 _ _ ?_);try clear k8 K8
     refine aD fun K9 k9=>wp_region_lit (aJ rfl ((m.b 0 rfl).full bR aR) ?_);simp only[zz];refine aA (aB) (aF (k9 _ _ ?_));try clear k9 K9
     refine wp_block (wp_loop_rounds 4 (bU (aD fun K10 k10=>wp_region_lit (aA (bF (m:=0) (n:=3) rfl rfl (by decide)) (aF (k10 _ _ ?_))))));try clear k10 K10
     refine aD fun K11 k11=>bK rfl (wp_skip (k11 _ _ ?_));try clear k11 K11
     refine aD fun K12 k12=>wp_block (aD fun K13 k13=>wp_region_lit (aA (oE rfl rfl) ?_));simp only[zz];refine bA m bO rfl ?_;clear m;intro g4 u m;simp only[zz];refine aT m 0 rfl rfl rfl aC (cU rfl) rfl ?_;clear m;intro u m;simp only[zy,zx,bB,zF,zG,Nat.reduceAdd] at m;refine aF (k13 _ _ ?_);try clear k13 K13
     refine aD fun K14 k14=>wp_region_lit (aJ rfl ((m.b 0 rfl).full aI aC) ?_);simp only[zz];refine aJ rfl ((m.b 3 rfl).full aI aC) ?_;simp only[zz];refine aA (gE rfl rfl) (aF (k14 _ _ ?_));try clear k14 K14
     simp only[zz];refine iM m 2 [] [29,30] (fun vs i=>∃ (es : Array MapEntry) (c : Nat),vs = [] ∧ i = mI q8 es c ∧ (bP pt Value.bool (fB [] ((((ts.filter fun t=>t.has p).take k).flatMap (nbT p)) ++ Ra p t.a)) es c)) ?_ ?_
     · skip
       refine cG rfl (fun hc3=>?_) (fun hc3=>?_)
       · skip
         refine wp_region_lit (aA (aB) ?_);simp only[zz];refine aJ rfl ((m.b 0 rfl).full aI aC) ?_;simp only[zz];refine kD (ek:=pt) (en:=Value.bool) (a:=t.a) (v:=true) m 2 rfl kI fD rfl rfl rfl hD8 ?_;clear m;intro es8 c8 u m hD';clear hD8;have hD8:=hD';clear hD';simp only[zF,zG] at m;rw [← jE] at hD8;refine aF ?_;simp only[Exit.inBlock,Exit.then];refine ⟨_,_,rfl,?_,m,?_⟩
         · simp only[zz,zv]
         · simp only[zQ,zR,zD,zE]
           exact ⟨_,_,trivial,rfl,by rw [aca hc3];exact hD8⟩
       · skip
         refine wp_skip ?_;simp only[Exit.inBlock,Exit.then];refine ⟨_,_,rfl,?_,m,?_⟩
         · simp only[zz,zv]
         · simp only[zQ,zR,zD,zE]
           exact ⟨_,_,trivial,rfl,by rw [acb hc3,List.append_nil];exact hD8⟩
     · intro vs i wr m hI u
       obtain ⟨es8,c8,rfl,rfl,hD8⟩:=hI;simp only[zF,zG] at m;simp only[zu,zF,zG];refine k12 _ _ ?_;try clear k12 K12
       refine wp_region_lit (aA (aU (m:=0) (n:=1) (r:=1) rfl rfl (by decide)) (aA (aB) (aF (aQ (aD fun K15 k15=>wp_region_lit (aA (bF (m:=1) (n:=3) rfl rfl (by decide)) (aF (k15 _ _ ?_))))))));try clear k15 K15
       refine aD fun K16 k16=>bK rfl (wp_skip (k16 _ _ ?_));try clear k16 K16
       refine aD fun K17 k17=>wp_block (aD fun K18 k18=>wp_region_lit (aA (oF rfl rfl) ?_));simp only[zz];refine bA m bO rfl ?_;clear m;intro g5 u m;simp only[zz];refine aT m 0 rfl rfl rfl aC (cU rfl) rfl ?_;clear m;intro u m;simp only[zy,zx,bB,zF,zG,Nat.reduceAdd] at m;refine aF (k18 _ _ ?_);try clear k18 K18
       refine aD fun K19 k19=>wp_region_lit (aJ rfl ((m.b 0 rfl).full aI aC) ?_);simp only[zz];refine aJ rfl ((m.b 4 rfl).full aI aC) ?_;simp only[zz];refine aA (gE rfl rfl) (aF (k19 _ _ ?_));try clear k19 K19
       simp only[zz];refine iM m 3 [] [29,30] (fun vs i=>∃ (es : Array MapEntry) (c : Nat),vs = [] ∧ i = mI q8 es c ∧ (bP pt Value.bool (fB [] (((((ts.filter fun t=>t.has p).take k).flatMap (nbT p)) ++ Ra p t.a) ++ Ra p t.b)) es c)) ?_ ?_
       · skip
         refine cG rfl (fun hc3=>?_) (fun hc3=>?_)
         · skip
           refine wp_region_lit (aA (aB) ?_);simp only[zz];refine aJ rfl ((m.b 0 rfl).full aI aC) ?_;simp only[zz];refine kD (ek:=pt) (en:=Value.bool) (a:=t.b) (v:=true) m 3 rfl kI fD rfl rfl rfl hD8 ?_;clear m;intro es8 c8 u m hD';clear hD8;have hD8:=hD';clear hD';simp only[zF,zG] at m;rw [← jE] at hD8;refine aF ?_;simp only[Exit.inBlock,Exit.then];refine ⟨_,_,rfl,?_,m,?_⟩
           · simp only[zz,zv]
           · simp only[zQ,zR,zD,zE]
             exact ⟨_,_,trivial,rfl,by rw [aca hc3];exact hD8⟩
         · skip
           refine wp_skip ?_;simp only[Exit.inBlock,Exit.then];refine ⟨_,_,rfl,?_,m,?_⟩
           · simp only[zz,zv]
           · simp only[zQ,zR,zD,zE]
             exact ⟨_,_,trivial,rfl,by rw [acb hc3,List.append_nil];exact hD8⟩
       · intro vs i wr m hI u
         obtain ⟨es8,c8,rfl,rfl,hD8⟩:=hI;simp only[zF,zG] at m;simp only[zu,zF,zG];refine k17 _ _ ?_;try clear k17 K17
         refine wp_region_lit (aA (aU (m:=1) (n:=1) (r:=2) rfl rfl (by decide)) (aA (aB) (aF (aQ (aD fun K20 k20=>wp_region_lit (aA (bF (m:=2) (n:=3) rfl rfl (by decide)) (aF (k20 _ _ ?_))))))));try clear k20 K20
         refine aD fun K21 k21=>bK rfl (wp_skip (k21 _ _ ?_));try clear k21 K21
         refine aD fun K22 k22=>wp_block (aD fun K23 k23=>wp_region_lit (aA (oG rfl rfl) ?_));simp only[zz];refine bA m bO rfl ?_;clear m;intro g6 u m;simp only[zz];refine aT m 0 rfl rfl rfl aC (cU rfl) rfl ?_;clear m;intro u m;simp only[zy,zx,bB,zF,zG,Nat.reduceAdd] at m;refine aF (k23 _ _ ?_);try clear k23 K23
         refine aD fun K24 k24=>wp_region_lit (aJ rfl ((m.b 0 rfl).full aI aC) ?_);simp only[zz];refine aJ rfl ((m.b 5 rfl).full aI aC) ?_;simp only[zz];refine aA (gE rfl rfl) (aF (k24 _ _ ?_));try clear k24 K24
         simp only[zz];refine iM m 4 [] [29,30] (fun vs i=>∃ (es : Array MapEntry) (c : Nat),vs = [] ∧ i = mI q8 es c ∧ (bP pt Value.bool (fB [] ((((((ts.filter fun t=>t.has p).take k).flatMap (nbT p)) ++ Ra p t.a) ++ Ra p t.b) ++ Ra p t.c)) es c)) ?_ ?_
         · skip
           refine cG rfl (fun hc3=>?_) (fun hc3=>?_)
           · skip
             refine wp_region_lit (aA (aB) ?_);simp only[zz];refine aJ rfl ((m.b 0 rfl).full aI aC) ?_;simp only[zz];refine kD (ek:=pt) (en:=Value.bool) (a:=t.c) (v:=true) m 4 rfl kI fD rfl rfl rfl hD8 ?_;clear m;intro es8 c8 u m hD';clear hD8;have hD8:=hD';clear hD';simp only[zF,zG] at m;rw [← jE] at hD8;refine aF ?_;simp only[Exit.inBlock,Exit.then];refine ⟨_,_,rfl,?_,m,?_⟩
             · simp only[zz,zv]
             · simp only[zQ,zR,zD,zE]
               exact ⟨_,_,trivial,rfl,by rw [aca hc3];exact hD8⟩
           · skip
             refine wp_skip ?_;simp only[Exit.inBlock,Exit.then];refine ⟨_,_,rfl,?_,m,?_⟩
             · simp only[zz,zv]
             · simp only[zQ,zR,zD,zE]
               exact ⟨_,_,trivial,rfl,by rw [acb hc3,List.append_nil];exact hD8⟩
         · intro vs i wr m hI u
           obtain ⟨es8,c8,rfl,rfl,hD8⟩:=hI;simp only[zF,zG] at m;simp only[zu,zF,zG];refine k22 _ _ ?_;try clear k22 K22
           refine wp_region_lit (aA (aU (m:=2) (n:=1) (r:=3) rfl rfl (by decide)) (aA (aB) (aF (aQ (aD fun K25 k25=>wp_region_lit (aA (dM (m:=3) (n:=3) rfl rfl (by decide)) (aF (k25 _ _ ?_))))))));try clear k25 K25
           refine aD fun K26 k26=>gA rfl (wp_exit (k7 _ _ ?_));try clear k7 K7
           refine wp_region_lit ?_;simp only[zz];refine aA (aU rfl rfl (aV (by omega) (by omega))) (aA (aB) (aF ?_));simp only[zz];simp only[Exit.inBlock,Exit.then];refine ⟨n9 - (k + 1),_,?_,rfl,?_,?_⟩
           · omega
           · simp only[zz,zv]
           · simp only[zQ,zR,zD,zE]
             exact ⟨k + 1,_,_,rfl,(m.sel [false,false,false,false,true,true]),by rw [acc ht];exact hD8,by omega,rfl⟩
   · skip
     obtain rfl : k = n9:=by omega
     rw [show (ts.filter fun t=>t.has p).take k = ts.filter fun t=>t.has p from List.take_of_length_le (by omega)] at hD8;refine wp_exit (k3 _ _ ?_);try clear k3 K3
     refine aD fun K27 k27=>wp_region_lit (aA (aB) (aA (aG) (aF (k27 _ _ ?_))));try clear k27 K27
     refine wp_ret ?_;simp only[zz];try simp only[Exit.inBlock,Exit.then,if_true]
     refine bE rfl rfl ?_;try simp only[zD,zE]
     exact ⟨_,rfl,m.ext,_,_,_,rfl,m.sel [true,false],hD8⟩
end Go.Proofs.YtfekpcimgncioaaGreatDoor
namespace Go.Proofs.YtfekpcimgncioaaGreatDoor
open Go.Proofs.Tryz
open Go.RowKit Go.Lith
set_option maxRecDepth 100000
attribute [local irreducible] wpList wpQuiet dB Code.wp
end Go.Proofs.YtfekpcimgncioaaGreatDoor
namespace Go.Proofs.YtfekpcimgncioaaGreatDoor
open Go.Proofs.Tryz
open Go.RowKit Go.Lith
set_option maxRecDepth 100000
attribute [local irreducible] wpList wpQuiet dB Code.wp
end Go.Proofs.YtfekpcimgncioaaGreatDoor
namespace Go.Proofs.YtfekpcimgncioaaGreatDoor
open Go.Proofs.Tryz
open Go.RowKit Go.Lith
set_option maxRecDepth 100000
attribute [local irreducible] wpList wpQuiet dB Code.wp
end Go.Proofs.YtfekpcimgncioaaGreatDoor
namespace Go.Proofs.YtfekpcimgncioaaGreatDoor
open Go.Proofs.Tryz
open Go.RowKit Go.Lith
set_option maxRecDepth 100000
attribute [local irreducible] wpList wpQuiet dB Code.wp
end Go.Proofs.YtfekpcimgncioaaGreatDoor
namespace Go.Proofs.YtfekpcimgncioaaGreatDoor
open Go.Proofs.Tryz
open Go.RowKit Go.Lith
set_option maxRecDepth 100000
attribute [local irreducible] wpList wpQuiet dB Code.wp
end Go.Proofs.YtfekpcimgncioaaGreatDoor
namespace Go.Proofs.YtfekpcimgncioaaGreatDoor
open Go.Proofs.Tryz
open Go.RowKit Go.Lith
set_option maxRecDepth 100000
attribute [local irreducible] wpList wpQuiet dB Code.wp
end Go.Proofs.YtfekpcimgncioaaGreatDoor
namespace Go.Proofs.YtfekpcimgncioaaGreatDoor
open Go.Proofs.Tryz
open Go.RowKit Go.Lith
set_option maxRecDepth 100000
attribute [local irreducible] wpList wpQuiet dB Code.wp
end Go.Proofs.YtfekpcimgncioaaGreatDoor
namespace Go.Proofs.YtfekpcimgncioaaGreatDoor
open Go.Proofs.Tryz
open Go.RowKit Go.Lith
set_option maxRecDepth 100000
attribute [local irreducible] wpList wpQuiet dB Code.wp
theorem Hp {l : List UInt8} (hl : l.length ≤ 1000000000000000) : eQ prog 315 [.string (lG l),.int .u8 0] (.string (lG (pF l))):=by
 intro w;refine ⟨ahb,?_⟩;have hX:=eB.refl w
 go_enter func315,ntmps315
 refine aD (fun K1 hK1=>wp_region_lit (aA (aG) ?_));simp only[zz];refine aF (hK1 _ _ ?_);refine aD (fun K2 hK2=>wp_block ?_);refine bT [0] [5,6,7,8,9,10,11,12,13,14,15] (fun n vs wl=>∃ (k : List UInt8),vs = [.string (lG k)] ∧ (eB w wl) ∧ (pF k = pF l) ∧ (k.length ≤ 1000000000000000) ∧ (n = k.length)) ?_ ?_
 ·
  apply Exists.intro;simp only[zQ,zR,zD,zE];exact ⟨l,rfl,hX,rfl,hl,rfl⟩
 ·
  intro n vs wr hI u;obtain ⟨k,rfl,hX,hk,hl,hn⟩:=hI;have hsz:=xN k;simp only[zu,zF,zG];refine aD (fun K3 hK3=>aD (fun K4 hK4=>?_));by_cases hk0 : 0 < k.length
  ·
   obtain ⟨b,hb⟩ : ∃ b,k[0]? = some b:=⟨k[0],List.getElem?_eq_getElem hk0⟩
   refine wp_region_lit (aA (aB) (aA (rI rfl mX rfl) (aA (aaG rfl rfl (by omega)) ?_)));simp only[zz];refine aA (aB) ?_;simp only[zz];refine bM rfl (aA (aB) ?_);simp only[zz];refine bM rfl ?_;refine aA ((pA mX rfl rfl (by omega) (by rw [Ya];exact hb))) ?_;simp only[zz];refine bM rfl (aA (aB) ?_);simp only[zz];refine bM rfl (aA (tY rfl rfl) (aA (eK rfl) ?_));simp only[zz];refine aF (hK4 _ _ ?_);refine cG rfl (fun hc1=>?_) (fun hc1=>?_)
   ·
    refine wp_skip ?_;refine hK3 _ _ (wp_block (wp_region_lit (aA (aB) (aA (aaF mX rfl rfl (by omega) (by omega)) (aA (aG) ?_)))));simp only[zz];refine aF ?_;rw [show (1 : Int).toNat = 1 from rfl,Sq];simp only[Exit.inBlock,Exit.then];refine ⟨(k.drop 1).length,_,?_,rfl,?_,?_⟩
    · rw [List.length_drop];omega
    · simp only[zz,zv]
    ·
     simp only[zQ,zR,zD,zE];exact ⟨k.drop 1,rfl,hX,by rw [Sr hb (by omega)];exact hk,by rw [List.length_drop];omega,rfl⟩
   ·
    refine wp_exit ?_;refine hK2 _ _ (aD (fun K5 hK5=>wp_region_lit (aA (aB) (aA (aG) ?_))));simp only[zz];refine aF (hK5 _ _ ?_);refine wp_ret ?_;try simp only[Exit.inBlock,Exit.then]
    refine bE rfl rfl ?_;try simp only[zD,zE]
    exact ⟨_,rfl,hX,by rw [← hk,Ss hb (by omega)]⟩
  ·
   obtain rfl : k = []:=List.eq_nil_of_length_eq_zero (by omega);refine wp_region_lit (aA (aB) (aA (rI rfl mX rfl) (aA (aaH rfl rfl (by omega)) ?_)));simp only[zz];refine aA (aB) ?_;simp only[zz];refine dY rfl ?_;simp only[zz];refine dY rfl ?_;simp only[zz];refine dY rfl ?_;simp only[zz];refine dY rfl ?_;simp only[zz];refine aA (iB rfl) ?_;simp only[zz];refine aF (hK4 _ _ ?_);refine gA rfl (wp_exit ?_);refine hK2 _ _ (aD (fun K6 hK6=>wp_region_lit (aA (aB) (aA (aG) ?_))));simp only[zz];refine aF (hK6 _ _ ?_);refine wp_ret ?_;try simp only[Exit.inBlock,Exit.then]
   refine bE rfl rfl ?_;try simp only[zD,zE]
   exact ⟨_,rfl,hX,by rw [← hk,Yb]⟩
theorem Ur {l : List UInt8} (hl : l.length ≤ 1000000000000000) : eQ prog 258 [.string (lG l),.string ⟨#[0]⟩] (.string (lG (pF l))):=by
 intro w;refine ⟨agY,?_⟩;have hX:=eB.refl w;have hsz:=xN l
 go_enter func258,ntmps258
 refine aD (fun K1 hK1=>wp_region_lit (aA (aG) ?_));simp only[zz];refine aF (hK1 _ _ ?_);refine aD (fun K2 hK2=>aD (fun K3 hK3=>?_));by_cases hk0 : l = []
 ·
  subst hk0;refine wp_region_lit (aA (aB) (aA (afx (Sn mX rfl rfl) (show _ = Value.bool true by simp [lG])) (aA (aB) ?_)));simp only[zz];refine jV rfl ?_;simp only[zz];refine jV rfl ?_;simp only[zz];refine aA (eK rfl) ?_;simp only[zz];refine aF (hK3 _ _ ?_);refine bK rfl (aD (fun K4 hK4=>wp_region_lit (aA (aB) (aA (aG) ?_))));simp only[zz];refine aF (hK4 _ _ ?_);refine wp_ret ?_;try simp only[Exit.inBlock,Exit.then]
  refine bE rfl rfl ?_;try simp only[zD,zE]
  exact ⟨_,rfl,hX,rfl⟩
 ·
  refine wp_region_lit (aA (aB) (aA (afx (Sn mX rfl rfl) (show _ = Value.bool false by simp only[Ou,hk0,decide_false])) (aA (aB) ?_)));simp only[zz];refine bM rfl (aA (aB) ?_);simp only[zz];refine bM rfl (aA (afx (Sn mX rfl rfl) (show _ = Value.bool false by simp)) (aA (iB rfl) ?_));simp only[zz];refine aF (hK3 _ _ ?_);refine gA rfl (wp_skip ?_);refine hK2 _ _ (aD (fun K5 hK5=>aD (fun K6 hK6=>wp_region_lit (aA (aB) (aA (rI rfl mX rfl) (aA (qQ rfl rfl rfl) ?_))))));simp only[zz];refine aA (aB) ?_;simp only[zz];refine bM rfl (aA (aB) ?_);simp only[zz];refine bM rfl (aA ((pA (b:=0) mX rfl rfl (by omega) rfl)) ?_);simp only[zz];refine bM rfl (aA (bF rfl rfl (by decide)) (aA (eK rfl) ?_));simp only[zz];refine aF (hK6 _ _ ?_);refine bK rfl (aD (fun K7 hK7=>wp_region_lit (aA (aB) (aA (aB) ?_))));simp only[zz];refine aA ((pA (b:=0) mX rfl rfl (by omega) rfl)) ?_;simp only[zz];refine vP rfl rfl (Hp hl) ?_;intro w1 hE;replace hX:=hX.trans hE;clear hE;simp only[zz];refine aA (aG) ?_;simp only[zz];refine aF (hK7 _ _ ?_);refine wp_ret ?_;try simp only[Exit.inBlock,Exit.then]
  refine bE rfl rfl ?_;try simp only[zD,zE]
  exact ⟨_,rfl,hX,rfl⟩
end Go.Proofs.YtfekpcimgncioaaGreatDoor
