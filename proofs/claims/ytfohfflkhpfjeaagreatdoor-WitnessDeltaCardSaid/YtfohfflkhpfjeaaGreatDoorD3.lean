/-
 Texts of one claim, laid together: Rchk2, Sort, Sets, Box, Wa, Wb, Wc, Wd, Guard2, V1, Cj, V2, Cmp, Grow2, SortPt, Maps1, W1, Bag, W2, Ent.
-/
import Derived.Shelf.SlSortCmp.WholeK
import Derived.Shelf.SlSortCmp.NoneTotal
import Derived.Shelf.SlLaysF0
import Derived.Test.YtfohfflkhpfjeaaGreatDoorProg
import Derived.Test.YtfohfflkhpfjeaaGreatDoorD2
set_option maxHeartbeats 8000000
set_option linter.unusedSimpArgs false
set_option linter.unusedVariables false
set_option linter.unusedSectionVars false
namespace Go.Proofs.YtfohfflkhpfjeaaGreatDoor
open Go.Proofs.Tryz
open Go.RowKit Go.Lith
abbrev xV:=@underlying152
abbrev Ej:=@underlying5
set_option maxRecDepth 100000
attribute [local irreducible] wpList wpQuiet dD cO cF Code.wp
theorem Ch {all out : List E3} {e : E3} (h : 0 < jS all (e.2,e.1) ∨ 0 < jS out e) : lS all out e = out:=if_pos h
theorem Fs {all out : List E3} {e : E3} {k : Nat} (h1 : ¬ 0 < jS all (e.2,e.1)) (h2 : ¬ 0 < jS out e) (h : Ra out e = k) : lS all out e = out.take k ++ [e] ++ out.drop k:=by
 rw [lS,if_neg (fun h=>h.elim h1 h2),Mn,h]
theorem abZ {w : World} {a : Addr} {e : E3} (h : mC w a (bV e)) : mC w a [.int .i64 e.1.x,.int .i64 e.1.y,.int .i64 e.1.z,.int .i64 e.2.x,.int .i64 e.2.y,.int .i64 e.2.z]:=h
theorem gt0 {n : Nat} : ((0 : Int) < (n : Int)) ↔ 0 < n:=by omega
theorem Wc {ts : List T3} {N cap : Nat} {A : Option Addr} (w : World) (hT : dZ w A N ts) (hN : N ≤ 100000000) : eE prog 18 [.slice A N cap] w (SL 57 6 ((aS ts).flatMap bV) (aS ts).length w):=by
 refine ⟨acV,?_⟩;have m:=bS.refl w
 go_enter func18,ntmps18
 refine aC fun K1 k1=>wp_region_lit (aA (aF) (aD (k1 _ _ ?_)));refine aC fun K2 k2=>wp_region_lit (aA (aB) ?_);simp only[zz];refine bE rfl rfl (Zt _ (hT.ext m.ext) (by omega)) ?_;rintro v u e ⟨A3,cap3,n3,hn3,rfl,hN⟩;replace m:=m.newO e hN;clear e hN;have he3:=mF ts;have htl:=hT.len;refine aA (aF) (aD (k2 _ _ ?_));refine aC fun K3 k3=>wp_region_lit (aA (aF) ?_);replace m:=m.nilO 57 6;refine aD (k3 _ _ ?_);refine aC fun K4 k4=>aC fun K5 k5=>wp_region_lit (aA (aF) ?_);simp only[zz];refine aD (k5 _ _ ?_);refine wp_block ?_;try simp only[Nat.zero_add,Nat.reduceAdd,Nat.reduceMul,Int.reduceToNat]
 refine bN [4,5] [6,7,8,9,12,13,14,15,16,17,18,19,20,21,22,23,24,25,26,27,28,29,30,31,32,33,34,35,36,37,38,39,40,41,42,43,44,45,46,47,48,49,50,51,52,53,54,55,56,57,58,59,60,61,62,63] (fun n vs wl=>∃ (k n4 cap4 : Nat) (A4 : Option Addr),vs = [.slice A4 n4 cap4,.int .i64 (k:Int)] ∧ bS w wl [oI 57 6 A4 n4 cap4 ((((bH ts).take k).foldl (lS (bH ts)) []).flatMap bV),oI 57 6 A3 n3 cap3 ((bH ts).flatMap bV)] ∧ (n4 ≤ k) ∧ (k ≤ n3) ∧ (n = n3 - k)) ?_ ?_
 ·
  apply Exists.intro;simp only[zQ,zR,zD,zE];exact ⟨0,_,_,_,rfl,m,Nat.le_refl _,Nat.zero_le _,rfl⟩
 ·
  intro n vs wr hI u;clear m;obtain ⟨k,n4,cap4,A4,rfl,m,hl4,hk,hn⟩:=hI;simp only[zu,zF,zG];refine aC fun K6 k6=>aC fun K7 k7=>wp_region_lit (aA (aB) (aA (aB) (aA (bC rfl gB rfl) (aA (cS rfl rfl) ?_))));simp only[zz];refine aD (k7 _ _ ?_);refine cD rfl (fun hc1=>?_) (fun hc1=>?_)
  ·
   obtain ⟨e,he⟩ : ∃ e,(bH ts)[k]? = some e:=⟨_,List.getElem?_eq_getElem (by omega)⟩
   obtain ⟨gO,rfl⟩:=(m.o 1 rfl).some (by omega);refine wp_skip (k6 _ _ ?_);refine aC fun K8 k8=>wp_block (aC fun K9 k9=>wp_region_lit (aA (aB) (aA (aB) ?_)));simp only[zz];refine aA (aL gB cV rfl rfl (by omega) (by omega) (dP (Int.toNat_natCast _))) ?_;simp only[zz];refine aI rfl ((abZ ((m.o 1 rfl).at tY he)).lies kJ cV) ?_;simp only[zz];refine aY m rJ rfl ?_;clear m;intro g1 u m;simp only[zz];refine aQ m 0 rfl rfl rfl cV (dH rfl) rfl ?_;clear m;intro u m;simp only[zy,zx,bB,zF,zG,Nat.reduceAdd] at m;refine aD (k9 _ _ ?_);refine aC fun K10 k10=>aC fun K11 k11=>?_;obtain ⟨B,hB⟩ : ∃ B,B = ((bH ts).take k).foldl (lS (bH ts)) []:=⟨_,rfl⟩
   rw [← hB] at m;have h4 : B.length = n4:=(m.o 1 rfl).num tY (by decide);have hle4:=(m.o 1 rfl).le;have hs:=Rb (all:=bH ts) he;rw [← hB] at hs;rcases Nat.eq_zero_or_pos (jS (bH ts) (e.2,e.1)) with hz | hz
   ·
    refine wp_region_lit (aA (aB) (aA (aH jJ aG rfl rfl (by decide) (by decide) rfl) ?_));simp only[zz];refine aI rfl ((m.b 0 rfl).lies aK aG rfl rfl) ?_;simp only[zz,zy,Nat.zero_add,Nat.reduceAdd,Nat.reduceMul,Int.reduceToNat];refine aA (aH jJ aG rfl rfl (by decide) (by decide) rfl) ?_;simp only[zz];refine aI rfl ((m.b 0 rfl).lies aK aG rfl rfl) ?_;simp only[zz,zy,Nat.zero_add,Nat.reduceAdd,Nat.reduceMul,Int.reduceToNat];refine aA (cA rfl rfl) ?_;simp only[zz];refine fF m rfl rfl (Hp (es:=bH ts) (e:=(e.2,e.1)) _ ((m.o 2 rfl).lat tY (by decide)) (by omega)) ?_;clear m;rintro v u m rfl;simp only[zz];refine aA (sF rfl rfl (by omega)) (aA (aB) (bM rfl (aA (aB) (bM rfl ?_))));simp only[zz];refine aI rfl ((m.b 0 rfl).full kJ cV) ?_;simp only[zz];refine bM rfl (fF m rfl rfl (Hp (es:=B) (e:=e) _ ((m.o 1 rfl).lat tY (by decide)) (by omega)) ?_);clear m;rintro v u m rfl;refine bM rfl (aA (oQ rfl rfl) (aA (gF rfl) (aD (k11 _ _ ?_))));simp only[zz];refine cD rfl (fun hc2=>?_) (fun hc2=>?_)
    ·
     rw [Ch (.inr (gt0.1 hc2))] at hs;refine wp_exit (k8 _ _ ?_);refine wp_region_lit (aA (aB) ?_);simp only[zz];refine aA (aR rfl rfl (aM (by omega) (by omega))) (aA (aF) (aD ?_));simp only[zz];simp only[Exit.inBlock,Exit.then];refine ⟨n3 - (k + 1),_,?_,rfl,?_,?_⟩
     · omega
     · simp only[zz,zv]
     ·
      simp only[zQ,zR,zD,zE];exact ⟨k + 1,_,_,_,rfl,((m.reO 1 rfl ((m.o 1 rfl).as (by rw [hs]))).sel [false,true,true]),by omega,by omega,rfl⟩
    ·
     have hz2 : ¬ 0 < jS B e:=fun h=>hc2 (gt0.2 h);refine wp_skip (k10 _ _ ?_);refine aC fun K12 k12=>wp_region_lit (aA (aF) (aD (k12 _ _ ?_)));refine aC fun K13 k13=>wp_block ?_;simp only[zz];try simp only[Nat.zero_add,Nat.reduceAdd,Nat.reduceMul,Int.reduceToNat]
     refine bN [7] [8,36,37,38,39,40,41,42,43,44,45,46,47,48,49] (fun n vs wl=>∃ (j : Nat),vs = [.int .i64 (j:Int)] ∧ bS w wl [bI g1 (bV e) 57,oI 57 6 A4 n4 cap4 ((B).flatMap bV),oI 57 6 (some ⟨gO,0,none⟩) n3 cap3 ((bH ts).flatMap bV)] ∧ (Pre (fun x=>Ot x e) B j) ∧ (j ≤ n4) ∧ (n = n4 - j)) ?_ ?_
     ·
      apply Exists.intro;simp only[zQ,zR,zD,zE];exact ⟨0,rfl,m,Pre.zero,Nat.zero_le _,rfl⟩
     ·
      intro n vs wr hI u;clear m;obtain ⟨j,rfl,m,hpre,hj,hn2⟩:=hI;simp only[zu,zF,zG];refine aC fun K14 k14=>aC fun K15 k15=>wp_region_lit (aA (aB) (aA (aB) (aA (bC rfl gB rfl) (aA (cS rfl rfl) ?_))));simp only[zz];refine aD (k15 _ _ ?_);refine cD rfl (fun hc3=>?_) (fun hc3=>?_)
      ·
       obtain ⟨x,hx⟩ : ∃ x,B[j]? = some x:=⟨_,List.getElem?_eq_getElem (by omega)⟩
       obtain ⟨gP,rfl⟩:=(m.o 1 rfl).some (by omega);refine wp_skip (k14 _ _ ?_);refine wp_block (aC fun K16 k16=>mq m aP (by kernel_rfl) (aN (aB) (aN (aB) ?_)));simp only[zz];refine aN (aL gB cV rfl rfl (by omega) (by omega) (dP (Int.toNat_natCast _))) ?_;simp only[zz];refine ql rfl (fun u m=>(((m.o 1 rfl).at tY hx).lies kJ cV)) ?_;simp only[zz];refine ql rfl (fun u m=>((m.b 0 rfl).full kJ cV)) ?_;simp only[zz];refine sB rfl rfl (Wb (a:=x) (b:=e)) (aN (aF) (dN ?_));clear m;intro u m;refine k16 _ _ ?_;refine aC fun K17 k17=>aC fun K18 k18=>wp_region_lit (aA (aB) (aA (iO rfl) ?_));simp only[zz];refine aD (k18 _ _ ?_);refine sD rfl (fun hc4=>?_) (fun hc4=>?_)
       ·
        have hpos : Ra B e = j:=acP hpre hx (by simpa using hc4);rw [Fs (by omega) hz2 hpos] at hs;refine wp_exit (k13 _ _ ?_);refine aC fun K19 k19=>wp_region_lit (aA (aF) ?_);replace m:=m.nilO 57 6;refine aD (k19 _ _ ?_);refine aC fun K20 k20=>wp_region_lit (aA (aB) (aA (aB) (aA (aB) ?_)));simp only[zz];refine aA (kB gB cV rfl rfl (Int.toNat_natCast _) (by omega) (by omega)) ?_;simp only[zz];refine eC m 0 rfl rfl gB sZ rfl (by decide) rfl rfl (by rw [lE tY,List.length_take,Nat.min_eq_left (show j ≤ B.length by omega)]) ((((m.o 2 rfl).lat tY (by decide)).take (k:=j) (by omega)).cells tY (by decide)) (Hh _) (by omega) (by omega) ?_;clear m;intro A9 cap9 u m;simp only[zF,zG] at m;rw [List.nil_append,Nat.zero_add] at m;rw [Nat.zero_add];refine aA (aF) (aD (k20 _ _ ?_));refine aC fun K21 k21=>wp_region_lit (aA (aB) ?_);simp only[zz];refine aI rfl ((m.b 1 rfl).full kJ cV) ?_;simp only[zz];refine xS rfl ?_;intro u g2 e hg hB;replace m:=m.newB e hg hB;clear e hg hB;simp only[zz];refine eC m 1 rfl rfl gB sZ rfl (by decide) rfl rfl rfl (m.b 0 rfl).rowsO (sA rfl) (by omega) (by omega) ?_;clear m;intro A9 cap9 u m;simp only[zF,zG] at m;refine aA (aF) (aD (k21 _ _ ?_));refine wp_region_lit (aA (aB) (aA (aB) ?_));simp only[zz];refine aA (aB) ?_;simp only[zz];refine aA (kC gB cV rfl rfl (Int.toNat_natCast _) (by omega) (by omega) rfl) ?_;simp only[zz];refine eC m 1 rfl rfl gB sZ rfl (by decide) rfl rfl (by rw [lE tY,List.length_drop,h4]) (((m.o 3 rfl).lat tY (by decide)).cellsD tY (by decide) (by omega)) (Hh _) (by omega) (by omega) ?_;clear m;intro A9 cap9 u m;simp only[zF,zG] at m;refine aA (aF) ?_;simp only[zz];replace m:=(m.pull 1 rfl).mv 2 rfl;simp only[vJ,vK,zF,zG] at m;refine aD (k8 _ _ ?_);refine wp_region_lit (aA (aB) ?_);simp only[zz];refine aA (aR rfl rfl (aM (by omega) (by omega))) (aA (aF) (aD ?_));simp only[zz];simp only[Exit.inBlock,Exit.then];refine ⟨n3 - (k + 1),_,?_,rfl,?_,?_⟩
        · omega
        · simp only[zz,zv]
        ·
         simp only[zQ,zR,zD,zE];exact ⟨k + 1,_,_,_,rfl,((m.reO 2 rfl ((m.o 2 rfl).as (by rw [hs,List.flatMap_append,List.flatMap_append];rfl))).sel [false,false,true,true]),by omega,by omega,rfl⟩
       ·
        have hpre2:=hpre.step hx (by simpa using hc4);refine wp_skip (k17 _ _ ?_);refine wp_region_lit (aA (aB) ?_);simp only[zz];refine aA (aR rfl rfl (aM (by omega) (by omega))) (aA (aF) (aD ?_));simp only[zz];simp only[Exit.inBlock,Exit.then];refine ⟨n4 - (j + 1),_,?_,rfl,?_,?_⟩
        · omega
        · simp only[zz,zv]
        ·
         simp only[zQ,zR,zD,zE];exact ⟨j + 1,rfl,m,hpre2,by omega,rfl⟩
      ·
       have hjl : j = B.length:=by omega
       have hpos : Ra B e = j:=by rw [hjl] at hpre ⊢;exact abf hpre
       rw [Fs (by omega) hz2 hpos] at hs;refine wp_exit (k13 _ _ ?_);refine aC fun K22 k22=>wp_region_lit (aA (aF) ?_);replace m:=m.nilO 57 6;refine aD (k22 _ _ ?_);refine aC fun K23 k23=>wp_region_lit (aA (aB) (aA (aB) (aA (aB) ?_)));simp only[zz];refine aA (kB gB cV rfl rfl (Int.toNat_natCast _) (by omega) (by omega)) ?_;simp only[zz];refine eC m 0 rfl rfl gB sZ rfl (by decide) rfl rfl (by rw [lE tY,List.length_take,Nat.min_eq_left (show j ≤ B.length by omega)]) ((((m.o 2 rfl).lat tY (by decide)).take (k:=j) (by omega)).cells tY (by decide)) (Hh _) (by omega) (by omega) ?_;clear m;intro A9 cap9 u m;simp only[zF,zG] at m;rw [List.nil_append,Nat.zero_add] at m;rw [Nat.zero_add];refine aA (aF) (aD (k23 _ _ ?_));refine aC fun K24 k24=>wp_region_lit (aA (aB) ?_);simp only[zz];refine aI rfl ((m.b 1 rfl).full kJ cV) ?_;simp only[zz];refine xS rfl ?_;intro u g2 e hg hB;replace m:=m.newB e hg hB;clear e hg hB;simp only[zz];refine eC m 1 rfl rfl gB sZ rfl (by decide) rfl rfl rfl (m.b 0 rfl).rowsO (sA rfl) (by omega) (by omega) ?_;clear m;intro A9 cap9 u m;simp only[zF,zG] at m;refine aA (aF) (aD (k24 _ _ ?_));refine wp_region_lit (aA (aB) (aA (aB) ?_));simp only[zz];refine aA (aB) ?_;simp only[zz];refine aA (kC gB cV rfl rfl (Int.toNat_natCast _) (by omega) (by omega) rfl) ?_;simp only[zz];refine eC m 1 rfl rfl gB sZ rfl (by decide) rfl rfl (by rw [lE tY,List.length_drop,h4]) (((m.o 3 rfl).lat tY (by decide)).cellsD tY (by decide) (by omega)) (Hh _) (by omega) (by omega) ?_;clear m;intro A9 cap9 u m;simp only[zF,zG] at m;refine aA (aF) ?_;simp only[zz];replace m:=(m.pull 1 rfl).mv 2 rfl;simp only[vJ,vK,zF,zG] at m;refine aD (k8 _ _ ?_);refine wp_region_lit (aA (aB) ?_);simp only[zz];refine aA (aR rfl rfl (aM (by omega) (by omega))) (aA (aF) (aD ?_));simp only[zz];simp only[Exit.inBlock,Exit.then];refine ⟨n3 - (k + 1),_,?_,rfl,?_,?_⟩
       · omega
       · simp only[zz,zv]
       ·
        simp only[zQ,zR,zD,zE];exact ⟨k + 1,_,_,_,rfl,((m.reO 2 rfl ((m.o 2 rfl).as (by rw [hs,List.flatMap_append,List.flatMap_append];rfl))).sel [false,false,true,true]),by omega,by omega,rfl⟩
   ·
    rw [Ch (.inl hz)] at hs;refine wp_region_lit (aA (aB) (aA (aH jJ aG rfl rfl (by decide) (by decide) rfl) ?_));simp only[zz];refine aI rfl ((m.b 0 rfl).lies aK aG rfl rfl) ?_;simp only[zz,zy,Nat.zero_add,Nat.reduceAdd,Nat.reduceMul,Int.reduceToNat];refine aA (aH jJ aG rfl rfl (by decide) (by decide) rfl) ?_;simp only[zz];refine aI rfl ((m.b 0 rfl).lies aK aG rfl rfl) ?_;simp only[zz,zy,Nat.zero_add,Nat.reduceAdd,Nat.reduceMul,Int.reduceToNat];refine aA (cA rfl rfl) ?_;simp only[zz];refine fF m rfl rfl (Hp (es:=bH ts) (e:=(e.2,e.1)) _ ((m.o 2 rfl).lat tY (by decide)) (by omega)) ?_;clear m;rintro v u m rfl;simp only[zz];refine aA (vB rfl rfl (by omega)) (aA (aB) (fG rfl (fG rfl ?_)));simp only[zz];refine fG rfl (fG rfl (aA (eF rfl) (aD (k11 _ _ ?_))));refine cG rfl (wp_exit (k8 _ _ ?_));refine wp_region_lit (aA (aB) ?_);simp only[zz];refine aA (aR rfl rfl (aM (by omega) (by omega))) (aA (aF) (aD ?_));simp only[zz];simp only[Exit.inBlock,Exit.then];refine ⟨n3 - (k + 1),_,?_,rfl,?_,?_⟩
    · omega
    · simp only[zz,zv]
    ·
     simp only[zQ,zR,zD,zE];exact ⟨k + 1,_,_,_,rfl,((m.reO 1 rfl ((m.o 1 rfl).as (by rw [hs]))).sel [false,true,true]),by omega,by omega,rfl⟩
  ·
   have hkN : k = (bH ts).length:=by omega
   rw [hkN,List.take_length] at m;refine wp_exit (k4 _ _ ?_);refine aC fun K25 k25=>wp_region_lit (aA (aB) (aA (aF) (aD (k25 _ _ ?_))));refine wp_ret ?_;simp only[zz];try simp only[Exit.inBlock,Exit.then,if_true]
   refine bP rfl rfl ?_;try simp only[zD,zE]
   exact ⟨_,rfl,m.ext,⟨_,_,_,((m.o 0 rfl).num tY (by decide)).symm,rfl,(m.o 0 rfl)⟩⟩
theorem Zu {op : Bool} {ts : List T3} (h : ts.any wI = true) : eA op ts = 20:=by simp [eA,h]
theorem Zv {op : Bool} {ts : List T3} (h : ts.any wI = false) (h2 : (bH ts).any (fun e=>decide (1 < jS (bH ts) e)) = true) : eA op ts = 21:=by rw [eA,h,h2];rfl
theorem Zw {op : Bool} {ts : List T3} (h : ts.any wI = false) (h2 : (bH ts).any (fun e=>decide (1 < jS (bH ts) e)) = false) (h3 : (!op && decide (0 < (aS ts).length)) = false) (h4 : (nB ts).any (Rf ts) = true) : eA op ts = 23:=by rw [eA,h,h2,h3,h4];rfl
theorem ab0 {op : Bool} {ts : List T3} (h : ts.any wI = false) (h2 : (bH ts).any (fun e=>decide (1 < jS (bH ts) e)) = false) (h3 : (!op && decide (0 < (aS ts).length)) = false) (h4 : (nB ts).any (Rf ts) = false) : eA op ts = 0:=by rw [eA,h,h2,h3,h4];rfl
end Go.Proofs.YtfohfflkhpfjeaaGreatDoor
namespace Go.Lith
open Go.RowKit Go.Proofs Go.Sort Go.Shelf
theorem Wd {α : Type} {enc : α → List Value} {k : Nat} (hk : ∀ x,(enc x).length = k) (h0 : 0 < k) : ∀ (L : List α) (t : Nat),(L.flatMap enc)[t]? = (L[t / k]?).bind fun x=>(enc x)[t % k]?
 | [],t=>by simp
 | x :: L,t=>by
  rw [List.flatMap_cons,List.getElem?_append];by_cases h : t < k
  · rw [if_pos (by rw [hk];exact h),Nat.div_eq_of_lt h,Nat.mod_eq_of_lt h]
    rfl
  · rw [if_neg (by rw [hk];exact h),hk,Wd hk h0 L (t - k)]
    have e1 : t / k = (t - k) / k + 1:=by rw [Nat.div_eq t k,if_pos ⟨h0,Nat.le_of_not_lt h⟩]
    have e2 : t % k = (t - k) % k:=Nat.mod_eq_sub_mod (Nat.le_of_not_lt h);rw [e1,e2,List.getElem?_cons_succ]
theorem rN {α : Type} [Inhabited α] {enc : α → List Value} {k : Nat} (hk : ∀ x,(enc x).length = k) (h0 : 0 < k) (L : List α) : (flatK enc k L.toArray).toList = L.flatMap enc:=by
 have hlen : (L.flatMap enc).length = L.length * k:=by
  induction L with
  | nil=>simp
  | cons x L ih=>rw [List.flatMap_cons,List.length_append,ih,hk,List.length_cons,Nat.add_mul];omega
 apply List.ext_getElem?;intro t;by_cases ht : t < L.length * k
 · have hd : t / k < L.length:=by
    rw [Nat.div_lt_iff_lt_mul h0];exact ht
   have hm : t % k < k:=Nat.mod_lt _ h0;have h1:=get_flatK enc k L.toArray t (by simpa using ht);rw [getElem!_pos _ t (by simpa using ht)] at h1;rw [Wd hk h0,List.getElem?_eq_getElem hd,Option.bind_some,Array.getElem?_toList,Array.getElem?_eq_getElem (by simpa using ht),h1,List.getElem?_eq_getElem (show t % k < (enc L[t / k]).length by rw [hk];exact hm)]
   congr 1
   rw [getElem!_pos L.toArray _ (by simpa using hd),List.getElem_toArray,getElem!_pos _ _ (by rw [hk];exact hm)]
 · rw [List.getElem?_eq_none (by simpa using Nat.le_of_not_lt ht),List.getElem?_eq_none (by rw [hlen];exact Nat.le_of_not_lt ht)]
section
variable {α : Type} [Inhabited α] {P : Program} {ρ : Ren} {enc : α → List Value} {c : Nat} {E : TypeId} {w w0 : World} {is : List It} {A : Option Addr} {n cap : Nat}
theorem Rw {g : Nat} {xs : List α} {cur : Array Value} (hk : ∀ x,(enc x).length = c) (h0 : 0 < c) (hg : w.heap[g]? = some (.cells cur E (0,0))) (h : cur.toList.take (xs.length * c) = xs.flatMap enc) : HoldsK enc c w g 0 xs.toArray:=by
 intro j hj;have hl:=rN hk h0 xs;have hj' : j < xs.length * c:=by simpa using hj
 have e : (flatK enc c xs.toArray)[j]? = cur[j]?:=by
  rw [← Array.getElem?_toList,hl,← h,List.getElem?_take,if_pos hj',Array.getElem?_toList]
 rw [Array.getElem?_eq_getElem hj] at e;refine ⟨?_,?_⟩
 · simp only[World.cell?,hg,Nat.zero_add,Option.isSome_none,Bool.false_eq_true,if_false]
   rw [← e,getElem!_pos _ j hj];rfl
 · simp [World.frozen?,hg]
theorem Ek {g : Nat} {xs ys : List α} {cur : Array Value} {q : Nat} {os : Array Obj} (hk : ∀ x,(enc x).length = c) (h0 : 0 < c) (hg : w.heap[g]? = some (.cells cur E (0,0))) (hl : xs.length * c ≤ cur.size) (hlen : ys.length = xs.length) :
 ∃ cur' : Array Value,(sortWorldK enc c w g 0 q ys.toArray os).heap[g]? = some (.cells cur' E (0,0)) ∧ cur'.size = cur.size ∧ cur'.toList.take (xs.length * c) = ys.flatMap enc:=by
 have hlt : g < w.heap.size:=(Array.getElem?_eq_some_iff.1 hg).1;refine ⟨putCells id 0 (flatK enc c ys.toArray) cur,?_,by simp [putCells],?_⟩
 · unfold sortWorldK putRowK putRow mapBlock grow
   simp only;rw [Array.getElem?_append_left (by simpa [ahead] using hlt),Array.getElem?_modify];simp [ahead,hg,onCells]
 · have hf:=rN hk h0 ys
   apply List.ext_getElem?;intro t;rw [List.getElem?_take,← hf,Array.getElem?_toList,Array.getElem?_toList];have hs : (flatK enc c ys.toArray).size = xs.length * c:=by simp [hlen]
   split
   · rename_i ht
     have : t < cur.size:=Nat.lt_of_lt_of_le ht hl;simp only[putCells,Array.getElem?_mapIdx,Array.getElem?_eq_getElem this,Option.map_some,Nat.zero_le,Nat.zero_add,true_and,Nat.sub_zero,hs,ht,if_true];rw [Array.getElem?_eq_getElem (by rw [hs];exact ht),getElem!_pos _ t (by rw [hs];exact ht)];rfl
   · rename_i ht
     rw [Array.getElem?_eq_none (by rw [hs];exact Nat.le_of_not_lt ht)]
theorem Kf (L : SlLaysF0.n6 P ρ) (aE : ∀ w,(isAgg (ρ.t 24)).run P w = .ok true w) (zE : ∀ w,(Go.sizeOf (ρ.t 24)).run P w = .ok c w) (hk : ∀ x,(enc x).length = c) (h0 : 0 < c) (h1 : ∀ x,∀ v ∈ enc x,v.oneCell' = true)
 (cf : α → α → Int) (hO : SWO (ltOf cf)) {f : FuncId} (hcmp : ∀ x y,rY P f [.agg (enc x).toArray,.agg (enc y).toArray] (.int .i64 (cf x y))) {xs : List α} (m : bS w0 w is) (k : Nat) (hi : is[k]? = some (oI E c A n cap (xs.flatMap enc))) (hsz : n < 4611686018427387904) :
 Calls P (ρ.f 6) #[.slice A n cap,.func (.func f) #[] #[]] w fun e w'=>∃ v i,e = .returned v ∧ bS w0 w' (is.set k i) ∧ (v = .tuple #[] ∧ ∃ ys : List α,i = oI E c A n cap (ys.flatMap enc) ∧ ys.Perm xs ∧ ys.Pairwise fun a b=>ltOf cf b a = false):=by
 have h : w.ownsRow 0 E c (.slice A n cap) n (xs.flatMap enc):=m.get k hi;have hlen : (xs.flatMap enc).length = xs.length * c:=by
  have:=rN hk h0 xs;rw [← this];simp
 have hn : xs.length = n:=by
  have:=h.1;rw [hlen] at this;exact Nat.eq_of_mul_eq_mul_right h0 this
 have hge:=fun b hb=>m.ge _ (List.mem_of_getElem? hi) b hb;rcases kO h with ⟨rfl,rfl,rfl,hx⟩ | ⟨g,cur,rfl,_,hg,hcap,hmax,hcur,htake⟩
 · refine (AnyF.slices_SortFunc_none L none 0 _ w).mono ?_
   rintro e w' ⟨rfl,rfl⟩;obtain rfl : xs = []:=List.eq_nil_of_length_eq_zero hn;refine ⟨_,oI E c none 0 0 [],rfl,?_,rfl,[],rfl,List.Perm.refl _,.nil⟩;have : is.set k (oI E c none 0 0 []) = is:=by
    apply List.ext_getElem?;intro j;rw [List.getElem?_set];split
    · rename_i e;subst e
      have:=(List.getElem?_eq_some_iff.1 hi).1;rw [if_pos this,hi];rfl
    · rfl
   rw [this];exact m
 · have hlt : g < w.heap.size:=(Array.getElem?_eq_some_iff.1 hg).1
   rw [← hn] at htake;have hH:=Rw (xs:=xs) hk h0 hg htake;have hx:=AnyQ.slices_SortFunc L c aE zE enc hk h1 cf hO f #[] g 0 cap xs.toArray w (fun args w'=>vX (hcmp default default w').1) (fun mm os dk _ x y=>by
    have:=((hcmp x y (sortWorldK enc c w g 0 mm dk os)).2.mono fun e w' h=>(show e = .returned (.int .i64 (cf x y)) ∧ ∃ q os',w' = grow ((sortWorldK enc c w g 0 mm dk os).drewN q) os' from by obtain ⟨u,rfl,hX,rfl⟩:=h;exact ⟨rfl,hX.grow⟩))
    simpa using this) hH hlt (by simpa [hn] using hsz)
   have es : xs.toArray.size = n:=by simpa using hn
   rw [es] at hx;refine hx.mono ?_;rintro e w' ⟨rfl,d',q,os,hp,hs,rfl⟩;have hd : d'.size = n:=by rw [hp.1];exact es
   obtain ⟨ys,rfl⟩ : ∃ ys : List α,d' = ys.toArray:=⟨d'.toList,by simp⟩
   have hyl : ys.length = n:=by simpa using hd
   have hcs : xs.length * c ≤ cur.size:=by rw [hn,hcur];exact Nat.mul_le_mul_right _ hcap
   obtain ⟨cur',e1,e2,e3⟩:=Ek (q:=q) (os:=os) (ys:=ys) hk h0 hg hcs (by rw [hyl,hn]);refine ⟨_,oI E c (some ⟨g,0,none⟩) n cap (ys.flatMap enc),rfl,?_,rfl,ys,rfl,?_,?_⟩
   · refine m.put k hi rfl rfl rfl ?_ (fun b hb hne=>?_) ?_ (.inl fun _ h=>h)
     · simp [sortWorldK,putRowK,putRow,mapBlock,grow,ahead]
     · have hbg : g ≠ b:=fun e=>hne (by rw [e];rfl)
       unfold sortWorldK putRowK putRow mapBlock grow;simp only;rw [Array.getElem?_append_left (by simpa [ahead] using hb),Array.getElem?_modify,if_neg hbg];rfl
     · refine ⟨?_,.inr ⟨g,cap,cur',rfl,Nat.zero_le _,e1,hcap,hmax,by rw [e2,hcur],?_⟩⟩
       · have:=rN hk h0 ys
         rw [← this];simp [hyl]
       · rw [← hn];exact e3
   · have:=hp.2.2
     simpa [hyl,hn,List.take_of_length_le (Nat.le_of_eq hyl),List.take_of_length_le (Nat.le_of_eq hn),List.extract_eq_take_drop] using this
   · rw [List.pairwise_iff_getElem]
     intro i j hi' hj' hij;have:=hs i j (Nat.zero_le _) hij (by rw [← hyl];exact hj');rw [getElem!_pos _ i (by simpa using hi'),getElem!_pos _ j (by simpa using hj')] at this;simpa using this
end
end Go.Lith
namespace Go.Lith
open Go.RowKit Go.Sort
instance : Inhabited P3:=⟨⟨0,0,0⟩⟩
def nS (p : P3) : List Value:=[.int .i64 p.x,.int .i64 p.y,.int .i64 p.z]
theorem Kg (p : P3) : ∀ v ∈ nS p,v.oneCell' = true:=fun v h=>by
 simp only[nS,List.mem_cons,List.not_mem_nil,or_false] at h;rcases h with rfl | rfl | rfl <;> rfl
theorem qL (p q : P3) : (wF p q < 0) ↔ p.Lt q:=by
 unfold wF;split
 · simp [*]
 · split <;> simp [*]
theorem We : SWO (Go.Proofs.ltOf wF) where
 irrefl x:=by simp [Go.Proofs.ltOf,qL,P3.lt_irrefl]
 trans x y z h1 h2:=by
  simp only[Go.Proofs.ltOf,decide_eq_true_eq,qL] at *
  exact P3.lt_trans h1 h2
 ntrans x y z h1 h2:=by
  simp only[Go.Proofs.ltOf,decide_eq_false_iff_not,qL] at *
  unfold P3.Lt at *
  omega
theorem lB.len {K V : Type} [DecidableEq K] {ek : K → Value} {en : V → Value} {D dn rs : List (K × V)} {es : Array MapEntry} {seen : Array Nat} (h : lB ek en D es seen dn rs) : dn.length + rs.length = D.length:=by
 have:=h.1.length_eq;simpa using this
theorem Ci {K V : Type} [DecidableEq K] {ek : K → Value} {en : V → Value} {D dn rs : List (K × V)} {es : Array MapEntry} {b : Bool} {kv vv : Value} {sn : Array Nat} (hb : b = false) (h : Nxt ek en D es dn rs b kv vv sn) : rs = []:=by
 rcases h with ⟨_,h⟩ | ⟨h,_⟩
 · exact h
 · rw [h] at hb;cases hb
theorem Cj {K V : Type} [DecidableEq K] {ek : K → Value} {en : V → Value} {D dn rs : List (K × V)} {es : Array MapEntry} {b : Bool} {kv vv : Value} {sn : Array Nat} (hb : b = true) (h : Nxt ek en D es dn rs b kv vv sn) :
 ∃ k v rs',rs.Perm ((k,v) :: rs') ∧ lB ek en D es sn (dn ++ [(k,v)]) rs':=by
 rcases h with ⟨h,_⟩ | ⟨_,k,v,rs',h1,_,_,h2⟩
 · rw [h] at hb;cases hb
 · exact ⟨k,v,rs',h1,h2⟩
def tA (D : List (P3 × Bool)) (ps : List P3) : List (P3 × Bool):=ps.foldl (fun D p=>fT D p true) D
theorem Kh {K V : Type} [DecidableEq K] (D : List (K × V)) (k a : K) (v : V) : a ∈ (fT D k v).map (·.1) ↔ a ∈ D.map (·.1) ∨ a = k:=by
 rw [xT];split
 · exact ⟨.inl,fun h=>h.elim id (fun e=>e ▸ ‹_›)⟩
 · simp
theorem Ft : ∀ (ps : List P3) (D : List (P3 × Bool)) (a : P3),a ∈ (tA D ps).map (·.1) ↔ a ∈ D.map (·.1) ∨ a ∈ ps
 | [],D,a=>by simp [tA]
 | p :: ps,D,a=>by
  have:=Ft ps (fT D p true) a;unfold tA at this ⊢;rw [List.foldl_cons,this,Kh,List.mem_cons,or_assoc]
theorem yR : ∀ (ps : List P3) (D : List (P3 × Bool)),(D.map (·.1)).Nodup → ((tA D ps).map (·.1)).Nodup
 | [],_,h=>h
 | p :: ps,D,h=>yR ps (fT D p true) (vM h p true)
theorem tB {K V : Type} [DecidableEq K] : ∀ (D : List (K × V)) (k : K) (v : V),(fT D k v).length ≤ D.length + 1
 | [],_,_=>by simp [fT]
 | x :: D,k,v=>by
  unfold fT;split
  · simp
  · simp only[List.length_cons]
    exact Nat.succ_le_succ (tB D k v)
theorem wS : ∀ (ps : List P3) (D : List (P3 × Bool)),(tA D ps).length ≤ D.length + ps.length
 | [],D=>Nat.le_refl _
 | p :: ps,D=>Nat.le_trans (wS ps (fT D p true)) (by
  have:=tB D p true;simp only[List.length_cons];omega)
theorem Rx (D : List (P3 × Bool)) (ps qs : List P3) : tA D (ps ++ qs) = tA (tA D ps) qs:=List.foldl_append ..
def cY (ts : List T3) : List P3:=ts.flatMap fun t=>[t.a,t.b,t.c]
def Wf (ps : List P3) : Prop:=ps.Pairwise fun a b=>a.Lt b
theorem Ry {ps : List P3} (hn : ps.Nodup) (h : ps.Pairwise fun a b=>¬ b.Lt a) : Wf ps:=by
 have:=hn.and h;exact this.imp fun {a b} h=>(P3.lt_tri a b).resolve_right (by rintro (e | e);exact h.1 e;exact h.2 e)
end Go.Lith
namespace Go.Lith
open Go.RowKit
theorem Rz {α : Type} {ps : List α} {k : Nat} {p : α} (h : ps[k]? = some p) : ps.take (k + 1) = ps.take k ++ [p]:=by
 rw [List.take_add_one,h];rfl
theorem Ck {ts : List T3} {k : Nat} {t : T3} (h : ts[k]? = some t) : cY (ts.take (k + 1)) = cY (ts.take k) ++ [t.a,t.b,t.c]:=by
 unfold cY;rw [Rz h,List.flatMap_append];simp
theorem Nd {ts : List T3} {k : Nat} {t : T3} (h : ts[k]? = some t) : tA [] (cY (ts.take (k + 1))) = fT (fT (fT (tA [] (cY (ts.take k))) t.a true) t.b true) t.c true:=by
 rw [Ck h,Rx];rfl
theorem wT (ts : List T3) : (cY ts).length = ts.length * 3:=by
 unfold cY
 induction ts with
 | nil=>rfl
 | cons t ts ih=>rw [List.flatMap_cons,List.length_append,ih];simp only[List.length_cons,List.length_nil];omega
theorem Ow.max {w0 w : World} {S : List (Option Nat)} {E : TypeId} {c n cap : Nat} {A : Option Addr} {xs : List Value} (h : Ow w0 w S E c A n cap xs) : cap ≤ 9223372036854775807:=by
 rcases h.cases with ⟨_,_,rfl,_⟩ | ⟨_,_,_,_,_,_,h,_⟩
 · exact Nat.zero_le _
 · exact h
end Go.Lith
namespace Go.Lith
open Go.RowKit
theorem Cl {α : Type} {R : α → α → Prop} (irr : ∀ a,¬ R a a) (tr : ∀ a b c,R a b → R b c → R a c) : ∀ {l m : List α},l.Pairwise R → m.Pairwise R → (∀ a,a ∈ l ↔ a ∈ m) → l = m
 | [],[],_,_,_=>rfl
 | [],y :: m,_,_,h=>absurd ((h y).2 (List.mem_cons_self ..)) (by simp)
 | x :: l,[],_,_,h=>absurd ((h x).1 (List.mem_cons_self ..)) (by simp)
 | x :: l,y :: m,hl,hm,h=>by
  obtain ⟨h1,h2⟩:=List.pairwise_cons.1 hl;obtain ⟨k1,k2⟩:=List.pairwise_cons.1 hm;have e : x = y:=by
   rcases List.mem_cons.1 ((h x).1 (List.mem_cons_self ..)) with e | hx
   · exact e
   · rcases List.mem_cons.1 ((h y).2 (List.mem_cons_self ..)) with e | hy
     · exact e.symm
     · exact absurd (tr _ _ _ (h1 y hy) (k1 x hx)) (irr x)
  subst e;rw [Cl irr tr h2 k2 fun a=>⟨fun ha=>?_,fun ha=>?_⟩]
  · rcases List.mem_cons.1 ((h a).1 (List.mem_cons_of_mem _ ha)) with rfl | k
    · exact absurd (h1 a ha) (irr a)
    · exact k
  · rcases List.mem_cons.1 ((h a).2 (List.mem_cons_of_mem _ ha)) with rfl | k
    · exact absurd (k1 a ha) (irr a)
    · exact k
/-! ### Edges in order -/
def xJ (a b : E3) : Prop:=a.1.Lt b.1 ∨ a.1 = b.1 ∧ a.2.Lt b.2
theorem Oy {a b : E3} : Ot a b = true ↔ xJ a b:=by
 unfold Ot xJ;by_cases h : a.1 = b.1
 · rw [if_neg (not_not_intro h),decide_eq_true_eq]
   exact ⟨fun k=>.inr ⟨h,k⟩,fun k=>k.elim (fun k=>absurd (h ▸ k) (P3.lt_irrefl _)) (·.2)⟩
 · rw [if_pos h,decide_eq_true_eq]
   exact ⟨.inl,fun k=>k.elim id (fun k=>absurd k.1 h)⟩
theorem xJ.irrefl (a : E3) : ¬ xJ a a:=fun h=>h.elim (P3.lt_irrefl _) fun h=>P3.lt_irrefl _ h.2
theorem xJ.trans {a b c : E3} (h : xJ a b) (k : xJ b c) : xJ a c:=by
 rcases h with h | ⟨h,h'⟩
 · rcases k with k | ⟨k,_⟩
   · exact .inl (P3.lt_trans h k)
   · exact .inl (k ▸ h)
 · rcases k with k | ⟨k,k'⟩
   · exact .inl (h ▸ k)
   · exact .inr ⟨h.trans k,P3.lt_trans h' k'⟩
theorem xJ.tri (a b : E3) : xJ a b ∨ a = b ∨ xJ b a:=by
 rcases P3.lt_tri a.1 b.1 with h | h | h
 · exact .inl (.inl h)
 · rcases P3.lt_tri a.2 b.2 with k | k | k
   · exact .inl (.inr ⟨h,k⟩)
   · exact .inr (.inl (Prod.ext h k))
   · exact .inr (.inr (.inr ⟨h.symm,k⟩))
 · exact .inr (.inr (.inl h))
def kW (es : List E3) : Prop:=es.Pairwise xJ
theorem Ki {es fs : List E3} (h : kW es) (k : kW fs) (e : ∀ a,a ∈ es ↔ a ∈ fs) : es = fs:=Cl xJ.irrefl (fun _ _ _=>xJ.trans) h k e
theorem Oz {α : Type} {p : α → Bool} : ∀ (l : List α),l.take (l.takeWhile p).length = l.takeWhile p
 | []=>rfl
 | x :: l=>by
  rw [List.takeWhile_cons];split
  · rw [List.length_cons,List.take_succ_cons,Oz l]
  · rfl
theorem Pa {α : Type} {p : α → Bool} : ∀ (l : List α),l.drop (l.takeWhile p).length = l.dropWhile p
 | []=>rfl
 | x :: l=>by
  rw [List.takeWhile_cons,List.dropWhile_cons];split
  · rw [List.length_cons,List.drop_succ_cons,Pa l]
  · rfl
theorem Pb (es : List E3) (e : E3) : Mn es e = es.takeWhile (fun x=>Ot x e) ++ [e] ++ es.dropWhile (fun x=>Ot x e):=by
 unfold Mn Ra;rw [Oz,Pa]
theorem Wg {es : List E3} {e x : E3} : x ∈ Mn es e ↔ x = e ∨ x ∈ es:=by
 rw [Pb]
 conv=>rhs;rw [← List.takeWhile_append_dropWhile (p:=fun x=>Ot x e) (l:=es)]
 simp only[List.mem_append,List.mem_singleton];exact ⟨fun h=>h.elim (fun h=>h.elim (fun h=>.inr (.inl h)) .inl) (fun h=>.inr (.inr h)),fun h=>h.elim (fun h=>.inl (.inr h)) (fun h=>h.elim (fun h=>.inl (.inl h)) .inr)⟩
theorem aaO {e : E3} : ∀ {es : List E3},kW es → e ∉ es → ∀ x ∈ es.dropWhile (fun x=>Ot x e),xJ e x
 | [],_,_,x,h=>by cases h
 | y :: ys,hs,he,x,h=>by
  obtain ⟨h1,h2⟩:=List.pairwise_cons.1 hs;rw [List.dropWhile_cons] at h;split at h
  · exact aaO h2 (fun k=>he (List.mem_cons_of_mem _ k)) x h
  · rename_i hy
    have hy' : xJ e y:=by
     rcases xJ.tri y e with k | k | k
     · exact absurd (Oy.2 k) hy
     · exact absurd (k ▸ List.mem_cons_self ..) he
     · exact k
    rcases List.mem_cons.1 h with rfl | h
    · exact hy'
    · exact hy'.trans (h1 x h)
theorem Wh {α : Type} {p : α → Bool} {x : α} : ∀ {l : List α},x ∈ l.takeWhile p → p x = true
 | [],h=>by cases h
 | y :: l,h=>by
  rw [List.takeWhile_cons] at h;split at h
  · rename_i hy
    rcases List.mem_cons.1 h with rfl | h
    · exact hy
    · exact Wh h
  · cases h
theorem adX {e : E3} {es : List E3} : ∀ x ∈ es.takeWhile (fun x=>Ot x e),xJ x e:=fun x h=>Oy.1 (Wh (p:=fun x=>Ot x e) h)
theorem Kj {es : List E3} {e : E3} (hs : kW es) (he : e ∉ es) : kW (Mn es e):=by
 rw [Pb];have h0:=hs;rw [kW,← List.takeWhile_append_dropWhile (p:=fun x=>Ot x e) (l:=es)] at h0;obtain ⟨h1,h2,h3⟩:=List.pairwise_append.1 h0;refine List.pairwise_append.2 ⟨List.pairwise_append.2 ⟨h1,List.pairwise_singleton _ _,fun x hx y hy=>?_⟩,h2,fun x hx y hy=>?_⟩
 · rw [List.mem_singleton.1 hy];exact adX x hx
 · rcases List.mem_append.1 hx with hx | hx
   · exact h3 x hx y hy
   · rw [List.mem_singleton.1 hx];exact aaO hs he y hy
theorem oK {es : List E3} {e : E3} : 0 < jS es e ↔ e ∈ es:=by
 unfold jS;rw [List.length_pos_iff_exists_mem];simp
theorem xW {all : List E3} : ∀ (es out : List E3),kW out → kW (es.foldl (lS all) out) ∧ ∀ x,x ∈ es.foldl (lS all) out ↔ x ∈ out ∨ x ∈ es ∧ (x.2,x.1) ∉ all
 | [],out,h=>⟨h,fun x=>by simp⟩
 | e :: es,out,h=>by
  have key : kW (lS all out e) ∧ ∀ x,x ∈ lS all out e ↔ x ∈ out ∨ x = e ∧ (x.2,x.1) ∉ all:=by
   unfold lS;split
   · rename_i hc
     refine ⟨h,fun x=>⟨.inl,fun k=>k.elim id fun q=>?_⟩⟩;obtain ⟨rfl,q⟩:=q;exact hc.elim (fun hc=>absurd (oK.1 hc) q) (fun hc=>oK.1 hc)
   · rename_i hc
     have h1 : e ∉ out:=fun k=>hc (.inr (oK.2 k));have h2 : (e.2,e.1) ∉ all:=fun k=>hc (.inl (oK.2 k));refine ⟨Kj h h1,fun x=>Wg.trans ⟨fun k=>k.elim (fun k=>.inr ⟨k,k ▸ h2⟩) .inl,fun k=>k.elim .inr fun k=>.inl k.1⟩⟩
  obtain ⟨i1,i2⟩:=xW es (lS all out e) key.1;refine ⟨i1,fun x=>?_⟩;rw [List.foldl_cons,i2,key.2,List.mem_cons,or_assoc];refine or_congr Iff.rfl ⟨fun k=>k.elim (fun k=>⟨.inl k.1,k.2⟩) (fun k=>⟨.inr k.1,k.2⟩),fun k=>k.1.elim (fun h=>.inl ⟨h,k.2⟩) (fun h=>.inr ⟨h,k.2⟩)⟩
theorem uW (ts : List T3) : kW (aS ts):=(xW (all:=bH ts) (bH ts) [] List.Pairwise.nil).1
theorem rO {ts : List T3} {e : E3} : e ∈ aS ts ↔ e ∈ bH ts ∧ (e.2,e.1) ∉ bH ts:=by
 have:=(xW (all:=bH ts) (bH ts) [] List.Pairwise.nil).2 e;unfold aS;rw [this];simp
/-! ### Keys put into a set -/
section
variable {K : Type} [DecidableEq K]
def fP (D : List (K × Bool)) (ks : List K) : List (K × Bool):=ks.foldl (fun D k=>fT D k true) D
theorem tC : ∀ (ks : List K) (D : List (K × Bool)) (a : K),a ∈ (fP D ks).map (·.1) ↔ a ∈ D.map (·.1) ∨ a ∈ ks
 | [],D,a=>by simp [fP]
 | k :: ks,D,a=>by
  have:=tC ks (fT D k true) a;unfold fP at this ⊢;rw [List.foldl_cons,this,Kh,List.mem_cons,or_assoc]
theorem mK : ∀ (ks : List K) (D : List (K × Bool)),(D.map (·.1)).Nodup → ((fP D ks).map (·.1)).Nodup
 | [],_,h=>h
 | k :: ks,D,h=>mK ks (fT D k true) (vM h k true)
theorem tD : ∀ (ks : List K) (D : List (K × Bool)),(fP D ks).length ≤ D.length + ks.length
 | [],_=>Nat.le_refl _
 | k :: ks,D=>by
  have h1:=tD ks (fT D k true);have h2:=tB D k true;show (fP (fT D k true) ks).length ≤ _
  rw [List.length_cons];omega
theorem wU : ∀ (ks : List K) (D : List (K × Bool)) (a : K),cP (fP D ks) a = if a ∈ ks then some true else cP D a
 | [],D,a=>by simp [fP]
 | k :: ks,D,a=>by
  have h:=wU ks (fT D k true) a;show cP (fP (fT D k true) ks) a = _
  rw [h,lH];by_cases h1 : a ∈ ks
  · rw [if_pos h1,if_pos (List.mem_cons_of_mem _ h1)]
  · rw [if_neg h1]
    by_cases h2 : k = a
    · rw [if_pos h2,if_pos (h2 ▸ List.mem_cons_self ..)]
    · rw [if_neg h2,if_neg (fun k'=>(List.mem_cons.1 k').elim (fun e=>h2 e.symm) h1)]
theorem Kk (D : List (K × Bool)) (ks ls : List K) : fP D (ks ++ ls) = fP (fP D ks) ls:=List.foldl_append ..
theorem oL (ks : List K) (a : K) : (cP (fP [] ks) a).getD false = decide (a ∈ ks):=by
 rw [wU];by_cases h : a ∈ ks
 · rw [if_pos h,decide_eq_true h];rfl
 · rw [if_neg h,decide_eq_false h];rfl
theorem Cm {ks : List K} {a : K} : (cP (fP [] ks) a).getD false = true ↔ a ∈ ks:=by
 rw [wU];by_cases h : a ∈ ks
 · rw [if_pos h];exact ⟨fun _=>h,fun _=>rfl⟩
 · rw [if_neg h];exact ⟨fun k=>(by cases k),fun k=>absurd k h⟩
end
/-! ### No edge twice -/
theorem xX {x e : E3} {es : List E3} : jS (x :: es) e = (if x = e then 1 else 0) + jS es e:=by
 unfold jS;by_cases h : x = e
 · rw [List.filter_cons_of_pos (by simpa using h),List.length_cons,if_pos h];omega
 · rw [List.filter_cons_of_neg (by simpa using h),if_neg h];omega
theorem Fu : ∀ {es : List E3},es.Nodup ↔ ∀ e,jS es e ≤ 1
 | []=>by simp [jS]
 | x :: es=>by
  rw [List.nodup_cons,Fu (es:=es)];constructor
  · rintro ⟨h1,h2⟩ e
    rw [xX];by_cases h : x = e
    · have : ¬ 0 < jS es e:=fun k=>h1 (h ▸ oK.1 k)
      rw [if_pos h];omega
    · rw [if_neg h];have:=h2 e;omega
  · intro h
    refine ⟨fun k=>?_,fun e=>?_⟩
    · have h1:=h x
      rw [xX,if_pos rfl] at h1;have:=oK.2 k;omega
    · have:=h e
      rw [xX] at this;omega
theorem Hq {es : List E3} : (es.any fun e=>decide (1 < jS es e)) = decide (¬ es.Nodup):=by
 rw [Bool.eq_iff_iff,List.any_eq_true,decide_eq_true_eq,Fu];constructor
 · rintro ⟨e,_,h⟩ k
   have:=k e;simp only[decide_eq_true_eq] at h;omega
 · intro h
   obtain ⟨e,he⟩:=Classical.not_forall.1 h;exact ⟨e,oK.1 (by omega),by simpa using Nat.not_le.1 he⟩
theorem vO {α : Type} {es : List α} {e : α} : (es ++ [e]).Nodup ↔ es.Nodup ∧ e ∉ es:=by
 rw [List.nodup_append];constructor
 · rintro ⟨h1,_,h3⟩
   exact ⟨h1,fun k=>h3 e k e (by simp) rfl⟩
 · rintro ⟨h1,h2⟩
   exact ⟨h1,by simp,fun a ha b hb e'=>h2 (by rw [← List.mem_singleton.1 hb,← e'];exact ha)⟩
end Go.Lith
namespace Go.Lith
open Go.RowKit
section
variable {K V : Type} [DecidableEq K]
def lK (D : List (K × V)) (xs : List (K × V)) : List (K × V):=xs.foldl (fun D x=>fT D x.1 x.2) D
theorem Cn : ∀ (xs D : List (K × V)) (k : K),(xs.map (·.1)).Nodup → cP (lK D xs) k = match cP xs k with | some v=>some v | none=>cP D k
 | [],D,k,_=>rfl
 | (a,v) :: xs,D,k,h=>by
  rw [List.map_cons,List.nodup_cons] at h;have ih:=Cn xs (fT D a v) k h.2;show cP (lK (fT D a v) xs) k = _
  rw [ih,lH,cP];by_cases e : a = k
  · rw [if_pos e,if_pos e]
    have : cP xs k = none:=qJ.2 (e ▸ h.1);rw [this]
  · rw [if_neg e,if_neg e]
theorem Kl (D xs ys : List (K × V)) : lK D (xs ++ ys) = lK (lK D xs) ys:=List.foldl_append ..
def pK (D : List (K × Nat)) (ks : List K) : List (K × Nat):=ks.foldl (fun D k=>fT D k ((cP D k).getD 0 + 1)) D
def oP (ks : List K) (a : K) : Nat:=(ks.filter fun x=>decide (x = a)).length
theorem mL {x a : K} {ks : List K} : oP (x :: ks) a = (if x = a then 1 else 0) + oP ks a:=by
 unfold oP;by_cases h : x = a
 · rw [List.filter_cons_of_pos (by simpa using h),List.length_cons,if_pos h];omega
 · rw [List.filter_cons_of_neg (by simpa using h),if_neg h];omega
theorem Co {a : K} {ks ls : List K} : oP (ks ++ ls) a = oP ks a + oP ls a:=by simp [oP]
theorem Km : ∀ (ks : List K) (D : List (K × Nat)) (a : K),(cP (pK D ks) a).getD 0 = (cP D a).getD 0 + oP ks a
 | [],D,a=>rfl
 | k :: ks,D,a=>by
  have h:=Km ks (fT D k ((cP D k).getD 0 + 1)) a;show (cP (pK (fT D k ((cP D k).getD 0 + 1)) ks) a).getD 0 = _
  rw [h,lH,mL];by_cases e : k = a
  · subst e
    rw [if_pos rfl,if_pos rfl,Option.getD_some];omega
  · rw [if_neg e,if_neg e];omega
theorem Wi (D : List (K × Nat)) (ks ls : List K) : pK D (ks ++ ls) = pK (pK D ks) ls:=List.foldl_append ..
theorem Cp : ∀ {l m : List K},l.Nodup → (∀ a ∈ l,a ∈ m) → l.length ≤ m.length
 | [],_,_,_=>Nat.zero_le _
 | x :: l,m,h,k=>by
  rw [List.nodup_cons] at h;have hx:=k x (List.mem_cons_self ..);have h1:=Cp (m:=m.erase x) h.2 fun a ha=>(List.mem_erase_of_ne (fun (e : a = x)=>h.1 (e ▸ ha))).2 (k a (List.mem_cons_of_mem _ ha));rw [List.length_erase_of_mem hx] at h1;have:=List.length_pos_of_mem hx;rw [List.length_cons];omega
end
/-! ### What lies behind an edge -/
def iP (ts : List T3) : List (E3 × P3):=ts.flatMap fun t=>[((t.a,t.b),t.c),((t.b,t.c),t.a),((t.c,t.a),t.b)]
theorem mM : ∀ ts : List T3,(iP ts).map (·.1) = bH ts
 | []=>rfl
 | t :: ts=>by
  have:=mM ts;unfold iP bH at this ⊢;rw [List.flatMap_cons,List.map_append,this];rfl
theorem Cq {ts : List T3} {k : Nat} {t : T3} (h : ts[k]? = some t) : iP (ts.take (k + 1)) = iP (ts.take k) ++ [((t.a,t.b),t.c),((t.b,t.c),t.a),((t.c,t.a),t.b)]:=by
 unfold iP;rw [eR h,List.flatMap_append];simp
theorem rP (p q : P3) : ∀ ts : List T3,bR ts p q = cP (iP ts) (p,q)
 | []=>rfl
 | t :: ts=>by
  have ih:=rP p q ts;have e : iP (t :: ts) = ((t.a,t.b),t.c) :: ((t.b,t.c),t.a) :: ((t.c,t.a),t.b) :: iP ts:=rfl;rw [e,bR,cP,cP,cP,← ih,T3.fnd];by_cases h1 : t.a = p ∧ t.b = q
  · rw [if_pos h1,if_pos (Prod.ext h1.1 h1.2)]
  · rw [if_neg h1,if_neg (fun e=>h1 ⟨congrArg Prod.fst e,congrArg Prod.snd e⟩)]
    by_cases h2 : t.b = p ∧ t.c = q
    · rw [if_pos h2,if_pos (Prod.ext h2.1 h2.2)]
    · rw [if_neg h2,if_neg (fun e=>h2 ⟨congrArg Prod.fst e,congrArg Prod.snd e⟩)]
      by_cases h3 : t.c = p ∧ t.a = q
      · rw [if_pos h3,if_pos (Prod.ext h3.1 h3.2)]
      · rw [if_neg h3,if_neg (fun e=>h3 ⟨congrArg Prod.fst e,congrArg Prod.snd e⟩)]
theorem qM {ts : List T3} (h : (bH ts).Nodup) (p q : P3) : cP (lK [] (iP ts)) (p,q) = bR ts p q:=by
 rw [Cn _ _ _ (by rw [mM];exact h),rP];cases cP (iP ts) (p,q) <;> rfl
theorem mN {ts : List T3} {x y z : P3} (h : ((x,y),z) ∈ iP ts) : ((y,z),x) ∈ iP ts:=by
 obtain ⟨t,ht,hx⟩:=List.mem_flatMap.1 h;refine List.mem_flatMap.2 ⟨t,ht,?_⟩;simp only[List.mem_cons,List.not_mem_nil,or_false,Prod.mk.injEq] at hx ⊢;rcases hx with ⟨⟨rfl,rfl⟩,rfl⟩ | ⟨⟨rfl,rfl⟩,rfl⟩ | ⟨⟨rfl,rfl⟩,rfl⟩
 · exact .inr (.inl ⟨⟨rfl,rfl⟩,rfl⟩)
 · exact .inr (.inr ⟨⟨rfl,rfl⟩,rfl⟩)
 · exact .inl ⟨⟨rfl,rfl⟩,rfl⟩
theorem Nf {ts : List T3} (h : (bH ts).Nodup) {e : E3} {x y : P3} (h1 : (e,x) ∈ iP ts) (h2 : (e,y) ∈ iP ts) : x = y:=by
 have k : ((iP ts).map (·.1)).Nodup:=by rw [mM];exact h
 have a:=lI k h1;rw [lI k h2] at a;exact (Option.some.inj a).symm
theorem rQ {ts : List T3} {p q x : P3} (h : bR ts p q = some x) : ((p,q),x) ∈ iP ts:=wR (by rw [← rP];exact h)
theorem yS {ts : List T3} {p q x : P3} (h : bR ts p q = some x) : (p,q) ∈ bH ts:=by
 rw [← mM];exact List.mem_map.2 ⟨_,rQ h,rfl⟩
theorem Kn {ts : List T3} {p q : P3} (h : (p,q) ∈ bH ts) : ∃ x,bR ts p q = some x:=by
 rw [rP];cases e : cP (iP ts) (p,q) with
 | some x=>exact ⟨x,rfl⟩
 | none =>
  have:=qJ.1 e;rw [mM] at this;exact absurd h this
theorem Ng {ts : List T3} (h : (bH ts).Nodup) {p x y z : P3} (h1 : bR ts p x = some z) (h2 : bR ts p y = some z) : x = y :=
 Nf h (mN (mN (rQ h1))) (mN (mN (rQ h2)))
theorem Ko {ts : List T3} {p x z : P3} (h : bR ts p x = some z) : (z,p) ∈ bH ts:=by
 rw [← mM];exact List.mem_map.2 ⟨_,mN (mN (rQ h)),rfl⟩
def qU (ts : List T3) (p : P3) : Nat → P3 → Option P3
 | 0,x=>some x
 | n + 1,x=>(bR ts p x).bind (qU ts p n)
theorem tE {ts : List T3} {p : P3} : ∀ (n : Nat) (x : P3),qU ts p (n + 1) x = (qU ts p n x).bind (bR ts p)
 | 0,x=>by simp [qU]
 | n + 1,x=>by
  rw [qU];cases h : bR ts p x with
  | none=>simp [qU,h]
  | some y =>
   rw [Option.bind_some,tE n y,qU,h];rfl
theorem Kp {ms : List T3} {p s : P3} : ∀ (n : Nat) (x : P3),sW ms p s n x = true ↔ ∃ j,1 ≤ j ∧ j ≤ n ∧ qU ms p j x = some s
 | 0,x=>⟨fun h=>(by cases h),fun ⟨j,h1,h2,_⟩=>by omega⟩
 | n + 1,x=>by
  cases h : bR ms p x with
  | none =>
   rw [Rc h];refine ⟨fun k=>(by cases k),fun ⟨j,h1,_,h3⟩=>?_⟩;obtain ⟨i,rfl⟩ : ∃ i,j = i + 1:=⟨j - 1,by omega⟩
   rw [qU,h] at h3;cases h3
  | some y =>
   by_cases e : y = s
   · subst e
     rw [Vj h];exact ⟨fun _=>⟨1,Nat.le_refl _,by omega,by simp [qU,h]⟩,fun _=>rfl⟩
   · rw [Re h e,Kp n y]
     constructor
     · rintro ⟨j,h1,h2,h3⟩
       exact ⟨j + 1,by omega,by omega,by rw [qU,h];exact h3⟩
     · rintro ⟨j,h1,h2,h3⟩
       obtain ⟨i,rfl⟩ : ∃ i,j = i + 1:=⟨j - 1,by omega⟩
       rw [qU,h,Option.bind_some] at h3;cases i with
       | zero=>exact absurd (Option.some.inj h3) e
       | succ i=>exact ⟨i + 1,by omega,by omega,h3⟩
def tF (nx : P3 → Option P3) (s : P3) : Nat → P3 → Nat → P3 × Nat
 | 0,a,z=>(a,z)
 | n + 1,a,z=>if a = s then (a,z) else match nx a with | none=>(a,z) | some b=>tF nx s n b (z + 1)
theorem Wj {nx : P3 → Option P3} {s : P3} {n z : Nat} : tF nx s n s z = (s,z):=by
 cases n with
 | zero=>rfl
 | succ n=>rw [tF,if_pos rfl]
theorem Hr {ts : List T3} {p s : P3} {M : Nat} : ∀ (n : Nat) (a : P3) (z : Nat),n = M + 1 - z → ((tF (bR ts p) s n a z).1 = s ∧ (tF (bR ts p) s n a z).2 < M ↔ ∃ j,z ≤ j ∧ j < M ∧ qU ts p (j - z) a = some s)
 | 0,a,z,h=>by
  rw [tF];refine ⟨fun k=>?_,fun ⟨j,h1,h2,_⟩=>?_⟩
  · have:=k.2;simp only at this;omega
  · omega
 | n + 1,a,z,h=>by
  rw [tF];by_cases e : a = s
  · rw [if_pos e]
    refine ⟨fun k=>⟨z,Nat.le_refl _,k.2,by rw [Nat.sub_self,qU,e]⟩,fun ⟨j,h1,h2,_⟩=>⟨e,by simp only;omega⟩⟩
  · rw [if_neg e]
    cases hb : bR ts p a with
    | none =>
     refine ⟨fun k=>absurd k.1 e,fun ⟨j,h1,h2,h3⟩=>?_⟩;cases hj : j - z with
     | zero=>rw [hj,qU] at h3;exact absurd (Option.some.inj h3) e
     | succ i=>rw [hj,qU,hb] at h3;cases h3
    | some b =>
     rw [Hr n b (z + 1) (by omega)];constructor
     · rintro ⟨j,h1,h2,h3⟩
       refine ⟨j,by omega,h2,?_⟩;rw [show j - z = (j - (z + 1)) + 1 by omega,qU,hb];exact h3
     · rintro ⟨j,h1,h2,h3⟩
       rcases Nat.lt_or_ge z j with hz | hz
       · refine ⟨j,by omega,h2,?_⟩
         rw [show j - z = (j - (z + 1)) + 1 by omega,qU,hb] at h3;exact h3
       · rw [show j - z = 0 by omega,qU] at h3
         exact absurd (Option.some.inj h3) e
/-! ### The triangles of a corner -/
theorem Zx {t : T3} {p q x : P3} (h : t.fnd p q = some x) : ∃ c,c < 3 ∧ t.cor c = p:=by
 unfold T3.fnd at h;split at h
 · rename_i h';exact ⟨0,by decide,h'.1⟩
 · split at h
   · rename_i h';exact ⟨1,by decide,h'.1⟩
   · split at h
     · rename_i h';exact ⟨2,by decide,h'.1⟩
     · cases h
theorem Nh {ts us : List T3} {p q : P3} : bR (ts ++ us) p q = match bR ts p q with | some x=>some x | none=>bR us p q:=by
 induction ts with
 | nil=>rfl
 | cons t ts ih =>
  rw [List.cons_append,bR,bR];cases t.fnd p q with
  | some x=>rfl
  | none=>exact ih
theorem Sa {t u : T3} {p : P3} (h : u ∈ Bt p t 3) : u = t ∧ ∃ c,c < 3 ∧ t.cor c = p:=by
 obtain ⟨c,hc,h⟩:=List.mem_flatMap.1 h;unfold Ou at h;split at h
 · rename_i e
   exact ⟨List.mem_singleton.1 h,c,List.mem_range.1 hc,e⟩
 · cases h
theorem Ni {t : T3} {p : P3} {c : Nat} (hc : c < 3) (h : t.cor c = p) : t ∈ Bt p t 3 :=
 List.mem_flatMap.2 ⟨c,List.mem_range.2 hc,by rw [Ou,if_pos h];exact List.mem_singleton.2 rfl⟩
theorem Cr {t : T3} {p q : P3} : ∀ us : List T3,(∀ u ∈ us,u = t) → bR us p q = if us = [] then none else t.fnd p q
 | [],_=>rfl
 | u :: us,h=>by
  have e:=h u (List.mem_cons_self ..);have ih:=Cr (p:=p) (q:=q) us fun v hv=>h v (List.mem_cons_of_mem _ hv);rw [bR,e,if_neg (by simp)];cases hf : t.fnd p q with
  | some x=>rfl
  | none =>
   simp only;rw [ih];split
   · rfl
   · exact hf
theorem yT (p q : P3) : ∀ ts : List T3,bR (qB ts p) p q = bR ts p q
 | []=>rfl
 | t :: ts=>by
  have e : qB (t :: ts) p = Bt p t 3 ++ qB ts p:=by simp [qB]
  rw [e,Nh,yT p q ts,bR,Cr (t:=t) _ (fun u hu=>(Sa hu).1)];by_cases h : Bt p t 3 = []
  · rw [if_pos h]
    cases hf : t.fnd p q with
    | none=>rfl
    | some x =>
     obtain ⟨c,hc,k⟩:=Zx hf;have:=Ni hc k;rw [h] at this;cases this
  · rw [if_neg h]
    rfl
theorem Cs (ts : List T3) (p : P3) : ∀ (n : Nat) (x : P3),qU (qB ts p) p n x = qU ts p n x
 | 0,_=>rfl
 | n + 1,x=>by
  rw [qU,qU,yT];cases bR ts p x with
  | none=>rfl
  | some y=>exact Cs ts p n y
theorem Kq (p : P3) : ∀ ts : List T3,(qB ts p).length = oP (cY ts) p
 | []=>rfl
 | t :: ts=>by
  have ih:=Kq p ts;have e : qB (t :: ts) p = Bt p t 3 ++ qB ts p:=by simp [qB]
  have e2 : cY (t :: ts) = [t.a,t.b,t.c] ++ cY ts:=rfl;rw [e,e2,List.length_append,Co,ih]
  congr 1
  have r3 : List.range 3 = [0,1,2]:=rfl;unfold Bt;rw [r3];simp only[List.flatMap_cons,List.flatMap_nil,List.append_nil,List.length_append,Ou];rw [mL,mL,mL];have k : ∀ (c : Nat) (x : P3),t.cor c = x → (if t.cor c = p then [t] else []).length = if x = p then 1 else 0:=fun c x hx=>by
   subst hx;split <;> rfl
  rw [k 0 t.a rfl,k 1 t.b rfl,k 2 t.c rfl];rfl
theorem Fv {p s : P3} {ts : List T3} : s ∈ Mo ts p ↔ (p,s) ∈ bH ts:=by
 unfold Mo bH;rw [List.mem_flatMap,List.mem_flatMap];refine exists_congr fun t=>and_congr Iff.rfl ?_;unfold Vi;rw [show List.range 3 = [0,1,2] from rfl];simp only[List.flatMap_cons,List.flatMap_nil,List.append_nil,List.mem_append,Vh,List.mem_cons,List.not_mem_nil,or_false,Prod.mk.injEq];have k : ∀ (c : Nat) (x y : P3),t.cor c = x → t.cor ((c + 1) % 3) = y → (s ∈ (if t.cor c = p then [t.cor ((c + 1) % 3)] else []) ↔ p = x ∧ s = y):=fun c x y hx hy=>by
  subst hx;subst hy;split
  · rename_i h;rw [List.mem_singleton];exact ⟨fun e=>⟨h.symm,e⟩,fun e=>e.2⟩
  · rename_i h;exact ⟨fun e=>(by cases e),fun e=>absurd e.1.symm h⟩
 rw [k 0 t.a t.b rfl rfl,k 1 t.b t.c rfl rfl,k 2 t.c t.a rfl rfl]
theorem xY {ps : List P3} {p x : P3} : x ∈ yM ps p ↔ x = p ∨ x ∈ ps:=by
 unfold yM;split
 · rename_i h
   exact ⟨.inr,fun k=>k.elim (fun e=>e ▸ List.mem_of_getElem? h) id⟩
 · conv=>rhs;rw [← List.take_append_drop (Zl ps p) ps]
   simp only[List.mem_append,List.mem_singleton];exact ⟨fun h=>h.elim (fun h=>h.elim (fun h=>.inr (.inl h)) .inl) (fun h=>.inr (.inr h)),fun h=>h.elim (fun h=>.inl (.inr h)) (fun h=>h.elim (fun h=>.inl (.inl h)) .inr)⟩
theorem Kr {x : P3} {ts : List T3} : x ∈ nB ts ↔ x ∈ cY ts:=by
 have : ∀ (ts : List T3) (ps : List P3),x ∈ ts.foldl (fun ps t=>yM (yM (yM ps t.a) t.b) t.c) ps ↔ x ∈ ps ∨ x ∈ cY ts:=by
  intro ts
  induction ts with
  | nil=>intro ps;simp [cY]
  | cons t ts ih =>
   intro ps;rw [List.foldl_cons,ih,xY,xY,xY];have e : cY (t :: ts) = [t.a,t.b,t.c] ++ cY ts:=rfl;rw [e];simp only[List.mem_append,List.mem_cons,List.not_mem_nil,or_false];constructor
   · rintro ((h | h | h | h) | h)
     · exact .inr (.inl (.inr (.inr h)))
     · exact .inr (.inl (.inr (.inl h)))
     · exact .inr (.inl (.inl h))
     · exact .inl h
     · exact .inr (.inr h)
   · rintro (h | (h | h | h) | h)
     · exact .inl (.inr (.inr (.inr h)))
     · exact .inl (.inr (.inr (.inl h)))
     · exact .inl (.inr (.inl h))
     · exact .inl (.inl h)
     · exact .inr h
 have:=this ts [];simpa [nB] using this
theorem Fw {ts : List T3} {e : E3} (h : e ∈ bH ts) : e.1 ∈ cY ts ∧ e.2 ∈ cY ts:=by
 obtain ⟨t,ht,hx⟩:=List.mem_flatMap.1 h;have key : ∀ x,x = t.a ∨ x = t.b ∨ x = t.c → x ∈ cY ts:=fun x hx=>List.mem_flatMap.2 ⟨t,ht,by simpa using hx⟩;simp only[List.mem_cons,List.not_mem_nil,or_false] at hx;rcases hx with rfl | rfl | rfl
 · exact ⟨key _ (.inl rfl),key _ (.inr (.inl rfl))⟩
 · exact ⟨key _ (.inr (.inl rfl)),key _ (.inr (.inr rfl))⟩
 · exact ⟨key _ (.inr (.inr rfl)),key _ (.inl rfl)⟩
def Hs (ts : List T3) (e : E3) : Prop:=∃ x,bR ts e.1 e.2 = some x ∧ (tF (bR ts e.1) e.2 (oP (cY ts) e.1 + 1 - 1) x 1).1 = e.2 ∧ (tF (bR ts e.1) e.2 (oP (cY ts) e.1 + 1 - 1) x 1).2 < oP (cY ts) e.1
theorem Ks {ts : List T3} {e : E3} : Hs ts e ↔ e ∈ bH ts ∧ sW (qB ts e.1) e.1 e.2 ((qB ts e.1).length - 1) e.2 = true:=by
 rw [Kp,Kq];constructor
 · rintro ⟨x,hx,h⟩
   obtain ⟨j,h1,h2,h3⟩:=(Hr (M:=oP (cY ts) e.1) _ x 1 (by omega)).1 h;refine ⟨yS hx,j,h1,by omega,?_⟩;rw [Cs,show j = (j - 1) + 1 by omega,qU,hx];exact h3
 · rintro ⟨he,j,h1,h2,h3⟩
   obtain ⟨x,hx⟩:=Kn he;refine ⟨x,hx,(Hr (M:=oP (cY ts) e.1) _ x 1 (by omega)).2 ⟨j,h1,by omega,?_⟩⟩;rw [Cs,show j = (j - 1) + 1 by omega,qU,hx] at h3;exact h3
theorem pinned {ts : List T3} : (nB ts).any (Rf ts) = true ↔ ∃ e,Hs ts e:=by
 rw [List.any_eq_true];constructor
 · rintro ⟨p,_,h⟩
   obtain ⟨s,hs,hr⟩:=List.any_eq_true.1 h;exact ⟨(p,s),Ks.2 ⟨Fv.1 hs,hr⟩⟩
 · rintro ⟨e,h⟩
   obtain ⟨he,hr⟩:=Ks.1 h;exact ⟨e.1,Kr.2 (Fw he).1,List.any_eq_true.2 ⟨e.2,Fv.2 he,hr⟩⟩
end Go.Lith
namespace Go.Lith
open Go.RowKit
/-! ### The ends of fans -/
def Kt (ts : List T3) (p : P3) : Nat → P3 → P3
 | 0,a=>a
 | n + 1,a=>match bR ts p a with
  | none=>a
  | some x=>Kt ts p n x
theorem Wk {ts : List T3} {p : P3} : ∀ (i n : Nat) (a x : P3),i ≤ n → qU ts p i a = some x → bR ts p x = none → Kt ts p n a = x
 | 0,n,a,x,_,h,hn=>by
  cases h;cases n with
  | zero=>rfl
  | succ n=>simp only[Kt,hn]
 | i + 1,n,a,x,hi,h,hn=>by
  obtain ⟨m,rfl⟩ : ∃ m,n = m + 1:=⟨n - 1,by omega⟩
  rw [qU] at h;cases hb : bR ts p a with
  | none=>rw [hb] at h;cases h
  | some y =>
   rw [hb,Option.bind_some] at h;simp only[Kt,hb];exact Wk i m y x (by omega) h hn
def Pc (ts : List T3) : Prop:=∀ t ∈ ts,wI t = false
theorem aeA {t : T3} (h : wI t = false) : t.a ≠ t.b ∧ t.b ≠ t.c ∧ t.c ≠ t.a:=by
 unfold wI at h;simp only[Bool.or_eq_false_iff,decide_eq_false_iff_not] at h;exact ⟨h.1.1,h.1.2,h.2⟩
theorem Ku {p : P3} : ∀ {ts : List T3},Pc ts → ((bH ts).filter fun e=>decide (e.1 = p)).length ≤ ts.length
 | [],_=>Nat.le_refl _
 | t :: ts,h=>by
  have ih:=Ku (p:=p) (ts:=ts) fun u hu=>h u (List.mem_cons_of_mem _ hu);obtain ⟨h1,h2,h3⟩:=aeA (h t (List.mem_cons_self ..));have e : bH (t :: ts) = [(t.a,t.b),(t.b,t.c),(t.c,t.a)] ++ bH ts:=rfl;rw [e,List.filter_append,List.length_append,List.length_cons];have : (List.filter (fun e : E3=>decide (e.1 = p)) [(t.a,t.b),(t.b,t.c),(t.c,t.a)]).length ≤ 1:=by
   simp only[List.filter_cons,List.filter_nil];by_cases ha : t.a = p
   · have hb : ¬ t.b = p:=fun e=>h1 (ha.trans e.symm)
     have hc : ¬ t.c = p:=fun e=>h3 (e.trans ha.symm);simp [ha,hb,hc]
   · by_cases hb : t.b = p
     · have hc : ¬ t.c = p:=fun e=>h2 (hb.trans e.symm)
       simp [ha,hb,hc]
     · by_cases hc : t.c = p <;> simp [ha,hb,hc]
  omega
theorem Pd {ts : List T3} {p : P3} : ∀ (i j : Nat) (a : P3),qU ts p (i + j) a = (qU ts p i a).bind (qU ts p j)
 | 0,j,a=>by simp [qU]
 | i + 1,j,a=>by
  rw [show i + 1 + j = (i + j) + 1 by omega,qU,qU];cases bR ts p a with
  | none=>rfl
  | some y=>rw [Option.bind_some,Option.bind_some];exact Pd i j y
theorem Fx {ts : List T3} {p a : P3} (hn : (bH ts).Nodup) (hb : (a,p) ∉ bH ts) : ∀ (i j : Nat) (x : P3),i < j → qU ts p i a = some x → qU ts p j a ≠ some x
 | 0,j,x,hij,h,k=>by
  cases h;obtain ⟨m,rfl⟩ : ∃ m,j = m + 1:=⟨j - 1,by omega⟩
  rw [tE] at k;obtain ⟨y,_,hy⟩:=Option.bind_eq_some_iff.1 k;exact hb (Ko hy)
 | i + 1,j,x,hij,h,k=>by
  obtain ⟨m,rfl⟩ : ∃ m,j = m + 1:=⟨j - 1,by omega⟩
  rw [tE] at h k;obtain ⟨y,hy,hy'⟩:=Option.bind_eq_some_iff.1 h;obtain ⟨z,hz,hz'⟩:=Option.bind_eq_some_iff.1 k;have e:=Ng hn hy' hz';subst e;exact Fx hn hb i m y (by omega) hy hz
theorem Zy {ts : List T3} {p a x : P3} (hd : Pc ts) (hn : (bH ts).Nodup) (hb : (a,p) ∉ bH ts) {i : Nat} (h : qU ts p i a = some x) : i ≤ ts.length:=by
 have key : ∀ j,j ≤ i → ∃ y,qU ts p j a = some y:=fun j hj=>by
  have e : i = j + (i - j):=by omega
  rw [e,Pd] at h;obtain ⟨y,hy,_⟩:=Option.bind_eq_some_iff.1 h;exact ⟨y,hy⟩
 have h1:=Ku (p:=p) hd;have h2 : ((List.range i).map fun j=>(p,(qU ts p j a).getD p)).length ≤ ((bH ts).filter fun e=>decide (e.1 = p)).length:=by
  refine Cp ?_ fun e he=>?_
  · rw [List.Nodup,List.pairwise_map]
    refine (List.pairwise_lt_range (n:=i)).imp_of_mem fun {j k} hj hk hjk e=>?_;obtain ⟨y,hy⟩:=key j (by have:=List.mem_range.1 hj;omega);obtain ⟨z,hz⟩:=key k (by have:=List.mem_range.1 hk;omega);rw [hy,hz] at e;have e' : y = z:=(Prod.mk.inj e).2;subst e';exact Fx hn hb j k y hjk hy hz
  · obtain ⟨j,hj,rfl⟩:=List.mem_map.1 he
    have hj':=List.mem_range.1 hj;obtain ⟨y,hy⟩:=key j (by omega);obtain ⟨z,hz⟩:=key (j + 1) (by omega);rw [tE,hy,Option.bind_some] at hz;refine List.mem_filter.2 ⟨?_,by simp⟩;rw [hy];exact yS hz
 rw [List.length_map,List.length_range] at h2;omega
/-! ### As the reference says it -/
abbrev Mv:=P3 × P3
def kA : List Mv → P3 → P3
 | [],p=>p
 | m :: ms,p=>if m.1 = p then m.2 else kA ms p
def T3.has (t : T3) (p : P3) : Bool:=decide (t.a = p) || decide (t.b = p) || decide (t.c = p)
def qN (ts : List T3) (p : P3) : Bool:=ts.any fun t=>t.has p
def qO (ts : List T3) (p q : P3) : Bool:=ts.any fun t=>t.has p && t.has q
def Ct (rim : List E3) (p : P3) : Bool:=rim.any fun e=>decide (e.1 = p) || decide (e.2 = p)
def wV (fine coarse : List T3) (rim : List E3) : Bool:=rim.all fun e=>decide (Kt fine e.1 fine.length e.2 = Kt coarse e.1 coarse.length e.2)
def pL (fine coarse : List T3) (rim : List E3) : Bool:=(bH coarse).any fun e=>Ct rim e.1 && Ct rim e.2 && !qO fine e.1 e.2
def qP (fine coarse : List T3) (ms : List Mv) (rim : List E3) (i : Nat) (m : Mv) : Bool :=
 (decide (i = 0) || (ms[i - 1]?).any fun k=>decide (k.1.Lt m.1)) && qN fine m.1 && (qN coarse m.2 && qN fine m.2 && ms.all fun k=>decide (k.1 ≠ m.2)) && !Ct rim m.1
def oM (fine coarse : List T3) (ms : List Mv) (rim : List E3) : Bool:=ms.zipIdx.all fun x=>qP fine coarse ms rim x.2 x.1
def iY (t : T3) : T3:=if t.c.Lt t.a ∧ (t.c.Lt t.b ∨ ¬ t.b.Lt t.a) then ⟨t.c,t.a,t.b⟩ else if t.b.Lt t.a then ⟨t.b,t.c,t.a⟩ else t
theorem Wl {t u : T3} (h1 : t.a = u.a) (h2 : t.b = u.b) (h3 : t.c = u.c) : t = u:=by
 cases t;cases u;simp only at h1 h2 h3;subst h1;subst h2;subst h3;rfl
instance : DecidableEq T3:=fun t u=>decidable_of_iff (t.a = u.a ∧ t.b = u.b ∧ t.c = u.c) ⟨fun h=>Wl h.1 h.2.1 h.2.2,fun h=>by rw [h];exact ⟨rfl,rfl,rfl⟩⟩
def T3.img (ms : List Mv) (t : T3) : T3:=⟨kA ms t.a,kA ms t.b,kA ms t.c⟩
def T3.nd (t : T3) : Bool:=decide (t.a ≠ t.b) && decide (t.b ≠ t.c) && decide (t.c ≠ t.a)
def Cu (coarse : List T3) (x : T3) : Bool:=if x.nd then coarse.any fun u=>decide (iY u = iY x) else qO coarse x.a (if x.a = x.b then x.c else x.b)
def Wm (ms : List Mv) (fine : List T3) (u : T3) : Nat:=(fine.filter fun t=>(t.img ms).nd && decide (iY u = iY (t.img ms))).length
def pM (fine coarse : List T3) (ms : List Mv) : Bool:=(fine.all fun t=>Cu coarse (t.img ms)) && coarse.all fun u=>decide (Wm ms fine u = 1)
end Go.Lith
namespace Go.Lith
open Go.RowKit
/-! ### Corners and edges -/
theorem uE {t : T3} {p : P3} : t.has p = true ↔ p = t.a ∨ p = t.b ∨ p = t.c:=by
 unfold T3.has;simp only[Bool.or_eq_true,decide_eq_true_eq,or_assoc];exact or_congr ⟨Eq.symm,Eq.symm⟩ (or_congr ⟨Eq.symm,Eq.symm⟩ ⟨Eq.symm,Eq.symm⟩)
theorem Kv {ts : List T3} {p : P3} : qN ts p = true ↔ p ∈ cY ts:=by
 unfold qN cY;rw [List.any_eq_true,List.mem_flatMap];exact exists_congr fun t=>and_congr Iff.rfl (by rw [uE];simp)
theorem Ht (ts : List T3) (p : P3) : qN ts p = decide (p ∈ cY ts):=by rw [Bool.eq_iff_iff,Kv,decide_eq_true_eq]
theorem nD {ts : List T3} {p q : P3} : qO ts p q = true ↔ ∃ t ∈ ts,t.has p = true ∧ t.has q = true:=by
 unfold qO;rw [List.any_eq_true];exact exists_congr fun t=>and_congr Iff.rfl (by rw [Bool.and_eq_true])
theorem xZ {ts : List T3} {p q : P3} (h : qO ts p q = true) : qO ts q p = true:=by
 obtain ⟨t,ht,h1,h2⟩:=nD.1 h;exact nD.2 ⟨t,ht,h2,h1⟩
theorem Sb {ts : List T3} {p : P3} : qO ts p p = true ↔ p ∈ cY ts:=by
 rw [nD,← Kv,qN,List.any_eq_true];exact exists_congr fun t=>and_congr Iff.rfl ⟨fun h=>h.1,fun h=>⟨h,h⟩⟩
theorem Fy {ts : List T3} {p q : P3} (h : qO ts p q = true) : qO ts p p = true:=by
 obtain ⟨t,ht,h1,_⟩:=nD.1 h;exact nD.2 ⟨t,ht,h1,h1⟩
theorem Nj {ts : List T3} {e : E3} (h : e ∈ bH ts) : qO ts e.1 e.2 = true:=by
 obtain ⟨t,ht,hx⟩:=List.mem_flatMap.1 h;refine nD.2 ⟨t,ht,?_,?_⟩ <;> rw [uE] <;> (simp only[List.mem_cons,List.not_mem_nil,or_false] at hx;rcases hx with rfl | rfl | rfl <;> simp)
theorem Nk {ts : List T3} {p q : P3} (h : qO ts p q = true) (hne : p ≠ q) : (p,q) ∈ bH ts ∨ (q,p) ∈ bH ts:=by
 obtain ⟨t,ht,h1,h2⟩:=nD.1 h;have key : ∀ e,e = (t.a,t.b) ∨ e = (t.b,t.c) ∨ e = (t.c,t.a) → e ∈ bH ts:=fun e he=>List.mem_flatMap.2 ⟨t,ht,by simpa using he⟩;rcases uE.1 h1 with rfl | rfl | rfl <;> rcases uE.1 h2 with rfl | rfl | rfl
 · exact absurd rfl hne
 · exact .inl (key _ (.inl rfl))
 · exact .inr (key _ (.inr (.inr rfl)))
 · exact .inr (key _ (.inl rfl))
 · exact absurd rfl hne
 · exact .inl (key _ (.inr (.inl rfl)))
 · exact .inl (key _ (.inr (.inr rfl)))
 · exact .inr (key _ (.inr (.inl rfl)))
 · exact absurd rfl hne
def Wn (t : T3) : List E3:=[(t.a,t.a),(t.a,t.b),(t.a,t.c),(t.b,t.a),(t.b,t.b),(t.b,t.c),(t.c,t.a),(t.c,t.b),(t.c,t.c)]
def kK (ts : List T3) : List E3:=ts.flatMap Wn
theorem yA {ts : List T3} {e : E3} : e ∈ kK ts ↔ qO ts e.1 e.2 = true:=by
 unfold kK;rw [List.mem_flatMap,nD];refine exists_congr fun t=>and_congr Iff.rfl ?_;rw [uE,uE];obtain ⟨p,q⟩:=e;simp only[Wn,List.mem_cons,List.not_mem_nil,or_false,Prod.mk.injEq];constructor
 · rintro (h | h | h | h | h | h | h | h | h) <;> simp [h.1,h.2]
 · rintro ⟨h1 | h1 | h1,h2 | h2 | h2⟩ <;> simp [h1,h2]
theorem uF (ts : List T3) (e : E3) : (cP (fP [] (kK ts)) e).getD false = qO ts e.1 e.2:=by
 exact Bool.eq_iff_iff.2 (Cm.trans yA)
theorem Nl {ts : List T3} {k : Nat} {t : T3} (h : ts[k]? = some t) : kK (ts.take (k + 1)) = kK (ts.take k) ++ Wn t:=by
 unfold kK;rw [eR h,List.flatMap_append];simp
/-! ### The border -/
def Cv (rim : List E3) : List P3:=rim.flatMap fun e=>[e.1,e.2]
theorem Ak {rim : List E3} {p : P3} : Ct rim p = true ↔ p ∈ Cv rim:=by
 unfold Ct Cv;rw [List.any_eq_true,List.mem_flatMap];refine exists_congr fun e=>and_congr Iff.rfl ?_;simp only[Bool.or_eq_true,decide_eq_true_eq,List.mem_cons,List.not_mem_nil,or_false];exact or_congr ⟨Eq.symm,Eq.symm⟩ ⟨Eq.symm,Eq.symm⟩
theorem Am (rim : List E3) (p : P3) : (cP (fP [] (Cv rim)) p).getD false = Ct rim p:=by
 rw [oL,Bool.eq_iff_iff,decide_eq_true_eq,Ak]
theorem Kw {rim : List E3} {k : Nat} {e : E3} (h : rim[k]? = some e) : Cv (rim.take (k + 1)) = Cv (rim.take k) ++ [e.1,e.2]:=by
 unfold Cv;rw [eR h,List.flatMap_append];simp
theorem Wo {ts : List T3} {p : P3} (h : Ct (aS ts) p = true) : p ∈ cY ts:=by
 obtain ⟨e,he,hp⟩:=List.mem_flatMap.1 (Ak.1 h);have hc:=Fw (rO.1 he).1;simp only[List.mem_cons,List.not_mem_nil,or_false] at hp;rcases hp with rfl | rfl
 · exact hc.1
 · exact hc.2
def Nm (fine : List T3) (rim : List E3) (e : E3) : Bool:=Ct rim e.1 && Ct rim e.2 && !qO fine e.1 e.2
theorem Fz {fine coarse : List T3} : pL fine coarse (aS fine) = true ↔ ∃ e ∈ kK coarse,Nm fine (aS fine) e = true:=by
 unfold pL;rw [List.any_eq_true];constructor
 · rintro ⟨e,he,h⟩
   exact ⟨e,yA.2 (Nj he),h⟩
 · rintro ⟨e,he,h⟩
   have h0:=yA.1 he;unfold Nm at h;simp only[Bool.and_eq_true,Bool.not_eq_true'] at h;obtain ⟨⟨h1,h2⟩,h3⟩:=h;obtain ⟨p,q⟩:=e;have hne : p ≠ q:=fun e=>by
    subst e;rw [Sb.2 (Wo h1)] at h3;cases h3
   rcases Nk h0 hne with k | k
   · exact ⟨_,k,by simp only at h1 h2 h3;simp [h1,h2,h3]⟩
   · refine ⟨_,k,?_⟩
     have h4 : qO fine q p = false:=by
      cases hh : qO fine q p with
      | false=>rfl
      | true=>rw [xZ hh] at h3;cases h3
     simp only at h1 h2;simp [h1,h2,h4]
/-! ### The ends of fans -/
def uX (ts : List T3) (rim : List E3) : List (E3 × P3):=rim.map fun e=>(e,Kt ts e.1 ts.length e.2)
theorem uG (ts : List T3) (rim : List E3) : (uX ts rim).map (·.1) = rim:=by
 unfold uX;rw [List.map_map];exact List.map_id' rim
theorem kW.nodup {es : List E3} (h : kW es) : es.Nodup:=List.Pairwise.imp (fun {a b} (k : xJ a b) (e : a = b)=>xJ.irrefl b (e ▸ k)) h
/-! ### Moves -/
theorem vQ {fine coarse : List T3} {ms : List Mv} {rim : List E3} : oM fine coarse ms rim = true ↔ ∀ i m,ms[i]? = some m → qP fine coarse ms rim i m = true:=by
 unfold oM;rw [List.all_eq_true];constructor
 · intro h i m hm
   exact h (m,i) (List.mem_zipIdx_iff_getElem?.2 hm)
 · intro h x hx
   exact h x.2 x.1 (List.mem_zipIdx_iff_getElem?.1 hx)
theorem Nn {fine coarse : List T3} {ms : List Mv} {rim : List E3} (h : oM fine coarse ms rim = true) : ∀ i m k,ms[i]? = some k → ms[i + 1]? = some m → k.1.Lt m.1:=fun i m k hk hm=>by
 have:=vQ.1 h (i + 1) m hm;unfold qP at this;simp only[Bool.and_eq_true,Bool.or_eq_true] at this;have h1:=this.1.1.1;rw [Nat.add_sub_cancel,hk] at h1;simpa using h1
theorem yU : ∀ {ms : List Mv},(∀ (i : Nat) (m k : Mv),ms[i]? = some k → ms[i + 1]? = some m → k.1.Lt m.1) → (ms.map (·.1)).Pairwise P3.Lt
 | [],_=>List.Pairwise.nil
 | [m],_=>List.pairwise_singleton _ _
 | m :: k :: ms,h=>by
  have ih:=yU (ms:=k :: ms) fun i a b h1 h2=>h (i + 1) a b h1 h2;have h0:=h 0 k m rfl rfl;rw [List.map_cons];refine List.pairwise_cons.2 ⟨fun x hx=>?_,ih⟩;rw [List.map_cons] at hx ih;rcases List.mem_cons.1 hx with rfl | hx
  · exact h0
  · exact P3.lt_trans h0 ((List.pairwise_cons.1 ih).1 x hx)
theorem Kx {fine coarse : List T3} {ms : List Mv} {rim : List E3} (h : oM fine coarse ms rim = true) : (ms.map (·.1)).Nodup :=
 List.Pairwise.imp (fun {a b} (k : P3.Lt a b) (e : a = b)=>P3.lt_irrefl b (e ▸ k)) (yU (Nn h))
theorem Pe (p : P3) : ∀ ms : List Mv,kA ms p = (cP ms p).getD p
 | []=>rfl
 | m :: ms=>by
  rw [kA,cP];split
  · rfl
  · exact Pe p ms
theorem Zz {ms : List Mv} (h : (ms.map (·.1)).Nodup) (p : P3) : (cP (lK [] ms) p).getD p = kA ms p:=by
 rw [Pe,Cn _ _ _ h];cases cP ms p <;> rfl
theorem Cw {K : Type} [DecidableEq K] {V : Type} : ∀ (ks : List K) (D : List (K × V)) (a : K),(D.map (·.1)).Nodup → ((ks.foldl oH D).map (·.1)).Nodup ∧ cP (ks.foldl oH D) a = if a ∈ ks then none else cP D a
 | [],D,a,h=>⟨h,by simp⟩
 | k :: ks,D,a,h=>by
  obtain ⟨h1,h2⟩:=Cw ks (oH D k) a (Nb h k);refine ⟨h1,?_⟩;rw [List.foldl_cons,h2,Fq k a h];by_cases ha : a ∈ ks
  · rw [if_pos ha,if_pos (List.mem_cons_of_mem _ ha)]
  · rw [if_neg ha]
    by_cases e : k = a
    · rw [if_pos e,if_pos (e ▸ List.mem_cons_self ..)]
    · rw [if_neg e,if_neg (fun k'=>(List.mem_cons.1 k').elim (fun e'=>e e'.symm) ha)]
theorem uH {fine coarse : List T3} {ms : List Mv} {rim : List E3} {cf cc : List P3} (hf : ∀ a,a ∈ cf ↔ a ∈ cY fine) (hc : ∀ a,a ∈ cc ↔ a ∈ cY coarse) (i : Nat) (m : Mv) :
 qP fine coarse ms rim i m = ((decide (i = 0) || (ms[i - 1]?).any fun k=>decide (k.1.Lt m.1)) && (cP ((Cv rim).foldl oH (fP [] cf)) m.1).getD false && (cP (fP [] cf) m.2).getD false && (cP ((ms.map (·.1)).foldl oH (fP [] cc)) m.2).getD false):=by
 have n1:=mK cf [] (by simp);have n2:=mK cc [] (by simp);have e1 : (cP ((Cv rim).foldl oH (fP [] cf)) m.1).getD false = (qN fine m.1 && !Ct rim m.1):=by
  rw [(Cw _ _ m.1 n1).2];by_cases h : m.1 ∈ Cv rim
  · rw [if_pos h,Ak.2 h];simp
  · have : Ct rim m.1 = false:=by
     cases hh : Ct rim m.1 with
     | false=>rfl
     | true=>exact absurd (Ak.1 hh) h
    rw [if_neg h,oL,this,Ht];simp [hf]
 have e2 : (cP (fP [] cf) m.2).getD false = qN fine m.2:=by rw [oL,Ht];simp [hf]
 have e3 : (cP ((ms.map (·.1)).foldl oH (fP [] cc)) m.2).getD false = (qN coarse m.2 && ms.all fun k=>decide (k.1 ≠ m.2)):=by
  rw [(Cw _ _ m.2 n2).2];by_cases h : m.2 ∈ ms.map (·.1)
  · obtain ⟨k,hk,e⟩:=List.mem_map.1 h
    have : (ms.all fun k=>decide (k.1 ≠ m.2)) = false:=by
     rw [List.all_eq_false];exact ⟨k,hk,by simp [e]⟩
    rw [if_pos h,this];simp
  · have : (ms.all fun k=>decide (k.1 ≠ m.2)) = true:=by
     rw [List.all_eq_true];exact fun k hk=>decide_eq_true fun e=>h (List.mem_map.2 ⟨k,hk,e⟩)
    rw [if_neg h,oL,this,Ht];simp [hc]
 rw [e1,e2,e3,qP];cases (decide (i = 0) || (ms[i - 1]?).any fun k=>decide (k.1.Lt m.1)) <;> cases qN fine m.1 <;> cases Ct rim m.1 <;> cases qN fine m.2 <;> cases qN coarse m.2 <;> simp
/-! ### Covers -/
def mO (ms : List Mv) (ts : List T3) : List T3:=(ts.filter fun t=>(t.img ms).nd).map fun t=>iY (t.img ms)
theorem wW {ms : List Mv} {ts : List T3} {k : Nat} {t : T3} (h : ts[k]? = some t) : mO ms (ts.take (k + 1)) = mO ms (ts.take k) ++ if (t.img ms).nd then [iY (t.img ms)] else []:=by
 unfold mO;rw [eR h,List.filter_append,List.map_append];cases hn : (t.img ms).nd <;> simp [hn]
theorem Cx (ms : List Mv) (u : T3) : ∀ ts : List T3,Wm ms ts u = oP (mO ms ts) (iY u)
 | []=>rfl
 | t :: ts=>by
  have ih:=Cx ms u ts;unfold Wm mO at ih ⊢;cases hn : (t.img ms).nd with
  | false=>rw [List.filter_cons_of_neg (by simp [hn]),List.filter_cons_of_neg (by simp [hn])];exact ih
  | true =>
   rw [List.filter_cons_of_pos (p:=fun t : T3=>(t.img ms).nd) (by simp [hn]),List.map_cons,mL];by_cases e : iY u = iY (t.img ms)
   · rw [List.filter_cons_of_pos (by simp [hn,e]),List.length_cons,if_pos e.symm];omega
   · rw [List.filter_cons_of_neg (by simp [e]),if_neg (fun h=>e h.symm)];omega
theorem wX {K : Type} [DecidableEq K] {ks : List K} {a : K} : 0 < oP ks a ↔ a ∈ ks:=by
 unfold oP;rw [List.length_pos_iff_exists_mem];simp
def No (fine coarse : List T3) (ms : List Mv) (j : Nat) (t : T3) : Prop :=
 if (t.img ms).nd then iY (t.img ms) ∈ coarse.map iY ∧ iY (t.img ms) ∉ mO ms (fine.take j) else qO coarse (t.img ms).a (t.img ms).b = true ∧ qO coarse (t.img ms).b (t.img ms).c = true
theorem Cy {coarse : List T3} {x : T3} (h : x.nd = false) : Cu coarse x = true ↔ qO coarse x.a x.b = true ∧ qO coarse x.b x.c = true:=by
 unfold Cu;rw [h];simp only[Bool.false_eq_true,if_false];by_cases e : x.a = x.b
 · rw [if_pos e,← e]
   exact ⟨fun k=>⟨Fy k,k⟩,fun k=>k.2⟩
 · rw [if_neg e]
   refine ⟨fun k=>⟨k,?_⟩,fun k=>k.1⟩;by_cases e2 : x.b = x.c
   · rw [← e2];exact Fy (xZ k)
   · have e3 : x.c = x.a:=by
      unfold T3.nd at h;simp only[Bool.and_eq_false_iff,decide_eq_false_iff_not,ne_eq] at h;rcases h with (h | h) | h
      · exact absurd (Decidable.not_not.1 h) e
      · exact absurd (Decidable.not_not.1 h) e2
      · exact Decidable.not_not.1 h
     rw [e3];exact xZ k
theorem Ky {coarse : List T3} {x : T3} (h : x.nd = true) : Cu coarse x = true ↔ iY x ∈ coarse.map iY:=by
 unfold Cu;rw [h,if_pos rfl,List.any_eq_true,List.mem_map];exact exists_congr fun u=>and_congr Iff.rfl (by rw [decide_eq_true_eq])
theorem Cz {K : Type} [DecidableEq K] : ∀ {ks : List K},ks.Nodup → ∀ a,oP ks a ≤ 1
 | [],_,a=>Nat.zero_le _
 | k :: ks,h,a=>by
  rw [List.nodup_cons] at h;rw [mL];by_cases e : k = a
  · subst e
    have : ¬ 0 < oP ks k:=fun q=>h.1 (wX.1 q);rw [if_pos rfl];omega
  · rw [if_neg e];have:=Cz h.2 a;omega
theorem yB {fine coarse : List T3} {ms : List Mv} : pM fine coarse ms = true ↔ (∀ j t,fine[j]? = some t → No fine coarse ms j t) ∧ ∀ u ∈ coarse,iY u ∈ mO ms fine:=by
 unfold pM;rw [Bool.and_eq_true,List.all_eq_true,List.all_eq_true];constructor
 · rintro ⟨h1,h2⟩
   have h3 : ∀ u ∈ coarse,oP (mO ms fine) (iY u) = 1:=fun u hu=>by rw [← Cx];exact of_decide_eq_true (h2 u hu)
   refine ⟨fun j t ht=>?_,fun u hu=>wX.1 (by rw [h3 u hu];decide)⟩;have hp:=h1 t (List.mem_of_getElem? ht);unfold No;cases hn : (t.img ms).nd with
   | false=>rw [if_neg (by simp)];exact (Cy hn).1 hp
   | true =>
    rw [if_pos rfl];have hm:=(Ky hn).1 hp;refine ⟨hm,fun k=>?_⟩;obtain ⟨u,hu,e⟩:=List.mem_map.1 hm;have hc:=h3 u hu;have e2 : mO ms fine = mO ms (fine.take (j + 1)) ++ mO ms (fine.drop (j + 1)):=by
     unfold mO;rw [← List.map_append,← List.filter_append,List.take_append_drop]
    rw [e2,Co,wW ht,hn,if_pos rfl,Co,e,mL,if_pos rfl] at hc;have:=wX.2 k;omega
 · rintro ⟨h1,h2⟩
   have nd : ∀ j,(mO ms (fine.take j)).Nodup:=by
    intro j
    induction j with
    | zero=>simp [mO]
    | succ j ih =>
     cases ht : fine[j]? with
     | none =>
      have e : fine.take (j + 1) = fine.take j:=by
       have:=List.getElem?_eq_none_iff.1 ht;rw [List.take_of_length_le (by omega),List.take_of_length_le (by omega)]
      rw [e];exact ih
     | some t =>
      rw [wW ht];have k:=h1 j t ht;unfold No at k;cases hn : (t.img ms).nd with
      | false=>simpa using ih
      | true =>
       rw [hn,if_pos rfl] at k;rw [if_pos rfl];exact vO.2 ⟨ih,k.2⟩
   refine ⟨fun t ht=>?_,fun u hu=>?_⟩
   · obtain ⟨j,hj⟩:=List.mem_iff_getElem?.1 ht
     have k:=h1 j t hj;unfold No at k;cases hn : (t.img ms).nd with
     | false=>rw [hn,if_neg (by simp)] at k;exact (Cy hn).2 k
     | true=>rw [hn,if_pos rfl] at k;exact (Ky hn).2 k.1
   · refine decide_eq_true ?_
     rw [Cx];have h3:=Cz (by have:=nd fine.length;rwa [List.take_length] at this) (iY u);have h4:=wX.2 (h2 u hu);omega
end Go.Lith
namespace Go.Lith
open Go.RowKit
section
variable {P : Program} {ops : Array Oper} {Q : Exit → Act → World → Prop} {rest : List Oper} {d j : Nat} {ty : TypeId} {pos : String} {after : Array Edge} {v : Value} {b : Bool} {ds : List Deferred} {l : List Value} {w w0 : World} {is : List It}
variable {f : FuncId} {fo : Operand} {xs : Array Operand} {args : List Value} {first cap : Array Value} {a0 : Array TypeId}
theorem aaa (m : bS w0 w is) (hw : yielded ops l.toArray j = some b) (hf : ev l fo = .func (.func f) first cap) (hxs : b = true → first.toList ++ xs.toList.map (ev l) ++ cap.toList = args) (hc : b = true → eE P f args w fun x _=>x = v)
 (h : ∀ u,bS w0 u is → wpList P ops Q rest (Fr (l.set d (Jf b v)) ds) u) : wpList P ops Q (Oper.mk (some d) (.call { callee:=.value fo,args:=xs,argTypes:=a0 }) ty pos after (some (j,true)) :: rest) (Fr l ds) w:=by
 cases b with
 | false=>simp only[Jg] at h;exact dA hw (h w m)
 | true=>simp only[uR] at h;exact bM hw (fF m hf (hxs rfl) (hc rfl) fun x u m e=>by subst e;exact h u m)
end
section
variable {P : Program} {ops : Array Oper} {Q : Act → Prop} {rest : List Oper} {d j : Nat} {ty : TypeId} {pos : String} {after : Array Edge} {v : Value} {b : Bool} {ds : List Deferred} {l : List Value} {w0 : World} {is : List It}
variable {f : FuncId} {fo : Operand} {xs : Array Operand} {args : List Value} {first cap : Array Value} {a0 : Array TypeId}
end
theorem adY {c : Bool} {u v : Value} {cs : Array Value} (hb : c = true) (h : u = Jf c v) (hv : v.cells = cs) : u.cells = cs:=by rw [h,hb,uR,hv]
/-! ### Rows of edges and moves -/
theorem Wp {w : World} {a : Addr} {e : E3} (h : mC w a (bV e)) : mC w (a.add 0) [.int .i64 e.1.x,.int .i64 e.1.y,.int .i64 e.1.z]:=(h.sub 0).take 3
theorem Wq {w : World} {a : Addr} {e : E3} (h : mC w a (bV e)) : mC w (a.add 3) [.int .i64 e.2.x,.int .i64 e.2.y,.int .i64 e.2.z]:=h.sub 3
theorem adZ {x y z p : P3} : ((decide (x.x = p.x ∧ x.y = p.y ∧ x.z = p.z) || decide (y.x = p.x ∧ y.y = p.y ∧ y.z = p.z)) || decide (z.x = p.x ∧ z.y = p.y ∧ z.z = p.z)) = (decide (x = p) || decide (y = p) || decide (z = p)):=by
 simp only[jX]
theorem ad0 {x y p : P3} : (decide (x.x = p.x ∧ x.y = p.y ∧ x.z = p.z) || decide (y.x = p.x ∧ y.y = p.y ∧ y.z = p.z)) = (decide (x = p) || decide (y = p)):=by
 simp only[jX]
end Go.Lith
namespace Go.Proofs.YtfohfflkhpfjeaaGreatDoor
open Go.Proofs.Tryz
open Go.RowKit Go.Lith
set_option maxRecDepth 100000
attribute [local irreducible] wpList wpQuiet dD cO cF Code.wp
theorem aab {ms : List Mv} {k : Nat} {mv : Mv} {p : P3} (hm : ms[k]? = some mv) (h0 : kA ms p = kA (ms.drop k) p) (h : mv.1 = p) : kA ms p = mv.2:=by
 rw [h0,List.drop_eq_getElem_cons (List.getElem?_eq_some_iff.1 hm).1,(List.getElem?_eq_some_iff.1 hm).2,kA,if_pos h]
theorem Ws {ms : List Mv} {k : Nat} {mv : Mv} {p : P3} (hm : ms[k]? = some mv) (h0 : kA ms p = kA (ms.drop k) p) (h : ¬ mv.1 = p) : kA ms p = kA (ms.drop (k + 1)) p:=by
 rw [h0,List.drop_eq_getElem_cons (List.getElem?_eq_some_iff.1 hm).1,(List.getElem?_eq_some_iff.1 hm).2,kA,if_neg h]
theorem Wt {ts : List T3} {k : Nat} {t : T3} {p : P3} (ht : ts[k]? = some t) : qN (ts.take (k + 1)) p = (qN (ts.take k) p || t.has p):=Bu ht
theorem aac {ts : List T3} {k : Nat} {t : T3} {p : P3} (ht : ts[k]? = some t) (h : t.has p = true) : qN ts p = true:=Hi ht h
theorem Wu {rim : List E3} {k : Nat} {e : E3} {p : P3} (he : rim[k]? = some e) : Ct (rim.take (k + 1)) p = (Ct (rim.take k) p || (decide (e.1 = p) || decide (e.2 = p))):=Bu he
def Np (ts : List T3) (p q : P3) : Int:=match ts.findIdx? fun t=>(t.fnd p q).isSome with
 | some k=>(k : Int)
 | none=>-1
theorem Kz {p q : P3} : ∀ {ts : List T3},bR ts p q = none → Np ts p q = -1:=by
 intro ts h;have : ts.findIdx? (fun t=>(t.fnd p q).isSome) = none:=by
  rw [List.findIdx?_eq_none_iff];intro t ht
  induction ts with
  | nil=>cases ht
  | cons u us ih =>
   unfold bR at h;cases hu : u.fnd p q with
   | some x=>rw [hu] at h;cases h
   | none =>
    rw [hu] at h;rcases List.mem_cons.1 ht with rfl | ht
    · rw [hu];rfl
    · exact ih h ht
 rw [Np,this]
theorem wY {p q x : P3} : ∀ {ts : List T3} {k : Nat} {t : T3},bR (ts.take k) p q = none → ts[k]? = some t → t.fnd p q = some x → Np ts p q = (k : Int):=by
 intro ts k t h ht hx;have key : ∀ (ts : List T3) (k : Nat),bR (ts.take k) p q = none → ts[k]? = some t → ts.findIdx? (fun t=>(t.fnd p q).isSome) = some k:=by
  intro ts
  induction ts with
  | nil=>intro k _ h;cases h
  | cons u us ih =>
   intro k h0 hk;cases k with
   | zero=>cases hk;rw [List.findIdx?_cons,hx];rfl
   | succ k =>
    rw [List.take_succ_cons] at h0;unfold bR at h0;cases hu : u.fnd p q with
    | some y=>rw [hu] at h0;cases h0
    | none =>
     rw [hu] at h0;rw [List.findIdx?_cons,hu,ih k h0 hk];rfl
 rw [Np,key ts k h ht]
theorem Sc (ts : List T3) (p q : P3) : (Np ts p q = -1 ∧ bR ts p q = none) ∨ ∃ (k : Nat) (t : T3) (x : P3),Np ts p q = (k : Int) ∧ ts[k]? = some t ∧ t.fnd p q = some x ∧ bR ts p q = some x:=by
 cases hb : bR ts p q with
 | none=>exact .inl ⟨Kz hb,rfl⟩
 | some x =>
  have key : ∀ us : List T3,bR us p q = some x → ∃ k t,bR (us.take k) p q = none ∧ us[k]? = some t ∧ t.fnd p q = some x:=by
   intro us
   induction us with
   | nil=>intro h;cases h
   | cons u us ih =>
    intro h;unfold bR at h;cases hu : u.fnd p q with
    | some y=>rw [hu] at h;cases h;exact ⟨0,u,rfl,rfl,hu⟩
    | none =>
     rw [hu] at h;obtain ⟨k,t,h1,h2,h3⟩:=ih h;exact ⟨k + 1,t,by rw [List.take_succ_cons,bR,hu];exact h1,h2,h3⟩
  obtain ⟨k,t,h1,h2,h3⟩:=key ts hb;exact .inr ⟨k,t,x,wY h1 h2 h3,h2,h3,rfl⟩
theorem La {ms : List Mv} {N cap : Nat} {A : Option Addr} {p : P3} (w : World) (hL : uN bV 6 w A N ms) (hN : N ≤ 1000000000) : eE prog 41 [.slice A N cap,pt p] w (fun v _=>v = pt (kA ms p)):=by
 refine ⟨adf,?_⟩;have m:=bS.refl w
 go_enter func41,ntmps41
 refine aC fun K1 k1=>wp_region_lit (fA m rfl ?_);clear m;intro g1 u m;simp only[zz];refine aY m bK rfl ?_;clear m;intro g2 u m;refine aD (k1 _ _ ?_);refine aC fun K2 k2=>aC fun K3 k3=>wp_region_lit (aA (aF) (aD (k3 _ _ ?_)));refine wp_block ?_;simp only[zz];try simp only[Nat.zero_add,Nat.reduceAdd,Nat.reduceMul,Int.reduceToNat]
 refine bN [5] [6,7,8,9,10,11,12,13,14,15,16,17,18,19,20,21,22,23] (fun n vs wl=>∃ (k : Nat),vs = [.int .i64 (k:Int)] ∧ bS w wl [bI g2 [.int .i64 0,.int .i64 0,.int .i64 0] 48,bI g1 (Zk p) 48] ∧ (kA ms p = kA (ms.drop k) p) ∧ (k ≤ N) ∧ (n = N - k)) ?_ ?_
 ·
  apply Exists.intro;simp only[zQ,zR,zD,zE];exact ⟨0,rfl,m,rfl,Nat.zero_le _,rfl⟩
 ·
  intro n vs wr hI u;clear m;obtain ⟨k,rfl,m,hi,hk,hn⟩:=hI;simp only[zu,zF,zG];refine aC fun K4 k4=>aC fun K5 k5=>wp_region_lit (aA (aB) (aA (aB) (aA (bC rfl oX rfl) (aA (cS rfl rfl) ?_))));simp only[zz];refine aD (k5 _ _ ?_);refine cD rfl (fun hc1=>?_) (fun hc1=>?_)
  ·
   obtain ⟨mv,hmv,a,rfl,hrow⟩:=hL.get (i:=k) (by omega);refine wp_skip (k4 _ _ ?_);refine aC fun K6 k6=>wp_block (aC fun K7 k7=>mq m aP (by kernel_rfl) (aN (aB) (aN (aB) ?_)));simp only[zz];refine aN (aL oX jK rfl rfl (by omega) (by omega) (dP (Int.toNat_natCast _))) (aN (aJ (c:=2) lF rfl aG rfl rfl) ?_);simp only[zz];refine ql rfl (fun u m=>((Wp (hrow.ext m.ext)).lies aK aG)) ?_;simp only[zz];refine ql rfl (fun u m=>((m.b 1 rfl).full aK aG)) ?_;simp only[zz];refine aN (eS rfl rfl) (dN ?_);clear m;intro u m;refine k7 _ _ ?_;simp only[zz];refine cD rfl (fun hc2=>?_) (fun hc2=>?_)
   ·
    have hh:=aab hmv hi (jX.1 hc2);refine aC fun K8 k8=>wp_region_lit (aA (aB) (aA (aB) ?_));simp only[zz];refine aA (aL oX jK rfl rfl (by omega) (by omega) (dP (Int.toNat_natCast _))) (aA (aJ (c:=2) lF rfl aG rfl rfl) ?_);simp only[zz];refine aI rfl ((Wq (hrow.ext m.ext)).lies aK aG) ?_;simp only[zz];refine aQ m 0 rfl rfl rfl aG (dH rfl) rfl ?_;clear m;intro u m;simp only[zy,zx,bB,zF,zG,Nat.reduceAdd] at m;refine aD (k8 _ _ ?_);refine wp_ret ?_;try simp only[Exit.inBlock,Exit.then,if_true]
    refine bP rfl ⟨_,rfl,((m.b 0 rfl).full aK aG)⟩ ?_;try simp only[zD,zE]
    exact ⟨_,rfl,m.ext,by rw [hh];rfl⟩
   ·
    have hi2:=Ws hmv hi (mt jX.2 hc2);refine wp_skip (k6 _ _ ?_);refine wp_region_lit (aA (aB) ?_);simp only[zz];refine aA (aR rfl rfl (aM (by omega) (by omega))) (aA (aF) (aD ?_));simp only[zz];simp only[Exit.inBlock,Exit.then];refine ⟨N - (k + 1),_,?_,rfl,?_,?_⟩
    · omega
    · simp only[zz,zv]
    ·
     simp only[zQ,zR,zD,zE];exact ⟨k + 1,rfl,m,hi2,by omega,rfl⟩
  ·
   have hkN : k = N:=by omega
   rw [hkN,show ms.drop N = [] from List.drop_of_length_le (by rw [hL.len];exact Nat.le_refl _)] at hi;refine wp_exit (k2 _ _ ?_);refine aC fun K9 k9=>wp_region_lit (aI rfl ((m.b 1 rfl).full aK aG) ?_);simp only[zz];refine aQ m 0 rfl rfl rfl aG (dH rfl) rfl ?_;clear m;intro u m;simp only[zy,zx,bB,zF,zG,Nat.reduceAdd] at m;refine aD (k9 _ _ ?_);refine wp_ret ?_;try simp only[Exit.inBlock,Exit.then,if_true]
   refine bP rfl ⟨_,rfl,((m.b 0 rfl).full aK aG)⟩ ?_;try simp only[zD,zE]
   exact ⟨_,rfl,m.ext,by rw [hi];rfl⟩
theorem aeB {ts : List T3} {N cap : Nat} {A : Option Addr} {p : P3} (w : World) (hT : uN aX 9 w A N ts) (hN : N ≤ 1000000000) : eE prog 88 [.slice A N cap,pt p] w (fun v _=>v = .bool (qN ts p)):=by
 refine ⟨adO,?_⟩;have m:=bS.refl w
 go_enter func88,ntmps88
 refine aC fun K1 k1=>wp_region_lit (fA m rfl ?_);clear m;intro g1 u m;refine aA (aF) (aD (k1 _ _ ?_));refine aC fun K2 k2=>aC fun K3 k3=>wp_region_lit (aA (aF) (aD (k3 _ _ ?_)));refine wp_block ?_;simp only[zz];try simp only[Nat.zero_add,Nat.reduceAdd,Nat.reduceMul,Int.reduceToNat]
 refine bN [5] [4,6,7,8,9,10,11,12,13,14,15,16,17,18,19,20,21,22,23,24,25,26,27,28,29,30,31,32,33,34,35,36] (fun n vs wl=>∃ (k : Nat),vs = [.int .i64 (k:Int)] ∧ bS w wl [bI g1 (Zk p) 48] ∧ (qN (ts.take k) p = false) ∧ (k ≤ N) ∧ (n = N - k)) ?_ ?_
 ·
  apply Exists.intro;simp only[zQ,zR,zD,zE];exact ⟨0,rfl,m,rfl,Nat.zero_le _,rfl⟩
 ·
  intro n vs wr hI u;clear m;obtain ⟨k,rfl,m,h0,hk,hn⟩:=hI;simp only[zu,zF,zG];refine aC fun K4 k4=>aC fun K5 k5=>wp_region_lit (aA (aB) (aA (aB) (aA (bC rfl cC rfl) (aA (cS rfl rfl) ?_))));simp only[zz];refine aD (k5 _ _ ?_);refine cD rfl (fun hc1=>?_) (fun hc1=>?_)
  ·
   obtain ⟨t,ht,a,rfl,hrow⟩:=hT.get (i:=k) (by omega);refine wp_skip (k4 _ _ ?_);refine aC fun K6 k6=>wp_block (aC fun K7 k7=>mq m aP (by kernel_rfl) (aN (aB) (aN (aB) ?_)));simp only[zz];refine aN (aL cC aV rfl rfl (by omega) (by omega) (dP (Int.toNat_natCast _))) (aN (aH bO aG rfl rfl (by decide) (by decide) rfl) ?_);simp only[zz];refine ql rfl (fun u m=>((mC.cor (hrow.ext m.ext) (c:=0) (by omega)).lies aK aG)) ?_;simp only[zz];refine ql rfl (fun u m=>((m.b 0 rfl).full aK aG)) ?_;simp only[zz];refine aN (eS rfl rfl) (aN (aB) (fH rfl (fun hb=>aB) (fH rfl (fun hb=>aB) ?_)));simp only[zz];refine fH rfl (fun hb=>aL cC aV (bW hb rfl) (bW hb rfl) (by omega) (by omega) (dP (Int.toNat_natCast _))) (fH rfl (fun hb=>aH bO aG (bW hb rfl) rfl (by decide) (by decide) rfl) ?_);simp only[zz];refine iH rfl (fun hb u m=>dI (bW hb rfl) ((mC.cor (hrow.ext m.ext) (c:=1) (by omega)).lies aK aG)) (iH rfl (fun hb u m=>dI rfl ((m.b 0 rfl).full aK aG)) (fH rfl (fun hb=>eS (bW hb rfl) (bW hb rfl)) (aN (iW rfl rfl rfl) (aN (aB) (fH rfl (fun hb=>aB) ?_)))));simp only[zz];refine fH rfl (fun hb=>aB) ?_;simp only[zz];refine fH rfl (fun hb=>aL cC aV (bW hb rfl) (bW hb rfl) (by omega) (by omega) (dP (Int.toNat_natCast _))) (fH rfl (fun hb=>aH bO aG (bW hb rfl) rfl (by decide) (by decide) rfl) ?_);simp only[zz];refine iH rfl (fun hb u m=>dI (bW hb rfl) ((mC.cor (hrow.ext m.ext) (c:=2) (by omega)).lies aK aG)) (iH rfl (fun hb u m=>dI rfl ((m.b 0 rfl).full aK aG)) (fH rfl (fun hb=>eS (bW hb rfl) (bW hb rfl)) (aN (iW rfl rfl rfl) (dN ?_))));clear m;intro u m;refine k7 _ _ ?_;simp only[zz];refine fB rfl (fun hc2=>?_) (fun hc2=>?_)
   ·
    have hh : qN ts p = true:=aac ht (adZ.symm.trans hc2);refine aC fun K8 k8=>wp_region_lit (aA (aF) (aD (k8 _ _ ?_)));refine wp_ret ?_;simp only[zz];try simp only[Exit.inBlock,Exit.then,if_true]
    refine bP rfl rfl ?_;try simp only[zD,zE]
    exact ⟨_,rfl,m.ext,by rw [hh]⟩
   ·
    have h1 : qN (ts.take (k + 1)) p = false:=by rw [Wt ht,h0];exact adZ.symm.trans hc2
    refine wp_skip (k6 _ _ ?_);refine wp_region_lit (aA (aB) ?_);simp only[zz];refine aA (aR rfl rfl (aM (by omega) (by omega))) (aA (aF) (aD ?_));simp only[zz];simp only[Exit.inBlock,Exit.then];refine ⟨N - (k + 1),_,?_,rfl,?_,?_⟩
    · omega
    · simp only[zz,zv]
    ·
     simp only[zQ,zR,zD,zE];exact ⟨k + 1,rfl,m,h1,by omega,rfl⟩
  ·
   have hkN : k = N:=by omega
   rw [hkN,show ts.take N = ts from List.take_of_length_le (by rw [hT.len];exact Nat.le_refl _)] at h0;refine wp_exit (k2 _ _ ?_);refine aC fun K9 k9=>wp_region_lit (aA (aF) (aD (k9 _ _ ?_)));refine wp_ret ?_;simp only[zz];try simp only[Exit.inBlock,Exit.then,if_true]
   refine bP rfl rfl ?_;try simp only[zD,zE]
   exact ⟨_,rfl,m.ext,by rw [h0]⟩
theorem Wv {rim : List E3} {N cap : Nat} {A : Option Addr} {p : P3} (w : World) (hL : uN bV 6 w A N rim) (hN : N ≤ 1000000000) : eE prog 40 [.slice A N cap,pt p] w (fun v _=>v = .bool (Ct rim p)):=by
 refine ⟨ade,?_⟩;have m:=bS.refl w
 go_enter func40,ntmps40
 refine aC fun K1 k1=>wp_region_lit (fA m rfl ?_);clear m;intro g1 u m;refine aA (aF) (aD (k1 _ _ ?_));refine aC fun K2 k2=>aC fun K3 k3=>wp_region_lit (aA (aF) (aD (k3 _ _ ?_)));refine wp_block ?_;simp only[zz];try simp only[Nat.zero_add,Nat.reduceAdd,Nat.reduceMul,Int.reduceToNat]
 refine bN [5] [4,6,7,8,9,10,11,12,13,14,15,16,17,18,19,20,21,22,23,24,25,26,27] (fun n vs wl=>∃ (k : Nat),vs = [.int .i64 (k:Int)] ∧ bS w wl [bI g1 (Zk p) 48] ∧ (Ct (rim.take k) p = false) ∧ (k ≤ N) ∧ (n = N - k)) ?_ ?_
 ·
  apply Exists.intro;simp only[zQ,zR,zD,zE];exact ⟨0,rfl,m,rfl,Nat.zero_le _,rfl⟩
 ·
  intro n vs wr hI u;clear m;obtain ⟨k,rfl,m,h0,hk,hn⟩:=hI;simp only[zu,zF,zG];refine aC fun K4 k4=>aC fun K5 k5=>wp_region_lit (aA (aB) (aA (aB) (aA (bC rfl gB rfl) (aA (cS rfl rfl) ?_))));simp only[zz];refine aD (k5 _ _ ?_);refine cD rfl (fun hc1=>?_) (fun hc1=>?_)
  ·
   obtain ⟨e,he,a,rfl,hrow⟩:=hL.get (i:=k) (by omega);refine wp_skip (k4 _ _ ?_);refine aC fun K6 k6=>wp_block (aC fun K7 k7=>mq m aP (by kernel_rfl) (aN (aB) (aN (aB) ?_)));simp only[zz];refine aN (aL gB cV rfl rfl (by omega) (by omega) (dP (Int.toNat_natCast _))) (aN (aH jJ aG rfl rfl (by decide) (by decide) rfl) ?_);simp only[zz];refine ql rfl (fun u m=>((Wp (hrow.ext m.ext)).lies aK aG)) ?_;simp only[zz];refine ql rfl (fun u m=>((m.b 0 rfl).full aK aG)) ?_;simp only[zz];refine aN (eS rfl rfl) (aN (aB) (fH rfl (fun hb=>aB) (fH rfl (fun hb=>aB) ?_)));simp only[zz];refine fH rfl (fun hb=>aL gB cV (bW hb rfl) (bW hb rfl) (by omega) (by omega) (dP (Int.toNat_natCast _))) (fH rfl (fun hb=>aH jJ aG (bW hb rfl) rfl (by decide) (by decide) rfl) ?_);simp only[zz];refine iH rfl (fun hb u m=>dI (bW hb rfl) ((Wq (hrow.ext m.ext)).lies aK aG)) (iH rfl (fun hb u m=>dI rfl ((m.b 0 rfl).full aK aG)) (fH rfl (fun hb=>eS (bW hb rfl) (bW hb rfl)) (aN (iW rfl rfl rfl) (dN ?_))));clear m;intro u m;refine k7 _ _ ?_;simp only[zz];refine fB rfl (fun hc2=>?_) (fun hc2=>?_)
   ·
    have hh : Ct rim p = true:=Hi he (ad0.symm.trans hc2);refine aC fun K8 k8=>wp_region_lit (aA (aF) (aD (k8 _ _ ?_)));refine wp_ret ?_;simp only[zz];try simp only[Exit.inBlock,Exit.then,if_true]
    refine bP rfl rfl ?_;try simp only[zD,zE]
    exact ⟨_,rfl,m.ext,by rw [hh]⟩
   ·
    have h1 : Ct (rim.take (k + 1)) p = false:=by rw [Wu he,h0];exact ad0.symm.trans hc2
    refine wp_skip (k6 _ _ ?_);refine wp_region_lit (aA (aB) ?_);simp only[zz];refine aA (aR rfl rfl (aM (by omega) (by omega))) (aA (aF) (aD ?_));simp only[zz];simp only[Exit.inBlock,Exit.then];refine ⟨N - (k + 1),_,?_,rfl,?_,?_⟩
    · omega
    · simp only[zz,zv]
    ·
     simp only[zQ,zR,zD,zE];exact ⟨k + 1,rfl,m,h1,by omega,rfl⟩
  ·
   have hkN : k = N:=by omega
   rw [hkN,show rim.take N = rim from List.take_of_length_le (by rw [hL.len];exact Nat.le_refl _)] at h0;refine wp_exit (k2 _ _ ?_);refine aC fun K9 k9=>wp_region_lit (aA (aF) (aD (k9 _ _ ?_)));refine wp_ret ?_;simp only[zz];try simp only[Exit.inBlock,Exit.then,if_true]
   refine bP rfl rfl ?_;try simp only[zD,zE]
   exact ⟨_,rfl,m.ext,by rw [h0]⟩
theorem ab1 {ts : List T3} {N cap : Nat} {A : Option Addr} {p q : P3} (w : World) (hT : uN aX 9 w A N ts) (hN : N ≤ 1000000000) : eE prog 39 [.slice A N cap,pt p,pt q] w (fun v _=>v = .int .i64 (Np ts p q)):=by
 refine ⟨adc,?_⟩;have m:=bS.refl w
 go_enter func39,ntmps39
 refine aC fun K1 k1=>wp_region_lit (fA m rfl ?_);clear m;intro g1 u m;simp only[zz];refine fA m rfl ?_;clear m;intro g2 u m;refine aA (aF) (aD (k1 _ _ ?_));refine aC fun K2 k2=>aC fun K3 k3=>wp_region_lit (aA (aF) (aD (k3 _ _ ?_)));refine wp_block ?_;simp only[zz];try simp only[Nat.zero_add,Nat.reduceAdd,Nat.reduceMul,Int.reduceToNat]
 refine bN [7] [6,8,9,10,11,12,13,14,15,16,17,18,19,20,21,22,23,24,25,26,27,28,29,30,31,32,33,34,35,36,37,38,39] (fun n vs wl=>∃ (k : Nat),vs = [.int .i64 (k:Int)] ∧ bS w wl [bI g2 (Zk q) 48,bI g1 (Zk p) 48] ∧ (bR (ts.take k) p q = none) ∧ (k ≤ N) ∧ (n = N - k)) ?_ ?_
 ·
  apply Exists.intro;simp only[zQ,zR,zD,zE];exact ⟨0,rfl,m,rfl,Nat.zero_le _,rfl⟩
 ·
  intro n vs wr hI u;clear m;obtain ⟨k,rfl,m,hb0,hk,hn⟩:=hI;simp only[zu,zF,zG];refine aC fun K4 k4=>aC fun K5 k5=>wp_region_lit (aA (aB) (aA (aB) (aA (bC rfl cC rfl) (aA (cS rfl rfl) ?_))));simp only[zz];refine aD (k5 _ _ ?_);refine cD rfl (fun hc1=>?_) (fun hc1=>?_)
  ·
   obtain ⟨t,ht,a,rfl,hrow⟩:=hT.get (i:=k) (by omega);refine wp_skip (k4 _ _ ?_);refine aC fun K6 k6=>wp_block (aC fun K7 k7=>wp_region_lit (aA (aF) (aD (k7 _ _ ?_))));refine wp_block (wp_loop_rounds 4 (dQ (aC fun K8 k8=>aC fun K9 k9=>wp_region_lit (aA (aB) (aA (bT (m:=0) (n:=3) rfl rfl (by decide)) (aD (k9 _ _ ?_)))))));refine cG rfl (wp_skip (k8 _ _ ?_));refine aC fun K10 k10=>wp_block (aC fun K11 k11=>?_);simp only[zz];refine mq m aP (by kernel_rfl) (aN (aB) (aN (aB) (aN (aB) ?_)));simp only[zz];refine aN (aL cC aV rfl rfl (by omega) (by omega) (dP (Int.toNat_natCast _))) (aN (aH bO aG rfl rfl (by decide) (by decide) rfl) ?_);simp only[zz];refine ql rfl (fun u m=>((mC.cor (hrow.ext m.ext) (c:=0) (by omega)).lies aK aG)) ?_;simp only[zz];refine ql rfl (fun u m=>((m.b 1 rfl).full aK aG)) ?_;simp only[zz];refine aN (eS rfl rfl) (aN (aB) (eN rfl (fun hb=>aB) (eN rfl (fun hb=>aB) ?_)));simp only[zz];refine eN rfl (fun hb=>aB) (eN rfl (fun hb=>aR (m:=0) (n:=1) (r:=1) (bW hb rfl) rfl (by decide)) (eN rfl (fun hb=>dJ (m:=1) (n:=3) (r:=1) (bW hb rfl) rfl (by decide) (by decide)) ?_));simp only[zz];refine eN rfl (fun hb=>aL cC aV (bW hb rfl) (bW hb rfl) (by omega) (by omega) (dP (Int.toNat_natCast _))) (eN rfl (fun hb=>aH bO aG (bW hb rfl) (bW hb rfl) (by decide) (by decide) rfl) ?_);simp only[zz];refine kG rfl (fun hb u m=>dI (bW hb rfl) ((mC.cor (hrow.ext m.ext) (c:=1) (by omega)).lies aK aG)) (kG rfl (fun hb u m=>dI rfl ((m.b 0 rfl).full aK aG)) (eN rfl (fun hb=>eS (bW hb rfl) (bW hb rfl)) (aN (dV rfl rfl rfl) (dN ?_))));clear m;intro u m;refine k11 _ _ ?_;simp only[zz];refine fB rfl (fun hc3=>?_) (fun hc3=>?_)
   ·
    have hf:=wY hb0 ht (aew  (Ai.1 hc3));refine aC fun K12 k12=>wp_region_lit (aA (aB) (aA (aF) (aD (k12 _ _ ?_))));refine wp_ret ?_;simp only[zz];try simp only[Exit.inBlock,Exit.then,if_true]
    refine bP rfl rfl ?_;try simp only[zD,zE]
    exact ⟨_,rfl,m.ext,by rw [hf]⟩
   ·
    have hq0:=Mp hc3;refine wp_skip (k10 _ _ ?_);refine wp_region_lit (aA (aB) (aA (aR (m:=0) (n:=1) (r:=1) rfl rfl (by decide)) (aA (aF) (aD (aU (aC fun K13 k13=>aC fun K14 k14=>wp_region_lit (aA (aB) ?_)))))));simp only[zz];refine aA (bT (m:=1) (n:=3) rfl rfl (by decide)) (aD (k14 _ _ ?_));refine cG rfl (wp_skip (k13 _ _ ?_));refine aC fun K15 k15=>wp_block (aC fun K16 k16=>?_);simp only[zz];refine mq m aP (by kernel_rfl) (aN (aB) (aN (aB) (aN (aB) ?_)));simp only[zz];refine aN (aL cC aV rfl rfl (by omega) (by omega) (dP (Int.toNat_natCast _))) (aN (aH bO aG rfl rfl (by decide) (by decide) rfl) ?_);simp only[zz];refine ql rfl (fun u m=>((mC.cor (hrow.ext m.ext) (c:=1) (by omega)).lies aK aG)) ?_;simp only[zz];refine ql rfl (fun u m=>((m.b 1 rfl).full aK aG)) ?_;simp only[zz];refine aN (eS rfl rfl) (aN (aB) (eN rfl (fun hb=>aB) (eN rfl (fun hb=>aB) ?_)));simp only[zz];refine eN rfl (fun hb=>aB) (eN rfl (fun hb=>aR (m:=1) (n:=1) (r:=2) (bW hb rfl) rfl (by decide)) (eN rfl (fun hb=>dJ (m:=2) (n:=3) (r:=2) (bW hb rfl) rfl (by decide) (by decide)) ?_));simp only[zz];refine eN rfl (fun hb=>aL cC aV (bW hb rfl) (bW hb rfl) (by omega) (by omega) (dP (Int.toNat_natCast _))) (eN rfl (fun hb=>aH bO aG (bW hb rfl) (bW hb rfl) (by decide) (by decide) rfl) ?_);simp only[zz];refine kG rfl (fun hb u m=>dI (bW hb rfl) ((mC.cor (hrow.ext m.ext) (c:=2) (by omega)).lies aK aG)) (kG rfl (fun hb u m=>dI rfl ((m.b 0 rfl).full aK aG)) (eN rfl (fun hb=>eS (bW hb rfl) (bW hb rfl)) (aN (dV rfl rfl rfl) (dN ?_))));clear m;intro u m;refine k16 _ _ ?_;simp only[zz];refine fB rfl (fun hc3=>?_) (fun hc3=>?_)
    ·
     have hf:=wY hb0 ht (aex hq0 (Ai.1 hc3));refine aC fun K17 k17=>wp_region_lit (aA (aB) (aA (aF) (aD (k17 _ _ ?_))));refine wp_ret ?_;simp only[zz];try simp only[Exit.inBlock,Exit.then,if_true]
     refine bP rfl rfl ?_;try simp only[zD,zE]
     exact ⟨_,rfl,m.ext,by rw [hf]⟩
    ·
     have hq1:=Mp hc3;refine wp_skip (k15 _ _ ?_);refine wp_region_lit (aA (aB) (aA (aR (m:=1) (n:=1) (r:=2) rfl rfl (by decide)) (aA (aF) (aD (aU (aC fun K18 k18=>aC fun K19 k19=>wp_region_lit (aA (aB) ?_)))))));simp only[zz];refine aA (bT (m:=2) (n:=3) rfl rfl (by decide)) (aD (k19 _ _ ?_));refine cG rfl (wp_skip (k18 _ _ ?_));refine aC fun K20 k20=>wp_block (aC fun K21 k21=>?_);simp only[zz];refine mq m aP (by kernel_rfl) (aN (aB) (aN (aB) (aN (aB) ?_)));simp only[zz];refine aN (aL cC aV rfl rfl (by omega) (by omega) (dP (Int.toNat_natCast _))) (aN (aH bO aG rfl rfl (by decide) (by decide) rfl) ?_);simp only[zz];refine ql rfl (fun u m=>((mC.cor (hrow.ext m.ext) (c:=2) (by omega)).lies aK aG)) ?_;simp only[zz];refine ql rfl (fun u m=>((m.b 1 rfl).full aK aG)) ?_;simp only[zz];refine aN (eS rfl rfl) (aN (aB) (eN rfl (fun hb=>aB) (eN rfl (fun hb=>aB) ?_)));simp only[zz];refine eN rfl (fun hb=>aB) (eN rfl (fun hb=>aR (m:=2) (n:=1) (r:=3) (bW hb rfl) rfl (by decide)) (eN rfl (fun hb=>dJ (m:=3) (n:=3) (r:=0) (bW hb rfl) rfl (by decide) (by decide)) ?_));simp only[zz];refine eN rfl (fun hb=>aL cC aV (bW hb rfl) (bW hb rfl) (by omega) (by omega) (dP (Int.toNat_natCast _))) (eN rfl (fun hb=>aH bO aG (bW hb rfl) (bW hb rfl) (by decide) (by decide) rfl) ?_);simp only[zz];refine kG rfl (fun hb u m=>dI (bW hb rfl) ((mC.cor (hrow.ext m.ext) (c:=0) (by omega)).lies aK aG)) (kG rfl (fun hb u m=>dI rfl ((m.b 0 rfl).full aK aG)) (eN rfl (fun hb=>eS (bW hb rfl) (bW hb rfl)) (aN (dV rfl rfl rfl) (dN ?_))));clear m;intro u m;refine k21 _ _ ?_;simp only[zz];refine fB rfl (fun hc3=>?_) (fun hc3=>?_)
     ·
      have hf:=wY hb0 ht (aey hq0 hq1 (Ai.1 hc3));refine aC fun K22 k22=>wp_region_lit (aA (aB) (aA (aF) (aD (k22 _ _ ?_))));refine wp_ret ?_;simp only[zz];try simp only[Exit.inBlock,Exit.then,if_true]
      refine bP rfl rfl ?_;try simp only[zD,zE]
      exact ⟨_,rfl,m.ext,by rw [hf]⟩
     ·
      have hq2:=Mp hc3;refine wp_skip (k20 _ _ ?_);refine wp_region_lit (aA (aB) (aA (aR (m:=2) (n:=1) (r:=3) rfl rfl (by decide)) (aA (aF) (aD (aU (aC fun K23 k23=>aC fun K24 k24=>wp_region_lit (aA (aB) ?_)))))));simp only[zz];refine aA (eG (m:=3) (n:=3) rfl rfl (by decide)) (aD (k24 _ _ ?_));refine iT rfl (wp_exit (k6 _ _ ?_));refine wp_region_lit (aA (aB) ?_);simp only[zz];refine aA (aR rfl rfl (aM (by omega) (by omega))) (aA (aF) (aD ?_));simp only[zz];simp only[Exit.inBlock,Exit.then];refine ⟨N - (k + 1),_,?_,rfl,?_,?_⟩
      · omega
      · simp only[zz,zv]
      ·
       simp only[zQ,zR,zD,zE];exact ⟨k + 1,rfl,m,(Js ht hb0).trans (aez hq0 hq1 hq2),by omega,rfl⟩
  ·
   have hkN : k = N:=by omega
   rw [hkN,show ts.take N = ts from List.take_of_length_le (by rw [hT.len];exact Nat.le_refl _)] at hb0;refine wp_exit (k2 _ _ ?_);refine aC fun K25 k25=>wp_region_lit (aA (aF) (aD (k25 _ _ ?_)));refine wp_ret ?_;simp only[zz];try simp only[Exit.inBlock,Exit.then,if_true]
   refine bP rfl rfl ?_;try simp only[zD,zE]
   exact ⟨_,rfl,m.ext,by rw [Kz hb0]⟩
end Go.Proofs.YtfohfflkhpfjeaaGreatDoor
namespace Go.Lith
open Go.RowKit
section
variable {P : Program} {ds : List Deferred} {l : List Value}
theorem Pf {c : Code} {Q : Exit → Act → World → Prop} {w : World} (ts ss : List Nat) (J : List Value → World → Prop)
 (hc : c.wp P (Exit.then (fun a' w'=>∃ l',a' = Fr l' ds ∧ oA (fU l ts (ts.map (l'.getD · undef))) ss (l'.getD · undef) = l' ∧ J (ts.map (l'.getD · undef)) w') Q) (Fr l ds) w)
 (hn : ∀ vs u,J vs u → ∀ g : Nat → Value,Q .normal (Fr (oA (fU l ts vs) ss g) ds) u) : c.wp P Q (Fr l ds) w:=by
 refine Code.wp_mono ?_ hc;intro e a w' h;cases e with
 | normal =>
  obtain ⟨l',rfl,he,hJ⟩:=h;rw [← he];exact hn _ _ hJ _
 | exit id=>exact h
 | goto id=>exact h
 | ret=>exact h
 | panic ch=>exact h
 | outgrown=>exact h
theorem Hu {c : Code} {Q : Exit → Act → World → Prop} {w0 w : World} {is : List It} (m : bS w0 w is) (ts ss : List Nat) (J : List Value → Prop)
 (hc : c.wp P (Exit.then (fun a' w'=>∃ l',a' = Fr l' ds ∧ oA (fU l ts (ts.map (l'.getD · undef))) ss (l'.getD · undef) = l' ∧ bS w0 w' is ∧ J (ts.map (l'.getD · undef))) Q) (Fr l ds) w)
 (hn : ∀ vs u,bS w0 u is → J vs → ∀ g : Nat → Value,Q .normal (Fr (oA (fU l ts vs) ss g) ds) u) : c.wp P Q (Fr l ds) w :=
 Pf ts ss (fun vs w'=>bS w0 w' is ∧ J vs) hc fun vs u h g=>hn vs u h.1 h.2 g
theorem rR {c : Code} {Q : Exit → Act → World → Prop} {w0 w : World} {is : List It} (m : bS w0 w is) (k : Nat) (ts ss : List Nat) (J : List Value → It → Prop)
 (hc : c.wp P (Exit.then (fun a' w'=>∃ l' i,a' = Fr l' ds ∧ oA (fU l ts (ts.map (l'.getD · undef))) ss (l'.getD · undef) = l' ∧ bS w0 w' (is.set k i) ∧ J (ts.map (l'.getD · undef)) i) Q) (Fr l ds) w)
 (hn : ∀ vs i u,bS w0 u (is.set k i) → J vs i → ∀ g : Nat → Value,Q .normal (Fr (oA (fU l ts vs) ss g) ds) u) : c.wp P Q (Fr l ds) w:=by
 refine Pf ts ss (fun vs w'=>∃ i,bS w0 w' (is.set k i) ∧ J vs i) (Code.wp_mono ?_ hc) fun vs u h g=>?_
 · intro e a w' h
   cases e with
   | normal=>obtain ⟨l',i,h1,h2,h3,h4⟩:=h;exact ⟨l',h1,h2,i,h3,h4⟩
   | exit id=>exact h
   | goto id=>exact h
   | ret=>exact h
   | panic ch=>exact h
   | outgrown=>exact h
 · obtain ⟨i,h1,h2⟩:=h
   exact hn vs i u h1 h2 g
end
end Go.Lith
namespace Go.Proofs.YtfohfflkhpfjeaaGreatDoor
open Go.Proofs.Tryz
open Go.RowKit Go.Lith
set_option maxRecDepth 100000
attribute [local irreducible] wpList wpQuiet dD cO cF Code.wp
/-! ### How often a triangle is hit -/
end Go.Proofs.YtfohfflkhpfjeaaGreatDoor
namespace Go.Proofs.YtfohfflkhpfjeaaGreatDoor
open Go.Proofs.Tryz
open Go.RowKit Go.Lith
set_option maxRecDepth 100000
attribute [local irreducible] wpList wpQuiet dD cO cF Code.wp
theorem aaP {p : P3} : rY prog 129 [pt p] (.int .i64 p.x):=by
 intro w;refine ⟨Vm,?_⟩;have m:=gK.refl w
 go_enter func129,ntmps129
 refine aC fun K1 k1=>wp_region_lit (rG m rfl ?_);clear m;intro g1 u m;refine aA (aF) (aD (k1 _ _ ?_));refine aC fun K2 k2=>wp_region_lit (aA (aJ (c:=0) xV rfl aT rfl rfl) ?_);simp only[zz];refine aI rfl ((m.b 0 rfl).lies1 bF rfl) ?_;simp only[zz];refine aA (aF) (aD (k2 _ _ ?_));refine wp_ret ?_;simp only[zz];try simp only[Exit.inBlock,Exit.then,if_true]
 refine bP rfl rfl ?_;try simp only[zD,zE]
 exact ⟨_,rfl,m.ext,rfl⟩
theorem aaQ {p : P3} : rY prog 130 [pt p] (.int .i64 p.y):=by
 intro w;refine ⟨Vn,?_⟩;have m:=gK.refl w
 go_enter func130,ntmps130
 refine aC fun K1 k1=>wp_region_lit (rG m rfl ?_);clear m;intro g1 u m;refine aA (aF) (aD (k1 _ _ ?_));refine aC fun K2 k2=>wp_region_lit (aA (aJ (c:=0) xV rfl aT rfl rfl) ?_);simp only[zz];refine aI rfl ((m.b 0 rfl).lies1 bF rfl) ?_;simp only[zz];refine aA (aF) (aD (k2 _ _ ?_));refine wp_ret ?_;simp only[zz];try simp only[Exit.inBlock,Exit.then,if_true]
 refine bP rfl rfl ?_;try simp only[zD,zE]
 exact ⟨_,rfl,m.ext,rfl⟩
theorem aaR {p : P3} : rY prog 131 [pt p] (.int .i64 p.z):=by
 intro w;refine ⟨Vo,?_⟩;have m:=gK.refl w
 go_enter func131,ntmps131
 refine aC fun K1 k1=>wp_region_lit (rG m rfl ?_);clear m;intro g1 u m;refine aA (aF) (aD (k1 _ _ ?_));refine aC fun K2 k2=>wp_region_lit (aA (aJ (c:=0) xV rfl aT rfl rfl) ?_);simp only[zz];refine aI rfl ((m.b 0 rfl).lies1 bF rfl) ?_;simp only[zz];refine aA (aF) (aD (k2 _ _ ?_));refine wp_ret ?_;simp only[zz];try simp only[Exit.inBlock,Exit.then,if_true]
 refine bP rfl rfl ?_;try simp only[zD,zE]
 exact ⟨_,rfl,m.ext,rfl⟩
theorem aad  : rY prog 111 [] (.agg #[.func (.func 129) #[] #[],.func (.func 130) #[] #[],.func (.func 131) #[] #[]]):=by
 intro w;refine ⟨Vl,?_⟩;have m:=gK.refl w
 go_enter func111,ntmps111
 refine aC fun K1 k1=>wp_region_lit (Zd m Cc rfl ?_);clear m;intro g1 u m;refine aD (k1 _ _ ?_);refine aC fun K2 k2=>wp_region_lit (aA (pA rfl rfl rfl) ?_);simp only[zz];refine Uv m 0 rfl rfl rfl uB (dH rfl) rfl ?_;clear m;intro u m;simp only[zy,zx,bB,zF,zG,Nat.reduceAdd] at m;refine aD (k2 _ _ ?_);refine wp_ret ?_;try simp only[Exit.inBlock,Exit.then,if_true]
 refine bP rfl ⟨_,rfl,((m.b 0 rfl).full Ov uB)⟩ ?_;try simp only[zD,zE]
 exact ⟨_,rfl,m.ext,rfl⟩
theorem uI {p q : P3} : rY prog 73 [pt p,pt q] (.bool (decide (p.Lt q))):=by
 intro w;refine ⟨adB,?_⟩;have m:=gK.refl w
 go_enter func73,ntmps73
 refine aC fun K1 k1=>wp_region_lit (rG m rfl ?_);clear m;intro g1 u m;simp only[zz];refine rG m rfl ?_;clear m;intro g2 u m;refine aA (aF) (aD (k1 _ _ ?_));refine aC fun K2 k2=>aC fun K3 k3=>wp_region_lit ?_;simp only[zz];refine He m rfl rfl (aad) ?_;clear m;intro u m;refine aA (aB) (aD (k3 _ _ ?_));refine wp_block (wp_loop_rounds 4 (dQ (aC fun K4 k4=>wp_region_lit (aA (bT (m:=0) (n:=3) rfl rfl (by decide)) (aD (k4 _ _ ?_))))));refine aC fun K5 k5=>cG rfl (wp_skip (k5 _ _ ?_));refine aC fun K6 k6=>wp_block (aC fun K7 k7=>wp_region_lit (aA (uT rfl rfl) ?_));simp only[zz];refine aA (aF) (aD (k7 _ _ ?_));refine aC fun K8 k8=>?_;simp only[zz];refine Gmq m aP (by kernel_rfl) (aN (aB) ?_);simp only[zz];refine Yf rfl (fun u m=>((m.b 1 rfl).full aK aG)) ?_;simp only[zz];refine Je rfl rfl (aaP) (aN (aB) ?_);simp only[zz];refine Yf rfl (fun u m=>((m.b 0 rfl).full aK aG)) ?_;simp only[zz];refine Je rfl rfl (aaP) (aN (aF) (aN (aF) (dN ?_)));clear m;intro u m;refine k8 _ _ ?_;refine aC fun K9 k9=>wp_region_lit (aA (aB) ?_);simp only[zz];refine aA (aB) (aA (mV rfl rfl) (aD (k9 _ _ ?_)));simp only[zz];refine cD rfl (fun hc2=>?_) (fun hc2=>?_)
 ·
  refine aC fun K10 k10=>wp_region_lit (aA (aB) (aA (aB) (aA (cS rfl rfl) (aA (aF) ?_))));simp only[zz];refine aD (k10 _ _ ?_);refine wp_ret ?_;try simp only[Exit.inBlock,Exit.then,if_true]
  refine bP rfl rfl ?_;try simp only[zD,zE]
  exact ⟨_,rfl,m.ext,by simp only[P3.lt_x hc2]⟩
 ·
  have ex : p.x = q.x:=by omega
  refine wp_skip (k6 _ _ ?_);refine wp_region_lit (aA (aR (m:=0) (n:=1) (r:=1) rfl rfl (by decide)) (aA (aB) (aD (aU (aC fun K11 k11=>wp_region_lit (aA (bT (m:=1) (n:=3) rfl rfl (by decide)) (aD (k11 _ _ ?_))))))));refine aC fun K12 k12=>cG rfl (wp_skip (k12 _ _ ?_));refine aC fun K13 k13=>wp_block (aC fun K14 k14=>wp_region_lit (aA (uU rfl rfl) ?_));simp only[zz];refine aA (aF) (aD (k14 _ _ ?_));refine aC fun K15 k15=>?_;simp only[zz];refine Gmq m aP (by kernel_rfl) (aN (aB) ?_);simp only[zz];refine Yf rfl (fun u m=>((m.b 1 rfl).full aK aG)) ?_;simp only[zz];refine Je rfl rfl (aaQ) (aN (aB) ?_);simp only[zz];refine Yf rfl (fun u m=>((m.b 0 rfl).full aK aG)) ?_;simp only[zz];refine Je rfl rfl (aaQ) (aN (aF) (aN (aF) (dN ?_)));clear m;intro u m;refine k15 _ _ ?_;refine aC fun K16 k16=>wp_region_lit (aA (aB) ?_);simp only[zz];refine aA (aB) (aA (mV rfl rfl) (aD (k16 _ _ ?_)));simp only[zz];refine cD rfl (fun hc2=>?_) (fun hc2=>?_)
  ·
   refine aC fun K17 k17=>wp_region_lit (aA (aB) (aA (aB) (aA (cS rfl rfl) (aA (aF) ?_))));simp only[zz];refine aD (k17 _ _ ?_);refine wp_ret ?_;try simp only[Exit.inBlock,Exit.then,if_true]
   refine bP rfl rfl ?_;try simp only[zD,zE]
   exact ⟨_,rfl,m.ext,by simp only[P3.lt_y ex hc2]⟩
  ·
   have ey : p.y = q.y:=by omega
   refine wp_skip (k13 _ _ ?_);refine wp_region_lit (aA (aR (m:=1) (n:=1) (r:=2) rfl rfl (by decide)) (aA (aB) (aD (aU (aC fun K18 k18=>wp_region_lit (aA (bT (m:=2) (n:=3) rfl rfl (by decide)) (aD (k18 _ _ ?_))))))));refine aC fun K19 k19=>cG rfl (wp_skip (k19 _ _ ?_));refine aC fun K20 k20=>wp_block (aC fun K21 k21=>wp_region_lit (aA (uV rfl rfl) ?_));simp only[zz];refine aA (aF) (aD (k21 _ _ ?_));refine aC fun K22 k22=>?_;simp only[zz];refine Gmq m aP (by kernel_rfl) (aN (aB) ?_);simp only[zz];refine Yf rfl (fun u m=>((m.b 1 rfl).full aK aG)) ?_;simp only[zz];refine Je rfl rfl (aaR) (aN (aB) ?_);simp only[zz];refine Yf rfl (fun u m=>((m.b 0 rfl).full aK aG)) ?_;simp only[zz];refine Je rfl rfl (aaR) (aN (aF) (aN (aF) (dN ?_)));clear m;intro u m;refine k22 _ _ ?_;refine aC fun K23 k23=>wp_region_lit (aA (aB) ?_);simp only[zz];refine aA (aB) (aA (mV rfl rfl) (aD (k23 _ _ ?_)));simp only[zz];refine cD rfl (fun hc2=>?_) (fun hc2=>?_)
   ·
    refine aC fun K24 k24=>wp_region_lit (aA (aB) (aA (aB) (aA (cS rfl rfl) (aA (aF) ?_))));simp only[zz];refine aD (k24 _ _ ?_);refine wp_ret ?_;try simp only[Exit.inBlock,Exit.then,if_true]
    refine bP rfl rfl ?_;try simp only[zD,zE]
    exact ⟨_,rfl,m.ext,by simp only[P3.lt_z ex ey]⟩
   ·
    have ez : p.z = q.z:=by omega
    refine wp_skip (k20 _ _ ?_);refine wp_region_lit (aA (aR (m:=2) (n:=1) (r:=3) rfl rfl (by decide)) (aA (aB) (aD (aU (aC fun K25 k25=>wp_region_lit (aA (eG (m:=3) (n:=3) rfl rfl (by decide)) (aD (k25 _ _ ?_))))))));refine aC fun K26 k26=>iT rfl (wp_exit (k2 _ _ ?_));refine aC fun K27 k27=>wp_region_lit (aA (aF) ?_);simp only[zz];refine aD (k27 _ _ ?_);refine wp_ret ?_;try simp only[Exit.inBlock,Exit.then,if_true]
    refine bP rfl rfl ?_;try simp only[zD,zE]
    exact ⟨_,rfl,m.ext,by rw [decide_eq_false (fun h=>by unfold P3.Lt at h;omega)]⟩
theorem Hv {p q : P3} : rY prog 108 [pt p,pt q] (.int .i64 (wF p q)):=by
 intro w;refine ⟨abn,?_⟩;have m:=gK.refl w
 go_enter func108,ntmps108
 refine aC fun K1 k1=>wp_region_lit (rG m rfl ?_);clear m;intro g1 u m;simp only[zz];refine rG m rfl ?_;clear m;intro g2 u m;refine aA (aF) (aD (k1 _ _ ?_));refine aC fun K2 k2=>wp_block (aC fun K3 k3=>wp_region_lit ?_);simp only[zz];refine aI rfl ((m.b 1 rfl).full aK aG) ?_;simp only[zz];refine aI rfl ((m.b 0 rfl).full aK aG) ?_;simp only[zz];refine He m rfl rfl (uI) ?_;clear m;intro u m;refine aA (aF) (aD (k3 _ _ ?_));simp only[zz];refine cD rfl (fun hc1=>?_) (fun hc1=>?_)
 ·
  refine aC fun K4 k4=>wp_region_lit (aA (aF) (aD (k4 _ _ ?_)));refine wp_ret ?_;simp only[zz];try simp only[Exit.inBlock,Exit.then,if_true]
  refine bP rfl rfl ?_;try simp only[zD,zE]
  exact ⟨_,rfl,m.ext,by simp [wF,hc1]⟩
 ·
  refine aC fun K5 k5=>wp_region_lit (aI rfl ((m.b 0 rfl).full aK aG) ?_);simp only[zz];refine aI rfl ((m.b 1 rfl).full aK aG) ?_;simp only[zz];refine He m rfl rfl (uI) ?_;clear m;intro u m;refine aA (aF) (aD (k5 _ _ ?_));simp only[zz];refine cD rfl (fun hc2=>?_) (fun hc2=>?_)
  ·
   refine aC fun K6 k6=>wp_region_lit (aA (aF) (aD (k6 _ _ ?_)));refine wp_ret ?_;simp only[zz];try simp only[Exit.inBlock,Exit.then,if_true]
   refine bP rfl rfl ?_;try simp only[zD,zE]
   exact ⟨_,rfl,m.ext,by simp [wF,hc1,hc2]⟩
  ·
   refine wp_skip (k2 _ _ ?_);refine aC fun K7 k7=>wp_region_lit (aA (aF) (aD (k7 _ _ ?_)));refine wp_ret ?_;simp only[zz];try simp only[Exit.inBlock,Exit.then,if_true]
   refine bP rfl rfl ?_;try simp only[zD,zE]
   exact ⟨_,rfl,m.ext,by simp [wF,hc1,hc2]⟩
end Go.Proofs.YtfohfflkhpfjeaaGreatDoor
namespace Go.Lith
open Go.RowKit
def aaS (P : Program) (f : FuncId) (args : List Value) (w : World) (v : Value) : Prop:=bD P f ∧ Calls P f args.toArray w fun e w'=>∃ u,e = .returned u ∧ GX w w' ∧ u = v
section
variable {P : Program} {ds : List Deferred} {l : List Value} {x y : Operand} {T ty : TypeId}
variable {ops : Array Oper} {Q : Exit → Act → World → Prop} {rest : List Oper} {d : Nat} {pos : String} {after : Array Edge} {w w0 : World} {is : List It} {v : Value}
theorem Ww {E : TypeId} {z : Value} (m : gK w0 w is) (hu : P.underlying T = some (.slice E)) (hi : (P.info? E).map (fun i=>(i.size,i.zero)) = some (1,some z)) (hz : z.cells = #[z]) {v v2 : Value} (hx : ev l x = v) (hv : v.cells = #[v]) (hy : ev l y = v2) (hv2 : v2.cells = #[v2])
 (h : ∀ g u,gK w0 u (bI g [v,v2] E :: is) → wpList P ops Q rest (Fr (l.set d (.slice (some ⟨g,0,none⟩) 2 2)) ds) u) :
 wpList P ops Q (Oper.mk (some d) (.buildSlice T 2 #[(0,x),(1,y)]) ty pos after none :: rest) (Fr l ds) w:=by
 cases hq : P.info? E with
 | none=>rw [hq] at hi;cases hi
 | some i =>
  rw [hq] at hi;simp only[Option.map_some,Option.some.injEq,Prod.mk.injEq] at hi;obtain ⟨e1,e2⟩:=hi;exact jU (w':=w.alloc (.cells #[v,v2] E)) (v:=.slice (some ⟨w.heap.size,0,none⟩) 2 2) (fun o ho _=>by simp [execOp,ho,Instr.buildSlice,run_underlying hu,sizeOf,typeInfo,zeroValue,hq,e1,e2,hz,cR,hx,hv,hy,hv2,Instr.fill,newRow,newObj,Sem.run,wA]) (h _ _ (m.go (m.mem.newB ((cZ.refl w).alloc _) (Nat.le_refl _) (gS w [v,v2] E)) (Nat.le_refl _)))
theorem aae {f : FuncId} {fo : Operand} {xs : Array Operand} {args : List Value} {first cap : Array Value} {a0 : Array TypeId} (m : gK w0 w is) (hf : ev l fo = .func (.func f) first cap) (hxs : first.toList ++ xs.toList.map (ev l) ++ cap.toList = args) (hc : aaS P f args w v)
 (h : ∀ u,gK w0 u is → wpList P ops Q rest (Fr (l.set d v) ds) u) : wpList P ops Q (Oper.mk (some d) (.call { callee:=.value fo,args:=xs,argTypes:=a0 }) ty pos after none :: rest) (Fr l ds) w:=by
 refine wpList_plain rfl fun K hK=>?_;unfold Oper.wp;rw [gD,kM hc.1 hf hxs _ rfl];refine hc.2.mono ?_;rintro e w' ⟨u,rfl,hE,rfl⟩;show K ((Fr l ds).put (some d) u) w'
 rw [iL];exact hK _ _ (h w' (m.ext' hE))
end
end Go.Lith
namespace Go.Proofs
open Go.Shelf
def Tryz.sort127_ren : Go.Shelf.Ren:=⟨fun | 6=>127 | 15=>140 | 14=>139 | 28=>156 | 29=>157 | 20=>148 | 21=>149 | 22=>150 | 23=>151 | 24=>152 | 25=>153 | 26=>154 | 27=>155 | 46=>169 | 47=>170 | 48=>171 | 49=>172 | 50=>173 | 57=>179 | n=>n,fun | 22=>139 | 24=>143 | 25=>146 | 3=>3 | 39=>113 | 0=>0 | 53=>205 | 55=>126 | 4=>4 | 46=>199 | 45=>198 | 50=>61 | 5=>5 | 9=>9 | 66=>216 | 70=>220 | 76=>225 | 77=>226 | n=>n,fun | n=>n⟩
theorem Tryz.sort127 : Go.Proofs.SlLaysF0.n6 Tryz.prog Tryz.sort127_ren:={
 mixed:=by kernel_rfl
 f6:=⟨Tryz.f127.name,by decide,Tryz.func127.trans (congrArg some (by kernel_rfl))⟩
 f14:=⟨Tryz.f139.name,by decide,Tryz.func139.trans (congrArg some (by kernel_rfl))⟩
 f15:=Tryz.func140.trans (congrArg some (by kernel_rfl))
 f20:=⟨Tryz.f148.name,by decide,Tryz.func148.trans (congrArg some (by kernel_rfl))⟩
 f21:=⟨Tryz.f149.name,by decide,Tryz.func149.trans (congrArg some (by kernel_rfl))⟩
 f22:=⟨Tryz.f150.name,by decide,Tryz.func150.trans (congrArg some (by kernel_rfl))⟩
 f23:=⟨Tryz.f151.name,by decide,Tryz.func151.trans (congrArg some (by kernel_rfl))⟩
 f24:=⟨Tryz.f152.name,by decide,Tryz.func152.trans (congrArg some (by kernel_rfl))⟩
 f25:=⟨Tryz.f153.name,by decide,Tryz.func153.trans (congrArg some (by kernel_rfl))⟩
 f26:=⟨Tryz.f154.name,by decide,Tryz.func154.trans (congrArg some (by kernel_rfl))⟩
 f27:=⟨Tryz.f155.name,by decide,Tryz.func155.trans (congrArg some (by kernel_rfl))⟩
 f28:=Tryz.func156.trans (congrArg some (by kernel_rfl))
 f29:=Tryz.func157.trans (congrArg some (by kernel_rfl))
 f46:=⟨Tryz.f169.name,by decide,Tryz.func169.trans (congrArg some (by kernel_rfl))⟩
 f47:=Tryz.func170.trans (congrArg some (by kernel_rfl))
 f48:=Tryz.func171.trans (congrArg some (by kernel_rfl))
 f49:=⟨Tryz.f172.name,by decide,Tryz.func172.trans (congrArg some (by kernel_rfl))⟩
 f50:=⟨Tryz.f173.name,by decide,Tryz.func173.trans (congrArg some (by kernel_rfl))⟩
 f57:=⟨Tryz.f179.name,by decide,Tryz.func179.trans (congrArg some (by kernel_rfl))⟩
 t0:=Tryz.underlying0
 a0:=Tryz.isAgg0
 z0:=Tryz.sizeOf0
 v0:=Tryz.zeroValue0
 t3:=Tryz.underlying3
 a3:=Tryz.isAgg3
 z3:=Tryz.sizeOf3
 v3:=Tryz.zeroValue3
 t4:=Tryz.underlying4
 a4:=Tryz.isAgg4
 z4:=Tryz.sizeOf4
 v4:=Tryz.zeroValue4
 t5:=Tryz.underlying5
 a5:=Tryz.isAgg5
 z5:=Tryz.sizeOf5
 v5:=Tryz.zeroValue5
 t9:=Tryz.underlying9
 a9:=Tryz.isAgg9
 z9:=Tryz.sizeOf9
 v9:=Tryz.zeroValue9
 t22:=Tryz.underlying139
 a22:=Tryz.isAgg139
 z22:=Tryz.sizeOf139
 v22:=Tryz.zeroValue139
 t25:=Tryz.underlying146
 a25:=Tryz.isAgg146
 z25:=Tryz.sizeOf146
 v25:=Tryz.zeroValue146
 t39:=Tryz.underlying113
 a39:=Tryz.isAgg113
 z39:=Tryz.sizeOf113
 v39:=Tryz.zeroValue113
 t45:=Tryz.underlying198
 a45:=Tryz.isAgg198
 z45:=Tryz.sizeOf198
 v45:=Tryz.zeroValue198
 t46:=Tryz.underlying199
 a46:=Tryz.isAgg199
 z46:=Tryz.sizeOf199
 v46:=Tryz.zeroValue199
 t50:=Tryz.underlying61
 a50:=Tryz.isAgg61
 z50:=Tryz.sizeOf61
 v50:=Tryz.zeroValue61
 t53:=Tryz.underlying205
 a53:=Tryz.isAgg205
 z53:=Tryz.sizeOf205
 v53:=Tryz.zeroValue205
 t55:=Tryz.underlying126
 a55:=Tryz.isAgg126
 z55:=Tryz.sizeOf126
 v55:=Tryz.zeroValue126
 t66:=Tryz.underlying216
 a66:=Tryz.isAgg216
 z66:=Tryz.sizeOf216
 v66:=Tryz.zeroValue216
 t70:=Tryz.underlying220
 a70:=Tryz.isAgg220
 z70:=Tryz.sizeOf220
 v70:=Tryz.zeroValue220
 t76:=Tryz.underlying225
 a76:=Tryz.isAgg225
 z76:=Tryz.sizeOf225
 v76:=Tryz.zeroValue225
 t77:=Tryz.underlying226
 a77:=Tryz.isAgg226
 z77:=Tryz.sizeOf226
 v77:=Tryz.zeroValue226 }
def Tryz.sort128_ren : Go.Shelf.Ren:=⟨fun | 6=>128 | 15=>140 | 14=>141 | 28=>156 | 29=>157 | 20=>158 | 21=>159 | 22=>160 | 23=>161 | 24=>162 | 25=>163 | 26=>164 | 27=>165 | 46=>174 | 47=>170 | 48=>171 | 49=>175 | 50=>176 | 57=>180 | n=>n,fun | 22=>98 | 24=>48 | 25=>145 | 3=>3 | 39=>113 | 0=>0 | 53=>205 | 55=>126 | 4=>4 | 46=>199 | 45=>198 | 50=>61 | 5=>5 | 9=>9 | 66=>216 | 70=>220 | 76=>225 | 77=>226 | n=>n,fun | n=>n⟩
theorem Tryz.sort128 : Go.Proofs.SlLaysF0.n6 Tryz.prog Tryz.sort128_ren:={
 mixed:=by kernel_rfl
 f6:=⟨Tryz.f128.name,by decide,Tryz.func128.trans (congrArg some (by kernel_rfl))⟩
 f14:=⟨Tryz.f141.name,by decide,Tryz.func141.trans (congrArg some (by kernel_rfl))⟩
 f15:=Tryz.func140.trans (congrArg some (by kernel_rfl))
 f20:=⟨Tryz.f158.name,by decide,Tryz.func158.trans (congrArg some (by kernel_rfl))⟩
 f21:=⟨Tryz.f159.name,by decide,Tryz.func159.trans (congrArg some (by kernel_rfl))⟩
 f22:=⟨Tryz.f160.name,by decide,Tryz.func160.trans (congrArg some (by kernel_rfl))⟩
 f23:=⟨Tryz.f161.name,by decide,Tryz.func161.trans (congrArg some (by kernel_rfl))⟩
 f24:=⟨Tryz.f162.name,by decide,Tryz.func162.trans (congrArg some (by kernel_rfl))⟩
 f25:=⟨Tryz.f163.name,by decide,Tryz.func163.trans (congrArg some (by kernel_rfl))⟩
 f26:=⟨Tryz.f164.name,by decide,Tryz.func164.trans (congrArg some (by kernel_rfl))⟩
 f27:=⟨Tryz.f165.name,by decide,Tryz.func165.trans (congrArg some (by kernel_rfl))⟩
 f28:=Tryz.func156.trans (congrArg some (by kernel_rfl))
 f29:=Tryz.func157.trans (congrArg some (by kernel_rfl))
 f46:=⟨Tryz.f174.name,by decide,Tryz.func174.trans (congrArg some (by kernel_rfl))⟩
 f47:=Tryz.func170.trans (congrArg some (by kernel_rfl))
 f48:=Tryz.func171.trans (congrArg some (by kernel_rfl))
 f49:=⟨Tryz.f175.name,by decide,Tryz.func175.trans (congrArg some (by kernel_rfl))⟩
 f50:=⟨Tryz.f176.name,by decide,Tryz.func176.trans (congrArg some (by kernel_rfl))⟩
 f57:=⟨Tryz.f180.name,by decide,Tryz.func180.trans (congrArg some (by kernel_rfl))⟩
 t0:=Tryz.underlying0
 a0:=Tryz.isAgg0
 z0:=Tryz.sizeOf0
 v0:=Tryz.zeroValue0
 t3:=Tryz.underlying3
 a3:=Tryz.isAgg3
 z3:=Tryz.sizeOf3
 v3:=Tryz.zeroValue3
 t4:=Tryz.underlying4
 a4:=Tryz.isAgg4
 z4:=Tryz.sizeOf4
 v4:=Tryz.zeroValue4
 t5:=Tryz.underlying5
 a5:=Tryz.isAgg5
 z5:=Tryz.sizeOf5
 v5:=Tryz.zeroValue5
 t9:=Tryz.underlying9
 a9:=Tryz.isAgg9
 z9:=Tryz.sizeOf9
 v9:=Tryz.zeroValue9
 t22:=Tryz.underlying98
 a22:=Tryz.isAgg98
 z22:=Tryz.sizeOf98
 v22:=Tryz.zeroValue98
 t25:=Tryz.underlying145
 a25:=Tryz.isAgg145
 z25:=Tryz.sizeOf145
 v25:=Tryz.zeroValue145
 t39:=Tryz.underlying113
 a39:=Tryz.isAgg113
 z39:=Tryz.sizeOf113
 v39:=Tryz.zeroValue113
 t45:=Tryz.underlying198
 a45:=Tryz.isAgg198
 z45:=Tryz.sizeOf198
 v45:=Tryz.zeroValue198
 t46:=Tryz.underlying199
 a46:=Tryz.isAgg199
 z46:=Tryz.sizeOf199
 v46:=Tryz.zeroValue199
 t50:=Tryz.underlying61
 a50:=Tryz.isAgg61
 z50:=Tryz.sizeOf61
 v50:=Tryz.zeroValue61
 t53:=Tryz.underlying205
 a53:=Tryz.isAgg205
 z53:=Tryz.sizeOf205
 v53:=Tryz.zeroValue205
 t55:=Tryz.underlying126
 a55:=Tryz.isAgg126
 z55:=Tryz.sizeOf126
 v55:=Tryz.zeroValue126
 t66:=Tryz.underlying216
 a66:=Tryz.isAgg216
 z66:=Tryz.sizeOf216
 v66:=Tryz.zeroValue216
 t70:=Tryz.underlying220
 a70:=Tryz.isAgg220
 z70:=Tryz.sizeOf220
 v70:=Tryz.zeroValue220
 t76:=Tryz.underlying225
 a76:=Tryz.isAgg225
 z76:=Tryz.sizeOf225
 v76:=Tryz.zeroValue225
 t77:=Tryz.underlying226
 a77:=Tryz.isAgg226
 z77:=Tryz.sizeOf226
 v77:=Tryz.zeroValue226 }
end Go.Proofs
namespace Go.Proofs.YtfohfflkhpfjeaaGreatDoor
open Go.Proofs.Tryz
open Go.RowKit Go.Lith
set_option maxRecDepth 100000
attribute [local irreducible] wpList wpQuiet dD cO cF Code.wp
theorem gC : pJ prog 48 pt:=by
 refine pJ.agg (cs:=fun p=>#[.int .i64 p.x,.int .i64 p.y,.int .i64 p.z]) (fun _=>rfl) cB (fun e p=>?_) (fun p q=>?_) (fun p=>?_)
 ·
  refine pQ.struct (d:=9999) cB fun f hf=>?_;simp only[List.mem_cons,List.not_mem_nil,or_false] at hf;rcases hf with rfl | rfl | rfl <;> exact ⟨_,dG bF rfl,pQ.int (d:=9998) iN⟩
 · exact (pI 9998).iff ⟨fun h=>P3.eq h.1 h.2.1 h.2.2,fun h=>by subst h;exact ⟨rfl,rfl,rfl⟩⟩
 · simp [pt,Instr.sameBits]
theorem Nq {w0 w : World} {is : List It} {g c : Nat} {es : Array MapEntry} {D : List (P3 × Bool)} {p : P3} (m : bS w0 w is) (k : Nat) (hk : is[k]? = some (mI g es c)) (hD1 : bZ pt Value.bool D es c) : Calls prog 109 [.map (some g),pt p].toArray w fun e w'=>∃ v i,e = .returned v ∧ bS w0 w' (is.set k i) ∧ (v = .bool (!(cP D p).getD false) ∧ ∃ es' c',i = mI g es' c' ∧ bZ pt Value.bool (fT D p true) es' c'):=by
 go_enter func109,ntmps109
 refine aC fun K1 k1=>wp_region_lit (fA m rfl ?_);clear m;intro g1 u m;refine aA (aF) (aD (k1 _ _ ?_));refine aC fun K2 k2=>aC fun K3 k3=>wp_region_lit (aA (aB) ?_);simp only[zz];refine aI rfl ((m.b 0 rfl).full aK aG) ?_;simp only[zz];refine eL (eB (ek:=pt) (en:=Value.bool) (k:=p) (v0:=false) underlying147 lA gC rfl rfl (m.p (k + 1) hk) hD1) ?_;simp only[zz];refine aD (k3 _ _ ?_);refine fB rfl (fun hc1=>?_) (fun hc1=>?_)
 ·
  refine aC fun K4 k4=>wp_region_lit (aA (aF) (aD (k4 _ _ ?_)));refine wp_ret ?_;simp only[zz];try simp only[Exit.inBlock,Exit.then,if_true]
  refine bP rfl rfl ?_;try simp only[zD,zE]
  exact ⟨_,mI g es c,rfl,by rw [Ke hk];exact m.tl,by rw [hc1];rfl,es,c,rfl,by rw [xU (by cases hq : cP D p with | none=>rw [hq] at hc1;cases hc1 | some x=>rw [hq] at hc1;exact congrArg some hc1)];exact hD1⟩
 ·
  refine wp_skip (k2 _ _ ?_);refine aC fun K5 k5=>wp_region_lit (aA (aB) ?_);simp only[zz];refine aI rfl ((m.b 0 rfl).full aK aG) ?_;simp only[zz];refine eZ (ek:=pt) (en:=Value.bool) (a:=p) (v:=true) m (k + 1) hk underlying147 gC rfl rfl rfl hD1 ?_;clear m;intro es1 c1 u m hD';clear hD1;have hD1:=hD';clear hD';simp only[zF,zG] at m;refine aD (k5 _ _ ?_);refine aC fun K6 k6=>wp_region_lit (aA (aF) (aD (k6 _ _ ?_)));refine wp_ret ?_;simp only[zz];try simp only[Exit.inBlock,Exit.then,if_true]
  refine bP rfl rfl ?_;try simp only[zD,zE]
  exact ⟨_,_,rfl,m.tl,by rw [hc1];rfl,_,_,rfl,hD1⟩
theorem aaf {w0 w : World} {is : List It} {A : Option Addr} {n cap : Nat} {xs : List P3} (m : bS w0 w is) (k : Nat) (hi : is[k]? = some (oI 48 3 A n cap (xs.flatMap nS))) (hsz : n < 4611686018427387904) :
 Calls prog 128 [.slice A n cap,.func (.func 108) #[] #[]].toArray w fun e w'=>∃ v i,e = .returned v ∧ bS w0 w' (is.set k i) ∧ (v = .tuple #[] ∧ ∃ ys : List P3,i = oI 48 3 A n cap (ys.flatMap nS) ∧ ys.Perm xs ∧ ys.Pairwise fun a b=>ltOf wF b a = false) :=
 Kf (enc:=nS) Tryz.sort128 (fun w=>tQ aK w) (fun w=>fD aG w) (fun _=>rfl) (by decide) Kg wF We (fun x y=>Hv) m k hi hsz
theorem Sd {g c : Nat} {es : Array MapEntry} {D : List (P3 × Bool)} (w : World) (hM : jN w g es c) (hD : bZ pt Value.bool D es c) (hl : D.length ≤ 1000000) : eE prog 110 [.map (some g),.func (.func 108) #[] #[]] w (OR 48 3 (fun xs=>∃ ps : List P3,xs = ps.flatMap nS ∧ ps.Perm (D.map (·.1)) ∧ ps.Pairwise fun a b=>¬ b.Lt a) w):=by
 refine ⟨abo,?_⟩;have m:=bS.refl w
 go_enter func110,ntmps110
 refine aC fun K1 k1=>wp_region_lit (aA (aF) (aD (k1 _ _ ?_)));refine aC fun K2 k2=>wp_region_lit (aA (aF) ?_);replace m:=m.nilO 48 3;refine aD (k2 _ _ ?_);refine aC fun K3 k3=>aC fun K4 k4=>wp_region_lit (aA (aB) ?_);simp only[zz];refine vN m underlying147 rfl (hM.ext m.ext) ?_;clear m;intro r1 u m;refine aD (k4 _ _ ?_);refine wp_block ?_;simp only[zz];try simp only[Nat.zero_add,Nat.reduceAdd,Nat.reduceMul,Int.reduceToNat]
 refine bN [5] [6,9,10,11,12,13,14,15,16] (fun n vs wl=>∃ (dn rs : List (P3 × Bool)) (A1 : Option Addr) (n1 cap1 : Nat) (sn : Array Nat),vs = [.slice A1 n1 cap1] ∧ bS w wl [iI r1 g c sn,oI 48 3 A1 n1 cap1 ((dn.map (·.1)).flatMap nS)] ∧ (lB pt Value.bool D es sn dn rs) ∧ (n1 = dn.length) ∧ (n = rs.length)) ?_ ?_
 ·
  apply Exists.intro;simp only[zQ,zR,zD,zE];exact ⟨[],D,none,0,0,#[],rfl,m,lB.start hD,rfl,rfl⟩
 ·
  intro n vs wr hI u;clear m;obtain ⟨dn,rs,A1,n1,cap1,sn,rfl,m,hT,hn1,hn⟩:=hI;have hlen:=hT.len;simp only[zu,zF,zG];refine aC fun K5 k5=>wp_region_lit (Cg m 0 rfl rfl (hM.ext m.ext) hD hT ?_);clear m;intro bb kk vv sn u m hN;simp only[zF,zG] at m;refine aA (rK rfl) (aD (k5 _ _ ?_));refine aC fun K6 k6=>?_;simp only[zz];refine fB rfl (fun hc1=>?_) (fun hc1=>?_)
  ·
   obtain ⟨kp,kb,rs2,hp,hT2⟩:=Cj hc1 hN;refine wp_skip (k6 _ _ ?_);refine wp_block (aC fun K7 k7=>wp_region_lit (eL (rL rfl (m.r 0 rfl) (hM.ext m.ext) hD hT2) ?_));simp only[zz];refine aA (bL rfl rfl) ?_;simp only[zz];refine aY m bK rfl ?_;clear m;intro g2 u m;simp only[zz];refine aQ m 0 rfl rfl rfl aG (dH rfl) rfl ?_;clear m;intro u m;simp only[zy,zx,bB,zF,zG,Nat.reduceAdd] at m;refine aD (k7 _ _ ?_);refine wp_region_lit (aA (aB) ?_);simp only[zz];refine aI rfl ((m.b 0 rfl).full aK aG) ?_;simp only[zz];refine Rs rfl ?_;intro u g3 e hg hB;replace m:=m.newB e hg hB;clear e hg hB;simp only[zz];refine eC m 3 rfl rfl underlying98 abS rfl (by decide) rfl rfl rfl (m.b 0 rfl).rowsO (sA rfl) (by omega) (by omega) ?_;clear m;intro A1 cap1 u m;simp only[zF,zG] at m;refine aA (aF) (aD ?_);simp only[zz];simp only[Exit.inBlock,Exit.then];refine ⟨rs2.length,_,?_,rfl,?_,?_⟩
   · rw [hn,hp.length_eq];exact Nat.lt_succ_self _
   · simp only[zz,zv]
   ·
    simp only[zQ,zR,zD,zE];exact ⟨dn ++ [(kp,kb)],rs2,_,_,_,_,rfl,((m.reO 3 rfl ((m.o 3 rfl).as (by simp [nS]))).sel [false,false,true,true]),hT2,by simp [hn1],rfl⟩
  ·
   obtain rfl:=Ci hc1 hN;refine wp_exit (k3 _ _ ?_);refine aC fun K8 k8=>wp_region_lit (aA (aB) (aA (aB) ?_));simp only[zz];refine rM m 1 abF rfl rfl (fun m=>aaf m 1 rfl (by omega)) ?_;clear m;rintro v i u m ⟨rfl,ys,rfl,hys,hso⟩;simp only[zF,zG] at m;refine aD (k8 _ _ ?_);refine aC fun K9 k9=>wp_region_lit (aA (aB) (aA (aF) (aD (k9 _ _ ?_))));refine wp_ret ?_;simp only[zz];try simp only[Exit.inBlock,Exit.then,if_true]
   refine bP rfl rfl ?_;try simp only[zD,zE]
   exact ⟨_,rfl,m.ext,_,_,_,_,rfl,(m.o 1 rfl),_,rfl,hys.trans (hT.done.map _),hso.imp fun h=>by simpa [ltOf,qL] using h⟩
end Go.Proofs.YtfohfflkhpfjeaaGreatDoor
namespace Go.Proofs.YtfohfflkhpfjeaaGreatDoor
open Go.Proofs.Tryz
open Go.RowKit Go.Lith
set_option maxRecDepth 100000
attribute [local irreducible] wpList wpQuiet dD cO cF Code.wp
theorem tG : pJ prog 143 ed:=by
 refine pJ.agg (cs:=fun p=>#[.int .i64 p.1.x,.int .i64 p.1.y,.int .i64 p.1.z,.int .i64 p.2.x,.int .i64 p.2.y,.int .i64 p.2.z]) (fun _=>rfl) iX (fun e p=>?_) (fun p q=>?_) (fun p=>?_)
 ·
  refine pQ.struct (d:=9999) iX fun f hf=>?_;simp only[List.mem_cons,List.not_mem_nil,or_false] at hf;rcases hf with rfl | rfl
  ·
   refine ⟨_,eW aK aG rfl,?_⟩;refine pQ.struct (d:=9998) cB fun f hf=>?_;simp only[List.mem_cons,List.not_mem_nil,or_false] at hf;rcases hf with rfl | rfl | rfl
   · exact ⟨_,dG bF rfl,pQ.int (d:=9997) iN⟩
   · exact ⟨_,dG bF rfl,pQ.int (d:=9997) iN⟩
   · exact ⟨_,dG bF rfl,pQ.int (d:=9997) iN⟩
  ·
   refine ⟨_,eW aK aG rfl,?_⟩;refine pQ.struct (d:=9998) cB fun f hf=>?_;simp only[List.mem_cons,List.not_mem_nil,or_false] at hf;rcases hf with rfl | rfl | rfl
   · exact ⟨_,dG bF rfl,pQ.int (d:=9997) iN⟩
   · exact ⟨_,dG bF rfl,pQ.int (d:=9997) iN⟩
   · exact ⟨_,dG bF rfl,pQ.int (d:=9997) iN⟩
 · exact (Zr _).iff ⟨fun h=>Prod.ext (P3.eq (h.1) (h.2.1) (h.2.2.1)) (P3.eq (h.2.2.2.1) (h.2.2.2.2.1) (h.2.2.2.2.2)),fun h=>by subst h;simp only[and_self]⟩
 · simp [ed,Instr.sameBits]
theorem ad1 {x y : Int} {g1 : Nat} (w : World) (hB1 : fQ w g1 [.int .i64 x,.int .i64 y] 3) : aaS prog 107 [.slice (some ⟨g1,0,none⟩) 2 2] w (.int .i64 (if x = 0 then y else x)):=by
 refine ⟨abm,?_⟩;have m:=gK.refl w
 go_enter func107,ntmps107
 refine aC fun K1 k1=>wp_region_lit (aA (aF) (aD (k1 _ _ ?_)));refine aC fun K2 k2=>wp_region_lit (aA (aF) (aD (k2 _ _ ?_)));refine aC fun K3 k3=>aC fun K4 k4=>wp_region_lit (aA (aB) (aA (bC rfl bY rfl) ?_));simp only[zz];refine aA (aB) (aD (k4 _ _ ?_));refine wp_block (wp_loop_rounds 3 (dQ (aC fun K5 k5=>wp_region_lit (aA (bT (m:=0) (n:=2) rfl rfl (by decide)) (aD (k5 _ _ ?_))))));refine aC fun K6 k6=>cG rfl (wp_skip (k6 _ _ ?_));refine aC fun K7 k7=>wp_block (aC fun K8 k8=>wp_region_lit ?_);simp only[zz];refine aA (aL bY aT rfl rfl (by decide) (by omega) rfl) ?_;simp only[zz];refine aI rfl ((hB1.ext m.ext.ext).lies1 bF rfl) ?_;simp only[zz];refine aA (aF) (aD (k8 _ _ ?_));refine aC fun K9 k9=>wp_region_lit (aA (aB) (aA (aB) (aA (mV rfl rfl) ?_)));simp only[zz];refine aD (k9 _ _ ?_);refine cD rfl (fun hc2=>?_) (fun hc2=>?_)
 ·
  refine aC fun K10 k10=>wp_region_lit (aA (aB) (aA (aF) (aD (k10 _ _ ?_))));refine wp_ret ?_;simp only[zz];try simp only[Exit.inBlock,Exit.then,if_true]
  refine bP rfl rfl ?_;try simp only[zD,zE]
  exact ⟨_,rfl,m.ext,by rw [if_neg hc2]⟩
 ·
  have hx : x = 0:=by omega
  refine wp_skip (k7 _ _ ?_);refine wp_region_lit (aA (aR (m:=0) (n:=1) (r:=1) rfl rfl (by decide)) (aA (aB) (aD (aU (aC fun K11 k11=>wp_region_lit (aA (bT (m:=1) (n:=2) rfl rfl (by decide)) (aD (k11 _ _ ?_))))))));refine aC fun K12 k12=>cG rfl (wp_skip (k12 _ _ ?_));refine aC fun K13 k13=>wp_block (aC fun K14 k14=>wp_region_lit ?_);simp only[zz];refine aA (aL bY aT rfl rfl (by decide) (by omega) rfl) ?_;simp only[zz];refine aI rfl ((hB1.ext m.ext.ext).lies1 bF rfl) ?_;simp only[zz];refine aA (aF) (aD (k14 _ _ ?_));refine aC fun K15 k15=>wp_region_lit (aA (aB) (aA (aB) (aA (mV rfl rfl) ?_)));simp only[zz];refine aD (k15 _ _ ?_);refine cD rfl (fun hc2=>?_) (fun hc2=>?_)
  ·
   refine aC fun K16 k16=>wp_region_lit (aA (aB) (aA (aF) (aD (k16 _ _ ?_))));refine wp_ret ?_;simp only[zz];try simp only[Exit.inBlock,Exit.then,if_true]
   refine bP rfl rfl ?_;try simp only[zD,zE]
   exact ⟨_,rfl,m.ext,by rw [if_pos hx]⟩
  ·
   have hy : y = 0:=by omega
   refine wp_skip (k13 _ _ ?_);refine wp_region_lit (aA (aR (m:=1) (n:=1) (r:=2) rfl rfl (by decide)) (aA (aB) (aD (aU (aC fun K17 k17=>wp_region_lit (aA (eG (m:=2) (n:=2) rfl rfl (by decide)) (aD (k17 _ _ ?_))))))));refine aC fun K18 k18=>iT rfl (wp_exit (k3 _ _ ?_));refine aC fun K19 k19=>wp_region_lit (aA (aB) ?_);simp only[zz];refine aA (aF) (aD (k19 _ _ ?_));refine wp_ret ?_;simp only[zz];try simp only[Exit.inBlock,Exit.then,if_true]
   refine bP rfl rfl ?_;try simp only[zD,zE]
   exact ⟨_,rfl,m.ext,by rw [if_pos hx,hy]⟩
def Se (a b : E3) : Int:=if wF a.1 b.1 = 0 then wF a.2 b.2 else wF a.1 b.1
theorem Ga {p q : P3} : wF p q = 0 ↔ p = q:=by
 unfold wF;rcases P3.lt_tri p q with h | h | h
 · rw [if_pos h];exact ⟨fun e=>(by cases e),fun e=>absurd (e ▸ h) (P3.lt_irrefl _)⟩
 · subst h;rw [if_neg (P3.lt_irrefl _),if_neg (P3.lt_irrefl _)];exact ⟨fun _=>rfl,fun _=>rfl⟩
 · rw [if_neg (fun k=>P3.lt_irrefl _ (P3.lt_trans h k)),if_pos h];exact ⟨fun e=>(by cases e),fun e=>absurd (e ▸ h) (P3.lt_irrefl _)⟩
theorem wZ (a b : E3) : (Se a b < 0) ↔ xJ a b:=by
 unfold Se xJ;split
 ·
  rename_i h;have h':=Ga.1 h;rw [qL];exact ⟨fun k=>.inr ⟨h',k⟩,fun k=>k.elim (fun k=>absurd (h' ▸ k) (P3.lt_irrefl _)) fun k=>k.2⟩
 ·
  rename_i h;rw [qL];exact ⟨.inl,fun k=>k.elim id fun k=>absurd (Ga.2 k.1) h⟩
instance : Inhabited E3:=⟨(⟨0,0,0⟩,⟨0,0,0⟩)⟩
theorem Wx : Go.Sort.SWO (Go.Proofs.ltOf Se) where
 irrefl a:=by simp only[Go.Proofs.ltOf,decide_eq_false_iff_not,wZ];exact xJ.irrefl a
 trans x y z h1 h2:=by
  simp only[Go.Proofs.ltOf,decide_eq_true_eq,wZ] at *
  exact h1.trans h2
 ntrans x y z h1 h2:=by
  simp only[Go.Proofs.ltOf,decide_eq_false_iff_not,wZ] at *
  intro h;rcases xJ.tri y x with k | k | k
  · exact absurd (k.trans h) (by first | exact h2 | exact h1)
  · subst k;first | exact h2 h | exact h1 h
  · first | exact h1 k | exact h2 k
theorem aag {p q : E3} : rY prog 106 [ed p,ed q] (.int .i64 (Se p q)):=by
 intro w;refine ⟨abl,?_⟩;have m:=gK.refl w
 go_enter func106,ntmps106
 refine aC fun K1 k1=>wp_region_lit (rG m rfl ?_);clear m;intro g1 u m;simp only[zz];refine rG m rfl ?_;clear m;intro g2 u m;refine aA (aF) (aD (k1 _ _ ?_));refine aC fun K2 k2=>?_;simp only[zz];refine Uw m 10 aP (by kernel_rfl) ?_;simp only[zy];refine aN (aJ (c:=2) iX rfl aG rfl rfl) ?_;simp only[zz];refine Yf rfl (fun u m=>((m.b 1 rfl).lies aK aG rfl rfl)) ?_;simp only[zz,zy,Nat.zero_add,Nat.reduceAdd,Nat.reduceMul,Int.reduceToNat];refine aN (aJ (c:=2) iX rfl aG rfl rfl) ?_;simp only[zz];refine Yf rfl (fun u m=>((m.b 0 rfl).lies aK aG rfl rfl)) ?_;simp only[zz,zy,Nat.zero_add,Nat.reduceAdd,Nat.reduceMul,Int.reduceToNat];refine Je rfl rfl (Hv (p:=p.1) (q:=q.1)) (aN (aJ (c:=2) iX rfl aG rfl rfl) ?_);simp only[zz];refine Yf rfl (fun u m=>((m.b 1 rfl).lies aK aG rfl rfl)) ?_;simp only[zz,zy,Nat.zero_add,Nat.reduceAdd,Nat.reduceMul,Int.reduceToNat];refine aN (aJ (c:=2) iX rfl aG rfl rfl) ?_;simp only[zz];refine Yf rfl (fun u m=>((m.b 0 rfl).lies aK aG rfl rfl)) ?_;simp only[zz,zy,Nat.zero_add,Nat.reduceAdd,Nat.reduceMul,Int.reduceToNat];refine Je rfl rfl (Hv (p:=p.2) (q:=q.2)) (dN ?_);clear m;intro u m;simp only[zz];refine Ww m bY (z:=.int .i64 0) (by kernel_rfl) rfl rfl rfl rfl rfl ?_;clear m;intro g3 u m;simp only[zz];refine aae m rfl rfl (ad1 _ (m.b 0 rfl)) ?_;clear m;intro u m;refine aA (aF) (aD (k2 _ _ ?_));refine wp_ret ?_;simp only[zz];try simp only[Exit.inBlock,Exit.then,if_true]
 refine bP rfl rfl ?_;try simp only[zD,zE]
 exact ⟨_,rfl,m.ext,rfl⟩
theorem Hw {w0 w : World} {is : List It} {g c : Nat} {es : Array MapEntry} {D : List (E3 × Bool)} {p : E3} (m : bS w0 w is) (k : Nat) (hk : is[k]? = some (mI g es c)) (hD1 : bZ ed Value.bool D es c) : Calls prog 125 [.map (some g),ed p].toArray w fun e w'=>∃ v i,e = .returned v ∧ bS w0 w' (is.set k i) ∧ (v = .bool (!(cP D p).getD false) ∧ ∃ es' c',i = mI g es' c' ∧ bZ ed Value.bool (fT D p true) es' c'):=by
 go_enter func125,ntmps125
 refine aC fun K1 k1=>wp_region_lit (fA m rfl ?_);clear m;intro g1 u m;refine aA (aF) (aD (k1 _ _ ?_));refine aC fun K2 k2=>aC fun K3 k3=>wp_region_lit (aA (aB) ?_);simp only[zz];refine aI rfl ((m.b 0 rfl).full jC dM) ?_;simp only[zz];refine eL (eB (ek:=ed) (en:=Value.bool) (k:=p) (v0:=false) underlying136 lA tG rfl rfl (m.p (k + 1) hk) hD1) ?_;simp only[zz];refine aD (k3 _ _ ?_);refine fB rfl (fun hc1=>?_) (fun hc1=>?_)
 ·
  refine aC fun K4 k4=>wp_region_lit (aA (aF) (aD (k4 _ _ ?_)));refine wp_ret ?_;simp only[zz];try simp only[Exit.inBlock,Exit.then,if_true]
  refine bP rfl rfl ?_;try simp only[zD,zE]
  exact ⟨_,mI g es c,rfl,by rw [Ke hk];exact m.tl,by rw [hc1];rfl,es,c,rfl,by rw [xU (by cases hq : cP D p with | none=>rw [hq] at hc1;cases hc1 | some x=>rw [hq] at hc1;exact congrArg some hc1)];exact hD1⟩
 ·
  refine wp_skip (k2 _ _ ?_);refine aC fun K5 k5=>wp_region_lit (aA (aB) ?_);simp only[zz];refine aI rfl ((m.b 0 rfl).full jC dM) ?_;simp only[zz];refine eZ (ek:=ed) (en:=Value.bool) (a:=p) (v:=true) m (k + 1) hk underlying136 tG rfl rfl rfl hD1 ?_;clear m;intro es1 c1 u m hD';clear hD1;have hD1:=hD';clear hD';simp only[zF,zG] at m;refine aD (k5 _ _ ?_);refine aC fun K6 k6=>wp_region_lit (aA (aF) (aD (k6 _ _ ?_)));refine wp_ret ?_;simp only[zz];try simp only[Exit.inBlock,Exit.then,if_true]
  refine bP rfl rfl ?_;try simp only[zD,zE]
  exact ⟨_,_,rfl,m.tl,by rw [hc1];rfl,_,_,rfl,hD1⟩
theorem Lb (p : E3) : ∀ v ∈ bV p,v.oneCell' = true:=fun v h=>by
 simp only[bV,List.mem_cons,List.not_mem_nil,or_false] at h;rcases h with rfl | rfl | rfl | rfl | rfl | rfl <;> rfl
theorem aah {w0 w : World} {is : List It} {A : Option Addr} {n cap : Nat} {xs : List E3} (m : bS w0 w is) (k : Nat) (hi : is[k]? = some (oI 143 6 A n cap (xs.flatMap bV))) (hsz : n < 4611686018427387904) :
 Calls prog 127 [.slice A n cap,.func (.func 106) #[] #[]].toArray w fun e w'=>∃ v i,e = .returned v ∧ bS w0 w' (is.set k i) ∧ (v = .tuple #[] ∧ ∃ ys : List E3,i = oI 143 6 A n cap (ys.flatMap bV) ∧ ys.Perm xs ∧ ys.Pairwise fun a b=>ltOf Se b a = false) :=
 Kf (enc:=bV) Tryz.sort127 (fun w=>tQ jC w) (fun w=>fD dM w) (fun _=>rfl) (by decide) Lb Se Wx (fun x y=>aag) m k hi hsz
theorem Sf {g c : Nat} {es : Array MapEntry} {D : List (E3 × Bool)} (w : World) (hM : jN w g es c) (hD : bZ ed Value.bool D es c) (hl : D.length ≤ 100000000) : eE prog 105 [.map (some g),.func (.func 106) #[] #[]] w (OR 143 6 (fun xs=>∃ ps : List E3,xs = ps.flatMap bV ∧ ps.Perm (D.map (·.1)) ∧ ps.Pairwise fun a b=>¬ xJ b a) w):=by
 refine ⟨abk,?_⟩;have m:=bS.refl w
 go_enter func105,ntmps105
 refine aC fun K1 k1=>wp_region_lit (aA (aF) (aD (k1 _ _ ?_)));refine aC fun K2 k2=>wp_region_lit (aA (aF) ?_);replace m:=m.nilO 143 6;refine aD (k2 _ _ ?_);refine aC fun K3 k3=>aC fun K4 k4=>wp_region_lit (aA (aB) ?_);simp only[zz];refine vN m underlying136 rfl (hM.ext m.ext) ?_;clear m;intro r1 u m;refine aD (k4 _ _ ?_);refine wp_block ?_;simp only[zz];try simp only[Nat.zero_add,Nat.reduceAdd,Nat.reduceMul,Int.reduceToNat]
 refine bN [5] [6,9,10,11,12,13,14,15,16] (fun n vs wl=>∃ (dn rs : List (E3 × Bool)) (A1 : Option Addr) (n1 cap1 : Nat) (sn : Array Nat),vs = [.slice A1 n1 cap1] ∧ bS w wl [iI r1 g c sn,oI 143 6 A1 n1 cap1 ((dn.map (·.1)).flatMap bV)] ∧ (lB ed Value.bool D es sn dn rs) ∧ (n1 = dn.length) ∧ (n = rs.length)) ?_ ?_
 ·
  apply Exists.intro;simp only[zQ,zR,zD,zE];exact ⟨[],D,none,0,0,#[],rfl,m,lB.start hD,rfl,rfl⟩
 ·
  intro n vs wr hI u;clear m;obtain ⟨dn,rs,A1,n1,cap1,sn,rfl,m,hT,hn1,hn⟩:=hI;have hlen:=hT.len;simp only[zu,zF,zG];refine aC fun K5 k5=>wp_region_lit (Cg m 0 rfl rfl (hM.ext m.ext) hD hT ?_);clear m;intro bb kk vv sn u m hN;simp only[zF,zG] at m;refine aA (rK rfl) (aD (k5 _ _ ?_));refine aC fun K6 k6=>?_;simp only[zz];refine fB rfl (fun hc1=>?_) (fun hc1=>?_)
  ·
   obtain ⟨kp,kb,rs2,hp,hT2⟩:=Cj hc1 hN;refine wp_skip (k6 _ _ ?_);refine wp_block (aC fun K7 k7=>wp_region_lit (eL (rL rfl (m.r 0 rfl) (hM.ext m.ext) hD hT2) ?_));simp only[zz];refine aA (bL rfl rfl) ?_;simp only[zz];refine aY m lT rfl ?_;clear m;intro g2 u m;simp only[zz];refine aQ m 0 rfl rfl rfl dM (dH rfl) rfl ?_;clear m;intro u m;simp only[zy,zx,bB,zF,zG,Nat.reduceAdd] at m;refine aD (k7 _ _ ?_);refine wp_region_lit (aA (aB) ?_);simp only[zz];refine aI rfl ((m.b 0 rfl).full jC dM) ?_;simp only[zz];refine Na rfl ?_;intro u g3 e hg hB;replace m:=m.newB e hg hB;clear e hg hB;simp only[zz];refine eC m 3 rfl rfl underlying139 Zp rfl (by decide) rfl rfl rfl (m.b 0 rfl).rowsO (sA rfl) (by omega) (by omega) ?_;clear m;intro A1 cap1 u m;simp only[zF,zG] at m;refine aA (aF) (aD ?_);simp only[zz];simp only[Exit.inBlock,Exit.then];refine ⟨rs2.length,_,?_,rfl,?_,?_⟩
   · rw [hn,hp.length_eq];exact Nat.lt_succ_self _
   · simp only[zz,zv]
   ·
    simp only[zQ,zR,zD,zE];exact ⟨dn ++ [(kp,kb)],rs2,_,_,_,_,rfl,((m.reO 3 rfl ((m.o 3 rfl).as (by simp [bV]))).sel [false,false,true,true]),hT2,by simp [hn1],rfl⟩
  ·
   obtain rfl:=Ci hc1 hN;refine wp_exit (k3 _ _ ?_);refine aC fun K8 k8=>wp_region_lit (aA (aB) (aA (aB) ?_));simp only[zz];refine rM m 1 abE rfl rfl (fun m=>aah m 1 rfl (by omega)) ?_;clear m;rintro v i u m ⟨rfl,ys,rfl,hys,hso⟩;simp only[zF,zG] at m;refine aD (k8 _ _ ?_);refine aC fun K9 k9=>wp_region_lit (aA (aB) (aA (aF) (aD (k9 _ _ ?_))));refine wp_ret ?_;simp only[zz];try simp only[Exit.inBlock,Exit.then,if_true]
   refine bP rfl rfl ?_;try simp only[zD,zE]
   exact ⟨_,rfl,m.ext,_,_,_,_,rfl,(m.o 1 rfl),_,rfl,hys.trans (hT.done.map _),hso.imp fun h=>by simpa [ltOf,wZ] using h⟩
end Go.Proofs.YtfohfflkhpfjeaaGreatDoor
namespace Go.Lith
open Go.RowKit
section
variable {w0 w w' : World} {is : List It}
theorem bS.plus {js : List It} (m : bS w0 w is) (h : bS w w' js) : bS w0 w' (js ++ is):=by
 have m':=m.ext' h.ext;refine ⟨m'.ext,fun i hi=>?_,fun i hi b hb=>?_,List.pairwise_append.2 ⟨h.nd,m.nd,fun i hi j hj b h1 h2=>?_⟩⟩
 · exact (List.mem_append.1 hi).elim (h.all i) (m'.all i)
 · rcases List.mem_append.1 hi with hi | hi
   · exact Nat.le_trans m.ext.size (h.ge i hi b hb)
   · exact m'.ge i hi b hb
 · have k1:=h.ge i hi b h1
   have k2:=j.lt w b (m.all j hj) h2;omega
end
end Go.Lith
namespace Go.Proofs.YtfohfflkhpfjeaaGreatDoor
open Go.Proofs.Tryz
open Go.RowKit Go.Lith
set_option maxRecDepth 100000
attribute [local irreducible] wpList wpQuiet dD cO cF Code.wp
theorem Wy {t : T3} : jB prog 124 [tr t] (.agg #[.int .i64 t.a.x,.int .i64 t.a.y,.int .i64 t.a.z,.int .i64 t.b.x,.int .i64 t.b.y,.int .i64 t.b.z,.int .i64 t.b.x,.int .i64 t.b.y,.int .i64 t.b.z,.int .i64 t.c.x,.int .i64 t.c.y,.int .i64 t.c.z,.int .i64 t.c.x,.int .i64 t.c.y,.int .i64 t.c.z,.int .i64 t.a.x,.int .i64 t.a.y,.int .i64 t.a.z]):=by
 intro w;refine ⟨abC,?_⟩;have m:=bS.refl w
 go_enter func124,ntmps124
 refine aC fun K1 k1=>wp_region_lit (fA m rfl ?_);clear m;intro g1 u m;simp only[zz];refine aY m Ju rfl ?_;clear m;intro g2 u m;refine aD (k1 _ _ ?_);refine aC fun K2 k2=>wp_region_lit (aA (aH bO aG rfl rfl (by decide) (by decide) rfl) ?_);simp only[zz];refine aI rfl ((m.b 1 rfl).lies aK aG rfl rfl) ?_;simp only[zz,zy,Nat.zero_add,Nat.reduceAdd,Nat.reduceMul,Int.reduceToNat];refine aA (aH bO aG rfl rfl (by decide) (by decide) rfl) ?_;simp only[zz];refine aI rfl ((m.b 1 rfl).lies aK aG rfl rfl) ?_;simp only[zz,zy,Nat.zero_add,Nat.reduceAdd,Nat.reduceMul,Int.reduceToNat];refine aA (fR rfl rfl) (aA (aH bO aG rfl rfl (by decide) (by decide) rfl) ?_);simp only[zz];refine aI rfl ((m.b 1 rfl).lies aK aG rfl rfl) ?_;simp only[zz,zy,Nat.zero_add,Nat.reduceAdd,Nat.reduceMul,Int.reduceToNat];refine aA (aH bO aG rfl rfl (by decide) (by decide) rfl) ?_;simp only[zz];refine aI rfl ((m.b 1 rfl).lies aK aG rfl rfl) ?_;simp only[zz,zy,Nat.zero_add,Nat.reduceAdd,Nat.reduceMul,Int.reduceToNat];refine aA (fR rfl rfl) (aA (aH bO aG rfl rfl (by decide) (by decide) rfl) ?_);simp only[zz];refine aI rfl ((m.b 1 rfl).lies aK aG rfl rfl) ?_;simp only[zz,zy,Nat.zero_add,Nat.reduceAdd,Nat.reduceMul,Int.reduceToNat];refine aA (aH bO aG rfl rfl (by decide) (by decide) rfl) ?_;simp only[zz];refine aI rfl ((m.b 1 rfl).lies aK aG rfl rfl) ?_;simp only[zz,zy,Nat.zero_add,Nat.reduceAdd,Nat.reduceMul,Int.reduceToNat];refine aA (fR rfl rfl) (aA (wQ rfl rfl rfl) ?_);simp only[zz];refine aQ m 0 rfl rfl rfl Fm (dH rfl) rfl ?_;clear m;intro u m;simp only[zy,zx,bB,zF,zG,Nat.reduceAdd] at m;refine aD (k2 _ _ ?_);refine wp_ret ?_;try simp only[Exit.inBlock,Exit.then,if_true]
 refine bP rfl ⟨_,rfl,((m.b 0 rfl).full Zq Fm)⟩ ?_;try simp only[zD,zE]
 exact ⟨_,rfl,m.ext,rfl⟩
theorem ab2 {e : E3} : jB prog 126 [ed e] (ed (e.2,e.1)):=by
 intro w;refine ⟨abD,?_⟩;have m:=bS.refl w
 go_enter func126,ntmps126
 refine aC fun K1 k1=>wp_region_lit (fA m rfl ?_);clear m;intro g1 u m;simp only[zz];refine aY m lT rfl ?_;clear m;intro g2 u m;refine aD (k1 _ _ ?_);refine aC fun K2 k2=>wp_region_lit (aA (aJ (c:=2) iX rfl aG rfl rfl) ?_);simp only[zz];refine aI rfl ((m.b 1 rfl).lies aK aG rfl rfl) ?_;simp only[zz,zy,Nat.zero_add,Nat.reduceAdd,Nat.reduceMul,Int.reduceToNat];refine aA (aJ (c:=2) iX rfl aG rfl rfl) ?_;simp only[zz];refine aI rfl ((m.b 1 rfl).lies aK aG rfl rfl) ?_;simp only[zz,zy,Nat.zero_add,Nat.reduceAdd,Nat.reduceMul,Int.reduceToNat];refine aA (fR rfl rfl) ?_;simp only[zz];refine aQ m 0 rfl rfl rfl dM (dH rfl) rfl ?_;clear m;intro u m;simp only[zy,zx,bB,zF,zG,Nat.reduceAdd] at m;refine aD (k2 _ _ ?_);refine wp_ret ?_;try simp only[Exit.inBlock,Exit.then,if_true]
 refine bP rfl ⟨_,rfl,((m.b 0 rfl).full jC dM)⟩ ?_;try simp only[zD,zE]
 exact ⟨_,rfl,m.ext,rfl⟩
theorem Nr {E : List E3} {e : E3} (h : (!!(cP (fP [] E) e).getD false) = true) : false = decide (E ++ [e]).Nodup:=by
 rw [Bool.not_not] at h;exact (decide_eq_false fun k=>(vO.1 k).2 (Cm.1 h)).symm
theorem Hx {E : List E3} {e : E3} {b : Bool} (hb : b = decide E.Nodup) (h : (!!(cP (fP [] E) e).getD false) = false) : b = decide (E ++ [e]).Nodup:=by
 rw [Bool.not_not] at h;rw [hb,decide_eq_decide,vO];exact ⟨fun k=>⟨k,fun h2=>by rw [Cm.2 h2] at h;cases h⟩,And.left⟩
theorem lJ {K : Type} [DecidableEq K] (ks : List K) (k : K) : fP [] (ks ++ [k]) = fT (fP [] ks) k true:=Kk [] ks [k]
theorem Da {ts : List T3} {N cap : Nat} {A : Option Addr} (w : World) (hT : dZ w A N ts) (hN : N ≤ 10000000) : eE prog 103 [.slice A N cap] w (fun v w'=>∃ g es c,v = .tuple #[.map (some g),.bool (decide (bH ts).Nodup)] ∧ bS w w' [mI g es c] ∧ bZ ed Value.bool (fP [] (bH ts)) es c):=by
 refine ⟨abi,?_⟩;have m:=bS.refl w
 go_enter func103,ntmps103
 refine aC fun K1 k1=>wp_region_lit (aA (aF) (aA (aF) (aD (k1 _ _ ?_))));refine aC fun K2 k2=>wp_region_lit ?_;simp only[zz];refine jL m ?_;clear m;intro q8 u m;have hD8:=bZ.nil (K:=E3) (V:=Bool) ed Value.bool;refine aA (aF) (aD (k2 _ _ ?_));refine aC fun K3 k3=>wp_region_lit (aA (aF) (aD (k3 _ _ ?_)));refine aC fun K4 k4=>aC fun K5 k5=>wp_region_lit (aA (aB) ?_);simp only[zz];refine aA (bC rfl cC rfl) (aA (aB) (aD (k5 _ _ ?_)));refine wp_block ?_;simp only[zz];try simp only[Nat.zero_add,Nat.reduceAdd,Nat.reduceMul,Int.reduceToNat]
 refine bN [5,13] [7,9,14,15,16,17,18,19,20,21,22,23,24,25,26,27] (fun n vs wl=>∃ (k : Nat) (es : Array MapEntry) (c : Nat) (b : Bool),vs = [.bool b,.int .i64 (k:Int)] ∧ bS w wl [mI q8 es c] ∧ (bZ ed Value.bool (fP [] (bH (ts.take k))) es c) ∧ (b = decide (bH (ts.take k)).Nodup) ∧ (k ≤ N) ∧ (n = N - k)) ?_ ?_
 ·
  apply Exists.intro;simp only[zQ,zR,zD,zE];exact ⟨0,_,_,true,rfl,m,hD8,rfl,Nat.zero_le _,rfl⟩
 ·
  intro n vs wr hI u;clear m;obtain ⟨k,es,c,b0,rfl,m,hD8,hb0,hk,hn⟩:=hI;simp only[zu,zF,zG];refine aC fun K6 k6=>wp_region_lit (aA (cS rfl rfl) (aD (k6 _ _ ?_)));refine aC fun K7 k7=>?_;simp only[zz];refine cD rfl (fun hc1=>?_) (fun hc1=>?_)
  ·
   obtain ⟨t,ht,_,a,rfl,hrow⟩:=hT.get (i:=k) (by omega);refine wp_skip (k7 _ _ ?_);refine aC fun K8 k8=>wp_block (aC fun K9 k9=>wp_region_lit (aA (aL cC aV rfl rfl (by omega) (by omega) (dP (Int.toNat_natCast _))) ?_));simp only[zz];refine aI rfl ((hrow.ext m.ext).lies eJ aV) ?_;simp only[zz];refine aY m iR rfl ?_;clear m;intro g2 u m;simp only[zz];refine aQ m 0 rfl rfl rfl aV (dH rfl) rfl ?_;clear m;intro u m;simp only[zy,zx,bB,zF,zG,Nat.reduceAdd] at m;refine aD (k9 _ _ ?_);refine aC fun K10 k10=>wp_region_lit (aI rfl ((m.b 0 rfl).full eJ aV) ?_);simp only[zz];refine cW m rfl rfl (Wy) ?_;clear m;intro u m;refine aA (aB) (aD (k10 _ _ ?_));refine wp_block (wp_loop_rounds 4 (dQ (aC fun K11 k11=>wp_region_lit (aA (bT (m:=0) (n:=3) rfl rfl (by decide)) (aD (k11 _ _ ?_))))));refine aC fun K12 k12=>cG rfl (wp_skip (k12 _ _ ?_));refine aC fun K13 k13=>wp_block (aC fun K14 k14=>wp_region_lit (aA (Eg rfl rfl) ?_));simp only[zz];refine aY m lT rfl ?_;clear m;intro g3 u m;simp only[zz];refine aQ m 0 rfl rfl rfl dM (dH rfl) rfl ?_;clear m;intro u m;simp only[zy,zx,bB,zF,zG,Nat.reduceAdd] at m;refine aD (k14 _ _ ?_);refine aC fun K15 k15=>wp_region_lit (aA (aB) ?_);simp only[zz];refine aI rfl ((m.b 0 rfl).full jC dM) ?_;simp only[zz];refine rM m 2 Hj rfl rfl (fun m=>Hw (p:=(t.a,t.b)) m 2 rfl hD8) ?_;clear m;rintro v i u m ⟨rfl,es',c',rfl,hD'⟩;simp only[zF,zG] at m;simp only[zz];rw [← lJ] at hD';clear hD8;have hD8:=hD';clear hD';refine aA (iO rfl) (aD (k15 _ _ ?_));simp only[zz];refine Hu m [5] [] (fun vs=>∃ (b : Bool),vs = [.bool b] ∧ (b = decide (((bH (ts.take k)) ++ [(t.a,t.b)])).Nodup)) ?_ ?_
   ·
    refine fB rfl (fun hc3=>?_) (fun hc3=>?_)
    ·
     refine wp_region_lit (aA (aF) (aD ?_));simp only[zz];simp only[Exit.inBlock,Exit.then];refine ⟨_,rfl,?_,m,?_⟩
     · simp only[zz,zv]
     ·
      simp only[zQ,zR,zD,zE];exact ⟨false,rfl,Nr hc3⟩
    ·
     skip
     refine wp_skip ?_;simp only[Exit.inBlock,Exit.then];refine ⟨_,rfl,?_,m,?_⟩
     · simp only[zz,zv]
     ·
      simp only[zQ,zR,zD,zE];exact ⟨b0,rfl,Hx hb0 hc3⟩
   ·
    intro vs wr m hI u;obtain ⟨b1,rfl,hb1⟩:=hI;simp only[zu,zF,zG];refine k13 _ _ (wp_region_lit (aA (aR (m:=0) (n:=1) (r:=1) rfl rfl (by decide)) (aA (aB) (aD (aU (aC fun K16 k16=>wp_region_lit (aA (bT (m:=1) (n:=3) rfl rfl (by decide)) (aD (k16 _ _ ?_)))))))));refine aC fun K17 k17=>cG rfl (wp_skip (k17 _ _ ?_));refine aC fun K18 k18=>wp_block (aC fun K19 k19=>wp_region_lit (aA (Eh rfl rfl) ?_));simp only[zz];refine aY m lT rfl ?_;clear m;intro g4 u m;simp only[zz];refine aQ m 0 rfl rfl rfl dM (dH rfl) rfl ?_;clear m;intro u m;simp only[zy,zx,bB,zF,zG,Nat.reduceAdd] at m;refine aD (k19 _ _ ?_);refine aC fun K20 k20=>wp_region_lit (aA (aB) ?_);simp only[zz];refine aI rfl ((m.b 0 rfl).full jC dM) ?_;simp only[zz];refine rM m 3 Hj rfl rfl (fun m=>Hw (p:=(t.b,t.c)) m 3 rfl hD8) ?_;clear m;rintro v i u m ⟨rfl,es',c',rfl,hD'⟩;simp only[zF,zG] at m;simp only[zz];rw [← lJ] at hD';clear hD8;have hD8:=hD';clear hD';refine aA (iO rfl) (aD (k20 _ _ ?_));simp only[zz];refine Hu m [5] [] (fun vs=>∃ (b : Bool),vs = [.bool b] ∧ (b = decide ((((bH (ts.take k)) ++ [(t.a,t.b)]) ++ [(t.b,t.c)])).Nodup)) ?_ ?_
    ·
     refine fB rfl (fun hc3=>?_) (fun hc3=>?_)
     ·
      refine wp_region_lit (aA (aF) (aD ?_));simp only[zz];simp only[Exit.inBlock,Exit.then];refine ⟨_,rfl,?_,m,?_⟩
      · simp only[zz,zv]
      ·
       simp only[zQ,zR,zD,zE];exact ⟨false,rfl,Nr hc3⟩
     ·
      skip
      refine wp_skip ?_;simp only[Exit.inBlock,Exit.then];refine ⟨_,rfl,?_,m,?_⟩
      · simp only[zz,zv]
      ·
       simp only[zQ,zR,zD,zE];exact ⟨b1,rfl,Hx hb1 hc3⟩
    ·
     intro vs wr m hI u;obtain ⟨b2,rfl,hb2⟩:=hI;simp only[zu,zF,zG];refine k18 _ _ (wp_region_lit (aA (aR (m:=1) (n:=1) (r:=2) rfl rfl (by decide)) (aA (aB) (aD (aU (aC fun K21 k21=>wp_region_lit (aA (bT (m:=2) (n:=3) rfl rfl (by decide)) (aD (k21 _ _ ?_)))))))));refine aC fun K22 k22=>cG rfl (wp_skip (k22 _ _ ?_));refine aC fun K23 k23=>wp_block (aC fun K24 k24=>wp_region_lit (aA (Ei rfl rfl) ?_));simp only[zz];refine aY m lT rfl ?_;clear m;intro g5 u m;simp only[zz];refine aQ m 0 rfl rfl rfl dM (dH rfl) rfl ?_;clear m;intro u m;simp only[zy,zx,bB,zF,zG,Nat.reduceAdd] at m;refine aD (k24 _ _ ?_);refine aC fun K25 k25=>wp_region_lit (aA (aB) ?_);simp only[zz];refine aI rfl ((m.b 0 rfl).full jC dM) ?_;simp only[zz];refine rM m 4 Hj rfl rfl (fun m=>Hw (p:=(t.c,t.a)) m 4 rfl hD8) ?_;clear m;rintro v i u m ⟨rfl,es',c',rfl,hD'⟩;simp only[zF,zG] at m;simp only[zz];rw [← lJ] at hD';clear hD8;have hD8:=hD';clear hD';refine aA (iO rfl) (aD (k25 _ _ ?_));simp only[zz];refine Hu m [5] [] (fun vs=>∃ (b : Bool),vs = [.bool b] ∧ (b = decide (((((bH (ts.take k)) ++ [(t.a,t.b)]) ++ [(t.b,t.c)]) ++ [(t.c,t.a)])).Nodup)) ?_ ?_
     ·
      refine fB rfl (fun hc3=>?_) (fun hc3=>?_)
      ·
       refine wp_region_lit (aA (aF) (aD ?_));simp only[zz];simp only[Exit.inBlock,Exit.then];refine ⟨_,rfl,?_,m,?_⟩
       · simp only[zz,zv]
       ·
        simp only[zQ,zR,zD,zE];exact ⟨false,rfl,Nr hc3⟩
      ·
       skip
       refine wp_skip ?_;simp only[Exit.inBlock,Exit.then];refine ⟨_,rfl,?_,m,?_⟩
       · simp only[zz,zv]
       ·
        simp only[zQ,zR,zD,zE];exact ⟨b2,rfl,Hx hb2 hc3⟩
     ·
      intro vs wr m hI u;obtain ⟨b3,rfl,hb3⟩:=hI;simp only[zu,zF,zG];refine k23 _ _ (wp_region_lit (aA (aR (m:=2) (n:=1) (r:=3) rfl rfl (by decide)) (aA (aB) (aD (aU (aC fun K26 k26=>wp_region_lit (aA (eG (m:=3) (n:=3) rfl rfl (by decide)) (aD (k26 _ _ ?_)))))))));refine aC fun K27 k27=>iT rfl (wp_exit (k8 _ _ ?_));refine wp_region_lit ?_;simp only[zz];refine aA (aR rfl rfl (aM (by omega) (by omega))) (aA (aB) (aD ?_));simp only[zz];simp only[Exit.inBlock,Exit.then];refine ⟨N - (k + 1),_,?_,rfl,?_,?_⟩
      · omega
      · simp only[zz,zv]
      ·
       simp only[zQ,zR,zD,zE];exact ⟨k + 1,_,_,b3,rfl,(m.sel [false,false,false,false,true]),by rw [oE ht];simpa [List.append_assoc] using hD8,by rw [hb3,oE ht];simp only[List.append_assoc,List.cons_append,List.nil_append],by omega,rfl⟩
  ·
   have hkN : k = N:=by omega
   rw [hkN,show ts.take N = ts from List.take_of_length_le (by rw [hT.len];exact Nat.le_refl _)] at hD8 hb0;refine wp_exit (k4 _ _ ?_);refine aC fun K28 k28=>wp_region_lit (aA (aB) (aA (aB) (aA (aF) (aA (aF) ?_))));simp only[zz];refine aD (k28 _ _ ?_);refine wp_ret ?_;try simp only[Exit.inBlock,Exit.then,if_true]
   refine pS rfl rfl rfl ?_;try simp only[zD,zE]
   exact ⟨_,rfl,m.ext,_,_,_,by rw [hb0],m,hD8⟩
theorem ab3 {E : List E3} {dn : List (E3 × Bool)} {kp : E3} {kb : Bool} (h : (!(cP (fP [] E) (kp.2,kp.1)).getD false) = true) : ((dn ++ [(kp,kb)]).map (·.1)).filter (fun e=>decide ((e.2,e.1) ∉ E)) = (dn.map (·.1)).filter (fun e=>decide ((e.2,e.1) ∉ E)) ++ [kp]:=by
 rw [oL] at h;simp only[List.map_append,List.filter_append,List.map_cons,List.map_nil];rw [List.filter_cons_of_pos (by simpa using h)];rfl
theorem ab4 {E : List E3} {dn : List (E3 × Bool)} {kp : E3} {kb : Bool} (h : (!(cP (fP [] E) (kp.2,kp.1)).getD false) = false) : ((dn ++ [(kp,kb)]).map (·.1)).filter (fun e=>decide ((e.2,e.1) ∉ E)) = (dn.map (·.1)).filter (fun e=>decide ((e.2,e.1) ∉ E)):=by
 rw [oL] at h;simp only[List.map_append,List.filter_append,List.map_cons,List.map_nil];rw [List.filter_cons_of_neg (by simpa using h)];simp
theorem Wz {E : List E3} {dn : List (E3 × Bool)} (h : dn.Perm (fP [] E)) : (∀ a,a ∈ (dn.map (·.1)).filter (fun e=>decide ((e.2,e.1) ∉ E)) ↔ a ∈ E ∧ (a.2,a.1) ∉ E) ∧ ((dn.map (·.1)).filter (fun e=>decide ((e.2,e.1) ∉ E))).length ≤ E.length:=by
 refine ⟨fun a=>?_,?_⟩
 ·
  rw [List.mem_filter,(h.map (·.1)).mem_iff,tC];simp
 ·
  refine Nat.le_trans (List.length_filter_le _ _) ?_;have:=tD E [];rw [List.length_map,h.length_eq];simpa using this
theorem Sg {g c : Nat} {es : Array MapEntry} {E : List E3} (w : World) (hM : jN w g es c) (hD : bZ ed Value.bool (fP [] E) es c) : eE prog 104 [.map (some g)] w (fun v w'=>∃ g es c ks,v = .map (some g) ∧ bS w w' [mI g es c] ∧ bZ ed Value.bool (fP [] ks) es c ∧ (∀ a,a ∈ ks ↔ a ∈ E ∧ (a.2,a.1) ∉ E) ∧ ks.length ≤ E.length):=by
 refine ⟨abj,?_⟩;have m:=bS.refl w
 go_enter func104,ntmps104
 refine aC fun K1 k1=>wp_region_lit (aA (aF) (aD (k1 _ _ ?_)));refine aC fun K2 k2=>wp_region_lit ?_;simp only[zz];refine jL m ?_;clear m;intro q8 u m;have hD8:=bZ.nil (K:=E3) (V:=Bool) ed Value.bool;refine aA (aF) (aD (k2 _ _ ?_));refine aC fun K3 k3=>aC fun K4 k4=>wp_region_lit (aA (aB) ?_);simp only[zz];refine vN m underlying136 rfl (hM.ext m.ext) ?_;clear m;intro r1 u m;refine aD (k4 _ _ ?_);refine wp_block ?_;simp only[zz];try simp only[Nat.zero_add,Nat.reduceAdd,Nat.reduceMul,Int.reduceToNat]
 refine bN [] [4,8,9,10,11,12,13,14,15,16,17,18,19] (fun n vs wl=>∃ (dn rs : List (E3 × Bool)) (sn : Array Nat) (es2 : Array MapEntry) (c2 : Nat),vs = [] ∧ bS w wl [iI r1 g c sn,mI q8 es2 c2] ∧ (bZ ed Value.bool (fP [] ((dn.map (·.1)).filter (fun e=>decide ((e.2,e.1) ∉ E)))) es2 c2) ∧ (lB ed Value.bool (fP [] E) es sn dn rs) ∧ (n = rs.length)) ?_ ?_
 ·
  apply Exists.intro;simp only[zQ,zR,zD,zE];exact ⟨[],fP [] E,#[],_,_,trivial,m,hD8,lB.start hD,rfl⟩
 ·
  intro n vs wr hI u;clear m;obtain ⟨dn,rs,sn,es2,c2,rfl,m,hD8,hT,hn⟩:=hI;simp only[zu,zF,zG];refine aC fun K5 k5=>wp_region_lit (Cg m 0 rfl rfl (hM.ext m.ext) hD hT ?_);clear m;intro bb kk vv sn u m hN;simp only[zF,zG] at m;refine aA (rK rfl) (aD (k5 _ _ ?_));refine aC fun K6 k6=>?_;simp only[zz];refine fB rfl (fun hc1=>?_) (fun hc1=>?_)
  ·
   obtain ⟨kp,kb,rs2,hp,hT2⟩:=Cj hc1 hN;refine wp_skip (k6 _ _ ?_);refine wp_block (aC fun K7 k7=>wp_region_lit (eL (rL rfl (m.r 0 rfl) (hM.ext m.ext) hD hT2) ?_));simp only[zz];refine aA (bL rfl rfl) ?_;simp only[zz];refine aY m lT rfl ?_;clear m;intro g3 u m;simp only[zz];refine aQ m 0 rfl rfl rfl dM (dH rfl) rfl ?_;clear m;intro u m;simp only[zy,zx,bB,zF,zG,Nat.reduceAdd] at m;refine aD (k7 _ _ ?_);refine aC fun K8 k8=>wp_region_lit (aA (aB) ?_);simp only[zz];refine aI rfl ((m.b 0 rfl).full jC dM) ?_;simp only[zz];refine cW m rfl rfl (ab2) ?_;clear m;intro u m;simp only[zz];refine eL (eB (ek:=ed) (en:=Value.bool) (k:=(kp.2,kp.1)) (v0:=false) underlying136 lA tG rfl rfl (hM.ext m.ext) hD) ?_;simp only[zz];refine aA (iO rfl) (aD (k8 _ _ ?_));simp only[zz];refine fB rfl (fun hc2=>?_) (fun hc2=>?_)
   ·
    refine wp_region_lit (aA (aB) ?_);simp only[zz];refine aI rfl ((m.b 0 rfl).full jC dM) ?_;simp only[zz];refine rM m 2 Hj rfl rfl (fun m=>Hw (p:=kp) m 2 rfl hD8) ?_;clear m;rintro v i u m ⟨rfl,es',c',rfl,hD'⟩;simp only[zF,zG] at m;simp only[zz];rw [← lJ] at hD';clear hD8;have hD8:=hD';clear hD';refine aD ?_;simp only[Exit.inBlock,Exit.then];refine ⟨rs2.length,_,?_,rfl,?_,?_⟩
    · rw [hn,hp.length_eq];exact Nat.lt_succ_self _
    · simp only[zz,zv]
    ·
     simp only[zQ,zR,zD,zE];exact ⟨dn ++ [(kp,kb)],rs2,_,_,_,trivial,(m.sel [false,true,true]),by rw [ab3 hc2];exact hD8,hT2,rfl⟩
   ·
    refine wp_skip ?_;simp only[Exit.inBlock,Exit.then];refine ⟨rs2.length,_,?_,rfl,?_,?_⟩
    · rw [hn,hp.length_eq];exact Nat.lt_succ_self _
    · simp only[zz,zv]
    ·
     simp only[zQ,zR,zD,zE];exact ⟨dn ++ [(kp,kb)],rs2,_,_,_,trivial,(m.sel [false,true,true]),by rw [ab4 hc2];exact hD8,hT2,rfl⟩
  ·
   obtain rfl:=Ci hc1 hN;refine wp_exit (k3 _ _ ?_);refine aC fun K9 k9=>wp_region_lit (aA (aB) (aA (aF) (aD (k9 _ _ ?_))));refine wp_ret ?_;simp only[zz];try simp only[Exit.inBlock,Exit.then,if_true]
   refine bP rfl rfl ?_;try simp only[zD,zE]
   exact ⟨_,rfl,m.ext,_,_,_,_,rfl,m.sel [false,true],hD8,Wz hT.done⟩
theorem Sh {ts : List T3} {ks ps : List E3} (hk : ∀ a,a ∈ ks ↔ a ∈ bH ts ∧ (a.2,a.1) ∉ bH ts) (hp : ps.Perm ((fP [] ks).map (·.1))) (hs : ps.Pairwise fun a b=>¬ xJ b a) : ps = aS ts:=by
 refine Ki ?_ (uW ts) fun a=>?_
 ·
  have hn : ps.Nodup:=hp.nodup_iff.2 (mK _ _ .nil);refine List.Pairwise.imp₂ (fun a b (h : ¬ xJ b a) (k : a ≠ b)=>?_) hs hn;rcases xJ.tri a b with h1 | h1 | h1
  · exact h1
  · exact absurd h1 k
  · exact absurd h1 h
 ·
  rw [hp.mem_iff,tC,rO,hk];simp
theorem Gb {ts : List T3} {N cap : Nat} {A : Option Addr} (w : World) (hT : dZ w A N ts) (hN : N ≤ 10000000) : eE prog 66 [.slice A N cap] w (SL 57 6 ((aS ts).flatMap bV) (aS ts).length w):=by
 refine ⟨adu,?_⟩;have m:=bS.refl w;have htl:=hT.len;have hel:=mF ts
 go_enter func66,ntmps66
 refine aC fun K1 k1=>wp_region_lit (aA (aF) (aD (k1 _ _ ?_)));refine aC fun K2 k2=>wp_region_lit (aA (aB) ?_);simp only[zz];refine bE rfl rfl (Da _ (hT.ext m.ext) (by omega)) ?_;rintro v u e ⟨g8,es8,c8,rfl,hM,hD8⟩;replace m:=m.plus hM;clear hM e;simp only[List.cons_append,List.nil_append] at m;refine aA (aB) (aA (bL rfl rfl) (aA (bL rfl rfl) ?_));simp only[zz];refine aA (aF) (aA (aF) (aD (k2 _ _ ?_)));refine aC fun K3 k3=>wp_region_lit (aA (aF) ?_);replace m:=m.nilO 57 6;refine aD (k3 _ _ ?_);refine aC fun K4 k4=>aC fun K5 k5=>wp_region_lit (aA (aB) ?_);simp only[zz];refine bE rfl rfl (Sg _ (m.p 1 rfl) hD8) ?_;rintro v u e ⟨g9,es9,c9,ks,rfl,hM,hD9,hks,hkl⟩;replace m:=m.plus hM;clear hM e;simp only[List.cons_append,List.nil_append] at m;simp only[zz];refine bE rfl rfl (Sf _ (m.p 0 rfl) hD9 (by have h1:=tD ks [];simp only[List.length_nil] at h1;omega)) ?_;rintro v u e ⟨A5,n5,cap5,_,rfl,hN,ps,rfl,hps,hso⟩;replace m:=m.newO e hN;clear e hN;obtain rfl:=Sh hks hps hso;obtain rfl : (aS ts).length = n5:=(m.o 0 rfl).num tY (by decide);have hle5:=(m.o 0 rfl).le;have hbl : (aS ts).length ≤ (bH ts).length:=by have:=sV (all:=bH ts) (bH ts) [];simpa [aS] using this
 refine aA (bC rfl underlying139 rfl) (aA (aB) (aD (k5 _ _ ?_)));refine wp_block ?_;simp only[zz];try simp only[Nat.zero_add,Nat.reduceAdd,Nat.reduceMul,Int.reduceToNat]
 refine bN [5,17] [7,18,19,20,21,22,23,24,25,26,27,28,29] (fun n vs wl=>∃ (k : Nat) (A6 : Option Addr) (cap6 : Nat),vs = [.slice A6 k cap6,.int .i64 (k:Int)] ∧ bS w wl [oI 143 6 A5 (aS ts).length cap5 ((aS ts).flatMap bV),oI 57 6 A6 k cap6 (((aS ts).take k).flatMap bV)] ∧ (k ≤ (aS ts).length) ∧ (n = (aS ts).length - k)) ?_ ?_
 ·
  apply Exists.intro;simp only[zQ,zR,zD,zE];exact ⟨0,_,_,rfl,(m.sel [true,false,true,false]),Nat.zero_le _,rfl⟩
 ·
  intro n vs wr hI u;clear m;obtain ⟨k,A6,cap6,rfl,m,hk,hn⟩:=hI;simp only[zu,zF,zG];refine aC fun K6 k6=>wp_region_lit (aA (cS rfl rfl) (aD (k6 _ _ ?_)));refine aC fun K7 k7=>?_;simp only[zz];refine cD rfl (fun hc1=>?_) (fun hc1=>?_)
  ·
   obtain ⟨e,he⟩ : ∃ e,(aS ts)[k]? = some e:=⟨_,List.getElem?_eq_getElem (by omega)⟩
   obtain ⟨gO,rfl⟩:=(m.o 0 rfl).some (by omega);refine wp_skip (k7 _ _ ?_);refine aC fun K8 k8=>wp_block (aC fun K9 k9=>wp_region_lit (aA (aL underlying139 dM rfl rfl (by omega) (by omega) (dP (Int.toNat_natCast _))) ?_));simp only[zz];refine aI rfl (((m.o 0 rfl).at tY he).lies jC dM) ?_;simp only[zz];refine aY m lT rfl ?_;clear m;intro g1 u m;simp only[zz];refine aQ m 0 rfl rfl rfl dM (dH rfl) rfl ?_;clear m;intro u m;simp only[zy,zx,bB,zF,zG,Nat.reduceAdd] at m;refine aD (k9 _ _ ?_);refine wp_region_lit (aA (aB) (aA (aJ (c:=2) iX rfl aG rfl rfl) ?_));simp only[zz];refine aI rfl ((m.b 0 rfl).lies aK aG rfl rfl) ?_;simp only[zz,zy,Nat.zero_add,Nat.reduceAdd,Nat.reduceMul,Int.reduceToNat];refine aA (aJ (c:=2) iX rfl aG rfl rfl) ?_;simp only[zz];refine aI rfl ((m.b 0 rfl).lies aK aG rfl rfl) ?_;simp only[zz,zy,Nat.zero_add,Nat.reduceAdd,Nat.reduceMul,Int.reduceToNat];refine aA (cA rfl rfl) ?_;simp only[zz];refine xS rfl ?_;intro u g2 e hg hB;replace m:=m.newB e hg hB;clear e hg hB;simp only[zz];refine eC m 3 rfl rfl gB sZ rfl (by decide) rfl rfl rfl (m.b 0 rfl).rowsO (sA rfl) (by omega) (by omega) ?_;clear m;intro A6 cap6 u m;simp only[zF,zG] at m;refine aA (aF) (aD (k8 _ _ ?_));refine wp_region_lit ?_;simp only[zz];refine aA (aR rfl rfl (aM (by omega) (by omega))) (aA (aB) (aD ?_));simp only[zz];simp only[Exit.inBlock,Exit.then];refine ⟨(aS ts).length - (k + 1),_,?_,rfl,?_,?_⟩
   · omega
   · simp only[zz,zv]
   ·
    simp only[zQ,zR,zD,zE];exact ⟨k + 1,_,_,rfl,((m.reO 3 rfl ((m.o 3 rfl).as (by rw [eR he,List.flatMap_append];rfl))).sel [false,false,true,true]),by omega,rfl⟩
  ·
   obtain rfl : k = (aS ts).length:=by omega
   rw [List.take_length] at m;refine wp_exit (k4 _ _ ?_);refine aC fun K10 k10=>wp_region_lit (aA (aB) (aA (aF) (aD (k10 _ _ ?_))));refine wp_ret ?_;simp only[zz];try simp only[Exit.inBlock,Exit.then,if_true]
   refine bP rfl rfl ?_;try simp only[zD,zE]
   exact ⟨_,rfl,m.ext,⟨_,_,_,rfl,rfl,(m.o 1 rfl)⟩⟩
end Go.Proofs.YtfohfflkhpfjeaaGreatDoor
namespace Go.Lith
open Go.RowKit Go.ChangeMaps Go.MapKept
def aai {K V : Type} [DecidableEq K] (ek : K → Value) (en : V → Value) (D : List (K × V)) (k : K) (es : Array MapEntry) (c b : Nat) : Prop :=
 ∀ u,∃ p,es.findIdx? (fun e=>(e.born : Int) == (b : Int)) = some p ∧ bZ ek en (fT D k u) (es.modify p fun e=>{ e with val:=en u }) c
section
variable {K V : Type} [DecidableEq K] {P : Program} {T M E ty : TypeId} {ek : K → Value} {en : V → Value} {w w0 : World} {g c : Nat} {es : Array MapEntry} {D : List (K × V)}
theorem ab5 {α : Type} {l : List α} {p : Nat} {x : α} (h : l[p]? = some x) : l.set p x = l:=by
 apply List.ext_getElem?;intro j;rw [List.getElem?_set];split
 · rename_i e;subst e;rw [if_pos (List.getElem?_eq_some_iff.1 h).1,h]
 · rfl
theorem Lc {b p : Nat} (hn : (es.toList.map (·.born)).Nodup) {e : MapEntry} (he : es[p]? = some e) (hb : e.born = b) : es.findIdx? (fun e=>(e.born : Int) == (b : Int)) = some p:=by
 rw [Array.findIdx?_eq_some_iff_getElem];have hp:=(Array.getElem?_eq_some_iff.1 he).1;have hx:=(Array.getElem?_eq_some_iff.1 he).2;refine ⟨hp,by rw [hx,hb];simp,fun j hj=>?_⟩;have hj' : j < es.size:=by omega
 simp only[Bool.not_eq_true,beq_eq_false_iff_ne,ne_eq,Int.natCast_inj];intro hh;have h1 : (es.toList.map (·.born))[j]'(by simpa using hj') = (es.toList.map (·.born))[p]'(by simpa using hp):=by
  simp only[List.getElem_map,Array.getElem_toList];rw [hh,hx,hb]
 have:=(List.getElem_inj hn).1 h1;omega
theorem Ns {p : Nat} {e : MapEntry} (he : es[p]? = some e) (k u : Value) (hk : e.key = k) : (es.modify p fun e=>{ e with val:=u }) = es.modify p fun e=>{ e with key:=k,val:=u }:=by
 apply Array.ext_getElem?;intro j;rw [Array.getElem?_modify,Array.getElem?_modify];split
 · rename_i hj;subst hj;rw [he];simp [hk]
 · rfl
theorem aaj (hD : bZ ek en D es c) {p : Nat} {k : K} {v : V} (hp : D[p]? = some (k,v)) : ∃ e,es[p]? = some e ∧ e.key = ek k ∧ e.val = en v:=by
 have h2:=congrArg (fun L=>L[p]?) hD.cells;simp only[List.getElem?_map,hp,Option.map_some] at h2;rw [Array.getElem?_toList] at h2;cases h3 : es[p]? with
 | none=>rw [h3] at h2;cases h2
 | some x =>
  rw [h3] at h2;simp only[Option.map_some,Option.some.injEq,Ru,Prod.mk.injEq] at h2;exact ⟨x,rfl,h2.1,h2.2⟩
theorem El {v0 : V} (hu : P.underlying M = some (.map T E)) (hz : lL P E (en v0)) (kt : pJ P T ek) (hM : jN w g es c) (hD : bZ ek en D es c) (k : K) :
 ∃ es' c' b,(Instr.mapEntry M (.map (some g)) (ek k)).run P w = .ok (.tuple #[en ((cP D k).getD v0),.int .i64 (b : Nat)]) (setBlock w g (.map es' c')) ∧ bZ ek en (fT D k ((cP D k).getD v0)) es' c' ∧ aai ek en D k es' c' b:=by
 unfold jN at hM;cases hf : lZ D k 0 with
 | none =>
  obtain ⟨h0,h1,_⟩:=mH D k 0 hf;obtain ⟨inf,hi,hz⟩:=hz;have hzv : (zeroValue E).run P w = .ok (en v0) w:=by simp [zeroValue,typeInfo,program,Sem.run,hi,hz]
  have hP:=hD.push k v0;refine ⟨_,_,c,?_,by rw [h0,h1];exact hP,fun u=>⟨es.size,Lc hP.nd (e:={ key:=ek k,val:=en v0,born:=c }) (by simp) rfl,?_⟩⟩
  · simp only[Instr.mapEntry,Sem.run_bind,run_underlying hu,Result.andThen,getObj,Sem.run,hM,Sem.run_pure,kt.chk,oJ kt k w hD,hf,Option.map_none,hzv,run_setObj_map _ hM,h0,Option.getD_none,goInt]
    rfl
  · rw [h1]
    have e : ((es.push { key:=ek k,val:=en v0,born:=c }).modify es.size fun e=>{ e with val:=en u }) = es.push { key:=ek k,val:=en u,born:=c }:=by
     apply Array.ext_getElem?;intro j;rw [Array.getElem?_modify,Array.getElem?_push,Array.getElem?_push];split
     · rename_i hj;subst hj;simp
     · rename_i hj;simp [Ne.symm hj]
    rw [e];exact hD.push k u
 | some p =>
  obtain ⟨j,v⟩:=p;obtain ⟨p,rfl,hp,h0,h1,_⟩:=mJ D k 0 j v hf;rw [Nat.zero_add] at hf;obtain ⟨e,he,hk,hv⟩:=aaj hD hp;have hk' : ((es[p]?).map (·.key)).getD (ek k) = ek k:=by rw [he];simp [hk]
  have hm : (es.modify p fun e=>{ e with key:=ek k }) = es:=by
   apply Array.ext_getElem?;intro j;rw [Array.getElem?_modify];split
   · rename_i hj;subst hj;rw [he];simp [← hk]
   · rfl
  refine ⟨es,c,e.born,?_,by rw [h0,Option.getD_some,h1,ab5 hp];exact hD,fun u=>⟨p,Lc hD.nd he rfl,?_⟩⟩
  · simp only[Instr.mapEntry,Sem.run_bind,run_underlying hu,Result.andThen,getObj,Sem.run,hM,Sem.run_pure,kt.chk,oJ kt k w hD,hf,Option.map_some,hk',Instr.keyThatStays,kt.bits,if_true,hm,run_setObj_map _ hM,h0,Option.getD_some,he,hk,kt.bits,if_true,Sem.run_pure,hm,goInt]
    rfl
  · rw [h1,Ns he (ek k) (en u) hk]
    exact hD.set hp u
theorem yZ {b : Nat} {k : K} (hM : jN w g es c) (hS : aai ek en D k es c b) (u : V) :
 ∃ es',(Instr.entryStore M (.map (some g)) (.int .i64 (b : Nat)) (en u)).run P w = .ok () (setBlock w g (.map es' c)) ∧ bZ ek en (fT D k u) es' c:=by
 obtain ⟨p,hp,hD⟩:=hS u;unfold jN at hM;refine ⟨_,?_,hD⟩;simp only[Instr.entryStore,Sem.run_bind,Result.andThen,getObj,Sem.run,hM,Sem.run_pure,asInt,asIntOf,hp];exact run_setObj_map _ hM
theorem aak {ds : List Deferred} {l : List Value} {op : Op} {ops : Array Oper} {Q : Exit → Act → World → Prop} {rest : List Oper} {pos : String} {after : Array Edge}
 (h : ∀ o : Oper,o.op = op → ∃ v w',(execOp (Fr l).eval o).run P w = .ok (.value v) w' ∧ wpList P ops Q rest (Fr l ds) w') : wpList P ops Q (Oper.mk none op ty pos after none :: rest) (Fr l ds) w:=by
 refine wpList_plain rfl fun K hK=>?_;unfold Oper.wp;obtain ⟨v,w',hr,hw⟩:=h (Oper.mk none op ty pos after none) rfl;rw [gD,hr];exact hK _ _ hw
variable {is : List It} {ds : List Deferred} {l : List Value} {x y z : Operand} {ops : Array Oper} {Q : Exit → Act → World → Prop} {rest : List Oper} {d : Nat} {pos : String} {after : Array Edge}
theorem yC {v0 : V} {a : K} (m : bS w0 w is) (k : Nat) (hk : is[k]? = some (mI g es c)) (hu : P.underlying M = some (.map T E)) (hz : lL P E (en v0)) (kt : pJ P T ek) (hx : ev l x = .map (some g)) (hy : ev l y = ek a) (hD : bZ ek en D es c)
 (h : ∀ es' c' b u,bS w0 u (is.set k (mI g es' c')) → bZ ek en (fT D a ((cP D a).getD v0)) es' c' → aai ek en D a es' c' b → wpList P ops Q rest (Fr (l.set d (.tuple #[en ((cP D a).getD v0),.int .i64 (b : Nat)])) ds) u) :
 wpList P ops Q (Oper.mk (some d) (.mapEntry M x y) ty pos after none :: rest) (Fr l ds) w:=by
 have hM:=m.p k hk;obtain ⟨es',c',b,hr,hD',hS⟩:=El hu hz kt hM hD a;have hC:=nR (w:=w) (g:=g) (.map es' c');refine jU (w':=setBlock w g (.map es' c')) (fun o ho hty=>by simp [execOp,ho,hty,cR,hx,hy,hr]) (h es' c' b _ ?_ hD' hS);exact m.put k hk hC.os hC.tape hC.output (by rw [hC.size];exact Nat.le_refl _) (fun b _ hne=>hC.block b fun e=>hne (by rw [e];rfl)) (kR hM) (.inl fun _ h=>h)
theorem qQ {v : V} {a : K} {b : Nat} (m : bS w0 w is) (k : Nat) (hk : is[k]? = some (mI g es c)) (hx : ev l x = .map (some g)) (hy : ev l y = .int .i64 (b : Nat)) (hz : ev l z = en v) (hS : aai ek en D a es c b)
 (h : ∀ es' u,bS w0 u (is.set k (mI g es' c)) → bZ ek en (fT D a v) es' c → wpList P ops Q rest (Fr l ds) u) : wpList P ops Q (Oper.mk none (.entryStore M x y z) ty pos after none :: rest) (Fr l ds) w:=by
 have hM:=m.p k hk;obtain ⟨es',hr,hD'⟩:=yZ (P:=P) (M:=M) hM hS v;have hC:=nR (w:=w) (g:=g) (.map es' c);refine zX (w':=setBlock w g (.map es' c)) (fun o ho=>by simp [execOp,ho,cR,hx,hy,hz,hr]) (h es' _ ?_ hD');exact m.put k hk hC.os hC.tape hC.output (by rw [hC.size];exact Nat.le_refl _) (fun b _ hne=>hC.block b fun e=>hne (by rw [e];rfl)) (kR hM) (.inl fun _ h=>h)
theorem Db {a : K} {T2 : TypeId} (m : bS w0 w is) (k : Nat) (hk : is[k]? = some (mI g es c)) (hu : P.underlying M = some (.map T E)) (kt : pJ P T ek) (hx : ev l x = .map (some g)) (hy : ev l y = ek a) (hD : bZ ek en D es c) {a0 : Array TypeId} (ha : a0 = #[M,T2])
 (h : ∀ es' c' u,bS w0 u (is.set k (mI g es' c')) → bZ ek en (oH D a) es' c' → wpList P ops Q rest (Fr l ds) u) : wpList P ops Q (Oper.mk none (.call { callee:=.builtin .delete,args:=#[x,y],argTypes:=a0 }) ty pos after none :: rest) (Fr l ds) w:=by
 subst ha;have hM:=m.p k hk;have hC:=fun es' c'=>nR (w:=w) (g:=g) (.map es' c');refine aak fun o ho=>?_;obtain ⟨es',c',hr,hD'⟩:=Kc (T2:=T2) (ty:=o.type) hu kt hM hD a;exact ⟨.tuple #[],setBlock w g (.map es' c'),by simp [execOp,ho,resolve,invoke,builtin,cR,hx,hy,hr],h es' c' _ (m.put k hk (hC es' c').os (hC es' c').tape (hC es' c').output (by rw [(hC es' c').size];exact Nat.le_refl _) (fun b _ hne=>(hC es' c').block b fun e=>hne (by rw [e];rfl)) (kR hM) (.inl fun _ h=>h)) hD'⟩
end
end Go.Lith
