/-
 Texts of one claim, laid together: K35, Join.
-/
import Derived.OpenVars
import Derived.OpenShut
import Derived.WalkKit
import Derived.ProofKit
import Derived.Test.YtfekpcimgncioaaGreatDoorCW8
set_option maxHeartbeats 8000000
set_option linter.unusedSimpArgs false
set_option linter.unusedVariables false
set_option linter.unusedSectionVars false
namespace Go.Proofs.YtfekpcimgncioaaGreatDoor
open Go.Proofs.Tryz
open Go.RowKit Go.Lith
set_option maxRecDepth 100000
attribute [local irreducible] wpList wpQuiet dB bL cE Code.wp
theorem kL {us : List T3} : ∀ t ∈ us.map Qt,IT t:=fun t ht=>by
 obtain ⟨u,_,rfl⟩:=List.mem_map.1 ht;exact inferInstance
theorem Xq {l : List T3} {want : Int} (h : eV true l = 0 → (l.length : Int) ≤ want) : qN l want = (cX l,[]):=by
 unfold qN;split
 · rfl
 · rename_i k
   rw [Qn (by rw [oU];exact h (Qr.1 (Classical.not_not.1 k)))];rfl
theorem aiA {l : List T3} {p q : P3} (h : ¬ eV true l = 0) : Ic l p q = false:=by rw [Ic,decide_eq_false h,Bool.and_false,Bool.false_and]
theorem afr {w : World} {a : Addr} {N : Nat} {l : List T3} {t : T3} (h : bY w (some a) N l) (ht : l[0]? = some t) : mP w a (aW t):=by
 have:=h.lat.at ht;rw [Nat.zero_mul] at this;exact this
theorem Ep {us : List T3} {N cap : Nat} {A : Option Addr} {b : Int} (w : World) (hT : bY w A N us) (hb : 0 ≤ b ∧ b < 256) : eG prog 11 [.slice A N cap,.int .u8 b] w (fun v _=>v = .bool true):=by
 refine ⟨aiQ,?_⟩;have m:=Mem.refl w;have htl:=hT.len
 go_enter func11,ntmps11
 refine aD fun K1 k1=>wp_region_lit (aA (aG) (aF (k1 _ _ ?_)));try clear k1 K1
 refine aD fun K2 k2=>wp_region_lit ?_;simp only[zz];refine dH m rfl rfl (adq) ?_;clear m;intro u m;refine aA (aG) (aF (k2 _ _ ?_));try clear k2 K2
 refine aD fun K3 k3=>wp_region_lit (aA (aG) ?_);replace m:=m.nilO 39 9;refine aF (k3 _ _ ?_);try clear k3 K3
 refine aD fun K4 k4=>aD fun K5 k5=>wp_region_lit (aA (aG) ?_);simp only[zz];refine aF (k5 _ _ ?_);try clear k5 K5
 refine wp_block ?_;try simp only[Nat.zero_add,Nat.reduceAdd,Nat.reduceMul,Int.reduceToNat]
 refine bT [6,7] [13,14,15,16,17,18,19,20,21,22,23,24,25,26,27,28,29,30] (fun n vs wl=>∃ (k : Nat) (A6 : Option Addr) (cap6 : Nat),vs = [.slice A6 k cap6,.int .i64 (k:Int)] ∧ Mem w wl [oI 39 9 A6 k cap6 (((us.take k).map Qt).flatMap aW)] ∧ (k ≤ N ∧ k ≤ 20) ∧ (n = N - k)) ?_ ?_
 · skip
   apply Exists.intro;simp only[zQ,zR,zD,zE];exact ⟨0,_,_,rfl,m,⟨Nat.zero_le _,Nat.zero_le _⟩,rfl⟩
 · intro n vs wr hI u
   clear m;obtain ⟨k,A6,cap6,rfl,m,hk,hn⟩:=hI;simp only[zu,zF,zG];refine aD fun K6 k6=>aD fun K7 k7=>wp_region_lit (aA (aB) (aA (aB) (aA (bH rfl underlying35 rfl) (aA (cW rfl rfl) ?_))));simp only[zz];refine aA (aB) (jF rfl (fun hb=>aB) (jF rfl (fun hb=>cW (bW hb rfl) rfl) (aA (eS rfl rfl rfl) ?_)));simp only[zz];refine aF (k7 _ _ ?_);try clear k7 K7
   refine eD rfl (fun hc1=>?_) (fun hc1=>?_)
   · skip
     have hk2 : k < N ∧ k < 20:=by simp only[Bool.and_eq_true,decide_eq_true_eq] at hc1;omega
     obtain ⟨t,ht,hit,a,hA,hrow⟩:=hT.get (i:=k) (by omega);subst hA;refine wp_skip (k6 _ _ ?_);try clear k6 K6
     refine aD fun K8 k8=>wp_block (wp_region_lit (aA (aB) (aA (aB) (aA (aB) ?_))));simp only[zz];refine aA (aN underlying35 Pe rfl rfl (by omega) (by omega) (dC (Int.toNat_natCast _))) ?_;simp only[zz];refine aJ rfl (show hG _ _ _ _ (tr t) from (hrow.ext m.ext).lies ahd Pe) ?_;simp only[zz];refine dH m rfl rfl (ahx (t:=t)) ?_;clear m;intro u m;simp only[zz];refine eT rfl ?_;intro u g1 e hg hB;replace m:=m.newB e hg hB;clear e hg hB;simp only[zz];refine dD m 1 rfl rfl bQ iK rfl (by decide) rfl rfl rfl (m.b 0 rfl).rowsO (jZ rfl) (by omega) (by omega) ?_;clear m;intro A6 cap6 u m;simp only[zF,zG] at m;rw [show ((us.take k).map Qt).flatMap aW ++ _ = ((us.take (k + 1)).map Qt).flatMap aW by rw [cQ ht,List.map_append,List.flatMap_append];rfl] at m;refine aA (aG) (aF (k8 _ _ ?_));try clear k8 K8
     refine wp_region_lit (aA (aB) ?_);simp only[zz];refine aA (aU rfl rfl (aV (by omega) (by omega))) (aA (aG) (aF ?_));simp only[zz];simp only[Exit.inBlock,Exit.then];refine ⟨N - (k + 1),_,?_,rfl,?_,?_⟩
     · omega
     · simp only[zz,zv]
     · simp only[zQ,zR,zD,zE]
       exact ⟨k + 1,_,_,rfl,(m.sel [false,true]),by omega,rfl⟩
   · skip
     have hkl : ((us.take k).map Qt).length = k:=by rw [List.length_map,List.length_take];omega
     refine wp_exit (k4 _ _ ?_);try clear k4 K4
     refine aD fun K9 k9=>wp_region_lit (aA (aB) (aA (eU gB rX rfl (aV (by omega) (by omega))) (aA (aG) (aF (k9 _ _ ?_)))));try clear k9 K9
     refine aD fun K10 k10=>aD fun K11 k11=>wp_region_lit (aA (aB) ?_);simp only[zz];refine eE m rfl rfl (sY _ ((m.o 0 rfl).tris kL) (by omega)) ?_;clear m;rintro v u m rfl;refine aA (tY rfl rfl) (aF (k11 _ _ ?_));try clear k11 K11
     simp only[zz];refine cG rfl (fun hc2=>?_) (fun hc2=>?_)
     · skip
       refine wp_region_lit (aA (aB) (aA (bH rfl bQ rfl) (aA (aB) ?_)));simp only[zz];refine aA (aU rfl rfl (aV (by omega) (by omega))) (aA (aG) (aF (k10 _ _ ?_)));try clear k10 K10
       refine aD fun K12 k12=>wp_region_lit (aA (aB) (aA (aB) ?_));simp only[zz];refine cD rfl rfl (yM (ts:=((us.take k).map Qt)) _ ((m.o 0 rfl).tris kL) (by omega) (by omega)) ?_;rintro v u e ⟨A7,n7,c7,A8,n8,c8,rfl,hn7,hn8,hM⟩;replace m:=m.plus hM;clear hM e;simp only[List.cons_append,List.nil_append] at m;rw [Xq (by omega)] at hn7 hn8 m;obtain rfl : k = n7:=by rw [hn7,oU];omega
       obtain rfl : n8 = 0:=hn8;refine aA (aB) (aA (bC rfl rfl) (aA (bC rfl rfl) ?_));simp only[zz];refine aA (aG) (aA (aG) (aF (k12 _ _ ?_)));try clear k12 K12
       refine aD fun K13 k13=>?_;simp only[zz];refine mh m [true,true,true] [(0,true),(1,false),(2,true),(3,true),(4,true),(5,true),(6,true),(7,true),(8,true),(9,true),(10,true),(11,true),(12,true),(14,true),(15,true),(16,true),(13,true),(17,true),(18,false),(19,true),(20,true),(21,true)] aM (by kernel_rfl) (cN (fun _ _ _ _ _ h=>h)) (ol:=?_) ?hol ?_
       case hol=>simp only[zw,zQ,zR];try rfl
       clear m;intro u m;refine aS (aB) (cJ ?_);simp only[zz];refine eE m rfl rfl (sY _ ((m.o 2 rfl).tris kL) (by omega)) ?_;clear m;rintro v u m rfl;refine aF (⟨m,?_⟩);refine aS (qQ rfl rfl (hc2)) (aS (aB) (jY rfl ?_));simp only[zz];refine jY rfl (jY rfl (aS (eK rfl) (aS (aB) ?_)));simp only[zz];refine jY rfl (jY rfl (jY rfl (jY rfl ?_)));simp only[zz];refine jY rfl (jY rfl (jY rfl (jY rfl ?_)));simp only[zz];refine jY rfl (cJ (jV rfl (aF ?_)));refine ⟨m,?_⟩;refine jY rfl (aS (eK rfl) ?_);simp only[zz];refine aS (aG) (aY (k13 _ _ ?_));try clear k13 K13
       refine aD fun K14 k14=>wp_region_lit (aA (aB) (aA (aB) (bM rfl (aA (aB) ?_))));simp only[zz];refine aA (eK rfl) (aA (aB) (bM rfl (aA (aB) (bM rfl (aA (bH rfl xB rfl) ?_)))));simp only[zz];refine bM rfl (aA (qQ rfl rfl (rfl)) (aA (eK rfl) (aA (aB) (bM rfl (aA (aB) ?_)))));simp only[zz];refine bM rfl (aA (aB) (bM rfl ?_));simp only[zz];refine cD rfl rfl (Hj (ts:=((us.take k).map Qt)) _ ((m.o 2 rfl).tris kL) (by omega)) ?_;rintro v u e ⟨A12,cap12,n12,hn12,rfl,hN⟩;replace m:=m.newO e hN;clear e hN;refine bM rfl ?_;simp only[zz];refine eE m rfl rfl (tI (Wp (xs:=cX ((us.take k).map Qt)) (ys:=cX ((us.take k).map Qt)) _ ((m.o 2 rfl).tris (pW kL)) ((m.o 0 rfl).tris (pW kL)) (by omega)) (by rw [decide_eq_true rfl])) ?_;clear m;rintro v u m rfl;refine aA (eK rfl) (aA (aG) (aF (k14 _ _ ?_)));try clear k14 K14
       refine wp_ret ?_;simp only[zz];try simp only[Exit.inBlock,Exit.then,if_true]
       refine bE rfl rfl ?_;try simp only[zD,zE]
       exact ⟨_,rfl,m.ext,rfl⟩
     · skip
       have hk0 : ¬ k = 0:=fun h=>hc2 (by subst h;rfl);obtain ⟨t0,ht0⟩ : ∃ t0,((us.take k).map Qt)[0]? = some t0:=⟨_,List.getElem?_eq_getElem (by omega)⟩
       obtain ⟨g6,rfl⟩:=(m.o 0 rfl).some (by omega);refine wp_skip (k10 _ _ ?_);try clear k10 K10
       refine aD fun K15 k15=>wp_region_lit (aA (aB) (aA (aB) ?_));simp only[zz];refine cD rfl rfl (yM (ts:=((us.take k).map Qt)) _ ((m.o 0 rfl).tris kL) (by omega) (by omega)) ?_;rintro v u e ⟨A7,n7,c7,A8,n8,c8,rfl,hn7,hn8,hM⟩;replace m:=m.plus hM;clear hM e;simp only[List.cons_append,List.nil_append] at m;rw [Xq (by omega)] at hn7 hn8 m;obtain rfl : k = n7:=by rw [hn7,oU];omega
       obtain rfl : n8 = 0:=hn8;refine aA (aB) (aA (bC rfl rfl) (aA (bC rfl rfl) ?_));simp only[zz];refine aA (aG) (aA (aG) (aF (k15 _ _ ?_)));try clear k15 K15
       refine aD fun K16 k16=>?_;simp only[zz];refine mh m [true,true,true] [(0,true),(1,false),(2,true),(3,true),(4,true),(5,true),(6,true),(7,true),(8,true),(9,true),(10,true),(11,true),(12,true),(14,true),(15,true),(16,true),(13,true),(17,true),(18,false),(19,true),(20,true),(21,true)] aM (by kernel_rfl) (cN (fun _ _ _ _ _ h=>h)) (ol:=?_) ?hol ?_
       case hol=>simp only[zw,zQ,zR];try rfl
       clear m;intro u m;refine aS (aB) (cJ ?_);simp only[zz];refine eE m rfl rfl (sY _ ((m.o 2 rfl).tris kL) (by omega)) ?_;clear m;rintro v u m rfl;refine aF (⟨m,?_⟩);refine aS (By rfl rfl (hc2)) (aS (aB) (iH rfl (aS (aB) ?_)));simp only[zz];refine iH rfl (aS (bH rfl bQ rfl) (iH rfl (aS (By rfl rfl (by omega)) (aS (iB rfl) (aS (aB) ?_)))));simp only[zz];refine iH rfl (aS (aB) (iH rfl (aS (aB) (iH rfl ?_))));simp only[zz];refine aS (aN bQ aR rfl rfl (by decide) (by omega) rfl) (iH rfl (aS (aH bD aC rfl rfl (by decide) (by decide) rfl) (iH rfl (aS (aB) (iH rfl ?_)))));simp only[zz];refine aS (aN bQ aR rfl rfl (by decide) (by omega) rfl) (iH rfl (aS (aH bD aC rfl rfl (by decide) (by decide) rfl) (iH rfl ?_)));simp only[zz];refine cI rfl (fun u m=>(show hG _ _ _ _ (pt t0.a) from ((afr ((m.o 2 rfl).tris kL) ht0).take 3).lies aI aC)) ?_;simp only[zz];refine iH rfl (cI rfl (fun u m=>(show hG _ _ _ _ (pt t0.b) from ((((afr ((m.o 2 rfl).tris kL) ht0)).sub 3).take 3).lies aI aC)) ?_);simp only[zz];refine cJ (bM rfl (eE m rfl rfl ((haveI:=(kL t0 (List.mem_of_getElem? ht0)).a;haveI:=(kL t0 (List.mem_of_getElem? ht0)).b;tI (wH (ts:=((us.take k).map Qt)) (p:=t0.a) (q:=t0.b) _ ((m.o 2 rfl).tris kL) (by omega)) (by rw [aiA hc2]))) ?_));clear m;rintro v u m rfl;refine aF (⟨m,?_⟩);refine iH rfl (aS (fR rfl) (aS (iB rfl) (aS (aG) ?_)));simp only[zz];refine aY (k16 _ _ ?_);try clear k16 K16
       refine aD fun K17 k17=>wp_region_lit (aA (aB) (aA (aB) (bM rfl (aA (aB) (aA (eK rfl) ?_)))));simp only[zz];refine aA (aB) (bM rfl (aA (aB) (bM rfl (aA (bH rfl xB rfl) (bM rfl (aA (qQ rfl rfl (rfl)) ?_))))));simp only[zz];refine aA (eK rfl) (aA (aB) (bM rfl (aA (aB) (bM rfl (aA (aB) ?_)))));simp only[zz];refine bM rfl (cD rfl rfl (Hj (ts:=((us.take k).map Qt)) _ ((m.o 2 rfl).tris kL) (by omega)) ?_);rintro v u e ⟨A12,cap12,n12,hn12,rfl,hN⟩;replace m:=m.newO e hN;clear e hN;refine bM rfl ?_;simp only[zz];refine eE m rfl rfl (tI (Wp (xs:=cX ((us.take k).map Qt)) (ys:=cX ((us.take k).map Qt)) _ ((m.o 2 rfl).tris (pW kL)) ((m.o 0 rfl).tris (pW kL)) (by omega)) (by rw [decide_eq_true rfl])) ?_;clear m;rintro v u m rfl;refine aA (eK rfl) (aA (aG) (aF (k17 _ _ ?_)));try clear k17 K17
       refine wp_ret ?_;simp only[zz];try simp only[Exit.inBlock,Exit.then,if_true]
       refine bE rfl rfl ?_;try simp only[zD,zE]
       exact ⟨_,rfl,m.ext,rfl⟩
end Go.Proofs.YtfekpcimgncioaaGreatDoor
namespace Go.Lith
open Go.RowKit Go.ChangeShapes
variable {H : Type} {enc : TypeId × Value → H} {P : Program}
theorem Ej (hl : laidOutB P = true) {W W' : World} (hb : eB W W') {sp : Nat → Bool} :
 ∀ {ts : List TypeId} {vs : List Value} {ds : List (DataW H)} {ps : List MemPlace},(ts.all fun t=>P.readableRec t && decide (t < P.types.size)) = true → DataW.TrodAll enc P W 0 (fun _=>true) true ts vs ds ps → (∀ p ∈ ps,sp p.block = true) → DataW.TrodAll enc P W' 0 sp true ts vs ds ps
 | [],[],[],_,_,h,_=>h
 | [],[],_ :: _,_,_,h,_=>h.elim
 | [],_ :: _,_,_,_,h,_=>h.elim
 | _ :: _,[],_,_,_,h,_=>h.elim
 | _ :: _,_ :: _,[],_,_,h,_=>h.elim
 | t :: ts,v :: vs,d :: ds,ps,hv,h,hs=>by
  obtain ⟨p,q,⟨n,h1⟩,h2,e⟩:=h;subst e;simp only[List.all_cons,Bool.and_eq_true,decide_eq_true_eq] at hv;have hlt:=DataW.trod_lt n _ _ _ h1;exact ⟨p,q,⟨n,DataW.trod_stays (kids_book hl hv.1.1) (book_sized hv.1.1) (fun h=>by cases h) ⟨hv.1.2,book_self t⟩ h1 (fun x hx=>Below.same hb (hlt x hx)) (fun x hx=>hs x (by simp [hx]))⟩,
   Ej hl hb (by simpa using hv.2) h2 (fun x hx=>hs x (by simp [hx])),rfl⟩
theorem Sg {f : Func} {s : ChangeSpec} {apart fresh handsOn again : Bool} {W W' : World} {args : Array Value} {t : TypeId} {ds gs : List (DataW H)} {before : List MemPlace}
 (hl : laidOutB P = true) (hps : (f.params.toList.all fun t=>P.readableRec t && decide (t < P.types.size)) = true) (hv : s.vars = []) (hr : f.resultTypes = #[t]) (hu : P.underlying t = some .bool)
 (hW : DataW.Whole enc P f.params.toList s.vars apart W args.toList ds gs before) (hfn : (s.fn H (ds ++ gs)).results = [.lit (.bool true)] ∧ (s.fn H (ds ++ gs)).args = ds ∧ (s.fn H (ds ++ gs)).vars = []) (hb : eB W W') :
 s.post enc P f apart fresh handsOn again W args (.bool true) W':=by
 have hW0:=hW;obtain ⟨p,q,hA,hV,rfl,hz,hn⟩:=hW0;rw [hv] at hV;obtain ⟨rfl,rfl⟩:=trodVars_none hV;have hargs : ∀ sp : Nat → Bool,(∀ x ∈ p ++ [],sp x.block = true) → DataW.TrodAll enc P W' 0 sp true f.params.toList args.toList (s.fn H (ds ++ [])).args p:=fun sp hsp=>by
  rw [hfn.2.1];exact Ej hl hb hps hA (fun x hx=>hsp x (by simp [hx]))
 have hvars : ∀ sp : Nat → Bool,DataW.TrodVars enc P W' sp s.vars (s.fn H (ds ++ [])).vars []:=fun sp=>by
  rw [hv,hfn.2.2];exact rfl
 have hres : ∀ (b : Nat) (sp : Nat → Bool) (hd : Bool),DataW.TrodAll enc P W' b sp hd f.resultTypes.toList ((Value.bool true).resultList f.resultTypes.size) (s.fn H (ds ++ [])).results []:=fun b sp hd=>by
  rw [hr,hfn.1];exact trodAll_cons_mk (shut_bool hu true) trodAll_mk0
 have hok : ∀ (j : Nat) (t : TypeId) (r : Value),f.resultTypes[j]? = some t → ((Value.bool true).resultList f.resultTypes.size)[j]? = some r → Value.okWide P W' .any 0 t r:=ok_one hr rfl (okWide_bool_mk hu _);have hlt : ∀ x ∈ p ++ [],x.block < W.heap.size:=hW.lt;have hold : ∀ x ∈ p ++ [],(fun b=>decide (b < W.heap.size)) x.block = true:=fun x hx=>by simpa using hlt x hx
 refine ⟨ds,[],p ++ [],[],p,[],hW,hres _ _ _,hargs _ hold,hvars _,Below.frame hb _,fun _=>?_⟩;refine ⟨hok,_,_,([] ++ p) ++ [],⟨[] ++ p,[],trodAll_append (hargs _ (fun _ _=>rfl)) (hres _ _ _),hvars _,rfl,?_,?_⟩,?_⟩
 · intro b off hp
   have h1 : MemPlace.cell b off ∈ p ++ []:=by simpa using hp
   rw [Below.frozen hb (p:=⟨b,off,none⟩) (hlt _ h1)];exact hz b off h1
 · intro ha
   simpa using hn ha
 · intro x hp _
   simpa using hp
end Go.Lith
