/-
 Texts of one claim, laid together: V7t, Join, JoinWitnessTurned.
-/
import Derived.OpenVars
import Derived.OpenShut
import Derived.WalkKit
import Derived.ProofKit
import Derived.Test.YtfohfflkhpfjeaaGreatDoorCards
import Derived.Test.YtfohfflkhpfjeaaGreatDoorTie
import Derived.Deep.DeepHandedRow
import Derived.Lib.LaidTab
import Derived.Test.YtfohfflkhpfjeaaGreatDoorC9
set_option maxHeartbeats 8000000
set_option linter.unusedSimpArgs false
set_option linter.unusedVariables false
set_option linter.unusedSectionVars false
namespace Go.Proofs.YtfohfflkhpfjeaaGreatDoor
open Go.Proofs.Tryz
open Go.RowKit Go.Lith
set_option maxRecDepth 100000
attribute [local irreducible] wpList wpQuiet dY dQ dO Code.wp
theorem Ju {ts : List T3} {x : P3} (h : x ∈ cL (ts.map uH)) : x ∈ cL ts:=by
 obtain ⟨t,ht,hx⟩:=kU.1 h;obtain ⟨u,hu,rfl⟩:=List.mem_map.1 ht;refine kU.2 ⟨u,hu,?_⟩;rcases hx with rfl | rfl | rfl
 · exact .inl rfl
 · exact .inr (.inr rfl)
 · exact .inr (.inl rfl)
theorem Pv {ts : List T3} {k : Nat} {x : P3} (h : x ∈ cL (ts.eraseIdx k)) : x ∈ cL ts:=by
 obtain ⟨t,ht,hx⟩:=kU.1 h;exact kU.2 ⟨t,List.mem_of_mem_eraseIdx ht,hx⟩
theorem ag8 {L : Nat} {p : Prop} [Decidable p] (h : (decide ((L : Int) = 0) || decide (¬ p)) = false) : 0 < L ∧ p:=by
 simp only[Bool.or_eq_false_iff,decide_eq_false_iff_not,Classical.not_not] at h;exact ⟨by omega,h.2⟩
theorem Cr {kind bits : Int} [Iw kind] [Iw bits] {HN Hc DN Dc : Nat} {HA DA : Option Addr} {zs : List Int} {qs : List Q4} {n0 : Int} [Iw n0] (w : World) (hZ : pH w HA HN zs) (hQ : nS q4C 4 w DA DN qs) (hI : ∀ q ∈ qs,IQ q) : eK prog 7 [.agg #[.int .i64 kind,.int .i64 bits,.slice HA HN Hc,.slice DA DN Dc],.int .i64 n0] w (fun v _=>v = .bool true):=by
 refine ⟨ahg,?_⟩;have m:=cA.refl w
 go_enter func7,ntmps7
 refine aD fun K1 k1=>wp_region_lit (eP m rfl ?_);clear m;intro g1 u m;refine aA (aC) (aG (k1 _ _ ?_));refine aD fun K2 k2=>wp_region_lit ?_;simp only[zz];refine gG m rfl rfl (aby) ?_;clear m;intro u m;refine aA (aC) (aG (k2 _ _ ?_));refine aD fun K3 k3=>wp_region_lit ?_;simp only[zz];refine aK rfl ((m.b 0 rfl).full ad8 aah) ?_;simp only[zz];refine bA rfl rfl (aeQ _ (hZ.ext m.ext) (hQ.ext m.ext) hI) ?_;rintro v u e ⟨us,ms,A7,c7,A8,c8,A5,c5,i,rfl,hM,hi,hdv⟩;replace m:=m.plus hM;clear hM e;simp only[List.cons_append,List.nil_append] at m;have hs:=hdv.srf hi;have hs1:=hs.ul;have hs2:=hs.ll;have hs3:=hs.ml;refine aA (aB) (aA (bE rfl rfl) (aA (bE rfl rfl) ?_));simp only[zz];refine aA (bE rfl rfl) (aA (aC) (aA (aC) (aA (aC) ?_)));simp only[zz];refine aG (k3 _ _ ?_);refine aD fun K4 k4=>aD fun K5 k5=>wp_region_lit (aA (aB) (aA (aW rfl bS rfl) (aA (pZ rfl rfl) (aA (aB) ?_))));simp only[zz];refine fH rfl (fun hb=>aB) ?_;simp only[zz];refine acg m rfl rfl (fun hb=>by simp only[List.toList_toArray,List.map_cons,List.map_nil,zA,zB,zC,zD,zE,hb,nH];rfl) (fun hb=>tS _ ((m.o 2 rfl).tris (rT hs.lm)) (by omega)) ?_;clear m;intro u m;refine fH rfl (fun hb=>lG (bK hb rfl) rfl) (aA (fT rfl rfl rfl) (aG (k5 _ _ ?_)));simp only[zz];refine eE rfl (fun hc1=>?_) (fun hc1=>?_)
 ·
  refine aD fun K6 k6=>wp_region_lit (aA (aB) (aA (aC) (aG (k6 _ _ ?_))));refine wp_ret ?_;simp only[zz];try simp only[Exit.inBlock,Exit.then,if_true]
  refine bO rfl rfl ?_;try simp only[zD,zE]
  exact ⟨_,rfl,m.ext,rfl⟩
 ·
  obtain ⟨hlp,hch⟩:=ag8 hc1;have hall:=Sq hdv hch (fun e=>by rw [e] at hlp;exact absurd hlp (by decide));refine wp_skip (k4 _ _ ?_);refine aD fun K7 k7=>wp_region_lit (aA (aC) ?_);replace m:=m.nilO 53 9;refine aG (k7 _ _ ?_);refine aD fun K8 k8=>aD fun K9 k9=>wp_region_lit (aA (aC) (aG (k9 _ _ ?_)));refine wp_block ?_;simp only[zz];try simp only[Nat.zero_add,Nat.reduceAdd,Nat.reduceMul,Int.reduceToNat]
  refine bH [9,10] [35,36,37,38,39,40,41,42,43,44,45,46,47,48,49,50,51,52,53,54,55,56,57,58,59] (fun n vs wl=>∃ (k n9 : Nat) (A9 : Option Addr) (c9 : Nat),vs = [.slice A9 n9 c9,.int .i64 (k:Int)] ∧ cA w wl [oI 53 9 A9 n9 c9 ((((fN kind bits zs).take k).map uH).flatMap aX),oI 50 6 A8 ms.length c8 (ms.flatMap bU),oI 53 9 A7 us.length c7 (us.flatMap aX),oI 53 9 A5 (fN kind bits zs).length c5 ((fN kind bits zs).flatMap aX)] ∧ (n9 = (((fN kind bits zs).take k).map uH).length) ∧ (k ≤ (fN kind bits zs).length) ∧ (n = (fN kind bits zs).length - k)) ?_ ?_
  ·
   apply Exists.intro;simp only[zQ,zR,zD,zE];exact ⟨0,0,_,_,rfl,(m.sel [true,true,true,true,false]),rfl,Nat.zero_le _,rfl⟩
  ·
   intro n vs wr hI u;clear m;obtain ⟨k,n9,A9,c9,rfl,m,h9,hk,hn⟩:=hI;simp only[zu,zF,zG];refine aD fun K10 k10=>aD fun K11 k11=>wp_region_lit (aA (aB) (aA (aB) (aA (aW rfl bS rfl) (aA (cE rfl rfl) ?_))));simp only[zz];refine aG (k11 _ _ ?_);refine bZ rfl (fun hc2=>?_) (fun hc2=>?_)
   ·
    obtain ⟨t,ht⟩:=Qv (ts:=(fN kind bits zs)) (k:=k) (by omega);have h9b : n9 ≤ 400:=by rw [h9,List.length_map,List.length_take];omega
    obtain ⟨gO,rfl⟩:=(m.o 3 rfl).some hlp;refine wp_skip (k10 _ _ ?_);refine aD fun K12 k12=>wp_block ?_;refine mh m [false,true,true,true] [(0,true),(1,true),(2,true),(3,true),(4,true),(6,true),(7,true),(8,true),(9,true),(11,true),(12,true),(13,true),(14,true),(5,true),(10,true),(15,true),(16,true),(17,false),(18,false),(19,true)] aO (by kernel_rfl) (dL (fun _ _ _ _ _ h=>h)) (ol:=?_) ?hol ?_
    case hol=>simp only[zw,zQ,zR];try rfl
    clear m;intro u m;refine aZ (aB) (aZ (aB) (aZ (aB) ?_));simp only[zz];refine aZ (aI bS aT rfl rfl (by omega) (by omega) (bV (Int.toNat_natCast _))) (aZ (aH bL aF rfl rfl (by decide) (by decide) rfl) (aZ (aB) (aZ (aB) ?_)));simp only[zz];refine aZ (aI bS aT rfl rfl (by omega) (by omega) (bV (Int.toNat_natCast _))) (aZ (aH bL aF rfl rfl (by decide) (by decide) rfl) (aZ (aB) (aZ (aB) ?_)));simp only[zz];refine aZ (aI bS aT rfl rfl (by omega) (by omega) (bV (Int.toNat_natCast _))) (aZ (aH bL aF rfl rfl (by decide) (by decide) rfl) ?_);simp only[zz];refine dI rfl (fun u m=>((((m.o 2 rfl).tri ht).cor (c:=0) (by decide)).lies aJ aF)) ?_;simp only[zz];refine dI rfl (fun u m=>((((m.o 2 rfl).tri ht).cor (c:=2) (by decide)).lies aJ aF)) ?_;simp only[zz];refine dI rfl (fun u m=>((((m.o 2 rfl).tri ht).cor (c:=1) (by decide)).lies aJ aF)) ?_;simp only[zz];refine aZ (bM rfl rfl rfl) (cS ?_);simp only[zz];refine Iu rfl ?_;intro u g2 e hg hB;replace m:=m.newB e hg hB;clear e hg hB;refine aG (⟨m.sel [false,false,true,true,true],?_⟩);refine cS ?_;simp only[zz];refine eI m 1 rfl rfl bS nN rfl (by decide) rfl rfl rfl (m.b 0 rfl).rowsO (tG rfl) (by omega) (by omega) ?_;clear m;intro A9 cap9 u m;simp only[zF,zG] at m;rw [show (((fN kind bits zs).take k).map uH).flatMap aX ++ _ = (((fN kind bits zs).take (k + 1)).map uH).flatMap aX by rw [dF ht,List.map_append,List.flatMap_append];rfl] at m;refine aG (⟨m.sel [false,false,true,true,true],?_⟩);refine aZ (aC) (dN (k12 _ _ ?_));refine wp_region_lit (aA (aB) ?_);simp only[zz];refine aA (aP rfl rfl (aM (by omega) (by omega))) (aA (aC) (aG ?_));simp only[zz];simp only[Exit.inBlock,Exit.then];refine ⟨(fN kind bits zs).length - (k + 1),_,?_,rfl,?_,?_⟩
    · omega
    · simp only[zz,zv]
    ·
     simp only[zQ,zR,zD,zE];exact ⟨k + 1,_,_,_,rfl,(m.sel [false,true,true,true,true]),by rw [h9,dF ht,List.map_append,List.length_append];rfl,by omega,rfl⟩
   ·
    have hkL : k = (fN kind bits zs).length:=by omega
    rw [hkL,List.take_length] at m h9;subst h9;have htl : ((fN kind bits zs).map uH).length ≤ 400:=by rw [List.length_map];omega
    obtain ⟨h1,h2a⟩:=hall;obtain ⟨kk,hkk,hkl⟩ : ∃ j : Nat,n0 % (((fN kind bits zs).length : Nat) : Int) = (j : Int) ∧ j < (fN kind bits zs).length:=Kp hlp;obtain ⟨t,ht⟩:=Qv hkl;have h2:=h2a kk t ht;have hle5:=(m.o 3 rfl).le;refine wp_exit (k8 _ _ ?_);refine aD fun K13 k13=>wp_region_lit (aA (aB) (aA (aB) (aA (aW rfl bS rfl) ?_)));simp only[zz];refine gG m rfl rfl (rG (n:=n0) (k:=((fN kind bits zs).length : Int)) (by omega) (by omega)) ?_;clear m;intro u m;refine aA (aC) (aG ?_);simp only[zz];rw [hkk];refine k13 _ _ ?_;refine aD fun K14 k14=>?_;refine Ms m [true,true,true,true] (.take 1 (.take 2 (.take 3 (.take 5 (.take 6 (.take 7 (.take 8 (.one 0 (.one 4 (.one 9 (.take 10 .nil))))))))))) aO (by kernel_rfl) (dL (fun _ _ _ _ _ h=>h)) ?_;clear m;intro u m;refine dW (by simp only[zw];rfl) (aZ (aB) (dN (dW (by simp only[zw];rfl) (aZ (aB) (dN (dW (by simp only[zw];rfl) ?_))))));simp only[zz];refine aZ (kV bS aT rfl rfl (Int.toNat_natCast _) (by omega) (by omega)) (dN (dW (by simp only[zw];rfl) (aZ (aB) (dN (dW (by simp only[zw];rfl) (aZ (aB) (dN (dW (by simp only[zw];rfl) ?_))))))));simp only[zz];refine aZ (aP rfl rfl (aM (by omega) (by omega))) (dN (dW (by simp only[zw];rfl) ?_));simp only[zz];refine aZ (jY bS aT rfl rfl (show _ = kk + 1 by omega) (by omega) (by omega) rfl) (dN (jH (by simp only[zw];rfl) ?_));simp only[zz];refine Dw bS (c:=9) (by kernel_rfl)  ?_;intro u g2 e hg hB;replace m:=m.newB e hg hB;clear e hg hB;simp only[zz];replace m:=m.own 0 rfl (n:=0) (c:=9) rfl (dZ rfl);simp only[zG] at m;refine aG (⟨m.sel [false,true,true,true,true],?_⟩);refine jH (by simp only[zw];rfl) ?_;refine eI m 0 rfl rfl bS nN rfl (by decide) rfl rfl ((m.o 4 rfl).takeT (Nat.le_of_lt hkl)).own.1 ((m.o 4 rfl).takeT (Nat.le_of_lt hkl)).row (nG _) (by omega) (by omega) ?_;clear m;intro A11 cap11 u m;simp only[zF,zG] at m;rw [List.nil_append,Nat.zero_add] at m;rw [Nat.zero_add];refine aG (⟨m.sel [false,true,true,true,true],?_⟩);refine jH (by simp only[zw];rfl) ?_;simp only[zz];refine eI m 0 rfl rfl bS nN rfl (by decide) rfl rfl (by rw [Dd,List.length_drop]) (m.o 4 rfl).dropRow (nG _) (by omega) (by omega) ?_;clear m;intro A11 cap11 u m;simp only[zF,zG] at m;rw [← List.flatMap_append,← List.eraseIdx_eq_take_drop_succ] at m;have hll : kk + ((fN kind bits zs).length - (kk + 1)) = ((fN kind bits zs).eraseIdx kk).length:=by rw [List.length_eraseIdx,if_pos hkl];omega
    rw [hll] at m;rw [hll];refine aG (⟨m.sel [false,true,true,true,true],?_⟩);refine dW (by simp only[zw];rfl) (aZ (aC) (dN (sA ?_)));simp only[zz];have hln : ((fN kind bits zs).eraseIdx kk).length ≤ 400:=by rw [List.length_eraseIdx,if_pos hkl];omega
    refine k14 _ _ ?_;refine aD fun K15 k15=>wp_region_lit (aA (aB) (aA (aB) (aA (aB) ?_)));simp only[zz];refine eH m rfl rfl (qP (fs:=us) (gs:=((fN kind bits zs).map uH)) (ms:=ms) _ ((m.o 3 rfl).tris (rT hs.um)) ((m.o 1 rfl).tris (rT fun x hx=>hs.lm x (Ju hx))) ((m.o 2 rfl).lat qT (by decide)) (by omega) (by omega) (by omega) (Lz hs.mm)) ?_;clear m;rintro v u m rfl;refine aA (aB) (aA (bE rfl rfl) (aA (bE rfl rfl) ?_));simp only[zz];refine aA (aC) (aA (aC) (aG (k15 _ _ ?_)));refine aD fun K16 k16=>wp_region_lit (aA (aB) (aA (aB) ?_));simp only[zz];refine aA (aB) ?_;simp only[zz];refine eH m rfl rfl (qP (fs:=us) (gs:=((fN kind bits zs).eraseIdx kk)) (ms:=ms) _ ((m.o 3 rfl).tris (rT hs.um)) ((m.o 0 rfl).tris (rT fun x hx=>hs.lm x (Pv hx))) ((m.o 2 rfl).lat qT (by decide)) (by omega) (by omega) (by omega) (Lz hs.mm)) ?_;clear m;rintro v u m rfl;refine aA (aB) (aA (bE rfl rfl) (aA (bE rfl rfl) ?_));simp only[zz];refine aA (aC) (aA (aC) (aG (k16 _ _ ?_)));refine aD fun K17 k17=>wp_region_lit (aA (aB) (aA (aB) ?_));simp only[zz];refine aA (aB) ?_;simp only[zz];refine eH m rfl rfl (Pk _ ((m.o 3 rfl).tris (rT hs.um)) ((m.o 1 rfl).tris (rT fun x hx=>hs.lm x (Ju hx))) ((m.o 2 rfl).lat qT (by decide)) (by omega) (by omega) (by omega) (Lz hs.mm) (m.o 3 rfl).le (m.o 1 rfl).le) ?_;clear m;rintro v u m rfl;refine aA (aC) (aG (k17 _ _ ?_));refine aD fun K18 k18=>wp_region_lit (aA (aB) (aA (aB) ?_));simp only[zz];refine aA (aB) ?_;simp only[zz];refine eH m rfl rfl (Pk _ ((m.o 3 rfl).tris (rT hs.um)) ((m.o 0 rfl).tris (rT fun x hx=>hs.lm x (Pv hx))) ((m.o 2 rfl).lat qT (by decide)) (by omega) (by omega) (by omega) (Lz hs.mm) (m.o 3 rfl).le (m.o 0 rfl).le) ?_;clear m;rintro v u m rfl;refine aA (aC) (aG (k18 _ _ ?_));refine aD fun K19 k19=>wp_region_lit (aA (aB) (aA (aB) ?_));simp only[zz];refine bN rfl (aA (aB) (bN rfl ?_));simp only[zz];refine aA (Yb rfl rfl (by omega)) (aA (fA rfl) (aA (aB) (bN rfl (aA (aB) ?_))));simp only[zz];refine bN rfl (aA (Yb rfl rfl (by omega)) (aA (fA rfl) (aA (aB) (bN rfl (aA (aB) ?_)))));simp only[zz];refine aA (fA rfl) (aA (aB) (bN rfl (aA (aB) (aA (fA rfl) ?_))));simp only[zz];refine aA (aC) (aG (k19 _ _ ?_));refine wp_ret ?_;simp only[zz];try simp only[Exit.inBlock,Exit.then,if_true]
    refine bO rfl rfl ?_;try simp only[zD,zE]
    exact ⟨_,rfl,m.ext,rfl⟩
end Go.Proofs.YtfohfflkhpfjeaaGreatDoor
namespace Go.Lith
open Go.RowKit Go.ChangeShapes
variable {H : Type} {enc : TypeId × Value → H} {P : Program}
theorem Cm (hl : laidOutB P = true) {W W' : World} (hb : dJ W W') {sp : Nat → Bool} :
 ∀ {ts : List TypeId} {vs : List Value} {ds : List (DataW H)} {ps : List MemPlace},(ts.all fun t=>P.readableRec t && decide (t < P.types.size)) = true → DataW.TrodAll enc P W 0 (fun _=>true) true ts vs ds ps → (∀ p ∈ ps,sp p.block = true) → DataW.TrodAll enc P W' 0 sp true ts vs ds ps
 | [],[],[],_,_,h,_=>h
 | [],[],_ :: _,_,_,h,_=>h.elim
 | [],_ :: _,_,_,_,h,_=>h.elim
 | _ :: _,[],_,_,_,h,_=>h.elim
 | _ :: _,_ :: _,[],_,_,h,_=>h.elim
 | t :: ts,v :: vs,d :: ds,ps,hv,h,hs=>by
  obtain ⟨p,q,⟨n,h1⟩,h2,e⟩:=h;subst e;simp only[List.all_cons,Bool.and_eq_true,decide_eq_true_eq] at hv;have hlt:=DataW.trod_lt n _ _ _ h1;exact ⟨p,q,⟨n,DataW.trod_stays (kids_book hl hv.1.1) (book_sized hv.1.1) (fun h=>by cases h) ⟨hv.1.2,book_self t⟩ h1 (fun x hx=>Below.same hb (hlt x hx)) (fun x hx=>hs x (by simp [hx]))⟩,
   Cm hl hb (by simpa using hv.2) h2 (fun x hx=>hs x (by simp [hx])),rfl⟩
theorem Pw {f : Func} {s : ChangeSpec} {apart fresh handsOn again : Bool} {W W' : World} {args : Array Value} {t : TypeId} {ds gs : List (DataW H)} {before : List MemPlace}
 (hl : laidOutB P = true) (hps : (f.params.toList.all fun t=>P.readableRec t && decide (t < P.types.size)) = true) (hv : s.vars = []) (hr : f.resultTypes = #[t]) (hu : P.underlying t = some .bool)
 (hW : DataW.Whole enc P f.params.toList s.vars apart W args.toList ds gs before) (hfn : (s.fn H (ds ++ gs)).results = [.lit (.bool true)] ∧ (s.fn H (ds ++ gs)).args = ds ∧ (s.fn H (ds ++ gs)).vars = []) (hb : dJ W W') :
 s.post enc P f apart fresh handsOn again W args (.bool true) W':=by
 have hW0:=hW;obtain ⟨p,q,hA,hV,rfl,hz,hn⟩:=hW0;rw [hv] at hV;obtain ⟨rfl,rfl⟩:=trodVars_none hV;have hargs : ∀ sp : Nat → Bool,(∀ x ∈ p ++ [],sp x.block = true) → DataW.TrodAll enc P W' 0 sp true f.params.toList args.toList (s.fn H (ds ++ [])).args p:=fun sp hsp=>by
  rw [hfn.2.1];exact Cm hl hb hps hA (fun x hx=>hsp x (by simp [hx]))
 have hvars : ∀ sp : Nat → Bool,DataW.TrodVars enc P W' sp s.vars (s.fn H (ds ++ [])).vars []:=fun sp=>by
  rw [hv,hfn.2.2];exact rfl
 have hres : ∀ (b : Nat) (sp : Nat → Bool) (hd : Bool),DataW.TrodAll enc P W' b sp hd f.resultTypes.toList ((Value.bool true).resultList f.resultTypes.size) (s.fn H (ds ++ [])).results []:=fun b sp hd=>by
  rw [hr,hfn.1];exact trodAll_cons_mk (shut_bool hu true) trodAll_mk0
 have hok : ∀ (j : Nat) (t : TypeId) (r : Value),f.resultTypes[j]? = some t → ((Value.bool true).resultList f.resultTypes.size)[j]? = some r → Value.okWide P W' .any 0 t r:=ok_one hr rfl (okWide_bool_mk hu _);have hlt : ∀ x ∈ p ++ [],x.block < W.heap.size:=hW.lt;have hold : ∀ x ∈ p ++ [],(fun b=>decide (b < W.heap.size)) x.block = true:=fun x hx=>by simpa using hlt x hx
 refine ⟨ds,[],p ++ [],[],p,[],hW,hres _ _ _,hargs _ hold,hvars _,Below.frame hb _,fun _=>?_⟩;refine ⟨hok,_,_,([] ++ p) ++ [],⟨[] ++ p,[],trodAll_append (hargs _ (fun _ _=>rfl)) (hres _ _ _),hvars _,rfl,?_,?_⟩,?_⟩
 · intro b off hp
   have h1 : MemPlace.cell b off ∈ p ++ []:=by simpa using hp
   rw [Below.frozen hb (p:=⟨b,off,none⟩) (hlt _ h1)];exact hz b off h1
 · intro ha
   simpa using hn ha
 · intro x hp _
   simpa using hp
end Go.Lith
namespace Go.Proofs.YtfohfflkhpfjeaaGreatDoor.witnessTurned
open Go.Proofs.Tryz
open Go.ChangeShapes Go.WideShapes Go.ChangeAt Go.RowKit Go.Lith
set_option maxRecDepth 100000
theorem own : ownKnob prog.godebug = none:=by kernel_rfl
theorem laidOut : laidOutB prog = true:=by kernel_rfl
theorem contract (H : Type) (enc : TypeId × Value → H) (W : World) (base : Nat) (args : Array Value) (ds gs : List (DataW H)) (before : List MemPlace)
 (hval : ∀ (j : Nat) t v,f7.params[j]? = some t → args[j]? = some v → Value.okWide prog W .any base t v)
 (hW : DataW.Whole enc prog f7.params.toList Rows.witnessTurnedSpec.vars false W args.toList ds gs before) :
 Calls prog 7 args W fun e W'=>∃ v,e = .returned v ∧ Rows.witnessTurnedSpec.post enc prog f7 false true false false W args v W':=by
 have hW':=hW;obtain ⟨p,q,hA,hV,rfl,hfz,hnd⟩:=hW;rw [params7] at hA hval;obtain ⟨v0,vs0,d0,ds0,p0,q0,e0,rfl,rfl,h0,r0⟩:=trodAll_cons hA;obtain ⟨v1,vs1,d1,ds1,p1,q1,e1,rfl,rfl,h1,r1⟩:=trodAll_cons r0;obtain ⟨rfl,rfl,rfl⟩:=trodAll_nil r1;subst e1;obtain rfl : args = #[v0,v1]:=by cases args;simp_all
 obtain ⟨rfl,rfl⟩:=trodVars_none hV;obtain ⟨kind,bits,HA,DA,HN,Hc,DN,Dc,zs,qs,rfl,i0,i1,hZ,hQ,hI⟩:=Pu (n:=5) (tI:=3) (tH:=22) (tM:=23) (tT:=80) Im (by kernel_rfl) (by kernel_rfl) (by kernel_rfl) (by kernel_rfl) bW (by kernel_rfl) yM (by kernel_rfl) (by kernel_rfl) (by kernel_rfl) (hval 0 25 v0 rfl rfl) h0;obtain ⟨a1,rfl,_,_,wt1⟩:=open_int jC (hval 1 3 v1 rfl rfl) h1;haveI : Iw a1:=⟨Zm wt1⟩
 refine (Cr W hZ hQ hI).2.mono ?_;rintro e W' ⟨v,rfl,hE,rfl⟩;exact ⟨_,rfl,Pw laidOut (by kernel_rfl) rfl rfl Qz hW' ⟨rfl,rfl,rfl⟩ hE⟩
def accepts : List Value:=[128,191,160,191,128,159,144,191,128,143,0,0,0,0,0,0,0,0,0,0,0,0,0,0,0,0,0,0,0,0,0,0].map fun n=>.int .u8 n
def firsts : List Value:=Go.Pinned.utf8FirstZ.map fun (n : Nat)=>Value.int .u8 (n : Int)
def relaid (cs : List Value) : Obj → Obj
 | .cells _ t frozen=>.cells cs.toArray t frozen
 | o=>o
noncomputable def laidWorld (os : Os) : World :=
 { World.holding prog os ⟨#[],#[],[]⟩ with heap:=((World.holding prog os ⟨#[],#[],[]⟩).heap.modify 0 (relaid firsts)).modify 1 (relaid accepts) }
def inp : Array Value:=#[.agg #[.int .i64 0,.int .i64 0,.slice none 0 0,.slice none 0 0],.int .i64 0]
theorem laid_met (os : Os) : laidMet prog Rows.witnessTurnedRow.laid ((laidWorld os).forCall (fun _ _=>0) ⟨#[],inp,[]⟩).memory :=
 laidMet_of_run' 8 (by kernel_rfl) (by kernel_rfl)
theorem reads (os : Os) {H : Type} (enc : TypeId × Value → H) : ∃ places,DataW.whole enc prog ((laidWorld os).forCall (fun _ _=>0) ⟨#[],inp,[]⟩).memory f7.params.toList Rows.witnessTurnedSpec.vars false inp.toList 8 = some ([.agg [.lit (.int .i64 0),.lit (.int .i64 0),.nil,.nil],.lit (.int .i64 0)],[],places) :=
 ⟨[],by kernel_rfl⟩
theorem lifted (os : Os) (started : os.Started) (H : Type) (enc : TypeId × Value → H) (F : Stop.Interp) :
 ReturnsInHanded {} checked os 7 .any ((OpenSpec.ofChange Rows.witnessTurnedSpec).preRow enc prog f7 Rows.witnessTurnedRow.domain false Rows.witnessTurnedRow.laid) (((OpenSpec.ofChange Rows.witnessTurnedSpec).at F).post enc prog f7 false true false false):=by
 obtain ⟨places,hx⟩:=reads os enc;refine returnsInHanded_of_row (C:=checked) (s:=OpenSpec.ofChange Rows.witnessTurnedSpec) own started (by kernel_rfl) func7
  (witness_row_at (enc:=enc) (C:=checked) false (laidWorld os) inp rfl (by kernel_rfl) (by kernel_rfl) (by kernel_rfl)
   (OpenSpec.preRow_of_cond 8 hx (by kernel_rfl) (fun k hk=>by cases hk) (by kernel_rfl) (laid_met os))) ?_
 intro W base args ds gs before hval hW _ _ _ hL _ _;exact contract H enc W base args ds gs before hval hW
theorem said : Rows.WitnessTurnedSaid :=
 OpenClaim.holds_of_cond 7 f7 rfl rfl rfl rfl rfl rfl rfl ⟨rfl,rfl,rfl,rfl,rfl⟩ rfl rfl rfl rfl rfl (by kernel_rfl) func7 (by kernel_rfl)
  (of_decide_eq_true (by kernel_rfl)) (by unfold Func.isWrapper;first | (rw [if_pos (by decide +kernel)];kernel_rfl) | (rw [if_neg (by decide +kernel)];exact ⟨rfl,rfl⟩))
  (fun os started H enc _ F=>by rw [OpenClaim.pre_eq_preRow];exact lifted os started H enc F)
theorem plain (f : FuncId) (fn : Func) (hf : Tryz.pinned.checked.prog.funcNamed Rows.witnessTurnedRow.func = some f) (hfn : Tryz.pinned.checked.prog.funcs[f]? = some fn) :
 false = Tryz.pinned.checked.prog.looks [] ∧ ∀ (j : Nat) t,fn.params[j]? = some t → Tryz.pinned.checked.prog.wantsStandIn t = false:=by
 obtain rfl : f = 7:=Option.some.inj ((show prog.funcNamed Rows.witnessTurnedRow.func = some 7 by kernel_rfl).symm.trans hf) |>.symm
 obtain rfl : fn = f7:=(Option.some.inj (func7.symm.trans hfn)).symm;refine ⟨by kernel_rfl,fun j t ht=>?_⟩;rw [params7] at ht;have hm : t ∈ [25,3]:=by simpa using Array.mem_of_getElem? ht
 have hall : ([25,3].all fun u=>!prog.wantsStandIn u) = true:=by kernel_rfl
 exact (show prog.wantsStandIn t = false by simpa using List.all_eq_true.1 hall t hm)
theorem card : Rows.WitnessTurnedCardSaid :=
 Claim7.holds_tied_plain_at .later [] _ _ _ _ said (fun _ h=>by cases h) (by kernel_rfl) (fun _ h=>by cases h) witnessTurned_row_tie rfl ⟨rfl,rfl⟩ (by kernel_rfl) rfl plain (by kernel_rfl)
end Go.Proofs.YtfohfflkhpfjeaaGreatDoor.witnessTurned
