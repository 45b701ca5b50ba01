/-
 Texts of one claim, laid together: Flow, RayQ, Cst, Ref8, Ref9, RefF, RayU, RayV.
-/
import Derived.Test.YtimjandkmfcmiaaGreatDoorTF6
set_option maxHeartbeats 8000000
set_option linter.unusedSimpArgs false
set_option linter.unusedVariables false
set_option linter.unusedSectionVars false
namespace Go.Lith
open Go.RowKit
structure Cr where
 R : Value → World → Prop
 st : ∀ v u u',R v u → dL u u' → R v u'
def ac9 : Cr:=⟨fun _ _=>True,fun _ _ _ h _=>h⟩
def vM (x : Value) : Cr:=⟨fun v _=>v = x,fun _ _ _ h _=>h⟩
def fSl (f : World → Option Addr → Nat → Nat → Prop) (h : ∀ u u' A n c,f u A n c → dL u u' → f u' A n c) : Cr :=
 ⟨fun v u=>∃ A n c,v = .slice A n c ∧ f u A n c,fun v u u' ⟨A,n,c,e,hf⟩ hE=>⟨A,n,c,e,h u u' A n c hf hE⟩⟩
def Ue (ts : List T3) : Cr:=fSl (fun u A n c=>dK u A n ts ∧ n ≤ c) fun _ _ _ _ _ h hE=>⟨h.1.ext hE,h.2⟩
def wY (zs : List Int) : Cr:=fSl (fun u A n _=>eY u A n zs) fun _ _ _ _ _ h hE=>h.ext hE
def xY (xs : List (List T3)) : Cr:=fSl (fun u A n _=>jJ u A n xs) fun _ _ _ _ _ h hE=>h.ext hE
def qR (L : List Cr) (i : Nat) : Cr:=L.getD i ac9
def Np (ops : Array Oper) (D : List Nat) (pre : List (List Nat)) : Bool :=
 decide (D.length = ops.size) && decide D.Nodup && (List.range ops.size).all fun i=>match ops[i]? with
  | none=>false
  | some o=>o.after.all (fun e=>!Region.binds .any e || decide (e.on < i)) && (pre.getD i []).all fun j=>decide (j < ops.size) && o.after.any fun e=>Region.binds .any e && e.on == j
section
variable {P : Program} {Q : Exit → Act → World → Prop} {l : List Oper} {ds : List Deferred} {l0 : List Value}
theorem Kb : ∀ (D : List Nat) (l0 : List Value) (u : Nat → Value) (d : Nat) (v : Value),D.Nodup → d ∈ D → (nZ l0 D u).set d v = nZ l0 D (fun t=>if t = d then v else u t)
 | [],_,_,_,_,_,h=>by cases h
 | t :: D,l0,u,d,v,hn,h=>by
  have hn:=List.nodup_cons.1 hn;rw [bO,bO];by_cases e : t = d
  · subst e
    rw [if_pos rfl];have key : ∀ (D : List Nat) (l : List Value) (u u' : Nat → Value) (v : Value),t ∉ D → (∀ s ∈ D,u' s = u s) → (nZ l D u).set t v = nZ (l.set t v) D u':=by
     intro D
     induction D with
     | nil=>intro l u u' v _ _; rfl
     | cons s D ih =>
      intro l u u' v hs he;rw [bO,bO,he s (List.mem_cons_self ..),ih (l.set s (u s)) u u' v (fun h=>hs (List.mem_cons_of_mem _ h)) (fun s hs=>he s (List.mem_cons_of_mem _ hs)),List.set_comm _ _ (fun e=>hs (by rw [e]; exact List.mem_cons_self ..))]
    rw [key D _ u (fun s=>if s = t then v else u s) v hn.1 (fun s hs=>if_neg (fun (e : s = t)=>hn.1 (e ▸ hs))),List.set_set]
  · rw [if_neg e]
    exact Kb D (l0.set t (u t)) u d v hn.2 (by rcases List.mem_cons.1 h with e' | h; exact absurd e'.symm e; exact h)
theorem Uf {l : Array Bool} {i : Nat} (hi : l.getD i true = false) : l.toList.count false = (l.setIfInBounds i true).toList.count false + 1:=by
 have hlt : i < l.size:=by
  rcases Nat.lt_or_ge i l.size with h | h
  · exact h
  · rw [Array.getD_eq_getD_getElem?,Array.getElem?_eq_none h] at hi
    cases hi
 have hv : l[i] = false:=by
  rw [Array.getD_eq_getD_getElem?,Array.getElem?_eq_getElem hlt] at hi;exact hi
 rw [Array.toList_setIfInBounds,List.count_set (by simpa using hlt)];have hpos : 0 < l.toList.count false:=List.count_pos_iff.2 (by rw [← hv]; simp);have e : (l.toList[i]'(by simpa using hlt) == false) = true:=by simp [hv]
 rw [if_pos e,if_neg (by decide)];omega
theorem Ma {D : List Nat} {pre : List (List Nat)} {L : List Cr} {C : World → Prop} (hC : ∀ u u',C u → dL u u' → C u') (hB : Np l.toArray D pre = true)
 (step : ∀ i,i < D.length → ∀ (u : Nat → Value) (w : World) (Q' : Exit → Act → World → Prop),C w → (∀ j ∈ pre.getD i [],(qR L j).R (u (D.getD j 0)) w) →
  (∀ v w',dL w w' → (qR L i).R v w' → Q' .normal (Fr ((nZ l0 D u).set (D.getD i 0) v) ds) w') → wpList P l.toArray Q' [(l.toArray[i]?).getD default] (Fr (nZ l0 D u) ds) w)
 (post : ∀ (u : Nat → Value) (w : World),C w → (∀ i,i < D.length → (qR L i).R (u (D.getD i 0)) w) → Q .normal (Fr (nZ l0 D u) ds) w) :
 ∀ (fuel : Nat) (listed : Array Bool) (u : Nat → Value) (w : World),listed.size = l.toArray.size → listed.toList.count false = fuel → C w → (∀ i,i < D.length → listed.getD i true = true → (qR L i).R (u (D.getD i 0)) w) →
  wpAny P .any l.toArray Q fuel listed (Fr (nZ l0 D u) ds) w:=by
 simp only[Np,Bool.and_eq_true,decide_eq_true_eq,List.all_eq_true,List.mem_range] at hB;obtain ⟨⟨hlen,hnd⟩,hops⟩:=hB;have hall : ∀ (listed : Array Bool),listed.size = l.toArray.size → Region.ready .any l.toArray listed = [] → ∀ i,i < D.length → listed.getD i true = true:=by
  intro listed hs hr i
  induction i using Nat.strongRecOn with
  | ind i ih =>
   intro hi;cases hg : listed.getD i true with
   | true=>rfl
   | false =>
    exfalso;have hm : i ∈ Region.ready .any l.toArray listed:=by
     refine mem_ready.2 ⟨hg,?_⟩;have:=hops i (by omega);cases ho : l.toArray[i]? with
     | none=>rw [ho] at this; cases this
     | some o =>
      refine ⟨o,rfl,fun e he hb=>?_⟩;rw [ho] at this;simp only[Bool.and_eq_true] at this;have h1:=Array.all_eq_true_iff_forall_mem.1 this.1 e he;rw [hb] at h1;have h2 : e.on < i:=by simpa using h1
      have h3:=ih e.on h2 (by omega);have h4 : e.on < listed.size:=by omega
      rw [Array.getD_eq_getD_getElem?,Array.getElem?_eq_getElem h4] at h3 ⊢;exact h3
    rw [hr] at hm;cases hm
 intro fuel
 induction fuel with
 | zero =>
  intro listed u w hs hc hw hR;have hn : ∀ i,i < D.length → listed.getD i true = true:=fun i hi=>by
   have hlt : i < listed.size:=by omega
   rw [Array.getD_eq_getD_getElem?,Array.getElem?_eq_getElem hlt];show listed[i] = true
   cases h : listed[i] with
   | true=>rfl
   | false =>
    have : false ∈ listed.toList:=by rw [← h]; simp
    have:=List.count_pos_iff.2 this;omega
  refine ⟨List.eq_nil_iff_forall_not_mem.2 fun i hi=>?_,post u w hw fun i hi=>hR i hi (hn i hi)⟩;obtain ⟨h1,o,ho,_⟩:=mem_ready.1 hi;have:=hn i (by rw [hlen]; exact (Array.getElem?_eq_some_iff.1 ho).1);rw [h1] at this;cases this
 | succ fuel ih =>
  intro listed u w hs hc hw hR;refine ⟨fun hr=>post u w hw fun i hi=>hR i hi (hall listed hs hr i hi),fun i hi=>?_⟩;obtain ⟨h1,o,ho,h2⟩:=mem_ready.1 hi;have hin : i < l.toArray.size:=(Array.getElem?_eq_some_iff.1 ho).1;have hiD : i < D.length:=by omega
  refine kB ho ?_;have hst:=step i hiD u w (Exit.then (wpAny P .any l.toArray Q fuel (listed.setIfInBounds i true)) Q) hw (fun j hj=>?_) (fun v w' hE hv=>?_)
  · rw [ho] at hst
    exact hst
  · have:=hops i hin
    rw [ho] at this;simp only[Bool.and_eq_true,List.all_eq_true] at this;have h3:=this.2 j hj;obtain ⟨hj1,h3⟩:=h3;rw [← Array.any_toList,List.any_eq_true] at h3;obtain ⟨e,he,h4⟩:=h3;have he : e ∈ o.after:=by simpa using he
    simp only[Bool.and_eq_true,beq_iff_eq] at h4;obtain ⟨hb,rfl⟩:=h4;have h5:=h2 e he hb;have hjn : e.on < l.toArray.size:=by simpa using hj1
    have h6 : e.on < listed.size:=by omega
    refine hR e.on (by omega) ?_;rw [Array.getD_eq_getD_getElem?,Array.getElem?_eq_getElem h6] at h5 ⊢;exact h5
  · show wpAny P .any l.toArray Q fuel (listed.setIfInBounds i true) _ w'
    have hmem : D.getD i 0 ∈ D:=by
     rw [List.getD_eq_getElem?_getD,List.getElem?_eq_getElem hiD];exact List.getElem_mem hiD
    rw [Kb D l0 u _ v hnd hmem];refine ih _ _ _ (by simpa using hs) ?_ (hC w w' hw hE) fun j hj hjl=>?_
    · have:=Uf h1
      omega
    · by_cases e : j = i
      · subst e
        show (qR L j).R (if D.getD j 0 = D.getD j 0 then v else _) w'
        rw [if_pos rfl];exact hv
      · have hne : D.getD j 0 ≠ D.getD i 0:=fun h=>e (by
         rw [List.getD_eq_getElem?_getD,List.getD_eq_getElem?_getD,List.getElem?_eq_getElem hj,List.getElem?_eq_getElem hiD] at h;exact (List.getElem_inj hnd).1 h)
        show (qR L j).R (if D.getD j 0 = D.getD i 0 then v else u (D.getD j 0)) w'
        rw [if_neg hne];refine (qR L j).st _ _ _ (hR j hj ?_) hE;have hjs : j < listed.size:=by omega
        rw [Array.getD_eq_getD_getElem?,Array.getElem?_setIfInBounds_ne (Ne.symm e)] at hjl;rw [Array.getD_eq_getD_getElem?];exact hjl
theorem Ff {w0 w : World} {is : List It} {id : Nat} (m : cR w0 w is) (L : List Cr) (D : List Nat) (pre : List (List Nat)) (hm : P.follows .mixedOrders = true) (hB : Np l.toArray D pre = true)
 (step : ∀ i,i < D.length → ∀ (u : Nat → Value) (w : World) (Q' : Exit → Act → World → Prop),cR w0 w is → (∀ j ∈ pre.getD i [],(qR L j).R (u (D.getD j 0)) w) →
  (∀ v w',dL w w' → (qR L i).R v w' → Q' .normal (Fr ((nZ l0 D u).set (D.getD i 0) v) ds) w') → wpList P l.toArray Q' [(l.toArray[i]?).getD default] (Fr (nZ l0 D u) ds) w)
 (post : ∀ (u : Nat → Value) (w : World),cR w0 w is → (∀ i,i < D.length → (qR L i).R (u (D.getD i 0)) w) → Q .normal (Fr (nZ l0 D u) ds) w) : (Code.region id l.toArray true).wp P Q (Fr l0 ds) w:=by
 refine wp_region_any hm ?_;have h:=Ma (L:=L) (fun _ _ h hE=>cR.ext' h hE) hB step post l.toArray.size (Array.replicate l.toArray.size false) (l0.getD · undef) { w with drawn:=w.drawn + 1 } (by simp) (by simp) (m.ext' (dL.refl w).drawn) (fun i hi h=>by
  have hlen : D.length = l.toArray.size:=by
   simp only[Np,Bool.and_eq_true,decide_eq_true_eq] at hB;exact hB.1.1
  rw [Array.getD_eq_getD_getElem?,Array.getElem?_eq_getElem (by rw [hlen] at hi; simpa using hi)] at h;simp at h)
 rw [Dw] at h;exact h
theorem eI {ops : Array Oper} {i : Nat} {o : Oper} {a : Act} {w : World} (ho : (ops[i]?).getD default = o) (h : wpList P ops Q [o] a w) : wpList P ops Q [(ops[i]?).getD default] a w:=ho ▸ h
end
theorem jK {w : World} {g : Nat} {t : TypeId} {cs : List Value} {zs : List Int} (hB : fW w g cs t) (hc : cs = zs.map (Value.int .i64 ·)) (hi : ∀ z ∈ zs,jG z) : eY w (some ⟨g,0,none⟩) zs.length zs:=by
 subst hc;refine ⟨rfl,hi,fun i z hz=>⟨_,rfl,?_⟩⟩;have:=hB.row 0 i (.int .i64 z) (by rw [List.drop_zero,List.getElem?_map,hz]; rfl);exact this
theorem Cs (w : World) : eY w none 0 []:=⟨rfl,fun _ h=>(by cases h),fun _ _ h=>(by cases h)⟩
theorem sM {w0 w : World} {S : List (Option Nat)} {E : TypeId} {A : Option Addr} {n cap : Nat} {zs : List Int} (h : Ow w0 w S E 1 A n cap (zs.map (Value.int .i64 ·))) (hi : ∀ z ∈ zs,jG z) : eY w A n zs:=by
 have hl:=h.own.1;rw [List.length_map,Nat.mul_one] at hl;exact ⟨hl,hi,fun i z hz=>h.row i _ (by rw [List.getElem?_map,hz]; rfl)⟩
theorem uH {w : World} {g n c : Nat} {t : TypeId} {A : Option Addr} {l : List T3} (hB : fW w g [.slice A n c] t) (h : dK w A n l) (hc : n ≤ c) : jJ w (some ⟨g,0,none⟩) 1 [l]:=by
 refine ⟨rfl,fun i x hx=>?_⟩
 match i,hx with
 | 0,hx=>cases hx; exact ⟨_,⟨A,n,c⟩,rfl,hB.row 0 0 _ rfl,h,hc⟩
theorem xZ {w : World} {g n c n' c' : Nat} {t : TypeId} {A A' : Option Addr} {l l' : List T3} (hB : fW w g [.slice A n c,.slice A' n' c'] t) (h : dK w A n l) (hc : n ≤ c) (h' : dK w A' n' l') (hc' : n' ≤ c') : jJ w (some ⟨g,0,none⟩) 2 [l,l']:=by
 refine ⟨rfl,fun i x hx=>?_⟩
 match i,hx with
 | 0,hx=>cases hx; exact ⟨_,⟨A,n,c⟩,rfl,hB.row 0 0 _ rfl,h,hc⟩
 | 1,hx=>cases hx; exact ⟨_,⟨A',n',c'⟩,rfl,hB.row 0 1 _ rfl,h',hc'⟩
end Go.Lith
namespace Go.Proofs.YtimjandkmfcmiaaGreatDoor
open Tryz
open Go.RowKit Go.Lith
set_option maxRecDepth 100000
attribute [local irreducible] wpList wpQuiet eS dV eG Code.wp
theorem ada (r : fY) (p : P3) : r.to p = ⟨r.w * p.x - r.s.x,r.w * p.y - r.s.y,r.w * p.z - r.s.z⟩:=by
 simp only[fY.to,P3.scl,P3.sub,Int.mul_comm]
def Hr (n : Int) (v : P3) (f : Int) : Int:=if dG n ≠ 0 then dG n else if f * dG v.x ≠ 0 then f * dG v.x else if f * dG v.y ≠ 0 then f * dG v.y else f * dG v.z
theorem Hs {f n : Int} (hf : f = 1 ∨ f = -1) : IntKind.i64.wrap (f * dG n) = f * dG n:=by
 rcases Wl n with h | h | h <;> rcases hf with rfl | rfl <;> (rw [h]; decide)
theorem abm (n : Int) (v : P3) : Hr n v 1 = tH n v:=by
 unfold Hr tH;simp only[Int.one_mul]
 repeat' split
 all_goals first | rfl | (rename_i h; exact Decidable.not_not.1 h)
theorem Mb (n : Int) : dG (0 - n) = -1 * dG n:=by
 unfold dG
 repeat' split
 all_goals omega
theorem abn (n : Int) (v : P3) : Hr n v (-1) = tH n (P3.sub ⟨0,0,0⟩ v):=by
 unfold Hr tH;simp only[P3.sub,Mb]
 repeat' split
 all_goals first | rfl | (rename_i h; exact Decidable.not_not.1 h)
theorem Kc {r : fY} [IR r] : dP prog 75 [lH r] (wv r.d):=by
 intro w;refine ⟨acs,?_⟩;have m:=cR.refl w
 go_enter func75,ntmps75
 refine aF fun K1 k1=>wp_region_lit (cM m rfl ?_);clear m; intro g1 u m;simp only[zz];refine bC m iB rfl ?_;clear m; intro g2 u m;refine aC (k1 _ _ ?_);refine aF fun K2 k2=>?_;simp only[zz];refine dN m 13 aN (by kernel_rfl) ?_;simp only[zy];refine aS (aH (c:=2) fC rfl cS rfl rfl) (aS (aJ eU aM rfl rfl (by decide) (by decide) rfl) ?_);simp only[zz];refine ql rfl (fun u m=>((m.b 1 rfl).lies1 aZ rfl)) ?_;simp only[zz];refine gJ rfl rfl (dO Iw.h) (aS (aH (c:=2) fC rfl cS rfl rfl) (aS (aJ eU aM rfl rfl (by decide) (by decide) rfl) ?_));simp only[zz];refine ql rfl (fun u m=>((m.b 1 rfl).lies1 aZ rfl)) ?_;simp only[zz];refine gJ rfl rfl (dO Iw.h) (aS (aH (c:=2) fC rfl cS rfl rfl) (aS (aJ eU aM rfl rfl (by decide) (by decide) rfl) ?_));simp only[zz];refine ql rfl (fun u m=>((m.b 1 rfl).lies1 aZ rfl)) ?_;simp only[zz];refine gJ rfl rfl (dO Iw.h) (aS (kQ rfl rfl rfl) (dW ?_));clear m; intro u m;simp only[zz];refine aL m 0 rfl rfl rfl cJ (cA rfl) rfl ?_;clear m; intro u m; simp only[zy,zx,aX,zF,zG,Int.reduceToNat,Nat.reduceMul,Nat.zero_add,Nat.reduceAdd] at m;refine aC (k2 _ _ ?_);refine wp_ret ?_;try simp only[Exit.inBlock,Exit.then,if_true]
 refine bU rfl ⟨_,rfl,((m.b 0 rfl).full eK cJ)⟩ ?_;try simp only[zD,zE]
 exact ⟨_,rfl,m.ext,rfl⟩
theorem rO {r : fY} {p : P3} [IR r] [I3 p] : dP prog 76 [lH r,pt p] (wv (r.to p)):=by
 intro w;refine ⟨acu,?_⟩;have m:=cR.refl w
 go_enter func76,ntmps76
 refine aF fun K1 k1=>wp_region_lit (cM m rfl ?_);clear m; intro g1 u m;simp only[zz];refine cM m rfl ?_;clear m; intro g2 u m;simp only[zz];refine bC m iB rfl ?_;clear m; intro g3 u m;refine aC (k1 _ _ ?_);refine aF fun K2 k2=>wp_region_lit (aA (aH (c:=0) fC rfl aM rfl rfl) ?_);simp only[zz];refine aI rfl ((m.b 2 rfl).lies1 aZ rfl) ?_;simp only[zz];refine aW m rfl rfl (dO Iw.h) ?_;clear m; intro u m;simp only[zz];refine bC m cI rfl ?_;clear m; intro g4 u m;simp only[zz];refine aL m 0 rfl rfl rfl aG (cA rfl) rfl ?_;clear m; intro u m; simp only[zy,zx,aX,zF,zG,Int.reduceToNat,Nat.reduceMul,Nat.zero_add,Nat.reduceAdd] at m;refine aC (k2 _ _ ?_);refine aF fun K3 k3=>wp_region_lit (aA (aH (c:=0) bZ rfl aM rfl rfl) ?_);simp only[zz];refine aI rfl ((m.b 2 rfl).lies1 aZ rfl) ?_;simp only[zz];refine aA (aH (c:=0) bZ rfl aM rfl rfl) ?_;simp only[zz];refine aI rfl ((m.b 2 rfl).lies1 aZ rfl) ?_;simp only[zz];refine aA (aH (c:=0) bZ rfl aM rfl rfl) ?_;simp only[zz];refine aI rfl ((m.b 2 rfl).lies1 aZ rfl) ?_;simp only[zz];refine aA (dY rfl rfl rfl) ?_;simp only[zz];refine bC m kP rfl ?_;clear m; intro g5 u m;simp only[zz];refine aL m 0 rfl rfl rfl cS (cA rfl) rfl ?_;clear m; intro u m; simp only[zy,zx,aX,zF,zG,Int.reduceToNat,Nat.reduceMul,Nat.zero_add,Nat.reduceAdd] at m;refine aC (k3 _ _ ?_);refine aF fun K4 k4=>wp_region_lit (aA (aH (c:=0) fC rfl aM rfl rfl) ?_);simp only[zz];refine aI rfl ((m.b 4 rfl).lies1 aZ rfl) ?_;simp only[zz];refine aA (aH (c:=0) fC rfl aM rfl rfl) ?_;simp only[zz];refine aI rfl ((m.b 4 rfl).lies1 aZ rfl) ?_;simp only[zz];refine aA (aH (c:=0) fC rfl aM rfl rfl) ?_;simp only[zz];refine aI rfl ((m.b 4 rfl).lies1 aZ rfl) ?_;simp only[zz];refine aA (dY rfl rfl rfl) ?_;simp only[zz];refine bC m kP rfl ?_;clear m; intro g6 u m;simp only[zz];refine aL m 0 rfl rfl rfl cS (cA rfl) rfl ?_;clear m; intro u m; simp only[zy,zx,aX,zF,zG,Int.reduceToNat,Nat.reduceMul,Nat.zero_add,Nat.reduceAdd] at m;refine aC (k4 _ _ ?_);refine aF fun K5 k5=>wp_region_lit (bC m iB rfl ?_);clear m; intro g7 u m;refine aC (k5 _ _ ?_);refine aF fun K6 k6=>aF fun K7 k7=>wp_region_lit (aA (aD) (aC (k7 _ _ ?_)));refine wp_block (wp_loop_rounds 4 (dQ (aF fun K8 k8=>aF fun K9 k9=>wp_region_lit (aA (aB) (aA (cK (m:=0) (n:=3) rfl rfl (by decide)) ?_)))));simp only[zz];refine aC (k9 _ _ ?_);refine bX rfl (wp_skip (k8 _ _ ?_));refine aF fun K10 k10=>wp_block ?_;refine dN m 13 aN (by kernel_rfl) ?_;simp only[zy];refine aS (aB) ?_;simp only[zz];refine ql rfl (fun u m=>((m.b 3 rfl).full aR aG)) ?_;simp only[zz];refine aS (aB) (aS (aJ eU aM rfl rfl (by decide) (by decide) rfl) ?_);simp only[zz];refine ql rfl (fun u m=>((m.b 2 rfl).lies1 aZ rfl)) ?_;simp only[zz];refine gJ rfl rfl (dO Iw.h) ?_;simp only[zz];refine gJ rfl rfl (fZ Bw.up Bw.up) (aS (aB) (aS (aJ eU aM rfl rfl (by decide) (by decide) rfl) ?_));simp only[zz];refine ql rfl (fun u m=>((m.b 1 rfl).lies1 aZ rfl)) ?_;simp only[zz];refine gJ rfl rfl (dO Iw.h) ?_;simp only[zz];refine gJ rfl rfl (lY Bw.up Bw.up) (aS (aJ dT aG rfl rfl (by decide) (by decide) rfl) (dW ?_));clear m; intro u m;simp only[zz];refine aL m 0 rfl rfl rfl aG (cA rfl) rfl ?_;clear m; intro u m; simp only[zy,zx,aX,zF,zG,Int.reduceToNat,Nat.reduceMul,Nat.zero_add,Nat.reduceAdd] at m;refine aC (k10 _ _ ?_);refine wp_region_lit (aA (aB) (aA (bD (m:=0) (n:=1) (r:=1) rfl rfl (by decide)) (aA (aD) (aC (bF (aF fun K11 k11=>aF fun K12 k12=>wp_region_lit (aA (aB) ?_)))))));simp only[zz];refine aA (cK (m:=1) (n:=3) rfl rfl (by decide)) (aC (k12 _ _ ?_));refine bX rfl (wp_skip (k11 _ _ ?_));refine aF fun K13 k13=>wp_block ?_;simp only[zz];refine dN m 13 aN (by kernel_rfl) ?_;simp only[zy];refine aS (aB) ?_;simp only[zz];refine ql rfl (fun u m=>((m.b 3 rfl).full aR aG)) ?_;simp only[zz];refine aS (aB) (aS (aJ eU aM rfl rfl (by decide) (by decide) rfl) ?_);simp only[zz];refine ql rfl (fun u m=>((m.b 2 rfl).lies1 aZ rfl)) ?_;simp only[zz];refine gJ rfl rfl (dO Iw.h) ?_;simp only[zz];refine gJ rfl rfl (fZ Bw.up Bw.up) (aS (aB) (aS (aJ eU aM rfl rfl (by decide) (by decide) rfl) ?_));simp only[zz];refine ql rfl (fun u m=>((m.b 1 rfl).lies1 aZ rfl)) ?_;simp only[zz];refine gJ rfl rfl (dO Iw.h) ?_;simp only[zz];refine gJ rfl rfl (lY Bw.up Bw.up) (aS (aJ dT aG rfl rfl (by decide) (by decide) rfl) (dW ?_));clear m; intro u m;simp only[zz];refine aL m 0 rfl rfl rfl aG (cA rfl) rfl ?_;clear m; intro u m; simp only[zy,zx,aX,zF,zG,Int.reduceToNat,Nat.reduceMul,Nat.zero_add,Nat.reduceAdd] at m;refine aC (k13 _ _ ?_);refine wp_region_lit (aA (aB) (aA (bD (m:=1) (n:=1) (r:=2) rfl rfl (by decide)) (aA (aD) (aC (bF (aF fun K14 k14=>aF fun K15 k15=>wp_region_lit (aA (aB) ?_)))))));simp only[zz];refine aA (cK (m:=2) (n:=3) rfl rfl (by decide)) (aC (k15 _ _ ?_));refine bX rfl (wp_skip (k14 _ _ ?_));refine aF fun K16 k16=>wp_block ?_;simp only[zz];refine dN m 13 aN (by kernel_rfl) ?_;simp only[zy];refine aS (aB) ?_;simp only[zz];refine ql rfl (fun u m=>((m.b 3 rfl).full aR aG)) ?_;simp only[zz];refine aS (aB) (aS (aJ eU aM rfl rfl (by decide) (by decide) rfl) ?_);simp only[zz];refine ql rfl (fun u m=>((m.b 2 rfl).lies1 aZ rfl)) ?_;simp only[zz];refine gJ rfl rfl (dO Iw.h) ?_;simp only[zz];refine gJ rfl rfl (fZ Bw.up Bw.up) (aS (aB) (aS (aJ eU aM rfl rfl (by decide) (by decide) rfl) ?_));simp only[zz];refine ql rfl (fun u m=>((m.b 1 rfl).lies1 aZ rfl)) ?_;simp only[zz];refine gJ rfl rfl (dO Iw.h) ?_;simp only[zz];refine gJ rfl rfl (lY Bw.up Bw.up) (aS (aJ dT aG rfl rfl (by decide) (by decide) rfl) (dW ?_));clear m; intro u m;simp only[zz];refine aL m 0 rfl rfl rfl aG (cA rfl) rfl ?_;clear m; intro u m; simp only[zy,zx,aX,zF,zG,Int.reduceToNat,Nat.reduceMul,Nat.zero_add,Nat.reduceAdd] at m;refine aC (k16 _ _ ?_);refine wp_region_lit (aA (aB) (aA (bD (m:=2) (n:=1) (r:=3) rfl rfl (by decide)) (aA (aD) (aC (bF (aF fun K17 k17=>aF fun K18 k18=>wp_region_lit (aA (aB) ?_)))))));simp only[zz];refine aA (fA (m:=3) (n:=3) rfl rfl (by decide)) (aC (k18 _ _ ?_));refine eQ rfl (wp_exit (k6 _ _ ?_));refine aF fun K19 k19=>wp_region_lit ?_;simp only[zz];refine aI rfl ((m.b 0 rfl).full eK cJ) ?_;simp only[zz];refine aL m 4 rfl rfl rfl cJ (cA rfl) rfl ?_;clear m; intro u m; simp only[zy,zx,aX,zF,zG,Int.reduceToNat,Nat.reduceMul,Nat.zero_add,Nat.reduceAdd] at m;refine aC (k19 _ _ ?_);refine wp_ret ?_;try simp only[Exit.inBlock,Exit.then,if_true]
 refine bU rfl ⟨_,rfl,((m.b 4 rfl).full eK cJ)⟩ ?_;try simp only[zD,zE]
 exact ⟨_,rfl,m.ext,by rw [ada]; rfl⟩
theorem Fg {n : Int} {v : P3} {f : Int} (hn : Bd 400000 n) (hv : Bv 400000 v) (hf : f = 1 ∨ f = -1) : dP prog 80 [W n,wv v,.int .i64 f] (.int .i64 (Hr n v f)):=by
 intro w;refine ⟨acy,?_⟩;have m:=cR.refl w
 go_enter func80,ntmps80
 refine aF fun K1 k1=>wp_region_lit (cM m rfl ?_);clear m; intro g1 u m;simp only[zz];refine cM m rfl ?_;clear m; intro g2 u m;refine aA (aD) (aC (k1 _ _ ?_));refine aF fun K2 k2=>wp_region_lit ?_;simp only[zz];refine aI rfl ((m.b 1 rfl).full aR aG) ?_;simp only[zz];refine aW m rfl rfl (lQ (a:=n) (hn.mono (by decide))) ?_;clear m; intro u m;refine aA (aD) (aC (k2 _ _ ?_));refine aF fun K3 k3=>aF fun K4 k4=>wp_region_lit (aA (aD) (aC (k4 _ _ ?_)));refine wp_block (wp_loop_rounds 4 (dQ (aF fun K5 k5=>aF fun K6 k6=>wp_region_lit (aA (aB) ?_))));simp only[zz];refine aA (cK (m:=0) (n:=3) rfl rfl (by decide)) (aA (aB) (aP rfl (aA (aB) (aP rfl (aA (nA rfl rfl) ?_)))));simp only[zz];refine aA (cG rfl) (aC (k6 _ _ ?_));simp only[zz];refine cQ rfl (fun hc1=>?_) (fun hc1=>?_)
 ·
  have e0:=hc1;refine wp_skip (k5 _ _ ?_);refine aF fun K7 k7=>wp_block (wp_region_lit (aA (aB) (aA (aB) (aA (aJ dT aG rfl rfl (by decide) (by decide) rfl) ?_))));simp only[zz];refine aI rfl ((m.b 0 rfl).lies aR aG rfl rfl) ?_;simp only[zz,zy,Nat.zero_add,Nat.reduceAdd,Nat.reduceMul,Int.reduceToNat];refine aW m rfl rfl (lQ (a:=v.x) (hv.x.mono (by decide))) ?_;clear m; intro u m;refine aA (lB rfl rfl (Hs hf)) (aA (aD) (aC (k7 _ _ ?_)));refine wp_region_lit (aA (aB) ?_);simp only[zz];refine aA (bD (m:=0) (n:=1) (r:=1) rfl rfl (by decide)) (aA (aD) (aC (bF (aF fun K8 k8=>aF fun K9 k9=>wp_region_lit (aA (aB) (aA (cK (m:=1) (n:=3) rfl rfl (by decide)) ?_))))));simp only[zz];refine aA (aB) (aP rfl (aA (aB) (aP rfl (aA (nA rfl rfl) (aA (cG rfl) ?_)))));simp only[zz];refine aC (k9 _ _ ?_);refine cQ rfl (fun hc1=>?_) (fun hc1=>?_)
  ·
   have e1:=hc1;refine wp_skip (k8 _ _ ?_);refine aF fun K10 k10=>wp_block (wp_region_lit (aA (aB) (aA (aB) (aA (aJ dT aG rfl rfl (by decide) (by decide) rfl) ?_))));simp only[zz];refine aI rfl ((m.b 0 rfl).lies aR aG rfl rfl) ?_;simp only[zz,zy,Nat.zero_add,Nat.reduceAdd,Nat.reduceMul,Int.reduceToNat];refine aW m rfl rfl (lQ (a:=v.y) (hv.y.mono (by decide))) ?_;clear m; intro u m;refine aA (lB rfl rfl (Hs hf)) (aA (aD) (aC (k10 _ _ ?_)));refine wp_region_lit (aA (aB) ?_);simp only[zz];refine aA (bD (m:=1) (n:=1) (r:=2) rfl rfl (by decide)) (aA (aD) (aC (bF (aF fun K11 k11=>aF fun K12 k12=>wp_region_lit (aA (aB) (aA (cK (m:=2) (n:=3) rfl rfl (by decide)) ?_))))));simp only[zz];refine aA (aB) (aP rfl (aA (aB) (aP rfl (aA (nA rfl rfl) (aA (cG rfl) ?_)))));simp only[zz];refine aC (k12 _ _ ?_);refine cQ rfl (fun hc1=>?_) (fun hc1=>?_)
   ·
    have e2:=hc1;refine wp_skip (k11 _ _ ?_);refine aF fun K13 k13=>wp_block (wp_region_lit (aA (aB) (aA (aB) (aA (aJ dT aG rfl rfl (by decide) (by decide) rfl) ?_))));simp only[zz];refine aI rfl ((m.b 0 rfl).lies aR aG rfl rfl) ?_;simp only[zz,zy,Nat.zero_add,Nat.reduceAdd,Nat.reduceMul,Int.reduceToNat];refine aW m rfl rfl (lQ (a:=v.z) (hv.z.mono (by decide))) ?_;clear m; intro u m;refine aA (lB rfl rfl (Hs hf)) (aA (aD) (aC (k13 _ _ ?_)));refine wp_region_lit (aA (aB) ?_);simp only[zz];refine aA (bD (m:=2) (n:=1) (r:=3) rfl rfl (by decide)) (aA (aD) (aC (bF (aF fun K14 k14=>aF fun K15 k15=>wp_region_lit (aA (aB) (aA (fA (m:=3) (n:=3) rfl rfl (by decide)) ?_))))));simp only[zz];refine aA (aB) (bM rfl (bM rfl (aA (cO rfl) ?_)));simp only[zz];refine aC (k15 _ _ ?_);refine eQ rfl (wp_exit (k3 _ _ ?_));refine aF fun K16 k16=>wp_region_lit (aA (aB) (aA (aD) (aC (k16 _ _ ?_))));refine wp_ret ?_;simp only[zz];try simp only[Exit.inBlock,Exit.then,if_true]
    refine bU rfl rfl ?_;try simp only[zD,zE]
    exact ⟨_,rfl,m.ext,by rw [Hr,if_neg (fun h=>h e0),if_neg (fun h=>h e1),if_neg (fun h=>h e2)]⟩
   ·
    refine wp_exit (k3 _ _ ?_);refine aF fun K17 k17=>wp_region_lit (aA (aB) (aA (aD) (aC (k17 _ _ ?_))));refine wp_ret ?_;simp only[zz];try simp only[Exit.inBlock,Exit.then,if_true]
    refine bU rfl rfl ?_;try simp only[zD,zE]
    exact ⟨_,rfl,m.ext,by rw [Hr,if_neg (fun h=>h e0),if_neg (fun h=>h e1),if_pos hc1]⟩
  ·
   refine wp_exit (k3 _ _ ?_);refine aF fun K18 k18=>wp_region_lit (aA (aB) (aA (aD) (aC (k18 _ _ ?_))));refine wp_ret ?_;simp only[zz];try simp only[Exit.inBlock,Exit.then,if_true]
   refine bU rfl rfl ?_;try simp only[zD,zE]
   exact ⟨_,rfl,m.ext,by rw [Hr,if_neg (fun h=>h e0),if_pos hc1]⟩
 ·
  refine wp_exit (k3 _ _ ?_);refine aF fun K19 k19=>wp_region_lit (aA (aB) (aA (aD) (aC (k19 _ _ ?_))));refine wp_ret ?_;simp only[zz];try simp only[Exit.inBlock,Exit.then,if_true]
  refine bU rfl rfl ?_;try simp only[zD,zE]
  exact ⟨_,rfl,m.ext,by rw [Hr,if_pos hc1]⟩
theorem uI {d p q : P3} (hd : Bv 200 d) (hp : Bv 200 p) (hq : Bv 200 q) : dP prog 77 [wv d,wv p,wv q] (.int .i64 (tI d p q)):=by
 intro w;refine ⟨acv,?_⟩;have m:=cR.refl w
 go_enter func77,ntmps77
 refine aF fun K1 k1=>wp_region_lit (cM m rfl ?_);clear m; intro g1 u m;simp only[zz];refine cM m rfl ?_;clear m; intro g2 u m;simp only[zz];refine cM m rfl ?_;clear m; intro g3 u m;refine aA (aD) (aC (k1 _ _ ?_));refine aF fun K2 k2=>wp_region_lit ?_;simp only[zz];refine bC m iB rfl ?_;clear m; intro g4 u m;refine aC (k2 _ _ ?_);refine aF fun K3 k3=>aF fun K4 k4=>wp_region_lit (aA (aD) (aC (k4 _ _ ?_)));refine wp_block (wp_loop_rounds 4 (dQ (aF fun K5 k5=>aF fun K6 k6=>wp_region_lit (aA (aB) (aA (cK (m:=0) (n:=3) rfl rfl (by decide)) ?_)))));simp only[zz];refine aC (k6 _ _ ?_);refine bX rfl (wp_skip (k5 _ _ ?_));refine aF fun K7 k7=>wp_block ?_;refine dN m 9 aN (by kernel_rfl) ?_;simp only[zy];refine aS (aB) (aS (aB) (aS (aJ dT aG rfl rfl (by decide) (by decide) rfl) ?_));simp only[zz];refine ql rfl (fun u m=>((m.b 1 rfl).lies aR aG rfl rfl)) ?_;simp only[zz,zy,Nat.zero_add,Nat.reduceAdd,Nat.reduceMul,Int.reduceToNat];refine aS (aB) (aS (aJ dT aG rfl rfl (by decide) (by decide) rfl) ?_);simp only[zz];refine ql rfl (fun u m=>((m.b 2 rfl).lies aR aG rfl rfl)) ?_;simp only[zz,zy,Nat.zero_add,Nat.reduceAdd,Nat.reduceMul,Int.reduceToNat];refine gJ rfl rfl (lY Bw.up Bw.up) (aS (aJ dT aG rfl rfl (by decide) (by decide) rfl) (dW ?_));clear m; intro u m;simp only[zz];refine aL m 0 rfl rfl rfl aG (cA rfl) rfl ?_;clear m; intro u m; simp only[zy,zx,aX,zF,zG,Int.reduceToNat,Nat.reduceMul,Nat.zero_add,Nat.reduceAdd] at m;refine aC (k7 _ _ ?_);refine wp_region_lit (aA (aB) (aA (bD (m:=0) (n:=1) (r:=1) rfl rfl (by decide)) (aA (aD) (aC (bF (aF fun K8 k8=>aF fun K9 k9=>wp_region_lit (aA (aB) ?_)))))));simp only[zz];refine aA (cK (m:=1) (n:=3) rfl rfl (by decide)) (aC (k9 _ _ ?_));refine bX rfl (wp_skip (k8 _ _ ?_));refine aF fun K10 k10=>wp_block ?_;simp only[zz];refine dN m 9 aN (by kernel_rfl) ?_;simp only[zy];refine aS (aB) (aS (aB) (aS (aJ dT aG rfl rfl (by decide) (by decide) rfl) ?_));simp only[zz];refine ql rfl (fun u m=>((m.b 1 rfl).lies aR aG rfl rfl)) ?_;simp only[zz,zy,Nat.zero_add,Nat.reduceAdd,Nat.reduceMul,Int.reduceToNat];refine aS (aB) (aS (aJ dT aG rfl rfl (by decide) (by decide) rfl) ?_);simp only[zz];refine ql rfl (fun u m=>((m.b 2 rfl).lies aR aG rfl rfl)) ?_;simp only[zz,zy,Nat.zero_add,Nat.reduceAdd,Nat.reduceMul,Int.reduceToNat];refine gJ rfl rfl (lY Bw.up Bw.up) (aS (aJ dT aG rfl rfl (by decide) (by decide) rfl) (dW ?_));clear m; intro u m;simp only[zz];refine aL m 0 rfl rfl rfl aG (cA rfl) rfl ?_;clear m; intro u m; simp only[zy,zx,aX,zF,zG,Int.reduceToNat,Nat.reduceMul,Nat.zero_add,Nat.reduceAdd] at m;refine aC (k10 _ _ ?_);refine wp_region_lit (aA (aB) (aA (bD (m:=1) (n:=1) (r:=2) rfl rfl (by decide)) (aA (aD) (aC (bF (aF fun K11 k11=>aF fun K12 k12=>wp_region_lit (aA (aB) ?_)))))));simp only[zz];refine aA (cK (m:=2) (n:=3) rfl rfl (by decide)) (aC (k12 _ _ ?_));refine bX rfl (wp_skip (k11 _ _ ?_));refine aF fun K13 k13=>wp_block ?_;simp only[zz];refine dN m 9 aN (by kernel_rfl) ?_;simp only[zy];refine aS (aB) (aS (aB) (aS (aJ dT aG rfl rfl (by decide) (by decide) rfl) ?_));simp only[zz];refine ql rfl (fun u m=>((m.b 1 rfl).lies aR aG rfl rfl)) ?_;simp only[zz,zy,Nat.zero_add,Nat.reduceAdd,Nat.reduceMul,Int.reduceToNat];refine aS (aB) (aS (aJ dT aG rfl rfl (by decide) (by decide) rfl) ?_);simp only[zz];refine ql rfl (fun u m=>((m.b 2 rfl).lies aR aG rfl rfl)) ?_;simp only[zz,zy,Nat.zero_add,Nat.reduceAdd,Nat.reduceMul,Int.reduceToNat];refine gJ rfl rfl (lY Bw.up Bw.up) (aS (aJ dT aG rfl rfl (by decide) (by decide) rfl) (dW ?_));clear m; intro u m;simp only[zz];refine aL m 0 rfl rfl rfl aG (cA rfl) rfl ?_;clear m; intro u m; simp only[zy,zx,aX,zF,zG,Int.reduceToNat,Nat.reduceMul,Nat.zero_add,Nat.reduceAdd] at m;refine aC (k13 _ _ ?_);refine wp_region_lit (aA (aB) (aA (bD (m:=2) (n:=1) (r:=3) rfl rfl (by decide)) (aA (aD) (aC (bF (aF fun K14 k14=>aF fun K15 k15=>wp_region_lit (aA (aB) ?_)))))));simp only[zz];refine aA (fA (m:=3) (n:=3) rfl rfl (by decide)) (aC (k15 _ _ ?_));refine eQ rfl (wp_exit (k3 _ _ ?_));refine aF fun K16 k16=>?_;simp only[zz];refine mq m aN (by kernel_rfl) (ql rfl (fun u m=>((m.b 3 rfl).full eK cJ)) ?_);simp only[zz];refine ql rfl (fun u m=>((m.b 2 rfl).full eK cJ)) ?_;simp only[zz];refine ql rfl (fun u m=>((m.b 1 rfl).full eK cJ)) ?_;simp only[zz];refine gJ rfl rfl (Ka Bv.of Bv.of) ?_;simp only[zz];refine gJ rfl rfl (Lz Bv.of Bv.of) ?_;simp only[zz];refine ql rfl (fun u m=>((m.b 3 rfl).full eK cJ)) ?_;simp only[zz];refine ql rfl (fun u m=>((m.b 0 rfl).full eK cJ)) ?_;simp only[zz];refine gJ rfl rfl (Ka (u:=d) (v:=q.sub p) Bv.of Bv.of) ?_;simp only[zz];refine gJ rfl rfl (Fg (n:=d.dot (p.cross q)) (v:=d.cross (q.sub p)) (f:=1) Bw.up Bv.of (.inl rfl)) (aS (aD) (dW ?_));clear m; intro u m;refine k16 _ _ (wp_ret ?_);simp only[zz];try simp only[Exit.inBlock,Exit.then,if_true]
 refine bU rfl rfl ?_;try simp only[zD,zE]
 exact ⟨_,rfl,m.ext,by rw [abm]; rfl⟩
end Go.Proofs.YtimjandkmfcmiaaGreatDoor
namespace Go.Lith
open Go.RowKit
instance (a : Int) : Decidable (jG a):=inferInstanceAs (Decidable (_ ∧ _))
def Mc (a : Int) : Int:=if jG a then a else 0
theorem Xl {a : Int} {X : Nat} (h : X = a.natAbs) (hl : 4 < (digs 65536 X).length) : ¬ jG a:=fun k=>by
 have h1 : X < 65536 ^ 4:=by have:=k.natAbs; rw [← h] at this; omega
 have h2:=eO (B:=65536) (by omega) h1;omega
theorem Ug {X j : Nat} (hl : (digs 65536 X).length ≤ 4) (hd : dD 65536 (digs 65536 X)) (hj : j < (digs 65536 X).length) : val 65536 ((digs 65536 X).drop (j + 1)) < 281474976710656:=by
 have h1:=jC (hd.drop (j + 1));have h2 : ((digs 65536 X).drop (j + 1)).length ≤ 3:=by rw [List.length_drop]; omega
 have h3 : 65536 ^ ((digs 65536 X).drop (j + 1)).length ≤ 65536 ^ 3:=Nat.pow_le_pow_right (by omega) h2;omega
theorem abo {X : Nat} (hl : (digs 65536 X).length ≤ 4) (h : X < 65536 ^ (digs 65536 X).length) : X < 18446744073709551616:=by
 have h3 : 65536 ^ (digs 65536 X).length ≤ 65536 ^ 4:=Nat.pow_le_pow_right (by omega) hl;omega
theorem Pz {a : Int} {X : Nat} (h : X = a.natAbs) : (cN a = true ∧ X ≤ 9223372036854775808 ∧ jG a ∧ a = -(X : Int)) ∨ (cN a = true ∧ 9223372036854775808 < X ∧ ¬ jG a) ∨
 (cN a = false ∧ 9223372036854775808 ≤ X ∧ ¬ jG a) ∨ (cN a = false ∧ X < 9223372036854775808 ∧ jG a ∧ a = (X : Int)):=by
 unfold jG cN;rcases Int.lt_or_le a 0 with h0 | h0
 · rw [decide_eq_true h0]
   rcases Nat.lt_or_ge 9223372036854775808 X with h1 | h1
   · exact .inr (.inl ⟨rfl,h1,by omega⟩)
   · exact .inl ⟨rfl,h1,by omega,by omega⟩
 · rw [decide_eq_false (by omega)]
   rcases Nat.lt_or_ge X 9223372036854775808 with h1 | h1
   · exact .inr (.inr (.inr ⟨rfl,h1,by omega,by omega⟩))
   · exact .inr (.inr (.inl ⟨rfl,h1,by omega⟩))
theorem Md {a : Int} (h : ¬ jG a) : Value.tuple #[.int .i64 0,.bool false] = .tuple #[.int .i64 (Mc a),.bool (decide (jG a))]:=by rw [Mc,if_neg h,decide_eq_false h]
theorem Nq {a n : Int} (h : jG a) (e : n = a) : Value.tuple #[.int .i64 n,.bool true] = .tuple #[.int .i64 (Mc a),.bool (decide (jG a))]:=by rw [Mc,if_pos h,decide_eq_true h,e]
theorem Uh {X : Nat} (h : X ≤ 9223372036854775808) : IntKind.i64.wrap (IntKind.u64.wrap (0 - (X : Int))) = -(X : Int):=by
 rw [jO];simp [IntKind.wrap,IntKind.bits,IntKind.signed];split <;> omega
theorem Ui {v x V : Nat} (h : v = x + 65536 * V) : ((V : Int) * 65536 + (x : Int)) = (v : Int):=by subst h; rw [Int.natCast_add,Int.natCast_mul]; omega
end Go.Lith
namespace Go.Proofs.YtimjandkmfcmiaaGreatDoor
open Tryz
open Go.RowKit Go.Lith
set_option maxRecDepth 100000
attribute [local irreducible] wpList wpQuiet eS Code.wp
theorem Ht {a : Int} (ha : Bd 1000000 a) : dP prog 85 [W a] (.tuple #[.int .i64 (Mc a),.bool (decide (jG a))]):=by
 intro w;refine ⟨acC,?_⟩;have hX:=dL.refl w;have hla : (digs 65536 a.natAbs).length ≤ 1000000:=kF ha;obtain ⟨X,hXa⟩ : ∃ X,X = a.natAbs:=⟨_,rfl⟩
 rw [← hXa] at hla;have hXd : X < 65536 ^ (digs 65536 X).length:=by have:=jC (pX X); rwa [cU] at this
 have hdd:=pX X
 go_enter func85,ntmps85
 refine aF (fun K1 hK1=>?_);refine wp_region_lit ?_;refine gK (by simp only[cL,bP,bV,List.getD_cons_succ,List.getD_cons_zero]; rfl) ?_;intro w1 g1 hE hg1 hB1;have hG1:=Nat.le_trans hX.size hg1;replace hX:=hX.trans hE;clear hE hg1;simp only[cL,bP,bV,List.getD_cons_succ,List.getD_cons_zero,List.set_cons_succ,List.set_cons_zero];refine aA (aD) ?_;simp only[cL,bP,bV,List.getD_cons_succ,List.getD_cons_zero,List.set_cons_succ,List.set_cons_zero];refine aA (aD) ?_;simp only[cL,bP,bV,List.getD_cons_succ,List.getD_cons_zero,List.set_cons_succ,List.set_cons_zero];refine aC (hK1 _ _ ?_);refine aF (fun K2 hK2=>?_);refine wp_region_lit (aI rfl (hB1.lies aR aG rfl rfl) ?_);simp only[cL,bP,bV,List.getD_cons_succ,List.getD_cons_zero,List.set_cons_succ,List.set_cons_zero];refine bS rfl rfl (kW _ (fF ha)) ?_;rintro v w2 hE ⟨A4,c4,rfl,hD4⟩;replace hB1:=hB1.ext hE; (try replace hD4:=hD4.ext hE); replace hX:=hX.trans hE;clear hE;rw [fE,← hXa] at hD4 ⊢;simp only[cL,bP,bV,List.getD_cons_succ,List.getD_cons_zero,List.set_cons_succ,List.set_cons_zero];refine aA (aD) ?_;simp only[cL,bP,bV,List.getD_cons_succ,List.getD_cons_zero,List.set_cons_succ,List.set_cons_zero];refine aC (hK2 _ _ ?_);refine aF (fun K3 hK3=>?_);refine aF (fun K4 hK4=>?_);refine wp_region_lit (aA (aB) ?_);simp only[cL,bP,bV,List.getD_cons_succ,List.getD_cons_zero,List.set_cons_succ,List.set_cons_zero];refine aA (bR rfl bN rfl) ?_;simp only[cL,bP,bV,List.getD_cons_succ,List.getD_cons_zero,List.set_cons_succ,List.set_cons_zero];refine aA (gS rfl rfl) ?_;simp only[cL,bP,bV,List.getD_cons_succ,List.getD_cons_zero,List.set_cons_succ,List.set_cons_zero];refine aC (hK4 _ _ ?_);refine cQ rfl (fun hc1=>?_) (fun hc1=>?_)
 ·
  have hbig : ¬ jG a:=Xl hXa (by omega);refine aF (fun K5 hK5=>?_);refine wp_region_lit (aA (aD) ?_);simp only[cL,bP,bV,List.getD_cons_succ,List.getD_cons_zero,List.set_cons_succ,List.set_cons_zero];refine aA (aD) ?_;simp only[cL,bP,bV,List.getD_cons_succ,List.getD_cons_zero,List.set_cons_succ,List.set_cons_zero];refine aC (hK5 _ _ ?_);refine wp_ret ?_;try simp only[Exit.inBlock,Exit.then]
  refine jL rfl rfl rfl ?_;try simp only[List.getD_cons_succ,List.getD_cons_zero]
  exact ⟨_,rfl,hX,Md hbig⟩
 ·
  have hl4 : (digs 65536 X).length ≤ 4:=by omega
  refine wp_skip ?_;refine hK3 _ _ (aF (fun K6 hK6=>?_));refine wp_region_lit (aA (aD) ?_);simp only[cL,bP,bV,List.getD_cons_succ,List.getD_cons_zero,List.set_cons_succ,List.set_cons_zero];refine aC (hK6 _ _ ?_);refine aF (fun K7 hK7=>?_);refine aF (fun K8 hK8=>?_);refine wp_region_lit (aA (aB) ?_);simp only[cL,bP,bV,List.getD_cons_succ,List.getD_cons_zero,List.set_cons_succ,List.set_cons_zero];refine aA (bR rfl bN rfl) ?_;simp only[cL,bP,bV,List.getD_cons_succ,List.getD_cons_zero,List.set_cons_succ,List.set_cons_zero];refine aA (dU rfl rfl (aQ (by omega) (by omega))) ?_;simp only[cL,bP,bV,List.getD_cons_succ,List.getD_cons_zero,List.set_cons_succ,List.set_cons_zero];refine aA (aD) ?_;simp only[cL,bP,bV,List.getD_cons_succ,List.getD_cons_zero,List.set_cons_succ,List.set_cons_zero];refine aC (hK8 _ _ ?_);refine wp_block (dI [5,6] [15,16,17,18,19,20,21,22,23,24,25,26] (fun n vs wl=>∃ (k : Nat),vs = [.int .u64 ((val 65536 ((digs 65536 X).drop k) : Nat) : Int),.int .i64 ((k:Int) - 1)] ∧ (dL w wl) ∧ (fW wl g1 [.bool (cN a),.string (cX a)] 35) ∧ (dC wl wl.heap.size A4 (digs 65536 X).length c4 (digs 65536 X)) ∧ (k ≤ (digs 65536 X).length) ∧ (n = k)) ?_ ?_)
  ·
   rw [show (0 : Int) = ((val 65536 ((digs 65536 X).drop (digs 65536 X).length) : Nat) : Int) by rw [List.drop_length]; rfl];apply Exists.intro;simp only[List.map_cons,List.map_nil,List.getD_cons_succ,List.getD_cons_zero];exact ⟨(digs 65536 X).length,rfl,hX,hB1,hD4.here,Nat.le_refl _,rfl⟩
  ·
   intro n vs wr hI u;obtain ⟨k,rfl,hX,hB1,hD4,hk,hn⟩:=hI;simp only[zv,List.set_cons_succ,List.set_cons_zero];refine aF (fun K9 hK9=>?_);refine aF (fun K10 hK10=>?_);refine wp_region_lit (aA (aB) ?_);simp only[cL,bP,bV,List.getD_cons_succ,List.getD_cons_zero,List.set_cons_succ,List.set_cons_zero];refine aA (lC rfl rfl) ?_;simp only[cL,bP,bV,List.getD_cons_succ,List.getD_cons_zero,List.set_cons_succ,List.set_cons_zero];refine aC (hK10 _ _ ?_);refine cQ rfl (fun hc2=>?_) (fun hc2=>?_)
   ·
    obtain ⟨j,rfl⟩ : ∃ j,k = j + 1:=⟨k - 1,by omega⟩
    rw [show (((j + 1 : Nat) : Int) - 1) = (j : Int) by omega];obtain ⟨p,rfl,hca,hlt⟩:=hD4.get (show j < (digs 65536 X).length by omega);have hvp:=jP (B:=65536) (xs:=digs 65536 X) (k:=j + 1) (by omega) (by simp only[Nat.add_sub_cancel]; omega);simp only[Nat.add_sub_cancel] at hvp;have hvl:=Ug (j:=j) hl4 hdd (by omega);obtain ⟨V,hV⟩ : ∃ V,V = val 65536 ((digs 65536 X).drop (j + 1)):=⟨_,rfl⟩
    obtain ⟨x,hx⟩ : ∃ x,x = (digs 65536 X)[j]:=⟨_,rfl⟩
    rw [← hV,← hx] at hvp;rw [← hV] at hvl;rw [← hV];rw [← hx] at hca hlt;refine wp_skip (hK9 _ _ ?_);refine aF (fun K11 hK11=>?_);refine wp_block (wp_region_lit ?_);refine aA (aB) ?_;simp only[cL,bP,bV,List.getD_cons_succ,List.getD_cons_zero,List.set_cons_succ,List.set_cons_zero];refine aA (lB rfl rfl (fX (by omega) (by omega))) ?_;simp only[cL,bP,bV,List.getD_cons_succ,List.getD_cons_zero,List.set_cons_succ,List.set_cons_zero];refine aA (aB) ?_;simp only[cL,bP,bV,List.getD_cons_succ,List.getD_cons_zero,List.set_cons_succ,List.set_cons_zero];refine aA (aB) ?_;simp only[cL,bP,bV,List.getD_cons_succ,List.getD_cons_zero,List.set_cons_succ,List.set_cons_zero];refine aA (aU bN aM rfl rfl (by omega) (by omega) (fT (Int.toNat_natCast _))) ?_;simp only[cL,bP,bV,List.getD_cons_succ,List.getD_cons_zero,List.set_cons_succ,List.set_cons_zero];refine aI rfl (lies1 hca aZ) ?_;simp only[cL,bP,bV,List.getD_cons_succ,List.getD_cons_zero,List.set_cons_succ,List.set_cons_zero];refine aA (eL gM jB rfl (fX (by omega) (by omega))) ?_;simp only[cL,bP,bV,List.getD_cons_succ,List.getD_cons_zero,List.set_cons_succ,List.set_cons_zero];refine aA (bD rfl rfl (fX (by omega) (by omega))) ?_;simp only[cL,bP,bV,List.getD_cons_succ,List.getD_cons_zero,List.set_cons_succ,List.set_cons_zero];refine aA (aD) ?_;simp only[cL,bP,bV,List.getD_cons_succ,List.getD_cons_zero,List.set_cons_succ,List.set_cons_zero];refine aC (hK11 _ _ ?_);refine wp_region_lit (aA (aB) ?_);simp only[cL,bP,bV,List.getD_cons_succ,List.getD_cons_zero,List.set_cons_succ,List.set_cons_zero];refine aA (dU rfl rfl (aQ (by omega) (by omega))) ?_;simp only[cL,bP,bV,List.getD_cons_succ,List.getD_cons_zero,List.set_cons_succ,List.set_cons_zero];refine aA (aD) ?_;simp only[cL,bP,bV,List.getD_cons_succ,List.getD_cons_zero,List.set_cons_succ,List.set_cons_zero];refine aC ?_;rw [show ((V : Int) * 65536 + (x : Int)) = ((val 65536 ((digs 65536 X).drop j) : Nat) : Int) by exact Ui hvp];simp only[Exit.inBlock,Exit.then];refine ⟨j,_,?_,rfl,?_,?_⟩
    · omega
    · simp only[zv,List.map_cons,List.map_nil,List.getD_cons_succ,List.getD_cons_zero,List.set_cons_succ,List.set_cons_zero]
    ·
     simp only[List.map_cons,List.map_nil,List.getD_cons_succ,List.getD_cons_zero];exact ⟨j,rfl,hX,hB1,hD4.here,by omega,rfl⟩
   ·
    obtain rfl : k = 0:=by omega
    have hX64:=abo hl4 hXd;refine wp_exit (hK7 _ _ ?_);refine aF (fun K12 hK12=>?_);refine aF (fun K13 hK13=>?_);simp only[List.drop_zero,cU];rcases Pz hXa with ⟨h1,h2,h3,h4⟩ | ⟨h1,h2,h3⟩ | ⟨h1,h2,h3⟩ | ⟨h1,h2,h3,h4⟩
    ·
     rw [h1] at hB1;refine wp_region_lit (aA (aH (c:=0) gU rfl eJ rfl rfl) ?_);simp only[cL,bP,bV,List.getD_cons_succ,List.getD_cons_zero,List.set_cons_succ,List.set_cons_zero];refine aI rfl (hB1.lies1 iV rfl) ?_;simp only[cL,bP,bV,List.getD_cons_succ,List.getD_cons_zero,List.set_cons_succ,List.set_cons_zero];refine aA (aB) ?_;simp only[cL,bP,bV,List.getD_cons_succ,List.getD_cons_zero,List.set_cons_succ,List.set_cons_zero];refine aP rfl (aA (aB) ?_);simp only[cL,bP,bV,List.getD_cons_succ,List.getD_cons_zero,List.set_cons_succ,List.set_cons_zero];refine aP rfl (aA (Kn rfl rfl (by omega)) ?_);simp only[cL,bP,bV,List.getD_cons_succ,List.getD_cons_zero,List.set_cons_succ,List.set_cons_zero];refine aA (cG rfl) ?_;simp only[cL,bP,bV,List.getD_cons_succ,List.getD_cons_zero,List.set_cons_succ,List.set_cons_zero];refine aC (hK13 _ _ ?_);refine bX rfl (aF (fun K14 hK14=>?_));refine wp_region_lit (aA (aB) ?_);simp only[cL,bP,bV,List.getD_cons_succ,List.getD_cons_zero,List.set_cons_succ,List.set_cons_zero];refine aA (oW rfl rfl) ?_;simp only[cL,bP,bV,List.getD_cons_succ,List.getD_cons_zero,List.set_cons_succ,List.set_cons_zero];refine aA (eL jB gM rfl (Uh h2)) ?_;simp only[cL,bP,bV,List.getD_cons_succ,List.getD_cons_zero,List.set_cons_succ,List.set_cons_zero];refine aA (aD) ?_;simp only[cL,bP,bV,List.getD_cons_succ,List.getD_cons_zero,List.set_cons_succ,List.set_cons_zero];refine aA (aD) ?_;simp only[cL,bP,bV,List.getD_cons_succ,List.getD_cons_zero,List.set_cons_succ,List.set_cons_zero];refine aC (hK14 _ _ ?_);refine wp_ret ?_;try simp only[Exit.inBlock,Exit.then]
     refine jL rfl rfl rfl ?_;try simp only[List.getD_cons_succ,List.getD_cons_zero]
     exact ⟨_,rfl,hX,Nq h3 h4.symm⟩
    ·
     rw [h1] at hB1;refine wp_region_lit (aA (aH (c:=0) gU rfl eJ rfl rfl) ?_);simp only[cL,bP,bV,List.getD_cons_succ,List.getD_cons_zero,List.set_cons_succ,List.set_cons_zero];refine aI rfl (hB1.lies1 iV rfl) ?_;simp only[cL,bP,bV,List.getD_cons_succ,List.getD_cons_zero,List.set_cons_succ,List.set_cons_zero];refine aA (aB) ?_;simp only[cL,bP,bV,List.getD_cons_succ,List.getD_cons_zero,List.set_cons_succ,List.set_cons_zero];refine aP rfl (aA (aB) ?_);simp only[cL,bP,bV,List.getD_cons_succ,List.getD_cons_zero,List.set_cons_succ,List.set_cons_zero];refine aP rfl (aA (As rfl rfl (by omega)) ?_);simp only[cL,bP,bV,List.getD_cons_succ,List.getD_cons_zero,List.set_cons_succ,List.set_cons_zero];refine aA (cG rfl) ?_;simp only[cL,bP,bV,List.getD_cons_succ,List.getD_cons_zero,List.set_cons_succ,List.set_cons_zero];refine aC (hK13 _ _ ?_);refine eQ rfl (wp_skip ?_);refine hK12 _ _ (aF (fun K15 hK15=>?_));refine aF (fun K16 hK16=>?_);refine wp_region_lit (aA (aB) ?_);simp only[cL,bP,bV,List.getD_cons_succ,List.getD_cons_zero,List.set_cons_succ,List.set_cons_zero];refine aA (Qn rfl rfl (by omega)) ?_;simp only[cL,bP,bV,List.getD_cons_succ,List.getD_cons_zero,List.set_cons_succ,List.set_cons_zero];refine aC (hK16 _ _ ?_);refine bX rfl (aF (fun K17 hK17=>?_));refine wp_region_lit (aA (aD) ?_);simp only[cL,bP,bV,List.getD_cons_succ,List.getD_cons_zero,List.set_cons_succ,List.set_cons_zero];refine aA (aD) ?_;simp only[cL,bP,bV,List.getD_cons_succ,List.getD_cons_zero,List.set_cons_succ,List.set_cons_zero];refine aC (hK17 _ _ ?_);refine wp_ret ?_;try simp only[Exit.inBlock,Exit.then]
     refine jL rfl rfl rfl ?_;try simp only[List.getD_cons_succ,List.getD_cons_zero]
     exact ⟨_,rfl,hX,Md h3⟩
    ·
     rw [h1] at hB1;refine wp_region_lit (aA (aH (c:=0) gU rfl eJ rfl rfl) ?_);simp only[cL,bP,bV,List.getD_cons_succ,List.getD_cons_zero,List.set_cons_succ,List.set_cons_zero];refine aI rfl (hB1.lies1 iV rfl) ?_;simp only[cL,bP,bV,List.getD_cons_succ,List.getD_cons_zero,List.set_cons_succ,List.set_cons_zero];refine aA (aB) ?_;simp only[cL,bP,bV,List.getD_cons_succ,List.getD_cons_zero,List.set_cons_succ,List.set_cons_zero];refine bM rfl ?_;simp only[cL,bP,bV,List.getD_cons_succ,List.getD_cons_zero,List.set_cons_succ,List.set_cons_zero];refine bM rfl ?_;simp only[cL,bP,bV,List.getD_cons_succ,List.getD_cons_zero,List.set_cons_succ,List.set_cons_zero];refine aA (cO rfl) ?_;simp only[cL,bP,bV,List.getD_cons_succ,List.getD_cons_zero,List.set_cons_succ,List.set_cons_zero];refine aC (hK13 _ _ ?_);refine eQ rfl (wp_skip ?_);refine hK12 _ _ (aF (fun K18 hK18=>?_));refine aF (fun K19 hK19=>?_);refine wp_region_lit (aA (aB) ?_);simp only[cL,bP,bV,List.getD_cons_succ,List.getD_cons_zero,List.set_cons_succ,List.set_cons_zero];refine aA (Qn rfl rfl (by omega)) ?_;simp only[cL,bP,bV,List.getD_cons_succ,List.getD_cons_zero,List.set_cons_succ,List.set_cons_zero];refine aC (hK19 _ _ ?_);refine bX rfl (aF (fun K20 hK20=>?_));refine wp_region_lit (aA (aD) ?_);simp only[cL,bP,bV,List.getD_cons_succ,List.getD_cons_zero,List.set_cons_succ,List.set_cons_zero];refine aA (aD) ?_;simp only[cL,bP,bV,List.getD_cons_succ,List.getD_cons_zero,List.set_cons_succ,List.set_cons_zero];refine aC (hK20 _ _ ?_);refine wp_ret ?_;try simp only[Exit.inBlock,Exit.then]
     refine jL rfl rfl rfl ?_;try simp only[List.getD_cons_succ,List.getD_cons_zero]
     exact ⟨_,rfl,hX,Md h3⟩
    ·
     rw [h1] at hB1;refine wp_region_lit (aA (aH (c:=0) gU rfl eJ rfl rfl) ?_);simp only[cL,bP,bV,List.getD_cons_succ,List.getD_cons_zero,List.set_cons_succ,List.set_cons_zero];refine aI rfl (hB1.lies1 iV rfl) ?_;simp only[cL,bP,bV,List.getD_cons_succ,List.getD_cons_zero,List.set_cons_succ,List.set_cons_zero];refine aA (aB) ?_;simp only[cL,bP,bV,List.getD_cons_succ,List.getD_cons_zero,List.set_cons_succ,List.set_cons_zero];refine bM rfl ?_;simp only[cL,bP,bV,List.getD_cons_succ,List.getD_cons_zero,List.set_cons_succ,List.set_cons_zero];refine bM rfl ?_;simp only[cL,bP,bV,List.getD_cons_succ,List.getD_cons_zero,List.set_cons_succ,List.set_cons_zero];refine aA (cO rfl) ?_;simp only[cL,bP,bV,List.getD_cons_succ,List.getD_cons_zero,List.set_cons_succ,List.set_cons_zero];refine aC (hK13 _ _ ?_);refine eQ rfl (wp_skip ?_);refine hK12 _ _ (aF (fun K21 hK21=>?_));refine aF (fun K22 hK22=>?_);refine wp_region_lit (aA (aB) ?_);simp only[cL,bP,bV,List.getD_cons_succ,List.getD_cons_zero,List.set_cons_succ,List.set_cons_zero];refine aA (Yw rfl rfl (by omega)) ?_;simp only[cL,bP,bV,List.getD_cons_succ,List.getD_cons_zero,List.set_cons_succ,List.set_cons_zero];refine aC (hK22 _ _ ?_);refine eQ rfl (wp_skip ?_);refine hK21 _ _ (aF (fun K23 hK23=>?_));refine wp_region_lit (aA (aB) ?_);simp only[cL,bP,bV,List.getD_cons_succ,List.getD_cons_zero,List.set_cons_succ,List.set_cons_zero];refine aA (eL jB gM rfl (aQ (by omega) (by omega))) ?_;simp only[cL,bP,bV,List.getD_cons_succ,List.getD_cons_zero,List.set_cons_succ,List.set_cons_zero];refine aA (aD) ?_;simp only[cL,bP,bV,List.getD_cons_succ,List.getD_cons_zero,List.set_cons_succ,List.set_cons_zero];refine aA (aD) ?_;simp only[cL,bP,bV,List.getD_cons_succ,List.getD_cons_zero,List.set_cons_succ,List.set_cons_zero];refine aC (hK23 _ _ ?_);refine wp_ret ?_;try simp only[Exit.inBlock,Exit.then]
     refine jL rfl rfl rfl ?_;try simp only[List.getD_cons_succ,List.getD_cons_zero]
     exact ⟨_,rfl,hX,Nq h3 h4.symm⟩
end Go.Proofs.YtimjandkmfcmiaaGreatDoor
namespace Go.Proofs.YtimjandkmfcmiaaGreatDoor
open Tryz
open Go.RowKit Go.Lith
set_option maxRecDepth 100000
attribute [local irreducible] wpList wpQuiet eS dV eG Code.wp
theorem Hu (p : Rat) : (p.den : Int) ≠ 0:=Int.natCast_ne_zero.2 p.den_nz
theorem Ke (p q : Rat) : Rat.divInt (p.num * q.num) ((p.den : Int) * (q.den : Int)) = p * q:=by
 rw [← Rat.divInt_mul_divInt,Rat.num_divInt_den,Rat.num_divInt_den]
theorem Ct (p q : Rat) : Rat.divInt (p.num * (q.den : Int) + q.num * (p.den : Int)) ((p.den : Int) * (q.den : Int)) = p + q:=by
 rw [← Rat.divInt_add_divInt _ _ (Hu p) (Hu q),Rat.num_divInt_den,Rat.num_divInt_den]
theorem lS (p q : Rat) : (p.den : Int) * (q.den : Int) ≠ 0:=Int.mul_ne_zero (Hu p) (Hu q)
theorem Me {p q : Rat} (hp : Bq 190000 p) (hq : Bq 190000 q) : dP prog 120 [Q p,Q q] (Q (p + q)):=by
 intro w;refine ⟨Zt,?_⟩;have m:=cR.refl w
 go_enter func120,ntmps120
 refine aF fun K1 k1=>wp_region_lit (cM m rfl ?_);clear m; intro g1 u m;simp only[zz];refine cM m rfl ?_;clear m; intro g2 u m;simp only[zz];refine bC m cD rfl ?_;clear m; intro g3 u m;refine aC (k1 _ _ ?_);refine aF fun K2 k2=>wp_region_lit ?_;simp only[zz];refine aI rfl ((m.b 2 rfl).full bB aK) ?_;simp only[zz];refine aW m rfl rfl (uC (hp.mono (by decide))) ?_;clear m; intro u m;simp only[zz];refine bC m cD rfl ?_;clear m; intro g4 u m;simp only[zz];refine aL m 0 rfl rfl rfl aK (cA rfl) rfl ?_;clear m; intro u m; simp only[zy,zx,aX,zF,zG,Nat.reduceAdd] at m;refine aC (k2 _ _ ?_);refine aF fun K3 k3=>wp_region_lit (aI rfl ((m.b 2 rfl).full bB aK) ?_);simp only[zz];refine aW m rfl rfl (uC (hq.mono (by decide))) ?_;clear m; intro u m;simp only[zz];refine bC m cD rfl ?_;clear m; intro g5 u m;simp only[zz];refine aL m 0 rfl rfl rfl aK (cA rfl) rfl ?_;clear m; intro u m; simp only[zy,zx,aX,zF,zG,Nat.reduceAdd] at m;refine aC (k3 _ _ ?_);refine aF fun K4 k4=>?_;refine kG m [true,true,true,true,true] (.take 0 (.take 1 (.take 2 (.take 3 (.take 5 (.take 6 (.take 7 (.take 8 (.take 11 (.take 12 (.take 13 (.take 14 (.two 4 (.two 9 (.two 10 (.two 15 (.two 16 (.take 17 (.take 18 (.take 19 (.one 20 (.one 21 (.take 22 .nil)))))) 20 (.one 16 (.take 17 (.take 18 (.take 19 (.one 21 (.take 22 .nil))))))) 20 (.one 15 (.one 16 (.take 17 (.take 18 (.take 19 (.one 21 (.take 22 .nil)))))))) 20 (.one 10 (.one 15 (.one 16 (.take 17 (.take 18 (.take 19 (.one 21 (.take 22 .nil))))))))) 20 (.one 9 (.one 10 (.one 15 (.one 16 (.take 17 (.take 18 (.take 19 (.one 21 (.take 22 .nil)))))))))) 20 (.one 4 (.one 9 (.one 10 (.one 15 (.one 16 (.take 17 (.take 18 (.take 19 (.one 21 (.take 22 .nil))))))))))))))))))))))) aN (by kernel_rfl) (cW (fun _ _ _ _ _ h=>h)) ?_;clear m; intro u m;refine aV (by simp only[zw]; rfl) (aY (aH (c:=1) kU rfl aG rfl rfl) (bA (aV (by simp only[zw]; rfl) ?_)));simp only[zz];refine cF rfl (fun u m=>((m.b 1 rfl).lies aR aG rfl rfl)) ?_;simp only[zz,zy,Nat.zero_add,Nat.reduceAdd,Nat.reduceMul,Int.reduceToNat];refine bA (aV (by simp only[zw]; rfl) (aY (aH (c:=1) kU rfl aG rfl rfl) (bA (aV (by simp only[zw]; rfl) ?_))));simp only[zz];refine cF rfl (fun u m=>((m.b 0 rfl).lies aR aG rfl rfl)) ?_;simp only[zz,zy,Nat.zero_add,Nat.reduceAdd,Nat.reduceMul,Int.reduceToNat];refine bA (aV (by simp only[zw]; rfl) (aY (aH (c:=1) kU rfl aG rfl rfl) (bA (aV (by simp only[zw]; rfl) ?_))));simp only[zz];refine cF rfl (fun u m=>((m.b 0 rfl).lies aR aG rfl rfl)) ?_;simp only[zz,zy,Nat.zero_add,Nat.reduceAdd,Nat.reduceMul,Int.reduceToNat];refine bA (aV (by simp only[zw]; rfl) (aY (aH (c:=1) kU rfl aG rfl rfl) (bA (aV (by simp only[zw]; rfl) ?_))));simp only[zz];refine cF rfl (fun u m=>((m.b 1 rfl).lies aR aG rfl rfl)) ?_;simp only[zz,zy,Nat.zero_add,Nat.reduceAdd,Nat.reduceMul,Int.reduceToNat];refine bA (aV (by simp only[zw]; rfl) (aY (aH (c:=1) kU rfl aG rfl rfl) (bA (aV (by simp only[zw]; rfl) ?_))));simp only[zz];refine cF rfl (fun u m=>((m.b 1 rfl).lies aR aG rfl rfl)) ?_;simp only[zz,zy,Nat.zero_add,Nat.reduceAdd,Nat.reduceMul,Int.reduceToNat];refine bA (aV (by simp only[zw]; rfl) (aY (aH (c:=1) kU rfl aG rfl rfl) (bA (aV (by simp only[zw]; rfl) ?_))));simp only[zz];refine cF rfl (fun u m=>((m.b 0 rfl).lies aR aG rfl rfl)) ?_;simp only[zz,zy,Nat.zero_add,Nat.reduceAdd,Nat.reduceMul,Int.reduceToNat];refine bA ?_;refine gX (by simp only[zw]; rfl) (by simp only[zw]; rfl) ?_ ?_
 ·
  refine aW m rfl rfl (fZ (a:=p.num) (b:=(q.den : Int)) (hp.n.mono (by decide)) (hq.d.mono (by decide))) ?_;clear m; intro u m;refine aC (⟨m,?_⟩);simp only[zz];refine gX (by simp only[zw]; rfl) (by simp only[zw]; rfl) ?_ ?_
  ·
   refine aW m rfl rfl (fZ (a:=q.num) (b:=(p.den : Int)) (hq.n.mono (by decide)) (hp.d.mono (by decide))) ?_;clear m; intro u m;refine aC (⟨m,?_⟩);simp only[zz];refine gX (by simp only[zw]; rfl) (by simp only[zw]; rfl) ?_ ?_
   ·
    refine aW m rfl rfl (qL (a:=p.num * (q.den : Int)) (b:=q.num * (p.den : Int)) ((hp.n.mul hq.d).mono (by decide)) ((hq.n.mul hp.d).mono (by decide))) ?_;clear m; intro u m;refine aC (⟨m,?_⟩);simp only[zz];refine gX (by simp only[zw]; rfl) (by simp only[zw]; rfl) ?_ ?_
    ·
     refine aW m rfl rfl (fZ (a:=(p.den : Int)) (b:=(q.den : Int)) (hp.d.mono (by decide)) (hq.d.mono (by decide))) ?_;clear m; intro u m;refine aC (⟨m,?_⟩);simp only[zz];refine gX (by simp only[zw]; rfl) (by simp only[zw]; rfl) ?_ ?_
     ·
      refine aW m rfl rfl (iT (n:=p.num * (q.den : Int) + q.num * (p.den : Int)) (d:=(p.den : Int) * (q.den : Int)) (((hp.n.mul hq.d).add (hq.n.mul hp.d)).mono (by decide)) ((hp.d.mul hq.d).mono (by decide)) (lS p q)) ?_;clear m; intro u m;refine aC (⟨m,?_⟩);refine aV (by simp only[zw]; rfl) (aY (aB) (bA (aV (by simp only[zw]; rfl) (aY (aT rfl rfl) (bA (aV (by simp only[zw]; rfl) (aY (aT rfl rfl) ?_)))))));simp only[zz];refine bA (bL (by simp only[zw]; rfl) (bC m cD rfl ?_));clear m; intro g6 u m;refine aC (⟨m.sel [false,true,true,true,true,true],?_⟩);refine bL (by simp only[zw]; rfl) ?_;simp only[zz];refine aL m 0 rfl rfl rfl aK (cA rfl) rfl ?_;clear m; intro u m; simp only[zy,zx,aX,zF,zG,Nat.reduceAdd] at m;refine aC (⟨m.sel [false,true,true,true,true,true],?_⟩);refine aV (by simp only[zw]; rfl) (aY (aD) (bA (eE (k4 _ _ ?_))));refine aF fun K5 k5=>wp_region_lit ?_;simp only[zz];refine aI rfl ((m.b 0 rfl).full bB aK) ?_;simp only[zz];refine aL m 3 rfl rfl rfl aK (cA rfl) rfl ?_;clear m; intro u m; simp only[zy,zx,aX,zF,zG,Nat.reduceAdd] at m;refine aC (k5 _ _ ?_);refine wp_ret ?_;try simp only[Exit.inBlock,Exit.then,if_true]
      refine bU rfl ⟨_,rfl,((m.b 3 rfl).full bB aK)⟩ ?_;try simp only[zD,zE]
      exact ⟨_,rfl,m.ext,by rw [← Ct]; rfl⟩
     ·
      refine bC m cD rfl ?_;clear m; intro g6 u m;refine aC (⟨m.sel [false,true,true,true,true,true],?_⟩);refine bL (by simp only[zw]; rfl) ?_;simp only[zz];refine aW m rfl rfl (iT (n:=p.num * (q.den : Int) + q.num * (p.den : Int)) (d:=(p.den : Int) * (q.den : Int)) (((hp.n.mul hq.d).add (hq.n.mul hp.d)).mono (by decide)) ((hp.d.mul hq.d).mono (by decide)) (lS p q)) ?_;clear m; intro u m;refine aC (⟨m.sel [false,true,true,true,true,true],?_⟩);refine aV (by simp only[zw]; rfl) (aY (aB) (bA (aV (by simp only[zw]; rfl) (aY (aT rfl rfl) (bA (aV (by simp only[zw]; rfl) (aY (aT rfl rfl) ?_)))))));simp only[zz];refine bA (bL (by simp only[zw]; rfl) (aL m 0 rfl rfl rfl aK (cA rfl) rfl ?_));clear m; intro u m; simp only[zy,zx,aX,zF,zG,Nat.reduceAdd] at m;refine aC (⟨m.sel [false,true,true,true,true,true],?_⟩);refine aV (by simp only[zw]; rfl) (aY (aD) (bA (eE (k4 _ _ ?_))));refine aF fun K6 k6=>wp_region_lit ?_;simp only[zz];refine aI rfl ((m.b 0 rfl).full bB aK) ?_;simp only[zz];refine aL m 3 rfl rfl rfl aK (cA rfl) rfl ?_;clear m; intro u m; simp only[zy,zx,aX,zF,zG,Nat.reduceAdd] at m;refine aC (k6 _ _ ?_);refine wp_ret ?_;try simp only[Exit.inBlock,Exit.then,if_true]
      refine bU rfl ⟨_,rfl,((m.b 3 rfl).full bB aK)⟩ ?_;try simp only[zD,zE]
      exact ⟨_,rfl,m.ext,by rw [← Ct]; rfl⟩
    ·
     refine bC m cD rfl ?_;clear m; intro g6 u m;refine aC (⟨m.sel [false,true,true,true,true,true],?_⟩);refine bL (by simp only[zw]; rfl) ?_;simp only[zz];refine aW m rfl rfl (fZ (a:=(p.den : Int)) (b:=(q.den : Int)) (hp.d.mono (by decide)) (hq.d.mono (by decide))) ?_;clear m; intro u m;refine aC (⟨m.sel [false,true,true,true,true,true],?_⟩);refine bL (by simp only[zw]; rfl) ?_;simp only[zz];refine aW m rfl rfl (iT (n:=p.num * (q.den : Int) + q.num * (p.den : Int)) (d:=(p.den : Int) * (q.den : Int)) (((hp.n.mul hq.d).add (hq.n.mul hp.d)).mono (by decide)) ((hp.d.mul hq.d).mono (by decide)) (lS p q)) ?_;clear m; intro u m;refine aC (⟨m.sel [false,true,true,true,true,true],?_⟩);refine aV (by simp only[zw]; rfl) (aY (aB) (bA (aV (by simp only[zw]; rfl) (aY (aT rfl rfl) (bA (aV (by simp only[zw]; rfl) (aY (aT rfl rfl) ?_)))))));simp only[zz];refine bA (bL (by simp only[zw]; rfl) (aL m 0 rfl rfl rfl aK (cA rfl) rfl ?_));clear m; intro u m; simp only[zy,zx,aX,zF,zG,Nat.reduceAdd] at m;refine aC (⟨m.sel [false,true,true,true,true,true],?_⟩);refine aV (by simp only[zw]; rfl) (aY (aD) (bA (eE (k4 _ _ ?_))));refine aF fun K7 k7=>wp_region_lit ?_;simp only[zz];refine aI rfl ((m.b 0 rfl).full bB aK) ?_;simp only[zz];refine aL m 3 rfl rfl rfl aK (cA rfl) rfl ?_;clear m; intro u m; simp only[zy,zx,aX,zF,zG,Nat.reduceAdd] at m;refine aC (k7 _ _ ?_);refine wp_ret ?_;try simp only[Exit.inBlock,Exit.then,if_true]
     refine bU rfl ⟨_,rfl,((m.b 3 rfl).full bB aK)⟩ ?_;try simp only[zD,zE]
     exact ⟨_,rfl,m.ext,by rw [← Ct]; rfl⟩
   ·
    refine bC m cD rfl ?_;clear m; intro g6 u m;refine aC (⟨m.sel [false,true,true,true,true,true],?_⟩);refine bL (by simp only[zw]; rfl) ?_;simp only[zz];refine aW m rfl rfl (qL (a:=p.num * (q.den : Int)) (b:=q.num * (p.den : Int)) ((hp.n.mul hq.d).mono (by decide)) ((hq.n.mul hp.d).mono (by decide))) ?_;clear m; intro u m;refine aC (⟨m.sel [false,true,true,true,true,true],?_⟩);refine bL (by simp only[zw]; rfl) ?_;simp only[zz];refine aW m rfl rfl (fZ (a:=(p.den : Int)) (b:=(q.den : Int)) (hp.d.mono (by decide)) (hq.d.mono (by decide))) ?_;clear m; intro u m;refine aC (⟨m.sel [false,true,true,true,true,true],?_⟩);refine bL (by simp only[zw]; rfl) ?_;simp only[zz];refine aW m rfl rfl (iT (n:=p.num * (q.den : Int) + q.num * (p.den : Int)) (d:=(p.den : Int) * (q.den : Int)) (((hp.n.mul hq.d).add (hq.n.mul hp.d)).mono (by decide)) ((hp.d.mul hq.d).mono (by decide)) (lS p q)) ?_;clear m; intro u m;refine aC (⟨m.sel [false,true,true,true,true,true],?_⟩);refine aV (by simp only[zw]; rfl) (aY (aB) (bA (aV (by simp only[zw]; rfl) (aY (aT rfl rfl) (bA (aV (by simp only[zw]; rfl) (aY (aT rfl rfl) ?_)))))));simp only[zz];refine bA (bL (by simp only[zw]; rfl) (aL m 0 rfl rfl rfl aK (cA rfl) rfl ?_));clear m; intro u m; simp only[zy,zx,aX,zF,zG,Nat.reduceAdd] at m;refine aC (⟨m.sel [false,true,true,true,true,true],?_⟩);refine aV (by simp only[zw]; rfl) (aY (aD) (bA (eE (k4 _ _ ?_))));refine aF fun K8 k8=>wp_region_lit ?_;simp only[zz];refine aI rfl ((m.b 0 rfl).full bB aK) ?_;simp only[zz];refine aL m 3 rfl rfl rfl aK (cA rfl) rfl ?_;clear m; intro u m; simp only[zy,zx,aX,zF,zG,Nat.reduceAdd] at m;refine aC (k8 _ _ ?_);refine wp_ret ?_;try simp only[Exit.inBlock,Exit.then,if_true]
    refine bU rfl ⟨_,rfl,((m.b 3 rfl).full bB aK)⟩ ?_;try simp only[zD,zE]
    exact ⟨_,rfl,m.ext,by rw [← Ct]; rfl⟩
  ·
   refine bC m cD rfl ?_;clear m; intro g6 u m;refine aC (⟨m.sel [false,true,true,true,true,true],?_⟩);refine bL (by simp only[zw]; rfl) ?_;simp only[zz];refine aW m rfl rfl (fZ (a:=q.num) (b:=(p.den : Int)) (hq.n.mono (by decide)) (hp.d.mono (by decide))) ?_;clear m; intro u m;refine aC (⟨m.sel [false,true,true,true,true,true],?_⟩);refine bL (by simp only[zw]; rfl) ?_;simp only[zz];refine aW m rfl rfl (qL (a:=p.num * (q.den : Int)) (b:=q.num * (p.den : Int)) ((hp.n.mul hq.d).mono (by decide)) ((hq.n.mul hp.d).mono (by decide))) ?_;clear m; intro u m;refine aC (⟨m.sel [false,true,true,true,true,true],?_⟩);refine bL (by simp only[zw]; rfl) ?_;simp only[zz];refine aW m rfl rfl (fZ (a:=(p.den : Int)) (b:=(q.den : Int)) (hp.d.mono (by decide)) (hq.d.mono (by decide))) ?_;clear m; intro u m;refine aC (⟨m.sel [false,true,true,true,true,true],?_⟩);refine bL (by simp only[zw]; rfl) ?_;simp only[zz];refine aW m rfl rfl (iT (n:=p.num * (q.den : Int) + q.num * (p.den : Int)) (d:=(p.den : Int) * (q.den : Int)) (((hp.n.mul hq.d).add (hq.n.mul hp.d)).mono (by decide)) ((hp.d.mul hq.d).mono (by decide)) (lS p q)) ?_;clear m; intro u m;refine aC (⟨m.sel [false,true,true,true,true,true],?_⟩);refine aV (by simp only[zw]; rfl) (aY (aB) (bA (aV (by simp only[zw]; rfl) (aY (aT rfl rfl) (bA (aV (by simp only[zw]; rfl) (aY (aT rfl rfl) ?_)))))));simp only[zz];refine bA (bL (by simp only[zw]; rfl) (aL m 0 rfl rfl rfl aK (cA rfl) rfl ?_));clear m; intro u m; simp only[zy,zx,aX,zF,zG,Nat.reduceAdd] at m;refine aC (⟨m.sel [false,true,true,true,true,true],?_⟩);refine aV (by simp only[zw]; rfl) (aY (aD) (bA (eE (k4 _ _ ?_))));refine aF fun K9 k9=>wp_region_lit ?_;simp only[zz];refine aI rfl ((m.b 0 rfl).full bB aK) ?_;simp only[zz];refine aL m 3 rfl rfl rfl aK (cA rfl) rfl ?_;clear m; intro u m; simp only[zy,zx,aX,zF,zG,Nat.reduceAdd] at m;refine aC (k9 _ _ ?_);refine wp_ret ?_;try simp only[Exit.inBlock,Exit.then,if_true]
   refine bU rfl ⟨_,rfl,((m.b 3 rfl).full bB aK)⟩ ?_;try simp only[zD,zE]
   exact ⟨_,rfl,m.ext,by rw [← Ct]; rfl⟩
 ·
  refine bC m cD rfl ?_;clear m; intro g6 u m;refine aC (⟨m.sel [false,true,true,true,true,true],?_⟩);refine bL (by simp only[zw]; rfl) ?_;simp only[zz];refine aW m rfl rfl (fZ (a:=p.num) (b:=(q.den : Int)) (hp.n.mono (by decide)) (hq.d.mono (by decide))) ?_;clear m; intro u m;refine aC (⟨m.sel [false,true,true,true,true,true],?_⟩);refine bL (by simp only[zw]; rfl) ?_;simp only[zz];refine aW m rfl rfl (fZ (a:=q.num) (b:=(p.den : Int)) (hq.n.mono (by decide)) (hp.d.mono (by decide))) ?_;clear m; intro u m;refine aC (⟨m.sel [false,true,true,true,true,true],?_⟩);refine bL (by simp only[zw]; rfl) ?_;simp only[zz];refine aW m rfl rfl (qL (a:=p.num * (q.den : Int)) (b:=q.num * (p.den : Int)) ((hp.n.mul hq.d).mono (by decide)) ((hq.n.mul hp.d).mono (by decide))) ?_;clear m; intro u m;refine aC (⟨m.sel [false,true,true,true,true,true],?_⟩);refine bL (by simp only[zw]; rfl) ?_;simp only[zz];refine aW m rfl rfl (fZ (a:=(p.den : Int)) (b:=(q.den : Int)) (hp.d.mono (by decide)) (hq.d.mono (by decide))) ?_;clear m; intro u m;refine aC (⟨m.sel [false,true,true,true,true,true],?_⟩);refine bL (by simp only[zw]; rfl) ?_;simp only[zz];refine aW m rfl rfl (iT (n:=p.num * (q.den : Int) + q.num * (p.den : Int)) (d:=(p.den : Int) * (q.den : Int)) (((hp.n.mul hq.d).add (hq.n.mul hp.d)).mono (by decide)) ((hp.d.mul hq.d).mono (by decide)) (lS p q)) ?_;clear m; intro u m;refine aC (⟨m.sel [false,true,true,true,true,true],?_⟩);refine aV (by simp only[zw]; rfl) (aY (aB) (bA (aV (by simp only[zw]; rfl) (aY (aT rfl rfl) (bA (aV (by simp only[zw]; rfl) (aY (aT rfl rfl) ?_)))))));simp only[zz];refine bA (bL (by simp only[zw]; rfl) (aL m 0 rfl rfl rfl aK (cA rfl) rfl ?_));clear m; intro u m; simp only[zy,zx,aX,zF,zG,Nat.reduceAdd] at m;refine aC (⟨m.sel [false,true,true,true,true,true],?_⟩);refine aV (by simp only[zw]; rfl) (aY (aD) (bA (eE (k4 _ _ ?_))));refine aF fun K10 k10=>wp_region_lit ?_;simp only[zz];refine aI rfl ((m.b 0 rfl).full bB aK) ?_;simp only[zz];refine aL m 3 rfl rfl rfl aK (cA rfl) rfl ?_;clear m; intro u m; simp only[zy,zx,aX,zF,zG,Nat.reduceAdd] at m;refine aC (k10 _ _ ?_);refine wp_ret ?_;try simp only[Exit.inBlock,Exit.then,if_true]
  refine bU rfl ⟨_,rfl,((m.b 3 rfl).full bB aK)⟩ ?_;try simp only[zD,zE]
  exact ⟨_,rfl,m.ext,by rw [← Ct]; rfl⟩
theorem sN {p q : Rat} (hp : Bq 190000 p) (hq : Bq 190000 q) : dP prog 119 [Q p,Q q] (Q (p * q)):=by
 intro w;refine ⟨Zs,?_⟩;have m:=cR.refl w
 go_enter func119,ntmps119
 refine aF fun K1 k1=>wp_region_lit (cM m rfl ?_);clear m; intro g1 u m;simp only[zz];refine cM m rfl ?_;clear m; intro g2 u m;simp only[zz];refine bC m cD rfl ?_;clear m; intro g3 u m;refine aC (k1 _ _ ?_);refine aF fun K2 k2=>wp_region_lit ?_;simp only[zz];refine aI rfl ((m.b 2 rfl).full bB aK) ?_;simp only[zz];refine aW m rfl rfl (uC (hp.mono (by decide))) ?_;clear m; intro u m;simp only[zz];refine bC m cD rfl ?_;clear m; intro g4 u m;simp only[zz];refine aL m 0 rfl rfl rfl aK (cA rfl) rfl ?_;clear m; intro u m; simp only[zy,zx,aX,zF,zG,Nat.reduceAdd] at m;refine aC (k2 _ _ ?_);refine aF fun K3 k3=>wp_region_lit (aI rfl ((m.b 2 rfl).full bB aK) ?_);simp only[zz];refine aW m rfl rfl (uC (hq.mono (by decide))) ?_;clear m; intro u m;simp only[zz];refine bC m cD rfl ?_;clear m; intro g5 u m;simp only[zz];refine aL m 0 rfl rfl rfl aK (cA rfl) rfl ?_;clear m; intro u m; simp only[zy,zx,aX,zF,zG,Nat.reduceAdd] at m;refine aC (k3 _ _ ?_);refine aF fun K4 k4=>?_;refine kG m [true,true,true,true,true] (.take 0 (.take 1 (.take 2 (.take 3 (.take 5 (.take 6 (.take 7 (.take 8 (.two 4 (.two 9 (.two 10 (.take 11 (.take 12 (.take 13 (.one 14 (.one 15 (.take 16 .nil)))))) 14 (.one 10 (.take 11 (.take 12 (.take 13 (.one 15 (.take 16 .nil))))))) 14 (.one 9 (.one 10 (.take 11 (.take 12 (.take 13 (.one 15 (.take 16 .nil)))))))) 14 (.one 4 (.one 9 (.one 10 (.take 11 (.take 12 (.take 13 (.one 15 (.take 16 .nil))))))))))))))))) aN (by kernel_rfl) (cW (fun _ _ _ _ _ h=>h)) ?_;clear m; intro u m;refine aV (by simp only[zw]; rfl) (aY (aH (c:=1) kU rfl aG rfl rfl) (bA (aV (by simp only[zw]; rfl) ?_)));simp only[zz];refine cF rfl (fun u m=>((m.b 1 rfl).lies aR aG rfl rfl)) ?_;simp only[zz,zy,Nat.zero_add,Nat.reduceAdd,Nat.reduceMul,Int.reduceToNat];refine bA (aV (by simp only[zw]; rfl) (aY (aH (c:=1) kU rfl aG rfl rfl) (bA (aV (by simp only[zw]; rfl) ?_))));simp only[zz];refine cF rfl (fun u m=>((m.b 0 rfl).lies aR aG rfl rfl)) ?_;simp only[zz,zy,Nat.zero_add,Nat.reduceAdd,Nat.reduceMul,Int.reduceToNat];refine bA (aV (by simp only[zw]; rfl) (aY (aH (c:=1) kU rfl aG rfl rfl) (bA (aV (by simp only[zw]; rfl) ?_))));simp only[zz];refine cF rfl (fun u m=>((m.b 1 rfl).lies aR aG rfl rfl)) ?_;simp only[zz,zy,Nat.zero_add,Nat.reduceAdd,Nat.reduceMul,Int.reduceToNat];refine bA (aV (by simp only[zw]; rfl) (aY (aH (c:=1) kU rfl aG rfl rfl) (bA (aV (by simp only[zw]; rfl) ?_))));simp only[zz];refine cF rfl (fun u m=>((m.b 0 rfl).lies aR aG rfl rfl)) ?_;simp only[zz,zy,Nat.zero_add,Nat.reduceAdd,Nat.reduceMul,Int.reduceToNat];refine bA ?_;refine gX (by simp only[zw]; rfl) (by simp only[zw]; rfl) ?_ ?_
 ·
  refine aW m rfl rfl (fZ (a:=p.num) (b:=q.num) (hp.n.mono (by decide)) (hq.n.mono (by decide))) ?_;clear m; intro u m;refine aC (⟨m,?_⟩);simp only[zz];refine gX (by simp only[zw]; rfl) (by simp only[zw]; rfl) ?_ ?_
  ·
   refine aW m rfl rfl (fZ (a:=(p.den : Int)) (b:=(q.den : Int)) (hp.d.mono (by decide)) (hq.d.mono (by decide))) ?_;clear m; intro u m;refine aC (⟨m,?_⟩);simp only[zz];refine gX (by simp only[zw]; rfl) (by simp only[zw]; rfl) ?_ ?_
   ·
    refine aW m rfl rfl (iT (n:=p.num * q.num) (d:=(p.den : Int) * (q.den : Int)) ((hp.n.mul hq.n).mono (by decide)) ((hp.d.mul hq.d).mono (by decide)) (lS p q)) ?_;clear m; intro u m;refine aC (⟨m,?_⟩);refine aV (by simp only[zw]; rfl) (aY (aB) (bA (aV (by simp only[zw]; rfl) (aY (aT rfl rfl) (bA (aV (by simp only[zw]; rfl) (aY (aT rfl rfl) ?_)))))));simp only[zz];refine bA (bL (by simp only[zw]; rfl) (bC m cD rfl ?_));clear m; intro g6 u m;refine aC (⟨m.sel [false,true,true,true,true,true],?_⟩);refine bL (by simp only[zw]; rfl) ?_;simp only[zz];refine aL m 0 rfl rfl rfl aK (cA rfl) rfl ?_;clear m; intro u m; simp only[zy,zx,aX,zF,zG,Nat.reduceAdd] at m;refine aC (⟨m.sel [false,true,true,true,true,true],?_⟩);refine aV (by simp only[zw]; rfl) (aY (aD) (bA (eE (k4 _ _ ?_))));refine aF fun K5 k5=>wp_region_lit ?_;simp only[zz];refine aI rfl ((m.b 0 rfl).full bB aK) ?_;simp only[zz];refine aL m 3 rfl rfl rfl aK (cA rfl) rfl ?_;clear m; intro u m; simp only[zy,zx,aX,zF,zG,Nat.reduceAdd] at m;refine aC (k5 _ _ ?_);refine wp_ret ?_;try simp only[Exit.inBlock,Exit.then,if_true]
    refine bU rfl ⟨_,rfl,((m.b 3 rfl).full bB aK)⟩ ?_;try simp only[zD,zE]
    exact ⟨_,rfl,m.ext,by rw [← Ke]; rfl⟩
   ·
    refine bC m cD rfl ?_;clear m; intro g6 u m;refine aC (⟨m.sel [false,true,true,true,true,true],?_⟩);refine bL (by simp only[zw]; rfl) ?_;simp only[zz];refine aW m rfl rfl (iT (n:=p.num * q.num) (d:=(p.den : Int) * (q.den : Int)) ((hp.n.mul hq.n).mono (by decide)) ((hp.d.mul hq.d).mono (by decide)) (lS p q)) ?_;clear m; intro u m;refine aC (⟨m.sel [false,true,true,true,true,true],?_⟩);refine aV (by simp only[zw]; rfl) (aY (aB) (bA (aV (by simp only[zw]; rfl) (aY (aT rfl rfl) (bA (aV (by simp only[zw]; rfl) (aY (aT rfl rfl) ?_)))))));simp only[zz];refine bA (bL (by simp only[zw]; rfl) (aL m 0 rfl rfl rfl aK (cA rfl) rfl ?_));clear m; intro u m; simp only[zy,zx,aX,zF,zG,Nat.reduceAdd] at m;refine aC (⟨m.sel [false,true,true,true,true,true],?_⟩);refine aV (by simp only[zw]; rfl) (aY (aD) (bA (eE (k4 _ _ ?_))));refine aF fun K6 k6=>wp_region_lit ?_;simp only[zz];refine aI rfl ((m.b 0 rfl).full bB aK) ?_;simp only[zz];refine aL m 3 rfl rfl rfl aK (cA rfl) rfl ?_;clear m; intro u m; simp only[zy,zx,aX,zF,zG,Nat.reduceAdd] at m;refine aC (k6 _ _ ?_);refine wp_ret ?_;try simp only[Exit.inBlock,Exit.then,if_true]
    refine bU rfl ⟨_,rfl,((m.b 3 rfl).full bB aK)⟩ ?_;try simp only[zD,zE]
    exact ⟨_,rfl,m.ext,by rw [← Ke]; rfl⟩
  ·
   refine bC m cD rfl ?_;clear m; intro g6 u m;refine aC (⟨m.sel [false,true,true,true,true,true],?_⟩);refine bL (by simp only[zw]; rfl) ?_;simp only[zz];refine aW m rfl rfl (fZ (a:=(p.den : Int)) (b:=(q.den : Int)) (hp.d.mono (by decide)) (hq.d.mono (by decide))) ?_;clear m; intro u m;refine aC (⟨m.sel [false,true,true,true,true,true],?_⟩);refine bL (by simp only[zw]; rfl) ?_;simp only[zz];refine aW m rfl rfl (iT (n:=p.num * q.num) (d:=(p.den : Int) * (q.den : Int)) ((hp.n.mul hq.n).mono (by decide)) ((hp.d.mul hq.d).mono (by decide)) (lS p q)) ?_;clear m; intro u m;refine aC (⟨m.sel [false,true,true,true,true,true],?_⟩);refine aV (by simp only[zw]; rfl) (aY (aB) (bA (aV (by simp only[zw]; rfl) (aY (aT rfl rfl) (bA (aV (by simp only[zw]; rfl) (aY (aT rfl rfl) ?_)))))));simp only[zz];refine bA (bL (by simp only[zw]; rfl) (aL m 0 rfl rfl rfl aK (cA rfl) rfl ?_));clear m; intro u m; simp only[zy,zx,aX,zF,zG,Nat.reduceAdd] at m;refine aC (⟨m.sel [false,true,true,true,true,true],?_⟩);refine aV (by simp only[zw]; rfl) (aY (aD) (bA (eE (k4 _ _ ?_))));refine aF fun K7 k7=>wp_region_lit ?_;simp only[zz];refine aI rfl ((m.b 0 rfl).full bB aK) ?_;simp only[zz];refine aL m 3 rfl rfl rfl aK (cA rfl) rfl ?_;clear m; intro u m; simp only[zy,zx,aX,zF,zG,Nat.reduceAdd] at m;refine aC (k7 _ _ ?_);refine wp_ret ?_;try simp only[Exit.inBlock,Exit.then,if_true]
   refine bU rfl ⟨_,rfl,((m.b 3 rfl).full bB aK)⟩ ?_;try simp only[zD,zE]
   exact ⟨_,rfl,m.ext,by rw [← Ke]; rfl⟩
 ·
  refine bC m cD rfl ?_;clear m; intro g6 u m;refine aC (⟨m.sel [false,true,true,true,true,true],?_⟩);refine bL (by simp only[zw]; rfl) ?_;simp only[zz];refine aW m rfl rfl (fZ (a:=p.num) (b:=q.num) (hp.n.mono (by decide)) (hq.n.mono (by decide))) ?_;clear m; intro u m;refine aC (⟨m.sel [false,true,true,true,true,true],?_⟩);refine bL (by simp only[zw]; rfl) ?_;simp only[zz];refine aW m rfl rfl (fZ (a:=(p.den : Int)) (b:=(q.den : Int)) (hp.d.mono (by decide)) (hq.d.mono (by decide))) ?_;clear m; intro u m;refine aC (⟨m.sel [false,true,true,true,true,true],?_⟩);refine bL (by simp only[zw]; rfl) ?_;simp only[zz];refine aW m rfl rfl (iT (n:=p.num * q.num) (d:=(p.den : Int) * (q.den : Int)) ((hp.n.mul hq.n).mono (by decide)) ((hp.d.mul hq.d).mono (by decide)) (lS p q)) ?_;clear m; intro u m;refine aC (⟨m.sel [false,true,true,true,true,true],?_⟩);refine aV (by simp only[zw]; rfl) (aY (aB) (bA (aV (by simp only[zw]; rfl) (aY (aT rfl rfl) (bA (aV (by simp only[zw]; rfl) (aY (aT rfl rfl) ?_)))))));simp only[zz];refine bA (bL (by simp only[zw]; rfl) (aL m 0 rfl rfl rfl aK (cA rfl) rfl ?_));clear m; intro u m; simp only[zy,zx,aX,zF,zG,Nat.reduceAdd] at m;refine aC (⟨m.sel [false,true,true,true,true,true],?_⟩);refine aV (by simp only[zw]; rfl) (aY (aD) (bA (eE (k4 _ _ ?_))));refine aF fun K8 k8=>wp_region_lit ?_;simp only[zz];refine aI rfl ((m.b 0 rfl).full bB aK) ?_;simp only[zz];refine aL m 3 rfl rfl rfl aK (cA rfl) rfl ?_;clear m; intro u m; simp only[zy,zx,aX,zF,zG,Nat.reduceAdd] at m;refine aC (k8 _ _ ?_);refine wp_ret ?_;try simp only[Exit.inBlock,Exit.then,if_true]
  refine bU rfl ⟨_,rfl,((m.b 3 rfl).full bB aK)⟩ ?_;try simp only[zD,zE]
  exact ⟨_,rfl,m.ext,by rw [← Ke]; rfl⟩
theorem Cu {M bcap i : Nat} {B : Option Addr} {bs : List Int} (w : World) (hb : eY w B M bs) : iL prog 31 [.slice B M bcap,.int .i64 (i : Int)] w (fun v _=>v = .int .i64 (iS bs i)):=by
 refine ⟨abO,?_⟩;have m:=cR.refl w
 go_enter func31,ntmps31
 refine aF fun K1 k1=>wp_region_lit (aA (aD) (aC (k1 _ _ ?_)));refine aF fun K2 k2=>aF fun K3 k3=>wp_region_lit (aA (aB) (aA (aB) (aA (bR rfl bN rfl) ?_)));simp only[zz];refine aA (eA rfl rfl) (aC (k3 _ _ ?_));simp only[zz];refine cQ rfl (fun hc1=>?_) (fun hc1=>?_)
 ·
  obtain ⟨z,hz,_,a,rfl,hcell⟩:=hb.get (i:=i) (by omega);have ez : iS bs i = z:=by rw [iS,hz]; rfl
  refine aF fun K4 k4=>wp_region_lit (aA (aB) (aA (aB) ?_));simp only[zz];refine aA (aU bN aM rfl rfl (by omega) (by omega) (fT (Int.toNat_natCast _))) ?_;simp only[zz];refine aI rfl (Lith.lies1 (m.ext.cell hcell) aZ) ?_;simp only[zz];refine aA (aD) (aC (k4 _ _ ?_));refine wp_ret ?_;simp only[zz];try simp only[Exit.inBlock,Exit.then,if_true]
  refine bU rfl rfl ?_;try simp only[zD,zE]
  exact ⟨_,rfl,m.ext,by rw [ez]⟩
 ·
  have ez : iS bs i = -1:=by rw [iS,List.getElem?_eq_none (by rw [hb.len]; omega)]; rfl
  refine wp_skip (k2 _ _ ?_);refine aF fun K5 k5=>wp_region_lit (aA (aD) (aC (k5 _ _ ?_)));refine wp_ret ?_;simp only[zz];try simp only[Exit.inBlock,Exit.then,if_true]
  refine bU rfl rfl ?_;try simp only[zD,zE]
  exact ⟨_,rfl,m.ext,by rw [ez]⟩
theorem oV {n k : Int} [Iw n] [Iw k] : dP prog 83 [.int .i64 n,.int .i64 k] (.tuple #[.int .i64 (Mc (n - k)),.bool (decide (jG (n - k)))]):=by
 intro w;refine ⟨acA,?_⟩;have m:=cR.refl w
 go_enter func83,ntmps83
 refine aF fun K1 k1=>wp_region_lit (aA (aD) (aA (aD) (aC (k1 _ _ ?_))));refine aF fun K2 k2=>wp_region_lit (aA (aB) ?_);simp only[zz];refine aW m rfl rfl (dO Iw.h) ?_;clear m; intro u m;refine aA (aB) ?_;simp only[zz];refine aW m rfl rfl (dO Iw.h) ?_;clear m; intro u m;simp only[zz];refine aW m rfl rfl (lY (a:=n) (b:=k) Bw.up Bw.up) ?_;clear m; intro u m;simp only[zz];refine aW m rfl rfl (Ht (a:=n - k) Bw.up) ?_;clear m; intro u m;refine aA (aT rfl rfl) (aA (aT rfl rfl) (aA (aD) ?_));simp only[zz];refine aA (aD) (aC (k2 _ _ ?_));refine wp_ret ?_;simp only[zz];try simp only[Exit.inBlock,Exit.then,if_true]
 refine jL rfl rfl rfl ?_;try simp only[zD,zE]
 exact ⟨_,rfl,m.ext,rfl⟩
end Go.Proofs.YtimjandkmfcmiaaGreatDoor
namespace Go.Proofs.YtimjandkmfcmiaaGreatDoor
open Tryz
open Go.RowKit Go.Lith
set_option maxRecDepth 100000
attribute [local irreducible] wpList wpQuiet eS dV eG Code.wp
class S4 (p : P3) : Prop where
 x : p.x.natAbs ≤ 262144
 y : p.y.natAbs ≤ 262144
 z : p.z.natAbs ≤ 262144
class N4 (p : P3) : Prop where
 x : p.x.natAbs ≤ 524288
 y : p.y.natAbs ≤ 524288
 z : p.z.natAbs ≤ 524288
instance {p q : P3} [a : S4 p] [b : S4 q] : N4 (p.sub q):=⟨by have:=a.x; have:=b.x; simp only[P3.sub]; omega,by have:=a.y; have:=b.y; simp only[P3.sub]; omega,by have:=a.z; have:=b.z; simp only[P3.sub]; omega⟩
theorem sV {a b : Int} (ha : a.natAbs ≤ 524288) (hb : b.natAbs ≤ 524288) : -549755813888 < a * b ∧ a * b < 549755813888:=by
 have h : (a * b).natAbs ≤ 524288 * 524288:=by rw [Int.natAbs_mul]; exact Nat.mul_le_mul (by omega) (by omega)
 omega
theorem Uj {x y : Int} (h : -549755813888 < x ∧ x < 549755813888) (k : -549755813888 < y ∧ y < 549755813888) : IntKind.i64.wrap (x - y) = x - y:=aQ (by omega) (by omega)
theorem yA {x : Int} (h : -549755813888 < x ∧ x < 549755813888) : IntKind.i64.wrap x = x:=aQ (by omega) (by omega)
theorem adB {w : World} {g : Nat} {T : TypeId} {a b c d : P3} (hB : fW w g [.int .i64 a.x,.int .i64 a.y,.int .i64 a.z,.int .i64 b.x,.int .i64 b.y,.int .i64 b.z,.int .i64 c.x,.int .i64 c.y,.int .i64 c.z,.int .i64 d.x,.int .i64 d.y,.int .i64 d.z] T) : LAt Yq 3 w (some ⟨g,0,none⟩) 4 [a,b,c,d] :=
 ⟨rfl,fun i x hi=>⟨_,rfl,by
  rw [fN,Nat.zero_add]
  match i,hi with
  | 0,h=>cases h; exact qS.pre (ys:=Yq b ++ Yq c ++ Yq d) (hB.row 0)
  | 1,h=>cases h; exact qS.pre (ys:=Yq c ++ Yq d) (hB.row 3)
  | 2,h=>cases h; exact qS.pre (ys:=Yq d) (hB.row 6)
  | 3,h=>cases h; exact hB.row 9⟩⟩
theorem Xm {ps : List P3} {p : P3} {k : Nat} (h : ∀ q ∈ ps.take k,S4 q) (hp : ps[k]? = some p) (h4 : S4 p) : ∀ q ∈ ps.take (k + 1),S4 q:=fun q hq=>by
 rw [nG hp] at hq;rcases List.mem_append.1 hq with hq | hq
 · exact h q hq
 · rw [List.mem_singleton.1 hq]; exact h4
theorem Mf {ps : List P3} {N cap : Nat} {A : Option Addr} (w : World) (hP : LAt Yq 3 w A N ps) (hN : N < 4611686018427387904) : iL prog 153 [.slice A N cap] w (fun v _=>∃ bo : Bool,v = .bool bo ∧ (bo = true → ∀ p ∈ ps,S4 p)):=by
 refine ⟨aal,?_⟩;have m:=cR.refl w
 go_enter func153,ntmps153
 refine aF fun K1 k1=>wp_region_lit (aA (aD) (aC (k1 _ _ ?_)));refine aF fun K2 k2=>aF fun K3 k3=>wp_region_lit (aA (aD) (aC (k3 _ _ ?_)));refine wp_block ?_;simp only[zz];try simp only[Nat.zero_add,Nat.reduceAdd,Nat.reduceMul,Int.reduceToNat]
 refine dI [3] [2,4,5,6,7,8,9,10,11,12,13,14,15,16,17,18,19,20,21,22,23,24,25,26,27,28,29,30,31,32,33,34,35,36,37,38,39,40,41,42] (fun n vs wl=>∃ (k : Nat),vs = [.int .i64 (k:Int)] ∧ cR w wl [] ∧ (∀ p ∈ ps.take k,S4 p) ∧ (k ≤ N) ∧ (n = N - k)) ?_ ?_
 ·
  apply Exists.intro;simp only[zQ,zR,zD,zE];exact ⟨0,rfl,m,fun p h=>by simp at h,Nat.zero_le _,rfl⟩
 ·
  intro n vs wr hI u;clear m;obtain ⟨k,rfl,m,hs,hk,hn⟩:=hI;simp only[zv,zF,zG];refine aF fun K4 k4=>aF fun K5 k5=>wp_region_lit (aA (aB) (aA (aB) (aA (bR rfl sR rfl) (aA (eA rfl rfl) ?_))));simp only[zz];refine aC (k5 _ _ ?_);refine cQ rfl (fun hc1=>?_) (fun hc1=>?_)
  ·
   obtain ⟨p,hp,a,rfl,hrow⟩:=hP.get (i:=k) (by omega);have hrow : qS w (a.add (k * 3)) [.int .i64 p.x,.int .i64 p.y,.int .i64 p.z]:=hrow;refine wp_skip (k4 _ _ ?_);refine aF fun K6 k6=>wp_block (aF fun K7 k7=>wp_region_lit (aA (aB) (aA (aB) ?_)));simp only[zz];refine aA (aU sR aO rfl rfl (by omega) (by omega) (wC (Int.toNat_natCast _))) ?_;simp only[zz];refine aI rfl (((hrow.ext m.ext)).lies bK aO) ?_;simp only[zz];refine bC m eH rfl ?_;clear m; intro g1 u m;simp only[zz];refine aL m 0 rfl rfl rfl aO (cA rfl) rfl ?_;clear m; intro u m; simp only[zy,zx,aX,zF,zG,Nat.reduceAdd] at m;refine aC (k7 _ _ ?_);refine aF fun K8 k8=>wp_region_lit (aA (aH (c:=0) bZ rfl aM rfl rfl) ?_);simp only[zz];refine aI rfl ((m.b 0 rfl).lies1 aZ rfl) ?_;simp only[zz];refine aA (gS rfl rfl) (aA (aB) (mY rfl (fun hb=>aH (c:=0) bZ rfl aM rfl rfl) ?_));simp only[zz];refine uF rfl (fun hb=>kS (oC hb rfl) ((m.b 0 rfl).lies1 aZ rfl)) (mY rfl (fun hb=>eA (oC hb rfl) rfl) (aA (pL rfl rfl rfl) (aA (aB) (mY rfl (fun hb=>aH (c:=0) bZ rfl aM rfl rfl) ?_))));simp only[zz];refine uF rfl (fun hb=>kS (oC hb rfl) ((m.b 0 rfl).lies1 aZ rfl)) (mY rfl (fun hb=>gS (oC hb rfl) rfl) (aA (pL rfl rfl rfl) (aA (aB) (mY rfl (fun hb=>aH (c:=0) bZ rfl aM rfl rfl) ?_))));simp only[zz];refine uF rfl (fun hb=>kS (oC hb rfl) ((m.b 0 rfl).lies1 aZ rfl)) (mY rfl (fun hb=>eA (oC hb rfl) rfl) (aA (pL rfl rfl rfl) (aA (aB) (mY rfl (fun hb=>aH (c:=0) bZ rfl aM rfl rfl) ?_))));simp only[zz];refine uF rfl (fun hb=>kS (oC hb rfl) ((m.b 0 rfl).lies1 aZ rfl)) (mY rfl (fun hb=>gS (oC hb rfl) rfl) (aA (pL rfl rfl rfl) (aA (aB) (mY rfl (fun hb=>aH (c:=0) bZ rfl aM rfl rfl) ?_))));simp only[zz];refine uF rfl (fun hb=>kS (oC hb rfl) ((m.b 0 rfl).lies1 aZ rfl)) (mY rfl (fun hb=>eA (oC hb rfl) rfl) (aA (pL rfl rfl rfl) (aC (k8 _ _ ?_))));simp only[zz];refine oZ rfl (fun hc2=>?_) (fun hc2=>?_)
   ·
    refine aF fun K9 k9=>wp_region_lit (aA (aD) (aC (k9 _ _ ?_)));refine wp_ret ?_;simp only[zz];try simp only[Exit.inBlock,Exit.then,if_true]
    refine bU rfl rfl ?_;try simp only[zD,zE]
    exact ⟨_,rfl,m.ext,false,rfl,fun h=>by cases h⟩
   ·
    have hp4 : S4 p:=by
     simp only[Bool.or_eq_false_iff,decide_eq_false_iff_not] at hc2;exact ⟨by omega,by omega,by omega⟩
    refine wp_skip (k6 _ _ ?_);refine wp_region_lit (aA (aB) ?_);simp only[zz];refine aA (bD rfl rfl (aQ (by omega) (by omega))) (aA (aD) (aC ?_));simp only[zz];simp only[Exit.inBlock,Exit.then];refine ⟨N - (k + 1),_,?_,rfl,?_,?_⟩
    · omega
    · simp only[zz,zv]
    ·
     simp only[zQ,zR,zD,zE];exact ⟨k + 1,rfl,(m.sel [false]),Xm hs hp hp4,by omega,rfl⟩
  ·
   have e : ps.take k = ps:=List.take_of_length_le (by rw [hP.len]; omega);rw [e] at hs;refine wp_exit (k2 _ _ ?_);refine aF fun K10 k10=>wp_region_lit (aA (aD) (aC (k10 _ _ ?_)));refine wp_ret ?_;simp only[zz];try simp only[Exit.inBlock,Exit.then,if_true]
   refine bU rfl rfl ?_;try simp only[zD,zE]
   exact ⟨_,rfl,m.ext,true,rfl,fun _=>hs⟩
theorem yS {p q : P3} [hp : S4 p] [hq : S4 q] : dP prog 155 [pt p,pt q] (nv (q.sub p)):=by
 intro w;refine ⟨aan,?_⟩;have m:=cR.refl w;have:=hp.x; have:=hp.y; have:=hp.z; have:=hq.x; have:=hq.y; have:=hq.z
 go_enter func155,ntmps155
 refine aF fun K1 k1=>wp_region_lit (cM m rfl ?_);clear m; intro g1 u m;simp only[zz];refine cM m rfl ?_;clear m; intro g2 u m;simp only[zz];refine bC m kP rfl ?_;clear m; intro g3 u m;refine aC (k1 _ _ ?_);refine aF fun K2 k2=>wp_region_lit (aA (aH (c:=0) bZ rfl aM rfl rfl) ?_);simp only[zz];refine aI rfl ((m.b 1 rfl).lies1 aZ rfl) ?_;simp only[zz];refine aA (aH (c:=0) bZ rfl aM rfl rfl) ?_;simp only[zz];refine aI rfl ((m.b 2 rfl).lies1 aZ rfl) ?_;simp only[zz];refine aA (dU rfl rfl (aQ (by omega) (by omega))) (aA (aH (c:=0) bZ rfl aM rfl rfl) ?_);simp only[zz];refine aI rfl ((m.b 1 rfl).lies1 aZ rfl) ?_;simp only[zz];refine aA (aH (c:=0) bZ rfl aM rfl rfl) ?_;simp only[zz];refine aI rfl ((m.b 2 rfl).lies1 aZ rfl) ?_;simp only[zz];refine aA (dU rfl rfl (aQ (by omega) (by omega))) (aA (aH (c:=0) bZ rfl aM rfl rfl) ?_);simp only[zz];refine aI rfl ((m.b 1 rfl).lies1 aZ rfl) ?_;simp only[zz];refine aA (aH (c:=0) bZ rfl aM rfl rfl) ?_;simp only[zz];refine aI rfl ((m.b 2 rfl).lies1 aZ rfl) ?_;simp only[zz];refine aA (dU rfl rfl (aQ (by omega) (by omega))) (aA (dY rfl rfl rfl) ?_);simp only[zz];refine aL m 0 rfl rfl rfl cS (cA rfl) rfl ?_;clear m; intro u m; simp only[zy,zx,aX,zF,zG,Nat.reduceAdd] at m;refine aC (k2 _ _ ?_);refine wp_ret ?_;try simp only[Exit.inBlock,Exit.then,if_true]
 refine bU rfl ⟨_,rfl,((m.b 0 rfl).full lW cS)⟩ ?_;try simp only[zD,zE]
 exact ⟨_,rfl,m.ext,rfl⟩
theorem Hv {u v : P3} (hu : N4 u) (hv : N4 v) : dP prog 154 [nv u,nv v] (nv (u.cross v)):=by
 intro w;refine ⟨aam,?_⟩;have m:=cR.refl w
 go_enter func154,ntmps154
 refine aF fun K1 k1=>wp_region_lit (cM m rfl ?_);clear m; intro g1 u m;simp only[zz];refine cM m rfl ?_;clear m; intro g2 u m;simp only[zz];refine bC m kP rfl ?_;clear m; intro g3 u m;refine aC (k1 _ _ ?_);refine aF fun K2 k2=>wp_region_lit (aA (aJ eU aM rfl rfl (by decide) (by decide) rfl) ?_);simp only[zz];refine aI rfl ((m.b 2 rfl).lies1 aZ rfl) ?_;simp only[zz];refine aA (aJ eU aM rfl rfl (by decide) (by decide) rfl) ?_;simp only[zz];refine aI rfl ((m.b 1 rfl).lies1 aZ rfl) ?_;simp only[zz];refine aA (lB rfl rfl (yA (sV hu.y hv.z))) (aA (aJ eU aM rfl rfl (by decide) (by decide) rfl) ?_);simp only[zz];refine aI rfl ((m.b 2 rfl).lies1 aZ rfl) ?_;simp only[zz];refine aA (aJ eU aM rfl rfl (by decide) (by decide) rfl) ?_;simp only[zz];refine aI rfl ((m.b 1 rfl).lies1 aZ rfl) ?_;simp only[zz];refine aA (lB rfl rfl (yA (sV hu.z hv.y))) (aA (dU rfl rfl (Uj (sV hu.y hv.z) (sV hu.z hv.y))) (aA (aJ eU aM rfl rfl (by decide) (by decide) rfl) ?_));simp only[zz];refine aI rfl ((m.b 2 rfl).lies1 aZ rfl) ?_;simp only[zz];refine aA (aJ eU aM rfl rfl (by decide) (by decide) rfl) ?_;simp only[zz];refine aI rfl ((m.b 1 rfl).lies1 aZ rfl) ?_;simp only[zz];refine aA (lB rfl rfl (yA (sV hu.z hv.x))) (aA (aJ eU aM rfl rfl (by decide) (by decide) rfl) ?_);simp only[zz];refine aI rfl ((m.b 2 rfl).lies1 aZ rfl) ?_;simp only[zz];refine aA (aJ eU aM rfl rfl (by decide) (by decide) rfl) ?_;simp only[zz];refine aI rfl ((m.b 1 rfl).lies1 aZ rfl) ?_;simp only[zz];refine aA (lB rfl rfl (yA (sV hu.x hv.z))) (aA (dU rfl rfl (Uj (sV hu.z hv.x) (sV hu.x hv.z))) (aA (aJ eU aM rfl rfl (by decide) (by decide) rfl) ?_));simp only[zz];refine aI rfl ((m.b 2 rfl).lies1 aZ rfl) ?_;simp only[zz];refine aA (aJ eU aM rfl rfl (by decide) (by decide) rfl) ?_;simp only[zz];refine aI rfl ((m.b 1 rfl).lies1 aZ rfl) ?_;simp only[zz];refine aA (lB rfl rfl (yA (sV hu.x hv.y))) (aA (aJ eU aM rfl rfl (by decide) (by decide) rfl) ?_);simp only[zz];refine aI rfl ((m.b 2 rfl).lies1 aZ rfl) ?_;simp only[zz];refine aA (aJ eU aM rfl rfl (by decide) (by decide) rfl) ?_;simp only[zz];refine aI rfl ((m.b 1 rfl).lies1 aZ rfl) ?_;simp only[zz];refine aA (lB rfl rfl (yA (sV hu.y hv.x))) (aA (dU rfl rfl (Uj (sV hu.x hv.y) (sV hu.y hv.x))) (aA (dY rfl rfl rfl) ?_));simp only[zz];refine aL m 0 rfl rfl rfl cS (cA rfl) rfl ?_;clear m; intro u m; simp only[zy,zx,aX,zF,zG,Nat.reduceAdd] at m;refine aC (k2 _ _ ?_);refine wp_ret ?_;try simp only[Exit.inBlock,Exit.then,if_true]
 refine bU rfl ⟨_,rfl,((m.b 0 rfl).full lW cS)⟩ ?_;try simp only[zD,zE]
 exact ⟨_,rfl,m.ext,rfl⟩
theorem yB {n : Int} : dP prog 156 [.int .i64 n] (.int .i64 (dG n)):=by
 intro w;refine ⟨aao,?_⟩;have m:=cR.refl w
 go_enter func156,ntmps156
 refine aF fun K1 k1=>wp_region_lit (aA (aD) (aC (k1 _ _ ?_)));refine aF fun K2 k2=>aF fun K3 k3=>wp_region_lit (aA (aB) (aA (eA rfl rfl) (aC (k3 _ _ ?_))));simp only[zz];refine cQ rfl (fun hc1=>?_) (fun hc1=>?_)
 ·
  refine aF fun K4 k4=>wp_region_lit (aA (aD) (aC (k4 _ _ ?_)));refine wp_ret ?_;simp only[zz];try simp only[Exit.inBlock,Exit.then,if_true]
  refine bU rfl rfl ?_;try simp only[zD,zE]
  exact ⟨_,rfl,m.ext,by rw [mF (by assumption)]⟩
 ·
  refine wp_skip (k2 _ _ ?_);refine aF fun K5 k5=>aF fun K6 k6=>wp_region_lit (aA (aB) (aA (gS rfl rfl) (aC (k6 _ _ ?_))));simp only[zz];refine cQ rfl (fun hc2=>?_) (fun hc2=>?_)
  ·
   refine aF fun K7 k7=>wp_region_lit (aA (aD) (aC (k7 _ _ ?_)));refine wp_ret ?_;simp only[zz];try simp only[Exit.inBlock,Exit.then,if_true]
   refine bU rfl rfl ?_;try simp only[zD,zE]
   exact ⟨_,rfl,m.ext,by rw [lA (by assumption)]⟩
  ·
   refine wp_skip (k5 _ _ ?_);refine aF fun K8 k8=>wp_region_lit (aA (aD) (aC (k8 _ _ ?_)));refine wp_ret ?_;simp only[zz];try simp only[Exit.inBlock,Exit.then,if_true]
   refine bU rfl rfl ?_;try simp only[zD,zE]
   exact ⟨_,rfl,m.ext,by rw [show n = 0 by omega]; rfl⟩
theorem Mg {a b c d : P3} [I3 a] [I3 b] [I3 c] [I3 d] : dP prog 139 [pt a,pt b,pt c,pt d] (sg ((b.sub a).cross (d.sub c))):=by
 intro w;refine ⟨aag,?_⟩;have m:=cR.refl w
 go_enter func139,ntmps139
 refine aF fun K1 k1=>wp_region_lit (cM m rfl ?_);clear m; intro g1 u m;simp only[zz];refine cM m rfl ?_;clear m; intro g2 u m;simp only[zz];refine cM m rfl ?_;clear m; intro g3 u m;simp only[zz];refine cM m rfl ?_;clear m; intro g4 u m;simp only[zz];refine bC m kP rfl ?_;clear m; intro g5 u m;refine aC (k1 _ _ ?_);refine aF fun K2 k2=>wp_region_lit ?_;simp only[zz];refine aI rfl ((m.b 4 rfl).full bK aO) ?_;simp only[zz];refine aI rfl ((m.b 3 rfl).full bK aO) ?_;simp only[zz];refine aI rfl ((m.b 2 rfl).full bK aO) ?_;simp only[zz];refine aI rfl ((m.b 1 rfl).full bK aO) ?_;simp only[zz];refine En rfl rfl rfl rfl ?_;intro u g6 e hg hB; replace m:=m.newB e hg hB; clear e hg hB;simp only[zz];refine fU m rfl rfl (Mf (ps:=[a,b,c,d]) _ (adB (m.b 0 rfl)) (by decide)) ?_;clear m; rintro v u m ⟨bo,rfl,hsm⟩;refine aA (aD) (aC (k2 _ _ ?_));refine aF fun K3 k3=>aF fun K4 k4=>wp_region_lit (aA (aB) (aC (k4 _ _ ?_)));simp only[zz];refine oZ rfl (fun hc1=>?_) (fun hc1=>?_)
 ·
  have hs4:=hsm hc1;haveI:=hs4 a (by simp);haveI:=hs4 b (by simp);haveI:=hs4 c (by simp);haveI:=hs4 d (by simp);refine aF fun K5 k5=>?_;refine eF 8 [0,1,2,3,4,5,6] [⟨7,10,23,[.int .i64 0,.int .i64 0,.int .i64 0]⟩] aN (by kernel_rfl) (Vv ⟨_,_,_,rfl,by kernel_rfl,_,kP,rfl⟩) (ol:=?_) ?hol ?_
  case hol=>simp only[zw,zQ,zR]; try rfl
  intro u e; replace m:=m.ext' e; clear e;refine eM rfl (fun u e=>(((m.ext' e).b 5 rfl).full bK aO)) ?_;simp only[zz];refine eM rfl (fun u e=>(((m.ext' e).b 4 rfl).full bK aO)) ?_;simp only[zz];refine eD rfl rfl (yS) ?_;simp only[zz];refine eM rfl (fun u e=>(((m.ext' e).b 3 rfl).full bK aO)) ?_;simp only[zz];refine eM rfl (fun u e=>(((m.ext' e).b 2 rfl).full bK aO)) ?_;simp only[zz];refine eD rfl rfl (yS) ?_;simp only[zz];refine eD rfl rfl (Hv inferInstance inferInstance) (qA ?_);simp only[zz];refine Yh m ?_;clear m; intro g7 u m;simp only[zJ,zK,zF,zG];refine aL m 0 rfl rfl rfl cS (cA rfl) rfl ?_;clear m; intro u m; simp only[zy,zx,aX,zF,zG,Nat.reduceAdd] at m;refine aC (k5 _ _ ?_);refine aF fun K6 k6=>?_;refine dN m 10 aN (by kernel_rfl) ?_;simp only[zy];refine aS (aJ eU aM rfl rfl (by decide) (by decide) rfl) ?_;simp only[zz];refine ql rfl (fun u m=>((m.b 0 rfl).lies1 aZ rfl)) ?_;simp only[zz];refine gJ rfl rfl (yB) (aS (aJ eU aM rfl rfl (by decide) (by decide) rfl) ?_);simp only[zz];refine ql rfl (fun u m=>((m.b 0 rfl).lies1 aZ rfl)) ?_;simp only[zz];refine gJ rfl rfl (yB) (aS (aJ eU aM rfl rfl (by decide) (by decide) rfl) ?_);simp only[zz];refine ql rfl (fun u m=>((m.b 0 rfl).lies1 aZ rfl)) ?_;simp only[zz];refine gJ rfl rfl (yB) (aS (dY rfl rfl rfl) (dW ?_));clear m; intro u m;simp only[zz];refine aL m 2 rfl rfl rfl cS (cA rfl) rfl ?_;clear m; intro u m; simp only[zy,zx,aX,zF,zG,Nat.reduceAdd] at m;refine aC (k6 _ _ ?_);refine wp_ret ?_;try simp only[Exit.inBlock,Exit.then,if_true]
  refine bU rfl ⟨_,rfl,((m.b 2 rfl).full lW cS)⟩ ?_;try simp only[zD,zE]
  exact ⟨_,rfl,m.ext,rfl⟩
 ·
  refine wp_skip (k3 _ _ ?_);refine aF fun K7 k7=>?_;refine eF 8 [0,1,2,3,4,5,6] [⟨7,11,107,[.bool false,.string ⟨#[]⟩,.bool false,.string ⟨#[]⟩,.bool false,.string ⟨#[]⟩]⟩] aN (by kernel_rfl) (Vv ⟨_,_,_,rfl,by kernel_rfl,_,iB,rfl⟩) (ol:=?_) ?hol ?_
  case hol=>simp only[zw,zQ,zR]; try rfl
  intro u e; replace m:=m.ext' e; clear e;refine eM rfl (fun u e=>(((m.ext' e).b 5 rfl).full bK aO)) ?_;simp only[zz];refine eM rfl (fun u e=>(((m.ext' e).b 4 rfl).full bK aO)) ?_;simp only[zz];refine eD rfl rfl (wX) ?_;simp only[zz];refine eM rfl (fun u e=>(((m.ext' e).b 3 rfl).full bK aO)) ?_;simp only[zz];refine eM rfl (fun u e=>(((m.ext' e).b 2 rfl).full bK aO)) ?_;simp only[zz];refine eD rfl rfl (wX) ?_;simp only[zz];refine eD rfl rfl (Jz Bv.of Bv.of) (qA ?_);simp only[zz];refine Yh m ?_;clear m; intro g7 u m;simp only[zJ,zK,zF,zG];refine aL m 0 rfl rfl rfl cJ (cA rfl) rfl ?_;clear m; intro u m; simp only[zy,zx,aX,zF,zG,Nat.reduceAdd] at m;refine aC (k7 _ _ ?_);refine aF fun K8 k8=>?_;refine dN m 10 aN (by kernel_rfl) ?_;simp only[zy];refine aS (aJ dT aG rfl rfl (by decide) (by decide) rfl) ?_;simp only[zz];refine ql rfl (fun u m=>((m.b 0 rfl).lies aR aG rfl rfl)) ?_;simp only[zz,zy,Nat.zero_add,Nat.reduceAdd,Nat.reduceMul,Int.reduceToNat];refine gJ rfl rfl (lQ Bw.up) (aS (aJ dT aG rfl rfl (by decide) (by decide) rfl) ?_);simp only[zz];refine ql rfl (fun u m=>((m.b 0 rfl).lies aR aG rfl rfl)) ?_;simp only[zz,zy,Nat.zero_add,Nat.reduceAdd,Nat.reduceMul,Int.reduceToNat];refine gJ rfl rfl (lQ Bw.up) (aS (aJ dT aG rfl rfl (by decide) (by decide) rfl) ?_);simp only[zz];refine ql rfl (fun u m=>((m.b 0 rfl).lies aR aG rfl rfl)) ?_;simp only[zz,zy,Nat.zero_add,Nat.reduceAdd,Nat.reduceMul,Int.reduceToNat];refine gJ rfl rfl (lQ Bw.up) (aS (dY rfl rfl rfl) (dW ?_));clear m; intro u m;simp only[zz];refine aL m 2 rfl rfl rfl cS (cA rfl) rfl ?_;clear m; intro u m; simp only[zy,zx,aX,zF,zG,Nat.reduceAdd] at m;refine aC (k8 _ _ ?_);refine wp_ret ?_;try simp only[Exit.inBlock,Exit.then,if_true]
  refine bU rfl ⟨_,rfl,((m.b 2 rfl).full lW cS)⟩ ?_;try simp only[zD,zE]
  exact ⟨_,rfl,m.ext,rfl⟩
theorem Hw {a b c : P3} [I3 a] [I3 b] [I3 c] : dP prog 109 [pt a,pt b,pt c] (sg ((b.sub a).cross (c.sub a))):=by
 intro w;refine ⟨Zi,?_⟩;have m:=cR.refl w
 go_enter func109,ntmps109
 refine aF fun K1 k1=>wp_region_lit (cM m rfl ?_);clear m; intro g1 u m;simp only[zz];refine cM m rfl ?_;clear m; intro g2 u m;simp only[zz];refine cM m rfl ?_;clear m; intro g3 u m;simp only[zz];refine bC m kP rfl ?_;clear m; intro g4 u m;refine aC (k1 _ _ ?_);refine aF fun K2 k2=>wp_region_lit ?_;simp only[zz];refine aI rfl ((m.b 3 rfl).full bK aO) ?_;simp only[zz];refine aI rfl ((m.b 2 rfl).full bK aO) ?_;simp only[zz];refine aI rfl ((m.b 3 rfl).full bK aO) ?_;simp only[zz];refine aI rfl ((m.b 1 rfl).full bK aO) ?_;simp only[zz];refine aW m rfl rfl (Mg) ?_;clear m; intro u m;simp only[zz];refine aL m 0 rfl rfl rfl cS (cA rfl) rfl ?_;clear m; intro u m; simp only[zy,zx,aX,zF,zG,Nat.reduceAdd] at m;refine aC (k2 _ _ ?_);refine wp_ret ?_;try simp only[Exit.inBlock,Exit.then,if_true]
 refine bU rfl ⟨_,rfl,((m.b 0 rfl).full lW cS)⟩ ?_;try simp only[zD,zE]
 exact ⟨_,rfl,m.ext,rfl⟩
theorem Xn {t : T3} [IT t] : dP prog 74 [tr t] (.bool (decide (dG t.normal.x = 0 ∧ dG t.normal.y = 0 ∧ dG t.normal.z = 0))):=by
 intro w;refine ⟨acr,?_⟩;have m:=cR.refl w
 go_enter func74,ntmps74
 refine aF fun K1 k1=>wp_region_lit (cM m rfl ?_);clear m; intro g1 u m;refine aA (aD) (aC (k1 _ _ ?_));refine aF fun K2 k2=>wp_region_lit (aA (aJ jS aO rfl rfl (by decide) (by decide) rfl) ?_);simp only[zz];refine aI rfl ((m.b 0 rfl).lies bK aO rfl rfl) ?_;simp only[zz,zy,Nat.zero_add,Nat.reduceAdd,Nat.reduceMul,Int.reduceToNat];refine aA (aJ jS aO rfl rfl (by decide) (by decide) rfl) ?_;simp only[zz];refine aI rfl ((m.b 0 rfl).lies bK aO rfl rfl) ?_;simp only[zz,zy,Nat.zero_add,Nat.reduceAdd,Nat.reduceMul,Int.reduceToNat];refine aA (aJ jS aO rfl rfl (by decide) (by decide) rfl) ?_;simp only[zz];refine aI rfl ((m.b 0 rfl).lies bK aO rfl rfl) ?_;simp only[zz,zy,Nat.zero_add,Nat.reduceAdd,Nat.reduceMul,Int.reduceToNat];refine aW m rfl rfl (Hw (a:=t.a) (b:=t.b) (c:=t.c)) ?_;clear m; intro u m;refine aA (kV) (aA (tW rfl rfl) (aA (aD) ?_));simp only[zz];refine aC (k2 _ _ ?_);refine wp_ret ?_;try simp only[Exit.inBlock,Exit.then,if_true]
 refine bU rfl rfl ?_;try simp only[zD,zE]
 exact ⟨_,rfl,m.ext,rfl⟩
end Go.Proofs.YtimjandkmfcmiaaGreatDoor
namespace Go.Proofs.YtimjandkmfcmiaaGreatDoor
open Tryz
open Go.RowKit Go.Lith
set_option maxRecDepth 100000
attribute [local irreducible] wpList wpQuiet eS dV eG Code.wp
theorem yT {P : Program} {ds : List Deferred} {Q : Exit → Act → World → Prop} {w w0 : World} {is : List It} {c : Code} {a : Act} {l : Nat → List Value} {c1 : List Value} {T1 : TypeId} (m : cR w0 w is) (h1 : c.wp P (fun e a' u=>e = .normal ∧ ∃ g,a' = Fr (l g) ds ∧ cR w0 u (bI g c1 T1 :: is)) a w)
 (h2 : ∀ g u,cR w0 u (bI g c1 T1 :: is) → Q .normal (Fr (l g) ds) u) : c.wp P Q a w:=by
 refine Code.wp_mono ?_ h1;rintro e a' u ⟨rfl,g,rfl,m'⟩;exact h2 g u m'
theorem Fh {t : T3} [IT t] : dP prog 74 [tr t] (.bool (decide t.flat)):=by
 have:=Xn (t:=t);rwa [show decide (dG t.normal.x = 0 ∧ dG t.normal.y = 0 ∧ dG t.normal.z = 0) = decide t.flat from decide_eq_decide.2 (by rw [gY,gY,gY]; rfl)] at this
theorem Mh {n f : Int} {v : P3} (hn : Bd 400000 n) (hv : Bv 400000 v) (hf : f = -1) : dP prog 80 [W n,wv v,.int .i64 f] (.int .i64 (tH n (P3.sub ⟨0,0,0⟩ v))):=by
 subst hf;rw [← abn n v];exact Fg hn hv (.inr rfl)
theorem wZ {r : fY} [IR r] : dP prog 30 [lH r] (.bool (decide r.ok)):=by
 intro w;refine ⟨abN,?_⟩;have m:=cR.refl w
 go_enter func30,ntmps30
 refine aF fun K1 k1=>wp_region_lit (cM m rfl ?_);clear m; intro g1 u m;refine aA (aD) (aC (k1 _ _ ?_));refine aF fun K2 k2=>?_;simp only[zz];rcases (show ¬ 0 < r.w ∨ (0 < r.w ∧ r.d.x ≠ 0) ∨ (0 < r.w ∧ ¬ r.d.x ≠ 0 ∧ r.d.y ≠ 0) ∨ (0 < r.w ∧ ¬ r.d.x ≠ 0 ∧ ¬ r.d.y ≠ 0) by omega) with h0 | ⟨h0,h1⟩ | ⟨h0,h1,h2⟩ | ⟨h0,h1,h2⟩
 ·
  refine wp_region_lit (aA (aH (c:=0) fC rfl aM rfl rfl) ?_);simp only[zz];refine aI rfl ((m.b 0 rfl).lies1 aZ rfl) ?_;simp only[zz];refine aA (jZ rfl rfl (h0)) (aA (aB) (bM rfl (bM rfl ?_)));simp only[zz];refine bM rfl (bM rfl (bM rfl (dM rfl ?_)));simp only[zz];refine dM rfl (dM rfl (dM rfl (bM rfl ?_)));simp only[zz];refine bM rfl (dM rfl (dM rfl (dM rfl ?_)));simp only[zz];refine dM rfl (bM rfl (aA (cO rfl) (aA (aD) ?_)));simp only[zz];refine aC (k2 _ _ ?_);refine wp_ret ?_;try simp only[Exit.inBlock,Exit.then,if_true]
  refine bU rfl rfl ?_;try simp only[zD,zE]
  exact ⟨_,rfl,m.ext,iD (decide_eq_false (fun h=>h0 h.1)).symm⟩
 ·
  refine wp_region_lit (aA (aH (c:=0) fC rfl aM rfl rfl) ?_);simp only[zz];refine aI rfl ((m.b 0 rfl).lies1 aZ rfl) ?_;simp only[zz];refine aA (kT rfl rfl (h0)) (aA (aB) (aP rfl (aA (aH (c:=2) fC rfl cS rfl rfl) (aP rfl (aA (aJ eU aM rfl rfl (by decide) (by decide) rfl) ?_)))));simp only[zz];refine aP rfl (aI rfl ((m.b 0 rfl).lies1 aZ rfl) ?_);simp only[zz];refine aP rfl (aA (uX rfl rfl (h1)) (aP rfl (aA (aB) (bG rfl (bG rfl ?_)))));simp only[zz];refine bG rfl (bG rfl (aP rfl (aA (cG rfl) (aP rfl (aA (aB) ?_)))));simp only[zz];refine bG rfl (bG rfl (bG rfl (bG rfl ?_)));simp only[zz];refine aP rfl (aA (cG rfl) (aA (cG rfl) (aA (aD) (aC (k2 _ _ ?_)))));refine wp_ret ?_;simp only[zz];try simp only[Exit.inBlock,Exit.then,if_true]
  refine bU rfl rfl ?_;try simp only[zD,zE]
  exact ⟨_,rfl,m.ext,iD (decide_eq_true ⟨h0,fun h=>h1 h.1⟩).symm⟩
 ·
  refine wp_region_lit (aA (aH (c:=0) fC rfl aM rfl rfl) ?_);simp only[zz];refine aI rfl ((m.b 0 rfl).lies1 aZ rfl) ?_;simp only[zz];refine aA (kT rfl rfl (h0)) (aA (aB) (aP rfl (aA (aH (c:=2) fC rfl cS rfl rfl) (aP rfl (aA (aJ eU aM rfl rfl (by decide) (by decide) rfl) ?_)))));simp only[zz];refine aP rfl (aI rfl ((m.b 0 rfl).lies1 aZ rfl) ?_);simp only[zz];refine aP rfl (aA (qG rfl rfl (h1)) (aP rfl (aA (aB) (aP rfl (aA (aH (c:=2) fC rfl cS rfl rfl) (aP rfl (aA (aJ eU aM rfl rfl (by decide) (by decide) rfl) ?_)))))));simp only[zz];refine aP rfl (aI rfl ((m.b 0 rfl).lies1 aZ rfl) ?_);simp only[zz];refine aP rfl (aA (uX rfl rfl (h2)) (aP rfl (aA (cO rfl) (aP rfl (aA (aB) (bG rfl ?_))))));simp only[zz];refine bG rfl (bG rfl (bG rfl (aP rfl (aA (cG rfl) ?_))));simp only[zz];refine aA (cG rfl) (aA (aD) (aC (k2 _ _ ?_)));refine wp_ret ?_;simp only[zz];try simp only[Exit.inBlock,Exit.then,if_true]
  refine bU rfl rfl ?_;try simp only[zD,zE]
  exact ⟨_,rfl,m.ext,iD (decide_eq_true ⟨h0,fun h=>h2 h.2.1⟩).symm⟩
 ·
  refine wp_region_lit (aA (aH (c:=0) fC rfl aM rfl rfl) ?_);simp only[zz];refine aI rfl ((m.b 0 rfl).lies1 aZ rfl) ?_;simp only[zz];refine aA (kT rfl rfl (h0)) (aA (aB) (aP rfl (aA (aH (c:=2) fC rfl cS rfl rfl) (aP rfl (aA (aJ eU aM rfl rfl (by decide) (by decide) rfl) ?_)))));simp only[zz];refine aP rfl (aI rfl ((m.b 0 rfl).lies1 aZ rfl) ?_);simp only[zz];refine aP rfl (aA (qG rfl rfl (h1)) (aP rfl (aA (aB) (aP rfl (aA (aH (c:=2) fC rfl cS rfl rfl) (aP rfl (aA (aJ eU aM rfl rfl (by decide) (by decide) rfl) ?_)))))));simp only[zz];refine aP rfl (aI rfl ((m.b 0 rfl).lies1 aZ rfl) ?_);simp only[zz];refine aP rfl (aA (qG rfl rfl (h2)) (aP rfl (aA (cO rfl) (aP rfl (aA (aB) (aP rfl (aA (aH (c:=2) fC rfl cS rfl rfl) ?_)))))));simp only[zz];refine aP rfl (aA (aJ eU aM rfl rfl (by decide) (by decide) rfl) (aP rfl ?_));simp only[zz];refine aI rfl ((m.b 0 rfl).lies1 aZ rfl) ?_;simp only[zz];refine aP rfl (aA (nB rfl rfl) (aP rfl (aA (cO rfl) (aA (cG rfl) (aA (aD) ?_)))));simp only[zz];refine aC (k2 _ _ ?_);refine wp_ret ?_;try simp only[Exit.inBlock,Exit.then,if_true]
  refine bU rfl rfl ?_;try simp only[zD,zE]
  exact ⟨_,rfl,m.ext,iD (decide_eq_decide.2 (by unfold fY.ok; omega))⟩
theorem tP {r : fY} [IR r] (h : r.ok) : dP prog 30 [lH r] (.bool true):=by
 have:=wZ (r:=r);rwa [decide_eq_true h] at this
theorem tQ {r : fY} [IR r] (h : ¬ r.ok) : dP prog 30 [lH r] (.bool false):=by
 have:=wZ (r:=r);rwa [decide_eq_false h] at this
theorem Cv {r : fY} {t : T3} [IR r] [IT t] : dP prog 46 [lH r,tr t] (.tuple #[Q (fR r t),.bool (decide (iR r t))]):=by
 intro w;refine ⟨ab2,?_⟩;have m:=cR.refl w
 go_enter func46,ntmps46
 refine aF fun K1 k1=>wp_region_lit (cM m rfl ?_);clear m; intro g1 u m;simp only[zz];refine cM m rfl ?_;clear m; intro g2 u m;simp only[zz];refine bC m cD rfl ?_;clear m; intro g3 u m;refine aA (aD) (aC (k1 _ _ ?_));refine aF fun K2 k2=>?_;simp only[zz];rcases Decidable.em r.ok with hok | hok
 ·
  refine wp_region_lit (aI rfl ((m.b 2 rfl).full fB dJ) ?_);simp only[zz];refine aW m rfl rfl (tP hok) ?_;clear m; intro u m;refine aA (aD) (aC (k2 _ _ ?_));refine aF fun K3 k3=>wp_region_lit ?_;simp only[zz];refine aI rfl ((m.b 1 rfl).full mM fQ) ?_;simp only[zz];refine aW m rfl rfl (Fh) ?_;clear m; intro u m;refine aA (aD) (aC (k3 _ _ ?_));refine aF fun K4 k4=>aF fun K5 k5=>?_;simp only[zz];rcases Decidable.em t.flat with hf | hf
  ·
   rw [decide_eq_true hf];refine wp_region_lit (aA (aB) (aA (eT rfl) (aA (aB) (aP rfl (aA (aB) ?_)))));simp only[zz];refine aA (cO rfl) (aC (k5 _ _ ?_));refine bX rfl (aF fun K6 k6=>wp_region_lit ?_);simp only[zz];refine aW m rfl rfl (kC) ?_;clear m; intro u m;simp only[zz];refine aL m 0 rfl rfl rfl aK (cA rfl) rfl ?_;clear m; intro u m; simp only[zy,zx,aX,zF,zG,Nat.reduceAdd] at m;refine aA (aD) (aC (k6 _ _ ?_));refine wp_ret ?_;simp only[zz];try simp only[Exit.inBlock,Exit.then,if_true]
   refine jL rfl ⟨_,rfl,((m.b 0 rfl).full bB aK)⟩ rfl ?_;try simp only[zD,zE]
   first | exact ⟨_,rfl,m.ext,dZ (tJ hok)⟩ | exact ⟨_,rfl,m.ext,dZ (fun h=>h.2.1 hf)⟩ | exact ⟨_,rfl,m.ext,dZ (fun h=>hp h.2.2.1)⟩ | exact ⟨_,rfl,m.ext,dZ (fun h=>hc3 h.2.2.2)⟩ | exact ⟨_,rfl,m.ext,kK ⟨hok,hf,hp,hs0⟩⟩
  ·
   rw [decide_eq_false hf];refine wp_region_lit (aA (aB) (aA (eT rfl) (aA (aB) (aP rfl (aA (aB) ?_)))));simp only[zz];refine aA (cO rfl) (aC (k5 _ _ ?_));refine eQ rfl (wp_skip (k4 _ _ ?_));refine aF fun K7 k7=>wp_region_lit ?_;simp only[zz];refine aI rfl ((m.b 2 rfl).full fB dJ) ?_;simp only[zz];refine aW m rfl rfl (Kc) ?_;clear m; intro u m;simp only[zz];refine bC m iB rfl ?_;clear m; intro g4 u m;simp only[zz];refine aL m 0 rfl rfl rfl cJ (cA rfl) rfl ?_;clear m; intro u m; simp only[zy,zx,aX,zF,zG,Nat.reduceAdd] at m;refine aC (k7 _ _ ?_);refine aF fun K8 k8=>wp_region_lit (aI rfl ((m.b 3 rfl).full fB dJ) ?_);simp only[zz];refine aA (aJ jS aO rfl rfl (by decide) (by decide) rfl) ?_;simp only[zz];refine aI rfl ((m.b 2 rfl).lies bK aO rfl rfl) ?_;simp only[zz,zy,Nat.zero_add,Nat.reduceAdd,Nat.reduceMul,Int.reduceToNat];refine aW m rfl rfl (rO) ?_;clear m; intro u m;simp only[zz];refine bC m iB rfl ?_;clear m; intro g5 u m;simp only[zz];refine aL m 0 rfl rfl rfl cJ (cA rfl) rfl ?_;clear m; intro u m; simp only[zy,zx,aX,zF,zG,Nat.reduceAdd] at m;refine aC (k8 _ _ ?_);refine aF fun K9 k9=>wp_region_lit (aI rfl ((m.b 4 rfl).full fB dJ) ?_);simp only[zz];refine aA (aJ jS aO rfl rfl (by decide) (by decide) rfl) ?_;simp only[zz];refine aI rfl ((m.b 3 rfl).lies bK aO rfl rfl) ?_;simp only[zz,zy,Nat.zero_add,Nat.reduceAdd,Nat.reduceMul,Int.reduceToNat];refine aW m rfl rfl (rO) ?_;clear m; intro u m;simp only[zz];refine bC m iB rfl ?_;clear m; intro g6 u m;simp only[zz];refine aL m 0 rfl rfl rfl cJ (cA rfl) rfl ?_;clear m; intro u m; simp only[zy,zx,aX,zF,zG,Nat.reduceAdd] at m;refine aC (k9 _ _ ?_);refine aF fun K10 k10=>wp_region_lit (aI rfl ((m.b 5 rfl).full fB dJ) ?_);simp only[zz];refine aA (aJ jS aO rfl rfl (by decide) (by decide) rfl) ?_;simp only[zz];refine aI rfl ((m.b 4 rfl).lies bK aO rfl rfl) ?_;simp only[zz,zy,Nat.zero_add,Nat.reduceAdd,Nat.reduceMul,Int.reduceToNat];refine aW m rfl rfl (rO) ?_;clear m; intro u m;simp only[zz];refine bC m iB rfl ?_;clear m; intro g7 u m;simp only[zz];refine aL m 0 rfl rfl rfl cJ (cA rfl) rfl ?_;clear m; intro u m; simp only[zy,zx,aX,zF,zG,Nat.reduceAdd] at m;refine aC (k10 _ _ ?_);refine aF fun K11 k11=>wp_region_lit (aI rfl ((m.b 3 rfl).full eK cJ) ?_);simp only[zz];refine aI rfl ((m.b 2 rfl).full eK cJ) ?_;simp only[zz];refine aI rfl ((m.b 1 rfl).full eK cJ) ?_;simp only[zz];refine aW m rfl rfl (uI Bv.of Bv.of Bv.of) ?_;clear m; intro u m;refine aA (aD) (aC (k11 _ _ ?_));refine aF fun K12 k12=>aF fun K13 k13=>?_;simp only[zz];rcases Yl (x:=tI r.d (r.to t.a) (r.to t.b)) (y:=tI r.d (r.to t.b) (r.to t.c)) with h0 | ⟨h0,h1⟩ | ⟨h0,h1⟩
   ·
    have hp : ¬ wN r.d (r.to t.a) (r.to t.b) (r.to t.c):=fun h=>h.1 h0;refine wp_region_lit (aA (aB) (aA (nD rfl rfl (h0)) (aA (aB) (bG rfl ?_))));simp only[zz];refine bG rfl (bG rfl (bG rfl (bG rfl ?_)));simp only[zz];refine bG rfl (aA (cG rfl) (aA (aB) (bG rfl ?_)));simp only[zz];refine bG rfl (bG rfl (bG rfl (bG rfl ?_)));simp only[zz];refine bG rfl (aA (cG rfl) (aC (k13 _ _ ?_)));refine bX rfl (aF fun K14 k14=>wp_region_lit ?_);simp only[zz];refine aW m rfl rfl (kC) ?_;clear m; intro u m;simp only[zz];refine aL m 4 rfl rfl rfl aK (cA rfl) rfl ?_;clear m; intro u m; simp only[zy,zx,aX,zF,zG,Nat.reduceAdd] at m;refine aA (aD) (aC (k14 _ _ ?_));refine wp_ret ?_;simp only[zz];try simp only[Exit.inBlock,Exit.then,if_true]
    refine jL rfl ⟨_,rfl,((m.b 4 rfl).full bB aK)⟩ rfl ?_;try simp only[zD,zE]
    first | exact ⟨_,rfl,m.ext,dZ (tJ hok)⟩ | exact ⟨_,rfl,m.ext,dZ (fun h=>h.2.1 hf)⟩ | exact ⟨_,rfl,m.ext,dZ (fun h=>hp h.2.2.1)⟩ | exact ⟨_,rfl,m.ext,dZ (fun h=>hc3 h.2.2.2)⟩ | exact ⟨_,rfl,m.ext,kK ⟨hok,hf,hp,hs0⟩⟩
   ·
    have hp : ¬ wN r.d (r.to t.a) (r.to t.b) (r.to t.c):=fun h=>h1 h.2.1;refine wp_region_lit (aA (aB) (aA (kL rfl rfl (h0)) (aA (aB) (aP rfl ?_))));simp only[zz];refine aI rfl ((m.b 3 rfl).full eK cJ) ?_;simp only[zz];refine aP rfl (aI rfl ((m.b 1 rfl).full eK cJ) ?_);simp only[zz];refine aP rfl (aI rfl ((m.b 0 rfl).full eK cJ) ?_);simp only[zz];refine aP rfl (aW m rfl rfl (uI Bv.of Bv.of Bv.of) ?_);clear m; intro u m;refine aP rfl (aA (aB) (aP rfl (aA (uX rfl rfl (h1)) (aA (cO rfl) ?_))));simp only[zz];refine aA (aB) (bG rfl (bG rfl (bG rfl ?_)));simp only[zz];refine bG rfl (bG rfl (bG rfl (aA (cG rfl) ?_)));simp only[zz];refine aC (k13 _ _ ?_);refine bX rfl (aF fun K15 k15=>wp_region_lit (aW m rfl rfl (kC) ?_));clear m; intro u m;simp only[zz];refine aL m 4 rfl rfl rfl aK (cA rfl) rfl ?_;clear m; intro u m; simp only[zy,zx,aX,zF,zG,Nat.reduceAdd] at m;refine aA (aD) (aC (k15 _ _ ?_));refine wp_ret ?_;simp only[zz];try simp only[Exit.inBlock,Exit.then,if_true]
    refine jL rfl ⟨_,rfl,((m.b 4 rfl).full bB aK)⟩ rfl ?_;try simp only[zD,zE]
    first | exact ⟨_,rfl,m.ext,dZ (tJ hok)⟩ | exact ⟨_,rfl,m.ext,dZ (fun h=>h.2.1 hf)⟩ | exact ⟨_,rfl,m.ext,dZ (fun h=>hp h.2.2.1)⟩ | exact ⟨_,rfl,m.ext,dZ (fun h=>hc3 h.2.2.2)⟩ | exact ⟨_,rfl,m.ext,kK ⟨hok,hf,hp,hs0⟩⟩
   ·
    refine wp_region_lit (aA (aB) (aA (kL rfl rfl (h0)) (aA (aB) (aP rfl ?_))));simp only[zz];refine aI rfl ((m.b 3 rfl).full eK cJ) ?_;simp only[zz];refine aP rfl (aI rfl ((m.b 1 rfl).full eK cJ) ?_);simp only[zz];refine aP rfl (aI rfl ((m.b 0 rfl).full eK cJ) ?_);simp only[zz];refine aP rfl (aW m rfl rfl (uI Bv.of Bv.of Bv.of) ?_);clear m; intro u m;refine aP rfl (aA (aB) (aP rfl (aA (qG rfl rfl (not_not_intro h1)) (aA (cO rfl) ?_))));simp only[zz];refine aA (aB) (aP rfl ?_);simp only[zz];refine aI rfl ((m.b 3 rfl).full eK cJ) ?_;simp only[zz];refine aP rfl (aI rfl ((m.b 0 rfl).full eK cJ) ?_);simp only[zz];refine aP rfl (aI rfl ((m.b 2 rfl).full eK cJ) ?_);simp only[zz];refine aP rfl (aW m rfl rfl (uI Bv.of Bv.of Bv.of) ?_);clear m; intro u m;refine aP rfl (aA (aB) (aP rfl (aA (nB rfl rfl) (aA (cO rfl) ?_))));simp only[zz];refine aC (k13 _ _ ?_);refine cQ rfl (fun hc2=>?_) (fun hc2=>?_)
    ·
     have hp : ¬ wN r.d (r.to t.a) (r.to t.b) (r.to t.c):=fun h=>hc2 h.2.2;refine aF fun K16 k16=>wp_region_lit (aW m rfl rfl (kC) ?_);clear m; intro u m;simp only[zz];refine aL m 4 rfl rfl rfl aK (cA rfl) rfl ?_;clear m; intro u m; simp only[zy,zx,aX,zF,zG,Nat.reduceAdd] at m;refine aA (aD) (aC (k16 _ _ ?_));refine wp_ret ?_;simp only[zz];try simp only[Exit.inBlock,Exit.then,if_true]
     refine jL rfl ⟨_,rfl,((m.b 4 rfl).full bB aK)⟩ rfl ?_;try simp only[zD,zE]
     first | exact ⟨_,rfl,m.ext,dZ (tJ hok)⟩ | exact ⟨_,rfl,m.ext,dZ (fun h=>h.2.1 hf)⟩ | exact ⟨_,rfl,m.ext,dZ (fun h=>hp h.2.2.1)⟩ | exact ⟨_,rfl,m.ext,dZ (fun h=>hc3 h.2.2.2)⟩ | exact ⟨_,rfl,m.ext,kK ⟨hok,hf,hp,hs0⟩⟩
    ·
     have hp : wN r.d (r.to t.a) (r.to t.b) (r.to t.c):=⟨h0,h1,Decidable.not_not.1 hc2⟩
     refine wp_skip (k12 _ _ ?_);refine aF fun K17 k17=>wp_region_lit (aI rfl ((m.b 5 rfl).full mM fQ) ?_);simp only[zz];refine aW m rfl rfl (Py) ?_;clear m; intro u m;simp only[zz];refine bC m iB rfl ?_;clear m; intro g8 u m;simp only[zz];refine aL m 0 rfl rfl rfl cJ (cA rfl) rfl ?_;clear m; intro u m; simp only[zy,zx,aX,zF,zG,Nat.reduceAdd] at m;refine aC (k17 _ _ ?_);refine aF fun K18 k18=>wp_region_lit (aI rfl ((m.b 0 rfl).full eK cJ) ?_);simp only[zz];refine aI rfl ((m.b 3 rfl).full eK cJ) ?_;simp only[zz];refine aW m rfl rfl (Lz (u:=t.normal) (v:=r.to t.a) Bv.of Bv.of) ?_;clear m; intro u m;simp only[zz];refine bC m cI rfl ?_;clear m; intro g9 u m;simp only[zz];refine aL m 0 rfl rfl rfl aG (cA rfl) rfl ?_;clear m; intro u m; simp only[zy,zx,aX,zF,zG,Nat.reduceAdd] at m;refine aC (k18 _ _ ?_);refine aF fun K19 k19=>wp_region_lit (aI rfl ((m.b 1 rfl).full eK cJ) ?_);simp only[zz];refine aI rfl ((m.b 5 rfl).full eK cJ) ?_;simp only[zz];refine aW m rfl rfl (Lz (u:=t.normal) (v:=r.d) Bv.of Bv.of) ?_;clear m; intro u m;simp only[zz];refine bC m cI rfl ?_;clear m; intro g10 u m;simp only[zz];refine aL m 0 rfl rfl rfl aG (cA rfl) rfl ?_;clear m; intro u m; simp only[zy,zx,aX,zF,zG,Nat.reduceAdd] at m;refine aC (k19 _ _ ?_);refine aF fun K20 k20=>aF fun K21 k21=>?_;refine kG m [true,true,true,true,true,true,true,true,true,true] (.take 0 (.take 1 (.take 3 (.one 2 (.one 4 (.take 5 .nil)))))) aN (by kernel_rfl) (cW (fun _ _ _ _ _ h=>h)) ?_;clear m; intro u m;refine aV (by simp only[zw]; rfl) (cF rfl (fun u m=>((m.b 1 rfl).full aR aG)) ?_);simp only[zz];refine bA (aV (by simp only[zw]; rfl) (cF rfl (fun u m=>((m.b 2 rfl).full eK cJ)) ?_));simp only[zz];refine bA (aV (by simp only[zw]; rfl) (cF rfl (fun u m=>((m.b 0 rfl).full aR aG)) ?_));simp only[zz];refine bA (bL (by simp only[zw]; rfl) ?_);refine aW m rfl rfl (Mh (n:=xR r t) (v:=t.normal) (f:=-1) Bw.up Bv.of rfl) ?_;clear m; intro u m;refine aC (⟨m,?_⟩);refine bL (by simp only[zw]; rfl) ?_;simp only[zz];refine aW m rfl rfl (lQ (a:=rL r t) Bw.up) ?_;clear m; intro u m;refine aC (⟨m,?_⟩);refine aV (by simp only[zw]; rfl) (aY (nB rfl rfl) (bA (eE (k21 _ _ ?_))));simp only[zz];refine cQ rfl (fun hc3=>?_) (fun hc3=>?_)
     ·
      refine aF fun K22 k22=>wp_region_lit (aW m rfl rfl (kC) ?_);clear m; intro u m;simp only[zz];refine aL m 7 rfl rfl rfl aK (cA rfl) rfl ?_;clear m; intro u m; simp only[zy,zx,aX,zF,zG,Nat.reduceAdd] at m;refine aA (aD) (aC (k22 _ _ ?_));refine wp_ret ?_;simp only[zz];try simp only[Exit.inBlock,Exit.then,if_true]
      refine jL rfl ⟨_,rfl,((m.b 7 rfl).full bB aK)⟩ rfl ?_;try simp only[zD,zE]
      first | exact ⟨_,rfl,m.ext,dZ (tJ hok)⟩ | exact ⟨_,rfl,m.ext,dZ (fun h=>h.2.1 hf)⟩ | exact ⟨_,rfl,m.ext,dZ (fun h=>hp h.2.2.1)⟩ | exact ⟨_,rfl,m.ext,dZ (fun h=>hc3 h.2.2.2)⟩ | exact ⟨_,rfl,m.ext,kK ⟨hok,hf,hp,hs0⟩⟩
     ·
      have hs0:=Decidable.not_not.1 hc3;have hs:=Cc hf hs0;refine wp_skip (k20 _ _ ?_);refine aF fun K23 k23=>?_;refine kG m [true,true,true,true,true,true,true,false,true,true] (.take 0 (.take 1 (.take 2 (.take 4 (.one 3 (.one 5 (.one 6 (.take 7 (.take 8 (.one 9 (.take 10 .nil))))))))))) aN (by kernel_rfl) (cW (fun _ _ _ _ _ h=>h)) ?_;clear m; intro u m;refine aV (by simp only[zw]; rfl) (cF rfl (fun u m=>((m.b 1 rfl).full aR aG)) ?_);simp only[zz];refine bA (aV (by simp only[zw]; rfl) (aY (aH (c:=0) fC rfl aM rfl rfl) (bA (aV (by simp only[zw]; rfl) ?_))));simp only[zz];refine cF rfl (fun u m=>((m.b 8 rfl).lies1 aZ rfl)) ?_;simp only[zz];refine bA (aV (by simp only[zw]; rfl) (cF rfl (fun u m=>((m.b 0 rfl).full aR aG)) ?_));simp only[zz];refine bA (bL (by simp only[zw]; rfl) ?_);refine aW m rfl rfl (dO Iw.h) ?_;clear m; intro u m;refine aC (⟨m.sel [true,true,true,true,true,true,true,false,true,true],?_⟩);refine bL (by simp only[zw]; rfl) ?_;simp only[zz];refine aW m rfl rfl (fZ (a:=r.w) (b:=rL r t) Bw.up Bw.up) ?_;clear m; intro u m;refine aC (⟨m.sel [true,true,true,true,true,true,true,false,true,true],?_⟩);refine bL (by simp only[zw]; rfl) ?_;simp only[zz];refine aW m rfl rfl (iT (n:=xR r t) (d:=r.w * rL r t) Bw.up Bw.up (Jr hok hs)) ?_;clear m; intro u m;refine aC (⟨m.sel [true,true,true,true,true,true,true,false,true,true],?_⟩);refine aV (by simp only[zw]; rfl) (aY (aT rfl rfl) (bA (aV (by simp only[zw]; rfl) (aY (aT rfl rfl) (bA (bL (by simp only[zw]; rfl) ?_))))));simp only[zz];refine aL m 7 rfl rfl rfl aK (cA rfl) rfl ?_;clear m; intro u m; simp only[zy,zx,aX,zF,zG,Nat.reduceAdd] at m;refine aC (⟨m.sel [true,true,true,true,true,true,true,false,true,true],?_⟩);refine aV (by simp only[zw]; rfl) (aY (aD) (bA (eE (k23 _ _ ?_))));refine wp_ret ?_;simp only[zz];try simp only[Exit.inBlock,Exit.then,if_true]
      refine jL rfl ⟨_,rfl,((m.b 7 rfl).full bB aK)⟩ rfl ?_;try simp only[zD,zE]
      first | exact ⟨_,rfl,m.ext,dZ (tJ hok)⟩ | exact ⟨_,rfl,m.ext,dZ (fun h=>h.2.1 hf)⟩ | exact ⟨_,rfl,m.ext,dZ (fun h=>hp h.2.2.1)⟩ | exact ⟨_,rfl,m.ext,dZ (fun h=>hc3 h.2.2.2)⟩ | exact ⟨_,rfl,m.ext,kK ⟨hok,hf,hp,hs0⟩⟩
 ·
  refine wp_region_lit (aI rfl ((m.b 2 rfl).full fB dJ) ?_);simp only[zz];refine aW m rfl rfl (tQ hok) ?_;clear m; intro u m;refine aA (aD) (aC (k2 _ _ ?_));refine aF fun K24 k24=>wp_region_lit ?_;simp only[zz];refine aI rfl ((m.b 1 rfl).full mM fQ) ?_;simp only[zz];refine aW m rfl rfl (Fh) ?_;clear m; intro u m;refine aA (aD) (aC (k24 _ _ ?_));refine aF fun K25 k25=>aF fun K26 k26=>wp_region_lit (aA (aB) (aA (eT rfl) ?_));simp only[zz];refine aA (aB) (bG rfl (aA (cG rfl) (aC (k26 _ _ ?_))));refine bX rfl (aF fun K27 k27=>wp_region_lit ?_);simp only[zz];refine aW m rfl rfl (kC) ?_;clear m; intro u m;simp only[zz];refine aL m 0 rfl rfl rfl aK (cA rfl) rfl ?_;clear m; intro u m; simp only[zy,zx,aX,zF,zG,Nat.reduceAdd] at m;refine aA (aD) (aC (k27 _ _ ?_));refine wp_ret ?_;simp only[zz];try simp only[Exit.inBlock,Exit.then,if_true]
  refine jL rfl ⟨_,rfl,((m.b 0 rfl).full bB aK)⟩ rfl ?_;try simp only[zD,zE]
  first | exact ⟨_,rfl,m.ext,dZ (tJ hok)⟩ | exact ⟨_,rfl,m.ext,dZ (fun h=>h.2.1 hf)⟩ | exact ⟨_,rfl,m.ext,dZ (fun h=>hp h.2.2.1)⟩ | exact ⟨_,rfl,m.ext,dZ (fun h=>hc3 h.2.2.2)⟩ | exact ⟨_,rfl,m.ext,kK ⟨hok,hf,hp,hs0⟩⟩
theorem abp {r : fY} {ts : List T3} {o : Option Rat} [IR r] (hT : ∀ t ∈ ts,IT t) (h : mZ r ts o) : Bq 400000 (o.getD 0):=by
 cases o with
 | none=>exact Nn
 | some q =>
  obtain ⟨⟨t,ht,hh,e⟩,_⟩:=h.2 q rfl;haveI:=hT t ht;show Bq 400000 q
  rw [← e];exact wT
theorem Mi {r : fY} {t : T3} {ts : List T3} {o : Option Rat} (h : mZ r ts o) : (¬ iR r t ∧ mZ r (t :: ts) o) ∨ (iR r t ∧ o = none ∧ mZ r (t :: ts) (some (fR r t))) ∨ (iR r t ∧ ∃ q,o = some q ∧ (fR r t ≤ q → mZ r (t :: ts) (some (fR r t))) ∧ (¬ fR r t ≤ q → mZ r (t :: ts) (some q))):=by
 rcases Decidable.em (iR r t) with hh | hh
 ·
  cases o with
  | none=>exact .inr (.inl ⟨hh,rfl,Jy h hh fun q e=>by cases e⟩)
  | some q=>exact .inr (.inr ⟨hh,q,rfl,fun k=>Jy h hh fun p e=>by cases e; exact k,fun k=>Px h k⟩)
 · exact .inl ⟨hh,Xh h hh⟩
theorem Xo {ts : List T3} {t : T3} {i : Nat} (h : ts[i]? = some t) : ts.drop i = t :: ts.drop (i + 1):=by
 obtain ⟨hi,e⟩:=List.getElem?_eq_some_iff.1 h;rw [List.drop_eq_getElem_cons hi,e]
theorem Ag {p q : Rat} : Gr p q ≤ 0 ↔ p ≤ q:=by
 rw [← Rat.not_lt,← mT]; omega
theorem Mj {r : fY} {ts : List T3} [IR r] {N cap : Nat} {A : Option Addr} (w : World) (hT : dK w A N ts) (hN : N < 4611686018427387904) : iL prog 32 [lH r,.slice A N cap] w (fun v _=>∃ k : Int,v = .tuple #[.agg #[.bool (cN (lZ (bE r ts)).num),.string (cX (lZ (bE r ts)).num),.bool (cN ((lZ (bE r ts)).den : Int)),.string (cX ((lZ (bE r ts)).den : Int)),.int .i64 k],.bool (bE r ts).isSome]):=by
 refine ⟨abP,?_⟩;have m:=cR.refl w
 go_enter func32,ntmps32
 refine aF fun K1 k1=>wp_region_lit (cM m rfl ?_);clear m; intro g1 u m;simp only[zz];refine bC m pV rfl ?_;clear m; intro g2 u m;refine aA (aD) (aC (k1 _ _ ?_));refine aF fun K2 k2=>wp_region_lit ?_;simp only[zz];refine aW m rfl rfl (kC) ?_;clear m; intro u m;refine aA (vX rfl) ?_;simp only[zz];refine bC m pV rfl ?_;clear m; intro g3 u m;simp only[zz];refine aL m 0 rfl rfl rfl jE (cA rfl) rfl ?_;clear m; intro u m; simp only[zy,zx,aX,zF,zG,Nat.reduceAdd] at m;refine aC (k2 _ _ ?_);refine aF fun K3 k3=>wp_region_lit (aA (aD) (aC (k3 _ _ ?_)));refine aF fun K4 k4=>aF fun K5 k5=>wp_region_lit (aA (aB) (aA (bR rfl nC rfl) ?_));simp only[zz];refine aA (dU rfl rfl (aQ (by omega) (by omega))) (aA (aD) (aC (k5 _ _ ?_)));refine wp_block ?_;simp only[zz];try simp only[Nat.zero_add,Nat.reduceAdd,Nat.reduceMul,Int.reduceToNat]
 refine dI [7,8] [9,10,16,17,18,19,20,21,22,23,24,25,26,27,28,29,30,31,32,33,34,35,36,37,38,39,40,41,42,43] (fun n vs wl=>∃ (k : Nat) (o : Option Rat) (f : Bool) (j : Int),vs = [.bool f,.int .i64 ((k:Int) - 1)] ∧ cR w wl [bI g3 [.bool (cN ((o.getD 0)).num),.string (cX ((o.getD 0)).num),.bool (cN (((o.getD 0)).den : Int)),.string (cX (((o.getD 0)).den : Int)),.int .i64 j] 43,bI g2 [.bool false,.string ⟨#[]⟩,.bool false,.string ⟨#[]⟩,.int .i64 0] 43,bI g1 [.int .i64 r.s.x,.int .i64 r.s.y,.int .i64 r.s.z,.int .i64 r.w,.int .i64 r.d.x,.int .i64 r.d.y,.int .i64 r.d.z] 25] ∧ (mZ r (ts.drop k) o) ∧ (f = o.isSome) ∧ (k ≤ N) ∧ (n = k)) ?_ ?_
 ·
  apply Exists.intro;simp only[zQ,zR,zD,zE];exact ⟨N,none,false,0,rfl,m,by rw [← hT.len,List.drop_length]; exact Ud r,rfl,Nat.le_refl _,rfl⟩
 ·
  intro n vs wr hI u;clear m;obtain ⟨k,o,f,j,rfl,m,hbr,hf,hk,hn⟩:=hI;simp only[zv,zF,zG];refine aF fun K6 k6=>aF fun K7 k7=>wp_region_lit (aA (aB) (aA (lC rfl rfl) (aC (k7 _ _ ?_))));simp only[zz];refine cQ rfl (fun hc1=>?_) (fun hc1=>?_)
  ·
   obtain ⟨i,rfl⟩ : ∃ i,k = i + 1:=⟨k - 1,by omega⟩
   obtain ⟨t,ht,hit,a,rfl,hrow⟩:=hT.get (i:=i) (by omega);rw [show (((i + 1 : Nat) : Int) - 1) = (i : Int) by omega];have hdr:=Xo ht;refine wp_skip (k6 _ _ ?_);refine aF fun K8 k8=>wp_block (aF fun K9 k9=>?_);apply yT m (T1:=37)
   ·
    refine kG m [true,true,true] (.take 0 (.take 1 (.take 2 (.take 3 (.take 4 (.two 5 (.take 6 (.take 7 (.take 8 (.one 9 (.one 10 (.take 11 .nil)))))) 9 (.one 5 (.take 6 (.take 7 (.take 8 (.one 10 (.take 11 .nil)))))))))))) aN (by kernel_rfl) (fun _ _ _ _ _ h=>by cases h.1) ?_;intro u m;refine aV (by simp only[zw]; rfl) (cF rfl (fun u m=>((m.b 2 rfl).full fB dJ)) ?_);simp only[zz];refine bA (aV (by simp only[zw]; rfl) (aY (aB) (bA (aV (by simp only[zw]; rfl) (aY (aB) (bA (aV (by simp only[zw]; rfl) ?_)))))));simp only[zz];refine aY (aU nC fQ rfl rfl (by omega) (by omega) (wC (Int.toNat_natCast _))) (bA (aV (by simp only[zw]; rfl) ?_));simp only[zz];refine cF rfl (fun u m=>(((hrow.ext m.ext)).lies mM fQ)) ?_;simp only[zz];refine bA ?_;refine gX (by simp only[zw]; rfl) (by simp only[zw]; rfl) ?_ ?_
    ·
     refine aW m rfl rfl (Cv (t:=t)) ?_;clear m; intro u m;refine aC (⟨m,?_⟩);refine aV (by simp only[zw]; rfl) (aY (aB) (bA (aV (by simp only[zw]; rfl) (aY (aT rfl rfl) (bA (aV (by simp only[zw]; rfl) (aY (aT rfl rfl) ?_)))))));simp only[zz];refine bA (bL (by simp only[zw]; rfl) ?_);refine bC m cD rfl ?_;clear m; intro g4 u m;refine aC (⟨m.sel [false,true,true,true],?_⟩);refine bL (by simp only[zw]; rfl) ?_;simp only[zz];refine aL m 0 rfl rfl rfl aK (cA rfl) rfl ?_;clear m; intro u m; simp only[zy,zx,aX,zF,zG,Nat.reduceAdd] at m;refine aC (⟨m.sel [false,true,true,true],?_⟩);refine aV (by simp only[zw]; rfl) (aY (aD) (bA (eE ?_)));exact ⟨rfl,g4,rfl,m⟩
    ·
     refine bC m cD rfl ?_;clear m; intro g4 u m;refine aC (⟨m.sel [false,true,true,true],?_⟩);refine bL (by simp only[zw]; rfl) ?_;simp only[zz];refine aW m rfl rfl (Cv (t:=t)) ?_;clear m; intro u m;refine aC (⟨m.sel [false,true,true,true],?_⟩);refine aV (by simp only[zw]; rfl) (aY (aB) (bA (aV (by simp only[zw]; rfl) (aY (aT rfl rfl) (bA (aV (by simp only[zw]; rfl) (aY (aT rfl rfl) ?_)))))));simp only[zz];refine bA (bL (by simp only[zw]; rfl) ?_);refine aL m 0 rfl rfl rfl aK (cA rfl) rfl ?_;clear m; intro u m; simp only[zy,zx,aX,zF,zG,Nat.reduceAdd] at m;refine aC (⟨m.sel [false,true,true,true],?_⟩);refine aV (by simp only[zw]; rfl) (aY (aD) (bA (eE ?_)));exact ⟨rfl,g4,rfl,m⟩
   intro g4 u m;try dsimp only
   refine k9 _ _ ?_;refine aF fun K10 k10=>?_;rcases Mi (t:=t) hbr with ⟨hh,hq1⟩ | ⟨hh,rfl,hq1⟩ | ⟨hh,q,rfl,hq1,hq2⟩
   ·
    rw [decide_eq_false hh]
    let oE : Option Rat:=o
    have hoE : mZ r (t :: ts.drop (i + 1)) oE:=hq1;refine wp_region_lit (aA (aB) (aA (aB) (bM rfl (bM rfl ?_))));simp only[zz];refine bM rfl (dM rfl (dM rfl (dM rfl ?_)));simp only[zz];refine dM rfl (dM rfl (bM rfl (aA (cO rfl) ?_)));simp only[zz];refine aC (k10 _ _ ?_);refine eQ rfl (wp_skip (k8 _ _ ?_));refine wp_region_lit (aA (aB) ?_);simp only[zz];refine aA (dU rfl rfl (aQ (by omega) (by omega))) (aA (aD) (aC ?_));simp only[zz];simp only[Exit.inBlock,Exit.then];refine ⟨i,_,?_,rfl,?_,?_⟩
    · omega
    · simp only[zz,zv]
    ·
     simp only[zQ,zR,zD,zE];exact ⟨i,oE,_,_,rfl,(m.sel [false,true,true,true]),by rw [hdr]; exact hoE,by first | rfl | exact hf,by omega,rfl⟩
   ·
    rw [decide_eq_true hh];obtain rfl : f = false:=hf
    let oE : Option Rat:=some (fR r t)
    have hoE : mZ r (t :: ts.drop (i + 1)) oE:=hq1;refine wp_region_lit (aA (aB) (aA (aB) (aP rfl (aA (aB) (aP rfl (aA (eT rfl) ?_))))));simp only[zz];refine aP rfl (aA (aB) (bG rfl (bG rfl (bG rfl ?_))));simp only[zz];refine bG rfl (bG rfl (aP rfl (aA (cG rfl) (aA (cG rfl) ?_))));simp only[zz];refine aC (k10 _ _ ?_);refine bX rfl (aF fun K11 k11=>wp_region_lit (aI rfl ((m.b 0 rfl).full bB aK) ?_));simp only[zz];refine aA (aB) (aA (mN rfl rfl) ?_);simp only[zz];refine aL m 1 rfl rfl rfl jE (cA rfl) rfl ?_;clear m; intro u m; simp only[zy,zx,aX,zF,zG,Nat.reduceAdd] at m;refine aC (k11 _ _ ?_);refine wp_region_lit (aA (aD) (aC (k8 _ _ ?_)));refine wp_region_lit (aA (aB) ?_);simp only[zz];refine aA (dU rfl rfl (aQ (by omega) (by omega))) (aA (aD) (aC ?_));simp only[zz];simp only[Exit.inBlock,Exit.then];refine ⟨i,_,?_,rfl,?_,?_⟩
    · omega
    · simp only[zz,zv]
    ·
     simp only[zQ,zR,zD,zE];exact ⟨i,oE,_,_,rfl,(m.sel [false,true,true,true]),by rw [hdr]; exact hoE,by first | rfl | exact hf,by omega,rfl⟩
   ·
    rw [decide_eq_true hh];obtain rfl : f = true:=hf;refine wp_region_lit (aA (aB) (aA (aB) (aP rfl (aA (aB) (aP rfl (aA (eT rfl) ?_))))));simp only[zz];refine aP rfl (aA (aB) (aP rfl ?_));simp only[zz];refine aI rfl ((m.b 0 rfl).full bB aK) ?_;simp only[zz];refine aP rfl (aA (aH (c:=3) qX rfl aK rfl rfl) (aP rfl ?_));simp only[zz];refine aI rfl ((m.b 1 rfl).lies bB aK rfl rfl) ?_;simp only[zz,zy,Nat.zero_add,Nat.reduceAdd,Nat.reduceMul,Int.reduceToNat];refine aP rfl (aW m rfl rfl (jQ (p:=fR r t) (q:=q) wT (abp (o:=some q) (fun u hu=>hT.it u (List.mem_of_mem_drop hu)) hbr)) ?_);clear m; intro u m;refine aP rfl (aA (yF rfl rfl) (aP rfl (aA (cO rfl) (aA (cG rfl) ?_))));simp only[zz];refine aC (k10 _ _ ?_);refine cQ rfl (fun hc2=>?_) (fun hc2=>?_)
    ·
     replace hq1:=hq1 (Ag.1 hc2)
     let oE : Option Rat:=some (fR r t)
     have hoE : mZ r (t :: ts.drop (i + 1)) oE:=hq1;refine aF fun K12 k12=>wp_region_lit (aI rfl ((m.b 0 rfl).full bB aK) ?_);simp only[zz];refine aA (aB) (aA (mN rfl rfl) ?_);simp only[zz];refine aL m 1 rfl rfl rfl jE (cA rfl) rfl ?_;clear m; intro u m; simp only[zy,zx,aX,zF,zG,Nat.reduceAdd] at m;refine aC (k12 _ _ ?_);refine wp_region_lit (aA (aD) (aC (k8 _ _ ?_)));refine wp_region_lit (aA (aB) ?_);simp only[zz];refine aA (dU rfl rfl (aQ (by omega) (by omega))) (aA (aD) (aC ?_));simp only[zz];simp only[Exit.inBlock,Exit.then];refine ⟨i,_,?_,rfl,?_,?_⟩
     · omega
     · simp only[zz,zv]
     ·
      simp only[zQ,zR,zD,zE];exact ⟨i,oE,_,_,rfl,(m.sel [false,true,true,true]),by rw [hdr]; exact hoE,by first | rfl | exact hf,by omega,rfl⟩
    ·
     replace hq2:=hq2 (mt Ag.2 hc2)
     let oE : Option Rat:=some q
     have hoE : mZ r (t :: ts.drop (i + 1)) oE:=hq2;refine wp_skip (k8 _ _ ?_);refine wp_region_lit (aA (aB) ?_);simp only[zz];refine aA (dU rfl rfl (aQ (by omega) (by omega))) (aA (aD) (aC ?_));simp only[zz];simp only[Exit.inBlock,Exit.then];refine ⟨i,_,?_,rfl,?_,?_⟩
     · omega
     · simp only[zz,zv]
     ·
      simp only[zQ,zR,zD,zE];exact ⟨i,oE,_,_,rfl,(m.sel [false,true,true,true]),by rw [hdr]; exact hoE,by first | rfl | exact hf,by omega,rfl⟩
  ·
   obtain rfl : k = 0:=by omega
   rw [List.drop_zero] at hbr;obtain ⟨hb1,hb2⟩:=Ly hbr;refine wp_exit (k4 _ _ ?_);refine aF fun K13 k13=>wp_region_lit (aI rfl ((m.b 0 rfl).full Fu jE) ?_);simp only[zz];refine aA (aB) ?_;simp only[zz];refine aL m 1 rfl rfl rfl jE (cA rfl) rfl ?_;clear m; intro u m; simp only[zy,zx,aX,zF,zG,Nat.reduceAdd] at m;refine aA (aD) (aC (k13 _ _ ?_));refine wp_ret ?_;simp only[zz];try simp only[Exit.inBlock,Exit.then,if_true]
   refine jL rfl ⟨_,rfl,((m.b 1 rfl).full Fu jE)⟩ rfl ?_;try simp only[zD,zE]
   exact ⟨_,rfl,m.ext,j,by rw [← hb1,← hb2,hf]⟩
end Go.Proofs.YtimjandkmfcmiaaGreatDoor
namespace Go.Proofs.YtimjandkmfcmiaaGreatDoor
open Tryz
open Go.RowKit Go.Lith
set_option maxRecDepth 100000
attribute [local irreducible] wpList wpQuiet eS dV eG Code.wp
theorem Xp {w : World} {g k : Nat} {v : P3} {T : TypeId} (hB : fW w g [.int .i64 v.x,.int .i64 v.y,.int .i64 v.z] T) (h : k < 3) : qT prog w 3 ⟨g,k,none⟩ (.int .i64 (v.at k)):=by
 rcases k3 h with rfl | rfl | rfl
 · exact hB.lies1 (i:=0) aZ rfl
 · exact hB.lies1 (i:=1) aZ rfl
 · exact hB.lies1 (i:=2) aZ rfl
theorem Kf {w : World} {g k : Nat} {r : fY} {T : TypeId} (hB : fW w g [.int .i64 r.s.x,.int .i64 r.s.y,.int .i64 r.s.z,.int .i64 r.w,.int .i64 r.d.x,.int .i64 r.d.y,.int .i64 r.d.z] T) (h : k < 3) : qT prog w 3 ⟨g,4 + k,none⟩ (.int .i64 (r.d.at k)):=by
 rcases k3 h with rfl | rfl | rfl
 · exact hB.lies1 (i:=4) aZ rfl
 · exact hB.lies1 (i:=5) aZ rfl
 · exact hB.lies1 (i:=6) aZ rfl
theorem Ys {g o : Nat} {m : Int} {q : Nat} (h : m.toNat = q) : (⟨g,o,none⟩ : Addr).add (m.toNat * 1) = ⟨g,o + q,none⟩:=by rw [h,Nat.mul_one,fN]
theorem Uk {k m : Nat} {p q : Rat} (hp : Bq k p) (hq : Bq m q) : Bq (k + m) (p * q):=by
 rw [← Ke];exact (Bq.mk' (hp.n.mul hq.n) (hp.d.mul hq.d) (lS p q)).mono (by omega)
theorem tR {n : Int} [h : Iw n] : Bq 64 (n : Rat):=⟨h.h.bd,wK.mono (by decide)⟩
def oQ (r : fY) (k : Nat) (t : Rat) : Rat:=Rat.divInt (r.s.at k) r.w + t * ((r.d.at k : Int) : Rat)
theorem Yt {r : fY} [IR r] {k : Nat} {t : Rat} (hw : 0 < r.w) (ht : Bq 10000 t) : Bq 190000 (oQ r k t):=by
 unfold oQ;have h1 : Bq 64 (Rat.divInt (r.s.at k) r.w):=(Bq.mk' (a:=64) (b:=64) Bw.up Bw.up (by omega)).mono (by decide);have h2 : Bq 10064 (t * ((r.d.at k : Int) : Rat)):=Uk ht tR;rw [← Ct];exact (Bq.mk' ((h1.n.mul h2.d).add (h2.n.mul h1.d)) (h1.d.mul h2.d) (lS _ _)).mono (by decide)
theorem Ul {l h : Int} {X : Rat} {b c : Bool} (hb : b = decide (Gr (l : Rat) X ≤ 0)) (hc : c = decide (Gr X (h : Rat) ≤ 0)) : (b && c) = decide ((l : Rat) ≤ X ∧ X ≤ (h : Rat)):=by
 rw [hb,hc,← Bool.decide_and];exact decide_eq_decide.2 (by rw [Ag,Ag])
theorem xA {n : Int} : dP prog 82 [W n,W 0] (.tuple #[.agg #[.bool false,.string ⟨#[]⟩,.bool false,.string ⟨#[]⟩],.bool false]):=by
 intro w;refine ⟨Yd,?_⟩;have m:=cR.refl w
 go_enter func82,ntmps82
 refine aF fun K1 k1=>wp_region_lit (cM m rfl ?_);clear m; intro g1 u m;simp only[zz];refine cM m rfl ?_;clear m; intro g2 u m;simp only[zz];refine bC m cD rfl ?_;clear m; intro g3 u m;refine aA (aD) (aC (k1 _ _ ?_));refine aF fun K2 k2=>wp_region_lit ?_;simp only[zz];refine aI rfl ((m.b 1 rfl).full aR aG) ?_;simp only[zz];refine aW m rfl rfl (lQ (a:=0) (iY _)) ?_;clear m; intro u m;refine aA (aD) (aC (k2 _ _ ?_));refine aF fun K3 k3=>aF fun K4 k4=>wp_region_lit (aA (aB) (aA (nD rfl rfl (rfl)) ?_));simp only[zz];refine aC (k4 _ _ ?_);refine bX rfl (aF fun K5 k5=>wp_region_lit (aA (If) ?_));simp only[zz];refine aL m 0 rfl rfl rfl aK (cA rfl) rfl ?_;clear m; intro u m; simp only[zy,zx,aX,zF,zG,Nat.reduceAdd] at m;refine aA (aD) (aC (k5 _ _ ?_));refine wp_ret ?_;simp only[zz];try simp only[Exit.inBlock,Exit.then,if_true]
 refine jL rfl ⟨_,rfl,((m.b 0 rfl).full bB aK)⟩ rfl ?_;try simp only[zD,zE]
 exact ⟨_,rfl,m.ext,rfl⟩
theorem Cw {r : fY} {k : Nat} {t : Rat} {l h : Int} [IR r] [Iw l] [Iw h] (hw : 0 < r.w) (hk : k < 3) (ht : Bq 10000 t) : dP prog 86 [lH r,.int .i64 (k : Int),Q t,.int .i64 l,.int .i64 h] (.bool (decide ((l : Rat) ≤ oQ r k t ∧ oQ r k t ≤ (h : Rat)))):=by
 intro w;refine ⟨acD,?_⟩;have m:=cR.refl w;haveI : Iw (1 : Int):=⟨⟨by decide,by decide⟩⟩
 go_enter func86,ntmps86
 refine aF fun K1 k1=>wp_region_lit (cM m rfl ?_);clear m; intro g1 u m;simp only[zz];refine cM m rfl ?_;clear m; intro g2 u m;refine aA (aD) (aC (k1 _ _ ?_));refine aF fun K2 k2=>wp_region_lit (aA (aH (c:=0) fC rfl aM rfl rfl) ?_);simp only[zz];refine aI rfl ((m.b 1 rfl).lies1 aZ rfl) ?_;simp only[zz];refine aA (aH (c:=0) fC rfl aM rfl rfl) ?_;simp only[zz];refine aI rfl ((m.b 1 rfl).lies1 aZ rfl) ?_;simp only[zz];refine aA (aH (c:=0) fC rfl aM rfl rfl) ?_;simp only[zz];refine aI rfl ((m.b 1 rfl).lies1 aZ rfl) ?_;simp only[zz];refine aA (dY rfl rfl rfl) ?_;simp only[zz];refine bC m kP rfl ?_;clear m; intro g3 u m;simp only[zz];refine aL m 0 rfl rfl rfl cS (cA rfl) rfl ?_;clear m; intro u m; simp only[zy,zx,aX,zF,zG,Nat.reduceAdd] at m;refine aC (k2 _ _ ?_);refine aF fun K3 k3=>?_;apply yT m (T1:=37)
 ·
  refine kG m [true,true,true] (.take 0 (.take 1 (.take 2 (.take 4 (.take 5 (.two 3 (.two 6 (.two 7 (.take 8 (.take 9 (.take 10 (.one 11 (.one 12 (.take 13 .nil)))))) 11 (.one 7 (.take 8 (.take 9 (.take 10 (.one 12 (.take 13 .nil))))))) 11 (.one 6 (.one 7 (.take 8 (.take 9 (.take 10 (.one 12 (.take 13 .nil)))))))) 11 (.one 3 (.one 6 (.one 7 (.take 8 (.take 9 (.take 10 (.one 12 (.take 13 .nil)))))))))))))) aN (by kernel_rfl) (fun _ _ _ _ _ h=>by cases h.1) ?_;intro u m;refine aV (by simp only[zw]; rfl) (aY (aB) (bA (aV (by simp only[zw]; rfl) ?_)));simp only[zz];refine aY (aJ eU aM rfl rfl (by omega) (by omega) (fK (Int.toNat_natCast _))) (bA (aV (by simp only[zw]; rfl) ?_));simp only[zz];refine cF rfl (fun u m=>(Xp (m.b 0 rfl) hk)) ?_;simp only[zz];refine bA (aV (by simp only[zw]; rfl) (aY (aH (c:=0) fC rfl aM rfl rfl) (bA (aV (by simp only[zw]; rfl) ?_))));simp only[zz];refine cF rfl (fun u m=>((m.b 2 rfl).lies1 aZ rfl)) ?_;simp only[zz];refine bA ?_;refine gX (by simp only[zw]; rfl) (by simp only[zw]; rfl) ?_ ?_
  ·
   refine aW m rfl rfl (dO (n:=r.s.at k) Iw.h) ?_;clear m; intro u m;refine aC (⟨m,?_⟩);simp only[zz];refine gX (by simp only[zw]; rfl) (by simp only[zw]; rfl) ?_ ?_
   ·
    refine aW m rfl rfl (dO (n:=r.w) Iw.h) ?_;clear m; intro u m;refine aC (⟨m,?_⟩);simp only[zz];refine gX (by simp only[zw]; rfl) (by simp only[zw]; rfl) ?_ ?_
    ·
     refine aW m rfl rfl (iT (n:=r.s.at k) (d:=r.w) Bw.up Bw.up (by omega)) ?_;clear m; intro u m;refine aC (⟨m,?_⟩);refine aV (by simp only[zw]; rfl) (aY (aB) (bA (aV (by simp only[zw]; rfl) (aY (aT rfl rfl) (bA (aV (by simp only[zw]; rfl) (aY (aT rfl rfl) ?_)))))));simp only[zz];refine bA (bL (by simp only[zw]; rfl) ?_);refine bC m cD rfl ?_;clear m; intro g4 u m;refine aC (⟨m.sel [false,true,true,true],?_⟩);refine bL (by simp only[zw]; rfl) ?_;simp only[zz];refine aL m 0 rfl rfl rfl aK (cA rfl) rfl ?_;clear m; intro u m; simp only[zy,zx,aX,zF,zG,Nat.reduceAdd] at m;refine aC (⟨m.sel [false,true,true,true],?_⟩);refine aV (by simp only[zw]; rfl) (aY (aD) (bA (eE ?_)));exact ⟨rfl,g4,rfl,m⟩
    ·
     refine bC m cD rfl ?_;clear m; intro g4 u m;refine aC (⟨m.sel [false,true,true,true],?_⟩);refine bL (by simp only[zw]; rfl) ?_;simp only[zz];refine aW m rfl rfl (iT (n:=r.s.at k) (d:=r.w) Bw.up Bw.up (by omega)) ?_;clear m; intro u m;refine aC (⟨m.sel [false,true,true,true],?_⟩);refine aV (by simp only[zw]; rfl) (aY (aB) (bA (aV (by simp only[zw]; rfl) (aY (aT rfl rfl) (bA (aV (by simp only[zw]; rfl) (aY (aT rfl rfl) ?_)))))));simp only[zz];refine bA (bL (by simp only[zw]; rfl) ?_);refine aL m 0 rfl rfl rfl aK (cA rfl) rfl ?_;clear m; intro u m; simp only[zy,zx,aX,zF,zG,Nat.reduceAdd] at m;refine aC (⟨m.sel [false,true,true,true],?_⟩);refine aV (by simp only[zw]; rfl) (aY (aD) (bA (eE ?_)));exact ⟨rfl,g4,rfl,m⟩
   ·
    refine bC m cD rfl ?_;clear m; intro g4 u m;refine aC (⟨m.sel [false,true,true,true],?_⟩);refine bL (by simp only[zw]; rfl) ?_;simp only[zz];refine aW m rfl rfl (dO (n:=r.w) Iw.h) ?_;clear m; intro u m;refine aC (⟨m.sel [false,true,true,true],?_⟩);refine bL (by simp only[zw]; rfl) ?_;simp only[zz];refine aW m rfl rfl (iT (n:=r.s.at k) (d:=r.w) Bw.up Bw.up (by omega)) ?_;clear m; intro u m;refine aC (⟨m.sel [false,true,true,true],?_⟩);refine aV (by simp only[zw]; rfl) (aY (aB) (bA (aV (by simp only[zw]; rfl) (aY (aT rfl rfl) (bA (aV (by simp only[zw]; rfl) (aY (aT rfl rfl) ?_)))))));simp only[zz];refine bA (bL (by simp only[zw]; rfl) ?_);refine aL m 0 rfl rfl rfl aK (cA rfl) rfl ?_;clear m; intro u m; simp only[zy,zx,aX,zF,zG,Nat.reduceAdd] at m;refine aC (⟨m.sel [false,true,true,true],?_⟩);refine aV (by simp only[zw]; rfl) (aY (aD) (bA (eE ?_)));exact ⟨rfl,g4,rfl,m⟩
  ·
   refine bC m cD rfl ?_;clear m; intro g4 u m;refine aC (⟨m.sel [false,true,true,true],?_⟩);refine bL (by simp only[zw]; rfl) ?_;simp only[zz];refine aW m rfl rfl (dO (n:=r.s.at k) Iw.h) ?_;clear m; intro u m;refine aC (⟨m.sel [false,true,true,true],?_⟩);refine bL (by simp only[zw]; rfl) ?_;simp only[zz];refine aW m rfl rfl (dO (n:=r.w) Iw.h) ?_;clear m; intro u m;refine aC (⟨m.sel [false,true,true,true],?_⟩);refine bL (by simp only[zw]; rfl) ?_;simp only[zz];refine aW m rfl rfl (iT (n:=r.s.at k) (d:=r.w) Bw.up Bw.up (by omega)) ?_;clear m; intro u m;refine aC (⟨m.sel [false,true,true,true],?_⟩);refine aV (by simp only[zw]; rfl) (aY (aB) (bA (aV (by simp only[zw]; rfl) (aY (aT rfl rfl) (bA (aV (by simp only[zw]; rfl) (aY (aT rfl rfl) ?_)))))));simp only[zz];refine bA (bL (by simp only[zw]; rfl) ?_);refine aL m 0 rfl rfl rfl aK (cA rfl) rfl ?_;clear m; intro u m; simp only[zy,zx,aX,zF,zG,Nat.reduceAdd] at m;refine aC (⟨m.sel [false,true,true,true],?_⟩);refine aV (by simp only[zw]; rfl) (aY (aD) (bA (eE ?_)));exact ⟨rfl,g4,rfl,m⟩
 intro g4 u m;try dsimp only
 refine k3 _ _ ?_;refine aF fun K4 k4=>?_;apply yT m (T1:=37)
 ·
  refine kG m [true,true,true,true] (.take 0 (.take 1 (.take 2 (.take 3 (.take 4 (.two 5 (.two 6 (.take 7 (.two 8 (.one 9 (.one 10 .nil)) 9 (.one 8 (.one 10 .nil)))) 9 (.one 6 (.take 7 (.one 8 (.one 10 .nil))))) 9 (.one 5 (.one 6 (.take 7 (.one 8 (.one 10 .nil))))))))))) aN (by kernel_rfl) (fun _ _ _ _ _ h=>by cases h.1) ?_;intro u m;refine aV (by simp only[zw]; rfl) (cF rfl (fun u m=>((m.b 2 rfl).full bB aK)) ?_);simp only[zz];refine bA (aV (by simp only[zw]; rfl) (aY (aB) (bA (aV (by simp only[zw]; rfl) (aY (aH (c:=2) fC rfl cS rfl rfl) (bA (aV (by simp only[zw]; rfl) ?_)))))));simp only[zz];refine aY (aJ eU aM rfl rfl (by omega) (by omega) (Ys (Int.toNat_natCast _))) (bA (aV (by simp only[zw]; rfl) ?_));simp only[zz];refine cF rfl (fun u m=>(Kf (m.b 3 rfl) hk)) ?_;simp only[zz];refine bA ?_;refine gX (by simp only[zw]; rfl) (by simp only[zw]; rfl) ?_ ?_
  ·
   refine aW m rfl rfl (dO (n:=r.d.at k) Iw.h) ?_;clear m; intro u m;refine aC (⟨m,?_⟩);simp only[zz];refine gX (by simp only[zw]; rfl) (by simp only[zw]; rfl) ?_ ?_
   ·
    refine aW m rfl rfl (dO (n:=1) Iw.h) ?_;clear m; intro u m;refine aC (⟨m,?_⟩);refine aV (by simp only[zw]; rfl) (aY (gG rfl rfl) (bA ?_));simp only[zz];refine gX (by simp only[zw]; rfl) (by simp only[zw]; rfl) ?_ ?_
    ·
     refine aW m rfl rfl (sN (p:=t) (q:=((r.d.at k : Int) : Rat)) (ht.mono (by decide)) (tR.mono (by decide))) ?_;clear m; intro u m;refine aC (⟨m,?_⟩);refine bL (by simp only[zw]; rfl) ?_;simp only[zz];refine bC m cD rfl ?_;clear m; intro g5 u m;refine aC (⟨m.sel [false,true,true,true,true],?_⟩);refine bL (by simp only[zw]; rfl) ?_;simp only[zz];refine aL m 0 rfl rfl rfl aK (cA rfl) rfl ?_;clear m; intro u m; simp only[zy,zx,aX,zF,zG,Nat.reduceAdd] at m;refine aC (⟨m.sel [false,true,true,true,true],?_⟩);exact eE (⟨rfl,g5,rfl,m⟩)
    ·
     refine bC m cD rfl ?_;clear m; intro g5 u m;refine aC (⟨m.sel [false,true,true,true,true],?_⟩);refine bL (by simp only[zw]; rfl) ?_;simp only[zz];refine aW m rfl rfl (sN (p:=t) (q:=((r.d.at k : Int) : Rat)) (ht.mono (by decide)) (tR.mono (by decide))) ?_;clear m; intro u m;refine aC (⟨m.sel [false,true,true,true,true],?_⟩);refine bL (by simp only[zw]; rfl) ?_;simp only[zz];refine aL m 0 rfl rfl rfl aK (cA rfl) rfl ?_;clear m; intro u m; simp only[zy,zx,aX,zF,zG,Nat.reduceAdd] at m;refine aC (⟨m.sel [false,true,true,true,true],?_⟩);exact eE (⟨rfl,g5,rfl,m⟩)
   ·
    refine bC m cD rfl ?_;clear m; intro g5 u m;refine aC (⟨m.sel [false,true,true,true,true],?_⟩);refine bL (by simp only[zw]; rfl) ?_;simp only[zz];refine aW m rfl rfl (dO (n:=1) Iw.h) ?_;clear m; intro u m;refine aC (⟨m.sel [false,true,true,true,true],?_⟩);refine aV (by simp only[zw]; rfl) (aY (gG rfl rfl) (bA (bL (by simp only[zw]; rfl) ?_)));simp only[zz];refine aW m rfl rfl (sN (p:=t) (q:=((r.d.at k : Int) : Rat)) (ht.mono (by decide)) (tR.mono (by decide))) ?_;clear m; intro u m;refine aC (⟨m.sel [false,true,true,true,true],?_⟩);refine bL (by simp only[zw]; rfl) ?_;simp only[zz];refine aL m 0 rfl rfl rfl aK (cA rfl) rfl ?_;clear m; intro u m; simp only[zy,zx,aX,zF,zG,Nat.reduceAdd] at m;refine aC (⟨m.sel [false,true,true,true,true],?_⟩);exact eE (⟨rfl,g5,rfl,m⟩)
  ·
   refine bC m cD rfl ?_;clear m; intro g5 u m;refine aC (⟨m.sel [false,true,true,true,true],?_⟩);refine bL (by simp only[zw]; rfl) ?_;simp only[zz];refine aW m rfl rfl (dO (n:=r.d.at k) Iw.h) ?_;clear m; intro u m;refine aC (⟨m.sel [false,true,true,true,true],?_⟩);refine bL (by simp only[zw]; rfl) ?_;simp only[zz];refine aW m rfl rfl (dO (n:=1) Iw.h) ?_;clear m; intro u m;refine aC (⟨m.sel [false,true,true,true,true],?_⟩);refine aV (by simp only[zw]; rfl) (aY (gG rfl rfl) (bA (bL (by simp only[zw]; rfl) ?_)));simp only[zz];refine aW m rfl rfl (sN (p:=t) (q:=((r.d.at k : Int) : Rat)) (ht.mono (by decide)) (tR.mono (by decide))) ?_;clear m; intro u m;refine aC (⟨m.sel [false,true,true,true,true],?_⟩);refine bL (by simp only[zw]; rfl) ?_;simp only[zz];refine aL m 0 rfl rfl rfl aK (cA rfl) rfl ?_;clear m; intro u m; simp only[zy,zx,aX,zF,zG,Nat.reduceAdd] at m;refine aC (⟨m.sel [false,true,true,true,true],?_⟩);exact eE (⟨rfl,g5,rfl,m⟩)
 intro g5 u m;try dsimp only
 refine k4 _ _ ?_;refine aF fun K5 k5=>wp_region_lit (aI rfl ((m.b 1 rfl).full bB aK) ?_);simp only[zz];refine aI rfl ((m.b 0 rfl).full bB aK) ?_;simp only[zz];refine aW m rfl rfl (Me (p:=Rat.divInt (r.s.at k) r.w) (q:=t * ((r.d.at k : Int) : Rat)) ((Bq.mk' (a:=64) (b:=64) Bw.up Bw.up (by omega)).mono (by decide)) ((Uk ht tR).mono (by decide))) ?_;clear m; intro u m;simp only[zz];refine aL m 1 rfl rfl rfl aK (cA rfl) rfl ?_;clear m; intro u m; simp only[zy,zx,aX,zF,zG,Nat.reduceAdd] at m;refine aC (k5 _ _ ?_);refine aF fun K6 k6=>wp_region_lit (aA (aB) ?_);simp only[zz];refine aW m rfl rfl (dO (n:=l) Iw.h) ?_;clear m; intro u m;simp only[zz];refine aW m rfl rfl (dO (n:=1) Iw.h) ?_;clear m; intro u m;refine aA (gG rfl rfl) ?_;simp only[zz];refine bC m cD rfl ?_;clear m; intro g6 u m;simp only[zz];refine aL m 0 rfl rfl rfl aK (cA rfl) rfl ?_;clear m; intro u m; simp only[zy,zx,aX,zF,zG,Nat.reduceAdd] at m;refine aC (k6 _ _ ?_);refine aF fun K7 k7=>wp_region_lit (aA (aB) ?_);simp only[zz];refine aW m rfl rfl (dO (n:=h) Iw.h) ?_;clear m; intro u m;simp only[zz];refine aW m rfl rfl (dO (n:=1) Iw.h) ?_;clear m; intro u m;refine aA (gG rfl rfl) ?_;simp only[zz];refine bC m cD rfl ?_;clear m; intro g7 u m;simp only[zz];refine aL m 0 rfl rfl rfl aK (cA rfl) rfl ?_;clear m; intro u m; simp only[zy,zx,aX,zF,zG,Nat.reduceAdd] at m;refine aC (k7 _ _ ?_);refine aF fun K8 k8=>wp_region_lit (aI rfl ((m.b 1 rfl).full bB aK) ?_);simp only[zz];refine aI rfl ((m.b 3 rfl).full bB aK) ?_;simp only[zz];refine aW m rfl rfl (jQ (p:=(l : Rat)) (q:=oQ r k t) (tR.mono (by decide)) ((Yt hw ht).mono (by decide))) ?_;clear m; intro u m;refine aA (yF rfl rfl) (aA (aB) ?_);simp only[zz];refine sI rfl (fun hb=>kS rfl ((m.b 3 rfl).full bB aK)) (sI rfl (fun hb=>kS rfl ((m.b 0 rfl).full bB aK)) (Wf m rfl rfl (fun hb=>by simp only[List.toList_toArray,List.map_cons,List.map_nil,zA,zB,zC,zD,zE,hb,Cg]; rfl) (fun hb=>jQ (p:=oQ r k t) (q:=(h : Rat)) ((Yt hw ht).mono (by decide)) (tR.mono (by decide))) ?_));clear m; intro u m;refine pM rfl (fun hb=>yF (oC hb rfl) rfl) (aA (xT rfl rfl rfl) (aA (aD) ?_));simp only[zz];refine aC (k8 _ _ ?_);refine wp_ret ?_;try simp only[Exit.inBlock,Exit.then,if_true]
 refine bU rfl rfl ?_;try simp only[zD,zE]
 exact ⟨_,rfl,m.ext,iD (Ul rfl rfl)⟩
end Go.Proofs.YtimjandkmfcmiaaGreatDoor
