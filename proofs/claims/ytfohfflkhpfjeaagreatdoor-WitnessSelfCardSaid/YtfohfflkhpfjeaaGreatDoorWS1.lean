/-
 Texts of one claim, laid together: V7s, Join, JoinWitnessSelf.
-/
import Derived.OpenVars
import Derived.OpenShut
import Derived.WalkKit
import Derived.ProofKit
import Derived.Test.YtfohfflkhpfjeaaGreatDoorCards
import Derived.Test.YtfohfflkhpfjeaaGreatDoorTie
import Derived.Deep.DeepHandedRow
import Derived.Lib.LaidTab
import Derived.Test.YtfohfflkhpfjeaaGreatDoorB9
set_option maxHeartbeats 8000000
set_option linter.unusedSimpArgs false
set_option linter.unusedVariables false
set_option linter.unusedSectionVars false
namespace Go.Proofs.YtfohfflkhpfjeaaGreatDoor
open Go.Proofs.Tryz
open Go.RowKit Go.Lith
set_option maxRecDepth 100000
attribute [local irreducible] wpList wpQuiet dW dM dK Code.wp
theorem Hx {kind bits : Int} [Iw kind] [Iw bits] {HN Hc DN Dc : Nat} {HA DA : Option Addr} {zs : List Int} {qs : List Q4} {q0 q1 q2 : Int} [Iw q0] [Iw q1] [Iw q2] (w : World) (hZ : nQ w HA HN zs) (hQ : mU q4C 4 w DA DN qs) (hI : ∀ q ∈ qs,IQ q) : eK prog 4 [.agg #[.int .i64 kind,.int .i64 bits,.slice HA HN Hc,.slice DA DN Dc],.agg #[.int .i64 q0,.int .i64 q1,.int .i64 q2]] w (fun v _=>v = .bool true):=by
 refine ⟨ag7,?_⟩;have m:=cA.refl w
 go_enter func4,ntmps4
 refine aD fun K1 k1=>wp_region_lit (eD m rfl ?_);clear m;intro g1 u m;simp only[zz];refine eD m rfl ?_;clear m;intro g2 u m;refine aA (aC) (aG (k1 _ _ ?_));refine aD fun K2 k2=>wp_region_lit ?_;simp only[zz];refine fA m rfl rfl (Ar) ?_;clear m;intro u m;refine aA (aC) (aG (k2 _ _ ?_));refine aD fun K3 k3=>wp_region_lit ?_;simp only[zz];refine aK rfl ((m.b 1 rfl).full Qt Fe) ?_;simp only[zz];refine aZ rfl rfl (Sg _ (hZ.ext m.ext) (hQ.ext m.ext) hI) ?_;rintro v u e ⟨us,ms,A7,c7,A8,c8,A5,c5,i,rfl,hM,hi,hdv⟩;replace m:=m.plus hM;clear hM e;simp only[List.cons_append,List.nil_append] at m;have hs:=hdv.srf hi;have hs1:=hs.ul;have hs2:=hs.ll;have hs3:=hs.ml;refine aA (aB) (aA (aY rfl rfl) (aA (aY rfl rfl) ?_));simp only[zz];refine aA (aY rfl rfl) (aA (aC) (aA (aC) (aA (aC) ?_)));simp only[zz];refine aG (k3 _ _ ?_);refine aD fun K4 k4=>wp_region_lit (aA (aB) ?_);simp only[zz];refine aK rfl ((m.b 3 rfl).full vE iL) ?_;simp only[zz];refine aZ rfl rfl (Ca (q0:=q0) (q1:=q1) (q2:=q2) _ ((m.o 1 rfl).tris (fX hs.um)) (by omega)) ?_;rintro v u e ⟨us11,⟨A11,c11,n11,hn11,rfl,hN⟩,hsub11,hle11⟩;replace m:=m.newO e hN;clear e hN;subst hn11;refine aA (aC) (aG (k4 _ _ ?_));refine aD fun K5 k5=>wp_region_lit (aA (aB) ?_);simp only[zz];refine dY m rfl rfl (tR _ ((m.o 0 rfl).tris (fX fun x hx=>hs.um x (pM hsub11 x hx))) (by omega)) ?_;clear m;rintro v u m rfl;refine aA (aC) (aG (k5 _ _ ?_));refine aD fun K6 k6=>wp_region_lit (aA (aB) (aA (aB) ?_));simp only[zz];refine dY m rfl rfl (nW (fs:=us11) (gs:=us11) (ms:=[]) _ ((m.o 0 rfl).tris (fX fun x hx=>hs.um x (pM hsub11 x hx))) ((m.o 0 rfl).tris (fX fun x hx=>hs.um x (pM hsub11 x hx))) (mU.nil _ _) (by first | decide | omega) (by first | decide | omega) (by decide) (fun mv h=>by cases h)) ?_;clear m;rintro v u m rfl;refine aA (aB) (aA (aY rfl rfl) (aA (aY rfl rfl) ?_));simp only[zz];refine aA (aC) (aA (aC) (aG (k6 _ _ ?_)));refine aD fun K7 k7=>wp_region_lit (aA (aB) ?_);simp only[zz];refine dY m rfl rfl (nW (fs:=[]) (gs:=us11) (ms:=[]) _ (dZ.nil _ _) ((m.o 0 rfl).tris (fX fun x hx=>hs.um x (pM hsub11 x hx))) (mU.nil _ _) (by first | decide | omega) (by first | decide | omega) (by decide) (fun mv h=>by cases h)) ?_;clear m;rintro v u m rfl;refine aA (aB) (aA (aY rfl rfl) (aA (aY rfl rfl) ?_));simp only[zz];refine aA (aC) (aA (aC) (aG (k7 _ _ ?_)));refine aD fun K8 k8=>wp_region_lit (aA (aB) ?_);simp only[zz];refine dY m rfl rfl (nW (fs:=us11) (gs:=[]) (ms:=[]) _ ((m.o 0 rfl).tris (fX fun x hx=>hs.um x (pM hsub11 x hx))) (dZ.nil _ _) (mU.nil _ _) (by first | decide | omega) (by first | decide | omega) (by decide) (fun mv h=>by cases h)) ?_;clear m;rintro v u m rfl;refine aA (aB) (aA (aY rfl rfl) (aA (aY rfl rfl) ?_));simp only[zz];refine aA (aC) (aA (aC) (aG (k8 _ _ ?_)));refine aD fun K9 k9=>wp_region_lit (aA (aB) ?_);simp only[zz];refine aZ rfl rfl (yZ _ ((m.o 0 rfl).tris (fX fun x hx=>hs.um x (pM hsub11 x hx))) (by omega)) ?_;rintro v u e ⟨A12,c12,n12,hn12,rfl,hN⟩;replace m:=m.newO e hN;clear e hN;subst hn12;refine aA (aX rfl fL rfl) (aA (nZ rfl rfl) (aA (aC) ?_));simp only[zz];refine aG (k9 _ _ ?_);refine aD fun K10 k10=>?_;obtain h0 | ⟨h0,h1⟩ | ⟨h0,h1⟩ : cP true us11 ≠ 0 ∨ (cP true us11 = 0 ∧ (aS us11).length = 0) ∨ (cP true us11 = 0 ∧ 0 < (aS us11).length):=by omega
 ·
  rw [aaW h0,Xf h0,Pi h0];dsimp only;refine wp_region_lit (aA (aB) (aA (aB) (aR rfl (aA (aB) (aR rfl ?_)))));simp only[zz];refine aA (gG rfl rfl (by omega)) (aA (cB rfl) (aA (aB) (aR rfl (aA (aB) ?_))));simp only[zz];refine aR rfl (aA (aB) (aR rfl ?_));simp only[zz];refine aA (gG rfl rfl (by omega)) (aA (cB rfl) (aA (aB) (aR rfl (aA (aB) ?_))));simp only[zz];refine aR rfl (aA (Ea rfl rfl (by omega)) (aR rfl (aA (aB) (aR rfl (aA (aB) (aR rfl (aA (aB) ?_)))))));simp only[zz];refine aR rfl (aA (gG rfl rfl (by omega)) (aR rfl (aA (aB) (aR rfl (aA (aB) (aR rfl (aA (aB) ?_)))))));simp only[zz];refine aR rfl (aA (gG rfl rfl (by omega)) (aR rfl (aA (cB rfl) (aR rfl (aA (eG rfl) (aA (cB rfl) ?_))))));simp only[zz];refine aA (aB) (aR rfl (aA (aB) (aR rfl ?_)));simp only[zz];refine aA (Kf rfl rfl (by omega)) (aR rfl (aA (aB) (cN rfl (cN rfl ?_))));simp only[zz];refine aR rfl (aA (cB rfl) (aR rfl (aA (aB) (cN rfl (cN rfl ?_)))));simp only[zz];refine cN rfl (eT rfl (eT rfl (cN rfl ?_)));simp only[zz];refine aR rfl (aA (cB rfl) (aA (cB rfl) (aA (aC) (aG (k10 _ _ ?_)))));refine wp_ret ?_;simp only[zz];try simp only[Exit.inBlock,Exit.then,if_true]
  refine bM rfl rfl ?_;try simp only[zD,zE]
  exact ⟨_,rfl,m.ext,rfl⟩
 ·
  rw [Tk h0,h0];dsimp only;rw [show decide (((aS us11).length : Int) > 0) = false from decide_eq_false (by omega)];refine wp_region_lit (aA (aB) (aA (aB) (aR rfl (aA (aB) (aR rfl ?_)))));simp only[zz];refine aA (gG rfl rfl (by omega)) (aA (cB rfl) (aA (aB) (aR rfl (aA (aB) ?_))));simp only[zz];refine aR rfl (aA (aB) (aR rfl ?_));simp only[zz];refine aA (gG rfl rfl (by omega)) (aA (cB rfl) (aA (aB) (aR rfl (aA (aB) ?_))));simp only[zz];refine aR rfl (aA (gG rfl rfl (by omega)) (aR rfl (aA (aB) (cN rfl (cN rfl ?_)))));simp only[zz];refine cN rfl (cN rfl (eT rfl (eT rfl ?_)));simp only[zz];refine eT rfl (cN rfl (aR rfl (aA (cB rfl) (aA (cB rfl) ?_))));simp only[zz];refine aA (aB) (aR rfl (aA (aB) (aR rfl ?_)));simp only[zz];refine aA (Kg rfl rfl (by omega)) (aR rfl (aA (aB) (aR rfl (aA (aB) (aR rfl (aA (eZ rfl) ?_))))));simp only[zz];refine aR rfl (aA (eG rfl) (aR rfl (aA (aB) (cN rfl (cN rfl ?_)))));simp only[zz];refine cN rfl (eT rfl (eT rfl (cN rfl ?_)));simp only[zz];refine aR rfl (aA (cB rfl) (aA (cB rfl) (aA (aC) (aG (k10 _ _ ?_)))));refine wp_ret ?_;simp only[zz];try simp only[Exit.inBlock,Exit.then,if_true]
  refine bM rfl rfl ?_;try simp only[zD,zE]
  exact ⟨_,rfl,m.ext,rfl⟩
 ·
  have hb : aS us11 ≠ []:=fun e=>by rw [e] at h1;exact absurd h1 (by decide)
  rw [Tk h0,Xg h0 hb,Sa h0 hb,h0];dsimp only;rw [show decide (((aS us11).length : Int) > 0) = true from decide_eq_true (by omega)];refine wp_region_lit (aA (aB) (aA (aB) (aR rfl (aA (aB) (aR rfl ?_)))));simp only[zz];refine aA (gG rfl rfl (by omega)) (aA (cB rfl) (aA (aB) (aR rfl (aA (aB) ?_))));simp only[zz];refine aR rfl (aA (aB) (aR rfl ?_));simp only[zz];refine aA (gG rfl rfl (by omega)) (aA (cB rfl) (aA (aB) (aR rfl (aA (aB) ?_))));simp only[zz];refine aR rfl (aA (gG rfl rfl (by omega)) (aR rfl (aA (aB) (cN rfl (cN rfl ?_)))));simp only[zz];refine cN rfl (cN rfl (eT rfl (eT rfl ?_)));simp only[zz];refine eT rfl (cN rfl (aR rfl (aA (cB rfl) (aA (cB rfl) ?_))));simp only[zz];refine aA (aB) (aR rfl (aA (aB) (aR rfl ?_)));simp only[zz];refine aA (Kg rfl rfl (by omega)) (aR rfl (aA (aB) (aR rfl (aA (aB) (aR rfl (aA (eZ rfl) ?_))))));simp only[zz];refine aR rfl (aA (eG rfl) (aR rfl (aA (aB) (aR rfl (aA (aB) (aR rfl ?_))))));simp only[zz];refine aA (gG rfl rfl (by omega)) (aR rfl (aA (aB) (aR rfl (aA (aB) (aR rfl ?_)))));simp only[zz];refine aA (gG rfl rfl (by omega)) (aR rfl (aA (cB rfl) (aR rfl (aA (eG rfl) (aA (cB rfl) ?_)))));simp only[zz];refine aA (aC) (aG (k10 _ _ ?_));refine wp_ret ?_;simp only[zz];try simp only[Exit.inBlock,Exit.then,if_true]
  refine bM rfl rfl ?_;try simp only[zD,zE]
  exact ⟨_,rfl,m.ext,rfl⟩
end Go.Proofs.YtfohfflkhpfjeaaGreatDoor
namespace Go.Lith
open Go.RowKit Go.ChangeShapes
variable {H : Type} {enc : TypeId × Value → H} {P : Program}
theorem iN (hl : laidOutB P = true) {W W' : World} (hb : dI W W') {sp : Nat → Bool} :
 ∀ {ts : List TypeId} {vs : List Value} {ds : List (DataW H)} {ps : List MemPlace},(ts.all fun t=>P.readableRec t && decide (t < P.types.size)) = true → DataW.TrodAll enc P W 0 (fun _=>true) true ts vs ds ps → (∀ p ∈ ps,sp p.block = true) → DataW.TrodAll enc P W' 0 sp true ts vs ds ps
 | [],[],[],_,_,h,_=>h
 | [],[],_ :: _,_,_,h,_=>h.elim
 | [],_ :: _,_,_,_,h,_=>h.elim
 | _ :: _,[],_,_,_,h,_=>h.elim
 | _ :: _,_ :: _,[],_,_,h,_=>h.elim
 | t :: ts,v :: vs,d :: ds,ps,hv,h,hs=>by
  obtain ⟨p,q,⟨n,h1⟩,h2,e⟩:=h;subst e;simp only[List.all_cons,Bool.and_eq_true,decide_eq_true_eq] at hv;have hlt:=DataW.trod_lt n _ _ _ h1;exact ⟨p,q,⟨n,DataW.trod_stays (kids_book hl hv.1.1) (book_sized hv.1.1) (fun h=>by cases h) ⟨hv.1.2,book_self t⟩ h1 (fun x hx=>Below.same hb (hlt x hx)) (fun x hx=>hs x (by simp [hx]))⟩,
   iN hl hb (by simpa using hv.2) h2 (fun x hx=>hs x (by simp [hx])),rfl⟩
theorem lO {f : Func} {s : ChangeSpec} {apart fresh handsOn again : Bool} {W W' : World} {args : Array Value} {t : TypeId} {ds gs : List (DataW H)} {before : List MemPlace}
 (hl : laidOutB P = true) (hps : (f.params.toList.all fun t=>P.readableRec t && decide (t < P.types.size)) = true) (hv : s.vars = []) (hr : f.resultTypes = #[t]) (hu : P.underlying t = some .bool)
 (hW : DataW.Whole enc P f.params.toList s.vars apart W args.toList ds gs before) (hfn : (s.fn H (ds ++ gs)).results = [.lit (.bool true)] ∧ (s.fn H (ds ++ gs)).args = ds ∧ (s.fn H (ds ++ gs)).vars = []) (hb : dI W W') :
 s.post enc P f apart fresh handsOn again W args (.bool true) W':=by
 have hW0:=hW;obtain ⟨p,q,hA,hV,rfl,hz,hn⟩:=hW0;rw [hv] at hV;obtain ⟨rfl,rfl⟩:=trodVars_none hV;have hargs : ∀ sp : Nat → Bool,(∀ x ∈ p ++ [],sp x.block = true) → DataW.TrodAll enc P W' 0 sp true f.params.toList args.toList (s.fn H (ds ++ [])).args p:=fun sp hsp=>by
  rw [hfn.2.1];exact iN hl hb hps hA (fun x hx=>hsp x (by simp [hx]))
 have hvars : ∀ sp : Nat → Bool,DataW.TrodVars enc P W' sp s.vars (s.fn H (ds ++ [])).vars []:=fun sp=>by
  rw [hv,hfn.2.2];exact rfl
 have hres : ∀ (b : Nat) (sp : Nat → Bool) (hd : Bool),DataW.TrodAll enc P W' b sp hd f.resultTypes.toList ((Value.bool true).resultList f.resultTypes.size) (s.fn H (ds ++ [])).results []:=fun b sp hd=>by
  rw [hr,hfn.1];exact trodAll_cons_mk (shut_bool hu true) trodAll_mk0
 have hok : ∀ (j : Nat) (t : TypeId) (r : Value),f.resultTypes[j]? = some t → ((Value.bool true).resultList f.resultTypes.size)[j]? = some r → Value.okWide P W' .any 0 t r:=ok_one hr rfl (okWide_bool_mk hu _);have hlt : ∀ x ∈ p ++ [],x.block < W.heap.size:=hW.lt;have hold : ∀ x ∈ p ++ [],(fun b=>decide (b < W.heap.size)) x.block = true:=fun x hx=>by simpa using hlt x hx
 refine ⟨ds,[],p ++ [],[],p,[],hW,hres _ _ _,hargs _ hold,hvars _,Below.frame hb _,fun _=>?_⟩;refine ⟨hok,_,_,([] ++ p) ++ [],⟨[] ++ p,[],trodAll_append (hargs _ (fun _ _=>rfl)) (hres _ _ _),hvars _,rfl,?_,?_⟩,?_⟩
 · intro b off hp
   have h1 : MemPlace.cell b off ∈ p ++ []:=by simpa using hp
   rw [Below.frozen hb (p:=⟨b,off,none⟩) (hlt _ h1)];exact hz b off h1
 · intro ha
   simpa using hn ha
 · intro x hp _
   simpa using hp
end Go.Lith
namespace Go.Proofs.YtfohfflkhpfjeaaGreatDoor.witnessSelf
open Go.Proofs.Tryz
open Go.ChangeShapes Go.WideShapes Go.ChangeAt Go.RowKit Go.Lith
set_option maxRecDepth 100000
theorem own : ownKnob prog.godebug = none:=by kernel_rfl
theorem laidOut : laidOutB prog = true:=by kernel_rfl
theorem contract (H : Type) (enc : TypeId × Value → H) (W : World) (base : Nat) (args : Array Value) (ds gs : List (DataW H)) (before : List MemPlace)
 (hval : ∀ (j : Nat) t v,f4.params[j]? = some t → args[j]? = some v → Value.okWide prog W .any base t v)
 (hW : DataW.Whole enc prog f4.params.toList Rows.witnessSelfSpec.vars false W args.toList ds gs before) :
 Calls prog 4 args W fun e W'=>∃ v,e = .returned v ∧ Rows.witnessSelfSpec.post enc prog f4 false true false false W args v W':=by
 have hW':=hW;obtain ⟨p,q,hA,hV,rfl,hfz,hnd⟩:=hW;rw [params4] at hA hval;obtain ⟨v0,vs0,d0,ds0,p0,q0,e0,rfl,rfl,h0,r0⟩:=trodAll_cons hA;obtain ⟨v1,vs1,d1,ds1,p1,q1,e1,rfl,rfl,h1,r1⟩:=trodAll_cons r0;obtain ⟨rfl,rfl,rfl⟩:=trodAll_nil r1;subst e1;obtain rfl : args = #[v0,v1]:=by cases args;simp_all
 obtain ⟨rfl,rfl⟩:=trodVars_none hV;obtain ⟨kind,bits,HA,DA,HN,Hc,DN,Dc,zs,qs,rfl,i0,i1,hZ,hQ,hI⟩:=vV (n:=5) (tI:=3) (tH:=22) (tM:=23) (tT:=80) Ck (by kernel_rfl) (by kernel_rfl) (by kernel_rfl) (by kernel_rfl) bX (by kernel_rfl) vD (by kernel_rfl) (by kernel_rfl) (by kernel_rfl) (hval 0 25 v0 rfl rfl) h0;obtain ⟨x10,x11,x12,y10,y11,y12,rfl⟩:=acI vE (n:=5) (by kernel_rfl) (by kernel_rfl) (hval 1 26 v1 rfl rfl) h1;refine (Hx W hZ hQ hI).2.mono ?_;rintro e W' ⟨v,rfl,hE,rfl⟩;exact ⟨_,rfl,lO laidOut (by kernel_rfl) rfl rfl Cx hW' ⟨rfl,rfl,rfl⟩ hE⟩
def accepts : List Value:=[128,191,160,191,128,159,144,191,128,143,0,0,0,0,0,0,0,0,0,0,0,0,0,0,0,0,0,0,0,0,0,0].map fun n=>.int .u8 n
def firsts : List Value:=Go.Pinned.utf8FirstZ.map fun (n : Nat)=>Value.int .u8 (n : Int)
def relaid (cs : List Value) : Obj → Obj
 | .cells _ t frozen=>.cells cs.toArray t frozen
 | o=>o
noncomputable def laidWorld (os : Os) : World :=
 { World.holding prog os ⟨#[],#[],[]⟩ with heap:=((World.holding prog os ⟨#[],#[],[]⟩).heap.modify 0 (relaid firsts)).modify 1 (relaid accepts) }
def inp : Array Value:=#[.agg #[.int .i64 0,.int .i64 0,.slice none 0 0,.slice none 0 0],.agg #[.int .i64 0,.int .i64 0,.int .i64 0]]
theorem laid_met (os : Os) : laidMet prog Rows.witnessSelfRow.laid ((laidWorld os).forCall (fun _ _=>0) ⟨#[],inp,[]⟩).memory :=
 laidMet_of_run' 8 (by kernel_rfl) (by kernel_rfl)
theorem reads (os : Os) {H : Type} (enc : TypeId × Value → H) : ∃ places,DataW.whole enc prog ((laidWorld os).forCall (fun _ _=>0) ⟨#[],inp,[]⟩).memory f4.params.toList Rows.witnessSelfSpec.vars false inp.toList 8 = some ([.agg [.lit (.int .i64 0),.lit (.int .i64 0),.nil,.nil],.agg [.lit (.int .i64 0),.lit (.int .i64 0),.lit (.int .i64 0)]],[],places) :=
 ⟨[],by kernel_rfl⟩
theorem lifted (os : Os) (started : os.Started) (H : Type) (enc : TypeId × Value → H) (F : Stop.Interp) :
 ReturnsInHanded {} checked os 4 .any ((OpenSpec.ofChange Rows.witnessSelfSpec).preRow enc prog f4 Rows.witnessSelfRow.domain false Rows.witnessSelfRow.laid) (((OpenSpec.ofChange Rows.witnessSelfSpec).at F).post enc prog f4 false true false false):=by
 obtain ⟨places,hx⟩:=reads os enc;refine returnsInHanded_of_row (C:=checked) (s:=OpenSpec.ofChange Rows.witnessSelfSpec) own started (by kernel_rfl) func4
  (witness_row_at (enc:=enc) (C:=checked) false (laidWorld os) inp rfl (by kernel_rfl) (by kernel_rfl) (by kernel_rfl)
   (OpenSpec.preRow_of_cond 8 hx (by kernel_rfl) (fun k hk=>by cases hk) (by kernel_rfl) (laid_met os))) ?_
 intro W base args ds gs before hval hW _ _ _ hL _ _;exact contract H enc W base args ds gs before hval hW
theorem said : Rows.WitnessSelfSaid :=
 OpenClaim.holds_of_cond 4 f4 rfl rfl rfl rfl rfl rfl rfl ⟨rfl,rfl,rfl,rfl,rfl⟩ rfl rfl rfl rfl rfl (by kernel_rfl) func4 (by kernel_rfl)
  (of_decide_eq_true (by kernel_rfl)) (by unfold Func.isWrapper;first | (rw [if_pos (by decide +kernel)];kernel_rfl) | (rw [if_neg (by decide +kernel)];exact ⟨rfl,rfl⟩))
  (fun os started H enc _ F=>by rw [OpenClaim.pre_eq_preRow];exact lifted os started H enc F)
theorem plain (f : FuncId) (fn : Func) (hf : Tryz.pinned.checked.prog.funcNamed Rows.witnessSelfRow.func = some f) (hfn : Tryz.pinned.checked.prog.funcs[f]? = some fn) :
 false = Tryz.pinned.checked.prog.looks [] ∧ ∀ (j : Nat) t,fn.params[j]? = some t → Tryz.pinned.checked.prog.wantsStandIn t = false:=by
 obtain rfl : f = 4:=Option.some.inj ((show prog.funcNamed Rows.witnessSelfRow.func = some 4 by kernel_rfl).symm.trans hf) |>.symm
 obtain rfl : fn = f4:=(Option.some.inj (func4.symm.trans hfn)).symm;refine ⟨by kernel_rfl,fun j t ht=>?_⟩;rw [params4] at ht;have hm : t ∈ [25,26]:=by simpa using Array.mem_of_getElem? ht
 have hall : ([25,26].all fun u=>!prog.wantsStandIn u) = true:=by kernel_rfl
 exact (show prog.wantsStandIn t = false by simpa using List.all_eq_true.1 hall t hm)
theorem card : Rows.WitnessSelfCardSaid :=
 Claim7.holds_tied_plain_at .later [] _ _ _ _ said (fun _ h=>by cases h) (by kernel_rfl) (fun _ h=>by cases h) witnessSelf_row_tie rfl ⟨rfl,rfl⟩ (by kernel_rfl) rfl plain (by kernel_rfl)
end Go.Proofs.YtfohfflkhpfjeaaGreatDoor.witnessSelf
