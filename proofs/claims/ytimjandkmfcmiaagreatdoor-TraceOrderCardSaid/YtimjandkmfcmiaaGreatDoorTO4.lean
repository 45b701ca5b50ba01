/-
 Texts of one claim, laid together: Exact2, Geo6, Ray, Grow, Pts, Map0, Map, Map2, Sort, Sets, Guard, Open, Surf, Box, Ray2, Ray3, Ray4, Ray5, Ray6, Ray7.
-/
import Derived.Sort.Grow
import Derived.Deep.Draws
import Derived.Maps.RangeRun
import Derived.Shelf.SlSortCmp.WholeK
import Derived.Shelf.SlSortCmp.NoneTotal
import Derived.OpenShut
import Derived.Lib.SmallJoins
import Derived.Deep.Slices
import Derived.Test.YtimjandkmfcmiaaGreatDoorTO3
set_option maxHeartbeats 8000000
set_option linter.unusedSimpArgs false
set_option linter.unusedVariables false
set_option linter.unusedSectionVars false
namespace Go.Proofs.YtimjandkmfcmiaaGreatDoor
open Go.RowKit Go.Lith
set_option maxRecDepth 100000
attribute [local irreducible] wpList wpQuiet dV dK dI Code.wp
theorem H5 {a b c d : P3} [I3 a] [I3 b] [I3 c] [I3 d] {g0 : Nat} (w : World) (hB0 : eU w g0 [.int .i64 a.x,.int .i64 a.y,.int .i64 a.z,.int .i64 b.x,.int .i64 b.y,.int .i64 b.z,.int .i64 c.x,.int .i64 c.y,.int .i64 c.z,.int .i64 d.x,.int .i64 d.y,.int .i64 d.z] 56) : gD Tryz.prog 133 [.slice (some ⟨g0,0,none⟩) 4 4] w (fun v _=>∃ bo : Bool,v = .bool bo ∧ (bo = true → S3 a ∧ S3 b ∧ S3 c ∧ S3 d)):=by
 refine ⟨Rf,?_⟩;have m:=bU.refl w
 go_enter Tryz.func133,Tryz.ntmps133
 refine aF fun K1 k1=>wp_region_lit (aA (aD) (aC (k1 _ _ ?_)));refine aF fun K2 k2=>aF fun K3 k3=>wp_region_lit (aA (aB) (aA (bM rfl Tryz.underlying26 rfl) (aA (aB) ?_)));simp only[ev,zD,zE,zF,zG];refine aC (k3 _ _ ?_);refine wp_block (wp_loop_rounds 5 (dA (aF fun K4 k4=>wp_region_lit (aA (bR (m:=0) (n:=4) rfl rfl (by decide)) (aC (k4 _ _ ?_))))));refine aF fun K5 k5=>bS rfl (wp_skip (k5 _ _ ?_));refine aF fun K6 k6=>wp_block (aF fun K7 k7=>wp_region_lit (aA (aT Tryz.underlying26 aN rfl rfl (by decide) (by decide) rfl) ?_));simp only[ev,zD,zE,zF,zG];refine aI rfl ((hB0.ext m.ext).lies bC aN rfl rfl) ?_;simp only[ev,zD,zE,zF,zG,zH,zI,zJ,zK,Nat.zero_add,Nat.reduceAdd,Nat.reduceMul,Int.reduceToNat];refine bN m e9 rfl ?_;clear m; intro g1 u m;simp only[ev,zD,zE,zF,zG];refine aV m 0 rfl rfl rfl aN (b9 rfl) rfl ?_;clear m; intro u m; simp only[a8,zH,zI,zJ,zK,zL,zM,zN,zO,zP,zF,zG,Nat.reduceAdd] at m;refine aC (k7 _ _ ?_);refine aF fun K8 k8=>wp_region_lit (aA (aG (c:=0) Tryz.underlying56 rfl aO rfl rfl) ?_);simp only[ev,zD,zE,zF,zG];refine aI rfl ((m.b 0 rfl).lies1 aZ rfl) ?_;simp only[ev,zD,zE,zF,zG];refine aA (aG (c:=0) Tryz.underlying56 rfl aO rfl rfl) ?_;simp only[ev,zD,zE,zF,zG];refine aI rfl ((m.b 0 rfl).lies1 aZ rfl) ?_;simp only[ev,zD,zE,zF,zG];refine aA (aG (c:=0) Tryz.underlying56 rfl aO rfl rfl) ?_;simp only[ev,zD,zE,zF,zG];refine aI rfl ((m.b 0 rfl).lies1 aZ rfl) ?_;simp only[ev,zD,zE,zF,zG];refine aA (dO rfl rfl rfl) (aA (aB) (aC (k8 _ _ ?_)));refine wp_block (wp_loop_rounds 4 (dA (aF fun K9 k9=>wp_region_lit (aA (bR (m:=0) (n:=3) rfl rfl (by decide)) (aC (k9 _ _ ?_))))));refine aF fun K10 k10=>bS rfl (wp_skip (k10 _ _ ?_));refine aF fun K11 k11=>wp_block (aF fun K12 k12=>wp_region_lit (aA (lK rfl rfl) ?_));simp only[ev,zD,zE,zF,zG];refine aA (aD) (aC (k12 _ _ ?_));refine aF fun K13 k13=>wp_region_lit (aA (aB) (aA (aB) (aA (mN rfl rfl) ?_)));simp only[ev,zD,zE,zF,zG];refine aA (jU rfl rfl rfl) (aA (dH Tryz.underlying101 Tryz.underlying3 rfl (oP Iw.h)) ?_);simp only[ev,zD,zE,zF,zG];refine fA m rfl rfl (jM (X:=(a.x).natAbs) _ (by have:=(Iw.h : kW a.x).natAbs; omega)) ?_;clear m; rintro v u m ⟨n,rfl,hn0,hn1,hax⟩;refine aA (gJ rfl rfl) (aC (k13 _ _ ?_));simp only[ev,zD,zE,zF,zG];refine cK rfl (fun hc3=>?_) (fun hc3=>?_)
 ·
  refine aF fun K14 k14=>wp_region_lit (aA (aD) (aC (k14 _ _ ?_)));refine wp_ret ?_;simp only[ev,zD,zE,zF,zG];try simp only[Exit.inBlock,Exit.then,if_true]
  refine bT rfl rfl ?_;try simp only[zD,zE]
  exact ⟨_,rfl,m.ext,false,rfl,fun h=>by cases h⟩
 ·
  replace hax:=hax (by omega);clear hc3 hn0 hn1;refine wp_skip (k11 _ _ ?_);refine wp_region_lit (aA (aX (m:=0) (n:=1) (r:=1) rfl rfl (by decide)) (aA (aB) (aC (a7 (aF fun K15 k15=>wp_region_lit (aA (bR (m:=1) (n:=3) rfl rfl (by decide)) (aC (k15 _ _ ?_))))))));refine aF fun K16 k16=>bS rfl (wp_skip (k16 _ _ ?_));refine aF fun K17 k17=>wp_block (aF fun K18 k18=>wp_region_lit (aA (lL rfl rfl) ?_));simp only[ev,zD,zE,zF,zG];refine aA (aD) (aC (k18 _ _ ?_));refine aF fun K19 k19=>wp_region_lit (aA (aB) (aA (aB) (aA (mN rfl rfl) ?_)));simp only[ev,zD,zE,zF,zG];refine aA (jU rfl rfl rfl) (aA (dH Tryz.underlying101 Tryz.underlying3 rfl (oP Iw.h)) ?_);simp only[ev,zD,zE,zF,zG];refine fA m rfl rfl (jM (X:=(a.y).natAbs) _ (by have:=(Iw.h : kW a.y).natAbs; omega)) ?_;clear m; rintro v u m ⟨n,rfl,hn0,hn1,hay⟩;refine aA (gJ rfl rfl) (aC (k19 _ _ ?_));simp only[ev,zD,zE,zF,zG];refine cK rfl (fun hc3=>?_) (fun hc3=>?_)
  ·
   refine aF fun K20 k20=>wp_region_lit (aA (aD) (aC (k20 _ _ ?_)));refine wp_ret ?_;simp only[ev,zD,zE,zF,zG];try simp only[Exit.inBlock,Exit.then,if_true]
   refine bT rfl rfl ?_;try simp only[zD,zE]
   exact ⟨_,rfl,m.ext,false,rfl,fun h=>by cases h⟩
  ·
   replace hay:=hay (by omega);clear hc3 hn0 hn1;refine wp_skip (k17 _ _ ?_);refine wp_region_lit (aA (aX (m:=1) (n:=1) (r:=2) rfl rfl (by decide)) (aA (aB) (aC (a7 (aF fun K21 k21=>wp_region_lit (aA (bR (m:=2) (n:=3) rfl rfl (by decide)) (aC (k21 _ _ ?_))))))));refine aF fun K22 k22=>bS rfl (wp_skip (k22 _ _ ?_));refine aF fun K23 k23=>wp_block (aF fun K24 k24=>wp_region_lit (aA (lM rfl rfl) ?_));simp only[ev,zD,zE,zF,zG];refine aA (aD) (aC (k24 _ _ ?_));refine aF fun K25 k25=>wp_region_lit (aA (aB) (aA (aB) (aA (mN rfl rfl) ?_)));simp only[ev,zD,zE,zF,zG];refine aA (jU rfl rfl rfl) (aA (dH Tryz.underlying101 Tryz.underlying3 rfl (oP Iw.h)) ?_);simp only[ev,zD,zE,zF,zG];refine fA m rfl rfl (jM (X:=(a.z).natAbs) _ (by have:=(Iw.h : kW a.z).natAbs; omega)) ?_;clear m; rintro v u m ⟨n,rfl,hn0,hn1,haz⟩;refine aA (gJ rfl rfl) (aC (k25 _ _ ?_));simp only[ev,zD,zE,zF,zG];refine cK rfl (fun hc3=>?_) (fun hc3=>?_)
   ·
    refine aF fun K26 k26=>wp_region_lit (aA (aD) (aC (k26 _ _ ?_)));refine wp_ret ?_;simp only[ev,zD,zE,zF,zG];try simp only[Exit.inBlock,Exit.then,if_true]
    refine bT rfl rfl ?_;try simp only[zD,zE]
    exact ⟨_,rfl,m.ext,false,rfl,fun h=>by cases h⟩
   ·
    replace haz:=haz (by omega);clear hc3 hn0 hn1;refine wp_skip (k23 _ _ ?_);refine wp_region_lit (aA (aX (m:=2) (n:=1) (r:=3) rfl rfl (by decide)) (aA (aB) (aC (a7 (aF fun K27 k27=>wp_region_lit (aA (eW (m:=3) (n:=3) rfl rfl (by decide)) (aC (k27 _ _ ?_))))))));refine aF fun K28 k28=>eM rfl (wp_exit (k6 _ _ ?_));refine wp_region_lit (aA (aX (m:=0) (n:=1) (r:=1) rfl rfl (by decide)) ?_);simp only[ev,zD,zE,zF,zG];refine aA (aB) (aC (a7 (aF fun K29 k29=>wp_region_lit (aA (bR (m:=1) (n:=4) rfl rfl (by decide)) (aC (k29 _ _ ?_))))));refine aF fun K30 k30=>bS rfl (wp_skip (k30 _ _ ?_));refine aF fun K31 k31=>wp_block (aF fun K32 k32=>wp_region_lit (aA (aT Tryz.underlying26 aN rfl rfl (by decide) (by decide) rfl) ?_));simp only[ev,zD,zE,zF,zG];refine aI rfl ((hB0.ext m.ext).lies bC aN rfl rfl) ?_;simp only[ev,zD,zE,zF,zG,zH,zI,zJ,zK,Nat.zero_add,Nat.reduceAdd,Nat.reduceMul,Int.reduceToNat];refine bN m e9 rfl ?_;clear m; intro g2 u m;simp only[ev,zD,zE,zF,zG];refine aV m 0 rfl rfl rfl aN (b9 rfl) rfl ?_;clear m; intro u m; simp only[a8,zH,zI,zJ,zK,zL,zM,zN,zO,zP,zF,zG,Nat.reduceAdd] at m;refine aC (k32 _ _ ?_);refine aF fun K33 k33=>wp_region_lit (aA (aG (c:=0) Tryz.underlying56 rfl aO rfl rfl) ?_);simp only[ev,zD,zE,zF,zG];refine aI rfl ((m.b 0 rfl).lies1 aZ rfl) ?_;simp only[ev,zD,zE,zF,zG];refine aA (aG (c:=0) Tryz.underlying56 rfl aO rfl rfl) ?_;simp only[ev,zD,zE,zF,zG];refine aI rfl ((m.b 0 rfl).lies1 aZ rfl) ?_;simp only[ev,zD,zE,zF,zG];refine aA (aG (c:=0) Tryz.underlying56 rfl aO rfl rfl) ?_;simp only[ev,zD,zE,zF,zG];refine aI rfl ((m.b 0 rfl).lies1 aZ rfl) ?_;simp only[ev,zD,zE,zF,zG];refine aA (dO rfl rfl rfl) (aA (aB) (aC (k33 _ _ ?_)));refine wp_block (wp_loop_rounds 4 (dA (aF fun K34 k34=>wp_region_lit (aA (bR (m:=0) (n:=3) rfl rfl (by decide)) (aC (k34 _ _ ?_))))));refine aF fun K35 k35=>bS rfl (wp_skip (k35 _ _ ?_));refine aF fun K36 k36=>wp_block (aF fun K37 k37=>wp_region_lit (aA (lK rfl rfl) ?_));simp only[ev,zD,zE,zF,zG];refine aA (aD) (aC (k37 _ _ ?_));refine aF fun K38 k38=>wp_region_lit (aA (aB) (aA (aB) (aA (mN rfl rfl) ?_)));simp only[ev,zD,zE,zF,zG];refine aA (jU rfl rfl rfl) (aA (dH Tryz.underlying101 Tryz.underlying3 rfl (oP Iw.h)) ?_);simp only[ev,zD,zE,zF,zG];refine fA m rfl rfl (jM (X:=(b.x).natAbs) _ (by have:=(Iw.h : kW b.x).natAbs; omega)) ?_;clear m; rintro v u m ⟨n,rfl,hn0,hn1,hbx⟩;refine aA (gJ rfl rfl) (aC (k38 _ _ ?_));simp only[ev,zD,zE,zF,zG];refine cK rfl (fun hc3=>?_) (fun hc3=>?_)
    ·
     refine aF fun K39 k39=>wp_region_lit (aA (aD) (aC (k39 _ _ ?_)));refine wp_ret ?_;simp only[ev,zD,zE,zF,zG];try simp only[Exit.inBlock,Exit.then,if_true]
     refine bT rfl rfl ?_;try simp only[zD,zE]
     exact ⟨_,rfl,m.ext,false,rfl,fun h=>by cases h⟩
    ·
     replace hbx:=hbx (by omega);clear hc3 hn0 hn1;refine wp_skip (k36 _ _ ?_);refine wp_region_lit (aA (aX (m:=0) (n:=1) (r:=1) rfl rfl (by decide)) (aA (aB) (aC (a7 (aF fun K40 k40=>wp_region_lit (aA (bR (m:=1) (n:=3) rfl rfl (by decide)) (aC (k40 _ _ ?_))))))));refine aF fun K41 k41=>bS rfl (wp_skip (k41 _ _ ?_));refine aF fun K42 k42=>wp_block (aF fun K43 k43=>wp_region_lit (aA (lL rfl rfl) ?_));simp only[ev,zD,zE,zF,zG];refine aA (aD) (aC (k43 _ _ ?_));refine aF fun K44 k44=>wp_region_lit (aA (aB) (aA (aB) (aA (mN rfl rfl) ?_)));simp only[ev,zD,zE,zF,zG];refine aA (jU rfl rfl rfl) (aA (dH Tryz.underlying101 Tryz.underlying3 rfl (oP Iw.h)) ?_);simp only[ev,zD,zE,zF,zG];refine fA m rfl rfl (jM (X:=(b.y).natAbs) _ (by have:=(Iw.h : kW b.y).natAbs; omega)) ?_;clear m; rintro v u m ⟨n,rfl,hn0,hn1,hby⟩;refine aA (gJ rfl rfl) (aC (k44 _ _ ?_));simp only[ev,zD,zE,zF,zG];refine cK rfl (fun hc3=>?_) (fun hc3=>?_)
     ·
      refine aF fun K45 k45=>wp_region_lit (aA (aD) (aC (k45 _ _ ?_)));refine wp_ret ?_;simp only[ev,zD,zE,zF,zG];try simp only[Exit.inBlock,Exit.then,if_true]
      refine bT rfl rfl ?_;try simp only[zD,zE]
      exact ⟨_,rfl,m.ext,false,rfl,fun h=>by cases h⟩
     ·
      replace hby:=hby (by omega);clear hc3 hn0 hn1;refine wp_skip (k42 _ _ ?_);refine wp_region_lit (aA (aX (m:=1) (n:=1) (r:=2) rfl rfl (by decide)) (aA (aB) (aC (a7 (aF fun K46 k46=>wp_region_lit (aA (bR (m:=2) (n:=3) rfl rfl (by decide)) (aC (k46 _ _ ?_))))))));refine aF fun K47 k47=>bS rfl (wp_skip (k47 _ _ ?_));refine aF fun K48 k48=>wp_block (aF fun K49 k49=>wp_region_lit (aA (lM rfl rfl) ?_));simp only[ev,zD,zE,zF,zG];refine aA (aD) (aC (k49 _ _ ?_));refine aF fun K50 k50=>wp_region_lit (aA (aB) (aA (aB) (aA (mN rfl rfl) ?_)));simp only[ev,zD,zE,zF,zG];refine aA (jU rfl rfl rfl) (aA (dH Tryz.underlying101 Tryz.underlying3 rfl (oP Iw.h)) ?_);simp only[ev,zD,zE,zF,zG];refine fA m rfl rfl (jM (X:=(b.z).natAbs) _ (by have:=(Iw.h : kW b.z).natAbs; omega)) ?_;clear m; rintro v u m ⟨n,rfl,hn0,hn1,hbz⟩;refine aA (gJ rfl rfl) (aC (k50 _ _ ?_));simp only[ev,zD,zE,zF,zG];refine cK rfl (fun hc3=>?_) (fun hc3=>?_)
      ·
       refine aF fun K51 k51=>wp_region_lit (aA (aD) (aC (k51 _ _ ?_)));refine wp_ret ?_;simp only[ev,zD,zE,zF,zG];try simp only[Exit.inBlock,Exit.then,if_true]
       refine bT rfl rfl ?_;try simp only[zD,zE]
       exact ⟨_,rfl,m.ext,false,rfl,fun h=>by cases h⟩
      ·
       replace hbz:=hbz (by omega);clear hc3 hn0 hn1;refine wp_skip (k48 _ _ ?_);refine wp_region_lit (aA (aX (m:=2) (n:=1) (r:=3) rfl rfl (by decide)) (aA (aB) (aC (a7 (aF fun K52 k52=>wp_region_lit (aA (eW (m:=3) (n:=3) rfl rfl (by decide)) (aC (k52 _ _ ?_))))))));refine aF fun K53 k53=>eM rfl (wp_exit (k31 _ _ ?_));refine wp_region_lit (aA (aX (m:=1) (n:=1) (r:=2) rfl rfl (by decide)) ?_);simp only[ev,zD,zE,zF,zG];refine aA (aB) (aC (a7 (aF fun K54 k54=>wp_region_lit (aA (bR (m:=2) (n:=4) rfl rfl (by decide)) (aC (k54 _ _ ?_))))));refine aF fun K55 k55=>bS rfl (wp_skip (k55 _ _ ?_));refine aF fun K56 k56=>wp_block (aF fun K57 k57=>wp_region_lit (aA (aT Tryz.underlying26 aN rfl rfl (by decide) (by decide) rfl) ?_));simp only[ev,zD,zE,zF,zG];refine aI rfl ((hB0.ext m.ext).lies bC aN rfl rfl) ?_;simp only[ev,zD,zE,zF,zG,zH,zI,zJ,zK,Nat.zero_add,Nat.reduceAdd,Nat.reduceMul,Int.reduceToNat];refine bN m e9 rfl ?_;clear m; intro g3 u m;simp only[ev,zD,zE,zF,zG];refine aV m 0 rfl rfl rfl aN (b9 rfl) rfl ?_;clear m; intro u m; simp only[a8,zH,zI,zJ,zK,zL,zM,zN,zO,zP,zF,zG,Nat.reduceAdd] at m;refine aC (k57 _ _ ?_);refine aF fun K58 k58=>wp_region_lit (aA (aG (c:=0) Tryz.underlying56 rfl aO rfl rfl) ?_);simp only[ev,zD,zE,zF,zG];refine aI rfl ((m.b 0 rfl).lies1 aZ rfl) ?_;simp only[ev,zD,zE,zF,zG];refine aA (aG (c:=0) Tryz.underlying56 rfl aO rfl rfl) ?_;simp only[ev,zD,zE,zF,zG];refine aI rfl ((m.b 0 rfl).lies1 aZ rfl) ?_;simp only[ev,zD,zE,zF,zG];refine aA (aG (c:=0) Tryz.underlying56 rfl aO rfl rfl) ?_;simp only[ev,zD,zE,zF,zG];refine aI rfl ((m.b 0 rfl).lies1 aZ rfl) ?_;simp only[ev,zD,zE,zF,zG];refine aA (dO rfl rfl rfl) (aA (aB) (aC (k58 _ _ ?_)));refine wp_block (wp_loop_rounds 4 (dA (aF fun K59 k59=>wp_region_lit (aA (bR (m:=0) (n:=3) rfl rfl (by decide)) (aC (k59 _ _ ?_))))));refine aF fun K60 k60=>bS rfl (wp_skip (k60 _ _ ?_));refine aF fun K61 k61=>wp_block (aF fun K62 k62=>wp_region_lit (aA (lK rfl rfl) ?_));simp only[ev,zD,zE,zF,zG];refine aA (aD) (aC (k62 _ _ ?_));refine aF fun K63 k63=>wp_region_lit (aA (aB) (aA (aB) (aA (mN rfl rfl) ?_)));simp only[ev,zD,zE,zF,zG];refine aA (jU rfl rfl rfl) (aA (dH Tryz.underlying101 Tryz.underlying3 rfl (oP Iw.h)) ?_);simp only[ev,zD,zE,zF,zG];refine fA m rfl rfl (jM (X:=(c.x).natAbs) _ (by have:=(Iw.h : kW c.x).natAbs; omega)) ?_;clear m; rintro v u m ⟨n,rfl,hn0,hn1,hcx⟩;refine aA (gJ rfl rfl) (aC (k63 _ _ ?_));simp only[ev,zD,zE,zF,zG];refine cK rfl (fun hc3=>?_) (fun hc3=>?_)
       ·
        refine aF fun K64 k64=>wp_region_lit (aA (aD) (aC (k64 _ _ ?_)));refine wp_ret ?_;simp only[ev,zD,zE,zF,zG];try simp only[Exit.inBlock,Exit.then,if_true]
        refine bT rfl rfl ?_;try simp only[zD,zE]
        exact ⟨_,rfl,m.ext,false,rfl,fun h=>by cases h⟩
       ·
        replace hcx:=hcx (by omega);clear hc3 hn0 hn1;refine wp_skip (k61 _ _ ?_);refine wp_region_lit (aA (aX (m:=0) (n:=1) (r:=1) rfl rfl (by decide)) (aA (aB) (aC (a7 (aF fun K65 k65=>wp_region_lit (aA (bR (m:=1) (n:=3) rfl rfl (by decide)) (aC (k65 _ _ ?_))))))));refine aF fun K66 k66=>bS rfl (wp_skip (k66 _ _ ?_));refine aF fun K67 k67=>wp_block (aF fun K68 k68=>wp_region_lit (aA (lL rfl rfl) ?_));simp only[ev,zD,zE,zF,zG];refine aA (aD) (aC (k68 _ _ ?_));refine aF fun K69 k69=>wp_region_lit (aA (aB) (aA (aB) (aA (mN rfl rfl) ?_)));simp only[ev,zD,zE,zF,zG];refine aA (jU rfl rfl rfl) (aA (dH Tryz.underlying101 Tryz.underlying3 rfl (oP Iw.h)) ?_);simp only[ev,zD,zE,zF,zG];refine fA m rfl rfl (jM (X:=(c.y).natAbs) _ (by have:=(Iw.h : kW c.y).natAbs; omega)) ?_;clear m; rintro v u m ⟨n,rfl,hn0,hn1,hcy⟩;refine aA (gJ rfl rfl) (aC (k69 _ _ ?_));simp only[ev,zD,zE,zF,zG];refine cK rfl (fun hc3=>?_) (fun hc3=>?_)
        ·
         refine aF fun K70 k70=>wp_region_lit (aA (aD) (aC (k70 _ _ ?_)));refine wp_ret ?_;simp only[ev,zD,zE,zF,zG];try simp only[Exit.inBlock,Exit.then,if_true]
         refine bT rfl rfl ?_;try simp only[zD,zE]
         exact ⟨_,rfl,m.ext,false,rfl,fun h=>by cases h⟩
        ·
         replace hcy:=hcy (by omega);clear hc3 hn0 hn1;refine wp_skip (k67 _ _ ?_);refine wp_region_lit (aA (aX (m:=1) (n:=1) (r:=2) rfl rfl (by decide)) (aA (aB) (aC (a7 (aF fun K71 k71=>wp_region_lit (aA (bR (m:=2) (n:=3) rfl rfl (by decide)) (aC (k71 _ _ ?_))))))));refine aF fun K72 k72=>bS rfl (wp_skip (k72 _ _ ?_));refine aF fun K73 k73=>wp_block (aF fun K74 k74=>wp_region_lit (aA (lM rfl rfl) ?_));simp only[ev,zD,zE,zF,zG];refine aA (aD) (aC (k74 _ _ ?_));refine aF fun K75 k75=>wp_region_lit (aA (aB) (aA (aB) (aA (mN rfl rfl) ?_)));simp only[ev,zD,zE,zF,zG];refine aA (jU rfl rfl rfl) (aA (dH Tryz.underlying101 Tryz.underlying3 rfl (oP Iw.h)) ?_);simp only[ev,zD,zE,zF,zG];refine fA m rfl rfl (jM (X:=(c.z).natAbs) _ (by have:=(Iw.h : kW c.z).natAbs; omega)) ?_;clear m; rintro v u m ⟨n,rfl,hn0,hn1,hcz⟩;refine aA (gJ rfl rfl) (aC (k75 _ _ ?_));simp only[ev,zD,zE,zF,zG];refine cK rfl (fun hc3=>?_) (fun hc3=>?_)
         ·
          refine aF fun K76 k76=>wp_region_lit (aA (aD) (aC (k76 _ _ ?_)));refine wp_ret ?_;simp only[ev,zD,zE,zF,zG];try simp only[Exit.inBlock,Exit.then,if_true]
          refine bT rfl rfl ?_;try simp only[zD,zE]
          exact ⟨_,rfl,m.ext,false,rfl,fun h=>by cases h⟩
         ·
          replace hcz:=hcz (by omega);clear hc3 hn0 hn1;refine wp_skip (k73 _ _ ?_);refine wp_region_lit (aA (aX (m:=2) (n:=1) (r:=3) rfl rfl (by decide)) (aA (aB) (aC (a7 (aF fun K77 k77=>wp_region_lit (aA (eW (m:=3) (n:=3) rfl rfl (by decide)) (aC (k77 _ _ ?_))))))));refine aF fun K78 k78=>eM rfl (wp_exit (k56 _ _ ?_));refine wp_region_lit (aA (aX (m:=2) (n:=1) (r:=3) rfl rfl (by decide)) ?_);simp only[ev,zD,zE,zF,zG];refine aA (aB) (aC (a7 (aF fun K79 k79=>wp_region_lit (aA (bR (m:=3) (n:=4) rfl rfl (by decide)) (aC (k79 _ _ ?_))))));refine aF fun K80 k80=>bS rfl (wp_skip (k80 _ _ ?_));refine aF fun K81 k81=>wp_block (aF fun K82 k82=>wp_region_lit (aA (aT Tryz.underlying26 aN rfl rfl (by decide) (by decide) rfl) ?_));simp only[ev,zD,zE,zF,zG];refine aI rfl ((hB0.ext m.ext).lies bC aN rfl rfl) ?_;simp only[ev,zD,zE,zF,zG,zH,zI,zJ,zK,Nat.zero_add,Nat.reduceAdd,Nat.reduceMul,Int.reduceToNat];refine bN m e9 rfl ?_;clear m; intro g4 u m;simp only[ev,zD,zE,zF,zG];refine aV m 0 rfl rfl rfl aN (b9 rfl) rfl ?_;clear m; intro u m; simp only[a8,zH,zI,zJ,zK,zL,zM,zN,zO,zP,zF,zG,Nat.reduceAdd] at m;refine aC (k82 _ _ ?_);refine aF fun K83 k83=>wp_region_lit (aA (aG (c:=0) Tryz.underlying56 rfl aO rfl rfl) ?_);simp only[ev,zD,zE,zF,zG];refine aI rfl ((m.b 0 rfl).lies1 aZ rfl) ?_;simp only[ev,zD,zE,zF,zG];refine aA (aG (c:=0) Tryz.underlying56 rfl aO rfl rfl) ?_;simp only[ev,zD,zE,zF,zG];refine aI rfl ((m.b 0 rfl).lies1 aZ rfl) ?_;simp only[ev,zD,zE,zF,zG];refine aA (aG (c:=0) Tryz.underlying56 rfl aO rfl rfl) ?_;simp only[ev,zD,zE,zF,zG];refine aI rfl ((m.b 0 rfl).lies1 aZ rfl) ?_;simp only[ev,zD,zE,zF,zG];refine aA (dO rfl rfl rfl) (aA (aB) (aC (k83 _ _ ?_)));refine wp_block (wp_loop_rounds 4 (dA (aF fun K84 k84=>wp_region_lit (aA (bR (m:=0) (n:=3) rfl rfl (by decide)) (aC (k84 _ _ ?_))))));refine aF fun K85 k85=>bS rfl (wp_skip (k85 _ _ ?_));refine aF fun K86 k86=>wp_block (aF fun K87 k87=>wp_region_lit (aA (lK rfl rfl) ?_));simp only[ev,zD,zE,zF,zG];refine aA (aD) (aC (k87 _ _ ?_));refine aF fun K88 k88=>wp_region_lit (aA (aB) (aA (aB) (aA (mN rfl rfl) ?_)));simp only[ev,zD,zE,zF,zG];refine aA (jU rfl rfl rfl) (aA (dH Tryz.underlying101 Tryz.underlying3 rfl (oP Iw.h)) ?_);simp only[ev,zD,zE,zF,zG];refine fA m rfl rfl (jM (X:=(d.x).natAbs) _ (by have:=(Iw.h : kW d.x).natAbs; omega)) ?_;clear m; rintro v u m ⟨n,rfl,hn0,hn1,hdx⟩;refine aA (gJ rfl rfl) (aC (k88 _ _ ?_));simp only[ev,zD,zE,zF,zG];refine cK rfl (fun hc3=>?_) (fun hc3=>?_)
          ·
           refine aF fun K89 k89=>wp_region_lit (aA (aD) (aC (k89 _ _ ?_)));refine wp_ret ?_;simp only[ev,zD,zE,zF,zG];try simp only[Exit.inBlock,Exit.then,if_true]
           refine bT rfl rfl ?_;try simp only[zD,zE]
           exact ⟨_,rfl,m.ext,false,rfl,fun h=>by cases h⟩
          ·
           replace hdx:=hdx (by omega);clear hc3 hn0 hn1;refine wp_skip (k86 _ _ ?_);refine wp_region_lit (aA (aX (m:=0) (n:=1) (r:=1) rfl rfl (by decide)) (aA (aB) (aC (a7 (aF fun K90 k90=>wp_region_lit (aA (bR (m:=1) (n:=3) rfl rfl (by decide)) (aC (k90 _ _ ?_))))))));refine aF fun K91 k91=>bS rfl (wp_skip (k91 _ _ ?_));refine aF fun K92 k92=>wp_block (aF fun K93 k93=>wp_region_lit (aA (lL rfl rfl) ?_));simp only[ev,zD,zE,zF,zG];refine aA (aD) (aC (k93 _ _ ?_));refine aF fun K94 k94=>wp_region_lit (aA (aB) (aA (aB) (aA (mN rfl rfl) ?_)));simp only[ev,zD,zE,zF,zG];refine aA (jU rfl rfl rfl) (aA (dH Tryz.underlying101 Tryz.underlying3 rfl (oP Iw.h)) ?_);simp only[ev,zD,zE,zF,zG];refine fA m rfl rfl (jM (X:=(d.y).natAbs) _ (by have:=(Iw.h : kW d.y).natAbs; omega)) ?_;clear m; rintro v u m ⟨n,rfl,hn0,hn1,hdy⟩;refine aA (gJ rfl rfl) (aC (k94 _ _ ?_));simp only[ev,zD,zE,zF,zG];refine cK rfl (fun hc3=>?_) (fun hc3=>?_)
           ·
            refine aF fun K95 k95=>wp_region_lit (aA (aD) (aC (k95 _ _ ?_)));refine wp_ret ?_;simp only[ev,zD,zE,zF,zG];try simp only[Exit.inBlock,Exit.then,if_true]
            refine bT rfl rfl ?_;try simp only[zD,zE]
            exact ⟨_,rfl,m.ext,false,rfl,fun h=>by cases h⟩
           ·
            replace hdy:=hdy (by omega);clear hc3 hn0 hn1;refine wp_skip (k92 _ _ ?_);refine wp_region_lit (aA (aX (m:=1) (n:=1) (r:=2) rfl rfl (by decide)) (aA (aB) (aC (a7 (aF fun K96 k96=>wp_region_lit (aA (bR (m:=2) (n:=3) rfl rfl (by decide)) (aC (k96 _ _ ?_))))))));refine aF fun K97 k97=>bS rfl (wp_skip (k97 _ _ ?_));refine aF fun K98 k98=>wp_block (aF fun K99 k99=>wp_region_lit (aA (lM rfl rfl) ?_));simp only[ev,zD,zE,zF,zG];refine aA (aD) (aC (k99 _ _ ?_));refine aF fun K100 k100=>wp_region_lit (aA (aB) (aA (aB) (aA (mN rfl rfl) ?_)));simp only[ev,zD,zE,zF,zG];refine aA (jU rfl rfl rfl) (aA (dH Tryz.underlying101 Tryz.underlying3 rfl (oP Iw.h)) ?_);simp only[ev,zD,zE,zF,zG];refine fA m rfl rfl (jM (X:=(d.z).natAbs) _ (by have:=(Iw.h : kW d.z).natAbs; omega)) ?_;clear m; rintro v u m ⟨n,rfl,hn0,hn1,hdz⟩;refine aA (gJ rfl rfl) (aC (k100 _ _ ?_));simp only[ev,zD,zE,zF,zG];refine cK rfl (fun hc3=>?_) (fun hc3=>?_)
            ·
             refine aF fun K101 k101=>wp_region_lit (aA (aD) (aC (k101 _ _ ?_)));refine wp_ret ?_;simp only[ev,zD,zE,zF,zG];try simp only[Exit.inBlock,Exit.then,if_true]
             refine bT rfl rfl ?_;try simp only[zD,zE]
             exact ⟨_,rfl,m.ext,false,rfl,fun h=>by cases h⟩
            ·
             replace hdz:=hdz (by omega);clear hc3 hn0 hn1;refine wp_skip (k98 _ _ ?_);refine wp_region_lit (aA (aX (m:=2) (n:=1) (r:=3) rfl rfl (by decide)) (aA (aB) (aC (a7 (aF fun K102 k102=>wp_region_lit (aA (eW (m:=3) (n:=3) rfl rfl (by decide)) (aC (k102 _ _ ?_))))))));refine aF fun K103 k103=>eM rfl (wp_exit (k81 _ _ ?_));refine wp_region_lit (aA (aX (m:=3) (n:=1) (r:=4) rfl rfl (by decide)) ?_);simp only[ev,zD,zE,zF,zG];refine aA (aB) (aC (a7 (aF fun K104 k104=>wp_region_lit (aA (eW (m:=4) (n:=4) rfl rfl (by decide)) (aC (k104 _ _ ?_))))));refine aF fun K105 k105=>eM rfl (wp_exit (k2 _ _ ?_));refine aF fun K106 k106=>wp_region_lit (aA (aD) (aC (k106 _ _ ?_)));refine wp_ret ?_;simp only[ev,zD,zE,zF,zG];try simp only[Exit.inBlock,Exit.then,if_true]
             refine bT rfl rfl ?_;try simp only[zD,zE]
             exact ⟨_,rfl,m.ext,true,rfl,fun _=>⟨⟨hax,hay,haz⟩,⟨hbx,hby,hbz⟩,⟨hcx,hcy,hcz⟩,⟨hdx,hdy,hdz⟩⟩⟩
theorem Ok {a b c d : P3} [I3 a] [I3 b] [I3 c] [I3 d] : eI Tryz.prog 104 [pt a,pt b,pt c,pt d] (sg ((b.sub a).cross (d.sub c))):=by
 intro w;refine ⟨Q2,?_⟩;have m:=bU.refl w
 go_enter Tryz.func104,Tryz.ntmps104
 refine aF fun K1 k1=>wp_region_lit (dJ m rfl ?_);clear m; intro g1 u m;simp only[ev,zD,zE,zF,zG];refine dJ m rfl ?_;clear m; intro g2 u m;simp only[ev,zD,zE,zF,zG];refine dJ m rfl ?_;clear m; intro g3 u m;simp only[ev,zD,zE,zF,zG];refine dJ m rfl ?_;clear m; intro g4 u m;simp only[ev,zD,zE,zF,zG];refine bN m u3 rfl ?_;clear m; intro g5 u m;refine aC (k1 _ _ ?_);refine aF fun K2 k2=>wp_region_lit ?_;simp only[ev,zD,zE,zF,zG];refine bN m u3 rfl ?_;clear m; intro g6 u m;refine aC (k2 _ _ ?_);refine aF fun K3 k3=>aF fun K4 k4=>wp_region_lit ?_;simp only[ev,zD,zE,zF,zG];refine aI rfl ((m.b 5 rfl).full bC aN) ?_;simp only[ev,zD,zE,zF,zG];refine aI rfl ((m.b 4 rfl).full bC aN) ?_;simp only[ev,zD,zE,zF,zG];refine aI rfl ((m.b 3 rfl).full bC aN) ?_;simp only[ev,zD,zE,zF,zG];refine aI rfl ((m.b 2 rfl).full bC aN) ?_;simp only[ev,zD,zE,zF,zG];refine Hw rfl rfl rfl rfl ?_;intro u g7 e hg hB; replace m:=m.newB e hg hB; clear e hg hB;simp only[ev,zD,zE,zF,zG];refine fA m rfl rfl (H5 _ (m.b 0 rfl)) ?_;clear m; rintro v u m ⟨bo,rfl,hsm⟩;refine aC (k4 _ _ ?_);simp only[ev,zD,zE,zF,zG];refine o0 rfl (fun hc1=>?_) (fun hc1=>?_)
 ·
  obtain ⟨_,_,_,_⟩:=hsm hc1;refine aF fun K5 k5=>aF fun K6 k6=>mq m aU (by kernel_rfl) (ql rfl (fun u m=>((m.b 6 rfl).full bC aN)) ?_);simp only[ev,zD,zE,zF,zG];refine ql rfl (fun u m=>((m.b 5 rfl).full bC aN)) ?_;simp only[ev,zD,zE,zF,zG];refine iO rfl rfl (sK) ?_;simp only[ev,zD,zE,zF,zG];refine ql rfl (fun u m=>((m.b 4 rfl).full bC aN)) ?_;simp only[ev,zD,zE,zF,zG];refine ql rfl (fun u m=>((m.b 3 rfl).full bC aN)) ?_;simp only[ev,zD,zE,zF,zG];refine iO rfl rfl (sK) ?_;simp only[ev,zD,zE,zF,zG];refine iO rfl rfl (x7 inferInstance inferInstance) (aR (aB) (dW ?_));clear m; intro u m;refine k6 _ _ ?_;refine wp_block (wp_loop_rounds 4 (dA (aF fun K7 k7=>wp_region_lit (aA (bR (m:=0) (n:=3) rfl rfl (by decide)) (aC (k7 _ _ ?_))))));refine aF fun K8 k8=>bS rfl (wp_skip (k8 _ _ ?_));refine aF fun K9 k9=>wp_block (aF fun K10 k10=>wp_region_lit (aA (aB) ?_));simp only[ev,zD,zE,zF,zG];refine aA (xW rfl rfl) (aA (aD) (aA (aD) (aC (k10 _ _ ?_))));refine wp_region_lit (aA (aB) ?_);simp only[ev,zD,zE,zF,zG];refine aA (aB) ?_;simp only[ev,zD,zE,zF,zG];refine bH m rfl rfl (Ff) ?_;clear m; intro u m;refine aA (aJ Tryz.underlying23 aO rfl rfl (by decide) (by decide) rfl) ?_;simp only[ev,zD,zE,zF,zG];refine cA m 1 rfl rfl rfl aO (b9 rfl) ⟨rfl,rfl⟩ ?_;clear m; intro u m; simp only[a8,zH,zI,zJ,zK,zL,zM,zN,zO,zP,zF,zG,Nat.reduceAdd] at m;refine aC (k9 _ _ ?_);refine wp_region_lit (aA (aX (m:=0) (n:=1) (r:=1) rfl rfl (by decide)) (aA (aB) (aC (a7 (aF fun K11 k11=>wp_region_lit (aA (bR (m:=1) (n:=3) rfl rfl (by decide)) (aC (k11 _ _ ?_))))))));refine aF fun K12 k12=>bS rfl (wp_skip (k12 _ _ ?_));refine aF fun K13 k13=>wp_block (aF fun K14 k14=>wp_region_lit (aA (aB) ?_));simp only[ev,zD,zE,zF,zG];refine aA (xX rfl rfl) (aA (aD) (aA (aD) (aC (k14 _ _ ?_))));refine wp_region_lit (aA (aB) ?_);simp only[ev,zD,zE,zF,zG];refine aA (aB) ?_;simp only[ev,zD,zE,zF,zG];refine bH m rfl rfl (Ff) ?_;clear m; intro u m;refine aA (aJ Tryz.underlying23 aO rfl rfl (by decide) (by decide) rfl) ?_;simp only[ev,zD,zE,zF,zG];refine cA m 1 rfl rfl rfl aO (b9 rfl) ⟨rfl,rfl⟩ ?_;clear m; intro u m; simp only[a8,zH,zI,zJ,zK,zL,zM,zN,zO,zP,zF,zG,Nat.reduceAdd] at m;refine aC (k13 _ _ ?_);refine wp_region_lit (aA (aX (m:=1) (n:=1) (r:=2) rfl rfl (by decide)) (aA (aB) (aC (a7 (aF fun K15 k15=>wp_region_lit (aA (bR (m:=2) (n:=3) rfl rfl (by decide)) (aC (k15 _ _ ?_))))))));refine aF fun K16 k16=>bS rfl (wp_skip (k16 _ _ ?_));refine aF fun K17 k17=>wp_block (aF fun K18 k18=>wp_region_lit (aA (aB) ?_));simp only[ev,zD,zE,zF,zG];refine aA (xY rfl rfl) (aA (aD) (aA (aD) (aC (k18 _ _ ?_))));refine wp_region_lit (aA (aB) ?_);simp only[ev,zD,zE,zF,zG];refine aA (aB) ?_;simp only[ev,zD,zE,zF,zG];refine bH m rfl rfl (Ff) ?_;clear m; intro u m;refine aA (aJ Tryz.underlying23 aO rfl rfl (by decide) (by decide) rfl) ?_;simp only[ev,zD,zE,zF,zG];refine cA m 1 rfl rfl rfl aO (b9 rfl) ⟨rfl,rfl⟩ ?_;clear m; intro u m; simp only[a8,zH,zI,zJ,zK,zL,zM,zN,zO,zP,zF,zG,Nat.reduceAdd] at m;refine aC (k17 _ _ ?_);refine wp_region_lit (aA (aX (m:=2) (n:=1) (r:=3) rfl rfl (by decide)) (aA (aB) (aC (a7 (aF fun K19 k19=>wp_region_lit (aA (eW (m:=3) (n:=3) rfl rfl (by decide)) (aC (k19 _ _ ?_))))))));refine aF fun K20 k20=>eM rfl (wp_exit (k5 _ _ ?_));refine aF fun K21 k21=>wp_region_lit ?_;simp only[ev,zD,zE,zF,zG];refine aI rfl ((m.b 1 rfl).full o4 eJ) ?_;simp only[ev,zD,zE,zF,zG];refine aV m 2 rfl rfl rfl eJ (b9 rfl) rfl ?_;clear m; intro u m; simp only[a8,zH,zI,zJ,zK,zL,zM,zN,zO,zP,zF,zG,Nat.reduceAdd] at m;refine aC (k21 _ _ ?_);refine wp_ret ?_;try simp only[Exit.inBlock,Exit.then,if_true]
  refine bT rfl ⟨_,rfl,((m.b 2 rfl).full o4 eJ)⟩ ?_;try simp only[zD,zE]
  exact ⟨_,rfl,m.ext,rfl⟩
 ·
  refine wp_skip (k3 _ _ ?_);refine aF fun K22 k22=>aF fun K23 k23=>mq m aU (by kernel_rfl) (ql rfl (fun u m=>((m.b 6 rfl).full bC aN)) ?_);simp only[ev,zD,zE,zF,zG];refine ql rfl (fun u m=>((m.b 5 rfl).full bC aN)) ?_;simp only[ev,zD,zE,zF,zG];refine iO rfl rfl (mU) ?_;simp only[ev,zD,zE,zF,zG];refine ql rfl (fun u m=>((m.b 4 rfl).full bC aN)) ?_;simp only[ev,zD,zE,zF,zG];refine ql rfl (fun u m=>((m.b 3 rfl).full bC aN)) ?_;simp only[ev,zD,zE,zF,zG];refine iO rfl rfl (mU) ?_;simp only[ev,zD,zE,zF,zG];refine iO rfl rfl (sJ Bv.of Bv.of) (aR (aB) (dW ?_));clear m; intro u m;refine k23 _ _ ?_;refine wp_block (wp_loop_rounds 4 (dA (aF fun K24 k24=>wp_region_lit (aA (bR (m:=0) (n:=3) rfl rfl (by decide)) (aC (k24 _ _ ?_))))));refine aF fun K25 k25=>bS rfl (wp_skip (k25 _ _ ?_));refine aF fun K26 k26=>wp_block (aF fun K27 k27=>wp_region_lit (aA (aB) ?_));simp only[ev,zD,zE,zF,zG];refine aA (xT rfl rfl) ?_;simp only[ev,zD,zE,zF,zG];refine bN m cV rfl ?_;clear m; intro g8 u m;refine aA (aD) ?_;simp only[ev,zD,zE,zF,zG];refine aV m 0 rfl rfl rfl aH (b9 rfl) rfl ?_;clear m; intro u m; simp only[a8,zH,zI,zJ,zK,zL,zM,zN,zO,zP,zF,zG,Nat.reduceAdd] at m;refine aC (k27 _ _ ?_);refine wp_region_lit (aA (aB) ?_);simp only[ev,zD,zE,zF,zG];refine aI rfl ((m.b 0 rfl).full aY aH) ?_;simp only[ev,zD,zE,zF,zG];refine bH m rfl rfl (i5 Bw.up) ?_;clear m; intro u m;refine aA (aJ Tryz.underlying23 aO rfl rfl (by decide) (by decide) rfl) ?_;simp only[ev,zD,zE,zF,zG];refine cA m 2 rfl rfl rfl aO (b9 rfl) ⟨rfl,rfl⟩ ?_;clear m; intro u m; simp only[a8,zH,zI,zJ,zK,zL,zM,zN,zO,zP,zF,zG,Nat.reduceAdd] at m;refine aC (k26 _ _ ?_);refine wp_region_lit (aA (aX (m:=0) (n:=1) (r:=1) rfl rfl (by decide)) (aA (aB) (aC (a7 (aF fun K28 k28=>wp_region_lit (aA (bR (m:=1) (n:=3) rfl rfl (by decide)) (aC (k28 _ _ ?_))))))));refine aF fun K29 k29=>bS rfl (wp_skip (k29 _ _ ?_));refine aF fun K30 k30=>wp_block (aF fun K31 k31=>wp_region_lit (aA (aB) ?_));simp only[ev,zD,zE,zF,zG];refine aA (xU rfl rfl) ?_;simp only[ev,zD,zE,zF,zG];refine bN m cV rfl ?_;clear m; intro g9 u m;refine aA (aD) ?_;simp only[ev,zD,zE,zF,zG];refine aV m 0 rfl rfl rfl aH (b9 rfl) rfl ?_;clear m; intro u m; simp only[a8,zH,zI,zJ,zK,zL,zM,zN,zO,zP,zF,zG,Nat.reduceAdd] at m;refine aC (k31 _ _ ?_);refine wp_region_lit (aA (aB) ?_);simp only[ev,zD,zE,zF,zG];refine aI rfl ((m.b 0 rfl).full aY aH) ?_;simp only[ev,zD,zE,zF,zG];refine bH m rfl rfl (i5 Bw.up) ?_;clear m; intro u m;refine aA (aJ Tryz.underlying23 aO rfl rfl (by decide) (by decide) rfl) ?_;simp only[ev,zD,zE,zF,zG];refine cA m 3 rfl rfl rfl aO (b9 rfl) ⟨rfl,rfl⟩ ?_;clear m; intro u m; simp only[a8,zH,zI,zJ,zK,zL,zM,zN,zO,zP,zF,zG,Nat.reduceAdd] at m;refine aC (k30 _ _ ?_);refine wp_region_lit (aA (aX (m:=1) (n:=1) (r:=2) rfl rfl (by decide)) (aA (aB) (aC (a7 (aF fun K32 k32=>wp_region_lit (aA (bR (m:=2) (n:=3) rfl rfl (by decide)) (aC (k32 _ _ ?_))))))));refine aF fun K33 k33=>bS rfl (wp_skip (k33 _ _ ?_));refine aF fun K34 k34=>wp_block (aF fun K35 k35=>wp_region_lit (aA (aB) ?_));simp only[ev,zD,zE,zF,zG];refine aA (xV rfl rfl) ?_;simp only[ev,zD,zE,zF,zG];refine bN m cV rfl ?_;clear m; intro g10 u m;refine aA (aD) ?_;simp only[ev,zD,zE,zF,zG];refine aV m 0 rfl rfl rfl aH (b9 rfl) rfl ?_;clear m; intro u m; simp only[a8,zH,zI,zJ,zK,zL,zM,zN,zO,zP,zF,zG,Nat.reduceAdd] at m;refine aC (k35 _ _ ?_);refine wp_region_lit (aA (aB) ?_);simp only[ev,zD,zE,zF,zG];refine aI rfl ((m.b 0 rfl).full aY aH) ?_;simp only[ev,zD,zE,zF,zG];refine bH m rfl rfl (i5 Bw.up) ?_;clear m; intro u m;refine aA (aJ Tryz.underlying23 aO rfl rfl (by decide) (by decide) rfl) ?_;simp only[ev,zD,zE,zF,zG];refine cA m 4 rfl rfl rfl aO (b9 rfl) ⟨rfl,rfl⟩ ?_;clear m; intro u m; simp only[a8,zH,zI,zJ,zK,zL,zM,zN,zO,zP,zF,zG,Nat.reduceAdd] at m;refine aC (k34 _ _ ?_);refine wp_region_lit (aA (aX (m:=2) (n:=1) (r:=3) rfl rfl (by decide)) (aA (aB) (aC (a7 (aF fun K36 k36=>wp_region_lit (aA (eW (m:=3) (n:=3) rfl rfl (by decide)) (aC (k36 _ _ ?_))))))));refine aF fun K37 k37=>eM rfl (wp_exit (k22 _ _ ?_));refine aF fun K38 k38=>wp_region_lit ?_;simp only[ev,zD,zE,zF,zG];refine aI rfl ((m.b 4 rfl).full o4 eJ) ?_;simp only[ev,zD,zE,zF,zG];refine aV m 5 rfl rfl rfl eJ (b9 rfl) rfl ?_;clear m; intro u m; simp only[a8,zH,zI,zJ,zK,zL,zM,zN,zO,zP,zF,zG,Nat.reduceAdd] at m;refine aC (k38 _ _ ?_);refine wp_ret ?_;try simp only[Exit.inBlock,Exit.then,if_true]
  refine bT rfl ⟨_,rfl,((m.b 5 rfl).full o4 eJ)⟩ ?_;try simp only[zD,zE]
  exact ⟨_,rfl,m.ext,rfl⟩
theorem Sq {t : T3} [IT t] : eI Tryz.prog 64 [tr t] (.bool (decide (dL t.normal.x = 0 ∧ dL t.normal.y = 0 ∧ dL t.normal.z = 0))):=by
 intro w;refine ⟨Ux,?_⟩;have m:=bU.refl w
 go_enter Tryz.func64,Tryz.ntmps64
 refine aF fun K1 k1=>wp_region_lit (dJ m rfl ?_);clear m; intro g1 u m;refine aA (aD) (aC (k1 _ _ ?_));refine aF fun K2 k2=>wp_region_lit (aA (aJ Tryz.underlying58 aN rfl rfl (by decide) (by decide) rfl) ?_);simp only[ev,zD,zE,zF,zG];refine aI rfl ((m.b 0 rfl).lies bC aN rfl rfl) ?_;simp only[ev,zD,zE,zF,zG,zH,zI,zJ,zK,Nat.zero_add,Nat.reduceAdd,Nat.reduceMul,Int.reduceToNat];refine aA (aJ Tryz.underlying58 aN rfl rfl (by decide) (by decide) rfl) ?_;simp only[ev,zD,zE,zF,zG];refine aI rfl ((m.b 0 rfl).lies bC aN rfl rfl) ?_;simp only[ev,zD,zE,zF,zG,zH,zI,zJ,zK,Nat.zero_add,Nat.reduceAdd,Nat.reduceMul,Int.reduceToNat];refine aA (aJ Tryz.underlying58 aN rfl rfl (by decide) (by decide) rfl) ?_;simp only[ev,zD,zE,zF,zG];refine aI rfl ((m.b 0 rfl).lies bC aN rfl rfl) ?_;simp only[ev,zD,zE,zF,zG,zH,zI,zJ,zK,Nat.zero_add,Nat.reduceAdd,Nat.reduceMul,Int.reduceToNat];refine aA (aJ Tryz.underlying58 aN rfl rfl (by decide) (by decide) rfl) ?_;simp only[ev,zD,zE,zF,zG];refine aI rfl ((m.b 0 rfl).lies bC aN rfl rfl) ?_;simp only[ev,zD,zE,zF,zG,zH,zI,zJ,zK,Nat.zero_add,Nat.reduceAdd,Nat.reduceMul,Int.reduceToNat];refine bH m rfl rfl (Ok (a:=t.a) (b:=t.b) (c:=t.a) (d:=t.c)) ?_;clear m; intro u m;refine aA (mP) (aA (tL rfl rfl) (aA (aD) ?_));simp only[ev,zD,zE,zF,zG];refine aC (k2 _ _ ?_);refine wp_ret ?_;try simp only[Exit.inBlock,Exit.then,if_true]
 refine bT rfl rfl ?_;try simp only[zD,zE]
 exact ⟨_,rfl,m.ext,rfl⟩
end Go.Proofs.YtimjandkmfcmiaaGreatDoor
namespace Go.Lith
open Go.RowKit
end Go.Lith
namespace Go.Lith
open Go.RowKit
structure e8 where
 s : P3
 w : Int
 d : P3
def nQ (r : e8) : Go.Value:=.agg #[.int .i64 r.s.x,.int .i64 r.s.y,.int .i64 r.s.z,.int .i64 r.w,.int .i64 r.d.x,.int .i64 r.d.y,.int .i64 r.d.z]
class IR (r : e8) : Prop where
 s : I3 r.s
 w : kW r.w
 d : I3 r.d
instance {r : e8} [h : IR r] : I3 r.s:=h.s
instance {r : e8} [h : IR r] : I3 r.d:=h.d
instance {r : e8} [h : IR r] : Iw r.w:=⟨h.w⟩
def e8.ok (r : e8) : Prop:=0 < r.w ∧ ¬ (r.d.x = 0 ∧ r.d.y = 0 ∧ r.d.z = 0)
instance (r : e8) : Decidable r.ok:=inferInstanceAs (Decidable (_ ∧ _))
def P3.scl (v : P3) (n : Int) : P3:=⟨v.x * n,v.y * n,v.z * n⟩
def e8.to (r : e8) (p : P3) : P3:=(p.scl r.w).sub r.s
def kR (n : Int) (v : P3) : Int:=if dL n ≠ 0 then dL n else if dL v.x ≠ 0 then dL v.x else if dL v.y ≠ 0 then dL v.y else if dL v.z ≠ 0 then dL v.z else 0
def oQ (d a b : P3) : Int:=kR (d.dot (a.cross b)) (d.cross (b.sub a))
def z6 (d a b c : P3) : Prop:=oQ d a b ≠ 0 ∧ oQ d b c = oQ d a b ∧ oQ d c a = oQ d a b
instance (d a b c : P3) : Decidable (z6 d a b c):=inferInstanceAs (Decidable (_ ∧ _ ∧ _))
def lN (r : e8) (t : T3) : Int:=t.normal.dot (r.to t.a)
def jT (r : e8) (t : T3) : Int:=t.normal.dot r.d
def gE (r : e8) (t : T3) : Prop:=r.ok ∧ ¬ t.flat ∧ z6 r.d (r.to t.a) (r.to t.b) (r.to t.c) ∧ kR (lN r t) (P3.sub ⟨0,0,0⟩ t.normal) = dL (jT r t)
instance (r : e8) (t : T3) : Decidable (gE r t):=inferInstanceAs (Decidable (_ ∧ _ ∧ _ ∧ _))
def eL (r : e8) (t : T3) : Rat:=if gE r t then Rat.divInt (lN r t) (r.w * jT r t) else 0
theorem Sr {n : Int} {v : P3} (h : kR n v = 0) : v.x = 0 ∧ v.y = 0 ∧ v.z = 0:=by
 unfold kR at h
 repeat' split at h
 all_goals first
  | (exact absurd h (by assumption))
  | (rename_i a b c d; exact ⟨fZ.1 (Decidable.not_not.1 b),fZ.1 (Decidable.not_not.1 c),fZ.1 (Decidable.not_not.1 d)⟩)
theorem wQ {r : e8} {t : T3} (hf : ¬ t.flat) (h : kR (lN r t) (P3.sub ⟨0,0,0⟩ t.normal) = dL (jT r t)) : jT r t ≠ 0:=fun e=>by
 rw [e] at h;have:=Sr (h.trans rfl);simp only[P3.sub] at this;exact hf ⟨by omega,by omega,by omega⟩
def wR (r : e8) (b : Option (Rat × Nat)) (k : Nat) (t : T3) : Option (Rat × Nat) :=
 if gE r t then match b with
  | none=>some (eL r t,k)
  | some (q,j)=>if eL r t < q then some (eL r t,k) else some (q,j)
 else b
def bB (r : e8) (ts : List T3) : Option (Rat × Nat):=ts.zipIdx.foldl (fun b x=>wR r b x.2 x.1) none
def lO (b : Option (Rat × Nat)) : Rat:=match b with | none=>0 | some (q,_)=>q
def Ss (b : Option (Rat × Nat)) : Nat:=match b with | none=>0 | some (_,k)=>k
theorem mC {r : e8} {ts : List T3} {t : T3} {k : Nat} (h : ts[k]? = some t) : bB r (ts.take (k + 1)) = wR r (bB r (ts.take k)) k t:=by
 have hk : k < ts.length:=(List.getElem?_eq_some_iff.1 h).1;unfold bB;rw [List.take_add_one,h,List.zipIdx_append,List.foldl_append,List.length_take,Nat.min_eq_left (Nat.le_of_lt hk)];simp
instance W6 {r : e8} {p : P3} [a : IR r] [b : I3 p] : Bv 129 (r.to p):=by
 have k : ∀ {x s : Int},kW x → kW s → Bd 129 (x * r.w - s):=fun hx hs=>((hx.bd.mul a.w.bd).sub hs.bd).mono (by decide);exact ⟨k b.x a.s.x,k b.y a.s.y,k b.z a.s.z⟩
theorem Su {r : e8} {t : T3} (h : ¬ r.ok) : ¬ gE r t:=fun k=>h k.1
end Go.Lith
namespace Go.Lith
open Go.RowKit
structure GX (w w' : World) : Prop where
 ext : cD w w'
 dr : w.drawn ≤ w'.drawn
theorem GX.trans {a b c : World} (h : GX a b) (k : GX b c) : GX a c:=⟨h.ext.trans k.ext,Nat.le_trans h.dr k.dr⟩
theorem GX.grow {w w' : World} (h : GX w w') : ∃ q os,w' = Sort.grow (w.drewN q) os:=by
 refine ⟨w'.drawn - w.drawn,w'.heap.extract w.heap.size w'.heap.size,?_⟩;have e1 : w.heap ++ w'.heap.extract w.heap.size w'.heap.size = w'.heap:=by
  apply Array.ext_getElem?;intro i;rw [Array.getElem?_append];split
  · rename_i hi
    exact (Below.block h.ext i hi).symm
  · rename_i hi
    rw [Array.getElem?_extract];have:=h.ext.size;split
    · congr 1; omega
    · rw [Array.getElem?_eq_none (by omega)]
 have e2 : w.drawn + (w'.drawn - w.drawn) = w'.drawn:=by have:=h.dr; omega
 have h1:=h.ext.os;have h2:=h.ext.tape;have h3:=h.ext.output;cases w;cases w';simp only[Sort.grow,World.drewN] at *
 subst h1 h2 h3;rw [e1,e2]
structure gQ (w0 w : World) (is : List It) : Prop where
 ext : GX w0 w
 mem : bU w0 w is
def pH (P : Program) (f : FuncId) (args : List Value) (v : Value) : Prop:=∀ w,bF P f ∧ Calls P f args.toArray w fun e w'=>∃ u,e = .returned u ∧ GX w w' ∧ u = v
theorem pH.pure {P : Program} {f : FuncId} {args : List Value} {v : Value} (h : pH P f args v) : eI P f args v:=fun w=>⟨(h w).1,(h w).2.mono fun _ _ ⟨u,he,hX,hv⟩=>⟨u,he,hX.ext,hv⟩⟩
section
variable {w0 w w' : World} {is : List It}
theorem gQ.refl (w : World) : gQ w w []:=⟨⟨cD.refl w,Nat.le_refl _⟩,bU.refl w⟩
theorem gQ.go (m : gQ w0 w is) {js : List It} (h : bU w0 w' js) (d : w.drawn ≤ w'.drawn) : gQ w0 w' js:=⟨⟨h.ext,Nat.le_trans m.ext.dr d⟩,h⟩
theorem gQ.ext' (m : gQ w0 w is) (e : GX w w') : gQ w0 w' is:=m.go (m.mem.ext' e.ext) e.dr
theorem gQ.b (m : gQ w0 w is) (k : Nat) {g : Nat} {cs : List Value} {t : TypeId} (hk : is[k]? = some (bI g cs t)) : eU w g cs t:=m.mem.b k hk
theorem gQ.sel (m : gQ w0 w is) (bs : List Bool) : gQ w0 w (B8 bs is):=⟨m.ext,m.mem.sel bs⟩
end
section
variable {P : Program} {ds : List Deferred} {l : List Value} {x y : Operand} {T ty : TypeId}
variable {ops : Array Oper} {Q : Exit → Act → World → Prop} {rest : List Oper} {d : Nat} {pos : String} {after : Array Edge} {w w0 : World} {is : List It} {v : Value}
theorem Vu {cs : List Value} (m : gQ w0 w is) (hv : (ev l x).cells = cs.toArray) (h : ∀ g u,gQ w0 u (bI g cs T :: is) → wpList P ops Q rest (Fr (l.set d (.pointer (some ⟨g,0,none⟩))) ds) u) :
 wpList P ops Q (Oper.mk (some d) (.box T x) ty pos after none :: rest) (Fr l ds) w :=
 jO (w':=w.alloc (.cells cs.toArray T)) (v:=.pointer (some ⟨w.heap.size,0,none⟩)) (fun o ho _=>by simp [execOp,ho,cC,Instr.box,newVar,newRow,hv,newObj,Sem.run]) (h _ _ (m.go (m.mem.newB ((cD.refl w).alloc _) (Nat.le_refl _) (gK w cs T)) (Nat.le_refl _)))
theorem qZ {cs : List Value} (m : gQ w0 w is) (hv : ev l x = .agg cs.toArray) (h : ∀ g u,gQ w0 u (bI g cs T :: is) → wpList P ops Q rest (Fr (l.set d (.pointer (some ⟨g,0,none⟩))) ds) u) :
 wpList P ops Q (Oper.mk (some d) (.box T x) ty pos after none :: rest) (Fr l ds) w:=Vu m (by rw [hv]; rfl) h
theorem Ol {cs : List Value} {z : Value} (m : gQ w0 w is) (hZ : i7 P T z) (hv : z.cells = cs.toArray) (h : ∀ g u,gQ w0 u (bI g cs T :: is) → wpList P ops Q rest (Fr (l.set d (.pointer (some ⟨g,0,none⟩))) ds) u) :
 wpList P ops Q (Oper.mk (some d) (.alloc T) ty pos after none :: rest) (Fr l ds) w:=by
 obtain ⟨inf,hi,hz⟩:=hZ;exact jO (w':=w.alloc (.cells cs.toArray T)) (v:=.pointer (some ⟨w.heap.size,0,none⟩)) (fun o ho _=>by simp [execOp,ho,Instr.alloc,zeroValue,typeInfo,hi,hz,newVar,newRow,hv,newObj,Sem.run]) (h _ _ (m.go (m.mem.newB ((cD.refl w).alloc _) (Nat.le_refl _) (gK w cs T)) (Nat.le_refl _)))
theorem Om {g off : Nat} {cs us : List Value} {t : TypeId} (m : gQ w0 w is) (k : Nat) (hk : is[k]? = some (bI g cs t)) (hx : ev l x = .pointer (some ⟨g,off,none⟩)) (hv : (ev l y).cells = us.toArray) (hc : dM P T us.length) (hfit : off + us.length ≤ cs.length) (h1 : (us.all (·.oneCell')) = true)
 (h : ∀ u,gQ w0 u (is.set k (bI g (a8 cs off us) t)) → wpList P ops Q rest (Fr l ds) u) : wpList P ops Q (Oper.mk none (.store T x y) ty pos after none :: rest) (Fr l ds) w:=by
 have hB:=m.b k hk;have hC:=nU w g (a8 cs off us).toArray;exact Av (w':=w.setRow g (a8 cs off us).toArray) (fun o ho=>by simp [execOp,ho,cC,hx,Instr.storeAt,Instr.sureAddr,rK hc hv hB hfit (kB h1)])
  (h _ (m.go (m.mem.put k hk hC.os hC.tape hC.output (by rw [hC.size]; exact Nat.le_refl _) (fun b _ hne=>hC.block b fun e=>hne (by rw [e]; rfl)) (setRow_heap w g cs.toArray _ t _ hB) (.inl fun _ h=>h)) (Nat.le_refl _)))
theorem Le {g off : Nat} {cs us : List Value} {t : TypeId} (m : gQ w0 w is) (k : Nat) (hk : is[k]? = some (bI g cs t)) (hx : ev l x = .pointer (some ⟨g,off,none⟩)) (hv : ev l y = .agg us.toArray) (hc : dM P T us.length) (hfit : off + us.length ≤ cs.length) (h1 : (us.all (·.oneCell')) = true)
 (h : ∀ u,gQ w0 u (is.set k (bI g (a8 cs off us) t)) → wpList P ops Q rest (Fr l ds) u) : wpList P ops Q (Oper.mk none (.store T x y) ty pos after none :: rest) (Fr l ds) w:=Om m k hk hx (by rw [hv]; rfl) hc hfit h1 h
theorem B9 {f : FuncId} {fo : Operand} {xs : Array Operand} {args : List Value} {first cap : Array Value} {a0 : Array TypeId} (m : gQ w0 w is) (hf : ev l fo = .func (.func f) first cap) (hxs : first.toList ++ xs.toList.map (ev l) ++ cap.toList = args) (hc : pH P f args v)
 (h : ∀ u,gQ w0 u is → wpList P ops Q rest (Fr (l.set d v) ds) u) : wpList P ops Q (Oper.mk (some d) (.call { callee:=.value fo,args:=xs,argTypes:=a0 }) ty pos after none :: rest) (Fr l ds) w:=by
 refine wpList_plain rfl fun K hK=>?_;unfold Oper.wp;rw [gH,kL (hc w).1 hf hxs _ rfl];refine (hc w).2.mono ?_;rintro e w' ⟨u,rfl,hE,rfl⟩;show K ((Fr l ds).put (some d) u) w'
 rw [fV];exact hK _ _ (h w' (m.ext' hE))
theorem gQ.drew (m : gQ w0 w is) : gQ w0 { w with drawn:=w.drawn + 1 } is:=m.ext' ⟨(cD.refl w).drawn,Nat.le_succ _⟩
theorem Wv {id : Nat} {a : Act} {l : List Oper} (m : gQ w0 w is) (hm : P.follows .mixedOrders = true) (hB : Region.lexB .any l.toArray = true)
 (h : wpQuiet P l.toArray (fun u=>gQ w0 u is) (fun a'=>∀ u,gQ w0 u is → Q .normal a' u) l a) : (Code.region id l.toArray true).wp P Q a w :=
 wp_region_quiet (C:=fun u=>gQ w0 u is) hm hB m.drew (by simpa using h)
end
section
variable {P : Program} {w0 : World} {is : List It} {l : List Value} {x y : Operand} {T ty : TypeId}
variable {ops : Array Oper} {Q : Act → Prop} {rest : List Oper} {d : Nat} {pos : String} {after : Array Edge} {v : Value} {ds : List Deferred}
theorem Tq {a : Addr} (hx : ev l x = .pointer (some a)) (hv : ∀ u,gQ w0 u is → oY P u T a v) (h : wpQuiet P ops (fun u=>gQ w0 u is) Q rest (Fr (l.set d v) ds)) : wpQuiet P ops (fun u=>gQ w0 u is) Q (Oper.mk (some d) (.load T x) ty pos after none :: rest) (Fr l ds) :=
 vN (fun u m=>jN hx (hv u m)) h
theorem H6 {f : FuncId} {fo : Operand} {xs : Array Operand} {args : List Value} {first cap : Array Value} {a0 : Array TypeId} (hf : ev l fo = .func (.func f) first cap) (hxs : first.toList ++ xs.toList.map (ev l) ++ cap.toList = args) (hc : pH P f args v)
 (h : wpQuiet P ops (fun u=>gQ w0 u is) Q rest (Fr (l.set d v) ds)) : wpQuiet P ops (fun u=>gQ w0 u is) Q (Oper.mk (some d) (.call { callee:=.value fo,args:=xs,argTypes:=a0 }) ty pos after none :: rest) (Fr l ds):=by
 refine wpQuiet_step fun K hK=>?_;rw [if_pos (by simp [Region.wanted])];refine ⟨v,fun w' hw=>?_,?_⟩
 · unfold Oper.quietAt
   rw [gH,kL (hc w').1 hf hxs _ rfl];refine ⟨rfl,(hc w').2.mono ?_⟩;rintro e w'' ⟨u,rfl,hE,rfl⟩;exact ⟨rfl,hw.ext' hE⟩
 · show K ((Fr l ds).put (some d) v)
   rw [fV];exact hK _ h
end
end Go.Lith
namespace Go.Lith
open Go.RowKit
def P3.Lt (p q : P3) : Prop:=p.x < q.x ∨ p.x = q.x ∧ (p.y < q.y ∨ p.y = q.y ∧ p.z < q.z)
instance (p q : P3) : Decidable (p.Lt q):=by unfold P3.Lt; infer_instance
def Ca (p q : P3) : Int:=if p.Lt q then -1 else if q.Lt p then 1 else 0
theorem P3.eq {p q : P3} (h1 : p.x = q.x) (h2 : p.y = q.y) (h3 : p.z = q.z) : p = q:=by
 cases p; cases q; simp_all
instance : DecidableEq P3:=fun p q=>if h : p.x = q.x ∧ p.y = q.y ∧ p.z = q.z then isTrue (P3.eq h.1 h.2.1 h.2.2) else isFalse fun e=>h (by subst e; exact ⟨rfl,rfl,rfl⟩)
theorem P3.lt_irrefl (p : P3) : ¬ p.Lt p:=by unfold P3.Lt; omega
theorem P3.lt_trans {p q r : P3} (h : p.Lt q) (k : q.Lt r) : p.Lt r:=by unfold P3.Lt at *; omega
theorem P3.lt_tri (p q : P3) : p.Lt q ∨ p = q ∨ q.Lt p:=by
 by_cases h1 : p.x = q.x
 · by_cases h2 : p.y = q.y
   · by_cases h3 : p.z = q.z
     · exact .inr (.inl (P3.eq h1 h2 h3))
     · unfold P3.Lt; omega
   · unfold P3.Lt; omega
 · unfold P3.Lt; omega
theorem P3.lt_x {p q : P3} (h : ¬ p.x = q.x) : p.Lt q ↔ p.x < q.x:=by unfold P3.Lt; omega
theorem P3.lt_y {p q : P3} (h : p.x = q.x) (h2 : ¬ p.y = q.y) : p.Lt q ↔ p.y < q.y:=by unfold P3.Lt; omega
theorem P3.lt_z {p q : P3} (h : p.x = q.x) (h2 : p.y = q.y) : p.Lt q ↔ p.z < q.z:=by unfold P3.Lt; omega
end Go.Lith
namespace Go.Lith
open Go.RowKit
def lP (w : World) (g : Nat) (es : Array MapEntry) (c : Nat) : Prop:=w.heap[g]? = some (.map es c)
def mV (w : World) (r g s : Nat) (seen : Array Nat) (c : Nat) : Prop:=w.heap[r]? = some (.mapIter (some g) s seen c)
theorem lP.ext {w w' : World} {g c : Nat} {es : Array MapEntry} (h : lP w g es c) (hE : cD w w') : lP w' g es c:=hE.block h
theorem mV.ext {w w' : World} {r g s c : Nat} {seen : Array Nat} (h : mV w r g s seen c) (hE : cD w w') : mV w' r g s seen c:=hE.block h
theorem lP.chg {w w' : World} {g c k : Nat} {es : Array MapEntry} (h : lP w g es c) (hC : yF w w' k) (hne : g ≠ k) : lP w' g es c:=(hC.block g hne).trans h
theorem mV.chg {w w' : World} {r g s c k : Nat} {seen : Array Nat} (h : mV w r g s seen c) (hC : yF w w' k) (hne : r ≠ k) : mV w' r g s seen c:=(hC.block r hne).trans h
theorem lP.lt {w : World} {g c : Nat} {es : Array MapEntry} (h : lP w g es c) : g < w.heap.size:=(Array.getElem?_eq_some_iff.1 h).1
theorem mV.lt {w : World} {r g s c : Nat} {seen : Array Nat} (h : mV w r g s seen c) : r < w.heap.size:=(Array.getElem?_eq_some_iff.1 h).1
section
variable {P : Program} {ds : List Deferred} {l : List Value} {x : Operand} {T ty : TypeId} {ops : Array Oper} {Q : Exit → Act → World → Prop} {rest : List Oper} {d : Nat} {pos : String} {after : Array Edge} {w : World}
theorem H7 (h : ∀ w' g,cD w w' → w.heap.size ≤ g → lP w' g #[] 0 → wpList P ops Q rest (Fr (l.set d (.map (some g))) ds) w') : wpList P ops Q (Oper.mk (some d) (.makeMap T none) ty pos after none :: rest) (Fr l ds) w :=
 jO (w':=w.alloc (.map #[] 0)) (v:=.map (some w.heap.size)) (fun o ho _=>by simp [execOp,ho,Instr.makeMap,newObj,Sem.run]) (h _ _ ((cD.refl w).alloc _) (Nat.le_refl _) (heap_alloc_new w _))
theorem On {k e : TypeId} {g c : Nat} {es : Array MapEntry} (hu : P.underlying T = some (.map k e)) (hx : ev l x = .map (some g)) (hM : lP w g es c) (h : ∀ w' r,cD w w' → w.heap.size ≤ r → mV w' r g c #[] c → wpList P ops Q rest (Fr (l.set d (.pointer (some ⟨r,0,none⟩))) ds) w') :
 wpList P ops Q (Oper.mk (some d) (.range T x) ty pos after none :: rest) (Fr l ds) w :=
 jO (w':=w.alloc (.mapIter (some g) c #[] c)) (v:=.pointer (some ⟨w.heap.size,0,none⟩)) (fun o ho _=>by
  unfold lP at hM;simp [execOp,ho,cC,hx,Instr.range,run_underlying hu,getObj,hM,newObj,Sem.run]) (h _ _ ((cD.refl w).alloc _) (Nat.le_refl _) (heap_alloc_new w _))
end
end Go.Lith
namespace Go.Lith
open Go.RowKit Go.ChangeMaps Go.MapKept
/-! ### Lists of pairs -/
section
variable {K V : Type} [DecidableEq K]
def kS : List (K × V) → K → V → List (K × V)
 | [],k,v=>[(k,v)]
 | x :: D,k,v=>if x.1 = k then (k,v) :: D else x :: kS D k v
def sL : List (K × V) → K → Option V
 | [],_=>none
 | x :: D,k=>if x.1 = k then some x.2 else sL D k
def H8 : List (K × V) → K → List (K × V)
 | [],_=>[]
 | x :: D,k=>if x.1 = k then D else x :: H8 D k
def mW : List (K × V) → K → Nat → Option (Nat × V)
 | [],_,_=>none
 | x :: D,k,i=>if x.1 = k then some (i,x.2) else mW D k (i + 1)
theorem rA : ∀ (D : List (K × V)) (k : K) (i : Nat),mW D k i = none → sL D k = none ∧ (∀ u,kS D k u = D ++ [(k,u)]) ∧ H8 D k = D
 | [],_,_,_=>⟨rfl,fun _=>rfl,rfl⟩
 | x :: D,k,i,h=>by
  unfold mW at h;by_cases e : x.1 = k
  · rw [if_pos e] at h; cases h
  · rw [if_neg e] at h
    obtain ⟨h1,h2,h3⟩:=rA D k (i + 1) h;exact ⟨by simp [sL,e,h1],fun u=>by simp [kS,e,h2],by simp [H8,e,h3]⟩
theorem rB : ∀ (D : List (K × V)) (k : K) (i j : Nat) (v : V),mW D k i = some (j,v) → ∃ p,j = i + p ∧ D[p]? = some (k,v) ∧ sL D k = some v ∧ (∀ u,kS D k u = D.set p (k,u)) ∧ H8 D k = D.eraseIdx p
 | [],_,_,_,_,h=>by cases h
 | x :: D,k,i,j,v,h=>by
  unfold mW at h;by_cases e : x.1 = k
  · rw [if_pos e] at h
    cases h;obtain ⟨a,b⟩:=x;obtain rfl : a = k:=e;exact ⟨0,rfl,rfl,by simp [sL],fun u=>by simp [kS],by simp [H8]⟩
  · rw [if_neg e] at h
    obtain ⟨p,h1,h2,h3,h4,h5⟩:=rB D k (i + 1) j v h;exact ⟨p + 1,by omega,by simpa using h2,by simp [sL,e,h3],fun u=>by simp [kS,e,h4],by simp [H8,e,h5]⟩
theorem tO : ∀ (D : List (K × V)) (k : K) (v : V),(kS D k v).map (·.1) = if k ∈ D.map (·.1) then D.map (·.1) else D.map (·.1) ++ [k]
 | [],k,v=>by simp [kS]
 | x :: D,k,v=>by
  unfold kS;by_cases e : x.1 = k
  · simp [e]
  · have e' : ¬ k = x.1:=fun h=>e h.symm
    simp only[if_neg e,List.map_cons,tO D k v,List.mem_cons,e',false_or];split <;> simp
theorem Fg {D : List (K × V)} (h : (D.map (·.1)).Nodup) (k : K) (v : V) : ((kS D k v).map (·.1)).Nodup:=by
 rw [tO];split
 · exact h
 · rename_i hk
   exact List.nodup_append.2 ⟨h,by simp,fun a ha b hb e=>by rw [List.mem_singleton.1 hb] at e; exact hk (e ▸ ha)⟩
end
/-! ### A map's entries -/
def I4 (e : MapEntry) : Value × Value:=(e.key,e.val)
structure gW {K V : Type} (ek : K → Value) (ev : V → Value) (D : List (K × V)) (es : Array MapEntry) (c : Nat) : Prop where
 cells : es.toList.map I4 = D.map fun x=>(ek x.1,ev x.2)
 born : ∀ e ∈ es.toList,e.born < c
 nd : (es.toList.map (·.born)).Nodup
theorem gW.nil {K V : Type} (ek : K → Value) (ev : V → Value) : gW ek ev ([] : List (K × V)) #[] 0:=⟨rfl,fun _ h=>by simp at h,by simp⟩
theorem gW.len {K V : Type} {ek : K → Value} {ev : V → Value} {D : List (K × V)} {es : Array MapEntry} {c : Nat} (h : gW ek ev D es c) : es.size = D.length:=by
 have:=congrArg List.length h.cells;simpa using this
structure x8 {K : Type} [DecidableEq K] (P : Program) (T : TypeId) (ek : K → Value) : Prop where
 chk : ∀ e k w,(Instr.checkKey e 10000 T (ek k)).run P w = .ok () w
 now : ∃ t,P.underlying T = some t ∧ ∀ a b,Instr.sameNow t (ek a) (ek b) = none ∨ Instr.sameNow t (ek a) (ek b) = some (decide (a = b))
 eq : ∀ a b w,(Op.equal T (ek a) (ek b)).run P w = .ok (decide (a = b)) w
 bits : ∀ a,Instr.sameBits 10000 (ek a) (ek a) = true
section
variable {K V : Type} [DecidableEq K] {P : Program} {T : TypeId} {ek : K → Value} {ev : V → Value}
theorem uF (kt : x8 P T ek) (k : K) (w : World) : ∀ (L : List MapEntry) (D : List (K × V)) (i : Nat),L.map I4 = D.map (fun x=>(ek x.1,ev x.2)) →
 (Instr.findAsking T (ek k) L i).run P w = .ok ((mW D k i).map fun p=>(p.1,ev p.2)) w
 | [],D,i,h=>by
  obtain rfl : D = []:=by simpa using h.symm
  simp [Instr.findAsking,mW]
 | e :: L,[],i,h=>by simp at h
 | e :: L,x :: D,i,h=>by
  simp only[List.map_cons,List.cons.injEq,I4,Prod.mk.injEq] at h;obtain ⟨⟨h1,h2⟩,h3⟩:=h;have ih:=uF kt k w L D (i + 1) h3;unfold Instr.findAsking mW;rw [h1,h2];simp only[Sem.run_bind,kt.eq,Result.andThen];by_cases e' : x.1 = k
  · rw [if_pos (decide_eq_true e'.symm),if_pos e']
    rfl
  · rw [if_neg (by rw [decide_eq_false (Ne.symm e')]; exact Bool.false_ne_true),if_neg e']
    exact ih
theorem Dr (t : TypeDesc) (k : K) (hn : ∀ a b : K,Instr.sameNow t (ek a) (ek b) = none ∨ Instr.sameNow t (ek a) (ek b) = some (decide (a = b))) : ∀ (L : List MapEntry) (D : List (K × V)) (i : Nat),L.map I4 = D.map (fun x=>(ek x.1,ev x.2)) →
 Instr.findNow t (ek k) L i = none ∨ Instr.findNow t (ek k) L i = some ((mW D k i).map fun p=>(p.1,ev p.2))
 | [],D,i,h=>by
  obtain rfl : D = []:=by simpa using h.symm
  simp [Instr.findNow,mW]
 | e :: L,[],i,h=>by simp at h
 | e :: L,x :: D,i,h=>by
  simp only[List.map_cons,List.cons.injEq,I4,Prod.mk.injEq] at h;obtain ⟨⟨h1,h2⟩,h3⟩:=h;have ih:=Dr t k hn L D (i + 1) h3;unfold Instr.findNow mW;rw [h1,h2];rcases hn k x.1 with e0 | e0
  · left; rw [e0]
  · rw [e0]
    by_cases e' : x.1 = k
    · right; simp [e']
    · rw [show decide (k = x.1) = false from decide_eq_false (Ne.symm e')]
      simpa [e'] using ih
theorem wS (kt : x8 P T ek) (k : K) (w : World) {es : Array MapEntry} {D : List (K × V)} {c : Nat} (h : gW ek ev D es c) : (Instr.findKey T (ek k) es.toList).run P w = .ok ((mW D k 0).map fun p=>(p.1,ev p.2)) w:=by
 obtain ⟨t,ht,hn⟩:=kt.now;unfold Instr.findKey;simp only[Sem.run_bind,run_underlying ht,Result.andThen];rcases Dr t k hn es.toList D 0 h.cells with e | e
 · rw [e]
   exact uF kt k w es.toList D 0 h.cells
 · rw [e]
   rfl
end
section
variable {K V : Type} [DecidableEq K] {P : Program} {T M E ty : TypeId} {ek : K → Value} {ev : V → Value} {w w0 : World} {g c : Nat} {es : Array MapEntry} {D : List (K × V)}
theorem Ds {v0 : V} (hu : P.underlying M = some (.map T E)) (kt : x8 P T ek) (hM : lP w g es c) (hD : gW ek ev D es c) (hz : i7 P E (ev v0)) (k : K) (b : Bool) :
 (Instr.lookup M (.map (some g)) (ek k) b).run P w = .ok (if b then .tuple #[ev ((sL D k).getD v0),.bool (sL D k).isSome] else ev ((sL D k).getD v0)) w:=by
 unfold lP at hM;obtain ⟨inf,hi,hz⟩:=hz;have hzv : (zeroValue E).run P w = .ok (ev v0) w:=by simp [zeroValue,typeInfo,program,Sem.run,hi,hz]
 simp only[Instr.lookup,Sem.run_bind,run_underlying hu,Result.andThen,getObj,Sem.run,hM,Sem.run_pure,kt.chk,wS kt k w hD];cases hf : mW D k 0 with
 | none =>
  obtain ⟨h1,_⟩:=rA D k 0 hf;rw [h1];simp only[Option.map_none,Sem.run_bind,hzv,Result.andThen,Sem.run_pure];cases b <;> rfl
 | some p =>
  obtain ⟨j,v⟩:=p;obtain ⟨_,_,_,h1,_⟩:=rB D k 0 j v hf;rw [h1];simp only[Option.map_some,Sem.run_pure,Result.andThen];cases b <;> rfl
theorem qM {g : Nat} {o o' : Obj} (hM : w.heap[g]? = some o) : (setBlock w g o').heap[g]? = some o':=by
 have:=(Array.getElem?_eq_some_iff.1 hM).1;simp [setBlock,this]
theorem Cb {g : Nat} (o : Obj) : yF w (setBlock w g o) g:=⟨rfl,rfl,rfl,by simp [setBlock],fun k hk=>by simp [setBlock,Array.getElem?_setIfInBounds_ne (Ne.symm hk)]⟩
theorem wT {α β : Type} (f : α → β) (L : List α) (i : Nat) (x : α) (g : α → α) (hi : L[i]? = some x) : (L.modify i g).map f = (L.map f).set i (f (g x)):=by
 apply List.ext_getElem?;intro j;simp only[List.getElem?_map,List.getElem?_modify,List.getElem?_set,List.length_map];by_cases e : i = j
 · subst e
   rw [hi];have:=(List.getElem?_eq_some_iff.1 hi).1;simp [this]
 · simp [e]
theorem gW.set (hD : gW ek ev D es c) {p : Nat} {k : K} {v : V} (hp : D[p]? = some (k,v)) (u : V) : gW ek ev (D.set p (k,u)) (es.modify p fun e=>{ e with key:=ek k,val:=ev u }) c:=by
 have hl : es.toList.length = D.length:=by have:=congrArg List.length hD.cells; simpa using this
 have hlt : p < es.toList.length:=by rw [hl]; exact (List.getElem?_eq_some_iff.1 hp).1
 have hx : es.toList[p]? = some es.toList[p]:=List.getElem?_eq_getElem hlt;have hb : (es.modify p fun e=>{ e with key:=ek k,val:=ev u }).toList.map (·.born) = es.toList.map (·.born):=by
  rw [Array.toList_modify,wT _ _ _ _ _ hx];apply List.ext_getElem?;intro j;rw [List.getElem?_set];split
  · rename_i e; subst e; rw [if_pos (by simpa using hlt),List.getElem?_map,hx]; rfl
  · rfl
 refine ⟨?_,fun e he=>?_,by rw [hb]; exact hD.nd⟩
 · rw [Array.toList_modify,wT _ _ _ _ _ hx,hD.cells,List.map_set]
   rfl
 · have : e.born ∈ (es.modify p fun e=>{ e with key:=ek k,val:=ev u }).toList.map (·.born):=List.mem_map.2 ⟨e,he,rfl⟩
   rw [hb] at this;obtain ⟨e',he',hh⟩:=List.mem_map.1 this;rw [← hh];exact hD.born e' he'
theorem gW.push (hD : gW ek ev D es c) (k : K) (u : V) : gW ek ev (D ++ [(k,u)]) (es.push { key:=ek k,val:=ev u,born:=c }) (c + 1):=by
 refine ⟨by simp [hD.cells,I4],fun e he=>?_,?_⟩
 · rw [Array.toList_push] at he
   rcases List.mem_append.1 he with he | he
   · exact Nat.lt_succ_of_lt (hD.born e he)
   · rw [List.mem_singleton.1 he]; exact Nat.lt_succ_self _
 · rw [Array.toList_push,List.map_append]
   refine List.nodup_append.2 ⟨hD.nd,by simp,fun a ha b hb e=>?_⟩;obtain ⟨e',he',rfl⟩:=List.mem_map.1 ha;have : b = c:=by simpa using hb
   have:=hD.born e' he';omega
theorem Dt (hu : P.underlying M = some (.map T E)) (kt : x8 P T ek) (hM : lP w g es c) (hD : gW ek ev D es c) (k : K) (u : V) :
 ∃ es' c',(Instr.mapUpdate M (.map (some g)) (ek k) (ev u)).run P w = .ok () (setBlock w g (.map es' c')) ∧ gW ek ev (kS D k u) es' c':=by
 unfold lP at hM;cases hf : mW D k 0 with
 | none =>
  obtain ⟨_,h1,_⟩:=rA D k 0 hf;refine ⟨_,_,?_,h1 u ▸ hD.push k u⟩;simp only[Instr.mapUpdate,Sem.run_bind,run_underlying hu,Result.andThen,getObj,Sem.run,hM,Sem.run_pure,kt.chk,wS kt k w hD,hf,Option.map_none];exact run_setObj_map _ hM
 | some p =>
  obtain ⟨j,v⟩:=p;obtain ⟨p,rfl,hp,_,h1,_⟩:=rB D k 0 j v hf;rw [Nat.zero_add] at hf;have hl : es.toList.length = D.length:=by have:=congrArg List.length hD.cells; simpa using this
  have hlt : p < es.toList.length:=by rw [hl]; exact (List.getElem?_eq_some_iff.1 hp).1
  have hk : ((es[p]?).map (·.key)).getD (ek k) = ek k:=by
   have h2:=congrArg (fun L=>L[p]?) hD.cells;simp only[List.getElem?_map,hp,Option.map_some] at h2;rw [Array.getElem?_toList] at h2;cases h3 : es[p]? with
   | none=>rfl
   | some x =>
    rw [h3] at h2;simp only[Option.map_some,Option.some.injEq,I4,Prod.mk.injEq] at h2;simpa using h2.1
  refine ⟨_,_,?_,h1 u ▸ hD.set hp u⟩;simp only[Instr.mapUpdate,Sem.run_bind,run_underlying hu,Result.andThen,getObj,Sem.run,hM,Sem.run_pure,kt.chk,wS kt k w hD,hf,Option.map_some,hk,Instr.keyThatStays,kt.bits,if_true];exact run_setObj_map _ hM
/-! ### Ranges -/
def sM (ek : K → Value) (ev : V → Value) (D : List (K × V)) (es : Array MapEntry) (seen : Array Nat) (dn rs : List (K × V)) : Prop :=
 (dn ++ rs).Perm D ∧ ∃ dE rE : List MapEntry,seen.toList = dE.map (·.born) ∧ (dE ++ rE).Perm es.toList ∧ dE.map I4 = dn.map (fun x=>(ek x.1,ev x.2)) ∧ rE.map I4 = rs.map (fun x=>(ek x.1,ev x.2))
theorem sM.start (hD : gW ek ev D es c) : sM ek ev D es #[] [] D:=⟨List.Perm.refl _,[],es.toList,rfl,List.Perm.refl _,rfl,hD.cells⟩
theorem sM.done {seen : Array Nat} {dn : List (K × V)} (h : sM ek ev D es seen dn []) : dn.Perm D:=by simpa using h.1
def Wn (ek : K → Value) (ev : V → Value) (D : List (K × V)) (es : Array MapEntry) (dn rs : List (K × V)) (b : Bool) (kv vv : Value) (seen' : Array Nat) : Prop :=
 (b = false ∧ rs = []) ∨ (b = true ∧ ∃ k v rs',rs.Perm ((k,v) :: rs') ∧ kv = ek k ∧ vv = ev v ∧ sM ek ev D es seen' (dn ++ [(k,v)]) rs')
def Du (b : Bool) (k v : Value) : Value:=.tuple (if b then #[.bool true,k,v] else #[.bool false])
theorem H9 {r s : Nat} {seen : Array Nat} {dn rs : List (K × V)} (hI : mV w r g c seen c) (hM : lP w g es c) (hD : gW ek ev D es c) (hT : sM ek ev D es seen dn rs) :
 ∃ b kv vv seen' w1,(w1 = w ∨ w1 = w.drew) ∧ (Instr.next (.pointer (some ⟨r,0,none⟩)) false ty).run P w = .ok (Du b kv vv) (setBlock w1 r (.mapIter (some g) c seen' c)) ∧ Wn ek ev D es dn rs b kv vv seen':=by
 obtain ⟨hp,dE,rE,h1,h2,h3,h4⟩:=hT;have hnd : ((dE ++ rE).map (·.born)).Nodup:=(h2.map (·.born)).nodup_iff.2 hD.nd;rw [List.map_append,List.nodup_append] at hnd;have hleft : ∀ e,e ∈ (leftOf es seen).toList ↔ e ∈ rE:=fun e=>by
  unfold leftOf;simp only[Array.toList_filter,List.mem_filter,Bool.not_eq_true',Array.contains_eq_mem,decide_eq_false_iff_not];rw [← Array.mem_toList_iff (xs:=seen),h1,← h2.mem_iff,List.mem_append];constructor
  · rintro ⟨h | h,hn⟩
    · exact absurd (List.mem_map.2 ⟨e,h,rfl⟩) hn
    · exact h
  · intro h
    exact ⟨.inr h,fun hm=>hnd.2.2 _ hm _ (List.mem_map.2 ⟨e,h,rfl⟩) rfl⟩
 rcases run_next_at (P:=P) w ty r g c c seen es c hI hM hD.born (Nat.le_refl _) with ⟨h0,hr⟩ | ⟨e,he,w1,hw1,hr⟩
 · refine ⟨false,default,default,seen,w,.inl rfl,?_,.inl ⟨rfl,?_⟩⟩
   · rw [hr]
     have : setBlock w r (.mapIter (some g) c seen c) = w:=by
      unfold setBlock;have hlt:=(Array.getElem?_eq_some_iff.1 hI).1;have : w.heap.setIfInBounds r (.mapIter (some g) c seen c) = w.heap:=by
       apply Array.ext_getElem?;intro i;rw [Array.getElem?_setIfInBounds];split
       · rename_i e; subst e; exact hI.symm
       · rfl
      rw [this]
     rw [this];rfl
   · cases rs with
     | nil=>rfl
     | cons x rs =>
      cases rE with
      | nil=>simp at h4
      | cons e rE =>
       have:=(hleft e).2 (List.mem_cons_self ..);rw [Array.eq_empty_of_size_eq_zero h0] at this;simp at this
 · obtain ⟨s,t,rfl⟩:=List.append_of_mem ((hleft e).1 he)
   rw [List.map_append,List.map_cons] at h4;obtain ⟨rs1,rs2,rfl,e1,e2⟩:=List.map_eq_append_iff.1 h4.symm;obtain ⟨x,rs3,rfl,e3,e4⟩:=List.map_eq_cons_iff.1 e2;obtain ⟨k,v⟩:=x;simp only[I4,Prod.mk.injEq] at e3;refine ⟨true,e.key,e.val,seen.push e.born,w1,hw1,hr,.inr ⟨rfl,k,v,rs1 ++ rs3,List.perm_middle,e3.1.symm,e3.2.symm,?_,dE ++ [e],s ++ t,?_,?_,?_,?_⟩⟩
   · refine List.Perm.trans ?_ hp
     simp only[List.append_assoc,List.cons_append,List.nil_append];exact List.Perm.append_left _ List.perm_middle.symm
   · simp [h1]
   · refine List.Perm.trans ?_ h2
     simp only[List.append_assoc,List.cons_append,List.nil_append];exact List.Perm.append_left _ List.perm_middle.symm
   · simp [h3,I4,e3]
   · simp [e1,e4]
theorem Fh {r : Nat} {seen : Array Nat} {dn rs : List (K × V)} {k : K} {v : V} (hI : mV w r g c seen c) (hM : lP w g es c) (hD : gW ek ev D es c) (hT : sM ek ev D es seen (dn ++ [(k,v)]) rs) :
 (Instr.entry (.pointer (some ⟨r,0,none⟩))).run P w = .ok (.tuple #[ek k,ev v]) w:=by
 obtain ⟨hp,dE,rE,h1,h2,h3,h4⟩:=hT;rw [List.map_append,List.map_cons,List.map_nil] at h3;obtain ⟨d1,d2,rfl,e1,e2⟩:=List.map_eq_append_iff.1 h3;obtain ⟨e,d3,rfl,e3,e4⟩:=List.map_eq_cons_iff.1 e2;obtain rfl : d3 = []:=by simpa using e4
 simp only[I4,Prod.mk.injEq] at e3;have hs : seen = (d1.map (·.born)).toArray.push e.born:=by
  apply Array.toList_inj.1;rw [h1];simp
 have hm : e ∈ es.toList:=h2.mem_iff.1 (by simp);rw [hs] at hI;have:=run_entry_at (P:=P) w r g c _ es c e hI hM hm hD.nd;rw [this,e3.1,e3.2]
end
/-! ### Things in memory -/
def mI (g : Nat) (es : Array MapEntry) (c : Nat) : It where
 own b:=some g = some b
 P w:=lP w g es c
 lt w b h e:=by cases e; exact h.lt
 st w w' h _ k:=(k g rfl).trans h
def iI (r g c : Nat) (seen : Array Nat) : It where
 own b:=some r = some b
 P w:=mV w r g c seen c
 lt w b h e:=by cases e; exact h.lt
 st w w' h _ k:=(k r rfl).trans h
theorem bU.p {w0 w : World} {is : List It} (m : bU w0 w is) (k : Nat) {g c : Nat} {es : Array MapEntry} (hk : is[k]? = some (mI g es c)) : lP w g es c:=m.get k hk
theorem bU.r {w0 w : World} {is : List It} (m : bU w0 w is) (k : Nat) {r g c : Nat} {seen : Array Nat} (hk : is[k]? = some (iI r g c seen)) : mV w r g c seen c:=m.get k hk
section
variable {K V : Type} [DecidableEq K] {P : Program} {T M E ty : TypeId} {ek : K → Value} {ev : V → Value} {w w0 : World} {g c : Nat} {es : Array MapEntry} {D : List (K × V)} {is : List It}
variable {ds : List Deferred} {l : List Value} {x y z : Operand} {ops : Array Oper} {Q : Exit → Act → World → Prop} {rest : List Oper} {d : Nat} {pos : String} {after : Array Edge}
theorem Lf (m : bU w0 w is) (h : ∀ g u,bU w0 u (mI g #[] 0 :: is) → wpList P ops Q rest (Fr (l.set d (.map (some g))) ds) u) : wpList P ops Q (Oper.mk (some d) (.makeMap M none) ty pos after none :: rest) (Fr l ds) w :=
 H7 fun u g e hg hM=>h g u (m.new (i:=mI g #[] 0) e hM fun b h=>by cases h; exact hg)
theorem Sv (m : bU w0 w is) (hu : P.underlying M = some (.map T E)) (hx : Go.Lith.ev l x = .map (some g)) (hM : lP w g es c) (h : ∀ r u,bU w0 u (iI r g c #[] :: is) → wpList P ops Q rest (Fr (l.set d (.pointer (some ⟨r,0,none⟩))) ds) u) :
 wpList P ops Q (Oper.mk (some d) (.range M x) ty pos after none :: rest) (Fr l ds) w :=
 On hu hx hM fun u r e hr hI=>h r u (m.new (i:=iI r g c #[]) e hI fun b h=>by cases h; exact hr)
end
end Go.Lith
namespace Go.Lith
open Go.RowKit Go.ChangeMaps Go.MapKept
section
variable {K V : Type} [DecidableEq K] {P : Program} {T M E ty : TypeId} {ek : K → Value} {en : V → Value} {w w0 : World} {g c : Nat} {es : Array MapEntry} {D : List (K × V)} {is : List It}
variable {ds : List Deferred} {l : List Value} {x y z : Operand} {ops : Array Oper} {Q : Exit → Act → World → Prop} {rest : List Oper} {d : Nat} {pos : String} {after : Array Edge}
theorem Lg {v0 : V} {k : K} (hu : P.underlying M = some (.map T E)) (hz : i7 P E (en v0)) (kt : x8 P T ek) (hx : ev l x = .map (some g)) (hy : ev l y = ek k) (hM : lP w g es c) (hD : gW ek en D es c) : uT P l (.lookup M x y false) ty (en ((sL D k).getD v0)) w:=fun o ho _=>by
 have:=Ds hu kt hM hD hz k false;simp only[Bool.false_eq_true,if_false] at this;simp [execOp,ho,cC,hx,hy,this]
theorem Oo {v : V} {a : K} (m : bU w0 w is) (k : Nat) (hk : is[k]? = some (mI g es c)) (hu : P.underlying M = some (.map T E)) (kt : x8 P T ek) (hx : ev l x = .map (some g)) (hy : ev l y = ek a) (hz : ev l z = en v) (hD : gW ek en D es c)
 (h : ∀ es' c' u,bU w0 u (is.set k (mI g es' c')) → gW ek en (kS D a v) es' c' → wpList P ops Q rest (Fr l ds) u) : wpList P ops Q (Oper.mk none (.mapUpdate M x y z) ty pos after none :: rest) (Fr l ds) w:=by
 have hM:=m.p k hk;obtain ⟨es',c',hr,hD'⟩:=Dt hu kt hM hD a v;have hC:=Cb (w:=w) (g:=g) (.map es' c');refine Av (w':=setBlock w g (.map es' c')) (fun o ho=>by simp [execOp,ho,cC,hx,hy,hz,hr]) (h es' c' _ ?_ hD');exact m.put k hk hC.os hC.tape hC.output (by rw [hC.size]; exact Nat.le_refl _) (fun b _ hne=>hC.block b fun e=>hne (by rw [e]; rfl)) (qM hM) (.inl fun _ h=>h)
theorem Vv {r : Nat} {seen : Array Nat} {dn rs : List (K × V)} (m : bU w0 w is) (k : Nat) (hk : is[k]? = some (iI r g c seen)) (hx : ev l x = .pointer (some ⟨r,0,none⟩)) (hM : lP w g es c) (hD : gW ek en D es c) (hT : sM ek en D es seen dn rs)
 (h : ∀ b kv vv seen' u,bU w0 u (is.set k (iI r g c seen')) → Wn ek en D es dn rs b kv vv seen' → wpList P ops Q rest (Fr (l.set d (Du b kv vv)) ds) u) :
 wpList P ops Q (Oper.mk (some d) (.next x false) ty pos after none :: rest) (Fr l ds) w:=by
 have hI:=m.r k hk;obtain ⟨b,kv,vv,seen',w1,hw1,hr,hN⟩:=H9 (P:=P) (ty:=ty) (s:=0) hI hM hD hT;refine jO (w':=setBlock w1 r (.mapIter (some g) c seen' c)) (v:=Du b kv vv) (fun o ho hty=>by simp [execOp,ho,cC,hx,hty,hr]) (h b kv vv seen' _ ?_ hN);have e1 : w1.heap = w.heap ∧ w1.os = w.os ∧ w1.tape = w.tape ∧ w1.output = w.output:=by rcases hw1 with rfl | rfl <;> exact ⟨rfl,rfl,rfl,rfl⟩
 refine m.put k hk e1.2.1 e1.2.2.1 e1.2.2.2 (by simp [setBlock,e1.1]) (fun b' _ hne=>?_) ?_ (.inl fun _ h=>h)
 · have : b' ≠ r:=fun e=>hne (by rw [e]; rfl)
   simp only[setBlock,e1.1];exact Array.getElem?_setIfInBounds_ne (Ne.symm this)
 · exact qM (w:=w1) (o:=.mapIter (some g) c seen c) (by rw [e1.1]; exact hI)
theorem Oq {b : Bool} {kv vv : Value} (hx : ev l x = Du b kv vv) : fF P l (.extract x 0) ty (.bool b):=fun w o ho _=>by
 cases b <;> simp [execOp,ho,cC,hx,Du,Instr.extract]
theorem Or {r : Nat} {seen : Array Nat} {dn rs : List (K × V)} {k : K} {v : V} (hx : ev l x = .pointer (some ⟨r,0,none⟩)) (hI : mV w r g c seen c) (hM : lP w g es c) (hD : gW ek en D es c) (hT : sM ek en D es seen (dn ++ [(k,v)]) rs) :
 uT P l (.entry x) ty (.tuple #[ek k,en v]) w:=fun o ho _=>by
 have:=Fh (P:=P) hI hM hD hT;simp [execOp,ho,cC,hx,this]
theorem Cc {f : FuncId} {fo : Operand} {xs : Array Operand} {args : List Value} {first cap : Array Value} {a0 : Array TypeId} {R : Value → It → Prop} (m : bU w0 w is) (k : Nat) (hE : bF P f) (hf : ev l fo = .func (.func f) first cap) (hxs : first.toList ++ xs.toList.map (ev l) ++ cap.toList = args)
 (hc : bU w0 w is → Calls P f args.toArray w fun e w'=>∃ v i,e = .returned v ∧ bU w0 w' (is.set k i) ∧ R v i) (h : ∀ v i u,bU w0 u (is.set k i) → R v i → wpList P ops Q rest (Fr (l.set d v) ds) u) :
 wpList P ops Q (Oper.mk (some d) (.call { callee:=.value fo,args:=xs,argTypes:=a0 }) ty pos after none :: rest) (Fr l ds) w:=by
 refine wpList_plain rfl fun K hK=>?_;unfold Oper.wp;rw [gH,kL hE hf hxs _ rfl];refine (hc m).mono ?_;rintro e w' ⟨v,i,rfl,hM,hR⟩;show K ((Fr l ds).put (some d) v) w'
 rw [fV];exact hK _ _ (h v i w' hM hR)
end
theorem Gm {P : Program} {Q : Exit → Act → World → Prop} {l : List Value} {ds : List Deferred} {c1 c2 : Code} {w : World} {x : Operand} {b : Bool} (hx : ev l x = .bool b) (ht : b = true → c1.wp P Q (Fr l ds) w) (hf : b = false → c2.wp P Q (Fr l ds) w) : (Code.cond x c1 c2).wp P Q (Fr l ds) w:=o0 hx ht hf
theorem Lh {α : Type} {is : List α} {k : Nat} {i : α} (h : is[k]? = some i) : is.set k i = is:=by
 apply List.ext_getElem?;intro j;rw [List.getElem?_set];split
 · rename_i e; subst e
   have:=(List.getElem?_eq_some_iff.1 h).1;rw [if_pos this,h]
 · rfl
theorem z7 {K V : Type} [DecidableEq K] : ∀ {D : List (K × V)} {k : K} {v : V},sL D k = some v → kS D k v = D
 | [],_,_,h=>by cases h
 | x :: D,k,v,h=>by
  unfold sL at h;unfold kS;split at h
  · rename_i e; cases h; subst e; rw [if_pos rfl]
  · rename_i e; rw [if_neg e,z7 h]
/-! ### Keys -/
def Li (P : Program) (e : Bool) (d : Nat) (T : TypeId) (x : Value) : Prop:=∀ w,(Instr.checkKey e d T x).run P w = .ok () w
section
variable {P : Program} {e : Bool} {d : Nat} {T E : TypeId}
theorem lA {β : Type} {w : World} (g : β → PUnit → Sem (ForInStep PUnit)) : ∀ (L : List β),(∀ x ∈ L,(g x ⟨⟩).run P w = .ok (.yield ⟨⟩) w) → (forIn L PUnit.unit g : Sem PUnit).run P w = .ok ⟨⟩ w
 | [],_=>by simp
 | x :: L,h=>by
  simp only[List.forIn_cons,Sem.run_bind,h x (List.mem_cons_self ..),Result.andThen_ok];exact lA g L fun y hy=>h y (List.mem_cons_of_mem _ hy)
theorem Li.int {k k' : IntKind} {n : Int} (hu : P.underlying T = some (.int k')) : Li P e (d + 1) T (.int k n):=fun w=>by
 unfold Instr.checkKey;simp [run_underlying hu]
theorem Li.struct {fs : Array Field} {cs : Array Value} (hu : P.underlying T = some (.struct fs)) (h : ∀ f ∈ fs.toList,∃ v,(∀ w,(part f.type cs f.offset).run P w = .ok v w) ∧ Li P e d f.type v) : Li P e (d + 1) T (.agg cs):=fun w=>by
 unfold Instr.checkKey;simp only[Sem.run_bind,run_underlying hu,Result.andThen_ok];rw [← Array.forIn_toList];refine (congrArg (fun r=>Result.andThen r _) (lA _ fs.toList fun f hf=>?_)).trans (by rfl);obtain ⟨v,h1,h2⟩:=h f hf;by_cases hn : f.name = "_"
 · simp [hn]
 · simp [hn,h1 w,h2 w]
theorem Li.array {n c : Nat} {cs : Array Value} (hu : P.underlying T = some (.array n E)) (hc : dM P E c) (h : ∀ i,i < n → ∃ v,(∀ w,(part E cs (i * c)).run P w = .ok v w) ∧ Li P e d E v) : Li P e (d + 1) T (.agg cs):=fun w=>by
 unfold Instr.checkKey;simp only[Sem.run_bind,run_underlying hu,Result.andThen_ok];simp only[Std.Legacy.Range.forIn_eq_forIn_range',Std.Legacy.Range.size,Nat.sub_zero,Nat.add_one_sub_one,Nat.div_one];refine (congrArg (fun r=>Result.andThen r _) (lA _ (List.range' 0 n) fun i hi=>?_)).trans (by rfl);obtain ⟨v,h1,h2⟩:=h i (by simpa using hi);simp [d6 hc,h1 w,h2 w]
theorem x8.agg {K : Type} [DecidableEq K] {ek : K → Value} {cs : K → Array Value} (ha : ∀ k,ek k = .agg (cs k)) {t : TypeDesc} (ht : P.underlying T = some t) (hc : ∀ e k,Li P e 10000 T (ek k)) (he : ∀ a b,nY P 10000 T (ek a) (ek b) (a = b)) (hb : ∀ a,Instr.sameBits 10000 (ek a) (ek a) = true) : x8 P T ek where
 chk e k w:=hc e k w
 now:=⟨t,ht,fun a b=>.inl (by rw [ha,ha]; cases t <;> rfl)⟩
 eq a b w:=nZ (he a b) w
 bits:=hb
end
end Go.Lith
namespace Go.Lith
open Go.RowKit Go.Proofs Go.Sort Go.Shelf
theorem Lj {α : Type} {enc : α → List Value} {k : Nat} (hk : ∀ x,(enc x).length = k) (h0 : 0 < k) : ∀ (L : List α) (t : Nat),(L.flatMap enc)[t]? = (L[t / k]?).bind fun x=>(enc x)[t % k]?
 | [],t=>by simp
 | x :: L,t=>by
  rw [List.flatMap_cons,List.getElem?_append];by_cases h : t < k
  · rw [if_pos (by rw [hk]; exact h),Nat.div_eq_of_lt h,Nat.mod_eq_of_lt h]
    rfl
  · rw [if_neg (by rw [hk]; exact h),hk,Lj hk h0 L (t - k)]
    have e1 : t / k = (t - k) / k + 1:=by rw [Nat.div_eq t k,if_pos ⟨h0,Nat.le_of_not_lt h⟩]
    have e2 : t % k = (t - k) % k:=Nat.mod_eq_sub_mod (Nat.le_of_not_lt h);rw [e1,e2,List.getElem?_cons_succ]
theorem oK {α : Type} [Inhabited α] {enc : α → List Value} {k : Nat} (hk : ∀ x,(enc x).length = k) (h0 : 0 < k) (L : List α) : (flatK enc k L.toArray).toList = L.flatMap enc:=by
 have hlen : (L.flatMap enc).length = L.length * k:=by
  induction L with
  | nil=>simp
  | cons x L ih=>rw [List.flatMap_cons,List.length_append,ih,hk,List.length_cons,Nat.add_mul]; omega
 apply List.ext_getElem?;intro t;by_cases ht : t < L.length * k
 · have hd : t / k < L.length:=by
    rw [Nat.div_lt_iff_lt_mul h0];exact ht
   have hm : t % k < k:=Nat.mod_lt _ h0;have h1:=get_flatK enc k L.toArray t (by simpa using ht);rw [getElem!_pos _ t (by simpa using ht)] at h1;rw [Lj hk h0,List.getElem?_eq_getElem hd,Option.bind_some,Array.getElem?_toList,Array.getElem?_eq_getElem (by simpa using ht),h1,List.getElem?_eq_getElem (show t % k < (enc L[t / k]).length by rw [hk]; exact hm)]
   congr 1
   rw [getElem!_pos L.toArray _ (by simpa using hd),List.getElem_toArray,getElem!_pos _ _ (by rw [hk]; exact hm)]
 · rw [List.getElem?_eq_none (by simpa using Nat.le_of_not_lt ht),List.getElem?_eq_none (by rw [hlen]; exact Nat.le_of_not_lt ht)]
section
variable {α : Type} [Inhabited α] {P : Program} {ρ : Ren} {enc : α → List Value} {c : Nat} {E : TypeId} {w w0 : World} {is : List It} {A : Option Addr} {n cap : Nat}
theorem Ia {g : Nat} {xs : List α} {cur : Array Value} (hk : ∀ x,(enc x).length = c) (h0 : 0 < c) (hg : w.heap[g]? = some (.cells cur E (0,0))) (h : cur.toList.take (xs.length * c) = xs.flatMap enc) : HoldsK enc c w g 0 xs.toArray:=by
 intro j hj;have hl:=oK hk h0 xs;have hj' : j < xs.length * c:=by simpa using hj
 have e : (flatK enc c xs.toArray)[j]? = cur[j]?:=by
  rw [← Array.getElem?_toList,hl,← h,List.getElem?_take,if_pos hj',Array.getElem?_toList]
 rw [Array.getElem?_eq_getElem hj] at e;refine ⟨?_,?_⟩
 · simp only[World.cell?,hg,Nat.zero_add,Option.isSome_none,Bool.false_eq_true,if_false]
   rw [← e,getElem!_pos _ j hj];rfl
 · simp [World.frozen?,hg]
theorem x9 {g : Nat} {xs ys : List α} {cur : Array Value} {q : Nat} {os : Array Obj} (hk : ∀ x,(enc x).length = c) (h0 : 0 < c) (hg : w.heap[g]? = some (.cells cur E (0,0))) (hl : xs.length * c ≤ cur.size) (hlen : ys.length = xs.length) :
 ∃ cur' : Array Value,(sortWorldK enc c w g 0 q ys.toArray os).heap[g]? = some (.cells cur' E (0,0)) ∧ cur'.size = cur.size ∧ cur'.toList.take (xs.length * c) = ys.flatMap enc:=by
 have hlt : g < w.heap.size:=(Array.getElem?_eq_some_iff.1 hg).1;refine ⟨putCells id 0 (flatK enc c ys.toArray) cur,?_,by simp [putCells],?_⟩
 · unfold sortWorldK putRowK putRow mapBlock grow
   simp only;rw [Array.getElem?_append_left (by simpa [ahead] using hlt),Array.getElem?_modify];simp [ahead,hg,onCells]
 · have hf:=oK hk h0 ys
   apply List.ext_getElem?;intro t;rw [List.getElem?_take,← hf,Array.getElem?_toList,Array.getElem?_toList];have hs : (flatK enc c ys.toArray).size = xs.length * c:=by simp [hlen]
   split
   · rename_i ht
     have : t < cur.size:=Nat.lt_of_lt_of_le ht hl;simp only[putCells,Array.getElem?_mapIdx,Array.getElem?_eq_getElem this,Option.map_some,Nat.zero_le,Nat.zero_add,true_and,Nat.sub_zero,hs,ht,if_true];rw [Array.getElem?_eq_getElem (by rw [hs]; exact ht),getElem!_pos _ t (by rw [hs]; exact ht)];rfl
   · rename_i ht
     rw [Array.getElem?_eq_none (by rw [hs]; exact Nat.le_of_not_lt ht)]
theorem Lk (L : SlLaysF0.n6 P ρ) (aE : ∀ w,(isAgg (ρ.t 24)).run P w = .ok true w) (zE : ∀ w,(Go.sizeOf (ρ.t 24)).run P w = .ok c w) (hk : ∀ x,(enc x).length = c) (h0 : 0 < c) (h1 : ∀ x,∀ v ∈ enc x,v.oneCell' = true)
 (cf : α → α → Int) (hO : SWO (ltOf cf)) {f : FuncId} (hcmp : ∀ x y,pH P f [.agg (enc x).toArray,.agg (enc y).toArray] (.int .i64 (cf x y))) {xs : List α} (m : bU w0 w is) (k : Nat) (hi : is[k]? = some (oI E c A n cap (xs.flatMap enc))) (hsz : n < 4611686018427387904) :
 Calls P (ρ.f 6) #[.slice A n cap,.func (.func f) #[] #[]] w fun e w'=>∃ v i,e = .returned v ∧ bU w0 w' (is.set k i) ∧ (v = .tuple #[] ∧ ∃ ys : List α,i = oI E c A n cap (ys.flatMap enc) ∧ ys.Perm xs ∧ ys.Pairwise fun a b=>ltOf cf b a = false):=by
 have h : w.ownsRow 0 E c (.slice A n cap) n (xs.flatMap enc):=m.get k hi;have hlen : (xs.flatMap enc).length = xs.length * c:=by
  have:=oK hk h0 xs;rw [← this];simp
 have hn : xs.length = n:=by
  have:=h.1;rw [hlen] at this;exact Nat.eq_of_mul_eq_mul_right h0 this
 have hge:=fun b hb=>m.ge _ (List.mem_of_getElem? hi) b hb;rcases jE h with ⟨rfl,rfl,rfl,hx⟩ | ⟨g,cur,rfl,_,hg,hcap,hmax,hcur,htake⟩
 · refine (AnyF.slices_SortFunc_none L none 0 _ w).mono ?_
   rintro e w' ⟨rfl,rfl⟩;obtain rfl : xs = []:=List.eq_nil_of_length_eq_zero hn;refine ⟨_,oI E c none 0 0 [],rfl,?_,rfl,[],rfl,List.Perm.refl _,.nil⟩;have : is.set k (oI E c none 0 0 []) = is:=by
    apply List.ext_getElem?;intro j;rw [List.getElem?_set];split
    · rename_i e; subst e
      have:=(List.getElem?_eq_some_iff.1 hi).1;rw [if_pos this,hi];rfl
    · rfl
   rw [this];exact m
 · have hlt : g < w.heap.size:=(Array.getElem?_eq_some_iff.1 hg).1
   rw [← hn] at htake;have hH:=Ia (xs:=xs) hk h0 hg htake;have hx:=AnyQ.slices_SortFunc L c aE zE enc hk h1 cf hO f #[] g 0 cap xs.toArray w (fun args w'=>rL (hcmp default default w').1) (fun mm os dk _ x y=>by
    have:=((hcmp x y (sortWorldK enc c w g 0 mm dk os)).2.mono fun e w' h=>(show e = .returned (.int .i64 (cf x y)) ∧ ∃ q os',w' = grow ((sortWorldK enc c w g 0 mm dk os).drewN q) os' from by obtain ⟨u,rfl,hX,rfl⟩:=h; exact ⟨rfl,hX.grow⟩))
    simpa using this) hH hlt (by simpa [hn] using hsz)
   have es : xs.toArray.size = n:=by simpa using hn
   rw [es] at hx;refine hx.mono ?_;rintro e w' ⟨rfl,d',q,os,hp,hs,rfl⟩;have hd : d'.size = n:=by rw [hp.1]; exact es
   obtain ⟨ys,rfl⟩ : ∃ ys : List α,d' = ys.toArray:=⟨d'.toList,by simp⟩
   have hyl : ys.length = n:=by simpa using hd
   have hcs : xs.length * c ≤ cur.size:=by rw [hn,hcur]; exact Nat.mul_le_mul_right _ hcap
   obtain ⟨cur',e1,e2,e3⟩:=x9 (q:=q) (os:=os) (ys:=ys) hk h0 hg hcs (by rw [hyl,hn]);refine ⟨_,oI E c (some ⟨g,0,none⟩) n cap (ys.flatMap enc),rfl,?_,rfl,ys,rfl,?_,?_⟩
   · refine m.put k hi rfl rfl rfl ?_ (fun b hb hne=>?_) ?_ (.inl fun _ h=>h)
     · simp [sortWorldK,putRowK,putRow,mapBlock,grow,ahead]
     · have hbg : g ≠ b:=fun e=>hne (by rw [e]; rfl)
       unfold sortWorldK putRowK putRow mapBlock grow;simp only;rw [Array.getElem?_append_left (by simpa [ahead] using hb),Array.getElem?_modify,if_neg hbg];rfl
     · refine ⟨?_,.inr ⟨g,cap,cur',rfl,Nat.zero_le _,e1,hcap,hmax,by rw [e2,hcur],?_⟩⟩
       · have:=oK hk h0 ys
         rw [← this];simp [hyl]
       · rw [← hn]; exact e3
   · have:=hp.2.2
     simpa [hyl,hn,List.take_of_length_le (Nat.le_of_eq hyl),List.take_of_length_le (Nat.le_of_eq hn),List.extract_eq_take_drop] using this
   · rw [List.pairwise_iff_getElem]
     intro i j hi' hj' hij;have:=hs i j (Nat.zero_le _) hij (by rw [← hyl]; exact hj');rw [getElem!_pos _ i (by simpa using hi'),getElem!_pos _ j (by simpa using hj')] at this;simpa using this
end
end Go.Lith
namespace Go.Lith
open Go.RowKit Go.Sort
instance : Inhabited P3:=⟨⟨0,0,0⟩⟩
def gC (p : P3) : List Value:=[.int .i64 p.x,.int .i64 p.y,.int .i64 p.z]
theorem Dv (p : P3) : ∀ v ∈ gC p,v.oneCell' = true:=fun v h=>by
 simp only[gC,List.mem_cons,List.not_mem_nil,or_false] at h;rcases h with rfl | rfl | rfl <;> rfl
theorem sN (p q : P3) : (Ca p q < 0) ↔ p.Lt q:=by
 unfold Ca;split
 · simp [*]
 · split <;> simp [*]
theorem Ll : SWO (Go.Proofs.ltOf Ca) where
 irrefl x:=by simp [Go.Proofs.ltOf,sN,P3.lt_irrefl]
 trans x y z h1 h2:=by
  simp only[Go.Proofs.ltOf,decide_eq_true_eq,sN] at *
  exact P3.lt_trans h1 h2
 ntrans x y z h1 h2:=by
  simp only[Go.Proofs.ltOf,decide_eq_false_iff_not,sN] at *
  unfold P3.Lt at *
  omega
theorem sM.len {K V : Type} [DecidableEq K] {ek : K → Value} {en : V → Value} {D dn rs : List (K × V)} {es : Array MapEntry} {seen : Array Nat} (h : sM ek en D es seen dn rs) : dn.length + rs.length = D.length:=by
 have:=h.1.length_eq;simpa using this
theorem Vw {K V : Type} [DecidableEq K] {ek : K → Value} {en : V → Value} {D dn rs : List (K × V)} {es : Array MapEntry} {b : Bool} {kv vv : Value} {sn : Array Nat} (hb : b = false) (h : Wn ek en D es dn rs b kv vv sn) : rs = []:=by
 rcases h with ⟨_,h⟩ | ⟨h,_⟩
 · exact h
 · rw [h] at hb; cases hb
theorem Vx {K V : Type} [DecidableEq K] {ek : K → Value} {en : V → Value} {D dn rs : List (K × V)} {es : Array MapEntry} {b : Bool} {kv vv : Value} {sn : Array Nat} (hb : b = true) (h : Wn ek en D es dn rs b kv vv sn) :
 ∃ k v rs',rs.Perm ((k,v) :: rs') ∧ sM ek en D es sn (dn ++ [(k,v)]) rs':=by
 rcases h with ⟨h,_⟩ | ⟨_,k,v,rs',h1,_,_,h2⟩
 · rw [h] at hb; cases hb
 · exact ⟨k,v,rs',h1,h2⟩
def pI (D : List (P3 × Bool)) (ps : List P3) : List (P3 × Bool):=ps.foldl (fun D p=>kS D p true) D
theorem Lm {K V : Type} [DecidableEq K] (D : List (K × V)) (k a : K) (v : V) : a ∈ (kS D k v).map (·.1) ↔ a ∈ D.map (·.1) ∨ a = k:=by
 rw [tO];split
 · exact ⟨.inl,fun h=>h.elim id (fun e=>e ▸ ‹_›)⟩
 · simp
theorem z8 : ∀ (ps : List P3) (D : List (P3 × Bool)) (a : P3),a ∈ (pI D ps).map (·.1) ↔ a ∈ D.map (·.1) ∨ a ∈ ps
 | [],D,a=>by simp [pI]
 | p :: ps,D,a=>by
  have:=z8 ps (kS D p true) a;unfold pI at this ⊢;rw [List.foldl_cons,this,Lm,List.mem_cons,or_assoc]
theorem uG : ∀ (ps : List P3) (D : List (P3 × Bool)),(D.map (·.1)).Nodup → ((pI D ps).map (·.1)).Nodup
 | [],_,h=>h
 | p :: ps,D,h=>uG ps (kS D p true) (Fg h p true)
theorem uH {K V : Type} [DecidableEq K] : ∀ (D : List (K × V)) (k : K) (v : V),(kS D k v).length ≤ D.length + 1
 | [],_,_=>by simp [kS]
 | x :: D,k,v=>by
  unfold kS;split
  · simp
  · simp only[List.length_cons]
    exact Nat.succ_le_succ (uH D k v)
theorem sO : ∀ (ps : List P3) (D : List (P3 × Bool)),(pI D ps).length ≤ D.length + ps.length
 | [],D=>Nat.le_refl _
 | p :: ps,D=>Nat.le_trans (sO ps (kS D p true)) (by
  have:=uH D p true;simp only[List.length_cons];omega)
theorem Ib (D : List (P3 × Bool)) (ps qs : List P3) : pI D (ps ++ qs) = pI (pI D ps) qs:=List.foldl_append ..
def jF (ts : List T3) : List P3:=ts.flatMap fun t=>[t.a,t.b,t.c]
def Lo (ps : List P3) : Prop:=ps.Pairwise fun a b=>a.Lt b
theorem Ic {ps : List P3} (hn : ps.Nodup) (h : ps.Pairwise fun a b=>¬ b.Lt a) : Lo ps:=by
 have:=hn.and h;exact this.imp fun {a b} h=>(P3.lt_tri a b).resolve_right (by rintro (e | e); exact h.1 e; exact h.2 e)
end Go.Lith
namespace Go.Lith
open Go.RowKit
@[irreducible] def Gn (c : Bool) (v : Value) : Value:=if c then v else undef
theorem uI {v : Value} : Gn true v = v:=by simp [Gn]
theorem Gp {v : Value} : Gn false v = undef:=by simp [Gn]
theorem gI {c : Bool} {u v : Value} (hb : c = true) (h : u = Gn c v) : u = v:=by rw [h,hb,uI]
section
variable {P : Program} {ds : List Deferred} {l : List Value} {x y : Operand} {T ty : TypeId} {b c : Bool} {v : Value}
theorem iU {z : Operand} (hz : ev l z = .bool b) (hx : ev l x = Gn b (.bool c)) (hy : ev l y = .bool false) : fF P l (.pick z x y) ty (.bool (b && c)):=by
 have:=Au (P:=P) (ty:=ty) (x:=x) (y:=y) hz;cases b with
 | false=>simpa [hy] using this
 | true=>simpa [hx,uI] using this
theorem Dw {z : Operand} (hz : ev l z = .bool b) (hx : ev l x = .bool true) (hy : ev l y = Gn (!b) (.bool c)) : fF P l (.pick z x y) ty (.bool (b || c)):=by
 have:=Au (P:=P) (ty:=ty) (x:=x) (y:=y) hz;cases b with
 | false=>simpa [hy,uI] using this
 | true=>simpa [hx] using this
end
section
variable {P : Program} {ops : Array Oper} {Q : Exit → Act → World → Prop} {rest : List Oper} {d j : Nat} {op : Op} {ty : TypeId} {pos : String} {after : Array Edge} {v : Value} {b : Bool} {ds : List Deferred} {l : List Value} {w w0 : World} {is : List It}
theorem p4 (hw : yielded ops l.toArray j = some b) (hr : b = true → uT P l op ty v w) (h : wpList P ops Q rest (Fr (l.set d (Gn b v)) ds) w) : wpList P ops Q (Oper.mk (some d) op ty pos after (some (j,true)) :: rest) (Fr l ds) w:=by
 cases b with
 | false=>rw [Gp] at h; exact bD hw h
 | true=>rw [uI] at h; exact aW hw (oX (hr rfl) h)
theorem Ot (hw : yielded ops l.toArray j = some b) (hr : (!b) = true → uT P l op ty v w) (h : wpList P ops Q rest (Fr (l.set d (Gn (!b) v)) ds) w) : wpList P ops Q (Oper.mk (some d) op ty pos after (some (j,false)) :: rest) (Fr l ds) w:=by
 cases b with
 | true=>rw [Bool.not_true,Gp] at h; exact bW hw h
 | false=>rw [Bool.not_false,uI] at h; exact aW hw (oX (hr rfl) h)
theorem f0 (hw : yielded ops l.toArray j = some b) (hr : b = true → fF P l op ty v) (h : wpList P ops Q rest (Fr (l.set d (Gn b v)) ds) w) : wpList P ops Q (Oper.mk (some d) op ty pos after (some (j,true)) :: rest) (Fr l ds) w:=p4 hw (fun e=>hr e w) h
theorem lB (hw : yielded ops l.toArray j = some b) (hr : (!b) = true → fF P l op ty v) (h : wpList P ops Q rest (Fr (l.set d (Gn (!b) v)) ds) w) : wpList P ops Q (Oper.mk (some d) op ty pos after (some (j,false)) :: rest) (Fr l ds) w:=Ot hw (fun e=>hr e w) h
end
section
variable {P : Program} {ops : Array Oper} {Q : Act → Prop} {C : World → Prop} {rest : List Oper} {d j : Nat} {op : Op} {ty : TypeId} {pos : String} {after : Array Edge} {v : Value} {b : Bool} {ds : List Deferred} {l : List Value} {w0 : World} {is : List It}
theorem sP (hw : yielded ops l.toArray j = some b) (hr : (!b) = true → ∀ u,C u → uT P l op ty v u) (h : wpQuiet P ops C Q rest (Fr (l.set d (Gn (!b) v)) ds)) : wpQuiet P ops C Q (Oper.mk (some d) op ty pos after (some (j,false)) :: rest) (Fr l ds):=by
 cases b with
 | true=>rw [Bool.not_true,Gp] at h; exact F7 hw h
 | false=>rw [Bool.not_false,uI] at h; exact d9 hw (vN (hr rfl) h)
theorem mD (hw : yielded ops l.toArray j = some b) (hr : (!b) = true → fF P l op ty v) (h : wpQuiet P ops C Q rest (Fr (l.set d (Gn (!b) v)) ds)) : wpQuiet P ops C Q (Oper.mk (some d) op ty pos after (some (j,false)) :: rest) (Fr l ds):=sP hw (fun e u _=>hr e u) h
theorem Ou {f : FuncId} {fo : Operand} {xs : Array Operand} {args : List Value} {first cap : Array Value} {a0 : Array TypeId} (hw : yielded ops l.toArray j = some b) (hf : ev l fo = .func (.func f) first cap) (hxs : (!b) = true → first.toList ++ xs.toList.map (ev l) ++ cap.toList = args) (hc : (!b) = true → eI P f args v)
 (h : wpQuiet P ops (fun u=>bU w0 u is) Q rest (Fr (l.set d (Gn (!b) v)) ds)) : wpQuiet P ops (fun u=>bU w0 u is) Q (Oper.mk (some d) (.call { callee:=.value fo,args:=xs,argTypes:=a0 }) ty pos after (some (j,false)) :: rest) (Fr l ds):=by
 cases b with
 | true=>rw [Bool.not_true,Gp] at h; exact F7 hw h
 | false=>rw [Bool.not_false,uI] at h; exact d9 hw (iO hf (hxs rfl) (hc rfl) h)
end
section
variable {P : Program} {ops : Array Oper} {S : World → Prop} {Q : Exit → Act → World → Prop} {rest : List (Oper × Bool)} {d j : Nat} {op : Op} {ty : TypeId} {pos : String} {after : Array Edge} {v : Value} {b : Bool} {ds : List Deferred} {l : List Value} {w : World}
end
end Go.Lith
namespace Go.Lith
open Go.RowKit Go.ChangeShapes
variable {H : Type} {enc : TypeId × Value → H} {P : Program} {w : World} {base : Nat} {spare : Nat → Bool} {held : Bool}
def jG (P : Program) : Nat → TypeId → Bool
 | 0,_=>false
 | n + 1,t=>match P.underlying t with
  | some (.int .i64)=>decide (P.cellsOf t = 1)
  | some (.struct fs)=>(fs.toList.all fun f=>jG P n f.type) && (List.range (P.cellsOf t)).all fun i=>fs.toList.any fun f=>decide (f.offset ≤ i) && decide (i < f.offset + P.cellsOf f.type)
  | some (.array m e)=>jG P n e && decide (P.cellsOf t = m * P.cellsOf e)
  | _=>false
theorem Lp {n : Int} (h : (Lit.int .i64 n).wf = true) : kW n:=by
 have:=bounds_i64 h;exact ⟨by omega,by omega⟩
theorem iV : ∀ (n : Nat) (t : TypeId) (m : Nat) (cs : List Value) (x : DataW H × List MemPlace),jG P n t = true → DataW.trod enc P w base spare held m t cs = some x →
 cs.length = P.cellsOf t ∧ ∀ v ∈ cs,∃ z,v = .int .i64 z ∧ kW z
 | 0,t,m,cs,x,h,_=>by cases h
 | n + 1,t,m,cs,x,h,hx=>by
  unfold jG at h;split at h
  · rename_i hu
    obtain ⟨z,rfl,_,hz⟩:=DataW.trod_int hu hx;refine ⟨by rw [of_decide_eq_true h]; rfl,fun v hv=>⟨z,by simpa using hv,Lp hz⟩⟩
  · rename_i fs hu
    simp only[Bool.and_eq_true,List.all_eq_true,List.any_eq_true,decide_eq_true_eq,List.mem_range] at h;obtain ⟨ys,k,_,_,hl,hlen,hf⟩:=DataW.trod_struct hu hx;refine ⟨hl,fun v hv=>?_⟩;obtain ⟨i,hi,rfl⟩:=List.getElem_of_mem hv;obtain ⟨f,hfm,h1,h2⟩:=h.2 i (by rw [← hl]; exact hi);obtain ⟨j,hj,rfl⟩:=List.getElem_of_mem hfm;have hj' : j < fs.size:=by simpa using hj
    have:=hf j fs[j] (Array.getElem?_eq_getElem hj');rw [List.getElem?_eq_getElem (by rw [hlen]; exact hj')] at this;have hr:=(iV n _ _ _ _ (h.1 _ (List.getElem_mem hj)) this).2;refine hr _ ?_;simp only[Array.getElem_toList] at h1 h2;refine List.mem_of_getElem? (i:=i - fs[j].offset) ?_;rw [List.getElem?_take,if_pos (by omega),List.getElem?_drop,show fs[j].offset + (i - fs[j].offset) = i by omega];exact List.getElem?_eq_getElem hi
  · rename_i q e hu
    simp only[Bool.and_eq_true,decide_eq_true_eq] at h;obtain ⟨ys,k,_,_,hl,hlen,hf⟩:=DataW.trod_array hu hx;refine ⟨hl,fun v hv=>?_⟩;obtain ⟨i,hi,rfl⟩:=List.getElem_of_mem hv;rw [hl,h.2] at hi;have hc : 0 < P.cellsOf e:=by
     rcases Nat.eq_zero_or_pos (P.cellsOf e) with h0 | h0
     · rw [h0] at hi; omega
     · exact h0
    have hq : i / P.cellsOf e < q:=Nat.div_lt_of_lt_mul (by rw [Nat.mul_comm]; exact hi);have:=hf _ hq;rw [List.getElem?_eq_getElem (by rw [hlen]; exact hq)] at this;have hr:=(iV n _ _ _ _ h.1 this).2;refine hr _ (List.mem_of_getElem? (i:=i % P.cellsOf e) ?_);rw [List.getElem?_take,if_pos (Nat.mod_lt _ hc),List.getElem?_drop,Nat.mul_comm,Nat.div_add_mod];exact List.getElem?_eq_getElem _
  · cases h
theorem Aa : ∀ (n : Nat) (cs : List Value),cs.length = n → (∀ v ∈ cs,∃ z,v = .int .i64 z ∧ kW z) → ∃ zs : List Int,zs.length = n ∧ cs = zs.map (.int .i64 ·) ∧ ∀ z ∈ zs,kW z
 | 0,[],_,_=>⟨[],rfl,rfl,fun _ h=>by cases h⟩
 | n + 1,v :: vs,h,hv=>by
  obtain ⟨zs,h1,h2,h3⟩:=Aa n vs (by simpa using h) (fun u hu=>hv u (by simp [hu]));obtain ⟨z,rfl,hz⟩:=hv v (by simp);exact ⟨z :: zs,by simp [h1],by simp [h2],fun u hu=>by rcases List.mem_cons.1 hu with rfl | hu; exact hz; exact h3 _ hu⟩
theorem three {zs : List Int} (h : zs.length = 3) : ∃ a b c,zs = [a,b,c]:=by
 match zs,h with
 | [a,b,c],_=>exact ⟨a,b,c,rfl⟩
theorem Fi {a : Addr} {n : Nat} {cs : List Value} (h : w.cells? base a n = some cs) : pS w a cs ∧ base ≤ a.block:=by
 unfold World.cells? at h;split at h
 · rename_i hb
   refine ⟨fun j u hj=>?_,hb⟩;have hl:=mapM_some_length h;have hj' : j < cs.length:=(List.getElem?_eq_some_iff.1 hj).1;rw [hl] at hj';have:=mapM_some_get h j j (List.getElem?_eq_getElem hj' ▸ by simp);rw [this,hj]
 · cases h
theorem Ab {n m : Nat} {t e : TypeId} {fuel : Nat} {cs : List Value} {x : DataW H × List MemPlace} (hu : P.underlying t = some (.slice e)) (hi : jG P n e = true) (hc : P.cellsOf e = m) (h : DataW.trod enc P w base spare held fuel t cs = some x) :
 ∃ (A : Option Addr) (len cap : Nat),cs = [.slice A len cap] ∧ len ≤ cap ∧ cap ≤ maxLen ∧ (A = none → len = 0) ∧ ∀ i,i < len → ∃ (a : Addr) (zs : List Int),A = some a ∧ base ≤ a.block ∧ pS w (a.add (i * m)) (zs.map (Value.int .i64 ·)) ∧ zs.length = m ∧ ∀ z ∈ zs,kW z:=by
 rcases Deep.open_slice hu h with ⟨rfl,_⟩ | ⟨a,len,cap,k,q,D,Pl,rfl,hb,hl,hm,hk,_,hx⟩
 · exact ⟨none,0,0,rfl,Nat.le_refl _,Nat.zero_le _,fun _=>rfl,fun i hi=>absurd hi (Nat.not_lt_zero _)⟩
 · refine ⟨some a,len,cap,rfl,hl,hm,fun h=>(by cases h),fun i hi'=>?_⟩
   obtain ⟨cs',h1,h2⟩:=hx i (by rw [hk]; split <;> omega);obtain ⟨h3,h4⟩:=iV n e q _ _ hi h2;obtain ⟨zs,h5,rfl,h6⟩:=Aa m cs' (by rw [← hc]; exact h3) h4;rw [hc] at h1;exact ⟨a,zs,rfl,hb,(Fi h1).1,h5,h6⟩
theorem pJ {α : Type} {p : Nat → α → Prop} : ∀ (n : Nat),(∀ i,i < n → ∃ x,p i x) → ∃ l : List α,l.length = n ∧ ∀ i x,l[i]? = some x → p i x
 | 0,_=>⟨[],rfl,fun i x h=>by simp at h⟩
 | n + 1,h=>by
  obtain ⟨l,h1,h2⟩:=pJ n (fun i hi=>h i (by omega));obtain ⟨x,hx⟩:=h n (by omega);refine ⟨l ++ [x],by simp [h1],fun i y hy=>?_⟩;rcases Nat.lt_trichotomy i n with hi | hi | hi
  · exact h2 i y (by rwa [List.getElem?_append_left (by omega)] at hy)
  · subst hi
    rw [List.getElem?_append_right (by omega),h1,Nat.sub_self] at hy;cases hy;exact hx
  · rw [List.getElem?_append_right (by omega),h1] at hy
    have : i - n ≠ 0:=by omega
    cases hd : i - n with
    | zero=>omega
    | succ j=>rw [hd] at hy; simp at hy
structure cT (w : World) (A : Option Addr) (n : Nat) (zs : List Int) : Prop where
 len : zs.length = n
 it : ∀ z ∈ zs,kW z
 row : ∀ i z,zs[i]? = some z → ∃ a,A = some a ∧ w.cell? (a.add i) = some (.int .i64 z)
theorem cT.ext {w' : World} {A : Option Addr} {n : Nat} {zs : List Int} (h : cT w A n zs) (hE : cD w w') : cT w' A n zs :=
 ⟨h.len,h.it,fun i z hi=>let ⟨a,e,hr⟩:=h.row i z hi; ⟨a,e,hE.cell hr⟩⟩
theorem cT.get {A : Option Addr} {n : Nat} {zs : List Int} (h : cT w A n zs) {i : Nat} (hi : i < n) : ∃ z,zs[i]? = some z ∧ Iw z ∧ ∃ a,A = some a ∧ w.cell? (a.add i) = some (.int .i64 z):=by
 have hl : i < zs.length:=by rw [h.len]; exact hi
 exact ⟨zs[i],List.getElem?_eq_getElem hl,⟨h.it _ (List.getElem_mem hl)⟩,h.row i _ (List.getElem?_eq_getElem hl)⟩
theorem wU {n : Nat} {t e : TypeId} {fuel : Nat} {cs : List Value} {x : DataW H × List MemPlace} (hu : P.underlying t = some (.slice e)) (hi : jG P n e = true) (hc : P.cellsOf e = 1) (h : DataW.trod enc P w base spare held fuel t cs = some x) :
 ∃ (A : Option Addr) (len cap : Nat) (zs : List Int),cs = [.slice A len cap] ∧ len ≤ cap ∧ cap ≤ maxLen ∧ (A = none → len = 0) ∧ cT w A len zs:=by
 obtain ⟨A,len,cap,rfl,h1,h2,h3,h4⟩:=Ab hu hi hc h;obtain ⟨zs,h5,h6⟩:=pJ (p:=fun i (z : Int)=>kW z ∧ ∃ a,A = some a ∧ w.cell? (a.add i) = some (.int .i64 z)) len (fun i hi=>by
  obtain ⟨a,zs,rfl,_,hr,hl,hz⟩:=h4 i hi
  match zs,hl with
  | [z],_=>exact ⟨z,hz _ (by simp),a,rfl,by have:=hr 0 _ rfl; rwa [Nat.mul_one,fP,Nat.add_zero] at this⟩)
 refine ⟨A,len,cap,zs,rfl,h1,h2,h3,h5,fun z hz=>?_,fun i z hz=>(h6 i z hz).2⟩;obtain ⟨i,hi,rfl⟩:=List.getElem_of_mem hz;exact (h6 i _ (List.getElem?_eq_getElem hi)).1
end Go.Lith
namespace Go.Lith
open Go.RowKit
theorem qN {n m : Int} (hm : 0 < m) : -m < n.tmod m ∧ n.tmod m < m:=by
 have h1:=Int.tmod_lt_of_pos n hm;have h2:=Int.tmod_lt_of_pos (-n) hm;rw [Int.neg_tmod] at h2;omega
theorem Gq {n m : Int} (hm : 0 < m) : (n.tmod m + m).tmod m = n % m:=by
 have hb:=qN (n:=n) hm;rw [Int.tmod_eq_emod_of_nonneg (by omega)];rcases Int.le_total 0 n with h | h
 · rw [Int.tmod_eq_emod_of_nonneg h]
   simp
 · have e : n.tmod m = -((-n) % m):=by
    rw [← Int.tmod_eq_emod_of_nonneg (show 0 ≤ -n by omega),Int.neg_tmod,Int.neg_neg]
   rw [e,Int.add_emod_right];have h2:=Int.emod_add_mul_ediv (-n) m;have h3 : -((-n) % m) = n + m * (-n / m):=by omega
   rw [h3,Int.add_mul_emod_self_left]
theorem vG {n m : Int} (hm : 0 < m) : 0 ≤ n % m ∧ n % m < m:=⟨Int.emod_nonneg _ (by omega),Int.emod_lt_of_pos _ hm⟩
/-! ### Hills -/
def M8 (zs : List Int) (x y : Nat) : Int:=(zs[(y * 7 + x) % zs.length]?.getD 0) % 64
theorem Sw (zs : List Int) (x y : Nat) : 0 ≤ M8 zs x y ∧ M8 zs x y < 64:=vG (by decide)
def kT (s : Int) (zs : List Int) (x y : Nat) : P3:=⟨(x : Int) * s,(y : Int) * s,100 + M8 zs x y⟩
def oS (a b c d : P3) : List T3:=[⟨a,b,c⟩,⟨a,c,d⟩]
def Dx (s : Int) (zs : List Int) (y x : Nat) : List T3:=oS (kT s zs x y) (kT s zs (x + 1) y) (kT s zs (x + 1) (y + 1)) (kT s zs x (y + 1))
def eK (s : Int) (zs : List Int) (n y x : Nat) : List T3:=((List.range y).flatMap fun y=>(List.range n).flatMap (Dx s zs y)) ++ (List.range x).flatMap (Dx s zs y)
def wV (s : Int) (zs : List Int) (n : Nat) : List T3:=(List.range n).flatMap fun y=>(List.range n).flatMap (Dx s zs y)
theorem sQ {s : Int} {zs : List Int} {n : Nat} : eK s zs n n 0 = wV s zs n:=by simp [eK,wV]
theorem Cd {s : Int} {zs : List Int} {n y : Nat} : eK s zs n y n = eK s zs n (y + 1) 0:=by
 simp [eK,List.range_succ,List.flatMap_append]
theorem yA {s : Int} {zs : List Int} {n y x : Nat} : eK s zs n y (x + 1) = eK s zs n y x ++ Dx s zs y x:=by
 simp [eK,List.range_succ,List.flatMap_append]
theorem mX {α β : Type} {f : α → List β} {k : Nat} : ∀ (l : List α),(∀ x ∈ l,(f x).length = k) → (l.flatMap f).length = l.length * k
 | [],_=>by simp
 | x :: l,h=>by
  rw [List.flatMap_cons,List.length_append,h x (by simp),mX l (fun y hy=>h y (by simp [hy])),List.length_cons,Nat.add_mul,Nat.one_mul,Nat.add_comm]
theorem lC {s : Int} {zs : List Int} {n y x : Nat} : (eK s zs n y x).length = y * (n * 2) + x * 2:=by
 unfold eK;rw [List.length_append,mX (k:=n * 2) _ (fun y _=>by rw [mX (k:=2) _ (fun _ _=>rfl),List.length_range]),mX (k:=2) _ (fun _ _=>rfl),List.length_range,List.length_range]
def Sm (k : Int) (p : P3) : Prop:=(0 ≤ p.x ∧ p.x ≤ k) ∧ (0 ≤ p.y ∧ p.y ≤ k) ∧ (0 ≤ p.z ∧ p.z ≤ k)
def Ek (k : Int) (t : T3) : Prop:=Sm k t.a ∧ Sm k t.b ∧ Sm k t.c
theorem Sm.i3 {k : Int} {p : P3} (h : Sm k p) (hk : k < 9223372036854775808) : I3 p:=⟨⟨by have:=h.1; omega,by have:=h.1; omega⟩,⟨by have:=h.2.1; omega,by have:=h.2.1; omega⟩,⟨by have:=h.2.2; omega,by have:=h.2.2; omega⟩⟩
theorem Ek.it {k : Int} {t : T3} (h : Ek k t) (hk : k < 9223372036854775808) : IT t:=⟨h.1.i3 hk,h.2.1.i3 hk,h.2.2.i3 hk⟩
theorem Gr {k : Int} {a b c d : P3} (ha : Sm k a) (hb : Sm k b) (hc : Sm k c) (hd : Sm k d) : ∀ t ∈ oS a b c d,Ek k t:=fun t ht=>by
 simp only[oS,List.mem_cons,List.not_mem_nil,or_false] at ht;rcases ht with rfl | rfl
 · exact ⟨ha,hb,hc⟩
 · exact ⟨ha,hc,hd⟩
theorem sR {zs : List Int} {x y : Nat} (hx : x ≤ 6) (hy : y ≤ 6) : Sm 200 (kT 10 zs x y):=by
 have:=Sw zs x y;simp only[Sm,kT];omega
theorem Dy {zs : List Int} {x y : Nat} (hx : x < 6) (hy : y < 6) : ∀ t ∈ Dx 10 zs y x,Ek 200 t :=
 Gr (sR (by omega) (by omega)) (sR (by omega) (by omega)) (sR (by omega) (by omega)) (sR (by omega) (by omega))
theorem Dz {zs : List Int} {n x y : Nat} (hn : n ≤ 6) (hx : x ≤ 6) (hy : y ≤ 6) (hxy : x = 0 ∨ y < 6) : ∀ t ∈ eK 10 zs n y x,Ek 200 t:=fun t ht=>by
 rcases List.mem_append.1 ht with h | h
 · obtain ⟨v,hv,h⟩:=List.mem_flatMap.1 h
   obtain ⟨u,hu,h⟩:=List.mem_flatMap.1 h;exact Dy (by have:=List.mem_range.1 hu; omega) (by have:=List.mem_range.1 hv; omega) t h
 · obtain ⟨u,hu,h⟩:=List.mem_flatMap.1 h
   have:=List.mem_range.1 hu;exact Dy (by omega) (by omega) t h
/-! ### Cubes -/
def cE (p : P3) (s : Int) (n : Nat) : P3:=⟨p.x + ((n % 2 : Nat) : Int) * s,p.y + ((n / 2 % 2 : Nat) : Int) * s,p.z + ((n / 4 : Nat) : Int) * s⟩
def pK (p : P3) (s : Int) : List T3:=oS (cE p s 0) (cE p s 2) (cE p s 3) (cE p s 1) ++ oS (cE p s 4) (cE p s 5) (cE p s 7) (cE p s 6) ++ oS (cE p s 0) (cE p s 1) (cE p s 5) (cE p s 4)
 ++ oS (cE p s 2) (cE p s 6) (cE p s 7) (cE p s 3) ++ oS (cE p s 0) (cE p s 4) (cE p s 6) (cE p s 2) ++ oS (cE p s 1) (cE p s 3) (cE p s 7) (cE p s 5)
theorem lQ (p : P3) (s : Int) : (pK p s).length = 12:=rfl
def vP (n : Nat) : P3:=⟨4 + ((n % 3 : Nat) : Int) * 8,5 + ((n / 3 % 3 : Nat) : Int) * 8,6 + ((n / 9 : Nat) : Int) * 8⟩
def Qh (f : Nat) : Int:=if f = 4 then -1 else if f = 5 then 1 else 0
def Qi (f : Nat) : Int:=if f = 2 then -1 else if f = 3 then 1 else 0
def Qj (f : Nat) : Int:=if f = 0 then -1 else if f = 1 then 1 else 0
def uX (b : Nat) (n : Nat) : Bool:=decide (b / 2 ^ n % 2 = 1)
def sS (b n f : Nat) : Bool :=
 let u:=((n % 3 : Nat) : Int) + Qh f
 let v:=((n / 3 % 3 : Nat) : Int) + Qi f
 let w:=((n / 9 : Nat) : Int) + Qj f
 !(decide (0 ≤ u) && decide (u < 3) && decide (0 ≤ v) && decide (v < 3) && decide (0 ≤ w) && decide (w < 3)) || !uX b ((w * 3 + v) * 3 + u).toNat
def qO (n f : Nat) : List T3:=((pK (vP n) 8).drop (2 * f)).take 2
def lD (b n f : Nat) : List T3:=(List.range f).flatMap fun f=>if sS b n f then qO n f else []
def f9 (b n f : Nat) : List T3:=((List.range n).flatMap fun n=>if uX b n then lD b n 6 else []) ++ lD b n f
def Lr (b : Nat) : List T3:=(List.range 27).flatMap fun n=>if uX b n then lD b n 6 else []
theorem Fj {b : Nat} : f9 b 27 0 = Lr b:=by simp [f9,Lr,lD]
theorem Fl {b n : Nat} (h : uX b n = true) : f9 b n 6 = f9 b (n + 1) 0:=by
 simp [f9,List.range_succ (n:=n),List.flatMap_append,h,lD]
theorem Ie {b n : Nat} (h : uX b n = false) : f9 b n 0 = f9 b (n + 1) 0:=by
 simp [f9,List.range_succ (n:=n),List.flatMap_append,h,lD]
theorem Ac {b n f : Nat} (h : sS b n f = true) : f9 b n (f + 1) = f9 b n f ++ qO n f:=by
 simp [f9,lD,List.range_succ (n:=f),List.flatMap_append,h]
theorem Fm {b n f : Nat} (h : sS b n f = false) : f9 b n (f + 1) = f9 b n f:=by
 simp [f9,lD,List.range_succ (n:=f),List.flatMap_append,h]
/-! ### What the walks ask for -/
theorem Ls {k c : Nat} : (k : Int).tmod (c : Int) = ((k % c : Nat) : Int):=rfl
theorem Vy {b : Nat} {n : Int} (h0 : 0 ≤ n) (h : n ≤ 63) : (b : Int).fdiv (2 ^ (min n.toNat IntKind.i64.bits)) = ((b / 2 ^ n.toNat : Nat) : Int):=by
 have e : min n.toNat IntKind.i64.bits = n.toNat:=Nat.min_eq_left (by show n.toNat ≤ 64; omega);rw [e,Int.fdiv_eq_ediv_of_nonneg _ (by exact Int.le_of_lt (Int.pow_pos (by decide)))];simp
theorem Vz {x : Nat} (h : x < 9223372036854775808) : IntKind.i64.wrap ((BitVec.ofInt IntKind.i64.bits (x : Int) &&& BitVec.ofInt IntKind.i64.bits 1).toNat : Int) = ((x % 2 : Nat) : Int):=by
 have e : (BitVec.ofInt IntKind.i64.bits (x : Int) &&& BitVec.ofInt IntKind.i64.bits 1).toNat = x % 2:=by
  show (BitVec.ofInt 64 (x : Int) &&& BitVec.ofInt 64 1).toNat = x % 2
  rw [BitVec.toNat_and,BitVec.toNat_ofInt,BitVec.toNat_ofInt];have h1 : ((x : Int) % ((2 ^ 64 : Nat) : Int)).toNat = x:=by
   have : ((2 ^ 64 : Nat) : Int) = 18446744073709551616:=rfl;rw [this]; omega
  have h2 : ((1 : Int) % ((2 ^ 64 : Nat) : Int)).toNat = 1:=rfl;rw [h1,h2,Nat.and_one_is_mod]
 rw [e];exact aL (by omega) (by omega)
theorem Lu {b n : Nat} (h : b < 134217728) : b / 2 ^ n < 9223372036854775808:=Nat.lt_of_le_of_lt (Nat.div_le_self _ _) (by omega)
theorem Lv {zs : List Int} {x y N : Nat} {z : Int} (hl : zs.length = N) (hz : zs[(y * 7 + x) % N]? = some z) : M8 zs x y = z % 64:=by
 unfold M8;rw [hl,hz];rfl
theorem Ov {zs : List Int} {x y N : Nat} (hl : zs.length = N) (h : ¬ (0 : Int) < (N : Int)) : M8 zs x y = 0:=by
 have : zs = []:=List.eq_nil_of_length_eq_zero (by omega);subst this;rfl
theorem Lw {s : Int} {zs : List Int} {n y x : Nat} : (eK s zs n y x).flatMap bV ++ (oS (kT s zs x y) (kT s zs (x + 1) y) (kT s zs (x + 1) (y + 1)) (kT s zs x (y + 1))).flatMap bV = (eK s zs n y (x + 1)).flatMap bV:=by
 rw [yA,List.flatMap_append];rfl
theorem Lx {s : Int} {zs : List Int} {n y x : Nat} {a b c d : P3} : (eK s zs n y x).length + (oS a b c d).length = (eK s zs n y (x + 1)).length:=by
 rw [lC,lC];show _ + 2 = _
 omega
theorem uJ {s : Int} {zs : List Int} {n y x : Nat} (hn : n ≤ 6) (hy : y ≤ 6) (hx : x ≤ 6) : (eK s zs n y x).length ≤ 84:=by
 rw [lC];have : y * (n * 2) ≤ 6 * (6 * 2):=Nat.mul_le_mul hy (by omega);omega
theorem If {zs : List Int} {n : Nat} (hn : n ≤ 6) : ∀ t ∈ wV 10 zs n,Ek 200 t:=by
 rw [← sQ];exact Dz hn (by omega) hn (.inl rfl)
def TS (E : TypeId) (ts : List T3) (w : World) (v : Value) (w' : World) : Prop:=∃ A cap n,n = ts.length ∧ v = .slice A n cap ∧ Ow w w' [] E 9 A n cap (ts.flatMap bV)
theorem Ow.tri {w0 w : World} {S : List (Option Nat)} {E : TypeId} {n cap g i : Nat} {ts : List T3} {t : T3} (h : Ow w0 w S E 9 (Option.some ⟨g,0,none⟩) n cap (ts.flatMap bV)) (ht : ts[i]? = Option.some t) : pS w ((⟨g,0,none⟩ : Addr).add (i * 9)) [.int .i64 t.a.x,.int .i64 t.a.y,.int .i64 t.a.z,.int .i64 t.b.x,.int .i64 t.b.y,.int .i64 t.b.z,.int .i64 t.c.x,.int .i64 t.c.y,.int .i64 t.c.z]:=by
 show pS w _ (bV t)
 intro j u hj;have hj' : j < (bV t).length:=(List.getElem?_eq_some_iff.1 hj).1;rw [fP];refine h.rows _ _ ?_;rw [← List.getElem?_drop,lW ts i t ht,List.getElem?_append_left hj'];exact hj
theorem Qk {n : Nat} (h : n < 27) : Sm 100 (vP n):=by
 simp only[Sm,vP];omega
theorem Ly {p : P3} {n : Nat} (h : Sm 100 p) (hn : n < 8) : Sm 200 (cE p 8 n):=by
 simp only[Sm,cE] at h ⊢;omega
theorem Lz {p : P3} (h : Sm 100 p) : ∀ t ∈ pK p 8,Ek 200 t:=fun t ht=>by
 have c : ∀ n,n < 8 → Sm 200 (cE p 8 n):=fun n hn=>Ly h hn;simp only[pK,List.mem_append] at ht;rcases ht with ((((ht | ht) | ht) | ht) | ht) | ht <;> exact Gr (c _ (by decide)) (c _ (by decide)) (c _ (by decide)) (c _ (by decide)) t ht
theorem L0 {n f : Nat} (h : n < 27) : ∀ t ∈ qO n f,Ek 200 t:=fun t ht=>Lz (Qk h) t (List.mem_of_mem_drop (List.mem_of_mem_take ht))
theorem Ig {b n f : Nat} (h : n < 27) : ∀ t ∈ lD b n f,Ek 200 t:=fun t ht=>by
 obtain ⟨k,_,h2⟩:=List.mem_flatMap.1 ht;split at h2
 · exact L0 h t h2
 · cases h2
theorem Ox {b : Nat} : ∀ t ∈ Lr b,Ek 200 t:=fun t ht=>by
 obtain ⟨k,hk,h2⟩:=List.mem_flatMap.1 ht;split at h2
 · exact Ig (List.mem_range.1 hk) t h2
 · cases h2
theorem rC {α β : Type} {f : α → List β} {k : Nat} : ∀ (l : List α),(∀ x ∈ l,(f x).length ≤ k) → (l.flatMap f).length ≤ l.length * k
 | [],_=>by simp
 | x :: l,h=>by
  have h1:=h x (by simp);have h2:=rC l (fun y hy=>h y (by simp [hy]));rw [List.flatMap_cons,List.length_append,List.length_cons,Nat.add_mul,Nat.one_mul];omega
theorem L3 {n f : Nat} : (qO n f).length ≤ 2:=by unfold qO; rw [List.length_take]; omega
theorem Ad {b n f : Nat} : (lD b n f).length ≤ f * 2:=by
 have:=rC (f:=fun f=>if sS b n f then qO n f else []) (k:=2) (List.range f) (fun x _=>by
  show (if sS b n x = true then qO n x else []).length ≤ 2
  split
  · exact L3
  · exact Nat.zero_le _)
 rwa [List.length_range] at this
theorem Ae {b n f : Nat} (hn : n ≤ 27) (hf : f ≤ 6) : (f9 b n f).length ≤ 400:=by
 have h1:=rC (f:=fun n=>if uX b n then lD b n 6 else []) (k:=12) (List.range n) (fun x _=>by
  show (if uX b x = true then lD b x 6 else []).length ≤ 12
  split
  · exact Ad
  · exact Nat.zero_le _)
 have h2:=Ad (b:=b) (n:=n) (f:=f);rw [List.length_range] at h1;unfold f9;rw [List.length_append];omega
def p5 : List Value:=[.int .i64 0,.int .i64 0,.int .i64 (-1),.int .i64 0,.int .i64 0,.int .i64 1,.int .i64 0,.int .i64 (-1),.int .i64 0,.int .i64 0,.int .i64 1,.int .i64 0,.int .i64 (-1),.int .i64 0,.int .i64 0,.int .i64 1,.int .i64 0,.int .i64 0]
theorem wW {f : Nat} (h : f < 6) : f = 0 ∨ f = 1 ∨ f = 2 ∨ f = 3 ∨ f = 4 ∨ f = 5:=by omega
theorem V0 {f : Nat} (h : f < 6) : p5[f * 3]? = some (.int .i64 (Qh f)):=by rcases wW h with rfl | rfl | rfl | rfl | rfl | rfl <;> rfl
theorem V1 {f : Nat} (h : f < 6) : p5[f * 3 + 1]? = some (.int .i64 (Qi f)):=by rcases wW h with rfl | rfl | rfl | rfl | rfl | rfl <;> rfl
theorem V2 {f : Nat} (h : f < 6) : p5[f * 3 + 2]? = some (.int .i64 (Qj f)):=by rcases wW h with rfl | rfl | rfl | rfl | rfl | rfl <;> rfl
theorem V3 (f : Nat) : (-1 ≤ Qh f ∧ Qh f ≤ 1) ∧ (-1 ≤ Qi f ∧ Qi f ≤ 1) ∧ (-1 ≤ Qj f ∧ Qj f ≤ 1):=by
 unfold Qh Qi Qj
 repeat' split
 all_goals omega
theorem V4 {u v w : Int} (hb : (!(!(decide (0 ≤ u) && decide (u < 3) && decide (0 ≤ v) && decide (v < 3) && decide (0 ≤ w) && decide (w < 3)))) = true) : (0 ≤ u ∧ u < 3) ∧ (0 ≤ v ∧ v < 3) ∧ 0 ≤ w ∧ w < 3:=by
 simp only[Bool.not_not,Bool.and_eq_true,decide_eq_true_eq] at hb;omega
theorem D0 {b n f : Nat} : (!(decide ((0 : Int) ≤ ((n % 3 : Nat) : Int) + Qh f) && decide (((n % 3 : Nat) : Int) + Qh f < 3) && decide ((0 : Int) ≤ ((n / 3 % 3 : Nat) : Int) + Qi f) && decide (((n / 3 % 3 : Nat) : Int) + Qi f < 3) && decide ((0 : Int) ≤ ((n / 9 : Nat) : Int) + Qj f) && decide (((n / 9 : Nat) : Int) + Qj f < 3)) ||
 decide (((b / 2 ^ (((((n / 9 : Nat) : Int) + Qj f) * 3 + (((n / 3 % 3 : Nat) : Int) + Qi f)) * 3 + (((n % 3 : Nat) : Int) + Qh f)).toNat % 2 : Nat) : Int) = 0)) = sS b n f:=by
 unfold sS uX;simp only
 congr 1
 rw [← decide_not]
 congr 1
 apply propext;constructor <;> intro h <;> omega
theorem L4 {n f : Nat} (h : f < 6) : ∃ t u,(pK (vP n) 8)[2 * f]? = some t ∧ (pK (vP n) 8)[2 * f + 1]? = some u ∧ qO n f = [t,u]:=by
 have h1 : 2 * f < (pK (vP n) 8).length:=by rw [lQ]; omega
 have h2 : 2 * f + 1 < (pK (vP n) 8).length:=by rw [lQ]; omega
 refine ⟨_,_,List.getElem?_eq_getElem h1,List.getElem?_eq_getElem h2,?_⟩;unfold qO;rw [List.drop_eq_getElem_cons h1,List.drop_eq_getElem_cons h2];rfl
theorem Ih {b n f : Nat} {t u : T3} (hp : qO n f = [t,u]) (h : sS b n f = true) : (f9 b n f).flatMap bV ++ [.int .i64 t.a.x,.int .i64 t.a.y,.int .i64 t.a.z,.int .i64 t.b.x,.int .i64 t.b.y,.int .i64 t.b.z,.int .i64 t.c.x,.int .i64 t.c.y,.int .i64 t.c.z,.int .i64 u.a.x,.int .i64 u.a.y,.int .i64 u.a.z,.int .i64 u.b.x,.int .i64 u.b.y,.int .i64 u.b.z,.int .i64 u.c.x,.int .i64 u.c.y,.int .i64 u.c.z] = (f9 b n (f + 1)).flatMap bV:=by
 rw [Ac h,List.flatMap_append,hp];rfl
theorem Gs {b n f : Nat} (hf : f < 6) (h : sS b n f = true) : (f9 b n f).length + 2 = (f9 b n (f + 1)).length:=by
 obtain ⟨t,u,_,_,hp⟩:=L4 (n:=n) hf;rw [Ac h,List.length_append,hp];rfl
def kU (kind bits : Int) (zs : List Int) : List T3:=if kind % 3 = 0 then Lr (bits % 134217728).toNat else wV 10 zs (1 + kind.tdiv 3 % 6).toNat
theorem D1 {z : Int} (h : kW z) : IntKind.i64.wrap (z.tdiv 3) = z.tdiv 3 ∧ kW (z.tdiv 3):=by
 obtain ⟨h1,h2⟩:=h;have hb : -9223372036854775808 ≤ z.tdiv 3 ∧ z.tdiv 3 < 9223372036854775808:=by
  rcases Int.le_total 0 z with hz | hz
  · rw [Int.tdiv_eq_ediv_of_nonneg hz]; omega
  · have e : z.tdiv 3 = -((-z) / 3):=by
     rw [← Int.tdiv_eq_ediv_of_nonneg (show 0 ≤ -z by omega),Int.neg_tdiv,Int.neg_neg]
    rw [e]; omega
 exact ⟨aL hb.1 hb.2,hb⟩
theorem wX {kind bits : Int} {zs : List Int} : ∀ t ∈ kU kind bits zs,Ek 200 t:=by
 unfold kU;split
 · exact Ox
 · exact If (by omega)
end Go.Lith
namespace Go.Lith
open Go.RowKit
def j2 (p q : P3) : P3:=⟨if q.x < p.x then q.x else p.x,if q.y < p.y then q.y else p.y,if q.z < p.z then q.z else p.z⟩
def j3 (p q : P3) : P3:=⟨if p.x < q.x then q.x else p.x,if p.y < q.y then q.y else p.y,if p.z < q.z then q.z else p.z⟩
def uK : List P3 → P3
 | []=>⟨0,0,0⟩
 | p :: ps=>ps.foldl j2 p
def uL : List P3 → P3
 | []=>⟨0,0,0⟩
 | p :: ps=>ps.foldl j3 p
theorem Ii (p : P3) : j2 p p = p:=by simp [j2]
theorem Ij (p : P3) : j3 p p = p:=by simp [j3]
theorem kC {α : Type} {ps : List α} {k : Nat} {p : α} (h : ps[k]? = some p) : ps.take (k + 1) = ps.take k ++ [p]:=by
 rw [List.take_add_one,h];rfl
theorem L5 {ps : List P3} {k : Nat} {p : P3} (hp : ps[k]? = some p) (hk : 0 < k) : uK (ps.take (k + 1)) = j2 (uK (ps.take k)) p:=by
 obtain ⟨j,rfl⟩ : ∃ j,k = j + 1:=⟨k - 1,by omega⟩
 cases ps with
 | nil=>cases hp
 | cons a ps =>
  rw [List.getElem?_cons_succ] at hp;rw [List.take_succ_cons,List.take_succ_cons,kC hp];simp [uK,List.foldl_append]
theorem L6 {ps : List P3} {k : Nat} {p : P3} (hp : ps[k]? = some p) (hk : 0 < k) : uL (ps.take (k + 1)) = j3 (uL (ps.take k)) p:=by
 obtain ⟨j,rfl⟩ : ∃ j,k = j + 1:=⟨k - 1,by omega⟩
 cases ps with
 | nil=>cases hp
 | cons a ps =>
  rw [List.getElem?_cons_succ] at hp;rw [List.take_succ_cons,List.take_succ_cons,kC hp];simp [uL,List.foldl_append]
theorem Oy {ps : List P3} {p : P3} (hp : ps[0]? = some p) : uK (ps.take 1) = j2 p p:=by
 cases ps with
 | nil=>cases hp
 | cons a ps=>cases hp; rw [Ii]; rfl
theorem Oz {ps : List P3} {p : P3} (hp : ps[0]? = some p) : uL (ps.take 1) = j3 p p:=by
 cases ps with
 | nil=>cases hp
 | cons a ps=>cases hp; rw [Ij]; rfl
theorem L7 {ps : List P3} {k : Nat} {p : P3} (hk : k = 0) (hp : ps[k]? = some p) : uK (ps.take (k + 1)) = j2 p p:=by subst hk; exact Oy hp
theorem L8 {ps : List P3} {k : Nat} {p : P3} (hk : k = 0) (hp : ps[k]? = some p) : uL (ps.take (k + 1)) = j3 p p:=by subst hk; exact Oz hp
theorem sT : ∀ (ps : List P3) (p : P3),(∀ a ∈ p :: ps,(ps.foldl j2 p).x ≤ a.x ∧ (ps.foldl j2 p).y ≤ a.y ∧ (ps.foldl j2 p).z ≤ a.z) ∧
 (∃ a ∈ p :: ps,(ps.foldl j2 p).x = a.x) ∧ (∃ a ∈ p :: ps,(ps.foldl j2 p).y = a.y) ∧ ∃ a ∈ p :: ps,(ps.foldl j2 p).z = a.z
 | [],p=>⟨fun a h=>by rw [List.mem_singleton.1 h]; exact ⟨Int.le_refl _,Int.le_refl _,Int.le_refl _⟩,⟨p,by simp,rfl⟩,⟨p,by simp,rfl⟩,⟨p,by simp,rfl⟩⟩
 | q :: ps,p=>by
  obtain ⟨h,⟨ax,hx,ex⟩,⟨ay,hy,ey⟩,⟨az,hz,ez⟩⟩:=sT ps (j2 p q);rw [List.foldl_cons];have hm:=h _ (List.mem_cons_self ..);have m1 : (j2 p q).x ≤ p.x ∧ (j2 p q).x ≤ q.x ∧ ((j2 p q).x = p.x ∨ (j2 p q).x = q.x):=by simp only[j2]; split <;> omega
  have m2 : (j2 p q).y ≤ p.y ∧ (j2 p q).y ≤ q.y ∧ ((j2 p q).y = p.y ∨ (j2 p q).y = q.y):=by simp only[j2]; split <;> omega
  have m3 : (j2 p q).z ≤ p.z ∧ (j2 p q).z ≤ q.z ∧ ((j2 p q).z = p.z ∨ (j2 p q).z = q.z):=by simp only[j2]; split <;> omega
  refine ⟨fun a ha=>?_,?_,?_,?_⟩
  · rcases List.mem_cons.1 ha with rfl | ha
    · omega
    · rcases List.mem_cons.1 ha with rfl | ha
      · omega
      · exact h a (List.mem_cons_of_mem _ ha)
  · rcases List.mem_cons.1 hx with rfl | hx
    · rcases m1.2.2 with e | e
      · exact ⟨p,by simp,by omega⟩
      · exact ⟨q,by simp,by omega⟩
    · exact ⟨ax,by simp [hx],ex⟩
  · rcases List.mem_cons.1 hy with rfl | hy
    · rcases m2.2.2 with e | e
      · exact ⟨p,by simp,by omega⟩
      · exact ⟨q,by simp,by omega⟩
    · exact ⟨ay,by simp [hy],ey⟩
  · rcases List.mem_cons.1 hz with rfl | hz
    · rcases m3.2.2 with e | e
      · exact ⟨p,by simp,by omega⟩
      · exact ⟨q,by simp,by omega⟩
    · exact ⟨az,by simp [hz],ez⟩
theorem sU : ∀ (ps : List P3) (p : P3),(∀ a ∈ p :: ps,a.x ≤ (ps.foldl j3 p).x ∧ a.y ≤ (ps.foldl j3 p).y ∧ a.z ≤ (ps.foldl j3 p).z) ∧
 (∃ a ∈ p :: ps,(ps.foldl j3 p).x = a.x) ∧ (∃ a ∈ p :: ps,(ps.foldl j3 p).y = a.y) ∧ ∃ a ∈ p :: ps,(ps.foldl j3 p).z = a.z
 | [],p=>⟨fun a h=>by rw [List.mem_singleton.1 h]; exact ⟨Int.le_refl _,Int.le_refl _,Int.le_refl _⟩,⟨p,by simp,rfl⟩,⟨p,by simp,rfl⟩,⟨p,by simp,rfl⟩⟩
 | q :: ps,p=>by
  obtain ⟨h,⟨ax,hx,ex⟩,⟨ay,hy,ey⟩,⟨az,hz,ez⟩⟩:=sU ps (j3 p q);rw [List.foldl_cons];have hm:=h _ (List.mem_cons_self ..);have m1 : p.x ≤ (j3 p q).x ∧ q.x ≤ (j3 p q).x ∧ ((j3 p q).x = p.x ∨ (j3 p q).x = q.x):=by simp only[j3]; split <;> omega
  have m2 : p.y ≤ (j3 p q).y ∧ q.y ≤ (j3 p q).y ∧ ((j3 p q).y = p.y ∨ (j3 p q).y = q.y):=by simp only[j3]; split <;> omega
  have m3 : p.z ≤ (j3 p q).z ∧ q.z ≤ (j3 p q).z ∧ ((j3 p q).z = p.z ∨ (j3 p q).z = q.z):=by simp only[j3]; split <;> omega
  refine ⟨fun a ha=>?_,?_,?_,?_⟩
  · rcases List.mem_cons.1 ha with rfl | ha
    · omega
    · rcases List.mem_cons.1 ha with rfl | ha
      · omega
      · exact h a (List.mem_cons_of_mem _ ha)
  · rcases List.mem_cons.1 hx with rfl | hx
    · rcases m1.2.2 with e | e
      · exact ⟨p,by simp,by omega⟩
      · exact ⟨q,by simp,by omega⟩
    · exact ⟨ax,by simp [hx],ex⟩
  · rcases List.mem_cons.1 hy with rfl | hy
    · rcases m2.2.2 with e | e
      · exact ⟨p,by simp,by omega⟩
      · exact ⟨q,by simp,by omega⟩
    · exact ⟨ay,by simp [hy],ey⟩
  · rcases List.mem_cons.1 hz with rfl | hz
    · rcases m3.2.2 with e | e
      · exact ⟨p,by simp,by omega⟩
      · exact ⟨q,by simp,by omega⟩
    · exact ⟨az,by simp [hz],ez⟩
theorem Ce {ps qs : List P3} (h : ∀ a,a ∈ ps ↔ a ∈ qs) : uK ps = uK qs:=by
 cases ps with
 | nil=>cases qs with
  | nil=>rfl
  | cons q qs=>have:=(h q).2 (List.mem_cons_self ..); cases this
 | cons p ps=>cases qs with
  | nil=>have:=(h p).1 (List.mem_cons_self ..); cases this
  | cons q qs =>
   obtain ⟨h1,⟨a,ha,ea⟩,⟨b,hb,eb⟩,⟨c,hc,ec⟩⟩:=sT ps p;obtain ⟨k1,⟨a',ha',ea'⟩,⟨b',hb',eb'⟩,⟨c',hc',ec'⟩⟩:=sT qs q;have x1:=h1 a' ((h a').2 ha'); have y1:=h1 b' ((h b').2 hb'); have z1:=h1 c' ((h c').2 hc');have x2:=k1 a ((h a).1 ha); have y2:=k1 b ((h b).1 hb); have z2:=k1 c ((h c).1 hc);apply P3.eq <;> simp only[uK] <;> omega
theorem Cf {ps qs : List P3} (h : ∀ a,a ∈ ps ↔ a ∈ qs) : uL ps = uL qs:=by
 cases ps with
 | nil=>cases qs with
  | nil=>rfl
  | cons q qs=>have:=(h q).2 (List.mem_cons_self ..); cases this
 | cons p ps=>cases qs with
  | nil=>have:=(h p).1 (List.mem_cons_self ..); cases this
  | cons q qs =>
   obtain ⟨h1,⟨a,ha,ea⟩,⟨b,hb,eb⟩,⟨c,hc,ec⟩⟩:=sU ps p;obtain ⟨k1,⟨a',ha',ea'⟩,⟨b',hb',eb'⟩,⟨c',hc',ec'⟩⟩:=sU qs q;have x1:=h1 a' ((h a').2 ha'); have y1:=h1 b' ((h b').2 hb'); have z1:=h1 c' ((h c').2 hc');have x2:=k1 a ((h a).1 ha); have y2:=k1 b ((h b).1 hb); have z2:=k1 c ((h c).1 hc);apply P3.eq <;> simp only[uL] <;> omega
theorem Fo {ts : List T3} {k : Nat} {t : T3} (h : ts[k]? = some t) : jF (ts.take (k + 1)) = jF (ts.take k) ++ [t.a,t.b,t.c]:=by
 unfold jF;rw [kC h,List.flatMap_append];simp
theorem Fp {ts : List T3} {k : Nat} {t : T3} (h : ts[k]? = some t) : pI [] (jF (ts.take (k + 1))) = kS (kS (kS (pI [] (jF (ts.take k))) t.a true) t.b true) t.c true:=by
 rw [Fo h,Ib];rfl
theorem Cg (ts : List T3) : (jF ts).length = ts.length * 3:=by
 unfold jF
 induction ts with
 | nil=>rfl
 | cons t ts ih=>rw [List.flatMap_cons,List.length_append,ih]; simp only[List.length_cons,List.length_nil]; omega
theorem wY : ∀ (ps : List P3) (i : Nat) (p : P3),ps[i]? = some p → (ps.flatMap gC).drop (i * 3) = gC p ++ (ps.drop (i + 1)).flatMap gC
 | [],_,_,h=>by cases h
 | q :: ps,0,p,h=>by cases h; simp
 | q :: ps,i + 1,p,h=>by
  rw [List.flatMap_cons,List.drop_append,show (gC q).length = 3 from rfl,List.drop_eq_nil_of_le (show (gC q).length ≤ (i + 1) * 3 from by show 3 ≤ _; omega),List.nil_append,show (i + 1) * 3 - 3 = i * 3 by omega,wY ps i p h];rfl
theorem Ow.pt {w0 w : World} {S : List (Option Nat)} {E : TypeId} {n cap g i : Nat} {ps : List P3} {p : P3} (h : Ow w0 w S E 3 (Option.some ⟨g,0,none⟩) n cap (ps.flatMap gC)) (hp : ps[i]? = Option.some p) : pS w ((⟨g,0,none⟩ : Addr).add (i * 3)) [.int .i64 p.x,.int .i64 p.y,.int .i64 p.z]:=by
 show pS w _ (gC p)
 intro j u hj;have hj' : j < (gC p).length:=(List.getElem?_eq_some_iff.1 hj).1;rw [fP];refine h.rows _ _ ?_;rw [← List.getElem?_drop,wY ps i p hp,List.getElem?_append_left hj'];exact hj
theorem Ow.max {w0 w : World} {S : List (Option Nat)} {E : TypeId} {c n cap : Nat} {A : Option Addr} {xs : List Value} (h : Ow w0 w S E c A n cap xs) : cap ≤ 9223372036854775807:=by
 rcases h.cases with ⟨_,_,rfl,_⟩ | ⟨_,_,_,_,_,_,h,_⟩
 · exact Nat.zero_le _
 · exact h
theorem Sx {ps : List P3} : (ps.flatMap gC).length = ps.length * 3:=by
 induction ps with
 | nil=>rfl
 | cons p ps ih=>rw [List.flatMap_cons,List.length_append,ih,show (gC p).length = 3 from rfl,List.length_cons]; omega
end Go.Lith
namespace Go.Lith
open Go.RowKit
def Ch (r : e8) (n f d : Int) : Rat:=if d < 0 then Rat.divInt f (r.w * d) else Rat.divInt n (r.w * d)
def Ci (r : e8) (n f d : Int) : Rat:=if d < 0 then Rat.divInt n (r.w * d) else Rat.divInt f (r.w * d)
def iY (n f d : Int) : Prop:=f < n ∨ d = 0 ∧ (0 < n ∨ f < 0)
instance (n f d : Int) : Decidable (iY n f d):=inferInstanceAs (Decidable (_ ∨ _ ∧ (_ ∨ _)))
def yB (p q : Rat) : Rat:=if p < q then q else p
def oT (o : Option Rat) (q : Rat) : Rat:=match o with | none=>q | some p=>if q < p then q else p
def L9 (r : e8) (n f d : Int) (st : Rat × Option Rat) : Option (Rat × Option Rat) :=
 if iY n f d then none else if d = 0 then some st
 else some (yB st.1 (Ch r n f d),some (oT st.2 (Ci r n f d)))
def P3.at (p : P3) : Nat → Int
 | 0=>p.x
 | 1=>p.y
 | _=>p.z
def uM (r : e8) (lo hi : P3) : Nat → Option (Rat × Option Rat)
 | 0=>some (0,none)
 | k + 1=>(uM r lo hi k).bind (L9 r ((r.to lo).at k) ((r.to hi).at k) (r.d.at k))
def mL (r : e8) (lo hi : P3) : Option (Rat × Rat) :=
 if r.ok then (uM r lo hi 3).bind fun s=>match s.2 with | none=>none | some q=>if q < s.1 then none else some (s.1,q) else none
inductive Kd where
 | no
 | ex
 | unk
 | near (lo hi : P3)
def sV (lo hi : P3) (b : Int) : Prop :=
 -9223372036854775808 + b ≤ min (min lo.x lo.y) lo.z ∧ max (max hi.x hi.y) hi.z ≤ 9223372036854775807 - b
instance (lo hi : P3) (b : Int) : Decidable (sV lo hi b):=inferInstanceAs (Decidable (_ ∧ _))
def P3.all (b : Int) : P3:=⟨b,b,b⟩
def P3.pls (p q : P3) : P3:=⟨p.x + q.x,p.y + q.y,p.z + q.z⟩
def fN (ts : List T3) : List P3:=ts.flatMap fun t=>[t.a,t.b,t.c]
def tF (ts : List T3) (b : Int) : Kd :=
 if b < 0 then .unk else if b = 0 then .ex else if ts = [] then .no
 else if sV (uK (fN ts)) (uL (fN ts)) b then .near ((uK (fN ts)).sub (P3.all b)) ((uL (fN ts)).pls (P3.all b)) else .unk
def eB (bs : List Int) (i : Nat) : Int:=(bs[i]?).getD (-1)
def gR (r : e8) : Kd → Option Rat
 | .unk=>some 0
 | .near lo hi=>(mL r lo hi).map (·.1)
 | _=>none
def Kd.isEx : Kd → Bool
 | .ex=>true
 | _=>false
def bP (bs : List Int) (ls : List (List T3)) : List T3:=ls.zipIdx.flatMap fun x=>if (tF x.1 (eB bs x.2)).isEx then x.1 else []
def Kd.other : Kd → Bool
 | .ex=>false
 | .no=>false
 | _=>true
def bX (bs : List Int) (ls : List (List T3)) : List (Nat × Kd):=ls.zipIdx.flatMap fun x=>if (tF x.1 (eB bs x.2)).other then [(x.2,tF x.1 (eB bs x.2))] else []
def mE (r : e8) (h : Option (Rat × Nat)) (x : Nat × Kd) : List (Nat × Rat) :=
 match gR r x.2 with
 | none=>[]
 | some q=>match h with
  | none=>[(x.1,q)]
  | some (t,_)=>if q < t then [(x.1,q)] else []
def dC (r : e8) (h : Option (Rat × Nat)) (xs : List (Nat × Kd)) : List (Nat × Rat):=xs.flatMap (mE r h)
def qB : List (Nat × Rat) → Rat
 | []=>0
 | x :: xs=>xs.foldl (fun a y=>if y.2 < a then y.2 else a) x.2
structure kD where
 kind : Int
 lo : Rat
 hi : Rat
 sure : Bool
 opn : List Int
def kD.miss : kD:=⟨2,0,0,false,[]⟩
def sW (h : Option (Rat × Nat)) (o : List (Nat × Rat)) : kD :=
 if o ≠ [] then ⟨3,qB o,lO h,h.isSome,o.map fun x=>(x.1 : Int)⟩
 else match h with
  | none=>.miss
  | some (t,_)=>⟨1,t,t,false,[]⟩
def cL (r : e8) (ls : List (List T3)) (bs : List Int) : kD :=
 if r.ok then sW (bB r (bP bs ls)) (dC r (bB r (bP bs ls)) (bX bs ls)) else .miss
theorem D2 {α β : Type} {ls : List α} {k : Nat} {l : α} (f : α × Nat → List β) (h : ls[k]? = some l) : (ls.take (k + 1)).zipIdx.flatMap f = (ls.take k).zipIdx.flatMap f ++ f (l,k):=by
 have hk : k < ls.length:=(List.getElem?_eq_some_iff.1 h).1;rw [List.take_add_one,h,List.zipIdx_append,List.flatMap_append,List.length_take,Nat.min_eq_left (Nat.le_of_lt hk)];simp
theorem p6 {bs : List Int} {ls : List (List T3)} {k : Nat} {l : List T3} (h : ls[k]? = some l) : bP bs (ls.take (k + 1)) = bP bs (ls.take k) ++ if (tF l (eB bs k)).isEx then l else []:=D2 _ h
theorem lX {bs : List Int} {ls : List (List T3)} {k : Nat} {l : List T3} (h : ls[k]? = some l) : bX bs (ls.take (k + 1)) = bX bs (ls.take k) ++ if (tF l (eB bs k)).other then [(k,tF l (eB bs k))] else []:=D2 _ h
theorem p7 {r : e8} {h : Option (Rat × Nat)} {xs : List (Nat × Kd)} {k : Nat} {x : Nat × Kd} (hx : xs[k]? = some x) : dC r h (xs.take (k + 1)) = dC r h (xs.take k) ++ mE r h x:=by
 unfold dC;rw [List.take_add_one,hx,List.flatMap_append];simp
theorem sX {xs : List (Nat × Rat)} {x : Nat × Rat} (h : xs ≠ []) : qB (xs ++ [x]) = if x.2 < qB xs then x.2 else qB xs:=by
 cases xs with
 | nil=>exact absurd rfl h
 | cons y ys =>
  simp only[qB,List.cons_append,List.foldl_append,List.foldl_cons,List.foldl_nil];rfl
end Go.Lith
namespace Go.Lith
open Go.RowKit
theorem Gt {a b c d : Int} (hb : 0 < b) (hd : 0 < d) : Rat.divInt a b ≤ Rat.divInt c d ↔ a * d ≤ c * b:=by
 rw [Rat.le_iff_sub_nonneg,Rat.divInt_sub_divInt _ _ (by omega) (by omega),Rat.divInt_nonneg_iff_of_pos_right (Int.mul_pos hd hb)];omega
def Gu (r : e8) (ts : List T3) (b : Option (Rat × Nat)) : Prop :=
 (b = none → ∀ t ∈ ts,¬ gE r t) ∧ ∀ q k,b = some (q,k) → (∃ t,ts[k]? = some t ∧ gE r t ∧ eL r t = q) ∧ ∀ t ∈ ts,gE r t → q ≤ eL r t
theorem wZ (r : e8) (ts : List T3) : Gu r ts (bB r ts):=by
 have H : ∀ k,k ≤ ts.length → Gu r (ts.take k) (bB r (ts.take k)):=by
  intro k
  induction k with
  | zero=>exact fun _=>⟨fun _ t h=>by simp at h,fun q k h=>by simp [bB] at h⟩
  | succ k ih =>
   intro hk;have ih:=ih (by omega);obtain ⟨t,ht⟩ : ∃ t,ts[k]? = some t:=⟨_,List.getElem?_eq_getElem (by omega)⟩
   have ht' : ts.take (k + 1) = ts.take k ++ [t]:=kC ht;have hat : (ts.take (k + 1))[k]? = some t:=by rw [List.getElem?_take_of_lt (by omega)]; exact ht
   have up : ∀ {j u},(ts.take k)[j]? = some u → (ts.take (k + 1))[j]? = some u:=fun h=>by
    rw [ht',List.getElem?_append_left (List.getElem?_eq_some_iff.1 h).1]; exact h
   rw [mC ht];unfold wR;by_cases hh : gE r t
   · rw [if_pos hh]
     cases hb : bB r (ts.take k) with
     | none =>
      refine ⟨fun h=>(by cases h),fun q j h=>?_⟩;cases h;refine ⟨⟨t,hat,hh,rfl⟩,fun u hu hu'=>?_⟩;rw [ht'] at hu;rcases List.mem_append.1 hu with hu | hu
      · exact absurd hu' (ih.1 hb u hu)
      · rw [List.mem_singleton.1 hu]; exact Rat.le_refl
     | some x =>
      obtain ⟨q,j⟩:=x;obtain ⟨⟨v,hv,hv1,hv2⟩,hl⟩:=ih.2 q j hb;dsimp only;by_cases hq : eL r t < q
      · rw [if_pos hq]
        refine ⟨fun h=>(by cases h),fun q' j' h=>?_⟩;cases h;refine ⟨⟨t,hat,hh,rfl⟩,fun u hu hu'=>?_⟩;rw [ht'] at hu;rcases List.mem_append.1 hu with hu | hu
        · exact Rat.le_trans (Rat.le_of_lt hq) (hl u hu hu')
        · rw [List.mem_singleton.1 hu]; exact Rat.le_refl
      · rw [if_neg hq]
        refine ⟨fun h=>(by cases h),fun q' j' h=>?_⟩;cases h;refine ⟨⟨v,up hv,hv1,hv2⟩,fun u hu hu'=>?_⟩;rw [ht'] at hu;rcases List.mem_append.1 hu with hu | hu
        · exact hl u hu hu'
        · rw [List.mem_singleton.1 hu]; exact Rat.not_lt.1 hq
   · rw [if_neg hh]
     refine ⟨fun h u hu hu'=>?_,fun q j h=>?_⟩
     · rw [ht'] at hu
       rcases List.mem_append.1 hu with hu | hu
       · exact ih.1 h u hu hu'
       · rw [List.mem_singleton.1 hu] at hu'; exact hh hu'
     · obtain ⟨⟨v,hv,hv1,hv2⟩,hl⟩:=ih.2 q j h
       refine ⟨⟨v,up hv,hv1,hv2⟩,fun u hu hu'=>?_⟩;rw [ht'] at hu;rcases List.mem_append.1 hu with hu | hu
       · exact hl u hu hu'
       · rw [List.mem_singleton.1 hu] at hu'; exact absurd hu' hh
 have h:=H ts.length (Nat.le_refl _);rwa [List.take_length] at h
theorem tQ {r : e8} {ts : List T3} {t : T3} (ht : t ∈ ts) (h : gE r t) : ∃ q k,bB r ts = some (q,k) ∧ q ≤ eL r t:=by
 cases hb : bB r ts with
 | none=>exact absurd h ((wZ r ts).1 hb t ht)
 | some x=>exact ⟨x.1,x.2,rfl,((wZ r ts).2 x.1 x.2 hb).2 t ht h⟩
theorem pL {r : e8} {ts : List T3} {q : Rat} {k : Nat} (h : bB r ts = some (q,k)) : ∃ t ∈ ts,gE r t ∧ eL r t = q:=by
 obtain ⟨⟨t,ht,h1,h2⟩,_⟩:=(wZ r ts).2 q k h;exact ⟨t,List.mem_of_getElem? ht,h1,h2⟩
theorem Af {r : e8} {ts us : List T3} (hs : ∀ t ∈ ts,t ∈ us) {q : Rat} {k : Nat} (h : bB r ts = some (q,k)) : ∃ q' k',bB r us = some (q',k') ∧ q' ≤ q:=by
 obtain ⟨t,ht,h1,h2⟩:=pL h;rw [← h2];exact tQ (hs t ht) h1
theorem sY {n : Int} {v : P3} (h : kR n v = 1) : 0 ≤ n:=by
 unfold kR at h;split at h
 · exact Dq.1 (by omega)
 · rename_i h'
   have:=fZ.1 (Decidable.not_not.1 h');omega
theorem sZ {n : Int} {v : P3} (h : kR n v = -1) : n ≤ 0:=by
 unfold kR at h;split at h
 · have:=jD (n:=n); have:=Int.not_lt.1 (fun k=>by have:=this.2 k; omega); exact this
 · rename_i h'
   have:=fZ.1 (Decidable.not_not.1 h');omega
theorem O0 (n : Int) : dL n = 1 ∨ dL n = 0 ∨ dL n = -1:=by
 unfold dL;split
 · omega
 · split <;> omega
theorem Sy (n : Int) (v : P3) : kR n v = 1 ∨ kR n v = 0 ∨ kR n v = -1:=by
 unfold kR
 repeat' split
 all_goals first | exact O0 _ | exact .inr (.inl rfl)
theorem Sz (d a b c : P3) : d.dot (b.cross c) * a.x + d.dot (c.cross a) * b.x + d.dot (a.cross b) * c.x = a.dot (b.cross c) * d.x ∧
 d.dot (b.cross c) * a.y + d.dot (c.cross a) * b.y + d.dot (a.cross b) * c.y = a.dot (b.cross c) * d.y ∧
 d.dot (b.cross c) * a.z + d.dot (c.cross a) * b.z + d.dot (a.cross b) * c.z = a.dot (b.cross c) * d.z:=by
 simp only[P3.dot,P3.cross];refine ⟨?_,?_,?_⟩ <;> grind
theorem O1 (r : e8) (t : T3) : r.d.dot ((r.to t.b).cross (r.to t.c)) + r.d.dot ((r.to t.c).cross (r.to t.a)) + r.d.dot ((r.to t.a).cross (r.to t.b)) = r.w * r.w * jT r t:=by
 simp only[jT,T3.normal,e8.to,P3.scl,P3.dot,P3.cross,P3.sub]
 grind
theorem O2 (r : e8) (t : T3) : (r.to t.a).dot ((r.to t.b).cross (r.to t.c)) = r.w * r.w * lN r t:=by
 simp only[lN,T3.normal,e8.to,P3.scl,P3.dot,P3.cross,P3.sub]
 grind
theorem oL {α β γ a b c n w S H d : Int} (hα : 0 ≤ α) (hβ : 0 ≤ β) (hγ : 0 ≤ γ) (ha : n ≤ a) (hb : n ≤ b) (hc : n ≤ c) (hw : 0 < w) (hS : α + β + γ = w * w * S) (hH : α * a + β * b + γ * c = w * w * H * d) : n * S ≤ H * d:=by
 have h1:=Int.mul_le_mul_of_nonneg_left ha hα;have h2:=Int.mul_le_mul_of_nonneg_left hb hβ;have h3:=Int.mul_le_mul_of_nonneg_left hc hγ;have h4 : (w * w) * (n * S) ≤ (w * w) * (H * d):=by
  have e : (w * w) * (n * S) = α * n + β * n + γ * n:=by
   rw [← Int.add_mul,← Int.add_mul,hS]; grind
  rw [e,← Int.mul_assoc,← hH];omega
 exact Int.le_of_mul_le_mul_left h4 (Int.mul_pos hw hw)
theorem p8 {α β γ a b c n w S H d : Int} (hα : 0 ≤ α) (hβ : 0 ≤ β) (hγ : 0 ≤ γ) (ha : a ≤ n) (hb : b ≤ n) (hc : c ≤ n) (hw : 0 < w) (hS : α + β + γ = w * w * S) (hH : α * a + β * b + γ * c = w * w * H * d) : H * d ≤ n * S:=by
 have h:=oL (a:=-a) (b:=-b) (c:=-c) (n:=-n) (d:=-d) hα hβ hγ (by omega) (by omega) (by omega) hw hS (by rw [Int.mul_neg,Int.mul_neg,Int.mul_neg,Int.mul_neg,← hH]; omega);rw [Int.neg_mul,Int.mul_neg] at h;omega
def P3.le (p q : P3) : Prop:=p.x ≤ q.x ∧ p.y ≤ q.y ∧ p.z ≤ q.z
theorem fO {r : e8} {p q : P3} (hw : 0 < r.w) (h : p.le q) (k : Nat) : (r.to p).at k ≤ (r.to q).at k:=by
 have m : ∀ {a b : Int},a ≤ b → a * r.w ≤ b * r.w:=fun hab=>Int.mul_le_mul_of_nonneg_right hab (by omega);have hx:=m h.1;have hy:=m h.2.1;have hz:=m h.2.2
 match k with
 | 0=>show p.x * r.w - r.s.x ≤ q.x * r.w - r.s.x; omega
 | 1=>show p.y * r.w - r.s.y ≤ q.y * r.w - r.s.y; omega
 | k + 2=>show p.z * r.w - r.s.z ≤ q.z * r.w - r.s.z; omega
theorem Ma {r : e8} {t : T3} (h : gE r t) : ∃ S H : Int,0 < S ∧ 0 ≤ H ∧ eL r t = Rat.divInt H (r.w * S) ∧
 ∀ lo hi : P3,lo.le t.a → lo.le t.b → lo.le t.c → t.a.le hi → t.b.le hi → t.c.le hi → ∀ k,(r.to lo).at k * S ≤ H * r.d.at k ∧ H * r.d.at k ≤ (r.to hi).at k * S:=by
 obtain ⟨hok,hf,⟨hp0,hp1,hp2⟩,hs⟩:=id h;have hne:=wQ hf hs;have hw:=hok.1;have hsum:=O1 r t;have hvol:=O2 r t;obtain ⟨cx,cy,cz⟩:=Sz r.d (r.to t.a) (r.to t.b) (r.to t.c);rw [hvol] at cx cy cz;unfold oQ at hp0 hp1 hp2;rw [eL,if_pos h];have hww : 0 < r.w * r.w:=Int.mul_pos hw hw;rcases Sy (r.d.dot ((r.to t.a).cross (r.to t.b))) (r.d.cross ((r.to t.b).sub (r.to t.a))) with e | e | e
 · rw [e] at hp1 hp2
   have g0:=sY e;have g1:=sY hp1;have g2:=sY hp2;have hS : 0 < jT r t:=by
    have : 0 ≤ r.w * r.w * jT r t:=by omega
    have:=Int.nonneg_of_mul_nonneg_right this hww;omega
   have hH : 0 ≤ lN r t:=sY (hs.trans (lV hS));refine ⟨jT r t,lN r t,hS,hH,rfl,fun lo hi a1 a2 a3 b1 b2 b3 k=>?_⟩
   match k with
   | 0=>exact ⟨oL g1 g2 g0 (fO hw a1 0) (fO hw a2 0) (fO hw a3 0) hw hsum cx,p8 g1 g2 g0 (fO hw b1 0) (fO hw b2 0) (fO hw b3 0) hw hsum cx⟩
   | 1=>exact ⟨oL g1 g2 g0 (fO hw a1 1) (fO hw a2 1) (fO hw a3 1) hw hsum cy,p8 g1 g2 g0 (fO hw b1 1) (fO hw b2 1) (fO hw b3 1) hw hsum cy⟩
   | k + 2=>exact ⟨oL g1 g2 g0 (fO hw a1 2) (fO hw a2 2) (fO hw a3 2) hw hsum cz,p8 g1 g2 g0 (fO hw b1 2) (fO hw b2 2) (fO hw b3 2) hw hsum cz⟩
 · exact absurd e hp0
 · rw [e] at hp1 hp2
   have g0:=sZ e;have g1:=sZ hp1;have g2:=sZ hp2;have hS : jT r t < 0:=by
    have h0 : 0 ≤ r.w * r.w * -jT r t:=by rw [Int.mul_neg]; omega
    have:=Int.nonneg_of_mul_nonneg_right h0 hww;omega
   have hH : lN r t ≤ 0:=sZ (hs.trans (lU hS));have hsum' : -(r.d.dot ((r.to t.b).cross (r.to t.c))) + -(r.d.dot ((r.to t.c).cross (r.to t.a))) + -(r.d.dot ((r.to t.a).cross (r.to t.b))) = r.w * r.w * -jT r t:=by rw [Int.mul_neg,← hsum]; omega
   have neg : ∀ {α β γ a b c d : Int},α * a + β * b + γ * c = r.w * r.w * lN r t * d → -α * a + -β * b + -γ * c = r.w * r.w * -lN r t * d:=fun e=>by
    rw [Int.neg_mul,Int.neg_mul,Int.neg_mul,Int.mul_neg,Int.neg_mul,← e]; omega
   have cx:=neg cx;have cy:=neg cy;have cz:=neg cz;refine ⟨-jT r t,-lN r t,by omega,by omega,?_,fun lo hi a1 a2 a3 b1 b2 b3 k=>?_⟩
   · rw [Int.mul_neg,Rat.neg_divInt_neg]
   have g0' : 0 ≤ -(r.d.dot ((r.to t.a).cross (r.to t.b))):=by omega
   have g1' : 0 ≤ -(r.d.dot ((r.to t.b).cross (r.to t.c))):=by omega
   have g2' : 0 ≤ -(r.d.dot ((r.to t.c).cross (r.to t.a))):=by omega
   match k with
   | 0=>exact ⟨oL g1' g2' g0' (fO hw a1 0) (fO hw a2 0) (fO hw a3 0) hw hsum' cx,p8 g1' g2' g0' (fO hw b1 0) (fO hw b2 0) (fO hw b3 0) hw hsum' cx⟩
   | 1=>exact ⟨oL g1' g2' g0' (fO hw a1 1) (fO hw a2 1) (fO hw a3 1) hw hsum' cy,p8 g1' g2' g0' (fO hw b1 1) (fO hw b2 1) (fO hw b3 1) hw hsum' cy⟩
   | k + 2=>exact ⟨oL g1' g2' g0' (fO hw a1 2) (fO hw a2 2) (fO hw a3 2) hw hsum' cz,p8 g1' g2' g0' (fO hw b1 2) (fO hw b2 2) (fO hw b3 2) hw hsum' cz⟩
theorem Fq {r : e8} {n f d S H : Int} {st : Rat × Option Rat} (hw : 0 < r.w) (hS : 0 < S) (h1 : n * S ≤ H * d) (h2 : H * d ≤ f * S) (hi : st.1 ≤ Rat.divInt H (r.w * S)) (ho : ∀ q,st.2 = some q → Rat.divInt H (r.w * S) ≤ q) :
 ∃ st',L9 r n f d st = some st' ∧ st'.1 ≤ Rat.divInt H (r.w * S) ∧ (∀ q,st'.2 = some q → Rat.divInt H (r.w * S) ≤ q) ∧ (st.2.isSome = true → st'.2.isSome = true) ∧ (d ≠ 0 → st'.2.isSome = true):=by
 have hnf : n ≤ f:=Int.le_of_mul_le_mul_right (Int.le_trans h1 h2) hS;have hwS:=Int.mul_pos hw hS;unfold L9;by_cases hd : d = 0
 · subst hd
   rw [Int.mul_zero] at h1 h2;have hn : n ≤ 0:=Int.not_lt.1 fun k=>by have:=Int.mul_pos k hS; omega
   have hf : 0 ≤ f:=Int.not_lt.1 fun k=>by have:=Int.mul_pos (show 0 < -f by omega) hS; rw [Int.neg_mul] at this; omega
   rw [if_neg (by unfold iY; omega),if_pos rfl];exact ⟨st,rfl,hi,ho,id,fun k=>absurd rfl k⟩
 · rw [if_neg (by unfold iY; omega),if_neg hd]
   have hin : Ch r n f d ≤ Rat.divInt H (r.w * S):=by
    unfold Ch;by_cases h0 : d < 0
    · rw [if_pos h0,show r.w * d = -(r.w * -d) by rw [Int.mul_neg,Int.neg_neg],Rat.divInt_neg',Gt (Int.mul_pos hw (by omega)) hwS]
      have:=Int.mul_le_mul_of_nonneg_left h2 (show 0 ≤ r.w by omega)
      grind
    · rw [if_neg h0,Gt (Int.mul_pos hw (by omega)) hwS]
      have:=Int.mul_le_mul_of_nonneg_left h1 (show 0 ≤ r.w by omega)
      grind
   have hout : Rat.divInt H (r.w * S) ≤ Ci r n f d:=by
    unfold Ci;by_cases h0 : d < 0
    · rw [if_pos h0,show r.w * d = -(r.w * -d) by rw [Int.mul_neg,Int.neg_neg],Rat.divInt_neg',Gt hwS (Int.mul_pos hw (by omega))]
      have:=Int.mul_le_mul_of_nonneg_left h1 (show 0 ≤ r.w by omega)
      grind
    · rw [if_neg h0,Gt hwS (Int.mul_pos hw (by omega))]
      have:=Int.mul_le_mul_of_nonneg_left h2 (show 0 ≤ r.w by omega)
      grind
   refine ⟨_,rfl,?_,fun q hq=>?_,fun _=>rfl,fun _=>rfl⟩
   · show yB _ _ ≤ _
     unfold yB;split
     · exact hin
     · exact hi
   · cases hq
     show _ ≤ oT _ _
     unfold oT;split
     · exact hout
     · split
       · exact hout
       · exact ho _ (by assumption)
theorem O3 {r : e8} {t : T3} {lo hi : P3} (h : gE r t) (a1 : lo.le t.a) (a2 : lo.le t.b) (a3 : lo.le t.c) (b1 : t.a.le hi) (b2 : t.b.le hi) (b3 : t.c.le hi) :
 ∃ q p,mL r lo hi = some (q,p) ∧ q ≤ eL r t:=by
 obtain ⟨S,H,hS,hH,hc,hax⟩:=Ma h;have hok:=h.1;have hw:=hok.1;have hax:=hax lo hi a1 a2 a3 b1 b2 b3;rw [hc];have h0 : (0 : Rat) ≤ Rat.divInt H (r.w * S):=Rat.divInt_nonneg hH (Int.le_of_lt (Int.mul_pos hw hS));obtain ⟨s1,e1,i1,o1,m1,n1⟩:=Fq (st:=(0,none)) hw hS (hax 0).1 (hax 0).2 h0 (fun q h=>by cases h);obtain ⟨s2,e2,i2,o2,m2,n2⟩:=Fq (st:=s1) hw hS (hax 1).1 (hax 1).2 i1 o1;obtain ⟨s3,e3,i3,o3,m3,n3⟩:=Fq (st:=s2) hw hS (hax 2).1 (hax 2).2 i2 o2;have hsome : s3.2.isSome = true:=by
  by_cases hx : r.d.x = 0
  · by_cases hy : r.d.y = 0
    · exact n3 fun hz=>hok.2 ⟨hx,hy,hz⟩
    · exact m3 (n2 hy)
  · exact m3 (m2 (n1 hx))
 obtain ⟨q,hq⟩:=Option.isSome_iff_exists.1 hsome;refine ⟨s3.1,q,?_,i3⟩;rw [mL,if_pos hok];simp only[uM,Option.bind_some,e1,e2,e3,hq];rw [if_neg (Rat.not_lt.2 (Rat.le_trans i3 (o3 q hq)))]
end Go.Lith
namespace Go.Lith
open Go.RowKit
theorem Ql {l : List T3} {b : Int} : (tF l b).isEx = true ↔ b = 0:=by
 unfold tF
 repeat' split
 all_goals (simp only[Kd.isEx]; constructor <;> intro h <;> first | omega | (cases h; done) | rfl | trivial)
theorem mF {bs : List Int} {ls : List (List T3)} {t : T3} : t ∈ bP bs ls ↔ ∃ i l,ls[i]? = some l ∧ eB bs i = 0 ∧ t ∈ l:=by
 unfold bP;rw [List.mem_flatMap];constructor
 · rintro ⟨⟨l,i⟩,hx,ht⟩
   split at ht
   · rename_i hk
     exact ⟨i,l,List.mk_mem_zipIdx_iff_getElem?.1 hx,Ql.1 hk,ht⟩
   · cases ht
 · rintro ⟨i,l,hl,hb,ht⟩
   refine ⟨(l,i),List.mk_mem_zipIdx_iff_getElem?.2 hl,?_⟩;rw [if_pos (Ql.2 hb)];exact ht
theorem jH {bs : List Int} {ls : List (List T3)} {i : Nat} {kd : Kd} : (i,kd) ∈ bX bs ls ↔ ∃ l,ls[i]? = some l ∧ kd = tF l (eB bs i) ∧ kd.other = true:=by
 unfold bX;rw [List.mem_flatMap];constructor
 · rintro ⟨⟨l,j⟩,hx,ht⟩
   split at ht
   · rename_i hk
     obtain ⟨e1,e2⟩:=Prod.mk.inj (List.mem_singleton.1 ht);subst e1;exact ⟨l,List.mk_mem_zipIdx_iff_getElem?.1 hx,e2,by rw [e2]; exact hk⟩
   · cases ht
 · rintro ⟨l,hl,hb,ht⟩
   refine ⟨(l,i),List.mk_mem_zipIdx_iff_getElem?.2 hl,?_⟩;rw [if_pos (by rw [← hb]; exact ht),← hb];exact List.mem_singleton.2 rfl
theorem jI {r : e8} {h : Option (Rat × Nat)} {xs : List (Nat × Kd)} {i : Nat} {q : Rat} : (i,q) ∈ dC r h xs ↔ ∃ kd,(i,kd) ∈ xs ∧ gR r kd = some q ∧ ∀ t k,h = some (t,k) → q < t:=by
 unfold dC;rw [List.mem_flatMap];constructor
 · rintro ⟨⟨j,kd⟩,hx,ht⟩
   unfold mE at ht;cases hb : gR r kd with
   | none=>simp [hb] at ht
   | some p =>
    simp only[hb] at ht;cases h with
    | none =>
     obtain ⟨e1,e2⟩:=Prod.mk.inj (List.mem_singleton.1 ht);subst e1 e2;exact ⟨kd,hx,hb,fun t k e=>by cases e⟩
    | some y =>
     obtain ⟨y1,y2⟩:=y;simp only at ht;split at ht
     · rename_i hlt
       obtain ⟨e1,e2⟩:=Prod.mk.inj (List.mem_singleton.1 ht);subst e1 e2;exact ⟨kd,hx,hb,fun t k e=>by cases e; exact hlt⟩
     · cases ht
 · rintro ⟨kd,hx,hb,hq⟩
   refine ⟨(i,kd),hx,?_⟩;unfold mE;simp only[hb];cases h with
   | none=>exact List.mem_singleton.2 rfl
   | some y=>simp only[if_pos (hq y.1 y.2 rfl)]; exact List.mem_singleton.2 rfl
theorem s4 : ∀ (xs : List (Nat × Rat)) (a : Rat),xs.foldl (fun a y=>if y.2 < a then y.2 else a) a ≤ a ∧ (∀ x ∈ xs,xs.foldl (fun a y=>if y.2 < a then y.2 else a) a ≤ x.2) ∧
 (xs.foldl (fun a y=>if y.2 < a then y.2 else a) a = a ∨ ∃ x ∈ xs,xs.foldl (fun a y=>if y.2 < a then y.2 else a) a = x.2)
 | [],a=>⟨Rat.le_refl,fun x h=>(by cases h),.inl rfl⟩
 | y :: ys,a=>by
  rw [List.foldl_cons];obtain ⟨h1,h2,h3⟩:=s4 ys (if y.2 < a then y.2 else a);have k : (if y.2 < a then y.2 else a) ≤ a ∧ (if y.2 < a then y.2 else a) ≤ y.2 ∧ ((if y.2 < a then y.2 else a) = a ∨ (if y.2 < a then y.2 else a) = y.2):=by
   split
   · rename_i h; exact ⟨Rat.le_of_lt h,Rat.le_refl,.inr rfl⟩
   · rename_i h; exact ⟨Rat.le_refl,Rat.not_lt.1 h,.inl rfl⟩
  refine ⟨Rat.le_trans h1 k.1,fun x hx=>?_,?_⟩
  · rcases List.mem_cons.1 hx with rfl | hx
    · exact Rat.le_trans h1 k.2.1
    · exact h2 x hx
  · rcases h3 with h3 | ⟨x,hx,h3⟩
    · rw [h3]
      rcases k.2.2 with k | k
      · exact .inl k
      · exact .inr ⟨y,List.mem_cons_self ..,k⟩
    · exact .inr ⟨x,List.mem_cons_of_mem _ hx,h3⟩
theorem Mb {xs : List (Nat × Rat)} {x : Nat × Rat} (h : x ∈ xs) : qB xs ≤ x.2:=by
 cases xs with
 | nil=>cases h
 | cons y ys =>
  rcases List.mem_cons.1 h with rfl | h
  · exact (s4 ys x.2).1
  · exact (s4 ys y.2).2.1 x h
theorem Cj {xs : List (Nat × Rat)} (h : xs ≠ []) : ∃ x ∈ xs,qB xs = x.2:=by
 cases xs with
 | nil=>exact absurd rfl h
 | cons y ys =>
  rcases (s4 ys y.2).2.2 with h | ⟨x,hx,h⟩
  · exact ⟨y,List.mem_cons_self ..,h⟩
  · exact ⟨x,List.mem_cons_of_mem _ hx,h⟩
def tT (a : kD) (h : Option (Rat × Nat)) : Prop :=
 (a.kind = 1 ∧ h.isSome = true ∧ a.lo = lO h ∧ a.hi = lO h ∧ a.opn = []) ∨
 (a.kind = 2 ∧ h = none ∧ a.opn = []) ∨
 (a.kind = 3 ∧ ¬ (h.isSome = true ∧ lO h < a.lo) ∧ ¬ (a.sure = true ∧ (h = none ∨ a.hi < lO h)) ∧ a.opn ≠ [])
theorem Ck {h hs : Option (Rat × Nat)} {o : List (Nat × Rat)} (H1 : ∀ q k,h = some (q,k) → ∃ q' k',hs = some (q',k') ∧ q' ≤ q)
 (H2 : ∀ T k,hs = some (T,k) → (∃ q k,h = some (q,k) ∧ q ≤ T) ∨ ∃ x ∈ o,x.2 ≤ T) (H3 : ∀ x ∈ o,∀ q k,h = some (q,k) → x.2 < q) : tT (sW h o) hs:=by
 unfold sW;by_cases ho : o = []
 · subst ho
   rw [if_neg (fun h=>h rfl)];cases h with
   | none =>
    refine .inr (.inl ⟨rfl,?_,rfl⟩);cases hs with
    | none=>rfl
    | some x =>
     rcases H2 x.1 x.2 rfl with ⟨q,k,e,_⟩ | ⟨y,hy,_⟩
     · cases e
     · cases hy
   | some x =>
    obtain ⟨q,k⟩:=x;obtain ⟨q',k',e,hq⟩:=H1 q k rfl;subst e;have : q = q':=by
     rcases H2 q' k' rfl with ⟨p,j,e,hp⟩ | ⟨y,hy,_⟩
     · cases e; exact Rat.le_antisymm hp hq
     · cases hy
    subst this;exact .inl ⟨rfl,rfl,rfl,rfl,rfl⟩
 · rw [if_pos ho]
   refine .inr (.inr ⟨rfl,?_,?_,fun e=>ho (List.map_eq_nil_iff.1 e)⟩)
   · rintro ⟨h1,h2⟩
     obtain ⟨⟨T,k⟩,rfl⟩:=Option.isSome_iff_exists.1 h1;have h2 : T < qB o:=h2;refine Rat.not_lt.2 ?_ h2;rcases H2 T k rfl with ⟨q,j,e,hq⟩ | ⟨x,hx,hq⟩
     · obtain ⟨x,hx,e'⟩:=Cj ho
       rw [e'];exact Rat.le_trans (Rat.le_of_lt (H3 x hx q j e)) hq
     · exact Rat.le_trans (Mb hx) hq
   · rintro ⟨h1,h2⟩
     have h1 : h.isSome = true:=h1;obtain ⟨⟨q,k⟩,rfl⟩:=Option.isSome_iff_exists.1 h1;obtain ⟨q',k',rfl,hq⟩:=H1 q k rfl;rcases h2 with h2 | h2
     · cases h2
     · exact Rat.not_lt.2 hq h2
def pM (b : Int) (m : List T3) (p : P3) : Prop:=((uK (fN m)).sub (P3.all b)).le p ∧ p.le ((uL (fN m)).pls (P3.all b))
structure s5 (bs : List Int) (fine xs : List (List T3)) : Prop where
 len : xs.length = fine.length
 ex : ∀ i l,fine[i]? = some l → eB bs i = 0 → xs[i]? = some l
 near : ∀ i l,fine[i]? = some l → 0 < eB bs i → ∃ m,xs[i]? = some m ∧ ∀ t ∈ l,m ≠ [] ∧ pM (eB bs i) m t.a ∧ pM (eB bs i) m t.b ∧ pM (eB bs i) m t.c
theorem D3 {r : e8} {t : T3} (h : gE r t) : 0 ≤ eL r t:=by
 obtain ⟨S,H,hS,hH,hc,_⟩:=Ma h;rw [hc];exact Rat.divInt_nonneg hH (Int.le_of_lt (Int.mul_pos h.1.1 hS))
theorem s5.hit {bs : List Int} {fine xs : List (List T3)} {r : e8} (s : s5 bs fine xs) {t : T3} (ht : t ∈ fine.flatten) (h : gE r t) :
 (∃ q k,bB r (bP bs xs) = some (q,k) ∧ q ≤ eL r t) ∨ ∃ i kd q,(i,kd) ∈ bX bs xs ∧ gR r kd = some q ∧ q ≤ eL r t:=by
 obtain ⟨l,hl,htl⟩:=List.mem_flatten.1 ht;obtain ⟨i,hi⟩:=List.mem_iff_getElem?.1 hl;rcases Int.lt_trichotomy (eB bs i) 0 with hb | hb | hb
 · have hlt : i < xs.length:=by rw [s.len]; exact (List.getElem?_eq_some_iff.1 hi).1
   refine .inr ⟨i,.unk,0,jH.2 ⟨xs[i],List.getElem?_eq_getElem hlt,?_,rfl⟩,rfl,D3 h⟩;rw [tF,if_pos hb]
 · exact .inl (tQ (mF.2 ⟨i,l,s.ex i l hi hb,hb,htl⟩) h)
 · obtain ⟨m,hm,hin⟩:=s.near i l hi hb
   obtain ⟨hne,wa,wb,wc⟩:=hin t htl;by_cases hf : sV (uK (fN m)) (uL (fN m)) (eB bs i)
   · obtain ⟨q,p,hq,hle⟩:=O3 h wa.1 wb.1 wc.1 wa.2 wb.2 wc.2
     refine .inr ⟨i,.near ((uK (fN m)).sub (P3.all (eB bs i))) ((uL (fN m)).pls (P3.all (eB bs i))),q,jH.2 ⟨m,hm,?_,rfl⟩,?_,hle⟩
     · rw [tF,if_neg (by omega),if_neg (by omega),if_neg hne,if_pos hf]
     · rw [gR,hq]; rfl
   · refine .inr ⟨i,.unk,0,jH.2 ⟨m,hm,?_,rfl⟩,rfl,D3 h⟩
     rw [tF,if_neg (by omega),if_neg (by omega),if_neg hne,if_neg hf]
theorem s5.sub {bs : List Int} {fine xs : List (List T3)} (s : s5 bs fine xs) : ∀ t ∈ bP bs xs,t ∈ fine.flatten:=by
 intro t ht;obtain ⟨i,l,hi,hb,htl⟩:=mF.1 ht;have hlt : i < fine.length:=by rw [← s.len]; exact (List.getElem?_eq_some_iff.1 hi).1
 have:=s.ex i fine[i] (List.getElem?_eq_getElem hlt) hb;rw [hi] at this;cases this;exact List.mem_flatten.2 ⟨_,List.getElem_mem hlt,htl⟩
theorem Mc {r : e8} (h : ¬ r.ok) (ts : List T3) : bB r ts = none:=by
 cases hb : bB r ts with
 | none=>rfl
 | some x=>obtain ⟨t,_,ht,_⟩:=pL (q:=x.1) (k:=x.2) hb; exact absurd ht.1 h
theorem s5.right {bs : List Int} {fine xs : List (List T3)} (s : s5 bs fine xs) (r : e8) : tT (cL r xs bs) (bB r fine.flatten):=by
 unfold cL;by_cases hok : r.ok
 · rw [if_pos hok]
   refine Ck (fun q k h=>Af s.sub h) (fun T k h=>?_) (fun x hx q k h=>?_)
   · obtain ⟨t,ht,hh,hT⟩:=pL h
     rcases s.hit ht hh with ⟨q,j,e,hq⟩ | ⟨i,kd,q,hm,hb,hq⟩
     · exact .inl ⟨q,j,e,hT ▸ hq⟩
     · rw [hT] at hq
       cases hs : bB r (bP bs xs) with
       | none=>exact .inr ⟨(i,q),jI.2 ⟨kd,hm,hb,fun _ _ e=>by cases e⟩,hq⟩
       | some y =>
        by_cases hlt : q < y.1
        · exact .inr ⟨(i,q),jI.2 ⟨kd,hm,hb,fun _ _ e=>by cases e; exact hlt⟩,hq⟩
        · exact .inl ⟨y.1,y.2,rfl,Rat.le_trans (Rat.not_lt.1 hlt) hq⟩
   · obtain ⟨kd,_,_,hlt⟩:=jI.1 (show (x.1,x.2) ∈ _ from hx)
     exact hlt q k h
 · rw [if_neg hok,Mc hok]
   exact .inr (.inl ⟨rfl,rfl,rfl⟩)
theorem V5 {h : Option (Rat × Nat)} {o : List (Nat × Rat)} : (sW h o).kind = 3 ↔ o ≠ []:=by
 unfold sW;by_cases ho : o = []
 · rw [if_neg (fun k=>k ho)]
   cases h with
   | none=>simp [kD.miss,ho]
   | some x=>simp [ho]
 · rw [if_pos ho]; simp [ho]
structure S0 (r : e8) (bs bs' : List Int) (xs xs' : List (List T3)) : Prop where
 sub : ∀ t ∈ bP bs xs,t ∈ bP bs' xs'
 rest : ∀ i kd,(i,kd) ∈ bX bs' xs' → (i,kd) ∈ bX bs xs ∧ ∀ q,(i,q) ∉ dC r (bB r (bP bs xs)) (bX bs xs)
theorem S0.done {r : e8} {bs bs' : List Int} {xs xs' : List (List T3)} (d : S0 r bs bs' xs xs') : (cL r xs' bs').kind ≠ 3:=by
 unfold cL;by_cases hok : r.ok
 · rw [if_pos hok,Ne,V5,Decidable.not_not]
   refine List.eq_nil_iff_forall_not_mem.2 fun ⟨i,q⟩ hx=>?_;obtain ⟨kd,hm,hb,hlt⟩:=jI.1 hx;obtain ⟨hm',hno⟩:=d.rest i kd hm;refine hno q (jI.2 ⟨kd,hm',hb,fun t k e=>?_⟩);obtain ⟨q',k',e',hq⟩:=Af d.sub e;exact Rat.not_le.1 fun h=>Rat.not_lt.2 (Rat.le_trans hq h) (hlt q' k' e')
 · rw [if_neg hok]
   exact fun e=>by simp [kD.miss] at e
end Go.Lith
namespace Go.Lith
open Go.RowKit
theorem D4 {α β γ : Type} {f : α → List β} {g : α → List γ} : ∀ {xs : List α},(∀ x ∈ xs,(f x).length ≤ (g x).length) → (xs.flatMap f).length ≤ (xs.flatMap g).length
 | [],_=>Nat.le_refl _
 | x :: xs,h=>by
  rw [List.flatMap_cons,List.flatMap_cons,List.length_append,List.length_append];have h1:=h x (List.mem_cons_self ..);have h2:=D4 (xs:=xs) fun y hy=>h y (List.mem_cons_of_mem _ hy);omega
theorem Ag {r : e8} {h : Option (Rat × Nat)} {x : Nat × Kd} : (mE r h x).length ≤ 1:=by
 unfold mE;split
 · exact Nat.zero_le _
 · split
   · exact Nat.le_refl _
   · split
     · exact Nat.le_refl _
     · exact Nat.zero_le _
end Go.Lith
namespace Go.Proofs.YtimjandkmfcmiaaGreatDoor
open Go.RowKit Go.Lith
set_option maxRecDepth 100000
attribute [local irreducible] wpList wpQuiet dV dK dI Code.wp
theorem O4 {x y z : Int} [Iw x] [Iw y] [Iw z] : eI Tryz.prog 65 [.int .i64 x,.int .i64 y,.int .i64 z] (wv ⟨x,y,z⟩):=by
 intro w;refine ⟨Uy,?_⟩;have m:=bU.refl w
 go_enter Tryz.func65,Tryz.ntmps65
 refine aF fun K1 k1=>wp_region_lit (bN m gL rfl ?_);clear m; intro g1 u m;refine aC (k1 _ _ ?_);refine aF fun K2 k2=>wp_region_lit (aA (aB) ?_);simp only[ev,zD,zE,zF,zG];refine bH m rfl rfl (i6 Iw.h) ?_;clear m; intro u m;refine aA (aB) ?_;simp only[ev,zD,zE,zF,zG];refine bH m rfl rfl (i6 Iw.h) ?_;clear m; intro u m;refine aA (aB) ?_;simp only[ev,zD,zE,zF,zG];refine bH m rfl rfl (i6 Iw.h) ?_;clear m; intro u m;refine aA (rX rfl rfl rfl) ?_;simp only[ev,zD,zE,zF,zG];refine aV m 0 rfl rfl rfl bE (b9 rfl) rfl ?_;clear m; intro u m; simp only[a8,zH,zI,zJ,zK,zL,zM,zN,zO,zP,zF,zG,Nat.reduceAdd] at m;refine aC (k2 _ _ ?_);refine wp_ret ?_;try simp only[Exit.inBlock,Exit.then,if_true]
 refine bT rfl ⟨_,rfl,((m.b 0 rfl).full dP bE)⟩ ?_;try simp only[zD,zE]
 exact ⟨_,rfl,m.ext,rfl⟩
theorem mG {p : P3} [I3 p] : eI Tryz.prog 66 [pt p] (wv p):=by
 intro w;refine ⟨Uz,?_⟩;have m:=bU.refl w
 go_enter Tryz.func66,Tryz.ntmps66
 refine aF fun K1 k1=>wp_region_lit (dJ m rfl ?_);clear m; intro g1 u m;simp only[ev,zD,zE,zF,zG];refine bN m gL rfl ?_;clear m; intro g2 u m;refine aC (k1 _ _ ?_);refine aF fun K2 k2=>wp_region_lit (aA (aG (c:=0) Tryz.underlying56 rfl aO rfl rfl) ?_);simp only[ev,zD,zE,zF,zG];refine aI rfl ((m.b 1 rfl).lies1 aZ rfl) ?_;simp only[ev,zD,zE,zF,zG];refine aA (aG (c:=0) Tryz.underlying56 rfl aO rfl rfl) ?_;simp only[ev,zD,zE,zF,zG];refine aI rfl ((m.b 1 rfl).lies1 aZ rfl) ?_;simp only[ev,zD,zE,zF,zG];refine aA (aG (c:=0) Tryz.underlying56 rfl aO rfl rfl) ?_;simp only[ev,zD,zE,zF,zG];refine aI rfl ((m.b 1 rfl).lies1 aZ rfl) ?_;simp only[ev,zD,zE,zF,zG];refine bH m rfl rfl (O4 (x:=p.x) (y:=p.y) (z:=p.z)) ?_;clear m; intro u m;simp only[ev,zD,zE,zF,zG];refine aV m 0 rfl rfl rfl bE (b9 rfl) rfl ?_;clear m; intro u m; simp only[a8,zH,zI,zJ,zK,zL,zM,zN,zO,zP,zF,zG,Nat.reduceAdd] at m;refine aC (k2 _ _ ?_);refine wp_ret ?_;try simp only[Exit.inBlock,Exit.then,if_true]
 refine bT rfl ⟨_,rfl,((m.b 0 rfl).full dP bE)⟩ ?_;try simp only[zD,zE]
 exact ⟨_,rfl,m.ext,rfl⟩
theorem pN {u : P3} {n : Int} (hu : Bv 300000 u) (hn : Bw 300000 n) : eI Tryz.prog 67 [wv u,W n] (wv (u.scl n)):=by
 intro w;refine ⟨U0,?_⟩;have m:=bU.refl w
 go_enter Tryz.func67,Tryz.ntmps67
 refine aF fun K1 k1=>wp_region_lit (dJ m rfl ?_);clear m; intro g1 u m;simp only[ev,zD,zE,zF,zG];refine dJ m rfl ?_;clear m; intro g2 u m;simp only[ev,zD,zE,zF,zG];refine bN m gL rfl ?_;clear m; intro g3 u m;refine aC (k1 _ _ ?_);refine aF fun K2 k2=>aF fun K3 k3=>wp_region_lit (aA (aB) (aC (k3 _ _ ?_)));refine wp_block (wp_loop_rounds 4 (dA (aF fun K4 k4=>wp_region_lit (aA (bR (m:=0) (n:=3) rfl rfl (by decide)) (aC (k4 _ _ ?_))))));refine aF fun K5 k5=>bS rfl (wp_skip (k5 _ _ ?_));refine aF fun K6 k6=>wp_block (aF fun K7 k7=>wp_region_lit (aA (aB) ?_));simp only[ev,zD,zE,zF,zG];refine aA (aD) (aC (k7 _ _ ?_));simp only[ev,zD,zE,zF,zG];refine dQ m 7 aU (by kernel_rfl) ?_;simp only[zH,zI,zJ,zK];refine aR (aB) (aR (aB) (aR (aJ Tryz.underlying108 aH rfl rfl (by decide) (by decide) rfl) ?_));simp only[ev,zD,zE,zF,zG];refine ql rfl (fun u m=>((m.b 2 rfl).lies aY aH rfl rfl)) ?_;simp only[ev,zD,zE,zF,zG,zH,zI,zJ,zK,Nat.zero_add,Nat.reduceAdd,Nat.reduceMul,Int.reduceToNat];refine ql rfl (fun u m=>((m.b 1 rfl).full aY aH)) ?_;simp only[ev,zD,zE,zF,zG];refine iO rfl rfl (gY Bw.up Bw.up) (aR (aJ Tryz.underlying108 aH rfl rfl (by decide) (by decide) rfl) (dW ?_));clear m; intro u m;simp only[ev,zD,zE,zF,zG];refine aV m 2 rfl rfl rfl aH (b9 rfl) rfl ?_;clear m; intro u m; simp only[a8,zH,zI,zJ,zK,zL,zM,zN,zO,zP,zF,zG,Nat.reduceAdd] at m;refine aC (k6 _ _ ?_);refine wp_region_lit (aA (aX (m:=0) (n:=1) (r:=1) rfl rfl (by decide)) (aA (aB) (aC (a7 (aF fun K8 k8=>wp_region_lit (aA (bR (m:=1) (n:=3) rfl rfl (by decide)) (aC (k8 _ _ ?_))))))));refine aF fun K9 k9=>bS rfl (wp_skip (k9 _ _ ?_));refine aF fun K10 k10=>wp_block (aF fun K11 k11=>wp_region_lit (aA (aB) ?_));simp only[ev,zD,zE,zF,zG];refine aA (aD) (aC (k11 _ _ ?_));simp only[ev,zD,zE,zF,zG];refine dQ m 7 aU (by kernel_rfl) ?_;simp only[zH,zI,zJ,zK];refine aR (aB) (aR (aB) (aR (aJ Tryz.underlying108 aH rfl rfl (by decide) (by decide) rfl) ?_));simp only[ev,zD,zE,zF,zG];refine ql rfl (fun u m=>((m.b 2 rfl).lies aY aH rfl rfl)) ?_;simp only[ev,zD,zE,zF,zG,zH,zI,zJ,zK,Nat.zero_add,Nat.reduceAdd,Nat.reduceMul,Int.reduceToNat];refine ql rfl (fun u m=>((m.b 1 rfl).full aY aH)) ?_;simp only[ev,zD,zE,zF,zG];refine iO rfl rfl (gY Bw.up Bw.up) (aR (aJ Tryz.underlying108 aH rfl rfl (by decide) (by decide) rfl) (dW ?_));clear m; intro u m;simp only[ev,zD,zE,zF,zG];refine aV m 2 rfl rfl rfl aH (b9 rfl) rfl ?_;clear m; intro u m; simp only[a8,zH,zI,zJ,zK,zL,zM,zN,zO,zP,zF,zG,Nat.reduceAdd] at m;refine aC (k10 _ _ ?_);refine wp_region_lit (aA (aX (m:=1) (n:=1) (r:=2) rfl rfl (by decide)) (aA (aB) (aC (a7 (aF fun K12 k12=>wp_region_lit (aA (bR (m:=2) (n:=3) rfl rfl (by decide)) (aC (k12 _ _ ?_))))))));refine aF fun K13 k13=>bS rfl (wp_skip (k13 _ _ ?_));refine aF fun K14 k14=>wp_block (aF fun K15 k15=>wp_region_lit (aA (aB) ?_));simp only[ev,zD,zE,zF,zG];refine aA (aD) (aC (k15 _ _ ?_));simp only[ev,zD,zE,zF,zG];refine dQ m 7 aU (by kernel_rfl) ?_;simp only[zH,zI,zJ,zK];refine aR (aB) (aR (aB) (aR (aJ Tryz.underlying108 aH rfl rfl (by decide) (by decide) rfl) ?_));simp only[ev,zD,zE,zF,zG];refine ql rfl (fun u m=>((m.b 2 rfl).lies aY aH rfl rfl)) ?_;simp only[ev,zD,zE,zF,zG,zH,zI,zJ,zK,Nat.zero_add,Nat.reduceAdd,Nat.reduceMul,Int.reduceToNat];refine ql rfl (fun u m=>((m.b 1 rfl).full aY aH)) ?_;simp only[ev,zD,zE,zF,zG];refine iO rfl rfl (gY Bw.up Bw.up) (aR (aJ Tryz.underlying108 aH rfl rfl (by decide) (by decide) rfl) (dW ?_));clear m; intro u m;simp only[ev,zD,zE,zF,zG];refine aV m 2 rfl rfl rfl aH (b9 rfl) rfl ?_;clear m; intro u m; simp only[a8,zH,zI,zJ,zK,zL,zM,zN,zO,zP,zF,zG,Nat.reduceAdd] at m;refine aC (k14 _ _ ?_);refine wp_region_lit (aA (aX (m:=2) (n:=1) (r:=3) rfl rfl (by decide)) (aA (aB) (aC (a7 (aF fun K16 k16=>wp_region_lit (aA (eW (m:=3) (n:=3) rfl rfl (by decide)) (aC (k16 _ _ ?_))))))));refine aF fun K17 k17=>eM rfl (wp_exit (k2 _ _ ?_));refine aF fun K18 k18=>wp_region_lit ?_;simp only[ev,zD,zE,zF,zG];refine aI rfl ((m.b 2 rfl).full dP bE) ?_;simp only[ev,zD,zE,zF,zG];refine aV m 0 rfl rfl rfl bE (b9 rfl) rfl ?_;clear m; intro u m; simp only[a8,zH,zI,zJ,zK,zL,zM,zN,zO,zP,zF,zG,Nat.reduceAdd] at m;refine aC (k18 _ _ ?_);refine wp_ret ?_;try simp only[Exit.inBlock,Exit.then,if_true]
 refine bT rfl ⟨_,rfl,((m.b 0 rfl).full dP bE)⟩ ?_;try simp only[zD,zE]
 exact ⟨_,rfl,m.ext,rfl⟩
theorem mH {u v : P3} (hu : Bv 300000 u) (hv : Bv 300000 v) : eI Tryz.prog 68 [wv u,wv v] (wv (u.sub v)):=by
 intro w;refine ⟨U1,?_⟩;have m:=bU.refl w
 go_enter Tryz.func68,Tryz.ntmps68
 refine aF fun K1 k1=>wp_region_lit (dJ m rfl ?_);clear m; intro g1 u m;simp only[ev,zD,zE,zF,zG];refine dJ m rfl ?_;clear m; intro g2 u m;simp only[ev,zD,zE,zF,zG];refine bN m gL rfl ?_;clear m; intro g3 u m;refine aC (k1 _ _ ?_);refine aF fun K2 k2=>aF fun K3 k3=>wp_region_lit (aA (aB) (aC (k3 _ _ ?_)));refine wp_block (wp_loop_rounds 4 (dA (aF fun K4 k4=>wp_region_lit (aA (bR (m:=0) (n:=3) rfl rfl (by decide)) (aC (k4 _ _ ?_))))));refine aF fun K5 k5=>bS rfl (wp_skip (k5 _ _ ?_));refine aF fun K6 k6=>wp_block (aF fun K7 k7=>wp_region_lit (aA (aB) ?_));simp only[ev,zD,zE,zF,zG];refine aA (aD) (aC (k7 _ _ ?_));simp only[ev,zD,zE,zF,zG];refine dQ m 9 aU (by kernel_rfl) ?_;simp only[zH,zI,zJ,zK];refine aR (aB) (aR (aB) (aR (aJ Tryz.underlying108 aH rfl rfl (by decide) (by decide) rfl) ?_));simp only[ev,zD,zE,zF,zG];refine ql rfl (fun u m=>((m.b 2 rfl).lies aY aH rfl rfl)) ?_;simp only[ev,zD,zE,zF,zG,zH,zI,zJ,zK,Nat.zero_add,Nat.reduceAdd,Nat.reduceMul,Int.reduceToNat];refine aR (aB) (aR (aJ Tryz.underlying108 aH rfl rfl (by decide) (by decide) rfl) ?_);simp only[ev,zD,zE,zF,zG];refine ql rfl (fun u m=>((m.b 1 rfl).lies aY aH rfl rfl)) ?_;simp only[ev,zD,zE,zF,zG,zH,zI,zJ,zK,Nat.zero_add,Nat.reduceAdd,Nat.reduceMul,Int.reduceToNat];refine iO rfl rfl (nN Bw.up Bw.up) (aR (aJ Tryz.underlying108 aH rfl rfl (by decide) (by decide) rfl) (dW ?_));clear m; intro u m;simp only[ev,zD,zE,zF,zG];refine aV m 2 rfl rfl rfl aH (b9 rfl) rfl ?_;clear m; intro u m; simp only[a8,zH,zI,zJ,zK,zL,zM,zN,zO,zP,zF,zG,Nat.reduceAdd] at m;refine aC (k6 _ _ ?_);refine wp_region_lit (aA (aX (m:=0) (n:=1) (r:=1) rfl rfl (by decide)) (aA (aB) (aC (a7 (aF fun K8 k8=>wp_region_lit (aA (bR (m:=1) (n:=3) rfl rfl (by decide)) (aC (k8 _ _ ?_))))))));refine aF fun K9 k9=>bS rfl (wp_skip (k9 _ _ ?_));refine aF fun K10 k10=>wp_block (aF fun K11 k11=>wp_region_lit (aA (aB) ?_));simp only[ev,zD,zE,zF,zG];refine aA (aD) (aC (k11 _ _ ?_));simp only[ev,zD,zE,zF,zG];refine dQ m 9 aU (by kernel_rfl) ?_;simp only[zH,zI,zJ,zK];refine aR (aB) (aR (aB) (aR (aJ Tryz.underlying108 aH rfl rfl (by decide) (by decide) rfl) ?_));simp only[ev,zD,zE,zF,zG];refine ql rfl (fun u m=>((m.b 2 rfl).lies aY aH rfl rfl)) ?_;simp only[ev,zD,zE,zF,zG,zH,zI,zJ,zK,Nat.zero_add,Nat.reduceAdd,Nat.reduceMul,Int.reduceToNat];refine aR (aB) (aR (aJ Tryz.underlying108 aH rfl rfl (by decide) (by decide) rfl) ?_);simp only[ev,zD,zE,zF,zG];refine ql rfl (fun u m=>((m.b 1 rfl).lies aY aH rfl rfl)) ?_;simp only[ev,zD,zE,zF,zG,zH,zI,zJ,zK,Nat.zero_add,Nat.reduceAdd,Nat.reduceMul,Int.reduceToNat];refine iO rfl rfl (nN Bw.up Bw.up) (aR (aJ Tryz.underlying108 aH rfl rfl (by decide) (by decide) rfl) (dW ?_));clear m; intro u m;simp only[ev,zD,zE,zF,zG];refine aV m 2 rfl rfl rfl aH (b9 rfl) rfl ?_;clear m; intro u m; simp only[a8,zH,zI,zJ,zK,zL,zM,zN,zO,zP,zF,zG,Nat.reduceAdd] at m;refine aC (k10 _ _ ?_);refine wp_region_lit (aA (aX (m:=1) (n:=1) (r:=2) rfl rfl (by decide)) (aA (aB) (aC (a7 (aF fun K12 k12=>wp_region_lit (aA (bR (m:=2) (n:=3) rfl rfl (by decide)) (aC (k12 _ _ ?_))))))));refine aF fun K13 k13=>bS rfl (wp_skip (k13 _ _ ?_));refine aF fun K14 k14=>wp_block (aF fun K15 k15=>wp_region_lit (aA (aB) ?_));simp only[ev,zD,zE,zF,zG];refine aA (aD) (aC (k15 _ _ ?_));simp only[ev,zD,zE,zF,zG];refine dQ m 9 aU (by kernel_rfl) ?_;simp only[zH,zI,zJ,zK];refine aR (aB) (aR (aB) (aR (aJ Tryz.underlying108 aH rfl rfl (by decide) (by decide) rfl) ?_));simp only[ev,zD,zE,zF,zG];refine ql rfl (fun u m=>((m.b 2 rfl).lies aY aH rfl rfl)) ?_;simp only[ev,zD,zE,zF,zG,zH,zI,zJ,zK,Nat.zero_add,Nat.reduceAdd,Nat.reduceMul,Int.reduceToNat];refine aR (aB) (aR (aJ Tryz.underlying108 aH rfl rfl (by decide) (by decide) rfl) ?_);simp only[ev,zD,zE,zF,zG];refine ql rfl (fun u m=>((m.b 1 rfl).lies aY aH rfl rfl)) ?_;simp only[ev,zD,zE,zF,zG,zH,zI,zJ,zK,Nat.zero_add,Nat.reduceAdd,Nat.reduceMul,Int.reduceToNat];refine iO rfl rfl (nN Bw.up Bw.up) (aR (aJ Tryz.underlying108 aH rfl rfl (by decide) (by decide) rfl) (dW ?_));clear m; intro u m;simp only[ev,zD,zE,zF,zG];refine aV m 2 rfl rfl rfl aH (b9 rfl) rfl ?_;clear m; intro u m; simp only[a8,zH,zI,zJ,zK,zL,zM,zN,zO,zP,zF,zG,Nat.reduceAdd] at m;refine aC (k14 _ _ ?_);refine wp_region_lit (aA (aX (m:=2) (n:=1) (r:=3) rfl rfl (by decide)) (aA (aB) (aC (a7 (aF fun K16 k16=>wp_region_lit (aA (eW (m:=3) (n:=3) rfl rfl (by decide)) (aC (k16 _ _ ?_))))))));refine aF fun K17 k17=>eM rfl (wp_exit (k2 _ _ ?_));refine aF fun K18 k18=>wp_region_lit ?_;simp only[ev,zD,zE,zF,zG];refine aI rfl ((m.b 2 rfl).full dP bE) ?_;simp only[ev,zD,zE,zF,zG];refine aV m 0 rfl rfl rfl bE (b9 rfl) rfl ?_;clear m; intro u m; simp only[a8,zH,zI,zJ,zK,zL,zM,zN,zO,zP,zF,zG,Nat.reduceAdd] at m;refine aC (k18 _ _ ?_);refine wp_ret ?_;try simp only[Exit.inBlock,Exit.then,if_true]
 refine bT rfl ⟨_,rfl,((m.b 0 rfl).full dP bE)⟩ ?_;try simp only[zD,zE]
 exact ⟨_,rfl,m.ext,rfl⟩
theorem Fs {u v : P3} (hu : Bv 300000 u) (hv : Bv 300000 v) : eI Tryz.prog 71 [wv u,wv v] (W (u.dot v)):=by
 intro w;refine ⟨U4,?_⟩;have m:=bU.refl w
 go_enter Tryz.func71,Tryz.ntmps71
 refine aF fun K1 k1=>wp_region_lit (dJ m rfl ?_);clear m; intro g1 u m;simp only[ev,zD,zE,zF,zG];refine dJ m rfl ?_;clear m; intro g2 u m;simp only[ev,zD,zE,zF,zG];refine bN m cV rfl ?_;clear m; intro g3 u m;refine aC (k1 _ _ ?_);refine aF fun K2 k2=>wp_region_lit ?_;simp only[ev,zD,zE,zF,zG];refine bN m cV rfl ?_;clear m; intro g4 u m;refine aC (k2 _ _ ?_);refine aF fun K3 k3=>aF fun K4 k4=>wp_region_lit (aA (aB) (aC (k4 _ _ ?_)));refine wp_block (wp_loop_rounds 4 (dA (aF fun K5 k5=>wp_region_lit (aA (bR (m:=0) (n:=3) rfl rfl (by decide)) (aC (k5 _ _ ?_))))));refine aF fun K6 k6=>bS rfl (wp_skip (k6 _ _ ?_));refine aF fun K7 k7=>wp_block (aF fun K8 k8=>wp_region_lit (aA (aB) ?_));simp only[ev,zD,zE,zF,zG];refine aA (aD) (aC (k8 _ _ ?_));simp only[ev,zD,zE,zF,zG];refine dQ m 9 aU (by kernel_rfl) ?_;simp only[zH,zI,zJ,zK];refine ql rfl (fun u m=>((m.b 0 rfl).full aY aH)) ?_;simp only[ev,zD,zE,zF,zG];refine aR (aB) (aR (aJ Tryz.underlying108 aH rfl rfl (by decide) (by decide) rfl) ?_);simp only[ev,zD,zE,zF,zG];refine ql rfl (fun u m=>((m.b 3 rfl).lies aY aH rfl rfl)) ?_;simp only[ev,zD,zE,zF,zG,zH,zI,zJ,zK,Nat.zero_add,Nat.reduceAdd,Nat.reduceMul,Int.reduceToNat];refine aR (aB) (aR (aJ Tryz.underlying108 aH rfl rfl (by decide) (by decide) rfl) ?_);simp only[ev,zD,zE,zF,zG];refine ql rfl (fun u m=>((m.b 2 rfl).lies aY aH rfl rfl)) ?_;simp only[ev,zD,zE,zF,zG,zH,zI,zJ,zK,Nat.zero_add,Nat.reduceAdd,Nat.reduceMul,Int.reduceToNat];refine iO rfl rfl (gY Bw.up Bw.up) ?_;simp only[ev,zD,zE,zF,zG];refine iO rfl rfl (Sp Bw.up) (dW ?_);clear m; intro u m;simp only[ev,zD,zE,zF,zG];refine aV m 0 rfl rfl rfl aH (b9 rfl) rfl ?_;clear m; intro u m; simp only[a8,zH,zI,zJ,zK,zL,zM,zN,zO,zP,zF,zG,Nat.reduceAdd] at m;refine aC (k7 _ _ ?_);refine wp_region_lit (aA (aX (m:=0) (n:=1) (r:=1) rfl rfl (by decide)) (aA (aB) (aC (a7 (aF fun K9 k9=>wp_region_lit (aA (bR (m:=1) (n:=3) rfl rfl (by decide)) (aC (k9 _ _ ?_))))))));refine aF fun K10 k10=>bS rfl (wp_skip (k10 _ _ ?_));refine aF fun K11 k11=>wp_block (aF fun K12 k12=>wp_region_lit (aA (aB) ?_));simp only[ev,zD,zE,zF,zG];refine aA (aD) (aC (k12 _ _ ?_));simp only[ev,zD,zE,zF,zG];refine dQ m 9 aU (by kernel_rfl) ?_;simp only[zH,zI,zJ,zK];refine ql rfl (fun u m=>((m.b 0 rfl).full aY aH)) ?_;simp only[ev,zD,zE,zF,zG];refine aR (aB) (aR (aJ Tryz.underlying108 aH rfl rfl (by decide) (by decide) rfl) ?_);simp only[ev,zD,zE,zF,zG];refine ql rfl (fun u m=>((m.b 3 rfl).lies aY aH rfl rfl)) ?_;simp only[ev,zD,zE,zF,zG,zH,zI,zJ,zK,Nat.zero_add,Nat.reduceAdd,Nat.reduceMul,Int.reduceToNat];refine aR (aB) (aR (aJ Tryz.underlying108 aH rfl rfl (by decide) (by decide) rfl) ?_);simp only[ev,zD,zE,zF,zG];refine ql rfl (fun u m=>((m.b 2 rfl).lies aY aH rfl rfl)) ?_;simp only[ev,zD,zE,zF,zG,zH,zI,zJ,zK,Nat.zero_add,Nat.reduceAdd,Nat.reduceMul,Int.reduceToNat];refine iO rfl rfl (gY Bw.up Bw.up) ?_;simp only[ev,zD,zE,zF,zG];refine iO rfl rfl (Gf Bw.up Bw.up) (dW ?_);clear m; intro u m;simp only[ev,zD,zE,zF,zG];refine aV m 0 rfl rfl rfl aH (b9 rfl) rfl ?_;clear m; intro u m; simp only[a8,zH,zI,zJ,zK,zL,zM,zN,zO,zP,zF,zG,Nat.reduceAdd] at m;refine aC (k11 _ _ ?_);refine wp_region_lit (aA (aX (m:=1) (n:=1) (r:=2) rfl rfl (by decide)) (aA (aB) (aC (a7 (aF fun K13 k13=>wp_region_lit (aA (bR (m:=2) (n:=3) rfl rfl (by decide)) (aC (k13 _ _ ?_))))))));refine aF fun K14 k14=>bS rfl (wp_skip (k14 _ _ ?_));refine aF fun K15 k15=>wp_block (aF fun K16 k16=>wp_region_lit (aA (aB) ?_));simp only[ev,zD,zE,zF,zG];refine aA (aD) (aC (k16 _ _ ?_));simp only[ev,zD,zE,zF,zG];refine dQ m 9 aU (by kernel_rfl) ?_;simp only[zH,zI,zJ,zK];refine ql rfl (fun u m=>((m.b 0 rfl).full aY aH)) ?_;simp only[ev,zD,zE,zF,zG];refine aR (aB) (aR (aJ Tryz.underlying108 aH rfl rfl (by decide) (by decide) rfl) ?_);simp only[ev,zD,zE,zF,zG];refine ql rfl (fun u m=>((m.b 3 rfl).lies aY aH rfl rfl)) ?_;simp only[ev,zD,zE,zF,zG,zH,zI,zJ,zK,Nat.zero_add,Nat.reduceAdd,Nat.reduceMul,Int.reduceToNat];refine aR (aB) (aR (aJ Tryz.underlying108 aH rfl rfl (by decide) (by decide) rfl) ?_);simp only[ev,zD,zE,zF,zG];refine ql rfl (fun u m=>((m.b 2 rfl).lies aY aH rfl rfl)) ?_;simp only[ev,zD,zE,zF,zG,zH,zI,zJ,zK,Nat.zero_add,Nat.reduceAdd,Nat.reduceMul,Int.reduceToNat];refine iO rfl rfl (gY Bw.up Bw.up) ?_;simp only[ev,zD,zE,zF,zG];refine iO rfl rfl (Gf Bw.up Bw.up) (dW ?_);clear m; intro u m;simp only[ev,zD,zE,zF,zG];refine aV m 0 rfl rfl rfl aH (b9 rfl) rfl ?_;clear m; intro u m; simp only[a8,zH,zI,zJ,zK,zL,zM,zN,zO,zP,zF,zG,Nat.reduceAdd] at m;refine aC (k15 _ _ ?_);refine wp_region_lit (aA (aX (m:=2) (n:=1) (r:=3) rfl rfl (by decide)) (aA (aB) (aC (a7 (aF fun K17 k17=>wp_region_lit (aA (eW (m:=3) (n:=3) rfl rfl (by decide)) (aC (k17 _ _ ?_))))))));refine aF fun K18 k18=>eM rfl (wp_exit (k3 _ _ ?_));refine aF fun K19 k19=>wp_region_lit ?_;simp only[ev,zD,zE,zF,zG];refine aI rfl ((m.b 0 rfl).full aY aH) ?_;simp only[ev,zD,zE,zF,zG];refine aV m 1 rfl rfl rfl aH (b9 rfl) rfl ?_;clear m; intro u m; simp only[a8,zH,zI,zJ,zK,zL,zM,zN,zO,zP,zF,zG,Nat.reduceAdd] at m;refine aC (k19 _ _ ?_);refine wp_ret ?_;try simp only[Exit.inBlock,Exit.then,if_true]
 refine bT rfl ⟨_,rfl,((m.b 1 rfl).full aY aH)⟩ ?_;try simp only[zD,zE]
 exact ⟨_,rfl,m.ext,by rw [← P3.dot0]; rfl⟩
theorem D5 {u v : P3} (hu : Bv 300000 u) (hv : Bv 300000 v) : eI Tryz.prog 106 [wv u,wv v] (wv (u.cross v)):=by
 intro w;refine ⟨Q4,?_⟩;have m:=bU.refl w
 go_enter Tryz.func106,Tryz.ntmps106
 refine aF fun K1 k1=>wp_region_lit (dJ m rfl ?_);clear m; intro g1 u m;simp only[ev,zD,zE,zF,zG];refine dJ m rfl ?_;clear m; intro g2 u m;simp only[ev,zD,zE,zF,zG];refine bN m gL rfl ?_;clear m; intro g3 u m;refine aC (k1 _ _ ?_);refine aF fun K2 k2=>wp_region_lit ?_;simp only[ev,zD,zE,zF,zG];refine bN m gL rfl ?_;clear m; intro g4 u m;refine aC (k2 _ _ ?_);refine aF fun K3 k3=>aF fun K4 k4=>wp_region_lit (aA (aB) (aC (k4 _ _ ?_)));refine wp_block (wp_loop_rounds 4 (dA (aF fun K5 k5=>wp_region_lit (aA (bR (m:=0) (n:=3) rfl rfl (by decide)) (aC (k5 _ _ ?_))))));refine aF fun K6 k6=>bS rfl (wp_skip (k6 _ _ ?_));refine aF fun K7 k7=>wp_block (aF fun K8 k8=>wp_region_lit (aA (aB) ?_));simp only[ev,zD,zE,zF,zG];refine aA (aD) (aC (k8 _ _ ?_));refine aF fun K9 k9=>wp_region_lit (aA (aB) (aA (aX (m:=0) (n:=1) (r:=1) rfl rfl (by decide)) (aA (dF (m:=1) (n:=3) (r:=1) rfl rfl (by decide) (by decide)) ?_)));simp only[ev,zD,zE,zF,zG];refine aA (aB) (aA (aX (m:=0) (n:=2) (r:=2) rfl rfl (by decide)) (aA (dF (m:=2) (n:=3) (r:=2) rfl rfl (by decide) (by decide)) (aA (aD) ?_)));simp only[ev,zD,zE,zF,zG];refine aA (aD) (aC (k9 _ _ ?_));simp only[ev,zD,zE,zF,zG];refine dQ m 17 aU (by kernel_rfl) ?_;simp only[zH,zI,zJ,zK];refine aR (aB) (aR (aB) (aR (aJ Tryz.underlying108 aH rfl rfl (by decide) (by decide) rfl) ?_));simp only[ev,zD,zE,zF,zG];refine ql rfl (fun u m=>((m.b 3 rfl).lies aY aH rfl rfl)) ?_;simp only[ev,zD,zE,zF,zG,zH,zI,zJ,zK,Nat.zero_add,Nat.reduceAdd,Nat.reduceMul,Int.reduceToNat];refine aR (aB) (aR (aJ Tryz.underlying108 aH rfl rfl (by decide) (by decide) rfl) ?_);simp only[ev,zD,zE,zF,zG];refine ql rfl (fun u m=>((m.b 2 rfl).lies aY aH rfl rfl)) ?_;simp only[ev,zD,zE,zF,zG,zH,zI,zJ,zK,Nat.zero_add,Nat.reduceAdd,Nat.reduceMul,Int.reduceToNat];refine iO rfl rfl (gY Bw.up Bw.up) (aR (aB) (aR (aJ Tryz.underlying108 aH rfl rfl (by decide) (by decide) rfl) ?_));simp only[ev,zD,zE,zF,zG];refine ql rfl (fun u m=>((m.b 3 rfl).lies aY aH rfl rfl)) ?_;simp only[ev,zD,zE,zF,zG,zH,zI,zJ,zK,Nat.zero_add,Nat.reduceAdd,Nat.reduceMul,Int.reduceToNat];refine aR (aB) (aR (aJ Tryz.underlying108 aH rfl rfl (by decide) (by decide) rfl) ?_);simp only[ev,zD,zE,zF,zG];refine ql rfl (fun u m=>((m.b 2 rfl).lies aY aH rfl rfl)) ?_;simp only[ev,zD,zE,zF,zG,zH,zI,zJ,zK,Nat.zero_add,Nat.reduceAdd,Nat.reduceMul,Int.reduceToNat];refine iO rfl rfl (gY Bw.up Bw.up) ?_;simp only[ev,zD,zE,zF,zG];refine iO rfl rfl (nN Bw.up Bw.up) (aR (aJ Tryz.underlying108 aH rfl rfl (by decide) (by decide) rfl) (dW ?_));clear m; intro u m;simp only[ev,zD,zE,zF,zG];refine aV m 0 rfl rfl rfl aH (b9 rfl) rfl ?_;clear m; intro u m; simp only[a8,zH,zI,zJ,zK,zL,zM,zN,zO,zP,zF,zG,Nat.reduceAdd] at m;refine aC (k7 _ _ ?_);refine wp_region_lit (aA (aX (m:=0) (n:=1) (r:=1) rfl rfl (by decide)) (aA (aB) (aC (a7 (aF fun K10 k10=>wp_region_lit (aA (bR (m:=1) (n:=3) rfl rfl (by decide)) (aC (k10 _ _ ?_))))))));refine aF fun K11 k11=>bS rfl (wp_skip (k11 _ _ ?_));refine aF fun K12 k12=>wp_block (aF fun K13 k13=>wp_region_lit (aA (aB) ?_));simp only[ev,zD,zE,zF,zG];refine aA (aD) (aC (k13 _ _ ?_));refine aF fun K14 k14=>wp_region_lit (aA (aB) (aA (aX (m:=1) (n:=1) (r:=2) rfl rfl (by decide)) (aA (dF (m:=2) (n:=3) (r:=2) rfl rfl (by decide) (by decide)) ?_)));simp only[ev,zD,zE,zF,zG];refine aA (aB) (aA (aX (m:=1) (n:=2) (r:=3) rfl rfl (by decide)) (aA (dF (m:=3) (n:=3) (r:=0) rfl rfl (by decide) (by decide)) (aA (aD) ?_)));simp only[ev,zD,zE,zF,zG];refine aA (aD) (aC (k14 _ _ ?_));simp only[ev,zD,zE,zF,zG];refine dQ m 17 aU (by kernel_rfl) ?_;simp only[zH,zI,zJ,zK];refine aR (aB) (aR (aB) (aR (aJ Tryz.underlying108 aH rfl rfl (by decide) (by decide) rfl) ?_));simp only[ev,zD,zE,zF,zG];refine ql rfl (fun u m=>((m.b 3 rfl).lies aY aH rfl rfl)) ?_;simp only[ev,zD,zE,zF,zG,zH,zI,zJ,zK,Nat.zero_add,Nat.reduceAdd,Nat.reduceMul,Int.reduceToNat];refine aR (aB) (aR (aJ Tryz.underlying108 aH rfl rfl (by decide) (by decide) rfl) ?_);simp only[ev,zD,zE,zF,zG];refine ql rfl (fun u m=>((m.b 2 rfl).lies aY aH rfl rfl)) ?_;simp only[ev,zD,zE,zF,zG,zH,zI,zJ,zK,Nat.zero_add,Nat.reduceAdd,Nat.reduceMul,Int.reduceToNat];refine iO rfl rfl (gY Bw.up Bw.up) (aR (aB) (aR (aJ Tryz.underlying108 aH rfl rfl (by decide) (by decide) rfl) ?_));simp only[ev,zD,zE,zF,zG];refine ql rfl (fun u m=>((m.b 3 rfl).lies aY aH rfl rfl)) ?_;simp only[ev,zD,zE,zF,zG,zH,zI,zJ,zK,Nat.zero_add,Nat.reduceAdd,Nat.reduceMul,Int.reduceToNat];refine aR (aB) (aR (aJ Tryz.underlying108 aH rfl rfl (by decide) (by decide) rfl) ?_);simp only[ev,zD,zE,zF,zG];refine ql rfl (fun u m=>((m.b 2 rfl).lies aY aH rfl rfl)) ?_;simp only[ev,zD,zE,zF,zG,zH,zI,zJ,zK,Nat.zero_add,Nat.reduceAdd,Nat.reduceMul,Int.reduceToNat];refine iO rfl rfl (gY Bw.up Bw.up) ?_;simp only[ev,zD,zE,zF,zG];refine iO rfl rfl (nN Bw.up Bw.up) (aR (aJ Tryz.underlying108 aH rfl rfl (by decide) (by decide) rfl) (dW ?_));clear m; intro u m;simp only[ev,zD,zE,zF,zG];refine aV m 0 rfl rfl rfl aH (b9 rfl) rfl ?_;clear m; intro u m; simp only[a8,zH,zI,zJ,zK,zL,zM,zN,zO,zP,zF,zG,Nat.reduceAdd] at m;refine aC (k12 _ _ ?_);refine wp_region_lit (aA (aX (m:=1) (n:=1) (r:=2) rfl rfl (by decide)) (aA (aB) (aC (a7 (aF fun K15 k15=>wp_region_lit (aA (bR (m:=2) (n:=3) rfl rfl (by decide)) (aC (k15 _ _ ?_))))))));refine aF fun K16 k16=>bS rfl (wp_skip (k16 _ _ ?_));refine aF fun K17 k17=>wp_block (aF fun K18 k18=>wp_region_lit (aA (aB) ?_));simp only[ev,zD,zE,zF,zG];refine aA (aD) (aC (k18 _ _ ?_));refine aF fun K19 k19=>wp_region_lit (aA (aB) (aA (aX (m:=2) (n:=1) (r:=3) rfl rfl (by decide)) (aA (dF (m:=3) (n:=3) (r:=0) rfl rfl (by decide) (by decide)) ?_)));simp only[ev,zD,zE,zF,zG];refine aA (aB) (aA (aX (m:=2) (n:=2) (r:=4) rfl rfl (by decide)) (aA (dF (m:=4) (n:=3) (r:=1) rfl rfl (by decide) (by decide)) (aA (aD) ?_)));simp only[ev,zD,zE,zF,zG];refine aA (aD) (aC (k19 _ _ ?_));simp only[ev,zD,zE,zF,zG];refine dQ m 17 aU (by kernel_rfl) ?_;simp only[zH,zI,zJ,zK];refine aR (aB) (aR (aB) (aR (aJ Tryz.underlying108 aH rfl rfl (by decide) (by decide) rfl) ?_));simp only[ev,zD,zE,zF,zG];refine ql rfl (fun u m=>((m.b 3 rfl).lies aY aH rfl rfl)) ?_;simp only[ev,zD,zE,zF,zG,zH,zI,zJ,zK,Nat.zero_add,Nat.reduceAdd,Nat.reduceMul,Int.reduceToNat];refine aR (aB) (aR (aJ Tryz.underlying108 aH rfl rfl (by decide) (by decide) rfl) ?_);simp only[ev,zD,zE,zF,zG];refine ql rfl (fun u m=>((m.b 2 rfl).lies aY aH rfl rfl)) ?_;simp only[ev,zD,zE,zF,zG,zH,zI,zJ,zK,Nat.zero_add,Nat.reduceAdd,Nat.reduceMul,Int.reduceToNat];refine iO rfl rfl (gY Bw.up Bw.up) (aR (aB) (aR (aJ Tryz.underlying108 aH rfl rfl (by decide) (by decide) rfl) ?_));simp only[ev,zD,zE,zF,zG];refine ql rfl (fun u m=>((m.b 3 rfl).lies aY aH rfl rfl)) ?_;simp only[ev,zD,zE,zF,zG,zH,zI,zJ,zK,Nat.zero_add,Nat.reduceAdd,Nat.reduceMul,Int.reduceToNat];refine aR (aB) (aR (aJ Tryz.underlying108 aH rfl rfl (by decide) (by decide) rfl) ?_);simp only[ev,zD,zE,zF,zG];refine ql rfl (fun u m=>((m.b 2 rfl).lies aY aH rfl rfl)) ?_;simp only[ev,zD,zE,zF,zG,zH,zI,zJ,zK,Nat.zero_add,Nat.reduceAdd,Nat.reduceMul,Int.reduceToNat];refine iO rfl rfl (gY Bw.up Bw.up) ?_;simp only[ev,zD,zE,zF,zG];refine iO rfl rfl (nN Bw.up Bw.up) (aR (aJ Tryz.underlying108 aH rfl rfl (by decide) (by decide) rfl) (dW ?_));clear m; intro u m;simp only[ev,zD,zE,zF,zG];refine aV m 0 rfl rfl rfl aH (b9 rfl) rfl ?_;clear m; intro u m; simp only[a8,zH,zI,zJ,zK,zL,zM,zN,zO,zP,zF,zG,Nat.reduceAdd] at m;refine aC (k17 _ _ ?_);refine wp_region_lit (aA (aX (m:=2) (n:=1) (r:=3) rfl rfl (by decide)) (aA (aB) (aC (a7 (aF fun K20 k20=>wp_region_lit (aA (eW (m:=3) (n:=3) rfl rfl (by decide)) (aC (k20 _ _ ?_))))))));refine aF fun K21 k21=>eM rfl (wp_exit (k3 _ _ ?_));refine aF fun K22 k22=>wp_region_lit ?_;simp only[ev,zD,zE,zF,zG];refine aI rfl ((m.b 0 rfl).full dP bE) ?_;simp only[ev,zD,zE,zF,zG];refine aV m 1 rfl rfl rfl bE (b9 rfl) rfl ?_;clear m; intro u m; simp only[a8,zH,zI,zJ,zK,zL,zM,zN,zO,zP,zF,zG,Nat.reduceAdd] at m;refine aC (k22 _ _ ?_);refine wp_ret ?_;try simp only[Exit.inBlock,Exit.then,if_true]
 refine bT rfl ⟨_,rfl,((m.b 1 rfl).full dP bE)⟩ ?_;try simp only[zD,zE]
 exact ⟨_,rfl,m.ext,rfl⟩
theorem O5 {n : Int} {v : P3} {g0 : Nat} (w : World) (hn : Bd 400000 n) (hv : Bv 400000 v) (hB0 : eU w g0 [.bool (b8 n),.string (cW n),.bool (b8 v.x),.string (cW v.x),.bool (b8 v.y),.string (cW v.y),.bool (b8 v.z),.string (cW v.z)] 35) : gD Tryz.prog 73 [.slice (some ⟨g0,0,none⟩) 4 4] w (fun x _=>x = .int .i64 (kR n v)):=by
 refine ⟨P9,?_⟩;have m:=bU.refl w
 go_enter Tryz.func73,Tryz.ntmps73
 refine aF fun K1 k1=>wp_region_lit (aA (aD) (aC (k1 _ _ ?_)));refine aF fun K2 k2=>aF fun K3 k3=>wp_region_lit (aA (aB) (aA (bM rfl Tryz.underlying155 rfl) (aA (aB) ?_)));simp only[ev,zD,zE,zF,zG];refine aC (k3 _ _ ?_);refine wp_block (wp_loop_rounds 5 (dA (aF fun K4 k4=>wp_region_lit (aA (bR (m:=0) (n:=4) rfl rfl (by decide)) (aC (k4 _ _ ?_))))));refine aF fun K5 k5=>bS rfl (wp_skip (k5 _ _ ?_));refine aF fun K6 k6=>wp_block (aF fun K7 k7=>wp_region_lit ?_);simp only[ev,zD,zE,zF,zG];refine aA (aT Tryz.underlying155 aH rfl rfl (by decide) (by omega) rfl) ?_;simp only[ev,zD,zE,zF,zG];refine aI rfl ((hB0.ext m.ext).lies aY aH rfl rfl) ?_;simp only[ev,zD,zE,zF,zG,zH,zI,zJ,zK,Nat.zero_add,Nat.reduceAdd,Nat.reduceMul,Int.reduceToNat];refine bN m cV rfl ?_;clear m; intro g1 u m;simp only[ev,zD,zE,zF,zG];refine aV m 0 rfl rfl rfl aH (b9 rfl) rfl ?_;clear m; intro u m; simp only[a8,zH,zI,zJ,zK,zL,zM,zN,zO,zP,zF,zG,Nat.reduceAdd] at m;refine aC (k7 _ _ ?_);refine aF fun K8 k8=>wp_region_lit (aI rfl ((m.b 0 rfl).full aY aH) ?_);simp only[ev,zD,zE,zF,zG];refine bH m rfl rfl (i5 (a:=n) (hn.mono (by decide))) ?_;clear m; intro u m;refine aA (aD) (aC (k8 _ _ ?_));refine aF fun K9 k9=>wp_region_lit (aA (aB) (aA (nB rfl rfl) ?_));simp only[ev,zD,zE,zF,zG];refine aC (k9 _ _ ?_);refine cK rfl (fun hc2=>?_) (fun hc2=>?_)
 ·
  refine aF fun K10 k10=>wp_region_lit (aA (aB) (aA (aD) (aC (k10 _ _ ?_))));refine wp_ret ?_;simp only[ev,zD,zE,zF,zG];try simp only[Exit.inBlock,Exit.then,if_true]
  refine bT rfl rfl ?_;try simp only[zD,zE]
  exact ⟨_,rfl,m.ext,by rw [kR,if_pos hc2]⟩
 ·
  have e0 : dL n = 0:=Decidable.not_not.1 hc2;refine wp_skip (k6 _ _ ?_);refine wp_region_lit (aA (aX (m:=0) (n:=1) (r:=1) rfl rfl (by decide)) (aA (aB) (aC (a7 (aF fun K11 k11=>wp_region_lit (aA (bR (m:=1) (n:=4) rfl rfl (by decide)) (aC (k11 _ _ ?_))))))));refine aF fun K12 k12=>bS rfl (wp_skip (k12 _ _ ?_));refine aF fun K13 k13=>wp_block (aF fun K14 k14=>wp_region_lit ?_);simp only[ev,zD,zE,zF,zG];refine aA (aT Tryz.underlying155 aH rfl rfl (by decide) (by omega) rfl) ?_;simp only[ev,zD,zE,zF,zG];refine aI rfl ((hB0.ext m.ext).lies aY aH rfl rfl) ?_;simp only[ev,zD,zE,zF,zG,zH,zI,zJ,zK,Nat.zero_add,Nat.reduceAdd,Nat.reduceMul,Int.reduceToNat];refine bN m cV rfl ?_;clear m; intro g2 u m;simp only[ev,zD,zE,zF,zG];refine aV m 0 rfl rfl rfl aH (b9 rfl) rfl ?_;clear m; intro u m; simp only[a8,zH,zI,zJ,zK,zL,zM,zN,zO,zP,zF,zG,Nat.reduceAdd] at m;refine aC (k14 _ _ ?_);refine aF fun K15 k15=>wp_region_lit (aI rfl ((m.b 0 rfl).full aY aH) ?_);simp only[ev,zD,zE,zF,zG];refine bH m rfl rfl (i5 (a:=v.x) (hv.x.mono (by decide))) ?_;clear m; intro u m;refine aA (aD) (aC (k15 _ _ ?_));refine aF fun K16 k16=>wp_region_lit (aA (aB) (aA (nB rfl rfl) ?_));simp only[ev,zD,zE,zF,zG];refine aC (k16 _ _ ?_);refine cK rfl (fun hc2=>?_) (fun hc2=>?_)
  ·
   refine aF fun K17 k17=>wp_region_lit (aA (aB) (aA (aD) (aC (k17 _ _ ?_))));refine wp_ret ?_;simp only[ev,zD,zE,zF,zG];try simp only[Exit.inBlock,Exit.then,if_true]
   refine bT rfl rfl ?_;try simp only[zD,zE]
   exact ⟨_,rfl,m.ext,by rw [kR,if_neg (fun h=>h e0),if_pos hc2]⟩
  ·
   have e1 : dL v.x = 0:=Decidable.not_not.1 hc2;refine wp_skip (k13 _ _ ?_);refine wp_region_lit (aA (aX (m:=1) (n:=1) (r:=2) rfl rfl (by decide)) (aA (aB) (aC (a7 (aF fun K18 k18=>wp_region_lit (aA (bR (m:=2) (n:=4) rfl rfl (by decide)) (aC (k18 _ _ ?_))))))));refine aF fun K19 k19=>bS rfl (wp_skip (k19 _ _ ?_));refine aF fun K20 k20=>wp_block (aF fun K21 k21=>wp_region_lit ?_);simp only[ev,zD,zE,zF,zG];refine aA (aT Tryz.underlying155 aH rfl rfl (by decide) (by omega) rfl) ?_;simp only[ev,zD,zE,zF,zG];refine aI rfl ((hB0.ext m.ext).lies aY aH rfl rfl) ?_;simp only[ev,zD,zE,zF,zG,zH,zI,zJ,zK,Nat.zero_add,Nat.reduceAdd,Nat.reduceMul,Int.reduceToNat];refine bN m cV rfl ?_;clear m; intro g3 u m;simp only[ev,zD,zE,zF,zG];refine aV m 0 rfl rfl rfl aH (b9 rfl) rfl ?_;clear m; intro u m; simp only[a8,zH,zI,zJ,zK,zL,zM,zN,zO,zP,zF,zG,Nat.reduceAdd] at m;refine aC (k21 _ _ ?_);refine aF fun K22 k22=>wp_region_lit (aI rfl ((m.b 0 rfl).full aY aH) ?_);simp only[ev,zD,zE,zF,zG];refine bH m rfl rfl (i5 (a:=v.y) (hv.y.mono (by decide))) ?_;clear m; intro u m;refine aA (aD) (aC (k22 _ _ ?_));refine aF fun K23 k23=>wp_region_lit (aA (aB) (aA (nB rfl rfl) ?_));simp only[ev,zD,zE,zF,zG];refine aC (k23 _ _ ?_);refine cK rfl (fun hc2=>?_) (fun hc2=>?_)
   ·
    refine aF fun K24 k24=>wp_region_lit (aA (aB) (aA (aD) (aC (k24 _ _ ?_))));refine wp_ret ?_;simp only[ev,zD,zE,zF,zG];try simp only[Exit.inBlock,Exit.then,if_true]
    refine bT rfl rfl ?_;try simp only[zD,zE]
    exact ⟨_,rfl,m.ext,by rw [kR,if_neg (fun h=>h e0),if_neg (fun h=>h e1),if_pos hc2]⟩
   ·
    have e2 : dL v.y = 0:=Decidable.not_not.1 hc2;refine wp_skip (k20 _ _ ?_);refine wp_region_lit (aA (aX (m:=2) (n:=1) (r:=3) rfl rfl (by decide)) (aA (aB) (aC (a7 (aF fun K25 k25=>wp_region_lit (aA (bR (m:=3) (n:=4) rfl rfl (by decide)) (aC (k25 _ _ ?_))))))));refine aF fun K26 k26=>bS rfl (wp_skip (k26 _ _ ?_));refine aF fun K27 k27=>wp_block (aF fun K28 k28=>wp_region_lit ?_);simp only[ev,zD,zE,zF,zG];refine aA (aT Tryz.underlying155 aH rfl rfl (by decide) (by omega) rfl) ?_;simp only[ev,zD,zE,zF,zG];refine aI rfl ((hB0.ext m.ext).lies aY aH rfl rfl) ?_;simp only[ev,zD,zE,zF,zG,zH,zI,zJ,zK,Nat.zero_add,Nat.reduceAdd,Nat.reduceMul,Int.reduceToNat];refine bN m cV rfl ?_;clear m; intro g4 u m;simp only[ev,zD,zE,zF,zG];refine aV m 0 rfl rfl rfl aH (b9 rfl) rfl ?_;clear m; intro u m; simp only[a8,zH,zI,zJ,zK,zL,zM,zN,zO,zP,zF,zG,Nat.reduceAdd] at m;refine aC (k28 _ _ ?_);refine aF fun K29 k29=>wp_region_lit (aI rfl ((m.b 0 rfl).full aY aH) ?_);simp only[ev,zD,zE,zF,zG];refine bH m rfl rfl (i5 (a:=v.z) (hv.z.mono (by decide))) ?_;clear m; intro u m;refine aA (aD) (aC (k29 _ _ ?_));refine aF fun K30 k30=>wp_region_lit (aA (aB) (aA (nB rfl rfl) ?_));simp only[ev,zD,zE,zF,zG];refine aC (k30 _ _ ?_);refine cK rfl (fun hc2=>?_) (fun hc2=>?_)
    ·
     refine aF fun K31 k31=>wp_region_lit (aA (aB) (aA (aD) (aC (k31 _ _ ?_))));refine wp_ret ?_;simp only[ev,zD,zE,zF,zG];try simp only[Exit.inBlock,Exit.then,if_true]
     refine bT rfl rfl ?_;try simp only[zD,zE]
     exact ⟨_,rfl,m.ext,by rw [kR,if_neg (fun h=>h e0),if_neg (fun h=>h e1),if_neg (fun h=>h e2),if_pos hc2]⟩
    ·
     have e3 : dL v.z = 0:=Decidable.not_not.1 hc2;refine wp_skip (k27 _ _ ?_);refine wp_region_lit (aA (aX (m:=3) (n:=1) (r:=4) rfl rfl (by decide)) (aA (aB) (aC (a7 (aF fun K32 k32=>wp_region_lit (aA (eW (m:=4) (n:=4) rfl rfl (by decide)) (aC (k32 _ _ ?_))))))));refine aF fun K33 k33=>eM rfl (wp_exit (k2 _ _ ?_));refine aF fun K34 k34=>wp_region_lit (aA (aD) ?_);simp only[ev,zD,zE,zF,zG];refine aC (k34 _ _ ?_);refine wp_ret ?_;try simp only[Exit.inBlock,Exit.then,if_true]
     refine bT rfl rfl ?_;try simp only[zD,zE]
     exact ⟨_,rfl,m.ext,by rw [kR,if_neg (fun h=>h e0),if_neg (fun h=>h e1),if_neg (fun h=>h e2),if_neg (fun h=>h e3)]⟩
theorem Cl {n : Int} {g0 : Nat} (w : World) (hn : Bd 400000 n) (hB0 : eU w g0 [.bool (b8 n),.string (cW n)] 35) : gD Tryz.prog 73 [.slice (some ⟨g0,0,none⟩) 1 1] w (fun x _=>x = .int .i64 (dL n)):=by
 refine ⟨P9,?_⟩;have m:=bU.refl w
 go_enter Tryz.func73,Tryz.ntmps73
 refine aF fun K1 k1=>wp_region_lit (aA (aD) (aC (k1 _ _ ?_)));refine aF fun K2 k2=>aF fun K3 k3=>wp_region_lit (aA (aB) (aA (bM rfl Tryz.underlying155 rfl) (aA (aB) ?_)));simp only[ev,zD,zE,zF,zG];refine aC (k3 _ _ ?_);refine wp_block (wp_loop_rounds 2 (dA (aF fun K4 k4=>wp_region_lit (aA (bR (m:=0) (n:=1) rfl rfl (by decide)) (aC (k4 _ _ ?_))))));refine aF fun K5 k5=>bS rfl (wp_skip (k5 _ _ ?_));refine aF fun K6 k6=>wp_block (aF fun K7 k7=>wp_region_lit ?_);simp only[ev,zD,zE,zF,zG];refine aA (aT Tryz.underlying155 aH rfl rfl (by decide) (by omega) rfl) ?_;simp only[ev,zD,zE,zF,zG];refine aI rfl ((hB0.ext m.ext).lies aY aH rfl rfl) ?_;simp only[ev,zD,zE,zF,zG,zH,zI,zJ,zK,Nat.zero_add,Nat.reduceAdd,Nat.reduceMul,Int.reduceToNat];refine bN m cV rfl ?_;clear m; intro g1 u m;simp only[ev,zD,zE,zF,zG];refine aV m 0 rfl rfl rfl aH (b9 rfl) rfl ?_;clear m; intro u m; simp only[a8,zH,zI,zJ,zK,zL,zM,zN,zO,zP,zF,zG,Nat.reduceAdd] at m;refine aC (k7 _ _ ?_);refine aF fun K8 k8=>wp_region_lit (aI rfl ((m.b 0 rfl).full aY aH) ?_);simp only[ev,zD,zE,zF,zG];refine bH m rfl rfl (i5 (a:=n) (hn.mono (by decide))) ?_;clear m; intro u m;refine aA (aD) (aC (k8 _ _ ?_));refine aF fun K9 k9=>wp_region_lit (aA (aB) (aA (nB rfl rfl) ?_));simp only[ev,zD,zE,zF,zG];refine aC (k9 _ _ ?_);refine cK rfl (fun hc2=>?_) (fun hc2=>?_)
 ·
  refine aF fun K10 k10=>wp_region_lit (aA (aB) (aA (aD) (aC (k10 _ _ ?_))));refine wp_ret ?_;simp only[ev,zD,zE,zF,zG];try simp only[Exit.inBlock,Exit.then,if_true]
  refine bT rfl rfl ?_;try simp only[zD,zE]
  exact ⟨_,rfl,m.ext,rfl⟩
 ·
  refine wp_skip (k6 _ _ ?_);refine wp_region_lit (aA (aX (m:=0) (n:=1) (r:=1) rfl rfl (by decide)) (aA (aB) (aC (a7 (aF fun K11 k11=>wp_region_lit (aA (eW (m:=1) (n:=1) rfl rfl (by decide)) (aC (k11 _ _ ?_))))))));refine aF fun K12 k12=>eM rfl (wp_exit (k2 _ _ ?_));refine aF fun K13 k13=>wp_region_lit (aA (aD) ?_);simp only[ev,zD,zE,zF,zG];refine aC (k13 _ _ ?_);refine wp_ret ?_;try simp only[Exit.inBlock,Exit.then,if_true]
  refine bT rfl rfl ?_;try simp only[zD,zE]
  exact ⟨_,rfl,m.ext,by rw [Decidable.not_not.1 hc2]⟩
theorem oM {n : Int} {v : P3} (hn : Bd 400000 n) (hv : Bv 400000 v) : eI Tryz.prog 72 [W n,wv v] (.int .i64 (kR n v)):=by
 intro w;refine ⟨U5,?_⟩;have m:=bU.refl w
 go_enter Tryz.func72,Tryz.ntmps72
 refine aF fun K1 k1=>wp_region_lit (dJ m rfl ?_);clear m; intro g1 u m;simp only[ev,zD,zE,zF,zG];refine dJ m rfl ?_;clear m; intro g2 u m;refine aA (aD) (aC (k1 _ _ ?_));refine aF fun K2 k2=>wp_region_lit ?_;simp only[ev,zD,zE,zF,zG];refine aI rfl ((m.b 1 rfl).full aY aH) ?_;simp only[ev,zD,zE,zF,zG];refine aA (aJ Tryz.underlying108 aH rfl rfl (by decide) (by decide) rfl) ?_;simp only[ev,zD,zE,zF,zG];refine aI rfl ((m.b 0 rfl).lies aY aH rfl rfl) ?_;simp only[ev,zD,zE,zF,zG,zH,zI,zJ,zK,Nat.zero_add,Nat.reduceAdd,Nat.reduceMul,Int.reduceToNat];refine aA (aJ Tryz.underlying108 aH rfl rfl (by decide) (by decide) rfl) ?_;simp only[ev,zD,zE,zF,zG];refine aI rfl ((m.b 0 rfl).lies aY aH rfl rfl) ?_;simp only[ev,zD,zE,zF,zG,zH,zI,zJ,zK,Nat.zero_add,Nat.reduceAdd,Nat.reduceMul,Int.reduceToNat];refine aA (aJ Tryz.underlying108 aH rfl rfl (by decide) (by decide) rfl) ?_;simp only[ev,zD,zE,zF,zG];refine aI rfl ((m.b 0 rfl).lies aY aH rfl rfl) ?_;simp only[ev,zD,zE,zF,zG,zH,zI,zJ,zK,Nat.zero_add,Nat.reduceAdd,Nat.reduceMul,Int.reduceToNat];refine Fb rfl rfl rfl rfl ?_;intro u g3 e hg hB; replace m:=m.newB e hg hB; clear e hg hB;simp only[ev,zD,zE,zF,zG];refine fA m rfl rfl (O5 (n:=n) (v:=v) _ hn hv (m.b 0 rfl)) ?_;clear m; rintro v u m rfl;refine aA (aD) (aC (k2 _ _ ?_));refine wp_ret ?_;simp only[ev,zD,zE,zF,zG];try simp only[Exit.inBlock,Exit.then,if_true]
 refine bT rfl rfl ?_;try simp only[zD,zE]
 exact ⟨_,rfl,m.ext,rfl⟩
theorem jS {n d : Int} (hn : Bd 400000 n) (hd : Bd 400000 d) (h0 : d ≠ 0) : eI Tryz.prog 62 [W n,W d] (Q (Rat.divInt n d)):=by
 intro w;refine ⟨Uv,?_⟩;have m:=bU.refl w
 go_enter Tryz.func62,Tryz.ntmps62
 refine aF fun K1 k1=>wp_region_lit (dJ m rfl ?_);clear m; intro g1 u m;simp only[ev,zD,zE,zF,zG];refine dJ m rfl ?_;clear m; intro g2 u m;simp only[ev,zD,zE,zF,zG];refine bN m fJ rfl ?_;clear m; intro g3 u m;refine aC (k1 _ _ ?_);refine aF fun K2 k2=>wp_region_lit ?_;simp only[ev,zD,zE,zF,zG];refine aI rfl ((m.b 2 rfl).full aY aH) ?_;simp only[ev,zD,zE,zF,zG];refine aI rfl ((m.b 1 rfl).full aY aH) ?_;simp only[ev,zD,zE,zF,zG];refine bH m rfl rfl (Sb hn hd h0) ?_;clear m; intro u m;refine aA (aB) (aA (bJ rfl rfl) (aA (bJ rfl rfl) ?_));simp only[ev,zD,zE,zF,zG];refine bN m fJ rfl ?_;clear m; intro g4 u m;simp only[ev,zD,zE,zF,zG];refine aV m 0 rfl rfl rfl aS (b9 rfl) rfl ?_;clear m; intro u m; simp only[a8,zH,zI,zJ,zK,zL,zM,zN,zO,zP,zF,zG,Nat.reduceAdd] at m;refine aA (aD) (aC (k2 _ _ ?_));refine aF fun K3 k3=>wp_region_lit ?_;simp only[ev,zD,zE,zF,zG];refine aI rfl ((m.b 0 rfl).full bG aS) ?_;simp only[ev,zD,zE,zF,zG];refine aV m 1 rfl rfl rfl aS (b9 rfl) rfl ?_;clear m; intro u m; simp only[a8,zH,zI,zJ,zK,zL,zM,zN,zO,zP,zF,zG,Nat.reduceAdd] at m;refine aC (k3 _ _ ?_);refine wp_ret ?_;try simp only[Exit.inBlock,Exit.then,if_true]
 refine bT rfl ⟨_,rfl,((m.b 1 rfl).full bG aS)⟩ ?_;try simp only[zD,zE]
 exact ⟨_,rfl,m.ext,rfl⟩
theorem eN  : eI Tryz.prog 43 [] (Q 0):=by
 intro w;refine ⟨Uj,?_⟩;have m:=bU.refl w
 go_enter Tryz.func43,Tryz.ntmps43
 refine aF fun K1 k1=>wp_region_lit (bN m fJ rfl ?_);clear m; intro g1 u m;refine aC (k1 _ _ ?_);refine aF fun K2 k2=>?_;simp only[ev,zD,zE,zF,zG];haveI : Iw (1 : Int):=⟨⟨by decide,by decide⟩⟩
 refine wp_region_lit (aA (uC) ?_);simp only[ev,zD,zE,zF,zG];refine bH m rfl rfl (i6 (n:=1) Iw.h) ?_;clear m; intro u m;simp only[ev,zD,zE,zF,zG];refine bH m rfl rfl (jS (n:=0) (d:=1) (gT _) Bw.up (by decide)) ?_;clear m; intro u m;simp only[ev,zD,zE,zF,zG];refine aV m 0 rfl rfl rfl aS (b9 rfl) rfl ?_;clear m; intro u m; simp only[a8,zH,zI,zJ,zK,zL,zM,zN,zO,zP,zF,zG,Nat.reduceAdd] at m;refine aC (k2 _ _ ?_);refine wp_ret ?_;try simp only[Exit.inBlock,Exit.then,if_true]
 refine bT rfl ⟨_,rfl,((m.b 0 rfl).full bG aS)⟩ ?_;try simp only[zD,zE]
 exact ⟨_,rfl,m.ext,by rw [Rat.zero_divInt]; rfl⟩
theorem uN {r : e8} [IR r] : eI Tryz.prog 63 [nQ r] (.bool (decide r.ok)):=by
 intro w;refine ⟨Uw,?_⟩;have m:=bU.refl w
 go_enter Tryz.func63,Tryz.ntmps63
 refine aF fun K1 k1=>wp_region_lit (dJ m rfl ?_);clear m; intro g1 u m;refine aA (aD) (aC (k1 _ _ ?_));refine aF fun K2 k2=>wp_region_lit (aA (aG (c:=0) Tryz.underlying25 rfl aO rfl rfl) ?_);simp only[ev,zD,zE,zF,zG];refine aI rfl ((m.b 0 rfl).lies1 aZ rfl) ?_;simp only[ev,zD,zE,zF,zG];refine aA (gJ rfl rfl) (aA (aB) (f0 rfl (fun hb=>aG (c:=2) Tryz.underlying25 rfl eJ rfl rfl) ?_));simp only[ev,zD,zE,zF,zG];refine p4 rfl (fun hb=>jN (gI hb rfl) ((m.b 0 rfl).lies o4 eJ rfl rfl)) ?_;simp only[ev,zD,zE,zF,zG,zH,zI,zJ,zK,Nat.zero_add,Nat.reduceAdd,Nat.reduceMul,Int.reduceToNat];refine f0 rfl (fun hb=>mP) (f0 rfl (fun hb=>Hf (gI hb rfl) (gI hb rfl)) (aA (iU rfl rfl rfl) (aA (aD) ?_)));simp only[ev,zD,zE,zF,zG];refine aC (k2 _ _ ?_);refine wp_ret ?_;try simp only[Exit.inBlock,Exit.then,if_true]
 refine bT rfl rfl ?_;try simp only[zD,zE]
 exact ⟨_,rfl,m.ext,iA (Bool.decide_and _ _).symm⟩
end Go.Proofs.YtimjandkmfcmiaaGreatDoor
namespace Go.Proofs.YtimjandkmfcmiaaGreatDoor
open Go.RowKit Go.Lith
set_option maxRecDepth 100000
attribute [local irreducible] wpList wpQuiet dV dK dI Code.wp
instance Wo {k m : Nat} {u v : P3} [hu : Bv k u] [hv : Bv m v] : Bv (max k m + 1) (u.sub v):=⟨hu.x.sub hv.x,hu.y.sub hv.y,hu.z.sub hv.z⟩
theorem V6 {x y : Int} : x = 0 ∨ (x ≠ 0 ∧ ¬ y = x) ∨ (x ≠ 0 ∧ y = x):=by omega
theorem xA {r : e8} [IR r] (h : r.ok) : eI Tryz.prog 63 [nQ r] (.bool true):=by
 have:=uN (r:=r);rwa [decide_eq_true h] at this
theorem xB {r : e8} [IR r] (h : ¬ r.ok) : eI Tryz.prog 63 [nQ r] (.bool false):=by
 have:=uN (r:=r);rwa [decide_eq_false h] at this
theorem O6 : wv ⟨0,0,0⟩ = .agg #[.bool false,.string ⟨#[]⟩,.bool false,.string ⟨#[]⟩,.bool false,.string ⟨#[]⟩]:=by
 simp only[wv,zX];rfl
theorem Ah {v : P3} (hv : Bv 300000 v) : eI Tryz.prog 68 [.agg #[.bool false,.string ⟨#[]⟩,.bool false,.string ⟨#[]⟩,.bool false,.string ⟨#[]⟩],wv v] (wv (P3.sub ⟨0,0,0⟩ v)):=by
 rw [← O6];exact mH ⟨gT _,gT _,gT _⟩ hv
theorem Cm {d p q : P3} {g1 : Nat} (w : World) (hd : Bv 200 d) (hp : Bv 200 p) (hq : Bv 200 q) (hB1 : eU w g1 [.bool (b8 (d).x),.string (cW (d).x),.bool (b8 (d).y),.string (cW (d).y),.bool (b8 (d).z),.string (cW (d).z)] 108) : gD Tryz.prog 105 [wv p,wv q,.pointer (some ⟨g1,0,none⟩)] w (fun v _=>v = .int .i64 (oQ d p q)):=by
 refine ⟨Q3,?_⟩;have m:=bU.refl w
 go_enter Tryz.func105,Tryz.ntmps105
 refine aF fun K1 k1=>wp_region_lit (dJ m rfl ?_);clear m; intro g2 u m;simp only[ev,zD,zE,zF,zG];refine dJ m rfl ?_;clear m; intro g3 u m;refine aA (aD) (aC (k1 _ _ ?_));refine aF fun K2 k2=>?_;simp only[ev,zD,zE,zF,zG];refine mq m aU (by kernel_rfl) (ql rfl (fun u m=>((hB1.ext m.ext).lies dP bE rfl rfl)) ?_);simp only[ev,zD,zE,zF,zG,zH,zI,zJ,zK,Nat.zero_add,Nat.reduceAdd,Nat.reduceMul,Int.reduceToNat];refine ql rfl (fun u m=>((m.b 1 rfl).full dP bE)) ?_;simp only[ev,zD,zE,zF,zG];refine ql rfl (fun u m=>((m.b 0 rfl).full dP bE)) ?_;simp only[ev,zD,zE,zF,zG];refine iO rfl rfl (D5 Bv.of Bv.of) ?_;simp only[ev,zD,zE,zF,zG];refine iO rfl rfl (Fs Bv.of Bv.of) ?_;simp only[ev,zD,zE,zF,zG];refine ql rfl (fun u m=>((hB1.ext m.ext).lies dP bE rfl rfl)) ?_;simp only[ev,zD,zE,zF,zG,zH,zI,zJ,zK,Nat.zero_add,Nat.reduceAdd,Nat.reduceMul,Int.reduceToNat];refine ql rfl (fun u m=>((m.b 0 rfl).full dP bE)) ?_;simp only[ev,zD,zE,zF,zG];refine ql rfl (fun u m=>((m.b 1 rfl).full dP bE)) ?_;simp only[ev,zD,zE,zF,zG];refine iO rfl rfl (mH Bv.of Bv.of) ?_;simp only[ev,zD,zE,zF,zG];refine iO rfl rfl (D5 Bv.of Bv.of) ?_;simp only[ev,zD,zE,zF,zG];refine iO rfl rfl (oM Bw.up Bv.of) (aR (aD) (dW ?_));clear m; intro u m;refine k2 _ _ ?_;refine wp_ret ?_;simp only[ev,zD,zE,zF,zG];try simp only[Exit.inBlock,Exit.then,if_true]
 refine bT rfl rfl ?_;try simp only[zD,zE]
 exact ⟨_,rfl,m.ext,rfl⟩
theorem Md {d a b c : P3} (hd : Bv 200 d) (ha : Bv 200 a) (hb : Bv 200 b) (hc : Bv 200 c) : eI Tryz.prog 69 [wv d,.agg #[.bool (b8 (a).x),.string (cW (a).x),.bool (b8 (a).y),.string (cW (a).y),.bool (b8 (a).z),.string (cW (a).z),.bool (b8 (b).x),.string (cW (b).x),.bool (b8 (b).y),.string (cW (b).y),.bool (b8 (b).z),.string (cW (b).z),.bool (b8 (c).x),.string (cW (c).x),.bool (b8 (c).y),.string (cW (c).y),.bool (b8 (c).z),.string (cW (c).z)]] (.bool (decide (z6 d a b c))):=by
 intro w;refine ⟨U2,?_⟩;have m:=bU.refl w
 go_enter Tryz.func69,Tryz.ntmps69
 refine aF fun K1 k1=>wp_region_lit (dJ m rfl ?_);clear m; intro g1 u m;simp only[ev,zD,zE,zF,zG];refine dJ m rfl ?_;clear m; intro g2 u m;refine aA (aD) (aC (k1 _ _ ?_));refine aF fun K2 k2=>wp_region_lit ?_;simp only[ev,zD,zE,zF,zG];refine aA (vQ) ?_;simp only[ev,zD,zE,zF,zG,List.map_toArray,List.map_cons,List.map_nil];refine aA (aD) (aC (k2 _ _ ?_));refine aF fun K3 k3=>wp_region_lit (aA (aB) (aA (aJ Tryz.underlying110 bE rfl rfl (by decide) (by decide) rfl) ?_));simp only[ev,zD,zE,zF,zG];refine aI rfl ((m.b 0 rfl).lies dP bE rfl rfl) ?_;simp only[ev,zD,zE,zF,zG,zH,zI,zJ,zK,Nat.zero_add,Nat.reduceAdd,Nat.reduceMul,Int.reduceToNat];refine aA (aJ Tryz.underlying110 bE rfl rfl (by decide) (by decide) rfl) ?_;simp only[ev,zD,zE,zF,zG];refine aI rfl ((m.b 0 rfl).lies dP bE rfl rfl) ?_;simp only[ev,zD,zE,zF,zG,zH,zI,zJ,zK,Nat.zero_add,Nat.reduceAdd,Nat.reduceMul,Int.reduceToNat];refine fA m rfl rfl (Cm (d:=d) (p:=a) (q:=b) _ hd ha hb (m.b 1 rfl)) ?_;clear m; rintro v u m rfl;refine aA (aD) (aC (k3 _ _ ?_));refine aF fun K4 k4=>?_;simp only[ev,zD,zE,zF,zG];rcases V6 (x:=oQ d a b) (y:=oQ d b c) with h0 | ⟨h0,h1⟩ | ⟨h0,h1⟩
 ·
  refine wp_region_lit (aA (aB) (aA (qQ rfl rfl (not_not_intro h0)) (aA (aB) (bD rfl ?_))));simp only[ev,zD,zE,zF,zG];refine bD rfl (bD rfl (bD rfl (bD rfl ?_)));simp only[ev,zD,zE,zF,zG];refine bD rfl (bD rfl (bD rfl (aA (cU rfl) ?_)));simp only[ev,zD,zE,zF,zG];refine aA (aB) (bD rfl (bD rfl (bD rfl ?_)));simp only[ev,zD,zE,zF,zG];refine bD rfl (bD rfl (bD rfl (bD rfl ?_)));simp only[ev,zD,zE,zF,zG];refine bD rfl (aA (cU rfl) (aA (aD) (aC (k4 _ _ ?_))));refine wp_ret ?_;simp only[ev,zD,zE,zF,zG];try simp only[Exit.inBlock,Exit.then,if_true]
  refine bT rfl rfl ?_;try simp only[zD,zE]
  exact ⟨_,rfl,m.ext,iA (decide_eq_false (fun k=>k.1 h0)).symm⟩
 ·
  refine wp_region_lit (aA (aB) (aA (Aw rfl rfl (h0)) (aA (aB) (aW rfl (aA (aB) ?_)))));simp only[ev,zD,zE,zF,zG];refine aW rfl (aA (aJ Tryz.underlying110 bE rfl rfl (by decide) (by decide) rfl) (aW rfl ?_));simp only[ev,zD,zE,zF,zG];refine aI rfl ((m.b 0 rfl).lies dP bE rfl rfl) ?_;simp only[ev,zD,zE,zF,zG,zH,zI,zJ,zK,Nat.zero_add,Nat.reduceAdd,Nat.reduceMul,Int.reduceToNat];refine aW rfl (aA (aJ Tryz.underlying110 bE rfl rfl (by decide) (by decide) rfl) (aW rfl ?_));simp only[ev,zD,zE,zF,zG];refine aI rfl ((m.b 0 rfl).lies dP bE rfl rfl) ?_;simp only[ev,zD,zE,zF,zG,zH,zI,zJ,zK,Nat.zero_add,Nat.reduceAdd,Nat.reduceMul,Int.reduceToNat];refine aW rfl (fA m rfl rfl (Cm (d:=d) (p:=b) (q:=c) _ hd hb hc (m.b 1 rfl)) ?_);clear m; rintro v u m rfl;refine aW rfl (aA (aB) (aW rfl (aA (nX rfl rfl (h1)) (aA (cQ rfl) ?_))));simp only[ev,zD,zE,zF,zG];refine aA (aB) (bD rfl (bD rfl (bD rfl ?_)));simp only[ev,zD,zE,zF,zG];refine bD rfl (bD rfl (bD rfl (bD rfl ?_)));simp only[ev,zD,zE,zF,zG];refine bD rfl (aA (cU rfl) (aA (aD) (aC (k4 _ _ ?_))));refine wp_ret ?_;simp only[ev,zD,zE,zF,zG];try simp only[Exit.inBlock,Exit.then,if_true]
  refine bT rfl rfl ?_;try simp only[zD,zE]
  exact ⟨_,rfl,m.ext,iA (decide_eq_false (fun k=>h1 k.2.1)).symm⟩
 ·
  refine wp_region_lit (aA (aB) (aA (Aw rfl rfl (h0)) (aA (aB) (aW rfl (aA (aB) ?_)))));simp only[ev,zD,zE,zF,zG];refine aW rfl (aA (aJ Tryz.underlying110 bE rfl rfl (by decide) (by decide) rfl) (aW rfl ?_));simp only[ev,zD,zE,zF,zG];refine aI rfl ((m.b 0 rfl).lies dP bE rfl rfl) ?_;simp only[ev,zD,zE,zF,zG,zH,zI,zJ,zK,Nat.zero_add,Nat.reduceAdd,Nat.reduceMul,Int.reduceToNat];refine aW rfl (aA (aJ Tryz.underlying110 bE rfl rfl (by decide) (by decide) rfl) (aW rfl ?_));simp only[ev,zD,zE,zF,zG];refine aI rfl ((m.b 0 rfl).lies dP bE rfl rfl) ?_;simp only[ev,zD,zE,zF,zG,zH,zI,zJ,zK,Nat.zero_add,Nat.reduceAdd,Nat.reduceMul,Int.reduceToNat];refine aW rfl (fA m rfl rfl (Cm (d:=d) (p:=b) (q:=c) _ hd hb hc (m.b 1 rfl)) ?_);clear m; rintro v u m rfl;refine aW rfl (aA (aB) (aW rfl (aA (nW rfl rfl (h1)) (aA (cQ rfl) ?_))));simp only[ev,zD,zE,zF,zG];refine aA (aB) (aW rfl (aA (aB) (aW rfl (aA (aJ Tryz.underlying110 bE rfl rfl (by decide) (by decide) rfl) (aW rfl ?_)))));simp only[ev,zD,zE,zF,zG];refine aI rfl ((m.b 0 rfl).lies dP bE rfl rfl) ?_;simp only[ev,zD,zE,zF,zG,zH,zI,zJ,zK,Nat.zero_add,Nat.reduceAdd,Nat.reduceMul,Int.reduceToNat];refine aW rfl (aA (aJ Tryz.underlying110 bE rfl rfl (by decide) (by decide) rfl) (aW rfl ?_));simp only[ev,zD,zE,zF,zG];refine aI rfl ((m.b 0 rfl).lies dP bE rfl rfl) ?_;simp only[ev,zD,zE,zF,zG,zH,zI,zJ,zK,Nat.zero_add,Nat.reduceAdd,Nat.reduceMul,Int.reduceToNat];refine aW rfl (fA m rfl rfl (Cm (d:=d) (p:=c) (q:=a) _ hd hc ha (m.b 1 rfl)) ?_);clear m; rintro v u m rfl;refine aW rfl (aA (aB) (aW rfl (aA (lZ rfl rfl) (aA (cQ rfl) ?_))));simp only[ev,zD,zE,zF,zG];refine aA (aD) (aC (k4 _ _ ?_));refine wp_ret ?_;simp only[ev,zD,zE,zF,zG];try simp only[Exit.inBlock,Exit.then,if_true]
  refine bT rfl rfl ?_;try simp only[zD,zE]
  exact ⟨_,rfl,m.ext,iA (decide_eq_decide.2 ⟨fun k=>⟨h0,h1,k⟩,fun k=>k.2.2⟩)⟩
end Go.Proofs.YtimjandkmfcmiaaGreatDoor
