/-
 Texts of one claim, laid together: Exact2, K6, Sla, K7, Guard2, K8, K9, K10, K11, Kt, K16, Round, Sides, LoopF, Seq, K26, Near2, Ifc, Tch1, K12, K13, K14.
-/
import Derived.RangeFuncNested
import Derived.OrdersIn
import Derived.RangeFuncCalls
import Derived.RangeFuncBox
import Derived.Stop.Asserts
import Derived.Test.YtfekpcimgncioaaGreatDoorCS5
open Nat renaming reduceAdd→aa,reduceMul→ad,le_refl→ap,zero_add→aq,le_trans→az,zero_le→cd,lt_succ_self→dq,reduceSub→i_,not_lt_zero→ma
open Int renaming reduceToNat→ab,toNat_natCast→ag,reduceAdd→ai,lt_trichotomy→mw
open Go renaming Value→ac,World→ah,TypeId→aj,wp_region_lit→am,wpList→ao,Operand→a_,Program→bc,run_underlying→bu,MapEntry→bx,wpQuiet→bz,Deferred→cg,execOp→ck,wp_block→ig
open List renaming mem_cons→ak,getElem?_eq_some_iff→ar,length_cons→au,flatMap_append→av,length_append→aw,mem_singleton→ay,mem_of_getElem?→ba,mem_append→bg,pairwise_cons→bj,mem_cons_of_mem→bm,map_cons→bn,mem_cons_self→bp,length_nil→bt,nil_append→bv,not_mem_nil→bw,cons_append→b_,map_append→cl,length_map→ct,getElem?_drop→cu,map_nil→c_,mem_map→dj,mem_iff_getElem?→dm,toList_toArray→dt,getElem?_map→dw,all_eq_true→ew,map_toArray→fb,mem_map_of_mem→fe,size_toArray→fh,filter_append→gj,append_toArray→gr,push_toArray→g_,range→ip,nodup_nil→jw,all_eq_false→mx,pairwise_map→my
open Go.Value renaming bool→bf
open Bool renaming and_eq_true→bh,not_false→ei,not_true→el,or_eq_true→fu
open Go.Oper renaming mk→bi,upon→lj,uponIn→mz,semAt→np
open Go.Exit renaming inBlock→cj
open Array renaming getElem?_eq_some_iff→da,replicate→fc,replicate_succ→gd,replicate_zero→gg,getElem?_setIfInBounds_ne→gu
open List.cons renaming injEq→ke
set_option maxHeartbeats 8000000
set_option linter.unusedSimpArgs false
set_option linter.unusedVariables false
set_option linter.unusedSectionVars false
namespace Go.Proofs.YtfekpcimgncioaaGreatDoor
open Go.Proofs.Tryz
open Go.RowKit Go.Lith
set_option maxRecDepth 100000
attribute [local irreducible] ao bz eZ bE bX Code.wp
attribute [local congr] nO fF fG fH fI fJ jH fK fL fM fN fO fP fQ fR fS fT fU dX dY fV fW fY fZ gA jJ cO cP cA cN fX jI dZ eA eB gB gC jK
theorem Pg{a b c d:P3}[I3 a][I3 b][I3 c][I3 d]{g0:Nat}(w:ah)(hB0:fA w g0 [.int .i64 a.x,.int .i64 a.y,.int .i64 a.z,.int .i64 b.x,.int .i64 b.y,.int .i64 b.z,.int .i64 c.x,.int .i64 c.y,.int .i64 c.z,.int .i64 d.x,.int .i64 d.y,.int .i64 d.z] 30):dF prog 298 [.slice (some ⟨g0,0,none⟩) 4 4] w (fun v _=>∃bo:Bool,v=.bool bo∧(bo=true→S3 a∧S3 b∧S3 c∧S3 d)):=by
 refine⟨akC,?_⟩;have m:=Mem.refl w
 go_enter func298,ntmps298
 refine eS 25 [5,1,0] m ?_;simp only[↓aD,kX];refine⟨by omega,?_⟩;intro u m;refine aB (aF dS aA rfl rfl (by decide) (by decide) rfl) ?_;simp only[zz];refine aO rfl ((hB0.ext m.ext).lies aG aA rfl rfl) ?_;simp only[zz,zy,aq,aa,ad,ab];refine aP 28 [0,0,0,0,4,1,0] m ?_;simp only[↓aD,eU,aR,iZ,dR,jA,jP,tR,aa];intro g1;refine⟨by omega,?_⟩;intro u m;refine aB (iJ rfl rfl) (aP 6 [0] m ?_);simp only[↓aD];intro u m;refine aB (sA rfl rfl) (aB (tE rfl rfl rfl) (aB (kS lP jN rfl (vG Iw.h)) ?_));simp only[zz];refine cW m rfl rfl (mA (X:=(a.x).natAbs) _ (by have:=(Iw.h:oV a.x).natAbs;omega)) ?_;clear m;rintro v u m ⟨n,rfl,hn0,hn1,hax⟩;refine aP 2 [0,0] m ?_;simp only[↓aD];intro u m;refine bC rfl (fun hc3=>?_) (fun hc3=>?_)
 ·
  refine aS 5 [] m ?_;simp only[↓aD];intro u m;refine aQ rfl rfl ?_;try simp only[zD,zE]
  exact⟨_,rfl,m.ext,false,rfl,fun h=>by cases h⟩
 ·
  replace hax:=hax (by omega);clear hc3 hn0 hn1;refine aS 18 [1,0] m ?_;simp only[↓aD,ai];refine⟨by omega,?_⟩;intro u m;refine aB (iK rfl rfl) (aP 6 [0] m ?_);simp only[↓aD];intro u m;refine aB (sA rfl rfl) (aB (tE rfl rfl rfl) (aB (kS lP jN rfl (vG Iw.h)) ?_));simp only[zz];refine cW m rfl rfl (mA (X:=(a.y).natAbs) _ (by have:=(Iw.h:oV a.y).natAbs;omega)) ?_;clear m;rintro v u m ⟨n,rfl,hn0,hn1,hay⟩;refine aP 2 [0,0] m ?_;simp only[↓aD];intro u m;refine bC rfl (fun hc3=>?_) (fun hc3=>?_)
  ·
   refine aS 5 [] m ?_;simp only[↓aD];intro u m;refine aQ rfl rfl ?_;try simp only[zD,zE]
   exact⟨_,rfl,m.ext,false,rfl,fun h=>by cases h⟩
  ·
   replace hay:=hay (by omega);clear hc3 hn0 hn1;refine aS 18 [1,0] m ?_;simp only[↓aD,ai];refine⟨by omega,?_⟩;intro u m;refine aB (iL rfl rfl) (aP 6 [0] m ?_);simp only[↓aD];intro u m;refine aB (sA rfl rfl) (aB (tE rfl rfl rfl) (aB (kS lP jN rfl (vG Iw.h)) ?_));simp only[zz];refine cW m rfl rfl (mA (X:=(a.z).natAbs) _ (by have:=(Iw.h:oV a.z).natAbs;omega)) ?_;clear m;rintro v u m ⟨n,rfl,hn0,hn1,haz⟩;refine aP 2 [0,0] m ?_;simp only[↓aD];intro u m;refine bC rfl (fun hc3=>?_) (fun hc3=>?_)
   ·
    refine aS 5 [] m ?_;simp only[↓aD];intro u m;refine aQ rfl rfl ?_;try simp only[zD,zE]
    exact⟨_,rfl,m.ext,false,rfl,fun h=>by cases h⟩
   ·
    replace haz:=haz (by omega);clear hc3 hn0 hn1;refine aS 31 [2,1,0] m ?_;simp only[↓aD,ai];refine⟨by omega,?_⟩;intro u m;refine aB (aF dS aA rfl rfl (by decide) (by decide) rfl) ?_;simp only[zz];refine aO rfl ((hB0.ext m.ext).lies aG aA rfl rfl) ?_;simp only[zz,zy,aq,aa,ad,ab];refine aP 28 [0,0,0,0,4,1,0] m ?_;simp only[↓aD,eU,aR,iZ,dR,jA,jP,tR,aa];intro g2;refine⟨by omega,?_⟩;intro u m;refine aB (iJ rfl rfl) (aP 6 [0] m ?_);simp only[↓aD];intro u m;refine aB (sA rfl rfl) (aB (tE rfl rfl rfl) (aB (kS lP jN rfl (vG Iw.h)) ?_));simp only[zz];refine cW m rfl rfl (mA (X:=(b.x).natAbs) _ (by have:=(Iw.h:oV b.x).natAbs;omega)) ?_;clear m;rintro v u m ⟨n,rfl,hn0,hn1,hbx⟩;refine aP 2 [0,0] m ?_;simp only[↓aD];intro u m;refine bC rfl (fun hc3=>?_) (fun hc3=>?_)
    ·
     refine aS 5 [] m ?_;simp only[↓aD];intro u m;refine aQ rfl rfl ?_;try simp only[zD,zE]
     exact⟨_,rfl,m.ext,false,rfl,fun h=>by cases h⟩
    ·
     replace hbx:=hbx (by omega);clear hc3 hn0 hn1;refine aS 18 [1,0] m ?_;simp only[↓aD,ai];refine⟨by omega,?_⟩;intro u m;refine aB (iK rfl rfl) (aP 6 [0] m ?_);simp only[↓aD];intro u m;refine aB (sA rfl rfl) (aB (tE rfl rfl rfl) (aB (kS lP jN rfl (vG Iw.h)) ?_));simp only[zz];refine cW m rfl rfl (mA (X:=(b.y).natAbs) _ (by have:=(Iw.h:oV b.y).natAbs;omega)) ?_;clear m;rintro v u m ⟨n,rfl,hn0,hn1,hby⟩;refine aP 2 [0,0] m ?_;simp only[↓aD];intro u m;refine bC rfl (fun hc3=>?_) (fun hc3=>?_)
     ·
      refine aS 5 [] m ?_;simp only[↓aD];intro u m;refine aQ rfl rfl ?_;try simp only[zD,zE]
      exact⟨_,rfl,m.ext,false,rfl,fun h=>by cases h⟩
     ·
      replace hby:=hby (by omega);clear hc3 hn0 hn1;refine aS 18 [1,0] m ?_;simp only[↓aD,ai];refine⟨by omega,?_⟩;intro u m;refine aB (iL rfl rfl) (aP 6 [0] m ?_);simp only[↓aD];intro u m;refine aB (sA rfl rfl) (aB (tE rfl rfl rfl) (aB (kS lP jN rfl (vG Iw.h)) ?_));simp only[zz];refine cW m rfl rfl (mA (X:=(b.z).natAbs) _ (by have:=(Iw.h:oV b.z).natAbs;omega)) ?_;clear m;rintro v u m ⟨n,rfl,hn0,hn1,hbz⟩;refine aP 2 [0,0] m ?_;simp only[↓aD];intro u m;refine bC rfl (fun hc3=>?_) (fun hc3=>?_)
      ·
       refine aS 5 [] m ?_;simp only[↓aD];intro u m;refine aQ rfl rfl ?_;try simp only[zD,zE]
       exact⟨_,rfl,m.ext,false,rfl,fun h=>by cases h⟩
      ·
       replace hbz:=hbz (by omega);clear hc3 hn0 hn1;refine aS 31 [2,1,0] m ?_;simp only[↓aD,ai];refine⟨by omega,?_⟩;intro u m;refine aB (aF dS aA rfl rfl (by decide) (by decide) rfl) ?_;simp only[zz];refine aO rfl ((hB0.ext m.ext).lies aG aA rfl rfl) ?_;simp only[zz,zy,aq,aa,ad,ab];refine aP 28 [0,0,0,0,4,1,0] m ?_;simp only[↓aD,eU,aR,iZ,dR,jA,jP,tR,aa];intro g3;refine⟨by omega,?_⟩;intro u m;refine aB (iJ rfl rfl) (aP 6 [0] m ?_);simp only[↓aD];intro u m;refine aB (sA rfl rfl) (aB (tE rfl rfl rfl) (aB (kS lP jN rfl (vG Iw.h)) ?_));simp only[zz];refine cW m rfl rfl (mA (X:=(c.x).natAbs) _ (by have:=(Iw.h:oV c.x).natAbs;omega)) ?_;clear m;rintro v u m ⟨n,rfl,hn0,hn1,hcx⟩;refine aP 2 [0,0] m ?_;simp only[↓aD];intro u m;refine bC rfl (fun hc3=>?_) (fun hc3=>?_)
       ·
        refine aS 5 [] m ?_;simp only[↓aD];intro u m;refine aQ rfl rfl ?_;try simp only[zD,zE]
        exact⟨_,rfl,m.ext,false,rfl,fun h=>by cases h⟩
       ·
        replace hcx:=hcx (by omega);clear hc3 hn0 hn1;refine aS 18 [1,0] m ?_;simp only[↓aD,ai];refine⟨by omega,?_⟩;intro u m;refine aB (iK rfl rfl) (aP 6 [0] m ?_);simp only[↓aD];intro u m;refine aB (sA rfl rfl) (aB (tE rfl rfl rfl) (aB (kS lP jN rfl (vG Iw.h)) ?_));simp only[zz];refine cW m rfl rfl (mA (X:=(c.y).natAbs) _ (by have:=(Iw.h:oV c.y).natAbs;omega)) ?_;clear m;rintro v u m ⟨n,rfl,hn0,hn1,hcy⟩;refine aP 2 [0,0] m ?_;simp only[↓aD];intro u m;refine bC rfl (fun hc3=>?_) (fun hc3=>?_)
        ·
         refine aS 5 [] m ?_;simp only[↓aD];intro u m;refine aQ rfl rfl ?_;try simp only[zD,zE]
         exact⟨_,rfl,m.ext,false,rfl,fun h=>by cases h⟩
        ·
         replace hcy:=hcy (by omega);clear hc3 hn0 hn1;refine aS 18 [1,0] m ?_;simp only[↓aD,ai];refine⟨by omega,?_⟩;intro u m;refine aB (iL rfl rfl) (aP 6 [0] m ?_);simp only[↓aD];intro u m;refine aB (sA rfl rfl) (aB (tE rfl rfl rfl) (aB (kS lP jN rfl (vG Iw.h)) ?_));simp only[zz];refine cW m rfl rfl (mA (X:=(c.z).natAbs) _ (by have:=(Iw.h:oV c.z).natAbs;omega)) ?_;clear m;rintro v u m ⟨n,rfl,hn0,hn1,hcz⟩;refine aP 2 [0,0] m ?_;simp only[↓aD];intro u m;refine bC rfl (fun hc3=>?_) (fun hc3=>?_)
         ·
          refine aS 5 [] m ?_;simp only[↓aD];intro u m;refine aQ rfl rfl ?_;try simp only[zD,zE]
          exact⟨_,rfl,m.ext,false,rfl,fun h=>by cases h⟩
         ·
          replace hcz:=hcz (by omega);clear hc3 hn0 hn1;refine aS 31 [2,1,0] m ?_;simp only[↓aD,ai];refine⟨by omega,?_⟩;intro u m;refine aB (aF dS aA rfl rfl (by decide) (by decide) rfl) ?_;simp only[zz];refine aO rfl ((hB0.ext m.ext).lies aG aA rfl rfl) ?_;simp only[zz,zy,aq,aa,ad,ab];refine aP 28 [0,0,0,0,4,1,0] m ?_;simp only[↓aD,eU,aR,iZ,dR,jA,jP,tR,aa];intro g4;refine⟨by omega,?_⟩;intro u m;refine aB (iJ rfl rfl) (aP 6 [0] m ?_);simp only[↓aD];intro u m;refine aB (sA rfl rfl) (aB (tE rfl rfl rfl) (aB (kS lP jN rfl (vG Iw.h)) ?_));simp only[zz];refine cW m rfl rfl (mA (X:=(d.x).natAbs) _ (by have:=(Iw.h:oV d.x).natAbs;omega)) ?_;clear m;rintro v u m ⟨n,rfl,hn0,hn1,hdx⟩;refine aP 2 [0,0] m ?_;simp only[↓aD];intro u m;refine bC rfl (fun hc3=>?_) (fun hc3=>?_)
          ·
           refine aS 5 [] m ?_;simp only[↓aD];intro u m;refine aQ rfl rfl ?_;try simp only[zD,zE]
           exact⟨_,rfl,m.ext,false,rfl,fun h=>by cases h⟩
          ·
           replace hdx:=hdx (by omega);clear hc3 hn0 hn1;refine aS 18 [1,0] m ?_;simp only[↓aD,ai];refine⟨by omega,?_⟩;intro u m;refine aB (iK rfl rfl) (aP 6 [0] m ?_);simp only[↓aD];intro u m;refine aB (sA rfl rfl) (aB (tE rfl rfl rfl) (aB (kS lP jN rfl (vG Iw.h)) ?_));simp only[zz];refine cW m rfl rfl (mA (X:=(d.y).natAbs) _ (by have:=(Iw.h:oV d.y).natAbs;omega)) ?_;clear m;rintro v u m ⟨n,rfl,hn0,hn1,hdy⟩;refine aP 2 [0,0] m ?_;simp only[↓aD];intro u m;refine bC rfl (fun hc3=>?_) (fun hc3=>?_)
           ·
            refine aS 5 [] m ?_;simp only[↓aD];intro u m;refine aQ rfl rfl ?_;try simp only[zD,zE]
            exact⟨_,rfl,m.ext,false,rfl,fun h=>by cases h⟩
           ·
            replace hdy:=hdy (by omega);clear hc3 hn0 hn1;refine aS 18 [1,0] m ?_;simp only[↓aD,ai];refine⟨by omega,?_⟩;intro u m;refine aB (iL rfl rfl) (aP 6 [0] m ?_);simp only[↓aD];intro u m;refine aB (sA rfl rfl) (aB (tE rfl rfl rfl) (aB (kS lP jN rfl (vG Iw.h)) ?_));simp only[zz];refine cW m rfl rfl (mA (X:=(d.z).natAbs) _ (by have:=(Iw.h:oV d.z).natAbs;omega)) ?_;clear m;rintro v u m ⟨n,rfl,hn0,hn1,hdz⟩;refine aP 2 [0,0] m ?_;simp only[↓aD];intro u m;refine bC rfl (fun hc3=>?_) (fun hc3=>?_)
            ·
             refine aS 5 [] m ?_;simp only[↓aD];intro u m;refine aQ rfl rfl ?_;try simp only[zD,zE]
             exact⟨_,rfl,m.ext,false,rfl,fun h=>by cases h⟩
            ·
             replace hdz:=hdz (by omega);clear hc3 hn0 hn1;refine aS 32 [2,2] m ?_;simp only[↓aD,ai];refine⟨by omega,?_⟩;intro u m;exact aQ rfl rfl (⟨_,rfl,m.ext,true,rfl,fun _=>⟨⟨hax,hay,haz⟩,⟨hbx,hby,hbz⟩,⟨hcx,hcy,hcz⟩,⟨hdx,hdy,hdz⟩⟩⟩)
theorem oQ{a b c d:P3}[I3 a][I3 b][I3 c][I3 d]:eM prog 238 [pt a,pt b,pt c,pt d] (sg ((b.sub a).cross (d.sub c))):=by
 intro w;refine⟨akn,?_⟩;have m:=Mem.refl w
 go_enter func238,ntmps238
 refine eS 19 [5,4,3,2] m ?_;simp only[↓aD,Gr,aR];intro g1 g2 g3 g4 g5 g6;intro u m;refine go (Of rfl rfl rfl rfl ?_);intro u g7 e hg hB;replace m:=m.newB e hg hB;clear e hg hB;simp only[zz];refine cW m rfl rfl (Pg _ (m.b 0 rfl)) ?_;clear m;rintro v u m ⟨bo,rfl,hsm⟩;refine aP 1 [0] m ?_;simp only[↓aD];intro u m;refine gR rfl (fun hc1=>?_) (fun hc1=>?_)
 ·
  obtain⟨_,_,_,_⟩:=hsm hc1;refine aS 2 [0] m ?_;simp only[↓aD];intro u m;refine mq m aC (by kernel_rfl) (ql rfl (fun u m=>((m.b 6 rfl).full aG aA)) ?_);simp only[zz];refine ql rfl (fun u m=>((m.b 5 rfl).full aG aA)) ?_;simp only[zz];refine iF rfl rfl nT ?_;simp only[zz];refine ql rfl (fun u m=>((m.b 4 rfl).full aG aA)) ?_;simp only[zz];refine ql rfl (fun u m=>((m.b 3 rfl).full aG aA)) ?_;simp only[zz];refine iF rfl rfl nT ?_;simp only[zz];refine iF rfl rfl (Au inferInstance inferInstance) (aH aI (aY ?_));clear m;intro u m;refine cR 15 [4,1,0] m ?_;simp only[↓aD];refine⟨by omega,?_⟩;intro u m;refine aB (Mu rfl rfl) (aP 6 [0] m ?_);simp only[↓aD];intro u m;refine vJ m rfl rfl Sq 21 [1,1,0] ?_;simp only[↓aD,gY,dR,ab,ad,aa,ai];refine⟨by omega,?_⟩;intro u m;refine aB (Mw rfl rfl) (aP 6 [0] m ?_);simp only[↓aD];intro u m;refine vJ m rfl rfl Sq 21 [1,1,0] ?_;simp only[↓aD,gY,dR,ab,ad,aa,ai];refine⟨by omega,?_⟩;intro u m;refine aB (Mx rfl rfl) (aP 6 [0] m ?_);simp only[↓aD];intro u m;refine vJ m rfl rfl Sq 22 [1,2,1,2] ?_;simp only[↓aD,gY,dR,xE,ab,ad,aa,ai];refine⟨by omega,?_⟩;intro u m;exact aQ rfl ⟨_,rfl,((m.b 2 rfl).full Qu Co)⟩ (⟨_,rfl,m.ext,rfl⟩)
 ·
  refine aS 3 [0] m ?_;simp only[↓aD];intro u m;refine mq m aC (by kernel_rfl) (ql rfl (fun u m=>((m.b 6 rfl).full aG aA)) ?_);simp only[zz];refine ql rfl (fun u m=>((m.b 5 rfl).full aG aA)) ?_;simp only[zz];refine iF rfl rfl kZ ?_;simp only[zz];refine ql rfl (fun u m=>((m.b 4 rfl).full aG aA)) ?_;simp only[zz];refine ql rfl (fun u m=>((m.b 3 rfl).full aG aA)) ?_;simp only[zz];refine iF rfl rfl kZ ?_;simp only[zz];refine iF rfl rfl (uY Bv.of Bv.of) (aH aI (aY ?_));clear m;intro u m;refine cR 15 [4,1,0] m ?_;simp only[↓aD];refine⟨by omega,?_⟩;intro u m;refine aB (Mo rfl rfl) (aP 7 [0,0,0] m ?_);simp only[↓aD,rT,iT,aa];intro g8;intro u m;refine vJ m rfl rfl (Fm Bw.up) 21 [2,1,0] ?_;simp only[↓aD,gY,dR,ab,ad,aa,ai];refine⟨by omega,?_⟩;intro u m;refine aB (Mp rfl rfl) (aP 7 [0,0,0] m ?_);simp only[↓aD,rT,iT,aa];intro g9;intro u m;refine vJ m rfl rfl (Fm Bw.up) 21 [3,1,0] ?_;simp only[↓aD,gY,dR,ab,ad,aa,ai];refine⟨by omega,?_⟩;intro u m;refine aB (Mq rfl rfl) (aP 7 [0,0,0] m ?_);simp only[↓aD,rT,iT,aa];intro g10;intro u m;refine vJ m rfl rfl (Fm Bw.up) 22 [4,2,4,5] ?_;simp only[↓aD,gY,dR,xE,ab,ad,aa,ai];refine⟨by omega,?_⟩;intro u m;exact aQ rfl ⟨_,rfl,((m.b 5 rfl).full Qu Co)⟩ (⟨_,rfl,m.ext,rfl⟩)
theorem Sr{t:T3}[IT t]:eM prog 171 [tr t] (.bool (decide (bG t.normal.x=0∧bG t.normal.y=0∧bG t.normal.z=0))):=by
 intro w;refine⟨ajV,?_⟩;have m:=Mem.refl w
 go_enter func171,ntmps171
 refine eS 15 [0,0,0,0,0] m ?_;simp only[↓aD,dB,aR,ab,ad,aa];intro g1;refine⟨by omega,?_⟩;intro u m;refine vJ m rfl rfl (oQ (a:=t.a) (b:=t.b) (c:=t.a) (d:=t.c)) 1 [0] ?_;simp only[↓aD,tR,aa];intro u m;refine aB (Oe rfl rfl) (aP 3 [] m ?_);simp only[↓aD];intro u m;exact aQ rfl rfl (⟨_,rfl,m.ext,rfl⟩)
theorem afm{t r:T3}[IT t][IT r]:eM prog 172 [tr t,tr r] (.int .i64 (aeo t r)):=by
 intro w;refine⟨ajW,?_⟩;have m:=Mem.refl w
 go_enter func172,ntmps172
 refine eS 7 [0] m ?_;simp only[↓aD];intro g1 g2;intro u m;refine mq m aC (by kernel_rfl) (ql rfl (fun u m=>((m.b 1 rfl).full cF aN)) ?_);simp only[zz];refine iF rfl rfl Li ?_;simp only[zz];refine ql rfl (fun u m=>((m.b 0 rfl).full cF aN)) ?_;simp only[zz];refine iF rfl rfl Li ?_;simp only[zz];refine iF rfl rfl (Gx Bv.of Bv.of) ?_;simp only[zz];refine iF rfl rfl (Fm Bw.up) (aH aM (aY ?_));clear m;intro u m;refine cR 1 [] m ?_;simp only[↓aD];intro u m;exact aQ rfl rfl (⟨_,rfl,m.ext,rfl⟩)
theorem Zs{t r:T3}{k:Nat}(hk:k<3)(h:Bi t k<Bh r k):Gq t r=false:=by
 unfold Gq acb
 match k,hk with
 | 0,_=>simp[h]
 | 1,_=>simp[h]
 | 2,_=>simp[h]
theorem Zt{t r:T3}{k:Nat}(hk:k<3)(h:Bi r k<Bh t k):Gq t r=false:=by
 unfold Gq acb
 match k,hk with
 | 0,_=>simp[h]
 | 1,_=>simp[h]
 | 2,_=>simp[h]
theorem ama{t r:T3}(h0:¬Bi t 0<Bh r 0)(h1:¬Bi t 1<Bh r 1)(h2:¬Bi t 2<Bh r 2)(g0:¬Bi r 0<Bh t 0)(g1:¬Bi r 1<Bh t 1)(g2:¬Bi r 2<Bh t 2):Gq t r=true:=by
 unfold Gq acb;simp[h0,h1,h2,g0,g1,g2]
theorem amb{t r:T3}:eM prog 175 [.agg #[.int .i64 (Bh t 0),.int .i64 (Bh t 1),.int .i64 (Bh t 2),.int .i64 (Bi t 0),.int .i64 (Bi t 1),.int .i64 (Bi t 2)],.agg #[.int .i64 (Bh r 0),.int .i64 (Bh r 1),.int .i64 (Bh r 2),.int .i64 (Bi r 0),.int .i64 (Bi r 1),.int .i64 (Bi r 2)]] (.bool (Gq t r)):=by
 intro w;refine⟨ajZ,?_⟩;have m:=Mem.refl w
 go_enter func175,ntmps175
 refine eS 29 [4,1] m ?_;simp only[↓aD];intro g1 g2;refine⟨by omega,?_⟩;intro u m;by_cases h0:Bi t 0<Bh r 0
 · skip
   refine gc (mq m aC (by kernel_rfl) ?_);refine eC 8 [1,0] ?_;simp only[↓aD,iV,gY,dR,iU,aa,ab,ad];refine⟨by omega,?_⟩;refine aH (oB rfl rfl h0) (aH aI (Cb rfl ?_));refine eC 9 [] ?_;simp only[↓aD];refine aY ?_;clear m;intro u m;refine cR 6 [] m ?_;simp only[↓aD];intro u m;refine aQ rfl rfl ?_;try simp only[zD,zE]
   exact⟨_,rfl,m.ext,by rw[Zs (k:=0) (by decide) h0]⟩
 · skip
   refine gc (mq m aC (by kernel_rfl) ?_);refine eC 8 [1,0] ?_;simp only[↓aD,iV,gY,dR,iU,aa,ab,ad];refine⟨by omega,?_⟩;refine aH (Aw rfl rfl h0) (aH aI (cH rfl (aH aI ?_)));refine eC 9 [0,1,0] ?_;simp only[↓aD,iV,gY,dR,iU,aa,ab,ad];refine⟨by omega,?_⟩;refine aY ?_;clear m;intro u m;refine gc (bC rfl (fun hc2=>?_) (fun hc2=>?_))
   · skip
     have q0:=hc2;refine aS 5 [] m ?_;simp only[↓aD];intro u m;refine aQ rfl rfl ?_;try simp only[zD,zE]
     exact⟨_,rfl,m.ext,by rw[Zt (k:=0) (by decide) q0]⟩
   · skip
     have q0:=hc2;refine aS 22 [1] m ?_;simp only[↓aD,ai];refine⟨by omega,?_⟩;intro u m;by_cases h1:Bi t 1<Bh r 1
     · skip
       refine gc (mq m aC (by kernel_rfl) ?_);refine eC 8 [1,0] ?_;simp only[↓aD,iV,gY,dR,iU,aa,ab,ad];refine⟨by omega,?_⟩;refine aH (oB rfl rfl h1) (aH aI (Cb rfl ?_));refine eC 9 [] ?_;simp only[↓aD];refine aY ?_;clear m;intro u m;refine cR 6 [] m ?_;simp only[↓aD];intro u m;refine aQ rfl rfl ?_;try simp only[zD,zE]
       exact⟨_,rfl,m.ext,by rw[Zs (k:=1) (by decide) h1]⟩
     · skip
       refine gc (mq m aC (by kernel_rfl) ?_);refine eC 8 [1,0] ?_;simp only[↓aD,iV,gY,dR,iU,aa,ab,ad];refine⟨by omega,?_⟩;refine aH (Aw rfl rfl h1) (aH aI (cH rfl (aH aI ?_)));refine eC 9 [0,1,0] ?_;simp only[↓aD,iV,gY,dR,iU,aa,ab,ad];refine⟨by omega,?_⟩;refine aY ?_;clear m;intro u m;refine gc (bC rfl (fun hc2=>?_) (fun hc2=>?_))
       · skip
         have q1:=hc2;refine aS 5 [] m ?_;simp only[↓aD];intro u m;refine aQ rfl rfl ?_;try simp only[zD,zE]
         exact⟨_,rfl,m.ext,by rw[Zt (k:=1) (by decide) q1]⟩
       · skip
         have q1:=hc2;refine aS 22 [1] m ?_;simp only[↓aD,ai];refine⟨by omega,?_⟩;intro u m;by_cases h2:Bi t 2<Bh r 2
         · skip
           refine gc (mq m aC (by kernel_rfl) ?_);refine eC 8 [1,0] ?_;simp only[↓aD,iV,gY,dR,iU,aa,ab,ad];refine⟨by omega,?_⟩;refine aH (oB rfl rfl h2) (aH aI (Cb rfl ?_));refine eC 9 [] ?_;simp only[↓aD];refine aY ?_;clear m;intro u m;refine cR 6 [] m ?_;simp only[↓aD];intro u m;refine aQ rfl rfl ?_;try simp only[zD,zE]
           exact⟨_,rfl,m.ext,by rw[Zs (k:=2) (by decide) h2]⟩
         · skip
           refine gc (mq m aC (by kernel_rfl) ?_);refine eC 8 [1,0] ?_;simp only[↓aD,iV,gY,dR,iU,aa,ab,ad];refine⟨by omega,?_⟩;refine aH (Aw rfl rfl h2) (aH aI (cH rfl (aH aI ?_)));refine eC 9 [0,1,0] ?_;simp only[↓aD,iV,gY,dR,iU,aa,ab,ad];refine⟨by omega,?_⟩;refine aY ?_;clear m;intro u m;refine gc (bC rfl (fun hc2=>?_) (fun hc2=>?_))
           · skip
             have q2:=hc2;refine aS 5 [] m ?_;simp only[↓aD];intro u m;refine aQ rfl rfl ?_;try simp only[zD,zE]
             exact⟨_,rfl,m.ext,by rw[Zt (k:=2) (by decide) q2]⟩
           · skip
             have q2:=hc2;refine aS 19 [2] m ?_;simp only[↓aD,ai];refine⟨by omega,?_⟩;intro u m;refine aQ rfl rfl ?_;try simp only[zD,zE]
             exact⟨_,rfl,m.ext,by rw[ama h0 h1 h2 q0 q1 q2]⟩
end Go.Proofs.YtfekpcimgncioaaGreatDoor
namespace Go.Lith
open Go.RowKit
section
variable {P:bc} {l:List ac} {T ty:aj} {x y:a_} {k:IntKind} {m:Int}
theorem afn{n c:Nat}{E:aj}{a:Addr}(hu:P.underlying T=some (.array n E))(hc:cS P E c)(hx:ev l x=.pointer (some a)) :
 gI P l (.slice T x none none none) ty (.slice (some a) n n):=fun w o ho _=>by
 have e:(if n=0 then a else a.add (0*c))=a:=by
  split
  · rfl
  · simp[Addr.add]
 simp[ck,ho,bS,hx,Instr.sliceAt,Instr.sliceBounds,Instr.sliceBound,asIntOf,bu hu,dH hc,Instr.sureAddr,e];intro _;simp[Addr.add]
theorem Zu{n c q:Nat}{E:aj}{a a':Addr}(hu:P.underlying T=some (.array n E))(hc:cS P E c)(hx:ev l x=.pointer (some a))(hy:ev l y=.int k m)(hq:m.toNat=q)(h0:0≤m)(h1:m≤n)(hA:(if n=q then a else a.add (q*c))=a') :
 gI P l (.slice T x (some y) none none) ty (.slice (some a') (n-q) (n-q)):=fun w o ho _=>by
 subst hq;subst hA;simp[ck,ho,bS,hx,hy,Instr.sliceAt,Instr.sliceBounds,Instr.sliceBound,asIntOf,bu hu,dH hc,Instr.sureAddr,h0,h1]
theorem acz{n len cap:Nat}{E:aj}{A:Option Addr}(hu:P.underlying T=some (.array n E))(hx:ev l x=.slice A len cap)(h:n≤len) :
 gI P l (.sliceToArrayPointer T x) ty (.pointer A):=fun w o ho _=>by
 have:¬len<n:=by omega
 simp[ck,ho,bS,hx,Instr.arrayAt,bu hu,this]
end
end Go.Lith
namespace Go.Proofs.YtfekpcimgncioaaGreatDoor
open Go.Proofs.Tryz
open Go.RowKit Go.Lith
set_option maxRecDepth 100000
attribute [local irreducible] ao bz eZ bE bX Code.wp
attribute [local congr] nO fF fG fH fI fJ jH fK fL fM fN fO fP fQ fR fS fT fU dX dY fV fW fY fZ gA jJ cO cP cA cN fX jI dZ eA eB gB gC jK
theorem Fo(m n:Int):(if n<m then n else m)=min m n:=by omega
theorem Fp(m n:Int):(if m<n then n else m)=max m n:=by omega
theorem Vr{t:T3}:eM prog 173 [tr t] (.agg #[.int .i64 (Bh t 0),.int .i64 (Bh t 1),.int .i64 (Bh t 2),.int .i64 (Bi t 0),.int .i64 (Bi t 1),.int .i64 (Bi t 2)]):=by
 intro w;refine⟨ajX,?_⟩;have m:=Mem.refl w
 go_enter func173,ntmps173
 refine eS 14 [1,1] m ?_;simp only[↓aD,Zb,dB,iZ,dR,jA,ab,ad,aa];intro g1 g2;refine⟨by omega,?_⟩;intro u m;refine cR 13 [1,1,1,1] m ?_;simp only[↓aD,jP,dR,tR,dB,iZ,jA,aa,ab,ad];refine⟨by omega,?_⟩;intro u m;refine cR 7 [0,0] m ?_;simp only[↓aD,alr,Zb,Za,aa];intro g3;intro u m;refine aB (Zu dC aA rfl rfl rfl (by decide) (by decide) rfl) (aP 27 [3,1,2,0,0] m ?_);simp only[↓aD,reduceIte,kX,aiG,aR,eU,iZ,dR,jA,Nat.reduceEqDiff,ad,aa,ab];intro g4;refine⟨by omega,?_⟩;intro u m;refine cR 21 [0,0,4,1,0] m ?_;simp only[↓aD,dR,jP,tR,aa];refine⟨by omega,?_⟩;intro u m;refine aB (iJ rfl rfl) (aP 3 [0] m ?_);simp only[↓aD];intro u m;refine iM m 1 [] [46,47,48,49,50,51,52,53,54,55,56,57,58,59,60,61,62,63] (fun vs i=>vs=[]∧i=bI g3 [.int .i64 (min t.a.x t.b.x),.int .i64 t.a.y,.int .i64 t.a.z,.int .i64 (max t.a.x t.b.x),.int .i64 t.a.y,.int .i64 t.a.z] 222) ?_ ?_
 · intro K1 hK1
   refine zvt [true,false,true,true] [[],[],[],[],[],[1],[],[],[],[],[],[1],[],[],[],[],[1],[],[],[1]] (.take 0 (.take 1 (.take 2 (.take 3 (.take 4 (.take 6 (.take 8 (.take 9 (.take 10 (.take 12 (.take 14 (.take 17 (.two 5 (.take 7 (.one 11 (.take 13 (.take 15 (.one 16 (.take 18 (.one 19 .nil))))))) 11 (.take 13 (.one 5 (.take 7 (.take 15 (.one 16 (.take 18 (.one 19 .nil)))))))))))))))))))) m aC (by kernel_rfl) (bQ (fun _ _ _ _ _ h=>h)) ?_;simp only[↓aD,↓zzu,iU,gY,iV,dR,Fo,Fp,aa,ab,ad];refine⟨by omega,?_⟩;intro u m;refine gk (hK1 _ _ _ ?_ m ?_)
   · simp only[zz,zv]
   · simp only[zQ,zR,zD,zE]
     exact⟨trivial,(by first | rfl | trivial)⟩
 · intro vs i wr m hI u
   obtain⟨rfl,rfl⟩:=hI;simp only[zF,zG] at m;simp only[zu,zF,zG];refine cR 18 [1,0] m ?_;simp only[↓aD,ai];refine⟨by omega,?_⟩;intro u m;refine aB (iK rfl rfl) (aP 3 [0] m ?_);simp only[↓aD];intro u m;refine iM m 1 [] [46,47,48,49,50,51,52,53,54,55,56,57,58,59,60,61,62,63] (fun vs i=>vs=[]∧i=bI g3 [.int .i64 (min t.a.x t.b.x),.int .i64 (min t.a.y t.b.y),.int .i64 t.a.z,.int .i64 (max t.a.x t.b.x),.int .i64 (max t.a.y t.b.y),.int .i64 t.a.z] 222) ?_ ?_
   · intro K2 hK2
     refine zvt [true,false,true,true] [[],[],[],[],[],[1],[],[],[],[],[],[1],[],[],[],[],[1],[],[],[1]] (.take 0 (.take 1 (.take 2 (.take 3 (.take 4 (.take 6 (.take 8 (.take 9 (.take 10 (.take 12 (.take 14 (.take 17 (.two 5 (.take 7 (.one 11 (.take 13 (.take 15 (.one 16 (.take 18 (.one 19 .nil))))))) 11 (.take 13 (.one 5 (.take 7 (.take 15 (.one 16 (.take 18 (.one 19 .nil)))))))))))))))))))) m aC (by kernel_rfl) (bQ (fun _ _ _ _ _ h=>h)) ?_;simp only[↓aD,↓zzu,iU,gY,iV,dR,Fo,Fp,aa,ab,ad];refine⟨by omega,?_⟩;intro u m;refine gk (hK2 _ _ _ ?_ m ?_)
     · simp only[zz,zv]
     · simp only[zQ,zR,zD,zE]
       exact⟨trivial,(by first | rfl | trivial)⟩
   · intro vs i wr m hI u
     obtain⟨rfl,rfl⟩:=hI;simp only[zF,zG] at m;simp only[zu,zF,zG];refine cR 18 [1,0] m ?_;simp only[↓aD,ai];refine⟨by omega,?_⟩;intro u m;refine aB (iL rfl rfl) (aP 3 [0] m ?_);simp only[↓aD];intro u m;refine iM m 1 [] [46,47,48,49,50,51,52,53,54,55,56,57,58,59,60,61,62,63] (fun vs i=>vs=[]∧i=bI g3 [.int .i64 (min t.a.x t.b.x),.int .i64 (min t.a.y t.b.y),.int .i64 (min t.a.z t.b.z),.int .i64 (max t.a.x t.b.x),.int .i64 (max t.a.y t.b.y),.int .i64 (max t.a.z t.b.z)] 222) ?_ ?_
     · intro K3 hK3
       refine zvt [true,false,true,true] [[],[],[],[],[],[1],[],[],[],[],[],[1],[],[],[],[],[1],[],[],[1]] (.take 0 (.take 1 (.take 2 (.take 3 (.take 4 (.take 6 (.take 8 (.take 9 (.take 10 (.take 12 (.take 14 (.take 17 (.two 5 (.take 7 (.one 11 (.take 13 (.take 15 (.one 16 (.take 18 (.one 19 .nil))))))) 11 (.take 13 (.one 5 (.take 7 (.take 15 (.one 16 (.take 18 (.one 19 .nil)))))))))))))))))))) m aC (by kernel_rfl) (bQ (fun _ _ _ _ _ h=>h)) ?_;simp only[↓aD,↓zzu,iU,gY,iV,dR,Fo,Fp,aa,ab,ad];refine⟨by omega,?_⟩;intro u m;refine gk (hK3 _ _ _ ?_ m ?_)
       · simp only[zz,zv]
       · simp only[zQ,zR,zD,zE]
         exact⟨trivial,(by first | rfl | trivial)⟩
     · intro vs i wr m hI u
       obtain⟨rfl,rfl⟩:=hI;simp only[zF,zG] at m;simp only[zu,zF,zG];refine cR 34 [2,1,3,0] m ?_;simp only[↓aD,aiG,aR,eU,ai,ab,ad,aa];intro g5;refine⟨by omega,?_⟩;intro u m;refine cR 25 [0,0,0,4,1] m ?_;simp only[↓aD,iZ,dR,jA,jP,tR,aa];refine⟨by omega,?_⟩;intro u m;refine cR 2 [0] m ?_;simp only[↓aD];intro u m;refine aB (iJ rfl rfl) (aP 3 [0] m ?_);simp only[↓aD];intro u m;refine iM m 2 [] [46,47,48,49,50,51,52,53,54,55,56,57,58,59,60,61,62,63] (fun vs i=>vs=[]∧i=bI g3 [.int .i64 (min (min t.a.x t.b.x) t.c.x),.int .i64 (min t.a.y t.b.y),.int .i64 (min t.a.z t.b.z),.int .i64 (max (max t.a.x t.b.x) t.c.x),.int .i64 (max t.a.y t.b.y),.int .i64 (max t.a.z t.b.z)] 222) ?_ ?_
       · intro K4 hK4
         refine zvt [true,true,false,true,true] [[],[],[],[],[],[2],[],[],[],[],[],[2],[],[],[],[],[2],[],[],[2]] (.take 0 (.take 1 (.take 2 (.take 3 (.take 4 (.take 6 (.take 8 (.take 9 (.take 10 (.take 12 (.take 14 (.take 17 (.two 5 (.take 7 (.one 11 (.take 13 (.take 15 (.one 16 (.take 18 (.one 19 .nil))))))) 11 (.take 13 (.one 5 (.take 7 (.take 15 (.one 16 (.take 18 (.one 19 .nil)))))))))))))))))))) m aC (by kernel_rfl) (bQ (fun _ _ _ _ _ h=>h)) ?_;simp only[↓aD,↓zzu,iU,gY,iV,dR,Fo,Fp,aa,ab,ad];refine⟨by omega,?_⟩;intro u m;refine gk (hK4 _ _ _ ?_ m ?_)
         · simp only[zz,zv]
         · simp only[zQ,zR,zD,zE]
           exact⟨trivial,(by first | rfl | trivial)⟩
       · intro vs i wr m hI u
         obtain⟨rfl,rfl⟩:=hI;simp only[zF,zG] at m;simp only[zu,zF,zG];refine cR 18 [1,0] m ?_;simp only[↓aD,ai];refine⟨by omega,?_⟩;intro u m;refine aB (iK rfl rfl) (aP 3 [0] m ?_);simp only[↓aD];intro u m;refine iM m 2 [] [46,47,48,49,50,51,52,53,54,55,56,57,58,59,60,61,62,63] (fun vs i=>vs=[]∧i=bI g3 [.int .i64 (min (min t.a.x t.b.x) t.c.x),.int .i64 (min (min t.a.y t.b.y) t.c.y),.int .i64 (min t.a.z t.b.z),.int .i64 (max (max t.a.x t.b.x) t.c.x),.int .i64 (max (max t.a.y t.b.y) t.c.y),.int .i64 (max t.a.z t.b.z)] 222) ?_ ?_
         · intro K5 hK5
           refine zvt [true,true,false,true,true] [[],[],[],[],[],[2],[],[],[],[],[],[2],[],[],[],[],[2],[],[],[2]] (.take 0 (.take 1 (.take 2 (.take 3 (.take 4 (.take 6 (.take 8 (.take 9 (.take 10 (.take 12 (.take 14 (.take 17 (.two 5 (.take 7 (.one 11 (.take 13 (.take 15 (.one 16 (.take 18 (.one 19 .nil))))))) 11 (.take 13 (.one 5 (.take 7 (.take 15 (.one 16 (.take 18 (.one 19 .nil)))))))))))))))))))) m aC (by kernel_rfl) (bQ (fun _ _ _ _ _ h=>h)) ?_;simp only[↓aD,↓zzu,iU,gY,iV,dR,Fo,Fp,aa,ab,ad];refine⟨by omega,?_⟩;intro u m;refine gk (hK5 _ _ _ ?_ m ?_)
           · simp only[zz,zv]
           · simp only[zQ,zR,zD,zE]
             exact⟨trivial,(by first | rfl | trivial)⟩
         · intro vs i wr m hI u
           obtain⟨rfl,rfl⟩:=hI;simp only[zF,zG] at m;simp only[zu,zF,zG];refine cR 18 [1,0] m ?_;simp only[↓aD,ai];refine⟨by omega,?_⟩;intro u m;refine aB (iL rfl rfl) (aP 3 [0] m ?_);simp only[↓aD];intro u m;refine iM m 2 [] [46,47,48,49,50,51,52,53,54,55,56,57,58,59,60,61,62,63] (fun vs i=>vs=[]∧i=bI g3 [.int .i64 (min (min t.a.x t.b.x) t.c.x),.int .i64 (min (min t.a.y t.b.y) t.c.y),.int .i64 (min (min t.a.z t.b.z) t.c.z),.int .i64 (max (max t.a.x t.b.x) t.c.x),.int .i64 (max (max t.a.y t.b.y) t.c.y),.int .i64 (max (max t.a.z t.b.z) t.c.z)] 222) ?_ ?_
           · intro K6 hK6
             refine zvt [true,true,false,true,true] [[],[],[],[],[],[2],[],[],[],[],[],[2],[],[],[],[],[2],[],[],[2]] (.take 0 (.take 1 (.take 2 (.take 3 (.take 4 (.take 6 (.take 8 (.take 9 (.take 10 (.take 12 (.take 14 (.take 17 (.two 5 (.take 7 (.one 11 (.take 13 (.take 15 (.one 16 (.take 18 (.one 19 .nil))))))) 11 (.take 13 (.one 5 (.take 7 (.take 15 (.one 16 (.take 18 (.one 19 .nil)))))))))))))))))))) m aC (by kernel_rfl) (bQ (fun _ _ _ _ _ h=>h)) ?_;simp only[↓aD,↓zzu,iU,gY,iV,dR,Fo,Fp,aa,ab,ad];refine⟨by omega,?_⟩;intro u m;refine gk (hK6 _ _ _ ?_ m ?_)
             · simp only[zz,zv]
             · simp only[zQ,zR,zD,zE]
               exact⟨trivial,(by first | rfl | trivial)⟩
           · intro vs i wr m hI u
             obtain⟨rfl,rfl⟩:=hI;simp only[zF,zG] at m;simp only[zu,zF,zG];refine cR 32 [2,2,2,3] m ?_;simp only[↓aD,Za,ai,aa];refine⟨by omega,?_⟩;intro u m;exact aQ rfl ⟨_,rfl,((m.b 3 rfl).full aaG Nz)⟩ (⟨_,rfl,m.ext,rfl⟩)
end Go.Proofs.YtfekpcimgncioaaGreatDoor
namespace Go.Lith
open Go.RowKit
section
variable {P:bc} {ops:Array Oper} {Q:Exit→Act→ah→Prop} {rest:List Oper} {d j:Nat} {ty:aj} {pos:String} {after:Array Edge} {v:ac} {b:Bool} {ds:List cg} {l:List ac} {w w0:ah} {is:List It}
variable {f:FuncId} {fo:a_} {xs:Array a_} {args:List ac} {first cap:Array ac} {a0:Array aj}
end
section
variable {P:bc} {ops:Array Oper} {Q:Act→Prop} {rest:List Oper} {d j:Nat} {ty:aj} {pos:String} {after:Array Edge} {v:ac} {b:Bool} {ds:List cg} {l:List ac} {w0:ah} {is:List It}
variable {f:FuncId} {fo:a_} {xs:Array a_} {args:List ac} {first cap:Array ac} {a0:Array aj}
end
/-! ### Rows of edges and moves -/
end Go.Lith
namespace Go.Proofs.YtfekpcimgncioaaGreatDoor
open Go.Proofs.Tryz
open Go.RowKit Go.Lith
set_option maxRecDepth 100000
attribute [local irreducible] ao bz eZ bE bX Code.wp
attribute [local congr] nO fF fG fH fI fJ jH fK fL fM fN fO fP fQ fR fS fT fU dX dY fV fW fY fZ gA jJ cO cP cA cN fX jI dZ eA eB gB gC jK
theorem acA{g90 g91 ga gf gx gy N cap cx cy cf nm cm no co nr cr:Nat}{A Am Ao Ar:Option Addr}{ex ey ef:Array bx}{X Y F:List (P3 × Bool)}{ts:List T3}{p q:P3}(w:ah)(hB91:fA w g91 [.pointer (some ⟨g90,0,none⟩),.int .i64 p.x,.int .i64 p.y,.int .i64 p.z,.int .i64 q.x,.int .i64 q.y,.int .i64 q.z,.map (some gx),.map (some gy),.slice Am nm cm,.slice Ao no co,.slice Ar nr cr] 218)(hB90:fA w g90 [.slice A N cap,.map (some ga),.map (some gf)] 109)(hMx:gW w gx ex cx)(hDx:bB pt bf X ex cx)(hMf:gW w gf ef cf)(hDf:bB pt bf F ef cf):dF prog 100 [.pointer (some ⟨g91,0,none⟩)] w (fun v _=>v=.bool ((bU X q).getD false && !(bU F p).getD false)):=by
 refine⟨ajo,?_⟩;have m:=Mem.refl w
 go_enter func100,ntmps100
 refine eS 5 [0] m ?_;simp only[↓aD];intro u m;refine mq m aC (by kernel_rfl) (eC 3 [] ?_);simp only[↓aD,Ku,aa];refine ql rfl (fun u m=>((hB91.ext m.ext).lies1 qD rfl)) ?_;simp only[zz];refine eC 3 [] ?_;simp only[↓aD,Kt,aa];refine ql rfl (fun u m=>((hB91.ext m.ext).lies aG aA rfl rfl)) ?_;simp only[zz,zy,aq,aa,ad,ab];refine jC (fun u m=>dK (ek:=pt) (en:=bf) (k:=q) (v0:=false) lN mE fB rfl rfl (hMx.ext m.ext) hDx) ?_;simp only[zz];refine aH aI (cX rfl (fun hb=>aI) (cX rfl (fun hb=>cJ (bD hb rfl)) (cX rfl (fun hb=>aZ (c:=0) lO rfl Js (bD hb rfl) rfl) ?_)));simp only[zz];refine eH rfl (fun hb u m=>aW (bD hb rfl) ((hB91.ext m.ext).lies1 Qv rfl)) (cX rfl (fun hb=>cJ (bD hb rfl)) (cX rfl (fun hb=>aZ (c:=0) underlying109 rfl yD (bD hb rfl) rfl) ?_));simp only[zz];refine eH rfl (fun hb u m=>aW (bD hb rfl) ((hB90.ext m.ext).lies1 qD rfl)) (cX rfl (fun hb=>aI) (cX rfl (fun hb=>cJ (bD hb rfl)) (cX rfl (fun hb=>aZ (c:=2) lO rfl aA (bD hb rfl) rfl) ?_)));simp only[zz];refine eH rfl (fun hb u m=>aW (bD hb rfl) ((hB91.ext m.ext).lies aG aA rfl rfl)) ?_;simp only[zz,zy,aq,aa,ad,ab];refine eH rfl (fun hb u m=>dK (ek:=pt) (en:=bf) (k:=p) (v0:=false) lN mE fB (bD hb rfl) (bD hb rfl) (hMf.ext m.ext) hDf) ?_;simp only[zz];refine cX rfl (fun hb=>qY (bD hb rfl)) (aH (eO rfl rfl rfl) (aH aM (aY ?_)));clear m;intro u m;refine cR 1 [] m ?_;simp only[↓aD];intro u m;exact aQ rfl rfl (⟨_,rfl,m.ext,rfl⟩)
def Bn(Y:List (P3 × Bool))(dn:List (P3 × Bool)):Nat:=((dn.map (·.1)).filter fun k=>(bU Y k).getD false).length
theorem amc{Y dn:List (P3 × Bool)}{k:P3}{b:Bool}(h:(bU Y k).getD false=true):Bn Y (dn++[(k,b)])=Bn Y dn+1:=by
 unfold Bn;rw[cl,gj,aw];simp[h]
theorem amd{Y dn:List (P3 × Bool)}{k:P3}{b:Bool}(h:(bU Y k).getD false=false):Bn Y (dn++[(k,b)])=Bn Y dn:=by
 unfold Bn;rw[cl,gj,aw];simp[h]
theorem aa6(Y dn:List (P3 × Bool)):Bn Y dn≤dn.length:=by
 unfold Bn;have:=List.length_filter_le (fun k=>(bU Y k).getD false) (dn.map (·.1));rwa [ct] at this
theorem acB{Y dn D:List (P3 × Bool)}(h:dn.Perm D):Bn Y dn=Bn Y D:=by
 unfold Bn;exact ((h.map Prod.fst).filter _).length_eq
theorem acC{g90 g91 ga gf gx gy N cap cx cy cf nm cm no co nr cr:Nat}{A Am Ao Ar:Option Addr}{ex ey ef:Array bx}{X Y F:List (P3 × Bool)}{ts:List T3}{p q:P3}(w:ah)(hB91:fA w g91 [.pointer (some ⟨g90,0,none⟩),.int .i64 p.x,.int .i64 p.y,.int .i64 p.z,.int .i64 q.x,.int .i64 q.y,.int .i64 q.z,.map (some gx),.map (some gy),.slice Am nm cm,.slice Ao no co,.slice Ar nr cr] 218)(hB90:fA w g90 [.slice A N cap,.map (some ga),.map (some gf)] 109)(hMx:gW w gx ex cx)(hDx:bB pt bf X ex cx)(hMy:gW w gy ey cy)(hDy:bB pt bf Y ey cy)(hXl:X.length≤100000000):dF prog 101 [.pointer (some ⟨g91,0,none⟩)] w (fun v _=>v=.bool (decide (Bn Y X=2))):=by
 refine⟨ajp,?_⟩;have m:=Mem.refl w
 go_enter func101,ntmps101
 refine eS 14 [0] m ?_;simp only[↓aD,Ku,aa];intro u m;refine aO rfl ((hB91.ext m.ext).lies1 qD rfl) ?_;simp only[zz];refine sU m lN rfl (hMx.ext m.ext) ?_;clear m;intro r1 u m;refine aP 2 [0] m ?_;simp only[↓aD];intro u m;refine bW [3] [4,10,11,12,13,14,15,16,17,18,19,20,21] (fun n vs wl=>∃(dn rs:List (P3 × Bool)) (sn:Array Nat) (cc:Nat),vs=[.int .i64 (cc:Int)]∧Mem w wl [iI r1 gx cx sn]∧(lY pt bf X ex sn dn rs)∧(cc=Bn Y dn)∧(n=rs.length)) ?_ ?_
 · skip
   apply Exists.intro;simp only[zQ,zR,zD,zE];exact⟨[],X,#[],0,rfl,m,lY.start hDx,rfl,rfl⟩
 · intro n vs wr hI u K1 hK1
   clear m;obtain⟨dn,rs,sn,cc,rfl,m,hT,hcc0,hn⟩:=hI;have hlen:=hT.len;simp only[zu,zF,zG];refine aS 2 [0] m ?_;simp only[↓aD];intro u m;refine Gj m 0 rfl rfl (hMx.ext m.ext) hDx hT ?_;clear m;intro bb kk vv sn u m hN;simp only[zF,zG] at m;refine aB (nN rfl) (aP 2 [0] m ?_);simp only[↓aD];intro u m;refine dQ rfl (fun hc1=>?_) (fun hc1=>?_)
   · skip
     obtain⟨kp,kb,rs2,hp,hT2⟩:=Cx hc1 hN;refine aS 4 [0] m ?_;simp only[↓aD];intro u m;refine eQ (qJ rfl (m.r 0 rfl) (hMx.ext m.ext) hDx hT2) ?_;simp only[zz];refine aP 5 [0,0] m ?_;simp only[↓aD,eU,aR,aa];intro g2;intro u m;refine mq m aC (by kernel_rfl) (eC 3 [] ?_);simp only[↓aD,aeA,aa];refine ql rfl (fun u m=>((hB91.ext m.ext).lies1 qD rfl)) ?_;simp only[zz];refine ql rfl (fun u m=>((m.b 0 rfl).full aG aA)) ?_;simp only[zz];refine jC (fun u m=>dK (ek:=pt) (en:=bf) (k:=kp) (v0:=false) lN mE fB rfl rfl (hMy.ext m.ext) hDy) ?_;simp only[zz];refine aY ?_;clear m;intro u m;refine gc (dQ rfl (fun hc2=>?_) (fun hc2=>?_))
     · skip
       refine aS 2 [0] m ?_;simp only[↓aD];intro u m;refine aB (eL rfl rfl (bF (by have:=aa6 Y dn;omega) (by have:=aa6 Y dn;omega))) ?_;refine aP 3 [0] m ?_;simp only[↓aD];intro u m;refine hK1 rs2.length _ _ ?_ ?_ ?_
       · rw[hn,hp.length_eq];exact dq _
       · simp only[zz,zv]
       · simp only[zQ,zR,zD,zE]
         exact⟨dn++[(kp,kb)],rs2,_,cc+1,rfl,(m.sel [false,true]),hT2,by rw[amc hc2,hcc0],rfl⟩
     · skip
       refine aS 2 [0] m ?_;simp only[↓aD];intro u m;refine hK1 rs2.length _ _ ?_ ?_ ?_
       · rw[hn,hp.length_eq];exact dq _
       · simp only[zz,zv]
       · simp only[zQ,zR,zD,zE]
         exact⟨dn++[(kp,kb)],rs2,_,cc,rfl,(m.sel [false,true]),hT2,by rw[amd hc2,hcc0],rfl⟩
   · skip
     obtain rfl:=Cw hc1 hN;have hcc:=acB (Y:=Y) hT.done;refine aS 8 [0] m ?_;simp only[↓aD];intro u m;refine aQ rfl rfl ?_;try simp only[zD,zE]
     exact⟨_,rfl,m.ext,by rw[←hcc,←hcc0];exact congrArg bf (decide_eq_decide.2 (by omega))⟩
def acD(F Y:List (P3 × Bool))(q k:P3):Bool:=decide (¬(k.x=q.x∧k.y=q.y∧k.z=q.z))&&(bU F k).getD false && !(bU Y k).getD false
def Ss(X Y F:List (P3 × Bool))(q:P3):Bool:=!(bU F q).getD false||(X.map Prod.fst).all fun k=>!acD F Y q k
theorem ame{X Y F:List (P3 × Bool)}{q:P3}(h:(!(bU F q).getD false)=true):Ss X Y F q=true:=by unfold Ss;rw[h];rfl
theorem ahS{X Y F:List (P3 × Bool)}{q k:P3}{b:Bool}{dn rs:List (P3 × Bool)}(h:(!(bU F q).getD false)=false)(hp:(dn++[(k,b)]++rs).Perm X)(hb:acD F Y q k=true):Ss X Y F q=false:=by
 unfold Ss;rw[h,Bool.false_or,mx];refine⟨k,dj.2 ⟨(k,b),hp.mem_iff.1 (by simp),rfl⟩,by rw[hb];decide⟩
theorem afo{X Y F:List (P3 × Bool)}{q:P3}{dn:List (P3 × Bool)}(hp:dn.Perm X)(hb:∀x∈dn,acD F Y q x.1=false):Ss X Y F q=true:=by
 unfold Ss;rw[fu];refine .inr (ew.2 fun k hk=>?_);obtain⟨x,hx,rfl⟩:=dj.1 hk;rw[hb x (hp.mem_iff.2 hx)];rfl
theorem afp{g90 g91 ga gf gx gy N cap cx cy cf nm cm no co nr cr:Nat}{A Am Ao Ar:Option Addr}{ex ey ef:Array bx}{X Y F:List (P3 × Bool)}{ts:List T3}{p q:P3}(w:ah)(hB91:fA w g91 [.pointer (some ⟨g90,0,none⟩),.int .i64 p.x,.int .i64 p.y,.int .i64 p.z,.int .i64 q.x,.int .i64 q.y,.int .i64 q.z,.map (some gx),.map (some gy),.slice Am nm cm,.slice Ao no co,.slice Ar nr cr] 218)(hB90:fA w g90 [.slice A N cap,.map (some ga),.map (some gf)] 109)(hMx:gW w gx ex cx)(hDx:bB pt bf X ex cx)(hMy:gW w gy ey cy)(hDy:bB pt bf Y ey cy)(hMf:gW w gf ef cf)(hDf:bB pt bf F ef cf):dF prog 103 [.pointer (some ⟨g91,0,none⟩)] w (fun v _=>v=.bool (Ss X Y F q)):=by
 refine⟨ajr,?_⟩;have m:=Mem.refl w
 go_enter func103,ntmps103
 refine eS 6 [0] m ?_;simp only[↓aD];intro u m;refine mq m aC (by kernel_rfl) (eC 3 [] ?_);simp only[↓aD,aez,aa];refine ql rfl (fun u m=>((hB91.ext m.ext).lies1 Qv rfl)) ?_;simp only[zz];refine aH (cJ rfl) (eC 1 [] ?_);simp only[↓aD,Kr,aa];refine ql rfl (fun u m=>((hB90.ext m.ext).lies1 qD rfl)) ?_;simp only[zz];refine eC 3 [] ?_;simp only[↓aD,Kt,aa];refine ql rfl (fun u m=>((hB91.ext m.ext).lies aG aA rfl rfl)) ?_;simp only[zz,zy,aq,aa,ad,ab];refine jC (fun u m=>dK (ek:=pt) (en:=bf) (k:=q) (v0:=false) lN mE fB rfl rfl (hMf.ext m.ext) hDf) ?_;simp only[zz];refine aH (qY rfl) (aY ?_);clear m;intro u m;refine gc ?_;simp only[zz];refine dQ rfl (fun hc1=>?_) (fun hc1=>?_)
 · skip
   refine aS 5 [] m ?_;simp only[↓aD];intro u m;refine aQ rfl rfl ?_;try simp only[zD,zE]
   exact⟨_,rfl,m.ext,by rw[ame hc1]⟩
 · skip
   refine aS 7 [0] m ?_;simp only[↓aD,Ku,aa];intro u m;refine aO rfl ((hB91.ext m.ext).lies1 qD rfl) ?_;simp only[zz];refine sU m lN rfl (hMx.ext m.ext) ?_;clear m;intro r1 u m;refine aP 2 [0] m ?_;simp only[↓aD];intro u m;refine bW [] [2,3,22,23,24,25,26,27,28,29,30,31,32,33,34,35,36,37,38,39,40,41,42,43,44,45,46,47,48,49,50,51] (fun n vs wl=>∃(dn rs:List (P3 × Bool)) (sn:Array Nat),vs=[]∧Mem w wl [iI r1 gx cx sn]∧(lY pt bf X ex sn dn rs)∧(∀x∈dn,acD F Y q x.1=false)∧(n=rs.length)) ?_ ?_
   · skip
     apply Exists.intro;simp only[zQ,zR,zD,zE];exact⟨[],X,#[],trivial,m,lY.start hDx,(fun x h=>(by cases h)),rfl⟩
   · intro n vs wr hI u K1 hK1
     clear m;obtain⟨dn,rs,sn,rfl,m,hT,hb0,hn⟩:=hI;simp only[zu,zF,zG];refine aS 2 [0] m ?_;simp only[↓aD];intro u m;refine Gj m 0 rfl rfl (hMx.ext m.ext) hDx hT ?_;clear m;intro bb kk vv sn u m hN;simp only[zF,zG] at m;refine aB (nN rfl) (aP 2 [0] m ?_);simp only[↓aD];intro u m;refine dQ rfl (fun hc2=>?_) (fun hc2=>?_)
     · skip
       obtain⟨kp,kb,rs2,hp,hT2⟩:=Cx hc2 hN;refine aS 4 [0] m ?_;simp only[↓aD];intro u m;refine eQ (qJ rfl (m.r 0 rfl) (hMx.ext m.ext) hDx hT2) ?_;simp only[zz];refine aP 5 [0,0] m ?_;simp only[↓aD,eU,aR,aa];intro g2;intro u m;refine mq m aC (by kernel_rfl) (eC 4 [0] ?_);simp only[↓aD,aR,Kt,aa];refine ql rfl (fun u m=>((hB91.ext m.ext).lies aG aA rfl rfl)) ?_;simp only[zz,zy,aq,aa,ad,ab];refine aH (gL rfl rfl) (aH aI (cX rfl (fun hb=>aI) (cX rfl (fun hb=>cJ (bD hb rfl)) ?_)));simp only[zz];refine cX rfl (fun hb=>aZ (c:=0) lO rfl Js (bD hb rfl) rfl) ?_;simp only[zz];refine eH rfl (fun hb u m=>aW (bD hb rfl) ((hB91.ext m.ext).lies1 Qv rfl)) (cX rfl (fun hb=>cJ (bD hb rfl)) (cX rfl (fun hb=>aZ (c:=0) underlying109 rfl yD (bD hb rfl) rfl) ?_));simp only[zz];refine eH rfl (fun hb u m=>aW (bD hb rfl) ((hB90.ext m.ext).lies1 qD rfl)) (eH rfl (fun hb u m=>aW rfl ((m.b 0 rfl).full aG aA)) (eH rfl (fun hb u m=>dK (ek:=pt) (en:=bf) (k:=kp) (v0:=false) lN mE fB (bD hb rfl) (bD hb rfl) (hMf.ext m.ext) hDf) ?_));simp only[zz];refine aH (eO rfl rfl rfl) (aH aI (cX rfl (fun hb=>aI) (cX rfl (fun hb=>cJ (bD hb rfl)) ?_)));simp only[zz];refine cX rfl (fun hb=>aZ (c:=0) lO rfl yD (bD hb rfl) rfl) ?_;simp only[zz];refine eH rfl (fun hb u m=>aW (bD hb rfl) ((hB91.ext m.ext).lies1 qD rfl)) (eH rfl (fun hb u m=>aW rfl ((m.b 0 rfl).full aG aA)) (eH rfl (fun hb u m=>dK (ek:=pt) (en:=bf) (k:=kp) (v0:=false) lN mE fB (bD hb rfl) (bD hb rfl) (hMy.ext m.ext) hDy) ?_));simp only[zz];refine cX rfl (fun hb=>qY (bD hb rfl)) (aH (eO rfl rfl rfl) (aY ?_));clear m;intro u m;refine gc ?_;simp only[zz];refine dQ rfl (fun hc3=>?_) (fun hc3=>?_)
       · skip
         refine aS 5 [] m ?_;simp only[↓aD];intro u m;refine aQ rfl rfl ?_;try simp only[zD,zE]
         exact⟨_,rfl,m.ext,by rw[ahS hc1 hT2.1 hc3]⟩
       · skip
         refine aS 2 [0] m ?_;simp only[↓aD];intro u m;refine hK1 rs2.length _ _ ?_ ?_ ?_
         · rw[hn,hp.length_eq];exact dq _
         · simp only[zz,zv]
         · simp only[zQ,zR,zD,zE]
           exact⟨dn++[(kp,kb)],rs2,_,trivial,(m.sel [false,true]),hT2,(fun x hx=>(bg.1 hx).elim (hb0 x) fun h=>(by rw[ay.1 h];exact hc3)),rfl⟩
     · skip
       obtain rfl:=Cw hc2 hN;refine aS 6 [] m ?_;simp only[↓aD];intro u m;refine aQ rfl rfl ?_;try simp only[zD,zE]
       exact⟨_,rfl,m.ext,by rw[afo hT.done hb0]⟩
theorem Bo{t:T3}:decide (bG t.normal.x=0∧bG t.normal.y=0∧bG t.normal.z=0)=lL t:=by
 unfold lL;refine decide_eq_decide.2 ?_;rw[fD,fD,fD];show (pR t.a t.b t.c).x=0∧(pR t.a t.b t.c).y=0∧(pR t.a t.b t.c).z=0↔_
 unfold Hu;generalize pR t.a t.b t.c=n;by_cases h1:n.x=0 <;> by_cases h2:n.y=0 <;> by_cases h3:n.z=0 <;> simp[h1,h2,h3]
def acE(o t:T3):Bool:=!lL t&&decide (aeo o t=1)
def Zv(os ms:List T3):Bool:=(os.zip ms).all fun x=>acE x.1 x.2
theorem afq{os ms:List T3}{k:Nat}{x:T3 × T3}:(os.zip ms)[k]? = some x↔os[k]? = some x.1∧ms[k]? = some x.2:=by
 obtain⟨a,b⟩:=x;rw[List.getElem?_zip_eq_some]
theorem ahT{os ms:List T3}{k:Nat}{o t:T3}(ho:os[k]? = some o)(ht:ms[k]? = some t)(h:(lL t||decide (¬aeo o t=1))=true):Zv os ms=false:=by
 unfold Zv;rw[mx];refine⟨(o,t),ba (afq.2 ⟨ho,ht⟩),?_⟩;unfold acE;cases hf:lL t <;> rw[hf] at h <;> simp at h ⊢;exact h
theorem afr{os ms:List T3}(h:∀(j:Nat) (o t:T3),os[j]? = some o→ms[j]? = some t→acE o t=true):Zv os ms=true:=by
 unfold Zv;rw[ew];intro x hx;obtain⟨j,hj⟩:=dm.1 hx;obtain⟨h1,h2⟩:=afq.1 hj;exact h j _ _ h1 h2
theorem aoD{o t:T3}(h:(lL t||decide (¬aeo o t=1))=false):acE o t=true:=by
 unfold acE;cases hf:lL t <;> rw[hf] at h <;> simp at h ⊢;exact h
theorem Zw{g90 g91 ga gf gx gy N cap cx cy cf nm cm no co nr cr:Nat}{A Am Ao Ar:Option Addr}{ex ey ef:Array bx}{X Y F:List (P3 × Bool)}{ts:List T3}{p q:P3}{ms os:List T3}(w:ah)(hB91:fA w g91 [.pointer (some ⟨g90,0,none⟩),.int .i64 p.x,.int .i64 p.y,.int .i64 p.z,.int .i64 q.x,.int .i64 q.y,.int .i64 q.z,.map (some gx),.map (some gy),.slice Am nm cm,.slice Ao no co,.slice Ar nr cr] 218)(hB90:fA w g90 [.slice A N cap,.map (some ga),.map (some gf)] 109)(hTm:bK w Am nm ms)(hTo:bK w Ao no os)(hno:no=nm)(hN:nm≤10000000):dF prog 104 [.pointer (some ⟨g91,0,none⟩)] w (fun v _=>v=.bool (Zv os ms)):=by
 refine⟨ajs,?_⟩;have m:=Mem.refl w;subst hno
 go_enter func104,ntmps104
 refine eS 10 [0] m ?_;simp only[↓aD,Df,aa];intro u m;refine aO rfl ((hB91.ext m.ext).lies1 pH rfl) ?_;simp only[zz];refine aP 4 [0] m ?_;simp only[↓aD,iS];intro u m;refine bW [10] [2,3,4,11,12,13,14,15,16,17,18,19,20,21,22,23,24,25,26,27,28,29] (fun n vs wl=>∃(k:Nat),vs=[.int .i64 (k:Int)]∧Mem w wl []∧(∀(j:Nat) (o t:T3),j<k→os[j]? = some o→ms[j]? = some t→acE o t=true)∧(k≤no)∧(n=no-k)) ?_ ?_
 · skip
   apply Exists.intro;simp only[zQ,zR,zD,zE];exact⟨0,rfl,m,(fun j o t h=>by omega),cd _,rfl⟩
 · intro n vs wr hI u K1 hK1
   clear m;obtain⟨k,rfl,m,hu0,hk,hn⟩:=hI;simp only[zu,zF,zG];refine aS 5 [0,0] m ?_;simp only[↓aD];intro u m;refine bC rfl (fun hc1=>?_) (fun hc1=>?_)
   · skip
     obtain⟨t,ht,hti,a,rfl,hrow⟩:=hTm.get (i:=k) (by omega);obtain⟨o,ho,hoi,a2,rfl,hrow2⟩:=hTo.get (i:=k) (by omega);refine aS 6 [0] m ?_;simp only[↓aD];intro u m;refine aB (aF bT aN rfl rfl (by omega) (by omega) (cI (ag _))) ?_;simp only[zz];refine aO rfl ((hrow.ext m.ext).lies cF aN) ?_;simp only[zz];refine aP 5 [0,0] m ?_;simp only[↓aD,mU,gZ,aa];intro g1;intro u m;refine mq m aC (by kernel_rfl) (ql rfl (fun u m=>((m.b 0 rfl).full cF aN)) ?_);simp only[zz];refine iF rfl rfl (Sr (t:=t)) (aH aI (gF rfl (fun hb=>aI) (gF rfl (fun hb=>cJ (bD hb rfl)) ?_)));simp only[zz];refine gF rfl (fun hb=>aZ (c:=0) lO rfl fE (bD hb rfl) rfl) ?_;simp only[zz];refine nJ rfl (fun hb u m=>aW (bD hb rfl) ((hB91.ext m.ext).lies1 pH rfl)) (gF rfl (fun hb=>aI) ?_);simp only[zz];refine gF rfl (fun hb=>aF bT aN (bD hb rfl) (bD hb rfl) (by omega) (by omega) (cI (ag _))) ?_;simp only[zz];refine nJ rfl (fun hb u m=>aW (bD hb rfl) ((hrow2.ext m.ext).lies cF aN)) (nJ rfl (fun hb u m=>aW rfl ((m.b 0 rfl).full cF aN)) (aaB rfl rfl (fun hb=>by simp only[dt,bn,c_,zA,zB,zC,zD,zE,hb,kG];rfl) (fun hb=>afm (t:=o) (r:=t)) (gF rfl (fun hb=>pO (bD hb rfl) rfl) (aH (dW rfl rfl rfl) (aY ?_)))));clear m;intro u m;refine gc ?_;simp only[zz];refine dQ rfl (fun hc2=>?_) (fun hc2=>?_)
     · skip
       rw[Bo] at hc2;refine aS 5 [] m ?_;simp only[↓aD];intro u m;refine aQ rfl rfl ?_;try simp only[zD,zE]
       exact⟨_,rfl,m.ext,by rw[ahT ho ht hc2]⟩
     · skip
       rw[Bo] at hc2;refine aS 6 [0] m ?_;simp only[↓aD];refine⟨by omega,?_⟩;intro u m;refine hK1 (no-(k+1)) _ _ ?_ ?_ ?_
       · omega
       · simp only[zz,zv]
       · simp only[zQ,zR,zD,zE]
         exact⟨k+1, rfl, (m.sel [false]), (fun j o2 t2 hj h1 h2 => by
          rcases Nat.lt_or_ge j k with h | h
          · exact hu0 j o2 t2 h h1 h2
          · obtain rfl:j=k:=by omega
            rw[ho] at h1;rw[ht] at h2;cases h1;cases h2;exact aoD hc2),by omega,rfl⟩
   · skip
     refine aS 6 [] m ?_;simp only[↓aD];intro u m;refine aQ rfl rfl ?_;try simp only[zD,zE]
     exact⟨_,rfl,m.ext,by rw[afr fun j o t h1 h2=>hu0 j o t (by have:=(ar.1 h1).1;have:=hTo.len;omega) h1 h2]⟩
theorem acF{w:ah}{A:Option Addr}{N:Nat}{ts:List T3}(h:bK w A N ts)(hA:A.isNone=true):ts=[]:=by
 cases A with
 | some a=>cases hA
 | none =>
  cases ts with
  | nil=>rfl
  | cons t ts =>
   obtain⟨a,e,_⟩:=h.row 0 t rfl;cases e
theorem afs{ts:List T3}{N cap:Nat}{A:Option Addr}(w:ah)(hT:bK w A N ts)(hN:N≤10000000):dF prog 169 [.slice A N cap] w (SL 39 9 (ts.flatMap aK) ts.length w):=by
 refine⟨ajT,?_⟩;have m:=Mem.refl w;have htl:=hT.len
 go_enter func169,ntmps169
 refine eS 8 [0] m ?_;simp only[↓aD];intro u m;refine aB (Tp bT rfl rfl) (aP 1 [0] m ?_);simp only[↓aD];intro u m;refine dQ rfl (fun hc1=>?_) (fun hc1=>?_)
 · skip
   obtain rfl:=acF hT hc1;refine aS 5 [] m ?_;simp only[↓aD];intro u m;exact aQ rfl rfl (⟨_,rfl,m.ext,⟨none,0,0,rfl,rfl,Ow.nil _ _ _ _⟩⟩)
 · skip
   refine aS 3 [0] m ?_;simp only[↓aD];intro u m;refine Tq bT (c:=9) (by kernel_rfl)  ?_;intro u g1 e hg hB;replace m:=m.newB e hg hB;clear e hg hB;simp only[zz];replace m:=m.own 0 rfl (n:=0) (c:=9) rfl (jE rfl);simp only[zG] at m;refine aP 1 [0] m ?_;simp only[↓aD];intro u m;refine bR m 0 rfl rfl bT iA rfl (by decide) rfl rfl (by rw[yC,hT.len]) (bK.cells (hT.ext m.ext)) (tI _) (by omega) (by omega) ?_;clear m;intro A5 cap5 u m;simp only[zF,zG] at m;simp only[aq,bv] at m ⊢;refine aP 3 [] m ?_;simp only[↓aD];intro u m;exact aQ rfl rfl (⟨_,rfl,m.ext,⟨_,_,_,htl.symm,rfl,(m.o 0 rfl)⟩⟩)
end Go.Proofs.YtfekpcimgncioaaGreatDoor
namespace Go.Lith
open Go.RowKit
theorem Lj{l ys:List P3}(hn:l.Nodup)(h:ys.Perm l)(hs:ys.Pairwise fun a b=>¬b.Lt a):ys=vK l:=by
 have h1:ys.Pairwise P3.Lt:=(hs.and (h.nodup_iff.2 hn)).imp fun {a b} k=>by
  rcases P3.lt_tri a b with e | e | e
  · exact e
  · exact absurd e k.2
  · exact absurd e k.1
 exact Bc P3.lt_irrefl (fun _ _ _=>P3.lt_trans) h1 (Dh hn) fun p=>by rw[h.mem_iff,(oJ l).mem_iff]
def kT(t:T3):T3:=match Ki t with
 | [a,b,c]=>⟨a,b,c⟩
 | _=>t
theorem St(t:T3):Ki t=[(kT t).a,(kT t).b,(kT t).c]:=by
 have h:(Ki t).length=3:=(oJ _).length_eq;unfold kT;generalize Ki t=L at h;rcases L with _ | ⟨a,_ | ⟨b,_ | ⟨c,_ | ⟨d,L⟩⟩⟩⟩ <;> simp only[au,bt] at h <;> first | omega | rfl
theorem aft{s t:T3}:kT s=kT t↔Ki s=Ki t:=by
 rw[St s,St t];constructor
 · intro h;rw[h]
 · intro h
   simp only[ke,and_true] at h;obtain⟨a,b,c⟩:=h;cases hs:kT s;cases ht:kT t;simp only[hs,ht] at a b c;rw[a,b,c]
theorem Vs{l:List T3}:(l.map kT).Nodup↔(l.map Ki).Nodup:=by
 unfold List.Nodup;rw[my,my];exact⟨fun h=>h.imp fun k e=>k (aft.2 e),fun h=>h.imp fun k e=>k (aft.1 e)⟩
theorem Lk{t:T3}(h:t.nd=true):[t.a,t.b,t.c].Nodup:=by
 obtain⟨h1,h2,h3⟩:=(Kf (t:=t)).1 h;simp only[List.nodup_cons,ak,bw,or_false,not_or,not_false_eq_true,jw,and_true];exact⟨⟨h1,fun e=>h3 e.symm⟩,h2⟩
theorem amf{L:List T3}{k:Nat}{t:T3}(ht:L[k]? = some t)(h:kT t∈(L.take k).map kT):decide ((L.map Ki).Nodup)=false:=by
 rw[decide_eq_false_iff_not,←Vs];intro hn;obtain⟨s,hs,e⟩:=dj.1 h;obtain⟨j,hj⟩:=dm.1 hs;rw[List.getElem?_take] at hj;split at hj
 · rename_i hjk
   have h1:(L.map kT)[j]? = some (kT t):=by rw[dw,hj];exact congrArg some e
   have h2:(L.map kT)[k]? = some (kT t):=by rw[dw,ht];rfl
   obtain⟨a1,a2⟩:=ar.1 h1;obtain⟨b1,b2⟩:=ar.1 h2;have:=(List.getElem_inj hn).1 (a2.trans b2.symm);omega
 · cases hj
theorem ahU{L:List T3}{k:Nat}{t:T3}(ht:L[k]? = some t)(hn:((L.take k).map kT).Nodup)(h:kT t∉(L.take k).map kT):((L.take (k+1)).map kT).Nodup:=by
 rw[cC ht,cl];exact List.nodup_append.2 ⟨hn,by simp,fun a ha b hb e=>h (by rw[ay.1 hb] at e;exact e▸ha)⟩
end Go.Lith
namespace Go.Proofs.YtfekpcimgncioaaGreatDoor
open Go.Proofs.Tryz
open Go.RowKit Go.Lith
set_option maxRecDepth 100000
attribute [local irreducible] ao bz eZ bE bX Code.wp
attribute [local congr] nO fF fG fH fI fJ jH fK fL fM fN fO fP fQ fR fS fT fU dX dY fV fW fY fZ gA jJ cO cP cA cN fX jI dZ eA eB gB gC jK
theorem afu{w:ah}{A:Option Addr}{N:Nat}{ps:List P3}(h:vH dN 3 w A N ps)(hA:A.isNone=true):ps=[]:=by
 cases A with
 | some a=>cases hA
 | none =>
  cases ps with
  | nil=>rfl
  | cons t ts =>
   obtain⟨a,e,_⟩:=h.row 0 t rfl;cases e
theorem apj{w:ah}{g:Nat}{t:T3}{T:aj}(h:fA w g (aK t) T):vH dN 3 w (some ⟨g,0,none⟩) 3 [t.a,t.b,t.c]:=⟨rfl,fun i x hx=>by
 refine⟨⟨g,0,none⟩,rfl,?_⟩;rcases i with _ | _ | _ | i <;> simp at hx <;> subst hx
 · exact (h.row 0).take 3
 · exact (h.row 3).take 3
 · exact (h.row 6).take 3⟩
theorem afv{ps:List P3}{N cap:Nat}{A:Option Addr}(w:ah)(hT:vH dN 3 w A N ps)(hN:N≤10000000):dF prog 170 [.slice A N cap] w (SL 30 3 (ps.flatMap dN) ps.length w):=by
 refine⟨ajU,?_⟩;have m:=Mem.refl w;have htl:=hT.len
 go_enter func170,ntmps170
 refine eS 8 [0] m ?_;simp only[↓aD];intro u m;refine aB (Tp dS rfl rfl) (aP 1 [0] m ?_);simp only[↓aD];intro u m;refine dQ rfl (fun hc1=>?_) (fun hc1=>?_)
 · skip
   obtain rfl:=afu hT hc1;refine aS 5 [] m ?_;simp only[↓aD];intro u m;exact aQ rfl rfl (⟨_,rfl,m.ext,⟨none,0,0,rfl,rfl,Ow.nil _ _ _ _⟩⟩)
 · skip
   refine aS 3 [0] m ?_;simp only[↓aD];intro u m;refine Tq dS (c:=3) (by kernel_rfl)  ?_;intro u g1 e hg hB;replace m:=m.newB e hg hB;clear e hg hB;simp only[zz];replace m:=m.own 0 rfl (n:=0) (c:=3) rfl (jE rfl);simp only[zG] at m;refine aP 1 [0] m ?_;simp only[↓aD];intro u m;refine bR m 0 rfl rfl dS oD rfl (by decide) rfl rfl (by rw[show (ps.flatMap oN).length=ps.length*3 from aea,hT.len]) ((hT.ext m.ext).cells Hg (by decide)) (Jj _) (by omega) (by omega) ?_;clear m;intro A5 cap5 u m;simp only[zF,zG] at m;simp only[aq,bv] at m ⊢;refine aP 3 [] m ?_;simp only[↓aD];intro u m;exact aQ rfl rfl (⟨_,rfl,m.ext,⟨_,_,_,htl.symm,rfl,(m.o 0 rfl)⟩⟩)
theorem aa7{w0 w:ah}{is:List It}{A:Option Addr}{n cap:Nat}{xs:List P3}(m:Mem w0 w is)(k:Nat)(hi:is[k]? = some (oI 30 3 A n cap (xs.flatMap dN)))(hsz:n<4611686018427387904) :
 Calls prog 128 [.slice A n cap,.func (.func 70) #[] #[]].toArray w fun e w'=>∃v i,e=.returned v∧Mem w0 w' (is.set k i)∧(v=.tuple #[]∧∃ys:List P3,i=oI 30 3 A n cap (ys.flatMap dN)∧ys.Perm xs∧ys.Pairwise fun a b=>¬b.Lt a) :=
 (wT (enc:=dN) Tryz.sort128 (fun w=>nB aG w) (fun w=>dH aA w) (fun _=>rfl) (by decide) Gk nX Up (fun x y=>Lf) m k hi hsz).mono (by
  rintro e w' ⟨v,i,h1,h2,h3,ys,h4,h5,h6⟩;exact⟨v,i,h1,h2,h3,ys,h4,h5,h6.imp fun h=>by simpa[Go.Proofs.ltOf,kI] using h⟩)
theorem aiQ:pI prog 38 tr:=by
 refine pI.agg (cs:=fun p=>#[.int .i64 p.a.x,.int .i64 p.a.y,.int .i64 p.a.z,.int .i64 p.b.x,.int .i64 p.b.y,.int .i64 p.b.z,.int .i64 p.c.x,.int .i64 p.c.y,.int .i64 p.c.z]) (fun _=>rfl) underlying38 (fun e p=>?_) (fun p q=>?_) (fun p=>?_)
 · refine tA.array (d:=9999) underlying38 aA fun i hi=>?_
   obtain rfl | rfl | rfl:=(by omega:i=0∨i=1∨i=2)
   · refine⟨_,bZ aG aA rfl,?_⟩
     refine tA.struct (d:=9998) rK fun f hf=>?_;simp only[ak,bw,or_false] at hf;rcases hf with rfl | rfl | rfl
     · exact⟨_,cB bN rfl,tA.int (d:=9997) jN⟩
     · exact⟨_,cB bN rfl,tA.int (d:=9997) jN⟩
     · exact⟨_,cB bN rfl,tA.int (d:=9997) jN⟩
   · refine⟨_,bZ aG aA rfl,?_⟩
     refine tA.struct (d:=9998) rK fun f hf=>?_;simp only[ak,bw,or_false] at hf;rcases hf with rfl | rfl | rfl
     · exact⟨_,cB bN rfl,tA.int (d:=9997) jN⟩
     · exact⟨_,cB bN rfl,tA.int (d:=9997) jN⟩
     · exact⟨_,cB bN rfl,tA.int (d:=9997) jN⟩
   · refine⟨_,bZ aG aA rfl,?_⟩
     refine tA.struct (d:=9998) rK fun f hf=>?_;simp only[ak,bw,or_false] at hf;rcases hf with rfl | rfl | rfl
     · exact⟨_,cB bN rfl,tA.int (d:=9997) jN⟩
     · exact⟨_,cB bN rfl,tA.int (d:=9997) jN⟩
     · exact⟨_,cB bN rfl,tA.int (d:=9997) jN⟩
 · exact (akU _).iff ⟨fun h=>Rm (P3.eq h.1 h.2.1 h.2.2.1) (P3.eq h.2.2.2.1 h.2.2.2.2.1 h.2.2.2.2.2.1) (P3.eq h.2.2.2.2.2.2.1 h.2.2.2.2.2.2.2.1 h.2.2.2.2.2.2.2.2),fun h=>by subst h;simp only[and_self]⟩
 · simp[tr,Instr.sameBits]
theorem acG{g90 g91 ga gf gx gy N cap cx cy cf nm cm no co nr cr:Nat}{A Am Ao Ar:Option Addr}{ex ey ef:Array bx}{X Y F:List (P3 × Bool)}{ts:List T3}{p q:P3}{ms rs:List T3}(w:ah)(hB91:fA w g91 [.pointer (some ⟨g90,0,none⟩),.int .i64 p.x,.int .i64 p.y,.int .i64 p.z,.int .i64 q.x,.int .i64 q.y,.int .i64 q.z,.map (some gx),.map (some gy),.slice Am nm cm,.slice Ao no co,.slice Ar nr cr] 218)(hB90:fA w g90 [.slice A N cap,.map (some ga),.map (some gf)] 109)(hTm:bK w Am nm ms)(hTr:bK w Ar nr rs)(hnd:∀t∈ms++rs,t.nd=true)(hN:nm+nr≤10000000):dF prog 102 [.pointer (some ⟨g91,0,none⟩)] w (fun v _=>v=.bool (decide (((ms++rs).map Ki).Nodup))):=by
 refine⟨ajq,?_⟩;have m:=Mem.refl w;have htm:=hTm.len;have htr:=hTr.len;have hit:∀t∈ms++rs,IT t:=fun t ht=>(bg.1 ht).elim (hTm.it t) (hTr.it t)
 go_enter func102,ntmps102
 refine eS 6 [0] m ?_;simp only[↓aD];intro u m;refine kH m ?_;clear m;intro q8 u m;have hD8:=bB.nil (K:=T3) (V:=Bool) tr bf;refine aP 4 [0] m ?_;simp only[↓aD];intro u m;refine mh m [true] [(0,true),(1,true),(2,true),(5,true),(6,true),(7,true),(11,true),(3,true),(8,true),(4,false),(9,false),(10,true)] aC (by kernel_rfl) (bQ (fun _ _ _ _ _ h=>h)) (ol:=?_) ?hol ?_
 case hol=>simp only[zw,zQ,zR];try rfl
 clear m;intro u m;refine Mz 7 [] ?_;simp only[↓aD,Df,Kv,aa];refine eN rfl (fun u m=>((hB91.ext m.ext).lies1 pH rfl)) ?_;simp only[zz];refine eN rfl (fun u m=>((hB91.ext m.ext).lies1 pH rfl)) ?_;simp only[zz];refine bV (bJ rfl rfl (afs (ts:=ms) _ (hTm.ext m.ext) (by omega)) ?_);rintro v u e ⟨A5,cap5,n5,hn5,rfl,hN⟩;replace m:=m.newO e hN;clear e hN;refine aL (⟨m.sel [false,true],?_⟩);refine bV ?_;simp only[zz];refine bR m 0 rfl rfl bT iA rfl (by decide) rfl rfl (by rw[yC,hTr.len]) (bK.cells (hTr.ext m.ext)) (tI _) (by omega) (by omega) ?_;clear m;intro A5 cap5 u m;simp only[zF,zG] at m;rw[←av] at m;refine aL (⟨m.sel [false,true],?_⟩);refine aU (Ec rfl bT rfl) (bM ?_);refine cR 1 [0] m ?_;simp only[↓aD];intro u m;refine bW [20] [2,5,6,7,21,22,23,24,25,26,27,28,29,30,31,32,33,34,35,36,37] (fun n vs wl=>∃(k:Nat) (es:Array bx) (c:Nat),vs=[.int .i64 (k:Int)]∧Mem w wl [oI 39 9 A5 (n5+nr) cap5 ((ms++rs).flatMap aK),mI q8 es c]∧(bB tr bf (eY [] (((ms++rs).take k).map kT)) es c)∧((((ms++rs).take k).map kT).Nodup)∧(k≤n5+nr)∧(n=n5+nr-k)) ?_ ?_
 · skip
   apply Exists.intro;simp only[zQ,zR,zD,zE];exact⟨0,_,_,rfl,m,hD8,jw,cd _,rfl⟩
 · intro n vs wr hI u K1 hK1
   clear m;obtain⟨k,es8,c8,rfl,m,hD8,hu,hk,hn⟩:=hI;simp only[zu,zF,zG];refine aS 5 [0,0] m ?_;simp only[↓aD];intro u m;refine bC rfl (fun hc1=>?_) (fun hc1=>?_)
   · skip
     obtain⟨t,ht,hti,a,hA5,hr5⟩:=((m.o 0 rfl).tris hit).get (i:=k) (by omega);subst hA5;refine lF 5 [0] m ?_;simp only[↓aD];rintro u m rfl;refine aB (aF bT aN rfl rfl (by omega) (by omega) (cI (ag _))) ?_;simp only[zz];refine aO rfl (hr5.lies cF aN) ?_;simp only[zz];refine aP 5 [0,0] m ?_;simp only[↓aD,mU,gZ,aa];intro g2;intro u m;refine aB (afn dC aA rfl) (aP 5 [0] m ?_);simp only[↓aD,reduceIte,Nat.reduceEqDiff,ad,aa];intro u m;refine bJ rfl rfl (afv (ps:=[t.a,t.b,t.c]) _ (apj (m.b 0 rfl)) (by decide)) ?_;rintro v u e ⟨A6,cap6,n6,hn6,rfl,hN⟩;replace m:=m.newO e hN;clear e hN;obtain rfl:n6=3:=hn6;refine aP 5 [0] m ?_;simp only[↓aD];intro u m;refine kP m 0 Xt rfl rfl (fun m=>aa7 m 0 rfl (by decide)) ?_;clear m;rintro v i u m ⟨rfl,ys,rfl,hys,hso⟩;simp only[zF,zG] at m;simp only[zz];obtain rfl:ys=[(kT t).a,(kT t).b,(kT t).c]:=by rw[←St];exact Lj (Lk (hnd t (ba ht))) hys hso
     obtain⟨g6,rfl⟩:=(m.o 0 rfl).some (by decide);refine aP 4 [0] m ?_;simp only[↓aD];intro u m;refine aB (acz underlying38 rfl (by decide)) ?_;simp only[zz];refine aO rfl (show gM _ _ _ _ (tr (kT t)) from (m.o 0 rfl).rows.lies akR adL) ?_;simp only[zz];refine aP 8 [0,0,0] m ?_;simp only[↓aD,aof,aiD,aa];intro g3;intro u m;refine eQ (dK (ek:=tr) (en:=bf) (k:=kT t) (v0:=false) underlying219 mE aiQ rfl rfl (m.p 4 rfl) hD8) ?_;simp only[zz];refine aP 1 [0] m ?_;simp only[↓aD];intro u m;refine dQ rfl (fun hc2=>?_) (fun hc2=>?_)
     · skip
       rw[pA,decide_eq_true_eq] at hc2;refine aS 5 [] m ?_;simp only[↓aD];intro u m;refine aQ rfl rfl ?_;try simp only[zD,zE]
       exact⟨_,rfl,m.ext,by rw[amf ht hc2]⟩
     · skip
       rw[pA,decide_eq_false_iff_not] at hc2;refine aS 4 [0,0] m ?_;simp only[↓aD,aiD];intro u m;refine lE (ek:=tr) (en:=bf) (a:=kT t) (v:=true) m 4 rfl underlying219 aiQ rfl rfl rfl hD8 ?_;clear m;intro es8 c8 u m hD';clear hD8;have hD8:=hD';clear hD';simp only[zF,zG] at m;rw[←kM] at hD8;refine aP 6 [0] m ?_;simp only[↓aD];refine⟨by omega,?_⟩;intro u m;refine hK1 (n5+nr-(k+1)) _ _ ?_ ?_ ?_
       · omega
       · simp only[zz,zv]
       · simp only[zQ,zR,zD,zE]
         exact⟨k+1,_,_,rfl,(m.sel [false,false,false,true,true]),by rw[cC ht,cl];exact hD8,ahU ht hu hc2,by omega,rfl⟩
   · skip
     obtain rfl:k=n5+nr:=by omega
     rw[show (ms++rs).take (n5+nr)=(ms++rs) from List.take_of_length_le (by rw[aw];omega)] at hu;refine aS 6 [] m ?_;simp only[↓aD];intro u m;refine aQ rfl rfl ?_;try simp only[zD,zE]
     exact⟨_,rfl,m.ext,by rw[decide_eq_true (Vs.1 hu)]⟩
end Go.Proofs.YtfekpcimgncioaaGreatDoor
namespace Go.Lith
open Go.RowKit
def Gy(o:Oper):Bool:=match o.op with | .defer _=>false | _=>true
theorem afw{o:Oper}(h:Gy o=true):∀c,o.op≠.defer c:=fun c e=>by unfold Gy at h;rw[e] at h;cases h
section
variable {P:bc} {Q:Exit→Act→ah→Prop} {r n:Nat}
theorem Su{row:String}{args:Array ac}{w:ah}{R:ac→ah→Prop}(h:Rows P row args w R):RowsIn (Fence.wide.inRound r) n P row args w R :=
 fun c cs _=>let ⟨v,w',q,s⟩:=h c cs;⟨v,w',q,stepsIn_wide.2 s⟩
theorem Ng{f:FuncId}{args:Array ac}{w:ah}{R:Ending→ah→Prop}(h:Calls P f args w R):CallsIn (Fence.wide.inRound r) n P f args w R :=
 (callsIn_wide (n:=n)).2 h
theorem Oper.wpIn_of{o:Oper}{a:Act}{w:ah}{K:Act→ah→Prop}(hd:Gy o=true)(h:o.wp P a w K Q):o.wpIn (Fence.wide.inRound r) n P a w K Q:=by
 unfold Oper.wp at h;refine⟨fun _ _=>trivial,?_⟩;rw[Oper.semAt_eq _ _ _ (afw hd)];generalize (ck a.eval o).run P w=z at *
 have h0:(Fence.wide.inRound r).depth.isSome=true→1≤n:=fun h=>by cases h
 cases z with
 | ok x w'=>cases x <;> simp only[lj,mz] at h ⊢ <;> first | exact h | exact⟨h0,Ng h⟩ | exact⟨h0,Su h⟩ | exact h.elim
 | halt x w'=>cases x <;> simp only[lj,mz] at h ⊢ <;> exact h
theorem xN{ops:Array Oper}(hq:¬LetsOut Q):∀(l:List Oper) (a:Act) (w:ah),l.all Gy=true→ao P ops Q l a w→wpListIn (Fence.wide.inRound r) n P ops Q l a w
 | [],a,w,_,h=>h
 | o::l,a,w,hd,h=>by
  simp only[List.all_cons,bh] at hd;simp only[ao] at h;simp only[wpListIn];split
  · rename_i hw
    rw[if_pos hw] at h;rcases h with h | ⟨_,h⟩
    · exact Oper.wpIn_of hd.1 (Oper.wp_mono (fun a w k=>xN hq l a w hd.2 k) h)
    · exact absurd h hq
  · rename_i hw
    rw[if_neg hw] at h;exact⟨fun _ _=>trivial,xN hq l _ w hd.2 h⟩
theorem uZ{md:Region.Mode}{ops:Array Oper}(hq:¬LetsOut Q)(hd:∀(i:Nat) (o:Oper),ops[i]? = some o→Gy o=true):∀(f:Nat) (listed:Array Bool) (a:Act) (w:ah),wpAny P md ops Q f listed a w→wpAnyIn (Fence.wide.inRound r) n P md ops Q f listed a w
 | 0,listed,a,w,h=>h
 | f+1,listed,a,w,h=>by
  refine⟨h.1,fun i hi=>?_⟩;have h2:=h.2 i hi;unfold wpOp at h2;unfold wpOpIn;split
  · rename_i hn
    simp only[hn] at h2;exact uZ hq hd f _ a w h2
  · rename_i o ho
    simp only[ho] at h2;split
    · rename_i hw
      rw[if_pos hw] at h2;rcases h2 with h2 | ⟨_,h2⟩
      · exact Oper.wpIn_of (hd i o ho) (Oper.wp_mono (fun a w k=>uZ hq hd f _ a w k) h2)
      · exact absurd h2 hq
    · rename_i hw
      rw[if_neg hw] at h2;exact⟨fun _ _=>trivial,uZ hq hd f _ _ w h2⟩
class Av(Q:Exit→Act→ah→Prop):Prop where
 h:¬LetsOut Q
instance {K:Act→ah→Prop}[q:Av Q]:Av (Exit.then K Q):=⟨fun⟨a,w,k⟩=>q.h ⟨a,w,k⟩⟩
instance {id:Nat}[q:Av Q]:Av (cj id Q):=⟨fun⟨a,w,k⟩=>q.h ⟨a,w,k⟩⟩
instance {α:Type}{B:Nat}{Kp:ah→ah→Prop}{I:List α→ah→Prop}{Ix:Code→List α→ah→Prop}{xs:List α}{W:ah}:Av (ownPostG B Kp I Ix xs W):=⟨fun⟨_,_,k⟩=>k⟩
instance:Av (fun _ _ _=>False):=⟨fun⟨_,_,k⟩=>k⟩
theorem bL{id:Nat}{l:List Oper}{a:Act}{w:ah}[hq:Av Q](h:ao P l.toArray Q l a w)(hd:l.all Gy=true:=by rfl):(Code.region id l.toArray false).wpIn (Fence.wide.inRound r) n P Q a w:=wpIn_region_lit (xN hq.h l a w hd h)
theorem lR{c1 c2:Code}{a:Act}{w:ah}(h:∀K:Act→ah→Prop,(∀a w,c2.wpIn (Fence.wide.inRound r) n P Q a w→K a w)→c1.wpIn (Fence.wide.inRound r) n P (Exit.then K Q) a w):(Code.seq c1 c2).wpIn (Fence.wide.inRound r) n P Q a w:=wpIn_seq_k h
variable {l:List ac} {ds:List cg} {w:ah} {c1 c2:Code}
theorem vA{x:a_}{b:Bool}(hx:ev l x=.bool b)(ht:b=true→c1.wpIn (Fence.wide.inRound r) n P Q (Fr l ds) w)(hf:b=false→c2.wpIn (Fence.wide.inRound r) n P Q (Fr l ds) w):(Code.cond x c1 c2).wpIn (Fence.wide.inRound r) n P Q (Fr l ds) w:=by
 refine wpIn_cond (t:=b) (by rw[iY,bS];exact hx) ?_;cases b with
 | false=>exact hf rfl
 | true=>exact ht rfl
theorem mV{id:Nat}{c:Code}{a:Act}(h:c.wpIn (Fence.wide.inRound r) n P (cj id Q) a w):(Code.block id c).wpIn (Fence.wide.inRound r) n P Q a w:=wpIn_block h
theorem afx{a:Act}(h:Q .normal a w):Code.skip.wpIn (Fence.wide.inRound r) n P Q a w:=wpIn_skip h
theorem Ia{a:Act}(h:Q .ret a w):Code.ret.wpIn (Fence.wide.inRound r) n P Q a w:=wpIn_ret h
theorem vQ{C:ah→Prop}{id:Nat}{a:Act}{l:List Oper}(k:Nat)(hq:¬LetsOut Q)(hd:l.all Gy=true)(hm:P.follows .mixedOrders=true)(hB:Region.lexTailB .any l.toArray k=true)
 (hC:C { w with drawn:=w.drawn+1 })
 (h:bz P l.toArray C (fun a'=>∀w',C w'→ao P l.toArray Q (l.drop k) a' w') (l.take k) a):(Code.region id l.toArray true).wpIn (Fence.wide.inRound r) n P Q a w:=by
 simp only[Region.lexTailB,bh,decide_eq_true_eq] at hB;obtain⟨⟨⟨⟨hsel,hn⟩,hs⟩,hc⟩,hlex⟩:=hB;have hn':k<l.length:=by simpa using hn
 have htl:(l.take k).length=k:=by simp;omega
 have hdl:(l.drop k).length=l.toArray.size-k:=by simp
 have inv0:HeadInv .any l.toArray k (fc l.toArray.size false) :=
  ⟨by simp,fun j oj _ hl=>(by rw[getD_replicate_false] at hl;cases hl),fun t _ ht=>getD_in (by simpa using ht) (getD_replicate_false _ _)⟩
 have H:=tZ (md:=.any) (g:=l.toArray.size-k) hsel hs hc hn (l.take k) 0 _ a (fun j hj=>by
  have hj':j<k:=by rw[htl] at hj;exact hj
  simp[hj']) (by simpa using htl) inv0 (by rw[htl];exact hlex) h
 refine wpIn_region_any hm ?_;have:=qX (Q':=Q) (g:=l.toArray.size-k) (fun listed a' hL w' hw'=>by
  have:=wpAny_of_seq (md:=.any) (Q':=Q) (l.drop k) k listed a' w' (fun j=>by simp[cu]) (by rw[hdl];exact hL.1) (hL.2 w' hw');rwa [hdl] at this) _ _ _ _ hC H
 rw[htl,show k+(l.toArray.size-k)=l.toArray.size by omega] at this;refine uZ hq (fun i o ho=>?_) _ _ _ _ this;have hi:o∈l:=by rw[List.getElem?_toArray] at ho;exact ba ho
 exact ew.1 hd o hi
structure RX(w w':ah):Prop where
 os:w'.os=w.os
 tape:w'.tape=w.tape
 output:w'.output=w.output
 ko:KeepsOthers w w'
theorem RX.refl(w:ah):RX w w:=⟨rfl,rfl,rfl,KeepsOthers.refl w⟩
theorem RX.ext{W u u':ah}(h:RX W u)(e:eW u u'):RX W u':=⟨e.os.trans h.os,e.tape.trans h.tape,e.output.trans h.output,h.ko.trans ⟨e.size,fun k o hk _=>e.block hk⟩⟩
theorem RX.chg{W u u':ah}{g:Nat}{cs:List ac}{t:aj}(h:RX W u)(hB:fA u g cs t)(e:Chg u u' g):RX W u' :=
 ⟨e.os.trans h.os,e.tape.trans h.tape,e.output.trans h.output,h.ko.trans ⟨Nat.le_of_eq e.size.symm,fun k o hk ho=>(e.block k fun hkg=>by
  subst hkg;rw[show u.heap[k]? = _ from hB] at hk;cases hk;cases ho).trans hk⟩⟩
structure jX(W w0 w:ah)(is:List It):Prop extends Mem w0 w is where
 rx:RX W w
theorem jX.start{w0 w:ah}{is:List It}(m:Mem w0 w is):jX w w0 w is:=⟨m,RX.refl w⟩
theorem jX.e{W w0 w w':ah}{is:List It}(m:jX W w0 w is)(e:eW w w'):jX W w0 w' is:=⟨m.ext' e,m.rx.ext e⟩
section
variable {W w0:ah} {is:List It} {ops:Array Oper} {rest:List Oper} {d:Nat} {ty T:aj} {pos:String} {after:Array Edge} {x y:a_} {v:ac}
theorem Dk{cs:List ac}{z:ac}(m:jX W w0 w is)(hZ:mC P T z)(hv:z.cells=cs.toArray)(h:∀g u,jX W w0 u (bI g cs T::is)→ao P ops Q rest (Fr (l.set d (.pointer (some ⟨g,0,none⟩))) ds) u) :
 ao P ops Q (bi (some d) (.alloc T) ty pos after none::rest) (Fr l ds) w:=xW hZ hv fun u g e hg hB=>h g u ⟨m.toMem.newB e hg hB,m.rx.ext e⟩
theorem aa8{g off:Nat}{cs us:List ac}{t:aj}(m:jX W w0 w is)(k:Nat)(hk:is[k]? = some (bI g cs t))(hx:ev l x=.pointer (some ⟨g,off,none⟩))(hv:(ev l y).cells=us.toArray)(hc:cS P T us.length)(hfit:off+us.length≤cs.length)(h1:(us.all (·.oneCell'))=true)
 (h:∀u,jX W w0 u (is.set k (bI g (over cs off us) t))→ao P ops Q rest (Fr l ds) u):ao P ops Q (bi none (.store T x y) ty pos after none::rest) (Fr l ds) w :=
 uA hx hv hc (m.b k hk) hfit (jM h1) fun u hC hB=>h u ⟨m.put k hk hC.os hC.tape hC.output (by rw[hC.size];exact ap _) (fun b _ hne=>hC.block b fun e=>hne (by rw[e];rfl)) hB (.inl fun _ h=>h),m.rx.chg (m.b k hk) hC⟩
theorem xO{g off:Nat}{cs us:List ac}{t:aj}(m:jX W w0 w is)(k:Nat)(hk:is[k]? = some (bI g cs t))(hx:ev l x=.pointer (some ⟨g,off,none⟩))(hv:ev l y=.agg us.toArray)(hc:cS P T us.length)(hfit:off+us.length≤cs.length)(h1:(us.all (·.oneCell'))=true)
 (h:∀u,jX W w0 u (is.set k (bI g (over cs off us) t))→ao P ops Q rest (Fr l ds) u):ao P ops Q (bi none (.store T x y) ty pos after none::rest) (Fr l ds) w:=aa8 m k hk hx (by rw[hv];rfl) hc hfit h1 h
theorem gV{g off:Nat}{cs:List ac}{v:ac}{t:aj}(m:jX W w0 w is)(k:Nat)(hk:is[k]? = some (bI g cs t))(hx:ev l x=.pointer (some ⟨g,off,none⟩))(hv:ev l y=v)(hc:cS P T 1)(hfit:off+1≤cs.length)(h1:v.oneCell'=true∧v.cells = #[v])
 (h:∀u,jX W w0 u (is.set k (bI g (over cs off [v]) t))→ao P ops Q rest (Fr l ds) u):ao P ops Q (bi none (.store T x y) ty pos after none::rest) (Fr l ds) w:=aa8 (us:=[v]) m k hk hx (by rw[hv];exact h1.2) hc hfit (by simp[h1.1]) h
theorem Ib{f:FuncId}{fo:a_}{xs:Array a_}{args:List ac}{first cap:Array ac}{a0:Array aj}(m:jX W w0 w is)(hf:ev l fo=.func (.func f) first cap)(hxs:first.toList++xs.toList.map (ev l)++cap.toList=args)(hc:eM P f args v)
 (h:∀u,jX W w0 u is→ao P ops Q rest (Fr (l.set d v) ds) u):ao P ops Q (bi (some d) (.call { callee:=.value fo,args:=xs,argTypes:=a0 }) ty pos after none::rest) (Fr l ds) w :=
 Pv hf hxs hc fun u e=>h u (m.e e)
theorem tT{id:Nat}{a:Act}{l:List Oper}[hq:Av Q](m:jX W w0 w is)(k:Nat)(hm:P.follows .mixedOrders=true)(hB:Region.lexTailB .any l.toArray k=true)
 (h:bz P l.toArray (fun u=>jX W w0 u is) (fun a'=>∀u,jX W w0 u is→ao P l.toArray Q (l.drop k) a' u) (l.take k) a) (hd:l.all Gy=true:=by rfl):(Code.region id l.toArray true).wpIn (Fence.wide.inRound r) n P Q a w :=
 vQ (C:=fun u=>jX W w0 u is) k hq.h hd hm hB (m.e (eW.refl w).drawn) h
variable {Qq:Act→Prop}
theorem yY{a:Addr}(hx:ev l x=.pointer (some a))(hv:∀u,jX W w0 u is→gM P u T a v)(h:bz P ops (fun u=>jX W w0 u is) Qq rest (Fr (l.set d v) ds)):bz P ops (fun u=>jX W w0 u is) Qq (bi (some d) (.load T x) ty pos after none::rest) (Fr l ds) :=
 jC (fun u m=>aW hx (hv u m)) h
theorem acH{f:FuncId}{fo:a_}{xs:Array a_}{args:List ac}{first cap:Array ac}{a0:Array aj}(hf:ev l fo=.func (.func f) first cap)(hxs:first.toList++xs.toList.map (ev l)++cap.toList=args)(hc:eM P f args v)
 (h:bz P ops (fun u=>jX W w0 u is) Qq rest (Fr (l.set d v) ds)):bz P ops (fun u=>jX W w0 u is) Qq (bi (some d) (.call { callee:=.value fo,args:=xs,argTypes:=a0 }) ty pos after none::rest) (Fr l ds):=by
 refine wpQuiet_step fun K hK=>?_;rw[if_pos (by simp[Region.wanted])];refine⟨v,fun w' hw=>?_,?_⟩
 · unfold Oper.quietAt
   rw[iY,nA (hc w').1 hf hxs _ rfl];refine⟨rfl,(hc w').2.mono ?_⟩;rintro e w'' ⟨u,rfl,hE,rfl⟩;exact⟨rfl,hw.e hE⟩
 · show K ((Fr l ds).put (some d) v)
   rw[gE];exact hK _ h
end
end
/-! ### Within the fence that bars nothing: a head of quiet operations,then a tail that may yield -/
section
variable {P:bc} {Q:Exit→Act→ah→Prop} {n:Nat} {C:ah→Prop} {ops:Array Oper} {md:Region.Mode}
theorem Vt{row:String}{args:Array ac}{w:ah}{R:ac→ah→Prop}(h:Rows P row args w R):RowsIn Fence.wide n P row args w R :=
 fun c cs _=>let ⟨v,w',q,s⟩:=h c cs;⟨v,w',q,stepsIn_wide.2 s⟩
theorem Oper.wpIn_q{o:Oper}{a:Act}{w:ah}{K:Act→ah→Prop}(h:o.wp P a w K (fun _ _ _=>False)):o.wpIn Fence.wide n P a w K Q:=by
 unfold Oper.wp at h;refine⟨fun _ _=>trivial,?_⟩;show mz _ _ _ _ _ _ _ ((ck a.eval o).run P w)
 generalize (ck a.eval o).run P w=z at *
 have h0:Fence.wide.depth.isSome=true→1≤n:=fun h=>by cases h
 cases z with
 | ok x w' =>
  cases x <;> simp only[lj,mz] at h ⊢ <;> first
   | exact h
   | exact⟨h0,(callsIn_wide.2 h).mono fun e w'' k=>by cases e with | returned v=>exact k | panicked c=>exact k.elim | outgrown=>exact (k.elim fun _ k=>k.elim fun _ k=>k.elim)⟩
   | exact⟨h0,Vt h⟩
   | exact h.elim
 | halt x w'=>cases x <;> simp only[lj,mz] at h ⊢ <;> first | exact h | exact h.elim
theorem afy{i:Nat}{K:Act→ah→Prop}{a:Act}{w:ah}(h:wpOp P ops (fun _ _ _=>False) i K a w):wpOpIn Fence.wide n P ops Q i K a w:=by
 unfold wpOp at h;unfold wpOpIn;split
 · rename_i hn
   simp only[hn] at h;exact h
 · rename_i o ho
   simp only[ho] at h;split
   · rename_i hw
     rw[if_pos hw] at h;rcases h with h | ⟨_,_,_,h⟩
     · exact Oper.wpIn_q h
     · exact h.elim
   · rename_i hw
     rw[if_neg hw] at h;exact⟨fun _ _=>trivial,h⟩
theorem tU{k g:Nat}{L:Array Bool→Act→Prop}(hL:∀listed a,L listed a→∀w,C w→wpAnyIn Fence.wide n P md ops Q g listed a w) :
 ∀(f:Nat) (listed:Array Bool) (a:Act) (w:ah),C w→Eb P md ops C k L f listed a→wpAnyIn Fence.wide n P md ops Q (f+g) listed a w
 | 0,listed,a,w,hw,h=>by rw[aq];exact hL _ _ h w hw
 | f+1,listed,a,w,hw,h=>by
  rw[show f+1+g=(f+g)+1 by omega];exact⟨fun h0=>absurd h0 h.1,fun i hi=>afy (wpOp_of_qOp hw (fun a' w' hw' h'=>tU hL f _ a' w' hw' h') (h.2 i hi).2)⟩
theorem xP:∀(l:List Oper) (k:Nat) (listed:Array Bool) (a:Act) (w:ah),(∀j,l[j]? = ops[k+j]?) →
 Region.seqB md ops l.length k listed=true→wpListIn Fence.wide n P ops Q l a w→wpAnyIn Fence.wide n P md ops Q l.length listed a w
 | [],_,_,_,_,_,hB,h=>⟨by simpa[Region.seqB] using hB,h⟩
 | o::l,k,listed,a,w,hl,hB,h=>by
  have h0:ops[k]? = some o:=by simpa using (hl 0).symm
  simp only[au,Region.seqB,bh,decide_eq_true_eq] at hB;refine⟨fun h1=>(by rw[hB.1] at h1;cases h1),fun i hi=>?_⟩;rw[hB.1] at hi;have hik:i=k:=by simpa using hi
  subst hik;have hw:wpOpIn Fence.wide n P ops Q i (wpListIn Fence.wide n P ops Q l) a w:=by unfold wpOpIn;simp only[h0];exact h
  exact wpOpIn_mono (fun a' w' h'=>xP l (i+1) _ a' w' (fun j=>by have:=hl (j+1);simpa[Nat.add_assoc,Nat.add_comm 1 j] using this) hB.2 h') hw
theorem vB{w:ah}{id:Nat}{a:Act}{l:List Oper}(k:Nat)(hm:P.follows .mixedOrders=true)(hB:Region.lexTailB .any l.toArray k=true)
 (hC:C { w with drawn:=w.drawn+1 })
 (h:bz P l.toArray C (fun a'=>∀w',C w'→wpListIn Fence.wide n P l.toArray Q (l.drop k) a' w') (l.take k) a):(Code.region id l.toArray true).wpIn Fence.wide n P Q a w:=by
 simp only[Region.lexTailB,bh,decide_eq_true_eq] at hB;obtain⟨⟨⟨⟨hsel,hn⟩,hs⟩,hc⟩,hlex⟩:=hB;have hn':k<l.length:=by simpa using hn
 have htl:(l.take k).length=k:=by simp;omega
 have hdl:(l.drop k).length=l.toArray.size-k:=by simp
 have inv0:HeadInv .any l.toArray k (fc l.toArray.size false) :=
  ⟨by simp,fun j oj _ hl=>(by rw[getD_replicate_false] at hl;cases hl),fun t _ ht=>getD_in (by simpa using ht) (getD_replicate_false _ _)⟩
 have H:=tZ (md:=.any) (g:=l.toArray.size-k) hsel hs hc hn (l.take k) 0 _ a (fun j hj=>by
  have hj':j<k:=by rw[htl] at hj;exact hj
  simp[hj']) (by simpa using htl) inv0 (by rw[htl];exact hlex) h
 refine wpIn_region_any hm ?_;have:=tU (Q:=Q) (n:=n) (g:=l.toArray.size-k) (fun listed a' hL w' hw'=>by
  have:=xP (md:=.any) (Q:=Q) (n:=n) (l.drop k) k listed a' w' (fun j=>by simp[cu]) (by rw[hdl];exact hL.1) (hL.2 w' hw');rwa [hdl] at this) _ _ _ _ hC H
 rw[htl,show k+(l.toArray.size-k)=l.toArray.size by omega] at this;exact this
theorem Ic{l:List ac}{ds:List cg}{w:ah}{y d:Nat}{f:FuncId}{fo:a_}{xs:Array a_}{args:List ac}{a0:Array aj}{ty:aj}{pos:String}{after:Array Edge}{rest:List Oper}{tmps:Array ac}{assign body:Code}{R:Ending→ah→Prop}
 (hf:ev l fo=.func (.yield y) #[] #[]) (hxs:xs.toList.map (ev l)=args) (hy:(Instr.yield y args.toArray).run P w=.ok (.round y f tmps assign body) w) (hR:RoundIn Fence.wide (n-1) P y f tmps assign body w R)
 (h:∀e w',R e w'→∃v,e=.returned v∧wpListIn Fence.wide n P ops Q rest (Fr (l.set d v) ds) w') :
 wpListIn Fence.wide n P ops Q (bi (some d) (.call { callee:=.value fo,args:=xs,argTypes:=a0 }) ty pos after none::rest) (Fr l ds) w:=by
 refine wpListIn_plain rfl fun K hK=>?_;refine⟨fun _ _=>trivial,?_⟩;have e:(Fr l ds).eval=ev l:=funext bS;have ea:args.toArray = #[]++xs.map (ev l) ++ #[]:=by
  rw[←hxs];apply Array.ext';simp
 have er:(ck (Fr l ds).eval (bi (some d) (.call { callee:=.value fo,args:=xs,argTypes:=a0 }) ty pos after none)).run P w=.ok (.round y f tmps assign body) w:=by
  rw[ea] at hy;simp[ck,resolve,e,hf,Deferred.ofValue,invoke] at hy ⊢;exact hy
 rw[show np Fence.wide.round=np none from rfl,Oper.semAt_none,er];refine⟨fun (h:Fence.wide.depth.isSome=true)=>(by cases h),hR.mono fun e w' hr=>?_⟩;obtain⟨v,rfl,hk⟩:=h e w' hr;exact hK _ _ (by rw[gE];exact hk)
theorem sX{l:List ac}{ds:List cg}{w:ah}{d:Nat}{op:Op}{ty:aj}{pos:String}{after:Array Edge}{rest:List Oper}{v:ac}(hr:vL P l op ty v w)(h:wpListIn Fence.wide n P ops Q rest (Fr (l.set d v) ds) w):wpListIn Fence.wide n P ops Q (bi (some d) op ty pos after none::rest) (Fr l ds) w:=by
 refine wpListIn_plain rfl fun K hK=>?_;refine⟨fun _ _=>trivial,?_⟩;rw[show np Fence.wide.round=np none from rfl,Oper.semAt_none,iY,hr _ rfl rfl];show K ((Fr l ds).put (some d) v) w
 rw[gE];exact hK _ _ h
end
theorem Ie{β:Type}(B:Nat)(g:β→Nat)(cs:β→List ac)(t:aj):OwnFrom B fun s W=>fA W (g s) (cs s) t:=fun s X Y row hs hg hr=>by
 have hs':X.heap[g s]? = some (.cells (cs s).toArray t (0,0)):=hs;show Y.heap[g s]? = _
 rw[grownBy_keeps_cells hg (fun r e=>(hr r e).2) hs' rfl];exact hs'
theorem aa9{β:Type}{B:Nat}{w:ah}(h:w.heap.size≤B):OwnFrom B fun (_:β) W=>eW w W:=ownFrom_below (ap _) h
def ahV(is:List It):Prop:=∀i∈is,∃g cs t,i=bI g cs t
theorem aba{β:Type}{B:Nat}{w:ah}(F:β→List It)(hF:∀s,ahV (F s))(h:w.heap.size≤B):OwnFrom B fun s W=>Mem w W (F s):=fun s W W' row hs hg hr=>by
 refine⟨aa9 (β:=Unit) h () W W' row hs.ext hg hr,fun i hi=>?_,hs.ge,hs.nd⟩;obtain⟨g,cs,t,rfl⟩:=hF s i hi;exact Ie (β:=Unit) B (fun _=>g) (fun _=>cs) t () W W' row (hs.all _ hi) hg hr
end Go.Lith
namespace Go.Proofs.YtfekpcimgncioaaGreatDoor
open Go.Proofs.Tryz
open Go.RowKit Go.Lith
attribute [local go_sem] Oper.semAt_some
def aiR(t:T3)(k:Nat):Array ac:=#[pt (t.cor k),pt (t.cor ((k+1)%3))]
set_option maxRecDepth 100000 in
theorem acI(n:Nat)(hn:1≤n)(l Bs n₀:Nat)(t:T3)(J Jx:List Nat→ah→Prop)
 (hJd:∀s W,J s W→J s W.drew) (hY:∀pre x W,J pre W→pre.length<3→YieldAt Fence.wide (n-1) prog l (aiR t x) W fun e W' =>
  (e=.returned (.bool true)∧J (pre++[x]) W'∧kY n₀ Bs W W')∨(e=.returned (.bool false)∧Jx (pre++[x]) W'))
 (W:ah) (hBs:fA W Bs (aK t) 39) (h0:J [] W) :
 CallsIn Fence.wide n prog 337 #[.func (.yield l) #[] #[],.pointer (some ⟨Bs,0,none⟩)] W fun e W'=>(∃v,e=.returned v) ∧
  ((∃ys:List Nat,ys=[0,1,2]∧J ys W')∨(∃pre,(∀k∈pre,k<3)∧Jx pre W')):=by
 refine callsIn_of_wp func337 rfl trivial ?_ rfl;simp only[ntmps337,fh,au,bt,aa,i_,gd,gg,g_,gr,bv,b_]
 gi_wp2
 gi_loopw [4] (fun i wr=>∃(k:Nat),k≤3∧i=.int .i64 (k:Int)∧J (ip k) wr∧kY n₀ Bs W wr)
  (fun i _=>(3-intOf i).toNat)
 case atStart=>exact⟨0,by omega,rfl,h0,kY.refl _ _ _⟩
 case round =>
  obtain⟨k,hk,rfl,hJs,hnx⟩:=hrel;have hB:fA wr Bs (aK t) 39:=hnx.2.trans hBs;have hD:fA wr.drew Bs (aK t) 39:=hB;have hk4:k=0∨k=1∨k=2∨k=3:=by omega
  rcases hk4 with rfl | rfl | rfl | rfl
  · obtain⟨fn,tmps,assign,body,hy,hR⟩:=hY (ip 0) 0 wr.drew (hJd _ _ hJs) (by decide)
    gi_wp2
    rename_i K1 hK1 K2 hK2;refine vB (C:=fun u=>u=wr.drew) 9 aC (by kernel_rfl) rfl ?_;simp only[zy];refine aH aI (aH aI (aH (aJ dC aA rfl rfl (by decide) (by decide) rfl) ?_));simp only[zz,zy,aq,aa,ad,ab];refine jC (fun u hu=>aW rfl (hu▸(nV.cor (c:=0) (hD.row 0) (by decide)).lies aG aA)) ?_;simp only[zz];refine aH aI (aH (eL (m:=0) (n:=1) (r:=1) rfl rfl (by decide)) (aH (cU (m:=1) (n:=3) (r:=1) rfl rfl (by decide) (by decide)) ?_));simp only[zz];refine aH (aJ dC aA rfl rfl (by decide) (by decide) rfl) ?_;simp only[zz,zy,aq,aa,ad,ab];refine jC (fun u hu=>aW rfl (hu▸(nV.cor (c:=1) (hD.row 0) (by decide)).lies aG aA)) ?_;simp only[zz];refine aY ?_;rintro u rfl;try simp only[zy]
    refine Ic rfl rfl hy hR ?_;rintro e W3 (⟨rfl,hJ3,hk3⟩ | ⟨rfl,hJx3⟩)
    · refine⟨_,rfl,?_⟩
      simp only[zz];refine sX (qY rfl _) (wpListIn_nil (hK2 _ _ ?_));simp only[zz,el]
      gi_wp2
      go_roundw
      case rel=>exact⟨0+1,by decide,rfl,hJ3,hnx.trans ((show kY n₀ Bs wr wr.drew from⟨(Below.refl _ _).drew,rfl⟩).trans hk3)⟩
      case measure=>simp[intOf]
    · refine⟨_,rfl,?_⟩
      simp only[zz];refine sX (qY rfl _) (wpListIn_nil (hK2 _ _ ?_));simp only[zz,ei]
      gi_wp2
      refine bodyPost_ret (results_none rfl _ _ _) rfl ?_;exact⟨⟨_,rfl⟩,.inr ⟨_,by decide,hJx3⟩⟩
  · obtain⟨fn,tmps,assign,body,hy,hR⟩:=hY (ip 1) 1 wr.drew (hJd _ _ hJs) (by decide)
    gi_wp2
    rename_i K1 hK1 K2 hK2;refine vB (C:=fun u=>u=wr.drew) 9 aC (by kernel_rfl) rfl ?_;simp only[zy];refine aH aI (aH aI (aH (aJ dC aA rfl rfl (by decide) (by decide) rfl) ?_));simp only[zz,zy,aq,aa,ad,ab];refine jC (fun u hu=>aW rfl (hu▸(nV.cor (c:=1) (hD.row 0) (by decide)).lies aG aA)) ?_;simp only[zz];refine aH aI (aH (eL (m:=1) (n:=1) (r:=2) rfl rfl (by decide)) (aH (cU (m:=2) (n:=3) (r:=2) rfl rfl (by decide) (by decide)) ?_));simp only[zz];refine aH (aJ dC aA rfl rfl (by decide) (by decide) rfl) ?_;simp only[zz,zy,aq,aa,ad,ab];refine jC (fun u hu=>aW rfl (hu▸(nV.cor (c:=2) (hD.row 0) (by decide)).lies aG aA)) ?_;simp only[zz];refine aY ?_;rintro u rfl;try simp only[zy]
    refine Ic rfl rfl hy hR ?_;rintro e W3 (⟨rfl,hJ3,hk3⟩ | ⟨rfl,hJx3⟩)
    · refine⟨_,rfl,?_⟩
      simp only[zz];refine sX (qY rfl _) (wpListIn_nil (hK2 _ _ ?_));simp only[zz,el]
      gi_wp2
      go_roundw
      case rel=>exact⟨1+1,by decide,rfl,hJ3,hnx.trans ((show kY n₀ Bs wr wr.drew from⟨(Below.refl _ _).drew,rfl⟩).trans hk3)⟩
      case measure=>simp[intOf]
    · refine⟨_,rfl,?_⟩
      simp only[zz];refine sX (qY rfl _) (wpListIn_nil (hK2 _ _ ?_));simp only[zz,ei]
      gi_wp2
      refine bodyPost_ret (results_none rfl _ _ _) rfl ?_;exact⟨⟨_,rfl⟩,.inr ⟨_,by decide,hJx3⟩⟩
  · obtain⟨fn,tmps,assign,body,hy,hR⟩:=hY (ip 2) 2 wr.drew (hJd _ _ hJs) (by decide)
    gi_wp2
    rename_i K1 hK1 K2 hK2;refine vB (C:=fun u=>u=wr.drew) 9 aC (by kernel_rfl) rfl ?_;simp only[zy];refine aH aI (aH aI (aH (aJ dC aA rfl rfl (by decide) (by decide) rfl) ?_));simp only[zz,zy,aq,aa,ad,ab];refine jC (fun u hu=>aW rfl (hu▸(nV.cor (c:=2) (hD.row 0) (by decide)).lies aG aA)) ?_;simp only[zz];refine aH aI (aH (eL (m:=2) (n:=1) (r:=3) rfl rfl (by decide)) (aH (cU (m:=3) (n:=3) (r:=0) rfl rfl (by decide) (by decide)) ?_));simp only[zz];refine aH (aJ dC aA rfl rfl (by decide) (by decide) rfl) ?_;simp only[zz,zy,aq,aa,ad,ab];refine jC (fun u hu=>aW rfl (hu▸(nV.cor (c:=0) (hD.row 0) (by decide)).lies aG aA)) ?_;simp only[zz];refine aY ?_;rintro u rfl;try simp only[zy]
    refine Ic rfl rfl hy hR ?_;rintro e W3 (⟨rfl,hJ3,hk3⟩ | ⟨rfl,hJx3⟩)
    · refine⟨_,rfl,?_⟩
      simp only[zz];refine sX (qY rfl _) (wpListIn_nil (hK2 _ _ ?_));simp only[zz,el]
      gi_wp2
      go_roundw
      case rel=>exact⟨2+1,by decide,rfl,hJ3,hnx.trans ((show kY n₀ Bs wr wr.drew from⟨(Below.refl _ _).drew,rfl⟩).trans hk3)⟩
      case measure=>simp[intOf]
    · refine⟨_,rfl,?_⟩
      simp only[zz];refine sX (qY rfl _) (wpListIn_nil (hK2 _ _ ?_));simp only[zz,ei]
      gi_wp2
      refine bodyPost_ret (results_none rfl _ _ _) rfl ?_;exact⟨⟨_,rfl⟩,.inr ⟨_,by decide,hJx3⟩⟩
  · gi_wp2
    go_end0
    exact⟨⟨_,rfl⟩,.inl ⟨_,rfl,hJs⟩⟩
end Go.Proofs.YtfekpcimgncioaaGreatDoor
namespace Go.Proofs.YtfekpcimgncioaaGreatDoor
open Go.Proofs.Tryz
open Go.RowKit Go.Lith
section
variable {w0 w:ah} {is:List It}
def dI(D:Nat)(o:Obj):It where
 own b:=some D=some b
 P w:=w.heap[D]? = some o
 lt w b h e:=by cases e;exact (da.1 h).1
 st w w' h _ k:=(k D rfl).trans h
theorem _root_.Go.Lith.Mem.putD{D:Nat}{o o':Obj}(m:Mem w0 w is)(k:Nat)(hk:is[k]? = some (dI D o)):Mem w0 (w.putObj D o') (is.set k (dI D o')):=by
 have hl:D<w.heap.size:=(dI D o).lt w D (m.get k hk) rfl;refine m.put k hk rfl rfl rfl (by show _≤(w.heap.setIfInBounds D o').size;simp) (fun b _ hne=>World.putObj_heap_other (fun e=>hne (by rw[e];rfl))) ?_ (.inl fun _ h=>h);show (w.heap.setIfInBounds D o')[D]? = some o'
 simp[hl]
theorem _root_.Go.Lith.Mem.addD{D:Nat}{x:Option (List cg)}(m:Mem w0 w is)(hA:ahV is)(h:w.heap[D]? = some (.deferred x))(hge:w0.heap.size≤D):Mem w0 w (dI D (.deferred x)::is):=by
 refine⟨m.ext,fun i hi=>?_,fun i hi b hb=>?_,bj.2 ⟨fun j hj b h1 h2=>?_,m.nd⟩⟩
 · rcases ak.1 hi with rfl | hi
   · exact h
   · exact m.all i hi
 · rcases ak.1 hi with rfl | hi
   · cases hb;exact hge
   · exact m.ge i hi b hb
 · obtain⟨g,cs,t,rfl⟩:=hA j hj
   cases h1;cases h2;have hB:w.heap[D]? = some (.cells cs.toArray t (0,0)):=m.all _ hj;rw[h] at hB;cases hB
theorem aiS{P:bc}{l:List ac}{n:Nat}{fn:Func}{R:Ending→ah→Prop}{w:ah}(h:bodyPost P fn R .ret (Fr l) w):bodyPostM Fence.wide n P fn R .ret (Fr l) w:=by
 obtain⟨_,v,hv,hR⟩:=h;exact⟨v,hv,hR⟩
theorem Vu{W u:ah}{Bs:Nat}{cs:List ac}{t:aj}(rx:RX W u)(h1:fA W Bs cs t)(h2:fA u Bs cs t):kY 0 Bs W u :=
 ⟨⟨rx.os,rx.tape,rx.output,rx.ko.size,fun k hk=>absurd hk (ma _)⟩,(show u.heap[Bs]? = _ from h2).trans (show W.heap[Bs]? = _ from h1).symm⟩
theorem afz{g k:Nat}{c1 c2:List ac}{T1 T2:aj}(m:Mem w0 w is)(h1:fA w g c1 T1)(h2:fA w k c2 T2)(hgk:k≠g)(hg:∀o∈is.map (·.own),¬o g)(hk:∀o∈is.map (·.own),¬o k)(eg:w0.heap.size≤g)(ek:w0.heap.size≤k):Mem w0 w (bI k c2 T2::bI g c1 T1::is):=by
 refine⟨m.ext,fun i hi=>?_,fun i hi b hb=>?_,bj.2 ⟨fun j hj b e1 e2=>?_,bj.2 ⟨fun j hj b e1 e2=>?_,m.nd⟩⟩⟩
 · rcases ak.1 hi with rfl | hi
   · exact h2
   · rcases ak.1 hi with rfl | hi
     · exact h1
     · exact m.all i hi
 · rcases ak.1 hi with rfl | hi
   · cases hb;exact ek
   · rcases ak.1 hi with rfl | hi
     · cases hb;exact eg
     · exact m.ge i hi b hb
 · cases e1
   rcases ak.1 hj with rfl | hj
   · cases e2;exact hgk rfl
   · exact hk _ (fe hj) e2
 · cases e1
   exact hg _ (fe hj) e2
theorem afA{g k:Nat}{c1 c2:List ac}{T1 T2:aj}(m:Mem w0 w (bI k c2 T2::bI g c1 T1::is)):k≠g∧(∀o∈is.map (·.own),¬o g)∧(∀o∈is.map (·.own),¬o k)∧w0.heap.size≤g∧w0.heap.size≤k:=by
 obtain⟨h1,h2⟩:=bj.1 m.nd;obtain⟨h3,_⟩:=bj.1 h2;refine⟨fun e=>h1 _ bp k rfl (by rw[e];rfl),fun o ho h=>?_,fun o ho h=>?_,m.ge _ (bm _ bp) g rfl,m.ge _ bp k rfl⟩
 · obtain⟨i,hi,rfl⟩:=dj.1 ho
   exact h3 i hi g rfl h
 · obtain⟨i,hi,rfl⟩:=dj.1 ho
   exact h1 i (bm _ hi) k rfl h
theorem Vv{α:Type}{L:List ac}{go:a_}{gf Bs N q1 q2 d1 d2:Nat}{assign body:Code}{Q:Exit→Act→ah→Prop}{P:bc}{S Sp:List α→Prop}{v1 v2:α→ac}{c1 c2:α→List ac}{T1 T2 tB:aj}{csB:List ac}
 (hf:ev L go=.func (.func gf) #[] #[.pointer (some ⟨Bs,0,none⟩)]) (he:Lith.Entr P gf) (hseq:SeqStopsK Fence.wide 3 P gf #[.pointer (some ⟨Bs,0,none⟩)] (fun x=>#[v1 x,v2 x]) (kY 0 Bs) S Sp N w)
 (I Ir:List α→List It) (J Jr:List α→Prop) (hA:∀pre,ahV (I pre)) (hAr:∀pre,ahV (Ir pre)) (hid:∀pre,(I pre).map (·.own)=(I []).map (·.own)) (hBs:∀pre,bI Bs csB tB∈I pre)
 (m:Mem w0 w (I [])) (hJ:J [])
 (hassign:∀(r:Nat) (pre:List α) (x:α) (W:ah) (K:Act→ah→Prop),jX W w0 W (I pre)→(∀g k u,jX W w0 u (bI k (c2 x) T2::bI g (c1 x) T1::I pre)→K (Fr ((((L.set q1 (v1 x)).set q2 (v2 x)).set d1 (.pointer (some ⟨g,0,none⟩))).set d2 (.pointer (some ⟨k,0,none⟩)))) u) →
  assign.wpIn (Fence.wide.inRound r) 2 P (Exit.then K (fun _ _ _=>False)) (Fr ((L.set q1 (v1 x)).set q2 (v2 x))) W)
 (hbody:∀(r:Nat) (pre:List α) (x:α) (g k:Nat) (W:ah) (Q':Exit→Act→ah→Prop) [Av Q'],J pre→pre.length<N→jX W w0 W (bI k (c2 x) T2::bI g (c1 x) T1::I pre) →
  (∀a u,jX W w0 u (I (pre++[x]))→J (pre++[x])→Q' .normal a u)→(∀a u,jX W w0 u (Ir (pre++[x]))→Jr (pre++[x])→Q' .ret a u) →
  body.wpIn (Fence.wide.inRound r) 2 P Q' (Fr ((((L.set q1 (v1 x)).set q2 (v2 x)).set d1 (.pointer (some ⟨g,0,none⟩))).set d2 (.pointer (some ⟨k,0,none⟩)))) W)
 (hdone:∀(D:Nat) (xs:List α) (u:ah),S xs→J xs→Mem w0 u (dI D (.deferred (some []))::I xs)→Q .normal (Fr L [{ target:=.collected D,args:=#[] }]) u)
 (hstop:∀(D:Nat) (pre:List α) (u:ah),Sp pre→Jr pre→Mem w0 u (dI D (.deferred (some []))::Ir pre)→Q .ret (Fr L [{ target:=.collected D,args:=#[] }]) u) :
 (Code.rangeFunc go #[q1,q2] assign body).wp P Q (Fr L) w:=by
 refine (wpIn_wide (n:=4)).1 ?_;have hsz:=m.ext.size;refine wpIn_rangeFunc_ownH (F:=Fence.wide) rfl (by omega) (gf:=gf) (lb:=#[.pointer (some ⟨Bs,0,none⟩)]) (by rw[bS];exact hf) trivial (fun args u=>pX he) hseq kY.trans
  (fun W l o o' hl ho hc _=>⟨⟨rfl,rfl,rfl,by show _≤(W.heap.setIfInBounds l o').size;simp,fun k hk=>absurd hk (ma _)⟩,World.putObj_heap_other (fun e=>by
   have hb:=(m.all _ (hBs [])).lt;omega)⟩) (Below.refl _ _) (fun _=>rfl)
  (fun pre W=>Mem w0 W (I pre)∧J pre) (fun c pre W=>Mem w0 W (Ir pre)∧(c=.ret∧Jr pre))
  (OwnFrom.and (aba I hA hsz) (ownFrom_pure _ J)) (fun c=>OwnFrom.and (aba Ir hAr hsz) (ownFrom_pure _ _)) ⟨m,hJ⟩
  (fun x a' W=>∃g k,a'=Fr ((((L.set q1 (v1 x)).set q2 (v2 x)).set d1 (.pointer (some ⟨g,0,none⟩))).set d2 (.pointer (some ⟨k,0,none⟩)))∧fA W g (c1 x) T1∧fA W k (c2 x) T2∧k≠g∧(∀o∈(I []).map (·.own),¬o g)∧(∀o∈(I []).map (·.own),¬o k)∧w0.heap.size≤g∧w0.heap.size≤k)
  (fun x a' _ X Y row hs hg hr=>by
   obtain⟨g,k,e,h1,h2,h3⟩:=hs;exact⟨g,k,e,Ie (β:=Unit) _ (fun _=>g) (fun _=>c1 x) T1 () X Y row h1 hg hr,Ie (β:=Unit) _ (fun _=>k) (fun _=>c2 x) T2 () X Y row h2 hg hr,h3⟩)
  ?_ ?_ ?_ ?_
 · intro r pre x W K hI hK
   have e:((#[q1,q2].zip #[v1 x,v2 x]).foldl (fun t (y:Tmp × ac)=>t.setIfInBounds y.1 y.2) (Fr L).tmps)=((L.set q1 (v1 x)).set q2 (v2 x)).toArray:=by simp
   have:=hassign r pre x W K (jX.start hI.1) (fun g k u hm=>?_)
   · simp only at this ⊢
     rw[e];exact this
   · have hp:=afA hm.toMem
     rw[hid pre] at hp;have hI2:Mem w0 u (I pre):=hm.toMem.tl.tl;exact hK _ _ (hm.rx.ko.from _) (Vu hm.rx (hI.1.all _ (hBs pre)) (hI2.all _ (hBs pre))) ⟨hI2,hI.2⟩ ⟨g,k,rfl,hm.all _ (bm _ bp),hm.all _ bp,hp⟩
 · rintro r pre x a' W _ _ ⟨hI,hJp⟩ ⟨g,k,rfl,h1,h2,h3,h4,h5,h6,h7⟩ hN
   rw[←hid pre] at h4 h5;refine hbody r pre x g k W _ hJp hN (jX.start (afz hI h1 h2 h3 h4 h5 h6 h7)) (fun a u hm hj=>?_) (fun a u hm hj=>?_)
   · exact⟨hm.rx.ko.from _,Vu hm.rx (hI.all _ (hBs pre)) (hm.all _ (hBs _)),hm.toMem,hj⟩
   · exact⟨hm.rx.ko.from _,hm.toMem,rfl,hj⟩
 · rintro D xs W hD hS ⟨hI,hj⟩ hd
   exact hdone D xs W hS hj (Lith.Mem.addD hI (hA xs) hd (az hsz hD))
 · rintro D c pre W hD hsp ⟨hI,rfl,hj⟩ hd
   exact wpIn_ret (hstop D pre W hsp hj (Lith.Mem.addD hI (hAr pre) hd (az hsz hD)))
end
end Go.Proofs.YtfekpcimgncioaaGreatDoor
namespace Go.Lith
open Go.RowKit Go.ChangeMaps Go.MapKept
theorem Vw{w u:ah}(e:eW w u):w.grownBy u none:=⟨e.os,e.tape,e.output,e.size,fun k hk _=>Below.block e k hk⟩
section
variable {K V:Type} [DecidableEq K] {P:bc} {T M E ty:aj} {ek:K→ac} {en:V→ac} {w:ah} {g c r:Nat} {es:Array bx} {D:List (K × V)}
variable {ds:List cg} {l:List ac} {x:a_} {ops:Array Oper} {Q:Exit→Act→ah→Prop} {rest:List Oper} {d:Nat} {pos:String} {after:Array Edge}
theorem ahW{seen:Array Nat}{dn rs:List (K × V)}(hx:ev l x=.pointer (some ⟨r,0,none⟩))(hI:oY w r g c seen c)(hM:gW w g es c)(hD:bB ek en D es c)(hT:lY ek en D es seen dn rs)
 (h:∀b kv vv seen' u,w.grownBy u (some r)→gW u g es c→oY u r g c seen' c→Nxt ek en D es dn rs b kv vv seen'→ao P ops Q rest (Fr (l.set d (Aj b kv vv)) ds) u) :
 ao P ops Q (bi (some d) (.next x false) ty pos after none::rest) (Fr l ds) w:=by
 obtain⟨b,kv,vv,seen',w1,hw1,hr,hN⟩:=Oh (P:=P) (ty:=ty) (s:=0) hI hM hD hT;have e1:w1.heap=w.heap∧w1.os=w.os∧w1.tape=w.tape∧w1.output=w.output:=by rcases hw1 with rfl | rfl <;> exact⟨rfl,rfl,rfl,rfl⟩
 have hgr:g≠r:=fun e=>by
  subst e;have h1:w.heap[g]? = some (.map es c):=hM;rw[show w.heap[g]? = _ from hI] at h1;cases h1
 refine kN (w':=setBlock w1 r (.mapIter (some g) c seen' c)) (v:=Aj b kv vv) (fun o ho hty=>by simp[ck,ho,bS,hx,hty,hr]) (h b kv vv seen' _ ⟨e1.2.1,e1.2.2.1,e1.2.2.2,by simp[setBlock,e1.1],fun k _ hk=>?_⟩ ?_ ?_ hN)
 · simp only[setBlock,e1.1]
   exact gu fun e=>hk (by rw[e])
 · show (setBlock w1 r _).heap[g]? = _
   simp only[setBlock,e1.1];rw[gu (Ne.symm hgr)];exact hM
 · exact iP (w:=w1) (o:=.mapIter (some g) c seen c) (by rw[e1.1];exact hI)
end
def ahX(is:List It):Prop:=∀i∈is,(∃g cs t,i=bI g cs t)∨∃E c A n cap xs,i=oI E c A n cap xs
theorem amg{β:Type}(B:Nat)(E:aj)(c:Nat)(A:Option Addr)(n cap:Nat)(xs:List ac):OwnFrom B fun (_:β) W=>(oI E c A n cap xs).P W:=fun s X Y row hs hg hr=>by
 refine⟨hs.1,?_⟩;rcases hs.2 with h | ⟨g,cap,cur,h1,h2,h3,h4⟩
 · exact .inl h
 · exact .inr ⟨g,cap,cur,h1,h2,by
    rw[grownBy_keeps_cells hg (fun r e=>(hr r e).2) h3 rfl];exact h3,h4⟩
theorem Vx{β:Type}{B:Nat}{w:ah}(F:β→List It)(hF:∀s,ahX (F s))(h:w.heap.size≤B):OwnFrom B fun s W=>Mem w W (F s):=fun s W W' row hs hg hr=>by
 refine⟨aa9 (β:=Unit) h () W W' row hs.ext hg hr,fun i hi=>?_,hs.ge,hs.nd⟩;rcases hF s i hi with ⟨g,cs,t,rfl⟩ | ⟨E,c,A,n,cap,xs,rfl⟩
 · exact Ie (β:=Unit) B (fun _=>g) (fun _=>cs) t () W W' row (hs.all _ hi) hg hr
 · exact amg (β:=Unit) B E c A n cap xs () W W' row (hs.all _ hi) hg hr
theorem Mem.addC{w0 w:ah}{is:List It}{D:Nat}{x:Option (List cg)}(m:Mem w0 w is)(hA:ahX is)(h:w.heap[D]? = some (.deferred x))(hge:w0.heap.size≤D):Mem w0 w (Go.Proofs.YtfekpcimgncioaaGreatDoor.dI D (.deferred x)::is):=by
 refine⟨m.ext,fun i hi=>?_,fun i hi b hb=>?_,bj.2 ⟨fun j hj b h1 h2=>?_,m.nd⟩⟩
 · rcases ak.1 hi with rfl | hi
   · exact h
   · exact m.all i hi
 · rcases ak.1 hi with rfl | hi
   · cases hb;exact hge
   · exact m.ge i hi b hb
 · cases h1
   rcases hA j hj with ⟨g,cs,t,rfl⟩ | ⟨E,c,A,n,cap,xs,rfl⟩
   · cases h2
     have hB:w.heap[D]? = some (.cells cs.toArray t (0,0)):=m.all _ hj;rw[h] at hB;cases hB
   · have hP:=m.all _ hj
     rcases hP.2 with ⟨e,_⟩ | ⟨g,cap',cur,e,_,hg,_⟩
     · cases e;cases h2
     · cases e
       cases h2;rw[h] at hg;cases hg
theorem RX.wr{W u u':ah}{A:Option Addr}{w0:ah}{S:List (Option Nat)}{E:aj}{c n cap:Nat}{xs:List ac}(h:RX W u)(hO:Ow w0 u S E c A n cap xs)(e:Wr u u' A):RX W u' :=
 ⟨e.os.trans h.os,e.tape.trans h.tape,e.output.trans h.output,h.ko.trans ⟨e.size,fun k o hk ho=>(e.block k (da.1 hk).1 fun hkA=>by
  rcases hO.cases with ⟨rfl,_⟩ | ⟨g,cur,rfl,_,hg,_⟩
  · cases hkA
  · cases hkA
    rw[hg] at hk;cases hk;cases ho).trans hk⟩⟩
section
variable {P:bc} {Q:Exit→Act→ah→Prop} {W w0 w:ah} {is:List It} {ops:Array Oper} {rest:List Oper} {d:Nat} {ty T:aj} {pos:String} {after:Array Edge} {x y:a_} {l:List ac} {ds:List cg}
theorem afB{E:aj}{c n cap b nm mcap:Nat}{A B:Option Addr}{z:ac}{xs news:List ac}{a0:Array aj}(m:jX W w0 w is)(k:Nat)(hk:is[k]? = some (oI E c A n cap xs))(ha:a0 = #[T,T])(hu:P.underlying T=some (.slice E))(hi:(P.info? E).map (fun i=>(i.size,i.bytes,i.zero))=some (c,b,some z))(hz:z.cells.size=c)(hc:0<c)
 (hs:ev l x=.slice A n cap) (hx:ev l y=.slice B nm mcap) (hl:news.length=nm*c) (hrow:∀j u,news[j]? = some u→∃a,B=some a∧w.cell? (a.add j)=some u) (h1:∀u∈news,u.oneCell'=true) (h63:n+nm≤9223372036854775807) (hbytes:(n+nm)*b≤140737488355328)
 (h:∀A' cap' u,jX W w0 u (is.set k (oI E c A' (n+nm) cap' (xs++news)))→ao P ops Q rest (Fr (l.set d (.slice A' (n+nm) cap')) ds) u) :
 ao P ops Q (bi (some d) (.call { callee:=.builtin .append,args:=#[x,y],argTypes:=a0 }) ty pos after none::rest) (Fr l ds) w :=
 Nt ha hu hi hz hc m.ext hs (m.o k hk) hx hl hrow h1 h63 hbytes fun A' cap' u hO hW hF=>h A' cap' u ⟨m.put k hk hW.os hW.tape hW.output hW.size (fun b hb hne=>hW.block b hb hne) (by
  refine⟨hO.own.1,?_⟩;rcases hO.cases with ⟨rfl,e1,rfl,_⟩ | ⟨g,cur,rfl,_,h2,h3⟩
  · exact .inl ⟨by rw[e1],e1⟩
  · exact .inr ⟨g,cap',cur,rfl,cd _,h2,h3⟩) (by
  rcases hF with rfl | hF
  · exact .inl fun _ h=>h
  · exact .inr fun b hb=>by
     have e:Fy A'=some b:=hb;rw[hF] at e;cases e;exact ap _),m.rx.wr (m.o k hk) hW⟩
theorem Vy{W u:ah}(h:RX W u):KeepsWalks W u:=⟨h.ko.size,fun k o hk ho=>h.ko.same k o hk (by cases o <;> first | rfl | cases ho)⟩
theorem afC{α σ:Type}{L:List ac}{go:a_}{gf Bs N q1 d1:Nat}{assign body:Code}{S:List α→Prop}{v1:α→ac}{c1:α→List ac}{T1:aj}
 (hf:ev L go=.func (.func gf) #[] #[.pointer (some ⟨Bs,0,none⟩)]) (he:Lith.Entr P gf) (hseq:SeqStopsK Fence.wide 3 P gf #[.pointer (some ⟨Bs,0,none⟩)] (fun x=>#[v1 x]) KeepsWalks S (fun _=>True) N w)
 (F:σ→List It) (R:List α→σ→Prop) (hF:∀s,ahX (F s)) (hdet:∀W s s' pre pre',R pre s→R pre' s'→Mem w0 W (F s)→Mem w0 W (F s')→R pre s') {s0:σ} (m:Mem w0 w (F s0)) (hR:R [] s0)
 (hassign:∀(r:Nat) (pre:List α) (x:α) (s:σ) (W:ah) (K:Act→ah→Prop),R pre s→jX W w0 W (F s)→(∀g u,jX W w0 u (bI g (c1 x) T1::F s)→K (Fr ((L.set q1 (v1 x)).set d1 (.pointer (some ⟨g,0,none⟩)))) u) →
  assign.wpIn (Fence.wide.inRound r) 2 P (Exit.then K (fun _ _ _=>False)) (Fr (L.set q1 (v1 x))) W)
 (hbody:∀(r:Nat) (pre:List α) (x:α) (g:Nat) (s:σ) (W:ah) (Q':Exit→Act→ah→Prop) [Av Q'],pre.length<N→R pre s→jX W w0 W (bI g (c1 x) T1::F s) →
  (∀a u s',jX W w0 u (F s')→R (pre++[x]) s'→Q' .normal a u)→body.wpIn (Fence.wide.inRound r) 2 P Q' (Fr ((L.set q1 (v1 x)).set d1 (.pointer (some ⟨g,0,none⟩)))) W)
 (hdone:∀(D:Nat) (xs:List α) (s:σ) (u:ah),S xs→R xs s→Mem w0 u (Go.Proofs.YtfekpcimgncioaaGreatDoor.dI D (.deferred (some []))::F s)→Q .normal (Fr L [{ target:=.collected D,args:=#[] }]) u) :
 (Code.rangeFunc go #[q1] assign body).wp P Q (Fr L) w:=by
 refine (wpIn_wide (n:=4)).1 ?_;have hsz:=m.ext.size;have own:OwnFrom w.heap.size fun (pre:List α) W=>∃s,R pre s∧Mem w0 W (F s):=fun pre X Y row ⟨s,hs,hm⟩ hg hr=>⟨s,hs,Vx (β:=Unit) (fun _=>F s) (fun _=>hF s) hsz () X Y row hm hg hr⟩
 have Qz:∀(g:Nat) (x:α) (s:σ),ahX (bI g (c1 x) T1::F s):=fun g x s i hi=>by
  rcases ak.1 hi with rfl | hi
  · exact .inl ⟨_,_,_,rfl⟩
  · exact hF s i hi
 refine wpIn_rangeFunc_ownH (F:=Fence.wide) rfl (by omega) (gf:=gf) (lb:=#[.pointer (some ⟨Bs,0,none⟩)]) (by rw[bS];exact hf) trivial (fun args u=>pX he) hseq KeepsWalks.trans
  (fun W l o o' _ ho _ hw=>KeepsWalks.putObj o' ho hw) (Below.refl _ _) (fun _=>rfl)
  (fun pre W=>∃s,R pre s∧Mem w0 W (F s)) (fun _ _ _=>False)
  own (fun _ _ _ _ _ h _ _=>h) ⟨s0,hR,m⟩
  (fun x a' W=>∃g s pre,a'=Fr ((L.set q1 (v1 x)).set d1 (.pointer (some ⟨g,0,none⟩)))∧R pre s∧Mem w0 W (bI g (c1 x) T1::F s))
  (fun x a' _ X Y row hs hg hr=>by
   obtain⟨g,s,pre,e,h1,h2⟩:=hs;exact⟨g,s,pre,e,h1,Vx (β:=Unit) (fun _=>bI g (c1 x) T1::F s) (fun _=>Qz g x s) hsz () X Y row h2 hg hr⟩)
  ?_ ?_ ?_ ?_
 · rintro r pre x W K ⟨s,hs,hm⟩ hK
   have e:((#[q1].zip #[v1 x]).foldl (fun t (y:Tmp × ac)=>t.setIfInBounds y.1 y.2) (Fr L).tmps)=(L.set q1 (v1 x)).toArray:=by simp
   have:=hassign r pre x s W K hs (jX.start hm) (fun g u hu=>hK _ _ (hu.rx.ko.from _) (Vy hu.rx) ⟨s,hs,hu.toMem.tl⟩ ⟨g,s,pre,rfl,hs,hu.toMem⟩);simp only at this ⊢;rw[e];exact this
 · rintro r pre x a' W _ _ ⟨s,hs,hm⟩ ⟨g,s',pre',rfl,hs',hm'⟩ hN
   have hd:=hdet W s s' pre pre' hs hs' hm hm'.tl;refine hbody r pre x g s' W _ hN hd (jX.start hm') (fun a u s2 hu h2=>?_);exact⟨hu.rx.ko.from _,Vy hu.rx,s2,h2,hu.toMem⟩
 · rintro D xs W hD hS ⟨s,hs,hm⟩ hd
   exact hdone D xs s W hS hs (Lith.Mem.addC hm (hF s) hd (az hsz hD))
 · rintro D c pre W hD hsp h hd
   exact h.elim
end
end Go.Lith
namespace Go.Proofs.YtfekpcimgncioaaGreatDoor
open Go.Proofs.Tryz
open Go.RowKit Go.Lith
set_option maxRecDepth 100000
attribute [local irreducible] ao bz eZ bE bX Code.wp
attribute [local congr] nO fF fG fH fI fJ jH fK fL fM fN fO fP fQ fR fS fT fU dX dY fV fW fY fZ gA jJ cO cP cA cN fX jI dZ eA eB gB gC jK
theorem afD{dp:Nat}(l Bs g c:Nat){es:Array bx}{D:List (P3 × P3)}(J Jx:List P3→ah→Prop)(W:ah)(hJ:AbidesFrom W.heap.size J)
 (hY:∀pre x W1,J pre W1→pre.length<D.length→YieldAt Fence.wide (dp-1) prog l #[pt x] W1 fun e W'=>(e=.returned (.bool true)∧J (pre++[x]) W'∧KeepsWalks W1 W')∨(e=.returned (.bool false)∧Jx (pre++[x]) W'))
 (hM:gW W g es c) (hD:bB pt pt D es c) (hB:fA W Bs [.map (some g)] 99) (h0:J [] W) :
 CallsIn Fence.wide dp prog 129 #[.func (.yield l) #[] #[],.pointer (some ⟨Bs,0,none⟩)] W fun e W'=>(∃v,e=.returned v)∧((∃xs:List P3,xs.Perm (D.map (·.1))∧J xs W')∨(∃pre,True∧Jx pre W')):=by
 refine callsIn_of_wp func129 rfl trivial ?_ rfl;simp only[ntmps129,fh,au,bt,aa,i_,gd,gg,g_,gr,bv,b_];refine wpIn_wide.2 ?_;refine aV fun K1 k1=>am (aO rfl (hB.lies1 akS rfl) ?_);simp only[zz];refine aaL Jq rfl hM fun w1 r e1 hr hI=>aL (k1 _ _ ?_);have hJ1:J [] w1:=hJ [] W w1 none h0 (Vw e1) (fun _ h=>by cases h);have hM1:=hM.ext e1;clear h0 k1 K1;refine ig ?_;simp only[zz];refine aau [] [3,6,7,8,9,10,11,12,13] (fun n vs wl=>∃(dn rs:List (P3 × P3)) (sn:Array Nat),vs=[]∧gW wl g es c∧oY wl r g c sn c∧lY pt pt D es sn dn rs∧J (dn.map (·.1)) wl∧n=rs.length) ?_ ?_
 · apply Exists.intro
   simp only[zQ,zR,zD,zE];exact⟨[],D,#[],trivial,hM1,hI,lY.start hD,hJ1,rfl⟩
 · intro n vs wr hL u
   obtain⟨dn,rs,sn,rfl,hMw,hIw,hT,hJw,hn⟩:=hL;have hlen:=hT.len;simp only[zu,zF,zG];refine aV fun K5 k5=>am (ahW rfl hIw hMw hD hT fun bb kk vv sn2 u1 hg1 hM2 hI2 hN=>?_);refine aB (nN rfl) (aL (k5 _ _ ?_));have hJ2:J (dn.map (·.1)) u1:=hJ _ _ _ _ hJw hg1 (fun r' e=>by cases e;exact⟨hr,_,hIw,rfl⟩);clear k5 K5;refine aV fun K6 k6=>?_;simp only[zz];refine dQ rfl (fun hc1=>?_) (fun hc1=>?_)
   · obtain⟨kp,kb,rs2,hp,hT2⟩:=Cx hc1 hN
     refine wp_skip (k6 _ _ ?_);clear k6 K6;refine ig (aV fun K7 k7=>am (eQ (qJ rfl hI2 hM2 hD hT2) ?_));simp only[zz];refine aB (eE rfl rfl) ?_;have m:=Mem.refl u1;simp only[zz];refine kO m gN rfl ?_;clear m;intro g2 u2 m;simp only[zz];refine cD m 0 rfl rfl rfl aA (jE rfl) rfl ?_;clear m;intro u3 m;simp only[zy,zx,over,zF,zG,aa] at m;refine aL (k7 _ _ ?_);clear k7 K7;have hJ3:J (dn.map (·.1)) u3:=hJ _ _ _ _ hJ2 (Vw m.ext) (fun _ h=>by cases h);have hM3:=hM2.ext m.ext;have hI3:=hI2.ext m.ext;have hB3:=m.b 0 rfl;obtain⟨fn,tmps,asn,body,hy,hR⟩:=hY (dn.map (·.1)) kp u3 hJ3 (by have:=hp.length_eq;rw[ct];simp only[au] at this;omega);refine aV fun K8 k8=>(wpIn_wide (n:=dp)).1 (wpIn_region_lit (sX (aI _) ?_));simp only[zz];refine sX (aW rfl (hB3.full aG aA)) ?_;simp only[zz];refine Ic (args:=[pt kp]) rfl rfl hy hR ?_;rintro e w4 (⟨rfl,hJ4,hk4⟩ | ⟨rfl,hJ4⟩)
     · refine⟨_,rfl,sX (qY rfl _) (k8 _ _ ?_)⟩
       simp only[zz];refine abp rfl (wp_skip ?_);simp only[cj,Exit.then];refine⟨rs2.length,_,?_,rfl,?_,?_⟩
       · rw[hn,hp.length_eq];exact dq _
       · simp only[zz,zv]
       · simp only[zQ,zR,zD,zE]
         exact⟨dn++[(kp,kb)],rs2,_,trivial,hk4.same g _ hM3 rfl,hk4.same r _ hI3 rfl,hT2,by rw[cl];exact hJ4,rfl⟩
     · refine⟨_,rfl,sX (qY rfl _) (k8 _ _ ?_)⟩
       simp only[zz];refine vV rfl (wp_ret ?_);simp only[cj,Exit.then];exact amZ rfl ⟨⟨_,rfl⟩,.inr ⟨_,trivial,hJ4⟩⟩
   · obtain rfl:=Cw hc1 hN
     refine wp_exit ?_;simp only[cj,Exit.then,if_true];exact zY rfl ⟨⟨_,rfl⟩,.inl ⟨dn.map (·.1),hT.done.map _,hJ2⟩⟩
theorem Gz{w:ah}{Bs g c:Nat}{es:Array bx}{D:List (P3 × P3)}(hM:gW w g es c)(hD:bB pt pt D es c)(hB:fA w Bs [.map (some g)] 99) :
 SeqStopsK Fence.wide 3 prog 129 #[.pointer (some ⟨Bs,0,none⟩)] (fun x:P3=>#[pt x]) KeepsWalks (fun xs=>xs.Perm (D.map (·.1))) (fun _=>True) D.length w:=fun l J Jx W hW hJ _ hY h0 =>
 afD l Bs g c J Jx W hJ hY ((hW.block g hM.lt).trans hM) hD ((hW.block Bs hB.lt).trans hB) h0
structure SlS where
 A:Option Addr
 n:Nat
 cap:Nat
 xs:List ac
theorem ahY{w0 W:ah}{g:Nat}{s s':SlS}{pre pre':List P3}(h:s.n=pre.length∧s.xs=pre.flatMap oN)(h':s'.n=pre'.length∧s'.xs=pre'.flatMap oN)(m:Mem w0 W [bI g [.slice s.A s.n s.cap] 65,oI 30 3 s.A s.n s.cap s.xs])(m':Mem w0 W [bI g [.slice s'.A s'.n s'.cap] 65,oI 30 3 s'.A s'.n s'.cap s'.xs]):s'.n=pre.length∧s'.xs=pre.flatMap oN:=by
 obtain⟨A,n,cap,xs⟩:=s;obtain⟨A',n',cap',xs'⟩:=s';dsimp only at h h' m m' ⊢;have e:W.heap[g]? = _:=m.b 0 rfl;rw[show W.heap[g]? = _ from m'.b 0 rfl] at e;simp only[Option.some.injEq,Obj.cells.injEq,List.toArray_inj,ke,Value.slice.injEq,and_true] at e;obtain⟨rfl,rfl,rfl⟩:=e;refine⟨h.1,?_⟩;rcases (m.o 1 rfl).cases with ⟨rfl,_,_,hx⟩ | ⟨g1,cur,rfl,_,hg,_,_,_,hx⟩
 · rcases (m'.o 1 rfl).cases with ⟨_,_,_,hx'⟩ | ⟨g2,cur',e,_⟩
   · rw[hx',←h.2,hx]
   · cases e
 · rcases (m'.o 1 rfl).cases with ⟨e,_⟩ | ⟨g2,cur',e,_,hg',_,_,_,hx'⟩
   · cases e
   · cases e
     rw[hg] at hg';cases hg';rw[←hx',hx,h.2]
theorem afE{q:Nat}(w:ah):dF prog 69 [.map (some q)] w (fun v w'=>∃g,v=.func (.func 129) #[] #[.pointer (some ⟨g,0,none⟩)]∧w.heap.size≤g∧fA w' g [.map (some q)] 99):=by
 refine⟨anG,?_⟩;have m:=Mem.refl w
 go_enter func69,ntmps69
 refine eS 7 [0] m ?_;simp only[↓aD];intro g1;intro u m;refine aB eX ?_;simp only[zz,fb,bn,c_];refine aP 3 [] m ?_;simp only[↓aD];intro u m;exact aQ rfl rfl (⟨_,rfl,m.ext,g1,rfl,m.ge _ bp g1 rfl,(m.b 0 rfl)⟩)
theorem Bp{α:Type}{n:Nat}{P:bc}{g:Nat}{lb:Array ac}{encs:α→Array ac}{Kp:ah→ah→Prop}{S Sp:List α→Prop}{N:Nat}{w u:ah}(h:SeqStopsK Fence.wide n P g lb encs Kp S Sp N w)(e:eW w u):SeqStopsK Fence.wide n P g lb encs Kp S Sp N u:=fun l J Jx W hW=>h l J Jx W (Below.trans e (Below.mono hW (Below.size e)))
theorem Vz{gf Bs N:Nat}{S:List P3→Prop}(w:ah)(he:Entr prog gf)(hseq:SeqStopsK Fence.wide 3 prog gf #[.pointer (some ⟨Bs,0,none⟩)] (fun x:P3=>#[pt x]) KeepsWalks S (fun _=>True) N w)(hN:N≤10000000):dF prog 193 [.slice none 0 0,.func (.func gf) #[] #[.pointer (some ⟨Bs,0,none⟩)]] w (fun v w'=>∃xs:List P3,SL 30 3 (xs.flatMap oN) xs.length w v w'∧S xs):=by
 refine⟨akc,?_⟩;have m:=Mem.refl w;refine (callsIn_wide (n:=4)).1 (callsIn_of_wp_marks func193 rfl trivial ?_ rfl);simp only[ntmps193,fh,au,bt,aa,i_,gd,gg,g_,gr,bv,b_];refine wpIn_wide.2 ?_;refine aV fun K1 k1=>am (am2 m rfl rfl ?_);clear m;intro g1 u m;refine aB aM (aL (k1 _ _ ?_));try clear k1 K1
 refine aV fun K2 k2=>aV fun K3 k3=>?_;simp only[zz];replace m:=m.nilO 30 3;refine am (aB aI (aL (k3 _ _ ?_)));try clear k3 K3
 refine ig ?_;simp only[zz];replace m:=m.s01;refine afC (L:=_) (v1:=fun x=>pt x) (c1:=oN) (T1:=30) (d1:=5) rfl he (Bp hseq m.ext) (fun s:SlS=>[bI g1 [.slice s.A s.n s.cap] 65,oI 30 3 s.A s.n s.cap s.xs]) (fun pre s=>s.n=pre.length∧s.xs=pre.flatMap oN) (fun s i hi=>?_) (fun W s s2 pre pre2 h h2 m1 m2=>ahY h h2 m1 m2) (s0:=⟨none,0,0,[]⟩) m ⟨rfl,rfl⟩ ?_ ?_ ?_
 · simp only[ak,bw,or_false] at hi;rcases hi with rfl | rfl;exact .inl ⟨_,_,_,rfl⟩;exact .inr ⟨_,_,_,_,_,_,rfl⟩
 · skip
   intro r pre x s W K hs m hK;try dsimp only at m hK ⊢
   simp only[zF,zG];refine bL (Dk m gN rfl ?_);clear m;intro g2 u m;simp only[zz];refine xO m 0 rfl rfl rfl aA (jE rfl) rfl ?_;clear m;intro u m;simp only[zy,zx,over,zF,zG,aa] at m;exact aL (hK _ _ m)
 · skip
   rintro r pre x g5 ⟨A1,n1,cap1,xs1⟩ W Q' _ hNp ⟨hn1,hx1⟩ m hn;dsimp only at m hn hn1 hx1 ⊢;subst hx1
   · skip
     simp only[zF,zG];refine mV (bL (aO rfl ((m.b 1 rfl).lies1 adQ rfl) ?_));simp only[zz];refine aO rfl ((m.b 0 rfl).full aG aA) ?_;simp only[zz];refine mO rfl ?_;intro u g6 e hg hB;replace m:jX _ _ _ _:=⟨m.toMem.newB e hg hB,m.rx.ext e⟩;clear e hg hB;simp only[zz];refine afB m 3 rfl rfl dS oD rfl (by decide) rfl rfl rfl (m.b 0 rfl).rowsO (jM rfl) (by omega) (by omega) ?_;clear m;intro A1 cap1 u m;simp only[zF,zG] at m;rw[show pre.flatMap oN++_=(pre++[x]).flatMap oN by rw[av];rfl] at m;simp only[zz];refine gV m 2 rfl rfl rfl adP (jE rfl) ⟨rfl,rfl⟩ ?_;clear m;intro u m;simp only[zz,zy,zx,over,aa] at m;exact aL (hn _ _ ⟨A1,n1+1,cap1,(pre++[x]).flatMap oN⟩ ⟨m.toMem.sel [false,false,true,true],m.rx⟩ ⟨by simp[hn1],rfl⟩)
 rintro D xs ⟨A1,n1,cap1,xs1⟩ u hS ⟨hn1,hx1⟩ m;dsimp only at m hn1 hx1;subst hx1;refine k2 _ _ ?_;try clear k2 K2
 refine aV fun K4 k4=>am (aO rfl ((m.b 1 rfl).lies1 adQ rfl) ?_);simp only[zz];refine aB aM (aL (k4 _ _ ?_));try clear k4 K4
 refine wp_ret ?_;simp only[zz];try simp only[cj,Exit.then,if_true]
 refine Xj (Wy.mk (m.get 0 rfl)) ?_;replace m:=m.putD (o':=.deferred none) 0 rfl;simp only[zF,zG] at m;refine aQ rfl rfl ?_;try simp only[zD,zE]
 exact⟨_,rfl,m.ext,xs,⟨A1,cap1,n1,hn1,rfl,(m.o 2 rfl)⟩,hS⟩
theorem Zx{gf Bs N:Nat}{S:List P3→Prop}(w:ah)(he:Entr prog gf)(hseq:SeqStopsK Fence.wide 3 prog gf #[.pointer (some ⟨Bs,0,none⟩)] (fun x:P3=>#[pt x]) KeepsWalks S (fun _=>True) N w)(hN:N≤10000000):dF prog 127 [.func (.func gf) #[] #[.pointer (some ⟨Bs,0,none⟩)]] w (fun v w'=>∃xs:List P3,SL 30 3 (xs.flatMap oN) xs.length w v w'∧S xs):=by
 refine⟨ajH,?_⟩;have m:=Mem.refl w
 go_enter func127,ntmps127
 refine eS 7 [0] m ?_;simp only[↓aD];intro u m;refine bJ rfl rfl (Vz _ he (Bp hseq m.ext) hN) ?_;rintro v u e ⟨xs,⟨A5,cap5,n5,hn5,rfl,hN⟩,hS⟩;replace m:=m.newO e hN;clear e hN;refine aP 3 [] m ?_;simp only[↓aD];intro u m;exact aQ rfl rfl (⟨_,rfl,m.ext,xs,⟨_,_,_,hn5,rfl,(m.o 0 rfl)⟩,hS⟩)
theorem Wa{gf Bs N:Nat}{S:List P3→Prop}(w:ah)(he:Entr prog gf)(hseq:SeqStopsK Fence.wide 3 prog gf #[.pointer (some ⟨Bs,0,none⟩)] (fun x:P3=>#[pt x]) KeepsWalks S (fun _=>True) N w)(hS:∀xs,S xs→xs.length≤N)(hN:N≤10000000):dF prog 68 [.func (.func gf) #[] #[.pointer (some ⟨Bs,0,none⟩)],.func (.func 70) #[] #[]] w (fun v w'=>∃xs ys:List P3,SL 30 3 (ys.flatMap dN) xs.length w v w'∧S xs∧ys.Perm xs∧ys.Pairwise fun a b=>¬b.Lt a):=by
 refine⟨anF,?_⟩;have m:=Mem.refl w
 go_enter func68,ntmps68
 refine eS 7 [0] m ?_;simp only[↓aD];intro u m;refine bJ rfl rfl (Zx _ he (Bp hseq m.ext) hN) ?_;rintro v u e ⟨xs,⟨A5,cap5,n5,hn5,rfl,hN⟩,hSx⟩;replace m:=m.newO e hN;clear e hN;refine aP 6 [0] m ?_;simp only[↓aD];intro u m;refine kP m 0 Xt rfl rfl (fun m=>aa7 m 0 rfl (by have:=hS xs hSx;omega)) ?_;clear m;rintro v i u m ⟨rfl,ys,rfl,hys,hso⟩;simp only[zF,zG] at m;refine aP 7 [] m ?_;simp only[↓aD];intro u m;exact aQ rfl rfl (⟨_,rfl,m.ext,xs,ys,⟨_,_,_,hn5,rfl,(m.o 0 rfl)⟩,hSx,hys,hso⟩)
end Go.Proofs.YtfekpcimgncioaaGreatDoor
namespace Go.Lith
open Go.RowKit
def Bq(u:P3):Nat:=if u.x≠0 then 0 else if u.y≠0 then 1 else 2
def Ha(a b c:Int):Prop:=(0≤a∧0≤b∧0≤c)∨(a≤0∧b≤0∧c≤0)
/-! ### Corners -/
section
variable {P:bc} {ds:List cg} {l:List ac} {x y:a_} {T T' U t ty:aj} {v z:ac}
end
section
variable {P:bc} {ds:List cg} {l:List ac} {ty:aj} {v u:ac}
variable {ops:Array Oper} {Q:Exit→Act→ah→Prop} {rest:List Oper} {d:Nat} {pos:String} {after:Array Edge} {w w0:ah} {is:List It}
end
section
variable {P:bc} {w0:ah} {is:List It} {l:List ac} {ty:aj} {u:ac}
variable {ops:Array Oper} {Q:Act→Prop} {rest:List Oper} {d:Nat} {pos:String} {after:Array Edge} {v:ac} {ds:List cg}
end
section
variable {P:bc} {l:List ac} {x y z:a_} {ty:aj} {k:IntKind} {m n q r:Int}
theorem amh{a0:Array aj}(hx:ev l x=.int k m)(hy:ev l y=.int k n)(hz:ev l z=.int k q)(hr:(if q<(if n<m then n else m) then q else if n<m then n else m)=r):gI P l (.call { callee:=.builtin .min,args:=#[x,y,z],argTypes:=a0 }) ty (.int k r):=fun w o ho _=>by
 subst hr;simp[ck,ho,resolve,invoke,builtin,Builtin.min_,Builtin.min2,bS,hx,hy,hz]
theorem ami{a0:Array aj}(hx:ev l x=.int k m)(hy:ev l y=.int k n)(hz:ev l z=.int k q)(hr:(if (if m<n then n else m)<q then q else if m<n then n else m)=r):gI P l (.call { callee:=.builtin .max,args:=#[x,y,z],argTypes:=a0 }) ty (.int k r):=fun w o ho _=>by
 subst hr;simp[ck,ho,resolve,invoke,builtin,Builtin.max_,Builtin.max2,bS,hx,hy,hz]
end
end Go.Lith
namespace Go.Proofs.YtfekpcimgncioaaGreatDoor
open Go.Proofs.Tryz
open Go.RowKit Go.Lith
set_option maxRecDepth 100000
attribute [local irreducible] ao bz eZ bE bX Code.wp
attribute [local congr] nO fF fG fH fI fJ jH fK fL fM fN fO fP fQ fR fS fT fU dX dY fV fW fY fZ gA jJ cO cP cA cN fX jI dZ eA eB gB gC jK
def Sv(u:P3):Int:=if u.x≠0 then 0 else if u.y≠0 then 1 else if u.z≠0 then 2 else -1
theorem Dl{n:Int}:¬bG n=0↔n≠0:=not_congr fD
theorem yO{n:Int}(h:¬¬bG n=0):¬n≠0:=fun k=>h (Dl.2 k)
theorem afF{u:P3}(h:¬Z3 u):Sv u=(Bq u:Int):=by
 unfold Sv Bq;unfold Z3 at h
 repeat' split
 all_goals first | rfl | (exfalso;omega)
theorem afG{u:P3}(h:Z3 u):Sv u = -1:=by
 obtain⟨h1,h2,h3⟩:=h;simp[Sv,h1,h2,h3]
class N4(p:P3):Prop where
 x : -549755813888<p.x∧p.x<549755813888
 y : -549755813888<p.y∧p.y<549755813888
 z : -549755813888<p.z∧p.z<549755813888
theorem N3.cross{u v:P3}(hu:N3 u)(hv:N3 v):N4 (u.cross v):=by
 have h1:=vM hu.y hv.z;have h2:=vM hu.z hv.y;have h3:=vM hu.z hv.x;have h4:=vM hu.x hv.z;have h5:=vM hu.x hv.y;have h6:=vM hu.y hv.x;exact⟨by simp only[P3.cross];omega,by simp only[P3.cross];omega,by simp only[P3.cross];omega⟩
theorem mY{a b:Int}(ha : -549755813888<a∧a<549755813888)(hb:b.natAbs<524288) : -288230376151711744<a*b∧a*b<288230376151711744:=by
 have h:(a*b).natAbs≤549755813887*524287:=by rw[Int.natAbs_mul];exact Nat.mul_le_mul (by omega) (by omega)
 omega
theorem abb{u:P3}:eM prog 304 [sg u] (.int .i64 (Sv u)):=by
 intro w;refine⟨akI,?_⟩;have m:=Mem.refl w
 go_enter func304,ntmps304
 refine eS 26 [0,4,1,0] m ?_;simp only[↓aD,xE];intro g1;refine⟨by omega,?_⟩;intro u m;refine aB (iJ rfl rfl) (aP 8 [0,0] m ?_);simp only[↓aD];intro u m;refine bC rfl (fun hc2=>?_) (fun hc2=>?_)
 ·
  refine aS 6 [] m ?_;simp only[↓aD];intro u m;refine aQ rfl rfl ?_;try simp only[zD,zE]
  exact⟨_,rfl,m.ext,by rw[Sv,if_pos (Dl.1 hc2)]⟩
 ·
  have hq0:=hc2;refine aS 19 [1,0] m ?_;simp only[↓aD,ai];refine⟨by omega,?_⟩;intro u m;refine aB (iK rfl rfl) (aP 8 [0,0] m ?_);simp only[↓aD];intro u m;refine bC rfl (fun hc2=>?_) (fun hc2=>?_)
  ·
   refine aS 6 [] m ?_;simp only[↓aD];intro u m;refine aQ rfl rfl ?_;try simp only[zD,zE]
   exact⟨_,rfl,m.ext,by rw[Sv,if_neg (yO hq0),if_pos (Dl.1 hc2)]⟩
  ·
   have hq1:=hc2;refine aS 19 [1,0] m ?_;simp only[↓aD,ai];refine⟨by omega,?_⟩;intro u m;refine aB (iL rfl rfl) (aP 8 [0,0] m ?_);simp only[↓aD];intro u m;refine bC rfl (fun hc2=>?_) (fun hc2=>?_)
   ·
    refine aS 6 [] m ?_;simp only[↓aD];intro u m;refine aQ rfl rfl ?_;try simp only[zD,zE]
    exact⟨_,rfl,m.ext,by rw[Sv,if_neg (yO hq0),if_neg (yO hq1),if_pos (Dl.1 hc2)]⟩
   ·
    have hq2:=hc2;refine aS 19 [2] m ?_;simp only[↓aD,ai];refine⟨by omega,?_⟩;intro u m;refine aQ rfl rfl ?_;try simp only[zD,zE]
    exact⟨_,rfl,m.ext,by rw[Sv,if_neg (yO hq0),if_neg (yO hq1),if_neg (yO hq2)]⟩
theorem Sw{u v:P3}(hu:N4 u)(hv:N3 v):eM prog 308 [nv u,nv v] (.int .i64 (u.dot v)):=by
 intro w;refine⟨akM,?_⟩;have m:=Mem.refl w
 go_enter func308,ntmps308
 refine eS 12 [1,0,0] m ?_;simp only[↓aD,pL,dR,ab,ad,aa];intro g1 g2;refine⟨by omega,?_⟩;intro u m;refine aB (pN rfl rfl (bF (by have h1:=mY hu.x hv.x;have h2:=mY hu.y hv.y;have h3:=mY hu.z hv.z;omega) (by have h1:=mY hu.x hv.x;have h2:=mY hu.y hv.y;have h3:=mY hu.z hv.z;omega))) ?_;refine aP 4 [1,0,0] m ?_;simp only[↓aD,pL,dR,ab,ad,aa];refine⟨by omega,?_⟩;intro u m;refine aB (pN rfl rfl (bF (by have h1:=mY hu.x hv.x;have h2:=mY hu.y hv.y;have h3:=mY hu.z hv.z;omega) (by have h1:=mY hu.x hv.x;have h2:=mY hu.y hv.y;have h3:=mY hu.z hv.z;omega))) (aB (eL rfl rfl (bF (by have h1:=mY hu.x hv.x;have h2:=mY hu.y hv.y;have h3:=mY hu.z hv.z;omega) (by have h1:=mY hu.x hv.x;have h2:=mY hu.y hv.y;have h3:=mY hu.z hv.z;omega))) ?_);refine aP 4 [1,0,0] m ?_;simp only[↓aD,pL,dR,ab,ad,aa];refine⟨by omega,?_⟩;intro u m;refine aB (pN rfl rfl (bF (by have h1:=mY hu.x hv.x;have h2:=mY hu.y hv.y;have h3:=mY hu.z hv.z;omega) (by have h1:=mY hu.x hv.x;have h2:=mY hu.y hv.y;have h3:=mY hu.z hv.z;omega))) (aB (eL rfl rfl (bF (by have h1:=mY hu.x hv.x;have h2:=mY hu.y hv.y;have h3:=mY hu.z hv.z;omega) (by have h1:=mY hu.x hv.x;have h2:=mY hu.y hv.y;have h3:=mY hu.z hv.z;omega))) ?_);refine aP 3 [] m ?_;simp only[↓aD];intro u m;exact aQ rfl rfl (⟨_,rfl,m.ext,rfl⟩)
theorem rX{a b c d:P3}[I3 a][I3 b][I3 c][I3 d]:eM prog 243 [pt a,pt b,pt c,pt d] (.int .i64 (bG (((b.sub a).cross (c.sub a)).dot (d.sub a)))):=by
 intro w;refine⟨aks,?_⟩;have m:=Mem.refl w
 go_enter func243,ntmps243
 refine eS 15 [3,2,1,0,0] m ?_;simp only[↓aD,aR];intro g1 g2 g3 g4;intro u m;refine Of rfl rfl rfl rfl ?_;intro u g5 e hg hB;replace m:=m.newB e hg hB;clear e hg hB;simp only[zz];refine cW m rfl rfl (Pg _ (m.b 0 rfl)) ?_;clear m;rintro v u m ⟨bo,rfl,hsm⟩;refine aP 1 [0] m ?_;simp only[↓aD];intro u m;refine gR rfl (fun hc1=>?_) (fun hc1=>?_)
 ·
  obtain⟨_,_,_,_⟩:=hsm hc1;refine aS 1 [0] m ?_;simp only[↓aD];intro u m;refine mq m aC (by kernel_rfl) (ql rfl (fun u m=>((m.b 4 rfl).full aG aA)) ?_);simp only[zz];refine ql rfl (fun u m=>((m.b 3 rfl).full aG aA)) ?_;simp only[zz];refine iF rfl rfl nT ?_;simp only[zz];refine ql rfl (fun u m=>((m.b 4 rfl).full aG aA)) ?_;simp only[zz];refine ql rfl (fun u m=>((m.b 2 rfl).full aG aA)) ?_;simp only[zz];refine iF rfl rfl nT ?_;simp only[zz];refine iF rfl rfl (Au inferInstance inferInstance) ?_;simp only[zz];refine ql rfl (fun u m=>((m.b 4 rfl).full aG aA)) ?_;simp only[zz];refine ql rfl (fun u m=>((m.b 1 rfl).full aG aA)) ?_;simp only[zz];refine iF rfl rfl nT ?_;simp only[zz];refine iF rfl rfl (Sw (N3.cross inferInstance inferInstance) inferInstance) ?_;simp only[zz];refine iF rfl rfl Sq (aH aM (aY ?_));clear m;intro u m;refine cR 1 [] m ?_;simp only[↓aD];intro u m;exact aQ rfl rfl (⟨_,rfl,m.ext,rfl⟩)
 ·
  refine aS 2 [0] m ?_;simp only[↓aD];intro u m;refine mq m aC (by kernel_rfl) (ql rfl (fun u m=>((m.b 4 rfl).full aG aA)) ?_);simp only[zz];refine ql rfl (fun u m=>((m.b 3 rfl).full aG aA)) ?_;simp only[zz];refine iF rfl rfl kZ ?_;simp only[zz];refine ql rfl (fun u m=>((m.b 4 rfl).full aG aA)) ?_;simp only[zz];refine ql rfl (fun u m=>((m.b 2 rfl).full aG aA)) ?_;simp only[zz];refine iF rfl rfl kZ ?_;simp only[zz];refine iF rfl rfl (uY Bv.of Bv.of) ?_;simp only[zz];refine ql rfl (fun u m=>((m.b 4 rfl).full aG aA)) ?_;simp only[zz];refine ql rfl (fun u m=>((m.b 1 rfl).full aG aA)) ?_;simp only[zz];refine iF rfl rfl kZ ?_;simp only[zz];refine iF rfl rfl (Gx Bv.of Bv.of) ?_;simp only[zz];refine iF rfl rfl (Fm Bw.up) (aH aM (aY ?_));clear m;intro u m;refine cR 1 [] m ?_;simp only[↓aD];intro u m;exact aQ rfl rfl (⟨_,rfl,m.ext,rfl⟩)
theorem tV{p q:P3}:eM prog 305 [pt p,pt q] (.tuple #[pt (sF p q),pt (vS p q)]):=by
 intro w;refine⟨akJ,?_⟩;have m:=Mem.refl w
 go_enter func305,ntmps305
 refine eS 12 [2,3,0] m ?_;simp only[↓aD,eU,aR];intro g1 g2 g3 g4;intro u m;refine vJ m rfl rfl qN.pure 1 [0] ?_;simp only[↓aD];intro u m;refine bC rfl (fun hc1=>?_) (fun hc1=>?_)
 ·
  refine aS 1 [0] m ?_;simp only[↓aD];intro u m;refine zvt [false,false,true,true] [[0],[1],[1],[0]] (.take 0 (.take 1 (.one 2 (.one 3 .nil)))) m aC (by kernel_rfl) (bQ (fun _ _ _ _ _ h=>h)) ?_;simp only[↓aD,↓zzu,aR,aa];intro u m;refine cR 1 [] m ?_;simp only[↓aD];intro u m;refine vW rfl ⟨_,rfl,((m.b 1 rfl).full aG aA)⟩ ⟨_,rfl,((m.b 0 rfl).full aG aA)⟩ ?_;try simp only[zD,zE]
  exact⟨_,rfl,m.ext,by rw[sF,vS,if_pos hc1,if_pos hc1];rfl⟩
 ·
  refine aS 2 [0] m ?_;simp only[↓aD];intro u m;refine zvt [false,false,true,true] [[1],[0],[1],[0]] (.take 0 (.take 1 (.one 2 (.one 3 .nil)))) m aC (by kernel_rfl) (bQ (fun _ _ _ _ _ h=>h)) ?_;simp only[↓aD,↓zzu,aR,aa];intro u m;refine cR 1 [] m ?_;simp only[↓aD];intro u m;refine vW rfl ⟨_,rfl,((m.b 1 rfl).full aG aA)⟩ ⟨_,rfl,((m.b 0 rfl).full aG aA)⟩ ?_;try simp only[zD,zE]
  exact⟨_,rfl,m.ext,by rw[sF,vS,if_neg hc1,if_neg hc1];rfl⟩
instance (a b c:Int):Decidable (Ha a b c):=inferInstanceAs (Decidable (_∨_))
instance {p q:P3}[I3 p][I3 q]:I3 (sF p q):=by unfold sF;split <;> assumption
instance {p q:P3}[I3 p][I3 q]:I3 (vS p q):=by unfold vS;split <;> assumption
theorem ahZ{a b c:Int}:(decide (0≤(if c<(if b<a then b else a) then c else if b<a then b else a))||decide ((if (if a<b then b else a)<c then c else if a<b then b else a)≤0))=decide (Ha a b c):=by
 unfold Ha;rw[←Bool.decide_or]
 congr 1
 apply propext;constructor
 ·
  intro h
  repeat' split at h
  all_goals omega
 ·
  intro h
  repeat' split
  all_goals omega
theorem ah0{a b c:Int}:eM prog 307 [.agg #[.int .i64 a,.int .i64 b,.int .i64 c]] (.bool (decide (Ha a b c))):=by
 intro w;refine⟨akL,?_⟩;have m:=Mem.refl w
 go_enter func307,ntmps307
 refine eS 13 [0,0,0,0] m ?_;simp only[↓aD,gY,dR,ab,ad,aa];intro g1;refine⟨by omega,?_⟩;intro u m;refine aB (amh rfl rfl rfl rfl) (aP 2 [0,0] m ?_);simp only[↓aD];intro u m;refine dG rfl (fun hb=>aJ oW aX rfl rfl (by decide) (by decide) rfl) ?_;simp only[zz];refine eV rfl (fun hb=>aW (bD hb rfl) ((m.b 0 rfl).lies1 bN rfl)) (dG rfl (fun hb=>aJ oW aX rfl rfl (by decide) (by decide) rfl) ?_);simp only[zz];refine eV rfl (fun hb=>aW (bD hb rfl) ((m.b 0 rfl).lies1 bN rfl)) (dG rfl (fun hb=>aJ oW aX rfl rfl (by decide) (by decide) rfl) ?_);simp only[zz];refine eV rfl (fun hb=>aW (bD hb rfl) ((m.b 0 rfl).lies1 bN rfl)) (dG rfl (fun hb=>ami (bD hb rfl) (bD hb rfl) (bD hb rfl) rfl) (dG rfl (fun hb=>aat (bD hb rfl) rfl) (aB (dW rfl rfl rfl) ?_)));refine aP 3 [] m ?_;simp only[↓aD];intro u m;refine aQ rfl rfl ?_;try simp only[zD,zE]
 exact⟨_,rfl,m.ext,by rw[←ahZ]⟩
theorem abc{t:T3}(w:ah):dF prog 303 [tr t] w (fun v w'=>∃g,v=.func (.func 337) #[] #[.pointer (some ⟨g,0,none⟩)]∧w.heap.size≤g∧fA w' g (aK t) 39):=by
 refine⟨akH,?_⟩;have m:=Mem.refl w
 go_enter func303,ntmps303
 refine eS 7 [0] m ?_;simp only[↓aD];intro g1;intro u m;refine aB eX ?_;simp only[zz,fb,bn,c_];refine aP 3 [] m ?_;simp only[↓aD];intro u m;exact aQ rfl rfl (⟨_,rfl,m.ext,_,rfl,m.ge _ bp _ rfl,(m.b 0 rfl)⟩)
theorem Hb(n:Nat)(hn:1≤n)(Bs n₀:Nat)(t:T3)(w:ah)(hB:fA w Bs (aK t) 39):SeqStopsK Fence.wide n prog 337 #[.pointer (some ⟨Bs,0,none⟩)] (fun x:Nat=>aiR t x) (kY n₀ Bs) (fun ys=>ys=[0,1,2]) (fun pre=>∀k∈pre,k<3) 3 w:=fun l J Jx W hW hJ hJx hY h0 =>
 acI n hn l Bs n₀ t J Jx (fun s W h=>hJ s W _ none h ⟨rfl,rfl,rfl,ap _,fun _ _ _=>rfl⟩ (fun r e=>by cases e)) hY W ((hW.block Bs hB.lt).trans hB) h0
theorem xQ{l:List ac}{ty:aj}{x y:a_}{v:P3}{k:Nat}(hk:k<3)(hx:ev l x=sg v)(hy:ev l y=.int .i64 (k:Int)):gI prog l (.index 36 x y) ty (.int .i64 (bG (mH v k))):=by
 have h:k=0∨k=1∨k=2:=by omega
 rcases h with rfl | rfl | rfl
 · exact iJ hx hy
 · exact iK hx hy
 · exact iL hx hy
theorem abd(n:Int) : -1≤bG n∧bG n≤1:=by
 unfold bG;split
 · omega
 · split <;> omega
theorem Ph(m n:Int):IntKind.i64.wrap (bG m*bG n)=bG m*bG n:=by
 have h1:=abd m;have h2:=abd n;have h3:bG m = -1∨bG m=0∨bG m=1:=by omega
 rcases h3 with h | h | h <;> rw[h] <;> exact bF (by omega) (by omega)
theorem Wb{a b c d:P3}[I3 a][I3 b][I3 c][I3 d]{g50 k:Nat}(w:ah)(hB50:fA w g50 [.int .i64 (k:Int)] 3)(hk:k<3):dF prog 338 [pt a,pt b,pt c,pt d,.pointer (some ⟨g50,0,none⟩)] w (fun v _=>v=.bool (decide (bG (mH (pR a b c) k)*bG (mH (pR a b d) k)≤0))):=by
 refine⟨akP,?_⟩;have m:=Mem.refl w
 go_enter func338,ntmps338
 refine eS 9 [0] m ?_;simp only[↓aD];intro g1 g2 g3 g4;intro u m;refine mq m aC (by kernel_rfl) (eC 4 [3,2,3,1] ?_);simp only[↓aD,aR];refine iF rfl rfl (oQ (a:=a) (b:=b) (c:=a) (d:=c)) ?_;simp only[zz];refine ql rfl (fun u m=>((hB50.ext m.ext).lies1 bN rfl)) ?_;simp only[zz];refine aH ((xQ (v:=pR a b c) hk rfl rfl)) (eC 4 [3,2,3,0] ?_);simp only[↓aD,aR];refine iF rfl rfl (oQ (a:=a) (b:=b) (c:=a) (d:=d)) ?_;simp only[zz];refine ql rfl (fun u m=>((hB50.ext m.ext).lies1 bN rfl)) ?_;simp only[zz];refine aH ((xQ (v:=pR a b d) hk rfl rfl)) (aH (pN rfl rfl (Ph _ _)) (aH (aat rfl rfl) (aH aM ?_)));simp only[zz];refine aY ?_;clear m;intro u m;refine cR 1 [] m ?_;simp only[↓aD];intro u m;exact aQ rfl rfl (⟨_,rfl,m.ext,rfl⟩)
section
variable {P:bc} {ops:Array Oper} {Q:Exit→Act→ah→Prop} {rest:List Oper} {d j:Nat} {ty:aj} {pos:String} {after:Array Edge} {v:ac} {b:Bool} {ds:List cg} {l:List ac} {w w0:ah} {is:List It}
variable {f:FuncId} {fo:a_} {xs:Array a_} {args:List ac} {first cap:Array ac} {a0:Array aj}
theorem abe(m:Mem w0 w is)(hw:yielded ops l.toArray j=some b)(hf:b=true→ev l fo=.func (.func f) first cap)(hxs:b=true→first.toList++xs.toList.map (ev l)++cap.toList=args)(hc:b=true→dF P f args w fun x _=>x=v)
 (h:∀u,Mem w0 u is→ao P ops Q rest (Fr (l.set d (Mf b v)) ds) u):ao P ops Q (bi (some d) (.call { callee:=.value fo,args:=xs,argTypes:=a0 }) ty pos after (some (j,true))::rest) (Fr l ds) w:=by
 cases b with
 | false=>simp only[Ad] at h;exact oK hw (h w m)
 | true=>simp only[kG] at h;exact eD hw (cW m (hf rfl) (hxs rfl) (hc rfl) fun x u m e=>by subst e;exact h u m)
end
theorem xR{u:P3}(h:¬Z3 u):Bq u=Hu u∧Hu u<3:=by
 unfold Bq Hu;unfold Z3 at h;by_cases h1:u.x=0 <;> by_cases h2:u.y=0 <;> by_cases h3:u.z=0 <;> simp[h1,h2,h3] at h ⊢
theorem aiT{u:P3}(h:Z3 u):¬Hu u<3:=by
 obtain⟨h1,h2,h3⟩:=h;simp[Hu,h1,h2,h3]
theorem afH{a b:Int}:bG a*bG b≤0↔a*b≤0:=by
 unfold bG;rcases mw a 0 with ha | ha | ha <;> rcases mw b 0 with hb | hb | hb
 · have:=Int.mul_pos_of_neg_of_neg ha hb
   simp[ha,hb];omega
 · simp[hb]
 · have:=Int.mul_neg_of_neg_of_pos ha hb
   have:¬b<0:=by omega
   simp[ha,hb,this];omega
 · simp[ha]
 · simp[ha]
 · simp[ha]
 · have:=Int.mul_neg_of_pos_of_neg ha hb
   have:¬a<0:=by omega
   simp[ha,hb,this];omega
 · simp[hb]
 · have:=Int.mul_pos ha hb
   have:¬a<0:=by omega
   have:¬b<0:=by omega
   simp[*]
def pU(p q r s:P3):T3:=if sF p q=vS p q then ⟨sF r s,vS r s,sF p q⟩ else ⟨sF p q,vS p q,sF r s⟩
theorem Pi{p q:P3}(hp:I3 p)(hq:I3 q):I3 (sF p q)∧I3 (vS p q):=by
 unfold sF vS;split
 · exact⟨hq,hp⟩
 · exact⟨hp,hq⟩
instance {p q r s:P3}[hp:I3 p][hq:I3 q][hr:I3 r][hs:I3 s]:IT (pU p q r s):=by
 unfold pU;split
 · exact⟨(Pi hr hs).1,(Pi hr hs).2,(Pi hp hq).1⟩
 · exact⟨(Pi hp hq).1,(Pi hp hq).2,(Pi hr hs).1⟩
theorem amj{p q r s:P3}(h:(sF p q).x=(vS p q).x∧(sF p q).y=(vS p q).y∧(sF p q).z=(vS p q).z):pU p q r s=⟨sF r s,vS r s,sF p q⟩:=if_pos (P3.eq h.1 h.2.1 h.2.2)
theorem amk{p q r s:P3}(h:¬((sF p q).x=(vS p q).x∧(sF p q).y=(vS p q).y∧(sF p q).z=(vS p q).z)):pU p q r s=⟨sF p q,vS p q,sF r s⟩:=if_neg fun e=>h (by rw[e];exact⟨rfl,rfl,rfl⟩)
theorem aiU(u:P3):Hu u≤3:=by
 unfold Hu;split
 · omega
 · split
   · omega
   · split <;> omega
theorem aoE{p q r s:P3}(h:Z3 (Bf p q r s)):(lL (pU p q r s) && !decide ((vS p q).Lt (sF r s)) && !decide ((vS r s).Lt (sF p q)))=jS p q r s:=by
 unfold jS;rw[if_neg (aiT h)];unfold an2
 congr 2
 unfold pU lL ael;split
 · refine decide_eq_decide.2 ?_
   have:=aiU (pR (sF r s) (vS r s) (sF p q));simp only;omega
 · refine decide_eq_decide.2 ?_
   have:=aiU (pR (sF p q) (vS p q) (sF r s));simp only;omega
theorem ah1{p q r s:P3}(h:¬Z3 (Bf p q r s)):(decide (bG (Ca p q r s)=0)&&decide (bG (mH (pR p q r) (Hu (Bf p q r s)))*bG (mH (pR p q s) (Hu (Bf p q r s)))≤0)&&decide (bG (mH (pR r s p) (Hu (Bf p q r s)))*bG (mH (pR r s q) (Hu (Bf p q r s)))≤0))=jS p q r s:=by
 unfold jS;rw[if_pos (xR h).2];simp only[afH,fD]
theorem If{p q r s:P3}[I3 p][I3 q][I3 r][I3 s]:eM prog 306 [pt p,pt q,pt r,pt s] (.bool (jS p q r s)):=by
 intro w;refine⟨akK,?_⟩;have m:=Mem.refl w
 go_enter func306,ntmps306
 refine eS 13 [3,2,1] m ?_;simp only[↓aD,aR];intro g1 g2 g3 g4;intro u m;refine cR 1 [0,0] m ?_;simp only[↓aD,aR];intro u m;refine kA m rfl rfl (oQ (a:=p) (b:=q) (c:=r) (d:=s)) ?_;clear m;intro u m;simp only[zz];refine vJ m rfl rfl (abb (u:=Bf p q r s)) 5 [0] ?_;simp only[↓aD,apg,dR,aa];intro g5;intro u m;by_cases hf:Z3 (Bf p q r s)
 · skip
   rw[afG hf] at m;refine cR 10 [0,2,4,3,0] m ?_;simp only[↓aD,dR,aR];refine⟨by omega,?_⟩;intro u m;refine vJ m rfl rfl (tV (p:=p) (q:=q)) 10 [4,3,2,1,0] ?_;simp only[↓aD,aR,aa];intro u m;refine vJ m rfl rfl (tV (p:=r) (q:=s)) 12 [2,1,4,3,2] ?_;simp only[↓aD,aR,pS,aa];intro u m;refine cR 8 [0,5,4,0] m ?_;simp only[↓aD,mU,gZ,aR,aa];intro g6;intro u m;refine aB (cG rfl rfl) (aP 1 [0] m ?_);simp only[↓aD];intro u m;refine iM m 0 [] [62,63,64,65] (fun vs i=>vs=[]∧i=bI g6 [.int .i64 (pU p q r s).a.x,.int .i64 (pU p q r s).a.y,.int .i64 (pU p q r s).a.z,.int .i64 (pU p q r s).b.x,.int .i64 (pU p q r s).b.y,.int .i64 (pU p q r s).b.z,.int .i64 (pU p q r s).c.x,.int .i64 (pU p q r s).c.y,.int .i64 (pU p q r s).c.z] 39) ?_ ?_
   · intro K1 hK1
     refine bC rfl (fun hc2=>?_) (fun hc2=>?_)
     · skip
       refine aS 6 [3,2,5,0] m ?_;simp only[↓aD,aR,pS,gZ,aa];intro u m;refine cR 1 [0] m ?_;simp only[↓aD];intro u m;refine hK1 _ _ _ ?_ m ?_
       · simp only[zz,zv]
       · simp only[zQ,zR,zD,zE]
         exact⟨trivial,by rw[amj hc2] <;> rfl⟩
     · skip
       refine aS 1 [0] m ?_;simp only[↓aD];intro u m;refine hK1 _ _ _ ?_ m ?_
       · simp only[zz,zv]
       · simp only[zQ,zR,zD,zE]
         exact⟨trivial,by rw[amk hc2] <;> rfl⟩
   · intro vs i wr m hI u
     obtain⟨rfl,rfl⟩:=hI;simp only[zF,zG] at m;simp only[zu,zF,zG];refine cR 3 [0,0] m ?_;simp only[↓aD,gZ];intro u m;refine vJ m rfl rfl (Sr (t:=pU p q r s)) 1 [0] ?_;simp only[↓aD];intro u m;refine iG rfl (fun hb=>aW rfl ((m.b 4 rfl).full aG aA)) (iG rfl (fun hb=>aW rfl ((m.b 3 rfl).full aG aA)) (aaA m rfl rfl (fun hb=>by simp only[dt,bn,c_,zA,zB,zC,zD,zE,hb,kG];rfl) (fun hb=>(qN (p:=vS p q) (q:=sF r s)).pure) ?_));clear m;intro u m;refine kB rfl (fun hb=>qY (bD hb rfl)) (aB (eO rfl rfl rfl) ?_);refine aP 1 [0] m ?_;simp only[↓aD];intro u m;refine iG rfl (fun hb=>aW rfl ((m.b 2 rfl).full aG aA)) (iG rfl (fun hb=>aW rfl ((m.b 5 rfl).full aG aA)) (aaA m rfl rfl (fun hb=>by simp only[dt,bn,c_,zA,zB,zC,zD,zE,hb,kG];rfl) (fun hb=>(qN (p:=vS r s) (q:=sF p q)).pure) ?_));clear m;intro u m;refine kB rfl (fun hb=>qY (bD hb rfl)) (aB (eO rfl rfl rfl) ?_);refine aP 3 [] m ?_;simp only[↓aD];intro u m;refine aQ rfl rfl ?_;try simp only[zD,zE]
     exact⟨_,rfl,m.ext,by rw[Bo,aoE hf]⟩
 · skip
   rw[afF hf,(xR hf).1] at m;refine cR 7 [0,1,0] m ?_;simp only[↓aD,dR];refine⟨by omega,?_⟩;intro u m;refine aB eX ?_;simp only[zz,fb,bn,c_];refine aP 8 [4,3,2,1,0] m ?_;simp only[↓aD,aR];intro u m;refine vJ m rfl rfl (rX (a:=p) (b:=q) (c:=r) (d:=s)) 2 [0,0] ?_;simp only[↓aD];intro u m;refine kB rfl (fun hb=>aI) ?_;simp only[zz];refine iG rfl (fun hb=>aW rfl ((m.b 4 rfl).full aG aA)) (iG rfl (fun hb=>aW rfl ((m.b 3 rfl).full aG aA)) (iG rfl (fun hb=>aW rfl ((m.b 2 rfl).full aG aA)) (iG rfl (fun hb=>aW rfl ((m.b 1 rfl).full aG aA)) (abe m rfl (fun hb=>bD hb rfl) (fun hb=>by simp only[dt,bn,c_,zA,zB,zC,zD,zE,hb,kG];rfl) (fun hb=>Wb (a:=p) (b:=q) (c:=r) (d:=s) (k:=Hu (Bf p q r s)) _ (m.b 0 rfl) (xR hf).2) ?_))));clear m;intro u m;refine aB (eO rfl rfl rfl) (aP 1 [0] m ?_);simp only[↓aD];intro u m;refine kB rfl (fun hb=>aI) ?_;simp only[zz];refine iG rfl (fun hb=>aW rfl ((m.b 2 rfl).full aG aA)) (iG rfl (fun hb=>aW rfl ((m.b 1 rfl).full aG aA)) (iG rfl (fun hb=>aW rfl ((m.b 4 rfl).full aG aA)) (iG rfl (fun hb=>aW rfl ((m.b 3 rfl).full aG aA)) (abe m rfl (fun hb=>bD hb rfl) (fun hb=>by simp only[dt,bn,c_,zA,zB,zC,zD,zE,hb,kG];rfl) (fun hb=>Wb (a:=r) (b:=s) (c:=p) (d:=q) (k:=Hu (Bf p q r s)) _ (m.b 0 rfl) (xR hf).2) ?_))));clear m;intro u m;refine aB (eO rfl rfl rfl) (aP 3 [] m ?_);simp only[↓aD];intro u m;refine aQ rfl rfl ?_;try simp only[zD,zE]
   exact⟨_,rfl,m.ext,by rw[←ah1 hf];rfl⟩
end Go.Proofs.YtfekpcimgncioaaGreatDoor
namespace Go.Proofs.YtfekpcimgncioaaGreatDoor
open Go.Proofs.Tryz
open Go.RowKit Go.Lith
set_option maxRecDepth 100000
attribute [local irreducible] ao bz eZ bE bX Code.wp
instance {t:T3}{k:Nat}[h:IT t]:I3 (t.cor k):=by
 unfold T3.cor;split
 · exact h.a
 · split
   · exact h.b
   · exact h.c
def afI:List Nat→Int
 | []=>0
 | [_]=>1
 | [_,_]=>2
 | _=>3
def l3(f:Nat→Int):List Nat→List ac
 | []=>[.int .i64 0,.int .i64 0,.int .i64 0]
 | [a]=>[.int .i64 (f a),.int .i64 0,.int .i64 0]
 | [a,b]=>[.int .i64 (f a),.int .i64 (f b),.int .i64 0]
 | a::b::c::_=>[.int .i64 (f a),.int .i64 (f b),.int .i64 (f c)]
theorem Sx(u:P3):Bq u<3:=by
 unfold Bq
 repeat' split
 all_goals omega
def Ll(p q:P3)(t:T3):Prop:=Ca t.a t.b t.c p=0∧Ca t.a t.b t.c q=0
instance (p q:P3)(t:T3):Decidable (Ll p q t):=inferInstanceAs (Decidable (_∧_))
def xS(p:P3)(t:T3)(k:Nat):P3:=pR (t.cor k) (t.cor ((k+1)%3)) p
def sY(p q:P3)(t:T3)(k:Nat):Int:=if Ll p q t then bG (mH (xS p t k) (Bq t.normal)) else bG (Ca p q (t.cor k) (t.cor ((k+1)%3)))
theorem Dn{p q:P3}{t:T3}{k:Nat}(h:Ll p q t):sY p q t k=bG (mH (xS p t k) (Bq t.normal)):=if_pos h
theorem Do{p q:P3}{t:T3}{k:Nat}(h:¬Ll p q t):sY p q t k=bG (Ca p q (t.cor k) (t.cor ((k+1)%3))):=if_neg h
theorem vC{p q:P3}{t:T3}(h:(decide (bG (Ca t.a t.b t.c p)≠0)||decide (bG (Ca t.a t.b t.c q)≠0))=false):Ll p q t:=by
 simp only[Bool.or_eq_false_iff,decide_eq_false_iff_not,ne_eq,Decidable.not_not,fD] at h;exact h
theorem Fq{p q:P3}{t:T3}(h:(decide (bG (Ca t.a t.b t.c p)≠0)||decide (bG (Ca t.a t.b t.c q)≠0))=true):¬Ll p q t:=by
 simp only[fD,fu,decide_eq_true_eq,ne_eq] at h;exact fun k=>h.elim (· k.1) (· k.2)
theorem Wc{a b c:Int}:Ha (bG a) (bG b) (bG c)↔Ha a b c:=by
 simp only[Ha,Ua,adq]
theorem Lm{a b:Int}:0<bG a*bG b↔0<a*b:=by
 have:=afH (a:=a) (b:=b);omega
theorem ah2{p q:P3}{t:T3}(hf:t.flat):jS p q (sF (sF t.a t.b) t.c) (vS (vS t.a t.b) t.c)=iN p q t:=by
 unfold iN;rw[show pR t.a t.b t.c=t.normal from rfl];rw[if_neg (aiT hf)]
theorem aml{p q:P3}{t:T3}(hf:¬t.flat)(h:0<bG (Ca t.a t.b t.c p)*bG (Ca t.a t.b t.c q)):false=iN p q t:=by
 unfold iN;rw[show pR t.a t.b t.c=t.normal from rfl];rw[if_pos (xR hf).2,if_pos (Lm.1 h)]
theorem aoF{p q:P3}{t:T3}{k:Nat}(hf:¬t.flat)(h:Ll p q t)(hk:k<3)(ho:jS p q (t.cor k) (t.cor ((k+1)%3))=true):true=iN p q t:=by
 unfold iN;rw[show pR t.a t.b t.c=t.normal from rfl];rw[if_pos (xR hf).2,if_neg (by rw[h.1];simp),if_pos (show Ca t.a t.b t.c p=0∧Ca t.a t.b t.c q=0 from h)];have e:k=0∨k=1∨k=2:=by omega
 rcases e with rfl | rfl | rfl
 · rw[show jS p q t.a t.b=true from ho];rfl
 · rw[show jS p q t.b t.c=true from ho,Bool.or_true];rfl
 · rw[show jS p q t.c t.a=true from ho,Bool.or_true];rfl
theorem amm{p q:P3}{t:T3}(hf:¬t.flat)(hg:¬0<bG (Ca t.a t.b t.c p)*bG (Ca t.a t.b t.c q))(h0:Ll p q t→∀k∈[0,1,2],jS p q (t.cor k) (t.cor ((k+1)%3))=false):decide (Ha (sY p q t 0) (sY p q t 1) (sY p q t 2))=iN p q t:=by
 unfold iN;rw[show pR t.a t.b t.c=t.normal from rfl];rw[if_pos (xR hf).2,if_neg (fun h=>hg (Lm.2 h))];rw[Bool.eq_iff_iff,decide_eq_true_eq];by_cases h:Ll p q t
 · rw[if_pos (show Ca t.a t.b t.c p=0∧Ca t.a t.b t.c q=0 from h),show jS p q t.a t.b=false from h0 h 0 (by decide),show jS p q t.b t.c=false from h0 h 1 (by decide),show jS p q t.c t.a=false from h0 h 2 (by decide),Dn h,Dn h,Dn h,Wc]
   simp only[Bool.false_or,Bool.or_false,decide_eq_true_eq];rw[(xR hf).1];exact Iff.rfl
 · rw[if_neg (show ¬(Ca t.a t.b t.c p=0∧Ca t.a t.b t.c q=0) from h),Do h,Do h,Do h,Wc]
   unfold an3;simp only[fu,bh,decide_eq_true_eq,and_assoc];exact Iff.rfl
theorem Sy{p q:P3}{t:T3}[I3 p][I3 q][IT t]:eM prog 242 [pt p,pt q,tr t] (.bool (iN p q t)):=by
 intro w;refine⟨akr,?_⟩;have m:=Mem.refl w;refine (callsIn_wide (n:=4)).1 (callsIn_of_wp_marks func242 rfl trivial ?_ rfl);simp only[ntmps242,fh,au,bt,aa,i_,gd,gg,g_,gr,bv,b_];refine wpIn_wide.2 ?_;refine aV fun K1 k1=>am (Nu m rfl ?_);clear m;intro g1 u m;simp only[zz];refine Nu m rfl ?_;clear m;intro g2 u m;simp only[zz];refine Nu m rfl ?_;clear m;intro g3 u m;simp only[zz];refine kO m mE rfl ?_;clear m;intro g4 u m;refine aL (k1 _ _ ?_);try clear k1 K1
 refine aV fun K2 k2=>am (aB (aJ dC aA rfl rfl (by decide) (by decide) rfl) ?_);simp only[zz];refine aO rfl ((m.b 1 rfl).lies aG aA rfl rfl) ?_;simp only[zz,zy,aq,aa,ad,ab];refine aB (aJ dC aA rfl rfl (by decide) (by decide) rfl) ?_;simp only[zz];refine aO rfl ((m.b 1 rfl).lies aG aA rfl rfl) ?_;simp only[zz,zy,aq,aa,ad,ab];refine aB (aJ dC aA rfl rfl (by decide) (by decide) rfl) ?_;simp only[zz];refine aO rfl ((m.b 1 rfl).lies aG aA rfl rfl) ?_;simp only[zz,zy,aq,aa,ad,ab];refine aB (aJ dC aA rfl rfl (by decide) (by decide) rfl) ?_;simp only[zz];refine aO rfl ((m.b 1 rfl).lies aG aA rfl rfl) ?_;simp only[zz,zy,aq,aa,ad,ab];refine kA m rfl rfl (oQ (a:=t.a) (b:=t.b) (c:=t.a) (d:=t.c)) ?_;clear m;intro u m;simp only[zz];refine kA m rfl rfl (abb (u:=t.normal)) ?_;clear m;intro u m;simp only[zz];refine kO m kD rfl ?_;clear m;intro g5 u m;simp only[zz];refine cK m 0 rfl rfl rfl aX (jE rfl) ⟨rfl,rfl⟩ ?_;clear m;intro u m;simp only[zz,zy,zx,over,aa] at m;refine aL (k2 _ _ ?_);try clear k2 K2
 refine aV fun K3 k3=>aV fun K4 k4=>?_;by_cases hf:t.flat
 · skip
   rw[afG hf] at m;refine am (aO rfl ((m.b 0 rfl).lies1 bN rfl) ?_);simp only[zz];refine aB (oB rfl rfl (by omega)) (aL (k4 _ _ ?_));try clear k4 K4
   refine vV rfl (aV fun K5 k5=>am (aB (aJ dC aA rfl rfl (by decide) (by decide) rfl) ?_));simp only[zz];refine aO rfl ((m.b 2 rfl).lies aG aA rfl rfl) ?_;simp only[zz,zy,aq,aa,ad,ab];refine aB (aJ dC aA rfl rfl (by decide) (by decide) rfl) ?_;simp only[zz];refine aO rfl ((m.b 2 rfl).lies aG aA rfl rfl) ?_;simp only[zz,zy,aq,aa,ad,ab];refine kA m rfl rfl (tV (p:=t.a) (q:=t.b)) ?_;clear m;intro u m;refine aB aI (aB (eE rfl rfl) (aB (eE rfl rfl) ?_));simp only[zz];refine kO m gN rfl ?_;clear m;intro g6 u m;simp only[zz];refine kO m gN rfl ?_;clear m;intro g7 u m;simp only[zz];refine cD m 1 rfl rfl rfl aA (jE rfl) rfl ?_;clear m;intro u m;simp only[zy,zx,over,zF,zG,aa] at m;refine cD m 0 rfl rfl rfl aA (jE rfl) rfl ?_;clear m;intro u m;simp only[zy,zx,over,zF,zG,aa] at m;refine aL (k5 _ _ ?_);try clear k5 K5
   refine aV fun K6 k6=>am (aO rfl ((m.b 1 rfl).full aG aA) ?_);simp only[zz];refine aB (aJ dC aA rfl rfl (by decide) (by decide) rfl) ?_;simp only[zz];refine aO rfl ((m.b 4 rfl).lies aG aA rfl rfl) ?_;simp only[zz,zy,aq,aa,ad,ab];refine kA m rfl rfl (tV (p:=sF t.a t.b) (q:=t.c)) ?_;clear m;intro u m;refine aB aI (aB (eE rfl rfl) (aB (eE rfl rfl) ?_));simp only[zz];refine kO m gN rfl ?_;clear m;intro g8 u m;simp only[zz];refine kO m gN rfl ?_;clear m;intro g9 u m;simp only[zz];refine cD m 1 rfl rfl rfl aA (jE rfl) rfl ?_;clear m;intro u m;simp only[zy,zx,over,zF,zG,aa] at m;refine cD m 0 rfl rfl rfl aA (jE rfl) rfl ?_;clear m;intro u m;simp only[zy,zx,over,zF,zG,aa] at m;refine aL (k6 _ _ ?_);try clear k6 K6
   refine aV fun K7 k7=>am (aO rfl ((m.b 2 rfl).full aG aA) ?_);simp only[zz];refine aB (aJ dC aA rfl rfl (by decide) (by decide) rfl) ?_;simp only[zz];refine aO rfl ((m.b 6 rfl).lies aG aA rfl rfl) ?_;simp only[zz,zy,aq,aa,ad,ab];refine kA m rfl rfl (tV (p:=vS t.a t.b) (q:=t.c)) ?_;clear m;intro u m;refine aB aI (aB (eE rfl rfl) (aB (eE rfl rfl) ?_));simp only[zz];refine kO m gN rfl ?_;clear m;intro g10 u m;simp only[zz];refine kO m gN rfl ?_;clear m;intro g11 u m;simp only[zz];refine cD m 1 rfl rfl rfl aA (jE rfl) rfl ?_;clear m;intro u m;simp only[zy,zx,over,zF,zG,aa] at m;refine cD m 0 rfl rfl rfl aA (jE rfl) rfl ?_;clear m;intro u m;simp only[zy,zx,over,zF,zG,aa] at m;refine aL (k7 _ _ ?_);try clear k7 K7
   refine aV fun K8 k8=>am (aO rfl ((m.b 10 rfl).full aG aA) ?_);simp only[zz];refine aO rfl ((m.b 9 rfl).full aG aA) ?_;simp only[zz];refine aO rfl ((m.b 3 rfl).full aG aA) ?_;simp only[zz];refine aO rfl ((m.b 0 rfl).full aG aA) ?_;simp only[zz];refine kA m rfl rfl (If (p:=p) (q:=q) (r:=sF (sF t.a t.b) t.c) (s:=vS (vS t.a t.b) t.c)) ?_;clear m;intro u m;simp only[zz];refine cK m 7 rfl rfl rfl dM (jE rfl) ⟨rfl,rfl⟩ ?_;clear m;intro u m;simp only[zz,zy,zx,over,aa] at m;refine aL (k8 _ _ ?_);try clear k8 K8
   refine wp_ret ?_;try simp only[cj,Exit.then,if_true]
   refine aiS ?_;refine aQ rfl ⟨_,rfl,((m.b 7 rfl).lies1 mN rfl)⟩ ?_;try simp only[zD,zE]
   exact⟨_,rfl,m.ext,by rw[ah2 hf]⟩
 · skip
   rw[afF hf] at m;refine am (aO rfl ((m.b 0 rfl).lies1 bN rfl) ?_);simp only[zz];refine aB (Aw rfl rfl (by omega)) (aL (k4 _ _ ?_));try clear k4 K4
   refine abp rfl (wp_skip (k3 _ _ ?_));try clear k3 K3
   refine aV fun K9 k9=>?_;simp only[zz];refine vF 18 [0,1,2,3,4,5,6,7,8,9,10,11,12,13,14,15] [⟨16,14,3,[.int .i64 0]⟩,⟨17,15,3,[.int .i64 0]⟩] aC (by kernel_rfl) (al2 ⟨_,_,_,rfl,by kernel_rfl,_,kD,rfl⟩ ⟨_,_,_,rfl,by kernel_rfl,_,kD,rfl⟩) (ol:=?_) ?hol ?_
   case hol=>simp only[zw,zQ,zR];try rfl
   intro u e;replace m:=m.ext' e;clear e;refine Ac (aJ dC aA rfl rfl (by decide) (by decide) rfl) ?_;simp only[zz];refine rF rfl (fun u e=>(((m.ext' e).b 2 rfl).lies aG aA rfl rfl)) ?_;simp only[zz,zy,aq,aa,ad,ab];refine Ac (aJ dC aA rfl rfl (by decide) (by decide) rfl) ?_;simp only[zz];refine rF rfl (fun u e=>(((m.ext' e).b 2 rfl).lies aG aA rfl rfl)) ?_;simp only[zz,zy,aq,aa,ad,ab];refine Ac (aJ dC aA rfl rfl (by decide) (by decide) rfl) ?_;simp only[zz];refine rF rfl (fun u e=>(((m.ext' e).b 2 rfl).lies aG aA rfl rfl)) ?_;simp only[zz,zy,aq,aa,ad,ab];refine rF rfl (fun u e=>(((m.ext' e).b 4 rfl).full aG aA)) ?_;simp only[zz];refine yA rfl rfl (rX (a:=t.a) (b:=t.b) (c:=t.c) (d:=p)) (Ac (aJ dC aA rfl rfl (by decide) (by decide) rfl) ?_);simp only[zz];refine rF rfl (fun u e=>(((m.ext' e).b 2 rfl).lies aG aA rfl rfl)) ?_;simp only[zz,zy,aq,aa,ad,ab];refine Ac (aJ dC aA rfl rfl (by decide) (by decide) rfl) ?_;simp only[zz];refine rF rfl (fun u e=>(((m.ext' e).b 2 rfl).lies aG aA rfl rfl)) ?_;simp only[zz,zy,aq,aa,ad,ab];refine Ac (aJ dC aA rfl rfl (by decide) (by decide) rfl) ?_;simp only[zz];refine rF rfl (fun u e=>(((m.ext' e).b 2 rfl).lies aG aA rfl rfl)) ?_;simp only[zz,zy,aq,aa,ad,ab];refine rF rfl (fun u e=>(((m.ext' e).b 3 rfl).full aG aA)) ?_;simp only[zz];refine yA rfl rfl (rX (a:=t.a) (b:=t.b) (c:=t.c) (d:=q)) (aio ?_);simp only[zz];refine mf2 m (by decide) ?_;clear m;intro g6 g7 u m;simp only[zJ,zK,zF,zG];refine cK m 1 rfl rfl rfl aX (jE rfl) ⟨rfl,rfl⟩ ?_;clear m;intro u m;simp only[zz,zy,zx,over,aa] at m;refine cK m 0 rfl rfl rfl aX (jE rfl) ⟨rfl,rfl⟩ ?_;clear m;intro u m;simp only[zz,zy,zx,over,aa] at m;refine aL (k9 _ _ ?_);try clear k9 K9
   refine aV fun K10 k10=>aV fun K11 k11=>am (aO rfl ((m.b 1 rfl).lies1 bN rfl) ?_);simp only[zz];refine aO rfl ((m.b 0 rfl).lies1 bN rfl) ?_;simp only[zz];refine aB (pN rfl rfl (Ph _ _)) (aB (ac6 rfl rfl) (aL (k11 _ _ ?_)));try clear k11 K11
   simp only[zz];refine bC rfl (fun hc2=>?_) (fun hc2=>?_)
   · skip
     refine aV fun K12 k12=>am (cK m 3 rfl rfl rfl dM (jE rfl) ⟨rfl,rfl⟩ ?_);clear m;intro u m;simp only[zz,zy,zx,over,aa] at m;refine aL (k12 _ _ ?_);try clear k12 K12
     refine wp_ret ?_;try simp only[cj,Exit.then,if_true]
     refine aiS ?_;refine aQ rfl ⟨_,rfl,((m.b 3 rfl).lies1 mN rfl)⟩ ?_;try simp only[zD,zE]
     exact⟨_,rfl,m.ext,by rw[←aml hf hc2]⟩
   · skip
     refine wp_skip (k10 _ _ ?_);try clear k10 K10
     refine aV fun K13 k13=>am (kO m agX rfl ?_);clear m;intro g8 u m;refine aL (k13 _ _ ?_);try clear k13 K13
     refine aV fun K14 k14=>am ?_;simp only[zz];refine kO m kD rfl ?_;clear m;intro g9 u m;simp only[zz];refine cK m 0 rfl rfl rfl aX (jE rfl) ⟨rfl,rfl⟩ ?_;clear m;intro u m;simp only[zz,zy,zx,over,aa] at m;refine aL (k14 _ _ ?_);try clear k14 K14
     refine aV fun K15 k15=>aV fun K16 k16=>am (aO rfl ((m.b 6 rfl).full cF aN) ?_);simp only[zz];refine bJ rfl rfl (abc (t:=t) _) ?_;rintro v u e ⟨g10,rfl,hg,hB⟩;replace m:=m.newB e hg hB;clear e hg hB;refine aL (k16 _ _ ?_);try clear k16 K16
     refine ig ?_;simp only[zz];refine Vv (v1:=fun x=>pt (t.cor x)) (v2:=fun x=>pt (t.cor ((x+1)%3))) (c1:=fun x=>[.int .i64 (t.cor x).x,.int .i64 (t.cor x).y,.int .i64 (t.cor x).z]) (c2:=fun x=>[.int .i64 (t.cor ((x+1)%3)).x,.int .i64 (t.cor ((x+1)%3)).y,.int .i64 (t.cor ((x+1)%3)).z]) (T1:=30) (T2:=30) (d1:=18) (d2:=19) (csB:=aK t) (tB:=39) rfl adJ (Hb 3 (by omega) g10 0 t _ (m.b 0 rfl)) (fun pre=>[bI g10 (aK t) 39,bI g9 [.int .i64 (afI pre)] 3,bI g8 (l3 (sY p q t) pre) 36,bI g7 [.int .i64 (bG (Ca t.a t.b t.c q))] 3,bI g6 [.int .i64 (bG (Ca t.a t.b t.c p))] 3,bI g5 [.int .i64 (Bq t.normal:Int)] 3,bI g4 [.bool false] 4,bI g3 [.int .i64 t.a.x,.int .i64 t.a.y,.int .i64 t.a.z,.int .i64 t.b.x,.int .i64 t.b.y,.int .i64 t.b.z,.int .i64 t.c.x,.int .i64 t.c.y,.int .i64 t.c.z] 39,bI g2 [.int .i64 (q).x,.int .i64 (q).y,.int .i64 (q).z] 30,bI g1 [.int .i64 (p).x,.int .i64 (p).y,.int .i64 (p).z] 30]) (fun _=>[bI g4 [.bool true] 4]) (fun pre=>Ll p q t→∀k∈pre,jS p q (t.cor k) (t.cor ((k+1)%3))=false) (fun pre=>Ll p q t∧∃k∈pre,jS p q (t.cor k) (t.cor ((k+1)%3))=true) (fun _ i hi=>by simp only[ak,bw,or_false] at hi;rcases hi with rfl | rfl | rfl | rfl | rfl | rfl | rfl | rfl | rfl | rfl <;> exact⟨_,_,_,rfl⟩) (fun _ i hi=>by simp only[ak,bw,or_false] at hi;subst hi ;exact⟨_,_,_,rfl⟩) (fun _=>rfl) (fun _=>ba (i:=0) rfl) m (fun _ k hk=>by cases hk) ?_ ?_ ?_ ?_
     · skip
       intro r pre x W K m hK;simp only[zF,zG];refine lR fun K17 k17=>bL (Dk m gN rfl ?_);clear m;intro g11 u m;simp only[zz];refine xO m 0 rfl rfl rfl aA (jE rfl) rfl ?_;clear m;intro u m;simp only[zy,zx,over,zF,zG,aa] at m;refine aL (k17 _ _ ?_);try clear k17 K17
       refine bL (Dk m gN rfl ?_);clear m;intro g12 u m;simp only[zz];refine xO m 0 rfl rfl rfl aA (jE rfl) rfl ?_;clear m;intro u m;simp only[zy,zx,over,zF,zG,aa] at m;exact aL (hK _ _ _ m)
     · skip
       intro r pre x g11 g12 W Q' _ hJ hN m hn hr;rcases pre with _ | ⟨a,_ | ⟨b,_ | ⟨c,l⟩⟩⟩
       · skip
         simp only[afI,l3] at m;simp only[zF,zG];refine mV (lR fun K18 k18=>mV (lR fun K19 k19=>bL (aO rfl ((m.b 6 rfl).lies1 bN rfl) ?_)));simp only[zz];refine aB (pO rfl rfl) (aB aI ?_);simp only[zz];refine eV rfl (fun hb=>aW rfl ((m.b 5 rfl).lies1 bN rfl)) (dG rfl (fun hb=>pO (bD hb rfl) rfl) (aB (dW rfl rfl rfl) (aB aM (aL (k19 _ _ ?_)))));try clear k19 K19
         simp only[zz];refine vA rfl (fun hc3=>?_) (fun hc3=>?_)
         · skip
           refine tT m 7 aC (by kernel_rfl) ?_;simp only[zy];refine yY rfl (fun u m=>((m.b 3 rfl).lies1 bN rfl)) ?_;simp only[zz];refine yY rfl (fun u m=>((m.b 11 rfl).full aG aA)) ?_;simp only[zz];refine yY rfl (fun u m=>((m.b 10 rfl).full aG aA)) ?_;simp only[zz];refine yY rfl (fun u m=>((m.b 1 rfl).full aG aA)) ?_;simp only[zz];refine yY rfl (fun u m=>((m.b 0 rfl).full aG aA)) ?_;simp only[zz];refine acH rfl rfl (rX (a:=p) (b:=q) (c:=t.cor x) (d:=t.cor ((x+1)%3))) (aH (aJ oW aX rfl rfl (by decide) (by decide) rfl) (aY ?_));clear m;intro u m;simp only[zz];refine gV m 4 rfl rfl rfl aX (jE rfl) ⟨rfl,rfl⟩ ?_;clear m;intro u m;simp only[zz,zy,zx,over,aa] at m;refine aL (k18 _ _ ?_);try clear k18 K18
           refine bL (aO rfl ((m.b 3 rfl).lies1 bN rfl) ?_);simp only[zz];refine aB (eL (m:=0) (n:=1) (r:=1) rfl rfl (by decide)) ?_;simp only[zz];refine gV m 3 rfl rfl rfl aX (jE rfl) ⟨rfl,rfl⟩ ?_;clear m;intro u m;simp only[zz,zy,zx,over,aa] at m;refine aL ?_
           first
           | (have hI:=Fq hc3;rw[show bG (((q.sub p).cross ((t.cor x).sub p)).dot ((t.cor ((x+1)%3)).sub p))=sY p q t x from (Do hI).symm] at m;exact hn _ _ ⟨m.toMem.sel [false,false,true,true,true,true,true,true,true,true,true,true],m.rx⟩ (fun k=>absurd k hI))
           | (have hI := vC hc3;rw[show bG (mH (xS p t x) (Bq t.normal))=sY p q t x from (Dn hI).symm] at m;exact hn _ _ ⟨m.toMem.sel [false, false, true, true, true, true, true, true, true, true, true, true], m.rx⟩ (fun hi k hk => by
            rcases bg.1 hk with hk | hk
            · exact hJ hi k hk
            · rw[ay.1 hk];exact hc4))
         · skip
           refine lR fun K20 k20=>bL (aO rfl ((m.b 11 rfl).full aG aA) ?_);simp only[zz];refine aO rfl ((m.b 10 rfl).full aG aA) ?_;simp only[zz];refine aO rfl ((m.b 1 rfl).full aG aA) ?_;simp only[zz];refine aO rfl ((m.b 0 rfl).full aG aA) ?_;simp only[zz];refine Ib m rfl rfl (If (p:=p) (q:=q) (r:=t.cor x) (s:=t.cor ((x+1)%3))) ?_;clear m;intro u m;refine aB aM (aL (k20 _ _ ?_));try clear k20 K20
           simp only[zz];refine vA rfl (fun hc4=>?_) (fun hc4=>?_)
           · skip
             refine lR fun K21 k21=>bL (gV m 8 rfl rfl rfl dM (jE rfl) ⟨rfl,rfl⟩ ?_);clear m;intro u m;simp only[zz,zy,zx,over,aa] at m;refine aL (k21 _ _ ?_);try clear k21 K21
             refine Ia ?_;exact hr _ _ ⟨m.toMem.sel [false,false,false,false,false,false,false,false,true],m.rx⟩ ⟨vC hc3,x,by simp,hc4⟩
           · skip
             refine tT m 9 aC (by kernel_rfl) ?_;simp only[zy];refine yY rfl (fun u m=>((m.b 3 rfl).lies1 bN rfl)) ?_;simp only[zz];refine yY rfl (fun u m=>((m.b 1 rfl).full aG aA)) ?_;simp only[zz];refine yY rfl (fun u m=>((m.b 0 rfl).full aG aA)) ?_;simp only[zz];refine yY rfl (fun u m=>((m.b 1 rfl).full aG aA)) ?_;simp only[zz];refine yY rfl (fun u m=>((m.b 11 rfl).full aG aA)) ?_;simp only[zz];refine acH rfl rfl (oQ (a:=t.cor x) (b:=t.cor ((x+1)%3)) (c:=t.cor x) (d:=p)) ?_;simp only[zz];refine yY rfl (fun u m=>((m.b 7 rfl).lies1 bN rfl)) ?_;simp only[zz];refine aH ((xQ (v:=xS p t x) (Sx _) rfl rfl)) (aH (aJ oW aX rfl rfl (by decide) (by decide) rfl) (aY ?_));clear m;intro u m;simp only[zz];refine gV m 4 rfl rfl rfl aX (jE rfl) ⟨rfl,rfl⟩ ?_;clear m;intro u m;simp only[zz,zy,zx,over,aa] at m;refine aL (k18 _ _ ?_);try clear k18 K18
             refine bL (aO rfl ((m.b 3 rfl).lies1 bN rfl) ?_);simp only[zz];refine aB (eL (m:=0) (n:=1) (r:=1) rfl rfl (by decide)) ?_;simp only[zz];refine gV m 3 rfl rfl rfl aX (jE rfl) ⟨rfl,rfl⟩ ?_;clear m;intro u m;simp only[zz,zy,zx,over,aa] at m;refine aL ?_
             first
             | (have hI:=Fq hc3;rw[show bG (((q.sub p).cross ((t.cor x).sub p)).dot ((t.cor ((x+1)%3)).sub p))=sY p q t x from (Do hI).symm] at m;exact hn _ _ ⟨m.toMem.sel [false,false,true,true,true,true,true,true,true,true,true,true],m.rx⟩ (fun k=>absurd k hI))
             | (have hI := vC hc3;rw[show bG (mH (xS p t x) (Bq t.normal))=sY p q t x from (Dn hI).symm] at m;exact hn _ _ ⟨m.toMem.sel [false, false, true, true, true, true, true, true, true, true, true, true], m.rx⟩ (fun hi k hk => by
              rcases bg.1 hk with hk | hk
              · exact hJ hi k hk
              · rw[ay.1 hk];exact hc4))
       · skip
         simp only[afI,l3] at m;simp only[zF,zG];refine mV (lR fun K22 k22=>mV (lR fun K23 k23=>bL (aO rfl ((m.b 6 rfl).lies1 bN rfl) ?_)));simp only[zz];refine aB (pO rfl rfl) (aB aI ?_);simp only[zz];refine eV rfl (fun hb=>aW rfl ((m.b 5 rfl).lies1 bN rfl)) (dG rfl (fun hb=>pO (bD hb rfl) rfl) (aB (dW rfl rfl rfl) (aB aM (aL (k23 _ _ ?_)))));try clear k23 K23
         simp only[zz];refine vA rfl (fun hc3=>?_) (fun hc3=>?_)
         · skip
           refine tT m 7 aC (by kernel_rfl) ?_;simp only[zy];refine yY rfl (fun u m=>((m.b 3 rfl).lies1 bN rfl)) ?_;simp only[zz];refine yY rfl (fun u m=>((m.b 11 rfl).full aG aA)) ?_;simp only[zz];refine yY rfl (fun u m=>((m.b 10 rfl).full aG aA)) ?_;simp only[zz];refine yY rfl (fun u m=>((m.b 1 rfl).full aG aA)) ?_;simp only[zz];refine yY rfl (fun u m=>((m.b 0 rfl).full aG aA)) ?_;simp only[zz];refine acH rfl rfl (rX (a:=p) (b:=q) (c:=t.cor x) (d:=t.cor ((x+1)%3))) (aH (aJ oW aX rfl rfl (by decide) (by decide) rfl) (aY ?_));clear m;intro u m;simp only[zz];refine gV m 4 rfl rfl rfl aX (jE rfl) ⟨rfl,rfl⟩ ?_;clear m;intro u m;simp only[zz,zy,zx,over,aa] at m;refine aL (k22 _ _ ?_);try clear k22 K22
           refine bL (aO rfl ((m.b 3 rfl).lies1 bN rfl) ?_);simp only[zz];refine aB (eL (m:=1) (n:=1) (r:=2) rfl rfl (by decide)) ?_;simp only[zz];refine gV m 3 rfl rfl rfl aX (jE rfl) ⟨rfl,rfl⟩ ?_;clear m;intro u m;simp only[zz,zy,zx,over,aa] at m;refine aL ?_
           first
           | (have hI:=Fq hc3;rw[show bG (((q.sub p).cross ((t.cor x).sub p)).dot ((t.cor ((x+1)%3)).sub p))=sY p q t x from (Do hI).symm] at m;exact hn _ _ ⟨m.toMem.sel [false,false,true,true,true,true,true,true,true,true,true,true],m.rx⟩ (fun k=>absurd k hI))
           | (have hI := vC hc3;rw[show bG (mH (xS p t x) (Bq t.normal))=sY p q t x from (Dn hI).symm] at m;exact hn _ _ ⟨m.toMem.sel [false, false, true, true, true, true, true, true, true, true, true, true], m.rx⟩ (fun hi k hk => by
            rcases bg.1 hk with hk | hk
            · exact hJ hi k hk
            · rw[ay.1 hk];exact hc4))
         · skip
           refine lR fun K24 k24=>bL (aO rfl ((m.b 11 rfl).full aG aA) ?_);simp only[zz];refine aO rfl ((m.b 10 rfl).full aG aA) ?_;simp only[zz];refine aO rfl ((m.b 1 rfl).full aG aA) ?_;simp only[zz];refine aO rfl ((m.b 0 rfl).full aG aA) ?_;simp only[zz];refine Ib m rfl rfl (If (p:=p) (q:=q) (r:=t.cor x) (s:=t.cor ((x+1)%3))) ?_;clear m;intro u m;refine aB aM (aL (k24 _ _ ?_));try clear k24 K24
           simp only[zz];refine vA rfl (fun hc4=>?_) (fun hc4=>?_)
           · skip
             refine lR fun K25 k25=>bL (gV m 8 rfl rfl rfl dM (jE rfl) ⟨rfl,rfl⟩ ?_);clear m;intro u m;simp only[zz,zy,zx,over,aa] at m;refine aL (k25 _ _ ?_);try clear k25 K25
             refine Ia ?_;exact hr _ _ ⟨m.toMem.sel [false,false,false,false,false,false,false,false,true],m.rx⟩ ⟨vC hc3,x,by simp,hc4⟩
           · skip
             refine tT m 9 aC (by kernel_rfl) ?_;simp only[zy];refine yY rfl (fun u m=>((m.b 3 rfl).lies1 bN rfl)) ?_;simp only[zz];refine yY rfl (fun u m=>((m.b 1 rfl).full aG aA)) ?_;simp only[zz];refine yY rfl (fun u m=>((m.b 0 rfl).full aG aA)) ?_;simp only[zz];refine yY rfl (fun u m=>((m.b 1 rfl).full aG aA)) ?_;simp only[zz];refine yY rfl (fun u m=>((m.b 11 rfl).full aG aA)) ?_;simp only[zz];refine acH rfl rfl (oQ (a:=t.cor x) (b:=t.cor ((x+1)%3)) (c:=t.cor x) (d:=p)) ?_;simp only[zz];refine yY rfl (fun u m=>((m.b 7 rfl).lies1 bN rfl)) ?_;simp only[zz];refine aH ((xQ (v:=xS p t x) (Sx _) rfl rfl)) (aH (aJ oW aX rfl rfl (by decide) (by decide) rfl) (aY ?_));clear m;intro u m;simp only[zz];refine gV m 4 rfl rfl rfl aX (jE rfl) ⟨rfl,rfl⟩ ?_;clear m;intro u m;simp only[zz,zy,zx,over,aa] at m;refine aL (k22 _ _ ?_);try clear k22 K22
             refine bL (aO rfl ((m.b 3 rfl).lies1 bN rfl) ?_);simp only[zz];refine aB (eL (m:=1) (n:=1) (r:=2) rfl rfl (by decide)) ?_;simp only[zz];refine gV m 3 rfl rfl rfl aX (jE rfl) ⟨rfl,rfl⟩ ?_;clear m;intro u m;simp only[zz,zy,zx,over,aa] at m;refine aL ?_
             first
             | (have hI:=Fq hc3;rw[show bG (((q.sub p).cross ((t.cor x).sub p)).dot ((t.cor ((x+1)%3)).sub p))=sY p q t x from (Do hI).symm] at m;exact hn _ _ ⟨m.toMem.sel [false,false,true,true,true,true,true,true,true,true,true,true],m.rx⟩ (fun k=>absurd k hI))
             | (have hI := vC hc3;rw[show bG (mH (xS p t x) (Bq t.normal))=sY p q t x from (Dn hI).symm] at m;exact hn _ _ ⟨m.toMem.sel [false, false, true, true, true, true, true, true, true, true, true, true], m.rx⟩ (fun hi k hk => by
              rcases bg.1 hk with hk | hk
              · exact hJ hi k hk
              · rw[ay.1 hk];exact hc4))
       · skip
         simp only[afI,l3] at m;simp only[zF,zG];refine mV (lR fun K26 k26=>mV (lR fun K27 k27=>bL (aO rfl ((m.b 6 rfl).lies1 bN rfl) ?_)));simp only[zz];refine aB (pO rfl rfl) (aB aI ?_);simp only[zz];refine eV rfl (fun hb=>aW rfl ((m.b 5 rfl).lies1 bN rfl)) (dG rfl (fun hb=>pO (bD hb rfl) rfl) (aB (dW rfl rfl rfl) (aB aM (aL (k27 _ _ ?_)))));try clear k27 K27
         simp only[zz];refine vA rfl (fun hc3=>?_) (fun hc3=>?_)
         · skip
           refine tT m 7 aC (by kernel_rfl) ?_;simp only[zy];refine yY rfl (fun u m=>((m.b 3 rfl).lies1 bN rfl)) ?_;simp only[zz];refine yY rfl (fun u m=>((m.b 11 rfl).full aG aA)) ?_;simp only[zz];refine yY rfl (fun u m=>((m.b 10 rfl).full aG aA)) ?_;simp only[zz];refine yY rfl (fun u m=>((m.b 1 rfl).full aG aA)) ?_;simp only[zz];refine yY rfl (fun u m=>((m.b 0 rfl).full aG aA)) ?_;simp only[zz];refine acH rfl rfl (rX (a:=p) (b:=q) (c:=t.cor x) (d:=t.cor ((x+1)%3))) (aH (aJ oW aX rfl rfl (by decide) (by decide) rfl) (aY ?_));clear m;intro u m;simp only[zz];refine gV m 4 rfl rfl rfl aX (jE rfl) ⟨rfl,rfl⟩ ?_;clear m;intro u m;simp only[zz,zy,zx,over,aa] at m;refine aL (k26 _ _ ?_);try clear k26 K26
           refine bL (aO rfl ((m.b 3 rfl).lies1 bN rfl) ?_);simp only[zz];refine aB (eL (m:=2) (n:=1) (r:=3) rfl rfl (by decide)) ?_;simp only[zz];refine gV m 3 rfl rfl rfl aX (jE rfl) ⟨rfl,rfl⟩ ?_;clear m;intro u m;simp only[zz,zy,zx,over,aa] at m;refine aL ?_
           first
           | (have hI:=Fq hc3;rw[show bG (((q.sub p).cross ((t.cor x).sub p)).dot ((t.cor ((x+1)%3)).sub p))=sY p q t x from (Do hI).symm] at m;exact hn _ _ ⟨m.toMem.sel [false,false,true,true,true,true,true,true,true,true,true,true],m.rx⟩ (fun k=>absurd k hI))
           | (have hI := vC hc3;rw[show bG (mH (xS p t x) (Bq t.normal))=sY p q t x from (Dn hI).symm] at m;exact hn _ _ ⟨m.toMem.sel [false, false, true, true, true, true, true, true, true, true, true, true], m.rx⟩ (fun hi k hk => by
            rcases bg.1 hk with hk | hk
            · exact hJ hi k hk
            · rw[ay.1 hk];exact hc4))
         · skip
           refine lR fun K28 k28=>bL (aO rfl ((m.b 11 rfl).full aG aA) ?_);simp only[zz];refine aO rfl ((m.b 10 rfl).full aG aA) ?_;simp only[zz];refine aO rfl ((m.b 1 rfl).full aG aA) ?_;simp only[zz];refine aO rfl ((m.b 0 rfl).full aG aA) ?_;simp only[zz];refine Ib m rfl rfl (If (p:=p) (q:=q) (r:=t.cor x) (s:=t.cor ((x+1)%3))) ?_;clear m;intro u m;refine aB aM (aL (k28 _ _ ?_));try clear k28 K28
           simp only[zz];refine vA rfl (fun hc4=>?_) (fun hc4=>?_)
           · skip
             refine lR fun K29 k29=>bL (gV m 8 rfl rfl rfl dM (jE rfl) ⟨rfl,rfl⟩ ?_);clear m;intro u m;simp only[zz,zy,zx,over,aa] at m;refine aL (k29 _ _ ?_);try clear k29 K29
             refine Ia ?_;exact hr _ _ ⟨m.toMem.sel [false,false,false,false,false,false,false,false,true],m.rx⟩ ⟨vC hc3,x,by simp,hc4⟩
           · skip
             refine tT m 9 aC (by kernel_rfl) ?_;simp only[zy];refine yY rfl (fun u m=>((m.b 3 rfl).lies1 bN rfl)) ?_;simp only[zz];refine yY rfl (fun u m=>((m.b 1 rfl).full aG aA)) ?_;simp only[zz];refine yY rfl (fun u m=>((m.b 0 rfl).full aG aA)) ?_;simp only[zz];refine yY rfl (fun u m=>((m.b 1 rfl).full aG aA)) ?_;simp only[zz];refine yY rfl (fun u m=>((m.b 11 rfl).full aG aA)) ?_;simp only[zz];refine acH rfl rfl (oQ (a:=t.cor x) (b:=t.cor ((x+1)%3)) (c:=t.cor x) (d:=p)) ?_;simp only[zz];refine yY rfl (fun u m=>((m.b 7 rfl).lies1 bN rfl)) ?_;simp only[zz];refine aH ((xQ (v:=xS p t x) (Sx _) rfl rfl)) (aH (aJ oW aX rfl rfl (by decide) (by decide) rfl) (aY ?_));clear m;intro u m;simp only[zz];refine gV m 4 rfl rfl rfl aX (jE rfl) ⟨rfl,rfl⟩ ?_;clear m;intro u m;simp only[zz,zy,zx,over,aa] at m;refine aL (k26 _ _ ?_);try clear k26 K26
             refine bL (aO rfl ((m.b 3 rfl).lies1 bN rfl) ?_);simp only[zz];refine aB (eL (m:=2) (n:=1) (r:=3) rfl rfl (by decide)) ?_;simp only[zz];refine gV m 3 rfl rfl rfl aX (jE rfl) ⟨rfl,rfl⟩ ?_;clear m;intro u m;simp only[zz,zy,zx,over,aa] at m;refine aL ?_
             first
             | (have hI:=Fq hc3;rw[show bG (((q.sub p).cross ((t.cor x).sub p)).dot ((t.cor ((x+1)%3)).sub p))=sY p q t x from (Do hI).symm] at m;exact hn _ _ ⟨m.toMem.sel [false,false,true,true,true,true,true,true,true,true,true,true],m.rx⟩ (fun k=>absurd k hI))
             | (have hI := vC hc3;rw[show bG (mH (xS p t x) (Bq t.normal))=sY p q t x from (Dn hI).symm] at m;exact hn _ _ ⟨m.toMem.sel [false, false, true, true, true, true, true, true, true, true, true, true], m.rx⟩ (fun hi k hk => by
              rcases bg.1 hk with hk | hk
              · exact hJ hi k hk
              · rw[ay.1 hk];exact hc4))
       · exact absurd hN (by simp)
     rotate_left
     · rintro D pre u hS ⟨hI,k,hk,ho⟩ m
       try simp only[cj,Exit.then]
       refine Xj (Wy.mk (m.get 0 rfl)) ?_;replace m:=m.putD (o':=.deferred none) 0 rfl;exact aQ rfl ⟨_,rfl,(m.b 1 rfl).lies1 mN rfl⟩ (⟨_,rfl,m.ext,by rw[←aoF hf hI (hS k hk) ho]⟩)
     rintro D xs u rfl hj m;simp only[afI,l3] at m;refine k15 _ _ ?_;try clear k15 K15
     refine aV fun K30 k30=>am (aO rfl ((m.b 3 rfl).full Qu Co) ?_);simp only[zz];refine kA m rfl rfl (ah0 (a:=sY p q t 0) (b:=sY p q t 1) (c:=sY p q t 2)) ?_;clear m;intro u m;simp only[zz];refine cK m 7 rfl rfl rfl dM (jE rfl) ⟨rfl,rfl⟩ ?_;clear m;intro u m;simp only[zz,zy,zx,over,aa] at m;refine aL (k30 _ _ ?_);try clear k30 K30
     refine wp_ret ?_;try simp only[cj,Exit.then,if_true]
     refine Xj (Wy.mk (m.get 0 rfl)) ?_;replace m:=m.putD (o':=.deferred none) 0 rfl;simp only[zF,zG] at m;refine aQ rfl ⟨_,rfl,((m.b 7 rfl).lies1 mN rfl)⟩ ?_;try simp only[zD,zE]
     exact⟨_,rfl,m.ext,by rw[amm hf hc2 hj]⟩
end Go.Proofs.YtfekpcimgncioaaGreatDoor
