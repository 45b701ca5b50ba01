/-
 Texts of one claim, laid together: RefG1, RefF, K41, K36, K42, K43, K44, K45, K34, Open5, K35, Open7, K76, K77, K46, K37, K38, K39, K40, K47, K48, K78, Join.
-/
import Derived.OpenVars
import Derived.OpenShut
import Derived.WalkKit
import Derived.ProofKit
import Derived.Test.YtfekpcimgncioaaGreatDoorCP8
open Nat renaming reduceAdd→aa,reduceMul→ag,le_refl→aq,zero_add→au,zero_le→cv
open Int renaming reduceToNat→ad,toNat_natCast→ah,reduceAdd→ak,tmod_eq_emod_of_nonneg→i_
open Go renaming Value→ai,World→aj,TypeId→az
open List renaming getElem?_eq_getElem→am,getElem?_eq_some_iff→ap,length_cons→av,length_append→aw,flatMap_append→ay,take_of_length_le→a_,mem_singleton→bf,mem_of_getElem?→bh,mem_append→bi,length_nil→bv,nil_append→b_,not_mem_nil→cg,cons_append→cn,append_nil→fa,mem_of_mem_take→ld
open Bool renaming and_eq_true→be,or_eq_true→ep,not_false→fh,eq_iff_iff→gv,or_eq_false_iff→ie,and_false→jg,not_not→pf
open Go.Value renaming bool→bn,okWide→oo,cells→qt
open Option.some renaming inj→fq
set_option maxHeartbeats 8000000
set_option linter.unusedSimpArgs false
set_option linter.unusedVariables false
set_option linter.unusedSectionVars false
namespace Go.Proofs.YtfekpcimgncioaaGreatDoor
open Go.Proofs.Tryz
open Go.RowKit Go.Lith
set_option maxRecDepth 100000
attribute [local irreducible] wpList wpQuiet gG bQ cO Code.wp
attribute [local congr] rC gX gY gZ iA iB lI iC iD iE iF iG iH iJ iK iL iM iN fJ fK iO iP iR iS iT lK dW dX cX dV iQ lJ fN fO fP iU iV lM
variable{q u a c d:P3}{t s:T3}{x y:Int}{w:aj}{T:az}{k cap:Nat}
theorem vI{p:P3}[I3 p][I3 q]:dT prog 214 [pt p,pt q] (wv (q.sub p)):=by
 intro w;refine⟨bK func214 (by kernel_rfl),?_⟩;have m:=Mem.refl w
 go_enter func214,ntmps214
 apply jP 7 [0] m;simp only[↓aD,Tb];intro g1 g2 g3 u m;refine eQ 8 [0,1,2,3,4,5,6] [⟨7,5,95,[.bool false,.string ⟨#[]⟩]⟩] aC (by kernel_rfl) (al1 ⟨_,_,_,O,by kernel_rfl,_,yR,O⟩) (ol:=?_) ?hol ?_
 case hol=>simp only[zw,zQ,zR];try rfl
 intro u e_;replace m:=m.ext' e_;refine jY (aV (c:=0) fT O aU O O) ?_;simp only[zz];refine eP O (fun u e=>(((m.ext' e).b 1 O).lies1 bD O)) ?_;simp only[zz];refine eV O O (Ev Iw.h) (jY (aV (c:=0) fT O aU O O) ?_);simp only[zz];refine eP O (fun u e=>(((m.ext' e).b 2 O).lies1 bD O)) ?_;simp only[zz];refine eV O O (Ev Iw.h) ?_;simp only[zz];refine eV O O (aaG Bw.up Bw.up) (Cb ?_);simp only[zz];refine mf1 m ?_;intro g4 u m;simp only[zJ,zK,zF,zG];refine bP m 0 O O O aQ (gV O) O ?_;intro u m;simp only[zy,zx,over,zF,zG,aa] at m;refine aM ?_;apply aW 1 [0] m;simp only[↓aD];refine eQ 8 [0,1,2,3,4,5,6] [⟨7,6,95,[.bool false,.string ⟨#[]⟩]⟩] aC (by kernel_rfl) (al1 ⟨_,_,_,O,by kernel_rfl,_,yR,O⟩) (ol:=?_) ?hol ?_
 case hol=>simp only[zw,zQ,zR];try rfl
 intro u e_;replace m:=m.ext' e_;refine jY (aV (c:=0) fT O aU O O) ?_;simp only[zz];refine eP O (fun u e=>(((m.ext' e).b 2 O).lies1 bD O)) ?_;simp only[zz];refine eV O O (Ev Iw.h) (jY (aV (c:=0) fT O aU O O) ?_);simp only[zz];refine eP O (fun u e=>(((m.ext' e).b 3 O).lies1 bD O)) ?_;simp only[zz];refine eV O O (Ev Iw.h) ?_;simp only[zz];refine eV O O (aaG Bw.up Bw.up) (Cb ?_);simp only[zz];refine mf1 m ?_;intro g5 u m;simp only[zJ,zK,zF,zG];refine bP m 0 O O O aQ (gV O) O ?_;intro u m;simp only[zy,zx,over,zF,zG,aa] at m;refine aM ?_;apply aW 1 [0] m;simp only[↓aD];refine eQ 8 [0,1,2,3,4,5,6] [⟨7,7,95,[.bool false,.string ⟨#[]⟩]⟩] aC (by kernel_rfl) (al1 ⟨_,_,_,O,by kernel_rfl,_,yR,O⟩) (ol:=?_) ?hol ?_
 case hol=>simp only[zw,zQ,zR];try rfl
 intro u e_;replace m:=m.ext' e_;refine jY (aV (c:=0) fT O aU O O) ?_;simp only[zz];refine eP O (fun u e=>(((m.ext' e).b 3 O).lies1 bD O)) ?_;simp only[zz];refine eV O O (Ev Iw.h) (jY (aV (c:=0) fT O aU O O) ?_);simp only[zz];refine eP O (fun u e=>(((m.ext' e).b 4 O).lies1 bD O)) ?_;simp only[zz];refine eV O O (Ev Iw.h) ?_;simp only[zz];refine eV O O (aaG Bw.up Bw.up) (Cb ?_);simp only[zz];refine mf1 m ?_;intro g6 u m;simp only[zJ,zK,zF,zG];refine bP m 0 O O O aQ (gV O) O ?_;intro u m;simp only[zy,zx,over,zF,zG,aa] at m;refine aM ?_;apply Rp 9 [2,1,0,3] m;simp only[↓aD,fD,aqC,ajJ,aa];intro u m;exact aT O ⟨_,O,((m.b 3 O).full Pe pC)⟩ ⟨_,O,m.ext,O⟩
theorem Uk{v:P3}(hu:Bv 400000 u)(hv:Bv 400000 v):dT prog 212 [wv u,wv v] (W (u.dot v)):=by
 intro w;refine⟨bK func212 (by kernel_rfl),?_⟩;have m:=Mem.refl w
 go_enter func212,ntmps212
 apply jP 7 [0] m;simp only[↓aD,nF];intro g1 g2 g3 u m;refine eQ 12 [0,1,2,3,4,5,6,7,8,9,10] [⟨11,5,95,[.bool false,.string ⟨#[]⟩]⟩] aC (by kernel_rfl) (al1 ⟨_,_,_,O,by kernel_rfl,_,yR,O⟩) (ol:=?_) ?hol ?_
 case hol=>simp only[zw,zQ,zR];try rfl
 intro u e_;replace m:=m.ext' e_;refine jY (aK Lf aQ O O (by decide) (by decide) O) ?_;simp only[zz];refine eP O (fun u e=>(((m.ext' e).b 2 O).lies cI aQ O O)) ?_;simp only[zz,zy,au,aa,ag,ad];refine jY (aK Lf aQ O O (by decide) (by decide) O) ?_;simp only[zz];refine eP O (fun u e=>(((m.ext' e).b 1 O).lies cI aQ O O)) ?_;simp only[zz,zy,au,aa,ag,ad];refine eV O O (Tp Bw.up Bw.up) (jY (aK Lf aQ O O (by decide) (by decide) O) ?_);simp only[zz];refine eP O (fun u e=>(((m.ext' e).b 2 O).lies cI aQ O O)) ?_;simp only[zz,zy,au,aa,ag,ad];refine jY (aK Lf aQ O O (by decide) (by decide) O) ?_;simp only[zz];refine eP O (fun u e=>(((m.ext' e).b 1 O).lies cI aQ O O)) ?_;simp only[zz,zy,au,aa,ag,ad];refine eV O O (Tp Bw.up Bw.up) ?_;simp only[zz];refine eV O O (aet Bw.up Bw.up) (Cb ?_);simp only[zz];refine mf1 m ?_;intro g4 u m;simp only[zJ,zK,zF,zG];refine bP m 0 O O O aQ (gV O) O ?_;intro u m;simp only[zy,zx,over,zF,zG,aa] at m;refine aM ?_;apply aW 1 [0] m;simp only[↓aD];refine cL m 7 aC (by kernel_rfl) ?_;simp only[zy];refine eC 5 [0,3,2] ?_;simp only[↓aD,fD,vE,ad,ag,aa];refine⟨by omega,?_⟩;refine eX O O (Tp Bw.up Bw.up) ?_;simp only[zz];refine eX O O (aet Bw.up Bw.up) (bC ?_);intro u m;simp only[zz];refine bP m 1 O O O aQ (gV O) O ?_;intro u m;simp only[zy,zx,over,zF,zG,aa] at m;refine aM ?_;apply aW 1 [] m;simp only[↓aD];exact aT O ⟨_,O,((m.b 1 O).full cI aQ)⟩ ⟨_,O,m.ext,O⟩
theorem Nd{a b c d:Int}(ha:Bd 400000 a)(hb:Bd 400000 b)(hc:Bd 400000 c)(hd:Bd 400000 d):dT prog 286 [W a,W b,W c,W d] (W (a*b-c*d)):=by
 intro w;refine⟨bK func286 (by kernel_rfl),?_⟩;have m:=Mem.refl w;haveI:Bw 400000 a:=⟨ha⟩;haveI:Bw 400000 b:=⟨hb⟩;haveI:Bw 400000 c:=⟨hc⟩;haveI:Bw 400000 d:=⟨hd⟩
 go_enter func286,ntmps286
 apply jP 9 [0] m;simp only[↓aD,nF];intro g1 g2 g3 g4 g5 u m;refine cL m 7 aC (by kernel_rfl) ?_;simp only[zy];refine ql O (fun u m=>((m.b 4 O).full cI aQ)) ?_;simp only[zz];refine ql O (fun u m=>((m.b 3 O).full cI aQ)) ?_;simp only[zz];refine eX O O (Tp Bw.up Bw.up) ?_;simp only[zz];refine ql O (fun u m=>((m.b 2 O).full cI aQ)) ?_;simp only[zz];refine ql O (fun u m=>((m.b 1 O).full cI aQ)) ?_;simp only[zz];refine eX O O (Tp Bw.up Bw.up) ?_;simp only[zz];refine eX O O (aaG Bw.up Bw.up) (bC ?_);intro u m;simp only[zz];refine bP m 0 O O O aQ (gV O) O ?_;intro u m;simp only[zy,zx,over,zF,zG,aa] at m;refine aM ?_;apply aW 1 [] m;simp only[↓aD];exact aT O ⟨_,O,((m.b 0 O).full cI aQ)⟩ ⟨_,O,m.ext,O⟩
theorem Ul{v:P3}(hu:Bv 400000 u)(hv:Bv 400000 v):dT prog 213 [wv u,wv v] (wv (u.cross v)):=by
 intro w;refine⟨bK func213 (by kernel_rfl),?_⟩;have m:=Mem.refl w
 go_enter func213,ntmps213
 apply jP 7 [0] m;simp only[↓aD,Tb];intro g1 g2 g3 u m;refine cL m 28 aC (by kernel_rfl) ?_;simp only[zy];refine eC 8 [2,1,2,1] ?_;simp only[↓aD,vE,fD,ad,ag,aa];refine⟨by omega,?_⟩;refine eX O O (Nd Bw.up Bw.up Bw.up Bw.up) (eC 8 [2,1,2,1] ?_);simp only[↓aD,vE,fD,ad,ag,aa];refine⟨by omega,?_⟩;refine eX O O (Nd Bw.up Bw.up Bw.up Bw.up) (eC 8 [2,1,2,1] ?_);simp only[↓aD,vE,fD,ad,ag,aa];refine⟨by omega,?_⟩;refine eX O O (Nd Bw.up Bw.up Bw.up Bw.up) (aG (Il O O O) (bC ?_));intro u m;simp only[zz];refine bP m 0 O O O pC (gV O) O ?_;intro u m;simp only[zy,zx,over,zF,zG,aa] at m;refine aM ?_;apply aW 1 [] m;simp only[↓aD];exact aT O ⟨_,O,((m.b 0 O).full Pe pC)⟩ ⟨_,O,m.ext,O⟩
theorem Yr[IT t]:dT prog 245 [tr t] (wv t.normal):=by
 intro w;refine⟨bK func245 (by kernel_rfl),?_⟩;have m:=Mem.refl w
 go_enter func245,ntmps245
 apply jP 6 [0] m;simp only[↓aD,Tb];intro g1 g2 u m;refine cL m 11 aC (by kernel_rfl) ?_;simp only[zy];refine eC 4 [1,1] ?_;simp only[↓aD,bT,aS,ad,ag,aa];refine⟨by omega,?_⟩;refine eX O O vI (eC 4 [1,1] ?_);simp only[↓aD,bT,aS,ad,ag,aa];refine⟨by omega,?_⟩;refine eX O O vI ?_;simp only[zz];refine eX O O (Ul Bv.of Bv.of) (bC ?_);intro u m;simp only[zz];refine bP m 0 O O O pC (gV O) O ?_;intro u m;simp only[zy,zx,over,zF,zG,aa] at m;refine aM ?_;apply aW 1 [] m;simp only[↓aD];exact aT O ⟨_,O,((m.b 0 O).full Pe pC)⟩ ⟨_,O,m.ext,O⟩
class Sr4(p:P3):Prop where
 x:p.x.natAbs≤262144
 y:p.y.natAbs≤262144
 z:p.z.natAbs≤262144
class Nr4(p:P3):Prop where
 x:p.x.natAbs≤524288
 y:p.y.natAbs≤524288
 z:p.z.natAbs≤524288
instance {p q:P3}[a:Sr4 p][b:Sr4 q]:Nr4 (p.sub q):=⟨by have:=a.x;have:=b.x;simp only[P3.sub];omega,by have:=a.y;have:=b.y;simp only[P3.sub];omega,by have:=a.z;have:=b.z;simp only[P3.sub];omega⟩
theorem mP{a b:Int}(ha:a.natAbs≤524288)(hb:b.natAbs≤524288) : -549755813888<a*b∧a*b<549755813888:=by
 have h:(a*b).natAbs≤524288*524288:=by rw[Int.natAbs_mul];exact Nat.mul_le_mul (by omega) (by omega)
 omega
theorem aeT(h : -549755813888<x∧x<549755813888)(k : -549755813888<y∧y<549755813888):IntKind.i64.wrap (x-y)=x-y:=bM (by omega) (by omega)
theorem Ey(h : -549755813888<x∧x<549755813888):IntKind.i64.wrap x=x:=bM (by omega) (by omega)
theorem apC{g:Nat}{b:P3}(hB:fR w g [.int .i64 a.x,.int .i64 a.y,.int .i64 a.z,.int .i64 b.x,.int .i64 b.y,.int .i64 b.z,.int .i64 c.x,.int .i64 c.y,.int .i64 c.z,.int .i64 d.x,.int .i64 d.y,.int .i64 d.z] T):vJ lA 3 w (some ⟨g,0,none⟩) 4 [a,b,c,d] :=
 ⟨rfl,fun i x hi=>⟨_,rfl,by
  rw[eD,au]
  match i,hi with
  | 0,h=>cases h;exact mX.pre (ys:=lA b++lA c++lA d) (hB.row 0)
  | 1,h=>cases h;exact mX.pre (ys:=lA c++lA d) (hB.row 3)
  | 2,h=>cases h;exact mX.pre (ys:=lA d) (hB.row 6)
  | 3,h=>cases h;exact hB.row 9⟩⟩
theorem al8{ps:List P3}{p:P3}(h:∀q∈ps.take k,Sr4 q)(hp:ps[k]? = some p)(h4:Sr4 p):∀q∈ps.take (k+1),Sr4 q:=fun q hq=>by
 rw[Wz hp] at hq;rcases bi.1 hq with hq | hq
 · exact h q hq
 · rw[bf.1 hq];exact h4
theorem Um{ps:List P3}{N:Nat}{A:Option Addr}(w:aj)(hP:vJ lA 3 w A N ps)(hN:N<4611686018427387904):dQ prog 207 [.slice A N cap] w (fun v _=>∃bo:Bool,v=.bool bo∧(bo=true→∀p∈ps,Sr4 p)):=by
 refine⟨bK func207 (by kernel_rfl),?_⟩;have m:=Mem.refl w
 go_enter func207,ntmps207
 apply fF 10 [0] m;simp only[↓aD];refine bX [3] [2,4,5,6,7,8,9,10,11,12,13,14,15,16,17,18,19,20,21,22,23,24,25,26,27,28,29,30,31,32,33,34,35,36,37,38,39,40,41,42] (fun n vs wl=>∃(k:Nat),vs=[.int .i64 (k:Int)]∧Mem w wl []∧(∀p∈ps.take k,Sr4 p)∧(k≤N)∧(n=N-k)) ?_ ?_
 ·
  exact⟨_,0,O,m,fun p h=>by simp at h,cv _,O⟩
 ·
  intro n vs wr hI u K1 hK1;obtain⟨k,rfl,m,hs,hk,hn⟩:=hI;simp only[zu,zF,zG];apply aJ 8 [0,0] m;simp only[↓aD,kZ];refine bG O ?_ ?_<;>intro hc1
  ·
   obtain⟨p,hp,a,rfl,hrow⟩:=hP.get (i:=k) (by omega);have hrow:mX w (a.add (k*3)) [.int .i64 p.x,.int .i64 p.y,.int .i64 p.z]:=hrow;apply aJ 7 [0] m;simp only[↓aD];refine aB (aF cT aA O O (by omega) (by omega) (cQ (ah _))) ?_;simp only[zz];refine aR O (((hrow.ext m.ext)).lies aH aA) ?_;simp only[zz];apply kD 9 [0,0,0,0] m;simp only[↓aD,eS,aS,gE,cY,aa];intro g1 u m;refine bB O (fun hb=>aV (c:=0) fT O aU O O) ?_;simp only[zz];refine cA O (fun hb=>aZ (aY hb O) ((m.b 0 O).lies1 bD O)) (bB O (fun hb=>rR (aY hb O) O) (aB (cE O O O) ?_));apply aL 1 [0] m;simp only[↓aD];refine bB O (fun hb=>aV (c:=0) fT O aU O O) ?_;simp only[zz];refine cA O (fun hb=>aZ (aY hb O) ((m.b 0 O).lies1 bD O)) (bB O (fun hb=>aa1 (aY hb O) O) (aB (cE O O O) ?_));apply aL 1 [0] m;simp only[↓aD];refine bB O (fun hb=>aV (c:=0) fT O aU O O) ?_;simp only[zz];refine cA O (fun hb=>aZ (aY hb O) ((m.b 0 O).lies1 bD O)) (bB O (fun hb=>rR (aY hb O) O) (aB (cE O O O) ?_));apply aL 1 [0] m;simp only[↓aD];refine bB O (fun hb=>aV (c:=0) fT O aU O O) ?_;simp only[zz];refine cA O (fun hb=>aZ (aY hb O) ((m.b 0 O).lies1 bD O)) (bB O (fun hb=>aa1 (aY hb O) O) (aB (cE O O O) ?_));apply aL 1 [0] m;simp only[↓aD];refine bB O (fun hb=>aV (c:=0) fT O aU O O) ?_;simp only[zz];refine cA O (fun hb=>aZ (aY hb O) ((m.b 0 O).lies1 bD O)) (bB O (fun hb=>rR (aY hb O) O) (aB (cE O O O) ?_));apply aL 1 [0] m;simp only[↓aD];refine gF O ?_ ?_<;>intro hc2
   ·
    apply aJ 5 [] m;simp only[↓aD];exact aT rfl rfl ⟨_,rfl,m.ext,false,rfl,fun h=>by cases h⟩
   ·
    have hp4:Sr4 p:=by
     simp only[ie,decide_eq_false_iff_not] at hc2;exact⟨by omega,by omega,by omega⟩
    apply aJ 7 [0] m;simp only[↓aD];refine⟨by omega,?_⟩;exact hK1 (N-(k+1)) _ _ (by omega) (by kernel_rfl) ⟨k+1,O,(m.sel [false]),al8 hs hp hp4,by omega,O⟩
  ·
   have e:ps.take k=ps:=a_ (by rw[hP.len];omega);rw[e] at hs;apply aJ 6 [] m;simp only[↓aD];exact aT O O ⟨_,O,m.ext,true,O,fun _=>hs⟩
theorem sN{p:P3}[hp:Sr4 p][hq:Sr4 q]:dT prog 209 [pt p,pt q] (nv (q.sub p)):=by
 intro w;refine⟨bK func209 (by kernel_rfl),?_⟩;have m:=Mem.refl w;have:=hp.x;have:=hp.y;have:=hp.z;have:=hq.x;have:=hq.y;have:=hq.z
 go_enter func209,ntmps209
 apply jP 27 [1,2,1,2,1,2,0] m;simp only[↓aD,xO,gE,cY,gI,iX,tE,vB,aa];intro g1 g2 g3;refine⟨by omega,?_⟩;intro u m;exact aT O ⟨_,O,((m.b 0 O).full uR jC)⟩ ⟨_,O,m.ext,O⟩
theorem Ks{v:P3}(hu:Nr4 u)(hv:Nr4 v):dT prog 208 [nv u,nv v] (nv (u.cross v)):=by
 intro w;refine⟨bK func208 (by kernel_rfl),?_⟩;have m:=Mem.refl w
 go_enter func208,ntmps208
 apply jP 12 [2,1,0] m;simp only[↓aD,xO,eW,cY,ad,ag,aa];intro g1 g2 g3;refine⟨by omega,?_⟩;intro u m;refine aB (lC O O (Ey (mP hu.y hv.z))) ?_;apply aL 4 [2,1,0] m;simp only[↓aD,eW,cY,ad,ag,aa];refine⟨by omega,?_⟩;refine aB (lC O O (Ey (mP hu.z hv.y))) (aB (Aw O O (aeT (mP hu.y hv.z) (mP hu.z hv.y))) ?_);apply aL 4 [2,1,0] m;simp only[↓aD,eW,cY,ad,ag,aa];refine⟨by omega,?_⟩;refine aB (lC O O (Ey (mP hu.z hv.x))) ?_;apply aL 4 [2,1,0] m;simp only[↓aD,eW,cY,ad,ag,aa];refine⟨by omega,?_⟩;refine aB (lC O O (Ey (mP hu.x hv.z))) (aB (Aw O O (aeT (mP hu.z hv.x) (mP hu.x hv.z))) ?_);apply aL 4 [2,1,0] m;simp only[↓aD,eW,cY,ad,ag,aa];refine⟨by omega,?_⟩;refine aB (lC O O (Ey (mP hu.x hv.y))) ?_;apply aL 4 [2,1,0] m;simp only[↓aD,eW,cY,ad,ag,aa];refine⟨by omega,?_⟩;refine aB (lC O O (Ey (mP hu.y hv.x))) (aB (Aw O O (aeT (mP hu.x hv.y) (mP hu.y hv.x))) ?_);apply kD 4 [0] m;simp only[↓aD,tE,vB,aa];intro u m;exact aT O ⟨_,O,((m.b 0 O).full uR jC)⟩ ⟨_,O,m.ext,O⟩
theorem Ez{n:Int}:dT prog 210 [.int .i64 n] (.int .i64 (bA n)):=by
 intro w;refine⟨bK func210 (by kernel_rfl),?_⟩;have m:=Mem.refl w
 go_enter func210,ntmps210
 apply fF 10 [0,0] m;simp only[↓aD];refine bG O ?_ ?_<;>intro hc1
 ·
  apply aJ 5 [] m;simp only[↓aD];refine aT O O ?_;try simp only[zD,zE]
  exact⟨_,O,m.ext,by rw[Dz (by assumption)]⟩
 ·
  apply aJ 7 [0,0] m;simp only[↓aD];refine bG O ?_ ?_<;>intro hc2
  ·
   apply aJ 5 [] m;simp only[↓aD];refine aT O O ?_;try simp only[zD,zE]
   exact⟨_,O,m.ext,by rw[Ea (by assumption)]⟩
  ·
   apply aJ 6 [] m;simp only[↓aD];refine aT O O ?_;try simp only[zD,zE]
   exact⟨_,O,m.ext,by rw[show n=0 by omega];rfl⟩
theorem Un{b:P3}[I3 a][I3 b][I3 c][I3 d]:dT prog 206 [pt a,pt b,pt c,pt d] (sg ((b.sub a).cross (d.sub c))):=by
 intro w;refine⟨bK func206 (by kernel_rfl),?_⟩;have m:=Mem.refl w
 go_enter func206,ntmps206
 apply jP 14 [4,3,2,1,0] m;simp only[↓aD,xO,aS];intro g1 g2 g3 g4 g5 u m;refine Ei O O O O ?_;intro u g6 e_ h_ k_;replace m:=m.newB e_ h_ k_;simp only[zz];refine dM m O O (Um (ps:=[a,b,c,d]) _ (apC (m.b 0 O)) (by decide)) ?_;rintro v u m ⟨bo,rfl,hsm⟩;apply aL 7 [0] m;simp only[↓aD];refine gF O ?_ ?_<;>intro hc1
 ·
  have hs4:=hsm hc1;haveI:=hs4 a (by simp);haveI:=hs4 b (by simp);haveI:=hs4 c (by simp);haveI:=hs4 d (by simp);apply aJ 1 [0] m;simp only[↓aD];refine eQ 8 [0,1,2,3,4,5,6] [⟨7,10,36,[.int .i64 0,.int .i64 0,.int .i64 0]⟩] aC (by kernel_rfl) (al1 ⟨_,_,_,O,by kernel_rfl,_,Ed,O⟩) (ol:=?_) ?hol ?_
  case hol=>simp only[zw,zQ,zR];try rfl
  intro u e_;replace m:=m.ext' e_;refine eP O (fun u e=>(((m.ext' e).b 5 O).full aH aA)) ?_;simp only[zz];refine eP O (fun u e=>(((m.ext' e).b 4 O).full aH aA)) ?_;simp only[zz];refine eV O O sN ?_;simp only[zz];refine eP O (fun u e=>(((m.ext' e).b 3 O).full aH aA)) ?_;simp only[zz];refine eP O (fun u e=>(((m.ext' e).b 2 O).full aH aA)) ?_;simp only[zz];refine eV O O sN ?_;simp only[zz];refine eV O O (Ks inferInstance inferInstance) (Cb ?_);simp only[zz];refine mf1 m ?_;intro g7 u m;simp only[zJ,zK,zF,zG];refine bP m 0 O O O jC (gV O) O ?_;intro u m;simp only[zy,zx,over,zF,zG,aa] at m;refine aM ?_;apply aW 1 [0] m;simp only[↓aD];refine cL m 10 aC (by kernel_rfl) ?_;simp only[zy];refine eC 2 [0] ?_;simp only[↓aD,eW,cY,ad,ag,aa];refine⟨by omega,?_⟩;refine eX O O Ez (eC 2 [0] ?_);simp only[↓aD,eW,cY,ad,ag,aa];refine⟨by omega,?_⟩;refine eX O O Ez (eC 2 [0] ?_);simp only[↓aD,eW,cY,ad,ag,aa];refine⟨by omega,?_⟩;refine eX O O Ez (aG (xG O O O) (bC ?_));intro u m;simp only[zz];refine bP m 2 O O O jC (gV O) O ?_;intro u m;simp only[zy,zx,over,zF,zG,aa] at m;refine aM ?_;apply aW 1 [] m;simp only[↓aD];exact aT O ⟨_,O,((m.b 2 O).full uR jC)⟩ ⟨_,O,m.ext,O⟩
 ·
  apply aJ 2 [0] m;simp only[↓aD];refine eQ 8 [0,1,2,3,4,5,6] [⟨7,11,257,[.bool false,.string ⟨#[]⟩,.bool false,.string ⟨#[]⟩,.bool false,.string ⟨#[]⟩]⟩] aC (by kernel_rfl) (al1 ⟨_,_,_,O,by kernel_rfl,_,abn,O⟩) (ol:=?_) ?hol ?_
  case hol=>simp only[zw,zQ,zR];try rfl
  intro u e_;replace m:=m.ext' e_;refine eP O (fun u e=>(((m.ext' e).b 5 O).full aH aA)) ?_;simp only[zz];refine eP O (fun u e=>(((m.ext' e).b 4 O).full aH aA)) ?_;simp only[zz];refine eV O O vI ?_;simp only[zz];refine eP O (fun u e=>(((m.ext' e).b 3 O).full aH aA)) ?_;simp only[zz];refine eP O (fun u e=>(((m.ext' e).b 2 O).full aH aA)) ?_;simp only[zz];refine eV O O vI ?_;simp only[zz];refine eV O O (Ul Bv.of Bv.of) (Cb ?_);simp only[zz];refine mf1 m ?_;intro g7 u m;simp only[zJ,zK,zF,zG];refine bP m 0 O O O pC (gV O) O ?_;intro u m;simp only[zy,zx,over,zF,zG,aa] at m;refine aM ?_;apply aW 1 [0] m;simp only[↓aD];refine cL m 10 aC (by kernel_rfl) ?_;simp only[zy];refine eC 2 [0] ?_;simp only[↓aD,vE,fD,ad,ag,aa];refine⟨by omega,?_⟩;refine eX O O (Kc Bw.up) (eC 2 [0] ?_);simp only[↓aD,vE,fD,ad,ag,aa];refine⟨by omega,?_⟩;refine eX O O (Kc Bw.up) (eC 2 [0] ?_);simp only[↓aD,vE,fD,ad,ag,aa];refine⟨by omega,?_⟩;refine eX O O (Kc Bw.up) (aG (xG O O O) (bC ?_));intro u m;simp only[zz];refine bP m 2 O O O jC (gV O) O ?_;intro u m;simp only[zy,zx,over,zF,zG,aa] at m;refine aM ?_;apply aW 1 [] m;simp only[↓aD];exact aT O ⟨_,O,((m.b 2 O).full uR jC)⟩ ⟨_,O,m.ext,O⟩
theorem gJ{b:P3}[I3 a][I3 b][I3 c]:dT prog 140 [pt a,pt b,pt c] (sg ((b.sub a).cross (c.sub a))):=by
 intro w;refine⟨bK func140 (by kernel_rfl),?_⟩;have m:=Mem.refl w
 go_enter func140,ntmps140
 apply jP 13 [3,2,3,1,0] m;simp only[↓aD,xO,aS];intro g1 g2 g3 g4 u m;refine nV m O O Un 3 [0] ?_;simp only[↓aD,vB,aa];intro u m;exact aT O ⟨_,O,((m.b 0 O).full uR jC)⟩ ⟨_,O,m.ext,O⟩
theorem Qe[IT t]:dT prog 137 [tr t] (.bool (decide (bA t.normal.x=0∧bA t.normal.y=0∧bA t.normal.z=0))):=by
 intro w;refine⟨bK func137 (by kernel_rfl),?_⟩;have m:=Mem.refl w
 go_enter func137,ntmps137
 apply jP 13 [0,0,0,0] m;simp only[↓aD,bT,aS,ad,ag,aa];intro g1;refine⟨by omega,?_⟩;intro u m;refine nV m O O (gJ (a:=t.a) (b:=t.b) (c:=t.c)) 1 [0] ?_;simp only[↓aD,tE,aa];intro u m;refine aB (Eh O O) ?_;apply aL 3 [] m;simp only[↓aD];exact aT O O ⟨_,O,m.ext,O⟩
theorem crB{v:P3}[a:Nr4 u][b:Nr4 v]:(u.cross v).x.natAbs≤1099511627776∧(u.cross v).y.natAbs≤1099511627776∧(u.cross v).z.natAbs≤1099511627776:=by
 have h1:=mP a.y b.z;have h2:=mP a.z b.y;have h3:=mP a.z b.x;have h4:=mP a.x b.z;have h5:=mP a.x b.y;have h6:=mP a.y b.x;simp only[P3.cross];refine⟨?_,?_,?_⟩ <;> omega
theorem acR{a b:Int}(ha:a.natAbs≤1099511627776)(hb:b.natAbs≤524288) : -1152921504606846976≤a*b∧a*b≤1152921504606846976:=by
 have h:(a*b).natAbs≤1099511627776*524288:=by rw[Int.natAbs_mul];exact Nat.mul_le_mul ha hb
 omega
theorem al9(h : -1152921504606846976≤x∧x≤1152921504606846976):IntKind.i64.wrap x=x:=bM (by omega) (by omega)
theorem ar2(h : -1152921504606846976≤x∧x≤1152921504606846976)(k : -1152921504606846976≤y∧y≤1152921504606846976):IntKind.i64.wrap (x+y)=x+y:=bM (by omega) (by omega)
theorem ar3{z:Int}(h : -1152921504606846976≤x∧x≤1152921504606846976)(k : -1152921504606846976≤y∧y≤1152921504606846976)(l : -1152921504606846976≤z∧z≤1152921504606846976):IntKind.i64.wrap (x+y+z)=x+y+z:=bM (by omega) (by omega)
theorem nK{b:P3}[I3 a][I3 b][I3 c][I3 d]:dT prog 141 [pt a,pt b,pt c,pt d] (.int .i64 (bA (mV a b c d))):=by
 intro w;refine⟨bK func141 (by kernel_rfl),?_⟩;have m:=Mem.refl w
 go_enter func141,ntmps141
 apply jP 14 [3,2,1,0,0] m;simp only[↓aD,aS];intro g1 g2 g3 g4 u m;refine Ei O O O O ?_;intro u g5 e_ h_ k_;replace m:=m.newB e_ h_ k_;simp only[zz];refine dM m O O (Um (ps:=[a,b,c,d]) _ (apC (m.b 0 O)) (by decide)) ?_;rintro v u m ⟨bo,rfl,hsm⟩;apply aL 7 [0] m;simp only[↓aD];refine gF O ?_ ?_<;>intro hc1
 ·
  have hs4:=hsm hc1;haveI:=hs4 a (by simp);haveI:=hs4 b (by simp);haveI:=hs4 c (by simp);haveI:=hs4 d (by simp);apply aJ 1 [0] m;simp only[↓aD];refine eQ 8 [0,1,2,3,4,5,6] [⟨7,10,36,[.int .i64 0,.int .i64 0,.int .i64 0]⟩] aC (by kernel_rfl) (al1 ⟨_,_,_,O,by kernel_rfl,_,Ed,O⟩) (ol:=?_) ?hol ?_
  case hol=>simp only[zw,zQ,zR];try rfl
  intro u e_;replace m:=m.ext' e_;refine eP O (fun u e=>(((m.ext' e).b 4 O).full aH aA)) ?_;simp only[zz];refine eP O (fun u e=>(((m.ext' e).b 3 O).full aH aA)) ?_;simp only[zz];refine eV O O sN ?_;simp only[zz];refine eP O (fun u e=>(((m.ext' e).b 4 O).full aH aA)) ?_;simp only[zz];refine eP O (fun u e=>(((m.ext' e).b 2 O).full aH aA)) ?_;simp only[zz];refine eV O O sN ?_;simp only[zz];refine eV O O (Ks inferInstance inferInstance) (Cb ?_);simp only[zz];refine mf1 m ?_;intro g6 u m;simp only[zJ,zK,zF,zG];refine bP m 0 O O O jC (gV O) O ?_;intro u m;simp only[zy,zx,over,zF,zG,aa] at m;refine aM ?_;apply aW 4 [5,2,0] m;simp only[↓aD,aS];refine nV m O O sN 9 [0,1,0,0] ?_;simp only[↓aD,xO,vB,eW,cY,aa,ad,ag];intro g7;refine⟨by omega,?_⟩;intro u m;refine aB (lC O O (al9 (acR (crB (u:=(b.sub a)) (v:=(c.sub a))).1 (show Nr4 (d.sub a) from inferInstance).x))) ?_;apply aL 4 [1,0,0] m;simp only[↓aD,eW,cY,ad,ag,aa];refine⟨by omega,?_⟩;refine aB (lC O O (al9 (acR (crB (u:=(b.sub a)) (v:=(c.sub a))).2.1 (show Nr4 (d.sub a) from inferInstance).y))) (aB (fB O O (ar2 (acR (crB (u:=(b.sub a)) (v:=(c.sub a))).1 (show Nr4 (d.sub a) from inferInstance).x) (acR (crB (u:=(b.sub a)) (v:=(c.sub a))).2.1 (show Nr4 (d.sub a) from inferInstance).y))) ?_);apply aL 4 [1,0,0] m;simp only[↓aD,eW,cY,ad,ag,aa];refine⟨by omega,?_⟩;refine aB (lC O O (al9 (acR (crB (u:=(b.sub a)) (v:=(c.sub a))).2.2 (show Nr4 (d.sub a) from inferInstance).z))) (aB (fB O O (ar3 (acR (crB (u:=(b.sub a)) (v:=(c.sub a))).1 (show Nr4 (d.sub a) from inferInstance).x) (acR (crB (u:=(b.sub a)) (v:=(c.sub a))).2.1 (show Nr4 (d.sub a) from inferInstance).y) (acR (crB (u:=(b.sub a)) (v:=(c.sub a))).2.2 (show Nr4 (d.sub a) from inferInstance).z))) ?_);simp only[zz];refine nV m O O Ez 3 [] ?_;simp only[↓aD];intro u m;exact aT O O ⟨_,O,m.ext,O⟩
 ·
  apply aJ 2 [0] m;simp only[↓aD];refine mq m aC (by kernel_rfl) (ql O (fun u m=>((m.b 4 O).full aH aA)) ?_);simp only[zz];refine ql O (fun u m=>((m.b 3 O).full aH aA)) ?_;simp only[zz];refine eX O O vI ?_;simp only[zz];refine ql O (fun u m=>((m.b 4 O).full aH aA)) ?_;simp only[zz];refine ql O (fun u m=>((m.b 2 O).full aH aA)) ?_;simp only[zz];refine eX O O vI ?_;simp only[zz];refine eX O O (Ul Bv.of Bv.of) ?_;simp only[zz];refine ql O (fun u m=>((m.b 4 O).full aH aA)) ?_;simp only[zz];refine ql O (fun u m=>((m.b 1 O).full aH aA)) ?_;simp only[zz];refine eX O O vI ?_;simp only[zz];refine eX O O (Uk Bv.of Bv.of) ?_;simp only[zz];refine eX O O (Kc Bw.up) (aG aO (bC ?_));intro u m;apply aW 1 [] m;simp only[↓aD];exact aT O O ⟨_,O,m.ext,O⟩
theorem ar4{p:P3}:(decide (p.x=t.a.x∧p.y=t.a.y∧p.z=t.a.z)||decide (p.x=t.b.x∧p.y=t.b.y∧p.z=t.b.z)||decide (p.x=t.c.x∧p.y=t.c.y∧p.z=t.c.z))=t.has p:=by
 have e:∀p q:P3,(p.x=q.x∧p.y=q.y∧p.z=q.z)↔p=q:=fun p q=>⟨fun h=>P3.eq h.1 h.2.1 h.2.2,fun h=>by rw[h];exact⟨O,O,O⟩⟩
 rw[gv,mR];simp only[ep,decide_eq_true_eq,e,or_assoc]
theorem ama(p q:P3):(if p.Lt q then q else p)=oC p q:=by
 unfold oC;rcases lt_tri p q with h | h | h
 · rw[if_pos h,if_neg (lt_asymm h)]
 · subst h;simp[P3.lt_irrefl]
 · rw[if_neg (lt_asymm h),if_pos h]
theorem auD{p:P3}{b:Bool}(hb:decide (q.Lt p)=b)(h:b=true):mY p q=q:=by subst hb;exact if_pos (of_decide_eq_true h)
theorem auE{p:P3}{b:Bool}(hb:decide (q.Lt p)=b)(h:b=false):mY p q=p:=by subst hb;exact if_neg (of_decide_eq_false h)
theorem atL{p:P3}{b:Bool}(hb:decide (p.Lt q)=b)(h:b=true):oC p q=q:=by subst hb;rw[←ama];exact if_pos (of_decide_eq_true h)
theorem atN{p:P3}{b:Bool}(hb:decide (p.Lt q)=b)(h:b=false):oC p q=p:=by subst hb;rw[←ama];exact if_neg (of_decide_eq_false h)
theorem sO{α β:Type}{f:β→α→β}{z:β}{l:List α}{x:α}(h:l[k]? = some x):(l.take (k+1)).foldl f z=f ((l.take k).foldl f z) x:=by rw[cJ h,List.foldl_append];rfl
theorem Ys{x:P3}{xs:List P3}{N:Nat}{a:Addr}(w:aj)(hL:vJ dF 3 w (some a) N (x::xs))(hN:N≤100):dQ prog 203 [.slice (some a) N cap] w (fun v _=>v=.tuple #[pt (xs.foldl mY x),pt (xs.foldl oC x)]):=by
 refine⟨bK func203 (by kernel_rfl),?_⟩;have m:=Mem.refl w;have hxl:=hL.len;simp only[av] at hxl;have hrow0:mX w (a.add (0*3)) (dF x):=hL.at (i:=0) rfl
 go_enter func203,ntmps203
 apply jP 8 [0] m;simp only[↓aD,eS];intro g1 g2 u m;refine aB (aF cT aA O O (by decide) (by omega) O) ?_;simp only[zz];refine aR O (show fZ _ _ _ _ (pt x) from (show mX _ _ (dF x) from (hrow0.ext m.ext)).lies aH aA) ?_;simp only[zz];apply kD 6 [0,0] m;simp only[↓aD,eS,aS,aa];intro g3 u m;refine aB (aF cT aA O O (by decide) (by omega) O) ?_;simp only[zz];refine aR O (show fZ _ _ _ _ (pt x) from (show mX _ _ (dF x) from (hrow0.ext m.ext)).lies aH aA) ?_;simp only[zz];apply kD 9 [0,0] m;simp only[↓aD,eS,aS,aa];intro g4 u m;refine bX [6] [7,8,15,16,17,18,19,20,21,22,23,24,25,26,27,28,29,30,31,32,33,34,35,36,37,38,39,40,41,42] (fun n vs wl=>∃(k:Nat),vs=[.int .i64 ((k+1:Nat):Int)]∧Mem w wl [bI g4 [.int .i64 ((xs.take k).foldl oC x).x,.int .i64 ((xs.take k).foldl oC x).y,.int .i64 ((xs.take k).foldl oC x).z] 30,bI g3 [.int .i64 ((xs.take k).foldl mY x).x,.int .i64 ((xs.take k).foldl mY x).y,.int .i64 ((xs.take k).foldl mY x).z] 30,bI g2 [.int .i64 0,.int .i64 0,.int .i64 0] 30,bI g1 [.int .i64 0,.int .i64 0,.int .i64 0] 30]∧(k≤xs.length)∧(n=xs.length-k)) ?_ ?_
 ·
  exact⟨_,0,O,m,cv _,O⟩
 · intro n vs wr hI u K1 hK1
   obtain⟨k,rfl,m,hk,hn⟩:=hI;simp only[zu,zF,zG];apply aJ 8 [0,0] m;simp only[↓aD,kZ];refine bG O ?_ ?_<;>intro hc1
   ·
    have hkl:k<xs.length:=by omega
    obtain⟨y,hy⟩:∃y,xs[k]? = some y:=⟨_,am hkl⟩
    have hrow:mX w (a.add ((k+1)*3)) (dF y):=hL.at (i:=k+1) (by rw[List.getElem?_cons_succ];exact hy);apply aJ 4 [0] m;simp only[↓aD];refine mq m aC (by kernel_rfl) (aG aI (aG aI ?_));simp only[zz];refine aG (aF cT aA O O (by omega) (by omega) (cQ (ah _))) ?_;simp only[zz];refine ql O (fun u m=>(show fZ _ _ _ _ (pt y) from (hrow.ext m.ext).lies aH aA)) ?_;simp only[zz];refine ql O (fun u m=>((m.b 1 O).full aH aA)) ?_;simp only[zz];refine eX O O (nQ (p:=y) (q:=(xs.take k).foldl mY x)) (aG aO (bC ?_));intro u m;apply aW 1 [0] m;simp only[↓aD];refine mq m aC (by kernel_rfl) (eC 3 [0] ?_);simp only[↓aD,aS];refine aG (aF cT aA O O (by omega) (by omega) (cQ (ah _))) ?_;simp only[zz];refine ql O (fun u m=>(show fZ _ _ _ _ (pt y) from (hrow.ext m.ext).lies aH aA)) ?_;simp only[zz];refine eX O O (nQ (p:=(xs.take k).foldl oC x) (q:=y)) (aG aO (bC ?_));intro u m;apply aW 5 [0] m;simp only[↓aD];refine dK O ?_ ?_<;>intro hc2
    ·
     have hlo:=auD rfl hc2;apply aJ 3 [0] m;simp only[↓aD];refine aB (aF cT aA O O (by omega) (by omega) (cQ (ah _))) ?_;simp only[zz];refine aR O (show fZ _ _ _ _ (pt y) from (hrow.ext m.ext).lies aH aA) ?_;simp only[zz];apply kD 6 [1,0] m;simp only[↓aD,aS,aa];intro u m;refine dK O ?_ ?_<;>intro hc3
     ·
      have hhi:=atL rfl hc3;apply aJ 3 [0] m;simp only[↓aD];refine aB (aF cT aA O O (by omega) (by omega) (cQ (ah _))) ?_;simp only[zz];refine aR O (show fZ _ _ _ _ (pt y) from (hrow.ext m.ext).lies aH aA) ?_;simp only[zz];apply kD 8 [0,0] m;simp only[↓aD,aS,aa];refine⟨by omega,?_⟩;intro u m;have e1:=sO (f:=mY) (z:=x) hy;have e2:=sO (f:=oC) (z:=x) hy;rw[hlo] at e1;rw[hhi] at e2;exact hK1 (xs.length-(k+1)) _ _ (by omega) (by kernel_rfl) ⟨k+1,O,((m.re 1 O ((by rw[e1];exact (m.b 1 O)))).re 0 O ((by rw[e2];exact (m.b 0 O)))),by omega,O⟩
     ·
      have hhi:=atN rfl hc3;apply aJ 7 [0] m;simp only[↓aD];refine⟨by omega,?_⟩;have e1:=sO (f:=mY) (z:=x) hy;have e2:=sO (f:=oC) (z:=x) hy;rw[hlo] at e1;rw[hhi] at e2;exact hK1 (xs.length-(k+1)) _ _ (by omega) (by kernel_rfl) ⟨k+1,O,((m.re 1 O ((by rw[e1];exact (m.b 1 O)))).re 0 O ((by rw[e2];exact (m.b 0 O)))),by omega,O⟩
    ·
     have hlo:=auE rfl hc2;apply aJ 5 [0] m;simp only[↓aD];refine dK O ?_ ?_<;>intro hc3
     ·
      have hhi:=atL rfl hc3;apply aJ 3 [0] m;simp only[↓aD];refine aB (aF cT aA O O (by omega) (by omega) (cQ (ah _))) ?_;simp only[zz];refine aR O (show fZ _ _ _ _ (pt y) from (hrow.ext m.ext).lies aH aA) ?_;simp only[zz];apply kD 8 [0,0] m;simp only[↓aD,aS,aa];refine⟨by omega,?_⟩;intro u m;have e1:=sO (f:=mY) (z:=x) hy;have e2:=sO (f:=oC) (z:=x) hy;rw[hlo] at e1;rw[hhi] at e2;exact hK1 (xs.length-(k+1)) _ _ (by omega) (by kernel_rfl) ⟨k+1,O,((m.re 1 O ((by rw[e1];exact (m.b 1 O)))).re 0 O ((by rw[e2];exact (m.b 0 O)))),by omega,O⟩
     ·
      have hhi:=atN rfl hc3;apply aJ 7 [0] m;simp only[↓aD];refine⟨by omega,?_⟩;have e1:=sO (f:=mY) (z:=x) hy;have e2:=sO (f:=oC) (z:=x) hy;rw[hlo] at e1;rw[hhi] at e2;exact hK1 (xs.length-(k+1)) _ _ (by omega) (by kernel_rfl) ⟨k+1,O,((m.re 1 O ((by rw[e1];exact (m.b 1 O)))).re 0 O ((by rw[e2];exact (m.b 0 O)))),by omega,O⟩
   ·
    obtain rfl:k=xs.length:=by omega
    rw[a_ (aq _)] at m;apply aJ 2 [0] m;simp only[↓aD];refine zvt [true,true,false,false] [[1],[0],[3],[2]] (.take 0 (.take 1 (.one 2 (.one 3 .nil)))) m aC (by kernel_rfl) (bU (fun _ _ _ _ _ h=>h)) ?_;simp only[↓aD,↓zzu,aS,aa];intro u m;apply aW 1 [] m;simp only[↓aD];exact yE O ⟨_,O,((m.b 3 O).full aH aA)⟩ ⟨_,O,((m.b 2 O).full aH aA)⟩ ⟨_,O,m.ext,O⟩
theorem auF{v:P3}(h:bA v.x≠0):iZ v=0:=if_pos fun e=>h (bZ.2 e)
theorem auG{v:P3}(e:¬bA v.x≠0)(h:bA v.y≠0):iZ v=1:=by
 have e1:=bZ.1 (Classical.not_not.1 e);unfold iZ;rw[if_neg (fun k=>k e1),if_pos fun e=>h (bZ.2 e)]
theorem auH{v:P3}(e:¬bA v.x≠0)(f:¬bA v.y≠0)(h:bA v.z≠0):iZ v=2:=by
 have e1:=bZ.1 (Classical.not_not.1 e);have e2:=bZ.1 (Classical.not_not.1 f);unfold iZ;rw[if_neg (fun k=>k e1),if_neg (fun k=>k e2),if_pos fun e=>h (bZ.2 e)]
theorem auI{v:P3}(e:¬bA v.x≠0)(f:¬bA v.y≠0)(h:¬bA v.z≠0):iZ v=3:=by
 have e1:=bZ.1 (Classical.not_not.1 e);have e2:=bZ.1 (Classical.not_not.1 f);have e3:=bZ.1 (Classical.not_not.1 h);unfold iZ;rw[if_neg (fun k=>k e1),if_neg (fun k=>k e2),if_neg (fun k=>k e3)]
theorem Au  : decide (bA t.normal.x=0∧bA t.normal.y=0∧bA t.normal.z=0)=fV t:=by
 unfold fV;refine decide_eq_decide.2 ?_;simp only[bZ];show _↔¬iZ t.normal<3
 unfold iZ;constructor
 · rintro⟨h1,h2,h3⟩;simp[h1,h2,h3]
 · intro h
   by_cases h1:t.normal.x=0 <;> by_cases h2:t.normal.y=0 <;> by_cases h3:t.normal.z=0 <;> simp[h1,h2,h3] at h ⊢
theorem atP{g:Nat}{b:P3}(hB:fR w g [.int .i64 a.x,.int .i64 a.y,.int .i64 a.z,.int .i64 b.x,.int .i64 b.y,.int .i64 b.z] T):vJ dF 3 w (some ⟨g,0,none⟩) 2 [a,b] :=
 ⟨rfl,fun i x hi=>⟨_,rfl,by
  rw[eD,au]
  match i,hi with
  | 0,h=>cases h;exact mX.pre (ys:=lA b) (hB.row 0)
  | 1,h=>cases h;exact hB.row 3⟩⟩
theorem af7{p:P3}{g:Nat}(w:aj)(hL:vJ dF 3 w (some ⟨g,0,none⟩) 2 [p,q]):dQ prog 203 [.slice (some ⟨g,0,none⟩) 2 cap] w fun v _=>v=.tuple #[pt (mY p q),pt (oC p q)]:=Ys (x:=p) (xs:=[q]) w hL (by decide)
theorem Yt{v:P3}:dT prog 285 [sg v] (.int .i64 ((iZ v:Nat):Int)):=by
 intro w;refine⟨bK func285 (by kernel_rfl),?_⟩;have m:=Mem.refl w
 go_enter func285,ntmps285
 apply jP 30 [4,1,0,0,0] m;simp only[↓aD,eW,cY,ad,ag,aa];intro g1;refine⟨by omega,?_⟩;intro u m;refine bG O ?_ ?_<;>intro hc2
 ·
  have h0:=hc2;apply aJ 6 [] m;simp only[↓aD];refine aT O O ?_;try simp only[zD,zE]
  exact⟨_,O,m.ext,by rw[auF h0];rfl⟩
 ·
  have h0:=hc2;apply aJ 25 [1,0,0,0] m;simp only[↓aD,eW,cY,ak,ad,ag,aa];refine⟨by omega,?_⟩;refine bG O ?_ ?_<;>intro hc2
  ·
   have h1:=hc2;apply aJ 6 [] m;simp only[↓aD];refine aT O O ?_;try simp only[zD,zE]
   exact⟨_,O,m.ext,by rw[auG h0 h1];rfl⟩
  ·
   have h1:=hc2;apply aJ 25 [1,0,0,0] m;simp only[↓aD,eW,cY,ak,ad,ag,aa];refine⟨by omega,?_⟩;refine bG O ?_ ?_<;>intro hc2
   ·
    have h2:=hc2;apply aJ 6 [] m;simp only[↓aD];refine aT O O ?_;try simp only[zD,zE]
    exact⟨_,O,m.ext,by rw[auH h0 h1 h2];rfl⟩
   ·
    have h2:=hc2;apply aJ 21 [2] m;simp only[↓aD,ak];refine⟨by omega,?_⟩;refine aT O O ?_;try simp only[zD,zE]
    exact⟨_,O,m.ext,by rw[auI h0 h1 h2];rfl⟩
theorem Av{p r s:P3}[I3 p][I3 q][I3 r][I3 s]:dT prog 204 [pt p,pt q,pt r,pt s] (.bool (eO p q r s)):=by
 intro w;refine⟨bK func204 (by kernel_rfl),?_⟩;have m:=Mem.refl w
 go_enter func204,ntmps204
 apply jP 8 [] m;simp only[↓aD];intro g1 g2 g3 g4 u m;apply aW 6 [3,2,1,0,0] m;simp only[↓aD,aS];refine kO m O O (Un (a:=p) (b:=q) (c:=r) (d:=s)) ?_;intro u m;simp only[zz];refine nV m O O (Yt (v:=uY p q r s)) 4 [] ?_;simp only[↓aD];intro u m;by_cases hf:Z3 (uY p q r s)
 ·
  have hax:=alc hf;apply aW 10 [2,3,2,0] m;simp only[↓aD,aS];refine⟨by omega,?_⟩;refine Ws O O ?_;intro u g5 e_ h_ k_;replace m:=m.newB e_ h_ k_;simp only[zz];refine dM m O O (af7 (p:=p) (q:=q) _ (atP (m.b 0 O))) ?_;rintro v u m rfl;apply kD 8 [1,0] m;simp only[↓aD,eS,aS,aa];intro g6 g7 u m;apply aW 4 [4,3,0] m;simp only[↓aD,aS];refine Ws O O ?_;intro u g8 e_ h_ k_;replace m:=m.newB e_ h_ k_;simp only[zz];refine dM m O O (af7 (p:=r) (q:=s) _ (atP (m.b 0 O))) ?_;rintro v u m rfl;apply kD 8 [1,0] m;simp only[↓aD,eS,aS,aa];intro g9 g10 u m;apply aW 6 [4,3,1] m;simp only[↓aD,aS,qT,aa];apply Rp 6 [0] m;simp only[↓aD,nX,eL,aa];intro g11 u m;apply aW 2 [5,4,0] m;simp only[↓aD,aS];refine aB (cK O O) ?_;apply aL 1 [0] m;simp only[↓aD];refine jL m 0 [] [89,90,91,92] (fun vs i=>vs=[]∧i=bI g11 [.int .i64 (lU p q r s).a.x,.int .i64 (lU p q r s).a.y,.int .i64 (lU p q r s).a.z,.int .i64 (lU p q r s).b.x,.int .i64 (lU p q r s).b.y,.int .i64 (lU p q r s).b.z,.int .i64 (lU p q r s).c.x,.int .i64 (lU p q r s).c.y,.int .i64 (lU p q r s).c.z] 39) ?_ ?_
  · intro K1 hK1
    refine bG O ?_ ?_<;>intro hc2
    ·
     apply aJ 5 [2,1,5] m;simp only[↓aD,aS,qT,aa];apply Rp 2 [0,0] m;simp only[↓aD,eL,aa];intro u m;exact hK1 _ _ _ (by kernel_rfl) m ⟨O,by rw[ale hc2] <;> rfl⟩
    ·
     apply aJ 1 [0] m;simp only[↓aD];exact hK1 _ _ _ (by kernel_rfl) m ⟨O,by rw[alf hc2] <;> rfl⟩
  · intro vs i wr m hI u
    obtain⟨rfl,rfl⟩:=hI;simp only[zF,zG] at m;simp only[zu,zF,zG];apply aW 3 [0,0] m;simp only[↓aD,eL];refine nV m O O (Qe (t:=lU p q r s)) 6 [4,2,0] ?_;simp only[↓aD,aS];intro u m;refine nV m O O (nQ (p:=oC p q) (q:=mY r s)) 6 [1,5,0] ?_;simp only[↓aD,aS];intro u m;refine nV m O O (nQ (p:=oC r s) (q:=mY p q)) 6 [0] ?_;simp only[↓aD];intro u m;refine dA O (fun hb=>aI) (dA O (fun hb=>rT (aY hb O)) (aB (cC O O O) ?_));apply aL 1 [0] m;simp only[↓aD];refine dA O (fun hb=>aI) (dA O (fun hb=>rT (aY hb O)) (aB (cC O O O) ?_));apply aL 3 [] m;simp only[↓aD];refine aT O O ?_;try simp only[zD,zE]
    exact⟨_,O,m.ext,by rw[Au,apt hf]⟩
 ·
  have hax:=(An hf).2;apply aW 6 [1,0] m;simp only[↓aD];refine⟨by omega,?_⟩;refine mq m aC (by kernel_rfl) (eC 3 [3,2,1] ?_);simp only[↓aD,aS];refine eX O O (gJ (a:=p) (b:=q) (c:=r)) (aG aI (aG ((mE (v:=dN p q r) hax O O)) ?_));refine eC 3 [3,2,0] ?_;simp only[↓aD,aS];refine eX O O (gJ (a:=p) (b:=q) (c:=s)) (aG aI (aG ((mE (v:=dN p q s) hax O O)) (aG (lC O O (xZ _ _)) ?_)));simp only[zz];refine aG aO (bC ?_);intro u m;apply aW 1 [0] m;simp only[↓aD];refine mq m aC (by kernel_rfl) (eC 3 [1,0,3] ?_);simp only[↓aD,aS];refine eX O O (gJ (a:=r) (b:=s) (c:=p)) (aG aI (aG ((mE (v:=dN r s p) hax O O)) ?_));refine eC 3 [1,0,2] ?_;simp only[↓aD,aS];refine eX O O (gJ (a:=r) (b:=s) (c:=q)) (aG aI (aG ((mE (v:=dN r s q) hax O O)) (aG (lC O O (xZ _ _)) ?_)));simp only[zz];refine aG aO (bC ?_);intro u m;apply aW 6 [3,2,1,0,0] m;simp only[↓aD,aS];refine nV m O O (nK (a:=p) (b:=q) (c:=r) (d:=s)) 2 [0,0] ?_;simp only[↓aD];intro u m;refine dA O (fun hb=>aI) (dA O (fun hb=>Fj (aY hb O) O) (aB (cC O O O) ?_));apply aL 1 [0] m;simp only[↓aD];refine dA O (fun hb=>aI) (dA O (fun hb=>Fj (aY hb O) O) (aB (cC O O O) ?_));apply aL 3 [] m;simp only[↓aD];refine aT O O ?_;try simp only[zD,zE]
  exact⟨_,O,m.ext,by rw[←afZ hf]⟩
theorem apE{b p:P3}  : (((decide (bA (bH (dN a b p) k)≥0)&&decide (bA (bH (dN b c p) k)≥0))&&decide (bA (bH (dN c a p) k)≥0))||((decide (bA (bH (dN a b p) k)≤0)&&decide (bA (bH (dN b c p) k)≤0))&&decide (bA (bH (dN c a p) k)≤0)))=decide (wth a b c p k):=by
 unfold wth;rw[gv];simp only[ep,be,decide_eq_true_eq,ge_iff_le,Hz,Qx,and_assoc];exact decide_eq_true_iff.symm
theorem apF{z:Int}:(((decide (bA x≥0)&&decide (bA y≥0))&&decide (bA z≥0))||((decide (bA x≤0)&&decide (bA y≤0))&&decide (bA z≤0)))=Sd x y z:=by
 unfold Sd;rw[gv];simp only[ep,be,decide_eq_true_eq,ge_iff_le,Hz,Qx]
theorem auJ{g:Nat}{b:P3}(hB:fR w g [.int .i64 a.x,.int .i64 a.y,.int .i64 a.z,.int .i64 b.x,.int .i64 b.y,.int .i64 b.z,.int .i64 c.x,.int .i64 c.y,.int .i64 c.z] T):vJ dF 3 w (some ⟨g,0,none⟩) 3 [a,b,c] :=
 ⟨rfl,fun i x hi=>⟨_,rfl,by
  rw[eD,au]
  match i,hi with
  | 0,h=>cases h;exact mX.pre (ys:=lA b++lA c) (hB.row 0)
  | 1,h=>cases h;exact mX.pre (ys:=lA c) (hB.row 3)
  | 2,h=>cases h;exact hB.row 6⟩⟩
theorem aoH{p r:P3}{g:Nat}(w:aj)(hL:vJ dF 3 w (some ⟨g,0,none⟩) 3 [p,q,r]):dQ prog 203 [.slice (some ⟨g,0,none⟩) 3 cap] w fun v _=>v=.tuple #[pt (mY (mY p q) r),pt (oC (oC p q) r)]:=Ys (x:=p) (xs:=[q,r]) w hL (by decide)
theorem atQ{p:P3}(h:fV t=true):dG p q t=eO p q (mY (mY t.a t.b) t.c) (oC (oC t.a t.b) t.c):=by
 unfold dG;rw[if_neg (of_decide_eq_true h)]
theorem nfl(h:fV t=false):iZ (dN t.a t.b t.c)<3:=Classical.not_not.1 (of_decide_eq_false h)
theorem atT{p:P3}(h:fV t=false)(hg:0<bA (mV t.a t.b t.c p)*bA (mV t.a t.b t.c q)):dG p q t=false:=by
 unfold dG;rw[if_pos (nfl h),if_pos (vH.1 hg)]
theorem af8{p:P3}(h:fV t=false)(hg:¬0<bA (mV t.a t.b t.c p)*bA (mV t.a t.b t.c q))(hp:(decide (bA (mV t.a t.b t.c p)=0)&&decide (bA (mV t.a t.b t.c q)=0))=true):dG p q t=(((eO p q t.a t.b||eO p q t.b t.c)||eO p q t.c t.a)||decide (wth t.a t.b t.c p (iZ (dN t.a t.b t.c)))):=by
 simp only[be,decide_eq_true_eq,bZ] at hp;unfold dG;rw[if_pos (nfl h),if_neg (fun k=>hg (vH.2 k)),if_pos hp]
theorem apG{p:P3}(h:fV t=false)(hg:¬0<bA (mV t.a t.b t.c p)*bA (mV t.a t.b t.c q))(hp:(decide (bA (mV t.a t.b t.c p)=0)&&decide (bA (mV t.a t.b t.c q)=0))=false):dG p q t=Sd (mV p q t.a t.b) (mV p q t.b t.c) (mV p q t.c t.a):=by
 have hp':¬(mV t.a t.b t.c p=0∧mV t.a t.b t.c q=0):=fun k=>by
  rw[decide_eq_true (bZ.2 k.1),decide_eq_true (bZ.2 k.2)] at hp;cases hp
 unfold dG;rw[if_pos (nfl h),if_neg (fun k=>hg (vH.2 k)),if_neg hp']
theorem acS{p:P3}[I3 p][IT t](hk:iZ (dN t.a t.b t.c)<3):dT prog 205 [pt p,tr t] (.bool (decide (wth t.a t.b t.c p (iZ (dN t.a t.b t.c))))):=by
 intro w;refine⟨bK func205 (by kernel_rfl),?_⟩;have m:=Mem.refl w
 go_enter func205,ntmps205
 apply jP 14 [0,0,0,0] m;simp only[↓aD,bT,aS,ad,ag,aa];intro g1 g2;refine⟨by omega,?_⟩;intro u m;refine kO m O O (gJ (a:=t.a) (b:=t.b) (c:=t.c)) ?_;intro u m;simp only[zz];refine nV m O O (Yt (v:=dN t.a t.b t.c)) 9 [0,0,1,0] ?_;simp only[↓aD,bT,aS,ad,ag,aa];refine⟨by omega,?_⟩;intro u m;refine nV m O O (gJ (a:=t.a) (b:=t.b) (c:=p)) 1 [0] ?_;simp only[↓aD];intro u m;refine aB ((mE (v:=dN t.a t.b p) hk O O)) ?_;apply aL 9 [0,0,1,0] m;simp only[↓aD,bT,aS,ad,ag,aa];refine⟨by omega,?_⟩;refine nV m O O (gJ (a:=t.b) (b:=t.c) (c:=p)) 1 [0] ?_;simp only[↓aD];intro u m;refine aB ((mE (v:=dN t.b t.c p) hk O O)) ?_;apply aL 9 [0,0,1,0] m;simp only[↓aD,bT,aS,ad,ag,aa];refine⟨by omega,?_⟩;refine nV m O O (gJ (a:=t.c) (b:=t.a) (c:=p)) 1 [0] ?_;simp only[↓aD];intro u m;refine aB ((mE (v:=dN t.c t.a p) hk O O)) ?_;apply aL 3 [] m;simp only[↓aD];cases hA:((decide (bA (bH (dN t.a t.b p) (iZ (dN t.a t.b t.c)))≥0)&&decide (bA (bH (dN t.b t.c p) (iZ (dN t.a t.b t.c)))≥0))&&decide (bA (bH (dN t.c t.a p) (iZ (dN t.a t.b t.c)))≥0))
 ·
  apply aW 4 [0,0] m;simp only[↓aD];refine dA O (fun hb=>aI) (dA O (fun hb=>Ho (aY hb O) O) (aB (cC O O O) ?_));apply aL 1 [0] m;simp only[↓aD];refine dA O (fun hb=>aI) (dA O (fun hb=>Ho (aY hb O) O) (aB (cC O O O) ?_));simp only[zz];rw[hA];refine aB aI ?_;apply aL 3 [0,0] m;simp only[↓aD];refine dA O (fun hb=>aI) (dA O (fun hb=>Fj (aY hb O) O) (eE O (aB (cC O O O) ?_)));apply aL 1 [0] m;simp only[↓aD];refine dA O (fun hb=>aI) (dA O (fun hb=>Fj (aY hb O) O) (eE O (aB (cC O O O) ?_)));apply aL 4 [] m;simp only[↓aD];refine aT O O ?_;try simp only[zD,zE]
  exact⟨_,O,m.ext,by rw[←apE,hA,Bool.false_or]⟩
 ·
  apply aW 4 [0,0] m;simp only[↓aD];refine dA O (fun hb=>aI) (dA O (fun hb=>Ho (aY hb O) O) (aB (cC O O O) ?_));apply aL 1 [0] m;simp only[↓aD];refine dA O (fun hb=>aI) (dA O (fun hb=>Ho (aY hb O) O) (aB (cC O O O) ?_));simp only[zz];rw[hA];refine aB aI ?_;apply aL 14 [] m;simp only[↓aD];refine aT O O ?_;try simp only[zD,zE]
  exact⟨_,O,m.ext,by rw[←apE,hA,Bool.true_or]⟩
theorem nL{p:P3}[I3 p][I3 q][IT t]:dT prog 139 [pt p,pt q,tr t] (.bool (dG p q t)):=by
 intro w;refine⟨bK func139 (by kernel_rfl),?_⟩;have m:=Mem.refl w
 go_enter func139,ntmps139
 apply jP 5 [] m;simp only[↓aD];intro g1 g2 g3 u m;apply aW 5 [0,0] m;simp only[↓aD,eL];refine nV m O O (Qe (t:=t)) 7 [0] ?_;simp only[↓aD];intro u m;refine dK O ?_ ?_<;>intro hc1
 ·
  rw[Au] at hc1;apply aJ 8 [0,0,0,0] m;simp only[↓aD,bT,aS,ad,ag,aa];refine⟨by omega,?_⟩;refine agE O O O ?_;intro u g4 e_ h_ k_;replace m:=m.newB e_ h_ k_;simp only[zz];refine dM m O O (aoH (p:=t.a) (q:=t.b) (r:=t.c) _ (auJ (m.b 0 O))) ?_;rintro v u m rfl;apply kD 7 [1,0] m;simp only[↓aD,eS,aS,aa];intro g5 g6 u m;apply aW 7 [5,4,1,0,0] m;simp only[↓aD,aS];refine nV m O O ((haveI hm:=Kf (p:=t.a) (q:=t.b) inferInstance inferInstance;haveI:=(Kf hm.1 (inferInstance:I3 t.c)).1;haveI:=(Kf hm.2 (inferInstance:I3 t.c)).2;Av (p:=p) (q:=q) (r:=mY (mY t.a t.b) t.c) (s:=oC (oC t.a t.b) t.c))) 3 [] ?_;simp only[↓aD];intro u m;refine aT O O ?_;try simp only[zD,zE]
  exact⟨_,O,m.ext,by rw[atQ hc1]⟩
 ·
  rw[Au] at hc1;apply aJ 10 [0,0,0,2,0] m;simp only[↓aD,bT,aS,ad,ag,aa];refine⟨by omega,?_⟩;refine nV m O O (nK (a:=t.a) (b:=t.b) (c:=t.c) (d:=p)) 11 [0,0,0,1] ?_;simp only[↓aD,bT,aS,ad,ag,aa];refine⟨by omega,?_⟩;intro u m;refine go (nV m O O (nK (a:=t.a) (b:=t.b) (c:=t.c) (d:=q)) 7 [0] ?_);simp only[↓aD];intro u m;refine aB (lC O O (xZ _ _)) ?_;apply aL 2 [0,0] m;simp only[↓aD];refine bG O ?_ ?_<;>intro hc2
  ·
   apply aJ 5 [] m;simp only[↓aD];refine aT O O ?_;try simp only[zD,zE]
   exact⟨_,O,m.ext,by rw[atT hc1 hc2]⟩
  ·
   apply aJ 7 [0,0] m;simp only[↓aD];refine dA O (fun hb=>aI) (dA O (fun hb=>uJ (aY hb O) O) (aB (cC O O O) ?_));apply aL 1 [0] m;simp only[↓aD];refine dK O ?_ ?_<;>intro hc3
   ·
    apply aJ 19 [4,1,0] m;simp only[↓aD];refine⟨by omega,?_⟩;refine mq m aC (by kernel_rfl) (eC 7 [2,1,0] ?_);simp only[↓aD,aS,bT,ad,ag,aa,ak];refine⟨by omega,?_⟩;refine aG (cP (m:=1) (n:=3) (r:=1) O O (by decide) (by decide)) (eC 2 [0] ?_);simp only[↓aD,bT,aS,ad,ag,aa];refine⟨by omega,?_⟩;refine eX O O (Av (p:=p) (q:=q) (r:=t.a) (s:=t.b)) (aG aO (bC ?_));intro u m;apply aW 4 [0] m;simp only[↓aD];refine dK O ?_ ?_<;>intro hc5
    ·
     have h0:=hc5;apply aJ 5 [] m;simp only[↓aD];refine aT O O ?_;try simp only[zD,zE]
     exact⟨_,O,m.ext,by rw[af8 hc1 hc2 hc3];simp[*]⟩
    ·
     have h0:=hc5;apply aJ 19 [1,0] m;simp only[↓aD,ak];refine⟨by omega,?_⟩;refine mq m aC (by kernel_rfl) (eC 7 [2,1,0] ?_);simp only[↓aD,aS,bT,ad,ag,aa,ak];refine⟨by omega,?_⟩;refine aG (cP (m:=2) (n:=3) (r:=2) O O (by decide) (by decide)) (eC 2 [0] ?_);simp only[↓aD,bT,aS,ad,ag,aa];refine⟨by omega,?_⟩;refine eX O O (Av (p:=p) (q:=q) (r:=t.b) (s:=t.c)) (aG aO (bC ?_));intro u m;apply aW 4 [0] m;simp only[↓aD];refine dK O ?_ ?_<;>intro hc5
     ·
      have h1:=hc5;apply aJ 5 [] m;simp only[↓aD];refine aT O O ?_;try simp only[zD,zE]
      exact⟨_,O,m.ext,by rw[af8 hc1 hc2 hc3];simp[*]⟩
     ·
      have h1:=hc5;apply aJ 19 [1,0] m;simp only[↓aD,ak];refine⟨by omega,?_⟩;refine mq m aC (by kernel_rfl) (eC 7 [2,1,0] ?_);simp only[↓aD,aS,bT,ad,ag,aa,ak];refine⟨by omega,?_⟩;refine aG (cP (m:=3) (n:=3) (r:=0) O O (by decide) (by decide)) (eC 2 [0] ?_);simp only[↓aD,bT,aS,ad,ag,aa];refine⟨by omega,?_⟩;refine eX O O (Av (p:=p) (q:=q) (r:=t.c) (s:=t.a)) (aG aO (bC ?_));intro u m;apply aW 4 [0] m;simp only[↓aD];refine dK O ?_ ?_<;>intro hc5
      ·
       have h2:=hc5;apply aJ 5 [] m;simp only[↓aD];refine aT O O ?_;try simp only[zD,zE]
       exact⟨_,O,m.ext,by rw[af8 hc1 hc2 hc3];simp[*]⟩
      ·
       have h2:=hc5;apply aJ 20 [2,2,0,0] m;simp only[↓aD,aS,eL,ak];refine⟨by omega,?_⟩;refine nV m O O (acS (p:=p) (t:=t) (nfl hc1)) 3 [] ?_;simp only[↓aD];intro u m;refine aT O O ?_;try simp only[zD,zE]
       exact⟨_,O,m.ext,by rw[af8 hc1 hc2 hc3,h0,h1,h2];rfl⟩
   ·
    apply aJ 9 [2,1,0,0,0] m;simp only[↓aD,aS,bT,ad,ag,aa];refine⟨by omega,?_⟩;refine nV m O O (nK (a:=p) (b:=q) (c:=t.a) (d:=t.b)) 10 [2,1,0,0,0] ?_;simp only[↓aD,aS,bT,ad,ag,aa];refine⟨by omega,?_⟩;intro u m;refine nV m O O (nK (a:=p) (b:=q) (c:=t.b) (d:=t.c)) 10 [2,1,0,0,0] ?_;simp only[↓aD,aS,bT,ad,ag,aa];refine⟨by omega,?_⟩;intro u m;refine nV m O O (nK (a:=p) (b:=q) (c:=t.c) (d:=t.a)) 3 [] ?_;simp only[↓aD];intro u m;cases hA:((decide (bA (mV p q t.a t.b)≥0)&&decide (bA (mV p q t.b t.c)≥0))&&decide (bA (mV p q t.c t.a)≥0))
    ·
     apply aW 4 [0,0] m;simp only[↓aD];refine dA O (fun hb=>aI) (dA O (fun hb=>Ho (aY hb O) O) (aB (cC O O O) ?_));apply aL 1 [0] m;simp only[↓aD];refine dA O (fun hb=>aI) (dA O (fun hb=>Ho (aY hb O) O) (aB (cC O O O) ?_));simp only[zz];rw[hA];refine aB aI ?_;apply aL 3 [0,0] m;simp only[↓aD];refine dA O (fun hb=>aI) (dA O (fun hb=>Fj (aY hb O) O) (eE O (aB (cC O O O) ?_)));apply aL 1 [0] m;simp only[↓aD];refine dA O (fun hb=>aI) (dA O (fun hb=>Fj (aY hb O) O) (eE O (aB (cC O O O) ?_)));apply aL 4 [] m;simp only[↓aD];refine aT O O ?_;try simp only[zD,zE]
     exact⟨_,O,m.ext,by rw[apG hc1 hc2 hc3,←apF,hA,Bool.false_or]⟩
    ·
     apply aW 4 [0,0] m;simp only[↓aD];refine dA O (fun hb=>aI) (dA O (fun hb=>Ho (aY hb O) O) (aB (cC O O O) ?_));apply aL 1 [0] m;simp only[↓aD];refine dA O (fun hb=>aI) (dA O (fun hb=>Ho (aY hb O) O) (aB (cC O O O) ?_));simp only[zz];rw[hA];refine aB aI ?_;apply aL 14 [] m;simp only[↓aD];refine aT O O ?_;try simp only[zD,zE]
     exact⟨_,O,m.ext,by rw[apG hc1 hc2 hc3,←apF,hA,Bool.true_or]⟩
theorem aa0{g:Nat}{j:Nat}(h:fR w g (aN t) T)(hj:j<3):mX w ⟨g,j*3,none⟩ (dF (t.cor j)):=by
 rcases j with _ | _ | _ | j
 · exact (h.row 0).take 3
 · exact (h.row 3).take 3
 · exact (h.row 6).take 3
 · omega
theorem aoI{p:P3}:dT prog 202 [pt p,tr t] (.bool (t.has p)):=by
 intro w;refine⟨bK func202 (by kernel_rfl),?_⟩;have m:=Mem.refl w
 go_enter func202,ntmps202
 apply jP 11 [1,0,0] m;simp only[↓aD,aS,bT,ad,ag,aa];intro g1 g2;refine⟨by omega,?_⟩;intro u m;refine aB (cK O O) ?_;apply aL 1 [0] m;simp only[↓aD];refine cA O (fun hb=>aZ O ((m.b 1 O).full aH aA)) (bB O (fun hb=>aK cM aA O O (by decide) (by decide) O) ?_);simp only[zz];refine cA O (fun hb=>aZ (aY hb O) ((m.b 0 O).lies aH aA O O)) ?_;simp only[zz,zy,au,aa,ag,ad];refine bB O (fun hb=>cK (aY hb O) (aY hb O)) (aB (cE O O O) ?_);apply aL 1 [0] m;simp only[↓aD];refine cA O (fun hb=>aZ O ((m.b 1 O).full aH aA)) (bB O (fun hb=>aK cM aA O O (by decide) (by decide) O) ?_);simp only[zz];refine cA O (fun hb=>aZ (aY hb O) ((m.b 0 O).lies aH aA O O)) ?_;simp only[zz,zy,au,aa,ag,ad];refine bB O (fun hb=>cK (aY hb O) (aY hb O)) (aB (cE O O O) ?_);apply aL 3 [] m;simp only[↓aD];refine aT O O ?_;try simp only[zD,zE]
 exact⟨_,O,m.ext,by rw[ar4]⟩
theorem Uo(w:aj):dQ prog 136 [tr s,tr t] w (fun v w'=>∃A4 n4 c4 A5 n5 c5,v=.tuple #[.slice A4 n4 c4,.slice A5 n5 c5]∧n4=(mW s t).length∧n5=(sV s t).length∧Mem w w' [oI 30 3 A5 n5 c5 ((sV s t).flatMap lA),oI 30 3 A4 n4 c4 ((mW s t).flatMap lA)]):=by
 refine⟨bK func136 (by kernel_rfl),?_⟩;have m:=Mem.refl w
 go_enter func136,ntmps136
 apply jP 9 [0] m;simp only[↓aD];intro g1 g2 u m;refine aB aO ?_;replace m:=m.nilO 30 3;apply aL 3 [0] m;simp only[↓aD];refine aB aO ?_;replace m:=m.nilO 30 3;apply aL 7 [0] m;simp only[↓aD];refine bX [6,7,8] [9,10,11,12,13,14,15,16,17,18,19,20,21,22,23,24,25,26,27,28,29,30,31] (fun n vs wl=>∃(k:Nat) (A4 A5:Option Addr) (cap4 cap5:Nat),vs=[.slice A4 (sH s t k).length cap4,.slice A5 (sJ s t k).length cap5,.int .i64 (k:Int)]∧Mem w wl [oI 30 3 A5 (sJ s t k).length cap5 ((sJ s t k).flatMap lA),oI 30 3 A4 (sH s t k).length cap4 ((sH s t k).flatMap lA),bI g2 [.int .i64 t.a.x,.int .i64 t.a.y,.int .i64 t.a.z,.int .i64 t.b.x,.int .i64 t.b.y,.int .i64 t.b.z,.int .i64 t.c.x,.int .i64 t.c.y,.int .i64 t.c.z] 39,bI g1 [.int .i64 s.a.x,.int .i64 s.a.y,.int .i64 s.a.z,.int .i64 s.b.x,.int .i64 s.b.y,.int .i64 s.b.z,.int .i64 s.c.x,.int .i64 s.c.y,.int .i64 s.c.z] 39]∧(k≤3)∧(n=3-k)) ?_ ?_
 ·
  exact⟨_,0,_,_,_,_,O,m,by omega,O⟩
 · intro n vs wr hI u K1 hK1
   obtain⟨k,A4,A5,cap4,cap5,rfl,m,hk,hn⟩:=hI;simp only[zu,zF,zG];apply aJ 6 [0,0] m;simp only[↓aD];refine bG O ?_ ?_<;>intro hc1
   ·
    have hk3:k<3:=by omega
    apply aJ 4 [0] m;simp only[↓aD];refine mq m aC (by kernel_rfl) (aG aI ?_);simp only[zz];refine aG (aK cM aA O O (by omega) (by omega) (nB (ah _))) ?_;simp only[zz];refine ql O (fun u m=>(show fZ _ _ _ _ (pt (s.cor k)) from (aa0 (m.b 3 O) hk3).lies aH aA)) ?_;simp only[zz];refine ql O (fun u m=>((m.b 2 O).full cF aP)) ?_;simp only[zz];refine eX O O (aoI (t:=t) (p:=s.cor k)) (aG aO (bC ?_));intro u m;apply aW 4 [0] m;simp only[↓aD];refine dK O ?_ ?_<;>intro hc2
    ·
     apply aJ 3 [0] m;simp only[↓aD];refine aB (aK cM aA O O (by omega) (by omega) (nB (ah _))) ?_;simp only[zz];refine aR O (show fZ _ _ _ _ (pt (s.cor k)) from (aa0 (m.b 3 O) hk3).lies aH aA) ?_;simp only[zz];refine mJ O ?_;intro u g3 e_ h_ k_;replace m:=m.newB e_ h_ k_;simp only[zz];refine bL m 2 O O cT oV O (by decide) O O O (m.b 0 O).rowsO (gB O) (by have:=Py s t k;omega) (by have:=Py s t k;omega) ?_;intro A4 cap4 u m;simp only[zF,zG] at m;rw[show (sH s t k).flatMap lA++_=(sH s t (k+1)).flatMap lA by rw[sK hk3,hc2,ay];rfl,show (sH s t k).length+1=(sH s t (k+1)).length by rw[sK hk3,hc2,aw];rfl] at m;rw[show (sH s t k).length+1=(sH s t (k+1)).length by rw[sK hk3,hc2,aw];rfl];apply aL 8 [0] m;simp only[↓aD];refine⟨by omega,?_⟩;have he:sJ s t (k+1)=sJ s t k:=by rw[sL hk3,hc2,if_pos rfl,fa]
     rw[←he] at m ⊢;exact hK1 (3-(k+1)) _ _ (by omega) (by kernel_rfl) ⟨k+1,_,_,_,_,O,(m.sel [false,true,true,true,true]),by omega,O⟩
    ·
     apply aJ 3 [0] m;simp only[↓aD];refine aB (aK cM aA O O (by omega) (by omega) (nB (ah _))) ?_;simp only[zz];refine aR O (show fZ _ _ _ _ (pt (s.cor k)) from (aa0 (m.b 3 O) hk3).lies aH aA) ?_;simp only[zz];refine mJ O ?_;intro u g3 e_ h_ k_;replace m:=m.newB e_ h_ k_;simp only[zz];refine bL m 1 O O cT oV O (by decide) O O O (m.b 0 O).rowsO (gB O) (by have:=Pz s t k;omega) (by have:=Pz s t k;omega) ?_;intro A5 cap5 u m;simp only[zF,zG] at m;rw[show (sJ s t k).flatMap lA++_=(sJ s t (k+1)).flatMap lA by rw[sL hk3,hc2,ay];rfl,show (sJ s t k).length+1=(sJ s t (k+1)).length by rw[sL hk3,hc2,aw];rfl] at m;rw[show (sJ s t k).length+1=(sJ s t (k+1)).length by rw[sL hk3,hc2,aw];rfl];apply aL 8 [0] m;simp only[↓aD];refine⟨by omega,?_⟩;have he:sH s t (k+1)=sH s t k:=by rw[sK hk3,hc2,if_neg Bool.false_ne_true,fa]
     rw[←he] at m ⊢;exact hK1 (3-(k+1)) _ _ (by omega) (by kernel_rfl) ⟨k+1,_,_,_,_,O,(m.sel [false,true,true,true,true]),by omega,O⟩
   ·
    obtain rfl:k=3:=by omega
    apply aJ 9 [] m;simp only[↓aD];exact yE O O O ⟨_,O,m.ext,_,_,_,_,_,_,O,O,O,m.sel [true,true,false,false]⟩
theorem acT[IT s][IT t]:dT prog 138 [tr s,tr t] (.bool (vL s t||vL t s)):=by
 intro w;refine⟨bK func138 (by kernel_rfl),?_⟩;have m:=Mem.refl w
 go_enter func138,ntmps138
 apply jP 25 [4,1,0] m;simp only[↓aD];intro g1 g2;refine⟨by omega,?_⟩;intro u m;refine mq m aC (by kernel_rfl) (eC 5 [1] ?_);simp only[↓aD,bT,aS,ad,ag,aa,ak];refine⟨by omega,?_⟩;refine aG (cP (m:=1) (n:=3) (r:=1) O O (by decide) (by decide)) (eC 3 [1,0] ?_);simp only[↓aD,bT,aS,eL,ad,ag,aa];refine⟨by omega,?_⟩;refine eX O O (nL (p:=s.a) (q:=s.b) (t:=t)) (aG aO (bC ?_));intro u m;apply aW 1 [0] m;simp only[↓aD];refine mq m aC (by kernel_rfl) (eC 5 [0] ?_);simp only[↓aD,bT,aS,ad,ag,aa,ak];refine⟨by omega,?_⟩;refine aG (cP (m:=1) (n:=3) (r:=1) O O (by decide) (by decide)) (eC 3 [0,1] ?_);simp only[↓aD,bT,aS,eL,ad,ag,aa];refine⟨by omega,?_⟩;refine eX O O (nL (p:=t.a) (q:=t.b) (t:=s)) (aG aO (bC ?_));intro u m;apply aW 4 [0] m;simp only[↓aD];refine bB O (fun hb=>aI) (aB (cE O O O) ?_);apply aL 1 [0] m;simp only[↓aD];refine dK O ?_ ?_<;>intro hc2
 ·
  have h0:=hc2;apply aJ 5 [] m;simp only[↓aD];refine aT O O ?_;try simp only[zD,zE]
  exact⟨_,O,m.ext,by unfold vL;rcases ep _ _ |>.mp h0 with h | h <;> simp[h]⟩
 ·
  have h0:=hc2;apply aJ 19 [1,0] m;simp only[↓aD,ak];refine⟨by omega,?_⟩;refine mq m aC (by kernel_rfl) (eC 5 [1] ?_);simp only[↓aD,bT,aS,ad,ag,aa,ak];refine⟨by omega,?_⟩;refine aG (cP (m:=2) (n:=3) (r:=2) O O (by decide) (by decide)) (eC 3 [1,0] ?_);simp only[↓aD,bT,aS,eL,ad,ag,aa];refine⟨by omega,?_⟩;refine eX O O (nL (p:=s.b) (q:=s.c) (t:=t)) (aG aO (bC ?_));intro u m;apply aW 1 [0] m;simp only[↓aD];refine mq m aC (by kernel_rfl) (eC 5 [0] ?_);simp only[↓aD,bT,aS,ad,ag,aa,ak];refine⟨by omega,?_⟩;refine aG (cP (m:=2) (n:=3) (r:=2) O O (by decide) (by decide)) (eC 3 [0,1] ?_);simp only[↓aD,bT,aS,eL,ad,ag,aa];refine⟨by omega,?_⟩;refine eX O O (nL (p:=t.b) (q:=t.c) (t:=s)) (aG aO (bC ?_));intro u m;apply aW 4 [0] m;simp only[↓aD];refine bB O (fun hb=>aI) (aB (cE O O O) ?_);apply aL 1 [0] m;simp only[↓aD];refine dK O ?_ ?_<;>intro hc2
  ·
   have h1:=hc2;apply aJ 5 [] m;simp only[↓aD];refine aT O O ?_;try simp only[zD,zE]
   exact⟨_,O,m.ext,by unfold vL;rcases ep _ _ |>.mp h1 with h | h <;> simp[h]⟩
  ·
   have h1:=hc2;apply aJ 19 [1,0] m;simp only[↓aD,ak];refine⟨by omega,?_⟩;refine mq m aC (by kernel_rfl) (eC 5 [1] ?_);simp only[↓aD,bT,aS,ad,ag,aa,ak];refine⟨by omega,?_⟩;refine aG (cP (m:=3) (n:=3) (r:=0) O O (by decide) (by decide)) (eC 3 [1,0] ?_);simp only[↓aD,bT,aS,eL,ad,ag,aa];refine⟨by omega,?_⟩;refine eX O O (nL (p:=s.c) (q:=s.a) (t:=t)) (aG aO (bC ?_));intro u m;apply aW 1 [0] m;simp only[↓aD];refine mq m aC (by kernel_rfl) (eC 5 [0] ?_);simp only[↓aD,bT,aS,ad,ag,aa,ak];refine⟨by omega,?_⟩;refine aG (cP (m:=3) (n:=3) (r:=0) O O (by decide) (by decide)) (eC 3 [0,1] ?_);simp only[↓aD,bT,aS,eL,ad,ag,aa];refine⟨by omega,?_⟩;refine eX O O (nL (p:=t.c) (q:=t.a) (t:=s)) (aG aO (bC ?_));intro u m;apply aW 4 [0] m;simp only[↓aD];refine bB O (fun hb=>aI) (aB (cE O O O) ?_);apply aL 1 [0] m;simp only[↓aD];refine dK O ?_ ?_<;>intro hc2
   ·
    have h2:=hc2;apply aJ 5 [] m;simp only[↓aD];refine aT O O ?_;try simp only[zD,zE]
    exact⟨_,O,m.ext,by unfold vL;rcases ep _ _ |>.mp h2 with h | h <;> simp[h]⟩
   ·
    have h2:=hc2;apply aJ 21 [2] m;simp only[↓aD,ak];refine⟨by omega,?_⟩;refine aT O O ?_;try simp only[zD,zE]
    exact⟨_,O,m.ext,by rw[ie] at h0 h1 h2;unfold vL;rw[h0.1,h0.2,h1.1,h1.2,h2.1,h2.2];rfl⟩
theorem Kt{P:Program}{f:FuncId}{args:List ai}{v v':ai}(h:dQ P f args w fun u _=>u=v)(e:v=v'):dQ P f args w fun u _=>u=v':=e▸h
theorem Up{p:P3}(h:(-1000≤p.x∧p.x≤1000)∧(-1000≤p.y∧p.y≤1000)∧(-1000≤p.z∧p.z≤1000)):I3 p:=⟨by unfold sP;omega,by unfold sP;omega,by unfold sP;omega⟩
instance sx3:I3 (⟨10,0,0⟩:P3):=Up (by decide)
instance sy3:I3 (⟨0,10,0⟩:P3):=Up (by decide)
instance sz3:I3 (⟨-10,0,0⟩:P3):=Up (by decide)
instance sa3:I3 (⟨0,0,0⟩:P3):=Up (by decide)
instance sb3:I3 (⟨9,0,0⟩:P3):=Up (by decide)
instance sc3:I3 (⟨0,9,0⟩:P3):=Up (by decide)
instance sd3:I3 (⟨0,0,9⟩:P3):=Up (by decide)
theorem Qf:∀t∈Ff,IT t:=sM aj5
def s1T:List T3:=[⟨⟨0,0,0⟩,⟨0,9,0⟩,⟨9,0,0⟩⟩,⟨⟨0,0,0⟩,⟨9,0,0⟩,⟨0,0,9⟩⟩,⟨⟨9,0,0⟩,⟨0,9,0⟩,⟨0,0,9⟩⟩,⟨⟨0,9,0⟩,⟨0,0,0⟩,⟨0,0,9⟩⟩]
def s2T:List T3:=[⟨⟨0,0,0⟩,⟨9,0,0⟩,⟨0,9,0⟩⟩]
theorem atW:∀t∈s1T,IT t:=fun t ht=>by
 simp only[s1T,List.mem_cons,cg,or_false] at ht;rcases ht with rfl | rfl | rfl | rfl
 · exact⟨sa3,sc3,sb3⟩
 · exact⟨sa3,sb3,sd3⟩
 · exact⟨sb3,sc3,sd3⟩
 · exact⟨sc3,sa3,sd3⟩
theorem atX:∀t∈s2T,IT t:=fun t ht=>by
 simp only[s2T,List.mem_cons,cg,or_false] at ht;subst ht;exact⟨sa3,sb3,sc3⟩
theorem ar5:aaT Ff ⟨10,0,0⟩ ⟨0,10,0⟩=true:=by rw[aaT,ag5,anp];decide
theorem ar6:aaT Ff ⟨10,0,0⟩ ⟨-10,0,0⟩=false:=by rw[aaT,anq,jg]
theorem auL:aaT s1T ⟨0,0,0⟩ ⟨9,0,0⟩=false:=by kernel_rfl
theorem auM:(yZ s2T ⟨0,0,0⟩ ⟨9,0,0⟩).length=0:=by kernel_rfl
theorem ar7:(qD Ff 7).1.length=6:=congrArg Prod.fst ab7
theorem ar8:(qD Ff 7).2=[(⟨-10,0,0⟩,⟨0,-10,0⟩)]:=congrArg Prod.snd ab7
theorem amb  : dT prog 14 [] (.bool true):=by
 intro w;refine⟨bK func14 (by kernel_rfl),?_⟩;have m:=Mem.refl w
 go_enter func14,ntmps14
 apply fF 6 [0] m;simp only[↓aD];refine bJ O O (aqR _) ?_;rintro v u e_ ⟨A1,cap1,n1,rfl,rfl,h_⟩;replace m:=m.newO e_ h_;apply kD 13 [0,0] m;simp only[↓aD,xN,eS,aS,aa];intro g1 u m;refine go (dM m O O (Kt (My (ts:=Ff) (p:=⟨10,0,0⟩) (q:=⟨0,10,0⟩) _ ((m.o 1 O).tris Qf) (by decide)) (by rw[ar5])) ?_);rintro v u m rfl;apply aL 4 [0,0] m;simp only[↓aD,aS,xN,aa];refine eE O (dM m O O (Kt (My (ts:=Ff) (p:=⟨10,0,0⟩) (q:=⟨-10,0,0⟩) _ ((m.o 1 O).tris Qf) (by decide)) (by rw[ar6])) ?_);rintro v u m rfl;apply aL 6 [0,0] m;simp only[↓aD,aS,xN,Bool.not_true,fh,aa];refine eE O (bJ O O (Ha (ts:=Ff) (p:=⟨10,0,0⟩) (q:=⟨0,10,0⟩) _ ((m.o 1 O).tris Qf) (by decide)) ?_);rintro v u e_ ⟨A2,cap2,n2,hn2,rfl,h_⟩;replace m:=m.newO e_ h_;obtain rfl:n2=6:=by rw[hn2];exact anr
 apply aL 1 [0] m;simp only[↓aD,kA];refine eE O (aB (yG O O rfl) ?_);apply kD 12 [0] m;simp only[↓aD,xN,eS,aS,aa];intro g2 u m;apply Rp 8 [0,0] m;simp only[↓aD,eS,aS,xN,aa];intro g3 g4 u m;apply Rp 11 [0,3,1] m;simp only[↓aD,xN,eS,aS,aa];intro g5 u m;apply aW 5 [2,3,2,0] m;simp only[↓aD,aS,qT,aa];apply aW 5 [2,1,0] m;simp only[↓aD,qT,aS,aa];apply aW 4 [1,3,0,0] m;simp only[↓aD,aS,qT,aa];refine agC O O O O ?_;intro u g6 e_ h_ k_;replace m:=m.newB e_ h_ k_;simp only[zz];replace m:=m.own 0 O (n:=4) (c:=9) O (gV O);simp only[zG] at m;apply aL 2 [4,3,0] m;simp only[↓aD,aS];refine dM m O O (Kt (My (ts:=s1T) (p:=⟨0,0,0⟩) (q:=⟨9,0,0⟩) _ (((m.o 0 O).as (show _=s1T.flatMap aN from O)).tris atW) (by decide)) (by rw[auL])) ?_;rintro v u m rfl;apply aL 6 [4,3,2,0] m;simp only[↓aD,aS,qT,Bool.not_true,fh,aa];refine eE O (eZ O ?_);intro u g7 e_ h_ k_;replace m:=m.newB e_ h_ k_;simp only[zz];replace m:=m.own 0 O (n:=1) (c:=9) O (gV O);simp only[zG] at m;apply aL 2 [5,4,0] m;simp only[↓aD,aS];refine eE O (bJ O O (Ha (ts:=s2T) (p:=⟨0,0,0⟩) (q:=⟨9,0,0⟩) _ (((m.o 0 O).as (show _=s2T.flatMap aN from O)).tris atX) (by decide)) ?_);rintro v u e_ ⟨A5,cap5,n5,hn5,rfl,h_⟩;replace m:=m.newO e_ h_;obtain rfl:n5=0:=by rw[hn5];exact auM
 apply aL 1 [0] m;simp only[↓aD,kA];refine eE O (aB (yG O O rfl) ?_);apply aL 6 [0] m;simp only[↓aD];refine bJ O O (Ui (ts:=Ff) (want:=7) _ ((m.o 9 O).tris Qf) (by decide) (by decide)) ?_;rintro v u e_ ⟨A7,n7,c7,A8,n8,c8,rfl,hn7,hn8,hM⟩;replace m:=m.plus hM;clear hM;simp only[cn,b_] at m;obtain rfl:n7=6:=hn7.trans ar7;rw[ar8] at hn8 m;obtain rfl:n8=1:=hn8;apply aL 15 [0] m;simp only[↓aD,kA];refine eE O (aB (yG O O rfl) ?_);apply aL 6 [] m;simp only[↓aD,xN,asQ,aa];refine go (eE O (Lk O ?_));intro u g8 e_ h_ k_;replace m:=m.newB e_ h_ k_;simp only[zz];replace m:=m.own 0 O (n:=1) (c:=6) O (gV O);simp only[zG] at m;refine eE O (dM m O O (Kt (aj3 (xs:=[(⟨-10,0,0⟩,⟨0,-10,0⟩)]) (ys:=[(⟨-10,0,0⟩,⟨0,-10,0⟩)]) _ ((m.o 1 O).lat Oq (by decide)) (((m.o 0 O).as (show _=([(⟨-10,0,0⟩,⟨0,-10,0⟩)]:List E3).flatMap dD from O)).lat Oq (by decide)) (by decide)) (by rw[decide_eq_true O])) ?_);rintro v u m rfl;apply aL 4 [] m;simp only[↓aD];exact aT O O ⟨_,O,m.ext,O⟩
end Go.Proofs.YtfekpcimgncioaaGreatDoor
namespace Go.Lith
open Go.RowKit Go.ChangeShapes
variable {H:Type} {enc:az × ai→H} {P:Program} {w:aj} {base:Nat} {spare:Nat→Bool} {held:Bool}
theorem acU{v:ai}{A:Option Addr}{len cap:Nat}(h:v.cells.toList=[.slice A len cap])(hv:∀cs,v≠.agg cs):v=.slice A len cap:=by
 cases v <;> first | (exact absurd rfl (hv _)) | (simp[qt] at h;done) | (simpa[qt] using h)
end Go.Lith
namespace Go.Proofs.YtfekpcimgncioaaGreatDoor
open Go.Proofs.Tryz
open Go.RowKit Go.Lith
set_option maxRecDepth 100000
attribute [local irreducible] wpList wpQuiet gG bQ cO Code.wp
end Go.Proofs.YtfekpcimgncioaaGreatDoor
namespace Go.Lith
open Go.RowKit Go.ChangeShapes
variable {H:Type} {enc:az × ai→H} {P:Program} {w:aj} {base:Nat} {spare:Nat→Bool} {held:Bool}
def ar9(k:IntKind)(z:Int):List ai:=[.int k z]
theorem amc{A:Option Addr}{n:Nat}{zs:List Int}(h:aip w A n zs):vJ (ar9 .i64) 1 w A n zs:=⟨h.len,fun i x hx=>by
 obtain⟨a,rfl,hc⟩:=h.row i x hx;exact⟨a,O,fun j u hj=>by
  have h1:j=0:=by
   have:=(ap.1 hj).1;simp[ar9] at this;omega
  subst h1;cases hj;rw[Nat.mul_one,jR,Nat.add_zero];exact hc⟩⟩
theorem aeU{r:Reach}{b0 n:Nat}{t e:az}{v:ai}{d:DataW H}{p:List MemPlace}(hu:P.underlying t=some (.slice e))(hi:uN P n e=true)(hc:P.cellsOf e=1)(hv:oo P w r b0 t v)(h:DataW.Trod enc P w base spare held t v d p) :
 ∃(A:Option Addr) (len cap:Nat) (zs:List Int),v=.slice A len cap∧vJ (ar9 .i64) 1 w A len zs∧len≤cap∧∀z∈zs,sP z:=by
 obtain⟨fuel,hf⟩:=h;obtain⟨A,len,cap,zs,e,h2,_,_,h1⟩:=adf hu hi hc hf;refine⟨A,len,cap,zs,acU e fun cs hcs=>?_,amc h1,h2,h1.it⟩;unfold oo at hv;rw[hu] at hv;subst hcs;simp[Cell.okWide,Cell.ok,hu] at hv
theorem aeV{r:Reach}{b0:Nat}{t e:az}{v:ai}{d:DataW H}{p:List MemPlace}(ha:eU P t true)(hut:P.underlying t=some (.array 2 e))(hue:P.underlying e=some (.int .u16))(hce:P.cellsOf e=1)(hct:P.cellsOf t=2)
 (hv:oo P w r b0 t v) (h:DataW.Trod enc P w base spare held t v d p):∃a b:Int,(0≤a∧a<65536)∧(0≤b∧b<65536)∧v=.agg #[.int .u16 a,.int .u16 b]:=by
 obtain⟨dd,hu,hd⟩:=ha;obtain⟨fuel,hf⟩:=h;unfold oo at hv;rw[hu] at hv;have:∃cs,v=.agg cs:=by
  cases dd <;> first | (obtain⟨cs,rfl,_⟩:=hv;exact⟨cs,rfl⟩) | (cases hd)
 obtain⟨cs,rfl⟩:=this;obtain⟨ys,k,_,_,hl,hlen,hx⟩:=DataW.trod_array hut hf;obtain⟨l,rfl⟩:∃l:List ai,cs=l.toArray:=⟨cs.toList,rfl⟩
 simp only[qt] at hl hx;rw[hct] at hl
 match l,hl with
 | [u0,u1],_ =>
  have one:∀i,i<2→∃a:Int,(0≤a∧a<65536)∧(([u0,u1].drop (i*1)).take 1)=[.int .u16 a]:=fun i hi=>by
   have hq:=hx i hi;rw[am (by rw[hlen];exact hi),hce] at hq;obtain⟨z,e1,_,hz⟩:=DataW.trod_int hue hq;have hb:=bounds_u16 hz;exact⟨z,by omega,e1⟩
  obtain⟨a,ha,e0⟩:=one 0 (by decide);obtain⟨b,hb,e1⟩:=one 1 (by decide);have q0:u0=.int .u16 a:=by simpa using e0
  have q1:u1=.int .u16 b:=by simpa using e1
  exact⟨a,b,ha,hb,by rw[q0,q1]⟩
end Go.Lith
namespace Go.Proofs.YtfekpcimgncioaaGreatDoor
open Go.Proofs.Tryz
open Go.RowKit Go.Lith
set_option maxRecDepth 100000
attribute [local irreducible] wpList wpQuiet gG bQ cO Code.wp
attribute [local congr] rC gX gY gZ iA iB lI iC iD iE iF iG iH iJ iK iL iM iN fJ fK iO iP iR iS iT lK dW dX cX dV iQ lJ fN fO fP iU iV lM
variable{l ts:List T3}{want at0 ax:Int}{cap k N:Nat}{t s:T3}{A:Option Addr}{zs:List Int}
theorem acV:∀(n:Nat) {want:Int} {l:List T3} {q:P3→List Int} {D:List Mv},(∀t∈l,IT t)→∀t∈(mT n want l q D).1,IT t
 | 0,_,_,_,_,h=>h
 | n+1,want,l,q,D,h=>by
  unfold mT;split
  · exact h
  · cases hb:xL l q with
    | none=>exact h
    | some c=>exact acV n (sM (aaD (Kr h (aaZ (afz.1 (Ma hb).1).2.1).2) h))
theorem amd(h:∀t∈l,IT t):∀t∈(qD l want).1,IT t:=by
 unfold qD;split
 · exact sM h
 · exact acV _ (sM h)
theorem acW:∀(n:Nat) {want:Int} {l:List T3} {q:P3→List Int} {D:List Mv},(mT n want l q D).1.length≤l.length
 | 0,_,_,_,_=>aq _
 | n+1,want,l,q,D=>by
  unfold mT;split
  · exact aq _
  · cases hb:xL l q with
    | none=>exact aq _
    | some c=>exact Nat.le_trans (acW n) (Nat.le_of_lt (uE hb))
theorem ame   : (qD l want).1.length≤l.length:=by
 unfold qD;split
 · rw[nP];exact aq _
 · exact Nat.le_trans (acW _) (Nat.le_of_eq (nP _))
theorem aoJ{w0 w:aj}{S:List (Option Nat)}{E:az}{g n:Nat}(h:Ow w0 w S E 9 (some ⟨g,0,none⟩) n cap (ts.flatMap aN))(ht:ts[k]? = some t):mX w ⟨g,k*9,none⟩ (aN t):=by
 have:=(h.lat (enc:=aN) ais (by decide)).at ht;rwa [eD,au] at this
theorem aeW{a:Nat}(w:aj)(hT:bV w A N ts)(hNl:N≤1536)(ha:a<3):dQ prog 96 [.slice A N cap,.int .i64 (a:Int),.int .i64 at0] w (fun v w'=>∃us:List T3,(us.length≤N∧∀t∈us,IT t)∧SL 39 9 (us.flatMap aN) us.length w v w'):=by
 refine⟨bK func96 (by kernel_rfl),?_⟩;have m:=Mem.refl w;have htl:=hT.len
 go_enter func96,ntmps96
 apply fF 6 [0] m;simp only[↓aD];refine aB aO ?_;replace m:=m.nilO 39 9;apply aL 7 [0] m;simp only[↓aD];refine bX [7,8] [9,10,11,12,13,14,15,16,17,18,19,20,21,22,23,24,25,26,27,28,29,30,31,32,33,34,35,36,37,38,39,40,41,42,43,44,45,46,47,48,49,50,51] (fun n vs wl=>∃(k n7:Nat) (us:List T3) (A7:Option Addr) (cap7:Nat),vs=[.slice A7 n7 cap7,.int .i64 (k:Int)]∧Mem w wl [oI 39 9 A7 n7 cap7 (us.flatMap aN)]∧(us.length=n7)∧(∀t∈us,IT t)∧(n7≤k)∧(k≤N)∧(n=N-k)) ?_ ?_
 ·
  exact⟨_,0,0,[],none,0,O,m,O,by simp,by omega,by omega,O⟩
 · intro n vs wr hI u K1 hK1
   obtain⟨k,n7,us,A7,cap7,rfl,m,hul,hui,hb,hk,hn⟩:=hI;simp only[zu,zF,zG];apply aJ 8 [0,0] m;simp only[↓aD,kA];refine bG O ?_ ?_<;>intro hc1
   ·
    obtain⟨t,ht,hit,a0,hA,hrow⟩:=hT.get (i:=k) (by omega);subst hA;apply aJ 13 [0] m;simp only[↓aD];refine bX [9,10] [11,12,19,20,21,22,23,24,25,26,27,28,29,30,31,32,33,34,35,36,37,38,39,40,41,42] (fun n vs wl=>∃(j c:Nat),vs=[.int .i64 (c:Int),.int .i64 (j:Int)]∧Mem w wl [oI 39 9 A7 n7 cap7 (us.flatMap aN)]∧(c≤j)∧(j≤3)∧(n=3-j)) ?_ ?_
    ·
     exact⟨_,0,0,O,m,by omega,by omega,O⟩
    · intro n vs wr hI u K2 hK2
      obtain⟨j,c,rfl,m,hc,hj,hn2⟩:=hI;simp only[zu,zF,zG];apply aJ 6 [0,0] m;simp only[↓aD];refine bG O ?_ ?_<;>intro hc2
      ·
       apply aJ 8 [0] m;simp only[↓aD];refine aB (aF cH aP O O (by omega) (by omega) (cQ (ah _))) ?_;simp only[zz];refine aB (aK cM aA O O (by omega) (by omega) (cQ (ah _))) ?_;simp only[zz];refine aR O (show fZ _ _ _ _ (pt (t.cor j)) from ((hrow.ext m.ext).cor (show j<3 by omega)).lies aH aA) ?_;simp only[zz];apply kD 17 [0,0,0,0,0] m;simp only[↓aD,eS,aS,gE,cY,gI,iX,tE,xO,vB,aa];intro g1 g2 u m;apply aW 1 [0] m;simp only[↓aD];refine aB (aK qR aU O O (by omega) (by omega) (fC (ah _))) ?_;simp only[zz];refine aR O (apb (m.b 0 O) (show a<3 by omega)) ?_;simp only[zz];apply aL 3 [0,0] m;simp only[↓aD];refine Rq m [9] [41,42] (fun vs=>∃(c:Nat),vs=[.int .i64 (c:Int)]∧(c≤j+1)) ?_ ?_
       · intro K3 hK3
         refine bG O ?_ ?_<;>intro hc3
         ·
          apply aJ 5 [0] m;simp only[↓aD];refine⟨by omega,?_⟩;exact hK3 _ _ (by kernel_rfl) m ⟨c+1,O,by omega⟩
         ·
          apply aJ 1 [0] m;simp only[↓aD];exact hK3 _ _ (by kernel_rfl) m ⟨c,O,by omega⟩
       · intro vs wr m hI u
         obtain⟨c,rfl,hc⟩:=hI;simp only[zu,zF,zG];apply aW 6 [0] m;simp only[↓aD];refine⟨by omega,?_⟩;exact hK2 (3-(j+1)) _ _ (by omega) (by kernel_rfl) ⟨j+1,_,O,(m.sel [false,false,true]),by omega,by omega,O⟩
      ·
       apply aJ 6 [0,0] m;simp only[↓aD];refine bG O ?_ ?_<;>intro hc4
       ·
        apply aJ 4 [0] m;simp only[↓aD];refine aB (aF cH aP O O (by omega) (by omega) (cQ (ah _))) ?_;simp only[zz];refine aR O (show fZ _ _ _ _ (tr t) from (hrow.ext m.ext).lies cF aP) ?_;simp only[zz];refine eZ O ?_;intro u g1 e_ h_ k_;replace m:=m.newB e_ h_ k_;simp only[zz];refine bL m 1 O O cH jK O (by decide) O O O (m.b 0 O).rowsO (gB O) (by omega) (by omega) ?_;intro A7 cap7 u m;simp only[zF,zG] at m;rw[show us.flatMap aN++_=(us++[t]).flatMap aN by rw[ay];rfl] at m;apply aL 8 [0] m;simp only[↓aD];refine⟨by omega,?_⟩;exact hK1 (N-(k+1)) _ _ (by omega) (by kernel_rfl) ⟨k+1,_,_,_,_,O,(m.sel [false,true]),by rw[aw,hul];rfl,fun u hu=>(bi.1 hu).elim (hui u) fun h=>by cases bf.1 h;exact hit,by omega,by omega,O⟩
       ·
        apply aJ 7 [0] m;simp only[↓aD];refine⟨by omega,?_⟩;exact hK1 (N-(k+1)) _ _ (by omega) (by kernel_rfl) ⟨k+1,_,_,_,_,O,m,hul,hui,by omega,by omega,O⟩
   ·
    apply aJ 7 [] m;simp only[↓aD];exact aT O O ⟨_,O,m.ext,us,⟨by omega,hui⟩,_,_,_,hul.symm,O,(m.o 0 O)⟩
theorem amf(w:aj)(hT:bV w A N ts)(hNl:N≤1536)(hax:0≤ax∧ax<256)(hat:0≤at0∧at0<65536):dQ prog 48 [.slice A N cap,.int .u8 ax,.int .u16 at0] w (fun v w'=>∃(us:List T3) (A':Option Addr) (n' c':Nat),v=.slice A' n' c'∧bV w' A' n' us∧n'≤N):=by
 refine⟨bK func48 (by kernel_rfl),?_⟩;have m:=Mem.refl w;have e1:ax.tmod 4=ax%4:=i_ hax.1;have e2:at0.tmod 1500=at0%1500:=i_ hat.1
 go_enter func48,ntmps48
 apply fF 8 [0] m;simp only[↓aD];refine aB (cP O O (by omega) e1) ?_;apply aL 2 [0,0] m;simp only[↓aD];refine bG O ?_ ?_<;>intro hc1
 ·
  apply aJ 6 [] m;simp only[↓aD];exact aT O O ⟨_,O,m.ext,ts,_,_,_,O,hT.ext m.ext,aq _⟩
 ·
  obtain⟨a,ha,ha3⟩:∃a:Nat,ax%4=(a:Int)∧a<3:=⟨(ax%4).toNat,by omega,by omega⟩
  apply aJ 5 [0] m;simp only[↓aD];refine aB (cP O O (by omega) (e1.trans ha)) ?_;apply aL 2 [0] m;simp only[↓aD,xM,Mc];refine⟨by omega,?_⟩;refine aB (cP O O (by omega) e2) ?_;apply aL 2 [0] m;simp only[↓aD,asN,Mc];refine⟨by omega,?_⟩;refine bJ O O (aeW _ (hT.ext m.ext) hNl ha3) ?_;rintro v u e_ ⟨us,⟨hl,hui⟩,A9,cap9,n9,hn9,rfl,h_⟩;replace m:=m.newO e_ h_;apply aL 3 [] m;simp only[↓aD];exact aT O O ⟨_,O,m.ext,us,_,_,_,O,(m.o 0 O).tris hui,by omega⟩
theorem ahR(w:aj)(hL:vJ akv 1 w A N zs)(hcp:N≤cap)(hI:∀z∈zs,sP z)(hax:0≤ax∧ax<256)(hat:0≤at0∧at0<65536):dQ prog 15 [.slice A N cap,.int .u8 ax,.int .u16 at0] w (fun v w'=>∃(us:List T3) (A':Option Addr) (n' c':Nat),v=.slice A' n' c'∧bV w' A' n' us∧n'≤1536):=by
 refine⟨bK func15 (by kernel_rfl),?_⟩;have m:=Mem.refl w;have hl:=hL.len;obtain⟨M,hM⟩:∃M,M=min 4 N:=⟨_,rfl⟩
 go_enter func15,ntmps15
 apply fF 10 [] m;simp only[↓aD,kM];rw[show (if (4:Int)<(N:Int) then (4:Int) else (N:Int))=(M:Int) by split <;> omega];refine go (aB (mF dH aU O O (ah _) (by omega) (by omega)) ?_);simp only[zz];refine bJ O O (Uj _ ((hL.ext m.ext).take (show M≤N by omega)) (fun z hz=>hI z (ld hz))) ?_;rintro v u e_ ⟨vt,hBo,⟨hl0,hit⟩,A8,cap8,n8,hn8,rfl,h_⟩;replace m:=m.newO e_ h_;apply aL 2 [0] m;simp only[↓aD];refine bJ O O (amf (ts:=Gb vt) _ ((m.o 0 O).tris hit) (by omega) hax hat) ?_;rintro v u e_ ⟨us,A9,n9,c9,rfl,hT9,hn9⟩;replace m:=m.ext' e_;apply aL 3 [] m;simp only[↓aD];exact aT O O ⟨_,O,m.ext,us,_,_,_,O,hT9,by omega⟩
theorem aoK{x y:Int}(w:aj)(hL:vJ akv 1 w A N zs)(hcp:N≤cap)(hI:∀z∈zs,sP z)(hx:0≤x∧x<65536)(hy:0≤y∧y<65536):dQ prog 27 [.slice A N cap,.agg #[.int .u16 x,.int .u16 y]] w (fun v w'=>∃(us:List T3) (A':Option Addr) (n' c':Nat),v=.slice A' n' c'∧bV w' A' n' us∧n'≤1536∧fH true us=0):=by
 refine⟨bK func27 (by kernel_rfl),?_⟩;have m:=Mem.refl w;have hl:=hL.len;obtain⟨M,hM⟩:∃M,M=min 4 N:=⟨_,rfl⟩
 go_enter func27,ntmps27
 apply jP 10 [0,0] m;simp only[↓aD,ao3,ao2,ad,ag,aa];intro g1;refine⟨by omega,?_⟩;intro u m;refine aB (jA Vt underlying23 O (show IntKind.u8.wrap x=x%256 from O)) ?_;apply aL 2 [0,0] m;simp only[↓aD,ao3,ao2,ad,ag,aa];refine⟨by omega,?_⟩;refine bJ O O (ahR _ (hL.ext m.ext) hcp hI (by omega) hy) ?_;rintro v u e_ ⟨us,A9,n9,c9,rfl,hT9,hn9⟩;replace m:=m.ext' e_;apply aL 6 [0] m;simp only[↓aD];refine bJ O O (aaA _ hT9 (by omega)) ?_;rintro v u e_ rfl;replace m:=m.ext' e_;replace hT9:=hT9.ext e_;apply aL 2 [0,0] m;simp only[↓aD];refine bG O ?_ ?_<;>intro hc1
 ·
  apply aJ 6 [] m;simp only[↓aD,kM];rw[show (if (4:Int)<(N:Int) then (4:Int) else (N:Int))=(M:Int) by split <;> omega];refine go (aB (mF dH aU O O (ah _) (by omega) (by omega)) ?_);simp only[zz];refine bJ O O (Uj _ ((hL.ext m.ext).take (show M≤N by omega)) (fun z hz=>hI z (ld hz))) ?_;rintro v u e_ ⟨vt,hBo,⟨hl0,hit⟩,A8,cap8,n8,hn8,rfl,h_⟩;replace m:=m.newO e_ h_;apply aL 3 [] m;simp only[↓aD];exact aT O O ⟨_,O,m.ext,Gb vt,_,_,_,O,(m.o 0 O).tris hit,by omega,aei hBo⟩
 ·
  apply aJ 7 [] m;simp only[↓aD];exact aT O O ⟨_,O,m.ext,us,_,_,_,O,hT9,by omega,by omega⟩
theorem ahS[IT s][IT t]:dT prog 81 [tr s,tr t] (.bool (mS s t)):=by
 intro w;refine⟨bK func81 (by kernel_rfl),?_⟩;have m:=Mem.refl w
 go_enter func81,ntmps81
 apply jP 6 [] m;simp only[↓aD];intro g1 g2 u m;apply aW 4 [1,0,0] m;simp only[↓aD,eL];refine bJ O O (Uo (s:=s) (t:=t) _) ?_;rintro v u e_ ⟨A5,n5,c5,A6,n6,c6,rfl,hn5,hn6,hM⟩;replace m:=m.plus hM;clear hM;simp only[cn,b_] at m;apply aL 10 [2,3,0] m;simp only[↓aD,eL];refine bJ O O (Uo (s:=t) (t:=s) _) ?_;rintro v u e_ ⟨A7,n7,c7,A8,n8,c8,rfl,hn7,hn8,hM⟩;replace m:=m.plus hM;clear hM;simp only[cn,b_] at m;apply aL 9 [5,0] m;simp only[↓aD,eL];refine nV m O O (Qe (t:=s)) 5 [4,0] ?_;simp only[↓aD,eL];intro u m;refine nV m O O (Qe (t:=t)) 9 [0,0] ?_;simp only[↓aD,kZ];intro u m;refine bB O (fun hb=>aI) (aB (cE O O O) ?_);apply aL 1 [0] m;simp only[↓aD];refine bB O (fun hb=>aI) (aB (cE O O O) ?_);apply aL 1 [0] m;simp only[↓aD];refine dK O ?_ ?_<;>intro hc1
 ·
  rw[Au,Au] at hc1;apply aJ 4 [5,4,0] m;simp only[↓aD,eL];refine nV m O O (acT (s:=s) (t:=t)) 3 [] ?_;simp only[↓aD];intro u m;refine aT O O ?_;try simp only[zD,zE]
  exact⟨_,O,m.ext,by rw[alk hn5 hc1]⟩
 ·
  rw[Au,Au] at hc1;obtain⟨⟨hz,hf1,hf2⟩,hme⟩:=alm hn5 hc1;apply aJ 3 [] m;simp only[↓aD];rcases Tx hf1 hf2 hz with ⟨xa,ua,ub,va,vb,h1,h2,h3⟩ | ⟨xa,xb,ua,va,h1,h2,h3⟩ | h1
  ·
   rw[h1] at hn5;rw[h2] at hn6;rw[h3] at hn8;have i1:I3 ua:=sX (i:=0) h2 rfl;have i2:I3 ub:=sX (i:=1) h2 rfl;have i3:I3 va:=sX (i:=0) h3 rfl;have i4:I3 vb:=sX (i:=1) h3 rfl;simp only[av,bv] at hn5 hn6 hn8;subst hn5;subst hn6;subst hn8;rw[h1,h2,h3] at m;obtain⟨g5,rfl⟩:=(m.o 3 rfl).some (by decide);obtain⟨g6,rfl⟩:=(m.o 2 rfl).some (by decide);obtain⟨g8,rfl⟩:=(m.o 0 rfl).some (by decide);apply aW 12 [1,0] m;simp only[↓aD,kZ];refine⟨by omega,?_⟩;refine mq m aC (by kernel_rfl) (aG aI ?_);simp only[zz];refine aG (aF cT aA O O (by decide) (by omega) O) ?_;simp only[zz];refine ql O (fun u m=>(((m.o 2 O).at (enc:=lA) (i:=0) yO O).lies aH aA)) ?_;simp only[zz];refine aG aI ?_;simp only[zz];refine aG (aF cT aA O O (by decide) (by omega) O) ?_;simp only[zz];refine ql O (fun u m=>(((m.o 2 O).at (enc:=lA) (i:=1) yO O).lies aH aA)) ?_;simp only[zz];refine ql O (fun u m=>((m.b 4 O).full cF aP)) ?_;simp only[zz];refine eX O O (nL (p:=ua) (q:=ub) (t:=t)) (aG aO (bC ?_));intro u m;apply aW 1 [0] m;simp only[↓aD];refine mq m aC (by kernel_rfl) (aG aI ?_);simp only[zz];refine aG (aF cT aA O O (by decide) (by omega) O) ?_;simp only[zz];refine ql O (fun u m=>(((m.o 0 O).at (enc:=lA) (i:=0) yO O).lies aH aA)) ?_;simp only[zz];refine aG aI ?_;simp only[zz];refine aG (aF cT aA O O (by decide) (by omega) O) ?_;simp only[zz];refine ql O (fun u m=>(((m.o 0 O).at (enc:=lA) (i:=1) yO O).lies aH aA)) ?_;simp only[zz];refine ql O (fun u m=>((m.b 5 O).full cF aP)) ?_;simp only[zz];refine eX O O (nL (p:=va) (q:=vb) (t:=s)) (aG aO (bC ?_));intro u m;apply aW 4 [0] m;simp only[↓aD];refine bB O (fun hb=>aI) (aB (cE O O O) ?_);apply aL 3 [] m;simp only[↓aD];refine aT O O ?_;try simp only[zD,zE]
   exact⟨_,O,m.ext,by rw[hme,h1,h2,h3];rfl⟩
  ·
   rw[h1] at hn5;rw[h2] at hn6;rw[h3] at hn8;have i1:I3 xa:=aaR (i:=0) h1 rfl;have i2:I3 xb:=aaR (i:=1) h1 rfl;have i3:I3 ua:=sX (i:=0) h2 rfl;have i4:I3 va:=sX (i:=0) h3 rfl;simp only[av,bv] at hn5 hn6 hn8;subst hn5;subst hn6;subst hn8;rw[h1,h2,h3] at m;obtain⟨g5,rfl⟩:=(m.o 3 rfl).some (by decide);obtain⟨g6,rfl⟩:=(m.o 2 rfl).some (by decide);obtain⟨g8,rfl⟩:=(m.o 0 rfl).some (by decide);apply aW 18 [2,1,0] m;simp only[↓aD,kZ];refine⟨by omega,?_⟩;refine eQ 11 [0,1,2,3,4,5,6,7,8,9] [⟨10,13,36,[.int .i64 0,.int .i64 0,.int .i64 0]⟩] aC (by kernel_rfl) (al1 ⟨_,_,_,O,by kernel_rfl,_,Ed,O⟩) (ol:=?_) ?hol ?_
   case hol=>simp only[zw,zQ,zR];try rfl
   intro u e_;replace m:=m.ext' e_;refine jY aI ?_;simp only[zz];refine jY (aF cT aA O O (by decide) (by omega) O) ?_;simp only[zz];refine eP O (fun u e=>((((m.ext' e).o 3 O).at (enc:=lA) (i:=0) yO O).lies aH aA)) ?_;simp only[zz];refine jY aI ?_;simp only[zz];refine jY (aF cT aA O O (by decide) (by omega) O) ?_;simp only[zz];refine eP O (fun u e=>((((m.ext' e).o 3 O).at (enc:=lA) (i:=1) yO O).lies aH aA)) ?_;simp only[zz];refine jY aI ?_;simp only[zz];refine jY (aF cT aA O O (by decide) (by omega) O) ?_;simp only[zz];refine eP O (fun u e=>((((m.ext' e).o 2 O).at (enc:=lA) (i:=0) yO O).lies aH aA)) ?_;simp only[zz];refine eV O O (gJ (a:=xa) (b:=xb) (c:=ua)) (Cb ?_);simp only[zz];refine mf1 m ?_;intro g3 u m;simp only[zJ,zK,zF,zG];refine bP m 0 O O O jC (gV O) O ?_;intro u m;simp only[zy,zx,over,zF,zG,aa] at m;refine aM ?_;apply aW 1 [0] m;simp only[↓aD];refine eQ 11 [0,1,2,3,4,5,6,7,8,9] [⟨10,14,36,[.int .i64 0,.int .i64 0,.int .i64 0]⟩] aC (by kernel_rfl) (al1 ⟨_,_,_,O,by kernel_rfl,_,Ed,O⟩) (ol:=?_) ?hol ?_
   case hol=>simp only[zw,zQ,zR];try rfl
   intro u e_;replace m:=m.ext' e_;refine jY aI ?_;simp only[zz];refine jY (aF cT aA O O (by decide) (by omega) O) ?_;simp only[zz];refine eP O (fun u e=>((((m.ext' e).o 4 O).at (enc:=lA) (i:=0) yO O).lies aH aA)) ?_;simp only[zz];refine jY aI ?_;simp only[zz];refine jY (aF cT aA O O (by decide) (by omega) O) ?_;simp only[zz];refine eP O (fun u e=>((((m.ext' e).o 4 O).at (enc:=lA) (i:=1) yO O).lies aH aA)) ?_;simp only[zz];refine jY aI ?_;simp only[zz];refine jY (aF cT aA O O (by decide) (by omega) O) ?_;simp only[zz];refine eP O (fun u e=>((((m.ext' e).o 1 O).at (enc:=lA) (i:=0) yO O).lies aH aA)) ?_;simp only[zz];refine eV O O (gJ (a:=xa) (b:=xb) (c:=va)) (Cb ?_);simp only[zz];refine mf1 m ?_;intro g4 u m;simp only[zJ,zK,zF,zG];refine bP m 0 O O O jC (gV O) O ?_;intro u m;simp only[zy,zx,over,zF,zG,aa] at m;refine aM ?_;apply aW 1 [0] m;simp only[↓aD];refine mq m aC (by kernel_rfl) (aG aI ?_);simp only[zz];refine aG (aF cT aA O O (by decide) (by omega) O) ?_;simp only[zz];refine ql O (fun u m=>(((m.o 5 O).at (enc:=lA) (i:=0) yO O).lies aH aA)) ?_;simp only[zz];refine aG aI ?_;simp only[zz];refine aG (aF cT aA O O (by decide) (by omega) O) ?_;simp only[zz];refine ql O (fun u m=>(((m.o 5 O).at (enc:=lA) (i:=1) yO O).lies aH aA)) ?_;simp only[zz];refine aG aI ?_;simp only[zz];refine aG (aF cT aA O O (by decide) (by omega) O) ?_;simp only[zz];refine ql O (fun u m=>(((m.o 4 O).at (enc:=lA) (i:=0) yO O).lies aH aA)) ?_;simp only[zz];refine aG aI ?_;simp only[zz];refine aG (aF cT aA O O (by decide) (by omega) O) ?_;simp only[zz];refine ql O (fun u m=>(((m.o 2 O).at (enc:=lA) (i:=0) yO O).lies aH aA)) ?_;simp only[zz];refine eX O O (nK (a:=xa) (b:=xb) (c:=ua) (d:=va)) (aG (uJ O O) (aG aI ?_));simp only[zz];refine eR O (fun hb u m=>aZ O ((m.b 1 O).full uR jC)) (eR O (fun hb u m=>aZ O ((m.b 0 O).full uR jC)) (dU O (fun hb=>Eh (aY hb O) (aY hb O)) (aG (cC O O O) (aG aO (bC ?_)))));intro u m;apply aW 1 [] m;simp only[↓aD];refine aT O O ?_;try simp only[zD,zE]
   exact⟨_,O,m.ext,by rw[hme,h1,h2,h3];exact congrArg bn alo⟩
  ·
   rw[h1] at hn5;subst hn5;apply aW 24 [2,2] m;simp only[↓aD,kZ];refine⟨by omega,?_⟩;refine aT O O ?_;try simp only[zD,zE]
   exact⟨_,O,m.ext,by rw[hme,alp h1]⟩
theorem apH{r:T3}[IT t][IT r]:dT prog 179 [tr t,tr r] (.int .i64 (agX t r)):=by
 intro w;refine⟨bK func179 (by kernel_rfl),?_⟩;have m:=Mem.refl w
 go_enter func179,ntmps179
 apply jP 7 [0] m;simp only[↓aD];intro g1 g2 u m;refine mq m aC (by kernel_rfl) (ql O (fun u m=>((m.b 1 O).full cF aP)) ?_);simp only[zz];refine eX O O Yr ?_;simp only[zz];refine ql O (fun u m=>((m.b 0 O).full cF aP)) ?_;simp only[zz];refine eX O O Yr ?_;simp only[zz];refine eX O O (Uk Bv.of Bv.of) ?_;simp only[zz];refine eX O O (Kc Bw.up) (aG aO (bC ?_));intro u m;apply aW 1 [] m;simp only[↓aD];exact aT O O ⟨_,O,m.ext,O⟩
theorem atY(a b c:Int):(if (if a<b then b else a)<c then c else if a<b then b else a)=max (max a b) c:=by omega
theorem atZ(a b c:Int):(if c<(if b<a then b else a) then c else if b<a then b else a)=min (min a b) c:=by omega
theorem aoL  : (((decide (max (max s.a.x s.b.x) s.c.x<min (min t.a.x t.b.x) t.c.x)||decide (max (max t.a.x t.b.x) t.c.x<min (min s.a.x s.b.x) s.c.x))||(decide (max (max s.a.y s.b.y) s.c.y<min (min t.a.y t.b.y) t.c.y)||decide (max (max t.a.y t.b.y) t.c.y<min (min s.a.y s.b.y) s.c.y)))||(decide (max (max s.a.z s.b.z) s.c.z<min (min t.a.z t.b.z) t.c.z)||decide (max (max t.a.z t.b.z) t.c.z<min (min s.a.z s.b.z) s.c.z))) = !oM s t:=by
 unfold oM;rw[Bool.not_and,Bool.not_and,pf,pf,pf];rfl
theorem aeX  : dT prog 80 [tr s,tr t] (.bool (!oM s t)):=by
 intro w;refine⟨bK func80 (by kernel_rfl),?_⟩;have m:=Mem.refl w
 go_enter func80,ntmps80
 apply jP 4 [] m;simp only[↓aD];intro g1 g2 u m;apply aW 10 [1,1] m;simp only[↓aD,bT,gE,cY,ad,ag,aa];refine⟨by omega,?_⟩;apply aW 3 [1,0] m;simp only[↓aD,bT,gE,cY,ad,ag,aa];refine⟨by omega,?_⟩;refine aB (Hi O O O O) ?_;apply aL 7 [0,0] m;simp only[↓aD,bT,gE,cY,ad,ag,aa];refine⟨by omega,?_⟩;apply aW 2 [0,0] m;simp only[↓aD,gE,cY,aa];refine aB (Hh O O O O) ?_;apply aL 2 [0,0] m;simp only[↓aD];refine bB O (fun hb=>aK cM aA O O (by decide) (by decide) O) (bB O (fun hb=>aV (c:=0) fT O aU (aY hb O) O) ?_);simp only[zz];refine cA O (fun hb=>aZ (aY hb O) ((m.b 0 O).lies1 bD O)) (bB O (fun hb=>aK cM aA O O (by decide) (by decide) O) (bB O (fun hb=>aV (c:=0) fT O aU (aY hb O) O) ?_));simp only[zz];refine cA O (fun hb=>aZ (aY hb O) ((m.b 0 O).lies1 bD O)) (bB O (fun hb=>aK cM aA O O (by decide) (by decide) O) (bB O (fun hb=>aV (c:=0) fT O aU (aY hb O) O) ?_));simp only[zz];refine cA O (fun hb=>aZ (aY hb O) ((m.b 0 O).lies1 bD O)) (bB O (fun hb=>Hi (aY hb O) (aY hb O) (aY hb O) O) (bB O (fun hb=>aK cM aA O O (by decide) (by decide) O) (bB O (fun hb=>aV (c:=0) fT O aU (aY hb O) O) ?_)));simp only[zz];refine cA O (fun hb=>aZ (aY hb O) ((m.b 1 O).lies1 bD O)) (bB O (fun hb=>aK cM aA O O (by decide) (by decide) O) (bB O (fun hb=>aV (c:=0) fT O aU (aY hb O) O) ?_));simp only[zz];refine cA O (fun hb=>aZ (aY hb O) ((m.b 1 O).lies1 bD O)) (bB O (fun hb=>aK cM aA O O (by decide) (by decide) O) (bB O (fun hb=>aV (c:=0) fT O aU (aY hb O) O) ?_));simp only[zz];refine cA O (fun hb=>aZ (aY hb O) ((m.b 1 O).lies1 bD O)) (bB O (fun hb=>Hh (aY hb O) (aY hb O) (aY hb O) O) (bB O (fun hb=>rR (aY hb O) (aY hb O)) (aB (cE O O O) ?_)));apply aL 10 [1,1] m;simp only[↓aD,bT,gI,cY,ad,ag,aa];refine⟨by omega,?_⟩;apply aW 3 [1,0] m;simp only[↓aD,bT,gI,cY,ad,ag,aa];refine⟨by omega,?_⟩;refine aB (Hi O O O O) ?_;apply aL 7 [0,0] m;simp only[↓aD,bT,gI,cY,ad,ag,aa];refine⟨by omega,?_⟩;apply aW 2 [0,0] m;simp only[↓aD,gI,cY,aa];refine aB (Hh O O O O) ?_;apply aL 2 [0,0] m;simp only[↓aD];refine bB O (fun hb=>aK cM aA O O (by decide) (by decide) O) (bB O (fun hb=>aV (c:=0) fT O aU (aY hb O) O) ?_);simp only[zz];refine cA O (fun hb=>aZ (aY hb O) ((m.b 0 O).lies1 bD O)) (bB O (fun hb=>aK cM aA O O (by decide) (by decide) O) (bB O (fun hb=>aV (c:=0) fT O aU (aY hb O) O) ?_));simp only[zz];refine cA O (fun hb=>aZ (aY hb O) ((m.b 0 O).lies1 bD O)) (bB O (fun hb=>aK cM aA O O (by decide) (by decide) O) (bB O (fun hb=>aV (c:=0) fT O aU (aY hb O) O) ?_));simp only[zz];refine cA O (fun hb=>aZ (aY hb O) ((m.b 0 O).lies1 bD O)) (bB O (fun hb=>Hi (aY hb O) (aY hb O) (aY hb O) O) (bB O (fun hb=>aK cM aA O O (by decide) (by decide) O) (bB O (fun hb=>aV (c:=0) fT O aU (aY hb O) O) ?_)));simp only[zz];refine cA O (fun hb=>aZ (aY hb O) ((m.b 1 O).lies1 bD O)) (bB O (fun hb=>aK cM aA O O (by decide) (by decide) O) (bB O (fun hb=>aV (c:=0) fT O aU (aY hb O) O) ?_));simp only[zz];refine cA O (fun hb=>aZ (aY hb O) ((m.b 1 O).lies1 bD O)) (bB O (fun hb=>aK cM aA O O (by decide) (by decide) O) (bB O (fun hb=>aV (c:=0) fT O aU (aY hb O) O) ?_));simp only[zz];refine cA O (fun hb=>aZ (aY hb O) ((m.b 1 O).lies1 bD O)) (bB O (fun hb=>Hh (aY hb O) (aY hb O) (aY hb O) O) (bB O (fun hb=>rR (aY hb O) (aY hb O)) (aB (cE O O O) ?_)));apply aL 10 [1,1] m;simp only[↓aD,bT,iX,cY,ad,ag,aa];refine⟨by omega,?_⟩;apply aW 3 [1,0] m;simp only[↓aD,bT,iX,cY,ad,ag,aa];refine⟨by omega,?_⟩;refine aB (Hi O O O O) ?_;apply aL 7 [0,0] m;simp only[↓aD,bT,iX,cY,ad,ag,aa];refine⟨by omega,?_⟩;apply aW 2 [0,0] m;simp only[↓aD,iX,cY,aa];refine aB (Hh O O O O) ?_;apply aL 2 [0,0] m;simp only[↓aD];refine bB O (fun hb=>aK cM aA O O (by decide) (by decide) O) (bB O (fun hb=>aV (c:=0) fT O aU (aY hb O) O) ?_);simp only[zz];refine cA O (fun hb=>aZ (aY hb O) ((m.b 0 O).lies1 bD O)) (bB O (fun hb=>aK cM aA O O (by decide) (by decide) O) (bB O (fun hb=>aV (c:=0) fT O aU (aY hb O) O) ?_));simp only[zz];refine cA O (fun hb=>aZ (aY hb O) ((m.b 0 O).lies1 bD O)) (bB O (fun hb=>aK cM aA O O (by decide) (by decide) O) (bB O (fun hb=>aV (c:=0) fT O aU (aY hb O) O) ?_));simp only[zz];refine cA O (fun hb=>aZ (aY hb O) ((m.b 0 O).lies1 bD O)) (bB O (fun hb=>Hi (aY hb O) (aY hb O) (aY hb O) O) (bB O (fun hb=>aK cM aA O O (by decide) (by decide) O) (bB O (fun hb=>aV (c:=0) fT O aU (aY hb O) O) ?_)));simp only[zz];refine cA O (fun hb=>aZ (aY hb O) ((m.b 1 O).lies1 bD O)) (bB O (fun hb=>aK cM aA O O (by decide) (by decide) O) (bB O (fun hb=>aV (c:=0) fT O aU (aY hb O) O) ?_));simp only[zz];refine cA O (fun hb=>aZ (aY hb O) ((m.b 1 O).lies1 bD O)) (bB O (fun hb=>aK cM aA O O (by decide) (by decide) O) (bB O (fun hb=>aV (c:=0) fT O aU (aY hb O) O) ?_));simp only[zz];refine cA O (fun hb=>aZ (aY hb O) ((m.b 1 O).lies1 bD O)) (bB O (fun hb=>Hh (aY hb O) (aY hb O) (aY hb O) O) (bB O (fun hb=>rR (aY hb O) (aY hb O)) (aB (cE O O O) ?_)));apply aL 6 [0] m;simp only[↓aD];refine bB O (fun hb=>aI) (aB (cE O O O) ?_);apply aL 1 [0] m;simp only[↓aD];refine bB O (fun hb=>aI) (aB (cE O O O) ?_);apply aL 3 [] m;simp only[↓aD];refine aT O O ?_;try simp only[zD,zE]
 exact⟨_,O,m.ext,by simp only[atY,atZ];rw[aoL]⟩
def On(t s:T3):Bool:=!decide (dL s=dL t)&&De (dL s) (dL t)
theorem at1{x y:T3}:decide ((x).a.x=(y).a.x∧(x).a.y=(y).a.y∧(x).a.z=(y).a.z∧(x).b.x=(y).b.x∧(x).b.y=(y).b.y∧(x).b.z=(y).b.z∧(x).c.x=(y).c.x∧(x).c.y=(y).c.y∧(x).c.z=(y).c.z)=decide (x=y):=decide_eq_decide.2 ⟨fun⟨h1,h2,h3,h4,h5,h6,h7,h8,h9⟩=>Rz (P3.eq h1 h2 h3) (P3.eq h4 h5 h6) (P3.eq h7 h8 h9),fun h=>by rw[h];simp only[and_self]⟩
theorem aoM(h:(decide (dL s=dL t) || !oM (dL s) (dL t))=true):On t s=false:=by
 unfold On De;rcases ep _ _ |>.mp h with h | h
 · rw[h];rfl
 · rw[Bool.not_eq_true'] at h;rw[h,Bool.false_and,jg]
theorem at2(h:(decide (dL s=dL t) || !oM (dL s) (dL t))=false):On t s=mS (dL s) (dL t):=by
 rw[ie] at h;unfold On De;have h2:oM (dL s) (dL t)=true:=by have:=h.2;simpa using this
 rw[h.1,h2];rfl
theorem auN(h:l[k]? = some s)(hb:On t s=true):Df t l=true:=List.any_eq_true.2 ⟨s,bh h,hb⟩
theorem auO{n:Nat}(hn:l.length≤n)(h:∀j s,j<n→l[j]? = some s→On t s=false):Df t l=false:=List.any_eq_false.2 fun s hs k=>by
 obtain⟨j,hj⟩:=List.mem_iff_getElem?.1 hs;have:=h j s (by have:=(ap.1 hj).1;omega) hj;unfold On at this;rw[this] at k;cases k
theorem Uq[hit:IT t](w:aj)(hT:bV w A N ts)(hN:N≤10000000):dQ prog 33 [tr t,.slice A N cap] w (fun v _=>v=.bool (Df t ts)):=by
 refine⟨bK func33 (by kernel_rfl),?_⟩;have m:=Mem.refl w;have htl:=hT.len;haveI:IT (dL t):=aec hit
 go_enter func33,ntmps33
 apply jP 8 [0,0] m;simp only[↓aD,eL];intro g1 u m;refine nV m O O (Mg (t:=t)) 8 [0,0] ?_;simp only[↓aD,eL,aa];intro u m;refine bX [5] [4,6,7,10,11,12,13,14,15,16,17,18,19,20,21,22,23,24,25,26,27,28,29,30,31,32] (fun n vs wl=>∃(k:Nat),vs=[.int .i64 (k:Int)]∧Mem w wl [bI g1 [.int .i64 (dL t).a.x,.int .i64 (dL t).a.y,.int .i64 (dL t).a.z,.int .i64 (dL t).b.x,.int .i64 (dL t).b.y,.int .i64 (dL t).b.z,.int .i64 (dL t).c.x,.int .i64 (dL t).c.y,.int .i64 (dL t).c.z] 39]∧(∀j s,j<k→ts[j]? = some s→On t s=false)∧(k≤N)∧(n=N-k)) ?_ ?_
 ·
  exact⟨_,0,O,m,(fun _ _ h=>absurd h (Nat.not_lt_zero _)),cv _,O⟩
 · intro n vs wr hI u K1 hK1
   obtain⟨k,rfl,m,hq,hk,hn⟩:=hI;simp only[zu,zF,zG];apply aJ 8 [0,0] m;simp only[↓aD,kA];refine bG O ?_ ?_<;>intro hc1
   ·
    obtain⟨x,hx,hix,a,hA,hrow⟩:=hT.get (i:=k) (by omega);subst hA;haveI:IT (dL x):=aec hix;apply aJ 7 [0] m;simp only[↓aD];refine aB (aF cH aP O O (by omega) (by omega) (cQ (ah _))) ?_;simp only[zz];refine aR O ((hrow.ext m.ext).lies cF aP) ?_;simp only[zz];refine nV m O O (Mg (t:=x)) 8 [0,0,1,0] ?_;simp only[↓aD,nX,eL,aa];intro g2 u m;refine aB (Wq O O) ?_;apply aL 1 [0] m;simp only[↓aD];refine cA O (fun hb=>aZ O ((m.b 0 O).full cF aP)) (cA O (fun hb=>aZ O ((m.b 1 O).full cF aP)) (Pc m O O (fun hb=>by simp only[List.toList_toArray,List.map_cons,List.map_nil,zA,zB,zC,zD,zE,hb,lS];rfl) (fun hb=>aeX (s:=dL x) (t:=dL t)) ?_));intro u m;refine aB (cE O O O) ?_;apply aL 1 [0] m;simp only[↓aD];refine dK O ?_ ?_<;>intro hc2
    ·
     rw[at1] at hc2;have hmb:=aoM hc2;apply aJ 6 [0] m;simp only[↓aD];refine⟨by omega,?_⟩;exact hK1 (N-(k+1)) _ _ (by omega) (by kernel_rfl) ⟨k+1, rfl, (m.sel [false, true]), (fun j s' hj hs' => by
      rcases Nat.lt_or_ge j k with h | h
      · exact hq j s' h hs'
      · obtain rfl:k=j:=by omega
        obtain rfl:=fq (hx.symm.trans hs');exact hmb),by omega,O⟩
    ·
     rw[at1] at hc2;have hmg:=at2 hc2;apply aJ 5 [0,1,0] m;simp only[↓aD,eL];refine nV m O O (ahS (s:=dL x) (t:=dL t)) 6 [0] ?_;simp only[↓aD];intro u m;refine dK O ?_ ?_<;>intro hc3
     ·
      have hmb:=hmg.trans hc3;apply aJ 5 [] m;simp only[↓aD];refine aT O O ?_;try simp only[zD,zE]
      exact⟨_,O,m.ext,by rw[auN hx hmb]⟩
     ·
      have hmb:=hmg.trans hc3;apply aJ 7 [0] m;simp only[↓aD];refine⟨by omega,?_⟩;exact hK1 (N-(k+1)) _ _ (by omega) (by kernel_rfl) ⟨k+1, rfl, (m.sel [false, true]), (fun j s' hj hs' => by
       rcases Nat.lt_or_ge j k with h | h
       · exact hq j s' h hs'
       · obtain rfl:k=j:=by omega
         obtain rfl:=fq (hx.symm.trans hs');exact hmb),by omega,O⟩
   ·
    obtain rfl:k=N:=by omega
    apply aJ 6 [] m;simp only[↓aD];refine aT O O ?_;try simp only[zD,zE]
    exact⟨_,O,m.ext,by rw[auO (by omega) hq]⟩
theorem aoN(h:∀t∈l,Df t l=false):Dg l:=fun s hs t ht hne=>(ab3.1 (h t ht)) s hs hne
theorem aoO(h:Dg l)(ht:t∈l):Df t l=false:=ab3.2 fun s hs hne=>h s hs t ht hne
theorem asa{Q:T3→Prop}(h:∀x∈l.take k,Q x)(ht:l[k]? = some t)(hq:Q t):∀x∈l.take (k+1),Q x:=fun x hx=>by
 rw[cJ ht] at hx;rcases bi.1 hx with hx | hx
 · exact h x hx
 · cases bf.1 hx;exact hq
theorem Oy{x y b:Int}(w:aj)(hL:vJ akv 1 w A N zs)(hcp:N≤cap)(hI:∀z∈zs,sP z)(hx:0≤x∧x<65536)(hy:0≤y∧y<65536)(hb:0≤b∧b<256):dQ prog 8 [.slice A N cap,.agg #[.int .u16 x,.int .u16 y],.int .u8 b] w (fun v _=>v=.bool true):=by
 refine⟨bK func8 (by kernel_rfl),?_⟩;have m:=Mem.refl w;have e40:b.tmod 40=b%40:=i_ hb.1
 go_enter func8,ntmps8
 apply jP 7 [0] m;simp only[↓aD];intro g1 u m;refine nV m O O amb 6 [0,0] ?_;simp only[↓aD,asO];intro u m;refine bJ O O (aoK _ (hL.ext m.ext) hcp hI hx hy) ?_;rintro v u e_ ⟨us,A8,n8,c8,rfl,hT8,hn8,hck⟩;replace m:=m.ext' e_;apply aL 2 [] m;simp only[↓aD];obtain⟨w1,rfl⟩:∃x,x=u:=⟨u,rfl⟩
 have hw1:=m.ext;replace m:=Mem.refl w1;apply aW 6 [0] m;simp only[↓aD];refine bX [9] [6,17,18,19,20,21,22,23,24,25,26,27,28,29] (fun n vs wl=>∃(k:Nat),vs=[.int .i64 (k:Int)]∧Mem w1 wl []∧(∀t∈us.take k,Df t us=false)∧(k≤n8)∧(n=n8-k)) ?_ ?_
 ·
  exact⟨_,0,O,m,by simp,by omega,O⟩
 · intro n vs wr hI u K1 hK1
   obtain⟨k,rfl,m,hno,hk,hn⟩:=hI;simp only[zu,zF,zG];apply aJ 8 [0,0] m;simp only[↓aD,kA];refine bG O ?_ ?_<;>intro hc1
   ·
    obtain⟨t,ht,hit,a,hA,hrow⟩:=hT8.get (i:=k) (by omega);subst hA;apply aJ 7 [0] m;simp only[↓aD];refine aB (aF cH aP O O (by omega) (by omega) (cQ (ah _))) ?_;simp only[zz];refine aR O (show fZ _ _ _ _ (tr t) from (hrow.ext m.ext).lies cF aP) ?_;simp only[zz];apply aL 1 [0] m;simp only[↓aD];refine dM m O O (Uq (t:=t) (hit:=hit) _ (hT8.ext m.ext) (by omega)) ?_;rintro v u m rfl;apply aL 1 [0] m;simp only[↓aD];refine gF O ?_ ?_<;>intro hc2
    ·
     apply aJ 6 [] m;simp only[↓aD];exact aT O O ⟨_,O,hw1.trans m.ext,O⟩
    ·
     apply aJ 7 [0] m;simp only[↓aD];refine⟨by omega,?_⟩;exact hK1 (n8-(k+1)) _ _ (by omega) (by kernel_rfl) ⟨k+1,O,m,asa hno ht hc2,by omega,O⟩
   ·
    have hf0:Dg us:=aoN fun t ht=>hno t (by rw[a_ (by have:=hT8.len;omega)];exact ht);apply aJ 5 [0] m;simp only[↓aD];refine aB (cP O O (by omega) e40) ?_;apply aL 1 [0] m;simp only[↓aD,xM,Mc];refine⟨by omega,?_⟩;refine bJ O O (Ui (ts:=us) _ (hT8.ext m.ext) (by omega) (by omega)) ?_;rintro v u e_ ⟨A7,n7,c7,A9,n9,c9,rfl,hn7,hn9,hM⟩;replace m:=m.plus hM;clear hM;simp only[cn,b_] at m;obtain⟨L,hL1⟩:∃L,L=(qD us (b%40)).1:=⟨_,rfl⟩
    have hul:=hT8.len;have hle:=ame (l:=us) (want:=b%40);have hLI:=amd (want:=b%40) (l:=us) hT8.it;have hfr:=ag4 (want:=b%40) hck hf0;rw[←hL1] at m hn7 hle hLI hfr;apply aL 12 [0] m;simp only[↓aD];refine bX [12] [6,38,39,40,41,42,43,44,45,46,47,48,49] (fun n vs wl=>∃(k:Nat),vs=[.int .i64 (k:Int)]∧Mem w1 wl [oI 39 9 A7 n7 c7 (L.flatMap aN)]∧(k≤n7)∧(n=n7-k)) ?_ ?_
    ·
     exact⟨_,0,O,(m.sel [false,true]),by omega,O⟩
    · intro n vs wr hI u K2 hK2
      obtain⟨k,rfl,m,hk,hn⟩:=hI;simp only[zu,zF,zG];apply aJ 8 [0,0] m;simp only[↓aD,kA];refine bG O ?_ ?_<;>intro hc3
      ·
       obtain⟨g,rfl⟩:=(m.o 0 rfl).some (by omega);obtain⟨t,ht⟩:∃t,L[k]? = some t:=⟨_,am (by omega)⟩
       apply aJ 7 [0] m;simp only[↓aD];refine aB (aF cH aP O O (by omega) (by omega) aeR) ?_;simp only[zz];refine aR O (show fZ _ _ _ _ (tr t) from (aoJ (m.o 0 O) ht).lies cF aP) ?_;simp only[zz];apply aL 1 [0] m;simp only[↓aD];refine dM m O O (Kt (Uq (t:=t) (hit:=hLI t (bh ht)) _ ((m.o 0 O).tris hLI) (by omega)) (by rw[aoO hfr (bh ht)])) ?_;rintro v u m rfl;apply aL 9 [0] m;simp only[↓aD];refine⟨by omega,?_⟩;exact hK2 (n7-(k+1)) _ _ (by omega) (by kernel_rfl) ⟨k+1,O,m,by omega,O⟩
      ·
       apply aJ 7 [] m;simp only[↓aD];exact aT O O ⟨_,O,hw1.trans m.ext,O⟩
end Go.Proofs.YtfekpcimgncioaaGreatDoor
namespace Go.Lith
open Go.RowKit Go.ChangeShapes
variable {H:Type} {enc:az × ai→H} {P:Program}
theorem Oo(hl:laidOutB P=true){W W':aj}(hb:fQ W W'){sp:Nat→Bool} :
 ∀{ts:List az} {vs:List ai} {ds:List (DataW H)} {ps:List MemPlace},(ts.all fun t=>P.readableRec t&&decide (t<P.types.size))=true→DataW.TrodAll enc P W 0 (fun _=>true) true ts vs ds ps→(∀p∈ps,sp p.block=true)→DataW.TrodAll enc P W' 0 sp true ts vs ds ps
 | [],[],[],_,_,h,_=>h
 | [],[],_::_,_,_,h,_=>h.elim
 | [],_::_,_,_,_,h,_=>h.elim
 | _::_,[],_,_,_,h,_=>h.elim
 | _::_,_::_,[],_,_,h,_=>h.elim
 | t::ts,v::vs,d::ds,ps,hv,h,hs=>by
  obtain⟨p,q,⟨n,h1⟩,h2,e⟩:=h;subst e;simp only[List.all_cons,be,decide_eq_true_eq] at hv;have hlt:=DataW.trod_lt n _ _ _ h1;exact⟨p,q,⟨n,DataW.trod_stays (kids_book hl hv.1.1) (book_sized hv.1.1) (fun h=>by cases h) ⟨hv.1.2,book_self t⟩ h1 (fun x hx=>Below.same hb (hlt x hx)) (fun x hx=>hs x (by simp[hx]))⟩,
   Oo hl hb (by simpa using hv.2) h2 (fun x hx=>hs x (by simp[hx])),rfl⟩
theorem acX{f:Func}{s:ChangeSpec}{apart fresh handsOn again:Bool}{W W':aj}{args:Array ai}{t:az}{ds gs:List (DataW H)}{before:List MemPlace}
 (hl:laidOutB P=true) (hps:(f.params.toList.all fun t=>P.readableRec t&&decide (t<P.types.size))=true) (hv:s.vars=[]) (hr:f.resultTypes = #[t]) (hu:P.underlying t=some .bool)
 (hW:DataW.Whole enc P f.params.toList s.vars apart W args.toList ds gs before) (hfn:(s.fn H (ds++gs)).results=[.lit (.bool true)]∧(s.fn H (ds++gs)).args=ds∧(s.fn H (ds++gs)).vars=[]) (hb:fQ W W') :
 s.post enc P f apart fresh handsOn again W args (.bool true) W':=by
 have hW0:=hW;obtain⟨p,q,hA,hV,rfl,hz,hn⟩:=hW0;rw[hv] at hV;obtain⟨rfl,rfl⟩:=trodVars_none hV;have hargs:∀sp:Nat→Bool,(∀x∈p++[],sp x.block=true)→DataW.TrodAll enc P W' 0 sp true f.params.toList args.toList (s.fn H (ds++[])).args p:=fun sp hsp=>by
  rw[hfn.2.1];exact Oo hl hb hps hA (fun x hx=>hsp x (by simp[hx]))
 have hvars:∀sp:Nat→Bool,DataW.TrodVars enc P W' sp s.vars (s.fn H (ds++[])).vars []:=fun sp=>by
  rw[hv,hfn.2.2];exact rfl
 have hres:∀(b:Nat) (sp:Nat→Bool) (hd:Bool),DataW.TrodAll enc P W' b sp hd f.resultTypes.toList ((bn true).resultList f.resultTypes.size) (s.fn H (ds++[])).results []:=fun b sp hd=>by
  rw[hr,hfn.1];exact trodAll_cons_mk (shut_bool hu true) trodAll_mk0
 have hok:∀(j:Nat) (t:az) (r:ai),f.resultTypes[j]? = some t→((bn true).resultList f.resultTypes.size)[j]? = some r→oo P W' .any 0 t r:=ok_one hr rfl (okWide_bool_mk hu _);have hlt:∀x∈p++[],x.block<W.heap.size:=hW.lt;have hold:∀x∈p++[],(fun b=>decide (b<W.heap.size)) x.block=true:=fun x hx=>by simpa using hlt x hx
 refine⟨ds,[],p++[],[],p,[],hW,hres _ _ _,hargs _ hold,hvars _,Below.frame hb _,fun _=>?_⟩;refine⟨hok,_,_,([]++p)++[],⟨[]++p,[],trodAll_append (hargs _ (fun _ _=>rfl)) (hres _ _ _),hvars _,O,?_,?_⟩,?_⟩
 · intro b off hp
   have h1:MemPlace.cell b off∈p++[]:=by simpa using hp
   rw[Below.frozen hb (p:=⟨b,off,none⟩) (hlt _ h1)];exact hz b off h1
 · intro ha
   simpa using hn ha
 · intro x hp _
   simpa using hp
end Go.Lith
