/-
 Texts of one claim, laid together: K36, K42, K43, K44, K45, K63, K46, K37, K38, K39, K40, K47, K48, K49, K34, K50, K51, Open5, K35, Open7, K64, Join.
-/
import Derived.OpenVars
import Derived.OpenShut
import Derived.WalkKit
import Derived.ProofKit
import Derived.Test.YtfekpcimgncioaaGreatDoorCA8
open Nat renaming reduceAdd→aa,reduceMul→ag,zero_add→aq,zero_le→bw,lt_or_ge→dq,not_lt_zero→je
open Int renaming reduceToNat→ad,toNat_natCast→ah,reduceAdd→ak,eq_ofNat_of_zero_le→ng
open Go renaming Value→ai,World→aj,TypeId→az
open List renaming getElem?_eq_getElem→am,getElem?_eq_some_iff→ap,length_append→au,length_cons→aw,take_of_length_le→ay,flatMap_append→a_,mem_of_getElem?→be,mem_singleton→bf,map_cons→bh,mem_append→bi,length_nil→bn,length_take→bv,nil_append→b_,not_mem_nil→cg,cons_append→cj,map_nil→cq,mem_iff_getElem?→dh,toList_toArray→dj,any_eq_true→el,append_nil→fe,any_eq_false→fx,filter_append→gj,mem_zipIdx_iff_getElem?→ij,foldl_append→iq
open Bool renaming and_eq_true→bg,or_eq_true→ej,not_eq_true'→ew,eq_iff_iff→ff,false_ne_true→fg,not_false→fj,or_eq_false_iff→gq,and_false→iv,false_and→jn,not_not→n_
open Go.Value renaming bool→bj,okWide→lu,cells→qi
open Option.some renaming inj→eo
set_option maxHeartbeats 8000000
set_option linter.unusedSimpArgs false
set_option linter.unusedVariables false
set_option linter.unusedSectionVars false
namespace Go.Proofs.YtfekpcimgncioaaGreatDoor
open Go.Proofs.Tryz
open Go.RowKit Go.Lith
set_option maxRecDepth 100000
attribute [local irreducible] wpList wpQuiet fU bS cO Code.wp
attribute [local congr] pD gF gG gH gI gJ kL gK gL gM gN gQ gR gS gT gU gV gW eU eV gX gY iA iB iC kN dF dG cW dD gZ kM eW eX eY iD iE kO
variable{t s:T3}{q x c u:P3}{xs bs:List P3}{N cap k j:Nat}{A:Option Addr}{ts l:List T3}{a:Addr}{w:aj}{T:az}{n:Int}{es:List E3}
theorem akA{p:P3}:(decide (p.x=t.a.x∧p.y=t.a.y∧p.z=t.a.z)||decide (p.x=t.b.x∧p.y=t.b.y∧p.z=t.b.z)||decide (p.x=t.c.x∧p.y=t.c.y∧p.z=t.c.z))=t.has p:=by
 have e:∀p q:P3,(p.x=q.x∧p.y=q.y∧p.z=q.z)↔p=q:=fun p q=>⟨fun h=>P3.eq h.1 h.2.1 h.2.2,fun h=>by rw[h];exact⟨O,O,O⟩⟩
 rw[ff,fE];simp only[ej,decide_eq_true_eq,e,or_assoc]
theorem are  : (decide (¬(t.a.x=t.b.x∧t.a.y=t.b.y∧t.a.z=t.b.z))&&decide (¬(t.b.x=t.c.x∧t.b.y=t.c.y∧t.b.z=t.c.z))&&decide (¬(t.c.x=t.a.x∧t.c.y=t.a.y∧t.c.z=t.a.z)))=t.nd:=by rw[pne,pne,pne];rfl
theorem Nc{p:P3}:dS prog 178 [pt p,tr t] (.bool (t.has p)):=by
 intro w;refine⟨bJ func178 (by kernel_rfl),?_⟩;have m:=Mem.refl w
 go_enter func178,ntmps178
 apply iY 11 [1,0,0] m;simp only[↓aD,aQ,bR,ad,ag,aa];intro g1 g2;refine⟨by omega,?_⟩;intro u m;refine aC (cB O O) ?_;apply aL 1 [0] m;simp only[↓aD];refine bV O (fun hb=>aY O ((m.b 1 O).full aG aA)) (bA O (fun hb=>aJ cF aA O O (by decide) (by decide) O) ?_);simp only[zz];refine bV O (fun hb=>aY (aX hb O) ((m.b 0 O).lies aG aA O O)) ?_;simp only[zz,zy,aq,aa,ag,ad];refine bA O (fun hb=>cB (aX hb O) (aX hb O)) (aC (cC O O O) ?_);apply aL 1 [0] m;simp only[↓aD];refine bV O (fun hb=>aY O ((m.b 1 O).full aG aA)) (bA O (fun hb=>aJ cF aA O O (by decide) (by decide) O) ?_);simp only[zz];refine bV O (fun hb=>aY (aX hb O) ((m.b 0 O).lies aG aA O O)) ?_;simp only[zz,zy,aq,aa,ag,ad];refine bA O (fun hb=>cB (aX hb O) (aX hb O)) (aC (cC O O O) ?_);apply aL 3 [] m;simp only[↓aD];refine aT O O ?_;try simp only[zD,zE]
 exact⟨_,O,m.ext,by rw[akA]⟩
theorem Sz{p:P3}:dS prog 56 [tr t,pt p,pt q] (tr (jV p q t)):=by
 intro w;refine⟨bJ func56 (by kernel_rfl),?_⟩;have m:=Mem.refl w
 go_enter func56,ntmps56
 apply iY 26 [4,1,0] m;simp only[↓aD,lM];intro g1 g2 g3 g4;refine⟨by omega,?_⟩;intro u m;refine mq m aB (by kernel_rfl) (dZ 4 [3,2] ?_);simp only[↓aD,bR,aQ,ad,ag,aa];refine⟨by omega,?_⟩;refine aI (cB O O) (bC ?_);intro u m;refine gc ?_;simp only[zz];refine iP m 3 [] [17,18,19] (fun vs i=>vs=[]∧i=bI g1 [.int .i64 (sK p q t.a).x,.int .i64 (sK p q t.a).y,.int .i64 (sK p q t.a).z,.int .i64 (t.b).x,.int .i64 (t.b).y,.int .i64 (t.b).z,.int .i64 (t.c).x,.int .i64 (t.c).y,.int .i64 (t.c).z] 39) ?_ ?_
 · intro K1 hK1
   refine bD O ?_ ?_<;>intro hc2
   ·
    apply Vf 6 [1,3,0] m;simp only[↓aD,aQ,bR,ad,ag,aa];refine⟨by omega,?_⟩;intro u m;exact hK1 _ _ _ (by kernel_rfl) m ⟨O,by rw[Wg hc2] <;> rfl⟩
   ·
    apply aK 1 [0] m;simp only[↓aD];exact hK1 _ _ _ (by kernel_rfl) m ⟨O,by rw[Ln hc2] <;> rfl⟩
 · intro vs i wr m hI u
   obtain⟨rfl,rfl⟩:=hI;simp only[zF,zG] at m;simp only[zu,zF,zG];apply aU 18 [1,0] m;simp only[↓aD,ak];refine⟨by omega,?_⟩;refine mq m aB (by kernel_rfl) (dZ 4 [3,2] ?_);simp only[↓aD,bR,aQ,ad,ag,aa];refine⟨by omega,?_⟩;refine aI (cB O O) (bC ?_);intro u m;refine gc ?_;simp only[zz];refine iP m 3 [] [17,18,19] (fun vs i=>vs=[]∧i=bI g1 [.int .i64 (sK p q t.a).x,.int .i64 (sK p q t.a).y,.int .i64 (sK p q t.a).z,.int .i64 (sK p q t.b).x,.int .i64 (sK p q t.b).y,.int .i64 (sK p q t.b).z,.int .i64 (t.c).x,.int .i64 (t.c).y,.int .i64 (t.c).z] 39) ?_ ?_
   · intro K2 hK2
     refine bD O ?_ ?_<;>intro hc2
     ·
      apply Vf 6 [1,3,0] m;simp only[↓aD,aQ,bR,ad,ag,aa];refine⟨by omega,?_⟩;intro u m;exact hK2 _ _ _ (by kernel_rfl) m ⟨O,by rw[Wg hc2] <;> rfl⟩
     ·
      apply aK 1 [0] m;simp only[↓aD];exact hK2 _ _ _ (by kernel_rfl) m ⟨O,by rw[Ln hc2] <;> rfl⟩
   · intro vs i wr m hI u
     obtain⟨rfl,rfl⟩:=hI;simp only[zF,zG] at m;simp only[zu,zF,zG];apply aU 18 [1,0] m;simp only[↓aD,ak];refine⟨by omega,?_⟩;refine mq m aB (by kernel_rfl) (dZ 4 [3,2] ?_);simp only[↓aD,bR,aQ,ad,ag,aa];refine⟨by omega,?_⟩;refine aI (cB O O) (bC ?_);intro u m;refine gc ?_;simp only[zz];refine iP m 3 [] [17,18,19] (fun vs i=>vs=[]∧i=bI g1 [.int .i64 (sK p q t.a).x,.int .i64 (sK p q t.a).y,.int .i64 (sK p q t.a).z,.int .i64 (sK p q t.b).x,.int .i64 (sK p q t.b).y,.int .i64 (sK p q t.b).z,.int .i64 (sK p q t.c).x,.int .i64 (sK p q t.c).y,.int .i64 (sK p q t.c).z] 39) ?_ ?_
     · intro K3 hK3
       refine bD O ?_ ?_<;>intro hc2
       ·
        apply Vf 6 [1,3,0] m;simp only[↓aD,aQ,bR,ad,ag,aa];refine⟨by omega,?_⟩;intro u m;exact hK3 _ _ _ (by kernel_rfl) m ⟨O,by rw[Wg hc2] <;> rfl⟩
       ·
        apply aK 1 [0] m;simp only[↓aD];exact hK3 _ _ _ (by kernel_rfl) m ⟨O,by rw[Ln hc2] <;> rfl⟩
     · intro vs i wr m hI u
       obtain⟨rfl,rfl⟩:=hI;simp only[zF,zG] at m;simp only[zu,zF,zG];apply Nu 21 [2,3,0] m;simp only[↓aD,eA,ak,aa];refine⟨by omega,?_⟩;intro u m;exact aT O ⟨_,O,((m.b 0 O).full cA aP)⟩ ⟨_,O,m.ext,O⟩
theorem qI{p:P3}(w:aj)(hL:sU bO 3 w A N xs)(hN:N≤100000000):dA prog 107 [.slice A N cap,pt p] w (fun v _=>v=.bool (decide (p∈xs))):=by
 refine⟨bJ func107 (by kernel_rfl),?_⟩;have m:=Mem.refl w;have hxl:=hL.len
 go_enter func107,ntmps107
 apply iY 11 [0] m;simp only[↓aD];intro g1 u m;refine bX [5] [4,6,7,8,9,10,11,12,13,14,15,16,17] (fun n vs wl=>∃(k:Nat),vs=[.int .i64 (k:Int)]∧Mem w wl [bI g1 [.int .i64 p.x,.int .i64 p.y,.int .i64 p.z] 30]∧(p∉xs.take k)∧(k≤N)∧(n=N-k)) ?_ ?_
 ·
  exact⟨_,0,O,m,(by simp),bw _,O⟩
 · intro n vs wr hI u K1 hK1
   obtain⟨k,rfl,m,hq,hk,hn⟩:=hI;simp only[zu,zF,zG];apply aK 8 [0,0] m;simp only[↓aD,kC];refine bD O ?_ ?_<;>intro hc1
   ·
    obtain⟨x,hx,a,hA,hrow⟩:=hL.get (i:=k) (by omega);subst hA;apply aK 4 [0] m;simp only[↓aD];refine mq m aB (by kernel_rfl) (aI aH (aI aH ?_));simp only[zz];refine aI (aF cN aA O O (by omega) (by omega) (bZ (ah _))) ?_;simp only[zz];refine ql O (fun u m=>(show eR _ _ _ _ (pt x) from (hrow.ext m.ext).lies aG aA)) ?_;simp only[zz];refine ql O (fun u m=>((m.b 0 O).full aG aA)) ?_;simp only[zz];refine aI (cB O O) (bC ?_);intro u m;refine gc ?_;simp only[zz];refine bD O ?_ ?_<;>intro hc2
    ·
     have hxp:x=p:=P3.eq hc2.1 hc2.2.1 hc2.2.2;apply aK 5 [] m;simp only[↓aD];refine aT O O ?_;try simp only[zD,zE]
     exact⟨_,O,m.ext,by rw[decide_eq_true (hxp▸be hx)]⟩
    ·
     have hxp:x≠p:=fun h=>hc2 (by rw[h];exact⟨O,O,O⟩);apply aK 7 [0] m;simp only[↓aD];refine⟨by omega,?_⟩;exact hK1 (N-(k+1)) _ _ (by omega) (by kernel_rfl) ⟨k+1,O,m,(by rw[cH hx,bi,bf];exact fun h=>h.elim hq fun e=>hxp e.symm),by omega,O⟩
   ·
    obtain rfl:k=N:=by omega
    apply aK 6 [] m;simp only[↓aD];refine aT O O ?_;try simp only[zD,zE]
    exact⟨_,O,m.ext,by rw[decide_eq_false (by rwa [ay (by omega)] at hq)]⟩
theorem abU{p:P3}[I3 p][I3 q](w:aj)(hT:bU w A N ts)(hN:N≤10000000):dA prog 23 [.slice A N cap,pt p,pt q] w (SL 39 9 ((oQ ts p q).flatMap aN) (oQ ts p q).length w):=by
 refine⟨bJ func23 (by kernel_rfl),?_⟩;have m:=Mem.refl w;have htl:=hT.len
 go_enter func23,ntmps23
 apply iY 8 [0] m;simp only[↓aD];intro g1 g2 u m;refine aC aO ?_;replace m:=m.nilO 39 9;apply aL 7 [0] m;simp only[↓aD];refine bX [7,8] [9,10,11,12,13,14,15,16,17,18,19,20,21,22,23,24,25,26,27,28,29,30,31,32,33,34,35,36,37,38,39,40,41,42,43,44,45] (fun n vs wl=>∃(k:Nat) (A7:Option Addr) (cap7:Nat),vs=[.slice A7 (pE p q (ts.take k)).length cap7,.int .i64 (k:Int)]∧Mem w wl [oI 39 9 A7 (pE p q (ts.take k)).length cap7 ((pE p q (ts.take k)).flatMap aN),bI g2 [.int .i64 q.x,.int .i64 q.y,.int .i64 q.z] 30,bI g1 [.int .i64 p.x,.int .i64 p.y,.int .i64 p.z] 30]∧(k≤N)∧(n=N-k)) ?_ ?_
 ·
  exact⟨_,0,_,_,O,m,bw _,O⟩
 · intro n vs wr hI u K1 hK1
   obtain⟨k,A7,cap7,rfl,m,hk,hn⟩:=hI;simp only[zu,zF,zG];apply aK 8 [0,0] m;simp only[↓aD,iM];refine bD O ?_ ?_<;>intro hc1
   ·
    obtain⟨t,ht,_,a,hA,hrow⟩:=hT.get (i:=k) (by omega);subst hA;have hcs:=Wh (p:=p) (q:=q) ht;have hcl:=Ij p q (ts.take k);rw[bv] at hcl;apply aK 4 [0] m;simp only[↓aD];refine eN 8 [0,1,2,3,4,5,6] [⟨7,9,39,[.int .i64 0,.int .i64 0,.int .i64 0,.int .i64 0,.int .i64 0,.int .i64 0,.int .i64 0,.int .i64 0,.int .i64 0]⟩] aB (by kernel_rfl) (al1 ⟨_,_,_,O,by kernel_rfl,_,ad4,O⟩) (ol:=?_) ?hol ?_
    case hol=>simp only[zw,zQ,zR];try rfl
    intro u e_;replace m:=m.ext' e_;refine jH aH (jH aH ?_);simp only[zz];refine jH (aF cD aP O O (by omega) (by omega) (bZ (ah _))) ?_;simp only[zz];refine eK O (fun u e=>((hrow.ext (m.ext' e).ext).lies cA aP)) ?_;simp only[zz];refine eK O (fun u e=>(((m.ext' e).b 2 O).full aG aA)) ?_;simp only[zz];refine eK O (fun u e=>(((m.ext' e).b 1 O).full aG aA)) ?_;simp only[zz];refine eT O O (Sz (t:=t) (p:=p) (q:=q)) (Ae ?_);simp only[zz];refine mf1 m ?_;intro g3 u m;simp only[zJ,zK,zF,zG];refine bN m 0 O O O aP (iK O) O ?_;intro u m;simp only[zy,zx,over,zF,zG,aa] at m;refine aM ?_;apply aU 6 [0,0,0] m;simp only[↓aD,bR,aQ,ad,ag,aa];refine⟨by omega,?_⟩;refine aC (fH O O) ?_;apply aL 1 [0] m;simp only[↓aD];refine cS O (fun hb=>aJ cF aA O O (by decide) (by decide) O) ?_;simp only[zz];refine iF O (fun hb=>aY (aX hb O) ((m.b 0 O).lies aG aA O O)) ?_;simp only[zz,zy,aq,aa,ag,ad];refine cS O (fun hb=>aJ cF aA O O (by decide) (by decide) O) ?_;simp only[zz];refine iF O (fun hb=>aY (aX hb O) ((m.b 0 O).lies aG aA O O)) ?_;simp only[zz,zy,aq,aa,ag,ad];refine cS O (fun hb=>fH (aX hb O) (aX hb O)) (aC (bW O O O) ?_);apply aL 1 [0] m;simp only[↓aD];refine cS O (fun hb=>aJ cF aA O O (by decide) (by decide) O) ?_;simp only[zz];refine iF O (fun hb=>aY (aX hb O) ((m.b 0 O).lies aG aA O O)) ?_;simp only[zz,zy,aq,aa,ag,ad];refine cS O (fun hb=>aJ cF aA O O (by decide) (by decide) O) ?_;simp only[zz];refine iF O (fun hb=>aY (aX hb O) ((m.b 0 O).lies aG aA O O)) ?_;simp only[zz,zy,aq,aa,ag,ad];refine cS O (fun hb=>fH (aX hb O) (aX hb O)) (aC (bW O O O) ?_);apply aL 1 [0] m;simp only[↓aD];refine cR O ?_ ?_<;>intro hc2
    ·
     rw[are] at hc2;rw[hc2,if_pos rfl] at hcs;apply aK 3 [0,0] m;simp only[↓aD,eA];refine eZ O ?_;intro u g4 e_ h_ k_;replace m:=m.newB e_ h_ k_;simp only[zz];refine bM m 2 O O cD jK O (by decide) O O O (m.b 0 O).rowsO (fV O) (by omega) (by omega) ?_;intro A7 cap7 u m;simp only[zF,zG] at m;rw[show (pE p q (ts.take k)).flatMap aN++_=(pE p q (ts.take (k+1))).flatMap aN by rw[hcs,a_];rfl] at m;have hll:(pE p q (ts.take k)).length+1=(pE p q (ts.take (k+1))).length:=by rw[hcs,au];rfl
     rw[hll] at m;rw[hll];apply aL 8 [0] m;simp only[↓aD];refine⟨by omega,?_⟩;exact hK1 (N-(k+1)) _ _ (by omega) (by kernel_rfl) ⟨k+1,_,_,O,(m.sel [false,false,true,true,true]),by omega,O⟩
    ·
     rw[are] at hc2;rw[hc2,if_neg fg,fe] at hcs;apply aK 7 [0] m;simp only[↓aD];refine⟨by omega,?_⟩;rw[←hcs] at m ⊢;exact hK1 (N-(k+1)) _ _ (by omega) (by kernel_rfl) ⟨k+1,_,_,O,(m.sel [false,true,true,true]),by omega,O⟩
   ·
    obtain rfl:k=N:=by omega
    rw[show ts.take k=ts from ay (by omega)] at m ⊢;apply aK 4 [0] m;simp only[↓aD];refine bH O O (Iq (ts:=pE p q ts) _ ((m.o 0 O).tris (Od inferInstance hT.it)) (by have:=Ij p q ts;omega)) ?_;rintro v u e_ ⟨A8,cap8,n8,hn8,rfl,h_⟩;replace m:=m.newO e_ h_;apply aL 3 [] m;simp only[↓aD];exact aT O O ⟨_,O,m.ext,⟨_,_,_,by rw[hn8,Ry],O,(m.o 0 O)⟩⟩
theorem akB(p q:P3):(if p.Lt q then q else p)=nT p q:=by
 unfold nT;rcases lt_tri p q with h | h | h
 · rw[if_pos h,if_neg (lt_asymm h)]
 · subst h;simp[P3.lt_irrefl]
 · rw[if_neg (lt_asymm h),if_pos h]
theorem arV{p:P3}{b:Bool}(hb:decide (q.Lt p)=b)(h:b=true):mT p q=q:=by subst hb;exact if_pos (of_decide_eq_true h)
theorem arW{p:P3}{b:Bool}(hb:decide (q.Lt p)=b)(h:b=false):mT p q=p:=by subst hb;exact if_neg (of_decide_eq_false h)
theorem arf{p:P3}{b:Bool}(hb:decide (p.Lt q)=b)(h:b=true):nT p q=q:=by subst hb;rw[←akB];exact if_pos (of_decide_eq_true h)
theorem arh{p:P3}{b:Bool}(hb:decide (p.Lt q)=b)(h:b=false):nT p q=p:=by subst hb;rw[←akB];exact if_neg (of_decide_eq_false h)
theorem sJ{α β:Type}{f:β→α→β}{z:β}{l:List α}{x:α}(h:l[k]? = some x):(l.take (k+1)).foldl f z=f ((l.take k).foldl f z) x:=by rw[cH h,iq];rfl
theorem Wv(w:aj)(hL:sU bO 3 w (some a) N (x::xs))(hN:N≤100):dA prog 203 [.slice (some a) N cap] w (fun v _=>v=.tuple #[pt (xs.foldl mT x),pt (xs.foldl nT x)]):=by
 refine⟨bJ func203 (by kernel_rfl),?_⟩;have m:=Mem.refl w;have hxl:=hL.len;simp only[aw] at hxl;have hrow0:mD w (a.add (0*3)) (bO x):=hL.at (i:=0) rfl
 go_enter func203,ntmps203
 apply iY 8 [0] m;simp only[↓aD,eS];intro g1 g2 u m;refine aC (aF cN aA O O (by decide) (by omega) O) ?_;simp only[zz];refine aS O (show eR _ _ _ _ (pt x) from (show mD _ _ (bO x) from (hrow0.ext m.ext)).lies aG aA) ?_;simp only[zz];apply jS 6 [0,0] m;simp only[↓aD,eS,aQ,aa];intro g3 u m;refine aC (aF cN aA O O (by decide) (by omega) O) ?_;simp only[zz];refine aS O (show eR _ _ _ _ (pt x) from (show mD _ _ (bO x) from (hrow0.ext m.ext)).lies aG aA) ?_;simp only[zz];apply jS 9 [0,0] m;simp only[↓aD,eS,aQ,aa];intro g4 u m;refine bX [6] [7,8,15,16,17,18,19,20,21,22,23,24,25,26,27,28,29,30,31,32,33,34,35,36,37,38,39,40,41,42] (fun n vs wl=>∃(k:Nat),vs=[.int .i64 ((k+1:Nat):Int)]∧Mem w wl [bI g4 [.int .i64 ((xs.take k).foldl nT x).x,.int .i64 ((xs.take k).foldl nT x).y,.int .i64 ((xs.take k).foldl nT x).z] 30,bI g3 [.int .i64 ((xs.take k).foldl mT x).x,.int .i64 ((xs.take k).foldl mT x).y,.int .i64 ((xs.take k).foldl mT x).z] 30,bI g2 [.int .i64 0,.int .i64 0,.int .i64 0] 30,bI g1 [.int .i64 0,.int .i64 0,.int .i64 0] 30]∧(k≤xs.length)∧(n=xs.length-k)) ?_ ?_
 ·
  exact⟨_,0,O,m,bw _,O⟩
 · intro n vs wr hI u K1 hK1
   obtain⟨k,rfl,m,hk,hn⟩:=hI;simp only[zu,zF,zG];apply aK 8 [0,0] m;simp only[↓aD,kC];refine bD O ?_ ?_<;>intro hc1
   ·
    have hkl:k<xs.length:=by omega
    obtain⟨y,hy⟩:∃y,xs[k]? = some y:=⟨_,am hkl⟩
    have hrow:mD w (a.add ((k+1)*3)) (bO y):=hL.at (i:=k+1) (by rw[List.getElem?_cons_succ];exact hy);apply aK 4 [0] m;simp only[↓aD];refine mq m aB (by kernel_rfl) (aI aH (aI aH ?_));simp only[zz];refine aI (aF cN aA O O (by omega) (by omega) (bZ (ah _))) ?_;simp only[zz];refine ql O (fun u m=>(show eR _ _ _ _ (pt y) from (hrow.ext m.ext).lies aG aA)) ?_;simp only[zz];refine ql O (fun u m=>((m.b 1 O).full aG aA)) ?_;simp only[zz];refine fD O O (nJ (p:=y) (q:=(xs.take k).foldl mT x)) (aI aO (bC ?_));intro u m;apply aU 1 [0] m;simp only[↓aD];refine mq m aB (by kernel_rfl) (dZ 3 [0] ?_);simp only[↓aD,aQ];refine aI (aF cN aA O O (by omega) (by omega) (bZ (ah _))) ?_;simp only[zz];refine ql O (fun u m=>(show eR _ _ _ _ (pt y) from (hrow.ext m.ext).lies aG aA)) ?_;simp only[zz];refine fD O O (nJ (p:=(xs.take k).foldl nT x) (q:=y)) (aI aO (bC ?_));intro u m;apply aU 5 [0] m;simp only[↓aD];refine cR O ?_ ?_<;>intro hc2
    ·
     have hlo:=arV rfl hc2;apply aK 3 [0] m;simp only[↓aD];refine aC (aF cN aA O O (by omega) (by omega) (bZ (ah _))) ?_;simp only[zz];refine aS O (show eR _ _ _ _ (pt y) from (hrow.ext m.ext).lies aG aA) ?_;simp only[zz];apply jS 6 [1,0] m;simp only[↓aD,aQ,aa];intro u m;refine cR O ?_ ?_<;>intro hc3
     ·
      have hhi:=arf rfl hc3;apply aK 3 [0] m;simp only[↓aD];refine aC (aF cN aA O O (by omega) (by omega) (bZ (ah _))) ?_;simp only[zz];refine aS O (show eR _ _ _ _ (pt y) from (hrow.ext m.ext).lies aG aA) ?_;simp only[zz];apply jS 8 [0,0] m;simp only[↓aD,aQ,aa];refine⟨by omega,?_⟩;intro u m;have e1:=sJ (f:=mT) (z:=x) hy;have e2:=sJ (f:=nT) (z:=x) hy;rw[hlo] at e1;rw[hhi] at e2;exact hK1 (xs.length-(k+1)) _ _ (by omega) (by kernel_rfl) ⟨k+1,O,((m.re 1 O ((by rw[e1];exact (m.b 1 O)))).re 0 O ((by rw[e2];exact (m.b 0 O)))),by omega,O⟩
     ·
      have hhi:=arh rfl hc3;apply aK 7 [0] m;simp only[↓aD];refine⟨by omega,?_⟩;have e1:=sJ (f:=mT) (z:=x) hy;have e2:=sJ (f:=nT) (z:=x) hy;rw[hlo] at e1;rw[hhi] at e2;exact hK1 (xs.length-(k+1)) _ _ (by omega) (by kernel_rfl) ⟨k+1,O,((m.re 1 O ((by rw[e1];exact (m.b 1 O)))).re 0 O ((by rw[e2];exact (m.b 0 O)))),by omega,O⟩
    ·
     have hlo:=arW rfl hc2;apply aK 5 [0] m;simp only[↓aD];refine cR O ?_ ?_<;>intro hc3
     ·
      have hhi:=arf rfl hc3;apply aK 3 [0] m;simp only[↓aD];refine aC (aF cN aA O O (by omega) (by omega) (bZ (ah _))) ?_;simp only[zz];refine aS O (show eR _ _ _ _ (pt y) from (hrow.ext m.ext).lies aG aA) ?_;simp only[zz];apply jS 8 [0,0] m;simp only[↓aD,aQ,aa];refine⟨by omega,?_⟩;intro u m;have e1:=sJ (f:=mT) (z:=x) hy;have e2:=sJ (f:=nT) (z:=x) hy;rw[hlo] at e1;rw[hhi] at e2;exact hK1 (xs.length-(k+1)) _ _ (by omega) (by kernel_rfl) ⟨k+1,O,((m.re 1 O ((by rw[e1];exact (m.b 1 O)))).re 0 O ((by rw[e2];exact (m.b 0 O)))),by omega,O⟩
     ·
      have hhi:=arh rfl hc3;apply aK 7 [0] m;simp only[↓aD];refine⟨by omega,?_⟩;have e1:=sJ (f:=mT) (z:=x) hy;have e2:=sJ (f:=nT) (z:=x) hy;rw[hlo] at e1;rw[hhi] at e2;exact hK1 (xs.length-(k+1)) _ _ (by omega) (by kernel_rfl) ⟨k+1,O,((m.re 1 O ((by rw[e1];exact (m.b 1 O)))).re 0 O ((by rw[e2];exact (m.b 0 O)))),by omega,O⟩
   ·
    obtain rfl:k=xs.length:=by omega
    rw[ay (Nat.le_refl _)] at m;apply aK 2 [0] m;simp only[↓aD];refine zvt [true,true,false,false] [[1],[0],[3],[2]] (.take 0 (.take 1 (.one 2 (.one 3 .nil)))) m aB (by kernel_rfl) (bQ (fun _ _ _ _ _ h=>h)) ?_;simp only[↓aD,↓zzu,aQ,aa];intro u m;apply aU 1 [] m;simp only[↓aD];exact uA O ⟨_,O,((m.b 3 O).full aG aA)⟩ ⟨_,O,((m.b 2 O).full aG aA)⟩ ⟨_,O,m.ext,O⟩
theorem arX{v:P3}(h:bB v.x≠0):jC v=0:=if_pos fun e=>h (cI.2 e)
theorem arY{v:P3}(e:¬bB v.x≠0)(h:bB v.y≠0):jC v=1:=by
 have e1:=cI.1 (Classical.not_not.1 e);unfold jC;rw[if_neg (fun k=>k e1),if_pos fun e=>h (cI.2 e)]
theorem arZ{v:P3}(e:¬bB v.x≠0)(f:¬bB v.y≠0)(h:bB v.z≠0):jC v=2:=by
 have e1:=cI.1 (Classical.not_not.1 e);have e2:=cI.1 (Classical.not_not.1 f);unfold jC;rw[if_neg (fun k=>k e1),if_neg (fun k=>k e2),if_pos fun e=>h (cI.2 e)]
theorem ar0{v:P3}(e:¬bB v.x≠0)(f:¬bB v.y≠0)(h:¬bB v.z≠0):jC v=3:=by
 have e1:=cI.1 (Classical.not_not.1 e);have e2:=cI.1 (Classical.not_not.1 f);have e3:=cI.1 (Classical.not_not.1 h);unfold jC;rw[if_neg (fun k=>k e1),if_neg (fun k=>k e2),if_neg (fun k=>k e3)]
theorem tQ  : decide (bB t.normal.x=0∧bB t.normal.y=0∧bB t.normal.z=0)=fN t:=by
 unfold fN;refine decide_eq_decide.2 ?_;simp only[cI];show _↔¬jC t.normal<3
 unfold jC;constructor
 · rintro⟨h1,h2,h3⟩;simp[h1,h2,h3]
 · intro h
   by_cases h1:t.normal.x=0 <;> by_cases h2:t.normal.y=0 <;> by_cases h3:t.normal.z=0 <;> simp[h1,h2,h3] at h ⊢
theorem ari{g:Nat}{a b:P3}(hB:fR w g [.int .i64 a.x,.int .i64 a.y,.int .i64 a.z,.int .i64 b.x,.int .i64 b.y,.int .i64 b.z] T):sU bO 3 w (some ⟨g,0,none⟩) 2 [a,b] :=
 ⟨rfl,fun i x hi=>⟨_,rfl,by
  rw[eL,aq]
  match i,hi with
  | 0,h=>cases h;exact mD.pre (ys:=lB b) (hB.row 0)
  | 1,h=>cases h;exact hB.row 3⟩⟩
theorem aeT{p:P3}{g:Nat}(w:aj)(hL:sU bO 3 w (some ⟨g,0,none⟩) 2 [p,q]):dA prog 203 [.slice (some ⟨g,0,none⟩) 2 cap] w fun v _=>v=.tuple #[pt (mT p q),pt (nT p q)]:=Wv (x:=p) (xs:=[q]) w hL (by decide)
theorem Ww{v:P3}:dS prog 285 [sg v] (.int .i64 ((jC v:Nat):Int)):=by
 intro w;refine⟨bJ func285 (by kernel_rfl),?_⟩;have m:=Mem.refl w
 go_enter func285,ntmps285
 apply iY 30 [4,1,0,0,0] m;simp only[↓aD,fF,dC,ad,ag,aa];intro g1;refine⟨by omega,?_⟩;intro u m;refine bD O ?_ ?_<;>intro hc2
 ·
  have h0:=hc2;apply aK 6 [] m;simp only[↓aD];refine aT O O ?_;try simp only[zD,zE]
  exact⟨_,O,m.ext,by rw[arX h0];rfl⟩
 ·
  have h0:=hc2;apply aK 25 [1,0,0,0] m;simp only[↓aD,fF,dC,ak,ad,ag,aa];refine⟨by omega,?_⟩;refine bD O ?_ ?_<;>intro hc2
  ·
   have h1:=hc2;apply aK 6 [] m;simp only[↓aD];refine aT O O ?_;try simp only[zD,zE]
   exact⟨_,O,m.ext,by rw[arY h0 h1];rfl⟩
  ·
   have h1:=hc2;apply aK 25 [1,0,0,0] m;simp only[↓aD,fF,dC,ak,ad,ag,aa];refine⟨by omega,?_⟩;refine bD O ?_ ?_<;>intro hc2
   ·
    have h2:=hc2;apply aK 6 [] m;simp only[↓aD];refine aT O O ?_;try simp only[zD,zE]
    exact⟨_,O,m.ext,by rw[arZ h0 h1 h2];rfl⟩
   ·
    have h2:=hc2;apply aK 21 [2] m;simp only[↓aD,ak];refine⟨by omega,?_⟩;refine aT O O ?_;try simp only[zD,zE]
    exact⟨_,O,m.ext,by rw[ar0 h0 h1 h2];rfl⟩
theorem Ab{p r s:P3}[I3 p][I3 q][I3 r][I3 s]:dS prog 204 [pt p,pt q,pt r,pt s] (.bool (eQ p q r s)):=by
 intro w;refine⟨bJ func204 (by kernel_rfl),?_⟩;have m:=Mem.refl w
 go_enter func204,ntmps204
 apply iY 8 [] m;simp only[↓aD];intro g1 g2 g3 g4 u m;apply aU 6 [3,2,1,0,0] m;simp only[↓aD,aQ];refine lD m O O (Sy (a:=p) (b:=q) (c:=r) (d:=s)) ?_;intro u m;simp only[zz];refine nF m O O (Ww (v:=uO p q r s)) 4 [] ?_;simp only[↓aD];intro u m;by_cases hf:Z3 (uO p q r s)
 ·
  have hax:=ajI hf;apply aU 10 [2,3,2,0] m;simp only[↓aD,aQ];refine⟨by omega,?_⟩;refine Uz O O ?_;intro u g5 e_ h_ k_;replace m:=m.newB e_ h_ k_;simp only[zz];refine cQ m O O (aeT (p:=p) (q:=q) _ (ari (m.b 0 O))) ?_;rintro v u m rfl;apply jS 8 [1,0] m;simp only[↓aD,eS,aQ,aa];intro g6 g7 u m;apply aU 4 [4,3,0] m;simp only[↓aD,aQ];refine Uz O O ?_;intro u g8 e_ h_ k_;replace m:=m.newB e_ h_ k_;simp only[zz];refine cQ m O O (aeT (p:=r) (q:=s) _ (ari (m.b 0 O))) ?_;rintro v u m rfl;apply jS 8 [1,0] m;simp only[↓aD,eS,aQ,aa];intro g9 g10 u m;apply aU 6 [4,3,1] m;simp only[↓aD,aQ,qS,aa];apply Nu 6 [0] m;simp only[↓aD,lM,eA,aa];intro g11 u m;apply aU 2 [5,4,0] m;simp only[↓aD,aQ];refine aC (cB O O) ?_;apply aL 1 [0] m;simp only[↓aD];refine iP m 0 [] [89,90,91,92] (fun vs i=>vs=[]∧i=bI g11 [.int .i64 (lU p q r s).a.x,.int .i64 (lU p q r s).a.y,.int .i64 (lU p q r s).a.z,.int .i64 (lU p q r s).b.x,.int .i64 (lU p q r s).b.y,.int .i64 (lU p q r s).b.z,.int .i64 (lU p q r s).c.x,.int .i64 (lU p q r s).c.y,.int .i64 (lU p q r s).c.z] 39) ?_ ?_
  · intro K1 hK1
    refine bD O ?_ ?_<;>intro hc2
    ·
     apply aK 5 [2,1,5] m;simp only[↓aD,aQ,qS,aa];apply Nu 2 [0,0] m;simp only[↓aD,eA,aa];intro u m;exact hK1 _ _ _ (by kernel_rfl) m ⟨O,by rw[ajK hc2] <;> rfl⟩
    ·
     apply aK 1 [0] m;simp only[↓aD];exact hK1 _ _ _ (by kernel_rfl) m ⟨O,by rw[ajL hc2] <;> rfl⟩
  · intro vs i wr m hI u
    obtain⟨rfl,rfl⟩:=hI;simp only[zF,zG] at m;simp only[zu,zF,zG];apply aU 3 [0,0] m;simp only[↓aD,eA];refine nF m O O (Js (t:=lU p q r s)) 6 [4,2,0] ?_;simp only[↓aD,aQ];intro u m;refine nF m O O (nJ (p:=nT p q) (q:=mT r s)) 6 [1,5,0] ?_;simp only[↓aD,aQ];intro u m;refine nF m O O (nJ (p:=nT r s) (q:=mT p q)) 6 [0] ?_;simp only[↓aD];intro u m;refine cS O (fun hb=>aH) (cS O (fun hb=>nV (aX hb O)) (aC (bW O O O) ?_));apply aL 1 [0] m;simp only[↓aD];refine cS O (fun hb=>aH) (cS O (fun hb=>nV (aX hb O)) (aC (bW O O O) ?_));apply aL 3 [] m;simp only[↓aD];refine aT O O ?_;try simp only[zD,zE]
    exact⟨_,O,m.ext,by rw[tQ,ant hf]⟩
 ·
  have hax:=(zY hf).2;apply aU 6 [1,0] m;simp only[↓aD];refine⟨by omega,?_⟩;refine mq m aB (by kernel_rfl) (dZ 3 [3,2,1] ?_);simp only[↓aD,aQ];refine fD O O (iJ (a:=p) (b:=q) (c:=r)) (aI aH (aI ((mC (v:=dR p q r) hax O O)) ?_));refine dZ 3 [3,2,0] ?_;simp only[↓aD,aQ];refine fD O O (iJ (a:=p) (b:=q) (c:=s)) (aI aH (aI ((mC (v:=dR p q s) hax O O)) (aI (lE O O (xL _ _)) ?_)));simp only[zz];refine aI aO (bC ?_);intro u m;apply aU 1 [0] m;simp only[↓aD];refine mq m aB (by kernel_rfl) (dZ 3 [1,0,3] ?_);simp only[↓aD,aQ];refine fD O O (iJ (a:=r) (b:=s) (c:=p)) (aI aH (aI ((mC (v:=dR r s p) hax O O)) ?_));refine dZ 3 [1,0,2] ?_;simp only[↓aD,aQ];refine fD O O (iJ (a:=r) (b:=s) (c:=q)) (aI aH (aI ((mC (v:=dR r s q) hax O O)) (aI (lE O O (xL _ _)) ?_)));simp only[zz];refine aI aO (bC ?_);intro u m;apply aU 6 [3,2,1,0,0] m;simp only[↓aD,aQ];refine nF m O O (nD (a:=p) (b:=q) (c:=r) (d:=s)) 2 [0,0] ?_;simp only[↓aD];intro u m;refine cS O (fun hb=>aH) (cS O (fun hb=>En (aX hb O) O) (aC (bW O O O) ?_));apply aL 1 [0] m;simp only[↓aD];refine cS O (fun hb=>aH) (cS O (fun hb=>En (aX hb O) O) (aC (bW O O O) ?_));apply aL 3 [] m;simp only[↓aD];refine aT O O ?_;try simp only[zD,zE]
  exact⟨_,O,m.ext,by rw[←aeM hf]⟩
theorem anE{a b p:P3}  : (((decide (bB (dP (dR a b p) k)≥0)&&decide (bB (dP (dR b c p) k)≥0))&&decide (bB (dP (dR c a p) k)≥0))||((decide (bB (dP (dR a b p) k)≤0)&&decide (bB (dP (dR b c p) k)≤0))&&decide (bB (dP (dR c a p) k)≤0)))=decide (wth a b c p k):=by
 unfold wth;rw[ff];simp only[ej,bg,decide_eq_true_eq,ge_iff_le,Hi,Pi,and_assoc];exact decide_eq_true_iff.symm
theorem anF{x y z:Int}:(((decide (bB x≥0)&&decide (bB y≥0))&&decide (bB z≥0))||((decide (bB x≤0)&&decide (bB y≤0))&&decide (bB z≤0)))=Qs x y z:=by
 unfold Qs;rw[ff];simp only[ej,bg,decide_eq_true_eq,ge_iff_le,Hi,Pi]
theorem ar1{g:Nat}{a b:P3}(hB:fR w g [.int .i64 a.x,.int .i64 a.y,.int .i64 a.z,.int .i64 b.x,.int .i64 b.y,.int .i64 b.z,.int .i64 c.x,.int .i64 c.y,.int .i64 c.z] T):sU bO 3 w (some ⟨g,0,none⟩) 3 [a,b,c] :=
 ⟨rfl,fun i x hi=>⟨_,rfl,by
  rw[eL,aq]
  match i,hi with
  | 0,h=>cases h;exact mD.pre (ys:=lB b++lB c) (hB.row 0)
  | 1,h=>cases h;exact mD.pre (ys:=lB c) (hB.row 3)
  | 2,h=>cases h;exact hB.row 6⟩⟩
theorem amQ{p r:P3}{g:Nat}(w:aj)(hL:sU bO 3 w (some ⟨g,0,none⟩) 3 [p,q,r]):dA prog 203 [.slice (some ⟨g,0,none⟩) 3 cap] w fun v _=>v=.tuple #[pt (mT (mT p q) r),pt (nT (nT p q) r)]:=Wv (x:=p) (xs:=[q,r]) w hL (by decide)
theorem arj{p:P3}(h:fN t=true):dL p q t=eQ p q (mT (mT t.a t.b) t.c) (nT (nT t.a t.b) t.c):=by
 unfold dL;rw[if_neg (of_decide_eq_true h)]
theorem nfl(h:fN t=false):jC (dR t.a t.b t.c)<3:=Classical.not_not.1 (of_decide_eq_false h)
theorem ark{p:P3}(h:fN t=false)(hg:0<bB (mQ t.a t.b t.c p)*bB (mQ t.a t.b t.c q)):dL p q t=false:=by
 unfold dL;rw[if_pos (nfl h),if_pos (vA.1 hg)]
theorem aeU{p:P3}(h:fN t=false)(hg:¬0<bB (mQ t.a t.b t.c p)*bB (mQ t.a t.b t.c q))(hp:(decide (bB (mQ t.a t.b t.c p)=0)&&decide (bB (mQ t.a t.b t.c q)=0))=true):dL p q t=(((eQ p q t.a t.b||eQ p q t.b t.c)||eQ p q t.c t.a)||decide (wth t.a t.b t.c p (jC (dR t.a t.b t.c)))):=by
 simp only[bg,decide_eq_true_eq,cI] at hp;unfold dL;rw[if_pos (nfl h),if_neg (fun k=>hg (vA.2 k)),if_pos hp]
theorem anG{p:P3}(h:fN t=false)(hg:¬0<bB (mQ t.a t.b t.c p)*bB (mQ t.a t.b t.c q))(hp:(decide (bB (mQ t.a t.b t.c p)=0)&&decide (bB (mQ t.a t.b t.c q)=0))=false):dL p q t=Qs (mQ p q t.a t.b) (mQ p q t.b t.c) (mQ p q t.c t.a):=by
 have hp':¬(mQ t.a t.b t.c p=0∧mQ t.a t.b t.c q=0):=fun k=>by
  rw[decide_eq_true (cI.2 k.1),decide_eq_true (cI.2 k.2)] at hp;cases hp
 unfold dL;rw[if_pos (nfl h),if_neg (fun k=>hg (vA.2 k)),if_neg hp']
theorem abV{p:P3}[I3 p][IT t](hk:jC (dR t.a t.b t.c)<3):dS prog 205 [pt p,tr t] (.bool (decide (wth t.a t.b t.c p (jC (dR t.a t.b t.c))))):=by
 intro w;refine⟨bJ func205 (by kernel_rfl),?_⟩;have m:=Mem.refl w
 go_enter func205,ntmps205
 apply iY 14 [0,0,0,0] m;simp only[↓aD,bR,aQ,ad,ag,aa];intro g1 g2;refine⟨by omega,?_⟩;intro u m;refine lD m O O (iJ (a:=t.a) (b:=t.b) (c:=t.c)) ?_;intro u m;simp only[zz];refine nF m O O (Ww (v:=dR t.a t.b t.c)) 9 [0,0,1,0] ?_;simp only[↓aD,bR,aQ,ad,ag,aa];refine⟨by omega,?_⟩;intro u m;refine nF m O O (iJ (a:=t.a) (b:=t.b) (c:=p)) 1 [0] ?_;simp only[↓aD];intro u m;refine aC ((mC (v:=dR t.a t.b p) hk O O)) ?_;apply aL 9 [0,0,1,0] m;simp only[↓aD,bR,aQ,ad,ag,aa];refine⟨by omega,?_⟩;refine nF m O O (iJ (a:=t.b) (b:=t.c) (c:=p)) 1 [0] ?_;simp only[↓aD];intro u m;refine aC ((mC (v:=dR t.b t.c p) hk O O)) ?_;apply aL 9 [0,0,1,0] m;simp only[↓aD,bR,aQ,ad,ag,aa];refine⟨by omega,?_⟩;refine nF m O O (iJ (a:=t.c) (b:=t.a) (c:=p)) 1 [0] ?_;simp only[↓aD];intro u m;refine aC ((mC (v:=dR t.c t.a p) hk O O)) ?_;apply aL 3 [] m;simp only[↓aD];cases hA:((decide (bB (dP (dR t.a t.b p) (jC (dR t.a t.b t.c)))≥0)&&decide (bB (dP (dR t.b t.c p) (jC (dR t.a t.b t.c)))≥0))&&decide (bB (dP (dR t.c t.a p) (jC (dR t.a t.b t.c)))≥0))
 ·
  apply aU 4 [0,0] m;simp only[↓aD];refine cS O (fun hb=>aH) (cS O (fun hb=>Gx (aX hb O) O) (aC (bW O O O) ?_));apply aL 1 [0] m;simp only[↓aD];refine cS O (fun hb=>aH) (cS O (fun hb=>Gx (aX hb O) O) (aC (bW O O O) ?_));simp only[zz];rw[hA];refine aC aH ?_;apply aL 3 [0,0] m;simp only[↓aD];refine cS O (fun hb=>aH) (cS O (fun hb=>En (aX hb O) O) (eB O (aC (bW O O O) ?_)));apply aL 1 [0] m;simp only[↓aD];refine cS O (fun hb=>aH) (cS O (fun hb=>En (aX hb O) O) (eB O (aC (bW O O O) ?_)));apply aL 4 [] m;simp only[↓aD];refine aT O O ?_;try simp only[zD,zE]
  exact⟨_,O,m.ext,by rw[←anE,hA,Bool.false_or]⟩
 ·
  apply aU 4 [0,0] m;simp only[↓aD];refine cS O (fun hb=>aH) (cS O (fun hb=>Gx (aX hb O) O) (aC (bW O O O) ?_));apply aL 1 [0] m;simp only[↓aD];refine cS O (fun hb=>aH) (cS O (fun hb=>Gx (aX hb O) O) (aC (bW O O O) ?_));simp only[zz];rw[hA];refine aC aH ?_;apply aL 14 [] m;simp only[↓aD];refine aT O O ?_;try simp only[zD,zE]
  exact⟨_,O,m.ext,by rw[←anE,hA,Bool.true_or]⟩
theorem nE{p:P3}[I3 p][I3 q][IT t]:dS prog 139 [pt p,pt q,tr t] (.bool (dL p q t)):=by
 intro w;refine⟨bJ func139 (by kernel_rfl),?_⟩;have m:=Mem.refl w
 go_enter func139,ntmps139
 apply iY 5 [] m;simp only[↓aD];intro g1 g2 g3 u m;apply aU 5 [0,0] m;simp only[↓aD,eA];refine nF m O O (Js (t:=t)) 7 [0] ?_;simp only[↓aD];intro u m;refine cR O ?_ ?_<;>intro hc1
 ·
  rw[tQ] at hc1;apply aK 8 [0,0,0,0] m;simp only[↓aD,bR,aQ,ad,ag,aa];refine⟨by omega,?_⟩;refine afr O O O ?_;intro u g4 e_ h_ k_;replace m:=m.newB e_ h_ k_;simp only[zz];refine cQ m O O (amQ (p:=t.a) (q:=t.b) (r:=t.c) _ (ar1 (m.b 0 O))) ?_;rintro v u m rfl;apply jS 7 [1,0] m;simp only[↓aD,eS,aQ,aa];intro g5 g6 u m;apply aU 7 [5,4,1,0,0] m;simp only[↓aD,aQ];refine nF m O O ((haveI hm:=Jf (p:=t.a) (q:=t.b) inferInstance inferInstance;haveI:=(Jf hm.1 (inferInstance:I3 t.c)).1;haveI:=(Jf hm.2 (inferInstance:I3 t.c)).2;Ab (p:=p) (q:=q) (r:=mT (mT t.a t.b) t.c) (s:=nT (nT t.a t.b) t.c))) 3 [] ?_;simp only[↓aD];intro u m;refine aT O O ?_;try simp only[zD,zE]
  exact⟨_,O,m.ext,by rw[arj hc1]⟩
 ·
  rw[tQ] at hc1;apply aK 10 [0,0,0,2,0] m;simp only[↓aD,bR,aQ,ad,ag,aa];refine⟨by omega,?_⟩;refine nF m O O (nD (a:=t.a) (b:=t.b) (c:=t.c) (d:=p)) 11 [0,0,0,1] ?_;simp only[↓aD,bR,aQ,ad,ag,aa];refine⟨by omega,?_⟩;intro u m;refine go (nF m O O (nD (a:=t.a) (b:=t.b) (c:=t.c) (d:=q)) 7 [0] ?_);simp only[↓aD];intro u m;refine aC (lE O O (xL _ _)) ?_;apply aL 2 [0,0] m;simp only[↓aD];refine bD O ?_ ?_<;>intro hc2
  ·
   apply aK 5 [] m;simp only[↓aD];refine aT O O ?_;try simp only[zD,zE]
   exact⟨_,O,m.ext,by rw[ark hc1 hc2]⟩
  ·
   apply aK 7 [0,0] m;simp only[↓aD];refine cS O (fun hb=>aH) (cS O (fun hb=>rP (aX hb O) O) (aC (bW O O O) ?_));apply aL 1 [0] m;simp only[↓aD];refine cR O ?_ ?_<;>intro hc3
   ·
    apply aK 19 [4,1,0] m;simp only[↓aD];refine⟨by omega,?_⟩;refine mq m aB (by kernel_rfl) (dZ 7 [2,1,0] ?_);simp only[↓aD,aQ,bR,ad,ag,aa,ak];refine⟨by omega,?_⟩;refine aI (cP (m:=1) (n:=3) (r:=1) O O (by decide) (by decide)) (dZ 2 [0] ?_);simp only[↓aD,bR,aQ,ad,ag,aa];refine⟨by omega,?_⟩;refine fD O O (Ab (p:=p) (q:=q) (r:=t.a) (s:=t.b)) (aI aO (bC ?_));intro u m;apply aU 4 [0] m;simp only[↓aD];refine cR O ?_ ?_<;>intro hc5
    ·
     have h0:=hc5;apply aK 5 [] m;simp only[↓aD];refine aT O O ?_;try simp only[zD,zE]
     exact⟨_,O,m.ext,by rw[aeU hc1 hc2 hc3];simp[*]⟩
    ·
     have h0:=hc5;apply aK 19 [1,0] m;simp only[↓aD,ak];refine⟨by omega,?_⟩;refine mq m aB (by kernel_rfl) (dZ 7 [2,1,0] ?_);simp only[↓aD,aQ,bR,ad,ag,aa,ak];refine⟨by omega,?_⟩;refine aI (cP (m:=2) (n:=3) (r:=2) O O (by decide) (by decide)) (dZ 2 [0] ?_);simp only[↓aD,bR,aQ,ad,ag,aa];refine⟨by omega,?_⟩;refine fD O O (Ab (p:=p) (q:=q) (r:=t.b) (s:=t.c)) (aI aO (bC ?_));intro u m;apply aU 4 [0] m;simp only[↓aD];refine cR O ?_ ?_<;>intro hc5
     ·
      have h1:=hc5;apply aK 5 [] m;simp only[↓aD];refine aT O O ?_;try simp only[zD,zE]
      exact⟨_,O,m.ext,by rw[aeU hc1 hc2 hc3];simp[*]⟩
     ·
      have h1:=hc5;apply aK 19 [1,0] m;simp only[↓aD,ak];refine⟨by omega,?_⟩;refine mq m aB (by kernel_rfl) (dZ 7 [2,1,0] ?_);simp only[↓aD,aQ,bR,ad,ag,aa,ak];refine⟨by omega,?_⟩;refine aI (cP (m:=3) (n:=3) (r:=0) O O (by decide) (by decide)) (dZ 2 [0] ?_);simp only[↓aD,bR,aQ,ad,ag,aa];refine⟨by omega,?_⟩;refine fD O O (Ab (p:=p) (q:=q) (r:=t.c) (s:=t.a)) (aI aO (bC ?_));intro u m;apply aU 4 [0] m;simp only[↓aD];refine cR O ?_ ?_<;>intro hc5
      ·
       have h2:=hc5;apply aK 5 [] m;simp only[↓aD];refine aT O O ?_;try simp only[zD,zE]
       exact⟨_,O,m.ext,by rw[aeU hc1 hc2 hc3];simp[*]⟩
      ·
       have h2:=hc5;apply aK 20 [2,2,0,0] m;simp only[↓aD,aQ,eA,ak];refine⟨by omega,?_⟩;refine nF m O O (abV (p:=p) (t:=t) (nfl hc1)) 3 [] ?_;simp only[↓aD];intro u m;refine aT O O ?_;try simp only[zD,zE]
       exact⟨_,O,m.ext,by rw[aeU hc1 hc2 hc3,h0,h1,h2];rfl⟩
   ·
    apply aK 9 [2,1,0,0,0] m;simp only[↓aD,aQ,bR,ad,ag,aa];refine⟨by omega,?_⟩;refine nF m O O (nD (a:=p) (b:=q) (c:=t.a) (d:=t.b)) 10 [2,1,0,0,0] ?_;simp only[↓aD,aQ,bR,ad,ag,aa];refine⟨by omega,?_⟩;intro u m;refine nF m O O (nD (a:=p) (b:=q) (c:=t.b) (d:=t.c)) 10 [2,1,0,0,0] ?_;simp only[↓aD,aQ,bR,ad,ag,aa];refine⟨by omega,?_⟩;intro u m;refine nF m O O (nD (a:=p) (b:=q) (c:=t.c) (d:=t.a)) 3 [] ?_;simp only[↓aD];intro u m;cases hA:((decide (bB (mQ p q t.a t.b)≥0)&&decide (bB (mQ p q t.b t.c)≥0))&&decide (bB (mQ p q t.c t.a)≥0))
    ·
     apply aU 4 [0,0] m;simp only[↓aD];refine cS O (fun hb=>aH) (cS O (fun hb=>Gx (aX hb O) O) (aC (bW O O O) ?_));apply aL 1 [0] m;simp only[↓aD];refine cS O (fun hb=>aH) (cS O (fun hb=>Gx (aX hb O) O) (aC (bW O O O) ?_));simp only[zz];rw[hA];refine aC aH ?_;apply aL 3 [0,0] m;simp only[↓aD];refine cS O (fun hb=>aH) (cS O (fun hb=>En (aX hb O) O) (eB O (aC (bW O O O) ?_)));apply aL 1 [0] m;simp only[↓aD];refine cS O (fun hb=>aH) (cS O (fun hb=>En (aX hb O) O) (eB O (aC (bW O O O) ?_)));apply aL 4 [] m;simp only[↓aD];refine aT O O ?_;try simp only[zD,zE]
     exact⟨_,O,m.ext,by rw[anG hc1 hc2 hc3,←anF,hA,Bool.false_or]⟩
    ·
     apply aU 4 [0,0] m;simp only[↓aD];refine cS O (fun hb=>aH) (cS O (fun hb=>Gx (aX hb O) O) (aC (bW O O O) ?_));apply aL 1 [0] m;simp only[↓aD];refine cS O (fun hb=>aH) (cS O (fun hb=>Gx (aX hb O) O) (aC (bW O O O) ?_));simp only[zz];rw[hA];refine aC aH ?_;apply aL 14 [] m;simp only[↓aD];refine aT O O ?_;try simp only[zD,zE]
     exact⟨_,O,m.ext,by rw[anG hc1 hc2 hc3,←anF,hA,Bool.true_or]⟩
theorem vX{g:Nat}(h:fR w g (aN t) T)(hj:j<3):mD w ⟨g,j*3,none⟩ (bO (t.cor j)):=by
 rcases j with _ | _ | _ | j
 · exact (h.row 0).take 3
 · exact (h.row 3).take 3
 · exact (h.row 6).take 3
 · omega
theorem amR{p:P3}:dS prog 202 [pt p,tr t] (.bool (t.has p)):=by
 intro w;refine⟨bJ func202 (by kernel_rfl),?_⟩;have m:=Mem.refl w
 go_enter func202,ntmps202
 apply iY 11 [1,0,0] m;simp only[↓aD,aQ,bR,ad,ag,aa];intro g1 g2;refine⟨by omega,?_⟩;intro u m;refine aC (cB O O) ?_;apply aL 1 [0] m;simp only[↓aD];refine bV O (fun hb=>aY O ((m.b 1 O).full aG aA)) (bA O (fun hb=>aJ cF aA O O (by decide) (by decide) O) ?_);simp only[zz];refine bV O (fun hb=>aY (aX hb O) ((m.b 0 O).lies aG aA O O)) ?_;simp only[zz,zy,aq,aa,ag,ad];refine bA O (fun hb=>cB (aX hb O) (aX hb O)) (aC (cC O O O) ?_);apply aL 1 [0] m;simp only[↓aD];refine bV O (fun hb=>aY O ((m.b 1 O).full aG aA)) (bA O (fun hb=>aJ cF aA O O (by decide) (by decide) O) ?_);simp only[zz];refine bV O (fun hb=>aY (aX hb O) ((m.b 0 O).lies aG aA O O)) ?_;simp only[zz,zy,aq,aa,ag,ad];refine bA O (fun hb=>cB (aX hb O) (aX hb O)) (aC (cC O O O) ?_);apply aL 3 [] m;simp only[↓aD];refine aT O O ?_;try simp only[zD,zE]
 exact⟨_,O,m.ext,by rw[akA]⟩
theorem Ta(w:aj):dA prog 136 [tr s,tr t] w (fun v w'=>∃A4 n4 c4 A5 n5 c5,v=.tuple #[.slice A4 n4 c4,.slice A5 n5 c5]∧n4=(mR s t).length∧n5=(sP s t).length∧Mem w w' [oI 30 3 A5 n5 c5 ((sP s t).flatMap lB),oI 30 3 A4 n4 c4 ((mR s t).flatMap lB)]):=by
 refine⟨bJ func136 (by kernel_rfl),?_⟩;have m:=Mem.refl w
 go_enter func136,ntmps136
 apply iY 9 [0] m;simp only[↓aD];intro g1 g2 u m;refine aC aO ?_;replace m:=m.nilO 30 3;apply aL 3 [0] m;simp only[↓aD];refine aC aO ?_;replace m:=m.nilO 30 3;apply aL 7 [0] m;simp only[↓aD];refine bX [6,7,8] [9,10,11,12,13,14,15,16,17,18,19,20,21,22,23,24,25,26,27,28,29,30,31] (fun n vs wl=>∃(k:Nat) (A4 A5:Option Addr) (cap4 cap5:Nat),vs=[.slice A4 (sD s t k).length cap4,.slice A5 (sE s t k).length cap5,.int .i64 (k:Int)]∧Mem w wl [oI 30 3 A5 (sE s t k).length cap5 ((sE s t k).flatMap lB),oI 30 3 A4 (sD s t k).length cap4 ((sD s t k).flatMap lB),bI g2 [.int .i64 t.a.x,.int .i64 t.a.y,.int .i64 t.a.z,.int .i64 t.b.x,.int .i64 t.b.y,.int .i64 t.b.z,.int .i64 t.c.x,.int .i64 t.c.y,.int .i64 t.c.z] 39,bI g1 [.int .i64 s.a.x,.int .i64 s.a.y,.int .i64 s.a.z,.int .i64 s.b.x,.int .i64 s.b.y,.int .i64 s.b.z,.int .i64 s.c.x,.int .i64 s.c.y,.int .i64 s.c.z] 39]∧(k≤3)∧(n=3-k)) ?_ ?_
 ·
  exact⟨_,0,_,_,_,_,O,m,by omega,O⟩
 · intro n vs wr hI u K1 hK1
   obtain⟨k,A4,A5,cap4,cap5,rfl,m,hk,hn⟩:=hI;simp only[zu,zF,zG];apply aK 6 [0,0] m;simp only[↓aD];refine bD O ?_ ?_<;>intro hc1
   ·
    have hk3:k<3:=by omega
    apply aK 4 [0] m;simp only[↓aD];refine mq m aB (by kernel_rfl) (aI aH ?_);simp only[zz];refine aI (aJ cF aA O O (by omega) (by omega) (mW (ah _))) ?_;simp only[zz];refine ql O (fun u m=>(show eR _ _ _ _ (pt (s.cor k)) from (vX (m.b 3 O) hk3).lies aG aA)) ?_;simp only[zz];refine ql O (fun u m=>((m.b 2 O).full cA aP)) ?_;simp only[zz];refine fD O O (amR (t:=t) (p:=s.cor k)) (aI aO (bC ?_));intro u m;apply aU 4 [0] m;simp only[↓aD];refine cR O ?_ ?_<;>intro hc2
    ·
     apply aK 3 [0] m;simp only[↓aD];refine aC (aJ cF aA O O (by omega) (by omega) (mW (ah _))) ?_;simp only[zz];refine aS O (show eR _ _ _ _ (pt (s.cor k)) from (vX (m.b 3 O) hk3).lies aG aA) ?_;simp only[zz];refine kW O ?_;intro u g3 e_ h_ k_;replace m:=m.newB e_ h_ k_;simp only[zz];refine bM m 2 O O cN mX O (by decide) O O O (m.b 0 O).rowsO (fV O) (by have:=Oj s t k;omega) (by have:=Oj s t k;omega) ?_;intro A4 cap4 u m;simp only[zF,zG] at m;rw[show (sD s t k).flatMap lB++_=(sD s t (k+1)).flatMap lB by rw[sF hk3,hc2,a_];rfl,show (sD s t k).length+1=(sD s t (k+1)).length by rw[sF hk3,hc2,au];rfl] at m;rw[show (sD s t k).length+1=(sD s t (k+1)).length by rw[sF hk3,hc2,au];rfl];apply aL 8 [0] m;simp only[↓aD];refine⟨by omega,?_⟩;have he:sE s t (k+1)=sE s t k:=by rw[sG hk3,hc2,if_pos rfl,fe]
     rw[←he] at m ⊢;exact hK1 (3-(k+1)) _ _ (by omega) (by kernel_rfl) ⟨k+1,_,_,_,_,O,(m.sel [false,true,true,true,true]),by omega,O⟩
    ·
     apply aK 3 [0] m;simp only[↓aD];refine aC (aJ cF aA O O (by omega) (by omega) (mW (ah _))) ?_;simp only[zz];refine aS O (show eR _ _ _ _ (pt (s.cor k)) from (vX (m.b 3 O) hk3).lies aG aA) ?_;simp only[zz];refine kW O ?_;intro u g3 e_ h_ k_;replace m:=m.newB e_ h_ k_;simp only[zz];refine bM m 1 O O cN mX O (by decide) O O O (m.b 0 O).rowsO (fV O) (by have:=Ol s t k;omega) (by have:=Ol s t k;omega) ?_;intro A5 cap5 u m;simp only[zF,zG] at m;rw[show (sE s t k).flatMap lB++_=(sE s t (k+1)).flatMap lB by rw[sG hk3,hc2,a_];rfl,show (sE s t k).length+1=(sE s t (k+1)).length by rw[sG hk3,hc2,au];rfl] at m;rw[show (sE s t k).length+1=(sE s t (k+1)).length by rw[sG hk3,hc2,au];rfl];apply aL 8 [0] m;simp only[↓aD];refine⟨by omega,?_⟩;have he:sD s t (k+1)=sD s t k:=by rw[sF hk3,hc2,if_neg fg,fe]
     rw[←he] at m ⊢;exact hK1 (3-(k+1)) _ _ (by omega) (by kernel_rfl) ⟨k+1,_,_,_,_,O,(m.sel [false,true,true,true,true]),by omega,O⟩
   ·
    obtain rfl:k=3:=by omega
    apply aK 9 [] m;simp only[↓aD];exact uA O O O ⟨_,O,m.ext,_,_,_,_,_,_,O,O,O,m.sel [true,true,false,false]⟩
theorem abW[IT s][IT t]:dS prog 138 [tr s,tr t] (.bool (vD s t||vD t s)):=by
 intro w;refine⟨bJ func138 (by kernel_rfl),?_⟩;have m:=Mem.refl w
 go_enter func138,ntmps138
 apply iY 25 [4,1,0] m;simp only[↓aD];intro g1 g2;refine⟨by omega,?_⟩;intro u m;refine mq m aB (by kernel_rfl) (dZ 5 [1] ?_);simp only[↓aD,bR,aQ,ad,ag,aa,ak];refine⟨by omega,?_⟩;refine aI (cP (m:=1) (n:=3) (r:=1) O O (by decide) (by decide)) (dZ 3 [1,0] ?_);simp only[↓aD,bR,aQ,eA,ad,ag,aa];refine⟨by omega,?_⟩;refine fD O O (nE (p:=s.a) (q:=s.b) (t:=t)) (aI aO (bC ?_));intro u m;apply aU 1 [0] m;simp only[↓aD];refine mq m aB (by kernel_rfl) (dZ 5 [0] ?_);simp only[↓aD,bR,aQ,ad,ag,aa,ak];refine⟨by omega,?_⟩;refine aI (cP (m:=1) (n:=3) (r:=1) O O (by decide) (by decide)) (dZ 3 [0,1] ?_);simp only[↓aD,bR,aQ,eA,ad,ag,aa];refine⟨by omega,?_⟩;refine fD O O (nE (p:=t.a) (q:=t.b) (t:=s)) (aI aO (bC ?_));intro u m;apply aU 4 [0] m;simp only[↓aD];refine bA O (fun hb=>aH) (aC (cC O O O) ?_);apply aL 1 [0] m;simp only[↓aD];refine cR O ?_ ?_<;>intro hc2
 ·
  have h0:=hc2;apply aK 5 [] m;simp only[↓aD];refine aT O O ?_;try simp only[zD,zE]
  exact⟨_,O,m.ext,by unfold vD;rcases ej _ _ |>.mp h0 with h | h <;> simp[h]⟩
 ·
  have h0:=hc2;apply aK 19 [1,0] m;simp only[↓aD,ak];refine⟨by omega,?_⟩;refine mq m aB (by kernel_rfl) (dZ 5 [1] ?_);simp only[↓aD,bR,aQ,ad,ag,aa,ak];refine⟨by omega,?_⟩;refine aI (cP (m:=2) (n:=3) (r:=2) O O (by decide) (by decide)) (dZ 3 [1,0] ?_);simp only[↓aD,bR,aQ,eA,ad,ag,aa];refine⟨by omega,?_⟩;refine fD O O (nE (p:=s.b) (q:=s.c) (t:=t)) (aI aO (bC ?_));intro u m;apply aU 1 [0] m;simp only[↓aD];refine mq m aB (by kernel_rfl) (dZ 5 [0] ?_);simp only[↓aD,bR,aQ,ad,ag,aa,ak];refine⟨by omega,?_⟩;refine aI (cP (m:=2) (n:=3) (r:=2) O O (by decide) (by decide)) (dZ 3 [0,1] ?_);simp only[↓aD,bR,aQ,eA,ad,ag,aa];refine⟨by omega,?_⟩;refine fD O O (nE (p:=t.b) (q:=t.c) (t:=s)) (aI aO (bC ?_));intro u m;apply aU 4 [0] m;simp only[↓aD];refine bA O (fun hb=>aH) (aC (cC O O O) ?_);apply aL 1 [0] m;simp only[↓aD];refine cR O ?_ ?_<;>intro hc2
  ·
   have h1:=hc2;apply aK 5 [] m;simp only[↓aD];refine aT O O ?_;try simp only[zD,zE]
   exact⟨_,O,m.ext,by unfold vD;rcases ej _ _ |>.mp h1 with h | h <;> simp[h]⟩
  ·
   have h1:=hc2;apply aK 19 [1,0] m;simp only[↓aD,ak];refine⟨by omega,?_⟩;refine mq m aB (by kernel_rfl) (dZ 5 [1] ?_);simp only[↓aD,bR,aQ,ad,ag,aa,ak];refine⟨by omega,?_⟩;refine aI (cP (m:=3) (n:=3) (r:=0) O O (by decide) (by decide)) (dZ 3 [1,0] ?_);simp only[↓aD,bR,aQ,eA,ad,ag,aa];refine⟨by omega,?_⟩;refine fD O O (nE (p:=s.c) (q:=s.a) (t:=t)) (aI aO (bC ?_));intro u m;apply aU 1 [0] m;simp only[↓aD];refine mq m aB (by kernel_rfl) (dZ 5 [0] ?_);simp only[↓aD,bR,aQ,ad,ag,aa,ak];refine⟨by omega,?_⟩;refine aI (cP (m:=3) (n:=3) (r:=0) O O (by decide) (by decide)) (dZ 3 [0,1] ?_);simp only[↓aD,bR,aQ,eA,ad,ag,aa];refine⟨by omega,?_⟩;refine fD O O (nE (p:=t.c) (q:=t.a) (t:=s)) (aI aO (bC ?_));intro u m;apply aU 4 [0] m;simp only[↓aD];refine bA O (fun hb=>aH) (aC (cC O O O) ?_);apply aL 1 [0] m;simp only[↓aD];refine cR O ?_ ?_<;>intro hc2
   ·
    have h2:=hc2;apply aK 5 [] m;simp only[↓aD];refine aT O O ?_;try simp only[zD,zE]
    exact⟨_,O,m.ext,by unfold vD;rcases ej _ _ |>.mp h2 with h | h <;> simp[h]⟩
   ·
    have h2:=hc2;apply aK 21 [2] m;simp only[↓aD,ak];refine⟨by omega,?_⟩;refine aT O O ?_;try simp only[zD,zE]
    exact⟨_,O,m.ext,by rw[gq] at h0 h1 h2;unfold vD;rw[h0.1,h0.2,h1.1,h1.2,h2.1,h2.2];rfl⟩
theorem arl(h0:0≤n)(hN:0<N):∃i:Nat,n.tmod (N:Int)=(i:Int)∧i<N:=by
 obtain⟨m,rfl⟩:=ng h0;exact⟨m%N,O,Nat.mod_lt _ hN⟩
theorem arm(h0:0≤n)(h1:n<65536):∃(m:Int) (c:Nat),IntKind.i64.wrap (n.tdiv (N:Int))=m∧m.tmod 3=(c:Int)∧c<3:=by
 obtain⟨k,rfl⟩:=ng h0;obtain⟨d,hd,hdl⟩:∃d,d=k / N∧d≤k:=⟨_,rfl,Nat.div_le_self k N⟩
 refine⟨((k / N:Nat):Int),k / N%3,?_,O,Nat.mod_lt _ (by decide)⟩;show IntKind.i64.wrap ((k / N:Nat):Int)=_
 rw[←hd];exact bP (by omega) (by omega)
theorem Ma(h:IT t){c:Nat}:I3 (t.cor c):=by
 obtain⟨h1,h2,h3⟩:=akv h (c:=c);exact⟨h1,h2,h3⟩
theorem apQ(w:aj)(hT:bU w A N ts)(hNl:N≤1536)(hn:0≤n∧n<65536):dA prog 16 [.slice A N cap,.int .u16 n] w (fun v _=>∃p q,v=.tuple #[pt p,pt q]∧I3 p∧I3 q):=by
 refine⟨bJ func16 (by kernel_rfl),?_⟩;have m:=Mem.refl w;have htl:=hT.len
 go_enter func16,ntmps16
 apply iY 12 [0,0] m;simp only[↓aD,eS,iM];intro g1 g2 u m;refine bD O ?_ ?_<;>intro hc1
 ·
  apply Vf 8 [1,0] m;simp only[↓aD,vT,aQ,aa];intro u m;exact uA O ⟨_,O,((m.b 1 O).full aG aA)⟩ ⟨_,O,((m.b 0 O).full aG aA)⟩ ⟨_,O,m.ext,⟨0,0,0⟩,⟨1,0,0⟩,O,⟨by decide,by decide,by decide⟩,⟨by decide,by decide,by decide⟩⟩
 ·
  obtain⟨i,hi,hiN⟩:=arl (N:=N) hn.1 (by omega);obtain⟨m0,c,hm,hc,hc3⟩:=arm (N:=N) hn.1 hn.2;obtain⟨t,ht,hit,a,hA,hrow⟩:=hT.get (i:=i) hiN;subst hA;obtain⟨t0,ht0,hit0,a1,e1,hrow0⟩:=hT.get (i:=0) (by omega);cases e1;apply aK 8 [0] m;simp only[↓aD,aiv,Il,iM];refine⟨by omega,?_⟩;refine aC (cP O O (by omega) hi) ?_;simp only[zz];refine aC (aF cD aP O O (by omega) (by omega) (bZ (ah _))) ?_;simp only[zz];refine aS O (show eR _ _ _ _ (tr t) from (hrow.ext m.ext).lies cA aP) ?_;simp only[zz];apply jS 9 [0,0] m;simp only[↓aD,lM,eA,aiv,Il,iM,aa];intro g3;refine⟨by omega,?_⟩;intro u m;refine aC (jD O O (by omega) hm) ?_;simp only[zz];refine aC (cP O O (by omega) hc) ?_;apply aL 6 [0] m;simp only[↓aD];refine aC (cP O O (by omega) O) (aC (rP O O) ?_);apply aL 1 [0] m;simp only[↓aD];refine bD O ?_ ?_<;>intro hc2
  ·
   apply aK 1 [0] m;simp only[↓aD];refine mh m [true,false,false] [(0,true),(1,true),(3,true),(4,true),(5,true),(2,true),(6,true),(7,false),(8,false)] aB (by kernel_rfl) (bQ (fun _ _ _ _ _ h=>h)) (ol:=?_) ?hol ?_
   case hol=>simp only[zw,zQ,zR];try rfl
   intro u m;refine aZ aH ?_;simp only[zz];refine aZ (aJ cF aA O O (by omega) (by omega) Gv) (aZ aH ?_);simp only[zz];refine aZ (aF cD aP O O (by decide) (by omega) O) (Hv 1 [] ?_);simp only[↓aD,bR,ad,ag,aa];refine⟨by omega,?_⟩;refine eE O (fun u m=>(show eR _ _ _ _ (pt (t.cor c)) from (vX (m.b 0 O) (show c<3 by omega)).lies aG aA)) ?_;simp only[zz];refine eE O (fun u m=>(show eR _ _ _ _ (pt (t0.cor 0)) from ((hrow0.ext m.ext).cor (show 0<3 by decide)).lies aG aA)) ?_;simp only[zz];refine bL (bN m 2 O O O aA (iK O) O ?_);intro u m;simp only[zy,zx,over,zF,zG,aa] at m;refine aM ⟨m.sel [true,false,false],?_⟩;refine bL (bN m 1 O O O aA (iK O) O ?_);intro u m;simp only[zy,zx,over,zF,zG,aa] at m;refine aM ⟨m.sel [true,false,false],?_⟩;refine bY ?_;apply aU 1 [] m;simp only[↓aD];exact uA O ⟨_,O,((m.b 2 O).full aG aA)⟩ ⟨_,O,((m.b 1 O).full aG aA)⟩ ⟨_,O,m.ext,t.cor c,t0.cor 0,O,Ma hit,Ma hit0⟩
  ·
   apply aK 5 [0] m;simp only[↓aD];refine aC (cP O O (by omega) O) (aC (rP O O) ?_);apply aL 1 [0] m;simp only[↓aD];refine bD O ?_ ?_<;>intro hc3
   ·
    apply aK 1 [0] m;simp only[↓aD];refine mh m [true,false,false] [(0,true),(1,true),(2,true),(3,true),(5,true),(6,true),(4,true),(7,true),(8,false),(9,false)] aB (by kernel_rfl) (bQ (fun _ _ _ _ _ h=>h)) (ol:=?_) ?hol ?_
    case hol=>simp only[zw,zQ,zR];try rfl
    intro u m;refine aZ aH ?_;simp only[zz];refine aZ (fC O O (bP (by omega) (by omega))) ?_;simp only[zz];refine aZ (cP O O (by omega) (show ((c:Int)+1).tmod 3=(((c+1)%3:Nat):Int) from O)) ?_;simp only[zz];refine aZ (aJ cF aA O O (by omega) (by omega) Gv) (aZ aH ?_);simp only[zz];refine aZ (aJ cF aA O O (by omega) (by omega) Gv) ?_;simp only[zz];refine eE O (fun u m=>(show eR _ _ _ _ (pt (t.cor ((c+1)%3))) from (vX (m.b 0 O) (show ((c+1)%3)<3 by omega)).lies aG aA)) ?_;simp only[zz];refine eE O (fun u m=>(show eR _ _ _ _ (pt (t.cor c)) from (vX (m.b 0 O) (show c<3 by omega)).lies aG aA)) ?_;simp only[zz];refine bL (bN m 2 O O O aA (iK O) O ?_);intro u m;simp only[zy,zx,over,zF,zG,aa] at m;refine aM ⟨m.sel [true,false,false],?_⟩;refine bL (bN m 1 O O O aA (iK O) O ?_);intro u m;simp only[zy,zx,over,zF,zG,aa] at m;refine aM ⟨m.sel [true,false,false],?_⟩;refine bY ?_;apply aU 1 [] m;simp only[↓aD];exact uA O ⟨_,O,((m.b 2 O).full aG aA)⟩ ⟨_,O,((m.b 1 O).full aG aA)⟩ ⟨_,O,m.ext,t.cor ((c+1)%3),t.cor c,O,Ma hit,Ma hit⟩
   ·
    apply aK 2 [0] m;simp only[↓aD];refine mh m [true,false,false] [(0,true),(1,true),(3,true),(4,true),(5,true),(6,true),(2,true),(7,true),(8,false),(9,false)] aB (by kernel_rfl) (bQ (fun _ _ _ _ _ h=>h)) (ol:=?_) ?hol ?_
    case hol=>simp only[zw,zQ,zR];try rfl
    intro u m;refine aZ aH ?_;simp only[zz];refine aZ (aJ cF aA O O (by omega) (by omega) Gv) (aZ aH ?_);simp only[zz];refine aZ (fC O O (bP (by omega) (by omega))) ?_;simp only[zz];refine aZ (cP O O (by omega) (show ((c:Int)+1).tmod 3=(((c+1)%3:Nat):Int) from O)) ?_;simp only[zz];refine aZ (aJ cF aA O O (by omega) (by omega) Gv) ?_;simp only[zz];refine eE O (fun u m=>(show eR _ _ _ _ (pt (t.cor c)) from (vX (m.b 0 O) (show c<3 by omega)).lies aG aA)) ?_;simp only[zz];refine eE O (fun u m=>(show eR _ _ _ _ (pt (t.cor ((c+1)%3))) from (vX (m.b 0 O) (show ((c+1)%3)<3 by omega)).lies aG aA)) ?_;simp only[zz];refine bL (bN m 2 O O O aA (iK O) O ?_);intro u m;simp only[zy,zx,over,zF,zG,aa] at m;refine aM ⟨m.sel [true,false,false],?_⟩;refine bL (bN m 1 O O O aA (iK O) O ?_);intro u m;simp only[zy,zx,over,zF,zG,aa] at m;refine aM ⟨m.sel [true,false,false],?_⟩;refine bY ?_;apply aU 1 [] m;simp only[↓aD];exact uA O ⟨_,O,((m.b 2 O).full aG aA)⟩ ⟨_,O,((m.b 1 O).full aG aA)⟩ ⟨_,O,m.ext,t.cor c,t.cor ((c+1)%3),O,Ma hit,Ma hit⟩
theorem agB[IT s][IT t]:dS prog 81 [tr s,tr t] (.bool (mO s t)):=by
 intro w;refine⟨bJ func81 (by kernel_rfl),?_⟩;have m:=Mem.refl w
 go_enter func81,ntmps81
 apply iY 6 [] m;simp only[↓aD];intro g1 g2 u m;apply aU 4 [1,0,0] m;simp only[↓aD,eA];refine bH O O (Ta (s:=s) (t:=t) _) ?_;rintro v u e_ ⟨A5,n5,c5,A6,n6,c6,rfl,hn5,hn6,hM⟩;replace m:=m.plus hM;clear hM;simp only[cj,b_] at m;apply aL 10 [2,3,0] m;simp only[↓aD,eA];refine bH O O (Ta (s:=t) (t:=s) _) ?_;rintro v u e_ ⟨A7,n7,c7,A8,n8,c8,rfl,hn7,hn8,hM⟩;replace m:=m.plus hM;clear hM;simp only[cj,b_] at m;apply aL 9 [5,0] m;simp only[↓aD,eA];refine nF m O O (Js (t:=s)) 5 [4,0] ?_;simp only[↓aD,eA];intro u m;refine nF m O O (Js (t:=t)) 9 [0,0] ?_;simp only[↓aD,kC];intro u m;refine bA O (fun hb=>aH) (aC (cC O O O) ?_);apply aL 1 [0] m;simp only[↓aD];refine bA O (fun hb=>aH) (aC (cC O O O) ?_);apply aL 1 [0] m;simp only[↓aD];refine cR O ?_ ?_<;>intro hc1
 ·
  rw[tQ,tQ] at hc1;apply aK 4 [5,4,0] m;simp only[↓aD,eA];refine nF m O O (abW (s:=s) (t:=t)) 3 [] ?_;simp only[↓aD];intro u m;refine aT O O ?_;try simp only[zD,zE]
  exact⟨_,O,m.ext,by rw[ajQ hn5 hc1]⟩
 ·
  rw[tQ,tQ] at hc1;obtain⟨⟨hz,hf1,hf2⟩,hme⟩:=ajR hn5 hc1;apply aK 3 [] m;simp only[↓aD];rcases Si hf1 hf2 hz with ⟨xa,ua,ub,va,vb,h1,h2,h3⟩ | ⟨xa,xb,ua,va,h1,h2,h3⟩ | h1
  ·
   rw[h1] at hn5;rw[h2] at hn6;rw[h3] at hn8;have i1:I3 ua:=sR (i:=0) h2 rfl;have i2:I3 ub:=sR (i:=1) h2 rfl;have i3:I3 va:=sR (i:=0) h3 rfl;have i4:I3 vb:=sR (i:=1) h3 rfl;simp only[aw,bn] at hn5 hn6 hn8;subst hn5;subst hn6;subst hn8;rw[h1,h2,h3] at m;obtain⟨g5,rfl⟩:=(m.o 3 rfl).some (by decide);obtain⟨g6,rfl⟩:=(m.o 2 rfl).some (by decide);obtain⟨g8,rfl⟩:=(m.o 0 rfl).some (by decide);apply aU 12 [1,0] m;simp only[↓aD,kC];refine⟨by omega,?_⟩;refine mq m aB (by kernel_rfl) (aI aH ?_);simp only[zz];refine aI (aF cN aA O O (by decide) (by omega) O) ?_;simp only[zz];refine ql O (fun u m=>(((m.o 2 O).at (enc:=lB) (i:=0) yC O).lies aG aA)) ?_;simp only[zz];refine aI aH ?_;simp only[zz];refine aI (aF cN aA O O (by decide) (by omega) O) ?_;simp only[zz];refine ql O (fun u m=>(((m.o 2 O).at (enc:=lB) (i:=1) yC O).lies aG aA)) ?_;simp only[zz];refine ql O (fun u m=>((m.b 4 O).full cA aP)) ?_;simp only[zz];refine fD O O (nE (p:=ua) (q:=ub) (t:=t)) (aI aO (bC ?_));intro u m;apply aU 1 [0] m;simp only[↓aD];refine mq m aB (by kernel_rfl) (aI aH ?_);simp only[zz];refine aI (aF cN aA O O (by decide) (by omega) O) ?_;simp only[zz];refine ql O (fun u m=>(((m.o 0 O).at (enc:=lB) (i:=0) yC O).lies aG aA)) ?_;simp only[zz];refine aI aH ?_;simp only[zz];refine aI (aF cN aA O O (by decide) (by omega) O) ?_;simp only[zz];refine ql O (fun u m=>(((m.o 0 O).at (enc:=lB) (i:=1) yC O).lies aG aA)) ?_;simp only[zz];refine ql O (fun u m=>((m.b 5 O).full cA aP)) ?_;simp only[zz];refine fD O O (nE (p:=va) (q:=vb) (t:=s)) (aI aO (bC ?_));intro u m;apply aU 4 [0] m;simp only[↓aD];refine bA O (fun hb=>aH) (aC (cC O O O) ?_);apply aL 3 [] m;simp only[↓aD];refine aT O O ?_;try simp only[zD,zE]
   exact⟨_,O,m.ext,by rw[hme,h1,h2,h3];rfl⟩
  ·
   rw[h1] at hn5;rw[h2] at hn6;rw[h3] at hn8;have i1:I3 xa:=Zt (i:=0) h1 rfl;have i2:I3 xb:=Zt (i:=1) h1 rfl;have i3:I3 ua:=sR (i:=0) h2 rfl;have i4:I3 va:=sR (i:=0) h3 rfl;simp only[aw,bn] at hn5 hn6 hn8;subst hn5;subst hn6;subst hn8;rw[h1,h2,h3] at m;obtain⟨g5,rfl⟩:=(m.o 3 rfl).some (by decide);obtain⟨g6,rfl⟩:=(m.o 2 rfl).some (by decide);obtain⟨g8,rfl⟩:=(m.o 0 rfl).some (by decide);apply aU 18 [2,1,0] m;simp only[↓aD,kC];refine⟨by omega,?_⟩;refine eN 11 [0,1,2,3,4,5,6,7,8,9] [⟨10,13,36,[.int .i64 0,.int .i64 0,.int .i64 0]⟩] aB (by kernel_rfl) (al1 ⟨_,_,_,O,by kernel_rfl,_,Di,O⟩) (ol:=?_) ?hol ?_
   case hol=>simp only[zw,zQ,zR];try rfl
   intro u e_;replace m:=m.ext' e_;refine jH aH ?_;simp only[zz];refine jH (aF cN aA O O (by decide) (by omega) O) ?_;simp only[zz];refine eK O (fun u e=>((((m.ext' e).o 3 O).at (enc:=lB) (i:=0) yC O).lies aG aA)) ?_;simp only[zz];refine jH aH ?_;simp only[zz];refine jH (aF cN aA O O (by decide) (by omega) O) ?_;simp only[zz];refine eK O (fun u e=>((((m.ext' e).o 3 O).at (enc:=lB) (i:=1) yC O).lies aG aA)) ?_;simp only[zz];refine jH aH ?_;simp only[zz];refine jH (aF cN aA O O (by decide) (by omega) O) ?_;simp only[zz];refine eK O (fun u e=>((((m.ext' e).o 2 O).at (enc:=lB) (i:=0) yC O).lies aG aA)) ?_;simp only[zz];refine eT O O (iJ (a:=xa) (b:=xb) (c:=ua)) (Ae ?_);simp only[zz];refine mf1 m ?_;intro g3 u m;simp only[zJ,zK,zF,zG];refine bN m 0 O O O jJ (iK O) O ?_;intro u m;simp only[zy,zx,over,zF,zG,aa] at m;refine aM ?_;apply aU 1 [0] m;simp only[↓aD];refine eN 11 [0,1,2,3,4,5,6,7,8,9] [⟨10,14,36,[.int .i64 0,.int .i64 0,.int .i64 0]⟩] aB (by kernel_rfl) (al1 ⟨_,_,_,O,by kernel_rfl,_,Di,O⟩) (ol:=?_) ?hol ?_
   case hol=>simp only[zw,zQ,zR];try rfl
   intro u e_;replace m:=m.ext' e_;refine jH aH ?_;simp only[zz];refine jH (aF cN aA O O (by decide) (by omega) O) ?_;simp only[zz];refine eK O (fun u e=>((((m.ext' e).o 4 O).at (enc:=lB) (i:=0) yC O).lies aG aA)) ?_;simp only[zz];refine jH aH ?_;simp only[zz];refine jH (aF cN aA O O (by decide) (by omega) O) ?_;simp only[zz];refine eK O (fun u e=>((((m.ext' e).o 4 O).at (enc:=lB) (i:=1) yC O).lies aG aA)) ?_;simp only[zz];refine jH aH ?_;simp only[zz];refine jH (aF cN aA O O (by decide) (by omega) O) ?_;simp only[zz];refine eK O (fun u e=>((((m.ext' e).o 1 O).at (enc:=lB) (i:=0) yC O).lies aG aA)) ?_;simp only[zz];refine eT O O (iJ (a:=xa) (b:=xb) (c:=va)) (Ae ?_);simp only[zz];refine mf1 m ?_;intro g4 u m;simp only[zJ,zK,zF,zG];refine bN m 0 O O O jJ (iK O) O ?_;intro u m;simp only[zy,zx,over,zF,zG,aa] at m;refine aM ?_;apply aU 1 [0] m;simp only[↓aD];refine mq m aB (by kernel_rfl) (aI aH ?_);simp only[zz];refine aI (aF cN aA O O (by decide) (by omega) O) ?_;simp only[zz];refine ql O (fun u m=>(((m.o 5 O).at (enc:=lB) (i:=0) yC O).lies aG aA)) ?_;simp only[zz];refine aI aH ?_;simp only[zz];refine aI (aF cN aA O O (by decide) (by omega) O) ?_;simp only[zz];refine ql O (fun u m=>(((m.o 5 O).at (enc:=lB) (i:=1) yC O).lies aG aA)) ?_;simp only[zz];refine aI aH ?_;simp only[zz];refine aI (aF cN aA O O (by decide) (by omega) O) ?_;simp only[zz];refine ql O (fun u m=>(((m.o 4 O).at (enc:=lB) (i:=0) yC O).lies aG aA)) ?_;simp only[zz];refine aI aH ?_;simp only[zz];refine aI (aF cN aA O O (by decide) (by omega) O) ?_;simp only[zz];refine ql O (fun u m=>(((m.o 2 O).at (enc:=lB) (i:=0) yC O).lies aG aA)) ?_;simp only[zz];refine fD O O (nD (a:=xa) (b:=xb) (c:=ua) (d:=va)) (aI (rP O O) (aI aH ?_));simp only[zz];refine eF O (fun hb u m=>aY O ((m.b 1 O).full uG jJ)) (eF O (fun hb u m=>aY O ((m.b 0 O).full uG jJ)) (cT O (fun hb=>Dn (aX hb O) (aX hb O)) (aI (bW O O O) (aI aO (bC ?_)))));intro u m;apply aU 1 [] m;simp only[↓aD];refine aT O O ?_;try simp only[zD,zE]
   exact⟨_,O,m.ext,by rw[hme,h1,h2,h3];exact congrArg bj ajT⟩
  ·
   rw[h1] at hn5;subst hn5;apply aU 24 [2,2] m;simp only[↓aD,kC];refine⟨by omega,?_⟩;refine aT O O ?_;try simp only[zD,zE]
   exact⟨_,O,m.ext,by rw[hme,ajU h1]⟩
theorem aac(h:mD w a (aN t))(hj:j<3):mD w (a.add (j*3)) (bO (t.cor j)):=by
 rcases j with _ | _ | _ | j
 · exact (h.sub 0).take 3
 · exact (h.sub 3).take 3
 · exact (h.sub 6).take 3
 · omega
theorem apR{p:P3}{o:List P3}(h:t.has p=true):Iv p o t=(xM t).foldl (Iu p) o:=by unfold Iv;rw[if_pos h];rfl
theorem apS{p:P3}{o:List P3}(h:t.has p=false):Iv p o t=o:=by unfold Iv;rw[if_neg (by rw[h];exact fg)]
theorem Wx{p:P3}(h:ts[k]? = some t):(ts.take (k+1)).foldl (Iv p) []=Iv p ((ts.take k).foldl (Iv p) []) t:=by rw[cH h,iq];rfl
theorem Wy{p:P3}{o:List P3}(hj:j<3):((xM t).take (j+1)).foldl (Iu p) o=Iu p (((xM t).take j).foldl (Iu p) o) (t.cor j):=by rw[cH (Zv hj),iq];rfl
theorem apT{p:P3}{o:List P3}{b:Bool}(hb:b=decide (q∈o))(h:(decide (q≠p) && !b)=true):Iu p o q=o++[q]:=by
 subst hb;simp only[bg,decide_eq_true_eq,ew,decide_eq_false_iff_not] at h;exact if_pos h
theorem apU{p:P3}{o:List P3}{b:Bool}(hb:b=decide (q∈o))(h:(decide (q≠p) && !b)=false):Iu p o q=o:=by
 subst hb;refine if_neg fun k=>?_;rw[decide_eq_true k.1,decide_eq_false k.2] at h;cases h
theorem aad{p:P3}(w:aj)(hT:bU w A N ts)(hN:N≤10000000):dA prog 106 [.slice A N cap,pt p] w (SL 30 3 ((iQ ts p).flatMap bO) (iQ ts p).length w):=by
 refine⟨bJ func106 (by kernel_rfl),?_⟩;have m:=Mem.refl w;have htl:=hT.len
 go_enter func106,ntmps106
 apply iY 7 [0] m;simp only[↓aD];intro g1 u m;refine aC aO ?_;replace m:=m.nilO 30 3;apply aL 7 [0] m;simp only[↓aD];refine bX [5,6] [7,8,9,10,11,12,13,14,15,16,17,18,19,20,21,22,23,24,25,26,27,28,29,30,31,32,33,34,35,36,37,38,39,40,41,42,43,44,45,46,47,48,49,50,51,52,53,54,55] (fun n vs wl=>∃(k:Nat) (xs:List P3) (A5:Option Addr) (cap5:Nat),vs=[.slice A5 xs.length cap5,.int .i64 (k:Int)]∧Mem w wl [oI 30 3 A5 xs.length cap5 (xs.flatMap bO),bI g1 [.int .i64 p.x,.int .i64 p.y,.int .i64 p.z] 30]∧(xs=(ts.take k).foldl (Iv p) [])∧(xs.length≤3*k)∧(k≤N)∧(n=N-k)) ?_ ?_
 ·
  exact⟨_,0,[],_,_,O,m,O,bw _,bw _,O⟩
 · intro n vs wr hI u K1 hK1
   obtain⟨k,xs,A5,cap5,rfl,m,hxs,hxl,hk,hn⟩:=hI;simp only[zu,zF,zG];apply aK 8 [0,0] m;simp only[↓aD,iM];refine bD O ?_ ?_<;>intro hc1
   ·
    obtain⟨t,ht,_,a,hA,hrow⟩:=hT.get (i:=k) (by omega);subst hA;apply aK 4 [0] m;simp only[↓aD];refine mq m aB (by kernel_rfl) (dZ 3 [1] ?_);simp only[↓aD,aQ];refine aI (aF cD aP O O (by omega) (by omega) (bZ (ah _))) ?_;simp only[zz];refine ql O (fun u m=>((hrow.ext m.ext).lies cA aP)) ?_;simp only[zz];refine fD O O (Nc (t:=t) (p:=p)) (aI aO (bC ?_));intro u m;apply aU 1 [] m;simp only[↓aD];cases hh:t.has p
    ·
     apply aU 23 [2,1,0] m;simp only[↓aD];refine⟨by omega,?_⟩;exact hK1 (N-(k+1)) _ _ (by omega) (by kernel_rfl) ⟨k+1,xs,_,_,O,m,(by rw[Wx ht,←hxs,apS hh]),(by omega),(by omega),O⟩
    ·
     apply aU 4 [0] m;simp only[↓aD];refine bX [5,8] [21,22,23,24,25,26,27,28,29,30,31,32,33,34,35,36,37,38,39,40,41,42,43,44,45,46,47,48,49,50,51,52,53,54,55] (fun n vs wl=>∃(j:Nat) (ys:List P3) (A5:Option Addr) (cap5:Nat),vs=[.slice A5 ys.length cap5,.int .i64 (j:Int)]∧Mem w wl [oI 30 3 A5 ys.length cap5 (ys.flatMap bO),bI g1 [.int .i64 p.x,.int .i64 p.y,.int .i64 p.z] 30]∧(ys=((xM t).take j).foldl (Iu p) xs)∧(ys.length≤3*k+j)∧(j≤3)∧(n=3-j)) ?_ ?_
     ·
      exact⟨_,0,xs,_,_,O,m,O,(by omega),bw _,O⟩
     · intro n vs wr hI u K2 hK2
       obtain⟨j,ys,A5,cap5,rfl,m,hys,hyl,hj,hn2⟩:=hI;simp only[zu,zF,zG];apply aK 6 [0,0] m;simp only[↓aD];refine cS O (fun hb=>aH) (aC (bW O O O) ?_);apply aL 1 [0] m;simp only[↓aD];refine cR O ?_ ?_<;>intro hc2
       ·
        have hj3:j<3:=by simp only[Bool.and_true,decide_eq_true_eq] at hc2;omega
        apply aK 4 [0] m;simp only[↓aD];refine mh m [true,true] [(0,true),(1,true),(2,true),(3,true),(4,true),(5,true),(6,true),(7,true),(8,true),(9,true),(10,true),(11,true),(12,true),(13,true),(14,true),(15,true),(16,false),(17,true),(18,true)] aB (by kernel_rfl) (bQ (fun _ _ _ _ _ h=>h)) (ol:=?_) ?hol ?_
        case hol=>simp only[zw,zQ,zR];try rfl
        intro u m;refine Hv 3 [] ?_;simp only[↓aD];refine aZ (aF cD aP O O (by omega) (by omega) (bZ (ah _))) ?_;simp only[zz];refine aZ (aJ cF aA O O (by omega) (by omega) (bZ (ah _))) ?_;simp only[zz];refine eE O (fun u m=>(show eR _ _ _ _ (pt (t.cor j)) from (aac (hrow.ext m.ext) hj3).lies aG aA)) ?_;simp only[zz];refine eE O (fun u m=>((m.b 1 O).full aG aA)) ?_;simp only[zz];refine aZ (fH O O) (aZ aH (kQ O (fun hb=>aH) (kQ O (fun hb=>aH) ?_)));simp only[zz];refine kQ O (fun hb=>aH) (kQ O (fun hb=>aH) ?_);simp only[zz];refine kQ O (fun hb=>aF cD aP (aX hb O) (aX hb O) (by omega) (by omega) (bZ (ah _))) ?_;simp only[zz];refine kQ O (fun hb=>aJ cF aA (aX hb O) (aX hb O) (by omega) (by omega) (bZ (ah _))) ?_;simp only[zz];refine vH O (fun hb u m=>aY (aX hb O) (show eR _ _ _ _ (pt (t.cor j)) from (aac (hrow.ext m.ext) hj3).lies aG aA)) (bL (Zl m O O (fun hb=>by simp only[dj,bh,cq,zA,zB,zC,zD,zE,hb,jI];rfl) (fun hb=>qI (p:=t.cor j) _ ((m.o 0 rfl).lat (enc:=bO) (fun _=>rfl) (by decide)) (by omega)) ?_));intro u m;refine aM ⟨m,?_⟩;refine kQ O (fun hb=>nV (aX hb O)) (aZ (bW O O O) (bY (gc ?_)));simp only[zz];refine cR O ?_ ?_<;>intro hc3
        ·
         rw[pne] at hc3;have hadd:=apT (p:=p) rfl hc3;apply aK 5 [0] m;simp only[↓aD];refine aC (aF cD aP O O (by omega) (by omega) (bZ (ah _))) ?_;simp only[zz];refine aC (aJ cF aA O O (by omega) (by omega) (bZ (ah _))) ?_;simp only[zz];refine aS O (show eR _ _ _ _ (pt (t.cor j)) from (aac (hrow.ext m.ext) hj3).lies aG aA) ?_;simp only[zz];refine kW O ?_;intro u g2 e_ h_ k_;replace m:=m.newB e_ h_ k_;simp only[zz];refine bM m 1 O O cN mX O (by decide) O O O (m.b 0 O).rowsO (fV O) (by omega) (by omega) ?_;intro A5 cap5 u m;simp only[zF,zG] at m;rw[show ys.flatMap bO++_=(ys++[t.cor j]).flatMap bO by rw[a_];rfl] at m;have hll:ys.length+1=(ys++[t.cor j]).length:=by simp
         rw[hll] at m;rw[hll];apply aL 8 [0] m;simp only[↓aD];refine⟨by omega,?_⟩;exact hK2 (3-(j+1)) _ _ (by omega) (by kernel_rfl) ⟨j+1,ys++[t.cor j],_,_,O,(m.sel [false,true,true]),(by rw[Wy hj3,←hys,hadd]),(by rw[au];simp only[aw,bn];omega),(by omega),rfl⟩
        ·
         rw[pne] at hc3;have hadd:=apU (p:=p) rfl hc3;apply aK 7 [0] m;simp only[↓aD];refine⟨by omega,?_⟩;exact hK2 (3-(j+1)) _ _ (by omega) (by kernel_rfl) ⟨j+1,ys,_,_,O,m,(by rw[Wy hj3,←hys,hadd]),(by omega),(by omega),O⟩
       ·
        obtain rfl:j=3:=by simp only[Bool.and_true,decide_eq_false_iff_not] at hc2;omega
        apply aK 7 [0] m;simp only[↓aD];refine⟨by omega,?_⟩;exact hK1 (N-(k+1)) _ _ (by omega) (by kernel_rfl) ⟨k+1,ys,_,_,O,m,(by rw[Wx ht,←hxs,apR hh];exact hys),(by omega),(by omega),O⟩
   ·
    obtain rfl:k=N:=by omega
    rw[show ts.take k=ts from ay (by omega)] at hxs;apply aK 7 [] m;simp only[↓aD];exact aT O O ⟨_,O,m.ext,⟨_,_,_,by rw[hxs];rfl,rfl,(m.o 0 rfl).as (by rw[hxs];rfl)⟩⟩
def Ue(e:E3)(j:Nat):P3:=if j=0 then e.1 else e.2
theorem akC{e:E3}(h:mD w a (cY e))(hj:j<2):mD w (a.add (j*3)) (bO (Ue e j)):=by
 rcases j with _ | _ | j
 · exact (h.sub 0).take 3
 · exact (h.sub 3).take 3
 · omega
def BdS(es:List E3)(xs:List P3):Prop:=∀q,q∈xs↔Fa es q=true
def BdI(es:List E3)(e:E3)(j:Nat)(xs:List P3):Prop:=∀q,q∈xs↔Fa es q=true∨(0<j∧q=e.1)∨(1<j∧q=e.2)
theorem BdS.nil:BdS [] []:=fun q=>by simp[Fa]
theorem BdS.start(h:BdS es xs)(e:E3):BdI es e 0 xs:=fun q=>by rw[h q];simp
theorem BdI.done{e:E3}(h:BdI es e 2 xs):BdS (es++[e]) xs:=fun q=>by
 rw[h q];simp only[Fa,List.any_append,List.any_cons,List.any_nil,Bool.or_false,ej,decide_eq_true_eq];constructor
 · rintro (k | ⟨_,k⟩ | ⟨_,k⟩)
   · exact .inl k
   · exact .inr (.inl k.symm)
   · exact .inr (.inr k.symm)
 · rintro (k | k | k)
   · exact .inl k
   · exact .inr (.inl ⟨by omega,k.symm⟩)
   · exact .inr (.inr ⟨by omega,k.symm⟩)
theorem BdI.skip{e:E3}(h:BdI es e j xs)(hj:j<2)(hm:Ue e j∈xs):BdI es e (j+1) xs:=fun q=>by
 have h1:=h (Ue e j);rw[h q];rcases j with _ | _ | j
 · have:Fa es e.1=true∨(0<0∧e.1=e.1)∨(1<0∧e.1=e.2):=h1.1 hm
   constructor
   · rintro (k | ⟨k,_⟩ | ⟨k,_⟩)
     · exact .inl k
     · omega
     · omega
   · rintro (k | ⟨_,rfl⟩ | ⟨k,_⟩)
     · exact .inl k
     · exact this
     · omega
 · have:=h1.1 hm
   constructor
   · rintro (k | ⟨_,rfl⟩ | ⟨k,_⟩)
     · exact .inl k
     · exact .inr (.inl ⟨by omega,O⟩)
     · omega
   · rintro (k | ⟨_,rfl⟩ | ⟨_,rfl⟩)
     · exact .inl k
     · exact .inr (.inl ⟨by omega,O⟩)
     · exact this
 · omega
theorem BdI.put{e:E3}(h:BdI es e j xs)(hj:j<2):BdI es e (j+1) (xs++[Ue e j]):=fun q=>by
 rw[bi,h q,bf];rcases j with _ | _ | j
 · constructor
   · rintro ((k | ⟨k,_⟩ | ⟨k,_⟩) | rfl)
     · exact .inl k
     · omega
     · omega
     · exact .inr (.inl ⟨by omega,O⟩)
   · rintro (k | ⟨_,rfl⟩ | ⟨k,_⟩)
     · exact .inl (.inl k)
     · exact .inr O
     · omega
 · constructor
   · rintro ((k | ⟨_,rfl⟩ | ⟨k,_⟩) | rfl)
     · exact .inl k
     · exact .inr (.inl ⟨by omega,O⟩)
     · omega
     · exact .inr (.inr ⟨by omega,O⟩)
   · rintro (k | ⟨_,rfl⟩ | ⟨_,rfl⟩)
     · exact .inl (.inl k)
     · exact .inl (.inr (.inl ⟨by omega,O⟩))
     · exact .inr O
 · omega
theorem aeV(w:aj)(hT:bU w A N ts)(hN:N≤1000000):dA prog 72 [.slice A N cap] w (fun v w'=>∃xs:List P3,SL 30 3 (xs.flatMap bO) xs.length w v w'∧BdS (bK ts) xs∧xs.length≤10000000):=by
 refine⟨bJ func72 (by kernel_rfl),?_⟩;have m:=Mem.refl w;have htl:=hT.len;have hbl:(bK ts).length≤3000000:=by have h1:=Hm (all:=bE ts) (bE ts) [];have h2:=qW ts;simp only[bn] at h1;unfold bK;omega
 go_enter func72,ntmps72
 apply fI 6 [0] m;simp only[↓aD];refine aC aO ?_;replace m:=m.nilO 30 3;apply aL 4 [0] m;simp only[↓aD];refine bH O O (ai6 _ (hT.ext m.ext) (by omega)) ?_;rintro v u e_ ⟨A4,c4,n4,rfl,rfl,h_⟩;replace m:=m.newO e_ h_;apply aL 8 [0] m;simp only[↓aD];refine bX [3,5] [6,9,10,11,12,13,14,15,16,17,18,19,20,21,22,23,24,25,26,27,28,29,30,31,32,33,34,35,36] (fun n vs wl=>∃(k:Nat) (xs:List P3) (A3:Option Addr) (cap3:Nat),vs=[.slice A3 xs.length cap3,.int .i64 (k:Int)]∧Mem w wl [oI 56 6 A4 (bK ts).length c4 ((bK ts).flatMap cY),oI 30 3 A3 xs.length cap3 (xs.flatMap bO)]∧(BdS ((bK ts).take k) xs)∧(xs.length≤2*k)∧(k≤(bK ts).length)∧(n=(bK ts).length-k)) ?_ ?_
 ·
  exact⟨_,0,[],_,_,O,m,BdS.nil,bw _,bw _,O⟩
 · intro n vs wr hI u K1 hK1
   obtain⟨k,xs,A3,cap3,rfl,m,hbs,hxl,hk,hn⟩:=hI;simp only[zu,zF,zG];apply aK 8 [0,0] m;simp only[↓aD,Vy];refine bD O ?_ ?_<;>intro hc1
   ·
    have hkl:k<(bK ts).length:=by omega
    obtain⟨e,he⟩:∃e,(bK ts)[k]? = some e:=⟨_,am hkl⟩
    obtain⟨g4,rfl⟩:=(m.o 0 rfl).some (by omega);apply aK 8 [0] m;simp only[↓aD];refine bX [3,6] [15,16,17,18,19,20,21,22,23,24,25,26,27,28,29,30,31,32,33,34,35,36] (fun n vs wl=>∃(j:Nat) (ys:List P3) (A3:Option Addr) (cap3:Nat),vs=[.slice A3 ys.length cap3,.int .i64 (j:Int)]∧Mem w wl [oI 56 6 (some ⟨g4,0,none⟩) (bK ts).length c4 ((bK ts).flatMap cY),oI 30 3 A3 ys.length cap3 (ys.flatMap bO)]∧(BdI ((bK ts).take k) e j ys)∧(ys.length≤2*k+j)∧(j≤2)∧(n=2-j)) ?_ ?_
    ·
     exact⟨_,0,xs,_,_,O,m,hbs.start e,(by omega),bw _,O⟩
    · intro n vs wr hI u K2 hK2
      obtain⟨j,ys,A3,cap3,rfl,m,hbi,hyl,hj,hn2⟩:=hI;simp only[zu,zF,zG];apply aK 6 [0,0] m;simp only[↓aD];refine bD O ?_ ?_<;>intro hc2
      ·
       have hj2:j<2:=by omega
       apply aK 9 [0] m;simp only[↓aD];refine aC (aF oB iV O O (by omega) (by omega) (bZ (ah _))) ?_;simp only[zz];refine aC (aJ Eu aA O O (by omega) (by omega) (bZ (ah _))) ?_;simp only[zz];refine aS O (show eR _ _ _ _ (pt (Ue e j)) from (akC (((m.o 0 O).lat (enc:=cY) (fun _=>rfl) (by decide)).at he) hj2).lies aG aA) ?_;simp only[zz];refine cQ m O O (qI (p:=Ue e j) _ ((m.o 1 O).lat (enc:=bO) (fun _=>rfl) (by decide)) (by omega)) ?_;rintro v u m rfl;apply aL 2 [0] m;simp only[↓aD];refine cR O ?_ ?_<;>intro hc3
       ·
        have hbi2:=hbi.put hj2;apply aK 5 [0] m;simp only[↓aD];refine aC (aF oB iV O O (by omega) (by omega) (bZ (ah _))) ?_;simp only[zz];refine aC (aJ Eu aA O O (by omega) (by omega) (bZ (ah _))) ?_;simp only[zz];refine aS O (show eR _ _ _ _ (pt (Ue e j)) from (akC (((m.o 0 O).lat (enc:=cY) (fun _=>rfl) (by decide)).at he) hj2).lies aG aA) ?_;simp only[zz];refine kW O ?_;intro u g1 e_ h_ k_;replace m:=m.newB e_ h_ k_;simp only[zz];refine bM m 2 O O cN mX O (by decide) O O O (m.b 0 O).rowsO (fV O) (by omega) (by omega) ?_;intro A3 cap3 u m;simp only[zF,zG] at m;rw[show ys.flatMap bO++_=(ys++[Ue e j]).flatMap bO by rw[a_];rfl] at m;have hll:ys.length+1=(ys++[Ue e j]).length:=by simp
        rw[hll] at m;rw[hll];apply aL 8 [0] m;simp only[↓aD];refine⟨by omega,?_⟩;exact hK2 (2-(j+1)) _ _ (by omega) (by kernel_rfl) ⟨j+1,ys++[Ue e j],_,_,O,(m.sel [false,true,true]),hbi2,(by rw[au];simp only[aw,bn];omega),by omega,rfl⟩
       ·
        have hbi2:=hbi.skip hj2 (by simpa using hc3);apply aK 7 [0] m;simp only[↓aD];refine⟨by omega,?_⟩;exact hK2 (2-(j+1)) _ _ (by omega) (by kernel_rfl) ⟨j+1,ys,_,_,O,m,hbi2,(by omega),by omega,O⟩
      ·
       obtain rfl:j=2:=by omega
       apply aK 7 [0] m;simp only[↓aD];refine⟨by omega,?_⟩;exact hK1 ((bK ts).length-(k+1)) _ _ (by omega) (by kernel_rfl) ⟨k+1,ys,_,_,O,m,(by rw[cH he];exact hbi.done),by omega,by omega,O⟩
   ·
    obtain rfl:k=(bK ts).length:=by omega
    rw[ay (Nat.le_refl _)] at hbs;apply aK 7 [] m;simp only[↓aD];exact aT O O ⟨_,O,m.ext,xs,⟨_,_,_,O,O,(m.o 1 O)⟩,hbs,by omega⟩
def twB(t s:T3):Bool:=s.has t.a&&s.has t.b&&s.has t.c
theorem amS{i:Nat}(hij:j<i)(ht:l[i]? = some t)(hs:l[j]? = some s)(h:twB t s=true):rG l=true:=by
 unfold rG;rw[el];refine⟨(t,i),ij.2 ht,el.2 ⟨s,be (i:=j) (by rw[List.getElem?_take_of_lt hij];exact hs),h⟩⟩
theorem amT{n:Nat}(hn:l.length≤n)(h:∀i j t s,i<n→j<i→l[i]? = some t→l[j]? = some s→twB t s=false):rG l=false:=by
 unfold rG;rw[fx];rintro⟨t,i⟩ hx;have ht:=ij.1 hx;simp only at ht ⊢;rw[Bool.not_eq_true,fx];intro s hs;obtain⟨j,hj⟩:=dh.1 hs;rw[List.getElem?_take] at hj;split at hj
 · rename_i hij
   have:=h i j t s (by have:=(ap.1 ht).1;omega) hij ht hj;unfold twB at this;rw[this];exact fg
 · cases hj
theorem apV{v:P3}(hb:BdS (bK l) bs)(hv:Fa (bK l) v=true)(hx:x∈iQ l u)(h:((decide (x≠v)&&decide (x∈bs)) && !decide (x∈iQ l v))=true):Nk l u v=true:=by
 unfold Nk;rw[hv,Bool.true_and,el];refine⟨x,hx,?_⟩;rw[←h]
 congr 2
 rw[ff,decide_eq_true_eq,hb x]
theorem apW{v:P3}(hb:BdS (bK l) bs)(h:∀x∈iQ l u,((decide (x≠v)&&decide (x∈bs)) && !decide (x∈iQ l v))=false):Nk l u v=false:=by
 unfold Nk;rw[Bool.and_eq_false_iff];refine .inr (fx.2 fun x hx k=>?_);have:=h x hx;rw[show decide (x∈bs)=Fa (bK l) x by rw[ff,decide_eq_true_eq,hb x]] at this;rw[this] at k;cases k
theorem akE(w:aj)(hT:bU w A N ts)(hN:N≤10000000):dA prog 108 [.slice A N cap] w (fun v _=>v=.bool (rG ts)):=by
 refine⟨bJ func108 (by kernel_rfl),?_⟩;have m:=Mem.refl w;have htl:=hT.len
 go_enter func108,ntmps108
 apply fI 10 [0] m;simp only[↓aD];refine bX [3] [2,4,5,6,7,8,9,10,11,12,13,14,15,16,17,18,19,20,21,22,23,24,25,26,27,28,29,30,31,32,33,34,35,36,37,38,39,40,41,42,43,44,45,46,47,48,49] (fun n vs wl=>∃(i:Nat),vs=[.int .i64 (i:Int)]∧Mem w wl []∧(∀i' j t s,i'<i→j<i'→ts[i']? = some t→ts[j]? = some s→twB t s=false)∧(i≤N)∧(n=N-i)) ?_ ?_
 ·
  exact⟨_,0,O,m,(fun _ _ _ _ h=>absurd h (je _)),bw _,O⟩
 · intro n vs wr hI u K1 hK1
   obtain⟨i,rfl,m,hq1,hk,hn⟩:=hI;simp only[zu,zF,zG];apply aK 8 [0,0] m;simp only[↓aD,iM];refine bD O ?_ ?_<;>intro hc1
   ·
    obtain⟨t,ht,_,a,hA,hrow⟩:=hT.get (i:=i) (by omega);apply aK 8 [0] m;simp only[↓aD];refine bX [4] [2,11,12,13,14,15,16,17,18,19,20,21,22,23,24,25,26,27,28,29,30,31,32,33,34,35,36,37,38,39,40,41,42,43,44,45,46,47,48,49] (fun n vs wl=>∃(j:Nat),vs=[.int .i64 (j:Int)]∧Mem w wl []∧(∀j' s,j'<j→ts[j']? = some s→twB t s=false)∧(j≤i)∧(n=i-j)) ?_ ?_
    ·
     exact⟨_,0,O,m,(fun _ _ h=>absurd h (je _)),bw _,O⟩
    · intro n vs wr hI u K2 hK2
      obtain⟨j,rfl,m,hq2,hj,hn2⟩:=hI;simp only[zu,zF,zG];apply aK 7 [0,0] m;simp only[↓aD];refine bD O ?_ ?_<;>intro hc2
      ·
       obtain⟨s,hs,_,a2,hA2,hrow2⟩:=hT.get (i:=j) (by omega);obtain rfl:a=a2:=eo (hA.symm.trans hA2);subst hA;apply aK 4 [0] m;simp only[↓aD];refine mq m aB (by kernel_rfl) (aI aH (aI aH ?_));simp only[zz];refine aI (aF cD aP O O (by omega) (by omega) (bZ (ah _))) (dZ 1 [] ?_);simp only[↓aD,bR,ad,ag,aa];refine⟨by omega,?_⟩;refine ql O (fun u m=>(show eR _ _ _ _ (pt t.a) from ((hrow.ext m.ext).take 3).lies aG aA)) ?_;simp only[zz];refine aI aH (aI aH ?_);simp only[zz];refine aI (aF cD aP O O (by omega) (by omega) (bZ (ah _))) ?_;simp only[zz];refine ql O (fun u m=>((hrow2.ext m.ext).lies cA aP)) ?_;simp only[zz];refine fD O O (Nc (t:=s) (p:=t.a)) (aI aH (cT O (fun hb=>aH) (cT O (fun hb=>aH) ?_)));simp only[zz];refine cT O (fun hb=>aF cD aP (aX hb O) (aX hb O) (by omega) (by omega) (bZ (ah _))) (cT O (fun hb=>aJ cF aA (aX hb O) O (by decide) (by decide) O) ?_);simp only[zz];refine eF O (fun hb u m=>aY (aX hb O) (show eR _ _ _ _ (pt t.b) from (((hrow.ext m.ext).sub 3).take 3).lies aG aA)) (cT O (fun hb=>aH) (cT O (fun hb=>aH) ?_));simp only[zz];refine cT O (fun hb=>aF cD aP (aX hb O) (aX hb O) (by omega) (by omega) (bZ (ah _))) ?_;simp only[zz];refine eF O (fun hb u m=>aY (aX hb O) ((hrow2.ext m.ext).lies cA aP)) (Hk O O (fun hb=>by simp only[dj,bh,cq,zA,zB,zC,zD,zE,hb,jI];rfl) (fun hb=>Nc (t:=s) (p:=t.b)) (aI (bW rfl rfl rfl) (aI aH (cT rfl (fun hb=>aH) ?_))));simp only[zz];refine cT O (fun hb=>aH) ?_;simp only[zz];refine cT O (fun hb=>aF cD aP (aX hb O) (aX hb O) (by omega) (by omega) (bZ (ah _))) (cT O (fun hb=>aJ cF aA (aX hb O) O (by decide) (by decide) O) ?_);simp only[zz];refine eF O (fun hb u m=>aY (aX hb O) (show eR _ _ _ _ (pt t.c) from (((hrow.ext m.ext).sub 6).take 3).lies aG aA)) (cT O (fun hb=>aH) (cT O (fun hb=>aH) ?_));simp only[zz];refine cT O (fun hb=>aF cD aP (aX hb O) (aX hb O) (by omega) (by omega) (bZ (ah _))) ?_;simp only[zz];refine eF O (fun hb u m=>aY (aX hb O) ((hrow2.ext m.ext).lies cA aP)) (Hk O O (fun hb=>by simp only[dj,bh,cq,zA,zB,zC,zD,zE,hb,jI];rfl) (fun hb=>Nc (t:=s) (p:=t.c)) (aI (bW rfl rfl rfl) (bC ?_)));intro u m;refine gc ?_;simp only[zz];refine cR O ?_ ?_<;>intro hc3
       ·
        apply aK 5 [] m;simp only[↓aD];refine aT O O ?_;try simp only[zD,zE]
        exact⟨_,O,m.ext,by rw[amS (by omega) ht hs hc3]⟩
       ·
        apply aK 7 [0] m;simp only[↓aD];refine⟨by omega,?_⟩;exact hK2 (i-(j+1)) _ _ (by omega) (by kernel_rfl) ⟨j+1, rfl, m, (fun j' s' hj' hs' => by
         rcases dq j' j with h | h
         · exact hq2 j' s' h hs'
         · obtain rfl:j=j':=by omega
           obtain rfl:=eo (hs.symm.trans hs');exact hc3),by omega,O⟩
      ·
       obtain rfl:i=j:=by omega
       apply aK 7 [0] m;simp only[↓aD];refine⟨by omega,?_⟩;exact hK1 (N-(i+1)) _ _ (by omega) (by kernel_rfl) ⟨i+1, rfl, m, (fun i' j' t' s' hi hj ht' hs' => by
        rcases dq i' i with h | h
        · exact hq1 i' j' t' s' h hj ht' hs'
        · obtain rfl:i=i':=by omega
          obtain rfl:=eo (ht.symm.trans ht');exact hq2 j' s' hj hs'),by omega,O⟩
   ·
    obtain rfl:i=N:=by omega
    apply aK 6 [] m;simp only[↓aD];refine aT O O ?_;try simp only[zD,zE]
    exact⟨_,O,m.ext,by rw[amT (by omega) hq1]⟩
theorem Jt(l:List T3)(p:P3):(iQ l p).length≤3*l.length:=by
 have h1:=List.Nodup.length_le_of_subset (Wc l p) (l₂:=dT l) fun x hx=>by
  have h:=tO.1 hx;simp only[Nj,bg,Tx,el] at h;obtain⟨_,t,ht,h⟩:=h;exact uQ ht h.2
 rw[pY] at h1;omega
theorem aeW{v:P3}(h:BdS (bK l) bs):decide (v∈bs)=Fa (bK l) v:=by rw[ff,decide_eq_true_eq,h v]
theorem aro{v:P3}(h:Fa (bK l) v=false):Nk l u v=false:=by unfold Nk;rw[h,jn]
theorem akF{p:P3}(w:aj)(hT:bU w A N ts)(hN:N≤1000000):dA prog 109 [.slice A N cap,pt p,pt q] w (fun v _=>v=.bool (Nk ts p q)):=by
 refine⟨bJ func109 (by kernel_rfl),?_⟩;have m:=Mem.refl w;have htl:=hT.len;have hnp:=Jt ts p;have hnq:=Jt ts q
 go_enter func109,ntmps109
 apply iY 9 [0] m;simp only[↓aD];intro g1 g2 u m;refine bH O O (aeV _ (hT.ext m.ext) (by omega)) ?_;rintro v u e_ ⟨bs,⟨A7,c7,n7,hn7,rfl,h_⟩,hbs,hbl⟩;replace m:=m.newO e_ h_;subst hn7;apply aL 7 [1,0] m;simp only[↓aD,aQ];refine cQ m O O (qI (p:=q) _ ((m.o 0 O).lat (enc:=bO) (fun _=>rfl) (by decide)) (by omega)) ?_;rintro v u m rfl;apply aL 2 [0] m;simp only[↓aD];refine cR O ?_ ?_<;>intro hc1
 ·
  rw[aeW hbs] at hc1;apply aK 5 [] m;simp only[↓aD];refine aT O O ?_;try simp only[zD,zE]
  exact⟨_,O,m.ext,by rw[aro (by simpa using hc1)]⟩
 ·
  rw[aeW hbs] at hc1;apply aK 5 [2,0] m;simp only[↓aD,aQ];refine bH O O (aad (p:=p) _ (hT.ext m.ext) (by omega)) ?_;rintro v u e_ ⟨A8,c8,n8,hn8,rfl,h_⟩;replace m:=m.newO e_ h_;subst hn8;apply aL 6 [2,0] m;simp only[↓aD,aQ];refine bH O O (aad (p:=q) _ (hT.ext m.ext) (by omega)) ?_;rintro v u e_ ⟨A9,c9,n9,hn9,rfl,h_⟩;replace m:=m.newO e_ h_;subst hn9;apply aL 8 [0] m;simp only[↓aD];refine bX [10] [6,23,24,25,26,27,28,29,30,31,32,33,34,35,36,37,38,39,40,41,42,43,44,45,46,47,48,49,50,51] (fun n vs wl=>∃(k:Nat),vs=[.int .i64 (k:Int)]∧Mem w wl [oI 30 3 A9 (iQ ts q).length c9 ((iQ ts q).flatMap bO),oI 30 3 A8 (iQ ts p).length c8 ((iQ ts p).flatMap bO),oI 30 3 A7 bs.length c7 (bs.flatMap bO),bI g2 [.int .i64 q.x,.int .i64 q.y,.int .i64 q.z] 30]∧(∀j x,j<k→(iQ ts p)[j]? = some x→((decide (x≠q)&&decide (x∈bs)) && !decide (x∈(iQ ts q)))=false)∧(k≤(iQ ts p).length)∧(n=(iQ ts p).length-k)) ?_ ?_
  ·
   exact⟨_,0,O,(m.sel [true,true,true,true,false]),(fun _ _ h=>absurd h (je _)),bw _,O⟩
  · intro n vs wr hI u K1 hK1
    obtain⟨k,rfl,m,hq,hk,hn⟩:=hI;simp only[zu,zF,zG];apply aK 8 [0,0] m;simp only[↓aD,kC];refine bD O ?_ ?_<;>intro hc2
    ·
     have hkl:k<(iQ ts p).length:=by omega
     obtain⟨x,hx⟩:∃x,(iQ ts p)[k]? = some x:=⟨_,am hkl⟩
     obtain⟨g8,rfl⟩:=(m.o 1 rfl).some (by omega);apply aK 4 [0] m;simp only[↓aD];refine mh m [true,true,true,true] [(0,true),(1,true),(2,true),(3,true),(4,true),(5,true),(6,true),(7,true),(8,true),(9,true),(10,true),(11,true),(12,false),(13,true),(14,true),(15,true),(16,true),(17,true),(18,true),(19,true),(20,false),(21,true),(22,true)] aB (by kernel_rfl) (bQ (fun _ _ _ _ _ h=>h)) (ol:=?_) ?hol ?_
     case hol=>simp only[zw,zQ,zR];try rfl
     intro u m;refine aZ aH (aZ aH ?_);simp only[zz];refine aZ (aF cN aA O O (by omega) (by omega) (bZ (ah _))) ?_;simp only[zz];refine eE O (fun u m=>(show eR _ _ _ _ (pt x) from (((m.o 1 O).lat (enc:=bO) (fun _=>rfl) (by decide)).at hx).lies aG aA)) ?_;simp only[zz];refine eE O (fun u m=>((m.b 3 O).full aG aA)) ?_;simp only[zz];refine aZ (fH O O) (aZ aH (kQ O (fun hb=>aH) (kQ O (fun hb=>aH) ?_)));simp only[zz];refine kQ O (fun hb=>aH) ?_;simp only[zz];refine kQ O (fun hb=>aF cN aA (aX hb O) (aX hb O) (by omega) (by omega) (bZ (ah _))) ?_;simp only[zz];refine vH O (fun hb u m=>aY (aX hb O) (show eR _ _ _ _ (pt x) from (((m.o 1 O).lat (enc:=bO) (fun _=>rfl) (by decide)).at hx).lies aG aA)) (bL (Zl m O O (fun hb=>by simp only[dj,bh,cq,zA,zB,zC,zD,zE,hb,jI];rfl) (fun hb=>qI (p:=x) _ ((m.o 2 rfl).lat (enc:=bO) (fun _=>rfl) (by decide)) (by omega)) ?_));intro u m;refine aM ⟨m,?_⟩;refine aZ (bW O O O) (aZ aH (kQ O (fun hb=>aH) ?_));simp only[zz];refine kQ O (fun hb=>aH) (kQ O (fun hb=>aH) ?_);simp only[zz];refine kQ O (fun hb=>aF cN aA (aX hb O) (aX hb O) (by omega) (by omega) (bZ (ah _))) ?_;simp only[zz];refine vH O (fun hb u m=>aY (aX hb O) (show eR _ _ _ _ (pt x) from (((m.o 1 O).lat (enc:=bO) (fun _=>rfl) (by decide)).at hx).lies aG aA)) (bL (Zl m O O (fun hb=>by simp only[dj,bh,cq,zA,zB,zC,zD,zE,hb,jI];rfl) (fun hb=>qI (p:=x) _ ((m.o 0 rfl).lat (enc:=bO) (fun _=>rfl) (by decide)) (by omega)) ?_));intro u m;refine aM ⟨m,?_⟩;refine kQ O (fun hb=>nV (aX hb O)) (aZ (bW O O O) (bY (gc ?_)));simp only[zz];refine cR O ?_ ?_<;>intro hc3
     ·
      rw[pne] at hc3;apply aK 5 [] m;simp only[↓aD];refine aT O O ?_;try simp only[zD,zE]
      exact⟨_,O,m.ext,by rw[apV hbs (by simpa using hc1) (be hx) hc3]⟩
     ·
      rw[pne] at hc3;apply aK 7 [0] m;simp only[↓aD];refine⟨by omega,?_⟩;exact hK1 ((iQ ts p).length-(k+1)) _ _ (by omega) (by kernel_rfl) ⟨k+1, rfl, m, (fun j y hj hy => by
       rcases dq j k with h | h
       · exact hq j y h hy
       · obtain rfl:k=j:=by omega
         obtain rfl:=eo (hx.symm.trans hy);exact hc3),by omega,O⟩
    ·
     obtain rfl:k=(iQ ts p).length:=by omega
     apply aK 6 [] m;simp only[↓aD];refine aT O O ?_;try simp only[zD,zE]
     exact⟨_,rfl,m.ext,by rw[apW hbs (fun x hx=>by obtain⟨j,hj⟩:=dh.1 hx;exact hq j x (ap.1 hj).1 hj)]⟩
theorem abX{r:T3}[IT t][IT r]:dS prog 179 [tr t,tr r] (.int .i64 (Tz t r)):=by
 intro w;refine⟨bJ func179 (by kernel_rfl),?_⟩;have m:=Mem.refl w
 go_enter func179,ntmps179
 apply iY 7 [0] m;simp only[↓aD];intro g1 g2 u m;refine mq m aB (by kernel_rfl) (ql O (fun u m=>((m.b 1 O).full cA aP)) ?_);simp only[zz];refine fD O O Wu ?_;simp only[zz];refine ql O (fun u m=>((m.b 0 O).full cA aP)) ?_;simp only[zz];refine fD O O Wu ?_;simp only[zz];refine fD O O (Sv Bv.of Bv.of) ?_;simp only[zz];refine fD O O (Jc Bw.up) (aI aO (bC ?_));intro u m;apply aU 1 [] m;simp only[↓aD];exact aT O O ⟨_,O,m.ext,O⟩
theorem arp(a b c:Int):(if (if a<b then b else a)<c then c else if a<b then b else a)=max (max a b) c:=by omega
theorem arq(a b c:Int):(if c<(if b<a then b else a) then c else if b<a then b else a)=min (min a b) c:=by omega
theorem amU  : (((decide (max (max s.a.x s.b.x) s.c.x<min (min t.a.x t.b.x) t.c.x)||decide (max (max t.a.x t.b.x) t.c.x<min (min s.a.x s.b.x) s.c.x))||(decide (max (max s.a.y s.b.y) s.c.y<min (min t.a.y t.b.y) t.c.y)||decide (max (max t.a.y t.b.y) t.c.y<min (min s.a.y s.b.y) s.c.y)))||(decide (max (max s.a.z s.b.z) s.c.z<min (min t.a.z t.b.z) t.c.z)||decide (max (max t.a.z t.b.z) t.c.z<min (min s.a.z s.b.z) s.c.z))) = !oE s t:=by
 unfold oE;rw[Bool.not_and,Bool.not_and,n_,n_,n_];rfl
theorem adK  : dS prog 80 [tr s,tr t] (.bool (!oE s t)):=by
 intro w;refine⟨bJ func80 (by kernel_rfl),?_⟩;have m:=Mem.refl w
 go_enter func80,ntmps80
 apply iY 4 [] m;simp only[↓aD];intro g1 g2 u m;apply aU 10 [1,1] m;simp only[↓aD,bR,gD,dC,ad,ag,aa];refine⟨by omega,?_⟩;apply aU 3 [1,0] m;simp only[↓aD,bR,gD,dC,ad,ag,aa];refine⟨by omega,?_⟩;refine aC (Gq O O O O) ?_;apply aL 7 [0,0] m;simp only[↓aD,bR,gD,dC,ad,ag,aa];refine⟨by omega,?_⟩;apply aU 2 [0,0] m;simp only[↓aD,gD,dC,aa];refine aC (Gp O O O O) ?_;apply aL 2 [0,0] m;simp only[↓aD];refine bA O (fun hb=>aJ cF aA O O (by decide) (by decide) O) (bA O (fun hb=>aW (c:=0) fT O aV (aX hb O) O) ?_);simp only[zz];refine bV O (fun hb=>aY (aX hb O) ((m.b 0 O).lies1 bF O)) (bA O (fun hb=>aJ cF aA O O (by decide) (by decide) O) (bA O (fun hb=>aW (c:=0) fT O aV (aX hb O) O) ?_));simp only[zz];refine bV O (fun hb=>aY (aX hb O) ((m.b 0 O).lies1 bF O)) (bA O (fun hb=>aJ cF aA O O (by decide) (by decide) O) (bA O (fun hb=>aW (c:=0) fT O aV (aX hb O) O) ?_));simp only[zz];refine bV O (fun hb=>aY (aX hb O) ((m.b 0 O).lies1 bF O)) (bA O (fun hb=>Gq (aX hb O) (aX hb O) (aX hb O) O) (bA O (fun hb=>aJ cF aA O O (by decide) (by decide) O) (bA O (fun hb=>aW (c:=0) fT O aV (aX hb O) O) ?_)));simp only[zz];refine bV O (fun hb=>aY (aX hb O) ((m.b 1 O).lies1 bF O)) (bA O (fun hb=>aJ cF aA O O (by decide) (by decide) O) (bA O (fun hb=>aW (c:=0) fT O aV (aX hb O) O) ?_));simp only[zz];refine bV O (fun hb=>aY (aX hb O) ((m.b 1 O).lies1 bF O)) (bA O (fun hb=>aJ cF aA O O (by decide) (by decide) O) (bA O (fun hb=>aW (c:=0) fT O aV (aX hb O) O) ?_));simp only[zz];refine bV O (fun hb=>aY (aX hb O) ((m.b 1 O).lies1 bF O)) (bA O (fun hb=>Gp (aX hb O) (aX hb O) (aX hb O) O) (bA O (fun hb=>qL (aX hb O) (aX hb O)) (aC (cC O O O) ?_)));apply aL 10 [1,1] m;simp only[↓aD,bR,iH,dC,ad,ag,aa];refine⟨by omega,?_⟩;apply aU 3 [1,0] m;simp only[↓aD,bR,iH,dC,ad,ag,aa];refine⟨by omega,?_⟩;refine aC (Gq O O O O) ?_;apply aL 7 [0,0] m;simp only[↓aD,bR,iH,dC,ad,ag,aa];refine⟨by omega,?_⟩;apply aU 2 [0,0] m;simp only[↓aD,iH,dC,aa];refine aC (Gp O O O O) ?_;apply aL 2 [0,0] m;simp only[↓aD];refine bA O (fun hb=>aJ cF aA O O (by decide) (by decide) O) (bA O (fun hb=>aW (c:=0) fT O aV (aX hb O) O) ?_);simp only[zz];refine bV O (fun hb=>aY (aX hb O) ((m.b 0 O).lies1 bF O)) (bA O (fun hb=>aJ cF aA O O (by decide) (by decide) O) (bA O (fun hb=>aW (c:=0) fT O aV (aX hb O) O) ?_));simp only[zz];refine bV O (fun hb=>aY (aX hb O) ((m.b 0 O).lies1 bF O)) (bA O (fun hb=>aJ cF aA O O (by decide) (by decide) O) (bA O (fun hb=>aW (c:=0) fT O aV (aX hb O) O) ?_));simp only[zz];refine bV O (fun hb=>aY (aX hb O) ((m.b 0 O).lies1 bF O)) (bA O (fun hb=>Gq (aX hb O) (aX hb O) (aX hb O) O) (bA O (fun hb=>aJ cF aA O O (by decide) (by decide) O) (bA O (fun hb=>aW (c:=0) fT O aV (aX hb O) O) ?_)));simp only[zz];refine bV O (fun hb=>aY (aX hb O) ((m.b 1 O).lies1 bF O)) (bA O (fun hb=>aJ cF aA O O (by decide) (by decide) O) (bA O (fun hb=>aW (c:=0) fT O aV (aX hb O) O) ?_));simp only[zz];refine bV O (fun hb=>aY (aX hb O) ((m.b 1 O).lies1 bF O)) (bA O (fun hb=>aJ cF aA O O (by decide) (by decide) O) (bA O (fun hb=>aW (c:=0) fT O aV (aX hb O) O) ?_));simp only[zz];refine bV O (fun hb=>aY (aX hb O) ((m.b 1 O).lies1 bF O)) (bA O (fun hb=>Gp (aX hb O) (aX hb O) (aX hb O) O) (bA O (fun hb=>qL (aX hb O) (aX hb O)) (aC (cC O O O) ?_)));apply aL 10 [1,1] m;simp only[↓aD,bR,jA,dC,ad,ag,aa];refine⟨by omega,?_⟩;apply aU 3 [1,0] m;simp only[↓aD,bR,jA,dC,ad,ag,aa];refine⟨by omega,?_⟩;refine aC (Gq O O O O) ?_;apply aL 7 [0,0] m;simp only[↓aD,bR,jA,dC,ad,ag,aa];refine⟨by omega,?_⟩;apply aU 2 [0,0] m;simp only[↓aD,jA,dC,aa];refine aC (Gp O O O O) ?_;apply aL 2 [0,0] m;simp only[↓aD];refine bA O (fun hb=>aJ cF aA O O (by decide) (by decide) O) (bA O (fun hb=>aW (c:=0) fT O aV (aX hb O) O) ?_);simp only[zz];refine bV O (fun hb=>aY (aX hb O) ((m.b 0 O).lies1 bF O)) (bA O (fun hb=>aJ cF aA O O (by decide) (by decide) O) (bA O (fun hb=>aW (c:=0) fT O aV (aX hb O) O) ?_));simp only[zz];refine bV O (fun hb=>aY (aX hb O) ((m.b 0 O).lies1 bF O)) (bA O (fun hb=>aJ cF aA O O (by decide) (by decide) O) (bA O (fun hb=>aW (c:=0) fT O aV (aX hb O) O) ?_));simp only[zz];refine bV O (fun hb=>aY (aX hb O) ((m.b 0 O).lies1 bF O)) (bA O (fun hb=>Gq (aX hb O) (aX hb O) (aX hb O) O) (bA O (fun hb=>aJ cF aA O O (by decide) (by decide) O) (bA O (fun hb=>aW (c:=0) fT O aV (aX hb O) O) ?_)));simp only[zz];refine bV O (fun hb=>aY (aX hb O) ((m.b 1 O).lies1 bF O)) (bA O (fun hb=>aJ cF aA O O (by decide) (by decide) O) (bA O (fun hb=>aW (c:=0) fT O aV (aX hb O) O) ?_));simp only[zz];refine bV O (fun hb=>aY (aX hb O) ((m.b 1 O).lies1 bF O)) (bA O (fun hb=>aJ cF aA O O (by decide) (by decide) O) (bA O (fun hb=>aW (c:=0) fT O aV (aX hb O) O) ?_));simp only[zz];refine bV O (fun hb=>aY (aX hb O) ((m.b 1 O).lies1 bF O)) (bA O (fun hb=>Gp (aX hb O) (aX hb O) (aX hb O) O) (bA O (fun hb=>qL (aX hb O) (aX hb O)) (aC (cC O O O) ?_)));apply aL 6 [0] m;simp only[↓aD];refine bA O (fun hb=>aH) (aC (cC O O O) ?_);apply aL 1 [0] m;simp only[↓aD];refine bA O (fun hb=>aH) (aC (cC O O O) ?_);apply aL 3 [] m;simp only[↓aD];refine aT O O ?_;try simp only[zD,zE]
 exact⟨_,O,m.ext,by simp only[arp,arq];rw[amU]⟩
def Nd(t s:T3):Bool:=!decide (dU s=dU t)&&yS (dU s) (dU t)
theorem ars{x y:T3}:decide ((x).a.x=(y).a.x∧(x).a.y=(y).a.y∧(x).a.z=(y).a.z∧(x).b.x=(y).b.x∧(x).b.y=(y).b.y∧(x).b.z=(y).b.z∧(x).c.x=(y).c.x∧(x).c.y=(y).c.y∧(x).c.z=(y).c.z)=decide (x=y):=decide_eq_decide.2 ⟨fun⟨h1,h2,h3,h4,h5,h6,h7,h8,h9⟩=>Ky (P3.eq h1 h2 h3) (P3.eq h4 h5 h6) (P3.eq h7 h8 h9),fun h=>by rw[h];simp only[and_self]⟩
theorem amV(h:(decide (dU s=dU t) || !oE (dU s) (dU t))=true):Nd t s=false:=by
 unfold Nd yS;rcases ej _ _ |>.mp h with h | h
 · rw[h];rfl
 · rw[ew] at h;rw[h,jn,iv]
theorem art(h:(decide (dU s=dU t) || !oE (dU s) (dU t))=false):Nd t s=mO (dU s) (dU t):=by
 rw[gq] at h;unfold Nd yS;have h2:oE (dU s) (dU t)=true:=by have:=h.2;simpa using this
 rw[h.1,h2];rfl
theorem ar2(h:l[k]? = some s)(hb:Nd t s=true):yT t l=true:=el.2 ⟨s,be h,hb⟩
theorem ar3{n:Nat}(hn:l.length≤n)(h:∀j s,j<n→l[j]? = some s→Nd t s=false):yT t l=false:=fx.2 fun s hs k=>by
 obtain⟨j,hj⟩:=dh.1 hs;have:=h j s (by have:=(ap.1 hj).1;omega) hj;unfold Nd at this;rw[this] at k;cases k
theorem adL[hit:IT t](w:aj)(hT:bU w A N ts)(hN:N≤10000000):dA prog 33 [tr t,.slice A N cap] w (fun v _=>v=.bool (yT t ts)):=by
 refine⟨bJ func33 (by kernel_rfl),?_⟩;have m:=Mem.refl w;have htl:=hT.len;haveI:IT (dU t):=ac4 hit
 go_enter func33,ntmps33
 apply iY 8 [0,0] m;simp only[↓aD,eA];intro g1 u m;refine nF m O O (Lh (t:=t)) 8 [0,0] ?_;simp only[↓aD,eA,aa];intro u m;refine bX [5] [4,6,7,10,11,12,13,14,15,16,17,18,19,20,21,22,23,24,25,26,27,28,29,30,31,32] (fun n vs wl=>∃(k:Nat),vs=[.int .i64 (k:Int)]∧Mem w wl [bI g1 [.int .i64 (dU t).a.x,.int .i64 (dU t).a.y,.int .i64 (dU t).a.z,.int .i64 (dU t).b.x,.int .i64 (dU t).b.y,.int .i64 (dU t).b.z,.int .i64 (dU t).c.x,.int .i64 (dU t).c.y,.int .i64 (dU t).c.z] 39]∧(∀j s,j<k→ts[j]? = some s→Nd t s=false)∧(k≤N)∧(n=N-k)) ?_ ?_
 ·
  exact⟨_,0,O,m,(fun _ _ h=>absurd h (je _)),bw _,O⟩
 · intro n vs wr hI u K1 hK1
   obtain⟨k,rfl,m,hq,hk,hn⟩:=hI;simp only[zu,zF,zG];apply aK 8 [0,0] m;simp only[↓aD,iM];refine bD O ?_ ?_<;>intro hc1
   ·
    obtain⟨x,hx,hix,a,hA,hrow⟩:=hT.get (i:=k) (by omega);subst hA;haveI:IT (dU x):=ac4 hix;apply aK 7 [0] m;simp only[↓aD];refine aC (aF cD aP O O (by omega) (by omega) (bZ (ah _))) ?_;simp only[zz];refine aS O ((hrow.ext m.ext).lies cA aP) ?_;simp only[zz];refine nF m O O (Lh (t:=x)) 8 [0,0,1,0] ?_;simp only[↓aD,lM,eA,aa];intro g2 u m;refine aC (Uy O O) ?_;apply aL 1 [0] m;simp only[↓aD];refine bV O (fun hb=>aY O ((m.b 0 O).full cA aP)) (bV O (fun hb=>aY O ((m.b 1 O).full cA aP)) (xZ m O O (fun hb=>by simp only[dj,bh,cq,zA,zB,zC,zD,zE,hb,jI];rfl) (fun hb=>adK (s:=dU x) (t:=dU t)) ?_));intro u m;refine aC (cC O O O) ?_;apply aL 1 [0] m;simp only[↓aD];refine cR O ?_ ?_<;>intro hc2
    ·
     rw[ars] at hc2;have hmb:=amV hc2;apply aK 6 [0] m;simp only[↓aD];refine⟨by omega,?_⟩;exact hK1 (N-(k+1)) _ _ (by omega) (by kernel_rfl) ⟨k+1, rfl, (m.sel [false, true]), (fun j s' hj hs' => by
      rcases dq j k with h | h
      · exact hq j s' h hs'
      · obtain rfl:k=j:=by omega
        obtain rfl:=eo (hx.symm.trans hs');exact hmb),by omega,O⟩
    ·
     rw[ars] at hc2;have hmg:=art hc2;apply aK 5 [0,1,0] m;simp only[↓aD,eA];refine nF m O O (agB (s:=dU x) (t:=dU t)) 6 [0] ?_;simp only[↓aD];intro u m;refine cR O ?_ ?_<;>intro hc3
     ·
      have hmb:=hmg.trans hc3;apply aK 5 [] m;simp only[↓aD];refine aT O O ?_;try simp only[zD,zE]
      exact⟨_,O,m.ext,by rw[ar2 hx hmb]⟩
     ·
      have hmb:=hmg.trans hc3;apply aK 7 [0] m;simp only[↓aD];refine⟨by omega,?_⟩;exact hK1 (N-(k+1)) _ _ (by omega) (by kernel_rfl) ⟨k+1, rfl, (m.sel [false, true]), (fun j s' hj hs' => by
       rcases dq j k with h | h
       · exact hq j s' h hs'
       · obtain rfl:k=j:=by omega
         obtain rfl:=eo (hx.symm.trans hs');exact hmb),by omega,O⟩
   ·
    obtain rfl:k=N:=by omega
    apply aK 6 [] m;simp only[↓aD];refine aT O O ?_;try simp only[zD,zE]
    exact⟨_,O,m.ext,by rw[ar3 (by omega) hq]⟩
theorem akG{p:P3}(hq:I3 q)(h:IT t):IT (jV p q t):=⟨yW hq h.a,yW hq h.b,yW hq h.c⟩
def agC(u v:P3)(t:T3):Bool:=!(t.has u && !t.has v)||(!fN (jV u v t)&&decide (Tz t (jV u v t)=1))
def agD(r:List T3)(u v:P3)(t:T3):Bool:=!(t.has u && !t.has v) || !yT (jV u v t) r
theorem anH{v:P3}(h:(!t.has u||t.has v)=true):(t.has u && !t.has v)=false:=by revert h;cases t.has u <;> cases t.has v <;> decide
theorem anI{v:P3}(h:(!t.has u||t.has v)=false):(t.has u && !t.has v)=true:=by revert h;cases t.has u <;> cases t.has v <;> decide
theorem apX{v:P3}(h:(!t.has u||t.has v)=true):agC u v t=true:=by unfold agC;rw[anH h];rfl
theorem apY{r:List T3}{v:P3}(h:(!t.has u||t.has v)=true):agD r u v t=true:=by unfold agD;rw[anH h];rfl
theorem akH{v:P3}{b:Bool}(h:(!t.has u||t.has v)=false)(k:(fN (jV u v t)||decide (¬Tz t (jV u v t)=1))=b):agC u v t = !b:=by
 unfold agC;rw[anI h,←k,Bool.not_or,decide_not,n_];rfl
theorem akI{r:List T3}{v:P3}{b:Bool}(h:(!t.has u||t.has v)=false)(k:yT (jV u v t) r=b):agD r u v t = !b:=by unfold agD;rw[anI h,k];rfl
theorem anJ{f:T3→Bool}(h:l[k]? = some t)(hf:f t=false):l.all f=false:=List.all_eq_false.2 ⟨t,be h,by rw[hf];exact fg⟩
theorem anK{f:T3→Bool}{n:Nat}(hn:l.length≤n)(h:∀j t,j<n→l[j]? = some t→f t=true):l.all f=true:=List.all_eq_true.2 fun t ht=>by
 obtain⟨j,hj⟩:=dh.1 ht;exact h j t (by have:=(ap.1 hj).1;omega) hj
theorem aae(l r:List T3)(u v:P3):abe l r u v=(l.all (agC u v)&&l.all (agD r u v)):=rfl
theorem agE{rs:List T3}{M cap2:Nat}{A2:Option Addr}{p:P3}[I3 p][hq3:I3 q](w:aj)(hT:bU w A N ts)(hU:bU w A2 M rs)(hN:N≤10000000)(hM:M≤10000000):dA prog 110 [.slice A N cap,.slice A2 M cap2,pt p,pt q] w (fun v _=>v=.bool (abe ts rs p q)):=by
 refine⟨bJ func110 (by kernel_rfl),?_⟩;have m:=Mem.refl w;have htl:=hT.len
 go_enter func110,ntmps110
 apply iY 12 [0] m;simp only[↓aD];intro g1 g2 u m;refine bX [9] [8,10,11,12,16,17,18,19,20,21,22,23,24,25,26,27,28,29,30,31,32,33,34,35,36,37,38,39,40,41,42,43,44,45,46,47] (fun n vs wl=>∃(k:Nat),vs=[.int .i64 (k:Int)]∧Mem w wl [bI g2 [.int .i64 q.x,.int .i64 q.y,.int .i64 q.z] 30,bI g1 [.int .i64 p.x,.int .i64 p.y,.int .i64 p.z] 30]∧(∀j t,j<k→ts[j]? = some t→agC p q t=true)∧(k≤N)∧(n=N-k)) ?_ ?_
 ·
  exact⟨_,0,O,m,(fun _ _ h=>absurd h (je _)),bw _,O⟩
 · intro n vs wr hI u K1 hK1
   obtain⟨k,rfl,m,hq,hk,hn⟩:=hI;simp only[zu,zF,zG];apply aK 8 [0,0] m;simp only[↓aD,iM];refine bD O ?_ ?_<;>intro hc1
   ·
    obtain⟨t,ht,hti,a,hA,hrow⟩:=hT.get (i:=k) (by omega);subst hA;haveI:=akG (p:=p) hq3 hti;apply aK 7 [0] m;simp only[↓aD];refine aC (aF cD aP O O (by omega) (by omega) (bZ (ah _))) ?_;simp only[zz];refine aS O ((hrow.ext m.ext).lies cA aP) ?_;simp only[zz];apply jS 8 [0,2,0,0] m;simp only[↓aD,lM,eA,aQ,aa];intro g3 u m;refine nF m O O (Nc (t:=t) (p:=p)) 2 [0] ?_;simp only[↓aD];intro u m;refine bV O (fun hb=>aY O ((m.b 1 O).full aG aA)) (bV O (fun hb=>aY O ((m.b 0 O).full cA aP)) (xZ m O O (fun hb=>by simp only[dj,bh,cq,zA,zB,zC,zD,zE,hb,jI];rfl) (fun hb=>Nc (t:=t) (p:=q)) ?_));intro u m;refine aC (cC O O O) ?_;apply aL 1 [0] m;simp only[↓aD];refine cR O ?_ ?_<;>intro hc2
    ·
     have hfa:=apX hc2;apply aK 6 [0] m;simp only[↓aD];refine⟨by omega,?_⟩;exact hK1 (N-(k+1)) _ _ (by omega) (by kernel_rfl) ⟨k+1, rfl, (m.sel [false, true, true]), (fun j s' hj hs' => by
      rcases dq j k with h | h
      · exact hq j s' h hs'
      · obtain rfl:k=j:=by omega
        obtain rfl:=eo (ht.symm.trans hs');exact hfa),by omega,O⟩
    ·
     apply aK 6 [0,2,1,0] m;simp only[↓aD,eA,aQ];refine nF m O O (Sz (t:=t) (p:=p) (q:=q)) 6 [0,0,0] ?_;simp only[↓aD,lM,eA,aa];intro g4 u m;refine nF m O O (Js (t:=jV p q t)) 6 [0] ?_;simp only[↓aD];intro u m;refine bV O (fun hb=>aY O ((m.b 1 O).full cA aP)) (bV O (fun hb=>aY O ((m.b 0 O).full cA aP)) (xZ m O O (fun hb=>by simp only[dj,bh,cq,zA,zB,zC,zD,zE,hb,jI];rfl) (fun hb=>abX (t:=t) (r:=jV p q t)) ?_));intro u m;refine bA O (fun hb=>qM (aX hb O) O) (aC (cC O O O) ?_);apply aL 1 [0] m;simp only[↓aD];refine cR O ?_ ?_<;>intro hc3
     ·
      rw[tQ] at hc3;have hfa:=akH hc2 hc3;apply aK 5 [] m;simp only[↓aD];refine aT O O ?_;try simp only[zD,zE]
      exact⟨_,O,m.ext,by rw[aae,anJ ht hfa];rfl⟩
     ·
      rw[tQ] at hc3;have hfa:=akH hc2 hc3;apply aK 7 [0] m;simp only[↓aD];refine⟨by omega,?_⟩;exact hK1 (N-(k+1)) _ _ (by omega) (by kernel_rfl) ⟨k+1, rfl, (m.sel [false, false, true, true]), (fun j s' hj hs' => by
       rcases dq j k with h | h
       · exact hq j s' h hs'
       · obtain rfl:k=j:=by omega
         obtain rfl:=eo (ht.symm.trans hs');exact hfa),by omega,O⟩
   ·
    obtain rfl:N=k:=by omega
    apply aK 7 [0] m;simp only[↓aD];refine bX [13] [8,14,15,48,49,50,51,52,53,54,55,56,57,58,59,60,61,62,63,64,65,66,67,68,69,70,71,72,73] (fun n vs wl=>∃(k:Nat),vs=[.int .i64 (k:Int)]∧Mem w wl [bI g2 [.int .i64 q.x,.int .i64 q.y,.int .i64 q.z] 30,bI g1 [.int .i64 p.x,.int .i64 p.y,.int .i64 p.z] 30]∧(∀j t,j<k→ts[j]? = some t→agD rs p q t=true)∧(k≤N)∧(n=N-k)) ?_ ?_
    ·
     exact⟨_,0,O,m,(fun _ _ h=>absurd h (je _)),bw _,O⟩
    · intro n vs wr hI u K2 hK2
      obtain⟨k,rfl,m,hq2,hk2,hn2⟩:=hI;simp only[zu,zF,zG];apply aK 8 [0,0] m;simp only[↓aD,iM];refine bD O ?_ ?_<;>intro hc4
      ·
       obtain⟨t,ht,hti,a,hA,hrow⟩:=hT.get (i:=k) (by omega);subst hA;haveI:=akG (p:=p) hq3 hti;apply aK 7 [0] m;simp only[↓aD];refine aC (aF cD aP O O (by omega) (by omega) (bZ (ah _))) ?_;simp only[zz];refine aS O ((hrow.ext m.ext).lies cA aP) ?_;simp only[zz];apply jS 8 [0,2,0,0] m;simp only[↓aD,lM,eA,aQ,aa];intro g3 u m;refine nF m O O (Nc (t:=t) (p:=p)) 2 [0] ?_;simp only[↓aD];intro u m;refine bV O (fun hb=>aY O ((m.b 1 O).full aG aA)) (bV O (fun hb=>aY O ((m.b 0 O).full cA aP)) (xZ m O O (fun hb=>by simp only[dj,bh,cq,zA,zB,zC,zD,zE,hb,jI];rfl) (fun hb=>Nc (t:=t) (p:=q)) ?_));intro u m;refine aC (cC O O O) ?_;apply aL 1 [0] m;simp only[↓aD];refine cR O ?_ ?_<;>intro hc5
       ·
        have hfb:=apY (r:=rs) hc5;apply aK 6 [0] m;simp only[↓aD];refine⟨by omega,?_⟩;exact hK2 (N-(k+1)) _ _ (by omega) (by kernel_rfl) ⟨k+1, rfl, (m.sel [false, true, true]), (fun j s' hj hs' => by
         rcases dq j k with h | h
         · exact hq2 j s' h hs'
         · obtain rfl:k=j:=by omega
           obtain rfl:=eo (ht.symm.trans hs');exact hfb),by omega,O⟩
       ·
        apply aK 6 [0,2,1,0] m;simp only[↓aD,eA,aQ];refine nF m O O (Sz (t:=t) (p:=p) (q:=q)) 1 [0] ?_;simp only[↓aD];intro u m;refine cQ m O O (adL (t:=jV p q t) _ (hU.ext m.ext) hM) ?_;rintro v u m rfl;apply aL 6 [0] m;simp only[↓aD];refine cR O ?_ ?_<;>intro hc6
        ·
         have hfb:=akI hc5 hc6;apply aK 5 [] m;simp only[↓aD];refine aT O O ?_;try simp only[zD,zE]
         exact⟨_,O,m.ext,by rw[aae,anJ ht hfb,iv]⟩
        ·
         have hfb:=akI hc5 hc6;apply aK 7 [0] m;simp only[↓aD];refine⟨by omega,?_⟩;exact hK2 (N-(k+1)) _ _ (by omega) (by kernel_rfl) ⟨k+1, rfl, (m.sel [false, true, true]), (fun j s' hj hs' => by
          rcases dq j k with h | h
          · exact hq2 j s' h hs'
          · obtain rfl:k=j:=by omega
            obtain rfl:=eo (ht.symm.trans hs');exact hfb),by omega,O⟩
      ·
       obtain rfl:N=k:=by omega
       apply aK 6 [] m;simp only[↓aD];refine aT O O ?_;try simp only[zD,zE]
       exact⟨_,O,m.ext,by rw[aae,anK (by omega) hq,anK (by omega) hq2];rfl⟩
theorem Ef{P:Program}{f:FuncId}{args:List ai}{v v':ai}(h:dA P f args w fun u _=>u=v)(e:v=v'):dA P f args w fun u _=>u=v':=e▸h
theorem Tb{p:P3}(h:(-1000≤p.x∧p.x≤1000)∧(-1000≤p.y∧p.y≤1000)∧(-1000≤p.z∧p.z≤1000)):I3 p:=⟨by unfold rT;omega,by unfold rT;omega,by unfold rT;omega⟩
instance sx3:I3 (⟨10,0,0⟩:P3):=Tb (by decide)
instance sy3:I3 (⟨0,10,0⟩:P3):=Tb (by decide)
instance sz3:I3 (⟨-10,0,0⟩:P3):=Tb (by decide)
instance sa3:I3 (⟨0,0,0⟩:P3):=Tb (by decide)
instance sb3:I3 (⟨9,0,0⟩:P3):=Tb (by decide)
instance sc3:I3 (⟨0,9,0⟩:P3):=Tb (by decide)
instance sd3:I3 (⟨0,0,9⟩:P3):=Tb (by decide)
theorem Oo:∀t∈Ek,IT t:=xP ai0
def s1T:List T3:=[⟨⟨0,0,0⟩,⟨0,9,0⟩,⟨9,0,0⟩⟩,⟨⟨0,0,0⟩,⟨9,0,0⟩,⟨0,0,9⟩⟩,⟨⟨9,0,0⟩,⟨0,9,0⟩,⟨0,0,9⟩⟩,⟨⟨0,9,0⟩,⟨0,0,0⟩,⟨0,0,9⟩⟩]
def s2T:List T3:=[⟨⟨0,0,0⟩,⟨9,0,0⟩,⟨0,9,0⟩⟩]
theorem arw:∀t∈s1T,IT t:=fun t ht=>by
 simp only[s1T,List.mem_cons,cg,or_false] at ht;rcases ht with rfl | rfl | rfl | rfl
 · exact⟨sa3,sc3,sb3⟩
 · exact⟨sa3,sb3,sd3⟩
 · exact⟨sb3,sc3,sd3⟩
 · exact⟨sc3,sa3,sd3⟩
theorem arx:∀t∈s2T,IT t:=fun t ht=>by
 simp only[s2T,List.mem_cons,cg,or_false] at ht;subst ht;exact⟨sa3,sb3,sc3⟩
theorem apZ:Jm Ek ⟨10,0,0⟩ ⟨0,10,0⟩=true:=by rw[Jm,afQ,alV];decide
theorem ap0:Jm Ek ⟨10,0,0⟩ ⟨-10,0,0⟩=false:=by rw[Jm,alW,iv]
theorem ar5:Jm s1T ⟨0,0,0⟩ ⟨9,0,0⟩=false:=by kernel_rfl
theorem ar6:(oQ s2T ⟨0,0,0⟩ ⟨9,0,0⟩).length=0:=by kernel_rfl
theorem ap1:(Aj Ek 7).1.length=6:=congrArg Prod.fst abh
theorem ap2:(Aj Ek 7).2=[(⟨-10,0,0⟩,⟨0,-10,0⟩)]:=congrArg Prod.snd abh
theorem akJ  : dS prog 14 [] (.bool true):=by
 intro w;refine⟨bJ func14 (by kernel_rfl),?_⟩;have m:=Mem.refl w
 go_enter func14,ntmps14
 apply fI 6 [0] m;simp only[↓aD];refine bH O O (aoZ _) ?_;rintro v u e_ ⟨A1,cap1,n1,rfl,rfl,h_⟩;replace m:=m.newO e_ h_;apply jS 13 [0,0] m;simp only[↓aD,vT,eS,aQ,aa];intro g1 u m;refine go (cQ m O O (Ef (Eb (ts:=Ek) (p:=⟨10,0,0⟩) (q:=⟨0,10,0⟩) _ ((m.o 1 O).tris Oo) (by decide)) (by rw[apZ])) ?_);rintro v u m rfl;apply aL 4 [0,0] m;simp only[↓aD,aQ,vT,aa];refine eB O (cQ m O O (Ef (Eb (ts:=Ek) (p:=⟨10,0,0⟩) (q:=⟨-10,0,0⟩) _ ((m.o 1 O).tris Oo) (by decide)) (by rw[ap0])) ?_);rintro v u m rfl;apply aL 6 [0,0] m;simp only[↓aD,aQ,vT,Bool.not_true,fj,aa];refine eB O (bH O O (Gi (ts:=Ek) (p:=⟨10,0,0⟩) (q:=⟨0,10,0⟩) _ ((m.o 1 O).tris Oo) (by decide)) ?_);rintro v u e_ ⟨A2,cap2,n2,hn2,rfl,h_⟩;replace m:=m.newO e_ h_;obtain rfl:n2=6:=by rw[hn2];exact alX
 apply aL 1 [0] m;simp only[↓aD,iM];refine eB O (aC (xT O O rfl) ?_);apply jS 12 [0] m;simp only[↓aD,vT,eS,aQ,aa];intro g2 u m;apply Nu 8 [0,0] m;simp only[↓aD,eS,aQ,vT,aa];intro g3 g4 u m;apply Nu 11 [0,3,1] m;simp only[↓aD,vT,eS,aQ,aa];intro g5 u m;apply aU 5 [2,3,2,0] m;simp only[↓aD,aQ,qS,aa];apply aU 5 [2,1,0] m;simp only[↓aD,qS,aQ,aa];apply aU 4 [1,3,0,0] m;simp only[↓aD,aQ,qS,aa];refine afp O O O O ?_;intro u g6 e_ h_ k_;replace m:=m.newB e_ h_ k_;simp only[zz];replace m:=m.own 0 O (n:=4) (c:=9) O (iK O);simp only[zG] at m;apply aL 2 [4,3,0] m;simp only[↓aD,aQ];refine cQ m O O (Ef (Eb (ts:=s1T) (p:=⟨0,0,0⟩) (q:=⟨9,0,0⟩) _ (((m.o 0 O).as (show _=s1T.flatMap aN from O)).tris arw) (by decide)) (by rw[ar5])) ?_;rintro v u m rfl;apply aL 6 [4,3,2,0] m;simp only[↓aD,aQ,qS,Bool.not_true,fj,aa];refine eB O (eZ O ?_);intro u g7 e_ h_ k_;replace m:=m.newB e_ h_ k_;simp only[zz];replace m:=m.own 0 O (n:=1) (c:=9) O (iK O);simp only[zG] at m;apply aL 2 [5,4,0] m;simp only[↓aD,aQ];refine eB O (bH O O (Gi (ts:=s2T) (p:=⟨0,0,0⟩) (q:=⟨9,0,0⟩) _ (((m.o 0 O).as (show _=s2T.flatMap aN from O)).tris arx) (by decide)) ?_);rintro v u e_ ⟨A5,cap5,n5,hn5,rfl,h_⟩;replace m:=m.newO e_ h_;obtain rfl:n5=0:=by rw[hn5];exact ar6
 apply aL 1 [0] m;simp only[↓aD,iM];refine eB O (aC (xT O O rfl) ?_);apply aL 6 [0] m;simp only[↓aD];refine bH O O (adG (ts:=Ek) (want:=7) _ ((m.o 9 O).tris Oo) (by decide) (by decide)) ?_;rintro v u e_ ⟨A7,n7,c7,A8,n8,c8,rfl,hn7,hn8,hM⟩;replace m:=m.plus hM;clear hM;simp only[cj,b_] at m;obtain rfl:n7=6:=hn7.trans ap1;rw[ap2] at hn8 m;obtain rfl:n8=1:=hn8;apply aL 15 [0] m;simp only[↓aD,iM];refine eB O (aC (xT O O rfl) ?_);apply aL 6 [] m;simp only[↓aD,vT,aqD,aa];refine go (eB O (Kl O ?_));intro u g8 e_ h_ k_;replace m:=m.newB e_ h_ k_;simp only[zz];replace m:=m.own 0 O (n:=1) (c:=6) O (iK O);simp only[zG] at m;refine eB O (cQ m O O (Ef (aiY (xs:=[(⟨-10,0,0⟩,⟨0,-10,0⟩)]) (ys:=[(⟨-10,0,0⟩,⟨0,-10,0⟩)]) _ ((m.o 1 O).lat Nh (by decide)) (((m.o 0 O).as (show _=([(⟨-10,0,0⟩,⟨0,-10,0⟩)]:List E3).flatMap cY from O)).lat Nh (by decide)) (by decide)) (by rw[decide_eq_true O])) ?_);rintro v u m rfl;apply aL 4 [] m;simp only[↓aD];exact aT O O ⟨_,O,m.ext,O⟩
def cmN(ts:List T3)(p q:P3)(k:Nat):Nat:=(((iQ ts p).take k).filter fun x=>decide (x∈iQ ts q)).length
theorem ar7{p:P3}(h:(iQ ts p)[k]? = some x)(hx:decide (x∈iQ ts q)=true):cmN ts p q (k+1)=cmN ts p q k+1:=by unfold cmN;rw[cH h,gj,au];simp[of_decide_eq_true hx]
theorem ar8{p:P3}(h:(iQ ts p)[k]? = some x)(hx:decide (x∈iQ ts q)=false):cmN ts p q (k+1)=cmN ts p q k:=by unfold cmN;rw[cH h,gj,au];simp[of_decide_eq_false hx]
theorem akK(ts:List T3)(p q:P3):cmN ts p q (iQ ts p).length=((iQ ts p).filter fun x=>decide (x∈iQ ts q)).length:=by unfold cmN;rw[List.take_length]
theorem ary(ts:List T3)(p q:P3)(k:Nat):cmN ts p q k≤k:=by unfold cmN;exact Nat.le_trans (List.length_filter_le _ _) (by rw[bv];omega)
theorem ar9{v:P3}(h:v∉iQ l u):vV l u v=false:=by unfold vV;rw[decide_eq_false h];rfl
theorem asa{v:P3}(h:Fa (bK l) u=true):vV l u v=false:=by unfold vV;rw[h];simp
theorem asb{v:P3}(h:¬cmN l u v (iQ l u).length=2):vV l u v=false:=by rw[akK] at h;unfold vV;rw[decide_eq_false h];simp
theorem asc{v:P3}(h:(rG (oQ l u v)||Nk l u v)=true):vV l u v=false:=by
 unfold vV;rcases ej _ _ |>.mp h with h | h <;> rw[h] <;> simp
theorem asd{v:P3}(h1:v∈iQ l u)(h2:Fa (bK l) u=false)(h3:cmN l u v (iQ l u).length=2)(h4:(rG (oQ l u v)||Nk l u v)=false):vV l u v=abe l (oQ l u v) u v:=by
 rw[akK] at h3;rw[gq] at h4;unfold vV;rw[decide_eq_true h1,h2,decide_eq_true h3,h4.1,h4.2];rfl
theorem agF{p:P3}[I3 p][hq3:I3 q](w:aj)(hT:bU w A N ts)(hN:N≤1000000):dA prog 52 [.slice A N cap,pt p,pt q] w (fun v _=>v=.bool (vV ts p q)):=by
 refine⟨bJ func52 (by kernel_rfl),?_⟩;have m:=Mem.refl w;have htl:=hT.len;have hnp:=Jt ts p;have hnq:=Jt ts q;have hci:∀t∈oQ ts p q,IT t:=xP (Od hq3 hT.it);have hcl:=Ij p q ts;have hcl2:=Ry (p:=p) (q:=q) ts
 go_enter func52,ntmps52
 apply iY 10 [1,0] m;simp only[↓aD,aQ];intro g1 g2 u m;refine bH O O (aad (p:=p) _ (hT.ext m.ext) (by omega)) ?_;rintro v u e_ ⟨A7,c7,n7,hn7,rfl,h_⟩;replace m:=m.newO e_ h_;subst hn7;apply aL 4 [] m;simp only[↓aD];by_cases hv:q∈iQ ts p
 ·
  refine gc ?_;refine mh m [true,true,true] [(0,true),(1,true),(2,false),(3,true),(4,true),(5,true),(7,true),(6,false),(8,false),(9,true)] aB (by kernel_rfl) (bQ (fun _ _ _ _ _ h=>h)) (ol:=?_) ?hol ?_
  case hol=>simp only[zw,zQ,zR];try rfl
  intro u m;refine Hv 2 [1] ?_;simp only[↓aD,aQ];refine bL (cQ m O O (Ef (qI (p:=q) _ ((m.o 0 O).lat (enc:=bO) (fun _=>rfl) (by decide)) (by omega)) (by rw[decide_eq_true hv])) ?_);rintro v u m rfl;refine aM ⟨m,?_⟩;refine aZ (nV O) (aZ aH (wA O (aZ aH ?_)));simp only[zz];refine wA O (eE O (fun u m=>((m.b 2 O).full aG aA)) ?_);simp only[zz];refine bL (eB O (bH O O (aeV _ (hT.ext m.ext) (by omega)) ?_));rintro v u e_ ⟨bs,⟨A3,c3,n3,hn3,rfl,h_⟩,hbs,hbl⟩;replace m:=m.newO e_ h_;subst hn3;refine aM ⟨m.sel [false,true,true,true],?_⟩;refine bL (eB O ?_);simp only[zz];refine cQ m O O (qI (p:=p) _ ((m.o 0 O).lat (enc:=bO) (fun _=>rfl) (by decide)) (by omega)) ?_;rintro v u m rfl;refine aM ⟨m.sel [false,true,true,true],?_⟩;refine aZ (Da O) (bY (gc ?_));simp only[zz];refine cR O ?_ ?_<;>intro hc1
  ·
   rw[aeW hbs] at hc1;apply aK 5 [] m;simp only[↓aD];refine aT O O ?_;try simp only[zD,zE]
   exact⟨_,O,m.ext,by rw[asa hc1]⟩
  ·
   rw[aeW hbs] at hc1;apply aK 5 [2,0] m;simp only[↓aD,aQ];refine bH O O (aad (p:=q) _ (hT.ext m.ext) (by omega)) ?_;rintro v u e_ ⟨A8,c8,n8,hn8,rfl,h_⟩;replace m:=m.newO e_ h_;subst hn8;apply aL 12 [0] m;simp only[↓aD];refine bX [9,10] [30,31,32,33,34,35,36,37,38,39,40,41,42,43] (fun n vs wl=>∃(k:Nat),vs=[.int .i64 ((cmN ts p q k:Nat):Int),.int .i64 (k:Int)]∧Mem w wl [oI 30 3 A8 (iQ ts q).length c8 ((iQ ts q).flatMap bO),oI 30 3 A7 (iQ ts p).length c7 ((iQ ts p).flatMap bO),bI g2 [.int .i64 q.x,.int .i64 q.y,.int .i64 q.z] 30,bI g1 [.int .i64 p.x,.int .i64 p.y,.int .i64 p.z] 30]∧(k≤(iQ ts p).length)∧(n=(iQ ts p).length-k)) ?_ ?_
   ·
    exact⟨_,0,O,(m.sel [true,false,true,true,true]),bw _,O⟩
   · intro n vs wr hI u K1 hK1
     obtain⟨k,rfl,m,hk,hn⟩:=hI;have hcle:=ary ts p q k;simp only[zu,zF,zG];apply aK 8 [0,0] m;simp only[↓aD,kC];refine bD O ?_ ?_<;>intro hc2
     ·
      have hkl:k<(iQ ts p).length:=by omega
      obtain⟨x,hx⟩:∃x,(iQ ts p)[k]? = some x:=⟨_,am hkl⟩
      obtain⟨g7,rfl⟩:=(m.o 1 rfl).some (by omega);apply aK 8 [0] m;simp only[↓aD];refine aC (aF cN aA O O (by omega) (by omega) (bZ (ah _))) ?_;simp only[zz];refine aS O (show eR _ _ _ _ (pt x) from (((m.o 1 O).lat (enc:=bO) (fun _=>rfl) (by decide)).at hx).lies aG aA) ?_;simp only[zz];refine cQ m O O (qI (p:=x) _ ((m.o 0 O).lat (enc:=bO) (fun _=>rfl) (by decide)) (by omega)) ?_;rintro v u m rfl;apply aL 1 [0] m;simp only[↓aD];refine cR O ?_ ?_<;>intro hc3
      ·
       have hcm:=ar7 hx hc3;apply aK 11 [0] m;simp only[↓aD];refine⟨by omega,?_⟩;rw[show ((cmN ts p q k:Nat):Int)+1=((cmN ts p q (k+1):Nat):Int) by rw[hcm];rfl];exact hK1 ((iQ ts p).length-(k+1)) _ _ (by omega) (by kernel_rfl) ⟨k+1,O,m,by omega,O⟩
      ·
       have hcm:=ar8 hx hc3;apply aK 7 [0] m;simp only[↓aD];refine⟨by omega,?_⟩;rw[←hcm];exact hK1 ((iQ ts p).length-(k+1)) _ _ (by omega) (by kernel_rfl) ⟨k+1,O,m,by omega,O⟩
     ·
      obtain rfl:k=(iQ ts p).length:=by omega
      apply aK 7 [0,0] m;simp only[↓aD];refine bD O ?_ ?_<;>intro hc4
      ·
       have hne:¬cmN ts p q (iQ ts p).length=2:=by omega
       apply aK 5 [] m;simp only[↓aD];refine aT O O ?_;try simp only[zD,zE]
       exact⟨_,O,m.ext,by rw[asb hne]⟩
      ·
       have h2:cmN ts p q (iQ ts p).length=2:=by omega
       apply aK 6 [3,2,0] m;simp only[↓aD,aQ];refine bH O O (abU (p:=p) (q:=q) _ (hT.ext m.ext) (by omega)) ?_;rintro v u e_ ⟨A11,c11,n11,hn11,rfl,h_⟩;replace m:=m.newO e_ h_;subst hn11;apply aL 5 [0] m;simp only[↓aD];refine cQ m O O (akE _ ((m.o 0 O).tris hci) (by omega)) ?_;rintro v u m rfl;apply aL 7 [4,3,0] m;simp only[↓aD,aQ];refine cQ m O O (akF (p:=p) (q:=q) _ (hT.ext m.ext) (by omega)) ?_;rintro v u m rfl;apply aL 7 [0] m;simp only[↓aD];refine bA O (fun hb=>aH) (aC (cC O O O) ?_);apply aL 1 [0] m;simp only[↓aD];refine cR O ?_ ?_<;>intro hc5
       ·
        apply aK 5 [] m;simp only[↓aD];refine aT O O ?_;try simp only[zD,zE]
        exact⟨_,O,m.ext,by rw[asc hc5]⟩
       ·
        apply aK 7 [4,3,0] m;simp only[↓aD,aQ];refine cQ m O O (agE (p:=p) (q:=q) _ (hT.ext m.ext) ((m.o 0 O).tris hci) (by omega) (by omega)) ?_;rintro v u m rfl;apply aL 3 [] m;simp only[↓aD];refine aT O O ?_;try simp only[zD,zE]
        exact⟨_,O,m.ext,by rw[asd hv hc1 h2 hc5]⟩
 ·
  refine gc ?_;refine mh m [true,true,true] [(0,true),(1,true),(2,false),(3,true),(4,true),(5,true),(7,true),(6,false),(8,false),(9,true)] aB (by kernel_rfl) (bQ (fun _ _ _ _ _ h=>h)) (ol:=?_) ?hol ?_
  case hol=>simp only[zw,zQ,zR];try rfl
  intro u m;refine Hv 2 [1] ?_;simp only[↓aD,aQ];refine bL (cQ m O O (Ef (qI (p:=q) _ ((m.o 0 O).lat (enc:=bO) (fun _=>rfl) (by decide)) (by omega)) (by rw[decide_eq_false hv])) ?_);rintro v u m rfl;refine aM ⟨m,?_⟩;refine aZ (nV O) (aZ aH (adS O ?_));simp only[zz];refine adS O (bL (Nn O (aM ?_)));refine⟨m,?_⟩;refine bL (Nn O (aM ?_));refine⟨m,?_⟩;refine aZ (rH O) ?_;simp only[zz];refine bY ?_;apply aU 6 [] m;simp only[↓aD];refine aT O O ?_;try simp only[zD,zE]
  exact⟨_,O,m.ext,by rw[ar9 hv]⟩
theorem ase{p:P3}{b:Bool}(hb:b=decide (p=q))(h:(decide (fW true l≠0)||b)=true):Jm l p q=false:=by
 subst hb;unfold Jm;rcases ej _ _ |>.mp h with h | h
 · rw[decide_eq_false (of_decide_eq_true h)];simp
 · rw[of_decide_eq_true h];simp
theorem asf{p:P3}{b:Bool}(hb:b=decide (p=q))(h:(decide (fW true l≠0)||b)=false):Jm l p q=vV l p q:=by
 subst hb;rw[gq] at h;have h1:fW true l=0:=Classical.not_not.1 (of_decide_eq_false h.1);have h2:p≠q:=of_decide_eq_false h.2;unfold Jm;rw[decide_eq_true h2,decide_eq_true h1,Yu h1 h2];rfl
theorem aaf{p:P3}[I3 p][hq3:I3 q](w:aj)(hT:bU w A N ts)(hN:N≤1000000):dA prog 18 [.slice A N cap,pt p,pt q] w (fun v _=>v=.bool (Jm ts p q)):=by
 refine⟨bJ func18 (by kernel_rfl),?_⟩;have m:=Mem.refl w;have htl:=hT.len
 go_enter func18,ntmps18
 apply iY 10 [0] m;simp only[↓aD];intro g1 g2 u m;refine cQ m O O (Zc _ (hT.ext m.ext) (by omega)) ?_;rintro v u m rfl;apply aL 2 [0,0] m;simp only[↓aD];refine bV O (fun hb=>aY O ((m.b 1 O).full aG aA)) (bV O (fun hb=>aY O ((m.b 0 O).full aG aA)) (bA O (fun hb=>cB (aX hb O) (aX hb O)) (aC (cC O O O) ?_)));apply aL 1 [0] m;simp only[↓aD];refine cR O ?_ ?_<;>intro hc1
 ·
  rw[agv] at hc1;have hal:=ase rfl hc1;apply aK 5 [] m;simp only[↓aD];refine aT O O ?_;try simp only[zD,zE]
  exact⟨_,O,m.ext,by rw[hal]⟩
 ·
  rw[agv] at hc1;have hal:=asf rfl hc1;apply aK 6 [1,0,0] m;simp only[↓aD,aQ];refine cQ m O O (agF (p:=p) (q:=q) _ (hT.ext m.ext) hN) ?_;rintro v u m rfl;apply aL 3 [] m;simp only[↓aD];refine aT O O ?_;try simp only[zD,zE]
  exact⟨_,O,m.ext,by rw[hal]⟩
end Go.Proofs.YtfekpcimgncioaaGreatDoor
namespace Go.Lith
open Go.RowKit Go.ChangeShapes
variable {H:Type} {enc:az × ai→H} {P:Program} {w:aj} {base:Nat} {spare:Nat→Bool} {held:Bool}
theorem Nf{v:ai}{A:Option Addr}{len cap:Nat}(h:v.cells.toList=[.slice A len cap])(hv:∀cs,v≠.agg cs):v=.slice A len cap:=by
 cases v <;> first | (exact absurd rfl (hv _)) | (simp[qi] at h;done) | (simpa[qi] using h)
end Go.Lith
namespace Go.Proofs.YtfekpcimgncioaaGreatDoor
open Go.Proofs.Tryz
open Go.RowKit Go.Lith
set_option maxRecDepth 100000
attribute [local irreducible] wpList wpQuiet fU bS cO Code.wp
end Go.Proofs.YtfekpcimgncioaaGreatDoor
namespace Go.Lith
open Go.RowKit Go.ChangeShapes
variable {H:Type} {enc:az × ai→H} {P:Program} {w:aj} {base:Nat} {spare:Nat→Bool} {held:Bool}
def akL(k:IntKind)(z:Int):List ai:=[.int k z]
theorem akM{A:Option Addr}{n:Nat}{zs:List Int}(h:ahe w A n zs):sU (akL .i64) 1 w A n zs:=⟨h.len,fun i x hx=>by
 obtain⟨a,rfl,hc⟩:=h.row i x hx;exact⟨a,O,fun j u hj=>by
  have h1:j=0:=by
   have:=(ap.1 hj).1;simp[akL] at this;omega
  subst h1;cases hj;rw[Nat.mul_one,jW,Nat.add_zero];exact hc⟩⟩
theorem adM{r:Reach}{b0 n:Nat}{t e:az}{v:ai}{d:DataW H}{p:List MemPlace}(hu:P.underlying t=some (.slice e))(hi:uC P n e=true)(hc:P.cellsOf e=1)(hv:lu P w r b0 t v)(h:DataW.Trod enc P w base spare held t v d p) :
 ∃(A:Option Addr) (len cap:Nat) (zs:List Int),v=.slice A len cap∧sU (akL .i64) 1 w A len zs∧len≤cap∧∀z∈zs,rT z:=by
 obtain⟨fuel,hf⟩:=h;obtain⟨A,len,cap,zs,e,h2,_,_,h1⟩:=acb hu hi hc hf;refine⟨A,len,cap,zs,Nf e fun cs hcs=>?_,akM h1,h2,h1.it⟩;unfold lu at hv;rw[hu] at hv;subst hcs;simp[Cell.okWide,Cell.ok,hu] at hv
theorem agG{r:Reach}{b0:Nat}{t e:az}{v:ai}{d:DataW H}{p:List MemPlace}(hu:P.underlying t=some (.slice e))(he:P.underlying e=some (.int .u16))(hc:P.cellsOf e=1)(hv:lu P w r b0 t v)(h:DataW.Trod enc P w base spare held t v d p) :
 ∃(A:Option Addr) (len cap:Nat) (zs:List Int),v=.slice A len cap∧sU (akL .u16) 1 w A len zs∧∀z∈zs,0≤z∧z<65536:=by
 obtain⟨fuel,hf⟩:=h;have hs:∀{A:Option Addr} {len cap:Nat},v.cells.toList=[.slice A len cap]→v=.slice A len cap:=fun e=>Nf e fun cs hcs=>by
  unfold lu at hv;rw[hu] at hv;subst hcs;simp[Cell.okWide,Cell.ok,hu] at hv
 rcases Deep.open_slice hu hf with ⟨e0,_⟩ | ⟨a,len,cap,k,q,D,Pl,e0,hb,hl,hm,hk,_,hx⟩
 · exact⟨none,0,0,[],hs e0,sU.nil _ _,fun z hz=>by cases hz⟩
 · obtain⟨zs,h5,h6⟩:=Bl (p:=fun i (z:Int)=>(0≤z∧z<65536)∧mD w (a.add (i*1)) [.int .u16 z]) len (fun i hi=>by
    obtain⟨cs',h1,h2⟩:=hx i (by rw[hk];split <;> omega);obtain⟨z,rfl,_,hz⟩:=DataW.trod_int he h2;have hzb:=bounds_u16 hz;rw[hc] at h1;exact⟨z,by omega,(Pn h1).1⟩)
   refine⟨some a,len,cap,zs,hs e0,⟨h5,fun i x hi=>⟨a,O,(h6 i x hi).2⟩⟩,fun z hz=>?_⟩;obtain⟨i,hi,rfl⟩:=List.getElem_of_mem hz;exact (h6 i _ (am hi)).1
theorem adN{r:Reach}{b0:Nat}{t e:az}{v:ai}{d:DataW H}{p:List MemPlace}(ha:fA P t true)(hut:P.underlying t=some (.array 2 e))(hue:P.underlying e=some (.int .u16))(hce:P.cellsOf e=1)(hct:P.cellsOf t=2)
 (hv:lu P w r b0 t v) (h:DataW.Trod enc P w base spare held t v d p):∃a b:Int,(0≤a∧a<65536)∧(0≤b∧b<65536)∧v=.agg #[.int .u16 a,.int .u16 b]:=by
 obtain⟨dd,hu,hd⟩:=ha;obtain⟨fuel,hf⟩:=h;unfold lu at hv;rw[hu] at hv;have:∃cs,v=.agg cs:=by
  cases dd <;> first | (obtain⟨cs,rfl,_⟩:=hv;exact⟨cs,rfl⟩) | (cases hd)
 obtain⟨cs,rfl⟩:=this;obtain⟨ys,k,_,_,hl,hlen,hx⟩:=DataW.trod_array hut hf;obtain⟨l,rfl⟩:∃l:List ai,cs=l.toArray:=⟨cs.toList,rfl⟩
 simp only[qi] at hl hx;rw[hct] at hl
 match l,hl with
 | [u0,u1],_ =>
  have one:∀i,i<2→∃a:Int,(0≤a∧a<65536)∧(([u0,u1].drop (i*1)).take 1)=[.int .u16 a]:=fun i hi=>by
   have hq:=hx i hi;rw[am (by rw[hlen];exact hi),hce] at hq;obtain⟨z,e1,_,hz⟩:=DataW.trod_int hue hq;have hb:=bounds_u16 hz;exact⟨z,by omega,e1⟩
  obtain⟨a,ha,e0⟩:=one 0 (by decide);obtain⟨b,hb,e1⟩:=one 1 (by decide);have q0:u0=.int .u16 a:=by simpa using e0
  have q1:u1=.int .u16 b:=by simpa using e1
  exact⟨a,b,ha,hb,by rw[q0,q1]⟩
end Go.Lith
namespace Go.Proofs.YtfekpcimgncioaaGreatDoor
open Go.Proofs.Tryz
open Go.RowKit Go.Lith
set_option maxRecDepth 100000
attribute [local irreducible] wpList wpQuiet fU bS cO Code.wp
attribute [local congr] pD gF gG gH gI gJ kL gK gL gM gN gQ gR gS gT gU gV gW eU eV gX gY iA iB iC kN dF dG cW dD gZ kM eW eX eY iD iE kO
theorem Ju{A B:Option Addr}{N cap M cb:Nat}{zs es:List Int}{x y:Int}(w:aj)(hL:sU al8 1 w A N zs)(hcp:N≤cap)(hI:∀z∈zs,rT z)(hx:0≤x∧x<65536)(hy:0≤y∧y<65536)(hE:sU (akL .u16) 1 w B M es)(hEb:∀z∈es,0≤z∧z<65536):dA prog 3 [.slice A N cap,.agg #[.int .u16 x,.int .u16 y],.slice B M cb] w (fun v _=>v=.bool true):=by
 refine⟨bJ func3 (by kernel_rfl),?_⟩;have m:=Mem.refl w
 go_enter func3,ntmps3
 apply iY 7 [0] m;simp only[↓aD];intro g1 u m;refine nF m O O akJ 7 [0,0] ?_;simp only[↓aD,am9,am8,ad,ag,aa];refine⟨by omega,?_⟩;intro u m;refine aC (jE Ys underlying23 O (show IntKind.u8.wrap x=x%256 from O)) ?_;apply aL 2 [0,0] m;simp only[↓aD,am9,am8,ad,ag,aa];refine⟨by omega,?_⟩;refine bH O O (agz _ (hL.ext m.ext) hcp hI (by omega) hy) ?_;rintro v u e_ ⟨us,A8,n8,c8,rfl,hT8,hn8⟩;replace m:=m.ext' e_;apply aL 2 [] m;simp only[↓aD];obtain⟨w1,rfl⟩:∃x,x=u:=⟨u,rfl⟩
 have hw1:=m.ext;replace m:=Mem.refl w1;replace hE:=hE.ext hw1;apply aU 6 [0] m;simp only[↓aD];refine bX [9] [6,10,11,20,21,22,23,24,25,26,27,28,29,30,31,32,33,34,35,36,37,38,39,40,41,42,43,44,45,46,47] (fun n vs wl=>∃(k:Nat),vs=[.int .i64 (k:Int)]∧Mem w1 wl []∧(k≤10)∧(n=10-k)) ?_ ?_
 ·
  exact⟨_,0,O,m,by omega,O⟩
 · intro n vs wr hI u K1 hK1
   obtain⟨k,rfl,m,hk,hn⟩:=hI;simp only[zu,zF,zG];apply aK 8 [0,0] m;simp only[↓aD,aqB];refine cS O (fun hb=>aH) (cS O (fun hb=>qL (aX hb O) O) (aC (bW O O O) ?_));apply aL 1 [0] m;simp only[↓aD];refine cR O ?_ ?_<;>intro hc1
   ·
    have hk2:k<M∧k<10:=by simp only[bg,decide_eq_true_eq] at hc1;omega
    obtain⟨z,hz,b,hB,hrow⟩:=hE.get (i:=k) (by omega);subst hB;have hzb:=hEb z (be hz);apply aK 8 [0] m;simp only[↓aD];refine aC (aF underlying25 aht O O (by omega) (by omega) (jF (ah _))) ?_;simp only[zz];refine aS O (lies1 (al5 (hrow.ext m.ext)) an0) ?_;simp only[zz];refine cQ m O O (apQ _ (hT8.ext m.ext) (by omega) hzb) ?_;rintro v u m ⟨p,q,rfl,hp,hq⟩;apply jS 9 [1,0,0] m;simp only[↓aD,eS,aQ,aa];intro g2 g3 u m;refine mh m [true,true] [(0,true),(4,true),(1,true),(2,true),(5,true),(6,true),(3,false),(7,false),(8,true)] aB (by kernel_rfl) (bQ (fun _ _ _ _ _ h=>h)) (ol:=?_) ?hol ?_
    case hol=>simp only[zw,zQ,zR];try rfl
    intro u m;refine Hv 6 [1,0,1,0] ?_;simp only[↓aD,aQ];refine bL (cQ m O O (Eb (ts:=us) (p:=p) (q:=q) _ (hT8.ext m.ext) (by omega)) ?_);rintro v u m rfl;refine aM ⟨m,?_⟩;refine bL ?_;simp only[zz];refine cQ m O O (aaf (ts:=us) (p:=p) (q:=q) _ (hT8.ext m.ext) (by omega)) ?_;rintro v u m rfl;refine aM ⟨m,?_⟩;refine aZ (Kb Pu O O) (bY (gc ?_));simp only[zz];refine bD O ?_ ?_<;>intro hc2
    ·
     exact absurd hc2 (by simp)
    ·
     apply aK 7 [0] m;simp only[↓aD];refine⟨by omega,?_⟩;exact hK1 (10-(k+1)) _ _ (by omega) (by kernel_rfl) ⟨k+1,O,(m.sel [false,false]),by omega,O⟩
   ·
    apply aK 7 [] m;simp only[↓aD];exact aT O O ⟨_,O,hw1.trans m.ext,O⟩
end Go.Proofs.YtfekpcimgncioaaGreatDoor
namespace Go.Lith
open Go.RowKit Go.ChangeShapes
variable {H:Type} {enc:az × ai→H} {P:Program}
theorem Ng(hl:laidOutB P=true){W W':aj}(hb:fQ W W'){sp:Nat→Bool} :
 ∀{ts:List az} {vs:List ai} {ds:List (DataW H)} {ps:List MemPlace},(ts.all fun t=>P.readableRec t&&decide (t<P.types.size))=true→DataW.TrodAll enc P W 0 (fun _=>true) true ts vs ds ps→(∀p∈ps,sp p.block=true)→DataW.TrodAll enc P W' 0 sp true ts vs ds ps
 | [],[],[],_,_,h,_=>h
 | [],[],_::_,_,_,h,_=>h.elim
 | [],_::_,_,_,_,h,_=>h.elim
 | _::_,[],_,_,_,h,_=>h.elim
 | _::_,_::_,[],_,_,h,_=>h.elim
 | t::ts,v::vs,d::ds,ps,hv,h,hs=>by
  obtain⟨p,q,⟨n,h1⟩,h2,e⟩:=h;subst e;simp only[List.all_cons,bg,decide_eq_true_eq] at hv;have hlt:=DataW.trod_lt n _ _ _ h1;exact⟨p,q,⟨n,DataW.trod_stays (kids_book hl hv.1.1) (book_sized hv.1.1) (fun h=>by cases h) ⟨hv.1.2,book_self t⟩ h1 (fun x hx=>Below.same hb (hlt x hx)) (fun x hx=>hs x (by simp[hx]))⟩,
   Ng hl hb (by simpa using hv.2) h2 (fun x hx=>hs x (by simp[hx])),rfl⟩
theorem abZ{f:Func}{s:ChangeSpec}{apart fresh handsOn again:Bool}{W W':aj}{args:Array ai}{t:az}{ds gs:List (DataW H)}{before:List MemPlace}
 (hl:laidOutB P=true) (hps:(f.params.toList.all fun t=>P.readableRec t&&decide (t<P.types.size))=true) (hv:s.vars=[]) (hr:f.resultTypes = #[t]) (hu:P.underlying t=some .bool)
 (hW:DataW.Whole enc P f.params.toList s.vars apart W args.toList ds gs before) (hfn:(s.fn H (ds++gs)).results=[.lit (.bool true)]∧(s.fn H (ds++gs)).args=ds∧(s.fn H (ds++gs)).vars=[]) (hb:fQ W W') :
 s.post enc P f apart fresh handsOn again W args (.bool true) W':=by
 have hW0:=hW;obtain⟨p,q,hA,hV,rfl,hz,hn⟩:=hW0;rw[hv] at hV;obtain⟨rfl,rfl⟩:=trodVars_none hV;have hargs:∀sp:Nat→Bool,(∀x∈p++[],sp x.block=true)→DataW.TrodAll enc P W' 0 sp true f.params.toList args.toList (s.fn H (ds++[])).args p:=fun sp hsp=>by
  rw[hfn.2.1];exact Ng hl hb hps hA (fun x hx=>hsp x (by simp[hx]))
 have hvars:∀sp:Nat→Bool,DataW.TrodVars enc P W' sp s.vars (s.fn H (ds++[])).vars []:=fun sp=>by
  rw[hv,hfn.2.2];exact rfl
 have hres:∀(b:Nat) (sp:Nat→Bool) (hd:Bool),DataW.TrodAll enc P W' b sp hd f.resultTypes.toList ((bj true).resultList f.resultTypes.size) (s.fn H (ds++[])).results []:=fun b sp hd=>by
  rw[hr,hfn.1];exact trodAll_cons_mk (shut_bool hu true) trodAll_mk0
 have hok:∀(j:Nat) (t:az) (r:ai),f.resultTypes[j]? = some t→((bj true).resultList f.resultTypes.size)[j]? = some r→lu P W' .any 0 t r:=ok_one hr rfl (okWide_bool_mk hu _);have hlt:∀x∈p++[],x.block<W.heap.size:=hW.lt;have hold:∀x∈p++[],(fun b=>decide (b<W.heap.size)) x.block=true:=fun x hx=>by simpa using hlt x hx
 refine⟨ds,[],p++[],[],p,[],hW,hres _ _ _,hargs _ hold,hvars _,Below.frame hb _,fun _=>?_⟩;refine⟨hok,_,_,([]++p)++[],⟨[]++p,[],trodAll_append (hargs _ (fun _ _=>rfl)) (hres _ _ _),hvars _,O,?_,?_⟩,?_⟩
 · intro b off hp
   have h1:MemPlace.cell b off∈p++[]:=by simpa using hp
   rw[Below.frozen hb (p:=⟨b,off,none⟩) (hlt _ h1)];exact hz b off h1
 · intro ha
   simpa using hn ha
 · intro x hp _
   simpa using hp
end Go.Lith
