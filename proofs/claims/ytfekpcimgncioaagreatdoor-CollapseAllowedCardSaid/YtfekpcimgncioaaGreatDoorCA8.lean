/-
 Texts of one claim, laid together: K21, K22, K23, Mono, K24, K25, Trav, K27, K28, Maps2, K29, K61, K62, Meas1, RefG1, RefF, K41.
-/
import Derived.RunT
import Derived.Test.YtfekpcimgncioaaGreatDoorCA7
open Nat renaming reduceAdd→aa,reduceMul→ag,zero_add→aq,le_refl→av,le_trans→ba,zero_le→bw,lt_succ_self→fc,le_succ→pv
open Int renaming reduceToNat→ad,toNat_natCast→ah,reduceAdd→ak,tmod_eq_emod_of_nonneg→jk
open Go renaming Value→ai,World→aj,wpList→ar,TypeId→az,Program→bp,MapEntry→ck,wpQuiet→cl
open List renaming getElem?_eq_getElem→am,mem_cons→an,getElem?_eq_some_iff→ap,length_append→au,length_cons→aw,take_of_length_le→ay,flatMap_append→a_,mem_of_getElem?→be,mem_singleton→bf,map_cons→bh,mem_append→bi,length_nil→bn,nil_append→b_,not_mem_nil→cg,cons_append→cj,map_nil→cq,length_map→ct,map_append→cv,mem_iff_getElem?→dh,append_assoc→dl,mem_map→eh,length_set→et,getElem?_map→fb,mem_map_of_mem→fh,take_length→fi,map_toArray→f_,mem_append_right→gl,getD_eq_getElem?_getD→gz,mem_append_left→g_,map_congr_left→iy,nodup_append→jy,nodup_nil→kj,map_eq_append_iff→lq,map_eq_cons_iff→mj,perm_cons→ny
open Go.Value renaming bool→bj
open Option.some renaming inj→eo,injEq→gn
open Option renaming map_some→fl
open Prod.mk renaming injEq→gh
open Bool renaming or_eq_false_iff→gq
open Array renaming eraseIdxIfInBounds→kz,toList_push→nt
open List.Nodup renaming length_le_of_subset→lk
open List.Perm renaming append_left→l_,refl→nu
set_option maxHeartbeats 8000000
set_option linter.unusedSimpArgs false
set_option linter.unusedVariables false
set_option linter.unusedSectionVars false
namespace Go.Proofs.YtfekpcimgncioaaGreatDoor
open Go.Proofs.Tryz
open Go.RowKit Go.Lith
set_option maxRecDepth 100000
attribute [local irreducible] ar cl fU bS cO Code.wp
attribute [local congr] pD gF gG gH gI gJ kL gK gL gM gN gQ gR gS gT gU gV gW eU eV gX gY iA iB iC kN dF dG cW dD gZ kM eW eX eY iD iE kO
variable{ts:List T3}{q:P3}{cap k g4 g5:Nat}{t:T3}{w0 w:aj}{K:It}
theorem aj7{P:bp}{l:List ai}{op:Op}{ty:az}{b c:Bool}(h:iR P l op ty (.bool b))(e:b=c):iR P l op ty (.bool c):=e▸h
def Jm(ts:List T3)(p q:P3):Bool:=decide (p≠q)&&decide (fW true ts=0)&&dK ts p q
theorem Sq(h:fW true ts=0):∀t∈ts,t.nd=true:=fun t ht=>Go.Lith.nd_of ((aaZ h).1 t ht)
theorem aq4{p:P3}:(p.x=q.x∧p.y=q.y∧p.z=q.z)↔p=q:=⟨fun h=>P3.eq h.1 h.2.1 h.2.2,fun h=>by rw[h];exact⟨rfl,rfl,rfl⟩⟩
theorem anx{p:P3}(h:p≠q):decide (¬(p.x=q.x∧p.y=q.y∧p.z=q.z))=true:=decide_eq_true fun k=>h (aq4.1 k)
theorem aq5{p:P3}(h:p=q):decide (¬(p.x=q.x∧p.y=q.y∧p.z=q.z))=false:=decide_eq_false fun k=>k (aq4.2 h)
theorem Eb{N:Nat}{A:Option Addr}{p:P3}[I3 p][I3 q](w:aj)(hT:bU w A N ts)(hN:N≤300000):dA prog 17 [.slice A N cap,pt p,pt q] w (fun v _=>v=.bool (Jm ts p q)):=by
 refine⟨bJ func17 (by kernel_rfl),?_⟩;have m:=Mem.refl w;have htl:=hT.len
 go_enter func17,ntmps17
 apply iY 7 [] m;simp only[↓aD];intro g1 g2 u m;rcases (show p=q∨(p≠q∧fW true ts≠0)∨(p≠q∧fW true ts=0) by by_cases h1:p=q <;> by_cases h2:fW true ts=0 <;> simp[h1,h2]) with hpq | ⟨hpq,hck⟩ | ⟨hpq,hck⟩
 ·
  refine gc ?_;refine mh m [true,true] [(0,true),(1,true),(2,true),(3,true),(4,true),(5,false),(6,true),(7,true),(8,true),(9,true),(11,true),(12,true),(10,false),(13,false),(14,true),(15,true)] aB (by kernel_rfl) (bQ (fun _ _ _ _ _ h=>h)) (ol:=?_) ?hol ?_
  case hol=>simp only[zw,zQ,zR];try rfl
  intro u m;refine eE O (fun u m=>((m.b 1 O).full aG aA)) ?_;simp only[zz];refine eE O (fun u m=>((m.b 0 O).full aG aA)) ?_;simp only[zz];refine aZ ((aj7 (fH O O) (aq5 hpq))) (aZ aH (tF O (bL (pH O ?_))));simp only[zz];refine aM ⟨m,?_⟩;refine tF O (aZ (Da O) (aZ aH (tF O ?_)));simp only[zz];refine tF O (tF O (bL (pH O (aM ?_))));refine⟨m,?_⟩;refine bL (pH O ?_);simp only[zz];refine aM ⟨m,?_⟩;refine aZ (Da O) (aZ aO (bY ?_));apply aU 1 [] m;simp only[↓aD];refine aT O O ?_;try simp only[zD,zE]
  exact⟨_,O,m.ext,by rw[Jm,decide_eq_false (fun h=>h hpq)];rfl⟩
 ·
  refine gc ?_;refine mh m [true,true] [(0,true),(1,true),(2,true),(3,true),(4,true),(5,false),(6,true),(7,true),(8,true),(9,true),(11,true),(12,true),(10,false),(13,false),(14,true),(15,true)] aB (by kernel_rfl) (bQ (fun _ _ _ _ _ h=>h)) (ol:=?_) ?hol ?_
  case hol=>simp only[zw,zQ,zR];try rfl
  intro u m;refine eE O (fun u m=>((m.b 1 O).full aG aA)) ?_;simp only[zz];refine eE O (fun u m=>((m.b 0 O).full aG aA)) ?_;simp only[zz];refine aZ ((aj7 (fH O O) (anx hpq))) (aZ aH (wA O (aZ aH (bL (eB O ?_)))));simp only[zz];refine cQ m O O (yV _ (hT.ext m.ext) (by omega)) ?_;rintro v u m rfl;refine aM ⟨m,?_⟩;refine wA O (aZ (Xe O O hck) (aZ (rH O) (aZ aH ?_)));simp only[zz];refine tF O (tF O (tF O (bL (pH O ?_))));simp only[zz];refine aM ⟨m,?_⟩;refine bL (pH O (aM ?_));refine⟨m,?_⟩;refine aZ (Da O) (aZ aO (bY ?_));apply aU 1 [] m;simp only[↓aD];refine aT O O ?_;try simp only[zD,zE]
  exact⟨_,O,m.ext,by rw[Jm,decide_eq_false hck,Bool.and_false];rfl⟩
 ·
  refine gc ?_;refine mh m [true,true] [(0,true),(1,true),(2,true),(3,true),(4,true),(5,false),(6,true),(7,true),(8,true),(9,true),(11,true),(12,true),(10,false),(13,false),(14,true),(15,true)] aB (by kernel_rfl) (bQ (fun _ _ _ _ _ h=>h)) (ol:=?_) ?hol ?_
  case hol=>simp only[zw,zQ,zR];try rfl
  intro u m;refine eE O (fun u m=>((m.b 1 O).full aG aA)) ?_;simp only[zz];refine eE O (fun u m=>((m.b 0 O).full aG aA)) ?_;simp only[zz];refine aZ ((aj7 (fH O O) (anx hpq))) (aZ aH (wA O (aZ aH (bL (eB O ?_)))));simp only[zz];refine cQ m O O (yV _ (hT.ext m.ext) (by omega)) ?_;rintro v u m rfl;refine aM ⟨m,?_⟩;refine wA O (aZ (xT O O hck) (aZ (rH O) (aZ aH ?_)));simp only[zz];refine wA O (aZ aH (wA O ?_));simp only[zz];refine eE O (fun u m=>((m.b 1 O).full aG aA)) ?_;simp only[zz];refine wA O (eE O (fun u m=>((m.b 0 O).full aG aA)) ?_);simp only[zz];refine bL (eB O (bH O O (aj4 _ (hT.ext m.ext) (Sq hck) (by omega)) ?_));rintro v u e_ ⟨g90,ga,gf,ea,ef,ca,cf,D,F,K9,rfl,hM,hS9,hD9⟩;replace m:=m.plus hM;clear hM;simp only[cj,b_] at m;refine aM ⟨m.sel [false,true,true],?_⟩;refine bL (eB O ?_);simp only[zz];refine cQ m O O (Wp (p:=p) (q:=q) _ (hS9 _ (m.get 0 O)) hD9 (hT.ext m.ext) (Sq hck) (by omega)) ?_;rintro v u m rfl;refine aM ⟨m.sel [false,true,true],?_⟩;refine aZ (rH O) (aZ aO (bY ?_));apply aU 1 [] m;simp only[↓aD];refine aT O O ?_;try simp only[zD,zE]
  exact⟨_,O,m.ext,by rw[Jm,decide_eq_true hpq,decide_eq_true hck];rfl⟩
theorem adu{a b:List Int}(ha:a.length=10)(hb:b.length=10)(hA:Gf k a)(hB:Gf k b)(hk:k≤900000):dS prog 61 [qV a,qV b] (qV (Ei a b)):=by
 intro w;refine⟨bJ func61 (by kernel_rfl),?_⟩;have m:=Mem.refl w
 go_enter func61,ntmps61
 apply iY 12 [0] m;simp only[↓aD,aiw];intro g1 g2 g3 u m;refine bX [6] [5,7,8,9,10,11,12,13,14,15,16,17,18] (fun n vs wl=>∃(i:Nat),vs=[.int .i64 (i:Int)]∧Mem w wl [bI g3 [.bool false,.string ⟨#[]⟩,.bool false,.string ⟨#[]⟩,.bool false,.string ⟨#[]⟩,.bool false,.string ⟨#[]⟩,.bool false,.string ⟨#[]⟩,.bool false,.string ⟨#[]⟩,.bool false,.string ⟨#[]⟩,.bool false,.string ⟨#[]⟩,.bool false,.string ⟨#[]⟩,.bool false,.string ⟨#[]⟩] 97,bI g2 (qC b) 97,bI g1 (qC (qP a b i)) 97]∧(i≤10)∧(n=10-i)) ?_ ?_
 ·
  exact⟨_,0,O,m,bw _,O⟩
 · intro n vs wr hI u K1 hK1
   obtain⟨i,rfl,m,hi,hn⟩:=hI;simp only[zu,zF,zG];apply aK 5 [0,0] m;simp only[↓aD];refine bD O ?_ ?_<;>intro hc1
   ·
    have hi:i<10:=by omega
    obtain⟨x,hx0⟩:∃x,a[i]? = some x:=⟨_,Yp ha hi⟩
    obtain⟨y,hy⟩:∃y,b[i]? = some y:=⟨_,Yp hb hi⟩
    have hx:=aqx ha hb hi hx0;apply aK 8 [0] m;simp only[↓aD];refine cU m 9 aB (by kernel_rfl) ?_;simp only[zy];refine aI aH (aI aH ?_);simp only[zz];refine aI (aJ Mi aR O O (by omega) (by omega) (mW (ah _))) ?_;simp only[zz];refine ql O (fun u m=>(show eR _ _ _ _ (W x) from (Ch (m.b 2 O) hx).lies cM aR)) ?_;simp only[zz];refine aI aH ?_;simp only[zz];refine aI (aJ Mi aR O O (by omega) (by omega) (mW (ah _))) ?_;simp only[zz];refine ql O (fun u m=>(show eR _ _ _ _ (W y) from (Ch (m.b 1 O) hy).lies cM aR)) ?_;simp only[zz];refine fD O O (Wk ((hA.at hx0).mono (by omega)) ((hB.at hy).mono (by omega))) ?_;simp only[zz];refine aI (aJ Mi aR O O (by omega) (by omega) (mW (ah _))) (bC ?_);intro u m;simp only[zz];refine bN m 2 O O O aR (by have h1:=Cg (qP a b i);have h2:=aiq ha hb (show i≤10 by omega);simp only[aw,bn];omega) rfl ?_;intro u m;simp only[zF,zG] at m;rw[show over (qC (qP a b i)) (i*2) [.bool (fY (x+y)),.string (kK (x+y))]=qC (qP a b (i+1)) from (Yn (x:=x+y) (by rw[aiq ha hb (by omega)];omega)).trans (by rw[aor ha hb hi hx0 hy])] at m;refine aM ?_;apply aU 5 [0] m;simp only[↓aD];refine⟨by omega,?_⟩;exact hK1 (10-(i+1)) _ _ (by omega) (by kernel_rfl) ⟨i+1,O,m,by omega,O⟩
   ·
    obtain rfl:i=10:=by omega
    rw[aoq ha hb] at m;apply aK 3 [0] m;simp only[↓aD];refine aS O (wI (m.b 2 O) yG kZ (by simp only[lL ha hb])) ?_;simp only[zz];refine Du (n:=20) m 0 O O O (by rw[lL ha hb]) O kZ ?_;intro u m;simp only[zF,zG] at m;apply aL 2 [] m;simp only[↓aD];exact aT O ⟨_,O,(wI (m.b 0 O) yG kZ (by simp only[lL ha hb]))⟩ ⟨_,O,m.ext,O⟩
theorem arT[IT t]:dS prog 182 [tr t] (qV [t.normal.x,t.normal.y,t.normal.z,0-t.normal.x*t.a.x-t.normal.y*t.a.y-t.normal.z*t.a.z]):=by
 intro w;refine⟨bJ func182 (by kernel_rfl),?_⟩;have m:=Mem.refl w
 go_enter func182,ntmps182
 apply iY 8 [1,0] m;simp only[↓aD,ac2,eA];intro g1 g2 u m;refine nF m O O (Sd (t:=t)) 14 [0,0,0,0,0] ?_;simp only[↓aD,Rn,aiF,uX,fL,aiB,ac2,aiA,aa,ad,ag];intro g3 g4;refine⟨by omega,?_⟩;intro u m;apply aU 31 [3,3,3,4,1,0] m;simp only[↓aD,bR,gD,dC,iH,jA,sY,ad,ag,aa];refine⟨by omega,?_⟩;refine aC (jY O O) ?_;apply aL 3 [0] m;simp only[↓aD];refine cU m 10 aB (by kernel_rfl) ?_;simp only[zy];refine dZ 1 [] ?_;simp only[↓aD,Lg,ad,ag,aa];refine⟨by omega,?_⟩;refine ql O (fun u m=>(alO ((m.b 0 O).lies cM aR O O))) ?_;simp only[zz];refine dZ 4 [1] ?_;simp only[↓aD,uX,fL,ad,ag,aa];refine⟨by omega,?_⟩;refine fD O O (qD Iw.h) ?_;simp only[zz];refine fD O O (sZ Bw.up Bw.up) ?_;simp only[zz];refine fD O O (Fg Bw.up Bw.up) (dZ 1 [] ?_);simp only[↓aD,Lg,ad,ag,aa];refine⟨by omega,?_⟩;refine bC ?_;intro u m;refine bN m 0 O O O aR (iK O) O ?_;intro u m;simp only[zy,zx,over,zF,zG,aa] at m;refine aM ?_;apply aU 18 [1,0] m;simp only[↓aD,ak];refine⟨by omega,?_⟩;refine aC (jZ O O) ?_;apply aL 3 [0] m;simp only[↓aD];refine cU m 10 aB (by kernel_rfl) ?_;simp only[zy];refine dZ 6 [0,1] ?_;simp only[↓aD,Lg,fL,uX,ad,ag,aa];refine⟨by omega,?_⟩;refine fD O O (qD Iw.h) ?_;simp only[zz];refine fD O O (sZ Bw.up Bw.up) ?_;simp only[zz];refine fD O O (Fg Bw.up Bw.up) (dZ 1 [] ?_);simp only[↓aD,Lg,ad,ag,aa];refine⟨by omega,?_⟩;refine bC ?_;intro u m;refine bN m 0 O O O aR (iK O) O ?_;intro u m;simp only[zy,zx,over,zF,zG,aa] at m;refine aM ?_;apply aU 18 [1,0] m;simp only[↓aD,ak];refine⟨by omega,?_⟩;refine aC (kA O O) ?_;apply aL 3 [0] m;simp only[↓aD];refine cU m 10 aB (by kernel_rfl) ?_;simp only[zy];refine dZ 6 [0,1] ?_;simp only[↓aD,Lg,fL,uX,ad,ag,aa];refine⟨by omega,?_⟩;refine fD O O (qD Iw.h) ?_;simp only[zz];refine fD O O (sZ Bw.up Bw.up) ?_;simp only[zz];refine fD O O (Fg Bw.up Bw.up) (dZ 1 [] ?_);simp only[↓aD,Lg,ad,ag,aa];refine⟨by omega,?_⟩;refine bC ?_;intro u m;refine bN m 0 O O O aR (iK O) O ?_;intro u m;simp only[zy,zx,over,zF,zG,aa] at m;refine aM ?_;apply Nu 19 [2,0,2] m;simp only[↓aD,aiA,ak,aa];refine⟨by omega,?_⟩;intro u m;exact aT O ⟨_,O,((m.b 2 O).full ad7 Ki)⟩ ⟨_,O,m.ext,O⟩
def aq6(f:FuncId)(caps:Array ai)(w0:aj)(is:List It)(k:Nat)(J:Nat→It):Prop :=
 ∀n u,n<10→Mem w0 u (is.set k (J n))→vU prog f ([.int .i64 (n:Int),.int .i64 (eI n:Int),.int .i64 (eJ n:Int)]++caps.toList) u fun _ w'=>Mem w0 w' (is.set k (J (n+1)))
theorem aj8{is:List It}{f:FuncId}{caps:Array ai}{J:Nat→It}(m:Mem w0 w is)(k:Nat)(hk:is[k]? = some (J 0))(hc:aq6 f caps w0 is k J):Calls prog 119 [.func (.func f) #[] caps].toArray w fun e w'=>∃v i,e=.returned v∧Mem w0 w' (is.set k i)∧(v=.tuple #[]∧i=J 10):=by
 replace m:=(show Mem w0 w (is.set k (J 0)) by rw[Qd hk];exact m)
 go_enter func119,ntmps119
 apply fI 49 [5,1,5,1,0] m;simp only[↓aD];refine⟨by omega,?_⟩;refine kJ O O (hc 0 _ (by decide) m) ?_;rintro v u m;apply aL 29 [1,0] m;simp only[↓aD,ak];refine⟨by omega,?_⟩;refine kJ O O (hc 1 _ (by decide) m) ?_;rintro v u m;apply aL 29 [1,0] m;simp only[↓aD,ak];refine⟨by omega,?_⟩;refine kJ O O (hc 2 _ (by decide) m) ?_;rintro v u m;apply aL 29 [1,0] m;simp only[↓aD,ak];refine⟨by omega,?_⟩;refine kJ O O (hc 3 _ (by decide) m) ?_;rintro v u m;apply aL 65 [2,1,4,1,0] m;simp only[↓aD,ak];refine⟨by omega,?_⟩;refine kJ O O (hc 4 _ (by decide) m) ?_;rintro v u m;apply aL 29 [1,0] m;simp only[↓aD,ak];refine⟨by omega,?_⟩;refine kJ O O (hc 5 _ (by decide) m) ?_;rintro v u m;apply aL 29 [1,0] m;simp only[↓aD,ak];refine⟨by omega,?_⟩;refine kJ O O (hc 6 _ (by decide) m) ?_;rintro v u m;apply aL 65 [2,1,3,1,0] m;simp only[↓aD,ak];refine⟨by omega,?_⟩;refine kJ O O (hc 7 _ (by decide) m) ?_;rintro v u m;apply aL 29 [1,0] m;simp only[↓aD,ak];refine⟨by omega,?_⟩;refine kJ O O (hc 8 _ (by decide) m) ?_;rintro v u m;apply aL 65 [2,1,2,1,0] m;simp only[↓aD,ak];refine⟨by omega,?_⟩;refine kJ O O (hc 9 _ (by decide) m) ?_;rintro v u m;apply aL 34 [2,2,0] m;simp only[↓aD,ak];refine⟨by omega,?_⟩;exact Ep O ⟨_,J 10,O,m,O,O⟩
theorem aq7{g3 n:Nat}{a b c d:Int}(m:Mem w0 w [bI g3 (qC (qF a b c d n)) 97,bI g5 (wC 2) 95,bI g4 (qC [a,b,c,d]) 229,K])(hn:n<10)(hp:Gf k [a,b,c,d])(hk:k≤400000):vU prog 183 [.int .i64 (n:Int),.int .i64 (eI n:Int),.int .i64 (eJ n:Int),.pointer (some ⟨g4,0,none⟩),.pointer (some ⟨g3,0,none⟩),.pointer (some ⟨g5,0,none⟩)] w fun _ w'=>Mem w0 w' [bI g3 (qC (qF a b c d (n+1))) 97,bI g5 (wC 2) 95,bI g4 (qC [a,b,c,d]) 229,K]:=by
 refine⟨bJ func183 (by kernel_rfl),?_⟩;have hi:=air hn;have hj:=ais hn;have hx:=am6 a b c d hi;have hy:=am6 a b c d hj;have hlq:=aos a b c d (show n≤10 by omega);have hpr:=acU hp rfl hn;have h2b:Bd 2 (2:Int):=by unfold Bd;decide
 go_enter func183,ntmps183
 apply fI 1 [0] m;simp only[↓aD];refine cU m 9 aB (by kernel_rfl) ?_;simp only[zy];refine aI aH (aI aH ?_);simp only[zz];refine aI (aJ underlying229 aR O O (by omega) (by omega) (mW (ah _))) ?_;simp only[zz];refine ql O (fun u m=>(show eR _ _ _ _ (W ([a,b,c,d].getD (eI n) 0)) from (Ch (m.b 2 O) hx).lies cM aR)) ?_;simp only[zz];refine aI aH ?_;simp only[zz];refine aI (aJ underlying229 aR O O (by omega) (by omega) (mW (ah _))) ?_;simp only[zz];refine ql O (fun u m=>(show eR _ _ _ _ (W ([a,b,c,d].getD (eJ n) 0)) from (Ch (m.b 2 O) hy).lies cM aR)) ?_;simp only[zz];refine fD O O (sZ ((hp.at hx).mono (by omega)) ((hp.at hy).mono (by omega))) ?_;simp only[zz];refine aI (aJ Mi aR O O (by omega) (by omega) (mW (ah _))) (bC ?_);intro u m;simp only[zz];refine bN m 0 O O O aR (by have h1:=Cg (qF a b c d n);have h2:=hlq;simp only[aw,bn];omega) rfl ?_;intro u m;simp only[zF,zG] at m;rw[show over (qC (qF a b c d n)) (n*2) [.bool (fY ([a,b,c,d].getD (eI n) 0*[a,b,c,d].getD (eJ n) 0)),.string (kK ([a,b,c,d].getD (eI n) 0*[a,b,c,d].getD (eJ n) 0))]=qC ((qF a b c d n).set n (Vv [a,b,c,d] n)) from Yn (by omega)] at m;refine aM ?_;apply aU 6 [0,0] m;simp only[↓aD];refine bD O ?_ ?_<;>intro hc1
 ·
  have hq:((qF a b c d n).set n (Vv [a,b,c,d] n))[n]? = some (Vv [a,b,c,d] n):=by rw[List.getElem?_set_self (by omega)]
  have hst:=ait (a:=a) (b:=b) (c:=c) (d:=d) hn;rw[if_neg (by omega)] at hst;refine cU m 7 aB (by kernel_rfl) ?_;simp only[zy];refine aI aH (aI aH ?_);simp only[zz];refine aI (aJ Mi aR O O (by omega) (by omega) (mW (ah _))) ?_;simp only[zz];refine ql O (fun u m=>(show eR _ _ _ _ (W (Vv [a,b,c,d] n)) from (Ch (m.b 0 O) hq).lies cM aR)) ?_;simp only[zz];refine ql O (fun u m=>(show eR _ _ _ _ (W 2) from (m.b 1 O).lies cM aR O O)) ?_;simp only[zz];refine fD O O (sZ (hpr.mono (by omega)) (h2b.mono (by omega))) ?_;simp only[zz];refine aI (aJ Mi aR O O (by omega) (by omega) (mW (ah _))) (bC ?_);intro u m;simp only[zz];refine bN m 0 O O O aR (by have h1:=Cg ((qF a b c d n).set n (Vv [a,b,c,d] n));have h2:=(et:((qF a b c d n).set n (Vv [a,b,c,d] n)).length=_);simp only[aw,bn];omega) rfl ?_;intro u m;simp only[zF,zG] at m;rw[show over (qC ((qF a b c d n).set n (Vv [a,b,c,d] n))) (n*2) [.bool (fY (Vv [a,b,c,d] n*2)),.string (kK (Vv [a,b,c,d] n*2))]=qC (((qF a b c d n).set n (Vv [a,b,c,d] n)).set n (Vv [a,b,c,d] n*2)) from Yn (by rw[et];omega)] at m;refine aM ?_;exact Ep O ⟨_,O,by rw[hst] at m;exact m⟩
 ·
  have hst:=ait (a:=a) (b:=b) (c:=c) (d:=d) hn;rw[if_pos (by omega),List.set_set] at hst;apply aK 1 [0] m;simp only[↓aD];exact Ep O ⟨_,O,by rw[hst] at m;exact m⟩
theorem zw0:[bj false,Value.string ⟨#[]⟩]=wC 0:=by unfold wC;rw[Kd];rfl
theorem zq0:([.bool false,.string ⟨#[]⟩,.bool false,.string ⟨#[]⟩,.bool false,.string ⟨#[]⟩,.bool false,.string ⟨#[]⟩,.bool false,.string ⟨#[]⟩,.bool false,.string ⟨#[]⟩,.bool false,.string ⟨#[]⟩,.bool false,.string ⟨#[]⟩,.bool false,.string ⟨#[]⟩,.bool false,.string ⟨#[]⟩]:List ai)=qC q0:=by unfold qC q0;simp only[List.flatMap_cons,List.flatMap_nil,←zw0];rfl
theorem zqV:(Value.agg #[.bool false,.string ⟨#[]⟩,.bool false,.string ⟨#[]⟩,.bool false,.string ⟨#[]⟩,.bool false,.string ⟨#[]⟩,.bool false,.string ⟨#[]⟩,.bool false,.string ⟨#[]⟩,.bool false,.string ⟨#[]⟩,.bool false,.string ⟨#[]⟩,.bool false,.string ⟨#[]⟩,.bool false,.string ⟨#[]⟩])=qV q0:=by unfold qV;rw[←zq0]
theorem aeQ{n:Int}(h1:fY n=false)(h2:kK n=⟨#[]⟩):n=0:=aqc (by rw[Xn];unfold W;rw[h1,h2])
theorem arU(t:T3):0-t.normal.x*t.a.x-t.normal.y*t.a.y-t.normal.z*t.a.z = -((dR t.a t.b t.c).dot t.a):=by
 show 0-(dR t.a t.b t.c).x*t.a.x-(dR t.a t.b t.c).y*t.a.y-(dR t.a t.b t.c).z*t.a.z=_
 generalize dR t.a t.b t.c=n;unfold P3.dot
 grind
theorem adv(t:T3):qPr t.normal.x t.normal.y t.normal.z (0-t.normal.x*t.a.x-t.normal.y*t.a.y-t.normal.z*t.a.z)=qOf t:=by rw[arU];rfl
theorem anz[IT t]:Gf 300 [t.normal.x,t.normal.y,t.normal.z,0-t.normal.x*t.a.x-t.normal.y*t.a.y-t.normal.z*t.a.z]:=fun x hx=>by
 simp only[an,cg,or_false] at hx;rcases hx with rfl | rfl | rfl | rfl
 · exact (Bw.up:Bd 300 t.normal.x)
 · exact (Bw.up:Bd 300 t.normal.y)
 · exact (Bw.up:Bd 300 t.normal.z)
 · exact (Bw.up:Bd 300 (0-t.normal.x*t.a.x-t.normal.y*t.a.y-t.normal.z*t.a.z))
theorem aj9[IT t]:Gf 602 (qOf t):=by rw[←adv];exact aqz anz
theorem vW(t:T3):(qOf t).length=10:=rfl
theorem aq8:Gf 1 q0:=fun x hx=>by
 simp only[q0,an,cg,or_false] at hx;rcases hx with rfl | rfl | rfl | rfl | rfl | rfl | rfl | rfl | rfl | rfl <;> (unfold Bd;decide)
theorem Jn{p:P3}(h:ts[k]? = some t):wH (ts.take (k+1)) p=if t.has p then Ei (wH (ts.take k) p) (qOf t) else wH (ts.take k) p:=by
 unfold wH;rw[cH h,List.filter_append,List.foldl_append];cases hh:t.has p <;> simp[hh]
theorem Aa{ts:List T3}{p:P3}:∀k,k≤ts.length→(wH (ts.take k) p).length=10
 | 0,_=>rfl
 | k+1,hk=>by
  rw[Jn (am (by omega))];split
  · exact lL (Aa k (by omega)) (vW _)
  · exact Aa k (by omega)
theorem Zw{ts:List T3}{p:P3}(hI:∀t∈ts,IT t):∀k,k≤ts.length→Gf (602+k) (wH (ts.take k) p)
 | 0,_=>aq8.mono (by omega)
 | k+1,hk=>by
  rw[Jn (am (by omega))];split
  · haveI:=hI _ (List.getElem_mem (by omega:k<ts.length))
    exact Nw (Zw hI k (by omega)) (aj9.mono (by show 602≤602+k;omega))
  · exact (Zw hI k (by omega)).mono (by omega)
theorem aq9[IT t]:dS prog 117 [tr t] (qV (qOf t)):=by
 intro w;refine⟨bJ func117 (by kernel_rfl),?_⟩;have m:=Mem.refl w
 go_enter func117,ntmps117
 apply iY 12 [2,0] m;simp only[↓aD,aiw,eA];intro g1 g2 g3 u m;refine nF m O O (arT (t:=t)) 1 [0] ?_;simp only[↓aD,ac2];intro g4 u m;refine Du (n:=8) m 0 O O O O O Ki ?_;intro u m;simp only[zF,zG] at m;apply aL 4 [0] m;simp only[↓aD];refine aS O (wI (m.b 0 O) ad7 Ki O) ?_;simp only[zz];apply aL 1 [0] m;simp only[↓aD,aiB,aa];refine aC (acp O O) ?_;apply aL 1 [0] m;simp only[↓aD];refine bD O ?_ ?_<;>intro hc1
 ·
  apply aK 1 [] m;simp only[↓aD];rw[zq0] at m;apply aU 1 [0] m;simp only[↓aD];refine aS O (wI (m.b 1 O) yG kZ (by first | rw[vW] | rfl)) ?_;simp only[zz];refine Du (n:=20) m 2 O O O O O kZ ?_;intro u m;simp only[zF,zG] at m;apply aL 2 [] m;simp only[↓aD];refine aT O ⟨_,O,(wI (m.b 2 O) yG kZ (by first | rw[vW] | rfl))⟩ ?_;try simp only[zD,zE]
  exact⟨_,O,m.ext,by rw[←adv,aeQ hc1.2.2.2.2.2.2.1 hc1.2.2.2.2.2.2.2,aeQ hc1.1 hc1.2.1,aeQ hc1.2.2.1 hc1.2.2.2.1,aeQ hc1.2.2.2.2.1 hc1.2.2.2.2.2.1];rfl⟩
 ·
  apply aK 3 [0] m;simp only[↓aD];refine nF m O O (qD (n:=2) (by constructor <;> decide)) 4 [0] ?_;simp only[↓aD,nA,fL,aa];intro g5 u m;rw[zq0] at m;apply aU 1 [0] m;simp only[↓aD];refine aC fX ?_;simp only[zz,f_,bh,cq];replace m:=m.pull 1 O;simp only[dW,dX,zF,zG] at m;replace m:=m.pull 1 O;simp only[dW,dX,zF,zG] at m;replace m:=m.pull 2 O;simp only[dW,dX,zF,zG] at m;replace m:=m.pack3;refine mL m 0 ahl O O (fun m=>aj8 (J:=fun n=>bI g3 (qC (qF t.normal.x t.normal.y t.normal.z (0-t.normal.x*t.a.x-t.normal.y*t.a.y-t.normal.z*t.a.z) n)) 97) m 0 O (fun n u hn mu=>aq7 (k:=300) mu hn anz (by decide))) ?_;rintro v i u m ⟨rfl,rfl⟩;simp only[zF,zG] at m;simp only[zz];replace m:=m.unpack3;rw[aqy,adv] at m;apply aL 3 [0] m;simp only[↓aD];refine aS O (wI (m.b 0 O) yG kZ (by first | rw[vW] | rfl)) ?_;simp only[zz];refine Du (n:=20) m 3 O O O (by rw[vW]) O kZ ?_;intro u m;simp only[zF,zG] at m;apply aL 2 [] m;simp only[↓aD];exact aT O ⟨_,O,(wI (m.b 3 O) yG kZ (by first | rw[vW] | rfl))⟩ ⟨_,O,m.ext,O⟩
theorem ara{g1 n:Nat}{q x:List Int}(m:Mem w0 w [bI g5 (wC (atS q x n)) 95,bI g4 (qC x) 168,bI g1 (qC q) 97,K])(hn:n<10)(hq:Gf k q)(hl:q.length=10)(hx:Gf 64 x)(hxl:x.length=4)(hk:k≤900000):vU prog 120 [.int .i64 (n:Int),.int .i64 (eI n:Int),.int .i64 (eJ n:Int),.pointer (some ⟨g5,0,none⟩),.pointer (some ⟨g1,0,none⟩),.pointer (some ⟨g4,0,none⟩)] w fun _ w'=>Mem w0 w' [bI g5 (wC (atS q x (n+1))) 95,bI g4 (qC x) 168,bI g1 (qC q) 97,K]:=by
 refine⟨bJ func120 (by kernel_rfl),?_⟩;have hi:=air hn;have hj:=ais hn;have hx1:x[eI n]? = some (x.getD (eI n) 0):=by rw[gz,am (by omega:eI n<x.length)];rfl
 have hx2:x[eJ n]? = some (x.getD (eJ n) 0):=by rw[gz,am (by omega:eJ n<x.length)];rfl
 have hq1:=Yp hl hn;have hp1:Bd 128 (x.getD (eI n) 0*x.getD (eJ n) 0):=acU hx hxl hn;have hs1:=acV hq hl hx hxl n (by omega);have hm1:=(hq.at hq1).mul hp1
 go_enter func120,ntmps120
 refine g0 ?_;refine cU m 13 aB (by kernel_rfl) ?_;simp only[zy];refine ql O (fun u m=>(show eR _ _ _ _ (W (atS q x n)) from (m.b 0 O).lies cM aR O O)) ?_;simp only[zz];refine aI aH ?_;simp only[zz];refine aI (aJ Mi aR O O (by omega) (by omega) (mW (ah _))) ?_;simp only[zz];refine ql O (fun u m=>(show eR _ _ _ _ (W (q.getD n 0)) from (Ch (m.b 2 O) hq1).lies cM aR)) ?_;simp only[zz];refine aI aH ?_;simp only[zz];refine aI (aJ underlying168 aR O O (by omega) (by omega) (mW (ah _))) ?_;simp only[zz];refine ql O (fun u m=>(show eR _ _ _ _ (W (x.getD (eI n) 0)) from (Ch (m.b 1 O) hx1).lies cM aR)) ?_;simp only[zz];refine aI aH ?_;simp only[zz];refine aI (aJ underlying168 aR O O (by omega) (by omega) (mW (ah _))) ?_;simp only[zz];refine ql O (fun u m=>(show eR _ _ _ _ (W (x.getD (eJ n) 0)) from (Ch (m.b 1 O) hx2).lies cM aR)) ?_;simp only[zz];refine fD O O (sZ ((hx.at hx1).mono (by omega)) ((hx.at hx2).mono (by omega))) ?_;simp only[zz];refine fD O O (sZ ((hq.at hq1).mono (by omega)) (hp1.mono (by omega))) ?_;simp only[zz];refine fD O O (Wk (hs1.mono (by omega)) (hm1.mono (by omega))) (bC ?_);intro u m;simp only[zz];refine bN m 0 O O O aR (by simp[wC]) O ?_;intro u m;simp only[zF,zG] at m;rw[aa7 (by rfl)] at m;exact aM (Ep O ⟨_,O,m⟩)
theorem arb{q:List Int}{p:P3}[I3 p](hq:Gf k q)(hl:q.length=10)(hk:k≤900000):dS prog 60 [qV q,pt p] (W (qAt q p)):=by
 intro w;refine⟨bJ func60 (by kernel_rfl),?_⟩;have m:=Mem.refl w
 go_enter func60,ntmps60
 apply iY 7 [0] m;simp only[↓aD,nA];intro g1 g2 g3 u m;refine eN 12 [0,1,2,3,4,5,6,7,8,9,10] [⟨11,5,168,[.bool false,.string ⟨#[]⟩,.bool false,.string ⟨#[]⟩,.bool false,.string ⟨#[]⟩,.bool false,.string ⟨#[]⟩]⟩] aB (by kernel_rfl) (al1 ⟨_,_,_,O,by kernel_rfl,_,aaA,O⟩) (ol:=?_) ?hol ?_
 case hol=>simp only[zw,zQ,zR];try rfl
 intro u e_;replace m:=m.ext' e_;refine jH (aW (c:=0) fT O aV O O) ?_;simp only[zz];refine eK O (fun u e=>(((m.ext' e).b 1 O).lies1 bF O)) ?_;simp only[zz];refine eT O O (qD Iw.h) (jH (aW (c:=0) fT O aV O O) ?_);simp only[zz];refine eK O (fun u e=>(((m.ext' e).b 1 O).lies1 bF O)) ?_;simp only[zz];refine eT O O (qD Iw.h) (jH (aW (c:=0) fT O aV O O) ?_);simp only[zz];refine eK O (fun u e=>(((m.ext' e).b 1 O).lies1 bF O)) ?_;simp only[zz];refine eT O O (qD Iw.h) ?_;simp only[zz];refine eT O O (qD (n:=1) (by constructor <;> decide)) (jH (Eg rfl rfl rfl rfl) (Ae ?_));simp only[zz];refine mf1 m ?_;intro g4 u m;simp only[zJ,zK,zF,zG];refine bN m 0 O O O afg (iK O) O ?_;intro u m;simp only[zy,zx,over,zF,zG,aa] at m;refine aM ?_;apply Nu 5 [] m;simp only[↓aD,nA];intro g5 u m;rw[zw0] at m;apply aU 1 [0] m;simp only[↓aD];refine aC fX ?_;simp only[zz,f_,bh,cq];replace m:=m.pull 4 O;simp only[dW,dX,zF,zG] at m;replace m:=m.pull 2 O;simp only[dW,dX,zF,zG] at m;replace m:=m.pull 2 O;simp only[dW,dX,zF,zG] at m;replace m:=m.pack3;refine mL m 0 ahl O O (fun m=>aj8 (J:=fun n=>bI g5 (wC (atS q [p.x,p.y,p.z,1] n)) 95) m 0 O (fun n u hn mu=>ara mu hn hq hl (bd4 inferInstance) O hk)) ?_;rintro v i u m ⟨rfl,rfl⟩;simp only[zF,zG] at m;simp only[zz];replace m:=m.unpack3;rw[aiu hl] at m;apply jS 7 [0,3] m;simp only[↓aD,fL,aa];intro u m;exact aT O ⟨_,O,((m.b 3 O).full cM aR)⟩ ⟨_,O,m.ext,O⟩
theorem anA{x:P3}:(decide (t.a.x=x.x∧t.a.y=x.y∧t.a.z=x.z)||decide (t.b.x=x.x∧t.b.y=x.y∧t.b.z=x.z)||decide (t.c.x=x.x∧t.c.y=x.y∧t.c.z=x.z))=t.has x:=by
 have e:∀p q:P3,(p.x=q.x∧p.y=q.y∧p.z=q.z)↔q=p:=fun p q=>⟨fun h=>(P3.eq h.1 h.2.1 h.2.2).symm,fun h=>by rw[h];exact⟨O,O,O⟩⟩
 rw[Bool.eq_iff_iff,fE];simp only[Bool.or_eq_true,decide_eq_true_eq,e,or_assoc]
theorem apG{N:Nat}{A:Option Addr}{p:P3}(w:aj)(hT:bU w A N ts)(hN:N≤800000):dA prog 58 [.slice A N cap,pt p] w (fun v _=>v=qV (wH ts p)):=by
 refine⟨bJ func58 (by kernel_rfl),?_⟩;have m:=Mem.refl w;have htl:=hT.len
 go_enter func58,ntmps58
 apply iY 17 [0] m;simp only[↓aD,aiw,iM];intro g1 g2 g3 u m;refine bX [10] [7,11,12,13,14,15,16,17,18,19,20,21,22,23,24,25,26,27,28,29,30,31,32,33,34] (fun n vs wl=>∃(k:Nat),vs=[.int .i64 (k:Int)]∧Mem w wl [bI g3 (qC (wH (ts.take k) p)) 97,bI g2 [.bool false,.string ⟨#[]⟩,.bool false,.string ⟨#[]⟩,.bool false,.string ⟨#[]⟩,.bool false,.string ⟨#[]⟩,.bool false,.string ⟨#[]⟩,.bool false,.string ⟨#[]⟩,.bool false,.string ⟨#[]⟩,.bool false,.string ⟨#[]⟩,.bool false,.string ⟨#[]⟩,.bool false,.string ⟨#[]⟩] 97,bI g1 [.int .i64 p.x,.int .i64 p.y,.int .i64 p.z] 30]∧(k≤N)∧(n=N-k)) ?_ ?_
 · rw[show ([.bool false,.string ⟨#[]⟩,.bool false,.string ⟨#[]⟩,.bool false,.string ⟨#[]⟩,.bool false,.string ⟨#[]⟩,.bool false,.string ⟨#[]⟩,.bool false,.string ⟨#[]⟩,.bool false,.string ⟨#[]⟩,.bool false,.string ⟨#[]⟩,.bool false,.string ⟨#[]⟩,.bool false,.string ⟨#[]⟩]:List ai)=qC (wH (ts.take 0) p) from zq0] at m
   exact⟨_,0,O,m,bw _,O⟩
 · intro n vs wr hI u K1 hK1
   obtain⟨k,rfl,m,hk,hn⟩:=hI;simp only[zu,zF,zG];apply aK 5 [0,0] m;simp only[↓aD];refine bD O ?_ ?_<;>intro hc1
   ·
    obtain⟨t,ht,hti,a,rfl,hrow⟩:=hT.get (i:=k) (by omega);have hql:=Aa (ts:=ts) (p:=p) k (by omega);have hqb:=Zw (p:=p) hT.it k (by omega);apply aK 5 [0] m;simp only[↓aD];refine aC (aF cD aP O O (by omega) (by omega) (bZ (ah _))) ?_;simp only[zz];refine aS O ((hrow.ext m.ext).lies cA aP) ?_;simp only[zz];apply jS 8 [0,0,3,0] m;simp only[↓aD,lM,eA,bR,aQ,aa,ad,ag];intro g4;refine⟨by omega,?_⟩;intro u m;refine aC (cB O O) ?_;apply aL 1 [0] m;simp only[↓aD];refine bA O (fun hb=>aJ cF aA O O (by decide) (by decide) O) ?_;simp only[zz];refine bV O (fun hb=>aY (aX hb O) ((m.b 0 O).lies aG aA O O)) ?_;simp only[zz,zy,aq,aa,ag,ad];refine bV O (fun hb=>aY O ((m.b 3 O).full aG aA)) (bA O (fun hb=>cB (aX hb O) (aX hb O)) (aC (cC O O O) ?_));apply aL 1 [0] m;simp only[↓aD];refine bA O (fun hb=>aJ cF aA O O (by decide) (by decide) O) ?_;simp only[zz];refine bV O (fun hb=>aY (aX hb O) ((m.b 0 O).lies aG aA O O)) ?_;simp only[zz,zy,aq,aa,ag,ad];refine bV O (fun hb=>aY O ((m.b 3 O).full aG aA)) (bA O (fun hb=>cB (aX hb O) (aX hb O)) (aC (cC O O O) ?_));apply aL 1 [0] m;simp only[↓aD];refine cR O ?_ ?_<;>intro hc2
    ·
     rw[anA] at hc2;have hst:=Jn (p:=p) ht;rw[if_pos hc2] at hst;refine cU m 4 aB (by kernel_rfl) ?_;simp only[zy];refine ql O (fun u m=>(wI (m.b 1 O) yG kZ (by first | rw[hqN] | rw[Aa _ (by omega)]))) ?_;simp only[zz];refine ql O (fun u m=>((m.b 0 O).full cA aP)) ?_;simp only[zz];refine fD O O (aq9 (t:=t)) ?_;simp only[zz];refine fD O O (adu hql (vW t) hqb (aj9.mono (by omega)) (by omega)) (bC ?_);intro u m;simp only[zz];refine Du (n:=20) m 1 O O O (by rw[lL hql (vW t)]) (by rw[Cg,hql]) kZ ?_;intro u m;simp only[zF,zG] at m;refine aM ?_;apply aU 5 [0] m;simp only[↓aD];refine⟨by omega,?_⟩;rw[←hst] at m;exact hK1 (N-(k+1)) _ _ (by omega) (by kernel_rfl) ⟨k+1,O,(m.sel [false,true,true,true]),by omega,O⟩
    ·
     rw[anA] at hc2;have hst:=Jn (p:=p) ht;rw[if_neg (by rw[hc2];exact Bool.false_ne_true)] at hst;apply aK 6 [0] m;simp only[↓aD];refine⟨by omega,?_⟩;rw[←hst] at m;exact hK1 (N-(k+1)) _ _ (by omega) (by kernel_rfl) ⟨k+1,O,(m.sel [false,true,true,true]),by omega,O⟩
   ·
    obtain rfl:N=k:=by omega
    rw[show ts.take N=ts from ay (by omega)] at m;have hqN:(wH ts p).length=10:=by have:=Aa (ts:=ts) (p:=p) N (by omega);rwa [ay (by omega)] at this
    apply aK 3 [0] m;simp only[↓aD];refine aS O (wI (m.b 0 O) yG kZ (by first | rw[hqN] | rw[Aa _ (by omega)])) ?_;simp only[zz];refine Du (n:=20) m 1 O O O (by rw[hqN]) O kZ ?_;intro u m;simp only[zF,zG] at m;apply aL 2 [] m;simp only[↓aD];exact aT O ⟨_,O,(wI (m.b 1 O) yG kZ (by rw[hqN]))⟩ ⟨_,O,m.ext,O⟩
end Go.Proofs.YtfekpcimgncioaaGreatDoor
set_option linter.unusedSectionVars false
namespace Go.Lith
open Go
variable{P:bp}{w:aj}{α:Type}{d:Nat}{m m':Machine}
theorem adw{at_:Addr}{u:az}{k:Addr}{v:ai}{b:Bool}{r:aj × List Addr}(h:w.viewStore P at_ u k v b=.ok r):r.1.drawn=w.drawn:=by
 unfold World.viewStore at h;simp only[bind,Except.bind,pure,Except.pure,throw] at h
 repeat' split at h
 all_goals first | (cases h;done) | (cases h;rfl) | skip
theorem ago{x:Addr}{v:ai}{b:Bool}{r:aj × List Addr}(h:w.farStore P x v b=.ok r):r.1.drawn=w.drawn:=by
 unfold World.farStore at h;split at h
 · split at h
   · rename_i hv
     cases h;exact adw hv
   · cases h
 · cases h
theorem Zx(w:aj)(x:Addr)(n:Nat):(w.freeze x n).drawn=w.drawn:=by
 unfold World.freeze;split <;> rfl
theorem agp(s:Ask α):∀w:aj,w.drawn≤(w.ask s).2.drawn:=by
 induction s with
 | done a=>intro w;exact av _
 | ask what range k ih =>
  intro w;simp only[World.ask];split
  · exact ih _ w
  · exact ba (pv _) (ih _ { w with drawn:=w.drawn+1 })
theorem agq(w:aj)(c:Sys):w.drawn≤(w.sys c).2.drawn:=by
 have h:=agp (Kernel.perform c w.os) w;unfold World.sys;split
 · exact av _
 · rename_i e
   rw[e] at h;exact h
def okR{α:Type}(d:Nat):Result α→Prop
 | .ok _ w=>d≤w.drawn
 | .halt _ w=>d≤w.drawn
theorem okR.mono{α:Type}{d e:Nat}(h:e≤d):∀{r:Result α},okR d r→okR e r
 | .ok _ _,k=>ba h k
 | .halt _ _,k=>ba h k
theorem Om(s:Sem α):∀w:aj,okR w.drawn (s.run P w):=by
 induction s with
 | pure _=>intro w;exact av _
 | load m x k ih =>
  intro w;simp only[Sem.run];split
  · exact ih _ _
  · split
    · exact ih _ _
    · exact av _
 | store m x v k ih =>
  intro w;have key:okR w.drawn (match w.cell? x with
   | some _=>if w.frozen? x then Result.halt (.unsupported (.unsafePointer "a write to bytes that a string shares")) w else k.run P (w.setCell x v)
   | none=>match w.farStore P x v (m == Mode.atomic) with
    | .ok (w,_)=>k.run P w
    | .error h=>.halt h w):=by
   split
   · split
     · exact av _
     · exact ih (w.setCell x v)
   · split
     · rename_i hf
       exact okR.mono (Nat.le_of_eq (ago hf).symm) (ih _)
     · exact av _
  cases v <;> simp only[Sem.run] <;> first | exact av _ | exact key
 | new o k ih=>intro w;exact ih _ { w with heap:=w.heap.push o }
 | shape r k ih=>intro w;exact ih _ _
 | freeze x n k ih=>intro w;exact okR.mono (Nat.le_of_eq (Zx w x n).symm) (ih _)
 | frozen x k ih=>intro w;exact ih _ _
 | getObj r k ih =>
  intro w;simp only[Sem.run];split
  · exact av _
  · exact ih _ _
  · exact av _
 | setObj r o k ih =>
  intro w;simp only[Sem.run];split
  · exact av _
  · exact ih { w with heap:=w.heap.setIfInBounds r o }
  · exact av _
 | choose q k ih =>
  intro w;simp only[Sem.run];split
  · exact ih _ _
  · exact okR.mono (pv _) (ih _ { w with drawn:=w.drawn+1 })
 | sys c k ih=>intro w;exact okR.mono (agq w c) (ih _ _)
 | program k ih=>intro w;exact ih _ _
 | mark m k ih=>intro w;exact ih _
 | halt x=>intro w;exact av _
theorem abG{s:Sem α}{es:Array Event}{r:Result α}{es':Array Event}(h:s.runT P w es=(r,es')):okR w.drawn r:=by
 have:=Sem.runT_fst P s w es;rw[h] at this;rw[show r=s.run P w from this];exact Om s w
theorem iT{s:Sem α}{r:Result α}(h:s.run P w=r):okR w.drawn r:=h▸Om s w
theorem oH{s:Sem α}{es:Array Event}{r:Result α}(h:(s.runT P w es).1=r):okR w.drawn r:=by
 rw[Sem.runT_fst] at h;exact iT h
def Zy(d:Nat):GStep→Prop
 | .go _ w _ | .comm _ _ _ _ w _ | .spawn _ _ w _ | .count _ w _ | .timer _ _ w _ | .alone _ _ w _ | .newcoro _ _ _ w _ | .coroswitch _ _ _ w _ | .collect _ w _ | .watch _ w _=>d≤w.drawn
 | .ended _ _ _=>True
theorem xN{es:Array Event}{g:GStep}(h:Zy d g):Zy d (g.after es):=by cases g <;> exact h
theorem amB{α:Type}{d:Nat}{x:GStep}{f:α→GStep}(h1:Zy d x)(h2:∀a,Zy d (f a)):∀o:Option α,Zy d (o.elim x f)
 | none=>h1
 | some a=>h2 a
section
variable {P:bp} {d:Nat} {w:aj} (hw:d≤w.drawn)
include hw
theorem adx(fd:Nat)(t:ByteArray)(o:Outcome):Zy d (endWith w fd t o):=by
 unfold endWith;dsimp only
 repeat' split
 all_goals trivial
theorem Sr(fr:Frame)(cs:List Frame)(dy:Option Dying)(m:String):Zy d (endFatal P fr cs dy m w):=by
 unfold endFatal;dsimp only;split
 · rename_i h
   exact ba hw (iT h)
 · trivial
 · trivial
theorem Nb(fr:Frame)(v:ai):Zy d (endPrinting P fr v w):=by
 unfold endPrinting;dsimp only;split
 · exact hw
 · trivial
theorem Lw(main:Bool)(fr:Frame)(cs:List Frame)(dy:Option Dying)(v:ai):Zy d (doReturn P main fr cs dy v w):=by
 unfold doReturn
 repeat' (first | exact hw | trivial | split)
theorem abH(fr:Frame)(cs:List Frame)(dy:Option Dying)(g:Nat):Zy d (early P fr cs dy g w):=by
 have n:∀w:aj,d≤w.drawn→Zy d (match w.heap[g]? with
  | some (.pending c elem)=>GStep.go { frame:=fr,callers:=cs,status:=.running,dying:=dy } { w with heap:=w.heap.setIfInBounds g (.cells c elem) }
  | _=>.ended (.stuck "early: the variable does not wait" (fr.pos P)) w):=fun w hw=>by
  split
  · exact hw
  · trivial
 unfold early;dsimp only
 repeat' (first | exact n _ hw | exact hw | trivial | exact ba hw (iT (r:=.ok _ _) (by assumption)) | (rename_i w1 h1 x1 c1 e1 h2;exact ba hw (iT h1)) | split)
theorem Ss(b:Bool)(fr:Frame)(cs:List Frame)(dy:Option Dying)(s:Sem Next):Zy d (stepG.apply P b fr cs dy s w):=by
 unfold stepG.apply;dsimp only;have hr:okR w.drawn (if b=true then s.runT P w #[] else (s.run P w,#[])).1:=by
  split
  · rw[Sem.runT_fst];exact Om s w
  · exact Om s w
 generalize (if b=true then s.runT P w #[] else (s.run P w,#[]))=r at hr;obtain⟨r,es⟩:=r;refine xN ?_;cases r with
 | ok n u =>
  have hu:d≤u.drawn:=ba hw hr;cases n
  all_goals dsimp only
  all_goals repeat' (first | exact hu | trivial | exact throw_ok hu _ _ | split)
 | halt x u =>
  have hu:d≤u.drawn:=ba hw hr;cases x
  all_goals dsimp only
  all_goals repeat' (first | exact hu | trivial | exact throw_ok hu _ _ | exact Sr hu _ _ _ _ | exact abH hu _ _ _ _ | (rename_i e;cases e;done) | (rename_i e;cases e;exact hu) | (rename_i e;cases e;exact Sr hu _ _ _ _) | (rename_i e;cases e;exact abH hu _ _ _ _) | split)
theorem amC(b:Bool)(fr:Frame)(cs:List Frame)(dy:Option Dying):Zy d (stepG.oper P b fr cs dy w):=by
 unfold stepG.oper
 repeat' (first | trivial | exact Ss hw _ _ _ _ _ | split)
theorem amD(main b:Bool)(fr:Frame)(cs:List Frame)(dy:Option Dying):Zy d (stepG.exec P main b fr cs dy w):=by
 unfold stepG.exec;dsimp only
 repeat' (first | exact hw | trivial | exact Ss hw _ _ _ _ _ | exact amC hw _ _ _ _ | (with_reducible refine xN ?_) | exact ba hw (oH (r:=.ok _ _) (by assumption)) | exact ba hw (oH (r:=.halt _ _) (by assumption)) | exact ba hw (iT (r:=.ok _ _) (by assumption)) | exact Lw (ba hw (oH (r:=.ok _ _) (by assumption))) _ _ _ _ _ | exact Ss (ba hw (oH (r:=.ok _ _) (by assumption))) _ _ _ _ _ | refine amB ?_ (fun _=>?_) _ | split)
theorem abI(fr:Frame)(cs:List Frame)(dy:Option Dying)(x:Deferred):Zy d (callDeferred P fr cs dy x w):=by
 unfold callDeferred;dsimp only
 repeat' (first | exact hw | trivial | (with_reducible refine xN ?_) | exact ba hw (oH (r:=.ok _ _) (by assumption)) | exact ba hw (oH (r:=.halt _ _) (by assumption)) | exact throw_ok (ba hw (oH (r:=.halt _ _) (by assumption))) _ _ | exact Sr (ba hw (oH (r:=.halt _ _) (by assumption))) _ _ _ _ | split)
theorem ags(main:Bool)(fr:Frame)(cs:List Frame)(dy:Option Dying):Zy d (unwind P main fr cs dy w):=by
 unfold unwind;dsimp only
 repeat' (first | exact hw | trivial | (with_reducible refine xN ?_) | exact abI hw _ _ _ _ | exact Lw hw _ _ _ _ _ | exact Nb hw _ _ | exact ba hw (oH (r:=.ok _ _) (by assumption)) | exact ba hw (iT (r:=.ok _ _) (by assumption)) | exact Lw (ba hw (oH (r:=.ok _ _) (by assumption))) _ _ _ _ _ | split)
theorem ady(fr:Frame)(x:Dying)(f:Fatal):Zy d (writeOn P fr x f w):=by
 unfold writeOn;dsimp only
 repeat' (first | exact hw | trivial | exact ba hw (abG (r:=.ok _ _) (by assumption)) | exact ba hw (abG (r:=.halt _ _) (by assumption)) | split)
theorem apH(fr:Frame)(x:Dying):Zy d (die P fr x w):=by
 unfold die;dsimp only
 repeat' (first | exact hw | trivial | (with_reducible refine xN ?_) | exact ady hw _ _ _ | exact adx hw _ _ _ | exact ba hw (oH (r:=.ok _ _) (by assumption)) | exact ba hw (iT (r:=.ok _ _) (by assumption)) | exact Nb (ba hw (oH (r:=.halt _ _) (by assumption))) _ _ | split)
theorem aka(main:Bool)(g:Goroutine)(b:Bool):Zy d (stepG P main g w b):=by
 unfold stepG;dsimp only
 repeat' (first | exact apH hw _ _ | exact amD hw _ _ _ _ _ | exact ags hw _ _ _ _ | split)
end
def okS(d:Nat):Stepped→Prop
 | .next m=>d≤m.world.drawn
 | _=>True
section
variable {P:bp} {d:Nat} {w:aj} (hw:d≤w.drawn)
include hw
theorem adz{rest:Rest}{cases:Array CommCase}{u:aj}(h:waitingAt rest cases w=some u):d≤u.drawn:=by
 unfold waitingAt at h;split at h
 · split at h
   · cases h;exact hw
   · cases h
 · cases h;exact hw
theorem amE(rest:Rest)(gs:Array Goroutine)(i:Nat)(g:Goroutine)(cases:Array CommCase)(bl:Bool)(sh:CommShape):okS d (communicate P rest gs i g cases bl sh w).1:=by
 unfold communicate;dsimp only
 repeat' (first | exact hw | trivial | exact adz hw (by assumption) | split)
 all_goals dsimp only[okS]
 all_goals first | exact ba hw (iT (r:=.ok _ _) (by assumption)) | exact ba (ba hw (iT (r:=.ok _ _) (by assumption))) (iT (r:=.ok _ _) (by assumption)) | exact ba (ba hw (iT (r:=.ok _ _) (by assumption))) (iT (r:=.halt _ _) (by assumption))
theorem aeR(gs:Array Goroutine)(rest:Rest):okS d (look P gs rest w):=by
 unfold look;dsimp only
 repeat' (first | exact hw | trivial | split)
 all_goals dsimp only[okS]
 all_goals exact ba hw (iT (r:=.ok _ _) (by assumption))
end
theorem akb(m:Machine)(k:Nat):okS m.world.drawn (serve P m k):=by
 unfold serve;dsimp only
 repeat' (first | exact av _ | trivial | split)
theorem Wq(m:Machine)(k:Nat)(t:Timer)(a b:Nat):m.world.drawn≤(retime m k t a b).2.world.drawn:=by
 unfold retime;dsimp only;split
 · unfold drain
   split <;> exact av _
 · exact av _
theorem abJ{v:ai}{var:Addr}{f:Nat→Timer→ai × Machine}(hf:∀k t,m.world.drawn≤(f k t).2.world.drawn){m0:Machine}(h:timerOp.named m0 var f=.ok (v,m')):m.world.drawn≤m'.world.drawn:=by
 unfold timerOp.named at h;split at h
 · rename_i k _
   have:=hf k (m0.rest.timers.getD k default);cases hh:f k (m0.rest.timers.getD k default) with
   | mk a b =>
    rw[hh] at h this;cases h;exact this
 · cases h
theorem adA{op:TimerOp}{v:ai}(h:timerOp m op=.ok (v,m')):m.world.drawn≤m'.world.drawn:=by
 unfold timerOp at h;cases op with
 | new t =>
  dsimp only at h
  repeat' (first | (cases h;done) | (cases h;exact av _) | split at h)
 | stop var=>exact abJ (fun k t=>Wq m k t _ _) h
 | reset var when period =>
  dsimp only at h;split at h
  · rename_i m1 hm
    have h1:m.world.drawn≤m1.world.drawn:=by
     unfold timerOp.opened at hm
     repeat' (first | (cases hm;done) | (cases hm;exact av _) | split at hm)
    exact abJ (fun k t=>ba h1 (Wq m1 k t _ _)) h
  · cases h
 | deadline ctx read write when=>cases h;exact av _
theorem apI(P:bp)(m:Machine)(i:Nat)(b:Bool):okS m.world.drawn (runT P m i b).1:=by
 unfold runT;dsimp only;have h:=aka (P:=P) (av m.world.drawn) (i == 0) (m.gs.swapAt! i { (default:Goroutine) with status:=.finished }).1 b;generalize stepG P (i == 0) (m.gs.swapAt! i { (default:Goroutine) with status:=.finished }).1 m.world b=s at h;cases s
 all_goals dsimp only
 all_goals repeat' (first | exact h | trivial | exact amE h _ _ _ _ _ _ _ | exact aeR h _ _ | split)
 all_goals exact ba h (adA (by assumption))
def okM(d:Nat):Move→Prop
 | .goroutine m _=>d≤m.world.drawn
 | .machine s _=>okS d s
theorem okS.mono{d e:Nat}(h:e≤d):∀{s:Stepped},okS d s→okS e s
 | .next _,k=>ba h k
 | .ended _ _,_=>trivial
theorem Zz{P:bp}{d:Nat}(rs:List Nat)(m:Machine)(hw:d≤m.world.drawn):okM d (match (choose (.sched rs.length)).run P m.world with
 | .halt _ w=>.machine (.ended (.stuck "sched" "") w)
 | .ok k world =>
  if rs.length≤1 then .goroutine { m with world } (rs.getD k 0) else
  match (choose (.extern "sched.slice" 65536)).run P world with
  | .halt _ w=>.machine (.ended (.stuck "sched.slice" "") w)
  | .ok n world=>.goroutine { m with world,rest:={ m.rest with slice:=if n=0 then none else some (rs.getD k 0,n) } } (rs.getD k 0)):=by
 repeat' (first | trivial | split)
 all_goals dsimp only[okM]
 all_goals first | exact ba hw (iT (r:=.ok _ _) (by assumption)) | exact ba (ba hw (iT (r:=.ok _ _) (by assumption))) (iT (r:=.ok _ _) (by assumption))
theorem St(hw:d≤m.world.drawn):okM d (askOn P m):=by
 unfold askOn;dsimp only;split
 · trivial
 · rename_i k w1 h1
   have hw1:d≤w1.drawn:=ba hw (iT h1);split
   · exact okS.mono hw1 (akb { m with world:=w1 } _)
   · split
     · split
       · exact hw1
       · split
         · exact hw1
         · split <;> trivial
     · split
       · exact Zz _ { m with world:=w1 } hw1
       · split
         · trivial
         · rename_i w2 h2
           exact Zz _ { m with world:=w2 } (ba hw1 (iT h2))
         · rename_i w2 h2
           exact ba hw1 (iT h2)
         · rename_i w2 h2
           exact Zz _ (({ m with world:=w2 }:Machine).advanceTo _) (ba hw1 (iT h2))
theorem akc(hw:d≤m.world.drawn):okM d (ask P m):=by
 unfold ask;split
 · split
   · trivial
   · rename_i w1 h1
     have hw1:d≤w1.drawn:=ba hw (iT h1);have hl:=aeR (P:=P) hw1 m.gs m.rest;split
     · rename_i m2 h2
       rw[h2] at hl;exact St hl
     · rename_i e he
       cases hq:look P m.gs m.rest w1 with
       | next m2=>exact absurd hq (he m2)
       | ended o w2=>trivial
   · rename_i w1 h1 _
     exact St (m:={ m with world:=w1 }) (show d≤w1.drawn from ba hw (iT (r:=.ok _ _) (by assumption)))
 · exact St hw
theorem amF   : okM m.world.drawn (move P m):=by
 unfold move;split
 · split
   · exact av _
   · trivial
 · split
   · split
     · exact av _
     · exact akc (m:={ m with rest:={ m.rest with slice:=none } }) (av _)
   · exact akc (av _)
theorem amG(h:step P m=.next m'):m.world.drawn≤m'.world.drawn:=by
 have h1:=amF (P:=P) (m:=m);have h2:okS m.world.drawn (step P m):=by
  unfold step stepT;split
  · rename_i m1 i hm
    rw[hm] at h1;exact okS.mono h1 (apI P m1 i _)
  · rename_i s ops hm
    rw[hm] at h1;exact h1
 rw[h] at h2;exact h2
theorem abK(h:Steps P m m'):m.world.drawn≤m'.world.drawn:=by
 obtain⟨n,hn⟩:=h
 induction n generalizing m with
 | zero=>cases hn;exact av _
 | succ n ih =>
  simp only[runN] at hn;split at hn
  · rename_i m1 h1
    exact ba (amG h1) (ih hn)
  · rename_i e he
    cases hq:step P m with
    | next m2=>exact absurd hq (he m2)
    | ended o w2=>rw[hq] at hn;cases hn
theorem abL{f:FuncId}{args:Array ai}{R:Ending→aj→Prop}(hR:∀w',¬R .outgrown w')(h:Calls P f args w R):Calls P f args w fun e w'=>R e w'∧w.drawn≤w'.drawn:=fun cs=>by
 obtain⟨e,w',fr,hr,hc,hf,hl⟩:=h cs;refine⟨e,w',fr,⟨hr,?_⟩,hc,hf,hl⟩;cases e with
 | returned v=>exact abK hc
 | panicked c=>exact abK hc
 | outgrown=>exact absurd hr (hR w')
theorem dS.g{f:FuncId}{args:List ai}{v:ai}(h:dS P f args v):sT P f args v:=fun w =>
 ⟨(h w).1,(abL (fun _ ⟨_,e,_⟩=>(by cases e)) (h w).2).mono fun _ _ ⟨⟨u,he,hX,hv⟩,hd⟩=>⟨u,he,⟨hX,hd⟩,hv⟩⟩
end Go.Lith
namespace Go.Proofs.YtfekpcimgncioaaGreatDoor
open Go.Proofs.Tryz
open Go.RowKit Go.Lith
set_option maxRecDepth 100000
attribute [local irreducible] ar cl fU bS cO Code.wp
attribute [local congr] pD gF gG gH gI gJ kL gK gL gM gN gQ gR gS gT gU gV gW eU eV gX gY iA iB iC kN dF dG cW dD gZ kM eW eX eY iD iE kO
variable{g50 g90 ga gf N cap ca cf n1 c1:Nat}{ts:List T3}
def sS(c:lT):List ai:=[.int .i64 c.u.x,.int .i64 c.u.y,.int .i64 c.u.z,.int .i64 c.v.x,.int .i64 c.v.y,.int .i64 c.v.z,.bool (fY c.c),.string (kK c.c)]
def aaa(c:lT):ai:=.agg (sS c).toArray
theorem fB:(∀c,sS c=[.int .i64 c.u.x,.int .i64 c.u.y,.int .i64 c.u.z,.int .i64 c.v.x,.int .i64 c.v.y,.int .i64 c.v.z,.bool (fY c.c),.string (kK c.c)])∧(∀c,(aaa c).cells.toList=[.int .i64 c.u.x,.int .i64 c.u.y,.int .i64 c.u.z,.int .i64 c.v.x,.int .i64 c.v.y,.int .i64 c.v.z,.bool (fY c.c),.string (kK c.c)])∧(∀c f,vvA (aaa c) f=f [.int .i64 c.u.x,.int .i64 c.u.y,.int .i64 c.u.z,.int .i64 c.v.x,.int .i64 c.v.y,.int .i64 c.v.z,.bool (fY c.c),.string (kK c.c)]):=⟨fun _=>rfl,fun _=>rfl,fun _ _=>rfl⟩
theorem amH(c:lT):∀v∈sS c,v.oneCell'=true:=fun v h=>by
 simp only[sS,an,cg,or_false] at h;rcases h with rfl | rfl | rfl | rfl | rfl | rfl | rfl | rfl <;> rfl
def akd(a b:lT):Int:=if bB (a.c-b.c)=0 then if qK a.u b.u=0 then qK a.v b.v else qK a.u b.u else bB (a.c-b.c)
theorem Jo(a b:lT):(akd a b<0)↔a.Lt b:=by
 unfold akd lT.Lt;have h0:bB (a.c-b.c)=0↔a.c=b.c:=by rw[cI];omega
 have h1:bB (a.c-b.c)<0↔a.c<b.c:=by
  have:=Hi (n:=a.c-b.c);omega
 by_cases h:a.c=b.c
 · rw[if_pos (h0.2 h)]
   by_cases g:a.u=b.u
   · rw[if_pos (nK.2 g),mA]
     simp[h,g,P3.lt_irrefl]
   · rw[if_neg fun k=>g (nK.1 k),mA]
     simp[h,g]
 · rw[if_neg fun k=>h (h0.1 k),h1]
   simp[h]
abbrev ake:Type:={ c:lT // Bd 900000 c.c }
instance:Inhabited ake:=⟨⟨⟨⟨0,0,0⟩,⟨0,0,0⟩,0⟩,No _⟩⟩
theorem akf:Go.Sort.SWO (Go.Proofs.ltOf fun a b:ake=>akd a.1 b.1) where
 irrefl a:=by simp only[Go.Proofs.ltOf,decide_eq_false_iff_not,Jo];exact lT.lt_irrefl a.1
 trans x y z h1 h2:=by
  simp only[Go.Proofs.ltOf,decide_eq_true_eq,Jo] at *
  exact lT.lt_trans h1 h2
 ntrans x y z h1 h2:=by
  simp only[Go.Proofs.ltOf,decide_eq_false_iff_not,Jo] at *
  intro h;rcases lT.lt_tri y.1 x.1 with k | k | k
  · exact h2 (lT.lt_trans k h)
  · exact h2 (by rw[k];exact h)
  · exact h1 k
theorem amI{p q:lT}(hp:Bd 900000 p.c)(hq:Bd 900000 q.c):sT prog 64 [aaa p,aaa q] (.int .i64 (akd p q)):=by
 intro w;refine⟨bJ func64 (by kernel_rfl),?_⟩;have m:=iU.refl w
 go_enter func64,ntmps64
 refine bG fun K1 k1=>wp_region_lit (oL m O ?_);intro g1 u m;simp only[zz];refine oL m O ?_;intro g2 u m;refine aC aO (aM (k1 _ _ ?_));try clear k1 K1
 refine bG fun K2 k2=>?_;simp only[zz];refine Pk m 15 aB (by kernel_rfl) ?_;simp only[zy];refine aI (aW (c:=1) yE O aR O O) ?_;simp only[zz];refine Tc O (fun u m=>((m.b 1 O).lies cM aR O O)) ?_;simp only[zz,zy,aq,aa,ag,ad];refine aI (aW (c:=1) yE O aR O O) ?_;simp only[zz];refine Tc O (fun u m=>((m.b 0 O).lies cM aR O O)) ?_;simp only[zz,zy,aq,aa,ag,ad];refine Hj O O ((aqV (a:=p.c) (b:=q.c) hp hq).g) (aI (aW (c:=2) yE O aA O O) ?_);simp only[zz];refine Tc O (fun u m=>((m.b 1 O).lies aG aA O O)) ?_;simp only[zz,zy,aq,aa,ag,ad];refine aI (aW (c:=2) yE O aA O O) ?_;simp only[zz];refine Tc O (fun u m=>((m.b 0 O).lies aG aA O O)) ?_;simp only[zz,zy,aq,aa,ag,ad];refine Hj O O (Rx (p:=p.u) (q:=q.u)) (aI (aW (c:=2) yE O aA O O) ?_);simp only[zz];refine Tc O (fun u m=>((m.b 1 O).lies aG aA O O)) ?_;simp only[zz,zy,aq,aa,ag,ad];refine aI (aW (c:=2) yE O aA O O) ?_;simp only[zz];refine Tc O (fun u m=>((m.b 0 O).lies aG aA O O)) ?_;simp only[zz,zy,aq,aa,ag,ad];refine Hj O O (Rx (p:=p.v) (q:=q.v)) (bC ?_);intro u m;simp only[zz];refine abk m dN (z:=.int .i64 0) (by kernel_rfl) O O O O O O O ?_;intro g3 u m;simp only[zz];refine Za m O O (aje _ (m.b 0 O)) ?_;intro u m;refine aC aO (aM (k2 _ _ ?_));try clear k2 K2
 refine wp_ret ?_;simp only[zz];try simp only[Exit.inBlock,Exit.then,if_true]
 refine aT O O ?_;try simp only[zD,zE]
 exact⟨_,O,m.ext,O⟩
theorem amJ{w0 w:aj}{is:List It}{A:Option Addr}{n cap:Nat}{xs:List lT}(hb:∀c∈xs,Bd 900000 c.c)(m:Mem w0 w is)(k:Nat)(hi:is[k]? = some (oI 112 8 A n cap (xs.flatMap sS)))(hsz:n<4611686018427387904) :
 Calls prog 123 [.slice A n cap,.func (.func 64) #[] #[]].toArray w fun e w'=>∃v i,e=.returned v∧Mem w0 w' (is.set k i)∧(v=.tuple #[]∧∃ys:List lT,i=oI 112 8 A n cap (ys.flatMap sS)∧ys.Perm xs∧ys.Pairwise fun a b=>¬b.Lt a):=by
 have e0:(xs.attachWith (fun c=>Bd 900000 c.c) hb).map (·.1)=xs:=List.attachWith_map_subtype_val ..;have e1:∀L:List ake,L.flatMap (fun c=>sS c.1)=(L.map (·.1)).flatMap sS:=fun L=>by rw[List.flatMap_map]
 have hi':is[k]? = some (oI 112 8 A n cap ((xs.attachWith (fun c=>Bd 900000 c.c) hb).flatMap fun c=>sS c.1)):=by rw[e1,e0];exact hi
 refine (Bu (α:=ake) (enc:=fun c=>sS c.1) Tryz.sort123 (fun w=>pK Hq w) (fun w=>eG qX w) (fun _=>rfl) (by decide) (fun x=>amH x.1) (fun a b=>akd a.1 b.1) akf (fun x y=>amI x.2 y.2) m k hi' hsz).mono ?_;rintro e w' ⟨v,i,h1,h2,h3,ys,h4,h5,h6⟩;refine⟨v,i,h1,h2,h3,ys.map (·.1),by rw[h4,e1],?_,?_⟩
 · have:=h5.map (fun c:ake=>c.1)
   rwa [e0] at this
 · rw[List.pairwise_map]
   exact h6.imp fun h=>by simpa[Go.Proofs.ltOf,Jo] using h
theorem apJ{A:Option Addr}{ea ef:Array ck}{D:List (P3 × Hd)}{F:List (P3 × Bool)}{c:lT}[I3 c.u][I3 c.v](w:aj)(hB50:fR w g50 [.pointer (some ⟨g90,0,none⟩)] 88)(hS:Jk 109 w g90 ga gf A N cap ea ef ca cf D ts)(hT:bU w A N ts)(hD:Sn ea ef ca cf D F ts)(hnd:∀t∈ts,t.nd=true)(hN:ts.length≤1000000):dA prog 65 [aaa c,.pointer (some ⟨g50,0,none⟩)] w (fun v _=>v=.bool (dK ts c.u c.v)):=by
 refine⟨bJ func65 (by kernel_rfl),?_⟩;have m:=Mem.refl w
 go_enter func65,ntmps65
 apply iY 7 [0] m;simp only[↓aD,↓fB];intro g1 u m;refine aS O ((hB50.ext m.ext).lies1 Xu O) ?_;simp only[zz];apply aL 4 [0,0,0] m;simp only[↓aD,↓fB,Cj,aQ,uV,aa];refine cQ m O O (Wp (p:=c.u) (q:=c.v) _ (hS.ext m.ext) hD (hT.ext m.ext) hnd hN) ?_;rintro v u m rfl;apply aL 3 [] m;simp only[↓aD];exact aT O O ⟨_,O,m.ext,O⟩
theorem akg{A:Option Addr}{ea ef:Array ck}{D:List (P3 × Hd)}{F:List (P3 × Bool)}{cs:List lT}{A1:Option Addr}(w:aj)(hB50:fR w g50 [.pointer (some ⟨g90,0,none⟩)] 88)(hS:Jk 109 w g90 ga gf A N cap ea ef ca cf D ts)(hT:bU w A N ts)(hD:Sn ea ef ca cf D F ts)(hnd:∀t∈ts,t.nd=true)(hN:ts.length≤1000000)(hL:sU sS 8 w A1 n1 cs)(hI:∀c∈cs,I3 c.u∧I3 c.v)(hn1:n1≤100000000):dA prog 124 [.slice A1 n1 c1,.func (.func 65) #[] #[.pointer (some ⟨g50,0,none⟩)]] w (fun v _=>∃k:Int,v=.int .i64 k∧((k<0∧∀c∈cs,dK ts c.u c.v=false)∨∃(j:Nat) (c:lT),k=j∧j<n1∧cs[j]? = some c∧dK ts c.u c.v=true∧∀(i:Nat) (d:lT),i<j→cs[i]? = some d→dK ts d.u d.v=false)):=by
 refine⟨bJ func124 (by kernel_rfl),?_⟩;have m:=Mem.refl w;have hcl:=hL.len
 go_enter func124,ntmps124
 apply fI 12 [0] m;simp only[↓aD,aoy];refine bX [8] [4,5,9,10,11,12,13,14,15,16,17,18] (fun n vs wl=>∃(k:Nat),vs=[.int .i64 (k:Int)]∧Mem w wl []∧(∀(j:Nat) (d:lT),j<k→cs[j]? = some d→dK ts d.u d.v=false)∧(k≤n1)∧(n=n1-k)) ?_ ?_
 ·
  exact⟨_,0,O,m,(fun j r h=>by omega),bw _,O⟩
 · intro n vs wr hI u K1 hK1
   obtain⟨k,rfl,m,hq0,hk,hn2⟩:=hI;simp only[zu,zF,zG];apply aK 5 [0,0] m;simp only[↓aD];refine bD O ?_ ?_<;>intro hc1
   ·
    obtain⟨c,hc,a1,rfl,hrow⟩:=hL.get (i:=k) (by omega);apply aK 13 [0] m;simp only[↓aD];refine aC (aF underlying105 qX O O (by omega) (by omega) (bZ (ah _))) ?_;simp only[zz];refine aS O ((hrow.ext m.ext).lies Hq qX) ?_;simp only[zz];refine cQ m O O ((haveI:=(hI c (be hc)).1;haveI:=(hI c (be hc)).2;apJ (c:=c) _ (hB50.ext m.ext) (hS.ext m.ext) (hT.ext m.ext) hD hnd hN)) ?_;rintro v u m rfl;apply aL 1 [0] m;simp only[↓aD];refine cR O ?_ ?_<;>intro hc2
    ·
     apply aK 6 [] m;simp only[↓aD];exact aT O O ⟨_,O,m.ext,k,O,.inr ⟨k,c,O,by omega,hc,hc2,fun i d hi hd=>hq0 i d hi hd⟩⟩
    ·
     apply aK 6 [0] m;simp only[↓aD];refine⟨by omega,?_⟩;exact hK1 (n1-(k+1)) _ _ (by omega) (by kernel_rfl) ⟨k+1, rfl, m, (fun j r2 hj h1 => by
      rcases Nat.lt_or_ge j k with h | h
      · exact hq0 j r2 h h1
      · obtain rfl:j=k:=by omega
        rw[hc] at h1;cases h1;exact hc2),by omega,O⟩
   ·
    obtain rfl:n1=k:=by omega
    apply aK 6 [] m;simp only[↓aD];exact aT rfl rfl ⟨_,rfl,m.ext,-1,rfl,.inl ⟨by decide,fun c hc=>by obtain⟨j,hj⟩:=dh.1 hc;exact hq0 j c (by have:=(ap.1 hj).1;omega) hj⟩⟩
theorem apK{w0 w:aj}{K R0:It}{A:Option Addr}{ea ef:Array ck}{D:List (P3 × Hd)}{F:List (P3 × Bool)}{cs:List lT}{A1:Option Addr}(m:Mem w0 w [oI 112 8 A1 n1 c1 (cs.flatMap sS),bI g50 [.pointer (some ⟨g90,0,none⟩)] 88,K,oI 39 9 A N cap (ts.flatMap aN),R0])(hK:∀u,K.P u→Jk 109 u g90 ga gf A N cap ea ef ca cf D ts)(hD:Sn ea ef ca cf D F ts)(hnd:∀t∈ts,t.nd=true)(hIT:∀t∈ts,IT t)(hN:ts.length≤1000000)(hI:∀c∈cs,I3 c.u∧I3 c.v)(hb:∀c∈cs,Bd 900000 c.c)(hn1:n1≤100000000):vU prog 63 [.slice A1 n1 c1,.func (.func 64) #[] #[],.func (.func 65) #[] #[.pointer (some ⟨g50,0,none⟩)]] w fun v w'=>Mem w0 w' [bI g50 [.pointer (some ⟨g90,0,none⟩)] 88,K,oI 39 9 A N cap (ts.flatMap aN),R0]∧((v=.tuple #[.agg #[.int .i64 0,.int .i64 0,.int .i64 0,.int .i64 0,.int .i64 0,.int .i64 0,.bool false,.string ⟨#[]⟩],.bool false]∧∀c∈cs,dK ts c.u c.v=false)∨∃(c:lT) (ys:List lT) (j:Nat),v=.tuple #[aaa c,.bool true]∧ys.Perm cs∧(ys.Pairwise fun a b=>¬b.Lt a)∧ys[j]? = some c∧dK ts c.u c.v=true∧∀(i:Nat) (d:lT),i<j→ys[i]? = some d→dK ts d.u d.v=false):=by
 refine⟨bJ func63 (by kernel_rfl),?_⟩
 go_enter func63,ntmps63
 apply iY 9 [0] m;simp only[↓aD,↓fB,acY];intro g51 u m;refine mL m 1 (bJ func123 (by kernel_rfl)) O O (fun m=>amJ hb m 1 O (by omega)) ?_;rintro v i u m ⟨rfl,ys,rfl,hys,hso⟩;simp only[zF,zG] at m;apply aL 5 [0] m;simp only[↓aD];refine cQ m O O (akg _ (m.b 2 O) (hK _ (m.get 3 O)) ((m.o 4 O).tris hIT) hD hnd hN ((m.o 1 O).lat (enc:=sS) (fun _=>rfl) (by decide)) (fun c hc=>hI c (hys.mem_iff.1 hc)) hn1) ?_;rintro v u m ⟨kk,rfl,hkk⟩;apply aL 8 [0,0] m;simp only[↓aD];refine bD O ?_ ?_<;>intro hc1
 ·
  apply Vf 11 [0,1] m;simp only[↓aD,↓fB,acY,acX,aa];intro g52 u m;exact uA O ⟨_,O,((m.b 1 O).full Hq qX)⟩ O ⟨_,O,m.sel [false,false,false,true,true,true,true],.inl ⟨O,fun c hc=>(hkk.resolve_right (fun⟨j,c2,e,_⟩=>by omega)).2 c (hys.mem_iff.2 hc)⟩⟩
 ·
  obtain⟨j,c,rfl,hj,hc,ha,hb4⟩:=hkk.resolve_left (fun h=>hc1 h.1);obtain⟨c9,hc9,a1,hA1,hr5⟩:=((m.o 1 rfl).lat (enc:=sS) (fun _=>rfl) (by decide)).get (i:=j) (by omega);obtain rfl:c9=c:=eo (hc9.symm.trans hc);subst hA1;apply aK 5 [0] m;simp only[↓aD];refine aC (aF underlying105 qX O O (by omega) (by omega) (bZ (ah _))) ?_;simp only[zz];refine aS O (show eR _ _ _ _ (.agg #[.int .i64 c9.u.x,.int .i64 c9.u.y,.int .i64 c9.u.z,.int .i64 c9.v.x,.int .i64 c9.v.y,.int .i64 c9.v.z,.bool (fY c9.c),.string (kK c9.c)]) from hr5.lies Hq qX) ?_;simp only[zz];apply jS 4 [0] m;simp only[↓aD,↓fB,acX,aa];intro u m;exact uA O ⟨_,O,((m.b 0 O).full Hq qX)⟩ O ⟨_,O,m.sel [false,false,true,true,true,true],.inr ⟨c9,ys,j,O,hys,hso,hc,ha,hb4⟩⟩
end Go.Proofs.YtfekpcimgncioaaGreatDoor
namespace Go.Lith
open Go.RowKit Go.ChangeMaps Go.MapKept
section
variable {K V:Type} [DecidableEq K] {P:bp} {T M E ty:az} {ek:K→ai} {ev:V→ai} {w w0:aj} {g c:Nat} {es:Array ck} {D:List (K × V)} {is:List It}
def tC(ek:K→ai)(ev:V→ai)(D:List (K × V))(es:Array ck)(seen:Array Nat)(dn rs:List (K × V)):Prop :=
 (dn++rs).Perm D∧∃dE rE:List ck,(∀e∈dE,e.born∈seen.toList)∧(∀e∈rE,e.born∉seen.toList)∧(dE++rE).Perm es.toList∧dE.map Tu=dn.map (fun x=>(ek x.1,ev x.2))∧rE.map Tu=rs.map (fun x=>(ek x.1,ev x.2))
def xO(ek:K→ai)(ev:V→ai)(D:List (K × V))(es:Array ck)(seen:Array Nat)(dn:List (K × V))(k:K)(v:V)(rs:List (K × V)):Prop :=
 tC ek ev D es seen (dn++[(k,v)]) rs∧∃(e:ck) (s:Array Nat),e∈es.toList∧Tu e=(ek k,ev v)∧seen=s.push e.born
theorem tC.start(hD:bT ek ev D es c):tC ek ev D es #[] [] D:=⟨nu _,[],es.toList,fun _ h=>(by cases h),fun _ _ h=>(by cases h),nu _,rfl,hD.cells⟩
theorem tC.done{seen:Array Nat}{dn:List (K × V)}(h:tC ek ev D es seen dn []):dn.Perm D:=by simpa using h.1
def amK(ek:K→ai)(ev:V→ai)(D:List (K × V))(es:Array ck)(dn rs:List (K × V))(b:Bool)(seen':Array Nat):Prop :=
 (b=false∧rs=[])∨(b=true∧∃k v rs',rs.Perm ((k,v)::rs')∧xO ek ev D es seen' dn k v rs')
theorem agu{r:Nat}{seen:Array Nat}{dn rs:List (K × V)}(hI:rU w r g c seen c)(hM:jO w g es c)(hD:bT ek ev D es c)(hT:tC ek ev D es seen dn rs) :
 ∃b kv vv seen' w1,(w1=w∨w1=w.drew)∧(Instr.next (.pointer (some ⟨r,0,none⟩)) false ty).run P w=.ok (Ey b kv vv) (setBlock w1 r (.mapIter (some g) c seen' c))∧amK ek ev D es dn rs b seen':=by
 obtain⟨hp,dE,rE,h1,h1',h2,h3,h4⟩:=hT;have hnd:((dE++rE).map (·.born)).Nodup:=(h2.map (·.born)).nodup_iff.2 hD.nd;have hleft:∀e,e∈(leftOf es seen).toList↔e∈rE:=fun e=>by
  unfold leftOf;simp only[Array.toList_filter,List.mem_filter,Bool.not_eq_true',Array.contains_eq_mem,decide_eq_false_iff_not];rw[←Array.mem_toList_iff (xs:=seen),←h2.mem_iff,bi];constructor
  · rintro⟨h | h,hn⟩
    · exact absurd (h1 e h) hn
    · exact h
  · intro h
    exact⟨.inr h,h1' e h⟩
 rcases run_next_at (P:=P) w ty r g c c seen es c hI hM hD.born (av _) with ⟨h0,hr⟩ | ⟨e,he,w1,hw1,hr⟩
 · refine⟨false,default,default,seen,w,.inl O,?_,.inl ⟨O,?_⟩⟩
   · rw[hr]
     have:setBlock w r (.mapIter (some g) c seen c)=w:=by
      unfold setBlock;have hlt:=(Array.getElem?_eq_some_iff.1 hI).1;have:w.heap.setIfInBounds r (.mapIter (some g) c seen c)=w.heap:=by
       apply Array.ext_getElem?;intro i;rw[Array.getElem?_setIfInBounds];split
       · rename_i e;subst e;exact hI.symm
       · rfl
      rw[this]
     rw[this];rfl
   · cases rs with
     | nil=>rfl
     | cons x rs =>
      cases rE with
      | nil=>simp at h4
      | cons e rE =>
       have:=(hleft e).2 (List.mem_cons_self ..);rw[Array.eq_empty_of_size_eq_zero h0] at this;simp at this
 · obtain⟨s,t,rfl⟩:=List.append_of_mem ((hleft e).1 he)
   rw[cv,bh] at h4;obtain⟨rs1,rs2,rfl,e1,e2⟩:=lq.1 h4.symm;obtain⟨x,rs3,rfl,e3,e4⟩:=mj.1 e2;obtain⟨k,v⟩:=x;have hmid:(dE++[e]++(s++t)).Perm (dE++(s++e::t)):=by
    simp only[dl,cj,b_];exact l_ _ List.perm_middle.symm
   have hnd':((dE++[e]++(s++t)).map (·.born)).Nodup:=(hmid.map _).nodup_iff.2 hnd;rw[cv,jy] at hnd';refine⟨true,e.key,e.val,seen.push e.born,w1,hw1,hr,.inr ⟨O,k,v,rs1++rs3,List.perm_middle,⟨?_,dE++[e],s++t,?_,?_,?_,?_,?_⟩,e,seen,h2.mem_iff.1 (by simp),by rw[←e3],O⟩⟩
   · refine List.Perm.trans ?_ hp
     simp only[dl,cj,b_];exact l_ _ List.perm_middle.symm
   · intro x hx
     rw[nt];rcases bi.1 hx with hx | hx
     · exact g_ _ (h1 x hx)
     · rw[bf.1 hx];exact gl _ (bf.2 O)
   · intro x hx hm
     rw[nt] at hm;rcases bi.1 hm with hm | hm
     · refine h1' x ?_ hm
       rcases bi.1 hx with h | h
       · exact g_ _ h
       · exact gl _ (List.mem_cons_of_mem _ h)
     · refine hnd'.2.2 e.born (eh.2 ⟨e,by simp,O⟩) x.born (eh.2 ⟨x,hx,O⟩) (bf.1 hm).symm
   · exact hmid.trans h2
   · simp only[cv,h3,bh,cq]
     rw[←e3]
   · simp[e1,e4]
theorem adB{r:Nat}{seen:Array Nat}{dn rs:List (K × V)}{k:K}{v:V}(hI:rU w r g c seen c)(hM:jO w g es c)(hD:bT ek ev D es c)(hT:xO ek ev D es seen dn k v rs) :
 (Instr.entry (.pointer (some ⟨r,0,none⟩))).run P w=.ok (.tuple #[ek k,ev v]) w:=by
 obtain⟨_,e,s,hm,he,rfl⟩:=hT;have:=run_entry_at (P:=P) w r g c _ es c e hI hM hm hD.nd;rw[this];simp only[Tu,gh] at he;rw[he.1,he.2]
theorem akh(w:aj)(kt:sM P T ek){a b:K}(h:ek a=ek b):a=b:=by
 have h1:=kt.eq a b w;have h2:=kt.eq a a w;rw[←h,h2] at h1
 injection h1 with h1
 simpa using h1.symm
theorem Lx{α:Type}:∀{l:List α} {p:Nat} {x:α},l[p]? = some x→l.Perm (x::l.eraseIdx p)
 | [],_,_,h=>by simp at h
 | y::l,0,x,h=>by simp at h;subst h;exact .refl _
 | y::l,p+1,x,h=>by
  have:=Lx (l:=l) (p:=p) (by simpa using h);exact (this.cons y).trans (.swap ..)
theorem Ly{α:Type}:∀{l:List α} {p:Nat} {x y:α},l[p]? = some x→(l.set p y).Perm (y::l.eraseIdx p)
 | [],_,_,_,h=>by simp at h
 | z::l,0,x,y,h=>.refl _
 | z::l,p+1,x,y,h=>by
  have:=Ly (l:=l) (p:=p) (y:=y) (x:=x) (by simpa using h);exact (this.cons z).trans (.swap ..)
theorem Su{D:List (K × V)}(hn:(D.map (·.1)).Nodup){p q:Nat}{k:K}{v u:V}(hp:D[p]? = some (k,v))(hq:D[q]? = some (k,u)):p=q:=by
 have h1:(D.map (·.1))[p]? = some k:=by simp[hp]
 have h2:(D.map (·.1))[q]? = some k:=by simp[hq]
 obtain⟨a1,a2⟩:=ap.1 h1;obtain⟨b1,b2⟩:=ap.1 h2;exact (List.getElem_inj hn).1 (a2.trans b2.symm)
theorem xO.at(kt:sM P T ek)(w:aj){seen:Array Nat}{dn rs:List (K × V)}{k:K}{v:V}(hD:bT ek ev D es c)(hn:(D.map (·.1)).Nodup)(hT:xO ek ev D es seen dn k v rs) :
 ∃(p:Nat) (e:ck) (dE rE:List ck),qQ D k 0=some (p,v)∧D[p]? = some (k,v)∧es.toList[p]? = some e∧(dn++rs).Perm (D.eraseIdx p)∧(dE++rE).Perm (es.toList.eraseIdx p)∧e.born∈seen.toList ∧
  (∀e∈dE,e.born∈seen.toList)∧(∀e∈rE,e.born∉seen.toList)∧dE.map Tu=dn.map (fun x=>(ek x.1,ev x.2))∧rE.map Tu=rs.map (fun x=>(ek x.1,ev x.2)):=by
 obtain⟨⟨hp,dE,rE,h1,h1',h2,h3,h4⟩,_⟩:=hT;have hmem:(k,v)∈D:=hp.mem_iff.1 (by simp);have hg:=vJ hn hmem;cases hf:qQ D k 0 with
 | none=>rw[(qZ D k 0 hf).1] at hg;cases hg
 | some q =>
  obtain⟨j,v'⟩:=q;obtain⟨p,rfl,hpp,h0,_,_⟩:=mY D k 0 j v' hf;rw[aq] at hf ⊢;obtain rfl:v'=v:=by rw[h0] at hg;exact eo hg
  rw[cv,bh,cq] at h3;obtain⟨d1,d2,rfl,e1,e2⟩:=lq.1 h3;obtain⟨e,d3,rfl,e3,e4⟩:=mj.1 e2;obtain rfl:d3=[]:=by simpa using e4
  have hm:e∈es.toList:=h2.mem_iff.1 (by simp);obtain⟨q,hq⟩:=dh.1 hm;have hqD:∃u,D[q]? = some (k,u):=by
   have h5:=congrArg (fun L=>L[q]?) hD.cells;simp only[fb,hq,fl,e3] at h5;cases h6:D[q]? with
   | none=>rw[h6] at h5;cases h5
   | some x =>
    rw[h6] at h5;simp only[fl,gn,gh] at h5;obtain⟨a,u⟩:=x;obtain rfl:k=a:=akh w kt h5.1;exact⟨u,O⟩
  obtain⟨u,hu⟩:=hqD;obtain rfl:=Su hn hpp hu;refine⟨p,e,d1,rE,O,hpp,hq,?_,?_,h1 e (by simp),fun x hx=>h1 x (g_ _ hx),h1',e1,h4⟩
  · have:((k,v')::(dn++rs)).Perm ((k,v')::D.eraseIdx p):=by
     refine (?_:List.Perm _ _).trans (hp.trans (Lx hpp));rw[dl];exact List.perm_middle.symm
    exact (ny _).1 this
  · have:(e::(d1++rE)).Perm (e::es.toList.eraseIdx p):=by
     refine (?_:List.Perm _ _).trans (h2.trans (Lx hq));rw[dl];exact List.perm_middle.symm
    exact (ny _).1 this
theorem abM{T2:az}{seen:Array Nat}{dn rs:List (K × V)}{k:K}{v:V}(hu:P.underlying M=some (.map T E))(kt:sM P T ek)(hM:jO w g es c)(hD:bT ek ev D es c)(hn:(D.map (·.1)).Nodup)(hT:xO ek ev D es seen dn k v rs) :
 ∃es',(Builtin.delete_ #[M,T2] ty #[.map (some g),ek k]).run P w=.ok (.tuple #[]) (setBlock w g (.map es' c))∧bT ek ev (Br D k) es' c∧tC ek ev (Br D k) es' seen dn rs:=by
 unfold jO at hM;obtain⟨p,e,dE,rE,hf,hp,he,hd,hE,_,h1,h1',h3,h4⟩:=hT.at kt w hD hn;obtain⟨p',e0,_,_,_,hm⟩:=mY D k 0 p v hf;rw[aq] at e0;subst e0;refine⟨es.eraseIdxIfInBounds p,?_,hm▸hD.erase p,hm▸hd,dE,rE,h1,h1',?_,h3,h4⟩
 · simp[Builtin.delete_,run_underlying hu,getObj,Sem.run,hM,kt.chk,uI kt k w hD,hf,run_setObj_map _ hM,setBlock]
 · have e2:(es.eraseIdxIfInBounds p).toList=es.toList.eraseIdx p:=by
    by_cases h:p<es.size
    · simp[kz,h]
    · simp only[kz,h,dite_false]
      exact (List.eraseIdx_of_length_le (by simpa using Nat.le_of_not_lt h)).symm
   rw[e2];exact hE
theorem abN{seen:Array Nat}{dn rs:List (K × V)}{k:K}{v:V}(hu:P.underlying M=some (.map T E))(kt:sM P T ek)(hM:jO w g es c)(hD:bT ek ev D es c)(hn:(D.map (·.1)).Nodup)(hT:xO ek ev D es seen dn k v rs)(u:V) :
 ∃es',(Instr.mapUpdate M (.map (some g)) (ek k) (ev u)).run P w=.ok () (setBlock w g (.map es' c))∧bT ek ev (fP D k u) es' c∧tC ek ev (fP D k u) es' seen (dn++[(k,u)]) rs:=by
 unfold jO at hM;obtain⟨p,e,dE,rE,hf,hp,he,hd,hE,hb,h1,h1',h3,h4⟩:=hT.at kt w hD hn;obtain⟨p',e0,_,_,hm,_⟩:=mY D k 0 p v hf;rw[aq] at e0;subst e0;have hk:e.key=ek k:=by
  have h2:=congrArg (fun L=>L[p]?) hD.cells;simp only[fb,hp,he,fl,Tu,gn,gh] at h2;exact h2.1
 have hes:es[p]? = some e:=by rw[←Array.getElem?_toList];exact he
 have hk':((es[p]?).map (·.key)).getD (ek k)=ek k:=by rw[hes];exact hk
 refine⟨es.modify p fun e=>{ e with key:=ek k,val:=ev u },?_,hm u▸hD.set hp u,hm u▸?_,dE++[{ e with key:=ek k,val:=ev u }],rE,?_,h1',?_,?_,h4⟩
 · simp only[Instr.mapUpdate,Sem.run_bind,run_underlying hu,Result.andThen,getObj,Sem.run,hM,Sem.run_pure,kt.chk,uI kt k w hD,hf,fl,hk',Instr.keyThatStays,kt.bits,if_true]
   exact run_setObj_map _ hM
 · rw[dl]
   refine List.perm_middle.trans (((hd.cons (k,u))).trans (Ly hp).symm)
 · intro x hx
   rcases bi.1 hx with hx | hx
   · exact h1 x hx
   · rw[bf.1 hx];exact hb
 · have e2:(es.modify p fun e=>{ e with key:=ek k,val:=ev u }).toList=es.toList.set p { e with key:=ek k,val:=ev u }:=by
    rw[Array.toList_modify];apply List.ext_getElem?;intro j;rw[List.getElem?_modify,List.getElem?_set];by_cases h:p=j
    · subst h
      have:=(ap.1 he).1;rw[he];simp[this];simpa using this
    · simp[h]
   rw[e2,dl];exact List.perm_middle.trans ((hE.cons _).trans (Ly he).symm)
 · simp[h3,Tu]
theorem xO.stay{seen:Array Nat}{dn rs:List (K × V)}{k:K}{v:V}(hT:xO ek ev D es seen dn k v rs):tC ek ev D es seen (dn++[(k,v)]) rs:=hT.1
variable {ds:List Deferred} {l:List ai} {x y z:Operand} {ops:Array Oper} {Q:Exit→Act→aj→Prop} {rest:List Oper} {d:Nat} {pos:String} {after:Array Edge}
theorem aki{r:Nat}{seen:Array Nat}{dn rs:List (K × V)}(m:Mem w0 w is)(k:Nat)(hk:is[k]? = some (iI r g c seen))(hx:Go.Lith.ev l x=.pointer (some ⟨r,0,none⟩))(hM:jO w g es c)(hD:bT ek ev D es c)(hT:tC ek ev D es seen dn rs)
 (h:∀b kv vv seen' u,Mem w0 u (is.set k (iI r g c seen'))→amK ek ev D es dn rs b seen'→ar P ops Q rest (Fr (l.set d (Ey b kv vv)) ds) u) :
 ar P ops Q (Oper.mk (some d) (.next x false) ty pos after none::rest) (Fr l ds) w:=by
 have hI:=m.r k hk;obtain⟨b,kv,vv,seen',w1,hw1,hr,hN⟩:=agu (P:=P) (ty:=ty) hI hM hD hT;refine mJ (w':=setBlock w1 r (.mapIter (some g) c seen' c)) (v:=Ey b kv vv) (fun o ho hty=>by simp[execOp,ho,cK,hx,hty,hr]) (h b kv vv seen' _ ?_ hN);have e1:w1.heap=w.heap∧w1.os=w.os∧w1.tape=w.tape∧w1.output=w.output:=by rcases hw1 with rfl | rfl <;> exact⟨rfl,rfl,rfl,rfl⟩
 refine m.put k hk e1.2.1 e1.2.2.1 e1.2.2.2 (by simp[setBlock,e1.1]) (fun b' _ hne=>?_) ?_ (.inl fun _ h=>h)
 · have:b'≠r:=fun e=>hne (by rw[e];rfl)
   simp only[setBlock,e1.1];exact Array.getElem?_setIfInBounds_ne (Ne.symm this)
 · exact kB (w:=w1) (o:=.mapIter (some g) c seen c) (by rw[e1.1];exact hI)
theorem abO{r:Nat}{seen:Array Nat}{dn rs:List (K × V)}{k:K}{v:V}(hx:Go.Lith.ev l x=.pointer (some ⟨r,0,none⟩))(hI:rU w r g c seen c)(hM:jO w g es c)(hD:bT ek ev D es c)(hT:xO ek ev D es seen dn k v rs) :
 Ak P l (.entry x) ty (.tuple #[ek k,ev v]) w:=fun o ho _=>by
 have:=adB (P:=P) hI hM hD hT;simp[execOp,ho,cK,hx,this]
theorem akj{a:K}{va:V}{T2:az}{seen:Array Nat}{dn rs:List (K × V)}(m:Mem w0 w is)(k:Nat)(hk:is[k]? = some (mI g es c))(hu:P.underlying M=some (.map T E))(kt:sM P T ek)(hx:Go.Lith.ev l x=.map (some g))(hy:Go.Lith.ev l y=ek a)(hD:bT ek ev D es c)
 (hn:(D.map (·.1)).Nodup) (hT:xO ek ev D es seen dn a va rs) {a0:Array az} (ha:a0 = #[M,T2])
 (h:∀es' u,Mem w0 u (is.set k (mI g es' c))→bT ek ev (Br D a) es' c→tC ek ev (Br D a) es' seen dn rs→ar P ops Q rest (Fr l ds) u):ar P ops Q (Oper.mk none (.call { callee:=.builtin .delete,args:=#[x,y],argTypes:=a0 }) ty pos after none::rest) (Fr l ds) w:=by
 subst ha;have hM:=m.p k hk;have hC:=fun es' c'=>pW (w:=w) (g:=g) (.map es' c');refine amg fun o ho=>?_;obtain⟨es',hr,hD',hT'⟩:=abM (T2:=T2) (ty:=o.type) hu kt hM hD hn hT;exact⟨.tuple #[],setBlock w g (.map es' c),by simp[execOp,ho,resolve,invoke,builtin,cK,hx,hy,hr],h es' _ (m.put k hk (hC es' c).os (hC es' c).tape (hC es' c).output (by rw[(hC es' c).size];exact av _) (fun b _ hne=>(hC es' c).block b fun e=>hne (by rw[e];rfl)) (kB hM) (.inl fun _ h=>h)) hD' hT'⟩
theorem akk{v va:V}{a:K}{seen:Array Nat}{dn rs:List (K × V)}(m:Mem w0 w is)(k:Nat)(hk:is[k]? = some (mI g es c))(hu:P.underlying M=some (.map T E))(kt:sM P T ek)(hx:Go.Lith.ev l x=.map (some g))(hy:Go.Lith.ev l y=ek a)(hz:Go.Lith.ev l z=ev v)(hD:bT ek ev D es c)
 (hn:(D.map (·.1)).Nodup) (hT:xO ek ev D es seen dn a va rs)
 (h:∀es' u,Mem w0 u (is.set k (mI g es' c))→bT ek ev (fP D a v) es' c→tC ek ev (fP D a v) es' seen (dn++[(a,v)]) rs→ar P ops Q rest (Fr l ds) u):ar P ops Q (Oper.mk none (.mapUpdate M x y z) ty pos after none::rest) (Fr l ds) w:=by
 have hM:=m.p k hk;obtain⟨es',hr,hD',hT'⟩:=abN hu kt hM hD hn hT v;have hC:=pW (w:=w) (g:=g) (.map es' c);refine Gy (w':=setBlock w g (.map es' c)) (fun o ho=>by simp[execOp,ho,cK,hx,hy,hz,hr]) (h es' _ ?_ hD' hT');exact m.put k hk hC.os hC.tape hC.output (by rw[hC.size];exact av _) (fun b _ hne=>hC.block b fun e=>hne (by rw[e];rfl)) (kB hM) (.inl fun _ h=>h)
end
end Go.Lith
namespace Go.Proofs.YtfekpcimgncioaaGreatDoor
open Go.Proofs.Tryz
open Go.RowKit Go.Lith
set_option maxRecDepth 100000
attribute [local irreducible] ar cl fU bS cO Code.wp
attribute [local congr] pD gF gG gH gI gJ kL gK gL gM gN gQ gR gS gT gU gV gW eU eV gX gY iA iB iC kN dF dG cW dD gZ kM eW eX eY iD iE kO
variable{R0:It}{q60 c60 g16:Nat}{cc:lT}
theorem akl:sM prog 56 ed:=by
 refine sM.agg (cs:=fun p=>#[.int .i64 p.1.x,.int .i64 p.1.y,.int .i64 p.1.z,.int .i64 p.2.x,.int .i64 p.2.y,.int .i64 p.2.z]) (fun _=>rfl) Eu (fun e p=>?_) (fun p q=>?_) (fun p=>?_)
 · refine wM.array (d:=9999) Eu aA fun i hi=>?_
   obtain rfl | rfl:=(by omega:i=0∨i=1)
   · refine⟨_,cX aG aA O,?_⟩
     refine wM.struct (d:=9998) fT fun f hf=>?_;simp only[an,cg,or_false] at hf;rcases hf with rfl | rfl | rfl
     · exact⟨_,cZ bF O,wM.int (d:=9997) jN⟩
     · exact⟨_,cZ bF O,wM.int (d:=9997) jN⟩
     · exact⟨_,cZ bF O,wM.int (d:=9997) jN⟩
   · refine⟨_,cX aG aA O,?_⟩
     refine wM.struct (d:=9998) fT fun f hf=>?_;simp only[an,cg,or_false] at hf;rcases hf with rfl | rfl | rfl
     · exact⟨_,cZ bF O,wM.int (d:=9997) jN⟩
     · exact⟨_,cZ bF O,wM.int (d:=9997) jN⟩
     · exact⟨_,cZ bF O,wM.int (d:=9997) jN⟩
 · exact (ahG _).iff ⟨fun h=>Prod.ext (P3.eq h.1 h.2.1 h.2.2.1) (P3.eq h.2.2.2.1 h.2.2.2.2.1 h.2.2.2.2.2),fun h=>by subst h;simp only[and_self]⟩
 · simp[ed,Instr.sameBits]
theorem ard:nU prog 95 (W 0):=by rw[Xn];exact yF
theorem aeS:nU prog 97 (qV q0):=by rw[←zqV];exact alg
def qH(D:List (E3 × Int))(Q:P3→List Int):Prop:=∀k v,cL D k=some v→v=sX Q k.1 k.2
theorem qH.put{D:List (E3 × Int)}{Q:P3→List Int}(h:qH D Q)(p q:P3):qH (fP D (p,q) (sX Q p q)) Q:=fun k v hv=>by
 rw[mG] at hv;split at hv
 · rename_i e;cases e;cases hv;rfl
 · exact h k v hv
structure QOK(Dq:List (P3 × List Int))(Q:P3→List Int)(B:Nat):Prop where
 get:∀x,(cL Dq x).getD q0=Q x
 len:∀x,(Q x).length=10
 bd:∀x,Gf B (Q x)
theorem apL{w0 w:aj}{g60 g61 q61 c61 B:Nat}{es60 es61:Array ck}{Dc:List (E3 × Int)}{Dq:List (P3 × List Int)}{Q:P3→List Int}{p q:P3}[I3 p][I3 q](m:Mem w0 w [bI g60 [.map (some q60)] 100,bI g61 [.map (some q61)] 93,mI q60 es60 c60,mI q61 es61 c61,R0])(hD60:bT ed W Dc es60 c60)(hD61:bT pt qV Dq es61 c61)(hC:qH Dc Q)(hnC:(Dc.map (·.1)).Nodup)(hQ:QOK Dq Q B)(hB:B≤800000):vU prog 59 [pt p,pt q,.pointer (some ⟨g60,0,none⟩),.pointer (some ⟨g61,0,none⟩)] w fun v w'=>∃(es:Array ck) (c:Nat) (D:List (E3 × Int)),v=W (sX Q p q)∧Mem w0 w' [bI g60 [.map (some q60)] 100,bI g61 [.map (some q61)] 93,mI q60 es c,mI q61 es61 c61,R0]∧bT ed W D es c∧qH D Q∧(D.map (·.1)).Nodup:=by
 refine⟨bJ func59 (by kernel_rfl),?_⟩;obtain rfl:(fun x=>(cL Dq x).getD q0)=Q:=funext hQ.get;have hlp:((cL Dq p).getD q0).length=10:=hQ.len p;have hlq:((cL Dq q).getD q0).length=10:=hQ.len q;have hbp:Gf B ((cL Dq p).getD q0):=hQ.bd p;have hbq:Gf B ((cL Dq q).getD q0):=hQ.bd q
 go_enter func59,ntmps59
 apply iY 12 [3,2,1,0] m;simp only[↓aD,↓fB,nA,Yr,aQ,Fe,aa];intro g71 g72 g73 u m;refine fO (Vc (ek:=ed) (en:=W) (k:=(p,q)) (v0:=0) underlying100 ard akl O O (m.p 5 O) hD60) ?_;simp only[zz];apply jS 13 [0,0] m;simp only[↓aD,↓fB,nA,fL,aa];intro g74 u m;refine cR O ?_ ?_<;>intro hc1
 ·
  apply aK 1 [0] m;simp only[↓aD];refine cU m 9 aB (by kernel_rfl) ?_;simp only[zy];refine ql O (fun u m=>((m.b 5 O).lies1 ahA O)) ?_;simp only[zz];refine ql O (fun u m=>((m.b 3 O).full aG aA)) ?_;simp only[zz];refine kP (fun u m=>eH (ek:=pt) (en:=qV) (k:=p) (v0:=q0) Pv aeS gC O O (m.p 7 O) hD61) ?_;simp only[zz];refine ql O (fun u m=>((m.b 5 O).lies1 ahA O)) ?_;simp only[zz];refine ql O (fun u m=>((m.b 2 O).full aG aA)) ?_;simp only[zz];refine kP (fun u m=>eH (ek:=pt) (en:=qV) (k:=q) (v0:=q0) Pv aeS gC O O (m.p 7 O) hD61) ?_;simp only[zz];refine fD O O (adu hlp hlq hbp hbq (by omega)) ?_;simp only[zz];refine ql O (fun u m=>((m.b 2 O).full aG aA)) ?_;simp only[zz];refine fD O O (arb (Nw hbp hbq) (lL hlp hlq) (by omega)) (bC ?_);intro u m;simp only[zz];refine bN m 0 O O O aR (iK O) O ?_;intro u m;simp only[zy,zx,over,zF,zG,aa] at m;refine aM ?_;apply aU 6 [4,3,2,0,0] m;simp only[↓aD,↓fB,Yr,aQ,Fe,fL,aa];refine nI (ek:=ed) (en:=W) (a:=(p,q)) (v:=(sX (fun x=>(cL Dq x).getD q0) p q)) m 6 O underlying100 akl O O O hD60 ?_;intro es60 c60 u m hD60;simp only[zF,zG] at m;apply jS 7 [0,1] m;simp only[↓aD,↓fB,fL,aa];intro u m;exact aT O ⟨_,O,((m.b 1 O).full cM aR)⟩ ⟨_,O,_,_,_,O,m.sel [false,false,false,false,true,true,true,true,true],hD60,hC.put p q,uH hnC _ _⟩
 ·
  obtain⟨y,hy⟩:∃y,cL Dc (p,q)=some y:=Option.isSome_iff_exists.1 (by simpa using hc1);obtain rfl:=hC _ _ hy;simp only[hy,Option.getD_some] at m;apply Vf 7 [0,1] m;simp only[↓aD,↓fB,fL,aa];intro u m;exact aT O ⟨_,O,((m.b 1 O).full cM aR)⟩ ⟨_,O,_,_,_,O,m.sel [false,false,false,false,true,true,true,true,true],hD60,hC,hnC⟩
theorem akm{K V:Type}[DecidableEq K]{ek:K→ai}{ev:V→ai}{D dn rs:List (K × V)}{es:Array ck}{b:Bool}{sn:Array Nat}(hb:b=false)(h:amK ek ev D es dn rs b sn):rs=[]:=by
 rcases h with ⟨_,h⟩ | ⟨h,_⟩
 · exact h
 · rw[h] at hb;cases hb
theorem akn{K V:Type}[DecidableEq K]{ek:K→ai}{ev:V→ai}{D dn rs:List (K × V)}{es:Array ck}{b:Bool}{sn:Array Nat}(hb:b=true)(h:amK ek ev D es dn rs b sn):∃k v rs',rs.Perm ((k,v)::rs')∧xO ek ev D es sn dn k v rs':=by
 rcases h with ⟨h,_⟩ | ⟨_,h⟩
 · rw[h] at hb;cases hb
 · exact h
theorem agv(a b:P3):decide (a.x=b.x∧a.y=b.y∧a.z=b.z)=decide (a=b):=decide_eq_decide.2 ⟨fun h=>P3.eq h.1 h.2.1 h.2.2,fun h=>by rw[h];exact⟨rfl,rfl,rfl⟩⟩
def ako(v:P3)(k:E3):Bool:=decide (k.1=v)||decide (k.2=v)
theorem akp{k:E3}{x:Int}(w:aj)(hB16:fR w g16 (sS cc) 112):dA prog 67 [ed k,W x,.pointer (some ⟨g16,0,none⟩)] w (fun v _=>v=.bool (ako cc.v k)):=by
 refine⟨bJ func67 (by kernel_rfl),?_⟩;have m:=Mem.refl w
 go_enter func67,ntmps67
 apply iY 11 [1,0] m;simp only[↓aD,↓fB,Rg,aQ,uV,ad,ag,aa];intro g1 g2;refine⟨by omega,?_⟩;intro u m;refine aS O ((hB16.ext m.ext).lies aG aA O O) ?_;simp only[zz,zy,aq,aa,ag,ad];refine aC (cB O O) ?_;apply aL 1 [0] m;simp only[↓aD];refine bA O (fun hb=>aJ Eu aA O O (by decide) (by decide) O) ?_;simp only[zz];refine bV O (fun hb=>aY (aX hb O) ((m.b 1 O).lies aG aA O O)) ?_;simp only[zz,zy,aq,aa,ag,ad];refine bA O (fun hb=>aW (c:=2) yE O aA O O) ?_;simp only[zz];refine bV O (fun hb=>aY (aX hb O) ((hB16.ext m.ext).lies aG aA O O)) ?_;simp only[zz,zy,aq,aa,ag,ad];refine bA O (fun hb=>cB (aX hb O) (aX hb O)) (aC (cC O O O) ?_);apply aL 3 [] m;simp only[↓aD];refine aT O O ?_;try simp only[zD,zE]
 exact⟨_,O,m.ext,by rw[agv,agv];rfl⟩
theorem akq{w0 w:aj}{es60:Array ck}{D0:List (E3 × Int)}(m:Mem w0 w [mI q60 es60 c60,bI g16 (sS cc) 112,R0])(hD60:bT ed W D0 es60 c60)(hn0:(D0.map (·.1)).Nodup):vU prog 66 [.map (some q60),.func (.func 67) #[] #[.pointer (some ⟨g16,0,none⟩)]] w fun v w'=>∃(es:Array ck) (D:List (E3 × Int)),v=.tuple #[]∧Mem w0 w' [mI q60 es c60,bI g16 (sS cc) 112,R0]∧bT ed W D es c60∧(D.map (·.1)).Nodup∧∀k v,cL D k=some v→cL D0 k=some v∧ako cc.v k=false:=by
 refine⟨bJ func66 (by kernel_rfl),?_⟩
 go_enter func66,ntmps66
 apply fI 3 [0] m;simp only[↓aD];refine wE m underlying100 O (m.p 0 O) ?_;intro r1 u m;apply aL 2 [0] m;simp only[↓aD];refine bX [] [4,5,8,9,10,11,12,13,14,15,16,17,18] (fun n vs wl=>∃(D dn rs:List (E3 × Int)) (sn:Array Nat) (es:Array ck),vs=[]∧Mem w0 wl [iI r1 q60 c60 sn,mI q60 es c60,bI g16 (sS cc) 112,R0]∧(bT ed W D es c60)∧((D.map (·.1)).Nodup)∧(tC ed W D es sn dn rs)∧(∀x∈dn,ako cc.v x.1=false)∧(∀k v,cL D k=some v→cL D0 k=some v)∧(n=rs.length)) ?_ ?_
 ·
  exact⟨_,D0,[],D0,#[],es60,rfl,m,hD60,hn0,tC.start hD60,(fun x h=>(by cases h)),(fun _ _ h=>h),rfl⟩
 · intro n vs wr hI u K1 hK1
   obtain⟨D,dn,rs,sn,es60,rfl,m,hD60,hnD,hT,hb0,hs0,hn⟩:=hI;simp only[zu,zF,zG];apply aK 2 [0] m;simp only[↓aD];refine aki m 0 O O (m.p 1 O) hD60 hT ?_;intro bb kk vv sn u m hN;simp only[zF,zG] at m;refine aC (pX O) ?_;apply aL 2 [0] m;simp only[↓aD];refine cR O ?_ ?_<;>intro hc1
   ·
    obtain⟨kp,kb,rs2,hp,hT2⟩:=akn hc1 hN;apply aK 4 [0] m;simp only[↓aD];refine fO (abO O (m.r 0 O) (m.p 1 O) hD60 hT2) ?_;simp only[zz];apply jS 12 [1,0,1,0,0] m;simp only[↓aD,↓fB,Vz,nA,Fc,fL,aa];intro g72 g73 u m;refine cQ m O O (akp (k:=kp) (x:=kb) _ (m.b 4 O)) ?_;rintro v u m rfl;apply aL 1 [0] m;simp only[↓aD];refine cR O ?_ ?_<;>intro hc2
    ·
     apply aK 3 [1,0] m;simp only[↓aD,↓fB,Fc];refine akj (ek:=ed) (ev:=W) (a:=kp) m 3 O underlying100 akl O O hD60 hnD hT2 O ?_;intro es60 u m hD60 hT';simp only[zF,zG] at m;apply aL 2 [0] m;simp only[↓aD];exact hK1 rs2.length _ _ (by rw[hn,hp.length_eq];exact fc _) (by kernel_rfl) ⟨Br D kp,dn,rs2,_,_,O,(m.sel [false,false,true,true,true,true]),hD60,acu hnD kp,hT',hb0,(fun k v h=>hs0 k v (by rw[Va _ _ hnD] at h;split at h;cases h;exact h)),O⟩
    ·
     apply aK 2 [0] m;simp only[↓aD];exact hK1 rs2.length _ _ (by rw[hn,hp.length_eq];exact fc _) (by kernel_rfl) ⟨D,dn++[(kp,kb)],rs2,_,_,O,(m.sel [false,false,true,true,true,true]),hD60,hnD,hT2.stay,(fun x hx=>(bi.1 hx).elim (hb0 x) fun h=>(by rw[bf.1 h];exact hc2)),hs0,O⟩
   ·
    obtain rfl:=akm hc1 hN;apply aK 1 [0] m;simp only[↓aD];exact Ep O ⟨_,O,_,D,O,m.sel [false,true,true,true],hD60,hnD,fun k v h=>⟨hs0 k v h,hb0 (k,v) (hT.done.mem_iff.2 (Bt h))⟩⟩
end Go.Proofs.YtfekpcimgncioaaGreatDoor
namespace Go.Proofs.YtfekpcimgncioaaGreatDoor
open Go.Proofs.Tryz
open Go.RowKit Go.Lith
set_option maxRecDepth 100000
attribute [local irreducible] ar cl fU bS cO Code.wp
variable{u q k x:P3}{l:List T3}{S:List P3}{cs:List lT}{D:List Mv}
theorem amM{B:Nat}{Q:P3→List Int}(hl:∀x,(Q x).length=10)(hb:∀x,Gf B (Q x))(hB:B≤800000)(u:P3){v:P3}(hv:I3 v):Bd 900000 (sX Q u v):=by
 unfold sX;rw[←aiu (lL (hl u) (hl v))];exact (acV (Nw (hb u) (hb v)) (lL (hl u) (hl v)) (bd4 hv) O 10 (av _)).mono (by omega)
theorem QOK.upd{Dq:List (P3 × List Int)}{Q:P3→List Int}{B:Nat}(h:QOK Dq Q B)(u v:P3):QOK (fP Dq v (Ei (Q u) (Q v))) (Ym Q u v) (B+1) where
 get x:=by
  rw[mG];unfold Ym;by_cases e:v=x
  · rw[if_pos e,if_pos e.symm];rfl
  · rw[if_neg e,if_neg fun k=>e k.symm];exact h.get x
 len x:=by
  unfold Ym;split
  · exact lL (h.len u) (h.len v)
  · exact h.len x
 bd x:=by
  unfold Ym;split
  · exact Nw (h.bd u) (h.bd v)
  · exact (h.bd x).mono (pv B)
theorem QOK.mono{Dq:List (P3 × List Int)}{Q:P3→List Int}{B C:Nat}(h:QOK Dq Q B)(hB:B≤C):QOK Dq Q C:=⟨h.get,h.len,fun x=>(h.bd x).mono hB⟩
theorem qH.upd{D D1:List (E3 × Int)}{Q:P3→List Int}{v:P3}(h:qH D Q)(h1:∀k x,cL D1 k=some x→cL D k=some x∧ako v k=false):qH D1 (Ym Q u v):=fun k x hx=>by
 obtain⟨h2,h3⟩:=h1 k x hx;rw[h k x h2];simp only[ako,gq,decide_eq_false_iff_not] at h3;unfold sX Ym;rw[if_neg h3.1,if_neg h3.2]
theorem qH.nil(Q:P3→List Int):qH [] Q:=fun _ _ h=>by cases h
/-! ### The quadrics of the corners -/
def Jp(l:List T3)(S:List P3)(Dq:List (P3 × List Int)):Prop:=∀x,(cL Dq x).getD q0=if x∈S then wH l x else q0
theorem Jp.nil(l:List T3):Jp l [] []:=fun _=>rfl
theorem Jp.put{ps:List P3}{k:Nat}{p:P3}{Dq:List (P3 × List Int)}(h:Jp l (ps.take k) Dq)(hp:ps[k]? = some p):Jp l (ps.take (k+1)) (fP Dq p (wH l p)):=fun x=>by
 rw[mG,cH hp];by_cases e:p=x
 · subst e
   rw[if_pos rfl,if_pos (gl _ (bf.2 rfl))];rfl
 · rw[if_neg e,h x]
   have:x∈ps.take k++[p]↔x∈ps.take k:=by
    rw[bi,bf];exact⟨fun h=>h.resolve_right fun k=>e k.symm,.inl⟩
   simp only[this]
theorem akr{p:P3}(h:p∉dT l):wH l p=q0:=by
 unfold wH;rw[List.filter_eq_nil_iff.2 fun t ht hp=>h (uQ ht hp)];rfl
theorem Jp.ok{l:List T3}{ps:List P3}{Dq:List (P3 × List Int)}(h:Jp l ps Dq)(hps:∀a,a∈ps↔a∈dT l)(hI:∀t∈l,IT t):QOK Dq (wH l) (602+l.length) where
 get x:=by
  rw[h x];split
  · rfl
  · rename_i e;rw[akr fun k=>e ((hps x).2 k)]
 len x:=by have:=Aa (ts:=l) (p:=x) l.length (av _);rwa [fi] at this
 bd x:=by have:=Zw (p:=x) hI l.length (av _);rwa [fi] at this
theorem On(hI:∀t∈l,IT t){p:P3}(h:p∈dT l):I3 p:=by
 obtain⟨t,ht,hp⟩:=List.mem_flatMap.1 (show p∈l.flatMap fun t=>[t.a,t.b,t.c] from h);have:=hI t ht;simp only[an,cg,or_false] at hp;rcases hp with rfl | rfl | rfl
 · exact this.a
 · exact this.b
 · exact this.c
theorem adC{p:P3}(h:Nj l p q=true):p∈dT l∧q∈dT l:=by
 simp only[Nj,Bool.and_eq_true,Tx,List.any_eq_true] at h;obtain⟨_,t,ht,h⟩:=h;exact⟨uQ ht h.1,uQ ht h.2⟩
/-! ### Candidates -/
def Em(l:List T3)(Q:P3→List Int)(S:List P3)(cs:List lT):Prop:=∀d,d∈cs↔d.u∈S∧Fa (bK l) d.u=false∧Nj l d.u d.v=true∧d.c=sX Q d.u d.v
def adD(l:List T3)(Q:P3→List Int)(S:List P3)(p:P3)(S2:List P3)(cs:List lT):Prop:=∀d,d∈cs↔(d.u∈S∧Fa (bK l) d.u=false∧Nj l d.u d.v=true∧d.c=sX Q d.u d.v)∨(d.u=p∧d.v∈S2∧d.c=sX Q d.u d.v)
theorem Em.nil(l:List T3)(Q:P3→List Int):Em l Q [] []:=fun d=>by simp
theorem Em.skip{Q:P3→List Int}{p:P3}(h:Em l Q S cs)(hb:Fa (bK l) p=true):Em l Q (S++[p]) cs:=fun d=>by
 rw[h d];constructor
 · rintro⟨h1,h2⟩;exact⟨g_ _ h1,h2⟩
 · rintro⟨h1,h2,h3⟩
   rcases bi.1 h1 with h1 | h1
   · exact⟨h1,h2,h3⟩
   · rw[bf.1 h1,hb] at h2;cases h2
theorem Em.start{Q:P3→List Int}(h:Em l Q S cs)(p:P3):adD l Q S p [] cs:=fun d=>by rw[h d];simp
theorem adD.put{Q:P3→List Int}{S2:List P3}{p:P3}(h:adD l Q S p S2 cs):adD l Q S p (S2++[q]) (cs++[⟨p,q,sX Q p q⟩]):=fun d=>by
 rw[bi,h d,bi,bf,bf];constructor
 · rintro ((h1 | ⟨h1,h2,h3⟩) | rfl)
   · exact .inl h1
   · exact .inr ⟨h1,.inl h2,h3⟩
   · exact .inr ⟨O,.inr O,O⟩
 · rintro (h1 | ⟨h1,h2 | h2,h3⟩)
   · exact .inl (.inl h1)
   · exact .inl (.inr ⟨h1,h2,h3⟩)
   · refine .inr ?_
     obtain⟨du,dv,dc⟩:=d;simp only at h1 h2 h3;subst h1;subst h2;subst h3;rfl
theorem adD.done{Q:P3→List Int}{S2:List P3}{p:P3}(h:adD l Q S p S2 cs)(hb:Fa (bK l) p=false)(hS:∀x,x∈S2↔Nj l p x=true):Em l Q (S++[p]) cs:=fun d=>by
 rw[h d,bi,bf];constructor
 · rintro (⟨h1,h2⟩ | ⟨h1,h2,h3⟩)
   · exact⟨.inl h1,h2⟩
   · rw[hS] at h2;subst h1;exact⟨.inr O,hb,h2,h3⟩
 · rintro⟨h1 | h1,h2,h3,h4⟩
   · exact .inl ⟨h1,h2,h3,h4⟩
   · refine .inr ⟨h1,?_,h4⟩;rw[hS,←h1];exact h3
theorem Em.all{Q:P3→List Int}(h:Em l Q S cs)(hS:∀x,x∈S↔x∈dT l)(d:lT):d∈cs↔d∈acT l Q:=by
 rw[h d,alN,hS];exact⟨fun h=>h.2,fun h=>⟨(adC h.2.1).1,h⟩⟩
/-! ### The moves -/
def Cx(S:List P3)(u v:P3)(D:List Mv):List Mv:=D.map fun e=>(e.1,if e.1∈S then sK u v e.2 else e.2)
theorem abP(u v:P3)(D:List Mv):Cx [] u v D=D:=by simp[Cx]
theorem Ec(S:List P3)(u v:P3)(D:List Mv):(Cx S u v D).map (·.1)=D.map (·.1):=by simp[Cx,Function.comp_def]
theorem aks{v:P3}(h:∀e∈D,e.1∈S):fP (Cx S u v D) u v=toF D u v:=by
 unfold Cx toF;rw[iy fun e he=>by rw[if_pos (h e he)]]
theorem abQ{K V:Type}[DecidableEq K]:∀{D:List (K × V)} {k:K} {x:V},(D.map (·.1)).Nodup→k∈D.map (·.1)→fP D k x=D.map fun e=>(e.1,if e.1=k then x else e.2)
 | [],_,_,_,h=>by cases h
 | e::D,k,x,hn,h=>by
  rw[bh,List.nodup_cons] at hn;by_cases hk:e.1=k
  · subst hk
    have:∀f∈D,((f.1,if f.1=e.1 then x else f.2):K × V)=f:=fun f hf=>by
     rw[if_neg fun k:f.1=e.1=>hn.1 (by rw[←k];exact fh (f:=fun x:K × V=>x.1) hf)]
    simp only[fP,bh,if_pos];rw[iy this,List.map_id']
  · have h2:k∈D.map (·.1):=by
     rcases an.1 h with h | h
     · exact absurd h.symm hk
     · exact h
    simp only[fP,bh,if_neg hk];rw[abQ hn.2 h2]
theorem akt{v:P3}(hn:(D.map (·.1)).Nodup)(hk:(k,x)∈Cx S u v D)(hS:k∉S)(hx:x=u):fP (Cx S u v D) k v=Cx (S++[k]) u v D:=by
 have hk1:k∈(Cx S u v D).map (·.1):=fh (f:=(·.1)) hk;rw[abQ (by rw[Ec];exact hn) hk1];unfold Cx at hk ⊢;obtain⟨e,he,h⟩:=eh.1 hk;cases h;rw[if_neg hS] at hx;rw[List.map_map];refine iy fun f hf=>?_;simp only[Function.comp_apply];by_cases hfe:f.1=e.1
 · have:f=e:=by
    obtain⟨i,hi⟩:=dh.1 hf;obtain⟨j,hj⟩:=dh.1 he;have h1:i=j:=Su hn (k:=e.1) (v:=f.2) (u:=e.2) (by rw[hi,←hfe]) hj;rw[h1,hj] at hi;exact (eo hi).symm
   subst this;rw[if_pos rfl,if_pos (gl S (bf.2 rfl))];unfold sK;rw[if_pos hx]
 · rw[if_neg hfe]
   have:f.1∈S++[e.1]↔f.1∈S:=by simp[hfe]
   simp only[this]
theorem agw{v:P3}(hn:(D.map (·.1)).Nodup)(hk:(k,x)∈Cx S u v D)(hS:k∉S)(hx:x≠u):Cx S u v D=Cx (S++[k]) u v D:=by
 unfold Cx at hk ⊢;obtain⟨e,he,h⟩:=eh.1 hk;cases h;rw[if_neg hS] at hx;refine iy fun f hf=>?_;by_cases hfe:f.1=e.1
 · have:f=e:=by
    obtain⟨i,hi⟩:=dh.1 hf;obtain⟨j,hj⟩:=dh.1 he;have h1:i=j:=Su hn (k:=e.1) (v:=f.2) (u:=e.2) (by rw[hi,←hfe]) hj;rw[h1,hj] at hi;exact (eo hi).symm
   subst this;rw[if_neg hS,if_pos (gl S (bf.2 rfl))];unfold sK;rw[if_neg hx]
 · have:f.1∈S++[e.1]↔f.1∈S:=by simp[hfe]
   simp only[this]
theorem aku{V:Type}{ek:P3→ai}{ev:V→ai}{D dn rs:List (P3 × V)}{es:Array ck}{sn:Array Nat}{x:V}(hn:(D.map (·.1)).Nodup)(h:xO ek ev D es sn dn k x rs):k∉dn.map (·.1)∧(k,x)∈D:=by
 have hp:=h.1.1;refine⟨fun hk=>?_,hp.mem_iff.1 (by simp)⟩;have h1:=(hp.map (·.1)).nodup_iff.2 hn;simp only[cv,bh,cq,dl] at h1;exact (jy.1 h1).2.2 k hk k (by simp) O
theorem apM(hn:(D.map (·.1)).Nodup)(u v:P3):((toF D u v).map (·.1)).Nodup:=by
 unfold toF;exact uH (by rw[List.map_map];exact hn) u v
theorem agx{l:List T3}{want:Int}{Q:P3→List Int}{D:List Mv}{c:lT}(hw:0≤want)(h:¬(l.length:Int)≤want)(hb:Fb l Q=some c) :
 qR l.length want l Q D=qR (oQ l c.u c.v).length want (oQ l c.u c.v) (Ym Q c.u c.v) (toF D c.u c.v):=by
 have h1:=xD hb;obtain⟨n,hn⟩:∃n,l.length=n+1:=⟨l.length-1,by omega⟩
 rw[hn]
 conv=>lhs;unfold qR
 rw[if_neg h,hb];exact Vu n _ want _ _ _ (by omega) (av _) hw
theorem abR{want:Int}{Q:P3→List Int}(h:(l.length:Int)≤want∨Fb l Q=none):qR l.length want l Q D=(l,D):=by
 rcases h with h | h
 · exact aip h
 · cases hl:l.length with
   | zero=>rfl
   | succ n =>
    unfold qR;split
    · rfl
    · rw[h]
theorem apN{w0 w:aj}{K R0:It}{g50 g90 ga gf N cap ca cf:Nat}{A:Option Addr}{ea ef:Array ck}{D:List (P3 × Hd)}{F:List (P3 × Bool)}{ts:List T3}{cs:List lT}{n1 c1:Nat}{A1:Option Addr}{Q:P3→List Int}{B:Nat}(m:Mem w0 w [oI 112 8 A1 n1 c1 (cs.flatMap sS),bI g50 [.pointer (some ⟨g90,0,none⟩)] 88,K,oI 39 9 A N cap (ts.flatMap aN),R0])(hK:∀u,K.P u→Jk 109 u g90 ga gf A N cap ea ef ca cf D ts)(hD:Sn ea ef ca cf D F ts)(hnd:∀t∈ts,t.nd=true)(hIT:∀t∈ts,IT t)(hN:ts.length≤1000000)(hl:∀x,(Q x).length=10)(hb:∀x,Gf B (Q x))(hB:B≤800000)(hC:Em ts Q (D.map (·.1)) cs)(hn1:n1≤100000000) :
 vU prog 63 [.slice A1 n1 c1,.func (.func 64) #[] #[],.func (.func 65) #[] #[.pointer (some ⟨g50,0,none⟩)]] w fun v w'=>∃(c:lT) (b:Bool),v=.tuple #[aaa c,.bool b]∧Mem w0 w' [bI g50 [.pointer (some ⟨g90,0,none⟩)] 88,K,oI 39 9 A N cap (ts.flatMap aN),R0]∧((b=false∧Fb ts Q=none)∨(b=true∧Fb ts Q=some c∧I3 c.u∧I3 c.v)):=by
 have hall:=hC.all (fun x=>hD.k x);have hI:∀c∈cs,I3 c.u∧I3 c.v:=fun c hc=>by
  have:=adC ((hC c).1 hc).2.2.1;exact⟨On hIT this.1,On hIT this.2⟩
 refine (apK m hK hD hnd hIT hN hI (fun c hc=>by rw[((hC c).1 hc).2.2.2];exact amM hl hb hB c.u (hI c hc).2) hn1).mono ?_;rintro v w' ⟨h1,⟨rfl,h2⟩ | ⟨c,ys,j,rfl,hys,hso,hc,ha,hq⟩⟩
 · exact⟨⟨⟨0,0,0⟩,⟨0,0,0⟩,0⟩,false,by simp only[aaa,sS,Kd];rfl,h1,.inl ⟨rfl,ac7 hall h2⟩⟩
 · refine⟨c,true,O,h1,.inr ⟨O,ac6 (fun d=>by rw[hys.mem_iff];exact hall d) hso hc ha hq,hI c (hys.mem_iff.1 (be hc))⟩⟩
end Go.Proofs.YtfekpcimgncioaaGreatDoor
namespace Go.Proofs.YtfekpcimgncioaaGreatDoor
open Go.Proofs.Tryz
open Go.RowKit Go.Lith
set_option maxRecDepth 100000
attribute [local irreducible] ar cl fU bS cO Code.wp
attribute [local congr] pD gF gG gH gI gJ kL gK gL gM gN gQ gR gS gT gU gV gW eU eV gX gY iA iB iC kN dF dG cW dD gZ kM eW eX eY iD iE kO
variable{ts l:List T3}{N cap k c:Nat}{A:Option Addr}{want at0 ax:Int}{t:T3}
theorem adE(w:aj)(hT:bU w A N ts)(hN:N≤300000):dA prog 57 [.slice A N cap] w (OR 30 3 (fun xs=>∃ps:List P3,xs=ps.flatMap bO∧uJ ps∧∀a,a∈ps↔a∈dT ts) w):=by
 refine⟨bJ func57 (by kernel_rfl),?_⟩;have m:=Mem.refl w
 go_enter func57,ntmps57
 apply fI 6 [0] m;simp only[↓aD];refine lZ m ?_;intro q8 u m;have hD8:=bT.nil (K:=P3) (V:=Bool) pt bj;apply aL 10 [0] m;simp only[↓aD,iM];refine bX [11] [5,7,12,13,14,15,16,17,18,19,20,21,22,23] (fun n vs wl=>∃(k:Nat) (es:Array ck) (c:Nat),vs=[.int .i64 (k:Int)]∧Mem w wl [mI q8 es c]∧(bT pt bj (By [] (dT (ts.take k))) es c)∧(k≤N)∧(n=N-k)) ?_ ?_
 ·
  exact⟨_,0,_,_,O,m,hD8,bw _,O⟩
 ·
  intro n vs wr hI u K1 hK1;obtain⟨k,es,c,rfl,m,hD8,hk,hn⟩:=hI;simp only[zu,zF,zG];apply aK 5 [0,0] m;simp only[↓aD];refine bD O ?_ ?_<;>intro hc1
  ·
   obtain⟨t,ht,_,a,rfl,hrow⟩:=hT.get (i:=k) (by omega);apply aK 5 [0] m;simp only[↓aD];refine aC (aF cD aP O O (by omega) (by omega) (bZ (ah _))) ?_;simp only[zz];refine aS O (((hrow.ext m.ext)).lies cA aP) ?_;simp only[zz];apply jS 22 [0,0,4,1,0] m;simp only[↓aD,lM,eA,aa];intro g2;refine⟨by omega,?_⟩;intro u m;refine aC (tJ O O) ?_;apply jS 6 [0,0,0] m;simp only[↓aD,eS,aQ,aa];intro g3 u m;refine mL m 2 acg O O (fun m=>ada (p:=t.a) m 2 O hD8) ?_;rintro v i u m ⟨rfl,es',c',rfl,hD'⟩;simp only[zF,zG] at m;simp only[zz];clear hD8;have hD8:=hD';clear hD';apply aL 18 [1,0] m;simp only[↓aD,ak];refine⟨by omega,?_⟩;refine aC (tK O O) ?_;apply jS 6 [0,0,0] m;simp only[↓aD,eS,aQ,aa];intro g4 u m;refine mL m 3 acg O O (fun m=>ada (p:=t.b) m 3 O hD8) ?_;rintro v i u m ⟨rfl,es',c',rfl,hD'⟩;simp only[zF,zG] at m;simp only[zz];clear hD8;have hD8:=hD';clear hD';apply aL 18 [1,0] m;simp only[↓aD,ak];refine⟨by omega,?_⟩;refine aC (tL O O) ?_;apply jS 6 [0,0,0] m;simp only[↓aD,eS,aQ,aa];intro g5 u m;refine mL m 4 acg O O (fun m=>ada (p:=t.c) m 4 O hD8) ?_;rintro v i u m ⟨rfl,es',c',rfl,hD'⟩;simp only[zF,zG] at m;simp only[zz];clear hD8;have hD8:=hD';clear hD';apply aL 19 [2,0] m;simp only[↓aD,ak];refine⟨by omega,?_⟩;exact hK1 (N-(k+1)) _ _ (by omega) (by kernel_rfl) ⟨k+1,_,_,O,(m.sel [false,false,false,false,true]),by rw[acA ht];exact hD8,by omega,O⟩
  ·
   have hkN:k=N:=by omega
   rw[hkN,show ts.take N=ts from ay (by rw[hT.len];exact av _)] at hD8;apply aK 4 [0] m;simp only[↓aD];refine bH O O (afX _ (m.p 0 O) hD8 (by have h1:=Hy (dT ts) [];have h2:=pY ts;have h3:=hT.len;simp only[bn] at h1;omega)) ?_;rintro v u e_ ⟨A9,n9,cap9,_,rfl,h_,ps,rfl,hps,hso⟩;replace m:=m.newO e_ h_;apply aL 3 [] m;simp only[↓aD];exact aT O O ⟨_,O,m.ext,_,_,_,_,O,(m.o 0 O),ps,O,afy (hps.nodup_iff.2 (Mn _ _ .nil)) hso,fun a=>by rw[hps.mem_iff,Vg];simp⟩
theorem xP(h:∀t∈l,IT t):∀t∈eC l,IT t:=fun t ht=>by
 obtain⟨s,hs,rfl⟩:=Wa.1 ht;have:=h s hs;unfold dU;split
 · exact⟨this.c,this.a,this.b⟩
 · split
   · exact⟨this.b,this.c,this.a⟩
   · exact this
theorem Ws{ks:List P3}{a:P3}:a∈(fZ [] ks).map (·.1)↔a∈ks:=by rw[uL];simp
theorem agy{ps:List P3}(h:uJ ps)(hm:∀a,a∈ps↔a∈dT l):ps.length≤3*l.length:=by
 have hn:ps.Nodup:=List.Pairwise.imp (fun {a b} (h:P3.Lt a b) (e:a=b)=>P3.lt_irrefl b (by rw[e] at h;exact h)) h;have h1:=lk hn (l₂:=dT l) fun x hx=>(hm x).1 hx;rw[pY] at h1;omega
theorem Em.perm{Q:P3→List Int}{dn D:List (P3 × Hd)}{cs:List lT}(h:Em l Q (dn.map (·.1)) cs)(hp:dn.Perm D):Em l Q (D.map (·.1)) cs:=fun d=>by rw[h d,(hp.map (·.1)).mem_iff]
theorem anB{D:List Mv}{p:P3}(h:(Ai (D.map (·.1)))[k]? = some p):(mZ D)[k]? = some (p,(cL D p).getD ⟨0,0,0⟩):=by
 have hm:p∈D.map (·.1):=(oS _).mem_iff.1 (be h);obtain⟨y,hy⟩:∃y,cL D p=some y:=by
  cases hg:cL D p with
  | some y=>exact⟨y,rfl⟩
  | none=>exact absurd hm (oX.1 hg)
 unfold mZ;rw[fb,h,hy];simp[hy]
theorem Wt{ea ef:Array ck}{ca cf:Nat}{D:List (P3 × Hd)}{F:List (P3 × Bool)}(h:Sn ea ef ca cf D F l):D.length≤3*l.length:=by
 have h1:=lk h.nk (l₂:=dT l) fun x hx=>(h.k x).1 hx;rw[ct,pY] at h1;omega
theorem amN(D:List Mv)(u v:P3):(toF D u v).length≤D.length+1:=by
 have:=vL (D.map fun e=>(e.1,sK u v e.2)) u v;rwa [ct] at this
theorem tW{D:List Mv}(h0:fW true (eC ts)=0)(h:qR (eC ts).length want (eC ts) (wH (eC ts)) []=(l,D)):Aj ts want=(l,mZ D):=by
 unfold Aj;rw[if_neg (by rw[h0];simp),h]
theorem adF(h:¬fW true (eC ts)=0):Aj ts want=(eC ts,[]):=by unfold Aj;rw[if_pos h]
theorem adG(w:aj)(hT0:bU w A N ts)(hN:N≤2000)(hw:0≤want):dA prog 24 [.slice A N cap,.int .i64 want] w (fun v w'=>∃A1 n1 c1 A2 n2 c2,v=.tuple #[.slice A1 n1 c1,.slice A2 n2 c2]∧n1=(Aj ts want).1.length∧n2=(Aj ts want).2.length∧Mem w w' [oI 55 6 A2 n2 c2 ((Aj ts want).2.flatMap cY),oI 39 9 A1 n1 c1 ((Aj ts want).1.flatMap aN)]):=by
 refine⟨bJ func24 (by kernel_rfl),?_⟩;have m:=Mem.refl w;have htl:=hT0.len;have hcl:=rF ts;have hit:∀t∈eC ts,IT t:=xP hT0.it;have hN2:(eC ts).length≤2000:=by omega
 go_enter func24,ntmps24
 apply fI 8 [0] m;simp only[↓aD];refine bH O O (abo _ (hT0.ext m.ext) (by omega)) ?_;rintro v u e_ ⟨A1,cap1,n1,hn1,rfl,h_⟩;replace m:=m.newO e_ h_;obtain rfl:n1=(eC ts).length:=by rw[hcl];exact hn1
 apply aL 6 [0] m;simp only[↓aD];refine cQ m O O (yV _ ((m.o 0 O).tris hit) (by omega)) ?_;rintro v u m rfl;apply aL 2 [0,0] m;simp only[↓aD];refine bD O ?_ ?_<;>intro hc1
 ·
  apply aK 6 [] m;simp only[↓aD];replace m:=m.nilO 55 6;apply aU 1 [] m;simp only[↓aD];exact uA O O O ⟨_,O,m.ext,_,_,_,_,_,_,O,by rw[adF hc1],by rw[adF hc1];rfl,by rw[adF hc1];exact m.sel [true,true]⟩
 ·
  have hc0:fW true (eC ts)=0:=by omega
  have hnd:=Sq hc0;apply aK 3 [0] m;simp only[↓aD];refine lZ m ?_;intro q61 u m;have hD61:=bT.nil (K:=P3) (V:=List Int) pt qV;apply jS 7 [0,0] m;simp only[↓aD,↓fB,aqF,aer,aa];intro g2 u m;refine bH O O (adE _ ((m.o 2 O).tris hit) (by omega)) ?_;rintro v u e_ ⟨A3,n3,cap3,_,rfl,h_,ps,rfl,hso,hmem⟩;replace m:=m.newO e_ h_;obtain rfl:ps.length=n3:=by have:=(m.o 0 rfl).own.1;rw[ahU] at this;omega
  have hpl:ps.length≤10000000:=by have h1:=agy hso hmem;omega
  apply aL 4 [0] m;simp only[↓aD,kC];refine bX [33] [8,34,35,36,37,38,39,40,41,42] (fun n vs wl=>∃(k:Nat) (es:Array ck) (c:Nat) (Dq:List (P3 × List Int)),vs=[.int .i64 (k:Int)]∧Mem w wl [oI 30 3 A3 ps.length cap3 (ps.flatMap bO),bI g2 [.map (some q61)] 93,mI q61 es c,oI 39 9 A1 (eC ts).length cap1 ((eC ts).flatMap aN)]∧(bT pt qV Dq es c)∧(Jp (eC ts) (ps.take k) Dq)∧(k≤ps.length)∧(n=ps.length-k)) ?_ ?_
  ·
   exact⟨_,0,_,_,[],O,m,hD61,Jp.nil _,bw _,O⟩
  · intro n vs wr hI u K1 hK1
    obtain⟨k,es61,c61,Dq,rfl,m,hD61,hq1,hk,hn⟩:=hI;simp only[zu,zF,zG];apply aK 5 [0,0] m;simp only[↓aD];refine bD O ?_ ?_<;>intro hc2
    ·
     obtain⟨p,hp,a3,hA3,hr3⟩:=((m.o 0 rfl).lat (enc:=bO) (fun _=>rfl) (by decide)).get (i:=k) (by omega);subst hA3;apply aK 5 [0] m;simp only[↓aD];refine aC (aF cN aA O O (by omega) (by omega) (bZ (ah _))) ?_;simp only[zz];refine aS O (show eR _ _ _ _ (pt p) from hr3.lies aG aA) ?_;simp only[zz];apply jS 3 [0,0] m;simp only[↓aD,↓fB,eS,aQ,aa];intro g3 u m;refine mh m [true,true,true,false,true] [(2,true),(0,true),(1,true),(3,true),(4,false),(5,false)] aB (by kernel_rfl) (bQ (fun _ _ _ _ _ h=>h)) (ol:=?_) ?hol ?_
     case hol=>simp only[zw,zQ,zR];try rfl
     intro u m;refine Hv 4 [2,0,0] ?_;simp only[↓aD,↓fB,aer,aQ];refine bL (cQ m O O (apG (p:=p) _ ((m.o 4 O).tris hit) (by omega)) ?_);rintro v u m rfl;refine aM ⟨m.sel [true,true,true,false,true],?_⟩;refine bL ?_;simp only[zz];refine nI (ek:=pt) (en:=qV) (a:=p) (v:=(wH (eC ts) p)) m 3 O Pv gC O O O hD61 ?_;intro es61 c61 u m hD61;simp only[zF,zG] at m;refine aM ⟨m.sel [true,true,true,false,true],?_⟩;refine bY ?_;apply aU 5 [0] m;simp only[↓aD];refine⟨by omega,?_⟩;exact hK1 (ps.length-(k+1)) _ _ (by omega) (by kernel_rfl) ⟨k+1,_,_,_,O,(m.sel [false,true,true,true,true]),hD61,hq1.put hp,by omega,O⟩
    ·
     obtain rfl:k=ps.length:=by omega
     rw[ay (av _)] at hq1;have hQ:=hq1.ok hmem hit;apply aK 3 [0] m;simp only[↓aD];refine lZ m ?_;intro q62 u m;have hD62:=bT.nil (K:=P3) (V:=P3) pt pt;apply aL 4 [0] m;simp only[↓aD];refine lZ m ?_;intro q60 u m;have hD60:=bT.nil (K:=E3) (V:=Int) ed W;apply jS 5 [0,0] m;simp only[↓aD,↓fB,aox,Yr,aa];intro g5 u m;refine aC fX ?_;simp only[zz,f_,bh,cq];apply aL 4 [0] m;simp only[↓aD];refine bX [0] [12,13,14,15,16,17,18,19,46,47,48,49,50,51,52,53,54,55,56,57,58,59,60,61,62,63,64,65,66,67,68,69,70,71,72,73,74,75,76,77,78,79,80,81,82,83,84,85,86,87,88,89,90,91,92,93,94,95,96,97,98,99,100,101,102,103,104,105,106,107,108,109,110,111,112,113,114,115,116,117,118,119,120,121,122,123,124,125,126,127,128,129,130,131,132,133] (fun n vs wl=>∃(l:List T3) (Q:P3→List Int) (A1:Option Addr) (cap1:Nat) (es60 es61 es62:Array ck) (c60 c61 c62:Nat) (Dc:List (E3 × Int)) (Dq:List (P3 × List Int)) (Dm:List Mv),vs=[.slice A1 l.length cap1]∧Mem w wl [bI g5 [.map (some q60)] 100,mI q60 es60 c60,mI q62 es62 c62,bI g2 [.map (some q61)] 93,mI q61 es61 c61,oI 39 9 A1 l.length cap1 (l.flatMap aN)]∧(bT ed W Dc es60 c60)∧(qH Dc Q)∧((Dc.map (·.1)).Nodup)∧(bT pt qV Dq es61 c61)∧(bT pt pt Dm es62 c62)∧(QOK Dq Q (602+2*(eC ts).length-l.length))∧(∀t∈l,IT t)∧(∀t∈l,t.nd=true)∧((Dm.map (·.1)).Nodup)∧(qR (eC ts).length want (eC ts) (wH (eC ts)) []=qR l.length want l Q Dm)∧(l.length+Dm.length≤(eC ts).length)∧(n=l.length)) ?_ ?_
     ·
      exact⟨_,(eC ts),(wH (eC ts)),_,_,_,_,_,_,_,_,[],_,[],O,(m.sel [true,true,true,false,true,true,true]),hD60,qH.nil _,kj,hD61,hD62,hQ.mono (by omega),hit,hnd,kj,O,(by simp),O⟩
     · intro n vs wr hI u K2 hK2
       obtain⟨l,Q,A1,cap1,es60,es61,es62,c60,c61,c62,Dc,Dq,Dm,rfl,m,hD60,hC,hnC,hD61,hD62,hQ,hit,hnd,hnM,hS,hle,hn⟩:=hI;simp only[zu,zF,zG];apply aK 8 [0,0] m;simp only[↓aD,iM];refine bD O ?_ ?_<;>intro hc3
       ·
        apply aK 5 [0] m;simp only[↓aD];refine bH O O (aj4 _ ((m.o 5 O).tris hit) hnd (by omega)) ?_;rintro v u e_ ⟨g90,ga,gf,ea,ef,ca,cf,D,F,K,rfl,hM,hK,hSD⟩;replace m:=m.plus hM;clear hM;simp only[cj,b_] at m;apply jS 7 [0] m;simp only[↓aD,↓fB,aqE,aeq,aa];intro g6 u m;replace m:=m.nilO 112 8;apply aU 6 [1,0] m;simp only[↓aD,↓fB,aeq,Rh,aa];refine aS O (((hK _ (m.get 2 O)).b).lies1 ad5 O) ?_;simp only[zz];refine wE m underlying106 O ((hK _ (m.get 2 O)).a) ?_;intro r1 u m;apply aL 2 [0] m;simp only[↓aD];refine bX [13] [14,15,57,58,59,60,61,62,63,64,65,66,67,68,69,70,71,72,73,74,75,76,77,78,79,80,81,82,83,84] (fun n vs wl=>∃(dn rs:List (P3 × Hd)) (sn:Array Nat) (cs:List lT) (A9:Option Addr) (cap9:Nat) (es60:Array ck) (c60:Nat) (Dc:List (E3 × Int)),vs=[.slice A9 cs.length cap9]∧Mem w wl [iI r1 ga ca sn,oI 112 8 A9 cs.length cap9 (cs.flatMap sS),bI g6 [.pointer (some ⟨g90,0,none⟩)] 88,K,bI g5 [.map (some q60)] 100,mI q60 es60 c60,mI q62 es62 c62,bI g2 [.map (some q61)] 93,mI q61 es61 c61,oI 39 9 A1 l.length cap1 (l.flatMap aN)]∧(bT ed W Dc es60 c60)∧(qH Dc Q)∧((Dc.map (·.1)).Nodup)∧(oC pt Hd.v D ea sn dn rs)∧(Em l Q (dn.map (·.1)) cs)∧(cs.length≤dn.length*6000)∧(n=rs.length)) ?_ ?_
        ·
         exact⟨_,[],D,#[],[],_,_,_,_,_,O,m,hD60,hC,hnC,(oC.start hSD.a),(Em.nil _ _),(bw _),O⟩
        · intro n vs wr hI u K3 hK3
          obtain⟨dn,rs,sn,cs,A9,cap9,es60,c60,Dc,rfl,m,hD60,hC,hnC,hT,hCs,hcl3,hn3⟩:=hI;simp only[zu,zF,zG];apply aK 2 [0] m;simp only[↓aD];refine Ml m 0 O O ((hK _ (m.get 3 O)).a) hSD.a hT ?_;intro bb kk vv sn u m hN;simp only[zF,zG] at m;refine aC (pX O) ?_;apply aL 2 [0] m;simp only[↓aD];refine cR O ?_ ?_<;>intro hc4
          ·
           obtain⟨kp,kb,rs2,hp2,hT2⟩:=Hx hc4 hN;have hkp:kp∈D.map (·.1):=fh (f:=(·.1)) (hT2.1.mem_iff.1 (by simp):(kp,kb)∈D);have hTl:=hT2.len;have hkeys:=Wt hSD;rw[au,aw,bn] at hTl;apply aK 4 [0] m;simp only[↓aD];refine fO (tM O (m.r 0 O) ((hK _ (m.get 3 O)).a) hSD.a hT2) ?_;simp only[zz];apply jS 6 [0,0] m;simp only[↓aD,↓fB,eS,aQ,aa];intro g8 u m;refine mq m aB (by kernel_rfl) (dZ 3 [3] ?_);simp only[↓aD,↓fB,aeq,Ri,aa];refine ql O (fun u m=>(((hK _ (m.get 4 O)).b).lies1 tI O)) ?_;simp only[zz];refine ql O (fun u m=>((m.b 0 O).full aG aA)) ?_;simp only[zz];refine kP (fun u m=>eH (ek:=pt) (en:=bj) (k:=kp) (v0:=false) nP oN gC O O ((hK _ (m.get 4 O)).f) hSD.f) ?_;simp only[zz];refine bC ?_;intro u m;refine gc (cR O (fun hc5=>?_) (fun hc5=>?_))
           ·
            rw[hSD.b] at hc5;apply aK 1 [0] m;simp only[↓aD];exact hK3 rs2.length _ _ (by rw[hn3,hp2.length_eq];exact fc _) (by kernel_rfl) ⟨dn++[(kp,kb)],rs2,_,cs,_,_,_,_,_,O,(m.sel [false,true,true,true,true,true,true,true,true,true,true]),hD60,hC,hnC,hT2,(by rw[cv];exact hCs.skip hc5),(by rw[au];simp only[aw,bn];omega),rfl⟩
           ·
            rw[hSD.b] at hc5;apply aK 5 [3,0,0] m;simp only[↓aD,↓fB,aeq,aQ];refine bH O O (Zf (p:=kp) _ ((hK _ (m.get 4 O)).b) ((hK _ (m.get 4 O)).a) hSD.a ((hK _ (m.get 4 O)).t) (by omega)) ?_;rintro v u e_ ⟨qx,esx,cx,rfl,hM,hDx⟩;replace m:=m.plus hM;clear hM;simp only[cj,b_] at m;simp only[zz];refine wE m nP O (m.p 0 O) ?_;intro r2 u m;apply aL 2 [0] m;simp only[↓aD];refine bX [13] [15,71,72,73,74,75,76,77,78,79,80,81,82,83,84] (fun n vs wl=>∃(dn2 rs2:List (P3 × Bool)) (sn2:Array Nat) (cs:List lT) (A9:Option Addr) (cap9:Nat) (es60:Array ck) (c60:Nat) (Dc:List (E3 × Int)),vs=[.slice A9 cs.length cap9]∧Mem w wl [iI r2 qx cx sn2,mI qx esx cx,bI g8 [.int .i64 kp.x,.int .i64 kp.y,.int .i64 kp.z] 30,iI r1 ga ca sn,oI 112 8 A9 cs.length cap9 (cs.flatMap sS),bI g6 [.pointer (some ⟨g90,0,none⟩)] 88,K,bI g5 [.map (some q60)] 100,mI q60 es60 c60,mI q62 es62 c62,bI g2 [.map (some q61)] 93,mI q61 es61 c61,oI 39 9 A1 l.length cap1 (l.flatMap aN)]∧(bT ed W Dc es60 c60)∧(qH Dc Q)∧((Dc.map (·.1)).Nodup)∧(oC pt bj (fZ [] (nL l kp)) esx sn2 dn2 rs2)∧(adD l Q (dn.map (·.1)) kp (dn2.map (·.1)) cs)∧(cs.length≤dn.length*6000+dn2.length)∧(n=rs2.length)) ?_ ?_
            ·
             exact⟨_,[],_,#[],cs,_,_,_,_,_,O,m,hD60,hC,hnC,(oC.start hDx),(hCs.start kp),(by simp only[bn];omega),rfl⟩
            · intro n vs wr hI u K4 hK4
              obtain⟨dn2,rs3,sn2,cs,A9,cap9,es60,c60,Dc,rfl,m,hD60,hC,hnC,hT3,hCi,hcl4,hn4⟩:=hI;simp only[zu,zF,zG];apply aK 2 [0] m;simp only[↓aD];refine Ml m 0 O O (m.p 1 O) hDx hT3 ?_;intro bb kk vv sn u m hN;simp only[zF,zG] at m;refine aC (pX O) ?_;apply aL 2 [0] m;simp only[↓aD];refine cR O ?_ ?_<;>intro hc6
              ·
               obtain⟨kq,kv,rs4,hp4,hT4⟩:=Hx hc6 hN;have hnb:Nj l kp kq=true:=sC.1 (Ws.1 (fh (f:=(·.1)) (hT4.1.mem_iff.1 (by simp):(kq,kv)∈fZ [] (nL l kp))));have hT4l:=hT4.len;have hal:=pA (nL l kp) [];have hbl:=So l kp;rw[au,aw,bn] at hT4l;rw[bn] at hal;apply aK 4 [0] m;simp only[↓aD];refine fO (tM O (m.r 0 O) (m.p 1 O) hDx hT4) ?_;simp only[zz];apply jS 4 [0] m;simp only[↓aD,↓fB,eS,aQ,aa];intro g10 u m;replace m:=m.pull 12 O;simp only[dW,dX,zF,zG] at m;replace m:=m.pull 10 O;simp only[dW,dX,zF,zG] at m;replace m:=m.pull 12 O;simp only[dW,dX,zF,zG] at m;replace m:=m.pull 11 O;simp only[dW,dX,zF,zG] at m;refine gc (mh m [true,true,false,true,true,true,true,true,true,false,true,true,true,true] [(0,true),(3,true),(1,true),(2,true),(4,true),(5,true),(6,false),(7,true),(8,false),(9,false),(10,true)] aB (by kernel_rfl) (bQ (fun _ _ _ _ _ h=>h)) (ol:=?_) ?hol ?_)
               case hol=>simp only[zw,zQ,zR];try rfl
               intro u m;refine Hv 6 [6,3,6,3] ?_;simp only[↓aD,↓fB,aQ];refine bL ?_;replace m:=m.pack4;refine kJ O O ((haveI:=On hit ((hSD.k kp).1 hkp);haveI:=On hit (adC hnb).2;apL (p:=kp) (q:=kq) m hD60 hD61 hC hnC hQ (by omega))) ?_;rintro v u ⟨es60,c60,Dc,rfl,m,hD60,hC,hnC⟩;simp only[zz];replace m:=m.unpack4;refine aM ⟨m.sel [true,true,false,true,true,true,true,true,true,false,true,true,true,true],?_⟩;refine aZ (Hs O O O) (bL ?_);simp only[zz];refine acq O ?_;intro u g11 e_ h_ k_;replace m:=m.newB e_ h_ k_;refine aM ⟨m.sel [false,true,true,false,true,true,true,true,true,true,false,true,true,true,true],?_⟩;refine bL ?_;simp only[zz];refine bM m 10 O O underlying105 alh O (by decide) O O O (m.b 0 O).rowsO (fV O) (by omega) (by omega) ?_;intro A9 cap9 u m;simp only[zF,zG] at m;rw[show cs.flatMap sS++_=(cs++[⟨kp,kq,sX Q kp kq⟩]:List lT).flatMap sS by rw[a_];rfl] at m;have hll:cs.length+1=(cs++[⟨kp,kq,sX Q kp kq⟩]:List lT).length:=by simp
               rw[hll] at m;rw[hll];refine aM ⟨m.sel [false,true,true,false,true,true,true,true,true,true,false,true,true,true,true],?_⟩;refine aZ aO (bY ?_);simp only[zz];replace m:=m.pull 14 O;simp only[dW,dX,zF,zG] at m;replace m:=m.pull 5 O;simp only[dW,dX,zF,zG] at m;replace m:=m.pull 4 O;simp only[dW,dX,zF,zG] at m;replace m:=m.pull 14 O;simp only[dW,dX,zF,zG] at m;replace m:=m.pull 6 O;simp only[dW,dX,zF,zG] at m;replace m:=m.pull 6 O;simp only[dW,dX,zF,zG] at m;replace m:=m.pull 14 O;simp only[dW,dX,zF,zG] at m;replace m:=m.pull 14 O;simp only[dW,dX,zF,zG] at m;replace m:=m.pull 14 O;simp only[dW,dX,zF,zG] at m;replace m:=m.pull 14 O;simp only[dW,dX,zF,zG] at m;replace m:=m.pull 14 O;simp only[dW,dX,zF,zG] at m;replace m:=m.pull 14 O;simp only[dW,dX,zF,zG] at m;replace m:=m.pull 14 O;simp only[dW,dX,zF,zG] at m;replace m:=m.pull 14 O;simp only[dW,dX,zF,zG] at m;apply aU 1 [0] m;simp only[↓aD];exact hK4 rs4.length _ _ (by rw[hn4,hp4.length_eq];exact fc _) (by kernel_rfl) ⟨dn2++[(kq,kv)],rs4,_,(cs++[lT.mk kp kq (sX Q kp kq)]),_,_,_,_,_,O,(m.sel [false,true,true,true,true,true,true,true,true,true,true,true,true,true,false]),hD60,hC,hnC,hT4,(by rw[cv];exact hCi.put),(by rw[au,au];simp only[aw,bn];omega),rfl⟩
              ·
               obtain rfl:=Hw hc6 hN;have hT3l:=hT3.len;have hal:=pA (nL l kp) [];have hbl:=So l kp;rw[bn] at hal hT3l;replace hCi:=hCi.done hc5 (fun x=>by rw[←sC];exact ((hT3.done.map (·.1)).mem_iff).trans Ws);apply aK 2 [0] m;simp only[↓aD];exact hK3 rs2.length _ _ (by rw[hn3,hp2.length_eq];exact fc _) (by kernel_rfl) ⟨dn++[(kp,kb)],rs2,_,cs,_,_,_,_,_,O,(m.sel [false,false,false,true,true,true,true,true,true,true,true,true,true]),hD60,hC,hnC,hT2,(by rw[cv];exact hCi),(by rw[au];simp only[aw,bn] at hal ⊢;omega),rfl⟩
          ·
           obtain rfl:=Hw hc4 hN;have hTl:=hT.len;have hkeys:=Wt hSD;rw[bn] at hTl;have hdn:=hT.done;replace hCs:=hCs.perm hdn;apply aK 4 [0] m;simp only[↓aD];refine aC fX ?_;simp only[zz,f_,bh,cq];replace m:=m.pull 9 O;simp only[dW,dX,zF,zG] at m;replace m:=m.pull 4 O;simp only[dW,dX,zF,zG] at m;replace m:=m.pull 4 O;simp only[dW,dX,zF,zG] at m;replace m:=m.pull 4 O;simp only[dW,dX,zF,zG] at m;replace m:=m.pack4;refine kJ O O (apN m hK hSD hnd hit (by omega) hQ.len hQ.bd (by omega) hCs (by omega)) ?_;rintro v u ⟨c,bb,rfl,m,hbest⟩;simp only[zz];replace m:=m.unpack3;apply aL 1 [0] m;simp only[↓aD];refine aC (fG (v:=aaa c) O O) ?_;simp only[zz];refine aC (fG (v:=.bool bb) O O) ?_;simp only[zz];apply jS 2 [0] m;simp only[↓aD,↓fB,acY,acX,aa];intro g8 u m;apply aU 8 [0] m;simp only[↓aD];refine cR O ?_ ?_<;>intro hc7
           ·
            have hend:=abR (l:=l) (want:=want) (Q:=Q) (D:=Dm) (.inr (hbest.resolve_right (fun h=>by rw[h.1] at hc7;cases hc7)).2);apply aK 5 [] m;simp only[↓aD];replace m:=m.nilO 55 6;apply aU 4 [0] m;simp only[↓aD];refine bH O O (ajF (q:=q62) _) ?_;rintro v u e_ ⟨g9,rfl,h_,k_⟩;replace m:=m.newB e_ h_ k_;simp only[zz];refine bH O O (abA _ ahn (My (m.p 9 O) hD62 (m.b 0 O)) (fun xs h=>by rw[h.length_eq,ct];exact av _) (by omega)) ?_;rintro v u e_ ⟨xs,ys,⟨A22,cap22,n22,hn22,rfl,h_⟩,hxs,hys,hso⟩;replace m:=m.newO e_ h_;obtain rfl:n22=Dm.length:=by rw[hn22,hxs.length_eq,ct]
            obtain rfl:ys=Ai (Dm.map (·.1)):=Se hnM (hys.trans hxs) hso;apply aL 4 [0] m;simp only[↓aD,kC];refine bX [20,138] [22,139,140,141,142,143,144,145,146,147,148,149,150] (fun n vs wl=>∃(k:Nat) (A20:Option Addr) (cap20:Nat),vs=[.slice A20 k cap20,.int .i64 (k:Int)]∧Mem w wl [oI 30 3 A22 Dm.length cap22 ((Ai (Dm.map (·.1))).flatMap bO),oI 55 6 A20 k cap20 (((mZ Dm).take k).flatMap cY),oI 39 9 A1 l.length cap1 (l.flatMap aN),mI q62 es62 c62]∧(k≤Dm.length)∧(n=Dm.length-k)) ?_ ?_
            ·
             exact⟨_,0,_,_,O,(m.sel [true,false,true,false,false,false,true,false,false,false,true,false,false]),bw _,O⟩
            · intro n vs wr hI u K5 hK5
              obtain⟨k,A20,cap20,rfl,m,hk,hn6⟩:=hI;simp only[zu,zF,zG];apply aK 5 [0,0] m;simp only[↓aD];refine bD O ?_ ?_<;>intro hc10
              ·
               obtain⟨k9,hk9,a9,hA9,hr9⟩:=((m.o 0 rfl).lat (enc:=bO) (fun _=>rfl) (by decide)).get (i:=k) (by omega);subst hA9;have hmv:=anB hk9;apply aK 5 [0] m;simp only[↓aD];refine aC (aF cN aA O O (by omega) (by omega) (bZ (ah _))) ?_;simp only[zz];refine aS O (show eR _ _ _ _ (pt k9) from hr9.lies aG aA) ?_;simp only[zz];apply jS 3 [0,0] m;simp only[↓aD,↓fB,eS,aQ,aa];intro g10 u m;refine mh m [true,true,false,true,true] [(0,true),(2,true),(1,true),(3,true),(4,false),(5,true),(6,false),(7,false),(8,true)] aB (by kernel_rfl) (bQ (fun _ _ _ _ _ h=>h)) (ol:=?_) ?hol ?_
               case hol=>simp only[zw,zQ,zR];try rfl
               intro u m;refine Hv 4 [0,0] ?_;simp only[↓aD,↓fB,aQ];refine bL (fO (eH (ek:=pt) (en:=pt) (k:=k9) (v0:=⟨0,0,0⟩) Pw iZ gC O O (m.p 4 O) hD62) ?_);simp only[zz];refine aM ⟨m.sel [true,true,false,true,true],?_⟩;refine aZ (Bp O O) (bL ?_);simp only[zz];refine Kl O ?_;intro u g11 e_ h_ k_;replace m:=m.newB e_ h_ k_;refine aM ⟨m.sel [false,true,true,false,true,true],?_⟩;refine bL ?_;simp only[zz];refine bM m 3 O O underlying46 ahw O (by decide) O O O (m.b 0 O).rowsO (fV O) (by omega) (by omega) ?_;intro A20 cap20 u m;simp only[zF,zG] at m;rw[show ((mZ Dm).take k).flatMap cY++_=((mZ Dm).take (k+1)).flatMap cY by rw[cH hmv,a_];rfl] at m;refine aM ⟨m.sel [false,true,true,false,true,true],?_⟩;refine aZ aO (bY ?_);apply aU 5 [0] m;simp only[↓aD];refine⟨by omega,?_⟩;exact hK5 (Dm.length-(k+1)) _ _ (by omega) (by kernel_rfl) ⟨k+1,_,_,O,(m.sel [false,false,true,true,true,true]),by omega,O⟩
              ·
               obtain rfl:k=Dm.length:=by omega
               rw[show (mZ Dm).take Dm.length=mZ Dm from ay (by rw[Dv];exact av _)] at m;apply aK 9 [] m;simp only[↓aD];exact uA O O O ⟨_,O,m.ext,_,_,_,_,_,_,O,by rw[tW hc0 (hS.trans hend)],by rw[tW hc0 (hS.trans hend)];exact (Dv _).symm,by rw[tW hc0 (hS.trans hend)];exact m.sel [false,true,true,false]⟩
           ·
            obtain⟨rfl,hbs,hbI⟩:=hbest.resolve_left (fun h=>by rw[h.1] at hc7;cases hc7);have hlu:((cL Dq c.u).getD q0).length=10:=by rw[hQ.get];exact hQ.len _
            have hbu:Gf (602+2*(eC ts).length-l.length) ((cL Dq c.u).getD q0):=by rw[hQ.get];exact hQ.bd _
            have hlv:((cL Dq c.v).getD q0).length=10:=by rw[hQ.get];exact hQ.len _
            have hbv:Gf (602+2*(eC ts).length-l.length) ((cL Dq c.v).getD q0):=by rw[hQ.get];exact hQ.bd _
            apply aK 8 [0,0,0] m;simp only[↓aD,↓fB,Cj,aQ,uV,aa];refine bH O O ((haveI:=hbI.1;haveI:=hbI.2;Gi (p:=c.u) (q:=c.v) _ ((m.o 3 rfl).tris hit) (by omega))) ?_;rintro v u e_ ⟨A21,cap21,n21,hn21,rfl,h_⟩;replace m:=m.newO e_ h_;subst hn21;refine aC aO ?_;simp only[zz];replace m:=(m.pull 0 O).mv 3 O;simp only[dW,dX,zF,zG] at m;apply aL 2 [0] m;simp only[↓aD];refine cU m 12 aB (by kernel_rfl) ?_;simp only[zy];refine dZ 6 [8,0,8,0] ?_;simp only[↓aD,↓fB,aer,uV,aQ,Cj,aa];refine kP (fun u m=>eH (ek:=pt) (en:=qV) (k:=c.u) (v0:=q0) Pv aeS gC O O (m.p 9 O) hD61) ?_;simp only[zz];refine dZ 3 [8,0] ?_;simp only[↓aD,↓fB,aer,uV,aQ,aa];refine kP (fun u m=>eH (ek:=pt) (en:=qV) (k:=c.v) (v0:=q0) Pv aeS gC O O (m.p 9 O) hD61) ?_;simp only[zz];refine fD O O (adu hlu hlv hbu hbv (by omega)) (bC ?_);intro u m;simp only[zz];refine nI (ek:=pt) (en:=qV) (a:=c.v) (v:=(Ei ((cL Dq c.u).getD q0) ((cL Dq c.v).getD q0))) m 9 O Pv gC O O O hD61 ?_;intro es61 c61 u m hD61;simp only[zF,zG] at m;rw[hQ.get,hQ.get] at hD61;refine aM ?_;apply aU 3 [5,0] m;simp only[↓aD,↓fB,Yr];refine aC fX ?_;simp only[zz,f_,bh,cq];replace m:=m.pull 0 O;simp only[dW,dX,zF,zG] at m;replace m:=m.pull 6 O;simp only[dW,dX,zF,zG] at m;replace m:=m.pack2;refine kJ O O (akq m hD60 hnC) ?_;rintro v u ⟨es60,Dc2,rfl,m,hD60,hnC2,hdel⟩;simp only[zz];replace m:=m.unpack2;apply aL 5 [0] m;simp only[↓aD];refine wE m Pw O (m.p 7 O) ?_;intro r3 u m;apply aL 2 [0] m;simp only[↓aD];refine bX [] [18,19,116,117,118,119,120,121,122,123,124,125,126,127,128] (fun n vs wl=>∃(dn rs:List Mv) (sn:Array Nat) (es62:Array ck),vs=[]∧Mem w wl [iI r3 q62 c62 sn,mI q60 es60 c60,bI g8 (sS c) 112,oI 39 9 A21 (oQ l c.u c.v).length cap21 ((oQ l c.u c.v).flatMap aN),bI g5 [.map (some q60)] 100,mI q62 es62 c62,bI g2 [.map (some q61)] 93,mI q61 es61 c61]∧(bT pt pt (Cx (dn.map (·.1)) c.u c.v Dm) es62 c62)∧(tC pt pt (Cx (dn.map (·.1)) c.u c.v Dm) es62 sn dn rs)∧(n=rs.length)) ?_ ?_
            ·
             exact⟨_,[],Dm,#[],_,O,(m.sel [true,true,true,false,false,true,false,true,true,true,true]),(by rw[cq,abP];exact hD62),(by rw[cq,abP];exact tC.start hD62),O⟩
            · intro n vs wr hI u K6 hK6
              obtain⟨dn,rs,sn,es62,rfl,m,hD62,hT5,hn5⟩:=hI;simp only[zu,zF,zG];apply aK 2 [0] m;simp only[↓aD];refine aki m 0 O O (m.p 5 O) hD62 hT5 ?_;intro bb kk vv sn u m hN;simp only[zF,zG] at m;refine aC (pX O) ?_;apply aL 2 [0] m;simp only[↓aD];refine cR O ?_ ?_<;>intro hc8
              ·
               obtain⟨kp,kb,rs2,hp2,hT6⟩:=akn hc8 hN;obtain⟨hnew,hmm⟩:=aku (by rw[Ec];exact hnM) hT6;apply aK 4 [0] m;simp only[↓aD];refine fO (abO O (m.r 0 O) (m.p 5 O) hD62 hT6) ?_;simp only[zz];apply jS 5 [1] m;simp only[↓aD,↓fB,eS,aQ,aa];intro g10 g11 u m;apply Nu 7 [0,0,4,0] m;simp only[↓aD,↓fB,aQ,Cj,aa];intro u m;refine aC (cB O O) ?_;apply aL 1 [0] m;simp only[↓aD];refine cR O ?_ ?_<;>intro hc9
               ·
                rw[agv,decide_eq_true_eq] at hc9;have hup:=akt hnM hmm hnew hc9;apply aK 5 [1,4,0] m;simp only[↓aD,↓fB,aQ,uV,aa];refine akk (ek:=pt) (ev:=pt) (a:=kp) (v:=c.v) m 7 O Pw gC O O O hD62 (by rw[Ec];exact hnM) hT6 ?_;intro es62 u m hD62 hT';simp only[zF,zG] at m;apply aL 2 [0] m;simp only[↓aD];rw[hup] at hD62 hT';exact hK6 rs2.length _ _ (by rw[hn5,hp2.length_eq];exact fc _) (by kernel_rfl) ⟨dn++[(kp,c.v)],rs2,_,_,O,(m.sel [false,false,true,true,true,true,true,true,true,true]),(by rw[cv];exact hD62),(by rw[cv];exact hT'),O⟩
               ·
                rw[agv,decide_eq_false_iff_not] at hc9;have hup:=agw (v:=c.v) hnM hmm hnew hc9;apply aK 2 [0] m;simp only[↓aD];have hT7:=hT6.stay;rw[hup] at hD62 hT7;exact hK6 rs2.length _ _ (by rw[hn5,hp2.length_eq];exact fc _) (by kernel_rfl) ⟨dn++[(kp,kb)],rs2,_,_,O,(m.sel [false,false,true,true,true,true,true,true,true,true]),(by rw[cv];exact hD62),(by rw[cv];exact hT7),O⟩
              ·
               obtain rfl:=akm hc8 hN;have hdn:=hT5.done;have hall:∀e∈Dm,e.1∈dn.map (·.1):=fun e he=>(hdn.map (·.1)).mem_iff.2 (by rw[Ec];exact fh he);apply aK 7 [2,2,0] m;simp only[↓aD,↓fB,Cj,aQ,uV,aa];refine nI (ek:=pt) (en:=pt) (a:=c.u) (v:=c.v) m 5 O Pw gC O O O hD62 ?_;intro es62 c62 u m hD62;simp only[zF,zG] at m;rw[aks hall] at hD62;apply aL 1 [] m;simp only[↓aD];replace m:=m.pull 3 O;simp only[dW,dX,zF,zG] at m;replace m:=m.pull 7 O;simp only[dW,dX,zF,zG] at m;replace m:=m.pull 7 O;simp only[dW,dX,zF,zG] at m;replace m:=m.pull 7 O;simp only[dW,dX,zF,zG] at m;replace m:=m.pull 5 O;simp only[dW,dX,zF,zG] at m;replace m:=m.pull 7 O;simp only[dW,dX,zF,zG] at m;apply aU 1 [0] m;simp only[↓aD];exact hK2 ((oQ l c.u c.v).length) _ _ (by have:=xD hbs;omega) (by kernel_rfl) ⟨(oQ l c.u c.v),(Ym Q c.u c.v),_,_,_,_,_,_,_,_,_,_,(toF Dm c.u c.v),rfl,(m.sel [true,true,true,true,true,true,false,false]),hD60,(hC.upd hdel),hnC2,hD61,hD62,((hQ.upd c.u c.v).mono (by have:=xD hbs;omega)),(xP (Od hbI.2 hit)),(ain l c.u c.v),(apM hnM _ _),(hS.trans (agx hw (by omega) hbs)),(by have:=xD hbs;have:=amN Dm c.u c.v;omega),rfl⟩
       ·
        have hend:=abR (l:=l) (want:=want) (Q:=Q) (D:=Dm) (.inl (by omega));apply aK 5 [] m;simp only[↓aD];replace m:=m.nilO 55 6;apply aU 4 [0] m;simp only[↓aD];refine bH O O (ajF (q:=q62) _) ?_;rintro v u e_ ⟨g6,rfl,h_,k_⟩;replace m:=m.newB e_ h_ k_;simp only[zz];refine bH O O (abA _ ahn (My (m.p 4 O) hD62 (m.b 0 O)) (fun xs h=>by rw[h.length_eq,ct];exact av _) (by omega)) ?_;rintro v u e_ ⟨xs,ys,⟨A22,cap22,n22,hn22,rfl,h_⟩,hxs,hys,hso⟩;replace m:=m.newO e_ h_;obtain rfl:n22=Dm.length:=by rw[hn22,hxs.length_eq,ct]
        obtain rfl:ys=Ai (Dm.map (·.1)):=Se hnM (hys.trans hxs) hso;apply aL 4 [0] m;simp only[↓aD,kC];refine bX [20,138] [22,139,140,141,142,143,144,145,146,147,148,149,150] (fun n vs wl=>∃(k:Nat) (A20:Option Addr) (cap20:Nat),vs=[.slice A20 k cap20,.int .i64 (k:Int)]∧Mem w wl [oI 30 3 A22 Dm.length cap22 ((Ai (Dm.map (·.1))).flatMap bO),oI 55 6 A20 k cap20 (((mZ Dm).take k).flatMap cY),mI q62 es62 c62,oI 39 9 A1 l.length cap1 (l.flatMap aN)]∧(k≤Dm.length)∧(n=Dm.length-k)) ?_ ?_
        ·
         exact⟨_,0,_,_,O,(m.sel [true,false,true,false,false,true,false,false,true]),bw _,O⟩
        · intro n vs wr hI u K7 hK7
          obtain⟨k,A20,cap20,rfl,m,hk,hn6⟩:=hI;simp only[zu,zF,zG];apply aK 5 [0,0] m;simp only[↓aD];refine bD O ?_ ?_<;>intro hc10
          ·
           obtain⟨k9,hk9,a9,hA9,hr9⟩:=((m.o 0 rfl).lat (enc:=bO) (fun _=>rfl) (by decide)).get (i:=k) (by omega);subst hA9;have hmv:=anB hk9;apply aK 5 [0] m;simp only[↓aD];refine aC (aF cN aA O O (by omega) (by omega) (bZ (ah _))) ?_;simp only[zz];refine aS O (show eR _ _ _ _ (pt k9) from hr9.lies aG aA) ?_;simp only[zz];apply jS 3 [0,0] m;simp only[↓aD,↓fB,eS,aQ,aa];intro g7 u m;refine mh m [true,true,false,true,true] [(0,true),(2,true),(1,true),(3,true),(4,false),(5,true),(6,false),(7,false),(8,true)] aB (by kernel_rfl) (bQ (fun _ _ _ _ _ h=>h)) (ol:=?_) ?hol ?_
           case hol=>simp only[zw,zQ,zR];try rfl
           intro u m;refine Hv 4 [0,0] ?_;simp only[↓aD,↓fB,aQ];refine bL (fO (eH (ek:=pt) (en:=pt) (k:=k9) (v0:=⟨0,0,0⟩) Pw iZ gC O O (m.p 3 O) hD62) ?_);simp only[zz];refine aM ⟨m.sel [true,true,false,true,true],?_⟩;refine aZ (Bp O O) (bL ?_);simp only[zz];refine Kl O ?_;intro u g8 e_ h_ k_;replace m:=m.newB e_ h_ k_;refine aM ⟨m.sel [false,true,true,false,true,true],?_⟩;refine bL ?_;simp only[zz];refine bM m 3 O O underlying46 ahw O (by decide) O O O (m.b 0 O).rowsO (fV O) (by omega) (by omega) ?_;intro A20 cap20 u m;simp only[zF,zG] at m;rw[show ((mZ Dm).take k).flatMap cY++_=((mZ Dm).take (k+1)).flatMap cY by rw[cH hmv,a_];rfl] at m;refine aM ⟨m.sel [false,true,true,false,true,true],?_⟩;refine aZ aO (bY ?_);apply aU 5 [0] m;simp only[↓aD];refine⟨by omega,?_⟩;exact hK7 (Dm.length-(k+1)) _ _ (by omega) (by kernel_rfl) ⟨k+1,_,_,O,(m.sel [false,false,true,true,true,true]),by omega,O⟩
          ·
           obtain rfl:k=Dm.length:=by omega
           rw[show (mZ Dm).take Dm.length=mZ Dm from ay (by rw[Dv];exact av _)] at m;apply aK 9 [] m;simp only[↓aD];exact uA O O O ⟨_,O,m.ext,_,_,_,_,_,_,O,by rw[tW hc0 (hS.trans hend)],by rw[tW hc0 (hS.trans hend)];exact (Dv _).symm,by rw[tW hc0 (hS.trans hend)];exact m.sel [false,true,false,true]⟩
theorem adH{x:Int}(h:rT x):∃r,Int.fdiv x (2^min (Int.toNat 10) IntKind.i64.bits)=r∧rT r:=by
 refine⟨_,O,?_⟩;rw[show (2:Int)^min (Int.toNat 10) IntKind.i64.bits=1024 from rfl,Int.fdiv_eq_ediv_of_nonneg _ (by decide)];unfold rT at h ⊢;omega
theorem amO{x y z:Int}(h:∀t∈ts,IT t)(ht:ts[k]? = some t)(hx:rT x)(hy:rT y)(hz:rT z):∀u∈ts.set k (t.setC c ⟨x,y,z⟩),IT u:=fun u hu=>(List.mem_or_eq_of_mem_set hu).elim (h u) fun e=>by
 obtain⟨ha,hb,hc⟩:=h t (be ht);subst e;unfold T3.setC;split
 · exact⟨⟨hx,hy,hz⟩,hb,hc⟩
 · split
   · exact⟨ha,⟨hx,hy,hz⟩,hc⟩
   · exact⟨ha,hb,⟨hx,hy,hz⟩⟩
theorem akv(h:IT t)  : rT (t.cor c).x∧rT (t.cor c).y∧rT (t.cor c).z:=by
 obtain⟨⟨a1,a2,a3⟩,⟨b1,b2,b3⟩,⟨c1,c2,c3⟩⟩:=h;unfold T3.cor;split
 · exact⟨a1,a2,a3⟩
 · split
   · exact⟨b1,b2,b3⟩
   · exact⟨c1,c2,c3⟩
theorem akw{g o:Nat}:(⟨g,o,none⟩:Addr).add ((k:Int).toNat*c)=⟨g,o+k*c,none⟩:=by rw[ah];exact eL ..
theorem Gv{g:Nat}:(⟨g,0,none⟩:Addr).add ((k:Int).toNat*c)=⟨g,k*c,none⟩:=by rw[akw,aq]
theorem amP{w0 w:aj}{S:List (Option Nat)}{E:az}{n:Nat}(h:Ow w0 w S E 9 A n cap (ts.flatMap aN))(hk:k<n)(hc:c<3):∃g t,A=some ⟨g,0,none⟩∧ts[k]? = some t∧mD w ⟨g,k*9+c*3,none⟩ [.int .i64 (t.cor c).x,.int .i64 (t.cor c).y,.int .i64 (t.cor c).z]:=by
 obtain⟨g,rfl⟩:=h.some (by omega);obtain⟨t,ht,a,e,hr⟩:=(h.lat (enc:=aN) ala (by decide)).get hk;cases e;have:=hr.cor hc;rw[eL,eL,aq] at this;exact⟨g,t,O,ht,this⟩
theorem abS{ci:Nat}{ins:List Bool}(w:aj)(hF:sU Wd 1 w A 125 ins):dA prog 83 [.agg #[.int .i64 2,.slice A 125 ci]] w (fun v w'=>∃ts:List T3,(ts.length≤1536∧∀t∈ts,IT t)∧SL 39 9 (ts.flatMap aN) ts.length w v w'):=by
 refine⟨bJ func83 (by kernel_rfl),?_⟩;have m:=Mem.refl w
 go_enter func83,ntmps83
 apply iY 8 [0,0] m;simp only[↓aD,acZ];intro g1 u m;refine cQ m O O (afU _ (hF.ext m.ext)) ?_;rintro v u m ⟨c,rfl⟩;apply aL 8 [0] m;simp only[↓aD];refine gE O ?_ ?_<;>intro hc1
 ·
  apply aK 5 [] m;simp only[↓aD];exact aT O O ⟨_,O,m.ext,[],⟨by simp,by simp⟩,none,0,0,O,O,Ow.nil _ _ _ _⟩
 ·
  apply aK 5 [0,0] m;simp only[↓aD,Ck,dC,aa];refine aC (qN O O (by omega) Rs) ?_;apply aL 4 [0] m;simp only[↓aD];refine aC aO ?_;replace m:=m.nilO 39 9;apply aL 7 [0] m;simp only[↓aD];refine bX [5,6] [7,8,16,17,18,19,20,21,22,23,24,25,26,27,28,29,30,31,32,33,34,35,36,37,38] (fun n vs wl=>∃(z:Nat) (n5:Nat) (ts:List T3) (A5:Option Addr) (cap5:Nat),vs=[.slice A5 n5 cap5,.int .i64 (z:Int)]∧Mem w wl [oI 39 9 A5 n5 cap5 (ts.flatMap aN),bI g1 [.int .i64 2,.slice A 125 ci] 139]∧(ts.length=n5)∧(∀t∈ts,SmT t)∧(n5≤384*z)∧(z≤4)∧(n=4-z)) ?_ ?_
  ·
   exact⟨_,0,0,[],none,0,O,m,O,by simp,by omega,by omega,O⟩
  · intro n vs wr hI u K1 hK1
    obtain⟨z,n5,ts,A5,cap5,rfl,m,hlt,hts,hb,hz,hnz⟩:=hI;simp only[zu,zF,zG];apply aK 7 [0,0] m;simp only[↓aD];refine bD O ?_ ?_<;>intro hc2
    ·
     apply aK 8 [0] m;simp only[↓aD];refine bX [5,7] [8,21,22,23,24,25,26,27,28,29,30,31,32,33,34,35,36,37,38] (fun n vs wl=>∃(y:Nat) (n5:Nat) (ts:List T3) (A5:Option Addr) (cap5:Nat),vs=[.slice A5 n5 cap5,.int .i64 (y:Int)]∧Mem w wl [oI 39 9 A5 n5 cap5 (ts.flatMap aN),bI g1 [.int .i64 2,.slice A 125 ci] 139]∧(ts.length=n5)∧(∀t∈ts,SmT t)∧(n5≤384*z+96*y)∧(y≤4)∧(n=4-y)) ?_ ?_
     ·
      exact⟨_,0,_,_,_,_,O,m,hlt,hts,by omega,by omega,O⟩
     · intro n vs wr hI u K2 hK2
       obtain⟨y,n5,ts,A5,cap5,rfl,m,hlt,hts,hb,hy,hny⟩:=hI;simp only[zu,zF,zG];apply aK 7 [0,0] m;simp only[↓aD];refine bD O ?_ ?_<;>intro hc3
       ·
        apply aK 8 [0] m;simp only[↓aD];refine bX [5,8] [26,27,28,29,30,31,32,33,34,35,36,37,38] (fun n vs wl=>∃(x:Nat) (n5:Nat) (ts:List T3) (A5:Option Addr) (cap5:Nat),vs=[.slice A5 n5 cap5,.int .i64 (x:Int)]∧Mem w wl [oI 39 9 A5 n5 cap5 (ts.flatMap aN),bI g1 [.int .i64 2,.slice A 125 ci] 139]∧(ts.length=n5)∧(∀t∈ts,SmT t)∧(n5≤384*z+96*y+24*x)∧(x≤4)∧(n=4-x)) ?_ ?_
        ·
         exact⟨_,0,_,_,_,_,O,m,hlt,hts,by omega,by omega,O⟩
        · intro n vs wr hI u K3 hK3
          obtain⟨x,n5,ts,A5,cap5,rfl,m,hlt,hts,hb,hx,hnx⟩:=hI;simp only[zu,zF,zG];apply aK 7 [0,0] m;simp only[↓aD];refine bD O ?_ ?_<;>intro hc4
          ·
           apply aK 10 [1,0] m;simp only[↓aD,acZ,sY,aa];refine bH O O (al7 (cx:=x) (cy:=y) (cz:=z) _ (hF.ext m.ext) (by omega) (by omega) (by omega)) ?_;rintro v u e_ ⟨us,hus,A7,cap7,n7,hn7,rfl,h_⟩;replace m:=m.newO e_ h_;simp only[zz];refine bM m 1 O O cD jK O (by decide) O O (m.o 0 O).own.1 (m.o 0 O).row (wS _) (by omega) (by omega) ?_;intro A5 cap5 u m;simp only[zF,zG] at m;rw[←a_] at m;apply aL 8 [0] m;simp only[↓aD];refine⟨by omega,?_⟩;exact hK3 (4-(x+1)) _ _ (by omega) (by kernel_rfl) ⟨x+1,_,_,_,_,O,(m.sel [false,true,true]),by rw[au];omega,fun t ht=>(bi.1 ht).elim (hts t) (hus.2 t),by omega,by omega,rfl⟩
          ·
           apply aK 7 [0] m;simp only[↓aD];refine⟨by omega,?_⟩;exact hK2 (4-(y+1)) _ _ (by omega) (by kernel_rfl) ⟨y+1,_,_,_,_,O,m,hlt,hts,by omega,by omega,O⟩
       ·
        apply aK 7 [0] m;simp only[↓aD];refine⟨by omega,?_⟩;exact hK1 (4-(z+1)) _ _ (by omega) (by kernel_rfl) ⟨z+1,_,_,_,_,O,m,hlt,hts,by omega,by omega,O⟩
    ·
     apply aK 4 [0] m;simp only[↓aD];refine bH O O (Iq (ts:=ts) _ ((m.o 0 O).tris (ank hts)) (by omega)) ?_;rintro v u e_ ⟨A8,cap8,n8,hn8,rfl,h_⟩;replace m:=m.newO e_ h_;apply aL 3 [] m;simp only[↓aD];exact aT O O ⟨_,O,m.ext,eC ts,⟨by rw[rF];omega,xP (ank hts)⟩,_,_,_,by rw[rF];omega,rfl,(m.o 0 rfl)⟩
theorem aab{zs:List Int}(w:aj)(hL:sU al8 1 w A N zs)(hI:∀z∈zs,rT z):dA prog 39 [.slice A N cap] w (fun v w'=>∃ts:List T3,(ts.length≤1536∧∀t∈ts,IT t)∧SL 39 9 (ts.flatMap aN) ts.length w v w'):=by
 refine⟨bJ func39 (by kernel_rfl),?_⟩;have m:=Mem.refl w
 go_enter func39,ntmps39
 apply fI 7 [0] m;simp only[↓aD];refine bH O O (afW _ (hL.ext m.ext) hI) ?_;rintro v u e_ ⟨Af,cf,ins,rfl,hF⟩;replace m:=m.ext' e_;simp only[zz];refine bH O O (abS _ hF) ?_;rintro v u e_ ⟨ts,⟨hl0,hit⟩,A3,cap3,n3,hlt,rfl,h_⟩;replace m:=m.newO e_ h_;clear hF;replace hlt:=hlt.symm;apply aL 8 [0] m;simp only[↓aD];refine bX [4] [5,6,10,11,12,13,14,15,16,17,18,19,20,21,22,23,24,25,26,27,28,29,30,31,32,33,34,35,36,37,38,39,40] (fun n vs wl=>∃(k:Nat) (ts:List T3),vs=[.int .i64 (k:Int)]∧Mem w wl [oI 39 9 A3 n3 cap3 (ts.flatMap aN)]∧(ts.length=n3)∧(ts.length≤1536)∧(∀t∈ts,IT t)∧(k≤n3)∧(n=n3-k)) ?_ ?_
 ·
  exact⟨_,0,_,O,m,hlt,hl0,hit,by omega,O⟩
 · intro n vs wr hI u K1 hK1
   obtain⟨k,ts,rfl,m,hlt,hl0,hit,hk,hn⟩:=hI;simp only[zu,zF,zG];apply aK 8 [0,0] m;simp only[↓aD,iM];refine bD O ?_ ?_<;>intro hc1
   ·
    apply aK 8 [0] m;simp only[↓aD];refine bX [5] [6,16,17,18,19,20,21,22,23,24,25,26,27,28,29,30,31,32,33,34,35,36,37,38,39,40] (fun n vs wl=>∃(j:Nat) (ts:List T3),vs=[.int .i64 (j:Int)]∧Mem w wl [oI 39 9 A3 n3 cap3 (ts.flatMap aN)]∧(ts.length=n3)∧(ts.length≤1536)∧(∀t∈ts,IT t)∧(j≤3)∧(n=3-j)) ?_ ?_
    ·
     exact⟨_,0,_,O,m,hlt,hl0,hit,by omega,O⟩
    · intro n vs wr hI u K2 hK2
      obtain⟨j,ts,rfl,m,hlt,hl0,hit,hj,hn2⟩:=hI;simp only[zu,zF,zG];apply aK 6 [0,0] m;simp only[↓aD];refine bD O ?_ ?_<;>intro hc2
      ·
       apply aK 4 [] m;simp only[↓aD];obtain⟨g,t,rfl,ht,hrt⟩:=amP (c:=j) (m.o 0 rfl) (show k<n3 by omega) (by omega);apply aU 4 [0] m;simp only[↓aD];refine aC (aF cD aP O O (by omega) (by omega) Gv) ?_;simp only[zz];refine aC (aJ cF aA O O (by omega) (by omega) akw) ?_;simp only[zz];refine aS O (show eR _ _ _ _ (pt (t.cor j)) from hrt.lies aG aA) ?_;simp only[zz];apply jS 3 [0] m;simp only[↓aD,eS,aQ,aa];intro g1 u m;obtain⟨htx,hty,htz⟩:=akv (hit t (be ht)) (c:=j);obtain⟨x1,hx1,hx2⟩:=adH htx;obtain⟨y1,hy1,hy2⟩:=adH hty;obtain⟨z1,hz1,hz2⟩:=adH htz;refine gc (cU m 15 aB (by kernel_rfl) ?_);simp only[zy];refine dZ 5 [0] ?_;simp only[↓aD,gD,dC,aa];refine aI (lF O O (by omega) hx1) (dZ 2 [0] ?_);simp only[↓aD,iH,dC,aa];refine aI (lF O O (by omega) hy1) (dZ 2 [0] ?_);simp only[↓aD,jA,dC,aa];refine aI (lF O O (by omega) hz1) (aI (wX O O O) ?_);simp only[zz];refine aI (aF cD aP O O (by omega) (by omega) Gv) ?_;simp only[zz];refine aI (aJ cF aA O O (by omega) (by omega) akw) (bC ?_);intro u m;simp only[zz];refine ak5 (off:=(k*9+j*3)) m 1 O O O aA (by simp;omega) rfl ?_;intro u m;simp only[zF,zG] at m;rw[show over (ts.flatMap aN) (k*9+j*3) _=(ts.set k (t.setC j ⟨x1,y1,z1⟩)).flatMap aN from ahg (p:=⟨x1,y1,z1⟩) ht (by omega)] at m;refine aM ?_;apply aU 6 [0] m;simp only[↓aD];refine⟨by omega,?_⟩;exact hK2 (3-(j+1)) _ _ (by omega) (by kernel_rfl) ⟨j+1,_,O,(m.sel [false,true]),by rw[et];exact hlt,by rw[et];exact hl0,amO hit ht hx2 hy2 hz2,by omega,O⟩
      ·
       apply aK 7 [0] m;simp only[↓aD];refine⟨by omega,?_⟩;exact hK1 (n3-(k+1)) _ _ (by omega) (by kernel_rfl) ⟨k+1,_,O,m,hlt,hl0,hit,by omega,O⟩
   ·
    apply aK 4 [0] m;simp only[↓aD];refine bH O O (Iq (ts:=ts) _ ((m.o 0 O).tris hit) (by omega)) ?_;rintro v u e_ ⟨A8,cap8,n8,hn8,rfl,h_⟩;replace m:=m.newO e_ h_;apply aL 3 [] m;simp only[↓aD];exact aT O O ⟨_,O,m.ext,eC ts,⟨by rw[rF];omega,xP hit⟩,_,_,_,by rw[rF];omega,rfl,(m.o 0 rfl)⟩
theorem adI{a:Nat}(w:aj)(hT:bU w A N ts)(hNl:N≤1536)(ha:a<3):dA prog 96 [.slice A N cap,.int .i64 (a:Int),.int .i64 at0] w (fun v w'=>∃us:List T3,(us.length≤N∧∀t∈us,IT t)∧SL 39 9 (us.flatMap aN) us.length w v w'):=by
 refine⟨bJ func96 (by kernel_rfl),?_⟩;have m:=Mem.refl w;have htl:=hT.len
 go_enter func96,ntmps96
 apply fI 6 [0] m;simp only[↓aD];refine aC aO ?_;replace m:=m.nilO 39 9;apply aL 7 [0] m;simp only[↓aD];refine bX [7,8] [9,10,11,12,13,14,15,16,17,18,19,20,21,22,23,24,25,26,27,28,29,30,31,32,33,34,35,36,37,38,39,40,41,42,43,44,45,46,47,48,49,50,51] (fun n vs wl=>∃(k n7:Nat) (us:List T3) (A7:Option Addr) (cap7:Nat),vs=[.slice A7 n7 cap7,.int .i64 (k:Int)]∧Mem w wl [oI 39 9 A7 n7 cap7 (us.flatMap aN)]∧(us.length=n7)∧(∀t∈us,IT t)∧(n7≤k)∧(k≤N)∧(n=N-k)) ?_ ?_
 ·
  exact⟨_,0,0,[],none,0,O,m,O,by simp,by omega,by omega,O⟩
 · intro n vs wr hI u K1 hK1
   obtain⟨k,n7,us,A7,cap7,rfl,m,hul,hui,hb,hk,hn⟩:=hI;simp only[zu,zF,zG];apply aK 8 [0,0] m;simp only[↓aD,iM];refine bD O ?_ ?_<;>intro hc1
   ·
    obtain⟨t,ht,hit,a0,hA,hrow⟩:=hT.get (i:=k) (by omega);subst hA;apply aK 13 [0] m;simp only[↓aD];refine bX [9,10] [11,12,19,20,21,22,23,24,25,26,27,28,29,30,31,32,33,34,35,36,37,38,39,40,41,42] (fun n vs wl=>∃(j c:Nat),vs=[.int .i64 (c:Int),.int .i64 (j:Int)]∧Mem w wl [oI 39 9 A7 n7 cap7 (us.flatMap aN)]∧(c≤j)∧(j≤3)∧(n=3-j)) ?_ ?_
    ·
     exact⟨_,0,0,O,m,by omega,by omega,O⟩
    · intro n vs wr hI u K2 hK2
      obtain⟨j,c,rfl,m,hc,hj,hn2⟩:=hI;simp only[zu,zF,zG];apply aK 6 [0,0] m;simp only[↓aD];refine bD O ?_ ?_<;>intro hc2
      ·
       apply aK 8 [0] m;simp only[↓aD];refine aC (aF cD aP O O (by omega) (by omega) (bZ (ah _))) ?_;simp only[zz];refine aC (aJ cF aA O O (by omega) (by omega) (bZ (ah _))) ?_;simp only[zz];refine aS O (show eR _ _ _ _ (pt (t.cor j)) from ((hrow.ext m.ext).cor (show j<3 by omega)).lies aG aA) ?_;simp only[zz];apply jS 17 [0,0,0,0,0] m;simp only[↓aD,eS,aQ,gD,dC,iH,jA,sY,xE,uU,aa];intro g1 g2 u m;apply aU 1 [0] m;simp only[↓aD];refine aC (aJ qO aV O O (by omega) (by omega) (fK (ah _))) ?_;simp only[zz];refine aS O (ani (m.b 0 O) (show a<3 by omega)) ?_;simp only[zz];apply aL 3 [0,0] m;simp only[↓aD];refine Qg m [9] [41,42] (fun vs=>∃(c:Nat),vs=[.int .i64 (c:Int)]∧(c≤j+1)) ?_ ?_
       · intro K3 hK3
         refine bD O ?_ ?_<;>intro hc3
         ·
          apply aK 5 [0] m;simp only[↓aD];refine⟨by omega,?_⟩;exact hK3 _ _ (by kernel_rfl) m ⟨c+1,O,by omega⟩
         ·
          apply aK 1 [0] m;simp only[↓aD];exact hK3 _ _ (by kernel_rfl) m ⟨c,O,by omega⟩
       · intro vs wr m hI u
         obtain⟨c,rfl,hc⟩:=hI;simp only[zu,zF,zG];apply aU 6 [0] m;simp only[↓aD];refine⟨by omega,?_⟩;exact hK2 (3-(j+1)) _ _ (by omega) (by kernel_rfl) ⟨j+1,_,O,(m.sel [false,false,true]),by omega,by omega,O⟩
      ·
       apply aK 6 [0,0] m;simp only[↓aD];refine bD O ?_ ?_<;>intro hc4
       ·
        apply aK 4 [0] m;simp only[↓aD];refine aC (aF cD aP O O (by omega) (by omega) (bZ (ah _))) ?_;simp only[zz];refine aS O (show eR _ _ _ _ (tr t) from (hrow.ext m.ext).lies cA aP) ?_;simp only[zz];refine eZ O ?_;intro u g1 e_ h_ k_;replace m:=m.newB e_ h_ k_;simp only[zz];refine bM m 1 O O cD jK O (by decide) O O O (m.b 0 O).rowsO (fV O) (by omega) (by omega) ?_;intro A7 cap7 u m;simp only[zF,zG] at m;rw[show us.flatMap aN++_=(us++[t]).flatMap aN by rw[a_];rfl] at m;apply aL 8 [0] m;simp only[↓aD];refine⟨by omega,?_⟩;exact hK1 (N-(k+1)) _ _ (by omega) (by kernel_rfl) ⟨k+1,_,_,_,_,O,(m.sel [false,true]),by rw[au,hul];rfl,fun u hu=>(bi.1 hu).elim (hui u) fun h=>by cases bf.1 h;exact hit,by omega,by omega,O⟩
       ·
        apply aK 7 [0] m;simp only[↓aD];refine⟨by omega,?_⟩;exact hK1 (N-(k+1)) _ _ (by omega) (by kernel_rfl) ⟨k+1,_,_,_,_,O,m,hul,hui,by omega,by omega,O⟩
   ·
    apply aK 7 [] m;simp only[↓aD];exact aT O O ⟨_,O,m.ext,us,⟨by omega,hui⟩,_,_,_,hul.symm,O,(m.o 0 O)⟩
theorem akx(w:aj)(hT:bU w A N ts)(hNl:N≤1536)(hax:0≤ax∧ax<256)(hat:0≤at0∧at0<65536):dA prog 48 [.slice A N cap,.int .u8 ax,.int .u16 at0] w (fun v w'=>∃(us:List T3) (A':Option Addr) (n' c':Nat),v=.slice A' n' c'∧bU w' A' n' us∧n'≤N):=by
 refine⟨bJ func48 (by kernel_rfl),?_⟩;have m:=Mem.refl w;have e1:ax.tmod 4=ax%4:=jk hax.1;have e2:at0.tmod 1500=at0%1500:=jk hat.1
 go_enter func48,ntmps48
 apply fI 8 [0] m;simp only[↓aD];refine aC (cP O O (by omega) e1) ?_;apply aL 2 [0,0] m;simp only[↓aD];refine bD O ?_ ?_<;>intro hc1
 ·
  apply aK 6 [] m;simp only[↓aD];exact aT O O ⟨_,O,m.ext,ts,_,_,_,O,hT.ext m.ext,av _⟩
 ·
  obtain⟨a,ha,ha3⟩:∃a:Nat,ax%4=(a:Int)∧a<3:=⟨(ax%4).toNat,by omega,by omega⟩
  apply aK 5 [0] m;simp only[↓aD];refine aC (cP O O (by omega) (e1.trans ha)) ?_;apply aL 2 [0] m;simp only[↓aD,yO,Il];refine⟨by omega,?_⟩;refine aC (cP O O (by omega) e2) ?_;apply aL 2 [0] m;simp only[↓aD,aiv,Il];refine⟨by omega,?_⟩;refine bH O O (adI _ (hT.ext m.ext) hNl ha3) ?_;rintro v u e_ ⟨us,⟨hl,hui⟩,A9,cap9,n9,hn9,rfl,h_⟩;replace m:=m.newO e_ h_;apply aL 3 [] m;simp only[↓aD];exact aT O O ⟨_,O,m.ext,us,_,_,_,O,(m.o 0 O).tris hui,by omega⟩
theorem agz{zs:List Int}(w:aj)(hL:sU al8 1 w A N zs)(hcp:N≤cap)(hI:∀z∈zs,rT z)(hax:0≤ax∧ax<256)(hat:0≤at0∧at0<65536):dA prog 15 [.slice A N cap,.int .u8 ax,.int .u16 at0] w (fun v w'=>∃(us:List T3) (A':Option Addr) (n' c':Nat),v=.slice A' n' c'∧bU w' A' n' us∧n'≤1536):=by
 refine⟨bJ func15 (by kernel_rfl),?_⟩;have m:=Mem.refl w;have hl:=hL.len;obtain⟨M,hM⟩:∃M,M=min 4 N:=⟨_,rfl⟩
 go_enter func15,ntmps15
 apply fI 10 [] m;simp only[↓aD,lA];rw[show (if (4:Int)<(N:Int) then (4:Int) else (N:Int))=(M:Int) by split <;> omega];refine go (aC (nG dN aV O O (ah _) (by omega) (by omega)) ?_);simp only[zz];refine bH O O (aab _ ((hL.ext m.ext).take (show M≤N by omega)) (fun z hz=>hI z (List.mem_of_mem_take hz))) ?_;rintro v u e_ ⟨ts,⟨hl0,hit⟩,A8,cap8,n8,hn8,rfl,h_⟩;replace m:=m.newO e_ h_;apply aL 2 [0] m;simp only[↓aD];refine bH O O (akx (ts:=ts) _ ((m.o 0 O).tris hit) (by omega) hax hat) ?_;rintro v u e_ ⟨us,A9,n9,c9,rfl,hT9,hn9⟩;replace m:=m.ext' e_;apply aL 3 [] m;simp only[↓aD];exact aT O O ⟨_,O,m.ext,us,_,_,_,O,hT9,by omega⟩
end Go.Proofs.YtfekpcimgncioaaGreatDoor
namespace Go.Proofs.YtfekpcimgncioaaGreatDoor
open Go.Proofs.Tryz
open Go.RowKit Go.Lith
set_option maxRecDepth 100000
attribute [local irreducible] ar cl fU bS cO Code.wp
end Go.Proofs.YtfekpcimgncioaaGreatDoor
namespace Go.Proofs.YtfekpcimgncioaaGreatDoor
open Go.Proofs.Tryz
open Go.RowKit Go.Lith
set_option maxRecDepth 100000
attribute [local irreducible] ar cl fU bS cO Code.wp
attribute [local congr] pD gF gG gH gI gJ kL gK gL gM gN gQ gR gS gT gU gV gW eU eV gX gY iA iB iC kN dF dG cW dD gZ kM eW eX eY iD iE kO
variable{q u a c d:P3}{t:T3}{x y:Int}
theorem vB{p:P3}[I3 p][I3 q]:dS prog 214 [pt p,pt q] (wv (q.sub p)):=by
 intro w;refine⟨bJ func214 (by kernel_rfl),?_⟩;have m:=Mem.refl w
 go_enter func214,ntmps214
 apply iY 7 [0] m;simp only[↓aD,Rn];intro g1 g2 g3 u m;refine eN 8 [0,1,2,3,4,5,6] [⟨7,5,95,[.bool false,.string ⟨#[]⟩]⟩] aB (by kernel_rfl) (al1 ⟨_,_,_,O,by kernel_rfl,_,yF,O⟩) (ol:=?_) ?hol ?_
 case hol=>simp only[zw,zQ,zR];try rfl
 intro u e_;replace m:=m.ext' e_;refine jH (aW (c:=0) fT O aV O O) ?_;simp only[zz];refine eK O (fun u e=>(((m.ext' e).b 1 O).lies1 bF O)) ?_;simp only[zz];refine eT O O (Dz Iw.h) (jH (aW (c:=0) fT O aV O O) ?_);simp only[zz];refine eK O (fun u e=>(((m.ext' e).b 2 O).lies1 bF O)) ?_;simp only[zz];refine eT O O (Dz Iw.h) ?_;simp only[zz];refine eT O O (Zh Bw.up Bw.up) (Ae ?_);simp only[zz];refine mf1 m ?_;intro g4 u m;simp only[zJ,zK,zF,zG];refine bN m 0 O O O aR (iK O) O ?_;intro u m;simp only[zy,zx,over,zF,zG,aa] at m;refine aM ?_;apply aU 1 [0] m;simp only[↓aD];refine eN 8 [0,1,2,3,4,5,6] [⟨7,6,95,[.bool false,.string ⟨#[]⟩]⟩] aB (by kernel_rfl) (al1 ⟨_,_,_,O,by kernel_rfl,_,yF,O⟩) (ol:=?_) ?hol ?_
 case hol=>simp only[zw,zQ,zR];try rfl
 intro u e_;replace m:=m.ext' e_;refine jH (aW (c:=0) fT O aV O O) ?_;simp only[zz];refine eK O (fun u e=>(((m.ext' e).b 2 O).lies1 bF O)) ?_;simp only[zz];refine eT O O (Dz Iw.h) (jH (aW (c:=0) fT O aV O O) ?_);simp only[zz];refine eK O (fun u e=>(((m.ext' e).b 3 O).lies1 bF O)) ?_;simp only[zz];refine eT O O (Dz Iw.h) ?_;simp only[zz];refine eT O O (Zh Bw.up Bw.up) (Ae ?_);simp only[zz];refine mf1 m ?_;intro g5 u m;simp only[zJ,zK,zF,zG];refine bN m 0 O O O aR (iK O) O ?_;intro u m;simp only[zy,zx,over,zF,zG,aa] at m;refine aM ?_;apply aU 1 [0] m;simp only[↓aD];refine eN 8 [0,1,2,3,4,5,6] [⟨7,7,95,[.bool false,.string ⟨#[]⟩]⟩] aB (by kernel_rfl) (al1 ⟨_,_,_,O,by kernel_rfl,_,yF,O⟩) (ol:=?_) ?hol ?_
 case hol=>simp only[zw,zQ,zR];try rfl
 intro u e_;replace m:=m.ext' e_;refine jH (aW (c:=0) fT O aV O O) ?_;simp only[zz];refine eK O (fun u e=>(((m.ext' e).b 3 O).lies1 bF O)) ?_;simp only[zz];refine eT O O (Dz Iw.h) (jH (aW (c:=0) fT O aV O O) ?_);simp only[zz];refine eK O (fun u e=>(((m.ext' e).b 4 O).lies1 bF O)) ?_;simp only[zz];refine eT O O (Dz Iw.h) ?_;simp only[zz];refine eT O O (Zh Bw.up Bw.up) (Ae ?_);simp only[zz];refine mf1 m ?_;intro g6 u m;simp only[zJ,zK,zF,zG];refine bN m 0 O O O aR (iK O) O ?_;intro u m;simp only[zy,zx,over,zF,zG,aa] at m;refine aM ?_;apply Nu 9 [2,1,0,3] m;simp only[↓aD,fL,aoJ,aiF,aa];intro u m;exact aT O ⟨_,O,((m.b 3 O).full Ns oW)⟩ ⟨_,O,m.ext,O⟩
theorem Sv{v:P3}(hu:Bv 400000 u)(hv:Bv 400000 v):dS prog 212 [wv u,wv v] (W (u.dot v)):=by
 intro w;refine⟨bJ func212 (by kernel_rfl),?_⟩;have m:=Mem.refl w
 go_enter func212,ntmps212
 apply iY 7 [0] m;simp only[↓aD,nA];intro g1 g2 g3 u m;refine eN 12 [0,1,2,3,4,5,6,7,8,9,10] [⟨11,5,95,[.bool false,.string ⟨#[]⟩]⟩] aB (by kernel_rfl) (al1 ⟨_,_,_,O,by kernel_rfl,_,yF,O⟩) (ol:=?_) ?hol ?_
 case hol=>simp only[zw,zQ,zR];try rfl
 intro u e_;replace m:=m.ext' e_;refine jH (aJ Kg aR O O (by decide) (by decide) O) ?_;simp only[zz];refine eK O (fun u e=>(((m.ext' e).b 2 O).lies cM aR O O)) ?_;simp only[zz,zy,aq,aa,ag,ad];refine jH (aJ Kg aR O O (by decide) (by decide) O) ?_;simp only[zz];refine eK O (fun u e=>(((m.ext' e).b 1 O).lies cM aR O O)) ?_;simp only[zz,zy,aq,aa,ag,ad];refine eT O O (Sa Bw.up Bw.up) (jH (aJ Kg aR O O (by decide) (by decide) O) ?_);simp only[zz];refine eK O (fun u e=>(((m.ext' e).b 2 O).lies cM aR O O)) ?_;simp only[zz,zy,aq,aa,ag,ad];refine jH (aJ Kg aR O O (by decide) (by decide) O) ?_;simp only[zz];refine eK O (fun u e=>(((m.ext' e).b 1 O).lies cM aR O O)) ?_;simp only[zz,zy,aq,aa,ag,ad];refine eT O O (Sa Bw.up Bw.up) ?_;simp only[zz];refine eT O O (adh Bw.up Bw.up) (Ae ?_);simp only[zz];refine mf1 m ?_;intro g4 u m;simp only[zJ,zK,zF,zG];refine bN m 0 O O O aR (iK O) O ?_;intro u m;simp only[zy,zx,over,zF,zG,aa] at m;refine aM ?_;apply aU 1 [0] m;simp only[↓aD];refine cU m 7 aB (by kernel_rfl) ?_;simp only[zy];refine dZ 5 [0,3,2] ?_;simp only[↓aD,fL,uX,ad,ag,aa];refine⟨by omega,?_⟩;refine fD O O (Sa Bw.up Bw.up) ?_;simp only[zz];refine fD O O (adh Bw.up Bw.up) (bC ?_);intro u m;simp only[zz];refine bN m 1 O O O aR (iK O) O ?_;intro u m;simp only[zy,zx,over,zF,zG,aa] at m;refine aM ?_;apply aU 1 [] m;simp only[↓aD];exact aT O ⟨_,O,((m.b 1 O).full cM aR)⟩ ⟨_,O,m.ext,O⟩
theorem Lz{a b c d:Int}(ha:Bd 400000 a)(hb:Bd 400000 b)(hc:Bd 400000 c)(hd:Bd 400000 d):dS prog 286 [W a,W b,W c,W d] (W (a*b-c*d)):=by
 intro w;refine⟨bJ func286 (by kernel_rfl),?_⟩;have m:=Mem.refl w;haveI:Bw 400000 a:=⟨ha⟩;haveI:Bw 400000 b:=⟨hb⟩;haveI:Bw 400000 c:=⟨hc⟩;haveI:Bw 400000 d:=⟨hd⟩
 go_enter func286,ntmps286
 apply iY 9 [0] m;simp only[↓aD,nA];intro g1 g2 g3 g4 g5 u m;refine cU m 7 aB (by kernel_rfl) ?_;simp only[zy];refine ql O (fun u m=>((m.b 4 O).full cM aR)) ?_;simp only[zz];refine ql O (fun u m=>((m.b 3 O).full cM aR)) ?_;simp only[zz];refine fD O O (Sa Bw.up Bw.up) ?_;simp only[zz];refine ql O (fun u m=>((m.b 2 O).full cM aR)) ?_;simp only[zz];refine ql O (fun u m=>((m.b 1 O).full cM aR)) ?_;simp only[zz];refine fD O O (Sa Bw.up Bw.up) ?_;simp only[zz];refine fD O O (Zh Bw.up Bw.up) (bC ?_);intro u m;simp only[zz];refine bN m 0 O O O aR (iK O) O ?_;intro u m;simp only[zy,zx,over,zF,zG,aa] at m;refine aM ?_;apply aU 1 [] m;simp only[↓aD];exact aT O ⟨_,O,((m.b 0 O).full cM aR)⟩ ⟨_,O,m.ext,O⟩
theorem Sw{v:P3}(hu:Bv 400000 u)(hv:Bv 400000 v):dS prog 213 [wv u,wv v] (wv (u.cross v)):=by
 intro w;refine⟨bJ func213 (by kernel_rfl),?_⟩;have m:=Mem.refl w
 go_enter func213,ntmps213
 apply iY 7 [0] m;simp only[↓aD,Rn];intro g1 g2 g3 u m;refine cU m 28 aB (by kernel_rfl) ?_;simp only[zy];refine dZ 8 [2,1,2,1] ?_;simp only[↓aD,uX,fL,ad,ag,aa];refine⟨by omega,?_⟩;refine fD O O (Lz Bw.up Bw.up Bw.up Bw.up) (dZ 8 [2,1,2,1] ?_);simp only[↓aD,uX,fL,ad,ag,aa];refine⟨by omega,?_⟩;refine fD O O (Lz Bw.up Bw.up Bw.up Bw.up) (dZ 8 [2,1,2,1] ?_);simp only[↓aD,uX,fL,ad,ag,aa];refine⟨by omega,?_⟩;refine fD O O (Lz Bw.up Bw.up Bw.up Bw.up) (aI (Hu O O O) (bC ?_));intro u m;simp only[zz];refine bN m 0 O O O oW (iK O) O ?_;intro u m;simp only[zy,zx,over,zF,zG,aa] at m;refine aM ?_;apply aU 1 [] m;simp only[↓aD];exact aT O ⟨_,O,((m.b 0 O).full Ns oW)⟩ ⟨_,O,m.ext,O⟩
theorem Wu[IT t]:dS prog 245 [tr t] (wv t.normal):=by
 intro w;refine⟨bJ func245 (by kernel_rfl),?_⟩;have m:=Mem.refl w
 go_enter func245,ntmps245
 apply iY 6 [0] m;simp only[↓aD,Rn];intro g1 g2 u m;refine cU m 11 aB (by kernel_rfl) ?_;simp only[zy];refine dZ 4 [1,1] ?_;simp only[↓aD,bR,aQ,ad,ag,aa];refine⟨by omega,?_⟩;refine fD O O vB (dZ 4 [1,1] ?_);simp only[↓aD,bR,aQ,ad,ag,aa];refine⟨by omega,?_⟩;refine fD O O vB ?_;simp only[zz];refine fD O O (Sw Bv.of Bv.of) (bC ?_);intro u m;simp only[zz];refine bN m 0 O O O oW (iK O) O ?_;intro u m;simp only[zy,zx,over,zF,zG,aa] at m;refine aM ?_;apply aU 1 [] m;simp only[↓aD];exact aT O ⟨_,O,((m.b 0 O).full Ns oW)⟩ ⟨_,O,m.ext,O⟩
class Sr4(p:P3):Prop where
 x:p.x.natAbs≤262144
 y:p.y.natAbs≤262144
 z:p.z.natAbs≤262144
class Nr4(p:P3):Prop where
 x:p.x.natAbs≤524288
 y:p.y.natAbs≤524288
 z:p.z.natAbs≤524288
instance {p q:P3}[a:Sr4 p][b:Sr4 q]:Nr4 (p.sub q):=⟨by have:=a.x;have:=b.x;simp only[P3.sub];omega,by have:=a.y;have:=b.y;simp only[P3.sub];omega,by have:=a.z;have:=b.z;simp only[P3.sub];omega⟩
theorem mM{a b:Int}(ha:a.natAbs≤524288)(hb:b.natAbs≤524288) : -549755813888<a*b∧a*b<549755813888:=by
 have h:(a*b).natAbs≤524288*524288:=by rw[Int.natAbs_mul];exact Nat.mul_le_mul (by omega) (by omega)
 omega
theorem adJ(h : -549755813888<x∧x<549755813888)(k : -549755813888<y∧y<549755813888):IntKind.i64.wrap (x-y)=x-y:=bP (by omega) (by omega)
theorem Ed(h : -549755813888<x∧x<549755813888):IntKind.i64.wrap x=x:=bP (by omega) (by omega)
theorem anC{w:aj}{g:Nat}{T:az}{b:P3}(hB:fR w g [.int .i64 a.x,.int .i64 a.y,.int .i64 a.z,.int .i64 b.x,.int .i64 b.y,.int .i64 b.z,.int .i64 c.x,.int .i64 c.y,.int .i64 c.z,.int .i64 d.x,.int .i64 d.y,.int .i64 d.z] T):sU lB 3 w (some ⟨g,0,none⟩) 4 [a,b,c,d] :=
 ⟨rfl,fun i x hi=>⟨_,rfl,by
  rw[eL,aq]
  match i,hi with
  | 0,h=>cases h;exact mD.pre (ys:=lB b++lB c++lB d) (hB.row 0)
  | 1,h=>cases h;exact mD.pre (ys:=lB c++lB d) (hB.row 3)
  | 2,h=>cases h;exact mD.pre (ys:=lB d) (hB.row 6)
  | 3,h=>cases h;exact hB.row 9⟩⟩
theorem aky{ps:List P3}{p:P3}{k:Nat}(h:∀q∈ps.take k,Sr4 q)(hp:ps[k]? = some p)(h4:Sr4 p):∀q∈ps.take (k+1),Sr4 q:=fun q hq=>by
 rw[Vh hp] at hq;rcases bi.1 hq with hq | hq
 · exact h q hq
 · rw[bf.1 hq];exact h4
theorem Sx{ps:List P3}{N cap:Nat}{A:Option Addr}(w:aj)(hP:sU lB 3 w A N ps)(hN:N<4611686018427387904):dA prog 207 [.slice A N cap] w (fun v _=>∃bo:Bool,v=.bool bo∧(bo=true→∀p∈ps,Sr4 p)):=by
 refine⟨bJ func207 (by kernel_rfl),?_⟩;have m:=Mem.refl w
 go_enter func207,ntmps207
 apply fI 10 [0] m;simp only[↓aD];refine bX [3] [2,4,5,6,7,8,9,10,11,12,13,14,15,16,17,18,19,20,21,22,23,24,25,26,27,28,29,30,31,32,33,34,35,36,37,38,39,40,41,42] (fun n vs wl=>∃(k:Nat),vs=[.int .i64 (k:Int)]∧Mem w wl []∧(∀p∈ps.take k,Sr4 p)∧(k≤N)∧(n=N-k)) ?_ ?_
 ·
  exact⟨_,0,O,m,fun p h=>by simp at h,bw _,O⟩
 ·
  intro n vs wr hI u K1 hK1;obtain⟨k,rfl,m,hs,hk,hn⟩:=hI;simp only[zu,zF,zG];apply aK 8 [0,0] m;simp only[↓aD,kC];refine bD O ?_ ?_<;>intro hc1
  ·
   obtain⟨p,hp,a,rfl,hrow⟩:=hP.get (i:=k) (by omega);have hrow:mD w (a.add (k*3)) [.int .i64 p.x,.int .i64 p.y,.int .i64 p.z]:=hrow;apply aK 7 [0] m;simp only[↓aD];refine aC (aF cN aA O O (by omega) (by omega) (bZ (ah _))) ?_;simp only[zz];refine aS O (((hrow.ext m.ext)).lies aG aA) ?_;simp only[zz];apply jS 9 [0,0,0,0] m;simp only[↓aD,eS,aQ,gD,dC,aa];intro g1 u m;refine bA O (fun hb=>aW (c:=0) fT O aV O O) ?_;simp only[zz];refine bV O (fun hb=>aY (aX hb O) ((m.b 0 O).lies1 bF O)) (bA O (fun hb=>qL (aX hb O) O) (aC (cC O O O) ?_));apply aL 1 [0] m;simp only[↓aD];refine bA O (fun hb=>aW (c:=0) fT O aV O O) ?_;simp only[zz];refine bV O (fun hb=>aY (aX hb O) ((m.b 0 O).lies1 bF O)) (bA O (fun hb=>aag (aX hb O) O) (aC (cC O O O) ?_));apply aL 1 [0] m;simp only[↓aD];refine bA O (fun hb=>aW (c:=0) fT O aV O O) ?_;simp only[zz];refine bV O (fun hb=>aY (aX hb O) ((m.b 0 O).lies1 bF O)) (bA O (fun hb=>qL (aX hb O) O) (aC (cC O O O) ?_));apply aL 1 [0] m;simp only[↓aD];refine bA O (fun hb=>aW (c:=0) fT O aV O O) ?_;simp only[zz];refine bV O (fun hb=>aY (aX hb O) ((m.b 0 O).lies1 bF O)) (bA O (fun hb=>aag (aX hb O) O) (aC (cC O O O) ?_));apply aL 1 [0] m;simp only[↓aD];refine bA O (fun hb=>aW (c:=0) fT O aV O O) ?_;simp only[zz];refine bV O (fun hb=>aY (aX hb O) ((m.b 0 O).lies1 bF O)) (bA O (fun hb=>qL (aX hb O) O) (aC (cC O O O) ?_));apply aL 1 [0] m;simp only[↓aD];refine gE O ?_ ?_<;>intro hc2
   ·
    apply aK 5 [] m;simp only[↓aD];exact aT rfl rfl ⟨_,rfl,m.ext,false,rfl,fun h=>by cases h⟩
   ·
    have hp4:Sr4 p:=by
     simp only[gq,decide_eq_false_iff_not] at hc2;exact⟨by omega,by omega,by omega⟩
    apply aK 7 [0] m;simp only[↓aD];refine⟨by omega,?_⟩;exact hK1 (N-(k+1)) _ _ (by omega) (by kernel_rfl) ⟨k+1,O,(m.sel [false]),aky hs hp hp4,by omega,O⟩
  ·
   have e:ps.take k=ps:=ay (by rw[hP.len];omega);rw[e] at hs;apply aK 6 [] m;simp only[↓aD];exact aT O O ⟨_,O,m.ext,true,O,fun _=>hs⟩
theorem sH{p:P3}[hp:Sr4 p][hq:Sr4 q]:dS prog 209 [pt p,pt q] (nv (q.sub p)):=by
 intro w;refine⟨bJ func209 (by kernel_rfl),?_⟩;have m:=Mem.refl w;have:=hp.x;have:=hp.y;have:=hp.z;have:=hq.x;have:=hq.y;have:=hq.z
 go_enter func209,ntmps209
 apply iY 27 [1,2,1,2,1,2,0] m;simp only[↓aD,xE,gD,dC,iH,jA,sY,uU,aa];intro g1 g2 g3;refine⟨by omega,?_⟩;intro u m;exact aT O ⟨_,O,((m.b 0 O).full uG jJ)⟩ ⟨_,O,m.ext,O⟩
theorem Jq{v:P3}(hu:Nr4 u)(hv:Nr4 v):dS prog 208 [nv u,nv v] (nv (u.cross v)):=by
 intro w;refine⟨bJ func208 (by kernel_rfl),?_⟩;have m:=Mem.refl w
 go_enter func208,ntmps208
 apply iY 12 [2,1,0] m;simp only[↓aD,xE,fF,dC,ad,ag,aa];intro g1 g2 g3;refine⟨by omega,?_⟩;intro u m;refine aC (lE O O (Ed (mM hu.y hv.z))) ?_;apply aL 4 [2,1,0] m;simp only[↓aD,fF,dC,ad,ag,aa];refine⟨by omega,?_⟩;refine aC (lE O O (Ed (mM hu.z hv.y))) (aC (Ac O O (adJ (mM hu.y hv.z) (mM hu.z hv.y))) ?_);apply aL 4 [2,1,0] m;simp only[↓aD,fF,dC,ad,ag,aa];refine⟨by omega,?_⟩;refine aC (lE O O (Ed (mM hu.z hv.x))) ?_;apply aL 4 [2,1,0] m;simp only[↓aD,fF,dC,ad,ag,aa];refine⟨by omega,?_⟩;refine aC (lE O O (Ed (mM hu.x hv.z))) (aC (Ac O O (adJ (mM hu.z hv.x) (mM hu.x hv.z))) ?_);apply aL 4 [2,1,0] m;simp only[↓aD,fF,dC,ad,ag,aa];refine⟨by omega,?_⟩;refine aC (lE O O (Ed (mM hu.x hv.y))) ?_;apply aL 4 [2,1,0] m;simp only[↓aD,fF,dC,ad,ag,aa];refine⟨by omega,?_⟩;refine aC (lE O O (Ed (mM hu.y hv.x))) (aC (Ac O O (adJ (mM hu.x hv.y) (mM hu.y hv.x))) ?_);apply jS 4 [0] m;simp only[↓aD,sY,uU,aa];intro u m;exact aT O ⟨_,O,((m.b 0 O).full uG jJ)⟩ ⟨_,O,m.ext,O⟩
theorem Ee{n:Int}:dS prog 210 [.int .i64 n] (.int .i64 (bB n)):=by
 intro w;refine⟨bJ func210 (by kernel_rfl),?_⟩;have m:=Mem.refl w
 go_enter func210,ntmps210
 apply fI 10 [0,0] m;simp only[↓aD];refine bD O ?_ ?_<;>intro hc1
 ·
  apply aK 5 [] m;simp only[↓aD];refine aT O O ?_;try simp only[zD,zE]
  exact⟨_,O,m.ext,by rw[De (by assumption)]⟩
 ·
  apply aK 7 [0,0] m;simp only[↓aD];refine bD O ?_ ?_<;>intro hc2
  ·
   apply aK 5 [] m;simp only[↓aD];refine aT O O ?_;try simp only[zD,zE]
   exact⟨_,O,m.ext,by rw[Df (by assumption)]⟩
  ·
   apply aK 6 [] m;simp only[↓aD];refine aT O O ?_;try simp only[zD,zE]
   exact⟨_,O,m.ext,by rw[show n=0 by omega];rfl⟩
theorem Sy{b:P3}[I3 a][I3 b][I3 c][I3 d]:dS prog 206 [pt a,pt b,pt c,pt d] (sg ((b.sub a).cross (d.sub c))):=by
 intro w;refine⟨bJ func206 (by kernel_rfl),?_⟩;have m:=Mem.refl w
 go_enter func206,ntmps206
 apply iY 14 [4,3,2,1,0] m;simp only[↓aD,xE,aQ];intro g1 g2 g3 g4 g5 u m;refine Do O O O O ?_;intro u g6 e_ h_ k_;replace m:=m.newB e_ h_ k_;simp only[zz];refine cQ m O O (Sx (ps:=[a,b,c,d]) _ (anC (m.b 0 O)) (by decide)) ?_;rintro v u m ⟨bo,rfl,hsm⟩;apply aL 7 [0] m;simp only[↓aD];refine gE O ?_ ?_<;>intro hc1
 ·
  have hs4:=hsm hc1;haveI:=hs4 a (by simp);haveI:=hs4 b (by simp);haveI:=hs4 c (by simp);haveI:=hs4 d (by simp);apply aK 1 [0] m;simp only[↓aD];refine eN 8 [0,1,2,3,4,5,6] [⟨7,10,36,[.int .i64 0,.int .i64 0,.int .i64 0]⟩] aB (by kernel_rfl) (al1 ⟨_,_,_,O,by kernel_rfl,_,Di,O⟩) (ol:=?_) ?hol ?_
  case hol=>simp only[zw,zQ,zR];try rfl
  intro u e_;replace m:=m.ext' e_;refine eK O (fun u e=>(((m.ext' e).b 5 O).full aG aA)) ?_;simp only[zz];refine eK O (fun u e=>(((m.ext' e).b 4 O).full aG aA)) ?_;simp only[zz];refine eT O O sH ?_;simp only[zz];refine eK O (fun u e=>(((m.ext' e).b 3 O).full aG aA)) ?_;simp only[zz];refine eK O (fun u e=>(((m.ext' e).b 2 O).full aG aA)) ?_;simp only[zz];refine eT O O sH ?_;simp only[zz];refine eT O O (Jq inferInstance inferInstance) (Ae ?_);simp only[zz];refine mf1 m ?_;intro g7 u m;simp only[zJ,zK,zF,zG];refine bN m 0 O O O jJ (iK O) O ?_;intro u m;simp only[zy,zx,over,zF,zG,aa] at m;refine aM ?_;apply aU 1 [0] m;simp only[↓aD];refine cU m 10 aB (by kernel_rfl) ?_;simp only[zy];refine dZ 2 [0] ?_;simp only[↓aD,fF,dC,ad,ag,aa];refine⟨by omega,?_⟩;refine fD O O Ee (dZ 2 [0] ?_);simp only[↓aD,fF,dC,ad,ag,aa];refine⟨by omega,?_⟩;refine fD O O Ee (dZ 2 [0] ?_);simp only[↓aD,fF,dC,ad,ag,aa];refine⟨by omega,?_⟩;refine fD O O Ee (aI (wY O O O) (bC ?_));intro u m;simp only[zz];refine bN m 2 O O O jJ (iK O) O ?_;intro u m;simp only[zy,zx,over,zF,zG,aa] at m;refine aM ?_;apply aU 1 [] m;simp only[↓aD];exact aT O ⟨_,O,((m.b 2 O).full uG jJ)⟩ ⟨_,O,m.ext,O⟩
 ·
  apply aK 2 [0] m;simp only[↓aD];refine eN 8 [0,1,2,3,4,5,6] [⟨7,11,257,[.bool false,.string ⟨#[]⟩,.bool false,.string ⟨#[]⟩,.bool false,.string ⟨#[]⟩]⟩] aB (by kernel_rfl) (al1 ⟨_,_,_,O,by kernel_rfl,_,aaC,O⟩) (ol:=?_) ?hol ?_
  case hol=>simp only[zw,zQ,zR];try rfl
  intro u e_;replace m:=m.ext' e_;refine eK O (fun u e=>(((m.ext' e).b 5 O).full aG aA)) ?_;simp only[zz];refine eK O (fun u e=>(((m.ext' e).b 4 O).full aG aA)) ?_;simp only[zz];refine eT O O vB ?_;simp only[zz];refine eK O (fun u e=>(((m.ext' e).b 3 O).full aG aA)) ?_;simp only[zz];refine eK O (fun u e=>(((m.ext' e).b 2 O).full aG aA)) ?_;simp only[zz];refine eT O O vB ?_;simp only[zz];refine eT O O (Sw Bv.of Bv.of) (Ae ?_);simp only[zz];refine mf1 m ?_;intro g7 u m;simp only[zJ,zK,zF,zG];refine bN m 0 O O O oW (iK O) O ?_;intro u m;simp only[zy,zx,over,zF,zG,aa] at m;refine aM ?_;apply aU 1 [0] m;simp only[↓aD];refine cU m 10 aB (by kernel_rfl) ?_;simp only[zy];refine dZ 2 [0] ?_;simp only[↓aD,uX,fL,ad,ag,aa];refine⟨by omega,?_⟩;refine fD O O (Jc Bw.up) (dZ 2 [0] ?_);simp only[↓aD,uX,fL,ad,ag,aa];refine⟨by omega,?_⟩;refine fD O O (Jc Bw.up) (dZ 2 [0] ?_);simp only[↓aD,uX,fL,ad,ag,aa];refine⟨by omega,?_⟩;refine fD O O (Jc Bw.up) (aI (wY O O O) (bC ?_));intro u m;simp only[zz];refine bN m 2 O O O jJ (iK O) O ?_;intro u m;simp only[zy,zx,over,zF,zG,aa] at m;refine aM ?_;apply aU 1 [] m;simp only[↓aD];exact aT O ⟨_,O,((m.b 2 O).full uG jJ)⟩ ⟨_,O,m.ext,O⟩
theorem iJ{b:P3}[I3 a][I3 b][I3 c]:dS prog 140 [pt a,pt b,pt c] (sg ((b.sub a).cross (c.sub a))):=by
 intro w;refine⟨bJ func140 (by kernel_rfl),?_⟩;have m:=Mem.refl w
 go_enter func140,ntmps140
 apply iY 13 [3,2,3,1,0] m;simp only[↓aD,xE,aQ];intro g1 g2 g3 g4 u m;refine nF m O O Sy 3 [0] ?_;simp only[↓aD,uU,aa];intro u m;exact aT O ⟨_,O,((m.b 0 O).full uG jJ)⟩ ⟨_,O,m.ext,O⟩
theorem Js[IT t]:dS prog 137 [tr t] (.bool (decide (bB t.normal.x=0∧bB t.normal.y=0∧bB t.normal.z=0))):=by
 intro w;refine⟨bJ func137 (by kernel_rfl),?_⟩;have m:=Mem.refl w
 go_enter func137,ntmps137
 apply iY 13 [0,0,0,0] m;simp only[↓aD,bR,aQ,ad,ag,aa];intro g1;refine⟨by omega,?_⟩;intro u m;refine nF m O O (iJ (a:=t.a) (b:=t.b) (c:=t.c)) 1 [0] ?_;simp only[↓aD,sY,aa];intro u m;refine aC (Dn O O) ?_;apply aL 3 [] m;simp only[↓aD];exact aT O O ⟨_,O,m.ext,O⟩
theorem crB{v:P3}[a:Nr4 u][b:Nr4 v]:(u.cross v).x.natAbs≤1099511627776∧(u.cross v).y.natAbs≤1099511627776∧(u.cross v).z.natAbs≤1099511627776:=by
 have h1:=mM a.y b.z;have h2:=mM a.z b.y;have h3:=mM a.z b.x;have h4:=mM a.x b.z;have h5:=mM a.x b.y;have h6:=mM a.y b.x;simp only[P3.cross];refine⟨?_,?_,?_⟩ <;> omega
theorem abT{a b:Int}(ha:a.natAbs≤1099511627776)(hb:b.natAbs≤524288) : -1152921504606846976≤a*b∧a*b≤1152921504606846976:=by
 have h:(a*b).natAbs≤1099511627776*524288:=by rw[Int.natAbs_mul];exact Nat.mul_le_mul ha hb
 omega
theorem akz(h : -1152921504606846976≤x∧x≤1152921504606846976):IntKind.i64.wrap x=x:=bP (by omega) (by omega)
theorem apO(h : -1152921504606846976≤x∧x≤1152921504606846976)(k : -1152921504606846976≤y∧y≤1152921504606846976):IntKind.i64.wrap (x+y)=x+y:=bP (by omega) (by omega)
theorem apP{z:Int}(h : -1152921504606846976≤x∧x≤1152921504606846976)(k : -1152921504606846976≤y∧y≤1152921504606846976)(l : -1152921504606846976≤z∧z≤1152921504606846976):IntKind.i64.wrap (x+y+z)=x+y+z:=bP (by omega) (by omega)
theorem nD{b:P3}[I3 a][I3 b][I3 c][I3 d]:dS prog 141 [pt a,pt b,pt c,pt d] (.int .i64 (bB (mQ a b c d))):=by
 intro w;refine⟨bJ func141 (by kernel_rfl),?_⟩;have m:=Mem.refl w
 go_enter func141,ntmps141
 apply iY 14 [3,2,1,0,0] m;simp only[↓aD,aQ];intro g1 g2 g3 g4 u m;refine Do O O O O ?_;intro u g5 e_ h_ k_;replace m:=m.newB e_ h_ k_;simp only[zz];refine cQ m O O (Sx (ps:=[a,b,c,d]) _ (anC (m.b 0 O)) (by decide)) ?_;rintro v u m ⟨bo,rfl,hsm⟩;apply aL 7 [0] m;simp only[↓aD];refine gE O ?_ ?_<;>intro hc1
 ·
  have hs4:=hsm hc1;haveI:=hs4 a (by simp);haveI:=hs4 b (by simp);haveI:=hs4 c (by simp);haveI:=hs4 d (by simp);apply aK 1 [0] m;simp only[↓aD];refine eN 8 [0,1,2,3,4,5,6] [⟨7,10,36,[.int .i64 0,.int .i64 0,.int .i64 0]⟩] aB (by kernel_rfl) (al1 ⟨_,_,_,O,by kernel_rfl,_,Di,O⟩) (ol:=?_) ?hol ?_
  case hol=>simp only[zw,zQ,zR];try rfl
  intro u e_;replace m:=m.ext' e_;refine eK O (fun u e=>(((m.ext' e).b 4 O).full aG aA)) ?_;simp only[zz];refine eK O (fun u e=>(((m.ext' e).b 3 O).full aG aA)) ?_;simp only[zz];refine eT O O sH ?_;simp only[zz];refine eK O (fun u e=>(((m.ext' e).b 4 O).full aG aA)) ?_;simp only[zz];refine eK O (fun u e=>(((m.ext' e).b 2 O).full aG aA)) ?_;simp only[zz];refine eT O O sH ?_;simp only[zz];refine eT O O (Jq inferInstance inferInstance) (Ae ?_);simp only[zz];refine mf1 m ?_;intro g6 u m;simp only[zJ,zK,zF,zG];refine bN m 0 O O O jJ (iK O) O ?_;intro u m;simp only[zy,zx,over,zF,zG,aa] at m;refine aM ?_;apply aU 4 [5,2,0] m;simp only[↓aD,aQ];refine nF m O O sH 9 [0,1,0,0] ?_;simp only[↓aD,xE,uU,fF,dC,aa,ad,ag];intro g7;refine⟨by omega,?_⟩;intro u m;refine aC (lE O O (akz (abT (crB (u:=(b.sub a)) (v:=(c.sub a))).1 (show Nr4 (d.sub a) from inferInstance).x))) ?_;apply aL 4 [1,0,0] m;simp only[↓aD,fF,dC,ad,ag,aa];refine⟨by omega,?_⟩;refine aC (lE O O (akz (abT (crB (u:=(b.sub a)) (v:=(c.sub a))).2.1 (show Nr4 (d.sub a) from inferInstance).y))) (aC (fC O O (apO (abT (crB (u:=(b.sub a)) (v:=(c.sub a))).1 (show Nr4 (d.sub a) from inferInstance).x) (abT (crB (u:=(b.sub a)) (v:=(c.sub a))).2.1 (show Nr4 (d.sub a) from inferInstance).y))) ?_);apply aL 4 [1,0,0] m;simp only[↓aD,fF,dC,ad,ag,aa];refine⟨by omega,?_⟩;refine aC (lE O O (akz (abT (crB (u:=(b.sub a)) (v:=(c.sub a))).2.2 (show Nr4 (d.sub a) from inferInstance).z))) (aC (fC O O (apP (abT (crB (u:=(b.sub a)) (v:=(c.sub a))).1 (show Nr4 (d.sub a) from inferInstance).x) (abT (crB (u:=(b.sub a)) (v:=(c.sub a))).2.1 (show Nr4 (d.sub a) from inferInstance).y) (abT (crB (u:=(b.sub a)) (v:=(c.sub a))).2.2 (show Nr4 (d.sub a) from inferInstance).z))) ?_);simp only[zz];refine nF m O O Ee 3 [] ?_;simp only[↓aD];intro u m;exact aT O O ⟨_,O,m.ext,O⟩
 ·
  apply aK 2 [0] m;simp only[↓aD];refine mq m aB (by kernel_rfl) (ql O (fun u m=>((m.b 4 O).full aG aA)) ?_);simp only[zz];refine ql O (fun u m=>((m.b 3 O).full aG aA)) ?_;simp only[zz];refine fD O O vB ?_;simp only[zz];refine ql O (fun u m=>((m.b 4 O).full aG aA)) ?_;simp only[zz];refine ql O (fun u m=>((m.b 2 O).full aG aA)) ?_;simp only[zz];refine fD O O vB ?_;simp only[zz];refine fD O O (Sw Bv.of Bv.of) ?_;simp only[zz];refine ql O (fun u m=>((m.b 4 O).full aG aA)) ?_;simp only[zz];refine ql O (fun u m=>((m.b 1 O).full aG aA)) ?_;simp only[zz];refine fD O O vB ?_;simp only[zz];refine fD O O (Sv Bv.of Bv.of) ?_;simp only[zz];refine fD O O (Jc Bw.up) (aI aO (bC ?_));intro u m;apply aU 1 [] m;simp only[↓aD];exact aT O O ⟨_,O,m.ext,O⟩
end Go.Proofs.YtfekpcimgncioaaGreatDoor
