/-
 Texts of one claim, laid together: K76, Join, JoinCollapseOrder.
-/
import Derived.OpenVars
import Derived.OpenShut
import Derived.WalkKit
import Derived.ProofKit
import Derived.Test.YtfekpcimgncioaaGreatDoorCards
import Derived.Test.YtfekpcimgncioaaGreatDoorTie
import Derived.Deep.DeepHandedRow
import Derived.Lib.LaidTab
import Derived.Test.YtfekpcimgncioaaGreatDoorG9
open Go renaming Value→ai,TypeId→av
open List renaming getElem?_eq_getElem→ak,length_map→bf,nil_append→bt,cons_append→cg,getElem_mem→fv
open Nat renaming le_refl→ao,zero_add→ar,le_trans→be,mod_lt→fw
open Option.some renaming inj→ep
set_option maxHeartbeats 8000000
set_option linter.unusedSimpArgs false
set_option linter.unusedVariables false
set_option linter.unusedSectionVars false
namespace Go.Proofs.YtfekpcimgncioaaGreatDoor
open Go.Proofs.Tryz
open Go.RowKit Go.Lith
set_option maxRecDepth 100000
attribute [local irreducible] wpList wpQuiet fA bF cG Code.wp
attribute [local congr] nO fK fM fN fO fP iY fQ fR fS fT fU fV fW fX fY fZ gA dX dY gB gC gE gF gG jA cQ cR cE cP gD iZ dZ eA eB gH gI jD
variable{l:List T3}{want:Int}{cap k:Nat}
theorem sK:∀(n:Nat) {want:Int} {l:List T3} {q:P3→List Int} {D:List Mv},(∀t∈l,IT t)→∀t∈(eU n want l q D).1,IT t
 | 0,_,_,_,_,h=>h
 | n+1,want,l,q,D,h=>by
  unfold eU;split
  · exact h
  · cases hb:oM l q with
    | none=>exact h
    | some c=>exact sK n (kV (Ki (Bl h (No (Pw.1 (yC hb).1).2.1).2) h))
theorem vV(h:∀t∈l,IT t):∀t∈(eL l want).1,IT t:=by
 unfold eL;split
 · exact kV h
 · exact sK _ (kV h)
theorem sL:∀(n:Nat) {want:Int} {l:List T3} {q:P3→List Int} {D:List Mv},(eU n want l q D).1.length≤l.length
 | 0,_,_,_,_=>ao _
 | n+1,want,l,q,D=>by
  unfold eU;split
  · exact ao _
  · cases hb:oM l q with
    | none=>exact ao _
    | some c=>exact be (sL n) (Nat.le_of_lt (lK hb))
theorem vW   : (eL l want).1.length≤l.length:=by
 unfold eL;split
 · rw[eH];exact ao _
 · exact be (sL _) (Nat.le_of_eq (eH _))
theorem sM:∀(n:Nat) {want:Int} {l:List T3} {q:P3→List Int} {D:List Mv},(eU n want l q D).2.length+(eU n want l q D).1.length≤D.length+l.length
 | 0,_,_,_,_=>ao _
 | n+1,want,l,q,D=>by
  unfold eU;split
  · exact ao _
  · cases hb:oM l q with
    | none=>exact ao _
    | some c =>
     have h1:=sM n (want:=want) (l:=eZ l c.u c.v) (q:=By q c.u c.v) (D:=Lf D c.u c.v);have h2:=lK hb;have h3:(Lf D c.u c.v).length≤D.length+1:=by
      have:=mY (D.map fun e=>(e.1,jW c.u c.v e.2)) c.u c.v;rw[bf] at this;exact this
     show (eU n want (eZ l c.u c.v) (By q c.u c.v) (Lf D c.u c.v)).2.length+(eU n want (eZ l c.u c.v) (By q c.u c.v) (Lf D c.u c.v)).1.length≤_
     omega
theorem vX   : (eL l want).2.length≤l.length:=by
 unfold eL;split
 · exact Nat.zero_le _
 · show (iF _).length≤_
   unfold iF;rw[bf,(iP _).length_eq,bf];have h1:=sM (bK l).length (want:=want) (l:=bK l) (q:=sV (bK l)) (D:=[]);rw[eH] at h1;simp only[List.length_nil,ar] at h1;rw[eH];omega
theorem uI{w0 w:World}{S:List (Option Nat)}{E:av}{g n:Nat}{t:T3}{ts:List T3}(h:Ow w0 w S E 9 (some ⟨g,0,none⟩) n cap (ts.flatMap aM))(ht:ts[k]? = some t):mT w ⟨g,k*9,none⟩ (aM t):=by
 have:=(h.lat (enc:=aM) ac4 (by decide)).at ht;rwa [dV,ar] at this
def nI(N b k:Nat):Nat:=if N%7=0 then (k+b)%N else (k*7+b)%N
def Kz(k:Nat)(x:T3):T3:=⟨x.cor (k%3),x.cor ((k+1)%3),x.cor ((k+2)%3)⟩
def La(l:List T3)(b k:Nat):T3:=Kz k ((l[nI l.length b k]?).getD ⟨⟨0,0,0⟩,⟨0,0,0⟩,⟨0,0,0⟩⟩)
def kW(l:List T3)(b k:Nat):List T3:=(List.range k).map (La l b)
theorem nJ{N b:Nat}(h:k<N):nI N b k<N:=by
 unfold nI;split <;> exact fw _ (by omega)
theorem yT(k:Nat)(x:T3):Hh x (Kz k x):=by
 have h:k%3=0∨k%3=1∨k%3=2:=by omega
 unfold Kz Hh;rcases h with h | h | h
 · rw[h,show (k+1)%3=1 by omega,show (k+2)%3=2 by omega];exact .inl rfl
 · rw[h,show (k+1)%3=2 by omega,show (k+2)%3=0 by omega];exact .inr (.inl rfl)
 · rw[h,show (k+1)%3=0 by omega,show (k+2)%3=1 by omega];exact .inr (.inr rfl)
theorem acK{b:Nat}{x:T3}(hx:l[nI l.length b k]? = some x):kW l b (k+1)=kW l b k++[Kz k x]:=by
 unfold kW;rw[List.range_succ,List.map_append,List.map_singleton,La,hx];rfl
theorem yU{b:Nat}(hd:∀t∈l,t.nd=true):bK (kW l b l.length)=bK l:=by
 refine wR (Hr (f:=nI l.length b) (by simp[kW]) (fun i hi=>nJ hi) (fun i j hi hj h=>?_) fun i x hx=>?_)
 · unfold nI at h
   split at h
   · exact aau hi hj h
   · rename_i h7;exact aat h7 hi hj h
 · have hi:i<l.length:=by
    have:=(List.getElem?_eq_some_iff.1 hx).1;simpa[kW] using this
   have hy:l[nI l.length b i]? = some (l[nI l.length b i]'(nJ hi)):=ak (nJ hi);refine⟨_,hy,?_⟩;unfold kW at hx;rw[List.getElem?_map,List.getElem?_range hi,Option.map_some,La,hy] at hx;cases hx;exact vK (yT i _) (hd _ (fv _))
theorem Uq{b:Nat}(hk:k≤l.length)(h:∀t∈l,IT t):∀t∈kW l b k,IT t:=fun t ht=>by
 obtain⟨i,hi,rfl⟩:=List.mem_map.1 ht;have hi:=List.mem_range.1 hi;unfold La;rw[ak (nJ (show i<l.length by omega))];have hx:=h _ (fv (nJ (b:=b) (show i<l.length by omega)));exact⟨⟨(iA hx).1,(iA hx).2.1,(iA hx).2.2⟩,⟨(iA hx).1,(iA hx).2.1,(iA hx).2.2⟩,⟨(iA hx).1,(iA hx).2.1,(iA hx).2.2⟩⟩
theorem tA{A:Option Addr}{N:Nat}{zs:List Int}{a0 b:Int}(w:World)(hL:vY aaB 1 w A N zs)(hcp:N≤cap)(hI:∀z∈zs,rN z)(ha:0≤a0∧a0<65536)(hb:0≤b∧b<256):dK prog 10 [.slice A N cap,.int .u16 a0,.int .u8 b] w (fun v _=>v=.bool true):=by
 refine⟨ah8,?_⟩;have m:=Mem.refl w;have hl:=hL.len;obtain⟨M,hM⟩:∃M,M=min 4 N:=⟨_,rfl⟩
 have e60:b.tmod 60=b%60:=Int.tmod_eq_emod_of_nonneg hb.1;obtain⟨bn,rfl⟩:=Int.eq_ofNat_of_zero_le ha.1
 go_enter func10,ntmps10
 apply fG 6 [0] m;simp only[↓aC];refine wA m rfl rfl Es 8 [] ?_;simp only[↓aC,Oi];intro u m;rw[show (if (4:Int)<(N:Int) then (4:Int) else (N:Int))=(M:Int) by split <;> omega];refine go (aB (kL lM bD rfl rfl (Int.toNat_natCast _) (by omega) (by omega)) ?_);simp only[zz];refine bC rfl rfl (vU _ ((hL.ext m.ext).take (show M≤N by omega)) (fun z hz=>hI z (List.mem_of_mem_take hz))) ?_;rintro v u e_ ⟨vt,hBo,⟨hl0,hit⟩,A8,cap8,n8,hn8,rfl,h_⟩;replace m:=m.newO e_ h_;have hnd:=vT (Ba hBo);have hcg:=yU (b:=bn) hnd;have hoi:=Uq (b:=bn) (ao _) hit;rw[←hn8] at hl0 hcg hoi;apply aL 4 [0] m;simp only[↓aC];refine aB aP ?_;replace m:=m.nilO 39 9;apply aL 7 [0] m;simp only[↓aC];refine bX [9,10] [11,24,25,26,27,28,29,30,31,32,33,34,35,36,37,38,39,40,41,42,43,44,45,46,47,48,49,50,51,52,53,54,55,56,57,58,59,60,61,62,63,64,65,66,67,68,69,70,71,72] (fun n vs wl=>∃(k:Nat) (A9:Option Addr) (cap9:Nat),vs=[.slice A9 k cap9,.int .i64 (k:Int)]∧Mem w wl [oI 39 9 A9 k cap9 ((kW (dW vt) bn k).flatMap aM),oI 39 9 A8 n8 cap8 ((dW vt).flatMap aM)]∧(k≤n8)∧(n=n8-k)) ?_ ?_
 ·
  exact⟨_,0,none,0,rfl,m,by omega,rfl⟩
 · intro n vs wr hI u K1 hK1
   obtain⟨k,A9,cap9,rfl,m,hk,hn⟩:=hI;simp only[zu,zF,zG];apply aK 8 [0,0] m;simp only[↓aC,eV];refine bA rfl ?_ ?_<;>intro hc1
   ·
    obtain⟨g,rfl⟩:=(m.o 1 rfl).some (by omega);obtain⟨x1,hx1⟩:∃x,(dW vt)[(k*7+bn)%n8]? = some x:=⟨_,ak (by rw[←hn8];exact fw _ (by omega))⟩
    obtain⟨x2,hx2⟩:∃x,(dW vt)[(k+bn)%n8]? = some x:=⟨_,ak (by rw[←hn8];exact fw _ (by omega))⟩
    have hk1:(k*7+bn)%n8<n8:=fw _ (by omega);have hk2:(k+bn)%n8<n8:=fw _ (by omega);apply aK 13 [0] m;simp only[↓aC,Su,uE,eV];refine⟨by omega,?_⟩;refine aB (cL rfl rfl (by omega) (show ((k:Int)*7+(bn:Int)).tmod (n8:Int)=(((k*7+bn)%n8:Nat):Int) from rfl)) ?_;simp only[zz];refine aB (aF bL aO rfl rfl (by omega) (by omega) jH) ?_;simp only[zz];refine aR rfl (show eQ _ _ _ _ (tr x1) from (uI (m.o 1 rfl) hx1).lies cK aO) ?_;simp only[zz];apply kP 6 [0] m;simp only[↓aC,nC,gX,Nat.reduceAdd];intro g1 u m;apply aW 2 [0] m;simp only[↓aC,eV];refine aB (cL rfl rfl (by omega) (show ((n8:Nat):Int).tmod 7=((n8%7:Nat):Int) from rfl)) ?_;apply aL 2 [0,0] m;simp only[↓aC];refine iO m 0 [] [45,46,47,48,49,50,51,52,53,54] (fun vs i=>∃(x:T3),vs=[]∧i=bI g1 (aM x) 39∧((dW vt)[nI n8 bn k]? = some x)) ?_ ?_
    · intro K2 hK2
      refine bA rfl ?_ ?_<;>intro hc2
      ·
       apply aK 8 [0] m;simp only[↓aC,Su,uE,eV];refine⟨by omega,?_⟩;refine aB (cL rfl rfl (by omega) (show ((k:Int)+(bn:Int)).tmod (n8:Int)=(((k+bn)%n8:Nat):Int) from rfl)) ?_;simp only[zz];refine aB (aF bL aO rfl rfl (by omega) (by omega) jH) ?_;simp only[zz];refine aR rfl (show eQ _ _ _ _ (tr x2) from (uI (m.o 2 rfl) hx2).lies cK aO) ?_;simp only[zz];apply kP 2 [0,0] m;simp only[↓aC,gX,Nat.reduceAdd];intro u m;exact hK2 _ _ _ (by kernel_rfl) m ⟨x2,rfl,rfl,by rw[nI,if_pos (by omega)];exact hx2⟩
      ·
       apply aK 1 [0] m;simp only[↓aC];exact hK2 _ _ _ (by kernel_rfl) m ⟨x1,rfl,rfl,by rw[nI,if_neg (by omega)];exact hx1⟩
    · intro vs i wr m hI u
      obtain⟨x,rfl,rfl,hx⟩:=hI;simp only[zF,zG] at m;simp only[zu,zF,zG];refine gc (mh m [true,false,true] [(0,true),(1,true),(2,true),(3,true),(5,true),(6,true),(7,true),(8,true),(10,true),(11,true),(12,true),(13,true),(4,true),(9,true),(14,true),(15,true),(16,false),(17,false),(18,true)] aD (by kernel_rfl) (bT (fun _ _ _ _ _ h=>h)) (ol:=?_) ?hol ?_)
      case hol=>simp only[zw,zQ,zR];try rfl
      intro u m;refine aS aG (aS aG ?_);simp only[zz];refine aS (cL rfl rfl (by omega) (show (k:Int).tmod 3=((k%3:Nat):Int) from rfl)) ?_;simp only[zz];refine aS (aJ cT aA rfl rfl (by omega) (by omega) jH) (aS aG ?_);simp only[zz];refine aS (eS rfl rfl (bG (by omega) (by omega))) ?_;simp only[zz];refine aS (cL rfl rfl (by omega) (show ((k:Int)+1).tmod 3=(((k+1)%3:Nat):Int) from rfl)) ?_;simp only[zz];refine aS (aJ cT aA rfl rfl (by omega) (by omega) jH) (aS aG ?_);simp only[zz];refine aS (eS rfl rfl (bG (by omega) (by omega))) ?_;simp only[zz];refine aS (cL rfl rfl (by omega) (show ((k:Int)+2).tmod 3=(((k+2)%3:Nat):Int) from rfl)) ?_;simp only[zz];refine aS (aJ cT aA rfl rfl (by omega) (by omega) jH) ?_;simp only[zz];refine dF rfl (fun u m=>(show eQ _ _ _ _ (pt (x.cor (k%3))) from (uH (m.b 0 rfl) (show (k%3)<3 by omega)).lies aH aA)) ?_;simp only[zz];refine dF rfl (fun u m=>(show eQ _ _ _ _ (pt (x.cor ((k+1)%3))) from (uH (m.b 0 rfl) (show ((k+1)%3)<3 by omega)).lies aH aA)) ?_;simp only[zz];refine dF rfl (fun u m=>(show eQ _ _ _ _ (pt (x.cor ((k+2)%3))) from (uH (m.b 0 rfl) (show ((k+2)%3)<3 by omega)).lies aH aA)) ?_;simp only[zz];refine aS (lI rfl rfl rfl) (cF ?_);simp only[zz];refine eF rfl ?_;intro u g2 e_ h_ k_;replace m:=m.newB e_ h_ k_;refine aN ⟨m.sel [false,true,false,true],?_⟩;refine cF ?_;simp only[zz];refine bW m 2 rfl rfl bL gR rfl (by decide) rfl rfl rfl (m.b 0 rfl).rowsO (jX rfl) (by omega) (by omega) ?_;intro A9 cap9 u m;simp only[zF,zG] at m;rw[show (kW (dW vt) bn k).flatMap aM++_=(kW (dW vt) bn (k+1)).flatMap aM by rw[acK (by rw[←hn8];exact hx),List.flatMap_append];rfl] at m;refine aN ⟨m.sel [false,true,false,true],?_⟩;refine aS aP (bV ?_);apply aW 6 [0] m;simp only[↓aC];refine⟨by omega,?_⟩;exact hK1 (n8-(k+1)) _ _ (by omega) (by kernel_rfl) ⟨k+1,_,_,rfl,(m.sel [false,false,true,true]),by omega,rfl⟩
   ·
    obtain rfl:n8=k:=by omega
    apply aK 3 [0] m;simp only[↓aC];refine Cp bL (c:=9) (by kernel_rfl)  ?_;intro u g1 e_ h_ k_;replace m:=m.newB e_ h_ k_;simp only[zz];replace m:=m.own 0 rfl (n:=0) (c:=9) rfl (kG rfl);simp only[zG] at m;apply aL 1 [0] m;simp only[↓aC];refine bW m 0 rfl rfl bL gR rfl (by decide) rfl rfl (m.o 1 rfl).own.1 (m.o 1 rfl).row (pU _) (by omega) (by omega) ?_;intro A12 cap12 u m;simp only[zF,zG] at m;simp only[ar,bt] at m ⊢;apply aL 6 [0] m;simp only[↓aC];refine aB (cL rfl rfl (by omega) e60) ?_;apply aL 1 [0] m;simp only[↓aC,sW,uE];refine⟨by omega,?_⟩;refine bC rfl rfl (mA (ts:=(dW vt)) _ ((m.o 2 rfl).tris hit) (by omega) (by omega)) ?_;rintro v u e_ ⟨A13,n13,c13,A14,n14,c14,rfl,hn13,hn14,hM⟩;replace m:=m.plus hM;clear hM;simp only[cg,bt] at m;apply aL 10 [0] m;simp only[↓aC];refine aB (cL rfl rfl (by omega) e60) ?_;apply aL 1 [0] m;simp only[↓aC,sW,uE];refine⟨by omega,?_⟩;refine bC rfl rfl (mA (ts:=(kW (dW vt) bn n8)) _ ((m.o 3 rfl).tris hoi) (by omega) (by omega)) ?_;rintro v u e_ ⟨A15,n15,c15,A16,n16,c16,rfl,hn15,hn16,hM⟩;replace m:=m.plus hM;clear hM;simp only[cg,bt] at m;rw[Hq hcg] at hn15 hn16 m;have hle:=vW (l:=(dW vt)) (want:=(b%60));have hRI:=vV (want:=(b%60)) hit;apply aL 12 [0] m;simp only[↓aC];refine cN rfl (cM m rfl rfl (iH (Fl (xs:=(eL (dW vt) (b%60)).1) (ys:=(eL (dW vt) (b%60)).1) _ ((m.o 3 rfl).tris hRI) ((m.o 1 rfl).tris hRI) (by omega)) (by rw[decide_eq_true rfl])) ?_);rintro v u m rfl;apply aL 4 [0] m;simp only[↓aC];refine cN rfl (cM m rfl rfl (iH (Jy (xs:=(eL (dW vt) (b%60)).2) (ys:=(eL (dW vt) (b%60)).2) _ ((m.o 2 rfl).lat vZ (by decide)) ((m.o 0 rfl).lat vZ (by decide)) (by rw[hn14];exact be vX (by omega))) (by rw[decide_eq_true rfl])) ?_);rintro v u m rfl;apply aL 4 [0] m;simp only[↓aC];refine cN rfl (cM m rfl rfl (iH (Fl (xs:=(kW (dW vt) bn n8)) (ys:=(kW (dW vt) bn n8)) _ ((m.o 5 rfl).tris hoi) ((m.o 4 rfl).tris hoi) (by omega)) (by rw[decide_eq_true rfl])) ?_);rintro v u m rfl;apply aL 4 [] m;simp only[↓aC];exact aT rfl rfl ⟨_,rfl,m.ext,rfl⟩
end Go.Proofs.YtfekpcimgncioaaGreatDoor
namespace Go.Lith
open Go.RowKit Go.ChangeShapes
variable {H:Type} {enc:av × ai→H} {P:Program}
theorem lV(hl:laidOutB P=true){W W':World}(hb:gJ W W'){sp:Nat→Bool} :
 ∀{ts:List av} {vs:List ai} {ds:List (DataW H)} {ps:List MemPlace},(ts.all fun t=>P.readableRec t&&decide (t<P.types.size))=true→DataW.TrodAll enc P W 0 (fun _=>true) true ts vs ds ps→(∀p∈ps,sp p.block=true)→DataW.TrodAll enc P W' 0 sp true ts vs ds ps
 | [],[],[],_,_,h,_=>h
 | [],[],_::_,_,_,h,_=>h.elim
 | [],_::_,_,_,_,h,_=>h.elim
 | _::_,[],_,_,_,h,_=>h.elim
 | _::_,_::_,[],_,_,h,_=>h.elim
 | t::ts,v::vs,d::ds,ps,hv,h,hs=>by
  obtain⟨p,q,⟨n,h1⟩,h2,e⟩:=h;subst e;simp only[List.all_cons,Bool.and_eq_true,decide_eq_true_eq] at hv;have hlt:=DataW.trod_lt n _ _ _ h1;exact⟨p,q,⟨n,DataW.trod_stays (kids_book hl hv.1.1) (book_sized hv.1.1) (fun h=>by cases h) ⟨hv.1.2,book_self t⟩ h1 (fun x hx=>Below.same hb (hlt x hx)) (fun x hx=>hs x (by simp[hx]))⟩,
   lV hl hb (by simpa using hv.2) h2 (fun x hx=>hs x (by simp[hx])),rfl⟩
theorem sN{f:Func}{s:ChangeSpec}{apart fresh handsOn again:Bool}{W W':World}{args:Array ai}{t:av}{ds gs:List (DataW H)}{before:List MemPlace}
 (hl:laidOutB P=true) (hps:(f.params.toList.all fun t=>P.readableRec t&&decide (t<P.types.size))=true) (hv:s.vars=[]) (hr:f.resultTypes = #[t]) (hu:P.underlying t=some .bool)
 (hW:DataW.Whole enc P f.params.toList s.vars apart W args.toList ds gs before) (hfn:(s.fn H (ds++gs)).results=[.lit (.bool true)]∧(s.fn H (ds++gs)).args=ds∧(s.fn H (ds++gs)).vars=[]) (hb:gJ W W') :
 s.post enc P f apart fresh handsOn again W args (.bool true) W':=by
 have hW0:=hW;obtain⟨p,q,hA,hV,rfl,hz,hn⟩:=hW0;rw[hv] at hV;obtain⟨rfl,rfl⟩:=trodVars_none hV;have hargs:∀sp:Nat→Bool,(∀x∈p++[],sp x.block=true)→DataW.TrodAll enc P W' 0 sp true f.params.toList args.toList (s.fn H (ds++[])).args p:=fun sp hsp=>by
  rw[hfn.2.1];exact lV hl hb hps hA (fun x hx=>hsp x (by simp[hx]))
 have hvars:∀sp:Nat→Bool,DataW.TrodVars enc P W' sp s.vars (s.fn H (ds++[])).vars []:=fun sp=>by
  rw[hv,hfn.2.2];exact rfl
 have hres:∀(b:Nat) (sp:Nat→Bool) (hd:Bool),DataW.TrodAll enc P W' b sp hd f.resultTypes.toList ((Value.bool true).resultList f.resultTypes.size) (s.fn H (ds++[])).results []:=fun b sp hd=>by
  rw[hr,hfn.1];exact trodAll_cons_mk (shut_bool hu true) trodAll_mk0
 have hok:∀(j:Nat) (t:av) (r:ai),f.resultTypes[j]? = some t→((Value.bool true).resultList f.resultTypes.size)[j]? = some r→Value.okWide P W' .any 0 t r:=ok_one hr rfl (okWide_bool_mk hu _);have hlt:∀x∈p++[],x.block<W.heap.size:=hW.lt;have hold:∀x∈p++[],(fun b=>decide (b<W.heap.size)) x.block=true:=fun x hx=>by simpa using hlt x hx
 refine⟨ds,[],p++[],[],p,[],hW,hres _ _ _,hargs _ hold,hvars _,Below.frame hb _,fun _=>?_⟩;refine⟨hok,_,_,([]++p)++[],⟨[]++p,[],trodAll_append (hargs _ (fun _ _=>rfl)) (hres _ _ _),hvars _,rfl,?_,?_⟩,?_⟩
 · intro b off hp
   have h1:MemPlace.cell b off∈p++[]:=by simpa using hp
   rw[Below.frozen hb (p:=⟨b,off,none⟩) (hlt _ h1)];exact hz b off h1
 · intro ha
   simpa using hn ha
 · intro x hp _
   simpa using hp
end Go.Lith
namespace Go.Proofs.YtfekpcimgncioaaGreatDoor.collapseOrder
open Go.Proofs.Tryz
open Go.ChangeShapes Go.WideShapes Go.ChangeAt Go.RowKit Go.Lith
set_option maxRecDepth 100000
theorem own:ownKnob prog.godebug=none:=by kernel_rfl
theorem laidOut:laidOutB prog=true:=by kernel_rfl
theorem contract(H:Type)(enc:av × ai→H)(W:World)(base:Nat)(args:Array ai)(ds gs:List (DataW H))(before:List MemPlace)
 (hval:∀(j:Nat) t v,Tryz.f10.params[j]? = some t→args[j]? = some v→Value.okWide prog W .any base t v)
 (hW:DataW.Whole enc prog Tryz.f10.params.toList Rows.collapseOrderSpec.vars false W args.toList ds gs before) :
 Calls prog 10 args W fun e W'=>∃v,e=.returned v∧Rows.collapseOrderSpec.post enc prog Tryz.f10 false true false false W args v W':=by
 have hW':=hW;obtain⟨p,q,hA,hV,rfl,hfz,hnd⟩:=hW;rw[params10] at hA hval;obtain⟨v0,vs0,d0,ds0,p0,q0,e0,rfl,rfl,h0,r0⟩:=trodAll_cons hA;obtain⟨v1,vs1,d1,ds1,p1,q1,e1,rfl,rfl,h1,r1⟩:=trodAll_cons r0;obtain⟨v2,vs2,d2,ds2,p2,q2,e2,rfl,rfl,h2,r2⟩:=trodAll_cons r1;obtain⟨rfl,rfl,rfl⟩:=trodAll_nil r2;subst e2;subst e1;obtain rfl:args = #[v0,v1,v2]:=by cases args;simp_all
 obtain⟨rfl,rfl⟩:=trodVars_none hV;obtain⟨HA0,HN0,Hc0,zs0,rfl,hL0,hcp0,hI0⟩:=If (n:=5) lM (by kernel_rfl) (by kernel_rfl) (hval 0 22 v0 rfl rfl) h0;obtain⟨a1,rfl,_,_,wt1⟩:=open_int underlying23 (hval 1 23 v1 rfl rfl) h1;have wb1:=bounds_u16 wt1;obtain⟨a2,rfl,_,_,wt2⟩:=open_int agS (hval 2 5 v2 rfl rfl) h2;have wb2:=bounds_u8 wt2;refine (tA W hL0 hcp0 hI0 (show 0≤a1∧a1<65536 by omega) (show 0≤a2∧a2<256 by omega)).2.mono ?_;rintro e W' ⟨v,rfl,hE,rfl⟩;exact⟨_,rfl,sN laidOut (by kernel_rfl) rfl rfl Vc hW' ⟨rfl,rfl,rfl⟩ hE⟩
def accepts:List ai:=[128,191,160,191,128,159,144,191,128,143,0,0,0,0,0,0,0,0,0,0,0,0,0,0,0,0,0,0,0,0,0,0].map fun n=>.int .u8 n
def firsts:List ai:=Go.Pinned.utf8FirstZ.map fun (n:Nat)=>Value.int .u8 (n:Int)
def relaid(cs:List ai):Obj→Obj
 | .cells _ t frozen=>.cells cs.toArray t frozen
 | o=>o
noncomputable def laidWorld(os:Os):World :=
 { World.holding prog os ⟨#[],#[],[]⟩ with heap:=((World.holding prog os ⟨#[],#[],[]⟩).heap.modify 0 (relaid firsts)).modify 1 (relaid accepts) }
def inp:Array ai:=#[.slice none 0 0,.int .u16 0,.int .u8 0]
theorem laid_met(os:Os):laidMet prog Rows.collapseOrderRow.laid ((laidWorld os).forCall (fun _ _=>0) ⟨#[],inp,[]⟩).memory :=
 laidMet_of_run' 8 (by kernel_rfl) (by kernel_rfl)
theorem reads(os:Os){H:Type}(enc:av × ai→H):∃places,DataW.whole enc prog ((laidWorld os).forCall (fun _ _=>0) ⟨#[],inp,[]⟩).memory Tryz.f10.params.toList Rows.collapseOrderSpec.vars false inp.toList 8=some ([.nil,.lit (.int .u16 0),.lit (.int .u8 0)],[],places) :=
 ⟨[],by kernel_rfl⟩
theorem lifted(os:Os)(started:os.Started)(H:Type)(enc:av × ai→H)(F:Stop.Interp) :
 ReturnsInHanded {} checked os 10 .any ((OpenSpec.ofChange Rows.collapseOrderSpec).preRow enc prog Tryz.f10 Rows.collapseOrderRow.domain false Rows.collapseOrderRow.laid) (((OpenSpec.ofChange Rows.collapseOrderSpec).at F).post enc prog Tryz.f10 false true false false):=by
 obtain⟨places,hx⟩:=reads os enc;refine returnsInHanded_of_row (C:=checked) (s:=OpenSpec.ofChange Rows.collapseOrderSpec) own started (by kernel_rfl) func10
  (witness_row_at (enc:=enc) (C:=checked) false (laidWorld os) inp rfl (by kernel_rfl) (by kernel_rfl) (by kernel_rfl)
   (OpenSpec.preRow_of_cond 8 hx (by kernel_rfl) (fun k hk=>by cases hk) (by kernel_rfl) (laid_met os))) ?_
 intro W base args ds gs before hval hW _ hc _ hL _ _;exact contract H enc W base args ds gs before hval hW
theorem j1:(Rows.collapseOrderRow.inPlace == Tryz.pinned.checked.prog.inPlace 10)=true:=by kernel_rfl
theorem j2:(Rows.collapseOrderRow.unfollowed == Tryz.pinned.checked.prog.unfollowed 10)=true:=by kernel_rfl
theorem j3:(Rows.collapseOrderRow.recurses == Tryz.pinned.checked.prog.recurses 10)=true:=by kernel_rfl
theorem j4:(Rows.collapseOrderRow.named == Tryz.pinned.checked.prog.varsNamed 10)=true:=by kernel_rfl
theorem j5:false=Rows.collapseOrderRow.goesBy Tryz.pinned.checked.prog:=by kernel_rfl
theorem Ur:joinedFacts Tryz.pinned.checked.prog 10 Tryz.f10 (OpenSpec.ofChange Rows.collapseOrderSpec).bare Rows.collapseOrderRow=true:=by
 unfold joinedFacts;rw[j1,j2,j3,j4]
 kernel_rfl
theorem said:Rows.CollapseOrderSaid :=
 OpenClaim.holds_of_cond 10 Tryz.f10 rfl rfl rfl rfl rfl rfl rfl ⟨rfl,rfl,rfl,rfl,rfl⟩ rfl rfl rfl rfl rfl (by kernel_rfl) func10 Ur
  (of_decide_eq_true (by kernel_rfl)) (by unfold Func.isWrapper;first | (rw[if_pos (by decide +kernel)];kernel_rfl) | (rw[if_neg (by decide +kernel)];exact⟨rfl,rfl⟩))
  (fun os started H enc _ F=>by rw[OpenClaim.pre_eq_preRow];exact lifted os started H enc F)
theorem plain(f:FuncId)(fn:Func)(hf:Tryz.pinned.checked.prog.funcNamed Rows.collapseOrderRow.func=some f)(hfn:Tryz.pinned.checked.prog.funcs[f]? = some fn) :
 false=Tryz.pinned.checked.prog.looks []∧∀(j:Nat) t,fn.params[j]? = some t→Tryz.pinned.checked.prog.wantsStandIn t=false:=by
 obtain rfl:f=10:=ep ((show prog.funcNamed Rows.collapseOrderRow.func=some 10 by kernel_rfl).symm.trans hf) |>.symm
 obtain rfl:fn=Tryz.f10:=(ep (func10.symm.trans hfn)).symm;refine⟨by kernel_rfl,fun j t ht=>?_⟩;rw[params10] at ht;have hm:t∈[22,23,5]:=by simpa using Array.mem_of_getElem? ht
 have hall:([22,23,5].all fun u=>!prog.wantsStandIn u)=true:=by kernel_rfl
 exact (show prog.wantsStandIn t=false by simpa using List.all_eq_true.1 hall t hm)
theorem card:Rows.CollapseOrderCardSaid :=
 Claim7.holds_tied_plain_at .later [] _ _ _ _ said (fun _ h=>by cases h) (by kernel_rfl) (fun _ h=>by cases h) collapseOrder_row_tie rfl ⟨rfl,rfl⟩ (by kernel_rfl) rfl plain j5
end Go.Proofs.YtfekpcimgncioaaGreatDoor.collapseOrder
