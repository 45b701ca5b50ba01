/-
 Texts of one claim, laid together: K76, K81, K82, K83, Join, JoinCollapseMoves.
-/
import Derived.OpenVars
import Derived.OpenShut
import Derived.WalkKit
import Derived.ProofKit
import Derived.Test.YtfekpcimgncioaaGreatDoorCards
import Derived.Test.YtfekpcimgncioaaGreatDoorTie
import Derived.Deep.DeepHandedRow
import Derived.Lib.LaidTab
import Derived.Test.YtfekpcimgncioaaGreatDoorG9
open Nat renaming reduceAdd→aa,reduceMul→ah,le_refl→ao,zero_add→ar,le_trans→be,mod_lt→fw,not_lt_zero→mg
open Int renaming reduceToNat→ad,toNat_natCast→ag,tmod_eq_emod_of_nonneg→fu
open Go renaming Value→ai,World→aj,TypeId→av
open List renaming getElem?_eq_getElem→ak,getElem?_eq_some_iff→ap,mem_singleton→az,length_map→bf,mem_of_getElem?→bj,nil_append→bt,cons_append→cg,mem_map→cw,replicate→db,mem_flatMap→dl,getElem?_map→eh,drop_eq_getElem_cons→fl,getElem_mem→fv,getElem?_set_self→jk,getElem_map→j_
open Bool renaming and_eq_true→ba
open Go.Value renaming bool→bm
open Option.some renaming inj→ep
set_option maxHeartbeats 8000000
set_option linter.unusedSimpArgs false
set_option linter.unusedVariables false
set_option linter.unusedSectionVars false
namespace Go.Proofs.YtfekpcimgncioaaGreatDoor
open Go.Proofs.Tryz
open Go.RowKit Go.Lith
set_option maxRecDepth 100000
attribute [local irreducible] wpList wpQuiet fA bF cG Code.wp
attribute [local congr] nO fK fM fN fO fP iY fQ fR fS fT fU fV fW fX fY fZ gA dX dY gB gC gE gF gG jA cQ cR cE cP gD iZ dZ eA eB gH gI jD
variable{l:List T3}{want:Int}{cap k N:Nat}{ms:List Mv}{x:Mv}
theorem sK:∀(n:Nat) {want:Int} {l:List T3} {q:P3→List Int} {D:List Mv},(∀t∈l,IT t)→∀t∈(eU n want l q D).1,IT t
 | 0,_,_,_,_,h=>h
 | n+1,want,l,q,D,h=>by
  unfold eU;split
  · exact h
  · cases hb:oM l q with
    | none=>exact h
    | some c=>exact sK n (kV (Ki (Bl h (No (Pw.1 (yC hb).1).2.1).2) h))
theorem vV(h:∀t∈l,IT t):∀t∈(eL l want).1,IT t:=by
 unfold eL;split
 · exact kV h
 · exact sK _ (kV h)
theorem sL:∀(n:Nat) {want:Int} {l:List T3} {q:P3→List Int} {D:List Mv},(eU n want l q D).1.length≤l.length
 | 0,_,_,_,_=>ao _
 | n+1,want,l,q,D=>by
  unfold eU;split
  · exact ao _
  · cases hb:oM l q with
    | none=>exact ao _
    | some c=>exact be (sL n) (Nat.le_of_lt (lK hb))
theorem vW   : (eL l want).1.length≤l.length:=by
 unfold eL;split
 · rw[eH];exact ao _
 · exact be (sL _) (Nat.le_of_eq (eH _))
theorem sM:∀(n:Nat) {want:Int} {l:List T3} {q:P3→List Int} {D:List Mv},(eU n want l q D).2.length+(eU n want l q D).1.length≤D.length+l.length
 | 0,_,_,_,_=>ao _
 | n+1,want,l,q,D=>by
  unfold eU;split
  · exact ao _
  · cases hb:oM l q with
    | none=>exact ao _
    | some c =>
     have h1:=sM n (want:=want) (l:=eZ l c.u c.v) (q:=By q c.u c.v) (D:=Lf D c.u c.v);have h2:=lK hb;have h3:(Lf D c.u c.v).length≤D.length+1:=by
      have:=mY (D.map fun e=>(e.1,jW c.u c.v e.2)) c.u c.v;rw[bf] at this;exact this
     show (eU n want (eZ l c.u c.v) (By q c.u c.v) (Lf D c.u c.v)).2.length+(eU n want (eZ l c.u c.v) (By q c.u c.v) (Lf D c.u c.v)).1.length≤_
     omega
theorem vX   : (eL l want).2.length≤l.length:=by
 unfold eL;split
 · exact Nat.zero_le _
 · show (iF _).length≤_
   unfold iF;rw[bf,(iP _).length_eq,bf];have h1:=sM (bK l).length (want:=want) (l:=bK l) (q:=sV (bK l)) (D:=[]);rw[eH] at h1;simp only[List.length_nil,ar] at h1;rw[eH];omega
theorem uI{w0 w:aj}{S:List (Option Nat)}{E:av}{g n:Nat}{t:T3}{ts:List T3}(h:Ow w0 w S E 9 (some ⟨g,0,none⟩) n cap (ts.flatMap aM))(ht:ts[k]? = some t):mT w ⟨g,k*9,none⟩ (aM t):=by
 have:=(h.lat (enc:=aM) ac4 (by decide)).at ht;rwa [dV,ar] at this
def nI(N b k:Nat):Nat:=if N%7=0 then (k+b)%N else (k*7+b)%N
def Kz(k:Nat)(x:T3):T3:=⟨x.cor (k%3),x.cor ((k+1)%3),x.cor ((k+2)%3)⟩
def La(l:List T3)(b k:Nat):T3:=Kz k ((l[nI l.length b k]?).getD ⟨⟨0,0,0⟩,⟨0,0,0⟩,⟨0,0,0⟩⟩)
def kW(l:List T3)(b k:Nat):List T3:=(List.range k).map (La l b)
theorem nJ{b:Nat}(h:k<N):nI N b k<N:=by
 unfold nI;split <;> exact fw _ (by omega)
theorem yT(k:Nat)(x:T3):Hh x (Kz k x):=by
 have h:k%3=0∨k%3=1∨k%3=2:=by omega
 unfold Kz Hh;rcases h with h | h | h
 · rw[h,show (k+1)%3=1 by omega,show (k+2)%3=2 by omega];exact .inl rfl
 · rw[h,show (k+1)%3=2 by omega,show (k+2)%3=0 by omega];exact .inr (.inl rfl)
 · rw[h,show (k+1)%3=0 by omega,show (k+2)%3=1 by omega];exact .inr (.inr rfl)
theorem acK{b:Nat}{x:T3}(hx:l[nI l.length b k]? = some x):kW l b (k+1)=kW l b k++[Kz k x]:=by
 unfold kW;rw[List.range_succ,List.map_append,List.map_singleton,La,hx];rfl
theorem yU{b:Nat}(hd:∀t∈l,t.nd=true):bK (kW l b l.length)=bK l:=by
 refine wR (Hr (f:=nI l.length b) (by simp[kW]) (fun i hi=>nJ hi) (fun i j hi hj h=>?_) fun i x hx=>?_)
 · unfold nI at h
   split at h
   · exact aau hi hj h
   · rename_i h7;exact aat h7 hi hj h
 · have hi:i<l.length:=by
    have:=(ap.1 hx).1;simpa[kW] using this
   have hy:l[nI l.length b i]? = some (l[nI l.length b i]'(nJ hi)):=ak (nJ hi);refine⟨_,hy,?_⟩;unfold kW at hx;rw[eh,List.getElem?_range hi,Option.map_some,La,hy] at hx;cases hx;exact vK (yT i _) (hd _ (fv _))
theorem Uq{b:Nat}(hk:k≤l.length)(h:∀t∈l,IT t):∀t∈kW l b k,IT t:=fun t ht=>by
 obtain⟨i,hi,rfl⟩:=cw.1 ht;have hi:=List.mem_range.1 hi;unfold La;rw[ak (nJ (show i<l.length by omega))];have hx:=h _ (fv (nJ (b:=b) (show i<l.length by omega)));exact⟨⟨(iA hx).1,(iA hx).2.1,(iA hx).2.2⟩,⟨(iA hx).1,(iA hx).2.1,(iA hx).2.2⟩,⟨(iA hx).1,(iA hx).2.1,(iA hx).2.2⟩⟩
theorem tA{A:Option Addr}{zs:List Int}{a0 b:Int}(w:aj)(hL:vY aaB 1 w A N zs)(hcp:N≤cap)(hI:∀z∈zs,rN z)(ha:0≤a0∧a0<65536)(hb:0≤b∧b<256):dK prog 10 [.slice A N cap,.int .u16 a0,.int .u8 b] w (fun v _=>v=.bool true):=by
 refine⟨ah8,?_⟩;have m:=Mem.refl w;have hl:=hL.len;obtain⟨M,hM⟩:∃M,M=min 4 N:=⟨_,rfl⟩
 have e60:b.tmod 60=b%60:=fu hb.1;obtain⟨bn,rfl⟩:=Int.eq_ofNat_of_zero_le ha.1
 go_enter func10,ntmps10
 apply fG 6 [0] m;simp only[↓aC];refine wA m rfl rfl Es 8 [] ?_;simp only[↓aC,Oi];intro u m;rw[show (if (4:Int)<(N:Int) then (4:Int) else (N:Int))=(M:Int) by split <;> omega];refine go (aB (kL lM bD rfl rfl (ag _) (by omega) (by omega)) ?_);simp only[zz];refine bC rfl rfl (vU _ ((hL.ext m.ext).take (show M≤N by omega)) (fun z hz=>hI z (List.mem_of_mem_take hz))) ?_;rintro v u e_ ⟨vt,hBo,⟨hl0,hit⟩,A8,cap8,n8,hn8,rfl,h_⟩;replace m:=m.newO e_ h_;have hnd:=vT (Ba hBo);have hcg:=yU (b:=bn) hnd;have hoi:=Uq (b:=bn) (ao _) hit;rw[←hn8] at hl0 hcg hoi;apply aL 4 [0] m;simp only[↓aC];refine aB aP ?_;replace m:=m.nilO 39 9;apply aL 7 [0] m;simp only[↓aC];refine bX [9,10] [11,24,25,26,27,28,29,30,31,32,33,34,35,36,37,38,39,40,41,42,43,44,45,46,47,48,49,50,51,52,53,54,55,56,57,58,59,60,61,62,63,64,65,66,67,68,69,70,71,72] (fun n vs wl=>∃(k:Nat) (A9:Option Addr) (cap9:Nat),vs=[.slice A9 k cap9,.int .i64 (k:Int)]∧Mem w wl [oI 39 9 A9 k cap9 ((kW (dW vt) bn k).flatMap aM),oI 39 9 A8 n8 cap8 ((dW vt).flatMap aM)]∧(k≤n8)∧(n=n8-k)) ?_ ?_
 ·
  exact⟨_,0,none,0,rfl,m,by omega,rfl⟩
 · intro n vs wr hI u K1 hK1
   obtain⟨k,A9,cap9,rfl,m,hk,hn⟩:=hI;simp only[zu,zF,zG];apply aK 8 [0,0] m;simp only[↓aC,eV];refine bA rfl ?_ ?_<;>intro hc1
   ·
    obtain⟨g,rfl⟩:=(m.o 1 rfl).some (by omega);obtain⟨x1,hx1⟩:∃x,(dW vt)[(k*7+bn)%n8]? = some x:=⟨_,ak (by rw[←hn8];exact fw _ (by omega))⟩
    obtain⟨x2,hx2⟩:∃x,(dW vt)[(k+bn)%n8]? = some x:=⟨_,ak (by rw[←hn8];exact fw _ (by omega))⟩
    have hk1:(k*7+bn)%n8<n8:=fw _ (by omega);have hk2:(k+bn)%n8<n8:=fw _ (by omega);apply aK 13 [0] m;simp only[↓aC,Su,uE,eV];refine⟨by omega,?_⟩;refine aB (cL rfl rfl (by omega) (show ((k:Int)*7+(bn:Int)).tmod (n8:Int)=(((k*7+bn)%n8:Nat):Int) from rfl)) ?_;simp only[zz];refine aB (aF bL aO rfl rfl (by omega) (by omega) jH) ?_;simp only[zz];refine aR rfl (show eQ _ _ _ _ (tr x1) from (uI (m.o 1 rfl) hx1).lies cK aO) ?_;simp only[zz];apply kP 6 [0] m;simp only[↓aC,nC,gX,aa];intro g1 u m;apply aW 2 [0] m;simp only[↓aC,eV];refine aB (cL rfl rfl (by omega) (show ((n8:Nat):Int).tmod 7=((n8%7:Nat):Int) from rfl)) ?_;apply aL 2 [0,0] m;simp only[↓aC];refine iO m 0 [] [45,46,47,48,49,50,51,52,53,54] (fun vs i=>∃(x:T3),vs=[]∧i=bI g1 (aM x) 39∧((dW vt)[nI n8 bn k]? = some x)) ?_ ?_
    · intro K2 hK2
      refine bA rfl ?_ ?_<;>intro hc2
      ·
       apply aK 8 [0] m;simp only[↓aC,Su,uE,eV];refine⟨by omega,?_⟩;refine aB (cL rfl rfl (by omega) (show ((k:Int)+(bn:Int)).tmod (n8:Int)=(((k+bn)%n8:Nat):Int) from rfl)) ?_;simp only[zz];refine aB (aF bL aO rfl rfl (by omega) (by omega) jH) ?_;simp only[zz];refine aR rfl (show eQ _ _ _ _ (tr x2) from (uI (m.o 2 rfl) hx2).lies cK aO) ?_;simp only[zz];apply kP 2 [0,0] m;simp only[↓aC,gX,aa];intro u m;exact hK2 _ _ _ (by kernel_rfl) m ⟨x2,rfl,rfl,by rw[nI,if_pos (by omega)];exact hx2⟩
      ·
       apply aK 1 [0] m;simp only[↓aC];exact hK2 _ _ _ (by kernel_rfl) m ⟨x1,rfl,rfl,by rw[nI,if_neg (by omega)];exact hx1⟩
    · intro vs i wr m hI u
      obtain⟨x,rfl,rfl,hx⟩:=hI;simp only[zF,zG] at m;simp only[zu,zF,zG];refine gc (mh m [true,false,true] [(0,true),(1,true),(2,true),(3,true),(5,true),(6,true),(7,true),(8,true),(10,true),(11,true),(12,true),(13,true),(4,true),(9,true),(14,true),(15,true),(16,false),(17,false),(18,true)] aD (by kernel_rfl) (bT (fun _ _ _ _ _ h=>h)) (ol:=?_) ?hol ?_)
      case hol=>simp only[zw,zQ,zR];try rfl
      intro u m;refine aS aG (aS aG ?_);simp only[zz];refine aS (cL rfl rfl (by omega) (show (k:Int).tmod 3=((k%3:Nat):Int) from rfl)) ?_;simp only[zz];refine aS (aJ cT aA rfl rfl (by omega) (by omega) jH) (aS aG ?_);simp only[zz];refine aS (eS rfl rfl (bG (by omega) (by omega))) ?_;simp only[zz];refine aS (cL rfl rfl (by omega) (show ((k:Int)+1).tmod 3=(((k+1)%3:Nat):Int) from rfl)) ?_;simp only[zz];refine aS (aJ cT aA rfl rfl (by omega) (by omega) jH) (aS aG ?_);simp only[zz];refine aS (eS rfl rfl (bG (by omega) (by omega))) ?_;simp only[zz];refine aS (cL rfl rfl (by omega) (show ((k:Int)+2).tmod 3=(((k+2)%3:Nat):Int) from rfl)) ?_;simp only[zz];refine aS (aJ cT aA rfl rfl (by omega) (by omega) jH) ?_;simp only[zz];refine dF rfl (fun u m=>(show eQ _ _ _ _ (pt (x.cor (k%3))) from (uH (m.b 0 rfl) (show (k%3)<3 by omega)).lies aH aA)) ?_;simp only[zz];refine dF rfl (fun u m=>(show eQ _ _ _ _ (pt (x.cor ((k+1)%3))) from (uH (m.b 0 rfl) (show ((k+1)%3)<3 by omega)).lies aH aA)) ?_;simp only[zz];refine dF rfl (fun u m=>(show eQ _ _ _ _ (pt (x.cor ((k+2)%3))) from (uH (m.b 0 rfl) (show ((k+2)%3)<3 by omega)).lies aH aA)) ?_;simp only[zz];refine aS (lI rfl rfl rfl) (cF ?_);simp only[zz];refine eF rfl ?_;intro u g2 e_ h_ k_;replace m:=m.newB e_ h_ k_;refine aN ⟨m.sel [false,true,false,true],?_⟩;refine cF ?_;simp only[zz];refine bW m 2 rfl rfl bL gR rfl (by decide) rfl rfl rfl (m.b 0 rfl).rowsO (jX rfl) (by omega) (by omega) ?_;intro A9 cap9 u m;simp only[zF,zG] at m;rw[show (kW (dW vt) bn k).flatMap aM++_=(kW (dW vt) bn (k+1)).flatMap aM by rw[acK (by rw[←hn8];exact hx),List.flatMap_append];rfl] at m;refine aN ⟨m.sel [false,true,false,true],?_⟩;refine aS aP (bV ?_);apply aW 6 [0] m;simp only[↓aC];refine⟨by omega,?_⟩;exact hK1 (n8-(k+1)) _ _ (by omega) (by kernel_rfl) ⟨k+1,_,_,rfl,(m.sel [false,false,true,true]),by omega,rfl⟩
   ·
    obtain rfl:n8=k:=by omega
    apply aK 3 [0] m;simp only[↓aC];refine Cp bL (c:=9) (by kernel_rfl)  ?_;intro u g1 e_ h_ k_;replace m:=m.newB e_ h_ k_;simp only[zz];replace m:=m.own 0 rfl (n:=0) (c:=9) rfl (kG rfl);simp only[zG] at m;apply aL 1 [0] m;simp only[↓aC];refine bW m 0 rfl rfl bL gR rfl (by decide) rfl rfl (m.o 1 rfl).own.1 (m.o 1 rfl).row (pU _) (by omega) (by omega) ?_;intro A12 cap12 u m;simp only[zF,zG] at m;simp only[ar,bt] at m ⊢;apply aL 6 [0] m;simp only[↓aC];refine aB (cL rfl rfl (by omega) e60) ?_;apply aL 1 [0] m;simp only[↓aC,sW,uE];refine⟨by omega,?_⟩;refine bC rfl rfl (mA (ts:=(dW vt)) _ ((m.o 2 rfl).tris hit) (by omega) (by omega)) ?_;rintro v u e_ ⟨A13,n13,c13,A14,n14,c14,rfl,hn13,hn14,hM⟩;replace m:=m.plus hM;clear hM;simp only[cg,bt] at m;apply aL 10 [0] m;simp only[↓aC];refine aB (cL rfl rfl (by omega) e60) ?_;apply aL 1 [0] m;simp only[↓aC,sW,uE];refine⟨by omega,?_⟩;refine bC rfl rfl (mA (ts:=(kW (dW vt) bn n8)) _ ((m.o 3 rfl).tris hoi) (by omega) (by omega)) ?_;rintro v u e_ ⟨A15,n15,c15,A16,n16,c16,rfl,hn15,hn16,hM⟩;replace m:=m.plus hM;clear hM;simp only[cg,bt] at m;rw[Hq hcg] at hn15 hn16 m;have hle:=vW (l:=(dW vt)) (want:=(b%60));have hRI:=vV (want:=(b%60)) hit;apply aL 12 [0] m;simp only[↓aC];refine cN rfl (cM m rfl rfl (iH (Fl (xs:=(eL (dW vt) (b%60)).1) (ys:=(eL (dW vt) (b%60)).1) _ ((m.o 3 rfl).tris hRI) ((m.o 1 rfl).tris hRI) (by omega)) (by rw[decide_eq_true rfl])) ?_);rintro v u m rfl;apply aL 4 [0] m;simp only[↓aC];refine cN rfl (cM m rfl rfl (iH (Jy (xs:=(eL (dW vt) (b%60)).2) (ys:=(eL (dW vt) (b%60)).2) _ ((m.o 2 rfl).lat vZ (by decide)) ((m.o 0 rfl).lat vZ (by decide)) (by rw[hn14];exact be vX (by omega))) (by rw[decide_eq_true rfl])) ?_);rintro v u m rfl;apply aL 4 [0] m;simp only[↓aC];refine cN rfl (cM m rfl rfl (iH (Fl (xs:=(kW (dW vt) bn n8)) (ys:=(kW (dW vt) bn n8)) _ ((m.o 5 rfl).tris hoi) ((m.o 4 rfl).tris hoi) (by omega)) (by rw[decide_eq_true rfl])) ?_);rintro v u m rfl;apply aL 4 [] m;simp only[↓aC];exact aT rfl rfl ⟨_,rfl,m.ext,rfl⟩
theorem as6{p:P3}(h:ms[k]? = some x)(e:x.1=p):yA (ms.drop k) p=x.2:=by
 obtain⟨hk,rfl⟩:=ap.1 h;rw[fl hk,yA,if_pos e]
theorem as7{p:P3}(h:ms[k]? = some x)(e:x.1≠p):yA (ms.drop k) p=yA (ms.drop (k+1)) p:=by
 obtain⟨hk,rfl⟩:=ap.1 h;rw[fl hk,yA,if_neg e]
theorem aa4{A:Option Addr}{p:P3}(w:aj)(hL:vY bO 6 w A N ms)(hN:N≤100000000):dK prog 34 [.slice A N cap,pt p] w (fun v _=>v=pt (yA ms p)):=by
 refine⟨bP func34 (by kernel_rfl),?_⟩;have m:=Mem.refl w;have hml:=hL.len
 go_enter func34,ntmps34
 apply mR 11 [0] m;simp only[↓aC,gM];intro g1 g2 u m;refine bX [5] [6,7,8,9,10,11,12,13,14,15,16,17,18,19,20,21,22,23] (fun n vs wl=>∃(k:Nat),vs=[.int .i64 (k:Int)]∧Mem w wl [bI g2 [.int .i64 0,.int .i64 0,.int .i64 0] 30,bI g1 [.int .i64 p.x,.int .i64 p.y,.int .i64 p.z] 30]∧(yA ms p=yA (ms.drop k) p)∧(k≤N)∧(n=N-k)) ?_ ?_
 ·
  exact⟨_,0,rfl,m,rfl,by omega,rfl⟩
 · intro n vs wr hI u K1 hK1
   obtain⟨k,rfl,m,hq,hk,hn⟩:=hI;simp only[zu,zF,zG];apply aK 8 [0,0] m;simp only[↓aC,Xn];refine bA rfl ?_ ?_<;>intro hc1
   ·
    obtain⟨x,hx,a,hA,hrow⟩:=hL.get (i:=k) (by omega);subst hA;apply aK 4 [0] m;simp only[↓aC];refine mh m [true,true] [(0,true),(1,true),(2,true),(3,true),(4,true),(5,true),(6,true)] aD (by kernel_rfl) (bT (fun _ _ _ _ _ h=>h)) (ol:=?_) ?hol ?_
    case hol=>simp only[zw,zQ,zR];try rfl
    intro u m;refine aS aG (aS aG ?_);simp only[zz];refine aS (aF xX mD rfl rfl (by omega) (by omega) (cH (ag _))) (Ps 1 [] ?_);simp only[↓aC,Fk,aa];refine dF rfl (fun u m=>(show eQ _ _ _ _ (pt x.1) from ((hrow.ext m.ext).take 3).lies aH aA)) ?_;simp only[zz];refine dF rfl (fun u m=>((m.b 1 rfl).full aH aA)) ?_;simp only[zz];refine aS (bZ rfl rfl) (bV (gc ?_));simp only[zz];refine bA rfl ?_ ?_<;>intro hc2
    ·
     rw[as6 hx (ahj.1 hc2)] at hq;apply aK 4 [0] m;simp only[↓aC];refine aB (aF xX mD rfl rfl (by omega) (by omega) (cH (ag _))) ?_;apply aL 1 [0] m;simp only[↓aC,afd,aa];refine aR rfl (show eQ _ _ _ _ (pt x.2) from (((hrow.ext m.ext).sub 3).take 3).lies aH aA) ?_;simp only[zz];apply kP 3 [0] m;simp only[↓aC,aU,aa];intro u m;refine aT rfl ⟨_,rfl,((m.b 0 rfl).full aH aA)⟩ ?_;try simp only[zD,zE]
     exact⟨_,rfl,m.ext,by rw[hq];rfl⟩
    ·
     rw[as7 hx (fun e=>hc2 (ahj.2 e))] at hq;apply aK 7 [0] m;simp only[↓aC];refine⟨by omega,?_⟩;exact hK1 (N-(k+1)) _ _ (by omega) (by kernel_rfl) ⟨k+1,rfl,m,hq,by omega,rfl⟩
   ·
    rw[List.drop_of_length_le (by omega)] at hq;apply zvc 7 [1,0] m;simp only[↓aC,aU,aa];intro u m;refine aT rfl ⟨_,rfl,((m.b 0 rfl).full aH aA)⟩ ?_;try simp only[zD,zE]
    exact⟨_,rfl,m.ext,by rw[hq];rfl⟩
theorem aoN{xs:List P3}{A:Option Addr}{p:P3}(w:aj)(hL:vY dU 3 w A N xs)(hN:N≤100000000):dK prog 37 [.slice A N cap,pt p] w (fun v _=>v=.bool (decide (p∈xs))):=by
 refine⟨bP func37 (by kernel_rfl),?_⟩;have m:=Mem.refl w;have hxl:=hL.len
 go_enter func37,ntmps37
 apply mR 11 [0] m;simp only[↓aC];intro g1 u m;refine bX [5] [4,6,7,8,9,10,11,12,13,14,15,16,17] (fun n vs wl=>∃(k:Nat),vs=[.int .i64 (k:Int)]∧Mem w wl [bI g1 [.int .i64 p.x,.int .i64 p.y,.int .i64 p.z] 30]∧(p∉xs.take k)∧(k≤N)∧(n=N-k)) ?_ ?_
 ·
  exact⟨_,0,rfl,m,(by simp),Nat.zero_le _,rfl⟩
 · intro n vs wr hI u K1 hK1
   obtain⟨k,rfl,m,hq,hk,hn⟩:=hI;simp only[zu,zF,zG];apply aK 8 [0,0] m;simp only[↓aC,lC];refine bA rfl ?_ ?_<;>intro hc1
   ·
    obtain⟨x,hx,a,hA,hrow⟩:=hL.get (i:=k) (by omega);subst hA;apply aK 4 [0] m;simp only[↓aC];refine mq m aD (by kernel_rfl) (aI aG (aI aG ?_));simp only[zz];refine aI (aF eK aA rfl rfl (by omega) (by omega) (cH (ag _))) ?_;simp only[zz];refine ql rfl (fun u m=>(show eQ _ _ _ _ (pt x) from (hrow.ext m.ext).lies aH aA)) ?_;simp only[zz];refine ql rfl (fun u m=>((m.b 0 rfl).full aH aA)) ?_;simp only[zz];refine aI (bZ rfl rfl) (bE ?_);intro u m;refine gc ?_;simp only[zz];refine bA rfl ?_ ?_<;>intro hc2
    ·
     have hxp:x=p:=P3.eq hc2.1 hc2.2.1 hc2.2.2;apply aK 5 [] m;simp only[↓aC];refine aT rfl rfl ?_;try simp only[zD,zE]
     exact⟨_,rfl,m.ext,by rw[decide_eq_true (hxp▸bj hx)]⟩
    ·
     have hxp:x≠p:=fun h=>hc2 (by rw[h];exact⟨rfl,rfl,rfl⟩);apply aK 7 [0] m;simp only[↓aC];refine⟨by omega,?_⟩;exact hK1 (N-(k+1)) _ _ (by omega) (by kernel_rfl) ⟨k+1,rfl,m,(by rw[bY hx,List.mem_append,az];exact fun h=>h.elim hq fun e=>hxp e.symm),by omega,rfl⟩
   ·
    obtain rfl:k=N:=by omega
    apply aK 6 [] m;simp only[↓aC];refine aT rfl rfl ?_;try simp only[zD,zE]
    exact⟨_,rfl,m.ext,by rw[decide_eq_false (by rwa [List.take_of_length_le (by omega)] at hq)]⟩
end Go.Proofs.YtfekpcimgncioaaGreatDoor
namespace Go.Proofs.YtfekpcimgncioaaGreatDoor
open Go.Proofs.Tryz
open Go.RowKit Go.Lith
set_option maxRecDepth 100000
attribute [local irreducible] wpList wpQuiet fA bF cG Code.wp
variable{ms:List Mv}{t y:T3}
theorem afQ:∀{ts:List T3},(aQ ts).Nodup→ts.Nodup
 | [],_=>List.Pairwise.nil
 | t::ts,h=>by
  have e:aQ (t::ts)=[(t.a,t.b),(t.b,t.c),(t.c,t.a)]++aQ ts:=rfl;rw[e,List.nodup_append] at h;refine List.nodup_cons.2 ⟨fun hm=>?_,afQ h.2.1⟩;exact h.2.2 (t.a,t.b) (by simp) (t.a,t.b) (dl.2 ⟨t,hm,by simp⟩) rfl
theorem Nq{l:List T3}(h:∀t∈bK l,t.nd=true):∀t∈bK l,dR t=t:=fun t ht=>by
 obtain⟨s,hs,rfl⟩:=yG.1 ht;exact amB (by rw[←ai0];exact h _ ht)
theorem Yq:∀(n:Nat) {want:Int} {l:List T3} {q:P3→List Int} {D:List Mv},(∀t∈l,dR t=t)→∀t∈(eU n want l q D).1,dR t=t
 | 0,_,_,_,_,h=>h
 | n+1,want,l,q,D,h=>by
  unfold eU;split
  · exact h
  · cases hb:oM l q with
    | none=>exact h
    | some c=>exact Yq n (Nq (adJ l c.u c.v))
theorem ahw{l:List T3}{want:Int}(hd:∀t∈l,t.nd=true):∀t∈(eL l want).1,dR t=t:=by
 unfold eL;split
 · exact Nq (Sq hd)
 · exact Yq _ (Nq (Sq hd))
theorem arp{s r:List T3}(h:Tj s r ms)(hr:∀y∈r,dR y=y)(ht:t∈s)(hn:(t.img ms).nd=true):dR (t.img ms)∈r:=by
 have h1:dR (t.img ms)∈wD (yA ms) s:=dl.2 ⟨t,ht,by
  unfold hF;rw[if_pos (show (t.mapP (yA ms)).nd=true from hn)];exact az.2 rfl⟩
 obtain⟨y,hy,e⟩:=cw.1 (h.acc.hit.mem_iff.1 h1);rw[←e,hr y hy];exact hy
theorem arq{s r:List T3}(h:Tj s r ms)(hr:∀y∈r,dR y=y)(hy:y∈r):∃t∈s,(t.img ms).nd=true∧dR (t.img ms)=y:=by
 have h1:y∈wD (yA ms) s:=h.acc.hit.mem_iff.2 (cw.2 ⟨y,hy,hr y hy⟩);obtain⟨t,ht,hx⟩:=dl.1 h1;unfold hF at hx;split at hx
 · rename_i hn
   exact⟨t,ht,hn,(az.1 hx).symm⟩
 · cases hx
theorem ars{r:List T3}(h:r.Nodup){i j:Nat}(hi:r[i]? = some y)(hj:r[j]? = some y):i=j:=by
 obtain⟨h1,e1⟩:=ap.1 hi;obtain⟨h2,e2⟩:=ap.1 hj;exact (List.getElem_inj h).1 (e1.trans e2.symm)
def Lc(us r:List T3)(ms:List Mv)(k:Nat)(uv:List Bool):Prop:=∀(i j:Nat) (t:T3),i<k→us[i]? = some t→(t.img ms).nd=true→r[j]? = some (dR (t.img ms))→uv[j]? = some true
theorem Lc.set{us r:List T3}{k j:Nat}{uv:List Bool}(h:Lc us r ms k uv):Lc us r ms k (uv.set j true):=fun i j' t hi ht hn hj=>by
 have:=h i j' t hi ht hn hj;by_cases e:j=j'
 · subst e
   rw[jk (ap.1 this).1]
 · rw[List.getElem?_set_ne e];exact this
theorem Lc.step{us r:List T3}{k:Nat}{uv:List Bool}(h:Lc us r ms k uv)(ht:us[k]? = some t)(hk:(t.img ms).nd=true→∀j:Nat,r[j]? = some (dR (t.img ms))→uv[j]? = some true):Lc us r ms (k+1) uv:=fun i j t' hi ht' hn hj=>by
 by_cases e:i<k
 · exact h i j t' e ht' hn hj
 · obtain rfl:i=k:=by omega
   rw[ht] at ht';cases ht';exact hk hn j hj
end Go.Proofs.YtfekpcimgncioaaGreatDoor
namespace Go.Proofs.YtfekpcimgncioaaGreatDoor
open Go.Proofs.Tryz
open Go.RowKit Go.Lith
set_option maxRecDepth 100000
attribute [local irreducible] wpList wpQuiet fA bF cG Code.wp
attribute [local congr] nO fK fM fN fO fP iY fQ fR fS fT fU fV fW fX fY fZ gA dX dY gB gC gE gF gG jA cQ cR cE cP gD iZ dZ eA eB gH gI jD
variable{cap k:Nat}{us L:List T3}{Ms:List Mv}{x:Mv}
theorem Qp{w0 w:aj}{S:List (Option Nat)}{E:av}{g n:Nat}{e:E3}{es:List E3}(h:Ow w0 w S E 6 (some ⟨g,0,none⟩) n cap (es.flatMap bO))(he:es[k]? = some e):mT w ⟨g,k*6,none⟩ (bO e):=by
 have:=(h.lat (enc:=bO) vZ (by decide)).at he;rwa [dV,ar] at this
theorem anX(h:Tj us L Ms)(hr:∀y∈L,dR y=y){t:T3}(ht:t∈us)(hn:(t.img Ms).nd=true)(hf:∀i,i<L.length→L[i]? ≠ some (dR (t.img Ms))):False:=by
 obtain⟨i,hi,e⟩:=List.mem_iff_getElem.1 (arp h hr ht hn);exact hf i hi (by rw[ak hi,e])
theorem as8{p q r:P3}:(decide (p.x=q.x∧p.y=q.y∧p.z=q.z)||decide (q.x=r.x∧q.y=r.y∧q.z=r.z)||decide (r.x=p.x∧r.y=p.y∧r.z=p.z)) = !(⟨p,q,r⟩:T3).nd:=by
 have e:∀a b:P3,decide (a.x=b.x∧a.y=b.y∧a.z=b.z)=decide (a=b):=fun a b=>decide_eq_decide.2 ⟨fun h=>P3.eq h.1 h.2.1 h.2.2,fun h=>by rw[h];exact⟨rfl,rfl,rfl⟩⟩;rw[e,e,e];unfold T3.nd;simp only[ne_eq,decide_not,Bool.not_and,Bool.not_not]
theorem anY{x y:T3}{j:Nat}(h:∀i,i<j→L[i]? ≠ some x)(hy:L[j]? = some y)(hn:¬x=y):∀i,i<j+1→L[i]? ≠ some x:=fun i hi e=>by
 rcases Nat.lt_or_ge i j with h3 | h3
 · exact h i h3 e
 · obtain rfl:i=j:=by omega
   rw[hy] at e;exact hn (ep e).symm
theorem alr{uv:List Bool}(h:Tj us L Ms)(hr:∀y∈L,dR y=y)(hu:Lc us L Ms us.length uv):∀j,j<L.length→uv[j]? = some true:=fun j hj=>by
 obtain⟨t,ht,hn,e⟩:=arq h hr (fv hj);obtain⟨i,hi,rfl⟩:=List.mem_iff_getElem.1 ht;exact hu i j _ hi (ak hi) hn (by rw[ak hj,e])
theorem art(h:Mvs L us Ms){j:Nat}{y:Mv}(hx:Ms[j]? = some x)(hy:Ms[j+1]? = some y):x.1.Lt y.1:=by
 obtain⟨h1,rfl⟩:=ap.1 hx;obtain⟨h2,rfl⟩:=ap.1 hy;have:=List.pairwise_iff_getElem.1 h.pl j (j+1) (by rw[bf];exact h1) (by rw[bf];exact h2) (by omega);rwa [j_,j_] at this
theorem anZ(h:Mvs L us Ms)(hx:Ms[k]? = some x):decide (x.1∈bM L)=false:=decide_eq_false fun k=>h.nl x (bj hx) (iU.1 k)
theorem as9(h:Mvs L us Ms)(hx:Ms[k]? = some x):decide (x.2∈bM L)=true:=decide_eq_true (iU.2 (h.to x (bj hx)))
theorem Pi{A:Option Addr}{N:Nat}{zs:List Int}{x y b:Int}(w:aj)(hL:vY aaB 1 w A N zs)(hcp:N≤cap)(hI:∀z∈zs,rN z)(hx:0≤x∧x<65536)(hy:0≤y∧y<65536)(hb:0≤b∧b<256):dK prog 9 [.slice A N cap,.agg #[.int .u16 x,.int .u16 y],.int .u8 b] w (fun v _=>v=.bool true):=by
 refine⟨bP func9 (by kernel_rfl),?_⟩;have m:=Mem.refl w;have e60:b.tmod 60=b%60:=fu hb.1
 go_enter func9,ntmps9
 apply mR 7 [0] m;simp only[↓aC];intro g1 u m;refine wA m rfl rfl Es 6 [0,0] ?_;simp only[↓aC,aof];intro u m;refine bC rfl rfl (afP _ (hL.ext m.ext) hcp hI hx hy) ?_;rintro v u e_ ⟨us,A8,n8,c8,rfl,hT8,hn8,hck⟩;replace m:=m.ext' e_;apply aL 2 [] m;simp only[↓aC];obtain⟨w1,rfl⟩:∃x,x=u:=⟨u,rfl⟩
 have hw1:=m.ext;replace m:=Mem.refl w1;apply aW 4 [0] m;simp only[↓aC];refine aB (cL rfl rfl (by omega) e60) ?_;apply aL 1 [0] m;simp only[↓aC,sW,uE];refine⟨by omega,?_⟩;refine bC rfl rfl (mA (ts:=us) _ (hT8.ext m.ext) (by omega) (by omega)) ?_;rintro v u e_ ⟨A7,n7,c7,A9,n9,c9,rfl,hn7,hn9,hM⟩;replace m:=m.plus hM;clear hM;simp only[cg,bt] at m;have hul:=hT8.len;have hle:=vW (l:=us) (want:=b%60);have hLI:=vV (want:=b%60) (l:=us) hT8.it;have hsi:=Xt (want:=b%60) hck;have hmv:=vX (l:=us) (want:=b%60);have hfx:=ahw (want:=b%60) (vT hck);obtain⟨L,hL1⟩:∃L,L=(eL us (b%60)).1:=⟨_,rfl⟩
 obtain⟨Ms,hMs⟩:∃L,L=(eL us (b%60)).2:=⟨_,rfl⟩
 rw[←hL1] at m hn7 hle hLI hsi hfx;rw[←hMs] at m hn9 hsi hmv;have hnd:=afQ (Jk hsi.ck).2;apply aL 10 [0] m;simp only[↓aC,eV];refine tQ Eg aii rfl rfl rfl (ag _) (ag _) (by omega) (by omega) (by omega) (by omega) ?_;intro u g2 e_ h_ k_;replace m:=m.newB e_ h_ k_;apply aL 2 [] m;simp only[↓aC];rw[show db n7 (bm false)=(db n7 false).map bm from (List.map_replicate ..).symm] at m;apply aW 6 [0] m;simp only[↓aC];refine bX [12] [6,13,14,15,36,37,38,39,40,41,42,43,44,45,46,47,48,49,50,51,52,53,54,55,56,57,58,59,60,61,62,63,64,65,66,67,68,69,70,71,72,73,74,75,76,77,78,79,80,81,82,83,84,85,86,87,88,89,90,91,92,93,94,95,96,97,98,99,100,101,102,103,104] (fun n vs wl=>∃(k:Nat) (uv:List Bool),vs=[.int .i64 (k:Int)]∧Mem w1 wl [bI g2 (uv.map bm) 4,oI 55 6 A9 n9 c9 (Ms.flatMap bO),oI 39 9 A7 n7 c7 (L.flatMap aM)]∧(uv.length=n7)∧(Lc us L Ms k uv)∧(k≤n8)∧(n=n8-k)) ?_ ?_
 ·
  exact⟨_,0,db n7 false,rfl,m,List.length_replicate,fun _ _ _ h=>absurd h (mg _),by omega,rfl⟩
 · intro n vs wr hI u K1 hK1
   obtain⟨k,uv,rfl,m,huv,hum,hk,hn⟩:=hI;simp only[zu,zF,zG];apply aK 8 [0,0] m;simp only[↓aC,eV];refine bA rfl ?_ ?_<;>intro hc1
   ·
    obtain⟨t,ht,hit,a,hA,hrow⟩:=hT8.get (i:=k) (by omega);subst hA;apply aK 4 [0] m;simp only[↓aC];refine sO 23 [0,1,2,3,4,5,6,7,8,9,10,11,12,13,14,15,16,17,18,19,20,21] [⟨22,13,39,[.int .i64 0,.int .i64 0,.int .i64 0,.int .i64 0,.int .i64 0,.int .i64 0,.int .i64 0,.int .i64 0,.int .i64 0]⟩] aD (by kernel_rfl) (al1 ⟨_,_,_,rfl,by kernel_rfl,_,aeO,rfl⟩) (ol:=?_) ?hol ?_
    case hol=>simp only[zw,zQ,zR];try rfl
    intro u e_;replace m:=m.ext' e_;refine lS aG (lS aG (lS aG ?_));simp only[zz];refine lS (aF bL aO rfl rfl (by omega) (by omega) (cH (ag _))) (lS (aJ cT aA rfl rfl (by decide) (by decide) rfl) ?_);simp only[zz];refine pT rfl (fun u e=>((mT.cor (hrow.ext (m.ext' e).ext) (c:=0) (by omega)).lies aH aA)) ?_;simp only[zz];refine Po rfl rfl (fun u e=>aa4 (ms:=Ms) (p:=t.a) _ (((m.ext' e).o 1 rfl).lat vZ (by decide)) (by omega)) (lS aG (lS aG (lS aG ?_)));simp only[zz];refine lS (aF bL aO rfl rfl (by omega) (by omega) (cH (ag _))) (lS (aJ cT aA rfl rfl (by decide) (by decide) rfl) ?_);simp only[zz];refine pT rfl (fun u e=>((mT.cor (hrow.ext (m.ext' e).ext) (c:=1) (by omega)).lies aH aA)) ?_;simp only[zz];refine Po rfl rfl (fun u e=>aa4 (ms:=Ms) (p:=t.b) _ (((m.ext' e).o 1 rfl).lat vZ (by decide)) (by omega)) (lS aG (lS aG (lS aG ?_)));simp only[zz];refine lS (aF bL aO rfl rfl (by omega) (by omega) (cH (ag _))) (lS (aJ cT aA rfl rfl (by decide) (by decide) rfl) ?_);simp only[zz];refine pT rfl (fun u e=>((mT.cor (hrow.ext (m.ext' e).ext) (c:=2) (by omega)).lies aH aA)) ?_;simp only[zz];refine Po rfl rfl (fun u e=>aa4 (ms:=Ms) (p:=t.c) _ (((m.ext' e).o 1 rfl).lat vZ (by decide)) (by omega)) (lS (lI rfl rfl rfl) (ahU ?_));simp only[zz];refine mf1 m ?_;intro g3 u m;simp only[zJ,zK,zF,zG];refine cU m 0 rfl rfl rfl aO (kG rfl) rfl ?_;intro u m;simp only[zy,zx,over,zF,zG,aa] at m;refine aN ?_;apply aW 6 [0,0,0] m;simp only[↓aC,dD,aU,ad,ah,aa];refine⟨by omega,?_⟩;refine aB (bZ rfl rfl) ?_;apply aL 1 [0] m;simp only[↓aC];refine dG rfl (fun hb=>aJ cT aA rfl rfl (by decide) (by decide) rfl) ?_;simp only[zz];refine eY rfl (fun hb=>aZ (bB hb rfl) ((m.b 0 rfl).lies aH aA rfl rfl)) ?_;simp only[zz,zy,ar,aa,ah,ad];refine dG rfl (fun hb=>aJ cT aA rfl rfl (by decide) (by decide) rfl) ?_;simp only[zz];refine eY rfl (fun hb=>aZ (bB hb rfl) ((m.b 0 rfl).lies aH aA rfl rfl)) ?_;simp only[zz,zy,ar,aa,ah,ad];refine dG rfl (fun hb=>bZ (bB hb rfl) (bB hb rfl)) (aB (eD rfl rfl rfl) ?_);apply aL 1 [0] m;simp only[↓aC];refine dG rfl (fun hb=>aJ cT aA rfl rfl (by decide) (by decide) rfl) ?_;simp only[zz];refine eY rfl (fun hb=>aZ (bB hb rfl) ((m.b 0 rfl).lies aH aA rfl rfl)) ?_;simp only[zz,zy,ar,aa,ah,ad];refine dG rfl (fun hb=>aJ cT aA rfl rfl (by decide) (by decide) rfl) ?_;simp only[zz];refine eY rfl (fun hb=>aZ (bB hb rfl) ((m.b 0 rfl).lies aH aA rfl rfl)) ?_;simp only[zz,zy,ar,aa,ah,ad];refine dG rfl (fun hb=>bZ (bB hb rfl) (bB hb rfl)) (aB (eD rfl rfl rfl) ?_);apply aL 2 [] m;simp only[↓aC];rw[as8];apply aW 6 [0] m;simp only[↓aC];refine bX [14,15] [83,84,85,86,87,88,89,90,91,92,93,94,95,96,97,98,99,100,101,102] (fun n vs wl=>∃(j:Nat) (fd:Bool) (uv:List Bool),vs=[.bool fd,.int .i64 (j:Int)]∧Mem w1 wl [bI g3 (aM (t.img Ms)) 39,bI g2 (uv.map bm) 4,oI 55 6 A9 n9 c9 (Ms.flatMap bO),oI 39 9 A7 n7 c7 (L.flatMap aM)]∧(uv.length=n7)∧(Lc us L Ms k uv)∧(fd=false→(t.img Ms).nd=true∧∀i,i<j→L[i]? ≠ some (dR (t.img Ms)))∧(fd=true→(t.img Ms).nd=true→∀i:Nat,L[i]? = some (dR (t.img Ms))→uv[i]? = some true)∧(j≤n7)∧(n=n7-j)) ?_ ?_
    ·
     exact⟨_,0,!(t.img Ms).nd,uv,rfl,m,huv,hum,fun h=>⟨by simpa using h,fun _ h=>absurd h (mg _)⟩,fun h h2=>Bool.noConfusion ((show (!(t.img Ms).nd)=false by rw[h2];rfl).symm.trans h),by omega,rfl⟩
    · intro n vs wr hI u K2 hK2
      obtain⟨j,fd,uv,rfl,m,huv,hum,hf1,hf2,hj,hn2⟩:=hI;simp only[zu,zF,zG];apply aK 8 [0,0] m;simp only[↓aC,eV];refine kZ rfl (fun hb=>aG) (kZ rfl (fun hb=>pL (bB hb rfl)) (aB (fC rfl rfl rfl) ?_));apply aL 1 [0] m;simp only[↓aC];refine eG rfl ?_ ?_<;>intro hc2
      ·
       simp only[ba,decide_eq_true_eq] at hc2;obtain⟨y,hy⟩:∃x,L[j]? = some x:=⟨_,ak (by omega)⟩
       obtain⟨g7,rfl⟩:=(m.o 3 rfl).some (by omega);apply aK 4 [0] m;simp only[↓aC];refine mh m [true,true,true,true] [(2,true),(3,true),(4,true),(0,true),(5,true),(1,false),(6,true)] aD (by kernel_rfl) (bT (fun _ _ _ _ _ h=>h)) (ol:=?_) ?hol ?_
       case hol=>simp only[zw,zQ,zR];try rfl
       intro u m;refine aS aG (aS aG ?_);simp only[zz];refine aS (aF bL aO rfl rfl (by omega) (by omega) jH) ?_;simp only[zz];refine dF rfl (fun u m=>((m.b 0 rfl).full cK aO)) ?_;simp only[zz];refine dF rfl (fun u m=>(show eQ _ _ _ _ (tr y) from (uI (m.o 3 rfl) hy).lies cK aO)) ?_;simp only[zz];refine cF (kY m rfl rfl (Xp (t:=t.img Ms)) ?_);intro u m;refine aN ⟨m,?_⟩;refine aS (Wq rfl rfl) (bV (gc ?_));simp only[zz];refine bA rfl ?_ ?_<;>intro hc3
       ·
        have hyr:dR (t.img Ms)=y:=afm (not_not_intro hc3);apply aK 4 [0] m;simp only[↓aC];refine aB (aF Eg dT rfl rfl (by omega) (by omega) (fI (ag _))) ?_;simp only[zz];refine cX m 1 rfl rfl rfl dT (by simp only[bf,huv];omega) ⟨rfl,rfl⟩ ?_;intro u m;simp only[zz] at m;rw[Ts (by omega)] at m;apply aL 10 [0] m;simp only[↓aC];refine⟨by omega,?_⟩;exact hK2 (n7-(j+1)) _ _ (by omega) (by kernel_rfl) ⟨j+1,true,_,rfl,m,by rw[List.length_set];exact huv,hum.set,fun h=>Bool.noConfusion h,fun _ _ i hi=>(by have h5:=ars hnd hy (hyr▸hi);subst h5;exact jk (by omega)),by omega,rfl⟩
       ·
        have hyr:¬dR (t.img Ms)=y:=afn hc3;apply aK 7 [0] m;simp only[↓aC];refine⟨by omega,?_⟩;exact hK2 (n7-(j+1)) _ _ (by omega) (by kernel_rfl) ⟨j+1,_,_,rfl,m,huv,hum,fun h=>⟨(hf1 h).1,anY (hf1 h).2 hy hyr⟩,hf2,by omega,rfl⟩
      ·
       skip
       apply aK 6 [0] m;simp only[↓aC];refine eG rfl ?_ ?_<;>intro hc4
       ·
        exfalso;have h5:fd=false:=by simpa using hc4
        have h6:¬j<n7:=fun h=>by simp[h5,h] at hc2
        exact anX hsi hfx (bj ht) (hf1 h5).1 fun i hi=>(hf1 h5).2 i (by omega)
       ·
        have hfd:fd=true:=by simpa using hc4
        apply aK 7 [0] m;simp only[↓aC];refine⟨by omega,?_⟩;exact hK1 (n8-(k+1)) _ _ (by omega) (by kernel_rfl) ⟨k+1,_,rfl,(m.sel [false,true,true,true]),huv,hum.step ht (hf2 hfd),by omega,rfl⟩
   ·
    obtain rfl:k=n8:=by omega
    have hall:=alr hsi hfx (by rw[hul];exact hum);apply aK 7 [0] m;simp only[↓aC];refine bX [16] [6,105,106,107,108,109,110,111,112,113,114,115] (fun n vs wl=>∃(k:Nat),vs=[.int .i64 (k:Int)]∧Mem w1 wl [bI g2 (uv.map bm) 4,oI 55 6 A9 n9 c9 (Ms.flatMap bO),oI 39 9 A7 n7 c7 (L.flatMap aM)]∧(k≤n7)∧(n=n7-k)) ?_ ?_
    ·
     exact⟨_,0,rfl,m,by omega,rfl⟩
    · intro n vs wr hI u K3 hK3
      obtain⟨k,rfl,m,hk3,hn3⟩:=hI;simp only[zu,zF,zG];apply aK 8 [0,0] m;simp only[↓aC,ai8];refine bA rfl ?_ ?_<;>intro hc5
      ·
       apply aK 7 [0] m;simp only[↓aC];refine aB (aF Eg dT rfl rfl (by omega) (by omega) (fI (ag _))) ?_;simp only[zz];refine aR rfl ((m.b 0 rfl).lies1 (i:=k) oH (by rw[eh,hall k (by omega)];rfl)) ?_;simp only[zz];apply aL 10 [0] m;simp only[↓aC];refine⟨by omega,?_⟩;exact hK3 (n7-(k+1)) _ _ (by omega) (by kernel_rfl) ⟨k+1,rfl,m,by omega,rfl⟩
      ·
       apply aK 4 [0] m;simp only[↓aC];refine bC rfl rfl (yF _ ((m.o 2 rfl).tris hLI) (by omega)) ?_;rintro v u e_ ⟨A17,c17,n17,hn17,rfl,h_⟩;replace m:=m.newO e_ h_;have hcl:=rZ L;apply aL 8 [0] m;simp only[↓aC];refine bX [18] [6,19,20,118,119,120,121,122,123,124,125,126,127,128,129,130,131,132,133,134,135,136,137,138,139,140,141,142,143,144,145,146,147,148,149,150,151,152,153,154,155,156,157,158,159,160,161] (fun n vs wl=>∃(k:Nat),vs=[.int .i64 (k:Int)]∧Mem w1 wl [oI 30 3 A17 n17 c17 ((bM L).flatMap qS),oI 55 6 A9 n9 c9 (Ms.flatMap bO),oI 39 9 A7 n7 c7 (L.flatMap aM)]∧(k≤n9)∧(n=n9-k)) ?_ ?_
       ·
        exact⟨_,0,rfl,(m.sel [true,false,true,true]),by omega,rfl⟩
       · intro n vs wr hI u K4 hK4
         obtain⟨k,rfl,m,hk4,hn4⟩:=hI;simp only[zu,zF,zG];apply aK 8 [0,0] m;simp only[↓aC,Xn];refine bA rfl ?_ ?_<;>intro hc7
         ·
          obtain⟨mv,hm⟩:∃x,Ms[k]? = some x:=⟨_,ak (by omega)⟩
          obtain⟨g9,rfl⟩:=(m.o 1 rfl).some (by omega);apply aK 8 [0] m;simp only[↓aC];refine aB (aF xX mD rfl rfl (by omega) (by omega) jH) ?_;apply aL 1 [0] m;simp only[↓aC,Fk,aa];refine aR rfl (show eQ _ _ _ _ (pt mv.1) from ((Qp (m.o 1 rfl) hm).take 3).lies aH aA) ?_;simp only[zz];refine cM m rfl rfl (iH (aoN (xs:=bM L) (p:=mv.1) _ ((m.o 0 rfl).lat (enc:=dU) Ld (by decide)) (by omega)) (by rw[anZ hsi.mv hm])) ?_;rintro v u m rfl;apply aL 7 [0] m;simp only[↓aC];refine aB (aF xX mD rfl rfl (by omega) (by omega) jH) ?_;apply aL 1 [0] m;simp only[↓aC,afd,aa];refine aR rfl (show eQ _ _ _ _ (pt mv.2) from (((Qp (m.o 1 rfl) hm).sub 3).take 3).lies aH aA) ?_;simp only[zz];refine cM m rfl rfl (iH (aoN (xs:=bM L) (p:=mv.2) _ ((m.o 0 rfl).lat (enc:=dU) Ld (by decide)) (by omega)) (by rw[as9 hsi.mv hm])) ?_;rintro v u m rfl;apply aL 3 [] m;simp only[↓aC];rcases Nat.eq_zero_or_pos k with hk0 | hk0
          ·
           refine gc (mq m aD (by kernel_rfl) (aI aG (aI aG (bU rfl (aI aG (bU rfl (aI (pL rfl) ?_)))))));simp only[zz];refine aI (tR rfl) (aI aG (bU rfl (aI aG (bU rfl ?_))));simp only[zz];refine aI (aoS rfl rfl (by omega)) (bU rfl (aI aG (mQ rfl (mQ rfl ?_))));simp only[zz];refine mQ rfl (eT 12 [] ?_);simp only[↓aC];refine bE ?_;intro u m;apply aW 8 [0] m;simp only[↓aC];refine⟨by omega,?_⟩;exact hK4 (n9-(k+1)) _ _ (by omega) (by kernel_rfl) ⟨k+1,rfl,m,by omega,rfl⟩
          ·
           obtain⟨j,hj⟩:∃j,k=j+1:=⟨k-1,by omega⟩
           obtain⟨mw,hmw⟩:∃x,Ms[j]? = some x:=⟨_,ak (by omega)⟩
           refine gc (mq m aD (by kernel_rfl) (aI aG (aI aG (bU rfl (aI aG (bU rfl (aI (pL rfl) ?_)))))));simp only[zz];refine aI (tR rfl) (aI aG (bU rfl (aI aG (bU rfl ?_))));simp only[zz];refine aI (aoR rfl rfl (by omega)) (bU rfl (aI aG (bU rfl (aI aG (bU rfl (aI aG ?_))))));simp only[zz];refine bU rfl (aI (Gd rfl rfl (bG (by omega) (by omega))) (bU rfl ?_));simp only[zz];refine aI (aF xX mD rfl rfl (by omega) (by omega) (oT (show Int.toNat ((k:Int)-1)=j by omega))) (eT 1 [] ?_);simp only[↓aC,Fk,aa];refine bU rfl (ql rfl (fun u m=>(show eQ _ _ _ _ (pt mw.1) from ((Qp (m.o 1 rfl) hmw).take 3).lies aH aA)) ?_);simp only[zz];refine bU rfl (aI aG (bU rfl (aI aG (bU rfl ?_))));simp only[zz];refine aI (aF xX mD rfl rfl (by omega) (by omega) jH) (eT 1 [] ?_);simp only[↓aC,Fk,aa];refine bU rfl (ql rfl (fun u m=>(show eQ _ _ _ _ (pt mv.1) from ((Qp (m.o 1 rfl) hm).take 3).lies aH aA)) ?_);simp only[zz];refine bU rfl (jJ rfl rfl ((show fF prog 38 [pt mw.1,pt mv.1] (.bool true) from (show (.bool (decide (mw.1.Lt mv.1)):ai)=.bool true by rw[decide_eq_true (art hsi.mv hmw (hj▸hm))])▸rQ)) (bU rfl (aI (pL rfl) (bU rfl (aI (rL rfl) (aI (tR rfl) ?_))))));simp only[zz];refine bE ?_;intro u m;apply aW 8 [0] m;simp only[↓aC];refine⟨by omega,?_⟩;exact hK4 (n9-(k+1)) _ _ (by omega) (by kernel_rfl) ⟨k+1,rfl,m,by omega,rfl⟩
         ·
          apply aK 11 [0] m;simp only[↓aC,lC,Xn];refine⟨by omega,?_⟩;refine cN rfl (bC rfl rfl (yF _ (hT8.ext m.ext) (by omega)) ?_);rintro v u e_ ⟨A18,c18,n18,hn18,rfl,h_⟩;replace m:=m.newO e_ h_;have hnum:=hsi.num;apply aL 1 [0] m;simp only[↓aC,lC];refine cN rfl (aB (uT rfl rfl (by omega)) ?_);apply aL 4 [] m;simp only[↓aC];exact aT rfl rfl ⟨_,rfl,hw1.trans m.ext,rfl⟩
end Go.Proofs.YtfekpcimgncioaaGreatDoor
namespace Go.Lith
open Go.RowKit Go.ChangeShapes
variable {H:Type} {enc:av × ai→H} {P:Program}
theorem lV(hl:laidOutB P=true){W W':aj}(hb:gJ W W'){sp:Nat→Bool} :
 ∀{ts:List av} {vs:List ai} {ds:List (DataW H)} {ps:List MemPlace},(ts.all fun t=>P.readableRec t&&decide (t<P.types.size))=true→DataW.TrodAll enc P W 0 (fun _=>true) true ts vs ds ps→(∀p∈ps,sp p.block=true)→DataW.TrodAll enc P W' 0 sp true ts vs ds ps
 | [],[],[],_,_,h,_=>h
 | [],[],_::_,_,_,h,_=>h.elim
 | [],_::_,_,_,_,h,_=>h.elim
 | _::_,[],_,_,_,h,_=>h.elim
 | _::_,_::_,[],_,_,h,_=>h.elim
 | t::ts,v::vs,d::ds,ps,hv,h,hs=>by
  obtain⟨p,q,⟨n,h1⟩,h2,e⟩:=h;subst e;simp only[List.all_cons,ba,decide_eq_true_eq] at hv;have hlt:=DataW.trod_lt n _ _ _ h1;exact⟨p,q,⟨n,DataW.trod_stays (kids_book hl hv.1.1) (book_sized hv.1.1) (fun h=>by cases h) ⟨hv.1.2,book_self t⟩ h1 (fun x hx=>Below.same hb (hlt x hx)) (fun x hx=>hs x (by simp[hx]))⟩,
   lV hl hb (by simpa using hv.2) h2 (fun x hx=>hs x (by simp[hx])),rfl⟩
theorem sN{f:Func}{s:ChangeSpec}{apart fresh handsOn again:Bool}{W W':aj}{args:Array ai}{t:av}{ds gs:List (DataW H)}{before:List MemPlace}
 (hl:laidOutB P=true) (hps:(f.params.toList.all fun t=>P.readableRec t&&decide (t<P.types.size))=true) (hv:s.vars=[]) (hr:f.resultTypes = #[t]) (hu:P.underlying t=some .bool)
 (hW:DataW.Whole enc P f.params.toList s.vars apart W args.toList ds gs before) (hfn:(s.fn H (ds++gs)).results=[.lit (.bool true)]∧(s.fn H (ds++gs)).args=ds∧(s.fn H (ds++gs)).vars=[]) (hb:gJ W W') :
 s.post enc P f apart fresh handsOn again W args (.bool true) W':=by
 have hW0:=hW;obtain⟨p,q,hA,hV,rfl,hz,hn⟩:=hW0;rw[hv] at hV;obtain⟨rfl,rfl⟩:=trodVars_none hV;have hargs:∀sp:Nat→Bool,(∀x∈p++[],sp x.block=true)→DataW.TrodAll enc P W' 0 sp true f.params.toList args.toList (s.fn H (ds++[])).args p:=fun sp hsp=>by
  rw[hfn.2.1];exact lV hl hb hps hA (fun x hx=>hsp x (by simp[hx]))
 have hvars:∀sp:Nat→Bool,DataW.TrodVars enc P W' sp s.vars (s.fn H (ds++[])).vars []:=fun sp=>by
  rw[hv,hfn.2.2];exact rfl
 have hres:∀(b:Nat) (sp:Nat→Bool) (hd:Bool),DataW.TrodAll enc P W' b sp hd f.resultTypes.toList ((bm true).resultList f.resultTypes.size) (s.fn H (ds++[])).results []:=fun b sp hd=>by
  rw[hr,hfn.1];exact trodAll_cons_mk (shut_bool hu true) trodAll_mk0
 have hok:∀(j:Nat) (t:av) (r:ai),f.resultTypes[j]? = some t→((bm true).resultList f.resultTypes.size)[j]? = some r→Value.okWide P W' .any 0 t r:=ok_one hr rfl (okWide_bool_mk hu _);have hlt:∀x∈p++[],x.block<W.heap.size:=hW.lt;have hold:∀x∈p++[],(fun b=>decide (b<W.heap.size)) x.block=true:=fun x hx=>by simpa using hlt x hx
 refine⟨ds,[],p++[],[],p,[],hW,hres _ _ _,hargs _ hold,hvars _,Below.frame hb _,fun _=>?_⟩;refine⟨hok,_,_,([]++p)++[],⟨[]++p,[],trodAll_append (hargs _ (fun _ _=>rfl)) (hres _ _ _),hvars _,rfl,?_,?_⟩,?_⟩
 · intro b off hp
   have h1:MemPlace.cell b off∈p++[]:=by simpa using hp
   rw[Below.frozen hb (p:=⟨b,off,none⟩) (hlt _ h1)];exact hz b off h1
 · intro ha
   simpa using hn ha
 · intro x hp _
   simpa using hp
end Go.Lith
namespace Go.Proofs.YtfekpcimgncioaaGreatDoor.collapseMoves
open Go.Proofs.Tryz
open Go.ChangeShapes Go.WideShapes Go.ChangeAt Go.RowKit Go.Lith
set_option maxRecDepth 100000
theorem own:ownKnob prog.godebug=none:=by kernel_rfl
theorem laidOut:laidOutB prog=true:=by kernel_rfl
theorem contract(H:Type)(enc:av × ai→H)(W:aj)(base:Nat)(args:Array ai)(ds gs:List (DataW H))(before:List MemPlace)
 (hval:∀(j:Nat) t v,f9.params[j]? = some t→args[j]? = some v→Value.okWide prog W .any base t v)
 (hW:DataW.Whole enc prog f9.params.toList Rows.collapseMovesSpec.vars false W args.toList ds gs before) :
 Calls prog 9 args W fun e W'=>∃v,e=.returned v∧Rows.collapseMovesSpec.post enc prog f9 false true false false W args v W':=by
 have hW':=hW;obtain⟨p,q,hA,hV,rfl,hfz,hnd⟩:=hW;rw[params9] at hA hval;obtain⟨v0,vs0,d0,ds0,p0,q0,e0,rfl,rfl,h0,r0⟩:=trodAll_cons hA;obtain⟨v1,vs1,d1,ds1,p1,q1,e1,rfl,rfl,h1,r1⟩:=trodAll_cons r0;obtain⟨v2,vs2,d2,ds2,p2,q2,e2,rfl,rfl,h2,r2⟩:=trodAll_cons r1;obtain⟨rfl,rfl,rfl⟩:=trodAll_nil r2;subst e2;subst e1;obtain rfl:args = #[v0,v1,v2]:=by cases args;simp_all
 obtain⟨rfl,rfl⟩:=trodVars_none hV;obtain⟨HA0,HN0,Hc0,zs0,rfl,hL0,hcp0,hI0⟩:=If (n:=5) lM (by kernel_rfl) (by kernel_rfl) (hval 0 22 v0 rfl rfl) h0;obtain⟨x1,y1,hx1,hy1,rfl⟩:=Up aij underlying24 underlying23 (by kernel_rfl) (by kernel_rfl) (hval 1 24 v1 rfl rfl) h1;obtain⟨a2,rfl,_,_,wt2⟩:=open_int agS (hval 2 5 v2 rfl rfl) h2;have wb2:=bounds_u8 wt2;refine (Pi W hL0 hcp0 hI0 hx1 hy1 (show 0≤a2∧a2<256 by omega)).2.mono ?_;rintro e W' ⟨v,rfl,hE,rfl⟩;exact⟨_,rfl,sN laidOut (by kernel_rfl) rfl rfl Vc hW' ⟨rfl,rfl,rfl⟩ hE⟩
def accepts:List ai:=[128,191,160,191,128,159,144,191,128,143,0,0,0,0,0,0,0,0,0,0,0,0,0,0,0,0,0,0,0,0,0,0].map fun n=>.int .u8 n
def firsts:List ai:=Go.Pinned.utf8FirstZ.map fun (n:Nat)=>Value.int .u8 (n:Int)
def relaid(cs:List ai):Obj→Obj
 | .cells _ t frozen=>.cells cs.toArray t frozen
 | o=>o
noncomputable def laidWorld(os:Os):aj :=
 { World.holding prog os ⟨#[],#[],[]⟩ with heap:=((World.holding prog os ⟨#[],#[],[]⟩).heap.modify 0 (relaid firsts)).modify 1 (relaid accepts) }
def inp:Array ai:=#[.slice none 0 0,.agg #[.int .u16 0,.int .u16 0],.int .u8 0]
theorem laid_met(os:Os):laidMet prog Rows.collapseMovesRow.laid ((laidWorld os).forCall (fun _ _=>0) ⟨#[],inp,[]⟩).memory :=
 laidMet_of_run' 8 (by kernel_rfl) (by kernel_rfl)
theorem reads(os:Os){H:Type}(enc:av × ai→H):∃places,DataW.whole enc prog ((laidWorld os).forCall (fun _ _=>0) ⟨#[],inp,[]⟩).memory f9.params.toList Rows.collapseMovesSpec.vars false inp.toList 8=some ([.nil,.agg [.lit (.int .u16 0),.lit (.int .u16 0)],.lit (.int .u8 0)],[],places) :=
 ⟨[],by kernel_rfl⟩
theorem lifted(os:Os)(started:os.Started)(H:Type)(enc:av × ai→H)(F:Stop.Interp) :
 ReturnsInHanded {} checked os 9 .any ((OpenSpec.ofChange Rows.collapseMovesSpec).preRow enc prog f9 Rows.collapseMovesRow.domain false Rows.collapseMovesRow.laid) (((OpenSpec.ofChange Rows.collapseMovesSpec).at F).post enc prog f9 false true false false):=by
 obtain⟨places,hx⟩:=reads os enc;refine returnsInHanded_of_row (C:=checked) (s:=OpenSpec.ofChange Rows.collapseMovesSpec) own started (by kernel_rfl) func9
  (witness_row_at (enc:=enc) (C:=checked) false (laidWorld os) inp rfl (by kernel_rfl) (by kernel_rfl) (by kernel_rfl)
   (OpenSpec.preRow_of_cond 8 hx (by kernel_rfl) (fun k hk=>by cases hk) (by kernel_rfl) (laid_met os))) ?_
 intro W base args ds gs before hval hW _ hc _ hL _ _;exact contract H enc W base args ds gs before hval hW
theorem j1:(Rows.collapseMovesRow.inPlace == Tryz.pinned.checked.prog.inPlace 9)=true:=by kernel_rfl
theorem j2:(Rows.collapseMovesRow.unfollowed == Tryz.pinned.checked.prog.unfollowed 9)=true:=by kernel_rfl
theorem j3:(Rows.collapseMovesRow.recurses == Tryz.pinned.checked.prog.recurses 9)=true:=by kernel_rfl
theorem j4:(Rows.collapseMovesRow.named == Tryz.pinned.checked.prog.varsNamed 9)=true:=by kernel_rfl
theorem j5:false=Rows.collapseMovesRow.goesBy Tryz.pinned.checked.prog:=by kernel_rfl
theorem Ur:joinedFacts Tryz.pinned.checked.prog 9 f9 (OpenSpec.ofChange Rows.collapseMovesSpec).bare Rows.collapseMovesRow=true:=by
 unfold joinedFacts;rw[j1,j2,j3,j4]
 kernel_rfl
theorem said:Rows.CollapseMovesSaid :=
 OpenClaim.holds_of_cond 9 f9 rfl rfl rfl rfl rfl rfl rfl ⟨rfl,rfl,rfl,rfl,rfl⟩ rfl rfl rfl rfl rfl (by kernel_rfl) func9 Ur
  (of_decide_eq_true (by kernel_rfl)) (by unfold Func.isWrapper;first | (rw[if_pos (by decide +kernel)];kernel_rfl) | (rw[if_neg (by decide +kernel)];exact⟨rfl,rfl⟩))
  (fun os started H enc _ F=>by rw[OpenClaim.pre_eq_preRow];exact lifted os started H enc F)
theorem plain(f:FuncId)(fn:Func)(hf:Tryz.pinned.checked.prog.funcNamed Rows.collapseMovesRow.func=some f)(hfn:Tryz.pinned.checked.prog.funcs[f]? = some fn) :
 false=Tryz.pinned.checked.prog.looks []∧∀(j:Nat) t,fn.params[j]? = some t→Tryz.pinned.checked.prog.wantsStandIn t=false:=by
 obtain rfl:f=9:=ep ((show prog.funcNamed Rows.collapseMovesRow.func=some 9 by kernel_rfl).symm.trans hf) |>.symm
 obtain rfl:fn=f9:=(ep (func9.symm.trans hfn)).symm;refine⟨by kernel_rfl,fun j t ht=>?_⟩;rw[params9] at ht;have hm:t∈[22,24,5]:=by simpa using Array.mem_of_getElem? ht
 have hall:([22,24,5].all fun u=>!prog.wantsStandIn u)=true:=by kernel_rfl
 exact (show prog.wantsStandIn t=false by simpa using List.all_eq_true.1 hall t hm)
theorem card:Rows.CollapseMovesCardSaid :=
 Claim7.holds_tied_plain_at .later [] _ _ _ _ said (fun _ h=>by cases h) (by kernel_rfl) (fun _ h=>by cases h) collapseMoves_row_tie rfl ⟨rfl,rfl⟩ (by kernel_rfl) rfl plain j5
end Go.Proofs.YtfekpcimgncioaaGreatDoor.collapseMoves
