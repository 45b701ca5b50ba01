/-
 Texts of one claim, laid together: K76, K79, K80, Join, JoinCollapseKeeps.
-/
import Derived.OpenVars
import Derived.OpenShut
import Derived.WalkKit
import Derived.ProofKit
import Derived.Test.YtfekpcimgncioaaGreatDoorCards
import Derived.Test.YtfekpcimgncioaaGreatDoorTie
import Derived.Deep.DeepHandedRow
import Derived.Lib.LaidTab
import Derived.Test.YtfekpcimgncioaaGreatDoorG9
open Nat renaming reduceAdd→aa,reduceMul→ah,le_refl→ao,zero_add→ar,le_trans→be,mod_lt→fw
open Int renaming reduceToNat→ad,toNat_natCast→ag,tmod_eq_emod_of_nonneg→fu
open Go renaming Value→ai,World→aj,TypeId→av
open List renaming getElem?_eq_getElem→ak,flatMap_append→aw,length_map→bf,mem_of_getElem?→bj,nil_append→bt,cons_append→cg,getElem_mem→fv,foldl_append→gl
open Option.some renaming inj→ep
set_option maxHeartbeats 8000000
set_option linter.unusedSimpArgs false
set_option linter.unusedVariables false
set_option linter.unusedSectionVars false
namespace Go.Proofs.YtfekpcimgncioaaGreatDoor
open Go.Proofs.Tryz
open Go.RowKit Go.Lith
set_option maxRecDepth 100000
attribute [local irreducible] wpList wpQuiet fA bF cG Code.wp
attribute [local congr] nO fK fM fN fO fP iY fQ fR fS fT fU fV fW fX fY fZ gA dX dY gB gC gE gF gG jA cQ cR cE cP gD iZ dZ eA eB gH gI jD
variable{l ts:List T3}{want:Int}{cap k N:Nat}{es:List E3}
theorem sK:∀(n:Nat) {want:Int} {l:List T3} {q:P3→List Int} {D:List Mv},(∀t∈l,IT t)→∀t∈(eU n want l q D).1,IT t
 | 0,_,_,_,_,h=>h
 | n+1,want,l,q,D,h=>by
  unfold eU;split
  · exact h
  · cases hb:oM l q with
    | none=>exact h
    | some c=>exact sK n (kV (Ki (Bl h (No (Pw.1 (yC hb).1).2.1).2) h))
theorem vV(h:∀t∈l,IT t):∀t∈(eL l want).1,IT t:=by
 unfold eL;split
 · exact kV h
 · exact sK _ (kV h)
theorem sL:∀(n:Nat) {want:Int} {l:List T3} {q:P3→List Int} {D:List Mv},(eU n want l q D).1.length≤l.length
 | 0,_,_,_,_=>ao _
 | n+1,want,l,q,D=>by
  unfold eU;split
  · exact ao _
  · cases hb:oM l q with
    | none=>exact ao _
    | some c=>exact be (sL n) (Nat.le_of_lt (lK hb))
theorem vW   : (eL l want).1.length≤l.length:=by
 unfold eL;split
 · rw[eH];exact ao _
 · exact be (sL _) (Nat.le_of_eq (eH _))
theorem sM:∀(n:Nat) {want:Int} {l:List T3} {q:P3→List Int} {D:List Mv},(eU n want l q D).2.length+(eU n want l q D).1.length≤D.length+l.length
 | 0,_,_,_,_=>ao _
 | n+1,want,l,q,D=>by
  unfold eU;split
  · exact ao _
  · cases hb:oM l q with
    | none=>exact ao _
    | some c =>
     have h1:=sM n (want:=want) (l:=eZ l c.u c.v) (q:=By q c.u c.v) (D:=Lf D c.u c.v);have h2:=lK hb;have h3:(Lf D c.u c.v).length≤D.length+1:=by
      have:=mY (D.map fun e=>(e.1,jW c.u c.v e.2)) c.u c.v;rw[bf] at this;exact this
     show (eU n want (eZ l c.u c.v) (By q c.u c.v) (Lf D c.u c.v)).2.length+(eU n want (eZ l c.u c.v) (By q c.u c.v) (Lf D c.u c.v)).1.length≤_
     omega
theorem vX   : (eL l want).2.length≤l.length:=by
 unfold eL;split
 · exact Nat.zero_le _
 · show (iF _).length≤_
   unfold iF;rw[bf,(iP _).length_eq,bf];have h1:=sM (bK l).length (want:=want) (l:=bK l) (q:=sV (bK l)) (D:=[]);rw[eH] at h1;simp only[List.length_nil,ar] at h1;rw[eH];omega
theorem uI{w0 w:aj}{S:List (Option Nat)}{E:av}{g n:Nat}{t:T3}(h:Ow w0 w S E 9 (some ⟨g,0,none⟩) n cap (ts.flatMap aM))(ht:ts[k]? = some t):mT w ⟨g,k*9,none⟩ (aM t):=by
 have:=(h.lat (enc:=aM) ac4 (by decide)).at ht;rwa [dV,ar] at this
def nI(N b k:Nat):Nat:=if N%7=0 then (k+b)%N else (k*7+b)%N
def Kz(k:Nat)(x:T3):T3:=⟨x.cor (k%3),x.cor ((k+1)%3),x.cor ((k+2)%3)⟩
def La(l:List T3)(b k:Nat):T3:=Kz k ((l[nI l.length b k]?).getD ⟨⟨0,0,0⟩,⟨0,0,0⟩,⟨0,0,0⟩⟩)
def kW(l:List T3)(b k:Nat):List T3:=(List.range k).map (La l b)
theorem nJ{b:Nat}(h:k<N):nI N b k<N:=by
 unfold nI;split <;> exact fw _ (by omega)
theorem yT(k:Nat)(x:T3):Hh x (Kz k x):=by
 have h:k%3=0∨k%3=1∨k%3=2:=by omega
 unfold Kz Hh;rcases h with h | h | h
 · rw[h,show (k+1)%3=1 by omega,show (k+2)%3=2 by omega];exact .inl rfl
 · rw[h,show (k+1)%3=2 by omega,show (k+2)%3=0 by omega];exact .inr (.inl rfl)
 · rw[h,show (k+1)%3=0 by omega,show (k+2)%3=1 by omega];exact .inr (.inr rfl)
theorem acK{b:Nat}{x:T3}(hx:l[nI l.length b k]? = some x):kW l b (k+1)=kW l b k++[Kz k x]:=by
 unfold kW;rw[List.range_succ,List.map_append,List.map_singleton,La,hx];rfl
theorem yU{b:Nat}(hd:∀t∈l,t.nd=true):bK (kW l b l.length)=bK l:=by
 refine wR (Hr (f:=nI l.length b) (by simp[kW]) (fun i hi=>nJ hi) (fun i j hi hj h=>?_) fun i x hx=>?_)
 · unfold nI at h
   split at h
   · exact aau hi hj h
   · rename_i h7;exact aat h7 hi hj h
 · have hi:i<l.length:=by
    have:=(List.getElem?_eq_some_iff.1 hx).1;simpa[kW] using this
   have hy:l[nI l.length b i]? = some (l[nI l.length b i]'(nJ hi)):=ak (nJ hi);refine⟨_,hy,?_⟩;unfold kW at hx;rw[List.getElem?_map,List.getElem?_range hi,Option.map_some,La,hy] at hx;cases hx;exact vK (yT i _) (hd _ (fv _))
theorem Uq{b:Nat}(hk:k≤l.length)(h:∀t∈l,IT t):∀t∈kW l b k,IT t:=fun t ht=>by
 obtain⟨i,hi,rfl⟩:=List.mem_map.1 ht;have hi:=List.mem_range.1 hi;unfold La;rw[ak (nJ (show i<l.length by omega))];have hx:=h _ (fv (nJ (b:=b) (show i<l.length by omega)));exact⟨⟨(iA hx).1,(iA hx).2.1,(iA hx).2.2⟩,⟨(iA hx).1,(iA hx).2.1,(iA hx).2.2⟩,⟨(iA hx).1,(iA hx).2.1,(iA hx).2.2⟩⟩
theorem tA{A:Option Addr}{zs:List Int}{a0 b:Int}(w:aj)(hL:vY aaB 1 w A N zs)(hcp:N≤cap)(hI:∀z∈zs,rN z)(ha:0≤a0∧a0<65536)(hb:0≤b∧b<256):dK prog 10 [.slice A N cap,.int .u16 a0,.int .u8 b] w (fun v _=>v=.bool true):=by
 refine⟨ah8,?_⟩;have m:=Mem.refl w;have hl:=hL.len;obtain⟨M,hM⟩:∃M,M=min 4 N:=⟨_,rfl⟩
 have e60:b.tmod 60=b%60:=fu hb.1;obtain⟨bn,rfl⟩:=Int.eq_ofNat_of_zero_le ha.1
 go_enter func10,ntmps10
 apply fG 6 [0] m;simp only[↓aC];refine wA m rfl rfl Es 8 [] ?_;simp only[↓aC,Oi];intro u m;rw[show (if (4:Int)<(N:Int) then (4:Int) else (N:Int))=(M:Int) by split <;> omega];refine go (aB (kL lM bD rfl rfl (ag _) (by omega) (by omega)) ?_);simp only[zz];refine bC rfl rfl (vU _ ((hL.ext m.ext).take (show M≤N by omega)) (fun z hz=>hI z (List.mem_of_mem_take hz))) ?_;rintro v u e_ ⟨vt,hBo,⟨hl0,hit⟩,A8,cap8,n8,hn8,rfl,h_⟩;replace m:=m.newO e_ h_;have hnd:=vT (Ba hBo);have hcg:=yU (b:=bn) hnd;have hoi:=Uq (b:=bn) (ao _) hit;rw[←hn8] at hl0 hcg hoi;apply aL 4 [0] m;simp only[↓aC];refine aB aP ?_;replace m:=m.nilO 39 9;apply aL 7 [0] m;simp only[↓aC];refine bX [9,10] [11,24,25,26,27,28,29,30,31,32,33,34,35,36,37,38,39,40,41,42,43,44,45,46,47,48,49,50,51,52,53,54,55,56,57,58,59,60,61,62,63,64,65,66,67,68,69,70,71,72] (fun n vs wl=>∃(k:Nat) (A9:Option Addr) (cap9:Nat),vs=[.slice A9 k cap9,.int .i64 (k:Int)]∧Mem w wl [oI 39 9 A9 k cap9 ((kW (dW vt) bn k).flatMap aM),oI 39 9 A8 n8 cap8 ((dW vt).flatMap aM)]∧(k≤n8)∧(n=n8-k)) ?_ ?_
 ·
  exact⟨_,0,none,0,rfl,m,by omega,rfl⟩
 · intro n vs wr hI u K1 hK1
   obtain⟨k,A9,cap9,rfl,m,hk,hn⟩:=hI;simp only[zu,zF,zG];apply aK 8 [0,0] m;simp only[↓aC,eV];refine bA rfl ?_ ?_<;>intro hc1
   ·
    obtain⟨g,rfl⟩:=(m.o 1 rfl).some (by omega);obtain⟨x1,hx1⟩:∃x,(dW vt)[(k*7+bn)%n8]? = some x:=⟨_,ak (by rw[←hn8];exact fw _ (by omega))⟩
    obtain⟨x2,hx2⟩:∃x,(dW vt)[(k+bn)%n8]? = some x:=⟨_,ak (by rw[←hn8];exact fw _ (by omega))⟩
    have hk1:(k*7+bn)%n8<n8:=fw _ (by omega);have hk2:(k+bn)%n8<n8:=fw _ (by omega);apply aK 13 [0] m;simp only[↓aC,Su,uE,eV];refine⟨by omega,?_⟩;refine aB (cL rfl rfl (by omega) (show ((k:Int)*7+(bn:Int)).tmod (n8:Int)=(((k*7+bn)%n8:Nat):Int) from rfl)) ?_;simp only[zz];refine aB (aF bL aO rfl rfl (by omega) (by omega) jH) ?_;simp only[zz];refine aR rfl (show eQ _ _ _ _ (tr x1) from (uI (m.o 1 rfl) hx1).lies cK aO) ?_;simp only[zz];apply kP 6 [0] m;simp only[↓aC,nC,gX,aa];intro g1 u m;apply aW 2 [0] m;simp only[↓aC,eV];refine aB (cL rfl rfl (by omega) (show ((n8:Nat):Int).tmod 7=((n8%7:Nat):Int) from rfl)) ?_;apply aL 2 [0,0] m;simp only[↓aC];refine iO m 0 [] [45,46,47,48,49,50,51,52,53,54] (fun vs i=>∃(x:T3),vs=[]∧i=bI g1 (aM x) 39∧((dW vt)[nI n8 bn k]? = some x)) ?_ ?_
    · intro K2 hK2
      refine bA rfl ?_ ?_<;>intro hc2
      ·
       apply aK 8 [0] m;simp only[↓aC,Su,uE,eV];refine⟨by omega,?_⟩;refine aB (cL rfl rfl (by omega) (show ((k:Int)+(bn:Int)).tmod (n8:Int)=(((k+bn)%n8:Nat):Int) from rfl)) ?_;simp only[zz];refine aB (aF bL aO rfl rfl (by omega) (by omega) jH) ?_;simp only[zz];refine aR rfl (show eQ _ _ _ _ (tr x2) from (uI (m.o 2 rfl) hx2).lies cK aO) ?_;simp only[zz];apply kP 2 [0,0] m;simp only[↓aC,gX,aa];intro u m;exact hK2 _ _ _ (by kernel_rfl) m ⟨x2,rfl,rfl,by rw[nI,if_pos (by omega)];exact hx2⟩
      ·
       apply aK 1 [0] m;simp only[↓aC];exact hK2 _ _ _ (by kernel_rfl) m ⟨x1,rfl,rfl,by rw[nI,if_neg (by omega)];exact hx1⟩
    · intro vs i wr m hI u
      obtain⟨x,rfl,rfl,hx⟩:=hI;simp only[zF,zG] at m;simp only[zu,zF,zG];refine gc (mh m [true,false,true] [(0,true),(1,true),(2,true),(3,true),(5,true),(6,true),(7,true),(8,true),(10,true),(11,true),(12,true),(13,true),(4,true),(9,true),(14,true),(15,true),(16,false),(17,false),(18,true)] aD (by kernel_rfl) (bT (fun _ _ _ _ _ h=>h)) (ol:=?_) ?hol ?_)
      case hol=>simp only[zw,zQ,zR];try rfl
      intro u m;refine aS aG (aS aG ?_);simp only[zz];refine aS (cL rfl rfl (by omega) (show (k:Int).tmod 3=((k%3:Nat):Int) from rfl)) ?_;simp only[zz];refine aS (aJ cT aA rfl rfl (by omega) (by omega) jH) (aS aG ?_);simp only[zz];refine aS (eS rfl rfl (bG (by omega) (by omega))) ?_;simp only[zz];refine aS (cL rfl rfl (by omega) (show ((k:Int)+1).tmod 3=(((k+1)%3:Nat):Int) from rfl)) ?_;simp only[zz];refine aS (aJ cT aA rfl rfl (by omega) (by omega) jH) (aS aG ?_);simp only[zz];refine aS (eS rfl rfl (bG (by omega) (by omega))) ?_;simp only[zz];refine aS (cL rfl rfl (by omega) (show ((k:Int)+2).tmod 3=(((k+2)%3:Nat):Int) from rfl)) ?_;simp only[zz];refine aS (aJ cT aA rfl rfl (by omega) (by omega) jH) ?_;simp only[zz];refine dF rfl (fun u m=>(show eQ _ _ _ _ (pt (x.cor (k%3))) from (uH (m.b 0 rfl) (show (k%3)<3 by omega)).lies aH aA)) ?_;simp only[zz];refine dF rfl (fun u m=>(show eQ _ _ _ _ (pt (x.cor ((k+1)%3))) from (uH (m.b 0 rfl) (show ((k+1)%3)<3 by omega)).lies aH aA)) ?_;simp only[zz];refine dF rfl (fun u m=>(show eQ _ _ _ _ (pt (x.cor ((k+2)%3))) from (uH (m.b 0 rfl) (show ((k+2)%3)<3 by omega)).lies aH aA)) ?_;simp only[zz];refine aS (lI rfl rfl rfl) (cF ?_);simp only[zz];refine eF rfl ?_;intro u g2 e_ h_ k_;replace m:=m.newB e_ h_ k_;refine aN ⟨m.sel [false,true,false,true],?_⟩;refine cF ?_;simp only[zz];refine bW m 2 rfl rfl bL gR rfl (by decide) rfl rfl rfl (m.b 0 rfl).rowsO (jX rfl) (by omega) (by omega) ?_;intro A9 cap9 u m;simp only[zF,zG] at m;rw[show (kW (dW vt) bn k).flatMap aM++_=(kW (dW vt) bn (k+1)).flatMap aM by rw[acK (by rw[←hn8];exact hx),aw];rfl] at m;refine aN ⟨m.sel [false,true,false,true],?_⟩;refine aS aP (bV ?_);apply aW 6 [0] m;simp only[↓aC];refine⟨by omega,?_⟩;exact hK1 (n8-(k+1)) _ _ (by omega) (by kernel_rfl) ⟨k+1,_,_,rfl,(m.sel [false,false,true,true]),by omega,rfl⟩
   ·
    obtain rfl:n8=k:=by omega
    apply aK 3 [0] m;simp only[↓aC];refine Cp bL (c:=9) (by kernel_rfl)  ?_;intro u g1 e_ h_ k_;replace m:=m.newB e_ h_ k_;simp only[zz];replace m:=m.own 0 rfl (n:=0) (c:=9) rfl (kG rfl);simp only[zG] at m;apply aL 1 [0] m;simp only[↓aC];refine bW m 0 rfl rfl bL gR rfl (by decide) rfl rfl (m.o 1 rfl).own.1 (m.o 1 rfl).row (pU _) (by omega) (by omega) ?_;intro A12 cap12 u m;simp only[zF,zG] at m;simp only[ar,bt] at m ⊢;apply aL 6 [0] m;simp only[↓aC];refine aB (cL rfl rfl (by omega) e60) ?_;apply aL 1 [0] m;simp only[↓aC,sW,uE];refine⟨by omega,?_⟩;refine bC rfl rfl (mA (ts:=(dW vt)) _ ((m.o 2 rfl).tris hit) (by omega) (by omega)) ?_;rintro v u e_ ⟨A13,n13,c13,A14,n14,c14,rfl,hn13,hn14,hM⟩;replace m:=m.plus hM;clear hM;simp only[cg,bt] at m;apply aL 10 [0] m;simp only[↓aC];refine aB (cL rfl rfl (by omega) e60) ?_;apply aL 1 [0] m;simp only[↓aC,sW,uE];refine⟨by omega,?_⟩;refine bC rfl rfl (mA (ts:=(kW (dW vt) bn n8)) _ ((m.o 3 rfl).tris hoi) (by omega) (by omega)) ?_;rintro v u e_ ⟨A15,n15,c15,A16,n16,c16,rfl,hn15,hn16,hM⟩;replace m:=m.plus hM;clear hM;simp only[cg,bt] at m;rw[Hq hcg] at hn15 hn16 m;have hle:=vW (l:=(dW vt)) (want:=(b%60));have hRI:=vV (want:=(b%60)) hit;apply aL 12 [0] m;simp only[↓aC];refine cN rfl (cM m rfl rfl (iH (Fl (xs:=(eL (dW vt) (b%60)).1) (ys:=(eL (dW vt) (b%60)).1) _ ((m.o 3 rfl).tris hRI) ((m.o 1 rfl).tris hRI) (by omega)) (by rw[decide_eq_true rfl])) ?_);rintro v u m rfl;apply aL 4 [0] m;simp only[↓aC];refine cN rfl (cM m rfl rfl (iH (Jy (xs:=(eL (dW vt) (b%60)).2) (ys:=(eL (dW vt) (b%60)).2) _ ((m.o 2 rfl).lat vZ (by decide)) ((m.o 0 rfl).lat vZ (by decide)) (by rw[hn14];exact be vX (by omega))) (by rw[decide_eq_true rfl])) ?_);rintro v u m rfl;apply aL 4 [0] m;simp only[↓aC];refine cN rfl (cM m rfl rfl (iH (Fl (xs:=(kW (dW vt) bn n8)) (ys:=(kW (dW vt) bn n8)) _ ((m.o 5 rfl).tris hoi) ((m.o 4 rfl).tris hoi) (by omega)) (by rw[decide_eq_true rfl])) ?_);rintro v u m rfl;apply aL 4 [] m;simp only[↓aC];exact aT rfl rfl ⟨_,rfl,m.ext,rfl⟩
theorem as5{B:List E3}{e:E3}(hB:B=(es.take k).foldl Ml [])(he:es[k]? = some e)(h1:iC B e=0)(h2:iC B (e.2,e.1)=0):B++[e]=(es.take (k+1)).foldl Ml []:=by
 rw[bY he,gl,←hB];show _=Ml B e
 unfold Ml;rw[if_pos ⟨h1,h2⟩]
theorem aoM{B:List E3}{e:E3}(hB:B=(es.take k).foldl Ml [])(he:es[k]? = some e)(h:¬(iC B e=0∧iC B (e.2,e.1)=0)):B=(es.take (k+1)).foldl Ml []:=by
 rw[bY he,gl,←hB];show _=Ml B e
 unfold Ml;rw[if_neg h]
theorem Lb{A:Option Addr}(w:aj)(hT:bQ w A N ts)(hN:N≤1000000):dK prog 32 [.slice A N cap] w (fun v _=>v=.int .i64 (Mm ts)):=by
 refine⟨bP func32 (by kernel_rfl),?_⟩;have m:=Mem.refl w
 go_enter func32,ntmps32
 apply fG 7 [0] m;simp only[↓aC];refine bC rfl rfl (Pz _ (hT.ext m.ext) (by omega)) ?_;rintro v u e_ ⟨A3,cap3,n3,hn3,rfl,h_⟩;replace m:=m.newO e_ h_;have he3:=mH ts;have htl:=hT.len;apply aL 4 [0] m;simp only[↓aC];refine aB aP ?_;replace m:=m.nilO 56 6;apply aL 7 [0] m;simp only[↓aC];refine bX [4,5] [6,9,10,11,12,13,14,15,16,17,18,19,20,21,22,23,24,25,26,27,28,29,30,31,32,33,34,35,36] (fun n vs wl=>∃(k n4 cap4:Nat) (A4:Option Addr) (B:List E3),vs=[.slice A4 n4 cap4,.int .i64 (k:Int)]∧Mem w wl [oI 56 6 A4 n4 cap4 (B.flatMap bO),oI 56 6 A3 n3 cap3 ((aQ ts).flatMap bO)]∧(B=((aQ ts).take k).foldl Ml [])∧(B.length=n4)∧(n4≤k)∧(k≤n3)∧(n=n3-k)) ?_ ?_
 ·
  exact⟨_,0,0,0,none,[],rfl,m,rfl,rfl,by omega,by omega,rfl⟩
 · intro n vs wr hI u K1 hK1
   obtain⟨k,n4,cap4,A4,B,rfl,m,hB,hln,hb,hk,hn⟩:=hI;simp only[zu,zF,zG];apply aK 8 [0,0] m;simp only[↓aC,Bp];refine bA rfl ?_ ?_<;>intro hc1
   ·
    obtain⟨e,he⟩:∃e,(aQ ts)[k]? = some e:=⟨_,ak (by omega)⟩
    obtain⟨gO,rfl⟩:=(m.o 1 rfl).some (by omega);apply aK 7 [0] m;simp only[↓aC];refine aB (aF lT eP rfl rfl (by omega) (by omega) (cH (ag _))) ?_;simp only[zz];refine aR rfl ((aj0 ((m.o 1 rfl).at vZ he)).lies vD eP) ?_;simp only[zz];apply kP 4 [0] m;simp only[↓aC,Sv,wV,aa];intro g1 u m;rcases Nat.eq_zero_or_pos (iC B e) with hz | hz
    ·
     apply aW 3 [0,0] m;simp only[↓aC,wV];refine cM m rfl rfl (wW (es:=B) (e:=e) _ ((m.o 1 rfl).lat vZ (by decide)) (by omega)) ?_;rintro v u m rfl;apply aL 8 [1,0,0,0] m;simp only[↓aC,Gr,aU,Dw,ad,ah,aa];refine⟨by omega,?_⟩;refine cN rfl (cM m rfl rfl (wW (es:=B) (e:=(e.2,e.1)) _ ((m.o 1 rfl).lat vZ (by decide)) (by omega)) ?_);rintro v u m rfl;apply aL 3 [0,0] m;simp only[↓aC];refine bA rfl ?_ ?_<;>intro hc2
     ·
      have hs:=as5 hB he hz (by omega);apply aK 3 [0,0] m;simp only[↓aC,wV];refine Fe rfl ?_;intro u g2 e_ h_ k_;replace m:=m.newB e_ h_ k_;simp only[zz];refine bW m 2 rfl rfl lT Ad rfl (by decide) rfl rfl rfl (m.b 0 rfl).rowsO (jX rfl) (by omega) (by omega) ?_;intro A4 cap4 u m;simp only[zF,zG] at m;rw[show B.flatMap bO++_=(B++[e]).flatMap bO by rw[aw];rfl] at m;apply aL 8 [0] m;simp only[↓aC];refine⟨by omega,?_⟩;exact hK1 (n3-(k+1)) _ _ (by omega) (by kernel_rfl) ⟨k+1,_,_,_,_,rfl,(m.sel [false,false,true,true]),hs,by simp;omega,by omega,by omega,rfl⟩
     ·
      have hs:=aoM hB he (fun h=>hc2 (by omega));apply aK 7 [0] m;simp only[↓aC];refine⟨by omega,?_⟩;exact hK1 (n3-(k+1)) _ _ (by omega) (by kernel_rfl) ⟨k+1,_,_,_,_,rfl,(m.sel [false,true,true]),hs,hln,by omega,by omega,rfl⟩
    ·
     have hs:=aoM hB he (fun h=>by omega);apply aW 3 [0,0] m;simp only[↓aC,wV];refine cM m rfl rfl (wW (es:=B) (e:=e) _ ((m.o 1 rfl).lat vZ (by decide)) (by omega)) ?_;rintro v u m rfl;apply aL 20 [2,0] m;simp only[↓aC];refine⟨by omega,?_⟩;exact hK1 (n3-(k+1)) _ _ (by omega) (by kernel_rfl) ⟨k+1,_,_,_,_,rfl,(m.sel [false,true,true]),hs,hln,by omega,by omega,rfl⟩
   ·
    rw[List.take_of_length_le (by omega)] at hB;apply aK 4 [0] m;simp only[↓aC];refine bC rfl rfl (yF _ (hT.ext m.ext) (by omega)) ?_;rintro v u e_ ⟨A5,cap5,n5,hn5,rfl,h_⟩;replace m:=m.newO e_ h_;have hc3:=rZ ts;have heu:Mm ts=(n5:Int)-(n4:Int)+(N:Int):=by (unfold Mm Ca;rw[←hB,hln,hn5,htl])
    apply aL 10 [] m;simp only[↓aC,lC,Bp,eV];refine⟨by omega,?_⟩;refine aT rfl rfl ?_;try simp only[zD,zE]
    exact⟨_,rfl,m.ext,by rw[heu]⟩
theorem acL{xs ys:List E3}{M cap2:Nat}{A A2:Option Addr}(w:aj)(hT:vY bO 6 w A N xs)(hU:vY bO 6 w A2 M ys)(hN:N≤100000000):dK prog 31 [.slice A N cap,.slice A2 M cap2] w (fun v _=>v=.bool (decide (xs=ys))):=by
 refine⟨bP func31 (by kernel_rfl),?_⟩;have m:=Mem.refl w;have hxl:=hT.len;have hyl:=hU.len
 go_enter func31,ntmps31
 apply fG 13 [0,0] m;simp only[↓aC,Bp];refine bA rfl ?_ ?_<;>intro hc1
 ·
  apply aK 5 [] m;simp only[↓aC];refine aT rfl rfl ?_;try simp only[zD,zE]
  exact⟨_,rfl,m.ext,by rw[decide_eq_false (fun h=>hc1 (by subst h;omega))]⟩
 ·
  apply aK 7 [0] m;simp only[↓aC];refine bX [5] [4,11,12,13,14,15,16,17,18,19,20,21,22,23,24,25] (fun n vs wl=>∃(k:Nat),vs=[.int .i64 (k:Int)]∧Mem w wl []∧(xs.take k=ys.take k)∧(k≤N)∧(n=N-k)) ?_ ?_
  ·
   exact⟨_,0,rfl,m,(by simp),Nat.zero_le _,rfl⟩
  · intro n vs wr hI u K1 hK1
    obtain⟨k,rfl,m,hq,hk,hn⟩:=hI;simp only[zu,zF,zG];apply aK 8 [0,0] m;simp only[↓aC,Bp];refine bA rfl ?_ ?_<;>intro hc2
    ·
     obtain⟨x,hx,a,hA1,hrow1⟩:=hT.get (i:=k) (by omega);subst hA1;obtain⟨y,hy,a2,hA2,hrow2⟩:=hU.get (i:=k) (by omega);subst hA2;apply aK 4 [0] m;simp only[↓aC];refine mh m [] [(0,true),(1,true),(2,true),(4,true),(5,true),(6,true),(3,true),(7,true),(8,true)] aD (by kernel_rfl) (bT (fun _ _ _ _ _ h=>h)) (ol:=?_) ?hol ?_
     case hol=>simp only[zw,zQ,zR];try rfl
     intro u m;refine aS aG (aS aG ?_);simp only[zz];refine aS (aF lT eP rfl rfl (by omega) (by omega) (cH (ag _))) (aS aG (aS aG ?_));simp only[zz];refine aS (aF lT eP rfl rfl (by omega) (by omega) (cH (ag _))) ?_;simp only[zz];refine dF rfl (fun u m=>(show eQ _ _ _ _ (ed x) from (hrow1.ext m.ext).lies vD eP)) ?_;simp only[zz];refine dF rfl (fun u m=>(show eQ _ _ _ _ (ed y) from (hrow2.ext m.ext).lies vD eP)) ?_;simp only[zz];refine aS (ago rfl rfl) (bV (gc ?_));simp only[zz];refine bA rfl ?_ ?_<;>intro hc3
     ·
      apply aK 5 [] m;simp only[↓aC];refine aT rfl rfl ?_;try simp only[zD,zE]
      exact⟨_,rfl,m.ext,by rw[decide_eq_false (fun h=>afp hc3 (by subst h;exact ep (hx.symm.trans hy)))]⟩
     ·
      have hxy:x=y:=afo hc3;subst hxy;apply aK 7 [0] m;simp only[↓aC];refine⟨by omega,?_⟩;exact hK1 (N-(k+1)) _ _ (by omega) (by kernel_rfl) ⟨k+1,rfl,m,(by rw[bY hx,bY hy,hq]),by omega,rfl⟩
    ·
     apply aK 6 [] m;simp only[↓aC];refine aT rfl rfl ?_;try simp only[zD,zE]
     exact⟨_,rfl,m.ext,by rw[decide_eq_true (Tk hq (by omega) (by omega))]⟩
theorem aa2(h:dC true ts=0):(aY ts).length≤ts.length*3:=by
 rw[←mH,←On (Jk h).2];exact List.length_filter_le ..
theorem aa3{w0 w:aj}{S:List (Option Nat)}{E:av}{g n:Nat}{e:E3}(h:Ow w0 w S E 6 (some ⟨g,0,none⟩) n cap (es.flatMap bO))(he:es[k]? = some e):mT w ⟨g,k*6,none⟩ (bO e):=by
 have:=(h.lat (enc:=bO) vZ (by decide)).at he;rwa [dV,ar] at this
theorem anV{s r:List T3}{ms:List Mv}(h:Tj s r ms){x:Mv}(hm:x∈ms){e:E3}(he:e∈aY s):x.1≠e.1∧x.1≠e.2:=by
 have hr:e∈aY r:=by rw[←h.acc.rim];exact he
 have hc:=xZ (Hf.1 hr).1;exact⟨fun k=>h.mv.nl x hm (k▸hc.1),fun k=>h.mv.nl x hm (k▸hc.2)⟩
theorem acM(h:dC true l=0):dC false l=if 0<(aY l).length then 22 else 0:=by
 unfold dC at h ⊢;by_cases h1:l.any oG=true
 · rw[if_pos h1] at h;cases h
 rw[if_neg h1] at h ⊢;by_cases h2:((aQ l).any fun e=>decide (1<iC (aQ l) e))=true
 · rw[if_pos h2] at h;cases h
 rw[if_neg h2] at h ⊢;rw[if_neg (by simp)] at h;by_cases h3:0<(aY l).length
 · rw[if_pos (by simpa using h3),if_pos h3]
 · rw[if_neg (by simpa using h3),if_neg h3];exact h
theorem anW{s r:List T3}{ms:List Mv}(h:Tj s r ms)(hs:dC true s=0)(hc:dC false s=0):dC false r=0:=by
 rw[acM h.ck,←h.acc.rim,←acM hs];exact hc
theorem Ph{A:Option Addr}{zs:List Int}{x y b:Int}(w:aj)(hL:vY aaB 1 w A N zs)(hcp:N≤cap)(hI:∀z∈zs,rN z)(hx:0≤x∧x<65536)(hy:0≤y∧y<65536)(hb:0≤b∧b<256):dK prog 6 [.slice A N cap,.agg #[.int .u16 x,.int .u16 y],.int .u8 b] w (fun v _=>v=.bool true):=by
 refine⟨bP func6 (by kernel_rfl),?_⟩;have m:=Mem.refl w;have e60:b.tmod 60=b%60:=fu hb.1
 go_enter func6,ntmps6
 apply mR 7 [0] m;simp only[↓aC];intro g1 u m;refine wA m rfl rfl Es 6 [0,0] ?_;simp only[↓aC,aof];intro u m;refine bC rfl rfl (afP _ (hL.ext m.ext) hcp hI hx hy) ?_;rintro v u e_ ⟨us,A8,n8,c8,rfl,hT8,hn8,hck⟩;replace m:=m.ext' e_;apply aL 2 [] m;simp only[↓aC];obtain⟨w1,rfl⟩:∃x,x=u:=⟨u,rfl⟩
 have hw1:=m.ext;replace m:=Mem.refl w1;apply aW 4 [0] m;simp only[↓aC];refine aB (cL rfl rfl (by omega) e60) ?_;apply aL 1 [0] m;simp only[↓aC,sW,uE];refine⟨by omega,?_⟩;refine bC rfl rfl (mA (ts:=us) _ (hT8.ext m.ext) (by omega) (by omega)) ?_;rintro v u e_ ⟨A7,n7,c7,A9,n9,c9,rfl,hn7,hn9,hM⟩;replace m:=m.plus hM;clear hM;simp only[cg,bt] at m;have hul:=hT8.len;have hle:=vW (l:=us) (want:=b%60);have hLI:=vV (want:=b%60) (l:=us) hT8.it;have hsi:=Xt (want:=b%60) hck;have hmv:=vX (l:=us) (want:=b%60);obtain⟨L,hL1⟩:∃L,L=(eL us (b%60)).1:=⟨_,rfl⟩
 obtain⟨Ms,hMs⟩:∃L,L=(eL us (b%60)).2:=⟨_,rfl⟩
 rw[←hL1] at m hn7 hle hLI hsi;rw[←hMs] at m hn9 hsi hmv;apply aL 9 [0] m;simp only[↓aC];refine bC rfl rfl (Kg _ (hT8.ext m.ext) (by omega)) ?_;rintro v u e_ ⟨A11,c11,n11,hn11,rfl,h_⟩;replace m:=m.newO e_ h_;have hbl:=aa2 hck;apply aL 8 [0] m;simp only[↓aC];refine bX [12] [6,13,29,30,31,32,33,34,35,36,37,38,39,40,41,42,43,44,45,46,47,48,49,50,51,52,53,54,55,56,57,58,59,60,61,62,63,64] (fun n vs wl=>∃(k:Nat),vs=[.int .i64 (k:Int)]∧Mem w1 wl [oI 56 6 A11 n11 c11 ((aY us).flatMap bO),oI 55 6 A9 n9 c9 (Ms.flatMap bO),oI 39 9 A7 n7 c7 (L.flatMap aM)]∧(k≤n9)∧(n=n9-k)) ?_ ?_
 ·
  exact⟨_,0,rfl,m,by omega,rfl⟩
 · intro n vs wr hI u K1 hK1
   obtain⟨k,rfl,m,hk,hn⟩:=hI;simp only[zu,zF,zG];apply aK 8 [0,0] m;simp only[↓aC,Xn];refine bA rfl ?_ ?_<;>intro hc1
   ·
    obtain⟨mv,hm⟩:∃x,Ms[k]? = some x:=⟨_,ak (by omega)⟩
    obtain⟨g9,rfl⟩:=(m.o 1 rfl).some (by omega);apply aK 8 [0] m;simp only[↓aC];refine bX [13] [6,35,36,37,38,39,40,41,42,43,44,45,46,47,48,49,50,51,52,53,54,55,56,57,58,59,60,61,62,63,64] (fun n vs wl=>∃(j:Nat),vs=[.int .i64 (j:Int)]∧Mem w1 wl [oI 56 6 A11 n11 c11 ((aY us).flatMap bO),oI 55 6 (some ⟨g9,0,none⟩) n9 c9 (Ms.flatMap bO),oI 39 9 A7 n7 c7 (L.flatMap aM)]∧(j≤n11)∧(n=n11-j)) ?_ ?_
    ·
     exact⟨_,0,rfl,m,by omega,rfl⟩
    · intro n vs wr hI u K2 hK2
      obtain⟨j,rfl,m,hj,hn2⟩:=hI;simp only[zu,zF,zG];apply aK 8 [0,0] m;simp only[↓aC,Bp];refine bA rfl ?_ ?_<;>intro hc2
      ·
       obtain⟨e,he⟩:∃x,(aY us)[j]? = some x:=⟨_,ak (by omega)⟩
       obtain⟨g11,rfl⟩:=(m.o 0 rfl).some (by omega);have hne:=anV hsi (bj hm) (bj he);apply aK 4 [0] m;simp only[↓aC];refine mh m [true,true,true] [(0,true),(1,true),(2,true),(3,true),(5,true),(6,true),(7,true),(8,true),(4,true),(9,true),(10,true),(11,true),(12,true),(13,true),(14,true),(15,true),(17,true),(18,true),(19,true),(20,true),(16,true),(21,true),(22,true),(23,true)] aD (by kernel_rfl) (bT (fun _ _ _ _ _ h=>h)) (ol:=?_) ?hol ?_
       case hol=>simp only[zw,zQ,zR];try rfl
       intro u m;refine aS aG (aS aG ?_);simp only[zz];refine aS (aF xX mD rfl rfl (by omega) (by omega) jH) (Ps 3 [] ?_);simp only[↓aC,Fk,aa];refine aS (aF lT eP rfl rfl (by omega) (by omega) jH) (Ps 1 [] ?_);simp only[↓aC,Gr,ad,ah,aa];refine⟨by omega,?_⟩;refine dF rfl (fun u m=>(show eQ _ _ _ _ (pt mv.1) from ((aa3 (m.o 1 rfl) hm).take 3).lies aH aA)) ?_;simp only[zz];refine dF rfl (fun u m=>(show eQ _ _ _ _ (pt e.1) from ((aa3 (m.o 0 rfl) he).take 3).lies aH aA)) ?_;simp only[zz];refine aS ((acw (bZ rfl rfl) (decide_eq_false fun k=>hne.1 (ahj.1 k)))) (aS aG (oU rfl (aS aG (oU rfl (aS aG ?_)))));simp only[zz];refine oU rfl (aS (aF xX mD rfl rfl (by omega) (by omega) jH) ?_);refine Ps 3 [] ?_;simp only[↓aC,Fk,aa];refine oU rfl (aS (aF lT eP rfl rfl (by omega) (by omega) jH) ?_);refine Ps 1 [] ?_;simp only[↓aC,Gr,ad,ah,aa];refine⟨by omega,?_⟩;refine oU rfl (dF rfl (fun u m=>(show eQ _ _ _ _ (pt mv.1) from ((aa3 (m.o 1 rfl) hm).take 3).lies aH aA)) ?_);simp only[zz];refine oU rfl (dF rfl (fun u m=>(show eQ _ _ _ _ (pt e.2) from (((aa3 (m.o 0 rfl) he).sub 3).take 3).lies aH aA)) ?_);simp only[zz];refine oU rfl (aS ((acw (bZ rfl rfl) (decide_eq_false fun k=>hne.2 (ahj.1 k)))) (aS (tR rfl) (bV ?_)));apply aW 8 [0] m;simp only[↓aC];refine⟨by omega,?_⟩;exact hK2 (n11-(j+1)) _ _ (by omega) (by kernel_rfl) ⟨j+1,rfl,m,by omega,rfl⟩
      ·
       apply aK 7 [0] m;simp only[↓aC];refine⟨by omega,?_⟩;exact hK1 (n9-(k+1)) _ _ (by omega) (by kernel_rfl) ⟨k+1,rfl,m,by omega,rfl⟩
   ·
    apply aK 2 [] m;simp only[↓aC];by_cases hc0:dC false us=0
    ·
     apply aW 2 [0] m;simp only[↓aC];refine cM m rfl rfl (Tu _ (hT8.ext m.ext) (by omega)) ?_;rintro v u m rfl;apply aL 3 [2,0] m;simp only[↓aC];refine⟨by omega,?_⟩;refine cN rfl (cM m rfl rfl (iH (Tu _ ((m.o 2 rfl).tris hLI) (by omega)) (by rw[anW hsi hck hc0])) ?_);rintro v u m rfl;apply aL 12 [1,0] m;simp only[↓aC];refine cN rfl (cM m rfl rfl (iH (Bb _ ((m.o 2 rfl).tris hLI) (by omega)) (by rw[hsi.ck])) ?_);rintro v u m rfl;apply aL 4 [1,0] m;simp only[↓aC];refine cN rfl (bC rfl rfl (Kg _ ((m.o 2 rfl).tris hLI) (by omega)) ?_);rintro v u e_ ⟨A12,c12,n12,hn12,rfl,h_⟩;replace m:=m.newO e_ h_;apply aL 1 [0] m;simp only[↓aC];refine cN rfl (cM m rfl rfl (iH (acL (xs:=aY L) (ys:=aY us) _ ((m.o 0 rfl).lat vZ (by decide)) ((m.o 1 rfl).lat vZ (by decide)) (by have:=aa2 hsi.ck;omega)) (by rw[decide_eq_true hsi.acc.rim.symm])) ?_);rintro v u m rfl;apply aL 3 [0] m;simp only[↓aC];refine cN rfl (cM m rfl rfl (Lb _ ((m.o 3 rfl).tris hLI) (by omega)) ?_);rintro v u m rfl;apply aL 1 [0] m;simp only[↓aC];refine cN rfl (cM m rfl rfl (iH (Lb _ (hT8.ext m.ext) (by omega)) (by rw[←hsi.eul])) ?_);rintro v u m rfl;refine cN rfl (aB (uT rfl rfl rfl) ?_);apply aL 6 [0] m;simp only[↓aC,eV];refine cN rfl (aB (ahK rfl rfl (by omega)) ?_);apply aL 4 [] m;simp only[↓aC];exact aT rfl rfl ⟨_,rfl,hw1.trans m.ext,rfl⟩
    ·
     apply aW 2 [0] m;simp only[↓aC];refine cM m rfl rfl (Tu _ (hT8.ext m.ext) (by omega)) ?_;rintro v u m rfl;apply aL 16 [1,0] m;simp only[↓aC];refine⟨by omega,?_⟩;refine cN rfl (cM m rfl rfl (iH (Bb _ ((m.o 2 rfl).tris hLI) (by omega)) (by rw[hsi.ck])) ?_);rintro v u m rfl;apply aL 4 [1,0] m;simp only[↓aC];refine cN rfl (bC rfl rfl (Kg _ ((m.o 2 rfl).tris hLI) (by omega)) ?_);rintro v u e_ ⟨A12,c12,n12,hn12,rfl,h_⟩;replace m:=m.newO e_ h_;apply aL 1 [0] m;simp only[↓aC];refine cN rfl (cM m rfl rfl (iH (acL (xs:=aY L) (ys:=aY us) _ ((m.o 0 rfl).lat vZ (by decide)) ((m.o 1 rfl).lat vZ (by decide)) (by have:=aa2 hsi.ck;omega)) (by rw[decide_eq_true hsi.acc.rim.symm])) ?_);rintro v u m rfl;apply aL 3 [0] m;simp only[↓aC];refine cN rfl (cM m rfl rfl (Lb _ ((m.o 3 rfl).tris hLI) (by omega)) ?_);rintro v u m rfl;apply aL 1 [0] m;simp only[↓aC];refine cN rfl (cM m rfl rfl (iH (Lb _ (hT8.ext m.ext) (by omega)) (by rw[←hsi.eul])) ?_);rintro v u m rfl;refine cN rfl (aB (uT rfl rfl rfl) ?_);apply aL 6 [0] m;simp only[↓aC,eV];refine cN rfl (aB (ahK rfl rfl (by omega)) ?_);apply aL 4 [] m;simp only[↓aC];exact aT rfl rfl ⟨_,rfl,hw1.trans m.ext,rfl⟩
end Go.Proofs.YtfekpcimgncioaaGreatDoor
namespace Go.Lith
open Go.RowKit Go.ChangeShapes
variable {H:Type} {enc:av × ai→H} {P:Program}
theorem lV(hl:laidOutB P=true){W W':aj}(hb:gJ W W'){sp:Nat→Bool} :
 ∀{ts:List av} {vs:List ai} {ds:List (DataW H)} {ps:List MemPlace},(ts.all fun t=>P.readableRec t&&decide (t<P.types.size))=true→DataW.TrodAll enc P W 0 (fun _=>true) true ts vs ds ps→(∀p∈ps,sp p.block=true)→DataW.TrodAll enc P W' 0 sp true ts vs ds ps
 | [],[],[],_,_,h,_=>h
 | [],[],_::_,_,_,h,_=>h.elim
 | [],_::_,_,_,_,h,_=>h.elim
 | _::_,[],_,_,_,h,_=>h.elim
 | _::_,_::_,[],_,_,h,_=>h.elim
 | t::ts,v::vs,d::ds,ps,hv,h,hs=>by
  obtain⟨p,q,⟨n,h1⟩,h2,e⟩:=h;subst e;simp only[List.all_cons,Bool.and_eq_true,decide_eq_true_eq] at hv;have hlt:=DataW.trod_lt n _ _ _ h1;exact⟨p,q,⟨n,DataW.trod_stays (kids_book hl hv.1.1) (book_sized hv.1.1) (fun h=>by cases h) ⟨hv.1.2,book_self t⟩ h1 (fun x hx=>Below.same hb (hlt x hx)) (fun x hx=>hs x (by simp[hx]))⟩,
   lV hl hb (by simpa using hv.2) h2 (fun x hx=>hs x (by simp[hx])),rfl⟩
theorem sN{f:Func}{s:ChangeSpec}{apart fresh handsOn again:Bool}{W W':aj}{args:Array ai}{t:av}{ds gs:List (DataW H)}{before:List MemPlace}
 (hl:laidOutB P=true) (hps:(f.params.toList.all fun t=>P.readableRec t&&decide (t<P.types.size))=true) (hv:s.vars=[]) (hr:f.resultTypes = #[t]) (hu:P.underlying t=some .bool)
 (hW:DataW.Whole enc P f.params.toList s.vars apart W args.toList ds gs before) (hfn:(s.fn H (ds++gs)).results=[.lit (.bool true)]∧(s.fn H (ds++gs)).args=ds∧(s.fn H (ds++gs)).vars=[]) (hb:gJ W W') :
 s.post enc P f apart fresh handsOn again W args (.bool true) W':=by
 have hW0:=hW;obtain⟨p,q,hA,hV,rfl,hz,hn⟩:=hW0;rw[hv] at hV;obtain⟨rfl,rfl⟩:=trodVars_none hV;have hargs:∀sp:Nat→Bool,(∀x∈p++[],sp x.block=true)→DataW.TrodAll enc P W' 0 sp true f.params.toList args.toList (s.fn H (ds++[])).args p:=fun sp hsp=>by
  rw[hfn.2.1];exact lV hl hb hps hA (fun x hx=>hsp x (by simp[hx]))
 have hvars:∀sp:Nat→Bool,DataW.TrodVars enc P W' sp s.vars (s.fn H (ds++[])).vars []:=fun sp=>by
  rw[hv,hfn.2.2];exact rfl
 have hres:∀(b:Nat) (sp:Nat→Bool) (hd:Bool),DataW.TrodAll enc P W' b sp hd f.resultTypes.toList ((Value.bool true).resultList f.resultTypes.size) (s.fn H (ds++[])).results []:=fun b sp hd=>by
  rw[hr,hfn.1];exact trodAll_cons_mk (shut_bool hu true) trodAll_mk0
 have hok:∀(j:Nat) (t:av) (r:ai),f.resultTypes[j]? = some t→((Value.bool true).resultList f.resultTypes.size)[j]? = some r→Value.okWide P W' .any 0 t r:=ok_one hr rfl (okWide_bool_mk hu _);have hlt:∀x∈p++[],x.block<W.heap.size:=hW.lt;have hold:∀x∈p++[],(fun b=>decide (b<W.heap.size)) x.block=true:=fun x hx=>by simpa using hlt x hx
 refine⟨ds,[],p++[],[],p,[],hW,hres _ _ _,hargs _ hold,hvars _,Below.frame hb _,fun _=>?_⟩;refine⟨hok,_,_,([]++p)++[],⟨[]++p,[],trodAll_append (hargs _ (fun _ _=>rfl)) (hres _ _ _),hvars _,rfl,?_,?_⟩,?_⟩
 · intro b off hp
   have h1:MemPlace.cell b off∈p++[]:=by simpa using hp
   rw[Below.frozen hb (p:=⟨b,off,none⟩) (hlt _ h1)];exact hz b off h1
 · intro ha
   simpa using hn ha
 · intro x hp _
   simpa using hp
end Go.Lith
namespace Go.Proofs.YtfekpcimgncioaaGreatDoor.collapseKeeps
open Go.Proofs.Tryz
open Go.ChangeShapes Go.WideShapes Go.ChangeAt Go.RowKit Go.Lith
set_option maxRecDepth 100000
theorem own:ownKnob prog.godebug=none:=by kernel_rfl
theorem laidOut:laidOutB prog=true:=by kernel_rfl
theorem contract(H:Type)(enc:av × ai→H)(W:aj)(base:Nat)(args:Array ai)(ds gs:List (DataW H))(before:List MemPlace)
 (hval:∀(j:Nat) t v,f6.params[j]? = some t→args[j]? = some v→Value.okWide prog W .any base t v)
 (hW:DataW.Whole enc prog f6.params.toList Rows.collapseKeepsSpec.vars false W args.toList ds gs before) :
 Calls prog 6 args W fun e W'=>∃v,e=.returned v∧Rows.collapseKeepsSpec.post enc prog f6 false true false false W args v W':=by
 have hW':=hW;obtain⟨p,q,hA,hV,rfl,hfz,hnd⟩:=hW;rw[params6] at hA hval;obtain⟨v0,vs0,d0,ds0,p0,q0,e0,rfl,rfl,h0,r0⟩:=trodAll_cons hA;obtain⟨v1,vs1,d1,ds1,p1,q1,e1,rfl,rfl,h1,r1⟩:=trodAll_cons r0;obtain⟨v2,vs2,d2,ds2,p2,q2,e2,rfl,rfl,h2,r2⟩:=trodAll_cons r1;obtain⟨rfl,rfl,rfl⟩:=trodAll_nil r2;subst e2;subst e1;obtain rfl:args = #[v0,v1,v2]:=by cases args;simp_all
 obtain⟨rfl,rfl⟩:=trodVars_none hV;obtain⟨HA0,HN0,Hc0,zs0,rfl,hL0,hcp0,hI0⟩:=If (n:=5) lM (by kernel_rfl) (by kernel_rfl) (hval 0 22 v0 rfl rfl) h0;obtain⟨x1,y1,hx1,hy1,rfl⟩:=Up aij underlying24 underlying23 (by kernel_rfl) (by kernel_rfl) (hval 1 24 v1 rfl rfl) h1;obtain⟨a2,rfl,_,_,wt2⟩:=open_int agS (hval 2 5 v2 rfl rfl) h2;have wb2:=bounds_u8 wt2;refine (Ph W hL0 hcp0 hI0 hx1 hy1 (show 0≤a2∧a2<256 by omega)).2.mono ?_;rintro e W' ⟨v,rfl,hE,rfl⟩;exact⟨_,rfl,sN laidOut (by kernel_rfl) rfl rfl Vc hW' ⟨rfl,rfl,rfl⟩ hE⟩
def accepts:List ai:=[128,191,160,191,128,159,144,191,128,143,0,0,0,0,0,0,0,0,0,0,0,0,0,0,0,0,0,0,0,0,0,0].map fun n=>.int .u8 n
def firsts:List ai:=Go.Pinned.utf8FirstZ.map fun (n:Nat)=>Value.int .u8 (n:Int)
def relaid(cs:List ai):Obj→Obj
 | .cells _ t frozen=>.cells cs.toArray t frozen
 | o=>o
noncomputable def laidWorld(os:Os):aj :=
 { World.holding prog os ⟨#[],#[],[]⟩ with heap:=((World.holding prog os ⟨#[],#[],[]⟩).heap.modify 0 (relaid firsts)).modify 1 (relaid accepts) }
def inp:Array ai:=#[.slice none 0 0,.agg #[.int .u16 0,.int .u16 0],.int .u8 0]
theorem laid_met(os:Os):laidMet prog Rows.collapseKeepsRow.laid ((laidWorld os).forCall (fun _ _=>0) ⟨#[],inp,[]⟩).memory :=
 laidMet_of_run' 8 (by kernel_rfl) (by kernel_rfl)
theorem reads(os:Os){H:Type}(enc:av × ai→H):∃places,DataW.whole enc prog ((laidWorld os).forCall (fun _ _=>0) ⟨#[],inp,[]⟩).memory f6.params.toList Rows.collapseKeepsSpec.vars false inp.toList 8=some ([.nil,.agg [.lit (.int .u16 0),.lit (.int .u16 0)],.lit (.int .u8 0)],[],places) :=
 ⟨[],by kernel_rfl⟩
theorem lifted(os:Os)(started:os.Started)(H:Type)(enc:av × ai→H)(F:Stop.Interp) :
 ReturnsInHanded {} checked os 6 .any ((OpenSpec.ofChange Rows.collapseKeepsSpec).preRow enc prog f6 Rows.collapseKeepsRow.domain false Rows.collapseKeepsRow.laid) (((OpenSpec.ofChange Rows.collapseKeepsSpec).at F).post enc prog f6 false true false false):=by
 obtain⟨places,hx⟩:=reads os enc;refine returnsInHanded_of_row (C:=checked) (s:=OpenSpec.ofChange Rows.collapseKeepsSpec) own started (by kernel_rfl) func6
  (witness_row_at (enc:=enc) (C:=checked) false (laidWorld os) inp rfl (by kernel_rfl) (by kernel_rfl) (by kernel_rfl)
   (OpenSpec.preRow_of_cond 8 hx (by kernel_rfl) (fun k hk=>by cases hk) (by kernel_rfl) (laid_met os))) ?_
 intro W base args ds gs before hval hW _ hc _ hL _ _;exact contract H enc W base args ds gs before hval hW
theorem j1:(Rows.collapseKeepsRow.inPlace == Tryz.pinned.checked.prog.inPlace 6)=true:=by kernel_rfl
theorem j2:(Rows.collapseKeepsRow.unfollowed == Tryz.pinned.checked.prog.unfollowed 6)=true:=by kernel_rfl
theorem j3:(Rows.collapseKeepsRow.recurses == Tryz.pinned.checked.prog.recurses 6)=true:=by kernel_rfl
theorem j4:(Rows.collapseKeepsRow.named == Tryz.pinned.checked.prog.varsNamed 6)=true:=by kernel_rfl
theorem j5:false=Rows.collapseKeepsRow.goesBy Tryz.pinned.checked.prog:=by kernel_rfl
theorem Ur:joinedFacts Tryz.pinned.checked.prog 6 f6 (OpenSpec.ofChange Rows.collapseKeepsSpec).bare Rows.collapseKeepsRow=true:=by
 unfold joinedFacts;rw[j1,j2,j3,j4]
 kernel_rfl
theorem said:Rows.CollapseKeepsSaid :=
 OpenClaim.holds_of_cond 6 f6 rfl rfl rfl rfl rfl rfl rfl ⟨rfl,rfl,rfl,rfl,rfl⟩ rfl rfl rfl rfl rfl (by kernel_rfl) func6 Ur
  (of_decide_eq_true (by kernel_rfl)) (by unfold Func.isWrapper;first | (rw[if_pos (by decide +kernel)];kernel_rfl) | (rw[if_neg (by decide +kernel)];exact⟨rfl,rfl⟩))
  (fun os started H enc _ F=>by rw[OpenClaim.pre_eq_preRow];exact lifted os started H enc F)
theorem plain(f:FuncId)(fn:Func)(hf:Tryz.pinned.checked.prog.funcNamed Rows.collapseKeepsRow.func=some f)(hfn:Tryz.pinned.checked.prog.funcs[f]? = some fn) :
 false=Tryz.pinned.checked.prog.looks []∧∀(j:Nat) t,fn.params[j]? = some t→Tryz.pinned.checked.prog.wantsStandIn t=false:=by
 obtain rfl:f=6:=ep ((show prog.funcNamed Rows.collapseKeepsRow.func=some 6 by kernel_rfl).symm.trans hf) |>.symm
 obtain rfl:fn=f6:=(ep (func6.symm.trans hfn)).symm;refine⟨by kernel_rfl,fun j t ht=>?_⟩;rw[params6] at ht;have hm:t∈[22,24,5]:=by simpa using Array.mem_of_getElem? ht
 have hall:([22,24,5].all fun u=>!prog.wantsStandIn u)=true:=by kernel_rfl
 exact (show prog.wantsStandIn t=false by simpa using List.all_eq_true.1 hall t hm)
theorem card:Rows.CollapseKeepsCardSaid :=
 Claim7.holds_tied_plain_at .later [] _ _ _ _ said (fun _ h=>by cases h) (by kernel_rfl) (fun _ h=>by cases h) collapseKeeps_row_tie rfl ⟨rfl,rfl⟩ (by kernel_rfl) rfl plain j5
end Go.Proofs.YtfekpcimgncioaaGreatDoor.collapseKeeps
