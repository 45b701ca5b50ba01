/-
 Texts of one claim, laid together: K41, K36, K42, K43, K44, K45, K34, Open5, K35, Open7, K77.
-/
import Derived.Test.YtfekpcimgncioaaGreatDoorG8
open Nat renaming reduceAdd→aa
open Int renaming reduceToNat→ad,toNat_natCast→ag,tmod_eq_emod_of_nonneg→fu
open Go renaming Value→ai,World→aj
open List renaming not_mem_nil→cl,mem_of_mem_take→ja
open Bool renaming not_false→fh
open Go.Value renaming okWide→kj,cells→qp
set_option maxHeartbeats 8000000
set_option linter.unusedSimpArgs false
set_option linter.unusedVariables false
set_option linter.unusedSectionVars false
namespace Go.Proofs.YtfekpcimgncioaaGreatDoor
open Go.Proofs.Tryz
open Go.RowKit Go.Lith
set_option maxRecDepth 100000
attribute [local irreducible] wpList wpQuiet fA bF cG Code.wp
attribute [local congr] nO fK fM fN fO fP iY fQ fR fS fT fU fV fW fX fY fZ gA dX dY gB gC gE gF gG jA cQ cR cE cP gD iZ dZ eA eB gH gI jD
theorem uH{w:aj}{g:Nat}{t:T3}{T:TypeId}{j:Nat}(h:gT w g (aM t) T)(hj:j<3):mT w ⟨g,j*3,none⟩ (dU (t.cor j)):=by
 rcases j with _ | _ | _ | j
 · exact (h.row 0).take 3
 · exact (h.row 3).take 3
 · exact (h.row 6).take 3
 · omega
theorem iH{P:Program}{f:FuncId}{args:List ai}{w:aj}{v v':ai}(h:dK P f args w fun u _=>u=v)(e:v=v'):dK P f args w fun u _=>u=v':=e▸h
theorem Uo{p:P3}(h:(-1000≤p.x∧p.x≤1000)∧(-1000≤p.y∧p.y≤1000)∧(-1000≤p.z∧p.z≤1000)):I3 p:=⟨by unfold rN;omega,by unfold rN;omega,by unfold rN;omega⟩
instance sx3:I3 (⟨10,0,0⟩:P3):=Uo (by decide)
instance sy3:I3 (⟨0,10,0⟩:P3):=Uo (by decide)
instance sz3:I3 (⟨-10,0,0⟩:P3):=Uo (by decide)
instance sa3:I3 (⟨0,0,0⟩:P3):=Uo (by decide)
instance sb3:I3 (⟨9,0,0⟩:P3):=Uo (by decide)
instance sc3:I3 (⟨0,9,0⟩:P3):=Uo (by decide)
instance sd3:I3 (⟨0,0,9⟩:P3):=Uo (by decide)
theorem Qo:∀t∈Fy,IT t:=kV ajx
def s1T:List T3:=[⟨⟨0,0,0⟩,⟨0,9,0⟩,⟨9,0,0⟩⟩,⟨⟨0,0,0⟩,⟨9,0,0⟩,⟨0,0,9⟩⟩,⟨⟨9,0,0⟩,⟨0,9,0⟩,⟨0,0,9⟩⟩,⟨⟨0,9,0⟩,⟨0,0,0⟩,⟨0,0,9⟩⟩]
def s2T:List T3:=[⟨⟨0,0,0⟩,⟨9,0,0⟩,⟨0,9,0⟩⟩]
theorem as3:∀t∈s1T,IT t:=fun t ht=>by
 simp only[s1T,List.mem_cons,cl,or_false] at ht;rcases ht with rfl | rfl | rfl | rfl
 · exact⟨sa3,sc3,sb3⟩
 · exact⟨sa3,sb3,sd3⟩
 · exact⟨sb3,sc3,sd3⟩
 · exact⟨sc3,sa3,sd3⟩
theorem as4:∀t∈s2T,IT t:=fun t ht=>by
 simp only[s2T,List.mem_cons,cl,or_false] at ht;subst ht;exact⟨sa3,sb3,sc3⟩
theorem ark:aaW Fy ⟨10,0,0⟩ ⟨0,10,0⟩=true:=by rw[aaW,agK,amC];decide
theorem arl:aaW Fy ⟨10,0,0⟩ ⟨-10,0,0⟩=false:=by rw[aaW,amD,Bool.and_false]
theorem atP:aaW s1T ⟨0,0,0⟩ ⟨9,0,0⟩=false:=by kernel_rfl
theorem atQ:(eZ s2T ⟨0,0,0⟩ ⟨9,0,0⟩).length=0:=by kernel_rfl
theorem arm:(eL Fy 7).1.length=6:=congrArg Prod.fst abX
theorem arn:(eL Fy 7).2=[(⟨-10,0,0⟩,⟨0,-10,0⟩)]:=congrArg Prod.snd abX
theorem Es  : fF prog 14 [] (.bool true):=by
 intro w;refine⟨bP func14 (by kernel_rfl),?_⟩;have m:=Mem.refl w
 go_enter func14,ntmps14
 apply fG 6 [0] m;simp only[↓aC];refine bC rfl rfl (ap5 _) ?_;rintro v u e_ ⟨A1,cap1,n1,rfl,rfl,h_⟩;replace m:=m.newO e_ h_;apply kP 13 [0,0] m;simp only[↓aC,yD,gM,aU,aa];intro g1 u m;refine go (cM m rfl rfl (iH (Nk (ts:=Fy) (p:=⟨10,0,0⟩) (q:=⟨0,10,0⟩) _ ((m.o 1 rfl).tris Qo) (by decide)) (by rw[ark])) ?_);rintro v u m rfl;apply aL 4 [0,0] m;simp only[↓aC,aU,yD,aa];refine cN rfl (cM m rfl rfl (iH (Nk (ts:=Fy) (p:=⟨10,0,0⟩) (q:=⟨-10,0,0⟩) _ ((m.o 1 rfl).tris Qo) (by decide)) (by rw[arl])) ?_);rintro v u m rfl;apply aL 6 [0,0] m;simp only[↓aC,aU,yD,Bool.not_true,fh,aa];refine cN rfl (bC rfl rfl (Ht (ts:=Fy) (p:=⟨10,0,0⟩) (q:=⟨0,10,0⟩) _ ((m.o 1 rfl).tris Qo) (by decide)) ?_);rintro v u e_ ⟨A2,cap2,n2,hn2,rfl,h_⟩;replace m:=m.newO e_ h_;obtain rfl:n2=6:=by rw[hn2];exact amE
 apply aL 1 [0] m;simp only[↓aC,eV];refine cN rfl (aB (uT rfl rfl rfl) ?_);apply kP 12 [0] m;simp only[↓aC,yD,gM,aU,aa];intro g2 u m;apply Wy 8 [0,0] m;simp only[↓aC,gM,aU,yD,aa];intro g3 g4 u m;apply Wy 11 [0,3,1] m;simp only[↓aC,yD,gM,aU,aa];intro g5 u m;apply aW 5 [2,3,2,0] m;simp only[↓aC,aU,tJ,aa];apply aW 5 [2,1,0] m;simp only[↓aC,tJ,aU,aa];apply aW 4 [1,3,0,0] m;simp only[↓aC,aU,tJ,aa];refine agp rfl rfl rfl rfl ?_;intro u g6 e_ h_ k_;replace m:=m.newB e_ h_ k_;simp only[zz];replace m:=m.own 0 rfl (n:=4) (c:=9) rfl (kG rfl);simp only[zG] at m;apply aL 2 [4,3,0] m;simp only[↓aC,aU];refine cM m rfl rfl (iH (Nk (ts:=s1T) (p:=⟨0,0,0⟩) (q:=⟨9,0,0⟩) _ (((m.o 0 rfl).as (show _=s1T.flatMap aM from rfl)).tris as3) (by decide)) (by rw[atP])) ?_;rintro v u m rfl;apply aL 6 [4,3,2,0] m;simp only[↓aC,aU,tJ,Bool.not_true,fh,aa];refine cN rfl (eF rfl ?_);intro u g7 e_ h_ k_;replace m:=m.newB e_ h_ k_;simp only[zz];replace m:=m.own 0 rfl (n:=1) (c:=9) rfl (kG rfl);simp only[zG] at m;apply aL 2 [5,4,0] m;simp only[↓aC,aU];refine cN rfl (bC rfl rfl (Ht (ts:=s2T) (p:=⟨0,0,0⟩) (q:=⟨9,0,0⟩) _ (((m.o 0 rfl).as (show _=s2T.flatMap aM from rfl)).tris as4) (by decide)) ?_);rintro v u e_ ⟨A5,cap5,n5,hn5,rfl,h_⟩;replace m:=m.newO e_ h_;obtain rfl:n5=0:=by rw[hn5];exact atQ
 apply aL 1 [0] m;simp only[↓aC,eV];refine cN rfl (aB (uT rfl rfl rfl) ?_);apply aL 6 [0] m;simp only[↓aC];refine bC rfl rfl (mA (ts:=Fy) (want:=7) _ ((m.o 9 rfl).tris Qo) (by decide) (by decide)) ?_;rintro v u e_ ⟨A7,n7,c7,A8,n8,c8,rfl,hn7,hn8,hM⟩;replace m:=m.plus hM;clear hM;simp only[List.cons_append,List.nil_append] at m;obtain rfl:n7=6:=hn7.trans arm;rw[arn] at hn8 m;obtain rfl:n8=1:=hn8;apply aL 15 [0] m;simp only[↓aC,eV];refine cN rfl (aB (uT rfl rfl rfl) ?_);apply aL 6 [] m;simp only[↓aC,yD,ar5,aa];refine go (cN rfl (Lv rfl ?_));intro u g8 e_ h_ k_;replace m:=m.newB e_ h_ k_;simp only[zz];replace m:=m.own 0 rfl (n:=1) (c:=6) rfl (kG rfl);simp only[zG] at m;refine cN rfl (cM m rfl rfl (iH (Jy (xs:=[(⟨-10,0,0⟩,⟨0,-10,0⟩)]) (ys:=[(⟨-10,0,0⟩,⟨0,-10,0⟩)]) _ ((m.o 1 rfl).lat vZ (by decide)) (((m.o 0 rfl).as (show _=([(⟨-10,0,0⟩,⟨0,-10,0⟩)]:List E3).flatMap bO from rfl)).lat vZ (by decide)) (by decide)) (by rw[decide_eq_true rfl])) ?_);rintro v u m rfl;apply aL 4 [] m;simp only[↓aC];exact aT rfl rfl ⟨_,rfl,m.ext,rfl⟩
end Go.Proofs.YtfekpcimgncioaaGreatDoor
namespace Go.Lith
open Go.RowKit Go.ChangeShapes
variable {H:Type} {enc:TypeId × ai→H} {P:Program} {w:aj} {base:Nat} {spare:Nat→Bool} {held:Bool}
theorem acJ{v:ai}{A:Option Addr}{len cap:Nat}(h:v.cells.toList=[.slice A len cap])(hv:∀cs,v≠.agg cs):v=.slice A len cap:=by
 cases v <;> first | (exact absurd rfl (hv _)) | (simp[qp] at h;done) | (simpa[qp] using h)
end Go.Lith
namespace Go.Proofs.YtfekpcimgncioaaGreatDoor
open Go.Proofs.Tryz
open Go.RowKit Go.Lith
set_option maxRecDepth 100000
attribute [local irreducible] wpList wpQuiet fA bF cG Code.wp
end Go.Proofs.YtfekpcimgncioaaGreatDoor
namespace Go.Lith
open Go.RowKit Go.ChangeShapes
variable {H:Type} {enc:TypeId × ai→H} {P:Program} {w:aj} {base:Nat} {spare:Nat→Bool} {held:Bool}
def aro(k:IntKind)(z:Int):List ai:=[.int k z]
theorem alp{A:Option Addr}{n:Nat}{zs:List Int}(h:ah1 w A n zs):vY (aro .i64) 1 w A n zs:=⟨h.len,fun i x hx=>by
 obtain⟨a,rfl,hc⟩:=h.row i x hx;exact⟨a,rfl,fun j u hj=>by
  have h1:j=0:=by
   have:=(List.getElem?_eq_some_iff.1 hj).1;simp[aro] at this;omega
  subst h1;cases hj;rw[Nat.mul_one,jK,Nat.add_zero];exact hc⟩⟩
theorem If{r:Reach}{b0 n:Nat}{t e:TypeId}{v:ai}{d:DataW H}{p:List MemPlace}(hu:P.underlying t=some (.slice e))(hi:uY P n e=true)(hc:P.cellsOf e=1)(hv:kj P w r b0 t v)(h:DataW.Trod enc P w base spare held t v d p) :
 ∃(A:Option Addr) (len cap:Nat) (zs:List Int),v=.slice A len cap∧vY (aro .i64) 1 w A len zs∧len≤cap∧∀z∈zs,rN z:=by
 obtain⟨fuel,hf⟩:=h;obtain⟨A,len,cap,zs,e,h2,_,_,h1⟩:=ac3 hu hi hc hf;refine⟨A,len,cap,zs,acJ e fun cs hcs=>?_,alp h1,h2,h1.it⟩;unfold kj at hv;rw[hu] at hv;subst hcs;simp[Cell.okWide,Cell.ok,hu] at hv
theorem Up{r:Reach}{b0:Nat}{t e:TypeId}{v:ai}{d:DataW H}{p:List MemPlace}(ha:eX P t true)(hut:P.underlying t=some (.array 2 e))(hue:P.underlying e=some (.int .u16))(hce:P.cellsOf e=1)(hct:P.cellsOf t=2)
 (hv:kj P w r b0 t v) (h:DataW.Trod enc P w base spare held t v d p):∃a b:Int,(0≤a∧a<65536)∧(0≤b∧b<65536)∧v=.agg #[.int .u16 a,.int .u16 b]:=by
 obtain⟨dd,hu,hd⟩:=ha;obtain⟨fuel,hf⟩:=h;unfold kj at hv;rw[hu] at hv;have:∃cs,v=.agg cs:=by
  cases dd <;> first | (obtain⟨cs,rfl,_⟩:=hv;exact⟨cs,rfl⟩) | (cases hd)
 obtain⟨cs,rfl⟩:=this;obtain⟨ys,k,_,_,hl,hlen,hx⟩:=DataW.trod_array hut hf;obtain⟨l,rfl⟩:∃l:List ai,cs=l.toArray:=⟨cs.toList,rfl⟩
 simp only[qp] at hl hx;rw[hct] at hl
 match l,hl with
 | [u0,u1],_ =>
  have one:∀i,i<2→∃a:Int,(0≤a∧a<65536)∧(([u0,u1].drop (i*1)).take 1)=[.int .u16 a]:=fun i hi=>by
   have hq:=hx i hi;rw[List.getElem?_eq_getElem (by rw[hlen];exact hi),hce] at hq;obtain⟨z,e1,_,hz⟩:=DataW.trod_int hue hq;have hb:=bounds_u16 hz;exact⟨z,by omega,e1⟩
  obtain⟨a,ha,e0⟩:=one 0 (by decide);obtain⟨b,hb,e1⟩:=one 1 (by decide);have q0:u0=.int .u16 a:=by simpa using e0
  have q1:u1=.int .u16 b:=by simpa using e1
  exact⟨a,b,ha,hb,by rw[q0,q1]⟩
end Go.Lith
namespace Go.Proofs.YtfekpcimgncioaaGreatDoor
open Go.Proofs.Tryz
open Go.RowKit Go.Lith
set_option maxRecDepth 100000
attribute [local irreducible] wpList wpQuiet fA bF cG Code.wp
attribute [local congr] nO fK fM fN fO fP iY fQ fR fS fT fU fV fW fX fY fZ gA dX dY gB gC gE gF gG jA cQ cR cE cP gD iZ dZ eA eB gH gI jD
variable{N cap:Nat}{at0 ax:Int}
theorem aeB{ts:List T3}{a:Nat}{A:Option Addr}(w:aj)(hT:bQ w A N ts)(hNl:N≤1536)(ha:a<3):dK prog 96 [.slice A N cap,.int .i64 (a:Int),.int .i64 at0] w (fun v w'=>∃us:List T3,(us.length≤N∧∀t∈us,IT t)∧SL 39 9 (us.flatMap aM) us.length w v w'):=by
 refine⟨bP func96 (by kernel_rfl),?_⟩;have m:=Mem.refl w;have htl:=hT.len
 go_enter func96,ntmps96
 apply fG 6 [0] m;simp only[↓aC];refine aB aP ?_;replace m:=m.nilO 39 9;apply aL 7 [0] m;simp only[↓aC];refine bX [7,8] [9,10,11,12,13,14,15,16,17,18,19,20,21,22,23,24,25,26,27,28,29,30,31,32,33,34,35,36,37,38,39,40,41,42,43,44,45,46,47,48,49,50,51] (fun n vs wl=>∃(k n7:Nat) (us:List T3) (A7:Option Addr) (cap7:Nat),vs=[.slice A7 n7 cap7,.int .i64 (k:Int)]∧Mem w wl [oI 39 9 A7 n7 cap7 (us.flatMap aM)]∧(us.length=n7)∧(∀t∈us,IT t)∧(n7≤k)∧(k≤N)∧(n=N-k)) ?_ ?_
 ·
  exact⟨_,0,0,[],none,0,rfl,m,rfl,by simp,by omega,by omega,rfl⟩
 · intro n vs wr hI u K1 hK1
   obtain⟨k,n7,us,A7,cap7,rfl,m,hul,hui,hb,hk,hn⟩:=hI;simp only[zu,zF,zG];apply aK 8 [0,0] m;simp only[↓aC,eV];refine bA rfl ?_ ?_<;>intro hc1
   ·
    obtain⟨t,ht,hit,a0,hA,hrow⟩:=hT.get (i:=k) (by omega);subst hA;apply aK 13 [0] m;simp only[↓aC];refine bX [9,10] [11,12,19,20,21,22,23,24,25,26,27,28,29,30,31,32,33,34,35,36,37,38,39,40,41,42] (fun n vs wl=>∃(j c:Nat),vs=[.int .i64 (c:Int),.int .i64 (j:Int)]∧Mem w wl [oI 39 9 A7 n7 cap7 (us.flatMap aM)]∧(c≤j)∧(j≤3)∧(n=3-j)) ?_ ?_
    ·
     exact⟨_,0,0,rfl,m,by omega,by omega,rfl⟩
    · intro n vs wr hI u K2 hK2
      obtain⟨j,c,rfl,m,hc,hj,hn2⟩:=hI;simp only[zu,zF,zG];apply aK 6 [0,0] m;simp only[↓aC];refine bA rfl ?_ ?_<;>intro hc2
      ·
       apply aK 8 [0] m;simp only[↓aC];refine aB (aF bL aO rfl rfl (by omega) (by omega) (cH (ag _))) ?_;simp only[zz];refine aB (aJ cT aA rfl rfl (by omega) (by omega) (cH (ag _))) ?_;simp only[zz];refine aR rfl (show eQ _ _ _ _ (pt (t.cor j)) from ((hrow.ext m.ext).cor (show j<3 by omega)).lies aH aA) ?_;simp only[zz];apply kP 17 [0,0,0,0,0] m;simp only[↓aC,gM,aU,kH,eR,kI,lE,yE,Oj,Dv,aa];intro g1 g2 u m;apply aW 1 [0] m;simp only[↓aC];refine aB (aJ sA bD rfl rfl (by omega) (by omega) (fI (ag _))) ?_;simp only[zz];refine aR rfl (aol (m.b 0 rfl) (show a<3 by omega)) ?_;simp only[zz];apply aL 3 [0,0] m;simp only[↓aC];refine Sb m [9] [41,42] (fun vs=>∃(c:Nat),vs=[.int .i64 (c:Int)]∧(c≤j+1)) ?_ ?_
       · intro K3 hK3
         refine bA rfl ?_ ?_<;>intro hc3
         ·
          apply aK 5 [0] m;simp only[↓aC];refine⟨by omega,?_⟩;exact hK3 _ _ (by kernel_rfl) m ⟨c+1,rfl,by omega⟩
         ·
          apply aK 1 [0] m;simp only[↓aC];exact hK3 _ _ (by kernel_rfl) m ⟨c,rfl,by omega⟩
       · intro vs wr m hI u
         obtain⟨c,rfl,hc⟩:=hI;simp only[zu,zF,zG];apply aW 6 [0] m;simp only[↓aC];refine⟨by omega,?_⟩;exact hK2 (3-(j+1)) _ _ (by omega) (by kernel_rfl) ⟨j+1,_,rfl,(m.sel [false,false,true]),by omega,by omega,rfl⟩
      ·
       apply aK 6 [0,0] m;simp only[↓aC];refine bA rfl ?_ ?_<;>intro hc4
       ·
        apply aK 4 [0] m;simp only[↓aC];refine aB (aF bL aO rfl rfl (by omega) (by omega) (cH (ag _))) ?_;simp only[zz];refine aR rfl (show eQ _ _ _ _ (tr t) from (hrow.ext m.ext).lies cK aO) ?_;simp only[zz];refine eF rfl ?_;intro u g1 e_ h_ k_;replace m:=m.newB e_ h_ k_;simp only[zz];refine bW m 1 rfl rfl bL gR rfl (by decide) rfl rfl rfl (m.b 0 rfl).rowsO (jX rfl) (by omega) (by omega) ?_;intro A7 cap7 u m;simp only[zF,zG] at m;rw[show us.flatMap aM++_=(us++[t]).flatMap aM by rw[List.flatMap_append];rfl] at m;apply aL 8 [0] m;simp only[↓aC];refine⟨by omega,?_⟩;exact hK1 (N-(k+1)) _ _ (by omega) (by kernel_rfl) ⟨k+1,_,_,_,_,rfl,(m.sel [false,true]),by rw[List.length_append,hul];rfl,fun u hu=>(List.mem_append.1 hu).elim (hui u) fun h=>by cases List.mem_singleton.1 h;exact hit,by omega,by omega,rfl⟩
       ·
        apply aK 7 [0] m;simp only[↓aC];refine⟨by omega,?_⟩;exact hK1 (N-(k+1)) _ _ (by omega) (by kernel_rfl) ⟨k+1,_,_,_,_,rfl,m,hul,hui,by omega,by omega,rfl⟩
   ·
    apply aK 7 [] m;simp only[↓aC];exact aT rfl rfl ⟨_,rfl,m.ext,us,⟨by omega,hui⟩,_,_,_,hul.symm,rfl,(m.o 0 rfl)⟩
theorem alq{ts:List T3}{A:Option Addr}(w:aj)(hT:bQ w A N ts)(hNl:N≤1536)(hax:0≤ax∧ax<256)(hat:0≤at0∧at0<65536):dK prog 48 [.slice A N cap,.int .u8 ax,.int .u16 at0] w (fun v w'=>∃(us:List T3) (A':Option Addr) (n' c':Nat),v=.slice A' n' c'∧bQ w' A' n' us∧n'≤N):=by
 refine⟨bP func48 (by kernel_rfl),?_⟩;have m:=Mem.refl w;have e1:ax.tmod 4=ax%4:=fu hax.1;have e2:at0.tmod 1500=at0%1500:=fu hat.1
 go_enter func48,ntmps48
 apply fG 8 [0] m;simp only[↓aC];refine aB (cL rfl rfl (by omega) e1) ?_;apply aL 2 [0,0] m;simp only[↓aC];refine bA rfl ?_ ?_<;>intro hc1
 ·
  apply aK 6 [] m;simp only[↓aC];exact aT rfl rfl ⟨_,rfl,m.ext,ts,_,_,_,rfl,hT.ext m.ext,Nat.le_refl _⟩
 ·
  obtain⟨a,ha,ha3⟩:∃a:Nat,ax%4=(a:Int)∧a<3:=⟨(ax%4).toNat,by omega,by omega⟩
  apply aK 5 [0] m;simp only[↓aC];refine aB (cL rfl rfl (by omega) (e1.trans ha)) ?_;apply aL 2 [0] m;simp only[↓aC,sW,uE];refine⟨by omega,?_⟩;refine aB (cL rfl rfl (by omega) e2) ?_;apply aL 2 [0] m;simp only[↓aC,Su,uE];refine⟨by omega,?_⟩;refine bC rfl rfl (aeB _ (hT.ext m.ext) hNl ha3) ?_;rintro v u e_ ⟨us,⟨hl,hui⟩,A9,cap9,n9,hn9,rfl,h_⟩;replace m:=m.newO e_ h_;apply aL 3 [] m;simp only[↓aC];exact aT rfl rfl ⟨_,rfl,m.ext,us,_,_,_,rfl,(m.o 0 rfl).tris hui,by omega⟩
theorem ahv{A:Option Addr}{zs:List Int}(w:aj)(hL:vY aaB 1 w A N zs)(hcp:N≤cap)(hI:∀z∈zs,rN z)(hax:0≤ax∧ax<256)(hat:0≤at0∧at0<65536):dK prog 15 [.slice A N cap,.int .u8 ax,.int .u16 at0] w (fun v w'=>∃(us:List T3) (A':Option Addr) (n' c':Nat),v=.slice A' n' c'∧bQ w' A' n' us∧n'≤1536):=by
 refine⟨bP func15 (by kernel_rfl),?_⟩;have m:=Mem.refl w;have hl:=hL.len;obtain⟨M,hM⟩:∃M,M=min 4 N:=⟨_,rfl⟩
 go_enter func15,ntmps15
 apply fG 10 [] m;simp only[↓aC,Oi];rw[show (if (4:Int)<(N:Int) then (4:Int) else (N:Int))=(M:Int) by split <;> omega];refine go (aB (kL lM bD rfl rfl (ag _) (by omega) (by omega)) ?_);simp only[zz];refine bC rfl rfl (vU _ ((hL.ext m.ext).take (show M≤N by omega)) (fun z hz=>hI z (ja hz))) ?_;rintro v u e_ ⟨vt,hBo,⟨hl0,hit⟩,A8,cap8,n8,hn8,rfl,h_⟩;replace m:=m.newO e_ h_;apply aL 2 [0] m;simp only[↓aC];refine bC rfl rfl (alq (ts:=dW vt) _ ((m.o 0 rfl).tris hit) (by omega) hax hat) ?_;rintro v u e_ ⟨us,A9,n9,c9,rfl,hT9,hn9⟩;replace m:=m.ext' e_;apply aL 3 [] m;simp only[↓aC];exact aT rfl rfl ⟨_,rfl,m.ext,us,_,_,_,rfl,hT9,by omega⟩
theorem afP{A:Option Addr}{zs:List Int}{x y:Int}(w:aj)(hL:vY aaB 1 w A N zs)(hcp:N≤cap)(hI:∀z∈zs,rN z)(hx:0≤x∧x<65536)(hy:0≤y∧y<65536):dK prog 27 [.slice A N cap,.agg #[.int .u16 x,.int .u16 y]] w (fun v w'=>∃(us:List T3) (A':Option Addr) (n' c':Nat),v=.slice A' n' c'∧bQ w' A' n' us∧n'≤1536∧dC true us=0):=by
 refine⟨bP func27 (by kernel_rfl),?_⟩;have m:=Mem.refl w;have hl:=hL.len;obtain⟨M,hM⟩:∃M,M=min 4 N:=⟨_,rfl⟩
 go_enter func27,ntmps27
 apply mR 10 [0,0] m;simp only[↓aC,aog,aoe,ad,Nat.reduceMul,aa];intro g1;refine⟨by omega,?_⟩;intro u m;refine aB (mU agS underlying23 rfl (show IntKind.u8.wrap x=x%256 from rfl)) ?_;apply aL 2 [0,0] m;simp only[↓aC,aog,aoe,ad,Nat.reduceMul,aa];refine⟨by omega,?_⟩;refine bC rfl rfl (ahv _ (hL.ext m.ext) hcp hI (by omega) hy) ?_;rintro v u e_ ⟨us,A9,n9,c9,rfl,hT9,hn9⟩;replace m:=m.ext' e_;apply aL 6 [0] m;simp only[↓aC];refine bC rfl rfl (Bb _ hT9 (by omega)) ?_;rintro v u e_ rfl;replace m:=m.ext' e_;replace hT9:=hT9.ext e_;apply aL 2 [0,0] m;simp only[↓aC];refine bA rfl ?_ ?_<;>intro hc1
 ·
  apply aK 6 [] m;simp only[↓aC,Oi];rw[show (if (4:Int)<(N:Int) then (4:Int) else (N:Int))=(M:Int) by split <;> omega];refine go (aB (kL lM bD rfl rfl (ag _) (by omega) (by omega)) ?_);simp only[zz];refine bC rfl rfl (vU _ ((hL.ext m.ext).take (show M≤N by omega)) (fun z hz=>hI z (ja hz))) ?_;rintro v u e_ ⟨vt,hBo,⟨hl0,hit⟩,A8,cap8,n8,hn8,rfl,h_⟩;replace m:=m.newO e_ h_;apply aL 3 [] m;simp only[↓aC];exact aT rfl rfl ⟨_,rfl,m.ext,dW vt,_,_,_,rfl,(m.o 0 rfl).tris hit,by omega,Ba hBo⟩
 ·
  apply aK 7 [] m;simp only[↓aC];exact aT rfl rfl ⟨_,rfl,m.ext,us,_,_,_,rfl,hT9,by omega,by omega⟩
end Go.Proofs.YtfekpcimgncioaaGreatDoor
