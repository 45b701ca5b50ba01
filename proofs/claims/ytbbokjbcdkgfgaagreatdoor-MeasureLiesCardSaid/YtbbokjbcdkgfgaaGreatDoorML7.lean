/-
 Texts of one claim, laid together: Meas5, Sane, Vw, D19, Join, Open5, Open9, Open7.
-/
import Derived.OpenVars
import Derived.OpenShut
import Derived.WalkKit
import Derived.ProofKit
import Derived.Test.YtbbokjbcdkgfgaaGreatDoorML6
open Nat renaming reduceAdd->aa,reduceMul->C,mul_one->bi
open Int renaming toNat_natCast->ab,reduceToNat->ac,reduceAdd->M
open Go renaming wp_region_lit->f,Value->am,World->an,TypeId->ba,Program->B
open List renaming replicate->bn,nil_append->cv,cons_append->dx
open Go.Value renaming bool->fz,okWide->nw
set_option maxHeartbeats 8000000
set_option linter.unusedSimpArgs false
set_option linter.defProp false
set_option linter.unusedVariables false
set_option linter.unusedSectionVars false
open And renaming intro->R
open Bool renaming true->N,false->X7
open Option renaming some->H,none->X8
open Go.Proofs.Tryz renaming prog->X9
namespace Go.Proofs.YtbbokjbcdkgfgaaGreatDoor
open Go.Proofs.Tryz
open Go.RowKit Go.Lith
set_option maxRecDepth 100000
attribute [local irreducible] wpList wpQuiet fS cE cP Code.wp
attribute [local congr] fE fF eN fD
variable{cap:Nat}
def akl{ts:List T3}{a:Nat}{A:Option Addr}(w:an)(c:cI w A a ts)(e:a<4611686018427387904):cX X9 14 [.slice A a cap] w (λv _=>v=Q (Rat.divInt (fA qR ts) 6)):=by
 refine⟨bP func14 (by kernel_rfl),?_⟩;have m:=Mem.refl w;haveI:K 264 (fA qR ts):=⟨uW (m:=200) (λu f=>by haveI:=c.it u f;exact tV) (by rw[c.len];omega)⟩
 go_enter func14,ntmps14
 apply gJ 7 [0] m;simp only[↓Z,lW];intro g u m;refine bY m O O (La _ (c.ext m.ext) e) ?_;rintro v u m rfl;simp only[J];refine eV m O O (iM Iw.h) ?_;intro u m;simp only[J];refine iE m O O (yY (n:=fA qR ts) (d:=6) K.up K.up (by decide)) 3 [0] ?_;simp only[↓Z,kA,aa];intro u m;exact aS O ⟨_,O,((m.b 0 O).full iG dC)⟩ ⟨_,O,m.ext,O⟩
def akm{ts:List T3}{g:Nat}{A:Option Addr}(w:an)(c:cI w A g ts)(hN:g<4611686018427387904):cX X9 12 [.slice A g cap] w (λv _=>v=.tuple #[Go.Lith.fv (cq (fA (My Y.x) ts) (fA qR ts)) (cq (fA (My Y.y) ts) (fA qR ts)) (cq (fA (My Y.z) ts) (fA qR ts)),.bool (decide (fA qR ts≠0))]):=by
 refine⟨bP func12 (by kernel_rfl),?_⟩;have m:=Mem.refl w
 go_enter func12,ntmps12
 apply gJ 15 [] m;simp only[↓Z,ah9,eX,aa0];intro p q r u m;apply aQ 6 [0] m;simp only[↓Z,gN];refine bT [18] [7,8,9,10,12,19,20,21,22,23,24,25,26,27,28,29,30,31,32,33,34,35,36,37,38,39,40,41,42,43,44,45,46,47,48,49,50,51] (λn vs E=>∃(k:Nat),vs=[U (k:Int)]/\Mem w E [bI r [.bool (cQ (fA (My Y.x) (ts.take k))),.string (dQ (fA (My Y.x) (ts.take k))),.bool (cQ (fA (My Y.y) (ts.take k))),.string (dQ (fA (My Y.y) (ts.take k))),.bool (cQ (fA (My Y.z) (ts.take k))),.string (dQ (fA (My Y.z) (ts.take k)))] 87,bI q [.bool (cQ (fA qR (ts.take k))),.string (dQ (fA qR (ts.take k)))] 37,bI p [.bool X7,.string ⟨#[]⟩,.bool X7,.string ⟨#[]⟩,.bool X7,.string ⟨#[]⟩,.bool X7,.string ⟨#[]⟩,.bool X7,.string ⟨#[]⟩,.bool X7,.string ⟨#[]⟩] 50]/\(k<=g)/\(n=g-k)) ?_ ?_
 .exact⟨_,0,O,m,Nat.zero_le _,O⟩
 intro n vs wr s u P G;obtain⟨k,rfl,m,hk,hn⟩:=s;simp only[zu,zF,zG];apply F 5 [0,0] m;simp only[↓Z];refine aZ O ?_ ?_<;>intro ak
 .obtain⟨t,j,_,a,rfl,L⟩:=c.get (i:=k) (by omega);haveI:K 264 (fA qR (ts.take k)):=⟨rT (m:=200) (λu d=>by haveI:=c.it u d;exact tV) (by rw[c.len];omega)⟩
  haveI:K 364 (fA (My Y.x) (ts.take k)):=⟨rT (m:=300) (λu d=>by haveI:=c.it u d;exact Jc Iw.h.bd Iw.h.bd Iw.h.bd) (by rw[c.len];omega)⟩
  haveI:K 364 (fA (My Y.y) (ts.take k)):=⟨rT (m:=300) (λu d=>by haveI:=c.it u d;exact Jc Iw.h.bd Iw.h.bd Iw.h.bd) (by rw[c.len];omega)⟩
  haveI:K 364 (fA (My Y.z) (ts.take k)):=⟨rT (m:=300) (λu d=>by haveI:=c.it u d;exact Jc Iw.h.bd Iw.h.bd Iw.h.bd) (by rw[c.len];omega)⟩
  apply qW 13 [0,1,0,1] m;simp only[↓Z,eY,uE,fM,ab,Nat.zero_add,aa];refine⟨_,λu m=>((L.ext m.ext).lies eD bK),λl=>⟨by omega,?_⟩⟩;intro u m;refine go (jL O ?_);intro u Q o B D;replace m:=m.newB o B D;simp only[J];refine bY m O O (La _ (cI.one (m.b 0 O)) (by decide)) ?_;rintro v u m rfl;simp only[J];rw[tW];apply kZ 7 [0,5,1,0] m;simp only[↓Z,eX,cB,aa];intro T u m;refine iE m O O (nJ K.up K.up) 4 [4,0] ?_;simp only[↓Z,cB,aa];intro u m;refine iE m O O Vm 17 [4,1,0] ?_;simp only[↓Z];apply R;omega;intro u m;refine aA (Hh O O) ?_;apply aL 22 [3,4,1,0] m;simp only[↓Z,fM];apply R;omega;refine aA (tE O O) ?_;apply kZ 3 [0,0] m;simp only[↓Z,gC,aW,aa];intro V u m;refine cC m 12 aB (by kernel_rfl) ?_;simp only[zy];refine cW 7 [5,2,1] ?_;simp only[↓Z,jN,cB,aW,ac,C,aa];apply R;omega;refine X O O ajh ?_;simp only[J];refine X O O (iM Iw.h) ?_;simp only[J];refine X O O (jA K.up K.up) ?_;simp only[J];refine X O O (nJ K.up K.up) (cW 1 [] ?_);simp only[↓Z,jN,ac,C,aa];apply R;omega;refine bD ?_;intro u m;refine aX m 4 O O O aJ (eU O) O ?_;intro u m;simp only[zy,zx,over,zF,zG,aa] at m;refine S ?_;apply aQ 17 [1,0] m;simp only[↓Z,M];apply R;omega;refine aA (qM O O) ?_;apply kZ 3 [0,0] m;simp only[↓Z,gC,aW,aa];intro W u m;refine cC m 12 aB (by kernel_rfl) ?_;simp only[zy];refine cW 7 [6,3,1] ?_;simp only[↓Z,jN,cB,aW,ac,C,aa];apply R;omega;refine X O O ajh ?_;simp only[J];refine X O O (iM Iw.h) ?_;simp only[J];refine X O O (jA K.up K.up) ?_;simp only[J];refine X O O (nJ K.up K.up) (cW 1 [] ?_);simp only[↓Z,jN,ac,C,aa];apply R;omega;refine bD ?_;intro u m;refine aX m 5 O O O aJ (eU O) O ?_;intro u m;simp only[zy,zx,over,zF,zG,aa] at m;refine S ?_;apply aQ 17 [1,0] m;simp only[↓Z,M];apply R;omega;refine aA (nW O O) ?_;apply kZ 3 [0,0] m;simp only[↓Z,gC,aW,aa];intro g9 u m;refine cC m 12 aB (by kernel_rfl) ?_;simp only[zy];refine cW 7 [7,4,1] ?_;simp only[↓Z,jN,cB,aW,ac,C,aa];apply R;omega;refine X O O ajh ?_;simp only[J];refine X O O (iM Iw.h) ?_;simp only[J];refine X O O (jA K.up K.up) ?_;simp only[J];refine X O O (nJ K.up K.up) (cW 1 [] ?_);simp only[↓Z,jN,ac,C,aa];apply R;omega;refine bD ?_;intro u m;refine aX m 6 O O O aJ (eU O) O ?_;intro u m;simp only[zy,zx,over,zF,zG,aa] at m;refine S ?_;apply aQ 31 [2,1,0] m;simp only[↓Z,M];apply R;omega;refine aA (Hi O O) ?_;apply aL 22 [6,4,1,0] m;simp only[↓Z,fM];apply R;omega;refine aA (tE O O) ?_;apply kZ 3 [0,0] m;simp only[↓Z,gC,aW,aa];intro ad u m;refine cC m 12 aB (by kernel_rfl) ?_;simp only[zy];refine cW 7 [8,5,1] ?_;simp only[↓Z,jN,cB,aW,ac,C,aa];apply R;omega;refine X O O aji ?_;simp only[J];refine X O O (iM Iw.h) ?_;simp only[J];refine X O O (jA K.up K.up) ?_;simp only[J];refine X O O (nJ K.up K.up) (cW 1 [] ?_);simp only[↓Z,jN,ac,C,aa];apply R;omega;refine bD ?_;intro u m;refine aX m 7 O O O aJ (eU O) O ?_;intro u m;simp only[zy,zx,over,zF,zG,aa] at m;refine S ?_;apply aQ 17 [1,0] m;simp only[↓Z,M];apply R;omega;refine aA (qM O O) ?_;apply kZ 3 [0,0] m;simp only[↓Z,gC,aW,aa];intro ae u m;refine cC m 12 aB (by kernel_rfl) ?_;simp only[zy];refine cW 7 [9,6,1] ?_;simp only[↓Z,jN,cB,aW,ac,C,aa];apply R;omega;refine X O O aji ?_;simp only[J];refine X O O (iM Iw.h) ?_;simp only[J];refine X O O (jA K.up K.up) ?_;simp only[J];refine X O O (nJ K.up K.up) (cW 1 [] ?_);simp only[↓Z,jN,ac,C,aa];apply R;omega;refine bD ?_;intro u m;refine aX m 8 O O O aJ (eU O) O ?_;intro u m;simp only[zy,zx,over,zF,zG,aa] at m;refine S ?_;apply aQ 17 [1,0] m;simp only[↓Z,M];apply R;omega;refine aA (nW O O) ?_;apply kZ 3 [0,0] m;simp only[↓Z,gC,aW,aa];intro af u m;refine cC m 12 aB (by kernel_rfl) ?_;simp only[zy];refine cW 7 [10,7,1] ?_;simp only[↓Z,jN,cB,aW,ac,C,aa];apply R;omega;refine X O O aji ?_;simp only[J];refine X O O (iM Iw.h) ?_;simp only[J];refine X O O (jA K.up K.up) ?_;simp only[J];refine X O O (nJ K.up K.up) (cW 1 [] ?_);simp only[↓Z,jN,ac,C,aa];apply R;omega;refine bD ?_;intro u m;refine aX m 9 O O O aJ (eU O) O ?_;intro u m;simp only[zy,zx,over,zF,zG,aa] at m;refine S ?_;apply aQ 31 [2,1,0] m;simp only[↓Z,M];apply R;omega;refine aA (Hj O O) ?_;apply aL 22 [9,4,1,0] m;simp only[↓Z,fM];apply R;omega;refine aA (tE O O) ?_;apply kZ 3 [0,0] m;simp only[↓Z,gC,aW,aa];intro ah u m;refine cC m 12 aB (by kernel_rfl) ?_;simp only[zy];refine cW 7 [11,8,1] ?_;simp only[↓Z,jN,cB,aW,ac,C,aa];apply R;omega;refine X O O ajj ?_;simp only[J];refine X O O (iM Iw.h) ?_;simp only[J];refine X O O (jA K.up K.up) ?_;simp only[J];refine X O O (nJ K.up K.up) (cW 1 [] ?_);simp only[↓Z,jN,ac,C,aa];apply R;omega;refine bD ?_;intro u m;refine aX m 10 O O O aJ (eU O) O ?_;intro u m;simp only[zy,zx,over,zF,zG,aa] at m;refine S ?_;apply aQ 17 [1,0] m;simp only[↓Z,M];apply R;omega;refine aA (qM O O) ?_;apply kZ 3 [0,0] m;simp only[↓Z,gC,aW,aa];intro ai u m;refine cC m 12 aB (by kernel_rfl) ?_;simp only[zy];refine cW 7 [12,9,1] ?_;simp only[↓Z,jN,cB,aW,ac,C,aa];apply R;omega;refine X O O ajj ?_;simp only[J];refine X O O (iM Iw.h) ?_;simp only[J];refine X O O (jA K.up K.up) ?_;simp only[J];refine X O O (nJ K.up K.up) (cW 1 [] ?_);simp only[↓Z,jN,ac,C,aa];apply R;omega;refine bD ?_;intro u m;refine aX m 11 O O O aJ (eU O) O ?_;intro u m;simp only[zy,zx,over,zF,zG,aa] at m;refine S ?_;apply aQ 17 [1,0] m;simp only[↓Z,M];apply R;omega;refine aA (nW O O) ?_;apply kZ 3 [0,0] m;simp only[↓Z,gC,aW,aa];intro aj u m;refine cC m 12 aB (by kernel_rfl) ?_;simp only[zy];refine cW 7 [13,10,1] ?_;simp only[↓Z,jN,cB,aW,ac,C,aa];apply R;omega;refine X O O ajj ?_;simp only[J];refine X O O (iM Iw.h) ?_;simp only[J];refine X O O (jA K.up K.up) ?_;simp only[J];refine X O O (nJ K.up K.up) (cW 1 [] ?_);simp only[↓Z,jN,ac,C,aa];apply R;omega;refine bD ?_;intro u m;refine aX m 12 O O O aJ (eU O) O ?_;intro u m;simp only[zy,zx,over,zF,zG,aa] at m;refine S ?_;apply aQ 31 [2,2,0] m;simp only[↓Z,M];apply R;omega;exact G (g-(k+1)) _ _ (by omega) (by kernel_rfl) ⟨k+1,O,(((m.re 13 O (by rw[mO j];exact (m.b 13 O))).re 12 O (by rw[mO (f:=(My Y.x)) j,mO (f:=(My Y.y)) j,mO (f:=(My Y.z)) j,<-Ox,<-Ox,<-Ox];exact (m.b 12 O))).sel [X7,X7,X7,X7,X7,X7,X7,X7,X7,X7,X7,X7,N,N,N]),by omega,O⟩
 have I:k=g:=by omega
 rw[I,show ts.take g=ts from List.take_of_length_le (by rw[c.len];exact Nat.le_refl _)] at m;haveI:K 264 (fA qR ts):=⟨uW (m:=200) (λu d=>by haveI:=c.it u d;exact tV) (by rw[c.len];omega)⟩
 haveI:K 364 (fA (My Y.x) ts):=⟨uW (m:=300) (λu d=>by haveI:=c.it u d;exact Jc Iw.h.bd Iw.h.bd Iw.h.bd) (by rw[c.len];omega)⟩
 haveI:K 364 (fA (My Y.y) ts):=⟨uW (m:=300) (λu d=>by haveI:=c.it u d;exact Jc Iw.h.bd Iw.h.bd Iw.h.bd) (by rw[c.len];omega)⟩
 haveI:K 364 (fA (My Y.z) ts):=⟨uW (m:=300) (λu d=>by haveI:=c.it u d;exact Jc Iw.h.bd Iw.h.bd Iw.h.bd) (by rw[c.len];omega)⟩
 apply F 4 [2,0] m;simp only[↓Z,cB];refine iE m O O (uL K.up) 4 [0] ?_;simp only[↓Z];intro u m;rcases Decidable.em (bV (fA qR ts)≠0) with hV|hV
 .rw[Y5 hV];have e:=mt cK.2 hV;apply uR 27 [4,1] m;simp only[↓Z,ah9];intro l;apply R;omega;intro u m;apply aQ 2 [0] m;simp only[↓Z,Ag,aa];refine iE m O O sF 8 [0,0] ?_;simp only[↓Z,Ht,kA,ac,C,aa];apply R;omega;intro u m;refine cC m 9 aB (by kernel_rfl) ?_;simp only[zy];refine cW 5 [2,3] ?_;simp only[↓Z,jN,cB,ac,C,aa];apply R;omega;refine X O O (iM Iw.h) ?_;simp only[J];refine X O O (jA K.up K.up) ?_;simp only[J];refine X O O (yY K.up K.up (by have:=mt cK.2 hV;omega)) ?_;refine cW 1 [] ?_;simp only[↓Z,Ht,ac,C,aa];apply R;omega;refine bD ?_;intro u m;refine aX m 0 O O O dC (eU O) O ?_;intro u m;simp only[zy,zx,over,zF,zG,aa] at m;refine S ?_;apply aQ 24 [1,0] m;simp only[↓Z,Ag,M,aa];apply R;omega;refine iE m O O sF 8 [0,0] ?_;simp only[↓Z,Ht,kA,ac,C,aa];apply R;omega;intro u m;refine cC m 9 aB (by kernel_rfl) ?_;simp only[zy];refine cW 5 [2,3] ?_;simp only[↓Z,jN,cB,ac,C,aa];apply R;omega;refine X O O (iM Iw.h) ?_;simp only[J];refine X O O (jA K.up K.up) ?_;simp only[J];refine X O O (yY K.up K.up (by have:=mt cK.2 hV;omega)) ?_;refine cW 1 [] ?_;simp only[↓Z,Ht,ac,C,aa];apply R;omega;refine bD ?_;intro u m;refine aX m 0 O O O dC (eU O) O ?_;intro u m;simp only[zy,zx,over,zF,zG,aa] at m;refine S ?_;apply aQ 24 [1,0] m;simp only[↓Z,Ag,M,aa];apply R;omega;refine iE m O O sF 8 [0,0] ?_;simp only[↓Z,Ht,kA,ac,C,aa];apply R;omega;intro u m;refine cC m 9 aB (by kernel_rfl) ?_;simp only[zy];refine cW 5 [2,3] ?_;simp only[↓Z,jN,cB,ac,C,aa];apply R;omega;refine X O O (iM Iw.h) ?_;simp only[J];refine X O O (jA K.up K.up) ?_;simp only[J];refine X O O (yY K.up K.up (by have:=mt cK.2 hV;omega)) ?_;refine cW 1 [] ?_;simp only[↓Z,Ht,ac,C,aa];apply R;omega;refine bD ?_;intro u m;refine aX m 0 O O O dC (eU O) O ?_;intro u m;simp only[zy,zx,over,zF,zG,aa] at m;refine S ?_;apply uR 21 [2,1,3] m;simp only[↓Z,am1,M,aa];apply R;omega;intro u m;refine kN O ⟨_,O,((m.b 3 O).full acf Hb)⟩ O ?_;try simp only[zD,zE]
  exact⟨_,O,m.ext,by first|(simp only[cq,K0 e,Y5 e];rfl)|(simp only[cq,Z9 e,Y6 (not_not_intro e)];rfl)⟩
 rw[Y6 hV];have e:=cK.1 (Decidable.of_not_not hV);apply uR 27 [4,1] m;simp only[↓Z,ah9];intro l;apply R;omega;intro u m;apply aQ 2 [0] m;simp only[↓Z,Ag,aa];refine iE m O O sF 33 [0,1] ?_;simp only[↓Z,Ht,kA,Ag,ac,C,aa,M];apply R;omega;intro u m;refine go (iE m O O sF 33 [0,1] ?_);simp only[↓Z,Ht,kA,Ag,ac,C,aa,M];apply R;omega;intro u m;refine go (iE m O O sF 27 [0,2,1,3] ?_);simp only[↓Z,Ht,kA,am1,ac,C,aa,M];apply R;omega;intro u m;apply aQ 3 [] m;simp only[↓Z];refine kN O ⟨_,O,((m.b 3 O).full acf Hb)⟩ O ?_;try simp only[zD,zE]
 exact⟨_,O,m.ext,by first|(simp only[cq,K0 e,Y5 e];rfl)|(simp only[cq,Z9 e,Y6 (not_not_intro e)];rfl)⟩
instance:Iw 0:=⟨by unfold gF;decide⟩
instance:Iw 2:=⟨by unfold gF;decide⟩
instance:Iw 5:=⟨by unfold gF;decide⟩
instance:Iw 9:=⟨by unfold gF;decide⟩
instance:Iw 16:=⟨by unfold gF;decide⟩
instance:Iw 32:=⟨by unfold gF;decide⟩
instance:Iw (-1):=⟨by unfold gF;decide⟩
def Iu{n d:Int}[Iw n][Iw d]:dO X9 15 [U n,U d] (Qc n d):=by
 intro w;refine⟨bP func15 (by kernel_rfl),?_⟩;have m:=Mem.refl w
 go_enter func15,ntmps15
 apply gJ 7 [0] m;simp only[↓Z,lW];intro a u m;refine iE m O O (iT Iw.h) 1 [0] ?_;simp only[↓Z];intro u m;refine iE m O O (iT Iw.h) 4 [0] ?_;simp only[↓Z,aq1,kA,aa];intro u m;exact aS O ⟨_,O,((m.b 0 O).full iG dC)⟩ ⟨_,O,m.ext,O⟩
def aeB{x:Y}{t:T3}[I3 x][IT t]{k:Int}[Iw k](h:Du x t=(k:Rat)):dO X9 10 [pt x,tr t,U k] (.bool N):=by
 intro w;refine⟨bP func10 (by kernel_rfl),?_⟩;have m:=Mem.refl w
 go_enter func10,ntmps10
 apply gJ 10 [2,1,0] m;simp only[↓Z,aW,fM];intro e f u m;refine jL O ?_;intro u g a c d;replace m:=m.newB a c d;simp only[J];refine bY m O O (apW (ts:=[t]) _ (cI.one (m.b 0 O)) (by decide)) ?_;rintro v u m rfl;simp only[J];rw[show Jb x [t]=(k:Rat) from h,show decide ((0:Int)<((1:Nat):Int))=N from rfl];apply kZ 8 [0,0] m;simp only[↓Z,lW,kA,aa];intro i u m;refine mq m aB (by kernel_rfl) (aK aF (aK aF (bU O ?_)));simp only[J];refine ql O (λu m=>((m.b 0 O).full iG dC)) ?_;simp only[J];refine bU O (aK aF (bU O ?_));simp only[J];refine X O O Iu (bU O (aK (Sn (Ut O O) (xM (Y5 ⟨O,O,O,O⟩))) (aK (dT O) (aK aI ?_))));simp only[J];refine bD ?_;intro u m;apply aQ 1 [] m;simp only[↓Z];exact aS O O ⟨_,O,m.ext,O⟩
def T0:T3:=⟨⟨0,0,0⟩,⟨4,0,0⟩,⟨0,4,0⟩⟩
instance:IT T0:=inferInstanceAs (IT ⟨⟨0,0,0⟩,⟨4,0,0⟩,⟨0,4,0⟩⟩)
def T1:T3:=⟨⟨0,0,0⟩,⟨1,0,0⟩,⟨0,1,1⟩⟩
instance:IT T1:=inferInstanceAs (IT ⟨⟨0,0,0⟩,⟨1,0,0⟩,⟨0,1,1⟩⟩)
def tet:List T3:=[⟨⟨0,0,0⟩,⟨0,4,0⟩,⟨4,0,0⟩⟩,⟨⟨0,0,0⟩,⟨4,0,0⟩,⟨0,0,4⟩⟩,⟨⟨4,0,0⟩,⟨0,4,0⟩,⟨0,0,4⟩⟩,⟨⟨0,4,0⟩,⟨0,0,0⟩,⟨0,0,4⟩⟩]
theorem akn:∀t∈tet,IT t:=λt a=>by
 simp only[tet,List.mem_cons,List.not_mem_nil,Y3] at a;rcases a with rfl|rfl|rfl|rfl<;>infer_instance
def isq{n r:Nat}(a:r*r<=n)(b:n<(r+1)*(r+1)):eS n=r:=(xT a b).symm
def arT:fA vX [T0]=16:=by rw[tW];show ((eS 256:Nat):Int)=16;rw[isq (r:=16) (by decide) (by decide)];rfl
def arU:fA tU [T0]=16:=by
 have h:vX T0=16:=by have:=arT;rwa [tW] at this
 rw[tW,tU,h];rfl
def arV:fA vX [T1]=1:=by rw[tW];show ((eS 2:Nat):Int)=1;rw[isq (r:=1) (by decide) (by decide)];rfl
def arW:fA tU [T1]=2:=by
 have h:vX T1=1:=by have:=arV;rwa [tW] at this
 rw[tW,tU,h];rfl
def amF:fA qR tet=64:=by decide +kernel
def arX:fA (My Y.x) tet=256:=by decide +kernel
def arY:fA (My Y.y) tet=256:=by decide +kernel
def arZ:fA (My Y.z) tet=256:=by decide +kernel
def aqh:cq 256 64=1:=by decide +kernel
def ako  : dO X9 4 [] (.bool N):=by
 intro w;refine⟨bP func4 (by kernel_rfl),?_⟩;have m:=Mem.refl w
 go_enter func4,ntmps4
 refine L λB e=>f (aA aI (S (e _ _ ?_)));refine L λC g=>f (aA aaD ?_);simp only[J];refine fV m iC O ?_;intro P u m;simp only[J];refine aX m 0 O O O aD (eU O) O ?_;intro u m;simp only[zy,zx,over,zF,zG,aa] at m;refine S (g _ _ ?_);refine L λD i=>f (aA (Hc O) ?_);simp only[J];refine fV m iC O ?_;intro Q u m;simp only[J];refine aX m 0 O O O aD (eU O) O ?_;intro u m;simp only[zy,zx,over,zF,zG,aa] at m;refine S (i _ _ ?_);refine L λE j=>f (aA (Xt O) ?_);simp only[J];refine fV m iC O ?_;intro T u m;simp only[J];refine aX m 0 O O O aD (eU O) O ?_;intro u m;simp only[zy,zx,over,zF,zG,aa] at m;refine S (j _ _ ?_);refine L λF l=>f (aA (He O) ?_);simp only[J];refine fV m iC O ?_;intro U u m;simp only[J];refine aX m 0 O O O aD (eU O) O ?_;intro u m;simp only[zy,zx,over,zF,zG,aa] at m;refine S (l _ _ ?_);refine L λG n=>f (bA O ((m.b 3 O).full aM aD) ?_);simp only[J];refine bA O ((m.b 2 O).full aM aD) ?_;simp only[J];refine bA O ((m.b 1 O).full aM aD) ?_;simp only[J];refine aA (jK O O O) ?_;simp only[J];refine fV m Xm O ?_;intro V u m;simp only[J];refine aX m 0 O O O bK (eU O) O ?_;intro u m;simp only[zy,zx,over,zF,zG,aa] at m;refine S (n _ _ ?_);refine L λI o=>f (bA O ((m.b 4 O).full aM aD) ?_);simp only[J];refine bA O ((m.b 2 O).full aM aD) ?_;simp only[J];refine bA O ((m.b 3 O).full aM aD) ?_;simp only[J];refine aA (jK O O O) ?_;simp only[J];refine bA O ((m.b 4 O).full aM aD) ?_;simp only[J];refine bA O ((m.b 3 O).full aM aD) ?_;simp only[J];refine bA O ((m.b 1 O).full aM aD) ?_;simp only[J];refine aA (jK O O O) ?_;simp only[J];refine bA O ((m.b 3 O).full aM aD) ?_;simp only[J];refine bA O ((m.b 2 O).full aM aD) ?_;simp only[J];refine bA O ((m.b 1 O).full aM aD) ?_;simp only[J];refine aA (jK O O O) ?_;simp only[J];refine bA O ((m.b 2 O).full aM aD) ?_;simp only[J];refine bA O ((m.b 4 O).full aM aD) ?_;simp only[J];refine bA O ((m.b 1 O).full aM aD) ?_;simp only[J];refine aA (jK O O O) ?_;simp only[J];refine afe O O O O ?_;intro u W a c d;replace m:=m.newB a c d;refine aA aI (S (o _ _ ?_));refine L λK p=>f (aA (nV O O O) ?_);simp only[J];refine bA O ((m.b 1 O).full eD bK) ?_;simp only[J];refine eV m O O (aeB (x:=⟨1,1,3⟩) (t:=⟨⟨0,0,0⟩,⟨4,0,0⟩,⟨0,4,0⟩⟩) (k:=9) (by decide +kernel)) ?_;intro u m;refine aA aF (bQ O (aA (nF O O) (bQ O ?_)));simp only[J];refine bA O ((m.b 1 O).full eD bK) ?_;simp only[J];refine bQ O (eV m O O (aeB (x:=⟨5,-1,0⟩) (t:=⟨⟨0,0,0⟩,⟨4,0,0⟩,⟨0,4,0⟩⟩) (k:=2) (by decide +kernel)) ?_);intro u m;refine aA (dT O) (aA aF (bQ O (aA (nF O O) ?_)));simp only[J];refine bQ O (bA O ((m.b 1 O).full eD bK) ?_);simp only[J];refine bQ O (eV m O O (aeB (x:=⟨3,3,0⟩) (t:=⟨⟨0,0,0⟩,⟨4,0,0⟩,⟨0,4,0⟩⟩) (k:=2) (by decide +kernel)) ?_);intro u m;refine aA (dT O) (aA aI (S (p _ _ ?_)));refine L λM q=>f (aA (He O) ?_);simp only[J];refine aA (nF O O) (aA (nF O O) (aA (nF O O) (aA (jK O O O) ?_)));simp only[J];refine eV m O O (aeB (x:=⟨0,0,1⟩) (t:=⟨⟨1,1,0⟩,⟨3,1,0⟩,⟨2,1,0⟩⟩) (k:=3) (by decide +kernel)) ?_;intro u m;refine aA aI (S (q _ _ ?_));refine L λab r=>f ?_;simp only[J];refine bA O ((m.b 1 O).full eD bK) ?_;simp only[J];refine jL O ?_;intro u Y a c d;replace m:=m.newB a c d;simp only[J];refine bY m O O (ajK (ts:=[T0]) _ (cI.one (t:=T0) (m.b 0 O)) (by decide)) ?_;rintro v u m rfl;simp only[J];rw[arT,arU];refine aA aF (aA (dU O O) (aA (dU O O) ?_));simp only[J];refine fV m iB O ?_;intro Z u m;simp only[J];refine fV m iB O ?_;intro g9 u m;simp only[J];refine aX m 1 O O O aJ (eU O) O ?_;intro u m;simp only[zy,zx,over,zF,zG,aa] at m;refine aX m 0 O O O aJ (eU O) O ?_;intro u m;simp only[zy,zx,over,zF,zG,aa] at m;refine S (r _ _ ?_);refine L λad s=>f (bA O ((m.b 8 O).full aM aD) ?_);simp only[J];refine aA (Hc O) (aA (Pk O O) (aA (jK O O O) ?_));simp only[J];refine jL O ?_;intro u ah a c d;replace m:=m.newB a c d;simp only[J];refine bY m O O (ajK (ts:=[T1]) _ (cI.one (t:=T1) (m.b 0 O)) (by decide)) ?_;rintro v u m rfl;simp only[J];rw[arV,arW];refine aA aF (aA (dU O O) (aA (dU O O) ?_));simp only[J];refine fV m iB O ?_;intro ai u m;simp only[J];refine fV m iB O ?_;intro ak u m;simp only[J];refine aX m 1 O O O aJ (eU O) O ?_;intro u m;simp only[zy,zx,over,zF,zG,aa] at m;refine aX m 0 O O O aJ (eU O) O ?_;intro u m;simp only[zy,zx,over,zF,zG,aa] at m;refine S (s _ _ ?_);refine L λae y=>f (aA aF ?_);simp only[J];refine bY m O O (akm (ts:=tet) _ (cI.of_cells (ts:=tet) (m.b 6 O) O O akn) (by decide)) ?_;rintro v u m rfl;simp only[J];rw[amF,arX,arY,arZ,aqh,show decide ((64:Int)≠0)=N from rfl];refine aA aF (aA (dU O O) (aA (dU O O) ?_));simp only[J];refine fV m adC O ?_;intro al u m;simp only[J];refine aX m 0 O O O Hb (eU O) O ?_;intro u m;simp only[zy,zx,over,zF,zG,aa] at m;refine aA aI (S (y _ _ ?_));refine L λaf z=>?_;simp only[J];refine mq m aB (by kernel_rfl) (ql O (λu m=>((m.b 5 O).full bE aJ)) ?_);simp only[J];refine X O O (iT Iw.h) (aK (Sn (wW O O) (xM (Y5 ⟨O,O⟩))) (aK aF (bU O ?_)));simp only[J];refine ql O (λu m=>((m.b 4 O).full bE aJ)) ?_;simp only[J];refine bU O (ql O (λu m=>((m.b 5 O).full bE aJ)) ?_);simp only[J];refine bU O (aK (Sn (wW O O) (xM (Y5 ⟨O,O⟩))) (aK (dT O) (aK aF (bU O ?_))));simp only[J];refine ql O (λu m=>((m.b 2 O).full bE aJ)) ?_;simp only[J];refine bU O (X O O (iT Iw.h) (bU O (aK (Sn (wW O O) (xM (Y5 ⟨O,O⟩))) (aK (dT O) (aK aF ?_)))));simp only[J];refine bU O (ql O (λu m=>((m.b 1 O).full bE aJ)) ?_);simp only[J];refine bU O (X O O (iT Iw.h) (bU O (aK (Sn (wW O O) (xM (Y5 ⟨O,O⟩))) (aK (dT O) (aK aI ?_)))));simp only[J];refine bD ?_;intro u m;refine z _ _ ?_;refine L λag A=>mq m aB (by kernel_rfl) (aK aF (aK aF (bU O (aK aF (aK (dT O) ?_)))));simp only[J];refine aK aF (bU O (aK aF (aK (dT O) (aK aF ?_))));simp only[J];refine bU O (aK aF (aK (dT O) (aK aF (bU O (aK aF ?_)))));simp only[J];refine bU O (qc O O (λu m=>akl (ts:=tet) _ (cI.of_cells (ts:=tet) ((m.b 7 O)) O O akn) (by decide)) (bU O ?_));simp only[J];refine X O O Iu (bU O (aK (Sn (Ut O O) (xM (Y5 ⟨O,O,O,O⟩))) (aK (dT O) (aK aF ?_))));simp only[J];refine bU O (ql O (λu m=>((m.b 0 O).full acf Hb)) ?_);simp only[J];refine bU O (X O O Iu (bU O ?_));simp only[J];refine X O O Iu (bU O ?_);simp only[J];refine X O O Iu (bU O (aK (Jo O O O) (bU O (aK (Sn (afd O O) (xM (Y5 ⟨O,O,O,O,O,O,O,O,O,O,O,O⟩))) (aK (dT O) ?_)))));simp only[J];refine aK aI (bD ?_);intro u m;refine A _ _ (wp_ret ?_);simp only[J];try simp only[Exit.inBlock,Exit.then,Y4]
 refine aS O O ?_;try simp only[zD,zE]
 exact⟨_,O,m.ext,O⟩
end Go.Proofs.YtbbokjbcdkgfgaaGreatDoor
namespace Go.Lith
open Go.RowKit
def aqi{P:B}{R:Exit->Act->an->Prop}{w:an}{ds:List Deferred}{s:List Ko}{l:List am}{c:Code}(ts ss:List Nat)(J:List am->an->Prop)
 (j:∀K:Act->an->Prop,(∀b w',lI (eG l ts (ts.map (b.getD · undef))) ss (b.getD · undef)=b->J (ts.map (b.getD · undef)) w'->K (Fr b ds) w')->c.wp P (Ct P R (.k K::s)) (Fr l ds) w)
 (n:∀vs u,J vs u->∀g:Nat->am,Ct P R s .normal (Fr (lI (eG l ts vs) ss g) ds) u):c.wp P (Ct P R s) (Fr l ds) w:=by
 refine Code.wp_mono ?_ (j (λa u=>∃b,a=Fr b ds/\lI (eG l ts (ts.map (b.getD · undef))) ss (b.getD · undef)=b/\J (ts.map (b.getD · undef)) u) λb u d f=>⟨b,O,d,f⟩);intro e a u h;cases e with
 |normal=>
  obtain⟨b,rfl,m,i⟩:=h;have:=n _ u i (b.getD · undef);rw[m] at this;exact this
 |exit id=>exact h
 |goto id=>exact h
 |ret=>exact h
 |panic o=>exact h
 |outgrown=>exact h
end Go.Lith
namespace Go.Proofs.YtbbokjbcdkgfgaaGreatDoor
open Go.Proofs.Tryz
open Go.RowKit Go.Lith
set_option maxRecDepth 100000
attribute [local irreducible] wpList wpQuiet fS cE cP Code.wp
attribute [local congr] fE fF eN fD
def amG{ins:List Bool}{i:Nat}{c:Bool}(h:i<ins.length):over (ins.map fz) i [.bool c]=(ins.set i c).map fz:=by
 rw[over,List.map_set];simp only[List.length_singleton];rw[List.set_eq_take_append_cons_drop,Z9 (by simpa using h)];simp
def aeC{w:an}{g:Nat}{t:ba}{cu:List Bool}(h:fQ w g (cu.map fz) t):kO uI 1 w (H ⟨g,0,X8⟩) cu.length cu:=⟨rfl,λi b c=>⟨⟨g,0,X8⟩,rfl,λj v a=>by
 cases j with
 |zero=>
  cases a;rw[bi,cA,cA];exact h.cell (by simpa using c)
 |succ j=>cases a⟩⟩
def Cr(c n:Nat):(c:Int).tmod (n:Int)=((c%n:Nat):Int):=rfl
def abI{c:Nat}(h:c<4294967296):IntKind.u32.wrap ((c:Int).tdiv 4)=((c / 4:Nat):Int):=by
 rw[show (c:Int).tdiv 4=((c / 4:Nat):Int) from rfl];exact Zy (by omega) (by omega)
def amH{a M:Nat}(h:M=min a 2):(if (2:Int)<(a:Int) then (2:Int) else (a:Int))=(M:Int):=by split<;>omega
def amI{b c:Bool}{p:Prop}(h:b=N↔p)(k:c=N↔p):b=c:=by
 have:b=N↔c=N:=h.trans k.symm;cases b<;>cases c<;>simp at this ⊢
def To{A:Option Addr}{I cap:Nat}{zs:List Int}{q0 q1 q2 q3 c:Int}[Iw q0][Iw q1][Iw q2][Iw q3](w:an)(hL:kO apo 1 w A I zs)(aq:I<=cap)(L:∀z∈zs,gF z)(hc:0<=c/\c<4294967296):cX X9 3 [.slice A I cap,.agg #[U q0,U q1,U q2,U q3],.int .u32 c] w (λv _=>v=.bool N):=by
 refine⟨bP func3 (by kernel_rfl),?_⟩;have m:=Mem.refl w;obtain⟨K,rfl⟩:=Int.eq_ofNat_of_zero_le hc.1;have ag:K<4294967296:=by omega
 obtain⟨M,aj⟩:∃M,M=min I 2:=⟨_,rfl⟩
 have ak:M<=I:=by omega
 go_enter func3,ntmps3
 apply gJ 7 [0] m;simp only[↓Z];intro g1 u m;refine iE m O O ako 7 [0] ?_;simp only[↓Z,gG];intro u m;refine aA (adn O O (amH aj)) ?_;simp only[J];refine aA (gR cF bC O O (ab _) (by omega) (by omega)) ?_;apply aL 1 [0] m;simp only[↓Z];refine aA (cS O O (by omega) (Cr K 4)) ?_;apply aL 3 [0] m;simp only[↓Z,amY,Ml];apply R;omega;refine aA (gL O O (by omega) (abI ag)) ?_;simp only[J];refine aA (cS O O (by omega) (Cr (K / 4) 17)) ?_;apply aL 2 [0] m;simp only[↓Z,amY,Ml];apply R;omega;refine bB O O (abn _ ((hL.ext m.ext).take ak) (λz hz=>L z (List.mem_of_mem_take hz))) ?_;rintro v u d ⟨A8,n8,c8,k8,L8,rfl,ao,B,ah,f⟩;replace m:=m.plus f;clear f;simp only[dx,cv] at m;apply aL 3 [0] m;simp only[↓Z];refine aqi [9] [28,29,30,31,32,33,34,35,36,37,38,39,40] (λvs wr=>∃(t:Nat)(j p:Option Addr)(i q a d9:Nat)(xs:List oH)(ys:List vN),vs=[.pointer (H ⟨t,0,X8⟩)]/\Mem w wr [bI t [.slice j i q,.slice p a d9] 31,fN (ys.map (mIt 176)),fN (ys.map (oIt 3)),fN (ys.map (Zx 3)),fN (xs.map (tIt 43)),oI 70 8 p a d9 (ys.flatMap Em),oI 65 3 j i q (xs.flatMap Fx)]/\(xs.length=i)/\(i<=40000)/\(ys.length=a)/\(a<=d9)/\(a<=200001)/\(uO 301 xs ys)) ?_ ?_
 . intro K1 af
   refine Oz m [N,N,N] (.take 0 (.take 1 (.take 2 (.take 3 (.take 4 (.take 5 (.take 6 (.take 7 (.take 8 (.take 9 (.take 11 (.two 10 (.two 12 (.one 13 (.one 14 .nil)) 13 (.one 12 (.one 14 .nil))) 13 (.one 10 (.one 12 (.one 14 .nil))))))))))))))) aB (by kernel_rfl) (bR (λ_ _ _ _ _ h=>h)) ?_;intro u m;refine dG (by simp only[zw];rfl) (aV aF (aT (dG (by simp only[zw];rfl) (aV aF (aT (dG (by simp only[zw];rfl) ?_))))));simp only[J];refine aV (gL O O (by omega) (abI ag)) (aT (dG (by simp only[zw];rfl) ?_));simp only[J];refine aV (cS O O (by omega) (Cr (K / 4) 17)) (aT (dG (by simp only[zw];rfl) (aV (iU mG underlying24 rfl (bN (by omega) (by omega))) (aT (dG (by simp only[zw];rfl) ?_)))));simp only[J];refine aV (eH O O (bN (by omega) (by omega))) (aT (dG (by simp only[zw];rfl) (aV aF (aT (dG (by simp only[zw];rfl) ?_)))));simp only[J];refine aV (cS O O (by omega) (Cr K 4)) (aT (dG (by simp only[zw];rfl) (aV (iU mG underlying24 rfl (bN (by omega) (by omega))) (aT (dG (by simp only[zw];rfl) ?_)))));simp only[J];refine aV (eH O O (bN (by omega) (by omega))) (aT (dG (by simp only[zw];rfl) ?_));simp only[J];refine eK O (λu m=>((m.b 2 O).full ahm ahl)) ?_;simp only[J];refine aT ?_;refine Gi (by simp only[zw];rfl) (by simp only[zw];rfl) ?_ ?_
   .refine bB O O (Vw (xss:=L8.map Sl.l) _ (Rm (m.o 1 O) (m.get 0 O).1 B.it) (by have:=B.len;omega) (by have:=B.sum;rw[Kr] at this;rw[List.map_map];exact Nat.le_trans (Nat.le_of_eq this) ah) (by omega)) ?_;rintro v u d ⟨A6,B6,n6,c6,m6,d6,G6,rfl,y,⟨X,_,ae⟩,⟨W,_,ad⟩,Y,V⟩;replace m:=m.ext' d;refine S ⟨m,?_⟩;simp only[J];refine Gi (by simp only[zw];rfl) (by simp only[zw];rfl) ?_ ?_
    .refine bB O O (zX _ y X W ae ad Y V) ?_;rintro v u d ⟨j,p,i,q,a,d9,xs,ys,rfl,⟨E,_,s⟩,⟨C,D,r⟩,e,f⟩;replace m:=m.plus f;clear f;simp only[dx,cv] at m;refine S ⟨m.sel [X7,X7,X7,X7,X7,X7,N,N,N],?_⟩;refine fL (by simp only[zw];rfl) ?_;simp only[J];refine kX Xl O ?_;intro u t d P Q;replace m:=m.newB d P Q;refine S ⟨m.sel [X7,X7,X7,X7,X7,X7,X7,N,N,N],?_⟩;refine fL (by simp only[zw];rfl) ?_;simp only[J];refine aX m 0 O O O gE (eU O) O ?_;intro u m;simp only[zy,zx,over,zF,zG,aa] at m;refine S ⟨m.sel [X7,X7,X7,X7,X7,X7,X7,N,N,N],?_⟩;refine qU (gk ?_);exact af _ _ (by kernel_rfl) ⟨_,_,_,_,_,_,_,_,_,O,((((((((m.pull 6 O).pull 6 O).pull 6 O).pull 6 O).pull 6 O).pull 6 O).pull 6 O).sel [N,N,N,N,N,N,N,X7,X7,X7]),E,s,C,D,r,e⟩
    refine kX Xl O ?_;intro u t d P Q;replace m:=m.newB d P Q;replace y:=y.ext d;refine S ⟨m.sel [X7,N,N,N],?_⟩;refine fL (by simp only[zw];rfl) ?_;simp only[J];refine bB O O (zX _ y X W ae ad Y V) ?_;rintro v u d ⟨j,p,i,q,a,d9,xs,ys,rfl,⟨E,_,s⟩,⟨C,D,r⟩,e,f⟩;replace m:=m.plus f;clear f;simp only[dx,cv] at m;refine S ⟨m.sel [X7,X7,X7,X7,X7,X7,X7,N,N,N],?_⟩;refine fL (by simp only[zw];rfl) ?_;simp only[J];refine aX m 6 O O O gE (eU O) O ?_;intro u m;simp only[zy,zx,over,zF,zG,aa] at m;refine S ⟨m.sel [X7,X7,X7,X7,X7,X7,X7,N,N,N],?_⟩;refine qU (gk ?_);exact af _ _ (by kernel_rfl) ⟨_,_,_,_,_,_,_,_,_,O,((((((((m.pull 5 O).pull 5 O).pull 5 O).pull 5 O).pull 5 O).pull 5 O).pull 6 O).sel [N,N,N,N,N,N,N,X7,X7,X7]),E,s,C,D,r,e⟩
   refine fV m Xl O ?_;intro t u m;refine S ⟨m.sel [X7,N,N,N],?_⟩;refine fL (by simp only[zw];rfl) ?_;simp only[J];refine bB O O (Vw (xss:=L8.map Sl.l) _ (Rm (m.o 2 O) (m.get 1 O).1 B.it) (by have:=B.len;omega) (by have:=B.sum;rw[Kr] at this;rw[List.map_map];exact Nat.le_trans (Nat.le_of_eq this) ah) (by omega)) ?_;rintro v u d ⟨A6,B6,n6,c6,m6,d6,G6,rfl,y,⟨X,_,ae⟩,⟨W,_,ad⟩,Y,V⟩;replace m:=m.ext' d;refine S ⟨m.sel [X7,N,N,N],?_⟩;refine fL (by simp only[zw];rfl) ?_;simp only[J];refine bB O O (zX _ y X W ae ad Y V) ?_;rintro v u d ⟨j,p,i,q,a,d9,xs,ys,rfl,⟨E,_,s⟩,⟨C,D,r⟩,e,f⟩;replace m:=m.plus f;clear f;simp only[dx,cv] at m;refine S ⟨m.sel [X7,X7,X7,X7,X7,X7,X7,N,N,N],?_⟩;refine fL (by simp only[zw];rfl) ?_;simp only[J];refine aX m 6 O O O gE (eU O) O ?_;intro u m;simp only[zy,zx,over,zF,zG,aa] at m;refine S ⟨m.sel [X7,X7,X7,X7,X7,X7,X7,N,N,N],?_⟩;refine qU (gk ?_);exact af _ _ (by kernel_rfl) ⟨_,_,_,_,_,_,_,_,_,O,((((((((m.pull 5 O).pull 5 O).pull 5 O).pull 5 O).pull 5 O).pull 5 O).pull 6 O).sel [N,N,N,N,N,N,N,X7,X7,X7]),E,s,C,D,r,e⟩
 intro vs wr L u
 obtain⟨t,j,p,i,q,a,d9,xs,ys,rfl,m,E,s,C,D,r,e⟩:=L;simp only[zu,zF,zG];apply aQ 5 [1,0] m;simp only[↓Z,jH,oA,Ae,aa];refine jW Ul ahk O O O (ab _) (ab _) (by omega) (by omega) (by omega) (by omega) ?_;intro u g3 d P Q;replace m:=m.newB d P Q;apply aL 2 [] m;simp only[↓Z];rw[show bn a (fz X7)=(bn a X7).map fz from (List.map_replicate ..).symm] at m;apply aQ 6 [0] m;simp only[↓Z];refine bT [11] [45,46,47,48,49,50,51,52,53,54,55,56,57,58,59] (λn vs wl=>∃(k:Nat)(cu:List Bool),vs=[U (k:Int)]/\Mem w wl [bI g3 (cu.map fz) 4,bI t [.slice j i q,.slice p a d9] 31,fN (ys.map (mIt 176)),fN (ys.map (oIt 3)),fN (ys.map (Zx 3)),fN (xs.map (tIt 43)),oI 70 8 p a d9 (ys.flatMap Em),oI 65 3 j i q (xs.flatMap Fx)]/\(cu.length=a)/\(k<=a)/\(n=a-k)) ?_ ?_
 .exact⟨_,0,_,O,m,List.length_replicate,by omega,O⟩
 intro n vs wr L u K2 ai
 obtain⟨k,cu,rfl,m,T,hk,hn⟩:=L;simp only[zu,zF,zG];apply F 8 [0,0] m;simp only[↓Z,aaW];refine aZ O ?_ ?_<;>intro ap
 .apply F 8 [0] m;simp only[↓Z];refine aA (cS O O (by omega) (Cr k 32)) ?_;simp only[J];refine aA (lH O O (by omega) O) (aA (mD O O O) ?_);apply aL 2 [0,0] m;simp only[↓Z,wZ,ab,Nat.zero_add,bi];apply R;omega;refine cH m 0 O O O dV (by simp only[List.length_map,T];omega) ⟨rfl,rfl⟩ ?_;intro u m;simp only[J] at m;rw[amG (by omega)] at m;apply aL 7 [0] m;simp only[↓Z];apply R;omega;exact ai (a-(k+1)) _ _ (by omega) (by kernel_rfl) ⟨k+1,_,O,m,by rw[List.length_set];exact T,by omega,O⟩
 apply F 2 [0] m;simp only[↓Z];refine Oz m [N,N,N,N,N,N,N,N] (.take 0 (.take 1 (.take 2 (.take 3 (.take 5 (.take 6 (.one 4 (.one 7 (.take 8 (.take 9 (.take 10 .nil))))))))))) aB (by kernel_rfl) (bR (λ_ _ _ _ _ h=>h)) ?_;intro u m;refine dG (by simp only[zw];rfl) (aV aF (aT (dG (by simp only[zw];rfl) (aV aF (aT (dG (by simp only[zw];rfl) (vT rfl ?_)))))));simp only[J];refine eK O (λu m=>((m.b 1 O).full lE gE)) ?_;simp only[J];refine aT (dG (by simp only[zw];rfl) (vT rfl (aV aF (aT (dG (by simp only[zw];rfl) (vT rfl ?_))))));simp only[J];refine eK O (λu m=>((m.b 1 O).full lE gE)) ?_;simp only[J];refine aT (dG (by simp only[zw];rfl) (vT rfl (aV aF (aT (fL (by simp only[zw];rfl) ?_)))));refine bQ O ?_;simp only[J];refine bY m O O (ajL (G:=tF xs ys) (cu:=cu) _ (uO.at (bd:=301) e (m.o 7 O) (m.o 6 O) (m.get 5 O).1 (m.get 4 O).1 (m.get 3 O).1 (m.get 2 O).1) (by simp[tF];omega) (by simp[tF];omega) s r (λg x=>((uO.bds e).2 g x).1) (by have h:=aeC (m.b 0 rfl);rwa [T] at h) (uO.bds e).1 (λg x=>((uO.bds e).2 g x).2)) ?_;rintro v u m ⟨b8,al,rfl⟩;refine S ⟨m,?_⟩;refine fL (by simp only[zw];rfl) ?_;refine bQ O ?_;simp only[J];refine bY m O O (abt (G:=tF xs ys) (cu:=cu) _ (uO.at (bd:=301) e (m.o 7 O) (m.o 6 O) (m.get 5 O).1 (m.get 4 O).1 (m.get 3 O).1 (m.get 2 O).1) (by simp[tF];omega) (by simp[tF];omega) s r (λg x=>((uO.bds e).2 g x).1) (by have h:=aeC (m.b 0 rfl);rwa [T] at h) (uO.bds e).1 (λg x=>((uO.bds e).2 g x).2)) ?_;rintro v u m ⟨b9,am,rfl⟩;refine S ⟨m,?_⟩;refine dG (by simp only[zw];rfl) (vT rfl (aV (wW rfl rfl) (aT (dG (by simp only[zw];rfl) (aV (dT rfl) (aT (dG (by simp only[zw];rfl) (aV aI ?_))))))));simp only[J];refine aT (qU ?_);apply aQ 1 [] m;simp only[↓Z];refine aS O O ?_;try simp only[zD,zE]
 exact⟨_,O,m.ext,by rw[amI al am];simp⟩
end Go.Proofs.YtbbokjbcdkgfgaaGreatDoor
namespace Go.Lith
open Go.RowKit Go.ChangeShapes
variable{ve:Type}{enc:ba×am->ve}{P:B}
def Mc(i:laidOutB P=N){W c:an}(g:eR W c){k:Nat->Bool} :
 ∀{ts:List ba} {vs:List am} {ds:List (DataW ve)} {ps:List MemPlace},(ts.all λt=>P.readableRec t&&decide (t<P.types.size))=N->DataW.TrodAll enc P W 0 (λ_=>N) N ts vs ds ps->(∀p∈ps,k p.block=N)->DataW.TrodAll enc P c 0 k N ts vs ds ps
 | [],[],[],_,_,h,_=>h
 | [],[],_::_,_,_,h,_=>h.elim
 | [],_::_,_,_,_,h,_=>h.elim
 |_::_,[],_,_,_,h,_=>h.elim
 |_::_,_::_,[],_,_,h,_=>h.elim
 |t::ts,v::vs,d::ds,ps,a,h,j=>by
  obtain⟨p,q,⟨n,f⟩,l,e⟩:=h;subst e;simp only[List.all_cons,Bool.and_eq_true,Y2] at a;have m:=DataW.trod_lt n _ _ _ f;exact⟨p,q,⟨n,DataW.trod_stays (kids_book i a.1.1) (book_sized a.1.1) (λh=>by cases h) ⟨a.1.2,book_self t⟩ f (λx b=>Below.same g (m x b)) (λx b=>j x (by simp[b]))⟩,
   Mc i g (by simpa using a.2) l (λx b=>j x (by simp[b])),rfl⟩
def abJ{f:Func}{s:ChangeSpec}{apart M S L:Bool}{W c:an}{args:Array am}{t:ba}{ds gs:List (DataW ve)}{Q:List MemPlace}
 (C:laidOutB P=N) (I:(f.params.toList.all λt=>P.readableRec t&&decide (t<P.types.size))=N) (u:s.vars=[]) (n:f.resultTypes = #[t]) (o:P.underlying t=H .bool)
 (d:DataW.Whole enc P f.params.toList s.vars apart W args.toList ds gs Q) (i:(s.fn ve (ds++gs)).results=[.lit (.bool N)]/\(s.fn ve (ds++gs)).args=ds/\(s.fn ve (ds++gs)).vars=[]) (e:eR W c) :
 s.post enc P f apart M S L W args (.bool N) c:=by
 have F:=d;obtain⟨p,q,A,l,rfl,E,D⟩:=F;rw[u] at l;obtain⟨rfl,rfl⟩:=trodVars_none l;have y:∀a:Nat->Bool,(∀x∈p++[],a x.block=N)->DataW.TrodAll enc P c 0 a N f.params.toList args.toList (s.fn ve (ds++[])).args p:=λa J=>by
  rw[i.2.1];exact Mc C e I A (λx h=>J x (by simp[h]))
 have z:∀a:Nat->Bool,DataW.TrodVars enc P c a s.vars (s.fn ve (ds++[])).vars []:=λa=>by
  rw[u,i.2.2];exact rfl
 have w:∀(b:Nat)(a:Nat->Bool)(m:Bool),DataW.TrodAll enc P c b a m f.resultTypes.toList ((fz N).resultList f.resultTypes.size) (s.fn ve (ds++[])).results []:=λb a m=>by
  rw[n,i.1];exact trodAll_cons_mk (shut_bool o N) trodAll_mk0
 have G:∀(j:Nat)(t:ba)(r:am),f.resultTypes[j]? = H t->((fz N).resultList f.resultTypes.size)[j]? = H r->nw P c .any 0 t r:=ok_one n rfl (okWide_bool_mk o _);have v:∀x∈p++[],x.block<W.heap.size:=d.lt;have K:∀x∈p++[],(λb=>decide (b<W.heap.size)) x.block=N:=λx h=>by simpa using v x h
 refine⟨ds,[],p++[],[],p,[],d,w _ _ _,y _ K,z _,Below.frame e _,λ_=>?_⟩;refine⟨G,_,_,([]++p)++[],⟨[]++p,[],trodAll_append (y _ (λ_ _=>rfl)) (w _ _ _),z _,O,?_,?_⟩,?_⟩
 . intro b off g
   have k:MemPlace.cell b off∈p++[]:=by simpa using g
   rw[Below.frozen e (p:=⟨b,off,X8⟩) (v _ k)];exact E b off k
 . intro B
   simpa using D B
 intro x g _
 simpa using g
variable{ve:Type}{enc:ba×am->ve}{P:B}{w:an}{base:Nat}{spare:Nat->Bool}{held:Bool}
def abK{v:am}{A:Option Addr}{len cap:Nat}(h:v.cells.toList=[.slice A len cap])(a:∀cs,v≠.agg cs):v=.slice A len cap:=by
 cases v<;>first|(exact Y0 rfl (a _))|(simp[Value.cells] at h;done)|(simpa[Value.cells] using h)
def asB{l:List Int}(h:l.length=4):∃a b c d,l=[a,b,c,d]:=by
 match l,h with
 | [a,b,c,d],_=>exact⟨a,b,c,d,rfl⟩
section
variable{ve:Type}{enc:ba×am->ve}{P:B}{w:an}{base:Nat}{spare:Nat->Bool}{held:Bool}
theorem amJ{r:Reach}{g n:Nat}{t:ba}{v:am}{d:DataW ve}{p:List MemPlace}(j:fG P t N)(l:qI P n t=N)(k:P.cellsOf t=4)(m:nw P w r g t v)(h:DataW.Trod enc P w base spare held t v d p) :
 ∃a b c e:Int,Iw a/\Iw b/\Iw c/\Iw e/\v=.agg #[U a,U b,U c,U e]:=by
 obtain⟨o,i,rfl,f⟩:=aeW j l k m h;obtain⟨a,b,c,e,rfl⟩:=asB i;exact⟨a,b,c,e,⟨f _ (by simp)⟩,⟨f _ (by simp)⟩,⟨f _ (by simp)⟩,⟨f _ (by simp)⟩,O⟩
end
variable{ve:Type}{enc:ba×am->ve}{P:B}{w:an}{base:Nat}{spare:Nat->Bool}{held:Bool}
def aqj(k:IntKind)(z:Int):List am:=[.int k z]
def akp{A:Option Addr}{n:Nat}{c:List Int}(h:ag3 w A n c):kO (aqj .i64) 1 w A n c:=⟨h.len,λi x f=>by
 obtain⟨a,rfl,e⟩:=h.row i x f;exact⟨a,O,λj u b=>by
  have d:j=0:=by
   have:=(List.getElem?_eq_some_iff.1 b).1;simp[aqj] at this;omega
  subst d;cases b;rw[bi,gQ,Nat.add_zero];exact e⟩⟩
def adm{r:Reach}{g n:Nat}{t e:ba}{v:am}{d:DataW ve}{p:List MemPlace}(b:P.underlying t=H (.slice e))(l:qI P n e=N)(j:P.cellsOf e=1)(c:nw P w r g t v)(h:DataW.Trod enc P w base spare held t v d p) :
 ∃(A:Option Addr)(len cap:Nat)(a:List Int),v=.slice A len cap/\kO (aqj .i64) 1 w A len a/\len<=cap/\∀z∈a,gF z:=by
 obtain⟨o,k⟩:=h;obtain⟨A,len,cap,a,e,i,_,_,f⟩:=aca b l j k;refine⟨A,len,cap,a,abK e λcs m=>?_,akp f,i,f.it⟩;unfold nw at c;rw[b] at c;subst m;simp[Cell.okWide,Cell.ok,b] at c
end Go.Lith
