/-
 Texts of one claim, laid together: K49, K32, K33, Maps2, K29, K34, K50, K87, Cr, K53, K54, K55, K56, K57, K58, K59, K60, K61, K62, K63, Open5, K35, K65, Open7, K88, Join.
-/
import Derived.OpenVars
import Derived.OpenShut
import Derived.WalkKit
import Derived.ProofKit
import Derived.Test.YtfekpcimgncioaaGreatDoorCF5
open Nat renaming reduceAdd->aa,reduceMul->ag,zero_add->ai,le_refl->ar,le_trans->be,zero_le->bn,mul_one->dt,lt_or_ge->eh,lt_succ_self->fx,not_lt_zero->jm,mod_lt->lh
open Int renaming reduceToNat->ad,toNat_natCast->ah,reduceAdd->an,fdiv_eq_ediv_of_nonneg->ip,tmod_eq_emod_of_nonneg->jj,toNat->kj,reduceSub->qr,fdiv->rv
open Go renaming Value->aj,World->ak,TypeId->ba,Program->bt,MapEntry->cu,wpQuiet->cw
open List renaming getElem?_eq_getElem->am,getElem?_eq_some_iff->ao,mem_cons->ap,length_append->aq,take_of_length_le->au,flatMap_append->aw,length_cons->ay,mem_singleton->a_,mem_of_getElem?->bf,mem_append->bh,map_cons->bi,length_take->bj,length_nil->bm,nil_append->bz,not_mem_nil->cd,length_map->cj,cons_append->cq,map_append->de,map_nil->dh,replicate->di,toList_toArray->ee,getElem?_map->fi,mem_map_of_mem->fl,length_set->fm,take_length->fq,filter_append->gp,map_toArray->gt,mem_or_eq_of_mem_set->jp,nodup_nil->kh,map_set->qe
open Bool renaming and_eq_true->bg,not_true->f_,not_false->gd,and_false->jk
open Go.Value renaming bool->bw,int->my,okWide->pg,cells->rt
open BitVec renaming ofInt->eo
open Option.some renaming inj->fc
open List.Nodup renaming length_le_of_subset->mi
set_option maxHeartbeats 8000000
set_option linter.unusedSimpArgs false
set_option linter.defProp false
set_option linter.unusedVariables false
set_option linter.unusedSectionVars false
open And renaming intro->I0
open Bool renaming true->Z,false->X3
open Option renaming some->X4,none->X5
namespace Go.Proofs.YtfekpcimgncioaaGreatDoor
open Go.Proofs.Tryz
open Go.RowKit Go.Lith
variable{q u x:H}{t s:T3}{l ts:List T3}{k n N M cap cap2:Nat}{A:Option Addr}{w:ak}{ps:List H}{want:Int}{c:fX}
abbrev Ij:=@underlying262
set_option maxRecDepth 100000
attribute [local irreducible] wpList cw fW bX cP Code.wp
attribute [local congr] dK dL cR dJ
theorem amT{p:H}(hq:I3 q)(h:IT t):IT (gX p q t):=⟨Bi hq h.a,Bi hq h.b,Bi hq h.c⟩
def ait(u v:H)(t:T3):Bool:=!(t.has u && !t.has v)||(!fK (gX u v t)&&decide (Vz t (gX u v t)=1))
def aiu(r:List T3)(u v:H)(t:T3):Bool:=!(t.has u && !t.has v) || !Bg (gX u v t) r
def aqq{v:H}(h:(!t.has u||t.has v)=Z):(t.has u && !t.has v)=X3:=by revert h;cases t.has u <;> cases t.has v <;> decide
def aqr{v:H}(h:(!t.has u||t.has v)=X3):(t.has u && !t.has v)=Z:=by revert h;cases t.has u <;> cases t.has v <;> decide
def atn{v:H}(h:(!t.has u||t.has v)=Z):ait u v t=Z:=by unfold ait;rw[aqq h];rfl
def ato{r:List T3}{v:H}(h:(!t.has u||t.has v)=Z):aiu r u v t=Z:=by unfold aiu;rw[aqq h];rfl
def amU{v:H}{b:Bool}(h:(!t.has u||t.has v)=X3)(k:(fK (gX u v t)||decide (¬Vz t (gX u v t)=1))=b):ait u v t = !b:=by
 unfold ait;rw[aqr h,<-k,Bool.not_or,decide_not,Bool.not_not];rfl
def amV{r:List T3}{v:H}{b:Bool}(h:(!t.has u||t.has v)=X3)(k:Bg (gX u v t) r=b):aiu r u v t = !b:=by unfold aiu;rw[aqr h,k];rfl
def aqs{f:T3->Bool}(h:l[k]? = X4 t)(a:f t=X3):l.all f=X3:=List.all_eq_false.2 ⟨t,bf h,by rw[a];exact Bool.false_ne_true⟩
def aqt{f:T3->Bool}(c:l.length<=n)(h:∀j t,j<n->l[j]? = X4 t->f t=Z):l.all f=Z:=List.all_eq_true.2 λt b=>by
 obtain⟨j,a⟩:=List.mem_iff_getElem?.1 b;exact h j t (by have:=(ao.1 a).1;omega) a
def abx(l r:List T3)(u v:H):acM l r u v=(l.all (ait u v)&&l.all (aiu r u v)):=rfl
def aiv{rs:List T3}{P:Option Addr}{p:H}[I3 p][W:I3 q](w:ak)(C:bW w A N ts)(hU:bW w P M rs)(hN:N<=10000000)(Y:M<=10000000):cY prog 110 [.slice A N cap,.slice P M cap2,pt p,pt q] w (λv _=>v=.bool (acM ts rs p q)):=by
 refine⟨bJ func110 (by kernel_rfl),?_⟩;have m:=Mem.refl w;have ag:=C.len
 go_enter func110,ntmps110
 apply gH 12 [0] m;simp only[↓U];intro Q R u m;refine bT [9] [8,10,11,12,16,17,18,19,20,21,22,23,24,25,26,27,28,29,30,31,32,33,34,35,36,37,38,39,40,41,42,43,44,45,46,47] (λn vs E=>∃(k:Nat),vs=[X6 (k:Int)]/\Mem w E [bI R [X6 q.x,X6 q.y,X6 q.z] 30,bI Q [X6 p.x,X6 p.y,X6 p.z] 30]/\(∀j t,j<k->ts[j]? = X4 t->ait p q t=Z)/\(k<=N)/\(n=N-k)) ?_ ?_
 .exact⟨_,0,O,m,(λ_ _ h=>Z8 h (jm _)),bn _,O⟩
 intro n vs wr B u K1 S
 obtain⟨k,rfl,m,hq,hk,hn⟩:=B;simp only[zu,zF,zG];apply L 8 [0,0] m;simp only[↓U,gM];refine bC O ?_ ?_<;>intro ab
 .obtain⟨t,e,J,a,s,K⟩:=C.get (i:=k) (by omega);subst s;haveI:=amT (p:=p) W J;apply xI 15 [0,1,0] m;simp only[↓U,fR,lL,dM,ah,ai,aa];refine⟨_,λu m=>((K.ext m.ext).lies cD aW),λX=>⟨by omega,?_⟩⟩;intro u m;apply aT 2 [3,1,0] m;simp only[↓U,aP,dM];refine lD m O O (Pe (t:=t) (p:=p)) 2 [0] ?_;simp only[↓U];intro u m;refine dW O (λc=>bD O ((m.b 1 O).full aG aA)) (dW O (λc=>bD O ((m.b 0 O).full cD aW)) (Ad m O O (λc=>by simp only[ee,bi,dh,zA,zB,zC,zD,zE,c,iM];rfl) (λc=>Pe (t:=t) (p:=q)) ?_));intro u m;refine aD (gJ O O O) ?_;apply aH 1 [0] m;simp only[↓U];refine cL O ?_ ?_<;>intro F
  .have g:=atn F;apply L 6 [0] m;simp only[↓U];apply I0;omega;exact S (N-(k+1)) _ _ (by omega) (by kernel_rfl) ⟨k+1, rfl, (m.sel [X3, Z, Z]), (λj f D d => by
    rcases eh j k with h | h
    .exact hq j f h d
    obtain rfl:k=j:=by omega
    obtain rfl:=fc (e.symm.trans d);exact g),by omega,O⟩
  apply L 6 [1,3,2,0] m;simp only[↓U,dM,aP];refine lD m O O (Vd (t:=t) (p:=p) (q:=q)) 6 [0,1,0] ?_;simp only[↓U,lL,dM,aa];intro g4 u m;refine lD m O O (Km (t:=gX p q t)) 6 [0] ?_;simp only[↓U];intro u m;refine dW O (λc=>bD O ((m.b 1 O).full cD aW)) (dW O (λc=>bD O ((m.b 0 O).full cD aW)) (Ad m O O (λc=>by simp only[ee,bi,dh,zA,zB,zC,zD,zE,c,iM];rfl) (λc=>ads (t:=t) (r:=gX p q t)) ?_));intro u m;refine cW O (λc=>rD (bL c O) O) (aD (gJ O O O) ?_);apply aH 1 [0] m;simp only[↓U];refine cL O ?_ ?_<;>intro o
  .rw[uN] at o;have g:=amU F o;apply L 5 [] m;simp only[↓U];refine aS O O ?_;try simp only[zD,zE]
   exact⟨_,O,m.ext,by rw[abx,aqs e g];rfl⟩
  rw[uN] at o;have g:=amU F o;apply L 7 [0] m;simp only[↓U];apply I0;omega;exact S (N-(k+1)) _ _ (by omega) (by kernel_rfl) ⟨k+1, rfl, (m.sel [X3, X3, Z, Z]), (λj f D d => by
   rcases eh j k with h | h
   .exact hq j f h d
   obtain rfl:k=j:=by omega
   obtain rfl:=fc (e.symm.trans d);exact g),by omega,O⟩
 obtain rfl:N=k:=by omega
 apply L 7 [0] m;simp only[↓U];refine bT [13] [8,14,15,48,49,50,51,52,53,54,55,56,57,58,59,60,61,62,63,64,65,66,67,68,69,70,71,72,73] (λn vs E=>∃(k:Nat),vs=[X6 (k:Int)]/\Mem w E [bI R [X6 q.x,X6 q.y,X6 q.z] 30,bI Q [X6 p.x,X6 p.y,X6 p.z] 30]/\(∀j t,j<k->ts[j]? = X4 t->aiu rs p q t=Z)/\(k<=N)/\(n=N-k)) ?_ ?_
 .exact⟨_,0,O,m,(λ_ _ h=>Z8 h (jm _)),bn _,O⟩
 intro n vs wr B u K2 T
 obtain⟨k,rfl,m,I,ae,af⟩:=B;simp only[zu,zF,zG];apply L 8 [0,0] m;simp only[↓U,gM];refine bC O ?_ ?_<;>intro ad
 .obtain⟨t,e,J,a,s,K⟩:=C.get (i:=k) (by omega);subst s;haveI:=amT (p:=p) W J;apply xI 15 [0,1,0] m;simp only[↓U,fR,lL,dM,ah,ai,aa];refine⟨_,λu m=>((K.ext m.ext).lies cD aW),λX=>⟨by omega,?_⟩⟩;intro u m;apply aT 2 [3,1,0] m;simp only[↓U,aP,dM];refine lD m O O (Pe (t:=t) (p:=p)) 2 [0] ?_;simp only[↓U];intro u m;refine dW O (λc=>bD O ((m.b 1 O).full aG aA)) (dW O (λc=>bD O ((m.b 0 O).full cD aW)) (Ad m O O (λc=>by simp only[ee,bi,dh,zA,zB,zC,zD,zE,c,iM];rfl) (λc=>Pe (t:=t) (p:=q)) ?_));intro u m;refine aD (gJ O O O) ?_;apply aH 1 [0] m;simp only[↓U];refine cL O ?_ ?_<;>intro G
  .have l:=ato (r:=rs) G;apply L 6 [0] m;simp only[↓U];apply I0;omega;exact T (N-(k+1)) _ _ (by omega) (by kernel_rfl) ⟨k+1, rfl, (m.sel [X3, Z, Z]), (λj f D d => by
    rcases eh j k with h | h
    .exact I j f h d
    obtain rfl:k=j:=by omega
    obtain rfl:=fc (e.symm.trans d);exact l),by omega,O⟩
  apply L 6 [1,3,2,0] m;simp only[↓U,dM,aP];refine lD m O O (Vd (t:=t) (p:=p) (q:=q)) 1 [0] ?_;simp only[↓U];intro u m;refine cK m O O (afv (t:=gX p q t) _ (hU.ext m.ext) Y) ?_;rintro v u m rfl;apply aH 6 [0] m;simp only[↓U];refine cL O ?_ ?_<;>intro V
  .have l:=amV G V;apply L 5 [] m;simp only[↓U];refine aS O O ?_;try simp only[zD,zE]
   exact⟨_,O,m.ext,by rw[abx,aqs e l,jk]⟩
  have l:=amV G V;apply L 7 [0] m;simp only[↓U];apply I0;omega;exact T (N-(k+1)) _ _ (by omega) (by kernel_rfl) ⟨k+1, rfl, (m.sel [X3, Z, Z]), (λj f D d => by
   rcases eh j k with h | h
   .exact I j f h d
   obtain rfl:k=j:=by omega
   obtain rfl:=fc (e.symm.trans d);exact l),by omega,O⟩
 obtain rfl:N=k:=by omega
 apply L 6 [] m;simp only[↓U];refine aS O O ?_;try simp only[zD,zE]
 exact⟨_,O,m.ext,by rw[abx,aqt (by omega) hq,aqt (by omega) I];rfl⟩
def apq(h:¬¬(s.a.x=t.a.x/\s.a.y=t.a.y/\s.a.z=t.a.z/\s.b.x=t.b.x/\s.b.y=t.b.y/\s.b.z=t.b.z/\s.c.x=t.c.x/\s.c.y=t.c.y/\s.c.z=t.c.z)):s=t:=by
 obtain⟨h1,h2,d,e,f,g,i,j,k⟩:=Classical.not_not.1 h;exact Di (H.eq h1 h2 d) (H.eq e f g) (H.eq i j k)
def apr(h:¬(s.a.x=t.a.x/\s.a.y=t.a.y/\s.a.z=t.a.z/\s.b.x=t.b.x/\s.b.y=t.b.y/\s.b.z=t.b.z/\s.c.x=t.c.x/\s.c.y=t.c.y/\s.c.z=t.c.z)):s≠t:=λk=>h (by rw[k];simp only[X1])
def aps{s t:E3}(h:¬¬(s.1.x=t.1.x/\s.1.y=t.1.y/\s.1.z=t.1.z/\s.2.x=t.2.x/\s.2.y=t.2.y/\s.2.z=t.2.z)):s=t:=by
 obtain⟨h1,h2,a,b,c,d⟩:=Classical.not_not.1 h;exact Prod.ext (H.eq h1 h2 a) (H.eq b c d)
def apt{s t:E3}(h:¬(s.1.x=t.1.x/\s.1.y=t.1.y/\s.1.z=t.1.z/\s.2.x=t.2.x/\s.2.y=t.2.y/\s.2.z=t.2.z)):s≠t:=λk=>h (by rw[k];simp only[X1])
def adt{α:Type}{xs ys:List α}(h:xs.take k=ys.take k)(a:xs.length<=k)(b:ys.length<=k):xs=ys:=by rwa [au a,au b] at h
def avs{n k:Int}(b:rS n)(a:0<k)(h1:k<4611686018427387904):dF prog 53 [X6 n,X6 k] (X6 (n%k)):=by
 intro w;refine⟨bJ func53 (by kernel_rfl),?_⟩;have m:=Mem.refl w;haveI:Iw n:=⟨b⟩
 have c:=apI (n:=n) a
 go_enter func53,ntmps53
 apply fF 8 [0] m;simp only[↓U];refine aD (cT O O (by omega) O) ?_;apply aH 3 [0] m;simp only[↓U];apply I0;omega;refine aD (cT O O (by omega) (anx a)) ?_;apply aH 3 [] m;simp only[↓U];exact aS O O ⟨_,O,m.ext,O⟩
def apu{xs ys:List T3}{c:Option Addr}(w:ak)(d:bW w A N xs)(e:bW w c M ys)(D:N<=100000000):cY prog 21 [.slice A N cap,.slice c M cap2] w (λv _=>v=.bool (decide (xs=ys))):=by
 refine⟨bJ func21 (by kernel_rfl),?_⟩;have m:=Mem.refl w;have H:=d.len;have I:=e.len
 go_enter func21,ntmps21
 apply fF 13 [0,0] m;simp only[↓U,gM];refine bC O ?_ ?_<;>intro r
 .apply L 5 [] m;simp only[↓U];refine aS O O ?_;try simp only[zD,zE]
  exact⟨_,rfl,m.ext,by rw[Y (λh=>r (by subst h;omega))]⟩
 apply L 7 [0] m;simp only[↓U];refine bT [5] [4,11,12,13,14,15,16,17,18,19,20,21,22,23,24,25] (λn vs l=>∃(k:Nat),vs=[X6 (k:Int)]/\Mem w l []/\(xs.take k=ys.take k)/\(k<=N)/\(n=N-k)) ?_ ?_
 .exact⟨_,0,O,m,(by simp),bn _,O⟩
 intro n vs wr j u B q
 obtain⟨k,rfl,m,hq,E,F⟩:=j;simp only[zu,zF,zG];apply L 8 [0,0] m;simp only[↓U,gM];refine bC O ?_ ?_<;>intro G
 .obtain⟨x,f,_,a,o,t⟩:=d.get (i:=k) (by omega);subst o;obtain⟨y,g,_,C,p,z⟩:=e.get (i:=k) (by omega);subst p;apply L 4 [0] m;simp only[↓U];refine mq m aB (by kernel_rfl) (cX 9 [0,1,0,1] ?_);simp only[↓U,fR,ah,ai];refine⟨_,λu m=>((t.ext m.ext).lies cD aW),_,λu m=>((z.ext m.ext).lies cD aW),_,asd,by omega,?_⟩;refine aZ ?_;intro u m;refine gc (bC O (λb=>?_) (λb=>?_))
  .apply L 5 [] m;simp only[↓U];refine aS O O ?_;try simp only[zD,zE]
   exact⟨_,rfl,m.ext,by rw[Y (λh=>apr b (by subst h;exact fc (f.symm.trans g)))]⟩
  have s:x=y:=apq b;subst s;apply L 7 [0] m;simp only[↓U];apply I0;omega;exact q (N-(k+1)) _ _ (by omega) (by kernel_rfl) ⟨k+1,O,m,(by rw[bV f,bV g,hq]),by omega,O⟩
 apply L 6 [] m;simp only[↓U];refine aS O O ?_;try simp only[zD,zE]
 exact⟨_,O,m.ext,by rw[Y0 (adt hq (by omega) (by omega))]⟩
def adu{xs ys:List E3}{b:Option Addr}(w:ak)(c:uD cJ 6 w A N xs)(d:uD cJ 6 w b M ys)(D:N<=100000000):cY prog 26 [.slice A N cap,.slice b M cap2] w (λv _=>v=.bool (decide (xs=ys))):=by
 refine⟨bJ func26 (by kernel_rfl),?_⟩;have m:=Mem.refl w;have I:=c.len;have J:=d.len
 go_enter func26,ntmps26
 apply fF 13 [0,0] m;simp only[↓U,ap4];refine bC O ?_ ?_<;>intro r
 .apply L 5 [] m;simp only[↓U];refine aS O O ?_;try simp only[zD,zE]
  exact⟨_,rfl,m.ext,by rw[Y (λh=>r (by subst h;omega))]⟩
 apply L 7 [0] m;simp only[↓U];refine bT [5] [4,11,12,13,14,15,16,17,18,19,20,21,22,23,24,25] (λn vs l=>∃(k:Nat),vs=[X6 (k:Int)]/\Mem w l []/\(xs.take k=ys.take k)/\(k<=N)/\(n=N-k)) ?_ ?_
 .exact⟨_,0,O,m,(by simp),bn _,O⟩
 intro n vs wr j u B q
 obtain⟨k,rfl,m,hq,E,F⟩:=j;simp only[zu,zF,zG];apply L 8 [0,0] m;simp only[↓U,ap4];refine bC O ?_ ?_<;>intro H
 .obtain⟨x,e,a,o,t⟩:=c.get (i:=k) (by omega);subst o;obtain⟨y,f,C,p,z⟩:=d.get (i:=k) (by omega);subst p;apply L 4 [0] m;simp only[↓U];refine mq m aB (by kernel_rfl) (cX 3 [] ?_);simp only[↓U,ap5,ah,ai];apply I0;omega;refine ql O (λu m=>(show dQ _ _ _ _ (ed x) from (t.ext m.ext).lies aj4 acl)) ?_;simp only[G];refine cX 3 [] ?_;simp only[↓U,ap5,ah,ai];apply I0;omega;refine ql O (λu m=>(show dQ _ _ _ _ (ed y) from (z.ext m.ext).lies aj4 acl)) ?_;simp only[G];refine aK (ahE O O) (aZ ?_);intro u m;refine gc ?_;simp only[G];refine bC O ?_ ?_<;>intro g
  .apply L 5 [] m;simp only[↓U];refine aS O O ?_;try simp only[zD,zE]
   exact⟨_,rfl,m.ext,by rw[Y (λh=>apt g (by subst h;exact fc (e.symm.trans f)))]⟩
  have s:x=y:=aps g;subst s;apply L 7 [0] m;simp only[↓U];apply I0;omega;exact q (N-(k+1)) _ _ (by omega) (by kernel_rfl) ⟨k+1,O,m,(by rw[bV e,bV f,hq]),by omega,O⟩
 apply L 6 [] m;simp only[↓U];refine aS O O ?_;try simp only[zD,zE]
 exact⟨_,O,m.ext,by rw[Y0 (adt hq (by omega) (by omega))]⟩
def Vi(h:k<8):IntKind.i64.wrap (eo IntKind.i64.bits (k:Int) &&& eo IntKind.i64.bits 1).toNat=((k%2:Nat):Int):=by
 rcases k with _ | _ | _ | _ | _ | _ | _ | _ | k <;> first | rfl | omega
def afw  : rv (k:Int) (2^min (kj 1) IntKind.i64.bits)=((k / 2:Nat):Int):=by
 rw[show (2:Int)^min (kj 1) IntKind.i64.bits=2 from rfl,ip _ (by decide)];rfl
def aby  : rv (k:Int) (2^min (kj 2) IntKind.i64.bits)=((k / 4:Nat):Int):=by
 rw[show (2:Int)^min (kj 2) IntKind.i64.bits=4 from rfl,ip _ (by decide)];rfl
def amW{g i:Nat}{x y z u v t:Int}{T:ba}(a:fQ w g [X6 x,X6 y,X6 z,X6 u,X6 v,X6 t] T)(b:i<2):dQ prog w 30 ⟨g,i*3,X5⟩ (pt (if i=0 then ⟨x,y,z⟩ else ⟨u,v,t⟩)):=by
 rcases i with _ | _ | i
 .exact a.lies aG aA O O
 .exact a.lies aG aA O O
 omega
def atp(k:Nat):H:=if k%2=0 then ⟨-10,0,0⟩ else ⟨10,0,0⟩
def atq(k:Nat):H:=if k / 2%2=0 then ⟨0,-10,0⟩ else ⟨0,10,0⟩
def atr(k:Nat):H:=if k / 4=0 then ⟨0,0,-10⟩ else ⟨0,0,10⟩
def o_y(h:k<8)(hp:Int.tmod (((k%2:Nat):Int)+((k / 2%2:Nat):Int)+((k / 4:Nat):Int)) 2=1):(oct 10)[k]? = X4 ⟨atp k,atq k,atr k⟩:=by
 rcases k with _ | _ | _ | _ | _ | _ | _ | _ | k <;> first | rfl | (revert hp;decide) | omega
def o_n(h:k<8)(hp:¬Int.tmod (((k%2:Nat):Int)+((k / 2%2:Nat):Int)+((k / 4:Nat):Int)) 2=1):(oct 10)[k]? = X4 ⟨atq k,atp k,atr k⟩:=by
 rcases k with _ | _ | _ | _ | _ | _ | _ | _ | k <;> first | rfl | (revert hp;decide) | omega
theorem amX:∀t∈oct 10,IT t:=λt a=>by
 simp only[oct,ap,cd,Z9] at a;rcases a with rfl | rfl | rfl | rfl | rfl | rfl | rfl | rfl <;> exact⟨⟨by decide,by decide,by decide⟩,⟨by decide,by decide,by decide⟩,⟨by decide,by decide,by decide⟩⟩
def ats(w:ak):cY prog 47 [X6 10] w (SL 39 9 (Gg.flatMap aL) 8 w):=by
 refine⟨bJ func47 (by kernel_rfl),?_⟩;have m:=Mem.refl w
 go_enter func47,ntmps47
 apply fF 12 [] m;simp only[↓U,yH,Gs,aa];apply I0;omega;apply Mr 10 [0] m;simp only[↓U,Yt,Bz,yH,aa];intro l;apply I0;omega;intro u m;apply Mr 9 [0] m;simp only[↓U,Gs,Yt,Bz,yH,aa];intro p;apply I0;omega;intro u m;apply Mr 5 [0] m;simp only[↓U,yH,Gs,Yt,Bz,aa];intro q u m;apply aT 3 [0] m;simp only[↓U];refine aD aM ?_;replace m:=m.nilO 39 9;apply aH 7 [0] m;simp only[↓U];refine bT [6,7] [8,9,10,29,30,31,32,33,34,35,36,37,38,39,40,41,42,43,44,45,46,47,48,49,50,51,52,53,54,55,56,57,58,59,60,61,62,63,64,65,66,67,68,69,70] (λn vs t=>∃(k:Nat) (a:Option Addr) (e:Nat),vs=[.slice a k e,X6 (k:Int)]/\Mem w t [oI 39 9 a k e (((oct 10).take k).flatMap aL),bI q [X6 0,X6 0,X6 (-10),X6 0,X6 0,X6 10] 56,bI p [X6 0,X6 (-10),X6 0,X6 0,X6 10,X6 0] 56,bI l [X6 (-10),X6 0,X6 0,X6 10,X6 0,X6 0] 56]/\(k<=8)/\(n=8-k)) ?_ ?_
 .exact⟨_,0,_,_,O,m,bn _,O⟩
 intro n vs wr s u z i
 obtain⟨k,a,e,rfl,m,D,E⟩:=s;simp only[zu,zF,zG];apply L 6 [0,0] m;simp only[↓U];refine bC O ?_ ?_<;>intro H
 .have f:k<8:=by omega
  apply L 6 [0] m;simp only[↓U];refine aD (lH O O (Vi f)) ?_;apply lK 8 [0,0,0,0] m;simp only[↓U,Ca,fB,aP,ah,ai,aa];refine⟨_,λu m=>(show dQ _ _ _ _ (pt (atp k)) from amW (m.b 3 O) (lh _ (by decide))),λA=>⟨by omega,?_⟩⟩;intro u m;refine aD (kW O O (by omega) afw) (aD (lH O O (Vi (k:=k / 2) (by omega))) ?_);apply lK 8 [0,0,0,0] m;simp only[↓U,Ca,fB,aP,ah,ai,aa];refine⟨_,λu m=>(show dQ _ _ _ _ (pt (atq k)) from amW (m.b 3 O) (lh _ (by decide))),λB=>⟨by omega,?_⟩⟩;intro u m;refine aD (kW O O (by omega) aby) ?_;apply lK 8 [0,0,0,0] m;simp only[↓U,Ca,fB,aP,ah,ai,aa];refine⟨_,λu m=>(show dQ _ _ _ _ (pt (atr k)) from amW (m.b 3 O) (by omega)),λC=>⟨by omega,?_⟩⟩;intro u m;refine aD (lH O O (Vi f)) ?_;apply aH 1 [0] m;simp only[↓U];refine aD (kW O O (by omega) afw) (aD (lH O O (Vi (k:=k / 2) (by omega))) ?_);apply aH 2 [0] m;simp only[↓U];apply I0;omega;refine aD (kW O O (by omega) aby) ?_;apply aH 1 [0] m;simp only[↓U];apply I0;omega;refine aD (cT O O (by omega) O) ?_;apply aH 2 [0,0] m;simp only[↓U];refine bC O ?_ ?_<;>intro j
  .have g:=o_y f j;apply L 6 [3,2,1,0] m;simp only[↓U,aP,qQ,aa];refine fE O ?_;intro u r c d h;replace m:=m.newB c d h;simp only[G];refine bN m 4 O O fC iO O (by decide) O O O (m.b 0 O).rowsO (fN O) (by omega) (by omega) ?_;intro a e u m;simp only[zF,zG] at m;rw[show ((oct 10).take k).flatMap aL++_=((oct 10).take (k+1)).flatMap aL by rw[bV g,aw];rfl] at m;apply aH 8 [0] m;simp only[↓U];apply I0;omega;exact i (8-(k+1)) _ _ (by omega) (by kernel_rfl) ⟨k+1,_,_,O,(m.sel [X3,X3,X3,X3,Z,Z,Z,Z]),by omega,O⟩
  have g:=o_n f j;apply L 6 [2,3,1,0] m;simp only[↓U,aP,qQ,aa];refine fE O ?_;intro u r c d h;replace m:=m.newB c d h;simp only[G];refine bN m 4 O O fC iO O (by decide) O O O (m.b 0 O).rowsO (fN O) (by omega) (by omega) ?_;intro a e u m;simp only[zF,zG] at m;rw[show ((oct 10).take k).flatMap aL++_=((oct 10).take (k+1)).flatMap aL by rw[bV g,aw];rfl] at m;apply aH 8 [0] m;simp only[↓U];apply I0;omega;exact i (8-(k+1)) _ _ (by omega) (by kernel_rfl) ⟨k+1,_,_,O,(m.sel [X3,X3,X3,X3,Z,Z,Z,Z]),by omega,O⟩
 obtain rfl:k=8:=by omega
 apply L 4 [0] m;simp only[↓U];refine bF O O (Ek (ts:=oct 10) _ ((m.o 0 O).tris amX) (by decide)) ?_;rintro v u c ⟨y,I,F,x,rfl,d⟩;replace m:=m.newO c d;apply aH 3 [] m;simp only[↓U];exact aS O O ⟨_,O,m.ext,⟨_,_,_,x,O,(m.o 0 O)⟩⟩
def afx(w:ak)(f:bW w A N ts)(R:N<=300000):cY prog 57 [.slice A N cap] w (OR 30 3 (λxs=>∃ps:List H,xs=ps.flatMap bH/\tD ps/\∀a,a∈ps↔a∈cF ts) w):=by
 refine⟨bJ func57 (by kernel_rfl),?_⟩;have m:=Mem.refl w
 go_enter func57,ntmps57
 apply fF 6 [0] m;simp only[↓U];refine lU m ?_;intro x u m;have d:=bY.nil (K:=H) (V:=Bool) pt bw;apply aH 10 [0] m;simp only[↓U,gM];refine bT [11] [5,7,12,13,14,15,16,17,18,19,20,21,22,23] (λn vs y=>∃(k:Nat) (es:Array cu) (c:Nat),vs=[X6 (k:Int)]/\Mem w y [mI x es c]/\(bY pt bw (De [] (cF (ts.take k))) es c)/\(k<=N)/\(n=N-k)) ?_ ?_
 .exact⟨_,0,_,_,O,m,d,bn _,O⟩
 intro n vs wr q u F z;obtain⟨k,es,c,rfl,m,d,S,T⟩:=q;simp only[zu,zF,zG];apply L 5 [0,0] m;simp only[↓U];refine bC O ?_ ?_<;>intro X
 .obtain⟨t,s,_,a,rfl,D⟩:=f.get (i:=k) (by omega);apply xI 29 [0,1,0,1,4,1,0] m;simp only[↓U,fR,lL,dM,ah,ai,aa];refine⟨_,λu m=>(((D.ext m.ext)).lies cD aW),λI=>⟨by omega,?_⟩⟩;intro u m;refine aD (uI O O) ?_;apply lK 6 [0,1,0] m;simp only[↓U,fB,aP,aa];intro J u m;refine mJ m 2 aev O O (λm=>aeW (p:=t.a) m 2 O d) ?_;rintro v i u m ⟨rfl,h,g,rfl,e⟩;simp only[zF,zG] at m;simp only[G];clear d;have d:=e;clear e;apply aH 18 [1,0] m;simp only[↓U,an];apply I0;omega;refine aD (uJ O O) ?_;apply lK 6 [0,1,0] m;simp only[↓U,fB,aP,aa];intro M u m;refine mJ m 3 aev O O (λm=>aeW (p:=t.b) m 3 O d) ?_;rintro v i u m ⟨rfl,h,g,rfl,e⟩;simp only[zF,zG] at m;simp only[G];clear d;have d:=e;clear e;apply aH 18 [1,0] m;simp only[↓U,an];apply I0;omega;refine aD (uK O O) ?_;apply lK 6 [0,1,0] m;simp only[↓U,fB,aP,aa];intro P u m;refine mJ m 4 aev O O (λm=>aeW (p:=t.c) m 4 O d) ?_;rintro v i u m ⟨rfl,h,g,rfl,e⟩;simp only[zF,zG] at m;simp only[G];clear d;have d:=e;clear e;apply aH 19 [2,0] m;simp only[↓U,an];apply I0;omega;exact z (N-(k+1)) _ _ (by omega) (by kernel_rfl) ⟨k+1,_,_,O,(m.sel [X3,X3,X3,X3,Z]),by rw[ad4 s];exact d,by omega,O⟩
 have B:k=N:=by omega
 rw[B,show ts.take N=ts from au (by rw[f.len];exact ar _)] at d;apply L 4 [0] m;simp only[↓U];refine bF O O (ahL _ (m.p 0 O) d (by have h1:=Jk (cF ts) [];have h2:=qK ts;have Q:=f.len;simp only[bm] at h1;omega)) ?_;rintro v u l ⟨E,W,Y,_,rfl,r,ps,rfl,j,C⟩;replace m:=m.newO l r;apply aH 3 [] m;simp only[↓U];exact aS O O ⟨_,O,m.ext,_,_,_,_,O,(m.o 0 O),ps,O,ahk (j.nodup_iff.2 (On _ _ .nil)) C,λa=>by rw[j.mem_iff,Xn];simp⟩
theorem nI(h:∀t∈l,IT t):∀t∈aV l,IT t:=λt d=>by
 obtain⟨s,hs,rfl⟩:=Ze.1 d;have:=h s hs;unfold dB;split
 .exact⟨this.c,this.a,this.b⟩
 split
 .exact⟨this.b,this.c,this.a⟩
 exact this
def Zu{b:List H}{a:H}:a∈(gA [] b).map (·.1)↔a∈b:=by rw[vJ];simp
def aiw(h:tD ps)(c:∀a,a∈ps↔a∈cF l):ps.length<=3*l.length:=by
 have d:ps.Nodup:=List.Pairwise.imp (λ{a b} (h:H.Lt a b) (e:a=b)=>H.lt_irrefl b (by rw[e] at h;exact h)) h;have h1:=mi d (l₂:=cF l) λx f=>(c x).1 f;rw[qK] at h1;omega
def Cf.perm{Q:H->List Int}{a D:List (H × Hd)}{cs:List fX}(h:Cf l Q (a.map (·.1)) cs)(hp:a.Perm D):Cf l Q (D.map (·.1)) cs:=λd=>by rw[h d,(hp.map (·.1)).mem_iff]
def aqu{D:List Mv}{p:H}(h:(Bu (D.map (·.1)))[k]? = X4 p):(kQ D)[k]? = X4 (p,(cG D p).getD ⟨0,0,0⟩):=by
 have c:p∈D.map (·.1):=(lT _).mem_iff.1 (bf h);obtain⟨y,a⟩:∃y,cG D p=X4 y:=by
  cases b:cG D p with
  | some y=>exact⟨y,rfl⟩
  | none=>exact Z8 c (kZ.1 b)
 unfold kQ;rw[fi,h,a];simp[a]
def Zv{ea ef:Array cu}{ca cf:Nat}{D:List (H × Hd)}{F:List (H × Bool)}(h:Ux ea ef ca cf D F l):D.length<=3*l.length:=by
 have h1:=mi h.nk (l₂:=cF l) λx a=>(h.k x).1 a;rw[cj,qK] at h1;omega
def agW(D:List Mv)(u v:H):(Ln D u v).length<=D.length+1:=by
 have:=wM (D.map λe=>(e.1,gK u v e.2)) u v;rwa [cj] at this
def kI{D:List Mv}(a:fO Z (aV ts)=0)(h:kN (aV ts).length want (aV ts) (nA (aV ts)) []=(l,D)):lJ ts want=(l,kQ D):=by
 unfold lJ;rw[X (by rw[a];simp),h]
def Nv(h:¬fO Z (aV ts)=0):lJ ts want=(aV ts,[]):=by unfold lJ;rw[J h]
def Vj(w:ak)(bc:bW w A N ts)(hN:N<=2000)(hw:0<=want):cY prog 24 [.slice A N cap,X6 want] w (λv w'=>∃A1 n1 c1 A2 n2 c2,v=.tuple #[.slice A1 n1 c1,.slice A2 n2 c2]/\n1=(lJ ts want).1.length/\n2=(lJ ts want).2.length/\Mem w w' [oI 55 6 A2 n2 c2 ((lJ ts want).2.flatMap cJ),oI 39 9 A1 n1 c1 ((lJ ts want).1.flatMap aL)]):=by
 refine⟨bJ func24 (by kernel_rfl),?_⟩;have m:=Mem.refl w;have cU:=bc.len;have ck:=jR ts;have hit:∀t∈aV ts,IT t:=nI bc.it;have cP:(aV ts).length<=2000:=by omega
 go_enter func24,ntmps24
 apply fF 8 [0] m;simp only[↓U];refine bF O O (acC _ (bc.ext m.ext) (by omega)) ?_;rintro v u j ⟨A1,an,n1,co,rfl,B⟩;replace m:=m.newO j B;obtain rfl:n1=(aV ts).length:=by rw[ck];exact co
 apply aH 6 [0] m;simp only[↓U];refine cK m O O (Az _ ((m.o 0 O).tris hit) (by omega)) ?_;rintro v u m rfl;apply aH 2 [0,0] m;simp only[↓U];refine bC O ?_ ?_<;>intro bh
 .apply L 6 [] m;simp only[↓U];replace m:=m.nilO 55 6;apply aT 1 [] m;simp only[↓U];exact wE O O O ⟨_,O,m.ext,_,_,_,_,_,_,O,by rw[Nv bh],by rw[Nv bh];rfl,by rw[Nv bh];exact m.sel [Z,Z]⟩
 have az:fO Z (aV ts)=0:=by omega
 have a6:=Uz az;apply L 3 [0] m;simp only[↓U];refine lU m ?_;intro ag u m;have S:=bY.nil (K:=H) (V:=List Int) pt qV;apply lK 7 [0,0] m;simp only[↓U,↓cB,auv,agj,aa];intro g2 u m;refine bF O O (afx _ ((m.o 2 O).tris hit) (by omega)) ?_;rintro v u j ⟨A3,n3,cy,_,rfl,B,ps,rfl,aU,b4⟩;replace m:=m.newO j B;obtain rfl:ps.length=n3:=by have:=(m.o 0 rfl).own.1;rw[ajj] at this;omega
 have cT:ps.length<=10000000:=by have h1:=aiw aU b4;omega
 apply aH 4 [0] m;simp only[↓U,gV];refine bT [33] [8,34,35,36,37,38,39,40,41,42] (λn vs X=>∃(k:Nat) (es:Array cu) (c:Nat) (Dq:List (H × List Int)),vs=[X6 (k:Int)]/\Mem w X [oI 30 3 A3 ps.length cy (ps.flatMap bH),bI g2 [.map (X4 ag)] 93,mI ag es c,oI 39 9 A1 (aV ts).length an ((aV ts).flatMap aL)]/\(bY pt qV Dq es c)/\(Lk (aV ts) (ps.take k) Dq)/\(k<=ps.length)/\(n=ps.length-k)) ?_ ?_
 .exact⟨_,0,_,_,[],O,m,S,Lk.nil _,bn _,O⟩
 intro n vs wr T u K1 b9
 obtain⟨k,ao,al,Dq,rfl,m,S,bo,hk,hn⟩:=T;simp only[zu,zF,zG];apply L 5 [0,0] m;simp only[↓U];refine bC O ?_ ?_<;>intro cQ
 .obtain⟨p,hp,a3,b8,cw⟩:=((m.o 0 rfl).lat (enc:=bH) (λ_=>rfl) (by decide)).get (i:=k) (by omega);subst b8;apply L 6 [0] m;simp only[↓U,↓cB,gG,ah,ai];apply I0;omega;refine bE O (show dQ _ _ _ _ (pt p) from cw.lies aG aA) ?_;simp only[G];apply lK 3 [0,0] m;simp only[↓U,↓cB,fB,aP,aa];intro g3 u m;refine mh m [Z,Z,Z,X3,Z] [(2,Z),(0,Z),(1,Z),(3,Z),(4,X3),(5,X3)] aB (by kernel_rfl) (bS (λ_ _ _ _ _ h=>h)) (ol:=?_) ?aJ ?_
  case aJ=>simp only[zw,zQ,zR];try rfl
  intro u m;refine Fq 4 [3,1,1] ?_;simp only[↓U,↓cB,agj,aP];refine bO (cK m O O (asE (p:=p) _ ((m.o 4 O).tris hit) (by omega)) ?_);rintro v u m rfl;refine aI ⟨m.sel [Z,Z,Z,X3,Z],?_⟩;refine bO ?_;simp only[G];refine nM (ek:=pt) (en:=qV) (a:=p) (v:=(nA (aV ts) p)) m 3 O Sx gD O O O S ?_;intro ao al u m S;simp only[zF,zG] at m;refine aI ⟨m.sel [Z,Z,Z,X3,Z],?_⟩;refine bR ?_;apply aT 5 [0] m;simp only[↓U];apply I0;omega;exact b9 (ps.length-(k+1)) _ _ (by omega) (by kernel_rfl) ⟨k+1,_,_,_,O,(m.sel [X3,Z,Z,Z,Z]),S,bo.put hp,by omega,O⟩
 obtain rfl:k=ps.length:=by omega
 rw[au (ar _)] at bo;have E:=bo.ok b4 hit;apply L 3 [0] m;simp only[↓U];refine lU m ?_;intro am u m;have s:=bY.nil (K:=H) (V:=H) pt pt;apply aH 4 [0] m;simp only[↓U];refine lU m ?_;intro av u m;have P:=bY.nil (K:=E3) (V:=Int) ed W;apply lK 5 [0,0] m;simp only[↓U,↓cB,arO,aaW,aa];intro g5 u m;refine aD fZ ?_;simp only[G,gt,bi,dh];apply aH 4 [0] m;simp only[↓U];refine bT [0] [12,13,14,15,16,17,18,19,46,47,48,49,50,51,52,53,54,55,56,57,58,59,60,61,62,63,64,65,66,67,68,69,70,71,72,73,74,75,76,77,78,79,80,81,82,83,84,85,86,87,88,89,90,91,92,93,94,95,96,97,98,99,100,101,102,103,104,105,106,107,108,109,110,111,112,113,114,115,116,117,118,119,120,121,122,123,124,125,126,127,128,129,130,131,132,133] (λn vs X=>∃(l:List T3) (Q:H->List Int) (A1:Option Addr) (an:Nat) (J ao M:Array cu) (Y al ad:Nat) (I:List (E3 × Int)) (Dq:List (H × List Int)) (d:List Mv),vs=[.slice A1 l.length an]/\Mem w X [bI g5 [.map (X4 av)] 100,mI av J Y,mI am M ad,bI g2 [.map (X4 ag)] 93,mI ag ao al,oI 39 9 A1 l.length an (l.flatMap aL)]/\(bY ed W I J Y)/\(rA I Q)/\((I.map (·.1)).Nodup)/\(bY pt qV Dq ao al)/\(bY pt pt d M ad)/\(QOK Dq Q (602+2*(aV ts).length-l.length))/\(∀t∈l,IT t)/\(∀t∈l,t.nd=Z)/\((d.map (·.1)).Nodup)/\(kN (aV ts).length want (aV ts) (nA (aV ts)) []=kN l.length want l Q d)/\(l.length+d.length<=(aV ts).length)/\(n=l.length)) ?_ ?_
 .exact⟨_,(aV ts),(nA (aV ts)),_,_,_,_,_,_,_,_,[],_,[],O,(m.sel [Z,Z,Z,X3,Z,Z,Z]),P,rA.nil _,kh,S,s,E.mono (by omega),hit,a6,kh,O,(by simp),O⟩
 intro n vs wr T u K2 cb
 obtain⟨l,Q,A1,an,J,ao,M,Y,al,ad,I,Dq,d,rfl,m,P,hC,af,S,s,E,hit,a6,aE,hS,cS,hn⟩:=T;simp only[zu,zF,zG];apply L 8 [0,0] m;simp only[↓U,gM];refine bC O ?_ ?_<;>intro cR
 .apply L 5 [0] m;simp only[↓U];refine bF O O (ame _ ((m.o 5 O).tris hit) a6 (by omega)) ?_;rintro v u j ⟨g90,ga,gf,ea,ef,ca,cf,D,F,K,rfl,hM,hK,ae⟩;replace m:=m.plus hM;clear hM;simp only[cq,bz] at m;apply lK 7 [0] m;simp only[↓U,↓cB,auu,agi,aa];intro g6 u m;replace m:=m.nilO 112 8;apply aT 6 [2,0] m;simp only[↓U,↓cB,agi,Tk,aa];refine bE O (((hK _ (m.get 2 O)).b).lies1 af5 O) ?_;simp only[G];refine xC m underlying106 O ((hK _ (m.get 2 O)).a) ?_;intro r1 u m;apply aH 2 [0] m;simp only[↓U];refine bT [13] [14,15,57,58,59,60,61,62,63,64,65,66,67,68,69,70,71,72,73,74,75,76,77,78,79,80,81,82,83,84] (λn vs X=>∃(C rs:List (H × Hd)) (sn:Array Nat) (cs:List fX) (A9:Option Addr) (ax:Nat) (J:Array cu) (Y:Nat) (I:List (E3 × Int)),vs=[.slice A9 cs.length ax]/\Mem w X [iI r1 ga ca sn,oI 112 8 A9 cs.length ax (cs.flatMap jC),bI g6 [.pointer (X4 ⟨g90,0,X5⟩)] 88,K,bI g5 [.map (X4 av)] 100,mI av J Y,mI am M ad,bI g2 [.map (X4 ag)] 93,mI ag ao al,oI 39 9 A1 l.length an (l.flatMap aL)]/\(bY ed W I J Y)/\(rA I Q)/\((I.map (·.1)).Nodup)/\(oJ pt Hd.v D ea sn C rs)/\(Cf l Q (C.map (·.1)) cs)/\(cs.length<=C.length*6000)/\(n=rs.length)) ?_ ?_
  .exact⟨_,[],D,#[],[],_,_,_,_,_,O,m,P,hC,af,(oJ.start ae.a),(Cf.nil _ _),(bn _),O⟩
  intro n vs wr T u K3 bD
  obtain⟨C,rs,sn,cs,A9,ax,J,Y,I,rfl,m,P,hC,af,hT,aO,cZ,b1⟩:=T;simp only[zu,zF,zG];apply L 2 [0] m;simp only[↓U];refine Ol m 0 O O ((hK _ (m.get 3 O)).a) ae.a hT ?_;intro bb kk vv sn u m hN;simp only[zF,zG] at m;refine aD (qJ O) ?_;apply aH 2 [0] m;simp only[↓U];refine cL O ?_ ?_<;>intro bQ
  .obtain⟨g,kb,ab,aS,aQ⟩:=Jj bQ hN;have cl:g∈D.map (·.1):=fl (f:=(·.1)) (aQ.1.mem_iff.1 (by simp):(g,kb)∈D);have bf:=aQ.len;have cN:=Zv ae;rw[aq,ay,bm] at bf;apply L 4 [0] m;simp only[↓U];refine fI (uE O (m.r 0 O) ((hK _ (m.get 3 O)).a) ae.a aQ) ?_;simp only[G];apply lK 6 [0,0] m;simp only[↓U,↓cB,fB,aP,aa];intro g8 u m;refine mq m aB (by kernel_rfl) (cX 3 [4] ?_);simp only[↓U,↓cB,agi,Tl,aa];refine ql O (λu m=>(((hK _ (m.get 4 O)).b).lies1 uH O)) ?_;simp only[G];refine ql O (λu m=>((m.b 0 O).full aG aA)) ?_;simp only[G];refine kC (λu m=>eN (ek:=pt) (en:=bw) (k:=g) (v0:=X3) nX pB gD O O ((hK _ (m.get 4 O)).f) ae.f) ?_;simp only[G];refine aZ ?_;intro u m;refine gc (cL O (λaR=>?_) (λaR=>?_))
   .rw[ae.b] at aR;apply L 1 [0] m;simp only[↓U];exact bD ab.length _ _ (by rw[b1,aS.length_eq];exact fx _) (by kernel_rfl) ⟨C++[(g,kb)],ab,_,cs,_,_,_,_,_,O,(m.sel [X3,Z,Z,Z,Z,Z,Z,Z,Z,Z,Z]),P,hC,af,aQ,(by rw[de];exact aO.skip aR),(by rw[aq];simp only[ay,bm];omega),rfl⟩
   rw[ae.b] at aR;apply L 5 [4,1,0] m;simp only[↓U,↓cB,agi,aP];refine bF O O (abc (p:=g) _ ((hK _ (m.get 4 O)).b) ((hK _ (m.get 4 O)).a) ae.a ((hK _ (m.get 4 O)).t) (by omega)) ?_;rintro v u j ⟨qx,bx,cx,rfl,hM,ba⟩;replace m:=m.plus hM;clear hM;simp only[cq,bz] at m;simp only[G];refine xC m nX O (m.p 0 O) ?_;intro r2 u m;apply aH 2 [0] m;simp only[↓U];refine bT [13] [15,71,72,73,74,75,76,77,78,79,80,81,82,83,84] (λn vs X=>∃(aN ab:List (H × Bool)) (bt:Array Nat) (cs:List fX) (A9:Option Addr) (ax:Nat) (J:Array cu) (Y:Nat) (I:List (E3 × Int)),vs=[.slice A9 cs.length ax]/\Mem w X [iI r2 qx cx bt,mI qx bx cx,bI g8 [X6 g.x,X6 g.y,X6 g.z] 30,iI r1 ga ca sn,oI 112 8 A9 cs.length ax (cs.flatMap jC),bI g6 [.pointer (X4 ⟨g90,0,X5⟩)] 88,K,bI g5 [.map (X4 av)] 100,mI av J Y,mI am M ad,bI g2 [.map (X4 ag)] 93,mI ag ao al,oI 39 9 A1 l.length an (l.flatMap aL)]/\(bY ed W I J Y)/\(rA I Q)/\((I.map (·.1)).Nodup)/\(oJ pt bw (gA [] (nR l g)) bx bt aN ab)/\(Vg l Q (C.map (·.1)) g (aN.map (·.1)) cs)/\(cs.length<=C.length*6000+aN.length)/\(n=ab.length)) ?_ ?_
   .exact⟨_,[],_,#[],cs,_,_,_,_,_,O,m,P,hC,af,(oJ.start ba),(aO.start g),(by simp only[bm];omega),rfl⟩
   intro n vs wr T u K4 cc
   obtain⟨aN,cW,bt,cs,A9,ax,J,Y,I,rfl,m,P,hC,af,be,aX,c0,cp⟩:=T;simp only[zu,zF,zG];apply L 2 [0] m;simp only[↓U];refine Ol m 0 O O (m.p 1 O) ba be ?_;intro bb kk vv sn u m hN;simp only[zF,zG] at m;refine aD (qJ O) ?_;apply aH 2 [0] m;simp only[↓U];refine cL O ?_ ?_<;>intro bU
   .obtain⟨kq,kv,b3,cv,aY⟩:=Jj bU hN;have ct:Gd l g kq=Z:=sT.1 (Zu.1 (fl (f:=(·.1)) (aY.1.mem_iff.1 (by simp):(kq,kv)∈gA [] (nR l g))));have cA:=aY.len;have a1:=pI (nR l g) [];have cg:=Uy l g;rw[aq,ay,bm] at cA;rw[bm] at a1;apply L 4 [0] m;simp only[↓U];refine fI (uE O (m.r 0 O) (m.p 1 O) ba aY) ?_;simp only[G];apply lK 4 [0] m;simp only[↓U,↓cB,fB,aP,aa];intro bA u m;replace m:=m.pull 12 O;simp only[dZ,eA,zF,zG] at m;replace m:=m.pull 10 O;simp only[dZ,eA,zF,zG] at m;replace m:=m.pull 12 O;simp only[dZ,eA,zF,zG] at m;replace m:=m.pull 11 O;simp only[dZ,eA,zF,zG] at m;refine gc (mh m [Z,Z,X3,Z,Z,Z,Z,Z,Z,X3,Z,Z,Z,Z] [(0,Z),(3,Z),(1,Z),(2,Z),(4,Z),(5,Z),(6,X3),(7,Z),(8,X3),(9,X3),(10,Z)] aB (by kernel_rfl) (bS (λ_ _ _ _ _ h=>h)) (ol:=?_) ?aJ ?_)
    case aJ=>simp only[zw,zQ,zR];try rfl
    intro u m;refine Fq 6 [7,4,7,4] ?_;simp only[↓U,↓cB,aP];refine bO ?_;replace m:=m.pack4;refine kA O O ((haveI:=uM hit ((ae.k g).1 cl);haveI:=uM hit (Ii ct).2;ati (p:=g) (q:=kq) m P S hC af E (by omega))) ?_;rintro v u ⟨J,Y,I,rfl,m,P,hC,af⟩;simp only[G];replace m:=m.unpack4;refine aI ⟨m.sel [Z,Z,X3,Z,Z,Z,Z,Z,Z,X3,Z,Z,Z,Z],?_⟩;refine bG (Jz O O O) (bO ?_);simp only[G];refine aeF O ?_;intro u bB j B k_;replace m:=m.newB j B k_;refine aI ⟨m.sel [X3,Z,Z,X3,Z,Z,Z,Z,Z,Z,X3,Z,Z,Z,Z],?_⟩;refine bO ?_;simp only[G];refine bN m 10 O O underlying105 anW O (by decide) O O O (m.b 0 O).rowsO (fN O) (by omega) (by omega) ?_;intro A9 ax u m;simp only[zF,zG] at m;rw[show cs.flatMap jC++_=(cs++[⟨g,kq,rH Q g kq⟩]:List fX).flatMap jC by rw[aw];rfl] at m;have bZ:cs.length+1=(cs++[⟨g,kq,rH Q g kq⟩]:List fX).length:=by simp
    rw[bZ] at m;rw[bZ];refine aI ⟨m.sel [X3,Z,Z,X3,Z,Z,Z,Z,Z,Z,X3,Z,Z,Z,Z],?_⟩;refine bG aM (bR ?_);simp only[G];replace m:=m.pull 14 O;simp only[dZ,eA,zF,zG] at m;replace m:=m.pull 5 O;simp only[dZ,eA,zF,zG] at m;replace m:=m.pull 4 O;simp only[dZ,eA,zF,zG] at m;replace m:=m.pull 14 O;simp only[dZ,eA,zF,zG] at m;replace m:=m.pull 6 O;simp only[dZ,eA,zF,zG] at m;replace m:=m.pull 6 O;simp only[dZ,eA,zF,zG] at m;replace m:=m.pull 14 O;simp only[dZ,eA,zF,zG] at m;replace m:=m.pull 14 O;simp only[dZ,eA,zF,zG] at m;replace m:=m.pull 14 O;simp only[dZ,eA,zF,zG] at m;replace m:=m.pull 14 O;simp only[dZ,eA,zF,zG] at m;replace m:=m.pull 14 O;simp only[dZ,eA,zF,zG] at m;replace m:=m.pull 14 O;simp only[dZ,eA,zF,zG] at m;replace m:=m.pull 14 O;simp only[dZ,eA,zF,zG] at m;replace m:=m.pull 14 O;simp only[dZ,eA,zF,zG] at m;apply aT 1 [0] m;simp only[↓U];exact cc b3.length _ _ (by rw[cp,cv.length_eq];exact fx _) (by kernel_rfl) ⟨aN++[(kq,kv)],b3,_,(cs++[fX.mk g kq (rH Q g kq)]),_,_,_,_,_,O,(m.sel [X3,Z,Z,Z,Z,Z,Z,Z,Z,Z,Z,Z,Z,Z,X3]),P,hC,af,aY,(by rw[de];exact aX.put),(by rw[aq,aq];simp only[ay,bm];omega),rfl⟩
   obtain rfl:=Ji bU hN;have cz:=be.len;have a1:=pI (nR l g) [];have cg:=Uy l g;rw[bm] at a1 cz;replace aX:=aX.done aR (λx=>by rw[<-sT];exact ((be.done.map (·.1)).mem_iff).trans Zu);apply L 2 [0] m;simp only[↓U];exact bD ab.length _ _ (by rw[b1,aS.length_eq];exact fx _) (by kernel_rfl) ⟨C++[(g,kb)],ab,_,cs,_,_,_,_,_,O,(m.sel [X3,X3,X3,Z,Z,Z,Z,Z,Z,Z,Z,Z,Z]),P,hC,af,aQ,(by rw[de];exact aX),(by rw[aq];simp only[ay,bm] at a1 ⊢;omega),rfl⟩
  obtain rfl:=Ji bQ hN;have bf:=hT.len;have cN:=Zv ae;rw[bm] at bf;have bj:=hT.done;replace aO:=aO.perm bj;apply L 4 [0] m;simp only[↓U];refine aD fZ ?_;simp only[G,gt,bi,dh];replace m:=m.pull 9 O;simp only[dZ,eA,zF,zG] at m;replace m:=m.pull 4 O;simp only[dZ,eA,zF,zG] at m;replace m:=m.pull 4 O;simp only[dZ,eA,zF,zG] at m;replace m:=m.pull 4 O;simp only[dZ,eA,zF,zG] at m;replace m:=m.pack4;refine kA O O (atk m hK ae a6 hit (by omega) E.len E.bd (by omega) aO (by omega)) ?_;rintro v u ⟨c,bb,rfl,m,b6⟩;simp only[G];replace m:=m.unpack3;apply aH 1 [0] m;simp only[↓U];refine aD (fG (v:=Ig c) O O) ?_;simp only[G];refine aD (fG (v:=.bool bb) O O) ?_;simp only[G];apply lK 2 [0] m;simp only[↓U,↓cB,aeQ,aeP,aa];intro g8 u m;apply aT 8 [0] m;simp only[↓U];refine cL O ?_ ?_<;>intro a4
  .have aK:=Ll (l:=l) (want:=want) (Q:=Q) (D:=d) (.inr (b6.resolve_right (λh=>by rw[h.1] at a4;cases a4)).2);apply L 5 [] m;simp only[↓U];replace m:=m.nilO 55 6;apply aT 4 [0] m;simp only[↓U];refine bF O O (amC (q:=am) _) ?_;rintro v u j ⟨g9,rfl,B,k_⟩;replace m:=m.newB j B k_;simp only[G];refine bF O O (adj _ ajX (Pg (m.p 9 O) s (m.b 0 O)) (λxs h=>by rw[h.length_eq,cj];exact ar _) (by omega)) ?_;rintro v u j ⟨xs,ys,⟨a7,bv,bs,bu,rfl,B⟩,aW,br,aU⟩;replace m:=m.newO j B;obtain rfl:bs=d.length:=by rw[bu,aW.length_eq,cj]
   obtain rfl:ys=Bu (d.map (·.1)):=Us aE (br.trans aW) aU;apply aH 4 [0] m;simp only[↓U,gV];refine bT [20,138] [22,139,140,141,142,143,144,145,146,147,148,149,150] (λn vs X=>∃(k:Nat) (aj:Option Addr) (ap:Nat),vs=[.slice aj k ap,X6 (k:Int)]/\Mem w X [oI 30 3 a7 d.length bv ((Bu (d.map (·.1))).flatMap bH),oI 55 6 aj k ap (((kQ d).take k).flatMap cJ),oI 39 9 A1 l.length an (l.flatMap aL),mI am M ad]/\(k<=d.length)/\(n=d.length-k)) ?_ ?_
   .exact⟨_,0,_,_,O,(m.sel [Z,X3,Z,X3,X3,X3,Z,X3,X3,X3,Z,X3,X3]),bn _,O⟩
   intro n vs wr T u K5 cd
   obtain⟨k,aj,ap,rfl,m,hk,cr⟩:=T;simp only[zu,zF,zG];apply L 5 [0,0] m;simp only[↓U];refine bC O ?_ ?_<;>intro cD
   .obtain⟨k9,bk,a9,a8,bp⟩:=((m.o 0 rfl).lat (enc:=bH) (λ_=>rfl) (by decide)).get (i:=k) (by omega);subst a8;have bl:=aqu bk;apply L 6 [0] m;simp only[↓U,↓cB,gG,ah,ai];apply I0;omega;refine bE O (show dQ _ _ _ _ (pt k9) from bp.lies aG aA) ?_;simp only[G];apply lK 3 [0,0] m;simp only[↓U,↓cB,fB,aP,aa];intro bA u m;refine mh m [Z,Z,X3,Z,Z] [(0,Z),(2,Z),(1,Z),(3,Z),(4,X3),(5,Z),(6,X3),(7,X3),(8,Z)] aB (by kernel_rfl) (bS (λ_ _ _ _ _ h=>h)) (ol:=?_) ?aJ ?_
    case aJ=>simp only[zw,zQ,zR];try rfl
    intro u m;refine Fq 4 [1,1] ?_;simp only[↓U,↓cB,aP];refine bO (fI (eN (ek:=pt) (en:=pt) (k:=k9) (v0:=⟨0,0,0⟩) Sy iF gD O O (m.p 4 O) s) ?_);simp only[G];refine aI ⟨m.sel [Z,Z,X3,Z,Z],?_⟩;refine bG (Dt O O) (bO ?_);simp only[G];refine yF O ?_;intro u bB j B k_;replace m:=m.newB j B k_;refine aI ⟨m.sel [X3,Z,Z,X3,Z,Z],?_⟩;refine bO ?_;simp only[G];refine bN m 3 O O underlying46 aaD O (by decide) O O O (m.b 0 O).rowsO (fN O) (by omega) (by omega) ?_;intro aj ap u m;simp only[zF,zG] at m;rw[show ((kQ d).take k).flatMap cJ++_=((kQ d).take (k+1)).flatMap cJ by rw[bV bl,aw];rfl] at m;refine aI ⟨m.sel [X3,Z,Z,X3,Z,Z],?_⟩;refine bG aM (bR ?_);apply aT 5 [0] m;simp only[↓U];apply I0;omega;exact cd (d.length-(k+1)) _ _ (by omega) (by kernel_rfl) ⟨k+1,_,_,O,(m.sel [X3,X3,Z,Z,Z,Z]),by omega,O⟩
   obtain rfl:k=d.length:=by omega
   rw[show (kQ d).take d.length=kQ d from au (by rw[yM];exact ar _)] at m;apply L 9 [] m;simp only[↓U];exact wE O O O ⟨_,O,m.ext,_,_,_,_,_,_,O,by rw[kI az (hS.trans aK)],by rw[kI az (hS.trans aK)];exact (yM _).symm,by rw[kI az (hS.trans aK)];exact m.sel [X3,Z,Z,X3]⟩
  obtain⟨rfl,a2,bg⟩:=b6.resolve_left (λh=>by rw[h.1] at a4;cases a4);have cm:((cG Dq c.u).getD q0).length=10:=by rw[E.get];exact E.len _
  have ch:As (602+2*(aV ts).length-l.length) ((cG Dq c.u).getD q0):=by rw[E.get];exact E.bd _
  have cn:((cG Dq c.v).getD q0).length=10:=by rw[E.get];exact E.len _
  have ci:As (602+2*(aV ts).length-l.length) ((cG Dq c.v).getD q0):=by rw[E.get];exact E.bd _
  apply L 8 [1,1,0] m;simp only[↓U,↓cB,Dw,aP,vW,aa];refine bF O O ((haveI:=bg.1;haveI:=bg.2;Hw (p:=c.u) (q:=c.v) _ ((m.o 3 rfl).tris hit) (by omega))) ?_;rintro v u j ⟨b7,cM,cV,cF,rfl,B⟩;replace m:=m.newO j B;subst cF;refine aD aM ?_;simp only[G];replace m:=(m.pull 0 O).mv 3 O;simp only[dZ,eA,zF,zG] at m;apply aH 2 [0] m;simp only[↓U];refine cI m 12 aB (by kernel_rfl) ?_;simp only[zy];refine cX 6 [9,1,9,1] ?_;simp only[↓U,↓cB,agj,vW,aP,Dw,aa];refine kC (λu m=>eN (ek:=pt) (en:=qV) (k:=c.u) (v0:=q0) Sx agR gD O O (m.p 9 O) S) ?_;simp only[G];refine cX 3 [9,1] ?_;simp only[↓U,↓cB,agj,vW,aP,aa];refine kC (λu m=>eN (ek:=pt) (en:=qV) (k:=c.v) (v0:=q0) Sx agR gD O O (m.p 9 O) S) ?_;simp only[G];refine eH O O (ae7 cm cn ch ci (by omega)) (aZ ?_);intro u m;simp only[G];refine nM (ek:=pt) (en:=qV) (a:=c.v) (v:=(tF ((cG Dq c.u).getD q0) ((cG Dq c.v).getD q0))) m 9 O Sx gD O O O S ?_;intro ao al u m S;simp only[zF,zG] at m;rw[E.get,E.get] at S;refine aI ?_;apply aT 3 [6,0] m;simp only[↓U,↓cB,aaW];refine aD fZ ?_;simp only[G,gt,bi,dh];replace m:=m.pull 0 O;simp only[dZ,eA,zF,zG] at m;replace m:=m.pull 6 O;simp only[dZ,eA,zF,zG] at m;replace m:=m.pack2;refine kA O O (amM m P af) ?_;rintro v u ⟨J,cO,rfl,m,P,cH,cE⟩;simp only[G];replace m:=m.unpack2;apply aH 5 [0] m;simp only[↓U];refine xC m Sy O (m.p 7 O) ?_;intro r3 u m;apply aH 2 [0] m;simp only[↓U];refine bT [] [18,19,116,117,118,119,120,121,122,123,124,125,126,127,128] (λn vs X=>∃(C rs:List Mv) (sn:Array Nat) (M:Array cu),vs=[]/\Mem w X [iI r3 am ad sn,mI av J Y,bI g8 (jC c) 112,oI 39 9 b7 (eD l c.u c.v).length cM ((eD l c.u c.v).flatMap aL),bI g5 [.map (X4 av)] 100,mI am M ad,bI g2 [.map (X4 ag)] 93,mI ag ao al]/\(bY pt pt (Em (C.map (·.1)) c.u c.v d) M ad)/\(tX pt pt (Em (C.map (·.1)) c.u c.v d) M sn C rs)/\(n=rs.length)) ?_ ?_
  .exact⟨_,[],d,#[],_,O,(m.sel [Z,Z,Z,X3,X3,Z,X3,Z,Z,Z,Z]),(by rw[dh,adn];exact s),(by rw[dh,adn];exact tX.start s),O⟩
  intro n vs wr T u K6 bK
  obtain⟨C,rs,sn,M,rfl,m,s,bM,b2⟩:=T;simp only[zu,zF,zG];apply L 2 [0] m;simp only[↓U];refine amE m 0 O O (m.p 5 O) s bM ?_;intro bb kk vv sn u m hN;simp only[zF,zG] at m;refine aD (qJ O) ?_;apply aH 2 [0] m;simp only[↓U];refine cL O ?_ ?_<;>intro bX
  .obtain⟨g,kb,ab,aS,a0⟩:=amJ bX hN;obtain⟨b5,b0⟩:=amQ (by rw[Fy];exact aE) a0;apply L 4 [0] m;simp only[↓U];refine fI (adm O (m.r 0 O) (m.p 5 O) s a0) ?_;simp only[G];apply lK 5 [1] m;simp only[↓U,↓cB,fB,aP,aa];intro bA bB u m;apply Mr 8 [0,1,5] m;simp only[↓U,↓cB,aP,Dw,aa];refine⟨_,eQ,?_⟩;intro u m;apply aT 1 [0] m;simp only[↓U];refine cL O ?_ ?_<;>intro a5
   .rw[apl,R] at a5;have bq:=amP aE b0 b5 a5;apply L 5 [2,5,0] m;simp only[↓U,↓cB,aP,vW,aa];refine amG (ek:=pt) (ev:=pt) (a:=g) (v:=c.v) m 7 O Sy gD O O O s (by rw[Fy];exact aE) a0 ?_;intro M u m s bL;simp only[zF,zG] at m;apply aH 2 [0] m;simp only[↓U];rw[bq] at s bL;exact bK ab.length _ _ (by rw[b2,aS.length_eq];exact fx _) (by kernel_rfl) ⟨C++[(g,c.v)],ab,_,_,O,(m.sel [X3,X3,Z,Z,Z,Z,Z,Z,Z,Z]),(by rw[de];exact s),(by rw[de];exact bL),O⟩
   rw[apl,Y1] at a5;have bq:=aiq (v:=c.v) aE b0 b5 a5;apply L 2 [0] m;simp only[↓U];have bP:=a0.stay;rw[bq] at s bP;exact bK ab.length _ _ (by rw[b2,aS.length_eq];exact fx _) (by kernel_rfl) ⟨C++[(g,kb)],ab,_,_,O,(m.sel [X3,X3,Z,Z,Z,Z,Z,Z,Z,Z]),(by rw[de];exact s),(by rw[de];exact bP),O⟩
  obtain rfl:=amI bX hN;have bj:=bM.done;have cC:∀e∈d,e.1∈C.map (·.1):=λe he=>(bj.map (·.1)).mem_iff.2 (by rw[Fy];exact fl he);apply L 7 [3,3,0] m;simp only[↓U,↓cB,Dw,aP,vW,aa];refine nM (ek:=pt) (en:=pt) (a:=c.u) (v:=c.v) m 5 O Sy gD O O O s ?_;intro M ad u m s;simp only[zF,zG] at m;rw[amO cC] at s;apply aH 1 [] m;simp only[↓U];replace m:=m.pull 3 O;simp only[dZ,eA,zF,zG] at m;replace m:=m.pull 7 O;simp only[dZ,eA,zF,zG] at m;replace m:=m.pull 7 O;simp only[dZ,eA,zF,zG] at m;replace m:=m.pull 7 O;simp only[dZ,eA,zF,zG] at m;replace m:=m.pull 5 O;simp only[dZ,eA,zF,zG] at m;replace m:=m.pull 7 O;simp only[dZ,eA,zF,zG] at m;apply aT 1 [0] m;simp only[↓U];exact cb ((eD l c.u c.v).length) _ _ (by have:=pJ a2;omega) (by kernel_rfl) ⟨(eD l c.u c.v),(uF Q c.u c.v),_,_,_,_,_,_,_,_,_,_,(Ln d c.u c.v),rfl,(m.sel [Z,Z,Z,Z,Z,Z,X3,X3]),P,(hC.upd cE),cH,S,s,((E.upd c.u c.v).mono (by have:=pJ a2;omega)),(nI (Fv bg.2 hit)),(aes l c.u c.v),(atj aE _ _),(hS.trans (Zr hw (by omega) a2)),(by have:=pJ a2;have:=agW d c.u c.v;omega),rfl⟩
 have aK:=Ll (l:=l) (want:=want) (Q:=Q) (D:=d) (.inl (by omega));apply L 5 [] m;simp only[↓U];replace m:=m.nilO 55 6;apply aT 4 [0] m;simp only[↓U];refine bF O O (amC (q:=am) _) ?_;rintro v u j ⟨g6,rfl,B,k_⟩;replace m:=m.newB j B k_;simp only[G];refine bF O O (adj _ ajX (Pg (m.p 4 O) s (m.b 0 O)) (λxs h=>by rw[h.length_eq,cj];exact ar _) (by omega)) ?_;rintro v u j ⟨xs,ys,⟨a7,bv,bs,bu,rfl,B⟩,aW,br,aU⟩;replace m:=m.newO j B;obtain rfl:bs=d.length:=by rw[bu,aW.length_eq,cj]
 obtain rfl:ys=Bu (d.map (·.1)):=Us aE (br.trans aW) aU;apply aH 4 [0] m;simp only[↓U,gV];refine bT [20,138] [22,139,140,141,142,143,144,145,146,147,148,149,150] (λn vs X=>∃(k:Nat) (aj:Option Addr) (ap:Nat),vs=[.slice aj k ap,X6 (k:Int)]/\Mem w X [oI 30 3 a7 d.length bv ((Bu (d.map (·.1))).flatMap bH),oI 55 6 aj k ap (((kQ d).take k).flatMap cJ),mI am M ad,oI 39 9 A1 l.length an (l.flatMap aL)]/\(k<=d.length)/\(n=d.length-k)) ?_ ?_
 .exact⟨_,0,_,_,O,(m.sel [Z,X3,Z,X3,X3,Z,X3,X3,Z]),bn _,O⟩
 intro n vs wr T u K7 ce
 obtain⟨k,aj,ap,rfl,m,hk,cr⟩:=T;simp only[zu,zF,zG];apply L 5 [0,0] m;simp only[↓U];refine bC O ?_ ?_<;>intro cD
 .obtain⟨k9,bk,a9,a8,bp⟩:=((m.o 0 rfl).lat (enc:=bH) (λ_=>rfl) (by decide)).get (i:=k) (by omega);subst a8;have bl:=aqu bk;apply L 6 [0] m;simp only[↓U,↓cB,gG,ah,ai];apply I0;omega;refine bE O (show dQ _ _ _ _ (pt k9) from bp.lies aG aA) ?_;simp only[G];apply lK 3 [0,0] m;simp only[↓U,↓cB,fB,aP,aa];intro g7 u m;refine mh m [Z,Z,X3,Z,Z] [(0,Z),(2,Z),(1,Z),(3,Z),(4,X3),(5,Z),(6,X3),(7,X3),(8,Z)] aB (by kernel_rfl) (bS (λ_ _ _ _ _ h=>h)) (ol:=?_) ?aJ ?_
  case aJ=>simp only[zw,zQ,zR];try rfl
  intro u m;refine Fq 4 [1,1] ?_;simp only[↓U,↓cB,aP];refine bO (fI (eN (ek:=pt) (en:=pt) (k:=k9) (v0:=⟨0,0,0⟩) Sy iF gD O O (m.p 3 O) s) ?_);simp only[G];refine aI ⟨m.sel [Z,Z,X3,Z,Z],?_⟩;refine bG (Dt O O) (bO ?_);simp only[G];refine yF O ?_;intro u g8 j B k_;replace m:=m.newB j B k_;refine aI ⟨m.sel [X3,Z,Z,X3,Z,Z],?_⟩;refine bO ?_;simp only[G];refine bN m 3 O O underlying46 aaD O (by decide) O O O (m.b 0 O).rowsO (fN O) (by omega) (by omega) ?_;intro aj ap u m;simp only[zF,zG] at m;rw[show ((kQ d).take k).flatMap cJ++_=((kQ d).take (k+1)).flatMap cJ by rw[bV bl,aw];rfl] at m;refine aI ⟨m.sel [X3,Z,Z,X3,Z,Z],?_⟩;refine bG aM (bR ?_);apply aT 5 [0] m;simp only[↓U];apply I0;omega;exact ce (d.length-(k+1)) _ _ (by omega) (by kernel_rfl) ⟨k+1,_,_,O,(m.sel [X3,X3,Z,Z,Z,Z]),by omega,O⟩
 obtain rfl:k=d.length:=by omega
 rw[show (kQ d).take d.length=kQ d from au (by rw[yM];exact ar _)] at m;apply L 9 [] m;simp only[↓U];exact wE O O O ⟨_,O,m.ext,_,_,_,_,_,_,O,by rw[kI az (hS.trans aK)],by rw[kI az (hS.trans aK)];exact (yM _).symm,by rw[kI az (hS.trans aK)];exact m.sel [X3,Z,X3,Z]⟩
def sA{P:bt}{f:FuncId}{args:List aj}{v v':aj}(h:cY P f args w λu _=>u=v)(e:v=v'):cY P f args w λu _=>u=v':=e▸h
theorem Vk{p:H}(h:(-1000<=p.x/\p.x<=1000)/\(-1000<=p.y/\p.y<=1000)/\(-1000<=p.z/\p.z<=1000)):I3 p:=⟨by unfold rS;omega,by unfold rS;omega,by unfold rS;omega⟩
instance sx3:I3 (⟨10,0,0⟩:H):=Vk (by decide)
instance sy3:I3 (⟨0,10,0⟩:H):=Vk (by decide)
instance sz3:I3 (⟨-10,0,0⟩:H):=Vk (by decide)
instance sa3:I3 (⟨0,0,0⟩:H):=Vk (by decide)
instance sb3:I3 (⟨9,0,0⟩:H):=Vk (by decide)
instance sc3:I3 (⟨0,9,0⟩:H):=Vk (by decide)
instance sd3:I3 (⟨0,0,9⟩:H):=Vk (by decide)
theorem Qw:∀t∈Gg,IT t:=nI amX
def s1T:List T3:=[⟨⟨0,0,0⟩,⟨0,9,0⟩,⟨9,0,0⟩⟩,⟨⟨0,0,0⟩,⟨9,0,0⟩,⟨0,0,9⟩⟩,⟨⟨9,0,0⟩,⟨0,9,0⟩,⟨0,0,9⟩⟩,⟨⟨0,9,0⟩,⟨0,0,0⟩,⟨0,0,9⟩⟩]
def s2T:List T3:=[⟨⟨0,0,0⟩,⟨9,0,0⟩,⟨0,9,0⟩⟩]
theorem avi:∀t∈s1T,IT t:=λt a=>by
 simp only[s1T,ap,cd,Z9] at a;rcases a with rfl | rfl | rfl | rfl
 .exact⟨sa3,sc3,sb3⟩
 .exact⟨sa3,sb3,sd3⟩
 .exact⟨sb3,sc3,sd3⟩
 exact⟨sc3,sa3,sd3⟩
theorem avj:∀t∈s2T,IT t:=λt a=>by
 simp only[s2T,ap,cd,Z9] at a;subst a;exact⟨sa3,sb3,sc3⟩
def att:abo Gg ⟨10,0,0⟩ ⟨0,10,0⟩=Z:=by rw[abo,ah2,aoK];decide
def atu:abo Gg ⟨10,0,0⟩ ⟨-10,0,0⟩=X3:=by rw[abo,aoL,jk]
def avY:abo s1T ⟨0,0,0⟩ ⟨9,0,0⟩=X3:=by kernel_rfl
def avZ:(eD s2T ⟨0,0,0⟩ ⟨9,0,0⟩).length=0:=by kernel_rfl
def atv:(lJ Gg 7).1.length=6:=C Prod.fst acP
def atw:(lJ Gg 7).2=[(⟨-10,0,0⟩,⟨0,-10,0⟩)]:=C Prod.snd acP
def amY  : dF prog 14 [] (.bool Z):=by
 intro w;refine⟨bJ func14 (by kernel_rfl),?_⟩;have m:=Mem.refl w
 go_enter func14,ntmps14
 apply fF 6 [0] m;simp only[↓U];refine bF O O (ats _) ?_;rintro v u a ⟨r,K,n1,rfl,rfl,b⟩;replace m:=m.newO a b;apply lK 13 [0,1] m;simp only[↓U,yH,fB,aP,aa];intro B u m;refine go (cK m O O (sA (Nq (ts:=Gg) (p:=⟨10,0,0⟩) (q:=⟨0,10,0⟩) _ ((m.o 1 O).tris Qw) (by decide)) (by rw[att])) ?_);rintro v u m rfl;apply aH 4 [0,0,1,0,0] m;simp only[↓U,aP,yH,aa];refine eP O (cK m O O (sA (Nq (ts:=Gg) (p:=⟨10,0,0⟩) (q:=⟨-10,0,0⟩) _ ((m.o 1 O).tris Qw) (by decide)) (by rw[atu])) ?_);rintro v u m rfl;apply aH 6 [0,0,0,1,0,0] m;simp only[↓U,aP,yH,f_,gd,aa];refine eP O (bF O O (Hw (ts:=Gg) (p:=⟨10,0,0⟩) (q:=⟨0,10,0⟩) _ ((m.o 1 O).tris Qw) (by decide)) ?_);rintro v u a ⟨s,cap2,n2,j,rfl,b⟩;replace m:=m.newO a b;obtain rfl:n2=6:=by rw[j];exact aoM
 apply aH 1 [0,0] m;simp only[↓U,gM];refine eP O (aD (zW O O rfl) ?_);apply lK 12 [0] m;simp only[↓U,yH,fB,aP,aa];intro C u m;apply Mr 8 [0,0] m;simp only[↓U,fB,aP,yH,aa];intro D E u m;apply Mr 11 [0,4,2] m;simp only[↓U,yH,fB,aP,aa];intro F u m;apply aT 5 [3,4,3,1] m;simp only[↓U,aP,qQ,aa];apply aT 5 [3,2,1] m;simp only[↓U,qQ,aP,aa];apply aT 4 [2,4,1,0] m;simp only[↓U,aP,qQ,aa];refine ahF O O O O ?_;intro u H a b d;replace m:=m.newB a b d;simp only[G];replace m:=m.own 0 O (n:=4) (c:=9) O (gS O);simp only[zG] at m;apply aH 2 [5,4,0] m;simp only[↓U,aP];refine cK m O O (sA (Nq (ts:=s1T) (p:=⟨0,0,0⟩) (q:=⟨9,0,0⟩) _ (((m.o 0 O).as (show _=s1T.flatMap aL from O)).tris avi) (by decide)) (by rw[avY])) ?_;rintro v u m rfl;apply aH 6 [0,5,0,4,0,3,0,0] m;simp only[↓U,aP,qQ,f_,gd,aa];refine eP O (fE O ?_);intro u I a b d;replace m:=m.newB a b d;simp only[G];replace m:=m.own 0 O (n:=1) (c:=9) O (gS O);simp only[zG] at m;apply aH 2 [0,6,0,5,0] m;simp only[↓U,aP];refine eP O (bF O O (Hw (ts:=s2T) (p:=⟨0,0,0⟩) (q:=⟨9,0,0⟩) _ (((m.o 0 O).as (show _=s2T.flatMap aL from O)).tris avj) (by decide)) ?_);rintro v u a ⟨t,L,g,k,rfl,b⟩;replace m:=m.newO a b;obtain rfl:g=0:=by rw[k];exact avZ
 apply aH 1 [0,0] m;simp only[↓U,gM];refine eP O (aD (zW O O rfl) ?_);apply aH 6 [0] m;simp only[↓U];refine bF O O (Vj (ts:=Gg) (want:=7) _ ((m.o 9 O).tris Qw) (by decide) (by decide)) ?_;rintro v u a ⟨x,h,z,y,i,A,rfl,l,f,e⟩;replace m:=m.plus e;clear e;simp only[cq,bz] at m;obtain rfl:h=6:=l.trans atv;rw[atw] at f m;obtain rfl:i=1:=f;apply aH 15 [0,0,0,0] m;simp only[↓U,gM];refine eP O (aD (zW O O rfl) ?_);apply aH 6 [0,0,0,0] m;simp only[↓U,yH,akz,aa];refine go (eP O (yF O ?_));intro u J a b d;replace m:=m.newB a b d;simp only[G];replace m:=m.own 0 O (n:=1) (c:=6) O (gS O);simp only[zG] at m;refine eP O (cK m O O (sA (adu (xs:=[(⟨-10,0,0⟩,⟨0,-10,0⟩)]) (ys:=[(⟨-10,0,0⟩,⟨0,-10,0⟩)]) _ ((m.o 1 O).lat Ly (by decide)) (((m.o 0 O).as (show _=([(⟨-10,0,0⟩,⟨0,-10,0⟩)]:List E3).flatMap cJ from O)).lat Ly (by decide)) (by decide)) (by rw[Y0 O])) ?_);rintro v u m rfl;apply aH 4 [] m;simp only[↓U];exact aS O O ⟨_,O,m.ext,O⟩
def cmN(ts:List T3)(p q:H)(k:Nat):Nat:=(((fS ts p).take k).filter λx=>decide (x∈fS ts q)).length
def av0{p:H}(h:(fS ts p)[k]? = X4 x)(a:decide (x∈fS ts q)=Z):cmN ts p q (k+1)=cmN ts p q k+1:=by unfold cmN;rw[bV h,gp,aq];simp[Y3 a]
def av1{p:H}(h:(fS ts p)[k]? = X4 x)(a:decide (x∈fS ts q)=X3):cmN ts p q (k+1)=cmN ts p q k:=by unfold cmN;rw[bV h,gp,aq];simp[Y9 a]
def amZ(ts:List T3)(p q:H):cmN ts p q (fS ts p).length=((fS ts p).filter λx=>decide (x∈fS ts q)).length:=by unfold cmN;rw[fq]
def avk(ts:List T3)(p q:H)(k:Nat):cmN ts p q k<=k:=by unfold cmN;exact be (List.length_filter_le _ _) (by rw[bj];omega)
def av2{v:H}(h:v∉fS l u):yO l u v=X3:=by unfold yO;rw[Y h];rfl
def av3{v:H}(h:Bt (bB l) u=Z):yO l u v=X3:=by unfold yO;rw[h];simp
def av4{v:H}(h:¬cmN l u v (fS l u).length=2):yO l u v=X3:=by rw[amZ] at h;unfold yO;rw[Y h];simp
def av5{v:H}(h:(rP (eD l u v)||Pq l u v)=Z):yO l u v=X3:=by
 unfold yO;rcases Bool.or_eq_true _ _ |>.mp h with h | h <;> rw[h] <;> simp
def av6{v:H}(h1:v∈fS l u)(h2:Bt (bB l) u=X3)(b:cmN l u v (fS l u).length=2)(a:(rP (eD l u v)||Pq l u v)=X3):yO l u v=acM l (eD l u v) u v:=by
 rw[amZ] at b;rw[Bool.or_eq_false_iff] at a;unfold yO;rw[Y0 h1,h2,Y0 b,a.1,a.2];rfl
def aix{p:H}[I3 p][W:I3 q](w:ak)(a:bW w A N ts)(hN:N<=1000000):cY prog 52 [.slice A N cap,pt p,pt q] w (λv _=>v=.bool (yO ts p q)):=by
 refine⟨bJ func52 (by kernel_rfl),?_⟩;have m:=Mem.refl w;have an:=a.len;have aj:=El ts p;have al:=El ts q;have C:∀t∈eD ts p q,IT t:=nI (Fv W a.it);have ag:=Ju p q ts;have ap:=Uo (p:=p) (q:=q) ts
 go_enter func52,ntmps52
 apply gH 10 [2,0] m;simp only[↓U,aP];intro J K u m;refine bF O O (Ve (p:=p) _ (a.ext m.ext) (by omega)) ?_;rintro v u c ⟨D,F,n7,S,rfl,d⟩;replace m:=m.newO c d;subst S;apply aH 4 [] m;simp only[↓U];by_cases e:q∈fS ts p
 .refine gc ?_;refine mh m [Z,Z,Z] [(0,Z),(1,Z),(2,X3),(3,Z),(4,Z),(5,Z),(7,Z),(6,X3),(8,X3),(9,Z)] aB (by kernel_rfl) (bS (λ_ _ _ _ _ h=>h)) (ol:=?_) ?j ?_
  case j=>simp only[zw,zQ,zR];try rfl
  intro u m;refine Fq 2 [2] ?_;simp only[↓U,aP];refine bO (cK m O O (sA (oP (p:=q) _ ((m.o 0 O).lat (enc:=bH) (λ_=>rfl) (by decide)) (by omega)) (by rw[Y0 e])) ?_);rintro v u m rfl;refine aI ⟨m,?_⟩;refine bG (pS O) (bG aJ (wY O (bG aJ ?_)));simp only[G];refine wY O (gW O (λu m=>((m.b 2 O).full aG aA)) ?_);simp only[G];refine bO (eP O (bF O O (abu _ (a.ext m.ext) (by omega)) ?_));rintro v u c ⟨bs,⟨A3,c3,n3,R,rfl,d⟩,r,ad⟩;replace m:=m.newO c d;subst R;refine aI ⟨m.sel [X3,Z,Z,Z],?_⟩;refine bO (eP O ?_);simp only[G];refine cK m O O (oP (p:=p) _ ((m.o 0 O).lat (enc:=bH) (λ_=>rfl) (by decide)) (by omega)) ?_;rintro v u m rfl;refine aI ⟨m.sel [X3,Z,Z,Z],?_⟩;refine bG (zX O) (bR (gc ?_));simp only[G];refine cL O ?_ ?_<;>intro f
  .rw[Zq r] at f;apply L 5 [] m;simp only[↓U];refine aS O O ?_;try simp only[zD,zE]
   exact⟨_,O,m.ext,by rw[av3 f]⟩
  rw[Zq r] at f;apply L 5 [3,0] m;simp only[↓U,aP];refine bF O O (Ve (p:=q) _ (a.ext m.ext) (by omega)) ?_;rintro v u c ⟨E,I,n8,T,rfl,d⟩;replace m:=m.newO c d;subst T;apply aH 12 [0] m;simp only[↓U];refine bT [9,10] [30,31,32,33,34,35,36,37,38,39,40,41,42,43] (λn vs P=>∃(k:Nat),vs=[X6 ((cmN ts p q k:Nat):Int),X6 (k:Int)]/\Mem w P [oI 30 3 E (fS ts q).length I ((fS ts q).flatMap bH),oI 30 3 D (fS ts p).length F ((fS ts p).flatMap bH),bI K [X6 q.x,X6 q.y,X6 q.z] 30,bI J [X6 p.x,X6 p.y,X6 p.z] 30]/\(k<=(fS ts p).length)/\(n=(fS ts p).length-k)) ?_ ?_
  .exact⟨_,0,O,(m.sel [Z,X3,Z,Z,Z]),bn _,O⟩
  intro n vs wr M u K1 l
  obtain⟨k,rfl,m,hk,hn⟩:=M;have aq:=avk ts p q k;simp only[zu,zF,zG];apply L 8 [0,0] m;simp only[↓U,gV];refine bC O ?_ ?_<;>intro ae
  .have Q:k<(fS ts p).length:=by omega
   obtain⟨x,g⟩:∃x,(fS ts p)[k]? = X4 x:=⟨_,am Q⟩
   obtain⟨g7,rfl⟩:=(m.o 1 rfl).some (by omega);apply L 10 [0,0,0] m;simp only[↓U,gG,ah,ai];refine⟨_,λu m=>(lA (v:=pt x) ((((m.o 1 O).lat (enc:=bH) (λ_=>rfl) (by decide)).at g).lies aG aA)),by omega,?_⟩;refine cK m O O (oP (p:=x) _ ((m.o 0 O).lat (enc:=bH) (λ_=>rfl) (by decide)) (by omega)) ?_;rintro v u m rfl;apply aH 1 [0] m;simp only[↓U];refine cL O ?_ ?_<;>intro s
   .have i:=av0 g s;apply L 11 [0] m;simp only[↓U];apply I0;omega;rw[show ((cmN ts p q k:Nat):Int)+1=((cmN ts p q (k+1):Nat):Int) by rw[i];rfl];exact l ((fS ts p).length-(k+1)) _ _ (by omega) (by kernel_rfl) ⟨k+1,O,m,by omega,O⟩
   have i:=av1 g s;apply L 7 [0] m;simp only[↓U];apply I0;omega;rw[<-i];exact l ((fS ts p).length-(k+1)) _ _ (by omega) (by kernel_rfl) ⟨k+1,O,m,by omega,O⟩
  obtain rfl:k=(fS ts p).length:=by omega
  apply L 7 [0,0] m;simp only[↓U];refine bC O ?_ ?_<;>intro af
  .have V:¬cmN ts p q (fS ts p).length=2:=by omega
   apply L 5 [] m;simp only[↓U];refine aS O O ?_;try simp only[zD,zE]
   exact⟨_,O,m.ext,by rw[av4 V]⟩
  have h2:cmN ts p q (fS ts p).length=2:=by omega
  apply L 6 [4,3,0] m;simp only[↓U,aP];refine bF O O (Pf (p:=p) (q:=q) _ (a.ext m.ext) (by omega)) ?_;rintro v u c ⟨aa,ab,ao,X,rfl,d⟩;replace m:=m.newO c d;subst X;apply aH 5 [0] m;simp only[↓U];refine cK m O O (amx _ ((m.o 0 O).tris C) (by omega)) ?_;rintro v u m rfl;apply aH 7 [5,4,0] m;simp only[↓U,aP];refine cK m O O (amy (p:=p) (q:=q) _ (a.ext m.ext) (by omega)) ?_;rintro v u m rfl;apply aH 9 [2,0] m;simp only[↓U];refine λ_=>?_;refine cL O ?_ ?_<;>intro B
  .apply L 5 [] m;simp only[↓U];refine aS O O ?_;try simp only[zD,zE]
   exact⟨_,O,m.ext,by rw[av5 B]⟩
  apply L 7 [5,4,0] m;simp only[↓U,aP];refine cK m O O (aiv (p:=p) (q:=q) _ (a.ext m.ext) ((m.o 0 O).tris C) (by omega) (by omega)) ?_;rintro v u m rfl;apply aH 3 [] m;simp only[↓U];refine aS O O ?_;try simp only[zD,zE]
  exact⟨_,O,m.ext,by rw[av6 e f h2 B]⟩
 refine gc ?_;refine mh m [Z,Z,Z] [(0,Z),(1,Z),(2,X3),(3,Z),(4,Z),(5,Z),(7,Z),(6,X3),(8,X3),(9,Z)] aB (by kernel_rfl) (bS (λ_ _ _ _ _ h=>h)) (ol:=?_) ?j ?_
 case j=>simp only[zw,zQ,zR];try rfl
 intro u m;refine Fq 2 [2] ?_;simp only[↓U,aP];refine bO (cK m O O (sA (oP (p:=q) _ ((m.o 0 O).lat (enc:=bH) (λ_=>rfl) (by decide)) (by omega)) (by rw[Y e])) ?_);rintro v u m rfl;refine aI ⟨m,?_⟩;refine bG (pS O) (bG aJ (afH O ?_));simp only[G];refine afH O (bO (Ps O (aI ?_)));refine⟨m,?_⟩;refine bO (Ps O (aI ?_));refine⟨m,?_⟩;refine bG (rQ O) ?_;simp only[G];refine bR ?_;apply aT 6 [] m;simp only[↓U];refine aS O O ?_;try simp only[zD,zE]
 exact⟨_,O,m.ext,by rw[av2 e]⟩
def apv(ps:List H):ps.map (jA [])=ps:=List.map_id'' (λ_=>rfl) ps
def atx{D:List Mv}{v:H}(a:u∉D.map (·.1)):(ps.map (jA D)).map (gK u v)=ps.map (jA (Ln D u v)):=by
 rw[List.map_map];exact List.map_congr_left λx _=>(alp a x).symm
def am0{Q:H->List Int}(h:∀x,(Q x).length=10)(u v x:H):(uF Q u v x).length=10:=by
 unfold uF;split
 .exact eY (h u) (h v)
 exact h x
def apw{Q:H->List Int}{B:Nat}(h:∀x,As B (Q x))(u v x:H):As (B+1) (uF Q u v x):=by
 unfold uF;split
 .exact Ff (h u) (h v)
 exact (h x).mono (Nat.le_succ B)
def aty{Q:H->List Int}{v:H}(a:∀x,(Q x).length=10)(c:ps.Nodup)(b:ps[k]? = X4 v):over (ps.flatMap (Bh Q)) (k*23+3) (qC (tF (Q u) (Q v)))=ps.flatMap (Bh (uF Q u v)):=aoP a (eY (a u) (a v)) c b
def adw{P:bt}{w0:ak}{S:List (Option Nat)}{E:ba}{g:Nat}{Q:H->List Int}{T:ba}(h:Ow w0 w S E 23 (X4 ⟨g,0,X5⟩) n cap (ps.flatMap (Bh Q)))(c:ps[k]? = X4 x)(a:∀x,(Q x).length=10)(b:eX P T Z)(hc:dO P T 20):dQ P w T (⟨g,k*23+3,X5⟩:Addr) (qV (Q x)):=by
 have h1:=(((h.lat (enc:=Bh Q) (Um a) (by decide)).at c).sub 3)
 rw[cS,cS,ai] at h1;have h2:kV w ⟨g,k*23+3,X5⟩ (qC (Q x)):=h1;exact h2.lies b (by rw[nW,a];exact hc)
def adx(l:List T3)(x:H):(nA l x).length=10:=by have:=oS (ts:=l) (p:=x) l.length (ar _);rwa [fq] at this
def apx(h:∀t∈l,IT t)(x:H):As (602+l.length) (nA l x):=by have:=Nh (p:=x) h l.length (ar _);rwa [fq] at this
def am1{Q:H->List Int}(h:c∈Sv l Q):c.u∈cF l/\c.v∈cF l/\c.u≠c.v:=by
 have h1:=(aaA.1 h).2.1;exact⟨(Ii h1).1,(Ii h1).2,λe=>(xF.1 h1).1 e.symm⟩
def apy  : ∀u∈ps.flatMap iD,u.oneCell'=Z:=λu a=>by
 obtain⟨x,_,h⟩:=List.mem_flatMap.1 a;simp only[iD,ap,cd,Z9] at h;rcases h with rfl | rfl | rfl <;> rfl
def ady{w0:ak}{S:List (Option Nat)}{E:ba}{g:Nat}{cs:List fX}(h:Ow w0 w S E 8 (X4 ⟨g,0,X5⟩) n cap (cs.flatMap jC))(hc:cs[k]? = X4 c):kV w ⟨g,k*8,X5⟩ (jC c):=by
 have:=(h.lat (enc:=jC) (λ_=>rfl) (by decide)).at hc;rwa [cS,ai] at this
def Wu(w:ak)(hT:bW w A N ts)(hN:N<=2000)(hw:0<=want):cY prog 25 [.slice A N cap,X6 want] w (λv w'=>∃i n1 c1 A2 n2 c2,v=.tuple #[.slice i n1 c1,.slice A2 n2 c2]/\n1=(lJ ts want).1.length/\n2=(lJ ts want).2.length/\Mem w w' [oI 55 6 A2 n2 c2 ((lJ ts want).2.flatMap cJ),oI 39 9 i n1 c1 ((lJ ts want).1.flatMap aL)]):=by
 refine⟨bJ func25 (by kernel_rfl),?_⟩;have m:=Mem.refl w;have b2:=hT.len;have bX:=jR ts;have hit:∀t∈aV ts,IT t:=nI hT.it;have bL:(aV ts).length<=2000:=by omega
 have b1:=wK (aV ts);have bA:=mF (aV ts)
 go_enter func25,ntmps25
 apply fF 8 [0] m;simp only[↓U];refine bF O O (Ek _ (hT.ext m.ext) (by omega)) ?_;rintro v u a ⟨i,E,n1,bv,rfl,d⟩;replace m:=m.newO a d;obtain rfl:n1=(aV ts).length:=by rw[bv,jR]
 apply aH 6 [0] m;simp only[↓U];refine cK m O O (aaY _ ((m.o 0 O).tris hit) (by omega)) ?_;rintro v u m rfl;apply aH 2 [0,0] m;simp only[↓U];refine bC O ?_ ?_<;>intro ay
 .apply L 6 [] m;simp only[↓U];replace m:=m.nilO 55 6;apply aT 1 [] m;simp only[↓U];exact wE O O O ⟨_,O,m.ext,_,_,_,_,_,_,O,by rw[Nv ay],by rw[Nv ay];rfl,by rw[Nv ay];exact m.sel [Z,Z]⟩
 have ad:fO Z (aV ts)=0:=by omega
 apply L 3 [0] m;simp only[↓U];refine aD aM ?_;replace m:=m.nilO 126 23;apply aH 4 [0] m;simp only[↓U];refine bF O O (My _ ((m.o 1 O).tris hit) (by omega)) ?_;rintro v u a ⟨A7,c7,n7,bw,rfl,d⟩;replace m:=m.newO a d;subst bw;apply aH 8 [0] m;simp only[↓U];refine bT [6,8] [28,29,30,31,32,33,34,35,36,37,38,39,40,41,42,43,44,45,46,47] (λn vs B=>∃(k:Nat) (A6:Option Addr) (ae:Nat),vs=[.slice A6 k ae,X6 (k:Int)]/\Mem w B [oI 30 3 A7 (aQ (aV ts)).length c7 ((aQ (aV ts)).flatMap iD),oI 126 23 A6 k ae (((aQ (aV ts)).take k).flatMap (Bh (nA (aV ts)))),oI 39 9 i (aV ts).length E ((aV ts).flatMap aL)]/\(k<=(aQ (aV ts)).length)/\(n=(aQ (aV ts)).length-k)) ?_ ?_
 .exact⟨_,0,_,_,O,m,bn _,O⟩
 intro n vs wr s u K1 bl
 obtain⟨k,A6,ae,rfl,m,hk,hn⟩:=s;simp only[zu,zF,zG];apply L 8 [0,0] m;simp only[↓U,gV];refine bC O ?_ ?_<;>intro bP
 .obtain⟨p,hp⟩:∃p,(aQ (aV ts))[k]? = X4 p:=⟨_,am (by omega)⟩
  obtain⟨g7,rfl⟩:=(m.o 0 rfl).some (by omega);obtain⟨a0,R,S,a3,a4,a5,T,V,W,a9,bd⟩:=als (adx (aV ts) p);apply L 3 [0] m;simp only[↓U];refine mh m [Z,X3,Z] [(0,Z),(1,Z),(2,Z),(3,Z),(5,Z),(6,Z),(7,Z),(8,Z),(4,Z),(9,Z),(10,X3),(11,Z),(12,X3),(13,X3),(14,Z)] aB (by kernel_rfl) (bS (λ_ _ _ _ _ h=>h)) (ol:=?_) ?an ?_
  case an=>simp only[zw,zQ,zR];try rfl
  intro u m;refine Fq 10 [0,0,0,0] ?_;simp only[↓U,↓cB,gG,ah,ai];refine⟨_,λu m=>(show dQ _ _ _ _ (pt p) from (mM (m.o 0 O) hp).lies aG aA),_,λu m=>(show dQ _ _ _ _ (pt p) from (mM (m.o 0 O) hp).lies aG aA),by omega,?_⟩;refine bO (cK m O O ((sA (alv (p:=p) _ ((m.o 2 O).tris hit) (by omega)) (show qV (nA (aV ts) p)=.agg #[.bool (dH a0),.string (eC a0),.bool (dH R),.string (eC R),.bool (dH S),.string (eC S),.bool (dH a3),.string (eC a3),.bool (dH a4),.string (eC a4),.bool (dH a5),.string (eC a5),.bool (dH T),.string (eC T),.bool (dH V),.string (eC V),.bool (dH W),.string (eC W),.bool (dH a9),.string (eC a9)] by rw[bd];rfl))) ?_);rintro v u m rfl;refine aI ⟨m.sel [Z,X3,Z],?_⟩;refine bG (Pm O O) (bO ?_);simp only[G];refine aeG O ?_;intro u g1 a d k_;replace m:=m.newB a d k_;refine aI ⟨m.sel [X3,Z,X3,Z],?_⟩;refine bO ?_;simp only[G];refine bN m 2 O O Mi anX O (by decide) O O O (m.b 0 O).rowsO (fN O) (by omega) (by omega) ?_;intro A6 ae u m;simp only[zF,zG] at m;rw[show ((aQ (aV ts)).take k).flatMap (Bh (nA (aV ts)))++_=((aQ (aV ts)).take (k+1)).flatMap (Bh (nA (aV ts))) by rw[bV hp,aw];show _=_++((bH p++qC (nA (aV ts) p))++[]);rw[bd];rfl] at m;refine aI ⟨m.sel [X3,Z,X3,Z],?_⟩;refine bG aM (bR ?_);apply aT 6 [0] m;simp only[↓U];apply I0;omega;exact bl ((aQ (aV ts)).length-(k+1)) _ _ (by omega) (by kernel_rfl) ⟨k+1,_,_,O,(m.sel [X3,Z,Z,Z]),by omega,O⟩
 obtain rfl:k=(aQ (aV ts)).length:=by omega
 rw[au (ar _)] at m;apply L 4 [0] m;simp only[↓U];refine bF O O (abu _ ((m.o 2 O).tris hit) (by omega)) ?_;rintro v u a ⟨bs,⟨A9,c9,n9,bx,rfl,d⟩,bp,bM⟩;replace m:=m.newO a d;subst bx;apply aH 4 [0] m;simp only[↓U];refine Qz eR (c:=3) (by kernel_rfl)  ?_;intro u g1 a d k_;replace m:=m.newB a d k_;simp only[G];replace m:=m.own 0 O (n:=0) (c:=3) O (gS O);simp only[zG] at m;apply aH 1 [0] m;simp only[↓U];refine bN m 0 O O eR mK O (by decide) O O (m.o 2 O).own.1 (m.o 2 O).row apy (by omega) (by omega) ?_;intro ab aj u m;simp only[zF,zG] at m;simp only[ai,bz] at m ⊢;rw[show oI 30 3 ab _ aj ((aQ (aV ts)).flatMap iD)=oI 30 3 ab _ aj ((((aQ (aV ts)).map (jA []))).flatMap iD) by rw[apv]] at m;apply aH 4 [0] m;simp only[↓U];refine bT [0] [11,12,13,14,15,16,17,53,54,55,56,57,58,59,60,61,62,63,64,65,66,67,68,69,70,71,72,73,74,75,76,77,78,79,80,81,82,83,84,85,86,87,88,89,90,91,92,93,94,95,96,97,98,99,100,101,102,103,104,105,106,107,108,109,110,111,112,113,114,115,116,117,118,119,120,121,122,123,124,125,126,127,128] (λn vs B=>∃(l:List T3) (Q:H->List Int) (D:List Mv) (i:Option Addr) (E:Nat),vs=[.slice i l.length E]/\Mem w B [oI 30 3 ab (aQ (aV ts)).length aj ((((aQ (aV ts)).map (jA D))).flatMap iD),oI 30 3 A9 bs.length c9 (bs.flatMap bH),oI 30 3 A7 (aQ (aV ts)).length c7 ((aQ (aV ts)).flatMap iD),oI 126 23 A6 (aQ (aV ts)).length ae ((aQ (aV ts)).flatMap (Bh Q)),oI 39 9 i l.length E (l.flatMap aL)]/\(Wp (aV ts) l D)/\(kN (aV ts).length want (aV ts) (nA (aV ts)) []=kN l.length want l Q D)/\(∀x,(Q x).length=10)/\(∀x,As (602+2*(aV ts).length-l.length) (Q x))/\(∀t∈l,IT t)/\(l.length<=(aV ts).length)/\(n=l.length)) ?_ ?_
 .exact⟨_,(aV ts),(nA (aV ts)),[],_,_,O,m,Wp.zero ad,O,adx _,(λx=>(apx hit x).mono (by omega)),hit,ar _,O⟩
 intro n vs wr s u K2 bm
 obtain⟨l,Q,D,i,E,rfl,m,F,Y,r,av,ag,bY,hn⟩:=s;simp only[zu,zF,zG];apply L 8 [0,0] m;simp only[↓U,gM];refine bC O ?_ ?_<;>intro bQ
 .apply L 7 [0] m;simp only[↓U];refine bF O O (air (Q:=Q) (ps:=(aQ (aV ts))) (bs:=bs) _ ((m.o 4 O).tris ag) (by omega) ((m.o 3 O).lat (enc:=Bh Q) (Um r) (by decide)) (by omega) ((m.o 1 O).lat (enc:=bH) (λ_=>rfl) (by decide)) (by omega) (F.acc.rim▸bp) (λx hx=>gU.2 (F.acc.sub x hx)) r (λx=>(av x).mono (by omega))) ?_;rintro v u a ⟨cs,⟨bg,aO,b3,bD,rfl,d⟩,az,bt,b6⟩;replace m:=m.newO a d;subst bD;apply aH 12 [0] m;simp only[↓U];refine bT [0,12,13] [14,15,16,17,61,62,63,64,65,66,67,68,69,70,71,72,73,74,75,76,77,78,79,80,81,82,83,84,85,86,87,88,89,90,91,92,93,94,95,96,97,98,99,100,101,102,103,104,105,106,107,108,109,110,111,112,113,114,115,116,117,118,119,120,121,122,123,124,125,126] (λn vs B=>∃(k:Nat) (bo:Bool) (M:List T3) (Q1:H->List Int) (D1:List Mv) (i:Option Addr) (E:Nat),vs=[.slice i M.length E,.bool bo,X6 (k:Int)]/\Mem w B [oI 130 8 bg cs.length aO (cs.flatMap jC),oI 30 3 ab (aQ (aV ts)).length aj ((((aQ (aV ts)).map (jA D1))).flatMap iD),oI 30 3 A9 bs.length c9 (bs.flatMap bH),oI 30 3 A7 (aQ (aV ts)).length c7 ((aQ (aV ts)).flatMap iD),oI 126 23 A6 (aQ (aV ts)).length ae ((aQ (aV ts)).flatMap (Bh Q1)),oI 39 9 i M.length E (M.flatMap aL)]/\(tW l Q D cs k bo M Q1 D1)/\(k<=cs.length)/\(n=cs.length-k)) ?_ ?_
  .exact⟨_,0,X3,l,Q,D,_,_,O,m,tW.start _ _ _ _,bn _,O⟩
  intro n vs wr s u K3 aW
  obtain⟨k,bo,M,Q1,D1,i,E,rfl,m,hM,hk,bZ⟩:=s;simp only[zu,zF,zG];apply L 10 [0,3,0] m;simp only[↓U,↓cB,akF];refine λ_=>?_;refine cL O ?_ ?_<;>intro a2
  .obtain⟨bu,rfl⟩:k<cs.length/\bo=X3:=by cases bo <;> simp at a2 ⊢ <;> omega
   obtain⟨e1,e2,e3,ba⟩:=hM.no;subst M;subst Q1;subst D1;obtain⟨c,hc⟩:∃c,cs[k]? = X4 c:=⟨_,am bu⟩
   obtain⟨bk,rfl⟩:=(m.o 0 rfl).some (by omega);have P:=am1 ((az c).1 (bf hc));haveI:=uM ag P.1;haveI:=uM ag P.2.1;have bb:=gU.2 (F.acc.sub _ P.1);have bc:=gU.2 (F.acc.sub _ P.2.1);have a8:=abv bb;have aE:=abv bc;have b7:=(ao.1 a8).1;have b8:=(ao.1 aE).1;apply xI 11 [0,0] m;simp only[↓U,↓cB,Tm,Tn,fB,ah,ai,aa];refine⟨_,λu m=>(show dQ _ _ _ _ (pt c.u) from ((ady (m.o 0 O) hc).take 3).lies aG aA),λg2=>⟨by omega,?_⟩⟩;intro u m;apply Mr 9 [0,0,0] m;simp only[↓U,↓cB,aP,Tm,acy,aa,ah,ai];refine⟨_,λu m=>(show dQ _ _ _ _ (pt c.v) from (((ady (m.o 1 O) hc).sub 3).take 3).lies aG aA),by omega,?_⟩;intro u m;apply Mr 7 [0,2] m;simp only[↓U,↓cB,fB,aP,aa];intro g3 u m;apply aT 1 [1,0] m;simp only[↓U,↓cB,aP];refine cK m O O ((sA (aix (p:=c.u) (q:=c.v) _ ((m.o 7 O).tris ag) (by omega)) (by rw[aba F.ck P.2.2]))) ?_;rintro v u m rfl;apply aH 8 [0] m;simp only[↓U];refine cL O ?_ ?_<;>intro a6
   .have ha:cH l c.u c.v=X3:=by simpa using a6
    rw[ha];apply L 6 [0] m;simp only[↓U];apply I0;omega;exact aW (cs.length-(k+1)) _ _ (by omega) (by kernel_rfl) ⟨k+1,X3,l,Q,D,_,_,O,(m.sel [X3,X3,Z,Z,Z,Z,Z,Z]),tW.skip ba hc ha,(by omega),O⟩
   have ha:cH l c.u c.v=Z:=by simpa using a6
   rw[ha];obtain⟨g6,rfl⟩:=(m.o 6 rfl).some (by omega);obtain⟨a0,R,S,a3,a4,a5,T,V,W,a9,be⟩:=als (eY (r c.u) (r c.v));apply L 6 [2,1,0] m;simp only[↓U,↓cB,aP];refine bF O O (Pf (p:=c.u) (q:=c.v) _ ((m.o 7 O).tris ag) (by omega)) ?_;rintro v u a ⟨bh,bi,b4,bE,rfl,d⟩;replace m:=m.newO a d;subst bE;refine aD aM ?_;simp only[G];replace m:=(m.pull 0 O).mv 7 O;simp only[dZ,eA,zF,zG] at m;apply aH 5 [1,0] m;simp only[↓U,↓cB,aP];refine cK m O O (Qu (p:=c.v) (Q:=Q) _ ((m.o 6 O).lat (enc:=Bh Q) (Um r) (by decide)) (by omega) bc) ?_;rintro v u m rfl;apply aH 3 [0] m;simp only[↓U];refine al8 m [Z,Z,Z,Z,Z,Z,Z,Z] [17] (.take 0 (.take 1 (.take 2 (.take 3 (.take 4 (.take 9 (.take 10 (.take 11 (.take 12 (.take 13 (.one 5 (.take 6 (.take 7 (.take 8 (.one 14 (.take 15 (.take 16 (.one 17 .nil)))))))))))))))))) aB (by kernel_rfl) (bS (λ_ _ _ _ _ h=>h)) ?_;intro u m;refine eW (by simp only[zw];rfl) (bG aJ (bR (eW (by simp only[zw];rfl) (bG aJ (bR (eW (by simp only[zw];rfl) (bG aJ (bR (eW (by simp only[zw];rfl) (bG aJ ?_))))))))));simp only[G];refine bR (eW (by simp only[zw];rfl) (gW rfl (λu m=>((m.b 1 rfl).full aG aA)) ?_));simp only[G];refine bR (eW (by simp only[zw];rfl) (bG aJ (bR (eW (by simp only[zw];rfl) (bG aJ (bR (eW (by simp only[zw];rfl) ?_)))))));simp only[G];refine bG (aR Mi Fi O O (by omega) (by omega) (Ha (ah _))) (bR (eW (by simp only[zw];rfl) (bG (aU (c:=19) underlying126 rfl dA rfl rfl) (bR (eW (by simp only[zw];rfl) ?_)))));simp only[G];refine gW O (λu m=>(adw (m.o 6 O) aE r kR dA)) ?_;simp only[G];refine bR (qZ (by simp only[zw];rfl) ?_);refine cK m O O (Qu (p:=c.u) (Q:=Q) _ ((m.o 6 O).lat (enc:=Bh Q) (Um r) (by decide)) (by omega) bb) ?_;rintro v u m rfl;refine aI ⟨λ_=>m,?_⟩;refine eW (by simp only[zw];rfl) ?_;simp only[G];refine bG (aR Mi Fi O O (by omega) (by omega) (Ha (ah _))) (bR (eW (by simp only[zw];rfl) (bG (aU (c:=19) underlying126 rfl dA rfl rfl) (bR (eW (by simp only[zw];rfl) ?_)))));simp only[G];refine gW O (λu m=>(adw (m.o 6 O) a8 r kR dA)) ?_;simp only[G];refine bR (qZ (by simp only[zw];rfl) ?_);refine jG m O O ((show dF prog 75 [qV (Q c.u),qV (Q c.v)] (.agg #[.bool (dH a0),.string (eC a0),.bool (dH R),.string (eC R),.bool (dH S),.string (eC S),.bool (dH a3),.string (eC a3),.bool (dH a4),.string (eC a4),.bool (dH a5),.string (eC a5),.bool (dH T),.string (eC T),.bool (dH V),.string (eC V),.bool (dH W),.string (eC W),.bool (dH a9),.string (eC a9)]) from (show qV (tF (Q c.u) (Q c.v))=.agg #[.bool (dH a0),.string (eC a0),.bool (dH R),.string (eC R),.bool (dH S),.string (eC S),.bool (dH a3),.string (eC a3),.bool (dH a4),.string (eC a4),.bool (dH a5),.string (eC a5),.bool (dH T),.string (eC T),.bool (dH V),.string (eC V),.bool (dH W),.string (eC W),.bool (dH a9),.string (eC a9)] by rw[be];rfl)▸Un (r c.u) (r c.v) (av c.u) (av c.v) (by omega))) ?_;intro u m;refine aI ⟨λ_=>m,?_⟩;refine eW (by simp only[zw];rfl) ?_;simp only[G];refine bG (aR Mi Fi O O (by omega) (by omega) (Ha (ah _))) (bR (eW (by simp only[zw];rfl) (bG (aU (c:=19) underlying126 rfl dA rfl rfl) (bR (qZ (by simp only[zw];rfl) ?_)))));simp only[G];refine Jb m 6 O O O dA (by simp;omega) rfl ?_;intro u m;simp only[zF,zG] at m;rw[show over ((aQ (aV ts)).flatMap (Bh Q)) (fnd (aQ (aV ts)) c.v*23+_) _=(aQ (aV ts)).flatMap (Bh (uF Q c.u c.v)) from (by have h:=aty (u:=c.u) r bA aE;rw[be] at h;exact h)] at m;refine aI ⟨λh=>Z8 (by decide) h,?_⟩;refine ac2 ?_;apply aT 5 [0] m;simp only[↓U];refine bT [17] [111,112,113,114,115,116,117,118,119,120,121,122,123,124,125,126] (λn vs B=>∃(j:Nat),vs=[X6 (j:Int)]/\Mem w B [bI g3 [X6 c.v.x,X6 c.v.y,X6 c.v.z] 30,bI g2 [X6 c.u.x,X6 c.u.y,X6 c.u.z] 30,oI 130 8 (X4 ⟨bk,0,X5⟩) cs.length aO (cs.flatMap jC),oI 30 3 ab (aQ (aV ts)).length aj ((toJ c.u c.v (((aQ (aV ts)).map (jA D))) j).flatMap iD),oI 30 3 A9 bs.length c9 (bs.flatMap bH),oI 30 3 A7 (aQ (aV ts)).length c7 ((aQ (aV ts)).flatMap iD),oI 126 23 (X4 ⟨g6,0,X5⟩) (aQ (aV ts)).length ae ((aQ (aV ts)).flatMap (Bh (uF Q c.u c.v))),oI 39 9 bh (eD l c.u c.v).length bi ((eD l c.u c.v).flatMap aL)]/\(j<=(aQ (aV ts)).length)/\(n=(aQ (aV ts)).length-j)) ?_ ?_
   .exact⟨_,0,O,m,bn _,O⟩
   intro n vs wr s u K4 aX
   obtain⟨j,rfl,m,hj,b0⟩:=s;simp only[zu,zF,zG];apply L 8 [0,0] m;simp only[↓U,gV];refine bC O ?_ ?_<;>intro bU
   .obtain⟨x,hx⟩:∃x,(((aQ (aV ts)).map (jA D)))[j]? = X4 x:=⟨_,am (by rw[cj];omega)⟩
    obtain⟨aS,rfl⟩:=(m.o 3 rfl).some (by omega);have bB:=alq (u:=c.u) (v:=c.v) hx;apply L 4 [0] m;simp only[↓U];refine mq m aB (by kernel_rfl) (cX 6 [0,0,2] ?_);simp only[↓U,↓cB,gG,aP,ah,ai];refine⟨_,λu m=>(show dQ _ _ _ _ (pt x) from (mM (m.o 3 O) bB).lies aG aA),_,eQ,by omega,?_⟩;refine aZ ?_;intro u m;refine gc (bC O (λal=>?_) (λal=>?_))
    .have aN:x=c.u:=H.eq al.1 al.2.1 al.2.2;apply L 5 [1,0] m;simp only[↓U,↓cB,aP,gG,ah,ai];apply I0;omega;refine Jb m 3 O O O aA (by simp;omega) rfl ?_;intro u m;simp only[zF,zG] at m;rw[show over ((toJ c.u c.v (((aQ (aV ts)).map (jA D))) j).flatMap iD) (j*3) _=(toJ c.u c.v (((aQ (aV ts)).map (jA D))) (j+1)).flatMap iD by rw[acQ hx,aN,kB];exact Hv (enc:=iD) (c:=3) (λ_=>rfl) (by rw[agC];exact (ao.1 hx).1)] at m;apply aH 7 [0] m;simp only[↓U];apply I0;omega;exact aX ((aQ (aV ts)).length-(j+1)) _ _ (by omega) (by kernel_rfl) ⟨j+1,O,m,(by omega),O⟩
    have aN:x≠c.u:=λh=>al (by rw[h];exact⟨O,O,O⟩);rw[<-alr (v:=c.v) hx aN] at m;apply L 7 [0] m;simp only[↓U];apply I0;omega;exact aX ((aQ (aV ts)).length-(j+1)) _ _ (by omega) (by kernel_rfl) ⟨j+1,O,m,(by omega),O⟩
   rw[aoQ _ _ _ (by rw[cj];omega),atx (F.fresh P.1)] at m;apply L 7 [0] m;simp only[↓U];apply I0;omega;exact aW (cs.length-(k+1)) _ _ (by omega) (by kernel_rfl) ⟨k+1,Z,(eD l c.u c.v),(uF Q c.u c.v),(Ln D c.u c.v),_,_,O,(m.sel [X3,X3,Z,Z,Z,Z,Z,Z]),tW.put az bt ba hc ha _,(by omega),O⟩
  have br:bo=X3->cs.length<=k:=λe=>by subst e;simpa using a2
  apply L 6 [0] m;simp only[↓U];refine cL O ?_ ?_<;>intro a7
  .obtain rfl:bo=X3:=by simpa using a7
   have bK:=hM.none az (br rfl);obtain⟨e1,e2,e3,_⟩:=hM.no;subst M;subst Q1;subst D1;have af:=Ll (l:=l) (want:=want) (Q:=Q) (D:=D) (.inr bK);apply L 3 [0] m;simp only[↓U];refine aD aM ?_;replace m:=m.nilO 55 6;apply aH 7 [0] m;simp only[↓U];refine bT [18,19] [129,130,131,132,133,134,135,136,137,138,139,140,141,142,143,144,145,146,147,148,149,150,151,152,153,154,155] (λn vs B=>∃(k:Nat) (I:Option Addr) (K:Nat),vs=[.slice I (jW ((aQ (aV ts)).take k) (jA D)).length K,X6 (k:Int)]/\Mem w B [oI 55 6 I (jW ((aQ (aV ts)).take k) (jA D)).length K ((jW ((aQ (aV ts)).take k) (jA D)).flatMap cJ),oI 30 3 ab (aQ (aV ts)).length aj ((((aQ (aV ts)).map (jA D))).flatMap iD),oI 30 3 A7 (aQ (aV ts)).length c7 ((aQ (aV ts)).flatMap iD),oI 39 9 i l.length E (l.flatMap aL)]/\(k<=(aQ (aV ts)).length)/\(n=(aQ (aV ts)).length-k)) ?_ ?_
   .exact⟨_,0,_,_,O,(m.sel [Z,X3,Z,X3,Z,X3,Z]),bn _,O⟩
   intro n vs wr s u K5 aY
   obtain⟨k,I,K,rfl,m,hk,hn⟩:=s;simp only[zu,zF,zG];apply L 8 [0,0] m;simp only[↓U,gV];refine bC O ?_ ?_<;>intro bq
   .obtain⟨p,hp⟩:∃p,(aQ (aV ts))[k]? = X4 p:=⟨_,am (by omega)⟩
    have ap:(((aQ (aV ts)).map (jA D)))[k]? = X4 (jA D p):=by rw[fi,hp];rfl
    obtain⟨g7,rfl⟩:=(m.o 2 rfl).some (by omega);obtain⟨aS,rfl⟩:=(m.o 1 rfl).some (by omega);have C:=acR (f:=jA D) hp;apply L 4 [0] m;simp only[↓U];refine mq m aB (by kernel_rfl) (cX 9 [0,0,0,0] ?_);simp only[↓U,↓cB,gG,ah,ai];refine⟨_,λu m=>(show dQ _ _ _ _ (pt (jA D p)) from (mM (m.o 1 O) ap).lies aG aA),_,λu m=>(show dQ _ _ _ _ (pt p) from (mM (m.o 2 O) hp).lies aG aA),_,lQ,by omega,?_⟩;refine aZ ?_;intro u m;refine gc (bC O (λg=>?_) (λg=>?_))
    .rw[X λh=>g (by rw[h];exact⟨O,O,O⟩)] at C;refine mh m [X3,Z,Z,Z] [(0,Z),(1,Z),(2,Z),(3,Z),(5,Z),(6,Z),(7,Z),(4,Z),(8,Z),(9,Z),(10,X3),(11,X3),(12,Z)] aB (by kernel_rfl) (bS (λ_ _ _ _ _ h=>h)) (ol:=?_) ?an ?_
     case an=>simp only[zw,zQ,zR];try rfl
     intro u m;refine Fq 10 [0,0,0,0] ?_;simp only[↓U,↓cB,gG,akz,ah,ai,aa];refine⟨_,λu m=>(show dQ _ _ _ _ (pt p) from (mM (m.o 1 O) hp).lies aG aA),_,λu m=>(show dQ _ _ _ _ (pt (jA D p)) from (mM (m.o 0 O) ap).lies aG aA),by omega,?_⟩;refine bO (yF O ?_);intro u g2 a d k_;replace m:=m.newB a d k_;refine aI ⟨m.sel [X3,X3,Z,Z,Z],?_⟩;refine bO ?_;simp only[G];refine bN m 1 O O underlying46 aaD O (by decide) O O O (m.b 0 O).rowsO (fN O) (by have:=Qk ((aQ (aV ts)).take k) (jA D);rw[bj] at this;omega) (by have:=Qk ((aQ (aV ts)).take k) (jA D);rw[bj] at this;omega) ?_;intro I K u m;simp only[zF,zG] at m;rw[show (jW ((aQ (aV ts)).take k) (jA D)).flatMap cJ++_=(jW ((aQ (aV ts)).take (k+1)) (jA D)).flatMap cJ by rw[C,aw];rfl] at m;refine aI ⟨m.sel [X3,X3,Z,Z,Z],?_⟩;refine bG aM (bR ?_);apply aT 6 [0] m;simp only[↓U];apply I0;omega;have aK:(jW ((aQ (aV ts)).take k) (jA D)).length+1=(jW ((aQ (aV ts)).take (k+1)) (jA D)).length:=by rw[C,aq];rfl
     rw[aK] at m ⊢;exact aY ((aQ (aV ts)).length-(k+1)) _ _ (by omega) (by kernel_rfl) ⟨k+1,_,_,O,(m.sel [X3,Z,Z,Z,Z]),by omega,O⟩
    have g:=Classical.not_not.1 g;rw[J (H.eq g.1 g.2.1 g.2.2)] at C;apply L 7 [0] m;simp only[↓U];apply I0;omega;rw[<-C] at m ⊢;exact aY ((aQ (aV ts)).length-(k+1)) _ _ (by omega) (by kernel_rfl) ⟨k+1,_,_,O,m,by omega,O⟩
   rw[show (aQ (aV ts)).take k=(aQ (aV ts)) from au (by omega),Zh F] at m ⊢;apply L 9 [] m;simp only[↓U];exact wE O O O ⟨_,O,m.ext,_,_,_,_,_,_,O,by rw[kI ad (Y.trans af)],by rw[kI ad (Y.trans af)],by rw[kI ad (Y.trans af)];exact m.sel [Z,X3,X3,Z]⟩
  obtain rfl:bo=Z:=by simpa using a7
  obtain⟨c,ax,e1,e2,e3⟩:=hM.yes;subst M;subst Q1;subst D1;have b5:=pJ ax;have P:=am1 (Fe ax).1;apply L 2 [0] m;simp only[↓U];exact bm ((eD l c.u c.v).length) _ _ (by omega) (by kernel_rfl) ⟨(eD l c.u c.v),(uF Q c.u c.v),(Ln D c.u c.v),_,_,O,(m.sel [X3,Z,Z,Z,Z,Z]),F.step (Fe ax).2,Y.trans (Zr hw (by omega) ax),am0 r _ _,(λx=>(apw av _ _ x).mono (by omega)),(nI (Fv (uM ag P.2.1) ag)),(by omega),O⟩
 have af:=Ll (l:=l) (want:=want) (Q:=Q) (D:=D) (.inl (by omega));apply L 3 [0] m;simp only[↓U];refine aD aM ?_;replace m:=m.nilO 55 6;apply aH 7 [0] m;simp only[↓U];refine bT [18,19] [129,130,131,132,133,134,135,136,137,138,139,140,141,142,143,144,145,146,147,148,149,150,151,152,153,154,155] (λn vs B=>∃(k:Nat) (I:Option Addr) (K:Nat),vs=[.slice I (jW ((aQ (aV ts)).take k) (jA D)).length K,X6 (k:Int)]/\Mem w B [oI 55 6 I (jW ((aQ (aV ts)).take k) (jA D)).length K ((jW ((aQ (aV ts)).take k) (jA D)).flatMap cJ),oI 30 3 ab (aQ (aV ts)).length aj ((((aQ (aV ts)).map (jA D))).flatMap iD),oI 30 3 A7 (aQ (aV ts)).length c7 ((aQ (aV ts)).flatMap iD),oI 39 9 i l.length E (l.flatMap aL)]/\(k<=(aQ (aV ts)).length)/\(n=(aQ (aV ts)).length-k)) ?_ ?_
 .exact⟨_,0,_,_,O,(m.sel [Z,Z,X3,Z,X3,Z]),bn _,O⟩
 intro n vs wr s u K6 a1
 obtain⟨k,I,K,rfl,m,hk,hn⟩:=s;simp only[zu,zF,zG];apply L 8 [0,0] m;simp only[↓U,gV];refine bC O ?_ ?_<;>intro bq
 .obtain⟨p,hp⟩:∃p,(aQ (aV ts))[k]? = X4 p:=⟨_,am (by omega)⟩
  have ap:(((aQ (aV ts)).map (jA D)))[k]? = X4 (jA D p):=by rw[fi,hp];rfl
  obtain⟨g7,rfl⟩:=(m.o 2 rfl).some (by omega);obtain⟨aS,rfl⟩:=(m.o 1 rfl).some (by omega);have C:=acR (f:=jA D) hp;apply L 4 [0] m;simp only[↓U];refine mq m aB (by kernel_rfl) (cX 9 [0,0,0,0] ?_);simp only[↓U,↓cB,gG,ah,ai];refine⟨_,λu m=>(show dQ _ _ _ _ (pt (jA D p)) from (mM (m.o 1 O) ap).lies aG aA),_,λu m=>(show dQ _ _ _ _ (pt p) from (mM (m.o 2 O) hp).lies aG aA),_,lQ,by omega,?_⟩;refine aZ ?_;intro u m;refine gc (bC O (λg=>?_) (λg=>?_))
  .rw[X λh=>g (by rw[h];exact⟨O,O,O⟩)] at C;refine mh m [X3,Z,Z,Z] [(0,Z),(1,Z),(2,Z),(3,Z),(5,Z),(6,Z),(7,Z),(4,Z),(8,Z),(9,Z),(10,X3),(11,X3),(12,Z)] aB (by kernel_rfl) (bS (λ_ _ _ _ _ h=>h)) (ol:=?_) ?an ?_
   case an=>simp only[zw,zQ,zR];try rfl
   intro u m;refine Fq 10 [0,0,0,0] ?_;simp only[↓U,↓cB,gG,akz,ah,ai,aa];refine⟨_,λu m=>(show dQ _ _ _ _ (pt p) from (mM (m.o 1 O) hp).lies aG aA),_,λu m=>(show dQ _ _ _ _ (pt (jA D p)) from (mM (m.o 0 O) ap).lies aG aA),by omega,?_⟩;refine bO (yF O ?_);intro u g2 a d k_;replace m:=m.newB a d k_;refine aI ⟨m.sel [X3,X3,Z,Z,Z],?_⟩;refine bO ?_;simp only[G];refine bN m 1 O O underlying46 aaD O (by decide) O O O (m.b 0 O).rowsO (fN O) (by have:=Qk ((aQ (aV ts)).take k) (jA D);rw[bj] at this;omega) (by have:=Qk ((aQ (aV ts)).take k) (jA D);rw[bj] at this;omega) ?_;intro I K u m;simp only[zF,zG] at m;rw[show (jW ((aQ (aV ts)).take k) (jA D)).flatMap cJ++_=(jW ((aQ (aV ts)).take (k+1)) (jA D)).flatMap cJ by rw[C,aw];rfl] at m;refine aI ⟨m.sel [X3,X3,Z,Z,Z],?_⟩;refine bG aM (bR ?_);apply aT 6 [0] m;simp only[↓U];apply I0;omega;have aK:(jW ((aQ (aV ts)).take k) (jA D)).length+1=(jW ((aQ (aV ts)).take (k+1)) (jA D)).length:=by rw[C,aq];rfl
   rw[aK] at m ⊢;exact a1 ((aQ (aV ts)).length-(k+1)) _ _ (by omega) (by kernel_rfl) ⟨k+1,_,_,O,(m.sel [X3,Z,Z,Z,Z]),by omega,O⟩
  have g:=Classical.not_not.1 g;rw[J (H.eq g.1 g.2.1 g.2.2)] at C;apply L 7 [0] m;simp only[↓U];apply I0;omega;rw[<-C] at m ⊢;exact a1 ((aQ (aV ts)).length-(k+1)) _ _ (by omega) (by kernel_rfl) ⟨k+1,_,_,O,m,by omega,O⟩
 rw[show (aQ (aV ts)).take k=(aQ (aV ts)) from au (by omega),Zh F] at m ⊢;apply L 9 [] m;simp only[↓U];exact wE O O O ⟨_,O,m.ext,_,_,_,_,_,_,O,by rw[kI ad (Y.trans af)],by rw[kI ad (Y.trans af)],by rw[kI ad (Y.trans af)];exact m.sel [Z,X3,X3,Z]⟩
end Go.Proofs.YtfekpcimgncioaaGreatDoor
namespace Go.Lith
open Go.RowKit
def Pr(e:Nat):List Nat :=
 let v:=e%8
 let p:=[2*(v%2),v / 2%2*2,v / 4*2]
 p.set (e / 8) ((p.getD (e / 8) 0)+1)
def apz(v a:Nat):Nat:=(if v / 2^a%2=1 then v-2^a else v)+8*a
end Go.Lith
namespace Go.Proofs.YtfekpcimgncioaaGreatDoor
open Go.Proofs.Tryz
open Go.RowKit Go.Lith
set_option maxRecDepth 100000
attribute [local irreducible] wpList cw fW bX cP Code.wp
attribute [local congr] dK dL cR dJ
variable{a x k i N cap g3 n ci c:Nat}{w w0:ak}{ts:List T3}{A:Option Addr}{K:It}{zs:List Int}{t:T3}{at0 ax:Int}
def Vl:IntKind.i64.wrap (1*2^min (kj 2) IntKind.i64.bits)=4:=by decide
section
variable {P:bt} {l:List aj} {x y:Operand} {T T' ty:ba} {k:IntKind} {m n r:Int}
def am2(b:ev l x=.int k m)(c:ev l y=.int k n)(hr:k.wrap ((eo k.bits m &&& ~~~ eo k.bits n).toNat:Int)=r):iB P l (.binOp .andNot T x y T') ty (.int k r):=λw o a _=>by
 subst hr;simp[execOp,a,cN,b,c,eqGuard,binOp,Op.intBits]
end
def aqv(h:a<3):IntKind.i64.wrap (1*2^min (kj (a:Int)) IntKind.i64.bits)=((2^a:Nat):Int):=by
 rcases a with _ | _ | _ | a <;> first | rfl | omega
def evN(v a:Nat):Nat:=if v / 2^a%2=1 then v-2^a else v
def am3(v a:Nat):evN v a<=v:=by unfold evN;split;exact Nat.sub_le ..;exact ar _
def avm{v:Nat}(b:v<8)(h:a<3):IntKind.i64.wrap ((eo IntKind.i64.bits (v:Int) &&& ~~~ eo IntKind.i64.bits ((2^a:Nat):Int)).toNat:Int)=((evN v a:Nat):Int):=by
 rcases a with _ | _ | _ | a <;> rcases v with _ | _ | _ | _ | _ | _ | _ | _ | v <;> first | rfl | omega
def avn(v a:Nat):((evN v a:Nat):Int)+8*(a:Int)=((apz v a:Nat):Int):=by rw[show apz v a=evN v a+8*a from rfl];omega
def yW{y z:Nat}(a:x<=100)(b:y<=100)(c:z<=100):dF prog 144 [X6 2,X6 (x:Int),X6 (y:Int),X6 (z:Int)] (X6 (((z*5+y)*5+x:Nat):Int)):=by
 intro w;refine⟨bJ func144 (by kernel_rfl),?_⟩;have m:=Mem.refl w
 go_enter func144,ntmps144
 apply fF 7 [0] m;simp only[↓U];refine aD (rF O O (by omega) Vl) ?_;apply aH 17 [] m;simp only[↓U];apply I0;omega;refine aS O O ?_;try simp only[zD,zE]
 exact⟨_,O,m.ext,by simp⟩
def En{v:Nat}(c:v<8)(b:a<3):dF prog 287 [X6 (v:Int),X6 (a:Int)] (X6 ((apz v a:Nat):Int)):=by
 intro w;refine⟨bJ func287 (by kernel_rfl),?_⟩;have m:=Mem.refl w;have d:=am3 v a
 go_enter func287,ntmps287
 apply fF 8 [0] m;simp only[↓U];refine aD (rF O O (by omega) (aqv b)) ?_;simp only[G];refine aD (am2 O O (avm c b)) ?_;simp only[G];apply aH 6 [] m;simp only[↓U];apply I0;omega;refine aS O O ?_;try simp only[zD,zE]
 exact⟨_,O,m.ext,by rw[<-avn]⟩
def atz(h:k<8):IntKind.i64.wrap (eo IntKind.i64.bits (k:Int) &&& eo IntKind.i64.bits 2).toNat=((k / 2%2*2:Nat):Int):=by
 rcases k with _ | _ | _ | _ | _ | _ | _ | _ | k <;> first | rfl | omega
def plV(e:Nat):aj:=.agg #[X6 (((Pr e).getD 0 0:Nat):Int),X6 (((Pr e).getD 1 0:Nat):Int),X6 (((Pr e).getD 2 0:Nat):Int)]
def avo{e:Nat}(h:e<24):(Pr e).getD 0 0<=3/\(Pr e).getD 1 0<=3/\(Pr e).getD 2 0<=3:=by
 have:∀e,e<24->(Pr e).getD 0 0<=3/\(Pr e).getD 1 0<=3/\(Pr e).getD 2 0<=3:=by decide
 exact this e h
def avp{e:Nat}(h:e<24):0<=([2*((e%8%2:Nat):Int),((e%8 / 2%2*2:Nat):Int),((e%8 / 4:Nat):Int)*2]:List Int).getD (e / 8) 0/\([2*((e%8%2:Nat):Int),((e%8 / 2%2*2:Nat):Int),((e%8 / 4:Nat):Int)*2]:List Int).getD (e / 8) 0<=3:=by
 have:∀e:Nat,e<24->0<=([2*((e%8%2:Nat):Int),((e%8 / 2%2*2:Nat):Int),((e%8 / 4:Nat):Int)*2]:List Int).getD (e / 8) 0/\([2*((e%8%2:Nat):Int),((e%8 / 2%2*2:Nat):Int),((e%8 / 4:Nat):Int)*2]:List Int).getD (e / 8) 0<=3:=by decide
 exact this e h
def apA{e:Nat}(h:e<24):over [my .i64 (2*((e%8%2:Nat):Int)),X6 ((e%8 / 2%2*2:Nat):Int),X6 (((e%8 / 4:Nat):Int)*2)] (e / 8) [my .i64 (([2*((e%8%2:Nat):Int),((e%8 / 2%2*2:Nat):Int),((e%8 / 4:Nat):Int)*2]:List Int).getD (e / 8) 0+1)]=[X6 (((Pr e).getD 0 0:Nat):Int),X6 (((Pr e).getD 1 0:Nat):Int),X6 (((Pr e).getD 2 0:Nat):Int)]:=by
 rcases e with _ | _ | _ | _ | _ | _ | _ | _ | _ | _ | _ | _ | _ | _ | _ | _ | _ | _ | _ | _ | _ | _ | _ | _ | e <;> first | rfl | omega
def aqw{g:Nat}{a c d:Int}{T:ba}(b:fQ w g [X6 a,X6 c,X6 d] T)(e:i<3):dQ prog w 3 ⟨g,i,X5⟩ (X6 (([a,c,d]:List Int).getD i 0)):=by
 rcases i with _ | _ | _ | i
 .exact b.lies1 bK O
 .exact b.lies1 bK O
 .exact b.lies1 bK O
 omega
def aiy{e:Nat}(a:e<24):dF prog 289 [X6 (e:Int)] (plV e):=by
 intro w;refine⟨bJ func289 (by kernel_rfl),?_⟩;have m:=Mem.refl w;have f:=avp a
 go_enter func289,ntmps289
 apply gH 7 [0] m;simp only[↓U,yI];intro c u m;refine aD (cT O O (by omega) (apJ (k:=e))) ?_;apply aH 5 [0] m;simp only[↓U];refine aD (lH O O (Vi (k:=e%8) (by omega))) ?_;apply aH 2 [0] m;simp only[↓U];apply I0;omega;refine aD (lH O O (atz (k:=e%8) (by omega))) ?_;apply aH 1 [0] m;simp only[↓U];refine aD (kW O O (by omega) (aby (k:=e%8))) ?_;apply lK 8 [0,0] m;simp only[↓U,tU,yI,vV,aa];intro d;apply I0;omega;intro u m;refine aD (iU O O (by omega) (show IntKind.i64.wrap ((e:Int).tdiv 8)=((e / 8:Nat):Int) from (show IntKind.i64.wrap ((e / 8:Nat):Int)=_ from bZ (by omega) (by omega)))) ?_;apply aH 4 [0,2,0] m;simp only[↓U,fD,ah,ai,dt];refine⟨_,λu m=>(aqw (m.b 0 O) (by omega)),by omega,?_⟩;refine dD m 0 O O O aY (by simp only[ay,bm];omega) ⟨rfl,rfl⟩ ?_;intro u m;simp only[G] at m;rw[apA a] at m;apply lK 7 [1,1] m;simp only[↓U,vV,aa];intro u m;exact aS O ⟨_,O,((m.b 1 O).full vU iN)⟩ ⟨_,O,m.ext,O⟩
def Sm(p:H):Prop:=(0<=p.x/\p.x<=3000000)/\(0<=p.y/\p.y<=3000000)/\0<=p.z/\p.z<=3000000
def SmT(t:T3):Prop:=Sm t.a/\Sm t.b/\Sm t.c
theorem aqy(h:∀t∈ts,SmT t):∀t∈ts,IT t:=λt a=>by
 obtain⟨⟨b,c,a3⟩,⟨d,e,f⟩,c1,c2,g⟩:=h t a;refine⟨⟨?_,?_,?_⟩,⟨?_,?_,?_⟩,⟨?_,?_,?_⟩⟩ <;> (unfold rS;omega)
def abz{e:Nat}(a:e<24)(w:ak):cY prog 289 [X6 (e:Int)] w (λv _=>∃x y z:Int,v=.agg #[X6 x,X6 y,X6 z]/\(0<=x/\x<=3)/\(0<=y/\y<=3)/\0<=z/\z<=3) :=
 (aiy a w).mono λv w' _ h=>by
  have b:=avo a;exact⟨_,_,_,h,⟨by omega,by omega⟩,⟨by omega,by omega⟩,by omega,by omega⟩
def aiz{cx cy cz:Int}{e:Nat}(w:ak)(i:0<=cx/\cx<=3)(j:0<=cy/\cy<=3)(k:0<=cz/\cz<=3)(a:e<24):cY prog 216 [.agg #[X6 cx,X6 cy,X6 cz],X6 524288,X6 (e:Int)] w (λv _=>∃p,v=pt p/\Sm p):=by
 refine⟨bJ func216 (by kernel_rfl),?_⟩;have m:=Mem.refl w
 go_enter func216,ntmps216
 apply gH 8 [0] m;simp only[↓U,fB];intro g h u m;refine cK m O O (abz a _) ?_;rintro v u m ⟨c,d,f,rfl,l,n,o⟩;apply lK 12 [0,3,1,0] m;simp only[↓U,yI,vV,fD,dC,aa,ad,ag];intro g3;apply I0;omega;intro u m;refine aD (iU O O (by omega) (show IntKind.i64.wrap ((524288:Int).tdiv 2)=262144 from O)) ?_;apply aH 9 [3,1,0] m;simp only[↓U,fD,dC,ad,ag,aa];apply I0;omega;refine aD (iU O O (by omega) (show IntKind.i64.wrap ((524288:Int).tdiv 2)=262144 from O)) ?_;apply aH 9 [3,1,0] m;simp only[↓U,fD,dC,ad,ag,aa];apply I0;omega;refine aD (iU O O (by omega) (show IntKind.i64.wrap ((524288:Int).tdiv 2)=262144 from O)) ?_;apply lK 6 [1] m;simp only[↓U,yH,aP,aa];apply I0;omega;intro u m;exact aS O ⟨_,O,((m.b 1 O).full aG aA)⟩ ⟨_,O,m.ext,⟨cx*524288+c*262144,cy*524288+d*262144,cz*524288+f*262144⟩,O,by simp only[Sm];omega⟩
def afy{x:Int}(a:0<=x)(h:x<=N*3000000)(b:0<N):∃q,IntKind.i64.wrap (x.tdiv (N:Int))=q/\0<=q/\q<=3000000:=by
 have h1:x / (N:Int)<=3000000:=Int.ediv_le_of_le_mul (by omega) (by rw[Int.mul_comm];exact h);have h2:0<=x / (N:Int):=Int.ediv_nonneg a (by omega);exact⟨x / N,by rw[Int.tdiv_eq_ediv_of_nonneg a];exact bZ (by omega) (by omega),h2,h1⟩
def atA  : ((i:Int)+1).tmod (N:Int)=(((i+1)%N:Nat):Int):=rfl
def agX{ps:List H}(w:ak)(d:uD bH 3 w A N ps)(g:0<N)(hN:N<=24)(hs:∀p∈ps,Sm p):cY prog 217 [.slice A N cap] w (λv w'=>∃ts:List T3,(ts.length<=N/\∀t∈ts,SmT t)/\SL 39 9 (ts.flatMap aL) ts.length w v w'):=by
 refine⟨bJ func217 (by kernel_rfl),?_⟩;have m:=Mem.refl w;have aW:=d.len
 go_enter func217,ntmps217
 apply fF 11 [0,0] m;simp only[↓U,gV];refine bC O ?_ ?_<;>intro aQ
 .obtain⟨J,ab,a,e,ay⟩:=d.get (i:=0) (by omega);subst e;obtain⟨p1,ad,a1,S,az⟩:=d.get (i:=1) (by omega);cases S;obtain⟨p2,ae,R,k,aE⟩:=d.get (i:=2) (by omega);cases k;apply L 1 [0] m;simp only[↓U];refine mh m [] [(0,Z),(1,Z),(3,Z),(4,Z),(6,Z),(7,Z),(2,Z),(5,Z),(8,Z),(9,Z),(10,X3),(11,Z)] aB (by kernel_rfl) (bS (λ_ _ _ _ _ h=>h)) (ol:=?_) ?F ?_
  case F=>simp only[zw,zQ,zR];try rfl
  intro u m;refine bG aJ ?_;simp only[G];refine bG (aR eR aA O O (by decide) (by omega) O) (bG aJ ?_);simp only[G];refine bG (aR eR aA O O (by decide) (by omega) O) (bG aJ ?_);simp only[G];refine bG (aR eR aA O O (by decide) (by omega) O) (Fq 4 [0,0,0,0,0,0] ?_);simp only[↓U,qQ,aa];refine⟨_,λu m=>(show dQ _ _ _ _ (pt J) from (ay.ext m.ext).lies aG aA),_,λu m=>(show dQ _ _ _ _ (pt p1) from (az.ext m.ext).lies aG aA),_,λu m=>(show dQ _ _ _ _ (pt p2) from (aE.ext m.ext).lies aG aA),?_⟩;refine bO (fE O ?_);intro u r l B D;replace m:=m.newB l B D;simp only[G];replace m:=m.own 0 O (n:=1) (c:=9) O (gS O);simp only[zG] at m;refine aI ⟨m.sel [X3],?_⟩;refine bG aM (bR ?_);apply aT 1 [] m;simp only[↓U];exact aS O O (⟨_,O,m.ext,[⟨J,p1,p2⟩],⟨by simp;omega,λt C=>by
   cases a_.1 C;exact⟨hs _ (bf ab),hs _ (bf ad),hs _ (bf ae)⟩⟩,_,_,_,O,O,(m.o 0 O)⟩)
 apply xI 13 [0,0] m;simp only[↓U,yH,fB,aP,aa];intro r u m;refine bT [4] [22,23,24,25,26,27,28,29,30,31,32,33,34,35,36,37,38,39,40,41,42,43,44,45,46,47,48,49,50,51,52,53,54] (λn vs E=>∃(i:Nat) (x y z:Int),vs=[X6 (i:Int)]/\Mem w E [bI r [X6 x,X6 y,X6 z] 30]/\(0<=x)/\(0<=y)/\(0<=z)/\(x<=i*3000000)/\(y<=i*3000000)/\(z<=i*3000000)/\(i<=N)/\(n=N-i)) ?_ ?_
 .exact⟨_,0,0,0,0,O,m,by omega,by omega,by omega,by omega,by omega,by omega,by omega,O⟩
 intro n vs wr s u K1 W
 obtain⟨i,x,y,z,rfl,m,am,an,ao,a2,a5,a8,T,V⟩:=s;simp only[zu,zF,zG];apply L 8 [0,0] m;simp only[↓U,gV];refine bC O ?_ ?_<;>intro aU
 .obtain⟨p,hp,a,e,I⟩:=d.get (i:=i) (by omega);subst e;obtain⟨⟨aX,a0⟩,⟨a3,a4⟩,a6,a7⟩:=hs p (bf hp);apply L 4 [0] m;simp only[↓U];refine cI m 9 aB (by kernel_rfl) ?_;simp only[zy];refine cX 9 [1,0,2] ?_;simp only[↓U,gN,dC,gG,aa,ah,ai];refine⟨_,λu m=>(lies1 ((I.ext m.ext) 0 _ O) bK),by omega,?_⟩;refine aZ ?_;intro u m;refine dD m 0 O O O aY (gS O) ⟨O,O⟩ ?_;intro u m;simp only[G,zy,zx,over,aa] at m;refine aI ?_;apply aT 1 [0] m;simp only[↓U];refine cI m 9 aB (by kernel_rfl) ?_;simp only[zy];refine cX 9 [1,0,2] ?_;simp only[↓U,gQ,dC,gG,aa,ah,ai];refine⟨_,λu m=>(lies1 ((I.ext m.ext) 1 _ O) bK),by omega,?_⟩;refine aZ ?_;intro u m;refine dD (off:=1) m 0 O O O aY (gS O) ⟨O,O⟩ ?_;intro u m;simp only[G,zy,zx,over,aa] at m;refine aI (gc ?_);refine cI m 9 aB (by kernel_rfl) ?_;simp only[zy];refine cX 9 [1,0,2] ?_;simp only[↓U,iG,dC,gG,aa,ah,ai];refine⟨_,λu m=>(lies1 ((I.ext m.ext) 2 _ O) bK),by omega,?_⟩;refine aZ ?_;intro u m;refine dD (off:=2) m 0 O O O aY (gS O) ⟨O,O⟩ ?_;intro u m;simp only[G,zy,zx,over,aa] at m;refine aI ?_;apply aT 6 [0] m;simp only[↓U];apply I0;omega;exact W (N-(i+1)) _ _ (by omega) (by kernel_rfl) ⟨i+1,_,_,_,O,m,by omega,by omega,by omega,by omega,by omega,by omega,by omega,O⟩
 obtain rfl:N=i:=by omega
 obtain⟨K,af,ap,aq⟩:=afy am (by omega) g;obtain⟨M,ag,ar,au⟩:=afy an (by omega) g;obtain⟨P,aj,av,ax⟩:=afy ao (by omega) g;apply L 2 [0] m;simp only[↓U];refine cI m 16 aB (by kernel_rfl) ?_;simp only[zy];refine cX 4 [1] ?_;simp only[↓U,gN,dC,gV,aa];refine aK (iU O O (by omega) af) (cX 4 [1] ?_);simp only[↓U,gQ,dC,gV,aa];refine aK (iU O O (by omega) ag) (cX 4 [1] ?_);simp only[↓U,iG,dC,gV,aa];refine aK (iU O O (by omega) aj) (aK (yD O O O) (aZ ?_));intro u m;simp only[G];refine bP m 0 O O O aA (gS O) O ?_;intro u m;simp only[zy,zx,over,zF,zG,aa] at m;refine aI ?_;apply aT 2 [0] m;simp only[↓U];refine aD aM ?_;replace m:=m.nilO 39 9;apply aH 7 [0] m;simp only[↓U];refine bT [5,6] [71,72,73,74,75,76,77,78,79,80,81,82,83,84,85,86,87,88,89,90,91,92,93] (λn vs E=>∃(i:Nat) (ts:List T3) (f:Option Addr) (j:Nat),vs=[.slice f i j,X6 (i:Int)]/\Mem w E [oI 39 9 f i j (ts.flatMap aL),bI r [X6 K,X6 M,X6 P] 30]/\(ts.length=i)/\(∀t∈ts,SmT t)/\(i<=N)/\(n=N-i)) ?_ ?_
 .exact⟨_,0,[],X5,0,O,m,O,by simp,by omega,O⟩
 intro n vs wr s u K2 X
 obtain⟨i,ts,f,j,rfl,m,al,Q,T,V⟩:=s;simp only[zu,zF,zG];apply L 8 [0,0] m;simp only[↓U,gV];refine bC O ?_ ?_<;>intro aV
 .obtain⟨p,hp,a,e,aN⟩:=d.get (i:=i) (by omega);subst e;have Y:=lh (i+1) g;obtain⟨q,hq,R,k,aO⟩:=d.get (i:=(i+1)%N) Y;cases k;apply L 3 [0] m;simp only[↓U];refine mh m [X3,Z] [(0,Z),(1,Z),(2,Z),(3,Z),(5,Z),(6,Z),(7,Z),(8,Z),(9,Z),(10,Z),(11,Z),(4,Z),(12,Z),(13,Z),(14,Z),(15,X3),(16,X3),(17,Z)] aB (by kernel_rfl) (bS (λ_ _ _ _ _ h=>h)) (ol:=?_) ?F ?_
  case F=>simp only[zw,zQ,zR];try rfl
  intro u m;refine Fq 9 [] ?_;simp only[↓U,gG,gV,ah,ai];apply I0;omega;refine bG (cT O O (by omega) atA) (Fq 5 [0,0,0,0,1] ?_);simp only[↓U,gG,aP,qQ,ah,ai,aa];refine⟨_,λu m=>(show dQ _ _ _ _ (pt p) from (aN.ext m.ext).lies aG aA),_,λu m=>(show dQ _ _ _ _ (pt q) from (aO.ext m.ext).lies aG aA),by omega,?_⟩;refine bO (fE O ?_);intro u g2 l B D;replace m:=m.newB l B D;refine aI ⟨m.sel [X3,X3,Z],?_⟩;refine bO ?_;simp only[G];refine bN m 1 O O fC iO O (by decide) O O O (m.b 0 O).rowsO (fN O) (by omega) (by omega) ?_;intro f j u m;simp only[zF,zG] at m;rw[show ts.flatMap aL++_=(ts++[(⟨p,q,⟨K,M,P⟩⟩:T3)]).flatMap aL by rw[aw];rfl] at m;refine aI ⟨m.sel [X3,X3,Z],?_⟩;refine bG aM (bR ?_);apply aT 6 [0] m;simp only[↓U];apply I0;omega;exact X (N-(i+1)) _ _ (by omega) (by kernel_rfl) ⟨i+1,_,_,_,O,(m.sel [X3,Z,Z]),by simp;omega,λt C=>(bh.1 C).elim (Q t) λh=>by
   cases a_.1 h;exact⟨hs _ (bf hp),hs _ (bf hq),⟨ap,aq⟩,⟨ar,au⟩,av,ax⟩,by omega,O⟩
 apply L 7 [] m;simp only[↓U];exact aS O O ⟨_,O,m.ext,ts,⟨by omega,Q⟩,_,_,_,al.symm,O,(m.o 0 O)⟩
def r_v{v:Int}(h : -1<=v/\v<8):∃a b c:Int,IntKind.i64.wrap ((eo IntKind.i64.bits v &&& eo IntKind.i64.bits 1).toNat:Int)=a/\IntKind.i64.wrap ((eo IntKind.i64.bits v &&& eo IntKind.i64.bits 2).toNat:Int)=b/\rv v (2^min (kj 2) IntKind.i64.bits)=c/\(0<=a/\a<=1)/\(0<=b/\b<=2)/\-1<=c/\c<=1:=by
 have:v = -1\/v=0\/v=1\/v=2\/v=3\/v=4\/v=5\/v=6\/v=7:=by omega
 rcases this with rfl | rfl | rfl | rfl | rfl | rfl | rfl | rfl | rfl <;> exact⟨_,_,_,rfl,rfl,rfl,by decide,by decide,by decide⟩
def Nw{u v:Int}(a : -9<=u/\u<=9)(b : -9<=v/\v<=9) : -81<=u*v/\u*v<=81:=by
 have h:(u*v).natAbs<=9*9:=by rw[Int.natAbs_mul];exact Nat.mul_le_mul (by omega) (by omega)
 omega
def Ga{cs:List aj}{u:aj}(h:i<cs.length):over cs i [u]=cs.set i u:=by
 rw[List.set_eq_take_append_cons_drop,J h,over];simp
def Vm{g p:Nat}:(⟨g,8,X5⟩:Addr).add ((p:Int).toNat*1)=⟨g,8+p,X5⟩:=by rw[ah,dt];exact cS ..
def lF(bs:List Bool)(ns:List Int):List aj:=bs.map bw++ns.map (my .i64)
structure iQ(bs:List Bool)(ns:List Int):Prop where
 b:bs.length=8
 n:ns.length=24
 r:∀x∈ns,-1<=x/\x<24
def iQ.len{bs ns}(h:iQ bs ns):(lF bs ns).length=32:=by simp[lF,h.b,h.n]
def iQ.put{bs ns}(h:iQ bs ns){p:Nat}{q:Int}(hq : -1<=q/\q<24):iQ bs (ns.set p q):=⟨h.b,by rw[fm];exact h.n,λx a=>(jp a).elim (h.r x) λe=>e▸hq⟩
def iQ.over{bs ns}(h:iQ bs ns){p:Nat}{q:Int}(hp:p<24):over (lF bs ns) (8+p) [X6 q]=lF bs (ns.set p q):=by
 rw[Ga (by rw[h.len];omega),lF,List.set_append_right _ _ (by rw[cj,h.b];omega),cj,h.b,Nat.add_sub_cancel_left,lF,qe]
def iQ.in{bs ns}(h:iQ bs ns){v:Nat}(a:v<8):(lF bs ns)[v]? = X4 (.bool (bs.getD v X3)):=by
 rw[lF,List.getElem?_append_left (by rw[cj,h.b];exact a),fi,am (by rw[h.b];exact a),List.getD_eq_getElem?_getD,am (by rw[h.b];exact a)];rfl
def iQ.nx{bs ns}(h:iQ bs ns){p:Nat}(hp:p<24):∃q,(lF bs ns)[8+p]? = X4 (X6 q)/\-1<=q/\q<24:=by
 refine⟨ns[p]'(by rw[h.n];exact hp),?_,h.r _ (List.getElem_mem _)⟩;rw[lF,List.getElem?_append_right (by rw[cj,h.b];omega),cj,h.b,Nat.add_sub_cancel_left,fi,am (by rw[h.n];exact hp)];rfl
def aiA{p q:Nat}{v a:Int}{b:Bool}(w:ak)(hp:p<24)(hq:q<24)(C : -1<=v/\v<8)(B:a=0\/a=1\/a=2):cY prog 326 [X6 (p:Int),X6 (q:Int),X6 v,X6 a,.bool b] w (λv _=>∃c,v=.bool c):=by
 refine⟨bJ func326 (by kernel_rfl),?_⟩;have m:=Mem.refl w;obtain⟨l,o,s,y,z,A,h1,h2,F⟩:=r_v C
 go_enter func326,ntmps326
 apply fF 7 [0] m;simp only[↓U];refine cK m O O (abz hp _) ?_;rintro v u m ⟨e,f,g,rfl,G,H,I⟩;apply lK 6 [0,0] m;simp only[↓U,yI,vV,aa];intro D u m;refine cK m O O (abz hq _) ?_;rintro v u m ⟨i,j,k,rfl,J,K,L⟩;apply lK 6 [0,0] m;simp only[↓U,yI,vV,aa];intro E u m;refine aD (lH O O y) ?_;apply aH 2 [0] m;simp only[↓U];apply I0;omega;refine aD (lH O O z) ?_;apply aH 1 [0] m;simp only[↓U];refine aD (kW O O (by omega) A) ?_;apply lK 6 [0] m;simp only[↓U,tU,yI,vV,aa];intro g3;apply I0;omega;intro u m;rcases B with rfl | rfl | rfl
 .have t:=Nw (u:=j-f) (v:=s*2-g) (by omega) (by omega);have x:=Nw (u:=k-g) (v:=o-f) (by omega) (by omega);apply aT 3 [0] m;simp only[↓U,an];apply I0;omega;refine aD (cT (m:=1) (n:=3) (r:=1) O O (by decide) (by decide)) ?_;apply aH 6 [0] m;simp only[↓U,an];apply I0;omega;refine aD (cT (m:=2) (n:=3) (r:=2) O O (by decide) (by decide)) ?_;apply aH 3 [0] m;simp only[↓U];refine mq m aB (by kernel_rfl) (cX 18 [2,3,1,3,2] ?_);simp only[↓U,fD,dC,ad,ag,aa];apply I0;omega;refine cX 14 [3,1,3] ?_;simp only[↓U,fD,dC,ad,ag,aa];apply I0;omega;refine aZ ?_;intro u m;generalize (j-f)*(s*2-g)-(k-g)*(o-f)=d;apply aT 1 [] m;simp only[↓U];rcases (show b=X3\/(b=Z/\d<0)\/(b=Z/\¬d<0) by cases b <;> simp <;> omega) with rfl | ⟨rfl,h⟩ | ⟨rfl,h⟩
  .apply aT 17 [0,0,0,0,0,0,0,0,0] m;simp only[↓U,f_,gd];exact aS O O ⟨_,O,m.ext,_,O⟩
  .apply aT 17 [0,0,1,0,0,0,0,0,0] m;simp only[↓U];apply I0;omega;exact aS O O ⟨_,O,m.ext,_,O⟩
  apply aT 17 [0,0,2,0,0,0,0,0,0] m;simp only[↓U,f_,gd];apply I0;omega;exact aS O O ⟨_,O,m.ext,_,O⟩
 .have t:=Nw (u:=k-g) (v:=2*l-e) (by omega) (by omega);have x:=Nw (u:=i-e) (v:=s*2-g) (by omega) (by omega);apply aT 3 [0] m;simp only[↓U,an];apply I0;omega;refine aD (cT (m:=2) (n:=3) (r:=2) O O (by decide) (by decide)) ?_;apply aH 6 [0] m;simp only[↓U,an];apply I0;omega;refine aD (cT (m:=3) (n:=3) (r:=0) O O (by decide) (by decide)) ?_;apply aH 3 [0] m;simp only[↓U];refine mq m aB (by kernel_rfl) (cX 18 [2,3,1,3,2] ?_);simp only[↓U,fD,dC,ad,ag,aa];apply I0;omega;refine cX 14 [3,1,3] ?_;simp only[↓U,fD,dC,ad,ag,aa];apply I0;omega;refine aZ ?_;intro u m;generalize (k-g)*(2*l-e)-(i-e)*(s*2-g)=d;apply aT 1 [] m;simp only[↓U];rcases (show b=X3\/(b=Z/\d<0)\/(b=Z/\¬d<0) by cases b <;> simp <;> omega) with rfl | ⟨rfl,h⟩ | ⟨rfl,h⟩
  .apply aT 17 [0,0,0,0,0,0,0,0,0] m;simp only[↓U,f_,gd];exact aS O O ⟨_,O,m.ext,_,O⟩
  .apply aT 17 [0,0,1,0,0,0,0,0,0] m;simp only[↓U];apply I0;omega;exact aS O O ⟨_,O,m.ext,_,O⟩
  apply aT 17 [0,0,2,0,0,0,0,0,0] m;simp only[↓U,f_,gd];apply I0;omega;exact aS O O ⟨_,O,m.ext,_,O⟩
 have t:=Nw (u:=i-e) (v:=o-f) (by omega) (by omega);have x:=Nw (u:=j-f) (v:=2*l-e) (by omega) (by omega);apply aT 3 [0] m;simp only[↓U,an];apply I0;omega;refine aD (cT (m:=3) (n:=3) (r:=0) O O (by decide) (by decide)) ?_;apply aH 6 [0] m;simp only[↓U,an];apply I0;omega;refine aD (cT (m:=4) (n:=3) (r:=1) O O (by decide) (by decide)) ?_;apply aH 3 [0] m;simp only[↓U];refine mq m aB (by kernel_rfl) (cX 18 [2,3,1,3,2] ?_);simp only[↓U,fD,dC,ad,ag,aa];apply I0;omega;refine cX 14 [3,1,3] ?_;simp only[↓U,fD,dC,ad,ag,aa];apply I0;omega;refine aZ ?_;intro u m;generalize (i-e)*(o-f)-(j-f)*(2*l-e)=d;apply aT 1 [] m;simp only[↓U];rcases (show b=X3\/(b=Z/\d<0)\/(b=Z/\¬d<0) by cases b <;> simp <;> omega) with rfl | ⟨rfl,h⟩ | ⟨rfl,h⟩
 .apply aT 17 [0,0,0,0,0,0,0,0,0] m;simp only[↓U,f_,gd];exact aS O O ⟨_,O,m.ext,_,O⟩
 .apply aT 17 [0,0,1,0,0,0,0,0,0] m;simp only[↓U];apply I0;omega;exact aS O O ⟨_,O,m.ext,_,O⟩
 apply aT 17 [0,0,2,0,0,0,0,0,0] m;simp only[↓U,f_,gd];apply I0;omega;exact aS O O ⟨_,O,m.ext,_,O⟩
def adz{bs:List Bool}{ns:List Int}{p q:Nat}{v a:Int}{b:Bool}(m:Mem w0 w [bI g3 (lF bs ns) 264,K])(hc:iQ bs ns)(hp:p<24)(hq:q<24)(f : -1<=v/\v<8)(e:a=0\/a=1\/a=2):wV prog 288 [.pointer (X4 ⟨g3,0,X5⟩),X6 (p:Int),X6 (q:Int),X6 v,X6 a,.bool b] w (λ_ w'=>∃d,iQ bs d/\Mem w0 w' [bI g3 (lF bs d) 264,K]):=by
 refine⟨bJ func288 (by kernel_rfl),?_⟩
 go_enter func288,ntmps288
 apply fF 7 [0] m;simp only[↓U];refine cK m O O (aiA _ hp hq f e) ?_;rintro v u m ⟨c,rfl⟩;apply aH 6 [0] m;simp only[↓U];refine gF O ?_ ?_<;>intro g
 .apply L 6 [0] m;simp only[↓U,vY,aa];refine aD (aN Ij aY O O (by omega) (by omega) Vm) ?_;simp only[G];refine dD m 0 O O O aY (by rw[hc.len];show _+1<=_;omega) ⟨rfl,rfl⟩ ?_;intro u m;simp only[G] at m;rw[hc.over hp] at m;apply aH 1 [0] m;simp only[↓U];exact Gj O ⟨_,O,_,hc.put (by omega),m⟩
 apply L 6 [0] m;simp only[↓U,vY,aa];refine aD (aN Ij aY O O (by omega) (by omega) Vm) ?_;simp only[G];refine dD m 0 O O O aY (by rw[hc.len];show _+1<=_;omega) ⟨rfl,rfl⟩ ?_;intro u m;simp only[G] at m;rw[hc.over hq] at m;apply aH 1 [0] m;simp only[↓U];exact Gj O ⟨_,O,_,hc.put (by omega),m⟩
def Ny{os:List Nat}  : os.map sK++[X6 (x:Int)]=(os++[x]).map sK:=by simp[sK]
def fv{b c d:Nat}(i:a<3)(h1:b=(a+1)%3)(h2:c=(a+2)%3)(hs:d=0\/d=2^a)(j:k<4):∃e f g h:Nat,IntKind.i64.wrap (((k%2:Nat):Int)*2^min (kj (b:Int)) IntKind.i64.bits)=(e:Int)/\IntKind.i64.wrap (((k / 2:Nat):Int)*2^min (kj (c:Int)) IntKind.i64.bits)=(f:Int)/\IntKind.i64.wrap (1*2^min (kj (b:Int)) IntKind.i64.bits)=(g:Int)/\IntKind.i64.wrap (1*2^min (kj (c:Int)) IntKind.i64.bits)=(h:Int)/\d+e+f<8/\(k%2=0->d+e+f+g<8)/\(k / 2=0->d+e+f+h<8):=by
 refine⟨k%2*2^b,k / 2*2^c,2^b,2^c,?_,?_,?_,?_,?_,?_,?_⟩ <;> subst h1 h2 <;> rcases a with _ | _ | _ | a <;> rcases k with _ | _ | _ | _ | k <;> rcases hs with rfl | rfl <;> first | omega | rfl | decide
def Vn{v:Nat}(c:v<8)(b:a<3):apz v a<24:=by
 have h1:=am3 v a;have h2:=avn v a;omega
def apB{a:List Nat}(h:a.length=n)(b:(n:Int)=2):∃x y,a=[x,y]:=by
 match a,h with
 | [x,y],_=>exact⟨x,y,rfl⟩
 | [],h=>simp at h;omega
 | [_],h=>simp at h;omega
 | _::_::_::l,h=>simp at h;omega
def adA{bs:List Bool}{ns:List Int}{pos:Bool}(m:Mem w0 w [bI g3 (lF bs ns) 264,K])(hc:iQ bs ns)(P:a<3):wV prog 215 [.pointer (X4 ⟨g3,0,X5⟩),X6 (a:Int),.bool pos] w (λ_ w'=>∃au,iQ bs au/\Mem w0 w' [bI g3 (lF bs au) 264,K]):=by
 refine⟨bJ func215 (by kernel_rfl),?_⟩;obtain⟨t,T⟩:∃t,t=(a+1)%3:=⟨_,rfl⟩
 obtain⟨s,V⟩:∃s,s=(a+2)%3:=⟨_,rfl⟩
 go_enter func215,ntmps215
 apply fF 9 [0] m;simp only[↓U];refine Tf m [6] [16,17] (λvs=>∃(q:Nat),vs=[X6 (q:Int)]/\(q=0\/q=2^a)) ?_ ?_
 . intro K1 aj
   refine gF O ?_ ?_<;>intro aE
   .apply L 2 [0] m;simp only[↓U];refine aD (rF O O (by omega) (aqv P)) ?_;apply aH 2 [0] m;simp only[↓U];exact aj _ _ (by kernel_rfl) m ⟨_,O,.inr O⟩
   apply L 1 [0] m;simp only[↓U];exact aj _ _ (by kernel_rfl) m ⟨0,O,.inl O⟩
 intro vs wr m j u
 obtain⟨q,rfl,aq⟩:=j;simp only[zu,zF,zG];apply aT 4 [0] m;simp only[↓U];apply I0;omega;refine aD (cT O O (by omega) (show ((a:Int)+1).tmod 3=(t:Int) from by rw[T];rfl)) ?_;apply aH 6 [0] m;simp only[↓U];apply I0;omega;refine aD (cT O O (by omega) (show ((a:Int)+2).tmod 3=(s:Int) from by rw[V];rfl)) ?_;apply aH 4 [0] m;simp only[↓U];refine aD aM ?_;replace m:=m.nilO 3 1;apply aH 11 [0] m;simp only[↓U];refine bT [9,10,11] [12,24,25,26,27,28,29,30,31,32,33,34,35,36,37,38,39,40,41,42,43,44,45,46,47,48,49,50,51,52,53,54,55,56,57,58,59,60,61,62,63,64,65,66,67,68,69,70,71,72,73,74,75,76,77,78,79,80,81,82,83,84,85,86,87,88,89,90,91,92,93,94,95,96,97,98,99] (λn vs S=>∃(k c:Nat) (ins:Int) (d:List Nat) (e:Option Addr) (g:Nat),vs=[.slice e c g,X6 ins,X6 (k:Int)]/\Mem w0 S [oI 3 1 e c g (d.map sK),bI g3 (lF bs ns) 264,K]/\(-1<=ins/\ins<8)/\(d.length=c)/\(∀x∈d,x<24)/\(c<=2*k)/\(k<=4)/\(n=4-k)) ?_ ?_
 .exact⟨_,0,0,_,[],X5,0,O,m,by omega,O,by simp,by omega,by omega,O⟩
 intro n vs wr j u K2 J
 obtain⟨k,c,ins,d,e,g,rfl,m,r,p,l,X,hk,hn⟩:=j;simp only[zu,zF,zG];apply L 6 [0,0] m;simp only[↓U];refine bC O ?_ ?_<;>intro M
 .have W:k<4:=by omega
  apply L 4 [] m;simp only[↓U];obtain⟨E,F,u1,R,Y,ab,ar,ae,f,N,I⟩:=fv P T V aq W;refine gc (mq m aB (by kernel_rfl) (aK aJ (aK aJ ?_)));simp only[G];refine aK (cT O O (by omega) (show (k:Int).tmod 2=((k%2:Nat):Int) from O)) (aK aJ ?_);simp only[G];refine aK (rF O O (by omega) Y) ?_;simp only[G];refine aK (fU O O (bZ (by omega) (by omega))) (aK aJ ?_);simp only[G];refine aK (iU O O (by omega) ((show IntKind.i64.wrap ((k / 2:Nat):Int)=_ from bZ (by omega) (by omega)))) (aK aJ ?_);simp only[G];refine aK (rF O O (by omega) ab) ?_;simp only[G];refine aK (fU O O (bZ (by omega) (by omega))) (aK aM (aZ ?_));intro u m;simp only[G];obtain⟨v,Q⟩:∃v:Nat,v=q+E+F:=⟨_,rfl⟩
  rw[<-Q] at f N I;rw[show ((q:Int)+(E:Int)+(F:Int))=(v:Int) by omega];apply aT 10 [0,3,0] m;simp only[↓U,qR,Mx,aa,ah,ai,dt];refine⟨_,λu m=>(lies1 ((m.b 1 O).cell (hc.in f)) pK),by omega,?_⟩;refine Tf m [10] [45] (λvs=>∃(ins:Int),vs=[X6 ins]/\(-1<=ins/\ins<8)) ?_ ?_
  . intro K3 ak
    refine gF O ?_ ?_<;>intro aG
    .apply L 4 [0] m;simp only[↓U];exact ak _ _ (by kernel_rfl) m ⟨_,O,by omega⟩
    apply L 1 [0] m;simp only[↓U];exact ak _ _ (by kernel_rfl) m ⟨_,O,r⟩
  intro vs wr m j u
  obtain⟨ins,rfl,r⟩:=j;simp only[zu,zF,zG];apply aT 2 [] m;simp only[↓U];by_cases aA:k%2=0
  .have H:=N aA;refine gc (mq m aB (by kernel_rfl) (aK aJ ?_));simp only[G];refine aK (cT O O (by omega) (show (k:Int).tmod 2=((k%2:Nat):Int) from O)) ?_;simp only[G];refine aK (zW O O (by omega)) (aK aJ (fL O (aK aJ (fL O (aK aJ ?_)))));simp only[G];refine fL O (aK (dT O) ?_);refine cX 6 [0,0,0,0,3,0,0,0] ?_;simp only[↓U,qR,Mx,aa,ah,ai,dt];refine⟨_,λu m=>(lies1 ((m.b 1 O).cell (hc.in f)) pK),by omega,?_⟩;refine fL O (aK (rF O O (by omega) ar) (fL O ?_));simp only[G];refine aK (fU O O (bZ (by omega) (by omega))) (fL O (aK (dT O) ?_));refine cX 1 [0] ?_;simp only[↓U,qR,aa];refine fL O (aK (aN underlying261 jZ O O (by omega) (by omega) (uZ (show _=v+u1 by omega))) (fL O ?_));simp only[G];refine ql O (λu m=>(lies1 ((m.b 1 O).cell (hc.in H)) pK)) ?_;simp only[G];refine fL O (aK (Re Wb O O) (aK (rQ O) (aZ ?_)));intro u m;refine gc ?_;simp only[G];refine gY m 0 [9] [67,68,69,70,71,72] (λvs i=>∃(c:Nat) (d:List Nat) (e:Option Addr) (g:Nat),vs=[.slice e c g]/\i=oI 3 1 e c g (d.map sK)/\(d.length=c)/\(∀x∈d,x<24)/\(c<=2*k+1)) ?_ ?_
   . intro K4 al
     refine gF O ?_ ?_<;>intro aL
     .apply L 4 [0] m;simp only[↓U];refine jG m O O (En f (show t<3 by omega)) ?_;intro u m;simp only[G];refine gB eK (z:=X6 0) (by kernel_rfl) O O O ?_;intro u g6 A B D;replace m:=m.newB A B D;simp only[G];refine bN m 1 O O eK tQ O (by decide) O O O (m.b 0 O).rowsO (fN O) (by omega) (by omega) ?_;intro e g u m;simp only[zF,zG] at m;simp only[zA,zB,zC,zD,zE,Ny] at m;apply aH 2 [0] m;simp only[↓U];exact al _ _ _ (by kernel_rfl) (m.sel [X3,Z,Z,Z]) ⟨_,_,_,_,O,O,by simp;omega,λx C=>(bh.1 C).elim (l x) λh=>by cases a_.1 h;exact Vn f (by omega),by omega⟩
     apply L 1 [0] m;simp only[↓U];exact al _ _ _ (by kernel_rfl) m ⟨_,_,_,_,O,O,p,l,by omega⟩
   intro vs i wr m j u
   obtain⟨c,d,e,g,rfl,rfl,p,l,X⟩:=j;simp only[zF,zG] at m;simp only[zu,zF,zG];apply aT 1 [] m;simp only[↓U];by_cases af:k / 2=0
   .have H:=I af;refine gc (mq m aB (by kernel_rfl) (aK aJ ?_));simp only[G];refine aK (iU O O (by omega) ((show IntKind.i64.wrap ((k / 2:Nat):Int)=_ from bZ (by omega) (by omega)))) ?_;simp only[G];refine aK (zW O O (by omega)) (aK aJ (fL O (aK aJ (fL O (aK aJ ?_)))));simp only[G];refine fL O (aK (dT O) ?_);refine cX 6 [0,0,0,0,3,0,0,0] ?_;simp only[↓U,qR,Mx,aa,ah,ai,dt];refine⟨_,λu m=>(lies1 ((m.b 1 O).cell (hc.in f)) pK),by omega,?_⟩;refine fL O (aK (rF O O (by omega) ae) (fL O ?_));simp only[G];refine aK (fU O O (bZ (by omega) (by omega))) (fL O (aK (dT O) ?_));refine cX 1 [0] ?_;simp only[↓U,qR,aa];refine fL O (aK (aN underlying261 jZ O O (by omega) (by omega) (uZ (show _=v+R by omega))) (fL O ?_));simp only[G];refine ql O (λu m=>(lies1 ((m.b 1 O).cell (hc.in H)) pK)) ?_;simp only[G];refine fL O (aK (Re Wb O O) (aK (rQ O) (aZ ?_)));intro u m;refine gc ?_;simp only[G];refine gY m 0 [9] [94,95,96,97,98,99] (λvs i=>∃(c:Nat) (d:List Nat) (e:Option Addr) (g:Nat),vs=[.slice e c g]/\i=oI 3 1 e c g (d.map sK)/\(d.length=c)/\(∀x∈d,x<24)/\(c<=2*k+2)) ?_ ?_
    . intro K5 am
      refine gF O ?_ ?_<;>intro aw
      .apply L 4 [0] m;simp only[↓U];refine jG m O O (En f (show s<3 by omega)) ?_;intro u m;simp only[G];refine gB eK (z:=X6 0) (by kernel_rfl) O O O ?_;intro u g6 A B D;replace m:=m.newB A B D;simp only[G];refine bN m 1 O O eK tQ O (by decide) O O O (m.b 0 O).rowsO (fN O) (by omega) (by omega) ?_;intro e g u m;simp only[zF,zG] at m;simp only[zA,zB,zC,zD,zE,Ny] at m;apply aH 2 [0] m;simp only[↓U];exact am _ _ _ (by kernel_rfl) (m.sel [X3,Z,Z,Z]) ⟨_,_,_,_,O,O,by simp;omega,λx C=>(bh.1 C).elim (l x) λh=>by cases a_.1 h;exact Vn f (by omega),by omega⟩
      apply L 1 [0] m;simp only[↓U];exact am _ _ _ (by kernel_rfl) m ⟨_,_,_,_,O,O,p,l,by omega⟩
    intro vs i wr m j u
    obtain⟨c,d,e,g,rfl,rfl,p,l,X⟩:=j;simp only[zF,zG] at m;simp only[zu,zF,zG];apply aT 6 [0] m;simp only[↓U];apply I0;omega;exact J (4-(k+1)) _ _ (by omega) (by kernel_rfl) ⟨k+1,_,_,_,_,_,O,m,r,p,l,by omega,by omega,O⟩
   refine gc (mq m aB (by kernel_rfl) (aK aJ ?_));simp only[G];refine aK (iU O O (by omega) ((show IntKind.i64.wrap ((k / 2:Nat):Int)=_ from bZ (by omega) (by omega)))) ?_;simp only[G];refine aK (aac O O (by omega)) (aK aJ (pR O (pR O ?_)));simp only[G];refine pR O (cX 14 [0,0,0,0,0,0,0,0,0,0,0,0,0] ?_);simp only[↓U];refine aZ ?_;intro u m;apply aT 8 [0] m;simp only[↓U];apply I0;omega;exact J (4-(k+1)) _ _ (by omega) (by kernel_rfl) ⟨k+1,_,_,_,_,_,O,m,r,p,l,by omega,by omega,O⟩
  refine gc (mq m aB (by kernel_rfl) (aK aJ ?_));simp only[G];refine aK (cT O O (by omega) (show (k:Int).tmod 2=((k%2:Nat):Int) from O)) ?_;simp only[G];refine aK (aac O O (by omega)) (aK aJ (pR O (pR O ?_)));simp only[G];refine pR O (cX 14 [0,0,0,0,0,0,0,0,0,0,0,0,0] ?_);simp only[↓U];refine aZ ?_;intro u m;apply aT 3 [] m;simp only[↓U];by_cases af:k / 2=0
  .have H:=I af;refine gc (mq m aB (by kernel_rfl) (aK aJ ?_));simp only[G];refine aK (iU O O (by omega) ((show IntKind.i64.wrap ((k / 2:Nat):Int)=_ from bZ (by omega) (by omega)))) ?_;simp only[G];refine aK (zW O O (by omega)) (aK aJ (fL O (aK aJ (fL O (aK aJ ?_)))));simp only[G];refine fL O (aK (dT O) ?_);refine cX 6 [0,0,0,0,3,0,0,0] ?_;simp only[↓U,qR,Mx,aa,ah,ai,dt];refine⟨_,λu m=>(lies1 ((m.b 1 O).cell (hc.in f)) pK),by omega,?_⟩;refine fL O (aK (rF O O (by omega) ae) (fL O ?_));simp only[G];refine aK (fU O O (bZ (by omega) (by omega))) (fL O (aK (dT O) ?_));refine cX 1 [0] ?_;simp only[↓U,qR,aa];refine fL O (aK (aN underlying261 jZ O O (by omega) (by omega) (uZ (show _=v+R by omega))) (fL O ?_));simp only[G];refine ql O (λu m=>(lies1 ((m.b 1 O).cell (hc.in H)) pK)) ?_;simp only[G];refine fL O (aK (Re Wb O O) (aK (rQ O) (aZ ?_)));intro u m;refine gc ?_;simp only[G];refine gY m 0 [9] [94,95,96,97,98,99] (λvs i=>∃(c:Nat) (d:List Nat) (e:Option Addr) (g:Nat),vs=[.slice e c g]/\i=oI 3 1 e c g (d.map sK)/\(d.length=c)/\(∀x∈d,x<24)/\(c<=2*k+2)) ?_ ?_
   . intro K6 an
     refine gF O ?_ ?_<;>intro aw
     .apply L 4 [0] m;simp only[↓U];refine jG m O O (En f (show s<3 by omega)) ?_;intro u m;simp only[G];refine gB eK (z:=X6 0) (by kernel_rfl) O O O ?_;intro u g6 A B D;replace m:=m.newB A B D;simp only[G];refine bN m 1 O O eK tQ O (by decide) O O O (m.b 0 O).rowsO (fN O) (by omega) (by omega) ?_;intro e g u m;simp only[zF,zG] at m;simp only[zA,zB,zC,zD,zE,Ny] at m;apply aH 2 [0] m;simp only[↓U];exact an _ _ _ (by kernel_rfl) (m.sel [X3,Z,Z,Z]) ⟨_,_,_,_,O,O,by simp;omega,λx C=>(bh.1 C).elim (l x) λh=>by cases a_.1 h;exact Vn f (by omega),by omega⟩
     apply L 1 [0] m;simp only[↓U];exact an _ _ _ (by kernel_rfl) m ⟨_,_,_,_,O,O,p,l,by omega⟩
   intro vs i wr m j u
   obtain⟨c,d,e,g,rfl,rfl,p,l,X⟩:=j;simp only[zF,zG] at m;simp only[zu,zF,zG];apply aT 6 [0] m;simp only[↓U];apply I0;omega;exact J (4-(k+1)) _ _ (by omega) (by kernel_rfl) ⟨k+1,_,_,_,_,_,O,m,r,p,l,by omega,by omega,O⟩
  refine gc (mq m aB (by kernel_rfl) (aK aJ ?_));simp only[G];refine aK (iU O O (by omega) ((show IntKind.i64.wrap ((k / 2:Nat):Int)=_ from bZ (by omega) (by omega)))) ?_;simp only[G];refine aK (aac O O (by omega)) (aK aJ (pR O (pR O ?_)));simp only[G];refine pR O (cX 14 [0,0,0,0,0,0,0,0,0,0,0,0,0] ?_);simp only[↓U];refine aZ ?_;intro u m;apply aT 8 [0] m;simp only[↓U];apply I0;omega;exact J (4-(k+1)) _ _ (by omega) (by kernel_rfl) ⟨k+1,_,_,_,_,_,O,m,r,p,l,by omega,by omega,O⟩
 apply L 8 [0,0] m;simp only[↓U,kO];refine gY m 1 [] [103,104,105,106,107,108,109,110,111,112,113] (λvs i=>∃(ns:List Int),vs=[]/\i=bI g3 (lF bs ns) 264/\(iQ bs ns)) ?_ ?_
 . intro K7 ao
   refine bC O ?_ ?_<;>intro ax
   .obtain⟨x,y,rfl⟩:=apB p ax;obtain⟨g9,rfl⟩:=(m.o 0 rfl).some (by omega);refine mh m [Z,X3,Z] [(0,Z),(1,Z),(2,Z),(4,Z),(5,Z),(7,Z),(8,Z),(9,Z),(3,Z),(6,Z),(10,X3)] aB (by kernel_rfl) (bS (λ_ _ _ _ _ h=>h)) (ol:=?_) ?ay ?_
    case ay=>simp only[zw,zQ,zR];try rfl
    intro u m;refine Fq 10 [0,2,0,2] ?_;simp only[↓U,Ou,ad,ag,aa];refine⟨_,λu m=>(lies1 ((m.o 0 O).rows 0 _ O) bK),_,λu m=>(lies1 ((m.o 0 O).rows 1 _ O) bK),by omega,?_⟩;refine bO ?_;replace m:=m.pull 1 O;simp only[dZ,eA,zF,zG] at m;replace m:=m.pack1;refine kA O O (adz m hc (l x (by simp)) (l y (by simp)) r (by omega)) ?_;rintro v u ⟨az,M,m⟩;simp only[G];replace m:=Mem.unpack [_] m;simp only[cq,bz] at m;replace m:=m.s01;refine aI ⟨m.sel [Z,X3,Z],?_⟩;refine bR (gk ?_);exact ao _ _ _ (by kernel_rfl) m ⟨_,O,O,M⟩
   apply L 1 [0] m;simp only[↓U];exact ao _ _ _ (by kernel_rfl) m ⟨_,O,O,hc⟩
 intro vs i wr m j u
 obtain⟨ns,rfl,rfl,hc⟩:=j;simp only[zF,zG] at m;simp only[zu,zF,zG];apply aT 6 [0,0] m;simp only[↓U,kO];refine bC O ?_ ?_<;>intro aO
 .apply L 5 [0] m;simp only[↓U];refine bT [13] [14,117,118,119,120,121,122,123,124,125,126,127,128,129,130,131,132,133,134,135,136,137,138,139,140,141,142,143,144,145,146,147,148] (λn vs S=>∃(k:Nat) (ns:List Int),vs=[X6 (k:Int)]/\Mem w0 S [bI g3 (lF bs ns) 264,K]/\(iQ bs ns)/\(k<=4)/\(n=4-k)) ?_ ?_
  .exact⟨_,0,_,O,(m.sel [X3,Z,Z]),hc,by omega,O⟩
  intro n vs wr j u K8 av
  obtain⟨k,ns,rfl,m,hc,hk,hn⟩:=j;simp only[zu,zF,zG];apply L 6 [0,0] m;simp only[↓U];refine bC O ?_ ?_<;>intro aP
  .have W:k<4:=by omega
   apply L 4 [] m;simp only[↓U];obtain⟨E,F,u1,R,Y,ab,ar,ae,f,N,I⟩:=fv P T V aq W;refine gc (mq m aB (by kernel_rfl) (aK aJ (aK aJ ?_)));simp only[G];refine aK (cT O O (by omega) (show (k:Int).tmod 2=((k%2:Nat):Int) from O)) (aK aJ ?_);simp only[G];refine aK (rF O O (by omega) Y) ?_;simp only[G];refine aK (fU O O (bZ (by omega) (by omega))) (aK aJ ?_);simp only[G];refine aK (iU O O (by omega) ((show IntKind.i64.wrap ((k / 2:Nat):Int)=_ from bZ (by omega) (by omega)))) (aK aJ ?_);simp only[G];refine aK (rF O O (by omega) ab) ?_;simp only[G];refine aK (fU O O (bZ (by omega) (by omega))) (aK aM (aZ ?_));intro u m;simp only[G];obtain⟨v,Q⟩:∃v:Nat,v=q+E+F:=⟨_,rfl⟩
   rw[<-Q] at f N I;rw[show ((q:Int)+(E:Int)+(F:Int))=(v:Int) by omega];apply aT 9 [0,3,0] m;simp only[↓U,qR,Mx,aa,ah,ai,dt];refine⟨_,λu m=>(lies1 ((m.b 0 O).cell (hc.in f)) pK),by omega,?_⟩;refine gY m 0 [] [138,139,140,141,142,143,144,145,146,147,148] (λvs i=>∃(ns:List Int),vs=[]/\i=bI g3 (lF bs ns) 264/\(iQ bs ns)) ?_ ?_
   . intro K9 ap
     refine gF O ?_ ?_<;>intro aQ
     .apply L 4 [0] m;simp only[↓U];refine lD m O O (En f (show t<3 by omega)) 2 [0] ?_;simp only[↓U];intro u m;refine lD m O O (En f (show s<3 by omega)) 3 [0] ?_;simp only[↓U];intro u m;refine kA O O (adz m hc (Vn f (by omega)) (Vn f (by omega)) (by omega) (by omega)) ?_;rintro v u ⟨az,M,m⟩;apply aH 1 [0] m;simp only[↓U];exact ap _ _ _ (by kernel_rfl) m ⟨_,O,O,M⟩
     apply L 1 [0] m;simp only[↓U];exact ap _ _ _ (by kernel_rfl) m ⟨_,O,O,hc⟩
   intro vs i wr m j u
   obtain⟨ns,rfl,rfl,hc⟩:=j;simp only[zF,zG] at m;simp only[zu,zF,zG];apply aT 6 [0] m;simp only[↓U];apply I0;omega;exact av (4-(k+1)) _ _ (by omega) (by kernel_rfl) ⟨k+1,_,O,m,hc,by omega,O⟩
  apply L 1 [0] m;simp only[↓U];exact Gj O ⟨_,O,_,hc,m.sel [Z,Z]⟩
 apply L 1 [0] m;simp only[↓U];exact Gj O ⟨_,O,_,hc,m.sel [X3,Z,Z]⟩
def Zw(b:Bool):List aj:=[.bool b]
def abA:List Bool->Nat
 | []=>0
 | b::l=>(if b then 0 else 1)+abA l
def Ja:∀{l:List Bool} {x:Nat},l[x]? = X4 X3->abA (l.set x Z)+1=abA l
 | b::l,0,h=>by
  cases (show b=X3 by simpa using h);simp[abA];omega
 | b::l,x+1,h=>by
  have:=Ja (l:=l) (x:=x) (by simpa using h);simp only[List.set_cons_succ,abA];omega
 | [],x,h=>by simp at h
def iQ.putB{bs ns}(h:iQ bs ns){v:Nat}{q:Bool}:iQ (bs.set v q) ns:=⟨by rw[fm];exact h.b,h.n,h.r⟩
def iQ.overB{bs ns}(h:iQ bs ns){v:Nat}{q:Bool}(a:v<8):Lith.over (lF bs ns) v [.bool q]=lF (bs.set v q) ns:=by
 rw[Ga (by rw[h.len];omega),lF,List.set_append_left _ _ (by rw[cj,h.b];exact a),lF,qe]
def atC{a:Addr}{v:aj}(h:kV w (a.add (n*1)) [v]):w.cell? (a.add n)=X4 v:=by
 have:=h 0 v rfl;rw[dt] at this;exact this
def apC{a:List Bool}(h:x<a.length):over (a.map bw) x [.bool Z]=(a.set x Z).map bw:=by
 rw[Ga (by rw[cj];exact h),qe]
def apD{ins:List Bool}{cx cy cz:Nat}(w:ak)(hF:uD Zw 1 w A 125 ins)(hx:cx<=3)(hy:cy<=3)(hz:cz<=3):cY prog 143 [.agg #[X6 2,.slice A 125 ci],.agg #[X6 (cx:Int),X6 (cy:Int),X6 (cz:Int)]] w (λv w'=>∃ts:List T3,(ts.length<=24/\∀t∈ts,SmT t)/\SL 39 9 (ts.flatMap aL) ts.length w v w'):=by
 refine⟨bJ func143 (by kernel_rfl),?_⟩;have m:=Mem.refl w
 go_enter func143,ntmps143
 apply gH 9 [] m;simp only[↓U,ar5,aa];intro M B u m;apply Mr 1 [] m;simp only[↓U];intro g3 u m;apply aT 8 [0] m;simp only[↓U];refine bT [6] [17,18,19,20,21,22,23,24,25,26,27,28,29,30,31,32,33,34,35,36,37,38,39,40,41,42,43,44,45,46,47,48] (λn vs f=>∃(v:Nat) (bs:List Bool),vs=[X6 (v:Int)]/\Mem w f [bI g3 (lF bs (di 24 0)) 264,bI B [X6 (cx:Int),X6 (cy:Int),X6 (cz:Int)] 36,bI M [X6 2,.slice A 125 ci] 139]/\(iQ bs (di 24 0))/\(v<=8)/\(n=8-v)) ?_ ?_
 .exact⟨_,0,di 8 X3,O,m,⟨O,O,by decide⟩,by omega,O⟩
 intro n vs wr d u K1 al
 obtain⟨v,bs,rfl,m,hc,hv,F⟩:=d;simp only[zu,zF,zG];apply L 6 [0,0] m;simp only[↓U];refine bC O ?_ ?_<;>intro aO
 .have Y:v<8:=by omega
  apply L 3 [] m;simp only[↓U];obtain⟨bq,aJ,a,hA,aA⟩:=hF.get (i:=((cz+v / 4)*5+(cy+v / 2%2))*5+(cx+v%2)) (by omega);subst hA;refine gc (cI m 28 aB (by kernel_rfl) ?_);simp only[zy];refine cX 9 [3,3,2] ?_;simp only[↓U,sP,Ov,Dx,dC,fD,aa,ad,ag];apply I0;omega;refine aK (lH O O (Vi Y)) (cX 4 [2] ?_);simp only[↓U,fD,dC,ad,ag,aa];apply I0;omega;refine aK (kW O O (by omega) afw) (aK (lH O O (Vi (k:=v / 2) (by omega))) ?_);refine cX 4 [2] ?_;simp only[↓U,fD,dC,ad,ag,aa];apply I0;omega;refine aK (kW O O (by omega) aby) ?_;simp only[G];refine aK (fU O O (bZ (by omega) (by omega))) ?_;simp only[G];refine eH O O (yW (x:=cx+v%2) (y:=cy+v / 2%2) (z:=cz+v / 4) (by omega) (by omega) (by omega)) (cX 5 [0,3] ?_);simp only[↓U,Yu,qR,Mx,ah,ai,dt,aa];refine⟨_,λu m=>(lies1 (atC (aA.ext m.ext)) pK),by omega,?_⟩;refine aZ ?_;intro u m;refine dD m 0 O O O jZ (by rw[hc.len];show _+1<=_;omega) ⟨rfl,rfl⟩ ?_;intro u m;simp only[G] at m;rw[hc.overB Y] at m;refine aI ?_;apply aT 6 [0] m;simp only[↓U];apply I0;omega;exact al (8-(v+1)) _ _ (by omega) (by kernel_rfl) ⟨v+1,_,O,m,hc.putB,by omega,O⟩
 apply L 7 [0] m;simp only[↓U];refine bT [7] [49,50,51,52,53,54,55,56,57] (λn vs f=>∃(e:Nat) (ns:List Int),vs=[X6 (e:Int)]/\Mem w f [bI g3 (lF bs ns) 264,bI B [X6 (cx:Int),X6 (cy:Int),X6 (cz:Int)] 36,bI M [X6 2,.slice A 125 ci] 139]/\(iQ bs ns)/\(e<=24)/\(n=24-e)) ?_ ?_
 .exact⟨_,0,_,O,m,hc,by omega,O⟩
 intro n vs wr d u K2 an
 obtain⟨e,ns,rfl,m,hc,he,F⟩:=d;simp only[zu,zF,zG];apply L 6 [0,0] m;simp only[↓U];refine bC O ?_ ?_<;>intro V
 .have S:e<24:=by omega
  apply L 8 [0] m;simp only[↓U,vY,aa];refine aD (aN Ij aY O O (by omega) (by omega) Vm) ?_;simp only[G];refine dD m 0 O O O aY (by rw[hc.len];show _+1<=_;omega) ⟨rfl,rfl⟩ ?_;intro u m;simp only[G] at m;rw[hc.over S] at m;apply aH 7 [0] m;simp only[↓U];apply I0;omega;exact an (24-(e+1)) _ _ (by omega) (by kernel_rfl) ⟨e+1,_,O,m,hc.put (by omega),by omega,O⟩
 apply L 7 [0] m;simp only[↓U];refine bT [8] [58,59,60,61,62,63,64,65,66,67] (λn vs f=>∃(a:Nat) (ns:List Int),vs=[X6 (a:Int)]/\Mem w f [bI g3 (lF bs ns) 264,bI B [X6 (cx:Int),X6 (cy:Int),X6 (cz:Int)] 36,bI M [X6 2,.slice A 125 ci] 139]/\(iQ bs ns)/\(a<=3)/\(n=3-a)) ?_ ?_
 .exact⟨_,0,_,O,m,hc,by omega,O⟩
 intro n vs wr d u K3 ao
 obtain⟨a,ns,rfl,m,hc,ha,F⟩:=d;simp only[zu,zF,zG];apply L 6 [0,0] m;simp only[↓U];refine bC O ?_ ?_<;>intro W
 .have aG:a<3:=by omega
  apply L 7 [0] m;simp only[↓U];replace m:=m.pull 0 O;simp only[dZ,eA,zF,zG] at m;replace m:=m.pack1;refine kA O O (adA m hc (by omega)) ?_;rintro v u ⟨aU,V,m⟩;simp only[G];replace m:=Mem.unpack [_] m;simp only[cq,bz] at m;apply aH 4 [0] m;simp only[↓U];replace m:=m.pull 0 O;simp only[dZ,eA,zF,zG] at m;replace m:=m.pack1;refine kA O O (adA m V (by omega)) ?_;rintro v u ⟨aV,W,m⟩;simp only[G];replace m:=Mem.unpack [_] m;simp only[cq,bz] at m;apply aH 7 [0] m;simp only[↓U];apply I0;omega;exact ao (3-(a+1)) _ _ (by omega) (by kernel_rfl) ⟨a+1,_,O,m,W,by omega,O⟩
 apply L 6 [3,0] m;simp only[↓U,Dx,dC,aa,qr];apply I0;omega;refine aD (rF O O (by omega) (show IntKind.i64.wrap (1*2^min (kj 19) IntKind.i64.bits)=524288 from by decide)) ?_;apply aH 4 [0] m;simp only[↓U];refine aD aM ?_;replace m:=m.nilO 39 9;apply aH 4 [] m;simp only[↓U,ar8,aa];apply Mr 1 [] m;simp only[↓U,ar7];intro T u m;apply Mr 1 [0] m;simp only[↓U,ar6,aa];intro u m;apply aT 7 [0] m;simp only[↓U];refine bT [10,12] [13,14,73,74,75,76,77,78,79,80,81,82,83,84,85,86,87,88,89,90,91,92,93,94,95,96,97,98,99,100,101,102,103,104,105,106,107,108,109,110,111,112] (λn vs f=>∃(e j:Nat) (ts:List T3) (c:List Bool) (l:Option Addr) (r:Nat),vs=[.slice l j r,X6 (e:Int)]/\Mem w f [bI T (c.map bw) 266,oI 39 9 l j r (ts.flatMap aL),bI g3 (lF bs ns) 264,bI B [X6 (cx:Int),X6 (cy:Int),X6 (cz:Int)] 36]/\(c.length=24)/\(ts.length=j)/\(∀t∈ts,SmT t)/\(j+abA c<=24)/\(e<=24)/\(n=24-e)) ?_ ?_
 .exact⟨_,0,0,[],di 24 X3,X5,0,O,(m.sel [Z,Z,Z,Z,X3]),O,O,by simp,by decide,by omega,O⟩
 intro n vs wr d u K4 J
 obtain⟨e,j,ts,c,l,r,rfl,m,g,P,D,au,he,F⟩:=d;simp only[zu,zF,zG];apply L 6 [0,0] m;simp only[↓U];refine bC O ?_ ?_<;>intro aP
 .have S:e<24:=by omega
  apply L 5 [0] m;simp only[↓U];refine aD aM ?_;replace m:=m.nilO 30 3;apply aH 8 [0] m;simp only[↓U];refine bT [13,14] [78,79,80,81,82,83,84,85,86,87,88,89,90,91,92,93,94,95,96,97,98,99,100,101,102,103,104,105] (λn vs f=>∃(x E:Nat) (ps:List H) (c:List Bool) (I:Option Addr) (K:Nat),vs=[.slice I E K,X6 (x:Int)]/\Mem w f [oI 30 3 I E K (ps.flatMap bH),bI T (c.map bw) 266,oI 39 9 l j r (ts.flatMap aL),bI g3 (lF bs ns) 264,bI B [X6 (cx:Int),X6 (cy:Int),X6 (cz:Int)] 36]/\(c.length=24)/\(ps.length=E)/\(∀p∈ps,Sm p)/\(j+E+abA c<=24)/\(x<24)/\(n=abA c)) ?_ ?_
  .exact⟨_,e,0,[],c,X5,0,O,m,g,O,by simp,by omega,S,O⟩
  intro n vs wr d u K5 ap
  obtain⟨x,E,ps,c,I,K,rfl,m,g,av,Q,au,af,F⟩:=d;obtain⟨q,hq,aR⟩:=hc.nx af;obtain⟨y,ab⟩:∃y,c[x]? = X4 y:=⟨_,am (by omega)⟩
  have ae:(c.map bw)[x]? = X4 (.bool y):=by rw[fi,ab];rfl
  simp only[zu,zF,zG];apply L 2 [] m;simp only[↓U];rcases (show ¬0<=q\/(0<=q/\y=Z)\/(0<=q/\y=X3) by cases y <;> simp <;> omega) with X | ⟨X,rfl⟩ | ⟨X,rfl⟩
  .apply aT 5 [0] m;simp only[↓U,vY,aa];refine aD (aN Ij aY O O (by omega) (by omega) Vm) ?_;apply aH 17 [0,2,2,0,0,0,0,0,0] m;simp only[↓U,gV];refine⟨_,λu m=>(lies1 ((m.b 3 O).cell hq) bK),by omega,?_⟩;refine bC O ?_ ?_<;>intro ar
   .apply L 3 [0] m;simp only[↓U];refine bF O O (agX _ ((m.o 0 O).lat (enc:=bH) (λ_=>rfl) (by decide)) (by omega) (by omega) Q) ?_;rintro v u s ⟨us,R,aj,aE,ay,az,rfl,C⟩;replace m:=m.newO s C;simp only[G];refine bN m 3 O O fC iO O (by decide) O O (m.o 0 O).own.1 (m.o 0 O).row (xW _) (by omega) (by omega) ?_;intro l r u m;simp only[zF,zG] at m;rw[<-aw] at m;apply aH 8 [0] m;simp only[↓U];apply I0;omega;exact J (24-(e+1)) _ _ (by omega) (by kernel_rfl) ⟨e+1,_,_,_,_,_,O,(m.sel [X3,X3,Z,Z,Z,Z]),g,by rw[aq];omega,λt N=>(bh.1 N).elim (D t) (R.2 t),by omega,by omega,rfl⟩
   apply L 7 [0] m;simp only[↓U];apply I0;omega;exact J (24-(e+1)) _ _ (by omega) (by kernel_rfl) ⟨e+1,_,_,_,_,_,O,(m.sel [X3,Z,Z,Z,Z]),g,P,D,by omega,by omega,O⟩
  .apply aT 5 [0] m;simp only[↓U,vY,aa];refine aD (aN Ij aY O O (by omega) (by omega) Vm) ?_;apply aH 17 [0,2,1,0,0,0,0,3,0,0,0] m;simp only[↓U,akQ,gV,ah,ai,dt,f_,gd];refine⟨_,λu m=>(lies1 ((m.b 3 O).cell hq) bK),_,λu m=>(lies1 ((m.b 1 O).cell ae) pK),by omega,?_⟩;refine bC O ?_ ?_<;>intro ar
   .apply L 3 [0] m;simp only[↓U];refine bF O O (agX _ ((m.o 0 O).lat (enc:=bH) (λ_=>rfl) (by decide)) (by omega) (by omega) Q) ?_;rintro v u s ⟨us,R,aj,aE,ay,az,rfl,C⟩;replace m:=m.newO s C;simp only[G];refine bN m 3 O O fC iO O (by decide) O O (m.o 0 O).own.1 (m.o 0 O).row (xW _) (by omega) (by omega) ?_;intro l r u m;simp only[zF,zG] at m;rw[<-aw] at m;apply aH 8 [0] m;simp only[↓U];apply I0;omega;exact J (24-(e+1)) _ _ (by omega) (by kernel_rfl) ⟨e+1,_,_,_,_,_,O,(m.sel [X3,X3,Z,Z,Z,Z]),g,by rw[aq];omega,λt N=>(bh.1 N).elim (D t) (R.2 t),by omega,by omega,rfl⟩
   apply L 7 [0] m;simp only[↓U];apply I0;omega;exact J (24-(e+1)) _ _ (by omega) (by kernel_rfl) ⟨e+1,_,_,_,_,_,O,(m.sel [X3,Z,Z,Z,Z]),g,P,D,by omega,by omega,O⟩
  apply aT 5 [0] m;simp only[↓U,vY,aa];refine aD (aN Ij aY O O (by omega) (by omega) Vm) ?_;apply aH 17 [0,2,1,0,0,0,0,3,0,0] m;simp only[↓U,akQ,ah,ai,dt,f_,gd];refine⟨_,λu m=>(lies1 ((m.b 3 O).cell hq) bK),_,λu m=>(lies1 ((m.b 1 O).cell ae) pK),by omega,?_⟩;refine dD m 1 O O O jZ (by rw[cj];show _+1<=_;omega) ⟨rfl,rfl⟩ ?_;intro u m;simp only[G] at m;rw[apC (by omega)] at m;apply aH 6 [5,0] m;simp only[↓U,vV];refine cK m O O (aiz _ (by omega) (by omega) (by omega) af) ?_;rintro v u m ⟨pp,rfl,ax⟩;simp only[G];refine kH O ?_;intro u g5 s C k_;replace m:=m.newB s C k_;simp only[G];refine bN m 1 O O eR mK O (by decide) O O O (m.b 0 O).rowsO (fN O) (by omega) (by omega) ?_;intro I K u m;simp only[zF,zG] at m;rw[show ps.flatMap bH++_=(ps++[pp]).flatMap bH by rw[aw];rfl] at m;apply aH 8 [0] m;simp only[↓U,vY,aa];refine aD (aN Ij aY O O (by omega) (by omega) Vm) ?_;apply aH 3 [0,2,0] m;simp only[↓U];refine⟨_,λu m=>(lies1 ((m.b 4 O).cell hq) bK),?_⟩;have aQ:=Ja ab;obtain⟨z,rfl⟩:∃z:Nat,q=z:=⟨q.toNat,by omega⟩
  exact ap (abA (c.set x Z)) _ _ (by omega) (by kernel_rfl) ⟨z,_,_,_,_,_,O,(m.sel [X3,Z,Z,Z,Z,Z]),by rw[fm];exact g,by rw[aq,av];rfl,λp hp=>(bh.1 hp).elim (Q p) λh=>by cases a_.1 h;exact ax,by omega,by omega,O⟩
 apply L 7 [] m;simp only[↓U];exact aS O O ⟨_,O,m.ext,ts,⟨by omega,D⟩,_,_,_,P.symm,O,(m.o 1 O)⟩
def aiB{ins:List Bool}(w:ak)(hF:uD Zw 1 w A 125 ins):cY prog 142 [.agg #[X6 2,.slice A 125 ci]] w (λv _=>∃c,v=.bool c):=by
 refine⟨bJ func142 (by kernel_rfl),?_⟩;have m:=Mem.refl w
 go_enter func142,ntmps142
 apply gH 17 [1,2,0,0,1,0,0,0] m;simp only[↓U,Dx,dC,aa];intro b;apply I0;omega;intro u m;refine bC O ?_ ?_<;>intro r
 .apply L 5 [] m;simp only[↓U];exact aS O O ⟨_,O,m.ext,_,O⟩
 apply L 5 [1,0] m;simp only[↓U,Dx,dC,aa];refine aD (rF O O (by omega) Vl) ?_;apply aH 24 [1,2,0] m;simp only[↓U,sP,Ov,ap6,an,aa,Int.reduceMul];apply I0;omega;refine bT [4] [2,5,6,7,8,30,31,32,33,34,35,36,37,38,39,40,41,42,43,44,45,46,47,48,49,50,51,52,53,54,55,56,57,58,59,60,61,62,63,64,65,66,67,68,69,70,71,72,73,74,75,76,77,78,79,80,81,82,83,84,85] (λn vs f=>∃(k:Nat),vs=[X6 (k:Int)]/\Mem w f [bI b [X6 2,.slice A 125 ci] 139]/\(k<=125)/\(n=125-k)) ?_ ?_
 .exact⟨_,0,O,m,by omega,O⟩
 intro n vs wr e u j g
 obtain⟨k,rfl,m,o,p⟩:=e;simp only[zu,zF,zG];apply L 9 [1,0,0] m;simp only[↓U,sP,Ov,ap6,aa];refine bC O ?_ ?_<;>intro s
 .obtain⟨l,q,a,d,h⟩:=hF.get (i:=k) (by omega);subst d;apply L 7 [0] m;simp only[↓U];refine aD (cT O O (by omega) (show ((k%5:Nat):Int)=_ from O)) ?_;apply aH 6 [0] m;simp only[↓U];refine aD (iU O O (by omega) (show IntKind.i64.wrap ((k / 5:Nat):Int)=_ from bZ (by omega) (by omega))) ?_;apply aH 1 [0] m;simp only[↓U];refine aD (cT O O (by omega) (show ((k / 5%5:Nat):Int)=_ from O)) ?_;apply aH 6 [0] m;simp only[↓U];refine aD (iU O O (by omega) (show IntKind.i64.wrap ((k / 5:Nat):Int)=_ from bZ (by omega) (by omega))) ?_;apply aH 1 [0] m;simp only[↓U];refine aD (iU O O (by omega) (show IntKind.i64.wrap ((k / 5 / 5:Nat):Int)=_ from bZ (by omega) (by omega))) ?_;apply aH 12 [0,3,0,3,0,5,0] m;simp only[↓U,qr];refine λ_=>λ_=>λ_=>⟨by omega,?_⟩
  apply aT 7 [5,0,5,0] m;simp only[↓U,qr];refine λ_=>λ_=>⟨by omega,?_⟩
  apply aT 9 [1,0,3,2,0] m;simp only[↓U,sP,Ov,Yu,aa,ah,ai,dt];refine⟨_,λu m=>(lies1 (atC (h.ext m.ext)) pK),λ_=>⟨by omega,?_⟩⟩;refine cL O ?_ ?_<;>intro t
  .apply L 5 [] m;simp only[↓U];exact aS O O ⟨_,O,m.ext,_,O⟩
  apply L 7 [0] m;simp only[↓U];apply I0;omega;exact g (125-(k+1)) _ _ (by omega) (by kernel_rfl) ⟨k+1,O,m,by omega,O⟩
 apply L 6 [] m;simp only[↓U];exact aS O O ⟨_,O,m.ext,_,O⟩
def apE(z:Int):List aj:=[X6 z]
def atD{ds:List Deferred}{Q:Exit->Act->ak->Prop}{w w0:ak}{is:List It}{c:Code}{a:Act}{l:Nat->Nat->List aj}{c1:List aj}{c2:Nat->List aj}{T1 T2:ba}(m:Mem w0 w is)(h1:c.wp prog (λe b u=>e=.normal/\∃g k,b=Fr (l g k) ds/\Mem w0 u (bI k (c2 g) T2::bI g c1 T1::is)) a w)
 (h2:∀g k u,Mem w0 u (bI k (c2 g) T2::bI g c1 T1::is)->Q .normal (Fr (l g k) ds) u):c.wp prog Q a w:=by
 refine Code.wp_mono ?_ h1;rintro e b u ⟨rfl,g,k,rfl,d⟩;exact h2 g k u d
def abB{ins:List Bool}{c:Bool}(h:i<ins.length):over (ins.map bw) i [.bool c]=(ins.set i c).map bw:=by
 rw[Ga (by rw[cj];exact h),qe]
def aiC{g:Nat}{ins:List Bool}{t:ba}(h:fQ w g (ins.map bw) t)(b:ins.length=n):uD Zw 1 w (X4 ⟨g,0,X5⟩) n ins:=⟨b,λi x c=>⟨_,rfl,λj u a=>by
 have h1:j=0:=by
  have:=(ao.1 a).1;simp[Zw] at this;omega
 subst h1;cases a;rw[cS,cS,ai,dt,Nat.add_zero];exact h.cell (by rw[fi,c];rfl)⟩⟩
def aiD(w:ak)(D:uD apE 1 w A N zs)(d:∀z∈zs,rS z):cY prog 84 [X6 2,.slice A N cap] w (λv w'=>∃A ci ins,v=.agg #[X6 2,.slice A 125 ci]/\uD Zw 1 w' A 125 ins):=by
 refine⟨bJ func84 (by kernel_rfl),?_⟩;have m:=Mem.refl w
 go_enter func84,ntmps84
 apply gH 5 [0] m;simp only[↓U,arV];intro B u m;apply atD m (T1:=4) (T2:=139)
 . skip
   refine Xg m [Z] (.take 0 (.take 1 (.take 2 (.take 3 (.take 4 (.take 5 (.take 6 (.take 7 (.take 8 (.take 9 (.take 10 (.take 11 (.two 12 (.take 13 (.one 14 (.one 15 .nil))) 14 (.one 12 (.take 13 (.one 15 .nil)))))))))))))))) aB (by kernel_rfl) (λ_ _ _ _ _ h=>by cases h.1) ?_;intro u m;refine eT (by simp only[zw];rfl) (bG aJ (bR (eT (by simp only[zw];rfl) (bG aJ (bR (eT (by simp only[zw];rfl) ?_))))));simp only[G];refine bG (rF O O (by omega) Vl) (bR (eT (by simp only[zw];rfl) (bG (fU (m:=4) (n:=1) (r:=5) rfl rfl (by decide)) (bR (eT (by simp only[zw];rfl) (bG aJ (bR (eT (by simp only[zw];rfl) ?_))))))));simp only[G];refine bG (rF O O (by omega) Vl) (bR (eT (by simp only[zw];rfl) (bG (fU (m:=4) (n:=1) (r:=5) rfl rfl (by decide)) (bR (eT (by simp only[zw];rfl) (bG (kS (m:=5) (n:=5) (r:=25) rfl rfl (by decide)) (bR (eT (by simp only[zw];rfl) (bG aJ ?_)))))))));simp only[G];refine bR (eT (by simp only[zw];rfl) (bG (rF rfl rfl (by omega) Vl) (bR (eT (by simp only[zw];rfl) (bG (fU (m:=4) (n:=1) (r:=5) rfl rfl (by decide)) (bR (eT (by simp only[zw];rfl) (bG (kS (m:=25) (n:=5) (r:=125) rfl rfl (by decide)) (bR ?_)))))))));simp only[G];refine abQ (by simp only[zw];rfl) (by simp only[zw];rfl) ?_ ?_
   .refine tZ underlying62 apT O O O (show _=125 by omega) (show _=125 by omega) (by omega) (by omega) (by omega) (by omega) ?_;intro u e f g j;replace m:=m.newB f g j;refine aI ⟨m.sel [X3,Z],?_⟩;refine eT (by simp only[zw];rfl) (bG (By rfl rfl) (bR (nT (by simp only[zw];rfl) ?_)));simp only[G];refine mH m Tb O ?_;intro g3 u m;refine aI ⟨m.sel [X3,X3,Z],?_⟩;refine nT (by simp only[zw];rfl) ?_;simp only[G];refine bP m 0 O O O Mj (gS O) O ?_;intro u m;simp only[zy,zx,over,zF,zG,aa] at m;refine aI ⟨m.sel [X3,X3,Z],?_⟩;exact Gl ⟨O,e,g3,O,m⟩
   refine mH m Tb O ?_;intro e u m;refine aI ⟨m.sel [X3,Z],?_⟩;refine nT (by simp only[zw];rfl) ?_;simp only[G];refine tZ underlying62 apT O O O (show _=125 by omega) (show _=125 by omega) (by omega) (by omega) (by omega) (by omega) ?_;intro u g3 f g j;replace m:=m.newB f g j;refine aI ⟨m.sel [X3,X3,Z],?_⟩;refine eT (by simp only[zw];rfl) (bG (By rfl rfl) (bR (nT (by simp only[zw];rfl) ?_)));simp only[G];refine bP m 1 O O O Mj (gS O) O ?_;intro u m;simp only[zy,zx,over,zF,zG,aa] at m;refine aI ⟨m.sel [X3,X3,Z],?_⟩;exact Gl ⟨O,g3,e,O,m.s01⟩
 intro e g3 u m;try dsimp only
 apply aT 3 [0] m;simp only[↓U];refine aD (rF O O (by omega) Vl) ?_;apply aH 9 [0] m;simp only[↓U,qr];apply I0;omega;refine bT [7] [8,9,10,11,12,30,31,32,33,34,35,36,37,38,39,40,41,42,43,44,45,46,47,48,49,50,51,52,53,54,55,56,57,58,59,60,61,62,63,64,65,66,67,68,69,70,71,72,73,74,75,76,77,78,79,80,81,82,83,84,85,86,87,88,89,90,91,92,93,94,95,96,97,98,99,100,101,102,103,104,105,106,107,108,109,110,111,112,113,114,115,116,117,118,119,120,121,122,123,124,125,126,127,128,129,130,131,132,133,134,135,136,137,138,139,140,141,142,143] (λn vs E=>∃(k:Nat) (ins:List Bool),vs=[X6 (k:Int)]/\Mem w E [bI g3 [X6 2,.slice (X4 ⟨e,0,X5⟩) 125 125] 139,bI e (ins.map bw) 4,bI B [X6 0,.slice X5 0 0] 139]/\(ins.length=125)/\(k<=60/\k<=N)/\(n=60-k)) ?_ ?_
 .exact⟨_,0,di 125 X3,O,m,O,by omega,O⟩
 intro n vs wr d u K F
 obtain⟨k,ins,rfl,m,c,T,V⟩:=d;simp only[zu,zF,zG];apply L 10 [0,3,0,0] m;simp only[↓U,kO];refine λ_=>?_;refine cL O ?_ ?_<;>intro H
 .have ad:k<N/\k<60:=by simp only[bg,R] at H;omega
  obtain⟨q,hq,a,C,J⟩:=D.get (i:=k) (by omega);subst C;have I:=d q (bf hq);unfold rS at I;apply L 17 [0,2,0] m;simp only[↓U,Ou,ah,ai,dt];refine⟨_,λu m=>(lies1 (atC (J.ext m.ext)) bK),by omega,?_⟩;refine gc (Tf m [8] [46,47] (λvs=>∃(z:Nat),vs=[X6 (z:Int)]/\(z<9223372036854775808)) ?_ ?_)
  . intro M o
    refine bC O ?_ ?_<;>intro W
    .apply L 5 [0] m;simp only[↓U];apply I0;omega;obtain⟨z,l⟩:∃z:Nat,(z:Int) = -1-q:=⟨(-1-q).toNat,by omega⟩
     rw[<-l];exact o _ _ (by kernel_rfl) m ⟨z,O,by omega⟩
    apply L 1 [0] m;simp only[↓U];obtain⟨z,rfl⟩:∃z:Nat,q=z:=⟨q.toNat,by omega⟩
    exact o _ _ (by kernel_rfl) m ⟨z,O,by omega⟩
  intro vs wr m d u
  obtain⟨z,rfl,l⟩:=d;simp only[zu,zF,zG];apply aT 4 [0] m;simp only[↓U];refine aD (cT O O (by omega) (show ((z%3:Nat):Int)=_ from O)) ?_;apply aH 6 [0] m;simp only[↓U];refine aD (iU O O (by omega) (show IntKind.i64.wrap ((z / 3:Nat):Int)=_ from bZ (by omega) (by omega))) ?_;apply aH 1 [0] m;simp only[↓U];refine aD (cT O O (by omega) (show ((z / 3%3:Nat):Int)=_ from O)) ?_;apply aH 6 [0] m;simp only[↓U];refine aD (iU O O (by omega) (show IntKind.i64.wrap ((z / 3:Nat):Int)=_ from bZ (by omega) (by omega))) ?_;apply aH 1 [0] m;simp only[↓U];refine aD (iU O O (by omega) (show IntKind.i64.wrap ((z / 3 / 3:Nat):Int)=_ from bZ (by omega) (by omega))) ?_;apply aH 1 [0] m;simp only[↓U];refine aD (cT O O (by omega) (show ((z / 3 / 3%3:Nat):Int)=_ from O)) ?_;apply aH 6 [0] m;simp only[↓U];refine aD (iU O O (by omega) (show IntKind.i64.wrap ((z / 3:Nat):Int)=_ from bZ (by omega) (by omega))) ?_;apply aH 1 [0] m;simp only[↓U];refine aD (iU O O (by omega) (show IntKind.i64.wrap ((z / 3 / 3:Nat):Int)=_ from bZ (by omega) (by omega))) ?_;apply aH 1 [0] m;simp only[↓U];refine aD (iU O O (by omega) (show IntKind.i64.wrap ((z / 3 / 3 / 3:Nat):Int)=_ from bZ (by omega) (by omega))) ?_;apply aH 3 [0] m;simp only[↓U];refine cI m 14 aB (by kernel_rfl) ?_;simp only[zy];refine cX 9 [1] ?_;simp only[↓U,sP,Ov,aa];apply I0;omega;refine eH O O (yW (x:=1+z%3) (y:=1+z / 3%3) (z:=1+z / 3 / 3%3) (by omega) (by omega) (by omega)) (aK aJ (aK (lH O O O) (aK (Im O O) ?_)));simp only[G];refine cX 1 [] ?_;simp only[↓U,Yu,ah,ai,dt];apply I0;omega;refine aZ ?_;intro u m;refine dD m 1 O O O jZ (by simp only[cj,fm,ay,bm,c];omega) ⟨rfl,rfl⟩ ?_;intro u m;simp only[G] at m;rw[abB (by simp only[fm,c];omega)] at m;refine aI ?_;apply aT 4 [0] m;simp only[↓U];refine aD (lH O O O) ?_;apply aH 2 [0,0] m;simp only[↓U];refine gY m 1 [] [87,88,89,90,91,92,93,94,95,96,97,98,99,100,101,102,103] (λvs i=>∃(ins:List Bool),vs=[]/\i=bI e (ins.map bw) 4/\(ins.length=125)) ?_ ?_
  . intro P p
    refine bC O ?_ ?_<;>intro X
    .refine cI m 17 aB (by kernel_rfl) ?_;simp only[zy];refine cX 6 [1] ?_;simp only[↓U,sP,Ov,aa];apply I0;omega;refine aK (cT O O (by omega) (show (((z%3+1)%3:Nat):Int)=_ from O)) (cX 5 [] ?_);simp only[↓U];apply I0;omega;refine eH O O (yW (x:=1+(z%3+1)%3) (y:=1+z / 3%3) (z:=1+z / 3 / 3%3) (by omega) (by omega) (by omega)) (aK aJ (aK (lH O O O) (aK (Im O O) ?_)));simp only[G];refine cX 1 [] ?_;simp only[↓U,Yu,ah,ai,dt];apply I0;omega;refine aZ ?_;intro u m;refine dD m 1 O O O jZ (by simp only[cj,fm,ay,bm,c];omega) ⟨rfl,rfl⟩ ?_;intro u m;simp only[G] at m;rw[abB (by simp only[fm,c];omega)] at m;refine aI (gk ?_);exact p _ _ _ (by kernel_rfl) m ⟨_,O,O,by simp only[fm];exact c⟩
    apply L 1 [0] m;simp only[↓U];exact p _ _ _ (by kernel_rfl) m ⟨_,O,O,by first | exact c | (simp only[fm];exact c)⟩
  intro vs i wr m d u
  obtain⟨ins,rfl,rfl,c⟩:=d;simp only[zF,zG] at m;simp only[zu,zF,zG];apply aT 4 [0] m;simp only[↓U];refine aD (lH O O O) ?_;apply aH 2 [0,0] m;simp only[↓U];refine gY m 1 [] [107,108,109,110,111,112,113,114,115,116,117,118,119,120,121,122,123] (λvs i=>∃(ins:List Bool),vs=[]/\i=bI e (ins.map bw) 4/\(ins.length=125)) ?_ ?_
  . intro Q s
    refine bC O ?_ ?_<;>intro Y
    .refine cI m 17 aB (by kernel_rfl) ?_;simp only[zy];refine cX 8 [1] ?_;simp only[↓U,sP,Ov,aa];apply I0;omega;refine aK (cT O O (by omega) (show (((z / 3%3+1)%3:Nat):Int)=_ from O)) (cX 3 [] ?_);simp only[↓U];apply I0;omega;refine eH O O (yW (x:=1+z%3) (y:=1+(z / 3%3+1)%3) (z:=1+z / 3 / 3%3) (by omega) (by omega) (by omega)) (aK aJ (aK (lH O O O) (aK (Im O O) ?_)));simp only[G];refine cX 1 [] ?_;simp only[↓U,Yu,ah,ai,dt];apply I0;omega;refine aZ ?_;intro u m;refine dD m 1 O O O jZ (by simp only[cj,fm,ay,bm,c];omega) ⟨rfl,rfl⟩ ?_;intro u m;simp only[G] at m;rw[abB (by simp only[fm,c];omega)] at m;refine aI (gk ?_);exact s _ _ _ (by kernel_rfl) m ⟨_,O,O,by simp only[fm];exact c⟩
    apply L 1 [0] m;simp only[↓U];exact s _ _ _ (by kernel_rfl) m ⟨_,O,O,by first | exact c | (simp only[fm];exact c)⟩
  intro vs i wr m d u
  obtain⟨ins,rfl,rfl,c⟩:=d;simp only[zF,zG] at m;simp only[zu,zF,zG];apply aT 3 [0] m;simp only[↓U];refine aD (lH O O O) ?_;apply aH 2 [0,0] m;simp only[↓U];refine gY m 1 [] [127,128,129,130,131,132,133,134,135,136,137,138,139,140,141,142,143] (λvs i=>∃(ins:List Bool),vs=[]/\i=bI e (ins.map bw) 4/\(ins.length=125)) ?_ ?_
  . intro S t
    refine bC O ?_ ?_<;>intro ab
    .refine cI m 17 aB (by kernel_rfl) ?_;simp only[zy];refine cX 10 [1] ?_;simp only[↓U,sP,Ov,aa];apply I0;omega;refine aK (cT O O (by omega) (show (((z / 3 / 3%3+1)%3:Nat):Int)=_ from O)) ?_;simp only[G];refine aK (fU O O (bZ (by omega) (by omega))) ?_;simp only[G];refine eH O O (yW (x:=1+z%3) (y:=1+z / 3%3) (z:=1+(z / 3 / 3%3+1)%3) (by omega) (by omega) (by omega)) (aK aJ (aK (lH O O O) (aK (Im O O) ?_)));simp only[G];refine cX 1 [] ?_;simp only[↓U,Yu,ah,ai,dt];apply I0;omega;refine aZ ?_;intro u m;refine dD m 1 O O O jZ (by simp only[cj,fm,ay,bm,c];omega) ⟨rfl,rfl⟩ ?_;intro u m;simp only[G] at m;rw[abB (by simp only[fm,c];omega)] at m;refine aI (gk ?_);exact t _ _ _ (by kernel_rfl) m ⟨_,O,O,by simp only[fm];exact c⟩
    apply L 1 [0] m;simp only[↓U];exact t _ _ _ (by kernel_rfl) m ⟨_,O,O,by first | exact c | (simp only[fm];exact c)⟩
  intro vs i wr m d u
  obtain⟨ins,rfl,rfl,c⟩:=d;simp only[zF,zG] at m;simp only[zu,zF,zG];apply aT 6 [0] m;simp only[↓U];apply I0;omega;exact F (60-(k+1)) _ _ (by omega) (by kernel_rfl) ⟨k+1,_,O,m,c,by omega,O⟩
 apply xI 7 [1,2] m;simp only[↓U,aeR,aa];intro u m;exact aS O ⟨_,O,((m.b 2 O).full anZ Mj)⟩ ⟨_,O,m.ext,_,_,ins,O,aiC (m.b 1 O) c⟩
def afz{x:Int}(h:rS x):∃r,rv x (2^min (kj 10) IntKind.i64.bits)=r/\rS r:=by
 refine⟨_,O,?_⟩;rw[show (2:Int)^min (kj 10) IntKind.i64.bits=1024 from rfl,ip _ (by decide)];unfold rS at h ⊢;omega
theorem apF{x y z:Int}(h:∀t∈ts,IT t)(i:ts[k]? = X4 t)(a:rS x)(b:rS y)(d:rS z):∀u∈ts.set k (t.setC c ⟨x,y,z⟩),IT u:=λu j=>(jp j).elim (h u) λe=>by
 obtain⟨f,g,hc⟩:=h t (bf i);subst e;unfold T3.setC;split
 .exact⟨⟨a,b,d⟩,g,hc⟩
 split
 .exact⟨f,⟨a,b,d⟩,hc⟩
 exact⟨f,g,⟨a,b,d⟩⟩
def atE(h:IT t)  : rS (t.cor c).x/\rS (t.cor c).y/\rS (t.cor c).z:=by
 obtain⟨⟨a,b,a3⟩,⟨d,e,f⟩,⟨c1,c2,g⟩⟩:=h;unfold T3.cor;split
 .exact⟨a,b,a3⟩
 split
 .exact⟨d,e,f⟩
 exact⟨c1,c2,g⟩
def am4{g o:Nat}:(⟨g,o,X5⟩:Addr).add ((k:Int).toNat*c)=⟨g,o+k*c,X5⟩:=by rw[ah];exact cS ..
def am5{g:Nat}:(⟨g,0,X5⟩:Addr).add ((k:Int).toNat*c)=⟨g,k*c,X5⟩:=by rw[am4,ai]
def apG{S:List (Option Nat)}{E:ba}(h:Ow w0 w S E 9 A n cap (ts.flatMap aL))(b:k<n)(hc:c<3):∃g t,A=X4 ⟨g,0,X5⟩/\ts[k]? = X4 t/\kV w ⟨g,k*9+c*3,X5⟩ [X6 (t.cor c).x,X6 (t.cor c).y,X6 (t.cor c).z]:=by
 obtain⟨g,rfl⟩:=h.some (by omega);obtain⟨t,d,a,e,hr⟩:=(h.lat (enc:=aL) anA (by decide)).get b;cases e;have:=hr.cor hc;rw[cS,cS,ai] at this;exact⟨g,t,O,d,this⟩
def adB{ins:List Bool}(w:ak)(hF:uD Zw 1 w A 125 ins):cY prog 83 [.agg #[X6 2,.slice A 125 ci]] w (λv w'=>∃ts:List T3,(ts.length<=1536/\∀t∈ts,IT t)/\SL 39 9 (ts.flatMap aL) ts.length w v w'):=by
 refine⟨bJ func83 (by kernel_rfl),?_⟩;have m:=Mem.refl w
 go_enter func83,ntmps83
 apply gH 8 [1,0] m;simp only[↓U,aeR];intro j u m;refine cK m O O (aiB _ (hF.ext m.ext)) ?_;rintro v u m ⟨c,rfl⟩;apply aH 8 [0] m;simp only[↓U];refine gF O ?_ ?_<;>intro P
 .apply L 5 [] m;simp only[↓U];exact aS O O ⟨_,O,m.ext,[],⟨by simp,by simp⟩,X5,0,0,O,O,Ow.nil _ _ _ _⟩
 apply L 5 [1,0] m;simp only[↓U,Dx,dC,aa];refine aD (rF O O (by omega) Vl) ?_;apply aH 4 [0] m;simp only[↓U];refine aD aM ?_;replace m:=m.nilO 39 9;apply aH 7 [0] m;simp only[↓U];refine bT [5,6] [7,8,16,17,18,19,20,21,22,23,24,25,26,27,28,29,30,31,32,33,34,35,36,37,38] (λn vs h=>∃(z:Nat) (a:Nat) (ts:List T3) (b:Option Addr) (d:Nat),vs=[.slice b a d,X6 (z:Int)]/\Mem w h [oI 39 9 b a d (ts.flatMap aL),bI j [X6 2,.slice A 125 ci] 139]/\(ts.length=a)/\(∀t∈ts,SmT t)/\(a<=384*z)/\(z<=4)/\(n=4-z)) ?_ ?_
 .exact⟨_,0,0,[],X5,0,O,m,O,by simp,by omega,by omega,O⟩
 intro n vs wr g u E q
 obtain⟨z,a,ts,b,d,rfl,m,f,e,l,K,Y⟩:=g;simp only[zu,zF,zG];apply L 7 [0,0] m;simp only[↓U];refine bC O ?_ ?_<;>intro Q
 .apply L 8 [0] m;simp only[↓U];refine bT [5,7] [8,21,22,23,24,25,26,27,28,29,30,31,32,33,34,35,36,37,38] (λn vs h=>∃(y:Nat) (a:Nat) (ts:List T3) (b:Option Addr) (d:Nat),vs=[.slice b a d,X6 (y:Int)]/\Mem w h [oI 39 9 b a d (ts.flatMap aL),bI j [X6 2,.slice A 125 ci] 139]/\(ts.length=a)/\(∀t∈ts,SmT t)/\(a<=384*z+96*y)/\(y<=4)/\(n=4-y)) ?_ ?_
  .exact⟨_,0,_,_,_,_,O,m,f,e,by omega,by omega,O⟩
  intro n vs wr g u F r
  obtain⟨y,a,ts,b,d,rfl,m,f,e,l,J,X⟩:=g;simp only[zu,zF,zG];apply L 7 [0,0] m;simp only[↓U];refine bC O ?_ ?_<;>intro R
  .apply L 8 [0] m;simp only[↓U];refine bT [5,8] [26,27,28,29,30,31,32,33,34,35,36,37,38] (λn vs h=>∃(x:Nat) (a:Nat) (ts:List T3) (b:Option Addr) (d:Nat),vs=[.slice b a d,X6 (x:Int)]/\Mem w h [oI 39 9 b a d (ts.flatMap aL),bI j [X6 2,.slice A 125 ci] 139]/\(ts.length=a)/\(∀t∈ts,SmT t)/\(a<=384*z+96*y+24*x)/\(x<=4)/\(n=4-x)) ?_ ?_
   .exact⟨_,0,_,_,_,_,O,m,f,e,by omega,by omega,O⟩
   intro n vs wr g u H s
   obtain⟨x,a,ts,b,d,rfl,m,f,e,l,I,W⟩:=g;simp only[zu,zF,zG];apply L 7 [0,0] m;simp only[↓U];refine bC O ?_ ?_<;>intro S
   .apply L 10 [2,0] m;simp only[↓U,aeR,tU,aa];refine bF O O (apD (cx:=x) (cy:=y) (cz:=z) _ (hF.ext m.ext) (by omega) (by omega) (by omega)) ?_;rintro v u i ⟨us,B,C,ab,M,T,rfl,k⟩;replace m:=m.newO i k;simp only[G];refine bN m 1 O O fC iO O (by decide) O O (m.o 0 O).own.1 (m.o 0 O).row (xW _) (by omega) (by omega) ?_;intro b d u m;simp only[zF,zG] at m;rw[<-aw] at m;apply aH 8 [0] m;simp only[↓U];apply I0;omega;exact s (4-(x+1)) _ _ (by omega) (by kernel_rfl) ⟨x+1,_,_,_,_,O,(m.sel [X3,Z,Z]),by rw[aq];omega,λt p=>(bh.1 p).elim (e t) (B.2 t),by omega,by omega,rfl⟩
   apply L 7 [0] m;simp only[↓U];apply I0;omega;exact r (4-(y+1)) _ _ (by omega) (by kernel_rfl) ⟨y+1,_,_,_,_,O,m,f,e,by omega,by omega,O⟩
  apply L 7 [0] m;simp only[↓U];apply I0;omega;exact q (4-(z+1)) _ _ (by omega) (by kernel_rfl) ⟨z+1,_,_,_,_,O,m,f,e,by omega,by omega,O⟩
 apply L 4 [0] m;simp only[↓U];refine bF O O (Ek (ts:=ts) _ ((m.o 0 O).tris (aqy e)) (by omega)) ?_;rintro v u i ⟨D,ad,N,V,rfl,k⟩;replace m:=m.newO i k;apply aH 3 [] m;simp only[↓U];exact aS O O ⟨_,O,m.ext,aV ts,⟨by rw[jR];omega,nI (aqy e)⟩,_,_,_,by rw[jR];omega,rfl,(m.o 0 rfl)⟩
def abC(w:ak)(y:uD apE 1 w A N zs)(e:∀z∈zs,rS z):cY prog 39 [.slice A N cap] w (λv w'=>∃ts:List T3,(ts.length<=1536/\∀t∈ts,IT t)/\SL 39 9 (ts.flatMap aL) ts.length w v w'):=by
 refine⟨bJ func39 (by kernel_rfl),?_⟩;have m:=Mem.refl w
 go_enter func39,ntmps39
 apply fF 7 [0] m;simp only[↓U];refine bF O O (aiD _ (y.ext m.ext) e) ?_;rintro v u d ⟨S,cf,ins,rfl,hF⟩;replace m:=m.ext' d;simp only[G];refine bF O O (adB _ hF) ?_;rintro v u d ⟨ts,⟨b,hit⟩,l,x,n3,a,rfl,f⟩;replace m:=m.newO d f;clear hF;replace a:=a.symm;apply aH 8 [0] m;simp only[↓U];refine bT [4] [5,6,10,11,12,13,14,15,16,17,18,19,20,21,22,23,24,25,26,27,28,29,30,31,32,33,34,35,36,37,38,39,40] (λn vs i=>∃(k:Nat) (ts:List T3),vs=[X6 (k:Int)]/\Mem w i [oI 39 9 l n3 x (ts.flatMap aL)]/\(ts.length=n3)/\(ts.length<=1536)/\(∀t∈ts,IT t)/\(k<=n3)/\(n=n3-k)) ?_ ?_
 .exact⟨_,0,_,O,m,a,b,hit,by omega,O⟩
 intro n vs wr e u T B
 obtain⟨k,ts,rfl,m,a,b,hit,Y,hn⟩:=e;simp only[zu,zF,zG];apply L 8 [0,0] m;simp only[↓U,gM];refine bC O ?_ ?_<;>intro ab
 .apply L 8 [0] m;simp only[↓U];refine bT [5] [6,16,17,18,19,20,21,22,23,24,25,26,27,28,29,30,31,32,33,34,35,36,37,38,39,40] (λn vs i=>∃(j:Nat) (ts:List T3),vs=[X6 (j:Int)]/\Mem w i [oI 39 9 l n3 x (ts.flatMap aL)]/\(ts.length=n3)/\(ts.length<=1536)/\(∀t∈ts,IT t)/\(j<=3)/\(n=3-j)) ?_ ?_
  .exact⟨_,0,_,O,m,a,b,hit,by omega,O⟩
  intro n vs wr e u V C
  obtain⟨j,ts,rfl,m,a,b,hit,X,ae⟩:=e;simp only[zu,zF,zG];apply L 6 [0,0] m;simp only[↓U];refine bC O ?_ ?_<;>intro ad
  .apply L 4 [] m;simp only[↓U];obtain⟨g,t,rfl,h,D⟩:=apG (c:=j) (m.o 0 rfl) (show k<n3 by omega) (by omega);apply aT 4 [0] m;simp only[↓U];refine aD (aR fC aW O O (by omega) (by omega) am5) ?_;simp only[G];refine aD (aN eB aA O O (by omega) (by omega) am4) ?_;simp only[G];refine bE O (show dQ _ _ _ _ (pt (t.cor j)) from D.lies aG aA) ?_;simp only[G];apply lK 3 [0] m;simp only[↓U,fB,aP,aa];intro W u m;obtain⟨E,F,H⟩:=atE (hit t (bf h)) (c:=j);obtain⟨q,I,J⟩:=afz E;obtain⟨r,K,M⟩:=afz F;obtain⟨s,P,Q⟩:=afz H;refine gc (cI m 15 aB (by kernel_rfl) ?_);simp only[zy];refine cX 5 [1] ?_;simp only[↓U,gN,dC,aa];refine aK (kW O O (by omega) I) (cX 2 [1] ?_);simp only[↓U,gQ,dC,aa];refine aK (kW O O (by omega) K) (cX 2 [1] ?_);simp only[↓U,iG,dC,aa];refine aK (kW O O (by omega) P) (aK (yD O O O) ?_);simp only[G];refine aK (aR fC aW O O (by omega) (by omega) am5) ?_;simp only[G];refine aK (aN eB aA O O (by omega) (by omega) am4) (aZ ?_);intro u m;simp only[G];refine Jb (off:=(k*9+j*3)) m 1 O O O aA (by simp;omega) rfl ?_;intro u m;simp only[zF,zG] at m;rw[show over (ts.flatMap aL) (k*9+j*3) _=(ts.set k (t.setC j ⟨q,r,s⟩)).flatMap aL from ajd (p:=⟨q,r,s⟩) h (by omega)] at m;refine aI ?_;apply aT 6 [0] m;simp only[↓U];apply I0;omega;exact C (3-(j+1)) _ _ (by omega) (by kernel_rfl) ⟨j+1,_,O,(m.sel [X3,Z]),by rw[fm];exact a,by rw[fm];exact b,apF hit h J M Q,by omega,O⟩
  apply L 7 [0] m;simp only[↓U];apply I0;omega;exact B (n3-(k+1)) _ _ (by omega) (by kernel_rfl) ⟨k+1,_,O,m,a,b,hit,by omega,O⟩
 apply L 4 [0] m;simp only[↓U];refine bF O O (Ek (ts:=ts) _ ((m.o 0 O).tris hit) (by omega)) ?_;rintro v u d ⟨R,ag,n8,af,rfl,f⟩;replace m:=m.newO d f;apply aH 3 [] m;simp only[↓U];exact aS O O ⟨_,O,m.ext,aV ts,⟨by rw[jR];omega,nI hit⟩,_,_,_,by rw[jR];omega,rfl,(m.o 0 rfl)⟩
def afA(w:ak)(r:bW w A N ts)(W:N<=1536)(P:a<3):cY prog 96 [.slice A N cap,X6 (a:Int),X6 at0] w (λv w'=>∃us:List T3,(us.length<=N/\∀t∈us,IT t)/\SL 39 9 (us.flatMap aL) us.length w v w'):=by
 refine⟨bJ func96 (by kernel_rfl),?_⟩;have m:=Mem.refl w;have af:=r.len
 go_enter func96,ntmps96
 apply fF 6 [0] m;simp only[↓U];refine aD aM ?_;replace m:=m.nilO 39 9;apply aH 7 [0] m;simp only[↓U];refine bT [7,8] [9,10,11,12,13,14,15,16,17,18,19,20,21,22,23,24,25,26,27,28,29,30,31,32,33,34,35,36,37,38,39,40,41,42,43,44,45,46,47,48,49,50,51] (λn vs l=>∃(k d:Nat) (us:List T3) (e:Option Addr) (g:Nat),vs=[.slice e d g,X6 (k:Int)]/\Mem w l [oI 39 9 e d g (us.flatMap aL)]/\(us.length=d)/\(∀t∈us,IT t)/\(d<=k)/\(k<=N)/\(n=N-k)) ?_ ?_
 .exact⟨_,0,0,[],X5,0,O,m,O,by simp,by omega,by omega,O⟩
 intro n vs wr f u I s
 obtain⟨k,d,us,e,g,rfl,m,q,p,Q,S,T⟩:=f;simp only[zu,zF,zG];apply L 8 [0,0] m;simp only[↓U,gM];refine bC O ?_ ?_<;>intro X
 .obtain⟨t,V,hit,a0,C,y⟩:=r.get (i:=k) (by omega);subst C;apply L 13 [0] m;simp only[↓U];refine bT [9,10] [11,12,19,20,21,22,23,24,25,26,27,28,29,30,31,32,33,34,35,36,37,38,39,40,41,42] (λn vs l=>∃(j c:Nat),vs=[X6 (c:Int),X6 (j:Int)]/\Mem w l [oI 39 9 e d g (us.flatMap aL)]/\(c<=j)/\(j<=3)/\(n=3-j)) ?_ ?_
  .exact⟨_,0,0,O,m,by omega,by omega,O⟩
  intro n vs wr f u J H
  obtain⟨j,c,rfl,m,hc,R,ae⟩:=f;simp only[zu,zF,zG];apply L 6 [0,0] m;simp only[↓U];refine bC O ?_ ?_<;>intro Y
  .apply xI 23 [0,0,0,1,1,1] m;simp only[↓U,fR,bQ,fB,aP,gN,dC,gQ,iG,tU,ah,ai,aa];refine⟨_,λu m=>(show dQ _ _ _ _ (pt (t.cor j)) from ((y.ext m.ext).cor (show j<3 by omega)).lies aG aA),λB=>⟨by omega,?_⟩⟩;intro u m;apply Mr 11 [0,0,2,0,0] m;simp only[↓U,yI,vV,fD,aa,ah,ai,dt];refine λM=>⟨_,λu m=>(aqw (m.b 0 O) (show a<3 by omega)),by omega,?_⟩
   intro u m;refine Tf m [9] [41,42] (λvs=>∃(c:Nat),vs=[X6 (c:Int)]/\(c<=j+1)) ?_ ?_
   . intro K x
     refine bC O ?_ ?_<;>intro ab
     .apply L 5 [0] m;simp only[↓U];apply I0;omega;exact x _ _ (by kernel_rfl) m ⟨c+1,O,by omega⟩
     apply L 1 [0] m;simp only[↓U];exact x _ _ (by kernel_rfl) m ⟨c,O,by omega⟩
   intro vs wr m f u
   obtain⟨c,rfl,hc⟩:=f;simp only[zu,zF,zG];apply aT 6 [0] m;simp only[↓U];apply I0;omega;exact H (3-(j+1)) _ _ (by omega) (by kernel_rfl) ⟨j+1,_,O,(m.sel [X3,X3,Z]),by omega,by omega,O⟩
  apply L 6 [0,0] m;simp only[↓U];refine bC O ?_ ?_<;>intro ad
  .apply L 6 [0,1,0] m;simp only[↓U,fR,ah,ai];refine⟨_,λu m=>(show dQ _ _ _ _ (tr t) from (y.ext m.ext).lies cD aW),by omega,?_⟩;refine fE O ?_;intro u B z D F;replace m:=m.newB z D F;simp only[G];refine bN m 1 O O fC iO O (by decide) O O O (m.b 0 O).rowsO (fN O) (by omega) (by omega) ?_;intro e g u m;simp only[zF,zG] at m;rw[show us.flatMap aL++_=(us++[t]).flatMap aL by rw[aw];rfl] at m;apply aH 8 [0] m;simp only[↓U];apply I0;omega;exact s (N-(k+1)) _ _ (by omega) (by kernel_rfl) ⟨k+1,_,_,_,_,O,(m.sel [X3,Z]),by rw[aq,q];rfl,λu E=>(bh.1 E).elim (p u) λh=>by cases a_.1 h;exact hit,by omega,by omega,O⟩
  apply L 7 [0] m;simp only[↓U];apply I0;omega;exact s (N-(k+1)) _ _ (by omega) (by kernel_rfl) ⟨k+1,_,_,_,_,O,m,q,p,by omega,by omega,O⟩
 apply L 7 [] m;simp only[↓U];exact aS O O ⟨_,O,m.ext,us,⟨by omega,p⟩,_,_,_,q.symm,O,(m.o 0 O)⟩
def am6(w:ak)(d:bW w A N ts)(j:N<=1536)(n:0<=ax/\ax<256)(l:0<=at0/\at0<65536):cY prog 48 [.slice A N cap,.int .u8 ax,.int .u16 at0] w (λv w'=>∃(us:List T3) (b:Option Addr) (n' e:Nat),v=.slice b n' e/\bW w' b n' us/\n'<=N):=by
 refine⟨bJ func48 (by kernel_rfl),?_⟩;have m:=Mem.refl w;have c:ax.tmod 4=ax%4:=jj n.1;have f:at0.tmod 1500=at0%1500:=jj l.1
 go_enter func48,ntmps48
 apply fF 8 [0] m;simp only[↓U];refine aD (cT O O (by omega) c) ?_;apply aH 2 [0,0] m;simp only[↓U];refine bC O ?_ ?_<;>intro t
 .apply L 6 [] m;simp only[↓U];exact aS O O ⟨_,O,m.ext,ts,_,_,_,O,d.ext m.ext,ar _⟩
 obtain⟨a,i,k⟩:∃a:Nat,ax%4=(a:Int)/\a<3:=⟨(ax%4).toNat,by omega,by omega⟩
 apply L 5 [0] m;simp only[↓U];refine aD (cT O O (by omega) (c.trans i)) ?_;apply aH 2 [0] m;simp only[↓U,xJ,Kf];apply I0;omega;refine aD (cT O O (by omega) f) ?_;apply aH 2 [0] m;simp only[↓U,aus,Kf];apply I0;omega;refine bF O O (afA _ (d.ext m.ext) j k) ?_;rintro v u g ⟨us,⟨r,p⟩,q,y,s,x,rfl,h⟩;replace m:=m.newO g h;apply aH 3 [] m;simp only[↓U];exact aS O O ⟨_,O,m.ext,us,_,_,_,O,(m.o 0 O).tris p,by omega⟩
def aiE(w:ak)(c:uD apE 1 w A N zs)(t:N<=cap)(e:∀z∈zs,rS z)(j:0<=ax/\ax<256)(i:0<=at0/\at0<65536):cY prog 15 [.slice A N cap,.int .u8 ax,.int .u16 at0] w (λv w'=>∃(us:List T3) (b:Option Addr) (n' d:Nat),v=.slice b n' d/\bW w' b n' us/\n'<=1536):=by
 refine⟨bJ func15 (by kernel_rfl),?_⟩;have m:=Mem.refl w;have q:=c.len;obtain⟨M,p⟩:∃M,M=min 4 N:=⟨_,rfl⟩
 go_enter func15,ntmps15
 apply fF 10 [] m;simp only[↓U,kO];rw[show (if (4:Int)<(N:Int) then (4:Int) else (N:Int))=(M:Int) by split <;> omega];refine go (aD (nK eK aY O O (ah _) (by omega) (by omega)) ?_);simp only[G];refine bF O O (abC _ ((c.ext m.ext).take (show M<=N by omega)) (λz g=>e z (List.mem_of_mem_take g))) ?_;rintro v u a ⟨ts,⟨x,hit⟩,k,C,r,y,rfl,f⟩;replace m:=m.newO a f;apply aH 2 [0] m;simp only[↓U];refine bF O O (am6 (ts:=ts) _ ((m.o 0 O).tris hit) (by omega) j i) ?_;rintro v u a ⟨us,l,s,n,rfl,h,B⟩;replace m:=m.ext' a;apply aH 3 [] m;simp only[↓U];exact aS O O ⟨_,O,m.ext,us,_,_,_,O,h,by omega⟩
end Go.Proofs.YtfekpcimgncioaaGreatDoor
namespace Go.Lith
open Go.RowKit Go.ChangeShapes
variable {H:Type} {enc:ba × aj->H} {P:bt} {w:ak} {base:Nat} {spare:Nat->Bool} {held:Bool}
def adC{v:aj}{A:Option Addr}{len cap:Nat}(h:v.cells.toList=[.slice A len cap])(a:∀cs,v≠.agg cs):v=.slice A len cap:=by
 cases v <;> first | (exact Z8 rfl (a _)) | (simp[rt] at h;done) | (simpa[rt] using h)
end Go.Lith
namespace Go.Proofs.YtfekpcimgncioaaGreatDoor
open Go.Proofs.Tryz
open Go.RowKit Go.Lith
set_option maxRecDepth 100000
section
attribute [local irreducible] wpList cw fW bX cP Code.wp
end
section
attribute [local irreducible] wpList cw fW bX cP Code.wp
attribute [local congr] dK dL cR dJ
variable{want:Int}
theorem adD:∀(n:Nat) {want:Int} {l:List T3} {q:H->List Int} {D:List Mv},(∀t∈l,IT t)->∀t∈(kN n want l q D).1,IT t
 | 0,_,_,_,_,h=>h
 | n+1,want,l,q,D,h=>by
  unfold kN;split
  .exact h
  cases a:tP l q with
  | none=>exact h
  | some c=>exact adD n (nI (Fv (uM h (Ii (aaA.1 (Fe a).1).2.1).2) h))
theorem am7{l:List T3}(h:∀t∈l,IT t):∀t∈(lJ l want).1,IT t:=by
 unfold lJ;split
 .exact nI h
 exact adD _ (nI h)
def adE:∀(n:Nat) {want:Int} {l:List T3} {q:H->List Int} {D:List Mv},(kN n want l q D).1.length<=l.length
 | 0,_,_,_,_=>ar _
 | n+1,want,l,q,D=>by
  unfold kN;split
  .exact ar _
  cases a:tP l q with
  | none=>exact ar _
  | some c=>exact be (adE n) (Nat.le_of_lt (pJ a))
def am8{l:List T3}  : (lJ l want).1.length<=l.length:=by
 unfold lJ;split
 .rw[jR];exact ar _
 exact be (adE _) (Nat.le_of_eq (jR _))
end
end Go.Proofs.YtfekpcimgncioaaGreatDoor
namespace Go.Lith
open Go.RowKit Go.ChangeShapes
variable {H:Type} {enc:ba × aj->H} {P:bt} {w:ak} {base:Nat} {spare:Nat->Bool} {held:Bool}
def atF(k:IntKind)(z:Int):List aj:=[.int k z]
def am9{A:Option Addr}{n:Nat}{zs:List Int}(h:ajb w A n zs):uD (atF .i64) 1 w A n zs:=⟨h.len,λi x c=>by
 obtain⟨a,rfl,hc⟩:=h.row i x c;exact⟨a,O,λj u b=>by
  have h1:j=0:=by
   have:=(ao.1 b).1;simp[atF] at this;omega
  subst h1;cases b;rw[dt,jD,Nat.add_zero];exact hc⟩⟩
def afB{r:Reach}{c n:Nat}{t e:ba}{v:aj}{d:DataW H}{p:List MemPlace}(a:P.underlying t=X4 (.slice e))(g:vC P n e=Z)(hc:P.cellsOf e=1)(b:pg P w r c t v)(h:DataW.Trod enc P w base spare held t v d p) :
 ∃(A:Option Addr) (len cap:Nat) (zs:List Int),v=.slice A len cap/\uD (atF .i64) 1 w A len zs/\len<=cap/\∀z∈zs,rS z:=by
 obtain⟨j,f⟩:=h;obtain⟨A,len,cap,zs,e,h2,_,_,h1⟩:=adX a g hc f;refine⟨A,len,cap,zs,adC e λcs i=>?_,am9 h1,h2,h1.it⟩;unfold pg at b;rw[a] at b;subst i;simp[Cell.okWide,Cell.ok,a] at b
def afC{r:Reach}{u:Nat}{t e:ba}{v:aj}{d:DataW H}{p:List MemPlace}(f:eX P t Z)(I:P.underlying t=X4 (.array 2 e))(G:P.underlying e=X4 (.int .u16))(E:P.cellsOf e=1)(F:P.cellsOf t=2)
 (j:pg P w r u t v) (h:DataW.Trod enc P w base spare held t v d p):∃a b:Int,(0<=a/\a<65536)/\(0<=b/\b<65536)/\v=.agg #[.int .u16 a,.int .u16 b]:=by
 obtain⟨x,C,A⟩:=f;obtain⟨K,B⟩:=h;unfold pg at j;rw[C] at j;have:∃cs,v=.agg cs:=by
  cases x <;> first | (obtain⟨cs,rfl,_⟩:=j;exact⟨cs,rfl⟩) | (cases A)
 obtain⟨cs,rfl⟩:=this;obtain⟨ys,k,_,_,g,J,o⟩:=DataW.trod_array I B;obtain⟨l,rfl⟩:∃l:List aj,cs=l.toArray:=⟨cs.toList,rfl⟩
 simp only[rt] at g o;rw[F] at g
 match l,g with
 | [q,s],_ =>
  have one:∀i,i<2->∃a:Int,(0<=a/\a<65536)/\(([q,s].drop (i*1)).take 1)=[.int .u16 a]:=λi n=>by
   have hq:=o i n;rw[am (by rw[J];exact n),E] at hq;obtain⟨z,c,_,D⟩:=DataW.trod_int G hq;have m:=bounds_u16 D;exact⟨z,by omega,c⟩
  obtain⟨a,f,y⟩:=one 0 (by decide);obtain⟨b,m,c⟩:=one 1 (by decide);have q0:q=.int .u16 a:=by simpa using y
  have q1:s=.int .u16 b:=by simpa using c
  exact⟨a,b,f,m,by rw[q0,q1]⟩
end Go.Lith
namespace Go.Proofs.YtfekpcimgncioaaGreatDoor
open Go.Proofs.Tryz
open Go.RowKit Go.Lith
set_option maxRecDepth 100000
attribute [local irreducible] wpList cw fW bX cP Code.wp
attribute [local congr] dK dL cR dJ
def adF:∀(n:Nat) {want:Int} {l:List T3} {q:H->List Int} {D:List Mv},(kN n want l q D).2.length+(kN n want l q D).1.length<=D.length+l.length
 | 0,_,_,_,_=>ar _
 | n+1,want,l,q,D=>by
  unfold kN;split
  .exact ar _
  cases a:tP l q with
  | none=>exact ar _
  | some c =>
   have h1:=adF n (want:=want) (l:=eD l c.u c.v) (q:=uF q c.u c.v) (D:=Ln D c.u c.v);have h2:=pJ a;have b:(Ln D c.u c.v).length<=D.length+1:=agW D c.u c.v;show (kN n want (eD l c.u c.v) (uF q c.u c.v) (Ln D c.u c.v)).2.length+(kN n want (eD l c.u c.v) (uF q c.u c.v) (Ln D c.u c.v)).1.length<=_
   omega
def ana{l:List T3}{want:Int}:(lJ l want).2.length<=l.length:=by
 unfold lJ;split
 .exact bn _
 show (kQ _).length<=_
 rw[yM];have:=adF (aV l).length (want:=want) (l:=aV l) (q:=nA (aV l)) (D:=[]);have hc:=jR l;simp only[bm] at this;omega
def Eo{A:Option Addr}{N cap:Nat}{zs:List Int}{x y b:Int}(w:ak)(h:uD apE 1 w A N zs)(n:N<=cap)(g:∀z∈zs,rS z)(E:0<=x/\x<65536)(j:0<=y/\y<65536)(i:0<=b/\b<256):cY prog 5 [.slice A N cap,.agg #[.int .u16 x,.int .u16 y],.int .u8 b] w (λv _=>v=.bool Z):=by
 refine⟨bJ func5 (by kernel_rfl),?_⟩;have m:=Mem.refl w;have e:b.tmod 60=b%60:=jj i.1
 go_enter func5,ntmps5
 apply gH 7 [0] m;simp only[↓U];intro D u m;refine lD m O O amY 7 [1,0] ?_;simp only[↓U,ap2,ap1,ad,ag,aa];apply I0;omega;intro u m;refine aD (iK Wc underlying23 O (show IntKind.u8.wrap x=x%256 from O)) ?_;apply aH 2 [1,0] m;simp only[↓U,ap2,ap1,ad,ag,aa];apply I0;omega;refine bF O O (aiE _ (h.ext m.ext) n g (by omega) j) ?_;rintro v u d ⟨us,r,G,B,rfl,c,R⟩;replace m:=m.ext' d;apply aH 2 [] m;simp only[↓U];obtain⟨k,rfl⟩:∃x,x=u:=⟨u,rfl⟩
 have p:=m.ext;replace m:=Mem.refl k;apply aT 4 [0] m;simp only[↓U];refine aD (cT O O (by omega) e) ?_;apply aH 1 [0] m;simp only[↓U,xJ,Kf];apply I0;omega;refine bF O O (Vj (ts:=us) _ (c.ext m.ext) (by omega) (by omega)) ?_;rintro v u d ⟨q,F,t,s,H,C,rfl,Q,S,a⟩;replace m:=m.plus a;clear a;simp only[cq,bz] at m;have T:=c.len;have M:=am8 (l:=us) (want:=b%60);have f:=am7 (want:=b%60) (l:=us) c.it;have P:=ana (l:=us) (want:=b%60);apply aH 10 [0] m;simp only[↓U];refine aD (cT O O (by omega) e) ?_;apply aH 1 [0] m;simp only[↓U,xJ,Kf];apply I0;omega;refine bF O O (Wu (ts:=us) _ (c.ext m.ext) (by omega) (by omega)) ?_;rintro v u d ⟨I,V,K,J,W,L,rfl,X,Y,a⟩;replace m:=m.plus a;clear a;simp only[cq,bz] at m;apply aH 12 [0,0,0] m;simp only[↓U];refine eP O (cK m O O ((sA (apu (xs:=(lJ us (b%60)).1) (ys:=(lJ us (b%60)).1) _ ((m.o 3 O).tris f) ((m.o 1 O).tris f) (by omega)) (by rw[Y0 O]))) ?_);rintro v u m rfl;apply aH 4 [0,0,0] m;simp only[↓U];refine eP O (cK m O O ((sA (adu (xs:=(lJ us (b%60)).2) (ys:=(lJ us (b%60)).2) _ ((m.o 2 O).lat Ly (by decide)) ((m.o 0 O).lat Ly (by decide)) (by omega)) (by rw[Y0 O]))) ?_);rintro v u m rfl;apply aH 4 [] m;simp only[↓U];exact aS O O ⟨_,O,p.trans m.ext,O⟩
end Go.Proofs.YtfekpcimgncioaaGreatDoor
namespace Go.Lith
open Go.RowKit Go.ChangeShapes
variable {H:Type} {enc:ba × aj->H} {P:bt}
def Pi(g:laidOutB P=Z){W c:ak}(f:fJ W c){i:Nat->Bool} :
 ∀{ts:List ba} {vs:List aj} {ds:List (DataW H)} {ps:List MemPlace},(ts.all λt=>P.readableRec t&&decide (t<P.types.size))=Z->DataW.TrodAll enc P W 0 (λ_=>Z) Z ts vs ds ps->(∀p∈ps,i p.block=Z)->DataW.TrodAll enc P c 0 i Z ts vs ds ps
 | [],[],[],_,_,h,_=>h
 | [],[],_::_,_,_,h,_=>h.elim
 | [],_::_,_,_,_,h,_=>h.elim
 | _::_,[],_,_,_,h,_=>h.elim
 | _::_,_::_,[],_,_,h,_=>h.elim
 | t::ts,v::vs,d::ds,ps,a,h,hs=>by
  obtain⟨p,q,⟨n,h1⟩,h2,e⟩:=h;subst e;simp only[List.all_cons,bg,R] at a;have j:=DataW.trod_lt n _ _ _ h1;exact⟨p,q,⟨n,DataW.trod_stays (kids_book g a.1.1) (book_sized a.1.1) (λh=>by cases h) ⟨a.1.2,book_self t⟩ h1 (λx b=>Below.same f (j x b)) (λx b=>hs x (by simp[b]))⟩,
   Pi g f (by simpa using a.2) h2 (λx b=>hs x (by simp[b])),rfl⟩
def adG{f:Func}{s:ChangeSpec}{apart fresh L J:Bool}{W c:ak}{args:Array aj}{t:ba}{ds d:List (DataW H)}{K:List MemPlace}
 (A:laidOutB P=Z) (F:(f.params.toList.all λt=>P.readableRec t&&decide (t<P.types.size))=Z) (n:s.vars=[]) (hr:f.resultTypes = #[t]) (m:P.underlying t=X4 .bool)
 (e:DataW.Whole enc P f.params.toList s.vars apart W args.toList ds d K) (i:(s.fn H (ds++d)).results=[.lit (.bool Z)]/\(s.fn H (ds++d)).args=ds/\(s.fn H (ds++d)).vars=[]) (g:fJ W c) :
 s.post enc P f apart fresh L J W args (.bool Z) c:=by
 have D:=e;obtain⟨p,q,y,k,rfl,C,B⟩:=D;rw[n] at k;obtain⟨rfl,rfl⟩:=trodVars_none k;have v:∀a:Nat->Bool,(∀x∈p++[],a x.block=Z)->DataW.TrodAll enc P c 0 a Z f.params.toList args.toList (s.fn H (ds++[])).args p:=λa G=>by
  rw[i.2.1];exact Pi A g F y (λx h=>G x (by simp[h]))
 have w:∀a:Nat->Bool,DataW.TrodVars enc P c a s.vars (s.fn H (ds++[])).vars []:=λa=>by
  rw[n,i.2.2];exact rfl
 have u:∀(b:Nat) (a:Nat->Bool) (l:Bool),DataW.TrodAll enc P c b a l f.resultTypes.toList ((bw Z).resultList f.resultTypes.size) (s.fn H (ds++[])).results []:=λb a l=>by
  rw[hr,i.1];exact trodAll_cons_mk (shut_bool m Z) trodAll_mk0
 have E:∀(j:Nat) (t:ba) (r:aj),f.resultTypes[j]? = X4 t->((bw Z).resultList f.resultTypes.size)[j]? = X4 r->pg P c .any 0 t r:=ok_one hr rfl (okWide_bool_mk m _);have o:∀x∈p++[],x.block<W.heap.size:=e.lt;have I:∀x∈p++[],(λb=>decide (b<W.heap.size)) x.block=Z:=λx h=>by simpa using o x h
 refine⟨ds,[],p++[],[],p,[],e,u _ _ _,v _ I,w _,Below.frame g _,λ_=>?_⟩;refine⟨E,_,_,([]++p)++[],⟨[]++p,[],trodAll_append (v _ (λ_ _=>rfl)) (u _ _ _),w _,O,?_,?_⟩,?_⟩
 . intro b off hp
   have h1:MemPlace.cell b off∈p++[]:=by simpa using hp
   rw[Below.frozen g (p:=⟨b,off,X5⟩) (o _ h1)];exact C b off h1
 . intro z
   simpa using B z
 intro x hp _
 simpa using hp
end Go.Lith
