/-
 Texts of one claim, laid together: D5, D9, D10, D15, Gx, D16, D17, RefG2, RefG3, D11, Meas2, Meas3, Meas4, D18, K84, K36, K37, K38, K85, K39, K40, K86, K41, K42.
-/
import Derived.Test.YtbbokjbcdkgfgaaGreatDoorML4
open Nat renaming reduceAdd->aa,zero_add->ae,reduceMul->C,le_refl->bg,mul_one->bi,zero_le->bm,eq_zero_or_pos->et,reduceSub->lj
open Int renaming toNat_natCast->ab,reduceToNat->ac,reduceAdd->M,eq_ofNat_of_zero_le->ee,toNat->ji,natCast_nonneg->lo,add_zero->nu
open List renaming getElem?_eq_getElem->ah,mem_of_getElem?->ak,take_of_length_le->ap,flatMap_append->au,getElem?_eq_some_iff->av,length_append->a_,length_take->bf,length_cons->bh,mem_cons_self->bv,mem_append->bz,mem_singleton->cr,nil_append->cv,map_cons->df,map_append->dh,append_assoc->di,mem_map->du,length_nil->dv,cons_append->dx,toList_toArray->eo,mem_map_of_mem->fg,range->fh,take_append_drop->fi,map_nil->fj,append_nil->fw,getElem?_cons_succ->gu,size_toArray->gy,mem_filter->ix,append_toArray->i_,take_add_one->jb,mem_range->jc,nodup_append->jp,push_toArray->jq,map_toArray->ka,map_map->lw,foldl_append->ly,nodup_nil->o_
open Go renaming wp_region_lit->f,World->an,wp_skip->gg,wp_ret->gh,wp_block->gn,MapEntry->kx,wp_exit->nj
open Go.Exit renaming inBlock->t
open Bool renaming and_eq_true->ck,not_false->ik,false_ne_true->jw
open Option renaming getD_some->dt,getD_none->ij,isSome_none->jg,isSome_some->jx
open Array renaming replicate_succ->ir,replicate_zero->iu
open Option.some renaming inj->lc
set_option maxHeartbeats 8000000
set_option linter.unusedSimpArgs false
set_option linter.defProp false
set_option linter.unusedVariables false
set_option linter.unusedSectionVars false
open And renaming intro->R
open Bool renaming true->N,false->X7
open Option renaming some->H,none->X8
open Go.Proofs.Tryz renaming prog->X9
namespace Go.Proofs.YtbbokjbcdkgfgaaGreatDoor
open Go.Proofs.Tryz
open Go.RowKit Go.Lith
set_option maxRecDepth 100000
attribute [local irreducible] wpList wpQuiet fS cE cP Code.wp
attribute [local congr] fE fF eN fD
variable{cs:List Cl}{l:List Int}{z a:Int}{A B I:Option Addr}{nc cc ng cg nl B1:Nat}{G:Gr}
def ajs{k:Nat}(h:l[k]? = H z):kK cs (l.take (k+1))=kK cs (l.take k)++(cs[z.toNat]?.map (·.ts)).getD []:=by
 unfold kK;rw[cZ h,au];simp
def ajt{k c:Nat}{x:Cl}(h:l[k]? = H (c:Int))(a:cs[c]? = H x):kK cs (l.take (k+1))=kK cs (l.take k)++x.ts:=by
 rw[ajs h,ab,a];rfl
def aju(k:Nat):(kK cs (l.take k)).length<=(kK cs l).length:=by
 have h:kK cs (l.take k++l.drop k)=kK cs l:=by rw[fi]
 unfold kK at h ⊢;rw[au] at h;rw[<-h,a_];omega
def Gb{c:Nat}(w:an)(b:GrAt w A B G)(E:G.cs.length=nc)(J:G.gs.length=ng)(s:c<nc)(h:∀x∈G.cs,x.made<ng)(j:∀g∈G.gs,gF g.tot):cX X9 105 [.agg #[.slice A nc cc,.slice B ng cg],U (c:Int)] w (λv _=>∃t,v=U t/\gF t):=by
 refine⟨bP func105 (by kernel_rfl),?_⟩;have m:=Mem.refl w;obtain⟨x,a,D,cx,l,rfl,e,K,z⟩:=b.cl (k:=c) (by omega)
 go_enter func105,ntmps105
 apply gJ 16 [1,0,2,0,0] m;simp only[↓Z,gH,lP,sB,kT,aa,ab,ae];refine λr=>⟨_,λu m=>(lies1 ((e.ext m.ext) 1 _ O) bW),by omega,?_⟩
 intro u m;refine aZ O ?_ ?_<;>intro y
 .apply F 5 [] m;simp only[↓Z];exact aS O O ⟨_,O,m.ext,0,O,by unfold gF;omega⟩
 have C:=h x (ak l);obtain⟨q,i⟩:∃q:Nat,x.made=(q:Int):=⟨x.made.toNat,by omega⟩
 have d:=e 1 _ rfl;rw[i] at d;obtain⟨gp,o,I,p,O0,d2,M,f2,f,rfl,n,_⟩:=b.gp (k:=q) (by omega);apply F 2 [0] m;simp only[↓Z];refine mq m aB (by kernel_rfl) (cW 12 [1,1,0,2,0,2] ?_);simp only[↓Z,jH,oA,gH,lP,sB,kT,Lp,alv,aa,ab,ae];refine⟨_,λu m=>(lies1 (m.ext.cell d) bW),_,λu m=>(lies1 ((n.ext m.ext) 5 _ O) bW),by omega,?_⟩;refine bD ?_;intro u m;apply aQ 1 [] m;simp only[↓Z];exact aS O O ⟨_,O,m.ext,gp.tot,O,j gp (ak f)⟩
def ac6{cl:Nat}(w:an)(d:GrAt w A B G)(o:G.cs.length=nc)(p:G.gs.length=ng)(D:kO nB 1 w I nl l)(E:∀z∈l,0<=z/\z<nc)(ad:nl<=1000000000)(e:∀x∈G.cs,x.made<ng)(f:∀g∈G.gs,gF g.tot):cX X9 59 [.agg #[.slice A nc cc,.slice B ng cg],.slice I nl cl] w (λv _=>∃t,v=U t/\gF t):=by
 refine⟨bP func59 (by kernel_rfl),?_⟩;have m:=Mem.refl w
 go_enter func59,ntmps59
 apply gJ 15 [0] m;simp only[↓Z];intro s u m;refine bT [5,6] [7,8,9,10,11,12,13,14,15,16,17,18,19,20,21,22,23,24,25,26,27,28,29,30] (λn vs L=>∃(k:Nat)(y:Int),vs=[U y,U (k:Int)]/\Mem w L [bI s [.slice A nc cc,.slice B ng cg] 31]/\(gF y)/\(k<=nl)/\(n=nl-k)) ?_ ?_
 .exact⟨_,0,0,O,m,(show gF 0 by unfold gF;omega),by omega,rfl⟩
 intro n vs W C u P j
 obtain⟨k,y,rfl,m,r,T,V⟩:=C;simp only[zu,zF,zG];apply F 8 [0,0] m;simp only[↓Z,gG];refine aZ O ?_ ?_<;>intro X
 .obtain⟨z,K,Q,rfl,q⟩:=D.get (i:=k) (by omega);obtain⟨M,af⟩:=E z (ak K);obtain⟨c,rfl⟩:=ee M;apply F 4 [] m;simp only[↓Z];by_cases aa:k=0
  .refine gc ?_;refine zvt [N] [[],[1],[],[0],[0],[0],[0],[0],[0],[0],[0]] (.take 0 (.take 1 (.take 2 (.take 4 (.take 5 (.take 6 (.take 9 (.take 3 (.take 7 (.one 8 (.take 10 (.take 11 .nil)))))))))))) m aB (by kernel_rfl) (bR (λ_ _ _ _ _ h=>h)) ?_;simp only[↓Z,↓zzu];apply R;omega;intro u m;apply aQ 1 [0] m;simp only[↓Z];refine mh m [N] [(1,N),(2,N),(3,N),(0,N),(4,N),(5,X7),(6,N)] aB (by kernel_rfl) (bR (λ_ _ _ _ _ h=>h)) (ol:=?_) ?ho ?_
   case ho=>simp only[zw,zQ,zR];try rfl
   intro u m;refine tL 5 [1,0,2] ?_;simp only[↓Z,lV,jI,ab,ae,bi];refine⟨_,λu m=>(lies1 (nY (q.ext m.ext)) bW),by omega,?_⟩;refine bX (bY m O O (Gb (c:=c) _ (d.ext m.ext) o p (by omega) e f) ?_);rintro v u m ⟨t,rfl,b⟩;refine S ⟨m,?_⟩;refine aV aI (aT ?_);apply aQ 6 [0] m;simp only[↓Z];apply R;omega;exact j (nl-(k+1)) _ _ (by omega) (by kernel_rfl) ⟨k+1,_,O,m,b,by omega,O⟩
  refine gc ?_;refine mh m [N] [(0,N),(1,N),(2,N),(4,N),(5,N),(6,N),(9,N),(3,N),(7,N),(8,X7),(10,N),(11,N)] aB (by kernel_rfl) (bR (λ_ _ _ _ _ h=>h)) (ol:=?_) ?ho ?_
  case ho=>simp only[zw,zQ,zR];try rfl
  intro u m;refine tL 9 [2,0,0,0,0,0,1,0,0,2] ?_;simp only[↓Z,lV,jI,ab,ae,bi];refine⟨_,λu m=>(lies1 (nY (q.ext m.ext)) bW),by omega,?_⟩;refine bX (bQ O (bY m O O (Gb (c:=c) _ (d.ext m.ext) o p (by omega) e f) ?_));rintro v u m ⟨t,rfl,b⟩;refine S ⟨m,?_⟩;refine vT O (aV (Tp O O) (aV (gD O) (aT (gc ?_))));simp only[J];refine aZ O ?_ ?_<;>intro Y
  .refine mh m [N] [(1,N),(2,N),(3,N),(0,N),(4,N),(5,X7),(6,N)] aB (by kernel_rfl) (bR (λ_ _ _ _ _ h=>h)) (ol:=?_) ?ho ?_
   case ho=>simp only[zw,zQ,zR];try rfl
   intro u m;refine tL 5 [1,0,2] ?_;simp only[↓Z,lV,jI,ab,ae,bi];refine⟨_,λu m=>(lies1 (nY (q.ext m.ext)) bW),by omega,?_⟩;refine bX (bY m O O (Gb (c:=c) _ (d.ext m.ext) o p (by omega) e f) ?_);rintro v u m ⟨t,rfl,b⟩;refine S ⟨m,?_⟩;refine aV aI (aT ?_);apply aQ 6 [0] m;simp only[↓Z];apply R;omega;exact j (nl-(k+1)) _ _ (by omega) (by kernel_rfl) ⟨k+1,_,O,m,b,by omega,O⟩
  apply F 7 [0] m;simp only[↓Z];apply R;omega;exact j (nl-(k+1)) _ _ (by omega) (by kernel_rfl) ⟨k+1,_,O,m,r,by omega,O⟩
 apply F 7 [] m;simp only[↓Z];exact aS O O ⟨_,O,m.ext,y,O,r⟩
def ajv{b:Int}(c:gF a)(d:gF b):dO X9 58 [U a,U b] (.tuple #[U (Jw (a+b)),.bool (decide (gF (a+b)))]):=by
 intro w;refine⟨bP func58 (by kernel_rfl),?_⟩;have m:=Mem.refl w;haveI:Iw a:=⟨c⟩
 haveI:Iw b:=⟨d⟩
 go_enter func58,ntmps58
 apply iD 8 [0] m;simp only[↓Z];refine iE m O O (iT Iw.h) 1 [0] ?_;simp only[↓Z];intro u m;refine eV m O O (iT Iw.h) ?_;intro u m;simp only[J];refine eV m O O (uJ K.up K.up) ?_;intro u m;simp only[J];refine iE m O O (ajr (a:=a+b) K.up) 6 [] ?_;simp only[↓Z];intro u m;exact kN O O O ⟨_,O,m.ext,O⟩
def Vn{cl:Nat}(w:an)(j:GrAt w A B G)(Y:G.cs.length=nc)(ad:G.gs.length=ng)(f:kO nB 1 w I nl l)(q:∀z∈l,0<=z/\z<nc)(af:nl<=1000000000)(P:(kK G.cs l).length<=100000000):cX X9 55 [.agg #[.slice A nc cc,.slice B ng cg],.slice I nl cl] w (SL 43 9 ((kK G.cs l).flatMap aP) (kK G.cs l).length w):=by
 refine⟨bP func55 (by kernel_rfl),?_⟩;have m:=Mem.refl w
 go_enter func55,ntmps55
 apply gJ 7 [0] m;simp only[↓Z];intro h u m;refine aA aI ?_;replace m:=m.nilO 43 9;apply aL 7 [0] m;simp only[↓Z];refine bT [5,6] [7,8,9,10,11,12,13,14,15,16,17,18,19,20,21,22,23] (λn vs s=>∃(k:Nat)(b:Option Addr)(e:Nat),vs=[.slice b (kK G.cs (l.take k)).length e,U (k:Int)]/\Mem w s [oI 43 9 b (kK G.cs (l.take k)).length e ((kK G.cs (l.take k)).flatMap aP),bI h [.slice A nc cc,.slice B ng cg] 31]/\(k<=nl)/\(n=nl-k)) ?_ ?_
 .exact⟨_,0,_,_,O,m,by omega,O⟩
 intro n vs V p u L t
 obtain⟨k,b,e,rfl,m,Q,T⟩:=p;simp only[zu,zF,zG];apply F 8 [0,0] m;simp only[↓Z,gG];refine aZ O ?_ ?_<;>intro W
 .obtain⟨z,g,M,rfl,K⟩:=f.get (i:=k) (by omega);obtain⟨C,ag⟩:=q z (ak g);obtain⟨c,rfl⟩:=ee C;obtain⟨x,a,D,cx,r,rfl,E,y,X⟩:=j.cl (k:=c) (by omega);have d:=ajt g r;have v:=aju (cs:=G.cs) (l:=l) (k+1);rw[d,a_] at v;apply F 3 [0] m;simp only[↓Z];refine cC m 10 aB (by kernel_rfl) ?_;simp only[zy];refine cW 9 [2,0,2] ?_;simp only[↓Z,gH,lP,lV,sB,vI,aa,ab,ae,bi];refine⟨_,λu m=>(lies1 (nY (K.ext m.ext)) bW),by omega,?_⟩;refine ql O (λu m=>(lies1 ((E.ext m.ext) 0 _ O) qJ)) ?_;simp only[J];refine bD ?_;intro u m;refine bJ m 0 O O gB mS O (by decide) O O (tA _) (cI.cells (y.ext m.ext)) (qF _) (by omega) (by omega) ?_;intro b ah u m;simp only[zF,zG] at m;refine aA aI (S ?_);apply aQ 6 [0] m;simp only[↓Z];apply R;omega;rw[<-au,<-d,<-a_,<-d] at m;rw[<-a_,<-d];exact t (nl-(k+1)) _ _ (by omega) (by kernel_rfl) ⟨k+1,_,_,O,m,by omega,O⟩
 obtain rfl:k=nl:=by omega
 rw[ap (by rw[f.len];omega)] at m ⊢;apply F 7 [] m;simp only[↓Z];exact aS O O ⟨_,O,m.ext,_,_,_,O,O,(m.o 0 O)⟩
def ajw{w:an}{a:Addr}{us vs:List Value}(h:iX w a us)(k:Nat)(c:us.drop k=vs):iX w (a.add k) vs:=λj u b=>by
 rw[gQ];exact h (k+j) u (by rw[<-List.getElem?_drop,c];exact b)
def Ip{cl M:Nat}(w:an)(c:kO nB 1 w I nl l)(y:nl<=1000000000000):cX X9 175 [.slice I nl cl,U (M:Int)] w (λv _=>∃b,v=.bool b/\(b=N↔Ji l M)):=by
 refine⟨bP func175 (by kernel_rfl),?_⟩;have m:=Mem.refl w
 go_enter func175,ntmps175
 apply iD 10 [0] m;simp only[↓Z];refine bT [5] [4,6,7,8,9,10,11,12,13,14,15,16,17,18,19,20,21,22,23,24] (λn vs o=>∃(k:Nat),vs=[U (k:Int)]/\Mem w o []/\(∀z∈l.take k,0<=z/\z<(M:Int))/\(k<=nl)/\(n=nl-k)) ?_ ?_
 .exact⟨_,0,O,m,Bn,by omega,O⟩
 intro n vs t j u q p
 obtain⟨k,rfl,m,d,r,s⟩:=j;simp only[zu,zF,zG];apply F 8 [0,0] m;simp only[↓Z,gG];refine aZ O ?_ ?_<;>intro x
 .obtain⟨z,e,a,rfl,g⟩:=c.get (i:=k) (by omega);apply F 13 [0,2,0,7,0,2,0,0] m;simp only[↓Z,lV,ab,ae,bi];refine⟨_,λu m=>(lies1 (nY (g.ext m.ext)) bW),_,λu m=>(lies1 (nY (g.ext m.ext)) bW),λ_=>⟨by omega,?_⟩⟩;refine dH O ?_ ?_<;>intro f
  .apply F 5 [] m;simp only[↓Z];exact aS rfl rfl ⟨_,rfl,m.ext,X7,rfl,by refine⟨λh=>(by cases h),λh=>?_⟩;have:=h z (ak e);simp at f;omega⟩
  apply F 7 [0] m;simp only[↓Z];apply R;omega;exact p (nl-(k+1)) _ _ (by omega) (by kernel_rfl) ⟨k+1,O,m,tD d e (by simp at f;omega),by omega,rfl⟩
 apply F 6 [] m;simp only[↓Z];exact aS O O ⟨_,O,m.ext,N,O,⟨λ_=>Fc d (by rw[c.len];omega),λ_=>rfl⟩⟩
def Zm(w:an)(p:GrAt w A B G)(K:G.cs.length=nc)(ap:G.gs.length=ng)(af:nc<=1000000)(ag:ng<=1000000)(Y:∀(g:Gp),g∈G.gs->g.ins.length<=1000000000000/\g.outs.length<=1000000000000):cX X9 118 [.agg #[.slice A nc cc,.slice B ng cg]] w (λv _=>∃b,v=.bool b/\(b=N↔IxG G)):=by
 refine⟨bP func118 (by kernel_rfl),?_⟩;have m:=Mem.refl w
 go_enter func118,ntmps118
 apply gJ 11 [0] m;simp only[↓Z];intro o u m;refine bT [3] [2,4,8,9,10,11,12,13,14,15,16,17,18,19,20,21,22,23,24,25,26,27,28,29,30,31,32,33,34,35,36,37,38,39,40,41,42,43] (λn vs f=>∃(k:Nat),vs=[U (k:Int)]/\Mem w f [bI o [.slice A nc cc,.slice B ng cg] 31]/\(∀c∈G.cs.take k,(-1<=c.made/\c.made<G.gs.length)/\-1<=c.used/\c.used<G.gs.length)/\(k<=nc)/\(n=nc-k)) ?_ ?_
 .exact⟨_,0,O,m,Bn,by omega,O⟩
 intro n vs V d u K1 W
 obtain⟨k,rfl,m,q,Q,T⟩:=d;simp only[zu,zF,zG];apply F 9 [1,0,0] m;simp only[↓Z,gH,lP,El,aa];refine aZ O ?_ ?_<;>intro ah
 .obtain⟨x,a,E,cx,s,rfl,ad,aq,ao⟩:=p.cl (k:=k) (by omega);apply F 9 [1,0] m;simp only[↓Z,gH,lP,sB,aa,ab,ae];apply R;omega;refine bA O ((ad.ext m.ext).lies Jm mH) ?_;simp only[J];apply kZ 10 [0,1,0,7,1,2,0] m;simp only[↓Z,ad0,aaX,kT,dN,jH,oA,Ae,aa];refine λg2=>λ_=>?_;intro u m;apply aQ 5 [4,1,0,7,1,2,0,0] m;simp only[↓Z,nX,dN,jH,oA,Ae,aa];refine λ_=>λ_=>?_;refine dH O ?_ ?_<;>intro C
  .apply F 5 [] m;simp only[↓Z];exact aS rfl rfl ⟨_,rfl,m.ext,X7,rfl,by refine⟨λh=>(by cases h),λh=>?_⟩;have:=h.1 x (ak s);simp at C;omega⟩
  apply F 7 [0] m;simp only[↓Z];apply R;omega;exact W (nc-(k+1)) _ _ (by omega) (by kernel_rfl) ⟨k+1,O,(m.sel [X7,N]),tD q s (by simp at C;omega),by omega,rfl⟩
 apply F 7 [0] m;simp only[↓Z];refine bT [5] [2,6,7,44,45,46,47,48,49,50,51,52,53,54,55,56,57,58,59,60,61,62,63,64,65,66,67,68,69,70,71,72,73,74,75,76] (λn vs f=>∃(k:Nat),vs=[U (k:Int)]/\Mem w f [bI o [.slice A nc cc,.slice B ng cg] 31]/\(∀g∈G.gs.take k,Ji g.ins G.cs.length/\Ji g.outs G.cs.length)/\(k<=ng)/\(n=ng-k)) ?_ ?_
 .exact⟨_,0,O,m,Bn,by omega,O⟩
 intro n vs V d u K2 X
 obtain⟨k,rfl,m,r,Q,T⟩:=d;simp only[zu,zF,zG];apply F 9 [1,0,0] m;simp only[↓Z,jH,oA,Ae,aa];refine aZ O ?_ ?_<;>intro ai
 .obtain⟨gp,a2,I,ci,O0,co,M,cm,e,rfl,L,d,P,hM,aj,am,al⟩:=p.gp (k:=k) (by omega);have D:=Y gp (ak e);apply F 4 [0] m;simp only[↓Z];refine mh m [N] [(0,N),(2,N),(6,N),(1,N),(3,N),(4,N),(5,N),(7,N),(8,N),(9,X7),(10,N)] aB (by kernel_rfl) (bR (λ_ _ _ _ _ h=>h)) (ol:=?_) ?j ?_
  case j=>simp only[zw,zQ,zR];try rfl
  intro u m;refine tL 6 [1] ?_;simp only[↓Z,jH,gH,oA,Lp,rK,aa,ab,ae];apply R;omega;refine eK O (λu m=>(lies1 ((L.ext m.ext) 1 _ O) mA)) ?_;simp only[J];refine tL 2 [1] ?_;simp only[↓Z,lP,El];refine bX (bY m O O (Ip (M:=nc) _ (d.ext m.ext) D.1) ?_);rintro v u m ⟨bI,rfl,t⟩;refine S ⟨m,?_⟩;refine aV aI (aT ?_);apply aQ 1 [0] m;simp only[↓Z];refine mh m [N] [(0,N),(2,N),(6,N),(1,N),(3,N),(4,N),(5,N),(7,N),(8,N),(9,X7),(10,N)] aB (by kernel_rfl) (bR (λ_ _ _ _ _ h=>h)) (ol:=?_) ?j ?_
  case j=>simp only[zw,zQ,zR];try rfl
  intro u m;refine tL 6 [1] ?_;simp only[↓Z,jH,gH,oA,Lp,vJ,aa,ab,ae];apply R;omega;refine eK O (λu m=>(lies1 ((L.ext m.ext) 2 _ O) mA)) ?_;simp only[J];refine tL 2 [1] ?_;simp only[↓Z,lP,El];refine bX (bY m O O (Ip (M:=nc) _ (P.ext m.ext) D.2) ?_);rintro v u m ⟨l,rfl,y⟩;refine S ⟨m,?_⟩;refine aV aI (aT ?_);apply aQ 7 [3,0] m;simp only[↓Z];refine λ_=>?_;refine dH O ?_ ?_<;>intro i
  .apply F 5 [] m;simp only[↓Z];exact aS rfl rfl ⟨_,rfl,m.ext,X7,rfl,by refine⟨λh=>(by cases h),λh=>?_⟩;have:=h.2 gp (ak e);rw[K] at this;rw[t.2 this.1,y.2 this.2] at i;cases i⟩
  apply F 7 [0] m;simp only[↓Z];apply R;omega;have z:bI=N/\l=N:=by cases bI<;>cases l<;>simp at i ⊢
  skip
  exact X (ng-(k+1)) _ _ (by omega) (by kernel_rfl) ⟨k+1,O,m,tD r e (by rw[K];exact⟨t.1 z.1,y.1 z.2⟩),by omega,O⟩
 apply F 6 [] m;simp only[↓Z];exact aS O O ⟨_,O,m.ext,N,O,⟨λ_=>⟨Fc q (by omega),Fc r (by omega)⟩,λ_=>rfl⟩⟩
def Kx{cl:Nat}(w:an)(b:kO nB 1 w I nl l)(x:nl<=1000000000000):cX X9 176 [.slice I nl cl,U z] w (λv _=>v=U ((l.count z:Nat):Int)):=by
 refine⟨bP func176 (by kernel_rfl),?_⟩;have m:=Mem.refl w
 go_enter func176,ntmps176
 apply iD 14 [0] m;simp only[↓Z];refine bT [5,6] [7,8,9,10,11,12,13,14,15,16,17,18,19,20] (λn vs h=>∃(k:Nat),vs=[U (((l.take k).count z:Nat):Int),U (k:Int)]/\Mem w h []/\(k<=nl)/\(n=nl-k)) ?_ ?_
 .exact⟨_,0,O,m,by omega,O⟩
 intro n vs s f u p c
 obtain⟨k,rfl,m,q,r⟩:=f;simp only[zu,zF,zG];apply F 8 [0,0] m;simp only[↓Z,gG];refine aZ O ?_ ?_<;>intro t
 .obtain⟨y,g,a,rfl,o⟩:=b.get (i:=k) (by omega);have e:=ae0 (z:=z) g;have j:=List.count_le_length (a:=z) (l:=l.take k);rw[bf] at j;apply F 12 [0,2,0,0] m;simp only[↓Z,lV,ab,ae,bi];refine⟨_,λu m=>(lies1 (nY (o.ext m.ext)) bW),by omega,?_⟩;refine aZ O ?_ ?_<;>intro d
  .apply F 11 [0] m;simp only[↓Z];apply R;omega;rw[show ((l.take k).count z:Int)+1=((l.take (k+1)).count z:Nat) by rw[e,Sy,Z9 d]];exact c (nl-(k+1)) _ _ (by omega) (by kernel_rfl) ⟨k+1,O,m,by omega,O⟩
  apply F 7 [0] m;simp only[↓Z];apply R;omega;rw[show ((l.take k).count z:Int)=((l.take (k+1)).count z:Nat) by rw[e,Sy,K0 d,nu]];exact c (nl-(k+1)) _ _ (by omega) (by kernel_rfl) ⟨k+1,O,m,by omega,O⟩
 rw[ap (by rw[b.len];omega)];apply F 7 [] m;simp only[↓Z];exact aS O O ⟨_,O,m.ext,O⟩
def Ru{b:Int}:dO X9 177 [U a,U b] (U (Sy a b)):=by
 intro w;refine⟨bP func177 (by kernel_rfl),?_⟩;have m:=Mem.refl w
 go_enter func177,ntmps177
 apply iD 11 [0,0] m;simp only[↓Z];refine aZ O ?_ ?_<;>intro c
 .apply F 5 [] m;simp only[↓Z];refine aS O O ?_;try simp only[zD,zE]
  exact⟨_,O,m.ext,by rw[Sy,Z9 c]⟩
 apply F 6 [] m;simp only[↓Z];refine aS O O ?_;try simp only[zD,zE]
 exact⟨_,O,m.ext,by rw[Sy,K0 c]⟩
def abo(w:an)(q:GrAt w A B G)(aE:G.cs.length=nc)(aI:G.gs.length=ng)(ap:nc<=1000000)(aq:ng<=1000000)(ag:∀(g:Gp),g∈G.gs->g.ins.length<=1000000000000/\g.outs.length<=1000000000000)(ai:IxG G):cX X9 119 [.agg #[.slice A nc cc,.slice B ng cg]] w (λv _=>∃b,v=.bool b/\(b=N↔MkR G)):=by
 refine⟨bP func119 (by kernel_rfl),?_⟩;have m:=Mem.refl w
 go_enter func119,ntmps119
 apply gJ 11 [0] m;simp only[↓Z];intro p u m;refine bT [3] [2,4,5,6,7,8,9,10,11,12,13,14,15,16,17,18,19,20,21,22,23,24,25,26,27,28,29,30,31,32,33,34,35,36,37,38,39,40,41,42,43,44,45,46,47,48,49,50,51,52,53,54,55,56,57,58,59,60,61,62,63,64,65,66,67,68,69,70,71,72] (λn vs l=>∃(k:Nat),vs=[U (k:Int)]/\Mem w l [bI p [.slice A nc cc,.slice B ng cg] 31]/\(nC (amQ G) G.gs k)/\(k<=ng)/\(n=ng-k)) ?_ ?_
 .exact⟨_,0,O,m,nC.zero,by omega,O⟩
 intro n vs V d u K1 X
 obtain⟨k,rfl,m,Q,hk,hn⟩:=d;simp only[zu,zF,zG];apply F 9 [1,0,0] m;simp only[↓Z,jH,oA,Ae,aa];refine aZ O ?_ ?_<;>intro ar
 .obtain⟨gp,y,I,ci,O0,co,M,C,e,rfl,am,d,L,hM,aw,ay,ax⟩:=q.gp (k:=k) (by omega);have s:=ag gp (ak e);apply F 9 [1,0] m;simp only[↓Z,jH,oA,Lp,aa,ab,ae];apply R;omega;refine bA O ((am.ext m.ext).lies Xq qK) ?_;simp only[J];apply kZ 9 [0,0] m;simp only[↓Z,aib,ad1,aa];intro D u m;refine bT [5] [2,19,20,21,22,23,24,25,26,27,28,29,30,31,32,33,34,35,36,37,38,39,40,41,42,43,44,45,46,47,48,49,50,51,52,53] (λn vs l=>∃(c:Nat),vs=[U (c:Int)]/\Mem w l [bI D [iV gp.lv,.slice I gp.ins.length ci,.slice O0 gp.outs.length co,.slice M gp.mv.length C,iV gp.er,iV gp.tot,.bool (cQ gp.dl),.string (dQ gp.dl)] 70,bI p [.slice A nc cc,.slice (H y) ng cg] 31]/\(nC (λc x=>gp.outs.count (c:Int)=(if x.made=(k:Int) then 1 else 0)/\gp.ins.count (c:Int)=if x.used=(k:Int) then 1 else 0) G.cs c)/\(c<=nc)/\(n=nc-c)) ?_ ?_
  .exact⟨_,0,O,m,nC.zero,by omega,O⟩
  intro n vs V d u K2 Y
  obtain⟨c,rfl,m,T,hc,aA⟩:=d;simp only[zu,zF,zG];apply F 9 [2,0,0] m;simp only[↓Z,gH,lP,El,aa];refine aZ O ?_ ?_<;>intro au
  .obtain⟨x,a,E,cx,f,rfl,o,aj,ah⟩:=q.cl (k:=c) (by omega);apply F 4 [] m;simp only[↓Z];by_cases K:((gp.outs.count (c:Int):Nat):Int)=Sy x.made (k:Int)
   .refine gc ?_;refine mh m [N,N] [(0,N),(2,N),(4,N),(6,N),(10,N),(1,N),(5,N),(7,N),(8,N),(9,N),(3,X7),(11,X7),(12,N),(13,N),(14,N),(16,N),(18,N),(20,N),(24,N),(15,N),(19,N),(21,N),(22,N),(23,N),(17,X7),(25,X7),(26,N),(27,N)] aB (by kernel_rfl) (bR (λ_ _ _ _ _ h=>h)) (ol:=?_) ?t ?_
    case t=>simp only[zw,zQ,zR];try rfl
    intro u m;refine tL 10 [1,2,0,2] ?_;simp only[↓Z,vJ,gH,Ek,lP,sB,kT,aa,ab,ae];refine⟨_,λu m=>(lies1 ((o.ext m.ext) 1 _ O) bW),by omega,?_⟩;refine bX (bY m O O (Kx (z:=(c:Int)) _ (L.ext m.ext) s.2) ?_);rintro v u m rfl;refine S ⟨m,?_⟩;refine bX ?_;simp only[J];refine eV m O O (Ru (a:=x.made) (b:=(k:Int))) ?_;intro u m;refine S ⟨m,?_⟩;simp only[J];refine aV (anI O O (by omega)) (aV aF ?_);refine tL 10 [0,0,0,0,0,0,1,0,2,0,0,0,0,2] ?_;simp only[↓Z,rK,gH,Ek,lP,sB,nX,aa,ab,ae];refine⟨_,λu m=>(lies1 ((o.ext m.ext) 2 _ O) bW),by omega,?_⟩;refine bX (bQ O (bY m O O (Kx (z:=(c:Int)) _ (d.ext m.ext) s.1) ?_));rintro v u m rfl;refine S ⟨m,?_⟩;refine bX (bQ O ?_);simp only[J];refine eV m O O (Ru (a:=x.used) (b:=(k:Int))) ?_;intro u m;refine S ⟨m,?_⟩;refine vT O (aV (sS O O) (aV (gD O) (aT (gc ?_))));simp only[J];refine aZ O ?_ ?_<;>intro W
    .apply F 5 [] m;simp only[↓Z];exact aS rfl rfl ⟨_,rfl,m.ext,X7,rfl,by refine⟨λh=>(by cases h),λh=>?_⟩;exact Y0 (Nd.2 ((Gy.1 h k gp e).1 c x f).2) W⟩
    apply F 7 [0] m;simp only[↓Z];apply R;omega;exact Y (nc-(c+1)) _ _ (by omega) (by kernel_rfl) ⟨c+1,O,m,T.step f ⟨Nd.1 K,Nd.1 (Classical.not_not.1 W)⟩,by omega,O⟩
   refine gc ?_;refine mh m [N,N] [(0,N),(2,N),(4,N),(6,N),(10,N),(1,N),(5,N),(7,N),(8,N),(9,N),(3,X7),(11,X7),(12,N),(13,N),(14,N),(16,N),(18,N),(20,N),(24,N),(15,N),(19,N),(21,N),(22,N),(23,N),(17,X7),(25,X7),(26,N),(27,N)] aB (by kernel_rfl) (bR (λ_ _ _ _ _ h=>h)) (ol:=?_) ?t ?_
   case t=>simp only[zw,zQ,zR];try rfl
   intro u m;refine tL 10 [1,2,0,2] ?_;simp only[↓Z,vJ,gH,Ek,lP,sB,kT,aa,ab,ae];refine⟨_,λu m=>(lies1 ((o.ext m.ext) 1 _ O) bW),by omega,?_⟩;refine bX (bY m O O (Kx (z:=(c:Int)) _ (L.ext m.ext) s.2) ?_);rintro v u m rfl;refine S ⟨m,?_⟩;refine bX ?_;simp only[J];refine eV m O O (Ru (a:=x.made) (b:=(k:Int))) ?_;intro u m;refine S ⟨m,?_⟩;simp only[J];refine aV (anH O O (by omega)) (aV aF ?_);refine tL 10 [0,0,0,0,0,0,0,0,0,0] ?_;simp only[↓Z];refine bX (dB O (S ?_));refine⟨m,?_⟩;refine bX (dB O (S ?_));refine⟨m,?_⟩;refine Wi O (aV (dT O) ?_);simp only[J];refine aT ?_;apply aQ 6 [] m;simp only[↓Z];exact aS rfl rfl ⟨_,rfl,m.ext,X7,rfl,by refine⟨λh=>(by cases h),λh=>?_⟩;exact Y0 (Nd.2 ((Gy.1 h k gp e).1 c x f).1) K⟩
  apply F 6 [0] m;simp only[↓Z];refine bT [6] [2,54,55,56,57,58,59,60,61,62,63,64,65,66,67,68,69,70,71,72] (λn vs l=>∃(j:Nat),vs=[U (j:Int)]/\Mem w l [bI D [iV gp.lv,.slice I gp.ins.length ci,.slice O0 gp.outs.length co,.slice M gp.mv.length C,iV gp.er,iV gp.tot,.bool (cQ gp.dl),.string (dQ gp.dl)] 70,bI p [.slice A nc cc,.slice (H y) ng cg] 31]/\(∀z∈gp.ins.take j,Nc G.cs z<(k:Int))/\(j<=gp.ins.length)/\(n=gp.ins.length-j)) ?_ ?_
  .exact⟨_,0,O,m,Bn,by omega,O⟩
  intro n vs V d u K3 ad
  obtain⟨j,rfl,m,P,hj,aD⟩:=d;simp only[zu,zF,zG];apply F 9 [1,0,0] m;simp only[↓Z,rK,Ek,gG,aa];refine aZ O ?_ ?_<;>intro av
  .obtain⟨z,r,az,rfl,ao⟩:=d.get (i:=j) (by omega);obtain⟨al,aJ⟩:=(ai.2 gp (ak e)).1 z (ak r);obtain⟨c,rfl⟩:=ee al;obtain⟨x,a,E,cx,f,rfl,o,aj,ah⟩:=q.cl (k:=c) (by omega);apply F 4 [0] m;simp only[↓Z];refine mq m aB (by kernel_rfl) (cW 12 [2,1,0,2,0,2,0] ?_);simp only[↓Z,gH,lP,rK,Ek,lV,sB,kT,aa,ab,ae,bi];refine⟨_,λu m=>(lies1 (nY (ao.ext m.ext)) bW),_,λu m=>(lies1 ((o.ext m.ext) 1 _ O) bW),by omega,?_⟩;refine bD ?_;intro u m;refine gc (aZ O (λaf=>?_) (λaf=>?_))
   .apply F 5 [] m;simp only[↓Z];exact aS rfl rfl ⟨_,rfl,m.ext,X7,rfl,by refine⟨λh=>(by cases h),λh=>?_⟩;have:=(Gy.1 h k gp e).2 _ (ak r);rw[uY f] at this;omega⟩
   apply F 7 [0] m;simp only[↓Z];apply R;omega;exact ad (gp.ins.length-(j+1)) _ _ (by omega) (by kernel_rfl) ⟨j+1,O,m,tD P r (by rw[uY f];omega),by omega,rfl⟩
  apply F 7 [0] m;simp only[↓Z];apply R;omega;exact X (ng-(k+1)) _ _ (by omega) (by kernel_rfl) ⟨k+1,O,(m.sel [X7,N]),Q.step e ⟨T.all (by omega),Fc P (by omega)⟩,by omega,O⟩
 apply F 6 [] m;simp only[↓Z];exact aS O O ⟨_,O,m.ext,N,O,⟨λ_=>Gy.2 (Q.all (by omega)),λ_=>rfl⟩⟩
def bno{b:Bool}(h:(!b)=N):b=X7:=by cases b<;>revert h<;>decide
def apO{b:Bool}(h:(!b)=X7):b=N:=by cases b<;>revert h<;>decide
def ac7(w:an)(a:GrAt w A B G)(l:G.cs.length=nc)(n:G.gs.length=ng)(c:nc<=1000000)(d:ng<=1000000)(f:∀(g:Gp),g∈G.gs->g.ins.length<=1000000000000/\g.outs.length<=1000000000000):cX X9 74 [.agg #[.slice A nc cc,.slice B ng cg]] w (λv _=>∃b,v=.bool b/\(b=N↔IxG G/\MkR G)):=by
 refine⟨bP func74 (by kernel_rfl),?_⟩;have m:=Mem.refl w
 go_enter func74,ntmps74
 apply gJ 8 [1,0] m;simp only[↓Z,jI];intro r u m;refine bY m O O (Zm _ (a.ext m.ext) l n c d f) ?_;rintro v u m ⟨o,rfl,i⟩;apply aL 8 [0] m;simp only[↓Z];refine dH O ?_ ?_<;>intro e
 .have q:o=X7:=bno e;apply F 5 [] m;simp only[↓Z];exact aS rfl rfl ⟨_,rfl,m.ext,X7,rfl,⟨λh=>(by cases h),λh=>Y0 (i.2 h.1) (by rw[q];decide)⟩⟩
 have k:IxG G:=i.1 (apO e);apply F 4 [1,0] m;simp only[↓Z,jI];refine bY m O O (abo _ (a.ext m.ext) l n c d f k) ?_;rintro v u m ⟨p,rfl,j⟩;apply aL 3 [] m;simp only[↓Z];exact aS O O ⟨_,O,m.ext,p,O,⟨λh=>⟨k,j.1 h⟩,λh=>j.2 h.2⟩⟩
def Rv{D:Option Addr}{nd cd:Nat}{cu:List Bool}(w:an)(t:GrAt w A B G)(aq:G.cs.length=nc)(ar:G.gs.length=ng)(am:nc<=1000000)(ao:ng<=1000000)(ah:∀(g:Gp),g∈G.gs->g.ins.length<=1000000000000/\g.outs.length<=1000000000000)(s:kO uI 1 w D nd cu):cX X9 29 [.agg #[.slice A nc cc,.slice B ng cg],.slice D nd cd] w (λv _=>∃b,v=.bool b/\(b=N↔Mf G cu)):=by
 refine⟨bP func29 (by kernel_rfl),?_⟩;have m:=Mem.refl w;have aN:=s.len
 go_enter func29,ntmps29
 apply gJ 8 [1,0] m;simp only[↓Z,jI];intro W u m;refine bY m O O (ac7 _ (t.ext m.ext) aq ar am ao ah) ?_;rintro v u m ⟨T,rfl,ai⟩;apply aL 10 [7,1,0,0] m;simp only[↓Z,aaW,jH,oA,Ae,aa];refine λ_=>?_;refine dH O ?_ ?_<;>intro L
 .apply F 5 [] m;simp only[↓Z];exact aS rfl rfl ⟨_,rfl,m.ext,X7,rfl,⟨λh=>(by cases h),λh=>by have f:=Xh.1 h;have o:=ai.2 f.1;have h4:=f.2.1;rw[o] at L;simp at L;omega⟩⟩
 obtain⟨aw,aO⟩:T=N/\nd=ng:=by cases T<;>simp at L ⊢;omega
 have S:=ai.1 aw;apply F 7 [0] m;simp only[↓Z];refine bT [6] [4,7,8,21,22,23,24,25,26,27,28,29,30,31,32,33,34,35,36,37,38,39,40,41,42,43,44,45,46,47,48,49,50,51,52,53,54,55,56,57,58,59,60,61,62,63,64,65,66] (λn vs K=>∃(k:Nat),vs=[U (k:Int)]/\Mem w K [bI W [.slice A nc cc,.slice B ng cg] 31]/\(nC (ahd G cu) G.gs k)/\(k<=nd)/\(n=nd-k)) ?_ ?_
 .exact⟨_,0,O,m,nC.zero,by omega,O⟩
 intro n vs wr l u K1 al
 obtain⟨k,rfl,m,X,hk,hn⟩:=l;simp only[zu,zF,zG];apply F 8 [0,0] m;simp only[↓Z,aaW];refine aZ O ?_ ?_<;>intro aG
 .obtain⟨gp,a2,I,ci,O0,co,M,cm,p,rfl,aj,l,hO,hM,aI,aK,aJ⟩:=t.gp (k:=k) (by omega);have aP:=ah gp (ak p);obtain⟨V,af,aE,rfl,ay⟩:=s.get (i:=k) (by omega);apply F 8 [0] m;simp only[↓Z];refine bT [7] [4,8,27,28,29,30,31,32,33,34,35,36,37,38,39,40,41,42,43,44,45,46,47,48,49,50,51,52,53,54,55,56,57,58,59,60,61,62,63,64,65,66] (λn vs K=>∃(j:Nat),vs=[U (j:Int)]/\Mem w K [bI W [.slice A nc cc,.slice (H a2) ng cg] 31]/\(∀z∈gp.ins.take j,0<=Nc G.cs z->cu[(Nc G.cs z).toNat]? = H N)/\(j<=gp.ins.length)/\(n=gp.ins.length-j)) ?_ ?_
  .exact⟨_,0,O,m,Bn,by omega,O⟩
  intro n vs wr l u K2 Y
  obtain⟨j,rfl,m,Q,hj,aU⟩:=l;simp only[zu,zF,zG];apply F 9 [1,0] m;simp only[↓Z,jH,oA,Lp,rK,aa,ab,ae];apply R;omega;refine bA O (lies1 ((aj.ext m.ext) 1 _ O) mA) ?_;simp only[J];apply aL 5 [0,5,0,3,0] m;simp only[↓Z,gG,wZ,ab,ae,bi];refine⟨_,λu m=>(lies1 (nY (ay.ext m.ext)) eW),λ_=>⟨by omega,?_⟩⟩;refine dH O ?_ ?_<;>intro P
  .obtain⟨aR,ax⟩:j<gp.ins.length/\V=N:=by simp at P;exact⟨by omega,P.2⟩
   obtain⟨z,d,aF,rfl,aD⟩:=l.get (i:=j) (by omega);obtain⟨au,aW⟩:=(S.1.2 gp (ak p)).1 z (ak d);obtain⟨c,rfl⟩:=ee au;obtain⟨x,a,E,cx,r,rfl,az,aV,aM⟩:=t.cl (k:=c) (by omega);apply F 4 [0] m;simp only[↓Z];refine mq m aB (by kernel_rfl) (cW 7 [1,1] ?_);simp only[↓Z,gH,lP,jH,oA,Lp,rK,aa,ab,ae];apply R;omega;refine ql O (λu m=>(lies1 ((aj.ext m.ext) 1 _ O) mA)) ?_;simp only[J];refine cW 7 [0,2,0,2] ?_;simp only[↓Z,lV,sB,kT,ab,ae,bi,aa];refine⟨_,λu m=>(lies1 (nY (aD.ext m.ext)) bW),_,λu m=>(lies1 ((az.ext m.ext) 1 _ O) bW),by omega,?_⟩;refine bD ?_;intro u m;apply aQ 1 [] m;simp only[↓Z];by_cases y:0<=x.made
   .obtain⟨q,C⟩:∃q:Nat,x.made=(q:Int):=⟨x.made.toNat,by omega⟩
    have aT:=((S.1.1 x (ak r)).1).2;obtain⟨bq,ad,_,av,aA⟩:=s.get (i:=q) (by omega);cases av;rw[C];apply aQ 11 [1,0,0,0,0,0,3,0,0] m;simp only[↓Z,wZ,ab,ae,bi];refine⟨_,λu m=>(lies1 (nY (aA.ext m.ext)) eW),by omega,?_⟩;refine dH O ?_ ?_<;>intro ag
    .apply F 5 [] m;simp only[↓Z];exact aS rfl rfl ⟨_,rfl,m.ext,X7,rfl,⟨λh=>(by cases h),λh=>by have f:=(Xh.1 h).2.2 k gp p (by rw[af,ax]) (c:Int) (ak d);rw[uY r,C] at f;have o:=f (lo _);rw[ab,ad] at o;cases o;cases ag⟩⟩
    apply F 7 [0] m;simp only[↓Z];apply R;omega;exact Y (gp.ins.length-(j+1)) _ _ (by omega) (by kernel_rfl) ⟨j+1,O,m,tD Q d (λ_=>by rw[uY r,C,ab,ad];cases bq<;>simp at ag ⊢),by omega,rfl⟩
   apply aQ 19 [2,0,0,0,0,0,0] m;simp only[↓Z];apply R;omega;exact Y (gp.ins.length-(j+1)) _ _ (by omega) (by kernel_rfl) ⟨j+1,O,m,tD Q d (λh=>Y0 h (by rw[uY r];exact y)),by omega,O⟩
  have ap:V=N->gp.ins.length<=j:=λe=>by simp[e] at P;omega
  apply F 7 [0] m;simp only[↓Z];apply R;omega;exact al (nd-(k+1)) _ _ (by omega) (by kernel_rfl) ⟨k+1,O,m,X.step p (λe z d y=>Fc Q (ap (lc (af.symm.trans e))) z d y),by omega,O⟩
 apply F 6 [] m;simp only[↓Z];exact aS O O ⟨_,O,m.ext,N,O,⟨λ_=>Xh.2 ⟨S,by omega,X.all (by omega)⟩,λ_=>rfl⟩⟩
def ac8{gb:Nat}(w:an)(h:fQ w B1 [.pointer (H ⟨gb,0,X8⟩)] 80)(i:fQ w gb [.slice A nc cc,.slice B ng cg] 31):cX X9 109 [U z,.pointer (H ⟨B1,0,X8⟩)] w (λv _=>v=.bool (decide (z<0)||decide ((nc:Int)<=z))):=by
 refine⟨bP func109 (by kernel_rfl),?_⟩;have m:=Mem.refl w
 go_enter func109,ntmps109
 refine L λg e=>f (aA aI (S (e _ _ ?_)));try clear e g
 refine L λb a=>?_;simp only[J];by_cases d:z<0
 .refine f (aA aF ?_);simp only[J];refine aA (oC O O (by omega)) (aA aF (dB O (dB O ?_)));simp only[J];refine dB O (dB O (dB O (dB O ?_)));simp only[J];refine dB O (aA (dT O) (aA aI (S (a _ _ ?_))));try clear a b
  refine gh ?_;simp only[J];try simp only[t,Exit.then,Y4]
  refine aS O O ?_;try simp only[zD,zE]
  exact⟨_,O,m.ext,by simp[d]⟩
 refine f (aA aF ?_);simp only[J];refine aA (vR O O (by omega)) (aA aF (bQ O (aA aF (bQ O ?_))));simp only[J];refine bA O ((h.ext m.ext).lies1 vZ O) ?_;simp only[J];refine bQ O (aA (cN O) (bQ O (aA (aO (c:=0) nD O lM O O) (bQ O ?_))));simp only[J];refine bA O ((i.ext m.ext).lies1 vY O) ?_;simp only[J];refine bQ O (aA (iL O uZ O) (bQ O (aA (zY O O) (aA (gD O) (aA aI ?_)))));simp only[J];refine S (a _ _ ?_);try clear a b
 refine gh ?_;try simp only[t,Exit.then,Y4]
 refine aS O O ?_;try simp only[zD,zE]
 exact⟨_,O,m.ext,by simp[d]⟩
def abp{gb:Nat}{cl:Nat}(w:an)(o:fQ w B1 [.pointer (H ⟨gb,0,X8⟩)] 80)(p:fQ w gb [.slice A nc cc,.slice B ng cg] 31)(b:kO nB 1 w I nl l)(x:nl<=1000000000000):cX X9 164 [.slice I nl cl,.func (.func 109) #[] #[.pointer (H ⟨B1,0,X8⟩)]] w (λv _=>∃r:Int,v=U r/\(0<=r↔¬Ji l nc)):=by
 refine⟨bP func164 (by kernel_rfl),?_⟩;have m:=Mem.refl w
 go_enter func164,ntmps164
 apply iD 12 [0] m;simp only[↓Z,gG];refine bT [4,8] [5,9,10,11,12,13,14,15,16,17,18] (λn vs g=>∃(k:Nat),vs=[U 0,U (k:Int)]/\Mem w g []/\(∀z∈l.take k,0<=z/\z<(nc:Int))/\(k<=nl)/\(n=nl-k)) ?_ ?_
 .exact⟨_,0,O,m,Bn,by omega,O⟩
 intro n vs y f u s j
 obtain⟨k,rfl,m,c,t,D⟩:=f;simp only[zu,zF,zG];apply F 5 [0,0] m;simp only[↓Z];refine aZ O ?_ ?_<;>intro C
 .obtain⟨z,d,a,rfl,q⟩:=b.get (i:=k) (by omega);apply F 15 [0,2,0] m;simp only[↓Z,lV,ab,ae,bi];refine⟨_,λu m=>(lies1 (nY (q.ext m.ext)) bW),by omega,?_⟩;refine bY m O O (ac8 (z:=z) _ (o.ext m.ext) (p.ext m.ext)) ?_;rintro v u m rfl;apply aL 1 [0] m;simp only[↓Z];refine dH O ?_ ?_<;>intro e
  .apply F 6 [] m;simp only[↓Z];exact aS O O ⟨_,O,m.ext,_,O,by refine⟨λ_ h=>?_,λ_=>lo _⟩;have:=h z (ak d);simp at e;omega⟩
  apply F 6 [0] m;simp only[↓Z];apply R;omega;exact j (nl-(k+1)) _ _ (by omega) (by kernel_rfl) ⟨k+1,O,m,tD c d (by simp at e;omega),by omega,rfl⟩
 apply F 6 [] m;simp only[↓Z];exact aS O O ⟨_,O,m.ext,-1,O,by refine⟨λh=>(by omega),λh=>Y0 (Fc c (by rw[b.len];omega)) h⟩⟩
def Cn{gb:Nat}{cl:Nat}(w:an)(e:fQ w B1 [.pointer (H ⟨gb,0,X8⟩)] 80)(f:fQ w gb [.slice A nc cc,.slice B ng cg] 31)(a:kO nB 1 w I nl l)(c:nl<=1000000000000):cX X9 108 [.slice I nl cl,.func (.func 109) #[] #[.pointer (H ⟨B1,0,X8⟩)]] w (λv _=>∃b,v=.bool b/\(b=N↔¬Ji l nc)):=by
 refine⟨bP func108 (by kernel_rfl),?_⟩;have m:=Mem.refl w
 go_enter func108,ntmps108
 apply iD 8 [0] m;simp only[↓Z];refine bY m O O (abp _ (e.ext m.ext) (f.ext m.ext) (a.ext m.ext) c) ?_;rintro v u m ⟨r,rfl,d⟩;apply aL 4 [0] m;simp only[↓Z];exact aS O O ⟨_,O,m.ext,decide (0<=r),O,by rw[<-d];simp⟩
def apP(G:Gr)(k:Nat):Prop:=∀g,G.gs[k]? = H g->Ji g.ins G.cs.length/\Ji g.outs G.cs.length
def ajx{xs:List (Fin ng)}(f:G.gs.length=ng)(d:xs.map (·.1)=fh ng)(h:∀x∈xs,apP G x.1):∀g∈G.gs,Ji g.ins G.cs.length/\Ji g.outs G.cs.length:=λg a=>by
 obtain⟨k,b,e⟩:=List.getElem_of_mem a;have:k∈xs.map (·.1):=by rw[d];exact jc.2 (by omega)
 obtain⟨x,c,rfl⟩:=du.1 this;exact h x c g (by rw[ah b,e])
def ajy{b:Int}(h:¬(if b<a then b else a) < -1) : -1<=a/\-1<=b:=by split at h<;>omega
def afR{gb:Nat}(w:an)(hG:GrAt w A B G)(X:G.cs.length=nc)(al:G.gs.length=ng)(bf:nc<=1000000)(bc:ng<=1000000)(af:∀(g:Gp),g∈G.gs->g.ins.length<=1000000000000/\g.outs.length<=1000000000000)(q:fQ w gb [.slice A nc cc,.slice B ng cg] 31):cX X9 61 [.pointer (H ⟨gb,0,X8⟩)] w (λv _=>∃b,v=.bool b/\(b=N↔IxG G)):=by
 refine⟨bP func61 (by kernel_rfl),?_⟩;have m:=Mem.refl w;refine (callsIn_wide (n:=4)).1 (callsIn_of_wp_marks func61 O trivial ?_ O);simp only[ntmps61,gy,bh,dv,aa,lj,ir,iu,jq,i_,cv,dx];refine wpIn_wide.2 ?_;refine L λK1 k1=>f (Ug m O O ?_);intro s u m;simp only[J];refine fV m Xk O ?_;intro z u m;refine S (k1 _ _ ?_);try clear k1 K1
 refine L λK2 k2=>L λK3 k3=>f ?_;simp only[J];refine bA O ((m.b 1 O).lies1 vZ O) ?_;simp only[J];refine aA (cN O) (aA (aO (c:=0) nD O lM O O) ?_);simp only[J];refine bA O ((q.ext m.ext).lies1 vY O) ?_;simp only[J];refine aA (iL O uZ O) (aA aF (S (k3 _ _ ?_)));try clear k3 K3
 refine gn ?_;simp only[J];try simp only[ae,aa,C,ac]
 refine uT [14] [4,15,16,17,18,19,20,21,22,23,24,25,26,27,28,29,30,31,32,33,34,35,36,37] (λn vs wl=>∃(k:Nat),vs=[U (k:Int)]/\Mem w wl [bI z [.bool X7] 4,bI s [.pointer (H ⟨gb,0,X8⟩)] 80]/\(∀c∈G.cs.take k,(-1<=c.made/\c.made<G.gs.length)/\-1<=c.used/\c.used<G.gs.length)/\(k<=nc)/\(n=nc-k)) ?_ ?_
 . skip
   apply Exists.intro;simp only[zQ,zR,zD,zE];exact⟨0,O,m,Bn,by omega,O⟩
 intro n vs wr hI u
 obtain⟨k,rfl,m,l,P,hn⟩:=hI;simp only[zu,zF,zG];refine L λK4 k4=>f (aA (oJ O O) (S (k4 _ _ ?_)));try clear k4 K4
 refine L λK5 k5=>?_;simp only[J];refine aZ O ?_ ?_<;>intro bi
 .obtain⟨x,a,E,cx,p,rfl,bd,bl,bk⟩:=hG.cl (k:=k) (by omega);refine gg (k5 _ _ ?_);try clear k5 K5
  refine L λK6 k6=>gn (L λK7 k7=>f (aA (aN uZ mH O O (by omega) (by omega) (kV (ab _))) ?_));simp only[J];refine bA O ((bd.ext m.ext).lies Jm mH) ?_;simp only[J];refine fV m Xp O ?_;intro F u m;simp only[J];refine aX m 0 O O O mH (eU O) O ?_;intro u m;simp only[zy,zx,over,zF,zG,aa] at m;refine S (k7 _ _ ?_);try clear k7 K7
  refine L λY Q=>?_;by_cases h4:(if x.used<x.made then x.used else x.made) < -1
  .refine mq m aB (by kernel_rfl) (aK (aO (c:=0) sW O bC O O) ?_);simp only[J];refine ql O (λu m=>((m.b 0 O).lies1 bW O)) ?_;simp only[J];refine aK (aO (c:=0) sW O bC O O) ?_;simp only[J];refine ql O (λu m=>((m.b 0 O).lies1 bW O)) ?_;simp only[J];refine aK (adn O O O) ?_;simp only[J];refine aK (oC O O (by omega)) (aK aF (oX O (oX O ?_)));simp only[J];refine oX O (oX O (oX O (oX O ?_)));simp only[J];refine oX O (oX O (oX O (oX O ?_)));simp only[J];refine oX O (aK (dT O) (bD ?_));intro u m;refine Q _ _ ?_;try clear Q Y
   refine mX O (L λK9 k9=>f ?_);simp only[J];refine cH m 1 O O O dV (eU O) ⟨O,O⟩ ?_;intro u m;simp only[J,zy,zx,over,aa] at m;refine S (k9 _ _ ?_);try clear k9 K9
   refine gh ?_;try simp only[t,Exit.then,Y4]
   refine aaw ?_;refine aS O ⟨_,O,((m.b 1 O).lies1 eW O)⟩ ?_;try simp only[zD,zE]
   exact⟨_,rfl,m.ext,X7,rfl,⟨λh=>(by cases h),λh=>by have:=h.1 x (ak p);split at h4<;>omega⟩⟩
  refine mq m aB (by kernel_rfl) (aK (aO (c:=0) sW O bC O O) ?_);simp only[J];refine ql O (λu m=>((m.b 0 O).lies1 bW O)) ?_;simp only[J];refine aK (aO (c:=0) sW O bC O O) ?_;simp only[J];refine ql O (λu m=>((m.b 0 O).lies1 bW O)) ?_;simp only[J];refine aK (adn O O O) ?_;simp only[J];refine aK (vR O O (by omega)) (aK aF (bU O (aK (aO (c:=0) sW O bC O O) (bU O ?_))));simp only[J];refine ql O (λu m=>((m.b 0 O).lies1 bW O)) ?_;simp only[J];refine bU O (aK (aO (c:=0) sW O bC O O) (bU O ?_));simp only[J];refine ql O (λu m=>((m.b 0 O).lies1 bW O)) ?_;simp only[J];refine bU O (aK (sV O O O) (bU O ?_));simp only[J];refine ql O (λu m=>((m.b 2 O).lies1 vZ O)) ?_;simp only[J];refine bU O (aK (cN O) (bU O (aK (aO (c:=0) nD O lN O O) (bU O ?_))));simp only[J];refine ql O (λu m=>((q.ext m.ext).lies1 yA O)) ?_;simp only[J];refine bU O (aK (iL O wU O) (bU O (aK (zY O O) (aK (gD O) (bD ?_)))));intro u m;refine Q _ _ ?_;try clear Q Y
  simp only[J];refine dH O ?_ ?_<;>intro ad
  .refine L λaP am=>f (cH m 1 O O O dV (eU O) ⟨O,O⟩ ?_);intro u m;simp only[J,zy,zx,over,aa] at m;refine S (am _ _ ?_);try clear am aP
   refine gh ?_;try simp only[t,Exit.then,Y4]
   refine aaw ?_;refine aS O ⟨_,O,((m.b 1 O).lies1 eW O)⟩ ?_;try simp only[zD,zE]
   exact⟨_,rfl,m.ext,X7,rfl,⟨λh=>(by cases h),λh=>by have:=h.1 x (ak p);simp at ad;omega⟩⟩
  refine gg (k6 _ _ ?_);try clear k6 K6
  refine f (aA (eH O O (bN (by omega) (by omega))) (aA aF (S ?_)));simp only[J];simp only[t,Exit.then];refine⟨nc-(k+1),_,?_,O,?_,?_⟩
  .omega
  .simp only[J,zv]
  simp only[zQ,zR,zD,zE]
  exact⟨k+1,O,(m.sel [X7,N,N]),tD l p (by have:=ajy h4;simp at ad;omega),by omega,rfl⟩
 refine nj (k2 _ _ ?_);try clear k2 K2
 refine L λaQ ao=>L λaR ap=>f (bA O ((m.b 1 O).lies1 vZ O) ?_);simp only[J];refine bB O O (aek _) ?_;rintro v u e_ ⟨F,rfl,h_,k_⟩;replace m:=m.newB e_ h_ k_;refine S (ap _ _ ?_);try clear ap aR
 refine gn ?_;simp only[J];obtain⟨d,hH,bb⟩:=hG.hdr al;refine Xf (α:=Fin ng) (σ:=Unit) (λx=>[iV (x.1:Nat),.agg #[.slice (d x).I (d x).i (d x).ci,.slice (d x).O0 (d x).o (d x).co]]) [6] (λx g=>[.pointer (H ⟨g,0,X8⟩)]) (λx=>H ([.slice (d x).I (d x).i (d x).ci,.slice (d x).O0 (d x).o (d x).co],182)) rfl ahg (Lw m.ext hH (m.b 0 rfl) ((q.ext m.ext).row 0) bc) (λ_=>rfl) (bg _) (λ_=>[bI F [.pointer (H ⟨gb,0,X8⟩)] 80,bI z [.bool X7] 4,bI s [.pointer (H ⟨gb,0,X8⟩)] 80]) (λpre _=>∀x∈pre,apP G x.1) (λpre _=>∃k,¬apP G k) (λ_ _=>rfl) (λk P=>by obtain rfl:=cr.1 P;exact⟨_,_,λ_=>bv⟩) (s0:=()) m (λx p=>by cases p) ?_ ?_ ?_ ?_
 .intro r x _ W K Z m hK;replace m:Mem w W [bI F [.pointer (H ⟨gb,0,X8⟩)] 80,bI z [.bool X7] 4,bI s [.pointer (H ⟨gb,0,X8⟩)] 80,Z]:=m;simp only[xX,zF,zG];refine bF (fV m Pi O ?_);intro g4 u m;simp only[J];refine aX m 0 O O O De (eU O) O ?_;intro u m;simp only[zy,zx,over,zF,zG,aa] at m;exact S (hK _ _ m)
 .intro r pre x g4 _ W Q' _ Z hN hR m hn l;replace m:Mem w W [bI g4 [.slice (d x).I (d x).i (d x).ci,.slice (d x).O0 (d x).o (d x).co] 182,bI F [.pointer (H ⟨gb,0,X8⟩)] 80,bI z [.bool X7] 4,bI s [.pointer (H ⟨gb,0,X8⟩)] 80,Z]:=m;obtain⟨gp,e⟩:=bb x;simp only[xX,zF,zG]
  refine jY (eM λaT aq=>bF (bA O ((m.b 0 O).full adH De) ?_));simp only[J];refine aA aF (S (aq _ _ ?_));try clear aq aT
  refine jY (Ac 3 (Gu (eM λaV ar=>bF (aA (oC (m:=0) (n:=2) O O (by decide)) (S (ar _ _ ?_))))));try clear ar aV
  refine eM λaW au=>Jd O (mF (au _ _ ?_));try clear au aW
  refine eM λaY av=>jY (eM λa0 aw=>bF (aA (Ed O O) (aA aI ?_)));simp only[J];refine S (aw _ _ ?_);try clear aw a0
  refine eM λa1 ax=>bF (aA aF ?_);simp only[J];refine aA lX ?_;simp only[J,ka,df,fj];refine bY m O O (Cn _ (m.b 3 O) (q.ext m.ext) (e.I.ext m.ext) (by rw[e.i];have:=(af gp (ak e.at_)).1;omega)) ?_;rintro v u m ⟨bI,rfl,T⟩;refine S (ax _ _ ?_);try clear ax a1
  simp only[J];refine acb O ?_ ?_<;>intro j
  .refine eM λa2 ay=>bF (cH m 2 O O O dV (eU O) ⟨O,O⟩ ?_);intro u m;simp only[J,zy,zx,over,aa] at m;refine S (ay _ _ ?_);try clear ay a2
   refine Db ?_;exact l _ _ () (m.sel [X7,N,N,N,N]) ⟨x.1,λh=>by have:=h gp e.at_;rw[X] at this;first|exact T.1 j this.1|exact V.1 j this.2⟩
  have ah:=j;refine mF (av _ _ ?_);try clear av aY
  refine bF (aA (eH (m:=0) (n:=1) (r:=1) O O (by decide)) (aA aF (S (tC (eM λa3 az=>bF (aA (oC (m:=1) (n:=2) O O (by decide)) (S (az _ _ ?_))))))));try clear az a3
  refine eM λa4 aC=>Jd O (mF (aC _ _ ?_));try clear aC a4
  refine eM λa5 aD=>jY (eM λa6 aE=>bF (aA (Ee O O) ?_));simp only[J];refine aA aI (S (aE _ _ ?_));try clear aE a6
  refine eM λa7 aH=>bF (aA aF ?_);simp only[J];refine aA lX ?_;simp only[J,ka,df,fj];refine bY m O O (Cn _ (m.b 3 O) (q.ext m.ext) (e.O0.ext m.ext) (by rw[e.o];have:=(af gp (ak e.at_)).2;omega)) ?_;rintro v u m ⟨bO,rfl,V⟩;refine S (aH _ _ ?_);try clear aH a7
  simp only[J];refine acb O ?_ ?_<;>intro j
  .refine eM λa8 aJ=>bF (cH m 2 O O O dV (eU O) ⟨O,O⟩ ?_);intro u m;simp only[J,zy,zx,over,aa] at m;refine S (aJ _ _ ?_);try clear aJ a8
   refine Db ?_;exact l _ _ () (m.sel [X7,N,N,N,N]) ⟨x.1,λh=>by have:=h gp e.at_;rw[X] at this;first|exact T.1 j this.1|exact V.1 j this.2⟩
  have ai:=j;refine mF (aD _ _ ?_);try clear aD a5
  refine bF (aA (eH (m:=1) (n:=1) (r:=2) O O (by decide)) (aA aF (S (tC (eM λa9 aL=>bF (aA (vR (m:=2) (n:=2) O O (by decide)) (S (aL _ _ ?_))))))));try clear aL a9
  refine eM λbe bm=>adw O (Gv ?_);simp only[J];exact hn _ _ () (m.sel [X7,N,N,N,N]) (λy hy=>by
   rcases bz.1 hy with hy|hy
   .exact hR y hy
   rw[cr.1 hy];intro g M;rw[e.at_] at M;cases M;rw[X];exact⟨Classical.not_not.1 λh=>(by rw[T.2 h] at ah;cases ah),Classical.not_not.1 λh=>(by rw[V.2 h] at ai;cases ai)⟩)
 rotate_left
 . rintro D pre _ u-⟨k,P⟩ m
   try simp only[t,Exit.then]
   refine Ey (Mw.mk (m.get 0 O)) ?_;replace m:=m.putD (o':=.deferred X8) 0 O;exact aS rfl ⟨_,rfl,(m.b 2 rfl).lies1 eW rfl⟩ ⟨_,rfl,m.ext,X7,rfl,⟨λh=>(by cases h),λh=>Y0 (λg M=>h.2 g (ak M)) P⟩⟩
 rintro D xs _ u hS hj m;refine ao _ _ ?_;try clear ao aQ
 refine L λba aM=>f (cH m 2 O O O dV (eU O) ⟨O,O⟩ ?_);intro u m;simp only[J,zy,zx,over,aa] at m;refine S (aM _ _ ?_);try clear aM ba
 refine gh ?_;try simp only[t,Exit.then,Y4]
 refine Ey (Mw.mk (m.get 0 O)) ?_;replace m:=m.putD (o':=.deferred X8) 0 O;simp only[zF,zG] at m;refine aS O ⟨_,O,((m.b 2 O).lies1 eW O)⟩ ?_;try simp only[zD,zE]
 exact⟨_,O,m.ext,N,O,⟨λ_=>⟨Fc l (by omega),ajx al hS hj⟩,λ_=>rfl⟩⟩
end Go.Proofs.YtbbokjbcdkgfgaaGreatDoor
namespace Go.Lith
variable{k:Nat}
section
variable{f:Gp->List Int}{G:Gr}
def gfG(f:Gp->List Int)(G:Gr)(k:Nat):List Int:=(G.gs[k]?.map f).getD []
def Rw{g:Gp}(h:G.gs[k]? = H g):gfG f G k=f g:=by rw[gfG,h];rfl
def nM(l:List Int)(k:Nat):List (Int×Int):=l.map λz=>(z,(k:Int))
def afS(l:List Int)(k:Nat):(nM l k).map (·.1)=l:=by rw[nM,lw];exact List.map_id' _
def vO(f:Gp->List Int)(G:Gr)(a:List Nat):List (Int×Int):=a.flatMap λk=>nM (gfG f G k) k
def ajz(a:List Nat)(k:Nat):vO f G (a++[k])=vO f G a++nM (gfG f G k) k:=by simp[vO]
def Nn{b:List Nat}:∀p∈vO f G b,0<=p.2:=λp a=>by
 obtain⟨k,_,h⟩:=List.mem_flatMap.1 a;obtain⟨z,_,rfl⟩:=du.1 h;exact lo _
def Vo:∀(gs:List Gp)(i:Nat),prG f gs i=(fh gs.length).flatMap λj=>((gs[j]?.map f).getD []).map λx=>(x,i+j)
 | [],i=>rfl
 |g::gs,i=>by
  rw[prG,Vo gs (i+1),bh,List.range_succ_eq_map,List.flatMap_cons,List.flatMap_map];simp only[List.getElem?_cons_zero,Option.map_some,dt,Nat.add_zero,gu,Nat.succ_eq_add_one,Nat.add_assoc,Nat.add_comm 1]
def ajA:(prG f G.gs 0).map (λp=>(p.1,(p.2:Int)))=vO f G (fh G.gs.length):=by
 rw[Vo,List.map_flatMap,vO]
 congr 1
 funext j
 rw[lw,nM,gfG];simp
def No{c:Int}  : (c,k)∈prG f G.gs 0↔(c,(k:Int))∈vO f G (fh G.gs.length):=by
 rw[<-ajA,du];constructor
 .exact λh=>⟨_,h,O⟩
 rintro⟨⟨a,b⟩,h,e⟩
 simp only[Prod.mk.injEq] at e;obtain⟨rfl,d⟩:=e;rw[show k=b by omega];exact h
def abq:(prG f G.gs 0).map (·.1)=(vO f G (fh G.gs.length)).map (·.1):=by rw[<-ajA,lw];rfl
def Np{D:List (Int×Int)}{c u:Int}(d:(D.map (·.1)).Nodup)(g:∀p∈D,0<=p.2):(mJ D c=if 0<=u then H u else X8)↔∀k:Nat,(c,(k:Int))∈D↔u=k:=by
 constructor
 . intro h k
   constructor
   . intro a
     rw[Bz d a] at h;split at h
     .cases h;rfl
     cases h
   intro e
   rw[Z9 (by omega),e] at h;exact Hk h
 intro h
 cases b:mJ D c with
 |none=>
  split
  . rename_i f
    obtain⟨k,rfl⟩:=ee f;rw[Bz d ((h k).2 rfl)] at b;cases b
  rfl
 |some v=>
  have a:=Hk b;obtain⟨k,rfl⟩:=ee (g _ a);have:=(h k).1 a;rw[Z9 (by omega),this]
def wH(G:Gr)(a:List Nat):Prop:=((vO Gp.ins G a).map (·.1)).Nodup/\((vO Gp.outs G a).map (·.1)).Nodup/\∀k∈a,∀z∈gfG Gp.ins G k,Nc G.cs z<(k:Int)
def ajB:wH G []:=⟨o_,o_,λ_ h=>by cases h⟩
def Iq{a:List Nat}{g:Gp}(h:G.gs[k]? = H g):vO f G (a++[k])=vO f G a++nM (f g) k:=by rw[ajz,Rw h]
def Ky{a:List Nat}{g:Gp}(e:wH G (a++[k]))(h:G.gs[k]? = H g):((vO Gp.ins G a++nM g.ins k).map (·.1)).Nodup/\((vO Gp.outs G a++nM g.outs k).map (·.1)).Nodup/\∀z∈g.ins,Nc G.cs z<(k:Int):=by
 obtain⟨b,c,d⟩:=e;rw[Iq h] at b c;exact⟨b,c,λz f=>d k (by simp) z (by rw[Rw h];exact f)⟩
def ajC{a:List Nat}{g:Gp}(f:wH G a)(h:G.gs[k]? = H g)(c:((vO Gp.ins G a++nM g.ins k).map (·.1)).Nodup)(d:((vO Gp.outs G a++nM g.outs k).map (·.1)).Nodup)(e:∀z∈g.ins,Nc G.cs z<(k:Int)):wH G (a++[k]):=by
 refine⟨by rw[Iq h];exact c,by rw[Iq h];exact d,λq hq z b=>?_⟩;rcases bz.1 hq with hq|hq
 .exact f.2.2 q hq z b
 obtain rfl:=cr.1 hq
 rw[Rw h] at b;exact e z b
def anp(G:Gr)(c:Nat)(x:Cl):Prop:=mJ (vO Gp.ins G (fh G.gs.length)) (c:Int)=(if 0<=x.used then H x.used else X8)/\mJ (vO Gp.outs G (fh G.gs.length)) (c:Int)=if 0<=x.made then H x.made else X8
def apR:ErG G↔∀k∈fh G.gs.length,∀z∈gfG Gp.ins G k,Nc G.cs z<(k:Int):=by
 constructor
 . intro h k a z b
   have a:=jc.1 a;rw[Rw (ah a)] at b;exact h k _ (ah a) z b
 intro h k g a z b
 refine h k (jc.2 (av.1 a).1) z ?_;rw[Rw a];exact b
def nN:MkP G↔wH G (fh G.gs.length)/\∀(c:Nat) x,G.cs[c]? = H x->anp G c x:=by
 unfold MkP wH;rw[abq,abq,apR];constructor
 . rintro⟨⟨b,f⟩,⟨d,g⟩,e⟩
   exact⟨⟨b,d,e⟩,λc x a=>⟨(Np b Nn).2 λk=>No.symm.trans (f c x a k),(Np d Nn).2 λk=>No.symm.trans (g c x a k)⟩⟩
 rintro⟨⟨b,d,e⟩,h⟩
 exact⟨⟨b,λc x a k=>No.trans ((Np b Nn).1 (h c x a).1 k)⟩,⟨d,λc x a k=>No.trans ((Np d Nn).1 (h c x a).2 k)⟩,e⟩
def aer{m n:Nat}(h:m<=n):∃l,vO f G (fh n)=vO f G (fh m)++l:=by
 obtain⟨d,rfl⟩:=Nat.exists_eq_add_of_le h;rw[List.range_add,vO,au];exact⟨_,O⟩
def ajD{m n:Nat}(h:m<=n)(i:wH G (fh n)):wH G (fh m):=by
 obtain⟨a,b,e⟩:=i;obtain⟨j,c⟩:=aer (f:=Gp.ins) (G:=G) h;obtain⟨l,d⟩:=aer (f:=Gp.outs) (G:=G) h;rw[c,dh] at a;rw[d,dh] at b;exact⟨(jp.1 a).1,(jp.1 b).1,λk g=>e k (jc.2 (Nat.lt_of_lt_of_le (jc.1 g) h))⟩
end
/-! ### A list goes into a map -/
section
variable{D:List (Int×Int)}{l:List Int}{j k:Nat}{z:Int}
def Vp:∀{D:List (Int×Int)} {z v:Int},mJ D z=X8->Pr D z v=D++[(z,v)]
 | [],_,_,_=>rfl
 |x::D,z,v,h=>by
  unfold mJ at h;by_cases e:x.1=z
  .rw[Z9 e] at h;cases h
  rw[K0 e] at h
  rw[Pr,K0 e,Vp h];rfl
def Zn(D:List (Int×Int))(l:List Int)(k:Nat):(D++nM l k).map (·.1)=D.map (·.1)++l:=by rw[dh,afS]
def ajE(b:l[j]? = H z)(a:mJ (D++nM (l.take j) k) z=X8):Pr (D++nM (l.take j) k) z (k:Int)=D++nM (l.take (j+1)) k:=by
 rw[Vp a,jb,b,nM,nM,dh,di];rfl
def anq(h:l[j]? = H z)(c:mJ (D++nM (l.take j) k) z=X8)(f:((D++nM (l.take j) k).map (·.1)).Nodup):((D++nM (l.take (j+1)) k).map (·.1)).Nodup:=by
 rw[Uv] at c;rw[Zn] at c f ⊢;rw[jb,h,<-di];refine jp.2 ⟨f,by simp,λa g b d e=>?_⟩;simp at d;subst d e;exact c g
def Kz{v:Int}(b:l[j]? = H z)(c:mJ (D++nM (l.take j) k) z=H v):¬((D++nM l k).map (·.1)).Nodup:=λa=>by
 have d:z∈D.map (·.1)++l.take j:=by
  rw[<-Zn D _ k];exact fg (Hk c)
 have f:j<l.length:=(av.1 b).1;have e:l=l.take j++z::l.drop (j+1):=by
  rw[<-(av.1 b).2,List.getElem_cons_drop,fi]
 rw[Zn] at a;rw[e,<-di] at a;exact (jp.1 a).2.2 z d z bv O
end
end Go.Lith
namespace Go.Proofs.YtbbokjbcdkgfgaaGreatDoor
open Go.Proofs.Tryz
open Go.RowKit Go.Lith
set_option maxRecDepth 100000
section
attribute [local irreducible] wpList wpQuiet fS cE cP Code.wp
variable{nc cc ng cg:Nat}{G:Gr}{g:Gp}
def al9{n:Nat}{pre:List (Fin n)}(h:pre.map (·.1)=fh pre.length):pre.length<=n:=by
 rcases et pre.length with h0|h0
 .omega
 have a:pre.length-1∈pre.map (·.1):=by rw[h];exact jc.2 (by omega)
 obtain⟨x,_,e⟩:=du.1 a;have:=x.2;omega
def Gc:acx X9 3 iV where
 chk e k w:=CkR.int (d:=9999) mG w
 now:=⟨_,mG,λa b=>.inr (by simp[Instr.sameNow,iV];rfl)⟩
 eq a b w:=xS ((tR.int (d:=9999) mG).iff Iff.rfl) w
 bits a:=by simp[Instr.sameBits]
def ajF{A B:Option Addr}{gb:Nat}(w:an)(hG:GrAt w A B G)(dZ:G.cs.length=nc)(aT:G.gs.length=ng)(dQ:nc<=1000000)(dD:ng<=1000000)(dG:∀(g:Gp),g∈G.gs->g.ins.length<=1000000000000/\g.outs.length<=1000000000000)(aQ:fQ w gb [.slice A nc cc,.slice B ng cg] 31)(a8:IxG G):cX X9 62 [.pointer (H ⟨gb,0,X8⟩)] w (λv _=>∃b,v=.bool b/\(b=N↔MkP G)):=by
 refine⟨bP func62 (by kernel_rfl),?_⟩;have m:=Mem.refl w;refine (callsIn_wide (n:=4)).1 (callsIn_of_wp_marks func62 O trivial ?_ O);simp only[ntmps62,gy,bh,dv,aa,lj,ir,iu,jq,i_,cv,dx];refine wpIn_wide.2 ?_;refine L λK1 k1=>f (Ug m O O ?_);intro g1 u m;simp only[J];refine fV m Xk O ?_;intro g2 u m;refine S (k1 _ _ ?_);try clear k1 K1
 refine L λK2 k2=>f ?_;simp only[J];refine aaK m ?_;intro q1 u m;have q:=nG.nil (K:=Int) (V:=Int) iV iV;simp only[J];refine aaK m ?_;intro q2 u m;have T:=nG.nil (K:=Int) (V:=Int) iV iV;refine aA (Mh O O) ?_;simp only[J];refine fV m aaz O ?_;intro g5 u m;simp only[J];refine aX m 0 O O O ae2 (eU O) O ?_;intro u m;simp only[zy,zx,over,zF,zG,aa] at m;refine S (k2 _ _ ?_);try clear k2 K2
 refine L λK3 k3=>L λK4 k4=>f (bA O ((m.b 4 O).lies1 vZ O) ?_);simp only[J];refine bB O O (aek _) ?_;rintro v u e_ ⟨g6,rfl,h_,k_⟩;replace m:=m.newB e_ h_ k_;refine S (k4 _ _ ?_);try clear k4 K4
 refine gn ?_;simp only[J];obtain⟨e,hH,dA⟩:=hG.hdr aT;refine Xf (α:=Fin ng) (σ:=Array kx×Nat×Array kx×Nat) (λx=>[iV (x.1:Nat),.agg #[.slice (e x).I (e x).i (e x).ci,.slice (e x).O0 (e x).o (e x).co]]) [4,5] (λx g=>[iV (x.1:Nat),.pointer (H ⟨g,0,X8⟩)]) (λx=>H ([.slice (e x).I (e x).i (e x).ci,.slice (e x).O0 (e x).o (e x).co],182)) rfl ahg (Lw m.ext hH (m.b 0 rfl) ((aQ.ext m.ext).row 0) dD) (λ_=>rfl) (bg _) (λs=>[bI g6 [.pointer (H ⟨gb,0,X8⟩)] 80,bI g5 [.map (H q1),.map (H q2)] 186,mI q2 s.2.2.1 s.2.2.2,mI q1 s.1 s.2.1,bI g2 [.bool X7] 4,bI g1 [.pointer (H ⟨gb,0,X8⟩)] 80]) (λpre s=>nG iV iV (vO Gp.ins G (pre.map (·.1))) s.1 s.2.1/\nG iV iV (vO Gp.outs G (pre.map (·.1))) s.2.2.1 s.2.2.2/\wH G (pre.map (·.1))) (λpre _=>¬wH G (pre.map (·.1))) (λ_ _=>rfl) (λk hk=>by obtain rfl:=cr.1 hk;exact⟨_,_,λ_=>bv⟩) (s0:=⟨_,_,_,_⟩) m ⟨q,T,ajB⟩ ?_ ?_ ?_ ?_
 .intro r x s W K aq m hK;replace m:Mem w W [bI g6 [.pointer (H ⟨gb,0,X8⟩)] 80,bI g5 [.map (H q1),.map (H q2)] 186,mI q2 s.2.2.1 s.2.2.2,mI q1 s.1 s.2.1,bI g2 [.bool X7] 4,bI g1 [.pointer (H ⟨gb,0,X8⟩)] 80,aq]:=m;simp only[xX,zF,zG];refine eM λK5 k5=>bF (aA aI (S (k5 _ _ ?_)));try clear k5 K5
  refine bF ?_;simp only[J];refine fV m Pi O ?_;intro g7 u m;simp only[J];refine aX m 0 O O O De (eU O) O ?_;intro u m;simp only[zy,zx,over,zF,zG,aa] at m;exact S (hK _ _ m)
 .intro r pre x g7 s W Q' _ aq hN hR m hn hr;obtain⟨Q,F,Z,X⟩:=s;obtain⟨q,T,hs⟩:=hR;dsimp only at q T;replace m:Mem w W [bI g7 [.slice (e x).I (e x).i (e x).ci,.slice (e x).O0 (e x).o (e x).co] 182,bI g6 [.pointer (H ⟨gb,0,X8⟩)] 80,bI g5 [.map (H q1),.map (H q2)] 186,mI q2 Z X,mI q1 Q F,bI g2 [.bool X7] 4,bI g1 [.pointer (H ⟨gb,0,X8⟩)] 80,aq]:=m;obtain⟨gp,ho⟩:=dA x;rcases dC:e x with ⟨I,i,ci,O0,o,co⟩
  simp only[dC] at m ho ⊢;obtain⟨af,hi,ba,a5,a6,dF,dH⟩:=ho;dsimp only at hi ba a5 a6 dF dH;subst hi ba;have dY:=dG gp (ak af);simp only[xX,zF,zG]
  refine jY (eM λK6 k6=>bF (bA O ((m.b 0 O).full adH De) ?_));simp only[J];refine aA aF (S (k6 _ _ ?_));try clear k6 K6
  refine jY (Ac 3 (Gu (eM λK7 k7=>bF (aA (oC (m:=0) (n:=2) O O (by decide)) (S (k7 _ _ ?_))))));try clear k7 K7
  refine eM λK8 k8=>Jd O (mF (k8 _ _ ?_));try clear k8 K8
  refine eM λK9 k9=>jY (eM λcw bd=>bF (aA aF (aA (Ed O O) ?_)));simp only[J];refine aA aI (aA aI (S (bd _ _ ?_)));try clear bd cw
  refine eM λcz be=>bF (aA aF (aA (iL O cF O) ?_));simp only[J];refine aA aF (S (be _ _ ?_));try clear be cz
  refine jY ?_;simp only[J];try simp only[ae,aa,C,ac]
  refine aax [32] [9,10,11,33,34,35,36,37,38,39,40,41,42,43,44,45,46,47,48,49,50,51,52,53,54,55,56,57,58,59,60,61,62,63,64,65,66] (λn vs wl=>∃(Q:Array kx)(F j:Nat),vs=[U (j:Int)]/\Mem w wl [bI g6 [.pointer (H ⟨gb,0,X8⟩)] 80,bI g5 [.map (H q1),.map (H q2)] 186,mI q2 Z X,mI q1 Q F,bI g2 [.bool X7] 4,bI g1 [.pointer (H ⟨gb,0,X8⟩)] 80,aq]/\(nG iV iV (vO Gp.ins G (pre.map (·.1))++nM (gp.ins.take j) x.1) Q F)/\(((vO Gp.ins G (pre.map (·.1))++nM (gp.ins.take j) x.1).map (·.1)).Nodup)/\(∀z∈gp.ins.take j,Nc G.cs z<((x.1:Nat):Int))/\(j<=gp.ins.length)/\(n=gp.ins.length-j)) ?_ ?_
  . skip
    apply Exists.intro;simp only[zQ,zR,zD,zE];exact⟨Q,F,0,O,(m.sel [X7,N,N,N,N,N,N,N]),by simpa[nM] using q,by simpa[nM] using hs.1,Bn,by omega,O⟩
  intro n vs wr hI u
  clear m;obtain⟨Q,F,j,rfl,m,q,ar,hq,hj,a9⟩:=hI;simp only[zu,zF,zG];refine eM λcA bf=>bF (aA (oJ O O) (S (bf _ _ ?_)));try clear bf cA
  refine eM λcB bi=>?_;simp only[J];refine ag0 O ?_ ?_<;>intro dE
  .obtain⟨z,P,cu,rfl,aY⟩:=a5.get (i:=j) (by omega);obtain⟨aV,dJ⟩:=(a8.2 gp (ak af)).1 z (ak P);obtain⟨c,rfl⟩:=ee aV;obtain⟨y,a,E,cy,hy,rfl,aW,d1,dX⟩:=hG.cl (k:=c) (by omega);refine mF (bi _ _ ?_);try clear bi cB
   refine eM λcC bk=>jY (eM λcD bl=>bF (aA (aN cF bC O O (by omega) (by omega) (lK (ab _))) ?_));simp only[J];refine bA O (lies1 (nY (aY.ext m.ext)) bW) ?_;simp only[J];refine aA aI (S (bl _ _ ?_));try clear bl cD
   refine eM λcE bm=>bF (aA aF (aA (aR Bp pP O O (by decide) (by decide) O) ?_));simp only[J];refine bA O ((m.b 1 O).lies1 yC O) ?_;simp only[J];refine aA aF ?_;simp only[J];refine pV (wX (ek:=iV) (en:=iV) (k:=(c:Int)) (v0:=0) Bo Pe Gc O O (m.p 3 O) q) ?_;simp only[J];refine aA aF (aA (dU O O) (aA (dU O O) (aA aI ?_)));simp only[J];refine aA aI (S (bm _ _ ?_));try clear bm cE
   refine eM λcG bn=>eM λa0 aH=>?_;simp only[J];rcases Y:mJ (vO Gp.ins G (pre.map (·.1))++nM (gp.ins.take j) x.1) (c:Int) with _|v
   .simp only[Y,jg,ij];refine bF (aA aF (aA aF (bQ O (aA aF (bQ O (aA (Er (m:=0) (n:=0) O O (by decide)) ?_))))));simp only[J];refine bQ O (aA aF (bQ O ?_));simp only[J];refine bA O ((m.b 5 O).lies1 vZ O) ?_;simp only[J];refine bQ O (aA (cN O) (bQ O (aA (aO (c:=0) nD O lM O O) (bQ O ?_))));simp only[J];refine bA O ((aQ.ext m.ext).lies1 vY O) ?_;simp only[J];refine bQ O (aA aF (bQ O ?_));simp only[J];refine aA (aN uZ mH O O (by omega) (by omega) (kV (ab _))) (bQ O (aA (aO (c:=0) sW O bC O O) (bQ O ?_)));simp only[J];refine bA O (lies1 ((aW.ext m.ext) 1 _ O) bW) ?_;simp only[J];refine bQ O (aA aF (bQ O (aA (zY O O) (bQ O (aA (dT O) (aA (gD O) ?_))))));simp only[J];refine S (aH _ _ ?_);try clear aH a0
    refine ag0 O ?_ ?_<;>intro dR
    .refine eM λcI bo=>bF (cH m 4 O O O dV (eU O) ⟨O,O⟩ ?_);intro u m;simp only[J,zy,zx,over,aa] at m;refine S (bo _ _ ?_);try clear bo cI
     refine Db ?_;refine hr _ _ ⟨Q,F,Z,X⟩ (m.sel [N,N,N,N,N,N,N]) (λh=>?_);rw[dh] at h;obtain⟨av,aw,ax⟩:=Ky (k:=x.1) h af
     first|exact Y0 (ax _ (ak P)) (by rw[uY hy];omega)|exact Kz P Y av|exact Kz P Y aw
    refine mF (bn _ _ ?_);try clear bn cG
    refine bF (aA aF (aA (aR Bp pP O O (by decide) (by decide) O) ?_));simp only[J];refine bA O ((m.b 1 O).lies1 yC O) ?_;simp only[J];refine aA aF (aA aF ?_);simp only[J];refine adM (ek:=iV) (en:=iV) (a:=(c:Int)) (v:=((x.1:Nat):Int)) m 3 O Bo Gc O O O q ?_;intro Q F u m q;simp only[zF,zG] at m;refine S (bk _ _ ?_);try clear bk cC
    refine bF (aA (eH O O (bN (by omega) (by omega))) (aA aF (S ?_)));simp only[J];rw[ajE P Y] at q;simp only[t,Exit.then];refine⟨gp.ins.length-(j+1),_,?_,O,?_,?_⟩
    .omega
    .simp only[J,zv]
    simp only[zQ,zR,zD,zE]
    exact⟨Q,F,j+1,O,m,q,anq P Y ar,tD hq P (by rw[uY hy];omega),by omega,rfl⟩
   simp only[Y,jx,dt];refine bF (aA aF (aA aF (dB O (dB O ?_))));simp only[J];refine dB O (eP O (eP O (eP O ?_)));simp only[J];refine eP O (eP O (eP O (eP O ?_)));simp only[J];refine eP O (eP O (eP O (dB O ?_)));simp only[J];refine aA (dT O) (S (aH _ _ ?_));try clear aH a0
   refine Jd O (eM λcJ bp=>bF ?_);simp only[J];refine cH m 4 O O O dV (eU O) ⟨O,O⟩ ?_;intro u m;simp only[J,zy,zx,over,aa] at m;refine S (bp _ _ ?_);try clear bp cJ
   refine Db ?_;refine hr _ _ ⟨Q,F,Z,X⟩ (m.sel [N,N,N,N,N,N,N]) (λh=>?_);rw[dh] at h;obtain⟨av,aw,ax⟩:=Ky (k:=x.1) h af
   first|exact Y0 (ax _ (ak P)) (by rw[uY hy];omega)|exact Kz P Y av|exact Kz P Y aw
  refine Gv (k9 _ _ ?_);try clear k9 K9
  refine bF (aA (eH (m:=0) (n:=1) (r:=1) O O (by decide)) (aA aF (S (tC ?_))));have cp:nG iV iV (vO Gp.ins G (pre.map (·.1))++nM gp.ins x.1) Q F:=by rw[ap (by omega)] at q;exact q
  have cq:((vO Gp.ins G (pre.map (·.1))++nM gp.ins x.1).map (·.1)).Nodup:=by rw[ap (by omega)] at ar;exact ar
  have bb:∀z∈gp.ins,Nc G.cs z<((x.1:Nat):Int):=by rw[ap (by omega)] at hq;exact hq
  refine eM λcK bq=>bF (aA (oC (m:=1) (n:=2) O O (by decide)) (S (bq _ _ ?_)));try clear bq cK
  refine eM λcL br=>Jd O (mF (br _ _ ?_));try clear br cL
  refine eM λcM bs=>jY (eM λcO bt=>bF (aA aF ?_));simp only[J];refine aA (Ee O O) (aA aI (aA aI (S (bt _ _ ?_))));try clear bt cO
  refine eM λcP bu=>bF (aA aF ?_);simp only[J];refine aA (iL O cF O) (aA aF (S (bu _ _ ?_)));try clear bu cP
  refine jY ?_;simp only[J];try simp only[ae,aa,C,ac]
  refine aax [32] [9,10,11,33,34,35,36,37,38,39,40,41,42,43,44,45,46,47,48,49,50,51,52,53,54,55,56,57,58,59,60,61,62,63,64,65,66] (λn vs wl=>∃(Z:Array kx)(X j:Nat),vs=[U (j:Int)]/\Mem w wl [bI g6 [.pointer (H ⟨gb,0,X8⟩)] 80,bI g5 [.map (H q1),.map (H q2)] 186,mI q2 Z X,mI q1 Q F,bI g2 [.bool X7] 4,bI g1 [.pointer (H ⟨gb,0,X8⟩)] 80,aq]/\(nG iV iV (vO Gp.outs G (pre.map (·.1))++nM (gp.outs.take j) x.1) Z X)/\(((vO Gp.outs G (pre.map (·.1))++nM (gp.outs.take j) x.1).map (·.1)).Nodup)/\(j<=gp.outs.length)/\(n=gp.outs.length-j)) ?_ ?_
  . skip
    apply Exists.intro;simp only[zQ,zR,zD,zE];exact⟨Z,X,0,O,m,by simpa[nM] using T,by simpa[nM] using hs.2.1,by omega,O⟩
  intro n vs wr hI u
  clear m;obtain⟨Z,X,j,rfl,m,T,aP,hj,a9⟩:=hI;simp only[zu,zF,zG];refine eM λcQ bw=>bF (aA (oJ O O) (S (bw _ _ ?_)));try clear bw cQ
  refine eM λcR bx=>?_;simp only[J];refine ag0 O ?_ ?_<;>intro dE
  .obtain⟨z,P,cu,rfl,aY⟩:=a6.get (i:=j) (by omega);obtain⟨aV,dJ⟩:=(a8.2 gp (ak af)).2 z (ak P);obtain⟨c,rfl⟩:=ee aV;refine mF (bx _ _ ?_);try clear bx cR
   refine eM λcS bz=>jY (eM λcT bD=>bF (aA (aN cF bC O O (by omega) (by omega) (lK (ab _))) ?_));simp only[J];refine bA O (lies1 (nY (aY.ext m.ext)) bW) ?_;simp only[J];refine aA aI (S (bD _ _ ?_));try clear bD cT
   refine eM λcU bE=>bF (aA aF (aA (aR Bp pP O O (by decide) (by decide) O) ?_));simp only[J];refine bA O ((m.b 1 O).lies1 yC O) ?_;simp only[J];refine aA aF ?_;simp only[J];refine pV (wX (ek:=iV) (en:=iV) (k:=(c:Int)) (v0:=0) Bo Pe Gc O O (m.p 2 O) T) ?_;simp only[J];refine aA aF (aA (dU O O) (aA (dU O O) (aA aI ?_)));simp only[J];refine aA aI (S (bE _ _ ?_));try clear bE cU
   refine eM λcV bG=>eM λa1 aJ=>?_;simp only[J];rcases Y:mJ (vO Gp.outs G (pre.map (·.1))++nM (gp.outs.take j) x.1) (c:Int) with _|v
   .simp only[Y,jg,ij];refine bF (aA aF (aA aF (bQ O (aA aF (bQ O (aA (Es (m:=1) (n:=0) O O (by decide)) ?_))))));simp only[J];refine bQ O (aA aF (eF O (eF O (eF O ?_))));simp only[J];refine eF O (eF O (eF O (eF O ?_)));simp only[J];refine eF O (eF O (eF O (bQ O (aA (gD O) ?_))));simp only[J];refine aA (gD O) (S (aJ _ _ ?_));try clear aJ a1
    refine adw O (mF (bG _ _ ?_));try clear bG cV
    refine bF (aA aF (aA (aR Bp pP O O (by decide) (by decide) O) ?_));simp only[J];refine bA O ((m.b 1 O).lies1 yC O) ?_;simp only[J];refine aA aF (aA aF ?_);simp only[J];refine adM (ek:=iV) (en:=iV) (a:=(c:Int)) (v:=((x.1:Nat):Int)) m 2 O Bo Gc O O O T ?_;intro Z X u m T;simp only[zF,zG] at m;refine S (bz _ _ ?_);try clear bz cS
    refine bF (aA (eH O O (bN (by omega) (by omega))) (aA aF (S ?_)));simp only[J];rw[ajE P Y] at T;simp only[t,Exit.then];refine⟨gp.outs.length-(j+1),_,?_,O,?_,?_⟩
    .omega
    .simp only[J,zv]
    simp only[zQ,zR,zD,zE]
    exact⟨Z,X,j+1,O,m,T,anq P Y aP,by omega,O⟩
   simp only[Y,jx,dt];refine bF (aA aF (aA aF (dB O (dB O ?_))));simp only[J];refine dB O (eP O (eP O (eP O ?_)));simp only[J];refine eP O (eP O (eP O (eP O ?_)));simp only[J];refine eP O (eP O (eP O (dB O ?_)));simp only[J];refine aA (dT O) (S (aJ _ _ ?_));try clear aJ a1
   refine Jd O (eM λcW bH=>bF ?_);simp only[J];refine cH m 4 O O O dV (eU O) ⟨O,O⟩ ?_;intro u m;simp only[J,zy,zx,over,aa] at m;refine S (bH _ _ ?_);try clear bH cW
   refine Db ?_;refine hr _ _ ⟨Q,F,Z,X⟩ (m.sel [N,N,N,N,N,N,N]) (λh=>?_);rw[dh] at h;obtain⟨av,aw,ax⟩:=Ky (k:=x.1) h af
   first|exact Y0 (ax _ (ak P)) (by rw[uY hy];omega)|exact Kz P Y av|exact Kz P Y aw
  refine Gv (bs _ _ ?_);try clear bs cM
  refine bF (aA (eH (m:=1) (n:=1) (r:=2) O O (by decide)) (aA aF (S (tC ?_))));have cp:nG iV iV (vO Gp.ins G (pre.map (·.1))++nM gp.ins x.1) Q F:=by rw[ap (by omega)] at q;exact q
  have cq:((vO Gp.ins G (pre.map (·.1))++nM gp.ins x.1).map (·.1)).Nodup:=by rw[ap (by omega)] at ar;exact ar
  have bb:∀z∈gp.ins,Nc G.cs z<((x.1:Nat):Int):=by rw[ap (by omega)] at hq;exact hq
  refine eM λcY bJ=>bF (aA (vR (m:=2) (n:=2) O O (by decide)) (S (bJ _ _ ?_)));try clear bJ cY
  refine eM λdL d2=>adw O (Gv ?_);simp only[J];rw[ap (by omega)] at T aP;refine hn _ _ ⟨Q,F,Z,X⟩ (m.sel [N,N,N,N,N,N,N]) ?_;rw[dh];exact⟨by rw[show vO Gp.ins G (pre.map (·.1)++[x].map (·.1))=_ from Iq af];exact cp,by rw[show vO Gp.outs G (pre.map (·.1)++[x].map (·.1))=_ from Iq af];exact T,ajC hs af cq aP bb⟩
 rotate_left
 . rintro D pre s u ct dK m
   try simp only[t,Exit.then]
   refine Ey (Mw.mk (m.get 0 O)) ?_;replace m:=m.putD (o':=.deferred X8) 0 O;refine aS rfl ⟨_,rfl,(m.b 5 rfl).lies1 eW rfl⟩ ⟨_,rfl,m.ext,X7,rfl,⟨λh=>(by cases h),λh=>Y0 ?_ dK⟩⟩;rw[ct];refine ajD ?_ (nN.1 h).1;rw[aT];exact al9 ct
 rintro D xs ⟨Q,F,Z,X⟩ u hS ⟨q,T,a7⟩ m;dsimp only at q T m;rw[hS,<-aT] at q T a7;refine k3 _ _ ?_;try clear k3 K3
 refine L λcZ bK=>L λc0 bL=>f (bA O ((m.b 6 O).lies1 vZ O) ?_);simp only[J];refine aA (cN O) (aA (aO (c:=0) nD O lM O O) ?_);simp only[J];refine bA O ((aQ.ext m.ext).lies1 vY O) ?_;simp only[J];refine aA (iL O uZ O) (aA aF (S (bL _ _ ?_)));try clear bL c0
 refine gn ?_;simp only[J];try simp only[ae,aa,C,ac]
 refine ahb [73] [12,13,14,15,16,17,74,75,76,77,78,79,80,81,82,83,84,85,86,87,88,89,90,91,92,93,94,95,96,97,98,99,100,101,102,103,104,105,106,107,108] (λn vs wl=>∃(k:Nat),vs=[U (k:Int)]/\Mem w wl [dI D (.deferred (H [])),bI g5 [.map (H q1),.map (H q2)] 186,mI q2 Z X,mI q1 Q F,bI g2 [.bool X7] 4,bI g1 [.pointer (H ⟨gb,0,X8⟩)] 80]/\(nC (anp G) G.cs k)/\(k<=nc)/\(n=nc-k)) ?_ ?_
 . skip
   apply Exists.intro;simp only[zQ,zR,zD,zE];exact⟨0,O,(m.sel [N,X7,N,N,N,N,N]),nC.zero,by omega,O⟩
 intro n vs wr hI u
 obtain⟨k,rfl,m,hr,hk,a9⟩:=hI;simp only[zu,zF,zG];refine L λc1 bM=>f (aA (oJ O O) (S (bM _ _ ?_)));try clear bM c1
 refine L λc2 bO=>?_;simp only[J];refine aZ O ?_ ?_<;>intro dS
 .obtain⟨x,a,E,cx,hx,rfl,aW,d0,dW⟩:=hG.cl (k:=k) (by omega);refine gg (bO _ _ ?_);try clear bO c2
  refine L λaB ah=>gn (L λc3 bR=>f (aA aF ?_));simp only[J];refine aA (aN uZ mH O O (by omega) (by omega) (kV (ab _))) ?_;simp only[J];refine bA O ((aW.ext m.ext).lies Jm mH) ?_;simp only[J];refine fV m Xp O ?_;intro g8 u m;refine aA aI ?_;simp only[J];refine aX m 0 O O O mH (eU O) O ?_;intro u m;simp only[zy,zx,over,zF,zG,aa] at m;refine S (bR _ _ ?_);try clear bR c3
  refine L λc4 bS=>f (aA (aO (c:=0) sW O bC O O) ?_);simp only[J];refine bA O ((m.b 0 O).lies1 bW O) ?_;simp only[J];refine aA (aO (c:=0) sW O bC O O) ?_;simp only[J];refine bA O ((m.b 0 O).lies1 bW O) ?_;simp only[J];refine aA (Mi O O) (aA aF (S (bS _ _ ?_)));try clear bS c4
  refine gn (wp_loop_rounds 3 (Bf (L λc5 bT=>f (aA (oC (m:=0) (n:=2) O O (by decide)) (S (bT _ _ ?_))))));try clear bT c5
  refine L λc6 bU=>mX O (gg (bU _ _ ?_));try clear bU c6
  refine L λa2 aK=>gn (L λc7 bV=>f (aA aF ?_));simp only[J];refine aA (Td O O) (aA aI (aA aI (S (bV _ _ ?_))));try clear bV c7
  refine L λc8 bX=>f (aA aF ?_);simp only[J];refine aA (aR Bp pP O O (by decide) (by decide) O) ?_;simp only[J];refine bA O ((m.b 2 O).lies1 yC O) ?_;simp only[J];refine aA aF ?_;simp only[J];refine pV (wX (ek:=iV) (en:=iV) (k:=(k:Int)) (v0:=0) Bo Pe Gc O O (m.p 4 O) q) ?_;simp only[J];refine aA aF (aA (dU O O) (aA (dU O O) (aA aI ?_)));simp only[J];refine aA aI (S (bX _ _ ?_));try clear bX c8
  refine L λaC ai=>?_;simp only[J];rcases ad:mJ (vO Gp.ins G (fh G.gs.length)) (k:Int) with _|vu<;>by_cases bc:0<=x.used
  .simp only[ad,jg,ij];refine f (aA aF (aA aF ?_));simp only[J];refine aA (xL O O (by omega)) (aA (mR tZ O O) (aA aF (dB O ?_)));simp only[J];refine dB O (eP O (eP O (eP O ?_)));simp only[J];refine dB O (aA (dT O) (S (ai _ _ ?_)));try clear ai aC
   refine mX O (L λc9 bY=>f ?_);simp only[J];refine cH m 5 O O O dV (eU O) ⟨O,O⟩ ?_;intro u m;simp only[J,zy,zx,over,aa] at m;refine S (bY _ _ ?_);try clear bY c9
   refine gh ?_;try simp only[t,Exit.then,Y4]
   refine Ey (Mw.mk (m.get 1 O)) ?_;replace m:=m.putD (o':=.deferred X8) 1 O;simp only[zF,zG] at m;refine aS O ⟨_,O,((m.b 5 O).lies1 eW O)⟩ ?_;try simp only[zD,zE]
   exact⟨_,rfl,m.ext,X7,rfl,⟨λh=>(by cases h),λh=>by have d:=((nN.1 h).2 k x hx).1;rw[ad] at d;by_cases M:0<=x.used<;>simp[M] at d<;>omega⟩⟩
  .simp only[ad,jg,ij];have ay:mJ (vO Gp.ins G (fh G.gs.length)) (k:Int)=if 0<=x.used then H x.used else X8:=by rw[ad];rw[K0 bc]
   refine f (aA aF (aA aF ?_));simp only[J];refine aA (Ay O O (by omega)) (aA (mR tZ O O) (aA aF (bQ O (aA aF ?_))));simp only[J];refine bQ O (aA aF (eF O (eF O (eF O ?_))));simp only[J];refine bQ O (aA (gD O) (aA (gD O) (S (ai _ _ ?_))));try clear ai aC
   refine Aj O (gg (aK _ _ ?_));try clear aK a2
   refine f (aA (eH (m:=0) (n:=1) (r:=1) O O (by decide)) (aA aF ?_));simp only[J];refine S (jD (L λda bZ=>f (aA (oC (m:=1) (n:=2) O O (by decide)) (S (bZ _ _ ?_)))));try clear bZ da
   refine L λdb b0=>mX O (gg (b0 _ _ ?_));try clear b0 db
   refine L λa3 aL=>gn (L λdc b1=>f (aA aF (aA (Ef O O) (aA aI ?_))));simp only[J];refine aA aI (S (b1 _ _ ?_));try clear b1 dc
   refine L λdd b2=>f (aA aF (aA (aR Bp pP O O (by decide) (by decide) O) ?_));simp only[J];refine bA O ((m.b 2 O).lies1 yC O) ?_;simp only[J];refine aA aF ?_;simp only[J];refine pV (wX (ek:=iV) (en:=iV) (k:=(k:Int)) (v0:=0) Bo Pe Gc O O (m.p 3 O) T) ?_;simp only[J];refine aA aF (aA (dU O O) (aA (dU O O) (aA aI ?_)));simp only[J];refine aA aI (S (b2 _ _ ?_));try clear b2 dd
   refine L λaD al=>?_;simp only[J];rcases l:mJ (vO Gp.outs G (fh G.gs.length)) (k:Int) with _|vv<;>by_cases az:0<=x.made
   .simp only[l,jg,ij];refine f (aA aF (aA aF ?_));simp only[J];refine aA (xL O O (by omega)) (aA (mR tZ O O) (aA aF (dB O ?_)));simp only[J];refine dB O (eP O (eP O (eP O ?_)));simp only[J];refine dB O (aA (dT O) (S (al _ _ ?_)));try clear al aD
    refine mX O (L λde b3=>f ?_);simp only[J];refine cH m 5 O O O dV (eU O) ⟨O,O⟩ ?_;intro u m;simp only[J,zy,zx,over,aa] at m;refine S (b3 _ _ ?_);try clear b3 de
    refine gh ?_;try simp only[t,Exit.then,Y4]
    refine Ey (Mw.mk (m.get 1 O)) ?_;replace m:=m.putD (o':=.deferred X8) 1 O;simp only[zF,zG] at m;refine aS O ⟨_,O,((m.b 5 O).lies1 eW O)⟩ ?_;try simp only[zD,zE]
    exact⟨_,rfl,m.ext,X7,rfl,⟨λh=>(by cases h),λh=>by have d:=((nN.1 h).2 k x hx).2;rw[l] at d;by_cases M:0<=x.made<;>simp[M] at d<;>omega⟩⟩
   .simp only[l,jg,ij];have ao:mJ (vO Gp.outs G (fh G.gs.length)) (k:Int)=if 0<=x.made then H x.made else X8:=by rw[l];rw[K0 az]
    refine f (aA aF (aA aF ?_));simp only[J];refine aA (Ay O O (by omega)) (aA (mR tZ O O) (aA aF (bQ O (aA aF ?_))));simp only[J];refine bQ O (aA aF (eF O (eF O (eF O ?_))));simp only[J];refine bQ O (aA (gD O) (aA (gD O) (S (al _ _ ?_))));try clear al aD
    refine Aj O (gg (aL _ _ ?_));try clear aL a3
    refine f (aA (eH (m:=1) (n:=1) (r:=2) O O (by decide)) (aA aF ?_));simp only[J];refine S (jD (L λdf b4=>f (aA (vR (m:=2) (n:=2) O O (by decide)) (S (b4 _ _ ?_)))));try clear b4 df
    refine L λdM d3=>Aj O (nj (ah _ _ ?_));try clear ah aB
    refine f ?_;simp only[J];refine aA (eH O O (bN (by omega) (by omega))) (aA aF (S ?_));simp only[J];simp only[t,Exit.then];refine⟨nc-(k+1),_,?_,O,?_,?_⟩
    .omega
    .simp only[J,zv]
    simp only[zQ,zR,zD,zE]
    exact⟨k+1,O,(m.sel [X7,N,N,N,N,N,N]),hr.step hx ⟨ay,ao⟩,by omega,O⟩
   .simp only[l,jx,dt];refine f (aA aF (aA aF ?_));simp only[J];refine aA (xL O O (by omega)) (aA (mR tZ O O) (aA aF (bQ O (aA aF ?_))));simp only[J];refine bQ O (aA aF (bQ O (aA aF (bQ O (aA aF (bQ O (aA (sS O O) ?_)))))));simp only[J];refine bQ O (aA (dT O) (aA (gD O) (S (al _ _ ?_))));try clear al aD
    simp only[J];refine aZ O ?_ ?_<;>intro au
    .refine L λdg b5=>f (cH m 5 O O O dV (eU O) ⟨O,O⟩ ?_);intro u m;simp only[J,zy,zx,over,aa] at m;refine S (b5 _ _ ?_);try clear b5 dg
     refine gh ?_;try simp only[t,Exit.then,Y4]
     refine Ey (Mw.mk (m.get 1 O)) ?_;replace m:=m.putD (o':=.deferred X8) 1 O;simp only[zF,zG] at m;refine aS O ⟨_,O,((m.b 5 O).lies1 eW O)⟩ ?_;try simp only[zD,zE]
     exact⟨_,rfl,m.ext,X7,rfl,⟨λh=>(by cases h),λh=>by have d:=((nN.1 h).2 k x hx).2;rw[l] at d;by_cases M:0<=x.made<;>simp[M] at d<;>omega⟩⟩
    have ao:mJ (vO Gp.outs G (fh G.gs.length)) (k:Int)=if 0<=x.made then H x.made else X8:=by rw[l];rw[Z9 az,Classical.not_not.1 au]
    refine gg (aL _ _ ?_);try clear aL a3
    refine f (aA (eH (m:=1) (n:=1) (r:=2) O O (by decide)) (aA aF (S (jD (L λdi b6=>f (aA (vR (m:=2) (n:=2) O O (by decide)) (S (b6 _ _ ?_))))))));try clear b6 di
    refine L λdN d4=>Aj O (nj (ah _ _ ?_));try clear ah aB
    refine f ?_;simp only[J];refine aA (eH O O (bN (by omega) (by omega))) (aA aF (S ?_));simp only[J];simp only[t,Exit.then];refine⟨nc-(k+1),_,?_,O,?_,?_⟩
    .omega
    .simp only[J,zv]
    simp only[zQ,zR,zD,zE]
    exact⟨k+1,O,(m.sel [X7,N,N,N,N,N,N]),hr.step hx ⟨ay,ao⟩,by omega,O⟩
   simp only[l,jx,dt];refine f (aA aF (aA aF ?_));simp only[J];refine aA (Ay O O (by omega)) (aA (mR tZ O O) (aA aF (dB O ?_)));simp only[J];refine dB O (eP O (eP O (eP O ?_)));simp only[J];refine dB O (aA (dT O) (S (al _ _ ?_)));try clear al aD
   refine mX O (L λdj b7=>f ?_);simp only[J];refine cH m 5 O O O dV (eU O) ⟨O,O⟩ ?_;intro u m;simp only[J,zy,zx,over,aa] at m;refine S (b7 _ _ ?_);try clear b7 dj
   refine gh ?_;try simp only[t,Exit.then,Y4]
   refine Ey (Mw.mk (m.get 1 O)) ?_;replace m:=m.putD (o':=.deferred X8) 1 O;simp only[zF,zG] at m;refine aS O ⟨_,O,((m.b 5 O).lies1 eW O)⟩ ?_;try simp only[zD,zE]
   exact⟨_,rfl,m.ext,X7,rfl,⟨λh=>(by cases h),λh=>by have d:=((nN.1 h).2 k x hx).2;rw[l] at d;by_cases M:0<=x.made<;>simp[M] at d<;>omega⟩⟩
  .simp only[ad,jx,dt];refine f (aA aF (aA aF ?_));simp only[J];refine aA (xL O O (by omega)) (aA (mR tZ O O) (aA aF (bQ O (aA aF ?_))));simp only[J];refine bQ O (aA aF (bQ O (aA aF (bQ O (aA aF (bQ O (aA (sS O O) ?_)))))));simp only[J];refine bQ O (aA (dT O) (aA (gD O) (S (ai _ _ ?_))));try clear ai aC
   simp only[J];refine aZ O ?_ ?_<;>intro au
   .refine L λdk b8=>f (cH m 5 O O O dV (eU O) ⟨O,O⟩ ?_);intro u m;simp only[J,zy,zx,over,aa] at m;refine S (b8 _ _ ?_);try clear b8 dk
    refine gh ?_;try simp only[t,Exit.then,Y4]
    refine Ey (Mw.mk (m.get 1 O)) ?_;replace m:=m.putD (o':=.deferred X8) 1 O;simp only[zF,zG] at m;refine aS O ⟨_,O,((m.b 5 O).lies1 eW O)⟩ ?_;try simp only[zD,zE]
    exact⟨_,rfl,m.ext,X7,rfl,⟨λh=>(by cases h),λh=>by have d:=((nN.1 h).2 k x hx).1;rw[ad] at d;by_cases M:0<=x.used<;>simp[M] at d<;>omega⟩⟩
   have ay:mJ (vO Gp.ins G (fh G.gs.length)) (k:Int)=if 0<=x.used then H x.used else X8:=by rw[ad];rw[Z9 bc,Classical.not_not.1 au]
   refine gg (aK _ _ ?_);try clear aK a2
   refine f (aA (eH (m:=0) (n:=1) (r:=1) O O (by decide)) (aA aF (S (jD (L λdl b9=>f (aA (oC (m:=1) (n:=2) O O (by decide)) (S (b9 _ _ ?_))))))));try clear b9 dl
   refine L λdm ca=>mX O (gg (ca _ _ ?_));try clear ca dm
   refine L λa4 aM=>gn (L λdn cb=>f (aA aF ?_));simp only[J];refine aA (Ef O O) (aA aI (aA aI (S (cb _ _ ?_))));try clear cb dn
   refine L λdp cd=>f (aA aF ?_);simp only[J];refine aA (aR Bp pP O O (by decide) (by decide) O) ?_;simp only[J];refine bA O ((m.b 2 O).lies1 yC O) ?_;simp only[J];refine aA aF ?_;simp only[J];refine pV (wX (ek:=iV) (en:=iV) (k:=(k:Int)) (v0:=0) Bo Pe Gc O O (m.p 3 O) T) ?_;simp only[J];refine aA aF (aA (dU O O) (aA (dU O O) (aA aI ?_)));simp only[J];refine aA aI (S (cd _ _ ?_));try clear cd dp
   refine L λaE am=>?_;simp only[J];rcases l:mJ (vO Gp.outs G (fh G.gs.length)) (k:Int) with _|vv<;>by_cases az:0<=x.made
   .simp only[l,jg,ij];refine f (aA aF (aA aF ?_));simp only[J];refine aA (xL O O (by omega)) (aA (mR tZ O O) (aA aF (dB O ?_)));simp only[J];refine dB O (eP O (eP O (eP O ?_)));simp only[J];refine dB O (aA (dT O) (S (am _ _ ?_)));try clear am aE
    refine mX O (L λdq ce=>f ?_);simp only[J];refine cH m 5 O O O dV (eU O) ⟨O,O⟩ ?_;intro u m;simp only[J,zy,zx,over,aa] at m;refine S (ce _ _ ?_);try clear ce dq
    refine gh ?_;try simp only[t,Exit.then,Y4]
    refine Ey (Mw.mk (m.get 1 O)) ?_;replace m:=m.putD (o':=.deferred X8) 1 O;simp only[zF,zG] at m;refine aS O ⟨_,O,((m.b 5 O).lies1 eW O)⟩ ?_;try simp only[zD,zE]
    exact⟨_,rfl,m.ext,X7,rfl,⟨λh=>(by cases h),λh=>by have d:=((nN.1 h).2 k x hx).2;rw[l] at d;by_cases M:0<=x.made<;>simp[M] at d<;>omega⟩⟩
   .simp only[l,jg,ij];have ao:mJ (vO Gp.outs G (fh G.gs.length)) (k:Int)=if 0<=x.made then H x.made else X8:=by rw[l];rw[K0 az]
    refine f (aA aF (aA aF ?_));simp only[J];refine aA (Ay O O (by omega)) (aA (mR tZ O O) (aA aF (bQ O (aA aF ?_))));simp only[J];refine bQ O (aA aF (eF O (eF O (eF O ?_))));simp only[J];refine bQ O (aA (gD O) (aA (gD O) (S (am _ _ ?_))));try clear am aE
    refine Aj O (gg (aM _ _ ?_));try clear aM a4
    refine f (aA (eH (m:=1) (n:=1) (r:=2) O O (by decide)) (aA aF ?_));simp only[J];refine S (jD (L λdr cf=>f (aA (vR (m:=2) (n:=2) O O (by decide)) (S (cf _ _ ?_)))));try clear cf dr
    refine L λdO d5=>Aj O (nj (ah _ _ ?_));try clear ah aB
    refine f ?_;simp only[J];refine aA (eH O O (bN (by omega) (by omega))) (aA aF (S ?_));simp only[J];simp only[t,Exit.then];refine⟨nc-(k+1),_,?_,O,?_,?_⟩
    .omega
    .simp only[J,zv]
    simp only[zQ,zR,zD,zE]
    exact⟨k+1,O,(m.sel [X7,N,N,N,N,N,N]),hr.step hx ⟨ay,ao⟩,by omega,O⟩
   .simp only[l,jx,dt];refine f (aA aF (aA aF ?_));simp only[J];refine aA (xL O O (by omega)) (aA (mR tZ O O) (aA aF (bQ O (aA aF ?_))));simp only[J];refine bQ O (aA aF (bQ O (aA aF (bQ O (aA aF (bQ O (aA (sS O O) ?_)))))));simp only[J];refine bQ O (aA (dT O) (aA (gD O) (S (am _ _ ?_))));try clear am aE
    simp only[J];refine aZ O ?_ ?_<;>intro au
    .refine L λds ch=>f (cH m 5 O O O dV (eU O) ⟨O,O⟩ ?_);intro u m;simp only[J,zy,zx,over,aa] at m;refine S (ch _ _ ?_);try clear ch ds
     refine gh ?_;try simp only[t,Exit.then,Y4]
     refine Ey (Mw.mk (m.get 1 O)) ?_;replace m:=m.putD (o':=.deferred X8) 1 O;simp only[zF,zG] at m;refine aS O ⟨_,O,((m.b 5 O).lies1 eW O)⟩ ?_;try simp only[zD,zE]
     exact⟨_,rfl,m.ext,X7,rfl,⟨λh=>(by cases h),λh=>by have d:=((nN.1 h).2 k x hx).2;rw[l] at d;by_cases M:0<=x.made<;>simp[M] at d<;>omega⟩⟩
    have ao:mJ (vO Gp.outs G (fh G.gs.length)) (k:Int)=if 0<=x.made then H x.made else X8:=by rw[l];rw[Z9 az,Classical.not_not.1 au]
    refine gg (aM _ _ ?_);try clear aM a4
    refine f (aA (eH (m:=1) (n:=1) (r:=2) O O (by decide)) (aA aF (S (jD (L λdu cj=>f (aA (vR (m:=2) (n:=2) O O (by decide)) (S (cj _ _ ?_))))))));try clear cj du
    refine L λdP d6=>Aj O (nj (ah _ _ ?_));try clear ah aB
    refine f ?_;simp only[J];refine aA (eH O O (bN (by omega) (by omega))) (aA aF (S ?_));simp only[J];simp only[t,Exit.then];refine⟨nc-(k+1),_,?_,O,?_,?_⟩
    .omega
    .simp only[J,zv]
    simp only[zQ,zR,zD,zE]
    exact⟨k+1,O,(m.sel [X7,N,N,N,N,N,N]),hr.step hx ⟨ay,ao⟩,by omega,O⟩
   simp only[l,jx,dt];refine f (aA aF (aA aF ?_));simp only[J];refine aA (Ay O O (by omega)) (aA (mR tZ O O) (aA aF (dB O ?_)));simp only[J];refine dB O (eP O (eP O (eP O ?_)));simp only[J];refine dB O (aA (dT O) (S (am _ _ ?_)));try clear am aE
   refine mX O (L λdw ck=>f ?_);simp only[J];refine cH m 5 O O O dV (eU O) ⟨O,O⟩ ?_;intro u m;simp only[J,zy,zx,over,aa] at m;refine S (ck _ _ ?_);try clear ck dw
   refine gh ?_;try simp only[t,Exit.then,Y4]
   refine Ey (Mw.mk (m.get 1 O)) ?_;replace m:=m.putD (o':=.deferred X8) 1 O;simp only[zF,zG] at m;refine aS O ⟨_,O,((m.b 5 O).lies1 eW O)⟩ ?_;try simp only[zD,zE]
   exact⟨_,rfl,m.ext,X7,rfl,⟨λh=>(by cases h),λh=>by have d:=((nN.1 h).2 k x hx).2;rw[l] at d;by_cases M:0<=x.made<;>simp[M] at d<;>omega⟩⟩
  simp only[ad,jx,dt];refine f (aA aF (aA aF ?_));simp only[J];refine aA (Ay O O (by omega)) (aA (mR tZ O O) (aA aF (dB O ?_)));simp only[J];refine dB O (eP O (eP O (eP O ?_)));simp only[J];refine dB O (aA (dT O) (S (ai _ _ ?_)));try clear ai aC
  refine mX O (L λdy cm=>f ?_);simp only[J];refine cH m 5 O O O dV (eU O) ⟨O,O⟩ ?_;intro u m;simp only[J,zy,zx,over,aa] at m;refine S (cm _ _ ?_);try clear cm dy
  refine gh ?_;try simp only[t,Exit.then,Y4]
  refine Ey (Mw.mk (m.get 1 O)) ?_;replace m:=m.putD (o':=.deferred X8) 1 O;simp only[zF,zG] at m;refine aS O ⟨_,O,((m.b 5 O).lies1 eW O)⟩ ?_;try simp only[zD,zE]
  exact⟨_,rfl,m.ext,X7,rfl,⟨λh=>(by cases h),λh=>by have d:=((nN.1 h).2 k x hx).1;rw[ad] at d;by_cases M:0<=x.used<;>simp[M] at d<;>omega⟩⟩
 refine nj (bK _ _ ?_);try clear bK cZ
 refine L λdz cn=>f (cH m 4 O O O dV (eU O) ⟨O,O⟩ ?_);intro u m;simp only[J,zy,zx,over,aa] at m;refine S (cn _ _ ?_);try clear cn dz
 refine gh ?_;try simp only[t,Exit.then,Y4]
 refine Ey (Mw.mk (m.get 0 O)) ?_;replace m:=m.putD (o':=.deferred X8) 0 O;simp only[zF,zG] at m;refine aS O ⟨_,O,((m.b 4 O).lies1 eW O)⟩ ?_;try simp only[zD,zE]
 exact⟨_,O,m.ext,N,O,⟨λ_=>nN.2 ⟨a7,hr.all (by omega)⟩,λ_=>rfl⟩⟩
def ajG(G:Gr)(cu:List Bool)(g:Gp):Prop:=∀z∈nL G.cs g.ins,cu[z.toNat]? = H N
def abr{cu:List Bool}  : ajG G cu g↔∀x∈g.ins,0<=Nc G.cs x->cu[(Nc G.cs x).toNat]? = H N:=by
 constructor
 . intro h x a b
   exact h _ (ix.2 ⟨fg a,by simpa using b⟩)
 intro h z e
 obtain⟨c,d⟩:=ix.1 e;obtain⟨x,a,rfl⟩:=du.1 c;exact h x a (by simpa using d)
def ajH{cu:List Bool}{n:Nat}{xs:List (Fin n)}(h:xs.map (λx=>(x.1:Int))=nL G.cs g.ins)(c:∀x∈xs,cu[x.1]? = H N):ajG G cu g:=λz a=>by
 rw[<-h] at a;obtain⟨x,b,rfl⟩:=du.1 a;exact c x b
def apS{b:Bool}(h:(!b)=N):b=X7:=by cases b<;>revert h<;>decide
def aes{A B:Option Addr}{D:Option Addr}{nd o:Nat}{cu:List Bool}(w:an)(Q:GrAt w A B G)(ad:G.cs.length=nc)(af:G.gs.length=ng)(T:nc<=1000000)(V:ng<=1000000)(X:∀(g:Gp),g∈G.gs->g.ins.length<=1000000000000/\g.outs.length<=1000000000000)(P:kO uI 1 w D nd cu):cX X9 25 [.agg #[.slice A nc cc,.slice B ng cg],.slice D nd o] w (λv _=>∃b,v=.bool b/\(b=N↔Mf G cu)):=by
 refine⟨bP func25 (by kernel_rfl),?_⟩;have m:=Mem.refl w;have a1:=P.len;refine (callsIn_wide (n:=4)).1 (callsIn_of_wp_marks func25 O trivial ?_ O);simp only[ntmps25,gy,bh,dv,aa,lj,ir,iu,jq,i_,cv,dx];refine wpIn_wide.2 ?_;refine L λK1 k1=>f (aqz m O ?_);intro a u m;simp only[J];refine Ug m O O ?_;intro p u m;simp only[J];refine fV m Xk O ?_;intro q u m;refine S (k1 _ _ ?_);try clear k1 K1
 refine L λK2 k2=>L λE l=>f ?_;simp only[J];refine bY m O O (afR _ (Q.ext m.ext) ad af T V X (m.b 2 O)) ?_;rintro v u m ⟨b1,rfl,ao⟩;simp only[J];rcases b1 with _|_
 .refine aA (sT O) (aA aF (dB O (dB O ?_)));simp only[J];refine aA (dT O) (aA aF (dB O (dB O ?_)));simp only[J];refine dB O (dB O (dB O (dB O ?_)));simp only[J];refine aA (dT O) (S (l _ _ ?_));try clear l E
  refine mX O (L λK4 k4=>f ?_);simp only[J];refine cH m 0 O O O dV (eU O) ⟨O,O⟩ ?_;intro u m;simp only[J,zy,zx,over,aa] at m;refine S (k4 _ _ ?_);try clear k4 K4
  refine gh ?_;try simp only[t,Exit.then,Y4]
  refine aaw ?_;refine aS O ⟨_,O,((m.b 0 O).lies1 eW O)⟩ ?_;try simp only[zD,zE]
  exact⟨_,rfl,m.ext,X7,rfl,⟨λh=>(by cases h),λh=>by have:=ao.2 h.1;cases this⟩⟩
 have Y:IxG G:=ao.1 rfl;refine aA (sT O) (aA aF (bQ O ?_));simp only[J];refine bY m O O (ajF _ (Q.ext m.ext) ad af T V X (m.b 2 O) Y) ?_;rintro v u m ⟨b2,rfl,ap⟩;simp only[J];rcases b2 with _|_
 .refine bQ O (aA (sT O) (aA (gD O) (aA aF (dB O ?_))));simp only[J];refine dB O (dB O (dB O (dB O ?_)));simp only[J];refine dB O (aA (dT O) (S (l _ _ ?_)));try clear l E
  refine mX O (L λK5 k5=>f ?_);simp only[J];refine cH m 0 O O O dV (eU O) ⟨O,O⟩ ?_;intro u m;simp only[J,zy,zx,over,aa] at m;refine S (k5 _ _ ?_);try clear k5 K5
  refine gh ?_;try simp only[t,Exit.then,Y4]
  refine aaw ?_;refine aS O ⟨_,O,((m.b 0 O).lies1 eW O)⟩ ?_;try simp only[zD,zE]
  exact⟨_,rfl,m.ext,X7,rfl,⟨λh=>(by cases h),λh=>by have:=ap.2 h.2.1;cases this⟩⟩
 have aP:MkP G:=ap.1 rfl;refine bQ O (aA (sT O) (aA (gD O) (aA aF (bQ O ?_))));simp only[J];refine bA O ((m.b 1 O).lies1 ace O) ?_;simp only[J];refine bQ O (aA (iL O Ul O) (bQ O (aA (aO (c:=0) nD O lN O O) (bQ O ?_))));simp only[J];refine bA O ((m.b 2 O).lies1 yA O) ?_;simp only[J];refine bQ O (aA (iL O wU O) (bQ O (aA (sS O O) (aA (gD O) (S (l _ _ ?_))))));try clear l E
 simp only[J];refine aZ O ?_ ?_<;>intro aY
 .refine L λK6 k6=>f (cH m 0 O O O dV (eU O) ⟨O,O⟩ ?_);intro u m;simp only[J,zy,zx,over,aa] at m;refine S (k6 _ _ ?_);try clear k6 K6
  refine gh ?_;try simp only[t,Exit.then,Y4]
  refine aaw ?_;refine aS O ⟨_,O,((m.b 0 O).lies1 eW O)⟩ ?_;try simp only[zD,zE]
  exact⟨_,rfl,m.ext,X7,rfl,⟨λh=>(by cases h),λh=>by have:=h.2.2.1;omega⟩⟩
 refine gg (k2 _ _ ?_);try clear k2 K2
 refine L λK7 k7=>L λK8 k8=>?_;replace m:=m.bagNil;refine f (bA O ((m.b 2 O).lies1 ace O) ?_);simp only[J];refine aA (iL O Ul O) (aA aF (S (k8 _ _ ?_)));try clear k8 K8
 refine gn ?_;simp only[J];try simp only[ae,aa,C,ac]
 refine aha [] [24] [5,6,25,26,27,28,29,30,40] (λn vs d wl=>∃(k:Nat),vs=[U (k:Int)]/\Mem w wl [ddI d,bI q [.bool X7] 4,bI p [.slice D nd o] 35,bI a [.slice A nc cc,.slice B ng cg] 31]/\(nC (ahd G cu) G.gs k)/\(k<=nd)/\(n=nd-k)) ?_ ?_
 . skip
   apply Exists.intro;simp only[zQ,zR,zD,zE];exact⟨0,O,m,nC.zero,by omega,O⟩
 intro n vs d wr hI u
 obtain⟨k,rfl,m,s,hk,a2⟩:=hI;simp only[zu,zF,zG];refine L λK9 k9=>f (aA (oJ O O) (S (k9 _ _ ?_)));try clear k9 K9
 refine L λaB aq=>?_;simp only[J];refine aZ O ?_ ?_<;>intro a0
 .obtain⟨j,al,F,rfl,aW⟩:=P.get (i:=k) (by omega);obtain⟨gp,z⟩:∃gp,G.gs[k]? = H gp:=⟨_,ah (by omega)⟩
  refine gg (aq _ _ ?_);try clear aq aB
  refine L λaC ar=>gn (L λaD au=>f (aA aF ?_));simp only[J];refine aA (aN Ul dV O O (by omega) (by omega) (lK (ab _))) ?_;simp only[J];refine bA O (lies1 (nY (aW.ext m.ext)) eW) ?_;simp only[J];refine fV m Xk O ?_;intro I u m;refine aA aI ?_;simp only[J];refine cH m 0 O O O dV (eU O) ⟨O,O⟩ ?_;intro u m;simp only[J,zy,zx,over,aa] at m;refine S (au _ _ ?_);try clear au aD
  refine L λaE av=>f (aA aF ?_);simp only[J];refine bB O O (alZ _) ?_;rintro v u e_ ⟨M,gk,rfl,h_,-,-,k_,aM⟩;replace m:=m.newB e_ h_ k_;refine S (av _ _ ?_);try clear av aE
  refine gn ?_;simp only[J];refine Xf (α:=Fin ng) (σ:=Unit) (λx=>[iV (x.1:Nat)]) [7] (λx _=>[iV (x.1:Nat)]) (λ_=>X8) rfl (bP func110 (by kernel_rfl)) (abh Q ad af T V Y z (X gp (ak z)).1 m.ext (m.b 0 rfl) aM (m.b 5 rfl)) (λ_=>rfl) (bg _) (λ_=>[bI M [.pointer (H ⟨a,0,X8⟩)] 80,bI I [.bool j] 4,ddI d,bI q [.bool X7] 4,bI p [.slice (H F) nd o] 35,bI a [.slice A nc cc,.slice B ng cg] 31]) (λpre _=>j=N->∀y∈pre,cu[y.1]? = H N) (λpre _=>j=N/\∃y∈pre,cu[y.1]? ≠ H N) (λ_ _=>rfl) (λk hk=>?_) (s0:=()) m (λ_ x hx=>by cases hx) ?_ ?_ ?_ ?_
  . rcases List.mem_cons.1 hk with rfl|hk
    .exact⟨_,_,λ_=>bv⟩
    obtain rfl:=cr.1 hk
    exact⟨_,_,λ_=>ak (i:=5) O⟩
  .clear m;intro r x _ W K Z m hK;replace m:Mem w W [bI M [.pointer (H ⟨a,0,X8⟩)] 80,bI I [.bool j] 4,ddI d,bI q [.bool X7] 4,bI p [.slice (H F) nd o] 35,bI a [.slice A nc cc,.slice B ng cg] 31,Z]:=m;simp only[xX,zF,zG];refine bF (aA aI (S ?_));simp only[J];exact hK 0 _ m
  .clear m;intro r pre x _ _ W Q' _ Z hN hR m hn s;replace m:Mem w W [bI M [.pointer (H ⟨a,0,X8⟩)] 80,bI I [.bool j] 4,ddI d,bI q [.bool X7] 4,bI p [.slice (H F) nd o] 35,bI a [.slice A nc cc,.slice B ng cg] 31,Z]:=m;simp only[xX,zF,zG];have a3:=x.2;obtain⟨bq,ai,_,aR,aX⟩:=P.get (i:=x.1) (by omega);cases aR;rcases j with _|_
   .refine jY (eM λaH aw=>bF (bA O ((m.b 1 O).lies1 eW O) ?_));simp only[J];refine aA aF (eF O (eF O (eF O ?_)));simp only[J];refine eF O (eF O (aA (gD O) (S (aw _ _ ?_))));try clear aw aH
    refine adw O (mF ?_);simp only[J];exact hn _ _ () m (λh=>by cases h)
   refine jY (eM λaJ ax=>bF (bA O ((m.b 1 O).lies1 eW O) ?_));simp only[J];refine aA aF (bQ O ?_);simp only[J];refine bA O ((m.b 4 O).lies1 ace O) ?_;simp only[J];refine bQ O (aA aF (bQ O ?_));simp only[J];refine aA (aN Ul dV O O (by omega) (by omega) (lK (ab _))) (bQ O ?_);simp only[J];refine bA O (lies1 (nY (aX.ext m.ext)) eW) ?_;simp only[J];refine bQ O (aA (sT O) (aA (dT O) (S (ax _ _ ?_))));try clear ax aJ
   simp only[J];refine acb O ?_ ?_<;>intro am
   .refine eM λaK ay=>bF (cH m 3 O O O dV (eU O) ⟨O,O⟩ ?_);intro u m;simp only[J,zy,zx,over,aa] at m;refine S (ay _ _ ?_);try clear ay aK
    refine Db ?_;exact s _ _ () m ⟨O,x,by simp,by rw[ai,apS am];decide⟩
   refine mF ?_;exact hn _ _ () m (λ_ y hy=>by
    rcases bz.1 hy with hy|hy
    .exact hR O y hy
    rw[cr.1 hy,ai];cases bq with
    |true=>rfl
    |false=>cases am)
  rotate_left
  . rintro D pre _ u aV ⟨aT,y,hy,aQ⟩ m
    try simp only[t,Exit.then]
    replace m:=(m.sel [N,X7,X7,N,N,N,N]).ddPush;refine ag9 (_::_) _ m ?_;clear m;intro u m;refine aS O ⟨_,O,(m.b 0 O).lies1 eW O⟩ ?_;exact⟨_,rfl,m.ext,X7,rfl,⟨λh=>(by cases h),λh=>Y0 ((abr.2 (h.2.2.2 k gp z (by rw[al,aT]))) _ (aV y hy)) (by rw[ab];exact aQ)⟩⟩
  rintro D xs _ u hS hj m;replace m:=(m.sel [N,X7,X7,N,N,N,N]).ddPush;refine ar _ _ ?_;try clear ar aC
  refine f (aA (eH O O (bN (by omega) (by omega))) (aA aF (S ?_)));simp only[J];simp only[t,Exit.then];refine⟨nd-(k+1),_,D::d,?_,O,?_,?_⟩
  .omega
  .simp only[J,zv]
  simp only[zQ,zR,zD,zE]
  exact⟨k+1,O,m,s.step z (λe=>abr.1 (ajH hS (hj (lc (al.symm.trans e))))),by omega,O⟩
 refine nj (k7 _ _ ?_);try clear k7 K7
 refine L λaL az=>f (cH m 1 O O O dV (eU O) ⟨O,O⟩ ?_);intro u m;simp only[J,zy,zx,over,aa] at m;refine S (az _ _ ?_);try clear az aL
 refine gh ?_;try simp only[t,Exit.then,Y4]
 replace m:=m.pull 0 O;simp only[bG,bH,zF,zG] at m;refine ag9 _ _ m ?_;clear m;intro u m;try simp only[t,Exit.then,Y4]
 refine aS O ⟨_,O,((m.b 0 O).lies1 eW O)⟩ ?_;try simp only[zD,zE]
 exact⟨_,O,m.ext,N,O,⟨λ_=>⟨Y,aP,by omega,s.all (by omega)⟩,λ_=>rfl⟩⟩
end
section
attribute [local irreducible] wpList wpQuiet fS cE cP Code.wp
attribute [local congr] fE fF eN fD
variable{a y:Int}{c:Iv}{ts:List T3}{vi cap nc cc ng cg cd g1 g2 k j g n:Nat}{A B D:Option Addr}{cu:List Bool}{G:Gr}{x q:Y}{t:T3}{w:an}{ps:List Y}{r:List Iv}
def Rx{b c d:Int}[Iw a][Iw b][Iw c][Iw d]:dO X9 120 [U a,U b,U c,U d] (W (a*b-c*d)):=by
 intro w;refine⟨bP func120 (by kernel_rfl),?_⟩;have m:=Mem.refl w
 go_enter func120,ntmps120
 apply gJ 7 [0] m;simp only[↓Z,eX];intro g1 u m;refine iE m O O (iT Iw.h) 1 [0] ?_;simp only[↓Z];intro u m;refine eV m O O (iT Iw.h) ?_;intro u m;simp only[J];refine iE m O O (sR K.up K.up) 6 [0,0] ?_;simp only[↓Z,eX,cB,aa];intro g2 u m;refine iE m O O (iT Iw.h) 1 [0] ?_;simp only[↓Z];intro u m;refine eV m O O (iT Iw.h) ?_;intro u m;simp only[J];refine iE m O O (sR K.up K.up) 7 [0,2,1,0] ?_;simp only[↓Z,eX,cB,aa];intro e u m;refine iE m O O (Ch K.up K.up) 3 [2] ?_;simp only[↓Z,cB,aa];intro u m;exact aS O ⟨_,O,((m.b 2 O).full bE aJ)⟩ ⟨_,O,m.ext,O⟩
def arz{a b c:Y}[I3 a][I3 b][I3 c]:dO X9 75 [pt a,pt b,pt c] (W (qR ⟨a,b,c⟩)):=by
 intro w;refine⟨bP func75 (by kernel_rfl),?_⟩;have m:=Mem.refl w
 go_enter func75,ntmps75
 apply gJ 17 [3,2,3,2,0] m;simp only[↓Z,eX,iJ,dN,iS,aa];intro g1 g2 g i u m;refine iE m O O Rx 13 [0,4,3,4,3,0] ?_;simp only[↓Z,eX,cB,iS,dN,iR,aa];intro j u m;refine iE m O O Rx 13 [0,5,4,5,4,0] ?_;simp only[↓Z,eX,cB,iR,dN,iJ,aa];intro k u m;refine iE m O O Rx 4 [0,0] ?_;simp only[↓Z,eX,cB,aa];intro l u m;refine dR 6 [0,1,2,3,4] [⟨5,10,37,[.bool X7,.string ⟨#[]⟩]⟩] aB (by kernel_rfl) (al1 ⟨_,_,_,O,by kernel_rfl,_,iB,O⟩) (ol:=?_) ?f ?_
 case f=>simp only[zw,zQ,zR];try rfl
 intro u d;replace m:=m.ext' d;refine gA (aO (c:=0) iZ O bC O O) ?_;simp only[J];refine dA O (λu e=>(((m.ext' e).b 6 O).lies1 bW O)) ?_;simp only[J];refine cY O O (iT Iw.h) ?_;simp only[J];refine dA O (λu e=>(((m.ext' e).b 2 O).full bE aJ)) ?_;simp only[J];refine cY O O (sR K.up K.up) (rN ?_);simp only[J];refine mf1 m ?_;intro n u m;simp only[zJ,zK,zF,zG];refine aX m 0 O O O aJ (eU O) O ?_;intro u m;simp only[zy,zx,over,zF,zG,aa] at m;refine S ?_;apply aQ 1 [0] m;simp only[↓Z];refine cC m 7 aB (by kernel_rfl) ?_;simp only[zy];refine cW 3 [1,8] ?_;simp only[↓Z,cB,iJ,dN,aa];refine X O O (iT Iw.h) ?_;simp only[J];refine ql O (λu m=>((m.b 2 O).full bE aJ)) ?_;simp only[J];refine X O O (sR K.up K.up) ?_;simp only[J];refine X O O (uJ K.up K.up) (bD ?_);intro u m;simp only[J];refine aX m 0 O O O aJ (eU O) O ?_;intro u m;simp only[zy,zx,over,zF,zG,aa] at m;refine S ?_;apply aQ 1 [0] m;simp only[↓Z];refine cC m 7 aB (by kernel_rfl) ?_;simp only[zy];refine cW 3 [1,8] ?_;simp only[↓Z,cB,iS,dN,aa];refine X O O (iT Iw.h) ?_;simp only[J];refine ql O (λu m=>((m.b 1 O).full bE aJ)) ?_;simp only[J];refine X O O (sR K.up K.up) ?_;simp only[J];refine X O O (uJ K.up K.up) (bD ?_);intro u m;simp only[J];refine aX m 4 O O O aJ (eU O) O ?_;intro u m;simp only[zy,zx,over,zF,zG,aa] at m;refine S ?_;apply aQ 1 [] m;simp only[↓Z];exact aS O ⟨_,O,((m.b 4 O).full bE aJ)⟩ ⟨_,O,m.ext,O⟩
def Gd(w:an)(d:cI w A vi ts)(r:vi<4611686018427387904):cX X9 30 [.slice A vi cap] w (λv _=>v=W (fA qR ts)):=by
 refine⟨bP func30 (by kernel_rfl),?_⟩;have m:=Mem.refl w;haveI:Iw 0:=⟨by unfold gF;decide⟩
 go_enter func30,ntmps30
 apply gJ 6 [0] m;simp only[↓Z,eX];intro g1 u m;refine iE m O O (iT Iw.h) 9 [0,0] ?_;simp only[↓Z,eX,cB,aa];intro g2 u m;refine bT [4] [6,7,8,9,10,11,12,13,14,15,16,17,18,19,20,21,22,23,24,25,26,27,28,29] (λn vs l=>∃(k:Nat),vs=[U (k:Int)]/\Mem w l [bI g2 [.bool (cQ (fA qR (ts.take k))),.string (dQ (fA qR (ts.take k)))] 37,bI g1 [.bool X7,.string ⟨#[]⟩] 37]/\(k<=vi)/\(n=vi-k)) ?_ ?_
 .exact⟨_,0,O,m,bm _,O⟩
 intro n vs y f u q o;obtain⟨k,rfl,m,s,x⟩:=f;simp only[zu,zF,zG];apply F 8 [0,0] m;simp only[↓Z,gN];refine aZ O ?_ ?_<;>intro z
 .obtain⟨t,g,_,a,rfl,e⟩:=d.get (i:=k) (by omega);haveI:K 264 (fA qR (ts.take k)):=⟨rT (m:=200) (λu j=>by haveI:=d.it u j;exact tV) (by rw[d.len];omega)⟩
  apply F 3 [0] m;simp only[↓Z];refine cC m 18 aB (by kernel_rfl) ?_;simp only[zy];refine cW 16 [1,0,0,0,0,0,0] ?_;simp only[↓Z,cB,eY,cD,ab,ae,ac,C,aa];refine⟨_,λu m=>(((((e.ext m.ext)).sub 0).take 3).lies aM aD),_,λu m=>(((((e.ext m.ext)).sub 3).take 3).lies aM aD),_,λu m=>(((((e.ext m.ext)).sub 6).take 3).lies aM aD),by omega,?_⟩;refine X O O (arz (a:=t.a) (b:=t.b) (c:=t.c)) ?_;simp only[J];refine X O O (uJ (a:=fA qR (ts.take k)) (b:=qR t) K.up K.up) (bD ?_);intro u m;simp only[J];refine aX m 0 O O O aJ (eU O) O ?_;intro u m;simp only[zy,zx,over,zF,zG,aa] at m;refine S ?_;apply aQ 6 [0] m;simp only[↓Z];apply R;omega;exact o (vi-(k+1)) _ _ (by omega) (by kernel_rfl) ⟨k+1,O,(m.re 0 O (by rw[mO g];exact (m.b 0 O))),by omega,O⟩
 have p:k=vi:=by omega
 rw[p,show ts.take vi=ts from ap (by rw[d.len];exact bg _)] at m;apply qW 7 [1,1] m;simp only[↓Z,cB,aa];intro u m;exact aS O ⟨_,O,((m.b 1 O).full bE aJ)⟩ ⟨_,O,m.ext,O⟩
def arA{x:Cl}(h:x.made<cu.length):(x.made<0/\x.used<0)\/(x.made<0/\0<=x.used)\/(0<=x.made/\cu[x.made.toNat]? = H N/\x.used<0)\/(0<=x.made/\cu[x.made.toNat]? = H N/\0<=x.used)\/(0<=x.made/\cu[x.made.toNat]? = H X7):=by
 by_cases b:x.made<0
 . by_cases a:x.used<0
   .exact .inl ⟨b,a⟩
   exact .inr (.inl ⟨b,by omega⟩)
 have e:cu[x.made.toNat]? = H cu[x.made.toNat]:=ah (by omega)
 rw[e];cases cu[x.made.toNat] with
 |false=>exact .inr (.inr (.inr (.inr ⟨by omega,rfl⟩)))
 |true=>
  by_cases a:x.used<0
  .exact .inr (.inr (.inl ⟨by omega,O,a⟩))
  exact .inr (.inr (.inr (.inl ⟨by omega,O,by omega⟩)))
def ac9{nd:Nat}(w:an)(hG:GrAt w A B G)(am:G.cs.length=nc)(ao:G.gs.length=ng)(aw:nc<=40000)(ax:ng<=200001)(al:∀(g:Gp),g∈G.gs->g.ins.length<=1000000000000/\g.outs.length<=1000000000000)(p:kO uI 1 w D nd cu)(Y:Mf G cu):cX X9 76 [.agg #[.slice A nc cc,.slice B ng cg],.slice D nd cd] w (SL 3 1 ((gI cu G.cs 0).flatMap nB) (gI cu G.cs 0).length w):=by
 refine⟨bP func76 (by kernel_rfl),?_⟩;have m:=Mem.refl w;have aM:=Y.2.2.1;have aB:=p.len
 go_enter func76,ntmps76
 apply gJ 9 [1,0] m;simp only[↓Z,jI];intro g1 u m;refine bY m O O (Rv _ (hG.ext m.ext) am ao (by omega) (by omega) al (p.ext m.ext)) ?_;rintro v u m ⟨b1,rfl,ar⟩;simp only[J];obtain rfl:b1=N:=ar.2 Y;apply aL 12 [0] m;simp only[↓Z,Bool.not_true,ik];refine aA aI ?_;replace m:=m.nilO 3 1;apply aL 7 [0] m;simp only[↓Z];refine bT [6,7] [8,14,15,16,17,18,19,20,21,22,23,24,25,26,27,28,29,30,31,32,33,34,35,36,37,38,39,40,41,42,43,44,45,46,47,48,49,50,51,52] (λn vs wl=>∃(k:Nat)(i:Option Addr)(W:Nat),vs=[.slice i (gI cu (G.cs.take k) 0).length W,U (k:Int)]/\Mem w wl [oI 3 1 i (gI cu (G.cs.take k) 0).length W ((gI cu (G.cs.take k) 0).flatMap nB),bI g1 [.slice A nc cc,.slice B ng cg] 31]/\(k<=nc)/\(n=nc-k)) ?_ ?_
 .exact⟨_,0,_,_,O,m,by omega,O⟩
 intro n vs wr hI u K1 t
 obtain⟨k,i,W,rfl,m,hk,hn⟩:=hI;simp only[zu,zF,zG];apply F 9 [2,0,0] m;simp only[↓Z,gH,lP,El,aa];refine aZ O ?_ ?_<;>intro ay
 .obtain⟨x,a,E,cx,hx,rfl,av,aG,az⟩:=hG.cl (k:=k) (by omega);obtain⟨⟨aD,aE⟩,aJ,aK⟩:=Y.1.1 x (ak hx);have d:=aay (c:=cu) hx;have aq:=xY (c:=cu) (cs:=G.cs.take k) (k:=0);rw[bf] at aq;apply F 9 [2,0] m;simp only[↓Z,gH,lP,sB,aa,ab,ae];apply R;omega;refine bA O ((av.ext m.ext).lies Jm mH) ?_;simp only[J];apply kZ 4 [0] m;simp only[↓Z,ad0,aaX,aa];intro g2 u m;rcases arA (x:=x) (cu:=cu) (by omega) with ⟨C,Q⟩|⟨C,Q⟩|⟨C,e,Q⟩|⟨C,e,Q⟩|⟨C,e⟩
  .apply aQ 29 [1,1,0,0,0,0,0,0,0,1,0,1,0,0,0,0,0,0,0,0,0] m;simp only[↓Z,kT,dN,nX,aa];apply R;omega;refine cO cF (z:=U 0) (by kernel_rfl) O O O ?_;intro u X l r s;replace m:=m.newB l r s;simp only[J];refine bJ m 2 O O cF gM O (by decide) O O O (m.b 0 O).rowsO (fU O) (by omega) (by omega) ?_;intro i ad u m;simp only[zF,zG] at m;apply aL 8 [0] m;simp only[↓Z];apply R;omega;rw[show pG cu x=N by simp[pG,C,Q],Z9 rfl] at d;rw[show (gI cu (G.cs.take k) 0).length+1=(gI cu (G.cs.take (k+1)) 0).length by rw[d,a_];rfl] at m ⊢;exact t (nc-(k+1)) _ _ (by omega) (by kernel_rfl) ⟨k+1,_,_,O,((m.reO 2 O ((m.o 2 O).as (by rw[d,au];rfl))).sel [X7,X7,N,N]),by omega,rfl⟩
  .obtain⟨K,P⟩:∃q:Nat,x.used=(q:Int):=⟨x.used.toNat,by omega⟩
   obtain⟨j,L⟩:∃y,cu[K]? = H y:=⟨_,ah (by omega)⟩
   have T:cu[x.used.toNat]? = H j:=by rw[P,ab];exact L
   obtain⟨aj,af,ag⟩:=p.row K _ L;subst af;rw[P] at m;apply aQ 25 [1,1,0,0,0,0,0,0,0,1,0,2,0,0,0,0,1,0,0,0,3,0,0,0] m;simp only[↓Z,kT,dN,nX,wZ,aa,ab,ae,bi];refine⟨_,λu m=>(lies1 (nY (ag.ext m.ext)) eW),by omega,?_⟩;refine dH O ?_ ?_<;>intro M
   .apply F 3 [0] m;simp only[↓Z];refine cO cF (z:=U 0) (by kernel_rfl) O O O ?_;intro u X l r s;replace m:=m.newB l r s;simp only[J];refine bJ m 2 O O cF gM O (by decide) O O O (m.b 0 O).rowsO (fU O) (by omega) (by omega) ?_;intro i ad u m;simp only[zF,zG] at m;apply aL 8 [0] m;simp only[↓Z];apply R;omega;rw[show pG cu x=N by revert M;cases j<;>simp[pG,C,show ¬x.used<0 by omega,T],Z9 rfl] at d;rw[show (gI cu (G.cs.take k) 0).length+1=(gI cu (G.cs.take (k+1)) 0).length by rw[d,a_];rfl] at m ⊢;exact t (nc-(k+1)) _ _ (by omega) (by kernel_rfl) ⟨k+1,_,_,O,((m.reO 2 O ((m.o 2 O).as (by rw[d,au];rfl))).sel [X7,X7,N,N]),by omega,rfl⟩
   apply F 7 [0] m;simp only[↓Z];apply R;omega;rw[show pG cu x=X7 by revert M;cases j<;>simp[pG,C,show ¬x.used<0 by omega,T],K0 (by decide),fw] at d;rw[<-d] at m ⊢;exact t (nc-(k+1)) _ _ (by omega) (by kernel_rfl) ⟨k+1,_,_,O,(m.sel [X7,N,N]),by omega,O⟩
  .obtain⟨I,h⟩:∃q:Nat,x.made=(q:Int):=⟨x.made.toNat,by omega⟩
   have f:=e;rw[h,ab] at f;obtain⟨ai,S,V⟩:=p.row I _ f;subst S;rw[h] at m;apply aQ 29 [1,2,0,0,0,1,0,0,0,3,0,0,1,0,1,0,0,0,0,0,0,0,0,0] m;simp only[↓Z,kT,dN,wZ,nX,aa,ab,ae,bi];refine⟨_,λu m=>(lies1 (nY (V.ext m.ext)) eW),by omega,?_⟩;refine cO cF (z:=U 0) (by kernel_rfl) O O O ?_;intro u X l r s;replace m:=m.newB l r s;simp only[J];refine bJ m 2 O O cF gM O (by decide) O O O (m.b 0 O).rowsO (fU O) (by omega) (by omega) ?_;intro i ad u m;simp only[zF,zG] at m;apply aL 8 [0] m;simp only[↓Z];apply R;omega;rw[show pG cu x=N by simp[pG,e,Q],Z9 rfl] at d;rw[show (gI cu (G.cs.take k) 0).length+1=(gI cu (G.cs.take (k+1)) 0).length by rw[d,a_];rfl] at m ⊢;exact t (nc-(k+1)) _ _ (by omega) (by kernel_rfl) ⟨k+1,_,_,O,((m.reO 2 O ((m.o 2 O).as (by rw[d,au];rfl))).sel [X7,X7,N,N]),by omega,rfl⟩
  .obtain⟨I,h⟩:∃q:Nat,x.made=(q:Int):=⟨x.made.toNat,by omega⟩
   have f:=e;rw[h,ab] at f;obtain⟨ai,S,V⟩:=p.row I _ f;subst S;rw[h] at m;obtain⟨K,P⟩:∃q:Nat,x.used=(q:Int):=⟨x.used.toNat,by omega⟩
   obtain⟨j,L⟩:∃y,cu[K]? = H y:=⟨_,ah (by omega)⟩
   have T:cu[x.used.toNat]? = H j:=by rw[P,ab];exact L
   obtain⟨aj,af,ag⟩:=p.row K _ L;cases af;rw[P] at m;apply aQ 25 [1,2,0,0,0,1,0,0,0,3,0,0,1,0,2,0,0,0,0,1,0,0,0,3,0,0,0] m;simp only[↓Z,kT,dN,wZ,nX,aa,ab,ae,bi];refine⟨_,λu m=>(lies1 (nY (V.ext m.ext)) eW),_,λu m=>(lies1 (nY (ag.ext m.ext)) eW),by omega,?_⟩;refine dH O ?_ ?_<;>intro M
   .apply F 3 [0] m;simp only[↓Z];refine cO cF (z:=U 0) (by kernel_rfl) O O O ?_;intro u X l r s;replace m:=m.newB l r s;simp only[J];refine bJ m 2 O O cF gM O (by decide) O O O (m.b 0 O).rowsO (fU O) (by omega) (by omega) ?_;intro i ad u m;simp only[zF,zG] at m;apply aL 8 [0] m;simp only[↓Z];apply R;omega;rw[show pG cu x=N by revert M;cases j<;>simp[pG,e,show ¬x.used<0 by omega,T],Z9 rfl] at d;rw[show (gI cu (G.cs.take k) 0).length+1=(gI cu (G.cs.take (k+1)) 0).length by rw[d,a_];rfl] at m ⊢;exact t (nc-(k+1)) _ _ (by omega) (by kernel_rfl) ⟨k+1,_,_,O,((m.reO 2 O ((m.o 2 O).as (by rw[d,au];rfl))).sel [X7,X7,N,N]),by omega,rfl⟩
   apply F 7 [0] m;simp only[↓Z];apply R;omega;rw[show pG cu x=X7 by revert M;cases j<;>simp[pG,e,show ¬x.used<0 by omega,T],K0 (by decide),fw] at d;rw[<-d] at m ⊢;exact t (nc-(k+1)) _ _ (by omega) (by kernel_rfl) ⟨k+1,_,_,O,(m.sel [X7,N,N]),by omega,O⟩
  obtain⟨I,h⟩:∃q:Nat,x.made=(q:Int):=⟨x.made.toNat,by omega⟩
  have f:=e;rw[h,ab] at f;obtain⟨ai,S,V⟩:=p.row I _ f;subst S;rw[h] at m;apply aQ 11 [1,2,0,0,0,1,0,0,0,3,0] m;simp only[↓Z,kT,dN,wZ,aa,ab,ae,bi];refine⟨_,λu m=>(lies1 (nY (V.ext m.ext)) eW),by omega,?_⟩;refine aA aF ?_;apply aL 21 [0,0,0,0,0,0,0,0,0,0,0,0] m;simp only[↓Z];apply R;omega;rw[show pG cu x=X7 by simp[pG,e,show ¬x.made<0 by omega],K0 (by decide),fw] at d;rw[<-d] at m ⊢;exact t (nc-(k+1)) _ _ (by omega) (by kernel_rfl) ⟨k+1,_,_,O,(m.sel [X7,N,N]),by omega,O⟩
 obtain rfl:nc=k:=by omega
 rw[ap (by omega)] at m ⊢;apply F 7 [] m;simp only[↓Z];exact aS O O ⟨_,O,m.ext,_,_,_,O,O,(m.o 0 O)⟩
def Zo{nd:Nat}(w:an)(d:GrAt w A B G)(e:G.cs.length=nc)(f:G.gs.length=ng)(U:nc<=40000)(V:ng<=200001)(q:∀(g:Gp),g∈G.gs->g.ins.length<=1000000000000/\g.outs.length<=1000000000000)(i:kO uI 1 w D nd cu)(j:Mf G cu)(p:∀x∈G.cs,x.ts.length<=2000):cX X9 31 [.agg #[.slice A nc cc,.slice B ng cg],.slice D nd cd] w (SL 43 9 ((bS (kK G.cs (gI cu G.cs 0))).flatMap aP) (bS (kK G.cs (gI cu G.cs 0))).length w):=by
 refine⟨bP func31 (by kernel_rfl),?_⟩;have m:=Mem.refl w;have X:=xY (c:=cu) (cs:=G.cs) (k:=0);have Y:=Gz p (gI cu G.cs 0);have C:=Xi d (l:=gI cu G.cs 0);have r:=jZ (kK G.cs (gI cu G.cs 0));have W:(gI cu G.cs 0).length*2000<=80000000:=by omega
 go_enter func31,ntmps31
 apply gJ 6 [0] m;simp only[↓Z];intro g1 u m;refine mh m [N] [(2,N),(0,N),(1,N),(3,X7),(4,X7),(5,X7),(6,N)] aB (by kernel_rfl) (bR (λ_ _ _ _ _ h=>h)) (ol:=?_) ?y ?_
 case y=>simp only[zw,zQ,zR];try rfl
 intro u m;refine tL 3 [1,1] ?_;simp only[↓Z,jI];refine bX (bB O O (ac9 _ (d.ext m.ext) e f (by omega) (by omega) q (i.ext m.ext) j) ?_);rintro v u a ⟨F,K,M,s,rfl,b⟩;replace m:=m.newO a b;subst s;refine S ⟨m.sel [X7,N],?_⟩;refine bX ?_;simp only[J];refine bB O O (Vn (G:=G) (l:=(gI cu G.cs 0)) _ (d.ext m.ext) e f ((m.o 0 O).lat in1 (by decide)) (λz n=>by have:=Pd n;omega) (by omega) (by omega)) ?_;rintro v u a ⟨I,L,P,t,rfl,b⟩;replace m:=m.newO a b;subst t;refine S ⟨m.sel [X7,X7,N],?_⟩;refine bX ?_;simp only[J];refine bB O O (uH (ts:=(kK G.cs (gI cu G.cs 0))) _ ((m.o 0 O).tris C) (by omega)) ?_;rintro v u a ⟨Q,T,aa,E,rfl,b⟩;replace m:=m.newO a b;refine S ⟨m.sel [X7,X7,X7,N],?_⟩;refine aV aI (aT ?_);apply aQ 1 [] m;simp only[↓Z];refine aS O O ?_;try simp only[zD,zE]
 exact⟨_,O,m.ext,_,_,_,by rw[E,r],O,(m.o 0 O)⟩
def arB(G:Gr)(cu:List Bool):Int:=fA qR (bS (kK G.cs (gI cu G.cs 0)))+Bm G.gs cu
def ajI(h:∀t∈ts,IT t)(b:ts.length<=100000000):Bd 264 (fA qR ts):=uW (m:=200) (λu a=>by haveI:=h u a;exact tV) (by omega)
def abt{nd:Nat}(w:an)(e:GrAt w A B G)(C:G.cs.length=nc)(E:G.gs.length=ng)(ao:nc<=40000)(aq:ng<=200001)(z:∀(g:Gp),g∈G.gs->g.ins.length<=1000000000000/\g.outs.length<=1000000000000)(d:kO uI 1 w D nd cu)(r:∀x∈G.cs,x.ts.length<=2000)(s:∀g∈G.gs,Bd 301 g.dl):cX X9 9 [.agg #[.slice A nc cc,.slice B ng cg],.slice D nd cd] w (λv _=>∃b,(b=N↔Mf G cu)/\v=W (if b=N then arB G cu else 0)):=by
 refine⟨bP func9 (by kernel_rfl),?_⟩;have m:=Mem.refl w;have av:=d.len;have ax:=xY (c:=cu) (cs:=G.cs) (k:=0);have ay:=Gz r (gI cu G.cs 0);have K:=nK (Xi e (l:=gI cu G.cs 0));have au:=jZ (kK G.cs (gI cu G.cs 0));have aw:(gI cu G.cs 0).length*2000<=80000000:=by omega
 go_enter func9,ntmps9
 apply gJ 9 [2,0] m;simp only[↓Z,eX,jI];intro g1 g2 u m;refine bY m O O (Rv _ (e.ext m.ext) C E (by omega) (by omega) z (d.ext m.ext)) ?_;rintro v u m ⟨P,rfl,L⟩;apply aL 8 [0] m;simp only[↓Z];refine dH O ?_ ?_<;>intro t
 .have af:P=X7:=bno t;apply qW 6 [0] m;simp only[↓Z,Ag,cB,aa];intro u m;exact aS rfl ⟨_,rfl,((m.b 0 rfl).full bE aJ)⟩ ⟨_,rfl,m.ext,X7,⟨λh=>(by cases h),λh=>Y0 (L.2 h) (by rw[af];decide)⟩,rfl⟩
 have j:Mf G cu:=L.1 (apO t);have aA:=j.2.2.1;apply F 5 [2,0] m;simp only[↓Z,jI];refine bB O O (Zo _ (e.ext m.ext) C E (by omega) (by omega) z (d.ext m.ext) j r) ?_;rintro v u Q ⟨al,am,az,ag,rfl,X⟩;replace m:=m.newO Q X;subst ag;simp only[J];refine bY m O O (Gd (ts:=(bS (kK G.cs (gI cu G.cs 0)))) _ ((m.o 0 O).tris K) (by omega)) ?_;rintro v u m rfl;apply kZ 9 [0,0] m;simp only[↓Z,eX,cB,aa];intro T u m;refine bT [7] [18,19,20,21,22,23,24,25,26,27,28,29,30,31,32,33,34,35] (λn vs Y=>∃(k:Nat),vs=[U (k:Int)]/\Mem w Y [bI T [.bool (cQ (fA qR (bS (kK G.cs (gI cu G.cs 0)))+Bm (G.gs.take k) (cu.take k))),.string (dQ (fA qR (bS (kK G.cs (gI cu G.cs 0)))+Bm (G.gs.take k) (cu.take k)))] 37,bI g2 [.bool (cQ 0),.string (dQ 0)] 37,bI g1 [.slice A nc cc,.slice B ng cg] 31]/\(k<=nd)/\(n=nd-k)) ?_ ?_
 .exact⟨_,0,O,((m.re 0 O ((by rw[show Bm (G.gs.take 0) (cu.take 0)=0 from O,nu];exact (m.b 0 O)))).sel [N,X7,N,N]),by omega,O⟩
 intro n vs wr V u K1 q
 obtain⟨k,rfl,m,hk,hn⟩:=V;simp only[zu,zF,zG];apply F 8 [0,0] m;simp only[↓Z,aaW];refine aZ O ?_ ?_<;>intro ar
 .obtain⟨bt,ad,aj,rfl,ah⟩:=d.get (i:=k) (by omega);obtain⟨gp,a2,I,ci,O0,co,M,cm,p,rfl,ai,_⟩:=e.gp (k:=k) (by omega);have f:=Uj p ad;apply F 10 [0,3,0] m;simp only[↓Z,wZ,ab,ae,bi];refine⟨_,λu m=>(lies1 (nY (ah.ext m.ext)) eW),by omega,?_⟩;refine dH O ?_ ?_<;>intro y
  .subst y;refine Oz m [X7,N,N] (.take 1 (.take 2 (.take 3 (.take 4 (.take 5 (.take 6 (.one 0 (.one 7 (.one 8 .nil))))))))) aB (by kernel_rfl) (bR (λ_ _ _ _ _ h=>h)) ?_;intro u m;refine dG (by simp only[zw];rfl) (aV (aO (c:=0) nD rfl lN rfl rfl) (aT (dG (by simp only[zw];rfl) ?_)));simp only[J];refine eK O (λu m=>((m.b 1 O).lies1 yA O)) ?_;simp only[J];refine aT (dG (by simp only[zw];rfl) (aV aF (aT (dG (by simp only[zw];rfl) ?_))));simp only[J];refine aV (aN wU qK O O (by omega) (by omega) (kV (ab _))) (aT (dG (by simp only[zw];rfl) (aV (aO (c:=1) oN rfl aJ rfl rfl) (aT (dG (by simp only[zw];rfl) ?_)))));simp only[J];refine eK O (λu m=>(show eZ _ _ _ _ (W gp.dl) from (ajw (ai.ext m.ext) 6 O).lies bE aJ)) ?_;simp only[J];refine aT (fL (by simp only[zw];rfl) ?_);refine bA O ((m.b 0 O).full bE aJ) ?_;simp only[J];refine S ⟨m.sel [X7,N,N],?_⟩;refine fL (by simp only[zw];rfl) ?_;refine eV m O O (uJ (a:=fA qR (bS (kK G.cs (gI cu G.cs 0)))+Bm (G.gs.take k) (cu.take k)) (b:=gp.dl) (((ajI K (by omega)).add (ahe s k)).mono (by omega)) ((s gp (ak p)).mono (by decide))) ?_;intro u m;refine S ⟨m.sel [X7,N,N],?_⟩;refine fL (by simp only[zw];rfl) ?_;simp only[J];refine aX m 0 O O O aJ (eU O) O ?_;intro u m;simp only[zy,zx,over,zF,zG,aa] at m;refine S ⟨m.sel [X7,N,N],?_⟩;refine qU ?_;apply aQ 6 [0] m;simp only[↓Z];apply R;omega;rw[Z9 rfl] at f;rw[Int.add_assoc,<-f] at m;exact q (nd-(k+1)) _ _ (by omega) (by kernel_rfl) ⟨k+1,O,m,by omega,O⟩
  subst y;apply F 7 [0] m;simp only[↓Z];apply R;omega;rw[K0 (by decide),nu] at f;rw[<-f] at m;exact q (nd-(k+1)) _ _ (by omega) (by kernel_rfl) ⟨k+1,O,m,by omega,O⟩
 obtain rfl:nd=k:=by omega
 rw[ap (by omega),ap (by omega)] at m;apply qW 7 [1,1] m;simp only[↓Z,cB,aa];intro u m;exact aS O ⟨_,O,((m.b 1 O).full bE aJ)⟩ ⟨_,O,m.ext,N,⟨λ_=>j,λ_=>rfl⟩,O⟩
def apT[I3 x][IT t](w:an)(e:fQ w g1 [U x.x,U x.y,U x.z] 41)(d:fQ w g2 [U t.a.x,U t.a.y,U t.a.z,U t.b.x,U t.b.y,U t.b.z,U t.c.x,U t.c.y,U t.c.z] 43):cX X9 127 [U 0,.pointer (H ⟨g1,0,X8⟩),.pointer (H ⟨g2,0,X8⟩)] w (λv _=>v=Q (Ja x t.a t.b)):=by
 refine⟨acc,?_⟩;have m:=Mem.refl w
 go_enter func127,ntmps127
 apply gJ 5 [0] m;simp only[↓Z,lW];intro f u m;refine cC m 10 aB (by kernel_rfl) ?_;simp only[zy];refine ql O (λu m=>((e.ext m.ext).lies aM aD O O)) ?_;simp only[J,zy,ae,aa,C,ac];refine aK aF (cW 1 [] ?_);simp only[↓Z,cD,ac,C,aa];apply R;omega;refine ql O (λu m=>((d.ext m.ext).lies aM aD O O)) ?_;simp only[J,zy,ae,aa,C,ac];refine aK aF (aK (eH (m:=0) (n:=1) (r:=1) O O (by decide)) (aK (cS (m:=1) (n:=3) (r:=1) O O (by decide) (by decide)) ?_));refine cW 1 [] ?_;simp only[↓Z,cD,ac,C,aa];apply R;omega;refine ql O (λu m=>((d.ext m.ext).lies aM aD O O)) ?_;simp only[J,zy,ae,aa,C,ac];refine X O O Ks (bD ?_);intro u m;simp only[J];refine aX m 0 O O O dC (eU O) O ?_;intro u m;simp only[zy,zx,over,zF,zG,aa] at m;refine S ?_;apply aQ 1 [] m;simp only[↓Z];exact aS O ⟨_,O,((m.b 0 O).full iG dC)⟩ ⟨_,O,m.ext,O⟩
def apU[I3 x][IT t](w:an)(e:fQ w g1 [U x.x,U x.y,U x.z] 41)(d:fQ w g2 [U t.a.x,U t.a.y,U t.a.z,U t.b.x,U t.b.y,U t.b.z,U t.c.x,U t.c.y,U t.c.z] 43):cX X9 127 [U 1,.pointer (H ⟨g1,0,X8⟩),.pointer (H ⟨g2,0,X8⟩)] w (λv _=>v=Q (Ja x t.b t.c)):=by
 refine⟨acc,?_⟩;have m:=Mem.refl w
 go_enter func127,ntmps127
 apply gJ 5 [0] m;simp only[↓Z,lW];intro f u m;refine cC m 10 aB (by kernel_rfl) ?_;simp only[zy];refine ql O (λu m=>((e.ext m.ext).lies aM aD O O)) ?_;simp only[J,zy,ae,aa,C,ac];refine aK aF (cW 1 [] ?_);simp only[↓Z,cD,ac,C,aa];apply R;omega;refine ql O (λu m=>((d.ext m.ext).lies aM aD O O)) ?_;simp only[J,zy,ae,aa,C,ac];refine aK aF (aK (eH (m:=1) (n:=1) (r:=2) O O (by decide)) (aK (cS (m:=2) (n:=3) (r:=2) O O (by decide) (by decide)) ?_));refine cW 1 [] ?_;simp only[↓Z,cD,ac,C,aa];apply R;omega;refine ql O (λu m=>((d.ext m.ext).lies aM aD O O)) ?_;simp only[J,zy,ae,aa,C,ac];refine X O O Ks (bD ?_);intro u m;simp only[J];refine aX m 0 O O O dC (eU O) O ?_;intro u m;simp only[zy,zx,over,zF,zG,aa] at m;refine S ?_;apply aQ 1 [] m;simp only[↓Z];exact aS O ⟨_,O,((m.b 0 O).full iG dC)⟩ ⟨_,O,m.ext,O⟩
def ajJ[I3 x][IT t](w:an)(e:fQ w g1 [U x.x,U x.y,U x.z] 41)(d:fQ w g2 [U t.a.x,U t.a.y,U t.a.z,U t.b.x,U t.b.y,U t.b.z,U t.c.x,U t.c.y,U t.c.z] 43):cX X9 127 [U 2,.pointer (H ⟨g1,0,X8⟩),.pointer (H ⟨g2,0,X8⟩)] w (λv _=>v=Q (Ja x t.c t.a)):=by
 refine⟨acc,?_⟩;have m:=Mem.refl w
 go_enter func127,ntmps127
 apply gJ 5 [0] m;simp only[↓Z,lW];intro f u m;refine cC m 10 aB (by kernel_rfl) ?_;simp only[zy];refine ql O (λu m=>((e.ext m.ext).lies aM aD O O)) ?_;simp only[J,zy,ae,aa,C,ac];refine aK aF (cW 1 [] ?_);simp only[↓Z,cD,ac,C,aa];apply R;omega;refine ql O (λu m=>((d.ext m.ext).lies aM aD O O)) ?_;simp only[J,zy,ae,aa,C,ac];refine aK aF (aK (eH (m:=2) (n:=1) (r:=3) O O (by decide)) (aK (cS (m:=3) (n:=3) (r:=0) O O (by decide) (by decide)) ?_));refine cW 1 [] ?_;simp only[↓Z,cD,ac,C,aa];apply R;omega;refine ql O (λu m=>((d.ext m.ext).lies aM aD O O)) ?_;simp only[J,zy,ae,aa,C,ac];refine X O O Ks (bD ?_);intro u m;simp only[J];refine aX m 0 O O O dC (eU O) O ?_;intro u m;simp only[zy,zx,over,zF,zG,aa] at m;refine S ?_;apply aQ 1 [] m;simp only[↓Z];exact aS O ⟨_,O,((m.b 0 O).full iG dC)⟩ ⟨_,O,m.ext,O⟩
def Ir[I3 x][IT t]{g0:Nat}(w:an)(g:fQ w g0 [U 0,U 1,U 2] 3)(h:fQ w g1 [U x.x,U x.y,U x.z] 41)(i:fQ w g2 [U t.a.x,U t.a.y,U t.a.z,U t.b.x,U t.b.y,U t.b.z,U t.c.x,U t.c.y,U t.c.z] 43):cX X9 126 [.slice (H ⟨g0,0,X8⟩) 3 3,.func (.func 127) #[] #[.pointer (H ⟨g1,0,X8⟩),.pointer (H ⟨g2,0,X8⟩)]] w (λv _=>v=.tuple #[Q (Oq x t),.bool N]):=by
 refine⟨bP func126 (by kernel_rfl),?_⟩;have m:=Mem.refl w
 go_enter func126,ntmps126
 apply gJ 8 [0] m;simp only[↓Z,lW,Ag,aa];intro k u m;refine iE m O O sF 25 [0,4,1,0] ?_;simp only[↓Z,lW,kA,gG,aa];intro l;apply R;omega;intro u m;refine aA (aN cF bC O O (by decide) (by decide) O) ?_;simp only[J];refine bA O ((g.ext m.ext).lies1 bW O) ?_;simp only[J];apply aL 7 [0] m;simp only[↓Z];refine bY m O O (apT _ (h.ext m.ext) (i.ext m.ext)) ?_;rintro v u m rfl;apply kZ 37 [0,1,0,0,0,0,1,1,1,0] m;simp only[↓Z,lW,kA,aa,M];intro n;apply R;omega;intro u m;refine aA (aN cF bC O O (by decide) (by decide) O) ?_;simp only[J];refine bA O ((g.ext m.ext).lies1 bW O) ?_;simp only[J];apply aL 7 [0] m;simp only[↓Z];refine bY m O O (apU _ (h.ext m.ext) (i.ext m.ext)) ?_;rintro v u m rfl;apply kZ 10 [0,2,0,1,0,3,0] m;simp only[↓Z,lW,kA,aa];intro o;apply R;omega;intro u m;refine bQ O (iE m O O (Dn Bq.up Bq.up) 3 [0,0,0] ?_);simp only[↓Z];intro u m;refine aZ O ?_ ?_<;>intro d
 .have f:=uV.1 d;apply qW 22 [1,2,1,0] m;simp only[↓Z,kA,aa,M];apply R;omega;intro u m;refine aA (aN cF bC O O (by decide) (by decide) O) ?_;simp only[J];refine bA O ((g.ext m.ext).lies1 bW O) ?_;simp only[J];apply aL 7 [0] m;simp only[↓Z];refine bY m O O (ajJ _ (h.ext m.ext) (i.ext m.ext)) ?_;rintro v u m rfl;apply kZ 10 [0,2,0,1,0,4,0] m;simp only[↓Z,lW,kA,aa];intro j;apply R;omega;intro u m;refine bQ O (iE m O O (Dn Bq.up Bq.up) 3 [0,0,0] ?_);simp only[↓Z];intro u m;refine aZ O ?_ ?_<;>intro d
  .have e:=uV.1 d;apply qW 27 [1,3,2,4,1,4] m;simp only[↓Z,kA,gG,aa,M];apply R;omega;intro u m;refine kN O ⟨_,O,((m.b 4 O).full iG dC)⟩ O ?_;try simp only[zD,zE]
   exact⟨_,O,m.ext,by simp only[Oq,Oo,f,e,Y4,X0];rfl⟩
  have e:=mt uV.2 d;apply qW 24 [2,4,1,4] m;simp only[↓Z,kA,gG,M,aa];apply R;omega;intro u m;refine kN O ⟨_,O,((m.b 4 O).full iG dC)⟩ O ?_;try simp only[zD,zE]
  exact⟨_,O,m.ext,by simp only[Oq,Oo,f,e,Y4,X0];rfl⟩
 have f:=mt uV.2 d;apply F 19 [1,0] m;simp only[↓Z,M];apply R;omega;refine aA (aN cF bC O O (by decide) (by decide) O) ?_;simp only[J];refine bA O ((g.ext m.ext).lies1 bW O) ?_;simp only[J];apply aL 7 [0] m;simp only[↓Z];refine bY m O O (ajJ _ (h.ext m.ext) (i.ext m.ext)) ?_;rintro v u m rfl;apply kZ 10 [0,2,0,1,0,4,0] m;simp only[↓Z,lW,kA,aa];intro j;apply R;omega;intro u m;refine bQ O (iE m O O (Dn Bq.up Bq.up) 3 [0,0,0] ?_);simp only[↓Z];intro u m;refine aZ O ?_ ?_<;>intro d
 .have e:=uV.1 d;apply qW 27 [1,3,2,4,1,4] m;simp only[↓Z,kA,gG,aa,M];apply R;omega;intro u m;refine kN O ⟨_,O,((m.b 4 O).full iG dC)⟩ O ?_;try simp only[zD,zE]
  exact⟨_,O,m.ext,by simp only[Oq,Oo,f,e,Y4,X0];rfl⟩
 have e:=mt uV.2 d;apply qW 24 [2,4,1,4] m;simp only[↓Z,kA,gG,M,aa];apply R;omega;intro u m;refine kN O ⟨_,O,((m.b 4 O).full iG dC)⟩ O ?_;try simp only[zD,zE]
 exact⟨_,O,m.ext,by simp only[Oq,Oo,f,e,Y4,X0];rfl⟩
def ada[I3 x][IT t]:dO X9 79 [pt x,tr t] (Q (Du x t)):=by
 intro w;refine⟨bP func79 (by kernel_rfl),?_⟩;have m:=Mem.refl w
 go_enter func79,ntmps79
 apply gJ 9 [2,0] m;simp only[↓Z,lW,fM];intro g1 g2 W u m;refine iE m O O abb 6 [0,3,0] ?_;simp only[↓Z,aa0,aaZ,fM,aa];intro Y u m;refine iE m O O apF 3 [] ?_;simp only[↓Z];intro u m;obtain⟨I,s⟩:∃b:Bool,b = !(decide (bV t.normal.x=0/\bV t.normal.y=0/\bV t.normal.z=0)):=⟨_,rfl⟩
 rw[<-s];apply aQ 21 [3,4,1,0] m;simp only[↓Z,fM];apply R;omega;refine aA (tE O O) ?_;apply kZ 4 [0] m;simp only[↓Z,gC,aW,aa];intro g5 u m;rcases I with _|_
 .have f:¬(¬t.flat/\ins x t):=no0 s;refine gc (mq m aB (by kernel_rfl) (aK aF (aK aF (dY O (dY O ?_)))));simp only[J];refine dY O (dY O (dY O ?_));refine cW 12 [0,0,0,0,0,0,0,0,0,0] ?_;simp only[↓Z];refine bD ?_;intro u m;apply aQ 18 [1,0] m;simp only[↓Z,M];apply R;omega;refine aA (qM O O) ?_;apply kZ 4 [0,0] m;simp only[↓Z,gC,aW,aa];intro T u m;refine mq m aB (by kernel_rfl) (aK aF (aK aF (dY O (dY O ?_))));simp only[J];refine dY O (dY O (dY O ?_));refine cW 12 [0,0,0,0,0,0,0,0,0,0] ?_;simp only[↓Z];refine bD ?_;intro u m;apply aQ 18 [1,0] m;simp only[↓Z,M];apply R;omega;refine aA (nW O O) ?_;apply kZ 4 [0,0] m;simp only[↓Z,gC,aW,aa];intro E u m;refine mq m aB (by kernel_rfl) (aK aF (aK aF (dY O (dY O ?_))));simp only[J];refine dY O (dY O (dY O ?_));refine cW 12 [0,0,0,0,0,0,0,0,0,0] ?_;simp only[↓Z];refine bD ?_;intro u m;apply aQ 22 [2,0] m;simp only[↓Z,M];apply R;omega;refine Dh O O O ?_;intro u p d g i;replace m:=m.newB d g i;simp only[J];refine aA lX ?_;simp only[J,ka,df,fj];refine bY m O O (Ir _ (m.b 0 O) (m.b 7 O) (m.b 6 O)) ?_;rintro v u m rfl;apply kZ 13 [0,1,6] m;simp only[↓Z,lW,kA,aa];intro q u m;refine aS O ⟨_,O,((m.b 6 O).full iG dC)⟩ ?_;try simp only[zD,zE]
  exact⟨_,O,m.ext,by first|exact wR ⟨j,k,l,o⟩▸rfl|exact wQ f▸rfl⟩
 have j:=ar7 s;refine gc (mq m aB (by kernel_rfl) (aK aF (aK aF (bU O ?_))));simp only[J];refine ql O (λu m=>((m.b 1 O).full qL kF)) ?_;simp only[J];refine bU O (ql O (λu m=>((m.b 0 O).full aM aD)) ?_);simp only[J];refine bU O (aK aF (bU O (aK (eH (m:=0) (n:=1) (r:=1) O O (by decide)) (bU O (aK (cS (m:=1) (n:=3) (r:=1) O O (by decide) (by decide)) ?_)))));refine cW 2 [0,0,4] ?_;simp only[↓Z,cD,aW,ac,C,aa];apply R;omega;refine bU O (X O O yX (bU O ?_));simp only[J];refine ql O (λu m=>((m.b 0 O).full aM aD)) ?_;simp only[J];refine bU O (ql O (λu m=>((m.b 4 O).full aM aD)) ?_);simp only[J];refine bU O (X O O yX (bU O ?_));simp only[J];refine X O O (Rn Bv.of Bv.of) (bU O ?_);simp only[J];refine X O O (wG Bv.of Bv.of) (bU O ?_);simp only[J];refine X O O (uL K.up) (bU O (aK (zY O O) (aK (dT O) (aK aI ?_))));simp only[J];refine bD ?_;intro u m;obtain⟨L,A⟩:∃b:Bool,b=decide (0<=bV (t.normal.dot ((t.b.sub t.a).cross (x.sub t.a)))):=⟨_,rfl⟩
 rw[<-A];apply aQ 18 [1,0] m;simp only[↓Z,M];apply R;omega;refine aA (qM O O) ?_;apply kZ 4 [0] m;simp only[↓Z,gC,aW,aa];intro T u m;rcases L with _|_
 .have f:¬(¬t.flat/\ins x t):=λh=>Wy A h.2.1;refine gc (mq m aB (by kernel_rfl) (aK aF (aK aF (dY O (dY O ?_)))));simp only[J];refine dY O (dY O (dY O ?_));refine cW 12 [0,0,0,0,0,0,0,0,0,0] ?_;simp only[↓Z];refine bD ?_;intro u m;apply aQ 18 [1,0] m;simp only[↓Z,M];apply R;omega;refine aA (nW O O) ?_;apply kZ 4 [0,0] m;simp only[↓Z,gC,aW,aa];intro E u m;refine mq m aB (by kernel_rfl) (aK aF (aK aF (dY O (dY O ?_))));simp only[J];refine dY O (dY O (dY O ?_));refine cW 12 [0,0,0,0,0,0,0,0,0,0] ?_;simp only[↓Z];refine bD ?_;intro u m;apply aQ 22 [2,0] m;simp only[↓Z,M];apply R;omega;refine Dh O O O ?_;intro u p d g i;replace m:=m.newB d g i;simp only[J];refine aA lX ?_;simp only[J,ka,df,fj];refine bY m O O (Ir _ (m.b 0 O) (m.b 7 O) (m.b 6 O)) ?_;rintro v u m rfl;apply kZ 13 [0,1,6] m;simp only[↓Z,lW,kA,aa];intro q u m;refine aS O ⟨_,O,((m.b 6 O).full iG dC)⟩ ?_;try simp only[zD,zE]
  exact⟨_,O,m.ext,by first|exact wR ⟨j,k,l,o⟩▸rfl|exact wQ f▸rfl⟩
 have k:=Ou A;refine gc (mq m aB (by kernel_rfl) (aK aF (aK aF (bU O ?_))));simp only[J];refine ql O (λu m=>((m.b 2 O).full qL kF)) ?_;simp only[J];refine bU O (ql O (λu m=>((m.b 0 O).full aM aD)) ?_);simp only[J];refine bU O (aK aF (bU O (aK (eH (m:=1) (n:=1) (r:=2) O O (by decide)) (bU O (aK (cS (m:=2) (n:=3) (r:=2) O O (by decide) (by decide)) ?_)))));refine cW 2 [0,0,5] ?_;simp only[↓Z,cD,aW,ac,C,aa];apply R;omega;refine bU O (X O O yX (bU O ?_));simp only[J];refine ql O (λu m=>((m.b 0 O).full aM aD)) ?_;simp only[J];refine bU O (ql O (λu m=>((m.b 5 O).full aM aD)) ?_);simp only[J];refine bU O (X O O yX (bU O ?_));simp only[J];refine X O O (Rn Bv.of Bv.of) (bU O ?_);simp only[J];refine X O O (wG Bv.of Bv.of) (bU O ?_);simp only[J];refine X O O (uL K.up) (bU O (aK (zY O O) (aK (dT O) (aK aI ?_))));simp only[J];refine bD ?_;intro u m;obtain⟨P,B⟩:∃b:Bool,b=decide (0<=bV (t.normal.dot ((t.c.sub t.b).cross (x.sub t.b)))):=⟨_,rfl⟩
 rw[<-B];apply aQ 18 [1,0] m;simp only[↓Z,M];apply R;omega;refine aA (nW O O) ?_;apply kZ 4 [0] m;simp only[↓Z,gC,aW,aa];intro E u m;rcases P with _|_
 .have f:¬(¬t.flat/\ins x t):=λh=>Wy B h.2.2.1;refine gc (mq m aB (by kernel_rfl) (aK aF (aK aF (dY O (dY O ?_)))));simp only[J];refine dY O (dY O (dY O ?_));refine cW 12 [0,0,0,0,0,0,0,0,0,0] ?_;simp only[↓Z];refine bD ?_;intro u m;apply aQ 22 [2,0] m;simp only[↓Z,M];apply R;omega;refine Dh O O O ?_;intro u p d g i;replace m:=m.newB d g i;simp only[J];refine aA lX ?_;simp only[J,ka,df,fj];refine bY m O O (Ir _ (m.b 0 O) (m.b 7 O) (m.b 6 O)) ?_;rintro v u m rfl;apply kZ 13 [0,1,6] m;simp only[↓Z,lW,kA,aa];intro q u m;refine aS O ⟨_,O,((m.b 6 O).full iG dC)⟩ ?_;try simp only[zD,zE]
  exact⟨_,O,m.ext,by first|exact wR ⟨j,k,l,o⟩▸rfl|exact wQ f▸rfl⟩
 have l:=Ou B;refine gc (mq m aB (by kernel_rfl) (aK aF (aK aF (bU O ?_))));simp only[J];refine ql O (λu m=>((m.b 3 O).full qL kF)) ?_;simp only[J];refine bU O (ql O (λu m=>((m.b 0 O).full aM aD)) ?_);simp only[J];refine bU O (aK aF (bU O (aK (eH (m:=2) (n:=1) (r:=3) O O (by decide)) (bU O (aK (cS (m:=3) (n:=3) (r:=0) O O (by decide) (by decide)) ?_)))));refine cW 2 [0,0,6] ?_;simp only[↓Z,cD,aW,ac,C,aa];apply R;omega;refine bU O (X O O yX (bU O ?_));simp only[J];refine ql O (λu m=>((m.b 0 O).full aM aD)) ?_;simp only[J];refine bU O (ql O (λu m=>((m.b 6 O).full aM aD)) ?_);simp only[J];refine bU O (X O O yX (bU O ?_));simp only[J];refine X O O (Rn Bv.of Bv.of) (bU O ?_);simp only[J];refine X O O (wG Bv.of Bv.of) (bU O ?_);simp only[J];refine X O O (uL K.up) (bU O (aK (zY O O) (aK (dT O) (aK aI ?_))));simp only[J];refine bD ?_;intro u m;obtain⟨V,D⟩:∃b:Bool,b=decide (0<=bV (t.normal.dot ((t.a.sub t.c).cross (x.sub t.c)))):=⟨_,rfl⟩
 rw[<-D];apply aQ 18 [2,0] m;simp only[↓Z,M];apply R;omega;refine iY O ?_ ?_<;>intro G
 .have o:=Ou (D.symm.trans G).symm;apply F 1 [0] m;simp only[↓Z];refine dR 7 [0,1,2,3,4,5] [⟨6,9,37,[.bool X7,.string ⟨#[]⟩]⟩] aB (by kernel_rfl) (al1 ⟨_,_,_,O,by kernel_rfl,_,iB,O⟩) (ol:=?_) ?U ?_
  case U=>simp only[zw,zQ,zR];try rfl
  intro u d;replace m:=m.ext' d;refine dA O (λu e=>(((m.ext' e).b 3 O).full qL kF)) ?_;simp only[J];refine gA (aR fR aD O O (by decide) (by decide) O) ?_;simp only[J];refine dA O (λu e=>(((m.ext' e).b 5 O).lies aM aD O O)) ?_;simp only[J,zy,ae,aa,C,ac];refine dA O (λu e=>(((m.ext' e).b 6 O).full aM aD)) ?_;simp only[J];refine cY O O yX ?_;simp only[J];refine cY O O (wG Bv.of Bv.of) (rN ?_);simp only[J];refine mf1 m ?_;intro p u m;simp only[zJ,zK,zF,zG];refine aX m 0 O O O aJ (eU O) O ?_;intro u m;simp only[zy,zx,over,zF,zG,aa] at m;refine S ?_;apply aQ 1 [0] m;simp only[↓Z];refine cC m 7 aB (by kernel_rfl) ?_;simp only[zy];refine ql O (λu m=>((m.b 0 O).full bE aJ)) ?_;simp only[J];refine ql O (λu m=>((m.b 0 O).full bE aJ)) ?_;simp only[J];refine X O O (jA K.up K.up) ?_;simp only[J];refine ql O (λu m=>((m.b 4 O).full qL kF)) ?_;simp only[J];refine ql O (λu m=>((m.b 4 O).full qL kF)) ?_;simp only[J];refine X O O (wG Bv.of Bv.of) ?_;simp only[J];refine X O O (yY K.up K.up (by have:=aaq.2 j;omega)) (bD ?_);intro u m;simp only[J];refine aX m 5 O O O dC (eU O) O ?_;intro u m;simp only[zy,zx,over,zF,zG,aa] at m;refine S ?_;apply aQ 1 [] m;simp only[↓Z];refine aS O ⟨_,O,((m.b 5 O).full iG dC)⟩ ?_;try simp only[zD,zE]
  exact⟨_,O,m.ext,by first|exact wR ⟨j,k,l,o⟩▸rfl|exact wQ f▸rfl⟩
 have f:¬(¬t.flat/\ins x t):=λh=>Wy (D.symm.trans G).symm h.2.2.2;apply F 3 [0] m;simp only[↓Z];refine Dh O O O ?_;intro u p d g i;replace m:=m.newB d g i;simp only[J];refine aA lX ?_;simp only[J,ka,df,fj];refine bY m O O (Ir _ (m.b 0 O) (m.b 7 O) (m.b 6 O)) ?_;rintro v u m rfl;apply kZ 13 [0,1,6] m;simp only[↓Z,lW,kA,aa];intro q u m;refine aS O ⟨_,O,((m.b 6 O).full iG dC)⟩ ?_;try simp only[zD,zE]
 exact⟨_,O,m.ext,by first|exact wR ⟨j,k,l,o⟩▸rfl|exact wQ f▸rfl⟩
def apV[I3 x][IT t](w:an)(a:fQ w g1 [U x.x,U x.y,U x.z] 41):cX X9 78 [tr t,.pointer (H ⟨g1,0,X8⟩)] w (λv _=>v=Q (Du x t)):=by
 refine⟨bP func78 (by kernel_rfl),?_⟩;have m:=Mem.refl w
 go_enter func78,ntmps78
 apply gJ 7 [0] m;simp only[↓Z,lW];intro g2 c u m;refine bA O ((a.ext m.ext).lies aM aD O O) ?_;simp only[J,zy,ae,aa,C,ac];apply aL 1 [2,0] m;simp only[↓Z,fM];refine iE m O O ada 3 [0] ?_;simp only[↓Z,kA,aa];intro u m;exact aS O ⟨_,O,((m.b 0 O).full iG dC)⟩ ⟨_,O,m.ext,O⟩
def ama[I3 x](w:an)(p:fQ w g1 [U x.x,U x.y,U x.z] 41)(d:cI w A vi ts)(D:vi<4611686018427387904):cX X9 77 [.slice A vi cap,.func (.func 78) #[] #[.pointer (H ⟨g1,0,X8⟩)]] w (λv _=>v=.tuple #[Q (Jb x ts),.bool (decide ((0:Int)<(vi:Int)))]):=by
 refine⟨bP func77 (by kernel_rfl),?_⟩;have m:=Mem.refl w
 go_enter func77,ntmps77
 apply gJ 8 [0] m;simp only[↓Z,lW,Ag,aa];intro g2 u m;refine iE m O O sF 11 [0,0] ?_;simp only[↓Z,lW,kA,gN,aa];intro h u m;refine bT [14] [7,8,9,15,16,17,18,19,20,21,22,23,24,25,26,27,28,29,30,31] (λn vs o=>∃(k:Nat),vs=[U (k:Int)]/\Mem w o [bI h [.bool (cQ (Jb x (ts.take k)).num),.string (dQ (Jb x (ts.take k)).num),.bool (cQ ((Jb x (ts.take k)).den:Int)),.string (dQ ((Jb x (ts.take k)).den:Int))] 49,bI g2 [.bool X7,.string ⟨#[]⟩,.bool X7,.string ⟨#[]⟩] 49]/\(k<=vi)/\(n=vi-k)) ?_ ?_
 .exact⟨_,0,O,m,bm _,O⟩
 intro n vs I j u s f;obtain⟨k,rfl,m,E,G⟩:=j;simp only[zu,zF,zG];apply F 5 [0,0] m;simp only[↓Z];refine aZ O ?_ ?_<;>intro J
 .obtain⟨t,e,_,a,rfl,r⟩:=d.get (i:=k) (by omega);apply qW 16 [0,1,0,1,0] m;simp only[↓Z,eY,uE,fM,ab,ae,aa];refine⟨_,λu m=>((r.ext m.ext).lies eD bK),λB=>⟨by omega,?_⟩⟩;intro u m;refine bY m O O (apV (t:=t) _ (p.ext m.ext)) ?_;rintro v u m rfl;apply kZ 4 [0] m;simp only[↓Z,lW,kA,aa];intro C u m;rcases et k with hk0|hk0
  .have c:Jb x (ts.take (k+1))=Du x t:=by subst hk0;exact agR e
   apply uR 20 [1,0,0,0,0,1,2,0] m;simp only[↓Z,kA,aa];apply R;omega;intro u m;exact f (vi-(k+1)) _ _ (by omega) (by kernel_rfl) ⟨k+1,O,((m.re 2 O (by rw[c];exact (m.b 2 O))).sel [X7,X7,N,N]),by omega,O⟩
  apply aQ 6 [2,0,1,0,3,0] m;simp only[↓Z,kA];apply R;omega;refine bQ O (iE m O O (Dn Bq.up (Bq.mono (akQ (λu l=>d.it u (List.mem_of_mem_take l))) (by decide))) 3 [0,0,0] ?_);simp only[↓Z];intro u m;refine aZ O ?_ ?_<;>intro g
  .have c:=(Uf (x:=x) (by omega) e).trans (Z9 (uV.1 g));apply qW 9 [1,2,0] m;simp only[↓Z,kA,aa];apply R;omega;intro u m;exact f (vi-(k+1)) _ _ (by omega) (by kernel_rfl) ⟨k+1,O,((m.re 2 O (by rw[c];exact (m.b 2 O))).sel [X7,X7,N,N]),by omega,O⟩
  have c:=(Uf (x:=x) (by omega) e).trans (K0 (mt uV.2 g));apply F 6 [0] m;simp only[↓Z];apply R;omega;exact f (vi-(k+1)) _ _ (by omega) (by kernel_rfl) ⟨k+1,O,((m.re 2 O (by rw[c];exact (m.b 2 O))).sel [X7,X7,N,N]),by omega,O⟩
 have q:k=vi:=by omega
 rw[q,show ts.take vi=ts from ap (by rw[d.len];exact bg _)] at m;apply qW 11 [1,0,1] m;simp only[↓Z,kA,gN,aa];intro u m;exact kN O ⟨_,O,((m.b 1 O).full iG dC)⟩ O ⟨_,O,m.ext,O⟩
def apW[I3 x](w:an)(c:cI w A vi ts)(a:vi<4611686018427387904):cX X9 32 [pt x,.slice A vi cap] w (λv _=>v=.tuple #[Q (Jb x ts),.bool (decide ((0:Int)<(vi:Int)))]):=by
 refine⟨bP func32 (by kernel_rfl),?_⟩;have m:=Mem.refl w
 go_enter func32,ntmps32
 apply gJ 9 [0] m;simp only[↓Z,lW];intro g1 g2 u m;refine aA lX ?_;simp only[J,ka,df,fj];refine bY m O O (ama _ (m.b 1 O) (c.ext m.ext) a) ?_;rintro v u m rfl;apply kZ 6 [0] m;simp only[↓Z,kA,aa];intro u m;exact kN O ⟨_,O,((m.b 0 O).full iG dC)⟩ O ⟨_,O,m.ext,O⟩
def ajK(w:an)(c:cI w A vi ts)(D:vi<4611686018427387904):cX X9 11 [.slice A vi cap] w (λv _=>v=.tuple #[W (fA vX ts),W (fA tU ts)]):=by
 refine⟨bP func11 (by kernel_rfl),?_⟩;have m:=Mem.refl w
 go_enter func11,ntmps11
 apply gJ 13 [0] m;simp only[↓Z,eX,gN];intro g1 g2 u m;refine bT [12] [5,6,7,8,9,13,14,15,16,17,18,19,20,21,22,23,24,25,26,27,28,29,30,31,32,33,34,35,36,37,38,39,40] (λn vs q=>∃(k:Nat),vs=[U (k:Int)]/\Mem w q [bI g2 [.bool (cQ (fA tU (ts.take k))),.string (dQ (fA tU (ts.take k)))] 37,bI g1 [.bool (cQ (fA vX (ts.take k))),.string (dQ (fA vX (ts.take k)))] 37]/\(k<=vi)/\(n=vi-k)) ?_ ?_
 .exact⟨_,0,O,m,bm _,O⟩
 intro n vs I p u x l;obtain⟨k,rfl,m,E,G⟩:=p;simp only[zu,zF,zG];apply F 5 [0,0] m;simp only[↓Z];refine aZ O ?_ ?_<;>intro L
 .obtain⟨t,d,_,a,rfl,s⟩:=c.get (i:=k) (by omega);haveI:K 364 (fA vX (ts.take k)):=⟨rT (m:=300) (λu j=>by haveI:=c.it u j;exact Wz) (by rw[c.len];omega)⟩
  haveI:K 365 (fA tU (ts.take k)):=⟨rT (m:=301) (λu j=>by haveI:=c.it u j;exact agS) (by rw[c.len];omega)⟩
  apply qW 13 [0,1,0,1,0] m;simp only[↓Z,eY,uE,fM,ab,ae,aa];refine⟨_,λu m=>((s.ext m.ext).lies eD bK),λy=>⟨by omega,?_⟩⟩;intro u m;refine iE m O O (abb (t:=t)) 7 [0,1,1,0] ?_;simp only[↓Z,aa0,aaZ,aa];intro z u m;refine iE m O O (wG Bv.of Bv.of) 6 [0,1,0] ?_;simp only[↓Z,eX,cB,aa];intro B u m;refine iE m O O (apC K.up (ab6 _)) 7 [0] ?_;simp only[↓Z,eX,cB,aa];intro C u m;rw[show ((eS (t.normal.dot t.normal).natAbs:Nat):Int)=vX t from rfl] at m ⊢;apply aQ 1 [0] m;simp only[↓Z];refine cC m 6 aB (by kernel_rfl) ?_;simp only[zy];refine ql O (λu m=>((m.b 5 O).full bE aJ)) ?_;simp only[J];refine ql O (λu m=>((m.b 0 O).full bE aJ)) ?_;simp only[J];refine X O O (nJ K.up K.up) ?_;simp only[J];refine ql O (λu m=>((m.b 4 O).full bE aJ)) ?_;simp only[J];refine ql O (λu m=>((m.b 0 O).full bE aJ)) ?_;simp only[J];refine X O O (nJ K.up K.up) (bD ?_);intro u m;simp only[J];refine aX m 5 O O O aJ (eU O) O ?_;intro u m;simp only[zy,zx,over,zF,zG,aa] at m;refine aX m 4 O O O aJ (eU O) O ?_;intro u m;simp only[zy,zx,over,zF,zG,aa] at m;refine S ?_;apply aQ 1 [0] m;simp only[↓Z];refine mq m aB (by kernel_rfl) (ql O (λu m=>((m.b 0 O).full bE aJ)) ?_);simp only[J];refine ql O (λu m=>((m.b 0 O).full bE aJ)) ?_;simp only[J];refine X O O (jA K.up K.up) ?_;simp only[J];refine ql O (λu m=>((m.b 1 O).full bE aJ)) ?_;simp only[J];refine aK (afb O O) (bD ?_);intro u m;refine gc ?_;simp only[J];refine aZ O ?_ ?_<;>intro o
  .have g:=(mO (f:=tU) d).trans (agV λe=>o (aas.2 e));refine cC m 3 aB (by kernel_rfl) ?_;simp only[zy];refine ql O (λu m=>((m.b 4 O).full bE aJ)) ?_;simp only[J];refine X O O (iM Iw.h) ?_;simp only[J];refine X O O (nJ K.up K.up) (bD ?_);intro u m;simp only[J];refine aX m 4 O O O aJ (eU O) O ?_;intro u m;simp only[zy,zx,over,zF,zG,aa] at m;refine S ?_;apply aQ 5 [0] m;simp only[↓Z];apply R;omega;exact l (vi-(k+1)) _ _ (by omega) (by kernel_rfl) ⟨k+1,O,(((m.re 5 O (by rw[mO d];exact (m.b 5 O))).re 4 O (by rw[g];exact (m.b 4 O))).sel [X7,X7,X7,X7,N,N]),by omega,O⟩
  have g:=(mO (f:=tU) d).trans (agW (aas.1 (Decidable.of_not_not o)));apply F 6 [0] m;simp only[↓Z];apply R;omega;exact l (vi-(k+1)) _ _ (by omega) (by kernel_rfl) ⟨k+1,O,(((m.re 5 O (by rw[mO d];exact (m.b 5 O))).re 4 O (by rw[g];exact (m.b 4 O))).sel [X7,X7,X7,X7,N,N]),by omega,O⟩
 have r:k=vi:=by omega
 rw[r,show ts.take vi=ts from ap (by rw[c.len];exact bg _)] at m;apply F 2 [0] m;simp only[↓Z];refine zvt [X7,X7] [[2],[1],[1],[0]] (.two 0 (.two 1 (.one 2 (.one 3 .nil)) 2 (.one 1 (.one 3 .nil))) 1 (.one 0 (.one 2 (.one 3 .nil)))) m aB (by kernel_rfl) (bR (λ_ _ _ _ _ h=>h)) ?_;simp only[↓Z,↓zzu,cB,aa];intro u m;apply aQ 1 [] m;simp only[↓Z];exact kN O ⟨_,O,((m.b 1 O).full bE aJ)⟩ ⟨_,O,((m.b 0 O).full bE aJ)⟩ ⟨_,O,m.ext,O⟩
def Dr{x z:Int}[Iw x][Iw y][Iw z]:dO X9 64 [U x,U y,U z] (W (x*(y*z))):=by
 intro w;refine⟨bP func64 (by kernel_rfl),?_⟩;have m:=Mem.refl w
 go_enter func64,ntmps64
 apply gJ 7 [0] m;simp only[↓Z,eX];intro g1 u m;refine iE m O O (iM Iw.h) 1 [0] ?_;simp only[↓Z];intro u m;refine iE m O O (iM Iw.h) 1 [0] ?_;simp only[↓Z];intro u m;refine eV m O O (iM Iw.h) ?_;intro u m;simp only[J];refine eV m O O (jA K.up K.up) ?_;intro u m;simp only[J];refine iE m O O (jA K.up K.up) 3 [0] ?_;simp only[↓Z,cB,aa];intro u m;exact aS O ⟨_,O,((m.b 0 O).full bE aJ)⟩ ⟨_,O,m.ext,O⟩
def La(w:an)(f:cI w A vi ts)(L:vi<4611686018427387904):cX X9 26 [.slice A vi cap] w (λv _=>v=W (fA qR ts)):=by
 refine⟨bP func26 (by kernel_rfl),?_⟩;have m:=Mem.refl w
 go_enter func26,ntmps26
 apply gJ 20 [0] m;simp only[↓Z,eX,gN];intro g1 g2 u m;refine bT [16] [6,7,8,9,11,13,17,18,19,20,21,22,23,24,25,26,27,28,29,30,31,32,33,34,35,36,37,38,39,40,41,42,43,44,45,46,47,48,49,50,51,52,53,54,55,56,57,58,59,60,61,62,63,64,65,66,67,68,69,70,71,72,73,74,75,76,77,78,79,80,81,82,83,84,85,86,87,88,89,90,91,92,93,94] (λn vs s=>∃(k:Nat),vs=[U (k:Int)]/\Mem w s [bI g2 [.bool (cQ (fA qR (ts.take k))),.string (dQ (fA qR (ts.take k)))] 37,bI g1 [.bool X7,.string ⟨#[]⟩] 37]/\(k<=vi)/\(n=vi-k)) ?_ ?_
 .exact⟨_,0,O,m,bm _,O⟩
 intro n vs T p u B x;obtain⟨k,rfl,m,P,Q⟩:=p;simp only[zu,zF,zG];apply F 5 [0,0] m;simp only[↓Z];refine aZ O ?_ ?_<;>intro ah
 .obtain⟨t,q,_,a,rfl,z⟩:=f.get (i:=k) (by omega);haveI:K 264 (fA qR (ts.take k)):=⟨rT (m:=200) (λu r=>by haveI:=f.it u r;exact tV) (by rw[f.len];omega)⟩
  apply qW 9 [0,1,0] m;simp only[↓Z,eY,uE,fM,ab,ae,aa];refine⟨_,λu m=>((z.ext m.ext).lies eD bK),λD=>⟨by omega,?_⟩⟩;intro u m;apply aQ 2 [0] m;simp only[↓Z];apply aqA m (T1:=41) (T2:=41) (T3:=41)
  .refine Oz m [N,N,N] (.take 0 (.take 1 (.take 2 (.take 3 (.take 4 (.take 5 (.three 6 (.two 7 (.one 8 (.one 9 (.one 10 (.one 11 .nil)))) 8 (.one 7 (.one 9 (.one 10 (.one 11 .nil))))) 7 (.two 6 (.one 8 (.one 9 (.one 10 (.one 11 .nil)))) 8 (.one 6 (.one 9 (.one 10 (.one 11 .nil))))) 8 (.two 6 (.one 7 (.one 9 (.one 10 (.one 11 .nil)))) 7 (.one 6 (.one 9 (.one 10 (.one 11 .nil)))))))))))) aB (by kernel_rfl) (λ_ _ _ _ _ h=>by cases h.1) ?_;intro u m;refine dG (by simp only[zw];rfl) (aV (aR fR aD rfl rfl (by decide) (by decide) rfl) (aT (dG (by simp only[zw];rfl) ?_)));simp only[J];refine eK O (λu m=>((m.b 0 O).lies aM aD O O)) ?_;simp only[J,zy,ae,aa,C,ac];refine aT (dG (by simp only[zw];rfl) (aV (aR fR aD rfl rfl (by decide) (by decide) rfl) (aT (dG (by simp only[zw];rfl) ?_))));simp only[J];refine eK O (λu m=>((m.b 0 O).lies aM aD O O)) ?_;simp only[J,zy,ae,aa,C,ac];refine aT (dG (by simp only[zw];rfl) (aV (aR fR aD rfl rfl (by decide) (by decide) rfl) (aT (dG (by simp only[zw];rfl) ?_))));simp only[J];refine eK O (λu m=>((m.b 0 O).lies aM aD O O)) ?_;simp only[J,zy,ae,aa,C,ac];refine aT ?_;refine akz (by simp only[zw];rfl) (by simp only[zw];rfl) (by simp only[zw];rfl) ?_ ?_ ?_
   .refine fV m iC O ?_;intro e u m;refine S ⟨m.sel [X7,N,N,N],?_⟩;simp only[J];refine Gi (by simp only[zw];rfl) (by simp only[zw];rfl) ?_ ?_
    .refine fV m iC O ?_;intro c u m;refine S ⟨m.sel [X7,X7,N,N,N],?_⟩;refine fL (by simp only[zw];rfl) ?_;simp only[J];refine fV m iC O ?_;intro d u m;refine S ⟨m.sel [X7,X7,X7,N,N,N],?_⟩;refine fL (by simp only[zw];rfl) ?_;simp only[J];refine aX m 2 O O O aD (eU O) O ?_;intro u m;simp only[zy,zx,over,zF,zG,aa] at m;refine S ⟨m.sel [X7,X7,X7,N,N,N],?_⟩;refine fL (by simp only[zw];rfl) ?_;refine aX m 1 O O O aD (eU O) O ?_;intro u m;simp only[zy,zx,over,zF,zG,aa] at m;refine S ⟨m.sel [X7,X7,X7,N,N,N],?_⟩;refine fL (by simp only[zw];rfl) ?_;refine aX m 0 O O O aD (eU O) O ?_;intro u m;simp only[zy,zx,over,zF,zG,aa] at m;refine S ⟨m.sel [X7,X7,X7,N,N,N],?_⟩;exact qU ⟨O,e,c,d,O,m⟩
    refine fV m iC O ?_;intro c u m;refine S ⟨m.sel [X7,X7,N,N,N],?_⟩;refine fL (by simp only[zw];rfl) ?_;simp only[J];refine fV m iC O ?_;intro d u m;refine S ⟨m.sel [X7,X7,X7,N,N,N],?_⟩;refine fL (by simp only[zw];rfl) ?_;simp only[J];refine aX m 2 O O O aD (eU O) O ?_;intro u m;simp only[zy,zx,over,zF,zG,aa] at m;refine S ⟨m.sel [X7,X7,X7,N,N,N],?_⟩;refine fL (by simp only[zw];rfl) ?_;refine aX m 0 O O O aD (eU O) O ?_;intro u m;simp only[zy,zx,over,zF,zG,aa] at m;refine S ⟨m.sel [X7,X7,X7,N,N,N],?_⟩;refine fL (by simp only[zw];rfl) ?_;refine aX m 1 O O O aD (eU O) O ?_;intro u m;simp only[zy,zx,over,zF,zG,aa] at m;refine S ⟨m.sel [X7,X7,X7,N,N,N],?_⟩;exact qU ⟨O,e,d,c,O,m.s01⟩
   .refine fV m iC O ?_;intro e u m;refine S ⟨m.sel [X7,N,N,N],?_⟩;simp only[J];refine Gi (by simp only[zw];rfl) (by simp only[zw];rfl) ?_ ?_
    .refine fV m iC O ?_;intro c u m;refine S ⟨m.sel [X7,X7,N,N,N],?_⟩;refine fL (by simp only[zw];rfl) ?_;simp only[J];refine fV m iC O ?_;intro d u m;refine S ⟨m.sel [X7,X7,X7,N,N,N],?_⟩;refine fL (by simp only[zw];rfl) ?_;simp only[J];refine aX m 1 O O O aD (eU O) O ?_;intro u m;simp only[zy,zx,over,zF,zG,aa] at m;refine S ⟨m.sel [X7,X7,X7,N,N,N],?_⟩;refine fL (by simp only[zw];rfl) ?_;refine aX m 2 O O O aD (eU O) O ?_;intro u m;simp only[zy,zx,over,zF,zG,aa] at m;refine S ⟨m.sel [X7,X7,X7,N,N,N],?_⟩;refine fL (by simp only[zw];rfl) ?_;refine aX m 0 O O O aD (eU O) O ?_;intro u m;simp only[zy,zx,over,zF,zG,aa] at m;refine S ⟨m.sel [X7,X7,X7,N,N,N],?_⟩;exact qU ⟨O,c,e,d,O,m.s12⟩
    refine fV m iC O ?_;intro c u m;refine S ⟨m.sel [X7,X7,N,N,N],?_⟩;refine fL (by simp only[zw];rfl) ?_;simp only[J];refine fV m iC O ?_;intro d u m;refine S ⟨m.sel [X7,X7,X7,N,N,N],?_⟩;refine fL (by simp only[zw];rfl) ?_;simp only[J];refine aX m 0 O O O aD (eU O) O ?_;intro u m;simp only[zy,zx,over,zF,zG,aa] at m;refine S ⟨m.sel [X7,X7,X7,N,N,N],?_⟩;refine fL (by simp only[zw];rfl) ?_;refine aX m 2 O O O aD (eU O) O ?_;intro u m;simp only[zy,zx,over,zF,zG,aa] at m;refine S ⟨m.sel [X7,X7,X7,N,N,N],?_⟩;refine fL (by simp only[zw];rfl) ?_;refine aX m 1 O O O aD (eU O) O ?_;intro u m;simp only[zy,zx,over,zF,zG,aa] at m;refine S ⟨m.sel [X7,X7,X7,N,N,N],?_⟩;exact qU ⟨O,d,e,c,O,m.s01.s12⟩
   refine fV m iC O ?_;intro e u m;refine S ⟨m.sel [X7,N,N,N],?_⟩;simp only[J];refine Gi (by simp only[zw];rfl) (by simp only[zw];rfl) ?_ ?_
   .refine fV m iC O ?_;intro c u m;refine S ⟨m.sel [X7,X7,N,N,N],?_⟩;refine fL (by simp only[zw];rfl) ?_;simp only[J];refine fV m iC O ?_;intro d u m;refine S ⟨m.sel [X7,X7,X7,N,N,N],?_⟩;refine fL (by simp only[zw];rfl) ?_;simp only[J];refine aX m 1 O O O aD (eU O) O ?_;intro u m;simp only[zy,zx,over,zF,zG,aa] at m;refine S ⟨m.sel [X7,X7,X7,N,N,N],?_⟩;refine fL (by simp only[zw];rfl) ?_;refine aX m 0 O O O aD (eU O) O ?_;intro u m;simp only[zy,zx,over,zF,zG,aa] at m;refine S ⟨m.sel [X7,X7,X7,N,N,N],?_⟩;refine fL (by simp only[zw];rfl) ?_;refine aX m 2 O O O aD (eU O) O ?_;intro u m;simp only[zy,zx,over,zF,zG,aa] at m;refine S ⟨m.sel [X7,X7,X7,N,N,N],?_⟩;exact qU ⟨O,c,d,e,O,m.s12.s01⟩
   refine fV m iC O ?_;intro c u m;refine S ⟨m.sel [X7,X7,N,N,N],?_⟩;refine fL (by simp only[zw];rfl) ?_;simp only[J];refine fV m iC O ?_;intro d u m;refine S ⟨m.sel [X7,X7,X7,N,N,N],?_⟩;refine fL (by simp only[zw];rfl) ?_;simp only[J];refine aX m 0 O O O aD (eU O) O ?_;intro u m;simp only[zy,zx,over,zF,zG,aa] at m;refine S ⟨m.sel [X7,X7,X7,N,N,N],?_⟩;refine fL (by simp only[zw];rfl) ?_;refine aX m 1 O O O aD (eU O) O ?_;intro u m;simp only[zy,zx,over,zF,zG,aa] at m;refine S ⟨m.sel [X7,X7,X7,N,N,N],?_⟩;refine fL (by simp only[zw];rfl) ?_;refine aX m 2 O O O aD (eU O) O ?_;intro u m;simp only[zy,zx,over,zF,zG,aa] at m;refine S ⟨m.sel [X7,X7,X7,N,N,N],?_⟩;exact qU ⟨O,d,c,e,O,m.s01.s12.s01⟩
  intro e c d u m;try dsimp only
  apply aQ 2 [0] m;simp only[↓Z];refine mh m [N,N,N,N,N,N] [(0,N),(1,N),(3,N),(5,N),(8,N),(9,N),(11,N),(13,N),(16,N),(17,N),(19,N),(21,N),(26,N),(2,N),(4,N),(6,N),(10,N),(12,N),(14,N),(18,N),(20,N),(22,N),(7,X7),(15,X7),(23,X7),(24,X7),(25,N)] aB (by kernel_rfl) (bR (λ_ _ _ _ _ h=>h)) (ol:=?_) ?o ?_
  case o=>simp only[zw,zQ,zR];try rfl
  intro u m;refine tL 14 [3] ?_;simp only[↓Z,iR,iJ,iS,dN,aa];refine tL 8 [2,1,3,2,1,3,2,1] ?_;simp only[↓Z,dN];refine bX (eV m O O Dr ?_);intro u m;refine S ⟨m,?_⟩;refine bX ?_;simp only[J];refine eV m O O Dr ?_;intro u m;refine S ⟨m,?_⟩;refine bX ?_;simp only[J];refine eV m O O Dr ?_;intro u m;refine S ⟨m,?_⟩;refine bX ?_;simp only[J];refine Pp O O O ?_;intro u E g j l;replace m:=m.newB g j l;refine S ⟨m.sel [X7,N,N,N,N,N,N],?_⟩;refine aV (iL O underlying128 O) (aT ?_);apply uR 20 [4,1,1,0] m;simp only[↓Z,Kc,cB,eX,ac,C,aa];intro G;apply R;omega;intro u m;apply aQ 2 [7,1,0] m;simp only[↓Z,cB];refine iE m O O (nJ K.up K.up) 22 [6,1,2] ?_;simp only[↓Z,cB,Kc,eX,aa,M,ac,C];intro I;apply R;omega;intro u m;apply uR 5 [0,8,1,0] m;simp only[↓Z,cB,aa];intro u m;refine iE m O O (nJ K.up K.up) 22 [7,1,3] ?_;simp only[↓Z,cB,Kc,eX,aa,M,ac,C];intro V;apply R;omega;intro u m;apply uR 5 [0,9,1,0] m;simp only[↓Z,cB,aa];intro u m;refine iE m O O (nJ K.up K.up) 16 [8,2,0] ?_;simp only[↓Z,cB,aa,M];apply R;omega;intro u m;refine mh m [N,N,N,N,N,N,N,N,N,N] [(0,N),(1,N),(3,N),(5,N),(8,N),(9,N),(11,N),(13,N),(16,N),(17,N),(19,N),(21,N),(26,N),(2,N),(4,N),(6,N),(10,N),(12,N),(14,N),(18,N),(20,N),(22,N),(7,X7),(15,X7),(23,X7),(24,X7),(25,N)] aB (by kernel_rfl) (bR (λ_ _ _ _ _ h=>h)) (ol:=?_) ?o ?_
  case o=>simp only[zw,zQ,zR];try rfl
  intro u m;refine tL 14 [7] ?_;simp only[↓Z,iR,iS,iJ,dN,aa];refine tL 8 [6,5,7,6,5,7,6,5] ?_;simp only[↓Z,dN];refine bX (eV m O O Dr ?_);intro u m;refine S ⟨m,?_⟩;refine bX ?_;simp only[J];refine eV m O O Dr ?_;intro u m;refine S ⟨m,?_⟩;refine bX ?_;simp only[J];refine eV m O O Dr ?_;intro u m;refine S ⟨m,?_⟩;refine bX ?_;simp only[J];refine Pp O O O ?_;intro u X g j l;replace m:=m.newB g j l;refine S ⟨m.sel [X7,N,N,N,N,N,N,N,N,N,N],?_⟩;refine aV (iL O underlying128 O) (aT ?_);apply uR 20 [4,1,1,0] m;simp only[↓Z,Kc,cB,eX,ac,C,aa];intro Y;apply R;omega;intro u m;apply aQ 2 [11,1,0] m;simp only[↓Z,cB];refine iE m O O (sD K.up K.up) 22 [10,1,2] ?_;simp only[↓Z,cB,Kc,eX,aa,M,ac,C];intro ad;apply R;omega;intro u m;apply uR 5 [0,12,1,0] m;simp only[↓Z,cB,aa];intro u m;refine iE m O O (sD K.up K.up) 22 [11,1,3] ?_;simp only[↓Z,cB,Kc,eX,aa,M,ac,C];intro af;apply R;omega;intro u m;apply uR 5 [0,13,1,0] m;simp only[↓Z,cB,aa];intro u m;refine iE m O O (sD K.up K.up) 20 [12,2,0] ?_;simp only[↓Z,cB,aa,M];apply R;omega;intro u m;exact x (vi-(k+1)) _ _ (by omega) (by kernel_rfl) ⟨k+1,O,((m.re 12 O (by rw[mO q,<-agU];exact (m.b 12 O))).sel [X7,X7,X7,X7,X7,X7,X7,X7,X7,X7,X7,X7,N,N]),by omega,O⟩
 have y:k=vi:=by omega
 rw[y,show ts.take vi=ts from ap (by rw[f.len];exact bg _)] at m;apply qW 7 [1,1] m;simp only[↓Z,cB,aa];intro u m;exact aS O ⟨_,O,((m.b 1 O).full bE aJ)⟩ ⟨_,O,m.ext,O⟩
def adb{gb:Nat}{I:Option Addr}{b cl:Nat}{l:List Int}(w:an)(j:GrAt w A B G)(Y:G.cs.length=nc)(ad:G.gs.length=ng)(y:fQ w gb [.slice A nc cc,.slice B ng cg] 31)(g:kO nB 1 w I b l)(q:∀z∈l,0<=z/\z<nc)(af:b<=1000000000)(Q:(kK G.cs l).length<=100000000):cX X9 67 [.pointer (H ⟨gb,0,X8⟩),.slice I b cl] w (SL 43 9 ((kK G.cs l).flatMap aP) (kK G.cs l).length w):=by
 refine⟨bP func67 (by kernel_rfl),?_⟩;have m:=Mem.refl w
 go_enter func67,ntmps67
 apply iD 6 [0] m;simp only[↓Z];refine aA aI ?_;replace m:=m.nilO 43 9;apply aL 9 [0] m;simp only[↓Z,gG];refine bT [5,10] [7,11,12,13,14,15,16,17,18,19,20,21,22,23,24] (λn vs s=>∃(k:Nat)(d:Option Addr)(f:Nat),vs=[.slice d (kK G.cs (l.take k)).length f,U (k:Int)]/\Mem w s [oI 43 9 d (kK G.cs (l.take k)).length f ((kK G.cs (l.take k)).flatMap aP)]/\(k<=b)/\(n=b-k)) ?_ ?_
 .exact⟨_,0,_,_,O,m,by omega,O⟩
 intro n vs V p u M t
 obtain⟨k,d,f,rfl,m,S,T⟩:=p;simp only[zu,zF,zG];apply F 5 [0,0] m;simp only[↓Z];refine aZ O ?_ ?_<;>intro W
 .obtain⟨z,h,P,rfl,L⟩:=g.get (i:=k) (by omega);obtain⟨D,ag⟩:=q z (ak h);obtain⟨c,rfl⟩:=ee D;obtain⟨x,a,E,cx,r,rfl,K,C,X⟩:=j.cl (k:=c) (by omega);have e:=ajt h r;have v:=aju (cs:=G.cs) (l:=l) (k+1);rw[e,a_] at v;apply F 14 [0,2,0] m;simp only[↓Z,lV,gH,ab,ae,bi,aa];refine⟨_,λu m=>(lies1 (nY (L.ext m.ext)) bW),by omega,?_⟩;refine bA O ((y.ext m.ext).lies1 vY O) ?_;simp only[J];apply aL 3 [0] m;simp only[↓Z,sB,vI,ab,ae,aa];apply R;omega;refine bA O (lies1 ((K.ext m.ext) 0 _ O) qJ) ?_;simp only[J];refine bJ m 0 O O gB mS O (by decide) O O (tA _) (cI.cells (C.ext m.ext)) (qF _) (by omega) (by omega) ?_;intro d ah u m;simp only[zF,zG] at m;apply aL 7 [0] m;simp only[↓Z];apply R;omega;rw[<-au,<-e,<-a_,<-e] at m;rw[<-a_,<-e];exact t (b-(k+1)) _ _ (by omega) (by kernel_rfl) ⟨k+1,_,_,O,m,by omega,O⟩
 obtain rfl:k=b:=by omega
 rw[ap (by rw[g.len];omega)] at m ⊢;apply F 7 [] m;simp only[↓Z];exact aS O O ⟨_,O,m.ext,_,_,_,O,O,(m.o 0 O)⟩
def amb{nd:Nat}(w:an)(hG:GrAt w A B G)(am:G.cs.length=nc)(ao:G.gs.length=ng)(aw:nc<=40000)(ax:ng<=200001)(al:∀(g:Gp),g∈G.gs->g.ins.length<=1000000000000/\g.outs.length<=1000000000000)(p:kO uI 1 w D nd cu)(Y:Mf G cu):cX X9 68 [.agg #[.slice A nc cc,.slice B ng cg],.slice D nd cd] w (SL 3 1 ((gI cu G.cs 0).flatMap nB) (gI cu G.cs 0).length w):=by
 refine⟨bP func68 (by kernel_rfl),?_⟩;have m:=Mem.refl w;have aM:=Y.2.2.1;have aB:=p.len
 go_enter func68,ntmps68
 apply gJ 10 [1,0] m;simp only[↓Z,jI];intro g1 u m;refine bY m O O (aes _ (hG.ext m.ext) am ao (by omega) (by omega) al (p.ext m.ext)) ?_;rintro v u m ⟨b1,rfl,ar⟩;simp only[J];obtain rfl:b1=N:=ar.2 Y;apply aL 6 [0] m;simp only[↓Z,Bool.not_true,ik];refine aA aI ?_;replace m:=m.nilO 3 1;apply aL 10 [2,0] m;simp only[↓Z,gH,lP,El,aa];refine bT [5,15] [6,7,16,17,18,19,20,21,22,23,24,25,26,27,28,29,30,31,32,33,34,35,36,37,38,39,40,41,42,43,44,45,46,47] (λn vs wl=>∃(k:Nat)(i:Option Addr)(W:Nat),vs=[.slice i (gI cu (G.cs.take k) 0).length W,U (k:Int)]/\Mem w wl [oI 3 1 i (gI cu (G.cs.take k) 0).length W ((gI cu (G.cs.take k) 0).flatMap nB),bI g1 [.slice A nc cc,.slice B ng cg] 31]/\(k<=nc)/\(n=nc-k)) ?_ ?_
 .exact⟨_,0,_,_,O,m,by omega,O⟩
 intro n vs wr hI u K1 t
 obtain⟨k,i,W,rfl,m,hk,hn⟩:=hI;simp only[zu,zF,zG];apply F 5 [0,0] m;simp only[↓Z];refine aZ O ?_ ?_<;>intro ay
 .obtain⟨x,a,E,cx,hx,rfl,av,aG,az⟩:=hG.cl (k:=k) (by omega);obtain⟨⟨aD,aE⟩,aJ,aK⟩:=Y.1.1 x (ak hx);have d:=aay (c:=cu) hx;have aq:=xY (c:=cu) (cs:=G.cs.take k) (k:=0);rw[bf] at aq;apply F 7 [0] m;simp only[↓Z,sB,ab,ae];apply R;omega;refine bA O ((av.ext m.ext).lies Jm mH) ?_;simp only[J];apply kZ 5 [0] m;simp only[↓Z,ad0,aaX,aa];intro g2 u m;rcases arA (x:=x) (cu:=cu) (by omega) with ⟨C,Q⟩|⟨C,Q⟩|⟨C,e,Q⟩|⟨C,e,Q⟩|⟨C,e⟩
  .apply aQ 29 [1,1,0,0,0,0,0,0,0,1,0,1,0,0,0,0,0,0,0,0,0] m;simp only[↓Z,kT,dN,nX,aa];apply R;omega;refine cO cF (z:=U 0) (by kernel_rfl) O O O ?_;intro u X l r s;replace m:=m.newB l r s;simp only[J];refine bJ m 2 O O cF gM O (by decide) O O O (m.b 0 O).rowsO (fU O) (by omega) (by omega) ?_;intro i ad u m;simp only[zF,zG] at m;apply aL 7 [0] m;simp only[↓Z];apply R;omega;rw[show pG cu x=N by simp[pG,C,Q],Z9 rfl] at d;rw[show (gI cu (G.cs.take k) 0).length+1=(gI cu (G.cs.take (k+1)) 0).length by rw[d,a_];rfl] at m ⊢;exact t (nc-(k+1)) _ _ (by omega) (by kernel_rfl) ⟨k+1,_,_,O,((m.reO 2 O ((m.o 2 O).as (by rw[d,au];rfl))).sel [X7,X7,N,N]),by omega,rfl⟩
  .obtain⟨K,P⟩:∃q:Nat,x.used=(q:Int):=⟨x.used.toNat,by omega⟩
   obtain⟨j,L⟩:∃y,cu[K]? = H y:=⟨_,ah (by omega)⟩
   have T:cu[x.used.toNat]? = H j:=by rw[P,ab];exact L
   obtain⟨aj,af,ag⟩:=p.row K _ L;subst af;rw[P] at m;apply aQ 25 [1,1,0,0,0,0,0,0,0,1,0,2,0,0,0,0,1,0,0,0,3,0,0,0] m;simp only[↓Z,kT,dN,nX,wZ,aa,ab,ae,bi];refine⟨_,λu m=>(lies1 (nY (ag.ext m.ext)) eW),by omega,?_⟩;refine dH O ?_ ?_<;>intro M
   .apply F 3 [0] m;simp only[↓Z];refine cO cF (z:=U 0) (by kernel_rfl) O O O ?_;intro u X l r s;replace m:=m.newB l r s;simp only[J];refine bJ m 2 O O cF gM O (by decide) O O O (m.b 0 O).rowsO (fU O) (by omega) (by omega) ?_;intro i ad u m;simp only[zF,zG] at m;apply aL 7 [0] m;simp only[↓Z];apply R;omega;rw[show pG cu x=N by revert M;cases j<;>simp[pG,C,show ¬x.used<0 by omega,T],Z9 rfl] at d;rw[show (gI cu (G.cs.take k) 0).length+1=(gI cu (G.cs.take (k+1)) 0).length by rw[d,a_];rfl] at m ⊢;exact t (nc-(k+1)) _ _ (by omega) (by kernel_rfl) ⟨k+1,_,_,O,((m.reO 2 O ((m.o 2 O).as (by rw[d,au];rfl))).sel [X7,X7,N,N]),by omega,rfl⟩
   apply F 6 [0] m;simp only[↓Z];apply R;omega;rw[show pG cu x=X7 by revert M;cases j<;>simp[pG,C,show ¬x.used<0 by omega,T],K0 (by decide),fw] at d;rw[<-d] at m ⊢;exact t (nc-(k+1)) _ _ (by omega) (by kernel_rfl) ⟨k+1,_,_,O,(m.sel [X7,N,N]),by omega,O⟩
  .obtain⟨I,h⟩:∃q:Nat,x.made=(q:Int):=⟨x.made.toNat,by omega⟩
   have f:=e;rw[h,ab] at f;obtain⟨ai,S,V⟩:=p.row I _ f;subst S;rw[h] at m;apply aQ 29 [1,2,0,0,0,1,0,0,0,3,0,0,1,0,1,0,0,0,0,0,0,0,0,0] m;simp only[↓Z,kT,dN,wZ,nX,aa,ab,ae,bi];refine⟨_,λu m=>(lies1 (nY (V.ext m.ext)) eW),by omega,?_⟩;refine cO cF (z:=U 0) (by kernel_rfl) O O O ?_;intro u X l r s;replace m:=m.newB l r s;simp only[J];refine bJ m 2 O O cF gM O (by decide) O O O (m.b 0 O).rowsO (fU O) (by omega) (by omega) ?_;intro i ad u m;simp only[zF,zG] at m;apply aL 7 [0] m;simp only[↓Z];apply R;omega;rw[show pG cu x=N by simp[pG,e,Q],Z9 rfl] at d;rw[show (gI cu (G.cs.take k) 0).length+1=(gI cu (G.cs.take (k+1)) 0).length by rw[d,a_];rfl] at m ⊢;exact t (nc-(k+1)) _ _ (by omega) (by kernel_rfl) ⟨k+1,_,_,O,((m.reO 2 O ((m.o 2 O).as (by rw[d,au];rfl))).sel [X7,X7,N,N]),by omega,rfl⟩
  .obtain⟨I,h⟩:∃q:Nat,x.made=(q:Int):=⟨x.made.toNat,by omega⟩
   have f:=e;rw[h,ab] at f;obtain⟨ai,S,V⟩:=p.row I _ f;subst S;rw[h] at m;obtain⟨K,P⟩:∃q:Nat,x.used=(q:Int):=⟨x.used.toNat,by omega⟩
   obtain⟨j,L⟩:∃y,cu[K]? = H y:=⟨_,ah (by omega)⟩
   have T:cu[x.used.toNat]? = H j:=by rw[P,ab];exact L
   obtain⟨aj,af,ag⟩:=p.row K _ L;cases af;rw[P] at m;apply aQ 25 [1,2,0,0,0,1,0,0,0,3,0,0,1,0,2,0,0,0,0,1,0,0,0,3,0,0,0] m;simp only[↓Z,kT,dN,wZ,nX,aa,ab,ae,bi];refine⟨_,λu m=>(lies1 (nY (V.ext m.ext)) eW),_,λu m=>(lies1 (nY (ag.ext m.ext)) eW),by omega,?_⟩;refine dH O ?_ ?_<;>intro M
   .apply F 3 [0] m;simp only[↓Z];refine cO cF (z:=U 0) (by kernel_rfl) O O O ?_;intro u X l r s;replace m:=m.newB l r s;simp only[J];refine bJ m 2 O O cF gM O (by decide) O O O (m.b 0 O).rowsO (fU O) (by omega) (by omega) ?_;intro i ad u m;simp only[zF,zG] at m;apply aL 7 [0] m;simp only[↓Z];apply R;omega;rw[show pG cu x=N by revert M;cases j<;>simp[pG,e,show ¬x.used<0 by omega,T],Z9 rfl] at d;rw[show (gI cu (G.cs.take k) 0).length+1=(gI cu (G.cs.take (k+1)) 0).length by rw[d,a_];rfl] at m ⊢;exact t (nc-(k+1)) _ _ (by omega) (by kernel_rfl) ⟨k+1,_,_,O,((m.reO 2 O ((m.o 2 O).as (by rw[d,au];rfl))).sel [X7,X7,N,N]),by omega,rfl⟩
   apply F 6 [0] m;simp only[↓Z];apply R;omega;rw[show pG cu x=X7 by revert M;cases j<;>simp[pG,e,show ¬x.used<0 by omega,T],K0 (by decide),fw] at d;rw[<-d] at m ⊢;exact t (nc-(k+1)) _ _ (by omega) (by kernel_rfl) ⟨k+1,_,_,O,(m.sel [X7,N,N]),by omega,O⟩
  obtain⟨I,h⟩:∃q:Nat,x.made=(q:Int):=⟨x.made.toNat,by omega⟩
  have f:=e;rw[h,ab] at f;obtain⟨ai,S,V⟩:=p.row I _ f;subst S;rw[h] at m;apply aQ 11 [1,2,0,0,0,1,0,0,0,3,0] m;simp only[↓Z,kT,dN,wZ,aa,ab,ae,bi];refine⟨_,λu m=>(lies1 (nY (V.ext m.ext)) eW),by omega,?_⟩;refine aA aF ?_;apply aL 20 [0,0,0,0,0,0,0,0,0,0,0,0] m;simp only[↓Z];apply R;omega;rw[show pG cu x=X7 by simp[pG,e,show ¬x.made<0 by omega],K0 (by decide),fw] at d;rw[<-d] at m ⊢;exact t (nc-(k+1)) _ _ (by omega) (by kernel_rfl) ⟨k+1,_,_,O,(m.sel [X7,N,N]),by omega,O⟩
 obtain rfl:nc=k:=by omega
 rw[ap (by omega)] at m ⊢;apply F 7 [] m;simp only[↓Z];exact aS O O ⟨_,O,m.ext,_,_,_,O,O,(m.o 0 O)⟩
def afT{nd:Nat}(w:an)(e:GrAt w A B G)(f:G.cs.length=nc)(h:G.gs.length=ng)(S:nc<=40000)(T:ng<=200001)(q:∀(g:Gp),g∈G.gs->g.ins.length<=1000000000000/\g.outs.length<=1000000000000)(i:kO uI 1 w D nd cu)(j:Mf G cu)(p:∀x∈G.cs,x.ts.length<=2000):cX X9 27 [.agg #[.slice A nc cc,.slice B ng cg],.slice D nd cd] w (SL 43 9 ((bS (kK G.cs (gI cu G.cs 0))).flatMap aP) (bS (kK G.cs (gI cu G.cs 0))).length w):=by
 refine⟨bP func27 (by kernel_rfl),?_⟩;have m:=Mem.refl w;have V:=xY (c:=cu) (cs:=G.cs) (k:=0);have W:=Gz p (gI cu G.cs 0);have y:=Xi e (l:=gI cu G.cs 0);have r:=jZ (kK G.cs (gI cu G.cs 0));have U:(gI cu G.cs 0).length*2000<=80000000:=by omega
 go_enter func27,ntmps27
 apply gJ 9 [1,0] m;simp only[↓Z,jI];intro g1 u m;refine bB O O (amb _ (e.ext m.ext) f h (by omega) (by omega) q (i.ext m.ext) j) ?_;rintro v u a ⟨E,I,L,s,rfl,d⟩;replace m:=m.newO a d;subst s;simp only[J];refine bB O O (adb (G:=G) (l:=(gI cu G.cs 0)) _ (e.ext m.ext) f h (m.b 1 O) ((m.o 0 O).lat in1 (by decide)) (λz n=>by have:=Pd n;omega) (by omega) (by omega)) ?_;rintro v u a ⟨F,K,M,t,rfl,d⟩;replace m:=m.newO a d;subst t;simp only[J];refine bB O O (aiM (ts:=(kK G.cs (gI cu G.cs 0))) _ ((m.o 0 O).tris y) (by omega)) ?_;rintro v u a ⟨P,Q,X,C,rfl,d⟩;replace m:=m.newO a d;apply aL 3 [] m;simp only[↓Z];refine aS O O ?_;try simp only[zD,zE]
 exact⟨_,O,m.ext,_,_,_,by rw[C,r],O,(m.o 0 O)⟩
def ajL{nd:Nat}(w:an)(e:GrAt w A B G)(C:G.cs.length=nc)(E:G.gs.length=ng)(ao:nc<=40000)(aq:ng<=200001)(z:∀(g:Gp),g∈G.gs->g.ins.length<=1000000000000/\g.outs.length<=1000000000000)(d:kO uI 1 w D nd cu)(r:∀x∈G.cs,x.ts.length<=2000)(s:∀g∈G.gs,Bd 301 g.dl):cX X9 8 [.agg #[.slice A nc cc,.slice B ng cg],.slice D nd cd] w (λv _=>∃b,(b=N↔Mf G cu)/\v=W (if b=N then arB G cu else 0)):=by
 refine⟨bP func8 (by kernel_rfl),?_⟩;have m:=Mem.refl w;have av:=d.len;have ax:=xY (c:=cu) (cs:=G.cs) (k:=0);have ay:=Gz r (gI cu G.cs 0);have K:=nK (Xi e (l:=gI cu G.cs 0));have au:=jZ (kK G.cs (gI cu G.cs 0));have aw:(gI cu G.cs 0).length*2000<=80000000:=by omega
 go_enter func8,ntmps8
 apply gJ 10 [2,0] m;simp only[↓Z,eX,jI];intro g1 g2 u m;refine bY m O O (aes _ (e.ext m.ext) C E (by omega) (by omega) z (d.ext m.ext)) ?_;rintro v u m ⟨P,rfl,L⟩;apply aL 2 [0] m;simp only[↓Z];refine dH O ?_ ?_<;>intro t
 .have af:P=X7:=bno t;apply qW 6 [0] m;simp only[↓Z,Ag,cB,aa];intro u m;exact aS rfl ⟨_,rfl,((m.b 0 rfl).full bE aJ)⟩ ⟨_,rfl,m.ext,X7,⟨λh=>(by cases h),λh=>Y0 (L.2 h) (by rw[af];decide)⟩,rfl⟩
 have j:Mf G cu:=L.1 (apO t);have aA:=j.2.2.1;apply F 5 [2,0] m;simp only[↓Z,jI];refine bB O O (afT _ (e.ext m.ext) C E (by omega) (by omega) z (d.ext m.ext) j r) ?_;rintro v u Q ⟨al,am,az,ag,rfl,X⟩;replace m:=m.newO Q X;subst ag;simp only[J];refine bY m O O (La (ts:=(bS (kK G.cs (gI cu G.cs 0)))) _ ((m.o 0 O).tris K) (by omega)) ?_;rintro v u m rfl;apply kZ 11 [0,0] m;simp only[↓Z,eX,cB,aaW,aa];intro T u m;refine bT [19] [6,7,20,21,22,23,24,25,26,27,28,29,30,31,32,33] (λn vs Y=>∃(k:Nat),vs=[U (k:Int)]/\Mem w Y [bI T [.bool (cQ (fA qR (bS (kK G.cs (gI cu G.cs 0)))+Bm (G.gs.take k) (cu.take k))),.string (dQ (fA qR (bS (kK G.cs (gI cu G.cs 0)))+Bm (G.gs.take k) (cu.take k)))] 37,bI g2 [.bool (cQ 0),.string (dQ 0)] 37,bI g1 [.slice A nc cc,.slice B ng cg] 31]/\(k<=nd)/\(n=nd-k)) ?_ ?_
 .exact⟨_,0,O,((m.re 0 O ((by rw[show Bm (G.gs.take 0) (cu.take 0)=0 from O,nu];exact (m.b 0 O)))).sel [N,X7,N,N]),by omega,O⟩
 intro n vs wr V u K1 q
 obtain⟨k,rfl,m,hk,hn⟩:=V;simp only[zu,zF,zG];apply F 5 [0,0] m;simp only[↓Z];refine aZ O ?_ ?_<;>intro ar
 .obtain⟨bt,ad,aj,rfl,ah⟩:=d.get (i:=k) (by omega);obtain⟨gp,a2,I,ci,O0,co,M,cm,p,rfl,ai,_⟩:=e.gp (k:=k) (by omega);have f:=Uj p ad;apply F 15 [0,3,0] m;simp only[↓Z,wZ,ab,ae,bi];refine⟨_,λu m=>(lies1 (nY (ah.ext m.ext)) eW),by omega,?_⟩;refine dH O ?_ ?_<;>intro y
  .subst y;refine Oz m [X7,N,N] (.take 1 (.take 2 (.take 3 (.take 4 (.take 5 (.take 6 (.one 0 (.one 7 (.one 8 .nil))))))))) aB (by kernel_rfl) (bR (λ_ _ _ _ _ h=>h)) ?_;intro u m;refine dG (by simp only[zw];rfl) (aV (aO (c:=0) nD rfl lN rfl rfl) (aT (dG (by simp only[zw];rfl) ?_)));simp only[J];refine eK O (λu m=>((m.b 1 O).lies1 yA O)) ?_;simp only[J];refine aT (dG (by simp only[zw];rfl) (aV aF (aT (dG (by simp only[zw];rfl) ?_))));simp only[J];refine aV (aN wU qK O O (by omega) (by omega) (kV (ab _))) (aT (dG (by simp only[zw];rfl) (aV (aO (c:=1) oN rfl aJ rfl rfl) (aT (dG (by simp only[zw];rfl) ?_)))));simp only[J];refine eK O (λu m=>(show eZ _ _ _ _ (W gp.dl) from (ajw (ai.ext m.ext) 6 O).lies bE aJ)) ?_;simp only[J];refine aT (fL (by simp only[zw];rfl) ?_);refine bA O ((m.b 0 O).full bE aJ) ?_;simp only[J];refine S ⟨m.sel [X7,N,N],?_⟩;refine fL (by simp only[zw];rfl) ?_;refine eV m O O (nJ (a:=fA qR (bS (kK G.cs (gI cu G.cs 0)))+Bm (G.gs.take k) (cu.take k)) (b:=gp.dl) (((ajI K (by omega)).add (ahe s k)).mono (by omega)) ((s gp (ak p)).mono (by decide))) ?_;intro u m;refine S ⟨m.sel [X7,N,N],?_⟩;refine fL (by simp only[zw];rfl) ?_;simp only[J];refine aX m 0 O O O aJ (eU O) O ?_;intro u m;simp only[zy,zx,over,zF,zG,aa] at m;refine S ⟨m.sel [X7,N,N],?_⟩;refine qU ?_;apply aQ 5 [0] m;simp only[↓Z];apply R;omega;rw[Z9 rfl] at f;rw[Int.add_assoc,<-f] at m;exact q (nd-(k+1)) _ _ (by omega) (by kernel_rfl) ⟨k+1,O,m,by omega,O⟩
  subst y;apply F 6 [0] m;simp only[↓Z];apply R;omega;rw[K0 (by decide),nu] at f;rw[<-f] at m;exact q (nd-(k+1)) _ _ (by omega) (by kernel_rfl) ⟨k+1,O,m,by omega,O⟩
 obtain rfl:nd=k:=by omega
 rw[ap (by omega),ap (by omega)] at m;apply qW 7 [1,1] m;simp only[↓Z,cB,aa];intro u m;exact aS O ⟨_,O,((m.b 1 O).full bE aJ)⟩ ⟨_,O,m.ext,N,⟨λ_=>j,λ_=>rfl⟩,O⟩
def fH{b:Int}(c:Bd 1000000 a)(d:Bd 1000000 b):dO X9 225 [W a,W b] (W (a*b)):=by
 intro w;refine⟨bP func225 (by kernel_rfl),?_⟩;have m:=Mem.refl w
 go_enter func225,ntmps225
 apply gJ 10 [3,2,0] m;simp only[↓Z,eX,cB];intro g1 g2 e u m;refine iE m O O (sR c d) 3 [0] ?_;simp only[↓Z,cB,aa];intro u m;exact aS O ⟨_,O,((m.b 0 O).full bE aJ)⟩ ⟨_,O,m.ext,O⟩
def mN{b:Int}(c:Bd 1000000 a)(d:Bd 1000000 b):dO X9 198 [W a,W b] (W (a+b)):=by
 intro w;refine⟨bP func198 (by kernel_rfl),?_⟩;have m:=Mem.refl w
 go_enter func198,ntmps198
 apply gJ 10 [3,2,0] m;simp only[↓Z,eX,cB];intro g1 g2 e u m;refine iE m O O (uJ c d) 3 [0] ?_;simp only[↓Z,cB,aa];intro u m;exact aS O ⟨_,O,((m.b 0 O).full bE aJ)⟩ ⟨_,O,m.ext,O⟩
def sI{n:Int}(h:gF n):dO X9 224 [U n] (W n):=by
 intro w;refine⟨bP func224 (by kernel_rfl),?_⟩;have m:=Mem.refl w
 go_enter func224,ntmps224
 apply gJ 7 [0] m;simp only[↓Z,eX];intro g1 u m;refine iE m O O (iT h) 3 [0] ?_;simp only[↓Z,cB,aa];intro u m;exact aS O ⟨_,O,((m.b 0 O).full bE aJ)⟩ ⟨_,O,m.ext,O⟩
theorem apX:K 2 (2:Int):=⟨by unfold Bd;decide⟩
theorem arC(t:T3):0-(t.normal.x*t.a.x+(t.normal.y*t.a.y+t.normal.z*t.a.z)) = -((oG t.a t.b t.c).dot t.a):=by
 show 0-((oG t.a t.b t.c).x*t.a.x+((oG t.a t.b t.c).y*t.a.y+(oG t.a t.b t.c).z*t.a.z))=_
 generalize oG t.a t.b t.c=n;unfold Y.dot
 grind
def apY(t:T3):qPr t.normal.x t.normal.y t.normal.z (0-(t.normal.x*t.a.x+(t.normal.y*t.a.y+t.normal.z*t.a.z)))=qOf t:=by rw[arC];rfl
def qS(a b:List Int)(k:Nat):List Int:=(Cd a b).take k++List.replicate (10-k) 0
def apZ{a b:List Int}(c:a.length=10)(d:b.length=10):qS a b 10=Cd a b:=by
 unfold qS;rw[ap (by rw[kG c d];exact bg _),Nat.sub_self,List.replicate_zero,fw]
def ajM{a b:List Int}(c:a.length=10)(d:b.length=10)(e:k<=10):(qS a b k).length=10:=by
 unfold qS;rw[a_,bf,List.length_replicate,kG c d];omega
def ap0{a b:List Int}(e:a.length=10)(f:b.length=10){x:Int}(i:k<10)(g:a[k]? = H x)(h:b[k]? = H y):(qS a b k).set k (x+y)=qS a b (k+1):=by
 have d:(Cd a b)[k]? = H (x+y):=by unfold Cd;rw[List.getElem?_zipWith,g,h]
 have c:((Cd a b).take k).length=k:=by rw[bf,kG e f];omega
 unfold qS;rw[jb,d,List.set_append_right _ _ (by rw[c];exact bg _),c,Nat.sub_self,Option.toList,di,show 10-k=(10-(k+1))+1 by omega];rfl
def adc[IT t]:dO X9 223 [tr t] (.agg #[.bool (cQ t.normal.x),.string (dQ t.normal.x),.bool (cQ t.normal.y),.string (dQ t.normal.y),.bool (cQ t.normal.z),.string (dQ t.normal.z),.bool (cQ (0-(t.normal.x*t.a.x+(t.normal.y*t.a.y+t.normal.z*t.a.z)))),.string (dQ (0-(t.normal.x*t.a.x+(t.normal.y*t.a.y+t.normal.z*t.a.z))))]):=by
 intro w;refine⟨bP func223 (by kernel_rfl),?_⟩;have m:=Mem.refl w
 go_enter func223,ntmps223
 apply gJ 8 [2,0] m;simp only[↓Z,ait,fM];intro g1 g2 u m;refine iE m O O (Ku (t:=t)) 4 [0,0] ?_;simp only[↓Z,Vg,aic,aa];intro g u m;refine dR 24 [0,1,2,3,4,5,6,7,8,9,10,11,12,13,14,15,16,17,18,19,20,21,22] [⟨23,4,37,[.bool X7,.string ⟨#[]⟩]⟩] aB (by kernel_rfl) (al1 ⟨_,_,_,O,by kernel_rfl,_,iB,O⟩) (ol:=?_) ?f ?_
 case f=>simp only[zw,zQ,zR];try rfl
 intro u d;replace m:=m.ext' d;refine gA (aR Ha aJ O O (by decide) (by decide) O) ?_;simp only[J];refine dA O (λu e=>(((m.ext' e).b 0 O).lies bE aJ O O)) ?_;simp only[J,zy,ae,aa,C,ac];refine gA (aR fR aD O O (by decide) (by decide) O) (gA (aO (c:=0) iZ O bC O O) ?_);simp only[J];refine dA O (λu e=>(((m.ext' e).b 2 O).lies1 bW O)) ?_;simp only[J];refine cY O O (sI Iw.h) ?_;simp only[J];refine cY O O (fH K.up K.up) (gA (aR Ha aJ O O (by decide) (by decide) O) ?_);simp only[J];refine dA O (λu e=>(((m.ext' e).b 0 O).lies bE aJ O O)) ?_;simp only[J,zy,ae,aa,C,ac];refine gA (aR fR aD O O (by decide) (by decide) O) (gA (aO (c:=0) iZ O bC O O) ?_);simp only[J];refine dA O (λu e=>(((m.ext' e).b 2 O).lies1 bW O)) ?_;simp only[J];refine cY O O (sI Iw.h) ?_;simp only[J];refine cY O O (fH K.up K.up) (gA (aR Ha aJ O O (by decide) (by decide) O) ?_);simp only[J];refine dA O (λu e=>(((m.ext' e).b 0 O).lies bE aJ O O)) ?_;simp only[J,zy,ae,aa,C,ac];refine gA (aR fR aD O O (by decide) (by decide) O) (gA (aO (c:=0) iZ O bC O O) ?_);simp only[J];refine dA O (λu e=>(((m.ext' e).b 2 O).lies1 bW O)) ?_;simp only[J];refine cY O O (sI Iw.h) ?_;simp only[J];refine cY O O (fH K.up K.up) ?_;simp only[J];refine cY O O (mN K.up K.up) ?_;simp only[J];refine cY O O (mN K.up K.up) (rN ?_);simp only[J];refine mf1 m ?_;intro i u m;simp only[zJ,zK,zF,zG];refine aX m 0 O O O aJ (eU O) O ?_;intro u m;simp only[zy,zx,over,zF,zG,aa] at m;refine S ?_;apply aQ 1 [0] m;simp only[↓Z];refine cC m 10 aB (by kernel_rfl) ?_;simp only[zy];refine cW 6 [2,2,2] ?_;simp only[↓Z,Ls,cB,ac,C,aa];apply R;omega;refine X O O (sI (n:=0) (by constructor<;>decide)) ?_;simp only[J];refine ql O (λu m=>((m.b 0 O).full bE aJ)) ?_;simp only[J];refine X O O (Ch K.up K.up) (aK (Dv O O O O) (bD ?_));intro u m;simp only[J];refine aX m 2 O O O Uq (eU O) O ?_;intro u m;simp only[zy,zx,over,zF,zG,aa] at m;refine S ?_;apply aQ 1 [] m;simp only[↓Z];exact aS O ⟨_,O,((m.b 2 O).full ak7 Uq)⟩ ⟨_,O,m.ext,O⟩
def amc[IT t]:dO X9 189 [tr t] (qV (qOf t)):=by
 intro w;refine⟨bP func189 (by kernel_rfl),?_⟩;have m:=Mem.refl w;haveI:=apX
 go_enter func189,ntmps189
 apply gJ 8 [2] m;simp only[↓Z,Yt,fM];intro g1 g2 u m;refine go (iE m O O (adc (t:=t)) 5 [0,0] ?_);simp only[↓Z,ait,apf,aa];intro a u m;refine iE m O O (sI (n:=2) (by constructor<;>decide)) 4 [0,0] ?_;simp only[↓Z,eX,cB,aa];intro c u m;refine cC m 63 aB (by kernel_rfl) ?_;simp only[zy];refine cW 4 [2,2] ?_;simp only[↓Z,wB,cB,ac,C,aa];apply R;omega;refine X O O (fH K.up K.up) (cW 5 [1,2,2] ?_);simp only[↓Z,cB,wB,ac,C,aa];apply R;omega;refine X O O (fH K.up K.up) ?_;simp only[J];refine X O O (fH K.up K.up) (cW 5 [1,2,2] ?_);simp only[↓Z,cB,wB,ac,C,aa];apply R;omega;refine X O O (fH K.up K.up) ?_;simp only[J];refine X O O (fH K.up K.up) (cW 5 [1,2,2] ?_);simp only[↓Z,cB,wB,ac,C,aa];apply R;omega;refine X O O (fH K.up K.up) ?_;simp only[J];refine X O O (fH K.up K.up) (cW 4 [2,2] ?_);simp only[↓Z,wB,cB,ac,C,aa];apply R;omega;refine X O O (fH K.up K.up) (cW 5 [1,2,2] ?_);simp only[↓Z,cB,wB,ac,C,aa];apply R;omega;refine X O O (fH K.up K.up) ?_;simp only[J];refine X O O (fH K.up K.up) (cW 5 [1,2,2] ?_);simp only[↓Z,cB,wB,ac,C,aa];apply R;omega;refine X O O (fH K.up K.up) ?_;simp only[J];refine X O O (fH K.up K.up) (cW 4 [2,2] ?_);simp only[↓Z,wB,cB,ac,C,aa];apply R;omega;refine X O O (fH K.up K.up) (cW 5 [1,2,2] ?_);simp only[↓Z,cB,wB,ac,C,aa];apply R;omega;refine X O O (fH K.up K.up) ?_;simp only[J];refine X O O (fH K.up K.up) (cW 4 [2,2] ?_);simp only[↓Z,wB,cB,ac,C,aa];apply R;omega;refine X O O (fH K.up K.up) (aK (qT O O O O O O O O O O) (bD ?_));intro u m;simp only[J];refine aX m 2 O O O fC (eU O) O ?_;intro u m;simp only[zy,zx,over,zF,zG,aa] at m;refine S ?_;apply aQ 1 [] m;simp only[↓Z];refine aS O ⟨_,O,((m.b 2 O).full pA fC)⟩ ?_;try simp only[zD,zE]
 exact⟨_,O,m.ext,by rw[<-apY];rfl⟩
def Ry{a b:List Int}(c:a.length=10)(d:b.length=10)(l:Ka k a)(o:Ka k b)(z:k<=900000):dO X9 149 [qV a,qV b] (qV (Cd a b)):=by
 intro w;refine⟨bP func149 (by kernel_rfl),?_⟩;have m:=Mem.refl w
 go_enter func149,ntmps149
 apply gJ 16 [0] m;simp only[↓Z,Yt];intro g1 g2 h j u m;refine bT [6] [7,8,9,10,11,12,13,14,15,16,17,18,19] (λn vs q=>∃(i:Nat),vs=[U (i:Int)]/\Mem w q [bI j (qC (qS a b i)) 221,bI h [.bool X7,.string ⟨#[]⟩,.bool X7,.string ⟨#[]⟩,.bool X7,.string ⟨#[]⟩,.bool X7,.string ⟨#[]⟩,.bool X7,.string ⟨#[]⟩,.bool X7,.string ⟨#[]⟩,.bool X7,.string ⟨#[]⟩,.bool X7,.string ⟨#[]⟩,.bool X7,.string ⟨#[]⟩,.bool X7,.string ⟨#[]⟩] 221,bI g2 (qC b) 221,bI g1 (qC a) 221]/\(i<=10)/\(n=10-i)) ?_ ?_
 . rw[show ([.bool X7,.string ⟨#[]⟩,.bool X7,.string ⟨#[]⟩,.bool X7,.string ⟨#[]⟩,.bool X7,.string ⟨#[]⟩,.bool X7,.string ⟨#[]⟩,.bool X7,.string ⟨#[]⟩,.bool X7,.string ⟨#[]⟩,.bool X7,.string ⟨#[]⟩,.bool X7,.string ⟨#[]⟩,.bool X7,.string ⟨#[]⟩]:List Value)=qC (qS a b 0) from zq0] at m
   exact⟨_,0,O,m,bm _,O⟩
 intro n vs B p u s r
 obtain⟨i,rfl,m,e,A⟩:=p;simp only[zu,zF,zG];apply F 6 [0,0] m;simp only[↓Z];refine aZ O ?_ ?_<;>intro C
 .have e:i<10:=by omega
  obtain⟨x,f⟩:∃x,a[i]? = H x:=⟨_,acK c e⟩
  obtain⟨y,g⟩:∃y,b[i]? = H y:=⟨_,acK d e⟩
  apply F 3 [0] m;simp only[↓Z];refine cC m 9 aB (by kernel_rfl) ?_;simp only[zy];refine cW 3 [] ?_;simp only[↓Z,Kf,ab,ae];apply R;omega;refine ql O (λu m=>(show eZ _ _ _ _ (W x) from (ah5 (m.b 3 O) f).lies bE aJ)) ?_;simp only[J];refine aK aF (cW 1 [] ?_);simp only[↓Z,Kf,ab,ae];apply R;omega;refine ql O (λu m=>(show eZ _ _ _ _ (W y) from (ah5 (m.b 2 O) g).lies bE aJ)) ?_;simp only[J];refine X O O (mN ((l.at f).mono (by omega)) ((o.at g).mono (by omega))) (cW 1 [] ?_);simp only[↓Z,Kf,ab,ae];apply R;omega;refine bD ?_;intro u m;refine aX m 0 O O O aJ (by have t:=sP (qS a b i);have v:=ajM c d (show i<=10 by omega);simp only[bh,dv];omega) rfl ?_;intro u m;simp only[zF,zG] at m;rw[show over (qC (qS a b i)) (i*2) [.bool (cQ (x+y)),.string (dQ (x+y))]=qC (qS a b (i+1)) from (alr (x:=x+y) (by rw[ajM c d (by omega)];omega)).trans (by rw[ap0 c d e f g])] at m;refine S ?_;apply aQ 6 [0] m;simp only[↓Z];apply R;omega;exact r (10-(i+1)) _ _ (by omega) (by kernel_rfl) ⟨i+1,O,m,by omega,O⟩
 obtain rfl:i=10:=by omega
 rw[apZ c d] at m;apply F 3 [0] m;simp only[↓Z];refine bA O (Fm (m.b 0 O) pA fC (by simp only[kG c d])) ?_;simp only[J];refine Hr (n:=20) m 1 O O O (by rw[kG c d]) O fC ?_;intro u m;simp only[zF,zG] at m;apply aL 2 [] m;simp only[↓Z];exact aS O ⟨_,O,(Fm (m.b 1 O) pA fC (by simp only[kG c d]))⟩ ⟨_,O,m.ext,O⟩
def ajN{a0 a c a3 a4 a5 d f g a9:Int}{p:Y}[I3 p][K 800000 a0][K 800000 a][K 800000 c][K 800000 a3][K 800000 a4][K 800000 a5][K 800000 d][K 800000 f][K 800000 g][K 800000 a9]:dO X9 192 [.agg #[.bool (cQ a0),.string (dQ a0),.bool (cQ a),.string (dQ a),.bool (cQ c),.string (dQ c),.bool (cQ a3),.string (dQ a3),.bool (cQ a4),.string (dQ a4),.bool (cQ a5),.string (dQ a5),.bool (cQ d),.string (dQ d),.bool (cQ f),.string (dQ f),.bool (cQ g),.string (dQ g),.bool (cQ a9),.string (dQ a9)],pt p] (W (p.x*(a0*p.x+(a*p.y+(c*p.z+a3)))+p.y*(a4*p.y+(a5*p.z+d))+(p.z*(f*p.z+g)+a9))):=by
 intro w;refine⟨bP func192 (by kernel_rfl),?_⟩;have m:=Mem.refl w
 go_enter func192,ntmps192
 apply gJ 10 [2,0] m;simp only[↓Z,eX,iR,dN,aa];intro g1 g2 k u m;refine iE m O O (sI Iw.h) 7 [0,3,0] ?_;simp only[↓Z,eX,cB,iJ,dN,aa];intro l u m;refine iE m O O (sI Iw.h) 7 [0,4,0] ?_;simp only[↓Z,eX,cB,iS,dN,aa];intro n u m;refine iE m O O (sI Iw.h) 4 [0,0] ?_;simp only[↓Z,eX,cB,aa];intro o u m;refine dR 35 [0,1,2,3,4,5,6,7,8,9,10,11,12,13,14,15,16,17,18,19,20,21,22,23,24,25,26,27,28,29,30,31,32,33] [⟨34,8,37,[.bool X7,.string ⟨#[]⟩]⟩] aB (by kernel_rfl) (al1 ⟨_,_,_,O,by kernel_rfl,_,iB,O⟩) (ol:=?_) ?j ?_
 case j=>simp only[zw,zQ,zR];try rfl
 intro u i;replace m:=m.ext' i;refine dA O (λu e=>(((m.ext' e).b 2 O).full bE aJ)) ?_;simp only[J];refine gA (aR xZ aJ O O (by decide) (by decide) O) ?_;simp only[J];refine dA O (λu e=>(((m.ext' e).b 5 O).lies bE aJ O O)) ?_;simp only[J,zy,ae,aa,C,ac];refine dA O (λu e=>(((m.ext' e).b 2 O).full bE aJ)) ?_;simp only[J];refine cY O O (fH K.up K.up) (gA (aR xZ aJ O O (by decide) (by decide) O) ?_);simp only[J];refine dA O (λu e=>(((m.ext' e).b 5 O).lies bE aJ O O)) ?_;simp only[J,zy,ae,aa,C,ac];refine dA O (λu e=>(((m.ext' e).b 1 O).full bE aJ)) ?_;simp only[J];refine cY O O (fH K.up K.up) (gA (aR xZ aJ O O (by decide) (by decide) O) ?_);simp only[J];refine dA O (λu e=>(((m.ext' e).b 5 O).lies bE aJ O O)) ?_;simp only[J,zy,ae,aa,C,ac];refine dA O (λu e=>(((m.ext' e).b 0 O).full bE aJ)) ?_;simp only[J];refine cY O O (fH K.up K.up) (gA (aR xZ aJ O O (by decide) (by decide) O) ?_);simp only[J];refine dA O (λu e=>(((m.ext' e).b 5 O).lies bE aJ O O)) ?_;simp only[J,zy,ae,aa,C,ac];refine cY O O (mN K.up K.up) ?_;simp only[J];refine cY O O (mN K.up K.up) ?_;simp only[J];refine cY O O (mN K.up K.up) ?_;simp only[J];refine cY O O (fH K.up K.up) ?_;simp only[J];refine dA O (λu e=>(((m.ext' e).b 1 O).full bE aJ)) ?_;simp only[J];refine gA (aR xZ aJ O O (by decide) (by decide) O) ?_;simp only[J];refine dA O (λu e=>(((m.ext' e).b 5 O).lies bE aJ O O)) ?_;simp only[J,zy,ae,aa,C,ac];refine dA O (λu e=>(((m.ext' e).b 1 O).full bE aJ)) ?_;simp only[J];refine cY O O (fH K.up K.up) (gA (aR xZ aJ O O (by decide) (by decide) O) ?_);simp only[J];refine dA O (λu e=>(((m.ext' e).b 5 O).lies bE aJ O O)) ?_;simp only[J,zy,ae,aa,C,ac];refine dA O (λu e=>(((m.ext' e).b 0 O).full bE aJ)) ?_;simp only[J];refine cY O O (fH K.up K.up) (gA (aR xZ aJ O O (by decide) (by decide) O) ?_);simp only[J];refine dA O (λu e=>(((m.ext' e).b 5 O).lies bE aJ O O)) ?_;simp only[J,zy,ae,aa,C,ac];refine cY O O (mN K.up K.up) ?_;simp only[J];refine cY O O (mN K.up K.up) ?_;simp only[J];refine cY O O (fH K.up K.up) ?_;simp only[J];refine cY O O (mN K.up K.up) (rN ?_);simp only[J];refine mf1 m ?_;intro q u m;simp only[zJ,zK,zF,zG];refine aX m 0 O O O aJ (eU O) O ?_;intro u m;simp only[zy,zx,over,zF,zG,aa] at m;refine S ?_;apply aQ 1 [0] m;simp only[↓Z];refine cC m 14 aB (by kernel_rfl) ?_;simp only[zy];refine cW 5 [1,2,7,2] ?_;simp only[↓Z,cB,Kf,ac,C,aa];apply R;omega;refine X O O (fH K.up K.up) (cW 2 [7] ?_);simp only[↓Z,Kf,cB,ac,C,aa];apply R;omega;refine X O O (mN K.up K.up) ?_;simp only[J];refine X O O (fH K.up K.up) (cW 2 [7] ?_);simp only[↓Z,Kf,cB,ac,C,aa];apply R;omega;refine X O O (mN K.up K.up) ?_;simp only[J];refine X O O (mN K.up K.up) (bD ?_);intro u m;simp only[J];refine aX m 4 O O O aJ (eU O) O ?_;intro u m;simp only[zy,zx,over,zF,zG,aa] at m;refine S ?_;apply aQ 1 [] m;simp only[↓Z];exact aS O ⟨_,O,((m.b 4 O).full bE aJ)⟩ ⟨_,O,m.ext,O⟩
def amd{q:List Int}{p:Y}[I3 p](a:Ka 800000 q)(g:q.length=10):dO X9 192 [qV q,pt p] (W (qAt q p)):=by
 obtain⟨a0,b,c,a3,a4,a5,d,e,f,a9,rfl⟩:=ajc g;haveI:K 800000 a0:=⟨a _ (by simp)⟩
 haveI:K 800000 b:=⟨a _ (by simp)⟩
 haveI:K 800000 c:=⟨a _ (by simp)⟩
 haveI:K 800000 a3:=⟨a _ (by simp)⟩
 haveI:K 800000 a4:=⟨a _ (by simp)⟩
 haveI:K 800000 a5:=⟨a _ (by simp)⟩
 haveI:K 800000 d:=⟨a _ (by simp)⟩
 haveI:K 800000 e:=⟨a _ (by simp)⟩
 haveI:K 800000 f:=⟨a _ (by simp)⟩
 haveI:K 800000 a9:=⟨a _ (by simp)⟩
 show dO _ _ _ (W (ah3 [a0,b,c,a3,a4,a5,d,e,f,a9] p.x p.y p.z))
 rw[ac0];exact ajN
def ajO{p:Y}(w:an)(g:cI w A vi ts)(G:vi<=800000):cX X9 143 [.slice A vi cap,pt p] w (λv _=>v=qV (Am ts p)):=by
 refine⟨bP func143 (by kernel_rfl),?_⟩;have m:=Mem.refl w;have Q:=g.len
 go_enter func143,ntmps143
 apply gJ 15 [0] m;simp only[↓Z,Yt];intro g1 g2 r u m;refine bT [6] [7,8,9,10,11,12,13,14,15,16,17,18,19,20,21,22,23,24,25,26,27,28,29,30,31,32,33,34,35,36,37,38,39,40,41,42,43,44] (λn vs B=>∃(k:Nat),vs=[U (k:Int)]/\Mem w B [bI r (qC (Am (ts.take k) p)) 221,bI g2 [.bool X7,.string ⟨#[]⟩,.bool X7,.string ⟨#[]⟩,.bool X7,.string ⟨#[]⟩,.bool X7,.string ⟨#[]⟩,.bool X7,.string ⟨#[]⟩,.bool X7,.string ⟨#[]⟩,.bool X7,.string ⟨#[]⟩,.bool X7,.string ⟨#[]⟩,.bool X7,.string ⟨#[]⟩,.bool X7,.string ⟨#[]⟩] 221,bI g1 [U p.x,U p.y,U p.z] 41]/\(k<=vi)/\(n=vi-k)) ?_ ?_
 . rw[show ([.bool X7,.string ⟨#[]⟩,.bool X7,.string ⟨#[]⟩,.bool X7,.string ⟨#[]⟩,.bool X7,.string ⟨#[]⟩,.bool X7,.string ⟨#[]⟩,.bool X7,.string ⟨#[]⟩,.bool X7,.string ⟨#[]⟩,.bool X7,.string ⟨#[]⟩,.bool X7,.string ⟨#[]⟩,.bool X7,.string ⟨#[]⟩]:List Value)=qC (Am (ts.take 0) p) from zq0] at m
   exact⟨_,0,O,m,bm _,O⟩
 intro n vs L s u E q
 obtain⟨k,rfl,m,I,K⟩:=s;simp only[zu,zF,zG];apply F 8 [0,0] m;simp only[↓Z,gN];refine aZ O ?_ ?_<;>intro M
 .obtain⟨t,o,P,a,rfl,f⟩:=g.get (i:=k) (by omega);have l:=yS (ts:=ts) (p:=p) k (by omega);have D:=Zf (p:=p) g.it k (by omega);apply F 4 [0] m;simp only[↓Z];refine mq m aB (by kernel_rfl) (cW 11 [0,0,3,8,0,0,3,8,0,0,3] ?_);simp only[↓Z,eY,cD,aW,ab,ae,ac,C,aa];refine⟨_,λu m=>((iX.cor (f.ext m.ext) (c:=0) (by omega)).lies aM aD),_,fX,_,λu m=>((iX.cor (f.ext m.ext) (c:=1) (by omega)).lies aM aD),_,fX,λ_=>⟨_,λu m=>((iX.cor (f.ext m.ext) (c:=2) (by omega)).lies aM aD),_,fX,λ_=>⟨by omega,?_⟩⟩⟩;refine bD ?_;intro u m;refine gc (dH O (λj=>?_) (λj=>?_))
  .have h:t.has p=N:=by rw[<-anj];exact j
   have d:=Il (p:=p) o;rw[Z9 h] at d;refine cC m 7 aB (by kernel_rfl) ?_;simp only[zy];refine ql O (λu m=>(Fm (m.b 0 O) pA fC (by first|rw[e]|rw[yS _ (by omega)]))) ?_;simp only[J];refine cW 4 [0,1] ?_;simp only[↓Z,eY,ab,ae];refine⟨_,λu m=>((f.ext m.ext).lies eD bK),by omega,?_⟩;refine X O O (amc (t:=t)) ?_;simp only[J];refine X O O (Ry l (Ze t) D (ai6.mono (by omega)) (by omega)) (bD ?_);intro u m;simp only[J];refine Hr (n:=20) m 0 O O O (by rw[kG l (Ze t)]) (by rw[sP,l]) fC ?_;intro u m;simp only[zF,zG] at m;refine S ?_;apply aQ 6 [0] m;simp only[↓Z];apply R;omega;rw[<-d] at m;exact q (vi-(k+1)) _ _ (by omega) (by kernel_rfl) ⟨k+1,O,m,by omega,O⟩
  have h:t.has p=X7:=by rw[<-anj];exact j
  have d:=Il (p:=p) o;rw[K0 (by rw[h];exact jw)] at d;apply F 7 [0] m;simp only[↓Z];apply R;omega;rw[<-d] at m;exact q (vi-(k+1)) _ _ (by omega) (by kernel_rfl) ⟨k+1,O,m,by omega,O⟩
 obtain rfl:vi=k:=by omega
 rw[show ts.take vi=ts from ap (by omega)] at m;have e:(Am ts p).length=10:=by have:=yS (ts:=ts) (p:=p) vi (by omega);rwa [ap (by omega)] at this
 apply F 3 [0] m;simp only[↓Z];refine bA O (Fm (m.b 0 O) pA fC (by first|rw[e]|rw[yS _ (by omega)])) ?_;simp only[J];refine Hr (n:=20) m 1 O O O (by rw[e]) O fC ?_;intro u m;simp only[zF,zG] at m;apply aL 2 [] m;simp only[↓Z];exact aS O ⟨_,O,(Fm (m.b 1 O) pA fC (by rw[e]))⟩ ⟨_,O,m.ext,O⟩
def ajP{p:Y}:(decide (p.x=t.a.x/\p.y=t.a.y/\p.z=t.a.z)||decide (p.x=t.b.x/\p.y=t.b.y/\p.z=t.b.z)||decide (p.x=t.c.x/\p.y=t.c.y/\p.z=t.c.z))=t.has p:=by
 have e:∀p q:Y,(p.x=q.x/\p.y=q.y/\p.z=q.z)↔p=q:=λp q=>⟨λh=>Y.eq h.1 h.2.1 h.2.2,λh=>by rw[h];exact⟨O,O,O⟩⟩
 rw[Bool.eq_iff_iff,rJ];simp only[Bool.or_eq_true,Y2,e,or_assoc]
def arD  : (decide (¬(t.a.x=t.b.x/\t.a.y=t.b.y/\t.a.z=t.b.z))&&decide (¬(t.b.x=t.c.x/\t.b.y=t.c.y/\t.b.z=t.c.z))&&decide (¬(t.c.x=t.a.x/\t.c.y=t.a.y/\t.c.z=t.a.z)))=t.nd:=by rw[pne,pne,pne];rfl
def Ma{p:Y}:dO X9 226 [pt p,tr t] (.bool (t.has p)):=by
 intro w;refine⟨bP func226 (by kernel_rfl),?_⟩;have m:=Mem.refl w
 go_enter func226,ntmps226
 apply gJ 19 [2,1,5,2,1,5,2,1] m;simp only[↓Z,aW,cD,ac,C,aa];refine λg1=>λg2=>⟨_,fX,_,fX,λ_=>⟨_,fX,λ_=>⟨by omega,?_⟩⟩⟩
 intro u m;refine aS O O ?_;try simp only[zD,zE]
 exact⟨_,O,m.ext,by rw[ajP]⟩
def Rz{p:Y}:dO X9 197 [tr t,pt p,pt q] (tr (Fl p q t)):=by
 intro w;refine⟨bP func197 (by kernel_rfl),?_⟩;have m:=Mem.refl w
 go_enter func197,ntmps197
 apply gJ 26 [4,1,0] m;simp only[↓Z,uE];intro g1 g2 o r;apply R;omega;intro u m;refine mq m aB (by kernel_rfl) (cW 5 [4,3] ?_);simp only[↓Z,cD,aW,ac,C,aa];refine⟨_,fX,by omega,?_⟩;refine bD ?_;intro u m;refine gc (qO m 3 [] [17,18,19] (λvs i=>vs=[]/\i=bI g1 [U (Au p q t.a).x,U (Au p q t.a).y,U (Au p q t.a).z,U (t.b).x,U (t.b).y,U (t.b).z,U (t.c).x,U (t.c).y,U (t.c).z] 43) ?_ ?_)
 . intro k g
   refine aZ O ?_ ?_<;>intro d
   .apply qW 6 [2,3,0] m;simp only[↓Z,aW,cD,ac,C,aa];apply R;omega;intro u m;exact g _ _ _ (by kernel_rfl) m ⟨O,by rw[aiN d]<;>rfl⟩
   apply F 1 [0] m;simp only[↓Z];exact g _ _ _ (by kernel_rfl) m ⟨O,by rw[acT d]<;>rfl⟩
 intro vs i f m e u
 obtain⟨rfl,rfl⟩:=e;simp only[zF,zG] at m;simp only[zu,zF,zG];apply aQ 18 [1,0] m;simp only[↓Z,M];apply R;omega;refine mq m aB (by kernel_rfl) (cW 5 [4,3] ?_);simp only[↓Z,cD,aW,ac,C,aa];refine⟨_,fX,by omega,?_⟩;refine bD ?_;intro u m;refine gc (qO m 3 [] [17,18,19] (λvs i=>vs=[]/\i=bI g1 [U (Au p q t.a).x,U (Au p q t.a).y,U (Au p q t.a).z,U (Au p q t.b).x,U (Au p q t.b).y,U (Au p q t.b).z,U (t.c).x,U (t.c).y,U (t.c).z] 43) ?_ ?_)
 . intro l h
   refine aZ O ?_ ?_<;>intro d
   .apply qW 6 [2,3,0] m;simp only[↓Z,aW,cD,ac,C,aa];apply R;omega;intro u m;exact h _ _ _ (by kernel_rfl) m ⟨O,by rw[aiN d]<;>rfl⟩
   apply F 1 [0] m;simp only[↓Z];exact h _ _ _ (by kernel_rfl) m ⟨O,by rw[acT d]<;>rfl⟩
 intro vs i f m e u
 obtain⟨rfl,rfl⟩:=e;simp only[zF,zG] at m;simp only[zu,zF,zG];apply aQ 18 [1,0] m;simp only[↓Z,M];apply R;omega;refine mq m aB (by kernel_rfl) (cW 5 [4,3] ?_);simp only[↓Z,cD,aW,ac,C,aa];refine⟨_,fX,by omega,?_⟩;refine bD ?_;intro u m;refine gc (qO m 3 [] [17,18,19] (λvs i=>vs=[]/\i=bI g1 [U (Au p q t.a).x,U (Au p q t.a).y,U (Au p q t.a).z,U (Au p q t.b).x,U (Au p q t.b).y,U (Au p q t.b).z,U (Au p q t.c).x,U (Au p q t.c).y,U (Au p q t.c).z] 43) ?_ ?_)
 . intro n j
   refine aZ O ?_ ?_<;>intro d
   .apply qW 6 [2,3,0] m;simp only[↓Z,aW,cD,ac,C,aa];apply R;omega;intro u m;exact j _ _ _ (by kernel_rfl) m ⟨O,by rw[aiN d]<;>rfl⟩
   apply F 1 [0] m;simp only[↓Z];exact j _ _ _ (by kernel_rfl) m ⟨O,by rw[acT d]<;>rfl⟩
 intro vs i f m e u
 obtain⟨rfl,rfl⟩:=e;simp only[zF,zG] at m;simp only[zu,zF,zG];apply uR 21 [2,4,0] m;simp only[↓Z,fM,M,aa];apply R;omega;intro u m;exact aS O ⟨_,O,((m.b 0 O).full eD bK)⟩ ⟨_,O,m.ext,O⟩
def oW{xs:List Y}{p:Y}(w:an)(d:kO cM 3 w A vi xs)(t:vi<=100000000):cX X9 190 [.slice A vi cap,pt p] w (λv _=>v=.bool (decide (p∈xs))):=by
 refine⟨bP func190 (by kernel_rfl),?_⟩;have m:=Mem.refl w;have G:=d.len
 go_enter func190,ntmps190
 apply gJ 11 [0] m;simp only[↓Z];intro g1 u m;refine bT [5] [4,6,7,8,9,10,11,12,13,14,15,16,17] (λn vs o=>∃(k:Nat),vs=[U (k:Int)]/\Mem w o [bI g1 [U p.x,U p.y,U p.z] 41]/\(p∉xs.take k)/\(k<=vi)/\(n=vi-k)) ?_ ?_
 .exact⟨_,0,O,m,(by simp),bm _,O⟩
 intro n vs D l u s q
 obtain⟨k,rfl,m,f,B,C⟩:=l;simp only[zu,zF,zG];apply F 8 [0,0] m;simp only[↓Z,gZ];refine aZ O ?_ ?_<;>intro E
 .obtain⟨x,g,a,j,r⟩:=d.get (i:=k) (by omega);subst j;apply F 4 [0] m;simp only[↓Z];refine mq m aB (by kernel_rfl) (cW 6 [0,0,1] ?_);simp only[↓Z,gK,aW,ab,ae];refine⟨_,λu m=>(show eZ _ _ _ _ (pt x) from (r.ext m.ext).lies aM aD),_,fX,by omega,?_⟩;refine bD ?_;intro u m;refine gc (aZ O (λb=>?_) (λb=>?_))
  .have c:x=p:=Y.eq b.1 b.2.1 b.2.2;apply F 5 [] m;simp only[↓Z];refine aS O O ?_;try simp only[zD,zE]
   exact⟨_,O,m.ext,by rw[Y5 (c▸ak g)]⟩
  have c:x≠p:=λh=>b (by rw[h];exact⟨O,O,O⟩);apply F 7 [0] m;simp only[↓Z];apply R;omega;exact q (vi-(k+1)) _ _ (by omega) (by kernel_rfl) ⟨k+1,O,m,(by rw[cZ g,bz,cr];exact λh=>h.elim f λe=>c e.symm),by omega,O⟩
 obtain rfl:k=vi:=by omega
 apply F 6 [] m;simp only[↓Z];refine aS O O ?_;try simp only[zD,zE]
 exact⟨_,O,m.ext,by rw[Y6 (by rwa [ap (by omega)] at f)]⟩
def Mb{p:Y}[I3 p][I3 q](w:an)(j:cI w A vi ts)(X:vi<=10000000):cX X9 147 [.slice A vi cap,pt p,pt q] w (SL 43 9 ((Qj ts p q).flatMap aP) (Qj ts p q).length w):=by
 refine⟨bP func147 (by kernel_rfl),?_⟩;have m:=Mem.refl w;have ae:=j.len
 go_enter func147,ntmps147
 apply gJ 8 [0] m;simp only[↓Z];intro g1 g2 u m;refine aA aI ?_;replace m:=m.nilO 43 9;apply aL 7 [0] m;simp only[↓Z];refine bT [7,8] [9,10,11,12,13,14,15,16,17,18,19,20,21,22,23,24,25,26,27,28,29,30,31,32,33,34,35,36,37,38,39,40,41,42,43,44,45] (λn vs I=>∃(k:Nat)(f:Option Addr)(h:Nat),vs=[.slice f (Dy p q (ts.take k)).length h,U (k:Int)]/\Mem w I [oI 43 9 f (Dy p q (ts.take k)).length h ((Dy p q (ts.take k)).flatMap aP),bI g2 [U q.x,U q.y,U q.z] 41,bI g1 [U p.x,U p.y,U p.z] 41]/\(k<=vi)/\(n=vi-k)) ?_ ?_
 .exact⟨_,0,_,_,O,m,bm _,O⟩
 intro n vs wr D u T r
 obtain⟨k,f,h,rfl,m,hk,hn⟩:=D;simp only[zu,zF,zG];apply F 8 [0,0] m;simp only[↓Z,gN];refine aZ O ?_ ?_<;>intro ad
 .obtain⟨t,E,_,a,B,P⟩:=j.get (i:=k) (by omega);subst B;have d:=afH (p:=p) (q:=q) E;have K:=Yp p q (ts.take k);rw[bf] at K;apply F 4 [0] m;simp only[↓Z];refine dR 8 [0,1,2,3,4,5,6] [⟨7,9,43,[U 0,U 0,U 0,U 0,U 0,U 0,U 0,U 0,U 0]⟩] aB (by kernel_rfl) (al1 ⟨_,_,_,O,by kernel_rfl,_,Xm,O⟩) (ol:=?_) ?M ?_
  case M=>simp only[zw,zQ,zR];try rfl
  intro u c;replace m:=m.ext' c;refine gA aF (gA aF ?_);simp only[J];refine gA (aN gB bK O O (by omega) (by omega) (kV (ab _))) ?_;simp only[J];refine dA O (λu e=>((P.ext (m.ext' e).ext).lies eD bK)) ?_;simp only[J];refine dA O (λu e=>(((m.ext' e).b 2 O).full aM aD)) ?_;simp only[J];refine dA O (λu e=>(((m.ext' e).b 1 O).full aM aD)) ?_;simp only[J];refine cY O O (Rz (t:=t) (p:=p) (q:=q)) (rN ?_);simp only[J];refine mf1 m ?_;intro V u m;simp only[zJ,zK,zF,zG];refine aX m 0 O O O bK (eU O) O ?_;intro u m;simp only[zy,zx,over,zF,zG,aa] at m;refine S ?_;apply aQ 12 [1,1,6,1,1,6,1,1,0] m;simp only[↓Z,cD,aW,ac,C,aa];refine⟨_,pK,_,pK,λ_=>⟨_,pK,λ_=>⟨by omega,?_⟩⟩⟩;refine dH O ?_ ?_<;>intro g
  .rw[arD] at g;rw[g,Z9 rfl] at d;apply F 3 [1,0] m;simp only[↓Z,fM];refine jL O ?_;intro u W c l G;replace m:=m.newB c l G;simp only[J];refine bJ m 2 O O gB mS O (by decide) O O O (m.b 0 O).rowsO (fU O) (by omega) (by omega) ?_;intro f h u m;simp only[zF,zG] at m;rw[show (Dy p q (ts.take k)).flatMap aP++_=(Dy p q (ts.take (k+1))).flatMap aP by rw[d,au];rfl] at m;have s:(Dy p q (ts.take k)).length+1=(Dy p q (ts.take (k+1))).length:=by rw[d,a_];rfl
   rw[s] at m;rw[s];apply aL 8 [0] m;simp only[↓Z];apply R;omega;exact r (vi-(k+1)) _ _ (by omega) (by kernel_rfl) ⟨k+1,_,_,O,(m.sel [X7,X7,N,N,N]),by omega,O⟩
  rw[arD] at g;rw[g,K0 jw,fw] at d;apply F 7 [0] m;simp only[↓Z];apply R;omega;rw[<-d] at m ⊢;exact r (vi-(k+1)) _ _ (by omega) (by kernel_rfl) ⟨k+1,_,_,O,(m.sel [X7,N,N,N]),by omega,O⟩
 obtain rfl:k=vi:=by omega
 rw[show ts.take k=ts from ap (by omega)] at m ⊢;apply F 4 [0] m;simp only[↓Z];refine bB O O (uH (ts:=Dy p q ts) _ ((m.o 0 O).tris (Za X3 j.it)) (by have:=Yp p q ts;omega)) ?_;rintro v u c ⟨Q,af,n8,L,rfl,l⟩;replace m:=m.newO c l;apply aL 3 [] m;simp only[↓Z];exact aS O O ⟨_,O,m.ext,⟨_,_,_,by rw[L,aa9],O,(m.o 0 O)⟩⟩
def Zp{a:Addr}(h:iX w a (aP t))(b:j<3):iX w (a.add (j*3)) (cM (t.cor j)):=by
 rcases j with _|_|_|j
 .exact (h.sub 0).take 3
 .exact (h.sub 3).take 3
 .exact (h.sub 6).take 3
 omega
def ap1{p:Y}{o:List Y}(h:t.has p=N):Hx p o t=(ai5 t).foldl (Hw p) o:=by unfold Hx;rw[Z9 h];rfl
def ap2{p:Y}{o:List Y}(h:t.has p=X7):Hx p o t=o:=by unfold Hx;rw[K0 (by rw[h];exact jw)]
def Vq{p:Y}(h:ts[k]? = H t):(ts.take (k+1)).foldl (Hx p) []=Hx p ((ts.take k).foldl (Hx p) []) t:=by rw[cZ h,ly];rfl
def Vr{p:Y}{o:List Y}(a:j<3):((ai5 t).take (j+1)).foldl (Hw p) o=Hw p (((ai5 t).take j).foldl (Hw p) o) (t.cor j):=by rw[cZ (alW a),ly];rfl
def ap3{p:Y}{o:List Y}{b:Bool}(a:b=decide (q∈o))(h:(decide (q≠p) && !b)=N):Hw p o q=o++[q]:=by
 subst a;simp only[ck,Y2,Bool.not_eq_true',Y7] at h;exact Z9 h
def ap4{p:Y}{o:List Y}{b:Bool}(a:b=decide (q∈o))(h:(decide (q≠p) && !b)=X7):Hw p o q=o:=by
 subst a;refine K0 λk=>?_;rw[Y5 k.1,Y6 k.2] at h;cases h
def Sa{p:Y}(w:an)(C:cI w A vi ts)(hN:vi<=10000000):cX X9 191 [.slice A vi cap,pt p] w (SL 41 3 ((mL ts p).flatMap cM) (mL ts p).length w):=by
 refine⟨bP func191 (by kernel_rfl),?_⟩;have m:=Mem.refl w;have af:=C.len
 go_enter func191,ntmps191
 apply gJ 7 [0] m;simp only[↓Z];intro g1 u m;refine aA aI ?_;replace m:=m.nilO 41 3;apply aL 7 [0] m;simp only[↓Z];refine bT [5,6] [7,8,9,10,11,12,13,14,15,16,17,18,19,20,21,22,23,24,25,26,27,28,29,30,31,32,33,34,35,36,37,38,39,40,41,42,43,44,45,46,47,48,49,50,51,52,53,54,55] (λn vs s=>∃(k:Nat)(xs:List Y)(d:Option Addr)(e:Nat),vs=[.slice d xs.length e,U (k:Int)]/\Mem w s [oI 41 3 d xs.length e (xs.flatMap cM),bI g1 [U p.x,U p.y,U p.z] 41]/\(xs=(ts.take k).foldl (Hx p) [])/\(xs.length<=3*k)/\(k<=vi)/\(n=vi-k)) ?_ ?_
 .exact⟨_,0,[],_,_,O,m,O,bm _,bm _,O⟩
 intro n vs V r u K1 G
 obtain⟨k,xs,d,e,rfl,m,g,ag,hk,hn⟩:=r;simp only[zu,zF,zG];apply F 8 [0,0] m;simp only[↓Z,gN];refine aZ O ?_ ?_<;>intro aa
 .obtain⟨t,E,_,a,P,q⟩:=C.get (i:=k) (by omega);subst P;apply F 4 [0] m;simp only[↓Z];refine mq m aB (by kernel_rfl) (cW 5 [2,0,1] ?_);simp only[↓Z,aW,eY,ab,ae];refine⟨_,λu m=>((q.ext m.ext).lies eD bK),by omega,?_⟩;refine X O O (Ma (t:=t) (p:=p)) (aK aI (bD ?_));intro u m;apply aQ 1 [] m;simp only[↓Z];cases D:t.has p
  .apply aQ 23 [2,1,0,0] m;simp only[↓Z];apply R;omega;exact G (vi-(k+1)) _ _ (by omega) (by kernel_rfl) ⟨k+1,xs,_,_,O,m,(by rw[Vq E,<-g,ap2 D]),(by omega),(by omega),O⟩
  apply aQ 4 [0] m;simp only[↓Z];refine bT [5,8] [21,22,23,24,25,26,27,28,29,30,31,32,33,34,35,36,37,38,39,40,41,42,43,44,45,46,47,48,49,50,51,52,53,54,55] (λn vs s=>∃(j:Nat)(ys:List Y)(d:Option Addr)(e:Nat),vs=[.slice d ys.length e,U (j:Int)]/\Mem w s [oI 41 3 d ys.length e (ys.flatMap cM),bI g1 [U p.x,U p.y,U p.z] 41]/\(ys=((ai5 t).take j).foldl (Hw p) xs)/\(ys.length<=3*k+j)/\(j<=3)/\(n=3-j)) ?_ ?_
  .exact⟨_,0,xs,_,_,O,m,O,(by omega),bm _,O⟩
  intro n vs V r u K2 I
  obtain⟨j,ys,d,e,rfl,m,v,ah,hj,ad⟩:=r;simp only[zu,zF,zG];apply F 8 [0,2,0] m;simp only[↓Z];refine λ_=>?_;refine dH O ?_ ?_<;>intro K
  .have f:j<3:=by simp only[Bool.and_true,Y2] at K;omega
   apply F 4 [0] m;simp only[↓Z];refine mh m [N,N] [(0,N),(1,N),(2,N),(3,N),(4,N),(5,N),(6,N),(7,N),(8,N),(9,N),(10,N),(11,N),(12,N),(13,N),(14,N),(15,N),(16,X7),(17,N),(18,N)] aB (by kernel_rfl) (bR (λ_ _ _ _ _ h=>h)) (ol:=?_) ?W ?_
   case W=>simp only[zw,zQ,zR];try rfl
   intro u m;refine tL 9 [0,0,2] ?_;simp only[↓Z,eY,cD,aW,ab,ae];refine⟨_,λu m=>(show eZ _ _ _ _ (pt (t.cor j)) from (Zp (q.ext m.ext) f).lies aM aD),_,pK,by omega,?_⟩;refine oD O (λc=>aF) (oD O (λc=>aF) (oD O (λc=>aF) (oD O (λc=>aF) ?_)));simp only[J];refine oD O (λc=>aN gB bK (cG c O) (cG c O) (by omega) (by omega) (kV (ab _))) ?_;simp only[J];refine oD O (λc=>aR fR aD (cG c O) (cG c O) (by omega) (by omega) (kV (ab _))) ?_;simp only[J];refine Nb O (λc u m=>cT (cG c O) (show eZ _ _ _ _ (pt (t.cor j)) from (Zp (q.ext m.ext) f).lies aM aD)) (bX (rL m O O (λc=>by simp only[eo,df,fj,zA,zB,zC,zD,zE,c,lL];rfl) (λc=>oW (p:=t.cor j) _ ((m.o 0 rfl).lat (enc:=cM) (λ_=>rfl) (by decide)) (by omega)) ?_));intro u m;refine S ⟨m,?_⟩;refine oD O (λc=>sT (cG c O)) (aV (fB O O O) (aT (gc ?_)));simp only[J];refine dH O ?_ ?_<;>intro l
   .rw[pne] at l;have B:=ap3 (p:=p) rfl l;apply F 8 [0,0,0] m;simp only[↓Z,eY,cD,ab,ae];refine⟨_,λu m=>(show eZ _ _ _ _ (pt (t.cor j)) from (Zp (q.ext m.ext) f).lies aM aD),by omega,?_⟩;refine lF O ?_;intro u g2 M Q T;replace m:=m.newB M Q T;simp only[J];refine bJ m 1 O O eL mB O (by decide) O O O (m.b 0 O).rowsO (fU O) (by omega) (by omega) ?_;intro d e u m;simp only[zF,zG] at m;rw[show ys.flatMap cM++_=(ys++[t.cor j]).flatMap cM by rw[au];rfl] at m;have L:ys.length+1=(ys++[t.cor j]).length:=by simp
    rw[L] at m;rw[L];apply aL 8 [0] m;simp only[↓Z];apply R;omega;exact I (3-(j+1)) _ _ (by omega) (by kernel_rfl) ⟨j+1,ys++[t.cor j],_,_,O,(m.sel [X7,N,N]),(by rw[Vr f,<-v,B]),(by rw[a_];simp only[bh,dv];omega),(by omega),rfl⟩
   rw[pne] at l;have B:=ap4 (p:=p) rfl l;apply F 7 [0] m;simp only[↓Z];apply R;omega;exact I (3-(j+1)) _ _ (by omega) (by kernel_rfl) ⟨j+1,ys,_,_,O,m,(by rw[Vr f,<-v,B]),(by omega),(by omega),O⟩
  obtain rfl:j=3:=by simp only[Bool.and_true,Y7] at K;omega
  apply F 7 [0] m;simp only[↓Z];apply R;omega;exact G (vi-(k+1)) _ _ (by omega) (by kernel_rfl) ⟨k+1,ys,_,_,O,m,(by rw[Vq E,<-g,ap1 D];exact v),(by omega),(by omega),O⟩
 obtain rfl:k=vi:=by omega
 rw[show ts.take k=ts from ap (by omega)] at g;apply F 7 [] m;simp only[↓Z];exact aS O O ⟨_,O,m.ext,⟨_,_,_,by rw[g];rfl,rfl,(m.o 0 rfl).as (by rw[g];rfl)⟩⟩
def ade(e:E3)(j:Nat):Y:=if j=0 then e.1 else e.2
def ajQ{a:Addr}{e:E3}(h:iX w a (dE e))(b:j<2):iX w (a.add (j*3)) (cM (ade e j)):=by
 rcases j with _|_|j
 .exact (h.sub 0).take 3
 .exact (h.sub 3).take 3
 omega
def lA2{P:Program}{T:TypeId}{v:Value}(h:eZ P w T (((⟨g,0,X8⟩:Addr).add n).add k) v):eZ P w T ⟨g,n+k,X8⟩ v:=by
 rw[cA,cA,ae] at h;exact h
def Zq(w:an)(l:cI w A vi ts)(I:vi<=1000000):cX X9 144 [.slice A vi cap] w (λv w'=>∃xs:List Y,SL 41 3 (xs.flatMap cM) xs.length w v w'/\xs.length<=10000000):=by
 refine⟨bP func144 (by kernel_rfl),?_⟩;have m:=Mem.refl w;have X:=l.len
 go_enter func144,ntmps144
 apply iD 6 [0] m;simp only[↓Z];refine aA aI ?_;replace m:=m.nilO 41 3;apply aL 4 [0] m;simp only[↓Z];refine bB O O (Qz _ (l.ext m.ext) (by omega)) ?_;rintro v u d ⟨es,⟨x,i,P,D,rfl,g⟩,V⟩;replace m:=m.newO d g;subst D;apply aL 8 [0] m;simp only[↓Z];refine bT [3,5] [6,9,10,11,12,13,14,15,16,17,18,19,20,21,22,23,24,25,26,27,28,29,30,31,32,33,34,35,36] (λn vs h=>∃(k:Nat)(xs:List Y)(a:Option Addr)(c:Nat),vs=[.slice a xs.length c,U (k:Int)]/\Mem w h [oI 170 6 x es.length i (es.flatMap dE),oI 41 3 a xs.length c (xs.flatMap cM)]/\(xs.length<=2*k)/\(k<=es.length)/\(n=es.length-k)) ?_ ?_
 .exact⟨_,0,[],_,_,O,m,bm _,bm _,O⟩
 intro n vs B f u E C
 obtain⟨k,xs,a,c,rfl,m,aa,L,M⟩:=f;simp only[zu,zF,zG];apply F 8 [0,0] m;simp only[↓Z,yL];refine aZ O ?_ ?_<;>intro Q
 .obtain⟨e,q⟩:∃e,es[k]? = H e:=⟨_,ah (by omega)⟩
  obtain⟨y,rfl⟩:=(m.o 0 rfl).some (by omega);apply F 8 [0] m;simp only[↓Z];refine bT [3,6] [15,16,17,18,19,20,21,22,23,24,25,26,27,28,29,30,31,32,33,34,35,36] (λn vs h=>∃(j:Nat)(ys:List Y)(a:Option Addr)(c:Nat),vs=[.slice a ys.length c,U (j:Int)]/\Mem w h [oI 170 6 (H ⟨y,0,X8⟩) es.length i (es.flatMap dE),oI 41 3 a ys.length c (ys.flatMap cM)]/\(ys.length<=2*k+j)/\(j<=2)/\(n=2-j)) ?_ ?_
  .exact⟨_,0,xs,_,_,O,m,(by omega),bm _,O⟩
  intro n vs B f u G r
  obtain⟨j,ys,a,c,rfl,m,ad,K,W⟩:=f;simp only[zu,zF,zG];apply F 6 [0,0] m;simp only[↓Z];refine aZ O ?_ ?_<;>intro S
  .have s:j<2:=by omega
   apply F 12 [0,0,0] m;simp only[↓Z,yM,yN,ab,ae];refine⟨_,λu m=>(lA2 (v:=pt (ade e j)) ((ajQ (((m.o 0 O).lat (enc:=dE) (λ_=>rfl) (by decide)).at q) s).lies aM aD)),by omega,?_⟩;refine bY m O O (oW (p:=ade e j) _ ((m.o 1 O).lat (enc:=cM) (λ_=>rfl) (by decide)) (by omega)) ?_;rintro v u m rfl;apply aL 2 [0] m;simp only[↓Z];refine dH O ?_ ?_<;>intro T
   .apply F 8 [0,0,0] m;simp only[↓Z,yM,yN,ab,ae];refine⟨_,λu m=>(lA2 (v:=pt (ade e j)) ((ajQ (((m.o 0 O).lat (enc:=dE) (λ_=>rfl) (by decide)).at q) s).lies aM aD)),by omega,?_⟩;refine lF O ?_;intro u g1 d g z;replace m:=m.newB d g z;simp only[J];refine bJ m 2 O O eL mB O (by decide) O O O (m.b 0 O).rowsO (fU O) (by omega) (by omega) ?_;intro a c u m;simp only[zF,zG] at m;rw[show ys.flatMap cM++_=(ys++[ade e j]).flatMap cM by rw[au];rfl] at m;have t:ys.length+1=(ys++[ade e j]).length:=by simp
    rw[t] at m;rw[t];apply aL 8 [0] m;simp only[↓Z];apply R;omega;exact r (2-(j+1)) _ _ (by omega) (by kernel_rfl) ⟨j+1,ys++[ade e j],_,_,O,(m.sel [X7,N,N]),(by rw[a_];simp only[bh,dv];omega),by omega,rfl⟩
   apply F 7 [0] m;simp only[↓Z];apply R;omega;exact r (2-(j+1)) _ _ (by omega) (by kernel_rfl) ⟨j+1,ys,_,_,O,m,(by omega),by omega,O⟩
  obtain rfl:j=2:=by omega
  apply F 7 [0] m;simp only[↓Z];apply R;omega;exact C (es.length-(k+1)) _ _ (by omega) (by kernel_rfl) ⟨k+1,ys,_,_,O,m,by omega,by omega,O⟩
 obtain rfl:k=es.length:=by omega
 apply F 7 [] m;simp only[↓Z];exact aS O O ⟨_,O,m.ext,xs,⟨_,_,_,O,O,(m.o 1 O)⟩,by omega⟩
def asr{a b:Iv}(h:¬bV (a.c-b.c)=0):decide (bV (a.c-b.c)<0)=decide (a.Lt b):=by
 have d:a.c-b.c≠0:=λe=>h (cK.2 e);have f:bV (a.c-b.c)<0↔a.c<b.c:=by
  have:=rS (n:=a.c-b.c);have:=cK (n:=a.c-b.c);omega
 refine decide_eq_decide.2 (f.trans ⟨.inl,λk=>k.resolve_right λe=>d (by omega)⟩)
def ass{a b:Iv}(h:bV (a.c-b.c)=0)(e:¬a.u=b.u):decide (a.u.Lt b.u)=decide (a.Lt b):=by
 have d:a.c=b.c:=by have:=cK.1 h;omega
 refine decide_eq_decide.2 ⟨λk=>.inr ⟨d,.inl k⟩,λk=>?_⟩;rcases k with k|⟨_,k|⟨k,_⟩⟩
 .omega
 .exact k
 exact Y0 k e
def ast{a b:Iv}(h:bV (a.c-b.c)=0)(d:a.u=b.u):decide (a.v.Lt b.v)=decide (a.Lt b):=by
 have e:a.c=b.c:=by have:=cK.1 h;omega
 refine decide_eq_decide.2 ⟨λk=>.inr ⟨e,.inr ⟨d,k⟩⟩,λk=>?_⟩;rcases k with k|⟨_,k|⟨_,k⟩⟩
 .omega
 .exact Y0 (d▸k) (Y.lt_irrefl _)
 exact k
def fnd(ps:List Y)(p:Y):Nat:=ps.findIdx λx=>decide (x=p)
def Zr{p:Y}(h:p∈ps):ps[fnd ps p]? = H p:=by
 have a:fnd ps p<ps.length:=List.findIdx_lt_length_of_exists ⟨p,h,by simp⟩;rw[ah a];have:=List.findIdx_getElem (w:=a);simp only[Y2] at this;exact Y1 H this
def ap5{p:Y}(c:p∉ps.take k)(a:ps[k]? = H x)(d:x=p):fnd ps p=k:=by
 subst d;obtain⟨b,e⟩:=av.1 a;unfold fnd;rw[List.findIdx_eq b];refine⟨by simpa using e,λj g=>?_⟩;have f:ps[j]≠x:=λe=>c (by rw[<-e];exact List.mem_take_iff_getElem.2 ⟨j,by omega,O⟩);simpa using f
def abu{p q:Iv}(f:Bd 900000 p.c)(g:Bd 900000 q.c):dO X9 193 [abc p,abc q] (.bool (decide (p.Lt q))):=by
 intro w;refine⟨bP func193 (by kernel_rfl),?_⟩;have m:=Mem.refl w
 go_enter func193,ntmps193
 apply gJ 12 [2,1,0] m;simp only[↓Z,↓iH,aiq,cB,aa];intro g1 g2 u m;refine iE m O O (aiO (a:=p.c) (b:=q.c) f g) 8 [0,0] ?_;simp only[↓Z];intro u m;refine aZ O ?_ ?_<;>intro i
 .apply F 7 [0] m;simp only[↓Z];refine aS O O ?_;try simp only[zD,zE]
  exact⟨_,O,m.ext,by rw[asr i]⟩
 apply F 10 [2,1,0] m;simp only[↓Z,↓iH,Qr,aW,aa];refine⟨_,pK,?_⟩;refine aZ O ?_ ?_<;>intro d
 .have e:¬p.u=q.u:=λh=>d (by rw[h];exact⟨O,O,O⟩);apply F 6 [2,1,0] m;simp only[↓Z,↓iH,Qr,aW,aa];refine iE m O O lB 3 [] ?_;simp only[↓Z];intro u m;refine aS O O ?_;try simp only[zD,zE]
  exact⟨_,O,m.ext,by rw[ass (by omega) e]⟩
 have d:=Classical.not_not.1 d;have e:p.u=q.u:=Y.eq d.1 d.2.1 d.2.2;apply F 7 [2,1,0] m;simp only[↓Z,↓iH,aa2,aW,aa];refine iE m O O lB 3 [] ?_;simp only[↓Z];intro u m;refine aS O O ?_;try simp only[zD,zE]
 exact⟨_,O,m.ext,by rw[ast (by omega) e]⟩
def Nq{Q:Y->List Int}{p:Y}(w:an)(f:kO (yV Q) 23 w A vi ps)(B:vi<=100000000)(o:p∈ps):cX X9 148 [.slice A vi cap,pt p] w (λv _=>v=U ((fnd ps p:Nat):Int)):=by
 refine⟨bP func148 (by kernel_rfl),?_⟩;have m:=Mem.refl w;have I:=f.len
 go_enter func148,ntmps148
 apply gJ 11 [0] m;simp only[↓Z,↓iH];intro g1 u m;refine bT [5] [4,6,7,8,9,10,11,12,13,14,15,16,17,18,19] (λn vs q=>∃(k:Nat),vs=[U (k:Int)]/\Mem w q [bI g1 [U p.x,U p.y,U p.z] 41]/\(p∉ps.take k)/\(k<=vi)/\(n=vi-k)) ?_ ?_
 .exact⟨_,0,O,m,(by simp),bm _,O⟩
 intro n vs E l u t r
 obtain⟨k,rfl,m,c,C,D⟩:=l;simp only[zu,zF,zG];apply F 8 [0,0] m;simp only[↓Z,apc];refine aZ O ?_ ?_<;>intro G
 .obtain⟨x,g,a,j,s⟩:=f.get (i:=k) (by omega);subst j;apply F 4 [0] m;simp only[↓Z];refine mq m aB (by kernel_rfl) (cW 7 [0,0,1] ?_);simp only[↓Z,↓iH,ail,aim,aW,ab,ae,aa];refine⟨_,λu m=>(show eZ _ _ _ _ (pt x) from ((s.ext m.ext).take 3).lies aM aD),_,fX,by omega,?_⟩;refine bD ?_;intro u m;refine gc (aZ O (λb=>?_) (λb=>?_))
  .have d:x=p:=Y.eq b.1 b.2.1 b.2.2;apply F 6 [] m;simp only[↓Z];refine aS O O ?_;try simp only[zD,zE]
   exact⟨_,O,m.ext,by rw[ap5 c g d]⟩
  have d:x≠p:=λh=>b (by rw[h];exact⟨O,O,O⟩);apply F 7 [0] m;simp only[↓Z];apply R;omega;exact r (vi-(k+1)) _ _ (by omega) (by kernel_rfl) ⟨k+1,O,m,(by rw[cZ g,bz,cr];exact λh=>h.elim c λe=>d e.symm),by omega,O⟩
 exact Y0 o (by rwa [ap (by omega)] at c)
def ajR(w:an)(f:cI w A vi ts)(D:vi<=10000000):cX X9 194 [.slice A vi cap] w (λv _=>∃b,v=.bool b):=by
 refine⟨bP func194 (by kernel_rfl),?_⟩;have m:=Mem.refl w;have T:=f.len
 go_enter func194,ntmps194
 apply iD 10 [0] m;simp only[↓Z];refine bT [3] [2,4,5,6,7,8,9,10,11,12,13,14,15,16,17,18,19,20,21,22,23,24,25,26,27,28,29,30,31,32,33,34,35,36,37,38,39,40,41,42,43,44,45,46,47,48,49] (λn vs g=>∃(i:Nat),vs=[U (i:Int)]/\Mem w g []/\(i<=vi)/\(n=vi-i)) ?_ ?_
 .exact⟨_,0,O,m,bm _,O⟩
 intro n vs q e u z x
 obtain⟨i,rfl,m,G,I⟩:=e;simp only[zu,zF,zG];apply F 8 [0,0] m;simp only[↓Z,gN];refine aZ O ?_ ?_<;>intro M
 .obtain⟨t,L,_,a,l,h⟩:=f.get (i:=i) (by omega);apply F 8 [0] m;simp only[↓Z];refine bT [4] [2,11,12,13,14,15,16,17,18,19,20,21,22,23,24,25,26,27,28,29,30,31,32,33,34,35,36,37,38,39,40,41,42,43,44,45,46,47,48,49] (λn vs g=>∃(j:Nat),vs=[U (j:Int)]/\Mem w g []/\(j<=i)/\(n=i-j)) ?_ ?_
  .exact⟨_,0,O,m,bm _,O⟩
  intro n vs q e u B y
  obtain⟨j,rfl,m,E,S⟩:=e;simp only[zu,zF,zG];apply F 7 [0,0] m;simp only[↓Z];refine aZ O ?_ ?_<;>intro P
  .obtain⟨s,K,_,o,r,k⟩:=f.get (i:=j) (by omega);obtain rfl:a=o:=lc (l.symm.trans r);subst l;apply F 4 [0] m;simp only[↓Z];refine mq m aB (by kernel_rfl) (cW 9 [0,0,0,1] ?_);simp only[↓Z,eY,cD,ab,ae,ac,C,aa];refine⟨_,λu m=>(show eZ _ _ _ _ (pt t.a) from ((h.ext m.ext).take 3).lies aM aD),_,λu m=>((k.ext m.ext).lies eD bK),by omega,?_⟩;refine X O O (Ma (t:=s) (p:=t.a)) (aK aF (cU O (λd=>aF) (cU O (λd=>aF) ?_)));simp only[J];refine cU O (λd=>aN gB bK (cG d O) (cG d O) (by omega) (by omega) (kV (ab _))) (cU O (λd=>aR fR aD (cG d O) O (by decide) (by decide) O) ?_);simp only[J];refine jR O (λd u m=>cT (cG d O) (show eZ _ _ _ _ (pt t.b) from (((h.ext m.ext).sub 3).take 3).lies aM aD)) (cU O (λd=>aF) (cU O (λd=>aF) ?_));simp only[J];refine cU O (λd=>aN gB bK (cG d O) (cG d O) (by omega) (by omega) (kV (ab _))) ?_;simp only[J];refine jR O (λd u m=>cT (cG d O) ((k.ext m.ext).lies eD bK)) (ady O O (λd=>by simp only[eo,df,fj,zA,zB,zC,zD,zE,d,lL];rfl) (λd=>Ma (t:=s) (p:=t.b)) (aK (fB rfl rfl rfl) (aK aF (cU rfl (λd=>aF) ?_))));simp only[J];refine cU O (λd=>aF) ?_;simp only[J];refine cU O (λd=>aN gB bK (cG d O) (cG d O) (by omega) (by omega) (kV (ab _))) (cU O (λd=>aR fR aD (cG d O) O (by decide) (by decide) O) ?_);simp only[J];refine jR O (λd u m=>cT (cG d O) (show eZ _ _ _ _ (pt t.c) from (((h.ext m.ext).sub 6).take 3).lies aM aD)) (cU O (λd=>aF) (cU O (λd=>aF) ?_));simp only[J];refine cU O (λd=>aN gB bK (cG d O) (cG d O) (by omega) (by omega) (kV (ab _))) ?_;simp only[J];refine jR O (λd u m=>cT (cG d O) ((k.ext m.ext).lies eD bK)) (ady O O (λd=>by simp only[eo,df,fj,zA,zB,zC,zD,zE,d,lL];rfl) (λd=>Ma (t:=s) (p:=t.c)) (aK (fB rfl rfl rfl) (bD ?_)));intro u m;refine gc ?_;simp only[J];refine dH O ?_ ?_<;>intro Q
   .apply F 5 [] m;simp only[↓Z];exact aS O O ⟨_,O,m.ext,_,O⟩
   apply F 7 [0] m;simp only[↓Z];apply R;omega;exact y (i-(j+1)) _ _ (by omega) (by kernel_rfl) ⟨j+1,O,m,by omega,O⟩
  obtain rfl:i=j:=by omega
  apply F 7 [0] m;simp only[↓Z];apply R;omega;exact x (vi-(i+1)) _ _ (by omega) (by kernel_rfl) ⟨i+1,O,m,by omega,O⟩
 obtain rfl:i=vi:=by omega
 apply F 6 [] m;simp only[↓Z];exact aS O O ⟨_,O,m.ext,_,O⟩
def Co(l:List T3)(p:Y):(mL l p).length<=3*l.length:=by
 have a:=List.Nodup.length_le_of_subset (afx l p) (l₂:=pQ l) λx c=>by
  have h:=ad8.1 c;simp only[nbB,ck,Ak,List.any_eq_true] at h;obtain⟨_,t,b,h⟩:=h;exact Hq b h.2
 rw[Yj] at a;omega
def ajS{p:Y}(w:an)(e:cI w A vi ts)(P:vi<=1000000):cX X9 195 [.slice A vi cap,pt p,pt q] w (λv _=>∃b,v=.bool b):=by
 refine⟨bP func195 (by kernel_rfl),?_⟩;have m:=Mem.refl w;have ak:=e.len;have ai:=Co ts p;have aj:=Co ts q
 go_enter func195,ntmps195
 apply gJ 9 [0] m;simp only[↓Z];intro g1 g2 u m;refine bB O O (Zq _ (e.ext m.ext) (by omega)) ?_;rintro v u c ⟨bs,⟨g,l,V,E,rfl,d⟩,aa⟩;replace m:=m.newO c d;subst E;apply aL 7 [2,0] m;simp only[↓Z,aW];refine bY m O O (oW (p:=q) _ ((m.o 0 O).lat (enc:=cM) (λ_=>rfl) (by decide)) (by omega)) ?_;rintro v u m rfl;apply aL 2 [0] m;simp only[↓Z];refine dH O ?_ ?_<;>intro ad
 .apply F 5 [] m;simp only[↓Z];exact aS O O ⟨_,O,m.ext,_,O⟩
 apply F 5 [3,0] m;simp only[↓Z,aW];refine bB O O (Sa (p:=p) _ (e.ext m.ext) (by omega)) ?_;rintro v u c ⟨i,r,W,G,rfl,d⟩;replace m:=m.newO c d;subst G;apply aL 6 [3,0] m;simp only[↓Z,aW];refine bB O O (Sa (p:=q) _ (e.ext m.ext) (by omega)) ?_;rintro v u c ⟨j,s,X,I,rfl,d⟩;replace m:=m.newO c d;subst I;apply aL 8 [0] m;simp only[↓Z];refine bT [10] [6,23,24,25,26,27,28,29,30,31,32,33,34,35,36,37,38,39,40,41,42,43,44,45,46,47,48,49,50,51] (λn vs B=>∃(k:Nat),vs=[U (k:Int)]/\Mem w B [oI 41 3 j (mL ts q).length s ((mL ts q).flatMap cM),oI 41 3 i (mL ts p).length r ((mL ts p).flatMap cM),oI 41 3 g bs.length l (bs.flatMap cM),bI g2 [U q.x,U q.y,U q.z] 41]/\(k<=(mL ts p).length)/\(n=(mL ts p).length-k)) ?_ ?_
 .exact⟨_,0,O,(m.sel [N,N,N,N,X7]),bm _,O⟩
 intro n vs wr t u L C
 obtain⟨k,rfl,m,Q,T⟩:=t;simp only[zu,zF,zG];apply F 8 [0,0] m;simp only[↓Z,gZ];refine aZ O ?_ ?_<;>intro af
 .have D:k<(mL ts p).length:=by omega
  obtain⟨x,f⟩:∃x,(mL ts p)[k]? = H x:=⟨_,ah D⟩
  obtain⟨M,rfl⟩:=(m.o 1 rfl).some (by omega);apply F 4 [0] m;simp only[↓Z];refine mh m [N,N,N,N] [(0,N),(1,N),(2,N),(3,N),(4,N),(5,N),(6,N),(7,N),(8,N),(9,N),(10,N),(11,N),(12,X7),(13,N),(14,N),(15,N),(16,N),(17,N),(18,N),(19,N),(20,X7),(21,N),(22,N)] aB (by kernel_rfl) (bR (λ_ _ _ _ _ h=>h)) (ol:=?_) ?K ?_
  case K=>simp only[zw,zQ,zR];try rfl
  intro u m;refine tL 7 [0,0,4] ?_;simp only[↓Z,gK,aW,ab,ae];refine⟨_,λu m=>(lA (v:=pt x) ((((m.o 1 O).lat (enc:=cM) (λ_=>rfl) (by decide)).at f).lies aM aD)),_,pK,by omega,?_⟩;refine oD O (λa=>aF) (oD O (λa=>aF) (oD O (λa=>aF) ?_));simp only[J];refine oD O (λa=>aN eL aD (cG a O) (cG a O) (by omega) (by omega) (kV (ab _))) ?_;simp only[J];refine Nb O (λa u m=>cT (cG a O) (show eZ _ _ _ _ (pt x) from (((m.o 1 O).lat (enc:=cM) (λ_=>rfl) (by decide)).at f).lies aM aD)) (bX (rL m O O (λa=>by simp only[eo,df,fj,zA,zB,zC,zD,zE,a,lL];rfl) (λa=>oW (p:=x) _ ((m.o 2 rfl).lat (enc:=cM) (λ_=>rfl) (by decide)) (by omega)) ?_));intro u m;refine S ⟨m,?_⟩;refine aV (fB O O O) (aV aF (oD O (λa=>aF) ?_));simp only[J];refine oD O (λa=>aF) (oD O (λa=>aF) ?_);simp only[J];refine oD O (λa=>aN eL aD (cG a O) (cG a O) (by omega) (by omega) (kV (ab _))) ?_;simp only[J];refine Nb O (λa u m=>cT (cG a O) (show eZ _ _ _ _ (pt x) from (((m.o 1 O).lat (enc:=cM) (λ_=>rfl) (by decide)).at f).lies aM aD)) (bX (rL m O O (λa=>by simp only[eo,df,fj,zA,zB,zC,zD,zE,a,lL];rfl) (λa=>oW (p:=x) _ ((m.o 0 rfl).lat (enc:=cM) (λ_=>rfl) (by decide)) (by omega)) ?_));intro u m;refine S ⟨m,?_⟩;refine oD O (λa=>sT (cG a O)) (aV (fB O O O) (aT (gc ?_)));simp only[J];refine dH O ?_ ?_<;>intro ag
  .apply F 5 [] m;simp only[↓Z];exact aS O O ⟨_,O,m.ext,_,O⟩
  apply F 7 [0] m;simp only[↓Z];apply R;omega;exact C ((mL ts p).length-(k+1)) _ _ (by omega) (by kernel_rfl) ⟨k+1,O,m,by omega,O⟩
 obtain rfl:k=(mL ts p).length:=by omega
 apply F 6 [] m;simp only[↓Z];exact aS O O ⟨_,O,m.ext,_,O⟩
def aet{P:Program}{a:Addr}{Q:Y->List Int}{T:TypeId}(h:kO (yV Q) 23 w (H a) vi ps)(f:ps[k]? = H x)(e:(Q x).length=10)(c:fG P T N)(d:dW P T 20):eZ P w T ((a.add (k*23)).add 3) (qV (Q x)):=by
 have b:iX w ((a.add (k*23)).add 3) (qC (Q x)):=(h.at f).sub 3;exact b.lies c (by rw[sP,e];exact d)
def Nr{w0:an}{S:List (Option Nat)}{E:TypeId}{cs:List Iv}(h:Ow w0 w S E 8 (H ⟨g,0,X8⟩) n cap (cs.flatMap rF))(a:cs[k]? = H c):iX w ⟨g,k*8,X8⟩ (rF c):=by
 have:=(h.lat (enc:=rF) (λ_=>rfl) (by decide)).at a;rwa [cA,ae] at this
def mV{w0:an}{S:List (Option Nat)}{E:TypeId}{p:Y}(h:Ow w0 w S E 3 (H ⟨g,0,X8⟩) n cap (ps.flatMap kS))(a:ps[k]? = H p):iX w ⟨g,k*3,X8⟩ (kS p):=by
 have:=(h.lat (enc:=kS) (λ_=>rfl) (by decide)).at a;rwa [cA,ae] at this
def ans{q:List Iv}{y:Iv}:(q++[y]++c::r)[q.length+1]? = H c:=by
 rw[show q.length+1=(q++[y]).length by simp];exact aem
def ant{q:List Iv}{y:Iv}:(q++[y]++c::r)[q.length]? = H y:=by
 rw[di];exact aem
def arE{q:List Iv}{y:Iv}:over ((q++[y]++c::r).flatMap rF) ((q.length+1)*8) (rF y)=(q++[y]++y::r).flatMap rF:=by
 rw[yU (enc:=rF) (c:=8) (λ_=>rfl) (by simp),show q.length+1=(q++[y]).length by simp,ael]
def arF{q:List Iv}{y:Iv}:over ((q++[y]++y::r).flatMap rF) (q.length*8) (rF c)=(q++c::y::r).flatMap rF:=by
 rw[yU (enc:=rF) (c:=8) (λ_=>rfl) (by simp),di];exact Y1 (List.flatMap rF) ael
def OkC(l:List T3)(c:Iv):Prop:=nbB l c.u c.v=N/\Bd 900000 c.c
def afU{l:List T3}{M c2 I c3:Nat}{A2 A3:Option Addr}{bs:List Y}{Q:Y->List Int}(w:an)(K:cI w A vi l)(hN:vi<=2000)(t:kO (yV Q) 23 w A2 M ps)(hM:M<=100000000)(hF:kO cM 3 w A3 I bs)(al:I<=100000000)(ar:∀x,x∈pQ l->x∈ps)(a:∀x,(Q x).length=10)(G:∀x,Ka 700000 (Q x)):cX X9 145 [.slice A vi cap,.slice A2 M c2,.slice A3 I c3] w (λv w'=>∃cs:List Iv,SL 228 8 (cs.flatMap rF) cs.length w v w'/\(∀d∈cs,OkC l d)/\cs.length<=100000000):=by
 refine⟨bP func145 (by kernel_rfl),?_⟩;have m:=Mem.refl w;have bc:=K.len;have bf:=uX l;have ag:=t.len;have aW:=K.it
 go_enter func145,ntmps145
 apply iD 6 [0] m;simp only[↓Z];refine aA aI ?_;replace m:=m.nilO 228 8;apply aL 4 [0] m;simp only[↓Z];refine bB O O (Kg _ (K.ext m.ext) (by omega)) ?_;rintro v u s ⟨A8,T,n8,aY,rfl,C⟩;replace m:=m.newO s C;subst aY;apply aL 8 [0] m;simp only[↓Z];refine bT [7,9] [10,11,12,13,14,15,16,19,20,21,22,23,24,25,26,27,28,29,30,31,32,33,34,35,36,37,38,39,40,41,42,43,44,45,46,47,48,49,50,51,52,53,54,55,56,57,58,59,60,61,62,63,64,65,66,67,68,69,70,71,72,73,74,75,76,77,78,79,80,81,82,83,84,85,86,87,88,89,90,91,92,93,94,95,96,97,98,99,100,101,102,103,104,105,106,107,108,109,110,111,112,113,114,115,116,117,118] (λn vs E=>∃(k:Nat)(cs:List Iv)(i:Option Addr)(g:Nat),vs=[.slice i cs.length g,U (k:Int)]/\Mem w E [oI 41 3 A8 (bM l).length T ((bM l).flatMap kS),oI 228 8 i cs.length g (cs.flatMap rF)]/\(∀c∈cs,OkC l c)/\(cs.length<=k*6000)/\(k<=(bM l).length)/\(n=(bM l).length-k)) ?_ ?_
 .exact⟨_,0,[],_,_,rfl,m,(λc h=>by cases h),bm _,bm _,rfl⟩
 intro n vs wr B u K1 ai
 obtain⟨k,cs,i,g,rfl,m,z,aR,hk,hn⟩:=B;simp only[zu,zF,zG];apply F 8 [0,0] m;simp only[↓Z,gZ];refine aZ O ?_ ?_<;>intro a3
 .obtain⟨x,D⟩:∃x,(bM l)[k]? = H x:=⟨_,ah (by omega)⟩
  obtain⟨g8,rfl⟩:=(m.o 0 rfl).some (by omega);have aw:=ar x (rX.1 (ak D));have ao:=Zr aw;have aU:fnd ps x<M:=by rw[<-ag];exact (av.1 ao).1
  obtain⟨_,_,a2,aJ,_⟩:=t.get aU;subst aJ;apply F 11 [0,0,0] m;simp only[↓Z,↓iH,gK,ab,ae];refine⟨_,λu m=>(show eZ _ _ _ _ (pt x) from (mV (m.o 0 O) D).lies aM aD),by omega,?_⟩;refine bY m O O (oW (p:=x) _ (hF.ext m.ext) (by omega)) ?_;rintro v u m rfl;apply aL 1 [0] m;simp only[↓Z];refine dH O ?_ ?_<;>intro a4
  .apply F 6 [0] m;simp only[↓Z];apply R;omega;exact ai ((bM l).length-(k+1)) _ _ (by omega) (by kernel_rfl) ⟨k+1,cs,_,_,O,m,z,(by omega),(by omega),O⟩
  apply F 8 [0,0,0] m;simp only[↓Z,↓iH,gK,ab,ae];refine⟨_,λu m=>(show eZ _ _ _ _ (pt x) from (mV (m.o 0 O) D).lies aM aD),by omega,?_⟩;refine bB O O (Sa (p:=x) _ (K.ext m.ext) (by omega)) ?_;rintro v u s ⟨az,af,bd,a1,rfl,C⟩;replace m:=m.newO s C;subst a1;have ba:=Co l x;apply aL 10 [0,0,0] m;simp only[↓Z,↓iH,gK,ab,ae];refine⟨_,λu m=>(show eZ _ _ _ _ (pt x) from (mV (m.o 1 O) D).lies aM aD),by omega,?_⟩;refine bY m O O (Nq (p:=x) (Q:=Q) _ (t.ext m.ext) (by omega) aw) ?_;rintro v u m rfl;apply aL 2 [0] m;simp only[↓Z,↓iH,ail,ain,ab,ae,aa];apply R;omega;refine bA O (aet (t.ext m.ext) ao (a x) pA fC) ?_;simp only[J];apply kZ 1 [0] m;simp only[↓Z,↓iH,Yt];intro g1 u m;refine Hr (n:=20) m 0 O O O (by rw[a]) O fC ?_;intro u m;simp only[zF,zG] at m;apply aL 6 [0] m;simp only[↓Z];refine bT [7,12] [13,14,15,16,47,48,49,50,51,52,53,54,55,56,57,58,59,60,61,62,63,64,65,66,67,68,69,70,71,72,73,74,75,76,77,78,79,80,81,82,83,84,85,86,87,88,89,90,91,92,93,94,95,96,97,98,99,100,101,102,103,104,105,106,107,108,109,110,111,112,113,114,115,116,117,118] (λn vs E=>∃(j:Nat)(ds:List Iv)(i:Option Addr)(g:Nat),vs=[.slice i ds.length g,U (j:Int)]/\Mem w E [bI g1 (qC (Q x)) 221,oI 41 3 az (mL l x).length af ((mL l x).flatMap cM),oI 41 3 (H ⟨g8,0,X8⟩) (bM l).length T ((bM l).flatMap kS),oI 228 8 i ds.length g (ds.flatMap rF)]/\(∀c∈ds,OkC l c)/\(ds.length<=k*6000+j)/\(j<=(mL l x).length)/\(n=(mL l x).length-j)) ?_ ?_
  .exact⟨_,0,cs,_,_,O,m,z,aR,bm _,O⟩
  intro n vs wr B u K2 aj
  obtain⟨j,ds,i,g,rfl,m,z,be,hj,a8⟩:=B;simp only[zu,zF,zG];apply F 8 [0,0] m;simp only[↓Z,gZ];refine aZ O ?_ ?_<;>intro a5
  .obtain⟨y,P⟩:∃y,(mL l x)[j]? = H y:=⟨_,ah (by omega)⟩
   obtain⟨aE,rfl⟩:=(m.o 1 rfl).some (by omega);have aq:=ad8.1 (ak P);have ax:=(acZ aq).2;haveI:=yT aW ax;have ay:=ar y ax;have ap:=Zr ay;have bg:fnd ps y<M:=by rw[<-ag];exact (av.1 ap).1
   apply F 4 [0] m;simp only[↓Z];refine dR 13 [0,1,2,3,4,5,6,7,8,9,10,11] [⟨12,13,221,[.bool X7,.string ⟨#[]⟩,.bool X7,.string ⟨#[]⟩,.bool X7,.string ⟨#[]⟩,.bool X7,.string ⟨#[]⟩,.bool X7,.string ⟨#[]⟩,.bool X7,.string ⟨#[]⟩,.bool X7,.string ⟨#[]⟩,.bool X7,.string ⟨#[]⟩,.bool X7,.string ⟨#[]⟩,.bool X7,.string ⟨#[]⟩]⟩] aB (by kernel_rfl) (al1 ⟨_,_,_,O,by kernel_rfl,_,aaB,O⟩) (ol:=?_) ?ad ?_
   case ad=>simp only[zw,zQ,zR];try rfl
   intro u s;replace m:=m.ext' s;refine dA O (λu e=>(Fm ((m.ext' e).b 0 O) pA fC (by rw[a]))) ?_;simp only[J];refine gA aF (gA aF (gA aF (gA aF ?_)));simp only[J];refine gA (aN eL aD O O (by omega) (by omega) (Eu (ab _))) ?_;simp only[J];refine dA O (λu e=>(show eZ _ _ _ _ (pt y) from (mV ((m.ext' e).o 1 O) P).lies aM aD)) ?_;simp only[J];refine adp O O (λu e=>Nq (p:=y) (Q:=Q) _ (t.ext (m.ext' e).ext) (by omega) ay) ?_;simp only[J];refine gA (aN Jk Dg O O (by omega) (by omega) (kV (ab _))) (gA (aO (c:=19) underlying224 O fC O O) ?_);simp only[J];refine dA O (λu e=>(aet (t.ext (m.ext' e).ext) ap (a y) pA fC)) ?_;simp only[J];refine cY O O (Ry (a x) (a y) (G x) (G y) (by omega)) (rN ?_);simp only[J];refine mf1 m ?_;intro g2 u m;simp only[zJ,zK,zF,zG];refine Hr (n:=20) m 0 O O O (by rw[kG (a x) (a y)]) O fC ?_;intro u m;simp only[zF,zG] at m;refine S ?_;apply aQ 1 [0] m;simp only[↓Z];refine mh m [N,N,N,N,X7] [(0,N),(1,N),(2,N),(3,N),(5,N),(6,N),(7,N),(10,N),(11,N),(12,N),(4,N),(8,N),(9,N),(13,N),(14,X7),(15,N),(16,X7),(17,X7),(18,N)] aB (by kernel_rfl) (bR (λ_ _ _ _ _ h=>h)) (ol:=?_) ?ad ?_
   case ad=>simp only[zw,zQ,zR];try rfl
   intro u m;refine tL 12 [0,0,0,0] ?_;simp only[↓Z,↓iH,gK,ab,ae];refine⟨_,λu m=>(show eZ _ _ _ _ (pt x) from (mV (m.o 3 O) D).lies aM aD),_,λu m=>(show eZ _ _ _ _ (pt y) from (mV (m.o 2 O) P).lies aM aD),by omega,?_⟩;refine eK O (λu m=>(Fm (m.b 0 O) pA fC (by rw[kG (a x) (a y)]))) ?_;simp only[J];refine tL 1 [0,0] ?_;simp only[↓Z,↓iH];refine⟨_,λu m=>(show eZ _ _ _ _ (pt y) from (mV (m.o 2 O) P).lies aM aD),?_⟩;refine bX (eV m O O (amd (q:=Cd (Q x) (Q y)) (p:=y) ((Ni (G x) (G y)).mono (by omega)) (kG (a x) (a y))) ?_);intro u m;refine S ⟨m.sel [N,N,N,N,X7],?_⟩;refine aV (Hg O O O) (bX ?_);simp only[J];refine acw O ?_;intro u g3 s C k_;replace m:=m.newB s C k_;refine S ⟨m.sel [X7,N,N,N,N,X7],?_⟩;refine bX ?_;simp only[J];refine bJ m 5 O O underlying225 ak6 O (by decide) O O O (m.b 0 O).rowsO (fU O) (by omega) (by omega) ?_;intro i g u m;simp only[zF,zG] at m;obtain⟨c,V⟩:∃c:Iv,c=⟨x,y,ah4 Q x y⟩:=⟨_,rfl⟩
   rw[show ds.flatMap rF++_=(ds++c::[]).flatMap rF by rw[au,V];rfl] at m;obtain⟨g9,rfl⟩:=(m.o 5 rfl).some (by omega);have am:Bd 900000 c.c:=by rw[V];exact alX a G (by omega) x X3
   have a0:OkC l c:=⟨by rw[V];exact aq,am⟩
   refine S ?_;refine⟨m.sel [X7,N,N,N,N,X7],?_⟩;refine aV aI (aT ?_);apply aQ 7 [] m;simp only[↓Z,aio];apply R;omega;rw[show ((ds.length+1:Nat):Int)-1=(ds.length:Int) by omega];apply aQ 1 [0] m;simp only[↓Z];refine bT [14] [15,16,86,87,88,89,90,91,92,93,94,95,96,97,98,99,100,101,102,103,104,105,106,107,108,109,110,111,112,113,114,115,116,117,118] (λn vs E=>∃(pre post:List Iv),vs=[U (pre.length:Int)]/\Mem w E [bI g1 (qC (Q x)) 221,oI 41 3 (H ⟨aE,0,X8⟩) (mL l x).length af ((mL l x).flatMap cM),oI 41 3 (H ⟨g8,0,X8⟩) (bM l).length T ((bM l).flatMap kS),oI 228 8 (H ⟨g9,0,X8⟩) (ds.length+1) g ((pre++c::post).flatMap rF)]/\((∀d∈pre++c::post,OkC l d)/\(pre++post).length=ds.length)/\(n=pre.length)) ?_ ?_
   .exact⟨_,ds,[],O,(m.sel [X7,X7,N,N,N,N]),⟨λd L=>(bz.1 L).elim (z d) λh=>by rw[cr.1 h];exact a0,by simp⟩,O⟩
   intro n vs wr B u I al
   obtain⟨pre,post,rfl,m,r,aX⟩:=B;simp only[zu,zF,zG];apply F 6 [0,0] m;simp only[↓Z];refine aZ O ?_ ?_<;>intro a6
   .obtain⟨q,f,rfl⟩:=al0 (l:=pre) (by omega);rw[show (q++[f]).length=q.length+1 by simp];have a9:n=q.length+1:=by simpa using aX
    have bb:q.length+1+post.length=ds.length:=by have:=r.2;simp at this;omega
    have aP:Bd 900000 f.c:=(r.1 f (by simp)).2;apply F 4 [0] m;simp only[↓Z];refine mq m aB (by kernel_rfl) (cW 3 [] ?_);simp only[↓Z,↓iH,Qp,ab,ae];apply R;omega;refine ql O (λu m=>(show eZ _ _ _ _ (abc c) from (Nr (m.o 3 O) ans).lies Ng nU)) ?_;simp only[J];refine cW 3 [] ?_;simp only[↓Z];apply R;omega;refine aK (aN underlying225 nU O O (by omega) (by omega) (Eu (show ji (((q.length+1:Nat):Int)-1)=q.length by omega))) ?_;simp only[J];refine ql O (λu m=>(show eZ _ _ _ _ (abc f) from (Nr (m.o 3 O) ant).lies Ng nU)) ?_;simp only[J];refine X O O (abu (p:=c) (q:=f) am aP) (aK aI (bD ?_));intro u m;apply aQ 6 [0] m;simp only[↓Z];refine dH O ?_ ?_<;>intro a7
    .apply F 7 [0] m;simp only[↓Z];apply R;omega;have W:ds.length+1=((q++[f])++c::post).length:=by have:=r.2;simp only[a_,bh,dv] at this ⊢;omega
     rw[W] at m ⊢;exact aj ((mL l x).length-(j+1)) _ _ (by omega) (by kernel_rfl) ⟨j+1,((q++[f])++c::post),_,_,O,m,r.1,(by omega),(by omega),O⟩
    apply F 6 [0] m;simp only[↓Z,↓iH,Qp,ab,ae];apply R;omega;refine bA O (show eZ _ _ _ _ (abc c) from (Nr (m.o 3 O) ans).lies Ng nU) ?_;simp only[J];apply kZ 6 [0] m;simp only[↓Z,↓iH,apd,aip,aa];intro g4 u m;apply aQ 4 [0] m;simp only[↓Z];apply R;omega;refine aA (aN underlying225 nU O O (by omega) (by omega) (Eu (show ji (((q.length+1:Nat):Int)-1)=q.length by omega))) ?_;simp only[J];refine bA O (show eZ _ _ _ _ (abc f) from (Nr (m.o 4 O) ant).lies Ng nU) ?_;simp only[J];apply aL 1 [0] m;simp only[↓Z,↓iH,Qp,ab,ae];apply R;omega;refine kR m 4 O O O nU (show (q.length+1)*8+8<=(ds.length+1)*8 by omega) O ?_;intro u m;simp only[zF,zG] at m;rw[arE] at m;apply aL 6 [1,0] m;simp only[↓Z,↓iH,aip];apply R;omega;refine aA (aN underlying225 nU O O (by omega) (by omega) (Eu (show ji (((q.length+1:Nat):Int)-1)=q.length by omega))) ?_;simp only[J];refine kR m 4 O O O nU (show q.length*8+8<=(ds.length+1)*8 by omega) O ?_;intro u m;simp only[zF,zG] at m;rw[show over ((q++[f]++f::post).flatMap rF) (q.length*8) _=(q++c::f::post).flatMap rF by exact arF] at m;apply aL 7 [0] m;simp only[↓Z];apply R;omega;rw[show ((q.length+1:Nat):Int)-1=(q.length:Int) by omega];exact al q.length _ _ (by omega) (by kernel_rfl) ⟨q,f::post,O,(m.sel [X7,N,N,N,N]),⟨λd L=>r.1 d (by simp only[bz,List.mem_cons,List.not_mem_nil,Y3] at L ⊢;rcases L with h|h|h|h<;>simp[h]),by have:=r.2;simp at this ⊢;omega⟩,rfl⟩
   obtain rfl:pre=[]:=List.length_eq_zero_iff.1 (by omega);apply F 7 [0] m;simp only[↓Z];apply R;omega;have W:ds.length+1=([]++c::post).length:=by have:=r.2;simp only[a_,bh,dv] at this ⊢;omega
   rw[W] at m ⊢;exact aj ((mL l x).length-(j+1)) _ _ (by omega) (by kernel_rfl) ⟨j+1,([]++c::post),_,_,O,m,r.1,(by omega),(by omega),O⟩
  obtain rfl:j=(mL l x).length:=by omega
  apply F 7 [0] m;simp only[↓Z];apply R;omega;exact ai ((bM l).length-(k+1)) _ _ (by omega) (by kernel_rfl) ⟨k+1,ds,_,_,O,(m.sel [X7,X7,N,N]),z,(by omega),(by omega),O⟩
 obtain rfl:k=(bM l).length:=by omega
 apply F 7 [] m;simp only[↓Z];exact aS O O ⟨_,O,m.ext,cs,⟨_,_,_,O,O,(m.o 1 O)⟩,z,by omega⟩
def crB{u v:Y}[a:Nr4 u][b:Nr4 v]:(u.cross v).x.natAbs<=1099511627776/\(u.cross v).y.natAbs<=1099511627776/\(u.cross v).z.natAbs<=1099511627776:=by
 have c:=mU a.y b.z;have d:=mU a.z b.y;have e:=mU a.z b.x;have f:=mU a.x b.z;have g:=mU a.x b.y;have h:=mU a.y b.x;simp only[Y.cross];refine⟨?_,?_,?_⟩<;>omega
def abv{b:Int}(c:a.natAbs<=1099511627776)(d:b.natAbs<=524288) : -1152921504606846976<=a*b/\a*b<=1152921504606846976:=by
 have h:(a*b).natAbs<=1099511627776*524288:=by rw[Int.natAbs_mul];exact Nat.mul_le_mul c d
 omega
def ajT{x:Int}(h : -1152921504606846976<=x/\x<=1152921504606846976):IntKind.i64.wrap x=x:=bN (by omega) (by omega)
def ap6{x:Int}(h : -1152921504606846976<=x/\x<=1152921504606846976)(k : -1152921504606846976<=y/\y<=1152921504606846976):IntKind.i64.wrap (x+y)=x+y:=bN (by omega) (by omega)
def ap7{x z:Int}(h : -1152921504606846976<=x/\x<=1152921504606846976)(k : -1152921504606846976<=y/\y<=1152921504606846976)(l : -1152921504606846976<=z/\z<=1152921504606846976):IntKind.i64.wrap (x+y+z)=x+y+z:=bN (by omega) (by omega)
def nO{a b c d:Y}[I3 a][I3 b][I3 c][I3 d]:dO X9 252 [pt a,pt b,pt c,pt d] (U (bV (Hp a b c d))):=by
 intro w;refine⟨bP func252 (by kernel_rfl),?_⟩;have m:=Mem.refl w
 go_enter func252,ntmps252
 apply gJ 14 [4,3,2,1,0] m;simp only[↓Z,aW];intro g1 g2 n o u m;refine Fe O O O O ?_;intro u p g h i;replace m:=m.newB g h i;simp only[J];refine bY m O O (Rp (ps:=[a,b,c,d]) _ (ano (m.b 0 O)) (by decide)) ?_;rintro v u m ⟨bo,rfl,l⟩;apply aL 7 [0] m;simp only[↓Z];refine iY O ?_ ?_<;>intro j
 .have f:=l j;haveI:=f a (by simp);haveI:=f b (by simp);haveI:=f c (by simp);haveI:=f d (by simp);apply F 1 [0] m;simp only[↓Z];refine dR 8 [0,1,2,3,4,5,6] [⟨7,10,103,[U 0,U 0,U 0]⟩] aB (by kernel_rfl) (al1 ⟨_,_,_,O,by kernel_rfl,_,Bt,O⟩) (ol:=?_) ?k ?_
  case k=>simp only[zw,zQ,zR];try rfl
  intro u g;replace m:=m.ext' g;refine dA O (λu e=>(((m.ext' e).b 4 O).full aM aD)) ?_;simp only[J];refine dA O (λu e=>(((m.ext' e).b 3 O).full aM aD)) ?_;simp only[J];refine cY O O sH ?_;simp only[J];refine dA O (λu e=>(((m.ext' e).b 4 O).full aM aD)) ?_;simp only[J];refine dA O (λu e=>(((m.ext' e).b 2 O).full aM aD)) ?_;simp only[J];refine cY O O sH ?_;simp only[J];refine cY O O (Im X3 X3) (rN ?_);simp only[J];refine mf1 m ?_;intro q u m;simp only[zJ,zK,zF,zG];refine aX m 0 O O O jC (eU O) O ?_;intro u m;simp only[zy,zx,over,zF,zG,aa] at m;refine S ?_;apply aQ 4 [6,3,0] m;simp only[↓Z,aW];refine iE m O O sH 9 [0,2,1,0] ?_;simp only[↓Z,sQ,rD,gW,dN,aa,ac,C];intro r;apply R;omega;intro u m;refine aA (lT O O (ajT (abv (crB (u:=(b.sub a)) (v:=(c.sub a))).1 (show Nr4 (d.sub a) from X3).x))) ?_;apply aL 4 [2,1,0] m;simp only[↓Z,gW,dN,ac,C,aa];apply R;omega;refine aA (lT O O (ajT (abv (crB (u:=(b.sub a)) (v:=(c.sub a))).2.1 (show Nr4 (d.sub a) from X3).y))) (aA (eH O O (ap6 (abv (crB (u:=(b.sub a)) (v:=(c.sub a))).1 (show Nr4 (d.sub a) from X3).x) (abv (crB (u:=(b.sub a)) (v:=(c.sub a))).2.1 (show Nr4 (d.sub a) from X3).y))) ?_);apply aL 4 [2,1,0] m;simp only[↓Z,gW,dN,ac,C,aa];apply R;omega;refine aA (lT O O (ajT (abv (crB (u:=(b.sub a)) (v:=(c.sub a))).2.2 (show Nr4 (d.sub a) from X3).z))) (aA (eH O O (ap7 (abv (crB (u:=(b.sub a)) (v:=(c.sub a))).1 (show Nr4 (d.sub a) from X3).x) (abv (crB (u:=(b.sub a)) (v:=(c.sub a))).2.1 (show Nr4 (d.sub a) from X3).y) (abv (crB (u:=(b.sub a)) (v:=(c.sub a))).2.2 (show Nr4 (d.sub a) from X3).z))) ?_);simp only[J];refine iE m O O Dq 3 [] ?_;simp only[↓Z];intro u m;exact aS O O ⟨_,O,m.ext,O⟩
 apply F 2 [0] m;simp only[↓Z];refine mq m aB (by kernel_rfl) (ql O (λu m=>((m.b 4 O).full aM aD)) ?_);simp only[J];refine ql O (λu m=>((m.b 3 O).full aM aD)) ?_;simp only[J];refine X O O sG ?_;simp only[J];refine ql O (λu m=>((m.b 4 O).full aM aD)) ?_;simp only[J];refine ql O (λu m=>((m.b 2 O).full aM aD)) ?_;simp only[J];refine X O O sG ?_;simp only[J];refine X O O (Ro Bv.of Bv.of) ?_;simp only[J];refine ql O (λu m=>((m.b 4 O).full aM aD)) ?_;simp only[J];refine ql O (λu m=>((m.b 1 O).full aM aD)) ?_;simp only[J];refine X O O sG ?_;simp only[J];refine X O O (Fy Bv.of Bv.of) ?_;simp only[J];refine X O O (Dm K.up) (aK aI (bD ?_));intro u m;apply aQ 1 [] m;simp only[↓Z];exact aS O O ⟨_,O,m.ext,O⟩
def ajU(p q:Y):(if p.Lt q then q else p)=uP p q:=by
 unfold uP;rcases lt_tri p q with h|h|h
 .rw[Z9 h,K0 (aaT h)]
 .subst h;simp[Y.lt_irrefl]
 rw[K0 (aaT h),Z9 h]
def asu{p:Y}{b:Bool}(a:decide (q.Lt p)=b)(h:b=N):sK p q=q:=by subst a;exact Z9 (Y9 h)
def asv{p:Y}{b:Bool}(a:decide (q.Lt p)=b)(h:b=X7):sK p q=p:=by subst a;exact K0 (X5 h)
def arH{p:Y}{b:Bool}(a:decide (p.Lt q)=b)(h:b=N):uP p q=q:=by subst a;rw[<-ajU];exact Z9 (Y9 h)
def arI{p:Y}{b:Bool}(a:decide (p.Lt q)=b)(h:b=X7):uP p q=p:=by subst a;rw[<-ajU];exact K0 (X5 h)
def sJ{α β:Type}{f:β->α->β}{z:β}{l:List α}{x:α}(h:l[k]? = H x):(l.take (k+1)).foldl f z=f ((l.take k).foldl f z) x:=by rw[cZ h,ly];rfl
def Vs{xs:List Y}{a:Addr}(w:an)(s:kO cM 3 w (H a) vi (x::xs))(K:vi<=100):cX X9 260 [.slice (H a) vi cap] w (λv _=>v=.tuple #[pt (xs.foldl sK x),pt (xs.foldl uP x)]):=by
 refine⟨bP func260 (by kernel_rfl),?_⟩;have m:=Mem.refl w;have I:=s.len;simp only[bh] at I;have A:iX w (a.add (0*3)) (cM x):=s.at (i:=0) rfl
 go_enter func260,ntmps260
 apply gJ 8 [0] m;simp only[↓Z,gC];intro g1 g2 u m;refine aA (aN eL aD O O (by decide) (by omega) O) ?_;apply kZ 7 [0,0,0,0] m;simp only[↓Z,gC,aW,aa];refine⟨_,λu m=>(show eZ _ _ _ _ (pt x) from (show iX _ _ (cM x) from (A.ext m.ext)).lies aM aD),λB=>?_⟩;intro u m;refine aA (aN eL aD O O (by decide) (by omega) O) ?_;apply kZ 10 [0,0,0,0] m;simp only[↓Z,gC,aW,aa];refine⟨_,λu m=>(show eZ _ _ _ _ (pt x) from (show iX _ _ (cM x) from (A.ext m.ext)).lies aM aD),λC=>?_⟩;intro u m;refine bT [6] [7,8,15,16,17,18,19,20,21,22,23,24,25,26,27,28,29,30,31,32,33,34,35,36,37,38,39,40,41,42] (λn vs E=>∃(k:Nat),vs=[U ((k+1:Nat):Int)]/\Mem w E [bI C [U ((xs.take k).foldl uP x).x,U ((xs.take k).foldl uP x).y,U ((xs.take k).foldl uP x).z] 41,bI B [U ((xs.take k).foldl sK x).x,U ((xs.take k).foldl sK x).y,U ((xs.take k).foldl sK x).z] 41,bI g2 [U 0,U 0,U 0] 41,bI g1 [U 0,U 0,U 0] 41]/\(k<=xs.length)/\(n=xs.length-k)) ?_ ?_
 .exact⟨_,0,O,m,bm _,O⟩
 intro n vs P D u J r
 obtain⟨k,rfl,m,L,M⟩:=D;simp only[zu,zF,zG];apply F 8 [0,0] m;simp only[↓Z,gZ];refine aZ O ?_ ?_<;>intro Q
 .have G:k<xs.length:=by omega
  obtain⟨y,e⟩:∃y,xs[k]? = H y:=⟨_,ah G⟩
  have o:iX w (a.add ((k+1)*3)) (cM y):=s.at (i:=k+1) (by rw[gu];exact e);apply F 4 [0] m;simp only[↓Z];refine mq m aB (by kernel_rfl) (cW 5 [0,0,2] ?_);simp only[↓Z,gK,aW,ab,ae];refine⟨_,λu m=>(show eZ _ _ _ _ (pt y) from (o.ext m.ext).lies aM aD),by omega,?_⟩;refine X O O (lB (p:=y) (q:=(xs.take k).foldl sK x)) (aK aI (bD ?_));intro u m;apply aQ 1 [0] m;simp only[↓Z];refine mq m aB (by kernel_rfl) (cW 5 [1,0,0] ?_);simp only[↓Z,aW,gK,ab,ae];refine⟨_,λu m=>(show eZ _ _ _ _ (pt y) from (o.ext m.ext).lies aM aD),by omega,?_⟩;refine X O O (lB (p:=(xs.take k).foldl uP x) (q:=y)) (aK aI (bD ?_));intro u m;apply aQ 5 [0] m;simp only[↓Z];refine dH O ?_ ?_<;>intro t
  .have l:=asu rfl t;apply qW 11 [0,0,1,0] m;simp only[↓Z,gK,aW,ab,ae,aa];refine⟨_,λu m=>(show eZ _ _ _ _ (pt y) from (o.ext m.ext).lies aM aD),by omega,?_⟩;intro u m;refine dH O ?_ ?_<;>intro j
   .have g:=arH rfl j;apply qW 13 [0,0,0,0] m;simp only[↓Z,gK,aW,ab,ae,aa];refine⟨_,λu m=>(show eZ _ _ _ _ (pt y) from (o.ext m.ext).lies aM aD),by omega,?_⟩;intro u m;have c:=sJ (f:=sK) (z:=x) e;have d:=sJ (f:=uP) (z:=x) e;rw[l] at c;rw[g] at d;exact r (xs.length-(k+1)) _ _ (by omega) (by kernel_rfl) ⟨k+1,O,((m.re 1 O ((by rw[c];exact (m.b 1 O)))).re 0 O ((by rw[d];exact (m.b 0 O)))),by omega,O⟩
   have g:=arI rfl j;apply F 7 [0] m;simp only[↓Z];apply R;omega;have c:=sJ (f:=sK) (z:=x) e;have d:=sJ (f:=uP) (z:=x) e;rw[l] at c;rw[g] at d;exact r (xs.length-(k+1)) _ _ (by omega) (by kernel_rfl) ⟨k+1,O,((m.re 1 O ((by rw[c];exact (m.b 1 O)))).re 0 O ((by rw[d];exact (m.b 0 O)))),by omega,O⟩
  have l:=asv rfl t;apply F 5 [0] m;simp only[↓Z];refine dH O ?_ ?_<;>intro j
  .have g:=arH rfl j;apply qW 13 [0,0,0,0] m;simp only[↓Z,gK,aW,ab,ae,aa];refine⟨_,λu m=>(show eZ _ _ _ _ (pt y) from (o.ext m.ext).lies aM aD),by omega,?_⟩;intro u m;have c:=sJ (f:=sK) (z:=x) e;have d:=sJ (f:=uP) (z:=x) e;rw[l] at c;rw[g] at d;exact r (xs.length-(k+1)) _ _ (by omega) (by kernel_rfl) ⟨k+1,O,((m.re 1 O ((by rw[c];exact (m.b 1 O)))).re 0 O ((by rw[d];exact (m.b 0 O)))),by omega,O⟩
  have g:=arI rfl j;apply F 7 [0] m;simp only[↓Z];apply R;omega;have c:=sJ (f:=sK) (z:=x) e;have d:=sJ (f:=uP) (z:=x) e;rw[l] at c;rw[g] at d;exact r (xs.length-(k+1)) _ _ (by omega) (by kernel_rfl) ⟨k+1,O,((m.re 1 O ((by rw[c];exact (m.b 1 O)))).re 0 O ((by rw[d];exact (m.b 0 O)))),by omega,O⟩
 obtain rfl:k=xs.length:=by omega
 rw[ap (bg _)] at m;apply F 2 [0] m;simp only[↓Z];refine zvt [N,N,X7,X7] [[2],[1],[3],[2]] (.take 0 (.take 1 (.one 2 (.one 3 .nil)))) m aB (by kernel_rfl) (bR (λ_ _ _ _ _ h=>h)) ?_;simp only[↓Z,↓zzu,aW,aa];intro u m;apply aQ 1 [] m;simp only[↓Z];exact kN O ⟨_,O,((m.b 3 O).full aM aD)⟩ ⟨_,O,((m.b 2 O).full aM aD)⟩ ⟨_,O,m.ext,O⟩
end
end Go.Proofs.YtbbokjbcdkgfgaaGreatDoor
