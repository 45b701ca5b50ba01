/-
 Texts of one claim, laid together: Gr, Grm, Gv, Facts, Facts2, Map0, Map, Map2, Nc, Vg, Vs, Cj, Vj, Sets, Box, Wa, Wb, Wc, Wd, Dig, Dig2, Dig3, Cst, We, Wf, Wg, Wh, Wi, Ca, Near, Cb, Cc, Wk, Wl, Wm, Wn, Cd, Ce, Cf, Cg, Qd, Vt, Vu, Fa3, Rchk, K30, Bag, Pack, Pack2.
-/
import Derived.Test.YtbbokjbcdkgfgaaGreatDoorProg
import Derived.Maps.RangeRun
import Derived.Shelf.SlSortCmp.Insertion
import Derived.Test.YtbbokjbcdkgfgaaGreatDoorML1
open Nat renaming reduceAdd->aa,zero_add->ae,reduceMul->C,le_trans->ay,lt_of_lt_of_le->bc,le_refl->bg,zero_le->bm,min_eq_left->de,lt_or_ge->ej,eq_zero_or_pos->et,pow_le_pow_right->fq,pow_succ->gd,add_zero->gi,mul_zero->ja,two_pow_pos->mr,le_sub_one_of_lt->nk
open Int renaming toNat_natCast->ab,reduceToNat->ac,reduceAdd->M,natCast_mul->la
open List renaming getElem?_eq_getElem->ah,mem_of_getElem?->ak,take_of_length_le->ap,flatMap_append->au,getElem?_eq_some_iff->av,set_cons_succ->e,length_append->a_,length_take->bf,length_cons->bh,mem_cons->bl,replicate->bn,mem_cons_of_mem->br,mem_cons_self->bv,mem_append->bz,pairwise_cons->b_,mem_singleton->cr,getElem?_eq_none->ct,nil_append->cv,flatMap_cons->da,getElem?_append_left->db,getElem?_map->dc,map_cons->df,map_append->dh,append_assoc->di,getElem?_append_right->dj,getElem?_drop->dn,mem_map->du,length_nil->dv,drop_eq_getElem_cons->dw,length_map->dy,length_drop->ef,getElem?_take->fa,getElem_mem->fe,mem_flatMap->ff,range->fh,take_append_drop->fi,not_mem_nil->fk,drop_of_length_le->fl,append_nil->fw,ext_getElem?->fy,take_length->ga,mem_of_mem_take->gj,pairwise_append->gm,getElem?_cons_succ->gu,mem_append_right->gv,length_singleton->ib,take_succ_cons->ic,filter_cons->ii,take_zero->im,getD_eq_getElem?_getD->io,mem_filter->ix,take_add_one->jb,mem_append_left->jf,toArray->jh,getElem?_set->jm,nodup_append->jp,all_eq_true->jy,drop_length->j_,foldl_cons->lq,getElem?_set_ne->lx,takeWhile_cons->l_,pairwise_singleton->mb,count_pos_iff->mn,filter_nil->my,getElem?_toArray->mz,mem_iff_getElem?->m_,nodup_cons->og,mem_singleton_self->ow,nodup_nil->o_,flatten_cons->pa,flatten_append->pm,dropWhile_cons->pn,perm_middle->qe
open Go renaming Value->am,World->an,TypeId->ba,wpList->be,Program->B,Operand->cw,wpQuiet->c_,run_underlying->dg,Deferred->d_,MapEntry->kx
open Go.Exit renaming inBlock->t
open Go.Oper renaming mk->cj
open Bool renaming and_eq_true->ck,or_eq_true->gz,not_eq_true'->ip
open Option renaming getD_some->dt,map_some->fu,bind_some->pd
open UInt8 renaming ofNat->eu,toNat->jo,toNat_ofNat'->jv,toNat_inj->oh
open Array renaming getElem?_eq_some_iff->fx,mapM_eq_mapM_toList->gx,getElem?_toList->ia
open Prod.mk renaming injEq->iy
open Go.Value renaming int->ky
open List.cons renaming injEq->ph
set_option maxHeartbeats 8000000
set_option linter.unusedSimpArgs false
set_option linter.defProp false
set_option linter.unusedVariables false
set_option linter.unusedSectionVars false
open And renaming intro->R
open Bool renaming true->N,false->X7
open Option renaming some->H,none->X8
open Go.Proofs.Tryz renaming prog->X9
namespace Go.Lith
section
structure Cl where
 ts:List T3
 made:Int
 used:Int
structure Gp where
 lv:Int
 ins:List Int
 outs:List Int
 mv:List (Y×Y)
 er:Int
 tot:Int
 dl:Int
structure Gr where
 cs:List Cl
 gs:List Gp
variable{G:Gr}
def Ji(l:List Int)(n:Nat):Prop:=∀x∈l,0<=x/\x<n
def IxG(G:Gr):Prop:=(∀c∈G.cs,(-1<=c.made/\c.made<G.gs.length)/\-1<=c.used/\c.used<G.gs.length)/\∀g∈G.gs,Ji g.ins G.cs.length/\Ji g.outs G.cs.length
def prG(f:Gp->List Int):List Gp->Nat->List (Int×Nat)
 | [],_=>[]
 |g::gs,k=>(f g).map (λx=>(x,k))++prG f gs (k+1)
def Gw{f:Gp->List Int}{x:Int}{k:Nat}:∀{gs:List Gp}{i:Nat},(x,k)∈prG f gs i↔∃j g,gs[j]? = H g/\k=i+j/\x∈f g
 | [],i=>by simp[prG]
 |g::gs,i=>by
  rw[prG,bz,Gw (gs:=gs) (i:=i+1)];constructor
  . rintro (h|⟨j,c,a,d,b⟩)
    . obtain⟨y,l,e⟩:=du.1 h
      cases e;exact⟨0,g,O,O,l⟩
    exact⟨j+1,c,by simpa using a,by omega,b⟩
  rintro⟨j,c,a,d,b⟩
  rcases j with _|j
  . cases a
    exact .inl (du.2 ⟨x,b,by rw[d];rfl⟩)
  exact .inr ⟨j,c,by simpa using a,by omega,b⟩
def Xg{f:Gp->List Int}:∀{gs:List Gp}{i:Nat},(prG f gs i).map (·.1)=gs.flatMap f
 | [],_=>rfl
 |g::gs,i=>by
  rw[prG,dh,Xg,da,List.map_map]
  congr 1
  exact List.map_id' _
section
variable{f:Gp->List Int}{u:Cl->Int}{cs:List Cl}
def Gx:∀{gs:List Gp}{i:Nat},(∀g∈gs,Ji (f g) cs.length)->(∀(j:Nat) g,gs[j]? = H g->∀(c:Nat) x,cs[c]? = H x->(f g).count (c:Int)=if u x=((i+j:Nat):Int) then 1 else 0)->(gs.flatMap f).Nodup
 | [],_,_,_=>o_
 |g::gs,i,r,h=>by
  have pick:∀(k:Nat) d,(g::gs)[k]? = H d->∀a∈f d,∃(c:Nat)(x:Cl),a=(c:Int)/\cs[c]? = H x/\u x=((i+k:Nat):Int):=by
   intro k d q a m;have h0:=r d (ak q) a m;obtain⟨c,rfl⟩:=Int.eq_ofNat_of_zero_le h0.1;have p:c<cs.length:=by omega
   have e:=h k d q c cs[c] (ah p);have A:0<(f d).count (c:Int):=mn.2 m;refine⟨c,cs[c],O,ah p,?_⟩;split at e
   .assumption
   omega
  rw[da];refine jp.2 ⟨?_,Gx (i:=i+1) (λd n=>r d (br _ n)) (λj d o c x l=>by rw[h (j+1) d (by simpa using o) c x l,show i+(j+1)=i+1+j by omega]),?_⟩
  . refine List.nodup_iff_count.2 λa=>?_
    rcases et ((f g).count a) with h0|h0
    .omega
    obtain⟨c,x,rfl,l,_⟩:=pick 0 g rfl a (mn.1 h0)
    rw[h 0 g rfl c x l];split<;>omega
  intro a m b s e
  subst e;obtain⟨c,x,rfl,l,w⟩:=pick 0 g rfl a m;obtain⟨d,n,t⟩:=ff.1 s;obtain⟨j,o⟩:=m_.1 n;obtain⟨c',x',y,v,z⟩:=pick (j+1) d (by simpa using o) _ t;have:c=c':=by omega
  subst this;cases l.symm.trans v;omega
def Pc{gs:List Gp}(q:∀g∈gs,Ji (f g) cs.length)(r:∀x∈cs,u x<gs.length) :
 ((gs.flatMap f).Nodup/\∀(c:Nat) x,cs[c]? = H x->∀k:Nat,((c:Int),k)∈prG f gs 0↔u x=(k:Int))↔∀(k:Nat) g,gs[k]? = H g->∀(c:Nat) x,cs[c]? = H x->(f g).count (c:Int)=if u x=(k:Int) then 1 else 0:=by
 constructor
 . rintro⟨o,n⟩ k g b c x a
   have v:(f g).Nodup:=by
    obtain⟨s,t,e⟩:=List.append_of_mem (ak b);rw[e,au,da] at o;exact (jp.1 (jp.1 o).2.1).1
   have y:=List.nodup_iff_count.1 v (c:Int);split
   . rename_i e
     obtain⟨j,w,m,d,l⟩:=Gw.1 ((n c x a k).2 e);rw[ae] at d;subst d;cases b.symm.trans m;have:=mn.2 l;omega
   rename_i e
   refine List.count_eq_zero.2 λl=>e ?_;exact (n c x a k).1 (Gw.2 ⟨k,g,b,(ae k).symm,l⟩)
 intro h
 refine⟨Gx (i:=0) q (λj g m c x a=>by rw[h j g m c x a,ae]),λc x a k=>⟨λn=>?_,λe=>?_⟩⟩
 . obtain⟨j,g,m,d,l⟩:=Gw.1 n
   rw[ae] at d;subst d;have e:=h k g m c x a;have:=mn.2 l;split at e
   .assumption
   omega
 have b:k<gs.length:=by
  have:=r x (ak a);omega
 have p:=h k gs[k] (ah b) c x a;rw[Z9 e] at p;exact Gw.2 ⟨k,gs[k],ah b,(ae k).symm,mn.1 (by omega)⟩
end
def Nc(cs:List Cl)(x:Int):Int:=(cs[x.toNat]?.map (·.made)).getD (-1)
def ErG(G:Gr):Prop:=∀(k:Nat) g,G.gs[k]? = H g->∀x∈g.ins,Nc G.cs x<(k:Int)
def MkP(G:Gr):Prop:=(((prG Gp.ins G.gs 0).map (·.1)).Nodup/\∀(c:Nat) x,G.cs[c]? = H x->∀k:Nat,((c:Int),k)∈prG Gp.ins G.gs 0↔x.used=(k:Int))/\(((prG Gp.outs G.gs 0).map (·.1)).Nodup/\∀(c:Nat) x,G.cs[c]? = H x->∀k:Nat,((c:Int),k)∈prG Gp.outs G.gs 0↔x.made=(k:Int))/\ErG G
def MkR(G:Gr):Prop:=(∀(k:Nat) g,G.gs[k]? = H g->∀(c:Nat) x,G.cs[c]? = H x->g.outs.count (c:Int)=(if x.made=(k:Int) then 1 else 0)/\g.ins.count (c:Int)=if x.used=(k:Int) then 1 else 0)/\ErG G
def ahc(h:IxG G):MkP G↔MkR G:=by
 unfold MkP MkR;rw[Xg,Xg,Pc (u:=Cl.used) (λg f=>(h.2 g f).1) (λx a=>(h.1 x a).2.2),Pc (u:=Cl.made) (λg f=>(h.2 g f).2) (λx a=>(h.1 x a).1.2)];constructor
 . rintro⟨d,i,e⟩
   exact⟨λk g b c x a=>⟨i k g b c x a,d k g b c x a⟩,e⟩
 rintro⟨d,e⟩
 exact⟨λk g b c x a=>(d k g b c x a).2,λk g b c x a=>(d k g b c x a).1,e⟩
def aqG(G:Gr)(c:List Bool):Prop:=c.length=G.gs.length/\∀(k:Nat) g,G.gs[k]? = H g->c[k]? = H N->∀x∈g.ins,0<=Nc G.cs x->c[(Nc G.cs x).toNat]? = H N
def Mf(G:Gr)(c:List Bool):Prop:=IxG G/\MkP G/\aqG G c
def Xh{c:List Bool}:Mf G c↔(IxG G/\MkR G)/\aqG G c:=by
 unfold Mf;constructor
 . rintro⟨a,b,d⟩
   exact⟨⟨a,(ahc a).1 b⟩,d⟩
 rintro⟨⟨a,b⟩,d⟩
 exact⟨a,(ahc a).2 b,d⟩
def pG(c:List Bool)(x:Cl):Bool:=(decide (x.made<0)||(c[x.made.toNat]?).getD X7)&&(decide (x.used<0) || !(c[x.used.toNat]?).getD X7)
def gI(c:List Bool):List Cl->Nat->List Int
 | [],_=>[]
 |x::xs,k=>(if pG c x then [(k:Int)] else [])++gI c xs (k+1)
def Ui{c:List Bool}{x:Cl}:∀{xs:List Cl}{k:Nat},gI c (xs++[x]) k=gI c xs k++if pG c x then [((k+xs.length:Nat):Int)] else []
 | [],k=>by simp[gI]
 |y::xs,k=>by
  rw[List.cons_append,gI,gI,Ui,di,bh,show k+1+xs.length=k+(xs.length+1) by omega]
def Pd{c:List Bool}:∀{xs:List Cl}{k:Nat}{a:Int},a∈gI c xs k->(k:Int)<=a/\a<((k+xs.length:Nat):Int)
 |x::xs,k,a,h=>by
  rw[gI,bz] at h;rw[bh];rcases h with h|h
  . split at h
    .rw[cr] at h;omega
    cases h
  have:=Pd h;omega
def kK(cs:List Cl)(l:List Int):List T3:=l.flatMap λa=>(cs[a.toNat]?.map (·.ts)).getD []
def Bm:List Gp->List Bool->Int
 |g::gs,b::c=>(if b then g.dl else 0)+Bm gs c
 |_,_=>0
def Uj{gs:List Gp}{c:List Bool}{k:Nat}{g:Gp}{b:Bool}(d:gs[k]? = H g)(a:c[k]? = H b):Bm (gs.take (k+1)) (c.take (k+1))=Bm (gs.take k) (c.take k)+if b then g.dl else 0:=by
 induction gs generalizing c k with
 |nil=>cases d
 |cons f gs ih=>
  cases c with
  |nil=>cases a
  |cons e c=>
   cases k with
   |zero=>
    cases d;cases a;simp only[ic,im,Bm];omega
   |succ k=>
    rw[ic,ic,ic,ic,Bm,Bm,ih (k:=k) (by simpa using d) (by simpa using a)];omega
def aeZ{α:Type}(out:List (List α))(n:Nat)(k:α):((out.take n++[[k]]++out.drop n).flatten).Perm (k::out.flatten):=by
 rw[pm,pm,List.flatten_singleton,di];refine (qe).trans (.cons k ?_);show ((out.take n).flatten++(out.drop n).flatten).Perm out.flatten
 rw[<-pm,fi]
def Uk{α:Type}:∀{out:List (List α)} {n:Nat} {g:List α} (k:α),out[n]? = H g->((out.set n (g++[k])).flatten).Perm (k::out.flatten)
 |o::out,0,g,k,h=>by
  cases h;rw[List.set_cons_zero,pa,pa,di];exact qe
 |o::out,n+1,g,k,h=>by
  rw[e,pa,pa];exact ((Uk k (by simpa using h)).append_left o).trans qe
end
section
open Go.RowKit
abbrev iV(z:Int):am:=U z
def nB(z:Int):List am:=[iV z]
def ak0(w:an)(a:Addr)(x:Cl):Prop:=∃A cap,iX w a [.slice A x.ts.length cap,iV x.made,iV x.used]/\cI w A x.ts.length x.ts/\x.ts.length<=cap
def ak1(w:an)(a:Addr)(g:Gp):Prop:=∃A c B d C e,iX w a [iV g.lv,.slice A g.ins.length c,.slice B g.outs.length d,.slice C g.mv.length e,iV g.er,iV g.tot,.bool (cQ g.dl),.string (dQ g.dl)]/\kO nB 1 w A g.ins.length g.ins/\kO nB 1 w B g.outs.length g.outs/\kO dE 6 w C g.mv.length g.mv/\g.ins.length<=c/\g.outs.length<=d/\g.mv.length<=e
structure GrAt(w:an)(A:Option Addr)(B:Option Addr)(G:Gr):Prop where
 cs:∀(k:Nat) x,G.cs[k]? = H x->∃a,A=H a/\ak0 w (a.add (k*3)) x
 gs:∀(k:Nat) g,G.gs[k]? = H g->∃a,B=H a/\ak1 w (a.add (k*8)) g
section
variable{w w':an}{a:Addr}{A B:Option Addr}{G:Gr}
def ak0.ext{x:Cl}(h:ak0 w a x)(e:eR w w'):ak0 w' a x:=by
 obtain⟨A,cap,b,c,d⟩:=h;exact⟨A,cap,b.ext e,c.ext e,d⟩
def ak1.ext{g:Gp}(h:ak1 w a g)(e:eR w w'):ak1 w' a g:=by
 obtain⟨A,c,B,d,C,f,b,i,j,k,l⟩:=h;exact⟨A,c,B,d,C,f,b.ext e,i.ext e,j.ext e,k.ext e,l⟩
def GrAt.ext(h:GrAt w A B G)(e:eR w w'):GrAt w' A B G:=
 ⟨λk x d=>let ⟨a,b,c⟩:=h.cs k x d;⟨a,b,c.ext e⟩,λk g d=>let ⟨a,b,c⟩:=h.gs k g d;⟨a,b,c.ext e⟩⟩
def GrAt.cl(h:GrAt w A B G){k:Nat}(b:k<G.cs.length):∃x a D cap,G.cs[k]? = H x/\A=H a/\iX w (a.add (k*3)) [.slice D x.ts.length cap,iV x.made,iV x.used]/\cI w D x.ts.length x.ts/\x.ts.length<=cap:=by
 obtain⟨a,e,D,cap,c,d⟩:=h.cs k _ (ah b);exact⟨_,a,D,cap,ah b,e,c,d⟩
def GrAt.gp(h:GrAt w A B G){k:Nat}(b:k<G.gs.length):∃g a I c O0 d M f,G.gs[k]? = H g/\B=H a/\iX w (a.add (k*8)) [iV g.lv,.slice I g.ins.length c,.slice O0 g.outs.length d,.slice M g.mv.length f,iV g.er,iV g.tot,.bool (cQ g.dl),.string (dQ g.dl)]/\kO nB 1 w I g.ins.length g.ins/\kO nB 1 w O0 g.outs.length g.outs/\kO dE 6 w M g.mv.length g.mv/\g.ins.length<=c/\g.outs.length<=d/\g.mv.length<=f:=by
 obtain⟨a,e,I,c,O0,d,M,f,i⟩:=h.gs k _ (ah b);exact⟨_,a,I,c,O0,d,M,f,ah b,e,i⟩
end
end
section
variable{G:Gr}{α:Type}{n:Nat}{x:Cl}
section
variable{α:Type}{p:α->Prop}{l:List α}{k:Nat}{x:α}
def tD(h:∀y∈l.take k,p y)(b:l[k]? = H x)(a:p x):∀y∈l.take (k+1),p y:=by
 rw[cZ b];intro y hy;rcases bz.1 hy with hy|hy
 .exact h y hy
 rw[cr.1 hy];exact a
def Fc(h:∀y∈l.take k,p y)(a:l.length<=k):∀y∈l,p y:=by rwa [ap a] at h
def Bn:∀y∈l.take 0,p y:=λ_ h=>by cases h
end
def amQ(G:Gr)(k:Nat)(g:Gp):Prop:=(∀(c:Nat) x,G.cs[c]? = H x->g.outs.count (c:Int)=(if x.made=(k:Int) then 1 else 0)/\g.ins.count (c:Int)=if x.used=(k:Int) then 1 else 0)/\∀z∈g.ins,Nc G.cs z<(k:Int)
def Gy  : MkR G↔∀(k:Nat) g,G.gs[k]? = H g->amQ G k g:=
 ⟨λ⟨b,c⟩ k g a=>⟨b k g a,c k g a⟩,λh=>⟨λk g a=>(h k g a).1,λk g a=>(h k g a).2⟩⟩
def ahd(G:Gr)(c:List Bool)(k:Nat)(g:Gp):Prop:=c[k]? = H N->∀x∈g.ins,0<=Nc G.cs x->c[(Nc G.cs x).toNat]? = H N
def nC{α:Type}(R:Nat->α->Prop)(l:List α)(n:Nat):Prop:=∀(k:Nat) g,k<n->l[k]? = H g->R k g
def nC.zero{R:Nat->α->Prop}{l:List α}:nC R l 0:=λk g h=>by omega
def nC.step{R:Nat->α->Prop}{l:List α}{g:α}(h:nC R l n)(d:l[n]? = H g)(a:R n g):nC R l (n+1):=λk c e b=>by
 rcases ej k n with hkn|hkn
 .exact h k c hkn b
 obtain rfl:k=n:=by omega
 cases d.symm.trans b;exact a
def nC.all{R:Nat->α->Prop}{l:List α}(h:nC R l n)(b:l.length<=n):∀(k:Nat) g,l[k]? = H g->R k g:=λk g a=>h k g (bc (av.1 a).1 b) a
def Sy(a b:Int):Int:=if a=b then 1 else 0
def Nd{a b:Int}:(n:Int)=Sy a b↔n=if a=b then 1 else 0:=by unfold Sy;split<;>omega
def ae0{l:List Int}{k:Nat}{x z:Int}(h:l[k]? = H x):((l.take (k+1)).count z:Int)=(l.take k).count z+Sy x z:=by
 rw[cZ h,List.count_append,List.count_singleton];unfold Sy;by_cases e:x=z<;>simp[e]
def uY{cs:List Cl}{c:Nat}(h:cs[c]? = H x):Nc cs (c:Int)=x.made:=by unfold Nc;rw[ab,h];rfl
def aay{c:List Bool}{cs:List Cl}{k:Nat}(h:cs[k]? = H x):gI c (cs.take (k+1)) 0=gI c (cs.take k) 0++if pG c x then [(k:Int)] else []:=by
 rw[cZ h,Ui,bf,de (Nat.le_of_lt (av.1 h).1),ae]
def xY{c:List Bool}:∀{cs:List Cl}{k:Nat},(gI c cs k).length<=cs.length
 | [],_=>bg _
 |x::cs,k=>by
  rw[gI,a_,bh];have:=xY (c:=c) (cs:=cs) (k:=k+1);split<;>simp<;>omega
def Gz{cs:List Cl}{M:Nat}(h:∀x∈cs,x.ts.length<=M):∀l:List Int,(kK cs l).length<=l.length*M
 | []=>bm _
 |z::l=>by
  have ih:=Gz h l;have e:kK cs (z::l)=(cs[z.toNat]?.map (·.ts)).getD []++kK cs l:=rfl;rw[e,a_,bh,Nat.succ_mul];cases a:cs[z.toNat]? with
  |none=>simp;omega
  |some x=>
   have:=h x (ak a);simp only[fu,dt];omega
theorem Xi{w:Go.World}{A B:Option Go.Addr}(h:GrAt w A B G){l:List Int}:∀t∈kK G.cs l,IT t:=λt b=>by
 obtain⟨z,_,b⟩:=ff.1 b;cases d:G.cs[z.toNat]? with
 |none=>rw[d] at b;cases b
 |some x=>
  rw[d] at b;obtain⟨a,_,D,c,_,e,_⟩:=h.cs _ x d;exact e.it t b
def adA:∀{gs:List Gp}{c:List Bool},(∀g∈gs,Bd 301 g.dl)->Bd (310+gs.length) (Bm gs c)
 | [],_,_=>mr _
 |_::_,[],_=>mr _
 |g::gs,b::c,h=>by
  have a:=adA (gs:=gs) (c:=c) λg e=>h g (br _ e);have d:Bd 301 (if b then g.dl else 0):=by
   split
   .exact h g (bv ..)
   exact mr 301
  exact (d.add a).mono (by rw[bh];omega)
def ahe{gs:List Gp}{c:List Bool}(h:∀g∈gs,Bd 301 g.dl)(k:Nat):Bd (310+k) (Bm (gs.take k) (c.take k)):=
 (adA λg a=>h g (gj a)).mono (by rw[bf];omega)
end
end Go.Lith
namespace Go.Proofs.YtbbokjbcdkgfgaaGreatDoor
open Go.Proofs.Tryz
open Go.RowKit Go.Lith
section
variable{l:List am}{ty T':ba}{v0 v1 A B c0_0 v2 C c1_0 c2_0 D E F G ve I vh K L M vi O0 P R S T vd:am}{x0 x1 x2 x y:cw}{x3 y3:ByteArray}{y0 y1 y2 x4 y4 x5 y5 x6 y6 x7 y7 x8 y8:Int}{x10 y10:Bool}
abbrev Jj:=@underlying103
abbrev eL:=@underlying110
abbrev pH:=@underlying152
abbrev qY:=@underlying168
abbrev Bo:=@underlying185
abbrev Bp:=@underlying186
abbrev Jk:=@underlying218
abbrev cF:=@underlying22
abbrev xZ:=@underlying221
abbrev uZ:=@underlying28
abbrev wU:=@underlying29
abbrev mG:=@underlying3
abbrev nD:=@underlying31
abbrev Ul:=@underlying35
abbrev Ec:=@underlying37
abbrev tZ:=@underlying4
abbrev iZ:=@underlying41
abbrev fR:=@underlying43
abbrev gB:=@underlying44
abbrev Um:=@underlying49
abbrev sW:=@underlying65
abbrev vA:=@underlying68
abbrev oN:=@underlying70
abbrev Ha:=@underlying86
abbrev pT:=@underlying9
abbrev nE:=@underlying99
set_option maxRecDepth 100000
def aB:prog.follows .mixedOrders=N:=by kernel_rfl
def acc:Entr X9 127:=bP func127 (by kernel_rfl)
def ahf:Entr X9 129:=bP func129 (by kernel_rfl)
def acd:Entr X9 130:=bP func130 (by kernel_rfl)
def ahg:Entr X9 163:=bP func163 (by kernel_rfl)
def ahh:Entr X9 183:=bP func183 (by kernel_rfl)
def ahi:Entr X9 184:=bP func184 (by kernel_rfl)
def ahj:Entr X9 185:=bP func185 (by kernel_rfl)
def Xj:Entr X9 188:=bP func188 (by kernel_rfl)
def bC:dW X9 3 1:=dL (by kernel_rfl)
def bW:fG X9 3 X7:=dS _ mG rfl
def Pe:oB X9 3 (U 0):=iQ (by kernel_rfl)
def gM:(prog.info? 3).map (λi=>(i.size,i.bytes,i.zero))=H (1,8,H (U 0)):=by kernel_rfl
def dV:dW X9 4 1:=dL (by kernel_rfl)
def eW:fG X9 4 X7:=dS _ tZ rfl
def Xk:oB X9 4 (.bool X7):=iQ (by kernel_rfl)
def ahk:(prog.info? 4).map (λi=>(i.size,i.bytes,i.zero))=H (1,1,H (.bool X7)):=by kernel_rfl
def Un:(prog.info? 5).map (λi=>(i.size,i.bytes,i.zero))=H (1,1,H (.int .u8 0)):=by kernel_rfl
def ak2:dW X9 9 1:=dL (by kernel_rfl)
def amR:fG X9 9 X7:=dS _ pT rfl
def iF:dW X9 22 1:=dL (by kernel_rfl)
def mA:fG X9 22 X7:=dS _ cF rfl
def Jl:(prog.info? 22).map (λi=>(i.size,i.bytes,i.zero))=H (1,24,H (.slice X8 0 0)):=by kernel_rfl
def ahl:dW X9 23 4:=dL (by kernel_rfl)
def ahm:fG X9 23 N:=dS _ underlying23 rfl
def lM:dW X9 28 1:=dL (by kernel_rfl)
def vY:fG X9 28 X7:=dS _ uZ rfl
def lN:dW X9 29 1:=dL (by kernel_rfl)
def yA:fG X9 29 X7:=dS _ wU rfl
def gE:dW X9 31 2:=dL (by kernel_rfl)
def lE:fG X9 31 N:=dS _ nD rfl
def Xl:oB X9 31 (.agg #[.slice X8 0 0,.slice X8 0 0]):=iQ (by kernel_rfl)
def ahn:dW X9 34 1:=dL (by kernel_rfl)
def ace:fG X9 35 X7:=dS _ Ul rfl
def aJ:dW X9 37 2:=dL (by kernel_rfl)
def bE:fG X9 37 N:=dS _ Ec rfl
def iB:oB X9 37 (.agg #[.bool X7,.string ⟨#[]⟩]):=iQ (by kernel_rfl)
def aD:dW X9 41 3:=dL (by kernel_rfl)
def aM:fG X9 41 N:=dS _ iZ rfl
def iC:oB X9 41 (.agg #[U 0,U 0,U 0]):=iQ (by kernel_rfl)
def mB:(prog.info? 41).map (λi=>(i.size,i.bytes,i.zero))=H (3,24,H (.agg #[U 0,U 0,U 0])):=by kernel_rfl
def bK:dW X9 43 9:=dL (by kernel_rfl)
def eD:fG X9 43 N:=dS _ fR rfl
def Xm:oB X9 43 (.agg #[U 0,U 0,U 0,U 0,U 0,U 0,U 0,U 0,U 0]):=iQ (by kernel_rfl)
def mS:(prog.info? 43).map (λi=>(i.size,i.bytes,i.zero))=H (9,72,H (.agg #[U 0,U 0,U 0,U 0,U 0,U 0,U 0,U 0,U 0])):=by kernel_rfl
def rU:dW X9 44 1:=dL (by kernel_rfl)
def qJ:fG X9 44 X7:=dS _ gB rfl
def Xn:(prog.info? 44).map (λi=>(i.size,i.bytes,i.zero))=H (1,24,H (.slice X8 0 0)):=by kernel_rfl
def dC:dW X9 49 4:=dL (by kernel_rfl)
def iG:fG X9 49 N:=dS _ Um rfl
def adB:oB X9 49 (.agg #[.bool X7,.string ⟨#[]⟩,.bool X7,.string ⟨#[]⟩]):=iQ (by kernel_rfl)
def Hb:dW X9 50 12:=dL (by kernel_rfl)
def acf:fG X9 50 N:=dS _ underlying50 rfl
def adC:oB X9 50 (.agg #[.bool X7,.string ⟨#[]⟩,.bool X7,.string ⟨#[]⟩,.bool X7,.string ⟨#[]⟩,.bool X7,.string ⟨#[]⟩,.bool X7,.string ⟨#[]⟩,.bool X7,.string ⟨#[]⟩]):=iQ (by kernel_rfl)
def Pf:dW X9 58 2:=dL (by kernel_rfl)
def an5:fG X9 58 N:=dS _ underlying58 rfl
def Xo:oB X9 58 (.agg #[U 0,.slice X8 0 0]):=iQ (by kernel_rfl)
def mH:dW X9 65 3:=dL (by kernel_rfl)
def Jm:fG X9 65 N:=dS _ sW rfl
def Xp:oB X9 65 (.agg #[.slice X8 0 0,U 0,U 0]):=iQ (by kernel_rfl)
def acg:(prog.info? 65).map (λi=>(i.size,i.bytes,i.zero))=H (3,40,H (.agg #[.slice X8 0 0,U 0,U 0])):=by kernel_rfl
def Br:dW X9 68 1:=dL (by kernel_rfl)
def Pg:fG X9 68 X7:=dS _ vA rfl
def qK:dW X9 70 8:=dL (by kernel_rfl)
def Xq:fG X9 70 N:=dS _ oN rfl
def adD:oB X9 70 (.agg #[U 0,.slice X8 0 0,.slice X8 0 0,.slice X8 0 0,U 0,U 0,.bool X7,.string ⟨#[]⟩]):=iQ (by kernel_rfl)
def ach:(prog.info? 70).map (λi=>(i.size,i.bytes,i.zero))=H (8,120,H (.agg #[U 0,.slice X8 0 0,.slice X8 0 0,.slice X8 0 0,U 0,U 0,.bool X7,.string ⟨#[]⟩])):=by kernel_rfl
def vZ:fG X9 80 X7:=dS _ underlying80 rfl
def rV:dW X9 86 6:=dL (by kernel_rfl)
def Xr:fG X9 86 N:=dS _ Ha rfl
def adE:oB X9 86 (.agg #[.bool X7,.string ⟨#[]⟩,.bool X7,.string ⟨#[]⟩,.bool X7,.string ⟨#[]⟩]):=iQ (by kernel_rfl)
def kF:dW X9 87 6:=dL (by kernel_rfl)
def qL:fG X9 87 N:=dS _ underlying87 rfl
def adF:oB X9 87 (.agg #[.bool X7,.string ⟨#[]⟩,.bool X7,.string ⟨#[]⟩,.bool X7,.string ⟨#[]⟩]):=iQ (by kernel_rfl)
def Ph:dW X9 92 1:=dL (by kernel_rfl)
def aci:fG X9 92 X7:=dS _ underlying92 rfl
def aho:dW X9 93 3:=dL (by kernel_rfl)
def an6:fG X9 93 N:=dS _ underlying93 rfl
def cL:dW X9 99 1:=dL (by kernel_rfl)
def jG:fG X9 99 X7:=dS _ nE rfl
def sO:(prog.info? 99).map (λi=>(i.size,i.bytes,i.zero))=H (1,8,H (.int .u64 0)):=by kernel_rfl
def jC:dW X9 103 3:=dL (by kernel_rfl)
def rH:fG X9 103 N:=dS _ Jj rfl
def Bt:oB X9 103 (.agg #[U 0,U 0,U 0]):=iQ (by kernel_rfl)
def Uo:dW X9 142 6:=dL (by kernel_rfl)
def adG:fG X9 142 N:=dS _ underlying142 rfl
def ae1:dW X9 152 1:=dL (by kernel_rfl)
def ak3:fG X9 152 X7:=dS _ pH rfl
def ahp:oB X9 152 (.slice X8 0 0):=iQ (by kernel_rfl)
def ak4:(prog.info? 165).map (λi=>(i.size,i.bytes,i.zero))=H (4,80,H (.agg #[.slice X8 0 0,U 0,.slice X8 0 0,.slice X8 0 0])):=by kernel_rfl
def mP:dW X9 170 6:=dL (by kernel_rfl)
def Dd:fG X9 170 N:=dS _ underlying170 rfl
def yB:(prog.info? 170).map (λi=>(i.size,i.bytes,i.zero))=H (6,48,H (.agg #[U 0,U 0,U 0,U 0,U 0,U 0])):=by kernel_rfl
def tK:dW X9 176 6:=dL (by kernel_rfl)
def Nf:(prog.info? 176).map (λi=>(i.size,i.bytes,i.zero))=H (6,48,H (.agg #[U 0,U 0,U 0,U 0,U 0,U 0])):=by kernel_rfl
def De:dW X9 182 2:=dL (by kernel_rfl)
def adH:fG X9 182 N:=dS _ underlying182 rfl
def Pi:oB X9 182 (.agg #[.slice X8 0 0,.slice X8 0 0]):=iQ (by kernel_rfl)
def pP:dW X9 185 1:=dL (by kernel_rfl)
def yC:fG X9 185 X7:=dS _ Bo rfl
def ae2:dW X9 186 2:=dL (by kernel_rfl)
def aaz:oB X9 186 (.agg #[.map X8,.map X8]):=iQ (by kernel_rfl)
def ahq:oB X9 187 (.agg #[U 0,U 0]):=iQ (by kernel_rfl)
def Df:dW X9 204 1:=dL (by kernel_rfl)
def Xs:fG X9 204 X7:=dS _ underlying204 rfl
def Jn:dW X9 205 3:=dL (by kernel_rfl)
def adI:fG X9 205 N:=dS _ underlying205 rfl
def aaA:oB X9 205 (.agg #[.nilFunc,.nilFunc,.nilFunc]):=iQ (by kernel_rfl)
def fC:dW X9 221 20:=dL (by kernel_rfl)
def pA:fG X9 221 N:=dS _ xZ rfl
def aaB:oB X9 221 (.agg #[.bool X7,.string ⟨#[]⟩,.bool X7,.string ⟨#[]⟩,.bool X7,.string ⟨#[]⟩,.bool X7,.string ⟨#[]⟩,.bool X7,.string ⟨#[]⟩,.bool X7,.string ⟨#[]⟩,.bool X7,.string ⟨#[]⟩,.bool X7,.string ⟨#[]⟩,.bool X7,.string ⟨#[]⟩,.bool X7,.string ⟨#[]⟩]):=iQ (by kernel_rfl)
def Dg:dW X9 224 23:=dL (by kernel_rfl)
def ahr:oB X9 224 (.agg #[U 0,U 0,U 0,.bool X7,.string ⟨#[]⟩,.bool X7,.string ⟨#[]⟩,.bool X7,.string ⟨#[]⟩,.bool X7,.string ⟨#[]⟩,.bool X7,.string ⟨#[]⟩,.bool X7,.string ⟨#[]⟩,.bool X7,.string ⟨#[]⟩,.bool X7,.string ⟨#[]⟩,.bool X7,.string ⟨#[]⟩,.bool X7,.string ⟨#[]⟩]):=iQ (by kernel_rfl)
def ak5:(prog.info? 224).map (λi=>(i.size,i.bytes,i.zero))=H (23,264,H (.agg #[U 0,U 0,U 0,.bool X7,.string ⟨#[]⟩,.bool X7,.string ⟨#[]⟩,.bool X7,.string ⟨#[]⟩,.bool X7,.string ⟨#[]⟩,.bool X7,.string ⟨#[]⟩,.bool X7,.string ⟨#[]⟩,.bool X7,.string ⟨#[]⟩,.bool X7,.string ⟨#[]⟩,.bool X7,.string ⟨#[]⟩,.bool X7,.string ⟨#[]⟩])):=by kernel_rfl
def nU:dW X9 228 8:=dL (by kernel_rfl)
def Ng:fG X9 228 N:=dS _ underlying228 rfl
def ahs:oB X9 228 (.agg #[U 0,U 0,U 0,U 0,U 0,U 0,.bool X7,.string ⟨#[]⟩]):=iQ (by kernel_rfl)
def ak6:(prog.info? 228).map (λi=>(i.size,i.bytes,i.zero))=H (8,72,H (.agg #[U 0,U 0,U 0,U 0,U 0,U 0,.bool X7,.string ⟨#[]⟩])):=by kernel_rfl
def Up:dW X9 288 3:=dL (by kernel_rfl)
def adJ:fG X9 288 N:=dS _ underlying288 rfl
def Uq:dW X9 293 8:=dL (by kernel_rfl)
def ak7:fG X9 293 N:=dS _ underlying293 rfl
def aht:oB X9 293 (.agg #[.bool X7,.string ⟨#[]⟩,.bool X7,.string ⟨#[]⟩,.bool X7,.string ⟨#[]⟩,.bool X7,.string ⟨#[]⟩]):=iQ (by kernel_rfl)
def Ur(w:an):((#[{ name:= "Neg", type:=4,offset:=0,embedded:=X7,tag:= "", pkgPath:= "", byteOffset:=0 },{ name:= "Mag", type:=9,offset:=1,embedded:=X7,tag:= "", pkgPath:= "", byteOffset:=8 }]:Array Field).mapM λf=>do pure (f.offset,<-sizeOf f.type):Sem (Array (Nat×Nat))).run X9 w=.ok #[(0,1),(1,1)] w:=by
 simp[gx,fO dV,fO ak2]
def aqH(w:an):(Instr.build 37 #[]).run X9 w=.ok (.agg #[(.bool X7),(.string ⟨#[]⟩)]) w:=dP Ec iB Ur (by simp[Instr.fill,eT]) w
def aaC    : gX X9 l (.build 37 #[]) ty (.agg #[(.bool X7),(.string ⟨#[]⟩)]):=iA (vs:=#[]) (by simp) λw=>aqH  w
def ahu(a:v0.cells = #[A])(b:v1.cells = #[B])(w:an):(Instr.build 37 #[(0,v0),(1,v1)]).run X9 w=.ok (.agg #[A,B]) w:=dP Ec iB Ur (by simp[Instr.fill,eT,a,b]) w
def Bu(a:(ev l x0).cells = #[A])(b:(ev l x1).cells = #[B]):gX X9 l (.build 37 #[(0,x0),(1,x1)]) ty (.agg #[A,B]):=iA (vs:=#[(0,ev l x0),(1,ev l x1)]) (by simp) λw=>ahu a b w
def qZ(w:an):((#[{ name:= "X", type:=3,offset:=0,embedded:=X7,tag:= "", pkgPath:= "", byteOffset:=0 },{ name:= "Y", type:=3,offset:=1,embedded:=X7,tag:= "", pkgPath:= "", byteOffset:=8 },{ name:= "Z", type:=3,offset:=2,embedded:=X7,tag:= "", pkgPath:= "", byteOffset:=16 }]:Array Field).mapM λf=>do pure (f.offset,<-sizeOf f.type):Sem (Array (Nat×Nat))).run X9 w=.ok #[(0,1),(1,1),(2,1)] w:=by
 simp[gx,fO bC]
def aqI(w:an):(Instr.build 41 #[]).run X9 w=.ok (.agg #[(U 0),(U 0),(U 0)]) w:=dP iZ iC qZ (by simp[Instr.fill,eT]) w
def aaD    : gX X9 l (.build 41 #[]) ty (.agg #[(U 0),(U 0),(U 0)]):=iA (vs:=#[]) (by simp) λw=>aqI  w
def an7(a:v0.cells = #[c0_0])(w:an):(Instr.build 41 #[(0,v0)]).run X9 w=.ok (.agg #[c0_0,(U 0),(U 0)]) w:=dP iZ iC qZ (by simp[Instr.fill,eT,a]) w
def Hc(a:(ev l x0).cells = #[c0_0]):gX X9 l (.build 41 #[(0,x0)]) ty (.agg #[c0_0,(U 0),(U 0)]):=iA (vs:=#[(0,ev l x0)]) (by simp) λw=>an7 a w
def ahv(a:v0.cells = #[A])(b:v1.cells = #[B])(w:an):(Instr.build 41 #[(0,v0),(1,v1)]).run X9 w=.ok (.agg #[A,B,(U 0)]) w:=dP iZ iC qZ (by simp[Instr.fill,eT,a,b]) w
def nF(a:(ev l x0).cells = #[A])(b:(ev l x1).cells = #[B]):gX X9 l (.build 41 #[(0,x0),(1,x1)]) ty (.agg #[A,B,(U 0)]):=iA (vs:=#[(0,ev l x0),(1,ev l x1)]) (by simp) λw=>ahv a b w
def acj(a:v0.cells = #[A])(b:v1.cells = #[B])(c:v2.cells = #[C])(w:an):(Instr.build 41 #[(0,v0),(1,v1),(2,v2)]).run X9 w=.ok (.agg #[A,B,C]) w:=dP iZ iC qZ (by simp[Instr.fill,eT,a,b,c]) w
def nV(a:(ev l x0).cells = #[A])(b:(ev l x1).cells = #[B])(c:(ev l x2).cells = #[C]):gX X9 l (.build 41 #[(0,x0),(1,x1),(2,x2)]) ty (.agg #[A,B,C]):=iA (vs:=#[(0,ev l x0),(1,ev l x1),(2,ev l x2)]) (by simp) λw=>acj a b c w
def an8(a:v1.cells = #[c1_0])(w:an):(Instr.build 41 #[(1,v1)]).run X9 w=.ok (.agg #[(U 0),c1_0,(U 0)]) w:=dP iZ iC qZ (by simp[Instr.fill,eT,a]) w
def Xt(a:(ev l x1).cells = #[c1_0]):gX X9 l (.build 41 #[(1,x1)]) ty (.agg #[(U 0),c1_0,(U 0)]):=iA (vs:=#[(1,ev l x1)]) (by simp) λw=>an8 a w
def ahw(a:v1.cells = #[c1_0])(b:v2.cells = #[c2_0])(w:an):(Instr.build 41 #[(1,v1),(2,v2)]).run X9 w=.ok (.agg #[(U 0),c1_0,c2_0]) w:=dP iZ iC qZ (by simp[Instr.fill,eT,a,b]) w
def Pk(a:(ev l x1).cells = #[c1_0])(b:(ev l x2).cells = #[c2_0]):gX X9 l (.build 41 #[(1,x1),(2,x2)]) ty (.agg #[(U 0),c1_0,c2_0]):=iA (vs:=#[(1,ev l x1),(2,ev l x2)]) (by simp) λw=>ahw a b w
def an9(a:v2.cells = #[c2_0])(w:an):(Instr.build 41 #[(2,v2)]).run X9 w=.ok (.agg #[(U 0),(U 0),c2_0]) w:=dP iZ iC qZ (by simp[Instr.fill,eT,a]) w
def He(a:(ev l x2).cells = #[c2_0]):gX X9 l (.build 41 #[(2,x2)]) ty (.agg #[(U 0),(U 0),c2_0]):=iA (vs:=#[(2,ev l x2)]) (by simp) λw=>an9 a w
def ack(a:v0.cells = #[A,B,C])(b:v1.cells = #[D,E,F])(c:v2.cells = #[G,ve,I])(w:an):(Instr.build 43 #[(0,v0),(1,v1),(2,v2)]).run X9 w=.ok (.agg #[A,B,C,D,E,F,G,ve,I]) w:=fT fR Xm aD (by simp[Instr.fill,eT,a,b,c]) w
def jK(a:(ev l x0).cells = #[A,B,C])(b:(ev l x1).cells = #[D,E,F])(c:(ev l x2).cells = #[G,ve,I]):gX X9 l (.build 43 #[(0,x0),(1,x1),(2,x2)]) ty (.agg #[A,B,C,D,E,F,G,ve,I]):=iA (vs:=#[(0,ev l x0),(1,ev l x1),(2,ev l x2)]) (by simp) λw=>ack a b c w
def ae3(w:an):((#[{ name:= "N", type:=37,offset:=0,embedded:=X7,tag:= "", pkgPath:= "", byteOffset:=0 },{ name:= "D", type:=37,offset:=2,embedded:=X7,tag:= "", pkgPath:= "", byteOffset:=24 }]:Array Field).mapM λf=>do pure (f.offset,<-sizeOf f.type):Sem (Array (Nat×Nat))).run X9 w=.ok #[(0,2),(2,2)] w:=by
 simp[gx,fO aJ]
def ahx(a:v0.cells = #[A,B])(b:v1.cells = #[C,D])(w:an):(Instr.build 49 #[(0,v0),(1,v1)]).run X9 w=.ok (.agg #[A,B,C,D]) w:=dP Um adB ae3 (by simp[Instr.fill,eT,a,b]) w
def Pm(a:(ev l x0).cells = #[A,B])(b:(ev l x1).cells = #[C,D]):gX X9 l (.build 49 #[(0,x0),(1,x1)]) ty (.agg #[A,B,C,D]):=iA (vs:=#[(0,ev l x0),(1,ev l x1)]) (by simp) λw=>ahx a b w
def acl(a:v0.cells = #[A,B,C,D])(b:v1.cells = #[E,F,G,ve])(c:v2.cells = #[I,vh,K,L])(w:an):(Instr.build 50 #[(0,v0),(1,v1),(2,v2)]).run X9 w=.ok (.agg #[A,B,C,D,E,F,G,ve,I,vh,K,L]) w:=fT underlying50 adC dC (by simp[Instr.fill,eT,a,b,c]) w
def Jo(a:(ev l x0).cells = #[A,B,C,D])(b:(ev l x1).cells = #[E,F,G,ve])(c:(ev l x2).cells = #[I,vh,K,L]):gX X9 l (.build 50 #[(0,x0),(1,x1),(2,x2)]) ty (.agg #[A,B,C,D,E,F,G,ve,I,vh,K,L]):=iA (vs:=#[(0,ev l x0),(1,ev l x1),(2,ev l x2)]) (by simp) λw=>acl a b c w
def ae4(w:an):((#[{ name:= "Level", type:=3,offset:=0,embedded:=X7,tag:= "", pkgPath:= "", byteOffset:=0 },{ name:= "In", type:=34,offset:=1,embedded:=X7,tag:= "", pkgPath:= "", byteOffset:=8 }]:Array Field).mapM λf=>do pure (f.offset,<-sizeOf f.type):Sem (Array (Nat×Nat))).run X9 w=.ok #[(0,1),(1,1)] w:=by
 simp[gx,fO bC,fO ahn]
def ahy(a:v0.cells = #[A])(b:v1.cells = #[B])(w:an):(Instr.build 58 #[(0,v0),(1,v1)]).run X9 w=.ok (.agg #[A,B]) w:=dP underlying58 Xo ae4 (by simp[Instr.fill,eT,a,b]) w
def By(a:(ev l x0).cells = #[A])(b:(ev l x1).cells = #[B]):gX X9 l (.build 58 #[(0,x0),(1,x1)]) ty (.agg #[A,B]):=iA (vs:=#[(0,ev l x0),(1,ev l x1)]) (by simp) λw=>ahy a b w
def ae5(w:an):((#[{ name:= "Tris", type:=44,offset:=0,embedded:=X7,tag:= "", pkgPath:= "", byteOffset:=0 },{ name:= "Made", type:=3,offset:=1,embedded:=X7,tag:= "", pkgPath:= "", byteOffset:=24 },{ name:= "Used", type:=3,offset:=2,embedded:=X7,tag:= "", pkgPath:= "", byteOffset:=32 }]:Array Field).mapM λf=>do pure (f.offset,<-sizeOf f.type):Sem (Array (Nat×Nat))).run X9 w=.ok #[(0,1),(1,1),(2,1)] w:=by
 simp[gx,fO bC,fO rU]
def acm(a:v0.cells = #[A])(b:v1.cells = #[B])(c:v2.cells = #[C])(w:an):(Instr.build 65 #[(0,v0),(1,v1),(2,v2)]).run X9 w=.ok (.agg #[A,B,C]) w:=dP sW Xp ae5 (by simp[Instr.fill,eT,a,b,c]) w
def wV(a:(ev l x0).cells = #[A])(b:(ev l x1).cells = #[B])(c:(ev l x2).cells = #[C]):gX X9 l (.build 65 #[(0,x0),(1,x1),(2,x2)]) ty (.agg #[A,B,C]):=iA (vs:=#[(0,ev l x0),(1,ev l x1),(2,ev l x2)]) (by simp) λw=>acm a b c w
def ae6(w:an):((#[{ name:= "Level", type:=3,offset:=0,embedded:=X7,tag:= "", pkgPath:= "", byteOffset:=0 },{ name:= "In", type:=22,offset:=1,embedded:=X7,tag:= "", pkgPath:= "", byteOffset:=8 },{ name:= "Out", type:=22,offset:=2,embedded:=X7,tag:= "", pkgPath:= "", byteOffset:=32 },{ name:= "Moves", type:=68,offset:=3,embedded:=X7,tag:= "", pkgPath:= "", byteOffset:=56 },{ name:= "Error", type:=3,offset:=4,embedded:=X7,tag:= "", pkgPath:= "", byteOffset:=80 },{ name:= "Total", type:=3,offset:=5,embedded:=X7,tag:= "", pkgPath:= "", byteOffset:=88 },{ name:= "Delta", type:=37,offset:=6,embedded:=X7,tag:= "", pkgPath:= "", byteOffset:=96 }]:Array Field).mapM λf=>do pure (f.offset,<-sizeOf f.type):Sem (Array (Nat×Nat))).run X9 w=.ok #[(0,1),(1,1),(2,1),(3,1),(4,1),(5,1),(6,2)] w:=by
 simp[gx,fO iF,fO bC,fO aJ,fO Br]
def ahz(a:v0.cells = #[A])(b:v1.cells = #[B])(w:an):(Instr.build 70 #[(0,v0),(1,v1)]).run X9 w=.ok (.agg #[A,B,(.slice X8 0 0),(.slice X8 0 0),(U 0),(U 0),(.bool X7),(.string ⟨#[]⟩)]) w:=dP oN adD ae6 (by simp[Instr.fill,eT,a,b]) w
def Pn(a:(ev l x0).cells = #[A])(b:(ev l x1).cells = #[B]):gX X9 l (.build 70 #[(0,x0),(1,x1)]) ty (.agg #[A,B,(.slice X8 0 0),(.slice X8 0 0),(U 0),(U 0),(.bool X7),(.string ⟨#[]⟩)]):=iA (vs:=#[(0,ev l x0),(1,ev l x1)]) (by simp) λw=>ahz a b w
def acn(a:v0.cells = #[A,B])(b:v1.cells = #[C,D])(c:v2.cells = #[E,F])(w:an):(Instr.build 86 #[(0,v0),(1,v1),(2,v2)]).run X9 w=.ok (.agg #[A,B,C,D,E,F]) w:=fT Ha adE aJ (by simp[Instr.fill,eT,a,b,c]) w
def Jp(a:(ev l x0).cells = #[A,B])(b:(ev l x1).cells = #[C,D])(c:(ev l x2).cells = #[E,F]):gX X9 l (.build 86 #[(0,x0),(1,x1),(2,x2)]) ty (.agg #[A,B,C,D,E,F]):=iA (vs:=#[(0,ev l x0),(1,ev l x1),(2,ev l x2)]) (by simp) λw=>acn a b c w
def aaE(a:v0.cells = #[A])(b:v1.cells = #[B])(c:v2.cells = #[C])(w:an):(Instr.build 103 #[(0,v0),(1,v1),(2,v2)]).run X9 w=.ok (.agg #[A,B,C]) w:=fT Jj Bt bC (by simp[Instr.fill,eT,a,b,c]) w
def vB(a:(ev l x0).cells = #[A])(b:(ev l x1).cells = #[B])(c:(ev l x2).cells = #[C]):gX X9 l (.build 103 #[(0,x0),(1,x1),(2,x2)]) ty (.agg #[A,B,C]):=iA (vs:=#[(0,ev l x0),(1,ev l x1),(2,ev l x2)]) (by simp) λw=>aaE a b c w
def ae7(a:v0.cells = #[A])(b:v1.cells = #[B])(w:an):(Instr.build 182 #[(0,v0),(1,v1)]).run X9 w=.ok (.agg #[A,B]) w:=fT underlying182 Pi iF (by simp[Instr.fill,eT,a,b]) w
def Mg(a:(ev l x0).cells = #[A])(b:(ev l x1).cells = #[B]):gX X9 l (.build 182 #[(0,x0),(1,x1)]) ty (.agg #[A,B]):=iA (vs:=#[(0,ev l x0),(1,ev l x1)]) (by simp) λw=>ae7 a b w
def ae8(a:v0.cells = #[A])(b:v1.cells = #[B])(w:an):(Instr.build 186 #[(0,v0),(1,v1)]).run X9 w=.ok (.agg #[A,B]) w:=fT Bp aaz pP (by simp[Instr.fill,eT,a,b]) w
def Mh(a:(ev l x0).cells = #[A])(b:(ev l x1).cells = #[B]):gX X9 l (.build 186 #[(0,x0),(1,x1)]) ty (.agg #[A,B]):=iA (vs:=#[(0,ev l x0),(1,ev l x1)]) (by simp) λw=>ae8 a b w
def ae9(a:v0.cells = #[A])(b:v1.cells = #[B])(w:an):(Instr.build 187 #[(0,v0),(1,v1)]).run X9 w=.ok (.agg #[A,B]) w:=fT underlying187 ahq bC (by simp[Instr.fill,eT,a,b]) w
def Mi(a:(ev l x0).cells = #[A])(b:(ev l x1).cells = #[B]):gX X9 l (.build 187 #[(0,x0),(1,x1)]) ty (.agg #[A,B]):=iA (vs:=#[(0,ev l x0),(1,ev l x1)]) (by simp) λw=>ae9 a b w
def aaF(a:v0.cells = #[A])(b:v1.cells = #[B])(c:v2.cells = #[C])(w:an):(Instr.build 205 #[(0,v0),(1,v1),(2,v2)]).run X9 w=.ok (.agg #[A,B,C]) w:=fT underlying205 aaA Df (by simp[Instr.fill,eT,a,b,c]) w
def Hf(a:(ev l x0).cells = #[A])(b:(ev l x1).cells = #[B])(c:(ev l x2).cells = #[C]):gX X9 l (.build 205 #[(0,x0),(1,x1),(2,x2)]) ty (.agg #[A,B,C]):=iA (vs:=#[(0,ev l x0),(1,ev l x1),(2,ev l x2)]) (by simp) λw=>aaF a b c w
def uQ{v3 v4 v5 a b c v9:am}(d:v0.cells = #[A,B])(e:v1.cells = #[C,D])(f:v2.cells = #[E,F])(g:v3.cells = #[G,ve])(h:v4.cells = #[I,vh])(i:v5.cells = #[K,L])(j:a.cells = #[M,vi])(k:b.cells = #[O0,P])(l:c.cells = #[R,S])(m:v9.cells = #[T,vd])(w:an):(Instr.build 221 #[(0,v0),(1,v1),(2,v2),(3,v3),(4,v4),(5,v5),(6,a),(7,b),(8,c),(9,v9)]).run X9 w=.ok (.agg #[A,B,C,D,E,F,G,ve,I,vh,K,L,M,vi,O0,P,R,S,T,vd]) w:=fT xZ aaB aJ (by simp[Instr.fill,eT,d,e,f,g,h,i,j,k,l,m]) w
def qT{x3 x4 x5 x6 x7 x8 a:cw}(b:(ev l x0).cells = #[A,B])(c:(ev l x1).cells = #[C,D])(d:(ev l x2).cells = #[E,F])(e:(ev l x3).cells = #[G,ve])(f:(ev l x4).cells = #[I,vh])(g:(ev l x5).cells = #[K,L])(h:(ev l x6).cells = #[M,vi])(i:(ev l x7).cells = #[O0,P])(j:(ev l x8).cells = #[R,S])(k:(ev l a).cells = #[T,vd]):gX X9 l (.build 221 #[(0,x0),(1,x1),(2,x2),(3,x3),(4,x4),(5,x5),(6,x6),(7,x7),(8,x8),(9,a)]) ty (.agg #[A,B,C,D,E,F,G,ve,I,vh,K,L,M,vi,O0,P,R,S,T,vd]):=iA (vs:=#[(0,ev l x0),(1,ev l x1),(2,ev l x2),(3,ev l x3),(4,ev l x4),(5,ev l x5),(6,ev l x6),(7,ev l x7),(8,ev l x8),(9,ev l a)]) (by simp) λw=>uQ b c d e f g h i j k w
def aco(w:an):((#[{ name:= "p", type:=41,offset:=0,embedded:=X7,tag:= "", pkgPath:= "lithophane/lithophaneref11", byteOffset:=0 },{ name:= "q", type:=221,offset:=3,embedded:=X7,tag:= "", pkgPath:= "lithophane/lithophaneref11", byteOffset:=24 }]:Array Field).mapM λf=>do pure (f.offset,<-sizeOf f.type):Sem (Array (Nat×Nat))).run X9 w=.ok #[(0,3),(3,20)] w:=by
 simp[gx,fO fC,fO aD]
def afa(a:v0.cells = #[B,C,D]){V W X:am}(b:v1.cells = #[E,A,F,G,ve,I,vh,K,L,M,vi,O0,P,R,S,T,vd,V,W,X])(w:an):(Instr.build 224 #[(0,v0),(1,v1)]).run X9 w=.ok (.agg #[B,C,D,E,A,F,G,ve,I,vh,K,L,M,vi,O0,P,R,S,T,vd,V,W,X]) w:=dP underlying224 ahr aco (by simp[Instr.fill,eT,a,b]) w
def Mj(a:(ev l x0).cells = #[B,C,D]){V W X:am}(b:(ev l x1).cells = #[E,A,F,G,ve,I,vh,K,L,M,vi,O0,P,R,S,T,vd,V,W,X]):gX X9 l (.build 224 #[(0,x0),(1,x1)]) ty (.agg #[B,C,D,E,A,F,G,ve,I,vh,K,L,M,vi,O0,P,R,S,T,vd,V,W,X]):=iA (vs:=#[(0,ev l x0),(1,ev l x1)]) (by simp) λw=>afa a b w
def acp(w:an):((#[{ name:= "u", type:=41,offset:=0,embedded:=X7,tag:= "", pkgPath:= "lithophane/lithophaneref11", byteOffset:=0 },{ name:= "v", type:=41,offset:=3,embedded:=X7,tag:= "", pkgPath:= "lithophane/lithophaneref11", byteOffset:=24 },{ name:= "cost", type:=37,offset:=6,embedded:=X7,tag:= "", pkgPath:= "lithophane/lithophaneref11", byteOffset:=48 }]:Array Field).mapM λf=>do pure (f.offset,<-sizeOf f.type):Sem (Array (Nat×Nat))).run X9 w=.ok #[(0,3),(3,3),(6,2)] w:=by
 simp[gx,fO aJ,fO aD]
def aaG(a:v0.cells = #[A,B,C])(b:v1.cells = #[D,E,F])(c:v2.cells = #[G,ve])(w:an):(Instr.build 228 #[(0,v0),(1,v1),(2,v2)]).run X9 w=.ok (.agg #[A,B,C,D,E,F,G,ve]) w:=dP underlying228 ahs acp (by simp[Instr.fill,eT,a,b,c]) w
def Hg(a:(ev l x0).cells = #[A,B,C])(b:(ev l x1).cells = #[D,E,F])(c:(ev l x2).cells = #[G,ve]):gX X9 l (.build 228 #[(0,x0),(1,x1),(2,x2)]) ty (.agg #[A,B,C,D,E,F,G,ve]):=iA (vs:=#[(0,ev l x0),(1,ev l x1),(2,ev l x2)]) (by simp) λw=>aaG a b c w
def Sz{v3:am}(a:v0.cells = #[A,B])(b:v1.cells = #[C,D])(c:v2.cells = #[E,F])(d:v3.cells = #[G,ve])(w:an):(Instr.build 293 #[(0,v0),(1,v1),(2,v2),(3,v3)]).run X9 w=.ok (.agg #[A,B,C,D,E,F,G,ve]) w:=fT underlying293 aht aJ (by simp[Instr.fill,eT,a,b,c,d]) w
def Dv{x3:cw}(a:(ev l x0).cells = #[A,B])(b:(ev l x1).cells = #[C,D])(c:(ev l x2).cells = #[E,F])(d:(ev l x3).cells = #[G,ve]):gX X9 l (.build 293 #[(0,x0),(1,x1),(2,x2),(3,x3)]) ty (.agg #[A,B,C,D,E,F,G,ve]):=iA (vs:=#[(0,ev l x0),(1,ev l x1),(2,ev l x2),(3,ev l x3)]) (by simp) λw=>Sz a b c d w
def Xu(d:Nat){x0 y0:Bool}{x1 y1:ByteArray}:tR X9 (d+2) 37 (.agg #[.bool x0,.string x1]) (.agg #[.bool y0,.string y1]) (x0=y0/\x1=y1):=(tR.struct Ec (by kernel_rfl) (Dt.cons (by decide) (kD eW rfl) (kD eW rfl) (tR.bool (d:=d+0) tZ) (Dt.cons (by decide) (kD amR rfl) (kD amR rfl) (tR.str (d:=d+0) pT) Dt.nil))).iff (by simp only[X4,Y8])
def wW{x0 y0:Bool}{x1 y1:ByteArray}(a:ev l x=(.agg #[.bool x0,.string x1]))(b:ev l y=(.agg #[.bool y0,.string y1])):gX X9 l (.binOp .eql 37 x y T') ty (.bool (decide (x0=y0/\x1=y1))):=Ev (by kernel_rfl) a b (Xu 9998)
def afb{x0 y0:Bool}{x1 y1:ByteArray}(a:ev l x=(.agg #[.bool x0,.string x1]))(b:ev l y=(.agg #[.bool y0,.string y1])):gX X9 l (.binOp .neq 37 x y T') ty (.bool (decide (¬(x0=y0/\x1=y1)))):=abY (by kernel_rfl) a b (Xu 9998)
def yD(d:Nat){x0:Int}{x1:Int}{x2:Int}:tR X9 (d+2) 41 (.agg #[U x0,U x1,U x2]) (.agg #[U y0,U y1,U y2]) (x0=y0/\x1=y1/\x2=y2):=(tR.struct iZ (by kernel_rfl) (Dt.cons (by decide) (kD bW rfl) (kD bW rfl) (tR.int (d:=d+0) mG) (Dt.cons (by decide) (kD bW rfl) (kD bW rfl) (tR.int (d:=d+0) mG) (Dt.cons (by decide) (kD bW rfl) (kD bW rfl) (tR.int (d:=d+0) mG) Dt.nil)))).iff (by simp only[X4,Y8])
def rA{x0:Int}{x1:Int}{x2:Int}(a:ev l x=(.agg #[U x0,U x1,U x2]))(b:ev l y=(.agg #[U y0,U y1,U y2])):gX X9 l (.binOp .eql 41 x y T') ty (.bool (decide (x0=y0/\x1=y1/\x2=y2))):=Ev (by kernel_rfl) a b (yD 9998)
def Us{x0:Int}{x1:Int}{x2:Int}(a:ev l x=(.agg #[U x0,U x1,U x2]))(b:ev l y=(.agg #[U y0,U y1,U y2])):gX X9 l (.binOp .neq 41 x y T') ty (.bool (decide (¬(x0=y0/\x1=y1/\x2=y2)))):=abY (by kernel_rfl) a b (yD 9998)
def acq(d:Nat){x0:Int}{x1:Int}{x2:Int}{x3 y3:Int}      : tR X9 (d+3) 43 (.agg #[U x0,U x1,U x2,U x3,U x4,U x5,U x6,U x7,U x8]) (.agg #[U y0,U y1,U y2,U y3,U y4,U y5,U y6,U y7,U y8]) (x0=y0/\x1=y1/\x2=y2/\x3=y3/\x4=y4/\x5=y5/\x6=y6/\x7=y7/\x8=y8):=(tR.array fR aD (vV.cons (iO aM aD rfl) (iO aM aD rfl) (yD (d+0)) (vV.cons (iO aM aD rfl) (iO aM aD rfl) (yD (d+0)) (vV.cons (iO aM aD rfl) (iO aM aD rfl) (yD (d+0)) vV.nil)))).iff (by simp only[X4,Y8])
def afc{x0:Int}{x1:Int}{x2:Int}{x3 y3:Int}(a:ev l x=(.agg #[U x0,U x1,U x2,U x3,U x4,U x5,U x6,U x7,U x8]))(b:ev l y=(.agg #[U y0,U y1,U y2,U y3,U y4,U y5,U y6,U y7,U y8])):gX X9 l (.binOp .eql 43 x y T') ty (.bool (decide (x0=y0/\x1=y1/\x2=y2/\x3=y3/\x4=y4/\x5=y5/\x6=y6/\x7=y7/\x8=y8))):=Ev (by kernel_rfl) a b (acq 9997)
def Xv(d:Nat){x0 y0:Bool}{x1 y1:ByteArray}{x2 y2:Bool}  : tR X9 (d+3) 49 (.agg #[.bool x0,.string x1,.bool x2,.string x3]) (.agg #[.bool y0,.string y1,.bool y2,.string y3]) (x0=y0/\x1=y1/\x2=y2/\x3=y3):=(tR.struct Um (by kernel_rfl) (Dt.cons (by decide) (iO bE aJ rfl) (iO bE aJ rfl) (Xu (d+0)) (Dt.cons (by decide) (iO bE aJ rfl) (iO bE aJ rfl) (Xu (d+0)) Dt.nil))).iff (by simp only[X4,Y8])
def Ut{x0 y0:Bool}{x1 y1:ByteArray}{x2 y2:Bool}(a:ev l x=(.agg #[.bool x0,.string x1,.bool x2,.string x3]))(b:ev l y=(.agg #[.bool y0,.string y1,.bool y2,.string y3])):gX X9 l (.binOp .eql 49 x y T') ty (.bool (decide (x0=y0/\x1=y1/\x2=y2/\x3=y3))):=Ev (by kernel_rfl) a b (Xv 9997)
def aoa(d:Nat){x0 y0:Bool}{x1 y1:ByteArray}{x2 y2:Bool}{x4 y4:Bool}{x5 y5:ByteArray}{x6 y6:Bool}{x7 y7:ByteArray}{x8 y8:Bool}{a b:ByteArray}{c e:ByteArray}:tR X9 (d+4) 50 (.agg #[.bool x0,.string x1,.bool x2,.string x3,.bool x4,.string x5,.bool x6,.string x7,.bool x8,.string a,.bool x10,.string c]) (.agg #[.bool y0,.string y1,.bool y2,.string y3,.bool y4,.string y5,.bool y6,.string y7,.bool y8,.string b,.bool y10,.string e]) (x0=y0/\x1=y1/\x2=y2/\x3=y3/\x4=y4/\x5=y5/\x6=y6/\x7=y7/\x8=y8/\a=b/\x10=y10/\c=e):=(tR.array underlying50 dC (vV.cons (iO iG dC rfl) (iO iG dC rfl) (Xv (d+0)) (vV.cons (iO iG dC rfl) (iO iG dC rfl) (Xv (d+0)) (vV.cons (iO iG dC rfl) (iO iG dC rfl) (Xv (d+0)) vV.nil)))).iff (by simp only[X4,Y8])
def afd{x0 y0:Bool}{x1 y1:ByteArray}{x2 y2:Bool}{x4 y4:Bool}{x5 y5:ByteArray}{x6 y6:Bool}{x7 y7:ByteArray}{x8 y8:Bool}{a b:ByteArray}{c d:ByteArray}(e:ev l x=(.agg #[.bool x0,.string x1,.bool x2,.string x3,.bool x4,.string x5,.bool x6,.string x7,.bool x8,.string a,.bool x10,.string c]))(f:ev l y=(.agg #[.bool y0,.string y1,.bool y2,.string y3,.bool y4,.string y5,.bool y6,.string y7,.bool y8,.string b,.bool y10,.string d])):gX X9 l (.binOp .eql 50 x y T') ty (.bool (decide (x0=y0/\x1=y1/\x2=y2/\x3=y3/\x4=y4/\x5=y5/\x6=y6/\x7=y7/\x8=y8/\a=b/\x10=y10/\c=d))):=Ev (by kernel_rfl) e f (aoa 9996)
def adK(d:Nat){x0:Int}{x1:Int}{x2:Int}:tR X9 (d+2) 103 (.agg #[U x0,U x1,U x2]) (.agg #[U y0,U y1,U y2]) (x0=y0/\x1=y1/\x2=y2):=(tR.array Jj bC (vV.cons (kD bW rfl) (kD bW rfl) (tR.int (d:=d+0) mG) (vV.cons (kD bW rfl) (kD bW rfl) (tR.int (d:=d+0) mG) (vV.cons (kD bW rfl) (kD bW rfl) (tR.int (d:=d+0) mG) vV.nil)))).iff (by simp only[X4,Y8])
def acr{x0:Int}{x1:Int}{x2:Int}(a:ev l x=(.agg #[U x0,U x1,U x2]))(b:ev l y=(.agg #[U y0,U y1,U y2])):gX X9 l (.binOp .eql 103 x y T') ty (.bool (decide (x0=y0/\x1=y1/\x2=y2))):=Ev (by kernel_rfl) a b (adK 9998)
def adL(d:Nat){x0:Int}{x1:Int}{x2:Int}{x3 y3:Int}   : tR X9 (d+3) 170 (.agg #[U x0,U x1,U x2,U x3,U x4,U x5]) (.agg #[U y0,U y1,U y2,U y3,U y4,U y5]) (x0=y0/\x1=y1/\x2=y2/\x3=y3/\x4=y4/\x5=y5):=(tR.array underlying170 aD (vV.cons (iO aM aD rfl) (iO aM aD rfl) (yD (d+0)) (vV.cons (iO aM aD rfl) (iO aM aD rfl) (yD (d+0)) vV.nil))).iff (by simp only[X4,Y8])
end
section
variable{l:List am}{ty:ba}{x y x0 x1 x2:cw}{k:IntKind}{c0 c1 c2 c3 c4 c5 c6 c7 c8 A B C D E F G ve I vh K L M vi O0 P R S:am}{ds:List d_}{ops:Array Oper}{rest:List Oper}{d:Nat}{pos:String}{after:Array Edge}{w:an}
def tE(a:ev l x=.agg #[c0,c1,c2,c3,c4,c5,c6,c7,c8])(b:ev l y=.int k 0):gX X9 l (.index 43 x y) ty (.agg #[c0,c1,c2]):=wI fR aM aD a b (by decide) (by decide) rfl
def qM(a:ev l x=.agg #[c0,c1,c2,c3,c4,c5,c6,c7,c8])(b:ev l y=.int k 1):gX X9 l (.index 43 x y) ty (.agg #[c3,c4,c5]):=wI fR aM aD a b (by decide) (by decide) rfl
def nW(a:ev l x=.agg #[c0,c1,c2,c3,c4,c5,c6,c7,c8])(b:ev l y=.int k 2):gX X9 l (.index 43 x y) ty (.agg #[c6,c7,c8]):=wI fR aM aD a b (by decide) (by decide) rfl
def Hh(a:ev l x=.agg #[c0,c1,c2])(b:ev l y=.int k 0):gX X9 l (.index 93 x y) ty c0:=kB underlying93 aci Ph a b (by decide) (by decide) rfl
def Hi(a:ev l x=.agg #[c0,c1,c2])(b:ev l y=.int k 1):gX X9 l (.index 93 x y) ty c1:=kB underlying93 aci Ph a b (by decide) (by decide) rfl
def Hj(a:ev l x=.agg #[c0,c1,c2])(b:ev l y=.int k 2):gX X9 l (.index 93 x y) ty c2:=kB underlying93 aci Ph a b (by decide) (by decide) rfl
def oO(a:ev l x=.agg #[c0,c1,c2])(b:ev l y=.int k 0):gX X9 l (.index 103 x y) ty c0:=kB Jj bW bC a b (by decide) (by decide) rfl
def oP(a:ev l x=.agg #[c0,c1,c2])(b:ev l y=.int k 1):gX X9 l (.index 103 x y) ty c1:=kB Jj bW bC a b (by decide) (by decide) rfl
def oQ(a:ev l x=.agg #[c0,c1,c2])(b:ev l y=.int k 2):gX X9 l (.index 103 x y) ty c2:=kB Jj bW bC a b (by decide) (by decide) rfl
def Ta(a:ev l x=.agg #[c0,c1,c2,c3,c4,c5])(b:ev l y=.int k 0):gX X9 l (.index 142 x y) ty (.agg #[c0,c1]):=wI underlying142 bE aJ a b (by decide) (by decide) rfl
def Tb(a:ev l x=.agg #[c0,c1,c2,c3,c4,c5])(b:ev l y=.int k 1):gX X9 l (.index 142 x y) ty (.agg #[c2,c3]):=wI underlying142 bE aJ a b (by decide) (by decide) rfl
def Tc(a:ev l x=.agg #[c0,c1,c2,c3,c4,c5])(b:ev l y=.int k 2):gX X9 l (.index 142 x y) ty (.agg #[c4,c5]):=wI underlying142 bE aJ a b (by decide) (by decide) rfl
def Ed(a:ev l x=.agg #[c0,c1])(b:ev l y=.int k 0):gX X9 l (.index 182 x y) ty c0:=kB underlying182 mA iF a b (by decide) (by decide) rfl
def Ee(a:ev l x=.agg #[c0,c1])(b:ev l y=.int k 1):gX X9 l (.index 182 x y) ty c1:=kB underlying182 mA iF a b (by decide) (by decide) rfl
def Td(a:ev l x=.agg #[c0,c1])(b:ev l y=.int k 0):gX X9 l (.index 187 x y) ty c0:=kB underlying187 bW bC a b (by decide) (by decide) rfl
def Ef(a:ev l x=.agg #[c0,c1])(b:ev l y=.int k 1):gX X9 l (.index 187 x y) ty c1:=kB underlying187 bW bC a b (by decide) (by decide) rfl
def Eg(a:ev l x=.agg #[c0,c1,c2])(b:ev l y=.int k 0):gX X9 l (.index 205 x y) ty c0:=kB underlying205 Xs Df a b (by decide) (by decide) rfl
def Eh(a:ev l x=.agg #[c0,c1,c2])(b:ev l y=.int k 1):gX X9 l (.index 205 x y) ty c1:=kB underlying205 Xs Df a b (by decide) (by decide) rfl
def Ei(a:ev l x=.agg #[c0,c1,c2])(b:ev l y=.int k 2):gX X9 l (.index 205 x y) ty c2:=kB underlying205 Xs Df a b (by decide) (by decide) rfl
def Te(a:ev l x=.agg #[c0,c1,c2])(b:ev l y=.int k 0):gX X9 l (.index 288 x y) ty c0:=kB underlying288 bW bC a b (by decide) (by decide) rfl
def Tf(a:ev l x=.agg #[c0,c1,c2])(b:ev l y=.int k 1):gX X9 l (.index 288 x y) ty c1:=kB underlying288 bW bC a b (by decide) (by decide) rfl
def Tg(a:ev l x=.agg #[c0,c1,c2])(b:ev l y=.int k 2):gX X9 l (.index 288 x y) ty c2:=kB underlying288 bW bC a b (by decide) (by decide) rfl
def Dh{Q:Exit->Act->an->Prop}(a:(ev l x0).cells = #[A])(b:(ev l x1).cells = #[B])(e:(ev l x2).cells = #[C])(h:∀w' g,eR w w'->w.heap.size<=g->fQ w' g [A,B,C] 3->be X9 ops Q rest (Fr (l.set d (.slice (H ⟨g,0,X8⟩) 3 3)) ds) w'):be X9 ops Q (cj (H d) (.buildSlice 22 3 #[(0,x0),(1,x1),(2,x2)]) ty pos after X8::rest) (Fr l ds) w:=
 kC (vs:=#[(0,ev l x0),(1,ev l x1),(2,ev l x2)]) (base:=#[U 0,U 0,U 0]) (c:=1) (z:=(U 0)) cF (by kernel_rfl) (by decide) (by decide) (by kernel_rfl) (by simp) (by simp[Instr.fill,a,b,e]) h
def Jq{Q:Exit->Act->an->Prop}(a:(ev l x0).cells = #[A,B,C])(h:∀w' g,eR w w'->w.heap.size<=g->fQ w' g [A,B,C] 65->be X9 ops Q rest (Fr (l.set d (.slice (H ⟨g,0,X8⟩) 1 1)) ds) w'):be X9 ops Q (cj (H d) (.buildSlice 28 1 #[(0,x0)]) ty pos after X8::rest) (Fr l ds) w:=
 kC (vs:=#[(0,ev l x0)]) (base:=#[.slice X8 0 0,U 0,U 0]) (c:=3) (z:=(.agg #[.slice X8 0 0,U 0,U 0])) uZ (by kernel_rfl) (by decide) (by decide) (by kernel_rfl) (by simp) (by simp[Instr.fill,a]) h
def Jr{Q:Exit->Act->an->Prop}(a:(ev l x0).cells = #[A,B,C,D,E,F,G,ve])(h:∀w' g,eR w w'->w.heap.size<=g->fQ w' g [A,B,C,D,E,F,G,ve] 70->be X9 ops Q rest (Fr (l.set d (.slice (H ⟨g,0,X8⟩) 1 1)) ds) w'):be X9 ops Q (cj (H d) (.buildSlice 29 1 #[(0,x0)]) ty pos after X8::rest) (Fr l ds) w:=
 kC (vs:=#[(0,ev l x0)]) (base:=#[U 0,.slice X8 0 0,.slice X8 0 0,.slice X8 0 0,U 0,U 0,.bool X7,.string ⟨#[]⟩]) (c:=8) (z:=(.agg #[U 0,.slice X8 0 0,.slice X8 0 0,.slice X8 0 0,U 0,U 0,.bool X7,.string ⟨#[]⟩])) wU (by kernel_rfl) (by decide) (by decide) (by kernel_rfl) (by simp) (by simp[Instr.fill,a]) h
def jL{Q:Exit->Act->an->Prop}(a:(ev l x0).cells = #[A,B,C,D,E,F,G,ve,I])(h:∀w' g,eR w w'->w.heap.size<=g->fQ w' g [A,B,C,D,E,F,G,ve,I] 43->be X9 ops Q rest (Fr (l.set d (.slice (H ⟨g,0,X8⟩) 1 1)) ds) w'):be X9 ops Q (cj (H d) (.buildSlice 44 1 #[(0,x0)]) ty pos after X8::rest) (Fr l ds) w:=
 kC (vs:=#[(0,ev l x0)]) (base:=#[U 0,U 0,U 0,U 0,U 0,U 0,U 0,U 0,U 0]) (c:=9) (z:=(.agg #[U 0,U 0,U 0,U 0,U 0,U 0,U 0,U 0,U 0])) gB (by kernel_rfl) (by decide) (by decide) (by kernel_rfl) (by simp) (by simp[Instr.fill,a]) h
def afe{Q:Exit->Act->an->Prop}{a:cw}{T r V W X Y Z b e f i j k m n o p q:am}(s:(ev l x0).cells = #[A,B,C,D,E,F,G,ve,I])(t:(ev l x1).cells = #[vh,K,L,M,vi,O0,P,R,S])(u:(ev l x2).cells = #[T,r,V,W,X,Y,Z,b,e])(v:(ev l a).cells = #[f,i,j,k,m,n,o,p,q])(h:∀w' g,eR w w'->w.heap.size<=g->fQ w' g [A,B,C,D,E,F,G,ve,I,vh,K,L,M,vi,O0,P,R,S,T,r,V,W,X,Y,Z,b,e,f,i,j,k,m,n,o,p,q] 43->be X9 ops Q rest (Fr (l.set d (.slice (H ⟨g,0,X8⟩) 4 4)) ds) w'):be X9 ops Q (cj (H d) (.buildSlice 44 4 #[(0,x0),(1,x1),(2,x2),(3,a)]) ty pos after X8::rest) (Fr l ds) w:=
 kC (vs:=#[(0,ev l x0),(1,ev l x1),(2,ev l x2),(3,ev l a)]) (base:=#[U 0,U 0,U 0,U 0,U 0,U 0,U 0,U 0,U 0,U 0,U 0,U 0,U 0,U 0,U 0,U 0,U 0,U 0,U 0,U 0,U 0,U 0,U 0,U 0,U 0,U 0,U 0,U 0,U 0,U 0,U 0,U 0,U 0,U 0,U 0,U 0]) (c:=9) (z:=(.agg #[U 0,U 0,U 0,U 0,U 0,U 0,U 0,U 0,U 0])) gB (by kernel_rfl) (by decide) (by decide) (by kernel_rfl) (by simp) (by simp[Instr.fill,s,t,u,v]) h
def Uu{Q:Exit->Act->an->Prop}(a:(ev l x0).cells = #[A,B,C,D,E,F])(h:∀w' g,eR w w'->w.heap.size<=g->fQ w' g [A,B,C,D,E,F] 176->be X9 ops Q rest (Fr (l.set d (.slice (H ⟨g,0,X8⟩) 1 1)) ds) w'):be X9 ops Q (cj (H d) (.buildSlice 68 1 #[(0,x0)]) ty pos after X8::rest) (Fr l ds) w:=
 kC (vs:=#[(0,ev l x0)]) (base:=#[U 0,U 0,U 0,U 0,U 0,U 0]) (c:=6) (z:=(.agg #[U 0,U 0,U 0,U 0,U 0,U 0])) vA (by kernel_rfl) (by decide) (by decide) (by kernel_rfl) (by simp) (by simp[Instr.fill,a]) h
def aff{Q:Exit->Act->an->Prop}(a:(ev l x0).cells = #[A,B,C,D])(h:∀w' g,eR w w'->w.heap.size<=g->fQ w' g [A,B,C,D] 165->be X9 ops Q rest (Fr (l.set d (.slice (H ⟨g,0,X8⟩) 1 1)) ds) w'):be X9 ops Q (cj (H d) (.buildSlice 73 1 #[(0,x0)]) ty pos after X8::rest) (Fr l ds) w:=
 kC (vs:=#[(0,ev l x0)]) (base:=#[.slice X8 0 0,U 0,.slice X8 0 0,.slice X8 0 0]) (c:=4) (z:=(.agg #[.slice X8 0 0,U 0,.slice X8 0 0,.slice X8 0 0])) underlying73 (by kernel_rfl) (by decide) (by decide) (by kernel_rfl) (by simp) (by simp[Instr.fill,a]) h
def lF{Q:Exit->Act->an->Prop}(a:(ev l x0).cells = #[A,B,C])(h:∀w' g,eR w w'->w.heap.size<=g->fQ w' g [A,B,C] 41->be X9 ops Q rest (Fr (l.set d (.slice (H ⟨g,0,X8⟩) 1 1)) ds) w'):be X9 ops Q (cj (H d) (.buildSlice 110 1 #[(0,x0)]) ty pos after X8::rest) (Fr l ds) w:=
 kC (vs:=#[(0,ev l x0)]) (base:=#[U 0,U 0,U 0]) (c:=3) (z:=(.agg #[U 0,U 0,U 0])) eL (by kernel_rfl) (by decide) (by decide) (by kernel_rfl) (by simp) (by simp[Instr.fill,a]) h
def Po{Q:Exit->Act->an->Prop}(a:(ev l x0).cells = #[A,B,C])(b:(ev l x1).cells = #[D,E,F])(h:∀w' g,eR w w'->w.heap.size<=g->fQ w' g [A,B,C,D,E,F] 41->be X9 ops Q rest (Fr (l.set d (.slice (H ⟨g,0,X8⟩) 2 2)) ds) w'):be X9 ops Q (cj (H d) (.buildSlice 110 2 #[(0,x0),(1,x1)]) ty pos after X8::rest) (Fr l ds) w:=
 kC (vs:=#[(0,ev l x0),(1,ev l x1)]) (base:=#[U 0,U 0,U 0,U 0,U 0,U 0]) (c:=3) (z:=(.agg #[U 0,U 0,U 0])) eL (by kernel_rfl) (by decide) (by decide) (by kernel_rfl) (by simp) (by simp[Instr.fill,a,b]) h
def acs{Q:Exit->Act->an->Prop}(a:(ev l x0).cells = #[A,B,C])(b:(ev l x1).cells = #[D,E,F])(e:(ev l x2).cells = #[G,ve,I])(h:∀w' g,eR w w'->w.heap.size<=g->fQ w' g [A,B,C,D,E,F,G,ve,I] 41->be X9 ops Q rest (Fr (l.set d (.slice (H ⟨g,0,X8⟩) 3 3)) ds) w'):be X9 ops Q (cj (H d) (.buildSlice 110 3 #[(0,x0),(1,x1),(2,x2)]) ty pos after X8::rest) (Fr l ds) w:=
 kC (vs:=#[(0,ev l x0),(1,ev l x1),(2,ev l x2)]) (base:=#[U 0,U 0,U 0,U 0,U 0,U 0,U 0,U 0,U 0]) (c:=3) (z:=(.agg #[U 0,U 0,U 0])) eL (by kernel_rfl) (by decide) (by decide) (by kernel_rfl) (by simp) (by simp[Instr.fill,a,b,e]) h
def Fe{Q:Exit->Act->an->Prop}{a:cw}(b:(ev l x0).cells = #[A,B,C])(e:(ev l x1).cells = #[D,E,F])(f:(ev l x2).cells = #[G,ve,I])(i:(ev l a).cells = #[vh,K,L])(h:∀w' g,eR w w'->w.heap.size<=g->fQ w' g [A,B,C,D,E,F,G,ve,I,vh,K,L] 41->be X9 ops Q rest (Fr (l.set d (.slice (H ⟨g,0,X8⟩) 4 4)) ds) w'):be X9 ops Q (cj (H d) (.buildSlice 110 4 #[(0,x0),(1,x1),(2,x2),(3,a)]) ty pos after X8::rest) (Fr l ds) w:=
 kC (vs:=#[(0,ev l x0),(1,ev l x1),(2,ev l x2),(3,ev l a)]) (base:=#[U 0,U 0,U 0,U 0,U 0,U 0,U 0,U 0,U 0,U 0,U 0,U 0]) (c:=3) (z:=(.agg #[U 0,U 0,U 0])) eL (by kernel_rfl) (by decide) (by decide) (by kernel_rfl) (by simp) (by simp[Instr.fill,b,e,f,i]) h
def Pp{Q:Exit->Act->an->Prop}(a:(ev l x0).cells = #[A,B])(b:(ev l x1).cells = #[C,D])(e:(ev l x2).cells = #[E,F])(h:∀w' g,eR w w'->w.heap.size<=g->fQ w' g [A,B,C,D,E,F] 37->be X9 ops Q rest (Fr (l.set d (.slice (H ⟨g,0,X8⟩) 3 3)) ds) w'):be X9 ops Q (cj (H d) (.buildSlice 128 3 #[(0,x0),(1,x1),(2,x2)]) ty pos after X8::rest) (Fr l ds) w:=
 kC (vs:=#[(0,ev l x0),(1,ev l x1),(2,ev l x2)]) (base:=#[.bool X7,.string ⟨#[]⟩,.bool X7,.string ⟨#[]⟩,.bool X7,.string ⟨#[]⟩]) (c:=2) (z:=(.agg #[.bool X7,.string ⟨#[]⟩])) underlying128 (by kernel_rfl) (by decide) (by decide) (by kernel_rfl) (by simp) (by simp[Instr.fill,a,b,e]) h
def Pq{Q:Exit->Act->an->Prop}(a:(ev l x0).cells = #[A,B,C,D,E,F])(h:∀w' g,eR w w'->w.heap.size<=g->fQ w' g [A,B,C,D,E,F] 170->be X9 ops Q rest (Fr (l.set d (.slice (H ⟨g,0,X8⟩) 1 1)) ds) w'):be X9 ops Q (cj (H d) (.buildSlice 168 1 #[(0,x0)]) ty pos after X8::rest) (Fr l ds) w:=
 kC (vs:=#[(0,ev l x0)]) (base:=#[U 0,U 0,U 0,U 0,U 0,U 0]) (c:=6) (z:=(.agg #[U 0,U 0,U 0,U 0,U 0,U 0])) qY (by kernel_rfl) (by decide) (by decide) (by kernel_rfl) (by simp) (by simp[Instr.fill,a]) h
def acu{Q:Exit->Act->an->Prop}(a:(ev l x0).cells = #[A,B,C,D,E,F])(b:(ev l x1).cells = #[G,ve,I,vh,K,L])(e:(ev l x2).cells = #[M,vi,O0,P,R,S])(h:∀w' g,eR w w'->w.heap.size<=g->fQ w' g [A,B,C,D,E,F,G,ve,I,vh,K,L,M,vi,O0,P,R,S] 170->be X9 ops Q rest (Fr (l.set d (.slice (H ⟨g,0,X8⟩) 3 3)) ds) w'):be X9 ops Q (cj (H d) (.buildSlice 168 3 #[(0,x0),(1,x1),(2,x2)]) ty pos after X8::rest) (Fr l ds) w:=
 kC (vs:=#[(0,ev l x0),(1,ev l x1),(2,ev l x2)]) (base:=#[U 0,U 0,U 0,U 0,U 0,U 0,U 0,U 0,U 0,U 0,U 0,U 0,U 0,U 0,U 0,U 0,U 0,U 0]) (c:=6) (z:=(.agg #[U 0,U 0,U 0,U 0,U 0,U 0])) qY (by kernel_rfl) (by decide) (by decide) (by kernel_rfl) (by simp) (by simp[Instr.fill,a,b,e]) h
def acv{Q:Exit->Act->an->Prop}{T a V W X:am}(b:(ev l x0).cells = #[C,A,B,D,E,F,G,ve,I,vh,K,L,M,vi,O0,P,R,S,T,a,V,W,X])(h:∀w' g,eR w w'->w.heap.size<=g->fQ w' g [C,A,B,D,E,F,G,ve,I,vh,K,L,M,vi,O0,P,R,S,T,a,V,W,X] 224->be X9 ops Q rest (Fr (l.set d (.slice (H ⟨g,0,X8⟩) 1 1)) ds) w'):be X9 ops Q (cj (H d) (.buildSlice 218 1 #[(0,x0)]) ty pos after X8::rest) (Fr l ds) w:=
 kC (vs:=#[(0,ev l x0)]) (base:=#[U 0,U 0,U 0,.bool X7,.string ⟨#[]⟩,.bool X7,.string ⟨#[]⟩,.bool X7,.string ⟨#[]⟩,.bool X7,.string ⟨#[]⟩,.bool X7,.string ⟨#[]⟩,.bool X7,.string ⟨#[]⟩,.bool X7,.string ⟨#[]⟩,.bool X7,.string ⟨#[]⟩,.bool X7,.string ⟨#[]⟩,.bool X7,.string ⟨#[]⟩]) (c:=23) (z:=(.agg #[U 0,U 0,U 0,.bool X7,.string ⟨#[]⟩,.bool X7,.string ⟨#[]⟩,.bool X7,.string ⟨#[]⟩,.bool X7,.string ⟨#[]⟩,.bool X7,.string ⟨#[]⟩,.bool X7,.string ⟨#[]⟩,.bool X7,.string ⟨#[]⟩,.bool X7,.string ⟨#[]⟩,.bool X7,.string ⟨#[]⟩,.bool X7,.string ⟨#[]⟩])) Jk (by kernel_rfl) (by decide) (by decide) (by kernel_rfl) (by simp) (by simp[Instr.fill,b]) h
def acw{Q:Exit->Act->an->Prop}(a:(ev l x0).cells = #[A,B,C,D,E,F,G,ve])(h:∀w' g,eR w w'->w.heap.size<=g->fQ w' g [A,B,C,D,E,F,G,ve] 228->be X9 ops Q rest (Fr (l.set d (.slice (H ⟨g,0,X8⟩) 1 1)) ds) w'):be X9 ops Q (cj (H d) (.buildSlice 225 1 #[(0,x0)]) ty pos after X8::rest) (Fr l ds) w:=
 kC (vs:=#[(0,ev l x0)]) (base:=#[U 0,U 0,U 0,U 0,U 0,U 0,.bool X7,.string ⟨#[]⟩]) (c:=8) (z:=(.agg #[U 0,U 0,U 0,U 0,U 0,U 0,.bool X7,.string ⟨#[]⟩])) underlying225 (by kernel_rfl) (by decide) (by decide) (by kernel_rfl) (by simp) (by simp[Instr.fill,a]) h
end
end Go.Proofs.YtbbokjbcdkgfgaaGreatDoor
namespace Go.Lith
section
open Go.RowKit
def Th(w:an)(g:Nat)(es:Array kx)(c:Nat):Prop:=w.heap[g]? = H (.map es c)
def Th.lt{w:an}{g c:Nat}{es:Array kx}(h:Th w g es c):g<w.heap.size:=(fx.1 h).1
section
variable{P:B}{ds:List d_}{l:List am}{x:cw}{T ty:ba}{ops:Array Oper}{Q:Exit->Act->an->Prop}{rest:List Oper}{d:Nat}{pos:String}{after:Array Edge}{w:an}
def afg(h:∀w' g,eR w w'->w.heap.size<=g->Th w' g #[] 0->be P ops Q rest (Fr (l.set d (.map (H g))) ds) w'):be P ops Q (cj (H d) (.makeMap T X8) ty pos after X8::rest) (Fr l ds) w:=
 pC (w':=w.alloc (.map #[] 0)) (v:=.map (H w.heap.size)) (λo a _=>by simp[execOp,a,Instr.makeMap,newObj,Sem.run]) (h _ _ ((eR.refl w).alloc _) (bg _) (heap_alloc_new w _))
end
end
section
open Go.RowKit Go.ChangeMaps Go.MapKept
/-! ### Lists of pairs -/
section
variable{K V:Type}[DecidableEq K]
def Pr:List (K×V)->K->V->List (K×V)
 | [],k,v=>[(k,v)]
 |x::D,k,v=>if x.1=k then (k,v)::D else x::Pr D k v
def mJ:List (K×V)->K->Option V
 | [],_=>X8
 |x::D,k=>if x.1=k then H x.2 else mJ D k
def afh:List (K×V)->K->List (K×V)
 | [],_=>[]
 |x::D,k=>if x.1=k then D else x::afh D k
def vC:List (K×V)->K->Nat->Option (Nat×V)
 | [],_,_=>X8
 |x::D,k,i=>if x.1=k then H (i,x.2) else vC D k (i+1)
def Ff:∀(D:List (K×V)) (k:K) (i:Nat),vC D k i=X8->mJ D k=X8/\(∀u,Pr D k u=D++[(k,u)])/\afh D k=D
 | [],_,_,_=>⟨rfl,λ_=>rfl,rfl⟩
 |x::D,k,i,h=>by
  unfold vC at h;by_cases e:x.1=k
  .rw[Z9 e] at h;cases h
  rw[K0 e] at h
  obtain⟨a,b,c⟩:=Ff D k (i+1) h;exact⟨by simp[mJ,e,a],λu=>by simp[Pr,e,b],by simp[afh,e,c]⟩
def Fg:∀(D:List (K×V)) (k:K) (i j:Nat) (v:V),vC D k i=H (j,v)->∃p,j=i+p/\D[p]? = H (k,v)/\mJ D k=H v/\(∀u,Pr D k u=D.set p (k,u))/\afh D k=D.eraseIdx p
 | [],_,_,_,_,h=>by cases h
 |x::D,k,i,j,v,h=>by
  unfold vC at h;by_cases e:x.1=k
  . rw[Z9 e] at h
    cases h;obtain⟨a,b⟩:=x;obtain rfl:a=k:=e;exact⟨0,O,O,by simp[mJ],λu=>by simp[Pr],by simp[afh]⟩
  rw[K0 e] at h
  obtain⟨p,l,c,d,f,g⟩:=Fg D k (i+1) j v h;exact⟨p+1,by omega,by simpa using c,by simp[mJ,e,d],λu=>by simp[Pr,e,f],by simp[afh,e,g]⟩
def Hk:∀{D:List (K×V)} {k:K} {v:V},mJ D k=H v->(k,v)∈D
 | [],_,_,h=>by cases h
 |x::D,k,v,h=>by
  unfold mJ at h;split at h
  .rename_i e;cases h;subst e;exact bv ..
  exact br _ (Hk h)
def Uv:∀{D:List (K×V)} {k:K},mJ D k=X8↔k∉D.map (·.1)
 | [],_=>by simp[mJ]
 |x::D,k=>by
  unfold mJ;split
  .rename_i e;simp[e]
  rename_i e
  rw[Uv (D:=D)];simp only[df,bl,not_or];exact⟨λh=>⟨λa=>e a.symm,h⟩,λh=>h.2⟩
def Bz:∀{D:List (K×V)} {k:K} {v:V},(D.map (·.1)).Nodup->(k,v)∈D->mJ D k=H v
 | [],_,_,_,h=>by cases h
 |x::D,k,v,b,h=>by
  have a:=og.1 b;unfold mJ;rcases bl.1 h with rfl|h
  .simp
  rw[K0 λe=>a.1 (by show x.1∈_;rw[e];exact du.2 ⟨_,h,O⟩)]
  exact Bz a.2 h
end
/-! ### A map's entries -/
def mpr(e:kx):am×am:=(e.key,e.val)
structure nG{K V:Type}(ek:K->am)(ev:V->am)(D:List (K×V))(es:Array kx)(c:Nat):Prop where
 cells:es.toList.map mpr=D.map λx=>(ek x.1,ev x.2)
 born:∀e∈es.toList,e.born<c
 nd:(es.toList.map (·.born)).Nodup
def nG.nil{K V:Type}(ek:K->am)(ev:V->am):nG ek ev ([]:List (K×V)) #[] 0:=⟨rfl,λ_ h=>by simp at h,by simp⟩
structure acx{K:Type}[DecidableEq K](P:B)(T:ba)(ek:K->am):Prop where
 chk:∀e k w,(Instr.checkKey e 10000 T (ek k)).run P w=.ok () w
 now:∃t,P.underlying T=H t/\∀a b,Instr.sameNow t (ek a) (ek b)=X8\/Instr.sameNow t (ek a) (ek b)=H (decide (a=b))
 eq:∀a b w,(Op.equal T (ek a) (ek b)).run P w=.ok (decide (a=b)) w
 bits:∀a,Instr.sameBits 10000 (ek a) (ek a)=N
section
variable{K V:Type}[DecidableEq K]{P:B}{T:ba}{ek:K->am}{ev:V->am}
def Ll(b:acx P T ek)(k:K)(w:an):∀(L:List kx) (D:List (K×V)) (i:Nat),L.map mpr=D.map (λx=>(ek x.1,ev x.2)) ->
 (Instr.findAsking T (ek k) L i).run P w=.ok ((vC D k i).map λp=>(p.1,ev p.2)) w
 | [],D,i,h=>by
  obtain rfl:D=[]:=by simpa using h.symm
  simp[Instr.findAsking,vC]
 |e::L,[],i,h=>by simp at h
 |e::L,x::D,i,h=>by
  simp only[df,ph,mpr,iy] at h;obtain⟨⟨c,d⟩,f⟩:=h;have ih:=Ll b k w L D (i+1) f;unfold Instr.findAsking vC;rw[c,d];simp only[Sem.run_bind,b.eq,Result.andThen];by_cases a:x.1=k
  . rw[Z9 (Y5 a.symm),Z9 a]
    rfl
  rw[K0 (by rw[Y6 (Ne.symm a)];exact Bool.false_ne_true),K0 a]
  exact ih
def aaH(t:TypeDesc)(k:K)(d:∀a b:K,Instr.sameNow t (ek a) (ek b)=X8\/Instr.sameNow t (ek a) (ek b)=H (decide (a=b))):∀(L:List kx) (D:List (K×V)) (i:Nat),L.map mpr=D.map (λx=>(ek x.1,ev x.2)) ->
 Instr.findNow t (ek k) L i=X8\/Instr.findNow t (ek k) L i=H ((vC D k i).map λp=>(p.1,ev p.2))
 | [],D,i,h=>by
  obtain rfl:D=[]:=by simpa using h.symm
  simp[Instr.findNow,vC]
 |e::L,[],i,h=>by simp at h
 |e::L,x::D,i,h=>by
  simp only[df,ph,mpr,iy] at h;obtain⟨⟨f,g⟩,j⟩:=h;have ih:=aaH t k d L D (i+1) j;unfold Instr.findNow vC;rw[f,g];rcases d k x.1 with e0|e0
  .left;rw[e0]
  rw[e0]
  by_cases c:x.1=k
  .right;simp[c]
  rw[show decide (k=x.1)=X7 from Y6 (Ne.symm c)]
  simpa[c] using ih
def Ps(a:acx P T ek)(k:K)(w:an){es:Array kx}{D:List (K×V)}{c:Nat}(h:nG ek ev D es c):(Instr.findKey T (ek k) es.toList).run P w=.ok ((vC D k 0).map λp=>(p.1,ev p.2)) w:=by
 obtain⟨t,d,b⟩:=a.now;unfold Instr.findKey;simp only[Sem.run_bind,dg d,Result.andThen];rcases aaH t k b es.toList D 0 h.cells with e|e
 . rw[e]
   exact Ll a k w es.toList D 0 h.cells
 rw[e]
 rfl
end
section
variable{K V:Type}[DecidableEq K]{P:B}{T M E ty:ba}{ek:K->am}{ev:V->am}{w w0:an}{g c:Nat}{es:Array kx}{D:List (K×V)}
def aaI{v0:V}(m:P.underlying M=H (.map T E))(h:acx P T ek)(e:Th w g es c)(i:nG ek ev D es c)(d:oB P E (ev v0))(k:K)(b:Bool) :
 (Instr.lookup M (.map (H g)) (ek k) b).run P w=.ok (if b then .tuple #[ev ((mJ D k).getD v0),.bool (mJ D k).isSome] else ev ((mJ D k).getD v0)) w:=by
 unfold Th at e;obtain⟨o,l,d⟩:=d;have n:(zeroValue E).run P w=.ok (ev v0) w:=by simp[zeroValue,typeInfo,program,Sem.run,l,d]
 simp only[Instr.lookup,Sem.run_bind,dg m,Result.andThen,getObj,Sem.run,e,Sem.run_pure,h.chk,Ps h k w i];cases f:vC D k 0 with
 |none=>
  obtain⟨a,_⟩:=Ff D k 0 f;rw[a];simp only[Option.map_none,Sem.run_bind,n,Result.andThen,Sem.run_pure];cases b<;>rfl
 |some p=>
  obtain⟨j,v⟩:=p;obtain⟨_,_,_,a,_⟩:=Fg D k 0 j v f;rw[a];simp only[fu,Sem.run_pure,Result.andThen];cases b<;>rfl
def Ti{g:Nat}{o o':Obj}(a:w.heap[g]? = H o):(setBlock w g o').heap[g]? = H o':=by
 have:=(fx.1 a).1;simp[setBlock,this]
def Xw{g:Nat}(o:Obj):Chg w (setBlock w g o) g:=⟨rfl,rfl,rfl,by simp[setBlock],λk a=>by simp[setBlock,Array.getElem?_setIfInBounds_ne (Ne.symm a)]⟩
def Pt{α β:Type}(f:α->β)(L:List α)(i:Nat)(x:α)(g:α->α)(a:L[i]? = H x):(L.modify i g).map f=(L.map f).set i (f (g x)):=by
 apply fy;intro j;simp only[dc,List.getElem?_modify,jm,dy];by_cases e:i=j
 . subst e
   rw[a];have:=(av.1 a).1;simp[this]
 simp[e]
def nG.set(a:nG ek ev D es c){p:Nat}{k:K}{v:V}(m:D[p]? = H (k,v))(u:V):nG ek ev (D.set p (k,u)) (es.modify p λe=>{ e with key:=ek k,val:=ev u }) c:=by
 have l:es.toList.length=D.length:=by have:=Y1 List.length a.cells;simpa using this
 have f:p<es.toList.length:=by rw[l];exact (av.1 m).1
 have b:es.toList[p]? = H es.toList[p]:=ah f;have d:(es.modify p λe=>{ e with key:=ek k,val:=ev u }).toList.map (·.born)=es.toList.map (·.born):=by
  rw[Array.toList_modify,Pt _ _ _ _ _ b];apply fy;intro j;rw[jm];split
  .rename_i e;subst e;rw[Z9 (by simpa using f),dc,b];rfl
  rfl
 refine⟨?_,λe h=>?_,by rw[d];exact a.nd⟩
 . rw[Array.toList_modify,Pt _ _ _ _ _ b,a.cells,List.map_set]
   rfl
 have:e.born∈(es.modify p λe=>{ e with key:=ek k,val:=ev u }).toList.map (·.born):=du.2 ⟨e,h,rfl⟩
 rw[d] at this;obtain⟨g,n,i⟩:=du.1 this;rw[<-i];exact a.born g n
def nG.push(d:nG ek ev D es c)(k:K)(u:V):nG ek ev (D++[(k,u)]) (es.push { key:=ek k,val:=ev u,born:=c }) (c+1):=by
 refine⟨by simp[d.cells,mpr],λe he=>?_,?_⟩
 . rw[Array.toList_push] at he
   rcases bz.1 he with he|he
   .exact Nat.lt_succ_of_lt (d.born e he)
   rw[cr.1 he];exact Nat.lt_succ_self _
 rw[Array.toList_push,dh]
 refine jp.2 ⟨d.nd,by simp,λa g b h e=>?_⟩;obtain⟨f,i,rfl⟩:=du.1 g;have:b=c:=by simpa using h
 have:=d.born f i;omega
def aaJ(l:P.underlying M=H (.map T E))(f:acx P T ek)(d:Th w g es c)(a:nG ek ev D es c)(k:K)(u:V) :
 ∃m c',(Instr.mapUpdate M (.map (H g)) (ek k) (ev u)).run P w=.ok () (setBlock w g (.map m c'))/\nG ek ev (Pr D k u) m c':=by
 unfold Th at d;cases e:vC D k 0 with
 |none=>
  obtain⟨_,h,_⟩:=Ff D k 0 e;refine⟨_,_,?_,h u▸a.push k u⟩;simp only[Instr.mapUpdate,Sem.run_bind,dg l,Result.andThen,getObj,Sem.run,d,Sem.run_pure,f.chk,Ps f k w a,e,Option.map_none];exact run_setObj_map _ d
 |some p=>
  obtain⟨j,v⟩:=p;obtain⟨p,rfl,i,_,h,_⟩:=Fg D k 0 j v e;rw[ae] at e;have q:es.toList.length=D.length:=by have:=Y1 List.length a.cells;simpa using this
  have r:p<es.toList.length:=by rw[q];exact (av.1 i).1
  have o:((es[p]?).map (·.key)).getD (ek k)=ek k:=by
   have b:=Y1 (λL=>L[p]?) a.cells;simp only[dc,i,fu] at b;rw[ia] at b;cases n:es[p]? with
   |none=>rfl
   |some x=>
    rw[n] at b;simp only[fu,Option.some.injEq,mpr,iy] at b;simpa using b.1
  refine⟨_,_,?_,h u▸a.set i u⟩;simp only[Instr.mapUpdate,Sem.run_bind,dg l,Result.andThen,getObj,Sem.run,d,Sem.run_pure,f.chk,Ps f k w a,e,fu,o,Instr.keyThatStays,f.bits,Y4];exact run_setObj_map _ d
/-! ### Ranges -/
end
/-! ### Things in memory -/
def mI(g:Nat)(es:Array kx)(c:Nat):It where
 own b:=H g=H b
 P w:=Th w g es c
 lt w b h e:=by cases e;exact h.lt
 st w w' h _ k:=(k g rfl).trans h
def Mem.p{w0 w:an}{is:List It}(m:Mem w0 w is)(k:Nat){g c:Nat}{es:Array kx}(a:is[k]? = H (mI g es c)):Th w g es c:=m.get k a
section
variable{K V:Type}[DecidableEq K]{P:B}{T M E ty:ba}{ek:K->am}{ev:V->am}{w w0:an}{g c:Nat}{es:Array kx}{D:List (K×V)}{is:List It}
variable{ds:List d_}{l:List am}{x y z:cw}{ops:Array Oper}{Q:Exit->Act->an->Prop}{rest:List Oper}{d:Nat}{pos:String}{after:Array Edge}
def aaK(m:Mem w0 w is)(h:∀g u,Mem w0 u (mI g #[] 0::is)->be P ops Q rest (Fr (l.set d (.map (H g))) ds) u):be P ops Q (cj (H d) (.makeMap M X8) ty pos after X8::rest) (Fr l ds) w:=
 afg λu g e c a=>h g u (m.new (i:=mI g #[] 0) e a λb h=>by cases h;exact c)
end
section
variable{K V:Type}[DecidableEq K]{P:B}{T M E ty:ba}{ek:K->am}{en:V->am}{w w0:an}{g c:Nat}{es:Array kx}{D:List (K×V)}{is:List It}
variable{ds:List d_}{l:List am}{x y z:cw}{ops:Array Oper}{Q:Exit->Act->an->Prop}{rest:List Oper}{d:Nat}{pos:String}{after:Array Edge}
def wX{v0:V}{k:K}(e:P.underlying M=H (.map T E))(i:oB P E (en v0))(j:acx P T ek)(f:ev l x=.map (H g))(h:ev l y=ek k)(b:Th w g es c)(a:nG ek en D es c):Eo P l (.lookup M x y N) ty (.tuple #[en ((mJ D k).getD v0),.bool (mJ D k).isSome]) w:=λo d _=>by
 have:=aaI e j b a i k N;simp only[Y4] at this;simp[execOp,d,dM,f,h,this]
def adM{v:V}{a:K}(m:Mem w0 w is)(k:Nat)(j:is[k]? = H (mI g es c))(s:P.underlying M=H (.map T E))(C:acx P T ek)(t:ev l x=.map (H g))(A:ev l y=ek a)(B:ev l z=en v)(n:nG ek en D es c)
 (h:∀d c' u,Mem w0 u (is.set k (mI g d c'))->nG ek en (Pr D a v) d c'->be P ops Q rest (Fr l ds) u):be P ops Q (cj X8 (.mapUpdate M x y z) ty pos after X8::rest) (Fr l ds) w:=by
 have i:=m.p k j;obtain⟨d,c',r,F⟩:=aaJ s C i n a v;have f:=Xw (w:=w) (g:=g) (.map d c');refine Wa (w':=setBlock w g (.map d c')) (λo q=>by simp[execOp,q,dM,t,A,B,r]) (h d c' _ ?_ F);exact m.put k j f.os f.tape f.output (by rw[f.size];exact bg _) (λb _ G=>f.block b λe=>G (by rw[e];rfl)) (Ti i) (.inl λ_ h=>h)
def Xx{f:FuncId}{a:cw}{xs:Array cw}{args:List am}{first cap:Array am}{a0:Array ba}{R:am->It->Prop}(m:Mem w0 w is)(k:Nat)(b:Entr P f)(o:ev l a=.func (.func f) first cap)(p:first.toList++xs.toList.map (ev l)++cap.toList=args)
 (n:Mem w0 w is->Calls P f args.toArray w λe w'=>∃v i,e=.returned v/\Mem w0 w' (is.set k i)/\R v i) (h:∀v i u,Mem w0 u (is.set k i)->R v i->be P ops Q rest (Fr (l.set d v) ds) u) :
 be P ops Q (cj (H d) (.call { callee:=.value a,args:=xs,argTypes:=a0 }) ty pos after X8::rest) (Fr l ds) w:=by
 refine wpList_plain O λK c=>?_;unfold Oper.wp;rw[jO,pX b o p _ rfl];refine (n m).mono ?_;rintro e w' ⟨v,i,rfl,g,j⟩;show K ((Fr l ds).put (H d) v) w'
 rw[iK];exact c _ _ (h v i w' g j)
end
def dH{P:B}{Q:Exit->Act->an->Prop}{l:List am}{ds:List d_}{a c:Code}{w:an}{x:cw}{b:Bool}(f:ev l x=.bool b)(e:b=N->a.wp P Q (Fr l ds) w)(d:b=X7->c.wp P Q (Fr l ds) w):(Code.cond x a c).wp P Q (Fr l ds) w:=iY f e d
/-! ### Keys -/
def CkR(P:B)(e:Bool)(d:Nat)(T:ba)(x:am):Prop:=∀w,(Instr.checkKey e d T x).run P w=.ok () w
section
variable{P:B}{e:Bool}{d:Nat}{T E:ba}
def CkR.int{k b:IntKind}{n:Int}(a:P.underlying T=H (.int b)):CkR P e (d+1) T (.int k n):=λw=>by
 unfold Instr.checkKey;simp[dg a]
end
end
section
open Go.RowKit
variable{w0 w:an}{is:List It}{P:B}{T:ba}{n:Nat}{α:Type}{op:Op}{q:Prop}{ops:Array Oper}{c:Code}
def Mem.gb(m:Mem w0 w is)(k:Nat){g:Nat}{cs:List am}{t:ba}(a:is[k]? = H (bI g cs t)):w0.heap.size<=g:=m.ge _ (ak a) g rfl
def cN{l:List am}{x:cw}{ty:ba}{a:Addr}(c:ev l x=.pointer (H a)):gX P l (.nilCheck x) ty (.pointer (H a)):=λw o b _=>by
 simp[execOp,b,dM,c]
inductive Ko where
 |c (c:Code)
 |b (id:Nat)
 |o (ops:Array Oper) (rest:List Oper)
 |k (K:Act->an->Prop)
 |r (c:Code) (n:Nat)
def Ct(P:B)(R:Exit->Act->an->Prop):List Ko->Exit->Act->an->Prop
 | []=>R
 |.c c::s=>Exit.then (c.wp P (Ct P R s)) (Ct P R s)
 |.b id::s=>t id (Ct P R s)
 |.o ops a::s=>Exit.then (be P ops (Ct P R s) a) (Ct P R s)
 |.k K::s=>Exit.then K (Ct P R s)
 |.r c n::s=>Exit.then (Code.rounds P c (Ct P R s) n) (Ct P R s)
def Gt(P:B)(R:Exit->Act->an->Prop)(s:List Ko)(a:Act)(w:an):Prop:=Ct P R s .normal a w
def ahA{P:B}{R:Exit->Act->an->Prop}{a:Act}{w:an}(h:R .ret a w):∀s,Ct P R s .ret a w
 | []=>h
 |.c _::s|.b _::s|.o _ _::s|.k _::s|.r _ _::s=>ahA h s
/-! ### Values taken apart -/
def sX(v:am)(f:IntKind->Int->Prop):Prop:=match v with|.int k m=>f k m|_=>False
def Xy(v:am)(f:Bool->Prop):Prop:=match v with|.bool b=>f b|_=>False
def vvP(v:am)(f:Addr->Prop):Prop:=match v with|.pointer (H a)=>f a|_=>False
def vvS(v:am)(f:Option Addr->Nat->Nat->Prop):Prop:=match v with|.slice a n c=>f a n c|_=>False
def Xz(v:am)(f:List am->Prop):Prop:=match v with|.agg cs=>f cs.toList|_=>False
def vvT(v:am)(f:List am->Prop):Prop:=match v with|.tuple cs=>f cs.toList|_=>False
def Ar{α:Type}(o:Option α)(f:α->Prop):Prop:=match o with|some x=>f x|none=>False
def vbX(b:Bool)(p q:Prop):Prop:=match b with|true=>p|false=>q
def vnX(n:Nat)(p:Prop):Prop:=match n with|0=>False|_+1=>p
def Tj:Nat->Nat->Prop->Prop->Prop
 |0,0,p,_=>p
 |n+1,m+1,p,q=>Tj n m p q
 |_,_,_,q=>q
def Js:List am->Nat->(am->Prop)->Prop
 |x::_,0,f=>f x
 |_::l,n+1,f=>Js l n f
 | [],_,_=>False
def Fh:List am->Nat->Prop
 | [],0=>True
 |_::l,n+1=>Fh l n
 |_,_=>False
def Di:∀{l:List am}{n:Nat},Fh l n->l.length=n
 | [],0,_=>rfl
 |_::l,n+1,h=>by rw[bh,Di (l:=l) h]
def Nh:∀{l:List am}{n:Nat}{f:am->Prop},Js l n f->∃v,l[n]? = H v/\f v
 |x::_,0,_,h=>⟨x,rfl,h⟩
 |_::l,n+1,_,h=>by rw[gu];exact Nh (l:=l) h
def acy:List am->Prop
 | []=>True
 |v::l=>v.oneCell'=N/\acy l
def adN:∀{l:List am},acy l->(l.all (·.oneCell'))=N
 | [],_=>rfl
 |v::l,h=>by rw[List.all_cons,h.1,adN (l:=l) h.2];rfl
def InR(k:IntKind)(n:Int):Prop:=match k with
 |.i64=>-9223372036854775808<=n/\n<9223372036854775808
 |.i32=>-2147483648<=n/\n<2147483648
 |.u64=>0<=n/\n<18446744073709551616
 |.u32=>0<=n/\n<4294967296
 |.u8=>0<=n/\n<256
 |_=>False
def InR.wrap{k:IntKind}{n:Int}(h:InR k n):k.wrap n=n:=by
 cases k<;>first|exact h.elim|exact bN h.1 h.2|exact agh h.1 h.2|exact oK h.1 h.2|exact Zy h.1 h.2|exact ado h.1 h.2
/-! ### Types -/
def sY(P:B)(T:ba):Option (Bool×Nat):=match P.underlying T,P.info? T with
 |some d,H i=>H (Cs d,i.size)
 |_,_=>X8
def yE{b:Bool}(h:sY P T=H (b,n)):fG P T b/\dW P T n:=by
 unfold sY at h;split at h
 . rename_i d i a c
   cases h;exact⟨⟨d,a,O⟩,⟨i,c,O⟩⟩
 cases h
def lG(P:B)(T:ba)(i:Nat):Option (Nat×Bool×Nat):=match P.underlying T with
 |some (.struct fs)=>match fs[i]? with
  |some f=>(sY P f.type).map λx=>(f.offset,x)
  |none=>X8
 |_=>X8
def adO{i o:Nat}{b:Bool}(h:lG P T i=H (o,b,n)):∃fs f,P.underlying T=H (.struct fs)/\fs[i]? = H f/\f.offset=o/\fG P f.type b/\dW P f.type n:=by
 unfold lG at h;split at h
 . rename_i fs d
   split at h
   . rename_i f c
     cases a:sY P f.type with
     |none=>rw[a] at h;cases h
     |some x=>
      obtain⟨e,g⟩:=x;rw[a] at h;cases h;exact⟨fs,f,d,c,O,(yE a).1,(yE a).2⟩
   cases h
 cases h
def Ej(P:B)(T:ba):Option (Option Nat×Nat):=match P.underlying T with
 |some (.array n E)=>(sY P E).map λx=>(H n,x.2)
 |some (.slice E)=>(sY P E).map λx=>(X8,x.2)
 |_=>X8
def yF(P:B)(T:ba):Option ba:=match P.underlying T with
 |some (.slice E)=>H E
 |_=>X8
def ak9{E:ba}(h:yF P T=H E):P.underlying T=H (.slice E):=by
 unfold yF at h;split at h
 .rename_i b a;cases h;exact a
 cases h
def ikP(P:B)(T:ba):Option IntKind:=match P.underlying T with
 |some (.int k)=>H k
 |_=>X8
def ahB{k:IntKind}(h:ikP P T=H k):P.underlying T=H (.int k):=by
 unfold ikP at h;split at h
 .rename_i b a;cases h;exact a
 cases h
def Lm(P:B)(T:ba):Option (List am):=((P.info? T).bind (·.zero)).map (·.cells.toList)
def Ya{cs:List am}(h:Lm P T=H cs):∃z,oB P T z/\z.cells=cs.toArray:=by
 unfold Lm at h;cases a:(P.info? T).bind (·.zero) with
 |none=>rw[a] at h;cases h
 |some z=>rw[a] at h;cases h;exact⟨z,iQ a,by simp⟩
def wY(P:B)(T:ba):Option (List (Nat×Nat)×List am):=match P.underlying T,Lm P T with
 |some (.struct fs),H z=>(fs.toList.mapM λ(f:Field)=>(sY P f.type).map λx=>(f.offset,x.2)).map λl=>(l,z)
 |some (.array n E),H z=>(sY P E).map λx=>((fh n).map λi=>(i*x.2,x.2),z)
 |_,_=>X8
def Yb:List (Nat×Nat)->Nat->(Nat×Nat->Prop)->Prop
 |x::_,0,f=>f x
 |_::l,n+1,f=>Yb l n f
 | [],_,_=>False
def blV(l:List am)(a:List (Nat×Nat)):List (Nat×cw)->List am->Prop->(Prop->List am->Prop)->Prop
 | [],cs,q,f=>f q cs
 |(i,x)::ps,cs,q,f=>Yb a i λz=>vnX z.2 (blV l a ps (over cs z.1 (ev l x).cells.toList) (Fh (ev l x).cells.toList z.2/\Fh ((cs.drop z.1).take z.2) z.2/\q) f)
/-! ### Operations -/
def vvX(n:Option Nat)(v:am)(f:Addr->Nat->Prop):Prop:=match n with
 |some n=>vvP v λa=>f a n
 |none=>vvS v λA n _=>Ar A λa=>f a n
abbrev KV:Type:=Prop->am->List Nat->List It->Prop
variable{K:KV}
def cV(a:List Nat)(p:Prop)[Decidable p](K:KV)(is:List It):Prop:=match a with
 |0::a=>K True (.bool (decide p)) a is
 |1::a=>K p (.bool N) a is
 |2::a=>K (¬p) (.bool X7) a is
 |_=>False
def vvE(v:am)(f:IntKind->Int->Prop)(g:List am->Prop):Prop:=match v with
 |.int k m=>f k m
 |.agg cs=>g cs.toList
 |_=>False
def EqB(P:B)(T:ba)(cs us:List am)(b:Bool):Prop:=P.eqGuardType P.depth T=X7/\tR P 10000 T (.agg cs.toArray) (.agg us.toArray) (b=N)
def NeB(P:B)(T:ba)(cs us:List am)(b:Bool):Prop:=P.eqGuardType P.depth T=X7/\tR P 10000 T (.agg cs.toArray) (.agg us.toArray) (b=X7)
def biV(P:B)(T:ba)(b:BinOp)(x y:am)(c:List Nat)(is:List It)(K:KV):Prop:=match b with
 |.add=>sX x λk m=>sX y λa n=>K (a=k/\InR k (m+n)) (.int k (m+n)) c is
 |.sub=>sX x λk m=>sX y λa n=>K (a=k/\InR k (m-n)) (.int k (m-n)) c is
 |.mul=>sX x λk m=>sX y λa n=>K (a=k/\InR k (m*n)) (.int k (m*n)) c is
 |.lss=>sX x λk m=>sX y λa n=>cV c (m<n) (λp=>K (a=k/\p)) is
 |.leq=>sX x λk m=>sX y λa n=>cV c (m<=n) (λp=>K (a=k/\p)) is
 |.gtr=>sX x λk m=>sX y λa n=>cV c (n<m) (λp=>K (a=k/\p)) is
 |.geq=>sX x λk m=>sX y λa n=>cV c (n<=m) (λp=>K (a=k/\p)) is
 |.eql=>vvE x (λk m=>sX y λa n=>cV c (m=n) (λp=>K (a=k/\p)) is) λcs=>Xz y λus=>∃b,EqB P T cs us b/\K True (.bool b) c is
 |.neq=>vvE x (λk m=>sX y λa n=>cV c (m≠n) (λp=>K (a=k/\p)) is) λcs=>Xz y λus=>∃b,NeB P T cs us b/\K True (.bool b) c is
 |_=>False
abbrev Ob:Type:=Nat×List am×ba
def atO:List Ob->Nat->(Ob->Prop)->Prop
 |x::_,0,f=>f x
 |_::l,n+1,f=>atO l n f
 | [],_,_=>False
def atB:List It->List Ob->Nat->(Ob->Prop)->Prop
 |i::_,_,0,f=>Ar i.bk f
 |_::is,os,n+1,f=>atB is os n f
 | [],os,n,f=>atO os n f
def atM:List It->Nat->(Ob->Prop)->Prop
 |i::_,0,f=>Ar i.bk f
 |_::is,n+1,f=>atM is n f
 | [],_,_=>False
def ahE:∀{os:List Ob}{k:Nat}{f:Ob->Prop},atO os k f->∃x∈os,f x
 |x::_,0,_,h=>⟨x,bv ..,h⟩
 |_::os,k+1,_,h=>let ⟨x,b,a⟩:=ahE (os:=os) h;⟨x,br _ b,a⟩
def pI{o:Option α}{f:α->Prop}(h:Ar o f):∃x,o=H x/\f x:=by
 cases o with
 |none=>exact h.elim
 |some x=>exact⟨x,rfl,h⟩
def acA:∀{is:List It}{k:Nat}{f:Ob->Prop},atM is k f->∃i x,is[k]? = H i/\i.bk=H x/\f x
 |i::_,0,_,h=>let ⟨x,b,a⟩:=pI h;⟨i,x,rfl,b,a⟩
 |_::is,k+1,_,h=>by rw[gu];exact acA (is:=is) h
def ahF:∀{is:List It}{os:List Ob}{k:Nat}{f:Ob->Prop},atB is os k f->(∃i∈is,∃x,i.bk=H x/\f x)\/∃x∈os,f x
 |i::_,_,0,_,h=>let ⟨x,c,a⟩:=pI h;.inl ⟨i,bv ..,x,c,a⟩
 |_::is,os,k+1,_,h=>(ahF (is:=is) (os:=os) h).imp (λ⟨i,b,r⟩=>⟨i,br _ b,r⟩) id
 | [],_,_,_,h=>.inr (ahE h)
def caV(P:B)(l:List am)(is:List It)(b:Builtin)(xs:List cw)(ts:List ba)(c:List Nat)(K:KV):Prop:=match b,xs,ts with
 |.len,[x],[T]=>Ar (yF P T) λ_=>vvS (ev l x) λ_ n _=>K True (.int .i64 n) c is
 |.min,[x,y],_=>sX (ev l x) λk m=>sX (ev l y) λa n=>K (a=k) (.int k (if n<m then n else m)) c is
 |.max,[x,y],_=>sX (ev l x) λk m=>sX (ev l y) λa n=>K (a=k) (.int k (if m<n then n else m)) c is
 |_,_,_=>False
def ldK(g:am->Prop):Nat->Prop
 |0=>∃p:Y,g (pt p)
 |1=>∃t:T3,g (tr t)
 |2=>∃z:Int,g (.int .i64 z)
 |3=>∃b:Bool,g (.bool b)
 |4=>∃e:E3,g (ed e)
 |5=>∃n:Int,g (W n)
 |_=>∃v:am,g v
def aob{g:am->Prop}{k:Nat}(h:ldK g k):∃v,g v:=by
 unfold ldK at h;split at h<;>(obtain⟨x,h⟩:=h;exact⟨_,h⟩)
def As(P:B)(w0:an)(l:List am)(is:List It)(os:List Ob)(e:Bool)(op:Op)(d:List Nat)(K:KV):Prop:=match op with
 |.move x=>K True (ev l x) d is
 |.assign x=>K True (ev l x) d is
 |.nilCheck x=>vvP (ev l x) λa=>K True (.pointer (H a)) d is
 |.pick c x y=>Xy (ev l c) λb=>vbX b (K True (ev l x) d is) (K True (ev l y) d is)
 |.binOp b T x y _=>biV P T b (ev l x) (ev l y) d is K
 |.unOp .not _ x=>Xy (ev l x) λb=>K True (.bool (!b)) d is
 |.unOp .neg _ x=>sX (ev l x) λk m=>K (InR k (0-m)) (.int k (0-m)) d is
 |.convert T T' x=>Ar (ikP P T) λ_=>Ar (ikP P T') λk=>sX (ev l x) λ_ m=>K (InR k m) (.int k m) d is
 |.fieldAddr T x i=>Ar (lG P T i) λf=>vvP (ev l x) λa=>vnX f.2.2 (K True (.pointer (H (a.add f.1))) d is)
 |.indexAddr T x y=>Ar (Ej P T) λz=>vvX z.1 (ev l x) λa n=>sX (ev l y) λ_ m=>K (0<=m/\m<n) (.pointer (H (a.add (m.toNat*z.2)))) d is
 |.field T x i=>Ar (lG P T i) λf=>Xz (ev l x) λcs=>vbX f.2.1 (K True (.agg ((cs.drop f.1).take f.2.2).toArray) d is) (Js cs f.1 λv=>K True v d is)
 |.build T parts=>Ar (wY P T) λz=>blV l z.1 parts.toList z.2 True λq cs=>K q (.agg cs.toArray) d is
 |.extract x i=>vvT (ev l x) λcs=>Js cs i λv=>K True v d is
 |.load T x=>match d with
  |0::k::d=>vvP (ev l x) λa=>ldK (λv=>(∀w,Mem w0 w is->eZ P w T a v)/\K True v d is) k
  |(k+1)::d=>Ar (sY P T) λz=>vvP (ev l x) λa=>atB is os k λg=>vbX z.1 (K (a=⟨g.1,a.off,X8⟩/\Fh ((g.2.1.drop a.off).take z.2) z.2) (.agg ((g.2.1.drop a.off).take z.2).toArray) d is) (Js g.2.1 a.off λv=>K (a=⟨g.1,a.off,X8⟩) v d is)
  |_=>False
 |.box T x=>vbX e False (∀g,K True (.pointer (H ⟨g,0,X8⟩)) d (bI g (ev l x).cells.toList T::is))
 |.alloc T=>vbX e False (Ar (Lm P T) λz=>∀g,K True (.pointer (H ⟨g,0,X8⟩)) d (bI g z T::is))
 |.call c=>match c.callee with
  |.builtin b=>caV P l is b c.args.toList c.argTypes.toList d K
  |_=>False
 |_=>False
def stV(P:B)(l:List am)(is:List It)(c:Bool)(op:Op)(b:List Nat)(K:KV):Prop:=match op,b with
 |.store T x y,k::b=>vbX c False (Ar (sY P T) λz=>vnX z.2 (vvP (ev l x) λa=>atM is k λg=>K (a=⟨g.1,a.off,X8⟩/\Fh ((g.2.1.drop a.off).take z.2) z.2/\Fh (ev l y).cells.toList z.2/\acy (ev l y).cells.toList) undef b (is.set k (bI g.1 (over g.2.1 a.off (ev l y).cells.toList) g.2.2))))
 |_,_=>False
def vyv(ops:List Oper)(l:List am)(j:Nat):am:=match ops[j]? with
 |some o=>match o.dst with
  |some d=>l.getD d undef
  |none=>undef
 |none=>undef
def vvG(v:am)(b:Bool)(p q:Prop):Prop:=match v with
 |.bool c=>if c=b then p else q
 |.tuple _=>q
 |_=>False
def Yc(ops:Array Oper)(l:List am)(g:Option (Nat×Bool))(a:List Nat)(p q:List Nat->Prop)(r:Nat->List Nat->Nat->Bool->Prop):Prop:=match g with
 |none=>p a
 |some (j,b)=>match a with
  |0::a=>vvG (vyv ops.toList l j) b (p a) (q a)
  |(k+1)::a=>r k a j b
  | []=>False
def dsT:List Oper->Nat->(Nat->Prop)->Prop
 |⟨H d,_,_,_,_,_⟩::_,0,f=>f d
 |_::ops,j+1,f=>dsT ops j f
 |_,_,_=>False
def vbE(a b:Bool)(p:Prop):Prop:=match a,b with
 |true,N=>p
 |false,X7=>p
 |_,_=>False
def Uw(l:List am):List Nat->(Nat->am)->List am
 | [],_=>l
 |d::ds,u=>(Uw l ds u).set d (u d)
def pkG(want b:Bool)(l:List am)(x y:cw)(f:Bool->Prop):Prop:=match want with
 |true=>(match y with
  |.const (.bool X7)=>Xy (ev l x) λv=>f (b&&v)
  |_=>False)
 |false=>(match x with
  |.const (.bool N)=>Xy (ev l y) λv=>f (b||v)
  |_=>False)
def VG{α:Type}(c:α->Option Oper)(P:B)(w0:an)(is:List It)(os:List Ob)(j:Nat)(want b:Bool)(t:Nat)(K:Prop->List Nat->List α->List Nat->Nat->Bool->Prop):Nat->List Nat->Prop->List α->List am->List Nat->Prop
 |k+1,a,q,x::e,l,ds=>match c x with
  |some ⟨H d,op,_,_,_,H (i,w)⟩=>Tj j i (vbE want w (Tj t d False (As P w0 l is os N op a λf v a _=>VG c P w0 is os j want b t K k a ((b=want->f)/\q) e (l.set d v) (d::ds)))) False
  |some ⟨H d,.pick (.tmp i) x y,_,_,_,X8⟩=>Tj t i (pkG want b l x y λv=>K q a e ds d v) False
  |_=>False
 |_,_,_,_,_,_=>False
def Si(id:Nat):List Ko->(List Ko->Prop)->Prop
 |.b j::s,f=>Tj id j (f s) (Si id s f)
 |.c _::s,f=>Si id s f
 |.o _ _::s,f=>Si id s f
 |.k _::s,f=>Si id s f
 |.r _ _::s,f=>Si id s f
 | [],_=>False
abbrev Kw:Type:=Option (Bool×an)
def kr:Bool->an->an->Prop
 |true,v,w=>v=w
 |false,v,w=>eR v w
def kpt(k:Kw)(w:an):Prop:=∀b v,k=H (b,v)->kr b v w
def kpb:Kw->Bool
 |some (b,_)=>b
 |none=>X7
def ahH(w0:an)(is:List It)(X:an->Prop):Kw->Prop
 |some (N,v)=>X v
 |k=>∀w,Mem w0 w is->kpt k w->X w
def adP{X:an->Prop}{k:Kw}(h:ahH w0 is X k)(m:Mem w0 w is)(a:kpt k w):X w:=by
 rcases k with _|⟨b,v⟩
 .exact h w m a
 cases b
 .exact h w m a
 have e:v=w:=a N v rfl
 exact e▸h
def V(P:B)(R:Exit->Act->an->Prop)(w0:an)(ds:List d_)(f:Kw):Nat->List Nat->Prop->List Ko->List am->List It->Prop
 |0,_,q,s,l,is=>q/\ahH w0 is (Gt P R s (Fr l ds)) f
 |n+1,e,q,.b _::s,l,is=>V P R w0 ds f n e q s l is
 |n+1,e,q,.o _ []::s,l,is=>V P R w0 ds f n e q s l is
 |n+1,e,q,.o ops (o::g)::s,l,is=>match o.dst with
  |some d=>Yc ops l o.guard e (λe=>As P w0 l is [] (kpb f) o.op e λh v e is=>V P R w0 ds f n e (h/\q) (.o ops g::s) (l.set d v) is) (λe=>V P R w0 ds f n e q (.o ops g::s) (l.set d undef) is)
   λk e j w=>dsT ops.toList j λt=>Xy (l.getD t undef) λb=>VG H P w0 is [] j w b t (λq e g i d v=>∀u:Nat->am,V P R w0 ds f n e q (.o ops g::s) ((Uw l i u).set d (.bool v)) is) (k+1) e q (o::g) l []
  |none=>Yc ops l o.guard e (λe=>stV P l is f.isSome o.op e λh _ e is=>V P R w0 ds f n e (h/\q) (.o ops g::s) l is) (λe=>V P R w0 ds f n e q (.o ops g::s) l is) λ_ _ _ _=>False
 |n+1,e,q,.c c::s,l,is=>match c with
  |.seq a b=>V P R w0 ds f n e q (.c a :: .c b::s) l is
  |.skip=>V P R w0 ds f n e q s l is
  |.block id c=>V P R w0 ds f n e q (.c c :: .b id::s) l is
  |.exit id=>Si id s λs=>V P R w0 ds f n e q s l is
  |.ret=>q/\ahH w0 is (R .ret (Fr l ds)) f
  |.cond x a b=>Xy (ev l x) λt=>vbX t (V P R w0 ds f n e q (.c a::s) l is) (V P R w0 ds f n e q (.c b::s) l is)
  |.region _ ops d=>vbX d False (V P R w0 ds f n e q (.o ops ops.toList::s) l is)
  |.loop c=>match e with
   |k::e=>V P R w0 ds f n e q (.r c k::s) l is
   | []=>False
  |_=>False
 |n+1,e,q,.r c (k+1)::s,l,is=>V P R w0 ds f n e q (.c c :: .r c k::s) l is
 |_,_,_,_,_,_=>False
def rB{v:am}{f:IntKind->Int->Prop}(h:sX v f):∃k m,v=.int k m/\f k m:=by
 cases v<;>first|exact h.elim|exact⟨_,_,rfl,h⟩
def Fi{v:am}{f:Bool->Prop}(h:Xy v f):∃b,v=.bool b/\f b:=by
 cases v<;>first|exact h.elim|exact⟨_,rfl,h⟩
def Fj{v:am}{f:Addr->Prop}(h:vvP v f):∃a,v=.pointer (H a)/\f a:=by
 cases v with
 |pointer a=>cases a with
  |none=>exact h.elim
  |some a=>exact⟨_,rfl,h⟩
 |_=>exact h.elim
def ahI{v:am}{f:Option Addr->Nat->Nat->Prop}(h:vvS v f):∃a n c,v=.slice a n c/\f a n c:=by
 cases v<;>first|exact h.elim|exact⟨_,_,_,rfl,h⟩
def ahJ{v:am}{f:List am->Prop}(h:Xz v f):∃cs,v=.agg cs/\f cs.toList:=by
 cases v<;>first|exact h.elim|exact⟨_,rfl,h⟩
def aoc{v:am}{f:List am->Prop}(h:vvT v f):∃cs,v=.tuple cs/\f cs.toList:=by
 cases v<;>first|exact h.elim|exact⟨_,rfl,h⟩
def Ye{p:Prop}(h:vnX n p):∃m,n=m+1/\p:=by
 cases n with
 |zero=>exact h.elim
 |succ m=>exact⟨m,rfl,h⟩
def Pu:∀{n m:Nat}{p q:Prop},Tj n m p q->(n=m/\p)\/(n≠m/\q)
 |0,0,_,_,h=>.inl ⟨rfl,h⟩
 |n+1,m+1,_,_,h=>(Pu (n:=n) (m:=m) h).imp (λ⟨e,h⟩=>⟨by rw[e],h⟩) λ⟨e,h⟩=>⟨λc=>e (Nat.succ.inj c),h⟩
 |0,_+1,_,_,h=>.inr ⟨λc=>(by cases c),h⟩
 |_+1,0,_,_,h=>.inr ⟨λc=>(by cases c),h⟩
section
variable{P:B}{l:List am}{is:List It}{os:List Ob}{w0:an}{ds:List d_}
def Yd(P:B)(l:List am)(is:List It)(w0:an)(op:Op)(v:am):Prop:=∀w,Mem w0 w is->∀ty,Eo P l op ty v w
def mK{v:am}(h:∀ty,gX P l op ty v):Yd P l is w0 op v:=λw _ ty=>h ty w
def amT{e:List Nat}{p:Prop}[Decidable p]{d:List It}(h:cV e p (λp=>K (q/\p)) d):∃c v f,K (q/\c) v f d/\(c->∀{X:am->Prop},(X (.bool (decide p)))->X v):=by
 unfold cV at h;split at h
 .exact⟨_,_,_,h,λ_ _ a=>a⟩
 .exact⟨_,_,_,h,λb X a=>by rwa [Y5 b] at a⟩
 .exact⟨_,_,_,h,λb X a=>by rwa [Y6 b] at a⟩
 exact h.elim
def Yd.as{u v:am}(h:Yd P l is w0 op u)(e:u=v):Yd P l is w0 op v:=e▸h
def aod{v:am}{f:IntKind->Int->Prop}{g:List am->Prop}(h:vvE v f g):(∃k m,v=.int k m/\f k m)\/∃cs,v=.agg cs/\g cs.toList:=by
 cases v<;>first|exact h.elim|exact .inl ⟨_,_,rfl,h⟩|exact .inr ⟨_,rfl,h⟩
def aoe{b:BinOp}{x y:cw}{T':ba}{r:List Nat}(h:biV P T b (ev l x) (ev l y) r is K):∃d v o,K d v o is/\(d->Yd P l is w0 (.binOp b T x y T') v):=by
 cases b
 case add|sub|mul=>
  obtain⟨k,m,a,h⟩:=rB h;obtain⟨q,n,c,h⟩:=rB h;refine⟨_,_,_,h,λ⟨e,i⟩=>mK λty=>?_⟩;subst e
  first|exact eH a c i.wrap|exact pW a c i.wrap|exact lT a c i.wrap
 case eql|neq=>
  unfold biV at h;rcases aod h with ⟨k,m,a,h⟩|⟨cs,a,h⟩
  . obtain⟨q,n,c,h⟩:=rB h
    obtain⟨d,v,o,h,g⟩:=amT h;refine⟨_,_,_,h,λ⟨e,j⟩=>?_⟩;subst e;refine g j (X:=λv=>Yd P l is w0 _ v) (mK λty=>?_)
    first|exact Ld a c|exact sS a c
  obtain⟨us,c,h⟩:=ahJ h
  obtain⟨b,⟨p,f⟩,h⟩:=h;rw[Array.toArray_toList,Array.toArray_toList] at f;refine⟨_,_,_,h,λ_=>?_⟩
  first
   |exact (mK λty=>Ev p a c f).as (by simp)
   |exact (mK λty=>abY p a c f).as (by simp)
 case lss|leq|gtr|geq=>
  obtain⟨k,m,a,h⟩:=rB h;obtain⟨q,n,c,h⟩:=rB h;obtain⟨d,v,o,h,g⟩:=amT h;refine⟨_,_,_,h,λ⟨e,j⟩=>?_⟩;subst e;refine g j (X:=λv=>Yd P l is w0 _ v) (mK λty=>?_)
  first|exact oJ a c|exact Aw a c|exact Tp a c|exact zY a c
 all_goals exact h.elim
def aof{b:Builtin}{xs:List cw}{ts:List ba}{o:List Nat}(h:caV P l is b xs ts o K):∃g v p,K g v p is/\(g->Yd P l is w0 (.call { callee:=.builtin b,args:=xs.toArray,argTypes:=ts.toArray }) v):=by
 unfold caV at h;split at h
 . obtain⟨E,i,h⟩:=pI h
   obtain⟨a,n,c,d,h⟩:=ahI h;exact⟨_,_,_,h,λ_=>mK λty=>iL O (ak9 i) d⟩
 . obtain⟨k,m,d,h⟩:=rB h
   obtain⟨j,n,f,h⟩:=rB h;refine⟨_,_,_,h,λe=>mK λty=>?_⟩;subst e;exact adn d f O
 . obtain⟨k,m,d,h⟩:=rB h
   obtain⟨j,n,f,h⟩:=rB h;refine⟨_,_,_,h,λe=>mK λty=>?_⟩;subst e;exact sV d f O
 exact h.elim
def ald{k:Nat}{f:Ob->Prop}(d:∀x∈os,fQ w0 x.1 x.2.1 x.2.2)(h:atB is os k f):∃x:Ob,(∀w,Mem w0 w is->fQ w x.1 x.2.1 x.2.2)/\f x:=by
 rcases ahF h with ⟨i,c,x,b,a⟩|⟨x,b,a⟩
 .exact⟨x,λw m=>(i.bkP x b).2 w (m.all i c),a⟩
 exact⟨x,λw m=>(d x b).ext m.ext,a⟩
def Yf(cs:Array am)(o n:Nat):cs.extract o (o+n)=((cs.toList.drop o).take n).toArray:=by
 apply Array.ext';simp
def adQ:∀{l:List (Nat×Nat)} {n:Nat} {f:Nat×Nat->Prop},Yb l n f->∃z,l[n]? = H z/\f z
 |x::_,0,_,h=>⟨x,rfl,h⟩
 |_::l,n+1,_,h=>by rw[gu];exact adQ (l:=l) h
def afj{cs us:List am}{o:Nat}{c:am}(h:o<cs.length):over (cs.set o c) (o+1) us=over cs o (c::us):=by
 unfold over;have a:(cs.set o c).take (o+1)=cs.take o++[c]:=by
  rw[jb,List.take_set_of_le (bg o),List.getElem?_set_self h];rfl
 have b:(cs.set o c).drop (o+1+us.length)=cs.drop (o+(us.length+1)):=by
  rw[List.drop_set_of_lt (by omega)]
  congr 1
  omega
 rw[a,b];simp
def Ux:∀(us:List am)(off k:Nat)(cs:Array am),off+k+us.length<=cs.size ->
 (us.zipIdx k).foldl (λ(cs:Array am)(x:am×Nat)=>cs.setIfInBounds (off+x.2) x.1) cs=(over cs.toList (off+k) us).toArray
 | [],off,k,cs,h=>by simp[over]
 |c::us,off,k,cs,h=>by
  simp only[bh] at h;rw[List.zipIdx_cons,lq,Ux us off (k+1) _ (by simp;omega),<-afj (by simp;omega)];simp[Nat.add_assoc]
def afk{a:Nat->Option (Nat×Nat)}{cells:Array am}{i off size:Nat}{v:am}{b:List (Nat×am)}(d:a i=H (off,size))(g:v.cells.size=size)(f:off+size<=cells.size) :
 Instr.fill a cells ((i,v)::b)=Instr.fill a (over cells.toList off v.cells.toList).toArray b:=by
 have c:¬(v.cells.size≠size||off+v.cells.size>cells.size)=N:=by simp;omega
 have e:=Ux v.cells.toList off 0 cells (by simp;omega);rw[Instr.fill];simp only[d];rw[K0 c]
 congr 1
 rw[<-Array.foldl_toList,Array.toList_zipIdx];exact e
def ahK{g:List (Nat×Nat)}:∀{ps:List (Nat×cw)} {cs:List am} {q:Prop} {f:Prop->List am->Prop},blV l g ps cs q f ->
 ∃a b,f a b/\(a->q/\Instr.fill (λi=>g[i]?) cs.toArray (ps.map λx=>(x.1,ev l x.2))=H b.toArray)
 | [],cs,q,f,h=>⟨q,cs,h,λe=>⟨e,rfl⟩⟩
 |(i,x)::ps,cs,q,f,h=>by
  obtain⟨z,m,h⟩:=adQ h;obtain⟨k,p,h⟩:=Ye h;obtain⟨a,b,j,e⟩:=ahK h;refine⟨a,b,j,λh=>?_⟩;obtain⟨⟨c,d,o⟩,n⟩:=e h;have c:=Di c;have d:=Di d;rw[bf,ef] at d;refine⟨o,?_⟩;rw[df,afk (off:=z.1) (size:=z.2) (by rw[m]) (by simpa using c) ?_]
  .exact n
  simp
  omega
def Uy{p b:Nat->Option (Nat×Nat)}(h:∀i x,p i=H x->b i=H x):∀{l:List (Nat×am)} {cells cs:Array am},Instr.fill p cells l=H cs->Instr.fill b cells l=H cs
 | [],_,_,e=>e
 |(i,v)::l,cells,cs,e=>by
  rw[Instr.fill] at e ⊢;cases a:p i with
  |none=>rw[a] at e;cases e
  |some x=>
   rw[a] at e;rw[h i x a];simp only at e ⊢;split at e
   .cases e
   rename_i c
   rw[K0 c];exact Uy h e
def Pv{P:B}:∀{fs:List Field} {l:List (Nat×Nat)},fs.mapM (λ(f:Field)=>(sY P f.type).map λx=>(f.offset,x.2))=H l->∀w,(fs.mapM λf=>do pure (f.offset,<-sizeOf f.type):Sem (List (Nat×Nat))).run P w=.ok l w
 | [],l,h,w=>by
  rw[List.mapM_nil] at h ⊢;cases h;rfl
 |f::fs,l,h,w=>by
  rw[List.mapM_cons] at h ⊢;cases c:sY P f.type with
  |none=>rw[c] at h;cases h
  |some x=>
   obtain⟨b,n⟩:=x;rw[c] at h;cases a:fs.mapM (λ(f:Field)=>(sY P f.type).map λx=>(f.offset,x.2)) with
   |none=>simp[a] at h
   |some e=>
    simp[a] at h;subst h;have d:=Pv a w;simp only[bind_pure_comp] at d;simp[fO (yE c).2,d]
def ale{P:B}{m:List (Nat×Nat)}{z:List am}(h:wY P T=H (m,z)){vs:Array (Nat×am)}{cs:List am}(r:Instr.fill (λi=>m[i]?) z.toArray vs.toList=H cs.toArray)(w:an):(Instr.build T vs).run P w=.ok (.agg cs.toArray) w:=by
 unfold wY at h;split at h
 . rename_i fs s k l
   obtain⟨z0,o,p⟩:=Ya l;cases e:fs.toList.mapM (λ(f:Field)=>(sY P f.type).map λx=>(f.offset,x.2)) with
   |none=>rw[e] at h;cases h
   |some u=>
    rw[e] at h;cases h;refine dP (places:=m.toArray) k o (λw=>?_) (by rw[p];simpa using r) w;have a:=Pv e w;rw[gx];simp only[bind_pure_comp] at a ⊢;simp[a]
 . rename_i n E s k l
   obtain⟨z0,o,p⟩:=Ya l;cases g:sY P E with
   |none=>rw[g] at h;cases h
   |some x=>
    obtain⟨b,c⟩:=x;rw[g] at h;cases h;refine fT k o (yE g).2 ?_ w;rw[p];refine Uy (λi x d=>?_) r;rw[dc] at d;cases a:(fh n)[i]? with
    |none=>rw[a] at d;cases d
    |some j=>
     rw[a] at d;have:=av.1 a;obtain⟨t,q⟩:=this;rw[List.getElem_range] at q;subst q;cases d;rfl
 cases h
def Bx(P:B)(l:List am)(is:List It)(w0:an)(ds:List d_)(op:Op)(cs:List am)(T:ba):Prop:=∀(d:Nat)(ty:ba)(pos:String)(b:Array Edge)(ops:Array Oper)(Q:Exit->Act->an->Prop)(a:List Oper)(w:an),Mem w0 w is->(∀g u,eR w u->Mem w0 u (bI g cs T::is)->be P ops Q a (Fr (l.set d (.pointer (H ⟨g,0,X8⟩))) ds) u)->be P ops Q (cj (H d) op ty pos b X8::a) (Fr l ds) w
def Pw{D:Bool}{op:Op}{Y:List Nat}{K:KV}(aa:∀x∈os,fQ w0 x.1 x.2.1 x.2.2)(h:As P w0 l is os D op Y K) :
 (∃Z v ab,K Z v ab is/\(Z->Yd P l is w0 op v))\/(D=X7/\∃cs T,(∀g,K True (.pointer (H ⟨g,0,X8⟩)) Y (bI g cs T::is))/\Bx P l is w0 ds op cs T):=by
 unfold As at h;split at h
 .exact .inl ⟨_,_,_,h,λ_=>mK λty=>aF⟩
 .exact .inl ⟨_,_,_,h,λ_=>mK λty=>aI⟩
 . obtain⟨a,i,h⟩:=Fj h
   exact .inl ⟨_,_,_,h,λ_=>mK λty=>cN i⟩
 . obtain⟨b,W,h⟩:=Fi h
   cases b
   .exact .inl ⟨_,_,_,h,λ_=>mK λty=>gD W⟩
   exact .inl ⟨_,_,_,h,λ_=>mK λty=>dT W⟩
 .exact .inl (aoe h)
 . obtain⟨b,i,h⟩:=Fi h
   exact .inl ⟨_,_,_,h,λ_=>mK λty=>sT i⟩
 . obtain⟨k,m,i,h⟩:=rB h
   exact .inl ⟨_,_,_,h,λL=>mK λty=>sU i L.wrap⟩
 . obtain⟨k1,r,h⟩:=pI h
   obtain⟨k2,s,h⟩:=pI h;obtain⟨k,m,i,h⟩:=rB h;exact .inl ⟨_,_,_,h,λL=>mK λty=>iU (ahB s) (ahB r) i L.wrap⟩
 . obtain⟨f,G,h⟩:=pI h
   obtain⟨a,i,h⟩:=Fj h;obtain⟨m,X,h⟩:=Ye h;obtain⟨o,b,n⟩:=f;obtain⟨fs,f,r,s,B,F,C⟩:=adO G;simp only at X h;rw[X] at C;exact .inl ⟨_,_,_,h,λ_=>mK λty=>aO r s C i (by rw[B])⟩
 . obtain⟨⟨z,c⟩,j,h⟩:=pI h
   unfold Ej at j;split at j
   . rename_i n E M
     cases t:sY P E with
     |none=>rw[t] at j;cases j
     |some x=>
      obtain⟨b,c'⟩:=x;rw[t] at j;cases j;obtain⟨a,i,h⟩:=Fj (show vvP _ _ from h);obtain⟨k,m,S,h⟩:=rB h;exact .inl ⟨_,_,_,h,λp=>mK λty=>aR M (yE t).2 i S p.1 p.2 O⟩
   . rename_i E M
     cases t:sY P E with
     |none=>rw[t] at j;cases j
     |some x=>
      obtain⟨b,c'⟩:=x;rw[t] at j;cases j;obtain⟨A,n,cp,i,h⟩:=ahI (show vvS _ _ from h);obtain⟨a,rfl,h⟩:=pI h;obtain⟨k,m,S,h⟩:=rB h;exact .inl ⟨_,_,_,h,λp=>mK λty=>aN M (yE t).2 i S p.1 p.2 O⟩
   cases j
 . obtain⟨f,G,h⟩:=pI h
   obtain⟨cs,i,h⟩:=ahJ h;obtain⟨o,b,n⟩:=f;obtain⟨fs,f,r,s,B,F,C⟩:=adO G;simp only at h;cases b
   . obtain⟨v,p,h⟩:=Nh h
     exact .inl ⟨_,_,_,h,λ_=>mK λty=>agi r s F i (by rw[B];simpa using p)⟩
   exact .inl ⟨_,_,_,h,λ_=>mK λty=>agj r s F C i (by rw[B];exact Yf _ _ _)⟩
 . obtain⟨⟨pl,z⟩,j,h⟩:=pI h
   obtain⟨q,cs,h,hq⟩:=ahK h;exact .inl ⟨_,_,_,h,λp=>mK λty=>iA O (ale j (by simpa using (hq p).2))⟩
 . obtain⟨cs,i,h⟩:=aoc h
   obtain⟨v,p,h⟩:=Nh h;exact .inl ⟨_,_,_,h,λ_=>mK λty=>dU i (by simpa using p)⟩
 . split at h
   . obtain⟨a,i,h⟩:=Fj h
     obtain⟨v,hl,h⟩:=aob h;exact .inl ⟨_,_,_,h,λ_ w m ty=>cT i (hl w m)⟩
   . obtain⟨z,j,h⟩:=pI h
     obtain⟨a,i,h⟩:=Fj h;obtain⟨g,y,h⟩:=ald aa h;obtain⟨b,n⟩:=z;have U:=(yE j).1;have hC:=(yE j).2;cases b
     . obtain⟨v,p,h⟩:=Nh h
       exact .inl ⟨_,_,_,h,λe w m ty=>cT i (by rw[e];exact (y w m).lies1 U p)⟩
     exact .inl ⟨_,_,_,h,λe w m ty=>cT i (by rw[e.1];exact (y w m).lies U hC O (Di e.2))⟩
   exact h.elim
 . cases D
   .refine .inr ⟨O,_,_,h,λd ty pos af ops Q ad w m J=>zZ (by simp) λu g e I y=>J g u e (m.newB e I y)⟩
   exact h.elim
 . cases D
   . obtain⟨cs,j,h⟩:=pI (show Ar _ _ from h)
     obtain⟨z,r,s⟩:=Ya j;refine .inr ⟨O,_,_,h,λd ty pos af ops Q ad w m J=>kX r s λu g e I y=>J g u e (m.newB e I y)⟩
   exact h.elim
 . rename_i c
   split at h
   . rename_i b V
     obtain⟨ce,xs,ts⟩:=c;simp only at V h;subst V;have:=aof (w0:=w0) h;simpa using Or.inl this
   exact h.elim
 exact h.elim
def ahL{p:Bool}{v:List Nat}(h:stV P l is p op v K):p=X7/\∃A M B,K A undef M B/\(A->∀(ty:ba)(pos:String)(r:Array Edge)(ops:Array Oper)(Q:Exit->Act->an->Prop)(q:List Oper)(w:an),Mem w0 w is->(∀u,Mem w0 u B->be P ops Q q (Fr l ds) u)->be P ops Q (cj X8 op ty pos r X8::q) (Fr l ds) w):=by
 unfold stV at h;split at h
 . rename_i T x y k v
   cases p with
   |true=>exact h.elim
   |false=>
   obtain⟨z,I,h⟩:=pI (show Ar _ _ from h);obtain⟨n,G,h⟩:=Ye h;obtain⟨a,t,h⟩:=Fj h;obtain⟨i,g,s,o,h⟩:=acA h;obtain⟨b,z⟩:=z;refine⟨O,_,_,_,h,λ⟨e,d,f,C⟩ ty pos r ops Q q w m F=>?_⟩;have E:=(yE I).2;have d:=Di d;have f:=Di f;simp only at G d f;have j:=i.bkP g o;have D:=j.2 w (m.all i (ak s));rw[e] at t;refine kH t (us:=(ev l y).cells.toList) (by simp) (by rw[f];exact E) D ?_ (fU (adN C)) λu c J=>F u (m.put k s c.os c.tape c.output (by rw[c.size];exact bg _) (λb _ L=>c.block b λe=>L ((j.1 b).2 e)) J (.inl λb o=>(j.1 b).2 (by cases o;rfl)));rw[bf,ef] at d;omega
 exact h.elim
def aog{v:am}{b:Bool}{p:Prop}(h:vvG v b p q):(v=.bool b/\p)\/((∀c,v=.bool c->(c == b)=X7)/\q):=by
 cases v with
 |bool c=>
  unfold vvG at h;simp only at h;split at h
  .rename_i e;exact .inl ⟨by rw[e],h⟩
  rename_i e;exact .inr ⟨λc' a=>by cases a;simpa using e,h⟩
 |tuple=>exact .inr ⟨λc e=>(by cases e),h⟩
 |_=>exact h.elim
def Yg{j:Nat}{b:Bool}(h:vyv ops.toList l j=.bool b):yielded ops l.toArray j=H b:=by
 unfold vyv at h;unfold yielded;simp only[ia] at h;cases c:ops[j]? with
 |none=>rw[c] at h;cases h
 |some o=>
  rw[c] at h;simp only at h;cases a:o.dst with
  |none=>rw[a] at h;cases h
  |some d=>
   rw[a] at h;simp only[io] at h;simp only[pd,a,mz];cases e:l[d]? with
   |none=>rw[e] at h;cases h
   |some v=>rw[e] at h;simp only[dt] at h;rw[h]
def aoh{j:Nat}{b:Bool}(h:yielded ops l.toArray j=H b):vyv ops.toList l j=.bool b:=by
 unfold yielded at h;unfold vyv;simp only[ia];cases c:ops[j]? with
 |none=>rw[c] at h;cases h
 |some o=>
  rw[c] at h;simp only[pd] at h ⊢;cases a:o.dst with
  |none=>rw[a] at h;cases h
  |some d=>
   rw[a] at h;simp only[pd,mz] at h;simp only[io];cases e:l[d]? with
   |none=>rw[e] at h;cases h
   |some v=>
    rw[e] at h;simp only[dt];cases v<;>first|(cases h;done)|(cases h;rfl)
def Jt{g:Option (Nat×Bool)}{a:List Nat}{p q:List Nat->Prop}{r:Nat->List Nat->Nat->Bool->Prop}(h:Yc ops l g a p q r):(∃a,p a/\∀d op ty pos f,Region.wanted (cj d op ty pos f g) (yielded ops l.toArray)=N)\/(∃a,q a/\∀d op ty pos f,Region.wanted (cj d op ty pos f g) (yielded ops l.toArray)=X7)\/∃k a j b,g=H (j,b)/\r k a j b:=by
 cases g with
 |none=>exact .inl ⟨_,h,λ_ _ _ _ _=>rfl⟩
 |some g=>
  obtain⟨j,b⟩:=g;rcases a with _|⟨_|k,a⟩
  .exact h.elim
  . rcases aog (show vvG _ _ _ _ from h) with ⟨e,h⟩|⟨e,h⟩
    .exact .inl ⟨_,h,λ_ _ _ _ _=>by simp[Region.wanted,Yg e]⟩
    refine .inr (.inl ⟨_,h,λ_ _ _ _ _=>?_⟩)
    cases i:yielded ops l.toArray j with
    |none=>simp[Region.wanted,i]
    |some c=>simpa[Region.wanted,i] using e c (aoh i)
  exact .inr (.inr ⟨k,a,j,b,O,h⟩)
def acB:∀{ops:List Oper}{j:Nat}{f:Nat->Prop},dsT ops j f->∃t,(∀l:List am,vyv ops l j=l.getD t undef)/\f t
 |⟨H d,_,_,_,_,_⟩::_,0,_,h=>⟨d,λ_=>rfl,h⟩
 |⟨X8,_,_,_,_,_⟩::_,0,_,h=>h.elim
 |⟨H _,_,_,_,_,_⟩::ops,j+1,_,h|⟨X8,_,_,_,_,_⟩::ops,j+1,_,h=>let ⟨t,a,b⟩:=acB (ops:=ops) (j:=j) h;⟨t,λl=>a l,b⟩
 | [],0,_,h| [],_+1,_,h=>h.elim
def aoi{a b:Bool}{p:Prop}(h:vbE a b p):a=b/\p:=by cases a<;>cases b<;>first|exact h.elim|exact⟨rfl,h⟩
def upU(u:Nat->am)(d:Nat)(v:am)(i:Nat):am:=if i=d then v else u i
def acC(l:List am)(u:Nat->am)(d:Nat)(v:am):∀ds:List Nat,(Uw l ds (upU u d v)).set d v=(Uw l ds u).set d v
 | []=>rfl
 |e::ds=>by
  show ((Uw l ds (upU u d v)).set e (upU u d v e)).set d v=((Uw l ds u).set e (u e)).set d v
  by_cases h:e=d
  . subst h
    rw[List.set_set,List.set_set];exact acC l u e v ds
  rw[List.set_comm _ _ h,List.set_comm _ _ h,acC l u d v ds]
  unfold upU;rw[K0 h]
def Yh(l:List am)(u:Nat->am)(d:Nat)(v:am)(ds:List Nat):(Uw l ds u).set d v=Uw l (d::ds) (upU u d v):=by
 show _=(Uw l ds (upU u d v)).set d (upU u d v d)
 rw[show upU u d v d=v from Z9 rfl,acC]
def ahM{α:Type}{G:α->Option Oper}{ops:Array Oper}{j t:Nat}{want b:Bool}{K:Prop->List Nat->List α->List Nat->Nat->Bool->Prop}{Y:List α->List am->Prop}{l0:List am}(T:∀x∈os,fQ w0 x.1 x.2.1 x.2.2)
 (J:∀x d op ty pos o g m l v,G x=H ⟨H d,op,ty,pos,o,g⟩->Region.wanted (cj (H d) op ty pos o g) (yielded ops l.toArray)=N->Yd P l is w0 op v->Y m (l.set d v)->Y (x::m) l)
 (Q:∀x d op ty pos o g m l,G x=H ⟨H d,op,ty,pos,o,g⟩->Region.wanted (cj (H d) op ty pos o g) (yielded ops l.toArray)=X7->Y m (l.set d undef)->Y (x::m) l)
 (I:∀l:List am,vyv ops.toList l j=l.getD t undef) (F:∀q C m ds d v,K q C m ds d v->q/\∀u:Nat->am,Y m ((Uw l0 ds u).set d (.bool v))) :
 ∀(k:Nat)(C:List Nat)(q:Prop)(m:List α)(l:List am)(ds:List Nat),VG G P w0 is os j want b t K k C q m l ds->l.getD t undef=.bool b->(∃u,l=Uw l0 ds u) ->
  q/\(b=want->Y m l)/\(b≠want->∀u,(Uw l0 ds u).getD t undef=.bool b->Y m (Uw l0 ds u))
 |k+1,C,q,x::m,l,ds,h,A,⟨S,L⟩=>by
  unfold VG at h;split at h
  . rename_i d op ty pos o i w B
    rcases Pu h with ⟨D,n⟩|⟨_,n⟩
    . obtain⟨U,r⟩:=aoi n
      subst D;subst U;replace h:=r;clear n r;rcases Pu h with ⟨_,h⟩|⟨X,h⟩
      .exact h.elim
      rcases Pw (ds:=[]) T h with ⟨Z,v,aa,h,W⟩|⟨e,_⟩
      . have O:∀(f:List am)(c:am),(f.set d c).getD t undef=f.getD t undef:=λf c=>by
         rw[io,io,lx (Ne.symm X)]
        obtain⟨⟨n,y⟩,r,E⟩:=ahM T J Q I F k _ _ _ _ _ h (by rw[O];exact A) ⟨_,by rw[L];exact Yh ..⟩;refine⟨y,λe=>J _ _ _ _ _ _ _ _ _ _ B ?_ (W (n e)) (r e),λe u s=>Q _ _ _ _ _ _ _ _ _ B ?_ ?_⟩
        .simp[Region.wanted,Yg ((I l).trans A),e]
        .simp[Region.wanted,Yg ((I _).trans s),e]
        rw[Yh]
        exact E e _ (by rw[<-Yh,O];exact s)
      cases e
    exact n.elim
  . rename_i d i a c ty pos o B
    rcases Pu h with ⟨D,n⟩|⟨_,n⟩
    . subst D
      replace h:=n;clear n;have V:∀f:List am,Region.wanted (cj (H d) (.pick (.tmp t) a c) ty pos o X8) (yielded ops f.toArray)=N:=λ_=>rfl;have key:∀(f:List am)(v z:Bool),f.getD t undef=.bool b->(b=N->ev f a=.bool v)->(b=X7->ev f c=.bool v)->v=z->Y m (f.set d (.bool z))->Y (x::m) f:=λf v z n r E e p=>by
       subst e;refine J _ _ _ _ _ _ _ _ _ _ B (V f) ?_ p;cases b with
       |true=>exact (mK λty=>dT (show ev f (.tmp t)=_ from n)).as (r rfl)
       |false=>exact (mK λty=>gD (show ev f (.tmp t)=_ from n)).as (E rfl)
      unfold pkG at h;split at h
      . split at h
        . obtain⟨v,M,h⟩:=Fi h
          obtain⟨y,p⟩:=F _ _ _ _ _ _ h;refine⟨y,λe=>?_,λe u s=>?_⟩
          . subst e
            subst L;exact key _ v _ A (λ_=>M) (λe=>by cases e) (Bool.true_and v).symm (p S)
          have e:b=X7:=by simpa using e
          subst e;exact key _ X7 _ s (λe=>by cases e) (λ_=>rfl) (Bool.false_and v).symm (p u)
        exact h.elim
      split at h
      . obtain⟨v,M,h⟩:=Fi h
        obtain⟨y,p⟩:=F _ _ _ _ _ _ h;refine⟨y,λe=>?_,λe u s=>?_⟩
        . subst e
          subst L;exact key _ v _ A (λe=>by cases e) (λ_=>M) (Bool.false_or v).symm (p S)
        have e:b=N:=by simpa using e
        subst e;exact key _ N _ s (λ_=>rfl) (λe=>by cases e) (Bool.true_or v).symm (p u)
      exact h.elim
    exact n.elim
  exact h.elim
 |0,_,_,_,_,_,h,_,_=>h.elim
 |_+1,_,_,[],_,_,h,_,_=>h.elim
def nH{ops:Array Oper}{Q:Exit->Act->an->Prop}{b:List Oper}{d:Option Nat}{op:Op}{ty:ba}{pos:String}{a:Array Edge}{g:Option (Nat×Bool)}{w:an}(c:Region.wanted (cj d op ty pos a g) (yielded ops l.toArray)=N)
 (h:be P ops Q (cj d op ty pos a X8::b) (Fr l ds) w):be P ops Q (cj d op ty pos a g::b) (Fr l ds) w:=by
 unfold be at h ⊢;rw[Z9 (by simp[Region.wanted])] at h;rw[Z9 c];exact h
def rW{ops:Array Oper}{Q:Exit->Act->an->Prop}{a:List Oper}{o:Oper}{w:an}(b:Region.wanted o (yielded ops l.toArray)=X7)
 (h:be P ops Q a ((Fr l ds).put o.dst undef) w):be P ops Q (o::a) (Fr l ds) w:=by
 unfold be;rw[K0 (by rw[b];simp)];exact h
def Yi{R:Exit->Act->an->Prop}{id:Nat}{a:Act}{w:an}{G:List Ko->Prop}:∀{s:List Ko},Si id s G->∃d,G d/\(Ct P R d .normal a w->Ct P R s (.exit id) a w)
 |.b j::s,h=>by
  rcases Pu h with ⟨e,h⟩|⟨e,h⟩
  . refine⟨s,h,λf=>?_⟩
    show t j (Ct P R s) (.exit id) a w
    simp only[t];rw[Z9 e];exact f
  obtain⟨d,g,f⟩:=Yi (R:=R) (a:=a) (w:=w) h
  refine⟨d,g,λh=>?_⟩;show t j (Ct P R s) (.exit id) a w
  simp only[t];rw[K0 e];exact f h
 |.c _::s,h|.o _ _::s,h|.k _::s,h|.r _ _::s,h=>let ⟨d,g,f⟩:=Yi (R:=R) (a:=a) (w:=w) (s:=s) h;⟨d,g,λh=>f h⟩
 | [],h=>h.elim
def Uz:∀x∈([]:List Ob),fQ w0 x.1 x.2.1 x.2.2:=λ_ h=>(by cases h)
def alf{k:Kw}{w u:an}(d:kpb k=X7)(h:kpt k w)(e:eR w u):kpt k u:=by
 intro b v c;subst c;have a:b=X7:=d;subst a;exact eR.trans (h X7 v O) e
def qN{R:Exit->Act->an->Prop}(p:Kw):∀(n:Nat)(y:List Nat)(q:Prop)(s:List Ko)(l:List am)(is:List It),V P R w0 ds p n y q s l is->q/\∀w,Mem w0 w is->kpt p w->Gt P R s (Fr l ds) w
 |0,_,_,_,_,_,h=>⟨h.1,λ_ m i=>adP h.2 m i⟩
 |n+1,y,q,.b _::s,l,is,h=>qN p n y q s l is h
 |n+1,y,q,.o _ []::s,l,is,h=>qN p n y q s l is h
 |n+1,y,q,.o ops (⟨H d,op,ty,pos,D,g⟩::B)::s,l,is,h=>by
  unfold V at h;rcases Jt h with ⟨_,h,z⟩|⟨_,h,z⟩|⟨k,_,j,b,rfl,h⟩
  . rcases Pw (ds:=ds) Uz h with ⟨W,v,X,h,E⟩|⟨F,cs,T,h,O⟩
    . obtain⟨⟨I,A⟩,i⟩:=qN p n _ _ _ _ _ h
      exact⟨A,λw m f=>nH (z _ _ _ _ _) (pV (E I w m ty) (i w m f))⟩
    exact⟨(qN p n _ _ _ _ _ (h 0)).1.2,λw m f=>nH (z _ _ _ _ _) (O d ty pos D ops _ B w m λg u e J=>(qN p n _ _ _ _ _ (h g)).2 u J (alf F f e))⟩
  . obtain⟨A,i⟩:=qN p n _ _ _ _ _ h
    exact⟨A,λw m f=>rW (z _ _ _ _ _) (by rw[iK];exact i w m f)⟩
  obtain⟨t,Q,h⟩:=acB h
  obtain⟨c,K,h⟩:=Fi h;obtain⟨A,L,M⟩:=ahM (Y:=λB l=>∀w,Mem w0 w is->kpt p w->be P ops (Ct P R s) B (Fr l ds) w) (l0:=l) Uz
   (λx d op ty pos D g B l v C z E h w m f=>by cases C;exact nH z (pV (E w m ty) (h w m f)))
   (λx d op ty pos D g B l C z h w m f=>by cases C;exact rW z (by rw[iK];exact h w m f)) Q
   (λq y B Z d v h=>⟨(qN p n _ _ _ _ _ (h λ_=>undef)).1,λu=>(qN p n _ _ _ _ _ (h u)).2⟩) _ _ _ _ _ _ h K ⟨λ_=>undef,rfl⟩
  refine⟨A,λw m f=>?_⟩;by_cases e:c=b
  .exact L e w m f
  exact M e (λ_=>undef) K w m f
 |n+1,y,q,.o ops (⟨X8,op,ty,pos,D,g⟩::B)::s,l,is,h=>by
  unfold V at h;rcases Jt h with ⟨_,h,z⟩|⟨_,h,z⟩|⟨_,_,_,_,_,h⟩
  . obtain⟨F,W,X,aa,h,E⟩:=ahL (w0:=w0) (ds:=ds) h
    obtain⟨⟨I,A⟩,i⟩:=qN p n _ _ _ _ _ h;exact⟨A,λw m f=>nH (z _ _ _ _ _) (E I ty pos D ops _ B w m λu J=>i u J λb v e=>(by rw[e] at F;cases F))⟩
  . obtain⟨A,i⟩:=qN p n _ _ _ _ _ h
    exact⟨A,λw m f=>rW (z _ _ _ _ _) (i w m f)⟩
  exact h.elim
 |n+1,y,q,.c c::s,l,is,h=>by
  cases c with
  |seq a b=>exact (qN p n _ _ _ _ _ h).imp id λi w m f=>wp_seq (i w m f)
  |skip=>exact (qN p n _ _ _ _ _ h).imp id λi w m f=>wp_skip (i w m f)
  |block id c=>exact (qN p n _ _ _ _ _ h).imp (λh=>h) λi w m f=>wp_block (i w m f)
  |exit id=>
   refine⟨?_,λw m f=>?_⟩
   . obtain⟨U,G,_⟩:=Yi (P:=P) (R:=R) (a:=Fr l ds) (w:=w0) h
     exact (qN p n _ _ _ _ _ G).1
   obtain⟨U,G,S⟩:=Yi (P:=P) (R:=R) (a:=Fr l ds) (w:=w) h
   exact wp_exit (S ((qN p n _ _ _ _ _ G).2 w m f))
  |ret=>exact⟨h.1,λw m f=>wp_ret (ahA (adP h.2 m f) s)⟩
  |cond x a b=>
   obtain⟨t,C,h⟩:=Fi h;cases t
   .exact (qN p n _ _ _ _ _ h).imp id λi w m f=>Aj C (i w m f)
   exact (qN p n _ _ _ _ _ h).imp id λi w m f=>mX C (i w m f)
  |region id ops d=>
   cases d
   .exact (qN p n _ _ _ _ _ h).imp (λh=>h) λi w m f=>wp_region_list (i w m f)
   exact h.elim
  |loop c=>
   cases y with
   |nil=>exact h.elim
   |cons k y=>exact (qN p n _ _ _ _ _ h).imp (λh=>h) λi w m f=>wp_loop_rounds k (i w m f)
  |_=>exact h.elim
 |n+1,y,q,.r c (k+1)::s,l,is,h=>(qN p n y q _ l is h).imp (λh=>h) λi w m f=>i w m f
 |_+1,_,_,.r _ 0::_,_,_,h=>h.elim
 |_+1,_,_,.k _::_,_,_,h=>h.elim
 |_+1,_,_,[],_,_,h=>h.elim
/-! ### Regions in a drawn order -/
def VQ{α:Type}(e:α->Option Oper)(P:B)(w0:an)(is:List It)(os:List Ob)(ops:Array Oper)(K:List α->List am->Prop):Nat->List Nat->Prop->List α->List am->Prop
 |0,_,q,c,l=>q/\K c l
 |n+1,a,q,x::c,l=>match e x with
  |some ⟨H d,op,_,_,_,g⟩=>Yc ops l g a (λa=>As P w0 l is os N op a λh v a _=>VQ e P w0 is os ops K n a (h/\q) c (l.set d v)) (λa=>VQ e P w0 is os ops K n a q c (l.set d undef))
   λk a j w=>dsT ops.toList j λt=>Xy (l.getD t undef) λb=>VG e P w0 is os j w b t (λq a c f d v=>∀u:Nat->am,VQ e P w0 is os ops K n a q c ((Uw l f u).set d (.bool v))) (k+1) a q (x::c) l []
  |_=>False
 |_+1,_,_,[],_=>False
def Va{α:Type}{y:α->Option Oper}{ops:Array Oper}{K Y:List α->List am->Prop}(o:∀x∈os,fQ w0 x.1 x.2.1 x.2.2)(r:∀a l,K a l->Y a l)
 (m:∀x d op ty pos f g a l v,y x=H ⟨H d,op,ty,pos,f,g⟩->Region.wanted (cj (H d) op ty pos f g) (yielded ops l.toArray)=N->Yd P l is w0 op v->Y a (l.set d v)->Y (x::a) l)
 (i:∀x d op ty pos f g a l,y x=H ⟨H d,op,ty,pos,f,g⟩->Region.wanted (cj (H d) op ty pos f g) (yielded ops l.toArray)=X7->Y a (l.set d undef)->Y (x::a) l) :
 ∀(n:Nat)(A:List Nat)(q:Prop)(a:List α)(l:List am),VQ y P w0 is os ops K n A q a l->q/\Y a l
 |0,_,_,_,_,h=>⟨h.1,r _ _ h.2⟩
 |n+1,A,q,x::a,l,h=>by
  unfold VQ at h;split at h
  . rename_i d op ty pos f g D
    rcases Jt h with ⟨_,h,B⟩|⟨_,h,B⟩|⟨k,_,j,b,E,p⟩
    . rcases Pw (ds:=[]) o h with ⟨L,v,M,h,I⟩|⟨e,_⟩
      . obtain⟨⟨w,s⟩,z⟩:=Va o r m i n _ _ _ _ h
        exact⟨s,m _ _ _ _ _ _ _ _ _ _ D (B _ _ _ _ _) (I w) z⟩
      cases e
    . obtain⟨s,z⟩:=Va o r m i n _ _ _ _ h
      exact⟨s,i _ _ _ _ _ _ _ _ _ D (B _ _ _ _ _) z⟩
    subst E
    obtain⟨t,G,p⟩:=acB p;obtain⟨c,C,p⟩:=Fi p;obtain⟨s,w,F⟩:=ahM (l0:=l) o m i G (λq A a J d v h=>⟨(Va o r m i n _ _ _ _ (h λ_=>undef)).1,λu=>(Va o r m i n _ _ _ _ (h u)).2⟩) _ _ _ _ _ _ p C ⟨λ_=>undef,rfl⟩;refine⟨s,?_⟩;by_cases e:c=b
    .exact w e
    exact F e (λ_=>undef) C
  exact h.elim
 |_+1,_,_,[],_,h=>h.elim
def asc{Q:Act->Prop}(j:∀x∈os,fQ w0 x.1 x.2.1 x.2.2){f:List Nat}{a:List Oper}{l:List am}(h:VQ H P w0 is os ops (λa l=>c_ P ops (λu=>Mem w0 u is) Q a (Fr l ds)) n f True a l):c_ P ops (λu=>Mem w0 u is) Q a (Fr l ds):=by
 refine (Va (Y:=λa l=>c_ P ops (λu=>Mem w0 u is) Q a (Fr l ds)) j (λ_ _ h=>h) (λx d op ty pos e g a l v c b i h=>?_) (λx d op ty pos e g a l c b h=>?_) n f True a l h).2
 . cases c
   have h:=Ep (ty:=ty) (pos:=pos) (after:=e) (λu m=>i u m ty) h;unfold c_ at h ⊢;rw[Z9 (by simp[Region.wanted])] at h;rw[Z9 b];exact h
 cases c
 unfold c_;rw[K0 (by rw[b];simp)];show c_ P ops _ Q a ((Fr l ds).put (H d) undef)
 rw[iK];exact h
def hdH(x:Oper×Bool):Option Oper:=match x.2 with
 |true=>H x.1
 |false=>X8
def asd{Q:Exit->Act->an->Prop}{w:an}(p:∀x∈os,fQ w0 x.1 x.2.1 x.2.2){j:List Nat}{a:List (Oper×Bool)}{l:List am}(h:VQ hdH P w0 is os ops (λa l=>cE P ops (λu=>Mem w0 u is) Q a (Fr l ds) w) n j True a l):cE P ops (λu=>Mem w0 u is) Q a (Fr l ds) w:=by
 refine (Va (Y:=λa l=>cE P ops (λu=>Mem w0 u is) Q a (Fr l ds) w) p (λ_ _ h=>h) (λx d op ty pos i g a l v c f e h=>?_) (λx d op ty pos i g a l c f h=>?_) n j True a l h).2
 . obtain⟨o,b⟩:=x
   cases b
   .cases c
   cases c
   obtain⟨v,e,h⟩:=Wh (ty:=ty) (pos:=pos) (after:=i) (λu m=>e u m ty) h;refine⟨v,?_,h⟩;rcases e with ⟨_,e⟩|⟨k,_⟩
   .exact .inl ⟨f,e⟩
   simp[Region.wanted] at k
 obtain⟨o,b⟩:=x
 cases b
 .cases c
 cases c
 refine⟨undef,.inr ⟨f,O⟩,?_⟩;show cE P ops _ Q a ((Fr l ds).put (H d) undef) w
 rw[iK];exact h
end
def ase{P R w0 ds k n b q s l a is c}(h:l=a)(d:is=c):V P R w0 ds k n b q s l is=V P R w0 ds k n b q s a c:=by rw[h,d]
def aoj{ops l a g b c p q r}(h:l=a)(d:b=c):Yc ops l g b p q r=Yc ops a g c p q r:=by rw[h,d]
def aok{P w0 l a is os b d op c K}(h:l=a)(e:b=d):As P w0 l is os b op c K=As P w0 a is os d op c K:=by rw[h,e]
def aol{P l a is b d op c K}(h:l=a)(e:b=d):stV P l is b op c K=stV P a is d op c K:=by rw[h,e]
def aom{P l a is b xs ts c K}(h:l=a):caV P l is b xs ts c K=caV P a is b xs ts c K:=by rw[h]
def aon{P T b x y x' c a is K}(h:x=x')(d:y=c):biV P T b x y a is K=biV P T b x' c a is K:=by rw[h,d]
def aoo{v v' f g}(h:v=v'):vvE v f g=vvE v' f g:=by rw[h]
def aqL{a:α->Option Oper}{P w0 is os j want b t K k d q e l c ds}(h:l=c):VG a P w0 is os j want b t K k d q e l ds=VG a P w0 is os j want b t K k d q e c ds:=by rw[h]
def aop{want b l x y f}:pkG want b l x y f=pkG want b l x y f:=rfl
def aoq{g k}:ldK g k=ldK g k:=rfl
def aor{ops j f}:dsT ops j f=dsT ops j f:=rfl
def aqM{a b p K is}[Decidable p](h:a=b):cV a p K is=cV b p K is:=by rw[h]
def aos{v v' f}(h:v=v'):sX v f=sX v' f:=by rw[h]
def aot{v v' f}(h:v=v'):Xy v f=Xy v' f:=by rw[h]
def aou{v v' f}(h:v=v'):vvP v f=vvP v' f:=by rw[h]
def aov{v v' f}(h:v=v'):vvS v f=vvS v' f:=by rw[h]
def aow{v v' f}(h:v=v'):Xz v f=Xz v' f:=by rw[h]
def aox{v v' f}(h:v=v'):vvT v f=vvT v' f:=by rw[h]
def aoy{v v' b p q}(h:v=v'):vvG v b p q=vvG v' b p q:=by rw[h]
def aoz{o o':Option α}{f}(h:o=o'):Ar o f=Ar o' f:=by rw[h]
def aoA{b a p q}(h:b=a):vbX b p q=vbX a p q:=by rw[h]
def aoB{n a p}(h:n=a):vnX n p=vnX a p:=by rw[h]
def aoC{n a m p q}(h:n=a):Tj n m p q=Tj a m p q:=by rw[h]
def alg{l a n b f}(h:l=a)(c:n=b):Js l n f=Js a b f:=by rw[h,c]
def alh{l a n f}(h:l=a):Yb l n f=Yb a n f:=by rw[h]
def aoD{l a ps cs b q f}(h:cs=b):blV l a ps cs q f=blV l a ps b q f:=by rw[h]
def aoE{is a os k f}(h:is=a):atB is os k f=atB a os k f:=by rw[h]
def aoF{n a v v' f}(h:n=a)(b:v=v'):vvX n v f=vvX a v' f:=by rw[h,b]
def aqN{a:α->Option Oper}{P w0 is os ops K n c q d l b}(h:l=b):VQ a P w0 is os ops K n c q d l=VQ a P w0 is os ops K n c q d b:=by rw[h]
def fD{P ops S Q ol a b w}(h:a=b):cE P ops S Q ol a w=cE P ops S Q ol b w:=by rw[h]
def aoG{os k a f}(h:k=a):atO os k f=atO os a f:=by rw[h]
def aoH{is k a f}(h:k=a):atM is k f=atM is a f:=by rw[h]
def aoI{i a s f}(h:i=a):Si i s f=Si a s f:=by rw[h]
def aqO{P R s e a b w}(h:a=b):Ct P R s e a w=Ct P R s e b w:=by rw[h]
def fE{P ops Q c a b w}(h:a=b):be P ops Q c a w=be P ops Q c b w:=by rw[h]
def fF{P Q a b w}(h:a=b):c.wp P Q a w=c.wp P Q b w:=by rw[h]
def eN{P ops C Q c a b}(h:a=b):c_ P ops C Q c a=c_ P ops C Q c b:=by rw[h]
def aaN:∀(n:Nat)(p q:Prop),Tj n n p q=p
 |0,_,_=>rfl
 |n+1,p,q=>aaN n p q
def aqP{i:Nat}{s:List Ko}{f:List Ko->Prop}:Si i (.b i::s) f=f s:=aaN i _ _
def kp0{X:an->Prop}:(q/\ahH w0 is X X8)=(q/\∀w,Mem w0 w is->X w):=X2 ⟨λh=>⟨h.1,λw m=>h.2 w m λ_ _ e=>(by cases e)⟩,λh=>⟨h.1,λw m _=>h.2 w m⟩⟩
def kp1{a:an}{X:an->Prop}:(q/\ahH w0 is X (H (X7,a)))=(q/\∀w,Mem w0 w is->eR a w->X w):=X2 ⟨λh=>⟨h.1,λw m e=>h.2 w m λ_ _ b=>(by cases b;exact e)⟩,λh=>⟨h.1,λw m e=>h.2 w m (e _ _ rfl)⟩⟩
def ali{p:Prop}[Decidable p]:p↔decide p=N:=decide_eq_true_iff.symm
def aoJ{p:Prop}[Decidable p]:p↔decide (¬p)=X7:=⟨λh=>Y6 λe=>e h,λh=>Decidable.of_not_not (X5 h)⟩
def lA{g:Nat}{v:am}(h:eZ P w T ((⟨g,0,X8⟩:Addr).add n) v):eZ P w T ⟨g,n,X8⟩ v:=by
 rw[cA,ae] at h;exact h
def Fz(l:List am)(ds:List d_):Act:=Fr l ds
section
variable{P:B}{R:Exit->Act->an->Prop}{w0 w:an}{ds:List d_}{s:List Ko}{l:List am}{is:List It}
def qW(n:Nat)(a:List Nat)(m:Mem w0 w is)(h:V P R w0 ds X8 n a True (.c c::s) l is):c.wp P (Ct P R s) (Fr l ds) w:=(qN X8 n a True _ l is h).2 w m λ_ _ e=>(by cases e)
def F(n:Nat)(a:List Nat)(m:Mem w0 w is)(h:V P R w0 ds (H (N,w)) n a True (.c c::s) l is):c.wp P (Ct P R s) (Fr l ds) w:=(qN (H (N,w)) n a True _ l is h).2 w m λ_ _ e=>(by cases e;rfl)
def gJ(n:Nat)(a:List Nat)(m:Mem w0 w is)(h:V P R w0 ds X8 n a True [.c c] l is):c.wp P R (Fr l ds) w:=(qN X8 n a True _ l is h).2 w m λ_ _ e=>(by cases e)
def iD(n:Nat)(a:List Nat)(m:Mem w0 w is)(h:V P R w0 ds (H (N,w)) n a True [.c c] l is):c.wp P R (Fr l ds) w:=(qN (H (N,w)) n a True _ l is h).2 w m λ_ _ e=>(by cases e;rfl)
def kZ{b:List Oper}(n:Nat)(a:List Nat)(m:Mem w0 w is)(h:V P R w0 ds X8 n a True (.o ops b::s) l is):be P ops (Ct P R s) b (Fr l ds) w:=(qN X8 n a True _ l is h).2 w m λ_ _ e=>(by cases e)
def aL{b:List Oper}(n:Nat)(a:List Nat)(m:Mem w0 w is)(h:V P R w0 ds (H (N,w)) n a True (.o ops b::s) l is):be P ops (Ct P R s) b (Fr l ds) w:=(qN (H (N,w)) n a True _ l is h).2 w m λ_ _ e=>(by cases e;rfl)
def cW{Q:Act->Prop}{a:List Oper}(n:Nat)(b:List Nat)(h:VQ H P w0 is [] ops (λa l=>c_ P ops (λu=>Mem w0 u is) Q a (Fz l ds)) n b True a l):c_ P ops (λu=>Mem w0 u is) Q a (Fr l ds):=asc Uz h
def tL{Q:Exit->Act->an->Prop}{ol:List (Oper×Bool)}(n:Nat)(a:List Nat)(h:VQ hdH P w0 is [] ops (λb l=>cE P ops (λu=>Mem w0 u is) Q b (Fz l ds) w) n a True ol l):cE P ops (λu=>Mem w0 u is) Q ol (Fr l ds) w:=asd Uz h
def iE{c:List Oper}{f:FuncId}{a:cw}{xs:Array cw}{args:List am}{first cap:Array am}{a0:Array ba}{v:am}{d:Nat}{ty:ba}{pos:String}{g:Array Edge}(m:Mem w0 w is)(j:ev l a=.func (.func f) first cap)(k:first.toList++xs.toList.map (ev l)++cap.toList=args)(i:dO P f args v)(n:Nat)(b:List Nat)(h:V P R w0 ds X8 n b True (.o ops c::s) (l.set d v) is):be P ops (Ct P R s) (cj (H d) (.call { callee:=.value a,args:=xs,argTypes:=a0 }) ty pos g X8::c) (Fr l ds) w:=
 eV m j k i λu m=>(qN X8 n b True _ _ is h).2 u m λ_ _ e=>(by cases e)
def gc{a:Act}(h:c.wp P (Ct P R s) a w):Ct P R (.c c::s) .normal a w:=h
def go{b:List Oper}{a:Act}(h:be P ops (Ct P R s) b a w):Ct P R (.o ops b::s) .normal a w:=h
def gk{K:Act->an->Prop}{a:Act}(h:K a w):Ct P R (.k K::s) .normal a w:=h
def bT{c:Code}(ts ss:List Nat)(I:Nat->List am->an->Prop)(d:∃n,I n (ts.map (l.getD · undef)) w)
 (j:∀n vs w,I n vs w->∀(g:Nat->am)(K:Act->an->Prop),(∀b a w',b<n->lI (eG l ts (ts.map (a.getD · undef))) ss (a.getD · undef)=a->I b (ts.map (a.getD · undef)) w'->K (Fr a) w')->c.wp P (Ct P R (.k K::s)) (Fr (lI (eG l ts vs) ss g)) w):(Code.loop c).wp P (Ct P R s) (Fr l) w:=
 uT ts ss I d λn vs w i g=>j n vs w i g _ λb a w' e f h=>⟨b,a,e,rfl,f,h⟩
def uR(n:Nat)(a:List Nat)(m:Mem w0 w is)(h:V P R w0 ds X8 n a True s l is):Ct P R s .normal (Fr l ds) w:=(qN X8 n a True _ l is h).2 w m λ_ _ e=>(by cases e)
def aQ(n:Nat)(a:List Nat)(m:Mem w0 w is)(h:V P R w0 ds (H (N,w)) n a True s l is):Ct P R s .normal (Fr l ds) w:=(qN (H (N,w)) n a True _ l is h).2 w m λ_ _ e=>(by cases e;rfl)
end
section
variable{P:B}{ds:List d_}{l:List am}
def adR{c:Code}{Q:Exit->Act->an->Prop}{w:an}(ts ss:List Nat)(J:List am->an->Prop)
 (i:c.wp P (Exit.then (λd w'=>∃b,d=Fr b ds/\lI (eG l ts (ts.map (b.getD · undef))) ss (b.getD · undef)=b/\J (ts.map (b.getD · undef)) w') Q) (Fr l ds) w)
 (k:∀vs u,J vs u->∀g:Nat->am,Q .normal (Fr (lI (eG l ts vs) ss g) ds) u):c.wp P Q (Fr l ds) w:=by
 refine Code.wp_mono ?_ i;intro e a w' h;cases e with
 |normal=>
  obtain⟨b,rfl,j,f⟩:=h;rw[<-j];exact k _ _ f _
 |exit id=>exact h
 |goto id=>exact h
 |ret=>exact h
 |panic m=>exact h
 |outgrown=>exact h
def alj{c:Code}{Q:Exit->Act->an->Prop}{w0 w:an}{is:List It}(m:Mem w0 w is)(ts ss:List Nat)(J:List am->Prop)
 (d:c.wp P (Exit.then (λb w'=>∃a,b=Fr a ds/\lI (eG l ts (ts.map (a.getD · undef))) ss (a.getD · undef)=a/\Mem w0 w' is/\J (ts.map (a.getD · undef))) Q) (Fr l ds) w)
 (e:∀vs u,Mem w0 u is->J vs->∀g:Nat->am,Q .normal (Fr (lI (eG l ts vs) ss g) ds) u):c.wp P Q (Fr l ds) w:=
 adR ts ss (λvs w'=>Mem w0 w' is/\J vs) d λvs u h g=>e vs u h.1 h.2 g
def alk{c:Code}{Q:Exit->Act->an->Prop}{w0 w:an}{is:List It}(m:Mem w0 w is)(k:Nat)(ts ss:List Nat)(J:List am->It->Prop)
 (p:c.wp P (Exit.then (λj w'=>∃b i,j=Fr b ds/\lI (eG l ts (ts.map (b.getD · undef))) ss (b.getD · undef)=b/\Mem w0 w' (is.set k i)/\J (ts.map (b.getD · undef)) i) Q) (Fr l ds) w)
 (q:∀vs i u,Mem w0 u (is.set k i)->J vs i->∀g:Nat->am,Q .normal (Fr (lI (eG l ts vs) ss g) ds) u):c.wp P Q (Fr l ds) w:=by
 refine adR ts ss (λvs w'=>∃i,Mem w0 w' (is.set k i)/\J vs i) (Code.wp_mono ?_ p) λvs u h g=>?_
 . intro e a w' h
   cases e with
   |normal=>obtain⟨b,i,d,f,n,o⟩:=h;exact⟨b,d,f,i,n,o⟩
   |exit id=>exact h
   |goto id=>exact h
   |ret=>exact h
   |panic r=>exact h
   |outgrown=>exact h
 obtain⟨i,d,f⟩:=h
 exact q vs i u d f g
end
section
variable{P:B}{R:Exit->Act->an->Prop}{w0 w:an}{ds:List d_}{s:List Ko}{l:List am}{is:List It}
def adS{c:Code}(m:Mem w0 w is)(ts ss:List Nat)(J:List am->Prop)
 (f:∀K:Act->an->Prop,(∀a w',lI (eG l ts (ts.map (a.getD · undef))) ss (a.getD · undef)=a->Mem w0 w' is->J (ts.map (a.getD · undef))->K (Fr a ds) w')->c.wp P (Ct P R (.k K::s)) (Fr l ds) w)
 (h:∀vs u,Mem w0 u is->J vs->∀g:Nat->am,Ct P R s .normal (Fr (lI (eG l ts vs) ss g) ds) u):c.wp P (Ct P R s) (Fr l ds) w:=
 alj m ts ss J (f _ λa w' b d e=>⟨a,rfl,b,d,e⟩) h
def qO{c:Code}(m:Mem w0 w is)(k:Nat)(ts ss:List Nat)(J:List am->It->Prop)
 (f:∀K:Act->an->Prop,(∀a i w',lI (eG l ts (ts.map (a.getD · undef))) ss (a.getD · undef)=a->Mem w0 w' (is.set k i)->J (ts.map (a.getD · undef)) i->K (Fr a ds) w')->c.wp P (Ct P R (.k K::s)) (Fr l ds) w)
 (h:∀vs i u,Mem w0 u (is.set k i)->J vs i->∀g:Nat->am,Ct P R s .normal (Fr (lI (eG l ts vs) ss g) ds) u):c.wp P (Ct P R s) (Fr l ds) w:=
 alk m k ts ss J (f _ λa i w' b d e=>⟨a,i,rfl,b,d,e⟩) h
end
end
section
open Go.RowKit Go.Sort
def cM(p:Y):List am:=[U p.x,U p.y,U p.z]
def Px(p q:Y):(Je p q<0)↔p.Lt q:=by
 unfold Je;split
 .simp[*]
 split<;>simp[*]
def pQ(ts:List T3):List Y:=ts.flatMap λt=>[t.a,t.b,t.c]
def Ca(ps:List Y):Prop:=ps.Pairwise λa b=>a.Lt b
end
section
open Go.RowKit
variable{k n cap i g m X R:Nat}{w:an}{A:Option Addr}{x q:Y}{xs os ys:List Nat}{a:Int}{L:List Int}{op:Op}
def afl{α:Type}{ps:List α}{p:α}(h:ps[k]? = H p):ps.take (k+1)=ps.take k++[p]:=by
 rw[jb,h];rfl
def Yj(ts:List T3):(pQ ts).length=ts.length*3:=by
 unfold pQ
 induction ts with
 |nil=>rfl
 |cons t ts ih=>rw[da,a_,ih];simp only[bh,dv];omega
def Ow.max{w0:an}{S:List (Option Nat)}{E:ba}{c:Nat}{xs:List am}(h:Ow w0 w S E c A n cap xs):cap<=9223372036854775807:=by
 rcases h.cases with ⟨_,_,rfl,_⟩|⟨_,_,_,_,_,_,h,_⟩
 .exact bm _
 exact h
/-! ### Edges in order -/
def adT{α:Type}{p:α->Bool}:∀(l:List α),l.take (l.takeWhile p).length=l.takeWhile p
 | []=>rfl
 |x::l=>by
  rw[l_];split
  .rw[bh,ic,adT l]
  rfl
def adU{α:Type}{p:α->Bool}:∀(l:List α),l.drop (l.takeWhile p).length=l.dropWhile p
 | []=>rfl
 |x::l=>by
  rw[l_,pn];split
  .rw[bh,List.drop_succ_cons,adU l]
  rfl
def ahN{α:Type}{p:α->Bool}{x:α}:∀{l:List α},x∈l.takeWhile p->p x=N
 | [],h=>by cases h
 |y::l,h=>by
  rw[l_] at h;split at h
  . rename_i a
    rcases bl.1 h with rfl|h
    .exact a
    exact ahN h
  cases h
/-! ### Keys put into a set -/
section
variable{K:Type}[DecidableEq K]
end
/-! ### No edge twice -/
def acD{α:Type}{es:List α}{e:α}:(es++[e]).Nodup↔es.Nodup/\e∉es:=by
 rw[jp];constructor
 . rintro⟨c,_,g⟩
   exact⟨c,λk=>g e k e (by simp) O⟩
 rintro⟨c,f⟩
 exact⟨c,by simp,λa h b i d=>f (by rw[<-cr.1 i,<-d];exact h)⟩
section
variable{K V:Type}[DecidableEq K]
end
/-! ### What lies behind an edge -/
def amV(ts:List T3):List (E3×Y):=ts.flatMap λt=>[((t.a,t.b),t.c),((t.b,t.c),t.a),((t.c,t.a),t.b)]
def aoK{ts:List T3}{y z:Y}(h:((x,y),z)∈amV ts):((y,z),x)∈amV ts:=by
 obtain⟨t,b,a⟩:=ff.1 h;refine ff.2 ⟨t,b,?_⟩;simp only[bl,fk,Y3,iy] at a ⊢;rcases a with ⟨⟨rfl,rfl⟩,rfl⟩|⟨⟨rfl,rfl⟩,rfl⟩|⟨⟨rfl,rfl⟩,rfl⟩
 .exact .inr (.inl ⟨⟨O,O⟩,O⟩)
 .exact .inr (.inr ⟨⟨O,O⟩,O⟩)
 exact .inl ⟨⟨O,O⟩,O⟩
/-! ### The triangles of a corner -/
def aqs{p s:Y}{ts:List T3}:s∈ag8 ts p↔(p,s)∈jT ts:=by
 unfold ag8 jT;rw[ff,ff];refine X1 λt=>and_congr Iff.rfl ?_;unfold ag7;rw[show fh 3=[0,1,2] from rfl];simp only[da,List.flatMap_nil,fw,bz,ag6,bl,fk,Y3,iy];have k:∀(c:Nat)(x y:Y),t.cor c=x->t.cor ((c+1)%3)=y->(s∈(if t.cor c=p then [t.cor ((c+1)%3)] else [])↔p=x/\s=y):=λc x y d f=>by
  subst d;subst f;split
  .rename_i h;rw[cr];exact⟨λe=>⟨h.symm,e⟩,λe=>e.2⟩
  rename_i h;exact⟨λe=>(by cases e),λe=>Y0 e.1.symm h⟩
 rw[k 0 t.a t.b rfl rfl,k 1 t.b t.c rfl rfl,k 2 t.c t.a rfl rfl]
def Ju{ps:List Y}{p:Y}:x∈jE ps p↔x=p\/x∈ps:=by
 unfold jE;split
 . rename_i h
   exact⟨.inr,λk=>k.elim (λe=>e▸ak h) id⟩
 conv=>rhs;rw[<-fi (aav ps p) ps]
 simp only[bz,cr];exact⟨λh=>h.elim (λh=>h.elim (λh=>.inr (.inl h)) .inl) (λh=>.inr (.inr h)),λh=>h.elim (λh=>.inl (.inr h)) (λh=>h.elim (λh=>.inl (.inl h)) .inr)⟩
def rX{ts:List T3}:x∈bM ts↔x∈pQ ts:=by
 have:∀(ts:List T3)(ps:List Y),x∈ts.foldl (λps t=>jE (jE (jE ps t.a) t.b) t.c) ps↔x∈ps\/x∈pQ ts:=by
  intro ts
  induction ts with
  |nil=>intro ps;simp[pQ]
  |cons t ts ih=>
   intro ps;rw[lq,ih,Ju,Ju,Ju];have e:pQ (t::ts)=[t.a,t.b,t.c]++pQ ts:=rfl;rw[e];simp only[bz,bl,fk,Y3];constructor
   . rintro ((h|h|h|h)|h)
     .exact .inr (.inl (.inr (.inr h)))
     .exact .inr (.inl (.inr (.inl h)))
     .exact .inr (.inl (.inl h))
     .exact .inl h
     exact .inr (.inr h)
   rintro (h|(h|h|h)|h)
   .exact .inl (.inr (.inr (.inr h)))
   .exact .inl (.inr (.inr (.inl h)))
   .exact .inl (.inr (.inl h))
   .exact .inl (.inl h)
   exact .inr h
 have:=this ts [];simpa[bM] using this
/-! ### The ends of fans -/
/-! ### As the reference says it -/
abbrev Mv:=Y×Y
def Dw:List Mv->Y->Y
 | [],p=>p
 |m::ms,p=>if m.1=p then m.2 else Dw ms p
def T3.has(t:T3)(p:Y):Bool:=decide (t.a=p)||decide (t.b=p)||decide (t.c=p)
def Dx(ts:List T3)(p:Y):Bool:=ts.any λt=>t.has p
def Ak(ts:List T3)(p q:Y):Bool:=ts.any λt=>t.has p&&t.has q
def onB(a:List E3)(p:Y):Bool:=a.any λe=>decide (e.1=p)||decide (e.2=p)
def Py(a c:List T3)(ms:List Mv)(b:List E3)(i:Nat)(m:Mv):Bool:=
 (decide (i=0)||(ms[i-1]?).any λk=>decide (k.1.Lt m.1))&&Dx a m.1&&(Dx c m.2&&Dx a m.2&&ms.all λk=>decide (k.1≠m.2)) && !onB b m.1
def Jv(b c:List T3)(ms:List Mv)(a:List E3):Bool:=ms.zipIdx.all λx=>Py b c ms a x.2 x.1
def j(t:T3):T3:=if t.c.Lt t.a/\(t.c.Lt t.b\/¬t.b.Lt t.a) then ⟨t.c,t.a,t.b⟩ else if t.b.Lt t.a then ⟨t.b,t.c,t.a⟩ else t
def Yk{t u:T3}(d:t.a=u.a)(e:t.b=u.b)(f:t.c=u.c):t=u:=by
 cases t;cases u;simp only at d e f;subst d;subst e;subst f;rfl
instance:DecidableEq T3:=λt u=>decidable_of_iff (t.a=u.a/\t.b=u.b/\t.c=u.c) ⟨λh=>Yk h.1 h.2.1 h.2.2,λh=>by rw[h];exact⟨rfl,rfl,rfl⟩⟩
def T3.img(ms:List Mv)(t:T3):T3:=⟨Dw ms t.a,Dw ms t.b,Dw ms t.c⟩
def T3.nd(t:T3):Bool:=decide (t.a≠t.b)&&decide (t.b≠t.c)&&decide (t.c≠t.a)
def uA(d:List T3)(x:T3):Bool:=if x.nd then d.any λu=>decide (j u=j x) else Ak d x.a (if x.a=x.b then x.c else x.b)
def rY(ms:List Mv)(a:List T3)(u:T3):Nat:=(a.filter λt=>(t.img ms).nd&&decide (j u=j (t.img ms))).length
def Fk(a b:List T3)(ms:List Mv):Bool:=(a.all λt=>uA b (t.img ms))&&b.all λu=>decide (rY ms a u=1)
/-! ### Corners and edges -/
def rJ{t:T3}{p:Y}:t.has p=N↔p=t.a\/p=t.b\/p=t.c:=by
 unfold T3.has;simp only[gz,Y2,or_assoc];exact or_congr ⟨Eq.symm,Eq.symm⟩ (or_congr ⟨Eq.symm,Eq.symm⟩ ⟨Eq.symm,Eq.symm⟩)
def ahO{ts:List T3}{p:Y}:Ak ts p q=N↔∃t∈ts,t.has p=N/\t.has q=N:=by
 unfold Ak;rw[List.any_eq_true];exact X1 λt=>and_congr Iff.rfl (by rw[ck])
/-! ### The border -/
/-! ### The ends of fans -/
/-! ### Moves -/
def Pz{b c:List T3}{ms:List Mv}{a:List E3}:Jv b c ms a=N↔∀i m,ms[i]? = H m->Py b c ms a i m=N:=by
 unfold Jv;rw[jy];constructor
 . intro h i m d
   exact h (m,i) (List.mem_zipIdx_iff_getElem?.2 d)
 intro h x e
 exact h x.2 x.1 (List.mem_zipIdx_iff_getElem?.1 e)
/-! ### Covers -/
abbrev oE(x:Nat):am:=U (x:Int)
structure eE(w:an)(b:Nat)(A:Option Addr)(n cap:Nat)(xs:List Nat):Prop where
 eq:n=xs.length
 row:∀(i x:Nat),xs[i]? = H x->∃a,A=H a/\a.block<b/\w.cell? (a.add i)=H (U (x:Int))
 le:xs.length<=cap
 cap:cap<=9223372036854775807
 len:xs.length<=17592186044416
 digs:G 65536 xs
structure alm(w:an)(b:Nat):Prop where
 h:b<=w.heap.size
def alm.ext{w':an}{b:Nat}(h:alm w b)(a:eR w w'):alm w' b:=⟨ay h.h a.size⟩
section
variable{w w':an}{b:Nat}{A:Option Addr}{n cap:Nat}{xs:List Nat}
def eE.ext(h:eE w b A n cap xs)(c:eR w w'):eE w' b A n cap xs:=
 ⟨h.eq,λi x g=>let ⟨a,e,d,f⟩:=h.row i x g;⟨a,e,d,c.cell f⟩,h.le,h.cap,h.len,h.digs⟩
def eE.mono{c:Nat}(h:eE w b A n cap xs)(j:b<=c):eE w c A n cap xs:=
 ⟨h.eq,λi x f=>let ⟨a,e,g,d⟩:=h.row i x f;⟨a,e,by omega,d⟩,h.le,h.cap,h.len,h.digs⟩
def eE.here(h:eE w b A n cap xs):eE w w.heap.size A n cap xs:=
 ⟨h.eq,λi x d=>by
  obtain⟨a,e,_,c⟩:=h.row i x d;have:=World.block_lt_of_cell? _ _ c;rw[tI] at this;exact⟨a,e,this,c⟩,h.le,h.cap,h.len,h.digs⟩
def eE.grew{base:Nat}(h:eE w b A n cap xs)(d:Nx w w' base)(j:b<=base):eE w' b A n cap xs:=
 ⟨h.eq,λi x g=>by
  obtain⟨a,e,c,f⟩:=h.row i x g;exact⟨a,e,c,(World.cell?_of_block (d.block _ (by rw[tI];omega))).trans f⟩,h.le,h.cap,h.len,h.digs⟩
def eE.take(h:eE w b A n cap xs)(k:Nat):eE w b A (xs.take k).length cap (xs.take k):=
 ⟨rfl,λi x a=>h.row i x (by rw[fa] at a;split at a;exact a;cases a),ay (by simp;omega) h.le,h.cap,ay (by simp;omega) h.len,h.digs.take k⟩
def eE.get(h:eE w b A n cap xs){i:Nat}(c:i<xs.length):∃a,A=H a/\w.cell? (a.add i)=H (U ((xs[i]:Nat):Int))/\xs[i]<65536:=by
 obtain⟨a,e,_,d⟩:=h.row i xs[i] (ah c);exact⟨a,e,d,h.digs _ (fe c)⟩
def eE.at{a:Addr}(h:eE w b (H a) n cap xs){i:Nat}(d:i<xs.length):w.cell? (a.add i)=H (U ((xs[i]:Nat):Int)):=by
 obtain⟨f,e,c,_⟩:=h.get d;cases e;exact c
def eE.lt(h:eE w b A n cap xs){i:Nat}(a:i<xs.length):xs[i]<65536:=h.digs _ (fe a)
def eE.nil(w:an)(b:Nat):eE w b X8 0 0 []:=⟨rfl,λi x a=>by simp at a,bg _,by omega,by simp,λx c=>by cases c⟩
def eE.of_blk{g:Nat}{os:List Nat}{t:ba}(h:fQ w g (os.map oE) t)(a:G 65536 os)(c:n=os.length)(d:n<=17592186044416):eE w w.heap.size (H ⟨g,0,X8⟩) n n os:=
 ⟨c,λi x b=>⟨_,rfl,h.lt,by rw[cA,ae];exact h.cell (by simp[b])⟩,by omega,by omega,by omega,a⟩
def eE.of_owns{base:Nat}{v:am}{E:ba}(h:wJ w base E 1 v n (xs.map oE))(l:n=xs.length)(f:G 65536 xs)(q:n<=17592186044416):∃A c,v=.slice A n c/\eE w w.heap.size A n c xs/\∀a,A=H a->base<=a.block:=by
 rcases h.row with ⟨rfl,rfl,o⟩|⟨g,cap,rfl,d,p,b,j,m⟩
 . obtain rfl:xs=[]:=by simpa using o
   exact⟨X8,0,rfl,eE.nil _ _,λ_ e=>by cases e⟩
 exact⟨_,cap,rfl,⟨l,λi x k=>⟨_,rfl,j,m i _ (by simp[k])⟩,by omega,b,by omega,f⟩,λa e=>by cases e;exact d⟩
def eE.rows(h:eE w b A n cap xs):∀j u,(xs.map oE)[j]? = H u->∃a,A=H a/\w.cell? (a.add j)=H u:=λj u c=>by
 rw[dc] at c;cases d:xs[j]? with
 |none=>rw[d] at c;cases c
 |some x=>
  rw[d] at c;cases c;obtain⟨a,e,_,f⟩:=h.row j x d;exact⟨a,e,f⟩
end
def wA(n:Nat)(v:am)(w:an):Prop:=∃A cap,v=.slice A (digs 65536 n).length cap/\eE w w.heap.size A (digs 65536 n).length cap (digs 65536 n)
def nI{a b:Nat}:Wm a b<=0↔a<=b:=by
 unfold Wm;split
 .omega
 split<;>omega
def aoM(n k:Nat)(v:am)(w:an):Prop:=∃A cap os,v=.slice A os.length cap/\eE w w.heap.size A os.length cap os/\val 65536 os=n/\os.length<=k
def wA.of_trim{b:Nat}(h:eE w b A k cap xs)(a:val 65536 xs=n):wA n (.slice A (trim xs).length cap) w:=by
 have e:trim xs=digs 65536 n:=nR (by omega) h.digs a;refine⟨A,cap,by rw[e],?_⟩;rw[<-e];have:=(h.take (trim xs).length).here;rwa [<-jP] at this
def wA.self{b:Nat}(h:eE w b A k cap xs)(t:iI xs):wA (val 65536 xs) (.slice A k cap) w:=by
 have e:xs=digs 65536 (val 65536 xs):=by rw[<-nR (by omega) h.digs rfl,t]
 refine⟨A,cap,by rw[h.eq,<-e],?_⟩;rw[<-e,<-h.eq];exact h.here
def oS(n:Nat):bn n (ky .i64 0)=(bn n 0).map oE:=by simp[oE]
def Hl{d:Nat}(a:i<os.length):over (os.map oE) i [oE d]=(os.set i d).map oE:=by
 simp only[over,ib];apply fy;intro j;rcases Nat.lt_trichotomy j i with h|h|h
 . rw[db (by simp;omega),db (by simp;omega)]
   simp[h,lx (Nat.ne_of_gt h)]
 . subst h
   rw[db (by simp;omega),dj (by simp;omega)];have e:j-min j os.length=0:=by omega
   simp[a,e]
 rw[dj (by simp;omega)]
 simp only[a_,bf,dy,ib,dn,dc];rw[lx (by omega)]
 congr 2
 omega
def fQ.digit{t:ba}(h:fQ w g (os.map oE) t)(a:i<os.length):w.cell? ⟨g,i,X8⟩=H (U ((os[i]:Nat):Int)):=
 h.cell (by simp[a])
def fK(n:Nat):val 65536 (digs 65536 n)=n:=rO (by omega) n
def lO(n:Nat):iI (digs 65536 n):=qA (by omega) n
def lU(n:Nat):G 65536 (digs 65536 n):=tH (by omega) n
def Hm(h:m<=n):(digs 65536 m).length<=(digs 65536 n).length:=by
 refine eQ (by omega) (Nat.lt_of_le_of_lt h ?_);have:=kJ (lU n);rwa [fK] at this
def rZ{V:Nat}(h:V<2^k):(digs 65536 V).length<=k:=by
 refine eQ (by omega) (bc h ?_);rw[show (65536:Nat)=2^16 from rfl,<-Nat.pow_mul];exact fq (by omega) (by omega)
section
variable{P:B}{ds:List d_}{l:List am}{T ty:ba}
variable{ops:Array Oper}{Q:Exit->Act->an->Prop}{rest:List Oper}{d:Nat}{pos:String}{after:Array Edge}{w:an}
def tM{s0 s:cw}{base c b nn f cap:Nat}{E:ba}{z v:am}{xs:List am}{A:Option Addr}{a0:Array ba}(k:a0 = #[T,T])(q:P.underlying T=H (.slice E))(n:(P.info? E).map (λi=>(i.size,i.bytes,i.zero))=H (c,b,H z))(F:z.cells.size=c)(m:0<c)
 (p:ev l s0=v) (g:wJ w base E c v nn xs) (r:ev l s=.slice A f cap) {news:List am} (o:news.length=f*c) (t:∀j u,news[j]? = H u->∃a,A=H a/\w.cell? (a.add j)=H u) (x:∀u∈news,u.oneCell'=N) (G:nn+f<=9223372036854775807) (K:(nn+f)*b<=140737488355328) (J:base<=w.heap.size)
 (h:∀v' w',wJ w' base E c v' (nn+f) (xs++news)->Nx w w' base->True->be P ops Q rest (Fr (l.set d v') ds) w') :
 be P ops Q (cj (H d) (.call { callee:=.builtin .append,args:=#[s0,s],argTypes:=a0 }) ty pos after X8::rest) (Fr l ds) w:=by
 cases A with
 |none=>
  obtain rfl:news=[]:=by
   cases news with
   |nil=>rfl
   |cons u us=>obtain⟨a,e,_⟩:=t 0 u rfl;cases e
  have D:f=0:=by
   rcases et f with h0|h0
   .exact h0
   have:=Nat.mul_pos h0 m;simp at o;omega
  subst D;exact aeE k q n p g r (h _ _ (by simpa using g) (Nx.refl _ _) trivial)
 |some a=>
  refine aab k q n F m p g r o (λj u C=>?_) x G K J (λv' w' y B _=>h v' w' y B trivial);obtain⟨L,e,I⟩:=t j u C;cases e;exact I
end
theorem yG{os xs ys:List Nat}{i c s:Nat}(d:os.length=i)(j:val 65536 os+65536^i*c=val 65536 (xs.take i)+val 65536 (ys.take i))(b:G 65536 os)
 (f:s=c+xs[i]?.getD 0+ys[i]?.getD 0) :
 val 65536 (os++[s%65536])+65536^(i+1)*(s / 65536)=val 65536 (xs.take (i+1))+val 65536 (ys.take (i+1))/\G 65536 (os++[s%65536]):=by
 refine⟨?_,b.append (nQ (Nat.mod_lt _ (by omega)) (mE _))⟩;have a:∀l:List Nat,val 65536 (l.take (i+1))=val 65536 (l.take i)+65536^i*l[i]?.getD 0:=λl=>by
  rcases ej i l.length with h|h
  .rw[dF h,ah h];rfl
  rw[ap (by omega),ap h,ct h];simp
 rw[a xs,a ys,fI,d];simp only[val,ja,gi];have e:s=s%65536+65536*(s / 65536):=by omega
 rw[gd];generalize s / 65536=q at *
 generalize s%65536=r at *
 generalize 65536^i=p at *
 generalize xs[i]?.getD 0=x at *
 generalize ys[i]?.getD 0=y at *
 subst f;have g:p*(c+x+y)=p*r+p*65536*q:=by rw[e];grind
 grind
theorem vD{os xs ys:List Nat}{i c s b:Nat}(d:i<xs.length)(e:os.length=i)(l:val 65536 os+val 65536 (ys.take i)=val 65536 (xs.take i)+65536^i*c)(a:G 65536 os)
 (f:s+ys[i]?.getD 0+c=xs[i]+65536*b) (j:s<65536) :
 val 65536 (os++[s])+val 65536 (ys.take (i+1))=val 65536 (xs.take (i+1))+65536^(i+1)*b/\G 65536 (os++[s]):=by
 refine⟨?_,a.append (nQ j (mE _))⟩;have g:val 65536 (ys.take (i+1))=val 65536 (ys.take i)+65536^i*ys[i]?.getD 0:=by
  rcases ej i ys.length with h|h
  .rw[dF h,ah h];rfl
  rw[ap (by omega),ap h,ct h];simp
 rw[g,dF d,fI,e];simp only[val,ja,gi];rw[gd];generalize 65536^i=p at *
 generalize ys[i]?.getD 0=y at *
 generalize xs[i]=x at *
 have k:p*(s+y+c)=p*x+p*65536*b:=by rw[f];grind
 grind
def afm{c:Nat}(f:ys.length<=xs.length)(d:os.length=xs.length)(b:G 65536 os)(e:val 65536 os+val 65536 (ys.take xs.length)=val 65536 (xs.take xs.length)+65536^xs.length*c)(g:val 65536 ys<=val 65536 xs):val 65536 os=val 65536 xs-val 65536 ys:=by
 rw[ga,ap f] at e;have a:=kJ b;rw[d] at a;rcases et c with h|h
 .subst h;omega
 have:65536^xs.length*1<=65536^xs.length*c:=Nat.mul_le_mul_left _ h
 omega
theorem acE{os:List Nat}{i d c c' s t T:Nat}(a:i<os.length)(b:os[i]+s+c=d+65536*c')(f:val 65536 os+65536^i*c=T)(g:T+65536^i*s=t) :
 val 65536 (os.set i d)+65536^(i+1)*c'=t:=by
 have h:=mZ (B:=65536) (d:=d) a;rw[gd];generalize 65536^i=p at *
 have e:p*(os[i]+s+c)=p*d+p*65536*c':=by rw[b];grind
 grind
theorem aaO{os xs ys:List Nat}{i k c s:Nat}(d:i<xs.length)(a:k<ys.length)(f:os.length=xs.length+ys.length)(b:val 65536 os+65536^(i+k)*c=val 65536 (xs.take i)*val 65536 ys+65536^i*(xs[i]*val 65536 (ys.take k)))
 (e:s=os[i+k]+xs[i]*ys[k]+c):val 65536 (os.set (i+k) (s%65536))+65536^(i+(k+1))*(s / 65536)=val 65536 (xs.take i)*val 65536 ys+65536^i*(xs[i]*val 65536 (ys.take (k+1))):=by
 refine acE (s:=xs[i]*ys[k]) (i:=i+k) (by omega) (by omega) b ?_;rw[dF a,Nat.pow_add]
 grind
theorem afn{os xs ys:List Nat}{i c:Nat}(a:i<xs.length)(j:os.length=xs.length+ys.length)(b:val 65536 os+65536^(i+ys.length)*c=val 65536 (xs.take i)*val 65536 ys+65536^i*(xs[i]*val 65536 (ys.take ys.length)))(e:os.drop (i+ys.length)=bn (xs.length-i) 0) :
 val 65536 (os.set (i+ys.length) c)=val 65536 (xs.take (i+1))*val 65536 ys/\(os.set (i+ys.length) c).drop (i+1+ys.length)=bn (xs.length-(i+1)) 0:=by
 obtain⟨f,g⟩:=jQ e (by omega);have h:=mZ (B:=65536) (d:=c) (show i+ys.length<os.length by omega);rw[f] at h;rw[ga] at b;refine⟨?_,?_⟩
 . rw[dF a]
   grind
 rw[show i+1+ys.length=i+ys.length+1 by omega,lC,g]
 congr 1
def aaP{x y:Nat}(a:x<65536)(b:y<65536):x*y<=4294836225:=by
 have:=Nat.mul_le_mul (nk a) (nk b);omega
def afo{x y:Nat}(a:x<65536)(b:y<65536):(0:Int)<=(x:Int)*(y:Int)/\(x:Int)*(y:Int)<=4294836225:=by
 have:=aaP a b;rw[<-la];omega
def aaQ(b:G 65536 xs)(e:0<k)(c:k-1<xs.length)(d:k-1<ys.length)(a:xs.drop k=ys.drop k)(h:((xs[k-1]:Nat):Int)<((ys[k-1]:Nat):Int)):val 65536 xs<val 65536 ys:=
 Ea (by omega) b c d (by rw[show k-1+1=k by omega];exact a) (by omega)
def ahP(e:0<k)(b:k-1<xs.length)(c:k-1<ys.length)(a:xs.drop k=ys.drop k)(d:((xs[k-1]:Nat):Int)=((ys[k-1]:Nat):Int)):xs.drop (k-1)=ys.drop (k-1):=by
 rw[dw b,dw c,show k-1+1=k by omega,a,show xs[k-1]=ys[k-1] by omega]
def aoN(k:Nat):(65536:Nat)^k=256^(2*k):=by rw[show (65536:Nat)=256^2 from rfl,<-Nat.pow_mul]
theorem Hn{os bs:List Nat}{k d:Nat}(c:os.length=k)(g:val 65536 os=val 256 (bs.take (2*k)))(h:2*k<bs.length)(b:d=bs[2*k]+256*(bs[2*k+1]?.getD 0))(a:G 256 bs)(e:G 65536 os) :
 val 65536 (os++[d])=val 256 (bs.take (2*(k+1)))/\G 65536 (os++[d]):=by
 have i:=a _ (fe h);have j:bs[2*k+1]?.getD 0<256:=by
  rcases ej (2*k+1) bs.length with h|h
  .rw[ah h];exact a _ (fe h)
  rw[ct h];decide
 refine⟨?_,e.append (nQ (by omega) (mE _))⟩;have f:val 256 (bs.take (2*k+1+1))=val 256 (bs.take (2*k+1))+256^(2*k+1)*bs[2*k+1]?.getD 0:=by
  rcases ej (2*k+1) bs.length with h|h
  .rw[dF h,ah h];rfl
  rw[ap (by omega),ap h,ct h];simp
 rw[show 2*(k+1)=2*k+1+1 by omega,f,dF h,fI,c,g,aoN,gd];simp only[val,ja,gi];subst b;generalize 256^(2*k)=p
 grind
def wb2(x:Nat):List UInt8:=[eu (x / 256),eu x]
def Qd(ys:List Nat)(h:G 65536 ys):val 256 (((ys.reverse.flatMap wb2).reverse).map jo)=val 65536 ys/\G 256 (((ys.reverse.flatMap wb2).reverse).map jo):=by
 induction ys with
 |nil=>exact⟨rfl,λ_ h=>by cases h⟩
 |cons y ys ih=>
  have d:=h y (by simp);obtain⟨b,c⟩:=ih (λx a=>h x (by simp[a]));have e:(((y::ys).reverse.flatMap wb2).reverse).map jo=[y%256,y / 256%256]++(((ys.reverse.flatMap wb2).reverse).map jo):=by
   simp[au,wb2,jv]
  rw[e];refine⟨?_,?_⟩
  . rw[fI,b]
    simp only[val,bh,dv];omega
  refine G.append ?_ c
  intro x a;simp at a;omega
def aaR(h:G 65536 ys)(neg:Bool):nZ (jX (ys.reverse.flatMap wb2))=dQ (Oj neg (val 65536 ys)):=by
 obtain⟨a,b⟩:=Qd ys h;rw[Lg,nR (by omega) b a,dQ,Ez,mY];rfl
def oT(ys:List Nat)(k:Nat):List UInt8:=jX ((ys.drop k).reverse.flatMap wb2)
def Yl{l m:List UInt8}(h:jX l≠[]):jX (l++m)=jX l++m:=by
 induction l with
 |nil=>exact Y0 rfl h
 |cons b l ih=>
  by_cases a:b=0
  . subst a
    have e:jX (0::l)=jX l:=by simp[jX]
    have c:jX ((0::l)++m)=jX (l++m):=by simp[jX]
    rw[e] at h;rw[e,c,ih h]
  simp[jX,a]
def acG(b:0<k)(a:k-1<ys.length)(h:oT ys k≠[]):oT ys (k-1)=oT ys k++[eu (ys[k-1] / 256)]++[eu (ys[k-1]%256)]/\oT ys (k-1)≠[]:=by
 have e:oT ys (k-1)=oT ys k++[eu (ys[k-1] / 256)]++[eu (ys[k-1]%256)]:=by
  unfold oT at *
  rw[dw a,show k-1+1=k by omega,List.reverse_cons,au,Yl h];have:eu (ys[k-1]%256)=eu (ys[k-1]):=by
   apply oh.1;simp[jv]
  rw[this];simp[wb2]
 exact⟨e,by rw[e];simp⟩
def aaS{ys:List Nat}(f:ys.length-1<ys.length)(i:0<ys[ys.length-1])(k:ys[ys.length-1]<65536) :
 oT ys (ys.length-1)=(if 256<=ys[ys.length-1] then [eu (ys[ys.length-1] / 256)] else [])++[eu (ys[ys.length-1]%256)]/\oT ys (ys.length-1)≠[]:=by
 have e:oT ys (ys.length-1)=jX (wb2 (ys[ys.length-1])):=by
  unfold oT;rw[dw f,show ys.length-1+1=ys.length by omega,j_];simp
 generalize ys[ys.length-1]=x at *
 have d:eu (x%256)=eu x:=by
  apply oh.1;simp[jv]
 have a:∀y:Nat,y<256->(eu y=0↔y=0):=λy j=>by
  rw[<-oh];simp only[jv,UInt8.toNat_zero];rw[Nat.mod_eq_of_lt (by omega)]
 have c:jX (wb2 x)=(if 256<=x then [eu (x / 256)] else [])++[eu (x%256)]:=by
  split
  . rename_i h
    have b:¬eu (x / 256)=0:=λe=>by have:=(a _ (by omega)).1 e;omega
    rw[d];simp[jX,wb2,b]
  rename_i h
  have g:eu (x / 256)=0:=(a _ (by omega)).2 (by omega);have b:¬eu x=0:=λe=>by have:=(a _ (by omega)).1 e;omega
  rw[d];simp[jX,wb2,g,b]
 exact⟨e.trans c,by rw[e,c];simp⟩
def Vb(ys:List Nat):oT ys ys.length=[]:=by unfold oT;rw[j_];rfl
def acH(h:G 65536 ys)(neg:Bool):nZ (oT ys 0)=dQ (Oj neg (val 65536 ys)):=by
 unfold oT;rw[List.drop_zero];exact aaR h neg
def afp(ys:List Nat)(k:Nat):(oT ys k).length<=2*ys.length:=by
 have a:∀l:List UInt8,(jX l).length<=l.length:=λl=>by
  induction l with
  |nil=>simp[jX]
  |cons b l ih=>
   unfold jX at *
   rw[pn];split
   .simp;omega
   simp
 have c:∀l:List Nat,(l.flatMap wb2).length=2*l.length:=λl=>by
  induction l with
  |nil=>rfl
  |cons x l ih=>rw[da,a_,ih];simp[wb2];omega
 refine ay (a _) ?_;rw[c];simp;omega
def Cb{x:Nat}(h:x<256):IntKind.u8.wrap (x:Int)=(x:Int):=ado (by omega) (by omega)
theorem Qe{os:List Nat}{m V:Nat}(g:val 65536 os+65536^os.length*m=V)(b:G 65536 os)(a:m<2^(64-os.length))(d:os.length<=64)(c:0<m) :
 val 65536 (os++[m%65536])+65536^(os++[m%65536]).length*(m / 65536)=V/\G 65536 (os++[m%65536])/\m / 65536<2^(64-(os++[m%65536]).length)/\(os++[m%65536]).length<=64:=by
 have f:os.length<64:=by
  rcases ej os.length 64 with h|h
  .exact h
  rw[show 64-os.length=0 by omega] at a;omega
 refine⟨?_,b.append (nQ (Nat.mod_lt _ (by omega)) (mE _)),?_,by simp;omega⟩
 . rw[fI,a_,ib,gd]
   simp only[val,ja,gi];have e:m=m%65536+65536*(m / 65536):=by omega
   generalize m / 65536=q at *
   generalize m%65536=r at *
   generalize 65536^os.length=p at *
   subst e
   grind
 rw[a_,ib]
 have e:2^(64-os.length)=2*2^(64-(os.length+1)):=by rw[<-Nat.pow_succ'];congr 1;omega
 rw[e] at a;omega
def p16(i:Nat):(65536:Nat)^(2*(i+1))=65536*65536*65536^(2*i):=by
 rw[show 2*(i+1)=2*i+1+1 by omega,gd,gd];generalize (65536:Nat)^(2*i)=p;omega
def afq{K:Nat}(h:X<65536^n)(a:n<=2*K):X<(0+1)*(0+1)*65536^(2*K):=by
 have:=fq (show 0<65536 by omega) a;omega
theorem ahQ(h:R*R*65536^(2*(i+1))<=X):(0+65536*R)*(0+65536*R)*65536^(2*i)<=X:=by
 rw[p16] at h;have e:(0+65536*R)*(0+65536*R)*65536^(2*i)=R*R*(65536*65536*65536^(2*i)):=by
  generalize (65536:Nat)^(2*i)=p
  grind
 omega
theorem afr(h:X<(R+1)*(R+1)*65536^(2*(i+1))):X<(65536+65536*R)*(65536+65536*R)*65536^(2*i):=by
 rw[p16] at h;have e:(65536+65536*R)*(65536+65536*R)*65536^(2*i)=(R+1)*(R+1)*(65536*65536*65536^(2*i)):=by
  generalize (65536:Nat)^(2*i)=p
  grind
 omega
def aln{low high:Nat}(h:X<(high+65536*R)*(high+65536*R)*65536^(2*i))(a:¬((1:Int)<(high:Int)-(low:Int))):X<(low+65536*R+1)*(low+65536*R+1)*65536^(2*i):=by
 refine bc h (Nat.mul_le_mul_right _ (Nat.mul_le_mul ?_ ?_))<;>omega
def Ho{a:List Nat}  : val 65536 (bn (2*i) 0++digs 65536 (val 65536 (m::a)*val 65536 (m::a)))=(m+65536*val 65536 a)*(m+65536*val 65536 a)*65536^(2*i):=by
 rw[fI,fZ,fK,List.length_replicate,ae,Nat.mul_comm];rfl
def ahR(a:R*R*65536^(2*0)<=X)(b:X<(R+1)*(R+1)*65536^(2*0)):R=eS X:=xT (by simpa using a) (by simpa using b)
def Qf(m:Nat)(a:List Nat):val 65536 (m::a)=m+65536*val 65536 a:=rfl
def eE.trimmed{b:Nat}(h:eE w b A n cap xs):eE w w.heap.size A (trim xs).length cap (trim xs):=by
 have h:=(h.take (trim xs).length).here;rwa [<-jP] at h
def Qg{b f d e:Nat}{a:Option Addr}(h:eE w b A n cap xs)(k:eE w f a d e ys):∃c,alm w c/\eE w c A n cap xs/\eE w c a d e ys:=⟨_,⟨bg _⟩,h.here,k.here⟩
def Ym{a:List Nat}(c:m<65536)(h:G 65536 a):(digs 65536 (val 65536 (m::a)*val 65536 (m::a))).length<=2*(a.length+1):=by
 refine eQ (by omega) ?_;have b:=kJ (nQ c h);simp only[bh] at b;rw[show 2*(a.length+1)=(a.length+1)+(a.length+1) by omega,Nat.pow_add];exact Nat.mul_lt_mul'' b b
instance (a:Int):Decidable (gF a):=inferInstanceAs (Decidable (_/\_))
def Jw(a:Int):Int:=if gF a then a else 0
def alo(h:X=a.natAbs)(d:4<(digs 65536 X).length):¬gF a:=λk=>by
 have b:X<65536^4:=by have:=k.natAbs;rw[<-h] at this;omega
 have c:=eQ (B:=65536) (by omega) b;omega
def ahS{j:Nat}(f:(digs 65536 X).length<=4)(b:G 65536 (digs 65536 X))(e:j<(digs 65536 X).length):val 65536 ((digs 65536 X).drop (j+1))<281474976710656:=by
 have c:=kJ (b.drop (j+1));have a:((digs 65536 X).drop (j+1)).length<=3:=by rw[ef];omega
 have d:65536^((digs 65536 X).drop (j+1)).length<=65536^3:=fq (by omega) a;omega
def aoO(a:(digs 65536 X).length<=4)(h:X<65536^(digs 65536 X).length):X<18446744073709551616:=by
 have b:65536^(digs 65536 X).length<=65536^4:=fq (by omega) a;omega
def afs{a:Int}{X:Nat}(h:X=a.natAbs):(cQ a=N/\X<=9223372036854775808/\gF a/\a = -(X:Int))\/(cQ a=N/\9223372036854775808<X/\¬gF a) \/
 (cQ a=X7/\9223372036854775808<=X/\¬gF a)\/(cQ a=X7/\X<9223372036854775808/\gF a/\a=(X:Int)):=by
 unfold gF cQ;rcases Int.lt_or_le a 0 with h0|h0
 . rw[Y5 h0]
   rcases ej 9223372036854775808 X with h1|h1
   .exact .inr (.inl ⟨O,h1,by omega⟩)
   exact .inl ⟨O,h1,by omega,by omega⟩
 rw[Y6 (by omega)]
 rcases ej X 9223372036854775808 with h1|h1
 .exact .inr (.inr (.inr ⟨O,h1,by omega,by omega⟩))
 exact .inr (.inr (.inl ⟨O,h1,by omega⟩))
def acI(h:¬gF a):Value.tuple #[U 0,.bool X7]=.tuple #[U (Jw a),.bool (decide (gF a))]:=by rw[Jw,K0 h,Y6 h]
def adV{n:Int}(h:gF a)(e:n=a):Value.tuple #[U n,.bool N]=.tuple #[U (Jw a),.bool (decide (gF a))]:=by rw[Jw,Z9 h,Y5 h,e]
def ahT(h:X<=9223372036854775808):IntKind.i64.wrap (IntKind.u64.wrap (0-(X:Int))) = -(X:Int):=by
 rw[lD];simp[IntKind.wrap,IntKind.bits,IntKind.signed];split<;>omega
def ahU{v x V:Nat}(h:v=x+65536*V):((V:Int)*65536+(x:Int))=(v:Int):=by subst h;rw[Int.natCast_add,la];omega
def uB(p q:Y):Nat:=((q.sub p).dot (q.sub p)).natAbs
def Jy(p q:Y):Int:=(eS (uB p q):Int)+if eS (uB p q)*eS (uB p q)=uB p q then 0 else 1
/-! ### What CheckOpen says -/
/-! ### One far move -/
def aqQ(t u:T3):Prop:=u=t\/u=⟨t.b,t.c,t.a⟩\/u=⟨t.c,t.a,t.b⟩
/-! ### Edges of a list in which triangles are changed -/
section
variable{p:Y}{X:E3->Prop}{old new R fine fine':List T3}
end
/-! ### The two kinds of division -/
def ahV{t u:T3}(h:aqQ t u)(x:Y):u.has x=t.has x:=by
 unfold T3.has;rcases h with rfl|rfl|rfl
 .rfl
 .simp only;cases decide (t.a=x)<;>cases decide (t.b=x)<;>cases decide (t.c=x)<;>rfl
 simp only;cases decide (t.a=x)<;>cases decide (t.b=x)<;>cases decide (t.c=x)<;>rfl
/-! ### Images -/
section
variable{l fine fine' R:List T3}{ms:List Mv}{B B':Int}{p:Y}
end
def ahW{ts:List T3}  : x∈pQ ts↔∃t∈ts,x=t.cor 0\/x=t.cor 1\/x=t.cor 2:=by
 unfold pQ;rw[ff];exact X1 λt=>and_congr Iff.rfl (by simp[T3.cor])
def oG(a b c:Y):Y:=(b.sub a).cross (c.sub a)
def Hp(a b c d:Y):Int:=(oG a b c).dot (d.sub a)
def pU(v:Y)(k:Nat):Int:=if k=0 then v.x else if k=1 then v.y else v.z
def Ad(v:Y):Nat:=if v.x≠0 then 0 else if v.y≠0 then 1 else if v.z≠0 then 2 else 3
/-! ### Points in a plane -/
def Z3(u:Y):Prop:=u.x=0/\u.y=0/\u.z=0
instance (u:Y):Decidable (Z3 u):=inferInstanceAs (Decidable (_/\_/\_))
def sK(p q:Y):Y:=if q.Lt p then q else p
def uP(p q:Y):Y:=if q.Lt p then p else q
def ahX(a b c:Y):Bool:=decide (Ad (oG a b c)=3)
def aqR(p q r s:Y):Bool:=(if sK p q=uP p q then ahX (sK r s) (uP r s) (sK p q) else ahX (sK p q) (uP p q) (sK r s)) && !decide ((uP p q).Lt (sK r s)) && !decide ((uP r s).Lt (sK p q))
def Jz(p q r s:Y):Y:=(q.sub p).cross (s.sub r)
def rC(p q r s:Y):Bool:=
 if Ad (Jz p q r s)<3 then
  decide (Hp p q r s=0)&&decide (pU (oG p q r) (Ad (Jz p q r s))*pU (oG p q s) (Ad (Jz p q r s))<=0)&&decide (pU (oG r s p) (Ad (Jz p q r s))*pU (oG r s q) (Ad (Jz p q r s))<=0)
 else aqR p q r s
def aaT{p:Y}(h:p.Lt q):¬q.Lt p:=λk=>Y.lt_irrefl p (Y.lt_trans h k)
def lt_tri(p q:Y):p.Lt q\/p=q\/q.Lt p:=by
 by_cases h:p=q
 .exact .inr (.inl h)
 have:¬(p.x=q.x/\p.y=q.y/\p.z=q.z):=λk=>h (Y.eq k.1 k.2.1 k.2.2)
 unfold Y.Lt;omega
/-! ### In the plane of a triangle -/
def wth(a b c x:Y)(k:Nat):Prop:=(0<=pU (oG a b x) k/\0<=pU (oG b c x) k/\0<=pU (oG c a x) k)\/(pU (oG a b x) k<=0/\pU (oG b c x) k<=0/\pU (oG c a x) k<=0)
instance (a b c x:Y)(k:Nat):Decidable (wth a b c x k):=by unfold wth;infer_instance
def alp(x y z:Int):Bool:=(decide (0<=x)&&decide (0<=y)&&decide (0<=z))||(decide (x<=0)&&decide (y<=0)&&decide (z<=0))
def mT(p q:Y)(t:T3):Bool:=
 if Ad (oG t.a t.b t.c)<3 then
  if 0<Hp t.a t.b t.c p*Hp t.a t.b t.c q then X7
  else if Hp t.a t.b t.c p=0/\Hp t.a t.b t.c q=0 then rC p q t.a t.b||rC p q t.b t.c||rC p q t.c t.a||decide (wth t.a t.b t.c p (Ad (oG t.a t.b t.c)))
  else alp (Hp p q t.a t.b) (Hp p q t.b t.c) (Hp p q t.c t.a)
 else rC p q (sK (sK t.a t.b) t.c) (uP (uP t.a t.b) t.c)
/-! ### Two places of a list -/
/-! ### A step -/
/-! ### The surfaces -/
def T3.mapP(f:Y->Y)(t:T3):T3:=⟨f t.a,f t.b,f t.c⟩
section
variable{f:Y->Y}{S:Y->Prop}{ts:List T3}
end
/-! ### An edge is divided -/
section
variable{f:Y->Y}{S:Y->Prop}
end
section
variable{vi N':Y->Y->Prop}{a b c p q x0 y0:Y}
/-! ### A corner between two -/
/-! ### A corner in another's place -/
end
/-! ### The corners behind each other round a corner -/
/-! ### Images -/
def Yn{t:T3}:t.nd=N↔t.a≠t.b/\t.b≠t.c/\t.c≠t.a:=by
 unfold T3.nd;simp only[ck,Y2,X4]
def aqS{t:T3}:t.nd=X7↔t.a=t.b\/t.b=t.c\/t.c=t.a:=by
 cases h:t.nd with
 |true=>
  obtain⟨d,e,f⟩:=Yn.1 h;exact⟨λk=>(by cases k),λk=>k.elim (λk=>Y0 k d) λk=>k.elim (λk=>Y0 k e) λk=>Y0 k f⟩
 |false=>
  refine⟨λ_=>?_,λ_=>rfl⟩;by_cases d:t.a=t.b
  .exact .inl d
  by_cases e:t.b=t.c
  .exact .inr (.inl e)
  refine .inr (.inr (Decidable.byContradiction λf=>?_))
  rw[Yn.2 ⟨d,e,f⟩] at h;cases h
def aft(t:T3):aqQ t (j t):=by
 unfold j;split
 .exact .inr (.inr O)
 split
 .exact .inr (.inl O)
 exact .inl O
/-! ### What holds of both -/
def Hq{ts:List T3}{t:T3}(a:t∈ts)(h:t.has x=N):x∈pQ ts:=ahW.2 ⟨t,a,rJ.1 h⟩
/-! ### One step -/
def Au(p a x:Y):Y:=if x=p then a else x
def amW{p a:Y}:Au p a p=a:=Z9 rfl
def amX{p a:Y}(h:x≠p):Au p a x=x:=K0 h
section
variable{p a:Y}{X:E3->Prop}{old new R us us':List T3}
end
/-! ### The corners round a corner,in a step -/
def oU(t:T3):Bool:=decide (¬Ad (oG t.a t.b t.c)<3)
def uC(s t:T3):List Y:=[s.a,s.b,s.c].filter λp=>t.has p
def yH(s t:T3):List Y:=[s.a,s.b,s.c].filter λp=>!t.has p
def Mk(s t:T3):Bool:=mT s.a s.b t||mT s.b s.c t||mT s.c s.a t
def sgE(u v:Y):Bool:=decide (bV u.x=bV v.x/\bV u.y=bV v.y/\bV u.z=bV v.z)
def adW(s t:T3):List Y->List Y->List Y->Bool
 | [_],[u,x],[v,y]=>mT u x t||mT v y s
 | [a,b],[u],[v]=>decide (Hp a b u v=0)&&sgE (oG a b u) (oG a b v)
 |_,_,_=>N
def aaU(s t:T3):Bool:=
 if (uC s t).length=0\/oU s=N\/oU t=N then Mk s t||Mk t s else adW s t (uC s t) (yH s t) (yH t s)
def aoQ(s t:T3):uC s t=(if t.has s.a then [s.a] else [])++((if t.has s.b then [s.b] else [])++if t.has s.c then [s.c] else []):=by
 unfold uC;simp only[ii,my];cases t.has s.a<;>cases t.has s.b<;>cases t.has s.c<;>rfl
def aoR(s t:T3):yH s t=(if t.has s.a then [] else [s.a])++((if t.has s.b then [] else [s.b])++if t.has s.c then [] else [s.c]):=by
 unfold yH;simp only[ii,my];cases t.has s.a<;>cases t.has s.b<;>cases t.has s.c<;>rfl
def Vc{t:T3}(h:t.nd=N):[t.a,t.b,t.c].Nodup:=by
 obtain⟨d,e,f⟩:=Yn.1 h;simp only[og,bl,fk,Y3,not_or,not_false_eq_true,o_,Y8];exact⟨⟨d,f.symm⟩,e⟩
def ahY{s t:T3}(a:s.nd=N)(b:t.nd=N):(uC s t).Perm (uC t s):=by
 refine (List.perm_ext_iff_of_nodup ((Vc a).filter _) ((Vc b).filter _)).2 λp=>?_;rw[ix,ix,rJ,rJ];simp only[bl,fk,Y3];exact and_comm
def T3.Lt(s t:T3):Prop:=s.a.Lt t.a\/s.a=t.a/\(s.b.Lt t.b\/s.b=t.b/\s.c.Lt t.c)
variable{t u s:T3}
instance (s t:T3):Decidable (s.Lt t):=by unfold T3.Lt;infer_instance
def T3.lt_irrefl(s:T3):¬s.Lt s:=λh=>by
 rcases h with h|⟨_,h|⟨_,h⟩⟩<;>exact Y.lt_irrefl _ h
def T3.lt_trans(h:s.Lt t)(k:t.Lt u):s.Lt u:=by
 rcases h with h|⟨e,h|⟨f,h⟩⟩<;>rcases k with k|⟨a,k|⟨f2,k⟩⟩
 .exact .inl (Y.lt_trans h k)
 .exact .inl (a▸h)
 .exact .inl (a▸h)
 .exact .inl (e▸k)
 .exact .inr ⟨e.trans a,.inl (Y.lt_trans h k)⟩
 .exact .inr ⟨e.trans a,.inl (f2▸h)⟩
 .exact .inl (e▸k)
 .exact .inr ⟨e.trans a,.inl (f▸k)⟩
 exact .inr ⟨e.trans a,.inr ⟨f.trans f2,Y.lt_trans h k⟩⟩
def T3.lt_tri(s t:T3):s.Lt t\/s=t\/t.Lt s:=by
 rcases Go.Lith.lt_tri s.a t.a with h|h|h
 .exact .inl (.inl h)
 . rcases Go.Lith.lt_tri s.b t.b with k|k|k
   .exact .inl (.inr ⟨h,.inl k⟩)
   . rcases Go.Lith.lt_tri s.c t.c with l|l|l
     .exact .inl (.inr ⟨h,.inr ⟨k,l⟩⟩)
     .exact .inr (.inl (Yk h k l))
     exact .inr (.inr (.inr ⟨h.symm,.inr ⟨k.symm,l⟩⟩))
   exact .inr (.inr (.inr ⟨h.symm,.inl k⟩))
 exact .inr (.inr (.inl h))
def uD(s t:T3):Prop:=¬t.Lt s
def Ln(h:uD s t)(k:uD t u):uD s u:=λl=>by
 rcases T3.lt_tri s t with e|e|e
 .exact k (T3.lt_trans l e)
 .exact k (e▸l)
 exact h e
def acJ(h:uD s t)(k:uD t s):s=t:=by
 rcases T3.lt_tri s t with e|e|e
 .exact Y0 e k
 .exact e
 exact Y0 e h
def afu(t:T3):List T3->List T3
 | []=>[t]
 |u::l=>if u.Lt t then u::afu t l else t::u::l
def vE:List T3->List T3
 | []=>[]
 |t::l=>afu t (vE l)
def bS(l:List T3):List T3:=vE (l.map j)
def Qh(t:T3):∀l:List T3,(afu t l).Perm (t::l)
 | []=>.refl _
 |u::l=>by
  rw[afu];split
  .exact ((Qh t l).cons u).trans (.swap ..)
  exact .refl _
def tN:∀l:List T3,(vE l).Perm l
 | []=>.refl _
 |t::l=>(Qh t _).trans ((tN l).cons t)
def Qi(t:T3):∀l:List T3,l.Pairwise uD->(afu t l).Pairwise uD
 | [],_=>mb _ _
 |u::l,h=>by
  rw[afu];obtain⟨a,b⟩:=b_.1 h;split
  . rename_i k
    refine b_.2 ⟨λx hx=>?_,Qi t l b⟩;rcases bl.1 ((Qh t l).subset hx) with rfl|hx
    .exact λc=>T3.lt_irrefl _ (T3.lt_trans k c)
    exact a x hx
  rename_i k
  refine b_.2 ⟨λx hx=>?_,h⟩;rcases bl.1 hx with rfl|hx
  .exact k
  exact Ln k (a x hx)
def sA:∀l:List T3,(vE l).Pairwise uD
 | []=>List.Pairwise.nil
 |t::l=>Qi t _ (sA l)
def Cc:∀{l m:List T3},l.Perm m->l.Pairwise uD->m.Pairwise uD->l=m
 | [],m,h,_,_=>h.symm.eq_nil.symm
 |s::l,[],h,_,_=>by have:=h.length_eq;simp at this
 |s::l,t::m,h,f,g=>by
  obtain⟨a,b⟩:=b_.1 f;obtain⟨c,d⟩:=b_.1 g;have e:s=t:=by
   have hs:s∈t::m:=h.subset (bv ..);have ht:t∈s::l:=h.symm.subset (bv ..);rcases bl.1 hs with e|hs
   .exact e
   rcases bl.1 ht with e|ht
   .exact e.symm
   exact acJ (a t ht) (c s hs)
  subst e;rw[Cc ((List.perm_cons s).1 h) b d]
def yI(l:List T3):(bS l).Perm (l.map j):=tN _
def Yo(l:List T3):(bS l).Pairwise uD:=sA _
def ahZ{l m:List T3}(h:m.Perm (l.map j))(a:m.Pairwise uD):m=bS l:=Cc (h.trans (yI l).symm) a (Yo l)
def Fl(u v:Y)(t:T3):T3:=t.mapP (Au u v)
def Dy(u v:Y)(l:List T3):List T3:=(l.map (Fl u v)).filter T3.nd
def Qj(l:List T3)(u v:Y):List T3:=bS (Dy u v l)
def nbB(l:List T3)(p q:Y):Bool:=decide (q≠p)&&Ak l p q
def mn3(t:T3)(k:Nat):Int:=min (min (pU t.a k) (pU t.b k)) (pU t.c k)
def mx3(t:T3)(k:Nat):Int:=max (max (pU t.a k) (pU t.b k)) (pU t.c k)
def aoS(s t:T3)(k:Nat):Bool:=decide (mx3 s k<mn3 t k)||decide (mx3 t k<mn3 s k)
def ah0(s t:T3):Bool:=!aoS s t 0 && !aoS s t 1 && !aoS s t 2
def asf(s t:T3):Int:=bV ((oG s.a s.b s.c).dot (oG t.a t.b t.c))
def ah1{l:List T3}{p:Y}:nbB l p q=N↔q≠p/\Ak l p q=N:=by
 unfold nbB;rw[ck,Y2]
def jZ(l:List T3):(bS l).length=l.length:=by rw[(yI l).length_eq,dy]
def Yp(u v:Y)(l:List T3):(Dy u v l).length<=l.length:=by
 have:=List.length_filter_le T3.nd (l.map (Fl u v));rwa [dy] at this
def ah2{l:List T3}{u v:Y}(h:x∈pQ (Qj l u v)):x=v\/x∈pQ l:=by
 obtain⟨t,n,o⟩:=ff.1 h;obtain⟨s,m,rfl⟩:=du.1 ((yI _).mem_iff.1 n);obtain⟨r,i,rfl⟩:=du.1 (ix.1 m).1;have f:(j (Fl u v r)).has x=N:=rJ.2 (by simpa using o);rw[ahV (aft _)] at f;have g:∀y,y=r.a\/y=r.b\/y=r.c->y∈pQ l:=λy d=>Hq i (rJ.2 d);have k:∀y,(y=r.a\/y=r.b\/y=r.c)->Au u v y=v\/Au u v y∈pQ l:=λy d=>by
  unfold Au;split
  .exact .inl O
  exact .inr (g y d)
 rcases rJ.1 f with e|e|e
 .rw[e];exact k _ (.inl O)
 .rw[e];exact k _ (.inr (.inl O))
 rw[e];exact k _ (.inr (.inr O))
def Cd(a b:List Int):List Int:=List.zipWith (· + ·) a b
def q0:List Int:=[0,0,0,0,0,0,0,0,0,0]
def qPr(a b c d:Int):List Int:=[a*a,2*(a*b),2*(a*c),2*(a*d),b*b,2*(b*c),2*(b*d),c*c,2*(c*d),d*d]
def qOf(t:T3):List Int:=qPr (oG t.a t.b t.c).x (oG t.a t.b t.c).y (oG t.a t.b t.c).z (-((oG t.a t.b t.c).dot t.a))
def ah3(q:List Int)(x y z:Int):Int:=match q with
 | [a,b,c,d,e,f,g,h,i,j]=>a*(x*x)+b*(x*y)+c*(x*z)+d*x+e*(y*y)+f*(y*z)+g*y+h*(z*z)+i*z+j
 |_=>0
def qAt(q:List Int)(p:Y):Int:=ah3 q p.x p.y p.z
def Am(l:List T3)(p:Y):List Int:=(l.filter λt=>t.has p).foldl (λs t=>Cd s (qOf t)) q0
structure Iv where
 u:Y
 v:Y
 c:Int
def Iv.Lt(a b:Iv):Prop:=a.c<b.c\/a.c=b.c/\(a.u.Lt b.u\/a.u=b.u/\a.v.Lt b.v)
instance (a b:Iv):Decidable (a.Lt b):=by unfold Iv.Lt;infer_instance
def ah4(q:Y->List Int)(u v:Y):Int:=qAt (Cd (q u) (q v)) v
def Yq(q:Y->List Int)(u v:Y)(p:Y):List Int:=if p=v then Cd (q u) (q v) else q p
def wC(n:Int):List am:=[.bool (cQ n),.string (dQ n)]
def qC(L:List Int):List am:=L.flatMap wC
def qV(L:List Int):am:=.agg (qC L).toArray
def wC2(n:Int):(wC n).length=2:=rfl
def sP(L:List Int):(qC L).length=L.length*2:=dZ wC2 ..
def ah5{T:ba}{x:Int}(h:fQ w g (qC L) T)(c:L[k]? = H x):iX w ⟨g,k*2,X8⟩ (wC x):=by
 have a:=h.row (k*2);rw[qC,Pa wC2 c] at a;exact λj u b=>a j u (by rw[db (av.1 b).1];exact b)
def alr{x:Int}(h:k<L.length):over (qC L) (k*2) (wC x)=qC (L.set k x):=by
 unfold over qC;rw[show k*2+(wC x).length=(k+1)*2 by rw[wC2];omega,<-tY wC2,<-tX wC2,List.set_eq_take_append_cons_drop,Z9 h,au,da,di]
def aoU(L:List Int):∀u∈qC L,u.oneCell'=N:=λu a=>by
 obtain⟨x,_,h⟩:=ff.1 a;simp only[wC,bl,fk,Y3] at h;rcases h with rfl|rfl<;>rfl
def Ka(k:Nat)(L:List Int):Prop:=∀x∈L,Bd k x
def Ka.mono(h:Ka k L)(a:k<=m):Ka m L:=λx b=>(h x b).mono a
def Ka.at{x:Int}(h:Ka k L)(a:L[i]? = H x):Bd k x:=h x (ak a)
def kG{a b:List Int}(c:a.length=10)(d:b.length=10):(Cd a b).length=10:=by unfold Cd;rw[List.length_zipWith,c,d];rfl
def Ni{a b:List Int}(g:Ka k a)(h:Ka k b):Ka (k+1) (Cd a b):=λx f=>by
 unfold Cd at f;obtain⟨i,c⟩:=m_.1 f;rw[List.getElem?_zipWith] at c;cases d:a[i]? with
 |none=>simp[d] at c
 |some y=>
  cases e:b[i]? with
  |none=>simp[d,e] at c
  |some z=>
   simp[d,e] at c;subst c;exact ((g.at d).add (h.at e)).mono (by omega)
section
variable{P:B}{ds:List d_}{l:List am}{x y:cw}{T ty:ba}{ops:Array Oper}{Q:Exit->Act->an->Prop}{rest:List Oper}{pos:String}{after:Array Edge}{w w0:an}{is:List It}
def ah6{cs us:List am}(h:us.length=cs.length):over cs 0 us=us:=by unfold over;rw[im,cv,ae,fl (by omega),fw]
def Hr{g n:Nat}{cs:List am}{L:List Int}{t:ba}(m:Mem w0 w is)(k:Nat)(e:is[k]? = H (bI g cs t))(i:ev l x=.pointer (H ⟨g,0,X8⟩))(f:ev l y=qV L)(a:L.length*2=n)(c:cs.length=n)(d:dW P T n)
 (h:∀u,Mem w0 u (is.set k (bI g (qC L) t))->be P ops Q rest (Fr l ds) u):be P ops Q (cj X8 (.store T x y) ty pos after X8::rest) (Fr l ds) w:=
 aX (us:=qC L) m k e i f (by rw[sP,a];exact d) (by rw[sP,a,c,ae];exact bg _) (jy.2 (aoU L)) λu b=>h u (by rw[ah6 (by rw[sP,a,c])] at b;exact b)
def Fm{L:List Int}{t:ba}(h:fQ w g (qC L) t)(a:fG P T N)(b:dW P T n)(c:L.length*2=n):eZ P w T ⟨g,0,X8⟩ (qV L):=h.full a (by rw[sP,c];exact b)
end
/-! ### The pairs,in order -/
def eI(n:Nat):Nat:=[0,0,0,0,1,1,1,2,2,3].getD n 0
def eJ(n:Nat):Nat:=[0,1,2,3,1,2,3,2,3,3].getD n 0
def adX{Q:Nat->Prop}(k:n<10)(a:Q 0)(b:Q 1)(c:Q 2)(d:Q 3)(e:Q 4)(f:Q 5)(g:Q 6)(h:Q 7)(i:Q 8)(j:Q 9):Q n:=by
 rcases n with _|_|_|_|_|_|_|_|_|_|n
 all_goals first|assumption|omega
def aqV(a:n<10):eI n<4:=adX (Q:=λn=>eI n<4) a (by decide) (by decide) (by decide) (by decide) (by decide) (by decide) (by decide) (by decide) (by decide) (by decide)
def aqW(a:n<10):eJ n<4:=adX (Q:=λn=>eJ n<4) a (by decide) (by decide) (by decide) (by decide) (by decide) (by decide) (by decide) (by decide) (by decide) (by decide)
def pr1(p:List Int)(n:Nat):Int:=p.getD (eI n) 0*p.getD (eJ n) 0
def aqX{b c d:Int}(h:Ka k [a,b,c,d]):Ka (k+k+2) (qPr a b c d):=λx j=>by
 have e:=h a (by simp);have f:=h b (by simp);have g:=h c (by simp);have i:=h d (by simp);have two:∀{x:Int},Bd (k+k) x->Bd (k+k+2) (2*x):=λ{x} j=>by
  have l:Bd 2 (2:Int):=by unfold Bd;decide
  rw[Nat.add_comm];exact l.mul j
 simp only[qPr,bl,fk,Y3] at j;rcases j with rfl|rfl|rfl|rfl|rfl|rfl|rfl|rfl|rfl|rfl
 .exact (e.mul e).mono (by omega)
 .exact two (e.mul f)
 .exact two (e.mul g)
 .exact two (e.mul i)
 .exact (f.mul f).mono (by omega)
 .exact two (f.mul g)
 .exact two (f.mul i)
 .exact (g.mul g).mono (by omega)
 .exact two (g.mul i)
 exact (i.mul i).mono (by omega)
/-! ### A quadric's value -/
def atS(q x:List Int):Nat->Int
 |0=>0
 |n+1=>atS q x n+q.getD n 0*pr1 x n
def acK{q:List Int}(b:q.length=10)(a:n<10):q[n]? = H (q.getD n 0):=by
 rw[io,ah (by omega)];rfl
theorem aoV{q:List Int}(l:q.length=10)(p:Y):atS q [p.x,p.y,p.z,1] 10=qAt q p:=by
 rcases q with _|⟨a,_|⟨b,_|⟨c,_|⟨d,_|⟨e,_|⟨f,_|⟨g,_|⟨h,_|⟨i,_|⟨j,_|⟨k,q⟩⟩⟩⟩⟩⟩⟩⟩⟩⟩⟩<;>simp only[bh,dv] at l<;>try omega
 simp only[atS,pr1,eI,eJ,qAt,ah3,List.getD_cons_zero,List.getD_cons_succ,List.getD_nil]
 grind
def aoW{p:List Int}(h:Ka k p)(c:p.length=4)(a:n<10):Bd (k+k) (pr1 p n):=by
 have key:∀i,i<4->Bd k (p.getD i 0):=λi b=>by
  rw[io,ah (by omega:i<p.length)];exact h _ (fe _)
 exact (key _ (aqV a)).mul (key _ (aqW a))
def ah7{k m:Nat}{q p:List Int}(c:Ka k q)(a:q.length=10)(b:Ka m p)(d:p.length=4):∀n,n<=10->Bd (k+m+m+n) (atS q p n)
 |0,_=>Cv _
 |n+1,g=>by
  have e:=ah7 c a b d n (by omega);have f:=(c.at (acK a (by omega:n<10))).mul (aoW b d (by omega:n<10));exact (e.add (f.mono (by omega:k+(m+m)<=k+m+m+n))).mono (by omega)
def bd4{p:Y}(h:I3 p):Ka 64 [p.x,p.y,p.z,1]:=λx a=>by
 simp only[bl,fk,Y3] at a;rcases a with rfl|rfl|rfl|rfl
 .exact h.x.bd
 .exact h.y.bd
 .exact h.z.bd
 unfold Bd;decide
def aqY:∀{o:Oper}{ops:List Oper}{j:Nat}{f:Nat->Prop},dsT (o::ops) (j+1) f=dsT ops j f
 |⟨X8,_,_,_,_,_⟩,_,_,_=>rfl
 |⟨H _,_,_,_,_,_⟩,_,_,_=>rfl
def Z:(∀P R w0 ds q s l is,V P R w0 ds X8 0 [] q s l is=(q/\∀w,Mem w0 w is->Ct P R s .normal (Fz l ds) w))
 /\ (∀P R w0 ds C q s l is,V P R w0 ds (H (X7,C)) 0 [] q s l is=(q/\∀w,Mem w0 w is->eR C w->Ct P R s .normal (Fz l ds) w))/\(∀P R w0 ds C q s l is,V P R w0 ds (H (N,C)) 0 [] q s l is=(q/\Ct P R s .normal (Fz l ds) C))
 /\ (∀P R w0 ds k h q l is,V P R w0 ds X8 0 (k::h) q [] l is=(q/\∀w,Mem w0 w is->R .normal (Fz l ds) w))
 /\ (∀P R w0 ds C k h q l is,V P R w0 ds (H (X7,C)) 0 (k::h) q [] l is=(q/\∀w,Mem w0 w is->eR C w->R .normal (Fz l ds) w))/\(∀P R w0 ds C k h q l is,V P R w0 ds (H (N,C)) 0 (k::h) q [] l is=(q/\R .normal (Fz l ds) C))
 /\ (∀P R w0 ds k h q c s l is,V P R w0 ds X8 0 (k::h) q (.c c::s) l is=(q/\∀w,Mem w0 w is->c.wp P (Ct P R s) (Fz l ds) w))
 /\ (∀P R w0 ds C k h q c s l is,V P R w0 ds (H (X7,C)) 0 (k::h) q (.c c::s) l is=(q/\∀w,Mem w0 w is->eR C w->c.wp P (Ct P R s) (Fz l ds) w))/\(∀P R w0 ds C k h q c s l is,V P R w0 ds (H (N,C)) 0 (k::h) q (.c c::s) l is=(q/\c.wp P (Ct P R s) (Fz l ds) C))
 /\ (∀P R w0 ds k h q ops B s l is,V P R w0 ds X8 0 (k::h) q (.o ops B::s) l is=(q/\∀w,Mem w0 w is->be P ops (Ct P R s) B (Fz l ds) w))
 /\ (∀P R w0 ds C k h q ops B s l is,V P R w0 ds (H (X7,C)) 0 (k::h) q (.o ops B::s) l is=(q/\∀w,Mem w0 w is->eR C w->be P ops (Ct P R s) B (Fz l ds) w))/\(∀P R w0 ds C k h q ops B s l is,V P R w0 ds (H (N,C)) 0 (k::h) q (.o ops B::s) l is=(q/\be P ops (Ct P R s) B (Fz l ds) C))
 /\ (∀P R w0 ds k h q K s l is,V P R w0 ds X8 0 (k::h) q (.k K::s) l is=(q/\∀w,Mem w0 w is->K (Fz l ds) w))
 /\ (∀P R w0 ds C k h q K s l is,V P R w0 ds (H (X7,C)) 0 (k::h) q (.k K::s) l is=(q/\∀w,Mem w0 w is->eR C w->K (Fz l ds) w))/\(∀P R w0 ds C k h q K s l is,V P R w0 ds (H (N,C)) 0 (k::h) q (.k K::s) l is=(q/\K (Fz l ds) C))
 /\ (∀P R w0 ds os n h q i s l is,V P R w0 ds os (n+1) h q (.b i::s) l is=V P R w0 ds os n h q s l is)
 /\ (∀P R w0 ds os n h q ops s l is,V P R w0 ds os (n+1) h q (.o ops []::s) l is=V P R w0 ds os n h q s l is)
 /\ (∀P R w0 ds os n h q ops d op ty pos E g B s l is,V P R w0 ds os (n+1) h q (.o ops (⟨H d,op,ty,pos,E,g⟩::B)::s) l is=Yc ops l g h (λh=>As P w0 l is [] (kpb os) op h λG v h is=>V P R w0 ds os n h (G/\q) (.o ops B::s) (l.set d v) is) (λh=>V P R w0 ds os n h q (.o ops B::s) (l.set d undef) is) λk h j w=>dsT ops.toList j λt=>Xy (l.getD t undef) λb=>VG H P w0 is [] j w b t (λq h B I d v=>∀u:Nat->am,V P R w0 ds os n h q (.o ops B::s) ((Uw l I u).set d (.bool v)) is) (k+1) h q (⟨H d,op,ty,pos,E,g⟩::B) l [])
 /\ (∀P R w0 ds os n h q ops op ty pos E g B s l is,V P R w0 ds os (n+1) h q (.o ops (⟨X8,op,ty,pos,E,g⟩::B)::s) l is=Yc ops l g h (λh=>stV P l is os.isSome op h λG _ h is=>V P R w0 ds os n h (G/\q) (.o ops B::s) l is) (λh=>V P R w0 ds os n h q (.o ops B::s) l is) λ_ _ _ _=>False)
 /\ (∀P R w0 ds os n h q a b s l is,V P R w0 ds os (n+1) h q (.c (.seq a b)::s) l is=V P R w0 ds os n h q (.c a :: .c b::s) l is)
 /\ (∀P R w0 ds os n h q s l is,V P R w0 ds os (n+1) h q (.c .skip::s) l is=V P R w0 ds os n h q s l is)
 /\ (∀P R w0 ds os n h q i c s l is,V P R w0 ds os (n+1) h q (.c (.block i c)::s) l is=V P R w0 ds os n h q (.c c :: .b i::s) l is)
 /\ (∀P R w0 ds os n h q i s l is,V P R w0 ds os (n+1) h q (.c (.exit i)::s) l is=Si i s λs=>V P R w0 ds os n h q s l is)
 /\ (∀P R w0 ds n h q s l is,V P R w0 ds X8 (n+1) h q (.c .ret::s) l is=(q/\∀w,Mem w0 w is->R .ret (Fz l ds) w))/\(∀P R w0 ds C n h q s l is,V P R w0 ds (H (X7,C)) (n+1) h q (.c .ret::s) l is=(q/\∀w,Mem w0 w is->eR C w->R .ret (Fz l ds) w))/\(∀P R w0 ds C n h q s l is,V P R w0 ds (H (N,C)) (n+1) h q (.c .ret::s) l is=(q/\R .ret (Fz l ds) C))
 /\ (∀P R w0 ds os n h q x a b s l is,V P R w0 ds os (n+1) h q (.c (.cond x a b)::s) l is=Xy (ev l x) λt=>vbX t (V P R w0 ds os n h q (.c a::s) l is) (V P R w0 ds os n h q (.c b::s) l is))
 /\ (∀P R w0 ds os n h q i ops s l is,V P R w0 ds os (n+1) h q (.c (.region i (jh ops) X7)::s) l is=V P R w0 ds os n h q (.o ops.toArray ops::s) l is)
 /\ (∀ops l h p q r,Yc ops l X8 h p q r=p h)/\(∀ops l j b h p q r,Yc (jh ops) l (H (j,b)) (0::h) p q r=vvG (vyv ops l j) b (p h) (q h))/\(∀ops l j b k h p q r,Yc ops l (H (j,b)) ((k+1)::h) p q r=r k h j b)
 /\ (∀ops j f,dsT (jh ops).toList j f=dsT ops j f)/\(∀d op ty pos E g ops f,dsT (⟨H d,op,ty,pos,E,g⟩::ops) 0 f=f d)/\(∀o ops j f,dsT (o::ops) (j+1) f=dsT ops j f)
 /\ (∀P w0 is os j want b t K k h q d op ty pos E i w B l ds,VG H P w0 is os j want b t K (k+1) h q (⟨H d,op,ty,pos,E,H (i,w)⟩::B) l ds=Tj j i (vbE want w (Tj t d False (As P w0 l is os N op h λG v h _=>VG H P w0 is os j want b t K k h ((b=want->G)/\q) B (l.set d v) (d::ds)))) False)
 /\ (∀P w0 is os j want b t K k h q d i x y ty pos E B l ds,VG H P w0 is os j want b t K (k+1) h q (⟨H d,.pick (.tmp i) x y,ty,pos,E,X8⟩::B) l ds=Tj t i (pkG want b l x y λv=>K q h B ds d v) False)
 /\ (∀P w0 is os j want b t K k h q d op ty pos E i w B l ds,VG hdH P w0 is os j want b t K (k+1) h q ((⟨H d,op,ty,pos,E,H (i,w)⟩,N)::B) l ds=Tj j i (vbE want w (Tj t d False (As P w0 l is os N op h λG v h _=>VG hdH P w0 is os j want b t K k h ((b=want->G)/\q) B (l.set d v) (d::ds)))) False)
 /\ (∀P w0 is os j want b t K k h q d i x y ty pos E B l ds,VG hdH P w0 is os j want b t K (k+1) h q ((⟨H d,.pick (.tmp i) x y,ty,pos,E,X8⟩,N)::B) l ds=Tj t i (pkG want b l x y λv=>K q h B ds d v) False)
 /\ (∀p,vbE N N p=p)/\(∀p,vbE X7 X7 p=p)/\(∀b l x f,pkG N b l x (.const (.bool X7)) f=Xy (ev l x) λv=>f (b&&v))/\(∀b l y f,pkG X7 b l (.const (.bool N)) y f=Xy (ev l y) λv=>f (b||v))
 /\ (∀l u,Uw l [] u=l)/\(∀l d ds u,Uw l (d::ds) u=(Uw l ds u).set d (u d))
 /\ (∀p:Prop,(p->True)=True)/\(∀p [Decidable p],(decide p=N)=p)/\(∀p [Decidable p],(decide p=X7)=¬p)/\(∀a b:Bool,((a&&b)=N)=(a=N/\b=N))/\(∀a b:Bool,((a||b)=X7)=(a=X7/\b=X7))/\(∀a:Bool,((!a)=N)=(a=X7))/\(∀a:Bool,((!a)=X7)=(a=N))
 /\ (∀o ops l j,vyv (o::ops) l (j+1)=vyv ops l j)/\(∀d op ty pos E g ops l,vyv (⟨H d,op,ty,pos,E,g⟩::ops) l 0=l.getD d undef)
 /\ (∀p q,vvG (.bool N) N p q=p)/\(∀p q,vvG (.bool X7) N p q=q)/\(∀p q,vvG (.bool N) X7 p q=q)/\(∀p q,vvG (.bool X7) X7 p q=p)/\(∀b p q,vvG undef b p q=q)
 /\ (∀i s f,Si i (.b i::s) f=f s)/\(∀i j s f,Si i (.b j::s) f=Tj i j (f s) (Si i s f))/\(∀i c s f,Si i (.c c::s) f=Si i s f)/\(∀i ops B s f,Si i (.o ops B::s) f=Si i s f)/\(∀i K s f,Si i (.k K::s) f=Si i s f)/\(∀i c n s f,Si i (.r c n::s) f=Si i s f)
 /\ (∀P R w0 ds os n h q c k s l is,V P R w0 ds os (n+1) (k::h) q (.c (.loop c)::s) l is=V P R w0 ds os n h q (.r c k::s) l is)/\(∀P R w0 ds os n h q c k s l is,V P R w0 ds os (n+1) h q (.r c (k+1)::s) l is=V P R w0 ds os n h q (.c c :: .r c k::s) l is)
 /\ (∀p q,Tj 0 0 p q=p)/\(∀n m p q,Tj (n+1) (m+1) p q=Tj n m p q)/\(∀n p q,Tj (n+1) 0 p q=q)/\(∀n p q,Tj 0 (n+1) p q=q)
 /\ (∀k m f,sX (.int k m) f=f k m)/\(∀b f,Xy (.bool b) f=f b)/\(∀a f,vvP (.pointer (H a)) f=f a)/\(∀a n c f,vvS (.slice a n c) f=f a n c)/\(∀cs f,Xz (.agg (jh cs)) f=f cs)/\(∀cs f,vvT (.tuple (jh cs)) f=f cs)
 /\ (∀p q,vbX N p q=p)/\(∀p q,vbX X7 p q=q)/\(∀n p,vnX (n+1) p=p)
 /\ (∀x l f,Js (x::l) 0 f=f x)/\(∀x l n f,Js (x::l) (n+1) f=Js l n f)
 /\ (∀P w0 l is os D x h K,As P w0 l is os D (.move x) h K=K True (ev l x) h is)
 /\ (∀P w0 l is os D x h K,As P w0 l is os D (.assign x) h K=K True (ev l x) h is)
 /\ (∀P w0 l is os D x h K,As P w0 l is os D (.nilCheck x) h K=vvP (ev l x) λa=>K True (.pointer (H a)) h is)
 /\ (∀P w0 l is os D c x y h K,As P w0 l is os D (.pick c x y) h K=Xy (ev l c) λb=>vbX b (K True (ev l x) h is) (K True (ev l y) h is))
 /\ (∀P w0 l is os D b T x y T' h K,As P w0 l is os D (.binOp b T x y T') h K=biV P T b (ev l x) (ev l y) h is K)
 /\ (∀P w0 l is os D T x h K,As P w0 l is os D (.unOp .not T x) h K=Xy (ev l x) λb=>K True (.bool (!b)) h is)
 /\ (∀P w0 l is os D T x h K,As P w0 l is os D (.unOp .neg T x) h K=sX (ev l x) λk m=>K (InR k (0-m)) (.int k (0-m)) h is)
 /\ (∀P w0 l is os D T T' x h K,As P w0 l is os D (.convert T T' x) h K=Ar (ikP P T) λ_=>Ar (ikP P T') λk=>sX (ev l x) λ_ m=>K (InR k m) (.int k m) h is)
 /\ (∀P w0 l is os D x i h K,As P w0 l is os D (.extract x i) h K=vvT (ev l x) λcs=>Js cs i λv=>K True v h is)
 /\ (∀P w0 l is os D b xs ts h K,As P w0 l is os D (.call ⟨.builtin b,jh xs,jh ts⟩) h K=caV P l is b xs ts h K)
 /\ (∀P l is x T h K,caV P l is .len [x] [T] h K=Ar (yF P T) λ_=>vvS (ev l x) λ_ n _=>K True (U n) h is)
 /\ (∀P l is x y ts h K,caV P l is .min [x,y] ts h K=sX (ev l x) λk m=>sX (ev l y) λF n=>K (F=k) (.int k (if n<m then n else m)) h is)
 /\ (∀P l is x y ts h K,caV P l is .max [x,y] ts h K=sX (ev l x) λk m=>sX (ev l y) λF n=>K (F=k) (.int k (if m<n then n else m)) h is)
 /\ (∀P T x y h is K,biV P T .add x y h is K=sX x λk m=>sX y λF n=>K (F=k/\InR k (m+n)) (.int k (m+n)) h is)
 /\ (∀P T x y h is K,biV P T .sub x y h is K=sX x λk m=>sX y λF n=>K (F=k/\InR k (m-n)) (.int k (m-n)) h is)
 /\ (∀P T x y h is K,biV P T .mul x y h is K=sX x λk m=>sX y λF n=>K (F=k/\InR k (m*n)) (.int k (m*n)) h is)
 /\ (∀P T x y h is K,biV P T .lss x y h is K=sX x λk m=>sX y λF n=>cV h (m<n) (λp=>K (F=k/\p)) is)
 /\ (∀P T x y h is K,biV P T .leq x y h is K=sX x λk m=>sX y λF n=>cV h (m<=n) (λp=>K (F=k/\p)) is)
 /\ (∀P T x y h is K,biV P T .gtr x y h is K=sX x λk m=>sX y λF n=>cV h (n<m) (λp=>K (F=k/\p)) is)
 /\ (∀P T x y h is K,biV P T .geq x y h is K=sX x λk m=>sX y λF n=>cV h (n<=m) (λp=>K (F=k/\p)) is)
 /\ (∀P T x y h is K,biV P T .eql x y h is K=vvE x (λk m=>sX y λF n=>cV h (m=n) (λp=>K (F=k/\p)) is) λcs=>Xz y λus=>∃b,EqB P T cs us b/\K True (.bool b) h is)
 /\ (∀P T x y h is K,biV P T .neq x y h is K=vvE x (λk m=>sX y λF n=>cV h (m≠n) (λp=>K (F=k/\p)) is) λcs=>Xz y λus=>∃b,NeB P T cs us b/\K True (.bool b) h is)
 /\ (∀k m f g,vvE (.int k m) f g=f k m)/\(∀cs f g,vvE (.agg (jh cs)) f g=g cs)/\(∀p f g,vvE (pt p) f g=g [U p.x,U p.y,U p.z])/\(∀t f g,vvE (tr t) f g=g [U t.a.x,U t.a.y,U t.a.z,U t.b.x,U t.b.y,U t.b.z,U t.c.x,U t.c.y,U t.c.z])/\(∀e f g,vvE (ed e) f g=g [U e.1.x,U e.1.y,U e.1.z,U e.2.x,U e.2.y,U e.2.z])
 /\ (∀g,ldK g 0=∃p:Y,g (pt p))/\(∀g,ldK g 1=∃t:T3,g (tr t))/\(∀g,ldK g 2=∃z:Int,g (U z))/\(∀g,ldK g 3=∃b:Bool,g (.bool b))/\(∀g,ldK g 4=∃e:E3,g (ed e))/\(∀g,ldK g 5=∃n:Int,g (W n))/\(∀g,ldK g 6=∃v:am,g v)
 /\ (∀h p K is [Decidable p],cV (0::h) p K is=K True (.bool (decide p)) h is)/\(∀h p K is [Decidable p],cV (1::h) p K is=K p (.bool N) h is)/\(∀h p K is [Decidable p],cV (2::h) p K is=K (¬p) (.bool X7) h is)
 /\ (∀n,InR .i64 n=(-9223372036854775808<=n/\n<9223372036854775808))/\(∀n,InR .i32 n=(-2147483648<=n/\n<2147483648))/\(∀n,InR .u64 n=(0<=n/\n<18446744073709551616))/\(∀n,InR .u32 n=(0<=n/\n<4294967296))/\(∀n,InR .u8 n=(0<=n/\n<256))
 /\ (∀{α:Type} (L:α->Option Oper) P w0 is os ops K q B l,VQ L P w0 is os ops K 0 [] q B l=(q/\K B l))/\(∀P w0 is os ops K n h q d op ty pos E g B l,VQ H P w0 is os ops K (n+1) h q (⟨H d,op,ty,pos,E,g⟩::B) l=Yc ops l g h (λh=>As P w0 l is os N op h λG v h _=>VQ H P w0 is os ops K n h (G/\q) B (l.set d v)) (λh=>VQ H P w0 is os ops K n h q B (l.set d undef)) λk h j w=>dsT ops.toList j λt=>Xy (l.getD t undef) λb=>VG H P w0 is os j w b t (λq h B I d v=>∀u:Nat->am,VQ H P w0 is os ops K n h q B ((Uw l I u).set d (.bool v))) (k+1) h q (⟨H d,op,ty,pos,E,g⟩::B) l [])
 /\ (∀P w0 is os ops K n h q d op ty pos E g B l,VQ hdH P w0 is os ops K (n+1) h q ((⟨H d,op,ty,pos,E,g⟩,N)::B) l=Yc ops l g h (λh=>As P w0 l is os N op h λG v h _=>VQ hdH P w0 is os ops K n h (G/\q) B (l.set d v)) (λh=>VQ hdH P w0 is os ops K n h q B (l.set d undef)) λk h j w=>dsT ops.toList j λt=>Xy (l.getD t undef) λb=>VG hdH P w0 is os j w b t (λq h B I d v=>∀u:Nat->am,VQ hdH P w0 is os ops K n h q B ((Uw l I u).set d (.bool v))) (k+1) h q ((⟨H d,op,ty,pos,E,g⟩,N)::B) l [])
 /\ (∀(w:Bool×an),(H w).isSome=N)/\((X8:Kw).isSome=X7)/\(∀b w,kpb (H (b,w))=b)/\(kpb X8=X7)
 /\ (∀{α:Type} (x:α) f,Ar (H x) f=f x)/\(∀l ds,Fz l ds=Fr l ds)
 /\ (∀{α β:Type}(a:α)(b:β),(a,b).1=a)/\(∀{α β:Type}(a:α)(b:β),(a,b).2=b)
 /\ (∀p:Prop,(True/\p)=p)/\(∀p:Prop,(p/\True)=p)
 /\ (∀(l:List Go.Value)(t:Nat),ev l (.tmp t)=l.getD t undef)/\(∀(l:List Go.Value)(v:Go.Value),ev l (.const v)=v)/\(∀(l:List Go.Value)(f:Nat),ev l (.func f)=.func (.func f) #[] #[])/\(∀{α:Type}(x:α)(xs:List α)(n:Nat)(d:α),(x::xs).getD (n+1) d=xs.getD n d)/\(∀{α:Type}(x:α)(xs:List α)(d:α),(x::xs).getD 0 d=x)/\(∀{α:Type}(x:α)(xs:List α)(n:Nat)(a:α),(x::xs).set (n+1) a=x::xs.set n a)/\(∀{α:Type}(x:α)(xs:List α)(a:α),(x::xs).set 0 a=a::xs)
 /\ (∀P w0 l is os D T x i h K,As P w0 l is os D (.fieldAddr T x i) h K=Ar (lG P T i) λf=>vvP (ev l x) λa=>vnX f.2.2 (K True (.pointer (H (a.add f.1))) h is))
 /\ (∀P w0 l is os D T x i h K,As P w0 l is os D (.field T x i) h K=Ar (lG P T i) λf=>Xz (ev l x) λcs=>vbX f.2.1 (K True (.agg ((cs.drop f.1).take f.2.2).toArray) h is) (Js cs f.1 λv=>K True v h is))
 /\ (∀P w0 l is os D T x k h K,As P w0 l is os D (.load T x) (0::k::h) K=vvP (ev l x) λa=>ldK (λv=>(∀w,Mem w0 w is->eZ P w T a v)/\K True v h is) k)/\(∀P w0 l is os D T x k h K,As P w0 l is os D (.load T x) ((k+1)::h) K=Ar (sY P T) λz=>vvP (ev l x) λa=>atB is os k λg=>vbX z.1 (K (a=⟨g.1,a.off,X8⟩/\Fh ((g.2.1.drop a.off).take z.2) z.2) (.agg ((g.2.1.drop a.off).take z.2).toArray) h is) (Js g.2.1 a.off λv=>K (a=⟨g.1,a.off,X8⟩) v h is))
 /\ (∀P w0 l is os D T ps h K,As P w0 l is os D (.build T (jh ps)) h K=Ar (wY P T) λz=>blV l z.1 ps z.2 True λq cs=>K q (.agg cs.toArray) h is)
 /\ (∀l J cs q f,blV l J [] cs q f=f q cs)/\(∀l J i x ps cs q f,blV l J ((i,x)::ps) cs q f=Yb J i λz=>vnX z.2 (blV l J ps (over cs z.1 (ev l x).cells.toList) (Fh (ev l x).cells.toList z.2/\Fh ((cs.drop z.1).take z.2) z.2/\q) f))
 /\ (∀x l f,Yb (x::l) 0 f=f x)/\(∀x l n f,Yb (x::l) (n+1) f=Yb l n f)
 /\ (∀P w0 l is os T x h K,As P w0 l is os X7 (.box T x) h K=∀g,K True (.pointer (H ⟨g,0,X8⟩)) h (bI g (ev l x).cells.toList T::is))
 /\ (∀P w0 l is os T h K,As P w0 l is os X7 (.alloc T) h K=Ar (Lm P T) λz=>∀g,K True (.pointer (H ⟨g,0,X8⟩)) h (bI g z T::is))
 /\ (∀P l is T x y k h K,stV P l is X7 (.store T x y) (k::h) K=Ar (sY P T) λz=>vnX z.2 (vvP (ev l x) λa=>atM is k λg=>K (a=⟨g.1,a.off,X8⟩/\Fh ((g.2.1.drop a.off).take z.2) z.2/\Fh (ev l y).cells.toList z.2/\acy (ev l y).cells.toList) undef h (is.set k (bI g.1 (over g.2.1 a.off (ev l y).cells.toList) g.2.2))))
 /\ (∀P w0 l is os D T x y h K,As P w0 l is os D (.indexAddr T x y) h K=Ar (Ej P T) λz=>vvX z.1 (ev l x) λa n=>sX (ev l y) λ_ m=>K (0<=m/\m<n) (.pointer (H (a.add (m.toNat*z.2)))) h is)
 /\ (∀n v f,vvX (H n) v f=vvP v λa=>f a n)/\(∀v f,vvX X8 v f=vvS v λA n _=>Ar A λa=>f a n)
 /\ (∀bs i is,pS (N::bs) (i::is)=i::pS bs is)/\(∀bs i is,pS (X7::bs) (i::is)=pS bs is)/\(∀is,pS [] is=[])
 /\ (∀i is os f,atB (i::is) os 0 f=Ar i.bk f)/\(∀i is os k f,atB (i::is) os (k+1) f=atB is os k f)/\(∀os k f,atB [] os k f=atO os k f)/\(∀x os f,atO (x::os) 0 f=f x)/\(∀x os k f,atO (x::os) (k+1) f=atO os k f)
 /\ (∀i is f,atM (i::is) 0 f=Ar i.bk f)/\(∀i is k f,atM (i::is) (k+1) f=atM is k f)/\(∀g cs t,(bI g cs t).bk=H (g,cs,t))
 /\ (∀x l n,Fh (x::l) (n+1)=Fh l n)/\(Fh [] 0=True)/\(∀v l,acy (v::l)=(v.oneCell'=N/\acy l))/\(acy []=True)
 /\ (∀g n,(⟨g,0,X8⟩:Addr).add n=⟨g,n,X8⟩)/\(∀g o n,(⟨g,o,X8⟩:Addr).add n=⟨g,o+n,X8⟩)
 /\ (∀cs o us,over cs o us=cs.take o++us++cs.drop (o+us.length))
 /\ (∀cs,(Value.agg (jh cs)).cells.toList=cs)/\(∀k n,(ky k n).cells.toList=[.int k n])/\(∀b,(Value.bool b).cells.toList=[.bool b])/\(∀b,(Value.string b).cells.toList=[.string b])/\(∀a,(Value.pointer a).cells.toList=[.pointer a])/\(∀a n c,(Value.slice a n c).cells.toList=[.slice a n c])/\(∀a,(Value.map a).cells.toList=[.map a])/\(∀a b c,(Value.func a b c).cells.toList=[.func a b c])
 /\ (∀k n,(ky k n).oneCell'=N)/\(∀b,(Value.bool b).oneCell'=N)/\(∀b,(Value.string b).oneCell'=N)/\(∀a,(Value.pointer a).oneCell'=N)/\(∀a n c,(Value.slice a n c).oneCell'=N)/\(∀a,(Value.map a).oneCell'=N)/\(∀a b c,(Value.func a b c).oneCell'=N)
 /\ (∀{α:Type}(x:α)(xs:List α)(n:Nat),(x::xs).take (n+1)=x::xs.take n)/\(∀{α:Type}(xs:List α),xs.take 0=[])/\(∀{α:Type}(x:α)(xs:List α)(n:Nat),(x::xs).drop (n+1)=xs.drop n)/\(∀{α:Type}(xs:List α),xs.drop 0=xs)/\(∀{α:Type}(n:Nat),([]:List α).drop n=[])/\(∀{α:Type}(x:α)(xs ys:List α),(x::xs)++ys=x::(xs++ys))/\(∀{α:Type}(ys:List α),[]++ys=ys)/\(∀{α:Type}(ys:List α),ys++[]=ys)/\(∀{α:Type}(x:α)(xs:List α),(x::xs).length=xs.length+1)/\(∀{α:Type},([]:List α).length=0)
 /\ (∀p:Y,(pt p).cells.toList=[U p.x,U p.y,U p.z])/\(∀p f,Xz (pt p) f=f [U p.x,U p.y,U p.z])
 /\ (∀t:T3,(tr t).cells.toList=[U t.a.x,U t.a.y,U t.a.z,U t.b.x,U t.b.y,U t.b.z,U t.c.x,U t.c.y,U t.c.z])/\(∀t f,Xz (tr t) f=f [U t.a.x,U t.a.y,U t.a.z,U t.b.x,U t.b.y,U t.b.z,U t.c.x,U t.c.y,U t.c.z])
 /\ (∀v:Y,(wv v).cells.toList=[.bool (cQ v.x),.string (dQ v.x),.bool (cQ v.y),.string (dQ v.y),.bool (cQ v.z),.string (dQ v.z)])/\(∀v f,Xz (wv v) f=f [.bool (cQ v.x),.string (dQ v.x),.bool (cQ v.y),.string (dQ v.y),.bool (cQ v.z),.string (dQ v.z)])
 /\ (∀v:Y,(nv v).cells.toList=[U v.x,U v.y,U v.z])/\(∀v f,Xz (nv v) f=f [U v.x,U v.y,U v.z])
 /\ (∀v:Y,(sg v).cells.toList=[U (bV v.x),U (bV v.y),U (bV v.z)])/\(∀v f,Xz (sg v) f=f [U (bV v.x),U (bV v.y),U (bV v.z)])
 /\ (∀e:E3,(ed e).cells.toList=[U e.1.x,U e.1.y,U e.1.z,U e.2.x,U e.2.y,U e.2.z])/\(∀e f,Xz (ed e) f=f [U e.1.x,U e.1.y,U e.1.z,U e.2.x,U e.2.y,U e.2.z])
 /\ (∀p,kS p=[U p.x,U p.y,U p.z])/\(∀p,cM p=[U p.x,U p.y,U p.z])/\(∀e,dE e=[U e.1.x,U e.1.y,U e.1.z,U e.2.x,U e.2.y,U e.2.z])/\(∀n,wC n=[.bool (cQ n),.string (dQ n)])
 /\ (∀n,(W n).cells.toList=[.bool (cQ n),.string (dQ n)])/\(∀n f,Xz (W n) f=f [.bool (cQ n),.string (dQ n)])
 /\ (∀q:Rat,(Q q).cells.toList=[.bool (cQ q.num),.string (dQ q.num),.bool (cQ (q.den:Int)),.string (dQ (q.den:Int))])/\(∀q f,Xz (Q q) f=f [.bool (cQ q.num),.string (dQ q.num),.bool (cQ (q.den:Int)),.string (dQ (q.den:Int))]):=by
 repeat' apply And.intro
 all_goals intros
 all_goals first|rfl|exact X2 decide_eq_true_iff|exact X2 Y7|exact X2 (by simp)|(rename_i op _ _ _ _ _ _ _ _;cases op<;>rfl)|exact aqP|exact aqY|exact X6 _|exact Y8 _|exact kp0|exact kp1|exact List.drop_nil|exact fw _|exact (cA ..).trans (by rw[ae])|exact cA ..
def Dz:List Oper->Nat->(Oper->Prop)->Prop
 |o::_,0,f=>f o
 |_::r,n+1,f=>Dz r n f
 | [],_,_=>False
def Ce:List (List Nat)->Nat->(List Nat->Prop)->Prop
 |s::_,0,f=>f s
 |_::r,n+1,f=>Ce r n f
 | [],_,f=>f []
def vF:∀{ss:List (List Nat)} {i:Nat} {f:List Nat->Prop},Ce ss i f->∃s,f s
 |s::_,0,_,h=>⟨s,h⟩
 |_::r,n+1,_,h=>vF (ss:=r) h
 | [],_,_,h=>⟨[],h⟩
def Vd(op:Op)(bs:List Bool):List Bool:=match op with
 |.box _ _|.alloc _=>X7::bs
 |_=>bs
def Qk:List Bool->Nat->Prop->Prop
 |false::_,0,p=>p
 |_::bs,n+1,p=>Qk bs n p
 |_,_,_=>False
def tkV(P:B)(w0:an)(ops:Array Oper)(l:List am)(b:List It)(o:Oper)(a:List Nat)(q:Prop)(K:List Nat->Prop->List am->Prop):Prop:=match o with
 |⟨H d,op,_,_,_,g⟩=>Yc ops l g a (λa=>As P w0 l b [] N op a λc v a _=>K a (c/\q) (l.set d v)) (λa=>K a q (l.set d undef)) λ_ _ _ _=>False
 |_=>False
def onV(P:B)(w0:an)(ops:Array Oper)(l:List am)(is:List It)(bs:List Bool)(o:Oper)(a:List Nat)(q:Prop)(K:List Nat->Prop->List am->List It->List Bool->Prop):Prop:=match o with
 |⟨H d,op,_,_,_,g⟩=>Yc ops l g a (λa=>As P w0 l is [] X7 op a λb v a c=>K a (b/\q) (l.set d v) c (Vd op bs)) (λa=>K a q (l.set d undef) is bs) λ_ _ _ _=>False
 |⟨X8,op,_,_,_,g⟩=>Yc ops l g a (λa=>Qk bs (a.headD 0) (stV P l is X7 op a λb _ a c=>K a (b/\q) l c bs)) (λa=>K a q l is bs) λ_ _ _ _=>False
def VT(P:B)(w0:an)(ops:Array Oper)(b:List It)(ss:List (List Nat))(K:List am->List It->Prop):pZ->Prop->List am->List It->List Bool->Prop
 |.nil,q,l,is,_=>q/\K l is
 |.take i t,q,l,is,bs=>Dz ops.toList i λo=>Ce ss i λa=>tkV P w0 ops l b o a q λ_ q l=>VT P w0 ops b ss K t q l is bs
 |.one i t,q,l,is,bs=>Dz ops.toList i λo=>Ce ss i λa=>onV P w0 ops l is bs o a q λ_ q l is bs=>VT P w0 ops b ss K t q l is bs
 |.two i t j u,q,l,is,bs=>(Dz ops.toList i λo=>Ce ss i λa=>onV P w0 ops l is bs o a q λ_ q l is bs=>VT P w0 ops b ss K t q l is bs)/\Dz ops.toList j λo=>Ce ss j λa=>onV P w0 ops l is bs o a q λ_ q l is bs=>VT P w0 ops b ss K u q l is bs
 |.three i t j u k v,q,l,is,bs=>(Dz ops.toList i λo=>Ce ss i λa=>onV P w0 ops l is bs o a q λ_ q l is bs=>VT P w0 ops b ss K t q l is bs)/\(Dz ops.toList j λo=>Ce ss j λa=>onV P w0 ops l is bs o a q λ_ q l is bs=>VT P w0 ops b ss K u q l is bs)/\Dz ops.toList k λo=>Ce ss k λa=>onV P w0 ops l is bs o a q λ_ q l is bs=>VT P w0 ops b ss K v q l is bs
def vG:∀{ops:List Oper}{i:Nat}{f:Oper->Prop},Dz ops i f->∃o,ops[i]? = H o/\f o
 |o::_,0,_,h=>⟨o,rfl,h⟩
 |_::r,n+1,_,h=>by rw[gu];exact vG (ops:=r) h
def Yr:∀{bs:List Bool}{k:Nat}{p:Prop},Qk bs k p->bs[k]? = H X7/\p
 |false::_,0,_,h=>⟨rfl,h⟩
 |true::_,0,_,h=>h.elim
 |false::bs,n+1,_,h=>by rw[gu];exact Yr (bs:=bs) h
 |true::bs,n+1,_,h=>by rw[gu];exact Yr (bs:=bs) h
 | [],0,_,h=>h.elim
 | [],_+1,_,h=>h.elim
def Ql:∀{bs:List Bool}{is:List It}{k:Nat}{i:It},bs[k]? = H X7->pS bs (is.set k i)=pS bs is
 |false::bs,_::is,0,_,_=>rfl
 |true::bs,_::is,0,_,h=>by cases h
 |true::bs,j::is,k+1,i,h=>by
  rw[e];show j::pS bs (is.set k i)=j::pS bs is
  rw[Ql (by simpa using h)]
 |false::bs,j::is,k+1,i,h=>by
  rw[e];show pS bs (is.set k i)=pS bs is
  exact Ql (by simpa using h)
 |_,[],k,i,_=>by rw[List.set_nil]
 | [],_::_,_,_,h=>by cases h
section
variable{P:B}{w0:an}{ds:List d_}{ops:Array Oper}{hs:List It}{K:List am->List It->Prop}{Q:Exit->Act->an->Prop}
def aoX{p:Prop}(h:n=m+1)(a:p):vnX n p:=by subst h;exact a
def aoY{l:List am}{is:List It}{b:List Nat}{K:KV}(h:stV P l is X7 op b K):∃r,stV P l is X7 op b (λs v t d=>d=is.set (b.headD 0) r/\K s v t d):=by
 unfold stV at h ⊢;split at h
 . rename_i T x y k b
   obtain⟨z,q,h⟩:=pI (show Ar _ _ from h);obtain⟨n,o,h⟩:=Ye h;obtain⟨a,p,h⟩:=Fj h;obtain⟨i,g,m,e,h⟩:=acA h;refine⟨bI g.1 (over g.2.1 a.off (ev l y).cells.toList) g.2.2,?_⟩;refine (show Ar (sY P T) _ from ?_);rw[q];refine (show vnX z.2 _ from aoX o ?_);rw[p];refine (show atM is k _ from ?_);have key:∀{is:List It}{k:Nat}{f:Ob->Prop},is[k]? = H i->f g->atM is k f:=by
    intro is
    induction is with
    |nil=>intro k f h;cases h
    |cons j is ih=>
     intro k f h c;cases k with
     |zero=>cases h;show Ar i.bk f;rw[e];exact c
     |succ k=>exact ih (by simpa using h) c
   exact key m ⟨O,h⟩
 exact h.elim
def aoZ{l:List am}{is:List It}{os:List Ob}{f:List Nat}{K:KV}(h:As P w0 l is os X7 op f K):(∃cs T,(∀g,K True (.pointer (H ⟨g,0,X8⟩)) f (bI g cs T::is))/\Bx P l is w0 ds op cs T/\∀bs,Vd op bs=X7::bs)\/(As P w0 l is os N op f K/\∀bs,Vd op bs=bs):=by
 cases op
 case box T x=>exact .inl ⟨_,_,h,λd ty pos i ops Q o w m c=>zZ (by simp) λu g e b a=>c g u e (m.newB e b a),λ_=>rfl⟩
 case alloc T=>
  obtain⟨cs,n,h⟩:=pI (show Ar _ _ from h);obtain⟨z,j,k⟩:=Ya n;exact .inl ⟨_,_,h,λd ty pos i ops Q o w m c=>kX j k λu g e b a=>c g u e (m.newB e b a),λ_=>rfl⟩
 case unOp u T x=>cases u<;>exact .inr ⟨h,λ_=>rfl⟩
 all_goals exact .inr ⟨h,λ_=>rfl⟩
def Kb{l:List am}{is:List It}{bs:List Bool}{o:Oper}{i:Nat}{t:pZ}{k:List Nat}{q:Prop}{G:List Nat->Prop->List am->List It->List Bool->Prop}(c:pS bs is=hs)(B:ops.toList[i]? = H o)(h:onV P w0 ops l is bs o k q G)
 (ih:∀k q l is bs,pS bs is=hs->G k q l is bs->q/\∀w,Mem w0 w is->cP P ops (λu=>Mem w0 u hs) Q t (Fr l ds) w) :
 q/\∀w,Mem w0 w is->be P ops (Exit.then (λa w=>Mem w0 w hs/\cP P ops (λu=>Mem w0 u hs) Q t a w) Q) [(ops[i]?).getD default] (Fr l ds) w:=by
 have F:(ops[i]?).getD default=o:=by
  rw[<-ia,B];rfl
 rw[F];have p:∀{E:List Bool}{z:List It}{w:an},pS E z=hs->Mem w0 w z->Mem w0 w hs:=λe m=>e▸m.sel _;obtain⟨d,op,ty,pos,A,g⟩:=o;cases d with
 |some d=>
  simp only[onV] at h;rcases Jt h with ⟨k,h,b⟩|⟨k,h,b⟩|⟨_,_,_,_,_,h⟩
  . rcases aoZ (w0:=w0) (ds:=ds) h with ⟨cs,T,h,r,s⟩|⟨h,s⟩
    . rw[s] at h
      have e:∀g,pS (X7::bs) (bI g cs T::is)=hs:=λ_=>c;exact⟨(ih _ _ _ _ _ (e 0) (h 0)).1.2,λw m=>nH (b _ _ _ _ _) (r d ty pos A ops _ [] w m λg u _ n=>S ⟨p (e g) n,(ih _ _ _ _ _ (e g) (h g)).2 u n⟩)⟩
    rcases Pw (ds:=ds) Uz h with ⟨D,v,I,h,y⟩|⟨e,_⟩
    . rw[s] at h
      obtain⟨⟨x,j⟩,f⟩:=ih _ _ _ _ _ c h;exact⟨j,λw m=>nH (b _ _ _ _ _) (pV (y x w m ty) (S ⟨p c m,f w m⟩))⟩
    cases e
  . obtain⟨j,f⟩:=ih _ _ _ _ _ c h
    exact⟨j,λw m=>rW (b _ _ _ _ _) (by rw[iK];exact S ⟨p c m,f w m⟩)⟩
  exact h.elim
 |none=>
  simp only[onV] at h;rcases Jt h with ⟨k,h,b⟩|⟨k,h,b⟩|⟨_,_,_,_,_,h⟩
  . obtain⟨r,h⟩:=Yr h
    obtain⟨C,h⟩:=aoY h;obtain⟨_,D,I,z,⟨rfl,h⟩,y⟩:=ahL (w0:=w0) (ds:=ds) h;have e:=(Ql (i:=C) (is:=is) r).trans c;obtain⟨⟨x,j⟩,f⟩:=ih _ _ _ _ _ e h;exact⟨j,λw m=>nH (b _ _ _ _ _) (y x ty pos A ops _ [] w m λu n=>S ⟨p e n,f u n⟩)⟩
  . obtain⟨j,f⟩:=ih _ _ _ _ _ c h
    exact⟨j,λw m=>rW (b _ _ _ _ _) (S ⟨p c m,f w m⟩)⟩
  exact h.elim
def Hs{ss:List (List Nat)}(f:∀l is,K l is->∀w,Mem w0 w is->Q .normal (Fr l ds) w):∀(t:pZ)(q:Prop)(l:List am)(is:List It)(bs:List Bool),pS bs is=hs->VT P w0 ops hs ss K t q l is bs->q/\∀w,Mem w0 w is->cP P ops (λu=>Mem w0 u hs) Q t (Fr l ds) w
 |.nil,q,l,is,bs,_,h=>⟨h.1,λw m=>f _ _ h.2 w m⟩
 |.take i t,q,l,is,bs,c,h=>by
  obtain⟨⟨d,op,ty,pos,D,g⟩,p,h⟩:=vG h;obtain⟨n,h⟩:=vF h;have C:(ops[i]?).getD default=⟨d,op,ty,pos,D,g⟩:=by
   rw[<-ia,p];rfl
  cases d with
  |none=>exact h.elim
  |some d=>
   simp only[tkV] at h;rcases Jt h with ⟨n,h,z⟩|⟨n,h,z⟩|⟨_,_,_,_,_,h⟩
   . rcases Pw (w0:=w0) (ds:=ds) Uz h with ⟨S,v,T,h,F⟩|⟨e,_⟩
     . obtain⟨⟨E,y⟩,x⟩:=Hs f t _ _ _ _ c h
       refine⟨y,λw m=>dG C ?_⟩;refine⟨v,.inl ⟨z _ _ _ _ _,λu G=>F E u G ty _ O O⟩,?_⟩;show cP P ops _ Q t ((Fr l ds).put (H d) v) w
       rw[iK];exact x w m
     cases e
   . obtain⟨y,x⟩:=Hs f t _ _ _ _ c h
     refine⟨y,λw m=>dG C ?_⟩;refine⟨undef,.inr ⟨z _ _ _ _ _,O⟩,?_⟩;show cP P ops _ Q t ((Fr l ds).put (H d) undef) w
     rw[iK];exact x w m
   exact h.elim
 |.one i t,q,l,is,bs,c,h=>by
  obtain⟨o,p,h⟩:=vG h;obtain⟨n,h⟩:=vF h;exact Kb c p h λn q l is bs e h=>Hs f t q l is bs e h
 |.two i t j u,q,l,is,bs,c,h=>by
  obtain⟨a,b⟩:=h;obtain⟨o,p,a⟩:=vG a;obtain⟨_,a⟩:=vF a;obtain⟨I,B,b⟩:=vG b;obtain⟨_,b⟩:=vF b;have s:=Kb (Q:=Q) (t:=t) c p a λn q l is bs e h=>Hs f t q l is bs e h;have A:=Kb (Q:=Q) (t:=u) c B b λn q l is bs e h=>Hs f u q l is bs e h;exact⟨s.1,λw m=>⟨s.2 w m,A.2 w m⟩⟩
 |.three i t j u k v,q,l,is,bs,c,h=>by
  obtain⟨a,b,r⟩:=h;obtain⟨o,p,a⟩:=vG a;obtain⟨_,a⟩:=vF a;obtain⟨I,B,b⟩:=vG b;obtain⟨_,b⟩:=vF b;obtain⟨M,L,r⟩:=vG r;obtain⟨_,r⟩:=vF r;have s:=Kb (Q:=Q) (t:=t) c p a λn q l is bs e h=>Hs f t q l is bs e h;have A:=Kb (Q:=Q) (t:=u) c B b λn q l is bs e h=>Hs f u q l is bs e h;have J:=Kb (Q:=Q) (t:=v) c L r λn q l is bs e h=>Hs f v q l is bs e h;exact⟨s.1,λw m=>⟨s.2 w m,A.2 w m,J.2 w m⟩⟩
end
def zvt{P:B}{w0 w:an}{ds:List d_}{s:List Ko}{R:Exit->Act->an->Prop}{is:List It}{id:Nat}{l0:List am}{l:List Oper}(bs:List Bool)(ss:List (List Nat))(t:pZ)(m:Mem w0 w is)(f:P.follows .mixedOrders=N)(b:(Region.noSelect l.toArray&&t.ok .any l.toArray l.toArray.size (Array.replicate l.toArray.size X7))=N)
 (e:∀c d v a w,Ct P R s (.panic c) (Act.put a d v) w->Ct P R s (.panic c) a w)
 (h:VT P w0 l.toArray (pS bs is) ss (λl is=>∀w,Mem w0 w is->Ct P R s .normal (Fz l ds) w) t True l0 is bs):(Code.region id l.toArray N).wp P (Ct P R s) (Fr l0 ds) w:=
 Oz m bs t f b e λ_ g=>(Hs (λ_ _ h=>h) t True l0 is bs rfl h).2 _ g
def als{ops i a f}(h:i=a):Dz ops i f=Dz ops a f:=by rw[h]
def alt{ss i a f}(h:i=a):Ce ss i f=Ce ss a f:=by rw[h]
def alu{bs a k p}(h:bs=a):Qk bs k p=Qk a k p:=by rw[h]
def ao0{P w0 ops l b a o c q K}(h:l=b):tkV P w0 ops l a o c q K=tkV P w0 ops b a o c q K:=by rw[h]
def ao1{P w0 ops l a is bs o b q K}(h:l=a):onV P w0 ops l is bs o b q K=onV P w0 ops a is bs o b q K:=by rw[h]
def aqZ{P w0 ops a ss K t q l b is bs}(h:l=b):VT P w0 ops a ss K t q l is bs=VT P w0 ops a ss K t q b is bs:=by rw[h]
def ao2{b:Bool}{bs:List Bool}{p:Prop}:Qk (b::bs) (n+1) p=Qk bs n p:=by cases b<;>rfl
def zzu:(∀o r f,Dz (o::r) 0 f=f o)/\(∀o r n f,Dz (o::r) (n+1) f=Dz r n f)
 /\ (∀s r f,Ce (s::r) 0 f=f s)/\(∀s r n f,Ce (s::r) (n+1) f=Ce r n f)/\(∀n f,Ce [] n f=f [])
 /\ (∀T x bs,Vd (.box T x) bs=X7::bs)/\(∀T bs,Vd (.alloc T) bs=X7::bs)/\(∀x bs,Vd (.move x) bs=bs)/\(∀x bs,Vd (.assign x) bs=bs)/\(∀x bs,Vd (.nilCheck x) bs=bs)/\(∀a b c bs,Vd (.pick a b c) bs=bs)/\(∀a b c d e bs,Vd (.binOp a b c d e) bs=bs)/\(∀a b c bs,Vd (.unOp a b c) bs=bs)/\(∀a b c bs,Vd (.convert a b c) bs=bs)/\(∀a b c bs,Vd (.fieldAddr a b c) bs=bs)/\(∀a b c bs,Vd (.field a b c) bs=bs)/\(∀a b c bs,Vd (.indexAddr a b c) bs=bs)/\(∀a b bs,Vd (.build a b) bs=bs)/\(∀a b bs,Vd (.extract a b) bs=bs)/\(∀a b bs,Vd (.load a b) bs=bs)/\(∀a bs,Vd (.call a) bs=bs)
 /\ (∀bs p,Qk (X7::bs) 0 p=p)/\(∀b bs n p,Qk (b::bs) (n+1) p=Qk bs n p)/\(∀(k:Nat) m,List.headD (k::m) 0=k)
 /\ (∀P w0 ops l w d op ty pos y g m q K,tkV P w0 ops l w ⟨H d,op,ty,pos,y,g⟩ m q K=Yc ops l g m (λm=>As P w0 l w [] N op m λz v m _=>K m (z/\q) (l.set d v)) (λm=>K m q (l.set d undef)) λ_ _ _ _=>False)
 /\ (∀P w0 ops l is bs d op ty pos y g m q K,onV P w0 ops l is bs ⟨H d,op,ty,pos,y,g⟩ m q K=Yc ops l g m (λm=>As P w0 l is [] X7 op m λz v m A=>K m (z/\q) (l.set d v) A (Vd op bs)) (λm=>K m q (l.set d undef) is bs) λ_ _ _ _=>False)
 /\ (∀P w0 ops l is bs op ty pos y g k m q K,onV P w0 ops l is bs ⟨X8,op,ty,pos,y,g⟩ (k::m) q K=Yc ops l g (k::m) (λm=>Qk bs (m.headD 0) (stV P l is X7 op m λz _ m A=>K m (z/\q) l A bs)) (λm=>K m q l is bs) λ_ _ _ _=>False)
 /\ (∀P w0 ops w ss K q l is bs,VT P w0 ops w ss K .nil q l is bs=(q/\K l is))
 /\ (∀P w0 ol w ss K i t q l is bs,VT P w0 (jh ol) w ss K (.take i t) q l is bs=Dz ol i λo=>Ce ss i λm=>tkV P w0 ol.toArray l w o m q λ_ q l=>VT P w0 ol.toArray w ss K t q l is bs)
 /\ (∀P w0 ol w ss K i t q l is bs,VT P w0 (jh ol) w ss K (.one i t) q l is bs=Dz ol i λo=>Ce ss i λm=>onV P w0 ol.toArray l is bs o m q λ_ q l is bs=>VT P w0 ol.toArray w ss K t q l is bs)
 /\ (∀P w0 ol w ss K i t j u q l is bs,VT P w0 (jh ol) w ss K (.two i t j u) q l is bs=(VT P w0 ol.toArray w ss K (.one i t) q l is bs/\VT P w0 ol.toArray w ss K (.one j u) q l is bs))
 /\ (∀P w0 ol w ss K i t j u k v q l is bs,VT P w0 (jh ol) w ss K (.three i t j u k v) q l is bs=(VT P w0 ol.toArray w ss K (.one i t) q l is bs/\VT P w0 ol.toArray w ss K (.one j u) q l is bs/\VT P w0 ol.toArray w ss K (.one k v) q l is bs))
 /\ (∀p:Prop,(p/\p)=p)/\(∀p q r:Prop,((p/\r)/\(q/\r))=((p/\q)/\r)):=by
 repeat' apply And.intro
 all_goals intros
 all_goals first|rfl|exact ao2|exact and_self _|exact X2 ⟨λh=>⟨⟨h.1.1,h.2.1⟩,h.1.2⟩,λh=>⟨⟨h.1.1,h.2⟩,h.1.2,h.2⟩⟩
attribute [congr] ase aoj aok aol aom aon aqM aos aot aou aov aow aox aoy aoz aoA aoB aoC alg alh aoD aoE aoG aoH aoI aqO aoF aqN als alt alu ao0 ao1 aqZ aoo aqL aop aoq aor
end
end Go.Lith
namespace Go.Proofs.YtbbokjbcdkgfgaaGreatDoor
open Go.Proofs.Tryz
open Go.RowKit Go.Lith
set_option maxRecDepth 100000
section
variable{x0 y0 x1 y1 x2 y2 x3 y3 x4 y4 x5 y5 x6 y6 x7 y7 x8 y8:Int}
def dN:sY X9 3=H (X7,1):=by kernel_rfl
def Ml:ikP X9 3=H .i64:=by kernel_rfl
def Fo:sY X9 4=H (X7,1):=by kernel_rfl
def An:ikP X9 5=H .u8:=by kernel_rfl
def acL:sY X9 9=H (X7,1):=by kernel_rfl
def Ek:sY X9 22=H (X7,1):=by kernel_rfl
def gG:yF X9 22=H 3:=by kernel_rfl
def lV:Ej X9 22=H (X8,1):=by kernel_rfl
def Lo:Ej X9 23=H (H 4,1):=by kernel_rfl
def amY:ikP X9 24=H .u32:=by kernel_rfl
def ah8:yF X9 26=H 44:=by kernel_rfl
def aq0:Ej X9 26=H (X8,1):=by kernel_rfl
def lP:sY X9 28=H (X7,1):=by kernel_rfl
def El:yF X9 28=H 65:=by kernel_rfl
def sB:Ej X9 28=H (X8,3):=by kernel_rfl
def oA:sY X9 29=H (X7,1):=by kernel_rfl
def Ae:yF X9 29=H 70:=by kernel_rfl
def Lp:Ej X9 29=H (X8,8):=by kernel_rfl
def jI:sY X9 31=H (N,2):=by kernel_rfl
def aaV:Lm X9 31=H [.slice X8 0 0,.slice X8 0 0]:=by kernel_rfl
def gH:lG X9 31 0=H (0,X7,1):=by kernel_rfl
def jH:lG X9 31 1=H (1,X7,1):=by kernel_rfl
def Lr:sY X9 34=H (X7,1):=by kernel_rfl
def amZ:yF X9 34=H 4:=by kernel_rfl
def Ve:Ej X9 34=H (X8,1):=by kernel_rfl
def aaW:yF X9 35=H 4:=by kernel_rfl
def wZ:Ej X9 35=H (X8,1):=by kernel_rfl
def cB:sY X9 37=H (N,2):=by kernel_rfl
def eX:Lm X9 37=H [.bool X7,.string ⟨#[]⟩]:=by kernel_rfl
def mC:lG X9 37 0=H (0,X7,1):=by kernel_rfl
def yJ:lG X9 37 1=H (1,X7,1):=by kernel_rfl
def Ag:wY X9 37=H ([(0,1),(1,1)],[.bool X7,.string ⟨#[]⟩]):=by kernel_rfl
def aW:sY X9 41=H (N,3):=by kernel_rfl
def gC:Lm X9 41=H [U 0,U 0,U 0]:=by kernel_rfl
def iR:lG X9 41 0=H (0,X7,1):=by kernel_rfl
def iJ:lG X9 41 1=H (1,X7,1):=by kernel_rfl
def iS:lG X9 41 2=H (2,X7,1):=by kernel_rfl
def adZ:wY X9 41=H ([(0,1),(1,1),(2,1)],[U 0,U 0,U 0]):=by kernel_rfl
def fM:sY X9 43=H (N,9):=by kernel_rfl
def uE:Lm X9 43=H [U 0,U 0,U 0,U 0,U 0,U 0,U 0,U 0,U 0]:=by kernel_rfl
def cD:Ej X9 43=H (H 3,3):=by kernel_rfl
def Ah:wY X9 43=H ([(0,3),(3,3),(6,3)],[U 0,U 0,U 0,U 0,U 0,U 0,U 0,U 0,U 0]):=by kernel_rfl
def am0:sY X9 44=H (X7,1):=by kernel_rfl
def gN:yF X9 44=H 43:=by kernel_rfl
def eY:Ej X9 44=H (X8,9):=by kernel_rfl
def kA:sY X9 49=H (N,4):=by kernel_rfl
def lW:Lm X9 49=H [.bool X7,.string ⟨#[]⟩,.bool X7,.string ⟨#[]⟩]:=by kernel_rfl
def aq1:wY X9 49=H ([(0,2),(2,2)],[.bool X7,.string ⟨#[]⟩,.bool X7,.string ⟨#[]⟩]):=by kernel_rfl
def am1:sY X9 50=H (N,12):=by kernel_rfl
def ah9:Lm X9 50=H [.bool X7,.string ⟨#[]⟩,.bool X7,.string ⟨#[]⟩,.bool X7,.string ⟨#[]⟩,.bool X7,.string ⟨#[]⟩,.bool X7,.string ⟨#[]⟩,.bool X7,.string ⟨#[]⟩]:=by kernel_rfl
def Ht:Ej X9 50=H (H 3,4):=by kernel_rfl
def aia:sY X9 58=H (N,2):=by kernel_rfl
def aq2:Lm X9 58=H [U 0,.slice X8 0 0]:=by kernel_rfl
def Hu:lG X9 58 0=H (0,X7,1):=by kernel_rfl
def vH:lG X9 58 1=H (1,X7,1):=by kernel_rfl
def aaX:sY X9 65=H (N,3):=by kernel_rfl
def ad0:Lm X9 65=H [.slice X8 0 0,U 0,U 0]:=by kernel_rfl
def vI:lG X9 65 0=H (0,X7,1):=by kernel_rfl
def kT:lG X9 65 1=H (1,X7,1):=by kernel_rfl
def nX:lG X9 65 2=H (2,X7,1):=by kernel_rfl
def am2:sY X9 68=H (X7,1):=by kernel_rfl
def aaY:yF X9 68=H 176:=by kernel_rfl
def Qm:Ej X9 68=H (X8,6):=by kernel_rfl
def ad1:sY X9 70=H (N,8):=by kernel_rfl
def aib:Lm X9 70=H [U 0,.slice X8 0 0,.slice X8 0 0,.slice X8 0 0,U 0,U 0,.bool X7,.string ⟨#[]⟩]:=by kernel_rfl
def rK:lG X9 70 1=H (1,X7,1):=by kernel_rfl
def vJ:lG X9 70 2=H (2,X7,1):=by kernel_rfl
def Nj:lG X9 70 3=H (3,X7,1):=by kernel_rfl
def alv:lG X9 70 5=H (5,X7,1):=by kernel_rfl
def aq3:wY X9 70=H ([(0,1),(1,1),(2,1),(3,1),(4,1),(5,1),(6,2)],[U 0,.slice X8 0 0,.slice X8 0 0,.slice X8 0 0,U 0,U 0,.bool X7,.string ⟨#[]⟩]):=by kernel_rfl
def Qn:sY X9 73=H (X7,1):=by kernel_rfl
def aq4:yF X9 73=H 165:=by kernel_rfl
def ad3:Ej X9 73=H (X8,4):=by kernel_rfl
def yK:lG X9 75 0=H (0,X7,1):=by kernel_rfl
def aq5:wY X9 75=H ([(0,1)],[.slice X8 0 0]):=by kernel_rfl
def am3:yF X9 77=H 22:=by kernel_rfl
def Vf:Ej X9 77=H (X8,1):=by kernel_rfl
def aic:sY X9 86=H (N,6):=by kernel_rfl
def Vg:Lm X9 86=H [.bool X7,.string ⟨#[]⟩,.bool X7,.string ⟨#[]⟩,.bool X7,.string ⟨#[]⟩]:=by kernel_rfl
def Ls:Ej X9 86=H (H 3,2):=by kernel_rfl
def aq6:wY X9 86=H ([(0,2),(2,2),(4,2)],[.bool X7,.string ⟨#[]⟩,.bool X7,.string ⟨#[]⟩,.bool X7,.string ⟨#[]⟩]):=by kernel_rfl
def aaZ:sY X9 87=H (N,6):=by kernel_rfl
def aa0:Lm X9 87=H [.bool X7,.string ⟨#[]⟩,.bool X7,.string ⟨#[]⟩,.bool X7,.string ⟨#[]⟩]:=by kernel_rfl
def jN:Ej X9 87=H (H 3,2):=by kernel_rfl
def aq7:sY X9 93=H (N,3):=by kernel_rfl
def aq8:Lm X9 93=H [.nilFunc,.nilFunc,.nilFunc]:=by kernel_rfl
def aq9:wY X9 93=H ([(0,1),(1,1),(2,1)],[.nilFunc,.nilFunc,.nilFunc]):=by kernel_rfl
def alw:lG X9 95 0=H (0,X7,1):=by kernel_rfl
def alx:lG X9 95 1=H (1,X7,1):=by kernel_rfl
def aly:lG X9 95 2=H (2,X7,1):=by kernel_rfl
def Lu:ikP X9 99=H .u64:=by kernel_rfl
def rD:sY X9 103=H (N,3):=by kernel_rfl
def sQ:Lm X9 103=H [U 0,U 0,U 0]:=by kernel_rfl
def gW:Ej X9 103=H (H 3,1):=by kernel_rfl
def uF:wY X9 103=H ([(0,1),(1,1),(2,1)],[U 0,U 0,U 0]):=by kernel_rfl
def gZ:yF X9 110=H 41:=by kernel_rfl
def gK:Ej X9 110=H (X8,3):=by kernel_rfl
def Kc:Ej X9 128=H (X8,2):=by kernel_rfl
def fW:yF X9 132=H 99:=by kernel_rfl
def jM:Ej X9 132=H (X8,1):=by kernel_rfl
def acM:sY X9 142=H (N,6):=by kernel_rfl
def acN:Lm X9 142=H [.bool X7,.string ⟨#[]⟩,.bool X7,.string ⟨#[]⟩,.bool X7,.string ⟨#[]⟩]:=by kernel_rfl
def pJ:Ej X9 142=H (H 3,2):=by kernel_rfl
def Kd:Ej X9 154=H (H 8,1):=by kernel_rfl
def qP:lG X9 157 0=H (0,N,8):=by kernel_rfl
def uG:lG X9 157 1=H (8,N,24):=by kernel_rfl
def ao3:wY X9 157=H ([(0,8),(8,24)],[.bool X7,.bool X7,.bool X7,.bool X7,.bool X7,.bool X7,.bool X7,.bool X7,U 0,U 0,U 0,U 0,U 0,U 0,U 0,U 0,U 0,U 0,U 0,U 0,U 0,U 0,U 0,U 0,U 0,U 0,U 0,U 0,U 0,U 0,U 0,U 0]):=by kernel_rfl
def ao4:sY X9 159=H (N,24):=by kernel_rfl
def ao5:Lm X9 159=H [.bool X7,.bool X7,.bool X7,.bool X7,.bool X7,.bool X7,.bool X7,.bool X7,.bool X7,.bool X7,.bool X7,.bool X7,.bool X7,.bool X7,.bool X7,.bool X7,.bool X7,.bool X7,.bool X7,.bool X7,.bool X7,.bool X7,.bool X7,.bool X7]:=by kernel_rfl
def aid:Ej X9 159=H (H 24,1):=by kernel_rfl
def ao6:wY X9 159=H ([(0,1),(1,1),(2,1),(3,1),(4,1),(5,1),(6,1),(7,1),(8,1),(9,1),(10,1),(11,1),(12,1),(13,1),(14,1),(15,1),(16,1),(17,1),(18,1),(19,1),(20,1),(21,1),(22,1),(23,1)],[.bool X7,.bool X7,.bool X7,.bool X7,.bool X7,.bool X7,.bool X7,.bool X7,.bool X7,.bool X7,.bool X7,.bool X7,.bool X7,.bool X7,.bool X7,.bool X7,.bool X7,.bool X7,.bool X7,.bool X7,.bool X7,.bool X7,.bool X7,.bool X7]):=by kernel_rfl
def aie:lG X9 165 0=H (0,X7,1):=by kernel_rfl
def aa1:lG X9 165 1=H (1,X7,1):=by kernel_rfl
def aif:lG X9 165 2=H (2,X7,1):=by kernel_rfl
def aig:lG X9 165 3=H (3,X7,1):=by kernel_rfl
def ao7:wY X9 165=H ([(0,1),(1,1),(2,1),(3,1)],[.slice X8 0 0,U 0,.slice X8 0 0,.slice X8 0 0]):=by kernel_rfl
def yL:yF X9 168=H 170:=by kernel_rfl
def yM:Ej X9 168=H (X8,6):=by kernel_rfl
def Ke:sY X9 170=H (N,6):=by kernel_rfl
def ao8:Lm X9 170=H [U 0,U 0,U 0,U 0,U 0,U 0]:=by kernel_rfl
def yN:Ej X9 170=H (H 2,3):=by kernel_rfl
def Ys:wY X9 170=H ([(0,3),(3,3)],[U 0,U 0,U 0,U 0,U 0,U 0]):=by kernel_rfl
def Cf:lG X9 176 0=H (0,N,3):=by kernel_rfl
def Qo:lG X9 176 1=H (3,N,3):=by kernel_rfl
def aih:wY X9 176=H ([(0,3),(3,3)],[U 0,U 0,U 0,U 0,U 0,U 0]):=by kernel_rfl
def ao9:sY X9 205=H (N,3):=by kernel_rfl
def apa:Lm X9 205=H [.nilFunc,.nilFunc,.nilFunc]:=by kernel_rfl
def apb:wY X9 205=H ([(0,1),(1,1),(2,1)],[.nilFunc,.nilFunc,.nilFunc]):=by kernel_rfl
def aii:lG X9 207 0=H (0,X7,1):=by kernel_rfl
def aij:lG X9 207 1=H (1,X7,1):=by kernel_rfl
def aik:lG X9 207 2=H (2,X7,1):=by kernel_rfl
def apc:yF X9 218=H 224:=by kernel_rfl
def ail:Ej X9 218=H (X8,23):=by kernel_rfl
def Yt:Lm X9 221=H [.bool X7,.string ⟨#[]⟩,.bool X7,.string ⟨#[]⟩,.bool X7,.string ⟨#[]⟩,.bool X7,.string ⟨#[]⟩,.bool X7,.string ⟨#[]⟩,.bool X7,.string ⟨#[]⟩,.bool X7,.string ⟨#[]⟩,.bool X7,.string ⟨#[]⟩,.bool X7,.string ⟨#[]⟩,.bool X7,.string ⟨#[]⟩]:=by kernel_rfl
def Kf:Ej X9 221=H (H 10,2):=by kernel_rfl
def aim:lG X9 224 0=H (0,N,3):=by kernel_rfl
def ain:lG X9 224 1=H (3,N,20):=by kernel_rfl
def aio:yF X9 225=H 228:=by kernel_rfl
def Qp:Ej X9 225=H (X8,8):=by kernel_rfl
def aip:sY X9 228=H (N,8):=by kernel_rfl
def apd:Lm X9 228=H [U 0,U 0,U 0,U 0,U 0,U 0,.bool X7,.string ⟨#[]⟩]:=by kernel_rfl
def Qr:lG X9 228 0=H (0,N,3):=by kernel_rfl
def aa2:lG X9 228 1=H (3,N,3):=by kernel_rfl
def aiq:lG X9 228 2=H (6,N,2):=by kernel_rfl
def air:sY X9 288=H (N,3):=by kernel_rfl
def ais:Lm X9 288=H [U 0,U 0,U 0]:=by kernel_rfl
def yO:Ej X9 288=H (H 3,1):=by kernel_rfl
def ape:wY X9 288=H ([(0,1),(1,1),(2,1)],[U 0,U 0,U 0]):=by kernel_rfl
def apf:sY X9 293=H (N,8):=by kernel_rfl
def ait:Lm X9 293=H [.bool X7,.string ⟨#[]⟩,.bool X7,.string ⟨#[]⟩,.bool X7,.string ⟨#[]⟩,.bool X7,.string ⟨#[]⟩]:=by kernel_rfl
def wB:Ej X9 293=H (H 4,2):=by kernel_rfl
def fX    : EqB X9 41 [U x0,U x1,U x2] [U y0,U y1,U y2] (decide (x0=y0/\x1=y1/\x2=y2)):=⟨by kernel_rfl,(yD 9998).iff ali⟩
def pK    : NeB X9 41 [U x0,U x1,U x2] [U y0,U y1,U y2] (decide (¬(x0=y0/\x1=y1/\x2=y2))):=⟨by kernel_rfl,(yD 9998).iff aoJ⟩
def apg          : EqB X9 43 [U x0,U x1,U x2,U x3,U x4,U x5,U x6,U x7,U x8] [U y0,U y1,U y2,U y3,U y4,U y5,U y6,U y7,U y8] (decide (x0=y0/\x1=y1/\x2=y2/\x3=y3/\x4=y4/\x5=y5/\x6=y6/\x7=y7/\x8=y8)):=⟨by kernel_rfl,(acq 9997).iff ali⟩
def aph          : NeB X9 43 [U x0,U x1,U x2,U x3,U x4,U x5,U x6,U x7,U x8] [U y0,U y1,U y2,U y3,U y4,U y5,U y6,U y7,U y8] (decide (¬(x0=y0/\x1=y1/\x2=y2/\x3=y3/\x4=y4/\x5=y5/\x6=y6/\x7=y7/\x8=y8))):=⟨by kernel_rfl,(acq 9997).iff aoJ⟩
def ad4    : EqB X9 103 [U x0,U x1,U x2] [U y0,U y1,U y2] (decide (x0=y0/\x1=y1/\x2=y2)):=⟨by kernel_rfl,(adK 9998).iff ali⟩
def alz       : EqB X9 170 [U x0,U x1,U x2,U x3,U x4,U x5] [U y0,U y1,U y2,U y3,U y4,U y5] (decide (x0=y0/\x1=y1/\x2=y2/\x3=y3/\x4=y4/\x5=y5)):=⟨by kernel_rfl,(adL 9997).iff ali⟩
def alA       : NeB X9 170 [U x0,U x1,U x2,U x3,U x4,U x5] [U y0,U y1,U y2,U y3,U y4,U y5] (decide (¬(x0=y0/\x1=y1/\x2=y2/\x3=y3/\x4=y4/\x5=y5))):=⟨by kernel_rfl,(adL 9997).iff aoJ⟩
end
section
attribute [local irreducible] be c_ fS cE cP Code.wp
attribute [local congr] fE fF eN fD
variable{q:Y}{ts ls:List T3}{vi cap:Nat}{A:Option Addr}{t s:T3}{x y z:Bool}
def lB{p:Y}:dO X9 54 [pt p,pt q] (.bool (decide (p.Lt q))):=by
 intro w;refine⟨bP func54 (by kernel_rfl),?_⟩;have m:=Mem.refl w
 go_enter func54,ntmps54
 apply gJ 15 [2,1,0,0] m;simp only[↓Z,iR,dN,aa];intro e f u m;refine aZ O ?_ ?_<;>intro c
 .apply F 10 [2,1,0] m;simp only[↓Z,iR,dN,aa];refine aS O O ?_;try simp only[zD,zE]
  exact⟨_,O,m.ext,by simp only[Y.lt_x c]⟩
 have a:p.x=q.x:=by omega
 apply F 10 [2,1,0,0] m;simp only[↓Z,iJ,dN,aa];refine aZ O ?_ ?_<;>intro d
 .apply F 10 [2,1,0] m;simp only[↓Z,iJ,dN,aa];refine aS O O ?_;try simp only[zD,zE]
  exact⟨_,O,m.ext,by simp only[Y.lt_y a d]⟩
 have b:p.y=q.y:=by omega
 apply F 11 [2,1,0] m;simp only[↓Z,iS,dN,aa];refine aS O O ?_;try simp only[zD,zE]
 exact⟨_,O,m.ext,by simp only[Y.lt_z a b]⟩
def aiu{a b:E3}:dO X9 153 [ed a,ed b] (.bool (ltE a b)):=by
 intro w;refine⟨bP func153 (by kernel_rfl),?_⟩;have m:=Mem.refl w
 go_enter func153,ntmps153
 apply gJ 15 [2,1,0] m;simp only[↓Z,yN,aW,ac,C,aa];refine λd=>λe=>⟨_,pK,by omega,?_⟩
 intro u m;refine aZ O ?_ ?_<;>intro c
 .apply F 6 [2,1,0] m;simp only[↓Z,yN,aW,ac,C,aa];apply R;omega;refine iE m O O (lB (p:=a.1) (q:=b.1)) 3 [] ?_;simp only[↓Z];intro u m;refine aS O O ?_;try simp only[zD,zE]
  exact⟨_,O,m.ext,by rw[ltE,Z9 (λh=>c (by rw[h];exact⟨O,O,O⟩))]⟩
 apply F 7 [2,1,0] m;simp only[↓Z,yN,aW,ac,C,aa];apply R;omega;refine iE m O O (lB (p:=a.2) (q:=b.2)) 3 [] ?_;simp only[↓Z];intro u m;refine aS O O ?_;try simp only[zD,zE]
 exact⟨_,O,m.ext,by rw[ltE,K0 (λh=>h (Y.eq (Classical.not_not.1 c).1 (Classical.not_not.1 c).2.1 (Classical.not_not.1 c).2.2))]⟩
def ad5(w:an)(f:cI w A vi ts)(z:vi<=1000000000):cX X9 151 [.slice A vi cap] w (SL 170 6 ((jT ts).flatMap dE) (jT ts).length w):=by
 refine⟨bP func151 (by kernel_rfl),?_⟩;have m:=Mem.refl w
 go_enter func151,ntmps151
 apply iD 6 [0] m;simp only[↓Z];refine aA aI ?_;replace m:=m.nilO 170 6;apply aL 7 [0] m;simp only[↓Z];refine bT [3,4] [5,6,7,8,9,10,11,12,13,14,15,16,17,18,19,20,21,22,23,24,25,26,27,28,29,30,31,32,33] (λn vs p=>∃(k:Nat)(c:Option Addr)(d:Nat),vs=[.slice c (jT (ts.take k)).length d,U (k:Int)]/\Mem w p [oI 170 6 c (jT (ts.take k)).length d ((jT (ts.take k)).flatMap dE)]/\(k<=vi)/\(n=vi-k)) ?_ ?_
 .exact⟨_,0,_,_,O,m,bm _,O⟩
 intro n vs E h u v q;obtain⟨k,c,d,rfl,m,B,D⟩:=h;simp only[zu,zF,zG];apply F 8 [0,0] m;simp only[↓Z,gN];refine aZ O ?_ ?_<;>intro G
 .obtain⟨t,e,_,a,rfl,s⟩:=f.get (i:=k) (by omega);apply qW 24 [0,1,0,1,1,1,1] m;simp only[↓Z,eY,uE,fM,cD,aW,Ys,ab,ae,aa,ac,C];refine⟨_,λu m=>((s.ext m.ext).lies eD bK),λx=>⟨by omega,?_⟩⟩;intro u m;apply aQ 5 [1,1,0] m;simp only[↓Z,cD,aW,Ys,ac,C,aa];apply R;omega;refine acu O O O ?_;intro u y g j l;replace m:=m.newB g j l;simp only[J];refine bJ m 2 O O qY yB O (by decide) O O O (m.b 0 O).rowsO (fU O) (by have:=Dc (ts.take k);rw[bf] at this;omega) (by have:=Dc (ts.take k);rw[bf] at this;omega) ?_;intro c d u m;simp only[zF,zG] at m;rw[show (jT (ts.take k)).flatMap dE++_=(jT (ts.take (k+1))).flatMap dE by rw[Fb e,au];rfl,show (jT (ts.take k)).length+3=(jT (ts.take (k+1))).length by rw[Fb e,a_];rfl] at m;rw[show (jT (ts.take k)).length+3=(jT (ts.take (k+1))).length by rw[Fb e,a_];rfl];apply aL 8 [0] m;simp only[↓Z];apply R;omega;exact q (vi-(k+1)) _ _ (by omega) (by kernel_rfl) ⟨k+1,_,_,O,(m.sel [X7,X7,N]),by omega,O⟩
 have r:k=vi:=by omega
 rw[r,show ts.take vi=ts from ap (by rw[f.len];exact bg _)] at m ⊢;apply F 7 [] m;simp only[↓Z];exact aS O O ⟨_,O,m.ext,⟨_,_,_,O,O,(m.o 0 O)⟩⟩
def Nk{es:List E3}{e:E3}(w:an)(d:kO dE 6 w A vi es)(z:vi<=1000000000):cX X9 152 [.slice A vi cap,ed e] w (λv _=>v=U ((Gn es e:Nat):Int)):=by
 refine⟨bP func152 (by kernel_rfl),?_⟩;have m:=Mem.refl w
 go_enter func152,ntmps152
 apply gJ 15 [0] m;simp only[↓Z];intro j u m;refine bT [5,6] [7,8,9,10,11,12,13,14,15,16,17,18,19,20] (λn vs p=>∃(k q:Nat),vs=[U (q:Int),U (k:Int)]/\Mem w p [bI j (dE e) 170]/\(q=Gn (es.take k) e)/\(k<=vi)/\(n=vi-k)) ?_ ?_
 .exact⟨_,0,0,O,m,O,bm _,O⟩
 intro n vs D l u y g;obtain⟨k,q,rfl,m,o,B,C⟩:=l;subst o;simp only[zu,zF,zG];apply F 8 [0,0] m;simp only[↓Z,yL];refine aZ O ?_ ?_<;>intro E
 .obtain⟨x,f,a,rfl,t⟩:=d.get (i:=k) (by omega);apply F 4 [0] m;simp only[↓Z];refine mq m aB (by kernel_rfl) (cW 6 [0,4,1] ?_);simp only[↓Z,yM,Ke,ab,ae];refine⟨_,λu m=>((t.ext m.ext).lies Dd mP),_,alz,by omega,?_⟩;refine bD ?_;intro u m;refine gc (aZ O (λb=>?_) (λb=>?_))
  .have s:x=e:=Prod.ext (Y.eq b.1 b.2.1 b.2.2.1) (Y.eq b.2.2.2.1 b.2.2.2.2.1 b.2.2.2.2.2);have G:Gn (es.take k) e<=vi:=ay anZ (by rw[bf];omega);have c:=aau (e:=e) f;rw[Z9 s] at c;apply F 11 [0] m;simp only[↓Z];apply R;omega;rw[show ((Gn (es.take k) e:Nat):Int)+1=((Gn (es.take (k+1)) e:Nat):Int) by rw[c];rfl];exact g (vi-(k+1)) _ _ (by omega) (by kernel_rfl) ⟨k+1,Gn (es.take (k+1)) e,O,m,O,by omega,O⟩
  have c:Gn (es.take (k+1)) e=Gn (es.take k) e:=(aau (e:=e) f).trans (by rw[K0 (λh=>b (by rw[h];exact⟨O,O,O,O,O,O⟩))];rfl);apply F 7 [0] m;simp only[↓Z];apply R;omega;rw[<-c];exact g (vi-(k+1)) _ _ (by omega) (by kernel_rfl) ⟨k+1,Gn (es.take (k+1)) e,O,m,O,by omega,O⟩
 have r:k=vi:=by omega
 rw[r,show es.take vi=es from ap (by rw[d.len];exact bg _)];apply F 7 [] m;simp only[↓Z];exact aS O O ⟨_,O,m.ext,O⟩
def alB{ps:List Y}{p:Y}(w:an)(c:kO kS 3 w A vi ps)(P:vi<=1000000000)(z:vi<=cap):cX X9 188 [.slice A vi cap,pt p] w (λv w'=>(v=.slice A vi cap/\jE ps p=ps)\/SL 41 3 ((jE ps p).flatMap kS) (jE ps p).length w v w'):=by
 refine⟨Xj,?_⟩;have m:=Mem.refl w;obtain rfl:ps.length=vi:=c.len
 go_enter func188,ntmps188
 apply gJ 11 [0] m;simp only[↓Z];intro C u m;refine bT [5] [6,8,9,10,11,12,13,14,15,16,17,18,19,20,21] (λn vs G=>∃(k:Nat),vs=[U (k:Int)]/\Mem w G [bI C (kS p) 41]/\(Pre (λx=>decide (x.Lt p)) ps k)/\(k<=ps.length)/\(n=ps.length-k)) ?_ ?_
 .exact⟨_,0,O,m,Pre.zero,bm _,O⟩
 intro n vs T E u M I;obtain⟨k,rfl,m,t,Q,S⟩:=E;simp only[zu,zF,zG];apply F 8 [0,0] m;simp only[↓Z,gZ];refine aZ O ?_ ?_<;>intro V
 .obtain⟨x,j,a,rfl,B⟩:=c.get (i:=k) (by omega);apply F 3 [0] m;simp only[↓Z];refine mq m aB (by kernel_rfl) (cW 5 [0,0,1] ?_);simp only[↓Z,gK,aW,ab,ae];refine⟨_,λu m=>((B.ext m.ext).lies aM aD),by omega,?_⟩;refine X O O lB (aK aI (bD ?_));intro u m;apply aQ 6 [0] m;simp only[↓Z];refine iY O ?_ ?_<;>intro y
  .have l:aav ps p=k:=aqD t j (by simpa using y);apply F 3 [0] m;simp only[↓Z];refine mq m aB (by kernel_rfl) (cW 12 [1,0,0,0,0,0,0,0,1,0] ?_);simp only[↓Z,gZ,gK,aW,ab,ae];refine⟨_,λu m=>((B.ext m.ext).lies aM aD),_,fX,by omega,?_⟩;refine bD ?_;intro u m;refine gc (aZ O (λf=>?_) (λf=>?_))
   .have K:x=p:=Y.eq f.1 f.2.1 f.2.2;apply F 6 [] m;simp only[↓Z];exact aS O O ⟨_,O,m.ext,.inl ⟨O,by rw[jE,l,j,Z9 (by rw[K])]⟩⟩
   have e:jE ps p=ps.take k++[p]++ps.drop k:=by unfold jE;rw[l,K0 (by rw[j];exact λh=>f (by cases h;exact⟨O,O,O⟩))]
   apply F 3 [0] m;simp only[↓Z];refine aA aI ?_;replace m:=m.nilO 41 3;apply aL 6 [0] m;simp only[↓Z];refine aA (gR eL aD O O (ab _) (by omega) (by omega)) ?_;simp only[J];refine bJ m 0 O O eL mB O (by decide) O O (by rw[dZ xG,bf,de (by omega)]) (((c.take (by omega)).ext m.ext).cells xG (by decide)) (Bj _) (by omega) (by omega) ?_;intro d g u m;simp only[zF,zG] at m;rw[cv,ae] at m;rw[ae];apply aL 6 [2,0] m;simp only[↓Z,aW];refine lF O ?_;intro u D q r s;replace m:=m.newB q r s;simp only[J];refine bJ m 1 O O eL mB O (by decide) O O O (m.b 0 O).rowsO (fU O) (by omega) (by omega) ?_;intro d g u m;simp only[zF,zG] at m;apply aL 7 [0] m;simp only[↓Z];refine aA (gS eL aD O O (ab _) (by omega) (by omega) O) ?_;simp only[J];refine bJ m 1 O O eL mB O (by decide) O O (by rw[dZ xG,ef]) ((c.ext m.ext).cellsD xG (by decide) z) (Bj _) (by omega) (by omega) ?_;intro d g u m;simp only[zF,zG] at m;apply aL 3 [] m;simp only[↓Z];exact aS O O ⟨_,O,m.ext,.inr ⟨_,_,_,by rw[e];simp;omega,rfl,(m.o 1 rfl).as (by rw[e,au,au];rfl)⟩⟩
  have L:=t.step j (by simpa using y);apply F 7 [0] m;simp only[↓Z];apply R;omega;exact I (ps.length-(k+1)) _ _ (by omega) (by kernel_rfl) ⟨k+1,O,m,L,by omega,O⟩
 obtain rfl:k=ps.length:=by omega
 have l:aav ps p=ps.length:=an2 t;have e:jE ps p=ps.take ps.length++[p]++ps.drop ps.length:=by unfold jE;rw[l,K0 (by rw[ct (bg _)];simp)]
 apply F 3 [0] m;simp only[↓Z];refine mq m aB (by kernel_rfl) (cW 12 [2,0,0,0,0,0,0] ?_);simp only[↓Z,gZ];apply R;omega;refine bD ?_;intro u m;apply aQ 4 [0] m;simp only[↓Z];refine aA aI ?_;replace m:=m.nilO 41 3;apply aL 6 [0] m;simp only[↓Z];refine aA (gR eL aD O O (ab _) (by omega) (by omega)) ?_;simp only[J];refine bJ m 0 O O eL mB O (by decide) O O (by rw[dZ xG,bf,de (by omega)]) (((c.take (by omega)).ext m.ext).cells xG (by decide)) (Bj _) (by omega) (by omega) ?_;intro d g u m;simp only[zF,zG] at m;rw[cv,ae] at m;rw[ae];apply aL 6 [2,0] m;simp only[↓Z,aW];refine lF O ?_;intro u D q r s;replace m:=m.newB q r s;simp only[J];refine bJ m 1 O O eL mB O (by decide) O O O (m.b 0 O).rowsO (fU O) (by omega) (by omega) ?_;intro d g u m;simp only[zF,zG] at m;apply aL 7 [0] m;simp only[↓Z];refine aA (gS eL aD O O (ab _) (by omega) (by omega) O) ?_;simp only[J];refine bJ m 1 O O eL mB O (by decide) O O (by rw[dZ xG,ef]) ((c.ext m.ext).cellsD xG (by decide) z) (Bj _) (by omega) (by omega) ?_;intro d g u m;simp only[zF,zG] at m;apply aL 3 [] m;simp only[↓Z];exact aS O O ⟨_,O,m.ext,.inr ⟨_,_,_,by rw[e];simp,rfl,(m.o 1 rfl).as (by rw[e,au,au];rfl)⟩⟩
def acO{w0 w:an}{is:List It}{A:Option Addr}{n cap:Nat}{ps:List Y}{p:Y}(m:Mem w0 w is)(k:Nat)(d:is[k]? = H (oI 41 3 A n cap (ps.flatMap kS)))(j:n<=1000000000) :
 Calls X9 188 [.slice A n cap,pt p].toArray w λe w'=>∃v i,e=.returned v/\Mem w0 w' (is.set k i)/\∃b f a,a=(jE ps p).length/\v=.slice b a f/\i=oI 41 3 b a f ((jE ps p).flatMap kS):=by
 have c:=m.o k d;refine (alB (p:=p) w (c.lat xG (by decide)) j c.le).2.mono ?_;rintro e w' ⟨v,rfl,g,h⟩;rcases h with ⟨rfl,h⟩|⟨b,f,a,rfl,rfl,l⟩
 .exact⟨_,oI 41 3 A n cap (ps.flatMap kS),O,by rw[an0 d];exact m.ext' g,A,cap,n,by rw[h];exact (c.num xG (by decide)).symm,O,by rw[h]⟩
 exact⟨_,_,O,(m.newO g l).mv k d,_,_,_,O,O,O⟩
def Kg(w:an)(j:cI w A vi ts)(B:vi<=100000000):cX X9 142 [.slice A vi cap] w (SL 41 3 ((bM ts).flatMap kS) (bM ts).length w):=by
 refine⟨bP func142 (by kernel_rfl),?_⟩;have m:=Mem.refl w
 go_enter func142,ntmps142
 apply iD 6 [0] m;simp only[↓Z];refine aA aI ?_;replace m:=m.nilO 41 3;apply aL 7 [0] m;simp only[↓Z];refine bT [3,4] [5,6,7,8,9,10,11,12,13,14,15,16,17,18,19,20,21,22,23] (λn vs r=>∃(k d:Nat)(e:Option Addr)(g:Nat),vs=[.slice e d g,U (k:Int)]/\Mem w r [oI 41 3 e d g ((bM (ts.take k)).flatMap kS)]/\(d=(bM (ts.take k)).length)/\(k<=vi)/\(n=vi-k)) ?_ ?_
 .exact⟨_,0,0,_,_,O,m,O,bm _,O⟩
 intro n vs G q u z s;obtain⟨k,d,e,g,rfl,m,f,D,E⟩:=q;simp only[zu,zF,zG];apply F 8 [0,0] m;simp only[↓Z,gN];refine aZ O ?_ ?_<;>intro K
 .obtain⟨t,l,_,a,rfl,h⟩:=j.get (i:=k) (by omega);have x:=uX (ts.take k);have I:=wT (bM (ts.take k)) t.a;have J:=wT (jE (bM (ts.take k)) t.a) t.b;rw[bf] at x;apply F 28 [4,1,0,0,0] m;simp only[↓Z,eY,cD,ab,ae,ac,C,aa];refine⟨_,λu m=>((iX.cor (h.ext m.ext) (c:=0) (by decide)).lies aM aD),by omega,?_⟩;refine Xx m 0 Xj O O (λm=>acO (p:=t.a) m 0 O (by omega)) ?_;rintro v i u m ⟨e,g,d,f,rfl,rfl⟩;simp only[zF,zG] at m;apply aL 27 [1,0,0,0] m;simp only[↓Z,eY,cD,M,ab,ae,ac,C,aa];refine⟨_,λu m=>((iX.cor (h.ext m.ext) (c:=1) (by decide)).lies aM aD),by omega,?_⟩;refine Xx m 0 Xj O O (λm=>acO (p:=t.b) m 0 O (by omega)) ?_;rintro v i u m ⟨e,g,d,f,rfl,rfl⟩;simp only[zF,zG] at m;apply aL 27 [1,0,0,0] m;simp only[↓Z,eY,cD,M,ab,ae,ac,C,aa];refine⟨_,λu m=>((iX.cor (h.ext m.ext) (c:=2) (by decide)).lies aM aD),by omega,?_⟩;refine Xx m 0 Xj O O (λm=>acO (p:=t.c) m 0 O (by omega)) ?_;rintro v i u m ⟨e,g,d,f,rfl,rfl⟩;simp only[zF,zG] at m;apply aL 23 [2,0] m;simp only[↓Z,M];apply R;omega;exact s (vi-(k+1)) _ _ (by omega) (by kernel_rfl) ⟨k+1,_,_,_,O,(m.reO 0 O ((m.o 0 O).as (by rw[Gq l]))),by rw[Gq l];exact f,by omega,O⟩
 have y:k=vi:=by omega
 rw[y,show ts.take vi=ts from ap (by rw[j.len];exact bg _)] at m f;apply F 7 [] m;simp only[↓Z];exact aS O O ⟨_,O,m.ext,⟨_,_,_,f,O,(m.o 0 O)⟩⟩
def aiv{p:Y}(w:an)(o:kO aP 9 w A vi ts)(z:vi<=1000000000):cX X9 230 [.slice A vi cap,pt p,pt q] w (λv _=>∃q b,v=.tuple #[pt q,.bool b]):=by
 refine⟨bP func230 (by kernel_rfl),?_⟩;have m:=Mem.refl w
 go_enter func230,ntmps230
 apply gJ 13 [0] m;simp only[↓Z,gC];intro g h j u m;refine bT [8] [7,9,10,11,12,13,14,15,16,17,18,19,20,21,22,23,24,25,26,27,28,29,30,31,32,33,34,35,36,37,38,39,40,41,42,43,44,45,46,47] (λn vs s=>∃(k:Nat),vs=[U (k:Int)]/\Mem w s [bI j [U 0,U 0,U 0] 41,bI h (kS q) 41,bI g (kS p) 41]/\(k<=vi)/\(n=vi-k)) ?_ ?_
 .exact⟨_,0,O,m,bm _,O⟩
 intro n vs G l u y x;obtain⟨k,rfl,m,B,D⟩:=l;simp only[zu,zF,zG];apply F 8 [0,0] m;simp only[↓Z,gN];refine aZ O ?_ ?_<;>intro I
 .obtain⟨t,E,a,rfl,e⟩:=o.get (i:=k) (by omega);apply F 21 [4,1,0] m;simp only[↓Z];apply R;omega;refine mq m aB (by kernel_rfl) (cW 9 [0,0,3] ?_);simp only[↓Z,eY,cD,aW,ab,ae,ac,C,aa];refine⟨_,λu m=>((iX.cor (e.ext m.ext) (c:=0) (by omega)).lies aM aD),_,fX,by omega,?_⟩;refine cU O (λd=>aF) (cU O (λd=>aF) (cU O (λd=>aF) (cU O (λd=>eH (m:=0) (n:=1) (r:=1) (cG d O) O (by decide)) ?_)));simp only[J];refine cU O (λd=>cS (m:=1) (n:=3) (r:=1) (cG d O) O (by decide) (by decide)) ?_;simp only[J];refine cU O (λd=>aN gB bK (cG d O) (cG d O) (by omega) (by omega) (kV (ab _))) (cU O (λd=>aR fR aD (cG d O) (cG d O) (by decide) (by decide) O) ?_);simp only[J];refine jR O (λd u m=>cT (cG d O) ((iX.cor (e.ext m.ext) (c:=1) (by omega)).lies aM aD)) (jR O (λd u m=>cT O ((m.b 1 O).full aM aD)) (cU O (λd=>rA (cG d O) (cG d O)) (aK (fB O O O) (bD ?_))));intro u m;refine gc ?_;simp only[J];refine iY O ?_ ?_<;>intro f
  .apply F 6 [0] m;simp only[↓Z,M];apply R;omega;refine aA (cS (m:=2) (n:=3) (r:=2) O O (by decide) (by decide)) ?_;apply kZ 7 [0,0,0] m;simp only[↓Z,eY,cD,aW,ab,ae,ac,C,aa];refine⟨_,λu m=>((iX.cor (e.ext m.ext) (c:=2) (by omega)).lies aM aD),by omega,?_⟩;intro u m;exact kN O ⟨_,O,((m.b 0 O).full aM aD)⟩ O ⟨_,O,m.ext,_,_,O⟩
  apply F 19 [1,0] m;simp only[↓Z,M];apply R;omega;refine mq m aB (by kernel_rfl) (cW 9 [0,0,3] ?_);simp only[↓Z,eY,cD,aW,ab,ae,ac,C,aa];refine⟨_,λu m=>((iX.cor (e.ext m.ext) (c:=1) (by omega)).lies aM aD),_,fX,by omega,?_⟩;refine cU O (λd=>aF) (cU O (λd=>aF) (cU O (λd=>aF) (cU O (λd=>eH (m:=1) (n:=1) (r:=2) (cG d O) O (by decide)) ?_)));simp only[J];refine cU O (λd=>cS (m:=2) (n:=3) (r:=2) (cG d O) O (by decide) (by decide)) ?_;simp only[J];refine cU O (λd=>aN gB bK (cG d O) (cG d O) (by omega) (by omega) (kV (ab _))) (cU O (λd=>aR fR aD (cG d O) (cG d O) (by decide) (by decide) O) ?_);simp only[J];refine jR O (λd u m=>cT (cG d O) ((iX.cor (e.ext m.ext) (c:=2) (by omega)).lies aM aD)) (jR O (λd u m=>cT O ((m.b 1 O).full aM aD)) (cU O (λd=>rA (cG d O) (cG d O)) (aK (fB O O O) (bD ?_))));intro u m;refine gc ?_;simp only[J];refine iY O ?_ ?_<;>intro f
  .apply F 6 [0] m;simp only[↓Z,M];apply R;omega;refine aA (cS (m:=3) (n:=3) (r:=0) O O (by decide) (by decide)) ?_;apply kZ 7 [0,0,0] m;simp only[↓Z,eY,cD,aW,ab,ae,ac,C,aa];refine⟨_,λu m=>((iX.cor (e.ext m.ext) (c:=0) (by omega)).lies aM aD),by omega,?_⟩;intro u m;exact kN O ⟨_,O,((m.b 0 O).full aM aD)⟩ O ⟨_,O,m.ext,_,_,O⟩
  apply F 19 [1,0] m;simp only[↓Z,M];apply R;omega;refine mq m aB (by kernel_rfl) (cW 9 [0,0,3] ?_);simp only[↓Z,eY,cD,aW,ab,ae,ac,C,aa];refine⟨_,λu m=>((iX.cor (e.ext m.ext) (c:=2) (by omega)).lies aM aD),_,fX,by omega,?_⟩;refine cU O (λd=>aF) (cU O (λd=>aF) (cU O (λd=>aF) (cU O (λd=>eH (m:=2) (n:=1) (r:=3) (cG d O) O (by decide)) ?_)));simp only[J];refine cU O (λd=>cS (m:=3) (n:=3) (r:=0) (cG d O) O (by decide) (by decide)) ?_;simp only[J];refine cU O (λd=>aN gB bK (cG d O) (cG d O) (by omega) (by omega) (kV (ab _))) (cU O (λd=>aR fR aD (cG d O) (cG d O) (by decide) (by decide) O) ?_);simp only[J];refine jR O (λd u m=>cT (cG d O) ((iX.cor (e.ext m.ext) (c:=0) (by omega)).lies aM aD)) (jR O (λd u m=>cT O ((m.b 1 O).full aM aD)) (cU O (λd=>rA (cG d O) (cG d O)) (aK (fB O O O) (bD ?_))));intro u m;refine gc ?_;simp only[J];refine iY O ?_ ?_<;>intro f
  .apply F 6 [0] m;simp only[↓Z,M];apply R;omega;refine aA (cS (m:=4) (n:=3) (r:=1) O O (by decide) (by decide)) ?_;apply kZ 7 [0,0,0] m;simp only[↓Z,eY,cD,aW,ab,ae,ac,C,aa];refine⟨_,λu m=>((iX.cor (e.ext m.ext) (c:=1) (by omega)).lies aM aD),by omega,?_⟩;intro u m;exact kN O ⟨_,O,((m.b 0 O).full aM aD)⟩ O ⟨_,O,m.ext,_,_,O⟩
  apply F 22 [2,0] m;simp only[↓Z,M];apply R;omega;exact x (vi-(k+1)) _ _ (by omega) (by kernel_rfl) ⟨k+1,O,m,by omega,O⟩
 apply qW 8 [3,0] m;simp only[↓Z,aW,aa];intro u m;exact kN O ⟨_,O,((m.b 0 O).full aM aD)⟩ O ⟨_,O,m.ext,_,_,O⟩
def afv{p:Y}(w:an)(hT:cI w A vi ts)(hN:vi<=100000000):cX X9 199 [.slice A vi cap,pt p] w (λv _=>∃b,v=.bool b):=by
 refine⟨bP func199 (by kernel_rfl),?_⟩;have m:=Mem.refl w
 go_enter func199,ntmps199
 apply gJ 7 [0] m;simp only[↓Z];intro C u m;refine aA aI ?_;replace m:=m.nilO 43 9;apply aL 3 [0] m;simp only[↓Z];refine aA aI ?_;replace m:=m.nilO 41 3;apply aL 7 [0] m;simp only[↓Z];refine bT [5,6,7] [8,14,15,16,17,18,19,20,21,22,23,24,25,26,27,28,29,30,31,32,33,34,35,36,37,38,39,40,41,42,43,44,45,46,47,48,49] (λn vs B=>∃(k e d h l:Nat)(g r:Option Addr)(M:List T3)(S:List Y),vs=[.slice g e h,.slice r d l,U (k:Int)]/\Mem w B [oI 41 3 r d l (S.flatMap kS),oI 43 9 g e h (M.flatMap aP),bI C (kS p) 41]/\(e<=k*3)/\(d<=k*3)/\(k<=vi)/\(n=vi-k)) ?_ ?_
 .exact⟨_,0,_,_,_,_,_,_,[],[],O,m,bg _,bg _,bm _,O⟩
 intro n vs K z u K1 af;obtain⟨k,e,d,h,l,g,r,M,S,rfl,m,W,X,hk,hn⟩:=z;simp only[zu,zF,zG];apply F 8 [0,0] m;simp only[↓Z,gN];refine aZ O ?_ ?_<;>intro ak
 .obtain⟨t,ht,_,a,rfl,L⟩:=hT.get (i:=k) (by omega);apply F 8 [0] m;simp only[↓Z];refine bT [5,6,8] [20,21,22,23,24,25,26,27,28,29,30,31,32,33,34,35,36,37,38,39,40,41,42,43,44,45,46,47,48,49] (λn vs B=>∃(c e d h l:Nat)(g r:Option Addr)(M:List T3)(S:List Y),vs=[.slice g e h,.slice r d l,U (c:Int)]/\Mem w B [oI 41 3 r d l (S.flatMap kS),oI 43 9 g e h (M.flatMap aP),bI C (kS p) 41]/\(e<=k*3+c)/\(d<=k*3+c)/\(c<=3)/\(n=3-c)) ?_ ?_
  .exact⟨_,0,_,_,_,_,_,_,M,S,O,m,W,X,bm _,O⟩
  intro n vs K z u K2 Q;obtain⟨c,e,d,h,l,g,r,M,S,rfl,m,W,X,hc,av⟩:=z;simp only[zu,zF,zG];apply F 6 [0,0] m;simp only[↓Z];refine aZ O ?_ ?_<;>intro al
  .have V:c<3:=by omega
   apply F 4 [0] m;simp only[↓Z];refine mq m aB (by kernel_rfl) (cW 8 [0,0,3] ?_);simp only[↓Z,eY,cD,aW,ab,ae];refine⟨_,λu m=>((iX.cor (L.ext m.ext) (c:=c) (by omega)).lies aM aD),_,fX,by omega,?_⟩;refine bD ?_;intro u m;refine gc (aZ O (λV=>?_) (λV=>?_))
   .apply F 7 [0,1,0] m;simp only[↓Z,eY,ab,ae];refine⟨_,λu m=>((L.ext m.ext).lies eD bK),by omega,?_⟩;refine jL O ?_;intro u P D E G;replace m:=m.newB D E G;simp only[J];refine bJ m 2 O O gB mS O (by decide) O O O (m.b 0 O).rowsO (fU O) (by omega) (by omega) ?_;intro g h u m;simp only[zF,zG] at m;apply aL 8 [0] m;simp only[↓Z];apply R;omega;refine aA (cS O O (by omega) (amO (k:=c+1))) ?_;apply aL 3 [0,0,0] m;simp only[↓Z,eY,cD,ab,ae];refine⟨_,λu m=>((iX.cor (L.ext m.ext) (c:=(c+1)%3) (by omega)).lies aM aD),by omega,?_⟩;refine lF O ?_;intro u g3 D E G;replace m:=m.newB D E G;simp only[J];refine bJ m 2 O O eL mB O (by decide) O O O (m.b 0 O).rowsO (fU O) (by omega) (by omega) ?_;intro r l u m;simp only[zF,zG] at m;apply aL 8 [0] m;simp only[↓Z];apply R;omega;exact Q (3-(c+1)) _ _ (by omega) (by kernel_rfl) ⟨c+1,_,_,_,_,_,_,(M++[t]),(S++[t.cor ((c+1)%3)]),O,(((m.reO 3 O ((m.o 3 O).as (by rw[au];rfl))).reO 2 rfl ((m.o 2 rfl).as (by rw[au];rfl))).sel [X7,X7,N,N,N]),by omega,by omega,by omega,rfl⟩
   apply F 7 [0] m;simp only[↓Z];apply R;omega;exact Q (3-(c+1)) _ _ (by omega) (by kernel_rfl) ⟨c+1,_,_,_,_,_,_,M,S,O,m,by omega,by omega,by omega,O⟩
  obtain rfl:c=3:=by omega
  apply F 7 [0] m;simp only[↓Z];apply R;omega;exact af (vi-(k+1)) _ _ (by omega) (by kernel_rfl) ⟨k+1,_,_,_,_,_,_,M,S,O,m,by omega,by omega,by omega,O⟩
 obtain rfl:k=vi:=by omega
 have h5:M.length=e:=(m.o 1 rfl).num Pb (by decide);have h6:S.length=d:=(m.o 0 rfl).num xG (by decide);have ay:=(m.o 0 rfl).le;apply F 7 [0] m;simp only[↓Z];refine bT [9] [4,10,11,12,13,50,51,52,53,54,55,56,57,58,59,60,61,62,63,64,65,66,67,68,69,70,71,72,73,74,75,76,77,78,79,80,81] (λn vs B=>∃(s:Nat),vs=[U (s:Int)]/\Mem w B [oI 41 3 r d l (S.flatMap kS),oI 43 9 g e h (M.flatMap aP),bI C (kS p) 41]/\(s<=d)/\(n=d-s)) ?_ ?_
 .exact⟨_,0,O,m,bm _,O⟩
 intro n vs K z u K3 T;obtain⟨s,rfl,m,ar,aw⟩:=z;simp only[zu,zF,zG];apply F 8 [0,0] m;simp only[↓Z,gZ];refine aZ O ?_ ?_<;>intro am
 .obtain⟨I,ad⟩:∃I,S[s]? = H I:=⟨_,ah (by omega)⟩
  obtain⟨gO,rfl⟩:=(m.o 0 rfl).some (by omega);apply qW 17 [0,0,0,0] m;simp only[↓Z,gK,gC,aW,ab,ae,aa];refine⟨_,λu m=>(lA (((m.o 0 O).at xG ad).lies aM aD)),λP=>⟨by omega,?_⟩⟩;intro u m;refine bT [11] [4,12,13,60,61,62,63,64,65,66,67,68,69,70,71,72,73,74,75,76,77,78,79,80,81] (λn vs B=>∃(j:Nat)(x:Y),vs=[U (j:Int)]/\Mem w B [bI P (kS x) 41,oI 41 3 (H ⟨gO,0,X8⟩) d l (S.flatMap kS),oI 43 9 g e h (M.flatMap aP),bI C (kS p) 41]/\(1<=j)/\(j<=e+1)/\(n=e+1-j)) ?_ ?_
  .exact⟨_,1,I,O,m,bg _,by omega,O⟩
  intro n vs K z u K4 ag;obtain⟨j,x,rfl,m,hj,aq,ax⟩:=z;simp only[zu,zF,zG];apply F 8 [0,0] m;simp only[↓Z,gN];refine aZ O ?_ ?_<;>intro ao
  .obtain⟨f,hf⟩:∃f,M.length-j=f+1:=⟨M.length-j-1,by omega⟩
   apply F 8 [4,1,0] m;simp only[↓Z,aW];refine bY m O O (aiv (p:=p) (q:=x) _ ((m.o 2 O).lat Pb (by decide)) (by omega)) ?_;rintro v u m ⟨y,aj,rfl⟩;apply kZ 13 [0,0] m;simp only[↓Z,gC,aW,aa];intro g3 u m;refine iY O ?_ ?_<;>intro ap
   .skip
    apply F 7 [0] m;simp only[↓Z];apply R;omega;exact T (d-(s+1)) _ _ (by omega) (by kernel_rfl) ⟨s+1,O,(m.sel [X7,X7,N,N,N]),by omega,O⟩
   skip
   apply qW 7 [1,1,0] m;simp only[↓Z,aW,aa];intro u m;refine mq m aB (by kernel_rfl) (cW 6 [2,0,0] ?_);simp only[↓Z,aW,gK,ab,ae];refine⟨_,λu m=>(lA (((m.o 2 O).at xG ad).lies aM aD)),_,fX,by omega,?_⟩;refine bD ?_;intro u m;refine gc (aZ O (λai=>?_) (λai=>?_))
   .apply F 5 [] m;simp only[↓Z];exact aS O O ⟨_,O,m.ext,_,O⟩
   apply F 7 [0] m;simp only[↓Z];apply R;omega;exact ag (e+1-(j+1)) _ _ (by omega) (by kernel_rfl) ⟨j+1,y,O,(m.sel [X7,N,N,N,N]),by omega,by omega,O⟩
  apply F 7 [0] m;simp only[↓Z];apply R;omega;exact T (d-(s+1)) _ _ (by omega) (by kernel_rfl) ⟨s+1,O,(m.sel [X7,N,N,N]),by omega,O⟩
 apply F 6 [] m;simp only[↓Z];exact aS O O ⟨_,O,m.ext,_,O⟩
def asj(d:x=decide (t.b.Lt t.a))(e:y=decide (t.c.Lt t.a))(f:z=decide (t.c.Lt t.b))(h:(y&&(z || !x))=N):j t=⟨t.c,t.a,t.b⟩:=by
 subst d;subst e;subst f;simp only[ck,Y2,gz,ip,Y7] at h;exact Z9 h
def ara(f:x=decide (t.b.Lt t.a))(g:y=decide (t.c.Lt t.a))(i:z=decide (t.c.Lt t.b))(h:(y&&(z || !x))=X7)(d:x=N):j t=⟨t.b,t.c,t.a⟩:=by
 subst f;subst g;subst i;have e:¬(t.c.Lt t.a/\(t.c.Lt t.b\/¬t.b.Lt t.a)):=λk=>by
  rw[Y5 k.1,Bool.true_and] at h;rcases k.2 with k2|k2
  .rw[Y5 k2] at h;cases h
  exact k2 (Y9 d)
 rw[j,K0 e,Z9 (Y9 d)]
def arb(g:x=decide (t.b.Lt t.a))(i:y=decide (t.c.Lt t.a))(l:z=decide (t.c.Lt t.b))(h:(y&&(z || !x))=X7)(d:x=X7):j t=t:=by
 subst g;subst i;subst l;have f:=X5 d;have e:¬(t.c.Lt t.a/\(t.c.Lt t.b\/¬t.b.Lt t.a)):=λk=>by
  rw[Y5 k.1,d] at h;simp at h
 rw[j,K0 e,K0 f]
/-! ### How often a triangle is hit -/
def cV(ms:List Mv)(fs:List T3)(i:Nat)(u:T3):am:=U ((rY ms (fs.take i) u:Nat):Int)
def Ao(ms:List Mv)(fs gs:List T3)(i q:Nat):List am:=(gs.take q).map (cV ms fs (i+1))++(gs.drop q).map (cV ms fs i)
def xA  : dO X9 51 [tr t] (tr (j t)):=by
 intro w;refine⟨bP func51 (by kernel_rfl),?_⟩;have m:=Mem.refl w
 go_enter func51,ntmps51
 apply gJ 11 [2,2,0] m;simp only[↓Z,uE,cD,aW,ac,C,aa];intro i k;apply R;omega;intro u m;refine iE m O O (lB (p:=t.b) (q:=t.a)) 8 [2,2,0] ?_;simp only[↓Z,cD,aW,ac,C,aa];apply R;omega;intro u m;refine iE m O O (lB (p:=t.c) (q:=t.a)) 8 [2,2,0] ?_;simp only[↓Z,cD,aW,ac,C,aa];apply R;omega;intro u m;refine iE m O O (lB (p:=t.c) (q:=t.b)) 4 [] ?_;simp only[↓Z];intro u m;cases e:decide (t.c.Lt t.a)
 .apply aQ 17 [0,0,0,0,0,0] m;simp only[↓Z];refine dH O ?_ ?_<;>intro f
  .have d:=ara (t:=t) rfl rfl rfl (by rw[e];rfl) f;apply qW 12 [2,2,2,0] m;simp only[↓Z,cD,aW,Ah,fM,ac,C,aa];apply R;omega;intro u m;refine aS O ⟨_,O,((m.b 0 O).full eD bK)⟩ ?_;try simp only[zD,zE]
   exact⟨_,O,m.ext,by rw[d];rfl⟩
  have d:=arb (t:=t) rfl rfl rfl (by rw[e];rfl) f;apply qW 7 [2,0] m;simp only[↓Z,fM,aa];intro u m;refine aS O ⟨_,O,((m.b 0 O).full eD bK)⟩ ?_;try simp only[zD,zE]
  exact⟨_,O,m.ext,by rw[d];rfl⟩
 apply aQ 5 [0,0,0] m;simp only[↓Z];refine eO O (λh=>aF) (eO O (λh=>sT (cG h O)) (bQ O (aA (qG O O O) ?_)));apply aL 2 [0] m;simp only[↓Z];refine dH O ?_ ?_<;>intro g
 .have d:=asj (t:=t) rfl rfl rfl (by rw[e];exact g);apply qW 12 [2,2,2,0] m;simp only[↓Z,cD,aW,Ah,fM,ac,C,aa];apply R;omega;intro u m;refine aS O ⟨_,O,((m.b 0 O).full eD bK)⟩ ?_;try simp only[zD,zE]
  exact⟨_,O,m.ext,by rw[d];rfl⟩
 apply F 6 [0] m;simp only[↓Z];refine dH O ?_ ?_<;>intro f
 .have d:=ara (t:=t) rfl rfl rfl (by rw[e];exact g) f;apply qW 12 [2,2,2,0] m;simp only[↓Z,cD,aW,Ah,fM,ac,C,aa];apply R;omega;intro u m;refine aS O ⟨_,O,((m.b 0 O).full eD bK)⟩ ?_;try simp only[zD,zE]
  exact⟨_,O,m.ext,by rw[d];rfl⟩
 have d:=arb (t:=t) rfl rfl rfl (by rw[e];exact g) f;apply qW 7 [2,0] m;simp only[↓Z,fM,aa];intro u m;refine aS O ⟨_,O,((m.b 0 O).full eD bK)⟩ ?_;try simp only[zD,zE]
 exact⟨_,O,m.ext,by rw[d];rfl⟩
def api{p:Y}(h:¬(p.x=q.x/\p.y=q.y/\p.z=q.z)):p≠q:=λk=>h (by rw[k];exact⟨rfl,rfl,rfl⟩)
def apj{p:Y}(h:¬¬(p.x=q.x/\p.y=q.y/\p.z=q.z)):p=q:=by
 obtain⟨a,b,c⟩:=Classical.not_not.1 h;exact Y.eq a b c
def arc(h:s.a≠t.a):decide (s.Lt t)=decide (s.a.Lt t.a):=by unfold T3.Lt;simp[h]
def ard(e:s.a=t.a)(h:s.b≠t.b):decide (s.Lt t)=decide (s.b.Lt t.b):=by unfold T3.Lt;simp[h,e,Y.lt_irrefl]
def am4(e:s.a=t.a)(f:s.b=t.b):decide (s.Lt t)=decide (s.c.Lt t.c):=by unfold T3.Lt;simp[e,f,Y.lt_irrefl]
def are(e:s.a=t.a)(f:s.b=t.b)(h:s.c=t.c):decide (s.Lt t)=X7:=by rw[am4 e f,h];simp[Y.lt_irrefl]
def kQ(ls bs:List T3):List T3:=ls.merge bs λx y=>!decide (y.Lt x)
def aiw(bs:List T3):kQ [] bs=bs:=by simp[kQ]
def aa3(ls:List T3):kQ ls []=ls:=by simp[kQ]
def aix{bs:List T3}{x y:T3}(h:y.Lt x):kQ (x::ls) (y::bs)=y::kQ (x::ls) bs:=by simp[kQ,List.cons_merge_cons,h]
def aiy{bs:List T3}{x y:T3}(h:¬y.Lt x):kQ (x::ls) (y::bs)=x::kQ ls (y::bs):=by simp[kQ,List.cons_merge_cons,h]
def Hv{α:Type}{l:List α}{i:Nat}{x:α}(h:l[i]? = H x):l.drop i=x::l.drop (i+1):=by
 obtain⟨a,b⟩:=av.1 h;rw[dw a,b]
def aa4(ts:List T3)(k:Nat):kQ (vE (ts.take k)) (vE (ts.drop k))=vE ts:=by
 refine Cc ?_ ?_ (sA ts)
 . refine (List.merge_perm_append ..).trans (((tN _).append (tN _)).trans ?_)
   rw[fi];exact (tN ts).symm
 have:=List.pairwise_merge (le:=λx y:T3=>!decide (y.Lt x)) ?_ ?_ (vE (ts.take k)) (vE (ts.drop k)) ((sA _).imp λ{a b} h=>by simpa[uD] using h) ((sA _).imp λ{a b} h=>by simpa[uD] using h)
 .exact this.imp λ{a b} h=>by simpa[uD] using h
 . intro a b c d e
   simp only[ip,Y7] at *
   exact Ln (s:=a) (t:=b) (u:=c) d e
 intro a b
 simp only[gz,ip,Y7];by_cases h:b.Lt a
 .exact .inr λk=>T3.lt_irrefl a (T3.lt_trans k h)
 exact .inl h
def Lv(h:ts.length<2):vE ts=ts:=by
 rcases ts with _|⟨t,_|⟨u,ts⟩⟩
 .rfl
 .rfl
 simp at h;omega
def aiz  : dO X9 140 [tr s,tr t] (.bool (decide (s.Lt t))):=by
 intro w;refine⟨bP func140 (by kernel_rfl),?_⟩;have m:=Mem.refl w
 go_enter func140,ntmps140
 apply gJ 25 [4,1,0] m;simp only[↓Z];intro j k;apply R;omega;intro u m;refine mq m aB (by kernel_rfl) (cW 7 [2,1] ?_);simp only[↓Z,cD,aW,ac,C,aa];refine⟨_,pK,by omega,?_⟩;refine bD ?_;intro u m;refine gc (aZ O (λd=>?_) (λd=>?_))
 .have h:=api d;apply F 1 [0] m;simp only[↓Z];refine mq m aB (by kernel_rfl) (cW 6 [2,1] ?_);simp only[↓Z,cD,aW,ac,C,aa];apply R;omega;refine X O O (lB (p:=s.a) (q:=t.a)) (aK aI (bD ?_));intro u m;apply aQ 1 [] m;simp only[↓Z];refine aS O O ?_;try simp only[zD,zE]
  exact⟨_,O,m.ext,by rw[arc h]⟩
 have e:=apj d;apply F 19 [1,0] m;simp only[↓Z,M];apply R;omega;refine mq m aB (by kernel_rfl) (cW 7 [2,1] ?_);simp only[↓Z,cD,aW,ac,C,aa];refine⟨_,pK,by omega,?_⟩;refine bD ?_;intro u m;refine gc (aZ O (λd=>?_) (λd=>?_))
 .have i:=api d;apply F 1 [0] m;simp only[↓Z];refine mq m aB (by kernel_rfl) (cW 6 [2,1] ?_);simp only[↓Z,cD,aW,ac,C,aa];apply R;omega;refine X O O (lB (p:=s.b) (q:=t.b)) (aK aI (bD ?_));intro u m;apply aQ 1 [] m;simp only[↓Z];refine aS O O ?_;try simp only[zD,zE]
  exact⟨_,O,m.ext,by rw[ard e i]⟩
 have f:=apj d;apply F 19 [1,0] m;simp only[↓Z,M];apply R;omega;refine mq m aB (by kernel_rfl) (cW 7 [2,1] ?_);simp only[↓Z,cD,aW,ac,C,aa];refine⟨_,pK,by omega,?_⟩;refine bD ?_;intro u m;refine gc (aZ O (λd=>?_) (λd=>?_))
 .have l:=api d;apply F 1 [0] m;simp only[↓Z];refine mq m aB (by kernel_rfl) (cW 6 [2,1] ?_);simp only[↓Z,cD,aW,ac,C,aa];apply R;omega;refine X O O (lB (p:=s.c) (q:=t.c)) (aK aI (bD ?_));intro u m;apply aQ 1 [] m;simp only[↓Z];refine aS O O ?_;try simp only[zD,zE]
  exact⟨_,O,m.ext,by rw[am4 e f]⟩
 have g:=apj d;apply F 21 [2] m;simp only[↓Z,M];apply R;omega;refine aS O O ?_;try simp only[zD,zE]
 exact⟨_,O,m.ext,by rw[are e f g]⟩
def aiA{ms:List T3}{M L:Nat}{C:Option Addr}(w:an)(E:cI w A vi ls)(p:cI w C M ms)(ad:M<=L)(hN:vi+M<=100000000):cX X9 93 [.slice A vi cap,.slice C M L] w (SL 43 9 ((kQ ls ms).flatMap aP) (vi+M) w):=by
 refine⟨bP func93 (by kernel_rfl),?_⟩;have m:=Mem.refl w;have aj:=E.len;have aa:=p.len
 go_enter func93,ntmps93
 apply iD 6 [0] m;simp only[↓Z];refine aA aI ?_;replace m:=m.nilO 43 9;apply aL 11 [0] m;simp only[↓Z];refine bT [5,6,7] [8,9,10,11,12,13,14,15,16,17,18,19,20,21,22,23,24,25,26,27,28,29,30,31,32,33,34,35,36,37,38,39,40,41,42,43,44,45] (λn vs r=>∃(i j:Nat)(xs:List T3)(c:Option Addr)(d:Nat),vs=[.slice c (i+j) d,U (j:Int),U (i:Int)]/\Mem w r [oI 43 9 c (i+j) d (xs.flatMap aP)]/\(xs++kQ (ls.drop i) (ms.drop j)=kQ ls ms)/\(i<=vi)/\(j<=M)/\(n=vi-i)) ?_ ?_
 .exact⟨_,0,0,[],_,_,O,m,O,bm _,bm _,O⟩
 intro n vs T e u K1 I
 obtain⟨i,j,xs,c,d,rfl,m,e,hi,l,hn⟩:=e;simp only[zu,zF,zG];apply F 8 [0,0] m;simp only[↓Z,gN];refine aZ O ?_ ?_<;>intro ag
 .obtain⟨x,q,_,a,Q,B⟩:=E.get (i:=i) (by omega);subst Q;apply F 5 [0] m;simp only[↓Z];refine bT [5,6] [8,15,16,17,18,19,20,21,22,23,24,25,26,27,28,29,30,31,32,33,34,35,36,37,38] (λn vs r=>∃(j:Nat)(xs:List T3)(c:Option Addr)(d:Nat),vs=[.slice c (i+j) d,U (j:Int)]/\Mem w r [oI 43 9 c (i+j) d (xs.flatMap aP)]/\(xs++kQ (ls.drop i) (ms.drop j)=kQ ls ms)/\(j<=M)/\(n=M-j)) ?_ ?_
  .exact⟨_,j,xs,_,_,O,m,e,l,O⟩
  intro n vs T e u K2 X
  obtain⟨j,xs,c,d,rfl,m,v,l,ai⟩:=e;simp only[zu,zF,zG];apply F 8 [0,0] m;simp only[↓Z,gN];refine aZ O ?_ ?_<;>intro ah
  .obtain⟨y,G,_,a2,V,P⟩:=p.get (i:=j) (by omega);subst V;apply F 3 [0] m;simp only[↓Z];refine mh m [N] [(0,N),(1,N),(2,N),(4,N),(5,N),(6,N),(3,N),(7,N),(8,X7),(9,N)] aB (by kernel_rfl) (bR (λ_ _ _ _ _ h=>h)) (ol:=?_) ?Y ?_
   case Y=>simp only[zw,zQ,zR];try rfl
   intro u m;refine tL 8 [0,1,0,1] ?_;simp only[↓Z,eY,ab,ae];refine⟨_,λu m=>((P.ext m.ext).lies eD bK),_,λu m=>((B.ext m.ext).lies eD bK),by omega,?_⟩;refine bX (eV m O O (aiz (s:=y) (t:=x)) ?_);intro u m;refine S ⟨m,?_⟩;refine aV aI (aT ?_);apply aQ 6 [0] m;simp only[↓Z];refine dH O ?_ ?_<;>intro K
   .have z:(xs++[x])++kQ (ls.drop (i+1)) (ms.drop j)=kQ ls ms:=by rw[<-v,Hv q,Hv G,aiy (by simpa using K),di];rfl
    apply F 7 [0,1,0] m;simp only[↓Z,eY,ab,ae];refine⟨_,λu m=>((B.ext m.ext).lies eD bK),by omega,?_⟩;refine jL O ?_;intro u D f g k;replace m:=m.newB f g k;simp only[J];refine bJ m 1 O O gB mS O (by decide) O O O (m.b 0 O).rowsO (fU O) (by omega) (by omega) ?_;intro c d u m;simp only[zF,zG] at m;rw[show xs.flatMap aP++_=(xs++[x]).flatMap aP by rw[au];rfl] at m;apply aL 8 [0] m;simp only[↓Z];apply R;omega;rw[show i+j+1=i+1+j by omega] at m ⊢;exact I (vi-(i+1)) _ _ (by omega) (by kernel_rfl) ⟨i+1,j,xs++[x],_,_,O,(m.sel [X7,N]),z,by omega,l,O⟩
   have W:(xs++[y])++kQ (ls.drop i) (ms.drop (j+1))=kQ ls ms:=by rw[<-v,Hv q,Hv G,aix (by simpa using K),di];rfl
   apply F 8 [0,1,0] m;simp only[↓Z,eY,ab,ae];refine⟨_,λu m=>((P.ext m.ext).lies eD bK),by omega,?_⟩;refine jL O ?_;intro u D f g k;replace m:=m.newB f g k;simp only[J];refine bJ m 1 O O gB mS O (by decide) O O O (m.b 0 O).rowsO (fU O) (by omega) (by omega) ?_;intro c d u m;simp only[zF,zG] at m;rw[show xs.flatMap aP++_=(xs++[y]).flatMap aP by rw[au];rfl] at m;apply aL 8 [0] m;simp only[↓Z];apply R;omega;rw[show i+j+1=i+(j+1) by omega] at m ⊢;exact X (M-(j+1)) _ _ (by omega) (by kernel_rfl) ⟨j+1,xs++[y],_,_,O,(m.sel [X7,N]),W,by omega,O⟩
  obtain rfl:j=M:=by omega
  have z:(xs++[x])++kQ (ls.drop (i+1)) (ms.drop j)=kQ ls ms:=by rw[<-v,Hv q,show ms.drop j=[] from fl (by omega),aa3,aa3,di];rfl
  apply F 7 [0,1,0] m;simp only[↓Z,eY,ab,ae];refine⟨_,λu m=>((B.ext m.ext).lies eD bK),by omega,?_⟩;refine jL O ?_;intro u D f g k;replace m:=m.newB f g k;simp only[J];refine bJ m 1 O O gB mS O (by decide) O O O (m.b 0 O).rowsO (fU O) (by omega) (by omega) ?_;intro c d u m;simp only[zF,zG] at m;rw[show xs.flatMap aP++_=(xs++[x]).flatMap aP by rw[au];rfl] at m;apply aL 8 [0] m;simp only[↓Z];apply R;omega;rw[show i+j+1=i+1+j by omega] at m ⊢;exact I (vi-(i+1)) _ _ (by omega) (by kernel_rfl) ⟨i+1,j,xs++[x],_,_,O,(m.sel [X7,N]),z,by omega,l,O⟩
 obtain rfl:i=vi:=by omega
 have af:xs++ms.drop j=kQ ls ms:=by rw[<-e,show ls.drop i=[] from fl (by omega),aiw]
 apply F 6 [0] m;simp only[↓Z];refine aA (gS gB bK O O (ab _) (by omega) (by omega) O) ?_;simp only[J];refine bJ m 0 O O gB mS O (by decide) O O (by rw[tA,ef,aa]) ((p.lat.ext m.ext).cellsD Pb (by decide) ad) (qF _) (by omega) (by omega) ?_;intro c d u m;simp only[zF,zG] at m;rw[<-au,af] at m;apply aL 3 [] m;simp only[↓Z];exact aS O O ⟨_,O,m.ext,⟨_,_,_,by omega,O,(m.o 0 O)⟩⟩
end
end Go.Proofs.YtbbokjbcdkgfgaaGreatDoor
namespace Go.Lith
section
open Go.RowKit
variable{w:an}{vi:Nat}
section
variable{w0 w w':an}{is:List It}
def Mem.plus{d:List It}(m:Mem w0 w is)(h:Mem w w' d):Mem w0 w' (d++is):=by
 have a:=m.ext' h.ext;refine⟨a.ext,λi hi=>?_,λi hi b c=>?_,gm.2 ⟨h.nd,m.nd,λi hi j g b e f=>?_⟩⟩
 .exact (bz.1 hi).elim (h.all i) (a.all i)
 . rcases bz.1 hi with hi|hi
   .exact ay m.ext.size (h.ge i hi b c)
   exact a.ge i hi b c
 have k:=h.ge i hi b e
 have l:=j.lt w b (m.all j g) f;omega
end
structure Hd where
 A:Option Addr
 n:Nat
 cap:Nat
def Hd.v(h:Hd):am:=.slice h.A h.n h.cap
structure Dj(w:an)(A:Option Addr)(vi:Nat)(xs:List (List T3)):Prop where
 len:xs.length=vi
 row:∀i l,xs[i]? = H l->∃a,∃h:Hd,A=H a/\w.cell? (a.add i)=H h.v/\cI w h.A h.n l/\h.n<=h.cap
def Dj.get{A:Option Addr}{i:Nat}{xs:List (List T3)}(h:Dj w A vi xs)(g:i<vi):∃l,xs[i]? = H l/\∃a B n c,A=H a/\w.cell? (a.add i)=H (.slice B n c)/\cI w B n l/\n<=c:=by
 have d:i<xs.length:=by rw[h.len];exact g
 obtain⟨a,b,e,f,j,k⟩:=h.row i _ (ah d);exact⟨xs[i],ah d,a,b.A,b.n,b.cap,e,f,j,k⟩
def cI.takeL{A:Option Addr}{k:Nat}{ts:List T3}(h:cI w A vi ts)(b:k<=vi):cI w A k (ts.take k):=
 ⟨by rw[bf,h.len];exact de b,λt c=>h.it t (gj c),λi t a=>by
  rw[fa] at a;split at a
  .exact h.row i t a
  cases a⟩
def cI.dropL{A:Option Addr}{k cap:Nat}{ts:List T3}(h:cI w A vi ts)(j:k<=vi)(g:vi<=cap):cI w (if cap=k then A else A.map (·.add (k*9))) (vi-k) (ts.drop k):=
 ⟨by rw[ef,h.len],λt f=>h.it t (List.mem_of_mem_drop f),λi t b=>by
  rw[dn] at b;obtain⟨a,e,d⟩:=h.row _ t b;have c:=(av.1 b).1;rw[h.len] at c;rw[K0 (by omega),e];refine⟨_,O,?_⟩;rw[gQ,<-Nat.add_mul];exact d⟩
end
section
open Go.RowKit Go.ChangeMaps Go.MapKept
def Qs(is:List It):It where
 own b:=∃i∈is,i.own b
 P w:=(∀i∈is,i.P w)/\is.Pairwise Ap
 lt w b h e:=by obtain⟨i,hi,ho⟩:=e;exact i.lt w b (h.1 i hi) ho
 st w w' h s k:=⟨λi hi=>i.st w w' (h.1 i hi) s λb hb=>k b ⟨i,hi,hb⟩,h.2⟩
section
variable{w0 w:an}{a is:List It}
def Mem.pack(a:List It)(m:Mem w0 w (a++is)):Mem w0 w (a++[Qs is]):=by
 have h:=gm.1 m.nd;refine⟨m.ext,λi hi=>?_,λi hi b c=>?_,gm.2 ⟨h.1,mb _ _,λx g y k b e f=>?_⟩⟩
 . rcases bz.1 hi with hi|hi
   .exact m.all i (jf _ hi)
   obtain rfl:=cr.1 hi
   exact⟨λi hi=>m.all i (gv _ hi),h.2.1⟩
 . rcases bz.1 hi with hi|hi
   .exact m.ge i (jf _ hi) b c
   obtain rfl:=cr.1 hi
   obtain⟨j,d,c⟩:=c;exact m.ge j (gv _ d) b c
 obtain rfl:=cr.1 k
 obtain⟨j,d,c⟩:=f;exact h.2.2 x g j d b e c
def Mem.unpack(a:List It)(m:Mem w0 w (a++[Qs is])):Mem w0 w (a++is):=by
 have h:=gm.1 m.nd;have c:(∀i∈is,i.P w)/\is.Pairwise Ap:=m.all _ (gv _ (ow _));refine⟨m.ext,λi hi=>?_,λi hi b d=>?_,gm.2 ⟨h.1,c.2,λx g y j b e f=>?_⟩⟩
 . rcases bz.1 hi with hi|hi
   .exact m.all i (jf _ hi)
   exact c.1 i hi
 . rcases bz.1 hi with hi|hi
   .exact m.ge i (jf _ hi) b d
   exact m.ge _ (gv _ (ow _)) b ⟨i,hi,d⟩
 exact h.2.2 x g _ (ow _) b e ⟨y,j,f⟩
end
def Qt(P:B)(f:FuncId)(args:List am)(w:an)(R:am->an->Prop):Prop:=
 Entr P f/\Calls P f args.toArray w λe w'=>∃v,e=.returned v/\R v w'
section
variable{P:B}{ds:List d_}{l:List am}{ty:ba}{w:an}
variable{ops:Array Oper}{Q:Exit->Act->an->Prop}{rest:List Oper}{d:Nat}{pos:String}{after:Array Edge}
def qQ{f:FuncId}{a:cw}{xs:Array cw}{args:List am}{first cap:Array am}{a0:Array ba}{R:am->an->Prop}(i:ev l a=.func (.func f) first cap)(j:first.toList++xs.toList.map (ev l)++cap.toList=args)(b:Qt P f args w R)
 (h:∀v u,R v u->be P ops Q rest (Fr (l.set d v) ds) u):be P ops Q (cj (H d) (.call { callee:=.value a,args:=xs,argTypes:=a0 }) ty pos after X8::rest) (Fr l ds) w:=by
 refine wpList_plain O λK c=>?_;unfold Oper.wp;rw[jO,pX b.1 i j _ rfl];refine b.2.mono ?_;rintro e w' ⟨v,rfl,g⟩;show K ((Fr l ds).put (H d) v) w'
 rw[iK];exact c _ _ (h v w' g)
end
end
section
section
variable{w0 w:an}{x y z:It}{is:List It}
def Mem.pack1(m:Mem w0 w (x::is)):Mem w0 w [x,Qs is]:=Mem.pack [x] m
def Mem.pack3(m:Mem w0 w (x::y::z::is)):Mem w0 w [x,y,z,Qs is]:=Mem.pack [x,y,z] m
def Mem.unpack3(m:Mem w0 w [x,y,z,Qs is]):Mem w0 w (x::y::z::is):=Mem.unpack [x,y,z] m
end
end
end Go.Lith
