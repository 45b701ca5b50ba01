/-
 Texts of one claim, laid together: Nest2, K19, K20, K21, K22, K23, Mono, K24, K25, Trav, K27, K28, Maps2, K29, K75, Meas1.
-/
import Derived.RunT
import Derived.Test.YtfekpcimgncioaaGreatDoorCP7
open Nat renaming reduceAdd→aa,reduceMul→ag,le_refl→aq,zero_add→au,le_trans→ba,zero_le→cv,lt_succ_self→fg,min_eq_left→gr,le_succ→qi
open Int renaming reduceToNat→ad,toNat_natCast→ah,reduceAdd→ak
open Go renaming Value→ai,World→aj,wpList→ar,TypeId→az,Program→br,wpQuiet→cw,MapEntry→c_
open List renaming getElem?_eq_getElem→am,mem_cons→an,getElem?_eq_some_iff→ap,length_cons→av,length_append→aw,flatMap_append→ay,take_of_length_le→a_,mem_singleton→bf,mem_cons_of_mem→bg,mem_of_getElem?→bh,mem_append→bi,map_cons→bj,mem_cons_self→bm,length_take→bp,pairwise_cons→bt,length_nil→bv,length_map→bx,nil_append→b_,not_mem_nil→cg,cons_append→cn,append_assoc→cq,map_append→ct,all_eq_true→de,range→df,mem_map→dh,mem_filter→dw,map_nil→dx,mem_iff_getElem?→ej,mem_flatMap→el,getD_eq_getElem?_getD→eo,append_nil→fa,getElem?_map→fb,any_eq_true→fe,mem_map_of_mem→fk,take_length→fp,length_filter_le→fu,map_toArray→fz,mem_append_right→gp,nodup_cons→gt,length_set→gu,mem_append_left→ig,filter_append→il,range_succ→im,map_congr_left→ir,nodup_append→jr,flatMap_singleton→jw,nodup_nil→kx,map_eq_append_iff→mc,getElem?_set_self→mf,map_eq_cons_iff→nc,getElem_inj→nf,getElem?_zip_eq_some→ng,perm_cons→om,flatMap_map→ow,flatMap_assoc→pj
open Bool renaming and_eq_true→be,or_eq_true→ep,eq_iff_iff→gv,and_false→jg,false_and→kg,true_and→kj,and_self→mj,and_true→ml
open Go.Value renaming bool→bn
open Option renaming getD_some→dq,map_some→fm
open Option.some renaming inj→fq,injEq→gw
open Prod.mk renaming injEq→ft
open Array renaming eraseIdxIfInBounds→ll,toList_push→oc
open List.Perm renaming append_left→mo,refl→od
set_option maxHeartbeats 8000000
set_option linter.unusedSimpArgs false
set_option linter.unusedVariables false
set_option linter.unusedSectionVars false
namespace Go.Lith
open Go.RowKit Go.ChangeMaps
variable{t:T3}{c:P3}
section
variable {w0 w:aj} {is js ks:List It}
theorem Mem.bagPerm(m:Mem w0 w (Hl js::is))(h:js.Perm ks):Mem w0 w (Hl ks::is):=by
 obtain⟨h1,h2⟩:=bt.1 m.nd;have P:=m.all _ (bm ..);refine⟨m.ext,fun x hx=>?_,fun x hx b hb=>?_,bt.2 ⟨fun x hx b ⟨y,hy,hb⟩ hxb=>?_,h2⟩⟩
 · rcases an.1 hx with rfl | hx
   · exact⟨fun j hj=>P.1 j (h.mem_iff.2 hj),(h.pairwise_iff (fun {a b} (h:Ap a b)=>h.symm)).1 P.2⟩
   · exact m.all x (bg _ hx)
 · rcases an.1 hx with rfl | hx
   · obtain⟨y,hy,hb⟩:=hb
     exact m.ge _ (bm ..) b ⟨y,h.mem_iff.2 hy,hb⟩
   · exact m.ge x (bg _ hx) b hb
 · exact h1 x hx b ⟨y,h.mem_iff.2 hy,hb⟩ hxb
theorem acE{K V:Type}[DecidableEq K]{k:K}{v:V}{e:K × V}:∀{D:List (K × V)},(D.map (·.1)).Nodup→e∈fI D k v→e=(k,v)∨(e∈D∧e.1≠k)
 | [],_,h=>.inl (bf.1 h)
 | x::D,hn,h=>by
  obtain⟨n1,n2⟩:=gt.1 hn;unfold fI at h;split at h
  · rename_i hk
    rcases an.1 h with h | h
    · exact .inl h
    · exact .inr ⟨bg _ h,fun e'=>n1 (dh.2 ⟨e,h,e'.trans hk.symm⟩)⟩
  · rename_i hk
    rcases an.1 h with h | h
    · exact .inr ⟨h▸bm ..,h▸hk⟩
    · rcases acE n2 h with h | h
      · exact .inl h
      · exact .inr ⟨bg _ h.1,h.2⟩
variable {E:az} {fs:P3→List T3} {D:List (P3 × Hd)}
def sI(E:az)(fs:P3→List T3)(e:P3 × Hd):It:=oI E 9 e.2.A (fs e.1).length e.2.cap ((fs e.1).flatMap aN)
structure Mx(D:List (P3 × Hd))(fs:P3→List T3):Prop where
 nk:(D.map (·.1)).Nodup
 len:∀e∈D,e.2.n=(fs e.1).length
 no:∀p,p∉D.map (·.1)→fs p=[]
 yes:∀p,p∈D.map (·.1)→fs p≠[]
theorem Mx.nil:Mx [] fun _=>[]:=⟨kx,fun _ h=>(by cases h),fun _ _=>rfl,fun _ h=>(by cases h)⟩
theorem Mx.iff(S:Mx D fs){p:P3}:p∈D.map (·.1)↔fs p≠[]:=⟨S.yes p,fun h=>Classical.byContradiction fun k=>h (S.no p k)⟩
theorem Mx.take(S:Mx D fs)(m:Mem w0 w (Hl (D.map (sI E fs))::is))(p:P3) :
 ∃rest,Mem w0 w (oI E 9 (pJ D p).A (pJ D p).n (pJ D p).cap ((fs p).flatMap aN)::Hl rest::is)∧(pJ D p).n=(fs p).length ∧
  ∀(h':Hd) (fs':P3→List T3),(∀q,q≠p→fs' q=fs q)→h'.n=(fs' p).length→fs' p≠[]→(sI E fs' (p,h')::rest).Perm ((fI D p h').map (sI E fs'))∧Mx (fI D p h') fs':=by
 have hS:∀(h':Hd) (fs':P3→List T3),(∀q,q≠p→fs' q=fs q)→h'.n=(fs' p).length→fs' p≠[]→Mx (fI D p h') fs':=fun h' fs' hq hl hy =>
  ⟨uS S.nk p h',fun e he=>by
   rcases acE S.nk he with rfl | ⟨he,hk⟩
   · exact hl
   · rw[hq _ hk];exact S.len e he,fun q hqn=>by
   rw[xH] at hqn;have h1:q∉D.map (·.1)∧q≠p:=by
    split at hqn
    · rename_i hp;exact⟨hqn,fun e=>hqn (e▸hp)⟩
    · exact⟨fun h=>hqn (ig _ h),fun e=>hqn (gp _ (by rw[e];exact bf.2 O))⟩
   rw[hq _ h1.2];exact S.no q h1.1,fun q hqn=>by
   by_cases hqp:q=p
   · rw[hqp];exact hy
   · rw[hq _ hqp]
     refine S.yes q ?_;rw[xH] at hqn;split at hqn
     · exact hqn
     · exact (bi.1 hqn).elim id fun h=>absurd (bf.1 h) hqp⟩
 have hsame:∀{fs':P3→List T3} {L:List (P3 × Hd)},(∀q,q≠p→fs' q=fs q)→(∀e∈L,e.1≠p)→L.map (sI E fs')=L.map (sI E fs):=fun {fs' L} hq hL =>
  ir fun e he=>by unfold sI;rw[hq _ (hL e he)]
 cases hf:qS D p 0 with
 | none =>
  obtain⟨h0,h1,_⟩:=rA D p 0 hf;have hnp:=pD.1 h0;have e0:pJ D p=⟨none,0,0⟩:=by unfold pJ;rw[h0];rfl
  refine⟨D.map (sI E fs),?_,?_,fun h' fs' hq hl hy=>⟨?_,hS h' fs' hq hl hy⟩⟩
  · rw[e0,S.no p hnp];exact m.nilO E 9
  · rw[e0,S.no p hnp];rfl
  · rw[h1,ct,hsame hq fun e he k=>hnp (dh.2 ⟨e,he,k⟩)]
    exact (List.perm_append_singleton _ _).symm
 | some q =>
  obtain⟨j,h⟩:=q;obtain⟨i,_,hi,h0,h1,_⟩:=nC D p 0 j h hf;have e0:pJ D p=h:=by unfold pJ;rw[h0];rfl
  have hm:(p,h)∈D:=bh hi;have hl0:=S.len _ hm;have hne:∀e∈D.eraseIdx i,e.1≠p:=fun e he k=>by
   obtain⟨q,hq⟩:=ej.1 he;rw[List.getElem?_eraseIdx] at hq;have key:∀{q:Nat},D[q]? = some e→q=i:=fun {q} hq=>by
    have a1:(D.map (·.1))[q]? = some p:=by rw[fb,hq,←k];rfl
    have a2:(D.map (·.1))[i]? = some p:=by rw[fb,hi];rfl
    obtain⟨b1,b2⟩:=ap.1 a1;obtain⟨c1,c2⟩:=ap.1 a2;exact (nf S.nk).1 (b2.trans c2.symm)
   split at hq
   · have:=key hq;omega
   · have:=key hq;omega
  refine⟨(D.map (sI E fs)).eraseIdx i,?_,?_,fun h' fs' hq hl hy=>⟨?_,hS h' fs' hq hl hy⟩⟩
  · rw[e0,show h.n=(fs p).length from hl0]
    exact m.bagPull i (j:=sI E fs (p,h)) (by rw[fb,hi];rfl)
  · rw[e0];exact hl0
  · rw[h1,←map_eraseIdx,←hsame hq hne]
    have hp:∀{l:List (P3 × Hd)} {i:Nat} {x y:P3 × Hd},l[i]? = some x→(l.set i y).Perm (y::l.eraseIdx i):=fun {l}=>by
     induction l with
     | nil=>intro i x y h;simp at h
     | cons z l ih =>
      intro i x y h;cases i with
      | zero=>exact .refl _
      | succ i=>exact ((ih (i:=i) (x:=x) (y:=y) (by simpa using h)).cons z).trans (.swap ..)
    exact ((hp (y:=(p,h')) hi).map (sI E fs')).symm
theorem Mx.trisP(S:Mx D fs)(hB:(Hl (D.map (sI E fs))).P w)(hI:∀p,∀t∈fs p,IT t)(p:P3):bV w (pJ D p).A (pJ D p).n (fs p)∧(pJ D p).n≤(pJ D p).cap:=by
 unfold pJ;cases hg:cG D p with
 | none =>
  rw[S.no p (pD.1 hg)];exact⟨bV.nil _ _,aq _⟩
 | some h =>
  have hm:=Ck hg;have hP:=hB.1 _ (dh.2 ⟨(p,h),hm,rfl⟩);have ho:Ow { w with heap:=#[] } w [] E 9 h.A (fs p).length h.cap ((fs p).flatMap aN):=⟨hP,fun _ _ h=>(by cases h),fun _ h=>(by cases h)⟩
  have hl:=S.len _ hm;simp only[dq];rw[show h.n=(fs p).length from hl];exact⟨ho.tris (hI p),ho.le⟩
end
def Uu(l:List T3)(t:T3)(cs:List P3)(p:P3):List T3:=l.filter (fun t=>t.has p)++if p∈cs then [t] else []
theorem aop(l:List T3)(t:T3):Uu l t []=fun p=>l.filter fun t=>t.has p:=by
 funext p
 unfold Uu;simp
theorem arN{l:List T3}{cs:List P3}{q:P3}(h:q≠c):Uu l t (cs++[c]) q=Uu l t cs q:=by
 unfold Uu;simp[h]
theorem arO{l:List T3}{cs:List P3}(h:c∉cs):Uu l t (cs++[c]) c=Uu l t cs c++[t]:=by
 unfold Uu;simp[h]
theorem aoq{l:List T3}{k:Nat}(ht:l[k]? = some t):Uu (l.take k) t [t.a,t.b,t.c]=fun p=>(l.take (k+1)).filter fun t=>t.has p:=by
 funext p
 unfold Uu;rw[cJ ht,il]
 congr 1
 by_cases h:t.has p=true
 · have:=mR.1 h
   simp[h,this]
 · have h':¬(p=t.a∨p=t.b∨p=t.c):=fun k=>h (mR.2 k)
   simp[h,h']
end Go.Lith
namespace Go.Proofs.YtfekpcimgncioaaGreatDoor
open Go.Proofs.Tryz
open Go.RowKit Go.Lith
set_option maxRecDepth 100000
attribute [local irreducible] ar cw gG bQ cO Code.wp
attribute [local congr] rC gX gY gZ iA iB lI iC iD iE iF iG iH iJ iK iL iM iN fJ fK iO iP iR iS iT lK dW dX cX dV iQ lJ fN fO fP iU iV lM
variable{w w0:aj}{g90 ga gf N cap ca cf k j g4 g5:Nat}{A:Option Addr}{ts:List T3}{t:T3}{q:P3}{K:It}
structure Kk(T:az)(w:aj)(g90 ga gf:Nat)(A:Option Addr)(N cap:Nat)(ea ef:Array c_)(ca cf:Nat)(D:List (P3 × Hd))(ts:List T3):Prop where
 b:fR w g90 [.slice A N cap,.map (some ga),.map (some gf)] T
 a:jF w ga ea ca
 f:jF w gf ef cf
 t:∀p,bV w (pJ D p).A (pJ D p).n (ts.filter fun t=>t.has p)∧(pJ D p).n≤(pJ D p).cap
theorem Kk.ext{T:az}{w':aj}{ea ef:Array c_}{D:List (P3 × Hd)}(h:Kk T w g90 ga gf A N cap ea ef ca cf D ts)(e:fQ w w'):Kk T w' g90 ga gf A N cap ea ef ca cf D ts :=
 ⟨h.b.ext e,h.a.ext e,h.f.ext e,fun p=>⟨(h.t p).1.ext e,(h.t p).2⟩⟩
structure Ub(ea ef:Array c_)(ca cf:Nat)(D:List (P3 × Hd))(F:List (P3 × Bool))(ts:List T3):Prop where
 a:bO pt Hd.v D ea ca
 f:bO pt bn F ef cf
 nk:(D.map (·.1)).Nodup
 k:∀p,p∈D.map (·.1)↔p∈dS ts
 b:∀p,(cG F p).getD false=onB (cN ts) p
def ahB(es:List E3):List P3:=es.flatMap fun e=>[e.1,e.2]
theorem alx{es:List E3}{p:P3}:decide (p∈ahB es)=onB es p:=by
 rw[gv,decide_eq_true_eq];unfold ahB onB;rw[el,fe];constructor
 · rintro⟨e,he,hp⟩
   refine⟨e,he,?_⟩;simp only[an,cg,or_false] at hp;rcases hp with rfl | rfl <;> simp
 · rintro⟨e,he,hp⟩
   refine⟨e,he,?_⟩;simp only[ep,decide_eq_true_eq] at hp;rcases hp with rfl | rfl <;> simp
theorem ahC{es:List E3}{e:E3}(h:es[k]? = some e):ahB (es.take (k+1))=ahB (es.take k)++[e.1]++[e.2]:=by
 rw[cJ h];unfold ahB;rw[ay,cq];rfl
def Fh(t:T3):List P3:=[t.a,t.b,t.c]
theorem af3(hj:j<3):(Fh t)[j]? = some (t.cor j):=by
 have h:j=0∨j=1∨j=2:=by omega
 rcases h with rfl | rfl | rfl <;> rfl
theorem Yl(hj:j<3):(Fh t).take (j+1)=(Fh t).take j++[t.cor j]:=cJ (af3 hj)
theorem aly(hn:t.nd=true)(hj:j<3):t.cor j∉(Fh t).take j:=fun h=>by
 have hd:(Fh t).Nodup:=Tu hn;obtain⟨i,hi⟩:=ej.1 h;rw[List.getElem?_take] at hi;split at hi
 · rename_i hij
   obtain⟨a1,a2⟩:=ap.1 hi;obtain⟨b1,b2⟩:=ap.1 (af3 (t:=t) hj);have:=(nf hd).1 (a2.trans b2.symm);omega
 · cases hi
theorem arP{p:P3}:(ts.filter fun t=>t.has p)≠[]↔p∈dS ts:=by
 constructor
 · intro h
   obtain⟨t,ht⟩:=List.exists_mem_of_ne_nil _ h;obtain⟨h1,h2⟩:=dw.1 ht;exact xK h1 h2
 · intro h e
   obtain⟨t,ht,hp⟩:=el.1 (show p∈ts.flatMap fun t=>[t.a,t.b,t.c] from h);have:t∈ts.filter fun t=>t.has p:=dw.2 ⟨ht,mR.2 (by simpa using hp)⟩;rw[e] at this;cases this
theorem Kl{is:List It}(h:(Dd is).P w)(k:Nat){i:It}(hi:is[k]? = some i):i.P w:=h.1 i (bh hi)
theorem aor(l:List T3)(t:T3)(cs:List P3)(p:P3)(h:l.length≤k):(Uu l t cs p).length≤k+1:=by
 have:=fu (fun t=>T3.has t p) l;unfold Uu;rw[aw];split <;> simp <;> omega
theorem alz(w:aj)(hT:bV w A N ts)(hnd:∀t∈ts,t.nd=true)(hN:ts.length≤1000000):dQ prog 50 [.slice A N cap] w (fun v w'=>∃g90 ga gf ea ef ca cf D F K,v=.pointer (some ⟨g90,0,none⟩)∧Mem w w' [K]∧(∀u,K.P u→Kk 109 u g90 ga gf A N cap ea ef ca cf D ts)∧Ub ea ef ca cf D F ts):=by
 refine⟨bK func50 (by kernel_rfl),?_⟩;have m:=Mem.refl w;have htl:=hT.len;have hbl:(cN ts).length≤10000000:=by have h1:=Rc (all:=aX ts) (aX ts) [];have h2:=uC ts;simp only[bv] at h1;unfold cN;omega
 go_enter func50,ntmps50
 apply fF 7 [0] m;simp only[↓aD];refine mA m ?_;intro qa u m;have hDa:=bO.nil (K:=P3) (V:=Hd) pt Hd.v;simp only[zz];refine mA m ?_;intro qf u m;have hDf:=bO.nil (K:=P3) (V:=Bool) pt bn;apply kD 4 [] m;simp only[↓aD,aqu,aa];intro g3 u m;replace m:=m.bagNil;apply aW 8 [0] m;simp only[↓aD,kA];refine bX [17] [5,7,18,19,20,21,22,23,24,25,26,27,28,29,30,31,32,33,34,35,36,37] (fun n vs wl=>∃(k:Nat) (ea:Array c_) (ca:Nat) (D:List (P3 × Hd)),vs=[.int .i64 (k:Int)]∧Mem w wl [Hl (D.map (sI 39 (fun p=>(ts.take k).filter fun t=>t.has p))),bI g3 [.slice A N cap,.map (some qa),.map (some qf)] 109,mI qf #[] 0,mI qa ea ca]∧(bO pt Hd.v D ea ca)∧(Mx D (fun p=>(ts.take k).filter fun t=>t.has p))∧(k≤N)∧(n=N-k)) ?_ ?_
 ·
  exact⟨_,0,_,_,[],O,m,hDa,Mx.nil,cv _,O⟩
 · intro n vs wr hI u K1 hK1
   obtain⟨k,esa,ca,D,rfl,m,hDa,hS1,hk,hn⟩:=hI;simp only[zu,zF,zG];apply aJ 5 [0,0] m;simp only[↓aD];refine bG O ?_ ?_<;>intro hc1
   ·
    obtain⟨t,ht,hti,a,hA,hrow⟩:=hT.get (i:=k) (by omega);subst hA;apply aJ 5 [0] m;simp only[↓aD];refine aB (aF cH aP O O (by omega) (by omega) (cQ (ah _))) ?_;simp only[zz];refine aR O ((hrow.ext m.ext).lies cF aP) ?_;simp only[zz];apply kD 9 [0,0,0] m;simp only[↓aD,nX,eL,aa];intro g4 u m;refine bX [22] [7,23,24,25,26,27,28,29,30,31,32,33,34,35,36] (fun n vs wl=>∃(j:Nat) (ea:Array c_) (ca:Nat) (D:List (P3 × Hd)),vs=[.int .i64 (j:Int)]∧Mem w wl [bI g4 [.int .i64 t.a.x,.int .i64 t.a.y,.int .i64 t.a.z,.int .i64 t.b.x,.int .i64 t.b.y,.int .i64 t.b.z,.int .i64 t.c.x,.int .i64 t.c.y,.int .i64 t.c.z] 39,Hl (D.map (sI 39 (Uu (ts.take k) t ((Fh t).take j)))),bI g3 [.slice (some a) N cap,.map (some qa),.map (some qf)] 109,mI qf #[] 0,mI qa ea ca]∧(bO pt Hd.v D ea ca)∧(Mx D (Uu (ts.take k) t ((Fh t).take j)))∧(j≤3)∧(n=3-j)) ?_ ?_
    · rw[←aop (ts.take k) t] at m hS1
      exact⟨_,0,_,_,D,O,m,hDa,hS1,cv _,O⟩
    · intro n vs wr hI u K2 hK2
      obtain⟨j,esa,ca,D,rfl,m,hDa,hS2,hj,hn2⟩:=hI;simp only[zu,zF,zG];apply aJ 5 [0,0] m;simp only[↓aD];refine bG O ?_ ?_<;>intro hc2
      ·
       have hj3:j<3:=by omega
       apply aJ 5 [0] m;simp only[↓aD];refine aB ((acC (t:=t) hj3 O O)) ?_;apply kD 3 [0] m;simp only[↓aD,eS,aS,aa];intro g5 u m;replace m:=m.pull 2 O;simp only[dY,dZ,zF,zG] at m;obtain⟨rest,m9,hn9,hS9⟩:=hS2.take m (t.cor j);replace m:=m9;clear m9;have hl9:((Uu (ts.take k) t ((Fh t).take j)) (t.cor j)).length≤k+1:=aor _ _ _ _ (by rw[bp];omega);rw[←hn9] at hl9;refine gc (mh m [false,true,true,true,true,true,false] [(0,true),(1,true),(2,true),(3,true),(4,true),(5,true),(6,false),(7,false),(8,true),(10,true),(9,false),(11,false)] aC (by kernel_rfl) (bU (fun _ _ _ _ _ h=>h)) (ol:=?_) ?hol ?_)
       case hol=>simp only[zw,zQ,zR];try rfl
       intro u m;refine Pg 6 [3,1,2] ?_;simp only[↓aD,Sv,aqs,aS,eL,aa];refine bR (eZ O ?_);intro u g6 e_ h_ k_;replace m:=m.newB e_ h_ k_;refine aM ⟨m.sel [false,false,true,true,true,true,true,false],?_⟩;refine bR ?_;simp only[zz];refine Ad (ek:=pt) (en:=Hd.v) (a:=t.cor j) (v0:=⟨none,0,0⟩) m 7 O underlying106 afd gD O O hDa ?_;intro esa ca bs u m hD' hS;simp only[zF,zG] at m;refine aM ⟨m.sel [false,false,true,true,true,true,true,false],?_⟩;refine bF (eY O O) (bF (eY O O) (bR ?_));simp only[zz];refine bL m 1 O O cH jK O (by decide) O O O (m.b 0 O).rowsO (gB O) (by omega) (by omega) ?_;intro A9 cap9 u m;simp only[zF,zG] at m;refine aM ⟨m.sel [false,false,true,true,true,true,true,false],?_⟩;refine bR ?_;simp only[zz];refine qJ (ek:=pt) (en:=Hd.v) (a:=t.cor j) (v:=(⟨A9,(pJ D (t.cor j)).n+1,cap9⟩:Hd)) m 7 O O O O hS ?_;intro esa u m hDa;simp only[zF,zG] at m;refine aM ⟨m.sel [false,false,true,true,true,true,true,false],?_⟩;refine bW ?_;replace m:=m.pull 2 O;simp only[dY,dZ,zF,zG] at m;replace m:=m.pull 2 O;simp only[dY,dZ,zF,zG] at m;have hfs:(Uu (ts.take k) t ((Fh t).take (j+1))) (t.cor j)=(Uu (ts.take k) t ((Fh t).take j)) (t.cor j)++[t]:=by rw[Yl hj3];exact arO (aly (hnd t (bh ht)) hj3)
       obtain⟨hp9,hS3⟩:=hS9 ⟨A9,(pJ D (t.cor j)).n+1,cap9⟩ (Uu (ts.take k) t ((Fh t).take (j+1))) (fun q hq=>by rw[Yl hj3];exact arN hq) (by rw[hfs,aw,hn9];rfl) (by rw[hfs];simp);rw[show ((Uu (ts.take k) t ((Fh t).take j)) (t.cor j)).flatMap aN++_=((Uu (ts.take k) t ((Fh t).take (j+1))) (t.cor j)).flatMap aN by rw[hfs,ay];rfl,show (pJ D (t.cor j)).n+1=((Uu (ts.take k) t ((Fh t).take (j+1))) (t.cor j)).length by rw[hfs,aw,hn9];rfl] at m;replace m:=(Mem.bagPush (j:=sI 39 (Uu (ts.take k) t ((Fh t).take (j+1))) (t.cor j,⟨A9,(pJ D (t.cor j)).n+1,cap9⟩)) m).bagPerm hp9;replace m:=m.pull 3 O;simp only[dY,dZ,zF,zG] at m;apply aW 5 [0] m;simp only[↓aD];refine⟨by omega,?_⟩;exact hK2 (3-(j+1)) _ _ (by omega) (by kernel_rfl) ⟨j+1,_,_,_,O,(m.sel [true,true,false,false,true,true,true]),hDa,hS3,by omega,O⟩
      ·
       obtain rfl:j=3:=by omega
       rw[show (Fh t).take 3=[t.a,t.b,t.c] from rfl,aoq ht] at m hS2;apply aJ 6 [0] m;simp only[↓aD];refine⟨by omega,?_⟩;exact hK1 (N-(k+1)) _ _ (by omega) (by kernel_rfl) ⟨k+1,_,_,D,O,(m.sel [false,true,true,true,true]),hDa,hS2,by omega,O⟩
   ·
    obtain rfl:N=k:=by omega
    rw[show ts.take N=ts from a_ (by omega)] at m hS1;apply aJ 5 [0] m;simp only[↓aD];refine bJ O O (ahj _ (hT.ext m.ext) (by omega)) ?_;rintro v u e_ ⟨A4,c4,n4,hn4,rfl,h_⟩;replace m:=m.newO e_ h_;subst hn4;apply aL 4 [0] m;simp only[↓aD,abX];refine bX [41] [9,42,43,44,45,46,47,48,49,50,51,52,53,54,55,56,57,58,59,60,61] (fun n vs wl=>∃(i:Nat) (ef:Array c_) (cf:Nat),vs=[.int .i64 (i:Int)]∧Mem w wl [oI 56 6 A4 (cN ts).length c4 ((cN ts).flatMap dD),Hl (D.map (sI 39 (fun p=>ts.filter fun t=>t.has p))),bI g3 [.slice A N cap,.map (some qa),.map (some qf)] 109,mI qf ef cf,mI qa esa ca]∧(bO pt bn (fY [] (ahB ((cN ts).take i))) ef cf)∧(i≤(cN ts).length)∧(n=(cN ts).length-i)) ?_ ?_
    ·
     exact⟨_,0,_,_,O,m,hDf,cv _,O⟩
    · intro n vs wr hI u K3 hK3
      obtain⟨i,esf,cf,rfl,m,hDf,hi,hn3⟩:=hI;simp only[zu,zF,zG];apply aJ 5 [0,0] m;simp only[↓aD];refine bG O ?_ ?_<;>intro hc3
      ·
       obtain⟨e,he,ae,hA4,hr5⟩:=((m.o 0 rfl).lat (enc:=dD) (fun _=>rfl) (by decide)).get (i:=i) (by omega);subst hA4;apply aJ 5 [0] m;simp only[↓aD];refine aB (aF pZ jQ O O (by omega) (by omega) (cQ (ah _))) ?_;simp only[zz];refine aR O (show fZ _ _ _ _ (.agg #[.int .i64 e.1.x,.int .i64 e.1.y,.int .i64 e.1.z,.int .i64 e.2.x,.int .i64 e.2.y,.int .i64 e.2.z]) from hr5.lies Gn jQ) ?_;simp only[zz];apply kD 3 [0,0] m;simp only[↓aD,Xt,Fx,aa];intro g4 u m;refine mh m [true,true,true,true,false,true] [(0,true),(1,true),(2,true),(4,true),(6,true),(7,true),(8,true),(10,true),(3,true),(5,true),(9,true),(11,true),(12,false),(13,true),(14,false),(15,false),(16,true),(17,false)] aC (by kernel_rfl) (bU (fun _ _ _ _ _ h=>h)) (ol:=?_) ?hol ?_
       case hol=>simp only[zw,zQ,zR];try rfl
       intro u m;refine Pg 12 [3,0,3,0] ?_;simp only[↓aD,Sw,Su,aqt,aS,aa,ad,ag];refine⟨by omega,?_⟩;refine bR (Ad (ek:=pt) (en:=bn) (a:=e.1) (v0:=false) m 4 O nY oU gD O O hDf ?_);intro esf cf bs u m hD' hS;simp only[zF,zG] at m;refine aM ⟨m.sel [true,true,true,true,false,true],?_⟩;refine bF (eY O O) (bR ?_);simp only[zz];refine qJ (ek:=pt) (en:=bn) (a:=e.1) (v:=true) m 4 O O O O hS ?_;intro esf u m hDf;simp only[zF,zG] at m;rw[←mL] at hDf;refine aM ⟨m.sel [true,true,true,true,false,true],?_⟩;refine bR (Ad (ek:=pt) (en:=bn) (a:=e.2) (v0:=false) m 4 O nY oU gD O O hDf ?_);intro esf cf bs u m hD' hS;simp only[zF,zG] at m;refine aM ⟨m.sel [true,true,true,true,false,true],?_⟩;refine bF (eY O O) (bR ?_);simp only[zz];refine qJ (ek:=pt) (en:=bn) (a:=e.2) (v:=true) m 4 O O O O hS ?_;intro esf u m hDf;simp only[zF,zG] at m;rw[←mL] at hDf;refine aM ⟨m.sel [true,true,true,true,false,true],?_⟩;refine bW ?_;apply aW 5 [0] m;simp only[↓aD];refine⟨by omega,?_⟩;exact hK3 ((cN ts).length-(i+1)) _ _ (by omega) (by kernel_rfl) ⟨i+1,_,_,O,(m.sel [false,true,true,true,true,true]),by rw[ahC he];exact hDf,by omega,O⟩
      ·
       obtain rfl:i=(cN ts).length:=by omega
       rw[show (cN ts).take (cN ts).length=cN ts from a_ (aq _)] at hDf;apply aJ 7 [] m;simp only[↓aD];exact aT O O ⟨_,O,m.ext,_,_,_,_,_,_,_,D,_,Dd [_,_,_,_],O,Mem.pack [] (m.sel [false,true,true,true,true]),(fun u hP=>⟨by have h:=Kl hP 1 O;exact h,by have h:=Kl hP 3 O;exact h,by have h:=Kl hP 2 O;exact h,fun p=>hS1.trisP (Kl hP 0 O) (fun p t ht=>hT.it t (dw.1 ht).1) p⟩),⟨hDa,hDf,hS1.nk,fun p=>by rw[hS1.iff];exact arP,fun p=>by rw[rZ];exact alx⟩⟩
section
variable {ts:List T3} {p q:P3} {F:List (P3 × Bool)}
theorem ahD(hF:∀z,(cG F z).getD false=onB (cN ts) z):((cG (fY [] (nS ts p)) q).getD false && !(cG F p).getD false)=zW ts p q:=by
 rw[hF,rZ];unfold zW
 congr 1
 rw[gv,decide_eq_true_eq,sG]
theorem ahE:decide (Hc (fY [] (nS ts q)) (fY [] (nS ts p))=2)=Jg ts p q:=by
 unfold Jg
 congr 2
 unfold Hc;have hp:((fY [] (nS ts p)).map (·.1)).Perm (nbL ts p):=by
  refine (List.perm_ext_iff_of_nodup (Gr _ [] kx) ?_).2 fun x=>?_
  · exact (Vq ts).sublist (List.filter_sublist ..)
  · rw[uW,Jh,sG];simp
 have e:(fun k=>(cG (fY [] (nS ts q)) k).getD false)=nbB ts q:=funext fun k=>by
  rw[rZ,gv,decide_eq_true_eq,sG]
 rw[e];exact (hp.filter _).length_eq
theorem alA(hF:∀z,(cG F z).getD false=onB (cN ts) z):aaK (fY [] (nS ts p)) (fY [] (nS ts q)) F q=So ts p q:=by
 unfold aaK So;rw[hF]
 congr 1
 rw[gv,de,de];have key:∀k,(!ahu F (fY [] (nS ts q)) q k)=(decide (k=q) || !onB (cN ts) k||nbB ts q k):=fun k=>by
  unfold ahu;have e1:decide (¬(k.x=q.x∧k.y=q.y∧k.z=q.z)) = !decide (k=q):=by
   rw[←decide_not];exact decide_eq_decide.2 ⟨fun h e=>h (by rw[e];exact⟨O,O,O⟩),fun h e=>h (P3.eq e.1 e.2.1 e.2.2)⟩
  have e2:(cG (fY [] (nS ts q)) k).getD false=nbB ts q k:=by rw[rZ,gv,decide_eq_true_eq,sG]
  rw[e1,e2,hF];cases decide (k=q) <;> cases onB (cN ts) k <;> cases nbB ts q k <;> rfl
 constructor
 · intro h k hk
   rw[←key];exact h k ((uW _ _ _).2 (.inr (sG.2 (Jh.1 hk))))
 · intro h k hk
   rw[key];exact h k (Jh.2 (sG.1 (((uW _ _ _).1 hk).elim (fun h=>(by cases h)) id)))
theorem aeF:aez (mC p q ts) (kC p q ts)=Cs ts p q:=by
 unfold aez Cs kC;rw[List.zip_map_right,List.all_map];rw[gv,de,de];constructor
 · intro h t ht
   obtain⟨i,hi⟩:=ej.1 ht;exact h (t,t) (bh (i:=i) (by rw[ng];exact⟨hi,hi⟩))
 · rintro h ⟨x,y⟩ hx
   obtain⟨i,hi⟩:=ej.1 hx;rw[ng] at hi;obtain rfl:x=y:=fq (hi.1.symm.trans hi.2);exact h x (bh hi.1)
theorem Uc(ts:List T3)(p:P3):(nS ts p).length≤3*ts.length:=by
 have h1:=fu (fun t=>T3.has t p) ts;unfold nS;rw[List.length_flatMap];have h2:∀L:List T3,(L.map fun t=>(nbT p t).length).sum≤3*L.length:=fun L=>by
  induction L with
  | nil=>exact aq _
  | cons t L ih =>
   have:(nbT p t).length≤3:=by
    unfold nbT nbK;rw[aw,aw];split <;> split <;> split <;> simp
   simp only[bj,List.sum_cons,av];omega
 exact ba (h2 _) (by omega)
theorem alB:ahA (kC p q ts) (nO p q ts)=Cu ts p q:=rfl
theorem atu(hnd:∀t∈ts,t.nd=true):∀t∈kC p q ts++nO p q ts,t.nd=true:=fun t ht=>by
 rcases bi.1 ht with h | h
 · obtain⟨s,hs,rfl⟩:=dh.1 h
   have:=(dw.1 hs).2;rw[be] at this;exact this.2
 · exact hnd t (dw.1 h).1
theorem Ym[I3 q](hI:∀t∈ts,IT t):(∀t∈kC p q ts,IT t)∧(∀t∈mC p q ts,IT t)∧∀t∈nO p q ts,IT t :=
 ⟨fun t ht=>by
  obtain⟨s,hs,rfl⟩:=dh.1 ht;have:=hI s (dw.1 hs).1;exact⟨Mq inferInstance this.a,Mq inferInstance this.b,Mq inferInstance this.c⟩,fun t ht=>hI t (dw.1 ht).1,fun t ht=>hI t (dw.1 ht).1⟩
theorem arQ(p q:P3)(ts:List T3):(kC p q ts).length+(nO p q ts).length≤ts.length+ts.length:=by
 have h1:=alv p q ts;have h2:=aeE p q ts;have h3:=aaS p q ts;omega
end
theorem Yn{ea ef:Array c_}{D:List (P3 × Hd)}{F:List (P3 × Bool)}{p:P3}[I3 p][I3 q](w:aj)(hS:Kk 109 w g90 ga gf A N cap ea ef ca cf D ts)(hD:Ub ea ef ca cf D F ts)(hT:bV w A N ts)(hnd:∀t∈ts,t.nd=true)(hN:ts.length≤1000000):dQ prog 51 [.pointer (some ⟨g90,0,none⟩),pt p,pt q] w (fun v _=>v=.bool (dC ts p q)):=by
 refine⟨bK func51 (by kernel_rfl),?_⟩;have m:=Mem.refl w;have hxl:(fY [] (nS ts p)).length≤100000000:=by have h1:=pG (nS ts p) [];have h2:=Uc ts p;simp only[bv] at h1;omega
 have hlen:=arQ p q ts;have hlen1:=aeE p q ts;have hlen2:=aaS p q ts
 go_enter func51,ntmps51
 apply jP 11 [1,0,0] m;simp only[↓aD,aS];intro g8 g9 u m;refine bJ O O (arM (p:=p) (q:=q) _ (hS.b.ext m.ext) (hS.a.ext m.ext) hD.a (fun z=>⟨(hS.t z).1.ext m.ext,(hS.t z).2⟩) (hT.ext m.ext) (by omega)) ?_;rintro v u e_ ⟨g7,qx,esx,cx,qy,esy,cy,A5,n5,cap5,A6,n6,cap6,A7,n7,cap7,rfl,hM,hDx,hDy,hn5,hn6,hn7⟩;replace m:=m.plus hM;clear hM;simp only[cn,b_] at m;apply aL 6 [0] m;simp only[↓aD];refine aB fW ?_;simp only[zz,fz,bj,dx];apply aL 1 [0] m;simp only[↓aD];refine aB fW ?_;simp only[zz,fz,bj,dx];apply aL 1 [0] m;simp only[↓aD];refine aB fW ?_;simp only[zz,fz,bj,dx];apply aL 1 [0] m;simp only[↓aD];refine aB fW ?_;simp only[zz,fz,bj,dx];apply aL 1 [0] m;simp only[↓aD];refine aB fW ?_;simp only[zz,fz,bj,dx];apply aL 1 [0] m;simp only[↓aD];refine aB fW ?_;simp only[zz,fz,bj,dx];refine adw O O O O O O ?_;intro u g10 e_ h_ k_;replace m:=m.newB e_ h_ k_;apply aL 24 [7,1,0,0] m;simp only[↓aD,aqw,Md,Xs,ad,ag,aa];refine⟨by omega,?_⟩;refine dM m O O (ahr (ts:=ts) (X:=fY [] (nS ts p)) (Y:=fY [] (nS ts q)) (F:=F) (ex:=esx) (ey:=esy) (ef:=ef) (cx:=cx) (cy:=cy) (cf:=cf) _ (m.b 1 O) (hS.b.ext m.ext) (m.p 6 O) hDx (hS.f.ext m.ext) hD.f) ?_;rintro v u m rfl;simp only[zz];rw[ahD hD.b];apply aL 2 [0] m;simp only[↓aD];refine dK O ?_ ?_<;>intro hc2
 ·
  have f0:zW ts p q=false:=by simpa using hc2
  apply aJ 5 [] m;simp only[↓aD];refine aT O O ?_;try simp only[zD,zE]
  exact⟨_,O,m.ext,by rw[show dC ts p q=false by unfold dC;simp only[f0,kg,jg,mj,kj,ml]]⟩
 ·
  have f0:zW ts p q=true:=by simpa using hc2
  apply aJ 25 [1,0,0] m;simp only[↓aD,Md,Xs,ak,ad,ag,aa];refine⟨by omega,?_⟩;refine dM m O O (aht (ts:=ts) (X:=fY [] (nS ts p)) (Y:=fY [] (nS ts q)) (F:=F) (ex:=esx) (ey:=esy) (ef:=ef) (cx:=cx) (cy:=cy) (cf:=cf) _ (m.b 1 O) (hS.b.ext m.ext) (m.p 6 O) hDx (m.p 5 O) hDy hxl) ?_;rintro v u m rfl;simp only[zz];rw[ahE];apply aL 2 [0] m;simp only[↓aD];refine dK O ?_ ?_<;>intro hc2
  ·
   have f1:Jg ts p q=false:=by simpa using hc2
   apply aJ 5 [] m;simp only[↓aD];refine aT O O ?_;try simp only[zD,zE]
   exact⟨_,O,m.ext,by rw[show dC ts p q=false by unfold dC;simp only[f0,f1,kg,jg,mj,kj,ml]]⟩
  ·
   have f1:Jg ts p q=true:=by simpa using hc2
   apply aJ 25 [1,0,0] m;simp only[↓aD,Md,Xs,ak,ad,ag,aa];refine⟨by omega,?_⟩;refine dM m O O (ahx (ts:=ts) (X:=fY [] (nS ts p)) (Y:=fY [] (nS ts q)) (F:=F) (ex:=esx) (ey:=esy) (ef:=ef) (cx:=cx) (cy:=cy) (cf:=cf) (ms:=kC p q ts) (rs:=nO p q ts) _ (m.b 1 O) (hS.b.ext m.ext) ((m.o 4 O).tris (Ym (p:=p) (q:=q) hT.it).1) ((m.o 2 O).tris (Ym (p:=p) (q:=q) hT.it).2.2) (atu hnd) (by omega)) ?_;rintro v u m rfl;simp only[zz];rw[show decide ((kC p q ts++nO p q ts).map Sn).Nodup=Pi ts p q from rfl];apply aL 2 [0] m;simp only[↓aD];refine dK O ?_ ?_<;>intro hc2
   ·
    have f2:Pi ts p q=false:=by simpa using hc2
    apply aJ 5 [] m;simp only[↓aD];refine aT O O ?_;try simp only[zD,zE]
    exact⟨_,O,m.ext,by rw[show dC ts p q=false by unfold dC;simp only[f0,f1,f2,kg,jg,mj,kj,ml]]⟩
   ·
    have f2:Pi ts p q=true:=by simpa using hc2
    apply aJ 25 [1,0,0] m;simp only[↓aD,Md,Xs,ak,ad,ag,aa];refine⟨by omega,?_⟩;refine dM m O O (akU (ts:=ts) (X:=fY [] (nS ts p)) (Y:=fY [] (nS ts q)) (F:=F) (ex:=esx) (ey:=esy) (ef:=ef) (cx:=cx) (cy:=cy) (cf:=cf) _ (m.b 1 O) (hS.b.ext m.ext) (m.p 6 O) hDx (m.p 5 O) hDy (hS.f.ext m.ext) hD.f) ?_;rintro v u m rfl;simp only[zz];rw[alA hD.b];apply aL 2 [0] m;simp only[↓aD];refine dK O ?_ ?_<;>intro hc2
    ·
     have f3:So ts p q=false:=by simpa using hc2
     apply aJ 5 [] m;simp only[↓aD];refine aT O O ?_;try simp only[zD,zE]
     exact⟨_,O,m.ext,by rw[show dC ts p q=false by unfold dC;simp only[f0,f1,f2,f3,kg,jg,mj,kj,ml]]⟩
    ·
     have f3:So ts p q=true:=by simpa using hc2
     apply aJ 25 [1,0,0] m;simp only[↓aD,Md,Xs,ak,ad,ag,aa];refine⟨by omega,?_⟩;refine dM m O O (aeA (ts:=ts) (X:=fY [] (nS ts p)) (Y:=fY [] (nS ts q)) (F:=F) (ex:=esx) (ey:=esy) (ef:=ef) (cx:=cx) (cy:=cy) (cf:=cf) (ms:=kC p q ts) (os:=mC p q ts) _ (m.b 1 O) (hS.b.ext m.ext) ((m.o 4 O).tris (Ym (p:=p) (q:=q) hT.it).1) ((m.o 3 O).tris (Ym (p:=p) (q:=q) hT.it).2.1) (by omega) (by omega)) ?_;rintro v u m rfl;simp only[zz];rw[aeF];apply aL 2 [0] m;simp only[↓aD];refine dK O ?_ ?_<;>intro hc2
     ·
      have f4:Cs ts p q=false:=by simpa using hc2
      apply aJ 5 [] m;simp only[↓aD];refine aT O O ?_;try simp only[zD,zE]
      exact⟨_,O,m.ext,by rw[show dC ts p q=false by unfold dC;simp only[f0,f1,f2,f3,f4,kg,jg,mj,kj,ml]]⟩
     ·
      have f4:Cs ts p q=true:=by simpa using hc2
      apply aJ 25 [1,0,0] m;simp only[↓aD,Md,Xs,ak,ad,ag,aa];refine⟨by omega,?_⟩;refine dM m O O (alt (ts:=ts) (X:=fY [] (nS ts p)) (Y:=fY [] (nS ts q)) (F:=F) (ex:=esx) (ey:=esy) (ef:=ef) (cx:=cx) (cy:=cy) (cf:=cf) (ms:=kC p q ts) (rs:=nO p q ts) _ (m.b 1 O) (hS.b.ext m.ext) ((m.o 4 O).tris (Ym (p:=p) (q:=q) hT.it).1) ((m.o 2 O).tris (Ym (p:=p) (q:=q) hT.it).2.2) (m.o 4 O).le (by omega)) ?_;rintro v u m rfl;simp only[zz];rw[alB];apply aL 2 [0] m;simp only[↓aD];refine dK O ?_ ?_<;>intro hc2
      ·
       have f5:Cu ts p q=false:=by simpa using hc2
       apply aJ 5 [] m;simp only[↓aD];refine aT O O ?_;try simp only[zD,zE]
       exact⟨_,O,m.ext,by rw[show dC ts p q=false by unfold dC;simp only[f0,f1,f2,f3,f4,f5,kg,jg,mj,kj,ml]]⟩
      ·
       have f5:Cu ts p q=true:=by simpa using hc2
       apply aJ 19 [2] m;simp only[↓aD,ak];refine⟨by omega,?_⟩;refine aT O O ?_;try simp only[zD,zE]
       exact⟨_,O,m.ext,by rw[show dC ts p q=true by unfold dC;simp only[f0,f1,f2,f3,f4,f5,kg,jg,mj,kj,ml]]⟩
theorem alC{P:br}{l:List ai}{op:Op}{ty:az}{b c:Bool}(h:gN P l op ty (.bool b))(e:b=c):gN P l op ty (.bool c):=e▸h
def aaT(ts:List T3)(p q:P3):Bool:=decide (p≠q)&&decide (fH true ts=0)&&dC ts p q
theorem Ud(h:fH true ts=0):∀t∈ts,t.nd=true:=fun t ht=>Go.Lith.nd_of ((abL h).1 t ht)
theorem atv{p:P3}:(p.x=q.x∧p.y=q.y∧p.z=q.z)↔p=q:=⟨fun h=>P3.eq h.1 h.2.1 h.2.2,fun h=>by rw[h];exact⟨rfl,rfl,rfl⟩⟩
theorem apx{p:P3}(h:p≠q):decide (¬(p.x=q.x∧p.y=q.y∧p.z=q.z))=true:=decide_eq_true fun k=>h (atv.1 k)
theorem atw{p:P3}(h:p=q):decide (¬(p.x=q.x∧p.y=q.y∧p.z=q.z))=false:=decide_eq_false fun k=>k (atv.2 h)
theorem My{p:P3}[I3 p][I3 q](w:aj)(hT:bV w A N ts)(hN:N≤300000):dQ prog 17 [.slice A N cap,pt p,pt q] w (fun v _=>v=.bool (aaT ts p q)):=by
 refine⟨bK func17 (by kernel_rfl),?_⟩;have m:=Mem.refl w;have htl:=hT.len
 go_enter func17,ntmps17
 apply jP 7 [] m;simp only[↓aD];intro g1 g2 u m;rcases (show p=q∨(p≠q∧fH true ts≠0)∨(p≠q∧fH true ts=0) by by_cases h1:p=q <;> by_cases h2:fH true ts=0 <;> simp[h1,h2]) with hpq | ⟨hpq,hck⟩ | ⟨hpq,hck⟩
 ·
  refine gc ?_;refine mh m [true,true] [(0,true),(1,true),(2,true),(3,true),(4,true),(5,false),(6,true),(7,true),(8,true),(9,true),(11,true),(12,true),(10,false),(13,false),(14,true),(15,true)] aC (by kernel_rfl) (bU (fun _ _ _ _ _ h=>h)) (ol:=?_) ?hol ?_
  case hol=>simp only[zw,zQ,zR];try rfl
  intro u m;refine fU O (fun u m=>((m.b 1 O).full aH aA)) ?_;simp only[zz];refine fU O (fun u m=>((m.b 0 O).full aH aA)) ?_;simp only[zz];refine bF ((alC (gW O O) (atw hpq))) (bF aI (tM O (bR (rI O ?_))));simp only[zz];refine aM ⟨m,?_⟩;refine tM O (bF (Hs O) (bF aI (tM O ?_)));simp only[zz];refine tM O (tM O (bR (rI O (aM ?_))));refine⟨m,?_⟩;refine bR (rI O ?_);simp only[zz];refine aM ⟨m,?_⟩;refine bF (Hs O) (bF aO (bW ?_));apply aW 1 [] m;simp only[↓aD];refine aT O O ?_;try simp only[zD,zE]
  exact⟨_,O,m.ext,by rw[aaT,decide_eq_false (fun h=>h hpq)];rfl⟩
 ·
  refine gc ?_;refine mh m [true,true] [(0,true),(1,true),(2,true),(3,true),(4,true),(5,false),(6,true),(7,true),(8,true),(9,true),(11,true),(12,true),(10,false),(13,false),(14,true),(15,true)] aC (by kernel_rfl) (bU (fun _ _ _ _ _ h=>h)) (ol:=?_) ?hol ?_
  case hol=>simp only[zw,zQ,zR];try rfl
  intro u m;refine fU O (fun u m=>((m.b 1 O).full aH aA)) ?_;simp only[zz];refine fU O (fun u m=>((m.b 0 O).full aH aA)) ?_;simp only[zz];refine bF ((alC (gW O O) (apx hpq))) (bF aI (Bq O (bF aI (bR (eE O ?_)))));simp only[zz];refine dM m O O (Ae _ (hT.ext m.ext) (by omega)) ?_;rintro v u m rfl;refine aM ⟨m,?_⟩;refine Bq O (bF (Yz O O hck) (bF (tL O) (bF aI ?_)));simp only[zz];refine tM O (tM O (tM O (bR (rI O ?_))));simp only[zz];refine aM ⟨m,?_⟩;refine bR (rI O (aM ?_));refine⟨m,?_⟩;refine bF (Hs O) (bF aO (bW ?_));apply aW 1 [] m;simp only[↓aD];refine aT O O ?_;try simp only[zD,zE]
  exact⟨_,O,m.ext,by rw[aaT,decide_eq_false hck,jg];rfl⟩
 ·
  refine gc ?_;refine mh m [true,true] [(0,true),(1,true),(2,true),(3,true),(4,true),(5,false),(6,true),(7,true),(8,true),(9,true),(11,true),(12,true),(10,false),(13,false),(14,true),(15,true)] aC (by kernel_rfl) (bU (fun _ _ _ _ _ h=>h)) (ol:=?_) ?hol ?_
  case hol=>simp only[zw,zQ,zR];try rfl
  intro u m;refine fU O (fun u m=>((m.b 1 O).full aH aA)) ?_;simp only[zz];refine fU O (fun u m=>((m.b 0 O).full aH aA)) ?_;simp only[zz];refine bF ((alC (gW O O) (apx hpq))) (bF aI (Bq O (bF aI (bR (eE O ?_)))));simp only[zz];refine dM m O O (Ae _ (hT.ext m.ext) (by omega)) ?_;rintro v u m rfl;refine aM ⟨m,?_⟩;refine Bq O (bF (yG O O hck) (bF (tL O) (bF aI ?_)));simp only[zz];refine Bq O (bF aI (Bq O ?_));simp only[zz];refine fU O (fun u m=>((m.b 1 O).full aH aA)) ?_;simp only[zz];refine Bq O (fU O (fun u m=>((m.b 0 O).full aH aA)) ?_);simp only[zz];refine bR (eE O (bJ O O (alz _ (hT.ext m.ext) (Ud hck) (by omega)) ?_));rintro v u e_ ⟨g90,ga,gf,ea,ef,ca,cf,D,F,K9,rfl,hM,hS9,hD9⟩;replace m:=m.plus hM;clear hM;simp only[cn,b_] at m;refine aM ⟨m.sel [false,true,true],?_⟩;refine bR (eE O ?_);simp only[zz];refine dM m O O (Yn (p:=p) (q:=q) _ (hS9 _ (m.get 0 O)) hD9 (hT.ext m.ext) (Ud hck) (by omega)) ?_;rintro v u m rfl;refine aM ⟨m.sel [false,true,true],?_⟩;refine bF (tL O) (bF aO (bW ?_));apply aW 1 [] m;simp only[↓aD];refine aT O O ?_;try simp only[zD,zE]
  exact⟨_,O,m.ext,by rw[aaT,decide_eq_true hpq,decide_eq_true hck];rfl⟩
theorem aeG{a b:List Int}(ha:a.length=10)(hb:b.length=10)(hA:Gy k a)(hB:Gy k b)(hk:k≤900000):dT prog 61 [qV a,qV b] (qV (Fc a b)):=by
 intro w;refine⟨bK func61 (by kernel_rfl),?_⟩;have m:=Mem.refl w
 go_enter func61,ntmps61
 apply jP 12 [0] m;simp only[↓aD,ajA];intro g1 g2 g3 u m;refine bX [6] [5,7,8,9,10,11,12,13,14,15,16,17,18] (fun n vs wl=>∃(i:Nat),vs=[.int .i64 (i:Int)]∧Mem w wl [bI g3 [.bool false,.string ⟨#[]⟩,.bool false,.string ⟨#[]⟩,.bool false,.string ⟨#[]⟩,.bool false,.string ⟨#[]⟩,.bool false,.string ⟨#[]⟩,.bool false,.string ⟨#[]⟩,.bool false,.string ⟨#[]⟩,.bool false,.string ⟨#[]⟩,.bool false,.string ⟨#[]⟩,.bool false,.string ⟨#[]⟩] 97,bI g2 (qC b) 97,bI g1 (qC (qP a b i)) 97]∧(i≤10)∧(n=10-i)) ?_ ?_
 ·
  exact⟨_,0,O,m,cv _,O⟩
 · intro n vs wr hI u K1 hK1
   obtain⟨i,rfl,m,hi,hn⟩:=hI;simp only[zu,zF,zG];apply aJ 5 [0,0] m;simp only[↓aD];refine bG O ?_ ?_<;>intro hc1
   ·
    have hi:i<10:=by omega
    obtain⟨x,hx0⟩:∃x,a[i]? = some x:=⟨_,aal ha hi⟩
    obtain⟨y,hy⟩:∃y,b[i]? = some y:=⟨_,aal hb hi⟩
    have hx:=asJ ha hb hi hx0;apply aJ 8 [0] m;simp only[↓aD];refine cL m 9 aC (by kernel_rfl) ?_;simp only[zy];refine aG aI (aG aI ?_);simp only[zz];refine aG (aK No aQ O O (by omega) (by omega) (nB (ah _))) ?_;simp only[zz];refine ql O (fun u m=>(show fZ _ _ _ _ (W x) from (Cw (m.b 2 O) hx).lies cI aQ)) ?_;simp only[zz];refine aG aI ?_;simp only[zz];refine aG (aK No aQ O O (by omega) (by omega) (nB (ah _))) ?_;simp only[zz];refine ql O (fun u m=>(show fZ _ _ _ _ (W y) from (Cw (m.b 1 O) hy).lies cI aQ)) ?_;simp only[zz];refine eX O O (Yi ((hA.at hx0).mono (by omega)) ((hB.at hy).mono (by omega))) ?_;simp only[zz];refine aG (aK No aQ O O (by omega) (by omega) (nB (ah _))) (bC ?_);intro u m;simp only[zz];refine bP m 2 O O O aQ (by have h1:=Cv (qP a b i);have h2:=ajv ha hb (show i≤10 by omega);simp only[av,bv];omega) rfl ?_;intro u m;simp only[zF,zG] at m;rw[show over (qC (qP a b i)) (i*2) [.bool (fX (x+y)),.string (kL (x+y))]=qC (qP a b (i+1)) from (aaj (x:=x+y) (by rw[ajv ha hb (by omega)];omega)).trans (by rw[aqk ha hb hi hx0 hy])] at m;refine aM ?_;apply aW 5 [0] m;simp only[↓aD];refine⟨by omega,?_⟩;exact hK1 (10-(i+1)) _ _ (by omega) (by kernel_rfl) ⟨i+1,O,m,by omega,O⟩
   ·
    obtain rfl:i=10:=by omega
    rw[aqj ha hb] at m;apply aJ 3 [0] m;simp only[↓aD];refine aR O (wQ (m.b 2 O) yS kX (by simp only[lL ha hb])) ?_;simp only[zz];refine Eo (n:=20) m 0 O O O (by rw[lL ha hb]) O kX ?_;intro u m;simp only[zF,zG] at m;apply aL 2 [] m;simp only[↓aD];exact aT O ⟨_,O,(wQ (m.b 0 O) yS kX (by simp only[lL ha hb]))⟩ ⟨_,O,m.ext,O⟩
theorem auA[IT t]:dT prog 182 [tr t] (qV [t.normal.x,t.normal.y,t.normal.z,0-t.normal.x*t.a.x-t.normal.y*t.a.y-t.normal.z*t.a.z]):=by
 intro w;refine⟨bK func182 (by kernel_rfl),?_⟩;have m:=Mem.refl w
 go_enter func182,ntmps182
 apply jP 8 [1,0] m;simp only[↓aD,aea,eL];intro g1 g2 u m;refine nV m O O (Ts (t:=t)) 14 [0,0,0,0,0] ?_;simp only[↓aD,Tb,ajJ,vE,fD,ajF,aea,ajE,aa,ad,ag];intro g3 g4;refine⟨by omega,?_⟩;intro u m;apply aW 31 [3,3,3,4,1,0] m;simp only[↓aD,bT,gE,cY,gI,iX,tE,ad,ag,aa];refine⟨by omega,?_⟩;refine aB (jU O O) ?_;apply aL 3 [0] m;simp only[↓aD];refine cL m 10 aC (by kernel_rfl) ?_;simp only[zy];refine eC 1 [] ?_;simp only[↓aD,Mf,ad,ag,aa];refine⟨by omega,?_⟩;refine ql O (fun u m=>(ang ((m.b 0 O).lies cI aQ O O))) ?_;simp only[zz];refine eC 4 [1] ?_;simp only[↓aD,vE,fD,ad,ag,aa];refine⟨by omega,?_⟩;refine eX O O (qK Iw.h) ?_;simp only[zz];refine eX O O (tF Bw.up Bw.up) ?_;simp only[zz];refine eX O O (Gc Bw.up Bw.up) (eC 1 [] ?_);simp only[↓aD,Mf,ad,ag,aa];refine⟨by omega,?_⟩;refine bC ?_;intro u m;refine bP m 0 O O O aQ (gV O) O ?_;intro u m;simp only[zy,zx,over,zF,zG,aa] at m;refine aM ?_;apply aW 18 [1,0] m;simp only[↓aD,ak];refine⟨by omega,?_⟩;refine aB (jV O O) ?_;apply aL 3 [0] m;simp only[↓aD];refine cL m 10 aC (by kernel_rfl) ?_;simp only[zy];refine eC 6 [0,1] ?_;simp only[↓aD,Mf,fD,vE,ad,ag,aa];refine⟨by omega,?_⟩;refine eX O O (qK Iw.h) ?_;simp only[zz];refine eX O O (tF Bw.up Bw.up) ?_;simp only[zz];refine eX O O (Gc Bw.up Bw.up) (eC 1 [] ?_);simp only[↓aD,Mf,ad,ag,aa];refine⟨by omega,?_⟩;refine bC ?_;intro u m;refine bP m 0 O O O aQ (gV O) O ?_;intro u m;simp only[zy,zx,over,zF,zG,aa] at m;refine aM ?_;apply aW 18 [1,0] m;simp only[↓aD,ak];refine⟨by omega,?_⟩;refine aB (jW O O) ?_;apply aL 3 [0] m;simp only[↓aD];refine cL m 10 aC (by kernel_rfl) ?_;simp only[zy];refine eC 6 [0,1] ?_;simp only[↓aD,Mf,fD,vE,ad,ag,aa];refine⟨by omega,?_⟩;refine eX O O (qK Iw.h) ?_;simp only[zz];refine eX O O (tF Bw.up Bw.up) ?_;simp only[zz];refine eX O O (Gc Bw.up Bw.up) (eC 1 [] ?_);simp only[↓aD,Mf,ad,ag,aa];refine⟨by omega,?_⟩;refine bC ?_;intro u m;refine bP m 0 O O O aQ (gV O) O ?_;intro u m;simp only[zy,zx,over,zF,zG,aa] at m;refine aM ?_;apply Rp 19 [2,0,2] m;simp only[↓aD,ajE,ak,aa];refine⟨by omega,?_⟩;intro u m;exact aT O ⟨_,O,((m.b 2 O).full afg Lh)⟩ ⟨_,O,m.ext,O⟩
def atx(f:FuncId)(caps:Array ai)(w0:aj)(is:List It)(k:Nat)(J:Nat→It):Prop :=
 ∀n u,n<10→Mem w0 u (is.set k (J n))→wE prog f ([.int .i64 (n:Int),.int .i64 (eI n:Int),.int .i64 (eJ n:Int)]++caps.toList) u fun _ w'=>Mem w0 w' (is.set k (J (n+1)))
theorem alD{is:List It}{f:FuncId}{caps:Array ai}{J:Nat→It}(m:Mem w0 w is)(k:Nat)(hk:is[k]? = some (J 0))(hc:atx f caps w0 is k J):Calls prog 119 [.func (.func f) #[] caps].toArray w fun e w'=>∃v i,e=.returned v∧Mem w0 w' (is.set k i)∧(v=.tuple #[]∧i=J 10):=by
 replace m:=(show Mem w0 w (is.set k (J 0)) by rw[Rm hk];exact m)
 go_enter func119,ntmps119
 apply fF 49 [5,1,5,1,0] m;simp only[↓aD];refine⟨by omega,?_⟩;refine kK O O (hc 0 _ (by decide) m) ?_;rintro v u m;apply aL 29 [1,0] m;simp only[↓aD,ak];refine⟨by omega,?_⟩;refine kK O O (hc 1 _ (by decide) m) ?_;rintro v u m;apply aL 29 [1,0] m;simp only[↓aD,ak];refine⟨by omega,?_⟩;refine kK O O (hc 2 _ (by decide) m) ?_;rintro v u m;apply aL 29 [1,0] m;simp only[↓aD,ak];refine⟨by omega,?_⟩;refine kK O O (hc 3 _ (by decide) m) ?_;rintro v u m;apply aL 65 [2,1,4,1,0] m;simp only[↓aD,ak];refine⟨by omega,?_⟩;refine kK O O (hc 4 _ (by decide) m) ?_;rintro v u m;apply aL 29 [1,0] m;simp only[↓aD,ak];refine⟨by omega,?_⟩;refine kK O O (hc 5 _ (by decide) m) ?_;rintro v u m;apply aL 29 [1,0] m;simp only[↓aD,ak];refine⟨by omega,?_⟩;refine kK O O (hc 6 _ (by decide) m) ?_;rintro v u m;apply aL 65 [2,1,3,1,0] m;simp only[↓aD,ak];refine⟨by omega,?_⟩;refine kK O O (hc 7 _ (by decide) m) ?_;rintro v u m;apply aL 29 [1,0] m;simp only[↓aD,ak];refine⟨by omega,?_⟩;refine kK O O (hc 8 _ (by decide) m) ?_;rintro v u m;apply aL 65 [2,1,2,1,0] m;simp only[↓aD,ak];refine⟨by omega,?_⟩;refine kK O O (hc 9 _ (by decide) m) ?_;rintro v u m;apply aL 34 [2,2,0] m;simp only[↓aD,ak];refine⟨by omega,?_⟩;exact Fl O ⟨_,J 10,O,m,O,O⟩
theorem aty{g3 n:Nat}{a b c d:Int}(m:Mem w0 w [bI g3 (qC (qF a b c d n)) 97,bI g5 (wC 2) 95,bI g4 (qC [a,b,c,d]) 229,K])(hn:n<10)(hp:Gy k [a,b,c,d])(hk:k≤400000):wE prog 183 [.int .i64 (n:Int),.int .i64 (eI n:Int),.int .i64 (eJ n:Int),.pointer (some ⟨g4,0,none⟩),.pointer (some ⟨g3,0,none⟩),.pointer (some ⟨g5,0,none⟩)] w fun _ w'=>Mem w0 w' [bI g3 (qC (qF a b c d (n+1))) 97,bI g5 (wC 2) 95,bI g4 (qC [a,b,c,d]) 229,K]:=by
 refine⟨bK func183 (by kernel_rfl),?_⟩;have hi:=ajw hn;have hj:=ajx hn;have hx:=ao0 a b c d hi;have hy:=ao0 a b c d hj;have hlq:=aql a b c d (show n≤10 by omega);have hpr:=ad2 hp rfl hn;have h2b:Bd 2 (2:Int):=by unfold Bd;decide
 go_enter func183,ntmps183
 apply fF 1 [0] m;simp only[↓aD];refine cL m 9 aC (by kernel_rfl) ?_;simp only[zy];refine aG aI (aG aI ?_);simp only[zz];refine aG (aK underlying229 aQ O O (by omega) (by omega) (nB (ah _))) ?_;simp only[zz];refine ql O (fun u m=>(show fZ _ _ _ _ (W ([a,b,c,d].getD (eI n) 0)) from (Cw (m.b 2 O) hx).lies cI aQ)) ?_;simp only[zz];refine aG aI ?_;simp only[zz];refine aG (aK underlying229 aQ O O (by omega) (by omega) (nB (ah _))) ?_;simp only[zz];refine ql O (fun u m=>(show fZ _ _ _ _ (W ([a,b,c,d].getD (eJ n) 0)) from (Cw (m.b 2 O) hy).lies cI aQ)) ?_;simp only[zz];refine eX O O (tF ((hp.at hx).mono (by omega)) ((hp.at hy).mono (by omega))) ?_;simp only[zz];refine aG (aK No aQ O O (by omega) (by omega) (nB (ah _))) (bC ?_);intro u m;simp only[zz];refine bP m 0 O O O aQ (by have h1:=Cv (qF a b c d n);have h2:=hlq;simp only[av,bv];omega) rfl ?_;intro u m;simp only[zF,zG] at m;rw[show over (qC (qF a b c d n)) (n*2) [.bool (fX ([a,b,c,d].getD (eI n) 0*[a,b,c,d].getD (eJ n) 0)),.string (kL ([a,b,c,d].getD (eI n) 0*[a,b,c,d].getD (eJ n) 0))]=qC ((qF a b c d n).set n (Xq [a,b,c,d] n)) from aaj (by omega)] at m;refine aM ?_;apply aW 6 [0,0] m;simp only[↓aD];refine bG O ?_ ?_<;>intro hc1
 ·
  have hq:((qF a b c d n).set n (Xq [a,b,c,d] n))[n]? = some (Xq [a,b,c,d] n):=by rw[mf (by omega)]
  have hst:=ajy (a:=a) (b:=b) (c:=c) (d:=d) hn;rw[if_neg (by omega)] at hst;refine cL m 7 aC (by kernel_rfl) ?_;simp only[zy];refine aG aI (aG aI ?_);simp only[zz];refine aG (aK No aQ O O (by omega) (by omega) (nB (ah _))) ?_;simp only[zz];refine ql O (fun u m=>(show fZ _ _ _ _ (W (Xq [a,b,c,d] n)) from (Cw (m.b 0 O) hq).lies cI aQ)) ?_;simp only[zz];refine ql O (fun u m=>(show fZ _ _ _ _ (W 2) from (m.b 1 O).lies cI aQ O O)) ?_;simp only[zz];refine eX O O (tF (hpr.mono (by omega)) (h2b.mono (by omega))) ?_;simp only[zz];refine aG (aK No aQ O O (by omega) (by omega) (nB (ah _))) (bC ?_);intro u m;simp only[zz];refine bP m 0 O O O aQ (by have h1:=Cv ((qF a b c d n).set n (Xq [a,b,c,d] n));have h2:=(gu:((qF a b c d n).set n (Xq [a,b,c,d] n)).length=_);simp only[av,bv];omega) rfl ?_;intro u m;simp only[zF,zG] at m;rw[show over (qC ((qF a b c d n).set n (Xq [a,b,c,d] n))) (n*2) [.bool (fX (Xq [a,b,c,d] n*2)),.string (kL (Xq [a,b,c,d] n*2))]=qC (((qF a b c d n).set n (Xq [a,b,c,d] n)).set n (Xq [a,b,c,d] n*2)) from aaj (by rw[gu];omega)] at m;refine aM ?_;exact Fl O ⟨_,O,by rw[hst] at m;exact m⟩
 ·
  have hst:=ajy (a:=a) (b:=b) (c:=c) (d:=d) hn;rw[if_pos (by omega),List.set_set] at hst;apply aJ 1 [0] m;simp only[↓aD];exact Fl O ⟨_,O,by rw[hst] at m;exact m⟩
theorem zw0:[bn false,Value.string ⟨#[]⟩]=wC 0:=by unfold wC;rw[Lb];rfl
theorem zq0:([.bool false,.string ⟨#[]⟩,.bool false,.string ⟨#[]⟩,.bool false,.string ⟨#[]⟩,.bool false,.string ⟨#[]⟩,.bool false,.string ⟨#[]⟩,.bool false,.string ⟨#[]⟩,.bool false,.string ⟨#[]⟩,.bool false,.string ⟨#[]⟩,.bool false,.string ⟨#[]⟩,.bool false,.string ⟨#[]⟩]:List ai)=qC q0:=by unfold qC q0;simp only[List.flatMap_cons,List.flatMap_nil,←zw0];rfl
theorem zqV:(Value.agg #[.bool false,.string ⟨#[]⟩,.bool false,.string ⟨#[]⟩,.bool false,.string ⟨#[]⟩,.bool false,.string ⟨#[]⟩,.bool false,.string ⟨#[]⟩,.bool false,.string ⟨#[]⟩,.bool false,.string ⟨#[]⟩,.bool false,.string ⟨#[]⟩,.bool false,.string ⟨#[]⟩,.bool false,.string ⟨#[]⟩])=qV q0:=by unfold qV;rw[←zq0]
theorem af4{n:Int}(h1:fX n=false)(h2:kL n=⟨#[]⟩):n=0:=aso (by rw[Zi];unfold W;rw[h1,h2])
theorem auB(t:T3):0-t.normal.x*t.a.x-t.normal.y*t.a.y-t.normal.z*t.a.z = -((dN t.a t.b t.c).dot t.a):=by
 show 0-(dN t.a t.b t.c).x*t.a.x-(dN t.a t.b t.c).y*t.a.y-(dN t.a t.b t.c).z*t.a.z=_
 generalize dN t.a t.b t.c=n;unfold P3.dot
 grind
theorem aeH(t:T3):qPr t.normal.x t.normal.y t.normal.z (0-t.normal.x*t.a.x-t.normal.y*t.a.y-t.normal.z*t.a.z)=qOf t:=by rw[auB];rfl
theorem apy[IT t]:Gy 300 [t.normal.x,t.normal.y,t.normal.z,0-t.normal.x*t.a.x-t.normal.y*t.a.y-t.normal.z*t.a.z]:=fun x hx=>by
 simp only[an,cg,or_false] at hx;rcases hx with rfl | rfl | rfl | rfl
 · exact (Bw.up:Bd 300 t.normal.x)
 · exact (Bw.up:Bd 300 t.normal.y)
 · exact (Bw.up:Bd 300 t.normal.z)
 · exact (Bw.up:Bd 300 (0-t.normal.x*t.a.x-t.normal.y*t.a.y-t.normal.z*t.a.z))
theorem alE[IT t]:Gy 602 (qOf t):=by rw[←aeH];exact asL apy
theorem wH(t:T3):(qOf t).length=10:=rfl
theorem atz:Gy 1 q0:=fun x hx=>by
 simp only[q0,an,cg,or_false] at hx;rcases hx with rfl | rfl | rfl | rfl | rfl | rfl | rfl | rfl | rfl | rfl <;> (unfold Bd;decide)
theorem Km{p:P3}(h:ts[k]? = some t):wP (ts.take (k+1)) p=if t.has p then Fc (wP (ts.take k) p) (qOf t) else wP (ts.take k) p:=by
 unfold wP;rw[cJ h,il,List.foldl_append];cases hh:t.has p <;> simp[hh]
theorem As{ts:List T3}{p:P3}:∀k,k≤ts.length→(wP (ts.take k) p).length=10
 | 0,_=>rfl
 | k+1,hk=>by
  rw[Km (am (by omega))];split
  · exact lL (As k (by omega)) (wH _)
  · exact As k (by omega)
theorem aaU{ts:List T3}{p:P3}(hI:∀t∈ts,IT t):∀k,k≤ts.length→Gy (602+k) (wP (ts.take k) p)
 | 0,_=>atz.mono (by omega)
 | k+1,hk=>by
  rw[Km (am (by omega))];split
  · haveI:=hI _ (List.getElem_mem (by omega:k<ts.length))
    exact Pk (aaU hI k (by omega)) (alE.mono (by show 602≤602+k;omega))
  · exact (aaU hI k (by omega)).mono (by omega)
theorem atA[IT t]:dT prog 117 [tr t] (qV (qOf t)):=by
 intro w;refine⟨bK func117 (by kernel_rfl),?_⟩;have m:=Mem.refl w
 go_enter func117,ntmps117
 apply jP 12 [2,0] m;simp only[↓aD,ajA,eL];intro g1 g2 g3 u m;refine nV m O O (auA (t:=t)) 1 [0] ?_;simp only[↓aD,aea];intro g4 u m;refine Eo (n:=8) m 0 O O O O O Lh ?_;intro u m;simp only[zF,zG] at m;apply aL 4 [0] m;simp only[↓aD];refine aR O (wQ (m.b 0 O) afg Lh O) ?_;simp only[zz];apply aL 1 [0] m;simp only[↓aD,ajF,aa];refine aB (adu O O) ?_;apply aL 1 [0] m;simp only[↓aD];refine bG O ?_ ?_<;>intro hc1
 ·
  apply aJ 1 [] m;simp only[↓aD];rw[zq0] at m;apply aW 1 [0] m;simp only[↓aD];refine aR O (wQ (m.b 1 O) yS kX (by first | rw[wH] | rfl)) ?_;simp only[zz];refine Eo (n:=20) m 2 O O O O O kX ?_;intro u m;simp only[zF,zG] at m;apply aL 2 [] m;simp only[↓aD];refine aT O ⟨_,O,(wQ (m.b 2 O) yS kX (by first | rw[wH] | rfl))⟩ ?_;try simp only[zD,zE]
  exact⟨_,O,m.ext,by rw[←aeH,af4 hc1.2.2.2.2.2.2.1 hc1.2.2.2.2.2.2.2,af4 hc1.1 hc1.2.1,af4 hc1.2.2.1 hc1.2.2.2.1,af4 hc1.2.2.2.2.1 hc1.2.2.2.2.2.1];rfl⟩
 ·
  apply aJ 3 [0] m;simp only[↓aD];refine nV m O O (qK (n:=2) (by constructor <;> decide)) 4 [0] ?_;simp only[↓aD,nF,fD,aa];intro g5 u m;rw[zq0] at m;apply aW 1 [0] m;simp only[↓aD];refine aB fW ?_;simp only[zz,fz,bj,dx];replace m:=m.pull 1 O;simp only[dY,dZ,zF,zG] at m;replace m:=m.pull 1 O;simp only[dY,dZ,zF,zG] at m;replace m:=m.pull 2 O;simp only[dY,dZ,zF,zG] at m;replace m:=m.pack3;refine mO m 0 aix O O (fun m=>alD (J:=fun n=>bI g3 (qC (qF t.normal.x t.normal.y t.normal.z (0-t.normal.x*t.a.x-t.normal.y*t.a.y-t.normal.z*t.a.z) n)) 97) m 0 O (fun n u hn mu=>aty (k:=300) mu hn apy (by decide))) ?_;rintro v i u m ⟨rfl,rfl⟩;simp only[zF,zG] at m;simp only[zz];replace m:=m.unpack3;rw[asK,aeH] at m;apply aL 3 [0] m;simp only[↓aD];refine aR O (wQ (m.b 0 O) yS kX (by first | rw[wH] | rfl)) ?_;simp only[zz];refine Eo (n:=20) m 3 O O O (by rw[wH]) O kX ?_;intro u m;simp only[zF,zG] at m;apply aL 2 [] m;simp only[↓aD];exact aT O ⟨_,O,(wQ (m.b 3 O) yS kX (by first | rw[wH] | rfl))⟩ ⟨_,O,m.ext,O⟩
theorem atC{g1 n:Nat}{q x:List Int}(m:Mem w0 w [bI g5 (wC (atS q x n)) 95,bI g4 (qC x) 168,bI g1 (qC q) 97,K])(hn:n<10)(hq:Gy k q)(hl:q.length=10)(hx:Gy 64 x)(hxl:x.length=4)(hk:k≤900000):wE prog 120 [.int .i64 (n:Int),.int .i64 (eI n:Int),.int .i64 (eJ n:Int),.pointer (some ⟨g5,0,none⟩),.pointer (some ⟨g1,0,none⟩),.pointer (some ⟨g4,0,none⟩)] w fun _ w'=>Mem w0 w' [bI g5 (wC (atS q x (n+1))) 95,bI g4 (qC x) 168,bI g1 (qC q) 97,K]:=by
 refine⟨bK func120 (by kernel_rfl),?_⟩;have hi:=ajw hn;have hj:=ajx hn;have hx1:x[eI n]? = some (x.getD (eI n) 0):=by rw[eo,am (by omega:eI n<x.length)];rfl
 have hx2:x[eJ n]? = some (x.getD (eJ n) 0):=by rw[eo,am (by omega:eJ n<x.length)];rfl
 have hq1:=aal hl hn;have hp1:Bd 128 (x.getD (eI n) 0*x.getD (eJ n) 0):=ad2 hx hxl hn;have hs1:=ad3 hq hl hx hxl n (by omega);have hm1:=(hq.at hq1).mul hp1
 go_enter func120,ntmps120
 refine g0 ?_;refine cL m 13 aC (by kernel_rfl) ?_;simp only[zy];refine ql O (fun u m=>(show fZ _ _ _ _ (W (atS q x n)) from (m.b 0 O).lies cI aQ O O)) ?_;simp only[zz];refine aG aI ?_;simp only[zz];refine aG (aK No aQ O O (by omega) (by omega) (nB (ah _))) ?_;simp only[zz];refine ql O (fun u m=>(show fZ _ _ _ _ (W (q.getD n 0)) from (Cw (m.b 2 O) hq1).lies cI aQ)) ?_;simp only[zz];refine aG aI ?_;simp only[zz];refine aG (aK underlying168 aQ O O (by omega) (by omega) (nB (ah _))) ?_;simp only[zz];refine ql O (fun u m=>(show fZ _ _ _ _ (W (x.getD (eI n) 0)) from (Cw (m.b 1 O) hx1).lies cI aQ)) ?_;simp only[zz];refine aG aI ?_;simp only[zz];refine aG (aK underlying168 aQ O O (by omega) (by omega) (nB (ah _))) ?_;simp only[zz];refine ql O (fun u m=>(show fZ _ _ _ _ (W (x.getD (eJ n) 0)) from (Cw (m.b 1 O) hx2).lies cI aQ)) ?_;simp only[zz];refine eX O O (tF ((hx.at hx1).mono (by omega)) ((hx.at hx2).mono (by omega))) ?_;simp only[zz];refine eX O O (tF ((hq.at hq1).mono (by omega)) (hp1.mono (by omega))) ?_;simp only[zz];refine eX O O (Yi (hs1.mono (by omega)) (hm1.mono (by omega))) (bC ?_);intro u m;simp only[zz];refine bP m 0 O O O aQ (by simp[wC]) O ?_;intro u m;simp only[zF,zG] at m;rw[abW (by rfl)] at m;exact aM (Fl O ⟨_,O,m⟩)
theorem atD{q:List Int}{p:P3}[I3 p](hq:Gy k q)(hl:q.length=10)(hk:k≤900000):dT prog 60 [qV q,pt p] (W (qAt q p)):=by
 intro w;refine⟨bK func60 (by kernel_rfl),?_⟩;have m:=Mem.refl w
 go_enter func60,ntmps60
 apply jP 7 [0] m;simp only[↓aD,nF];intro g1 g2 g3 u m;refine eQ 12 [0,1,2,3,4,5,6,7,8,9,10] [⟨11,5,168,[.bool false,.string ⟨#[]⟩,.bool false,.string ⟨#[]⟩,.bool false,.string ⟨#[]⟩,.bool false,.string ⟨#[]⟩]⟩] aC (by kernel_rfl) (al1 ⟨_,_,_,O,by kernel_rfl,_,abl,O⟩) (ol:=?_) ?hol ?_
 case hol=>simp only[zw,zQ,zR];try rfl
 intro u e_;replace m:=m.ext' e_;refine jY (aV (c:=0) fT O aU O O) ?_;simp only[zz];refine eP O (fun u e=>(((m.ext' e).b 1 O).lies1 bD O)) ?_;simp only[zz];refine eV O O (qK Iw.h) (jY (aV (c:=0) fT O aU O O) ?_);simp only[zz];refine eP O (fun u e=>(((m.ext' e).b 1 O).lies1 bD O)) ?_;simp only[zz];refine eV O O (qK Iw.h) (jY (aV (c:=0) fT O aU O O) ?_);simp only[zz];refine eP O (fun u e=>(((m.ext' e).b 1 O).lies1 bD O)) ?_;simp only[zz];refine eV O O (qK Iw.h) ?_;simp only[zz];refine eV O O (qK (n:=1) (by constructor <;> decide)) (jY (Fa rfl rfl rfl rfl) (Cb ?_));simp only[zz];refine mf1 m ?_;intro g4 u m;simp only[zJ,zK,zF,zG];refine bP m 0 O O O agt (gV O) O ?_;intro u m;simp only[zy,zx,over,zF,zG,aa] at m;refine aM ?_;apply Rp 5 [] m;simp only[↓aD,nF];intro g5 u m;rw[zw0] at m;apply aW 1 [0] m;simp only[↓aD];refine aB fW ?_;simp only[zz,fz,bj,dx];replace m:=m.pull 4 O;simp only[dY,dZ,zF,zG] at m;replace m:=m.pull 2 O;simp only[dY,dZ,zF,zG] at m;replace m:=m.pull 2 O;simp only[dY,dZ,zF,zG] at m;replace m:=m.pack3;refine mO m 0 aix O O (fun m=>alD (J:=fun n=>bI g5 (wC (atS q [p.x,p.y,p.z,1] n)) 95) m 0 O (fun n u hn mu=>atC mu hn hq hl (bd4 inferInstance) O hk)) ?_;rintro v i u m ⟨rfl,rfl⟩;simp only[zF,zG] at m;simp only[zz];replace m:=m.unpack3;rw[ajz hl] at m;apply kD 7 [0,3] m;simp only[↓aD,fD,aa];intro u m;exact aT O ⟨_,O,((m.b 3 O).full cI aQ)⟩ ⟨_,O,m.ext,O⟩
theorem apz{x:P3}:(decide (t.a.x=x.x∧t.a.y=x.y∧t.a.z=x.z)||decide (t.b.x=x.x∧t.b.y=x.y∧t.b.z=x.z)||decide (t.c.x=x.x∧t.c.y=x.y∧t.c.z=x.z))=t.has x:=by
 have e:∀p q:P3,(p.x=q.x∧p.y=q.y∧p.z=q.z)↔q=p:=fun p q=>⟨fun h=>(P3.eq h.1 h.2.1 h.2.2).symm,fun h=>by rw[h];exact⟨O,O,O⟩⟩
 rw[gv,mR];simp only[ep,decide_eq_true_eq,e,or_assoc]
theorem arR{p:P3}(w:aj)(hT:bV w A N ts)(hN:N≤800000):dQ prog 58 [.slice A N cap,pt p] w (fun v _=>v=qV (wP ts p)):=by
 refine⟨bK func58 (by kernel_rfl),?_⟩;have m:=Mem.refl w;have htl:=hT.len
 go_enter func58,ntmps58
 apply jP 17 [0] m;simp only[↓aD,ajA,kA];intro g1 g2 g3 u m;refine bX [10] [7,11,12,13,14,15,16,17,18,19,20,21,22,23,24,25,26,27,28,29,30,31,32,33,34] (fun n vs wl=>∃(k:Nat),vs=[.int .i64 (k:Int)]∧Mem w wl [bI g3 (qC (wP (ts.take k) p)) 97,bI g2 [.bool false,.string ⟨#[]⟩,.bool false,.string ⟨#[]⟩,.bool false,.string ⟨#[]⟩,.bool false,.string ⟨#[]⟩,.bool false,.string ⟨#[]⟩,.bool false,.string ⟨#[]⟩,.bool false,.string ⟨#[]⟩,.bool false,.string ⟨#[]⟩,.bool false,.string ⟨#[]⟩,.bool false,.string ⟨#[]⟩] 97,bI g1 [.int .i64 p.x,.int .i64 p.y,.int .i64 p.z] 30]∧(k≤N)∧(n=N-k)) ?_ ?_
 · rw[show ([.bool false,.string ⟨#[]⟩,.bool false,.string ⟨#[]⟩,.bool false,.string ⟨#[]⟩,.bool false,.string ⟨#[]⟩,.bool false,.string ⟨#[]⟩,.bool false,.string ⟨#[]⟩,.bool false,.string ⟨#[]⟩,.bool false,.string ⟨#[]⟩,.bool false,.string ⟨#[]⟩,.bool false,.string ⟨#[]⟩]:List ai)=qC (wP (ts.take 0) p) from zq0] at m
   exact⟨_,0,O,m,cv _,O⟩
 · intro n vs wr hI u K1 hK1
   obtain⟨k,rfl,m,hk,hn⟩:=hI;simp only[zu,zF,zG];apply aJ 5 [0,0] m;simp only[↓aD];refine bG O ?_ ?_<;>intro hc1
   ·
    obtain⟨t,ht,hti,a,rfl,hrow⟩:=hT.get (i:=k) (by omega);have hql:=As (ts:=ts) (p:=p) k (by omega);have hqb:=aaU (p:=p) hT.it k (by omega);apply aJ 5 [0] m;simp only[↓aD];refine aB (aF cH aP O O (by omega) (by omega) (cQ (ah _))) ?_;simp only[zz];refine aR O ((hrow.ext m.ext).lies cF aP) ?_;simp only[zz];apply kD 8 [0,0,3,0] m;simp only[↓aD,nX,eL,bT,aS,aa,ad,ag];intro g4;refine⟨by omega,?_⟩;intro u m;refine aB (cK O O) ?_;apply aL 1 [0] m;simp only[↓aD];refine bB O (fun hb=>aK cM aA O O (by decide) (by decide) O) ?_;simp only[zz];refine cA O (fun hb=>aZ (aY hb O) ((m.b 0 O).lies aH aA O O)) ?_;simp only[zz,zy,au,aa,ag,ad];refine cA O (fun hb=>aZ O ((m.b 3 O).full aH aA)) (bB O (fun hb=>cK (aY hb O) (aY hb O)) (aB (cE O O O) ?_));apply aL 1 [0] m;simp only[↓aD];refine bB O (fun hb=>aK cM aA O O (by decide) (by decide) O) ?_;simp only[zz];refine cA O (fun hb=>aZ (aY hb O) ((m.b 0 O).lies aH aA O O)) ?_;simp only[zz,zy,au,aa,ag,ad];refine cA O (fun hb=>aZ O ((m.b 3 O).full aH aA)) (bB O (fun hb=>cK (aY hb O) (aY hb O)) (aB (cE O O O) ?_));apply aL 1 [0] m;simp only[↓aD];refine dK O ?_ ?_<;>intro hc2
    ·
     rw[apz] at hc2;have hst:=Km (p:=p) ht;rw[if_pos hc2] at hst;refine cL m 4 aC (by kernel_rfl) ?_;simp only[zy];refine ql O (fun u m=>(wQ (m.b 1 O) yS kX (by first | rw[hqN] | rw[As _ (by omega)]))) ?_;simp only[zz];refine ql O (fun u m=>((m.b 0 O).full cF aP)) ?_;simp only[zz];refine eX O O (atA (t:=t)) ?_;simp only[zz];refine eX O O (aeG hql (wH t) hqb (alE.mono (by omega)) (by omega)) (bC ?_);intro u m;simp only[zz];refine Eo (n:=20) m 1 O O O (by rw[lL hql (wH t)]) (by rw[Cv,hql]) kX ?_;intro u m;simp only[zF,zG] at m;refine aM ?_;apply aW 5 [0] m;simp only[↓aD];refine⟨by omega,?_⟩;rw[←hst] at m;exact hK1 (N-(k+1)) _ _ (by omega) (by kernel_rfl) ⟨k+1,O,(m.sel [false,true,true,true]),by omega,O⟩
    ·
     rw[apz] at hc2;have hst:=Km (p:=p) ht;rw[if_neg (by rw[hc2];exact Bool.false_ne_true)] at hst;apply aJ 6 [0] m;simp only[↓aD];refine⟨by omega,?_⟩;rw[←hst] at m;exact hK1 (N-(k+1)) _ _ (by omega) (by kernel_rfl) ⟨k+1,O,(m.sel [false,true,true,true]),by omega,O⟩
   ·
    obtain rfl:N=k:=by omega
    rw[show ts.take N=ts from a_ (by omega)] at m;have hqN:(wP ts p).length=10:=by have:=As (ts:=ts) (p:=p) N (by omega);rwa [a_ (by omega)] at this
    apply aJ 3 [0] m;simp only[↓aD];refine aR O (wQ (m.b 0 O) yS kX (by first | rw[hqN] | rw[As _ (by omega)])) ?_;simp only[zz];refine Eo (n:=20) m 1 O O O (by rw[hqN]) O kX ?_;intro u m;simp only[zF,zG] at m;apply aL 2 [] m;simp only[↓aD];exact aT O ⟨_,O,(wQ (m.b 1 O) yS kX (by rw[hqN]))⟩ ⟨_,O,m.ext,O⟩
end Go.Proofs.YtfekpcimgncioaaGreatDoor
set_option linter.unusedSectionVars false
namespace Go.Lith
open Go
variable{P:br}{w:aj}{α:Type}{d:Nat}{m m':Machine}
theorem aeI{at_:Addr}{u:az}{k:Addr}{v:ai}{b:Bool}{r:aj × List Addr}(h:w.viewStore P at_ u k v b=.ok r):r.1.drawn=w.drawn:=by
 unfold World.viewStore at h;simp only[bind,Except.bind,pure,Except.pure,throw] at h
 repeat' split at h
 all_goals first | (cases h;done) | (cases h;rfl) | skip
theorem ahF{x:Addr}{v:ai}{b:Bool}{r:aj × List Addr}(h:w.farStore P x v b=.ok r):r.1.drawn=w.drawn:=by
 unfold World.farStore at h;split at h
 · split at h
   · rename_i hv
     cases h;exact aeI hv
   · cases h
 · cases h
theorem aaV(w:aj)(x:Addr)(n:Nat):(w.freeze x n).drawn=w.drawn:=by
 unfold World.freeze;split <;> rfl
theorem ahG(s:Ask α):∀w:aj,w.drawn≤(w.ask s).2.drawn:=by
 induction s with
 | done a=>intro w;exact aq _
 | ask what range k ih =>
  intro w;simp only[World.ask];split
  · exact ih _ w
  · exact ba (qi _) (ih _ { w with drawn:=w.drawn+1 })
theorem ahH(w:aj)(c:Sys):w.drawn≤(w.sys c).2.drawn:=by
 have h:=ahG (Kernel.perform c w.os) w;unfold World.sys;split
 · exact aq _
 · rename_i e
   rw[e] at h;exact h
def okR{α:Type}(d:Nat):Result α→Prop
 | .ok _ w=>d≤w.drawn
 | .halt _ w=>d≤w.drawn
theorem okR.mono{α:Type}{d e:Nat}(h:e≤d):∀{r:Result α},okR d r→okR e r
 | .ok _ _,k=>ba h k
 | .halt _ _,k=>ba h k
theorem Qd(s:Sem α):∀w:aj,okR w.drawn (s.run P w):=by
 induction s with
 | pure _=>intro w;exact aq _
 | load m x k ih =>
  intro w;simp only[Sem.run];split
  · exact ih _ _
  · split
    · exact ih _ _
    · exact aq _
 | store m x v k ih =>
  intro w;have key:okR w.drawn (match w.cell? x with
   | some _=>if w.frozen? x then Result.halt (.unsupported (.unsafePointer "a write to bytes that a string shares")) w else k.run P (w.setCell x v)
   | none=>match w.farStore P x v (m == Mode.atomic) with
    | .ok (w,_)=>k.run P w
    | .error h=>.halt h w):=by
   split
   · split
     · exact aq _
     · exact ih (w.setCell x v)
   · split
     · rename_i hf
       exact okR.mono (Nat.le_of_eq (ahF hf).symm) (ih _)
     · exact aq _
  cases v <;> simp only[Sem.run] <;> first | exact aq _ | exact key
 | new o k ih=>intro w;exact ih _ { w with heap:=w.heap.push o }
 | shape r k ih=>intro w;exact ih _ _
 | freeze x n k ih=>intro w;exact okR.mono (Nat.le_of_eq (aaV w x n).symm) (ih _)
 | frozen x k ih=>intro w;exact ih _ _
 | getObj r k ih =>
  intro w;simp only[Sem.run];split
  · exact aq _
  · exact ih _ _
  · exact aq _
 | setObj r o k ih =>
  intro w;simp only[Sem.run];split
  · exact aq _
  · exact ih { w with heap:=w.heap.setIfInBounds r o }
  · exact aq _
 | choose q k ih =>
  intro w;simp only[Sem.run];split
  · exact ih _ _
  · exact okR.mono (qi _) (ih _ { w with drawn:=w.drawn+1 })
 | sys c k ih=>intro w;exact okR.mono (ahH w c) (ih _ _)
 | program k ih=>intro w;exact ih _ _
 | mark m k ih=>intro w;exact ih _
 | halt x=>intro w;exact aq _
theorem acF{s:Sem α}{es:Array Event}{r:Result α}{es':Array Event}(h:s.runT P w es=(r,es')):okR w.drawn r:=by
 have:=Sem.runT_fst P s w es;rw[h] at this;rw[show r=s.run P w from this];exact Qd s w
theorem gR{s:Sem α}{r:Result α}(h:s.run P w=r):okR w.drawn r:=h▸Qd s w
theorem oP{s:Sem α}{es:Array Event}{r:Result α}(h:(s.runT P w es).1=r):okR w.drawn r:=by
 rw[Sem.runT_fst] at h;exact gR h
def okG(d:Nat):GStep→Prop
 | .go _ w _ | .comm _ _ _ _ w _ | .spawn _ _ w _ | .count _ w _ | .timer _ _ w _ | .alone _ _ w _ | .newcoro _ _ _ w _ | .coroswitch _ _ _ w _ | .collect _ w _ | .watch _ w _=>d≤w.drawn
 | .ended _ _ _=>True
theorem yA{es:Array Event}{g:GStep}(h:okG d g):okG d (g.after es):=by cases g <;> exact h
theorem aos{α:Type}{d:Nat}{x:GStep}{f:α→GStep}(h1:okG d x)(h2:∀a,okG d (f a)):∀o:Option α,okG d (o.elim x f)
 | none=>h1
 | some a=>h2 a
section
variable {P:br} {d:Nat} {w:aj} (hw:d≤w.drawn)
include hw
theorem aeJ(fd:Nat)(t:ByteArray)(o:Outcome):okG d (endWith w fd t o):=by
 unfold endWith;dsimp only
 repeat' split
 all_goals trivial
theorem Ue(fr:Frame)(cs:List Frame)(dy:Option Dying)(m:String):okG d (endFatal P fr cs dy m w):=by
 unfold endFatal;dsimp only;split
 · rename_i h
   exact ba hw (gR h)
 · trivial
 · trivial
theorem Om(fr:Frame)(v:ai):okG d (endPrinting P fr v w):=by
 unfold endPrinting;dsimp only;split
 · exact hw
 · trivial
theorem Mz(main:Bool)(fr:Frame)(cs:List Frame)(dy:Option Dying)(v:ai):okG d (doReturn P main fr cs dy v w):=by
 unfold doReturn
 repeat' (first | exact hw | trivial | split)
theorem acG(fr:Frame)(cs:List Frame)(dy:Option Dying)(g:Nat):okG d (early P fr cs dy g w):=by
 have n:∀w:aj,d≤w.drawn→okG d (match w.heap[g]? with
  | some (.pending c elem)=>GStep.go { frame:=fr,callers:=cs,status:=.running,dying:=dy } { w with heap:=w.heap.setIfInBounds g (.cells c elem) }
  | _=>.ended (.stuck "early: the variable does not wait" (fr.pos P)) w):=fun w hw=>by
  split
  · exact hw
  · trivial
 unfold early;dsimp only
 repeat' (first | exact n _ hw | exact hw | trivial | exact ba hw (gR (r:=.ok _ _) (by assumption)) | (rename_i w1 h1 x1 c1 e1 h2;exact ba hw (gR h1)) | split)
theorem Uf(b:Bool)(fr:Frame)(cs:List Frame)(dy:Option Dying)(s:Sem Next):okG d (stepG.apply P b fr cs dy s w):=by
 unfold stepG.apply;dsimp only;have hr:okR w.drawn (if b=true then s.runT P w #[] else (s.run P w,#[])).1:=by
  split
  · rw[Sem.runT_fst];exact Qd s w
  · exact Qd s w
 generalize (if b=true then s.runT P w #[] else (s.run P w,#[]))=r at hr;obtain⟨r,es⟩:=r;refine yA ?_;cases r with
 | ok n u =>
  have hu:d≤u.drawn:=ba hw hr;cases n
  all_goals dsimp only
  all_goals repeat' (first | exact hu | trivial | exact throw_ok hu _ _ | split)
 | halt x u =>
  have hu:d≤u.drawn:=ba hw hr;cases x
  all_goals dsimp only
  all_goals repeat' (first | exact hu | trivial | exact throw_ok hu _ _ | exact Ue hu _ _ _ _ | exact acG hu _ _ _ _ | (rename_i e;cases e;done) | (rename_i e;cases e;exact hu) | (rename_i e;cases e;exact Ue hu _ _ _ _) | (rename_i e;cases e;exact acG hu _ _ _ _) | split)
theorem aot(b:Bool)(fr:Frame)(cs:List Frame)(dy:Option Dying):okG d (stepG.oper P b fr cs dy w):=by
 unfold stepG.oper
 repeat' (first | trivial | exact Uf hw _ _ _ _ _ | split)
theorem aou(main b:Bool)(fr:Frame)(cs:List Frame)(dy:Option Dying):okG d (stepG.exec P main b fr cs dy w):=by
 unfold stepG.exec;dsimp only
 repeat' (first | exact hw | trivial | exact Uf hw _ _ _ _ _ | exact aot hw _ _ _ _ | (with_reducible refine yA ?_) | exact ba hw (oP (r:=.ok _ _) (by assumption)) | exact ba hw (oP (r:=.halt _ _) (by assumption)) | exact ba hw (gR (r:=.ok _ _) (by assumption)) | exact Mz (ba hw (oP (r:=.ok _ _) (by assumption))) _ _ _ _ _ | exact Uf (ba hw (oP (r:=.ok _ _) (by assumption))) _ _ _ _ _ | refine aos ?_ (fun _=>?_) _ | split)
theorem acH(fr:Frame)(cs:List Frame)(dy:Option Dying)(x:Deferred):okG d (callDeferred P fr cs dy x w):=by
 unfold callDeferred;dsimp only
 repeat' (first | exact hw | trivial | (with_reducible refine yA ?_) | exact ba hw (oP (r:=.ok _ _) (by assumption)) | exact ba hw (oP (r:=.halt _ _) (by assumption)) | exact throw_ok (ba hw (oP (r:=.halt _ _) (by assumption))) _ _ | exact Ue (ba hw (oP (r:=.halt _ _) (by assumption))) _ _ _ _ | split)
theorem ahJ(main:Bool)(fr:Frame)(cs:List Frame)(dy:Option Dying):okG d (unwind P main fr cs dy w):=by
 unfold unwind;dsimp only
 repeat' (first | exact hw | trivial | (with_reducible refine yA ?_) | exact acH hw _ _ _ _ | exact Mz hw _ _ _ _ _ | exact Om hw _ _ | exact ba hw (oP (r:=.ok _ _) (by assumption)) | exact ba hw (gR (r:=.ok _ _) (by assumption)) | exact Mz (ba hw (oP (r:=.ok _ _) (by assumption))) _ _ _ _ _ | split)
theorem aeK(fr:Frame)(x:Dying)(f:Fatal):okG d (writeOn P fr x f w):=by
 unfold writeOn;dsimp only
 repeat' (first | exact hw | trivial | exact ba hw (acF (r:=.ok _ _) (by assumption)) | exact ba hw (acF (r:=.halt _ _) (by assumption)) | split)
theorem arS(fr:Frame)(x:Dying):okG d (die P fr x w):=by
 unfold die;dsimp only
 repeat' (first | exact hw | trivial | (with_reducible refine yA ?_) | exact aeK hw _ _ _ | exact aeJ hw _ _ _ | exact ba hw (oP (r:=.ok _ _) (by assumption)) | exact ba hw (gR (r:=.ok _ _) (by assumption)) | exact Om (ba hw (oP (r:=.halt _ _) (by assumption))) _ _ | split)
theorem alF(main:Bool)(g:Goroutine)(b:Bool):okG d (stepG P main g w b):=by
 unfold stepG;dsimp only
 repeat' (first | exact arS hw _ _ | exact aou hw _ _ _ _ _ | exact ahJ hw _ _ _ _ | split)
end
def okS(d:Nat):Stepped→Prop
 | .next m=>d≤m.world.drawn
 | _=>True
section
variable {P:br} {d:Nat} {w:aj} (hw:d≤w.drawn)
include hw
theorem aeL{rest:Rest}{cases:Array CommCase}{u:aj}(h:waitingAt rest cases w=some u):d≤u.drawn:=by
 unfold waitingAt at h;split at h
 · split at h
   · cases h;exact hw
   · cases h
 · cases h;exact hw
theorem aov(rest:Rest)(gs:Array Goroutine)(i:Nat)(g:Goroutine)(cases:Array CommCase)(bl:Bool)(sh:CommShape):okS d (communicate P rest gs i g cases bl sh w).1:=by
 unfold communicate;dsimp only
 repeat' (first | exact hw | trivial | exact aeL hw (by assumption) | split)
 all_goals dsimp only[okS]
 all_goals first | exact ba hw (gR (r:=.ok _ _) (by assumption)) | exact ba (ba hw (gR (r:=.ok _ _) (by assumption))) (gR (r:=.ok _ _) (by assumption)) | exact ba (ba hw (gR (r:=.ok _ _) (by assumption))) (gR (r:=.halt _ _) (by assumption))
theorem af5(gs:Array Goroutine)(rest:Rest):okS d (look P gs rest w):=by
 unfold look;dsimp only
 repeat' (first | exact hw | trivial | split)
 all_goals dsimp only[okS]
 all_goals exact ba hw (gR (r:=.ok _ _) (by assumption))
end
theorem alG(m:Machine)(k:Nat):okS m.world.drawn (serve P m k):=by
 unfold serve;dsimp only
 repeat' (first | exact aq _ | trivial | split)
theorem Yo(m:Machine)(k:Nat)(t:Timer)(a b:Nat):m.world.drawn≤(retime m k t a b).2.world.drawn:=by
 unfold retime;dsimp only;split
 · unfold drain
   split <;> exact aq _
 · exact aq _
theorem acI{v:ai}{var:Addr}{f:Nat→Timer→ai × Machine}(hf:∀k t,m.world.drawn≤(f k t).2.world.drawn){m0:Machine}(h:timerOp.named m0 var f=.ok (v,m')):m.world.drawn≤m'.world.drawn:=by
 unfold timerOp.named at h;split at h
 · rename_i k _
   have:=hf k (m0.rest.timers.getD k default);cases hh:f k (m0.rest.timers.getD k default) with
   | mk a b =>
    rw[hh] at h this;cases h;exact this
 · cases h
theorem aeM{op:TimerOp}{v:ai}(h:timerOp m op=.ok (v,m')):m.world.drawn≤m'.world.drawn:=by
 unfold timerOp at h;cases op with
 | new t =>
  dsimp only at h
  repeat' (first | (cases h;done) | (cases h;exact aq _) | split at h)
 | stop var=>exact acI (fun k t=>Yo m k t _ _) h
 | reset var when period =>
  dsimp only at h;split at h
  · rename_i m1 hm
    have h1:m.world.drawn≤m1.world.drawn:=by
     unfold timerOp.opened at hm
     repeat' (first | (cases hm;done) | (cases hm;exact aq _) | split at hm)
    exact acI (fun k t=>ba h1 (Yo m1 k t _ _)) h
  · cases h
 | deadline ctx read write when=>cases h;exact aq _
theorem arT(P:br)(m:Machine)(i:Nat)(b:Bool):okS m.world.drawn (runT P m i b).1:=by
 unfold runT;dsimp only;have h:=alF (P:=P) (aq m.world.drawn) (i == 0) (m.gs.swapAt! i { (default:Goroutine) with status:=.finished }).1 b;generalize stepG P (i == 0) (m.gs.swapAt! i { (default:Goroutine) with status:=.finished }).1 m.world b=s at h;cases s
 all_goals dsimp only
 all_goals repeat' (first | exact h | trivial | exact aov h _ _ _ _ _ _ _ | exact af5 h _ _ | split)
 all_goals exact ba h (aeM (by assumption))
def okM(d:Nat):Move→Prop
 | .goroutine m _=>d≤m.world.drawn
 | .machine s _=>okS d s
theorem okS.mono{d e:Nat}(h:e≤d):∀{s:Stepped},okS d s→okS e s
 | .next _,k=>ba h k
 | .ended _ _,_=>trivial
theorem aaX{P:br}{d:Nat}(rs:List Nat)(m:Machine)(hw:d≤m.world.drawn):okM d (match (choose (.sched rs.length)).run P m.world with
 | .halt _ w=>.machine (.ended (.stuck "sched" "") w)
 | .ok k world =>
  if rs.length≤1 then .goroutine { m with world } (rs.getD k 0) else
  match (choose (.extern "sched.slice" 65536)).run P world with
  | .halt _ w=>.machine (.ended (.stuck "sched.slice" "") w)
  | .ok n world=>.goroutine { m with world,rest:={ m.rest with slice:=if n=0 then none else some (rs.getD k 0,n) } } (rs.getD k 0)):=by
 repeat' (first | trivial | split)
 all_goals dsimp only[okM]
 all_goals first | exact ba hw (gR (r:=.ok _ _) (by assumption)) | exact ba (ba hw (gR (r:=.ok _ _) (by assumption))) (gR (r:=.ok _ _) (by assumption))
theorem Ug(hw:d≤m.world.drawn):okM d (askOn P m):=by
 unfold askOn;dsimp only;split
 · trivial
 · rename_i k w1 h1
   have hw1:d≤w1.drawn:=ba hw (gR h1);split
   · exact okS.mono hw1 (alG { m with world:=w1 } _)
   · split
     · split
       · exact hw1
       · split
         · exact hw1
         · split <;> trivial
     · split
       · exact aaX _ { m with world:=w1 } hw1
       · split
         · trivial
         · rename_i w2 h2
           exact aaX _ { m with world:=w2 } (ba hw1 (gR h2))
         · rename_i w2 h2
           exact ba hw1 (gR h2)
         · rename_i w2 h2
           exact aaX _ (({ m with world:=w2 }:Machine).advanceTo _) (ba hw1 (gR h2))
theorem alH(hw:d≤m.world.drawn):okM d (ask P m):=by
 unfold ask;split
 · split
   · trivial
   · rename_i w1 h1
     have hw1:d≤w1.drawn:=ba hw (gR h1);have hl:=af5 (P:=P) hw1 m.gs m.rest;split
     · rename_i m2 h2
       rw[h2] at hl;exact Ug hl
     · rename_i e he
       cases hq:look P m.gs m.rest w1 with
       | next m2=>exact absurd hq (he m2)
       | ended o w2=>trivial
   · rename_i w1 h1 _
     exact Ug (m:={ m with world:=w1 }) (show d≤w1.drawn from ba hw (gR (r:=.ok _ _) (by assumption)))
 · exact Ug hw
theorem aow   : okM m.world.drawn (move P m):=by
 unfold move;split
 · split
   · exact aq _
   · trivial
 · split
   · split
     · exact aq _
     · exact alH (m:={ m with rest:={ m.rest with slice:=none } }) (aq _)
   · exact alH (aq _)
theorem aox(h:step P m=.next m'):m.world.drawn≤m'.world.drawn:=by
 have h1:=aow (P:=P) (m:=m);have h2:okS m.world.drawn (step P m):=by
  unfold step stepT;split
  · rename_i m1 i hm
    rw[hm] at h1;exact okS.mono h1 (arT P m1 i _)
  · rename_i s ops hm
    rw[hm] at h1;exact h1
 rw[h] at h2;exact h2
theorem acJ(h:Steps P m m'):m.world.drawn≤m'.world.drawn:=by
 obtain⟨n,hn⟩:=h
 induction n generalizing m with
 | zero=>cases hn;exact aq _
 | succ n ih =>
  simp only[runN] at hn;split at hn
  · rename_i m1 h1
    exact ba (aox h1) (ih hn)
  · rename_i e he
    cases hq:step P m with
    | next m2=>exact absurd hq (he m2)
    | ended o w2=>rw[hq] at hn;cases hn
theorem acK{f:FuncId}{args:Array ai}{R:Ending→aj→Prop}(hR:∀w',¬R .outgrown w')(h:Calls P f args w R):Calls P f args w fun e w'=>R e w'∧w.drawn≤w'.drawn:=fun cs=>by
 obtain⟨e,w',fr,hr,hc,hf,hl⟩:=h cs;refine⟨e,w',fr,⟨hr,?_⟩,hc,hf,hl⟩;cases e with
 | returned v=>exact acJ hc
 | panicked c=>exact acJ hc
 | outgrown=>exact absurd hr (hR w')
theorem dT.g{f:FuncId}{args:List ai}{v:ai}(h:dT P f args v):sZ P f args v:=fun w =>
 ⟨(h w).1,(acK (fun _ ⟨_,e,_⟩=>(by cases e)) (h w).2).mono fun _ _ ⟨⟨u,he,hX,hv⟩,hd⟩=>⟨u,he,⟨hX,hd⟩,hv⟩⟩
end Go.Lith
namespace Go.Proofs.YtfekpcimgncioaaGreatDoor
open Go.Proofs.Tryz
open Go.RowKit Go.Lith
set_option maxRecDepth 100000
attribute [local irreducible] ar cw gG bQ cO Code.wp
attribute [local congr] rC gX gY gZ iA iB lI iC iD iE iF iG iH iJ iK iL iM iN fJ fK iO iP iR iS iT lK dW dX cX dV iQ lJ fN fO fP iU iV lM
variable{g50 g90 ga gf N cap ca cf n1 c1:Nat}{ts:List T3}
def sY(c:lT):List ai:=[.int .i64 c.u.x,.int .i64 c.u.y,.int .i64 c.u.z,.int .i64 c.v.x,.int .i64 c.v.y,.int .i64 c.v.z,.bool (fX c.c),.string (kL c.c)]
def aaY(c:lT):ai:=.agg (sY c).toArray
theorem eT:(∀c,sY c=[.int .i64 c.u.x,.int .i64 c.u.y,.int .i64 c.u.z,.int .i64 c.v.x,.int .i64 c.v.y,.int .i64 c.v.z,.bool (fX c.c),.string (kL c.c)])∧(∀c,(aaY c).cells.toList=[.int .i64 c.u.x,.int .i64 c.u.y,.int .i64 c.u.z,.int .i64 c.v.x,.int .i64 c.v.y,.int .i64 c.v.z,.bool (fX c.c),.string (kL c.c)])∧(∀c f,vvA (aaY c) f=f [.int .i64 c.u.x,.int .i64 c.u.y,.int .i64 c.u.z,.int .i64 c.v.x,.int .i64 c.v.y,.int .i64 c.v.z,.bool (fX c.c),.string (kL c.c)]):=⟨fun _=>rfl,fun _=>rfl,fun _ _=>rfl⟩
theorem aoy(c:lT):∀v∈sY c,v.oneCell'=true:=fun v h=>by
 simp only[sY,an,cg,or_false] at h;rcases h with rfl | rfl | rfl | rfl | rfl | rfl | rfl | rfl <;> rfl
def alI(a b:lT):Int:=if bA (a.c-b.c)=0 then if qO a.u b.u=0 then qO a.v b.v else qO a.u b.u else bA (a.c-b.c)
theorem Kn(a b:lT):(alI a b<0)↔a.Lt b:=by
 unfold alI lT.Lt;have h0:bA (a.c-b.c)=0↔a.c=b.c:=by rw[bZ];omega
 have h1:bA (a.c-b.c)<0↔a.c<b.c:=by
  have:=Hz (n:=a.c-b.c);omega
 by_cases h:a.c=b.c
 · rw[if_pos (h0.2 h)]
   by_cases g:a.u=b.u
   · rw[if_pos (nR.2 g),mB]
     simp[h,g,P3.lt_irrefl]
   · rw[if_neg fun k=>g (nR.1 k),mB]
     simp[h,g]
 · rw[if_neg fun k=>h (h0.1 k),h1]
   simp[h]
abbrev alJ:Type:={ c:lT // Bd 900000 c.c }
instance:Inhabited alJ:=⟨⟨⟨⟨0,0,0⟩,⟨0,0,0⟩,0⟩,Oz _⟩⟩
theorem alK:Go.Sort.SWO (Go.Proofs.ltOf fun a b:alJ=>alI a.1 b.1) where
 irrefl a:=by simp only[Go.Proofs.ltOf,decide_eq_false_iff_not,Kn];exact lT.lt_irrefl a.1
 trans x y z h1 h2:=by
  simp only[Go.Proofs.ltOf,decide_eq_true_eq,Kn] at *
  exact lT.lt_trans h1 h2
 ntrans x y z h1 h2:=by
  simp only[Go.Proofs.ltOf,decide_eq_false_iff_not,Kn] at *
  intro h;rcases lT.lt_tri y.1 x.1 with k | k | k
  · exact h2 (lT.lt_trans k h)
  · exact h2 (by rw[k];exact h)
  · exact h1 k
theorem aoz{p q:lT}(hp:Bd 900000 p.c)(hq:Bd 900000 q.c):sZ prog 64 [aaY p,aaY q] (.int .i64 (alI p q)):=by
 intro w;refine⟨bK func64 (by kernel_rfl),?_⟩;have m:=gS.refl w
 go_enter func64,ntmps64
 refine bE fun K1 k1=>wp_region_lit (oS m O ?_);intro g1 u m;simp only[zz];refine oS m O ?_;intro g2 u m;refine aB aO (aM (k1 _ _ ?_));try clear k1 K1
 refine bE fun K2 k2=>?_;simp only[zz];refine Qy m 15 aC (by kernel_rfl) ?_;simp only[zy];refine aG (aV (c:=1) yQ O aQ O O) ?_;simp only[zz];refine Ur O (fun u m=>((m.b 1 O).lies cI aQ O O)) ?_;simp only[zz,zy,au,aa,ag,ad];refine aG (aV (c:=1) yQ O aQ O O) ?_;simp only[zz];refine Ur O (fun u m=>((m.b 0 O).lies cI aQ O O)) ?_;simp only[zz,zy,au,aa,ag,ad];refine Ia O O ((atm (a:=p.c) (b:=q.c) hp hq).g) (aG (aV (c:=2) yQ O aA O O) ?_);simp only[zz];refine Ur O (fun u m=>((m.b 1 O).lies aH aA O O)) ?_;simp only[zz,zy,au,aa,ag,ad];refine aG (aV (c:=2) yQ O aA O O) ?_;simp only[zz];refine Ur O (fun u m=>((m.b 0 O).lies aH aA O O)) ?_;simp only[zz,zy,au,aa,ag,ad];refine Ia O O (Tn (p:=p.u) (q:=q.u)) (aG (aV (c:=2) yQ O aA O O) ?_);simp only[zz];refine Ur O (fun u m=>((m.b 1 O).lies aH aA O O)) ?_;simp only[zz,zy,au,aa,ag,ad];refine aG (aV (c:=2) yQ O aA O O) ?_;simp only[zz];refine Ur O (fun u m=>((m.b 0 O).lies aH aA O O)) ?_;simp only[zz,zy,au,aa,ag,ad];refine Ia O O (Tn (p:=p.v) (q:=q.v)) (bC ?_);intro u m;simp only[zz];refine acj m dH (z:=.int .i64 0) (by kernel_rfl) O O O O O O O ?_;intro g3 u m;simp only[zz];refine aay m O O (akG _ (m.b 0 O)) ?_;intro u m;refine aB aO (aM (k2 _ _ ?_));try clear k2 K2
 refine wp_ret ?_;simp only[zz];try simp only[Exit.inBlock,Exit.then,if_true]
 refine aT O O ?_;try simp only[zD,zE]
 exact⟨_,O,m.ext,O⟩
theorem aoA{w0 w:aj}{is:List It}{A:Option Addr}{n cap:Nat}{xs:List lT}(hb:∀c∈xs,Bd 900000 c.c)(m:Mem w0 w is)(k:Nat)(hi:is[k]? = some (oI 112 8 A n cap (xs.flatMap sY)))(hsz:n<4611686018427387904) :
 Calls prog 123 [.slice A n cap,.func (.func 64) #[] #[]].toArray w fun e w'=>∃v i,e=.returned v∧Mem w0 w' (is.set k i)∧(v=.tuple #[]∧∃ys:List lT,i=oI 112 8 A n cap (ys.flatMap sY)∧ys.Perm xs∧ys.Pairwise fun a b=>¬b.Lt a):=by
 have e0:(xs.attachWith (fun c=>Bd 900000 c.c) hb).map (·.1)=xs:=List.attachWith_map_subtype_val ..;have e1:∀L:List alJ,L.flatMap (fun c=>sY c.1)=(L.map (·.1)).flatMap sY:=fun L=>by rw[ow]
 have hi':is[k]? = some (oI 112 8 A n cap ((xs.attachWith (fun c=>Bd 900000 c.c) hb).flatMap fun c=>sY c.1)):=by rw[e1,e0];exact hi
 refine (Cl (α:=alJ) (enc:=fun c=>sY c.1) Tryz.sort123 (fun w=>pN Ih w) (fun w=>eG qY w) (fun _=>rfl) (by decide) (fun x=>aoy x.1) (fun a b=>alI a.1 b.1) alK (fun x y=>aoz x.2 y.2) m k hi' hsz).mono ?_;rintro e w' ⟨v,i,h1,h2,h3,ys,h4,h5,h6⟩;refine⟨v,i,h1,h2,h3,ys.map (·.1),by rw[h4,e1],?_,?_⟩
 · have:=h5.map (fun c:alJ=>c.1)
   rwa [e0] at this
 · rw[List.pairwise_map]
   exact h6.imp fun h=>by simpa[Go.Proofs.ltOf,Kn] using h
theorem arU{A:Option Addr}{ea ef:Array c_}{D:List (P3 × Hd)}{F:List (P3 × Bool)}{c:lT}[I3 c.u][I3 c.v](w:aj)(hB50:fR w g50 [.pointer (some ⟨g90,0,none⟩)] 88)(hS:Kk 109 w g90 ga gf A N cap ea ef ca cf D ts)(hT:bV w A N ts)(hD:Ub ea ef ca cf D F ts)(hnd:∀t∈ts,t.nd=true)(hN:ts.length≤1000000):dQ prog 65 [aaY c,.pointer (some ⟨g50,0,none⟩)] w (fun v _=>v=.bool (dC ts c.u c.v)):=by
 refine⟨bK func65 (by kernel_rfl),?_⟩;have m:=Mem.refl w
 go_enter func65,ntmps65
 apply jP 7 [0] m;simp only[↓aD,↓eT];intro g1 u m;refine aR O ((hB50.ext m.ext).lies1 Zq O) ?_;simp only[zz];apply aL 4 [0,0,0] m;simp only[↓aD,↓eT,Cy,aS,vC,aa];refine dM m O O (Yn (p:=c.u) (q:=c.v) _ (hS.ext m.ext) hD (hT.ext m.ext) hnd hN) ?_;rintro v u m rfl;apply aL 3 [] m;simp only[↓aD];exact aT O O ⟨_,O,m.ext,O⟩
theorem alL{A:Option Addr}{ea ef:Array c_}{D:List (P3 × Hd)}{F:List (P3 × Bool)}{cs:List lT}{A1:Option Addr}(w:aj)(hB50:fR w g50 [.pointer (some ⟨g90,0,none⟩)] 88)(hS:Kk 109 w g90 ga gf A N cap ea ef ca cf D ts)(hT:bV w A N ts)(hD:Ub ea ef ca cf D F ts)(hnd:∀t∈ts,t.nd=true)(hN:ts.length≤1000000)(hL:vJ sY 8 w A1 n1 cs)(hI:∀c∈cs,I3 c.u∧I3 c.v)(hn1:n1≤100000000):dQ prog 124 [.slice A1 n1 c1,.func (.func 65) #[] #[.pointer (some ⟨g50,0,none⟩)]] w (fun v _=>∃k:Int,v=.int .i64 k∧((k<0∧∀c∈cs,dC ts c.u c.v=false)∨∃(j:Nat) (c:lT),k=j∧j<n1∧cs[j]? = some c∧dC ts c.u c.v=true∧∀(i:Nat) (d:lT),i<j→cs[i]? = some d→dC ts d.u d.v=false)):=by
 refine⟨bK func124 (by kernel_rfl),?_⟩;have m:=Mem.refl w;have hcl:=hL.len
 go_enter func124,ntmps124
 apply fF 12 [0] m;simp only[↓aD,aqr];refine bX [8] [4,5,9,10,11,12,13,14,15,16,17,18] (fun n vs wl=>∃(k:Nat),vs=[.int .i64 (k:Int)]∧Mem w wl []∧(∀(j:Nat) (d:lT),j<k→cs[j]? = some d→dC ts d.u d.v=false)∧(k≤n1)∧(n=n1-k)) ?_ ?_
 ·
  exact⟨_,0,O,m,(fun j r h=>by omega),cv _,O⟩
 · intro n vs wr hI u K1 hK1
   obtain⟨k,rfl,m,hq0,hk,hn2⟩:=hI;simp only[zu,zF,zG];apply aJ 5 [0,0] m;simp only[↓aD];refine bG O ?_ ?_<;>intro hc1
   ·
    obtain⟨c,hc,a1,rfl,hrow⟩:=hL.get (i:=k) (by omega);apply aJ 13 [0] m;simp only[↓aD];refine aB (aF underlying105 qY O O (by omega) (by omega) (cQ (ah _))) ?_;simp only[zz];refine aR O ((hrow.ext m.ext).lies Ih qY) ?_;simp only[zz];refine dM m O O ((haveI:=(hI c (bh hc)).1;haveI:=(hI c (bh hc)).2;arU (c:=c) _ (hB50.ext m.ext) (hS.ext m.ext) (hT.ext m.ext) hD hnd hN)) ?_;rintro v u m rfl;apply aL 1 [0] m;simp only[↓aD];refine dK O ?_ ?_<;>intro hc2
    ·
     apply aJ 6 [] m;simp only[↓aD];exact aT O O ⟨_,O,m.ext,k,O,.inr ⟨k,c,O,by omega,hc,hc2,fun i d hi hd=>hq0 i d hi hd⟩⟩
    ·
     apply aJ 6 [0] m;simp only[↓aD];refine⟨by omega,?_⟩;exact hK1 (n1-(k+1)) _ _ (by omega) (by kernel_rfl) ⟨k+1, rfl, m, (fun j r2 hj h1 => by
      rcases Nat.lt_or_ge j k with h | h
      · exact hq0 j r2 h h1
      · obtain rfl:j=k:=by omega
        rw[hc] at h1;cases h1;exact hc2),by omega,O⟩
   ·
    obtain rfl:n1=k:=by omega
    apply aJ 6 [] m;simp only[↓aD];exact aT rfl rfl ⟨_,rfl,m.ext,-1,rfl,.inl ⟨by decide,fun c hc=>by obtain⟨j,hj⟩:=ej.1 hc;exact hq0 j c (by have:=(ap.1 hj).1;omega) hj⟩⟩
theorem arV{w0 w:aj}{K R0:It}{A:Option Addr}{ea ef:Array c_}{D:List (P3 × Hd)}{F:List (P3 × Bool)}{cs:List lT}{A1:Option Addr}(m:Mem w0 w [oI 112 8 A1 n1 c1 (cs.flatMap sY),bI g50 [.pointer (some ⟨g90,0,none⟩)] 88,K,oI 39 9 A N cap (ts.flatMap aN),R0])(hK:∀u,K.P u→Kk 109 u g90 ga gf A N cap ea ef ca cf D ts)(hD:Ub ea ef ca cf D F ts)(hnd:∀t∈ts,t.nd=true)(hIT:∀t∈ts,IT t)(hN:ts.length≤1000000)(hI:∀c∈cs,I3 c.u∧I3 c.v)(hb:∀c∈cs,Bd 900000 c.c)(hn1:n1≤100000000):wE prog 63 [.slice A1 n1 c1,.func (.func 64) #[] #[],.func (.func 65) #[] #[.pointer (some ⟨g50,0,none⟩)]] w fun v w'=>Mem w0 w' [bI g50 [.pointer (some ⟨g90,0,none⟩)] 88,K,oI 39 9 A N cap (ts.flatMap aN),R0]∧((v=.tuple #[.agg #[.int .i64 0,.int .i64 0,.int .i64 0,.int .i64 0,.int .i64 0,.int .i64 0,.bool false,.string ⟨#[]⟩],.bool false]∧∀c∈cs,dC ts c.u c.v=false)∨∃(c:lT) (ys:List lT) (j:Nat),v=.tuple #[aaY c,.bool true]∧ys.Perm cs∧(ys.Pairwise fun a b=>¬b.Lt a)∧ys[j]? = some c∧dC ts c.u c.v=true∧∀(i:Nat) (d:lT),i<j→ys[i]? = some d→dC ts d.u d.v=false):=by
 refine⟨bK func63 (by kernel_rfl),?_⟩
 go_enter func63,ntmps63
 apply jP 9 [0] m;simp only[↓aD,↓eT,ad6];intro g51 u m;refine mO m 1 (bK func123 (by kernel_rfl)) O O (fun m=>aoA hb m 1 O (by omega)) ?_;rintro v i u m ⟨rfl,ys,rfl,hys,hso⟩;simp only[zF,zG] at m;apply aL 5 [0] m;simp only[↓aD];refine dM m O O (alL _ (m.b 2 O) (hK _ (m.get 3 O)) ((m.o 4 O).tris hIT) hD hnd hN ((m.o 1 O).lat (enc:=sY) (fun _=>rfl) (by decide)) (fun c hc=>hI c (hys.mem_iff.1 hc)) hn1) ?_;rintro v u m ⟨kk,rfl,hkk⟩;apply aL 8 [0,0] m;simp only[↓aD];refine bG O ?_ ?_<;>intro hc1
 ·
  apply zvc 11 [0,1] m;simp only[↓aD,↓eT,ad6,ad5,aa];intro g52 u m;exact yE O ⟨_,O,((m.b 1 O).full Ih qY)⟩ O ⟨_,O,m.sel [false,false,false,true,true,true,true],.inl ⟨O,fun c hc=>(hkk.resolve_right (fun⟨j,c2,e,_⟩=>by omega)).2 c (hys.mem_iff.2 hc)⟩⟩
 ·
  obtain⟨j,c,rfl,hj,hc,ha,hb4⟩:=hkk.resolve_left (fun h=>hc1 h.1);obtain⟨c9,hc9,a1,hA1,hr5⟩:=((m.o 1 rfl).lat (enc:=sY) (fun _=>rfl) (by decide)).get (i:=j) (by omega);obtain rfl:c9=c:=fq (hc9.symm.trans hc);subst hA1;apply aJ 5 [0] m;simp only[↓aD];refine aB (aF underlying105 qY O O (by omega) (by omega) (cQ (ah _))) ?_;simp only[zz];refine aR O (show fZ _ _ _ _ (.agg #[.int .i64 c9.u.x,.int .i64 c9.u.y,.int .i64 c9.u.z,.int .i64 c9.v.x,.int .i64 c9.v.y,.int .i64 c9.v.z,.bool (fX c9.c),.string (kL c9.c)]) from hr5.lies Ih qY) ?_;simp only[zz];apply kD 4 [0] m;simp only[↓aD,↓eT,ad5,aa];intro u m;exact yE O ⟨_,O,((m.b 0 O).full Ih qY)⟩ O ⟨_,O,m.sel [false,false,true,true,true,true],.inr ⟨c9,ys,j,O,hys,hso,hc,ha,hb4⟩⟩
end Go.Proofs.YtfekpcimgncioaaGreatDoor
namespace Go.Lith
open Go.RowKit Go.ChangeMaps Go.MapKept
section
variable {K V:Type} [DecidableEq K] {P:br} {T M E ty:az} {ek:K→ai} {ev:V→ai} {w w0:aj} {g c:Nat} {es:Array c_} {D:List (K × V)} {is:List It}
def tH(ek:K→ai)(ev:V→ai)(D:List (K × V))(es:Array c_)(seen:Array Nat)(dn rs:List (K × V)):Prop :=
 (dn++rs).Perm D∧∃dE rE:List c_,(∀e∈dE,e.born∈seen.toList)∧(∀e∈rE,e.born∉seen.toList)∧(dE++rE).Perm es.toList∧dE.map Vl=dn.map (fun x=>(ek x.1,ev x.2))∧rE.map Vl=rs.map (fun x=>(ek x.1,ev x.2))
def yB(ek:K→ai)(ev:V→ai)(D:List (K × V))(es:Array c_)(seen:Array Nat)(dn:List (K × V))(k:K)(v:V)(rs:List (K × V)):Prop :=
 tH ek ev D es seen (dn++[(k,v)]) rs∧∃(e:c_) (s:Array Nat),e∈es.toList∧Vl e=(ek k,ev v)∧seen=s.push e.born
theorem tH.start(hD:bO ek ev D es c):tH ek ev D es #[] [] D:=⟨od _,[],es.toList,fun _ h=>(by cases h),fun _ _ h=>(by cases h),od _,rfl,hD.cells⟩
theorem tH.done{seen:Array Nat}{dn:List (K × V)}(h:tH ek ev D es seen dn []):dn.Perm D:=by simpa using h.1
def aoB(ek:K→ai)(ev:V→ai)(D:List (K × V))(es:Array c_)(dn rs:List (K × V))(b:Bool)(seen':Array Nat):Prop :=
 (b=false∧rs=[])∨(b=true∧∃k v rs',rs.Perm ((k,v)::rs')∧yB ek ev D es seen' dn k v rs')
theorem ahL{r:Nat}{seen:Array Nat}{dn rs:List (K × V)}(hI:rY w r g c seen c)(hM:jF w g es c)(hD:bO ek ev D es c)(hT:tH ek ev D es seen dn rs) :
 ∃b kv vv seen' w1,(w1=w∨w1=w.drew)∧(Instr.next (.pointer (some ⟨r,0,none⟩)) false ty).run P w=.ok (Fv b kv vv) (setBlock w1 r (.mapIter (some g) c seen' c))∧aoB ek ev D es dn rs b seen':=by
 obtain⟨hp,dE,rE,h1,h1',h2,h3,h4⟩:=hT;have hnd:((dE++rE).map (·.born)).Nodup:=(h2.map (·.born)).nodup_iff.2 hD.nd;have hleft:∀e,e∈(leftOf es seen).toList↔e∈rE:=fun e=>by
  unfold leftOf;simp only[Array.toList_filter,dw,Bool.not_eq_true',Array.contains_eq_mem,decide_eq_false_iff_not];rw[←Array.mem_toList_iff (xs:=seen),←h2.mem_iff,bi];constructor
  · rintro⟨h | h,hn⟩
    · exact absurd (h1 e h) hn
    · exact h
  · intro h
    exact⟨.inr h,h1' e h⟩
 rcases run_next_at (P:=P) w ty r g c c seen es c hI hM hD.born (aq _) with ⟨h0,hr⟩ | ⟨e,he,w1,hw1,hr⟩
 · refine⟨false,default,default,seen,w,.inl O,?_,.inl ⟨O,?_⟩⟩
   · rw[hr]
     have:setBlock w r (.mapIter (some g) c seen c)=w:=by
      unfold setBlock;have hlt:=(Array.getElem?_eq_some_iff.1 hI).1;have:w.heap.setIfInBounds r (.mapIter (some g) c seen c)=w.heap:=by
       apply Array.ext_getElem?;intro i;rw[Array.getElem?_setIfInBounds];split
       · rename_i e;subst e;exact hI.symm
       · rfl
      rw[this]
     rw[this];rfl
   · cases rs with
     | nil=>rfl
     | cons x rs =>
      cases rE with
      | nil=>simp at h4
      | cons e rE =>
       have:=(hleft e).2 (bm ..);rw[Array.eq_empty_of_size_eq_zero h0] at this;simp at this
 · obtain⟨s,t,rfl⟩:=List.append_of_mem ((hleft e).1 he)
   rw[ct,bj] at h4;obtain⟨rs1,rs2,rfl,e1,e2⟩:=mc.1 h4.symm;obtain⟨x,rs3,rfl,e3,e4⟩:=nc.1 e2;obtain⟨k,v⟩:=x;have hmid:(dE++[e]++(s++t)).Perm (dE++(s++e::t)):=by
    simp only[cq,cn,b_];exact mo _ List.perm_middle.symm
   have hnd':((dE++[e]++(s++t)).map (·.born)).Nodup:=(hmid.map _).nodup_iff.2 hnd;rw[ct,jr] at hnd';refine⟨true,e.key,e.val,seen.push e.born,w1,hw1,hr,.inr ⟨O,k,v,rs1++rs3,List.perm_middle,⟨?_,dE++[e],s++t,?_,?_,?_,?_,?_⟩,e,seen,h2.mem_iff.1 (by simp),by rw[←e3],O⟩⟩
   · refine List.Perm.trans ?_ hp
     simp only[cq,cn,b_];exact mo _ List.perm_middle.symm
   · intro x hx
     rw[oc];rcases bi.1 hx with hx | hx
     · exact ig _ (h1 x hx)
     · rw[bf.1 hx];exact gp _ (bf.2 O)
   · intro x hx hm
     rw[oc] at hm;rcases bi.1 hm with hm | hm
     · refine h1' x ?_ hm
       rcases bi.1 hx with h | h
       · exact ig _ h
       · exact gp _ (bg _ h)
     · refine hnd'.2.2 e.born (dh.2 ⟨e,by simp,O⟩) x.born (dh.2 ⟨x,hx,O⟩) (bf.1 hm).symm
   · exact hmid.trans h2
   · simp only[ct,h3,bj,dx]
     rw[←e3]
   · simp[e1,e4]
theorem aeN{r:Nat}{seen:Array Nat}{dn rs:List (K × V)}{k:K}{v:V}(hI:rY w r g c seen c)(hM:jF w g es c)(hD:bO ek ev D es c)(hT:yB ek ev D es seen dn k v rs) :
 (Instr.entry (.pointer (some ⟨r,0,none⟩))).run P w=.ok (.tuple #[ek k,ev v]) w:=by
 obtain⟨_,e,s,hm,he,rfl⟩:=hT;have:=run_entry_at (P:=P) w r g c _ es c e hI hM hm hD.nd;rw[this];simp only[Vl,ft] at he;rw[he.1,he.2]
theorem alM(w:aj)(kt:sR P T ek){a b:K}(h:ek a=ek b):a=b:=by
 have h1:=kt.eq a b w;have h2:=kt.eq a a w;rw[←h,h2] at h1
 injection h1 with h1
 simpa using h1.symm
theorem Na{α:Type}:∀{l:List α} {p:Nat} {x:α},l[p]? = some x→l.Perm (x::l.eraseIdx p)
 | [],_,_,h=>by simp at h
 | y::l,0,x,h=>by simp at h;subst h;exact .refl _
 | y::l,p+1,x,h=>by
  have:=Na (l:=l) (p:=p) (by simpa using h);exact (this.cons y).trans (.swap ..)
theorem Nb{α:Type}:∀{l:List α} {p:Nat} {x y:α},l[p]? = some x→(l.set p y).Perm (y::l.eraseIdx p)
 | [],_,_,_,h=>by simp at h
 | z::l,0,x,y,h=>.refl _
 | z::l,p+1,x,y,h=>by
  have:=Nb (l:=l) (p:=p) (y:=y) (x:=x) (by simpa using h);exact (this.cons z).trans (.swap ..)
theorem Uh{D:List (K × V)}(hn:(D.map (·.1)).Nodup){p q:Nat}{k:K}{v u:V}(hp:D[p]? = some (k,v))(hq:D[q]? = some (k,u)):p=q:=by
 have h1:(D.map (·.1))[p]? = some k:=by simp[hp]
 have h2:(D.map (·.1))[q]? = some k:=by simp[hq]
 obtain⟨a1,a2⟩:=ap.1 h1;obtain⟨b1,b2⟩:=ap.1 h2;exact (nf hn).1 (a2.trans b2.symm)
theorem yB.at(kt:sR P T ek)(w:aj){seen:Array Nat}{dn rs:List (K × V)}{k:K}{v:V}(hD:bO ek ev D es c)(hn:(D.map (·.1)).Nodup)(hT:yB ek ev D es seen dn k v rs) :
 ∃(p:Nat) (e:c_) (dE rE:List c_),qS D k 0=some (p,v)∧D[p]? = some (k,v)∧es.toList[p]? = some e∧(dn++rs).Perm (D.eraseIdx p)∧(dE++rE).Perm (es.toList.eraseIdx p)∧e.born∈seen.toList ∧
  (∀e∈dE,e.born∈seen.toList)∧(∀e∈rE,e.born∉seen.toList)∧dE.map Vl=dn.map (fun x=>(ek x.1,ev x.2))∧rE.map Vl=rs.map (fun x=>(ek x.1,ev x.2)):=by
 obtain⟨⟨hp,dE,rE,h1,h1',h2,h3,h4⟩,_⟩:=hT;have hmem:(k,v)∈D:=hp.mem_iff.1 (by simp);have hg:=vS hn hmem;cases hf:qS D k 0 with
 | none=>rw[(rA D k 0 hf).1] at hg;cases hg
 | some q =>
  obtain⟨j,v'⟩:=q;obtain⟨p,rfl,hpp,h0,_,_⟩:=nC D k 0 j v' hf;rw[au] at hf ⊢;obtain rfl:v'=v:=by rw[h0] at hg;exact fq hg
  rw[ct,bj,dx] at h3;obtain⟨d1,d2,rfl,e1,e2⟩:=mc.1 h3;obtain⟨e,d3,rfl,e3,e4⟩:=nc.1 e2;obtain rfl:d3=[]:=by simpa using e4
  have hm:e∈es.toList:=h2.mem_iff.1 (by simp);obtain⟨q,hq⟩:=ej.1 hm;have hqD:∃u,D[q]? = some (k,u):=by
   have h5:=congrArg (fun L=>L[q]?) hD.cells;simp only[fb,hq,fm,e3] at h5;cases h6:D[q]? with
   | none=>rw[h6] at h5;cases h5
   | some x =>
    rw[h6] at h5;simp only[fm,gw,ft] at h5;obtain⟨a,u⟩:=x;obtain rfl:k=a:=alM w kt h5.1;exact⟨u,O⟩
  obtain⟨u,hu⟩:=hqD;obtain rfl:=Uh hn hpp hu;refine⟨p,e,d1,rE,O,hpp,hq,?_,?_,h1 e (by simp),fun x hx=>h1 x (ig _ hx),h1',e1,h4⟩
  · have:((k,v')::(dn++rs)).Perm ((k,v')::D.eraseIdx p):=by
     refine (?_:List.Perm _ _).trans (hp.trans (Na hpp));rw[cq];exact List.perm_middle.symm
    exact (om _).1 this
  · have:(e::(d1++rE)).Perm (e::es.toList.eraseIdx p):=by
     refine (?_:List.Perm _ _).trans (h2.trans (Na hq));rw[cq];exact List.perm_middle.symm
    exact (om _).1 this
theorem acL{T2:az}{seen:Array Nat}{dn rs:List (K × V)}{k:K}{v:V}(hu:P.underlying M=some (.map T E))(kt:sR P T ek)(hM:jF w g es c)(hD:bO ek ev D es c)(hn:(D.map (·.1)).Nodup)(hT:yB ek ev D es seen dn k v rs) :
 ∃es',(Builtin.delete_ #[M,T2] ty #[.map (some g),ek k]).run P w=.ok (.tuple #[]) (setBlock w g (.map es' c))∧bO ek ev (Cj D k) es' c∧tH ek ev (Cj D k) es' seen dn rs:=by
 unfold jF at hM;obtain⟨p,e,dE,rE,hf,hp,he,hd,hE,_,h1,h1',h3,h4⟩:=hT.at kt w hD hn;obtain⟨p',e0,_,_,_,hm⟩:=nC D k 0 p v hf;rw[au] at e0;subst e0;refine⟨es.eraseIdxIfInBounds p,?_,hm▸hD.erase p,hm▸hd,dE,rE,h1,h1',?_,h3,h4⟩
 · simp[Builtin.delete_,run_underlying hu,getObj,Sem.run,hM,kt.chk,uT kt k w hD,hf,run_setObj_map _ hM,setBlock]
 · have e2:(es.eraseIdxIfInBounds p).toList=es.toList.eraseIdx p:=by
    by_cases h:p<es.size
    · simp[ll,h]
    · simp only[ll,h,dite_false]
      exact (List.eraseIdx_of_length_le (by simpa using Nat.le_of_not_lt h)).symm
   rw[e2];exact hE
theorem acM{seen:Array Nat}{dn rs:List (K × V)}{k:K}{v:V}(hu:P.underlying M=some (.map T E))(kt:sR P T ek)(hM:jF w g es c)(hD:bO ek ev D es c)(hn:(D.map (·.1)).Nodup)(hT:yB ek ev D es seen dn k v rs)(u:V) :
 ∃es',(Instr.mapUpdate M (.map (some g)) (ek k) (ev u)).run P w=.ok () (setBlock w g (.map es' c))∧bO ek ev (fI D k u) es' c∧tH ek ev (fI D k u) es' seen (dn++[(k,u)]) rs:=by
 unfold jF at hM;obtain⟨p,e,dE,rE,hf,hp,he,hd,hE,hb,h1,h1',h3,h4⟩:=hT.at kt w hD hn;obtain⟨p',e0,_,_,hm,_⟩:=nC D k 0 p v hf;rw[au] at e0;subst e0;have hk:e.key=ek k:=by
  have h2:=congrArg (fun L=>L[p]?) hD.cells;simp only[fb,hp,he,fm,Vl,gw,ft] at h2;exact h2.1
 have hes:es[p]? = some e:=by rw[←Array.getElem?_toList];exact he
 have hk':((es[p]?).map (·.key)).getD (ek k)=ek k:=by rw[hes];exact hk
 refine⟨es.modify p fun e=>{ e with key:=ek k,val:=ev u },?_,hm u▸hD.set hp u,hm u▸?_,dE++[{ e with key:=ek k,val:=ev u }],rE,?_,h1',?_,?_,h4⟩
 · simp only[Instr.mapUpdate,Sem.run_bind,run_underlying hu,Result.andThen,getObj,Sem.run,hM,Sem.run_pure,kt.chk,uT kt k w hD,hf,fm,hk',Instr.keyThatStays,kt.bits,if_true]
   exact run_setObj_map _ hM
 · rw[cq]
   refine List.perm_middle.trans (((hd.cons (k,u))).trans (Nb hp).symm)
 · intro x hx
   rcases bi.1 hx with hx | hx
   · exact h1 x hx
   · rw[bf.1 hx];exact hb
 · have e2:(es.modify p fun e=>{ e with key:=ek k,val:=ev u }).toList=es.toList.set p { e with key:=ek k,val:=ev u }:=by
    rw[Array.toList_modify];apply List.ext_getElem?;intro j;rw[List.getElem?_modify,List.getElem?_set];by_cases h:p=j
    · subst h
      have:=(ap.1 he).1;rw[he];simp[this];simpa using this
    · simp[h]
   rw[e2,cq];exact List.perm_middle.trans ((hE.cons _).trans (Nb he).symm)
 · simp[h3,Vl]
theorem yB.stay{seen:Array Nat}{dn rs:List (K × V)}{k:K}{v:V}(hT:yB ek ev D es seen dn k v rs):tH ek ev D es seen (dn++[(k,v)]) rs:=hT.1
variable {ds:List Deferred} {l:List ai} {x y z:Operand} {ops:Array Oper} {Q:Exit→Act→aj→Prop} {rest:List Oper} {d:Nat} {pos:String} {after:Array Edge}
theorem alN{r:Nat}{seen:Array Nat}{dn rs:List (K × V)}(m:Mem w0 w is)(k:Nat)(hk:is[k]? = some (iI r g c seen))(hx:Go.Lith.ev l x=.pointer (some ⟨r,0,none⟩))(hM:jF w g es c)(hD:bO ek ev D es c)(hT:tH ek ev D es seen dn rs)
 (h:∀b kv vv seen' u,Mem w0 u (is.set k (iI r g c seen'))→aoB ek ev D es dn rs b seen'→ar P ops Q rest (Fr (l.set d (Fv b kv vv)) ds) u) :
 ar P ops Q (Oper.mk (some d) (.next x false) ty pos after none::rest) (Fr l ds) w:=by
 have hI:=m.r k hk;obtain⟨b,kv,vv,seen',w1,hw1,hr,hN⟩:=ahL (P:=P) (ty:=ty) hI hM hD hT;refine mM (w':=setBlock w1 r (.mapIter (some g) c seen' c)) (v:=Fv b kv vv) (fun o ho hty=>by simp[execOp,ho,cD,hx,hty,hr]) (h b kv vv seen' _ ?_ hN);have e1:w1.heap=w.heap∧w1.os=w.os∧w1.tape=w.tape∧w1.output=w.output:=by rcases hw1 with rfl | rfl <;> exact⟨rfl,rfl,rfl,rfl⟩
 refine m.put k hk e1.2.1 e1.2.2.1 e1.2.2.2 (by simp[setBlock,e1.1]) (fun b' _ hne=>?_) ?_ (.inl fun _ h=>h)
 · have:b'≠r:=fun e=>hne (by rw[e];rfl)
   simp only[setBlock,e1.1];exact Array.getElem?_setIfInBounds_ne (Ne.symm this)
 · exact jZ (w:=w1) (o:=.mapIter (some g) c seen c) (by rw[e1.1];exact hI)
theorem acN{r:Nat}{seen:Array Nat}{dn rs:List (K × V)}{k:K}{v:V}(hx:Go.Lith.ev l x=.pointer (some ⟨r,0,none⟩))(hI:rY w r g c seen c)(hM:jF w g es c)(hD:bO ek ev D es c)(hT:yB ek ev D es seen dn k v rs) :
 Bb P l (.entry x) ty (.tuple #[ek k,ev v]) w:=fun o ho _=>by
 have:=aeN (P:=P) hI hM hD hT;simp[execOp,ho,cD,hx,this]
theorem alO{a:K}{va:V}{T2:az}{seen:Array Nat}{dn rs:List (K × V)}(m:Mem w0 w is)(k:Nat)(hk:is[k]? = some (mI g es c))(hu:P.underlying M=some (.map T E))(kt:sR P T ek)(hx:Go.Lith.ev l x=.map (some g))(hy:Go.Lith.ev l y=ek a)(hD:bO ek ev D es c)
 (hn:(D.map (·.1)).Nodup) (hT:yB ek ev D es seen dn a va rs) {a0:Array az} (ha:a0 = #[M,T2])
 (h:∀es' u,Mem w0 u (is.set k (mI g es' c))→bO ek ev (Cj D a) es' c→tH ek ev (Cj D a) es' seen dn rs→ar P ops Q rest (Fr l ds) u):ar P ops Q (Oper.mk none (.call { callee:=.builtin .delete,args:=#[x,y],argTypes:=a0 }) ty pos after none::rest) (Fr l ds) w:=by
 subst ha;have hM:=m.p k hk;have hC:=fun es' c'=>qA (w:=w) (g:=g) (.map es' c');refine an7 fun o ho=>?_;obtain⟨es',hr,hD',hT'⟩:=acL (T2:=T2) (ty:=o.type) hu kt hM hD hn hT;exact⟨.tuple #[],setBlock w g (.map es' c),by simp[execOp,ho,resolve,invoke,builtin,cD,hx,hy,hr],h es' _ (m.put k hk (hC es' c).os (hC es' c).tape (hC es' c).output (by rw[(hC es' c).size];exact aq _) (fun b _ hne=>(hC es' c).block b fun e=>hne (by rw[e];rfl)) (jZ hM) (.inl fun _ h=>h)) hD' hT'⟩
theorem alP{v va:V}{a:K}{seen:Array Nat}{dn rs:List (K × V)}(m:Mem w0 w is)(k:Nat)(hk:is[k]? = some (mI g es c))(hu:P.underlying M=some (.map T E))(kt:sR P T ek)(hx:Go.Lith.ev l x=.map (some g))(hy:Go.Lith.ev l y=ek a)(hz:Go.Lith.ev l z=ev v)(hD:bO ek ev D es c)
 (hn:(D.map (·.1)).Nodup) (hT:yB ek ev D es seen dn a va rs)
 (h:∀es' u,Mem w0 u (is.set k (mI g es' c))→bO ek ev (fI D a v) es' c→tH ek ev (fI D a v) es' seen (dn++[(a,v)]) rs→ar P ops Q rest (Fr l ds) u):ar P ops Q (Oper.mk none (.mapUpdate M x y z) ty pos after none::rest) (Fr l ds) w:=by
 have hM:=m.p k hk;obtain⟨es',hr,hD',hT'⟩:=acM hu kt hM hD hn hT v;have hC:=qA (w:=w) (g:=g) (.map es' c);refine Hp (w':=setBlock w g (.map es' c)) (fun o ho=>by simp[execOp,ho,cD,hx,hy,hz,hr]) (h es' _ ?_ hD' hT');exact m.put k hk hC.os hC.tape hC.output (by rw[hC.size];exact aq _) (fun b _ hne=>hC.block b fun e=>hne (by rw[e];rfl)) (jZ hM) (.inl fun _ h=>h)
end
end Go.Lith
namespace Go.Proofs.YtfekpcimgncioaaGreatDoor
open Go.Proofs.Tryz
open Go.RowKit Go.Lith
set_option maxRecDepth 100000
attribute [local irreducible] ar cw gG bQ cO Code.wp
attribute [local congr] rC gX gY gZ iA iB lI iC iD iE iF iG iH iJ iK iL iM iN fJ fK iO iP iR iS iT lK dW dX cX dV iQ lJ fN fO fP iU iV lM
variable{R0:It}{q60 c60 g16:Nat}{cc:lT}
theorem alQ:sR prog 56 ed:=by
 refine sR.agg (cs:=fun p=>#[.int .i64 p.1.x,.int .i64 p.1.y,.int .i64 p.1.z,.int .i64 p.2.x,.int .i64 p.2.y,.int .i64 p.2.z]) (fun _=>rfl) Nn (fun e p=>?_) (fun p q=>?_) (fun p=>?_)
 · refine wV.array (d:=9999) Nn aA fun i hi=>?_
   obtain rfl | rfl:=(by omega:i=0∨i=1)
   · refine⟨_,cR aH aA O,?_⟩
     refine wV.struct (d:=9998) fT fun f hf=>?_;simp only[an,cg,or_false] at hf;rcases hf with rfl | rfl | rfl
     · exact⟨_,cU bD O,wV.int (d:=9997) jE⟩
     · exact⟨_,cU bD O,wV.int (d:=9997) jE⟩
     · exact⟨_,cU bD O,wV.int (d:=9997) jE⟩
   · refine⟨_,cR aH aA O,?_⟩
     refine wV.struct (d:=9998) fT fun f hf=>?_;simp only[an,cg,or_false] at hf;rcases hf with rfl | rfl | rfl
     · exact⟨_,cU bD O,wV.int (d:=9997) jE⟩
     · exact⟨_,cU bD O,wV.int (d:=9997) jE⟩
     · exact⟨_,cU bD O,wV.int (d:=9997) jE⟩
 · exact (aiR _).iff ⟨fun h=>Prod.ext (P3.eq h.1 h.2.1 h.2.2.1) (P3.eq h.2.2.2.1 h.2.2.2.2.1 h.2.2.2.2.2),fun h=>by subst h;simp only[and_self]⟩
 · simp[ed,Instr.sameBits]
theorem atF:oD prog 95 (W 0):=by rw[Zi];exact yR
theorem af6:oD prog 97 (qV q0):=by rw[←zqV];exact amI
def qM(D:List (E3 × Int))(Q:P3→List Int):Prop:=∀k v,cG D k=some v→v=tD Q k.1 k.2
theorem qM.put{D:List (E3 × Int)}{Q:P3→List Int}(h:qM D Q)(p q:P3):qM (fI D (p,q) (tD Q p q)) Q:=fun k v hv=>by
 rw[mK] at hv;split at hv
 · rename_i e;cases e;cases hv;rfl
 · exact h k v hv
structure QOK(Dq:List (P3 × List Int))(Q:P3→List Int)(B:Nat):Prop where
 get:∀x,(cG Dq x).getD q0=Q x
 len:∀x,(Q x).length=10
 bd:∀x,Gy B (Q x)
theorem arW{w0 w:aj}{g60 g61 q61 c61 B:Nat}{es60 es61:Array c_}{Dc:List (E3 × Int)}{Dq:List (P3 × List Int)}{Q:P3→List Int}{p q:P3}[I3 p][I3 q](m:Mem w0 w [bI g60 [.map (some q60)] 100,bI g61 [.map (some q61)] 93,mI q60 es60 c60,mI q61 es61 c61,R0])(hD60:bO ed W Dc es60 c60)(hD61:bO pt qV Dq es61 c61)(hC:qM Dc Q)(hnC:(Dc.map (·.1)).Nodup)(hQ:QOK Dq Q B)(hB:B≤800000):wE prog 59 [pt p,pt q,.pointer (some ⟨g60,0,none⟩),.pointer (some ⟨g61,0,none⟩)] w fun v w'=>∃(es:Array c_) (c:Nat) (D:List (E3 × Int)),v=W (tD Q p q)∧Mem w0 w' [bI g60 [.map (some q60)] 100,bI g61 [.map (some q61)] 93,mI q60 es c,mI q61 es61 c61,R0]∧bO ed W D es c∧qM D Q∧(D.map (·.1)).Nodup:=by
 refine⟨bK func59 (by kernel_rfl),?_⟩;obtain rfl:(fun x=>(cG Dq x).getD q0)=Q:=funext hQ.get;have hlp:((cG Dq p).getD q0).length=10:=hQ.len p;have hlq:((cG Dq q).getD q0).length=10:=hQ.len q;have hbp:Gy B ((cG Dq p).getD q0):=hQ.bd p;have hbq:Gy B ((cG Dq q).getD q0):=hQ.bd q
 go_enter func59,ntmps59
 apply jP 12 [3,2,1,0] m;simp only[↓aD,↓eT,nF,aan,aS,Fy,aa];intro g71 g72 g73 u m;refine fG (Wv (ek:=ed) (en:=W) (k:=(p,q)) (v0:=0) underlying100 atF alQ O O (m.p 5 O) hD60) ?_;simp only[zz];apply kD 13 [0,0] m;simp only[↓aD,↓eT,nF,fD,aa];intro g74 u m;refine dK O ?_ ?_<;>intro hc1
 ·
  apply aJ 1 [0] m;simp only[↓aD];refine cL m 9 aC (by kernel_rfl) ?_;simp only[zy];refine ql O (fun u m=>((m.b 5 O).lies1 aiL O)) ?_;simp only[zz];refine ql O (fun u m=>((m.b 3 O).full aH aA)) ?_;simp only[zz];refine kN (fun u m=>eH (ek:=pt) (en:=qV) (k:=p) (v0:=q0) Rh af6 gD O O (m.p 7 O) hD61) ?_;simp only[zz];refine ql O (fun u m=>((m.b 5 O).lies1 aiL O)) ?_;simp only[zz];refine ql O (fun u m=>((m.b 2 O).full aH aA)) ?_;simp only[zz];refine kN (fun u m=>eH (ek:=pt) (en:=qV) (k:=q) (v0:=q0) Rh af6 gD O O (m.p 7 O) hD61) ?_;simp only[zz];refine eX O O (aeG hlp hlq hbp hbq (by omega)) ?_;simp only[zz];refine ql O (fun u m=>((m.b 2 O).full aH aA)) ?_;simp only[zz];refine eX O O (atD (Pk hbp hbq) (lL hlp hlq) (by omega)) (bC ?_);intro u m;simp only[zz];refine bP m 0 O O O aQ (gV O) O ?_;intro u m;simp only[zy,zx,over,zF,zG,aa] at m;refine aM ?_;apply aW 6 [4,3,2,0,0] m;simp only[↓aD,↓eT,aan,aS,Fy,fD,aa];refine nN (ek:=ed) (en:=W) (a:=(p,q)) (v:=(tD (fun x=>(cG Dq x).getD q0) p q)) m 6 O underlying100 alQ O O O hD60 ?_;intro es60 c60 u m hD60;simp only[zF,zG] at m;apply kD 7 [0,1] m;simp only[↓aD,↓eT,fD,aa];intro u m;exact aT O ⟨_,O,((m.b 1 O).full cI aQ)⟩ ⟨_,O,_,_,_,O,m.sel [false,false,false,false,true,true,true,true,true],hD60,hC.put p q,uS hnC _ _⟩
 ·
  obtain⟨y,hy⟩:∃y,cG Dc (p,q)=some y:=Option.isSome_iff_exists.1 (by simpa using hc1);obtain rfl:=hC _ _ hy;simp only[hy,dq] at m;apply zvc 7 [0,1] m;simp only[↓aD,↓eT,fD,aa];intro u m;exact aT O ⟨_,O,((m.b 1 O).full cI aQ)⟩ ⟨_,O,_,_,_,O,m.sel [false,false,false,false,true,true,true,true,true],hD60,hC,hnC⟩
theorem alR{K V:Type}[DecidableEq K]{ek:K→ai}{ev:V→ai}{D dn rs:List (K × V)}{es:Array c_}{b:Bool}{sn:Array Nat}(hb:b=false)(h:aoB ek ev D es dn rs b sn):rs=[]:=by
 rcases h with ⟨_,h⟩ | ⟨h,_⟩
 · exact h
 · rw[h] at hb;cases hb
theorem alS{K V:Type}[DecidableEq K]{ek:K→ai}{ev:V→ai}{D dn rs:List (K × V)}{es:Array c_}{b:Bool}{sn:Array Nat}(hb:b=true)(h:aoB ek ev D es dn rs b sn):∃k v rs',rs.Perm ((k,v)::rs')∧yB ek ev D es sn dn k v rs':=by
 rcases h with ⟨h,_⟩ | ⟨_,h⟩
 · rw[h] at hb;cases hb
 · exact h
theorem aoD(a b:P3):decide (a.x=b.x∧a.y=b.y∧a.z=b.z)=decide (a=b):=decide_eq_decide.2 ⟨fun h=>P3.eq h.1 h.2.1 h.2.2,fun h=>by rw[h];exact⟨rfl,rfl,rfl⟩⟩
def alT(v:P3)(k:E3):Bool:=decide (k.1=v)||decide (k.2=v)
theorem alU{k:E3}{x:Int}(w:aj)(hB16:fR w g16 (sY cc) 112):dQ prog 67 [ed k,W x,.pointer (some ⟨g16,0,none⟩)] w (fun v _=>v=.bool (alT cc.v k)):=by
 refine⟨bK func67 (by kernel_rfl),?_⟩;have m:=Mem.refl w
 go_enter func67,ntmps67
 apply jP 11 [1,0] m;simp only[↓aD,↓eT,Su,aS,vC,ad,ag,aa];intro g1 g2;refine⟨by omega,?_⟩;intro u m;refine aR O ((hB16.ext m.ext).lies aH aA O O) ?_;simp only[zz,zy,au,aa,ag,ad];refine aB (cK O O) ?_;apply aL 1 [0] m;simp only[↓aD];refine bB O (fun hb=>aK Nn aA O O (by decide) (by decide) O) ?_;simp only[zz];refine cA O (fun hb=>aZ (aY hb O) ((m.b 1 O).lies aH aA O O)) ?_;simp only[zz,zy,au,aa,ag,ad];refine bB O (fun hb=>aV (c:=2) yQ O aA O O) ?_;simp only[zz];refine cA O (fun hb=>aZ (aY hb O) ((hB16.ext m.ext).lies aH aA O O)) ?_;simp only[zz,zy,au,aa,ag,ad];refine bB O (fun hb=>cK (aY hb O) (aY hb O)) (aB (cE O O O) ?_);apply aL 3 [] m;simp only[↓aD];refine aT O O ?_;try simp only[zD,zE]
 exact⟨_,O,m.ext,by rw[aoD,aoD];rfl⟩
theorem alV{w0 w:aj}{es60:Array c_}{D0:List (E3 × Int)}(m:Mem w0 w [mI q60 es60 c60,bI g16 (sY cc) 112,R0])(hD60:bO ed W D0 es60 c60)(hn0:(D0.map (·.1)).Nodup):wE prog 66 [.map (some q60),.func (.func 67) #[] #[.pointer (some ⟨g16,0,none⟩)]] w fun v w'=>∃(es:Array c_) (D:List (E3 × Int)),v=.tuple #[]∧Mem w0 w' [mI q60 es c60,bI g16 (sY cc) 112,R0]∧bO ed W D es c60∧(D.map (·.1)).Nodup∧∀k v,cG D k=some v→cG D0 k=some v∧alT cc.v k=false:=by
 refine⟨bK func66 (by kernel_rfl),?_⟩
 go_enter func66,ntmps66
 apply fF 3 [0] m;simp only[↓aD];refine wM m underlying100 O (m.p 0 O) ?_;intro r1 u m;apply aL 2 [0] m;simp only[↓aD];refine bX [] [4,5,8,9,10,11,12,13,14,15,16,17,18] (fun n vs wl=>∃(D dn rs:List (E3 × Int)) (sn:Array Nat) (es:Array c_),vs=[]∧Mem w0 wl [iI r1 q60 c60 sn,mI q60 es c60,bI g16 (sY cc) 112,R0]∧(bO ed W D es c60)∧((D.map (·.1)).Nodup)∧(tH ed W D es sn dn rs)∧(∀x∈dn,alT cc.v x.1=false)∧(∀k v,cG D k=some v→cG D0 k=some v)∧(n=rs.length)) ?_ ?_
 ·
  exact⟨_,D0,[],D0,#[],es60,rfl,m,hD60,hn0,tH.start hD60,(fun x h=>(by cases h)),(fun _ _ h=>h),rfl⟩
 · intro n vs wr hI u K1 hK1
   obtain⟨D,dn,rs,sn,es60,rfl,m,hD60,hnD,hT,hb0,hs0,hn⟩:=hI;simp only[zu,zF,zG];apply aJ 2 [0] m;simp only[↓aD];refine alN m 0 O O (m.p 1 O) hD60 hT ?_;intro bb kk vv sn u m hN;simp only[zF,zG] at m;refine aB (qB O) ?_;apply aL 2 [0] m;simp only[↓aD];refine dK O ?_ ?_<;>intro hc1
   ·
    obtain⟨kp,kb,rs2,hp,hT2⟩:=alS hc1 hN;apply aJ 4 [0] m;simp only[↓aD];refine fG (acN O (m.r 0 O) (m.p 1 O) hD60 hT2) ?_;simp only[zz];apply kD 12 [1,0,1,0,0] m;simp only[↓aD,↓eT,Xt,nF,Fx,fD,aa];intro g72 g73 u m;refine dM m O O (alU (k:=kp) (x:=kb) _ (m.b 4 O)) ?_;rintro v u m rfl;apply aL 1 [0] m;simp only[↓aD];refine dK O ?_ ?_<;>intro hc2
    ·
     apply aJ 3 [1,0] m;simp only[↓aD,↓eT,Fx];refine alO (ek:=ed) (ev:=W) (a:=kp) m 3 O underlying100 alQ O O hD60 hnD hT2 O ?_;intro es60 u m hD60 hT';simp only[zF,zG] at m;apply aL 2 [0] m;simp only[↓aD];exact hK1 rs2.length _ _ (by rw[hn,hp.length_eq];exact fg _) (by kernel_rfl) ⟨Cj D kp,dn,rs2,_,_,O,(m.sel [false,false,true,true,true,true]),hD60,ady hnD kp,hT',hb0,(fun k v h=>hs0 k v (by rw[Wt _ _ hnD] at h;split at h;cases h;exact h)),O⟩
    ·
     apply aJ 2 [0] m;simp only[↓aD];exact hK1 rs2.length _ _ (by rw[hn,hp.length_eq];exact fg _) (by kernel_rfl) ⟨D,dn++[(kp,kb)],rs2,_,_,O,(m.sel [false,false,true,true,true,true]),hD60,hnD,hT2.stay,(fun x hx=>(bi.1 hx).elim (hb0 x) fun h=>(by rw[bf.1 h];exact hc2)),hs0,O⟩
   ·
    obtain rfl:=alR hc1 hN;apply aJ 1 [0] m;simp only[↓aD];exact Fl O ⟨_,O,_,D,O,m.sel [false,true,true,true],hD60,hnD,fun k v h=>⟨hs0 k v h,hb0 (k,v) (hT.done.mem_iff.2 (Ck h))⟩⟩
end Go.Proofs.YtfekpcimgncioaaGreatDoor
namespace Go.Proofs.YtfekpcimgncioaaGreatDoor
open Go.Proofs.Tryz
open Go.RowKit Go.Lith
set_option maxRecDepth 100000
attribute [local irreducible] ar cw gG bQ cO Code.wp
variable{u q k x:P3}{l:List T3}{S:List P3}{cs:List lT}{D:List Mv}
theorem aoE{B:Nat}{Q:P3→List Int}(hl:∀x,(Q x).length=10)(hb:∀x,Gy B (Q x))(hB:B≤800000)(u:P3){v:P3}(hv:I3 v):Bd 900000 (tD Q u v):=by
 unfold tD;rw[←ajz (lL (hl u) (hl v))];exact (ad3 (Pk (hb u) (hb v)) (lL (hl u) (hl v)) (bd4 hv) O 10 (aq _)).mono (by omega)
theorem QOK.upd{Dq:List (P3 × List Int)}{Q:P3→List Int}{B:Nat}(h:QOK Dq Q B)(u v:P3):QOK (fI Dq v (Fc (Q u) (Q v))) (aai Q u v) (B+1) where
 get x:=by
  rw[mK];unfold aai;by_cases e:v=x
  · rw[if_pos e,if_pos e.symm];rfl
  · rw[if_neg e,if_neg fun k=>e k.symm];exact h.get x
 len x:=by
  unfold aai;split
  · exact lL (h.len u) (h.len v)
  · exact h.len x
 bd x:=by
  unfold aai;split
  · exact Pk (h.bd u) (h.bd v)
  · exact (h.bd x).mono (qi B)
theorem QOK.mono{Dq:List (P3 × List Int)}{Q:P3→List Int}{B C:Nat}(h:QOK Dq Q B)(hB:B≤C):QOK Dq Q C:=⟨h.get,h.len,fun x=>(h.bd x).mono hB⟩
theorem qM.upd{D D1:List (E3 × Int)}{Q:P3→List Int}{v:P3}(h:qM D Q)(h1:∀k x,cG D1 k=some x→cG D k=some x∧alT v k=false):qM D1 (aai Q u v):=fun k x hx=>by
 obtain⟨h2,h3⟩:=h1 k x hx;rw[h k x h2];simp only[alT,Bool.or_eq_false_iff,decide_eq_false_iff_not] at h3;unfold tD aai;rw[if_neg h3.1,if_neg h3.2]
theorem qM.nil(Q:P3→List Int):qM [] Q:=fun _ _ h=>by cases h
/-! ### The quadrics of the corners -/
def Kq(l:List T3)(S:List P3)(Dq:List (P3 × List Int)):Prop:=∀x,(cG Dq x).getD q0=if x∈S then wP l x else q0
theorem Kq.nil(l:List T3):Kq l [] []:=fun _=>rfl
theorem Kq.put{ps:List P3}{k:Nat}{p:P3}{Dq:List (P3 × List Int)}(h:Kq l (ps.take k) Dq)(hp:ps[k]? = some p):Kq l (ps.take (k+1)) (fI Dq p (wP l p)):=fun x=>by
 rw[mK,cJ hp];by_cases e:p=x
 · subst e
   rw[if_pos rfl,if_pos (gp _ (bf.2 rfl))];rfl
 · rw[if_neg e,h x]
   have:x∈ps.take k++[p]↔x∈ps.take k:=by
    rw[bi,bf];exact⟨fun h=>h.resolve_right fun k=>e k.symm,.inl⟩
   simp only[this]
theorem alW{p:P3}(h:p∉dS l):wP l p=q0:=by
 unfold wP;rw[List.filter_eq_nil_iff.2 fun t ht hp=>h (xK ht hp)];rfl
theorem Kq.ok{l:List T3}{ps:List P3}{Dq:List (P3 × List Int)}(h:Kq l ps Dq)(hps:∀a,a∈ps↔a∈dS l)(hI:∀t∈l,IT t):QOK Dq (wP l) (602+l.length) where
 get x:=by
  rw[h x];split
  · rfl
  · rename_i e;rw[alW fun k=>e ((hps x).2 k)]
 len x:=by have:=As (ts:=l) (p:=x) l.length (aq _);rwa [fp] at this
 bd x:=by have:=aaU (p:=x) hI l.length (aq _);rwa [fp] at this
theorem Kr(hI:∀t∈l,IT t){p:P3}(h:p∈dS l):I3 p:=by
 obtain⟨t,ht,hp⟩:=el.1 (show p∈l.flatMap fun t=>[t.a,t.b,t.c] from h);have:=hI t ht;simp only[an,cg,or_false] at hp;rcases hp with rfl | rfl | rfl
 · exact this.a
 · exact this.b
 · exact this.c
theorem aaZ{p:P3}(h:nbB l p q=true):p∈dS l∧q∈dS l:=by
 simp only[nbB,be,ajc,fe] at h;obtain⟨_,t,ht,h⟩:=h;exact⟨xK ht h.1,xK ht h.2⟩
/-! ### Candidates -/
def Fi(l:List T3)(Q:P3→List Int)(S:List P3)(cs:List lT):Prop:=∀d,d∈cs↔d.u∈S∧onB (cN l) d.u=false∧nbB l d.u d.v=true∧d.c=tD Q d.u d.v
def aeO(l:List T3)(Q:P3→List Int)(S:List P3)(p:P3)(S2:List P3)(cs:List lT):Prop:=∀d,d∈cs↔(d.u∈S∧onB (cN l) d.u=false∧nbB l d.u d.v=true∧d.c=tD Q d.u d.v)∨(d.u=p∧d.v∈S2∧d.c=tD Q d.u d.v)
theorem Fi.nil(l:List T3)(Q:P3→List Int):Fi l Q [] []:=fun d=>by simp
theorem Fi.skip{Q:P3→List Int}{p:P3}(h:Fi l Q S cs)(hb:onB (cN l) p=true):Fi l Q (S++[p]) cs:=fun d=>by
 rw[h d];constructor
 · rintro⟨h1,h2⟩;exact⟨ig _ h1,h2⟩
 · rintro⟨h1,h2,h3⟩
   rcases bi.1 h1 with h1 | h1
   · exact⟨h1,h2,h3⟩
   · rw[bf.1 h1,hb] at h2;cases h2
theorem Fi.start{Q:P3→List Int}(h:Fi l Q S cs)(p:P3):aeO l Q S p [] cs:=fun d=>by rw[h d];simp
theorem aeO.put{Q:P3→List Int}{S2:List P3}{p:P3}(h:aeO l Q S p S2 cs):aeO l Q S p (S2++[q]) (cs++[⟨p,q,tD Q p q⟩]):=fun d=>by
 rw[bi,h d,bi,bf,bf];constructor
 · rintro ((h1 | ⟨h1,h2,h3⟩) | rfl)
   · exact .inl h1
   · exact .inr ⟨h1,.inl h2,h3⟩
   · exact .inr ⟨O,.inr O,O⟩
 · rintro (h1 | ⟨h1,h2 | h2,h3⟩)
   · exact .inl (.inl h1)
   · exact .inl (.inr ⟨h1,h2,h3⟩)
   · refine .inr ?_
     obtain⟨du,dv,dc⟩:=d;simp only at h1 h2 h3;subst h1;subst h2;subst h3;rfl
theorem aeO.done{Q:P3→List Int}{S2:List P3}{p:P3}(h:aeO l Q S p S2 cs)(hb:onB (cN l) p=false)(hS:∀x,x∈S2↔nbB l p x=true):Fi l Q (S++[p]) cs:=fun d=>by
 rw[h d,bi,bf];constructor
 · rintro (⟨h1,h2⟩ | ⟨h1,h2,h3⟩)
   · exact⟨.inl h1,h2⟩
   · rw[hS] at h2;subst h1;exact⟨.inr O,hb,h2,h3⟩
 · rintro⟨h1 | h1,h2,h3,h4⟩
   · exact .inl ⟨h1,h2,h3,h4⟩
   · refine .inr ⟨h1,?_,h4⟩;rw[hS,←h1];exact h3
theorem Fi.all{Q:P3→List Int}(h:Fi l Q S cs)(hS:∀x,x∈S↔x∈dS l)(d:lT):d∈cs↔d∈ad1 l Q:=by
 rw[h d,afz,hS];exact⟨fun h=>h.2,fun h=>⟨(aaZ h.2.1).1,h⟩⟩
/-! ### The moves -/
def Dt(S:List P3)(u v:P3)(D:List Mv):List Mv:=D.map fun e=>(e.1,if e.1∈S then Gw u v e.2 else e.2)
theorem acO(u v:P3)(D:List Mv):Dt [] u v D=D:=by simp[Dt]
theorem Ex(S:List P3)(u v:P3)(D:List Mv):(Dt S u v D).map (·.1)=D.map (·.1):=by simp[Dt,Function.comp_def]
theorem alX{v:P3}(h:∀e∈D,e.1∈S):fI (Dt S u v D) u v=toF D u v:=by
 unfold Dt toF;rw[ir fun e he=>by rw[if_pos (h e he)]]
theorem acP{K V:Type}[DecidableEq K]:∀{D:List (K × V)} {k:K} {x:V},(D.map (·.1)).Nodup→k∈D.map (·.1)→fI D k x=D.map fun e=>(e.1,if e.1=k then x else e.2)
 | [],_,_,_,h=>by cases h
 | e::D,k,x,hn,h=>by
  rw[bj,gt] at hn;by_cases hk:e.1=k
  · subst hk
    have:∀f∈D,((f.1,if f.1=e.1 then x else f.2):K × V)=f:=fun f hf=>by
     rw[if_neg fun k:f.1=e.1=>hn.1 (by rw[←k];exact fk (f:=fun x:K × V=>x.1) hf)]
    simp only[fI,bj,if_pos];rw[ir this,List.map_id']
  · have h2:k∈D.map (·.1):=by
     rcases an.1 h with h | h
     · exact absurd h.symm hk
     · exact h
    simp only[fI,bj,if_neg hk];rw[acP hn.2 h2]
theorem alY{v:P3}(hn:(D.map (·.1)).Nodup)(hk:(k,x)∈Dt S u v D)(hS:k∉S)(hx:x=u):fI (Dt S u v D) k v=Dt (S++[k]) u v D:=by
 have hk1:k∈(Dt S u v D).map (·.1):=fk (f:=(·.1)) hk;rw[acP (by rw[Ex];exact hn) hk1];unfold Dt at hk ⊢;obtain⟨e,he,h⟩:=dh.1 hk;cases h;rw[if_neg hS] at hx;rw[List.map_map];refine ir fun f hf=>?_;simp only[Function.comp_apply];by_cases hfe:f.1=e.1
 · have:f=e:=by
    obtain⟨i,hi⟩:=ej.1 hf;obtain⟨j,hj⟩:=ej.1 he;have h1:i=j:=Uh hn (k:=e.1) (v:=f.2) (u:=e.2) (by rw[hi,←hfe]) hj;rw[h1,hj] at hi;exact (fq hi).symm
   subst this;rw[if_pos rfl,if_pos (gp S (bf.2 rfl))];unfold Gw;rw[if_pos hx]
 · rw[if_neg hfe]
   have:f.1∈S++[e.1]↔f.1∈S:=by simp[hfe]
   simp only[this]
theorem ahM{v:P3}(hn:(D.map (·.1)).Nodup)(hk:(k,x)∈Dt S u v D)(hS:k∉S)(hx:x≠u):Dt S u v D=Dt (S++[k]) u v D:=by
 unfold Dt at hk ⊢;obtain⟨e,he,h⟩:=dh.1 hk;cases h;rw[if_neg hS] at hx;refine ir fun f hf=>?_;by_cases hfe:f.1=e.1
 · have:f=e:=by
    obtain⟨i,hi⟩:=ej.1 hf;obtain⟨j,hj⟩:=ej.1 he;have h1:i=j:=Uh hn (k:=e.1) (v:=f.2) (u:=e.2) (by rw[hi,←hfe]) hj;rw[h1,hj] at hi;exact (fq hi).symm
   subst this;rw[if_neg hS,if_pos (gp S (bf.2 rfl))];unfold Gw;rw[if_neg hx]
 · have:f.1∈S++[e.1]↔f.1∈S:=by simp[hfe]
   simp only[this]
theorem alZ{V:Type}{ek:P3→ai}{ev:V→ai}{D dn rs:List (P3 × V)}{es:Array c_}{sn:Array Nat}{x:V}(hn:(D.map (·.1)).Nodup)(h:yB ek ev D es sn dn k x rs):k∉dn.map (·.1)∧(k,x)∈D:=by
 have hp:=h.1.1;refine⟨fun hk=>?_,hp.mem_iff.1 (by simp)⟩;have h1:=(hp.map (·.1)).nodup_iff.2 hn;simp only[ct,bj,dx,cq] at h1;exact (jr.1 h1).2.2 k hk k (by simp) O
theorem arX(hn:(D.map (·.1)).Nodup)(u v:P3):((toF D u v).map (·.1)).Nodup:=by
 unfold toF;exact uS (by rw[List.map_map];exact hn) u v
theorem ahN{l:List T3}{want:Int}{Q:P3→List Int}{D:List Mv}{c:lT}(hw:0≤want)(h:¬(l.length:Int)≤want)(hb:xL l Q=some c) :
 mT l.length want l Q D=mT (yZ l c.u c.v).length want (yZ l c.u c.v) (aai Q c.u c.v) (toF D c.u c.v):=by
 have h1:=uE hb;obtain⟨n,hn⟩:∃n,l.length=n+1:=⟨l.length-1,by omega⟩
 rw[hn]
 conv=>lhs;unfold mT
 rw[if_neg h,hb];exact Xp n _ want _ _ _ (by omega) (aq _) hw
theorem acQ{want:Int}{Q:P3→List Int}(h:(l.length:Int)≤want∨xL l Q=none):mT l.length want l Q D=(l,D):=by
 rcases h with h | h
 · exact aju h
 · cases hl:l.length with
   | zero=>rfl
   | succ n =>
    unfold mT;split
    · rfl
    · rw[h]
theorem arY{w0 w:aj}{K R0:It}{g50 g90 ga gf N cap ca cf:Nat}{A:Option Addr}{ea ef:Array c_}{D:List (P3 × Hd)}{F:List (P3 × Bool)}{ts:List T3}{cs:List lT}{n1 c1:Nat}{A1:Option Addr}{Q:P3→List Int}{B:Nat}(m:Mem w0 w [oI 112 8 A1 n1 c1 (cs.flatMap sY),bI g50 [.pointer (some ⟨g90,0,none⟩)] 88,K,oI 39 9 A N cap (ts.flatMap aN),R0])(hK:∀u,K.P u→Kk 109 u g90 ga gf A N cap ea ef ca cf D ts)(hD:Ub ea ef ca cf D F ts)(hnd:∀t∈ts,t.nd=true)(hIT:∀t∈ts,IT t)(hN:ts.length≤1000000)(hl:∀x,(Q x).length=10)(hb:∀x,Gy B (Q x))(hB:B≤800000)(hC:Fi ts Q (D.map (·.1)) cs)(hn1:n1≤100000000) :
 wE prog 63 [.slice A1 n1 c1,.func (.func 64) #[] #[],.func (.func 65) #[] #[.pointer (some ⟨g50,0,none⟩)]] w fun v w'=>∃(c:lT) (b:Bool),v=.tuple #[aaY c,.bool b]∧Mem w0 w' [bI g50 [.pointer (some ⟨g90,0,none⟩)] 88,K,oI 39 9 A N cap (ts.flatMap aN),R0]∧((b=false∧xL ts Q=none)∨(b=true∧xL ts Q=some c∧I3 c.u∧I3 c.v)):=by
 have hall:=hC.all (fun x=>hD.k x);have hI:∀c∈cs,I3 c.u∧I3 c.v:=fun c hc=>by
  have:=aaZ ((hC c).1 hc).2.2.1;exact⟨Kr hIT this.1,Kr hIT this.2⟩
 refine (arV m hK hD hnd hIT hN hI (fun c hc=>by rw[((hC c).1 hc).2.2.2];exact aoE hl hb hB c.u (hI c hc).2) hn1).mono ?_;rintro v w' ⟨h1,⟨rfl,h2⟩ | ⟨c,ys,j,rfl,hys,hso,hc,ha,hq⟩⟩
 · exact⟨⟨⟨0,0,0⟩,⟨0,0,0⟩,0⟩,false,by simp only[aaY,sY,Lb];rfl,h1,.inl ⟨rfl,aeg hall h2⟩⟩
 · refine⟨c,true,O,h1,.inr ⟨O,aef (fun d=>by rw[hys.mem_iff];exact hall d) hso hc ha hq,hI c (hys.mem_iff.1 (bh hc))⟩⟩
end Go.Proofs.YtfekpcimgncioaaGreatDoor
namespace Go.Proofs.YtfekpcimgncioaaGreatDoor
open Go.Proofs.Tryz
open Go.RowKit Go.Lith
set_option maxRecDepth 100000
attribute [local irreducible] ar cw gG bQ cO Code.wp
attribute [local congr] rC gX gY gZ iA iB lI iC iD iE iF iG iH iJ iK iL iM iN fJ fK iO iP iR iS iT lK dW dX cX dV iQ lJ fN fO fP iU iV lM
variable{ts l:List T3}{N cap k c:Nat}{want:Int}{t:T3}{vt:P3→Bool}
theorem aeP{A:Option Addr}(w:aj)(hT:bV w A N ts)(hN:N≤300000):dQ prog 57 [.slice A N cap] w (OR 30 3 (fun xs=>∃ps:List P3,xs=ps.flatMap dF∧uU ps∧∀a,a∈ps↔a∈dS ts) w):=by
 refine⟨bK func57 (by kernel_rfl),?_⟩;have m:=Mem.refl w
 go_enter func57,ntmps57
 apply fF 6 [0] m;simp only[↓aD];refine mA m ?_;intro q8 u m;have hD8:=bO.nil (K:=P3) (V:=Bool) pt bn;apply aL 10 [0] m;simp only[↓aD,kA];refine bX [11] [5,7,12,13,14,15,16,17,18,19,20,21,22,23] (fun n vs wl=>∃(k:Nat) (es:Array c_) (c:Nat),vs=[.int .i64 (k:Int)]∧Mem w wl [mI q8 es c]∧(bO pt bn (Cm [] (dS (ts.take k))) es c)∧(k≤N)∧(n=N-k)) ?_ ?_
 ·
  exact⟨_,0,_,_,O,m,hD8,cv _,O⟩
 ·
  intro n vs wr hI u K1 hK1;obtain⟨k,es,c,rfl,m,hD8,hk,hn⟩:=hI;simp only[zu,zF,zG];apply aJ 5 [0,0] m;simp only[↓aD];refine bG O ?_ ?_<;>intro hc1
  ·
   obtain⟨t,ht,_,a,rfl,hrow⟩:=hT.get (i:=k) (by omega);apply aJ 5 [0] m;simp only[↓aD];refine aB (aF cH aP O O (by omega) (by omega) (cQ (ah _))) ?_;simp only[zz];refine aR O (((hrow.ext m.ext)).lies cF aP) ?_;simp only[zz];apply kD 22 [0,0,4,1,0] m;simp only[↓aD,nX,eL,aa];intro g2;refine⟨by omega,?_⟩;intro u m;refine aB (tQ O O) ?_;apply kD 6 [0,0,0] m;simp only[↓aD,eS,aS,aa];intro g3 u m;refine mO m 2 adl O O (fun m=>aem (p:=t.a) m 2 O hD8) ?_;rintro v i u m ⟨rfl,es',c',rfl,hD'⟩;simp only[zF,zG] at m;simp only[zz];clear hD8;have hD8:=hD';clear hD';apply aL 18 [1,0] m;simp only[↓aD,ak];refine⟨by omega,?_⟩;refine aB (tR O O) ?_;apply kD 6 [0,0,0] m;simp only[↓aD,eS,aS,aa];intro g4 u m;refine mO m 3 adl O O (fun m=>aem (p:=t.b) m 3 O hD8) ?_;rintro v i u m ⟨rfl,es',c',rfl,hD'⟩;simp only[zF,zG] at m;simp only[zz];clear hD8;have hD8:=hD';clear hD';apply aL 18 [1,0] m;simp only[↓aD,ak];refine⟨by omega,?_⟩;refine aB (tT O O) ?_;apply kD 6 [0,0,0] m;simp only[↓aD,eS,aS,aa];intro g5 u m;refine mO m 4 adl O O (fun m=>aem (p:=t.c) m 4 O hD8) ?_;rintro v i u m ⟨rfl,es',c',rfl,hD'⟩;simp only[zF,zG] at m;simp only[zz];clear hD8;have hD8:=hD';clear hD';apply aL 19 [2,0] m;simp only[↓aD,ak];refine⟨by omega,?_⟩;exact hK1 (N-(k+1)) _ _ (by omega) (by kernel_rfl) ⟨k+1,_,_,O,(m.sel [false,false,false,false,true]),by rw[adE ht];exact hD8,by omega,O⟩
  ·
   have hkN:k=N:=by omega
   rw[hkN,show ts.take N=ts from a_ (by rw[hT.len];exact aq _)] at hD8;apply aJ 4 [0] m;simp only[↓aD];refine bJ O O (ahe _ (m.p 0 O) hD8 (by have h1:=Iq (dS ts) [];have h2:=tW ts;have h3:=hT.len;simp only[bv] at h1;omega)) ?_;rintro v u e_ ⟨A9,n9,cap9,_,rfl,h_,ps,rfl,hps,hso⟩;replace m:=m.newO e_ h_;apply aL 3 [] m;simp only[↓aD];exact aT O O ⟨_,O,m.ext,_,_,_,_,O,(m.o 0 O),ps,O,agL (hps.nodup_iff.2 (Nt _ _ .nil)) hso,fun a=>by rw[hps.mem_iff,Wy];simp⟩
theorem sM(h:∀t∈l,IT t):∀t∈cS l,IT t:=fun t ht=>by
 obtain⟨s,hs,rfl⟩:=uF.1 ht;have:=h s hs;unfold dL;split
 · exact⟨this.c,this.a,this.b⟩
 · split
   · exact⟨this.b,this.c,this.a⟩
   · exact this
theorem Yp{ks:List P3}{a:P3}:a∈(fY [] ks).map (·.1)↔a∈ks:=by rw[uW];simp
theorem ahO{ps:List P3}(h:uU ps)(hm:∀a,a∈ps↔a∈dS l):ps.length≤3*l.length:=by
 have hn:ps.Nodup:=List.Pairwise.imp (fun {a b} (h:P3.Lt a b) (e:a=b)=>P3.lt_irrefl b (by rw[e] at h;exact h)) h;have h1:=List.Nodup.length_le_of_subset hn (l₂:=dS l) fun x hx=>(hm x).1 hx;rw[tW] at h1;omega
theorem Fi.perm{Q:P3→List Int}{dn D:List (P3 × Hd)}{cs:List lT}(h:Fi l Q (dn.map (·.1)) cs)(hp:dn.Perm D):Fi l Q (D.map (·.1)) cs:=fun d=>by rw[h d,(hp.map (·.1)).mem_iff]
theorem apA{D:List Mv}{p:P3}(h:(Ba (D.map (·.1)))[k]? = some p):(nE D)[k]? = some (p,(cG D p).getD ⟨0,0,0⟩):=by
 have hm:p∈D.map (·.1):=(rG _).mem_iff.1 (bh h);obtain⟨y,hy⟩:∃y,cG D p=some y:=by
  cases hg:cG D p with
  | some y=>exact⟨y,rfl⟩
  | none=>exact absurd hm (pD.1 hg)
 unfold nE;rw[fb,h,hy];simp[hy]
theorem Yq{ea ef:Array c_}{ca cf:Nat}{D:List (P3 × Hd)}{F:List (P3 × Bool)}(h:Ub ea ef ca cf D F l):D.length≤3*l.length:=by
 have h1:=List.Nodup.length_le_of_subset h.nk (l₂:=dS l) fun x hx=>(h.k x).1 hx;rw[bx,tW] at h1;omega
theorem aoF(D:List Mv)(u v:P3):(toF D u v).length≤D.length+1:=by
 have:=vU (D.map fun e=>(e.1,Gw u v e.2)) u v;rwa [bx] at this
theorem uH{D:List Mv}(h0:fH true (cS ts)=0)(h:mT (cS ts).length want (cS ts) (wP (cS ts)) []=(l,D)):qD ts want=(l,nE D):=by
 unfold qD;rw[if_neg (by rw[h0];simp),h]
theorem aeQ(h:¬fH true (cS ts)=0):qD ts want=(cS ts,[]):=by unfold qD;rw[if_pos h]
theorem Ui{A:Option Addr}(w:aj)(hT0:bV w A N ts)(hN:N≤2000)(hw:0≤want):dQ prog 24 [.slice A N cap,.int .i64 want] w (fun v w'=>∃A1 n1 c1 A2 n2 c2,v=.tuple #[.slice A1 n1 c1,.slice A2 n2 c2]∧n1=(qD ts want).1.length∧n2=(qD ts want).2.length∧Mem w w' [oI 55 6 A2 n2 c2 ((qD ts want).2.flatMap dD),oI 39 9 A1 n1 c1 ((qD ts want).1.flatMap aN)]):=by
 refine⟨bK func24 (by kernel_rfl),?_⟩;have m:=Mem.refl w;have htl:=hT0.len;have hcl:=nP ts;have hit:∀t∈cS ts,IT t:=sM hT0.it;have hN2:(cS ts).length≤2000:=by omega
 go_enter func24,ntmps24
 apply fF 8 [0] m;simp only[↓aD];refine bJ O O (acn _ (hT0.ext m.ext) (by omega)) ?_;rintro v u e_ ⟨A1,cap1,n1,hn1,rfl,h_⟩;replace m:=m.newO e_ h_;obtain rfl:n1=(cS ts).length:=by rw[hcl];exact hn1
 apply aL 6 [0] m;simp only[↓aD];refine dM m O O (Ae _ ((m.o 0 O).tris hit) (by omega)) ?_;rintro v u m rfl;apply aL 2 [0,0] m;simp only[↓aD];refine bG O ?_ ?_<;>intro hc1
 ·
  apply aJ 6 [] m;simp only[↓aD];replace m:=m.nilO 55 6;apply aW 1 [] m;simp only[↓aD];exact yE O O O ⟨_,O,m.ext,_,_,_,_,_,_,O,by rw[aeQ hc1],by rw[aeQ hc1];rfl,by rw[aeQ hc1];exact m.sel [true,true]⟩
 ·
  have hc0:fH true (cS ts)=0:=by omega
  have hnd:=Ud hc0;apply aJ 3 [0] m;simp only[↓aD];refine mA m ?_;intro q61 u m;have hD61:=bO.nil (K:=P3) (V:=List Int) pt qV;apply kD 7 [0,0] m;simp only[↓aD,↓eT,asS,afB,aa];intro g2 u m;refine bJ O O (aeP _ ((m.o 2 O).tris hit) (by omega)) ?_;rintro v u e_ ⟨A3,n3,cap3,_,rfl,h_,ps,rfl,hso,hmem⟩;replace m:=m.newO e_ h_;obtain rfl:ps.length=n3:=by have:=(m.o 0 rfl).own.1;rw[ai5] at this;omega
  have hpl:ps.length≤10000000:=by have h1:=ahO hso hmem;omega
  apply aL 4 [0] m;simp only[↓aD,kZ];refine bX [33] [8,34,35,36,37,38,39,40,41,42] (fun n vs wl=>∃(k:Nat) (es:Array c_) (c:Nat) (Dq:List (P3 × List Int)),vs=[.int .i64 (k:Int)]∧Mem w wl [oI 30 3 A3 ps.length cap3 (ps.flatMap dF),bI g2 [.map (some q61)] 93,mI q61 es c,oI 39 9 A1 (cS ts).length cap1 ((cS ts).flatMap aN)]∧(bO pt qV Dq es c)∧(Kq (cS ts) (ps.take k) Dq)∧(k≤ps.length)∧(n=ps.length-k)) ?_ ?_
  ·
   exact⟨_,0,_,_,[],O,m,hD61,Kq.nil _,cv _,O⟩
  · intro n vs wr hI u K1 hK1
    obtain⟨k,es61,c61,Dq,rfl,m,hD61,hq1,hk,hn⟩:=hI;simp only[zu,zF,zG];apply aJ 5 [0,0] m;simp only[↓aD];refine bG O ?_ ?_<;>intro hc2
    ·
     obtain⟨p,hp,a3,hA3,hr3⟩:=((m.o 0 rfl).lat (enc:=dF) (fun _=>rfl) (by decide)).get (i:=k) (by omega);subst hA3;apply aJ 5 [0] m;simp only[↓aD];refine aB (aF cT aA O O (by omega) (by omega) (cQ (ah _))) ?_;simp only[zz];refine aR O (show fZ _ _ _ _ (pt p) from hr3.lies aH aA) ?_;simp only[zz];apply kD 3 [0,0] m;simp only[↓aD,↓eT,eS,aS,aa];intro g3 u m;refine mh m [true,true,true,false,true] [(2,true),(0,true),(1,true),(3,true),(4,false),(5,false)] aC (by kernel_rfl) (bU (fun _ _ _ _ _ h=>h)) (ol:=?_) ?hol ?_
     case hol=>simp only[zw,zQ,zR];try rfl
     intro u m;refine Pg 4 [2,0,0] ?_;simp only[↓aD,↓eT,afB,aS];refine bR (dM m O O (arR (p:=p) _ ((m.o 4 O).tris hit) (by omega)) ?_);rintro v u m rfl;refine aM ⟨m.sel [true,true,true,false,true],?_⟩;refine bR ?_;simp only[zz];refine nN (ek:=pt) (en:=qV) (a:=p) (v:=(wP (cS ts) p)) m 3 O Rh gD O O O hD61 ?_;intro es61 c61 u m hD61;simp only[zF,zG] at m;refine aM ⟨m.sel [true,true,true,false,true],?_⟩;refine bW ?_;apply aW 5 [0] m;simp only[↓aD];refine⟨by omega,?_⟩;exact hK1 (ps.length-(k+1)) _ _ (by omega) (by kernel_rfl) ⟨k+1,_,_,_,O,(m.sel [false,true,true,true,true]),hD61,hq1.put hp,by omega,O⟩
    ·
     obtain rfl:k=ps.length:=by omega
     rw[a_ (aq _)] at hq1;have hQ:=hq1.ok hmem hit;apply aJ 3 [0] m;simp only[↓aD];refine mA m ?_;intro q62 u m;have hD62:=bO.nil (K:=P3) (V:=P3) pt pt;apply aL 4 [0] m;simp only[↓aD];refine mA m ?_;intro q60 u m;have hD60:=bO.nil (K:=E3) (V:=Int) ed W;apply kD 5 [0,0] m;simp only[↓aD,↓eT,aqq,aan,aa];intro g5 u m;refine aB fW ?_;simp only[zz,fz,bj,dx];apply aL 4 [0] m;simp only[↓aD];refine bX [0] [12,13,14,15,16,17,18,19,46,47,48,49,50,51,52,53,54,55,56,57,58,59,60,61,62,63,64,65,66,67,68,69,70,71,72,73,74,75,76,77,78,79,80,81,82,83,84,85,86,87,88,89,90,91,92,93,94,95,96,97,98,99,100,101,102,103,104,105,106,107,108,109,110,111,112,113,114,115,116,117,118,119,120,121,122,123,124,125,126,127,128,129,130,131,132,133] (fun n vs wl=>∃(l:List T3) (Q:P3→List Int) (A1:Option Addr) (cap1:Nat) (es60 es61 es62:Array c_) (c60 c61 c62:Nat) (Dc:List (E3 × Int)) (Dq:List (P3 × List Int)) (Dm:List Mv),vs=[.slice A1 l.length cap1]∧Mem w wl [bI g5 [.map (some q60)] 100,mI q60 es60 c60,mI q62 es62 c62,bI g2 [.map (some q61)] 93,mI q61 es61 c61,oI 39 9 A1 l.length cap1 (l.flatMap aN)]∧(bO ed W Dc es60 c60)∧(qM Dc Q)∧((Dc.map (·.1)).Nodup)∧(bO pt qV Dq es61 c61)∧(bO pt pt Dm es62 c62)∧(QOK Dq Q (602+2*(cS ts).length-l.length))∧(∀t∈l,IT t)∧(∀t∈l,t.nd=true)∧((Dm.map (·.1)).Nodup)∧(mT (cS ts).length want (cS ts) (wP (cS ts)) []=mT l.length want l Q Dm)∧(l.length+Dm.length≤(cS ts).length)∧(n=l.length)) ?_ ?_
     ·
      exact⟨_,(cS ts),(wP (cS ts)),_,_,_,_,_,_,_,_,[],_,[],O,(m.sel [true,true,true,false,true,true,true]),hD60,qM.nil _,kx,hD61,hD62,hQ.mono (by omega),hit,hnd,kx,O,(by simp),O⟩
     · intro n vs wr hI u K2 hK2
       obtain⟨l,Q,A1,cap1,es60,es61,es62,c60,c61,c62,Dc,Dq,Dm,rfl,m,hD60,hC,hnC,hD61,hD62,hQ,hit,hnd,hnM,hS,hle,hn⟩:=hI;simp only[zu,zF,zG];apply aJ 8 [0,0] m;simp only[↓aD,kA];refine bG O ?_ ?_<;>intro hc3
       ·
        apply aJ 5 [0] m;simp only[↓aD];refine bJ O O (alz _ ((m.o 5 O).tris hit) hnd (by omega)) ?_;rintro v u e_ ⟨g90,ga,gf,ea,ef,ca,cf,D,F,K,rfl,hM,hK,hSD⟩;replace m:=m.plus hM;clear hM;simp only[cn,b_] at m;apply kD 7 [0] m;simp only[↓aD,↓eT,asR,afA,aa];intro g6 u m;replace m:=m.nilO 112 8;apply aW 6 [1,0] m;simp only[↓aD,↓eT,afA,Sv,aa];refine aR O (((hK _ (m.get 2 O)).b).lies1 afe O) ?_;simp only[zz];refine wM m underlying106 O ((hK _ (m.get 2 O)).a) ?_;intro r1 u m;apply aL 2 [0] m;simp only[↓aD];refine bX [13] [14,15,57,58,59,60,61,62,63,64,65,66,67,68,69,70,71,72,73,74,75,76,77,78,79,80,81,82,83,84] (fun n vs wl=>∃(dn rs:List (P3 × Hd)) (sn:Array Nat) (cs:List lT) (A9:Option Addr) (cap9:Nat) (es60:Array c_) (c60:Nat) (Dc:List (E3 × Int)),vs=[.slice A9 cs.length cap9]∧Mem w wl [iI r1 ga ca sn,oI 112 8 A9 cs.length cap9 (cs.flatMap sY),bI g6 [.pointer (some ⟨g90,0,none⟩)] 88,K,bI g5 [.map (some q60)] 100,mI q60 es60 c60,mI q62 es62 c62,bI g2 [.map (some q61)] 93,mI q61 es61 c61,oI 39 9 A1 l.length cap1 (l.flatMap aN)]∧(bO ed W Dc es60 c60)∧(qM Dc Q)∧((Dc.map (·.1)).Nodup)∧(oK pt Hd.v D ea sn dn rs)∧(Fi l Q (dn.map (·.1)) cs)∧(cs.length≤dn.length*6000)∧(n=rs.length)) ?_ ?_
        ·
         exact⟨_,[],D,#[],[],_,_,_,_,_,O,m,hD60,hC,hnC,(oK.start hSD.a),(Fi.nil _ _),(cv _),O⟩
        · intro n vs wr hI u K3 hK3
          obtain⟨dn,rs,sn,cs,A9,cap9,es60,c60,Dc,rfl,m,hD60,hC,hnC,hT,hCs,hcl3,hn3⟩:=hI;simp only[zu,zF,zG];apply aJ 2 [0] m;simp only[↓aD];refine Nr m 0 O O ((hK _ (m.get 3 O)).a) hSD.a hT ?_;intro bb kk vv sn u m hN;simp only[zF,zG] at m;refine aB (qB O) ?_;apply aL 2 [0] m;simp only[↓aD];refine dK O ?_ ?_<;>intro hc4
          ·
           obtain⟨kp,kb,rs2,hp2,hT2⟩:=Ip hc4 hN;have hkp:kp∈D.map (·.1):=fk (f:=(·.1)) (hT2.1.mem_iff.1 (by simp):(kp,kb)∈D);have hTl:=hT2.len;have hkeys:=Yq hSD;rw[aw,av,bv] at hTl;apply aJ 4 [0] m;simp only[↓aD];refine fG (tU O (m.r 0 O) ((hK _ (m.get 3 O)).a) hSD.a hT2) ?_;simp only[zz];apply kD 6 [0,0] m;simp only[↓aD,↓eT,eS,aS,aa];intro g8 u m;refine mq m aC (by kernel_rfl) (eC 3 [3] ?_);simp only[↓aD,↓eT,afA,Sw,aa];refine ql O (fun u m=>(((hK _ (m.get 4 O)).b).lies1 tP O)) ?_;simp only[zz];refine ql O (fun u m=>((m.b 0 O).full aH aA)) ?_;simp only[zz];refine kN (fun u m=>eH (ek:=pt) (en:=bn) (k:=kp) (v0:=false) nY oU gD O O ((hK _ (m.get 4 O)).f) hSD.f) ?_;simp only[zz];refine bC ?_;intro u m;refine gc (dK O (fun hc5=>?_) (fun hc5=>?_))
           ·
            rw[hSD.b] at hc5;apply aJ 1 [0] m;simp only[↓aD];exact hK3 rs2.length _ _ (by rw[hn3,hp2.length_eq];exact fg _) (by kernel_rfl) ⟨dn++[(kp,kb)],rs2,_,cs,_,_,_,_,_,O,(m.sel [false,true,true,true,true,true,true,true,true,true,true]),hD60,hC,hnC,hT2,(by rw[ct];exact hCs.skip hc5),(by rw[aw];simp only[av,bv];omega),rfl⟩
           ·
            rw[hSD.b] at hc5;apply aJ 5 [3,0,0] m;simp only[↓aD,↓eT,afA,aS];refine bJ O O (aaE (p:=kp) _ ((hK _ (m.get 4 O)).b) ((hK _ (m.get 4 O)).a) hSD.a ((hK _ (m.get 4 O)).t) (by omega)) ?_;rintro v u e_ ⟨qx,esx,cx,rfl,hM,hDx⟩;replace m:=m.plus hM;clear hM;simp only[cn,b_] at m;simp only[zz];refine wM m nY O (m.p 0 O) ?_;intro r2 u m;apply aL 2 [0] m;simp only[↓aD];refine bX [13] [15,71,72,73,74,75,76,77,78,79,80,81,82,83,84] (fun n vs wl=>∃(dn2 rs2:List (P3 × Bool)) (sn2:Array Nat) (cs:List lT) (A9:Option Addr) (cap9:Nat) (es60:Array c_) (c60:Nat) (Dc:List (E3 × Int)),vs=[.slice A9 cs.length cap9]∧Mem w wl [iI r2 qx cx sn2,mI qx esx cx,bI g8 [.int .i64 kp.x,.int .i64 kp.y,.int .i64 kp.z] 30,iI r1 ga ca sn,oI 112 8 A9 cs.length cap9 (cs.flatMap sY),bI g6 [.pointer (some ⟨g90,0,none⟩)] 88,K,bI g5 [.map (some q60)] 100,mI q60 es60 c60,mI q62 es62 c62,bI g2 [.map (some q61)] 93,mI q61 es61 c61,oI 39 9 A1 l.length cap1 (l.flatMap aN)]∧(bO ed W Dc es60 c60)∧(qM Dc Q)∧((Dc.map (·.1)).Nodup)∧(oK pt bn (fY [] (nS l kp)) esx sn2 dn2 rs2)∧(aeO l Q (dn.map (·.1)) kp (dn2.map (·.1)) cs)∧(cs.length≤dn.length*6000+dn2.length)∧(n=rs2.length)) ?_ ?_
            ·
             exact⟨_,[],_,#[],cs,_,_,_,_,_,O,m,hD60,hC,hnC,(oK.start hDx),(hCs.start kp),(by simp only[bv];omega),rfl⟩
            · intro n vs wr hI u K4 hK4
              obtain⟨dn2,rs3,sn2,cs,A9,cap9,es60,c60,Dc,rfl,m,hD60,hC,hnC,hT3,hCi,hcl4,hn4⟩:=hI;simp only[zu,zF,zG];apply aJ 2 [0] m;simp only[↓aD];refine Nr m 0 O O (m.p 1 O) hDx hT3 ?_;intro bb kk vv sn u m hN;simp only[zF,zG] at m;refine aB (qB O) ?_;apply aL 2 [0] m;simp only[↓aD];refine dK O ?_ ?_<;>intro hc6
              ·
               obtain⟨kq,kv,rs4,hp4,hT4⟩:=Ip hc6 hN;have hnb:nbB l kp kq=true:=sG.1 (Yp.1 (fk (f:=(·.1)) (hT4.1.mem_iff.1 (by simp):(kq,kv)∈fY [] (nS l kp))));have hT4l:=hT4.len;have hal:=pG (nS l kp) [];have hbl:=Uc l kp;rw[aw,av,bv] at hT4l;rw[bv] at hal;apply aJ 4 [0] m;simp only[↓aD];refine fG (tU O (m.r 0 O) (m.p 1 O) hDx hT4) ?_;simp only[zz];apply kD 4 [0] m;simp only[↓aD,↓eT,eS,aS,aa];intro g10 u m;replace m:=m.pull 12 O;simp only[dY,dZ,zF,zG] at m;replace m:=m.pull 10 O;simp only[dY,dZ,zF,zG] at m;replace m:=m.pull 12 O;simp only[dY,dZ,zF,zG] at m;replace m:=m.pull 11 O;simp only[dY,dZ,zF,zG] at m;refine gc (mh m [true,true,false,true,true,true,true,true,true,false,true,true,true,true] [(0,true),(3,true),(1,true),(2,true),(4,true),(5,true),(6,false),(7,true),(8,false),(9,false),(10,true)] aC (by kernel_rfl) (bU (fun _ _ _ _ _ h=>h)) (ol:=?_) ?hol ?_)
               case hol=>simp only[zw,zQ,zR];try rfl
               intro u m;refine Pg 6 [6,3,6,3] ?_;simp only[↓aD,↓eT,aS];refine bR ?_;replace m:=m.pack4;refine kK O O ((haveI:=Kr hit ((hSD.k kp).1 hkp);haveI:=Kr hit (aaZ hnb).2;arW (p:=kp) (q:=kq) m hD60 hD61 hC hnC hQ (by omega))) ?_;rintro v u ⟨es60,c60,Dc,rfl,m,hD60,hC,hnC⟩;simp only[zz];replace m:=m.unpack4;refine aM ⟨m.sel [true,true,false,true,true,true,true,true,true,false,true,true,true,true],?_⟩;refine bF (Ij O O O) (bR ?_);simp only[zz];refine adv O ?_;intro u g11 e_ h_ k_;replace m:=m.newB e_ h_ k_;refine aM ⟨m.sel [false,true,true,false,true,true,true,true,true,true,false,true,true,true,true],?_⟩;refine bR ?_;simp only[zz];refine bL m 10 O O underlying105 amJ O (by decide) O O O (m.b 0 O).rowsO (gB O) (by omega) (by omega) ?_;intro A9 cap9 u m;simp only[zF,zG] at m;rw[show cs.flatMap sY++_=(cs++[⟨kp,kq,tD Q kp kq⟩]:List lT).flatMap sY by rw[ay];rfl] at m;have hll:cs.length+1=(cs++[⟨kp,kq,tD Q kp kq⟩]:List lT).length:=by simp
               rw[hll] at m;rw[hll];refine aM ⟨m.sel [false,true,true,false,true,true,true,true,true,true,false,true,true,true,true],?_⟩;refine bF aO (bW ?_);simp only[zz];replace m:=m.pull 14 O;simp only[dY,dZ,zF,zG] at m;replace m:=m.pull 5 O;simp only[dY,dZ,zF,zG] at m;replace m:=m.pull 4 O;simp only[dY,dZ,zF,zG] at m;replace m:=m.pull 14 O;simp only[dY,dZ,zF,zG] at m;replace m:=m.pull 6 O;simp only[dY,dZ,zF,zG] at m;replace m:=m.pull 6 O;simp only[dY,dZ,zF,zG] at m;replace m:=m.pull 14 O;simp only[dY,dZ,zF,zG] at m;replace m:=m.pull 14 O;simp only[dY,dZ,zF,zG] at m;replace m:=m.pull 14 O;simp only[dY,dZ,zF,zG] at m;replace m:=m.pull 14 O;simp only[dY,dZ,zF,zG] at m;replace m:=m.pull 14 O;simp only[dY,dZ,zF,zG] at m;replace m:=m.pull 14 O;simp only[dY,dZ,zF,zG] at m;replace m:=m.pull 14 O;simp only[dY,dZ,zF,zG] at m;replace m:=m.pull 14 O;simp only[dY,dZ,zF,zG] at m;apply aW 1 [0] m;simp only[↓aD];exact hK4 rs4.length _ _ (by rw[hn4,hp4.length_eq];exact fg _) (by kernel_rfl) ⟨dn2++[(kq,kv)],rs4,_,(cs++[lT.mk kp kq (tD Q kp kq)]),_,_,_,_,_,O,(m.sel [false,true,true,true,true,true,true,true,true,true,true,true,true,true,false]),hD60,hC,hnC,hT4,(by rw[ct];exact hCi.put),(by rw[aw,aw];simp only[av,bv];omega),rfl⟩
              ·
               obtain rfl:=Io hc6 hN;have hT3l:=hT3.len;have hal:=pG (nS l kp) [];have hbl:=Uc l kp;rw[bv] at hal hT3l;replace hCi:=hCi.done hc5 (fun x=>by rw[←sG];exact ((hT3.done.map (·.1)).mem_iff).trans Yp);apply aJ 2 [0] m;simp only[↓aD];exact hK3 rs2.length _ _ (by rw[hn3,hp2.length_eq];exact fg _) (by kernel_rfl) ⟨dn++[(kp,kb)],rs2,_,cs,_,_,_,_,_,O,(m.sel [false,false,false,true,true,true,true,true,true,true,true,true,true]),hD60,hC,hnC,hT2,(by rw[ct];exact hCi),(by rw[aw];simp only[av,bv] at hal ⊢;omega),rfl⟩
          ·
           obtain rfl:=Io hc4 hN;have hTl:=hT.len;have hkeys:=Yq hSD;rw[bv] at hTl;have hdn:=hT.done;replace hCs:=hCs.perm hdn;apply aJ 4 [0] m;simp only[↓aD];refine aB fW ?_;simp only[zz,fz,bj,dx];replace m:=m.pull 9 O;simp only[dY,dZ,zF,zG] at m;replace m:=m.pull 4 O;simp only[dY,dZ,zF,zG] at m;replace m:=m.pull 4 O;simp only[dY,dZ,zF,zG] at m;replace m:=m.pull 4 O;simp only[dY,dZ,zF,zG] at m;replace m:=m.pack4;refine kK O O (arY m hK hSD hnd hit (by omega) hQ.len hQ.bd (by omega) hCs (by omega)) ?_;rintro v u ⟨c,bb,rfl,m,hbest⟩;simp only[zz];replace m:=m.unpack3;apply aL 1 [0] m;simp only[↓aD];refine aB (eY (v:=aaY c) O O) ?_;simp only[zz];refine aB (eY (v:=.bool bb) O O) ?_;simp only[zz];apply kD 2 [0] m;simp only[↓aD,↓eT,ad6,ad5,aa];intro g8 u m;apply aW 8 [0] m;simp only[↓aD];refine dK O ?_ ?_<;>intro hc7
           ·
            have hend:=acQ (l:=l) (want:=want) (Q:=Q) (D:=Dm) (.inr (hbest.resolve_right (fun h=>by rw[h.1] at hc7;cases hc7)).2);apply aJ 5 [] m;simp only[↓aD];replace m:=m.nilO 55 6;apply aW 4 [0] m;simp only[↓aD];refine bJ O O (ak9 (q:=q62) _) ?_;rintro v u e_ ⟨g9,rfl,h_,k_⟩;replace m:=m.newB e_ h_ k_;simp only[zz];refine bJ O O (acz _ aiz (Oi (m.p 9 O) hD62 (m.b 0 O)) (fun xs h=>by rw[h.length_eq,bx];exact aq _) (by omega)) ?_;rintro v u e_ ⟨xs,ys,⟨A22,cap22,n22,hn22,rfl,h_⟩,hxs,hys,hso⟩;replace m:=m.newO e_ h_;obtain rfl:n22=Dm.length:=by rw[hn22,hxs.length_eq,bx]
            obtain rfl:ys=Ba (Dm.map (·.1)):=Tt hnM (hys.trans hxs) hso;apply aL 4 [0] m;simp only[↓aD,kZ];refine bX [20,138] [22,139,140,141,142,143,144,145,146,147,148,149,150] (fun n vs wl=>∃(k:Nat) (A20:Option Addr) (cap20:Nat),vs=[.slice A20 k cap20,.int .i64 (k:Int)]∧Mem w wl [oI 30 3 A22 Dm.length cap22 ((Ba (Dm.map (·.1))).flatMap dF),oI 55 6 A20 k cap20 (((nE Dm).take k).flatMap dD),oI 39 9 A1 l.length cap1 (l.flatMap aN),mI q62 es62 c62]∧(k≤Dm.length)∧(n=Dm.length-k)) ?_ ?_
            ·
             exact⟨_,0,_,_,O,(m.sel [true,false,true,false,false,false,true,false,false,false,true,false,false]),cv _,O⟩
            · intro n vs wr hI u K5 hK5
              obtain⟨k,A20,cap20,rfl,m,hk,hn6⟩:=hI;simp only[zu,zF,zG];apply aJ 5 [0,0] m;simp only[↓aD];refine bG O ?_ ?_<;>intro hc10
              ·
               obtain⟨k9,hk9,a9,hA9,hr9⟩:=((m.o 0 rfl).lat (enc:=dF) (fun _=>rfl) (by decide)).get (i:=k) (by omega);subst hA9;have hmv:=apA hk9;apply aJ 5 [0] m;simp only[↓aD];refine aB (aF cT aA O O (by omega) (by omega) (cQ (ah _))) ?_;simp only[zz];refine aR O (show fZ _ _ _ _ (pt k9) from hr9.lies aH aA) ?_;simp only[zz];apply kD 3 [0,0] m;simp only[↓aD,↓eT,eS,aS,aa];intro g10 u m;refine mh m [true,true,false,true,true] [(0,true),(2,true),(1,true),(3,true),(4,false),(5,true),(6,false),(7,false),(8,true)] aC (by kernel_rfl) (bU (fun _ _ _ _ _ h=>h)) (ol:=?_) ?hol ?_
               case hol=>simp only[zw,zQ,zR];try rfl
               intro u m;refine Pg 4 [0,0] ?_;simp only[↓aD,↓eT,aS];refine bR (fG (eH (ek:=pt) (en:=pt) (k:=k9) (v0:=⟨0,0,0⟩) Ri iW gD O O (m.p 4 O) hD62) ?_);simp only[zz];refine aM ⟨m.sel [true,true,false,true,true],?_⟩;refine bF (Ch O O) (bR ?_);simp only[zz];refine Lk O ?_;intro u g11 e_ h_ k_;replace m:=m.newB e_ h_ k_;refine aM ⟨m.sel [false,true,true,false,true,true],?_⟩;refine bR ?_;simp only[zz];refine bL m 3 O O underlying46 aiH O (by decide) O O O (m.b 0 O).rowsO (gB O) (by omega) (by omega) ?_;intro A20 cap20 u m;simp only[zF,zG] at m;rw[show ((nE Dm).take k).flatMap dD++_=((nE Dm).take (k+1)).flatMap dD by rw[cJ hmv,ay];rfl] at m;refine aM ⟨m.sel [false,true,true,false,true,true],?_⟩;refine bF aO (bW ?_);apply aW 5 [0] m;simp only[↓aD];refine⟨by omega,?_⟩;exact hK5 (Dm.length-(k+1)) _ _ (by omega) (by kernel_rfl) ⟨k+1,_,_,O,(m.sel [false,false,true,true,true,true]),by omega,O⟩
              ·
               obtain rfl:k=Dm.length:=by omega
               rw[show (nE Dm).take Dm.length=nE Dm from a_ (by rw[Ep];exact aq _)] at m;apply aJ 9 [] m;simp only[↓aD];exact yE O O O ⟨_,O,m.ext,_,_,_,_,_,_,O,by rw[uH hc0 (hS.trans hend)],by rw[uH hc0 (hS.trans hend)];exact (Ep _).symm,by rw[uH hc0 (hS.trans hend)];exact m.sel [false,true,true,false]⟩
           ·
            obtain⟨rfl,hbs,hbI⟩:=hbest.resolve_left (fun h=>by rw[h.1] at hc7;cases hc7);have hlu:((cG Dq c.u).getD q0).length=10:=by rw[hQ.get];exact hQ.len _
            have hbu:Gy (602+2*(cS ts).length-l.length) ((cG Dq c.u).getD q0):=by rw[hQ.get];exact hQ.bd _
            have hlv:((cG Dq c.v).getD q0).length=10:=by rw[hQ.get];exact hQ.len _
            have hbv:Gy (602+2*(cS ts).length-l.length) ((cG Dq c.v).getD q0):=by rw[hQ.get];exact hQ.bd _
            apply aJ 8 [0,0,0] m;simp only[↓aD,↓eT,Cy,aS,vC,aa];refine bJ O O ((haveI:=hbI.1;haveI:=hbI.2;Ha (p:=c.u) (q:=c.v) _ ((m.o 3 rfl).tris hit) (by omega))) ?_;rintro v u e_ ⟨A21,cap21,n21,hn21,rfl,h_⟩;replace m:=m.newO e_ h_;subst hn21;refine aB aO ?_;simp only[zz];replace m:=(m.pull 0 O).mv 3 O;simp only[dY,dZ,zF,zG] at m;apply aL 2 [0] m;simp only[↓aD];refine cL m 12 aC (by kernel_rfl) ?_;simp only[zy];refine eC 6 [8,0,8,0] ?_;simp only[↓aD,↓eT,afB,vC,aS,Cy,aa];refine kN (fun u m=>eH (ek:=pt) (en:=qV) (k:=c.u) (v0:=q0) Rh af6 gD O O (m.p 9 O) hD61) ?_;simp only[zz];refine eC 3 [8,0] ?_;simp only[↓aD,↓eT,afB,vC,aS,aa];refine kN (fun u m=>eH (ek:=pt) (en:=qV) (k:=c.v) (v0:=q0) Rh af6 gD O O (m.p 9 O) hD61) ?_;simp only[zz];refine eX O O (aeG hlu hlv hbu hbv (by omega)) (bC ?_);intro u m;simp only[zz];refine nN (ek:=pt) (en:=qV) (a:=c.v) (v:=(Fc ((cG Dq c.u).getD q0) ((cG Dq c.v).getD q0))) m 9 O Rh gD O O O hD61 ?_;intro es61 c61 u m hD61;simp only[zF,zG] at m;rw[hQ.get,hQ.get] at hD61;refine aM ?_;apply aW 3 [5,0] m;simp only[↓aD,↓eT,aan];refine aB fW ?_;simp only[zz,fz,bj,dx];replace m:=m.pull 0 O;simp only[dY,dZ,zF,zG] at m;replace m:=m.pull 6 O;simp only[dY,dZ,zF,zG] at m;replace m:=m.pack2;refine kK O O (alV m hD60 hnC) ?_;rintro v u ⟨es60,Dc2,rfl,m,hD60,hnC2,hdel⟩;simp only[zz];replace m:=m.unpack2;apply aL 5 [0] m;simp only[↓aD];refine wM m Ri O (m.p 7 O) ?_;intro r3 u m;apply aL 2 [0] m;simp only[↓aD];refine bX [] [18,19,116,117,118,119,120,121,122,123,124,125,126,127,128] (fun n vs wl=>∃(dn rs:List Mv) (sn:Array Nat) (es62:Array c_),vs=[]∧Mem w wl [iI r3 q62 c62 sn,mI q60 es60 c60,bI g8 (sY c) 112,oI 39 9 A21 (yZ l c.u c.v).length cap21 ((yZ l c.u c.v).flatMap aN),bI g5 [.map (some q60)] 100,mI q62 es62 c62,bI g2 [.map (some q61)] 93,mI q61 es61 c61]∧(bO pt pt (Dt (dn.map (·.1)) c.u c.v Dm) es62 c62)∧(tH pt pt (Dt (dn.map (·.1)) c.u c.v Dm) es62 sn dn rs)∧(n=rs.length)) ?_ ?_
            ·
             exact⟨_,[],Dm,#[],_,O,(m.sel [true,true,true,false,false,true,false,true,true,true,true]),(by rw[dx,acO];exact hD62),(by rw[dx,acO];exact tH.start hD62),O⟩
            · intro n vs wr hI u K6 hK6
              obtain⟨dn,rs,sn,es62,rfl,m,hD62,hT5,hn5⟩:=hI;simp only[zu,zF,zG];apply aJ 2 [0] m;simp only[↓aD];refine alN m 0 O O (m.p 5 O) hD62 hT5 ?_;intro bb kk vv sn u m hN;simp only[zF,zG] at m;refine aB (qB O) ?_;apply aL 2 [0] m;simp only[↓aD];refine dK O ?_ ?_<;>intro hc8
              ·
               obtain⟨kp,kb,rs2,hp2,hT6⟩:=alS hc8 hN;obtain⟨hnew,hmm⟩:=alZ (by rw[Ex];exact hnM) hT6;apply aJ 4 [0] m;simp only[↓aD];refine fG (acN O (m.r 0 O) (m.p 5 O) hD62 hT6) ?_;simp only[zz];apply kD 5 [1] m;simp only[↓aD,↓eT,eS,aS,aa];intro g10 g11 u m;apply Rp 7 [0,0,4,0] m;simp only[↓aD,↓eT,aS,Cy,aa];intro u m;refine aB (cK O O) ?_;apply aL 1 [0] m;simp only[↓aD];refine dK O ?_ ?_<;>intro hc9
               ·
                rw[aoD,decide_eq_true_eq] at hc9;have hup:=alY hnM hmm hnew hc9;apply aJ 5 [1,4,0] m;simp only[↓aD,↓eT,aS,vC,aa];refine alP (ek:=pt) (ev:=pt) (a:=kp) (v:=c.v) m 7 O Ri gD O O O hD62 (by rw[Ex];exact hnM) hT6 ?_;intro es62 u m hD62 hT';simp only[zF,zG] at m;apply aL 2 [0] m;simp only[↓aD];rw[hup] at hD62 hT';exact hK6 rs2.length _ _ (by rw[hn5,hp2.length_eq];exact fg _) (by kernel_rfl) ⟨dn++[(kp,c.v)],rs2,_,_,O,(m.sel [false,false,true,true,true,true,true,true,true,true]),(by rw[ct];exact hD62),(by rw[ct];exact hT'),O⟩
               ·
                rw[aoD,decide_eq_false_iff_not] at hc9;have hup:=ahM (v:=c.v) hnM hmm hnew hc9;apply aJ 2 [0] m;simp only[↓aD];have hT7:=hT6.stay;rw[hup] at hD62 hT7;exact hK6 rs2.length _ _ (by rw[hn5,hp2.length_eq];exact fg _) (by kernel_rfl) ⟨dn++[(kp,kb)],rs2,_,_,O,(m.sel [false,false,true,true,true,true,true,true,true,true]),(by rw[ct];exact hD62),(by rw[ct];exact hT7),O⟩
              ·
               obtain rfl:=alR hc8 hN;have hdn:=hT5.done;have hall:∀e∈Dm,e.1∈dn.map (·.1):=fun e he=>(hdn.map (·.1)).mem_iff.2 (by rw[Ex];exact fk he);apply aJ 7 [2,2,0] m;simp only[↓aD,↓eT,Cy,aS,vC,aa];refine nN (ek:=pt) (en:=pt) (a:=c.u) (v:=c.v) m 5 O Ri gD O O O hD62 ?_;intro es62 c62 u m hD62;simp only[zF,zG] at m;rw[alX hall] at hD62;apply aL 1 [] m;simp only[↓aD];replace m:=m.pull 3 O;simp only[dY,dZ,zF,zG] at m;replace m:=m.pull 7 O;simp only[dY,dZ,zF,zG] at m;replace m:=m.pull 7 O;simp only[dY,dZ,zF,zG] at m;replace m:=m.pull 7 O;simp only[dY,dZ,zF,zG] at m;replace m:=m.pull 5 O;simp only[dY,dZ,zF,zG] at m;replace m:=m.pull 7 O;simp only[dY,dZ,zF,zG] at m;apply aW 1 [0] m;simp only[↓aD];exact hK2 ((yZ l c.u c.v).length) _ _ (by have:=uE hbs;omega) (by kernel_rfl) ⟨(yZ l c.u c.v),(aai Q c.u c.v),_,_,_,_,_,_,_,_,_,_,(toF Dm c.u c.v),rfl,(m.sel [true,true,true,true,true,true,false,false]),hD60,(hC.upd hdel),hnC2,hD61,hD62,((hQ.upd c.u c.v).mono (by have:=uE hbs;omega)),(sM (aaD hbI.2 hit)),(ajs l c.u c.v),(arX hnM _ _),(hS.trans (ahN hw (by omega) hbs)),(by have:=uE hbs;have:=aoF Dm c.u c.v;omega),rfl⟩
       ·
        have hend:=acQ (l:=l) (want:=want) (Q:=Q) (D:=Dm) (.inl (by omega));apply aJ 5 [] m;simp only[↓aD];replace m:=m.nilO 55 6;apply aW 4 [0] m;simp only[↓aD];refine bJ O O (ak9 (q:=q62) _) ?_;rintro v u e_ ⟨g6,rfl,h_,k_⟩;replace m:=m.newB e_ h_ k_;simp only[zz];refine bJ O O (acz _ aiz (Oi (m.p 4 O) hD62 (m.b 0 O)) (fun xs h=>by rw[h.length_eq,bx];exact aq _) (by omega)) ?_;rintro v u e_ ⟨xs,ys,⟨A22,cap22,n22,hn22,rfl,h_⟩,hxs,hys,hso⟩;replace m:=m.newO e_ h_;obtain rfl:n22=Dm.length:=by rw[hn22,hxs.length_eq,bx]
        obtain rfl:ys=Ba (Dm.map (·.1)):=Tt hnM (hys.trans hxs) hso;apply aL 4 [0] m;simp only[↓aD,kZ];refine bX [20,138] [22,139,140,141,142,143,144,145,146,147,148,149,150] (fun n vs wl=>∃(k:Nat) (A20:Option Addr) (cap20:Nat),vs=[.slice A20 k cap20,.int .i64 (k:Int)]∧Mem w wl [oI 30 3 A22 Dm.length cap22 ((Ba (Dm.map (·.1))).flatMap dF),oI 55 6 A20 k cap20 (((nE Dm).take k).flatMap dD),mI q62 es62 c62,oI 39 9 A1 l.length cap1 (l.flatMap aN)]∧(k≤Dm.length)∧(n=Dm.length-k)) ?_ ?_
        ·
         exact⟨_,0,_,_,O,(m.sel [true,false,true,false,false,true,false,false,true]),cv _,O⟩
        · intro n vs wr hI u K7 hK7
          obtain⟨k,A20,cap20,rfl,m,hk,hn6⟩:=hI;simp only[zu,zF,zG];apply aJ 5 [0,0] m;simp only[↓aD];refine bG O ?_ ?_<;>intro hc10
          ·
           obtain⟨k9,hk9,a9,hA9,hr9⟩:=((m.o 0 rfl).lat (enc:=dF) (fun _=>rfl) (by decide)).get (i:=k) (by omega);subst hA9;have hmv:=apA hk9;apply aJ 5 [0] m;simp only[↓aD];refine aB (aF cT aA O O (by omega) (by omega) (cQ (ah _))) ?_;simp only[zz];refine aR O (show fZ _ _ _ _ (pt k9) from hr9.lies aH aA) ?_;simp only[zz];apply kD 3 [0,0] m;simp only[↓aD,↓eT,eS,aS,aa];intro g7 u m;refine mh m [true,true,false,true,true] [(0,true),(2,true),(1,true),(3,true),(4,false),(5,true),(6,false),(7,false),(8,true)] aC (by kernel_rfl) (bU (fun _ _ _ _ _ h=>h)) (ol:=?_) ?hol ?_
           case hol=>simp only[zw,zQ,zR];try rfl
           intro u m;refine Pg 4 [0,0] ?_;simp only[↓aD,↓eT,aS];refine bR (fG (eH (ek:=pt) (en:=pt) (k:=k9) (v0:=⟨0,0,0⟩) Ri iW gD O O (m.p 3 O) hD62) ?_);simp only[zz];refine aM ⟨m.sel [true,true,false,true,true],?_⟩;refine bF (Ch O O) (bR ?_);simp only[zz];refine Lk O ?_;intro u g8 e_ h_ k_;replace m:=m.newB e_ h_ k_;refine aM ⟨m.sel [false,true,true,false,true,true],?_⟩;refine bR ?_;simp only[zz];refine bL m 3 O O underlying46 aiH O (by decide) O O O (m.b 0 O).rowsO (gB O) (by omega) (by omega) ?_;intro A20 cap20 u m;simp only[zF,zG] at m;rw[show ((nE Dm).take k).flatMap dD++_=((nE Dm).take (k+1)).flatMap dD by rw[cJ hmv,ay];rfl] at m;refine aM ⟨m.sel [false,true,true,false,true,true],?_⟩;refine bF aO (bW ?_);apply aW 5 [0] m;simp only[↓aD];refine⟨by omega,?_⟩;exact hK7 (Dm.length-(k+1)) _ _ (by omega) (by kernel_rfl) ⟨k+1,_,_,O,(m.sel [false,false,true,true,true,true]),by omega,O⟩
          ·
           obtain rfl:k=Dm.length:=by omega
           rw[show (nE Dm).take Dm.length=nE Dm from a_ (by rw[Ep];exact aq _)] at m;apply aJ 9 [] m;simp only[↓aD];exact yE O O O ⟨_,O,m.ext,_,_,_,_,_,_,O,by rw[uH hc0 (hS.trans hend)],by rw[uH hc0 (hS.trans hend)];exact (Ep _).symm,by rw[uH hc0 (hS.trans hend)];exact m.sel [false,true,false,true]⟩
theorem Nc{x:Int}(h:sP x):Int.fdiv x (2^min (Int.toNat 10) IntKind.i64.bits)=x / 1024∧sP (x / 1024):=by
 refine⟨by rw[show (2:Int)^min (Int.toNat 10) IntKind.i64.bits=1024 from O,Int.fdiv_eq_ediv_of_nonneg _ (by decide)],?_⟩;unfold sP at h ⊢;omega
theorem al0(h:IT t)  : sP (t.cor c).x∧sP (t.cor c).y∧sP (t.cor c).z:=by
 obtain⟨⟨a1,a2,a3⟩,⟨b1,b2,b3⟩,⟨c1,c2,c3⟩⟩:=h;unfold T3.cor;split
 · exact⟨a1,a2,a3⟩
 · split
   · exact⟨b1,b2,b3⟩
   · exact⟨c1,c2,c3⟩
theorem al3{g o:Nat}:(⟨g,o,none⟩:Addr).add ((k:Int).toNat*c)=⟨g,o+k*c,none⟩:=by rw[ah];exact eD ..
theorem aeR{g:Nat}:(⟨g,0,none⟩:Addr).add ((k:Int).toNat*c)=⟨g,k*c,none⟩:=by rw[al3,au]
theorem arZ{w0 w:aj}{S:List (Option Nat)}{E:az}{g n:Nat}(h:Ow w0 w S E 9 (some ⟨g,0,none⟩) n cap (ts.flatMap aN))(ht:ts[k]? = some t)(hc:c<3):mX w ⟨g,k*9+c*3,none⟩ [.int .i64 (t.cor c).x,.int .i64 (t.cor c).y,.int .i64 (t.cor c).z]:=by
 have:=((h.lat (enc:=aN) ais (by decide)).at ht).cor hc;rw[eD,eD,au] at this;exact this
theorem al4(vt:P3→Bool)(x y z:Nat):vM vt x y z=Tf (mkV vt ⟨x,y,z⟩):=by
 unfold mkV;rw[(kp _ _ _ _ _ _ _ _).2.1];rfl
def atG(vt:P3→Bool)(z y x:Nat):List T3:=wF (vM vt x y z) ⟨x,y,z⟩ 524288
def Ox(vt:P3→Bool)(z y k:Nat):List T3:=(df k).flatMap (atG vt z y)
def Du(vt:P3→Bool)(z k:Nat):List T3:=(df k).flatMap fun y=>Ox vt z y 4
def vN(vt:P3→Bool)(k:Nat):List T3:=(df k).flatMap fun z=>Du vt z 4
theorem al5{z y:Nat}:Ox vt z y (k+1)=Ox vt z y k++atG vt z y k:=by unfold Ox;rw[im,ay,jw]
theorem atH{z:Nat}:Du vt z (k+1)=Du vt z k++Ox vt z k 4:=by unfold Du;rw[im,ay,jw]
theorem atI   : vN vt (k+1)=vN vt k++Du vt k 4:=by unfold vN;rw[im,ay,jw]
theorem atJ(vt:P3→Bool):cS (vN vt 4)=qU vt:=by
 unfold qU
 congr 1
 unfold wR vN Du;rw[pj];refine congrArg (fun f=>(df 4).flatMap f) (funext fun z=>?_);rw[pj];refine congrArg (fun f=>(df 4).flatMap f) (funext fun y=>?_);rw[ow];unfold Ox;refine congrArg (fun f=>(df 4).flatMap f) (funext fun x=>?_);show wF (vM vt x y z) ⟨x,y,z⟩ 524288=_
 rw[al4]
def tI(t:T3):Nat→T3
 | 0=>t
 | j+1=>(tI t j).setC j (Ac (t.cor j))
theorem al6{j:Nat}(h:j<3):(tI t j).cor j=t.cor j:=by
 rcases j with _ | _ | _ | j <;> first | rfl | omega
theorem al7(t:T3):tI t 3=t.mapP Ac:=rfl
theorem ar0{p:P3}(h:IT t)(hp:I3 p):IT (t.setC c p):=by
 obtain⟨ha,hb,hc⟩:=h;unfold T3.setC;split
 · exact⟨hp,hb,hc⟩
 · split
   · exact⟨ha,hp,hc⟩
   · exact⟨ha,hb,hp⟩
theorem auC(h:IT t)(j:Nat):I3 (Ac (t.cor j)):=by
 obtain⟨h1,h2,h3⟩:=al0 h (c:=j);exact⟨(Nc h1).2,(Nc h2).2,(Nc h3).2⟩
theorem aeS{t:T3}(h:IT t):∀j,IT (tI t j)
 | 0=>h
 | j+1=>ar0 (aeS h j) (auC h j)
def shL(ts:List T3)(k:Nat):List T3:=(ts.take k).map (T3.mapP Ac)++ts.drop k
theorem ar1(h:ts[k]? = some t):(shL ts k)[k]? = some t:=by
 have hl:=(ap.1 h).1;unfold shL;rw[List.getElem?_append_right (by rw[bx,bp];omega),bx,bp,gr (by omega),Nat.sub_self,List.getElem?_drop,Nat.add_zero];exact h
theorem adg(h:l[k]? = some t):l.set k t=l:=by
 obtain⟨hk,rfl⟩:=ap.1 h;exact List.set_getElem_self hk
theorem aoG(ts:List T3)(k:Nat):(shL ts k).length=ts.length:=by
 unfold shL;rw[aw,bx,bp,List.length_drop];omega
theorem atK(h:ts[k]? = some t):(shL ts k).set k (t.mapP Ac)=shL ts (k+1):=by
 have hl:=(ap.1 h).1;unfold shL;rw[List.set_append_right _ _ (by rw[bx,bp];omega),bx,bp,gr (by omega),Nat.sub_self,List.drop_eq_getElem_cons hl,List.set_cons_zero,cJ h,ct,cq];rfl
theorem apB(h:∀t∈ts,IT t):∀t∈ts.map (T3.mapP Ac),IT t:=fun t ht=>by
 obtain⟨u,hu,rfl⟩:=dh.1 ht;rw[←al7];exact aeS (h u hu) 3
theorem ahP{A:Option Addr}{ci:Nat}{ins:List Bool}(w:aj)(hF:vJ Yb 1 w A 125 ins)(hV:Yc ins vt)(hB:Jy vt):dQ prog 83 [.agg #[.int .i64 2,.slice A 125 ci]] w (fun v w'=>((qU vt).length≤1536∧∀t∈qU vt,IT t)∧SL 39 9 ((qU vt).flatMap aN) (qU vt).length w v w'):=by
 refine⟨bK func83 (by kernel_rfl),?_⟩;have m:=Mem.refl w
 go_enter func83,ntmps83
 apply jP 8 [0,0] m;simp only[↓aD,ad7];intro g1 u m;refine dM m O O (aek _ (hF.ext m.ext) hV hB) ?_;rintro v u m rfl;apply aL 14 [0,0] m;simp only[↓aD,Jk,cY,Bool.not_true,Bool.not_false,aa];refine aB (qQ O O (by omega) Tg) ?_;apply aL 4 [0] m;simp only[↓aD];refine aB aO ?_;replace m:=m.nilO 39 9;apply aL 7 [0] m;simp only[↓aD];refine bX [5,6] [7,8,16,17,18,19,20,21,22,23,24,25,26,27,28,29,30,31,32,33,34,35,36,37,38] (fun n vs wl=>∃(z:Nat) (n5:Nat) (A5:Option Addr) (cap5:Nat),vs=[.slice A5 n5 cap5,.int .i64 (z:Int)]∧Mem w wl [oI 39 9 A5 n5 cap5 ((vN vt z).flatMap aN),bI g1 [.int .i64 2,.slice A 125 ci] 139]∧((vN vt z).length=n5)∧(∀t∈vN vt z,SmT t)∧(n5≤384*z)∧(z≤4)∧(n=4-z)) ?_ ?_
 ·
  exact⟨_,0,0,none,0,O,m,O,by simp[vN],by omega,by omega,O⟩
 · intro n vs wr hI u K1 hK1
   obtain⟨z,n5,A5,cap5,rfl,m,hlt,hts,hb,hz,hnz⟩:=hI;simp only[zu,zF,zG];apply aJ 7 [0,0] m;simp only[↓aD];refine bG O ?_ ?_<;>intro hc2
   ·
    apply aJ 8 [0] m;simp only[↓aD];refine bX [5,7] [8,21,22,23,24,25,26,27,28,29,30,31,32,33,34,35,36,37,38] (fun n vs wl=>∃(y:Nat) (n5:Nat) (A5:Option Addr) (cap5:Nat),vs=[.slice A5 n5 cap5,.int .i64 (y:Int)]∧Mem w wl [oI 39 9 A5 n5 cap5 ((vN vt z++Du vt z y).flatMap aN),bI g1 [.int .i64 2,.slice A 125 ci] 139]∧((vN vt z++Du vt z y).length=n5)∧(∀t∈vN vt z++Du vt z y,SmT t)∧(n5≤384*z+96*y)∧(y≤4)∧(n=4-y)) ?_ ?_
    · rw[show vN vt z=vN vt z++Du vt z 0 from (fa _).symm] at m hlt hts
      exact⟨_,0,_,_,_,O,m,hlt,hts,by omega,by omega,O⟩
    · intro n vs wr hI u K2 hK2
      obtain⟨y,n5,A5,cap5,rfl,m,hlt,hts,hb,hy,hny⟩:=hI;simp only[zu,zF,zG];apply aJ 7 [0,0] m;simp only[↓aD];refine bG O ?_ ?_<;>intro hc3
      ·
       apply aJ 8 [0] m;simp only[↓aD];refine bX [5,8] [26,27,28,29,30,31,32,33,34,35,36,37,38] (fun n vs wl=>∃(x:Nat) (n5:Nat) (A5:Option Addr) (cap5:Nat),vs=[.slice A5 n5 cap5,.int .i64 (x:Int)]∧Mem w wl [oI 39 9 A5 n5 cap5 ((vN vt z++Du vt z y++Ox vt z y x).flatMap aN),bI g1 [.int .i64 2,.slice A 125 ci] 139]∧((vN vt z++Du vt z y++Ox vt z y x).length=n5)∧(∀t∈vN vt z++Du vt z y++Ox vt z y x,SmT t)∧(n5≤384*z+96*y+24*x)∧(x≤4)∧(n=4-x)) ?_ ?_
       · rw[show vN vt z++Du vt z y=vN vt z++Du vt z y++Ox vt z y 0 from (fa _).symm] at m hlt hts
         exact⟨_,0,_,_,_,O,m,hlt,hts,by omega,by omega,O⟩
       · intro n vs wr hI u K3 hK3
         obtain⟨x,n5,A5,cap5,rfl,m,hlt,hts,hb,hx,hnx⟩:=hI;simp only[zu,zF,zG];apply aJ 7 [0,0] m;simp only[↓aD];refine bG O ?_ ?_<;>intro hc4
         ·
          apply aJ 10 [1,0] m;simp only[↓aD,ad7,tE,aa];refine bJ O O (aku (cx:=x) (cy:=y) (cz:=z) _ (hF.ext m.ext) hV (by omega) (by omega) (by omega)) ?_;rintro v u e_ ⟨hus,A7,cap7,n7,hn7,rfl,h_⟩;replace m:=m.newO e_ h_;simp only[zz];refine bL m 1 O O cH jK O (by decide) O O (m.o 0 O).own.1 (m.o 0 O).row (xB _) (by omega) (by omega) ?_;intro A5 cap5 u m;simp only[zF,zG] at m;rw[←ay,show vN vt z++Du vt z y++Ox vt z y x++wF (vM vt x y z) ⟨x,y,z⟩ 524288=vN vt z++Du vt z y++Ox vt z y (x+1) by rw[al5,←cq];rfl] at m;apply aL 8 [0] m;simp only[↓aD];refine⟨by omega,?_⟩;exact hK3 (4-(x+1)) _ _ (by omega) (by kernel_rfl) ⟨x+1,_,_,_,O,(m.sel [false,true,true]),by rw[al5,←cq,aw];show _+(wF (vM vt x y z) ⟨x,y,z⟩ 524288).length=_;omega,by rw[al5,←cq];exact fun t ht=>(bi.1 ht).elim (hts t) (hus.2 t),by omega,by omega,O⟩
         ·
          obtain rfl:x=4:=by omega
          apply aJ 7 [0] m;simp only[↓aD];refine⟨by omega,?_⟩;rw[cq,←atH] at m hlt hts;exact hK2 (4-(y+1)) _ _ (by omega) (by kernel_rfl) ⟨y+1,_,_,_,O,m,hlt,hts,by omega,by omega,O⟩
      ·
       obtain rfl:y=4:=by omega
       apply aJ 7 [0] m;simp only[↓aD];refine⟨by omega,?_⟩;rw[←atI] at m hlt hts;exact hK1 (4-(z+1)) _ _ (by omega) (by kernel_rfl) ⟨z+1,_,_,_,O,m,hlt,hts,by omega,by omega,O⟩
   ·
    obtain rfl:z=4:=by omega
    apply aJ 4 [0] m;simp only[↓aD];refine bJ O O (Tc (ts:=vN vt 4) _ ((m.o 0 O).tris (apc hts)) (by omega)) ?_;rintro v u e_ ⟨A8,cap8,n8,hn8,rfl,h_⟩;replace m:=m.newO e_ h_;apply aL 3 [] m;simp only[↓aD];refine aT O O ?_;try simp only[zD,zE]
    exact⟨_,O,m.ext,by rw[←atJ];exact⟨⟨by rw[nP];omega,sM (apc hts)⟩,_,_,_,by rw[nP];omega,rfl,(m.o 0 rfl)⟩⟩
theorem Uj{A:Option Addr}{zs:List Int}(w:aj)(hL:vJ akv 1 w A N zs)(hI:∀z∈zs,sP z):dQ prog 39 [.slice A N cap] w (fun v w'=>∃vt,Jy vt∧((Gb vt).length≤1536∧∀t∈Gb vt,IT t)∧SL 39 9 ((Gb vt).flatMap aN) (Gb vt).length w v w'):=by
 refine⟨bK func39 (by kernel_rfl),?_⟩;have m:=Mem.refl w
 go_enter func39,ntmps39
 apply fF 7 [0] m;simp only[↓aD];refine bJ O O (ael _ (hL.ext m.ext) hI) ?_;rintro v u e_ ⟨Af,cf,ins,vt,rfl,hF,hV,hB⟩;replace m:=m.ext' e_;simp only[zz];refine bJ O O (ahP _ hF hV hB) ?_;rintro v u e_ ⟨⟨hl0,hit⟩,A3,cap3,n3,hlt,rfl,h_⟩;replace m:=m.newO e_ h_;clear hF;apply aL 8 [0] m;simp only[↓aD];refine bX [4] [5,6,10,11,12,13,14,15,16,17,18,19,20,21,22,23,24,25,26,27,28,29,30,31,32,33,34,35,36,37,38,39,40] (fun n vs wl=>∃(k:Nat),vs=[.int .i64 (k:Int)]∧Mem w wl [oI 39 9 A3 n3 cap3 ((shL (qU vt) k).flatMap aN)]∧(k≤n3)∧(n=n3-k)) ?_ ?_
 ·
  exact⟨_,0,O,m,by omega,O⟩
 · intro n vs wr hI u K1 hK1
   obtain⟨k,rfl,m,hk,hn⟩:=hI;simp only[zu,zF,zG];apply aJ 8 [0,0] m;simp only[↓aD,kA];refine bG O ?_ ?_<;>intro hc1
   ·
    obtain⟨t,ht⟩:∃t,(qU vt)[k]? = some t:=⟨_,am (by omega)⟩
    have hti:=hit t (bh ht);obtain⟨g,rfl⟩:=(m.o 0 rfl).some (by omega);apply aJ 8 [0] m;simp only[↓aD];refine bX [5] [6,16,17,18,19,20,21,22,23,24,25,26,27,28,29,30,31,32,33,34,35,36,37,38,39,40] (fun n vs wl=>∃(j:Nat),vs=[.int .i64 (j:Int)]∧Mem w wl [oI 39 9 (some ⟨g,0,none⟩) n3 cap3 (((shL (qU vt) k).set k (tI t j)).flatMap aN)]∧(j≤3)∧(n=3-j)) ?_ ?_
    · rw[show shL (qU vt) k=(shL (qU vt) k).set k (tI t 0) from (adg (ar1 ht)).symm] at m
      exact⟨_,0,O,m,by omega,O⟩
    · intro n vs wr hI u K2 hK2
      obtain⟨j,rfl,m,hj,hn2⟩:=hI;simp only[zu,zF,zG];apply aJ 6 [0,0] m;simp only[↓aD];refine bG O ?_ ?_<;>intro hc2
      ·
       have htj:((shL (qU vt) k).set k (tI t j))[k]? = some (tI t j):=mf (by rw[aoG];omega);apply aJ 8 [0] m;simp only[↓aD];refine aB (aF cH aP O O (by omega) (by omega) aeR) ?_;simp only[zz];refine aB (aK cM aA O O (by omega) (by omega) al3) ?_;simp only[zz];refine aR O (show fZ _ _ _ _ (pt ((tI t j).cor j)) from (arZ (m.o 0 O) htj (show j<3 by omega)).lies aH aA) ?_;simp only[zz];apply kD 3 [0] m;simp only[↓aD,eS,aS,aa];intro g1 u m;obtain⟨htx,hty,htz⟩:=al0 (aeS hti j) (c:=j);obtain⟨hx1,_⟩:=Nc htx;obtain⟨hy1,_⟩:=Nc hty;obtain⟨hz1,_⟩:=Nc htz;refine gc (cL m 15 aC (by kernel_rfl) ?_);simp only[zy];refine eC 5 [0] ?_;simp only[↓aD,gE,cY,aa];refine aG (lD O O (by omega) hx1) (eC 2 [0] ?_);simp only[↓aD,gI,cY,aa];refine aG (lD O O (by omega) hy1) (eC 2 [0] ?_);simp only[↓aD,iX,cY,aa];refine aG (lD O O (by omega) hz1) (aG (xF O O O) ?_);simp only[zz];refine aG (aF cH aP O O (by omega) (by omega) aeR) ?_;simp only[zz];refine aG (aK cM aA O O (by omega) (by omega) al3) (bC ?_);intro u m;simp only[zz];refine amx (off:=(k*9+j*3)) m 1 O O O aA (by simp;omega) rfl ?_;intro u m;simp only[zF,zG] at m;rw[show over (((shL (qU vt) k).set k (tI t j)).flatMap aN) (k*9+j*3) _=(((shL (qU vt) k).set k (tI t j)).set k ((tI t j).setC j (Ac ((tI t j).cor j)))).flatMap aN from air (p:=⟨((tI t j).cor j).x / 1024,((tI t j).cor j).y / 1024,((tI t j).cor j).z / 1024⟩) htj (by omega),List.set_set,al6 (show j<3 by omega)] at m;refine aM ?_;apply aW 6 [0] m;simp only[↓aD];refine⟨by omega,?_⟩;exact hK2 (3-(j+1)) _ _ (by omega) (by kernel_rfl) ⟨j+1,O,(m.sel [false,true]),by omega,O⟩
      ·
       obtain rfl:j=3:=by omega
       rw[al7,atK ht] at m;apply aJ 7 [0] m;simp only[↓aD];refine⟨by omega,?_⟩;exact hK1 (n3-(k+1)) _ _ (by omega) (by kernel_rfl) ⟨k+1,O,m,by omega,O⟩
   ·
    obtain rfl:k=n3:=by omega
    rw[show shL (qU vt) k=(qU vt).map (T3.mapP Ac) by unfold shL;rw[a_ (by omega),List.drop_of_length_le (by omega),fa]] at m;apply aJ 4 [0] m;simp only[↓aD];refine bJ O O (Tc (ts:=(qU vt).map (T3.mapP Ac)) _ ((m.o 0 O).tris (apB hit)) (by omega)) ?_;rintro v u e_ ⟨A8,cap8,n8,hn8,rfl,h_⟩;replace m:=m.newO e_ h_;apply aL 3 [] m;simp only[↓aD];exact aT O O ⟨_,O,m.ext,vt,hB,⟨by unfold Gb;rw[nP,bx];omega,sM (apB hit)⟩,_,_,_,by unfold Gb;rw[nP,hn8],rfl,(m.o 0 rfl)⟩
end Go.Proofs.YtfekpcimgncioaaGreatDoor
namespace Go.Proofs.YtfekpcimgncioaaGreatDoor
open Go.Proofs.Tryz
open Go.RowKit Go.Lith
set_option maxRecDepth 100000
attribute [local irreducible] ar cw gG bQ cO Code.wp
end Go.Proofs.YtfekpcimgncioaaGreatDoor
