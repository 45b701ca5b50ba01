/-
 Texts of one claim, laid together: Nest2, K19, K20, K21, K22, K23, Mono, K24, K25, Trav, K27, K28, Maps2, K29, K75, Meas1, RefG1, RefF.
-/
import Derived.RunT
import Derived.Test.YtfekpcimgncioaaGreatDoorG7
open Nat renaming reduceAdd→aa,reduceMul→ah,le_refl→ao,zero_add→ar,le_trans→be,zero_le→cq,lt_succ_self→fg,min_eq_left→ib,le_succ→qg
open Int renaming reduceToNat→ad,toNat_natCast→ag,reduceAdd→am
open Go renaming Value→ai,World→aj,wpList→au,TypeId→av,Program→bv,wpQuiet→cu,MapEntry→de
open List renaming getElem?_eq_getElem→ak,mem_cons→an,getElem?_eq_some_iff→ap,flatMap_append→aw,length_cons→ay,mem_singleton→az,length_append→a_,length_map→bf,mem_cons_of_mem→bg,mem_cons_self→bh,take_of_length_le→bi,mem_of_getElem?→bj,map_cons→bp,mem_append→br,nil_append→bt,pairwise_cons→bu,length_take→bw,length_nil→cd,cons_append→cg,not_mem_nil→cl,map_append→ct,mem_map→cw,range→c_,append_assoc→da,all_eq_true→df,mem_filter→dh,mem_flatMap→dl,map_nil→dt,getElem?_map→eh,getD_eq_getElem?_getD→ej,append_nil→eo,any_eq_true→ew,mem_iff_getElem?→fb,mem_map_of_mem→fj,length_filter_le→ft,nodup_cons→f_,map_toArray→gm,mem_append_right→gn,take_length→gt,length_set→gv,range_succ→gw,mem_append_left→ig,filter_append→ij,map_congr_left→ik,nodup_append→jc,getElem?_set_self→jk,nodup_nil→jo,flatMap_singleton→jq,flatMap_map→lx,getElem_inj→ly,map_eq_append_iff→me,map_eq_cons_iff→nc,getElem?_zip_eq_some→ng,flatMap_assoc→ph,perm_cons→qh
open Bool renaming and_eq_true→ba,or_eq_true→gg,eq_iff_iff→jg,and_false→jr,true_and→lf,false_and→lz,and_self→mj,and_true→ml
open Go.Value renaming bool→bm
open Option renaming getD_some→dx,map_some→fa
open Option.some renaming inj→ep,injEq→ie
open Prod.mk renaming injEq→fk
open Array renaming eraseIdxIfInBounds→ld,toList_push→nw
open List.Perm renaming append_left→mo,refl→ny
set_option maxHeartbeats 8000000
set_option linter.unusedSimpArgs false
set_option linter.unusedVariables false
set_option linter.unusedSectionVars false
namespace Go.Lith
open Go.RowKit Go.ChangeMaps
variable{t:T3}{c:P3}
section
variable {w0 w:aj} {is js ks:List It}
theorem Mem.bagPerm(m:Mem w0 w (Ie js::is))(h:js.Perm ks):Mem w0 w (Ie ks::is):=by
 obtain⟨h1,h2⟩:=bu.1 m.nd;have P:=m.all _ (bh ..);refine⟨m.ext,fun x hx=>?_,fun x hx b hb=>?_,bu.2 ⟨fun x hx b ⟨y,hy,hb⟩ hxb=>?_,h2⟩⟩
 · rcases an.1 hx with rfl | hx
   · exact⟨fun j hj=>P.1 j (h.mem_iff.2 hj),(h.pairwise_iff (fun {a b} (h:Ap a b)=>h.symm)).1 P.2⟩
   · exact m.all x (bg _ hx)
 · rcases an.1 hx with rfl | hx
   · obtain⟨y,hy,hb⟩:=hb
     exact m.ge _ (bh ..) b ⟨y,h.mem_iff.2 hy,hb⟩
   · exact m.ge x (bg _ hx) b hb
 · exact h1 x hx b ⟨y,h.mem_iff.2 hy,hb⟩ hxb
theorem acv{K V:Type}[DecidableEq K]{k:K}{v:V}{e:K × V}:∀{D:List (K × V)},(D.map (·.1)).Nodup→e∈fJ D k v→e=(k,v)∨(e∈D∧e.1≠k)
 | [],_,h=>.inl (az.1 h)
 | x::D,hn,h=>by
  obtain⟨n1,n2⟩:=f_.1 hn;unfold fJ at h;split at h
  · rename_i hk
    rcases an.1 h with h | h
    · exact .inl h
    · exact .inr ⟨bg _ h,fun e'=>n1 (cw.2 ⟨e,h,e'.trans hk.symm⟩)⟩
  · rename_i hk
    rcases an.1 h with h | h
    · exact .inr ⟨h▸bh ..,h▸hk⟩
    · rcases acv n2 h with h | h
      · exact .inl h
      · exact .inr ⟨bg _ h.1,h.2⟩
variable {E:av} {fs:P3→List T3} {D:List (P3 × Hd)}
def sI(E:av)(fs:P3→List T3)(e:P3 × Hd):It:=oI E 9 e.2.A (fs e.1).length e.2.cap ((fs e.1).flatMap aM)
structure Nj(D:List (P3 × Hd))(fs:P3→List T3):Prop where
 nk:(D.map (·.1)).Nodup
 len:∀e∈D,e.2.n=(fs e.1).length
 no:∀p,p∉D.map (·.1)→fs p=[]
 yes:∀p,p∈D.map (·.1)→fs p≠[]
theorem Nj.nil:Nj [] fun _=>[]:=⟨jo,fun _ h=>(by cases h),fun _ _=>rfl,fun _ h=>(by cases h)⟩
theorem Nj.iff(S:Nj D fs){p:P3}:p∈D.map (·.1)↔fs p≠[]:=⟨S.yes p,fun h=>Classical.byContradiction fun k=>h (S.no p k)⟩
theorem Nj.take(S:Nj D fs)(m:Mem w0 w (Ie (D.map (sI E fs))::is))(p:P3) :
 ∃rest,Mem w0 w (oI E 9 (pJ D p).A (pJ D p).n (pJ D p).cap ((fs p).flatMap aM)::Ie rest::is)∧(pJ D p).n=(fs p).length ∧
  ∀(h':Hd) (fs':P3→List T3),(∀q,q≠p→fs' q=fs q)→h'.n=(fs' p).length→fs' p≠[]→(sI E fs' (p,h')::rest).Perm ((fJ D p h').map (sI E fs'))∧Nj (fJ D p h') fs':=by
 have hS:∀(h':Hd) (fs':P3→List T3),(∀q,q≠p→fs' q=fs q)→h'.n=(fs' p).length→fs' p≠[]→Nj (fJ D p h') fs':=fun h' fs' hq hl hy =>
  ⟨vE S.nk p h',fun e he=>by
   rcases acv S.nk he with rfl | ⟨he,hk⟩
   · exact hl
   · rw[hq _ hk];exact S.len e he,fun q hqn=>by
   rw[uM] at hqn;have h1:q∉D.map (·.1)∧q≠p:=by
    split at hqn
    · rename_i hp;exact⟨hqn,fun e=>hqn (e▸hp)⟩
    · exact⟨fun h=>hqn (ig _ h),fun e=>hqn (gn _ (by rw[e];exact az.2 rfl))⟩
   rw[hq _ h1.2];exact S.no q h1.1,fun q hqn=>by
   by_cases hqp:q=p
   · rw[hqp];exact hy
   · rw[hq _ hqp]
     refine S.yes q ?_;rw[uM] at hqn;split at hqn
     · exact hqn
     · exact (br.1 hqn).elim id fun h=>absurd (az.1 h) hqp⟩
 have hsame:∀{fs':P3→List T3} {L:List (P3 × Hd)},(∀q,q≠p→fs' q=fs q)→(∀e∈L,e.1≠p)→L.map (sI E fs')=L.map (sI E fs):=fun {fs' L} hq hL =>
  ik fun e he=>by unfold sI;rw[hq _ (hL e he)]
 cases hf:qT D p 0 with
 | none =>
  obtain⟨h0,h1,_⟩:=rB D p 0 hf;have hnp:=kO.1 h0;have e0:pJ D p=⟨none,0,0⟩:=by unfold pJ;rw[h0];rfl
  refine⟨D.map (sI E fs),?_,?_,fun h' fs' hq hl hy=>⟨?_,hS h' fs' hq hl hy⟩⟩
  · rw[e0,S.no p hnp];exact m.nilO E 9
  · rw[e0,S.no p hnp];rfl
  · rw[h1,ct,hsame hq fun e he k=>hnp (cw.2 ⟨e,he,k⟩)]
    exact (List.perm_append_singleton _ _).symm
 | some q =>
  obtain⟨j,h⟩:=q;obtain⟨i,_,hi,h0,h1,_⟩:=mW D p 0 j h hf;have e0:pJ D p=h:=by unfold pJ;rw[h0];rfl
  have hm:(p,h)∈D:=bj hi;have hl0:=S.len _ hm;have hne:∀e∈D.eraseIdx i,e.1≠p:=fun e he k=>by
   obtain⟨q,hq⟩:=fb.1 he;rw[List.getElem?_eraseIdx] at hq;have key:∀{q:Nat},D[q]? = some e→q=i:=fun {q} hq=>by
    have a1:(D.map (·.1))[q]? = some p:=by rw[eh,hq,←k];rfl
    have a2:(D.map (·.1))[i]? = some p:=by rw[eh,hi];rfl
    obtain⟨b1,b2⟩:=ap.1 a1;obtain⟨c1,c2⟩:=ap.1 a2;exact (ly S.nk).1 (b2.trans c2.symm)
   split at hq
   · have:=key hq;omega
   · have:=key hq;omega
  refine⟨(D.map (sI E fs)).eraseIdx i,?_,?_,fun h' fs' hq hl hy=>⟨?_,hS h' fs' hq hl hy⟩⟩
  · rw[e0,show h.n=(fs p).length from hl0]
    exact m.bagPull i (j:=sI E fs (p,h)) (by rw[eh,hi];rfl)
  · rw[e0];exact hl0
  · rw[h1,←map_eraseIdx,←hsame hq hne]
    have hp:∀{l:List (P3 × Hd)} {i:Nat} {x y:P3 × Hd},l[i]? = some x→(l.set i y).Perm (y::l.eraseIdx i):=fun {l}=>by
     induction l with
     | nil=>intro i x y h;simp at h
     | cons z l ih =>
      intro i x y h;cases i with
      | zero=>exact .refl _
      | succ i=>exact ((ih (i:=i) (x:=x) (y:=y) (by simpa using h)).cons z).trans (.swap ..)
    exact ((hp (y:=(p,h')) hi).map (sI E fs')).symm
theorem Nj.trisP(S:Nj D fs)(hB:(Ie (D.map (sI E fs))).P w)(hI:∀p,∀t∈fs p,IT t)(p:P3):bQ w (pJ D p).A (pJ D p).n (fs p)∧(pJ D p).n≤(pJ D p).cap:=by
 unfold pJ;cases hg:cD D p with
 | none =>
  rw[S.no p (kO.1 hg)];exact⟨bQ.nil _ _,ao _⟩
 | some h =>
  have hm:=sD hg;have hP:=hB.1 _ (cw.2 ⟨(p,h),hm,rfl⟩);have ho:Ow { w with heap:=#[] } w [] E 9 h.A (fs p).length h.cap ((fs p).flatMap aM):=⟨hP,fun _ _ h=>(by cases h),fun _ h=>(by cases h)⟩
  have hl:=S.len _ hm;simp only[dx];rw[show h.n=(fs p).length from hl];exact⟨ho.tris (hI p),ho.le⟩
end
def Uw(l:List T3)(t:T3)(cs:List P3)(p:P3):List T3:=l.filter (fun t=>t.has p)++if p∈cs then [t] else []
theorem anD(l:List T3)(t:T3):Uw l t []=fun p=>l.filter fun t=>t.has p:=by
 funext p
 unfold Uw;simp
theorem aq4{l:List T3}{cs:List P3}{q:P3}(h:q≠c):Uw l t (cs++[c]) q=Uw l t cs q:=by
 unfold Uw;simp[h]
theorem aq5{l:List T3}{cs:List P3}(h:c∉cs):Uw l t (cs++[c]) c=Uw l t cs c++[t]:=by
 unfold Uw;simp[h]
theorem anE{l:List T3}{k:Nat}(ht:l[k]? = some t):Uw (l.take k) t [t.a,t.b,t.c]=fun p=>(l.take (k+1)).filter fun t=>t.has p:=by
 funext p
 unfold Uw;rw[bY ht,ij]
 congr 1
 by_cases h:t.has p=true
 · have:=jQ.1 h
   simp[h,this]
 · have h':¬(p=t.a∨p=t.b∨p=t.c):=fun k=>h (jQ.2 k)
   simp[h,h']
end Go.Lith
namespace Go.Proofs.YtfekpcimgncioaaGreatDoor
open Go.Proofs.Tryz
open Go.RowKit Go.Lith
set_option maxRecDepth 100000
attribute [local irreducible] au cu fA bF cG Code.wp
attribute [local congr] nO fK fM fN fO fP iY fQ fR fS fT fU fV fW fX fY fZ gA dX dY gB gC gE gF gG jA cQ cR cE cP gD iZ dZ eA eB gH gI jD
variable{w w0:aj}{g90 ga gf N cap ca cf k j g4 g5:Nat}{A:Option Addr}{ts:List T3}{t:T3}{q:P3}{K:It}
structure Kt(T:av)(w:aj)(g90 ga gf:Nat)(A:Option Addr)(N cap:Nat)(ea ef:Array de)(ca cf:Nat)(D:List (P3 × Hd))(ts:List T3):Prop where
 b:gT w g90 [.slice A N cap,.map (some ga),.map (some gf)] T
 a:iW w ga ea ca
 f:iW w gf ef cf
 t:∀p,bQ w (pJ D p).A (pJ D p).n (ts.filter fun t=>t.has p)∧(pJ D p).n≤(pJ D p).cap
theorem Kt.ext{T:av}{w':aj}{ea ef:Array de}{D:List (P3 × Hd)}(h:Kt T w g90 ga gf A N cap ea ef ca cf D ts)(e:gJ w w'):Kt T w' g90 ga gf A N cap ea ef ca cf D ts :=
 ⟨h.b.ext e,h.a.ext e,h.f.ext e,fun p=>⟨(h.t p).1.ext e,(h.t p).2⟩⟩
structure Ui(ea ef:Array de)(ca cf:Nat)(D:List (P3 × Hd))(F:List (P3 × Bool))(ts:List T3):Prop where
 a:bJ pt Hd.v D ea ca
 f:bJ pt bm F ef cf
 nk:(D.map (·.1)).Nodup
 k:∀p,p∈D.map (·.1)↔p∈cA ts
 b:∀p,(cD F p).getD false=Uv (aY ts) p
def ahf(es:List E3):List P3:=es.flatMap fun e=>[e.1,e.2]
theorem akR{es:List E3}{p:P3}:decide (p∈ahf es)=Uv es p:=by
 rw[jg,decide_eq_true_eq];unfold ahf Uv;rw[dl,ew];constructor
 · rintro⟨e,he,hp⟩
   refine⟨e,he,?_⟩;simp only[an,cl,or_false] at hp;rcases hp with rfl | rfl <;> simp
 · rintro⟨e,he,hp⟩
   refine⟨e,he,?_⟩;simp only[gg,decide_eq_true_eq] at hp;rcases hp with rfl | rfl <;> simp
theorem ahg{es:List E3}{e:E3}(h:es[k]? = some e):ahf (es.take (k+1))=ahf (es.take k)++[e.1]++[e.2]:=by
 rw[bY h];unfold ahf;rw[aw,da];rfl
def Gb(t:T3):List P3:=[t.a,t.b,t.c]
theorem afL(hj:j<3):(Gb t)[j]? = some (t.cor j):=by
 have h:j=0∨j=1∨j=2:=by omega
 rcases h with rfl | rfl | rfl <;> rfl
theorem Yk(hj:j<3):(Gb t).take (j+1)=(Gb t).take j++[t.cor j]:=bY (afL hj)
theorem akS(hn:t.nd=true)(hj:j<3):t.cor j∉(Gb t).take j:=fun h=>by
 have hd:(Gb t).Nodup:=Ub hn;obtain⟨i,hi⟩:=fb.1 h;rw[List.getElem?_take] at hi;split at hi
 · rename_i hij
   obtain⟨a1,a2⟩:=ap.1 hi;obtain⟨b1,b2⟩:=ap.1 (afL (t:=t) hj);have:=(ly hd).1 (a2.trans b2.symm);omega
 · cases hi
theorem aq6{p:P3}:(ts.filter fun t=>t.has p)≠[]↔p∈cA ts:=by
 constructor
 · intro h
   obtain⟨t,ht⟩:=List.exists_mem_of_ne_nil _ h;obtain⟨h1,h2⟩:=dh.1 ht;exact qA h1 h2
 · intro h e
   obtain⟨t,ht,hp⟩:=dl.1 (show p∈ts.flatMap fun t=>[t.a,t.b,t.c] from h);have:t∈ts.filter fun t=>t.has p:=dh.2 ⟨ht,jQ.2 (by simpa using hp)⟩;rw[e] at this;cases this
theorem Ku{is:List It}(h:(Eb is).P w)(k:Nat){i:It}(hi:is[k]? = some i):i.P w:=h.1 i (bj hi)
theorem anF(l:List T3)(t:T3)(cs:List P3)(p:P3)(h:l.length≤k):(Uw l t cs p).length≤k+1:=by
 have:=ft (fun t=>T3.has t p) l;unfold Uw;rw[a_];split <;> simp <;> omega
theorem akT(w:aj)(hT:bQ w A N ts)(hnd:∀t∈ts,t.nd=true)(hN:ts.length≤1000000):dK prog 50 [.slice A N cap] w (fun v w'=>∃g90 ga gf ea ef ca cf D F K,v=.pointer (some ⟨g90,0,none⟩)∧Mem w w' [K]∧(∀u,K.P u→Kt 109 u g90 ga gf A N cap ea ef ca cf D ts)∧Ui ea ef ca cf D F ts):=by
 refine⟨bP func50 (by kernel_rfl),?_⟩;have m:=Mem.refl w;have htl:=hT.len;have hbl:(aY ts).length≤10000000:=by have h1:=Rp (all:=aQ ts) (aQ ts) [];have h2:=mH ts;simp only[cd] at h1;unfold aY;omega
 go_enter func50,ntmps50
 apply fG 7 [0] m;simp only[↓aC];refine mE m ?_;intro qa u m;have hDa:=bJ.nil (K:=P3) (V:=Hd) pt Hd.v;simp only[zz];refine mE m ?_;intro qf u m;have hDf:=bJ.nil (K:=P3) (V:=Bool) pt bm;apply kP 4 [] m;simp only[↓aC,apF,aa];intro g3 u m;replace m:=m.bagNil;apply aW 8 [0] m;simp only[↓aC,eV];refine bX [17] [5,7,18,19,20,21,22,23,24,25,26,27,28,29,30,31,32,33,34,35,36,37] (fun n vs wl=>∃(k:Nat) (ea:Array de) (ca:Nat) (D:List (P3 × Hd)),vs=[.int .i64 (k:Int)]∧Mem w wl [Ie (D.map (sI 39 (fun p=>(ts.take k).filter fun t=>t.has p))),bI g3 [.slice A N cap,.map (some qa),.map (some qf)] 109,mI qf #[] 0,mI qa ea ca]∧(bJ pt Hd.v D ea ca)∧(Nj D (fun p=>(ts.take k).filter fun t=>t.has p))∧(k≤N)∧(n=N-k)) ?_ ?_
 ·
  exact⟨_,0,_,_,[],rfl,m,hDa,Nj.nil,cq _,rfl⟩
 · intro n vs wr hI u K1 hK1
   obtain⟨k,esa,ca,D,rfl,m,hDa,hS1,hk,hn⟩:=hI;simp only[zu,zF,zG];apply aK 5 [0,0] m;simp only[↓aC];refine bA rfl ?_ ?_<;>intro hc1
   ·
    obtain⟨t,ht,hti,a,hA,hrow⟩:=hT.get (i:=k) (by omega);subst hA;apply aK 5 [0] m;simp only[↓aC];refine aB (aF bL aO rfl rfl (by omega) (by omega) (cH (ag _))) ?_;simp only[zz];refine aR rfl ((hrow.ext m.ext).lies cK aO) ?_;simp only[zz];apply kP 9 [0,0,0] m;simp only[↓aC,nC,gX,aa];intro g4 u m;refine bX [22] [7,23,24,25,26,27,28,29,30,31,32,33,34,35,36] (fun n vs wl=>∃(j:Nat) (ea:Array de) (ca:Nat) (D:List (P3 × Hd)),vs=[.int .i64 (j:Int)]∧Mem w wl [bI g4 [.int .i64 t.a.x,.int .i64 t.a.y,.int .i64 t.a.z,.int .i64 t.b.x,.int .i64 t.b.y,.int .i64 t.b.z,.int .i64 t.c.x,.int .i64 t.c.y,.int .i64 t.c.z] 39,Ie (D.map (sI 39 (Uw (ts.take k) t ((Gb t).take j)))),bI g3 [.slice (some a) N cap,.map (some qa),.map (some qf)] 109,mI qf #[] 0,mI qa ea ca]∧(bJ pt Hd.v D ea ca)∧(Nj D (Uw (ts.take k) t ((Gb t).take j)))∧(j≤3)∧(n=3-j)) ?_ ?_
    · rw[←anD (ts.take k) t] at m hS1
      exact⟨_,0,_,_,D,rfl,m,hDa,hS1,cq _,rfl⟩
    · intro n vs wr hI u K2 hK2
      obtain⟨j,esa,ca,D,rfl,m,hDa,hS2,hj,hn2⟩:=hI;simp only[zu,zF,zG];apply aK 5 [0,0] m;simp only[↓aC];refine bA rfl ?_ ?_<;>intro hc2
      ·
       have hj3:j<3:=by omega
       apply aK 5 [0] m;simp only[↓aC];refine aB ((acs (t:=t) hj3 rfl rfl)) ?_;apply kP 3 [0] m;simp only[↓aC,gM,aU,aa];intro g5 u m;replace m:=m.pull 2 rfl;simp only[dM,dN,zF,zG] at m;obtain⟨rest,m9,hn9,hS9⟩:=hS2.take m (t.cor j);replace m:=m9;clear m9;have hl9:((Uw (ts.take k) t ((Gb t).take j)) (t.cor j)).length≤k+1:=anF _ _ _ _ (by rw[bw];omega);rw[←hn9] at hl9;refine gc (mh m [false,true,true,true,true,true,false] [(0,true),(1,true),(2,true),(3,true),(4,true),(5,true),(6,false),(7,false),(8,true),(10,true),(9,false),(11,false)] aD (by kernel_rfl) (bT (fun _ _ _ _ _ h=>h)) (ol:=?_) ?hol ?_)
       case hol=>simp only[zw,zQ,zR];try rfl
       intro u m;refine Ps 6 [3,1,2] ?_;simp only[↓aC,Sw,apD,aU,gX,aa];refine cF (eF rfl ?_);intro u g6 e_ h_ k_;replace m:=m.newB e_ h_ k_;refine aN ⟨m.sel [false,false,true,true,true,true,true,false],?_⟩;refine cF ?_;simp only[zz];refine Bc (ek:=pt) (en:=Hd.v) (a:=t.cor j) (v0:=⟨none,0,0⟩) m 7 rfl underlying106 aeN gU rfl rfl hDa ?_;intro esa ca bs u m hD' hS;simp only[zF,zG] at m;refine aN ⟨m.sel [false,false,true,true,true,true,true,false],?_⟩;refine aS (fB rfl rfl) (aS (fB rfl rfl) (cF ?_));simp only[zz];refine bW m 1 rfl rfl bL gR rfl (by decide) rfl rfl rfl (m.b 0 rfl).rowsO (jX rfl) (by omega) (by omega) ?_;intro A9 cap9 u m;simp only[zF,zG] at m;refine aN ⟨m.sel [false,false,true,true,true,true,true,false],?_⟩;refine cF ?_;simp only[zz];refine qJ (ek:=pt) (en:=Hd.v) (a:=t.cor j) (v:=(⟨A9,(pJ D (t.cor j)).n+1,cap9⟩:Hd)) m 7 rfl rfl rfl rfl hS ?_;intro esa u m hDa;simp only[zF,zG] at m;refine aN ⟨m.sel [false,false,true,true,true,true,true,false],?_⟩;refine bV ?_;replace m:=m.pull 2 rfl;simp only[dM,dN,zF,zG] at m;replace m:=m.pull 2 rfl;simp only[dM,dN,zF,zG] at m;have hfs:(Uw (ts.take k) t ((Gb t).take (j+1))) (t.cor j)=(Uw (ts.take k) t ((Gb t).take j)) (t.cor j)++[t]:=by rw[Yk hj3];exact aq5 (akS (hnd t (bj ht)) hj3)
       obtain⟨hp9,hS3⟩:=hS9 ⟨A9,(pJ D (t.cor j)).n+1,cap9⟩ (Uw (ts.take k) t ((Gb t).take (j+1))) (fun q hq=>by rw[Yk hj3];exact aq4 hq) (by rw[hfs,a_,hn9];rfl) (by rw[hfs];simp);rw[show ((Uw (ts.take k) t ((Gb t).take j)) (t.cor j)).flatMap aM++_=((Uw (ts.take k) t ((Gb t).take (j+1))) (t.cor j)).flatMap aM by rw[hfs,aw];rfl,show (pJ D (t.cor j)).n+1=((Uw (ts.take k) t ((Gb t).take (j+1))) (t.cor j)).length by rw[hfs,a_,hn9];rfl] at m;replace m:=(Mem.bagPush (j:=sI 39 (Uw (ts.take k) t ((Gb t).take (j+1))) (t.cor j,⟨A9,(pJ D (t.cor j)).n+1,cap9⟩)) m).bagPerm hp9;replace m:=m.pull 3 rfl;simp only[dM,dN,zF,zG] at m;apply aW 5 [0] m;simp only[↓aC];refine⟨by omega,?_⟩;exact hK2 (3-(j+1)) _ _ (by omega) (by kernel_rfl) ⟨j+1,_,_,_,rfl,(m.sel [true,true,false,false,true,true,true]),hDa,hS3,by omega,rfl⟩
      ·
       obtain rfl:j=3:=by omega
       rw[show (Gb t).take 3=[t.a,t.b,t.c] from rfl,anE ht] at m hS2;apply aK 6 [0] m;simp only[↓aC];refine⟨by omega,?_⟩;exact hK1 (N-(k+1)) _ _ (by omega) (by kernel_rfl) ⟨k+1,_,_,D,rfl,(m.sel [false,true,true,true,true]),hDa,hS2,by omega,rfl⟩
   ·
    obtain rfl:N=k:=by omega
    rw[show ts.take N=ts from bi (by omega)] at m hS1;apply aK 5 [0] m;simp only[↓aC];refine bC rfl rfl (agZ _ (hT.ext m.ext) (by omega)) ?_;rintro v u e_ ⟨A4,c4,n4,hn4,rfl,h_⟩;replace m:=m.newO e_ h_;subst hn4;apply aL 4 [0] m;simp only[↓aC,Bp];refine bX [41] [9,42,43,44,45,46,47,48,49,50,51,52,53,54,55,56,57,58,59,60,61] (fun n vs wl=>∃(i:Nat) (ef:Array de) (cf:Nat),vs=[.int .i64 (i:Int)]∧Mem w wl [oI 56 6 A4 (aY ts).length c4 ((aY ts).flatMap bO),Ie (D.map (sI 39 (fun p=>ts.filter fun t=>t.has p))),bI g3 [.slice A N cap,.map (some qa),.map (some qf)] 109,mI qf ef cf,mI qa esa ca]∧(bJ pt bm (gS [] (ahf ((aY ts).take i))) ef cf)∧(i≤(aY ts).length)∧(n=(aY ts).length-i)) ?_ ?_
    ·
     exact⟨_,0,_,_,rfl,m,hDf,cq _,rfl⟩
    · intro n vs wr hI u K3 hK3
      obtain⟨i,esf,cf,rfl,m,hDf,hi,hn3⟩:=hI;simp only[zu,zF,zG];apply aK 5 [0,0] m;simp only[↓aC];refine bA rfl ?_ ?_<;>intro hc3
      ·
       obtain⟨e,he,ae,hA4,hr5⟩:=((m.o 0 rfl).lat (enc:=bO) (fun _=>rfl) (by decide)).get (i:=i) (by omega);subst hA4;apply aK 5 [0] m;simp only[↓aC];refine aB (aF lT eP rfl rfl (by omega) (by omega) (cH (ag _))) ?_;simp only[zz];refine aR rfl (show eQ _ _ _ _ (.agg #[.int .i64 e.1.x,.int .i64 e.1.y,.int .i64 e.1.z,.int .i64 e.2.x,.int .i64 e.2.y,.int .i64 e.2.z]) from hr5.lies vD eP) ?_;simp only[zz];apply kP 3 [0,0] m;simp only[↓aC,Sv,wV,aa];intro g4 u m;refine mh m [true,true,true,true,false,true] [(0,true),(1,true),(2,true),(4,true),(6,true),(7,true),(8,true),(10,true),(3,true),(5,true),(9,true),(11,true),(12,false),(13,true),(14,false),(15,false),(16,true),(17,false)] aD (by kernel_rfl) (bT (fun _ _ _ _ _ h=>h)) (ol:=?_) ?hol ?_
       case hol=>simp only[zw,zQ,zR];try rfl
       intro u m;refine Ps 12 [3,0,3,0] ?_;simp only[↓aC,Sx,Gr,apE,aU,aa,ad,ah];refine⟨by omega,?_⟩;refine cF (Bc (ek:=pt) (en:=bm) (a:=e.1) (v0:=false) m 4 rfl nU oW gU rfl rfl hDf ?_);intro esf cf bs u m hD' hS;simp only[zF,zG] at m;refine aN ⟨m.sel [true,true,true,true,false,true],?_⟩;refine aS (fB rfl rfl) (cF ?_);simp only[zz];refine qJ (ek:=pt) (en:=bm) (a:=e.1) (v:=true) m 4 rfl rfl rfl rfl hS ?_;intro esf u m hDf;simp only[zF,zG] at m;rw[←mJ] at hDf;refine aN ⟨m.sel [true,true,true,true,false,true],?_⟩;refine cF (Bc (ek:=pt) (en:=bm) (a:=e.2) (v0:=false) m 4 rfl nU oW gU rfl rfl hDf ?_);intro esf cf bs u m hD' hS;simp only[zF,zG] at m;refine aN ⟨m.sel [true,true,true,true,false,true],?_⟩;refine aS (fB rfl rfl) (cF ?_);simp only[zz];refine qJ (ek:=pt) (en:=bm) (a:=e.2) (v:=true) m 4 rfl rfl rfl rfl hS ?_;intro esf u m hDf;simp only[zF,zG] at m;rw[←mJ] at hDf;refine aN ⟨m.sel [true,true,true,true,false,true],?_⟩;refine bV ?_;apply aW 5 [0] m;simp only[↓aC];refine⟨by omega,?_⟩;exact hK3 ((aY ts).length-(i+1)) _ _ (by omega) (by kernel_rfl) ⟨i+1,_,_,rfl,(m.sel [false,true,true,true,true,true]),by rw[ahg he];exact hDf,by omega,rfl⟩
      ·
       obtain rfl:i=(aY ts).length:=by omega
       rw[show (aY ts).take (aY ts).length=aY ts from bi (ao _)] at hDf;apply aK 7 [] m;simp only[↓aC];exact aT rfl rfl ⟨_,rfl,m.ext,_,_,_,_,_,_,_,D,_,Eb [_,_,_,_],rfl,Mem.pack [] (m.sel [false,true,true,true,true]),(fun u hP=>⟨by have h:=Ku hP 1 rfl;exact h,by have h:=Ku hP 3 rfl;exact h,by have h:=Ku hP 2 rfl;exact h,fun p=>hS1.trisP (Ku hP 0 rfl) (fun p t ht=>hT.it t (dh.1 ht).1) p⟩),⟨hDa,hDf,hS1.nk,fun p=>by rw[hS1.iff];exact aq6,fun p=>by rw[sE];exact akR⟩⟩
section
variable {ts:List T3} {p q:P3} {F:List (P3 × Bool)}
theorem ahh(hF:∀z,(cD F z).getD false=Uv (aY ts) z):((cD (gS [] (nR ts p)) q).getD false && !(cD F p).getD false)=uD ts p q:=by
 rw[hF,sE];unfold uD
 congr 1
 rw[jg,decide_eq_true_eq,sJ]
theorem ahi:decide (Hv (gS [] (nR ts q)) (gS [] (nR ts p))=2)=Fi ts p q:=by
 unfold Fi
 congr 2
 unfold Hv;have hp:((gS [] (nR ts p)).map (·.1)).Perm (nbL ts p):=by
  refine (List.perm_ext_iff_of_nodup (Hg _ [] jo) ?_).2 fun x=>?_
  · exact (rR ts).sublist (List.filter_sublist ..)
  · rw[vG,An,sJ];simp
 have e:(fun k=>(cD (gS [] (nR ts q)) k).getD false)=Me ts q:=funext fun k=>by
  rw[sE,jg,decide_eq_true_eq,sJ]
 rw[e];exact (hp.filter _).length_eq
theorem akU(hF:∀z,(cD F z).getD false=Uv (aY ts) z):aaO (gS [] (nR ts p)) (gS [] (nR ts q)) F q=Hn ts p q:=by
 unfold aaO Hn;rw[hF]
 congr 1
 rw[jg,df,df];have key:∀k,(!ag8 F (gS [] (nR ts q)) q k)=(decide (k=q) || !Uv (aY ts) k||Me ts q k):=fun k=>by
  unfold ag8;have e1:decide (¬(k.x=q.x∧k.y=q.y∧k.z=q.z)) = !decide (k=q):=by
   rw[←decide_not];exact decide_eq_decide.2 ⟨fun h e=>h (by rw[e];exact⟨rfl,rfl,rfl⟩),fun h e=>h (P3.eq e.1 e.2.1 e.2.2)⟩
  have e2:(cD (gS [] (nR ts q)) k).getD false=Me ts q k:=by rw[sE,jg,decide_eq_true_eq,sJ]
  rw[e1,e2,hF];cases decide (k=q) <;> cases Uv (aY ts) k <;> cases Me ts q k <;> rfl
 constructor
 · intro h k hk
   rw[←key];exact h k ((vG _ _ _).2 (.inr (sJ.2 (An.1 hk))))
 · intro h k hk
   rw[key];exact h k (An.2 (sJ.1 (((vG _ _ _).1 hk).elim (fun h=>(by cases h)) id)))
theorem aeo:aeh (mO p q ts) (mP p q ts)=Dp ts p q:=by
 unfold aeh Dp mP;rw[List.zip_map_right,List.all_map];rw[jg,df,df];constructor
 · intro h t ht
   obtain⟨i,hi⟩:=fb.1 ht;exact h (t,t) (bj (i:=i) (by rw[ng];exact⟨hi,hi⟩))
 · rintro h ⟨x,y⟩ hx
   obtain⟨i,hi⟩:=fb.1 hx;rw[ng] at hi;obtain rfl:x=y:=ep (hi.1.symm.trans hi.2);exact h x (bj hi.1)
theorem Uj(ts:List T3)(p:P3):(nR ts p).length≤3*ts.length:=by
 have h1:=ft (fun t=>T3.has t p) ts;unfold nR;rw[List.length_flatMap];have h2:∀L:List T3,(L.map fun t=>(nbT p t).length).sum≤3*L.length:=fun L=>by
  induction L with
  | nil=>exact ao _
  | cons t L ih =>
   have:(nbT p t).length≤3:=by
    unfold nbT nbK;rw[a_,a_];split <;> split <;> split <;> simp
   simp only[bp,List.sum_cons,ay];omega
 exact be (h2 _) (by omega)
theorem akV:ahe (mP p q ts) (qQ p q ts)=aak ts p q:=rfl
theorem asM(hnd:∀t∈ts,t.nd=true):∀t∈mP p q ts++qQ p q ts,t.nd=true:=fun t ht=>by
 rcases br.1 ht with h | h
 · obtain⟨s,hs,rfl⟩:=cw.1 h
   have:=(dh.1 hs).2;rw[ba] at this;exact this.2
 · exact hnd t (dh.1 h).1
theorem Yl[I3 q](hI:∀t∈ts,IT t):(∀t∈mP p q ts,IT t)∧(∀t∈mO p q ts,IT t)∧∀t∈qQ p q ts,IT t :=
 ⟨fun t ht=>by
  obtain⟨s,hs,rfl⟩:=cw.1 ht;have:=hI s (dh.1 hs).1;exact⟨Nb inferInstance this.a,Nb inferInstance this.b,Nb inferInstance this.c⟩,fun t ht=>hI t (dh.1 ht).1,fun t ht=>hI t (dh.1 ht).1⟩
theorem aq7(p q:P3)(ts:List T3):(mP p q ts).length+(qQ p q ts).length≤ts.length+ts.length:=by
 have h1:=akP p q ts;have h2:=aen p q ts;have h3:=aaV p q ts;omega
end
theorem Ym{ea ef:Array de}{D:List (P3 × Hd)}{F:List (P3 × Bool)}{p:P3}[I3 p][I3 q](w:aj)(hS:Kt 109 w g90 ga gf A N cap ea ef ca cf D ts)(hD:Ui ea ef ca cf D F ts)(hT:bQ w A N ts)(hnd:∀t∈ts,t.nd=true)(hN:ts.length≤1000000):dK prog 51 [.pointer (some ⟨g90,0,none⟩),pt p,pt q] w (fun v _=>v=.bool (cZ ts p q)):=by
 refine⟨bP func51 (by kernel_rfl),?_⟩;have m:=Mem.refl w;have hxl:(gS [] (nR ts p)).length≤100000000:=by have h1:=pH (nR ts p) [];have h2:=Uj ts p;simp only[cd] at h1;omega
 have hlen:=aq7 p q ts;have hlen1:=aen p q ts;have hlen2:=aaV p q ts
 go_enter func51,ntmps51
 apply mR 11 [1,0,0] m;simp only[↓aC,aU];intro g8 g9 u m;refine bC rfl rfl (aq3 (p:=p) (q:=q) _ (hS.b.ext m.ext) (hS.a.ext m.ext) hD.a (fun z=>⟨(hS.t z).1.ext m.ext,(hS.t z).2⟩) (hT.ext m.ext) (by omega)) ?_;rintro v u e_ ⟨g7,qx,esx,cx,qy,esy,cy,A5,n5,cap5,A6,n6,cap6,A7,n7,cap7,rfl,hM,hDx,hDy,hn5,hn6,hn7⟩;replace m:=m.plus hM;clear hM;simp only[cg,bt] at m;apply aL 6 [0] m;simp only[↓aC];refine aB gQ ?_;simp only[zz,gm,bp,dt];apply aL 1 [0] m;simp only[↓aC];refine aB gQ ?_;simp only[zz,gm,bp,dt];apply aL 1 [0] m;simp only[↓aC];refine aB gQ ?_;simp only[zz,gm,bp,dt];apply aL 1 [0] m;simp only[↓aC];refine aB gQ ?_;simp only[zz,gm,bp,dt];apply aL 1 [0] m;simp only[↓aC];refine aB gQ ?_;simp only[zz,gm,bp,dt];apply aL 1 [0] m;simp only[↓aC];refine aB gQ ?_;simp only[zz,gm,bp,dt];refine adm rfl rfl rfl rfl rfl rfl ?_;intro u g10 e_ h_ k_;replace m:=m.newB e_ h_ k_;apply aL 24 [7,1,0,0] m;simp only[↓aC,apH,Mi,Xm,ad,ah,aa];refine⟨by omega,?_⟩;refine cM m rfl rfl (ag5 (ts:=ts) (X:=gS [] (nR ts p)) (Y:=gS [] (nR ts q)) (F:=F) (ex:=esx) (ey:=esy) (ef:=ef) (cx:=cx) (cy:=cy) (cf:=cf) _ (m.b 1 rfl) (hS.b.ext m.ext) (m.p 6 rfl) hDx (hS.f.ext m.ext) hD.f) ?_;rintro v u m rfl;simp only[zz];rw[ahh hD.b];apply aL 2 [0] m;simp only[↓aC];refine eG rfl ?_ ?_<;>intro hc2
 ·
  have f0:uD ts p q=false:=by simpa using hc2
  apply aK 5 [] m;simp only[↓aC];refine aT rfl rfl ?_;try simp only[zD,zE]
  exact⟨_,rfl,m.ext,by rw[show cZ ts p q=false by unfold cZ;simp only[f0,lz,jr,mj,lf,ml]]⟩
 ·
  have f0:uD ts p q=true:=by simpa using hc2
  apply aK 25 [1,0,0] m;simp only[↓aC,Mi,Xm,am,ad,ah,aa];refine⟨by omega,?_⟩;refine cM m rfl rfl (ag7 (ts:=ts) (X:=gS [] (nR ts p)) (Y:=gS [] (nR ts q)) (F:=F) (ex:=esx) (ey:=esy) (ef:=ef) (cx:=cx) (cy:=cy) (cf:=cf) _ (m.b 1 rfl) (hS.b.ext m.ext) (m.p 6 rfl) hDx (m.p 5 rfl) hDy hxl) ?_;rintro v u m rfl;simp only[zz];rw[ahi];apply aL 2 [0] m;simp only[↓aC];refine eG rfl ?_ ?_<;>intro hc2
  ·
   have f1:Fi ts p q=false:=by simpa using hc2
   apply aK 5 [] m;simp only[↓aC];refine aT rfl rfl ?_;try simp only[zD,zE]
   exact⟨_,rfl,m.ext,by rw[show cZ ts p q=false by unfold cZ;simp only[f0,f1,lz,jr,mj,lf,ml]]⟩
  ·
   have f1:Fi ts p q=true:=by simpa using hc2
   apply aK 25 [1,0,0] m;simp only[↓aC,Mi,Xm,am,ad,ah,aa];refine⟨by omega,?_⟩;refine cM m rfl rfl (ahb (ts:=ts) (X:=gS [] (nR ts p)) (Y:=gS [] (nR ts q)) (F:=F) (ex:=esx) (ey:=esy) (ef:=ef) (cx:=cx) (cy:=cy) (cf:=cf) (ms:=mP p q ts) (rs:=qQ p q ts) _ (m.b 1 rfl) (hS.b.ext m.ext) ((m.o 4 rfl).tris (Yl (p:=p) (q:=q) hT.it).1) ((m.o 2 rfl).tris (Yl (p:=p) (q:=q) hT.it).2.2) (asM hnd) (by omega)) ?_;rintro v u m rfl;simp only[zz];rw[show decide ((mP p q ts++qQ p q ts).map So).Nodup=Pv ts p q from rfl];apply aL 2 [0] m;simp only[↓aC];refine eG rfl ?_ ?_<;>intro hc2
   ·
    have f2:Pv ts p q=false:=by simpa using hc2
    apply aK 5 [] m;simp only[↓aC];refine aT rfl rfl ?_;try simp only[zD,zE]
    exact⟨_,rfl,m.ext,by rw[show cZ ts p q=false by unfold cZ;simp only[f0,f1,f2,lz,jr,mj,lf,ml]]⟩
   ·
    have f2:Pv ts p q=true:=by simpa using hc2
    apply aK 25 [1,0,0] m;simp only[↓aC,Mi,Xm,am,ad,ah,aa];refine⟨by omega,?_⟩;refine cM m rfl rfl (akl (ts:=ts) (X:=gS [] (nR ts p)) (Y:=gS [] (nR ts q)) (F:=F) (ex:=esx) (ey:=esy) (ef:=ef) (cx:=cx) (cy:=cy) (cf:=cf) _ (m.b 1 rfl) (hS.b.ext m.ext) (m.p 6 rfl) hDx (m.p 5 rfl) hDy (hS.f.ext m.ext) hD.f) ?_;rintro v u m rfl;simp only[zz];rw[akU hD.b];apply aL 2 [0] m;simp only[↓aC];refine eG rfl ?_ ?_<;>intro hc2
    ·
     have f3:Hn ts p q=false:=by simpa using hc2
     apply aK 5 [] m;simp only[↓aC];refine aT rfl rfl ?_;try simp only[zD,zE]
     exact⟨_,rfl,m.ext,by rw[show cZ ts p q=false by unfold cZ;simp only[f0,f1,f2,f3,lz,jr,mj,lf,ml]]⟩
    ·
     have f3:Hn ts p q=true:=by simpa using hc2
     apply aK 25 [1,0,0] m;simp only[↓aC,Mi,Xm,am,ad,ah,aa];refine⟨by omega,?_⟩;refine cM m rfl rfl (aei (ts:=ts) (X:=gS [] (nR ts p)) (Y:=gS [] (nR ts q)) (F:=F) (ex:=esx) (ey:=esy) (ef:=ef) (cx:=cx) (cy:=cy) (cf:=cf) (ms:=mP p q ts) (os:=mO p q ts) _ (m.b 1 rfl) (hS.b.ext m.ext) ((m.o 4 rfl).tris (Yl (p:=p) (q:=q) hT.it).1) ((m.o 3 rfl).tris (Yl (p:=p) (q:=q) hT.it).2.1) (by omega) (by omega)) ?_;rintro v u m rfl;simp only[zz];rw[aeo];apply aL 2 [0] m;simp only[↓aC];refine eG rfl ?_ ?_<;>intro hc2
     ·
      have f4:Dp ts p q=false:=by simpa using hc2
      apply aK 5 [] m;simp only[↓aC];refine aT rfl rfl ?_;try simp only[zD,zE]
      exact⟨_,rfl,m.ext,by rw[show cZ ts p q=false by unfold cZ;simp only[f0,f1,f2,f3,f4,lz,jr,mj,lf,ml]]⟩
     ·
      have f4:Dp ts p q=true:=by simpa using hc2
      apply aK 25 [1,0,0] m;simp only[↓aC,Mi,Xm,am,ad,ah,aa];refine⟨by omega,?_⟩;refine cM m rfl rfl (akN (ts:=ts) (X:=gS [] (nR ts p)) (Y:=gS [] (nR ts q)) (F:=F) (ex:=esx) (ey:=esy) (ef:=ef) (cx:=cx) (cy:=cy) (cf:=cf) (ms:=mP p q ts) (rs:=qQ p q ts) _ (m.b 1 rfl) (hS.b.ext m.ext) ((m.o 4 rfl).tris (Yl (p:=p) (q:=q) hT.it).1) ((m.o 2 rfl).tris (Yl (p:=p) (q:=q) hT.it).2.2) (m.o 4 rfl).le (by omega)) ?_;rintro v u m rfl;simp only[zz];rw[akV];apply aL 2 [0] m;simp only[↓aC];refine eG rfl ?_ ?_<;>intro hc2
      ·
       have f5:aak ts p q=false:=by simpa using hc2
       apply aK 5 [] m;simp only[↓aC];refine aT rfl rfl ?_;try simp only[zD,zE]
       exact⟨_,rfl,m.ext,by rw[show cZ ts p q=false by unfold cZ;simp only[f0,f1,f2,f3,f4,f5,lz,jr,mj,lf,ml]]⟩
      ·
       have f5:aak ts p q=true:=by simpa using hc2
       apply aK 19 [2] m;simp only[↓aC,am];refine⟨by omega,?_⟩;refine aT rfl rfl ?_;try simp only[zD,zE]
       exact⟨_,rfl,m.ext,by rw[show cZ ts p q=true by unfold cZ;simp only[f0,f1,f2,f3,f4,f5,lz,jr,mj,lf,ml]]⟩
theorem acw{P:bv}{l:List ai}{op:Op}{ty:av}{b c:Bool}(h:iB P l op ty (.bool b))(e:b=c):iB P l op ty (.bool c):=e▸h
def aaW(ts:List T3)(p q:P3):Bool:=decide (p≠q)&&decide (dC true ts=0)&&cZ ts p q
theorem vT(h:dC true ts=0):∀t∈ts,t.nd=true:=fun t ht=>Go.Lith.nd_of ((Jk h).1 t ht)
theorem ahj{p:P3}:(p.x=q.x∧p.y=q.y∧p.z=q.z)↔p=q:=⟨fun h=>P3.eq h.1 h.2.1 h.2.2,fun h=>by rw[h];exact⟨rfl,rfl,rfl⟩⟩
theorem aoH{p:P3}(h:p≠q):decide (¬(p.x=q.x∧p.y=q.y∧p.z=q.z))=true:=decide_eq_true fun k=>h (ahj.1 k)
theorem asN{p:P3}(h:p=q):decide (¬(p.x=q.x∧p.y=q.y∧p.z=q.z))=false:=decide_eq_false fun k=>k (ahj.2 h)
theorem Nk{p:P3}[I3 p][I3 q](w:aj)(hT:bQ w A N ts)(hN:N≤300000):dK prog 17 [.slice A N cap,pt p,pt q] w (fun v _=>v=.bool (aaW ts p q)):=by
 refine⟨bP func17 (by kernel_rfl),?_⟩;have m:=Mem.refl w;have htl:=hT.len
 go_enter func17,ntmps17
 apply mR 7 [] m;simp only[↓aC];intro g1 g2 u m;rcases (show p=q∨(p≠q∧dC true ts≠0)∨(p≠q∧dC true ts=0) by by_cases h1:p=q <;> by_cases h2:dC true ts=0 <;> simp[h1,h2]) with hpq | ⟨hpq,hck⟩ | ⟨hpq,hck⟩
 ·
  refine gc ?_;refine mh m [true,true] [(0,true),(1,true),(2,true),(3,true),(4,true),(5,false),(6,true),(7,true),(8,true),(9,true),(11,true),(12,true),(10,false),(13,false),(14,true),(15,true)] aD (by kernel_rfl) (bT (fun _ _ _ _ _ h=>h)) (ol:=?_) ?hol ?_
  case hol=>simp only[zw,zQ,zR];try rfl
  intro u m;refine dF rfl (fun u m=>((m.b 1 rfl).full aH aA)) ?_;simp only[zz];refine dF rfl (fun u m=>((m.b 0 rfl).full aH aA)) ?_;simp only[zz];refine aS ((acw (iN rfl rfl) (asN hpq))) (aS aG (tU rfl (cF (rJ rfl ?_))));simp only[zz];refine aN ⟨m,?_⟩;refine tU rfl (aS (tR rfl) (aS aG (tU rfl ?_)));simp only[zz];refine tU rfl (tU rfl (cF (rJ rfl (aN ?_))));refine⟨m,?_⟩;refine cF (rJ rfl ?_);simp only[zz];refine aN ⟨m,?_⟩;refine aS (tR rfl) (aS aP (bV ?_));apply aW 1 [] m;simp only[↓aC];refine aT rfl rfl ?_;try simp only[zD,zE]
  exact⟨_,rfl,m.ext,by rw[aaW,decide_eq_false (fun h=>h hpq)];rfl⟩
 ·
  refine gc ?_;refine mh m [true,true] [(0,true),(1,true),(2,true),(3,true),(4,true),(5,false),(6,true),(7,true),(8,true),(9,true),(11,true),(12,true),(10,false),(13,false),(14,true),(15,true)] aD (by kernel_rfl) (bT (fun _ _ _ _ _ h=>h)) (ol:=?_) ?hol ?_
  case hol=>simp only[zw,zQ,zR];try rfl
  intro u m;refine dF rfl (fun u m=>((m.b 1 rfl).full aH aA)) ?_;simp only[zz];refine dF rfl (fun u m=>((m.b 0 rfl).full aH aA)) ?_;simp only[zz];refine aS ((acw (iN rfl rfl) (aoH hpq))) (aS aG (oU rfl (aS aG (cF (cN rfl ?_)))));simp only[zz];refine cM m rfl rfl (Be _ (hT.ext m.ext) (by omega)) ?_;rintro v u m rfl;refine aN ⟨m,?_⟩;refine oU rfl (aS (Yw rfl rfl hck) (aS (rL rfl) (aS aG ?_)));simp only[zz];refine tU rfl (tU rfl (tU rfl (cF (rJ rfl ?_))));simp only[zz];refine aN ⟨m,?_⟩;refine cF (rJ rfl (aN ?_));refine⟨m,?_⟩;refine aS (tR rfl) (aS aP (bV ?_));apply aW 1 [] m;simp only[↓aC];refine aT rfl rfl ?_;try simp only[zD,zE]
  exact⟨_,rfl,m.ext,by rw[aaW,decide_eq_false hck,jr];rfl⟩
 ·
  refine gc ?_;refine mh m [true,true] [(0,true),(1,true),(2,true),(3,true),(4,true),(5,false),(6,true),(7,true),(8,true),(9,true),(11,true),(12,true),(10,false),(13,false),(14,true),(15,true)] aD (by kernel_rfl) (bT (fun _ _ _ _ _ h=>h)) (ol:=?_) ?hol ?_
  case hol=>simp only[zw,zQ,zR];try rfl
  intro u m;refine dF rfl (fun u m=>((m.b 1 rfl).full aH aA)) ?_;simp only[zz];refine dF rfl (fun u m=>((m.b 0 rfl).full aH aA)) ?_;simp only[zz];refine aS ((acw (iN rfl rfl) (aoH hpq))) (aS aG (oU rfl (aS aG (cF (cN rfl ?_)))));simp only[zz];refine cM m rfl rfl (Be _ (hT.ext m.ext) (by omega)) ?_;rintro v u m rfl;refine aN ⟨m,?_⟩;refine oU rfl (aS (uT rfl rfl hck) (aS (rL rfl) (aS aG ?_)));simp only[zz];refine oU rfl (aS aG (oU rfl ?_));simp only[zz];refine dF rfl (fun u m=>((m.b 1 rfl).full aH aA)) ?_;simp only[zz];refine oU rfl (dF rfl (fun u m=>((m.b 0 rfl).full aH aA)) ?_);simp only[zz];refine cF (cN rfl (bC rfl rfl (akT _ (hT.ext m.ext) (vT hck) (by omega)) ?_));rintro v u e_ ⟨g90,ga,gf,ea,ef,ca,cf,D,F,K9,rfl,hM,hS9,hD9⟩;replace m:=m.plus hM;clear hM;simp only[cg,bt] at m;refine aN ⟨m.sel [false,true,true],?_⟩;refine cF (cN rfl ?_);simp only[zz];refine cM m rfl rfl (Ym (p:=p) (q:=q) _ (hS9 _ (m.get 0 rfl)) hD9 (hT.ext m.ext) (vT hck) (by omega)) ?_;rintro v u m rfl;refine aN ⟨m.sel [false,true,true],?_⟩;refine aS (rL rfl) (aS aP (bV ?_));apply aW 1 [] m;simp only[↓aC];refine aT rfl rfl ?_;try simp only[zD,zE]
  exact⟨_,rfl,m.ext,by rw[aaW,decide_eq_true hpq,decide_eq_true hck];rfl⟩
theorem aep{a b:List Int}(ha:a.length=10)(hb:b.length=10)(hA:Ho k a)(hB:Ho k b)(hk:k≤900000):fF prog 61 [qV a,qV b] (qV (Fw a b)):=by
 intro w;refine⟨bP func61 (by kernel_rfl),?_⟩;have m:=Mem.refl w
 go_enter func61,ntmps61
 apply mR 12 [0] m;simp only[↓aC,ai9];intro g1 g2 g3 u m;refine bX [6] [5,7,8,9,10,11,12,13,14,15,16,17,18] (fun n vs wl=>∃(i:Nat),vs=[.int .i64 (i:Int)]∧Mem w wl [bI g3 [.bool false,.string ⟨#[]⟩,.bool false,.string ⟨#[]⟩,.bool false,.string ⟨#[]⟩,.bool false,.string ⟨#[]⟩,.bool false,.string ⟨#[]⟩,.bool false,.string ⟨#[]⟩,.bool false,.string ⟨#[]⟩,.bool false,.string ⟨#[]⟩,.bool false,.string ⟨#[]⟩,.bool false,.string ⟨#[]⟩] 97,bI g2 (qC b) 97,bI g1 (qC (qP a b i)) 97]∧(i≤10)∧(n=10-i)) ?_ ?_
 ·
  exact⟨_,0,rfl,m,cq _,rfl⟩
 · intro n vs wr hI u K1 hK1
   obtain⟨i,rfl,m,hi,hn⟩:=hI;simp only[zu,zF,zG];apply aK 5 [0,0] m;simp only[↓aC];refine bA rfl ?_ ?_<;>intro hc1
   ·
    have hi:i<10:=by omega
    obtain⟨x,hx0⟩:∃x,a[i]? = some x:=⟨_,aan ha hi⟩
    obtain⟨y,hy⟩:∃y,b[i]? = some y:=⟨_,aan hb hi⟩
    have hx:=ar0 ha hb hi hx0;apply aK 8 [0] m;simp only[↓aC];refine dA m 9 aD (by kernel_rfl) ?_;simp only[zy];refine aI aG (aI aG ?_);simp only[zz];refine aI (aJ Nw aV rfl rfl (by omega) (by omega) (oT (ag _))) ?_;simp only[zz];refine ql rfl (fun u m=>(show eQ _ _ _ _ (W x) from (Dt (m.b 2 rfl) hx).lies eN aV)) ?_;simp only[zz];refine aI aG ?_;simp only[zz];refine aI (aJ Nw aV rfl rfl (by omega) (by omega) (oT (ag _))) ?_;simp only[zz];refine ql rfl (fun u m=>(show eQ _ _ _ _ (W y) from (Dt (m.b 1 rfl) hy).lies eN aV)) ?_;simp only[zz];refine jJ rfl rfl (Yf ((hA.at hx0).mono (by omega)) ((hB.at hy).mono (by omega))) ?_;simp only[zz];refine aI (aJ Nw aV rfl rfl (by omega) (by omega) (oT (ag _))) (bE ?_);intro u m;simp only[zz];refine cU m 2 rfl rfl rfl aV (by have h1:=Ds (qP a b i);have h2:=ai3 ha hb (show i≤10 by omega);simp only[ay,cd];omega) rfl ?_;intro u m;simp only[zF,zG] at m;rw[show over (qC (qP a b i)) (i*2) [.bool (gW (x+y)),.string (kX (x+y))]=qC (qP a b (i+1)) from (aal (x:=x+y) (by rw[ai3 ha hb (by omega)];omega)).trans (by rw[apv ha hb hi hx0 hy])] at m;refine aN ?_;apply aW 5 [0] m;simp only[↓aC];refine⟨by omega,?_⟩;exact hK1 (10-(i+1)) _ _ (by omega) (by kernel_rfl) ⟨i+1,rfl,m,by omega,rfl⟩
   ·
    obtain rfl:i=10:=by omega
    rw[apu ha hb] at m;apply aK 3 [0] m;simp only[↓aC];refine aR rfl (xI (m.b 2 rfl) Ae kR (by simp only[lL ha hb])) ?_;simp only[zz];refine Fj (n:=20) m 0 rfl rfl rfl (by rw[lL ha hb]) rfl kR ?_;intro u m;simp only[zF,zG] at m;apply aL 2 [] m;simp only[↓aC];exact aT rfl ⟨_,rfl,(xI (m.b 0 rfl) Ae kR (by simp only[lL ha hb]))⟩ ⟨_,rfl,m.ext,rfl⟩
theorem atJ[IT t]:fF prog 182 [tr t] (qV [t.normal.x,t.normal.y,t.normal.z,0-t.normal.x*t.a.x-t.normal.y*t.a.y-t.normal.z*t.a.z]):=by
 intro w;refine⟨bP func182 (by kernel_rfl),?_⟩;have m:=Mem.refl w
 go_enter func182,ntmps182
 apply mR 8 [1,0] m;simp only[↓aC,adT,gX];intro g1 g2 u m;refine wA m rfl rfl (Tz (t:=t)) 14 [0,0,0,0,0] ?_;simp only[↓aC,aji,apN,aaq,jZ,aje,adT,ajd,aa,ad,ah];intro g3 g4;refine⟨by omega,?_⟩;intro u m;apply aW 31 [3,3,3,4,1,0] m;simp only[↓aC,dD,kH,eR,kI,lE,yE,ad,ah,aa];refine⟨by omega,?_⟩;refine aB (jN rfl rfl) ?_;apply aL 3 [0] m;simp only[↓aC];refine dA m 10 aD (by kernel_rfl) ?_;simp only[zy];refine eT 1 [] ?_;simp only[↓aC,Mk,ad,ah,aa];refine⟨by omega,?_⟩;refine ql rfl (fun u m=>(ams ((m.b 0 rfl).lies eN aV rfl rfl))) ?_;simp only[zz];refine eT 4 [1] ?_;simp only[↓aC,aaq,jZ,ad,ah,aa];refine⟨by omega,?_⟩;refine jJ rfl rfl (qK Iw.h) ?_;simp only[zz];refine jJ rfl rfl (tK Bw.up Bw.up) ?_;simp only[zz];refine jJ rfl rfl (Gv Bw.up Bw.up) (eT 1 [] ?_);simp only[↓aC,Mk,ad,ah,aa];refine⟨by omega,?_⟩;refine bE ?_;intro u m;refine cU m 0 rfl rfl rfl aV (kG rfl) rfl ?_;intro u m;simp only[zy,zx,over,zF,zG,aa] at m;refine aN ?_;apply aW 18 [1,0] m;simp only[↓aC,am];refine⟨by omega,?_⟩;refine aB (jO rfl rfl) ?_;apply aL 3 [0] m;simp only[↓aC];refine dA m 10 aD (by kernel_rfl) ?_;simp only[zy];refine eT 6 [0,1] ?_;simp only[↓aC,Mk,jZ,aaq,ad,ah,aa];refine⟨by omega,?_⟩;refine jJ rfl rfl (qK Iw.h) ?_;simp only[zz];refine jJ rfl rfl (tK Bw.up Bw.up) ?_;simp only[zz];refine jJ rfl rfl (Gv Bw.up Bw.up) (eT 1 [] ?_);simp only[↓aC,Mk,ad,ah,aa];refine⟨by omega,?_⟩;refine bE ?_;intro u m;refine cU m 0 rfl rfl rfl aV (kG rfl) rfl ?_;intro u m;simp only[zy,zx,over,zF,zG,aa] at m;refine aN ?_;apply aW 18 [1,0] m;simp only[↓aC,am];refine⟨by omega,?_⟩;refine aB (jP rfl rfl) ?_;apply aL 3 [0] m;simp only[↓aC];refine dA m 10 aD (by kernel_rfl) ?_;simp only[zy];refine eT 6 [0,1] ?_;simp only[↓aC,Mk,jZ,aaq,ad,ah,aa];refine⟨by omega,?_⟩;refine jJ rfl rfl (qK Iw.h) ?_;simp only[zz];refine jJ rfl rfl (tK Bw.up Bw.up) ?_;simp only[zz];refine jJ rfl rfl (Gv Bw.up Bw.up) (eT 1 [] ?_);simp only[↓aC,Mk,ad,ah,aa];refine⟨by omega,?_⟩;refine bE ?_;intro u m;refine cU m 0 rfl rfl rfl aV (kG rfl) rfl ?_;intro u m;simp only[zy,zx,over,zF,zG,aa] at m;refine aN ?_;apply Wy 19 [2,0,2] m;simp only[↓aC,ajd,am,aa];refine⟨by omega,?_⟩;intro u m;exact aT rfl ⟨_,rfl,((m.b 2 rfl).full aeR Ls)⟩ ⟨_,rfl,m.ext,rfl⟩
def asO(f:FuncId)(caps:Array ai)(w0:aj)(is:List It)(k:Nat)(J:Nat→It):Prop :=
 ∀n u,n<10→Mem w0 u (is.set k (J n))→wX prog f ([.int .i64 (n:Int),.int .i64 (eI n:Int),.int .i64 (eJ n:Int)]++caps.toList) u fun _ w'=>Mem w0 w' (is.set k (J (n+1)))
theorem akW{is:List It}{f:FuncId}{caps:Array ai}{J:Nat→It}(m:Mem w0 w is)(k:Nat)(hk:is[k]? = some (J 0))(hc:asO f caps w0 is k J):Calls prog 119 [.func (.func f) #[] caps].toArray w fun e w'=>∃v i,e=.returned v∧Mem w0 w' (is.set k i)∧(v=.tuple #[]∧i=J 10):=by
 replace m:=(show Mem w0 w (is.set k (J 0)) by rw[Ry hk];exact m)
 go_enter func119,ntmps119
 apply fG 49 [5,1,5,1,0] m;simp only[↓aC];refine⟨by omega,?_⟩;refine kJ rfl rfl (hc 0 _ (by decide) m) ?_;rintro v u m;apply aL 29 [1,0] m;simp only[↓aC,am];refine⟨by omega,?_⟩;refine kJ rfl rfl (hc 1 _ (by decide) m) ?_;rintro v u m;apply aL 29 [1,0] m;simp only[↓aC,am];refine⟨by omega,?_⟩;refine kJ rfl rfl (hc 2 _ (by decide) m) ?_;rintro v u m;apply aL 29 [1,0] m;simp only[↓aC,am];refine⟨by omega,?_⟩;refine kJ rfl rfl (hc 3 _ (by decide) m) ?_;rintro v u m;apply aL 65 [2,1,4,1,0] m;simp only[↓aC,am];refine⟨by omega,?_⟩;refine kJ rfl rfl (hc 4 _ (by decide) m) ?_;rintro v u m;apply aL 29 [1,0] m;simp only[↓aC,am];refine⟨by omega,?_⟩;refine kJ rfl rfl (hc 5 _ (by decide) m) ?_;rintro v u m;apply aL 29 [1,0] m;simp only[↓aC,am];refine⟨by omega,?_⟩;refine kJ rfl rfl (hc 6 _ (by decide) m) ?_;rintro v u m;apply aL 65 [2,1,3,1,0] m;simp only[↓aC,am];refine⟨by omega,?_⟩;refine kJ rfl rfl (hc 7 _ (by decide) m) ?_;rintro v u m;apply aL 29 [1,0] m;simp only[↓aC,am];refine⟨by omega,?_⟩;refine kJ rfl rfl (hc 8 _ (by decide) m) ?_;rintro v u m;apply aL 65 [2,1,2,1,0] m;simp only[↓aC,am];refine⟨by omega,?_⟩;refine kJ rfl rfl (hc 9 _ (by decide) m) ?_;rintro v u m;apply aL 34 [2,2,0] m;simp only[↓aC,am];refine⟨by omega,?_⟩;exact Gf rfl ⟨_,J 10,rfl,m,rfl,rfl⟩
theorem asP{g3 n:Nat}{a b c d:Int}(m:Mem w0 w [bI g3 (qC (qF a b c d n)) 97,bI g5 (wC 2) 95,bI g4 (qC [a,b,c,d]) 229,K])(hn:n<10)(hp:Ho k [a,b,c,d])(hk:k≤400000):wX prog 183 [.int .i64 (n:Int),.int .i64 (eI n:Int),.int .i64 (eJ n:Int),.pointer (some ⟨g4,0,none⟩),.pointer (some ⟨g3,0,none⟩),.pointer (some ⟨g5,0,none⟩)] w fun _ w'=>Mem w0 w' [bI g3 (qC (qF a b c d (n+1))) 97,bI g5 (wC 2) 95,bI g4 (qC [a,b,c,d]) 229,K]:=by
 refine⟨bP func183 (by kernel_rfl),?_⟩;have hi:=ai4 hn;have hj:=ai5 hn;have hx:=aoa a b c d hi;have hy:=aoa a b c d hj;have hlq:=apw a b c d (show n≤10 by omega);have hpr:=adL hp rfl hn;have h2b:Bd 2 (2:Int):=by unfold Bd;decide
 go_enter func183,ntmps183
 apply fG 1 [0] m;simp only[↓aC];refine dA m 9 aD (by kernel_rfl) ?_;simp only[zy];refine aI aG (aI aG ?_);simp only[zz];refine aI (aJ underlying229 aV rfl rfl (by omega) (by omega) (oT (ag _))) ?_;simp only[zz];refine ql rfl (fun u m=>(show eQ _ _ _ _ (W ([a,b,c,d].getD (eI n) 0)) from (Dt (m.b 2 rfl) hx).lies eN aV)) ?_;simp only[zz];refine aI aG ?_;simp only[zz];refine aI (aJ underlying229 aV rfl rfl (by omega) (by omega) (oT (ag _))) ?_;simp only[zz];refine ql rfl (fun u m=>(show eQ _ _ _ _ (W ([a,b,c,d].getD (eJ n) 0)) from (Dt (m.b 2 rfl) hy).lies eN aV)) ?_;simp only[zz];refine jJ rfl rfl (tK ((hp.at hx).mono (by omega)) ((hp.at hy).mono (by omega))) ?_;simp only[zz];refine aI (aJ Nw aV rfl rfl (by omega) (by omega) (oT (ag _))) (bE ?_);intro u m;simp only[zz];refine cU m 0 rfl rfl rfl aV (by have h1:=Ds (qF a b c d n);have h2:=hlq;simp only[ay,cd];omega) rfl ?_;intro u m;simp only[zF,zG] at m;rw[show over (qC (qF a b c d n)) (n*2) [.bool (gW ([a,b,c,d].getD (eI n) 0*[a,b,c,d].getD (eJ n) 0)),.string (kX ([a,b,c,d].getD (eI n) 0*[a,b,c,d].getD (eJ n) 0))]=qC ((qF a b c d n).set n (Xk [a,b,c,d] n)) from aal (by omega)] at m;refine aN ?_;apply aW 6 [0,0] m;simp only[↓aC];refine bA rfl ?_ ?_<;>intro hc1
 ·
  have hq:((qF a b c d n).set n (Xk [a,b,c,d] n))[n]? = some (Xk [a,b,c,d] n):=by rw[jk (by omega)]
  have hst:=ai6 (a:=a) (b:=b) (c:=c) (d:=d) hn;rw[if_neg (by omega)] at hst;refine dA m 7 aD (by kernel_rfl) ?_;simp only[zy];refine aI aG (aI aG ?_);simp only[zz];refine aI (aJ Nw aV rfl rfl (by omega) (by omega) (oT (ag _))) ?_;simp only[zz];refine ql rfl (fun u m=>(show eQ _ _ _ _ (W (Xk [a,b,c,d] n)) from (Dt (m.b 0 rfl) hq).lies eN aV)) ?_;simp only[zz];refine ql rfl (fun u m=>(show eQ _ _ _ _ (W 2) from (m.b 1 rfl).lies eN aV rfl rfl)) ?_;simp only[zz];refine jJ rfl rfl (tK (hpr.mono (by omega)) (h2b.mono (by omega))) ?_;simp only[zz];refine aI (aJ Nw aV rfl rfl (by omega) (by omega) (oT (ag _))) (bE ?_);intro u m;simp only[zz];refine cU m 0 rfl rfl rfl aV (by have h1:=Ds ((qF a b c d n).set n (Xk [a,b,c,d] n));have h2:=(gv:((qF a b c d n).set n (Xk [a,b,c,d] n)).length=_);simp only[ay,cd];omega) rfl ?_;intro u m;simp only[zF,zG] at m;rw[show over (qC ((qF a b c d n).set n (Xk [a,b,c,d] n))) (n*2) [.bool (gW (Xk [a,b,c,d] n*2)),.string (kX (Xk [a,b,c,d] n*2))]=qC (((qF a b c d n).set n (Xk [a,b,c,d] n)).set n (Xk [a,b,c,d] n*2)) from aal (by rw[gv];omega)] at m;refine aN ?_;exact Gf rfl ⟨_,rfl,by rw[hst] at m;exact m⟩
 ·
  have hst:=ai6 (a:=a) (b:=b) (c:=c) (d:=d) hn;rw[if_pos (by omega),List.set_set] at hst;apply aK 1 [0] m;simp only[↓aC];exact Gf rfl ⟨_,rfl,by rw[hst] at m;exact m⟩
theorem zw0:[bm false,Value.string ⟨#[]⟩]=wC 0:=by unfold wC;rw[Ll];rfl
theorem zq0:([.bool false,.string ⟨#[]⟩,.bool false,.string ⟨#[]⟩,.bool false,.string ⟨#[]⟩,.bool false,.string ⟨#[]⟩,.bool false,.string ⟨#[]⟩,.bool false,.string ⟨#[]⟩,.bool false,.string ⟨#[]⟩,.bool false,.string ⟨#[]⟩,.bool false,.string ⟨#[]⟩,.bool false,.string ⟨#[]⟩]:List ai)=qC q0:=by unfold qC q0;simp only[List.flatMap_cons,List.flatMap_nil,←zw0];rfl
theorem zqV:(Value.agg #[.bool false,.string ⟨#[]⟩,.bool false,.string ⟨#[]⟩,.bool false,.string ⟨#[]⟩,.bool false,.string ⟨#[]⟩,.bool false,.string ⟨#[]⟩,.bool false,.string ⟨#[]⟩,.bool false,.string ⟨#[]⟩,.bool false,.string ⟨#[]⟩,.bool false,.string ⟨#[]⟩,.bool false,.string ⟨#[]⟩])=qV q0:=by unfold qV;rw[←zq0]
theorem afM{n:Int}(h1:gW n=false)(h2:kX n=⟨#[]⟩):n=0:=arE (by rw[Zh];unfold W;rw[h1,h2])
theorem atK(t:T3):0-t.normal.x*t.a.x-t.normal.y*t.a.y-t.normal.z*t.a.z = -((tH t.a t.b t.c).dot t.a):=by
 show 0-(tH t.a t.b t.c).x*t.a.x-(tH t.a t.b t.c).y*t.a.y-(tH t.a t.b t.c).z*t.a.z=_
 generalize tH t.a t.b t.c=n;unfold P3.dot
 grind
theorem aeq(t:T3):qPr t.normal.x t.normal.y t.normal.z (0-t.normal.x*t.a.x-t.normal.y*t.a.y-t.normal.z*t.a.z)=qOf t:=by rw[atK];rfl
theorem aoI[IT t]:Ho 300 [t.normal.x,t.normal.y,t.normal.z,0-t.normal.x*t.a.x-t.normal.y*t.a.y-t.normal.z*t.a.z]:=fun x hx=>by
 simp only[an,cl,or_false] at hx;rcases hx with rfl | rfl | rfl | rfl
 · exact (Bw.up:Bd 300 t.normal.x)
 · exact (Bw.up:Bd 300 t.normal.y)
 · exact (Bw.up:Bd 300 t.normal.z)
 · exact (Bw.up:Bd 300 (0-t.normal.x*t.a.x-t.normal.y*t.a.y-t.normal.z*t.a.z))
theorem akX[IT t]:Ho 602 (qOf t):=by rw[←aeq];exact ar2 aoI
theorem xA(t:T3):(qOf t).length=10:=rfl
theorem asQ:Ho 1 q0:=fun x hx=>by
 simp only[q0,an,cl,or_false] at hx;rcases hx with rfl | rfl | rfl | rfl | rfl | rfl | rfl | rfl | rfl | rfl <;> (unfold Bd;decide)
theorem Kv{p:P3}(h:ts[k]? = some t):sV (ts.take (k+1)) p=if t.has p then Fw (sV (ts.take k) p) (qOf t) else sV (ts.take k) p:=by
 unfold sV;rw[bY h,ij,List.foldl_append];cases hh:t.has p <;> simp[hh]
theorem Bk{ts:List T3}{p:P3}:∀k,k≤ts.length→(sV (ts.take k) p).length=10
 | 0,_=>rfl
 | k+1,hk=>by
  rw[Kv (ak (by omega))];split
  · exact lL (Bk k (by omega)) (xA _)
  · exact Bk k (by omega)
theorem aaX{ts:List T3}{p:P3}(hI:∀t∈ts,IT t):∀k,k≤ts.length→Ho (602+k) (sV (ts.take k) p)
 | 0,_=>asQ.mono (by omega)
 | k+1,hk=>by
  rw[Kv (ak (by omega))];split
  · haveI:=hI _ (List.getElem_mem (by omega:k<ts.length))
    exact Px (aaX hI k (by omega)) (akX.mono (by show 602≤602+k;omega))
  · exact (aaX hI k (by omega)).mono (by omega)
theorem asR[IT t]:fF prog 117 [tr t] (qV (qOf t)):=by
 intro w;refine⟨bP func117 (by kernel_rfl),?_⟩;have m:=Mem.refl w
 go_enter func117,ntmps117
 apply mR 12 [2,0] m;simp only[↓aC,ai9,gX];intro g1 g2 g3 u m;refine wA m rfl rfl (atJ (t:=t)) 1 [0] ?_;simp only[↓aC,adT];intro g4 u m;refine Fj (n:=8) m 0 rfl rfl rfl rfl rfl Ls ?_;intro u m;simp only[zF,zG] at m;apply aL 4 [0] m;simp only[↓aC];refine aR rfl (xI (m.b 0 rfl) aeR Ls rfl) ?_;simp only[zz];apply aL 1 [0] m;simp only[↓aC,aje,aa];refine aB (adk rfl rfl) ?_;apply aL 1 [0] m;simp only[↓aC];refine bA rfl ?_ ?_<;>intro hc1
 ·
  apply aK 1 [] m;simp only[↓aC];rw[zq0] at m;apply aW 1 [0] m;simp only[↓aC];refine aR rfl (xI (m.b 1 rfl) Ae kR (by first | rw[xA] | rfl)) ?_;simp only[zz];refine Fj (n:=20) m 2 rfl rfl rfl rfl rfl kR ?_;intro u m;simp only[zF,zG] at m;apply aL 2 [] m;simp only[↓aC];refine aT rfl ⟨_,rfl,(xI (m.b 2 rfl) Ae kR (by first | rw[xA] | rfl))⟩ ?_;try simp only[zD,zE]
  exact⟨_,rfl,m.ext,by rw[←aeq,afM hc1.2.2.2.2.2.2.1 hc1.2.2.2.2.2.2.2,afM hc1.1 hc1.2.1,afM hc1.2.2.1 hc1.2.2.2.1,afM hc1.2.2.2.2.1 hc1.2.2.2.2.2.1];rfl⟩
 ·
  apply aK 3 [0] m;simp only[↓aC];refine wA m rfl rfl (qK (n:=2) (by constructor <;> decide)) 4 [0] ?_;simp only[↓aC,vN,jZ,aa];intro g5 u m;rw[zq0] at m;apply aW 1 [0] m;simp only[↓aC];refine aB gQ ?_;simp only[zz,gm,bp,dt];replace m:=m.pull 1 rfl;simp only[dM,dN,zF,zG] at m;replace m:=m.pull 1 rfl;simp only[dM,dN,zF,zG] at m;replace m:=m.pull 2 rfl;simp only[dM,dN,zF,zG] at m;replace m:=m.pack3;refine mM m 0 ah9 rfl rfl (fun m=>akW (J:=fun n=>bI g3 (qC (qF t.normal.x t.normal.y t.normal.z (0-t.normal.x*t.a.x-t.normal.y*t.a.y-t.normal.z*t.a.z) n)) 97) m 0 rfl (fun n u hn mu=>asP (k:=300) mu hn aoI (by decide))) ?_;rintro v i u m ⟨rfl,rfl⟩;simp only[zF,zG] at m;simp only[zz];replace m:=m.unpack3;rw[ar1,aeq] at m;apply aL 3 [0] m;simp only[↓aC];refine aR rfl (xI (m.b 0 rfl) Ae kR (by first | rw[xA] | rfl)) ?_;simp only[zz];refine Fj (n:=20) m 3 rfl rfl rfl (by rw[xA]) rfl kR ?_;intro u m;simp only[zF,zG] at m;apply aL 2 [] m;simp only[↓aC];exact aT rfl ⟨_,rfl,(xI (m.b 3 rfl) Ae kR (by first | rw[xA] | rfl))⟩ ⟨_,rfl,m.ext,rfl⟩
theorem asS{g1 n:Nat}{q x:List Int}(m:Mem w0 w [bI g5 (wC (atS q x n)) 95,bI g4 (qC x) 168,bI g1 (qC q) 97,K])(hn:n<10)(hq:Ho k q)(hl:q.length=10)(hx:Ho 64 x)(hxl:x.length=4)(hk:k≤900000):wX prog 120 [.int .i64 (n:Int),.int .i64 (eI n:Int),.int .i64 (eJ n:Int),.pointer (some ⟨g5,0,none⟩),.pointer (some ⟨g1,0,none⟩),.pointer (some ⟨g4,0,none⟩)] w fun _ w'=>Mem w0 w' [bI g5 (wC (atS q x (n+1))) 95,bI g4 (qC x) 168,bI g1 (qC q) 97,K]:=by
 refine⟨bP func120 (by kernel_rfl),?_⟩;have hi:=ai4 hn;have hj:=ai5 hn;have hx1:x[eI n]? = some (x.getD (eI n) 0):=by rw[ej,ak (by omega:eI n<x.length)];rfl
 have hx2:x[eJ n]? = some (x.getD (eJ n) 0):=by rw[ej,ak (by omega:eJ n<x.length)];rfl
 have hq1:=aan hl hn;have hp1:Bd 128 (x.getD (eI n) 0*x.getD (eJ n) 0):=adL hx hxl hn;have hs1:=adM hq hl hx hxl n (by omega);have hm1:=(hq.at hq1).mul hp1
 go_enter func120,ntmps120
 refine g0 ?_;refine dA m 13 aD (by kernel_rfl) ?_;simp only[zy];refine ql rfl (fun u m=>(show eQ _ _ _ _ (W (atS q x n)) from (m.b 0 rfl).lies eN aV rfl rfl)) ?_;simp only[zz];refine aI aG ?_;simp only[zz];refine aI (aJ Nw aV rfl rfl (by omega) (by omega) (oT (ag _))) ?_;simp only[zz];refine ql rfl (fun u m=>(show eQ _ _ _ _ (W (q.getD n 0)) from (Dt (m.b 2 rfl) hq1).lies eN aV)) ?_;simp only[zz];refine aI aG ?_;simp only[zz];refine aI (aJ underlying168 aV rfl rfl (by omega) (by omega) (oT (ag _))) ?_;simp only[zz];refine ql rfl (fun u m=>(show eQ _ _ _ _ (W (x.getD (eI n) 0)) from (Dt (m.b 1 rfl) hx1).lies eN aV)) ?_;simp only[zz];refine aI aG ?_;simp only[zz];refine aI (aJ underlying168 aV rfl rfl (by omega) (by omega) (oT (ag _))) ?_;simp only[zz];refine ql rfl (fun u m=>(show eQ _ _ _ _ (W (x.getD (eJ n) 0)) from (Dt (m.b 1 rfl) hx2).lies eN aV)) ?_;simp only[zz];refine jJ rfl rfl (tK ((hx.at hx1).mono (by omega)) ((hx.at hx2).mono (by omega))) ?_;simp only[zz];refine jJ rfl rfl (tK ((hq.at hq1).mono (by omega)) (hp1.mono (by omega))) ?_;simp only[zz];refine jJ rfl rfl (Yf (hs1.mono (by omega)) (hm1.mono (by omega))) (bE ?_);intro u m;simp only[zz];refine cU m 0 rfl rfl rfl aV (by simp[wC]) rfl ?_;intro u m;simp only[zF,zG] at m;rw[abO (by rfl)] at m;exact aN (Gf rfl ⟨_,rfl,m⟩)
theorem asT{q:List Int}{p:P3}[I3 p](hq:Ho k q)(hl:q.length=10)(hk:k≤900000):fF prog 60 [qV q,pt p] (W (qAt q p)):=by
 intro w;refine⟨bP func60 (by kernel_rfl),?_⟩;have m:=Mem.refl w
 go_enter func60,ntmps60
 apply mR 7 [0] m;simp only[↓aC,vN];intro g1 g2 g3 u m;refine sO 12 [0,1,2,3,4,5,6,7,8,9,10] [⟨11,5,168,[.bool false,.string ⟨#[]⟩,.bool false,.string ⟨#[]⟩,.bool false,.string ⟨#[]⟩,.bool false,.string ⟨#[]⟩]⟩] aD (by kernel_rfl) (al1 ⟨_,_,_,rfl,by kernel_rfl,_,abt,rfl⟩) (ol:=?_) ?hol ?_
 case hol=>simp only[zw,zQ,zR];try rfl
 intro u e_;replace m:=m.ext' e_;refine lS (bH (c:=0) vC rfl bD rfl rfl) ?_;simp only[zz];refine pT rfl (fun u e=>(((m.ext' e).b 1 rfl).lies1 cC rfl)) ?_;simp only[zz];refine Ex rfl rfl (qK Iw.h) (lS (bH (c:=0) vC rfl bD rfl rfl) ?_);simp only[zz];refine pT rfl (fun u e=>(((m.ext' e).b 1 rfl).lies1 cC rfl)) ?_;simp only[zz];refine Ex rfl rfl (qK Iw.h) (lS (bH (c:=0) vC rfl bD rfl rfl) ?_);simp only[zz];refine pT rfl (fun u e=>(((m.ext' e).b 1 rfl).lies1 cC rfl)) ?_;simp only[zz];refine Ex rfl rfl (qK Iw.h) ?_;simp only[zz];refine Ex rfl rfl (qK (n:=1) (by constructor <;> decide)) (lS (Fu rfl rfl rfl rfl) (ahU ?_));simp only[zz];refine mf1 m ?_;intro g4 u m;simp only[zJ,zK,zF,zG];refine cU m 0 rfl rfl rfl agd (kG rfl) rfl ?_;intro u m;simp only[zy,zx,over,zF,zG,aa] at m;refine aN ?_;apply Wy 5 [] m;simp only[↓aC,vN];intro g5 u m;rw[zw0] at m;apply aW 1 [0] m;simp only[↓aC];refine aB gQ ?_;simp only[zz,gm,bp,dt];replace m:=m.pull 4 rfl;simp only[dM,dN,zF,zG] at m;replace m:=m.pull 2 rfl;simp only[dM,dN,zF,zG] at m;replace m:=m.pull 2 rfl;simp only[dM,dN,zF,zG] at m;replace m:=m.pack3;refine mM m 0 ah9 rfl rfl (fun m=>akW (J:=fun n=>bI g5 (wC (atS q [p.x,p.y,p.z,1] n)) 95) m 0 rfl (fun n u hn mu=>asS mu hn hq hl (bd4 inferInstance) rfl hk)) ?_;rintro v i u m ⟨rfl,rfl⟩;simp only[zF,zG] at m;simp only[zz];replace m:=m.unpack3;rw[ai7 hl] at m;apply kP 7 [0,3] m;simp only[↓aC,jZ,aa];intro u m;exact aT rfl ⟨_,rfl,((m.b 3 rfl).full eN aV)⟩ ⟨_,rfl,m.ext,rfl⟩
theorem aoJ{x:P3}:(decide (t.a.x=x.x∧t.a.y=x.y∧t.a.z=x.z)||decide (t.b.x=x.x∧t.b.y=x.y∧t.b.z=x.z)||decide (t.c.x=x.x∧t.c.y=x.y∧t.c.z=x.z))=t.has x:=by
 have e:∀p q:P3,(p.x=q.x∧p.y=q.y∧p.z=q.z)↔q=p:=fun p q=>⟨fun h=>(P3.eq h.1 h.2.1 h.2.2).symm,fun h=>by rw[h];exact⟨rfl,rfl,rfl⟩⟩
 rw[jg,jQ];simp only[gg,decide_eq_true_eq,e,or_assoc]
theorem aq8{p:P3}(w:aj)(hT:bQ w A N ts)(hN:N≤800000):dK prog 58 [.slice A N cap,pt p] w (fun v _=>v=qV (sV ts p)):=by
 refine⟨bP func58 (by kernel_rfl),?_⟩;have m:=Mem.refl w;have htl:=hT.len
 go_enter func58,ntmps58
 apply mR 17 [0] m;simp only[↓aC,ai9,eV];intro g1 g2 g3 u m;refine bX [10] [7,11,12,13,14,15,16,17,18,19,20,21,22,23,24,25,26,27,28,29,30,31,32,33,34] (fun n vs wl=>∃(k:Nat),vs=[.int .i64 (k:Int)]∧Mem w wl [bI g3 (qC (sV (ts.take k) p)) 97,bI g2 [.bool false,.string ⟨#[]⟩,.bool false,.string ⟨#[]⟩,.bool false,.string ⟨#[]⟩,.bool false,.string ⟨#[]⟩,.bool false,.string ⟨#[]⟩,.bool false,.string ⟨#[]⟩,.bool false,.string ⟨#[]⟩,.bool false,.string ⟨#[]⟩,.bool false,.string ⟨#[]⟩,.bool false,.string ⟨#[]⟩] 97,bI g1 [.int .i64 p.x,.int .i64 p.y,.int .i64 p.z] 30]∧(k≤N)∧(n=N-k)) ?_ ?_
 · rw[show ([.bool false,.string ⟨#[]⟩,.bool false,.string ⟨#[]⟩,.bool false,.string ⟨#[]⟩,.bool false,.string ⟨#[]⟩,.bool false,.string ⟨#[]⟩,.bool false,.string ⟨#[]⟩,.bool false,.string ⟨#[]⟩,.bool false,.string ⟨#[]⟩,.bool false,.string ⟨#[]⟩,.bool false,.string ⟨#[]⟩]:List ai)=qC (sV (ts.take 0) p) from zq0] at m
   exact⟨_,0,rfl,m,cq _,rfl⟩
 · intro n vs wr hI u K1 hK1
   obtain⟨k,rfl,m,hk,hn⟩:=hI;simp only[zu,zF,zG];apply aK 5 [0,0] m;simp only[↓aC];refine bA rfl ?_ ?_<;>intro hc1
   ·
    obtain⟨t,ht,hti,a,rfl,hrow⟩:=hT.get (i:=k) (by omega);have hql:=Bk (ts:=ts) (p:=p) k (by omega);have hqb:=aaX (p:=p) hT.it k (by omega);apply aK 5 [0] m;simp only[↓aC];refine aB (aF bL aO rfl rfl (by omega) (by omega) (cH (ag _))) ?_;simp only[zz];refine aR rfl ((hrow.ext m.ext).lies cK aO) ?_;simp only[zz];apply kP 8 [0,0,3,0] m;simp only[↓aC,nC,gX,dD,aU,aa,ad,ah];intro g4;refine⟨by omega,?_⟩;intro u m;refine aB (bZ rfl rfl) ?_;apply aL 1 [0] m;simp only[↓aC];refine dG rfl (fun hb=>aJ cT aA rfl rfl (by decide) (by decide) rfl) ?_;simp only[zz];refine eY rfl (fun hb=>aZ (bB hb rfl) ((m.b 0 rfl).lies aH aA rfl rfl)) ?_;simp only[zz,zy,ar,aa,ah,ad];refine eY rfl (fun hb=>aZ rfl ((m.b 3 rfl).full aH aA)) (dG rfl (fun hb=>bZ (bB hb rfl) (bB hb rfl)) (aB (eD rfl rfl rfl) ?_));apply aL 1 [0] m;simp only[↓aC];refine dG rfl (fun hb=>aJ cT aA rfl rfl (by decide) (by decide) rfl) ?_;simp only[zz];refine eY rfl (fun hb=>aZ (bB hb rfl) ((m.b 0 rfl).lies aH aA rfl rfl)) ?_;simp only[zz,zy,ar,aa,ah,ad];refine eY rfl (fun hb=>aZ rfl ((m.b 3 rfl).full aH aA)) (dG rfl (fun hb=>bZ (bB hb rfl) (bB hb rfl)) (aB (eD rfl rfl rfl) ?_));apply aL 1 [0] m;simp only[↓aC];refine eG rfl ?_ ?_<;>intro hc2
    ·
     rw[aoJ] at hc2;have hst:=Kv (p:=p) ht;rw[if_pos hc2] at hst;refine dA m 4 aD (by kernel_rfl) ?_;simp only[zy];refine ql rfl (fun u m=>(xI (m.b 1 rfl) Ae kR (by first | rw[hqN] | rw[Bk _ (by omega)]))) ?_;simp only[zz];refine ql rfl (fun u m=>((m.b 0 rfl).full cK aO)) ?_;simp only[zz];refine jJ rfl rfl (asR (t:=t)) ?_;simp only[zz];refine jJ rfl rfl (aep hql (xA t) hqb (akX.mono (by omega)) (by omega)) (bE ?_);intro u m;simp only[zz];refine Fj (n:=20) m 1 rfl rfl rfl (by rw[lL hql (xA t)]) (by rw[Ds,hql]) kR ?_;intro u m;simp only[zF,zG] at m;refine aN ?_;apply aW 5 [0] m;simp only[↓aC];refine⟨by omega,?_⟩;rw[←hst] at m;exact hK1 (N-(k+1)) _ _ (by omega) (by kernel_rfl) ⟨k+1,rfl,(m.sel [false,true,true,true]),by omega,rfl⟩
    ·
     rw[aoJ] at hc2;have hst:=Kv (p:=p) ht;rw[if_neg (by rw[hc2];exact Bool.false_ne_true)] at hst;apply aK 6 [0] m;simp only[↓aC];refine⟨by omega,?_⟩;rw[←hst] at m;exact hK1 (N-(k+1)) _ _ (by omega) (by kernel_rfl) ⟨k+1,rfl,(m.sel [false,true,true,true]),by omega,rfl⟩
   ·
    obtain rfl:N=k:=by omega
    rw[show ts.take N=ts from bi (by omega)] at m;have hqN:(sV ts p).length=10:=by have:=Bk (ts:=ts) (p:=p) N (by omega);rwa [bi (by omega)] at this
    apply aK 3 [0] m;simp only[↓aC];refine aR rfl (xI (m.b 0 rfl) Ae kR (by first | rw[hqN] | rw[Bk _ (by omega)])) ?_;simp only[zz];refine Fj (n:=20) m 1 rfl rfl rfl (by rw[hqN]) rfl kR ?_;intro u m;simp only[zF,zG] at m;apply aL 2 [] m;simp only[↓aC];exact aT rfl ⟨_,rfl,(xI (m.b 1 rfl) Ae kR (by rw[hqN]))⟩ ⟨_,rfl,m.ext,rfl⟩
end Go.Proofs.YtfekpcimgncioaaGreatDoor
set_option linter.unusedSectionVars false
namespace Go.Lith
open Go
variable{P:bv}{w:aj}{α:Type}{d:Nat}{m m':Machine}
theorem aer{at_:Addr}{u:av}{k:Addr}{v:ai}{b:Bool}{r:aj × List Addr}(h:w.viewStore P at_ u k v b=.ok r):r.1.drawn=w.drawn:=by
 unfold World.viewStore at h;simp only[bind,Except.bind,pure,Except.pure,throw] at h
 repeat' split at h
 all_goals first | (cases h;done) | (cases h;rfl) | skip
theorem ahk{x:Addr}{v:ai}{b:Bool}{r:aj × List Addr}(h:w.farStore P x v b=.ok r):r.1.drawn=w.drawn:=by
 unfold World.farStore at h;split at h
 · split at h
   · rename_i hv
     cases h;exact aer hv
   · cases h
 · cases h
theorem aaY(w:aj)(x:Addr)(n:Nat):(w.freeze x n).drawn=w.drawn:=by
 unfold World.freeze;split <;> rfl
theorem ahl(s:Ask α):∀w:aj,w.drawn≤(w.ask s).2.drawn:=by
 induction s with
 | done a=>intro w;exact ao _
 | ask what range k ih =>
  intro w;simp only[World.ask];split
  · exact ih _ w
  · exact be (qg _) (ih _ { w with drawn:=w.drawn+1 })
theorem ahm(w:aj)(c:Sys):w.drawn≤(w.sys c).2.drawn:=by
 have h:=ahl (Kernel.perform c w.os) w;unfold World.sys;split
 · exact ao _
 · rename_i e
   rw[e] at h;exact h
def okR{α:Type}(d:Nat):Result α→Prop
 | .ok _ w=>d≤w.drawn
 | .halt _ w=>d≤w.drawn
theorem okR.mono{α:Type}{d e:Nat}(h:e≤d):∀{r:Result α},okR d r→okR e r
 | .ok _ _,k=>be h k
 | .halt _ _,k=>be h k
theorem Qn(s:Sem α):∀w:aj,okR w.drawn (s.run P w):=by
 induction s with
 | pure _=>intro w;exact ao _
 | load m x k ih =>
  intro w;simp only[Sem.run];split
  · exact ih _ _
  · split
    · exact ih _ _
    · exact ao _
 | store m x v k ih =>
  intro w;have key:okR w.drawn (match w.cell? x with
   | some _=>if w.frozen? x then Result.halt (.unsupported (.unsafePointer "a write to bytes that a string shares")) w else k.run P (w.setCell x v)
   | none=>match w.farStore P x v (m == Mode.atomic) with
    | .ok (w,_)=>k.run P w
    | .error h=>.halt h w):=by
   split
   · split
     · exact ao _
     · exact ih (w.setCell x v)
   · split
     · rename_i hf
       exact okR.mono (Nat.le_of_eq (ahk hf).symm) (ih _)
     · exact ao _
  cases v <;> simp only[Sem.run] <;> first | exact ao _ | exact key
 | new o k ih=>intro w;exact ih _ { w with heap:=w.heap.push o }
 | shape r k ih=>intro w;exact ih _ _
 | freeze x n k ih=>intro w;exact okR.mono (Nat.le_of_eq (aaY w x n).symm) (ih _)
 | frozen x k ih=>intro w;exact ih _ _
 | getObj r k ih =>
  intro w;simp only[Sem.run];split
  · exact ao _
  · exact ih _ _
  · exact ao _
 | setObj r o k ih =>
  intro w;simp only[Sem.run];split
  · exact ao _
  · exact ih { w with heap:=w.heap.setIfInBounds r o }
  · exact ao _
 | choose q k ih =>
  intro w;simp only[Sem.run];split
  · exact ih _ _
  · exact okR.mono (qg _) (ih _ { w with drawn:=w.drawn+1 })
 | sys c k ih=>intro w;exact okR.mono (ahm w c) (ih _ _)
 | program k ih=>intro w;exact ih _ _
 | mark m k ih=>intro w;exact ih _
 | halt x=>intro w;exact ao _
theorem acx{s:Sem α}{es:Array Event}{r:Result α}{es':Array Event}(h:s.runT P w es=(r,es')):okR w.drawn r:=by
 have:=Sem.runT_fst P s w es;rw[h] at this;rw[show r=s.run P w from this];exact Qn s w
theorem iG{s:Sem α}{r:Result α}(h:s.run P w=r):okR w.drawn r:=h▸Qn s w
theorem oR{s:Sem α}{es:Array Event}{r:Result α}(h:(s.runT P w es).1=r):okR w.drawn r:=by
 rw[Sem.runT_fst] at h;exact iG h
def okG(d:Nat):GStep→Prop
 | .go _ w _ | .comm _ _ _ _ w _ | .spawn _ _ w _ | .count _ w _ | .timer _ _ w _ | .alone _ _ w _ | .newcoro _ _ _ w _ | .coroswitch _ _ _ w _ | .collect _ w _ | .watch _ w _=>d≤w.drawn
 | .ended _ _ _=>True
theorem yR{es:Array Event}{g:GStep}(h:okG d g):okG d (g.after es):=by cases g <;> exact h
theorem anG{α:Type}{d:Nat}{x:GStep}{f:α→GStep}(h1:okG d x)(h2:∀a,okG d (f a)):∀o:Option α,okG d (o.elim x f)
 | none=>h1
 | some a=>h2 a
section
variable {P:bv} {d:Nat} {w:aj} (hw:d≤w.drawn)
include hw
theorem aes(fd:Nat)(t:ByteArray)(o:Outcome):okG d (endWith w fd t o):=by
 unfold endWith;dsimp only
 repeat' split
 all_goals trivial
theorem Uk(fr:Frame)(cs:List Frame)(dy:Option Dying)(m:String):okG d (endFatal P fr cs dy m w):=by
 unfold endFatal;dsimp only;split
 · rename_i h
   exact be hw (iG h)
 · trivial
 · trivial
theorem Pa(fr:Frame)(v:ai):okG d (endPrinting P fr v w):=by
 unfold endPrinting;dsimp only;split
 · exact hw
 · trivial
theorem Nl(main:Bool)(fr:Frame)(cs:List Frame)(dy:Option Dying)(v:ai):okG d (doReturn P main fr cs dy v w):=by
 unfold doReturn
 repeat' (first | exact hw | trivial | split)
theorem acy(fr:Frame)(cs:List Frame)(dy:Option Dying)(g:Nat):okG d (early P fr cs dy g w):=by
 have n:∀w:aj,d≤w.drawn→okG d (match w.heap[g]? with
  | some (.pending c elem)=>GStep.go { frame:=fr,callers:=cs,status:=.running,dying:=dy } { w with heap:=w.heap.setIfInBounds g (.cells c elem) }
  | _=>.ended (.stuck "early: the variable does not wait" (fr.pos P)) w):=fun w hw=>by
  split
  · exact hw
  · trivial
 unfold early;dsimp only
 repeat' (first | exact n _ hw | exact hw | trivial | exact be hw (iG (r:=.ok _ _) (by assumption)) | (rename_i w1 h1 x1 c1 e1 h2;exact be hw (iG h1)) | split)
theorem Ul(b:Bool)(fr:Frame)(cs:List Frame)(dy:Option Dying)(s:Sem Next):okG d (stepG.apply P b fr cs dy s w):=by
 unfold stepG.apply;dsimp only;have hr:okR w.drawn (if b=true then s.runT P w #[] else (s.run P w,#[])).1:=by
  split
  · rw[Sem.runT_fst];exact Qn s w
  · exact Qn s w
 generalize (if b=true then s.runT P w #[] else (s.run P w,#[]))=r at hr;obtain⟨r,es⟩:=r;refine yR ?_;cases r with
 | ok n u =>
  have hu:d≤u.drawn:=be hw hr;cases n
  all_goals dsimp only
  all_goals repeat' (first | exact hu | trivial | exact throw_ok hu _ _ | split)
 | halt x u =>
  have hu:d≤u.drawn:=be hw hr;cases x
  all_goals dsimp only
  all_goals repeat' (first | exact hu | trivial | exact throw_ok hu _ _ | exact Uk hu _ _ _ _ | exact acy hu _ _ _ _ | (rename_i e;cases e;done) | (rename_i e;cases e;exact hu) | (rename_i e;cases e;exact Uk hu _ _ _ _) | (rename_i e;cases e;exact acy hu _ _ _ _) | split)
theorem anH(b:Bool)(fr:Frame)(cs:List Frame)(dy:Option Dying):okG d (stepG.oper P b fr cs dy w):=by
 unfold stepG.oper
 repeat' (first | trivial | exact Ul hw _ _ _ _ _ | split)
theorem anI(main b:Bool)(fr:Frame)(cs:List Frame)(dy:Option Dying):okG d (stepG.exec P main b fr cs dy w):=by
 unfold stepG.exec;dsimp only
 repeat' (first | exact hw | trivial | exact Ul hw _ _ _ _ _ | exact anH hw _ _ _ _ | (with_reducible refine yR ?_) | exact be hw (oR (r:=.ok _ _) (by assumption)) | exact be hw (oR (r:=.halt _ _) (by assumption)) | exact be hw (iG (r:=.ok _ _) (by assumption)) | exact Nl (be hw (oR (r:=.ok _ _) (by assumption))) _ _ _ _ _ | exact Ul (be hw (oR (r:=.ok _ _) (by assumption))) _ _ _ _ _ | refine anG ?_ (fun _=>?_) _ | split)
theorem acz(fr:Frame)(cs:List Frame)(dy:Option Dying)(x:Deferred):okG d (callDeferred P fr cs dy x w):=by
 unfold callDeferred;dsimp only
 repeat' (first | exact hw | trivial | (with_reducible refine yR ?_) | exact be hw (oR (r:=.ok _ _) (by assumption)) | exact be hw (oR (r:=.halt _ _) (by assumption)) | exact throw_ok (be hw (oR (r:=.halt _ _) (by assumption))) _ _ | exact Uk (be hw (oR (r:=.halt _ _) (by assumption))) _ _ _ _ | split)
theorem aho(main:Bool)(fr:Frame)(cs:List Frame)(dy:Option Dying):okG d (unwind P main fr cs dy w):=by
 unfold unwind;dsimp only
 repeat' (first | exact hw | trivial | (with_reducible refine yR ?_) | exact acz hw _ _ _ _ | exact Nl hw _ _ _ _ _ | exact Pa hw _ _ | exact be hw (oR (r:=.ok _ _) (by assumption)) | exact be hw (iG (r:=.ok _ _) (by assumption)) | exact Nl (be hw (oR (r:=.ok _ _) (by assumption))) _ _ _ _ _ | split)
theorem aet(fr:Frame)(x:Dying)(f:Fatal):okG d (writeOn P fr x f w):=by
 unfold writeOn;dsimp only
 repeat' (first | exact hw | trivial | exact be hw (acx (r:=.ok _ _) (by assumption)) | exact be hw (acx (r:=.halt _ _) (by assumption)) | split)
theorem aq9(fr:Frame)(x:Dying):okG d (die P fr x w):=by
 unfold die;dsimp only
 repeat' (first | exact hw | trivial | (with_reducible refine yR ?_) | exact aet hw _ _ _ | exact aes hw _ _ _ | exact be hw (oR (r:=.ok _ _) (by assumption)) | exact be hw (iG (r:=.ok _ _) (by assumption)) | exact Pa (be hw (oR (r:=.halt _ _) (by assumption))) _ _ | split)
theorem akY(main:Bool)(g:Goroutine)(b:Bool):okG d (stepG P main g w b):=by
 unfold stepG;dsimp only
 repeat' (first | exact aq9 hw _ _ | exact anI hw _ _ _ _ _ | exact aho hw _ _ _ _ | split)
end
def okS(d:Nat):Stepped→Prop
 | .next m=>d≤m.world.drawn
 | _=>True
section
variable {P:bv} {d:Nat} {w:aj} (hw:d≤w.drawn)
include hw
theorem aeu{rest:Rest}{cases:Array CommCase}{u:aj}(h:waitingAt rest cases w=some u):d≤u.drawn:=by
 unfold waitingAt at h;split at h
 · split at h
   · cases h;exact hw
   · cases h
 · cases h;exact hw
theorem anJ(rest:Rest)(gs:Array Goroutine)(i:Nat)(g:Goroutine)(cases:Array CommCase)(bl:Bool)(sh:CommShape):okS d (communicate P rest gs i g cases bl sh w).1:=by
 unfold communicate;dsimp only
 repeat' (first | exact hw | trivial | exact aeu hw (by assumption) | split)
 all_goals dsimp only[okS]
 all_goals first | exact be hw (iG (r:=.ok _ _) (by assumption)) | exact be (be hw (iG (r:=.ok _ _) (by assumption))) (iG (r:=.ok _ _) (by assumption)) | exact be (be hw (iG (r:=.ok _ _) (by assumption))) (iG (r:=.halt _ _) (by assumption))
theorem afN(gs:Array Goroutine)(rest:Rest):okS d (look P gs rest w):=by
 unfold look;dsimp only
 repeat' (first | exact hw | trivial | split)
 all_goals dsimp only[okS]
 all_goals exact be hw (iG (r:=.ok _ _) (by assumption))
end
theorem akZ(m:Machine)(k:Nat):okS m.world.drawn (serve P m k):=by
 unfold serve;dsimp only
 repeat' (first | exact ao _ | trivial | split)
theorem Yn(m:Machine)(k:Nat)(t:Timer)(a b:Nat):m.world.drawn≤(retime m k t a b).2.world.drawn:=by
 unfold retime;dsimp only;split
 · unfold drain
   split <;> exact ao _
 · exact ao _
theorem acA{v:ai}{var:Addr}{f:Nat→Timer→ai × Machine}(hf:∀k t,m.world.drawn≤(f k t).2.world.drawn){m0:Machine}(h:timerOp.named m0 var f=.ok (v,m')):m.world.drawn≤m'.world.drawn:=by
 unfold timerOp.named at h;split at h
 · rename_i k _
   have:=hf k (m0.rest.timers.getD k default);cases hh:f k (m0.rest.timers.getD k default) with
   | mk a b =>
    rw[hh] at h this;cases h;exact this
 · cases h
theorem aev{op:TimerOp}{v:ai}(h:timerOp m op=.ok (v,m')):m.world.drawn≤m'.world.drawn:=by
 unfold timerOp at h;cases op with
 | new t =>
  dsimp only at h
  repeat' (first | (cases h;done) | (cases h;exact ao _) | split at h)
 | stop var=>exact acA (fun k t=>Yn m k t _ _) h
 | reset var when period =>
  dsimp only at h;split at h
  · rename_i m1 hm
    have h1:m.world.drawn≤m1.world.drawn:=by
     unfold timerOp.opened at hm
     repeat' (first | (cases hm;done) | (cases hm;exact ao _) | split at hm)
    exact acA (fun k t=>be h1 (Yn m1 k t _ _)) h
  · cases h
 | deadline ctx read write when=>cases h;exact ao _
theorem ara(P:bv)(m:Machine)(i:Nat)(b:Bool):okS m.world.drawn (runT P m i b).1:=by
 unfold runT;dsimp only;have h:=akY (P:=P) (ao m.world.drawn) (i == 0) (m.gs.swapAt! i { (default:Goroutine) with status:=.finished }).1 b;generalize stepG P (i == 0) (m.gs.swapAt! i { (default:Goroutine) with status:=.finished }).1 m.world b=s at h;cases s
 all_goals dsimp only
 all_goals repeat' (first | exact h | trivial | exact anJ h _ _ _ _ _ _ _ | exact afN h _ _ | split)
 all_goals exact be h (aev (by assumption))
def okM(d:Nat):Move→Prop
 | .goroutine m _=>d≤m.world.drawn
 | .machine s _=>okS d s
theorem okS.mono{d e:Nat}(h:e≤d):∀{s:Stepped},okS d s→okS e s
 | .next _,k=>be h k
 | .ended _ _,_=>trivial
theorem aa0{P:bv}{d:Nat}(rs:List Nat)(m:Machine)(hw:d≤m.world.drawn):okM d (match (choose (.sched rs.length)).run P m.world with
 | .halt _ w=>.machine (.ended (.stuck "sched" "") w)
 | .ok k world =>
  if rs.length≤1 then .goroutine { m with world } (rs.getD k 0) else
  match (choose (.extern "sched.slice" 65536)).run P world with
  | .halt _ w=>.machine (.ended (.stuck "sched.slice" "") w)
  | .ok n world=>.goroutine { m with world,rest:={ m.rest with slice:=if n=0 then none else some (rs.getD k 0,n) } } (rs.getD k 0)):=by
 repeat' (first | trivial | split)
 all_goals dsimp only[okM]
 all_goals first | exact be hw (iG (r:=.ok _ _) (by assumption)) | exact be (be hw (iG (r:=.ok _ _) (by assumption))) (iG (r:=.ok _ _) (by assumption))
theorem Um(hw:d≤m.world.drawn):okM d (askOn P m):=by
 unfold askOn;dsimp only;split
 · trivial
 · rename_i k w1 h1
   have hw1:d≤w1.drawn:=be hw (iG h1);split
   · exact okS.mono hw1 (akZ { m with world:=w1 } _)
   · split
     · split
       · exact hw1
       · split
         · exact hw1
         · split <;> trivial
     · split
       · exact aa0 _ { m with world:=w1 } hw1
       · split
         · trivial
         · rename_i w2 h2
           exact aa0 _ { m with world:=w2 } (be hw1 (iG h2))
         · rename_i w2 h2
           exact be hw1 (iG h2)
         · rename_i w2 h2
           exact aa0 _ (({ m with world:=w2 }:Machine).advanceTo _) (be hw1 (iG h2))
theorem ak0(hw:d≤m.world.drawn):okM d (ask P m):=by
 unfold ask;split
 · split
   · trivial
   · rename_i w1 h1
     have hw1:d≤w1.drawn:=be hw (iG h1);have hl:=afN (P:=P) hw1 m.gs m.rest;split
     · rename_i m2 h2
       rw[h2] at hl;exact Um hl
     · rename_i e he
       cases hq:look P m.gs m.rest w1 with
       | next m2=>exact absurd hq (he m2)
       | ended o w2=>trivial
   · rename_i w1 h1 _
     exact Um (m:={ m with world:=w1 }) (show d≤w1.drawn from be hw (iG (r:=.ok _ _) (by assumption)))
 · exact Um hw
theorem anK   : okM m.world.drawn (move P m):=by
 unfold move;split
 · split
   · exact ao _
   · trivial
 · split
   · split
     · exact ao _
     · exact ak0 (m:={ m with rest:={ m.rest with slice:=none } }) (ao _)
   · exact ak0 (ao _)
theorem anL(h:step P m=.next m'):m.world.drawn≤m'.world.drawn:=by
 have h1:=anK (P:=P) (m:=m);have h2:okS m.world.drawn (step P m):=by
  unfold step stepT;split
  · rename_i m1 i hm
    rw[hm] at h1;exact okS.mono h1 (ara P m1 i _)
  · rename_i s ops hm
    rw[hm] at h1;exact h1
 rw[h] at h2;exact h2
theorem acB(h:Steps P m m'):m.world.drawn≤m'.world.drawn:=by
 obtain⟨n,hn⟩:=h
 induction n generalizing m with
 | zero=>cases hn;exact ao _
 | succ n ih =>
  simp only[runN] at hn;split at hn
  · rename_i m1 h1
    exact be (anL h1) (ih hn)
  · rename_i e he
    cases hq:step P m with
    | next m2=>exact absurd hq (he m2)
    | ended o w2=>rw[hq] at hn;cases hn
theorem acC{f:FuncId}{args:Array ai}{R:Ending→aj→Prop}(hR:∀w',¬R .outgrown w')(h:Calls P f args w R):Calls P f args w fun e w'=>R e w'∧w.drawn≤w'.drawn:=fun cs=>by
 obtain⟨e,w',fr,hr,hc,hf,hl⟩:=h cs;refine⟨e,w',fr,⟨hr,?_⟩,hc,hf,hl⟩;cases e with
 | returned v=>exact acB hc
 | panicked c=>exact acB hc
 | outgrown=>exact absurd hr (hR w')
theorem fF.g{f:FuncId}{args:List ai}{v:ai}(h:fF P f args v):tF P f args v:=fun w =>
 ⟨(h w).1,(acC (fun _ ⟨_,e,_⟩=>(by cases e)) (h w).2).mono fun _ _ ⟨⟨u,he,hX,hv⟩,hd⟩=>⟨u,he,⟨hX,hd⟩,hv⟩⟩
end Go.Lith
namespace Go.Proofs.YtfekpcimgncioaaGreatDoor
open Go.Proofs.Tryz
open Go.RowKit Go.Lith
set_option maxRecDepth 100000
attribute [local irreducible] au cu fA bF cG Code.wp
attribute [local congr] nO fK fM fN fO fP iY fQ fR fS fT fU fV fW fX fY fZ gA dX dY gB gC gE gF gG jA cQ cR cE cP gD iZ dZ eA eB gH gI jD
variable{g50 g90 ga gf N cap ca cf n1 c1:Nat}{ts:List T3}
def sZ(c:lU):List ai:=[.int .i64 c.u.x,.int .i64 c.u.y,.int .i64 c.u.z,.int .i64 c.v.x,.int .i64 c.v.y,.int .i64 c.v.z,.bool (gW c.c),.string (kX c.c)]
def aa1(c:lU):ai:=.agg (sZ c).toArray
theorem eW:(∀c,sZ c=[.int .i64 c.u.x,.int .i64 c.u.y,.int .i64 c.u.z,.int .i64 c.v.x,.int .i64 c.v.y,.int .i64 c.v.z,.bool (gW c.c),.string (kX c.c)])∧(∀c,(aa1 c).cells.toList=[.int .i64 c.u.x,.int .i64 c.u.y,.int .i64 c.u.z,.int .i64 c.v.x,.int .i64 c.v.y,.int .i64 c.v.z,.bool (gW c.c),.string (kX c.c)])∧(∀c f,vvA (aa1 c) f=f [.int .i64 c.u.x,.int .i64 c.u.y,.int .i64 c.u.z,.int .i64 c.v.x,.int .i64 c.v.y,.int .i64 c.v.z,.bool (gW c.c),.string (kX c.c)]):=⟨fun _=>rfl,fun _=>rfl,fun _ _=>rfl⟩
theorem anM(c:lU):∀v∈sZ c,v.oneCell'=true:=fun v h=>by
 simp only[sZ,an,cl,or_false] at h;rcases h with rfl | rfl | rfl | rfl | rfl | rfl | rfl | rfl <;> rfl
def ak1(a b:lU):Int:=if bS (a.c-b.c)=0 then if qO a.u b.u=0 then qO a.v b.v else qO a.u b.u else bS (a.c-b.c)
theorem Kx(a b:lU):(ak1 a b<0)↔a.Lt b:=by
 unfold ak1 lU.Lt;have h0:bS (a.c-b.c)=0↔a.c=b.c:=by rw[gY];omega
 have h1:bS (a.c-b.c)<0↔a.c<b.c:=by
  have:=abo (n:=a.c-b.c);omega
 by_cases h:a.c=b.c
 · rw[if_pos (h0.2 h)]
   by_cases g:a.u=b.u
   · rw[if_pos (nQ.2 g),mF]
     simp[h,g,P3.lt_irrefl]
   · rw[if_neg fun k=>g (nQ.1 k),mF]
     simp[h,g]
 · rw[if_neg fun k=>h (h0.1 k),h1]
   simp[h]
abbrev ak2:Type:={ c:lU // Bd 900000 c.c }
instance:Inhabited ak2:=⟨⟨⟨⟨0,0,0⟩,⟨0,0,0⟩,0⟩,Pm _⟩⟩
theorem ak3:Go.Sort.SWO (Go.Proofs.ltOf fun a b:ak2=>ak1 a.1 b.1) where
 irrefl a:=by simp only[Go.Proofs.ltOf,decide_eq_false_iff_not,Kx];exact lU.lt_irrefl a.1
 trans x y z h1 h2:=by
  simp only[Go.Proofs.ltOf,decide_eq_true_eq,Kx] at *
  exact lU.lt_trans h1 h2
 ntrans x y z h1 h2:=by
  simp only[Go.Proofs.ltOf,decide_eq_false_iff_not,Kx] at *
  intro h;rcases lU.lt_tri y.1 x.1 with k | k | k
  · exact h2 (lU.lt_trans k h)
  · exact h2 (by rw[k];exact h)
  · exact h1 k
theorem anN{p q:lU}(hp:Bd 900000 p.c)(hq:Bd 900000 q.c):tF prog 64 [aa1 p,aa1 q] (.int .i64 (ak1 p q)):=by
 intro w;refine⟨bP func64 (by kernel_rfl),?_⟩;have m:=iJ.refl w
 go_enter func64,ntmps64
 refine aX fun K1 k1=>wp_region_lit (oV m rfl ?_);intro g1 u m;simp only[zz];refine oV m rfl ?_;intro g2 u m;refine aB aP (aN (k1 _ _ ?_));try clear k1 K1
 refine aX fun K2 k2=>?_;simp only[zz];refine Rl m 15 aD (by kernel_rfl) ?_;simp only[zy];refine aI (bH (c:=1) Ac rfl aV rfl rfl) ?_;simp only[zz];refine Us rfl (fun u m=>((m.b 1 rfl).lies eN aV rfl rfl)) ?_;simp only[zz,zy,ar,aa,ah,ad];refine aI (bH (c:=1) Ac rfl aV rfl rfl) ?_;simp only[zz];refine Us rfl (fun u m=>((m.b 0 rfl).lies eN aV rfl rfl)) ?_;simp only[zz,zy,ar,aa,ah,ad];refine Is rfl rfl ((asD (a:=p.c) (b:=q.c) hp hq).g) (aI (bH (c:=2) Ac rfl aA rfl rfl) ?_);simp only[zz];refine Us rfl (fun u m=>((m.b 1 rfl).lies aH aA rfl rfl)) ?_;simp only[zz,zy,ar,aa,ah,ad];refine aI (bH (c:=2) Ac rfl aA rfl rfl) ?_;simp only[zz];refine Us rfl (fun u m=>((m.b 0 rfl).lies aH aA rfl rfl)) ?_;simp only[zz,zy,ar,aa,ah,ad];refine Is rfl rfl (Tw (p:=p.u) (q:=q.u)) (aI (bH (c:=2) Ac rfl aA rfl rfl) ?_);simp only[zz];refine Us rfl (fun u m=>((m.b 1 rfl).lies aH aA rfl rfl)) ?_;simp only[zz,zy,ar,aa,ah,ad];refine aI (bH (c:=2) Ac rfl aA rfl rfl) ?_;simp only[zz];refine Us rfl (fun u m=>((m.b 0 rfl).lies aH aA rfl rfl)) ?_;simp only[zz,zy,ar,aa,ah,ad];refine Is rfl rfl (Tw (p:=p.v) (q:=q.v)) (bE ?_);intro u m;simp only[zz];refine ab9 m lM (z:=.int .i64 0) (by kernel_rfl) rfl rfl rfl rfl rfl rfl rfl ?_;intro g3 u m;simp only[zz];refine aaD m rfl rfl (aj7 _ (m.b 0 rfl)) ?_;intro u m;refine aB aP (aN (k2 _ _ ?_));try clear k2 K2
 refine wp_ret ?_;simp only[zz];try simp only[Exit.inBlock,Exit.then,if_true]
 refine aT rfl rfl ?_;try simp only[zD,zE]
 exact⟨_,rfl,m.ext,rfl⟩
theorem anO{w0 w:aj}{is:List It}{A:Option Addr}{n cap:Nat}{xs:List lU}(hb:∀c∈xs,Bd 900000 c.c)(m:Mem w0 w is)(k:Nat)(hi:is[k]? = some (oI 112 8 A n cap (xs.flatMap sZ)))(hsz:n<4611686018427387904) :
 Calls prog 123 [.slice A n cap,.func (.func 64) #[] #[]].toArray w fun e w'=>∃v i,e=.returned v∧Mem w0 w' (is.set k i)∧(v=.tuple #[]∧∃ys:List lU,i=oI 112 8 A n cap (ys.flatMap sZ)∧ys.Perm xs∧ys.Pairwise fun a b=>¬b.Lt a):=by
 have e0:(xs.attachWith (fun c=>Bd 900000 c.c) hb).map (·.1)=xs:=List.attachWith_map_subtype_val ..;have e1:∀L:List ak2,L.flatMap (fun c=>sZ c.1)=(L.map (·.1)).flatMap sZ:=fun L=>by rw[lx]
 have hi':is[k]? = some (oI 112 8 A n cap ((xs.attachWith (fun c=>Bd 900000 c.c) hb).flatMap fun c=>sZ c.1)):=by rw[e1,e0];exact hi
 refine (Dh (α:=ak2) (enc:=fun c=>sZ c.1) Tryz.sort123 (fun w=>pN Iz w) (fun w=>eC qZ w) (fun _=>rfl) (by decide) (fun x=>anM x.1) (fun a b=>ak1 a.1 b.1) ak3 (fun x y=>anN x.2 y.2) m k hi' hsz).mono ?_;rintro e w' ⟨v,i,h1,h2,h3,ys,h4,h5,h6⟩;refine⟨v,i,h1,h2,h3,ys.map (·.1),by rw[h4,e1],?_,?_⟩
 · have:=h5.map (fun c:ak2=>c.1)
   rwa [e0] at this
 · rw[List.pairwise_map]
   exact h6.imp fun h=>by simpa[Go.Proofs.ltOf,Kx] using h
theorem arb{A:Option Addr}{ea ef:Array de}{D:List (P3 × Hd)}{F:List (P3 × Bool)}{c:lU}[I3 c.u][I3 c.v](w:aj)(hB50:gT w g50 [.pointer (some ⟨g90,0,none⟩)] 88)(hS:Kt 109 w g90 ga gf A N cap ea ef ca cf D ts)(hT:bQ w A N ts)(hD:Ui ea ef ca cf D F ts)(hnd:∀t∈ts,t.nd=true)(hN:ts.length≤1000000):dK prog 65 [aa1 c,.pointer (some ⟨g50,0,none⟩)] w (fun v _=>v=.bool (cZ ts c.u c.v)):=by
 refine⟨bP func65 (by kernel_rfl),?_⟩;have m:=Mem.refl w
 go_enter func65,ntmps65
 apply mR 7 [0] m;simp only[↓aC,↓eW];intro g1 u m;refine aR rfl ((hB50.ext m.ext).lies1 Zq rfl) ?_;simp only[zz];apply aL 4 [0,0,0] m;simp only[↓aC,↓eW,Dx,aU,vO,aa];refine cM m rfl rfl (Ym (p:=c.u) (q:=c.v) _ (hS.ext m.ext) hD (hT.ext m.ext) hnd hN) ?_;rintro v u m rfl;apply aL 3 [] m;simp only[↓aC];exact aT rfl rfl ⟨_,rfl,m.ext,rfl⟩
theorem ak4{A:Option Addr}{ea ef:Array de}{D:List (P3 × Hd)}{F:List (P3 × Bool)}{cs:List lU}{A1:Option Addr}(w:aj)(hB50:gT w g50 [.pointer (some ⟨g90,0,none⟩)] 88)(hS:Kt 109 w g90 ga gf A N cap ea ef ca cf D ts)(hT:bQ w A N ts)(hD:Ui ea ef ca cf D F ts)(hnd:∀t∈ts,t.nd=true)(hN:ts.length≤1000000)(hL:vY sZ 8 w A1 n1 cs)(hI:∀c∈cs,I3 c.u∧I3 c.v)(hn1:n1≤100000000):dK prog 124 [.slice A1 n1 c1,.func (.func 65) #[] #[.pointer (some ⟨g50,0,none⟩)]] w (fun v _=>∃k:Int,v=.int .i64 k∧((k<0∧∀c∈cs,cZ ts c.u c.v=false)∨∃(j:Nat) (c:lU),k=j∧j<n1∧cs[j]? = some c∧cZ ts c.u c.v=true∧∀(i:Nat) (d:lU),i<j→cs[i]? = some d→cZ ts d.u d.v=false)):=by
 refine⟨bP func124 (by kernel_rfl),?_⟩;have m:=Mem.refl w;have hcl:=hL.len
 go_enter func124,ntmps124
 apply fG 12 [0] m;simp only[↓aC,apC];refine bX [8] [4,5,9,10,11,12,13,14,15,16,17,18] (fun n vs wl=>∃(k:Nat),vs=[.int .i64 (k:Int)]∧Mem w wl []∧(∀(j:Nat) (d:lU),j<k→cs[j]? = some d→cZ ts d.u d.v=false)∧(k≤n1)∧(n=n1-k)) ?_ ?_
 ·
  exact⟨_,0,rfl,m,(fun j r h=>by omega),cq _,rfl⟩
 · intro n vs wr hI u K1 hK1
   obtain⟨k,rfl,m,hq0,hk,hn2⟩:=hI;simp only[zu,zF,zG];apply aK 5 [0,0] m;simp only[↓aC];refine bA rfl ?_ ?_<;>intro hc1
   ·
    obtain⟨c,hc,a1,rfl,hrow⟩:=hL.get (i:=k) (by omega);apply aK 13 [0] m;simp only[↓aC];refine aB (aF underlying105 qZ rfl rfl (by omega) (by omega) (cH (ag _))) ?_;simp only[zz];refine aR rfl ((hrow.ext m.ext).lies Iz qZ) ?_;simp only[zz];refine cM m rfl rfl ((haveI:=(hI c (bj hc)).1;haveI:=(hI c (bj hc)).2;arb (c:=c) _ (hB50.ext m.ext) (hS.ext m.ext) (hT.ext m.ext) hD hnd hN)) ?_;rintro v u m rfl;apply aL 1 [0] m;simp only[↓aC];refine eG rfl ?_ ?_<;>intro hc2
    ·
     apply aK 6 [] m;simp only[↓aC];exact aT rfl rfl ⟨_,rfl,m.ext,k,rfl,.inr ⟨k,c,rfl,by omega,hc,hc2,fun i d hi hd=>hq0 i d hi hd⟩⟩
    ·
     apply aK 6 [0] m;simp only[↓aC];refine⟨by omega,?_⟩;exact hK1 (n1-(k+1)) _ _ (by omega) (by kernel_rfl) ⟨k+1, rfl, m, (fun j r2 hj h1 => by
      rcases Nat.lt_or_ge j k with h | h
      · exact hq0 j r2 h h1
      · obtain rfl:j=k:=by omega
        rw[hc] at h1;cases h1;exact hc2),by omega,rfl⟩
   ·
    obtain rfl:n1=k:=by omega
    apply aK 6 [] m;simp only[↓aC];exact aT rfl rfl ⟨_,rfl,m.ext,-1,rfl,.inl ⟨by decide,fun c hc=>by obtain⟨j,hj⟩:=fb.1 hc;exact hq0 j c (by have:=(ap.1 hj).1;omega) hj⟩⟩
theorem arc{w0 w:aj}{K R0:It}{A:Option Addr}{ea ef:Array de}{D:List (P3 × Hd)}{F:List (P3 × Bool)}{cs:List lU}{A1:Option Addr}(m:Mem w0 w [oI 112 8 A1 n1 c1 (cs.flatMap sZ),bI g50 [.pointer (some ⟨g90,0,none⟩)] 88,K,oI 39 9 A N cap (ts.flatMap aM),R0])(hK:∀u,K.P u→Kt 109 u g90 ga gf A N cap ea ef ca cf D ts)(hD:Ui ea ef ca cf D F ts)(hnd:∀t∈ts,t.nd=true)(hIT:∀t∈ts,IT t)(hN:ts.length≤1000000)(hI:∀c∈cs,I3 c.u∧I3 c.v)(hb:∀c∈cs,Bd 900000 c.c)(hn1:n1≤100000000):wX prog 63 [.slice A1 n1 c1,.func (.func 64) #[] #[],.func (.func 65) #[] #[.pointer (some ⟨g50,0,none⟩)]] w fun v w'=>Mem w0 w' [bI g50 [.pointer (some ⟨g90,0,none⟩)] 88,K,oI 39 9 A N cap (ts.flatMap aM),R0]∧((v=.tuple #[.agg #[.int .i64 0,.int .i64 0,.int .i64 0,.int .i64 0,.int .i64 0,.int .i64 0,.bool false,.string ⟨#[]⟩],.bool false]∧∀c∈cs,cZ ts c.u c.v=false)∨∃(c:lU) (ys:List lU) (j:Nat),v=.tuple #[aa1 c,.bool true]∧ys.Perm cs∧(ys.Pairwise fun a b=>¬b.Lt a)∧ys[j]? = some c∧cZ ts c.u c.v=true∧∀(i:Nat) (d:lU),i<j→ys[i]? = some d→cZ ts d.u d.v=false):=by
 refine⟨bP func63 (by kernel_rfl),?_⟩
 go_enter func63,ntmps63
 apply mR 9 [0] m;simp only[↓aC,↓eW,adP];intro g51 u m;refine mM m 1 (bP func123 (by kernel_rfl)) rfl rfl (fun m=>anO hb m 1 rfl (by omega)) ?_;rintro v i u m ⟨rfl,ys,rfl,hys,hso⟩;simp only[zF,zG] at m;apply aL 5 [0] m;simp only[↓aC];refine cM m rfl rfl (ak4 _ (m.b 2 rfl) (hK _ (m.get 3 rfl)) ((m.o 4 rfl).tris hIT) hD hnd hN ((m.o 1 rfl).lat (enc:=sZ) (fun _=>rfl) (by decide)) (fun c hc=>hI c (hys.mem_iff.1 hc)) hn1) ?_;rintro v u m ⟨kk,rfl,hkk⟩;apply aL 8 [0,0] m;simp only[↓aC];refine bA rfl ?_ ?_<;>intro hc1
 ·
  apply zvc 11 [0,1] m;simp only[↓aC,↓eW,adP,adO,aa];intro g52 u m;exact Ck rfl ⟨_,rfl,((m.b 1 rfl).full Iz qZ)⟩ rfl ⟨_,rfl,m.sel [false,false,false,true,true,true,true],.inl ⟨rfl,fun c hc=>(hkk.resolve_right (fun⟨j,c2,e,_⟩=>by omega)).2 c (hys.mem_iff.2 hc)⟩⟩
 ·
  obtain⟨j,c,rfl,hj,hc,ha,hb4⟩:=hkk.resolve_left (fun h=>hc1 h.1);obtain⟨c9,hc9,a1,hA1,hr5⟩:=((m.o 1 rfl).lat (enc:=sZ) (fun _=>rfl) (by decide)).get (i:=j) (by omega);obtain rfl:c9=c:=ep (hc9.symm.trans hc);subst hA1;apply aK 5 [0] m;simp only[↓aC];refine aB (aF underlying105 qZ rfl rfl (by omega) (by omega) (cH (ag _))) ?_;simp only[zz];refine aR rfl (show eQ _ _ _ _ (.agg #[.int .i64 c9.u.x,.int .i64 c9.u.y,.int .i64 c9.u.z,.int .i64 c9.v.x,.int .i64 c9.v.y,.int .i64 c9.v.z,.bool (gW c9.c),.string (kX c9.c)]) from hr5.lies Iz qZ) ?_;simp only[zz];apply kP 4 [0] m;simp only[↓aC,↓eW,adO,aa];intro u m;exact Ck rfl ⟨_,rfl,((m.b 0 rfl).full Iz qZ)⟩ rfl ⟨_,rfl,m.sel [false,false,true,true,true,true],.inr ⟨c9,ys,j,rfl,hys,hso,hc,ha,hb4⟩⟩
end Go.Proofs.YtfekpcimgncioaaGreatDoor
namespace Go.Lith
open Go.RowKit Go.ChangeMaps Go.MapKept
section
variable {K V:Type} [DecidableEq K] {P:bv} {T M E ty:av} {ek:K→ai} {ev:V→ai} {w w0:aj} {g c:Nat} {es:Array de} {D:List (K × V)} {is:List It}
def tN(ek:K→ai)(ev:V→ai)(D:List (K × V))(es:Array de)(seen:Array Nat)(dn rs:List (K × V)):Prop :=
 (dn++rs).Perm D∧∃dE rE:List de,(∀e∈dE,e.born∈seen.toList)∧(∀e∈rE,e.born∉seen.toList)∧(dE++rE).Perm es.toList∧dE.map Vn=dn.map (fun x=>(ek x.1,ev x.2))∧rE.map Vn=rs.map (fun x=>(ek x.1,ev x.2))
def yS(ek:K→ai)(ev:V→ai)(D:List (K × V))(es:Array de)(seen:Array Nat)(dn:List (K × V))(k:K)(v:V)(rs:List (K × V)):Prop :=
 tN ek ev D es seen (dn++[(k,v)]) rs∧∃(e:de) (s:Array Nat),e∈es.toList∧Vn e=(ek k,ev v)∧seen=s.push e.born
theorem tN.start(hD:bJ ek ev D es c):tN ek ev D es #[] [] D:=⟨ny _,[],es.toList,fun _ h=>(by cases h),fun _ _ h=>(by cases h),ny _,rfl,hD.cells⟩
theorem tN.done{seen:Array Nat}{dn:List (K × V)}(h:tN ek ev D es seen dn []):dn.Perm D:=by simpa using h.1
def anP(ek:K→ai)(ev:V→ai)(D:List (K × V))(es:Array de)(dn rs:List (K × V))(b:Bool)(seen':Array Nat):Prop :=
 (b=false∧rs=[])∨(b=true∧∃k v rs',rs.Perm ((k,v)::rs')∧yS ek ev D es seen' dn k v rs')
theorem ahq{r:Nat}{seen:Array Nat}{dn rs:List (K × V)}(hI:sC w r g c seen c)(hM:iW w g es c)(hD:bJ ek ev D es c)(hT:tN ek ev D es seen dn rs) :
 ∃b kv vv seen' w1,(w1=w∨w1=w.drew)∧(Instr.next (.pointer (some ⟨r,0,none⟩)) false ty).run P w=.ok (Gp b kv vv) (setBlock w1 r (.mapIter (some g) c seen' c))∧anP ek ev D es dn rs b seen':=by
 obtain⟨hp,dE,rE,h1,h1',h2,h3,h4⟩:=hT;have hnd:((dE++rE).map (·.born)).Nodup:=(h2.map (·.born)).nodup_iff.2 hD.nd;have hleft:∀e,e∈(leftOf es seen).toList↔e∈rE:=fun e=>by
  unfold leftOf;simp only[Array.toList_filter,dh,Bool.not_eq_true',Array.contains_eq_mem,decide_eq_false_iff_not];rw[←Array.mem_toList_iff (xs:=seen),←h2.mem_iff,br];constructor
  · rintro⟨h | h,hn⟩
    · exact absurd (h1 e h) hn
    · exact h
  · intro h
    exact⟨.inr h,h1' e h⟩
 rcases run_next_at (P:=P) w ty r g c c seen es c hI hM hD.born (ao _) with ⟨h0,hr⟩ | ⟨e,he,w1,hw1,hr⟩
 · refine⟨false,default,default,seen,w,.inl rfl,?_,.inl ⟨rfl,?_⟩⟩
   · rw[hr]
     have:setBlock w r (.mapIter (some g) c seen c)=w:=by
      unfold setBlock;have hlt:=(Array.getElem?_eq_some_iff.1 hI).1;have:w.heap.setIfInBounds r (.mapIter (some g) c seen c)=w.heap:=by
       apply Array.ext_getElem?;intro i;rw[Array.getElem?_setIfInBounds];split
       · rename_i e;subst e;exact hI.symm
       · rfl
      rw[this]
     rw[this];rfl
   · cases rs with
     | nil=>rfl
     | cons x rs =>
      cases rE with
      | nil=>simp at h4
      | cons e rE =>
       have:=(hleft e).2 (bh ..);rw[Array.eq_empty_of_size_eq_zero h0] at this;simp at this
 · obtain⟨s,t,rfl⟩:=List.append_of_mem ((hleft e).1 he)
   rw[ct,bp] at h4;obtain⟨rs1,rs2,rfl,e1,e2⟩:=me.1 h4.symm;obtain⟨x,rs3,rfl,e3,e4⟩:=nc.1 e2;obtain⟨k,v⟩:=x;have hmid:(dE++[e]++(s++t)).Perm (dE++(s++e::t)):=by
    simp only[da,cg,bt];exact mo _ List.perm_middle.symm
   have hnd':((dE++[e]++(s++t)).map (·.born)).Nodup:=(hmid.map _).nodup_iff.2 hnd;rw[ct,jc] at hnd';refine⟨true,e.key,e.val,seen.push e.born,w1,hw1,hr,.inr ⟨rfl,k,v,rs1++rs3,List.perm_middle,⟨?_,dE++[e],s++t,?_,?_,?_,?_,?_⟩,e,seen,h2.mem_iff.1 (by simp),by rw[←e3],rfl⟩⟩
   · refine List.Perm.trans ?_ hp
     simp only[da,cg,bt];exact mo _ List.perm_middle.symm
   · intro x hx
     rw[nw];rcases br.1 hx with hx | hx
     · exact ig _ (h1 x hx)
     · rw[az.1 hx];exact gn _ (az.2 rfl)
   · intro x hx hm
     rw[nw] at hm;rcases br.1 hm with hm | hm
     · refine h1' x ?_ hm
       rcases br.1 hx with h | h
       · exact ig _ h
       · exact gn _ (bg _ h)
     · refine hnd'.2.2 e.born (cw.2 ⟨e,by simp,rfl⟩) x.born (cw.2 ⟨x,hx,rfl⟩) (az.1 hm).symm
   · exact hmid.trans h2
   · simp only[ct,h3,bp,dt]
     rw[←e3]
   · simp[e1,e4]
theorem aew{r:Nat}{seen:Array Nat}{dn rs:List (K × V)}{k:K}{v:V}(hI:sC w r g c seen c)(hM:iW w g es c)(hD:bJ ek ev D es c)(hT:yS ek ev D es seen dn k v rs) :
 (Instr.entry (.pointer (some ⟨r,0,none⟩))).run P w=.ok (.tuple #[ek k,ev v]) w:=by
 obtain⟨_,e,s,hm,he,rfl⟩:=hT;have:=run_entry_at (P:=P) w r g c _ es c e hI hM hm hD.nd;rw[this];simp only[Vn,fk] at he;rw[he.1,he.2]
theorem ak5(w:aj)(kt:sQ P T ek){a b:K}(h:ek a=ek b):a=b:=by
 have h1:=kt.eq a b w;have h2:=kt.eq a a w;rw[←h,h2] at h1
 injection h1 with h1
 simpa using h1.symm
theorem Nm{α:Type}:∀{l:List α} {p:Nat} {x:α},l[p]? = some x→l.Perm (x::l.eraseIdx p)
 | [],_,_,h=>by simp at h
 | y::l,0,x,h=>by simp at h;subst h;exact .refl _
 | y::l,p+1,x,h=>by
  have:=Nm (l:=l) (p:=p) (by simpa using h);exact (this.cons y).trans (.swap ..)
theorem Nn{α:Type}:∀{l:List α} {p:Nat} {x y:α},l[p]? = some x→(l.set p y).Perm (y::l.eraseIdx p)
 | [],_,_,_,h=>by simp at h
 | z::l,0,x,y,h=>.refl _
 | z::l,p+1,x,y,h=>by
  have:=Nn (l:=l) (p:=p) (y:=y) (x:=x) (by simpa using h);exact (this.cons z).trans (.swap ..)
theorem Un{D:List (K × V)}(hn:(D.map (·.1)).Nodup){p q:Nat}{k:K}{v u:V}(hp:D[p]? = some (k,v))(hq:D[q]? = some (k,u)):p=q:=by
 have h1:(D.map (·.1))[p]? = some k:=by simp[hp]
 have h2:(D.map (·.1))[q]? = some k:=by simp[hq]
 obtain⟨a1,a2⟩:=ap.1 h1;obtain⟨b1,b2⟩:=ap.1 h2;exact (ly hn).1 (a2.trans b2.symm)
theorem yS.at(kt:sQ P T ek)(w:aj){seen:Array Nat}{dn rs:List (K × V)}{k:K}{v:V}(hD:bJ ek ev D es c)(hn:(D.map (·.1)).Nodup)(hT:yS ek ev D es seen dn k v rs) :
 ∃(p:Nat) (e:de) (dE rE:List de),qT D k 0=some (p,v)∧D[p]? = some (k,v)∧es.toList[p]? = some e∧(dn++rs).Perm (D.eraseIdx p)∧(dE++rE).Perm (es.toList.eraseIdx p)∧e.born∈seen.toList ∧
  (∀e∈dE,e.born∈seen.toList)∧(∀e∈rE,e.born∉seen.toList)∧dE.map Vn=dn.map (fun x=>(ek x.1,ev x.2))∧rE.map Vn=rs.map (fun x=>(ek x.1,ev x.2)):=by
 obtain⟨⟨hp,dE,rE,h1,h1',h2,h3,h4⟩,_⟩:=hT;have hmem:(k,v)∈D:=hp.mem_iff.1 (by simp);have hg:=pE hn hmem;cases hf:qT D k 0 with
 | none=>rw[(rB D k 0 hf).1] at hg;cases hg
 | some q =>
  obtain⟨j,v'⟩:=q;obtain⟨p,rfl,hpp,h0,_,_⟩:=mW D k 0 j v' hf;rw[ar] at hf ⊢;obtain rfl:v'=v:=by rw[h0] at hg;exact ep hg
  rw[ct,bp,dt] at h3;obtain⟨d1,d2,rfl,e1,e2⟩:=me.1 h3;obtain⟨e,d3,rfl,e3,e4⟩:=nc.1 e2;obtain rfl:d3=[]:=by simpa using e4
  have hm:e∈es.toList:=h2.mem_iff.1 (by simp);obtain⟨q,hq⟩:=fb.1 hm;have hqD:∃u,D[q]? = some (k,u):=by
   have h5:=congrArg (fun L=>L[q]?) hD.cells;simp only[eh,hq,fa,e3] at h5;cases h6:D[q]? with
   | none=>rw[h6] at h5;cases h5
   | some x =>
    rw[h6] at h5;simp only[fa,ie,fk] at h5;obtain⟨a,u⟩:=x;obtain rfl:k=a:=ak5 w kt h5.1;exact⟨u,rfl⟩
  obtain⟨u,hu⟩:=hqD;obtain rfl:=Un hn hpp hu;refine⟨p,e,d1,rE,rfl,hpp,hq,?_,?_,h1 e (by simp),fun x hx=>h1 x (ig _ hx),h1',e1,h4⟩
  · have:((k,v')::(dn++rs)).Perm ((k,v')::D.eraseIdx p):=by
     refine (?_:List.Perm _ _).trans (hp.trans (Nm hpp));rw[da];exact List.perm_middle.symm
    exact (qh _).1 this
  · have:(e::(d1++rE)).Perm (e::es.toList.eraseIdx p):=by
     refine (?_:List.Perm _ _).trans (h2.trans (Nm hq));rw[da];exact List.perm_middle.symm
    exact (qh _).1 this
theorem acD{T2:av}{seen:Array Nat}{dn rs:List (K × V)}{k:K}{v:V}(hu:P.underlying M=some (.map T E))(kt:sQ P T ek)(hM:iW w g es c)(hD:bJ ek ev D es c)(hn:(D.map (·.1)).Nodup)(hT:yS ek ev D es seen dn k v rs) :
 ∃es',(Builtin.delete_ #[M,T2] ty #[.map (some g),ek k]).run P w=.ok (.tuple #[]) (setBlock w g (.map es' c))∧bJ ek ev (Dg D k) es' c∧tN ek ev (Dg D k) es' seen dn rs:=by
 unfold iW at hM;obtain⟨p,e,dE,rE,hf,hp,he,hd,hE,_,h1,h1',h3,h4⟩:=hT.at kt w hD hn;obtain⟨p',e0,_,_,_,hm⟩:=mW D k 0 p v hf;rw[ar] at e0;subst e0;refine⟨es.eraseIdxIfInBounds p,?_,hm▸hD.erase p,hm▸hd,dE,rE,h1,h1',?_,h3,h4⟩
 · simp[Builtin.delete_,run_underlying hu,getObj,Sem.run,hM,kt.chk,vF kt k w hD,hf,run_setObj_map _ hM,setBlock]
 · have e2:(es.eraseIdxIfInBounds p).toList=es.toList.eraseIdx p:=by
    by_cases h:p<es.size
    · simp[ld,h]
    · simp only[ld,h,dite_false]
      exact (List.eraseIdx_of_length_le (by simpa using Nat.le_of_not_lt h)).symm
   rw[e2];exact hE
theorem acE{seen:Array Nat}{dn rs:List (K × V)}{k:K}{v:V}(hu:P.underlying M=some (.map T E))(kt:sQ P T ek)(hM:iW w g es c)(hD:bJ ek ev D es c)(hn:(D.map (·.1)).Nodup)(hT:yS ek ev D es seen dn k v rs)(u:V) :
 ∃es',(Instr.mapUpdate M (.map (some g)) (ek k) (ev u)).run P w=.ok () (setBlock w g (.map es' c))∧bJ ek ev (fJ D k u) es' c∧tN ek ev (fJ D k u) es' seen (dn++[(k,u)]) rs:=by
 unfold iW at hM;obtain⟨p,e,dE,rE,hf,hp,he,hd,hE,hb,h1,h1',h3,h4⟩:=hT.at kt w hD hn;obtain⟨p',e0,_,_,hm,_⟩:=mW D k 0 p v hf;rw[ar] at e0;subst e0;have hk:e.key=ek k:=by
  have h2:=congrArg (fun L=>L[p]?) hD.cells;simp only[eh,hp,he,fa,Vn,ie,fk] at h2;exact h2.1
 have hes:es[p]? = some e:=by rw[←Array.getElem?_toList];exact he
 have hk':((es[p]?).map (·.key)).getD (ek k)=ek k:=by rw[hes];exact hk
 refine⟨es.modify p fun e=>{ e with key:=ek k,val:=ev u },?_,hm u▸hD.set hp u,hm u▸?_,dE++[{ e with key:=ek k,val:=ev u }],rE,?_,h1',?_,?_,h4⟩
 · simp only[Instr.mapUpdate,Sem.run_bind,run_underlying hu,Result.andThen,getObj,Sem.run,hM,Sem.run_pure,kt.chk,vF kt k w hD,hf,fa,hk',Instr.keyThatStays,kt.bits,if_true]
   exact run_setObj_map _ hM
 · rw[da]
   refine List.perm_middle.trans (((hd.cons (k,u))).trans (Nn hp).symm)
 · intro x hx
   rcases br.1 hx with hx | hx
   · exact h1 x hx
   · rw[az.1 hx];exact hb
 · have e2:(es.modify p fun e=>{ e with key:=ek k,val:=ev u }).toList=es.toList.set p { e with key:=ek k,val:=ev u }:=by
    rw[Array.toList_modify];apply List.ext_getElem?;intro j;rw[List.getElem?_modify,List.getElem?_set];by_cases h:p=j
    · subst h
      have:=(ap.1 he).1;rw[he];simp[this];simpa using this
    · simp[h]
   rw[e2,da];exact List.perm_middle.trans ((hE.cons _).trans (Nn he).symm)
 · simp[h3,Vn]
theorem yS.stay{seen:Array Nat}{dn rs:List (K × V)}{k:K}{v:V}(hT:yS ek ev D es seen dn k v rs):tN ek ev D es seen (dn++[(k,v)]) rs:=hT.1
variable {ds:List Deferred} {l:List ai} {x y z:Operand} {ops:Array Oper} {Q:Exit→Act→aj→Prop} {rest:List Oper} {d:Nat} {pos:String} {after:Array Edge}
theorem ak6{r:Nat}{seen:Array Nat}{dn rs:List (K × V)}(m:Mem w0 w is)(k:Nat)(hk:is[k]? = some (iI r g c seen))(hx:Go.Lith.ev l x=.pointer (some ⟨r,0,none⟩))(hM:iW w g es c)(hD:bJ ek ev D es c)(hT:tN ek ev D es seen dn rs)
 (h:∀b kv vv seen' u,Mem w0 u (is.set k (iI r g c seen'))→anP ek ev D es dn rs b seen'→au P ops Q rest (Fr (l.set d (Gp b kv vv)) ds) u) :
 au P ops Q (Oper.mk (some d) (.next x false) ty pos after none::rest) (Fr l ds) w:=by
 have hI:=m.r k hk;obtain⟨b,kv,vv,seen',w1,hw1,hr,hN⟩:=ahq (P:=P) (ty:=ty) hI hM hD hT;refine mK (w':=setBlock w1 r (.mapIter (some g) c seen' c)) (v:=Gp b kv vv) (fun o ho hty=>by simp[execOp,ho,cJ,hx,hty,hr]) (h b kv vv seen' _ ?_ hN);have e1:w1.heap=w.heap∧w1.os=w.os∧w1.tape=w.tape∧w1.output=w.output:=by rcases hw1 with rfl | rfl <;> exact⟨rfl,rfl,rfl,rfl⟩
 refine m.put k hk e1.2.1 e1.2.2.1 e1.2.2.2 (by simp[setBlock,e1.1]) (fun b' _ hne=>?_) ?_ (.inl fun _ h=>h)
 · have:b'≠r:=fun e=>hne (by rw[e];rfl)
   simp only[setBlock,e1.1];exact Array.getElem?_setIfInBounds_ne (Ne.symm this)
 · exact jU (w:=w1) (o:=.mapIter (some g) c seen c) (by rw[e1.1];exact hI)
theorem acF{r:Nat}{seen:Array Nat}{dn rs:List (K × V)}{k:K}{v:V}(hx:Go.Lith.ev l x=.pointer (some ⟨r,0,none⟩))(hI:sC w r g c seen c)(hM:iW w g es c)(hD:bJ ek ev D es c)(hT:yS ek ev D es seen dn k v rs) :
 Bq P l (.entry x) ty (.tuple #[ek k,ev v]) w:=fun o ho _=>by
 have:=aew (P:=P) hI hM hD hT;simp[execOp,ho,cJ,hx,this]
theorem ak7{a:K}{va:V}{T2:av}{seen:Array Nat}{dn rs:List (K × V)}(m:Mem w0 w is)(k:Nat)(hk:is[k]? = some (mI g es c))(hu:P.underlying M=some (.map T E))(kt:sQ P T ek)(hx:Go.Lith.ev l x=.map (some g))(hy:Go.Lith.ev l y=ek a)(hD:bJ ek ev D es c)
 (hn:(D.map (·.1)).Nodup) (hT:yS ek ev D es seen dn a va rs) {a0:Array av} (ha:a0 = #[M,T2])
 (h:∀es' u,Mem w0 u (is.set k (mI g es' c))→bJ ek ev (Dg D a) es' c→tN ek ev (Dg D a) es' seen dn rs→au P ops Q rest (Fr l ds) u):au P ops Q (Oper.mk none (.call { callee:=.builtin .delete,args:=#[x,y],argTypes:=a0 }) ty pos after none::rest) (Fr l ds) w:=by
 subst ha;have hM:=m.p k hk;have hC:=fun es' c'=>pY (w:=w) (g:=g) (.map es' c');refine ank fun o ho=>?_;obtain⟨es',hr,hD',hT'⟩:=acD (T2:=T2) (ty:=o.type) hu kt hM hD hn hT;exact⟨.tuple #[],setBlock w g (.map es' c),by simp[execOp,ho,resolve,invoke,builtin,cJ,hx,hy,hr],h es' _ (m.put k hk (hC es' c).os (hC es' c).tape (hC es' c).output (by rw[(hC es' c).size];exact ao _) (fun b _ hne=>(hC es' c).block b fun e=>hne (by rw[e];rfl)) (jU hM) (.inl fun _ h=>h)) hD' hT'⟩
theorem ak8{v va:V}{a:K}{seen:Array Nat}{dn rs:List (K × V)}(m:Mem w0 w is)(k:Nat)(hk:is[k]? = some (mI g es c))(hu:P.underlying M=some (.map T E))(kt:sQ P T ek)(hx:Go.Lith.ev l x=.map (some g))(hy:Go.Lith.ev l y=ek a)(hz:Go.Lith.ev l z=ev v)(hD:bJ ek ev D es c)
 (hn:(D.map (·.1)).Nodup) (hT:yS ek ev D es seen dn a va rs)
 (h:∀es' u,Mem w0 u (is.set k (mI g es' c))→bJ ek ev (fJ D a v) es' c→tN ek ev (fJ D a v) es' seen (dn++[(a,v)]) rs→au P ops Q rest (Fr l ds) u):au P ops Q (Oper.mk none (.mapUpdate M x y z) ty pos after none::rest) (Fr l ds) w:=by
 have hM:=m.p k hk;obtain⟨es',hr,hD',hT'⟩:=acE hu kt hM hD hn hT v;have hC:=pY (w:=w) (g:=g) (.map es' c);refine Ij (w':=setBlock w g (.map es' c)) (fun o ho=>by simp[execOp,ho,cJ,hx,hy,hz,hr]) (h es' _ ?_ hD' hT');exact m.put k hk hC.os hC.tape hC.output (by rw[hC.size];exact ao _) (fun b _ hne=>hC.block b fun e=>hne (by rw[e];rfl)) (jU hM) (.inl fun _ h=>h)
end
end Go.Lith
namespace Go.Proofs.YtfekpcimgncioaaGreatDoor
open Go.Proofs.Tryz
open Go.RowKit Go.Lith
set_option maxRecDepth 100000
attribute [local irreducible] au cu fA bF cG Code.wp
attribute [local congr] nO fK fM fN fO fP iY fQ fR fS fT fU fV fW fX fY fZ gA dX dY gB gC gE gF gG jA cQ cR cE cP gD iZ dZ eA eB gH gI jD
variable{R0:It}{q60 c60 g16:Nat}{cc:lU}
theorem ak9:sQ prog 56 ed:=by
 refine sQ.agg (cs:=fun p=>#[.int .i64 p.1.x,.int .i64 p.1.y,.int .i64 p.1.z,.int .i64 p.2.x,.int .i64 p.2.y,.int .i64 p.2.z]) (fun _=>rfl) Nv (fun e p=>?_) (fun p q=>?_) (fun p=>?_)
 · refine xO.array (d:=9999) Nv aA fun i hi=>?_
   obtain rfl | rfl:=(by omega:i=0∨i=1)
   · refine⟨_,cS aH aA rfl,?_⟩
     refine xO.struct (d:=9998) vC fun f hf=>?_;simp only[an,cl,or_false] at hf;rcases hf with rfl | rfl | rfl
     · exact⟨_,cW cC rfl,xO.int (d:=9997) lA⟩
     · exact⟨_,cW cC rfl,xO.int (d:=9997) lA⟩
     · exact⟨_,cW cC rfl,xO.int (d:=9997) lA⟩
   · refine⟨_,cS aH aA rfl,?_⟩
     refine xO.struct (d:=9998) vC fun f hf=>?_;simp only[an,cl,or_false] at hf;rcases hf with rfl | rfl | rfl
     · exact⟨_,cW cC rfl,xO.int (d:=9997) lA⟩
     · exact⟨_,cW cC rfl,xO.int (d:=9997) lA⟩
     · exact⟨_,cW cC rfl,xO.int (d:=9997) lA⟩
 · exact (adj _).iff ⟨fun h=>Prod.ext (P3.eq h.1 h.2.1 h.2.2.1) (P3.eq h.2.2.2.1 h.2.2.2.2.1 h.2.2.2.2.2),fun h=>by subst h;simp only[and_self]⟩
 · simp[ed,Instr.sameBits]
theorem asV:oS prog 95 (W 0):=by rw[Zh];exact Zr
theorem afO:oS prog 97 (qV q0):=by rw[←zqV];exact alW
def qM(D:List (E3 × Int))(Q:P3→List Int):Prop:=∀k v,cD D k=some v→v=tI Q k.1 k.2
theorem qM.put{D:List (E3 × Int)}{Q:P3→List Int}(h:qM D Q)(p q:P3):qM (fJ D (p,q) (tI Q p q)) Q:=fun k v hv=>by
 rw[kN] at hv;split at hv
 · rename_i e;cases e;cases hv;rfl
 · exact h k v hv
structure QOK(Dq:List (P3 × List Int))(Q:P3→List Int)(B:Nat):Prop where
 get:∀x,(cD Dq x).getD q0=Q x
 len:∀x,(Q x).length=10
 bd:∀x,Ho B (Q x)
theorem ard{w0 w:aj}{g60 g61 q61 c61 B:Nat}{es60 es61:Array de}{Dc:List (E3 × Int)}{Dq:List (P3 × List Int)}{Q:P3→List Int}{p q:P3}[I3 p][I3 q](m:Mem w0 w [bI g60 [.map (some q60)] 100,bI g61 [.map (some q61)] 93,mI q60 es60 c60,mI q61 es61 c61,R0])(hD60:bJ ed W Dc es60 c60)(hD61:bJ pt qV Dq es61 c61)(hC:qM Dc Q)(hnC:(Dc.map (·.1)).Nodup)(hQ:QOK Dq Q B)(hB:B≤800000):wX prog 59 [pt p,pt q,.pointer (some ⟨g60,0,none⟩),.pointer (some ⟨g61,0,none⟩)] w fun v w'=>∃(es:Array de) (c:Nat) (D:List (E3 × Int)),v=W (tI Q p q)∧Mem w0 w' [bI g60 [.map (some q60)] 100,bI g61 [.map (some q61)] 93,mI q60 es c,mI q61 es61 c61,R0]∧bJ ed W D es c∧qM D Q∧(D.map (·.1)).Nodup:=by
 refine⟨bP func59 (by kernel_rfl),?_⟩;obtain rfl:(fun x=>(cD Dq x).getD q0)=Q:=funext hQ.get;have hlp:((cD Dq p).getD q0).length=10:=hQ.len p;have hlq:((cD Dq q).getD q0).length=10:=hQ.len q;have hbp:Ho B ((cD Dq p).getD q0):=hQ.bd p;have hbq:Ho B ((cD Dq q).getD q0):=hQ.bd q
 go_enter func59,ntmps59
 apply mR 12 [3,2,1,0] m;simp only[↓aC,↓eW,vN,aap,aU,Dw,aa];intro g71 g72 g73 u m;refine gK (Wv (ek:=ed) (en:=W) (k:=(p,q)) (v0:=0) underlying100 asV ak9 rfl rfl (m.p 5 rfl) hD60) ?_;simp only[zz];apply kP 13 [0,0] m;simp only[↓aC,↓eW,vN,jZ,aa];intro g74 u m;refine eG rfl ?_ ?_<;>intro hc1
 ·
  apply aK 1 [0] m;simp only[↓aC];refine dA m 9 aD (by kernel_rfl) ?_;simp only[zy];refine ql rfl (fun u m=>((m.b 5 rfl).lies1 aiq rfl)) ?_;simp only[zz];refine ql rfl (fun u m=>((m.b 3 rfl).full aH aA)) ?_;simp only[zz];refine kK (fun u m=>eE (ek:=pt) (en:=qV) (k:=p) (v0:=q0) Rt afO gU rfl rfl (m.p 7 rfl) hD61) ?_;simp only[zz];refine ql rfl (fun u m=>((m.b 5 rfl).lies1 aiq rfl)) ?_;simp only[zz];refine ql rfl (fun u m=>((m.b 2 rfl).full aH aA)) ?_;simp only[zz];refine kK (fun u m=>eE (ek:=pt) (en:=qV) (k:=q) (v0:=q0) Rt afO gU rfl rfl (m.p 7 rfl) hD61) ?_;simp only[zz];refine jJ rfl rfl (aep hlp hlq hbp hbq (by omega)) ?_;simp only[zz];refine ql rfl (fun u m=>((m.b 2 rfl).full aH aA)) ?_;simp only[zz];refine jJ rfl rfl (asT (Px hbp hbq) (lL hlp hlq) (by omega)) (bE ?_);intro u m;simp only[zz];refine cU m 0 rfl rfl rfl aV (kG rfl) rfl ?_;intro u m;simp only[zy,zx,over,zF,zG,aa] at m;refine aN ?_;apply aW 6 [4,3,2,0,0] m;simp only[↓aC,↓eW,aap,aU,Dw,jZ,aa];refine nN (ek:=ed) (en:=W) (a:=(p,q)) (v:=(tI (fun x=>(cD Dq x).getD q0) p q)) m 6 rfl underlying100 ak9 rfl rfl rfl hD60 ?_;intro es60 c60 u m hD60;simp only[zF,zG] at m;apply kP 7 [0,1] m;simp only[↓aC,↓eW,jZ,aa];intro u m;exact aT rfl ⟨_,rfl,((m.b 1 rfl).full eN aV)⟩ ⟨_,rfl,_,_,_,rfl,m.sel [false,false,false,false,true,true,true,true,true],hD60,hC.put p q,vE hnC _ _⟩
 ·
  obtain⟨y,hy⟩:∃y,cD Dc (p,q)=some y:=Option.isSome_iff_exists.1 (by simpa using hc1);obtain rfl:=hC _ _ hy;simp only[hy,dx] at m;apply zvc 7 [0,1] m;simp only[↓aC,↓eW,jZ,aa];intro u m;exact aT rfl ⟨_,rfl,((m.b 1 rfl).full eN aV)⟩ ⟨_,rfl,_,_,_,rfl,m.sel [false,false,false,false,true,true,true,true,true],hD60,hC,hnC⟩
theorem ala{K V:Type}[DecidableEq K]{ek:K→ai}{ev:V→ai}{D dn rs:List (K × V)}{es:Array de}{b:Bool}{sn:Array Nat}(hb:b=false)(h:anP ek ev D es dn rs b sn):rs=[]:=by
 rcases h with ⟨_,h⟩ | ⟨h,_⟩
 · exact h
 · rw[h] at hb;cases hb
theorem alb{K V:Type}[DecidableEq K]{ek:K→ai}{ev:V→ai}{D dn rs:List (K × V)}{es:Array de}{b:Bool}{sn:Array Nat}(hb:b=true)(h:anP ek ev D es dn rs b sn):∃k v rs',rs.Perm ((k,v)::rs')∧yS ek ev D es sn dn k v rs':=by
 rcases h with ⟨h,_⟩ | ⟨_,h⟩
 · rw[h] at hb;cases hb
 · exact h
theorem anR(a b:P3):decide (a.x=b.x∧a.y=b.y∧a.z=b.z)=decide (a=b):=decide_eq_decide.2 ⟨fun h=>P3.eq h.1 h.2.1 h.2.2,fun h=>by rw[h];exact⟨rfl,rfl,rfl⟩⟩
def alc(v:P3)(k:E3):Bool:=decide (k.1=v)||decide (k.2=v)
theorem ald{k:E3}{x:Int}(w:aj)(hB16:gT w g16 (sZ cc) 112):dK prog 67 [ed k,W x,.pointer (some ⟨g16,0,none⟩)] w (fun v _=>v=.bool (alc cc.v k)):=by
 refine⟨bP func67 (by kernel_rfl),?_⟩;have m:=Mem.refl w
 go_enter func67,ntmps67
 apply mR 11 [1,0] m;simp only[↓aC,↓eW,Gr,aU,vO,ad,ah,aa];intro g1 g2;refine⟨by omega,?_⟩;intro u m;refine aR rfl ((hB16.ext m.ext).lies aH aA rfl rfl) ?_;simp only[zz,zy,ar,aa,ah,ad];refine aB (bZ rfl rfl) ?_;apply aL 1 [0] m;simp only[↓aC];refine dG rfl (fun hb=>aJ Nv aA rfl rfl (by decide) (by decide) rfl) ?_;simp only[zz];refine eY rfl (fun hb=>aZ (bB hb rfl) ((m.b 1 rfl).lies aH aA rfl rfl)) ?_;simp only[zz,zy,ar,aa,ah,ad];refine dG rfl (fun hb=>bH (c:=2) Ac rfl aA rfl rfl) ?_;simp only[zz];refine eY rfl (fun hb=>aZ (bB hb rfl) ((hB16.ext m.ext).lies aH aA rfl rfl)) ?_;simp only[zz,zy,ar,aa,ah,ad];refine dG rfl (fun hb=>bZ (bB hb rfl) (bB hb rfl)) (aB (eD rfl rfl rfl) ?_);apply aL 3 [] m;simp only[↓aC];refine aT rfl rfl ?_;try simp only[zD,zE]
 exact⟨_,rfl,m.ext,by rw[anR,anR];rfl⟩
theorem ale{w0 w:aj}{es60:Array de}{D0:List (E3 × Int)}(m:Mem w0 w [mI q60 es60 c60,bI g16 (sZ cc) 112,R0])(hD60:bJ ed W D0 es60 c60)(hn0:(D0.map (·.1)).Nodup):wX prog 66 [.map (some q60),.func (.func 67) #[] #[.pointer (some ⟨g16,0,none⟩)]] w fun v w'=>∃(es:Array de) (D:List (E3 × Int)),v=.tuple #[]∧Mem w0 w' [mI q60 es c60,bI g16 (sZ cc) 112,R0]∧bJ ed W D es c60∧(D.map (·.1)).Nodup∧∀k v,cD D k=some v→cD D0 k=some v∧alc cc.v k=false:=by
 refine⟨bP func66 (by kernel_rfl),?_⟩
 go_enter func66,ntmps66
 apply fG 3 [0] m;simp only[↓aC];refine xG m underlying100 rfl (m.p 0 rfl) ?_;intro r1 u m;apply aL 2 [0] m;simp only[↓aC];refine bX [] [4,5,8,9,10,11,12,13,14,15,16,17,18] (fun n vs wl=>∃(D dn rs:List (E3 × Int)) (sn:Array Nat) (es:Array de),vs=[]∧Mem w0 wl [iI r1 q60 c60 sn,mI q60 es c60,bI g16 (sZ cc) 112,R0]∧(bJ ed W D es c60)∧((D.map (·.1)).Nodup)∧(tN ed W D es sn dn rs)∧(∀x∈dn,alc cc.v x.1=false)∧(∀k v,cD D k=some v→cD D0 k=some v)∧(n=rs.length)) ?_ ?_
 ·
  exact⟨_,D0,[],D0,#[],es60,rfl,m,hD60,hn0,tN.start hD60,(fun x h=>(by cases h)),(fun _ _ h=>h),rfl⟩
 · intro n vs wr hI u K1 hK1
   obtain⟨D,dn,rs,sn,es60,rfl,m,hD60,hnD,hT,hb0,hs0,hn⟩:=hI;simp only[zu,zF,zG];apply aK 2 [0] m;simp only[↓aC];refine ak6 m 0 rfl rfl (m.p 1 rfl) hD60 hT ?_;intro bb kk vv sn u m hN;simp only[zF,zG] at m;refine aB (pZ rfl) ?_;apply aL 2 [0] m;simp only[↓aC];refine eG rfl ?_ ?_<;>intro hc1
   ·
    obtain⟨kp,kb,rs2,hp,hT2⟩:=alb hc1 hN;apply aK 4 [0] m;simp only[↓aC];refine gK (acF rfl (m.r 0 rfl) (m.p 1 rfl) hD60 hT2) ?_;simp only[zz];apply kP 12 [1,0,1,0,0] m;simp only[↓aC,↓eW,Sv,vN,wV,jZ,aa];intro g72 g73 u m;refine cM m rfl rfl (ald (k:=kp) (x:=kb) _ (m.b 4 rfl)) ?_;rintro v u m rfl;apply aL 1 [0] m;simp only[↓aC];refine eG rfl ?_ ?_<;>intro hc2
    ·
     apply aK 3 [1,0] m;simp only[↓aC,↓eW,wV];refine ak7 (ek:=ed) (ev:=W) (a:=kp) m 3 rfl underlying100 ak9 rfl rfl hD60 hnD hT2 rfl ?_;intro es60 u m hD60 hT';simp only[zF,zG] at m;apply aL 2 [0] m;simp only[↓aC];exact hK1 rs2.length _ _ (by rw[hn,hp.length_eq];exact fg _) (by kernel_rfl) ⟨Dg D kp,dn,rs2,_,_,rfl,(m.sel [false,false,true,true,true,true]),hD60,ado hnD kp,hT',hb0,(fun k v h=>hs0 k v (by rw[Wt _ _ hnD] at h;split at h;cases h;exact h)),rfl⟩
    ·
     apply aK 2 [0] m;simp only[↓aC];exact hK1 rs2.length _ _ (by rw[hn,hp.length_eq];exact fg _) (by kernel_rfl) ⟨D,dn++[(kp,kb)],rs2,_,_,rfl,(m.sel [false,false,true,true,true,true]),hD60,hnD,hT2.stay,(fun x hx=>(br.1 hx).elim (hb0 x) fun h=>(by rw[az.1 h];exact hc2)),hs0,rfl⟩
   ·
    obtain rfl:=ala hc1 hN;apply aK 1 [0] m;simp only[↓aC];exact Gf rfl ⟨_,rfl,_,D,rfl,m.sel [false,true,true,true],hD60,hnD,fun k v h=>⟨hs0 k v h,hb0 (k,v) (hT.done.mem_iff.2 (sD h))⟩⟩
end Go.Proofs.YtfekpcimgncioaaGreatDoor
namespace Go.Proofs.YtfekpcimgncioaaGreatDoor
open Go.Proofs.Tryz
open Go.RowKit Go.Lith
set_option maxRecDepth 100000
attribute [local irreducible] au cu fA bF cG Code.wp
variable{u q k x:P3}{l:List T3}{S:List P3}{cs:List lU}{D:List Mv}
theorem anS{B:Nat}{Q:P3→List Int}(hl:∀x,(Q x).length=10)(hb:∀x,Ho B (Q x))(hB:B≤800000)(u:P3){v:P3}(hv:I3 v):Bd 900000 (tI Q u v):=by
 unfold tI;rw[←ai7 (lL (hl u) (hl v))];exact (adM (Px (hb u) (hb v)) (lL (hl u) (hl v)) (bd4 hv) rfl 10 (ao _)).mono (by omega)
theorem QOK.upd{Dq:List (P3 × List Int)}{Q:P3→List Int}{B:Nat}(h:QOK Dq Q B)(u v:P3):QOK (fJ Dq v (Fw (Q u) (Q v))) (By Q u v) (B+1) where
 get x:=by
  rw[kN];unfold By;by_cases e:v=x
  · rw[if_pos e,if_pos e.symm];rfl
  · rw[if_neg e,if_neg fun k=>e k.symm];exact h.get x
 len x:=by
  unfold By;split
  · exact lL (h.len u) (h.len v)
  · exact h.len x
 bd x:=by
  unfold By;split
  · exact Px (h.bd u) (h.bd v)
  · exact (h.bd x).mono (qg B)
theorem QOK.mono{Dq:List (P3 × List Int)}{Q:P3→List Int}{B C:Nat}(h:QOK Dq Q B)(hB:B≤C):QOK Dq Q C:=⟨h.get,h.len,fun x=>(h.bd x).mono hB⟩
theorem qM.upd{D D1:List (E3 × Int)}{Q:P3→List Int}{v:P3}(h:qM D Q)(h1:∀k x,cD D1 k=some x→cD D k=some x∧alc v k=false):qM D1 (By Q u v):=fun k x hx=>by
 obtain⟨h2,h3⟩:=h1 k x hx;rw[h k x h2];simp only[alc,Bool.or_eq_false_iff,decide_eq_false_iff_not] at h3;unfold tI By;rw[if_neg h3.1,if_neg h3.2]
theorem qM.nil(Q:P3→List Int):qM [] Q:=fun _ _ h=>by cases h
/-! ### The quadrics of the corners -/
def Ky(l:List T3)(S:List P3)(Dq:List (P3 × List Int)):Prop:=∀x,(cD Dq x).getD q0=if x∈S then sV l x else q0
theorem Ky.nil(l:List T3):Ky l [] []:=fun _=>rfl
theorem Ky.put{ps:List P3}{k:Nat}{p:P3}{Dq:List (P3 × List Int)}(h:Ky l (ps.take k) Dq)(hp:ps[k]? = some p):Ky l (ps.take (k+1)) (fJ Dq p (sV l p)):=fun x=>by
 rw[kN,bY hp];by_cases e:p=x
 · subst e
   rw[if_pos rfl,if_pos (gn _ (az.2 rfl))];rfl
 · rw[if_neg e,h x]
   have:x∈ps.take k++[p]↔x∈ps.take k:=by
    rw[br,az];exact⟨fun h=>h.resolve_right fun k=>e k.symm,.inl⟩
   simp only[this]
theorem alf{p:P3}(h:p∉cA l):sV l p=q0:=by
 unfold sV;rw[List.filter_eq_nil_iff.2 fun t ht hp=>h (qA ht hp)];rfl
theorem Ky.ok{l:List T3}{ps:List P3}{Dq:List (P3 × List Int)}(h:Ky l ps Dq)(hps:∀a,a∈ps↔a∈cA l)(hI:∀t∈l,IT t):QOK Dq (sV l) (602+l.length) where
 get x:=by
  rw[h x];split
  · rfl
  · rename_i e;rw[alf fun k=>e ((hps x).2 k)]
 len x:=by have:=Bk (ts:=l) (p:=x) l.length (ao _);rwa [gt] at this
 bd x:=by have:=aaX (p:=x) hI l.length (ao _);rwa [gt] at this
theorem Bl(hI:∀t∈l,IT t){p:P3}(h:p∈cA l):I3 p:=by
 obtain⟨t,ht,hp⟩:=dl.1 (show p∈l.flatMap fun t=>[t.a,t.b,t.c] from h);have:=hI t ht;simp only[an,cl,or_false] at hp;rcases hp with rfl | rfl | rfl
 · exact this.a
 · exact this.b
 · exact this.c
theorem No{p:P3}(h:Me l p q=true):p∈cA l∧q∈cA l:=by
 simp only[Me,ba,mN,ew] at h;obtain⟨_,t,ht,h⟩:=h;exact⟨qA ht h.1,qA ht h.2⟩
/-! ### Candidates -/
def Gc(l:List T3)(Q:P3→List Int)(S:List P3)(cs:List lU):Prop:=∀d,d∈cs↔d.u∈S∧Uv (aY l) d.u=false∧Me l d.u d.v=true∧d.c=tI Q d.u d.v
def aex(l:List T3)(Q:P3→List Int)(S:List P3)(p:P3)(S2:List P3)(cs:List lU):Prop:=∀d,d∈cs↔(d.u∈S∧Uv (aY l) d.u=false∧Me l d.u d.v=true∧d.c=tI Q d.u d.v)∨(d.u=p∧d.v∈S2∧d.c=tI Q d.u d.v)
theorem Gc.nil(l:List T3)(Q:P3→List Int):Gc l Q [] []:=fun d=>by simp
theorem Gc.skip{Q:P3→List Int}{p:P3}(h:Gc l Q S cs)(hb:Uv (aY l) p=true):Gc l Q (S++[p]) cs:=fun d=>by
 rw[h d];constructor
 · rintro⟨h1,h2⟩;exact⟨ig _ h1,h2⟩
 · rintro⟨h1,h2,h3⟩
   rcases br.1 h1 with h1 | h1
   · exact⟨h1,h2,h3⟩
   · rw[az.1 h1,hb] at h2;cases h2
theorem Gc.start{Q:P3→List Int}(h:Gc l Q S cs)(p:P3):aex l Q S p [] cs:=fun d=>by rw[h d];simp
theorem aex.put{Q:P3→List Int}{S2:List P3}{p:P3}(h:aex l Q S p S2 cs):aex l Q S p (S2++[q]) (cs++[⟨p,q,tI Q p q⟩]):=fun d=>by
 rw[br,h d,br,az,az];constructor
 · rintro ((h1 | ⟨h1,h2,h3⟩) | rfl)
   · exact .inl h1
   · exact .inr ⟨h1,.inl h2,h3⟩
   · exact .inr ⟨rfl,.inr rfl,rfl⟩
 · rintro (h1 | ⟨h1,h2 | h2,h3⟩)
   · exact .inl (.inl h1)
   · exact .inl (.inr ⟨h1,h2,h3⟩)
   · refine .inr ?_
     obtain⟨du,dv,dc⟩:=d;simp only at h1 h2 h3;subst h1;subst h2;subst h3;rfl
theorem aex.done{Q:P3→List Int}{S2:List P3}{p:P3}(h:aex l Q S p S2 cs)(hb:Uv (aY l) p=false)(hS:∀x,x∈S2↔Me l p x=true):Gc l Q (S++[p]) cs:=fun d=>by
 rw[h d,br,az];constructor
 · rintro (⟨h1,h2⟩ | ⟨h1,h2,h3⟩)
   · exact⟨.inl h1,h2⟩
   · rw[hS] at h2;subst h1;exact⟨.inr rfl,hb,h2,h3⟩
 · rintro⟨h1 | h1,h2,h3,h4⟩
   · exact .inl ⟨h1,h2,h3,h4⟩
   · refine .inr ⟨h1,?_,h4⟩;rw[hS,←h1];exact h3
theorem Gc.all{Q:P3→List Int}(h:Gc l Q S cs)(hS:∀x,x∈S↔x∈cA l)(d:lU):d∈cs↔d∈adK l Q:=by
 rw[h d,Pw,hS];exact⟨fun h=>h.2,fun h=>⟨(No h.2.1).1,h⟩⟩
/-! ### The moves -/
def Ep(S:List P3)(u v:P3)(D:List Mv):List Mv:=D.map fun e=>(e.1,if e.1∈S then jW u v e.2 else e.2)
theorem acG(u v:P3)(D:List Mv):Ep [] u v D=D:=by simp[Ep]
theorem Ft(S:List P3)(u v:P3)(D:List Mv):(Ep S u v D).map (·.1)=D.map (·.1):=by simp[Ep,Function.comp_def]
theorem alg{v:P3}(h:∀e∈D,e.1∈S):fJ (Ep S u v D) u v=Lf D u v:=by
 unfold Ep Lf;rw[ik fun e he=>by rw[if_pos (h e he)]]
theorem acH{K V:Type}[DecidableEq K]:∀{D:List (K × V)} {k:K} {x:V},(D.map (·.1)).Nodup→k∈D.map (·.1)→fJ D k x=D.map fun e=>(e.1,if e.1=k then x else e.2)
 | [],_,_,_,h=>by cases h
 | e::D,k,x,hn,h=>by
  rw[bp,f_] at hn;by_cases hk:e.1=k
  · subst hk
    have:∀f∈D,((f.1,if f.1=e.1 then x else f.2):K × V)=f:=fun f hf=>by
     rw[if_neg fun k:f.1=e.1=>hn.1 (by rw[←k];exact fj (f:=fun x:K × V=>x.1) hf)]
    simp only[fJ,bp,if_pos];rw[ik this,List.map_id']
  · have h2:k∈D.map (·.1):=by
     rcases an.1 h with h | h
     · exact absurd h.symm hk
     · exact h
    simp only[fJ,bp,if_neg hk];rw[acH hn.2 h2]
theorem alh{v:P3}(hn:(D.map (·.1)).Nodup)(hk:(k,x)∈Ep S u v D)(hS:k∉S)(hx:x=u):fJ (Ep S u v D) k v=Ep (S++[k]) u v D:=by
 have hk1:k∈(Ep S u v D).map (·.1):=fj (f:=(·.1)) hk;rw[acH (by rw[Ft];exact hn) hk1];unfold Ep at hk ⊢;obtain⟨e,he,h⟩:=cw.1 hk;cases h;rw[if_neg hS] at hx;rw[List.map_map];refine ik fun f hf=>?_;simp only[Function.comp_apply];by_cases hfe:f.1=e.1
 · have:f=e:=by
    obtain⟨i,hi⟩:=fb.1 hf;obtain⟨j,hj⟩:=fb.1 he;have h1:i=j:=Un hn (k:=e.1) (v:=f.2) (u:=e.2) (by rw[hi,←hfe]) hj;rw[h1,hj] at hi;exact (ep hi).symm
   subst this;rw[if_pos rfl,if_pos (gn S (az.2 rfl))];unfold jW;rw[if_pos hx]
 · rw[if_neg hfe]
   have:f.1∈S++[e.1]↔f.1∈S:=by simp[hfe]
   simp only[this]
theorem ahr{v:P3}(hn:(D.map (·.1)).Nodup)(hk:(k,x)∈Ep S u v D)(hS:k∉S)(hx:x≠u):Ep S u v D=Ep (S++[k]) u v D:=by
 unfold Ep at hk ⊢;obtain⟨e,he,h⟩:=cw.1 hk;cases h;rw[if_neg hS] at hx;refine ik fun f hf=>?_;by_cases hfe:f.1=e.1
 · have:f=e:=by
    obtain⟨i,hi⟩:=fb.1 hf;obtain⟨j,hj⟩:=fb.1 he;have h1:i=j:=Un hn (k:=e.1) (v:=f.2) (u:=e.2) (by rw[hi,←hfe]) hj;rw[h1,hj] at hi;exact (ep hi).symm
   subst this;rw[if_neg hS,if_pos (gn S (az.2 rfl))];unfold jW;rw[if_neg hx]
 · have:f.1∈S++[e.1]↔f.1∈S:=by simp[hfe]
   simp only[this]
theorem ali{V:Type}{ek:P3→ai}{ev:V→ai}{D dn rs:List (P3 × V)}{es:Array de}{sn:Array Nat}{x:V}(hn:(D.map (·.1)).Nodup)(h:yS ek ev D es sn dn k x rs):k∉dn.map (·.1)∧(k,x)∈D:=by
 have hp:=h.1.1;refine⟨fun hk=>?_,hp.mem_iff.1 (by simp)⟩;have h1:=(hp.map (·.1)).nodup_iff.2 hn;simp only[ct,bp,dt,da] at h1;exact (jc.1 h1).2.2 k hk k (by simp) rfl
theorem are(hn:(D.map (·.1)).Nodup)(u v:P3):((Lf D u v).map (·.1)).Nodup:=by
 unfold Lf;exact vE (by rw[List.map_map];exact hn) u v
theorem ahs{l:List T3}{want:Int}{Q:P3→List Int}{D:List Mv}{c:lU}(hw:0≤want)(h:¬(l.length:Int)≤want)(hb:oM l Q=some c) :
 eU l.length want l Q D=eU (eZ l c.u c.v).length want (eZ l c.u c.v) (By Q c.u c.v) (Lf D c.u c.v):=by
 have h1:=lK hb;obtain⟨n,hn⟩:∃n,l.length=n+1:=⟨l.length-1,by omega⟩
 rw[hn]
 conv=>lhs;unfold eU
 rw[if_neg h,hb];exact Xj n _ want _ _ _ (by omega) (ao _) hw
theorem acI{want:Int}{Q:P3→List Int}(h:(l.length:Int)≤want∨oM l Q=none):eU l.length want l Q D=(l,D):=by
 rcases h with h | h
 · exact ai2 h
 · cases hl:l.length with
   | zero=>rfl
   | succ n =>
    unfold eU;split
    · rfl
    · rw[h]
theorem arf{w0 w:aj}{K R0:It}{g50 g90 ga gf N cap ca cf:Nat}{A:Option Addr}{ea ef:Array de}{D:List (P3 × Hd)}{F:List (P3 × Bool)}{ts:List T3}{cs:List lU}{n1 c1:Nat}{A1:Option Addr}{Q:P3→List Int}{B:Nat}(m:Mem w0 w [oI 112 8 A1 n1 c1 (cs.flatMap sZ),bI g50 [.pointer (some ⟨g90,0,none⟩)] 88,K,oI 39 9 A N cap (ts.flatMap aM),R0])(hK:∀u,K.P u→Kt 109 u g90 ga gf A N cap ea ef ca cf D ts)(hD:Ui ea ef ca cf D F ts)(hnd:∀t∈ts,t.nd=true)(hIT:∀t∈ts,IT t)(hN:ts.length≤1000000)(hl:∀x,(Q x).length=10)(hb:∀x,Ho B (Q x))(hB:B≤800000)(hC:Gc ts Q (D.map (·.1)) cs)(hn1:n1≤100000000) :
 wX prog 63 [.slice A1 n1 c1,.func (.func 64) #[] #[],.func (.func 65) #[] #[.pointer (some ⟨g50,0,none⟩)]] w fun v w'=>∃(c:lU) (b:Bool),v=.tuple #[aa1 c,.bool b]∧Mem w0 w' [bI g50 [.pointer (some ⟨g90,0,none⟩)] 88,K,oI 39 9 A N cap (ts.flatMap aM),R0]∧((b=false∧oM ts Q=none)∨(b=true∧oM ts Q=some c∧I3 c.u∧I3 c.v)):=by
 have hall:=hC.all (fun x=>hD.k x);have hI:∀c∈cs,I3 c.u∧I3 c.v:=fun c hc=>by
  have:=No ((hC c).1 hc).2.2.1;exact⟨Bl hIT this.1,Bl hIT this.2⟩
 refine (arc m hK hD hnd hIT hN hI (fun c hc=>by rw[((hC c).1 hc).2.2.2];exact anS hl hb hB c.u (hI c hc).2) hn1).mono ?_;rintro v w' ⟨h1,⟨rfl,h2⟩ | ⟨c,ys,j,rfl,hys,hso,hc,ha,hq⟩⟩
 · exact⟨⟨⟨0,0,0⟩,⟨0,0,0⟩,0⟩,false,by simp only[aa1,sZ,Ll];rfl,h1,.inl ⟨rfl,adZ hall h2⟩⟩
 · refine⟨c,true,rfl,h1,.inr ⟨rfl,adY (fun d=>by rw[hys.mem_iff];exact hall d) hso hc ha hq,hI c (hys.mem_iff.1 (bj hc))⟩⟩
end Go.Proofs.YtfekpcimgncioaaGreatDoor
namespace Go.Proofs.YtfekpcimgncioaaGreatDoor
open Go.Proofs.Tryz
open Go.RowKit Go.Lith
set_option maxRecDepth 100000
attribute [local irreducible] au cu fA bF cG Code.wp
attribute [local congr] nO fK fM fN fO fP iY fQ fR fS fT fU fV fW fX fY fZ gA dX dY gB gC gE gF gG jA cQ cR cE cP gD iZ dZ eA eB gH gI jD
variable{ts l:List T3}{N cap k c:Nat}{want:Int}{t:T3}{vt:P3→Bool}
theorem aey{A:Option Addr}(w:aj)(hT:bQ w A N ts)(hN:N≤300000):dK prog 57 [.slice A N cap] w (OR 30 3 (fun xs=>∃ps:List P3,xs=ps.flatMap dU∧rD ps∧∀a,a∈ps↔a∈cA ts) w):=by
 refine⟨bP func57 (by kernel_rfl),?_⟩;have m:=Mem.refl w
 go_enter func57,ntmps57
 apply fG 6 [0] m;simp only[↓aC];refine mE m ?_;intro q8 u m;have hD8:=bJ.nil (K:=P3) (V:=Bool) pt bm;apply aL 10 [0] m;simp only[↓aC,eV];refine bX [11] [5,7,12,13,14,15,16,17,18,19,20,21,22,23] (fun n vs wl=>∃(k:Nat) (es:Array de) (c:Nat),vs=[.int .i64 (k:Int)]∧Mem w wl [mI q8 es c]∧(bJ pt bm (Di [] (cA (ts.take k))) es c)∧(k≤N)∧(n=N-k)) ?_ ?_
 ·
  exact⟨_,0,_,_,rfl,m,hD8,cq _,rfl⟩
 ·
  intro n vs wr hI u K1 hK1;obtain⟨k,es,c,rfl,m,hD8,hk,hn⟩:=hI;simp only[zu,zF,zG];apply aK 5 [0,0] m;simp only[↓aC];refine bA rfl ?_ ?_<;>intro hc1
  ·
   obtain⟨t,ht,_,a,rfl,hrow⟩:=hT.get (i:=k) (by omega);apply aK 5 [0] m;simp only[↓aC];refine aB (aF bL aO rfl rfl (by omega) (by omega) (cH (ag _))) ?_;simp only[zz];refine aR rfl (((hrow.ext m.ext)).lies cK aO) ?_;simp only[zz];apply kP 22 [0,0,4,1,0] m;simp only[↓aC,nC,gX,aa];intro g2;refine⟨by omega,?_⟩;intro u m;refine aB (tX rfl rfl) ?_;apply kP 6 [0,0,0] m;simp only[↓aC,gM,aU,aa];intro g3 u m;refine mM m 2 ada rfl rfl (fun m=>ad4 (p:=t.a) m 2 rfl hD8) ?_;rintro v i u m ⟨rfl,es',c',rfl,hD'⟩;simp only[zF,zG] at m;simp only[zz];clear hD8;have hD8:=hD';clear hD';apply aL 18 [1,0] m;simp only[↓aC,am];refine⟨by omega,?_⟩;refine aB (tY rfl rfl) ?_;apply kP 6 [0,0,0] m;simp only[↓aC,gM,aU,aa];intro g4 u m;refine mM m 3 ada rfl rfl (fun m=>ad4 (p:=t.b) m 3 rfl hD8) ?_;rintro v i u m ⟨rfl,es',c',rfl,hD'⟩;simp only[zF,zG] at m;simp only[zz];clear hD8;have hD8:=hD';clear hD';apply aL 18 [1,0] m;simp only[↓aC,am];refine⟨by omega,?_⟩;refine aB (tZ rfl rfl) ?_;apply kP 6 [0,0,0] m;simp only[↓aC,gM,aU,aa];intro g5 u m;refine mM m 4 ada rfl rfl (fun m=>ad4 (p:=t.c) m 4 rfl hD8) ?_;rintro v i u m ⟨rfl,es',c',rfl,hD'⟩;simp only[zF,zG] at m;simp only[zz];clear hD8;have hD8:=hD';clear hD';apply aL 19 [2,0] m;simp only[↓aC,am];refine⟨by omega,?_⟩;exact hK1 (N-(k+1)) _ _ (by omega) (by kernel_rfl) ⟨k+1,_,_,rfl,(m.sel [false,false,false,false,true]),by rw[adu ht];exact hD8,by omega,rfl⟩
  ·
   have hkN:k=N:=by omega
   rw[hkN,show ts.take N=ts from bi (by rw[hT.len];exact ao _)] at hD8;apply aK 4 [0] m;simp only[↓aC];refine bC rfl rfl (agU _ (m.p 0 rfl) hD8 (by have h1:=Jg (cA ts) [];have h2:=uC ts;have h3:=hT.len;simp only[cd] at h1;omega)) ?_;rintro v u e_ ⟨A9,n9,cap9,_,rfl,h_,ps,rfl,hps,hso⟩;replace m:=m.newO e_ h_;apply aL 3 [] m;simp only[↓aC];exact aT rfl rfl ⟨_,rfl,m.ext,_,_,_,_,rfl,(m.o 0 rfl),ps,rfl,agx (hps.nodup_iff.2 (Od _ _ .nil)) hso,fun a=>by rw[hps.mem_iff,Wz];simp⟩
theorem kV(h:∀t∈l,IT t):∀t∈bK l,IT t:=fun t ht=>by
 obtain⟨s,hs,rfl⟩:=yG.1 ht;have:=h s hs;unfold dR;split
 · exact⟨this.c,this.a,this.b⟩
 · split
   · exact⟨this.b,this.c,this.a⟩
   · exact this
theorem Yo{ks:List P3}{a:P3}:a∈(gS [] ks).map (·.1)↔a∈ks:=by rw[vG];simp
theorem aht{ps:List P3}(h:rD ps)(hm:∀a,a∈ps↔a∈cA l):ps.length≤3*l.length:=by
 have hn:ps.Nodup:=List.Pairwise.imp (fun {a b} (h:P3.Lt a b) (e:a=b)=>P3.lt_irrefl b (by rw[e] at h;exact h)) h;have h1:=List.Nodup.length_le_of_subset hn (l₂:=cA l) fun x hx=>(hm x).1 hx;rw[uC] at h1;omega
theorem Gc.perm{Q:P3→List Int}{dn D:List (P3 × Hd)}{cs:List lU}(h:Gc l Q (dn.map (·.1)) cs)(hp:dn.Perm D):Gc l Q (D.map (·.1)) cs:=fun d=>by rw[h d,(hp.map (·.1)).mem_iff]
theorem aoK{D:List Mv}{p:P3}(h:(yB (D.map (·.1)))[k]? = some p):(iF D)[k]? = some (p,(cD D p).getD ⟨0,0,0⟩):=by
 have hm:p∈D.map (·.1):=(iP _).mem_iff.1 (bj h);obtain⟨y,hy⟩:∃y,cD D p=some y:=by
  cases hg:cD D p with
  | some y=>exact⟨y,rfl⟩
  | none=>exact absurd hm (kO.1 hg)
 unfold iF;rw[eh,h,hy];simp[hy]
theorem Yp{ea ef:Array de}{ca cf:Nat}{D:List (P3 × Hd)}{F:List (P3 × Bool)}(h:Ui ea ef ca cf D F l):D.length≤3*l.length:=by
 have h1:=List.Nodup.length_le_of_subset h.nk (l₂:=cA l) fun x hx=>(h.k x).1 hx;rw[bf,uC] at h1;omega
theorem anT(D:List Mv)(u v:P3):(Lf D u v).length≤D.length+1:=by
 have:=mY (D.map fun e=>(e.1,jW u v e.2)) u v;rwa [bf] at this
theorem uQ{D:List Mv}(h0:dC true (bK ts)=0)(h:eU (bK ts).length want (bK ts) (sV (bK ts)) []=(l,D)):eL ts want=(l,iF D):=by
 unfold eL;rw[if_neg (by rw[h0];simp),h]
theorem aez(h:¬dC true (bK ts)=0):eL ts want=(bK ts,[]):=by unfold eL;rw[if_pos h]
theorem mA{A:Option Addr}(w:aj)(hT0:bQ w A N ts)(hN:N≤2000)(hw:0≤want):dK prog 24 [.slice A N cap,.int .i64 want] w (fun v w'=>∃A1 n1 c1 A2 n2 c2,v=.tuple #[.slice A1 n1 c1,.slice A2 n2 c2]∧n1=(eL ts want).1.length∧n2=(eL ts want).2.length∧Mem w w' [oI 55 6 A2 n2 c2 ((eL ts want).2.flatMap bO),oI 39 9 A1 n1 c1 ((eL ts want).1.flatMap aM)]):=by
 refine⟨bP func24 (by kernel_rfl),?_⟩;have m:=Mem.refl w;have htl:=hT0.len;have hcl:=eH ts;have hit:∀t∈bK ts,IT t:=kV hT0.it;have hN2:(bK ts).length≤2000:=by omega
 go_enter func24,ntmps24
 apply fG 8 [0] m;simp only[↓aC];refine bC rfl rfl (ace _ (hT0.ext m.ext) (by omega)) ?_;rintro v u e_ ⟨A1,cap1,n1,hn1,rfl,h_⟩;replace m:=m.newO e_ h_;obtain rfl:n1=(bK ts).length:=by rw[hcl];exact hn1
 apply aL 6 [0] m;simp only[↓aC];refine cM m rfl rfl (Be _ ((m.o 0 rfl).tris hit) (by omega)) ?_;rintro v u m rfl;apply aL 2 [0,0] m;simp only[↓aC];refine bA rfl ?_ ?_<;>intro hc1
 ·
  apply aK 6 [] m;simp only[↓aC];replace m:=m.nilO 55 6;apply aW 1 [] m;simp only[↓aC];exact Ck rfl rfl rfl ⟨_,rfl,m.ext,_,_,_,_,_,_,rfl,by rw[aez hc1],by rw[aez hc1];rfl,by rw[aez hc1];exact m.sel [true,true]⟩
 ·
  have hc0:dC true (bK ts)=0:=by omega
  have hnd:=vT hc0;apply aK 3 [0] m;simp only[↓aC];refine mE m ?_;intro q61 u m;have hD61:=bJ.nil (K:=P3) (V:=List Int) pt qV;apply kP 7 [0,0] m;simp only[↓aC,↓eW,ar7,aff,aa];intro g2 u m;refine bC rfl rfl (aey _ ((m.o 2 rfl).tris hit) (by omega)) ?_;rintro v u e_ ⟨A3,n3,cap3,_,rfl,h_,ps,rfl,hso,hmem⟩;replace m:=m.newO e_ h_;obtain rfl:ps.length=n3:=by have:=(m.o 0 rfl).own.1;rw[aiK] at this;omega
  have hpl:ps.length≤10000000:=by have h1:=aht hso hmem;omega
  apply aL 4 [0] m;simp only[↓aC,lC];refine bX [33] [8,34,35,36,37,38,39,40,41,42] (fun n vs wl=>∃(k:Nat) (es:Array de) (c:Nat) (Dq:List (P3 × List Int)),vs=[.int .i64 (k:Int)]∧Mem w wl [oI 30 3 A3 ps.length cap3 (ps.flatMap dU),bI g2 [.map (some q61)] 93,mI q61 es c,oI 39 9 A1 (bK ts).length cap1 ((bK ts).flatMap aM)]∧(bJ pt qV Dq es c)∧(Ky (bK ts) (ps.take k) Dq)∧(k≤ps.length)∧(n=ps.length-k)) ?_ ?_
  ·
   exact⟨_,0,_,_,[],rfl,m,hD61,Ky.nil _,cq _,rfl⟩
  · intro n vs wr hI u K1 hK1
    obtain⟨k,es61,c61,Dq,rfl,m,hD61,hq1,hk,hn⟩:=hI;simp only[zu,zF,zG];apply aK 5 [0,0] m;simp only[↓aC];refine bA rfl ?_ ?_<;>intro hc2
    ·
     obtain⟨p,hp,a3,hA3,hr3⟩:=((m.o 0 rfl).lat (enc:=dU) (fun _=>rfl) (by decide)).get (i:=k) (by omega);subst hA3;apply aK 5 [0] m;simp only[↓aC];refine aB (aF eK aA rfl rfl (by omega) (by omega) (cH (ag _))) ?_;simp only[zz];refine aR rfl (show eQ _ _ _ _ (pt p) from hr3.lies aH aA) ?_;simp only[zz];apply kP 3 [0,0] m;simp only[↓aC,↓eW,gM,aU,aa];intro g3 u m;refine mh m [true,true,true,false,true] [(2,true),(0,true),(1,true),(3,true),(4,false),(5,false)] aD (by kernel_rfl) (bT (fun _ _ _ _ _ h=>h)) (ol:=?_) ?hol ?_
     case hol=>simp only[zw,zQ,zR];try rfl
     intro u m;refine Ps 4 [2,0,0] ?_;simp only[↓aC,↓eW,aff,aU];refine cF (cM m rfl rfl (aq8 (p:=p) _ ((m.o 4 rfl).tris hit) (by omega)) ?_);rintro v u m rfl;refine aN ⟨m.sel [true,true,true,false,true],?_⟩;refine cF ?_;simp only[zz];refine nN (ek:=pt) (en:=qV) (a:=p) (v:=(sV (bK ts) p)) m 3 rfl Rt gU rfl rfl rfl hD61 ?_;intro es61 c61 u m hD61;simp only[zF,zG] at m;refine aN ⟨m.sel [true,true,true,false,true],?_⟩;refine bV ?_;apply aW 5 [0] m;simp only[↓aC];refine⟨by omega,?_⟩;exact hK1 (ps.length-(k+1)) _ _ (by omega) (by kernel_rfl) ⟨k+1,_,_,_,rfl,(m.sel [false,true,true,true,true]),hD61,hq1.put hp,by omega,rfl⟩
    ·
     obtain rfl:k=ps.length:=by omega
     rw[bi (ao _)] at hq1;have hQ:=hq1.ok hmem hit;apply aK 3 [0] m;simp only[↓aC];refine mE m ?_;intro q62 u m;have hD62:=bJ.nil (K:=P3) (V:=P3) pt pt;apply aL 4 [0] m;simp only[↓aC];refine mE m ?_;intro q60 u m;have hD60:=bJ.nil (K:=E3) (V:=Int) ed W;apply kP 5 [0,0] m;simp only[↓aC,↓eW,apB,aap,aa];intro g5 u m;refine aB gQ ?_;simp only[zz,gm,bp,dt];apply aL 4 [0] m;simp only[↓aC];refine bX [0] [12,13,14,15,16,17,18,19,46,47,48,49,50,51,52,53,54,55,56,57,58,59,60,61,62,63,64,65,66,67,68,69,70,71,72,73,74,75,76,77,78,79,80,81,82,83,84,85,86,87,88,89,90,91,92,93,94,95,96,97,98,99,100,101,102,103,104,105,106,107,108,109,110,111,112,113,114,115,116,117,118,119,120,121,122,123,124,125,126,127,128,129,130,131,132,133] (fun n vs wl=>∃(l:List T3) (Q:P3→List Int) (A1:Option Addr) (cap1:Nat) (es60 es61 es62:Array de) (c60 c61 c62:Nat) (Dc:List (E3 × Int)) (Dq:List (P3 × List Int)) (Dm:List Mv),vs=[.slice A1 l.length cap1]∧Mem w wl [bI g5 [.map (some q60)] 100,mI q60 es60 c60,mI q62 es62 c62,bI g2 [.map (some q61)] 93,mI q61 es61 c61,oI 39 9 A1 l.length cap1 (l.flatMap aM)]∧(bJ ed W Dc es60 c60)∧(qM Dc Q)∧((Dc.map (·.1)).Nodup)∧(bJ pt qV Dq es61 c61)∧(bJ pt pt Dm es62 c62)∧(QOK Dq Q (602+2*(bK ts).length-l.length))∧(∀t∈l,IT t)∧(∀t∈l,t.nd=true)∧((Dm.map (·.1)).Nodup)∧(eU (bK ts).length want (bK ts) (sV (bK ts)) []=eU l.length want l Q Dm)∧(l.length+Dm.length≤(bK ts).length)∧(n=l.length)) ?_ ?_
     ·
      exact⟨_,(bK ts),(sV (bK ts)),_,_,_,_,_,_,_,_,[],_,[],rfl,(m.sel [true,true,true,false,true,true,true]),hD60,qM.nil _,jo,hD61,hD62,hQ.mono (by omega),hit,hnd,jo,rfl,(by simp),rfl⟩
     · intro n vs wr hI u K2 hK2
       obtain⟨l,Q,A1,cap1,es60,es61,es62,c60,c61,c62,Dc,Dq,Dm,rfl,m,hD60,hC,hnC,hD61,hD62,hQ,hit,hnd,hnM,hS,hle,hn⟩:=hI;simp only[zu,zF,zG];apply aK 8 [0,0] m;simp only[↓aC,eV];refine bA rfl ?_ ?_<;>intro hc3
       ·
        apply aK 5 [0] m;simp only[↓aC];refine bC rfl rfl (akT _ ((m.o 5 rfl).tris hit) hnd (by omega)) ?_;rintro v u e_ ⟨g90,ga,gf,ea,ef,ca,cf,D,F,K,rfl,hM,hK,hSD⟩;replace m:=m.plus hM;clear hM;simp only[cg,bt] at m;apply kP 7 [0] m;simp only[↓aC,↓eW,ar6,afe,aa];intro g6 u m;replace m:=m.nilO 112 8;apply aW 6 [1,0] m;simp only[↓aC,↓eW,afe,Sw,aa];refine aR rfl (((hK _ (m.get 2 rfl)).b).lies1 aeP rfl) ?_;simp only[zz];refine xG m underlying106 rfl ((hK _ (m.get 2 rfl)).a) ?_;intro r1 u m;apply aL 2 [0] m;simp only[↓aC];refine bX [13] [14,15,57,58,59,60,61,62,63,64,65,66,67,68,69,70,71,72,73,74,75,76,77,78,79,80,81,82,83,84] (fun n vs wl=>∃(dn rs:List (P3 × Hd)) (sn:Array Nat) (cs:List lU) (A9:Option Addr) (cap9:Nat) (es60:Array de) (c60:Nat) (Dc:List (E3 × Int)),vs=[.slice A9 cs.length cap9]∧Mem w wl [iI r1 ga ca sn,oI 112 8 A9 cs.length cap9 (cs.flatMap sZ),bI g6 [.pointer (some ⟨g90,0,none⟩)] 88,K,bI g5 [.map (some q60)] 100,mI q60 es60 c60,mI q62 es62 c62,bI g2 [.map (some q61)] 93,mI q61 es61 c61,oI 39 9 A1 l.length cap1 (l.flatMap aM)]∧(bJ ed W Dc es60 c60)∧(qM Dc Q)∧((Dc.map (·.1)).Nodup)∧(oJ pt Hd.v D ea sn dn rs)∧(Gc l Q (dn.map (·.1)) cs)∧(cs.length≤dn.length*6000)∧(n=rs.length)) ?_ ?_
        ·
         exact⟨_,[],D,#[],[],_,_,_,_,_,rfl,m,hD60,hC,hnC,(oJ.start hSD.a),(Gc.nil _ _),(cq _),rfl⟩
        · intro n vs wr hI u K3 hK3
          obtain⟨dn,rs,sn,cs,A9,cap9,es60,c60,Dc,rfl,m,hD60,hC,hnC,hT,hCs,hcl3,hn3⟩:=hI;simp only[zu,zF,zG];apply aK 2 [0] m;simp only[↓aC];refine Oa m 0 rfl rfl ((hK _ (m.get 3 rfl)).a) hSD.a hT ?_;intro bb kk vv sn u m hN;simp only[zF,zG] at m;refine aB (pZ rfl) ?_;apply aL 2 [0] m;simp only[↓aC];refine eG rfl ?_ ?_<;>intro hc4
          ·
           obtain⟨kp,kb,rs2,hp2,hT2⟩:=Jf hc4 hN;have hkp:kp∈D.map (·.1):=fj (f:=(·.1)) (hT2.1.mem_iff.1 (by simp):(kp,kb)∈D);have hTl:=hT2.len;have hkeys:=Yp hSD;rw[a_,ay,cd] at hTl;apply aK 4 [0] m;simp only[↓aC];refine gK (uA rfl (m.r 0 rfl) ((hK _ (m.get 3 rfl)).a) hSD.a hT2) ?_;simp only[zz];apply kP 6 [0,0] m;simp only[↓aC,↓eW,gM,aU,aa];intro g8 u m;refine mq m aD (by kernel_rfl) (eT 3 [3] ?_);simp only[↓aC,↓eW,afe,Sx,aa];refine ql rfl (fun u m=>(((hK _ (m.get 4 rfl)).b).lies1 tW rfl)) ?_;simp only[zz];refine ql rfl (fun u m=>((m.b 0 rfl).full aH aA)) ?_;simp only[zz];refine kK (fun u m=>eE (ek:=pt) (en:=bm) (k:=kp) (v0:=false) nU oW gU rfl rfl ((hK _ (m.get 4 rfl)).f) hSD.f) ?_;simp only[zz];refine bE ?_;intro u m;refine gc (eG rfl (fun hc5=>?_) (fun hc5=>?_))
           ·
            rw[hSD.b] at hc5;apply aK 1 [0] m;simp only[↓aC];exact hK3 rs2.length _ _ (by rw[hn3,hp2.length_eq];exact fg _) (by kernel_rfl) ⟨dn++[(kp,kb)],rs2,_,cs,_,_,_,_,_,rfl,(m.sel [false,true,true,true,true,true,true,true,true,true,true]),hD60,hC,hnC,hT2,(by rw[ct];exact hCs.skip hc5),(by rw[a_];simp only[ay,cd];omega),rfl⟩
           ·
            rw[hSD.b] at hc5;apply aK 5 [3,0,0] m;simp only[↓aC,↓eW,afe,aU];refine bC rfl rfl (aaK (p:=kp) _ ((hK _ (m.get 4 rfl)).b) ((hK _ (m.get 4 rfl)).a) hSD.a ((hK _ (m.get 4 rfl)).t) (by omega)) ?_;rintro v u e_ ⟨qx,esx,cx,rfl,hM,hDx⟩;replace m:=m.plus hM;clear hM;simp only[cg,bt] at m;simp only[zz];refine xG m nU rfl (m.p 0 rfl) ?_;intro r2 u m;apply aL 2 [0] m;simp only[↓aC];refine bX [13] [15,71,72,73,74,75,76,77,78,79,80,81,82,83,84] (fun n vs wl=>∃(dn2 rs2:List (P3 × Bool)) (sn2:Array Nat) (cs:List lU) (A9:Option Addr) (cap9:Nat) (es60:Array de) (c60:Nat) (Dc:List (E3 × Int)),vs=[.slice A9 cs.length cap9]∧Mem w wl [iI r2 qx cx sn2,mI qx esx cx,bI g8 [.int .i64 kp.x,.int .i64 kp.y,.int .i64 kp.z] 30,iI r1 ga ca sn,oI 112 8 A9 cs.length cap9 (cs.flatMap sZ),bI g6 [.pointer (some ⟨g90,0,none⟩)] 88,K,bI g5 [.map (some q60)] 100,mI q60 es60 c60,mI q62 es62 c62,bI g2 [.map (some q61)] 93,mI q61 es61 c61,oI 39 9 A1 l.length cap1 (l.flatMap aM)]∧(bJ ed W Dc es60 c60)∧(qM Dc Q)∧((Dc.map (·.1)).Nodup)∧(oJ pt bm (gS [] (nR l kp)) esx sn2 dn2 rs2)∧(aex l Q (dn.map (·.1)) kp (dn2.map (·.1)) cs)∧(cs.length≤dn.length*6000+dn2.length)∧(n=rs2.length)) ?_ ?_
            ·
             exact⟨_,[],_,#[],cs,_,_,_,_,_,rfl,m,hD60,hC,hnC,(oJ.start hDx),(hCs.start kp),(by simp only[cd];omega),rfl⟩
            · intro n vs wr hI u K4 hK4
              obtain⟨dn2,rs3,sn2,cs,A9,cap9,es60,c60,Dc,rfl,m,hD60,hC,hnC,hT3,hCi,hcl4,hn4⟩:=hI;simp only[zu,zF,zG];apply aK 2 [0] m;simp only[↓aC];refine Oa m 0 rfl rfl (m.p 1 rfl) hDx hT3 ?_;intro bb kk vv sn u m hN;simp only[zF,zG] at m;refine aB (pZ rfl) ?_;apply aL 2 [0] m;simp only[↓aC];refine eG rfl ?_ ?_<;>intro hc6
              ·
               obtain⟨kq,kv,rs4,hp4,hT4⟩:=Jf hc6 hN;have hnb:Me l kp kq=true:=sJ.1 (Yo.1 (fj (f:=(·.1)) (hT4.1.mem_iff.1 (by simp):(kq,kv)∈gS [] (nR l kp))));have hT4l:=hT4.len;have hal:=pH (nR l kp) [];have hbl:=Uj l kp;rw[a_,ay,cd] at hT4l;rw[cd] at hal;apply aK 4 [0] m;simp only[↓aC];refine gK (uA rfl (m.r 0 rfl) (m.p 1 rfl) hDx hT4) ?_;simp only[zz];apply kP 4 [0] m;simp only[↓aC,↓eW,gM,aU,aa];intro g10 u m;replace m:=m.pull 12 rfl;simp only[dM,dN,zF,zG] at m;replace m:=m.pull 10 rfl;simp only[dM,dN,zF,zG] at m;replace m:=m.pull 12 rfl;simp only[dM,dN,zF,zG] at m;replace m:=m.pull 11 rfl;simp only[dM,dN,zF,zG] at m;refine gc (mh m [true,true,false,true,true,true,true,true,true,false,true,true,true,true] [(0,true),(3,true),(1,true),(2,true),(4,true),(5,true),(6,false),(7,true),(8,false),(9,false),(10,true)] aD (by kernel_rfl) (bT (fun _ _ _ _ _ h=>h)) (ol:=?_) ?hol ?_)
               case hol=>simp only[zw,zQ,zR];try rfl
               intro u m;refine Ps 6 [6,3,6,3] ?_;simp only[↓aC,↓eW,aU];refine cF ?_;replace m:=m.pack4;refine kJ rfl rfl ((haveI:=Bl hit ((hSD.k kp).1 hkp);haveI:=Bl hit (No hnb).2;ard (p:=kp) (q:=kq) m hD60 hD61 hC hnC hQ (by omega))) ?_;rintro v u ⟨es60,c60,Dc,rfl,m,hD60,hC,hnC⟩;simp only[zz];replace m:=m.unpack4;refine aN ⟨m.sel [true,true,false,true,true,true,true,true,true,false,true,true,true,true],?_⟩;refine aS (Jb rfl rfl rfl) (cF ?_);simp only[zz];refine adl rfl ?_;intro u g11 e_ h_ k_;replace m:=m.newB e_ h_ k_;refine aN ⟨m.sel [false,true,true,false,true,true,true,true,true,true,false,true,true,true,true],?_⟩;refine cF ?_;simp only[zz];refine bW m 10 rfl rfl underlying105 alX rfl (by decide) rfl rfl rfl (m.b 0 rfl).rowsO (jX rfl) (by omega) (by omega) ?_;intro A9 cap9 u m;simp only[zF,zG] at m;rw[show cs.flatMap sZ++_=(cs++[⟨kp,kq,tI Q kp kq⟩]:List lU).flatMap sZ by rw[aw];rfl] at m;have hll:cs.length+1=(cs++[⟨kp,kq,tI Q kp kq⟩]:List lU).length:=by simp
               rw[hll] at m;rw[hll];refine aN ⟨m.sel [false,true,true,false,true,true,true,true,true,true,false,true,true,true,true],?_⟩;refine aS aP (bV ?_);simp only[zz];replace m:=m.pull 14 rfl;simp only[dM,dN,zF,zG] at m;replace m:=m.pull 5 rfl;simp only[dM,dN,zF,zG] at m;replace m:=m.pull 4 rfl;simp only[dM,dN,zF,zG] at m;replace m:=m.pull 14 rfl;simp only[dM,dN,zF,zG] at m;replace m:=m.pull 6 rfl;simp only[dM,dN,zF,zG] at m;replace m:=m.pull 6 rfl;simp only[dM,dN,zF,zG] at m;replace m:=m.pull 14 rfl;simp only[dM,dN,zF,zG] at m;replace m:=m.pull 14 rfl;simp only[dM,dN,zF,zG] at m;replace m:=m.pull 14 rfl;simp only[dM,dN,zF,zG] at m;replace m:=m.pull 14 rfl;simp only[dM,dN,zF,zG] at m;replace m:=m.pull 14 rfl;simp only[dM,dN,zF,zG] at m;replace m:=m.pull 14 rfl;simp only[dM,dN,zF,zG] at m;replace m:=m.pull 14 rfl;simp only[dM,dN,zF,zG] at m;replace m:=m.pull 14 rfl;simp only[dM,dN,zF,zG] at m;apply aW 1 [0] m;simp only[↓aC];exact hK4 rs4.length _ _ (by rw[hn4,hp4.length_eq];exact fg _) (by kernel_rfl) ⟨dn2++[(kq,kv)],rs4,_,(cs++[lU.mk kp kq (tI Q kp kq)]),_,_,_,_,_,rfl,(m.sel [false,true,true,true,true,true,true,true,true,true,true,true,true,true,false]),hD60,hC,hnC,hT4,(by rw[ct];exact hCi.put),(by rw[a_,a_];simp only[ay,cd];omega),rfl⟩
              ·
               obtain rfl:=Je hc6 hN;have hT3l:=hT3.len;have hal:=pH (nR l kp) [];have hbl:=Uj l kp;rw[cd] at hal hT3l;replace hCi:=hCi.done hc5 (fun x=>by rw[←sJ];exact ((hT3.done.map (·.1)).mem_iff).trans Yo);apply aK 2 [0] m;simp only[↓aC];exact hK3 rs2.length _ _ (by rw[hn3,hp2.length_eq];exact fg _) (by kernel_rfl) ⟨dn++[(kp,kb)],rs2,_,cs,_,_,_,_,_,rfl,(m.sel [false,false,false,true,true,true,true,true,true,true,true,true,true]),hD60,hC,hnC,hT2,(by rw[ct];exact hCi),(by rw[a_];simp only[ay,cd] at hal ⊢;omega),rfl⟩
          ·
           obtain rfl:=Je hc4 hN;have hTl:=hT.len;have hkeys:=Yp hSD;rw[cd] at hTl;have hdn:=hT.done;replace hCs:=hCs.perm hdn;apply aK 4 [0] m;simp only[↓aC];refine aB gQ ?_;simp only[zz,gm,bp,dt];replace m:=m.pull 9 rfl;simp only[dM,dN,zF,zG] at m;replace m:=m.pull 4 rfl;simp only[dM,dN,zF,zG] at m;replace m:=m.pull 4 rfl;simp only[dM,dN,zF,zG] at m;replace m:=m.pull 4 rfl;simp only[dM,dN,zF,zG] at m;replace m:=m.pack4;refine kJ rfl rfl (arf m hK hSD hnd hit (by omega) hQ.len hQ.bd (by omega) hCs (by omega)) ?_;rintro v u ⟨c,bb,rfl,m,hbest⟩;simp only[zz];replace m:=m.unpack3;apply aL 1 [0] m;simp only[↓aC];refine aB (fB (v:=aa1 c) rfl rfl) ?_;simp only[zz];refine aB (fB (v:=.bool bb) rfl rfl) ?_;simp only[zz];apply kP 2 [0] m;simp only[↓aC,↓eW,adP,adO,aa];intro g8 u m;apply aW 8 [0] m;simp only[↓aC];refine eG rfl ?_ ?_<;>intro hc7
           ·
            have hend:=acI (l:=l) (want:=want) (Q:=Q) (D:=Dm) (.inr (hbest.resolve_right (fun h=>by rw[h.1] at hc7;cases hc7)).2);apply aK 5 [] m;simp only[↓aC];replace m:=m.nilO 55 6;apply aW 4 [0] m;simp only[↓aC];refine bC rfl rfl (akA (q:=q62) _) ?_;rintro v u e_ ⟨g9,rfl,h_,k_⟩;replace m:=m.newB e_ h_ k_;simp only[zz];refine bC rfl rfl (acp _ aib (Ox (m.p 9 rfl) hD62 (m.b 0 rfl)) (fun xs h=>by rw[h.length_eq,bf];exact ao _) (by omega)) ?_;rintro v u e_ ⟨xs,ys,⟨A22,cap22,n22,hn22,rfl,h_⟩,hxs,hys,hso⟩;replace m:=m.newO e_ h_;obtain rfl:n22=Dm.length:=by rw[hn22,hxs.length_eq,bf]
            obtain rfl:ys=yB (Dm.map (·.1)):=Ua hnM (hys.trans hxs) hso;apply aL 4 [0] m;simp only[↓aC,lC];refine bX [20,138] [22,139,140,141,142,143,144,145,146,147,148,149,150] (fun n vs wl=>∃(k:Nat) (A20:Option Addr) (cap20:Nat),vs=[.slice A20 k cap20,.int .i64 (k:Int)]∧Mem w wl [oI 30 3 A22 Dm.length cap22 ((yB (Dm.map (·.1))).flatMap dU),oI 55 6 A20 k cap20 (((iF Dm).take k).flatMap bO),oI 39 9 A1 l.length cap1 (l.flatMap aM),mI q62 es62 c62]∧(k≤Dm.length)∧(n=Dm.length-k)) ?_ ?_
            ·
             exact⟨_,0,_,_,rfl,(m.sel [true,false,true,false,false,false,true,false,false,false,true,false,false]),cq _,rfl⟩
            · intro n vs wr hI u K5 hK5
              obtain⟨k,A20,cap20,rfl,m,hk,hn6⟩:=hI;simp only[zu,zF,zG];apply aK 5 [0,0] m;simp only[↓aC];refine bA rfl ?_ ?_<;>intro hc10
              ·
               obtain⟨k9,hk9,a9,hA9,hr9⟩:=((m.o 0 rfl).lat (enc:=dU) (fun _=>rfl) (by decide)).get (i:=k) (by omega);subst hA9;have hmv:=aoK hk9;apply aK 5 [0] m;simp only[↓aC];refine aB (aF eK aA rfl rfl (by omega) (by omega) (cH (ag _))) ?_;simp only[zz];refine aR rfl (show eQ _ _ _ _ (pt k9) from hr9.lies aH aA) ?_;simp only[zz];apply kP 3 [0,0] m;simp only[↓aC,↓eW,gM,aU,aa];intro g10 u m;refine mh m [true,true,false,true,true] [(0,true),(2,true),(1,true),(3,true),(4,false),(5,true),(6,false),(7,false),(8,true)] aD (by kernel_rfl) (bT (fun _ _ _ _ _ h=>h)) (ol:=?_) ?hol ?_
               case hol=>simp only[zw,zQ,zR];try rfl
               intro u m;refine Ps 4 [0,0] ?_;simp only[↓aC,↓eW,aU];refine cF (gK (eE (ek:=pt) (en:=pt) (k:=k9) (v0:=⟨0,0,0⟩) Ru iQ gU rfl rfl (m.p 4 rfl) hD62) ?_);simp only[zz];refine aN ⟨m.sel [true,true,false,true,true],?_⟩;refine aS (De rfl rfl) (cF ?_);simp only[zz];refine Lv rfl ?_;intro u g11 e_ h_ k_;replace m:=m.newB e_ h_ k_;refine aN ⟨m.sel [false,true,true,false,true,true],?_⟩;refine cF ?_;simp only[zz];refine bW m 3 rfl rfl xX aim rfl (by decide) rfl rfl rfl (m.b 0 rfl).rowsO (jX rfl) (by omega) (by omega) ?_;intro A20 cap20 u m;simp only[zF,zG] at m;rw[show ((iF Dm).take k).flatMap bO++_=((iF Dm).take (k+1)).flatMap bO by rw[bY hmv,aw];rfl] at m;refine aN ⟨m.sel [false,true,true,false,true,true],?_⟩;refine aS aP (bV ?_);apply aW 5 [0] m;simp only[↓aC];refine⟨by omega,?_⟩;exact hK5 (Dm.length-(k+1)) _ _ (by omega) (by kernel_rfl) ⟨k+1,_,_,rfl,(m.sel [false,false,true,true,true,true]),by omega,rfl⟩
              ·
               obtain rfl:k=Dm.length:=by omega
               rw[show (iF Dm).take Dm.length=iF Dm from bi (by rw[yH];exact ao _)] at m;apply aK 9 [] m;simp only[↓aC];exact Ck rfl rfl rfl ⟨_,rfl,m.ext,_,_,_,_,_,_,rfl,by rw[uQ hc0 (hS.trans hend)],by rw[uQ hc0 (hS.trans hend)];exact (yH _).symm,by rw[uQ hc0 (hS.trans hend)];exact m.sel [false,true,true,false]⟩
           ·
            obtain⟨rfl,hbs,hbI⟩:=hbest.resolve_left (fun h=>by rw[h.1] at hc7;cases hc7);have hlu:((cD Dq c.u).getD q0).length=10:=by rw[hQ.get];exact hQ.len _
            have hbu:Ho (602+2*(bK ts).length-l.length) ((cD Dq c.u).getD q0):=by rw[hQ.get];exact hQ.bd _
            have hlv:((cD Dq c.v).getD q0).length=10:=by rw[hQ.get];exact hQ.len _
            have hbv:Ho (602+2*(bK ts).length-l.length) ((cD Dq c.v).getD q0):=by rw[hQ.get];exact hQ.bd _
            apply aK 8 [0,0,0] m;simp only[↓aC,↓eW,Dx,aU,vO,aa];refine bC rfl rfl ((haveI:=hbI.1;haveI:=hbI.2;Ht (p:=c.u) (q:=c.v) _ ((m.o 3 rfl).tris hit) (by omega))) ?_;rintro v u e_ ⟨A21,cap21,n21,hn21,rfl,h_⟩;replace m:=m.newO e_ h_;subst hn21;refine aB aP ?_;simp only[zz];replace m:=(m.pull 0 rfl).mv 3 rfl;simp only[dM,dN,zF,zG] at m;apply aL 2 [0] m;simp only[↓aC];refine dA m 12 aD (by kernel_rfl) ?_;simp only[zy];refine eT 6 [8,0,8,0] ?_;simp only[↓aC,↓eW,aff,vO,aU,Dx,aa];refine kK (fun u m=>eE (ek:=pt) (en:=qV) (k:=c.u) (v0:=q0) Rt afO gU rfl rfl (m.p 9 rfl) hD61) ?_;simp only[zz];refine eT 3 [8,0] ?_;simp only[↓aC,↓eW,aff,vO,aU,aa];refine kK (fun u m=>eE (ek:=pt) (en:=qV) (k:=c.v) (v0:=q0) Rt afO gU rfl rfl (m.p 9 rfl) hD61) ?_;simp only[zz];refine jJ rfl rfl (aep hlu hlv hbu hbv (by omega)) (bE ?_);intro u m;simp only[zz];refine nN (ek:=pt) (en:=qV) (a:=c.v) (v:=(Fw ((cD Dq c.u).getD q0) ((cD Dq c.v).getD q0))) m 9 rfl Rt gU rfl rfl rfl hD61 ?_;intro es61 c61 u m hD61;simp only[zF,zG] at m;rw[hQ.get,hQ.get] at hD61;refine aN ?_;apply aW 3 [5,0] m;simp only[↓aC,↓eW,aap];refine aB gQ ?_;simp only[zz,gm,bp,dt];replace m:=m.pull 0 rfl;simp only[dM,dN,zF,zG] at m;replace m:=m.pull 6 rfl;simp only[dM,dN,zF,zG] at m;replace m:=m.pack2;refine kJ rfl rfl (ale m hD60 hnC) ?_;rintro v u ⟨es60,Dc2,rfl,m,hD60,hnC2,hdel⟩;simp only[zz];replace m:=m.unpack2;apply aL 5 [0] m;simp only[↓aC];refine xG m Ru rfl (m.p 7 rfl) ?_;intro r3 u m;apply aL 2 [0] m;simp only[↓aC];refine bX [] [18,19,116,117,118,119,120,121,122,123,124,125,126,127,128] (fun n vs wl=>∃(dn rs:List Mv) (sn:Array Nat) (es62:Array de),vs=[]∧Mem w wl [iI r3 q62 c62 sn,mI q60 es60 c60,bI g8 (sZ c) 112,oI 39 9 A21 (eZ l c.u c.v).length cap21 ((eZ l c.u c.v).flatMap aM),bI g5 [.map (some q60)] 100,mI q62 es62 c62,bI g2 [.map (some q61)] 93,mI q61 es61 c61]∧(bJ pt pt (Ep (dn.map (·.1)) c.u c.v Dm) es62 c62)∧(tN pt pt (Ep (dn.map (·.1)) c.u c.v Dm) es62 sn dn rs)∧(n=rs.length)) ?_ ?_
            ·
             exact⟨_,[],Dm,#[],_,rfl,(m.sel [true,true,true,false,false,true,false,true,true,true,true]),(by rw[dt,acG];exact hD62),(by rw[dt,acG];exact tN.start hD62),rfl⟩
            · intro n vs wr hI u K6 hK6
              obtain⟨dn,rs,sn,es62,rfl,m,hD62,hT5,hn5⟩:=hI;simp only[zu,zF,zG];apply aK 2 [0] m;simp only[↓aC];refine ak6 m 0 rfl rfl (m.p 5 rfl) hD62 hT5 ?_;intro bb kk vv sn u m hN;simp only[zF,zG] at m;refine aB (pZ rfl) ?_;apply aL 2 [0] m;simp only[↓aC];refine eG rfl ?_ ?_<;>intro hc8
              ·
               obtain⟨kp,kb,rs2,hp2,hT6⟩:=alb hc8 hN;obtain⟨hnew,hmm⟩:=ali (by rw[Ft];exact hnM) hT6;apply aK 4 [0] m;simp only[↓aC];refine gK (acF rfl (m.r 0 rfl) (m.p 5 rfl) hD62 hT6) ?_;simp only[zz];apply kP 5 [1] m;simp only[↓aC,↓eW,gM,aU,aa];intro g10 g11 u m;apply Wy 7 [0,0,4,0] m;simp only[↓aC,↓eW,aU,Dx,aa];intro u m;refine aB (bZ rfl rfl) ?_;apply aL 1 [0] m;simp only[↓aC];refine eG rfl ?_ ?_<;>intro hc9
               ·
                rw[anR,decide_eq_true_eq] at hc9;have hup:=alh hnM hmm hnew hc9;apply aK 5 [1,4,0] m;simp only[↓aC,↓eW,aU,vO,aa];refine ak8 (ek:=pt) (ev:=pt) (a:=kp) (v:=c.v) m 7 rfl Ru gU rfl rfl rfl hD62 (by rw[Ft];exact hnM) hT6 ?_;intro es62 u m hD62 hT';simp only[zF,zG] at m;apply aL 2 [0] m;simp only[↓aC];rw[hup] at hD62 hT';exact hK6 rs2.length _ _ (by rw[hn5,hp2.length_eq];exact fg _) (by kernel_rfl) ⟨dn++[(kp,c.v)],rs2,_,_,rfl,(m.sel [false,false,true,true,true,true,true,true,true,true]),(by rw[ct];exact hD62),(by rw[ct];exact hT'),rfl⟩
               ·
                rw[anR,decide_eq_false_iff_not] at hc9;have hup:=ahr (v:=c.v) hnM hmm hnew hc9;apply aK 2 [0] m;simp only[↓aC];have hT7:=hT6.stay;rw[hup] at hD62 hT7;exact hK6 rs2.length _ _ (by rw[hn5,hp2.length_eq];exact fg _) (by kernel_rfl) ⟨dn++[(kp,kb)],rs2,_,_,rfl,(m.sel [false,false,true,true,true,true,true,true,true,true]),(by rw[ct];exact hD62),(by rw[ct];exact hT7),rfl⟩
              ·
               obtain rfl:=ala hc8 hN;have hdn:=hT5.done;have hall:∀e∈Dm,e.1∈dn.map (·.1):=fun e he=>(hdn.map (·.1)).mem_iff.2 (by rw[Ft];exact fj he);apply aK 7 [2,2,0] m;simp only[↓aC,↓eW,Dx,aU,vO,aa];refine nN (ek:=pt) (en:=pt) (a:=c.u) (v:=c.v) m 5 rfl Ru gU rfl rfl rfl hD62 ?_;intro es62 c62 u m hD62;simp only[zF,zG] at m;rw[alg hall] at hD62;apply aL 1 [] m;simp only[↓aC];replace m:=m.pull 3 rfl;simp only[dM,dN,zF,zG] at m;replace m:=m.pull 7 rfl;simp only[dM,dN,zF,zG] at m;replace m:=m.pull 7 rfl;simp only[dM,dN,zF,zG] at m;replace m:=m.pull 7 rfl;simp only[dM,dN,zF,zG] at m;replace m:=m.pull 5 rfl;simp only[dM,dN,zF,zG] at m;replace m:=m.pull 7 rfl;simp only[dM,dN,zF,zG] at m;apply aW 1 [0] m;simp only[↓aC];exact hK2 ((eZ l c.u c.v).length) _ _ (by have:=lK hbs;omega) (by kernel_rfl) ⟨(eZ l c.u c.v),(By Q c.u c.v),_,_,_,_,_,_,_,_,_,_,(Lf Dm c.u c.v),rfl,(m.sel [true,true,true,true,true,true,false,false]),hD60,(hC.upd hdel),hnC2,hD61,hD62,((hQ.upd c.u c.v).mono (by have:=lK hbs;omega)),(kV (Ki hbI.2 hit)),(adJ l c.u c.v),(are hnM _ _),(hS.trans (ahs hw (by omega) hbs)),(by have:=lK hbs;have:=anT Dm c.u c.v;omega),rfl⟩
       ·
        have hend:=acI (l:=l) (want:=want) (Q:=Q) (D:=Dm) (.inl (by omega));apply aK 5 [] m;simp only[↓aC];replace m:=m.nilO 55 6;apply aW 4 [0] m;simp only[↓aC];refine bC rfl rfl (akA (q:=q62) _) ?_;rintro v u e_ ⟨g6,rfl,h_,k_⟩;replace m:=m.newB e_ h_ k_;simp only[zz];refine bC rfl rfl (acp _ aib (Ox (m.p 4 rfl) hD62 (m.b 0 rfl)) (fun xs h=>by rw[h.length_eq,bf];exact ao _) (by omega)) ?_;rintro v u e_ ⟨xs,ys,⟨A22,cap22,n22,hn22,rfl,h_⟩,hxs,hys,hso⟩;replace m:=m.newO e_ h_;obtain rfl:n22=Dm.length:=by rw[hn22,hxs.length_eq,bf]
        obtain rfl:ys=yB (Dm.map (·.1)):=Ua hnM (hys.trans hxs) hso;apply aL 4 [0] m;simp only[↓aC,lC];refine bX [20,138] [22,139,140,141,142,143,144,145,146,147,148,149,150] (fun n vs wl=>∃(k:Nat) (A20:Option Addr) (cap20:Nat),vs=[.slice A20 k cap20,.int .i64 (k:Int)]∧Mem w wl [oI 30 3 A22 Dm.length cap22 ((yB (Dm.map (·.1))).flatMap dU),oI 55 6 A20 k cap20 (((iF Dm).take k).flatMap bO),mI q62 es62 c62,oI 39 9 A1 l.length cap1 (l.flatMap aM)]∧(k≤Dm.length)∧(n=Dm.length-k)) ?_ ?_
        ·
         exact⟨_,0,_,_,rfl,(m.sel [true,false,true,false,false,true,false,false,true]),cq _,rfl⟩
        · intro n vs wr hI u K7 hK7
          obtain⟨k,A20,cap20,rfl,m,hk,hn6⟩:=hI;simp only[zu,zF,zG];apply aK 5 [0,0] m;simp only[↓aC];refine bA rfl ?_ ?_<;>intro hc10
          ·
           obtain⟨k9,hk9,a9,hA9,hr9⟩:=((m.o 0 rfl).lat (enc:=dU) (fun _=>rfl) (by decide)).get (i:=k) (by omega);subst hA9;have hmv:=aoK hk9;apply aK 5 [0] m;simp only[↓aC];refine aB (aF eK aA rfl rfl (by omega) (by omega) (cH (ag _))) ?_;simp only[zz];refine aR rfl (show eQ _ _ _ _ (pt k9) from hr9.lies aH aA) ?_;simp only[zz];apply kP 3 [0,0] m;simp only[↓aC,↓eW,gM,aU,aa];intro g7 u m;refine mh m [true,true,false,true,true] [(0,true),(2,true),(1,true),(3,true),(4,false),(5,true),(6,false),(7,false),(8,true)] aD (by kernel_rfl) (bT (fun _ _ _ _ _ h=>h)) (ol:=?_) ?hol ?_
           case hol=>simp only[zw,zQ,zR];try rfl
           intro u m;refine Ps 4 [0,0] ?_;simp only[↓aC,↓eW,aU];refine cF (gK (eE (ek:=pt) (en:=pt) (k:=k9) (v0:=⟨0,0,0⟩) Ru iQ gU rfl rfl (m.p 3 rfl) hD62) ?_);simp only[zz];refine aN ⟨m.sel [true,true,false,true,true],?_⟩;refine aS (De rfl rfl) (cF ?_);simp only[zz];refine Lv rfl ?_;intro u g8 e_ h_ k_;replace m:=m.newB e_ h_ k_;refine aN ⟨m.sel [false,true,true,false,true,true],?_⟩;refine cF ?_;simp only[zz];refine bW m 3 rfl rfl xX aim rfl (by decide) rfl rfl rfl (m.b 0 rfl).rowsO (jX rfl) (by omega) (by omega) ?_;intro A20 cap20 u m;simp only[zF,zG] at m;rw[show ((iF Dm).take k).flatMap bO++_=((iF Dm).take (k+1)).flatMap bO by rw[bY hmv,aw];rfl] at m;refine aN ⟨m.sel [false,true,true,false,true,true],?_⟩;refine aS aP (bV ?_);apply aW 5 [0] m;simp only[↓aC];refine⟨by omega,?_⟩;exact hK7 (Dm.length-(k+1)) _ _ (by omega) (by kernel_rfl) ⟨k+1,_,_,rfl,(m.sel [false,false,true,true,true,true]),by omega,rfl⟩
          ·
           obtain rfl:k=Dm.length:=by omega
           rw[show (iF Dm).take Dm.length=iF Dm from bi (by rw[yH];exact ao _)] at m;apply aK 9 [] m;simp only[↓aC];exact Ck rfl rfl rfl ⟨_,rfl,m.ext,_,_,_,_,_,_,rfl,by rw[uQ hc0 (hS.trans hend)],by rw[uQ hc0 (hS.trans hend)];exact (yH _).symm,by rw[uQ hc0 (hS.trans hend)];exact m.sel [false,true,false,true]⟩
theorem Np{x:Int}(h:rN x):Int.fdiv x (2^min (Int.toNat 10) IntKind.i64.bits)=x / 1024∧rN (x / 1024):=by
 refine⟨by rw[show (2:Int)^min (Int.toNat 10) IntKind.i64.bits=1024 from rfl,Int.fdiv_eq_ediv_of_nonneg _ (by decide)],?_⟩;unfold rN at h ⊢;omega
theorem iA(h:IT t)  : rN (t.cor c).x∧rN (t.cor c).y∧rN (t.cor c).z:=by
 obtain⟨⟨a1,a2,a3⟩,⟨b1,b2,b3⟩,⟨c1,c2,c3⟩⟩:=h;unfold T3.cor;split
 · exact⟨a1,a2,a3⟩
 · split
   · exact⟨b1,b2,b3⟩
   · exact⟨c1,c2,c3⟩
theorem alj{g o:Nat}:(⟨g,o,none⟩:Addr).add ((k:Int).toNat*c)=⟨g,o+k*c,none⟩:=by rw[ag];exact dV ..
theorem jH{g:Nat}:(⟨g,0,none⟩:Addr).add ((k:Int).toNat*c)=⟨g,k*c,none⟩:=by rw[alj,ar]
theorem arh{w0 w:aj}{S:List (Option Nat)}{E:av}{g n:Nat}(h:Ow w0 w S E 9 (some ⟨g,0,none⟩) n cap (ts.flatMap aM))(ht:ts[k]? = some t)(hc:c<3):mT w ⟨g,k*9+c*3,none⟩ [.int .i64 (t.cor c).x,.int .i64 (t.cor c).y,.int .i64 (t.cor c).z]:=by
 have:=((h.lat (enc:=aM) ac4 (by decide)).at ht).cor hc;rw[dV,dV,ar] at this;exact this
theorem alk(vt:P3→Bool)(x y z:Nat):wE vt x y z=Tm (mkV vt ⟨x,y,z⟩):=by
 unfold mkV;rw[(kp _ _ _ _ _ _ _ _).2.1];rfl
def asW(vt:P3→Bool)(z y x:Nat):List T3:=wY (wE vt x y z) ⟨x,y,z⟩ 524288
def Pg(vt:P3→Bool)(z y k:Nat):List T3:=(c_ k).flatMap (asW vt z y)
def Er(vt:P3→Bool)(z k:Nat):List T3:=(c_ k).flatMap fun y=>Pg vt z y 4
def wF(vt:P3→Bool)(k:Nat):List T3:=(c_ k).flatMap fun z=>Er vt z 4
theorem alm{z y:Nat}:Pg vt z y (k+1)=Pg vt z y k++asW vt z y k:=by unfold Pg;rw[gw,aw,jq]
theorem asX{z:Nat}:Er vt z (k+1)=Er vt z k++Pg vt z k 4:=by unfold Er;rw[gw,aw,jq]
theorem asY   : wF vt (k+1)=wF vt k++Er vt k 4:=by unfold wF;rw[gw,aw,jq]
theorem asZ(vt:P3→Bool):bK (wF vt 4)=qU vt:=by
 unfold qU
 congr 1
 unfold xK wF Er;rw[ph];refine congrArg (fun f=>(c_ 4).flatMap f) (funext fun z=>?_);rw[ph];refine congrArg (fun f=>(c_ 4).flatMap f) (funext fun y=>?_);rw[lx];unfold Pg;refine congrArg (fun f=>(c_ 4).flatMap f) (funext fun x=>?_);show wY (wE vt x y z) ⟨x,y,z⟩ 524288=_
 rw[alk]
def tO(t:T3):Nat→T3
 | 0=>t
 | j+1=>(tO t j).setC j (Az (t.cor j))
theorem aln{j:Nat}(h:j<3):(tO t j).cor j=t.cor j:=by
 rcases j with _ | _ | _ | j <;> first | rfl | omega
theorem alo(t:T3):tO t 3=t.mapP Az:=rfl
theorem ari{p:P3}(h:IT t)(hp:I3 p):IT (t.setC c p):=by
 obtain⟨ha,hb,hc⟩:=h;unfold T3.setC;split
 · exact⟨hp,hb,hc⟩
 · split
   · exact⟨ha,hp,hc⟩
   · exact⟨ha,hb,hp⟩
theorem atL(h:IT t)(j:Nat):I3 (Az (t.cor j)):=by
 obtain⟨h1,h2,h3⟩:=iA h (c:=j);exact⟨(Np h1).2,(Np h2).2,(Np h3).2⟩
theorem aeA{t:T3}(h:IT t):∀j,IT (tO t j)
 | 0=>h
 | j+1=>ari (aeA h j) (atL h j)
def shL(ts:List T3)(k:Nat):List T3:=(ts.take k).map (T3.mapP Az)++ts.drop k
theorem arj(h:ts[k]? = some t):(shL ts k)[k]? = some t:=by
 have hl:=(ap.1 h).1;unfold shL;rw[List.getElem?_append_right (by rw[bf,bw];omega),bf,bw,ib (by omega),Nat.sub_self,List.getElem?_drop,Nat.add_zero];exact h
theorem ac5(h:l[k]? = some t):l.set k t=l:=by
 obtain⟨hk,rfl⟩:=ap.1 h;exact List.set_getElem_self hk
theorem anU(ts:List T3)(k:Nat):(shL ts k).length=ts.length:=by
 unfold shL;rw[a_,bf,bw,List.length_drop];omega
theorem as0(h:ts[k]? = some t):(shL ts k).set k (t.mapP Az)=shL ts (k+1):=by
 have hl:=(ap.1 h).1;unfold shL;rw[List.set_append_right _ _ (by rw[bf,bw];omega),bf,bw,ib (by omega),Nat.sub_self,List.drop_eq_getElem_cons hl,List.set_cons_zero,bY h,ct,da];rfl
theorem aoL(h:∀t∈ts,IT t):∀t∈ts.map (T3.mapP Az),IT t:=fun t ht=>by
 obtain⟨u,hu,rfl⟩:=cw.1 ht;rw[←alo];exact aeA (h u hu) 3
theorem ahu{A:Option Addr}{ci:Nat}{ins:List Bool}(w:aj)(hF:vY Xz 1 w A 125 ins)(hV:Ya ins vt)(hB:Ke vt):dK prog 83 [.agg #[.int .i64 2,.slice A 125 ci]] w (fun v w'=>((qU vt).length≤1536∧∀t∈qU vt,IT t)∧SL 39 9 ((qU vt).flatMap aM) (qU vt).length w v w'):=by
 refine⟨bP func83 (by kernel_rfl),?_⟩;have m:=Mem.refl w
 go_enter func83,ntmps83
 apply mR 8 [0,0] m;simp only[↓aC,adQ];intro g1 u m;refine cM m rfl rfl (ad2 _ (hF.ext m.ext) hV hB) ?_;rintro v u m rfl;apply aL 14 [0,0] m;simp only[↓aC,Jo,eR,Bool.not_true,Bool.not_false,aa];refine aB (qR rfl rfl (by omega) Tn) ?_;apply aL 4 [0] m;simp only[↓aC];refine aB aP ?_;replace m:=m.nilO 39 9;apply aL 7 [0] m;simp only[↓aC];refine bX [5,6] [7,8,16,17,18,19,20,21,22,23,24,25,26,27,28,29,30,31,32,33,34,35,36,37,38] (fun n vs wl=>∃(z:Nat) (n5:Nat) (A5:Option Addr) (cap5:Nat),vs=[.slice A5 n5 cap5,.int .i64 (z:Int)]∧Mem w wl [oI 39 9 A5 n5 cap5 ((wF vt z).flatMap aM),bI g1 [.int .i64 2,.slice A 125 ci] 139]∧((wF vt z).length=n5)∧(∀t∈wF vt z,SmT t)∧(n5≤384*z)∧(z≤4)∧(n=4-z)) ?_ ?_
 ·
  exact⟨_,0,0,none,0,rfl,m,rfl,by simp[wF],by omega,by omega,rfl⟩
 · intro n vs wr hI u K1 hK1
   obtain⟨z,n5,A5,cap5,rfl,m,hlt,hts,hb,hz,hnz⟩:=hI;simp only[zu,zF,zG];apply aK 7 [0,0] m;simp only[↓aC];refine bA rfl ?_ ?_<;>intro hc2
   ·
    apply aK 8 [0] m;simp only[↓aC];refine bX [5,7] [8,21,22,23,24,25,26,27,28,29,30,31,32,33,34,35,36,37,38] (fun n vs wl=>∃(y:Nat) (n5:Nat) (A5:Option Addr) (cap5:Nat),vs=[.slice A5 n5 cap5,.int .i64 (y:Int)]∧Mem w wl [oI 39 9 A5 n5 cap5 ((wF vt z++Er vt z y).flatMap aM),bI g1 [.int .i64 2,.slice A 125 ci] 139]∧((wF vt z++Er vt z y).length=n5)∧(∀t∈wF vt z++Er vt z y,SmT t)∧(n5≤384*z+96*y)∧(y≤4)∧(n=4-y)) ?_ ?_
    · rw[show wF vt z=wF vt z++Er vt z 0 from (eo _).symm] at m hlt hts
      exact⟨_,0,_,_,_,rfl,m,hlt,hts,by omega,by omega,rfl⟩
    · intro n vs wr hI u K2 hK2
      obtain⟨y,n5,A5,cap5,rfl,m,hlt,hts,hb,hy,hny⟩:=hI;simp only[zu,zF,zG];apply aK 7 [0,0] m;simp only[↓aC];refine bA rfl ?_ ?_<;>intro hc3
      ·
       apply aK 8 [0] m;simp only[↓aC];refine bX [5,8] [26,27,28,29,30,31,32,33,34,35,36,37,38] (fun n vs wl=>∃(x:Nat) (n5:Nat) (A5:Option Addr) (cap5:Nat),vs=[.slice A5 n5 cap5,.int .i64 (x:Int)]∧Mem w wl [oI 39 9 A5 n5 cap5 ((wF vt z++Er vt z y++Pg vt z y x).flatMap aM),bI g1 [.int .i64 2,.slice A 125 ci] 139]∧((wF vt z++Er vt z y++Pg vt z y x).length=n5)∧(∀t∈wF vt z++Er vt z y++Pg vt z y x,SmT t)∧(n5≤384*z+96*y+24*x)∧(x≤4)∧(n=4-x)) ?_ ?_
       · rw[show wF vt z++Er vt z y=wF vt z++Er vt z y++Pg vt z y 0 from (eo _).symm] at m hlt hts
         exact⟨_,0,_,_,_,rfl,m,hlt,hts,by omega,by omega,rfl⟩
       · intro n vs wr hI u K3 hK3
         obtain⟨x,n5,A5,cap5,rfl,m,hlt,hts,hb,hx,hnx⟩:=hI;simp only[zu,zF,zG];apply aK 7 [0,0] m;simp only[↓aC];refine bA rfl ?_ ?_<;>intro hc4
         ·
          apply aK 10 [1,0] m;simp only[↓aC,adQ,yE,aa];refine bC rfl rfl (ajW (cx:=x) (cy:=y) (cz:=z) _ (hF.ext m.ext) hV (by omega) (by omega) (by omega)) ?_;rintro v u e_ ⟨hus,A7,cap7,n7,hn7,rfl,h_⟩;replace m:=m.newO e_ h_;simp only[zz];refine bW m 1 rfl rfl bL gR rfl (by decide) rfl rfl (m.o 0 rfl).own.1 (m.o 0 rfl).row (pU _) (by omega) (by omega) ?_;intro A5 cap5 u m;simp only[zF,zG] at m;rw[←aw,show wF vt z++Er vt z y++Pg vt z y x++wY (wE vt x y z) ⟨x,y,z⟩ 524288=wF vt z++Er vt z y++Pg vt z y (x+1) by rw[alm,←da];rfl] at m;apply aL 8 [0] m;simp only[↓aC];refine⟨by omega,?_⟩;exact hK3 (4-(x+1)) _ _ (by omega) (by kernel_rfl) ⟨x+1,_,_,_,rfl,(m.sel [false,true,true]),by rw[alm,←da,a_];show _+(wY (wE vt x y z) ⟨x,y,z⟩ 524288).length=_;omega,by rw[alm,←da];exact fun t ht=>(br.1 ht).elim (hts t) (hus.2 t),by omega,by omega,rfl⟩
         ·
          obtain rfl:x=4:=by omega
          apply aK 7 [0] m;simp only[↓aC];refine⟨by omega,?_⟩;rw[da,←asX] at m hlt hts;exact hK2 (4-(y+1)) _ _ (by omega) (by kernel_rfl) ⟨y+1,_,_,_,rfl,m,hlt,hts,by omega,by omega,rfl⟩
      ·
       obtain rfl:y=4:=by omega
       apply aK 7 [0] m;simp only[↓aC];refine⟨by omega,?_⟩;rw[←asY] at m hlt hts;exact hK1 (4-(z+1)) _ _ (by omega) (by kernel_rfl) ⟨z+1,_,_,_,rfl,m,hlt,hts,by omega,by omega,rfl⟩
   ·
    obtain rfl:z=4:=by omega
    apply aK 4 [0] m;simp only[↓aC];refine bC rfl rfl (Tc (ts:=wF vt 4) _ ((m.o 0 rfl).tris (aom hts)) (by omega)) ?_;rintro v u e_ ⟨A8,cap8,n8,hn8,rfl,h_⟩;replace m:=m.newO e_ h_;apply aL 3 [] m;simp only[↓aC];refine aT rfl rfl ?_;try simp only[zD,zE]
    exact⟨_,rfl,m.ext,by rw[←asZ];exact⟨⟨by rw[eH];omega,kV (aom hts)⟩,_,_,_,by rw[eH];omega,rfl,(m.o 0 rfl)⟩⟩
theorem vU{A:Option Addr}{zs:List Int}(w:aj)(hL:vY aaB 1 w A N zs)(hI:∀z∈zs,rN z):dK prog 39 [.slice A N cap] w (fun v w'=>∃vt,Ke vt∧((dW vt).length≤1536∧∀t∈dW vt,IT t)∧SL 39 9 ((dW vt).flatMap aM) (dW vt).length w v w'):=by
 refine⟨bP func39 (by kernel_rfl),?_⟩;have m:=Mem.refl w
 go_enter func39,ntmps39
 apply fG 7 [0] m;simp only[↓aC];refine bC rfl rfl (ad3 _ (hL.ext m.ext) hI) ?_;rintro v u e_ ⟨Af,cf,ins,vt,rfl,hF,hV,hB⟩;replace m:=m.ext' e_;simp only[zz];refine bC rfl rfl (ahu _ hF hV hB) ?_;rintro v u e_ ⟨⟨hl0,hit⟩,A3,cap3,n3,hlt,rfl,h_⟩;replace m:=m.newO e_ h_;clear hF;apply aL 8 [0] m;simp only[↓aC];refine bX [4] [5,6,10,11,12,13,14,15,16,17,18,19,20,21,22,23,24,25,26,27,28,29,30,31,32,33,34,35,36,37,38,39,40] (fun n vs wl=>∃(k:Nat),vs=[.int .i64 (k:Int)]∧Mem w wl [oI 39 9 A3 n3 cap3 ((shL (qU vt) k).flatMap aM)]∧(k≤n3)∧(n=n3-k)) ?_ ?_
 ·
  exact⟨_,0,rfl,m,by omega,rfl⟩
 · intro n vs wr hI u K1 hK1
   obtain⟨k,rfl,m,hk,hn⟩:=hI;simp only[zu,zF,zG];apply aK 8 [0,0] m;simp only[↓aC,eV];refine bA rfl ?_ ?_<;>intro hc1
   ·
    obtain⟨t,ht⟩:∃t,(qU vt)[k]? = some t:=⟨_,ak (by omega)⟩
    have hti:=hit t (bj ht);obtain⟨g,rfl⟩:=(m.o 0 rfl).some (by omega);apply aK 8 [0] m;simp only[↓aC];refine bX [5] [6,16,17,18,19,20,21,22,23,24,25,26,27,28,29,30,31,32,33,34,35,36,37,38,39,40] (fun n vs wl=>∃(j:Nat),vs=[.int .i64 (j:Int)]∧Mem w wl [oI 39 9 (some ⟨g,0,none⟩) n3 cap3 (((shL (qU vt) k).set k (tO t j)).flatMap aM)]∧(j≤3)∧(n=3-j)) ?_ ?_
    · rw[show shL (qU vt) k=(shL (qU vt) k).set k (tO t 0) from (ac5 (arj ht)).symm] at m
      exact⟨_,0,rfl,m,by omega,rfl⟩
    · intro n vs wr hI u K2 hK2
      obtain⟨j,rfl,m,hj,hn2⟩:=hI;simp only[zu,zF,zG];apply aK 6 [0,0] m;simp only[↓aC];refine bA rfl ?_ ?_<;>intro hc2
      ·
       have htj:((shL (qU vt) k).set k (tO t j))[k]? = some (tO t j):=jk (by rw[anU];omega);apply aK 8 [0] m;simp only[↓aC];refine aB (aF bL aO rfl rfl (by omega) (by omega) jH) ?_;simp only[zz];refine aB (aJ cT aA rfl rfl (by omega) (by omega) alj) ?_;simp only[zz];refine aR rfl (show eQ _ _ _ _ (pt ((tO t j).cor j)) from (arh (m.o 0 rfl) htj (show j<3 by omega)).lies aH aA) ?_;simp only[zz];apply kP 3 [0] m;simp only[↓aC,gM,aU,aa];intro g1 u m;obtain⟨htx,hty,htz⟩:=iA (aeA hti j) (c:=j);obtain⟨hx1,_⟩:=Np htx;obtain⟨hy1,_⟩:=Np hty;obtain⟨hz1,_⟩:=Np htz;refine gc (dA m 15 aD (by kernel_rfl) ?_);simp only[zy];refine eT 5 [0] ?_;simp only[↓aC,kH,eR,aa];refine aI (lG rfl rfl (by omega) hx1) (eT 2 [0] ?_);simp only[↓aC,kI,eR,aa];refine aI (lG rfl rfl (by omega) hy1) (eT 2 [0] ?_);simp only[↓aC,lE,eR,aa];refine aI (lG rfl rfl (by omega) hz1) (aI (xY rfl rfl rfl) ?_);simp only[zz];refine aI (aF bL aO rfl rfl (by omega) (by omega) jH) ?_;simp only[zz];refine aI (aJ cT aA rfl rfl (by omega) (by omega) alj) (bE ?_);intro u m;simp only[zz];refine alL (off:=(k*9+j*3)) m 1 rfl rfl rfl aA (by simp;omega) rfl ?_;intro u m;simp only[zF,zG] at m;rw[show over (((shL (qU vt) k).set k (tO t j)).flatMap aM) (k*9+j*3) _=(((shL (qU vt) k).set k (tO t j)).set k ((tO t j).setC j (Az ((tO t j).cor j)))).flatMap aM from ah3 (p:=⟨((tO t j).cor j).x / 1024,((tO t j).cor j).y / 1024,((tO t j).cor j).z / 1024⟩) htj (by omega),List.set_set,aln (show j<3 by omega)] at m;refine aN ?_;apply aW 6 [0] m;simp only[↓aC];refine⟨by omega,?_⟩;exact hK2 (3-(j+1)) _ _ (by omega) (by kernel_rfl) ⟨j+1,rfl,(m.sel [false,true]),by omega,rfl⟩
      ·
       obtain rfl:j=3:=by omega
       rw[alo,as0 ht] at m;apply aK 7 [0] m;simp only[↓aC];refine⟨by omega,?_⟩;exact hK1 (n3-(k+1)) _ _ (by omega) (by kernel_rfl) ⟨k+1,rfl,m,by omega,rfl⟩
   ·
    obtain rfl:k=n3:=by omega
    rw[show shL (qU vt) k=(qU vt).map (T3.mapP Az) by unfold shL;rw[bi (by omega),List.drop_of_length_le (by omega),eo]] at m;apply aK 4 [0] m;simp only[↓aC];refine bC rfl rfl (Tc (ts:=(qU vt).map (T3.mapP Az)) _ ((m.o 0 rfl).tris (aoL hit)) (by omega)) ?_;rintro v u e_ ⟨A8,cap8,n8,hn8,rfl,h_⟩;replace m:=m.newO e_ h_;apply aL 3 [] m;simp only[↓aC];exact aT rfl rfl ⟨_,rfl,m.ext,vt,hB,⟨by unfold dW;rw[eH,bf];omega,kV (aoL hit)⟩,_,_,_,by unfold dW;rw[eH,hn8],rfl,(m.o 0 rfl)⟩
end Go.Proofs.YtfekpcimgncioaaGreatDoor
namespace Go.Proofs.YtfekpcimgncioaaGreatDoor
open Go.Proofs.Tryz
open Go.RowKit Go.Lith
set_option maxRecDepth 100000
attribute [local irreducible] au cu fA bF cG Code.wp
end Go.Proofs.YtfekpcimgncioaaGreatDoor
namespace Go.Proofs.YtfekpcimgncioaaGreatDoor
open Go.Proofs.Tryz
open Go.RowKit Go.Lith
set_option maxRecDepth 100000
attribute [local irreducible] au cu fA bF cG Code.wp
attribute [local congr] nO fK fM fN fO fP iY fQ fR fS fT fU fV fW fX fY fZ gA dX dY gB gC gE gF gG jA cQ cR cE cP gD iZ dZ eA eB gH gI jD
end Go.Proofs.YtfekpcimgncioaaGreatDoor
