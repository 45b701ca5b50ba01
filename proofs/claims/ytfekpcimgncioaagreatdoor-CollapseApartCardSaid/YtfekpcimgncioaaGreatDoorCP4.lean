/-
 Texts of one claim, laid together: K31, Wo, Ch, Ci, Ck, Cl, Wp, Cm, Cn, Co, Cp, K32, K33, Cr, K53, K54, K55, K56, K70, Cs, Ct, Cu, Cv, Cw, K71, K72, K73, K74.
-/
import Derived.Test.YtfekpcimgncioaaGreatDoorCP3
open Nat renaming reduceAdd→aa,reduceMul→ag,zero_le→cv,mod_lt→ji,mul_one→lz
open Int renaming reduceToNat→ad,toNat_natCast→ah,reduceAdd→ak,fdiv_eq_ediv_of_nonneg→ia,add_zero→ix,natCast_mul→jh,toNat→lc,add_assoc→qm
open Go renaming Value→ai,World→aj
open List renaming getElem?_eq_getElem→am,mem_cons→an,getElem?_eq_some_iff→ap,length_cons→av,length_append→aw,flatMap_append→ay,take_of_length_le→a_,mem_singleton→bf,mem_cons_of_mem→bg,mem_of_getElem?→bh,mem_append→bi,map_cons→bj,mem_cons_self→bm,pairwise_cons→bt,length_nil→bv,length_map→bx,nil_append→b_,replicate→cl,cons_append→cn,append_assoc→cq,map_append→ct,all_eq_true→de,range→df,mem_map→dh,flatMap_cons→di,mem_filter→dw,mem_iff_getElem?→ej,mem_flatMap→el,getD_eq_getElem?_getD→eo,eq_nil_of_length_eq_zero→et,append_nil→fa,getElem?_map→fb,mem_map_of_mem→fk,set_cons_zero→gh,pairwise_append→gj,getElem_mem→gl,mem_range→gn,nodup_cons→gt,length_set→gu,foldl_append→gz,range_succ→im,map_congr_left→ir,pairwise_iff_getElem→jb,any_eq_false→ju,flatMap_singleton→jw,map_map→kd,pairwise_singleton→kh,set_append_right→kz,replicate_succ→nh,length_range→oh,map_flatMap→ov,map_set→pc
open Bool renaming and_eq_true→be,or_eq_true→ep,not_false→fh,not_true→fi,not_eq_true'→fj,false_ne_true→fy,and_eq_true_iff→jm
open Go.Value renaming bool→bn,int→mi
open BitVec renaming ofInt→ew
open Option.some renaming inj→fq
open Prod.mk renaming injEq→ft
open List.Pairwise renaming nil→li
set_option maxHeartbeats 8000000
set_option linter.unusedSimpArgs false
set_option linter.unusedVariables false
set_option linter.unusedSectionVars false
namespace Go.Proofs.YtfekpcimgncioaaGreatDoor
open Go.Proofs.Tryz
open Go.RowKit Go.Lith
variable{ts:List T3}{N cap:Nat}
abbrev dH:=@underlying22
abbrev zY:=@underlying261
abbrev Gz:=@underlying262
abbrev Oc:=@underlying62
set_option maxRecDepth 100000
attribute [local irreducible] wpList wpQuiet gG bQ cO Code.wp
attribute [local congr] rC gX gY gZ iA iB lI iC iD iE iF iG iH iJ iK iL iM iN fJ fK iO iP iR iS iT lK dW dX cX dV iQ lJ fN fO fP iU iV lM
def ab0(A:Option Addr)(N cap:Nat)(ts:List T3)(w:aj)(v:ai)(w':aj):Prop:=(v=.slice A N cap∧N<2)∨SL 39 9 ((vZ ts).flatMap aN) N w v w'
theorem aec{t:T3}(h:IT t):IT (dL t):=by
 unfold dL;split
 · exact⟨h.c,h.a,h.b⟩
 · split
   · exact⟨h.b,h.c,h.a⟩
   · exact h
theorem ank(h:∀t∈ts,IT t):∀t∈vZ ts,IT t:=fun t ht=>h t ((uD ts).mem_iff.1 ht)
theorem ab0.view{A:Option Addr}{w w':aj}{v:ai}(h:ab0 A N cap ts w v w')(hT:bV w' A N ts)(hc:N≤cap):∃B c,v=.slice B N c∧bV w' B N (vZ ts)∧N≤c:=by
 rcases h with ⟨rfl,h⟩ | ⟨B,c,n,rfl,rfl,hO⟩
 · exact⟨_,_,O,by rw[Oa (by rw[hT.len];exact h)];exact hT,hc⟩
 · exact⟨B,c,O,hO.tris (ank hT.it),hO.le⟩
theorem ajV{A:Option Addr}(w:aj)(ih:∀{us:List T3} {M c:Nat} {B:Option Addr} (u:aj),bV u B M us→M≤c→M<N→dQ prog 85 [.slice B M c] u (ab0 B M c us u))(hT:bV w A N ts)(hcap:N≤cap)(hN:N≤10000000):dQ prog 85 [.slice A N cap] w (ab0 A N cap ts w):=by
 refine⟨bK func85 (by kernel_rfl),?_⟩;have m:=Mem.refl w;have htl:=hT.len
 go_enter func85,ntmps85
 apply fF 11 [0,0] m;simp only[↓aD,kA];refine bG O ?_ ?_<;>intro hc1
 ·
  apply aJ 6 [] m;simp only[↓aD];exact aT O O ⟨_,O,m.ext,.inl ⟨O,by omega⟩⟩
 ·
  apply aJ 5 [0] m;simp only[↓aD,kA];refine aB (jG O O (by omega) (show IntKind.i64.wrap ((N:Int).tdiv 2)=((N / 2:Nat):Int) from (show IntKind.i64.wrap ((N / 2:Nat):Int)=((N / 2:Nat):Int) from bM (by omega) (by omega)))) ?_;apply aL 3 [0] m;simp only[↓aD];refine mh m [] [(0,true),(1,true),(2,true),(4,true),(5,true),(6,true),(3,false),(7,false),(8,false),(9,true)] aC (by kernel_rfl) (bU (fun _ _ _ _ _ h=>h)) (ol:=?_) ?hol ?_
  case hol=>simp only[zw,zQ,zR];try rfl
  intro u m;refine bF aI (bF aI ?_);simp only[zz];refine bF (mF cH aP O O (show _=N / 2 by omega) (by omega) (by omega)) (bF aI (bF aI ?_));simp only[zz];refine bF (uA cH aP O O (show _=N / 2 by omega) (by omega) (by omega) O) (bR ?_);simp only[zz];refine bJ O O (ih _ ((hT.ext m.ext).takeL (k:=N / 2) (by omega)) (by omega) (by omega)) ?_;rintro v u e hR;replace m:=m.ext' e;obtain⟨A5,c5,rfl,hT5,hc5⟩:=hR.view ((hT.ext m.ext).takeL (k:=N / 2) (by omega)) (by omega);clear e;refine aM ⟨m,?_⟩;refine bR ?_;simp only[zz];refine bJ O O (ih _ ((hT.ext m.ext).dropL (k:=N / 2) (cap:=cap) (by omega) hcap) (by omega) (by omega)) ?_;rintro v u e hR6;replace m:=m.ext' e;replace hT5:=hT5.ext e;obtain⟨A6,c6,rfl,hT6,hc6⟩:=hR6.view ((hT.ext m.ext).dropL (k:=N / 2) (cap:=cap) (by omega) hcap) (by omega);clear e;refine aM ⟨m,?_⟩;refine bR ?_;simp only[zz];refine bJ O O (ajU _ hT5 hT6 hc6 (by omega)) ?_;rintro v u e_ ⟨A7,cap7,n7,hn7,rfl,h_⟩;replace m:=m.newO e_ h_;refine aM ⟨m.sel [false],?_⟩;refine bF aO (bW ?_);apply aW 1 [] m;simp only[↓aD];exact aT O O ⟨_,O,m.ext,.inr ⟨A7,cap7,n7,by omega,O,by rw[←abZ ts (N / 2)];exact (m.o 0 O)⟩⟩
theorem afD:∀(n:Nat) {ts:List T3} {N cap:Nat} {A:Option Addr} (w:aj),bV w A N ts→N≤cap→N≤10000000→N<n→dQ prog 85 [.slice A N cap] w (ab0 A N cap ts w)
 | 0,_,_,_,_,_,_,_,_,h=>absurd h (Nat.not_lt_zero _)
 | n+1,_,N,_,_,w,hT,hc,hN,h=>ajV w (fun u hU hcu hM=>afD n u hU hcu (by omega) (by omega)) hT hc hN
theorem aqN{w0 w:aj}{A:Option Addr}{N cap:Nat}{xs:List T3}(m:Mem w0 w [oI 39 9 A N cap (xs.flatMap aN)])(hi:∀t∈xs,IT t)(hN:N≤10000000) :
 wE prog 85 [.slice A N cap] w fun v w'=>∃B c,v=.slice B N c∧Mem w0 w' [oI 39 9 B N c ((vZ xs).flatMap aN)]:=by
 have hO:=m.o 0 rfl;have hD:=afD (N+1) w (hO.tris hi) hO.le hN (Nat.lt_succ_self N);refine⟨hD.1,hD.2.mono ?_⟩;rintro e w' ⟨v,rfl,hE,⟨rfl,h⟩ | ⟨B,c,n,rfl,rfl,hN2⟩⟩
 · exact⟨_,O,A,cap,O,by rw[Oa (by rw[(hO.tris hi).len];exact h)];exact m.ext' hE⟩
 · exact⟨_,O,B,c,O,(m.newO hE hN2).sel [true,false]⟩
theorem Tc{A:Option Addr}(w:aj)(hT:bV w A N ts)(hN:N≤10000000):dQ prog 40 [.slice A N cap] w (SL 39 9 ((cS ts).flatMap aN) ts.length w):=by
 refine⟨bK func40 (by kernel_rfl),?_⟩;have m:=Mem.refl w;have htl:=hT.len
 go_enter func40,ntmps40
 apply fF 6 [0] m;simp only[↓aD];refine aB aO ?_;replace m:=m.nilO 39 9;apply aL 7 [0] m;simp only[↓aD];refine bX [3,4] [5,6,7,8,9,10,11,12,13,14,15,16,17,18] (fun n vs wl=>∃(k:Nat) (A1:Option Addr) (cap1:Nat),vs=[.slice A1 k cap1,.int .i64 (k:Int)]∧Mem w wl [oI 39 9 A1 k cap1 (((ts.take k).map dL).flatMap aN)]∧(k≤N)∧(n=N-k)) ?_ ?_
 ·
  exact⟨_,0,_,_,O,m,cv _,O⟩
 · intro n vs wr hI u K1 hK1
   obtain⟨k,A1,cap1,rfl,m,hk,hn⟩:=hI;simp only[zu,zF,zG];apply aJ 8 [0,0] m;simp only[↓aD,kA];refine bG O ?_ ?_<;>intro hc1
   ·
    obtain⟨t,ht,_,a,hA,hrow⟩:=hT.get (i:=k) (by omega);subst hA;apply aJ 7 [0] m;simp only[↓aD];refine aB (aF cH aP O O (by omega) (by omega) (cQ (ah _))) ?_;simp only[zz];refine aR O ((hrow.ext m.ext).lies cF aP) ?_;simp only[zz];refine kO m O O (Mg (t:=t)) ?_;intro u m;simp only[zz];refine eZ O ?_;intro u g1 e_ h_ k_;replace m:=m.newB e_ h_ k_;simp only[zz];refine bL m 1 O O cH jK O (by decide) O O O (m.b 0 O).rowsO (gB O) (by omega) (by omega) ?_;intro A1 cap1 u m;simp only[zF,zG] at m;rw[show ((ts.take k).map dL).flatMap aN++_=((ts.take (k+1)).map dL).flatMap aN by rw[cJ ht,ct,ay];rfl] at m;apply aL 8 [0] m;simp only[↓aD];refine⟨by omega,?_⟩;exact hK1 (N-(k+1)) _ _ (by omega) (by kernel_rfl) ⟨k+1,_,_,O,(m.sel [false,true]),by omega,O⟩
   ·
    obtain rfl:k=N:=by omega
    rw[show ts.take k=ts from a_ (by omega)] at m;apply aJ 4 [0] m;simp only[↓aD];refine kK rfl rfl (aqN m (fun t ht=>by obtain⟨s,hs,rfl⟩:=dh.1 ht;exact aec (hT.it s hs)) (by omega)) ?_;rintro v u ⟨A4,cap4,rfl,m⟩;apply aL 3 [] m;simp only[↓aD];exact aT O O ⟨_,O,m.ext,⟨_,_,_,htl.symm,O,(m.o 0 O)⟩⟩
end Go.Proofs.YtfekpcimgncioaaGreatDoor
namespace Go.Lith
open Go.RowKit
variable{t:T3}{l ts:List T3}{x y a u:P3}
theorem ab1{u:T3}(h:adP t u):rX u=rX t:=by
 have k:=afu h;have e:∀s:T3,rX s = !s.nd:=fun s=>by
  cases hd:s.nd with
  | true =>
   obtain⟨h1,h2,h3⟩:=Gv.1 hd;simp[rX,h1,h2,h3]
  | false =>
   rcases aoY.1 hd with h | h | h <;> simp[rX,h]
 rw[e,e,k]
/-! ### Corners in order -/
theorem afE{p:P3}:∀{ps:List P3},uU ps→(ps.dropWhile fun x=>decide (x.Lt p)).head? ≠ some p→∀x∈ps.dropWhile fun x=>decide (x.Lt p),p.Lt x
 | [],_,_,x,h=>by cases h
 | y::ys,hs,hp,x,h=>by
  obtain⟨h1,h2⟩:=bt.1 hs;rw[List.dropWhile_cons] at h hp;split at h
  · rename_i hy
    rw[if_pos hy] at hp;exact afE h2 hp x h
  · rename_i hy
    rw[if_neg hy] at hp;have hy':p.Lt y:=by
     rcases lt_tri y p with k | k | k
     · exact absurd (decide_eq_true k) hy
     · rw[k] at hp;exact absurd O hp
     · exact k
    rcases an.1 h with rfl | h
    · exact hy'
    · exact P3.lt_trans hy' (h1 x h)
theorem zZ{ps:List P3}{p:P3}(hs:uU ps):uU (gK ps p):=by
 unfold gK;split
 · exact hs
 · rename_i hp
   have hd:(ps.drop (abj ps p))=ps.dropWhile fun x=>decide (x.Lt p):=aab ps;have ht:(ps.take (abj ps p))=ps.takeWhile fun x=>decide (x.Lt p):=aaa ps;have h0:=hs;rw[uU,←List.takeWhile_append_dropWhile (p:=fun x=>decide (x.Lt p)) (l:=ps)] at h0;obtain⟨h1,h2,h3⟩:=gj.1 h0;have hg:=afE (p:=p) hs (by rw[←hd,List.head?_drop];exact hp);have hl:∀x∈ps.takeWhile fun x=>decide (x.Lt p),x.Lt p:=fun x hx=>of_decide_eq_true (adF (p:=fun x:P3=>decide (x.Lt p)) hx);rw[hd,ht];refine gj.2 ⟨gj.2 ⟨h1,kh _ _,fun x hx y hy=>?_⟩,h2,fun x hx y hy=>?_⟩
   · rw[bf.1 hy];exact hl x hx
   · rcases bi.1 hx with hx | hx
     · exact h3 x hx y hy
     · rw[bf.1 hx];exact hg y hy
theorem Td(ts:List T3):uU (dR ts):=by
 have:∀(ts:List T3) (ps:List P3),uU ps→uU (ts.foldl (fun ps t=>gK (gK (gK ps t.a) t.b) t.c) ps):=by
  intro ts
  induction ts with
  | nil=>exact fun ps h=>h
  | cons t ts ih=>exact fun ps h=>ih _ (zZ (zZ (zZ h)))
 exact this ts [] li
/-! ### Lists turned,mapped,chosen from -/
theorem ajW{p:P3}:Nx (cS l) p x y↔Nx l p x y:=by
 rw[am8 (lY l)];constructor
 · intro h
   obtain⟨t,ht,hx⟩:=fM.1 h;obtain⟨s,hs,rfl⟩:=dh.1 ht;exact fM.2 ⟨s,hs,(abR (kU s)).1 hx⟩
 · intro h
   obtain⟨s,hs,hx⟩:=fM.1 h;exact fM.2 ⟨dL s,fk hs,(abR (kU s)).2 hx⟩
theorem aao{b:P3}:(a,b)∈aX ts↔∃y,Nx ts a b y:=by
 constructor
 · intro h
   rw[←nD] at h;obtain⟨⟨e,y⟩,hx,he⟩:=dh.1 h;simp only at he;subst he;exact⟨y,hx⟩
 · rintro⟨y,h⟩
   exact El h
theorem ag0(t:T3):(asD (dL t)).Perm (asD t):=by
 rcases kU t with h | h | h
 · rw[h]
 · rw[h];exact List.perm_append_comm (l₁:=[(t.b,t.c),(t.c,t.a)]) (l₂:=[(t.a,t.b)])
 · rw[h];exact List.perm_append_comm (l₁:=[(t.c,t.a)]) (l₂:=[(t.a,t.b),(t.b,t.c)])
theorem Jn:∀l:List T3,(aX (l.map dL)).Perm (aX l)
 | []=>.refl _
 | t::l=>(ag0 t).append (Jn l)
theorem ab2(l:List T3):(aX (cS l)).Perm (aX l):=((lY l).flatMap_right _).trans (Jn l)
theorem ajX{f:P3→P3}{p:P3}:Nx (ts.map (T3.mapP f)) p x y↔∃p' x' y',Nx ts p' x' y'∧f p'=p∧f x'=x∧f y'=y:=by
 constructor
 · intro h
   obtain⟨t,ht,hx⟩:=fM.1 h;obtain⟨s,hs,rfl⟩:=dh.1 ht;rcases Sg.1 hx with ⟨rfl,rfl,rfl⟩ | ⟨rfl,rfl,rfl⟩ | ⟨rfl,rfl,rfl⟩
   · exact⟨s.a,s.b,s.c,fM.2 ⟨s,hs,Sg.2 (.inl ⟨O,O,O⟩)⟩,O,O,O⟩
   · exact⟨s.b,s.c,s.a,fM.2 ⟨s,hs,Sg.2 (.inr (.inl ⟨O,O,O⟩))⟩,O,O,O⟩
   · exact⟨s.c,s.a,s.b,fM.2 ⟨s,hs,Sg.2 (.inr (.inr ⟨O,O,O⟩))⟩,O,O,O⟩
 · rintro⟨p',x',y',h,rfl,rfl,rfl⟩
   obtain⟨s,hs,hx⟩:=fM.1 h;refine fM.2 ⟨s.mapP f,fk hs,Sg.2 ?_⟩;rcases Sg.1 hx with ⟨rfl,rfl,rfl⟩ | ⟨rfl,rfl,rfl⟩ | ⟨rfl,rfl,rfl⟩
   · exact .inl ⟨O,O,O⟩
   · exact .inr (.inl ⟨O,O,O⟩)
   · exact .inr (.inr ⟨O,O,O⟩)
theorem nxt{b c:P3}(h:Nx ts a b c):Nx ts b c a:=uX h
/-! ### Closed sets in place of rings -/
/-! ### A path in a corner's place -/
section
variable {u c1 c2:P3} {A P N N':P3→P3→Prop}
end
section
variable {us:List T3} {u v c1 c2:P3}
/-! ### The corners behind each other,afterwards -/
/-! ### Edges -/
/-! ### No edge twice -/
end
theorem anl   : x∈dS ts↔∃a b,Nx ts x a b:=by
 constructor
 · intro h
   obtain⟨t,ht,hx⟩:=abN.1 h;rcases hx with rfl | rfl | rfl
   · exact⟨t.b,t.c,fM.2 ⟨t,ht,Sg.2 (.inl ⟨O,O,O⟩)⟩⟩
   · exact⟨t.c,t.a,fM.2 ⟨t,ht,Sg.2 (.inr (.inl ⟨O,O,O⟩))⟩⟩
   · exact⟨t.a,t.b,fM.2 ⟨t,ht,Sg.2 (.inr (.inr ⟨O,O,O⟩))⟩⟩
 · rintro⟨a,b,h⟩
   exact (Xc (El h)).1
section
variable {us:List T3} {u v c1 c2:P3}
/-! ### Round each corner -/
end
/-! ### From the conditions -/
/-! ### Edges,each once -/
def anm(e:E3):E3:=(e.2,e.1)
/-! ### Triangles -/
section
variable {us:List T3} {u v c1 c2:P3}
theorem Vq(ts:List T3):(dR ts).Nodup:=by
 have h:=Td ts;unfold uU at h;refine List.Pairwise.imp (S:=fun a b:P3=>a≠b) (fun {a b} k e=>?_) h;rw[e] at k;exact P3.lt_irrefl b k
end
/-! ### All along -/
/-! ### The ends of fans -/
/-! ### Accepted -/
theorem uF   : t∈cS l↔∃s∈l,dL s=t:=by
 rw[(lY l).mem_iff,dh]
theorem ag1  : Xd (cS l)↔Xd l:=by
 constructor
 · intro h t ht
   rw[←ab1 (kU t)];exact h _ (uF.2 ⟨t,ht,O⟩)
 · intro h t ht
   obtain⟨s,hs,rfl⟩:=uF.1 ht;rw[ab1 (kU s)];exact h s hs
theorem ag2(p:P3):Nx (cS l) p=Nx l p:=funext fun _=>funext fun _=>propext ajW
theorem Od  : fH true (cS l)=0↔fH true l=0:=by
 rw[vY,vY,ag1,(ab2 l).nodup_iff];simp only[ag2]
/-! ### The moves in order -/
theorem Mh(p:P3):∀l:List P3,(agW p l).Perm (p::l)
 | []=>.refl _
 | q::l=>by
  rw[agW];split
  · exact ((Mh p l).cons q).trans (.swap ..)
  · exact .refl _
theorem rG:∀l:List P3,(Ba l).Perm l
 | []=>.refl _
 | p::l=>(Mh p _).trans ((rG l).cons p)
theorem Oe{p:P3}:∀{l:List P3},l.Pairwise P3.Lt→p∉l→(agW p l).Pairwise P3.Lt
 | [],_,_=>kh _ _
 | q::l,h,hn=>by
  rw[agW];obtain⟨h1,h2⟩:=bt.1 h;split
  · rename_i k
    refine bt.2 ⟨fun x hx=>?_,Oe h2 fun k=>hn (bg _ k)⟩;rcases an.1 ((Mh p l).subset hx) with rfl | hx
    · exact k
    · exact h1 x hx
  · rename_i k
    have hq:p.Lt q:=by
     rcases lt_tri q p with e | e | e
     · exact absurd e k
     · exact absurd (e▸bm ..) hn
     · exact e
    refine bt.2 ⟨fun x hx=>?_,h⟩;rcases an.1 hx with rfl | hx
    · exact hq
    · exact P3.lt_trans hq (h1 x hx)
theorem Jo:∀{l:List P3},l.Nodup→(Ba l).Pairwise P3.Lt
 | [],_=>li
 | p::l,h=>by
  obtain⟨h1,h2⟩:=gt.1 h;exact Oe (Jo h2) fun k=>h1 ((rG l).mem_iff.1 k)
theorem aed(D:List Mv):(nE D).map (·.1)=Ba (D.map (·.1)):=by
 unfold nE;rw[kd];exact List.map_id _
theorem Ep(D:List Mv):(nE D).length=D.length:=by
 have:=congrArg List.length (aed D);rw[bx,(rG _).length_eq,bx] at this;exact this
/-! ### Boxes -/
theorem ann(t:T3)(k:Nat):Em (dL t) k=Em t k:=by
 rcases kU t with h | h | h <;> rw[h] <;> unfold Em <;> simp only <;> omega
theorem ano(t:T3)(k:Nat):En (dL t) k=En t k:=by
 rcases kU t with h | h | h <;> rw[h] <;> unfold En <;> simp only <;> omega
theorem ajY(s t:T3):oM (dL s) (dL t)=oM s t:=by
 unfold oM abU;simp only[ann,ano]
theorem Xu(s t:T3):oM s t=oM t s:=by
 unfold oM abU;simp only[Bool.or_comm]
theorem ajZ(s t:T3):mS (dL s) (dL t)=mS s t:=by
 have h1:∀s t:T3,mS (dL s) t=mS s t:=fun s t=>by
  rcases kU s with h | h | h
  · rw[h]
  · rw[h];exact Lx s t
  · rw[h];exact (Lx (sB s) t).trans (Lx s t)
 have h2:∀s t:T3,mS s (dL t)=mS s t:=fun s t=>by
  rcases kU t with h | h | h
  · rw[h]
  · rw[h];exact Gx s t
  · rw[h];exact (Gx s (sB t)).trans (Gx s t)
 rw[h1,h2]
def De(s t:T3):Bool:=oM s t&&mS s t
theorem Jp(s t:T3):De (dL s) (dL t)=De s t:=by unfold De;rw[ajY,ajZ]
theorem Xv{s:T3}(hs:s.nd=true)(ht:t.nd=true):De s t=De t s:=by unfold De;rw[Xu,agU hs ht]
theorem Jq(t s:T3):tC t s=De s t:=by unfold tC De;rw[Xu]
def Df(t:T3)(l:List T3):Bool:=l.any fun s=>!decide (dL s=dL t)&&De (dL s) (dL t)
def Dg(l:List T3):Prop:=∀s∈l,∀t∈l,dL s≠dL t→De s t=false
theorem ab3   : Df t l=false↔∀s∈l,dL s≠dL t→De s t=false:=by
 unfold Df;rw[ju];constructor
 · intro h s hs hne
   have:=h s hs;rw[Jp] at this;simpa[hne] using this
 · intro h s hs
   rw[Jp];by_cases e:dL s=dL t
   · simp[e]
   · simp[h s hs e]
theorem Pn(h:t.nd=true):dL (dL t)=dL t:=abM (kU t) h
theorem aee(hd:∀t∈l,t.nd=true)(h:Dg l):Dg (cS l):=fun s hs t ht hne=>by
 obtain⟨s',hs',rfl⟩:=uF.1 hs;obtain⟨t',ht',rfl⟩:=uF.1 ht;rw[Pn (hd _ hs'),Pn (hd _ ht')] at hne;rw[Jp];exact h s' hs' t' ht' hne
/-! ### What clear says -/
theorem ag3{v:P3}:Cu l u v=true↔(∀t∈kC u v l,∀s∈nO u v l,De s t=false)∧(kC u v l).Pairwise fun s t=>De s t=false:=by
 unfold Cu;rw[de];have key:∀{i:Nat} {t:T3},(kC u v l)[i]? = some t→(t,i)∈(kC u v l).zipIdx:=fun {i t} h=>List.mem_zipIdx_iff_getElem?.2 h;constructor
 · intro h
   refine⟨fun t ht s hs=>?_,jb.2 fun i j hi hj hij=>?_⟩
   · obtain⟨i,hi⟩:=ej.1 ht
     have:=h _ (key hi);simp only[be,fj,ju] at this;have:=this.1 s hs;rw[Jq] at this;simpa using this
   · have:=h _ (key (am hj))
     simp only[be,fj,ju] at this;have:=this.2 ((kC u v l)[i]) (bh (i:=i) (by rw[List.getElem?_take_of_lt hij];exact am hi));rw[Jq] at this;simpa using this
 · rintro⟨h1,h2⟩ ⟨t,i⟩ hx
   have hi:=List.mem_zipIdx_iff_getElem?.1 hx;simp only at hi;simp only[be,fj,ju];refine⟨fun s hs=>?_,fun s hs=>?_⟩
   · rw[Jq,h1 t (bh hi) s hs];exact fy
   · obtain⟨j,hj⟩:=ej.1 hs
     rw[List.getElem?_take] at hj;split at hj
     · rename_i hji
       obtain⟨hil,rfl⟩:=ap.1 hi;obtain⟨hjl,rfl⟩:=ap.1 hj;rw[Jq,jb.1 h2 j i hjl hil hji];exact fy
     · cases hj
theorem ab4{α:Type}{R:α→α→Prop}(sy:∀a b,R a b→R b a):∀{l:List α},l.Pairwise R→∀a∈l,∀b∈l,a≠b→R a b
 | [],_,a,h,_,_,_=>by cases h
 | x::l,h,a,ha,b,hb,hne=>by
  obtain⟨h1,h2⟩:=bt.1 h;rcases an.1 ha with e | ha
  · rcases an.1 hb with e2 | hb
    · exact absurd (e.trans e2.symm) hne
    · rw[e];exact h1 b hb
  · rcases an.1 hb with e2 | hb
    · rw[e2];exact sy _ _ (h1 a ha)
    · exact ab4 sy h2 a ha b hb hne
theorem Po{v:P3}:∀t∈kC u v l,t.nd=true:=fun t ht=>by
 obtain⟨s,hs,rfl⟩:=dh.1 ht;have:=(dw.1 hs).2;exact (jm.1 this).2
theorem aap{v:P3}(h:t∈nO u v l):t∈l:=(dw.1 h).1
theorem ab5{v:P3}(hd:∀t∈l,t.nd=true){x:T3}:x∈yZ l u v↔∃s,(s∈kC u v l∨s∈nO u v l)∧dL s=x:=by
 unfold yZ;rw[uF];refine exists_congr fun s=>and_congr_left fun _=>?_;rw[←(Sq (u:=u) (v:=v) l hd).mem_iff,bi]
theorem aj0{v:P3}(hd:∀t∈l,t.nd=true)(hf:Dg l)(hc:Cu l u v=true):Dg (yZ l u v):=fun x hx y hy hne=>by
 obtain⟨h1,h2⟩:=ag3.1 hc;obtain⟨s,hs,rfl⟩:=(ab5 hd).1 hx;obtain⟨t,ht,rfl⟩:=(ab5 hd).1 hy;have nd:∀z,z∈kC u v l∨z∈nO u v l→z.nd=true:=fun z hz=>hz.elim (Po z) fun h=>hd z (aap h);rw[Pn (nd s hs),Pn (nd t ht)] at hne;rw[Jp];rcases hs with hs | hs
 · rcases ht with ht | ht
   · -- both moved
     by_cases e:s=t
     · exact absurd (by rw[e]) hne
     · have k:(kC u v l).Pairwise fun s t=>De s t=false∧s.nd=true∧t.nd=true:=h2.imp_of_mem fun {a b} ha hb h=>⟨h,Po a ha,Po b hb⟩
       exact (ab4 (fun a b ⟨h,n1,n2⟩=>⟨by rw[Xv n2 n1];exact h,n2,n1⟩) k s hs t ht e).1
   · rw[Xv (Po s hs) (hd t (aap ht))];exact h1 s hs t ht
 · rcases ht with ht | ht
   · exact h1 t ht s hs
   · exact hf s (aap hs) t (aap ht) hne
theorem Vr{v:P3}(h:dC l u v=true):Cu l u v=true:=by
 unfold dC at h;simp only[be] at h;exact h.2
theorem ab6{want:Int}:∀(n:Nat) {l:List T3} {q:P3→List Int} {D:List Mv},(∀t∈l,t.nd=true)→Dg l→Dg (mT n want l q D).1
 | 0,_,_,_,_,h=>h
 | n+1,l,q,D,hd,h=>by
  unfold mT;split
  · exact h
  · cases hb:xL l q with
    | none=>exact h
    | some c=>exact ab6 n (ajs _ _ _) (aj0 hd h (Vr (Ma hb).2))
theorem ag4{s:List T3}{want:Int}(hc:fH true s=0)(h:Dg s):Dg (qD s want).1:=by
 obtain⟨dg,_,_⟩:=vY.1 hc;have hd:∀t∈s,t.nd=true:=fun t ht=>nd_of (dg t ht);unfold qD;rw[if_neg (fun k=>k (Od.2 hc))];exact ab6 _ (abV hd) (aee hd h)
/-! ### The corners of a triangle,in order -/
/-! ### The same conditions -/
theorem aef{q:P3→List Int}{cs:List lT}{c:lT}{k:Nat}(hm:∀d,d∈cs↔d∈ad1 l q)(hs:cs.Pairwise fun a b=>¬b.Lt a)(hk:cs[k]? = some c)(ha:dC l c.u c.v=true)(hb:∀j d,j<k→cs[j]? = some d→dC l d.u d.v=false):xL l q=some c:=by
 refine anf (dw.2 ⟨(hm c).1 (bh hk),ha⟩) fun d hd hlt=>?_;obtain⟨h1,h2⟩:=dw.1 hd;obtain⟨j,hj⟩:=ej.1 ((hm d).2 h1);rcases Nat.lt_trichotomy j k with h | h | h
 · rw[hb j d h hj] at h2;cases h2
 · rw[h,hk] at hj;cases hj;exact lT.lt_irrefl _ hlt
 · obtain⟨kl,rfl⟩:=ap.1 hk
   obtain⟨jl,rfl⟩:=ap.1 hj;exact jb.1 hs k j kl jl h hlt
theorem aeg{q:P3→List Int}{cs:List lT}(hm:∀d,d∈cs↔d∈ad1 l q)(hb:∀d∈cs,dC l d.u d.v=false):xL l q=none:=by
 refine Ly.2 (List.filter_eq_nil_iff.2 fun d hd=>?_);rw[hb d ((hm d).2 hd)];exact fy
/-! ### The example: the octahedron -/
def oct(n:Int):List T3 :=
 let x0:P3:=⟨-n,0,0⟩;let x1:P3:=⟨n,0,0⟩;let y0:P3:=⟨0,-n,0⟩;let y1:P3:=⟨0,n,0⟩;let z0:P3:=⟨0,0,-n⟩;let z1:P3:=⟨0,0,n⟩
 [⟨y0,x0,z0⟩,⟨x1,y0,z0⟩,⟨x0,y1,z0⟩,⟨y1,x1,z0⟩,⟨x0,y0,z1⟩,⟨y0,x1,z1⟩,⟨y1,x0,z1⟩,⟨x1,y1,z1⟩]
def Ff:List T3:=cS (oct 10)
theorem ag5:fH true Ff=0:=by kernel_rfl
theorem anp:dC Ff ⟨10,0,0⟩ ⟨0,10,0⟩=true:=by kernel_rfl
theorem anq:dC Ff ⟨10,0,0⟩ ⟨-10,0,0⟩=false:=by kernel_rfl
theorem anr:(yZ Ff ⟨10,0,0⟩ ⟨0,10,0⟩).length=6:=by kernel_rfl
theorem ab7:((qD Ff 7).1.length,(qD Ff 7).2)=(6,[(⟨-10,0,0⟩,⟨0,-10,0⟩)]):=by kernel_rfl
end Go.Lith
namespace Go.Proofs.YtfekpcimgncioaaGreatDoor
open Go.Proofs.Tryz
open Go.RowKit Go.Lith
set_option maxRecDepth 100000
attribute [local irreducible] wpList wpQuiet gG bQ cO Code.wp
attribute [local congr] rC gX gY gZ iA iB lI iC iD iE iF iG iH iJ iK iL iM iN fJ fK iO iP iR iS iT lK dW dX cX dV iQ lJ fN fO fP iU iV lM
variable{s t:E3}{k:Nat}
theorem ans(h:¬¬(s.1.x=t.1.x∧s.1.y=t.1.y∧s.1.z=t.1.z∧s.2.x=t.2.x∧s.2.y=t.2.y∧s.2.z=t.2.z)):s=t:=by
 obtain⟨h1,h2,h3,h4,h5,h6⟩:=Classical.not_not.1 h;exact Prod.ext (P3.eq h1 h2 h3) (P3.eq h4 h5 h6)
theorem ant(h:¬(s.1.x=t.1.x∧s.1.y=t.1.y∧s.1.z=t.1.z∧s.2.x=t.2.x∧s.2.y=t.2.y∧s.2.z=t.2.z)):s≠t:=fun k=>h (by rw[k];simp only[and_self])
theorem aj2{α:Type}{xs ys:List α}(h:xs.take k=ys.take k)(hx:xs.length≤k)(hy:ys.length≤k):xs=ys:=by rwa [a_ hx,a_ hy] at h
theorem at4{n k:Int}(hi:sP n)(h0:0<k)(h1:k<4611686018427387904):dT prog 53 [.int .i64 n,.int .i64 k] (.int .i64 (n%k)):=by
 intro w;refine⟨bK func53 (by kernel_rfl),?_⟩;have m:=Mem.refl w;haveI:Iw n:=⟨hi⟩
 have hb:=aoQ (n:=n) h0
 go_enter func53,ntmps53
 apply fF 8 [0] m;simp only[↓aD];refine aB (cP O O (by omega) O) ?_;apply aL 3 [0] m;simp only[↓aD];refine⟨by omega,?_⟩;refine aB (cP O O (by omega) (amA h0)) ?_;apply aL 3 [] m;simp only[↓aD];exact aT O O ⟨_,O,m.ext,O⟩
theorem aj3{xs ys:List E3}{N M cap cap2:Nat}{A A2:Option Addr}(w:aj)(hT:vJ dD 6 w A N xs)(hU:vJ dD 6 w A2 M ys)(hN:N≤100000000):dQ prog 26 [.slice A N cap,.slice A2 M cap2] w (fun v _=>v=.bool (decide (xs=ys))):=by
 refine⟨bK func26 (by kernel_rfl),?_⟩;have m:=Mem.refl w;have hxl:=hT.len;have hyl:=hU.len
 go_enter func26,ntmps26
 apply fF 13 [0,0] m;simp only[↓aD,ao5];refine bG O ?_ ?_<;>intro hc1
 ·
  apply aJ 5 [] m;simp only[↓aD];refine aT O O ?_;try simp only[zD,zE]
  exact⟨_,rfl,m.ext,by rw[decide_eq_false (fun h=>hc1 (by subst h;omega))]⟩
 ·
  apply aJ 7 [0] m;simp only[↓aD];refine bX [5] [4,11,12,13,14,15,16,17,18,19,20,21,22,23,24,25] (fun n vs wl=>∃(k:Nat),vs=[.int .i64 (k:Int)]∧Mem w wl []∧(xs.take k=ys.take k)∧(k≤N)∧(n=N-k)) ?_ ?_
  ·
   exact⟨_,0,O,m,(by simp),cv _,O⟩
  · intro n vs wr hI u K1 hK1
    obtain⟨k,rfl,m,hq,hk,hn⟩:=hI;simp only[zu,zF,zG];apply aJ 8 [0,0] m;simp only[↓aD,ao5];refine bG O ?_ ?_<;>intro hc2
    ·
     obtain⟨x,hx,a,hA1,hrow1⟩:=hT.get (i:=k) (by omega);subst hA1;obtain⟨y,hy,a2,hA2,hrow2⟩:=hU.get (i:=k) (by omega);subst hA2;apply aJ 4 [0] m;simp only[↓aD];refine mq m aC (by kernel_rfl) (aG aI (aG aI ?_));simp only[zz];refine aG (aF underlying46 Ig O O (by omega) (by omega) (cQ (ah _))) ?_;simp only[zz];refine ql O (fun u m=>(show fZ _ _ _ _ (ed x) from (hrow1.ext m.ext).lies aiG Ig)) ?_;simp only[zz];refine aG aI (aG aI ?_);simp only[zz];refine aG (aF underlying46 Ig O O (by omega) (by omega) (cQ (ah _))) ?_;simp only[zz];refine ql O (fun u m=>(show fZ _ _ _ _ (ed y) from (hrow2.ext m.ext).lies aiG Ig)) ?_;simp only[zz];refine aG (agA O O) (bC ?_);intro u m;refine gc ?_;simp only[zz];refine bG O ?_ ?_<;>intro hc3
     ·
      apply aJ 5 [] m;simp only[↓aD];refine aT O O ?_;try simp only[zD,zE]
      exact⟨_,rfl,m.ext,by rw[decide_eq_false (fun h=>ant hc3 (by subst h;exact fq (hx.symm.trans hy)))]⟩
     ·
      have hxy:x=y:=ans hc3;subst hxy;apply aJ 7 [0] m;simp only[↓aD];refine⟨by omega,?_⟩;exact hK1 (N-(k+1)) _ _ (by omega) (by kernel_rfl) ⟨k+1,O,m,(by rw[cJ hx,cJ hy,hq]),by omega,O⟩
    ·
     apply aJ 6 [] m;simp only[↓aD];refine aT O O ?_;try simp only[zD,zE]
     exact⟨_,O,m.ext,by rw[decide_eq_true (aj2 hq (by omega) (by omega))]⟩
theorem Of(h:k<8):IntKind.i64.wrap (ew IntKind.i64.bits (k:Int) &&& ew IntKind.i64.bits 1).toNat=((k%2:Nat):Int):=by
 rcases k with _ | _ | _ | _ | _ | _ | _ | _ | k <;> first | rfl | omega
theorem aeh  : Int.fdiv (k:Int) (2^min (lc 1) IntKind.i64.bits)=((k / 2:Nat):Int):=by
 rw[show (2:Int)^min (lc 1) IntKind.i64.bits=2 from rfl,ia _ (by decide)];rfl
theorem Te  : Int.fdiv (k:Int) (2^min (lc 2) IntKind.i64.bits)=((k / 4:Nat):Int):=by
 rw[show (2:Int)^min (lc 2) IntKind.i64.bits=4 from rfl,ia _ (by decide)];rfl
theorem aj4{w:aj}{g i:Nat}{x y z u v t:Int}{T:TypeId}(hB:fR w g [.int .i64 x,.int .i64 y,.int .i64 z,.int .i64 u,.int .i64 v,.int .i64 t] T)(hi:i<2):fZ prog w 30 ⟨g,i*3,none⟩ (pt (if i=0 then ⟨x,y,z⟩ else ⟨u,v,t⟩)):=by
 rcases i with _ | _ | i
 · exact hB.lies aH aA O O
 · exact hB.lies aH aA O O
 · omega
def aqO(k:Nat):P3:=if k%2=0 then ⟨-10,0,0⟩ else ⟨10,0,0⟩
def aqP(k:Nat):P3:=if k / 2%2=0 then ⟨0,-10,0⟩ else ⟨0,10,0⟩
def aqQ(k:Nat):P3:=if k / 4=0 then ⟨0,0,-10⟩ else ⟨0,0,10⟩
theorem o_y(h:k<8)(hp:Int.tmod (((k%2:Nat):Int)+((k / 2%2:Nat):Int)+((k / 4:Nat):Int)) 2=1):(oct 10)[k]? = some ⟨aqO k,aqP k,aqQ k⟩:=by
 rcases k with _ | _ | _ | _ | _ | _ | _ | _ | k <;> first | rfl | (revert hp;decide) | omega
theorem o_n(h:k<8)(hp:¬Int.tmod (((k%2:Nat):Int)+((k / 2%2:Nat):Int)+((k / 4:Nat):Int)) 2=1):(oct 10)[k]? = some ⟨aqP k,aqO k,aqQ k⟩:=by
 rcases k with _ | _ | _ | _ | _ | _ | _ | _ | k <;> first | rfl | (revert hp;decide) | omega
theorem aj5:∀t∈oct 10,IT t:=fun t ht=>by
 simp only[oct,an,List.not_mem_nil,or_false] at ht;rcases ht with rfl | rfl | rfl | rfl | rfl | rfl | rfl | rfl <;> exact⟨⟨by decide,by decide,by decide⟩,⟨by decide,by decide,by decide⟩,⟨by decide,by decide,by decide⟩⟩
theorem aqR(w:aj):dQ prog 47 [.int .i64 10] w (SL 39 9 (Ff.flatMap aN) 8 w):=by
 refine⟨bK func47 (by kernel_rfl),?_⟩;have m:=Mem.refl w
 go_enter func47,ntmps47
 apply fF 12 [] m;simp only[↓aD,xN,Fy,aa];refine⟨by omega,?_⟩;apply Rp 10 [0] m;simp only[↓aD,Xt,Fx,xN,aa];intro g1;refine⟨by omega,?_⟩;intro u m;apply Rp 9 [0] m;simp only[↓aD,Fy,Xt,Fx,xN,aa];intro g2;refine⟨by omega,?_⟩;intro u m;apply Rp 5 [0] m;simp only[↓aD,xN,Fy,Xt,Fx,aa];intro g3 u m;apply aW 3 [0] m;simp only[↓aD];refine aB aO ?_;replace m:=m.nilO 39 9;apply aL 7 [0] m;simp only[↓aD];refine bX [6,7] [8,9,10,29,30,31,32,33,34,35,36,37,38,39,40,41,42,43,44,45,46,47,48,49,50,51,52,53,54,55,56,57,58,59,60,61,62,63,64,65,66,67,68,69,70] (fun n vs wl=>∃(k:Nat) (A6:Option Addr) (cap6:Nat),vs=[.slice A6 k cap6,.int .i64 (k:Int)]∧Mem w wl [oI 39 9 A6 k cap6 (((oct 10).take k).flatMap aN),bI g3 [.int .i64 0,.int .i64 0,.int .i64 (-10),.int .i64 0,.int .i64 0,.int .i64 10] 56,bI g2 [.int .i64 0,.int .i64 (-10),.int .i64 0,.int .i64 0,.int .i64 10,.int .i64 0] 56,bI g1 [.int .i64 (-10),.int .i64 0,.int .i64 0,.int .i64 10,.int .i64 0,.int .i64 0] 56]∧(k≤8)∧(n=8-k)) ?_ ?_
 ·
  exact⟨_,0,_,_,O,m,cv _,O⟩
 · intro n vs wr hI u K1 hK1
   obtain⟨k,A6,cap6,rfl,m,hk,hn⟩:=hI;simp only[zu,zF,zG];apply aJ 6 [0,0] m;simp only[↓aD];refine bG O ?_ ?_<;>intro hc1
   ·
    have hk8:k<8:=by omega
    apply aJ 6 [0] m;simp only[↓aD];refine aB (lQ O O (Of hk8)) ?_;simp only[zz];refine aB (aK Nn aA O O (by omega) (by omega) (nB (ah _))) ?_;simp only[zz];refine aR O (show fZ _ _ _ _ (pt (aqO k)) from aj4 (m.b 3 O) (ji _ (by decide))) ?_;simp only[zz];apply kD 6 [0,0] m;simp only[↓aD,eS,aS,aa];intro g4 u m;refine aB (lD O O (by omega) aeh) (aB (lQ O O (Of (k:=k / 2) (by omega))) ?_);simp only[zz];refine aB (aK Nn aA O O (by omega) (by omega) (nB (ah _))) ?_;simp only[zz];refine aR O (show fZ _ _ _ _ (pt (aqP k)) from aj4 (m.b 3 O) (ji _ (by decide))) ?_;simp only[zz];apply kD 6 [0,0] m;simp only[↓aD,eS,aS,aa];intro g5 u m;refine aB (lD O O (by omega) Te) ?_;simp only[zz];refine aB (aK Nn aA O O (by omega) (by omega) (nB (ah _))) ?_;simp only[zz];refine aR O (show fZ _ _ _ _ (pt (aqQ k)) from aj4 (m.b 3 O) (by omega)) ?_;simp only[zz];apply kD 6 [0,0] m;simp only[↓aD,eS,aS,aa];intro g6 u m;refine aB (lQ O O (Of hk8)) ?_;apply aL 1 [0] m;simp only[↓aD];refine aB (lD O O (by omega) aeh) (aB (lQ O O (Of (k:=k / 2) (by omega))) ?_);apply aL 2 [0] m;simp only[↓aD];refine⟨by omega,?_⟩;refine aB (lD O O (by omega) Te) ?_;apply aL 1 [0] m;simp only[↓aD];refine⟨by omega,?_⟩;refine aB (cP O O (by omega) O) ?_;apply aL 2 [0,0] m;simp only[↓aD];refine bG O ?_ ?_<;>intro hc2
    ·
     have hx:=o_y hk8 hc2;apply aJ 6 [2,1,0,0] m;simp only[↓aD,aS,qT,aa];refine eZ O ?_;intro u g7 e_ h_ k_;replace m:=m.newB e_ h_ k_;simp only[zz];refine bL m 4 O O cH jK O (by decide) O O O (m.b 0 O).rowsO (gB O) (by omega) (by omega) ?_;intro A6 cap6 u m;simp only[zF,zG] at m;rw[show ((oct 10).take k).flatMap aN++_=((oct 10).take (k+1)).flatMap aN by rw[cJ hx,ay];rfl] at m;apply aL 8 [0] m;simp only[↓aD];refine⟨by omega,?_⟩;exact hK1 (8-(k+1)) _ _ (by omega) (by kernel_rfl) ⟨k+1,_,_,O,(m.sel [false,false,false,false,true,true,true,true]),by omega,O⟩
    ·
     have hx:=o_n hk8 hc2;apply aJ 6 [1,2,0,0] m;simp only[↓aD,aS,qT,aa];refine eZ O ?_;intro u g7 e_ h_ k_;replace m:=m.newB e_ h_ k_;simp only[zz];refine bL m 4 O O cH jK O (by decide) O O O (m.b 0 O).rowsO (gB O) (by omega) (by omega) ?_;intro A6 cap6 u m;simp only[zF,zG] at m;rw[show ((oct 10).take k).flatMap aN++_=((oct 10).take (k+1)).flatMap aN by rw[cJ hx,ay];rfl] at m;apply aL 8 [0] m;simp only[↓aD];refine⟨by omega,?_⟩;exact hK1 (8-(k+1)) _ _ (by omega) (by kernel_rfl) ⟨k+1,_,_,O,(m.sel [false,false,false,false,true,true,true,true]),by omega,O⟩
   ·
    obtain rfl:k=8:=by omega
    apply aJ 4 [0] m;simp only[↓aD];refine bJ O O (Tc (ts:=oct 10) _ ((m.o 0 O).tris aj5) (by decide)) ?_;rintro v u e_ ⟨A8,cap8,n8,hn8,rfl,h_⟩;replace m:=m.newO e_ h_;apply aL 3 [] m;simp only[↓aD];exact aT O O ⟨_,O,m.ext,⟨_,_,_,hn8,O,(m.o 0 O)⟩⟩
end Go.Proofs.YtfekpcimgncioaaGreatDoor
namespace Go.Lith
open Go.RowKit
def eA(e:Nat):List Nat :=
 let v:=e%8
 let p:=[2*(v%2),v / 2%2*2,v / 4*2]
 p.set (e / 8) ((p.getD (e / 8) 0)+1)
def Bf(v axis:Nat):Nat:=(if v / 2^axis%2=1 then v-2^axis else v)+8*axis
def aj6(p q v axis:Nat)(pos:Bool):Bool :=
 let a:=eA p
 let b:=eA q
 let c:List Nat:=[2*(v%2),v / 2%2*2,v / 4*2]
 let x:=(axis+1)%3
 let y:=(axis+2)%3
 let g:=fun (l:List Nat) i=>((l.getD i 0:Nat):Int)
 let d:=(g b x-g a x)*(g c y-g a y)-(g b y-g a y)*(g c x-g a x)
 pos&&decide (d<0) || !pos&&decide (0<d)
def Ga(nx:List Int)(p q v axis:Nat)(pos:Bool):List Int:=if aj6 p q v axis pos then nx.set p (q:Int) else nx.set q (p:Int)
def fvE(axis:Nat)(pos:Bool)(k:Nat):Nat:=(if pos then 2^axis else 0)+k%2*2^((axis+1)%3)+k / 2*2^((axis+2)%3)
def Er(I:List Bool)(v:Nat):Bool:=I.getD v false
def fS1(I:List Bool)(axis:Nat)(pos:Bool)(st:List Nat × Int)(k:Nat):List Nat × Int :=
 let v:=fvE axis pos k
 let b:=(axis+1)%3
 let d:=(axis+2)%3
 let l1:=if k%2=0∧Er I v≠Er I (v+2^b) then st.1++[Bf v b] else st.1
 (if k / 2=0∧Er I v≠Er I (v+2^d) then l1++[Bf v d] else l1,if Er I v then (v:Int) else st.2)
def fL(I:List Bool)(axis:Nat)(pos:Bool)(k:Nat):List Nat × Int:=(df k).foldl (fS1 I axis pos) ([],-1)
def f4S(I:List Bool)(axis:Nat)(pos:Bool)(nx:List Int)(k:Nat):List Int :=
 let v:=fvE axis pos k
 if Er I v then Ga nx (Bf v ((axis+1)%3)) (Bf v ((axis+2)%3)) v axis pos else nx
def Js(I:List Bool)(nx:List Int)(axis:Nat)(pos:Bool):List Int :=
 let s:=fL I axis pos 4
 let nx:=match s.1 with
  | [p,q]=>Ga nx p q s.2.toNat axis pos
  | _=>nx
 if s.1.length=4 then (df 4).foldl (f4S I axis pos) nx else nx
def nG(I:List Bool):List Int:=(df 3).foldl (fun nx a=>Js I (Js I nx a false) a true) (cl 24 (-1))
def rH(nx:List Int):Nat→List Bool→Nat→List Nat × List Bool
 | 0,seen,_=>([],seen)
 | n+1,seen,x=>if 0≤nx.getD x (-1)∧seen.getD x false=false then
  let r:=rH nx n (seen.set x true) (nx.getD x (-1)).toNat
  (x::r.1,r.2)
  else ([],seen)
def aqS(nx:List Int)(st:List (List Nat) × List Bool)(e:Nat):List (List Nat) × List Bool :=
 let r:=rH nx 24 st.2 e
 (if r.1=[] then st.1 else st.1++[r.1],r.2)
def auo(I:List Bool):List (List Nat):=((df 24).foldl (aqS (nG I)) ([],cl 24 false)).1
def Dh(l:List P3):P3:=⟨(l.map P3.x).sum.tdiv l.length,(l.map P3.y).sum.tdiv l.length,(l.map P3.z).sum.tdiv l.length⟩
def Jt(l:List P3):List T3:=match l with
 | [a,b,c]=>[⟨a,b,c⟩]
 | _=>(df l.length).map fun k=>⟨l.getD k ⟨0,0,0⟩,l.getD ((k+1)%l.length) ⟨0,0,0⟩,Dh l⟩
def Xw(c:P3)(h:Int)(e:Nat):P3:=⟨c.x*h+((eA e).getD 0 0:Nat)*(h / 2),c.y*h+((eA e).getD 1 0:Nat)*(h / 2),c.z*h+((eA e).getD 2 0:Nat)*(h / 2)⟩
def wF(I:List Bool)(c:P3)(h:Int):List T3:=(auo I).flatMap fun l=>Jt (l.map (Xw c h))
def Tf(m:Nat):List Bool:=(df 8).map fun v=>m / 2^v%2 == 1
def kI(m:Nat):List T3:=wF (Tf m) ⟨0,0,0⟩ 512
def aqT(m:Nat):Bool:=(kI m).all (fun t=>t.nd)&&decide ((aX (kI m)).Nodup)
theorem ab8:(df 256).all aqT=true:=by kernel_rfl
end Go.Lith
namespace Go.Proofs.YtfekpcimgncioaaGreatDoor
open Go.Proofs.Tryz
open Go.RowKit Go.Lith
set_option maxRecDepth 100000
attribute [local irreducible] wpList wpQuiet gG bQ cO Code.wp
attribute [local congr] rC gX gY gZ iA iB lI iC iD iE iF iG iH iJ iK iL iM iN fJ fK iO iP iR iS iT lK dW dX cX dV iQ lJ fN fO fP iU iV lM
variable{a i:Nat}
theorem Tg:IntKind.i64.wrap (1*2^min (lc 2) IntKind.i64.bits)=4:=by decide
section
variable {P:Program} {l:List ai} {x y:Operand} {T T' ty:TypeId} {k:IntKind} {m n r:Int}
theorem aj9(hx:ev l x=.int k m)(hy:ev l y=.int k n)(hr:k.wrap ((ew k.bits m &&& ~~~ ew k.bits n).toNat:Int)=r):gN P l (.binOp .andNot T x y T') ty (.int k r):=fun w o ho _=>by
 subst hr;simp[execOp,ho,cD,hx,hy,eqGuard,binOp,Op.intBits]
end
theorem apa(h:a<3):IntKind.i64.wrap (1*2^min (lc (a:Int)) IntKind.i64.bits)=((2^a:Nat):Int):=by
 rcases a with _ | _ | _ | a <;> first | rfl | omega
def evN(v a:Nat):Nat:=if v / 2^a%2=1 then v-2^a else v
theorem aka(v a:Nat):evN v a≤v:=by unfold evN;split;exact Nat.sub_le ..;exact Nat.le_refl _
theorem as0{v:Nat}(hv:v<8)(h:a<3):IntKind.i64.wrap ((ew IntKind.i64.bits (v:Int) &&& ~~~ ew IntKind.i64.bits ((2^a:Nat):Int)).toNat:Int)=((evN v a:Nat):Int):=by
 rcases a with _ | _ | _ | a <;> rcases v with _ | _ | _ | _ | _ | _ | _ | _ | v <;> first | rfl | omega
theorem as1(v a:Nat):((evN v a:Nat):Int)+8*(a:Int)=((Bf v a:Nat):Int):=by rw[show Bf v a=evN v a+8*a from rfl];omega
theorem xP{x y z:Nat}(hx:x≤100)(hy:y≤100)(hz:z≤100):dT prog 144 [.int .i64 2,.int .i64 (x:Int),.int .i64 (y:Int),.int .i64 (z:Int)] (.int .i64 (((z*5+y)*5+x:Nat):Int)):=by
 intro w;refine⟨bK func144 (by kernel_rfl),?_⟩;have m:=Mem.refl w
 go_enter func144,ntmps144
 apply fF 7 [0] m;simp only[↓aD];refine aB (qQ O O (by omega) Tg) ?_;apply aL 17 [] m;simp only[↓aD];refine⟨by omega,?_⟩;refine aT O O ?_;try simp only[zD,zE]
 exact⟨_,O,m.ext,by simp⟩
theorem Di{v:Nat}(hv:v<8)(ha:a<3):dT prog 287 [.int .i64 (v:Int),.int .i64 (a:Int)] (.int .i64 ((Bf v a:Nat):Int)):=by
 intro w;refine⟨bK func287 (by kernel_rfl),?_⟩;have m:=Mem.refl w;have he:=aka v a
 go_enter func287,ntmps287
 apply fF 8 [0] m;simp only[↓aD];refine aB (qQ O O (by omega) (apa ha)) ?_;simp only[zz];refine aB (aj9 O O (as0 hv ha)) ?_;simp only[zz];apply aL 6 [] m;simp only[↓aD];refine⟨by omega,?_⟩;refine aT O O ?_;try simp only[zD,zE]
 exact⟨_,O,m.ext,by rw[←as1]⟩
theorem akb{k:Nat}(h:k<8):IntKind.i64.wrap (ew IntKind.i64.bits (k:Int) &&& ew IntKind.i64.bits 2).toNat=((k / 2%2*2:Nat):Int):=by
 rcases k with _ | _ | _ | _ | _ | _ | _ | _ | k <;> first | rfl | omega
def Ju(e:Nat):ai:=.agg #[.int .i64 (((eA e).getD 0 0:Nat):Int),.int .i64 (((eA e).getD 1 0:Nat):Int),.int .i64 (((eA e).getD 2 0:Nat):Int)]
theorem akc{e:Nat}(h:e<24):(eA e).getD 0 0≤3∧(eA e).getD 1 0≤3∧(eA e).getD 2 0≤3:=by
 have:∀e,e<24→(eA e).getD 0 0≤3∧(eA e).getD 1 0≤3∧(eA e).getD 2 0≤3:=by decide
 exact this e h
theorem as2{e:Nat}(h:e<24):0≤([2*((e%8%2:Nat):Int),((e%8 / 2%2*2:Nat):Int),((e%8 / 4:Nat):Int)*2]:List Int).getD (e / 8) 0∧([2*((e%8%2:Nat):Int),((e%8 / 2%2*2:Nat):Int),((e%8 / 4:Nat):Int)*2]:List Int).getD (e / 8) 0≤3:=by
 have:∀e:Nat,e<24→0≤([2*((e%8%2:Nat):Int),((e%8 / 2%2*2:Nat):Int),((e%8 / 4:Nat):Int)*2]:List Int).getD (e / 8) 0∧([2*((e%8%2:Nat):Int),((e%8 / 2%2*2:Nat):Int),((e%8 / 4:Nat):Int)*2]:List Int).getD (e / 8) 0≤3:=by decide
 exact this e h
theorem anu{e:Nat}(h:e<24):over [mi .i64 (2*((e%8%2:Nat):Int)),.int .i64 ((e%8 / 2%2*2:Nat):Int),.int .i64 (((e%8 / 4:Nat):Int)*2)] (e / 8) [mi .i64 (([2*((e%8%2:Nat):Int),((e%8 / 2%2*2:Nat):Int),((e%8 / 4:Nat):Int)*2]:List Int).getD (e / 8) 0+1)]=[.int .i64 (((eA e).getD 0 0:Nat):Int),.int .i64 (((eA e).getD 1 0:Nat):Int),.int .i64 (((eA e).getD 2 0:Nat):Int)]:=by
 rcases e with _ | _ | _ | _ | _ | _ | _ | _ | _ | _ | _ | _ | _ | _ | _ | _ | _ | _ | _ | _ | _ | _ | _ | _ | e <;> first | rfl | omega
theorem apb{w:aj}{g:Nat}{a c d:Int}{T:TypeId}(hB:fR w g [.int .i64 a,.int .i64 c,.int .i64 d] T)(hi:i<3):fZ prog w 3 ⟨g,i,none⟩ (.int .i64 (([a,c,d]:List Int).getD i 0)):=by
 rcases i with _ | _ | _ | i
 · exact hB.lies1 bD O
 · exact hB.lies1 bD O
 · exact hB.lies1 bD O
 · omega
theorem Mi{e:Nat}(he:e<24):dT prog 289 [.int .i64 (e:Int)] (Ju e):=by
 intro w;refine⟨bK func289 (by kernel_rfl),?_⟩;have m:=Mem.refl w;have hb:=as2 he
 go_enter func289,ntmps289
 apply jP 7 [0] m;simp only[↓aD,xO];intro g1 u m;refine aB (cP O O (by omega) (aoR (k:=e))) ?_;apply aL 5 [0] m;simp only[↓aD];refine aB (lQ O O (Of (k:=e%8) (by omega))) ?_;apply aL 2 [0] m;simp only[↓aD];refine⟨by omega,?_⟩;refine aB (lQ O O (akb (k:=e%8) (by omega))) ?_;apply aL 1 [0] m;simp only[↓aD];refine aB (lD O O (by omega) (Te (k:=e%8))) ?_;apply kD 8 [0,0] m;simp only[↓aD,tE,xO,vB,aa];intro g2;refine⟨by omega,?_⟩;intro u m;refine aB (jG O O (by omega) (show IntKind.i64.wrap ((e:Int).tdiv 8)=((e / 8:Nat):Int) from (show IntKind.i64.wrap ((e / 8:Nat):Int)=_ from bM (by omega) (by omega)))) ?_;simp only[zz];refine aB (aK qR aU O O (by omega) (by omega) (fC (ah _))) ?_;simp only[zz];refine aR O (apb (m.b 0 O) (by omega)) ?_;simp only[zz];apply aL 1 [0] m;simp only[↓aD];refine⟨by omega,?_⟩;refine aB (aK qR aU O O (by omega) (by omega) (fC (ah _))) ?_;simp only[zz];refine cW m 0 O O O aU (by simp only[av,bv];omega) ⟨rfl,rfl⟩ ?_;intro u m;simp only[zz] at m;rw[anu he] at m;apply kD 7 [0,1] m;simp only[↓aD,vB,aa];intro u m;exact aT O ⟨_,O,((m.b 1 O).full uR jC)⟩ ⟨_,O,m.ext,O⟩
def Sm(p:P3):Prop:=(0≤p.x∧p.x≤3000000)∧(0≤p.y∧p.y≤3000000)∧0≤p.z∧p.z≤3000000
def SmT(t:T3):Prop:=Sm t.a∧Sm t.b∧Sm t.c
theorem apc{ts:List T3}(h:∀t∈ts,SmT t):∀t∈ts,IT t:=fun t ht=>by
 obtain⟨⟨a1,a2,a3⟩,⟨b1,b2,b3⟩,c1,c2,c3⟩:=h t ht;refine⟨⟨?_,?_,?_⟩,⟨?_,?_,?_⟩,⟨?_,?_,?_⟩⟩ <;> (unfold sP;omega)
theorem aqV{x:Int}{N:Nat}(h0:0≤x)(h:x≤N*3000000)(hN:0<N):∃q,IntKind.i64.wrap (x.tdiv (N:Int))=q∧0≤q∧q≤3000000:=by
 have h1:x / (N:Int)≤3000000:=Int.ediv_le_of_le_mul (by omega) (by rw[Int.mul_comm];exact h);have h2:0≤x / (N:Int):=Int.ediv_nonneg h0 (by omega);exact⟨x / N,by rw[Int.tdiv_eq_ediv_of_nonneg h0];exact bM (by omega) (by omega),h2,h1⟩
theorem aqW{N:Nat}:((i:Int)+1).tmod (N:Int)=(((i+1)%N:Nat):Int):=rfl
theorem Mj{u v:Int}(hu : -9≤u∧u≤9)(hv : -9≤v∧v≤9) : -81≤u*v∧u*v≤81:=by
 have h:(u*v).natAbs≤9*9:=by rw[Int.natAbs_mul];exact Nat.mul_le_mul (by omega) (by omega)
 omega
theorem Es{cs:List ai}{u:ai}(h:i<cs.length):over cs i [u]=cs.set i u:=by
 rw[List.set_eq_take_append_cons_drop,if_pos h,over];simp
theorem Th{g p:Nat}:(⟨g,8,none⟩:Addr).add ((p:Int).toNat*1)=⟨g,8+p,none⟩:=by rw[ah,lz];exact eD ..
def lN(bs:List Bool)(ns:List Int):List ai:=bs.map bn++ns.map (mi .i64)
structure jX(bs:List Bool)(ns:List Int):Prop where
 b:bs.length=8
 n:ns.length=24
 r:∀x∈ns,-1≤x∧x<24
theorem jX.len{bs ns}(h:jX bs ns):(lN bs ns).length=32:=by simp[lN,h.b,h.n]
theorem jX.put{bs ns}(h:jX bs ns){p:Nat}{q:Int}(hq : -1≤q∧q<24):jX bs (ns.set p q):=⟨h.b,by rw[gu];exact h.n,fun x hx=>(List.mem_or_eq_of_mem_set hx).elim (h.r x) fun e=>e▸hq⟩
theorem jX.over{bs ns}(h:jX bs ns){p:Nat}{q:Int}(hp:p<24):over (lN bs ns) (8+p) [.int .i64 q]=lN bs (ns.set p q):=by
 rw[Es (by rw[h.len];omega),lN,kz _ _ (by rw[bx,h.b];omega),bx,h.b,Nat.add_sub_cancel_left,lN,pc]
theorem jX.in{bs ns}(h:jX bs ns){v:Nat}(hv:v<8):(lN bs ns)[v]? = some (.bool (bs.getD v false)):=by
 rw[lN,List.getElem?_append_left (by rw[bx,h.b];exact hv),fb,am (by rw[h.b];exact hv),eo,am (by rw[h.b];exact hv)];rfl
theorem pl3(e:Nat)(h:e<24):(((eA e).getD 0 0:Nat):Int)≤3∧(((eA e).getD 1 0:Nat):Int)≤3∧(((eA e).getD 2 0:Nat):Int)≤3:=by
 have:=akc h;omega
theorem anv{p q v n:Nat}{a:Int}{b:Bool}(w:aj)(hp:p<24)(hq:q<24)(hv:v<8)(ha:(a=0∧n=0)∨(a=1∧n=1)∨(a=2∧n=2)):dQ prog 326 [.int .i64 (p:Int),.int .i64 (q:Int),.int .i64 (v:Int),.int .i64 a,.bool b] w (fun x _=>x=.bool (aj6 p q v n b)):=by
 refine⟨bK func326 (by kernel_rfl),?_⟩;have m:=Mem.refl w;have hp3:=pl3 p hp;have hq3:=pl3 q hq
 go_enter func326,ntmps326
 apply fF 7 [0] m;simp only[↓aD];refine nV m O O (Mi hp) 6 [0,0] ?_;simp only[↓aD,↓Ju,xO,vB,aa];intro g1 u m;refine nV m O O (Mi hq) 6 [0,0] ?_;simp only[↓aD,↓Ju,xO,vB,aa];intro g2 u m;refine aB (lQ O O (Of hv)) ?_;apply aL 2 [0] m;simp only[↓aD];refine⟨by omega,?_⟩;refine aB (lQ O O (akb hv)) ?_;apply aL 1 [0] m;simp only[↓aD];refine aB (lD O O (by omega) Te) ?_;apply kD 6 [0] m;simp only[↓aD,↓Ju,tE,xO,vB,aa];intro g3;refine⟨by omega,?_⟩;intro u m;rcases ha with ⟨rfl,rfl⟩ | ⟨rfl,rfl⟩ | ⟨rfl,rfl⟩
 ·
  have hm1:=Mj (u:=(((eA q).getD 1 0:Nat):Int)-(((eA p).getD 1 0:Nat):Int)) (v:=((v / 4:Nat):Int)*2-(((eA p).getD 2 0:Nat):Int)) (by omega) (by omega);have hm2:=Mj (u:=(((eA q).getD 2 0:Nat):Int)-(((eA p).getD 2 0:Nat):Int)) (v:=((v / 2%2*2:Nat):Int)-(((eA p).getD 1 0:Nat):Int)) (by omega) (by omega);have hrg:aj6 p q v 0 b=(b&&decide (((((eA q).getD 1 0:Nat):Int)-(((eA p).getD 1 0:Nat):Int))*(((v / 4:Nat):Int)*2-(((eA p).getD 2 0:Nat):Int))-((((eA q).getD 2 0:Nat):Int)-(((eA p).getD 2 0:Nat):Int))*(((v / 2%2*2:Nat):Int)-(((eA p).getD 1 0:Nat):Int))<0) || !b&&decide (0<((((eA q).getD 1 0:Nat):Int)-(((eA p).getD 1 0:Nat):Int))*(((v / 4:Nat):Int)*2-(((eA p).getD 2 0:Nat):Int))-((((eA q).getD 2 0:Nat):Int)-(((eA p).getD 2 0:Nat):Int))*(((v / 2%2*2:Nat):Int)-(((eA p).getD 1 0:Nat):Int)))):=by kernel_rfl
  apply aW 3 [0] m;simp only[↓aD,ak];refine⟨by omega,?_⟩;refine aB (cP (m:=1) (n:=3) (r:=1) O O (by decide) (by decide)) ?_;apply aL 6 [0] m;simp only[↓aD,ak];refine⟨by omega,?_⟩;refine aB (cP (m:=2) (n:=3) (r:=2) O O (by decide) (by decide)) ?_;apply aL 3 [0] m;simp only[↓aD];refine mq m aC (by kernel_rfl) (eC 18 [1,2,0,2,1] ?_);simp only[↓aD,↓Ju,eW,cY,ad,ag,aa];refine⟨by omega,?_⟩;refine eC 14 [2,0,2] ?_;simp only[↓aD,↓Ju,eW,cY,ad,ag,aa];refine⟨by omega,?_⟩;refine bC ?_;intro u m;generalize ((((eA q).getD 1 0:Nat):Int)-(((eA p).getD 1 0:Nat):Int))*(((v / 4:Nat):Int)*2-(((eA p).getD 2 0:Nat):Int))-((((eA q).getD 2 0:Nat):Int)-(((eA p).getD 2 0:Nat):Int))*(((v / 2%2*2:Nat):Int)-(((eA p).getD 1 0:Nat):Int))=d at hrg ⊢;apply aW 1 [] m;simp only[↓aD];rcases (show b=false∨(b=true∧d<0)∨(b=true∧¬d<0) by cases b <;> simp <;> omega) with rfl | ⟨rfl,hd⟩ | ⟨rfl,hd⟩
  ·
   apply aW 17 [0] m;simp only[↓aD,fi,fh];refine aT O O ?_;try simp only[zD,zE]
   exact⟨_,O,m.ext,by rw[hrg];simp_all⟩
  ·
   apply aW 17 [1] m;simp only[↓aD];refine⟨by omega,?_⟩;refine aT O O ?_;try simp only[zD,zE]
   exact⟨_,O,m.ext,by rw[hrg];simp_all⟩
  ·
   apply aW 17 [2] m;simp only[↓aD,fi,fh];refine⟨by omega,?_⟩;refine aT O O ?_;try simp only[zD,zE]
   exact⟨_,O,m.ext,by rw[hrg];simp_all⟩
 ·
  have hm1:=Mj (u:=(((eA q).getD 2 0:Nat):Int)-(((eA p).getD 2 0:Nat):Int)) (v:=2*((v%2:Nat):Int)-(((eA p).getD 0 0:Nat):Int)) (by omega) (by omega);have hm2:=Mj (u:=(((eA q).getD 0 0:Nat):Int)-(((eA p).getD 0 0:Nat):Int)) (v:=((v / 4:Nat):Int)*2-(((eA p).getD 2 0:Nat):Int)) (by omega) (by omega);have hrg:aj6 p q v 1 b=(b&&decide (((((eA q).getD 2 0:Nat):Int)-(((eA p).getD 2 0:Nat):Int))*(2*((v%2:Nat):Int)-(((eA p).getD 0 0:Nat):Int))-((((eA q).getD 0 0:Nat):Int)-(((eA p).getD 0 0:Nat):Int))*(((v / 4:Nat):Int)*2-(((eA p).getD 2 0:Nat):Int))<0) || !b&&decide (0<((((eA q).getD 2 0:Nat):Int)-(((eA p).getD 2 0:Nat):Int))*(2*((v%2:Nat):Int)-(((eA p).getD 0 0:Nat):Int))-((((eA q).getD 0 0:Nat):Int)-(((eA p).getD 0 0:Nat):Int))*(((v / 4:Nat):Int)*2-(((eA p).getD 2 0:Nat):Int)))):=by kernel_rfl
  apply aW 3 [0] m;simp only[↓aD,ak];refine⟨by omega,?_⟩;refine aB (cP (m:=2) (n:=3) (r:=2) O O (by decide) (by decide)) ?_;apply aL 6 [0] m;simp only[↓aD,ak];refine⟨by omega,?_⟩;refine aB (cP (m:=3) (n:=3) (r:=0) O O (by decide) (by decide)) ?_;apply aL 3 [0] m;simp only[↓aD];refine mq m aC (by kernel_rfl) (eC 18 [1,2,0,2,1] ?_);simp only[↓aD,↓Ju,eW,cY,ad,ag,aa];refine⟨by omega,?_⟩;refine eC 14 [2,0,2] ?_;simp only[↓aD,↓Ju,eW,cY,ad,ag,aa];refine⟨by omega,?_⟩;refine bC ?_;intro u m;generalize ((((eA q).getD 2 0:Nat):Int)-(((eA p).getD 2 0:Nat):Int))*(2*((v%2:Nat):Int)-(((eA p).getD 0 0:Nat):Int))-((((eA q).getD 0 0:Nat):Int)-(((eA p).getD 0 0:Nat):Int))*(((v / 4:Nat):Int)*2-(((eA p).getD 2 0:Nat):Int))=d at hrg ⊢;apply aW 1 [] m;simp only[↓aD];rcases (show b=false∨(b=true∧d<0)∨(b=true∧¬d<0) by cases b <;> simp <;> omega) with rfl | ⟨rfl,hd⟩ | ⟨rfl,hd⟩
  ·
   apply aW 17 [0] m;simp only[↓aD,fi,fh];refine aT O O ?_;try simp only[zD,zE]
   exact⟨_,O,m.ext,by rw[hrg];simp_all⟩
  ·
   apply aW 17 [1] m;simp only[↓aD];refine⟨by omega,?_⟩;refine aT O O ?_;try simp only[zD,zE]
   exact⟨_,O,m.ext,by rw[hrg];simp_all⟩
  ·
   apply aW 17 [2] m;simp only[↓aD,fi,fh];refine⟨by omega,?_⟩;refine aT O O ?_;try simp only[zD,zE]
   exact⟨_,O,m.ext,by rw[hrg];simp_all⟩
 ·
  have hm1:=Mj (u:=(((eA q).getD 0 0:Nat):Int)-(((eA p).getD 0 0:Nat):Int)) (v:=((v / 2%2*2:Nat):Int)-(((eA p).getD 1 0:Nat):Int)) (by omega) (by omega);have hm2:=Mj (u:=(((eA q).getD 1 0:Nat):Int)-(((eA p).getD 1 0:Nat):Int)) (v:=2*((v%2:Nat):Int)-(((eA p).getD 0 0:Nat):Int)) (by omega) (by omega);have hrg:aj6 p q v 2 b=(b&&decide (((((eA q).getD 0 0:Nat):Int)-(((eA p).getD 0 0:Nat):Int))*(((v / 2%2*2:Nat):Int)-(((eA p).getD 1 0:Nat):Int))-((((eA q).getD 1 0:Nat):Int)-(((eA p).getD 1 0:Nat):Int))*(2*((v%2:Nat):Int)-(((eA p).getD 0 0:Nat):Int))<0) || !b&&decide (0<((((eA q).getD 0 0:Nat):Int)-(((eA p).getD 0 0:Nat):Int))*(((v / 2%2*2:Nat):Int)-(((eA p).getD 1 0:Nat):Int))-((((eA q).getD 1 0:Nat):Int)-(((eA p).getD 1 0:Nat):Int))*(2*((v%2:Nat):Int)-(((eA p).getD 0 0:Nat):Int)))):=by kernel_rfl
  apply aW 3 [0] m;simp only[↓aD,ak];refine⟨by omega,?_⟩;refine aB (cP (m:=3) (n:=3) (r:=0) O O (by decide) (by decide)) ?_;apply aL 6 [0] m;simp only[↓aD,ak];refine⟨by omega,?_⟩;refine aB (cP (m:=4) (n:=3) (r:=1) O O (by decide) (by decide)) ?_;apply aL 3 [0] m;simp only[↓aD];refine mq m aC (by kernel_rfl) (eC 18 [1,2,0,2,1] ?_);simp only[↓aD,↓Ju,eW,cY,ad,ag,aa];refine⟨by omega,?_⟩;refine eC 14 [2,0,2] ?_;simp only[↓aD,↓Ju,eW,cY,ad,ag,aa];refine⟨by omega,?_⟩;refine bC ?_;intro u m;generalize ((((eA q).getD 0 0:Nat):Int)-(((eA p).getD 0 0:Nat):Int))*(((v / 2%2*2:Nat):Int)-(((eA p).getD 1 0:Nat):Int))-((((eA q).getD 1 0:Nat):Int)-(((eA p).getD 1 0:Nat):Int))*(2*((v%2:Nat):Int)-(((eA p).getD 0 0:Nat):Int))=d at hrg ⊢;apply aW 1 [] m;simp only[↓aD];rcases (show b=false∨(b=true∧d<0)∨(b=true∧¬d<0) by cases b <;> simp <;> omega) with rfl | ⟨rfl,hd⟩ | ⟨rfl,hd⟩
  ·
   apply aW 17 [0] m;simp only[↓aD,fi,fh];refine aT O O ?_;try simp only[zD,zE]
   exact⟨_,O,m.ext,by rw[hrg];simp_all⟩
  ·
   apply aW 17 [1] m;simp only[↓aD];refine⟨by omega,?_⟩;refine aT O O ?_;try simp only[zD,zE]
   exact⟨_,O,m.ext,by rw[hrg];simp_all⟩
  ·
   apply aW 17 [2] m;simp only[↓aD,fi,fh];refine⟨by omega,?_⟩;refine aT O O ?_;try simp only[zD,zE]
   exact⟨_,O,m.ext,by rw[hrg];simp_all⟩
end Go.Proofs.YtfekpcimgncioaaGreatDoor
namespace Go.Lith
open Go.RowKit
variable{c q a:P3}{mk:P3→Nat}{s:Bool}{k j:Nat}
def onF(k:Nat)(s:Bool)(p:P3):Bool:=decide (bH p k=if s then 512 else 0)
def Bg(k:Nat)(s:Bool)(e:E3):Bool:=onF k s e.1&&onF k s e.2
def Aa(e:E3):Nat:=(if Bg 0 false e then 1 else 0)+(if Bg 0 true e then 1 else 0)+(if Bg 1 false e then 1 else 0)+(if Bg 1 true e then 1 else 0)+(if Bg 2 false e then 1 else 0)+(if Bg 2 true e then 1 else 0)
def apd(p:P3):Bool:=decide (0≤p.x)&&decide (p.x≤512)&&decide (0≤p.y)&&decide (p.y≤512)&&decide (0≤p.z)&&decide (p.z≤512)
def as3(m:Nat):Bool :=
 let es:=aX (kI m)
 es.all fun e=>apd e.1&&(if decide (anm e∈es) then decide (Aa e=0) else decide (Aa e=1))
theorem akd:(df 256).all as3=true:=by kernel_rfl
def Mk(k:Nat)(n:Int)(p:P3):P3:=if k=0 then ⟨p.x+n,p.y,p.z⟩ else if k=1 then ⟨p.x,p.y+n,p.z⟩ else ⟨p.x,p.y,p.z+n⟩
def fcs(m k:Nat)(s:Bool):List E3:=(aX (kI m)).filter (Bg k s)
def nH(m k:Nat)(s:Bool):Nat:=(df 8).foldl (fun r v=>if (v / 2^k%2 == 1) == s&&m / 2^v%2 == 1 then r+2^v else r) 0
def Dj(m k:Nat)(s:Bool):Nat:=if s then nH m k true / 2^2^k else nH m k false*2^2^k
def xQ(k m:Nat):Bool :=
 let lo:=fcs m k false
 let hi:=fcs m k true
 (fcs (nH m k false) k false).all (fun e=>decide (e∈lo))&&(fcs (nH m k true) k true).all (fun e=>decide (e∈hi)) &&
  (let t:=fcs (Dj m k true) k false;hi.all fun e=>decide ((Mk k (-512) e.2,Mk k (-512) e.1)∈t)) &&
  (let t:=fcs (Dj m k false) k true;lo.all fun e=>decide ((Mk k 512 e.2,Mk k 512 e.1)∈t))
def pcs(f:Nat→Bool)(j:Nat):Bool:=(df 64).all fun i=>f (j*64+i)
theorem aqX{f:Nat→Bool}(h0:pcs f 0=true)(h1:pcs f 1=true)(h2:pcs f 2=true)(h3:pcs f 3=true):(df 256).all f=true:=de.2 fun m hm=>by
 have hm:=gn.1 hm;have k:∀j,pcs f j=true→f (j*64+m%64)=true:=fun j h=>de.1 h _ (gn.2 (by omega));rw[show m=m / 64*64+m%64 by omega];obtain h | h | h | h:m / 64=0∨m / 64=1∨m / 64=2∨m / 64=3:=by omega
 all_goals rw[h];apply k;assumption
theorem anw:pcs (xQ 0) 0=true:=by kernel_rfl
theorem anx:pcs (xQ 0) 1=true:=by kernel_rfl
theorem anz:pcs (xQ 0) 2=true:=by kernel_rfl
theorem anA:pcs (xQ 0) 3=true:=by kernel_rfl
theorem aqY:(df 256).all (xQ 0)=true:=aqX anw anx anz anA
theorem anB:pcs (xQ 1) 0=true:=by kernel_rfl
theorem anC:pcs (xQ 1) 1=true:=by kernel_rfl
theorem anD:pcs (xQ 1) 2=true:=by kernel_rfl
theorem anE:pcs (xQ 1) 3=true:=by kernel_rfl
theorem aqZ:(df 256).all (xQ 1)=true:=aqX anB anC anD anE
theorem anF:pcs (xQ 2) 0=true:=by kernel_rfl
theorem anG:pcs (xQ 2) 1=true:=by kernel_rfl
theorem anH:pcs (xQ 2) 2=true:=by kernel_rfl
theorem anI:pcs (xQ 2) 3=true:=by kernel_rfl
theorem aq0:(df 256).all (xQ 2)=true:=aqX anF anG anH anI
def ag6(ts:List T3)(q:P3):Nat→P3→List P3
 | 0,a=>[a]
 | n+1,a=>a::match bS ts q a with
  | none=>[]
  | some x=>ag6 ts q n x
theorem Pp{ts:List T3}{q b:P3}:∀(n:Nat) (a:P3),b∈ag6 ts q n a→Nw (Nx ts q) a b
 | 0,a,h=>by rw[bf.1 h];exact .refl _
 | n+1,a,h=>by
  unfold ag6 at h;rcases an.1 h with rfl | h
  · exact .refl _
  · cases hb:bS ts q a with
    | none=>rw[hb] at h;cases h
    | some x =>
     rw[hb] at h;exact (Nw.one (rD hb)).trans (Pp n x h)
def onK(k:Nat)(s:Bool)(p:P3):Bool:=decide (bH p k=if s then 512 else 0)
def inK(p:P3):Bool:=decide (0<p.x)&&decide (p.x<512)&&decide (0<p.y)&&decide (p.y<512)&&decide (0<p.z)&&decide (p.z<512)
def isX(k:Nat)(q:P3):Bool:=decide (bH q k=256)&&(onK ((k+1)%3) false q||onK ((k+1)%3) true q)&&(onK ((k+2)%3) false q||onK ((k+2)%3) true q)
def ake(ts:List T3)(q:P3):Bool :=
 let os:=Je ts q
 os.all fun a=>let l:=ag6 ts q os.length a;os.all fun b=>decide (b∈l)
def as4(ts:List T3)(q:P3)(k:Nat)(s:P3):Bool :=
 let os:=Je ts q
 let t:=am3 ts q os.length s
 let l:=ag6 ts q os.length s
 let A:=onK ((k+1)%3) (onK ((k+1)%3) true q)
 let B:=onK ((k+2)%3) (onK ((k+2)%3) true q)
 decide (s∈os)&&os.all (fun b=>decide (b∈l))&&os.all (fun a=>decide (t∈ag6 ts q os.length a))&&decide (t∉os) &&
  ((A s && !B s&&B t && !A t)||(B s && !A s&&A t && !B t))&&os.all fun a=>!(A a||B a)||decide (a=s)
def akf(ts:List T3)(q:P3)(k:Nat):Bool:=isX k q&&(Je ts q).any (as4 ts q k)
def as5(m:Nat):Bool :=
 let ts:=kI m
 (dR ts).all fun q=>(inK q&&ake ts q)||akf ts q 0||akf ts q 1||akf ts q 2
theorem akg:(df 256).all as5=true:=by kernel_rfl
def rM(c p:P3):P3:=⟨p.x+512*c.x,p.y+512*c.y,p.z+512*c.z⟩
def wR:List P3:=(df 4).flatMap fun (z:Nat)=>(df 4).flatMap fun (y:Nat)=>(df 4).map fun (x:Nat)=>⟨(x:Int),(y:Int),(z:Int)⟩
def inG(c:P3):Prop:=0≤c.x∧c.x<4∧0≤c.y∧c.y<4∧0≤c.z∧c.z<4
theorem xR  : c∈wR↔inG c:=by
 unfold wR inG;simp only[el,dh,gn];constructor
 · rintro⟨z,hz,y,hy,x,hx,rfl⟩
   simp only;omega
 · rintro⟨h1,h2,h3,h4,h5,h6⟩
   refine⟨c.z.toNat,by omega,c.y.toNat,by omega,c.x.toNat,by omega,P3.eq ?_ ?_ ?_⟩ <;> simp only <;> omega
theorem acb:wR.Nodup:=by
 have:decide wR.Nodup=true:=by kernel_rfl
 exact of_decide_eq_true this
structure aaq(mk:P3→Nat):Prop where
 lt:∀c,mk c<256
 up:∀k,k<3→∀c,Dj (mk c) k true=nH (mk (Mk k 1 c)) k false
 dn:∀k,k<3→∀c,Dj (mk c) k false=nH (mk (Mk k (-1) c)) k true
 lo:∀k,k<3→∀c,bH c k=0→nH (mk c) k false=0
 hi:∀k,k<3→∀c,bH c k=3→nH (mk c) k true=0
def wG(mk:P3→Nat):List T3:=wR.flatMap fun c=>(kI (mk c)).map (T3.mapP (rM c))
theorem rN{p:P3}(h:rM c p=rM c q):p=q:=by
 unfold rM at h;simp only[P3.mk.injEq] at h;exact P3.eq (by omega) (by omega) (by omega)
theorem aq1{p b:P3}:Nx (wG mk) p a b↔∃c,inG c∧∃p' a' b',Nx (kI (mk c)) p' a' b'∧rM c p'=p∧rM c a'=a∧rM c b'=b:=by
 constructor
 · intro h
   obtain⟨t,ht,hx⟩:=fM.1 h;obtain⟨c,hc,ht⟩:=el.1 ht;exact⟨c,xR.1 hc,ajX.1 (fM.2 ⟨t,ht,hx⟩)⟩
 · rintro⟨c,hc,h⟩
   obtain⟨t,ht,hx⟩:=fM.1 (ajX.2 h);exact fM.2 ⟨t,el.2 ⟨c,xR.2 hc,ht⟩,hx⟩
/-! ### What was checked -/
theorem Ti{f:Nat→Bool}(h:(df 256).all f=true){m:Nat}(hm:m<256):f m=true:=de.1 h m (gn.2 hm)
section
variable {m:Nat}
theorem auq(hm:m<256):∀t∈kI m,t.nd=true:=fun t ht=>by
 have:=Ti ab8 hm;unfold aqT at this;exact de.1 (jm.1 this).1 t ht
theorem anJ(hm:m<256):(aX (kI m)).Nodup:=by
 have:=Ti ab8 hm;unfold aqT at this;exact of_decide_eq_true (jm.1 this).2
def InB(p:P3):Prop:=0≤p.x∧p.x≤512∧0≤p.y∧p.y≤512∧0≤p.z∧p.z≤512
theorem aar(hm:m<256){e:E3}(he:e∈aX (kI m)):InB e.1∧((anm e∈aX (kI m)∧Aa e=0)∨(anm e∉aX (kI m)∧Aa e=1)):=by
 have:=Ti akd hm;unfold as3 at this;obtain⟨h1,h2⟩:=jm.1 (de.1 this e he);refine⟨?_,?_⟩
 · unfold apd at h1
   simp only[be,decide_eq_true_eq] at h1;exact⟨h1.1.1.1.1.1,h1.1.1.1.1.2,h1.1.1.1.2,h1.1.1.2,h1.1.2,h1.2⟩
 · split at h2
   · rename_i k;exact .inl ⟨of_decide_eq_true k,of_decide_eq_true h2⟩
   · rename_i k;exact .inr ⟨fun q=>k (decide_eq_true q),of_decide_eq_true h2⟩
theorem afF(hm:m<256){p b:P3}(h:Nx (kI m) p a b):InB p∧InB a∧InB b:=⟨(aar hm (El h)).1,(aar hm (El (nxt h))).1,(aar hm (El (nxt (nxt h)))).1⟩
theorem Jv{k:Nat}{e:E3}:e∈fcs m k s↔e∈aX (kI m)∧Bg k s e=true:=dw
theorem c3(hm:m<256){k:Nat}(hk:k<3):xQ k m=true:=by
 match k,hk with
 | 0,_=>exact Ti aqY hm
 | 1,_=>exact Ti aqZ hm
 | 2,_=>exact Ti aq0 hm
theorem aur(hm:m<256){k:Nat}(hk:k<3){e:E3}(he:e∈fcs m k true):(Mk k (-512) e.2,Mk k (-512) e.1)∈fcs (Dj m k true) k false:=by
 have:=c3 hm hk;unfold xQ at this;simp only[be] at this;exact of_decide_eq_true (de.1 this.1.2 e he)
theorem aus(hm:m<256){k:Nat}(hk:k<3){e:E3}(he:e∈fcs m k false):(Mk k 512 e.2,Mk k 512 e.1)∈fcs (Dj m k false) k true:=by
 have:=c3 hm hk;unfold xQ at this;simp only[be] at this;exact of_decide_eq_true (de.1 this.2 e he)
theorem aut(hm:m<256){k:Nat}(hk:k<3){e:E3}(he:e∈fcs (nH m k false) k false):e∈fcs m k false:=by
 have:=c3 hm hk;unfold xQ at this;simp only[be] at this;exact of_decide_eq_true (de.1 this.1.1.1 e he)
theorem auu(hm:m<256){k:Nat}(hk:k<3){e:E3}(he:e∈fcs (nH m k true) k true):e∈fcs m k true:=by
 have:=c3 hm hk;unfold xQ at this;simp only[be] at this;exact of_decide_eq_true (de.1 this.1.1.2 e he)
end
theorem aq2:kI 0=[]:=by kernel_rfl
theorem ape{e:E3}(h:e∈fcs 0 k s):False:=by
 have:=(Jv.1 h).1;rw[aq2] at this;cases this
/-! ### One cell and the next -/
def xS(k:Nat)(s:Bool)(c:P3):P3:=Mk k (if s then 1 else -1) c
def Bh(k:Nat)(s:Bool)(p:P3):P3:=Mk k (if s then -512 else 512) p
theorem Ml(hk:k<3)(s:Bool)(c p:P3):rM (xS k s c) (Bh k s p)=rM c p:=by
 unfold rM xS Bh Mk
 match k,hk with
 | 0,_=>cases s <;> simp <;> omega
 | 1,_=>cases s <;> simp <;> omega
 | 2,_=>cases s <;> simp <;> omega
theorem jN(hk:k<3)(hj:j<3)(n:Int)(p:P3):bH (Mk k n p) j=bH p j+if k=j then n else 0:=by
 unfold bH Mk
 match k,hk,j,hj with
 | 0,_,0,_=>simp
 | 0,_,1,_=>simp
 | 0,_,2,_=>simp
 | 1,_,0,_=>simp
 | 1,_,1,_=>simp
 | 1,_,2,_=>simp
 | 2,_,0,_=>simp
 | 2,_,1,_=>simp
 | 2,_,2,_=>simp
theorem aas  : inG c↔∀k,k<3→0≤bH c k∧bH c k<4:=by
 unfold inG;constructor
 · rintro⟨h1,h2,h3,h4,h5,h6⟩ k hk
   match k,hk with
   | 0,_=>exact⟨h1,h2⟩
   | 1,_=>exact⟨h3,h4⟩
   | 2,_=>exact⟨h5,h6⟩
 · intro h
   exact⟨(h 0 (by decide)).1,(h 0 (by decide)).2,(h 1 (by decide)).1,(h 1 (by decide)).2,(h 2 (by decide)).1,(h 2 (by decide)).2⟩
theorem xT{p:P3}(h:∀k,k<3→bH p k=bH q k):p=q:=P3.eq (h 0 (by decide)) (h 1 (by decide)) (h 2 (by decide))
theorem anK{p:P3}(hk:k<3):bH (rM c p) k=bH p k+512*bH c k:=by
 match k,hk with
 | 0,_=>rfl
 | 1,_=>rfl
 | 2,_=>rfl
theorem InB.at{p:P3}(h:InB p)(hk:k<3):0≤bH p k∧bH p k≤512:=by
 obtain⟨h1,h2,h3,h4,h5,h6⟩:=h
 match k,hk with
 | 0,_=>exact⟨h1,h2⟩
 | 1,_=>exact⟨h3,h4⟩
 | 2,_=>exact⟨h5,h6⟩
theorem xU{e:E3}:Bg k s e=true↔bH e.1 k=(if s then 512 else 0)∧bH e.2 k=if s then 512 else 0:=by
 unfold Bg onF;rw[be,decide_eq_true_eq,decide_eq_true_eq]
theorem as6{mk:P3→Nat}(g:aaq mk){c:P3}(hc:inG c){k:Nat}(hk:k<3){s:Bool}{e:E3}(he:e∈aX (kI (mk c)))(hf:Bg k s e=true) :
 inG (xS k s c)∧(Bh k s e.2,Bh k s e.1)∈aX (kI (mk (xS k s c)))∧Bg k (!s) (Bh k s e.2,Bh k s e.1)=true:=by
 have hG:∀d:Int,(0≤bH c k+d∧bH c k+d<4)→inG (Mk k d c):=fun d hd=>aas.2 fun j hj=>by
  rw[jN hk hj];split
  · rename_i e;rw[←e];exact hd
  · rw[ix];exact aas.1 hc j hj
 obtain⟨c0,c4⟩:=aas.1 hc k hk;cases s with
 | true =>
  have h1:=aur (g.lt c) hk (Jv.2 ⟨he,hf⟩);have hne:bH c k≠3:=fun h3=>by
   have h0:=g.hi k hk c h3;unfold Dj at h1;rw[if_pos rfl,h0,Nat.zero_div] at h1;exact ape h1
  rw[g.up k hk c] at h1;obtain⟨h2,h3⟩:=Jv.1 (aut (g.lt _) hk h1);exact⟨hG 1 (by omega),h2,h3⟩
 | false =>
  have h1:=aus (g.lt c) hk (Jv.2 ⟨he,hf⟩);have hne:bH c k≠0:=fun h3=>by
   have h0:=g.lo k hk c h3;unfold Dj at h1;rw[if_neg fy,h0,Nat.zero_mul] at h1;exact ape h1
  rw[g.dn k hk c] at h1;obtain⟨h2,h3⟩:=Jv.1 (auu (g.lt _) hk h1);exact⟨hG (-1) (by omega),h2,h3⟩
/-! ### No edge twice -/
theorem ag8{e:E3}(hk:k<3)(hj:j<3)(hne:k≠j){r:Bool}(h1:Bg k s e=true)(h2:Bg j r e=true):2≤Aa e:=by
 unfold Aa
 match k,hk,j,hj with
 | 0,_,0,_=>exact absurd rfl hne
 | 1,_,1,_=>exact absurd rfl hne
 | 2,_,2,_=>exact absurd rfl hne
 | 0,_,1,_=>cases s <;> cases r <;> simp[h1,h2] <;> omega
 | 0,_,2,_=>cases s <;> cases r <;> simp[h1,h2] <;> omega
 | 1,_,0,_=>cases s <;> cases r <;> simp[h1,h2] <;> omega
 | 1,_,2,_=>cases s <;> cases r <;> simp[h1,h2] <;> omega
 | 2,_,0,_=>cases s <;> cases r <;> simp[h1,h2] <;> omega
 | 2,_,1,_=>cases s <;> cases r <;> simp[h1,h2] <;> omega
theorem ag9{e:E3}(hk:k<3)(h1:Bg k s e=true):1≤Aa e:=by
 unfold Aa
 match k,hk with
 | 0,_=>cases s <;> simp[h1] <;> omega
 | 1,_=>cases s <;> simp[h1] <;> omega
 | 2,_=>cases s <;> simp[h1] <;> omega
theorem Jw{c d p q:P3}(hp:InB p)(hq:InB q)(h:rM c p=rM d q){k:Nat}(hk:k<3) :
 (bH c k=bH d k∧bH p k=bH q k)∨(bH d k=bH c k+1∧bH p k=512∧bH q k=0)∨(bH c k=bH d k+1∧bH p k=0∧bH q k=512):=by
 have e:=congrArg (fun x=>bH x k) h;simp only[anK hk] at e;have a:=hp.at hk;have b:=hq.at hk;omega
theorem aq3(g:aaq mk){d:P3}(hc:inG c)(hd:inG d){e1 e2:E3}(h1:e1∈aX (kI (mk c)))(h2:e2∈aX (kI (mk d)))(ha:rM c e1.1=rM d e2.1)(hb:rM c e1.2=rM d e2.2):c=d:=by
 have box:∀{c:P3} {e:E3},e∈aX (kI (mk c))→InB e.1∧InB e.2:=fun {c e} he=>by
  obtain⟨a,b⟩:=e;obtain⟨y,hy⟩:=aao.1 he;exact⟨(afF (g.lt c) hy).1,(afF (g.lt c) hy).2.1⟩
 obtain⟨a1,b1⟩:=box h1;obtain⟨a2,b2⟩:=box h2;refine Classical.byContradiction fun hne=>?_;obtain⟨k,hk,hck⟩:∃k,k<3∧bH c k≠bH d k:=Classical.byContradiction fun hn=>hne (xT fun k hk=>Classical.byContradiction fun h=>hn ⟨k,hk,h⟩);have f1:∀{k},k<3→bH c k≠bH d k→∃s,Bg k s e1=true∧Bg k (!s) e2=true∧bH d k=bH c k+if s then 1 else -1:=fun {k} hk hck=>by
  have A:=Jw a1 a2 ha hk;have B:=Jw b1 b2 hb hk;by_cases h:bH d k=bH c k+1
  · refine⟨true,xU.2 ⟨?_,?_⟩,xU.2 ⟨?_,?_⟩,h⟩ <;> simp <;> omega
  · refine⟨false,xU.2 ⟨?_,?_⟩,xU.2 ⟨?_,?_⟩,?_⟩ <;> simp <;> omega
 obtain⟨s,hs1,hs2,hs3⟩:=f1 hk hck;have hone:Aa e1=1∧anm e1∉aX (kI (mk c)):=by
  rcases (aar (g.lt c) h1).2 with ⟨_,h⟩ | ⟨h,h'⟩
  · have:=ag9 hk hs1;omega
  · exact⟨h',h⟩
 have hd':d=xS k s c:=xT fun j hj=>by
  unfold xS;rw[jN hk hj];by_cases e:k=j
  · subst e;rw[if_pos rfl];exact hs3
  · rw[if_neg e,ix]
    refine Classical.byContradiction fun h=>?_;obtain⟨r,hr,_⟩:=f1 hj (Ne.symm h);have:=ag8 hk hj e hs1 hr;omega
 -- back across the face
 obtain⟨_,h3,_⟩:=as6 g hd hk h2 hs2;have hback:xS k (!s) d=c:=xT fun j hj=>by
  rw[hd'];unfold xS;rw[jN hk hj,jN hk hj];cases s <;> by_cases e:k=j <;> simp[e] <;> omega
 rw[hback] at h3;have q1:Bh k (!s) e2.1=e1.1:=rN (c:=c) (by rw[←hback,Ml hk,hback,ha]);have q2:Bh k (!s) e2.2=e1.2:=rN (c:=c) (by rw[←hback,Ml hk,hback,hb]);rw[q1,q2] at h3;exact hone.2 h3
theorem Tj{α β:Type}{f:α→List β}:∀{l:List α},l.Nodup→(∀a∈l,(f a).Nodup)→(∀a∈l,∀b∈l,∀x,x∈f a→x∈f b→a=b)→(l.flatMap f).Nodup
 | [],_,_,_=>List.nodup_nil
 | a::l,hn,h1,h2=>by
  obtain⟨n1,n2⟩:=gt.1 hn;rw[di];refine List.nodup_append.2 ⟨h1 a (bm ..),Tj n2 (fun b hb=>h1 b (bg _ hb)) (fun b hb c hc=>h2 b (bg _ hb) c (bg _ hc)),fun x hx y hy e=>?_⟩;obtain⟨b,hb,hy⟩:=el.1 hy;have:=h2 a (bm ..) b (bg _ hb) x hx (e▸hy);exact n1 (this▸hb)
theorem anL(g:aaq mk):(aX (wG mk)).Nodup:=by
 have e:aX (wG mk)=wR.flatMap fun c=>(aX (kI (mk c))).map fun e=>(rM c e.1,rM c e.2):=by
  unfold wG aX;rw[List.flatMap_assoc]
  congr 1
  funext c
  rw[List.flatMap_map,ov];rfl
 rw[e];refine Tj acb (fun c _=>?_) fun c hc d hd x hx hy=>?_
 · rw[List.Nodup,List.pairwise_map]
   refine (anJ (g.lt c)).imp fun {a b} hne h=>hne ?_;simp only[ft] at h;exact Prod.ext (rN h.1) (rN h.2)
 · obtain⟨e1,h1,rfl⟩:=dh.1 hx
   obtain⟨e2,h2,h⟩:=dh.1 hy;simp only[ft] at h;exact aq3 g (xR.1 hc) (xR.1 hd) h1 h2 h.1.symm h.2.symm
theorem apf(g:aaq mk):Xd (wG mk):=fun t ht=>by
 obtain⟨c,_,ht⟩:=el.1 ht;obtain⟨s,hs,rfl⟩:=dh.1 ht;obtain⟨k1,k2,k3⟩:=Gv.1 (auq (g.lt c) s hs);have i:∀{p q:P3},p≠q→rM c p≠rM c q:=fun h e=>h (rN e);simp[rX,T3.mapP,i k1,i k2,i k3]
structure Seg(mk:P3→Nat)(k α β:Nat)(c q s t:P3):Prop where
 g:inG c
 k3:k<3
 a3:α<3
 b3:β<3
 ka:k≠α
 kb:k≠β
 ab:α≠β
 qk:bH q k=256
 qa:bH q α=0∨bH q α=512
 qb:bH q β=0∨bH q β=512
 dom:∃b,Nx (kI (mk c)) q s b
 fwd:∀a b,Nx (kI (mk c)) q a b→Nw (Nx (kI (mk c)) q) s a
 tot:∀a b,Nx (kI (mk c)) q a b→Nw (Nx (kI (mk c)) q) a t
 ne:t≠s
 ta:bH t α=bH q α
 sx:bH s α≠bH q α
 un:∀a b,Nx (kI (mk c)) q a b→(bH a α=bH q α∨bH a β=bH q β)→a=s
theorem Pq{p:P3}:onK k s p=true↔bH p k=if s then 512 else 0:=decide_eq_true_iff
theorem Xx(h:bH q k=0∨bH q k=512):onK k (onK k true q) a=true↔bH a k=bH q k:=by
 rw[Pq];cases hh:onK k true q with
 | true=>rw[Pq] at hh;simp at hh;simp[hh]
 | false =>
  have:¬bH q k=512:=fun e=>by
   have:onK k true q=true:=Pq.2 (by simpa using e);rw[hh] at this;cases this
  have h0:bH q k=0:=h.resolve_right this;simp[h0]
theorem Ab{ts:List T3}  : a∈Je ts q↔∃b,Nx ts q a b:=by rw[Jf,aao]
theorem akh(hk:k<3)(hg:inG c)(h:akf (kI (mk c)) q k=true):∃α β s t,Seg mk k α β c q s t∧((α=(k+1)%3∧β=(k+2)%3)∨(α=(k+2)%3∧β=(k+1)%3)):=by
 unfold akf at h;obtain⟨hx,h⟩:=jm.1 h;obtain⟨s,hs,h⟩:=List.any_eq_true.1 h;unfold isX at hx;simp only[be,ep,Pq,decide_eq_true_eq,if_true,Bool.false_eq_true,if_false] at hx;obtain⟨⟨qk,q1⟩,q2⟩:=hx;unfold as4 at h;simp only[be,ep,decide_eq_true_eq,de,fj] at h;obtain⟨⟨⟨⟨⟨_,h1⟩,h2⟩,h3⟩,h4⟩,h5⟩:=h;have hk1:(k+1)%3<3:=ji _ (by decide);have hk2:(k+2)%3<3:=ji _ (by decide);have fwd:∀a b,Nx (kI (mk c)) q a b→Nw (Nx (kI (mk c)) q) s a:=fun a b h=>Pp _ _ (h1 a (Ab.2 ⟨b,h⟩));have tot:∀a b,Nx (kI (mk c)) q a b→Nw (Nx (kI (mk c)) q) a (am3 (kI (mk c)) q (Je (kI (mk c)) q).length s):=fun a b h=>Pp _ _ (h2 a (Ab.2 ⟨b,h⟩));have ne:am3 (kI (mk c)) q (Je (kI (mk c)) q).length s≠s:=fun e=>h3 (by rw[e];exact hs);have un:∀a b,Nx (kI (mk c)) q a b→(bH a ((k+1)%3)=bH q ((k+1)%3)∨bH a ((k+2)%3)=bH q ((k+2)%3))→a=s:=fun a b h hh=>by
  have:=h5 a (Ab.2 ⟨b,h⟩);rw[Bool.or_eq_false_iff] at this;rcases this with ⟨g1,g2⟩ | g
  · rcases hh with e | e
    · rw[(Xx q1).2 e] at g1;cases g1
    · rw[(Xx q2).2 e] at g2;cases g2
  · exact g
 rcases h4 with ⟨⟨⟨h6,h7⟩,h8⟩,h9⟩ | ⟨⟨⟨h6,h7⟩,h8⟩,h9⟩
 · -- from the first face to the second
   refine⟨(k+2)%3,(k+1)%3,s,_,⟨hg,hk,hk2,hk1,by omega,by omega,by omega,qk,q2,q1,Ab.1 hs,fwd,tot,ne,(Xx q2).1 h8,fun e=>?_,fun a b h hh=>un a b h hh.symm⟩,.inr ⟨O,O⟩⟩;rw[(Xx q2).2 e] at h7;cases h7
 · refine⟨(k+1)%3,(k+2)%3,s,_,⟨hg,hk,hk1,hk2,by omega,by omega,by omega,qk,q1,q2,Ab.1 hs,fwd,tot,ne,(Xx q1).1 h8,fun e=>?_,un⟩,.inl ⟨O,O⟩⟩
   rw[(Xx q1).2 e] at h7;cases h7
theorem aki{mk:P3→Nat}(g:aaq mk){c q a b:P3}(hg:inG c)(h:Nx (kI (mk c)) q a b) :
 ((∀k,k<3→0<bH q k∧bH q k<512)∧∀a b x y,Nx (kI (mk c)) q a b→Nx (kI (mk c)) q x y→Nw (Nx (kI (mk c)) q) a x)∨∃k α β s t,Seg mk k α β c q s t∧((α=(k+1)%3∧β=(k+2)%3)∨(α=(k+2)%3∧β=(k+1)%3)):=by
 have h4:=Ti akg (g.lt c);unfold as5 at h4;have:=de.1 h4 q (vW.2 (anl.2 ⟨a,b,h⟩));simp only[ep] at this;rcases this with ((h | h) | h) | h
 · obtain⟨h1,h2⟩:=jm.1 h
   unfold inK at h1;simp only[be,decide_eq_true_eq] at h1;obtain⟨⟨⟨⟨⟨x1,x2⟩,x3⟩,x4⟩,x5⟩,x6⟩:=h1;refine .inl ⟨fun k hk=>?_,fun a b x y ha hx=>?_⟩
   · match k,hk with
     | 0,_=>exact⟨x1,x2⟩
     | 1,_=>exact⟨x3,x4⟩
     | 2,_=>exact⟨x5,x6⟩
   · unfold ake at h2
     exact Pp _ _ (of_decide_eq_true (de.1 (de.1 h2 a (Ab.2 ⟨b,ha⟩)) x (Ab.2 ⟨y,hx⟩)))
 · obtain⟨α,β,s,t,S,e⟩:=akh (k:=0) (by decide) hg h;exact .inr ⟨0,α,β,s,t,S,e⟩
 · obtain⟨α,β,s,t,S,e⟩:=akh (k:=1) (by decide) hg h;exact .inr ⟨1,α,β,s,t,S,e⟩
 · obtain⟨α,β,s,t,S,e⟩:=akh (k:=2) (by decide) hg h;exact .inr ⟨2,α,β,s,t,S,e⟩
def qH(k:Nat)(q:P3):Bool:=decide (bH q k=512)
theorem as7(h:bH q k=0∨bH q k=512):bH q k=if qH k q then 512 else 0:=by
 unfold qH;rcases h with e | e <;> simp[e]
theorem Seg.hop{mk:P3→Nat}(g:aaq mk){k α β:Nat}{c q s t:P3}(S:Seg mk k α β c q s t) :
 ∃s' t',Seg mk k β α (xS α (qH α q) c) (Bh α (qH α q) q) s' t'∧rM (xS α (qH α q) c) s'=rM c t:=by
 obtain⟨b,hb⟩:=S.dom;have hlast:∃w,Nx (kI (mk c)) q w t:=by
  have r:=S.tot s b hb;cases r with
  | refl=>exact absurd rfl S.ne
  | tail _ h=>exact⟨_,h⟩
 obtain⟨w,hw⟩:=hlast;have he:(t,q)∈aX (kI (mk c)):=El (nxt (nxt hw));have hq:=as7 S.qa;have hf:Bg α (qH α q) (t,q)=true:=xU.2 ⟨S.ta.trans hq,hq⟩;obtain⟨hG,h2,h3⟩:=as6 g S.g S.a3 he hf;obtain⟨y,hy⟩:=aao.1 h2;obtain⟨f1,f2⟩:=xU.1 h3;simp only at f1 f2 hy;have qa':bH (Bh α (qH α q) q) α=0∨bH (Bh α (qH α q) q) α=512:=by
  rw[f1];cases qH α q <;> simp
 have cj:∀j,j<3→α≠j→bH (Bh α (qH α q) q) j=bH q j:=fun j hj hne=>by
  unfold Bh;rw[jN S.a3 hj,if_neg hne,ix]
 have ck:=cj k S.k3 (Ne.symm S.ka);have cb:=cj β S.b3 S.ab;rcases aki g hG hy with ⟨hin,_⟩ | ⟨k',α',β',s',t',S',e'⟩
 · have:=hin α S.a3
   omega
 · have ek:k'=k:=by
    have h1:=S'.qk;have h2:=S.k3;have h3:=S.a3;have h4:=S.b3;have h5:=S'.k3;have h6:=S.ka;have h7:=S.kb;have h8:=S.ab;refine Classical.byContradiction fun hne=>?_;have:k'=α∨k'=β:=by omega
    rcases this with e | e
    · rw[e] at h1;omega
    · rw[e,cb] at h1
      have:=S.qb;omega
   subst ek;have hab:(α'=α∧β'=β)∨(α'=β∧β'=α):=by
    have h2:=S.k3;have h3:=S.a3;have h4:=S.b3;have h6:=S.ka;have h7:=S.kb;have h8:=S.ab;omega
   rcases hab with ⟨rfl,rfl⟩ | ⟨rfl,rfl⟩
   · have e:=S'.un _ _ hy (.inl (f2.trans f1.symm))
     exact absurd (by rw[←e];exact f2.trans f1.symm) S'.sx
   · have e:=S'.un _ _ hy (.inr (f2.trans f1.symm))
     exact⟨s',t',S',by rw[←e,Ml S.a3]⟩
theorem qI{b:P3}(hg:inG c)(h:Nw (Nx (kI (mk c)) q) a b):Nw (Nx (wG mk) (rM c q)) (rM c a) (rM c b):=by
 induction h with
 | refl=>exact .refl _
 | tail _ k ih=>exact .tail ih (aq1.2 ⟨c,hg,_,_,_,k,rfl,rfl,rfl⟩)
theorem akj(hk:k<3)(s:Bool)(c:P3):xS k (!s) (xS k s c)=c:=xT fun j hj=>by
 unfold xS;rw[jN hk hj,jN hk hj];cases s <;> by_cases e:k=j <;> simp[e] <;> omega
theorem afG(hk:k<3)(s:Bool)(c:P3):Bh k (!s) (Bh k s c)=c:=xT fun j hj=>by
 unfold Bh;rw[jN hk hj,jN hk hj];cases s <;> by_cases e:k=j <;> simp[e] <;> omega
theorem anM(hk:k<3)(hj:j<3)(s r:Bool)(c:P3):xS k s (xS j r c)=xS j r (xS k s c):=xT fun i hi=>by
 unfold xS;rw[jN hk hi,jN hj hi,jN hj hi,jN hk hi];omega
theorem akk(hk:k<3)(hj:j<3)(s r:Bool)(c:P3):Bh k s (Bh j r c)=Bh j r (Bh k s c):=xT fun i hi=>by
 unfold Bh;rw[jN hk hi,jN hj hi,jN hj hi,jN hk hi];omega
theorem acc(hk:k<3)(hj:j<3)(hne:k≠j)(s:Bool)(q:P3):qH j (Bh k s q)=qH j q:=by
 unfold qH Bh;rw[jN hk hj,if_neg hne,ix]
theorem afH(hk:k<3)(h:bH q k=0∨bH q k=512):qH k (Bh k (qH k q) q) = !qH k q:=by
 unfold Bh;have e:∀n,qH k (Mk k n q)=decide (bH q k+n=512):=fun n=>by
  unfold qH;rw[jN hk hk,if_pos rfl]
 rw[e];unfold qH;rcases h with h | h <;> simp[h]
theorem auv{mk:P3→Nat}{k α β:Nat}{c q s t d q2:P3}(S:Seg mk k α β c q s t)(h2:InB q2)(h:rM c q=rM d q2) :
 d=c∨d=xS α (qH α q) c∨d=xS β (qH β q) c∨d=xS β (qH β q) (xS α (qH α q) c):=by
 have h1:InB q:=by
  obtain⟨b,hb⟩:=S.dom;have a:=S.qk;have b:=S.qa;have c:=S.qb;have k3:=S.k3;have a3:=S.a3;have b3:=S.b3;have ka:=S.ka;have kb:=S.kb;have ab:=S.ab;have key:∀j,j<3→0≤bH q j∧bH q j≤512:=fun j hj=>by
   have:j=k∨j=α∨j=β:=by omega
   rcases this with rfl | rfl | rfl <;> omega
  exact⟨(key 0 (by decide)).1,(key 0 (by decide)).2,(key 1 (by decide)).1,(key 1 (by decide)).2,(key 2 (by decide)).1,(key 2 (by decide)).2⟩
 have ax:=fun j (hj:j<3)=>Jw h1 h2 h hj;have ek:bH c k=bH d k:=by
  have:=ax k S.k3;have:=S.qk;omega
 have side:∀j,j<3→(bH q j=0∨bH q j=512)→bH d j=bH c j∨bH d j=bH c j+if qH j q then 1 else -1:=fun j hj hq=>by
  have:=ax j hj;unfold qH;rcases hq with e | e <;> simp[e] <;> omega
 have other:∀j,j<3→j=k∨j=α∨j=β:=fun j hj=>by
  have k3:=S.k3;have a3:=S.a3;have b3:=S.b3;have ka:=S.ka;have kb:=S.kb;have ab:=S.ab;omega
 have nab:=S.ab;have nka:=S.ka;have nkb:=S.kb;rcases side α S.a3 S.qa with ha | ha <;> rcases side β S.b3 S.qb with hb | hb
 · refine .inl (xT fun j hj=>?_)
   rcases other j hj with rfl | rfl | rfl
   · exact ek.symm
   · exact ha
   · exact hb
 · refine .inr (.inr (.inl (xT fun j hj=>?_)))
   unfold xS;rw[jN S.b3 hj];rcases other j hj with rfl | rfl | rfl
   · rw[if_neg (Ne.symm nkb),ix];exact ek.symm
   · rw[if_neg (Ne.symm nab),ix];exact ha
   · rw[if_pos rfl];exact hb
 · refine .inr (.inl (xT fun j hj=>?_))
   unfold xS;rw[jN S.a3 hj];rcases other j hj with rfl | rfl | rfl
   · rw[if_neg (Ne.symm nka),ix];exact ek.symm
   · rw[if_pos rfl];exact ha
   · rw[if_neg nab,ix];exact hb
 · refine .inr (.inr (.inr (xT fun j hj=>?_)))
   unfold xS;rw[jN S.b3 hj,jN S.a3 hj];rcases other j hj with rfl | rfl | rfl
   · rw[if_neg (Ne.symm nkb),if_neg (Ne.symm nka),ix,ix];exact ek.symm
   · rw[if_neg (Ne.symm nab),if_pos rfl,ix];exact ha
   · rw[if_pos rfl,if_neg nab,ix];exact hb
theorem anN(g:aaq mk)(p:P3):adV (Nx (wG mk) p):=by
 rintro s ⟨y0,hs,_⟩ x y hx;obtain⟨c,hc,q,s1,b1,h1,rfl,rfl,_⟩:=aq1.1 hs;obtain⟨d,hd,q2,x1,b2,h2,e2,rfl,_⟩:=aq1.1 hx;have hbx:=(afF (g.lt d) h2).1;have hby:=(afF (g.lt c) h1).1;rcases aki g hc h1 with ⟨hin,hall⟩ | ⟨k,α,β,sS,tS,S,_⟩
 · have ecd:c=d:=xT fun j hj=>by
    have:=Jw hby hbx e2.symm hj;have:=hin j hj;omega
   subst ecd;have eq:=rN e2;subst eq;exact qI hc (hall _ _ _ _ h1 h2)
 · obtain⟨s2,t2,S2,g2⟩:=S.hop g
   obtain⟨s3,t3,S3,g3⟩:=S2.hop g;obtain⟨s4,t4,S4,g4⟩:=S3.hop g;obtain⟨s5,t5,S5,g5⟩:=S4.hop g
   -- where these are
   have o1:qH β (Bh α (qH α q) q)=qH β q:=acc S.a3 S.b3 S.ab _ _;rw[o1] at S3 g3;have o2:qH α (Bh β (qH β q) (Bh α (qH α q) q)) = !qH α q:=by rw[acc S.b3 S.a3 (Ne.symm S.ab),afH S.a3 S.qa]
   have hc4:xS α (!qH α q) (xS β (qH β q) (xS α (qH α q) c))=xS β (qH β q) c:=by rw[anM S.a3 S.b3,akj S.a3]
   have hq4:Bh α (!qH α q) (Bh β (qH β q) (Bh α (qH α q) q))=Bh β (qH β q) q:=by rw[akk S.a3 S.b3,afG S.a3]
   rw[o1,o2,hc4,hq4] at S4;rw[o1,o2,hc4] at g4;have o3:qH β (Bh β (qH β q) q) = !qH β q:=afH S.b3 S.qb;rw[o1,o2,hc4,hq4,o3,akj S.b3,afG S.b3] at S5;rw[o1,o2,hc4,hq4,o3,akj S.b3] at g5;have w1:rM (xS α (qH α q) c) (Bh α (qH α q) q)=rM c q:=Ml S.a3 _ _ _;have w2:rM (xS β (qH β q) (xS α (qH α q) c)) (Bh β (qH β q) (Bh α (qH α q) q))=rM c q:=by rw[Ml S.b3,w1]
   have w3:rM (xS β (qH β q) c) (Bh β (qH β q) q)=rM c q:=Ml S.b3 _ _ _;have r1:Nw (Nx (wG mk) (rM c q)) (rM c s1) (rM (xS α (qH α q) c) s2):=by
    rw[g2];exact qI hc (S.tot _ _ h1)
   have r2:Nw (Nx (wG mk) (rM c q)) (rM (xS α (qH α q) c) s2) (rM (xS β (qH β q) (xS α (qH α q) c)) s3):=by
    obtain⟨b,hb⟩:=S2.dom;rw[g3,←w1];exact qI S2.g (S2.tot _ _ hb)
   have r3:Nw (Nx (wG mk) (rM c q)) (rM (xS β (qH β q) (xS α (qH α q) c)) s3) (rM (xS β (qH β q) c) s4):=by
    obtain⟨b,hb⟩:=S3.dom;rw[g4,←w2];exact qI S3.g (S3.tot _ _ hb)
   have r4:Nw (Nx (wG mk) (rM c q)) (rM (xS β (qH β q) c) s4) (rM c s5):=by
    obtain⟨b,hb⟩:=S4.dom;rw[g5,←w3];exact qI S4.g (S4.tot _ _ hb)
   rcases auv S hbx e2.symm with rfl | rfl | rfl | rfl
   · have eq:=rN e2
     subst eq;exact (((r1.trans r2).trans r3).trans r4).trans (qI hc (S5.fwd _ _ h2))
   · have eq:=rN (e2.trans w1.symm)
     subst eq;have:=qI S2.g (S2.fwd _ _ h2);rw[w1] at this;exact r1.trans this
   · have eq:=rN (e2.trans w3.symm)
     subst eq;have:=qI S4.g (S4.fwd _ _ h2);rw[w3] at this;exact ((r1.trans r2).trans r3).trans this
   · have eq:=rN (e2.trans w2.symm)
     subst eq;have:=qI S3.g (S3.fwd _ _ h2);rw[w2] at this;exact (r1.trans r2).trans this
theorem anO(g:aaq mk):fH true (wG mk)=0:=vY.2 ⟨apf g,anL g,anN g⟩
/-! ### Masks by their bits -/
def bN(b:Bool):Nat:=if b then 1 else 0
def Dk(b0 b1 b2 b3 b4 b5 b6 b7:Bool):Nat:=bN b0+2*bN b1+4*bN b2+8*bN b3+16*bN b4+32*bN b5+64*bN b6+128*bN b7
def anP(f:Bool→Bool→Bool→Bool→Bool→Bool→Bool→Bool→Bool):Bool:=[false,true].all fun a=>[false,true].all fun b=>[false,true].all fun c=>[false,true].all fun d=>[false,true].all fun e=>[false,true].all fun g=>[false,true].all fun h=>[false,true].all fun i=>f a b c d e g h i
theorem afI{f:Bool→Bool→Bool→Bool→Bool→Bool→Bool→Bool→Bool}(h:anP f=true)(a b c d e g i j:Bool):f a b c d e g i j=true:=by
 have m:∀x:Bool,x∈[false,true]:=fun x=>by cases x <;> simp
 unfold anP at h;simp only[de] at h;exact h a (m a) b (m b) c (m c) d (m d) e (m e) g (m g) i (m i) j (m j)
theorem kp(b0 b1 b2 b3 b4 b5 b6 b7:Bool) :
 Dk b0 b1 b2 b3 b4 b5 b6 b7<256∧Tf (Dk b0 b1 b2 b3 b4 b5 b6 b7)=[b0,b1,b2,b3,b4,b5,b6,b7] ∧
 nH (Dk b0 b1 b2 b3 b4 b5 b6 b7) 0 false=Dk b0 false b2 false b4 false b6 false∧nH (Dk b0 b1 b2 b3 b4 b5 b6 b7) 0 true=Dk false b1 false b3 false b5 false b7 ∧
 nH (Dk b0 b1 b2 b3 b4 b5 b6 b7) 1 false=Dk b0 b1 false false b4 b5 false false∧nH (Dk b0 b1 b2 b3 b4 b5 b6 b7) 1 true=Dk false false b2 b3 false false b6 b7 ∧
 nH (Dk b0 b1 b2 b3 b4 b5 b6 b7) 2 false=Dk b0 b1 b2 b3 false false false false∧nH (Dk b0 b1 b2 b3 b4 b5 b6 b7) 2 true=Dk false false false false b4 b5 b6 b7:=by
 have h:anP (fun b0 b1 b2 b3 b4 b5 b6 b7=>decide (Dk b0 b1 b2 b3 b4 b5 b6 b7<256∧Tf (Dk b0 b1 b2 b3 b4 b5 b6 b7)=[b0,b1,b2,b3,b4,b5,b6,b7] ∧
  nH (Dk b0 b1 b2 b3 b4 b5 b6 b7) 0 false=Dk b0 false b2 false b4 false b6 false∧nH (Dk b0 b1 b2 b3 b4 b5 b6 b7) 0 true=Dk false b1 false b3 false b5 false b7 ∧
  nH (Dk b0 b1 b2 b3 b4 b5 b6 b7) 1 false=Dk b0 b1 false false b4 b5 false false∧nH (Dk b0 b1 b2 b3 b4 b5 b6 b7) 1 true=Dk false false b2 b3 false false b6 b7 ∧
  nH (Dk b0 b1 b2 b3 b4 b5 b6 b7) 2 false=Dk b0 b1 b2 b3 false false false false∧nH (Dk b0 b1 b2 b3 b4 b5 b6 b7) 2 true=Dk false false false false b4 b5 b6 b7))=true:=by kernel_rfl
 exact of_decide_eq_true (afI h b0 b1 b2 b3 b4 b5 b6 b7)
def Ou(vt:P3→Bool)(c:P3)(x y z:Int):Bool:=vt ⟨c.x+x,c.y+y,c.z+z⟩
def mkV(vt:P3→Bool)(c:P3):Nat:=Dk (Ou vt c 0 0 0) (Ou vt c 1 0 0) (Ou vt c 0 1 0) (Ou vt c 1 1 0) (Ou vt c 0 0 1) (Ou vt c 1 0 1) (Ou vt c 0 1 1) (Ou vt c 1 1 1)
def Jy(vt:P3→Bool):Prop:=∀p k,k<3→(bH p k=0∨bH p k=4)→vt p=false
theorem afJ{vt:P3→Bool}(hb:Jy vt):aaq (mkV vt):=by
 have e1:∀(c:P3) (x y z:Int),Ou vt (Mk 0 1 c) x y z=Ou vt c (1+x) y z:=fun c x y z=>by unfold Ou Mk;simp[qm]
 have e2:∀(c:P3) (x y z:Int),Ou vt (Mk 1 1 c) x y z=Ou vt c x (1+y) z:=fun c x y z=>by unfold Ou Mk;simp[qm]
 have e3:∀(c:P3) (x y z:Int),Ou vt (Mk 2 1 c) x y z=Ou vt c x y (1+z):=fun c x y z=>by unfold Ou Mk;simp[qm]
 have up:∀k,k<3→∀c,Dj (mkV vt c) k true=nH (mkV vt (Mk k 1 c)) k false:=fun k hk c=>by
  unfold Dj mkV;rw[if_pos rfl]
  match k,hk with
  | 0,_=>simp only[e1,(kp _ _ _ _ _ _ _ _).2.2.1,(kp _ _ _ _ _ _ _ _).2.2.2.1];unfold Dk;simp[bN] <;> omega
  | 1,_=>simp only[e2,(kp _ _ _ _ _ _ _ _).2.2.2.2.1,(kp _ _ _ _ _ _ _ _).2.2.2.2.2.1];unfold Dk;simp[bN] <;> omega
  | 2,_=>simp only[e3,(kp _ _ _ _ _ _ _ _).2.2.2.2.2.2.1,(kp _ _ _ _ _ _ _ _).2.2.2.2.2.2.2];unfold Dk;simp[bN] <;> omega
 refine⟨fun c=>(kp _ _ _ _ _ _ _ _).1,up,fun k hk c=>?_,fun k hk c h=>?_,fun k hk c h=>?_⟩
 · -- the same,from the other side
   have hb:c=Mk k 1 (Mk k (-1) c):=xT fun j hj=>by
    rw[jN hk hj,jN hk hj];split <;> omega
   unfold Dj;rw[if_neg fy]
   conv=>lhs;rw[hb]
   generalize Mk k (-1) c=d;unfold mkV
   match k,hk with
   | 0,_=>simp only[e1,(kp _ _ _ _ _ _ _ _).2.2.1,(kp _ _ _ _ _ _ _ _).2.2.2.1];unfold Dk;simp[bN] <;> omega
   | 1,_=>simp only[e2,(kp _ _ _ _ _ _ _ _).2.2.2.2.1,(kp _ _ _ _ _ _ _ _).2.2.2.2.2.1];unfold Dk;simp[bN] <;> omega
   | 2,_=>simp only[e3,(kp _ _ _ _ _ _ _ _).2.2.2.2.2.2.1,(kp _ _ _ _ _ _ _ _).2.2.2.2.2.2.2];unfold Dk;simp[bN] <;> omega
 · have z:∀x y z,bH (⟨x,y,z⟩:P3) k=bH c k→Ou vt c (x-c.x) (y-c.y) (z-c.z)=false:=fun x y z e=>by
    unfold Ou;rw[show c.x+(x-c.x)=x by omega,show c.y+(y-c.y)=y by omega,show c.z+(z-c.z)=z by omega];exact hb _ k hk (.inl (e.trans h))
   unfold mkV
   match k,hk with
   | 0,_ =>
    have q:∀y z,Ou vt c 0 y z=false:=fun y z=>hb _ 0 (by decide) (.inl (by show c.x+0=0;rw[ix];exact h));rw[(kp _ _ _ _ _ _ _ _).2.2.1];simp only[q];rfl
   | 1,_ =>
    have q:∀x z,Ou vt c x 0 z=false:=fun x z=>hb _ 1 (by decide) (.inl (by show c.y+0=0;rw[ix];exact h));rw[(kp _ _ _ _ _ _ _ _).2.2.2.2.1];simp only[q];rfl
   | 2,_ =>
    have q:∀x y,Ou vt c x y 0=false:=fun x y=>hb _ 2 (by decide) (.inl (by show c.z+0=0;rw[ix];exact h));rw[(kp _ _ _ _ _ _ _ _).2.2.2.2.2.2.1];simp only[q];rfl
 · unfold mkV
   match k,hk with
   | 0,_ =>
    have q:∀y z,Ou vt c 1 y z=false:=fun y z=>hb _ 0 (by decide) (.inr (by show c.x+1=4;have:c.x=3:=h;omega));rw[(kp _ _ _ _ _ _ _ _).2.2.2.1];simp only[q];rfl
   | 1,_ =>
    have q:∀x z,Ou vt c x 1 z=false:=fun x z=>hb _ 1 (by decide) (.inr (by show c.y+1=4;have:c.y=3:=h;omega));rw[(kp _ _ _ _ _ _ _ _).2.2.2.2.2.1];simp only[q];rfl
   | 2,_ =>
    have q:∀x y,Ou vt c x y 1=false:=fun x y=>hb _ 2 (by decide) (.inr (by show c.z+1=4;have:c.z=3:=h;omega));rw[(kp _ _ _ _ _ _ _ _).2.2.2.2.2.2.2];simp only[q];rfl
/-! ### From the contour to the surface -/
def Ac(p:P3):P3:=⟨p.x / 1024,p.y / 1024,p.z / 1024⟩
def qU(vt:P3→Bool):List T3:=cS (wR.flatMap fun c=>wF (Tf (mkV vt c)) c 524288)
def Gb(vt:P3→Bool):List T3:=cS ((qU vt).map (T3.mapP Ac))
theorem aat(A k:Int)(f:Nat→Nat):∀l:List Nat,(l.map fun e=>A+(f e:Int)*k).sum=(l.length:Int)*A+((l.map f).sum:Nat)*k
 | []=>by simp
 | e::l=>by
  have ih:=aat A k f l;simp only[bj,List.sum_cons,av,ih];simp only[Int.natCast_add,Int.add_mul];omega
theorem anQ{n:Nat}(hn:0<n)(c S:Nat):((n:Int)*((c:Int)*524288)+(S:Int)*262144).tdiv n / 1024=(512*(c:Int))+((n:Int)*(0*512)+(S:Int)*256).tdiv n:=by
 have h1:(n:Int)*((c:Int)*524288)+(S:Int)*262144=((n*(c*524288)+S*262144:Nat):Int):=by
  rw[Int.natCast_add,jh,jh,jh];rfl
 have h2:(n:Int)*(0*512)+(S:Int)*256=((S*256:Nat):Int):=by
  rw[Int.zero_mul,Int.mul_zero,Int.zero_add,jh];rfl
 rw[h1,h2,←Int.ofNat_tdiv,←Int.ofNat_tdiv];have h3:(n*(c*524288)+S*262144) / n / 1024=512*c+S*256 / n:=by
  rw[Nat.mul_add_div hn,show c*524288=512*c*1024 by omega,Nat.add_comm,Nat.add_mul_div_right _ _ (by decide:0<1024),Nat.div_div_eq_div_mul,show S*262144=S*256*1024 by omega,Nat.mul_div_mul_right _ _ (by decide:0<1024)];omega
 generalize (n*(c*524288)+S*262144) / n=a at h3 ⊢;generalize S*256 / n=b at h3 ⊢;omega
theorem as8(hc:inG c)(e:Nat):Ac (Xw c 524288 e)=rM c (Xw ⟨0,0,0⟩ 512 e):=by
 unfold Ac Xw rM;simp only[P3.mk.injEq];refine⟨?_,?_,?_⟩ <;> (simp only[show (524288:Int) / 2=262144 from rfl,show (512:Int) / 2=256 from rfl];omega)
theorem aau(hc:inG c){l:List Nat}(hl:0<l.length):Ac (Dh (l.map (Xw c 524288)))=rM c (Dh (l.map (Xw ⟨0,0,0⟩ 512))):=by
 obtain⟨h1,_,h3,_,h5,_⟩:=hc;unfold Dh Ac rM;simp only[kd,bx];have key:∀(x:Int) (hx:0≤x) (i:Nat),(l.map fun e=>x*524288+(((eA e).getD i 0:Nat):Int)*(524288 / 2)).sum.tdiv l.length / 1024=(l.map fun e=>(0:Int)*512+(((eA e).getD i 0:Nat):Int)*(512 / 2)).sum.tdiv l.length+512*x:=fun x hx i=>by
  rw[aat,aat,show (524288:Int) / 2=262144 from rfl,show (512:Int) / 2=256 from rfl];obtain⟨n,rfl⟩:∃n:Nat,x=(n:Int):=⟨x.toNat,by omega⟩
  rw[anQ hl];omega
 simp only[P3.mk.injEq];exact⟨key c.x h1 0,key c.y h3 1,key c.z h5 2⟩
theorem anR(hc:inG c)(m:Nat):(wF (Tf m) c 524288).map (T3.mapP Ac)=(kI m).map (T3.mapP (rM c)):=by
 unfold kI wF;rw[ov,ov]
 congr 1
 funext l
 have hp:∀e,Ac (Xw c 524288 e)=rM c (Xw ⟨0,0,0⟩ 512 e):=as8 hc
 match l with
 | []=>rfl
 | [a]=>simp[Jt,T3.mapP,hp,aau hc (l:=[a]) (by simp)];have:=aau hc (l:=[a]) (by simp);simpa using this
 | [a,b] =>
  have:=aau hc (l:=[a,b]) (by simp);simp only[bj,List.map_nil] at this;simp[Jt,T3.mapP,hp,this,im]
 | [a,b,d]=>simp[Jt,T3.mapP,hp]
 | a::b::d::e::l =>
  have hm:=aau hc (l:=a::b::d::e::l) (by simp);have g:∀(L:List Nat) (h:Int) (o:P3),Jt ((a::b::d::e::L).map (Xw o h))=(df (a::b::d::e::L).length).map fun k=>⟨((a::b::d::e::L).map (Xw o h)).getD k ⟨0,0,0⟩,((a::b::d::e::L).map (Xw o h)).getD ((k+1)%(a::b::d::e::L).length) ⟨0,0,0⟩,Dh ((a::b::d::e::L).map (Xw o h))⟩:=fun L h o=>by
   unfold Jt;simp only[bj,av,bx]
  rw[g,g,kd,kd];refine ir fun k hk=>?_;rw[gn] at hk;have gd:∀i,i<(a::b::d::e::l).length→Ac (((a::b::d::e::l).map (Xw c 524288)).getD i ⟨0,0,0⟩)=rM c (((a::b::d::e::l).map (Xw ⟨0,0,0⟩ 512)).getD i ⟨0,0,0⟩):=fun i hi=>by
   rw[eo,eo,fb,fb,am hi];exact hp _
  show T3.mapP Ac _=T3.mapP (rM c) _
  unfold T3.mapP;simp only;rw[gd k hk,gd _ (ji _ (by simp)),hm]
theorem ahb{l:List T3}{f:P3→P3}(hd:∀t∈l,(t.mapP f).nd=true):cS ((cS l).map (T3.mapP f))=cS (l.map (T3.mapP f)):=by
 refine abT ?_;rw[kd,kd];refine ((lY l).map _).trans ?_;rw[kd];have e:l.map ((dL∘T3.mapP f)∘dL)=l.map (dL∘T3.mapP f):=ir fun t ht=>by
  show dL ((dL t).mapP f)=dL (t.mapP f)
  exact abM (agS f (kU t)) (hd t ht)
 rw[e]
theorem Xy{f g:P3→List T3}{k:P3→P3}:∀l:List P3,(∀c∈l,(f c).map (T3.mapP k)=g c)→(l.flatMap f).map (T3.mapP k)=l.flatMap g
 | [],_=>rfl
 | c::l,h=>by rw[di,di,ct,h c (bm ..),Xy l fun d hd=>h d (bg _ hd)]
theorem acd(vt:P3→Bool):(wR.flatMap fun c=>wF (Tf (mkV vt c)) c 524288).map (T3.mapP Ac)=wG (mkV vt):=Xy wR fun c hc=>anR (xR.1 hc) _
theorem anS{vt:P3→Bool}(hb:Jy vt):Gb vt=cS (wG (mkV vt)) :=
 (ahb fun t ht=>nd_of (apf (afJ hb) _ (acd vt▸fk ht))).trans (congrArg cS (acd vt))
theorem aei{vt:P3→Bool}(hb:Jy vt):fH true (Gb vt)=0:=by
 rw[anS hb,Od];exact anO (afJ hb)
end Go.Lith
namespace Go.Proofs.YtfekpcimgncioaaGreatDoor
open Go.Proofs.Tryz
open Go.RowKit Go.Lith
set_option maxRecDepth 100000
attribute [local irreducible] wpList wpQuiet gG bQ cO Code.wp
attribute [local congr] rC gX gY gZ iA iB lI iC iD iE iF iG iH iJ iK iL iM iN fJ fK iO iP iR iS iT lK dW dX cX dV iQ lJ fN fO fP iU iV lM
variable{n x a b1 b2 k g3 N cap cx cy cz ci:Nat}{pos:Bool}{I ins:List Bool}{nx:List Int}{w:aj}{K:It}{c:P3}{ps:List P3}{vt:P3→Bool}
theorem ace{bs ns}(h:jX bs ns){p q v:Nat}{b:Bool}(hp:p<24)(hq:q<24):jX bs (Ga ns p q v n b):=by
 unfold Ga;split
 · exact h.put (by omega)
 · exact h.put (by omega)
theorem Mm{os:List Nat}  : os.map sA++[.int .i64 (x:Int)]=(os++[x]).map sA:=by simp[sA]
theorem fv2{sd:Nat}(ha:a<3)(h1:b1=(a+1)%3)(h2:b2=(a+2)%3)(hs:sd=if pos then 2^a else 0)(hk:k<4):∃s1 s2 u1 u2:Nat,IntKind.i64.wrap (((k%2:Nat):Int)*2^min (lc (b1:Int)) IntKind.i64.bits)=(s1:Int)∧IntKind.i64.wrap (((k / 2:Nat):Int)*2^min (lc (b2:Int)) IntKind.i64.bits)=(s2:Int)∧IntKind.i64.wrap (1*2^min (lc (b1:Int)) IntKind.i64.bits)=(u1:Int)∧IntKind.i64.wrap (1*2^min (lc (b2:Int)) IntKind.i64.bits)=(u2:Int)∧sd+s1+s2=fvE a pos k∧u1=2^b1∧u2=2^b2∧fvE a pos k<8∧(k%2=0→fvE a pos k+u1<8)∧(k / 2=0→fvE a pos k+u2<8):=by
 refine⟨k%2*2^b1,k / 2*2^b2,2^b1,2^b2,?_,?_,?_,?_,?_,O,O,?_,?_,?_⟩ <;> subst h1 h2 hs <;> rcases a with _ | _ | _ | a <;> rcases k with _ | _ | _ | _ | k <;> cases pos <;> first | omega | rfl | decide
theorem tY{v:Nat}(hv:v<8)(ha:a<3):Bf v a<24:=by
 have h1:=aka v a;have h2:=as1 v a;omega
theorem akl{ls:List Nat}(h:ls.length=n)(hn:(n:Int)=2):∃x y,ls=[x,y]:=by
 match ls,h with
 | [x,y],_=>exact⟨x,y,rfl⟩
 | [],h=>simp at h;omega
 | [_],h=>simp at h;omega
 | _::_::_::l,h=>simp at h;omega
theorem anT(I:List Bool)(a:Nat)(pos:Bool)(k:Nat):fL I a pos (k+1)=fS1 I a pos (fL I a pos k) k:=by
 unfold fL;rw[im,gz];rfl
theorem Pr{I:List Bool}{a k v b1 b2:Nat}{pos:Bool}{l1 l2:List Nat}{ins:Int}(hv:v=fvE a pos k)(h1:b1=(a+1)%3)(h2:b2=(a+2)%3)(hl1:l1=if k%2=0∧Er I v≠Er I (v+2^b1) then (fL I a pos k).1++[Bf v b1] else (fL I a pos k).1)
 (hl2:l2=if k / 2=0∧Er I v≠Er I (v+2^b2) then l1++[Bf v b2] else l1) (hi:ins=if Er I v then (v:Int) else (fL I a pos k).2):fL I a pos (k+1)=(l2,ins):=by
 subst hv h1 h2 hl1 hl2 hi;rw[anT];rfl
def Tk(I:List Bool)(nx:List Int)(a:Nat)(pos:Bool):List Int:=match (fL I a pos 4).1 with
 | [p,q]=>Ga nx p q (fL I a pos 4).2.toNat a pos
 | _=>nx
theorem acf(I:List Bool)(nx:List Int)(a:Nat)(pos:Bool):Js I nx a pos=if (fL I a pos 4).1.length=4 then (df 4).foldl (f4S I a pos) (Tk I nx a pos) else Tk I nx a pos:=rfl
theorem ahc{y:Nat}(h:(fL I a pos 4).1=[x,y]):Tk I nx a pos=Ga nx x y (fL I a pos 4).2.toNat a pos:=by unfold Tk;rw[h]
theorem akm(h:(fL I a pos 4).1.length≠2):Tk I nx a pos=nx:=by
 unfold Tk;split
 · rename_i p q e;rw[e] at h;exact absurd O h
 · rfl
theorem anU(I:List Bool)(a:Nat)(pos:Bool)(nx:List Int)(k:Nat):(df (k+1)).foldl (f4S I a pos) nx=f4S I a pos ((df k).foldl (f4S I a pos) nx) k:=by rw[im,gz];rfl
theorem auw{v:Nat}(hv:v=fvE a pos k)(h1:b1=(a+1)%3)(h2:b2=(a+2)%3)(h:Er I v=true):f4S I a pos nx k=Ga nx (Bf v b1) (Bf v b2) v a pos:=by
 subst hv h1 h2;unfold f4S;exact if_pos h
theorem aux{v:Nat}(hv:v=fvE a pos k)(h:Er I v=false):f4S I a pos nx k=nx:=by
 subst hv;unfold f4S;exact if_neg (by rw[h];decide)
def ake(a:Nat)(pos:Bool)(b0 b1 b2 b3 b4 b5 b6 b7:Bool):Bool:=let r:=fL [b0,b1,b2,b3,b4,b5,b6,b7] a pos 4;!decide (r.1.length=2)||decide (0≤r.2∧r.2<8)
theorem akn:([0,1,2].all fun a=>[false,true].all fun p=>anP (ake a p))=true:=by kernel_rfl
theorem as9(hl:I.length=8)(ha:a<3)(h:(fL I a pos 4).1.length=2):∃v:Nat,(fL I a pos 4).2=(v:Int)∧v<8:=by
 match I,hl with
 | [b0,b1,b2,b3,b4,b5,b6,b7],_ =>
  have h1:=de.1 akn a (by rcases a with _ | _ | _ | a <;> first | omega | simp);have h2:=afI (de.1 h1 pos (by cases pos <;> simp)) b0 b1 b2 b3 b4 b5 b6 b7;unfold ake at h2;simp only[h,decide_true,fi,Bool.false_or,decide_eq_true_eq] at h2;exact⟨_,(Int.toNat_of_nonneg h2.1).symm,by omega⟩
theorem Xz{w0:aj}{bs:List Bool}{ns:List Int}{p q v:Nat}{a:Int}{b:Bool}(m:Mem w0 w [bI g3 (lN bs ns) 264,K])(hc:jX bs ns)(hp:p<24)(hq:q<24)(hv:v<8)(ha:(a=0∧n=0)∨(a=1∧n=1)∨(a=2∧n=2)):wE prog 288 [.pointer (some ⟨g3,0,none⟩),.int .i64 (p:Int),.int .i64 (q:Int),.int .i64 (v:Int),.int .i64 a,.bool b] w (fun _ w'=>Mem w0 w' [bI g3 (lN bs (Ga ns p q v n b)) 264,K]):=by
 refine⟨bK func288 (by kernel_rfl),?_⟩
 go_enter func288,ntmps288
 apply fF 7 [0] m;simp only[↓aD];refine dM m O O (anv _ hp hq hv ha) ?_;rintro v u m rfl;apply aL 6 [0] m;simp only[↓aD];refine gF O ?_ ?_<;>intro hc1
 ·
  apply aJ 6 [0] m;simp only[↓aD,vF,aa];refine aB (aK Gz aU O O (by omega) (by omega) Th) ?_;simp only[zz];refine cW m 0 O O O aU (by rw[hc.len];show _+1≤_;omega) ⟨rfl,rfl⟩ ?_;intro u m;simp only[zz] at m;rw[hc.over hp] at m;apply aL 1 [0] m;simp only[↓aD];exact Fl O ⟨_,O,by rw[Ga,if_pos hc1];exact m⟩
 ·
  apply aJ 6 [0] m;simp only[↓aD,vF,aa];refine aB (aK Gz aU O O (by omega) (by omega) Th) ?_;simp only[zz];refine cW m 0 O O O aU (by rw[hc.len];show _+1≤_;omega) ⟨rfl,rfl⟩ ?_;intro u m;simp only[zz] at m;rw[hc.over hq] at m;apply aL 1 [0] m;simp only[↓aD];exact Fl O ⟨_,O,by rw[Ga,if_neg (by rw[hc1];decide)];exact m⟩
theorem Ya{w0:aj}{bs:List Bool}{ns:List Int}(m:Mem w0 w [bI g3 (lN bs ns) 264,K])(hc:jX bs ns)(ha:a<3):wE prog 215 [.pointer (some ⟨g3,0,none⟩),.int .i64 (a:Int),.bool pos] w (fun _ w'=>Mem w0 w' [bI g3 (lN bs (Js bs ns a pos)) 264,K]∧jX bs (Js bs ns a pos)):=by
 refine⟨bK func215 (by kernel_rfl),?_⟩;obtain⟨b1,hb1⟩:∃b1,b1=(a+1)%3:=⟨_,rfl⟩
 obtain⟨b2,hb2⟩:∃b2,b2=(a+2)%3:=⟨_,rfl⟩
 go_enter func215,ntmps215
 apply fF 9 [0] m;simp only[↓aD];refine Rq m [6] [16,17] (fun vs=>∃(sd:Nat),vs=[.int .i64 (sd:Int)]∧(sd=if pos then 2^a else 0)) ?_ ?_
 · intro K1 hK1
   refine gF O ?_ ?_<;>intro hc1
   ·
    apply aJ 2 [0] m;simp only[↓aD];refine aB (qQ O O (by omega) (apa ha)) ?_;apply aL 2 [0] m;simp only[↓aD];exact hK1 _ _ (by kernel_rfl) m ⟨2^a,O,by rw[if_pos hc1]⟩
   ·
    apply aJ 1 [0] m;simp only[↓aD];exact hK1 _ _ (by kernel_rfl) m ⟨0,O,by rw[if_neg (by rw[hc1];decide)]⟩
 · intro vs wr m hI u
   obtain⟨sd,rfl,hsd⟩:=hI;simp only[zu,zF,zG];apply aW 4 [0] m;simp only[↓aD];refine⟨by omega,?_⟩;refine aB (cP O O (by omega) (show ((a:Int)+1).tmod 3=(b1:Int) from by rw[hb1];rfl)) ?_;apply aL 6 [0] m;simp only[↓aD];refine⟨by omega,?_⟩;refine aB (cP O O (by omega) (show ((a:Int)+2).tmod 3=(b2:Int) from by rw[hb2];rfl)) ?_;apply aL 4 [0] m;simp only[↓aD];refine aB aO ?_;replace m:=m.nilO 3 1;apply aL 11 [0] m;simp only[↓aD];refine bX [9,10,11] [12,24,25,26,27,28,29,30,31,32,33,34,35,36,37,38,39,40,41,42,43,44,45,46,47,48,49,50,51,52,53,54,55,56,57,58,59,60,61,62,63,64,65,66,67,68,69,70,71,72,73,74,75,76,77,78,79,80,81,82,83,84,85,86,87,88,89,90,91,92,93,94,95,96,97,98,99] (fun n vs wl=>∃(k n9:Nat) (ins:Int) (ls:List Nat) (A9:Option Addr) (cap9:Nat),vs=[.slice A9 n9 cap9,.int .i64 ins,.int .i64 (k:Int)]∧Mem w0 wl [oI 3 1 A9 n9 cap9 (ls.map sA),bI g3 (lN bs ns) 264,K]∧(ins=(fL bs a pos k).2)∧(ls=(fL bs a pos k).1)∧(ls.length=n9)∧(∀x∈ls,x<24)∧(n9≤2*k)∧(k≤4)∧(n=4-k)) ?_ ?_
   ·
    exact⟨_,0,0,_,[],none,0,O,m,O,O,O,by simp,by omega,by omega,O⟩
   · intro n vs wr hI u K2 hK2
     obtain⟨k,n9,ins,ls,A9,cap9,rfl,m,hi0,hL1,hln,hls,hn9,hk,hn⟩:=hI;simp only[zu,zF,zG];apply aJ 6 [0,0] m;simp only[↓aD];refine bG O ?_ ?_<;>intro hc2
     ·
      have hk4:k<4:=by omega
      apply aJ 4 [] m;simp only[↓aD];obtain⟨s1,s2,u1,u2,hs1,hs2,hu1,hu2,hvs,hu3,hu4,hv8,hw1,hw2⟩:=fv2 (pos:=pos) ha hb1 hb2 hsd hk4;refine gc (mq m aC (by kernel_rfl) (aG aI (aG aI ?_)));simp only[zz];refine aG (cP O O (by omega) (show (k:Int).tmod 2=((k%2:Nat):Int) from O)) (aG aI ?_);simp only[zz];refine aG (qQ O O (by omega) hs1) ?_;simp only[zz];refine aG (fB O O (bM (by omega) (by omega))) (aG aI ?_);simp only[zz];refine aG (jG O O (by omega) (show IntKind.i64.wrap ((k / 2:Nat):Int)=_ from bM (by omega) (by omega))) (aG aI ?_);simp only[zz];refine aG (qQ O O (by omega) hs2) ?_;simp only[zz];refine aG (fB O O (bM (by omega) (by omega))) (aG aO (bC ?_));intro u m;simp only[zz];obtain⟨v,hv⟩:∃v:Nat,v=fvE a pos k:=⟨_,rfl⟩
      rw[←hv] at hv8 hw1 hw2 hvs;rw[show ((sd:Int)+(s1:Int)+(s2:Int))=(v:Int) by omega];apply aW 7 [0] m;simp only[↓aD,qG,aa];refine aB (aK zY eK O O (by omega) (by omega) (fC (ah _))) ?_;simp only[zz];refine aR O (lies1 ((m.b 1 O).cell (hc.in hv8)) pB) ?_;simp only[zz];apply aL 1 [0] m;simp only[↓aD];refine Rq m [10] [45] (fun vs=>∃(ins:Int),vs=[.int .i64 ins]∧(ins=if Er bs v then (v:Int) else (fL bs a pos k).2)) ?_ ?_
      · intro K3 hK3
        refine gF O ?_ ?_<;>intro hc3
        ·
         apply aJ 4 [0] m;simp only[↓aD];exact hK3 _ _ (by kernel_rfl) m ⟨_,O,by rw[if_pos (show Er bs v=true from hc3)]⟩
        ·
         apply aJ 1 [0] m;simp only[↓aD];exact hK3 _ _ (by kernel_rfl) m ⟨_,O,by rw[if_neg (by rw[show Er bs v=false from hc3];decide)];exact hi0⟩
      · intro vs wr m hI u
        obtain⟨ins,rfl,hins⟩:=hI;simp only[zu,zF,zG];apply aW 2 [] m;simp only[↓aD];by_cases hk13:k%2=0
        ·
         have hvw:=hw1 hk13;refine gc (mq m aC (by kernel_rfl) (aG aI ?_));simp only[zz];refine aG (cP O O (by omega) (show (k:Int).tmod 2=((k%2:Nat):Int) from O)) ?_;simp only[zz];refine aG (yG O O (by omega)) (aG aI (cZ O (aG aI (cZ O (aG aI ?_)))));simp only[zz];refine cZ O (aG (dB O) ?_);refine eC 1 [] ?_;simp only[↓aD,qG,aa];refine cZ O (aG (aK zY eK O O (by omega) (by omega) (fC (ah _))) (cZ O ?_));simp only[zz];refine ql O (fun u m=>(lies1 ((m.b 1 O).cell (hc.in hv8)) pB)) ?_;simp only[zz];refine cZ O (aG aI (cZ O (aG aI (cZ O (aG aI (cZ O ?_))))));simp only[zz];refine aG (qQ O O (by omega) hu1) (cZ O ?_);simp only[zz];refine aG (fB O O (bM (by omega) (by omega))) (cZ O (aG (dB O) ?_));refine eC 1 [] ?_;simp only[↓aD,qG,aa];refine cZ O (aG (aK zY eK O O (by omega) (by omega) (fC (show _=v+u1 by omega))) (cZ O ?_));simp only[zz];refine ql O (fun u m=>(lies1 ((m.b 1 O).cell (hc.in hvw)) pB)) ?_;simp only[zz];refine cZ O (aG (Qm Va O O) (aG (tL O) (bC ?_)));intro u m;refine gc ?_;simp only[zz];refine jL m 0 [9] [67,68,69,70,71,72] (fun vs i=>∃(n9:Nat) (l1:List Nat) (A9:Option Addr) (cap9:Nat),vs=[.slice A9 n9 cap9]∧i=oI 3 1 A9 n9 cap9 (l1.map sA)∧(l1=if k%2=0∧Er bs v≠Er bs (v+2^b1) then (fL bs a pos k).1++[Bf v b1] else (fL bs a pos k).1)∧(l1.length=n9)∧(∀x∈l1,x<24)∧(n9≤2*k+1)) ?_ ?_
         · intro K4 hK4
           refine gF O ?_ ?_<;>intro hc4
           ·
            apply aJ 4 [0] m;simp only[↓aD];refine kO m O O (Di hv8 (show b1<3 by omega)) ?_;intro u m;simp only[zz];refine gA dH (z:=.int .i64 0) (by kernel_rfl) O O O ?_;intro u g6 e_ h_ k_;replace m:=m.newB e_ h_ k_;simp only[zz];refine bL m 1 O O dH tA O (by decide) O O O (m.b 0 O).rowsO (gB O) (by omega) (by omega) ?_;intro A9 cap9 u m;simp only[zF,zG] at m;simp only[zA,zB,zC,zD,zE,Mm] at m;apply aL 2 [0] m;simp only[↓aD];exact hK4 _ _ _ (by kernel_rfl) (m.sel [false,true,true,true]) ⟨_,_,_,_,O,O,by rw[if_pos ⟨hk13,by rw[←hu3];simpa[Er] using hc4⟩];rw[←hL1],by simp;omega,fun x hx=>(bi.1 hx).elim (hls x) fun h=>by cases bf.1 h;exact tY hv8 (by omega),by omega⟩
           ·
            apply aJ 1 [0] m;simp only[↓aD];exact hK4 _ _ _ (by kernel_rfl) m ⟨_,_,_,_,O,O,by rw[if_neg (fun h=>by rw[←hu3] at h;exact h.2 (by simpa[Er] using hc4))];exact hL1,hln,hls,by omega⟩
         · intro vs i wr m hI u
           obtain⟨n9,l1,A9,cap9,rfl,rfl,hl1,hln,hls,hn9⟩:=hI;simp only[zF,zG] at m;simp only[zu,zF,zG];apply aW 1 [] m;simp only[↓aD];by_cases hk15:k / 2=0
           ·
            have hvw:=hw2 hk15;refine gc (mq m aC (by kernel_rfl) (aG aI ?_));simp only[zz];refine aG (jG O O (by omega) (show IntKind.i64.wrap ((k / 2:Nat):Int)=_ from bM (by omega) (by omega))) ?_;simp only[zz];refine aG (yG O O (by omega)) (aG aI (cZ O (aG aI (cZ O (aG aI ?_)))));simp only[zz];refine cZ O (aG (dB O) ?_);refine eC 1 [] ?_;simp only[↓aD,qG,aa];refine cZ O (aG (aK zY eK O O (by omega) (by omega) (fC (ah _))) (cZ O ?_));simp only[zz];refine ql O (fun u m=>(lies1 ((m.b 1 O).cell (hc.in hv8)) pB)) ?_;simp only[zz];refine cZ O (aG aI (cZ O (aG aI (cZ O (aG aI (cZ O ?_))))));simp only[zz];refine aG (qQ O O (by omega) hu2) (cZ O ?_);simp only[zz];refine aG (fB O O (bM (by omega) (by omega))) (cZ O (aG (dB O) ?_));refine eC 1 [] ?_;simp only[↓aD,qG,aa];refine cZ O (aG (aK zY eK O O (by omega) (by omega) (fC (show _=v+u2 by omega))) (cZ O ?_));simp only[zz];refine ql O (fun u m=>(lies1 ((m.b 1 O).cell (hc.in hvw)) pB)) ?_;simp only[zz];refine cZ O (aG (Qm Va O O) (aG (tL O) (bC ?_)));intro u m;refine gc ?_;simp only[zz];refine jL m 0 [9] [94,95,96,97,98,99] (fun vs i=>∃(n9:Nat) (l2:List Nat) (A9:Option Addr) (cap9:Nat),vs=[.slice A9 n9 cap9]∧i=oI 3 1 A9 n9 cap9 (l2.map sA)∧(l2=if k / 2=0∧Er bs v≠Er bs (v+2^b2) then l1++[Bf v b2] else l1)∧(l2.length=n9)∧(∀x∈l2,x<24)∧(n9≤2*k+2)) ?_ ?_
            · intro K5 hK5
              refine gF O ?_ ?_<;>intro hc5
              ·
               apply aJ 4 [0] m;simp only[↓aD];refine kO m O O (Di hv8 (show b2<3 by omega)) ?_;intro u m;simp only[zz];refine gA dH (z:=.int .i64 0) (by kernel_rfl) O O O ?_;intro u g6 e_ h_ k_;replace m:=m.newB e_ h_ k_;simp only[zz];refine bL m 1 O O dH tA O (by decide) O O O (m.b 0 O).rowsO (gB O) (by omega) (by omega) ?_;intro A9 cap9 u m;simp only[zF,zG] at m;simp only[zA,zB,zC,zD,zE,Mm] at m;apply aL 2 [0] m;simp only[↓aD];exact hK5 _ _ _ (by kernel_rfl) (m.sel [false,true,true,true]) ⟨_,_,_,_,O,O,by rw[if_pos ⟨hk15,by rw[←hu4];simpa[Er] using hc5⟩],by simp;omega,fun x hx=>(bi.1 hx).elim (hls x) fun h=>by cases bf.1 h;exact tY hv8 (by omega),by omega⟩
              ·
               apply aJ 1 [0] m;simp only[↓aD];exact hK5 _ _ _ (by kernel_rfl) m ⟨_,_,_,_,O,O,by rw[if_neg (fun h=>by rw[←hu4] at h;exact h.2 (by simpa[Er] using hc5))],hln,hls,by omega⟩
            · intro vs i wr m hI u
              obtain⟨n9,l2,A9,cap9,rfl,rfl,hl2,hln,hls,hn9⟩:=hI;simp only[zF,zG] at m;simp only[zu,zF,zG];apply aW 6 [0] m;simp only[↓aD];refine⟨by omega,?_⟩;have hnx:=Pr hv hb1 hb2 hl1 hl2 hins;exact hK2 (4-(k+1)) _ _ (by omega) (by kernel_rfl) ⟨k+1,_,_,_,_,_,O,m,by rw[hnx],by rw[hnx],hln,hls,by omega,by omega,O⟩
           ·
            obtain⟨l2,hl9⟩:∃l,l=l1:=⟨_,rfl⟩
            have hl2:l2=if k / 2=0∧Er bs v≠Er bs (v+2^b2) then l1++[Bf v b2] else l1:=by rw[if_neg (fun h=>hk15 h.1),hl9]
            rw[←hl9] at m hln hls;refine gc (mq m aC (by kernel_rfl) (aG aI ?_));simp only[zz];refine aG (jG O O (by omega) (show IntKind.i64.wrap ((k / 2:Nat):Int)=_ from bM (by omega) (by omega))) ?_;simp only[zz];refine aG (Yz O O (by omega)) (aG aI (pL O (pL O ?_)));simp only[zz];refine pL O (eC 14 [] ?_);simp only[↓aD];refine bC ?_;intro u m;apply aW 8 [0] m;simp only[↓aD];refine⟨by omega,?_⟩;have hnx:=Pr hv hb1 hb2 hl1 hl2 hins;exact hK2 (4-(k+1)) _ _ (by omega) (by kernel_rfl) ⟨k+1,_,_,_,_,_,O,m,by rw[hnx],by rw[hnx],hln,hls,by omega,by omega,O⟩
        ·
         obtain⟨l1,hl0⟩:∃l,l=ls:=⟨_,rfl⟩
         have hl1:l1=if k%2=0∧Er bs v≠Er bs (v+2^b1) then (fL bs a pos k).1++[Bf v b1] else (fL bs a pos k).1:=by rw[if_neg (fun h=>hk13 h.1),hl0];exact hL1
         rw[←hl0] at m hln hls;refine gc (mq m aC (by kernel_rfl) (aG aI ?_));simp only[zz];refine aG (cP O O (by omega) (show (k:Int).tmod 2=((k%2:Nat):Int) from O)) ?_;simp only[zz];refine aG (Yz O O (by omega)) (aG aI (pL O (pL O ?_)));simp only[zz];refine pL O (eC 14 [] ?_);simp only[↓aD];refine bC ?_;intro u m;apply aW 3 [] m;simp only[↓aD];by_cases hk15:k / 2=0
         ·
          have hvw:=hw2 hk15;refine gc (mq m aC (by kernel_rfl) (aG aI ?_));simp only[zz];refine aG (jG O O (by omega) (show IntKind.i64.wrap ((k / 2:Nat):Int)=_ from bM (by omega) (by omega))) ?_;simp only[zz];refine aG (yG O O (by omega)) (aG aI (cZ O (aG aI (cZ O (aG aI ?_)))));simp only[zz];refine cZ O (aG (dB O) ?_);refine eC 1 [] ?_;simp only[↓aD,qG,aa];refine cZ O (aG (aK zY eK O O (by omega) (by omega) (fC (ah _))) (cZ O ?_));simp only[zz];refine ql O (fun u m=>(lies1 ((m.b 1 O).cell (hc.in hv8)) pB)) ?_;simp only[zz];refine cZ O (aG aI (cZ O (aG aI (cZ O (aG aI (cZ O ?_))))));simp only[zz];refine aG (qQ O O (by omega) hu2) (cZ O ?_);simp only[zz];refine aG (fB O O (bM (by omega) (by omega))) (cZ O (aG (dB O) ?_));refine eC 1 [] ?_;simp only[↓aD,qG,aa];refine cZ O (aG (aK zY eK O O (by omega) (by omega) (fC (show _=v+u2 by omega))) (cZ O ?_));simp only[zz];refine ql O (fun u m=>(lies1 ((m.b 1 O).cell (hc.in hvw)) pB)) ?_;simp only[zz];refine cZ O (aG (Qm Va O O) (aG (tL O) (bC ?_)));intro u m;refine gc ?_;simp only[zz];refine jL m 0 [9] [94,95,96,97,98,99] (fun vs i=>∃(n9:Nat) (l2:List Nat) (A9:Option Addr) (cap9:Nat),vs=[.slice A9 n9 cap9]∧i=oI 3 1 A9 n9 cap9 (l2.map sA)∧(l2=if k / 2=0∧Er bs v≠Er bs (v+2^b2) then l1++[Bf v b2] else l1)∧(l2.length=n9)∧(∀x∈l2,x<24)∧(n9≤2*k+2)) ?_ ?_
          · intro K6 hK6
            refine gF O ?_ ?_<;>intro hc5
            ·
             apply aJ 4 [0] m;simp only[↓aD];refine kO m O O (Di hv8 (show b2<3 by omega)) ?_;intro u m;simp only[zz];refine gA dH (z:=.int .i64 0) (by kernel_rfl) O O O ?_;intro u g6 e_ h_ k_;replace m:=m.newB e_ h_ k_;simp only[zz];refine bL m 1 O O dH tA O (by decide) O O O (m.b 0 O).rowsO (gB O) (by omega) (by omega) ?_;intro A9 cap9 u m;simp only[zF,zG] at m;simp only[zA,zB,zC,zD,zE,Mm] at m;apply aL 2 [0] m;simp only[↓aD];exact hK6 _ _ _ (by kernel_rfl) (m.sel [false,true,true,true]) ⟨_,_,_,_,O,O,by rw[if_pos ⟨hk15,by rw[←hu4];simpa[Er] using hc5⟩],by simp;omega,fun x hx=>(bi.1 hx).elim (hls x) fun h=>by cases bf.1 h;exact tY hv8 (by omega),by omega⟩
            ·
             apply aJ 1 [0] m;simp only[↓aD];exact hK6 _ _ _ (by kernel_rfl) m ⟨_,_,_,_,O,O,by rw[if_neg (fun h=>by rw[←hu4] at h;exact h.2 (by simpa[Er] using hc5))],hln,hls,by omega⟩
          · intro vs i wr m hI u
            obtain⟨n9,l2,A9,cap9,rfl,rfl,hl2,hln,hls,hn9⟩:=hI;simp only[zF,zG] at m;simp only[zu,zF,zG];apply aW 6 [0] m;simp only[↓aD];refine⟨by omega,?_⟩;have hnx:=Pr hv hb1 hb2 hl1 hl2 hins;exact hK2 (4-(k+1)) _ _ (by omega) (by kernel_rfl) ⟨k+1,_,_,_,_,_,O,m,by rw[hnx],by rw[hnx],hln,hls,by omega,by omega,O⟩
         ·
          obtain⟨l2,hl9⟩:∃l,l=l1:=⟨_,rfl⟩
          have hl2:l2=if k / 2=0∧Er bs v≠Er bs (v+2^b2) then l1++[Bf v b2] else l1:=by rw[if_neg (fun h=>hk15 h.1),hl9]
          rw[←hl9] at m hln hls;refine gc (mq m aC (by kernel_rfl) (aG aI ?_));simp only[zz];refine aG (jG O O (by omega) (show IntKind.i64.wrap ((k / 2:Nat):Int)=_ from bM (by omega) (by omega))) ?_;simp only[zz];refine aG (Yz O O (by omega)) (aG aI (pL O (pL O ?_)));simp only[zz];refine pL O (eC 14 [] ?_);simp only[↓aD];refine bC ?_;intro u m;apply aW 8 [0] m;simp only[↓aD];refine⟨by omega,?_⟩;have hnx:=Pr hv hb1 hb2 hl1 hl2 hins;exact hK2 (4-(k+1)) _ _ (by omega) (by kernel_rfl) ⟨k+1,_,_,_,_,_,O,m,by rw[hnx],by rw[hnx],hln,hls,by omega,by omega,O⟩
     ·
      obtain rfl:k=4:=by omega
      apply aJ 8 [0,0] m;simp only[↓aD,kM];refine jL m 1 [] [103,104,105,106,107,108,109,110,111,112,113] (fun vs i=>∃(ns1:List Int),vs=[]∧i=bI g3 (lN bs ns1) 264∧(ns1=Tk bs ns a pos)∧(jX bs ns1)) ?_ ?_
      · intro K7 hK7
        refine bG O ?_ ?_<;>intro hc6
        ·
         obtain⟨x,y,rfl⟩:=akl hln hc6;obtain⟨vi,hvi0,hvi⟩:=as9 hc.b ha (show (fL bs a pos 4).1.length=2 by rw[←hL1];rfl);rw[hi0,hvi0];obtain⟨g9,rfl⟩:=(m.o 0 rfl).some (by omega);refine mh m [true,false,true] [(0,true),(1,true),(2,true),(4,true),(5,true),(7,true),(8,true),(9,true),(3,true),(6,true),(10,false)] aC (by kernel_rfl) (bU (fun _ _ _ _ _ h=>h)) (ol:=?_) ?hol ?_
         case hol=>simp only[zw,zQ,zR];try rfl
         intro u m;refine bF aI (bF aI ?_);simp only[zz];refine bF (aF dH aU O O (by decide) (by omega) O) (bF aI ?_);simp only[zz];refine bF (aF dH aU O O (by decide) (by omega) O) (Pg 3 [] ?_);simp only[↓aD];refine fU O (fun u m=>(lies1 ((m.o 0 O).rows 0 _ O) bD)) ?_;simp only[zz];refine fU O (fun u m=>(lies1 ((m.o 0 O).rows 1 _ O) bD)) ?_;simp only[zz];refine bR ?_;replace m:=m.pull 1 O;simp only[dY,dZ,zF,zG] at m;replace m:=m.pack1;refine kK O O (Xz (n:=a) m hc (hls x (by simp)) (hls y (by simp)) hvi (by omega)) ?_;rintro v u m;simp only[zz];replace m:=Mem.unpack [_] m;simp only[cn,b_] at m;replace m:=m.s01;refine aM ⟨m.sel [true,false,true],?_⟩;refine bW (gk ?_);rw[←hvi0,←hi0];exact hK7 _ _ _ (by kernel_rfl) m ⟨_,O,O,by rw[ahc hL1.symm,hvi0];rfl,ace hc (by first | exact hls x (by simp) | exact tY hv8 (by omega)) (by first | exact hls y (by simp) | exact tY hv8 (by omega))⟩
        ·
         apply aJ 1 [0] m;simp only[↓aD];exact hK7 _ _ _ (by kernel_rfl) m ⟨_,O,O,(akm (by rw[←hL1,hln];omega)).symm,hc⟩
      · intro vs i wr m hI u
        obtain⟨ns1,rfl,rfl,hn1,hc1⟩:=hI;simp only[zF,zG] at m;simp only[zu,zF,zG];apply aW 6 [0,0] m;simp only[↓aD,kM];refine bG O ?_ ?_<;>intro hc7
        ·
         have h4:(fL bs a pos 4).1.length=4:=by rw[←hL1,hln];omega
         apply aJ 5 [0] m;simp only[↓aD];refine bX [13] [14,117,118,119,120,121,122,123,124,125,126,127,128,129,130,131,132,133,134,135,136,137,138,139,140,141,142,143,144,145,146,147,148] (fun n vs wl=>∃(k:Nat) (ns:List Int),vs=[.int .i64 (k:Int)]∧Mem w0 wl [bI g3 (lN bs ns) 264,K]∧(jX bs ns)∧(ns=(df k).foldl (f4S bs a pos) ns1)∧(k≤4)∧(n=4-k)) ?_ ?_
         ·
          exact⟨_,0,_,O,(m.sel [false,true,true]),hc1,O,by omega,O⟩
         · intro n vs wr hI u K8 hK8
           obtain⟨k,ns,rfl,m,hc,hf4,hk,hn⟩:=hI;simp only[zu,zF,zG];apply aJ 6 [0,0] m;simp only[↓aD];refine bG O ?_ ?_<;>intro hc8
           ·
            have hk4:k<4:=by omega
            apply aJ 4 [] m;simp only[↓aD];obtain⟨s1,s2,u1,u2,hs1,hs2,hu1,hu2,hvs,hu3,hu4,hv8,hw1,hw2⟩:=fv2 (pos:=pos) ha hb1 hb2 hsd hk4;refine gc (mq m aC (by kernel_rfl) (aG aI (aG aI ?_)));simp only[zz];refine aG (cP O O (by omega) (show (k:Int).tmod 2=((k%2:Nat):Int) from O)) (aG aI ?_);simp only[zz];refine aG (qQ O O (by omega) hs1) ?_;simp only[zz];refine aG (fB O O (bM (by omega) (by omega))) (aG aI ?_);simp only[zz];refine aG (jG O O (by omega) (show IntKind.i64.wrap ((k / 2:Nat):Int)=_ from bM (by omega) (by omega))) (aG aI ?_);simp only[zz];refine aG (qQ O O (by omega) hs2) ?_;simp only[zz];refine aG (fB O O (bM (by omega) (by omega))) (aG aO (bC ?_));intro u m;simp only[zz];obtain⟨v,hv⟩:∃v:Nat,v=fvE a pos k:=⟨_,rfl⟩
            rw[←hv] at hv8 hw1 hw2 hvs;rw[show ((sd:Int)+(s1:Int)+(s2:Int))=(v:Int) by omega];apply aW 6 [0] m;simp only[↓aD,qG,aa];refine aB (aK zY eK O O (by omega) (by omega) (fC (ah _))) ?_;simp only[zz];refine aR O (lies1 ((m.b 0 O).cell (hc.in hv8)) pB) ?_;simp only[zz];apply aL 1 [0] m;simp only[↓aD];refine jL m 0 [] [138,139,140,141,142,143,144,145,146,147,148] (fun vs i=>∃(ns1:List Int),vs=[]∧i=bI g3 (lN bs ns1) 264∧(ns1=f4S bs a pos ns k)∧(jX bs ns1)) ?_ ?_
            · intro K9 hK9
              refine gF O ?_ ?_<;>intro hc9
              ·
               apply aJ 4 [0] m;simp only[↓aD];refine nV m O O (Di hv8 (show b1<3 by omega)) 2 [0] ?_;simp only[↓aD];intro u m;refine nV m O O (Di hv8 (show b2<3 by omega)) 3 [0] ?_;simp only[↓aD];intro u m;refine kK O O (Xz (n:=a) m hc (tY hv8 (by omega)) (tY hv8 (by omega)) hv8 (by omega)) ?_;rintro v u m;apply aL 1 [0] m;simp only[↓aD];exact hK9 _ _ _ (by kernel_rfl) m ⟨_,O,O,(auw hv hb1 hb2 hc9).symm,ace hc (by first | exact hls x (by simp) | exact tY hv8 (by omega)) (by first | exact hls y (by simp) | exact tY hv8 (by omega))⟩
              ·
               apply aJ 1 [0] m;simp only[↓aD];exact hK9 _ _ _ (by kernel_rfl) m ⟨_,O,O,(aux hv hc9).symm,hc⟩
            · intro vs i wr m hI u
              obtain⟨ns1,rfl,rfl,hn1,hc1⟩:=hI;simp only[zF,zG] at m;simp only[zu,zF,zG];apply aW 6 [0] m;simp only[↓aD];refine⟨by omega,?_⟩;exact hK8 (4-(k+1)) _ _ (by omega) (by kernel_rfl) ⟨k+1,_,O,m,hc1,by rw[anU,←hf4];exact hn1,by omega,O⟩
           ·
            obtain rfl:k=4:=by omega
            apply aJ 1 [0] m;simp only[↓aD];exact Fl O ⟨_,O,by rw[acf,if_pos h4,←hn1,←hf4];exact⟨m.sel [true,true],hc⟩⟩
        ·
         have h4:¬(fL bs a pos 4).1.length=4:=by rw[←hL1,hln];omega
         apply aJ 1 [0] m;simp only[↓aD];exact Fl O ⟨_,O,by rw[acf,if_neg h4,←hn1];exact⟨m.sel [false,true,true],hc1⟩⟩
theorem aq4{e:Nat}(he:e<24)(hx:0≤c.x∧c.x≤3)(hy:0≤c.y∧c.y≤3)(hz:0≤c.z∧c.z≤3):Sm (Xw c 524288 e):=by
 have:=akc he;simp only[Sm,Xw];rw[show (524288:Int) / 2=262144 from rfl];omega
theorem Mn{x:Int}(h0:0≤x)(h:x≤N*3000000)(hN:0<N):IntKind.i64.wrap (x.tdiv (N:Int))=x.tdiv (N:Int)∧0≤x.tdiv (N:Int)∧x.tdiv (N:Int)≤3000000:=by
 obtain⟨q,h1,h2,h3⟩:=aqV h0 h hN;have h4:x / (N:Int)≤3000000:=Int.ediv_le_of_le_mul (by omega) (by rw[Int.mul_comm];exact h);have h5:0≤x / (N:Int):=Int.ediv_nonneg h0 (by omega);rw[Int.tdiv_eq_ediv_of_nonneg h0];exact⟨bM (by omega) (by omega),h5,h4⟩
def aej(l:List P3)(k:Nat):T3:=⟨l.getD k ⟨0,0,0⟩,l.getD ((k+1)%l.length) ⟨0,0,0⟩,Dh l⟩
theorem ata{l:List P3}{a b:P3}(h0:l[0]? = some a)(h1:l[1]? = some b)(h2:l[2]? = some c)(h:l.length=3):Jt l=[⟨a,b,c⟩]:=by
 match l,h with
 | [x,y,z],_=>cases h0;cases h1;cases h2;rfl
theorem ako{l:List P3}(h:l.length≠3):Jt l=(df l.length).map (aej l):=by
 unfold Jt;split
 · exact absurd O h
 · rfl
theorem akp{f:P3→Int}{l:List P3}{p:P3}(h:l[k]? = some p):((l.take (k+1)).map f).sum=((l.take k).map f).sum+f p:=by
 rw[cJ h,ct,List.sum_append];simp
theorem akq(hs:∀p∈ps,Sm p)(hm:Sm (Dh ps)):∀t∈Jt ps,SmT t:=fun t ht=>by
 have hg:∀i,i<ps.length→Sm (ps.getD i ⟨0,0,0⟩):=fun i hi=>by
  rw[eo,am hi];exact hs _ (gl hi)
 by_cases h:ps.length=3
 · match ps,h with
   | [x,y,z],_ =>
    cases bf.1 (show t∈[(⟨x,y,z⟩:T3)] from ht);exact⟨hs x (by simp),hs y (by simp),hs z (by simp)⟩
 · rw[ako h] at ht
   obtain⟨k,hk,rfl⟩:=dh.1 ht;have hk:=gn.1 hk;exact⟨hg k hk,hg _ (ji _ (by omega)),hm⟩
theorem afK  : (Jt ps).length≤ps.length:=by
 by_cases h:ps.length=3
 · match ps,h with
   | [x,y,z],_=>exact (by decide:1≤3)
 · rw[ako h,bx,oh];exact Nat.le_refl _
theorem aav{f:P3→Int}:∀{l:List P3},(∀p∈l,0≤f p∧f p≤3000000)→0≤(l.map f).sum∧(l.map f).sum≤l.length*3000000
 | [],_=>by simp
 | p::l,h=>by
  have h1:=h p (by simp);have h2:=aav (l:=l) fun x hx=>h x (by simp[hx]);simp only[bj,List.sum_cons,av];omega
theorem aq5(h0:0<ps.length)(_:ps.length≤24)(hs:∀p∈ps,Sm p):Sm (Dh ps):=by
 obtain⟨a1,a2⟩:=aav (f:=P3.x) fun p hp=>(hs p hp).1;obtain⟨b1,b2⟩:=aav (f:=P3.y) fun p hp=>(hs p hp).2.1;obtain⟨c1,c2⟩:=aav (f:=P3.z) fun p hp=>(hs p hp).2.2;exact⟨(Mn a1 a2 h0).2,(Mn b1 b2 h0).2,(Mn c1 c2 h0).2⟩
theorem aq6{x y z:Int}(hl:ps.length=N)(hx:x=((ps.take N).map P3.x).sum)(hy:y=((ps.take N).map P3.y).sum)(hz:z=((ps.take N).map P3.z).sum):([.int .i64 (x.tdiv (N:Int)),.int .i64 (y.tdiv (N:Int)),.int .i64 (z.tdiv (N:Int))]:List ai)=[.int .i64 (Dh ps).x,.int .i64 (Dh ps).y,.int .i64 (Dh ps).z]:=by
 rw[a_ (by omega)] at hx hy hz;subst hx hy hz hl;rfl
theorem akr{i:Nat}{p q:P3}(hl:ps.length=N)(_:0<N)(hp:ps[i]? = some p)(hq:ps[(i+1)%N]? = some q):((df (i+1)).map (aej ps)).flatMap aN=((df i).map (aej ps)).flatMap aN++aN ⟨p,q,Dh ps⟩:=by
 rw[im,ct,ay,List.map_singleton,jw,aej,eo,eo,hl,hp,hq];rfl
theorem anV{e:Nat}(hx:0≤c.x∧c.x≤3)(hy:0≤c.y∧c.y≤3)(hz:0≤c.z∧c.z≤3)(he:e<24):dT prog 216 [.agg #[.int .i64 c.x,.int .i64 c.y,.int .i64 c.z],.int .i64 524288,.int .i64 (e:Int)] (pt (Xw c 524288 e)):=by
 intro w;refine⟨bK func216 (by kernel_rfl),?_⟩;have m:=Mem.refl w;have hpl:=akc he
 go_enter func216,ntmps216
 apply jP 8 [0] m;simp only[↓aD,↓Ju,eS];intro g1 g2 u m;refine nV m O O (Mi he) 12 [0,2,0,0] ?_;simp only[↓aD,↓Ju,xO,vB,eW,cY,aa,ad,ag];intro g3;refine⟨by omega,?_⟩;intro u m;refine aB (jG O O (by omega) (show IntKind.i64.wrap ((524288:Int).tdiv 2)=262144 from O)) ?_;apply aL 9 [2,0,0] m;simp only[↓aD,↓Ju,eW,cY,ad,ag,aa];refine⟨by omega,?_⟩;refine aB (jG O O (by omega) (show IntKind.i64.wrap ((524288:Int).tdiv 2)=262144 from O)) ?_;apply aL 9 [2,0,0] m;simp only[↓aD,↓Ju,eW,cY,ad,ag,aa];refine⟨by omega,?_⟩;refine aB (jG O O (by omega) (show IntKind.i64.wrap ((524288:Int).tdiv 2)=262144 from O)) ?_;apply kD 6 [1] m;simp only[↓aD,↓Ju,xN,aS,aa];refine⟨by omega,?_⟩;intro u m;exact aT O ⟨_,O,((m.b 1 O).full aH aA)⟩ ⟨_,O,m.ext,O⟩
theorem acg{A:Option Addr}(w:aj)(hT:vJ dF 3 w A N ps)(h0:0<N)(hN:N≤24)(hs:∀p∈ps,Sm p):dQ prog 217 [.slice A N cap] w (fun v w'=>Sm (Dh ps)∧SL 39 9 ((Jt ps).flatMap aN) (Jt ps).length w v w'):=by
 refine⟨bK func217 (by kernel_rfl),?_⟩;have m:=Mem.refl w;have htl:=hT.len;have hmid:Sm (Dh ps):=aq5 (by omega) (by omega) hs
 go_enter func217,ntmps217
 apply fF 11 [0,0] m;simp only[↓aD,kZ];refine bG O ?_ ?_<;>intro hc1
 ·
  obtain⟨p0,hp0,a,hA,hrow0⟩:=hT.get (i:=0) (by omega);subst hA;obtain⟨p1,hp1,a1,e1,hrow1⟩:=hT.get (i:=1) (by omega);cases e1;obtain⟨p2,hp2,a2,e2,hrow2⟩:=hT.get (i:=2) (by omega);cases e2;have hf3:=ata hp0 hp1 hp2 (by omega);apply aJ 1 [0] m;simp only[↓aD];refine mh m [] [(0,true),(1,true),(3,true),(4,true),(6,true),(7,true),(2,true),(5,true),(8,true),(9,true),(10,false),(11,true)] aC (by kernel_rfl) (bU (fun _ _ _ _ _ h=>h)) (ol:=?_) ?hol ?_
  case hol=>simp only[zw,zQ,zR];try rfl
  intro u m;refine bF aI ?_;simp only[zz];refine bF (aF cT aA O O (by decide) (by omega) O) (bF aI ?_);simp only[zz];refine bF (aF cT aA O O (by decide) (by omega) O) (bF aI ?_);simp only[zz];refine bF (aF cT aA O O (by decide) (by omega) O) ?_;simp only[zz];refine fU O (fun u m=>(show fZ _ _ _ _ (pt p0) from (hrow0.ext m.ext).lies aH aA)) ?_;simp only[zz];refine fU O (fun u m=>(show fZ _ _ _ _ (pt p1) from (hrow1.ext m.ext).lies aH aA)) ?_;simp only[zz];refine fU O (fun u m=>(show fZ _ _ _ _ (pt p2) from (hrow2.ext m.ext).lies aH aA)) ?_;simp only[zz];refine bF (Lj O O O) (bR ?_);simp only[zz];refine eZ O ?_;intro u g1 e_ h_ k_;replace m:=m.newB e_ h_ k_;simp only[zz];replace m:=m.own 0 O (n:=1) (c:=9) O (gV O);simp only[zG] at m;refine aM ⟨m.sel [false],?_⟩;refine bF aO (bW ?_);apply aW 1 [] m;simp only[↓aD];exact aT O O ⟨_,O,m.ext,hmid,_,_,_,by rw[hf3];rfl,rfl,by rw[hf3];exact (m.o 0 O)⟩
 ·
  have hfn:=ako (l:=ps) (by omega);apply zvc 13 [0,0] m;simp only[↓aD,↓Ju,xN,eS,aS,aa];intro g1 u m;refine bX [4] [22,23,24,25,26,27,28,29,30,31,32,33,34,35,36,37,38,39,40,41,42,43,44,45,46,47,48,49,50,51,52,53,54] (fun n vs wl=>∃(i:Nat) (x y z:Int),vs=[.int .i64 (i:Int)]∧Mem w wl [bI g1 [.int .i64 x,.int .i64 y,.int .i64 z] 30]∧(x=((ps.take i).map P3.x).sum)∧(y=((ps.take i).map P3.y).sum)∧(z=((ps.take i).map P3.z).sum)∧(0≤x)∧(0≤y)∧(0≤z)∧(x≤i*3000000)∧(y≤i*3000000)∧(z≤i*3000000)∧(i≤N)∧(n=N-i)) ?_ ?_
  ·
   exact⟨_,0,0,0,0,O,m,O,O,O,by omega,by omega,by omega,by omega,by omega,by omega,by omega,O⟩
  · intro n vs wr hI u K1 hK1
    obtain⟨i,x,y,z,rfl,m,hxs,hys,hzs,hx0,hy0,hz0,hx3,hy3,hz3,hi,hn⟩:=hI;simp only[zu,zF,zG];apply aJ 8 [0,0] m;simp only[↓aD,kZ];refine bG O ?_ ?_<;>intro hc2
    ·
     obtain⟨p,hp,a,hA,hrow⟩:=hT.get (i:=i) (by omega);subst hA;obtain⟨⟨hx1,hx2⟩,⟨hy1,hy2⟩,hz1,hz2⟩:=hs p (bh hp);apply aJ 4 [0] m;simp only[↓aD];refine cL m 9 aC (by kernel_rfl) ?_;simp only[zy];refine eC 4 [0] ?_;simp only[↓aD,↓Ju,gE,cY,aa];refine aG (aF cT aA O O (by omega) (by omega) (cQ (ah _))) (eC 1 [] ?_);simp only[↓aD,↓Ju,gE,aa];refine ql O (fun u m=>(lies1 ((hrow.ext m.ext) 0 _ O) bD)) ?_;simp only[zz];refine aG (fB O O (bM (by omega) (by omega))) (eC 1 [] ?_);simp only[↓aD,↓Ju,gE,aa];refine bC ?_;intro u m;refine cW m 0 O O O aU (gV O) ⟨O,O⟩ ?_;intro u m;simp only[zz,zy,zx,over,aa] at m;refine aM ?_;apply aW 1 [0] m;simp only[↓aD];refine cL m 9 aC (by kernel_rfl) ?_;simp only[zy];refine eC 4 [0] ?_;simp only[↓aD,↓Ju,gI,cY,aa];refine aG (aF cT aA O O (by omega) (by omega) (cQ (ah _))) (eC 1 [] ?_);simp only[↓aD,↓Ju,gI,aa];refine ql O (fun u m=>(lies1 ((hrow.ext m.ext) 1 _ O) bD)) ?_;simp only[zz];refine aG (fB O O (bM (by omega) (by omega))) (eC 1 [] ?_);simp only[↓aD,↓Ju,gI,aa];refine bC ?_;intro u m;refine cW (off:=1) m 0 O O O aU (gV O) ⟨O,O⟩ ?_;intro u m;simp only[zz,zy,zx,over,aa] at m;refine aM (gc ?_);refine cL m 9 aC (by kernel_rfl) ?_;simp only[zy];refine eC 4 [0] ?_;simp only[↓aD,↓Ju,iX,cY,aa];refine aG (aF cT aA O O (by omega) (by omega) (cQ (ah _))) (eC 1 [] ?_);simp only[↓aD,↓Ju,iX,aa];refine ql O (fun u m=>(lies1 ((hrow.ext m.ext) 2 _ O) bD)) ?_;simp only[zz];refine aG (fB O O (bM (by omega) (by omega))) (eC 1 [] ?_);simp only[↓aD,↓Ju,iX,aa];refine bC ?_;intro u m;refine cW (off:=2) m 0 O O O aU (gV O) ⟨O,O⟩ ?_;intro u m;simp only[zz,zy,zx,over,aa] at m;refine aM ?_;apply aW 6 [0] m;simp only[↓aD];refine⟨by omega,?_⟩;exact hK1 (N-(i+1)) _ _ (by omega) (by kernel_rfl) ⟨i+1,_,_,_,O,m,by rw[akp hp,hxs],by rw[akp hp,hys],by rw[akp hp,hzs],by omega,by omega,by omega,by omega,by omega,by omega,by omega,O⟩
    ·
     obtain rfl:N=i:=by omega
     obtain⟨hqx,_,_⟩:=Mn hx0 (by omega) h0;obtain⟨hqy,_,_⟩:=Mn hy0 (by omega) h0;obtain⟨hqz,_,_⟩:=Mn hz0 (by omega) h0;apply aJ 2 [0] m;simp only[↓aD];refine cL m 16 aC (by kernel_rfl) ?_;simp only[zy];refine eC 4 [0] ?_;simp only[↓aD,↓Ju,gE,cY,kZ,aa];refine aG (jG O O (by omega) hqx) (eC 4 [0] ?_);simp only[↓aD,↓Ju,gI,cY,kZ,aa];refine aG (jG O O (by omega) hqy) (eC 4 [0] ?_);simp only[↓aD,↓Ju,iX,cY,kZ,aa];refine aG (jG O O (by omega) hqz) (aG (xF O O O) (bC ?_));intro u m;simp only[zz];refine bP m 0 O O O aA (gV O) O ?_;intro u m;simp only[zy,zx,over,zF,zG,aa] at m;refine aM ?_;apply aW 2 [0] m;simp only[↓aD];refine aB aO ?_;replace m:=m.nilO 39 9;apply aL 7 [0] m;simp only[↓aD];refine bX [5,6] [71,72,73,74,75,76,77,78,79,80,81,82,83,84,85,86,87,88,89,90,91,92,93] (fun n vs wl=>∃(i:Nat) (A5:Option Addr) (cap5:Nat),vs=[.slice A5 i cap5,.int .i64 (i:Int)]∧Mem w wl [oI 39 9 A5 i cap5 (((df i).map (aej ps)).flatMap aN),bI g1 [.int .i64 (Dh ps).x,.int .i64 (Dh ps).y,.int .i64 (Dh ps).z] 30]∧(i≤N)∧(n=N-i)) ?_ ?_
     · rw[aq6 htl hxs hys hzs] at m
       exact⟨_,0,none,0,O,m,by omega,O⟩
     · intro n vs wr hI u K2 hK2
       obtain⟨i,A5,cap5,rfl,m,hi,hn⟩:=hI;simp only[zu,zF,zG];apply aJ 8 [0,0] m;simp only[↓aD,kZ];refine bG O ?_ ?_<;>intro hc3
       ·
        obtain⟨p,hp,a,hA,hrowp⟩:=hT.get (i:=i) (by omega);subst hA;have hml:=ji (i+1) h0;obtain⟨q,hq,a2,e2,hrowq⟩:=hT.get (i:=(i+1)%N) hml;cases e2;apply aJ 3 [0] m;simp only[↓aD];refine mh m [false,true] [(0,true),(1,true),(2,true),(3,true),(5,true),(6,true),(7,true),(8,true),(9,true),(10,true),(11,true),(4,true),(12,true),(13,true),(14,true),(15,false),(16,false),(17,true)] aC (by kernel_rfl) (bU (fun _ _ _ _ _ h=>h)) (ol:=?_) ?hol ?_
        case hol=>simp only[zw,zQ,zR];try rfl
        intro u m;refine Pg 3 [] ?_;simp only[↓aD];refine bF (aF cT aA O O (by omega) (by omega) (cQ (ah _))) (Pg 5 [] ?_);simp only[↓aD,kZ];refine⟨by omega,?_⟩;refine bF (cP O O (by omega) aqW) ?_;simp only[zz];refine bF (aF cT aA O O (by omega) (by omega) (cQ (ah _))) ?_;simp only[zz];refine fU O (fun u m=>(show fZ _ _ _ _ (pt p) from (hrowp.ext m.ext).lies aH aA)) ?_;simp only[zz];refine fU O (fun u m=>(show fZ _ _ _ _ (pt q) from (hrowq.ext m.ext).lies aH aA)) ?_;simp only[zz];refine Pg 2 [0] ?_;simp only[↓aD,↓Ju,aS,qT,aa];refine bR (eZ O ?_);intro u g2 e_ h_ k_;replace m:=m.newB e_ h_ k_;refine aM ⟨m.sel [false,false,true],?_⟩;refine bR ?_;simp only[zz];refine bL m 1 O O cH jK O (by decide) O O O (m.b 0 O).rowsO (gB O) (by omega) (by omega) ?_;intro A5 cap5 u m;simp only[zF,zG] at m;rw[show ((df i).map (aej ps)).flatMap aN++_=((df (i+1)).map (aej ps)).flatMap aN by rw[akr htl h0 hp hq];rfl] at m;refine aM ⟨m.sel [false,false,true],?_⟩;refine bF aO (bW ?_);apply aW 6 [0] m;simp only[↓aD];refine⟨by omega,?_⟩;exact hK2 (N-(i+1)) _ _ (by omega) (by kernel_rfl) ⟨i+1,_,_,O,(m.sel [false,true,true]),by omega,O⟩
       ·
        obtain rfl:N=i:=by omega
        apply aJ 7 [] m;simp only[↓aD];exact aT O O ⟨_,O,m.ext,hmid,_,_,_,by rw[hfn,bx,oh,htl],O,by rw[hfn,htl];exact (m.o 0 O)⟩
def Yb(b:Bool):List ai:=[.bool b]
def Vs:List Bool→Nat
 | []=>0
 | b::l=>(if b then 0 else 1)+Vs l
theorem Hy:∀{l:List Bool} {x:Nat},l[x]? = some false→Vs (l.set x true)+1=Vs l
 | b::l,0,h=>by
  cases (show b=false by simpa using h);simp[Vs];omega
 | b::l,x+1,h=>by
  have:=Hy (l:=l) (x:=x) (by simpa using h);simp only[List.set_cons_succ,Vs];omega
 | [],x,h=>by simp at h
theorem jX.overB{bs ns}(h:jX bs ns){v:Nat}{q:Bool}(hv:v<8):Lith.over (lN bs ns) v [.bool q]=lN (bs.set v q) ns:=by
 rw[Es (by rw[h.len];omega),lN,List.set_append_left _ _ (by rw[bx,h.b];exact hv),lN,pc]
theorem aq7{a:Addr}{v:ai}(h:mX w (a.add (n*1)) [v]):w.cell? (a.add n)=some v:=by
 have:=h 0 v rfl;rw[lz] at this;exact this
theorem anW{sn:List Bool}(h:x<sn.length):over (sn.map bn) x [.bool true]=(sn.set x true).map bn:=by
 rw[Es (by rw[bx];exact h),pc]
theorem jX.nxE{bs ns}(h:jX bs ns){p:Nat}(hp:p<24):(lN bs ns)[8+p]? = some (.int .i64 (ns.getD p (-1)))∧-1≤ns.getD p (-1)∧ns.getD p (-1)<24:=by
 have hl:p<ns.length:=by rw[h.n];exact hp
 rw[eo,am hl];refine⟨?_,h.r _ (gl _)⟩;rw[lN,List.getElem?_append_right (by rw[bx,h.b];omega),bx,h.b,Nat.add_sub_cancel_left,fb,am hl];rfl
def Yc(ins:List Bool)(vt:P3→Bool):Prop:=∀x y z:Nat,x≤4→y≤4→z≤4→ins[(z*5+y)*5+x]? = some (vt ⟨x,y,z⟩)
def inF(vt:P3→Bool)(cx cy cz v:Nat):Bool:=vt ⟨(cx+v%2:Nat),(cy+v / 2%2:Nat),(cz+v / 4:Nat)⟩
def vM(vt:P3→Bool)(cx cy cz:Nat):List Bool:=(df 8).map (inF vt cx cy cz)
def bsF(f:Nat→Bool)(v:Nat):List Bool:=(df v).map f++cl (8-v) false
def nsF(e:Nat):List Int:=cl e (-1)++cl (24-e) 0
theorem aq8{f:Nat→Bool}{v:Nat}(hv:v≤8):jX (bsF f v) (cl 24 0):=⟨by simp[bsF];omega,rfl,by decide⟩
theorem anX{f:Nat→Bool}{v:Nat}(hv:v<8):(bsF f v).set v (f v)=bsF f (v+1):=by
 unfold bsF;rw[kz _ _ (by simp),bx,oh,Nat.sub_self,show 8-v=8-(v+1)+1 by omega,nh,gh,im,ct,cq];rfl
theorem atc   : bsF (inF vt cx cy cz) 8=vM vt cx cy cz:=by simp[bsF,vM]
theorem aks{bs:List Bool}{e:Nat}(hb:bs.length=8)(he:e≤24):jX bs (nsF e):=⟨hb,by simp[nsF];omega,fun x hx=>by
 rcases bi.1 hx with h | h <;> (rw[List.eq_of_mem_replicate h];decide)⟩
theorem anY{e:Nat}(he:e<24):(nsF e).set e (-1)=nsF (e+1):=by
 unfold nsF;rw[kz _ _ (by simp),List.length_replicate,Nat.sub_self,show 24-e=24-(e+1)+1 by omega,nh,gh,List.replicate_succ',cq];rfl
def nxA(I:List Bool)(a:Nat):List Int:=(df a).foldl (fun nx a=>Js I (Js I nx a false) a true) (cl 24 (-1))
theorem akt(I:List Bool)(a:Nat):nxA I (a+1)=Js I (Js I (nxA I a) a false) a true:=by
 unfold nxA;rw[im,gz];rfl
theorem atd{sn:List Bool}{f:Nat}(h0:0≤nx.getD x (-1))(h1:sn.getD x false=false):rH nx (f+1) sn x=(x::(rH nx f (sn.set x true) (nx.getD x (-1)).toNat).1,(rH nx f (sn.set x true) (nx.getD x (-1)).toNat).2):=by
 rw[rH,if_pos ⟨h0,h1⟩]
theorem api{nx:List Int}{sn:List Bool}{x:Nat}(h:¬(0≤nx.getD x (-1)∧sn.getD x false=false)):∀f,rH nx f sn x=([],sn)
 | 0=>rfl
 | f+1=>by rw[rH,if_neg h]
def Hm(nx:List Int)(e:Nat):List (List Nat) × List Bool:=(df e).foldl (aqS nx) ([],cl 24 false)
theorem ach(nx:List Int)(e:Nat):Hm nx (e+1)=aqS nx (Hm nx e) e:=by
 unfold Hm;rw[im,gz];rfl
theorem apj{e:Nat}(h:(rH nx 24 (Hm nx e).2 e).1≠[]):Hm nx (e+1)=((Hm nx e).1++[(rH nx 24 (Hm nx e).2 e).1],(rH nx 24 (Hm nx e).2 e).2):=by
 rw[ach];show ((if (rH nx 24 (Hm nx e).2 e).1=[] then (Hm nx e).1 else (Hm nx e).1++[(rH nx 24 (Hm nx e).2 e).1]),(rH nx 24 (Hm nx e).2 e).2)=_
 rw[if_neg h]
theorem apk{e:Nat}(h:(rH nx 24 (Hm nx e).2 e).1=[]):Hm nx (e+1)=((Hm nx e).1,(rH nx 24 (Hm nx e).2 e).2):=by
 rw[ach];show ((if (rH nx 24 (Hm nx e).2 e).1=[] then (Hm nx e).1 else (Hm nx e).1++[(rH nx 24 (Hm nx e).2 e).1]),(rH nx 24 (Hm nx e).2 e).2)=_
 rw[if_pos h]
def ara(c:P3)(l:List Nat):List T3:=Jt (l.map (Xw c 524288))
theorem aku{A:Option Addr}(w:aj)(hF:vJ Yb 1 w A 125 ins)(hV:Yc ins vt)(hx:cx≤3)(hy:cy≤3)(hz:cz≤3):dQ prog 143 [.agg #[.int .i64 2,.slice A 125 ci],.agg #[.int .i64 (cx:Int),.int .i64 (cy:Int),.int .i64 (cz:Int)]] w (fun v w'=>((wF (vM vt cx cy cz) ⟨cx,cy,cz⟩ 524288).length≤24∧∀t∈wF (vM vt cx cy cz) ⟨cx,cy,cz⟩ 524288,SmT t)∧SL 39 9 ((wF (vM vt cx cy cz) ⟨cx,cy,cz⟩ 524288).flatMap aN) (wF (vM vt cx cy cz) ⟨cx,cy,cz⟩ 524288).length w v w'):=by
 refine⟨bK func143 (by kernel_rfl),?_⟩;have m:=Mem.refl w;have hIl:(vM vt cx cy cz).length=8:=by simp[vM]
 go_enter func143,ntmps143
 apply jP 9 [] m;simp only[↓aD,aqD,aa];intro g1 g2 u m;apply Rp 1 [] m;simp only[↓aD];intro g3 u m;apply aW 8 [0] m;simp only[↓aD];refine bX [6] [17,18,19,20,21,22,23,24,25,26,27,28,29,30,31,32,33,34,35,36,37,38,39,40,41,42,43,44,45,46,47,48] (fun n vs wl=>∃(v:Nat),vs=[.int .i64 (v:Int)]∧Mem w wl [bI g3 (lN (bsF (inF vt cx cy cz) v) (cl 24 0)) 264,bI g2 [.int .i64 (cx:Int),.int .i64 (cy:Int),.int .i64 (cz:Int)] 36,bI g1 [.int .i64 2,.slice A 125 ci] 139]∧(v≤8)∧(n=8-v)) ?_ ?_
 ·
  exact⟨_,0,O,m,by omega,O⟩
 · intro n vs wr hI u K1 hK1
   obtain⟨v,rfl,m,hv,hn⟩:=hI;simp only[zu,zF,zG];apply aJ 6 [0,0] m;simp only[↓aD];refine bG O ?_ ?_<;>intro hc1
   ·
    have hv8:v<8:=by omega
    apply aJ 3 [] m;simp only[↓aD];have hc:=aq8 (f:=(inF vt cx cy cz)) (v:=v) (by omega);obtain⟨bq,hbq,a,hA,hrow⟩:=hF.get (i:=((cz+v / 4)*5+(cy+v / 2%2))*5+(cx+v%2)) (by omega);subst hA;obtain rfl:bq=inF vt cx cy cz v:=fq (hbq.symm.trans (hV (cx+v%2) (cy+v / 2%2) (cz+v / 4) (by omega) (by omega) (by omega)));refine gc (cL m 28 aC (by kernel_rfl) ?_);simp only[zy];refine eC 9 [2,2,1] ?_;simp only[↓aD,sE,Nz,Jk,cY,eW,aa,ad,ag];refine⟨by omega,?_⟩;refine aG (lQ O O (Of hv8)) (eC 4 [1] ?_);simp only[↓aD,eW,cY,ad,ag,aa];refine⟨by omega,?_⟩;refine aG (lD O O (by omega) aeh) (aG (lQ O O (Of (k:=v / 2) (by omega))) ?_);refine eC 4 [1] ?_;simp only[↓aD,eW,cY,ad,ag,aa];refine⟨by omega,?_⟩;refine aG (lD O O (by omega) Te) ?_;simp only[zz];refine aG (fB O O (bM (by omega) (by omega))) ?_;simp only[zz];refine eX O O (xP (x:=cx+v%2) (y:=cy+v / 2%2) (z:=cz+v / 4) (by omega) (by omega) (by omega)) ?_;simp only[zz];refine aG (aF Oc eK O O (by omega) (by omega) (jI (ah _))) ?_;simp only[zz];refine ql O (fun u m=>(lies1 (aq7 (hrow.ext m.ext)) pB)) ?_;simp only[zz];refine aG (dB O) (eC 1 [] ?_);simp only[↓aD,qG,aa];refine aG (aK zY eK O O (by omega) (by omega) (fC (ah _))) (bC ?_);intro u m;simp only[zz];refine cW m 0 O O O eK (by rw[hc.len];show _+1≤_;omega) ⟨rfl,rfl⟩ ?_;intro u m;simp only[zz] at m;rw[hc.overB hv8,anX hv8] at m;refine aM ?_;apply aW 6 [0] m;simp only[↓aD];refine⟨by omega,?_⟩;exact hK1 (8-(v+1)) _ _ (by omega) (by kernel_rfl) ⟨v+1,O,m,by omega,O⟩
   ·
    obtain rfl:v=8:=by omega
    rw[atc,show cl 24 0=nsF 0 from rfl] at m;apply aJ 7 [0] m;simp only[↓aD];refine bX [7] [49,50,51,52,53,54,55,56,57] (fun n vs wl=>∃(e:Nat),vs=[.int .i64 (e:Int)]∧Mem w wl [bI g3 (lN (vM vt cx cy cz) (nsF e)) 264,bI g2 [.int .i64 (cx:Int),.int .i64 (cy:Int),.int .i64 (cz:Int)] 36,bI g1 [.int .i64 2,.slice A 125 ci] 139]∧(e≤24)∧(n=24-e)) ?_ ?_
    ·
     exact⟨_,0,O,m,by omega,O⟩
    · intro n vs wr hI u K2 hK2
      obtain⟨e,rfl,m,he,hn⟩:=hI;simp only[zu,zF,zG];apply aJ 6 [0,0] m;simp only[↓aD];refine bG O ?_ ?_<;>intro hc2
      ·
       have he24:e<24:=by omega
       apply aJ 3 [] m;simp only[↓aD];have hc:=aks hIl (show e≤24 by omega);apply aW 5 [0] m;simp only[↓aD,vF,aa];refine aB (aK Gz aU O O (by omega) (by omega) Th) ?_;simp only[zz];refine cW m 0 O O O aU (by rw[hc.len];show _+1≤_;omega) ⟨rfl,rfl⟩ ?_;intro u m;simp only[zz] at m;rw[hc.over he24,anY he24] at m;apply aL 7 [0] m;simp only[↓aD];refine⟨by omega,?_⟩;exact hK2 (24-(e+1)) _ _ (by omega) (by kernel_rfl) ⟨e+1,O,m,by omega,O⟩
      ·
       obtain rfl:e=24:=by omega
       rw[show nsF 24=nxA (vM vt cx cy cz) 0 from rfl] at m;apply aJ 7 [0] m;simp only[↓aD];refine bX [8] [58,59,60,61,62,63,64,65,66,67] (fun n vs wl=>∃(a:Nat),vs=[.int .i64 (a:Int)]∧Mem w wl [bI g3 (lN (vM vt cx cy cz) (nxA (vM vt cx cy cz) a)) 264,bI g2 [.int .i64 (cx:Int),.int .i64 (cy:Int),.int .i64 (cz:Int)] 36,bI g1 [.int .i64 2,.slice A 125 ci] 139]∧(jX (vM vt cx cy cz) (nxA (vM vt cx cy cz) a))∧(a≤3)∧(n=3-a)) ?_ ?_
       ·
        exact⟨_,0,O,m,aks hIl (e:=24) (by decide),by omega,O⟩
       · intro n vs wr hI u K3 hK3
         obtain⟨a,rfl,m,hc,ha,hn⟩:=hI;simp only[zu,zF,zG];apply aJ 6 [0,0] m;simp only[↓aD];refine bG O ?_ ?_<;>intro hc3
         ·
          have ha3:a<3:=by omega
          apply aJ 7 [0] m;simp only[↓aD];replace m:=m.pull 0 O;simp only[dY,dZ,zF,zG] at m;replace m:=m.pack1;refine kK O O (Ya m hc (by omega)) ?_;rintro v u ⟨m,hc2⟩;simp only[zz];replace m:=Mem.unpack [_] m;simp only[cn,b_] at m;apply aL 4 [0] m;simp only[↓aD];replace m:=m.pull 0 O;simp only[dY,dZ,zF,zG] at m;replace m:=m.pack1;refine kK O O (Ya m hc2 (by omega)) ?_;rintro v u ⟨m,hc3⟩;simp only[zz];replace m:=Mem.unpack [_] m;simp only[cn,b_] at m;apply aL 7 [0] m;simp only[↓aD];refine⟨by omega,?_⟩;rw[←akt] at m hc3;exact hK3 (3-(a+1)) _ _ (by omega) (by kernel_rfl) ⟨a+1,O,m,hc3,by omega,O⟩
         ·
          obtain rfl:a=3:=by omega
          rw[show nxA (vM vt cx cy cz) 3=nG (vM vt cx cy cz) from rfl] at m hc;apply aJ 6 [2,0] m;simp only[↓aD,Jk,cY,aa,Int.reduceSub];refine⟨by omega,?_⟩;refine aB (qQ O O (by omega) (show IntKind.i64.wrap (1*2^min (lc 19) IntKind.i64.bits)=524288 from by decide)) ?_;apply aL 4 [0] m;simp only[↓aD];refine aB aO ?_;replace m:=m.nilO 39 9;apply aL 4 [] m;simp only[↓aD,aqG,aa];apply Rp 1 [] m;simp only[↓aD,aqF];intro g4 u m;apply Rp 1 [0] m;simp only[↓aD,aqE,aa];intro u m;apply aW 7 [0] m;simp only[↓aD];refine bX [10,12] [13,14,73,74,75,76,77,78,79,80,81,82,83,84,85,86,87,88,89,90,91,92,93,94,95,96,97,98,99,100,101,102,103,104,105,106,107,108,109,110,111,112] (fun n vs wl=>∃(e n10:Nat) (ts:List T3) (sn0:List Bool) (A10:Option Addr) (cap10:Nat),vs=[.slice A10 n10 cap10,.int .i64 (e:Int)]∧Mem w wl [bI g4 (sn0.map bn) 266,oI 39 9 A10 n10 cap10 (ts.flatMap aN),bI g3 (lN (vM vt cx cy cz) (nG (vM vt cx cy cz))) 264,bI g2 [.int .i64 (cx:Int),.int .i64 (cy:Int),.int .i64 (cz:Int)] 36]∧(sn0.length=24)∧(sn0=(Hm (nG (vM vt cx cy cz)) e).2)∧(ts=(Hm (nG (vM vt cx cy cz)) e).1.flatMap (ara ⟨cx,cy,cz⟩))∧(ts.length=n10)∧(∀t∈ts,SmT t)∧(n10+Vs sn0≤24)∧(e≤24)∧(n=24-e)) ?_ ?_
          ·
           exact⟨_,0,0,[],cl 24 false,none,0,O,(m.sel [true,true,true,true,false]),O,O,O,O,by simp,by decide,by omega,O⟩
          · intro n vs wr hI u K4 hK4
            obtain⟨e,n10,ts,sn0,A10,cap10,rfl,m,hsn,hse,hte,hlt,hts,hcn,he,hn⟩:=hI;simp only[zu,zF,zG];apply aJ 6 [0,0] m;simp only[↓aD];refine bG O ?_ ?_<;>intro hc4
            ·
             have he24:e<24:=by omega
             apply aJ 5 [0] m;simp only[↓aD];refine aB aO ?_;replace m:=m.nilO 30 3;apply aL 8 [0] m;simp only[↓aD];refine bX [13,14] [78,79,80,81,82,83,84,85,86,87,88,89,90,91,92,93,94,95,96,97,98,99,100,101,102,103,104,105] (fun n vs wl=>∃(x n13 f:Nat) (dn:List Nat) (ps:List P3) (sn:List Bool) (A13:Option Addr) (cap13:Nat),vs=[.slice A13 n13 cap13,.int .i64 (x:Int)]∧Mem w wl [oI 30 3 A13 n13 cap13 (ps.flatMap dF),bI g4 (sn.map bn) 266,oI 39 9 A10 n10 cap10 (ts.flatMap aN),bI g3 (lN (vM vt cx cy cz) (nG (vM vt cx cy cz))) 264,bI g2 [.int .i64 (cx:Int),.int .i64 (cy:Int),.int .i64 (cz:Int)] 36]∧(sn.length=24)∧(ps=dn.map (Xw ⟨cx,cy,cz⟩ 524288))∧(dn++(rH (nG (vM vt cx cy cz)) f sn x).1=(rH (nG (vM vt cx cy cz)) 24 (Hm (nG (vM vt cx cy cz)) e).2 e).1)∧((rH (nG (vM vt cx cy cz)) f sn x).2=(rH (nG (vM vt cx cy cz)) 24 (Hm (nG (vM vt cx cy cz)) e).2 e).2)∧(Vs sn≤f)∧(ps.length=n13)∧(∀p∈ps,Sm p)∧(n10+n13+Vs sn≤24)∧(x<24)∧(n=Vs sn)) ?_ ?_
             ·
              exact⟨_,e,0,24,[],[],sn0,none,0,O,m,hsn,O,by rw[hse];rfl,by rw[hse],by omega,rfl,by simp,by omega,he24,rfl⟩
             · intro n vs wr hI u K5 hK5
               obtain⟨x,n13,f,dn,ps,sn,A13,cap13,rfl,m,hsn,hpd,hr1,hr2,hcf,hpl,hps,hcn,hx24,hn⟩:=hI;obtain⟨q,hqd⟩:∃q,q=(nG (vM vt cx cy cz)).getD x (-1):=⟨_,rfl⟩
               obtain⟨hq,hq1⟩:=hc.nxE hx24;rw[←hqd] at hq hq1;obtain⟨y,hy0⟩:∃y,sn[x]? = some y:=⟨_,am (by omega)⟩
               have hyd:sn.getD x false=y:=by rw[eo,hy0];rfl
               have hym:(sn.map bn)[x]? = some (.bool y):=by rw[fb,hy0];rfl
               simp only[zu,zF,zG];apply aJ 2 [] m;simp only[↓aD];rcases (show ¬0≤q∨(0≤q∧y=true)∨(0≤q∧y=false) by cases y <;> simp <;> omega) with hq0 | ⟨hq0,rfl⟩ | ⟨hq0,rfl⟩
               ·
                have hcs:=api (nx:=(nG (vM vt cx cy cz))) (sn:=sn) (x:=x) (by rw[←hqd,hyd];exact fun h=>hq0 h.1) f;rw[hcs] at hr1 hr2;rw[fa] at hr1;apply aW 5 [0] m;simp only[↓aD,vF,aa];refine aB (aK Gz aU O O (by omega) (by omega) Th) ?_;simp only[zz];refine aR O (lies1 ((m.b 3 O).cell hq) bD) ?_;simp only[zz];apply aL 16 [2,0,0] m;simp only[↓aD,kZ];refine⟨by omega,?_⟩;refine bG O ?_ ?_<;>intro hc6
                ·
                 have hne:(rH (nG (vM vt cx cy cz)) 24 (Hm (nG (vM vt cx cy cz)) e).2 e).1≠[]:=fun h=>by rw[←hr1] at h;subst h;rw[hpd] at hpl;simp at hpl;omega
                 have hsy:=apj hne;apply aJ 3 [0] m;simp only[↓aD];refine bJ O O (acg _ ((m.o 0 O).lat (enc:=dF) (fun _=>rfl) (by decide)) (by omega) (by omega) hps) ?_;rintro v u e_ ⟨hmid,A14,cap14,n14,hn14,rfl,h_⟩;replace m:=m.newO e_ h_;have hfl:=afK (ps:=ps);simp only[zz];refine bL m 3 O O cH jK O (by decide) O O (m.o 0 O).own.1 (m.o 0 O).row (xB _) (by omega) (by omega) ?_;intro A10 cap10 u m;simp only[zF,zG] at m;rw[←ay] at m;apply aL 8 [0] m;simp only[↓aD];refine⟨by omega,?_⟩;exact hK4 (24-(e+1)) _ _ (by omega) (by kernel_rfl) ⟨e+1,_,_,_,_,_,O,(m.sel [false,false,true,true,true,true]),hsn,by rw[hsy];exact hr2,by rw[hsy,ay,←hte,jw,ara,←hr1,←hpd],by rw[aw];omega,fun t ht=>(bi.1 ht).elim (hts t) (akq hps hmid t),by omega,by omega,rfl⟩
                ·
                 have hne:(rH (nG (vM vt cx cy cz)) 24 (Hm (nG (vM vt cx cy cz)) e).2 e).1=[]:=by rw[←hr1];exact et (by rw[hpd,bx] at hpl;omega)
                 have hsy:=apk hne;apply aJ 7 [0] m;simp only[↓aD];refine⟨by omega,?_⟩;exact hK4 (24-(e+1)) _ _ (by omega) (by kernel_rfl) ⟨e+1,_,_,_,_,_,O,(m.sel [false,true,true,true,true]),hsn,by rw[hsy];exact hr2,by rw[hsy];exact hte,hlt,hts,by omega,by omega,O⟩
               ·
                have hcs:=api (nx:=(nG (vM vt cx cy cz))) (sn:=sn) (x:=x) (by rw[←hqd,hyd];exact fun h=>absurd h.2 (by decide)) f;rw[hcs] at hr1 hr2;rw[fa] at hr1;apply aW 5 [0] m;simp only[↓aD,vF,aa];refine aB (aK Gz aU O O (by omega) (by omega) Th) ?_;simp only[zz];refine aR O (lies1 ((m.b 3 O).cell hq) bD) ?_;simp only[zz];apply aL 3 [1,0] m;simp only[↓aD];refine⟨by omega,?_⟩;refine eE O (aB (aK underlying266 eK O O (by omega) (by omega) (fC (ah _))) (eE O ?_));simp only[zz];refine aR O (lies1 ((m.b 1 O).cell hym) pB) ?_;simp only[zz];apply aL 11 [0,0] m;simp only[↓aD,kZ,fi,fh];refine bG O ?_ ?_<;>intro hc6
                ·
                 have hne:(rH (nG (vM vt cx cy cz)) 24 (Hm (nG (vM vt cx cy cz)) e).2 e).1≠[]:=fun h=>by rw[←hr1] at h;subst h;rw[hpd] at hpl;simp at hpl;omega
                 have hsy:=apj hne;apply aJ 3 [0] m;simp only[↓aD];refine bJ O O (acg _ ((m.o 0 O).lat (enc:=dF) (fun _=>rfl) (by decide)) (by omega) (by omega) hps) ?_;rintro v u e_ ⟨hmid,A14,cap14,n14,hn14,rfl,h_⟩;replace m:=m.newO e_ h_;have hfl:=afK (ps:=ps);simp only[zz];refine bL m 3 O O cH jK O (by decide) O O (m.o 0 O).own.1 (m.o 0 O).row (xB _) (by omega) (by omega) ?_;intro A10 cap10 u m;simp only[zF,zG] at m;rw[←ay] at m;apply aL 8 [0] m;simp only[↓aD];refine⟨by omega,?_⟩;exact hK4 (24-(e+1)) _ _ (by omega) (by kernel_rfl) ⟨e+1,_,_,_,_,_,O,(m.sel [false,false,true,true,true,true]),hsn,by rw[hsy];exact hr2,by rw[hsy,ay,←hte,jw,ara,←hr1,←hpd],by rw[aw];omega,fun t ht=>(bi.1 ht).elim (hts t) (akq hps hmid t),by omega,by omega,rfl⟩
                ·
                 have hne:(rH (nG (vM vt cx cy cz)) 24 (Hm (nG (vM vt cx cy cz)) e).2 e).1=[]:=by rw[←hr1];exact et (by rw[hpd,bx] at hpl;omega)
                 have hsy:=apk hne;apply aJ 7 [0] m;simp only[↓aD];refine⟨by omega,?_⟩;exact hK4 (24-(e+1)) _ _ (by omega) (by kernel_rfl) ⟨e+1,_,_,_,_,_,O,(m.sel [false,true,true,true,true]),hsn,by rw[hsy];exact hr2,by rw[hsy];exact hte,hlt,hts,by omega,by omega,O⟩
               ·
                apply aW 5 [0] m;simp only[↓aD,vF,aa];refine aB (aK Gz aU O O (by omega) (by omega) Th) ?_;simp only[zz];refine aR O (lies1 ((m.b 3 O).cell hq) bD) ?_;simp only[zz];apply aL 3 [1,0] m;simp only[↓aD];refine⟨by omega,?_⟩;refine eE O (aB (aK underlying266 eK O O (by omega) (by omega) (fC (ah _))) (eE O ?_));simp only[zz];refine aR O (lies1 ((m.b 1 O).cell hym) pB) ?_;simp only[zz];apply aL 10 [0] m;simp only[↓aD,fi,fh];refine aB (aK underlying266 eK O O (by omega) (by omega) (fC (ah _))) ?_;simp only[zz];refine cW m 1 O O O eK (by rw[bx];show _+1≤_;omega) ⟨rfl,rfl⟩ ?_;intro u m;simp only[zz] at m;rw[anW (by omega)] at m;apply aL 6 [4,0] m;simp only[↓aD,vB];refine kO m O O (anV (c:=⟨cx,cy,cz⟩) (e:=x) (show 0≤(cx:Int)∧(cx:Int)≤3 by omega) (show 0≤(cy:Int)∧(cy:Int)≤3 by omega) (show 0≤(cz:Int)∧(cz:Int)≤3 by omega) hx24) ?_;intro u m;simp only[zz];refine mJ O ?_;intro u g5 e_ h_ k_;replace m:=m.newB e_ h_ k_;simp only[zz];refine bL m 1 O O cT oV O (by decide) O O O (m.b 0 O).rowsO (gB O) (by omega) (by omega) ?_;intro A13 cap13 u m;simp only[zF,zG] at m;rw[show ps.flatMap dF++_=(ps++[Xw ⟨cx,cy,cz⟩ 524288 x]).flatMap dF by rw[ay];rfl] at m;apply aL 8 [0] m;simp only[↓aD,vF,aa];refine aB (aK Gz aU O O (by omega) (by omega) Th) ?_;simp only[zz];refine aR O (lies1 ((m.b 4 O).cell hq) bD) ?_;simp only[zz];apply aL 2 [0] m;simp only[↓aD];have hcs:=Hy hy0;obtain⟨f2,rfl⟩:∃f2,f=f2+1:=⟨f-1,by omega⟩
                rw[atd (by rw[←hqd];exact hq0) hyd,←hqd] at hr1 hr2;obtain⟨z,hz⟩:∃z:Nat,q=z:=⟨q.toNat,by omega⟩
                rw[hz];rw[hz,ah] at hr1 hr2;exact hK5 (Vs (sn.set x true)) _ _ (by omega) (by kernel_rfl) ⟨z,_,f2,dn++[x],_,_,_,_,O,(m.sel [false,true,true,true,true,true]),by rw[gu];exact hsn,by rw[hpd,ct];rfl,by rw[cq];exact hr1,hr2,by omega,by rw[aw,hpl];rfl,fun p hp=>(bi.1 hp).elim (hps p) fun h=>by cases bf.1 h;exact aq4 hx24 (show 0≤(cx:Int)∧(cx:Int)≤3 by omega) (show 0≤(cy:Int)∧(cy:Int)≤3 by omega) (show 0≤(cz:Int)∧(cz:Int)≤3 by omega),by omega,by omega,O⟩
            ·
             obtain rfl:e=24:=by omega
             apply aJ 7 [] m;simp only[↓aD];refine aT O O ?_;try simp only[zD,zE]
             exact⟨_,O,m.ext,by rw[show wF (vM vt cx cy cz) ⟨cx,cy,cz⟩ 524288=ts from hte.symm];exact⟨⟨by omega,hts⟩,_,_,_,hlt.symm,O,(m.o 1 O)⟩⟩
theorem anZ(hb:Jy vt){x y z:Int}(h:x=0∨y=0∨z=0∨x=4∨y=4∨z=4):vt ⟨x,y,z⟩=false:=by
 rcases h with h | h | h | h | h | h
 · exact hb _ 0 (by decide) (.inl h)
 · exact hb _ 1 (by decide) (.inl h)
 · exact hb _ 2 (by decide) (.inl h)
 · exact hb _ 0 (by decide) (.inr h)
 · exact hb _ 1 (by decide) (.inr h)
 · exact hb _ 2 (by decide) (.inr h)
theorem ate(h:Yc ins vt)(hk:k<125){b:Bool}(hb:ins[k]? = some b):b=vt ⟨((k%5:Nat):Int),((k / 5%5:Nat):Int),((k / 5 / 5:Nat):Int)⟩:=by
 have:=h (k%5) (k / 5%5) (k / 5 / 5) (by omega) (by omega) (by omega);rw[show (k / 5 / 5*5+k / 5%5)*5+k%5=k by omega,hb] at this;exact fq this
def aci(ins:List Bool):Prop:=ins.length=125∧∃vt,Yc ins vt∧Jy vt
theorem aci.set(h:aci ins){y z:Nat}{c:Bool}(hx:1≤x∧x≤3)(hy:1≤y∧y≤3)(hz:1≤z∧z≤3):aci (ins.set ((z*5+y)*5+x) c):=by
 obtain⟨hl,vt,hf,hb⟩:=h;refine⟨by rw[gu];exact hl,fun p=>if p=⟨x,y,z⟩ then c else vt p,fun a b d ha hb' hd=>?_,fun p k hk hp=>?_⟩
 · by_cases e:a=x∧b=y∧d=z
   · obtain⟨rfl,rfl,rfl⟩:=e
     rw[List.getElem?_set_self (by omega)];exact congrArg some (if_pos O).symm
   · rw[List.getElem?_set_ne (by omega)]
     refine (hf a b d ha hb' hd).trans (congrArg some (if_neg fun k=>e ?_).symm);have k1:=congrArg P3.x k;have k2:=congrArg P3.y k;have k3:=congrArg P3.z k;simp only at k1 k2 k3;omega
 · have hn:p≠⟨x,y,z⟩:=fun e=>by
    subst e;rcases k with _ | _ | _ | k <;> simp[bH] at hp <;> omega
   show (if p=⟨x,y,z⟩ then c else vt p)=false
   rw[if_neg hn];exact hb p k hk hp
theorem atf:aci (cl 125 false):=⟨by simp,fun _=>false,fun x y z hx hy hz=>by rw[List.getElem?_replicate,if_pos (by omega)],fun _ _ _ _=>rfl⟩
def akv(z:Int):List ai:=[.int .i64 z]
theorem arb{ds:List Deferred}{Q:Exit→Act→aj→Prop}{w w0:aj}{is:List It}{c:Code}{a:Act}{l:Nat→Nat→List ai}{c1:List ai}{c2:Nat→List ai}{T1 T2:TypeId}(m:Mem w0 w is)(h1:c.wp prog (fun e a' u=>e=.normal∧∃g k,a'=Fr (l g k) ds∧Mem w0 u (bI k (c2 g) T2::bI g c1 T1::is)) a w)
 (h2:∀g k u,Mem w0 u (bI k (c2 g) T2::bI g c1 T1::is)→Q .normal (Fr (l g k) ds) u):c.wp prog Q a w:=by
 refine Code.wp_mono ?_ h1;rintro e a' u ⟨rfl,g,k,rfl,m'⟩;exact h2 g k u m'
theorem aaw{i:Nat}{c:Bool}(h:i<ins.length):over (ins.map bn) i [.bool c]=(ins.set i c).map bn:=by
 rw[Es (by rw[bx];exact h),pc]
theorem ahd{g:Nat}{t:TypeId}(h:fR w g (ins.map bn) t)(hl:ins.length=n):vJ Yb 1 w (some ⟨g,0,none⟩) n ins:=⟨hl,fun i x hx=>⟨_,rfl,fun j u hj=>by
 have h1:j=0:=by
  have:=(ap.1 hj).1;simp[Yb] at this;omega
 subst h1;cases hj;rw[eD,eD,Nat.zero_add,lz,Nat.add_zero];exact h.cell (by rw[fb,hx];rfl)⟩⟩
theorem aek{A:Option Addr}(w:aj)(hF:vJ Yb 1 w A 125 ins)(hV:Yc ins vt)(hB:Jy vt):dQ prog 142 [.agg #[.int .i64 2,.slice A 125 ci]] w (fun v _=>v=.bool true):=by
 refine⟨bK func142 (by kernel_rfl),?_⟩;have m:=Mem.refl w
 go_enter func142,ntmps142
 apply jP 22 [0,2,0,2] m;simp only[↓aD,Jk,cY,aa];intro g1;refine⟨by omega,?_⟩;intro u m;apply aW 1 [0,0] m;simp only[↓aD,cY];refine aB (qQ O O (by omega) Tg) ?_;apply aL 24 [0,2,0] m;simp only[↓aD,sE,Nz,ao6,ak,aa,Int.reduceMul];refine⟨by omega,?_⟩;refine bX [4] [2,5,6,7,8,30,31,32,33,34,35,36,37,38,39,40,41,42,43,44,45,46,47,48,49,50,51,52,53,54,55,56,57,58,59,60,61,62,63,64,65,66,67,68,69,70,71,72,73,74,75,76,77,78,79,80,81,82,83,84,85] (fun n vs wl=>∃(k:Nat),vs=[.int .i64 (k:Int)]∧Mem w wl [bI g1 [.int .i64 2,.slice A 125 ci] 139]∧(k≤125)∧(n=125-k)) ?_ ?_
 ·
  exact⟨_,0,O,m,by omega,O⟩
 · intro n vs wr hI u K1 hK1
   obtain⟨k,rfl,m,hk,hn⟩:=hI;simp only[zu,zF,zG];apply aJ 9 [0,0,0] m;simp only[↓aD,sE,Nz,ao6,aa];refine bG O ?_ ?_<;>intro hc3
   ·
    obtain⟨bq,hbq,a,hA,hrow⟩:=hF.get (i:=k) (by omega);subst hA;apply aJ 7 [0] m;simp only[↓aD];refine aB (cP O O (by omega) (show ((k%5:Nat):Int)=_ from O)) ?_;apply aL 6 [0] m;simp only[↓aD];refine aB (jG O O (by omega) (show IntKind.i64.wrap ((k / 5:Nat):Int)=_ from bM (by omega) (by omega))) ?_;apply aL 1 [0] m;simp only[↓aD];refine aB (cP O O (by omega) (show ((k / 5%5:Nat):Int)=_ from O)) ?_;apply aL 6 [0] m;simp only[↓aD];refine aB (jG O O (by omega) (show IntKind.i64.wrap ((k / 5:Nat):Int)=_ from bM (by omega) (by omega))) ?_;apply aL 1 [0] m;simp only[↓aD];refine aB (jG O O (by omega) (show IntKind.i64.wrap ((k / 5 / 5:Nat):Int)=_ from bM (by omega) (by omega))) ?_;apply aL 7 [0,0] m;simp only[↓aD];refine bB O (fun hb=>aI) (bB O (fun hb=>uJ (aY hb O) O) (aB (cE O O O) ?_));apply aL 1 [0] m;simp only[↓aD];refine bB O (fun hb=>aI) (bB O (fun hb=>uJ (aY hb O) O) (aB (cE O O O) ?_));apply aL 1 [0] m;simp only[↓aD];refine bB O (fun hb=>aI) (bB O (fun hb=>aI) (bB O (fun hb=>Aw (m:=5) (n:=1) (r:=4) (aY hb O) O (by decide)) (bB O (fun hb=>uJ (aY hb O) (aY hb O)) ?_)));simp only[zz];refine aB (cE O O O) ?_;apply aL 1 [0] m;simp only[↓aD];refine bB O (fun hb=>aI) (bB O (fun hb=>aI) (bB O (fun hb=>Aw (m:=5) (n:=1) (r:=4) (aY hb O) O (by decide)) (bB O (fun hb=>uJ (aY hb O) (aY hb O)) ?_)));simp only[zz];refine aB (cE O O O) ?_;apply aL 1 [0] m;simp only[↓aD];refine bB O (fun hb=>aI) (bB O (fun hb=>aI) (bB O (fun hb=>Aw (m:=5) (n:=1) (r:=4) (aY hb O) O (by decide)) (bB O (fun hb=>uJ (aY hb O) (aY hb O)) ?_)));simp only[zz];refine aB (cE O O O) ?_;apply aL 7 [0,0] m;simp only[↓aD,sE,Nz,aa];refine aB (aF Oc eK O O (by omega) (by omega) (jI (ah _))) ?_;simp only[zz];refine aR O (lies1 (aq7 (hrow.ext m.ext)) pB) ?_;simp only[zz];apply aL 1 [0] m;simp only[↓aD];refine dA O (fun hb=>aI) (aB (cC O O O) ?_);apply aL 1 [0] m;simp only[↓aD];refine dK O ?_ ?_<;>intro hc4
    ·
     exfalso;simp only[be,ep,decide_eq_true_eq] at hc4;obtain⟨h1,h2⟩:=hc4;rw[ate hV (by omega) hbq,anZ hB (by omega)] at h1;cases h1
    ·
     apply aJ 7 [0] m;simp only[↓aD];refine⟨by omega,?_⟩;exact hK1 (125-(k+1)) _ _ (by omega) (by kernel_rfl) ⟨k+1,O,m,by omega,O⟩
   ·
    apply aJ 6 [] m;simp only[↓aD];exact aT O O ⟨_,O,m.ext,O⟩
theorem ael{A:Option Addr}{zs:List Int}(w:aj)(hL:vJ akv 1 w A N zs)(hI:∀z∈zs,sP z):dQ prog 84 [.int .i64 2,.slice A N cap] w (fun v w'=>∃A ci ins vt,v=.agg #[.int .i64 2,.slice A 125 ci]∧vJ Yb 1 w' A 125 ins∧Yc ins vt∧Jy vt):=by
 refine⟨bK func84 (by kernel_rfl),?_⟩;have m:=Mem.refl w
 go_enter func84,ntmps84
 apply jP 5 [0] m;simp only[↓aD,aqv];intro g1 u m;apply arb m (T1:=4) (T2:=139)
 · skip
   refine Wi m [true] (.take 0 (.take 1 (.take 2 (.take 3 (.take 4 (.take 5 (.take 6 (.take 7 (.take 8 (.take 9 (.take 10 (.take 11 (.two 12 (.take 13 (.one 14 (.one 15 .nil))) 14 (.one 12 (.take 13 (.one 15 .nil)))))))))))))))) aC (by kernel_rfl) (fun _ _ _ _ _ h=>by cases h.1) ?_;intro u m;refine eN (by simp only[zw];rfl) (bF aI (bW (eN (by simp only[zw];rfl) (bF aI (bW (eN (by simp only[zw];rfl) ?_))))));simp only[zz];refine bF (qQ O O (by omega) Tg) (bW (eN (by simp only[zw];rfl) (bF (fB (m:=4) (n:=1) (r:=5) rfl rfl (by decide)) (bW (eN (by simp only[zw];rfl) (bF aI (bW (eN (by simp only[zw];rfl) ?_))))))));simp only[zz];refine bF (qQ O O (by omega) Tg) (bW (eN (by simp only[zw];rfl) (bF (fB (m:=4) (n:=1) (r:=5) rfl rfl (by decide)) (bW (eN (by simp only[zw];rfl) (bF (lC (m:=5) (n:=5) (r:=25) rfl rfl (by decide)) (bW (eN (by simp only[zw];rfl) (bF aI ?_)))))))));simp only[zz];refine bW (eN (by simp only[zw];rfl) (bF (qQ rfl rfl (by omega) Tg) (bW (eN (by simp only[zw];rfl) (bF (fB (m:=4) (n:=1) (r:=5) rfl rfl (by decide)) (bW (eN (by simp only[zw];rfl) (bF (lC (m:=25) (n:=5) (r:=125) rfl rfl (by decide)) (bW ?_)))))))));simp only[zz];refine abg (by simp only[zw];rfl) (by simp only[zw];rfl) ?_ ?_
   ·
    refine tK Oc aoU O O O (show _=125 by omega) (show _=125 by omega) (by omega) (by omega) (by omega) (by omega) ?_;intro u g2 e_ h_ k_;replace m:=m.newB e_ h_ k_;refine aM ⟨m.sel [false,true],?_⟩;refine eN (by simp only[zw];rfl) (bF (Az rfl rfl) (bW (nU (by simp only[zw];rfl) ?_)));simp only[zz];refine mN m Rk O ?_;intro g3 u m;refine aM ⟨m.sel [false,false,true],?_⟩;refine nU (by simp only[zw];rfl) ?_;simp only[zz];refine bP m 0 O O O Lg (gV O) O ?_;intro u m;simp only[zy,zx,over,zF,zG,aa] at m;refine aM ⟨m.sel [false,false,true],?_⟩;exact Fo ⟨O,g2,g3,O,m⟩
   ·
    refine mN m Rk O ?_;intro g2 u m;refine aM ⟨m.sel [false,true],?_⟩;refine nU (by simp only[zw];rfl) ?_;simp only[zz];refine tK Oc aoU O O O (show _=125 by omega) (show _=125 by omega) (by omega) (by omega) (by omega) (by omega) ?_;intro u g3 e_ h_ k_;replace m:=m.newB e_ h_ k_;refine aM ⟨m.sel [false,false,true],?_⟩;refine eN (by simp only[zw];rfl) (bF (Az rfl rfl) (bW (nU (by simp only[zw];rfl) ?_)));simp only[zz];refine bP m 1 O O O Lg (gV O) O ?_;intro u m;simp only[zy,zx,over,zF,zG,aa] at m;refine aM ⟨m.sel [false,false,true],?_⟩;exact Fo ⟨O,g3,g2,O,m.s01⟩
 intro g2 g3 u m;try dsimp only
 apply aW 3 [0] m;simp only[↓aD];refine aB (qQ O O (by omega) Tg) ?_;apply aL 9 [0] m;simp only[↓aD,Int.reduceSub];refine⟨by omega,?_⟩;refine bX [7] [8,9,10,11,12,30,31,32,33,34,35,36,37,38,39,40,41,42,43,44,45,46,47,48,49,50,51,52,53,54,55,56,57,58,59,60,61,62,63,64,65,66,67,68,69,70,71,72,73,74,75,76,77,78,79,80,81,82,83,84,85,86,87,88,89,90,91,92,93,94,95,96,97,98,99,100,101,102,103,104,105,106,107,108,109,110,111,112,113,114,115,116,117,118,119,120,121,122,123,124,125,126,127,128,129,130,131,132,133,134,135,136,137,138,139,140,141,142,143] (fun n vs wl=>∃(k:Nat) (ins:List Bool),vs=[.int .i64 (k:Int)]∧Mem w wl [bI g3 [.int .i64 2,.slice (some ⟨g2,0,none⟩) 125 125] 139,bI g2 (ins.map bn) 4,bI g1 [.int .i64 0,.slice none 0 0] 139]∧(aci ins)∧(k≤60∧k≤N)∧(n=60-k)) ?_ ?_
 ·
  exact⟨_,0,cl 125 false,O,m,atf,by omega,O⟩
 · intro n vs wr hI u K1 hK1
   obtain⟨k,ins,rfl,m,hfx,hk,hn⟩:=hI;simp only[zu,zF,zG];apply aJ 8 [0,0] m;simp only[↓aD,kM];refine dA O (fun hb=>aI) (dA O (fun hb=>rR (aY hb O) O) (aB (cC O O O) ?_));apply aL 1 [0] m;simp only[↓aD];refine dK O ?_ ?_<;>intro hc1
   ·
    have hk2:k<N∧k<60:=by simp only[be,decide_eq_true_eq] at hc1;omega
    obtain⟨q,hq,a,hA,hrow⟩:=hL.get (i:=k) (by omega);subst hA;have hqb:=hI q (bh hq);unfold sP at hqb;apply aJ 7 [0] m;simp only[↓aD];refine aB (aF dH aU O O (by omega) (by omega) (jI (ah _))) ?_;simp only[zz];refine aR O (lies1 (aq7 (hrow.ext m.ext)) bD) ?_;simp only[zz];apply aL 8 [0,0] m;simp only[↓aD];refine Rq m [8] [46,47] (fun vs=>∃(z:Nat),vs=[.int .i64 (z:Int)]∧(z<9223372036854775808)) ?_ ?_
    · intro K2 hK2
      refine bG O ?_ ?_<;>intro hc2
      ·
       apply aJ 5 [0] m;simp only[↓aD];refine⟨by omega,?_⟩;obtain⟨z,hz⟩:∃z:Nat,(z:Int) = -1-q:=⟨(-1-q).toNat,by omega⟩
       rw[←hz];exact hK2 _ _ (by kernel_rfl) m ⟨z,O,by omega⟩
      ·
       apply aJ 1 [0] m;simp only[↓aD];obtain⟨z,rfl⟩:∃z:Nat,q=z:=⟨q.toNat,by omega⟩
       exact hK2 _ _ (by kernel_rfl) m ⟨z,O,by omega⟩
    · intro vs wr m hI u
      obtain⟨z,rfl,hz⟩:=hI;simp only[zu,zF,zG];apply aW 4 [0] m;simp only[↓aD];refine aB (cP O O (by omega) (show ((z%3:Nat):Int)=_ from O)) ?_;apply aL 6 [0] m;simp only[↓aD];refine aB (jG O O (by omega) (show IntKind.i64.wrap ((z / 3:Nat):Int)=_ from bM (by omega) (by omega))) ?_;apply aL 1 [0] m;simp only[↓aD];refine aB (cP O O (by omega) (show ((z / 3%3:Nat):Int)=_ from O)) ?_;apply aL 6 [0] m;simp only[↓aD];refine aB (jG O O (by omega) (show IntKind.i64.wrap ((z / 3:Nat):Int)=_ from bM (by omega) (by omega))) ?_;apply aL 1 [0] m;simp only[↓aD];refine aB (jG O O (by omega) (show IntKind.i64.wrap ((z / 3 / 3:Nat):Int)=_ from bM (by omega) (by omega))) ?_;apply aL 1 [0] m;simp only[↓aD];refine aB (cP O O (by omega) (show ((z / 3 / 3%3:Nat):Int)=_ from O)) ?_;apply aL 6 [0] m;simp only[↓aD];refine aB (jG O O (by omega) (show IntKind.i64.wrap ((z / 3:Nat):Int)=_ from bM (by omega) (by omega))) ?_;apply aL 1 [0] m;simp only[↓aD];refine aB (jG O O (by omega) (show IntKind.i64.wrap ((z / 3 / 3:Nat):Int)=_ from bM (by omega) (by omega))) ?_;apply aL 1 [0] m;simp only[↓aD];refine aB (jG O O (by omega) (show IntKind.i64.wrap ((z / 3 / 3 / 3:Nat):Int)=_ from bM (by omega) (by omega))) ?_;apply aL 3 [0] m;simp only[↓aD];refine cL m 14 aC (by kernel_rfl) ?_;simp only[zy];refine eC 9 [0] ?_;simp only[↓aD,sE,Nz,aa];refine⟨by omega,?_⟩;refine eX O O (xP (x:=1+z%3) (y:=1+z / 3%3) (z:=1+z / 3 / 3%3) (by omega) (by omega) (by omega)) (aG aI (aG (lQ O O O) (aG (uJ O O) ?_)));simp only[zz];refine aG (aF Oc eK O O (by omega) (by omega) (fC (ah _))) (bC ?_);intro u m;simp only[zz];refine cW m 1 O O O eK (by simp only[bx,gu,av,bv,hfx.1];omega) ⟨rfl,rfl⟩ ?_;intro u m;simp only[zz] at m;rw[aaw (by simp only[gu,hfx.1];omega)] at m;refine aM ?_;apply aW 4 [0] m;simp only[↓aD];refine aB (lQ O O O) ?_;apply aL 2 [0,0] m;simp only[↓aD];refine jL m 1 [] [87,88,89,90,91,92,93,94,95,96,97,98,99,100,101,102,103] (fun vs i=>∃(ins:List Bool),vs=[]∧i=bI g2 (ins.map bn) 4∧(aci ins)) ?_ ?_
      · intro K3 hK3
        refine bG O ?_ ?_<;>intro hc3
        ·
         refine cL m 17 aC (by kernel_rfl) ?_;simp only[zy];refine eC 6 [0] ?_;simp only[↓aD,sE,Nz,aa];refine⟨by omega,?_⟩;refine aG (cP O O (by omega) (show (((z%3+1)%3:Nat):Int)=_ from O)) (eC 5 [] ?_);simp only[↓aD];refine⟨by omega,?_⟩;refine eX O O (xP (x:=1+(z%3+1)%3) (y:=1+z / 3%3) (z:=1+z / 3 / 3%3) (by omega) (by omega) (by omega)) (aG aI (aG (lQ O O O) (aG (uJ O O) ?_)));simp only[zz];refine aG (aF Oc eK O O (by omega) (by omega) (fC (ah _))) (bC ?_);intro u m;simp only[zz];refine cW m 1 O O O eK (by simp only[bx,gu,av,bv,hfx.1];omega) ⟨rfl,rfl⟩ ?_;intro u m;simp only[zz] at m;rw[aaw (by simp only[gu,hfx.1];omega)] at m;refine aM (gk ?_);exact hK3 _ _ _ (by kernel_rfl) m ⟨_,O,O,(hfx.set (by omega) (by omega) (by omega)).set (by omega) (by omega) (by omega)⟩
        ·
         apply aJ 1 [0] m;simp only[↓aD];exact hK3 _ _ _ (by kernel_rfl) m ⟨_,O,O,hfx.set (by omega) (by omega) (by omega)⟩
      · intro vs i wr m hI u
        obtain⟨ins,rfl,rfl,hfx⟩:=hI;simp only[zF,zG] at m;simp only[zu,zF,zG];apply aW 4 [0] m;simp only[↓aD];refine aB (lQ O O O) ?_;apply aL 2 [0,0] m;simp only[↓aD];refine jL m 1 [] [107,108,109,110,111,112,113,114,115,116,117,118,119,120,121,122,123] (fun vs i=>∃(ins:List Bool),vs=[]∧i=bI g2 (ins.map bn) 4∧(aci ins)) ?_ ?_
        · intro K4 hK4
          refine bG O ?_ ?_<;>intro hc4
          ·
           refine cL m 17 aC (by kernel_rfl) ?_;simp only[zy];refine eC 8 [0] ?_;simp only[↓aD,sE,Nz,aa];refine⟨by omega,?_⟩;refine aG (cP O O (by omega) (show (((z / 3%3+1)%3:Nat):Int)=_ from O)) (eC 3 [] ?_);simp only[↓aD];refine⟨by omega,?_⟩;refine eX O O (xP (x:=1+z%3) (y:=1+(z / 3%3+1)%3) (z:=1+z / 3 / 3%3) (by omega) (by omega) (by omega)) (aG aI (aG (lQ O O O) (aG (uJ O O) ?_)));simp only[zz];refine aG (aF Oc eK O O (by omega) (by omega) (fC (ah _))) (bC ?_);intro u m;simp only[zz];refine cW m 1 O O O eK (by simp only[bx,gu,av,bv,hfx.1];omega) ⟨rfl,rfl⟩ ?_;intro u m;simp only[zz] at m;rw[aaw (by simp only[gu,hfx.1];omega)] at m;refine aM (gk ?_);exact hK4 _ _ _ (by kernel_rfl) m ⟨_,O,O,hfx.set (by omega) (by omega) (by omega)⟩
          ·
           apply aJ 1 [0] m;simp only[↓aD];exact hK4 _ _ _ (by kernel_rfl) m ⟨_,O,O,hfx⟩
        · intro vs i wr m hI u
          obtain⟨ins,rfl,rfl,hfx⟩:=hI;simp only[zF,zG] at m;simp only[zu,zF,zG];apply aW 3 [0] m;simp only[↓aD];refine aB (lQ O O O) ?_;apply aL 2 [0,0] m;simp only[↓aD];refine jL m 1 [] [127,128,129,130,131,132,133,134,135,136,137,138,139,140,141,142,143] (fun vs i=>∃(ins:List Bool),vs=[]∧i=bI g2 (ins.map bn) 4∧(aci ins)) ?_ ?_
          · intro K5 hK5
            refine bG O ?_ ?_<;>intro hc5
            ·
             refine cL m 17 aC (by kernel_rfl) ?_;simp only[zy];refine eC 10 [0] ?_;simp only[↓aD,sE,Nz,aa];refine⟨by omega,?_⟩;refine aG (cP O O (by omega) (show (((z / 3 / 3%3+1)%3:Nat):Int)=_ from O)) ?_;simp only[zz];refine aG (fB O O (bM (by omega) (by omega))) ?_;simp only[zz];refine eX O O (xP (x:=1+z%3) (y:=1+z / 3%3) (z:=1+(z / 3 / 3%3+1)%3) (by omega) (by omega) (by omega)) (aG aI (aG (lQ O O O) (aG (uJ O O) ?_)));simp only[zz];refine aG (aF Oc eK O O (by omega) (by omega) (fC (ah _))) (bC ?_);intro u m;simp only[zz];refine cW m 1 O O O eK (by simp only[bx,gu,av,bv,hfx.1];omega) ⟨rfl,rfl⟩ ?_;intro u m;simp only[zz] at m;rw[aaw (by simp only[gu,hfx.1];omega)] at m;refine aM (gk ?_);exact hK5 _ _ _ (by kernel_rfl) m ⟨_,O,O,hfx.set (by omega) (by omega) (by omega)⟩
            ·
             apply aJ 1 [0] m;simp only[↓aD];exact hK5 _ _ _ (by kernel_rfl) m ⟨_,O,O,hfx⟩
          · intro vs i wr m hI u
            obtain⟨ins,rfl,rfl,hfx⟩:=hI;simp only[zF,zG] at m;simp only[zu,zF,zG];apply aW 6 [0] m;simp only[↓aD];refine⟨by omega,?_⟩;exact hK1 (60-(k+1)) _ _ (by omega) (by kernel_rfl) ⟨k+1,_,O,m,hfx,by omega,O⟩
   ·
    apply zvc 7 [0,2] m;simp only[↓aD,ad7,aa];intro u m;refine aT O ⟨_,O,((m.b 2 O).full amK Lg)⟩ ?_;try simp only[zD,zE]
    (obtain⟨hil,vt,hV,hB⟩:=hfx);exact⟨_,O,m.ext,_,_,ins,vt,O,ahd (m.b 1 O) hil,hV,hB⟩
end Go.Proofs.YtfekpcimgncioaaGreatDoor
