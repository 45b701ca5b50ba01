/-
 Texts of one claim, laid together: K31, Wo, Ch, Ci, Ck, Cl, Wp, Cm, Cn, Co, Cp, K32, K33, Cr, K53, K54, K55, K56, K57, K58, K59, K60, Cmp, Grow2, SortPt, Maps1, W1.
-/
import Derived.Shelf.SlLaysF0
import Derived.Test.YtfekpcimgncioaaGreatDoorProg
import Derived.Test.YtfekpcimgncioaaGreatDoorCA3
open Nat renaming reduceAdd→aa,reduceMul→ag,zero_add→aq,le_refl→av,zero_le→bw,lt_succ_self→fc,mod_lt→jr,mul_one→ll,lt_trichotomy→nl
open Int renaming reduceToNat→ad,toNat_natCast→ah,reduceAdd→ak,fdiv_eq_ediv_of_nonneg→gu,toNat→kh
open Go renaming Value→ai,World→aj,wp_region_lit→ao,wpList→ar,TypeId→az,Operand→bx,MapEntry→ck,wpQuiet→cl,wp_ret→jb,wp_block→jm,wp_skip→jp
open List renaming getElem?_eq_getElem→am,mem_cons→an,getElem?_eq_some_iff→ap,length_append→au,length_cons→aw,take_of_length_le→ay,flatMap_append→a_,mem_of_getElem?→be,mem_singleton→bf,mem_append→bi,length_nil→bn,pairwise_cons→br,nil_append→b_,not_mem_nil→cg,cons_append→cj,length_map→ct,replicate→cu,map_append→cv,mem_filter→c_,mem_iff_getElem?→dh,getElem?_take→dm,mem_map→eh,all_eq_true→ep,length_set→et,getElem?_map→fb,mem_map_of_mem→fh,getElem_mem→fq,any_eq_false→fx,pairwise_append→fz,pairwise_iff_getElem→ic,mem_zipIdx_iff_getElem?→ij,pairwise_singleton→jz,pairwise_map→j_,filter_sublist→lf,getElem?_take_of_lt→mx,map_set→ow
open Bool renaming and_eq_true→bg,not_eq_true'→ew,eq_iff_iff→ff,false_ne_true→fg,not_false→fj,not_true→fp,not_eq_true→oe
open Go.Value renaming bool→bj,int→lx
open Go.Exit renaming inBlock→cw
open BitVec renaming ofInt→d_
open Option renaming map_some→fl
open Prod.mk renaming injEq→gh
open Option.some renaming injEq→gn
open List.Pairwise renaming nil→kx
set_option maxHeartbeats 8000000
set_option linter.unusedSimpArgs false
set_option linter.unusedVariables false
set_option linter.unusedSectionVars false
namespace Go.Proofs.YtfekpcimgncioaaGreatDoor
open Go.Proofs.Tryz
open Go.RowKit Go.Lith
variable{ts:List T3}{N cap:Nat}
abbrev dN:=@underlying22
abbrev yQ:=@underlying261
abbrev Gg:=@underlying262
abbrev Ys:=@underlying5
abbrev Mt:=@underlying62
set_option maxRecDepth 100000
attribute [local irreducible] ar cl fU bS cO Code.wp
attribute [local congr] pD gF gG gH gI gJ kL gK gL gM gN gQ gR gS gT gU gV gW eU eV gX gY iA iB iC kN dF dG cW dD gZ kM eW eX eY iD iE kO
def aba(A:Option Addr)(N cap:Nat)(ts:List T3)(w:aj)(v:ai)(w':aj):Prop:=(v=.slice A N cap∧N<2)∨SL 39 9 ((vO ts).flatMap aN) N w v w'
theorem ac4{t:T3}(h:IT t):IT (dU t):=by
 unfold dU;split
 · exact⟨h.c,h.a,h.b⟩
 · split
   · exact⟨h.b,h.c,h.a⟩
   · exact h
theorem alS(h:∀t∈ts,IT t):∀t∈vO ts,IT t:=fun t ht=>h t ((tU ts).mem_iff.1 ht)
theorem aba.view{A:Option Addr}{w w':aj}{v:ai}(h:aba A N cap ts w v w')(hT:bU w' A N ts)(hc:N≤cap):∃B c,v=.slice B N c∧bU w' B N (vO ts)∧N≤c:=by
 rcases h with ⟨rfl,h⟩ | ⟨B,c,n,rfl,rfl,hO⟩
 · exact⟨_,_,O,by rw[Ms (by rw[hT.len];exact h)];exact hT,hc⟩
 · exact⟨B,c,O,hO.tris (alS hT.it),hO.le⟩
theorem aiR{A:Option Addr}(w:aj)(ih:∀{us:List T3} {M c:Nat} {B:Option Addr} (u:aj),bU u B M us→M≤c→M<N→dA prog 85 [.slice B M c] u (aba B M c us u))(hT:bU w A N ts)(hcap:N≤cap)(hN:N≤10000000):dA prog 85 [.slice A N cap] w (aba A N cap ts w):=by
 refine⟨bJ func85 (by kernel_rfl),?_⟩;have m:=Mem.refl w;have htl:=hT.len
 go_enter func85,ntmps85
 apply fI 11 [0,0] m;simp only[↓aD,iM];refine bD O ?_ ?_<;>intro hc1
 ·
  apply aK 6 [] m;simp only[↓aD];exact aT O O ⟨_,O,m.ext,.inl ⟨O,by omega⟩⟩
 ·
  apply aK 5 [0] m;simp only[↓aD,iM];refine aC (jD O O (by omega) (show IntKind.i64.wrap ((N:Int).tdiv 2)=((N / 2:Nat):Int) from (show IntKind.i64.wrap ((N / 2:Nat):Int)=((N / 2:Nat):Int) from bP (by omega) (by omega)))) ?_;apply aL 3 [0] m;simp only[↓aD];refine mh m [] [(0,true),(1,true),(2,true),(4,true),(5,true),(6,true),(3,false),(7,false),(8,false),(9,true)] aB (by kernel_rfl) (bQ (fun _ _ _ _ _ h=>h)) (ol:=?_) ?hol ?_
  case hol=>simp only[zw,zQ,zR];try rfl
  intro u m;refine aZ aH (aZ aH ?_);simp only[zz];refine aZ (nG cD aP O O (show _=N / 2 by omega) (by omega) (by omega)) (aZ aH (aZ aH ?_));simp only[zz];refine aZ (tR cD aP O O (show _=N / 2 by omega) (by omega) (by omega) O) (bL ?_);simp only[zz];refine bH O O (ih _ ((hT.ext m.ext).takeL (k:=N / 2) (by omega)) (by omega) (by omega)) ?_;rintro v u e hR;replace m:=m.ext' e;obtain⟨A5,c5,rfl,hT5,hc5⟩:=hR.view ((hT.ext m.ext).takeL (k:=N / 2) (by omega)) (by omega);clear e;refine aM ⟨m,?_⟩;refine bL ?_;simp only[zz];refine bH O O (ih _ ((hT.ext m.ext).dropL (k:=N / 2) (cap:=cap) (by omega) hcap) (by omega) (by omega)) ?_;rintro v u e hR6;replace m:=m.ext' e;replace hT5:=hT5.ext e;obtain⟨A6,c6,rfl,hT6,hc6⟩:=hR6.view ((hT.ext m.ext).dropL (k:=N / 2) (cap:=cap) (by omega) hcap) (by omega);clear e;refine aM ⟨m,?_⟩;refine bL ?_;simp only[zz];refine bH O O (aiQ _ hT5 hT6 hc6 (by omega)) ?_;rintro v u e_ ⟨A7,cap7,n7,hn7,rfl,h_⟩;replace m:=m.newO e_ h_;refine aM ⟨m.sel [false],?_⟩;refine aZ aO (bY ?_);apply aU 1 [] m;simp only[↓aD];exact aT O O ⟨_,O,m.ext,.inr ⟨A7,cap7,n7,by omega,O,by rw[←aa9 ts (N / 2)];exact (m.o 0 O)⟩⟩
theorem aet:∀(n:Nat) {ts:List T3} {N cap:Nat} {A:Option Addr} (w:aj),bU w A N ts→N≤cap→N≤10000000→N<n→dA prog 85 [.slice A N cap] w (aba A N cap ts w)
 | 0,_,_,_,_,_,_,_,_,h=>absurd h (Nat.not_lt_zero _)
 | n+1,_,N,_,_,w,hT,hc,hN,h=>aiR w (fun u hU hcu hM=>aet n u hU hcu (by omega) (by omega)) hT hc hN
theorem aoU{w0 w:aj}{A:Option Addr}{N cap:Nat}{xs:List T3}(m:Mem w0 w [oI 39 9 A N cap (xs.flatMap aN)])(hi:∀t∈xs,IT t)(hN:N≤10000000) :
 vU prog 85 [.slice A N cap] w fun v w'=>∃B c,v=.slice B N c∧Mem w0 w' [oI 39 9 B N c ((vO xs).flatMap aN)]:=by
 have hO:=m.o 0 rfl;have hD:=aet (N+1) w (hO.tris hi) hO.le hN (fc N);refine⟨hD.1,hD.2.mono ?_⟩;rintro e w' ⟨v,rfl,hE,⟨rfl,h⟩ | ⟨B,c,n,rfl,rfl,hN2⟩⟩
 · exact⟨_,O,A,cap,O,by rw[Ms (by rw[(hO.tris hi).len];exact h)];exact m.ext' hE⟩
 · exact⟨_,O,B,c,O,(m.newO hE hN2).sel [true,false]⟩
theorem Iq{A:Option Addr}(w:aj)(hT:bU w A N ts)(hN:N≤10000000):dA prog 40 [.slice A N cap] w (SL 39 9 ((eC ts).flatMap aN) ts.length w):=by
 refine⟨bJ func40 (by kernel_rfl),?_⟩;have m:=Mem.refl w;have htl:=hT.len
 go_enter func40,ntmps40
 apply fI 6 [0] m;simp only[↓aD];refine aC aO ?_;replace m:=m.nilO 39 9;apply aL 7 [0] m;simp only[↓aD];refine bX [3,4] [5,6,7,8,9,10,11,12,13,14,15,16,17,18] (fun n vs wl=>∃(k:Nat) (A1:Option Addr) (cap1:Nat),vs=[.slice A1 k cap1,.int .i64 (k:Int)]∧Mem w wl [oI 39 9 A1 k cap1 (((ts.take k).map dU).flatMap aN)]∧(k≤N)∧(n=N-k)) ?_ ?_
 ·
  exact⟨_,0,_,_,O,m,bw _,O⟩
 · intro n vs wr hI u K1 hK1
   obtain⟨k,A1,cap1,rfl,m,hk,hn⟩:=hI;simp only[zu,zF,zG];apply aK 8 [0,0] m;simp only[↓aD,iM];refine bD O ?_ ?_<;>intro hc1
   ·
    obtain⟨t,ht,_,a,hA,hrow⟩:=hT.get (i:=k) (by omega);subst hA;apply aK 7 [0] m;simp only[↓aD];refine aC (aF cD aP O O (by omega) (by omega) (bZ (ah _))) ?_;simp only[zz];refine aS O ((hrow.ext m.ext).lies cA aP) ?_;simp only[zz];refine lD m O O (Lh (t:=t)) ?_;intro u m;simp only[zz];refine eZ O ?_;intro u g1 e_ h_ k_;replace m:=m.newB e_ h_ k_;simp only[zz];refine bM m 1 O O cD jK O (by decide) O O O (m.b 0 O).rowsO (fV O) (by omega) (by omega) ?_;intro A1 cap1 u m;simp only[zF,zG] at m;rw[show ((ts.take k).map dU).flatMap aN++_=((ts.take (k+1)).map dU).flatMap aN by rw[cH ht,cv,a_];rfl] at m;apply aL 8 [0] m;simp only[↓aD];refine⟨by omega,?_⟩;exact hK1 (N-(k+1)) _ _ (by omega) (by kernel_rfl) ⟨k+1,_,_,O,(m.sel [false,true]),by omega,O⟩
   ·
    obtain rfl:k=N:=by omega
    rw[show ts.take k=ts from ay (by omega)] at m;apply aK 4 [0] m;simp only[↓aD];refine kJ rfl rfl (aoU m (fun t ht=>by obtain⟨s,hs,rfl⟩:=eh.1 ht;exact ac4 (hT.it s hs)) (by omega)) ?_;rintro v u ⟨A4,cap4,rfl,m⟩;apply aL 3 [] m;simp only[↓aD];exact aT O O ⟨_,O,m.ext,⟨_,_,_,htl.symm,O,(m.o 0 O)⟩⟩
end Go.Proofs.YtfekpcimgncioaaGreatDoor
namespace Go.Lith
open Go.RowKit
variable{l:List T3}{t s:T3}{u x q:P3}
/-! ### Corners in order -/
theorem aeu{p:P3}:∀{ps:List P3},uJ ps→(ps.dropWhile fun x=>decide (x.Lt p)).head? ≠ some p→∀x∈ps.dropWhile fun x=>decide (x.Lt p),p.Lt x
 | [],_,_,x,h=>by cases h
 | y::ys,hs,hp,x,h=>by
  obtain⟨h1,h2⟩:=br.1 hs;rw[List.dropWhile_cons] at h hp;split at h
  · rename_i hy
    rw[if_pos hy] at hp;exact aeu h2 hp x h
  · rename_i hy
    rw[if_neg hy] at hp;have hy':p.Lt y:=by
     rcases lt_tri y p with k | k | k
     · exact absurd (decide_eq_true k) hy
     · rw[k] at hp;exact absurd O hp
     · exact k
    rcases an.1 h with rfl | h
    · exact hy'
    · exact P3.lt_trans hy' (h1 x h)
theorem yR{ps:List P3}{p:P3}(hs:uJ ps):uJ (iL ps p):=by
 unfold iL;split
 · exact hs
 · rename_i hp
   have hd:(ps.drop (aay ps p))=ps.dropWhile fun x=>decide (x.Lt p):=Yg ps;have ht:(ps.take (aay ps p))=ps.takeWhile fun x=>decide (x.Lt p):=Yf ps;have h0:=hs;rw[uJ,←List.takeWhile_append_dropWhile (p:=fun x=>decide (x.Lt p)) (l:=ps)] at h0;obtain⟨h1,h2,h3⟩:=fz.1 h0;have hg:=aeu (p:=p) hs (by rw[←hd,List.head?_drop];exact hp);have hl:∀x∈ps.takeWhile fun x=>decide (x.Lt p),x.Lt p:=fun x hx=>of_decide_eq_true (acB (p:=fun x:P3=>decide (x.Lt p)) hx);rw[hd,ht];refine fz.2 ⟨fz.2 ⟨h1,jz _ _,fun x hx y hy=>?_⟩,h2,fun x hx y hy=>?_⟩
   · rw[bf.1 hy];exact hl x hx
   · rcases bi.1 hx with hx | hx
     · exact h3 x hx y hy
     · rw[bf.1 hx];exact hg y hy
theorem Ro(ts:List T3):uJ (dY ts):=by
 have:∀(ts:List T3) (ps:List P3),uJ ps→uJ (ts.foldl (fun ps t=>iL (iL (iL ps t.a) t.b) t.c) ps):=by
  intro ts
  induction ts with
  | nil=>exact fun ps h=>h
  | cons t ts ih=>exact fun ps h=>ih _ (yR (yR (yR h)))
 exact this ts [] kx
/-! ### Lists turned,mapped,chosen from -/
/-! ### Closed sets in place of rings -/
/-! ### A path in a corner's place -/
section
variable {u c1 c2:P3} {A P N N':P3→P3→Prop}
end
section
variable {us:List T3} {u v c1 c2:P3}
/-! ### The corners behind each other,afterwards -/
/-! ### Edges -/
/-! ### No edge twice -/
end
section
variable {us:List T3} {u v c1 c2:P3}
/-! ### Round each corner -/
end
/-! ### From the conditions -/
/-! ### Edges,each once -/
theorem afN{α:Type}[DecidableEq α]{l m:List α}(h1:l.Nodup)(h2:m.Nodup)(h:∀x,x∈l↔x∈m):l.length=m.length :=
 Nat.le_antisymm (uM h1 fun x hx=>(h x).1 hx) (uM h2 fun x hx=>(h x).2 hx)
/-! ### Triangles -/
section
variable {us:List T3} {u v c1 c2:P3}
theorem Ff(ts:List T3):(dY ts).Nodup:=by
 have h:=Ro ts;unfold uJ at h;refine List.Pairwise.imp (S:=fun a b:P3=>a≠b) (fun {a b} k e=>?_) h;rw[e] at k;exact P3.lt_irrefl b k
end
/-! ### All along -/
/-! ### The ends of fans -/
/-! ### Accepted -/
theorem Wa   : t∈eC l↔∃s∈l,dU s=t:=by
 rw[(uS l).mem_iff,eh]
/-! ### The moves in order -/
theorem Li(p:P3):∀l:List P3,(afJ p l).Perm (p::l)
 | []=>.refl _
 | q::l=>by
  rw[afJ];split
  · exact ((Li p l).cons q).trans (.swap ..)
  · exact .refl _
theorem oS:∀l:List P3,(Ai l).Perm l
 | []=>.refl _
 | p::l=>(Li p _).trans ((oS l).cons p)
theorem Mu{p:P3}:∀{l:List P3},l.Pairwise P3.Lt→p∉l→(afJ p l).Pairwise P3.Lt
 | [],_,_=>jz _ _
 | q::l,h,hn=>by
  rw[afJ];obtain⟨h1,h2⟩:=br.1 h;split
  · rename_i k
    refine br.2 ⟨fun x hx=>?_,Mu h2 fun k=>hn (List.mem_cons_of_mem _ k)⟩;rcases an.1 ((Li p l).subset hx) with rfl | hx
    · exact k
    · exact h1 x hx
  · rename_i k
    have hq:p.Lt q:=by
     rcases lt_tri q p with e | e | e
     · exact absurd e k
     · exact absurd (e▸List.mem_cons_self ..) hn
     · exact e
    refine br.2 ⟨fun x hx=>?_,h⟩;rcases an.1 hx with rfl | hx
    · exact hq
    · exact P3.lt_trans hq (h1 x hx)
theorem tN:∀{l:List P3},l.Nodup→(Ai l).Pairwise P3.Lt
 | [],_=>kx
 | p::l,h=>by
  obtain⟨h1,h2⟩:=List.nodup_cons.1 h;exact Mu (tN h2) fun k=>h1 ((oS l).mem_iff.1 k)
theorem ac5(D:List Mv):(mZ D).map (·.1)=Ai (D.map (·.1)):=by
 unfold mZ;rw[List.map_map];exact List.map_id _
theorem Dv(D:List Mv):(mZ D).length=D.length:=by
 have:=congrArg List.length (ac5 D);rw[ct,(oS _).length_eq,ct] at this;exact this
/-! ### Boxes -/
theorem alT(t:T3)(k:Nat):Ds (dU t) k=Ds t k:=by
 rcases rD t with h | h | h <;> rw[h] <;> unfold Ds <;> simp only <;> omega
theorem alU(t:T3)(k:Nat):Dt (dU t) k=Dt t k:=by
 rcases rD t with h | h | h <;> rw[h] <;> unfold Dt <;> simp only <;> omega
theorem aiS(s t:T3):oE (dU s) (dU t)=oE s t:=by
 unfold oE aa6;simp only[alT,alU]
theorem Wb(s t:T3):oE s t=oE t s:=by
 unfold oE aa6;simp only[Bool.or_comm]
theorem aiT(s t:T3):mO (dU s) (dU t)=mO s t:=by
 have h1:∀s t:T3,mO (dU s) t=mO s t:=fun s t=>by
  rcases rD s with h | h | h
  · rw[h]
  · rw[h];exact La s t
  · rw[h];exact (La (rX s) t).trans (La s t)
 have h2:∀s t:T3,mO s (dU t)=mO s t:=fun s t=>by
  rcases rD t with h | h | h
  · rw[h]
  · rw[h];exact Gb s t
  · rw[h];exact (Gb s (rX t)).trans (Gb s t)
 rw[h1,h2]
def yS(s t:T3):Bool:=oE s t&&mO s t
theorem xF(s t:T3):yS (dU s) (dU t)=yS s t:=by unfold yS;rw[aiS,aiT]
theorem afO(hs:s.nd=true)(ht:t.nd=true):yS s t=yS t s:=by unfold yS;rw[Wb,afH hs ht]
theorem Is(t s:T3):sW t s=yS s t:=by unfold sW yS;rw[Wb]
def yT(t:T3)(l:List T3):Bool:=l.any fun s=>!decide (dU s=dU t)&&yS (dU s) (dU t)
theorem abb   : yT t l=false↔∀s∈l,dU s≠dU t→yS s t=false:=by
 unfold yT;rw[fx];constructor
 · intro h s hs hne
   have:=h s hs;rw[xF] at this;simpa[hne] using this
 · intro h s hs
   rw[xF];by_cases e:dU s=dU t
   · simp[e]
   · simp[h s hs e]
theorem aev(h:t.nd=true):dU (dU t)=dU t:=ah3 (rD t) h
/-! ### What clear says -/
theorem afP{v:P3}:Gd l u v=true↔(∀t∈jP u v l,∀s∈mS u v l,yS s t=false)∧(jP u v l).Pairwise fun s t=>yS s t=false:=by
 unfold Gd;rw[ep];have key:∀{i:Nat} {t:T3},(jP u v l)[i]? = some t→(t,i)∈(jP u v l).zipIdx:=fun {i t} h=>ij.2 h;constructor
 · intro h
   refine⟨fun t ht s hs=>?_,ic.2 fun i j hi hj hij=>?_⟩
   · obtain⟨i,hi⟩:=dh.1 ht
     have:=h _ (key hi);simp only[bg,ew,fx] at this;have:=this.1 s hs;rw[Is] at this;simpa using this
   · have:=h _ (key (am hj))
     simp only[bg,ew,fx] at this;have:=this.2 ((jP u v l)[i]) (be (i:=i) (by rw[mx hij];exact am hi));rw[Is] at this;simpa using this
 · rintro⟨h1,h2⟩ ⟨t,i⟩ hx
   have hi:=ij.1 hx;simp only at hi;simp only[bg,ew,fx];refine⟨fun s hs=>?_,fun s hs=>?_⟩
   · rw[Is,h1 t (be hi) s hs];exact fg
   · obtain⟨j,hj⟩:=dh.1 hs
     rw[dm] at hj;split at hj
     · rename_i hji
       obtain⟨hil,rfl⟩:=ap.1 hi;obtain⟨hjl,rfl⟩:=ap.1 hj;rw[Is,ic.1 h2 j i hjl hil hji];exact fg
     · cases hj
theorem abc{α:Type}{R:α→α→Prop}(sy:∀a b,R a b→R b a):∀{l:List α},l.Pairwise R→∀a∈l,∀b∈l,a≠b→R a b
 | [],_,a,h,_,_,_=>by cases h
 | x::l,h,a,ha,b,hb,hne=>by
  obtain⟨h1,h2⟩:=br.1 h;rcases an.1 ha with e | ha
  · rcases an.1 hb with e2 | hb
    · exact absurd (e.trans e2.symm) hne
    · rw[e];exact h1 b hb
  · rcases an.1 hb with e2 | hb
    · rw[e2];exact sy _ _ (h1 a ha)
    · exact abc sy h2 a ha b hb hne
theorem Nz{v:P3}:∀t∈jP u v l,t.nd=true:=fun t ht=>by
 obtain⟨s,hs,rfl⟩:=eh.1 ht;have:=(c_.1 hs).2;exact (Bool.and_eq_true_iff.1 this).2
theorem aoV{v:P3}(h:t∈mS u v l):t∈l:=(c_.1 h).1
theorem abd{v:P3}(hd:∀t∈l,t.nd=true){x:T3}:x∈oQ l u v↔∃s,(s∈jP u v l∨s∈mS u v l)∧dU s=x:=by
 unfold oQ;rw[Wa];refine exists_congr fun s=>and_congr_left fun _=>?_;rw[←(Ge (u:=u) (v:=v) l hd).mem_iff,bi]
def Iu(p:P3)(o:List P3)(q:P3):List P3:=if q≠p∧q∉o then o++[q] else o
def Iv(p:P3)(o:List P3)(t:T3):List P3:=if t.has p then Iu p (Iu p (Iu p o t.a) t.b) t.c else o
def iQ(l:List T3)(p:P3):List P3:=l.foldl (Iv p) []
def rG(l:List T3):Bool:=l.zipIdx.any fun x=>(l.take x.2).any fun s=>s.has x.1.a&&s.has x.1.b&&s.has x.1.c
def Nk(l:List T3)(u v:P3):Bool:=Fa (bK l) v&&(iQ l u).any fun q=>decide (q≠v)&&Fa (bK l) q && !decide (q∈iQ l v)
def abe(l r:List T3)(u v:P3):Bool:=(l.all fun t=>!(t.has u && !t.has v)||(!fN (jV u v t)&&decide (Tz t (jV u v t)=1)))&&l.all fun t=>!(t.has u && !t.has v) || !yT (jV u v t) r
def vV(l:List T3)(u v:P3):Bool :=
 decide (v∈iQ l u) && !Fa (bK l) u&&decide (((iQ l u).filter fun q=>decide (q∈iQ l v)).length=2) && !rG (oQ l u v) && !Nk l u v&&abe l (oQ l u v) u v
theorem Rp{p:P3}{o:List P3}:x∈Iu p o q↔x∈o∨(x=q∧x≠p):=by
 unfold Iu;split
 · rename_i h
   rw[bi,bf];exact or_congr Iff.rfl ⟨fun e=>⟨e,e▸h.1⟩,fun e=>e.1⟩
 · rename_i h
   refine⟨.inl,fun k=>k.elim id fun⟨e,hp⟩=>?_⟩;exact Decidable.byContradiction fun hn=>h ⟨e▸hp,e▸hn⟩
theorem Gh{p:P3}{o:List P3}(h:o.Nodup):(Iu p o q).Nodup:=by
 unfold Iu;split
 · rename_i k;exact Fx.2 ⟨h,k.2⟩
 · exact h
theorem aiU{p:P3}{o:List P3}:x∈Iv p o t↔x∈o∨(t.has p=true∧t.has x=true∧x≠p):=by
 unfold Iv;split
 · rename_i h
   rw[Rp,Rp,Rp,fE (p:=x)];simp only[h,true_and]
   grind
 · rename_i h
   exact⟨.inl,fun k=>k.elim id fun e=>absurd e.1 h⟩
theorem tO{p:P3}:x∈iQ l p↔Nj l p x=true:=by
 have key:∀(l:List T3) (o:List P3),x∈l.foldl (Iv p) o↔x∈o∨(x≠p∧Tx l p x=true):=by
  intro l
  induction l with
  | nil=>intro o;simp[Tx]
  | cons t l ih =>
   intro o;rw[List.foldl_cons,ih,aiU];have e:Tx (t::l) p x=((t.has p&&t.has x)||Tx l p x):=rfl;rw[e,Bool.or_eq_true,bg]
   grind
 unfold iQ;rw[key,Rb];simp
theorem Wc(l:List T3)(p:P3):(iQ l p).Nodup:=by
 have key:∀(l:List T3) (o:List P3),o.Nodup→(l.foldl (Iv p) o).Nodup:=by
  intro l
  induction l with
  | nil=>exact fun o h=>h
  | cons t l ih =>
   intro o h;refine ih _ ?_;unfold Iv;split
   · exact Gh (Gh (Gh h))
   · exact h
 exact key l [] List.nodup_nil
/-! ### The corners of a triangle,in order -/
theorem Iy{p:P3}:p∈pZ t↔t.has p=true:=by
 unfold pZ;rw[(oS _).mem_iff,fE];simp
theorem aew(hs:s.nd=true)(ht:t.nd=true):pZ s=pZ t↔∀p,s.has p=true↔t.has p=true:=by
 constructor
 · intro h p
   rw[←Iy,←Iy,h]
 · intro h
   exact yJ P3.lt_irrefl (fun _ _ _=>P3.lt_trans) (tN (xC hs)) (tN (xC ht)) fun p=>by rw[Iy,Iy];exact h p
theorem Rq(h:t.nd=true):pZ (dU t)=pZ t:=(aew (by rw[ail];exact h) h).2 fun p=>by rw[ah4 (rD t)]
theorem abf(hs:s.nd=true)(ht:t.nd=true):(s.has t.a&&s.has t.b&&s.has t.c)=true↔pZ s=pZ t:=by
 rw[aew hs ht,bg,bg];constructor
 · rintro⟨⟨h1,h2⟩,h3⟩ p
   have hsub:∀x∈[t.a,t.b,t.c],x∈[s.a,s.b,s.c]:=fun x hx=>by
    simp only[an,cg,or_false] at hx ⊢;rcases hx with rfl | rfl | rfl
    · exact fE.1 h1
    · exact fE.1 h2
    · exact fE.1 h3
   have hsup:=full (xC ht) hsub (av _);constructor
   · intro h
     have:=hsup p (by simpa using fE.1 h);exact fE.2 (by simpa using this)
   · intro h
     have:=hsub p (by simpa using fE.1 h);exact fE.2 (by simpa using this)
 · intro h
   exact⟨⟨(h _).2 (fE.2 (.inl O)),(h _).2 (fE.2 (.inr (.inl O)))⟩,(h _).2 (fE.2 (.inr (.inr O)))⟩
theorem aiV{r:List T3}(hd:∀t∈r,t.nd=true):rG r=false↔(r.map pZ).Nodup:=by
 unfold rG;rw[fx,List.Nodup,j_,ic];constructor
 · intro h i j hi hj hij e
   have hx:(r[j],j)∈r.zipIdx:=ij.2 (am hj);have:=h _ hx;rw[oe,fx] at this;have:=this r[i] (be (i:=i) (by rw[mx hij];exact am hi));exact this ((abf (hd _ (fq hi)) (hd _ (fq hj))).2 e)
 · rintro h ⟨t,j⟩ hx
   have hj:=ij.1 hx;simp only at hj;obtain⟨hjl,rfl⟩:=ap.1 hj;rw[oe,fx];intro s hs k;obtain⟨i,hi⟩:=dh.1 hs;rw[dm] at hi;split at hi
   · rename_i hij
     obtain⟨hil,rfl⟩:=ap.1 hi;exact h i j hil hjl hij ((abf (hd _ (fq hil)) (hd _ (fq hjl))).1 k)
   · cases hi
theorem Yt{v:P3}(hd:∀t∈l,t.nd=true):rL l u v=true↔rG (oQ l u v)=false:=by
 rw[aiV (ain l u v)];unfold rL oQ;rw[decide_eq_true_eq,((Ge (u:=u) (v:=v) l hd).map pZ).nodup_iff,((uS (pE u v l)).map pZ).nodup_iff,List.map_map];have e:(pE u v l).map (pZ∘dU)=(pE u v l).map pZ:=List.map_congr_left fun t ht=>Rq (aep l t ht);rw[e]
/-! ### The same conditions -/
theorem Oa{v:P3}(hne:u≠v)(hd:∀t∈l,t.nd=true)  : t∈lK u v l↔t∈l∧(t.has u && !t.has v)=true:=by
 unfold lK;rw[c_];refine and_congr_right fun ht=>?_;have h1:=aik (u:=u) (v:=v) (t:=t) hne;have h2:=aon (u:=u) (v:=v) hne (hd t ht);by_cases e:jV u v t=t
 · have:=h1.1 e
   simp[e,this]
 · have hu:t.has u=true:=by
    cases h:t.has u with
    | true=>rfl
    | false=>exact absurd (h1.2 h) e
   cases hm:(jV u v t).nd <;> cases hv:t.has v <;> simp[hm,hu,hv,e] at h2 ⊢
theorem abg{v:P3}(hne:u≠v)(hd:∀t∈l,t.nd=true)(hs:rL l u v=true):Gd l u v=true↔∀t∈lK u v l,yT (jV u v t) (oQ l u v)=false:=by
 have hk:((jP u v l++mS u v l).map pZ).Nodup:=of_decide_eq_true hs;rw[cv] at hk;obtain⟨k1,_,k3⟩:=fz.1 hk;have nd:∀z,z∈jP u v l∨z∈mS u v l→z.nd=true:=fun z hz=>hz.elim (Nz z) fun h=>hd z (aoV h);have apart:∀{s m:T3},s.nd=true→m.nd=true→pZ s≠pZ m→dU s≠dU m:=fun h1 h2 hk e=>hk (by rw[←Rq h1,←Rq h2,e]);rw[afP];constructor
 · rintro⟨h1,h2⟩ t ht
   have hm:jV u v t∈jP u v l:=fh ht;refine abb.2 fun s hs hne'=>?_;obtain⟨s',hs',rfl⟩:=(abd hd).1 hs;have e0:=aev (nd s' hs');rw[e0] at hne';have e1:yS (dU s') (jV u v t)=yS s' (jV u v t):=by rw[←xF (dU s'),e0,xF]
   rw[e1];rcases hs' with hs' | hs'
   · by_cases e:s'=jV u v t
     · exact absurd (by rw[e]) hne'
     · have k:(jP u v l).Pairwise fun s t=>yS s t=false∧s.nd=true∧t.nd=true:=h2.imp_of_mem fun {a b} ha hb h=>⟨h,Nz a ha,Nz b hb⟩
       exact (abc (fun a b ⟨h,n1,n2⟩=>⟨by rw[afO n2 n1];exact h,n2,n1⟩) k s' hs' _ hm e).1
   · exact h1 _ hm s' hs'
 · intro h
   have h':∀m∈jP u v l,∀s,(s∈jP u v l∨s∈mS u v l)→pZ s≠pZ m→yS s m=false:=fun m hm s hs hk=>by
    obtain⟨t,ht,rfl⟩:=eh.1 hm;have e0:=aev (nd s hs);have:=abb.1 (h t ht) (dU s) ((abd hd).2 ⟨s,hs,rfl⟩) (by rw[e0];exact apart (nd s hs) (Nz _ hm) hk);rw[←xF (dU s),e0,xF] at this;exact this
   refine⟨fun t ht s hs=>?_,?_⟩
   · exact h' t ht s (.inr hs) fun e=>k3 _ (fh ht) _ (fh hs) e.symm
   · rw[j_] at k1
     exact k1.imp_of_mem fun {a b} ha hb k=>h' b hb a (.inl ha) k
theorem Yu{v:P3}(hc:fW true l=0)(hne:u≠v):vV l u v=dK l u v:=by
 obtain⟨dg,_,_⟩:=aa4.1 hc;have hd:∀t∈l,t.nd=true:=fun t ht=>nd_of (dg t ht);have e1:decide (v∈iQ l u)=Nj l u v:=by
  cases h:Nj l u v with
  | true=>exact decide_eq_true (tO.2 h)
  | false=>exact decide_eq_false fun k=>by rw[tO.1 k] at h;cases h
 have e3:decide (((iQ l u).filter fun q=>decide (q∈iQ l v)).length=2)=yN l u v:=by
  unfold yN
  congr 2
  refine afN ((Wc l u).sublist lf) ?_ fun x=>?_
  · unfold nbL
    exact ((Ff l).sublist lf).sublist lf
  · rw[c_,c_,tO,vQ,decide_eq_true_eq,tO]
 have e4:(!rG (oQ l u v))=rL l u v:=by
  have:=Yt (u:=u) (v:=v) hd;cases h:rG (oQ l u v) <;> cases k:rL l u v <;> simp[h,k] at this ⊢
 have e5:(!Nk l u v)=Gc l u v:=by
  unfold Nk Gc;rw[Bool.not_and]
  congr 1
  rw[ff,ew,fx,ep];refine⟨fun h x hx=>?_,fun h x hx=>?_⟩
  · have:=h x (tO.2 (vQ.1 hx))
    have k:=tO (l:=l) (p:=v) (x:=x);by_cases a:x=v <;> cases b:Fa (bK l) x <;> cases d:Nj l v x <;> simp[a,b,d,k] at this ⊢
  · have:=h x (vQ.2 (tO.1 hx))
    have k:=tO (l:=l) (p:=v) (x:=x);by_cases a:x=v <;> cases b:Fa (bK l) x <;> cases d:Nj l v x <;> simp[a,b,d,k] at this ⊢
 have e6:(l.all fun t=>!(t.has u && !t.has v)||(!fN (jV u v t)&&decide (Tz t (jV u v t)=1)))=uT l u v:=by
  unfold uT;rw[ff,ep,ep];refine⟨fun h t ht=>?_,fun h t ht=>?_⟩
  · obtain⟨h1,h2⟩:=(Oa hne hd).1 ht
    have:=h t h1;rw[h2] at this;simpa using this
  · cases k:(t.has u && !t.has v) with
    | false=>rfl
    | true=>exact h t ((Oa hne hd).2 ⟨ht,k⟩)
 unfold vV dK vP abe;rw[e1,e3,e4,e5,e6,←Bool.and_assoc];cases hs:rL l u v with
 | false=>simp
 | true =>
  congr 1
  rw[ff,abg hne hd hs,ep];refine⟨fun h t ht=>?_,fun h t ht=>?_⟩
  · obtain⟨h1,h2⟩:=(Oa hne hd).1 ht
    have:=h t h1;rw[h2] at this;simpa using this
  · cases k:(t.has u && !t.has v) with
    | false=>rfl
    | true=>rw[h t ((Oa hne hd).2 ⟨ht,k⟩)];rfl
theorem ac6{q:P3→List Int}{cs:List lT}{c:lT}{k:Nat}(hm:∀d,d∈cs↔d∈acT l q)(hs:cs.Pairwise fun a b=>¬b.Lt a)(hk:cs[k]? = some c)(ha:dK l c.u c.v=true)(hb:∀j d,j<k→cs[j]? = some d→dK l d.u d.v=false):Fb l q=some c:=by
 refine alM (c_.2 ⟨(hm c).1 (be hk),ha⟩) fun d hd hlt=>?_;obtain⟨h1,h2⟩:=c_.1 hd;obtain⟨j,hj⟩:=dh.1 ((hm d).2 h1);rcases nl j k with h | h | h
 · rw[hb j d h hj] at h2;cases h2
 · rw[h,hk] at hj;cases hj;exact lT.lt_irrefl _ hlt
 · obtain⟨kl,rfl⟩:=ap.1 hk
   obtain⟨jl,rfl⟩:=ap.1 hj;exact ic.1 hs k j kl jl h hlt
theorem ac7{q:P3→List Int}{cs:List lT}(hm:∀d,d∈cs↔d∈acT l q)(hb:∀d∈cs,dK l d.u d.v=false):Fb l q=none:=by
 refine Lb.2 (List.filter_eq_nil_iff.2 fun d hd=>?_);rw[hb d ((hm d).2 hd)];exact fg
/-! ### The example: the octahedron -/
def oct(n:Int):List T3 :=
 let x0:P3:=⟨-n,0,0⟩;let x1:P3:=⟨n,0,0⟩;let y0:P3:=⟨0,-n,0⟩;let y1:P3:=⟨0,n,0⟩;let z0:P3:=⟨0,0,-n⟩;let z1:P3:=⟨0,0,n⟩
 [⟨y0,x0,z0⟩,⟨x1,y0,z0⟩,⟨x0,y1,z0⟩,⟨y1,x1,z0⟩,⟨x0,y0,z1⟩,⟨y0,x1,z1⟩,⟨y1,x0,z1⟩,⟨x1,y1,z1⟩]
def Ek:List T3:=eC (oct 10)
theorem afQ:fW true Ek=0:=by kernel_rfl
theorem alV:dK Ek ⟨10,0,0⟩ ⟨0,10,0⟩=true:=by kernel_rfl
theorem alW:dK Ek ⟨10,0,0⟩ ⟨-10,0,0⟩=false:=by kernel_rfl
theorem alX:(oQ Ek ⟨10,0,0⟩ ⟨0,10,0⟩).length=6:=by kernel_rfl
theorem abh:((Aj Ek 7).1.length,(Aj Ek 7).2)=(6,[(⟨-10,0,0⟩,⟨0,-10,0⟩)]):=by kernel_rfl
end Go.Lith
namespace Go.Proofs.YtfekpcimgncioaaGreatDoor
open Go.Proofs.Tryz
open Go.RowKit Go.Lith
set_option maxRecDepth 100000
attribute [local irreducible] ar cl fU bS cO Code.wp
attribute [local congr] pD gF gG gH gI gJ kL gK gL gM gN gQ gR gS gT gU gV gW eU eV gX gY iA iB iC kN dF dG cW dD gZ kM eW eX eY iD iE kO
variable{s t:E3}{k:Nat}
theorem alY(h:¬¬(s.1.x=t.1.x∧s.1.y=t.1.y∧s.1.z=t.1.z∧s.2.x=t.2.x∧s.2.y=t.2.y∧s.2.z=t.2.z)):s=t:=by
 obtain⟨h1,h2,h3,h4,h5,h6⟩:=Classical.not_not.1 h;exact Prod.ext (P3.eq h1 h2 h3) (P3.eq h4 h5 h6)
theorem alZ(h:¬(s.1.x=t.1.x∧s.1.y=t.1.y∧s.1.z=t.1.z∧s.2.x=t.2.x∧s.2.y=t.2.y∧s.2.z=t.2.z)):s≠t:=fun k=>h (by rw[k];simp only[and_self])
theorem aiX{α:Type}{xs ys:List α}(h:xs.take k=ys.take k)(hx:xs.length≤k)(hy:ys.length≤k):xs=ys:=by rwa [ay hx,ay hy] at h
theorem arA{n k:Int}(hi:rT n)(h0:0<k)(h1:k<4611686018427387904):dS prog 53 [.int .i64 n,.int .i64 k] (.int .i64 (n%k)):=by
 intro w;refine⟨bJ func53 (by kernel_rfl),?_⟩;have m:=Mem.refl w;haveI:Iw n:=⟨hi⟩
 have hb:=amX (n:=n) h0
 go_enter func53,ntmps53
 apply fI 8 [0] m;simp only[↓aD];refine aC (cP O O (by omega) O) ?_;apply aL 3 [0] m;simp only[↓aD];refine⟨by omega,?_⟩;refine aC (cP O O (by omega) (ak8 h0)) ?_;apply aL 3 [] m;simp only[↓aD];exact aT O O ⟨_,O,m.ext,O⟩
theorem aiY{xs ys:List E3}{N M cap cap2:Nat}{A A2:Option Addr}(w:aj)(hT:sU cY 6 w A N xs)(hU:sU cY 6 w A2 M ys)(hN:N≤100000000):dA prog 26 [.slice A N cap,.slice A2 M cap2] w (fun v _=>v=.bool (decide (xs=ys))):=by
 refine⟨bJ func26 (by kernel_rfl),?_⟩;have m:=Mem.refl w;have hxl:=hT.len;have hyl:=hU.len
 go_enter func26,ntmps26
 apply fI 13 [0,0] m;simp only[↓aD,anb];refine bD O ?_ ?_<;>intro hc1
 ·
  apply aK 5 [] m;simp only[↓aD];refine aT O O ?_;try simp only[zD,zE]
  exact⟨_,rfl,m.ext,by rw[decide_eq_false (fun h=>hc1 (by subst h;omega))]⟩
 ·
  apply aK 7 [0] m;simp only[↓aD];refine bX [5] [4,11,12,13,14,15,16,17,18,19,20,21,22,23,24,25] (fun n vs wl=>∃(k:Nat),vs=[.int .i64 (k:Int)]∧Mem w wl []∧(xs.take k=ys.take k)∧(k≤N)∧(n=N-k)) ?_ ?_
  ·
   exact⟨_,0,O,m,(by simp),bw _,O⟩
  · intro n vs wr hI u K1 hK1
    obtain⟨k,rfl,m,hq,hk,hn⟩:=hI;simp only[zu,zF,zG];apply aK 8 [0,0] m;simp only[↓aD,anb];refine bD O ?_ ?_<;>intro hc2
    ·
     obtain⟨x,hx,a,hA1,hrow1⟩:=hT.get (i:=k) (by omega);subst hA1;obtain⟨y,hy,a2,hA2,hrow2⟩:=hU.get (i:=k) (by omega);subst hA2;apply aK 4 [0] m;simp only[↓aD];refine mq m aB (by kernel_rfl) (aI aH (aI aH ?_));simp only[zz];refine aI (aF underlying46 Hp O O (by omega) (by omega) (bZ (ah _))) ?_;simp only[zz];refine ql O (fun u m=>(show eR _ _ _ _ (ed x) from (hrow1.ext m.ext).lies ahv Hp)) ?_;simp only[zz];refine aI aH (aI aH ?_);simp only[zz];refine aI (aF underlying46 Hp O O (by omega) (by omega) (bZ (ah _))) ?_;simp only[zz];refine ql O (fun u m=>(show eR _ _ _ _ (ed y) from (hrow2.ext m.ext).lies ahv Hp)) ?_;simp only[zz];refine aI (afn O O) (bC ?_);intro u m;refine gc ?_;simp only[zz];refine bD O ?_ ?_<;>intro hc3
     ·
      apply aK 5 [] m;simp only[↓aD];refine aT O O ?_;try simp only[zD,zE]
      exact⟨_,rfl,m.ext,by rw[decide_eq_false (fun h=>alZ hc3 (by subst h;exact Option.some.inj (hx.symm.trans hy)))]⟩
     ·
      have hxy:x=y:=alY hc3;subst hxy;apply aK 7 [0] m;simp only[↓aD];refine⟨by omega,?_⟩;exact hK1 (N-(k+1)) _ _ (by omega) (by kernel_rfl) ⟨k+1,O,m,(by rw[cH hx,cH hy,hq]),by omega,O⟩
    ·
     apply aK 6 [] m;simp only[↓aD];refine aT O O ?_;try simp only[zD,zE]
     exact⟨_,O,m.ext,by rw[decide_eq_true (aiX hq (by omega) (by omega))]⟩
theorem Rr(h:k<8):IntKind.i64.wrap (d_ IntKind.i64.bits (k:Int) &&& d_ IntKind.i64.bits 1).toNat=((k%2:Nat):Int):=by
 rcases k with _ | _ | _ | _ | _ | _ | _ | _ | k <;> first | rfl | omega
theorem ac8  : Int.fdiv (k:Int) (2^min (kh 1) IntKind.i64.bits)=((k / 2:Nat):Int):=by
 rw[show (2:Int)^min (kh 1) IntKind.i64.bits=2 from rfl,gu _ (by decide)];rfl
theorem Yv  : Int.fdiv (k:Int) (2^min (kh 2) IntKind.i64.bits)=((k / 4:Nat):Int):=by
 rw[show (2:Int)^min (kh 2) IntKind.i64.bits=4 from rfl,gu _ (by decide)];rfl
theorem aiZ{w:aj}{g i:Nat}{x y z u v t:Int}{T:az}(hB:fR w g [.int .i64 x,.int .i64 y,.int .i64 z,.int .i64 u,.int .i64 v,.int .i64 t] T)(hi:i<2):eR prog w 30 ⟨g,i*3,none⟩ (pt (if i=0 then ⟨x,y,z⟩ else ⟨u,v,t⟩)):=by
 rcases i with _ | _ | i
 · exact hB.lies aG aA O O
 · exact hB.lies aG aA O O
 · omega
def aoW(k:Nat):P3:=if k%2=0 then ⟨-10,0,0⟩ else ⟨10,0,0⟩
def aoX(k:Nat):P3:=if k / 2%2=0 then ⟨0,-10,0⟩ else ⟨0,10,0⟩
def aoY(k:Nat):P3:=if k / 4=0 then ⟨0,0,-10⟩ else ⟨0,0,10⟩
theorem o_y(h:k<8)(hp:Int.tmod (((k%2:Nat):Int)+((k / 2%2:Nat):Int)+((k / 4:Nat):Int)) 2=1):(oct 10)[k]? = some ⟨aoW k,aoX k,aoY k⟩:=by
 rcases k with _ | _ | _ | _ | _ | _ | _ | _ | k <;> first | rfl | (revert hp;decide) | omega
theorem o_n(h:k<8)(hp:¬Int.tmod (((k%2:Nat):Int)+((k / 2%2:Nat):Int)+((k / 4:Nat):Int)) 2=1):(oct 10)[k]? = some ⟨aoX k,aoW k,aoY k⟩:=by
 rcases k with _ | _ | _ | _ | _ | _ | _ | _ | k <;> first | rfl | (revert hp;decide) | omega
theorem ai0:∀t∈oct 10,IT t:=fun t ht=>by
 simp only[oct,an,cg,or_false] at ht;rcases ht with rfl | rfl | rfl | rfl | rfl | rfl | rfl | rfl <;> exact⟨⟨by decide,by decide,by decide⟩,⟨by decide,by decide,by decide⟩,⟨by decide,by decide,by decide⟩⟩
theorem aoZ(w:aj):dA prog 47 [.int .i64 10] w (SL 39 9 (Ek.flatMap aN) 8 w):=by
 refine⟨bJ func47 (by kernel_rfl),?_⟩;have m:=Mem.refl w
 go_enter func47,ntmps47
 apply fI 12 [] m;simp only[↓aD,vT,Fe,aa];refine⟨by omega,?_⟩;apply Nu 10 [0] m;simp only[↓aD,Vz,Fc,vT,aa];intro g1;refine⟨by omega,?_⟩;intro u m;apply Nu 9 [0] m;simp only[↓aD,Fe,Vz,Fc,vT,aa];intro g2;refine⟨by omega,?_⟩;intro u m;apply Nu 5 [0] m;simp only[↓aD,vT,Fe,Vz,Fc,aa];intro g3 u m;apply aU 3 [0] m;simp only[↓aD];refine aC aO ?_;replace m:=m.nilO 39 9;apply aL 7 [0] m;simp only[↓aD];refine bX [6,7] [8,9,10,29,30,31,32,33,34,35,36,37,38,39,40,41,42,43,44,45,46,47,48,49,50,51,52,53,54,55,56,57,58,59,60,61,62,63,64,65,66,67,68,69,70] (fun n vs wl=>∃(k:Nat) (A6:Option Addr) (cap6:Nat),vs=[.slice A6 k cap6,.int .i64 (k:Int)]∧Mem w wl [oI 39 9 A6 k cap6 (((oct 10).take k).flatMap aN),bI g3 [.int .i64 0,.int .i64 0,.int .i64 (-10),.int .i64 0,.int .i64 0,.int .i64 10] 56,bI g2 [.int .i64 0,.int .i64 (-10),.int .i64 0,.int .i64 0,.int .i64 10,.int .i64 0] 56,bI g1 [.int .i64 (-10),.int .i64 0,.int .i64 0,.int .i64 10,.int .i64 0,.int .i64 0] 56]∧(k≤8)∧(n=8-k)) ?_ ?_
 ·
  exact⟨_,0,_,_,O,m,bw _,O⟩
 · intro n vs wr hI u K1 hK1
   obtain⟨k,A6,cap6,rfl,m,hk,hn⟩:=hI;simp only[zu,zF,zG];apply aK 6 [0,0] m;simp only[↓aD];refine bD O ?_ ?_<;>intro hc1
   ·
    have hk8:k<8:=by omega
    apply aK 6 [0] m;simp only[↓aD];refine aC (lQ O O (Rr hk8)) ?_;simp only[zz];refine aC (aJ Eu aA O O (by omega) (by omega) (mW (ah _))) ?_;simp only[zz];refine aS O (show eR _ _ _ _ (pt (aoW k)) from aiZ (m.b 3 O) (jr _ (by decide))) ?_;simp only[zz];apply jS 6 [0,0] m;simp only[↓aD,eS,aQ,aa];intro g4 u m;refine aC (lF O O (by omega) ac8) (aC (lQ O O (Rr (k:=k / 2) (by omega))) ?_);simp only[zz];refine aC (aJ Eu aA O O (by omega) (by omega) (mW (ah _))) ?_;simp only[zz];refine aS O (show eR _ _ _ _ (pt (aoX k)) from aiZ (m.b 3 O) (jr _ (by decide))) ?_;simp only[zz];apply jS 6 [0,0] m;simp only[↓aD,eS,aQ,aa];intro g5 u m;refine aC (lF O O (by omega) Yv) ?_;simp only[zz];refine aC (aJ Eu aA O O (by omega) (by omega) (mW (ah _))) ?_;simp only[zz];refine aS O (show eR _ _ _ _ (pt (aoY k)) from aiZ (m.b 3 O) (by omega)) ?_;simp only[zz];apply jS 6 [0,0] m;simp only[↓aD,eS,aQ,aa];intro g6 u m;refine aC (lQ O O (Rr hk8)) ?_;apply aL 1 [0] m;simp only[↓aD];refine aC (lF O O (by omega) ac8) (aC (lQ O O (Rr (k:=k / 2) (by omega))) ?_);apply aL 2 [0] m;simp only[↓aD];refine⟨by omega,?_⟩;refine aC (lF O O (by omega) Yv) ?_;apply aL 1 [0] m;simp only[↓aD];refine⟨by omega,?_⟩;refine aC (cP O O (by omega) O) ?_;apply aL 2 [0,0] m;simp only[↓aD];refine bD O ?_ ?_<;>intro hc2
    ·
     have hx:=o_y hk8 hc2;apply aK 6 [2,1,0,0] m;simp only[↓aD,aQ,qS,aa];refine eZ O ?_;intro u g7 e_ h_ k_;replace m:=m.newB e_ h_ k_;simp only[zz];refine bM m 4 O O cD jK O (by decide) O O O (m.b 0 O).rowsO (fV O) (by omega) (by omega) ?_;intro A6 cap6 u m;simp only[zF,zG] at m;rw[show ((oct 10).take k).flatMap aN++_=((oct 10).take (k+1)).flatMap aN by rw[cH hx,a_];rfl] at m;apply aL 8 [0] m;simp only[↓aD];refine⟨by omega,?_⟩;exact hK1 (8-(k+1)) _ _ (by omega) (by kernel_rfl) ⟨k+1,_,_,O,(m.sel [false,false,false,false,true,true,true,true]),by omega,O⟩
    ·
     have hx:=o_n hk8 hc2;apply aK 6 [1,2,0,0] m;simp only[↓aD,aQ,qS,aa];refine eZ O ?_;intro u g7 e_ h_ k_;replace m:=m.newB e_ h_ k_;simp only[zz];refine bM m 4 O O cD jK O (by decide) O O O (m.b 0 O).rowsO (fV O) (by omega) (by omega) ?_;intro A6 cap6 u m;simp only[zF,zG] at m;rw[show ((oct 10).take k).flatMap aN++_=((oct 10).take (k+1)).flatMap aN by rw[cH hx,a_];rfl] at m;apply aL 8 [0] m;simp only[↓aD];refine⟨by omega,?_⟩;exact hK1 (8-(k+1)) _ _ (by omega) (by kernel_rfl) ⟨k+1,_,_,O,(m.sel [false,false,false,false,true,true,true,true]),by omega,O⟩
   ·
    obtain rfl:k=8:=by omega
    apply aK 4 [0] m;simp only[↓aD];refine bH O O (Iq (ts:=oct 10) _ ((m.o 0 O).tris ai0) (by decide)) ?_;rintro v u e_ ⟨A8,cap8,n8,hn8,rfl,h_⟩;replace m:=m.newO e_ h_;apply aL 3 [] m;simp only[↓aD];exact aT O O ⟨_,O,m.ext,⟨_,_,_,hn8,O,(m.o 0 O)⟩⟩
end Go.Proofs.YtfekpcimgncioaaGreatDoor
namespace Go.Lith
open Go.RowKit
def Nl(e:Nat):List Nat :=
 let v:=e%8
 let p:=[2*(v%2),v / 2%2*2,v / 4*2]
 p.set (e / 8) ((p.getD (e / 8) 0)+1)
def al0(v axis:Nat):Nat:=(if v / 2^axis%2=1 then v-2^axis else v)+8*axis
end Go.Lith
namespace Go.Proofs.YtfekpcimgncioaaGreatDoor
open Go.Proofs.Tryz
open Go.RowKit Go.Lith
set_option maxRecDepth 100000
attribute [local irreducible] ar cl fU bS cO Code.wp
attribute [local congr] pD gF gG gH gI gJ kL gK gL gM gN gQ gR gS gT gU gV gW eU eV gX gY iA iB iC kN dF dG cW dD gZ kM eW eX eY iD iE kO
variable{a x i N cap g3 n ci:Nat}{w:aj}{K:It}{ins:List Bool}
theorem Rs:IntKind.i64.wrap (1*2^min (kh 2) IntKind.i64.bits)=4:=by decide
section
variable {P:Program} {l:List ai} {x y:bx} {T T' ty:az} {k:IntKind} {m n r:Int}
theorem ai1(hx:ev l x=.int k m)(hy:ev l y=.int k n)(hr:k.wrap ((d_ k.bits m &&& ~~~ d_ k.bits n).toNat:Int)=r):iR P l (.binOp .andNot T x y T') ty (.int k r):=fun w o ho _=>by
 subst hr;simp[execOp,ho,cK,hx,hy,eqGuard,binOp,Op.intBits]
end
theorem anh(h:a<3):IntKind.i64.wrap (1*2^min (kh (a:Int)) IntKind.i64.bits)=((2^a:Nat):Int):=by
 rcases a with _ | _ | _ | a <;> first | rfl | omega
def evN(v a:Nat):Nat:=if v / 2^a%2=1 then v-2^a else v
theorem ai2(v a:Nat):evN v a≤v:=by unfold evN;split;exact Nat.sub_le ..;exact av _
theorem aqM{v:Nat}(hv:v<8)(h:a<3):IntKind.i64.wrap ((d_ IntKind.i64.bits (v:Int) &&& ~~~ d_ IntKind.i64.bits ((2^a:Nat):Int)).toNat:Int)=((evN v a:Nat):Int):=by
 rcases a with _ | _ | _ | a <;> rcases v with _ | _ | _ | _ | _ | _ | _ | _ | v <;> first | rfl | omega
theorem aqN(v a:Nat):((evN v a:Nat):Int)+8*(a:Int)=((al0 v a:Nat):Int):=by rw[show al0 v a=evN v a+8*a from rfl];omega
theorem xG{y z:Nat}(hx:x≤100)(hy:y≤100)(hz:z≤100):dS prog 144 [.int .i64 2,.int .i64 (x:Int),.int .i64 (y:Int),.int .i64 (z:Int)] (.int .i64 (((z*5+y)*5+x:Nat):Int)):=by
 intro w;refine⟨bJ func144 (by kernel_rfl),?_⟩;have m:=Mem.refl w
 go_enter func144,ntmps144
 apply fI 7 [0] m;simp only[↓aD];refine aC (qN O O (by omega) Rs) ?_;apply aL 17 [] m;simp only[↓aD];refine⟨by omega,?_⟩;refine aT O O ?_;try simp only[zD,zE]
 exact⟨_,O,m.ext,by simp⟩
theorem Cp{v:Nat}(hv:v<8)(ha:a<3):dS prog 287 [.int .i64 (v:Int),.int .i64 (a:Int)] (.int .i64 ((al0 v a:Nat):Int)):=by
 intro w;refine⟨bJ func287 (by kernel_rfl),?_⟩;have m:=Mem.refl w;have he:=ai2 v a
 go_enter func287,ntmps287
 apply fI 8 [0] m;simp only[↓aD];refine aC (qN O O (by omega) (anh ha)) ?_;simp only[zz];refine aC (ai1 O O (aqM hv ha)) ?_;simp only[zz];apply aL 6 [] m;simp only[↓aD];refine⟨by omega,?_⟩;refine aT O O ?_;try simp only[zD,zE]
 exact⟨_,O,m.ext,by rw[←aqN]⟩
theorem ao0{k:Nat}(h:k<8):IntKind.i64.wrap (d_ IntKind.i64.bits (k:Int) &&& d_ IntKind.i64.bits 2).toNat=((k / 2%2*2:Nat):Int):=by
 rcases k with _ | _ | _ | _ | _ | _ | _ | _ | k <;> first | rfl | omega
def plV(e:Nat):ai:=.agg #[.int .i64 (((Nl e).getD 0 0:Nat):Int),.int .i64 (((Nl e).getD 1 0:Nat):Int),.int .i64 (((Nl e).getD 2 0:Nat):Int)]
theorem aqO{e:Nat}(h:e<24):(Nl e).getD 0 0≤3∧(Nl e).getD 1 0≤3∧(Nl e).getD 2 0≤3:=by
 have:∀e,e<24→(Nl e).getD 0 0≤3∧(Nl e).getD 1 0≤3∧(Nl e).getD 2 0≤3:=by decide
 exact this e h
theorem aqP{e:Nat}(h:e<24):0≤([2*((e%8%2:Nat):Int),((e%8 / 2%2*2:Nat):Int),((e%8 / 4:Nat):Int)*2]:List Int).getD (e / 8) 0∧([2*((e%8%2:Nat):Int),((e%8 / 2%2*2:Nat):Int),((e%8 / 4:Nat):Int)*2]:List Int).getD (e / 8) 0≤3:=by
 have:∀e:Nat,e<24→0≤([2*((e%8%2:Nat):Int),((e%8 / 2%2*2:Nat):Int),((e%8 / 4:Nat):Int)*2]:List Int).getD (e / 8) 0∧([2*((e%8%2:Nat):Int),((e%8 / 2%2*2:Nat):Int),((e%8 / 4:Nat):Int)*2]:List Int).getD (e / 8) 0≤3:=by decide
 exact this e h
theorem al3{e:Nat}(h:e<24):over [lx .i64 (2*((e%8%2:Nat):Int)),.int .i64 ((e%8 / 2%2*2:Nat):Int),.int .i64 (((e%8 / 4:Nat):Int)*2)] (e / 8) [lx .i64 (([2*((e%8%2:Nat):Int),((e%8 / 2%2*2:Nat):Int),((e%8 / 4:Nat):Int)*2]:List Int).getD (e / 8) 0+1)]=[.int .i64 (((Nl e).getD 0 0:Nat):Int),.int .i64 (((Nl e).getD 1 0:Nat):Int),.int .i64 (((Nl e).getD 2 0:Nat):Int)]:=by
 rcases e with _ | _ | _ | _ | _ | _ | _ | _ | _ | _ | _ | _ | _ | _ | _ | _ | _ | _ | _ | _ | _ | _ | _ | _ | e <;> first | rfl | omega
theorem ani{g:Nat}{a c d:Int}{T:az}(hB:fR w g [.int .i64 a,.int .i64 c,.int .i64 d] T)(hi:i<3):eR prog w 3 ⟨g,i,none⟩ (.int .i64 (([a,c,d]:List Int).getD i 0)):=by
 rcases i with _ | _ | _ | i
 · exact hB.lies1 bF O
 · exact hB.lies1 bF O
 · exact hB.lies1 bF O
 · omega
theorem afR{e:Nat}(he:e<24):dS prog 289 [.int .i64 (e:Int)] (plV e):=by
 intro w;refine⟨bJ func289 (by kernel_rfl),?_⟩;have m:=Mem.refl w;have hb:=aqP he
 go_enter func289,ntmps289
 apply iY 7 [0] m;simp only[↓aD,xE];intro g1 u m;refine aC (cP O O (by omega) (amY (k:=e))) ?_;apply aL 5 [0] m;simp only[↓aD];refine aC (lQ O O (Rr (k:=e%8) (by omega))) ?_;apply aL 2 [0] m;simp only[↓aD];refine⟨by omega,?_⟩;refine aC (lQ O O (ao0 (k:=e%8) (by omega))) ?_;apply aL 1 [0] m;simp only[↓aD];refine aC (lF O O (by omega) (Yv (k:=e%8))) ?_;apply jS 8 [0,0] m;simp only[↓aD,sY,xE,uU,aa];intro g2;refine⟨by omega,?_⟩;intro u m;refine aC (jD O O (by omega) (show IntKind.i64.wrap ((e:Int).tdiv 8)=((e / 8:Nat):Int) from (show IntKind.i64.wrap ((e / 8:Nat):Int)=_ from bP (by omega) (by omega)))) ?_;simp only[zz];refine aC (aJ qO aV O O (by omega) (by omega) (fK (ah _))) ?_;simp only[zz];refine aS O (ani (m.b 0 O) (by omega)) ?_;simp only[zz];apply aL 1 [0] m;simp only[↓aD];refine⟨by omega,?_⟩;refine aC (aJ qO aV O O (by omega) (by omega) (fK (ah _))) ?_;simp only[zz];refine dB m 0 O O O aV (by simp only[aw,bn];omega) ⟨rfl,rfl⟩ ?_;intro u m;simp only[zz] at m;rw[al3 he] at m;apply jS 7 [0,1] m;simp only[↓aD,uU,aa];intro u m;exact aT O ⟨_,O,((m.b 1 O).full uG jJ)⟩ ⟨_,O,m.ext,O⟩
def Sm(p:P3):Prop:=(0≤p.x∧p.x≤3000000)∧(0≤p.y∧p.y≤3000000)∧0≤p.z∧p.z≤3000000
def SmT(t:T3):Prop:=Sm t.a∧Sm t.b∧Sm t.c
theorem ank{ts:List T3}(h:∀t∈ts,SmT t):∀t∈ts,IT t:=fun t ht=>by
 obtain⟨⟨a1,a2,a3⟩,⟨b1,b2,b3⟩,c1,c2,c3⟩:=h t ht;refine⟨⟨?_,?_,?_⟩,⟨?_,?_,?_⟩,⟨?_,?_,?_⟩⟩ <;> (unfold rT;omega)
theorem Yw{e:Nat}(he:e<24)(w:aj):dA prog 289 [.int .i64 (e:Int)] w (fun v _=>∃x y z:Int,v=.agg #[.int .i64 x,.int .i64 y,.int .i64 z]∧(0≤x∧x≤3)∧(0≤y∧y≤3)∧0≤z∧z≤3) :=
 (afR he w).mono fun v w' _ h=>by
  have hl:=aqO he;exact⟨_,_,_,h,⟨by omega,by omega⟩,⟨by omega,by omega⟩,by omega,by omega⟩
theorem afS{cx cy cz:Int}{e:Nat}(w:aj)(hx:0≤cx∧cx≤3)(hy:0≤cy∧cy≤3)(hz:0≤cz∧cz≤3)(he:e<24):dA prog 216 [.agg #[.int .i64 cx,.int .i64 cy,.int .i64 cz],.int .i64 524288,.int .i64 (e:Int)] w (fun v _=>∃p,v=pt p∧Sm p):=by
 refine⟨bJ func216 (by kernel_rfl),?_⟩;have m:=Mem.refl w
 go_enter func216,ntmps216
 apply iY 8 [0] m;simp only[↓aD,eS];intro g1 g2 u m;refine cQ m O O (Yw he _) ?_;rintro v u m ⟨px,py,pz,rfl,hpx,hpy,hpz⟩;apply jS 12 [0,2,0,0] m;simp only[↓aD,xE,uU,fF,dC,aa,ad,ag];intro g3;refine⟨by omega,?_⟩;intro u m;refine aC (jD O O (by omega) (show IntKind.i64.wrap ((524288:Int).tdiv 2)=262144 from O)) ?_;apply aL 9 [2,0,0] m;simp only[↓aD,fF,dC,ad,ag,aa];refine⟨by omega,?_⟩;refine aC (jD O O (by omega) (show IntKind.i64.wrap ((524288:Int).tdiv 2)=262144 from O)) ?_;apply aL 9 [2,0,0] m;simp only[↓aD,fF,dC,ad,ag,aa];refine⟨by omega,?_⟩;refine aC (jD O O (by omega) (show IntKind.i64.wrap ((524288:Int).tdiv 2)=262144 from O)) ?_;apply jS 6 [1] m;simp only[↓aD,vT,aQ,aa];refine⟨by omega,?_⟩;intro u m;exact aT O ⟨_,O,((m.b 1 O).full aG aA)⟩ ⟨_,O,m.ext,⟨cx*524288+px*262144,cy*524288+py*262144,cz*524288+pz*262144⟩,O,by simp only[Sm];omega⟩
theorem ac9{x:Int}(h0:0≤x)(h:x≤N*3000000)(hN:0<N):∃q,IntKind.i64.wrap (x.tdiv (N:Int))=q∧0≤q∧q≤3000000:=by
 have h1:x / (N:Int)≤3000000:=Int.ediv_le_of_le_mul (by omega) (by rw[Int.mul_comm];exact h);have h2:0≤x / (N:Int):=Int.ediv_nonneg h0 (by omega);exact⟨x / N,by rw[Int.tdiv_eq_ediv_of_nonneg h0];exact bP (by omega) (by omega),h2,h1⟩
theorem ao1  : ((i:Int)+1).tmod (N:Int)=(((i+1)%N:Nat):Int):=rfl
theorem aex{ps:List P3}{A:Option Addr}(w:aj)(hT:sU bO 3 w A N ps)(h0:0<N)(hN:N≤24)(hs:∀p∈ps,Sm p):dA prog 217 [.slice A N cap] w (fun v w'=>∃ts:List T3,(ts.length≤N∧∀t∈ts,SmT t)∧SL 39 9 (ts.flatMap aN) ts.length w v w'):=by
 refine⟨bJ func217 (by kernel_rfl),?_⟩;have m:=Mem.refl w;have htl:=hT.len
 go_enter func217,ntmps217
 apply fI 11 [0,0] m;simp only[↓aD,kC];refine bD O ?_ ?_<;>intro hc1
 ·
  obtain⟨p0,hp0,a,hA,hrow0⟩:=hT.get (i:=0) (by omega);subst hA;obtain⟨p1,hp1,a1,e1,hrow1⟩:=hT.get (i:=1) (by omega);cases e1;obtain⟨p2,hp2,a2,e2,hrow2⟩:=hT.get (i:=2) (by omega);cases e2;apply aK 1 [0] m;simp only[↓aD];refine mh m [] [(0,true),(1,true),(3,true),(4,true),(6,true),(7,true),(2,true),(5,true),(8,true),(9,true),(10,false),(11,true)] aB (by kernel_rfl) (bQ (fun _ _ _ _ _ h=>h)) (ol:=?_) ?hol ?_
  case hol=>simp only[zw,zQ,zR];try rfl
  intro u m;refine aZ aH ?_;simp only[zz];refine aZ (aF cN aA O O (by decide) (by omega) O) (aZ aH ?_);simp only[zz];refine aZ (aF cN aA O O (by decide) (by omega) O) (aZ aH ?_);simp only[zz];refine aZ (aF cN aA O O (by decide) (by omega) O) ?_;simp only[zz];refine eE O (fun u m=>(show eR _ _ _ _ (pt p0) from (hrow0.ext m.ext).lies aG aA)) ?_;simp only[zz];refine eE O (fun u m=>(show eR _ _ _ _ (pt p1) from (hrow1.ext m.ext).lies aG aA)) ?_;simp only[zz];refine eE O (fun u m=>(show eR _ _ _ _ (pt p2) from (hrow2.ext m.ext).lies aG aA)) ?_;simp only[zz];refine aZ (Kk O O O) (bL ?_);simp only[zz];refine eZ O ?_;intro u g1 e_ h_ k_;replace m:=m.newB e_ h_ k_;simp only[zz];replace m:=m.own 0 O (n:=1) (c:=9) O (iK O);simp only[zG] at m;refine aM ⟨m.sel [false],?_⟩;refine aZ aO (bY ?_);apply aU 1 [] m;simp only[↓aD];exact aT O O (⟨_,O,m.ext,[⟨p0,p1,p2⟩],⟨by simp;omega,fun t ht=>by
   cases bf.1 ht;exact⟨hs _ (be hp0),hs _ (be hp1),hs _ (be hp2)⟩⟩,_,_,_,O,O,(m.o 0 O)⟩)
 ·
  apply Vf 13 [0,0] m;simp only[↓aD,vT,eS,aQ,aa];intro g1 u m;refine bX [4] [22,23,24,25,26,27,28,29,30,31,32,33,34,35,36,37,38,39,40,41,42,43,44,45,46,47,48,49,50,51,52,53,54] (fun n vs wl=>∃(i:Nat) (x y z:Int),vs=[.int .i64 (i:Int)]∧Mem w wl [bI g1 [.int .i64 x,.int .i64 y,.int .i64 z] 30]∧(0≤x)∧(0≤y)∧(0≤z)∧(x≤i*3000000)∧(y≤i*3000000)∧(z≤i*3000000)∧(i≤N)∧(n=N-i)) ?_ ?_
  ·
   exact⟨_,0,0,0,0,O,m,by omega,by omega,by omega,by omega,by omega,by omega,by omega,O⟩
  · intro n vs wr hI u K1 hK1
    obtain⟨i,x,y,z,rfl,m,hx0,hy0,hz0,hx3,hy3,hz3,hi,hn⟩:=hI;simp only[zu,zF,zG];apply aK 8 [0,0] m;simp only[↓aD,kC];refine bD O ?_ ?_<;>intro hc2
    ·
     obtain⟨p,hp,a,hA,hrow⟩:=hT.get (i:=i) (by omega);subst hA;obtain⟨⟨hx1,hx2⟩,⟨hy1,hy2⟩,hz1,hz2⟩:=hs p (be hp);apply aK 4 [0] m;simp only[↓aD];refine cU m 9 aB (by kernel_rfl) ?_;simp only[zy];refine dZ 4 [0] ?_;simp only[↓aD,gD,dC,aa];refine aI (aF cN aA O O (by omega) (by omega) (bZ (ah _))) (dZ 1 [] ?_);simp only[↓aD,gD,aa];refine ql O (fun u m=>(lies1 ((hrow.ext m.ext) 0 _ O) bF)) ?_;simp only[zz];refine aI (fC O O (bP (by omega) (by omega))) (dZ 1 [] ?_);simp only[↓aD,gD,aa];refine bC ?_;intro u m;refine dB m 0 O O O aV (iK O) ⟨O,O⟩ ?_;intro u m;simp only[zz,zy,zx,over,aa] at m;refine aM ?_;apply aU 1 [0] m;simp only[↓aD];refine cU m 9 aB (by kernel_rfl) ?_;simp only[zy];refine dZ 4 [0] ?_;simp only[↓aD,iH,dC,aa];refine aI (aF cN aA O O (by omega) (by omega) (bZ (ah _))) (dZ 1 [] ?_);simp only[↓aD,iH,aa];refine ql O (fun u m=>(lies1 ((hrow.ext m.ext) 1 _ O) bF)) ?_;simp only[zz];refine aI (fC O O (bP (by omega) (by omega))) (dZ 1 [] ?_);simp only[↓aD,iH,aa];refine bC ?_;intro u m;refine dB (off:=1) m 0 O O O aV (iK O) ⟨O,O⟩ ?_;intro u m;simp only[zz,zy,zx,over,aa] at m;refine aM (gc ?_);refine cU m 9 aB (by kernel_rfl) ?_;simp only[zy];refine dZ 4 [0] ?_;simp only[↓aD,jA,dC,aa];refine aI (aF cN aA O O (by omega) (by omega) (bZ (ah _))) (dZ 1 [] ?_);simp only[↓aD,jA,aa];refine ql O (fun u m=>(lies1 ((hrow.ext m.ext) 2 _ O) bF)) ?_;simp only[zz];refine aI (fC O O (bP (by omega) (by omega))) (dZ 1 [] ?_);simp only[↓aD,jA,aa];refine bC ?_;intro u m;refine dB (off:=2) m 0 O O O aV (iK O) ⟨O,O⟩ ?_;intro u m;simp only[zz,zy,zx,over,aa] at m;refine aM ?_;apply aU 6 [0] m;simp only[↓aD];refine⟨by omega,?_⟩;exact hK1 (N-(i+1)) _ _ (by omega) (by kernel_rfl) ⟨i+1,_,_,_,O,m,by omega,by omega,by omega,by omega,by omega,by omega,by omega,O⟩
    ·
     obtain rfl:N=i:=by omega
     obtain⟨qx,hqx,hqx1,hqx2⟩:=ac9 hx0 (by omega) h0;obtain⟨qy,hqy,hqy1,hqy2⟩:=ac9 hy0 (by omega) h0;obtain⟨qz,hqz,hqz1,hqz2⟩:=ac9 hz0 (by omega) h0;apply aK 2 [0] m;simp only[↓aD];refine cU m 16 aB (by kernel_rfl) ?_;simp only[zy];refine dZ 4 [0] ?_;simp only[↓aD,gD,dC,kC,aa];refine aI (jD O O (by omega) hqx) (dZ 4 [0] ?_);simp only[↓aD,iH,dC,kC,aa];refine aI (jD O O (by omega) hqy) (dZ 4 [0] ?_);simp only[↓aD,jA,dC,kC,aa];refine aI (jD O O (by omega) hqz) (aI (wX O O O) (bC ?_));intro u m;simp only[zz];refine bN m 0 O O O aA (iK O) O ?_;intro u m;simp only[zy,zx,over,zF,zG,aa] at m;refine aM ?_;apply aU 2 [0] m;simp only[↓aD];refine aC aO ?_;replace m:=m.nilO 39 9;apply aL 7 [0] m;simp only[↓aD];refine bX [5,6] [71,72,73,74,75,76,77,78,79,80,81,82,83,84,85,86,87,88,89,90,91,92,93] (fun n vs wl=>∃(i:Nat) (ts:List T3) (A5:Option Addr) (cap5:Nat),vs=[.slice A5 i cap5,.int .i64 (i:Int)]∧Mem w wl [oI 39 9 A5 i cap5 (ts.flatMap aN),bI g1 [.int .i64 qx,.int .i64 qy,.int .i64 qz] 30]∧(ts.length=i)∧(∀t∈ts,SmT t)∧(i≤N)∧(n=N-i)) ?_ ?_
     ·
      exact⟨_,0,[],none,0,O,m,O,by simp,by omega,O⟩
     · intro n vs wr hI u K2 hK2
       obtain⟨i,ts,A5,cap5,rfl,m,htn,hts,hi,hn⟩:=hI;simp only[zu,zF,zG];apply aK 8 [0,0] m;simp only[↓aD,kC];refine bD O ?_ ?_<;>intro hc3
       ·
        obtain⟨p,hp,a,hA,hrowp⟩:=hT.get (i:=i) (by omega);subst hA;have hml:=jr (i+1) h0;obtain⟨q,hq,a2,e2,hrowq⟩:=hT.get (i:=(i+1)%N) hml;cases e2;apply aK 3 [0] m;simp only[↓aD];refine mh m [false,true] [(0,true),(1,true),(2,true),(3,true),(5,true),(6,true),(7,true),(8,true),(9,true),(10,true),(11,true),(4,true),(12,true),(13,true),(14,true),(15,false),(16,false),(17,true)] aB (by kernel_rfl) (bQ (fun _ _ _ _ _ h=>h)) (ol:=?_) ?hol ?_
        case hol=>simp only[zw,zQ,zR];try rfl
        intro u m;refine Hv 3 [] ?_;simp only[↓aD];refine aZ (aF cN aA O O (by omega) (by omega) (bZ (ah _))) (Hv 5 [] ?_);simp only[↓aD,kC];refine⟨by omega,?_⟩;refine aZ (cP O O (by omega) ao1) ?_;simp only[zz];refine aZ (aF cN aA O O (by omega) (by omega) (bZ (ah _))) ?_;simp only[zz];refine eE O (fun u m=>(show eR _ _ _ _ (pt p) from (hrowp.ext m.ext).lies aG aA)) ?_;simp only[zz];refine eE O (fun u m=>(show eR _ _ _ _ (pt q) from (hrowq.ext m.ext).lies aG aA)) ?_;simp only[zz];refine Hv 2 [0] ?_;simp only[↓aD,aQ,qS,aa];refine bL (eZ O ?_);intro u g2 e_ h_ k_;replace m:=m.newB e_ h_ k_;refine aM ⟨m.sel [false,false,true],?_⟩;refine bL ?_;simp only[zz];refine bM m 1 O O cD jK O (by decide) O O O (m.b 0 O).rowsO (fV O) (by omega) (by omega) ?_;intro A5 cap5 u m;simp only[zF,zG] at m;rw[show ts.flatMap aN++_=(ts++[(⟨p,q,⟨qx,qy,qz⟩⟩:T3)]).flatMap aN by rw[a_];rfl] at m;refine aM ⟨m.sel [false,false,true],?_⟩;refine aZ aO (bY ?_);apply aU 6 [0] m;simp only[↓aD];refine⟨by omega,?_⟩;exact hK2 (N-(i+1)) _ _ (by omega) (by kernel_rfl) ⟨i+1,_,_,_,O,(m.sel [false,true,true]),by simp;omega,fun t ht=>(bi.1 ht).elim (hts t) fun h=>by
         cases bf.1 h;exact⟨hs _ (be hp),hs _ (be hq),⟨hqx1,hqx2⟩,⟨hqy1,hqy2⟩,hqz1,hqz2⟩,by omega,O⟩
       ·
        apply aK 7 [] m;simp only[↓aD];exact aT O O ⟨_,O,m.ext,ts,⟨by omega,hts⟩,_,_,_,htn.symm,O,(m.o 0 O)⟩
theorem r_v{v:Int}(h : -1≤v∧v<8):∃r1 r2 r3:Int,IntKind.i64.wrap ((d_ IntKind.i64.bits v &&& d_ IntKind.i64.bits 1).toNat:Int)=r1∧IntKind.i64.wrap ((d_ IntKind.i64.bits v &&& d_ IntKind.i64.bits 2).toNat:Int)=r2∧Int.fdiv v (2^min (kh 2) IntKind.i64.bits)=r3∧(0≤r1∧r1≤1)∧(0≤r2∧r2≤2)∧-1≤r3∧r3≤1:=by
 have:v = -1∨v=0∨v=1∨v=2∨v=3∨v=4∨v=5∨v=6∨v=7:=by omega
 rcases this with rfl | rfl | rfl | rfl | rfl | rfl | rfl | rfl | rfl <;> exact⟨_,_,_,rfl,rfl,rfl,by decide,by decide,by decide⟩
theorem Lj{u v:Int}(hu : -9≤u∧u≤9)(hv : -9≤v∧v≤9) : -81≤u*v∧u*v≤81:=by
 have h:(u*v).natAbs≤9*9:=by rw[Int.natAbs_mul];exact Nat.mul_le_mul (by omega) (by omega)
 omega
theorem Dw{cs:List ai}{u:ai}(h:i<cs.length):over cs i [u]=cs.set i u:=by
 rw[List.set_eq_take_append_cons_drop,if_pos h,over];simp
theorem Rt{g p:Nat}:(⟨g,8,none⟩:Addr).add ((p:Int).toNat*1)=⟨g,8+p,none⟩:=by rw[ah,ll];exact eL ..
def lN(bs:List Bool)(ns:List Int):List ai:=bs.map bj++ns.map (lx .i64)
structure jL(bs:List Bool)(ns:List Int):Prop where
 b:bs.length=8
 n:ns.length=24
 r:∀x∈ns,-1≤x∧x<24
theorem jL.len{bs ns}(h:jL bs ns):(lN bs ns).length=32:=by simp[lN,h.b,h.n]
theorem jL.put{bs ns}(h:jL bs ns){p:Nat}{q:Int}(hq : -1≤q∧q<24):jL bs (ns.set p q):=⟨h.b,by rw[et];exact h.n,fun x hx=>(List.mem_or_eq_of_mem_set hx).elim (h.r x) fun e=>e▸hq⟩
theorem jL.over{bs ns}(h:jL bs ns){p:Nat}{q:Int}(hp:p<24):over (lN bs ns) (8+p) [.int .i64 q]=lN bs (ns.set p q):=by
 rw[Dw (by rw[h.len];omega),lN,List.set_append_right _ _ (by rw[ct,h.b];omega),ct,h.b,Nat.add_sub_cancel_left,lN,ow]
theorem jL.in{bs ns}(h:jL bs ns){v:Nat}(hv:v<8):(lN bs ns)[v]? = some (.bool (bs.getD v false)):=by
 rw[lN,List.getElem?_append_left (by rw[ct,h.b];exact hv),fb,am (by rw[h.b];exact hv),List.getD_eq_getElem?_getD,am (by rw[h.b];exact hv)];rfl
theorem jL.nx{bs ns}(h:jL bs ns){p:Nat}(hp:p<24):∃q,(lN bs ns)[8+p]? = some (.int .i64 q)∧-1≤q∧q<24:=by
 refine⟨ns[p]'(by rw[h.n];exact hp),?_,h.r _ (fq _)⟩;rw[lN,List.getElem?_append_right (by rw[ct,h.b];omega),ct,h.b,Nat.add_sub_cancel_left,fb,am (by rw[h.n];exact hp)];rfl
theorem afT{p q:Nat}{v a:Int}{b:Bool}(w:aj)(hp:p<24)(hq:q<24)(hv : -1≤v∧v<8)(ha:a=0∨a=1∨a=2):dA prog 326 [.int .i64 (p:Int),.int .i64 (q:Int),.int .i64 v,.int .i64 a,.bool b] w (fun v _=>∃c,v=.bool c):=by
 refine⟨bJ func326 (by kernel_rfl),?_⟩;have m:=Mem.refl w;obtain⟨r1,r2,r3,e1,e2,e3,h1,h2,h3⟩:=r_v hv
 go_enter func326,ntmps326
 apply fI 7 [0] m;simp only[↓aD];refine cQ m O O (Yw hp _) ?_;rintro v u m ⟨px,py,pz,rfl,hpx,hpy,hpz⟩;apply jS 6 [0,0] m;simp only[↓aD,xE,uU,aa];intro g1 u m;refine cQ m O O (Yw hq _) ?_;rintro v u m ⟨qx,qy,qz,rfl,hqx,hqy,hqz⟩;apply jS 6 [0,0] m;simp only[↓aD,xE,uU,aa];intro g2 u m;refine aC (lQ O O e1) ?_;apply aL 2 [0] m;simp only[↓aD];refine⟨by omega,?_⟩;refine aC (lQ O O e2) ?_;apply aL 1 [0] m;simp only[↓aD];refine aC (lF O O (by omega) e3) ?_;apply jS 6 [0] m;simp only[↓aD,sY,xE,uU,aa];intro g3;refine⟨by omega,?_⟩;intro u m;rcases ha with rfl | rfl | rfl
 ·
  have hm1:=Lj (u:=qy-py) (v:=r3*2-pz) (by omega) (by omega);have hm2:=Lj (u:=qz-pz) (v:=r2-py) (by omega) (by omega);apply aU 3 [0] m;simp only[↓aD,ak];refine⟨by omega,?_⟩;refine aC (cP (m:=1) (n:=3) (r:=1) O O (by decide) (by decide)) ?_;apply aL 6 [0] m;simp only[↓aD,ak];refine⟨by omega,?_⟩;refine aC (cP (m:=2) (n:=3) (r:=2) O O (by decide) (by decide)) ?_;apply aL 3 [0] m;simp only[↓aD];refine mq m aB (by kernel_rfl) (dZ 18 [1,2,0,2,1] ?_);simp only[↓aD,fF,dC,ad,ag,aa];refine⟨by omega,?_⟩;refine dZ 14 [2,0,2] ?_;simp only[↓aD,fF,dC,ad,ag,aa];refine⟨by omega,?_⟩;refine bC ?_;intro u m;generalize (qy-py)*(r3*2-pz)-(qz-pz)*(r2-py)=d;apply aU 1 [] m;simp only[↓aD];rcases (show b=false∨(b=true∧d<0)∨(b=true∧¬d<0) by cases b <;> simp <;> omega) with rfl | ⟨rfl,hd⟩ | ⟨rfl,hd⟩
  ·
   apply aU 17 [0] m;simp only[↓aD,fp,fj];exact aT O O ⟨_,O,m.ext,_,O⟩
  ·
   apply aU 17 [1] m;simp only[↓aD];refine⟨by omega,?_⟩;exact aT O O ⟨_,O,m.ext,_,O⟩
  ·
   apply aU 17 [2] m;simp only[↓aD,fp,fj];refine⟨by omega,?_⟩;exact aT O O ⟨_,O,m.ext,_,O⟩
 ·
  have hm1:=Lj (u:=qz-pz) (v:=2*r1-px) (by omega) (by omega);have hm2:=Lj (u:=qx-px) (v:=r3*2-pz) (by omega) (by omega);apply aU 3 [0] m;simp only[↓aD,ak];refine⟨by omega,?_⟩;refine aC (cP (m:=2) (n:=3) (r:=2) O O (by decide) (by decide)) ?_;apply aL 6 [0] m;simp only[↓aD,ak];refine⟨by omega,?_⟩;refine aC (cP (m:=3) (n:=3) (r:=0) O O (by decide) (by decide)) ?_;apply aL 3 [0] m;simp only[↓aD];refine mq m aB (by kernel_rfl) (dZ 18 [1,2,0,2,1] ?_);simp only[↓aD,fF,dC,ad,ag,aa];refine⟨by omega,?_⟩;refine dZ 14 [2,0,2] ?_;simp only[↓aD,fF,dC,ad,ag,aa];refine⟨by omega,?_⟩;refine bC ?_;intro u m;generalize (qz-pz)*(2*r1-px)-(qx-px)*(r3*2-pz)=d;apply aU 1 [] m;simp only[↓aD];rcases (show b=false∨(b=true∧d<0)∨(b=true∧¬d<0) by cases b <;> simp <;> omega) with rfl | ⟨rfl,hd⟩ | ⟨rfl,hd⟩
  ·
   apply aU 17 [0] m;simp only[↓aD,fp,fj];exact aT O O ⟨_,O,m.ext,_,O⟩
  ·
   apply aU 17 [1] m;simp only[↓aD];refine⟨by omega,?_⟩;exact aT O O ⟨_,O,m.ext,_,O⟩
  ·
   apply aU 17 [2] m;simp only[↓aD,fp,fj];refine⟨by omega,?_⟩;exact aT O O ⟨_,O,m.ext,_,O⟩
 ·
  have hm1:=Lj (u:=qx-px) (v:=r2-py) (by omega) (by omega);have hm2:=Lj (u:=qy-py) (v:=2*r1-px) (by omega) (by omega);apply aU 3 [0] m;simp only[↓aD,ak];refine⟨by omega,?_⟩;refine aC (cP (m:=3) (n:=3) (r:=0) O O (by decide) (by decide)) ?_;apply aL 6 [0] m;simp only[↓aD,ak];refine⟨by omega,?_⟩;refine aC (cP (m:=4) (n:=3) (r:=1) O O (by decide) (by decide)) ?_;apply aL 3 [0] m;simp only[↓aD];refine mq m aB (by kernel_rfl) (dZ 18 [1,2,0,2,1] ?_);simp only[↓aD,fF,dC,ad,ag,aa];refine⟨by omega,?_⟩;refine dZ 14 [2,0,2] ?_;simp only[↓aD,fF,dC,ad,ag,aa];refine⟨by omega,?_⟩;refine bC ?_;intro u m;generalize (qx-px)*(r2-py)-(qy-py)*(2*r1-px)=d;apply aU 1 [] m;simp only[↓aD];rcases (show b=false∨(b=true∧d<0)∨(b=true∧¬d<0) by cases b <;> simp <;> omega) with rfl | ⟨rfl,hd⟩ | ⟨rfl,hd⟩
  ·
   apply aU 17 [0] m;simp only[↓aD,fp,fj];exact aT O O ⟨_,O,m.ext,_,O⟩
  ·
   apply aU 17 [1] m;simp only[↓aD];refine⟨by omega,?_⟩;exact aT O O ⟨_,O,m.ext,_,O⟩
  ·
   apply aU 17 [2] m;simp only[↓aD,fp,fj];refine⟨by omega,?_⟩;exact aT O O ⟨_,O,m.ext,_,O⟩
theorem abi{w0:aj}{bs:List Bool}{ns:List Int}{p q:Nat}{v a:Int}{b:Bool}(m:Mem w0 w [bI g3 (lN bs ns) 264,K])(hc:jL bs ns)(hp:p<24)(hq:q<24)(hv : -1≤v∧v<8)(ha:a=0∨a=1∨a=2):vU prog 288 [.pointer (some ⟨g3,0,none⟩),.int .i64 (p:Int),.int .i64 (q:Int),.int .i64 v,.int .i64 a,.bool b] w (fun _ w'=>∃ns',jL bs ns'∧Mem w0 w' [bI g3 (lN bs ns') 264,K]):=by
 refine⟨bJ func288 (by kernel_rfl),?_⟩
 go_enter func288,ntmps288
 apply fI 7 [0] m;simp only[↓aD];refine cQ m O O (afT _ hp hq hv ha) ?_;rintro v u m ⟨c,rfl⟩;apply aL 6 [0] m;simp only[↓aD];refine gE O ?_ ?_<;>intro hc1
 ·
  apply aK 6 [0] m;simp only[↓aD,uY,aa];refine aC (aJ Gg aV O O (by omega) (by omega) Rt) ?_;simp only[zz];refine dB m 0 O O O aV (by rw[hc.len];show _+1≤_;omega) ⟨rfl,rfl⟩ ?_;intro u m;simp only[zz] at m;rw[hc.over hp] at m;apply aL 1 [0] m;simp only[↓aD];exact Ep O ⟨_,O,_,hc.put (by omega),m⟩
 ·
  apply aK 6 [0] m;simp only[↓aD,uY,aa];refine aC (aJ Gg aV O O (by omega) (by omega) Rt) ?_;simp only[zz];refine dB m 0 O O O aV (by rw[hc.len];show _+1≤_;omega) ⟨rfl,rfl⟩ ?_;intro u m;simp only[zz] at m;rw[hc.over hq] at m;apply aL 1 [0] m;simp only[↓aD];exact Ep O ⟨_,O,_,hc.put (by omega),m⟩
theorem Lk{os:List Nat}  : os.map rW++[.int .i64 (x:Int)]=(os++[x]).map rW:=by simp[rW]
theorem fv{b1 b2 sd k:Nat}(ha:a<3)(h1:b1=(a+1)%3)(h2:b2=(a+2)%3)(hs:sd=0∨sd=2^a)(hk:k<4):∃s1 s2 u1 u2:Nat,IntKind.i64.wrap (((k%2:Nat):Int)*2^min (kh (b1:Int)) IntKind.i64.bits)=(s1:Int)∧IntKind.i64.wrap (((k / 2:Nat):Int)*2^min (kh (b2:Int)) IntKind.i64.bits)=(s2:Int)∧IntKind.i64.wrap (1*2^min (kh (b1:Int)) IntKind.i64.bits)=(u1:Int)∧IntKind.i64.wrap (1*2^min (kh (b2:Int)) IntKind.i64.bits)=(u2:Int)∧sd+s1+s2<8∧(k%2=0→sd+s1+s2+u1<8)∧(k / 2=0→sd+s1+s2+u2<8):=by
 refine⟨k%2*2^b1,k / 2*2^b2,2^b1,2^b2,?_,?_,?_,?_,?_,?_,?_⟩ <;> subst h1 h2 <;> rcases a with _ | _ | _ | a <;> rcases k with _ | _ | _ | _ | k <;> rcases hs with rfl | rfl <;> first | omega | rfl | decide
theorem Ru{v:Nat}(hv:v<8)(ha:a<3):al0 v a<24:=by
 have h1:=ai2 v a;have h2:=aqN v a;omega
theorem al4{ls:List Nat}(h:ls.length=n)(hn:(n:Int)=2):∃x y,ls=[x,y]:=by
 match ls,h with
 | [x,y],_=>exact⟨x,y,rfl⟩
 | [],h=>simp at h;omega
 | [_],h=>simp at h;omega
 | _::_::_::l,h=>simp at h;omega
theorem abj{w0:aj}{bs:List Bool}{ns:List Int}{pos:Bool}(m:Mem w0 w [bI g3 (lN bs ns) 264,K])(hc:jL bs ns)(ha:a<3):vU prog 215 [.pointer (some ⟨g3,0,none⟩),.int .i64 (a:Int),.bool pos] w (fun _ w'=>∃ns',jL bs ns'∧Mem w0 w' [bI g3 (lN bs ns') 264,K]):=by
 refine⟨bJ func215 (by kernel_rfl),?_⟩;obtain⟨b1,hb1⟩:∃b1,b1=(a+1)%3:=⟨_,rfl⟩
 obtain⟨b2,hb2⟩:∃b2,b2=(a+2)%3:=⟨_,rfl⟩
 go_enter func215,ntmps215
 apply fI 9 [0] m;simp only[↓aD];refine Qg m [6] [16,17] (fun vs=>∃(sd:Nat),vs=[.int .i64 (sd:Int)]∧(sd=0∨sd=2^a)) ?_ ?_
 · intro K1 hK1
   refine gE O ?_ ?_<;>intro hc1
   ·
    apply aK 2 [0] m;simp only[↓aD];refine aC (qN O O (by omega) (anh ha)) ?_;apply aL 2 [0] m;simp only[↓aD];exact hK1 _ _ (by kernel_rfl) m ⟨_,O,.inr O⟩
   ·
    apply aK 1 [0] m;simp only[↓aD];exact hK1 _ _ (by kernel_rfl) m ⟨0,O,.inl O⟩
 · intro vs wr m hI u
   obtain⟨sd,rfl,hsd⟩:=hI;simp only[zu,zF,zG];apply aU 4 [0] m;simp only[↓aD];refine⟨by omega,?_⟩;refine aC (cP O O (by omega) (show ((a:Int)+1).tmod 3=(b1:Int) from by rw[hb1];rfl)) ?_;apply aL 6 [0] m;simp only[↓aD];refine⟨by omega,?_⟩;refine aC (cP O O (by omega) (show ((a:Int)+2).tmod 3=(b2:Int) from by rw[hb2];rfl)) ?_;apply aL 4 [0] m;simp only[↓aD];refine aC aO ?_;replace m:=m.nilO 3 1;apply aL 11 [0] m;simp only[↓aD];refine bX [9,10,11] [12,24,25,26,27,28,29,30,31,32,33,34,35,36,37,38,39,40,41,42,43,44,45,46,47,48,49,50,51,52,53,54,55,56,57,58,59,60,61,62,63,64,65,66,67,68,69,70,71,72,73,74,75,76,77,78,79,80,81,82,83,84,85,86,87,88,89,90,91,92,93,94,95,96,97,98,99] (fun n vs wl=>∃(k n9:Nat) (ins:Int) (ls:List Nat) (A9:Option Addr) (cap9:Nat),vs=[.slice A9 n9 cap9,.int .i64 ins,.int .i64 (k:Int)]∧Mem w0 wl [oI 3 1 A9 n9 cap9 (ls.map rW),bI g3 (lN bs ns) 264,K]∧(-1≤ins∧ins<8)∧(ls.length=n9)∧(∀x∈ls,x<24)∧(n9≤2*k)∧(k≤4)∧(n=4-k)) ?_ ?_
   ·
    exact⟨_,0,0,_,[],none,0,O,m,by omega,O,by simp,by omega,by omega,O⟩
   · intro n vs wr hI u K2 hK2
     obtain⟨k,n9,ins,ls,A9,cap9,rfl,m,hins,hln,hls,hn9,hk,hn⟩:=hI;simp only[zu,zF,zG];apply aK 6 [0,0] m;simp only[↓aD];refine bD O ?_ ?_<;>intro hc2
     ·
      have hk4:k<4:=by omega
      apply aK 4 [] m;simp only[↓aD];obtain⟨s1,s2,u1,u2,hs1,hs2,hu1,hu2,hv8,hw1,hw2⟩:=fv ha hb1 hb2 hsd hk4;refine gc (mq m aB (by kernel_rfl) (aI aH (aI aH ?_)));simp only[zz];refine aI (cP O O (by omega) (show (k:Int).tmod 2=((k%2:Nat):Int) from O)) (aI aH ?_);simp only[zz];refine aI (qN O O (by omega) hs1) ?_;simp only[zz];refine aI (fC O O (bP (by omega) (by omega))) (aI aH ?_);simp only[zz];refine aI (jD O O (by omega) ((show IntKind.i64.wrap ((k / 2:Nat):Int)=_ from bP (by omega) (by omega)))) (aI aH ?_);simp only[zz];refine aI (qN O O (by omega) hs2) ?_;simp only[zz];refine aI (fC O O (bP (by omega) (by omega))) (aI aO (bC ?_));intro u m;simp only[zz];obtain⟨v,hv⟩:∃v:Nat,v=sd+s1+s2:=⟨_,rfl⟩
      rw[←hv] at hv8 hw1 hw2;rw[show ((sd:Int)+(s1:Int)+(s2:Int))=(v:Int) by omega];apply aU 7 [0] m;simp only[↓aD,qA,aa];refine aC (aJ yQ eM O O (by omega) (by omega) (fK (ah _))) ?_;simp only[zz];refine aS O (lies1 ((m.b 1 O).cell (hc.in hv8)) oV) ?_;simp only[zz];apply aL 1 [0] m;simp only[↓aD];refine Qg m [10] [45] (fun vs=>∃(ins:Int),vs=[.int .i64 ins]∧(-1≤ins∧ins<8)) ?_ ?_
      · intro K3 hK3
        refine gE O ?_ ?_<;>intro hc3
        ·
         apply aK 4 [0] m;simp only[↓aD];exact hK3 _ _ (by kernel_rfl) m ⟨_,O,by omega⟩
        ·
         apply aK 1 [0] m;simp only[↓aD];exact hK3 _ _ (by kernel_rfl) m ⟨_,O,hins⟩
      · intro vs wr m hI u
        obtain⟨ins,rfl,hins⟩:=hI;simp only[zu,zF,zG];apply aU 2 [] m;simp only[↓aD];by_cases hk13:k%2=0
        ·
         have hvw:=hw1 hk13;refine gc (mq m aB (by kernel_rfl) (aI aH ?_));simp only[zz];refine aI (cP O O (by omega) (show (k:Int).tmod 2=((k%2:Nat):Int) from O)) ?_;simp only[zz];refine aI (xT O O (by omega)) (aI aH (dH O (aI aH (dH O (aI aH ?_)))));simp only[zz];refine dH O (aI (dJ O) ?_);refine dZ 1 [] ?_;simp only[↓aD,qA,aa];refine dH O (aI (aJ yQ eM O O (by omega) (by omega) (fK (ah _))) (dH O ?_));simp only[zz];refine ql O (fun u m=>(lies1 ((m.b 1 O).cell (hc.in hv8)) oV)) ?_;simp only[zz];refine dH O (aI aH (dH O (aI aH (dH O (aI aH (dH O ?_))))));simp only[zz];refine aI (qN O O (by omega) hu1) (dH O ?_);simp only[zz];refine aI (fC O O (bP (by omega) (by omega))) (dH O (aI (dJ O) ?_));refine dZ 1 [] ?_;simp only[↓aD,qA,aa];refine dH O (aI (aJ yQ eM O O (by omega) (by omega) (fK (show _=v+u1 by omega))) (dH O ?_));simp only[zz];refine ql O (fun u m=>(lies1 ((m.b 1 O).cell (hc.in hvw)) oV)) ?_;simp only[zz];refine dH O (aI (Kb Pu O O) (aI (rH O) (bC ?_)));intro u m;refine gc ?_;simp only[zz];refine iP m 0 [9] [67,68,69,70,71,72] (fun vs i=>∃(n9:Nat) (ls:List Nat) (A9:Option Addr) (cap9:Nat),vs=[.slice A9 n9 cap9]∧i=oI 3 1 A9 n9 cap9 (ls.map rW)∧(ls.length=n9)∧(∀x∈ls,x<24)∧(n9≤2*k+1)) ?_ ?_
         · intro K4 hK4
           refine gE O ?_ ?_<;>intro hc4
           ·
            apply aK 4 [0] m;simp only[↓aD];refine lD m O O (Cp hv8 (show b1<3 by omega)) ?_;intro u m;simp only[zz];refine gA dN (z:=.int .i64 0) (by kernel_rfl) O O O ?_;intro u g6 e_ h_ k_;replace m:=m.newB e_ h_ k_;simp only[zz];refine bM m 1 O O dN sV O (by decide) O O O (m.b 0 O).rowsO (fV O) (by omega) (by omega) ?_;intro A9 cap9 u m;simp only[zF,zG] at m;simp only[zA,zB,zC,zD,zE,Lk] at m;apply aL 2 [0] m;simp only[↓aD];exact hK4 _ _ _ (by kernel_rfl) (m.sel [false,true,true,true]) ⟨_,_,_,_,O,O,by simp;omega,fun x hx=>(bi.1 hx).elim (hls x) fun h=>by cases bf.1 h;exact Ru hv8 (by omega),by omega⟩
           ·
            apply aK 1 [0] m;simp only[↓aD];exact hK4 _ _ _ (by kernel_rfl) m ⟨_,_,_,_,O,O,hln,hls,by omega⟩
         · intro vs i wr m hI u
           obtain⟨n9,ls,A9,cap9,rfl,rfl,hln,hls,hn9⟩:=hI;simp only[zF,zG] at m;simp only[zu,zF,zG];apply aU 1 [] m;simp only[↓aD];by_cases hk15:k / 2=0
           ·
            have hvw:=hw2 hk15;refine gc (mq m aB (by kernel_rfl) (aI aH ?_));simp only[zz];refine aI (jD O O (by omega) ((show IntKind.i64.wrap ((k / 2:Nat):Int)=_ from bP (by omega) (by omega)))) ?_;simp only[zz];refine aI (xT O O (by omega)) (aI aH (dH O (aI aH (dH O (aI aH ?_)))));simp only[zz];refine dH O (aI (dJ O) ?_);refine dZ 1 [] ?_;simp only[↓aD,qA,aa];refine dH O (aI (aJ yQ eM O O (by omega) (by omega) (fK (ah _))) (dH O ?_));simp only[zz];refine ql O (fun u m=>(lies1 ((m.b 1 O).cell (hc.in hv8)) oV)) ?_;simp only[zz];refine dH O (aI aH (dH O (aI aH (dH O (aI aH (dH O ?_))))));simp only[zz];refine aI (qN O O (by omega) hu2) (dH O ?_);simp only[zz];refine aI (fC O O (bP (by omega) (by omega))) (dH O (aI (dJ O) ?_));refine dZ 1 [] ?_;simp only[↓aD,qA,aa];refine dH O (aI (aJ yQ eM O O (by omega) (by omega) (fK (show _=v+u2 by omega))) (dH O ?_));simp only[zz];refine ql O (fun u m=>(lies1 ((m.b 1 O).cell (hc.in hvw)) oV)) ?_;simp only[zz];refine dH O (aI (Kb Pu O O) (aI (rH O) (bC ?_)));intro u m;refine gc ?_;simp only[zz];refine iP m 0 [9] [94,95,96,97,98,99] (fun vs i=>∃(n9:Nat) (ls:List Nat) (A9:Option Addr) (cap9:Nat),vs=[.slice A9 n9 cap9]∧i=oI 3 1 A9 n9 cap9 (ls.map rW)∧(ls.length=n9)∧(∀x∈ls,x<24)∧(n9≤2*k+2)) ?_ ?_
            · intro K5 hK5
              refine gE O ?_ ?_<;>intro hc5
              ·
               apply aK 4 [0] m;simp only[↓aD];refine lD m O O (Cp hv8 (show b2<3 by omega)) ?_;intro u m;simp only[zz];refine gA dN (z:=.int .i64 0) (by kernel_rfl) O O O ?_;intro u g6 e_ h_ k_;replace m:=m.newB e_ h_ k_;simp only[zz];refine bM m 1 O O dN sV O (by decide) O O O (m.b 0 O).rowsO (fV O) (by omega) (by omega) ?_;intro A9 cap9 u m;simp only[zF,zG] at m;simp only[zA,zB,zC,zD,zE,Lk] at m;apply aL 2 [0] m;simp only[↓aD];exact hK5 _ _ _ (by kernel_rfl) (m.sel [false,true,true,true]) ⟨_,_,_,_,O,O,by simp;omega,fun x hx=>(bi.1 hx).elim (hls x) fun h=>by cases bf.1 h;exact Ru hv8 (by omega),by omega⟩
              ·
               apply aK 1 [0] m;simp only[↓aD];exact hK5 _ _ _ (by kernel_rfl) m ⟨_,_,_,_,O,O,hln,hls,by omega⟩
            · intro vs i wr m hI u
              obtain⟨n9,ls,A9,cap9,rfl,rfl,hln,hls,hn9⟩:=hI;simp only[zF,zG] at m;simp only[zu,zF,zG];apply aU 6 [0] m;simp only[↓aD];refine⟨by omega,?_⟩;exact hK2 (4-(k+1)) _ _ (by omega) (by kernel_rfl) ⟨k+1,_,_,_,_,_,O,m,hins,hln,hls,by omega,by omega,O⟩
           ·
            refine gc (mq m aB (by kernel_rfl) (aI aH ?_));simp only[zz];refine aI (jD O O (by omega) ((show IntKind.i64.wrap ((k / 2:Nat):Int)=_ from bP (by omega) (by omega)))) ?_;simp only[zz];refine aI (Xe O O (by omega)) (aI aH (pI O (pI O ?_)));simp only[zz];refine pI O (dZ 14 [] ?_);simp only[↓aD];refine bC ?_;intro u m;apply aU 8 [0] m;simp only[↓aD];refine⟨by omega,?_⟩;exact hK2 (4-(k+1)) _ _ (by omega) (by kernel_rfl) ⟨k+1,_,_,_,_,_,O,m,hins,hln,hls,by omega,by omega,O⟩
        ·
         refine gc (mq m aB (by kernel_rfl) (aI aH ?_));simp only[zz];refine aI (cP O O (by omega) (show (k:Int).tmod 2=((k%2:Nat):Int) from O)) ?_;simp only[zz];refine aI (Xe O O (by omega)) (aI aH (pI O (pI O ?_)));simp only[zz];refine pI O (dZ 14 [] ?_);simp only[↓aD];refine bC ?_;intro u m;apply aU 3 [] m;simp only[↓aD];by_cases hk15:k / 2=0
         ·
          have hvw:=hw2 hk15;refine gc (mq m aB (by kernel_rfl) (aI aH ?_));simp only[zz];refine aI (jD O O (by omega) ((show IntKind.i64.wrap ((k / 2:Nat):Int)=_ from bP (by omega) (by omega)))) ?_;simp only[zz];refine aI (xT O O (by omega)) (aI aH (dH O (aI aH (dH O (aI aH ?_)))));simp only[zz];refine dH O (aI (dJ O) ?_);refine dZ 1 [] ?_;simp only[↓aD,qA,aa];refine dH O (aI (aJ yQ eM O O (by omega) (by omega) (fK (ah _))) (dH O ?_));simp only[zz];refine ql O (fun u m=>(lies1 ((m.b 1 O).cell (hc.in hv8)) oV)) ?_;simp only[zz];refine dH O (aI aH (dH O (aI aH (dH O (aI aH (dH O ?_))))));simp only[zz];refine aI (qN O O (by omega) hu2) (dH O ?_);simp only[zz];refine aI (fC O O (bP (by omega) (by omega))) (dH O (aI (dJ O) ?_));refine dZ 1 [] ?_;simp only[↓aD,qA,aa];refine dH O (aI (aJ yQ eM O O (by omega) (by omega) (fK (show _=v+u2 by omega))) (dH O ?_));simp only[zz];refine ql O (fun u m=>(lies1 ((m.b 1 O).cell (hc.in hvw)) oV)) ?_;simp only[zz];refine dH O (aI (Kb Pu O O) (aI (rH O) (bC ?_)));intro u m;refine gc ?_;simp only[zz];refine iP m 0 [9] [94,95,96,97,98,99] (fun vs i=>∃(n9:Nat) (ls:List Nat) (A9:Option Addr) (cap9:Nat),vs=[.slice A9 n9 cap9]∧i=oI 3 1 A9 n9 cap9 (ls.map rW)∧(ls.length=n9)∧(∀x∈ls,x<24)∧(n9≤2*k+2)) ?_ ?_
          · intro K6 hK6
            refine gE O ?_ ?_<;>intro hc5
            ·
             apply aK 4 [0] m;simp only[↓aD];refine lD m O O (Cp hv8 (show b2<3 by omega)) ?_;intro u m;simp only[zz];refine gA dN (z:=.int .i64 0) (by kernel_rfl) O O O ?_;intro u g6 e_ h_ k_;replace m:=m.newB e_ h_ k_;simp only[zz];refine bM m 1 O O dN sV O (by decide) O O O (m.b 0 O).rowsO (fV O) (by omega) (by omega) ?_;intro A9 cap9 u m;simp only[zF,zG] at m;simp only[zA,zB,zC,zD,zE,Lk] at m;apply aL 2 [0] m;simp only[↓aD];exact hK6 _ _ _ (by kernel_rfl) (m.sel [false,true,true,true]) ⟨_,_,_,_,O,O,by simp;omega,fun x hx=>(bi.1 hx).elim (hls x) fun h=>by cases bf.1 h;exact Ru hv8 (by omega),by omega⟩
            ·
             apply aK 1 [0] m;simp only[↓aD];exact hK6 _ _ _ (by kernel_rfl) m ⟨_,_,_,_,O,O,hln,hls,by omega⟩
          · intro vs i wr m hI u
            obtain⟨n9,ls,A9,cap9,rfl,rfl,hln,hls,hn9⟩:=hI;simp only[zF,zG] at m;simp only[zu,zF,zG];apply aU 6 [0] m;simp only[↓aD];refine⟨by omega,?_⟩;exact hK2 (4-(k+1)) _ _ (by omega) (by kernel_rfl) ⟨k+1,_,_,_,_,_,O,m,hins,hln,hls,by omega,by omega,O⟩
         ·
          refine gc (mq m aB (by kernel_rfl) (aI aH ?_));simp only[zz];refine aI (jD O O (by omega) ((show IntKind.i64.wrap ((k / 2:Nat):Int)=_ from bP (by omega) (by omega)))) ?_;simp only[zz];refine aI (Xe O O (by omega)) (aI aH (pI O (pI O ?_)));simp only[zz];refine pI O (dZ 14 [] ?_);simp only[↓aD];refine bC ?_;intro u m;apply aU 8 [0] m;simp only[↓aD];refine⟨by omega,?_⟩;exact hK2 (4-(k+1)) _ _ (by omega) (by kernel_rfl) ⟨k+1,_,_,_,_,_,O,m,hins,hln,hls,by omega,by omega,O⟩
     ·
      apply aK 8 [0,0] m;simp only[↓aD,lA];refine iP m 1 [] [103,104,105,106,107,108,109,110,111,112,113] (fun vs i=>∃(ns:List Int),vs=[]∧i=bI g3 (lN bs ns) 264∧(jL bs ns)) ?_ ?_
      · intro K7 hK7
        refine bD O ?_ ?_<;>intro hc6
        ·
         obtain⟨x,y,rfl⟩:=al4 hln hc6;obtain⟨g9,rfl⟩:=(m.o 0 rfl).some (by omega);refine mh m [true,false,true] [(0,true),(1,true),(2,true),(4,true),(5,true),(7,true),(8,true),(9,true),(3,true),(6,true),(10,false)] aB (by kernel_rfl) (bQ (fun _ _ _ _ _ h=>h)) (ol:=?_) ?hol ?_
         case hol=>simp only[zw,zQ,zR];try rfl
         intro u m;refine aZ aH (aZ aH ?_);simp only[zz];refine aZ (aF dN aV O O (by decide) (by omega) O) (aZ aH ?_);simp only[zz];refine aZ (aF dN aV O O (by decide) (by omega) O) (Hv 3 [] ?_);simp only[↓aD];refine eE O (fun u m=>(lies1 ((m.o 0 O).rows 0 _ O) bF)) ?_;simp only[zz];refine eE O (fun u m=>(lies1 ((m.o 0 O).rows 1 _ O) bF)) ?_;simp only[zz];refine bL ?_;replace m:=m.pull 1 O;simp only[dW,dX,zF,zG] at m;replace m:=m.pack1;refine kJ O O (abi m hc (hls x (by simp)) (hls y (by simp)) hins (by omega)) ?_;rintro v u ⟨ns2,hc2,m⟩;simp only[zz];replace m:=Mem.unpack [_] m;simp only[cj,b_] at m;replace m:=m.s01;refine aM ⟨m.sel [true,false,true],?_⟩;refine bY (gk ?_);exact hK7 _ _ _ (by kernel_rfl) m ⟨_,O,O,hc2⟩
        ·
         apply aK 1 [0] m;simp only[↓aD];exact hK7 _ _ _ (by kernel_rfl) m ⟨_,O,O,hc⟩
      · intro vs i wr m hI u
        obtain⟨ns,rfl,rfl,hc⟩:=hI;simp only[zF,zG] at m;simp only[zu,zF,zG];apply aU 6 [0,0] m;simp only[↓aD,lA];refine bD O ?_ ?_<;>intro hc7
        ·
         apply aK 5 [0] m;simp only[↓aD];refine bX [13] [14,117,118,119,120,121,122,123,124,125,126,127,128,129,130,131,132,133,134,135,136,137,138,139,140,141,142,143,144,145,146,147,148] (fun n vs wl=>∃(k:Nat) (ns:List Int),vs=[.int .i64 (k:Int)]∧Mem w0 wl [bI g3 (lN bs ns) 264,K]∧(jL bs ns)∧(k≤4)∧(n=4-k)) ?_ ?_
         ·
          exact⟨_,0,_,O,(m.sel [false,true,true]),hc,by omega,O⟩
         · intro n vs wr hI u K8 hK8
           obtain⟨k,ns,rfl,m,hc,hk,hn⟩:=hI;simp only[zu,zF,zG];apply aK 6 [0,0] m;simp only[↓aD];refine bD O ?_ ?_<;>intro hc8
           ·
            have hk4:k<4:=by omega
            apply aK 4 [] m;simp only[↓aD];obtain⟨s1,s2,u1,u2,hs1,hs2,hu1,hu2,hv8,hw1,hw2⟩:=fv ha hb1 hb2 hsd hk4;refine gc (mq m aB (by kernel_rfl) (aI aH (aI aH ?_)));simp only[zz];refine aI (cP O O (by omega) (show (k:Int).tmod 2=((k%2:Nat):Int) from O)) (aI aH ?_);simp only[zz];refine aI (qN O O (by omega) hs1) ?_;simp only[zz];refine aI (fC O O (bP (by omega) (by omega))) (aI aH ?_);simp only[zz];refine aI (jD O O (by omega) ((show IntKind.i64.wrap ((k / 2:Nat):Int)=_ from bP (by omega) (by omega)))) (aI aH ?_);simp only[zz];refine aI (qN O O (by omega) hs2) ?_;simp only[zz];refine aI (fC O O (bP (by omega) (by omega))) (aI aO (bC ?_));intro u m;simp only[zz];obtain⟨v,hv⟩:∃v:Nat,v=sd+s1+s2:=⟨_,rfl⟩
            rw[←hv] at hv8 hw1 hw2;rw[show ((sd:Int)+(s1:Int)+(s2:Int))=(v:Int) by omega];apply aU 6 [0] m;simp only[↓aD,qA,aa];refine aC (aJ yQ eM O O (by omega) (by omega) (fK (ah _))) ?_;simp only[zz];refine aS O (lies1 ((m.b 0 O).cell (hc.in hv8)) oV) ?_;simp only[zz];apply aL 1 [0] m;simp only[↓aD];refine iP m 0 [] [138,139,140,141,142,143,144,145,146,147,148] (fun vs i=>∃(ns:List Int),vs=[]∧i=bI g3 (lN bs ns) 264∧(jL bs ns)) ?_ ?_
            · intro K9 hK9
              refine gE O ?_ ?_<;>intro hc9
              ·
               apply aK 4 [0] m;simp only[↓aD];refine nF m O O (Cp hv8 (show b1<3 by omega)) 2 [0] ?_;simp only[↓aD];intro u m;refine nF m O O (Cp hv8 (show b2<3 by omega)) 3 [0] ?_;simp only[↓aD];intro u m;refine kJ O O (abi m hc (Ru hv8 (by omega)) (Ru hv8 (by omega)) (by omega) (by omega)) ?_;rintro v u ⟨ns2,hc2,m⟩;apply aL 1 [0] m;simp only[↓aD];exact hK9 _ _ _ (by kernel_rfl) m ⟨_,O,O,hc2⟩
              ·
               apply aK 1 [0] m;simp only[↓aD];exact hK9 _ _ _ (by kernel_rfl) m ⟨_,O,O,hc⟩
            · intro vs i wr m hI u
              obtain⟨ns,rfl,rfl,hc⟩:=hI;simp only[zF,zG] at m;simp only[zu,zF,zG];apply aU 6 [0] m;simp only[↓aD];refine⟨by omega,?_⟩;exact hK8 (4-(k+1)) _ _ (by omega) (by kernel_rfl) ⟨k+1,_,O,m,hc,by omega,O⟩
           ·
            apply aK 1 [0] m;simp only[↓aD];exact Ep O ⟨_,O,_,hc,m.sel [true,true]⟩
        ·
         apply aK 1 [0] m;simp only[↓aD];exact Ep O ⟨_,O,_,hc,m.sel [false,true,true]⟩
def Wd(b:Bool):List ai:=[.bool b]
def Yx:List Bool→Nat
 | []=>0
 | b::l=>(if b then 0 else 1)+Yx l
theorem Hh:∀{l:List Bool} {x:Nat},l[x]? = some false→Yx (l.set x true)+1=Yx l
 | b::l,0,h=>by
  cases (show b=false by simpa using h);simp[Yx];omega
 | b::l,x+1,h=>by
  have:=Hh (l:=l) (x:=x) (by simpa using h);simp only[List.set_cons_succ,Yx];omega
 | [],x,h=>by simp at h
theorem jL.putB{bs ns}(h:jL bs ns){v:Nat}{q:Bool}:jL (bs.set v q) ns:=⟨by rw[et];exact h.b,h.n,h.r⟩
theorem jL.overB{bs ns}(h:jL bs ns){v:Nat}{q:Bool}(hv:v<8):Lith.over (lN bs ns) v [.bool q]=lN (bs.set v q) ns:=by
 rw[Dw (by rw[h.len];omega),lN,List.set_append_left _ _ (by rw[ct,h.b];exact hv),lN,ow]
theorem al5{a:Addr}{v:ai}(h:mD w (a.add (n*1)) [v]):w.cell? (a.add n)=some v:=by
 have:=h 0 v rfl;rw[ll] at this;exact this
theorem al6{sn:List Bool}(h:x<sn.length):over (sn.map bj) x [.bool true]=(sn.set x true).map bj:=by
 rw[Dw (by rw[ct];exact h),ow]
theorem al7{A:Option Addr}{cx cy cz:Nat}(w:aj)(hF:sU Wd 1 w A 125 ins)(hx:cx≤3)(hy:cy≤3)(hz:cz≤3):dA prog 143 [.agg #[.int .i64 2,.slice A 125 ci],.agg #[.int .i64 (cx:Int),.int .i64 (cy:Int),.int .i64 (cz:Int)]] w (fun v w'=>∃ts:List T3,(ts.length≤24∧∀t∈ts,SmT t)∧SL 39 9 (ts.flatMap aN) ts.length w v w'):=by
 refine⟨bJ func143 (by kernel_rfl),?_⟩;have m:=Mem.refl w
 go_enter func143,ntmps143
 apply iY 9 [] m;simp only[↓aD,aoK,aa];intro g1 g2 u m;apply Nu 1 [] m;simp only[↓aD];intro g3 u m;apply aU 8 [0] m;simp only[↓aD];refine bX [6] [17,18,19,20,21,22,23,24,25,26,27,28,29,30,31,32,33,34,35,36,37,38,39,40,41,42,43,44,45,46,47,48] (fun n vs wl=>∃(v:Nat) (bs:List Bool),vs=[.int .i64 (v:Int)]∧Mem w wl [bI g3 (lN bs (cu 24 0)) 264,bI g2 [.int .i64 (cx:Int),.int .i64 (cy:Int),.int .i64 (cz:Int)] 36,bI g1 [.int .i64 2,.slice A 125 ci] 139]∧(jL bs (cu 24 0))∧(v≤8)∧(n=8-v)) ?_ ?_
 ·
  exact⟨_,0,cu 8 false,O,m,⟨O,O,by decide⟩,by omega,O⟩
 · intro n vs wr hI u K1 hK1
   obtain⟨v,bs,rfl,m,hc,hv,hn⟩:=hI;simp only[zu,zF,zG];apply aK 6 [0,0] m;simp only[↓aD];refine bD O ?_ ?_<;>intro hc1
   ·
    have hv8:v<8:=by omega
    apply aK 3 [] m;simp only[↓aD];obtain⟨bq,hbq,a,hA,hrow⟩:=hF.get (i:=((cz+v / 4)*5+(cy+v / 2%2))*5+(cx+v%2)) (by omega);subst hA;refine gc (cU m 28 aB (by kernel_rfl) ?_);simp only[zy];refine dZ 9 [2,2,1] ?_;simp only[↓aD,sA,Mr,Ck,dC,fF,aa,ad,ag];refine⟨by omega,?_⟩;refine aI (lQ O O (Rr hv8)) (dZ 4 [1] ?_);simp only[↓aD,fF,dC,ad,ag,aa];refine⟨by omega,?_⟩;refine aI (lF O O (by omega) ac8) (aI (lQ O O (Rr (k:=v / 2) (by omega))) ?_);refine dZ 4 [1] ?_;simp only[↓aD,fF,dC,ad,ag,aa];refine⟨by omega,?_⟩;refine aI (lF O O (by omega) Yv) ?_;simp only[zz];refine aI (fC O O (bP (by omega) (by omega))) ?_;simp only[zz];refine fD O O (xG (x:=cx+v%2) (y:=cy+v / 2%2) (z:=cz+v / 4) (by omega) (by omega) (by omega)) ?_;simp only[zz];refine aI (aF Mt eM O O (by omega) (by omega) (jF (ah _))) ?_;simp only[zz];refine ql O (fun u m=>(lies1 (al5 (hrow.ext m.ext)) oV)) ?_;simp only[zz];refine aI (dJ O) (dZ 1 [] ?_);simp only[↓aD,qA,aa];refine aI (aJ yQ eM O O (by omega) (by omega) (fK (ah _))) (bC ?_);intro u m;simp only[zz];refine dB m 0 O O O eM (by rw[hc.len];show _+1≤_;omega) ⟨rfl,rfl⟩ ?_;intro u m;simp only[zz] at m;rw[hc.overB hv8] at m;refine aM ?_;apply aU 6 [0] m;simp only[↓aD];refine⟨by omega,?_⟩;exact hK1 (8-(v+1)) _ _ (by omega) (by kernel_rfl) ⟨v+1,_,O,m,hc.putB,by omega,O⟩
   ·
    apply aK 7 [0] m;simp only[↓aD];refine bX [7] [49,50,51,52,53,54,55,56,57] (fun n vs wl=>∃(e:Nat) (ns:List Int),vs=[.int .i64 (e:Int)]∧Mem w wl [bI g3 (lN bs ns) 264,bI g2 [.int .i64 (cx:Int),.int .i64 (cy:Int),.int .i64 (cz:Int)] 36,bI g1 [.int .i64 2,.slice A 125 ci] 139]∧(jL bs ns)∧(e≤24)∧(n=24-e)) ?_ ?_
    ·
     exact⟨_,0,_,O,m,hc,by omega,O⟩
    · intro n vs wr hI u K2 hK2
      obtain⟨e,ns,rfl,m,hc,he,hn⟩:=hI;simp only[zu,zF,zG];apply aK 6 [0,0] m;simp only[↓aD];refine bD O ?_ ?_<;>intro hc2
      ·
       have he24:e<24:=by omega
       apply aK 8 [0] m;simp only[↓aD,uY,aa];refine aC (aJ Gg aV O O (by omega) (by omega) Rt) ?_;simp only[zz];refine dB m 0 O O O aV (by rw[hc.len];show _+1≤_;omega) ⟨rfl,rfl⟩ ?_;intro u m;simp only[zz] at m;rw[hc.over he24] at m;apply aL 7 [0] m;simp only[↓aD];refine⟨by omega,?_⟩;exact hK2 (24-(e+1)) _ _ (by omega) (by kernel_rfl) ⟨e+1,_,O,m,hc.put (by omega),by omega,O⟩
      ·
       apply aK 7 [0] m;simp only[↓aD];refine bX [8] [58,59,60,61,62,63,64,65,66,67] (fun n vs wl=>∃(a:Nat) (ns:List Int),vs=[.int .i64 (a:Int)]∧Mem w wl [bI g3 (lN bs ns) 264,bI g2 [.int .i64 (cx:Int),.int .i64 (cy:Int),.int .i64 (cz:Int)] 36,bI g1 [.int .i64 2,.slice A 125 ci] 139]∧(jL bs ns)∧(a≤3)∧(n=3-a)) ?_ ?_
       ·
        exact⟨_,0,_,O,m,hc,by omega,O⟩
       · intro n vs wr hI u K3 hK3
         obtain⟨a,ns,rfl,m,hc,ha,hn⟩:=hI;simp only[zu,zF,zG];apply aK 6 [0,0] m;simp only[↓aD];refine bD O ?_ ?_<;>intro hc3
         ·
          have ha3:a<3:=by omega
          apply aK 7 [0] m;simp only[↓aD];replace m:=m.pull 0 O;simp only[dW,dX,zF,zG] at m;replace m:=m.pack1;refine kJ O O (abj m hc (by omega)) ?_;rintro v u ⟨ns2,hc2,m⟩;simp only[zz];replace m:=Mem.unpack [_] m;simp only[cj,b_] at m;apply aL 4 [0] m;simp only[↓aD];replace m:=m.pull 0 O;simp only[dW,dX,zF,zG] at m;replace m:=m.pack1;refine kJ O O (abj m hc2 (by omega)) ?_;rintro v u ⟨ns3,hc3,m⟩;simp only[zz];replace m:=Mem.unpack [_] m;simp only[cj,b_] at m;apply aL 7 [0] m;simp only[↓aD];refine⟨by omega,?_⟩;exact hK3 (3-(a+1)) _ _ (by omega) (by kernel_rfl) ⟨a+1,_,O,m,hc3,by omega,O⟩
         ·
          apply aK 6 [2,0] m;simp only[↓aD,Ck,dC,aa,Int.reduceSub];refine⟨by omega,?_⟩;refine aC (qN O O (by omega) (show IntKind.i64.wrap (1*2^min (kh 19) IntKind.i64.bits)=524288 from by decide)) ?_;apply aL 4 [0] m;simp only[↓aD];refine aC aO ?_;replace m:=m.nilO 39 9;apply aL 4 [] m;simp only[↓aD,aoN,aa];apply Nu 1 [] m;simp only[↓aD,aoM];intro g4 u m;apply Nu 1 [0] m;simp only[↓aD,aoL,aa];intro u m;apply aU 7 [0] m;simp only[↓aD];refine bX [10,12] [13,14,73,74,75,76,77,78,79,80,81,82,83,84,85,86,87,88,89,90,91,92,93,94,95,96,97,98,99,100,101,102,103,104,105,106,107,108,109,110,111,112] (fun n vs wl=>∃(e n10:Nat) (ts:List T3) (sn:List Bool) (A10:Option Addr) (cap10:Nat),vs=[.slice A10 n10 cap10,.int .i64 (e:Int)]∧Mem w wl [bI g4 (sn.map bj) 266,oI 39 9 A10 n10 cap10 (ts.flatMap aN),bI g3 (lN bs ns) 264,bI g2 [.int .i64 (cx:Int),.int .i64 (cy:Int),.int .i64 (cz:Int)] 36]∧(sn.length=24)∧(ts.length=n10)∧(∀t∈ts,SmT t)∧(n10+Yx sn≤24)∧(e≤24)∧(n=24-e)) ?_ ?_
          ·
           exact⟨_,0,0,[],cu 24 false,none,0,O,(m.sel [true,true,true,true,false]),O,O,by simp,by decide,by omega,O⟩
          · intro n vs wr hI u K4 hK4
            obtain⟨e,n10,ts,sn,A10,cap10,rfl,m,hsn,hlt,hts,hcn,he,hn⟩:=hI;simp only[zu,zF,zG];apply aK 6 [0,0] m;simp only[↓aD];refine bD O ?_ ?_<;>intro hc4
            ·
             have he24:e<24:=by omega
             apply aK 5 [0] m;simp only[↓aD];refine aC aO ?_;replace m:=m.nilO 30 3;apply aL 8 [0] m;simp only[↓aD];refine bX [13,14] [78,79,80,81,82,83,84,85,86,87,88,89,90,91,92,93,94,95,96,97,98,99,100,101,102,103,104,105] (fun n vs wl=>∃(x n13:Nat) (ps:List P3) (sn:List Bool) (A13:Option Addr) (cap13:Nat),vs=[.slice A13 n13 cap13,.int .i64 (x:Int)]∧Mem w wl [oI 30 3 A13 n13 cap13 (ps.flatMap bO),bI g4 (sn.map bj) 266,oI 39 9 A10 n10 cap10 (ts.flatMap aN),bI g3 (lN bs ns) 264,bI g2 [.int .i64 (cx:Int),.int .i64 (cy:Int),.int .i64 (cz:Int)] 36]∧(sn.length=24)∧(ps.length=n13)∧(∀p∈ps,Sm p)∧(n10+n13+Yx sn≤24)∧(x<24)∧(n=Yx sn)) ?_ ?_
             ·
              exact⟨_,e,0,[],sn,none,0,O,m,hsn,O,by simp,by omega,he24,O⟩
             · intro n vs wr hI u K5 hK5
               obtain⟨x,n13,ps,sn,A13,cap13,rfl,m,hsn,hpl,hps,hcn,hx24,hn⟩:=hI;obtain⟨q,hq,hq1⟩:=hc.nx hx24;obtain⟨y,hy0⟩:∃y,sn[x]? = some y:=⟨_,am (by omega)⟩
               have hym:(sn.map bj)[x]? = some (.bool y):=by rw[fb,hy0];rfl
               simp only[zu,zF,zG];apply aK 2 [] m;simp only[↓aD];rcases (show ¬0≤q∨(0≤q∧y=true)∨(0≤q∧y=false) by cases y <;> simp <;> omega) with hq0 | ⟨hq0,rfl⟩ | ⟨hq0,rfl⟩
               ·
                apply aU 5 [0] m;simp only[↓aD,uY,aa];refine aC (aJ Gg aV O O (by omega) (by omega) Rt) ?_;simp only[zz];refine aS O (lies1 ((m.b 3 O).cell hq) bF) ?_;simp only[zz];apply aL 16 [2,0,0] m;simp only[↓aD,kC];refine⟨by omega,?_⟩;refine bD O ?_ ?_<;>intro hc6
                ·
                 apply aK 3 [0] m;simp only[↓aD];refine bH O O (aex _ ((m.o 0 O).lat (enc:=bO) (fun _=>rfl) (by decide)) (by omega) (by omega) hps) ?_;rintro v u e_ ⟨us,hus,A14,cap14,n14,hn14,rfl,h_⟩;replace m:=m.newO e_ h_;simp only[zz];refine bM m 3 O O cD jK O (by decide) O O (m.o 0 O).own.1 (m.o 0 O).row (wS _) (by omega) (by omega) ?_;intro A10 cap10 u m;simp only[zF,zG] at m;rw[←a_] at m;apply aL 8 [0] m;simp only[↓aD];refine⟨by omega,?_⟩;exact hK4 (24-(e+1)) _ _ (by omega) (by kernel_rfl) ⟨e+1,_,_,_,_,_,O,(m.sel [false,false,true,true,true,true]),hsn,by rw[au];omega,fun t ht=>(bi.1 ht).elim (hts t) (hus.2 t),by omega,by omega,rfl⟩
                ·
                 apply aK 7 [0] m;simp only[↓aD];refine⟨by omega,?_⟩;exact hK4 (24-(e+1)) _ _ (by omega) (by kernel_rfl) ⟨e+1,_,_,_,_,_,O,(m.sel [false,true,true,true,true]),hsn,hlt,hts,by omega,by omega,O⟩
               ·
                apply aU 5 [0] m;simp only[↓aD,uY,aa];refine aC (aJ Gg aV O O (by omega) (by omega) Rt) ?_;simp only[zz];refine aS O (lies1 ((m.b 3 O).cell hq) bF) ?_;simp only[zz];apply aL 3 [1,0] m;simp only[↓aD];refine⟨by omega,?_⟩;refine eB O (aC (aJ underlying266 eM O O (by omega) (by omega) (fK (ah _))) (eB O ?_));simp only[zz];refine aS O (lies1 ((m.b 1 O).cell hym) oV) ?_;simp only[zz];apply aL 11 [0,0] m;simp only[↓aD,kC,fp,fj];refine bD O ?_ ?_<;>intro hc6
                ·
                 apply aK 3 [0] m;simp only[↓aD];refine bH O O (aex _ ((m.o 0 O).lat (enc:=bO) (fun _=>rfl) (by decide)) (by omega) (by omega) hps) ?_;rintro v u e_ ⟨us,hus,A14,cap14,n14,hn14,rfl,h_⟩;replace m:=m.newO e_ h_;simp only[zz];refine bM m 3 O O cD jK O (by decide) O O (m.o 0 O).own.1 (m.o 0 O).row (wS _) (by omega) (by omega) ?_;intro A10 cap10 u m;simp only[zF,zG] at m;rw[←a_] at m;apply aL 8 [0] m;simp only[↓aD];refine⟨by omega,?_⟩;exact hK4 (24-(e+1)) _ _ (by omega) (by kernel_rfl) ⟨e+1,_,_,_,_,_,O,(m.sel [false,false,true,true,true,true]),hsn,by rw[au];omega,fun t ht=>(bi.1 ht).elim (hts t) (hus.2 t),by omega,by omega,rfl⟩
                ·
                 apply aK 7 [0] m;simp only[↓aD];refine⟨by omega,?_⟩;exact hK4 (24-(e+1)) _ _ (by omega) (by kernel_rfl) ⟨e+1,_,_,_,_,_,O,(m.sel [false,true,true,true,true]),hsn,hlt,hts,by omega,by omega,O⟩
               ·
                apply aU 5 [0] m;simp only[↓aD,uY,aa];refine aC (aJ Gg aV O O (by omega) (by omega) Rt) ?_;simp only[zz];refine aS O (lies1 ((m.b 3 O).cell hq) bF) ?_;simp only[zz];apply aL 3 [1,0] m;simp only[↓aD];refine⟨by omega,?_⟩;refine eB O (aC (aJ underlying266 eM O O (by omega) (by omega) (fK (ah _))) (eB O ?_));simp only[zz];refine aS O (lies1 ((m.b 1 O).cell hym) oV) ?_;simp only[zz];apply aL 10 [0] m;simp only[↓aD,fp,fj];refine aC (aJ underlying266 eM O O (by omega) (by omega) (fK (ah _))) ?_;simp only[zz];refine dB m 1 O O O eM (by rw[ct];show _+1≤_;omega) ⟨rfl,rfl⟩ ?_;intro u m;simp only[zz] at m;rw[al6 (by omega)] at m;apply aL 6 [4,0] m;simp only[↓aD,uU];refine cQ m O O (afS _ (by omega) (by omega) (by omega) hx24) ?_;rintro v u m ⟨pp,rfl,hpp⟩;simp only[zz];refine kW O ?_;intro u g5 e_ h_ k_;replace m:=m.newB e_ h_ k_;simp only[zz];refine bM m 1 O O cN mX O (by decide) O O O (m.b 0 O).rowsO (fV O) (by omega) (by omega) ?_;intro A13 cap13 u m;simp only[zF,zG] at m;rw[show ps.flatMap bO++_=(ps++[pp]).flatMap bO by rw[a_];rfl] at m;apply aL 8 [0] m;simp only[↓aD,uY,aa];refine aC (aJ Gg aV O O (by omega) (by omega) Rt) ?_;simp only[zz];refine aS O (lies1 ((m.b 4 O).cell hq) bF) ?_;simp only[zz];apply aL 2 [0] m;simp only[↓aD];have hcs:=Hh hy0;obtain⟨z,rfl⟩:∃z:Nat,q=z:=⟨q.toNat,by omega⟩
                exact hK5 (Yx (sn.set x true)) _ _ (by omega) (by kernel_rfl) ⟨z,_,_,_,_,_,O,(m.sel [false,true,true,true,true,true]),by rw[et];exact hsn,by rw[au,hpl];rfl,fun p hp=>(bi.1 hp).elim (hps p) fun h=>by cases bf.1 h;exact hpp,by omega,by omega,O⟩
            ·
             apply aK 7 [] m;simp only[↓aD];exact aT O O ⟨_,O,m.ext,ts,⟨by omega,hts⟩,_,_,_,hlt.symm,O,(m.o 1 O)⟩
theorem afU{A:Option Addr}(w:aj)(hF:sU Wd 1 w A 125 ins):dA prog 142 [.agg #[.int .i64 2,.slice A 125 ci]] w (fun v _=>∃c,v=.bool c):=by
 refine⟨bJ func142 (by kernel_rfl),?_⟩;have m:=Mem.refl w
 go_enter func142,ntmps142
 apply iY 17 [0,2,0,0,0] m;simp only[↓aD,Ck,dC,aa];intro g1;refine⟨by omega,?_⟩;intro u m;refine bD O ?_ ?_<;>intro hc1
 ·
  apply aK 5 [] m;simp only[↓aD];exact aT O O ⟨_,O,m.ext,_,O⟩
 ·
  apply aK 5 [0,0] m;simp only[↓aD,Ck,dC,aa];refine aC (qN O O (by omega) Rs) ?_;apply aL 24 [0,2,0] m;simp only[↓aD,sA,Mr,anc,ak,aa,Int.reduceMul];refine⟨by omega,?_⟩;refine bX [4] [2,5,6,7,8,30,31,32,33,34,35,36,37,38,39,40,41,42,43,44,45,46,47,48,49,50,51,52,53,54,55,56,57,58,59,60,61,62,63,64,65,66,67,68,69,70,71,72,73,74,75,76,77,78,79,80,81,82,83,84,85] (fun n vs wl=>∃(k:Nat),vs=[.int .i64 (k:Int)]∧Mem w wl [bI g1 [.int .i64 2,.slice A 125 ci] 139]∧(k≤125)∧(n=125-k)) ?_ ?_
  ·
   exact⟨_,0,O,m,by omega,O⟩
  · intro n vs wr hI u K1 hK1
    obtain⟨k,rfl,m,hk,hn⟩:=hI;simp only[zu,zF,zG];apply aK 9 [0,0,0] m;simp only[↓aD,sA,Mr,anc,aa];refine bD O ?_ ?_<;>intro hc3
    ·
     obtain⟨bq,hbq,a,hA,hrow⟩:=hF.get (i:=k) (by omega);subst hA;apply aK 7 [0] m;simp only[↓aD];refine aC (cP O O (by omega) (show ((k%5:Nat):Int)=_ from O)) ?_;apply aL 6 [0] m;simp only[↓aD];refine aC (jD O O (by omega) (show IntKind.i64.wrap ((k / 5:Nat):Int)=_ from bP (by omega) (by omega))) ?_;apply aL 1 [0] m;simp only[↓aD];refine aC (cP O O (by omega) (show ((k / 5%5:Nat):Int)=_ from O)) ?_;apply aL 6 [0] m;simp only[↓aD];refine aC (jD O O (by omega) (show IntKind.i64.wrap ((k / 5:Nat):Int)=_ from bP (by omega) (by omega))) ?_;apply aL 1 [0] m;simp only[↓aD];refine aC (jD O O (by omega) (show IntKind.i64.wrap ((k / 5 / 5:Nat):Int)=_ from bP (by omega) (by omega))) ?_;apply aL 7 [0,0] m;simp only[↓aD];refine bA O (fun hb=>aH) (bA O (fun hb=>rP (aX hb O) O) (aC (cC O O O) ?_));apply aL 1 [0] m;simp only[↓aD];refine bA O (fun hb=>aH) (bA O (fun hb=>rP (aX hb O) O) (aC (cC O O O) ?_));apply aL 1 [0] m;simp only[↓aD];refine bA O (fun hb=>aH) (bA O (fun hb=>aH) (bA O (fun hb=>Ac (m:=5) (n:=1) (r:=4) (aX hb O) O (by decide)) (bA O (fun hb=>rP (aX hb O) (aX hb O)) ?_)));simp only[zz];refine aC (cC O O O) ?_;apply aL 1 [0] m;simp only[↓aD];refine bA O (fun hb=>aH) (bA O (fun hb=>aH) (bA O (fun hb=>Ac (m:=5) (n:=1) (r:=4) (aX hb O) O (by decide)) (bA O (fun hb=>rP (aX hb O) (aX hb O)) ?_)));simp only[zz];refine aC (cC O O O) ?_;apply aL 1 [0] m;simp only[↓aD];refine bA O (fun hb=>aH) (bA O (fun hb=>aH) (bA O (fun hb=>Ac (m:=5) (n:=1) (r:=4) (aX hb O) O (by decide)) (bA O (fun hb=>rP (aX hb O) (aX hb O)) ?_)));simp only[zz];refine aC (cC O O O) ?_;apply aL 7 [0,0] m;simp only[↓aD,sA,Mr,aa];refine aC (aF Mt eM O O (by omega) (by omega) (jF (ah _))) ?_;simp only[zz];refine aS O (lies1 (al5 (hrow.ext m.ext)) oV) ?_;simp only[zz];apply aL 1 [0] m;simp only[↓aD];refine cS O (fun hb=>aH) (aC (bW O O O) ?_);apply aL 1 [0] m;simp only[↓aD];refine cR O ?_ ?_<;>intro hc4
     ·
      apply aK 5 [] m;simp only[↓aD];exact aT O O ⟨_,O,m.ext,_,O⟩
     ·
      apply aK 7 [0] m;simp only[↓aD];refine⟨by omega,?_⟩;exact hK1 (125-(k+1)) _ _ (by omega) (by kernel_rfl) ⟨k+1,O,m,by omega,O⟩
    ·
     apply aK 6 [] m;simp only[↓aD];exact aT O O ⟨_,O,m.ext,_,O⟩
def al8(z:Int):List ai:=[.int .i64 z]
theorem ao2{ds:List Deferred}{Q:Exit→Act→aj→Prop}{w w0:aj}{is:List It}{c:Code}{a:Act}{l:Nat→Nat→List ai}{c1:List ai}{c2:Nat→List ai}{T1 T2:az}(m:Mem w0 w is)(h1:c.wp prog (fun e a' u=>e=.normal∧∃g k,a'=Fr (l g k) ds∧Mem w0 u (bI k (c2 g) T2::bI g c1 T1::is)) a w)
 (h2:∀g k u,Mem w0 u (bI k (c2 g) T2::bI g c1 T1::is)→Q .normal (Fr (l g k) ds) u):c.wp prog Q a w:=by
 refine Code.wp_mono ?_ h1;rintro e a' u ⟨rfl,g,k,rfl,m'⟩;exact h2 g k u m'
theorem Yy{c:Bool}(h:i<ins.length):over (ins.map bj) i [.bool c]=(ins.set i c).map bj:=by
 rw[Dw (by rw[ct];exact h),ow]
theorem afV{g:Nat}{t:az}(h:fR w g (ins.map bj) t)(hl:ins.length=n):sU Wd 1 w (some ⟨g,0,none⟩) n ins:=⟨hl,fun i x hx=>⟨_,rfl,fun j u hj=>by
 have h1:j=0:=by
  have:=(ap.1 hj).1;simp[Wd] at this;omega
 subst h1;cases hj;rw[eL,eL,aq,ll,Nat.add_zero];exact h.cell (by rw[fb,hx];rfl)⟩⟩
theorem afW{A:Option Addr}{zs:List Int}(w:aj)(hL:sU al8 1 w A N zs)(hI:∀z∈zs,rT z):dA prog 84 [.int .i64 2,.slice A N cap] w (fun v w'=>∃A ci ins,v=.agg #[.int .i64 2,.slice A 125 ci]∧sU Wd 1 w' A 125 ins):=by
 refine⟨bJ func84 (by kernel_rfl),?_⟩;have m:=Mem.refl w
 go_enter func84,ntmps84
 apply iY 5 [0] m;simp only[↓aD,aoC];intro g1 u m;apply ao2 m (T1:=4) (T2:=139)
 · skip
   refine Uq m [true] (.take 0 (.take 1 (.take 2 (.take 3 (.take 4 (.take 5 (.take 6 (.take 7 (.take 8 (.take 9 (.take 10 (.take 11 (.two 12 (.take 13 (.one 14 (.one 15 .nil))) 14 (.one 12 (.take 13 (.one 15 .nil)))))))))))))))) aB (by kernel_rfl) (fun _ _ _ _ _ h=>by cases h.1) ?_;intro u m;refine eP (by simp only[zw];rfl) (aZ aH (bY (eP (by simp only[zw];rfl) (aZ aH (bY (eP (by simp only[zw];rfl) ?_))))));simp only[zz];refine aZ (qN O O (by omega) Rs) (bY (eP (by simp only[zw];rfl) (aZ (fC (m:=4) (n:=1) (r:=5) rfl rfl (by decide)) (bY (eP (by simp only[zw];rfl) (aZ aH (bY (eP (by simp only[zw];rfl) ?_))))))));simp only[zz];refine aZ (qN O O (by omega) Rs) (bY (eP (by simp only[zw];rfl) (aZ (fC (m:=4) (n:=1) (r:=5) rfl rfl (by decide)) (bY (eP (by simp only[zw];rfl) (aZ (lE (m:=5) (n:=5) (r:=25) rfl rfl (by decide)) (bY (eP (by simp only[zw];rfl) (aZ aH ?_)))))))));simp only[zz];refine bY (eP (by simp only[zw];rfl) (aZ (qN rfl rfl (by omega) Rs) (bY (eP (by simp only[zw];rfl) (aZ (fC (m:=4) (n:=1) (r:=5) rfl rfl (by decide)) (bY (eP (by simp only[zw];rfl) (aZ (lE (m:=25) (n:=5) (r:=125) rfl rfl (by decide)) (bY ?_)))))))));simp only[zz];refine aav (by simp only[zw];rfl) (by simp only[zw];rfl) ?_ ?_
   ·
    refine tE Mt am1 O O O (show _=125 by omega) (show _=125 by omega) (by omega) (by omega) (by omega) (by omega) ?_;intro u g2 e_ h_ k_;replace m:=m.newB e_ h_ k_;refine aM ⟨m.sel [false,true],?_⟩;refine eP (by simp only[zw];rfl) (aZ (Ah rfl rfl) (bY (nN (by simp only[zw];rfl) ?_)));simp only[zz];refine mK m Py O ?_;intro g3 u m;refine aM ⟨m.sel [false,false,true],?_⟩;refine nN (by simp only[zw];rfl) ?_;simp only[zz];refine bN m 0 O O O Kh (iK O) O ?_;intro u m;simp only[zy,zx,over,zF,zG,aa] at m;refine aM ⟨m.sel [false,false,true],?_⟩;exact Es ⟨O,g2,g3,O,m⟩
   ·
    refine mK m Py O ?_;intro g2 u m;refine aM ⟨m.sel [false,true],?_⟩;refine nN (by simp only[zw];rfl) ?_;simp only[zz];refine tE Mt am1 O O O (show _=125 by omega) (show _=125 by omega) (by omega) (by omega) (by omega) (by omega) ?_;intro u g3 e_ h_ k_;replace m:=m.newB e_ h_ k_;refine aM ⟨m.sel [false,false,true],?_⟩;refine eP (by simp only[zw];rfl) (aZ (Ah rfl rfl) (bY (nN (by simp only[zw];rfl) ?_)));simp only[zz];refine bN m 1 O O O Kh (iK O) O ?_;intro u m;simp only[zy,zx,over,zF,zG,aa] at m;refine aM ⟨m.sel [false,false,true],?_⟩;exact Es ⟨O,g3,g2,O,m.s01⟩
 intro g2 g3 u m;try dsimp only
 apply aU 3 [0] m;simp only[↓aD];refine aC (qN O O (by omega) Rs) ?_;apply aL 9 [0] m;simp only[↓aD,Int.reduceSub];refine⟨by omega,?_⟩;refine bX [7] [8,9,10,11,12,30,31,32,33,34,35,36,37,38,39,40,41,42,43,44,45,46,47,48,49,50,51,52,53,54,55,56,57,58,59,60,61,62,63,64,65,66,67,68,69,70,71,72,73,74,75,76,77,78,79,80,81,82,83,84,85,86,87,88,89,90,91,92,93,94,95,96,97,98,99,100,101,102,103,104,105,106,107,108,109,110,111,112,113,114,115,116,117,118,119,120,121,122,123,124,125,126,127,128,129,130,131,132,133,134,135,136,137,138,139,140,141,142,143] (fun n vs wl=>∃(k:Nat) (ins:List Bool),vs=[.int .i64 (k:Int)]∧Mem w wl [bI g3 [.int .i64 2,.slice (some ⟨g2,0,none⟩) 125 125] 139,bI g2 (ins.map bj) 4,bI g1 [.int .i64 0,.slice none 0 0] 139]∧(ins.length=125)∧(k≤60∧k≤N)∧(n=60-k)) ?_ ?_
 ·
  exact⟨_,0,cu 125 false,O,m,O,by omega,O⟩
 · intro n vs wr hI u K1 hK1
   obtain⟨k,ins,rfl,m,hil,hk,hn⟩:=hI;simp only[zu,zF,zG];apply aK 8 [0,0] m;simp only[↓aD,lA];refine cS O (fun hb=>aH) (cS O (fun hb=>qL (aX hb O) O) (aC (bW O O O) ?_));apply aL 1 [0] m;simp only[↓aD];refine cR O ?_ ?_<;>intro hc1
   ·
    have hk2:k<N∧k<60:=by simp only[bg,decide_eq_true_eq] at hc1;omega
    obtain⟨q,hq,a,hA,hrow⟩:=hL.get (i:=k) (by omega);subst hA;have hqb:=hI q (be hq);unfold rT at hqb;apply aK 7 [0] m;simp only[↓aD];refine aC (aF dN aV O O (by omega) (by omega) (jF (ah _))) ?_;simp only[zz];refine aS O (lies1 (al5 (hrow.ext m.ext)) bF) ?_;simp only[zz];apply aL 8 [0,0] m;simp only[↓aD];refine Qg m [8] [46,47] (fun vs=>∃(z:Nat),vs=[.int .i64 (z:Int)]∧(z<9223372036854775808)) ?_ ?_
    · intro K2 hK2
      refine bD O ?_ ?_<;>intro hc2
      ·
       apply aK 5 [0] m;simp only[↓aD];refine⟨by omega,?_⟩;obtain⟨z,hz⟩:∃z:Nat,(z:Int) = -1-q:=⟨(-1-q).toNat,by omega⟩
       rw[←hz];exact hK2 _ _ (by kernel_rfl) m ⟨z,O,by omega⟩
      ·
       apply aK 1 [0] m;simp only[↓aD];obtain⟨z,rfl⟩:∃z:Nat,q=z:=⟨q.toNat,by omega⟩
       exact hK2 _ _ (by kernel_rfl) m ⟨z,O,by omega⟩
    · intro vs wr m hI u
      obtain⟨z,rfl,hz⟩:=hI;simp only[zu,zF,zG];apply aU 4 [0] m;simp only[↓aD];refine aC (cP O O (by omega) (show ((z%3:Nat):Int)=_ from O)) ?_;apply aL 6 [0] m;simp only[↓aD];refine aC (jD O O (by omega) (show IntKind.i64.wrap ((z / 3:Nat):Int)=_ from bP (by omega) (by omega))) ?_;apply aL 1 [0] m;simp only[↓aD];refine aC (cP O O (by omega) (show ((z / 3%3:Nat):Int)=_ from O)) ?_;apply aL 6 [0] m;simp only[↓aD];refine aC (jD O O (by omega) (show IntKind.i64.wrap ((z / 3:Nat):Int)=_ from bP (by omega) (by omega))) ?_;apply aL 1 [0] m;simp only[↓aD];refine aC (jD O O (by omega) (show IntKind.i64.wrap ((z / 3 / 3:Nat):Int)=_ from bP (by omega) (by omega))) ?_;apply aL 1 [0] m;simp only[↓aD];refine aC (cP O O (by omega) (show ((z / 3 / 3%3:Nat):Int)=_ from O)) ?_;apply aL 6 [0] m;simp only[↓aD];refine aC (jD O O (by omega) (show IntKind.i64.wrap ((z / 3:Nat):Int)=_ from bP (by omega) (by omega))) ?_;apply aL 1 [0] m;simp only[↓aD];refine aC (jD O O (by omega) (show IntKind.i64.wrap ((z / 3 / 3:Nat):Int)=_ from bP (by omega) (by omega))) ?_;apply aL 1 [0] m;simp only[↓aD];refine aC (jD O O (by omega) (show IntKind.i64.wrap ((z / 3 / 3 / 3:Nat):Int)=_ from bP (by omega) (by omega))) ?_;apply aL 3 [0] m;simp only[↓aD];refine cU m 14 aB (by kernel_rfl) ?_;simp only[zy];refine dZ 9 [0] ?_;simp only[↓aD,sA,Mr,aa];refine⟨by omega,?_⟩;refine fD O O (xG (x:=1+z%3) (y:=1+z / 3%3) (z:=1+z / 3 / 3%3) (by omega) (by omega) (by omega)) (aI aH (aI (lQ O O O) (aI (rP O O) ?_)));simp only[zz];refine aI (aF Mt eM O O (by omega) (by omega) (fK (ah _))) (bC ?_);intro u m;simp only[zz];refine dB m 1 O O O eM (by simp only[ct,et,aw,bn,hil];omega) ⟨rfl,rfl⟩ ?_;intro u m;simp only[zz] at m;rw[Yy (by simp only[et,hil];omega)] at m;refine aM ?_;apply aU 4 [0] m;simp only[↓aD];refine aC (lQ O O O) ?_;apply aL 2 [0,0] m;simp only[↓aD];refine iP m 1 [] [87,88,89,90,91,92,93,94,95,96,97,98,99,100,101,102,103] (fun vs i=>∃(ins:List Bool),vs=[]∧i=bI g2 (ins.map bj) 4∧(ins.length=125)) ?_ ?_
      · intro K3 hK3
        refine bD O ?_ ?_<;>intro hc3
        ·
         refine cU m 17 aB (by kernel_rfl) ?_;simp only[zy];refine dZ 6 [0] ?_;simp only[↓aD,sA,Mr,aa];refine⟨by omega,?_⟩;refine aI (cP O O (by omega) (show (((z%3+1)%3:Nat):Int)=_ from O)) (dZ 5 [] ?_);simp only[↓aD];refine⟨by omega,?_⟩;refine fD O O (xG (x:=1+(z%3+1)%3) (y:=1+z / 3%3) (z:=1+z / 3 / 3%3) (by omega) (by omega) (by omega)) (aI aH (aI (lQ O O O) (aI (rP O O) ?_)));simp only[zz];refine aI (aF Mt eM O O (by omega) (by omega) (fK (ah _))) (bC ?_);intro u m;simp only[zz];refine dB m 1 O O O eM (by simp only[ct,et,aw,bn,hil];omega) ⟨rfl,rfl⟩ ?_;intro u m;simp only[zz] at m;rw[Yy (by simp only[et,hil];omega)] at m;refine aM (gk ?_);exact hK3 _ _ _ (by kernel_rfl) m ⟨_,O,O,by simp only[et];exact hil⟩
        ·
         apply aK 1 [0] m;simp only[↓aD];exact hK3 _ _ _ (by kernel_rfl) m ⟨_,O,O,by first | exact hil | (simp only[et];exact hil)⟩
      · intro vs i wr m hI u
        obtain⟨ins,rfl,rfl,hil⟩:=hI;simp only[zF,zG] at m;simp only[zu,zF,zG];apply aU 4 [0] m;simp only[↓aD];refine aC (lQ O O O) ?_;apply aL 2 [0,0] m;simp only[↓aD];refine iP m 1 [] [107,108,109,110,111,112,113,114,115,116,117,118,119,120,121,122,123] (fun vs i=>∃(ins:List Bool),vs=[]∧i=bI g2 (ins.map bj) 4∧(ins.length=125)) ?_ ?_
        · intro K4 hK4
          refine bD O ?_ ?_<;>intro hc4
          ·
           refine cU m 17 aB (by kernel_rfl) ?_;simp only[zy];refine dZ 8 [0] ?_;simp only[↓aD,sA,Mr,aa];refine⟨by omega,?_⟩;refine aI (cP O O (by omega) (show (((z / 3%3+1)%3:Nat):Int)=_ from O)) (dZ 3 [] ?_);simp only[↓aD];refine⟨by omega,?_⟩;refine fD O O (xG (x:=1+z%3) (y:=1+(z / 3%3+1)%3) (z:=1+z / 3 / 3%3) (by omega) (by omega) (by omega)) (aI aH (aI (lQ O O O) (aI (rP O O) ?_)));simp only[zz];refine aI (aF Mt eM O O (by omega) (by omega) (fK (ah _))) (bC ?_);intro u m;simp only[zz];refine dB m 1 O O O eM (by simp only[ct,et,aw,bn,hil];omega) ⟨rfl,rfl⟩ ?_;intro u m;simp only[zz] at m;rw[Yy (by simp only[et,hil];omega)] at m;refine aM (gk ?_);exact hK4 _ _ _ (by kernel_rfl) m ⟨_,O,O,by simp only[et];exact hil⟩
          ·
           apply aK 1 [0] m;simp only[↓aD];exact hK4 _ _ _ (by kernel_rfl) m ⟨_,O,O,by first | exact hil | (simp only[et];exact hil)⟩
        · intro vs i wr m hI u
          obtain⟨ins,rfl,rfl,hil⟩:=hI;simp only[zF,zG] at m;simp only[zu,zF,zG];apply aU 3 [0] m;simp only[↓aD];refine aC (lQ O O O) ?_;apply aL 2 [0,0] m;simp only[↓aD];refine iP m 1 [] [127,128,129,130,131,132,133,134,135,136,137,138,139,140,141,142,143] (fun vs i=>∃(ins:List Bool),vs=[]∧i=bI g2 (ins.map bj) 4∧(ins.length=125)) ?_ ?_
          · intro K5 hK5
            refine bD O ?_ ?_<;>intro hc5
            ·
             refine cU m 17 aB (by kernel_rfl) ?_;simp only[zy];refine dZ 10 [0] ?_;simp only[↓aD,sA,Mr,aa];refine⟨by omega,?_⟩;refine aI (cP O O (by omega) (show (((z / 3 / 3%3+1)%3:Nat):Int)=_ from O)) ?_;simp only[zz];refine aI (fC O O (bP (by omega) (by omega))) ?_;simp only[zz];refine fD O O (xG (x:=1+z%3) (y:=1+z / 3%3) (z:=1+(z / 3 / 3%3+1)%3) (by omega) (by omega) (by omega)) (aI aH (aI (lQ O O O) (aI (rP O O) ?_)));simp only[zz];refine aI (aF Mt eM O O (by omega) (by omega) (fK (ah _))) (bC ?_);intro u m;simp only[zz];refine dB m 1 O O O eM (by simp only[ct,et,aw,bn,hil];omega) ⟨rfl,rfl⟩ ?_;intro u m;simp only[zz] at m;rw[Yy (by simp only[et,hil];omega)] at m;refine aM (gk ?_);exact hK5 _ _ _ (by kernel_rfl) m ⟨_,O,O,by simp only[et];exact hil⟩
            ·
             apply aK 1 [0] m;simp only[↓aD];exact hK5 _ _ _ (by kernel_rfl) m ⟨_,O,O,by first | exact hil | (simp only[et];exact hil)⟩
          · intro vs i wr m hI u
            obtain⟨ins,rfl,rfl,hil⟩:=hI;simp only[zF,zG] at m;simp only[zu,zF,zG];apply aU 6 [0] m;simp only[↓aD];refine⟨by omega,?_⟩;exact hK1 (60-(k+1)) _ _ (by omega) (by kernel_rfl) ⟨k+1,_,O,m,hil,by omega,O⟩
   ·
    apply Vf 7 [0,2] m;simp only[↓aD,acZ,aa];intro u m;exact aT O ⟨_,O,((m.b 2 O).full ali Kh)⟩ ⟨_,O,m.ext,_,_,ins,O,afV (m.b 1 O) hil⟩
end Go.Proofs.YtfekpcimgncioaaGreatDoor
namespace Go.Proofs.YtfekpcimgncioaaGreatDoor
open Go.Proofs.Tryz
open Go.RowKit Go.Lith
set_option maxRecDepth 100000
attribute [local irreducible] ar cl fU bS cO Code.wp
variable{q:P3}
theorem anl{p:P3}:sT prog 276 [pt p] (.int .i64 p.x):=by
 intro w;refine⟨ahp,?_⟩;have m:=iU.refl w
 go_enter func276,ntmps276
 refine bG fun K1 k1=>ao (oL m O ?_);intro g1 u m;refine aC aO (aM (k1 _ _ ?_));refine bG fun K2 k2=>ao (aC (aW (c:=0) underlying245 O aV O O) ?_);simp only[zz];refine aS O ((m.b 0 O).lies1 bF O) ?_;simp only[zz];refine aC aO (aM (k2 _ _ ?_));refine jb ?_;simp only[zz];try simp only[cw,Exit.then,if_true]
 refine aT O O ?_;try simp only[zD,zE]
 exact⟨_,O,m.ext,O⟩
theorem anm{p:P3}:sT prog 277 [pt p] (.int .i64 p.y):=by
 intro w;refine⟨ahq,?_⟩;have m:=iU.refl w
 go_enter func277,ntmps277
 refine bG fun K1 k1=>ao (oL m O ?_);intro g1 u m;refine aC aO (aM (k1 _ _ ?_));refine bG fun K2 k2=>ao (aC (aW (c:=0) underlying245 O aV O O) ?_);simp only[zz];refine aS O ((m.b 0 O).lies1 bF O) ?_;simp only[zz];refine aC aO (aM (k2 _ _ ?_));refine jb ?_;simp only[zz];try simp only[cw,Exit.then,if_true]
 refine aT O O ?_;try simp only[zD,zE]
 exact⟨_,O,m.ext,O⟩
theorem ann{p:P3}:sT prog 278 [pt p] (.int .i64 p.z):=by
 intro w;refine⟨ahr,?_⟩;have m:=iU.refl w
 go_enter func278,ntmps278
 refine bG fun K1 k1=>ao (oL m O ?_);intro g1 u m;refine aC aO (aM (k1 _ _ ?_));refine bG fun K2 k2=>ao (aC (aW (c:=0) underlying245 O aV O O) ?_);simp only[zz];refine aS O ((m.b 0 O).lies1 bF O) ?_;simp only[zz];refine aC aO (aM (k2 _ _ ?_));refine jb ?_;simp only[zz];try simp only[cw,Exit.then,if_true]
 refine aT O O ?_;try simp only[zD,zE]
 exact⟨_,O,m.ext,O⟩
theorem al9  : sT prog 195 [] (.agg #[.func (.func 276) #[] #[],.func (.func 277) #[] #[],.func (.func 278) #[] #[]]):=by
 intro w;refine⟨aho,?_⟩;have m:=iU.refl w
 go_enter func195,ntmps195
 refine bG fun K1 k1=>ao (ak6 m aaB O ?_);intro g1 u m;refine aM (k1 _ _ ?_);refine bG fun K2 k2=>ao (aC (Ht O O O) ?_);simp only[zz];refine ahd m 0 O O O Kj (iK O) O ?_;intro u m;simp only[zy,zx,over,zF,zG,aa] at m;refine aM (k2 _ _ ?_);refine jb ?_;try simp only[cw,Exit.then,if_true]
 refine aT O ⟨_,O,((m.b 0 O).full ad8 Kj)⟩ ?_;try simp only[zD,zE]
 exact⟨_,O,m.ext,O⟩
theorem tP{p:P3}:sT prog 130 [pt p,pt q] (.bool (decide (p.Lt q))):=by
 intro w;refine⟨bJ func130 (by kernel_rfl),?_⟩;have m:=iU.refl w
 go_enter func130,ntmps130
 refine bG fun K1 k1=>ao (oL m O ?_);intro g1 u m;simp only[zz];refine oL m O ?_;intro g2 u m;refine aC aO (aM (k1 _ _ ?_));refine bG fun K2 k2=>bG fun K3 k3=>ao ?_;simp only[zz];refine Nq m O O al9 ?_;intro u m;refine aC aH (aM (k3 _ _ ?_));refine jm (wp_loop_rounds 4 (Bf (bG fun K4 k4=>ao (aC (qT (m:=0) (n:=3) O O (by decide)) (aM (k4 _ _ ?_))))));refine bG fun K5 k5=>Ax O (jp (k5 _ _ ?_));refine bG fun K6 k6=>jm (bG fun K7 k7=>ao (aC (Ev O O) ?_));simp only[zz];refine aC aO (aM (k7 _ _ ?_));refine bG fun K8 k8=>?_;simp only[zz];refine Gmq m aB (by kernel_rfl) (aI aH ?_);simp only[zz];refine Tc O (fun u m=>((m.b 1 O).full aG aA)) ?_;simp only[zz];refine Hj O O anl (aI aH ?_);simp only[zz];refine Tc O (fun u m=>((m.b 0 O).full aG aA)) ?_;simp only[zz];refine Hj O O anl (aI aO (aI aO (bC ?_)));intro u m;refine k8 _ _ ?_;refine bG fun K9 k9=>ao (aC aH ?_);simp only[zz];refine aC aH (aC (qM O O) (aM (k9 _ _ ?_)));simp only[zz];refine bD O ?_ ?_<;>intro hc2
 ·
  refine bG fun K10 k10=>ao (aC aH (aC aH (aC (qL O O) (aC aO ?_))));simp only[zz];refine aM (k10 _ _ ?_);refine jb ?_;try simp only[cw,Exit.then,if_true]
  refine aT O O ?_;try simp only[zD,zE]
  exact⟨_,O,m.ext,by simp only[P3.lt_x hc2]⟩
 ·
  have ex:p.x=q.x:=by omega
  refine jp (k6 _ _ ?_);refine ao (aC (fC (m:=0) (n:=1) (r:=1) O O (by decide)) (aC aH (aM (lR (bG fun K11 k11=>ao (aC (qT (m:=1) (n:=3) O O (by decide)) (aM (k11 _ _ ?_))))))));refine bG fun K12 k12=>Ax O (jp (k12 _ _ ?_));refine bG fun K13 k13=>jm (bG fun K14 k14=>ao (aC (Ew O O) ?_));simp only[zz];refine aC aO (aM (k14 _ _ ?_));refine bG fun K15 k15=>?_;simp only[zz];refine Gmq m aB (by kernel_rfl) (aI aH ?_);simp only[zz];refine Tc O (fun u m=>((m.b 1 O).full aG aA)) ?_;simp only[zz];refine Hj O O anm (aI aH ?_);simp only[zz];refine Tc O (fun u m=>((m.b 0 O).full aG aA)) ?_;simp only[zz];refine Hj O O anm (aI aO (aI aO (bC ?_)));intro u m;refine k15 _ _ ?_;refine bG fun K16 k16=>ao (aC aH ?_);simp only[zz];refine aC aH (aC (qM O O) (aM (k16 _ _ ?_)));simp only[zz];refine bD O ?_ ?_<;>intro hc2
  ·
   refine bG fun K17 k17=>ao (aC aH (aC aH (aC (qL O O) (aC aO ?_))));simp only[zz];refine aM (k17 _ _ ?_);refine jb ?_;try simp only[cw,Exit.then,if_true]
   refine aT O O ?_;try simp only[zD,zE]
   exact⟨_,O,m.ext,by simp only[P3.lt_y ex hc2]⟩
  ·
   have ey:p.y=q.y:=by omega
   refine jp (k13 _ _ ?_);refine ao (aC (fC (m:=1) (n:=1) (r:=2) O O (by decide)) (aC aH (aM (lR (bG fun K18 k18=>ao (aC (qT (m:=2) (n:=3) O O (by decide)) (aM (k18 _ _ ?_))))))));refine bG fun K19 k19=>Ax O (jp (k19 _ _ ?_));refine bG fun K20 k20=>jm (bG fun K21 k21=>ao (aC (Ex O O) ?_));simp only[zz];refine aC aO (aM (k21 _ _ ?_));refine bG fun K22 k22=>?_;simp only[zz];refine Gmq m aB (by kernel_rfl) (aI aH ?_);simp only[zz];refine Tc O (fun u m=>((m.b 1 O).full aG aA)) ?_;simp only[zz];refine Hj O O ann (aI aH ?_);simp only[zz];refine Tc O (fun u m=>((m.b 0 O).full aG aA)) ?_;simp only[zz];refine Hj O O ann (aI aO (aI aO (bC ?_)));intro u m;refine k22 _ _ ?_;refine bG fun K23 k23=>ao (aC aH ?_);simp only[zz];refine aC aH (aC (qM O O) (aM (k23 _ _ ?_)));simp only[zz];refine bD O ?_ ?_<;>intro hc2
   ·
    refine bG fun K24 k24=>ao (aC aH (aC aH (aC (qL O O) (aC aO ?_))));simp only[zz];refine aM (k24 _ _ ?_);refine jb ?_;try simp only[cw,Exit.then,if_true]
    refine aT O O ?_;try simp only[zD,zE]
    exact⟨_,O,m.ext,by simp only[P3.lt_z ex ey]⟩
   ·
    have ez:p.z=q.z:=by omega
    refine jp (k20 _ _ ?_);refine ao (aC (fC (m:=2) (n:=1) (r:=3) O O (by decide)) (aC aH (aM (lR (bG fun K25 k25=>ao (aC (Fj (m:=3) (n:=3) O O (by decide)) (aM (k25 _ _ ?_))))))));refine bG fun K26 k26=>aeX O (wp_exit (k2 _ _ ?_));refine bG fun K27 k27=>ao (aC aO ?_);simp only[zz];refine aM (k27 _ _ ?_);refine jb ?_;try simp only[cw,Exit.then,if_true]
    refine aT O O ?_;try simp only[zD,zE]
    exact⟨_,O,m.ext,by rw[decide_eq_false (fun h=>by unfold P3.Lt at h;omega)]⟩
theorem Dx{p:P3}:sT prog 116 [pt p,pt q] (.int .i64 (qK p q)):=by
 intro w;refine⟨bJ func116 (by kernel_rfl),?_⟩;have m:=iU.refl w
 go_enter func116,ntmps116
 refine bG fun K1 k1=>ao (oL m O ?_);intro g1 u m;simp only[zz];refine oL m O ?_;intro g2 u m;refine aC aO (aM (k1 _ _ ?_));refine bG fun K2 k2=>jm (bG fun K3 k3=>ao ?_);simp only[zz];refine aS O ((m.b 1 O).full aG aA) ?_;simp only[zz];refine aS O ((m.b 0 O).full aG aA) ?_;simp only[zz];refine Nq m O O tP ?_;intro u m;refine aC aO (aM (k3 _ _ ?_));simp only[zz];refine bD O ?_ ?_<;>intro hc1
 ·
  refine bG fun K4 k4=>ao (aC aO (aM (k4 _ _ ?_)));refine jb ?_;simp only[zz];try simp only[cw,Exit.then,if_true]
  refine aT O O ?_;try simp only[zD,zE]
  exact⟨_,O,m.ext,by simp[qK,hc1]⟩
 ·
  refine bG fun K5 k5=>ao (aS O ((m.b 0 O).full aG aA) ?_);simp only[zz];refine aS O ((m.b 1 O).full aG aA) ?_;simp only[zz];refine Nq m O O tP ?_;intro u m;refine aC aO (aM (k5 _ _ ?_));simp only[zz];refine bD O ?_ ?_<;>intro hc2
  ·
   refine bG fun K6 k6=>ao (aC aO (aM (k6 _ _ ?_)));refine jb ?_;simp only[zz];try simp only[cw,Exit.then,if_true]
   refine aT O O ?_;try simp only[zD,zE]
   exact⟨_,O,m.ext,by simp[qK,hc1,hc2]⟩
  ·
   refine jp (k2 _ _ ?_);refine bG fun K7 k7=>ao (aC aO (aM (k7 _ _ ?_)));refine jb ?_;simp only[zz];try simp only[cw,Exit.then,if_true]
   refine aT O O ?_;try simp only[zD,zE]
   exact⟨_,O,m.ext,by simp[qK,hc1,hc2]⟩
end Go.Proofs.YtfekpcimgncioaaGreatDoor
namespace Go.Lith
open Go.RowKit
def ai3(P:Program)(f:FuncId)(args:List ai)(w:aj)(v:ai):Prop:=Entr P f∧Calls P f args.toArray w fun e w'=>∃u,e=.returned u∧GX w w'∧u=v
section
variable {P:Program} {ds:List Deferred} {l:List ai} {x y:bx} {T ty:az}
variable {ops:Array Oper} {Q:Exit→Act→aj→Prop} {rest:List Oper} {d:Nat} {pos:String} {after:Array Edge} {w w0:aj} {is:List It} {v:ai}
theorem ai4{E:az}{z:ai}(m:iU w0 w is)(hu:P.underlying T=some (.slice E))(hi:(P.info? E).map (fun i=>(i.size,i.zero))=some (1,some z))(hz:z.cells = #[z]){v v2:ai}(hx:ev l x=v)(hv:v.cells = #[v])(hy:ev l y=v2)(hv2:v2.cells = #[v2])
 (h:∀g u,iU w0 u (bI g [v,v2] E::is)→ar P ops Q rest (Fr (l.set d (.slice (some ⟨g,0,none⟩) 2 2)) ds) u) :
 ar P ops Q (Oper.mk (some d) (.buildSlice T 2 #[(0,x),(1,y)]) ty pos after none::rest) (Fr l ds) w:=by
 cases hq:P.info? E with
 | none=>rw[hq] at hi;cases hi
 | some i =>
  rw[hq] at hi;simp only[fl,gn,gh] at hi;obtain⟨e1,e2⟩:=hi;exact mJ (w':=w.alloc (.cells #[v,v2] E)) (v:=.slice (some ⟨w.heap.size,0,none⟩) 2 2) (fun o ho _=>by simp[execOp,ho,Instr.buildSlice,run_underlying hu,sizeOf,typeInfo,zeroValue,hq,e1,e2,hz,cK,hx,hv,hy,hv2,Instr.fill,newRow,newObj,Sem.run,Hf]) (h _ _ (m.go (m.mem.newB ((fQ.refl w).alloc _) (av _) (jQ w [v,v2] E)) (av _)))
theorem Yz(z v v2 v3:ai):(((Array.map (fun x=>[z][x%1]?.getD default) (Array.range 3)).setIfInBounds 0 v).setIfInBounds 1 v2).setIfInBounds 2 v3 = #[v,v2,v3]:=by
 apply Array.ext (by simp);intro i h1 h2;have h3:i<3:=by simpa using h2
 rcases nl i 1 with h | h | h
 · obtain rfl:i=0:=by omega
   simp
 · subst h
   simp
 · obtain rfl:i=2:=by omega
   simp
theorem abk{E:az}{z:ai}{y3:bx}(m:iU w0 w is)(hu:P.underlying T=some (.slice E))(hi:(P.info? E).map (fun i=>(i.size,i.zero))=some (1,some z))(hz:z.cells = #[z]){v v2 v3:ai}(hx:ev l x=v)(hv:v.cells = #[v])(hy:ev l y=v2)(hv2:v2.cells = #[v2])(hy3:ev l y3=v3)(hv3:v3.cells = #[v3])
 (h:∀g u,iU w0 u (bI g [v,v2,v3] E::is)→ar P ops Q rest (Fr (l.set d (.slice (some ⟨g,0,none⟩) 3 3)) ds) u) :
 ar P ops Q (Oper.mk (some d) (.buildSlice T 3 #[(0,x),(1,y),(2,y3)]) ty pos after none::rest) (Fr l ds) w:=by
 cases hq:P.info? E with
 | none=>rw[hq] at hi;cases hi
 | some i =>
  rw[hq] at hi;simp only[fl,gn,gh] at hi;obtain⟨e1,e2⟩:=hi;exact mJ (w':=w.alloc (.cells #[v,v2,v3] E)) (v:=.slice (some ⟨w.heap.size,0,none⟩) 3 3) (fun o ho _=>by simp[execOp,ho,Instr.buildSlice,run_underlying hu,sizeOf,typeInfo,zeroValue,hq,e1,e2,hz,cK,hx,hv,hy,hv2,hy3,hv3,Instr.fill,newRow,newObj,Sem.run,Yz]) (h _ _ (m.go (m.mem.newB ((fQ.refl w).alloc _) (av _) (jQ w [v,v2,v3] E)) (av _)))
theorem Za{f:FuncId}{fo:bx}{xs:Array bx}{args:List ai}{first cap:Array ai}{a0:Array az}(m:iU w0 w is)(hf:ev l fo=.func (.func f) first cap)(hxs:first.toList++xs.toList.map (ev l)++cap.toList=args)(hc:ai3 P f args w v)
 (h:∀u,iU w0 u is→ar P ops Q rest (Fr (l.set d v) ds) u):ar P ops Q (Oper.mk (some d) (.call { callee:=.value fo,args:=xs,argTypes:=a0 }) ty pos after none::rest) (Fr l ds) w:=by
 refine wpList_plain O fun K hK=>?_;unfold Oper.wp;rw[kI,pJ hc.1 hf hxs _ rfl];refine hc.2.mono ?_;rintro e w' ⟨u,rfl,hE,rfl⟩;show K ((Fr l ds).put (some d) u) w'
 rw[iN];exact hK _ _ (h w' (m.ext' hE))
end
end Go.Lith
namespace Go.Proofs
open Go.Shelf
def Tryz.sort112_ren:Go.Shelf.Ren:=⟨fun | 6=>112 | 15=>181 | 14=>180 | 28=>254 | 29=>255 | 20=>246 | 21=>247 | 22=>248 | 23=>249 | 24=>250 | 25=>251 | 26=>252 | 27=>253 | 46=>309 | 47=>310 | 48=>311 | 49=>312 | 50=>313 | 57=>339 | n=>n,fun | 22=>27 | 24=>39 | 25=>162 | 3=>3 | 39=>141 | 0=>0 | 53=>297 | 55=>231 | 4=>4 | 46=>291 | 45=>290 | 50=>202 | 5=>5 | 9=>9 | 66=>343 | 70=>347 | 76=>369 | 77=>367 | n=>n,fun | n=>n⟩
theorem Tryz.sort112:Go.Proofs.SlLaysF0.n6 Tryz.prog Tryz.sort112_ren:={
 mixed:=by kernel_rfl
 f6:=⟨Tryz.f112.name,by decide,Tryz.func112.trans (congrArg some (by kernel_rfl))⟩
 f14:=⟨Tryz.f180.name,by decide,Tryz.func180.trans (congrArg some (by kernel_rfl))⟩
 f15:=Tryz.func181.trans (congrArg some (by kernel_rfl))
 f20:=⟨Tryz.f246.name,by decide,Tryz.func246.trans (congrArg some (by kernel_rfl))⟩
 f21:=⟨Tryz.f247.name,by decide,Tryz.func247.trans (congrArg some (by kernel_rfl))⟩
 f22:=⟨Tryz.f248.name,by decide,Tryz.func248.trans (congrArg some (by kernel_rfl))⟩
 f23:=⟨Tryz.f249.name,by decide,Tryz.func249.trans (congrArg some (by kernel_rfl))⟩
 f24:=⟨Tryz.f250.name,by decide,Tryz.func250.trans (congrArg some (by kernel_rfl))⟩
 f25:=⟨Tryz.f251.name,by decide,Tryz.func251.trans (congrArg some (by kernel_rfl))⟩
 f26:=⟨Tryz.f252.name,by decide,Tryz.func252.trans (congrArg some (by kernel_rfl))⟩
 f27:=⟨Tryz.f253.name,by decide,Tryz.func253.trans (congrArg some (by kernel_rfl))⟩
 f28:=Tryz.func254.trans (congrArg some (by kernel_rfl))
 f29:=Tryz.func255.trans (congrArg some (by kernel_rfl))
 f46:=⟨Tryz.f309.name,by decide,Tryz.func309.trans (congrArg some (by kernel_rfl))⟩
 f47:=Tryz.func310.trans (congrArg some (by kernel_rfl))
 f48:=Tryz.func311.trans (congrArg some (by kernel_rfl))
 f49:=⟨Tryz.f312.name,by decide,Tryz.func312.trans (congrArg some (by kernel_rfl))⟩
 f50:=⟨Tryz.f313.name,by decide,Tryz.func313.trans (congrArg some (by kernel_rfl))⟩
 f57:=⟨Tryz.f339.name,by decide,Tryz.func339.trans (congrArg some (by kernel_rfl))⟩
 t0:=Tryz.underlying0
 a0:=Tryz.isAgg0
 z0:=Tryz.sizeOf0
 v0:=Tryz.zeroValue0
 t3:=Tryz.underlying3
 a3:=Tryz.isAgg3
 z3:=Tryz.sizeOf3
 v3:=Tryz.zeroValue3
 t4:=Tryz.underlying4
 a4:=Tryz.isAgg4
 z4:=Tryz.sizeOf4
 v4:=Tryz.zeroValue4
 t5:=Tryz.underlying5
 a5:=Tryz.isAgg5
 z5:=Tryz.sizeOf5
 v5:=Tryz.zeroValue5
 t9:=Tryz.underlying9
 a9:=Tryz.isAgg9
 z9:=Tryz.sizeOf9
 v9:=Tryz.zeroValue9
 t22:=Tryz.underlying27
 a22:=Tryz.isAgg27
 z22:=Tryz.sizeOf27
 v22:=Tryz.zeroValue27
 t25:=Tryz.underlying162
 a25:=Tryz.isAgg162
 z25:=Tryz.sizeOf162
 v25:=Tryz.zeroValue162
 t39:=Tryz.underlying141
 a39:=Tryz.isAgg141
 z39:=Tryz.sizeOf141
 v39:=Tryz.zeroValue141
 t45:=Tryz.underlying290
 a45:=Tryz.isAgg290
 z45:=Tryz.sizeOf290
 v45:=Tryz.zeroValue290
 t46:=Tryz.underlying291
 a46:=Tryz.isAgg291
 z46:=Tryz.sizeOf291
 v46:=Tryz.zeroValue291
 t50:=Tryz.underlying202
 a50:=Tryz.isAgg202
 z50:=Tryz.sizeOf202
 v50:=Tryz.zeroValue202
 t53:=Tryz.underlying297
 a53:=Tryz.isAgg297
 z53:=Tryz.sizeOf297
 v53:=Tryz.zeroValue297
 t55:=Tryz.underlying231
 a55:=Tryz.isAgg231
 z55:=Tryz.sizeOf231
 v55:=Tryz.zeroValue231
 t66:=Tryz.underlying343
 a66:=Tryz.isAgg343
 z66:=Tryz.sizeOf343
 v66:=Tryz.zeroValue343
 t70:=Tryz.underlying347
 a70:=Tryz.isAgg347
 z70:=Tryz.sizeOf347
 v70:=Tryz.zeroValue347
 t76:=Tryz.underlying369
 a76:=Tryz.isAgg369
 z76:=Tryz.sizeOf369
 v76:=Tryz.zeroValue369
 t77:=Tryz.underlying367
 a77:=Tryz.isAgg367
 z77:=Tryz.sizeOf367
 v77:=Tryz.zeroValue367 }
def Tryz.sort123_ren:Go.Shelf.Ren:=⟨fun | 6=>123 | 15=>181 | 14=>190 | 28=>254 | 29=>255 | 20=>259 | 21=>260 | 22=>261 | 23=>262 | 24=>263 | 25=>264 | 26=>265 | 27=>266 | 46=>319 | 47=>310 | 48=>311 | 49=>320 | 50=>321 | 57=>343 | n=>n,fun | 22=>105 | 24=>112 | 25=>115 | 3=>3 | 39=>141 | 0=>0 | 53=>297 | 55=>231 | 4=>4 | 46=>291 | 45=>290 | 50=>202 | 5=>5 | 9=>9 | 66=>343 | 70=>347 | 76=>369 | 77=>367 | n=>n,fun | n=>n⟩
theorem Tryz.sort123:Go.Proofs.SlLaysF0.n6 Tryz.prog Tryz.sort123_ren:={
 mixed:=by kernel_rfl
 f6:=⟨Tryz.f123.name,by decide,Tryz.func123.trans (congrArg some (by kernel_rfl))⟩
 f14:=⟨Tryz.f190.name,by decide,Tryz.func190.trans (congrArg some (by kernel_rfl))⟩
 f15:=Tryz.func181.trans (congrArg some (by kernel_rfl))
 f20:=⟨Tryz.f259.name,by decide,Tryz.func259.trans (congrArg some (by kernel_rfl))⟩
 f21:=⟨Tryz.f260.name,by decide,Tryz.func260.trans (congrArg some (by kernel_rfl))⟩
 f22:=⟨Tryz.f261.name,by decide,Tryz.func261.trans (congrArg some (by kernel_rfl))⟩
 f23:=⟨Tryz.f262.name,by decide,Tryz.func262.trans (congrArg some (by kernel_rfl))⟩
 f24:=⟨Tryz.f263.name,by decide,Tryz.func263.trans (congrArg some (by kernel_rfl))⟩
 f25:=⟨Tryz.f264.name,by decide,Tryz.func264.trans (congrArg some (by kernel_rfl))⟩
 f26:=⟨Tryz.f265.name,by decide,Tryz.func265.trans (congrArg some (by kernel_rfl))⟩
 f27:=⟨Tryz.f266.name,by decide,Tryz.func266.trans (congrArg some (by kernel_rfl))⟩
 f28:=Tryz.func254.trans (congrArg some (by kernel_rfl))
 f29:=Tryz.func255.trans (congrArg some (by kernel_rfl))
 f46:=⟨Tryz.f319.name,by decide,Tryz.func319.trans (congrArg some (by kernel_rfl))⟩
 f47:=Tryz.func310.trans (congrArg some (by kernel_rfl))
 f48:=Tryz.func311.trans (congrArg some (by kernel_rfl))
 f49:=⟨Tryz.f320.name,by decide,Tryz.func320.trans (congrArg some (by kernel_rfl))⟩
 f50:=⟨Tryz.f321.name,by decide,Tryz.func321.trans (congrArg some (by kernel_rfl))⟩
 f57:=⟨Tryz.f343.name,by decide,Tryz.func343.trans (congrArg some (by kernel_rfl))⟩
 t0:=Tryz.underlying0
 a0:=Tryz.isAgg0
 z0:=Tryz.sizeOf0
 v0:=Tryz.zeroValue0
 t3:=Tryz.underlying3
 a3:=Tryz.isAgg3
 z3:=Tryz.sizeOf3
 v3:=Tryz.zeroValue3
 t4:=Tryz.underlying4
 a4:=Tryz.isAgg4
 z4:=Tryz.sizeOf4
 v4:=Tryz.zeroValue4
 t5:=Tryz.underlying5
 a5:=Tryz.isAgg5
 z5:=Tryz.sizeOf5
 v5:=Tryz.zeroValue5
 t9:=Tryz.underlying9
 a9:=Tryz.isAgg9
 z9:=Tryz.sizeOf9
 v9:=Tryz.zeroValue9
 t22:=Tryz.underlying105
 a22:=Tryz.isAgg105
 z22:=Tryz.sizeOf105
 v22:=Tryz.zeroValue105
 t25:=Tryz.underlying115
 a25:=Tryz.isAgg115
 z25:=Tryz.sizeOf115
 v25:=Tryz.zeroValue115
 t39:=Tryz.underlying141
 a39:=Tryz.isAgg141
 z39:=Tryz.sizeOf141
 v39:=Tryz.zeroValue141
 t45:=Tryz.underlying290
 a45:=Tryz.isAgg290
 z45:=Tryz.sizeOf290
 v45:=Tryz.zeroValue290
 t46:=Tryz.underlying291
 a46:=Tryz.isAgg291
 z46:=Tryz.sizeOf291
 v46:=Tryz.zeroValue291
 t50:=Tryz.underlying202
 a50:=Tryz.isAgg202
 z50:=Tryz.sizeOf202
 v50:=Tryz.zeroValue202
 t53:=Tryz.underlying297
 a53:=Tryz.isAgg297
 z53:=Tryz.sizeOf297
 v53:=Tryz.zeroValue297
 t55:=Tryz.underlying231
 a55:=Tryz.isAgg231
 z55:=Tryz.sizeOf231
 v55:=Tryz.zeroValue231
 t66:=Tryz.underlying343
 a66:=Tryz.isAgg343
 z66:=Tryz.sizeOf343
 v66:=Tryz.zeroValue343
 t70:=Tryz.underlying347
 a70:=Tryz.isAgg347
 z70:=Tryz.sizeOf347
 v70:=Tryz.zeroValue347
 t76:=Tryz.underlying369
 a76:=Tryz.isAgg369
 z76:=Tryz.sizeOf369
 v76:=Tryz.zeroValue369
 t77:=Tryz.underlying367
 a77:=Tryz.isAgg367
 z77:=Tryz.sizeOf367
 v77:=Tryz.zeroValue367 }
def Tryz.sort128_ren:Go.Shelf.Ren:=⟨fun | 6=>128 | 15=>181 | 14=>194 | 28=>254 | 29=>255 | 20=>268 | 21=>269 | 22=>270 | 23=>271 | 24=>272 | 25=>273 | 26=>274 | 27=>275 | 46=>322 | 47=>310 | 48=>311 | 49=>323 | 50=>324 | 57=>344 | n=>n,fun | 22=>65 | 24=>30 | 25=>123 | 3=>3 | 39=>141 | 0=>0 | 53=>297 | 55=>231 | 4=>4 | 46=>291 | 45=>290 | 50=>202 | 5=>5 | 9=>9 | 66=>343 | 70=>347 | 76=>369 | 77=>367 | n=>n,fun | n=>n⟩
theorem Tryz.sort128:Go.Proofs.SlLaysF0.n6 Tryz.prog Tryz.sort128_ren:={
 mixed:=by kernel_rfl
 f6:=⟨Tryz.f128.name,by decide,Tryz.func128.trans (congrArg some (by kernel_rfl))⟩
 f14:=⟨Tryz.f194.name,by decide,Tryz.func194.trans (congrArg some (by kernel_rfl))⟩
 f15:=Tryz.func181.trans (congrArg some (by kernel_rfl))
 f20:=⟨Tryz.f268.name,by decide,Tryz.func268.trans (congrArg some (by kernel_rfl))⟩
 f21:=⟨Tryz.f269.name,by decide,Tryz.func269.trans (congrArg some (by kernel_rfl))⟩
 f22:=⟨Tryz.f270.name,by decide,Tryz.func270.trans (congrArg some (by kernel_rfl))⟩
 f23:=⟨Tryz.f271.name,by decide,Tryz.func271.trans (congrArg some (by kernel_rfl))⟩
 f24:=⟨Tryz.f272.name,by decide,Tryz.func272.trans (congrArg some (by kernel_rfl))⟩
 f25:=⟨Tryz.f273.name,by decide,Tryz.func273.trans (congrArg some (by kernel_rfl))⟩
 f26:=⟨Tryz.f274.name,by decide,Tryz.func274.trans (congrArg some (by kernel_rfl))⟩
 f27:=⟨Tryz.f275.name,by decide,Tryz.func275.trans (congrArg some (by kernel_rfl))⟩
 f28:=Tryz.func254.trans (congrArg some (by kernel_rfl))
 f29:=Tryz.func255.trans (congrArg some (by kernel_rfl))
 f46:=⟨Tryz.f322.name,by decide,Tryz.func322.trans (congrArg some (by kernel_rfl))⟩
 f47:=Tryz.func310.trans (congrArg some (by kernel_rfl))
 f48:=Tryz.func311.trans (congrArg some (by kernel_rfl))
 f49:=⟨Tryz.f323.name,by decide,Tryz.func323.trans (congrArg some (by kernel_rfl))⟩
 f50:=⟨Tryz.f324.name,by decide,Tryz.func324.trans (congrArg some (by kernel_rfl))⟩
 f57:=⟨Tryz.f344.name,by decide,Tryz.func344.trans (congrArg some (by kernel_rfl))⟩
 t0:=Tryz.underlying0
 a0:=Tryz.isAgg0
 z0:=Tryz.sizeOf0
 v0:=Tryz.zeroValue0
 t3:=Tryz.underlying3
 a3:=Tryz.isAgg3
 z3:=Tryz.sizeOf3
 v3:=Tryz.zeroValue3
 t4:=Tryz.underlying4
 a4:=Tryz.isAgg4
 z4:=Tryz.sizeOf4
 v4:=Tryz.zeroValue4
 t5:=Tryz.underlying5
 a5:=Tryz.isAgg5
 z5:=Tryz.sizeOf5
 v5:=Tryz.zeroValue5
 t9:=Tryz.underlying9
 a9:=Tryz.isAgg9
 z9:=Tryz.sizeOf9
 v9:=Tryz.zeroValue9
 t22:=Tryz.underlying65
 a22:=Tryz.isAgg65
 z22:=Tryz.sizeOf65
 v22:=Tryz.zeroValue65
 t25:=Tryz.underlying123
 a25:=Tryz.isAgg123
 z25:=Tryz.sizeOf123
 v25:=Tryz.zeroValue123
 t39:=Tryz.underlying141
 a39:=Tryz.isAgg141
 z39:=Tryz.sizeOf141
 v39:=Tryz.zeroValue141
 t45:=Tryz.underlying290
 a45:=Tryz.isAgg290
 z45:=Tryz.sizeOf290
 v45:=Tryz.zeroValue290
 t46:=Tryz.underlying291
 a46:=Tryz.isAgg291
 z46:=Tryz.sizeOf291
 v46:=Tryz.zeroValue291
 t50:=Tryz.underlying202
 a50:=Tryz.isAgg202
 z50:=Tryz.sizeOf202
 v50:=Tryz.zeroValue202
 t53:=Tryz.underlying297
 a53:=Tryz.isAgg297
 z53:=Tryz.sizeOf297
 v53:=Tryz.zeroValue297
 t55:=Tryz.underlying231
 a55:=Tryz.isAgg231
 z55:=Tryz.sizeOf231
 v55:=Tryz.zeroValue231
 t66:=Tryz.underlying343
 a66:=Tryz.isAgg343
 z66:=Tryz.sizeOf343
 v66:=Tryz.zeroValue343
 t70:=Tryz.underlying347
 a70:=Tryz.isAgg347
 z70:=Tryz.sizeOf347
 v70:=Tryz.zeroValue347
 t76:=Tryz.underlying369
 a76:=Tryz.isAgg369
 z76:=Tryz.sizeOf369
 v76:=Tryz.zeroValue369
 t77:=Tryz.underlying367
 a77:=Tryz.isAgg367
 z77:=Tryz.sizeOf367
 v77:=Tryz.zeroValue367 }
def Tryz.sort237_ren:Go.Shelf.Ren:=⟨fun | 6=>237 | 15=>181 | 14=>297 | 28=>254 | 29=>255 | 20=>328 | 21=>329 | 22=>330 | 23=>331 | 24=>332 | 25=>333 | 26=>334 | 27=>335 | 46=>345 | 47=>310 | 48=>311 | 49=>346 | 50=>347 | 57=>350 | n=>n,fun | 22=>212 | 24=>215 | 25=>216 | 3=>3 | 39=>141 | 0=>0 | 53=>297 | 55=>231 | 4=>4 | 46=>291 | 45=>290 | 50=>202 | 5=>5 | 9=>9 | 66=>343 | 70=>347 | 76=>369 | 77=>367 | n=>n,fun | n=>n⟩
theorem Tryz.sort237:Go.Proofs.SlLaysF0.n6 Tryz.prog Tryz.sort237_ren:={
 mixed:=by kernel_rfl
 f6:=⟨Tryz.f237.name,by decide,Tryz.func237.trans (congrArg some (by kernel_rfl))⟩
 f14:=⟨Tryz.f297.name,by decide,Tryz.func297.trans (congrArg some (by kernel_rfl))⟩
 f15:=Tryz.func181.trans (congrArg some (by kernel_rfl))
 f20:=⟨Tryz.f328.name,by decide,Tryz.func328.trans (congrArg some (by kernel_rfl))⟩
 f21:=⟨Tryz.f329.name,by decide,Tryz.func329.trans (congrArg some (by kernel_rfl))⟩
 f22:=⟨Tryz.f330.name,by decide,Tryz.func330.trans (congrArg some (by kernel_rfl))⟩
 f23:=⟨Tryz.f331.name,by decide,Tryz.func331.trans (congrArg some (by kernel_rfl))⟩
 f24:=⟨Tryz.f332.name,by decide,Tryz.func332.trans (congrArg some (by kernel_rfl))⟩
 f25:=⟨Tryz.f333.name,by decide,Tryz.func333.trans (congrArg some (by kernel_rfl))⟩
 f26:=⟨Tryz.f334.name,by decide,Tryz.func334.trans (congrArg some (by kernel_rfl))⟩
 f27:=⟨Tryz.f335.name,by decide,Tryz.func335.trans (congrArg some (by kernel_rfl))⟩
 f28:=Tryz.func254.trans (congrArg some (by kernel_rfl))
 f29:=Tryz.func255.trans (congrArg some (by kernel_rfl))
 f46:=⟨Tryz.f345.name,by decide,Tryz.func345.trans (congrArg some (by kernel_rfl))⟩
 f47:=Tryz.func310.trans (congrArg some (by kernel_rfl))
 f48:=Tryz.func311.trans (congrArg some (by kernel_rfl))
 f49:=⟨Tryz.f346.name,by decide,Tryz.func346.trans (congrArg some (by kernel_rfl))⟩
 f50:=⟨Tryz.f347.name,by decide,Tryz.func347.trans (congrArg some (by kernel_rfl))⟩
 f57:=⟨Tryz.f350.name,by decide,Tryz.func350.trans (congrArg some (by kernel_rfl))⟩
 t0:=Tryz.underlying0
 a0:=Tryz.isAgg0
 z0:=Tryz.sizeOf0
 v0:=Tryz.zeroValue0
 t3:=Tryz.underlying3
 a3:=Tryz.isAgg3
 z3:=Tryz.sizeOf3
 v3:=Tryz.zeroValue3
 t4:=Tryz.underlying4
 a4:=Tryz.isAgg4
 z4:=Tryz.sizeOf4
 v4:=Tryz.zeroValue4
 t5:=Tryz.underlying5
 a5:=Tryz.isAgg5
 z5:=Tryz.sizeOf5
 v5:=Tryz.zeroValue5
 t9:=Tryz.underlying9
 a9:=Tryz.isAgg9
 z9:=Tryz.sizeOf9
 v9:=Tryz.zeroValue9
 t22:=Tryz.underlying212
 a22:=Tryz.isAgg212
 z22:=Tryz.sizeOf212
 v22:=Tryz.zeroValue212
 t25:=Tryz.underlying216
 a25:=Tryz.isAgg216
 z25:=Tryz.sizeOf216
 v25:=Tryz.zeroValue216
 t39:=Tryz.underlying141
 a39:=Tryz.isAgg141
 z39:=Tryz.sizeOf141
 v39:=Tryz.zeroValue141
 t45:=Tryz.underlying290
 a45:=Tryz.isAgg290
 z45:=Tryz.sizeOf290
 v45:=Tryz.zeroValue290
 t46:=Tryz.underlying291
 a46:=Tryz.isAgg291
 z46:=Tryz.sizeOf291
 v46:=Tryz.zeroValue291
 t50:=Tryz.underlying202
 a50:=Tryz.isAgg202
 z50:=Tryz.sizeOf202
 v50:=Tryz.zeroValue202
 t53:=Tryz.underlying297
 a53:=Tryz.isAgg297
 z53:=Tryz.sizeOf297
 v53:=Tryz.zeroValue297
 t55:=Tryz.underlying231
 a55:=Tryz.isAgg231
 z55:=Tryz.sizeOf231
 v55:=Tryz.zeroValue231
 t66:=Tryz.underlying343
 a66:=Tryz.isAgg343
 z66:=Tryz.sizeOf343
 v66:=Tryz.zeroValue343
 t70:=Tryz.underlying347
 a70:=Tryz.isAgg347
 z70:=Tryz.sizeOf347
 v70:=Tryz.zeroValue347
 t76:=Tryz.underlying369
 a76:=Tryz.isAgg369
 z76:=Tryz.sizeOf369
 v76:=Tryz.zeroValue369
 t77:=Tryz.underlying367
 a77:=Tryz.isAgg367
 z77:=Tryz.sizeOf367
 v77:=Tryz.zeroValue367 }
end Go.Proofs
namespace Go.Proofs.YtfekpcimgncioaaGreatDoor
open Go.Proofs.Tryz
open Go.RowKit Go.Lith
set_option maxRecDepth 100000
attribute [local irreducible] ar cl fU bS cO Code.wp
attribute [local congr] pD gF gG gH gI gJ kL gK gL gM gN gQ gR gS gT gU gV gW eU eV gX gY iA iB iC kN dF dG cW dD gZ kM eW eX eY iD iE kO
variable{c:Nat}
theorem gC:sM prog 30 pt:=by
 refine sM.agg (cs:=fun p=>#[.int .i64 p.x,.int .i64 p.y,.int .i64 p.z]) (fun _=>rfl) fT (fun e p=>?_) (fun p q=>?_) (fun p=>?_)
 ·
  refine wM.struct (d:=9999) fT fun f hf=>?_;simp only[an,cg,or_false] at hf;rcases hf with rfl | rfl | rfl <;> exact⟨_,cZ bF rfl,wM.int (d:=9998) jN⟩
 · exact (oO 9998).iff ⟨fun h=>P3.eq h.1 h.2.1 h.2.2,fun h=>by subst h;exact⟨O,O,O⟩⟩
 · simp[pt,Instr.sameBits]
theorem ada{w0 w:aj}{is:List It}{g:Nat}{es:Array ck}{D:List (P3 × Bool)}{p:P3}(m:Mem w0 w is)(k:Nat)(hk:is[k]? = some (mI g es c))(hD1:bT pt bj D es c):Calls prog 114 [.map (some g),pt p].toArray w fun e w'=>∃v i,e=.returned v∧Mem w0 w' (is.set k i)∧(v=.bool (!(cL D p).getD false)∧∃es' c',i=mI g es' c'∧bT pt bj (fP D p true) es' c'):=by
 go_enter func114,ntmps114
 apply iY 10 [0,0] m;simp only[↓aD,aQ];intro g1 u m;refine fO (eH (ek:=pt) (en:=bj) (k:=p) (v0:=false) underlying163 oN gC O O (m.p (k+1) hk) hD1) ?_;simp only[zz];apply aL 1 [0] m;simp only[↓aD];refine cR O ?_ ?_<;>intro hc1
 ·
  apply aK 5 [] m;simp only[↓aD];exact aT O O ⟨_,mI g es c,O,by rw[Qd hk];exact m.tl,by rw[hc1];rfl,es,c,rfl,by rw[Kn (by cases hq:cL D p with | none=>rw[hq] at hc1;cases hc1 | some x=>rw[hq] at hc1;exact congrArg some hc1)];exact hD1⟩
 ·
  apply aK 5 [0,0] m;simp only[↓aD,aQ];refine nI (ek:=pt) (en:=bj) (a:=p) (v:=true) m (k+1) hk underlying163 gC O O O hD1 ?_;intro es1 c1 u m hD1;simp only[zF,zG] at m;apply aL 6 [] m;simp only[↓aD];exact aT O O ⟨_,_,O,m.tl,by rw[hc1];rfl,_,_,rfl,hD1⟩
theorem ama{w0 w:aj}{is:List It}{A:Option Addr}{n cap:Nat}{xs:List P3}(m:Mem w0 w is)(k:Nat)(hi:is[k]? = some (oI 30 3 A n cap (xs.flatMap bO)))(hsz:n<4611686018427387904) :
 Calls prog 128 [.slice A n cap,.func (.func 116) #[] #[]].toArray w fun e w'=>∃v i,e=.returned v∧Mem w0 w' (is.set k i)∧(v=.tuple #[]∧∃ys:List P3,i=oI 30 3 A n cap (ys.flatMap bO)∧ys.Perm xs∧ys.Pairwise fun a b=>ltOf qK b a=false) :=
 Bu (enc:=bO) Tryz.sort128 (fun w=>pK aG w) (fun w=>eG aA w) (fun _=>rfl) (by decide) Mm qK aaM (fun x y=>Dx) m k hi hsz
theorem afX{g:Nat}{es:Array ck}{D:List (P3 × Bool)}(w:aj)(hM:jO w g es c)(hD:bT pt bj D es c)(hl:D.length≤1000000):dA prog 115 [.map (some g),.func (.func 116) #[] #[]] w (OR 30 3 (fun xs=>∃ps:List P3,xs=ps.flatMap bO∧ps.Perm (D.map (·.1))∧ps.Pairwise fun a b=>¬b.Lt a) w):=by
 refine⟨bJ func115 (by kernel_rfl),?_⟩;have m:=Mem.refl w
 go_enter func115,ntmps115
 apply fI 6 [0] m;simp only[↓aD];refine aC aO ?_;replace m:=m.nilO 30 3;apply aL 5 [0] m;simp only[↓aD];refine wE m underlying163 O (hM.ext m.ext) ?_;intro r1 u m;apply aL 2 [0] m;simp only[↓aD];refine bX [5] [6,9,10,11,12,13,14,15,16] (fun n vs wl=>∃(dn rs:List (P3 × Bool)) (A1:Option Addr) (n1 cap1:Nat) (sn:Array Nat),vs=[.slice A1 n1 cap1]∧Mem w wl [iI r1 g c sn,oI 30 3 A1 n1 cap1 ((dn.map (·.1)).flatMap bO)]∧(oC pt bj D es sn dn rs)∧(n1=dn.length)∧(n=rs.length)) ?_ ?_
 ·
  exact⟨_,[],D,none,0,0,#[],O,m,oC.start hD,O,O⟩
 ·
  intro n vs wr hI u K1 hK1;obtain⟨dn,rs,A1,n1,cap1,sn,rfl,m,hT,hn1,hn⟩:=hI;have hlen:=hT.len;simp only[zu,zF,zG];apply aK 2 [0] m;simp only[↓aD];refine Ml m 0 O O (hM.ext m.ext) hD hT ?_;intro bb kk vv sn u m hN;simp only[zF,zG] at m;refine aC (pX O) ?_;apply aL 2 [0] m;simp only[↓aD];refine cR O ?_ ?_<;>intro hc1
  ·
   obtain⟨kp,kb,rs2,hp,hT2⟩:=Hx hc1 hN;apply aK 4 [0] m;simp only[↓aD];refine fO (tM O (m.r 0 O) (hM.ext m.ext) hD hT2) ?_;simp only[zz];apply jS 7 [0,0,0] m;simp only[↓aD,eS,aQ,aa];intro g2 u m;refine kW O ?_;intro u g3 e_ h_ k_;replace m:=m.newB e_ h_ k_;simp only[zz];refine bM m 3 O O cN mX O (by decide) O O O (m.b 0 O).rowsO (fV O) (by omega) (by omega) ?_;intro A1 cap1 u m;simp only[zF,zG] at m;apply aL 3 [0] m;simp only[↓aD];exact hK1 rs2.length _ _ (by rw[hn,hp.length_eq];exact fc _) (by kernel_rfl) ⟨dn++[(kp,kb)],rs2,_,_,_,_,O,((m.reO 3 O ((m.o 3 O).as (by simp[bO]))).sel [false,false,true,true]),hT2,by simp[hn1],O⟩
  ·
   obtain rfl:=Hw hc1 hN;apply aK 5 [0] m;simp only[↓aD];refine mL m 1 ach O O (fun m=>ama m 1 O (by omega)) ?_;rintro v i u m ⟨rfl,ys,rfl,hys,hso⟩;simp only[zF,zG] at m;apply aL 7 [] m;simp only[↓aD];exact aT O O ⟨_,O,m.ext,_,_,_,_,O,(m.o 1 O),_,O,hys.trans (hT.done.map _),hso.imp fun h=>by simpa[ltOf,mA] using h⟩
theorem Cq:sM prog 215 ed:=by
 refine sM.agg (cs:=fun p=>#[.int .i64 p.1.x,.int .i64 p.1.y,.int .i64 p.1.z,.int .i64 p.2.x,.int .i64 p.2.y,.int .i64 p.2.z]) (fun _=>rfl) uF (fun e p=>?_) (fun p q=>?_) (fun p=>?_)
 ·
  refine wM.struct (d:=9999) uF fun f hf=>?_;simp only[an,cg,or_false] at hf;rcases hf with rfl | rfl
  ·
   refine⟨_,cX aG aA O,?_⟩;refine wM.struct (d:=9998) fT fun f hf=>?_;simp only[an,cg,or_false] at hf;rcases hf with rfl | rfl | rfl
   · exact⟨_,cZ bF O,wM.int (d:=9997) jN⟩
   · exact⟨_,cZ bF O,wM.int (d:=9997) jN⟩
   · exact⟨_,cZ bF O,wM.int (d:=9997) jN⟩
  ·
   refine⟨_,cX aG aA O,?_⟩;refine wM.struct (d:=9998) fT fun f hf=>?_;simp only[an,cg,or_false] at hf;rcases hf with rfl | rfl | rfl
   · exact⟨_,cZ bF O,wM.int (d:=9997) jN⟩
   · exact⟨_,cZ bF O,wM.int (d:=9997) jN⟩
   · exact⟨_,cZ bF O,wM.int (d:=9997) jN⟩
 · exact (aln _).iff ⟨fun h=>Prod.ext (P3.eq h.1 h.2.1 h.2.2.1) (P3.eq h.2.2.2.1 h.2.2.2.2.1 h.2.2.2.2.2),fun h=>by subst h;simp only[and_self]⟩
 · simp[ed,Instr.sameBits]
theorem aqQ{x y:Int}{g1:Nat}(w:aj)(hB1:fR w g1 [.int .i64 x,.int .i64 y] 3):ai3 prog 125 [.slice (some ⟨g1,0,none⟩) 2 2] w (.int .i64 (if x=0 then y else x)):=by
 refine⟨ahm,?_⟩;have m:=iU.refl w
 go_enter func125,ntmps125
 refine bG fun K1 k1=>ao (aC aO (aM (k1 _ _ ?_)));refine bG fun K2 k2=>ao (aC aO (aM (k2 _ _ ?_)));refine bG fun K3 k3=>bG fun K4 k4=>ao (aC aH (aC (Jw O dN O) ?_));simp only[zz];refine aC aH (aM (k4 _ _ ?_));refine jm (wp_loop_rounds 3 (Bf (bG fun K5 k5=>ao (aC (qT (m:=0) (n:=2) O O (by decide)) (aM (k5 _ _ ?_))))));refine bG fun K6 k6=>Ax O (jp (k6 _ _ ?_));refine bG fun K7 k7=>jm (bG fun K8 k8=>ao ?_);simp only[zz];refine aC (aF dN aV O O (by decide) (by omega) O) ?_;simp only[zz];refine aS O ((hB1.ext m.ext.ext).lies1 bF O) ?_;simp only[zz];refine aC aO (aM (k8 _ _ ?_));refine bG fun K9 k9=>ao (aC aH (aC aH (aC (qM O O) ?_)));simp only[zz];refine aM (k9 _ _ ?_);refine bD O ?_ ?_<;>intro hc2
 ·
  refine bG fun K10 k10=>ao (aC aH (aC aO (aM (k10 _ _ ?_))));refine jb ?_;simp only[zz];try simp only[cw,Exit.then,if_true]
  refine aT O O ?_;try simp only[zD,zE]
  exact⟨_,O,m.ext,by rw[if_neg hc2]⟩
 ·
  have hx:x=0:=by omega
  refine jp (k7 _ _ ?_);refine ao (aC (fC (m:=0) (n:=1) (r:=1) O O (by decide)) (aC aH (aM (lR (bG fun K11 k11=>ao (aC (qT (m:=1) (n:=2) O O (by decide)) (aM (k11 _ _ ?_))))))));refine bG fun K12 k12=>Ax O (jp (k12 _ _ ?_));refine bG fun K13 k13=>jm (bG fun K14 k14=>ao ?_);simp only[zz];refine aC (aF dN aV O O (by decide) (by omega) O) ?_;simp only[zz];refine aS O ((hB1.ext m.ext.ext).lies1 bF O) ?_;simp only[zz];refine aC aO (aM (k14 _ _ ?_));refine bG fun K15 k15=>ao (aC aH (aC aH (aC (qM O O) ?_)));simp only[zz];refine aM (k15 _ _ ?_);refine bD O ?_ ?_<;>intro hc2
  ·
   refine bG fun K16 k16=>ao (aC aH (aC aO (aM (k16 _ _ ?_))));refine jb ?_;simp only[zz];try simp only[cw,Exit.then,if_true]
   refine aT O O ?_;try simp only[zD,zE]
   exact⟨_,O,m.ext,by rw[if_pos hx]⟩
  ·
   have hy:y=0:=by omega
   refine jp (k13 _ _ ?_);refine ao (aC (fC (m:=1) (n:=1) (r:=2) O O (by decide)) (aC aH (aM (lR (bG fun K17 k17=>ao (aC (Fj (m:=2) (n:=2) O O (by decide)) (aM (k17 _ _ ?_))))))));refine bG fun K18 k18=>aeX O (wp_exit (k3 _ _ ?_));refine bG fun K19 k19=>ao (aC aH ?_);simp only[zz];refine aC aO (aM (k19 _ _ ?_));refine jb ?_;simp only[zz];try simp only[cw,Exit.then,if_true]
   refine aT O O ?_;try simp only[zD,zE]
   exact⟨_,O,m.ext,by rw[if_pos hx,hy]⟩
def afY(a b:E3):Int:=if qK a.1 b.1=0 then qK a.2 b.2 else qK a.1 b.1
theorem nK{p q:P3}:qK p q=0↔p=q:=by
 unfold qK;rcases P3.lt_tri p q with h | h | h
 · rw[if_pos h];exact⟨fun e=>(by cases e),fun e=>absurd (e▸h) (P3.lt_irrefl _)⟩
 · subst h;rw[if_neg (P3.lt_irrefl _),if_neg (P3.lt_irrefl _)];exact⟨fun _=>rfl,fun _=>rfl⟩
 · rw[if_neg (fun k=>P3.lt_irrefl _ (P3.lt_trans h k)),if_pos h];exact⟨fun e=>(by cases e),fun e=>absurd (e▸h) (P3.lt_irrefl _)⟩
theorem Iz(a b:E3):(afY a b<0)↔Mo a b:=by
 unfold afY Mo;split
 ·
  rename_i h;have h':=nK.1 h;rw[mA];exact⟨fun k=>.inr ⟨h',k⟩,fun k=>k.elim (fun k=>absurd (h'▸k) (P3.lt_irrefl _)) fun k=>k.2⟩
 ·
  rename_i h;rw[mA];exact⟨.inl,fun k=>k.elim id fun k=>absurd (nK.2 k.1) h⟩
instance:Inhabited E3:=⟨(⟨0,0,0⟩,⟨0,0,0⟩)⟩
theorem ai5:Go.Sort.SWO (Go.Proofs.ltOf afY) where
 irrefl a:=by simp only[Go.Proofs.ltOf,decide_eq_false_iff_not,Iz];exact Mo.irrefl a
 trans x y z h1 h2:=by
  simp only[Go.Proofs.ltOf,decide_eq_true_eq,Iz] at *
  exact h1.trans h2
 ntrans x y z h1 h2:=by
  simp only[Go.Proofs.ltOf,decide_eq_false_iff_not,Iz] at *
  intro h;rcases Mo.tri y x with k | k | k
  · exact absurd (k.trans h) (by first | exact h2 | exact h1)
  · subst k;first | exact h2 h | exact h1 h
  · first | exact h1 k | exact h2 k
theorem amb{p q:E3}:sT prog 168 [ed p,ed q] (.int .i64 (afY p q)):=by
 intro w;refine⟨bJ func168 (by kernel_rfl),?_⟩;have m:=iU.refl w
 go_enter func168,ntmps168
 refine bG fun K1 k1=>ao (oL m O ?_);intro g1 u m;simp only[zz];refine oL m O ?_;intro g2 u m;refine aC aO (aM (k1 _ _ ?_));refine bG fun K2 k2=>?_;simp only[zz];refine Pk m 10 aB (by kernel_rfl) ?_;simp only[zy];refine aI (aW (c:=2) uF O aA O O) ?_;simp only[zz];refine Tc O (fun u m=>((m.b 1 O).lies aG aA O O)) ?_;simp only[zz,zy,aq,aa,ag,ad];refine aI (aW (c:=2) uF O aA O O) ?_;simp only[zz];refine Tc O (fun u m=>((m.b 0 O).lies aG aA O O)) ?_;simp only[zz,zy,aq,aa,ag,ad];refine Hj O O (Dx (p:=p.1) (q:=q.1)) (aI (aW (c:=2) uF O aA O O) ?_);simp only[zz];refine Tc O (fun u m=>((m.b 1 O).lies aG aA O O)) ?_;simp only[zz,zy,aq,aa,ag,ad];refine aI (aW (c:=2) uF O aA O O) ?_;simp only[zz];refine Tc O (fun u m=>((m.b 0 O).lies aG aA O O)) ?_;simp only[zz,zy,aq,aa,ag,ad];refine Hj O O (Dx (p:=p.2) (q:=q.2)) (bC ?_);intro u m;simp only[zz];refine ai4 m dN (z:=.int .i64 0) (by kernel_rfl) O O O O O ?_;intro g3 u m;simp only[zz];refine Za m O O (aqQ _ (m.b 0 O)) ?_;intro u m;refine aC aO (aM (k2 _ _ ?_));refine jb ?_;simp only[zz];try simp only[cw,Exit.then,if_true]
 refine aT O O ?_;try simp only[zD,zE]
 exact⟨_,O,m.ext,O⟩
theorem Zb{w0 w:aj}{is:List It}{g:Nat}{es:Array ck}{D:List (E3 × Bool)}{p:E3}(m:Mem w0 w is)(k:Nat)(hk:is[k]? = some (mI g es c))(hD1:bT ed bj D es c):Calls prog 235 [.map (some g),ed p].toArray w fun e w'=>∃v i,e=.returned v∧Mem w0 w' (is.set k i)∧(v=.bool (!(cL D p).getD false)∧∃es' c',i=mI g es' c'∧bT ed bj (fP D p true) es' c'):=by
 go_enter func235,ntmps235
 apply iY 10 [0,0] m;simp only[↓aD,uW];intro g1 u m;refine fO (eH (ek:=ed) (en:=bj) (k:=p) (v0:=false) underlying208 oN Cq O O (m.p (k+1) hk) hD1) ?_;simp only[zz];apply aL 1 [0] m;simp only[↓aD];refine cR O ?_ ?_<;>intro hc1
 ·
  apply aK 5 [] m;simp only[↓aD];exact aT O O ⟨_,mI g es c,O,by rw[Qd hk];exact m.tl,by rw[hc1];rfl,es,c,rfl,by rw[Kn (by cases hq:cL D p with | none=>rw[hq] at hc1;cases hc1 | some x=>rw[hq] at hc1;exact congrArg some hc1)];exact hD1⟩
 ·
  apply aK 5 [0,0] m;simp only[↓aD,uW];refine nI (ek:=ed) (en:=bj) (a:=p) (v:=true) m (k+1) hk underlying208 Cq O O O hD1 ?_;intro es1 c1 u m hD1;simp only[zF,zG] at m;apply aL 6 [] m;simp only[↓aD];exact aT O O ⟨_,_,O,m.tl,by rw[hc1];rfl,_,_,rfl,hD1⟩
theorem abl(p:E3):∀v∈cY p,v.oneCell'=true:=fun v h=>by
 simp only[cY,an,cg,or_false] at h;rcases h with rfl | rfl | rfl | rfl | rfl | rfl <;> rfl
theorem amc{w0 w:aj}{is:List It}{A:Option Addr}{n cap:Nat}{xs:List E3}(m:Mem w0 w is)(k:Nat)(hi:is[k]? = some (oI 215 6 A n cap (xs.flatMap cY)))(hsz:n<4611686018427387904) :
 Calls prog 237 [.slice A n cap,.func (.func 168) #[] #[]].toArray w fun e w'=>∃v i,e=.returned v∧Mem w0 w' (is.set k i)∧(v=.tuple #[]∧∃ys:List E3,i=oI 215 6 A n cap (ys.flatMap cY)∧ys.Perm xs∧ys.Pairwise fun a b=>ltOf afY b a=false) :=
 Bu (enc:=cY) Tryz.sort237 (fun w=>pK Dk w) (fun w=>eG qY w) (fun _=>rfl) (by decide) abl afY ai5 (fun x y=>amb) m k hi hsz
theorem afZ{g:Nat}{es:Array ck}{D:List (E3 × Bool)}(w:aj)(hM:jO w g es c)(hD:bT ed bj D es c)(hl:D.length≤100000000):dA prog 167 [.map (some g),.func (.func 168) #[] #[]] w (OR 215 6 (fun xs=>∃ps:List E3,xs=ps.flatMap cY∧ps.Perm (D.map (·.1))∧ps.Pairwise fun a b=>¬Mo b a) w):=by
 refine⟨bJ func167 (by kernel_rfl),?_⟩;have m:=Mem.refl w
 go_enter func167,ntmps167
 apply fI 6 [0] m;simp only[↓aD];refine aC aO ?_;replace m:=m.nilO 215 6;apply aL 5 [0] m;simp only[↓aD];refine wE m underlying208 O (hM.ext m.ext) ?_;intro r1 u m;apply aL 2 [0] m;simp only[↓aD];refine bX [5] [6,9,10,11,12,13,14,15,16] (fun n vs wl=>∃(dn rs:List (E3 × Bool)) (A1:Option Addr) (n1 cap1:Nat) (sn:Array Nat),vs=[.slice A1 n1 cap1]∧Mem w wl [iI r1 g c sn,oI 215 6 A1 n1 cap1 ((dn.map (·.1)).flatMap cY)]∧(oC ed bj D es sn dn rs)∧(n1=dn.length)∧(n=rs.length)) ?_ ?_
 ·
  exact⟨_,[],D,none,0,0,#[],O,m,oC.start hD,O,O⟩
 ·
  intro n vs wr hI u K1 hK1;obtain⟨dn,rs,A1,n1,cap1,sn,rfl,m,hT,hn1,hn⟩:=hI;have hlen:=hT.len;simp only[zu,zF,zG];apply aK 2 [0] m;simp only[↓aD];refine Ml m 0 O O (hM.ext m.ext) hD hT ?_;intro bb kk vv sn u m hN;simp only[zF,zG] at m;refine aC (pX O) ?_;apply aL 2 [0] m;simp only[↓aD];refine cR O ?_ ?_<;>intro hc1
  ·
   obtain⟨kp,kb,rs2,hp,hT2⟩:=Hx hc1 hN;apply aK 4 [0] m;simp only[↓aD];refine fO (tM O (m.r 0 O) (hM.ext m.ext) hD hT2) ?_;simp only[zz];apply jS 7 [0,0,0] m;simp only[↓aD,Cl,uW,aa];intro g2 u m;refine acs O ?_;intro u g3 e_ h_ k_;replace m:=m.newB e_ h_ k_;simp only[zz];refine bM m 3 O O underlying212 alj O (by decide) O O O (m.b 0 O).rowsO (fV O) (by omega) (by omega) ?_;intro A1 cap1 u m;simp only[zF,zG] at m;apply aL 3 [0] m;simp only[↓aD];exact hK1 rs2.length _ _ (by rw[hn,hp.length_eq];exact fc _) (by kernel_rfl) ⟨dn++[(kp,kb)],rs2,_,_,_,_,O,((m.reO 3 O ((m.o 3 O).as (by simp[cY]))).sel [false,false,true,true]),hT2,by simp[hn1],O⟩
  ·
   obtain rfl:=Hw hc1 hN;apply aK 5 [0] m;simp only[↓aD];refine mL m 1 (bJ func237 (by kernel_rfl)) O O (fun m=>amc m 1 O (by omega)) ?_;rintro v i u m ⟨rfl,ys,rfl,hys,hso⟩;simp only[zF,zG] at m;apply aL 7 [] m;simp only[↓aD];exact aT O O ⟨_,O,m.ext,_,_,_,_,O,(m.o 1 O),_,O,hys.trans (hT.done.map _),hso.imp fun h=>by simpa[ltOf,Iz] using h⟩
end Go.Proofs.YtfekpcimgncioaaGreatDoor
