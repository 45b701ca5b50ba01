/-
 Texts of one claim, laid together: RayG, Join, Open3, Open6.
-/
import Derived.OpenVars
import Derived.OpenShut
import Derived.WalkKit
import Derived.ProofKit
import Derived.Test.YtimjandkmfcmiaaGreatDoorRows
import Derived.Test.YtimjandkmfcmiaaGreatDoorTA9
open Go renaming wp_region_lit→aa,Value→aj,World→aw,TypeId→be
open Nat renaming reduceAdd→ab,reduceMul→ag,zero_add→ah,zero_le→cd
open Int renaming reduceToNat→ae
open List renaming getElem?_eq_getElem→ao,length_append→bg,length_take→bl,getElem?_append_left→bv,length_cons→ci,getElem?_append_right→cq,mem_cons_self→cu,mem_cons_of_mem→cw,getElem?_map→db,length_map→dj,nil_append→dy,getElem?_take→dz,mem_of_mem_take→fd,mem_range→fw
open Go.Value renaming okWide→jn
set_option maxHeartbeats 8000000
set_option linter.unusedSimpArgs false
set_option linter.unusedVariables false
set_option linter.unusedSectionVars false
namespace Go.Proofs.YtimjandkmfcmiaaGreatDoor
open Go.Proofs.Tryz
open Go.RowKit Go.Lith
set_option maxRecDepth 100000
attribute [local irreducible] wpList wpQuiet eY eO eJ Code.wp
theorem Oe{w:aw}{A:Option Addr}{N:Nat}{xs:List (List T3)}(h:fZ w A N xs):∃hs:List Hd,hs.length=N∧uO w A (hs.map Hd.v)∧∀(i:Nat) (h:Hd) (l:List T3),hs[i]? = some h→xs[i]? = some l→dX w h.A h.n l∧h.n≤h.cap:=by
 obtain⟨hs,h1,h2⟩:=nH (p:=fun i (hd:Hd)=>∃l a,xs[i]? = some l∧A=some a∧w.cell? (a.add i)=some hd.v∧dX w hd.A hd.n l∧hd.n≤hd.cap) N (fun i hi=>by
  rw[←h.len] at hi;obtain⟨a,hd,e,hc,ht,hle⟩:=h.row i _ (ao hi);exact⟨hd,_,a,ao hi,e,hc,ht,hle⟩)
 refine⟨hs,h1,fun j u hj=>?_,fun i hd l hi hl=>?_⟩
 ·
  rw[db] at hj;obtain⟨hd,hq,rfl⟩:=Option.map_eq_some_iff.1 hj;obtain⟨_,a,_,e,hc,_⟩:=h2 j hd hq;exact⟨a,e,hc⟩
 ·
  obtain⟨l',_,e,_,_,ht,hle⟩:=h2 i hd hi;obtain rfl:l'=l:=Option.some.inj (e.symm.trans hl);exact⟨ht,hle⟩
theorem aam{w:aw}{A:Option Addr}{xs:List aj}(h:uO w A xs)(k:Nat):uO w A (xs.take k):=fun j u hj=>by
 rw[dz] at hj;split at hj
 · exact h j u hj
 · cases hj
theorem uK{w:aw}{A:Option Addr}{n:Nat}{xs ls:List (List T3)}{hs hs2:List Hd}{L:Kt}(c:Ic L hs xs)(hL:(pW L).P w)(hl:hs2.length=ls.length)(h2:∀(i:Nat) (h:Hd) (l:List T3),hs2[i]? = some h→ls[i]? = some l→dX w h.A h.n l∧h.n≤h.cap)
 (hn:hs.length+hs2.length=n) (hr:uO w A (hs.map Hd.v++hs2.map Hd.v)):fZ w A n (xs++ls):=by
 have hc:=c.len;refine⟨by rw[bg];omega,fun i l hi=>?_⟩;rw[←List.map_append] at hr;have hlt:i<(hs++hs2).length:=by
  have:=(List.getElem?_eq_some_iff.1 hi).1;rw[bg] at this ⊢;omega
 obtain⟨a,e,hcell⟩:=hr i ((hs++hs2)[i]).v (by rw[db,ao hlt];rfl);have hg:(hs++hs2)[i]? = some ((hs++hs2)[i]):=ao hlt;refine⟨a,(hs++hs2)[i],e,hcell,?_⟩;rcases Nat.lt_or_ge i hs.length with h | h
 ·
  rw[bv h] at hg;rw[bv (by omega)] at hi;have s:=c.at_ i _ l hg hi;exact⟨s.2 w hL,s.1⟩
 ·
  rw[cq h] at hg;rw[cq (by omega),←hc] at hi;exact h2 _ _ l hg hi
theorem Li(r:gJ)(xs:List (List T3))(bs:List Int):(iO r xs bs).opn.length≤xs.length:=by
 unfold iO;split
 ·
  unfold Na;split
  ·
   show ((dB r (bH r (bU bs xs)) (cG bs xs)).map _).length≤_
   rw[dj];have h1:=mO (r:=r) (h:=bH r (bU bs xs)) (cG bs xs);have h2:=rF (bs:=bs) (ls:=xs) xs.length;rw[List.take_length] at h2;omega
  · split <;> exact cd _
 · exact cd _
theorem pJ{α:Type}{l:List α}{k i:Nat}{x:α}(h:(l.take k)[i]? = some x):l[i]? = some x:=by
 rw[dz] at h;split at h
 · exact h
 · cases h
theorem Vk{xs ls:List (List T3)}{k:Nat}(h1:∀l∈xs,l.length≤300000)(h2:∀l∈ls,l.length≤300000):∀l∈xs++ls.take k,l.length≤300000:=fun l hl=>by
 rcases List.mem_append.1 hl with h | h
 · exact h1 l h
 · exact h2 l (fd h)
theorem Bj{n:Nat}:∀{xs:List (List T3)},(∀l∈xs,l.length≤n)→xs.flatten.length≤xs.length*n
 | [],_=>by simp
 | x::xs,h=>by
  have h1:=h x (cu ..);have h2:=Bj fun l hl=>h l (cw x hl);simp only[List.flatten_cons,bg,ci,Nat.succ_mul];omega
theorem Fs{kind bits:Int}[Iw kind][Iw bits]{q:Nat}{r:gJ}[IR r]{HA ZA PA:Option Addr}{HN Hc ZN Zc PN Pc:Nat}{hz zs:List Int}{ss:List P3}{BA LA:Option Addr}{BN Bc LN Lc:Nat}{zs2:List Int}{ls:List (List T3)}(w:aw)(hH:dH w HA HN hz)(hZ:dH w ZA ZN zs)(hP:Ut Qh 3 w PA PN ss)(hq:q<256)(hb2:dH w BA BN zs2)(hl2:fZ w LA LN ls)(hlc:LN≤Lc)(hlb:∀l∈ls,l.length≤300000):gZ prog 3 [.agg #[.int .i64 kind,.int .i64 bits,.slice HA HN Hc,.int .u8 (q:Int),.slice ZA ZN Zc,.int .i64 r.s.x,.int .i64 r.s.y,.int .i64 r.s.z,.int .i64 r.w,.int .i64 r.d.x,.int .i64 r.d.y,.int .i64 r.d.z,.slice PA PN Pc],.slice BA BN Bc,.slice LA LN Lc] w (fun v _=>v=.bool true):=by
 refine⟨agj,?_⟩;have m:=cK.refl w;obtain⟨hs2,hh2,hr2,hs2t⟩:=Oe hl2;obtain⟨k,hk⟩:∃k,k=min LN 5:=⟨_,rfl⟩
 go_enter func3,ntmps3
 refine aF fun K1 k1=>aa (cQ m rfl ?_);clear m;intro g1 u m;refine aA aD (aC (k1 _ _ ?_));refine aF fun K2 k2=>aa ?_;simp only[zz];refine aX m rfl rfl aah ?_;clear m;intro u m;refine aA aD (aC (k2 _ _ ?_));refine aF fun K3 k3=>aa ?_;simp only[zz];refine aI rfl ((m.b 0 rfl).full Iz xW) ?_;simp only[zz];refine bT rfl rfl (abQ (kind:=kind) (bits:=bits) (r:=r) (zs:=zs) (ss:=ss) (hz:=hz) _ (hH.ext m.ext) (hZ.ext m.ext) (hP.ext m.ext) hq) ?_;rintro v u e ⟨A7,n7,cap7,hs,L,rfl,hn7,hM,hcov⟩;replace m:=m.plus hM;clear hM e;simp only[List.cons_append,dy] at m;obtain⟨F,hF⟩:∃F,F=iP (1+q%12) 30 (pD kind bits hz):=⟨_,rfl⟩
 have hfn:abR F:=by rw[hF];exact Od
 rw[←hF] at hcov;have hcl:=hcov.len;rw[tA] at hcl;have e7:n7=F.length:=hn7.trans hcl;subst e7;have hfs:=hfn.shown ss (jJ F.length zs);have hfl:=hfn.len;refine aA aD (aC (k3 _ _ ?_));refine aF fun K4 k4=>aa ?_;simp only[zz];refine aI rfl ((m.b 2 rfl).full Iz xW) ?_;simp only[zz];refine aA aB (aA (bR rfl kW rfl) ?_);simp only[zz];refine bT rfl rfl (Ob (n0:=F.length) (kind:=kind) (bits:=bits) (r:=r) (zs:=zs) (ss:=ss) (hz:=hz) _ (hH.ext m.ext) (hZ.ext m.ext) (hP.ext m.ext) hq hfl) ?_;rintro v u e ⟨A8,cap8,rfl,hN⟩;replace m:=m.newO e hN;clear e hN;refine aA aD (aC ?_);simp only[zz];have hkL:k≤LN:=by omega
 refine k4 _ _ ?_;refine aF fun K5 k5=>?_;refine mh m [true,true,true,true] [(1,true),(3,true),(4,true),(5,true),(6,true),(7,true),(0,false),(2,false),(8,false),(9,true)] aP (by kernel_rfl) (dJ (fun _ _ _ _ _ h=>h)) (ol:=?_) ?hol ?_
 case hol=>simp only[zw,zQ,zR];try rfl
 clear m;intro u m;refine bA aB (bA aB (bA aB (bA (bR rfl kW rfl) ?_)));simp only[zz];refine bA (oT rfl rfl (show _=((k:Nat):Int) by split <;> omega)) ?_;simp only[zz];refine bA (oB kW nM rfl rfl (Int.toNat_natCast _) (by omega) (by omega)) (dM ?_);simp only[zz];refine Lm kW (c:=1) (by kernel_rfl)  ?_;intro u g2 e hg hB;replace m:=m.newB e hg hB;clear e hg hB;simp only[zz];replace m:=m.own 0 rfl (n:=0) (c:=1) rfl (bZ rfl);simp only[zG] at m;refine aC (⟨m.sel [false,true,true,true,true],?_⟩);refine dM (eM m 0 rfl rfl kW Oq rfl (by decide) rfl rfl (m.o 2 rfl).own.1 (m.o 2 rfl).row (Zh _) (by omega) (by omega) ?_);clear m;intro A5 cap5 u m;simp only[zF,zG] at m;simp only[ah,dy] at m ⊢;refine aC (⟨m.sel [false,true,true,true,true],?_⟩);refine dM ?_;simp only[zz];refine eM m 0 rfl rfl kW Oq rfl (by decide) rfl rfl (by rw[bl,dj];omega) ((aam hr2 k).ext m.ext) (fun u hu=>Zh hs2 u (fd hu)) (by omega) (by omega) ?_;clear m;intro A5 cap5 u m;simp only[zF,zG] at m;rw[←List.map_take] at m;refine aC (⟨m.sel [false,true,true,true,true],?_⟩);refine bA aD (bB ?_);simp only[zz];have hh3:=hh2;have hl3:=hl2.len;have hk2:(hs2.take k).length=(ls.take k).length:=by rw[bl,bl,hh3,hl3]
 have hk3:hs.length+(hs2.take k).length=F.length+k:=by rw[bl];omega
 have hmo:∀l∈((dN ss (jJ F.length zs) F)++ls.take k),l.length≤300000:=Vk hfs.2.1 hlb;have hx30:(dN ss (jJ F.length zs) F).length≤30:=by rw[tA];exact hfl
 have hm35:((dN ss (jJ F.length zs) F)++ls.take k).length≤35:=by rw[bg,bl];omega
 have hxf:=Bj (xs:=(dN ss (jJ F.length zs) F)) hfs.2.1;have hmf:=Bj (xs:=((dN ss (jJ F.length zs) F)++ls.take k)) hmo;have hq0:=Li r (dN ss (jJ F.length zs) F) (jJ F.length zs);have hq1:=Li r ((dN ss (jJ F.length zs) F)++ls.take k) zs2;have hq2:=Li r ((dN ss (jJ F.length zs) F)++ls.take k) (jJ F.length zs);refine k5 _ _ ?_;refine aF fun K6 k6=>?_;refine zZ m [qG (.pointer (some ⟨g1,5,none⟩)),qG (kK r),pU ((dN ss (jJ F.length zs) F)),rG ((jJ F.length zs)),uR (iO r (dN ss (jJ F.length zs) F) (jJ F.length zs)),qG (.pointer (some ⟨g1,5,none⟩)),qG (kK r),pU ((dN ss (jJ F.length zs) F)),rG ((jJ F.length zs)),uR (iO r (dN ss (jJ F.length zs) F) (jJ F.length zs)),qG (.bool true),qG (.bool true)] [30,31,32,33,34,35,36,37,38,39,40,11] [[],[0],[],[],[1,2,3],[],[5],[],[],[6,7,8],[4,9],[10]] aP (by kernel_rfl) ?_ ?_
 ·
  intro i hi
  match i,hi with
  | 0,_ =>
   clear m hi;intro g ww Q' c hp hK;simp only[zz,bC,bJ] at hK ⊢;have m:=cK.refl ww;refine dC (by simp only[zw];rfl) ?_;refine aA (aG (c:=6) nK rfl dG rfl rfl) (aC ?_);simp only[zz];exact hK _ _ m.ext rfl
  | 1,_ =>
   clear m hi;intro g ww Q' c hp hK;simp only[zz,bC,bJ] at hK ⊢;obtain q0:g 30=.pointer (some ⟨g1,5,none⟩):=hp 0 (by decide);simp only[q0] at hK ⊢;have m:=cK.refl ww;refine dC (by simp only[zw];rfl) ?_;refine aI rfl ((c.b 4 rfl).lies fR dG rfl rfl) ?_;simp only[zz,zy,ah,ab,ag,ae];exact aC (hK _ _ m.ext rfl)
  | 2,_ =>
   clear m hi;intro g ww Q' c hp hK;simp only[zz,bC,bJ] at hK ⊢;have m:=cK.refl ww;refine dC (by simp only[zw];rfl) ?_;refine aA aB (aC ?_);simp only[zz];exact hK _ _ m.ext (⟨_,_,_,rfl,(c.lists hcov 2 3 rfl rfl).ext m.ext⟩)
  | 3,_ =>
   clear m hi;intro g ww Q' c hp hK;simp only[zz,bC,bJ] at hK ⊢;have m:=cK.refl ww;refine dC (by simp only[zw];rfl) ?_;refine aA aB (aC ?_);simp only[zz];exact hK _ _ m.ext (⟨_,_,_,rfl,(Aa (c.o 1 rfl) Lh).ext m.ext⟩)
  | 4,_ =>
   clear m hi;intro g ww Q' c hp hK;simp only[zz,bC,bJ] at hK ⊢;obtain q1:g 31=kK r:=hp 1 (by decide);obtain⟨A2,N2,c2,q2,h2⟩:∃A n c,g 32=.slice A n c∧fZ ww A n ((dN ss (jJ F.length zs) F)):=hp 2 (by decide);obtain⟨A3,N3,c3,q3,h3⟩:∃A n c,g 33=.slice A n c∧dH ww A n ((jJ F.length zs)):=hp 3 (by decide);simp only[q1,q2,q3] at hK ⊢;have m:=cK.refl ww;refine dC (by simp only[zw];rfl) ?_;refine fJ m rfl rfl (zX (r:=r) (xs:=(dN ss (jJ F.length zs) F)) (bs:=(jJ F.length zs)) _ h2 h3 (by rw[←h2.len];omega) (by omega) hfs.2.1) ?_;clear m;rintro v u m hR;refine aC ?_;simp only[zz];exact hK _ _ m.ext (pV hR (wE (by omega)))
  | 5,_ =>
   clear m hi;intro g ww Q' c hp hK;simp only[zz,bC,bJ] at hK ⊢;have m:=cK.refl ww;refine dC (by simp only[zw];rfl) ?_;refine aA (aG (c:=6) nK rfl dG rfl rfl) (aC ?_);simp only[zz];exact hK _ _ m.ext rfl
  | 6,_ =>
   clear m hi;intro g ww Q' c hp hK;simp only[zz,bC,bJ] at hK ⊢;obtain q5:g 35=.pointer (some ⟨g1,5,none⟩):=hp 5 (by decide);simp only[q5] at hK ⊢;have m:=cK.refl ww;refine dC (by simp only[zw];rfl) ?_;refine aI rfl ((c.b 4 rfl).lies fR dG rfl rfl) ?_;simp only[zz,zy,ah,ab,ag,ae];exact aC (hK _ _ m.ext rfl)
  | 7,_ =>
   clear m hi;intro g ww Q' c hp hK;simp only[zz,bC,bJ] at hK ⊢;have m:=cK.refl ww;refine dC (by simp only[zw];rfl) ?_;refine aA aB (aC ?_);simp only[zz];exact hK _ _ m.ext (⟨_,_,_,rfl,(c.lists hcov 2 3 rfl rfl).ext m.ext⟩)
  | 8,_ =>
   clear m hi;intro g ww Q' c hp hK;simp only[zz,bC,bJ] at hK ⊢;have m:=cK.refl ww;refine dC (by simp only[zw];rfl) ?_;refine aA aB (aC ?_);simp only[zz];exact hK _ _ m.ext (⟨_,_,_,rfl,(Aa (c.o 1 rfl) Lh).ext m.ext⟩)
  | 9,_ =>
   clear m hi;intro g ww Q' c hp hK;simp only[zz,bC,bJ] at hK ⊢;obtain q6:g 36=kK r:=hp 6 (by decide);obtain⟨A7,N7,c7,q7,h7⟩:∃A n c,g 37=.slice A n c∧fZ ww A n ((dN ss (jJ F.length zs) F)):=hp 7 (by decide);obtain⟨A8,N8,c8,q8,h8⟩:∃A n c,g 38=.slice A n c∧dH ww A n ((jJ F.length zs)):=hp 8 (by decide);simp only[q6,q7,q8] at hK ⊢;have m:=cK.refl ww;refine dC (by simp only[zw];rfl) ?_;refine fJ m rfl rfl (Qu (r:=r) (xs:=(dN ss (jJ F.length zs) F)) (bs:=(jJ F.length zs)) _ h7 h8 (by rw[←h7.len];omega) (by omega) hfs.2.1) ?_;clear m;rintro v u m hR;refine aC ?_;simp only[zz];exact hK _ _ m.ext (pV hR (wE (by omega)))
  | 10,_ =>
   clear m hi;intro g ww Q' c hp hK;simp only[zz,bC,bJ] at hK ⊢;obtain⟨A4,N4,c4,q4,h4⟩:∃A n c,g 34=rD (iO r (dN ss (jJ F.length zs) F) (jJ F.length zs)) A n c∧dH ww A n (iO r (dN ss (jJ F.length zs) F) (jJ F.length zs)).opn:=hp 4 (by decide);obtain⟨A9,N9,c9,q9,h9⟩:∃A n c,g 39=rD (iO r (dN ss (jJ F.length zs) F) (jJ F.length zs)) A n c∧dH ww A n (iO r (dN ss (jJ F.length zs) F) (jJ F.length zs)).opn:=hp 9 (by decide);simp only[q4,q9] at hK ⊢;have m:=cK.refl ww;refine dC (by simp only[zw];rfl) ?_;refine fJ m rfl rfl (uI (a:=iO r (dN ss (jJ F.length zs) F) (jJ F.length zs)) _ h4 h9 (by have:=h4.len;omega)) ?_;clear m;rintro v u m rfl;refine aC ?_;simp only[zz];exact hK _ _ m.ext rfl
  | 11,_ =>
   clear m hi;intro g ww Q' c hp hK;simp only[zz,bC,bJ] at hK ⊢;obtain q10:g 40=.bool true:=hp 10 (by decide);simp only[q10] at hK ⊢;have m:=cK.refl ww;refine dC (by simp only[zw];rfl) ?_;refine aA aD (aC ?_);simp only[zz];exact hK _ _ m.ext rfl
  | i+12,h=>exact absurd h (by simp)
 clear m;intro g ww m hp;simp only[bC,bJ,zF,zG];obtain q11:g 11=.bool true:=hp 11 (by decide);simp only[q11];clear hp;refine k6 _ _ ?_;refine aF fun K7 k7=>?_;refine zZ m [qG (.pointer (some ⟨g1,5,none⟩)),qG (kK r),pU (((dN ss (jJ F.length zs) F)++ls.take k)),rG zs2,uR (iO r ((dN ss (jJ F.length zs) F)++ls.take k) zs2),qG (.pointer (some ⟨g1,5,none⟩)),qG (kK r),pU (((dN ss (jJ F.length zs) F)++ls.take k)),rG zs2,uR (iO r ((dN ss (jJ F.length zs) F)++ls.take k) zs2),qG (.bool true),qG (.bool true)] [41,42,43,44,45,46,47,48,49,50,51,12] [[],[0],[],[],[1,2,3],[],[5],[],[],[6,7,8],[4,9],[10]] aP (by kernel_rfl) ?_ ?_
 ·
  intro i hi
  match i,hi with
  | 0,_ =>
   clear m hi;intro g ww Q' c hp hK;simp only[zz,bC,bJ] at hK ⊢;have m:=cK.refl ww;refine dC (by simp only[zw];rfl) ?_;refine aA (aG (c:=6) nK rfl dG rfl rfl) (aC ?_);simp only[zz];exact hK _ _ m.ext rfl
  | 1,_ =>
   clear m hi;intro g ww Q' c hp hK;simp only[zz,bC,bJ] at hK ⊢;obtain q0:g 41=.pointer (some ⟨g1,5,none⟩):=hp 0 (by decide);simp only[q0] at hK ⊢;have m:=cK.refl ww;refine dC (by simp only[zw];rfl) ?_;refine aI rfl ((c.b 4 rfl).lies fR dG rfl rfl) ?_;simp only[zz,zy,ah,ab,ag,ae];exact aC (hK _ _ m.ext rfl)
  | 2,_ =>
   clear m hi;intro g ww Q' c hp hK;simp only[zz,bC,bJ] at hK ⊢;have m:=cK.refl ww;refine dC (by simp only[zw];rfl) ?_;refine aA aB (aC ?_);simp only[zz];exact hK _ _ m.ext (⟨_,_,_,rfl,(uK hcov (c.l 3 rfl) hk2 (fun i h l h1 h2=>let q:=hs2t i h l (pJ h1) (pJ h2);⟨q.1.ext c.ext,q.2⟩) hk3 (c.o 0 rfl).row).ext m.ext⟩)
  | 3,_ =>
   clear m hi;intro g ww Q' c hp hK;simp only[zz,bC,bJ] at hK ⊢;have m:=cK.refl ww;refine dC (by simp only[zw];rfl) ?_;refine aA aB (aC ?_);simp only[zz];exact hK _ _ m.ext (⟨_,_,_,rfl,(hb2.ext c.ext).ext m.ext⟩)
  | 4,_ =>
   clear m hi;intro g ww Q' c hp hK;simp only[zz,bC,bJ] at hK ⊢;obtain q1:g 42=kK r:=hp 1 (by decide);obtain⟨A2,N2,c2,q2,h2⟩:∃A n c,g 43=.slice A n c∧fZ ww A n (((dN ss (jJ F.length zs) F)++ls.take k)):=hp 2 (by decide);obtain⟨A3,N3,c3,q3,h3⟩:∃A n c,g 44=.slice A n c∧dH ww A n (zs2):=hp 3 (by decide);simp only[q1,q2,q3] at hK ⊢;have m:=cK.refl ww;refine dC (by simp only[zw];rfl) ?_;refine fJ m rfl rfl (zX (r:=r) (xs:=((dN ss (jJ F.length zs) F)++ls.take k)) (bs:=zs2) _ h2 h3 (by rw[←h2.len];omega) (by omega) hmo) ?_;clear m;rintro v u m hR;refine aC ?_;simp only[zz];exact hK _ _ m.ext (pV hR (wE (by omega)))
  | 5,_ =>
   clear m hi;intro g ww Q' c hp hK;simp only[zz,bC,bJ] at hK ⊢;have m:=cK.refl ww;refine dC (by simp only[zw];rfl) ?_;refine aA (aG (c:=6) nK rfl dG rfl rfl) (aC ?_);simp only[zz];exact hK _ _ m.ext rfl
  | 6,_ =>
   clear m hi;intro g ww Q' c hp hK;simp only[zz,bC,bJ] at hK ⊢;obtain q5:g 46=.pointer (some ⟨g1,5,none⟩):=hp 5 (by decide);simp only[q5] at hK ⊢;have m:=cK.refl ww;refine dC (by simp only[zw];rfl) ?_;refine aI rfl ((c.b 4 rfl).lies fR dG rfl rfl) ?_;simp only[zz,zy,ah,ab,ag,ae];exact aC (hK _ _ m.ext rfl)
  | 7,_ =>
   clear m hi;intro g ww Q' c hp hK;simp only[zz,bC,bJ] at hK ⊢;have m:=cK.refl ww;refine dC (by simp only[zw];rfl) ?_;refine aA aB (aC ?_);simp only[zz];exact hK _ _ m.ext (⟨_,_,_,rfl,(uK hcov (c.l 3 rfl) hk2 (fun i h l h1 h2=>let q:=hs2t i h l (pJ h1) (pJ h2);⟨q.1.ext c.ext,q.2⟩) hk3 (c.o 0 rfl).row).ext m.ext⟩)
  | 8,_ =>
   clear m hi;intro g ww Q' c hp hK;simp only[zz,bC,bJ] at hK ⊢;have m:=cK.refl ww;refine dC (by simp only[zw];rfl) ?_;refine aA aB (aC ?_);simp only[zz];exact hK _ _ m.ext (⟨_,_,_,rfl,(hb2.ext c.ext).ext m.ext⟩)
  | 9,_ =>
   clear m hi;intro g ww Q' c hp hK;simp only[zz,bC,bJ] at hK ⊢;obtain q6:g 47=kK r:=hp 6 (by decide);obtain⟨A7,N7,c7,q7,h7⟩:∃A n c,g 48=.slice A n c∧fZ ww A n (((dN ss (jJ F.length zs) F)++ls.take k)):=hp 7 (by decide);obtain⟨A8,N8,c8,q8,h8⟩:∃A n c,g 49=.slice A n c∧dH ww A n (zs2):=hp 8 (by decide);simp only[q6,q7,q8] at hK ⊢;have m:=cK.refl ww;refine dC (by simp only[zw];rfl) ?_;refine fJ m rfl rfl (Qu (r:=r) (xs:=((dN ss (jJ F.length zs) F)++ls.take k)) (bs:=zs2) _ h7 h8 (by rw[←h7.len];omega) (by omega) hmo) ?_;clear m;rintro v u m hR;refine aC ?_;simp only[zz];exact hK _ _ m.ext (pV hR (wE (by omega)))
  | 10,_ =>
   clear m hi;intro g ww Q' c hp hK;simp only[zz,bC,bJ] at hK ⊢;obtain⟨A4,N4,c4,q4,h4⟩:∃A n c,g 45=rD (iO r ((dN ss (jJ F.length zs) F)++ls.take k) zs2) A n c∧dH ww A n (iO r ((dN ss (jJ F.length zs) F)++ls.take k) zs2).opn:=hp 4 (by decide);obtain⟨A9,N9,c9,q9,h9⟩:∃A n c,g 50=rD (iO r ((dN ss (jJ F.length zs) F)++ls.take k) zs2) A n c∧dH ww A n (iO r ((dN ss (jJ F.length zs) F)++ls.take k) zs2).opn:=hp 9 (by decide);simp only[q4,q9] at hK ⊢;have m:=cK.refl ww;refine dC (by simp only[zw];rfl) ?_;refine fJ m rfl rfl (uI (a:=iO r ((dN ss (jJ F.length zs) F)++ls.take k) zs2) _ h4 h9 (by have:=h4.len;omega)) ?_;clear m;rintro v u m rfl;refine aC ?_;simp only[zz];exact hK _ _ m.ext rfl
  | 11,_ =>
   clear m hi;intro g ww Q' c hp hK;simp only[zz,bC,bJ] at hK ⊢;obtain q10:g 51=.bool true:=hp 10 (by decide);simp only[q10] at hK ⊢;have m:=cK.refl ww;refine dC (by simp only[zw];rfl) ?_;refine aA aD (aC ?_);simp only[zz];exact hK _ _ m.ext rfl
  | i+12,h=>exact absurd h (by simp)
 clear m;intro g ww m hp;simp only[bC,bJ,zF,zG];obtain q11:g 12=.bool true:=hp 11 (by decide);simp only[q11];clear hp;refine k7 _ _ ?_;refine aF fun K8 k8=>?_;refine zZ m [qG (.pointer (some ⟨g1,5,none⟩)),qG (kK r),pU (((dN ss (jJ F.length zs) F)++ls.take k)),rG ((jJ F.length zs)),uR (iO r ((dN ss (jJ F.length zs) F)++ls.take k) (jJ F.length zs)),qG (.pointer (some ⟨g1,5,none⟩)),qG (kK r),pU (((dN ss (jJ F.length zs) F)++ls.take k)),rG ((jJ F.length zs)),uR (iO r ((dN ss (jJ F.length zs) F)++ls.take k) (jJ F.length zs)),qG (.bool true),qG (.bool true)] [52,53,54,55,56,57,58,59,60,61,62,13] [[],[0],[],[],[1,2,3],[],[5],[],[],[6,7,8],[4,9],[10]] aP (by kernel_rfl) ?_ ?_
 ·
  intro i hi
  match i,hi with
  | 0,_ =>
   clear m hi;intro g ww Q' c hp hK;simp only[zz,bC,bJ] at hK ⊢;have m:=cK.refl ww;refine dC (by simp only[zw];rfl) ?_;refine aA (aG (c:=6) nK rfl dG rfl rfl) (aC ?_);simp only[zz];exact hK _ _ m.ext rfl
  | 1,_ =>
   clear m hi;intro g ww Q' c hp hK;simp only[zz,bC,bJ] at hK ⊢;obtain q0:g 52=.pointer (some ⟨g1,5,none⟩):=hp 0 (by decide);simp only[q0] at hK ⊢;have m:=cK.refl ww;refine dC (by simp only[zw];rfl) ?_;refine aI rfl ((c.b 4 rfl).lies fR dG rfl rfl) ?_;simp only[zz,zy,ah,ab,ag,ae];exact aC (hK _ _ m.ext rfl)
  | 2,_ =>
   clear m hi;intro g ww Q' c hp hK;simp only[zz,bC,bJ] at hK ⊢;have m:=cK.refl ww;refine dC (by simp only[zw];rfl) ?_;refine aA aB (aC ?_);simp only[zz];exact hK _ _ m.ext (⟨_,_,_,rfl,(uK hcov (c.l 3 rfl) hk2 (fun i h l h1 h2=>let q:=hs2t i h l (pJ h1) (pJ h2);⟨q.1.ext c.ext,q.2⟩) hk3 (c.o 0 rfl).row).ext m.ext⟩)
  | 3,_ =>
   clear m hi;intro g ww Q' c hp hK;simp only[zz,bC,bJ] at hK ⊢;have m:=cK.refl ww;refine dC (by simp only[zw];rfl) ?_;refine aA aB (aC ?_);simp only[zz];exact hK _ _ m.ext (⟨_,_,_,rfl,(Aa (c.o 1 rfl) Lh).ext m.ext⟩)
  | 4,_ =>
   clear m hi;intro g ww Q' c hp hK;simp only[zz,bC,bJ] at hK ⊢;obtain q1:g 53=kK r:=hp 1 (by decide);obtain⟨A2,N2,c2,q2,h2⟩:∃A n c,g 54=.slice A n c∧fZ ww A n (((dN ss (jJ F.length zs) F)++ls.take k)):=hp 2 (by decide);obtain⟨A3,N3,c3,q3,h3⟩:∃A n c,g 55=.slice A n c∧dH ww A n ((jJ F.length zs)):=hp 3 (by decide);simp only[q1,q2,q3] at hK ⊢;have m:=cK.refl ww;refine dC (by simp only[zw];rfl) ?_;refine fJ m rfl rfl (zX (r:=r) (xs:=((dN ss (jJ F.length zs) F)++ls.take k)) (bs:=(jJ F.length zs)) _ h2 h3 (by rw[←h2.len];omega) (by omega) hmo) ?_;clear m;rintro v u m hR;refine aC ?_;simp only[zz];exact hK _ _ m.ext (pV hR (wE (by omega)))
  | 5,_ =>
   clear m hi;intro g ww Q' c hp hK;simp only[zz,bC,bJ] at hK ⊢;have m:=cK.refl ww;refine dC (by simp only[zw];rfl) ?_;refine aA (aG (c:=6) nK rfl dG rfl rfl) (aC ?_);simp only[zz];exact hK _ _ m.ext rfl
  | 6,_ =>
   clear m hi;intro g ww Q' c hp hK;simp only[zz,bC,bJ] at hK ⊢;obtain q5:g 57=.pointer (some ⟨g1,5,none⟩):=hp 5 (by decide);simp only[q5] at hK ⊢;have m:=cK.refl ww;refine dC (by simp only[zw];rfl) ?_;refine aI rfl ((c.b 4 rfl).lies fR dG rfl rfl) ?_;simp only[zz,zy,ah,ab,ag,ae];exact aC (hK _ _ m.ext rfl)
  | 7,_ =>
   clear m hi;intro g ww Q' c hp hK;simp only[zz,bC,bJ] at hK ⊢;have m:=cK.refl ww;refine dC (by simp only[zw];rfl) ?_;refine aA aB (aC ?_);simp only[zz];exact hK _ _ m.ext (⟨_,_,_,rfl,(uK hcov (c.l 3 rfl) hk2 (fun i h l h1 h2=>let q:=hs2t i h l (pJ h1) (pJ h2);⟨q.1.ext c.ext,q.2⟩) hk3 (c.o 0 rfl).row).ext m.ext⟩)
  | 8,_ =>
   clear m hi;intro g ww Q' c hp hK;simp only[zz,bC,bJ] at hK ⊢;have m:=cK.refl ww;refine dC (by simp only[zw];rfl) ?_;refine aA aB (aC ?_);simp only[zz];exact hK _ _ m.ext (⟨_,_,_,rfl,(Aa (c.o 1 rfl) Lh).ext m.ext⟩)
  | 9,_ =>
   clear m hi;intro g ww Q' c hp hK;simp only[zz,bC,bJ] at hK ⊢;obtain q6:g 58=kK r:=hp 6 (by decide);obtain⟨A7,N7,c7,q7,h7⟩:∃A n c,g 59=.slice A n c∧fZ ww A n (((dN ss (jJ F.length zs) F)++ls.take k)):=hp 7 (by decide);obtain⟨A8,N8,c8,q8,h8⟩:∃A n c,g 60=.slice A n c∧dH ww A n ((jJ F.length zs)):=hp 8 (by decide);simp only[q6,q7,q8] at hK ⊢;have m:=cK.refl ww;refine dC (by simp only[zw];rfl) ?_;refine fJ m rfl rfl (Qu (r:=r) (xs:=((dN ss (jJ F.length zs) F)++ls.take k)) (bs:=(jJ F.length zs)) _ h7 h8 (by rw[←h7.len];omega) (by omega) hmo) ?_;clear m;rintro v u m hR;refine aC ?_;simp only[zz];exact hK _ _ m.ext (pV hR (wE (by omega)))
  | 10,_ =>
   clear m hi;intro g ww Q' c hp hK;simp only[zz,bC,bJ] at hK ⊢;obtain⟨A4,N4,c4,q4,h4⟩:∃A n c,g 56=rD (iO r ((dN ss (jJ F.length zs) F)++ls.take k) (jJ F.length zs)) A n c∧dH ww A n (iO r ((dN ss (jJ F.length zs) F)++ls.take k) (jJ F.length zs)).opn:=hp 4 (by decide);obtain⟨A9,N9,c9,q9,h9⟩:∃A n c,g 61=rD (iO r ((dN ss (jJ F.length zs) F)++ls.take k) (jJ F.length zs)) A n c∧dH ww A n (iO r ((dN ss (jJ F.length zs) F)++ls.take k) (jJ F.length zs)).opn:=hp 9 (by decide);simp only[q4,q9] at hK ⊢;have m:=cK.refl ww;refine dC (by simp only[zw];rfl) ?_;refine fJ m rfl rfl (uI (a:=iO r ((dN ss (jJ F.length zs) F)++ls.take k) (jJ F.length zs)) _ h4 h9 (by have:=h4.len;omega)) ?_;clear m;rintro v u m rfl;refine aC ?_;simp only[zz];exact hK _ _ m.ext rfl
  | 11,_ =>
   clear m hi;intro g ww Q' c hp hK;simp only[zz,bC,bJ] at hK ⊢;obtain q10:g 62=.bool true:=hp 10 (by decide);simp only[q10] at hK ⊢;have m:=cK.refl ww;refine dC (by simp only[zw];rfl) ?_;refine aA aD (aC ?_);simp only[zz];exact hK _ _ m.ext rfl
  | i+12,h=>exact absurd h (by simp)
 clear m;intro g ww m hp;simp only[bC,bJ,zF,zG];obtain q11:g 13=.bool true:=hp 11 (by decide);simp only[q11];clear hp;refine k8 _ _ ?_;refine aF fun K9 k9=>aa (aA aB (aA aB (aR rfl (aA aB (aA (cT rfl) ?_)))));simp only[zz];refine aA aB (aR rfl (aA aB (aA (cT rfl) (aA aB ?_))));simp only[zz];refine aR rfl (aA aB (aA (cT rfl) (aA aD (aC (k9 _ _ ?_)))));refine wp_ret ?_;simp only[zz];try simp only[Exit.inBlock,Exit.then,if_true]
 refine bY rfl rfl ?_;try simp only[zD,zE]
 exact⟨_,rfl,m.ext,rfl⟩
end Go.Proofs.YtimjandkmfcmiaaGreatDoor
namespace Go.Lith
open Go.RowKit Go.ChangeShapes
variable {H:Type} {enc:be × aj→H} {P:Program}
theorem Cf(hl:laidOutB P=true){W W':aw}(hb:dU W W'){sp:Nat→Bool} :
 ∀{ts:List be} {vs:List aj} {ds:List (DataW H)} {ps:List MemPlace},(ts.all fun t=>P.readableRec t&&decide (t<P.types.size))=true→DataW.TrodAll enc P W 0 (fun _=>true) true ts vs ds ps→(∀p∈ps,sp p.block=true)→DataW.TrodAll enc P W' 0 sp true ts vs ds ps
 | [],[],[],_,_,h,_=>h
 | [],[],_::_,_,_,h,_=>h.elim
 | [],_::_,_,_,_,h,_=>h.elim
 | _::_,[],_,_,_,h,_=>h.elim
 | _::_,_::_,[],_,_,h,_=>h.elim
 | t::ts,v::vs,d::ds,ps,hv,h,hs=>by
  obtain⟨p,q,⟨n,h1⟩,h2,e⟩:=h;subst e;simp only[List.all_cons,Bool.and_eq_true,decide_eq_true_eq] at hv;have hlt:=DataW.trod_lt n _ _ _ h1;exact⟨p,q,⟨n,DataW.trod_stays (kids_book hl hv.1.1) (book_sized hv.1.1) (fun h=>by cases h) ⟨hv.1.2,book_self t⟩ h1 (fun x hx=>Below.same hb (hlt x hx)) (fun x hx=>hs x (by simp[hx]))⟩,
   Cf hl hb (by simpa using hv.2) h2 (fun x hx=>hs x (by simp[hx])),rfl⟩
theorem Of{f:Func}{s:ChangeSpec}{apart fresh handsOn again:Bool}{W W':aw}{args:Array aj}{t:be}{ds gs:List (DataW H)}{before:List MemPlace}
 (hl:laidOutB P=true) (hps:(f.params.toList.all fun t=>P.readableRec t&&decide (t<P.types.size))=true) (hv:s.vars=[]) (hr:f.resultTypes = #[t]) (hu:P.underlying t=some .bool)
 (hW:DataW.Whole enc P f.params.toList s.vars apart W args.toList ds gs before) (hfn:(s.fn H (ds++gs)).results=[.lit (.bool true)]∧(s.fn H (ds++gs)).args=ds∧(s.fn H (ds++gs)).vars=[]) (hb:dU W W') :
 s.post enc P f apart fresh handsOn again W args (.bool true) W':=by
 have hW0:=hW;obtain⟨p,q,hA,hV,rfl,hz,hn⟩:=hW0;rw[hv] at hV;obtain⟨rfl,rfl⟩:=trodVars_none hV;have hargs:∀sp:Nat→Bool,(∀x∈p++[],sp x.block=true)→DataW.TrodAll enc P W' 0 sp true f.params.toList args.toList (s.fn H (ds++[])).args p:=fun sp hsp=>by
  rw[hfn.2.1];exact Cf hl hb hps hA (fun x hx=>hsp x (by simp[hx]))
 have hvars:∀sp:Nat→Bool,DataW.TrodVars enc P W' sp s.vars (s.fn H (ds++[])).vars []:=fun sp=>by
  rw[hv,hfn.2.2];exact rfl
 have hres:∀(b:Nat) (sp:Nat→Bool) (hd:Bool),DataW.TrodAll enc P W' b sp hd f.resultTypes.toList ((Value.bool true).resultList f.resultTypes.size) (s.fn H (ds++[])).results []:=fun b sp hd=>by
  rw[hr,hfn.1];exact trodAll_cons_mk (shut_bool hu true) trodAll_mk0
 have hok:∀(j:Nat) (t:be) (r:aj),f.resultTypes[j]? = some t→((Value.bool true).resultList f.resultTypes.size)[j]? = some r→jn P W' .any 0 t r:=ok_one hr rfl (okWide_bool_mk hu _);have hlt:∀x∈p++[],x.block<W.heap.size:=hW.lt;have hold:∀x∈p++[],(fun b=>decide (b<W.heap.size)) x.block=true:=fun x hx=>by simpa using hlt x hx
 refine⟨ds,[],p++[],[],p,[],hW,hres _ _ _,hargs _ hold,hvars _,Below.frame hb _,fun _=>?_⟩;refine⟨hok,_,_,([]++p)++[],⟨[]++p,[],trodAll_append (hargs _ (fun _ _=>rfl)) (hres _ _ _),hvars _,rfl,?_,?_⟩,?_⟩
 · intro b off hp
   have h1:MemPlace.cell b off∈p++[]:=by simpa using hp
   rw[Below.frozen hb (p:=⟨b,off,none⟩) (hlt _ h1)];exact hz b off h1
 · intro ha
   simpa using hn ha
 · intro x hp _
   simpa using hp
end Go.Lith
namespace Go.Lith
open Go.RowKit Go.ChangeShapes
variable {H:Type} {enc:be × aj→H} {P:Program} {w:aw} {base:Nat} {spare:Nat→Bool} {held:Bool}
theorem Vl{n:Nat}{t e:be}{fuel:Nat}{cs:List aj}{x:DataW H × List MemPlace}(hu:P.underlying t=some (.slice e))(hi:kV P n e=true)(hc:P.cellsOf e=3)(h:DataW.trod enc P w base spare held fuel t cs=some x) :
 ∃(A:Option Addr) (len cap:Nat) (ps:List P3),cs=[.slice A len cap]∧len≤cap∧cap≤maxLen∧Ut Qh 3 w A len ps:=by
 obtain⟨A,len,cap,rfl,h1,h2,h3,h4⟩:=Au hu hi hc h;obtain⟨ps,h5,h6⟩:=nH (p:=fun i (p:P3)=>∃a,A=some a∧qN w (a.add (i*3)) (Qh p)) len (fun i hi=>by
  obtain⟨a,zs,rfl,_,hr,hl,hz⟩:=h4 i hi;obtain⟨x,y,z,rfl⟩:=three hl;exact⟨⟨x,y,z⟩,a,rfl,hr⟩)
 exact⟨A,len,cap,ps,rfl,h1,h2,h5,fun i p hp=>h6 i p hp⟩
theorem agc{n:Int}(h:(Lit.int .u8 n).wf=true):∃q:Nat,n=(q:Int)∧q<256:=by
 have:=bounds_u8 h;exact⟨n.toNat,by omega,by omega⟩
theorem Qw{r:Reach}{b0 n:Nat}{t tI tH tB tR tS tP:be}{fs:Array Field}{v:aj}{d:DataW H}{p:List MemPlace}(hs:P.underlying t=some (.struct fs))(hf:fs.map (fun f=>(f.type,f.offset)) = #[(tI,0),(tI,1),(tH,2),(tB,3),(tH,4),(tR,5),(tS,12)])(ct:P.cellsOf t=13)
 (hI:kV P n tI=true) (cI:P.cellsOf tI=1) (hH:P.underlying tH=some (.slice tI)) (cH:P.cellsOf tH=1) (hB:P.underlying tB=some (.int .u8)) (cB:P.cellsOf tB=1) (hR:kV P n tR=true) (cR:P.cellsOf tR=7) (hS:P.underlying tS=some (.slice tP)) (cS:P.cellsOf tS=1) (hP:kV P n tP=true) (cP:P.cellsOf tP=3)
 (hv:jn P w r b0 t v) (h:DataW.Trod enc P w base spare held t v d p) :
 ∃(kind bits:Int) (q:Nat) (r:gJ) (HA ZA PA:Option Addr) (HN Hc ZN Zc PN Pc:Nat) (hz zs:List Int) (ss:List P3),v=.agg #[.int .i64 kind,.int .i64 bits,.slice HA HN Hc,.int .u8 (q:Int),.slice ZA ZN Zc,.int .i64 r.s.x,.int .i64 r.s.y,.int .i64 r.s.z,.int .i64 r.w,.int .i64 r.d.x,.int .i64 r.d.y,.int .i64 r.d.z,.slice PA PN Pc] ∧
  Iw kind∧Iw bits∧IR r∧dH w HA HN hz∧dH w ZA ZN zs∧Ut Qh 3 w PA PN ss∧q<256:=by
 obtain⟨fuel,hfu⟩:=h;unfold jn at hv;rw[hs] at hv;obtain⟨cs,rfl,hz,_⟩:=hv;obtain⟨xs,m,_,_,hl,hxl,hx⟩:=DataW.trod_struct hs hfu;have field:∀(i:Nat) (ty:be) (off:Nat),(#[(tI,0),(tI,1),(tH,2),(tB,3),(tH,4),(tR,5),(tS,12)]:Array (be × Nat))[i]? = some (ty,off)→∃y,DataW.trod enc P w base spare held m ty ((cs.toList.drop off).take (P.cellsOf ty))=some y:=fun i ty off hi=>by
  rw[←hf,Array.getElem?_map] at hi;cases hq:fs[i]? with
  | none=>rw[hq] at hi;cases hi
  | some f =>
   rw[hq] at hi;simp only[Option.map_some,Option.some.injEq,Prod.mk.injEq] at hi;obtain⟨rfl,rfl⟩:=hi;have hi':i<fs.size:=(Array.getElem?_eq_some_iff.1 hq).1;exact⟨xs[i]'(by omega),(hx i f hq).trans (ao (by omega))⟩
 rw[ct] at hz;obtain⟨l⟩:=cs
 match l,hz with
 | [c0,c1,c2,c3,c4,c5,c6,c7,c8,c9,c10,c11,c12],_ =>
  obtain⟨y0,h0⟩:=field 0 tI 0 rfl;obtain⟨y1,h1⟩:=field 1 tI 1 rfl;obtain⟨y2,h2⟩:=field 2 tH 2 rfl;obtain⟨y3,h3⟩:=field 3 tB 3 rfl;obtain⟨y4,h4⟩:=field 4 tH 4 rfl;obtain⟨y5,h5⟩:=field 5 tR 5 rfl;obtain⟨y6,h6⟩:=field 6 tS 12 rfl;simp only[cI,cH,cB,cR,cS] at h0 h1 h2 h3 h4 h5 h6;have e0:=(lZ n tI m [c0] _ hI h0).2;have e1:=(lZ n tI m [c1] _ hI h1).2;have e5:=(lZ n tR m [c5,c6,c7,c8,c9,c10,c11] _ hR h5).2;obtain⟨kind,rfl,k0⟩:=e0 c0 (by simp);obtain⟨bits,rfl,k1⟩:=e1 c1 (by simp);obtain⟨r5,rfl,k5⟩:=e5 c5 (by simp);obtain⟨r6,rfl,k6⟩:=e5 c6 (by simp);obtain⟨r7,rfl,k7⟩:=e5 c7 (by simp);obtain⟨r8,rfl,k8⟩:=e5 c8 (by simp);obtain⟨r9,rfl,k9⟩:=e5 c9 (by simp);obtain⟨r10,rfl,k10⟩:=e5 c10 (by simp);obtain⟨r11,rfl,k11⟩:=e5 c11 (by simp);obtain⟨z3,hc3,_,wz⟩:=DataW.trod_int (cs:=[c3]) hB h3;obtain⟨q,rfl,hq⟩:=agc wz;obtain⟨HA,HN,Hc,hz',hc2,_,_,_,hZ⟩:=xI (n:=n) (cs:=[c2]) hH hI cI h2;obtain⟨ZA,ZN,Zc,zs,hc4,_,_,_,hZ2⟩:=xI (n:=n) (cs:=[c4]) hH hI cI h4;obtain⟨PA,PN,Pc,ss,hc12,_,_,hS2⟩:=Vl (n:=n) (cs:=[c12]) hS hP cP h6;simp only[List.cons.injEq,and_true] at hc2 hc3 hc4 hc12;subst hc2;subst hc3;subst hc4;subst hc12;exact⟨kind,bits,q,⟨⟨r5,r6,r7⟩,r8,⟨r9,r10,r11⟩⟩,HA,ZA,PA,HN,Hc,ZN,Zc,PN,Pc,hz',zs,ss,rfl,⟨k0⟩,⟨k1⟩,⟨⟨k5,k6,k7⟩,k8,⟨k9,k10,k11⟩⟩,hZ,hZ2,hS2,hq⟩
end Go.Lith
namespace Go.Lith
open Go.RowKit Go.ChangeShapes
open Go.Proofs.YtimjandkmfcmiaaGreatDoor
variable {H:Type} {enc:be × aj→H} {P:Program} {w:aw} {base:Nat} {spare:Nat→Bool} {held:Bool}
theorem aan(d:DataW H):1≤Rows.uptoBulk d:=by
 cases d with
 | lit l=>cases l <;> simp[Rows.uptoBulk]
 | nil=>simp[Rows.uptoBulk]
 | ptr d=>simp[Rows.uptoBulk]
 | slice elems spare=>simp[Rows.uptoBulk]
 | agg parts=>simp[Rows.uptoBulk]
 | iface t d=>simp[Rows.uptoBulk]
 | map entries=>simp[Rows.uptoBulk]
 | held h=>simp[Rows.uptoBulk]
theorem Il{d:DataW H}:∀{l:List (DataW H)},d∈l→Rows.uptoBulk d≤Rows.uptoBulkAll l
 | x::r,h=>by
  simp only[Rows.uptoBulkAll];rcases List.mem_cons.1 h with rfl | h
  · omega
  · have:=Il h
    omega
theorem Ft{k:Nat}:∀{l:List (DataW H)},(∀d∈l,k≤Rows.uptoBulk d)→k*l.length≤Rows.uptoBulkAll l
 | [],_=>cd _
 | x::r,h=>by
  have h1:=h x (cu ..);have h2:=Ft (l:=r) fun d hd=>h d (cw _ hd);simp only[Rows.uptoBulkAll,ci,Nat.mul_succ];omega
theorem aao{g gp:be}{fuel:Nat}{cs:List aj}{x:DataW H × List MemPlace}(hg:P.underlying g=some (.array 3 gp))(h:DataW.trod enc P w base spare held fuel g cs=some x):4≤Rows.uptoBulk x.1:=by
 obtain⟨xs,m,_,rfl,_,hl,_⟩:=DataW.trod_array hg h;have:=Ft (k:=1) (l:=xs.map (·.1)) fun d _=>aan d;rw[dj,hl] at this;simp only[Rows.uptoBulk];omega
theorem Vm{e g gp:be}{fuel n c:Nat}{A:Option Addr}{cs:List aj}{x:DataW H × List MemPlace}(he:P.underlying e=some (.slice g))(hg:P.underlying g=some (.array 3 gp))(h:DataW.trod enc P w base spare held fuel e cs=some x)(hc:cs=[.slice A n c]):4*n≤Rows.uptoBulk x.1:=by
 rcases Deep.open_slice he h with ⟨rfl,_⟩ | ⟨a,len,cap,m,q,D,Pl,rfl,_,hl,_,hk,rfl,hD⟩
 · cases hc
   exact cd _
 · cases hc
   have hd:∀d∈(List.range n).map D,4≤Rows.uptoBulk d:=fun d hd=>by
    obtain⟨i,hi,rfl⟩:=List.mem_map.1 hd;rw[fw] at hi;obtain⟨cs',_,h2⟩:=hD i (by rw[hk];split <;> omega);exact aao hg h2
   have:=Ft hd;rw[dj,List.length_range] at this;simp only[Rows.uptoBulk];omega
theorem Bk{v:aj}{A:Option Addr}{len cap:Nat}(h:v.cells.toList=[.slice A len cap])(hv:∀cs,v≠.agg cs):v=.slice A len cap:=by
 cases v <;> first | (exact absurd rfl (hv _)) | (simp[Value.cells] at h;done) | (simpa[Value.cells] using h)
theorem vQ{r:Reach}{b0:Nat}{t e:be}{v:aj}(hu:P.underlying t=some (.slice e))(hv:jn P w r b0 t v):∀cs,v≠.agg cs:=fun cs hcs=>by
 unfold jn at hv;rw[hu] at hv;subst hcs;simp[Cell.okWide,Cell.ok,hu] at hv
theorem Qx{r:Reach}{b0 n:Nat}{t e:be}{v:aj}{d:DataW H}{p:List MemPlace}(hu:P.underlying t=some (.slice e))(hi:kV P n e=true)(hc:P.cellsOf e=1)(hv:jn P w r b0 t v)(h:DataW.Trod enc P w base spare held t v d p) :
 ∃(A:Option Addr) (len cap:Nat) (zs:List Int),v=.slice A len cap∧dH w A len zs:=by
 obtain⟨fuel,hf⟩:=h;obtain⟨A,len,cap,zs,e,_,_,_,h1⟩:=xI hu hi hc hf;exact⟨A,len,cap,zs,Bk e (vQ hu hv),h1⟩
theorem Qy{r:Reach}{b0 n:Nat}{t e g gp:be}{v:aj}{d:DataW H}{p:List MemPlace}(hu:P.underlying t=some (.slice e))(ce:P.cellsOf e=1)(he:P.underlying e=some (.slice g))(hi:kV P n g=true)(cg:P.cellsOf g=9)(hg:P.underlying g=some (.array 3 gp))
 (hv:jn P w r b0 t v) (h:DataW.Trod enc P w base spare held t v d p) :
 ∃(A:Option Addr) (len cap:Nat) (xs:List (List T3)),v=.slice A len cap∧len≤cap∧cap≤maxLen∧fZ w A len xs∧∀l∈xs,4*l.length≤Rows.uptoBulk d:=by
 obtain⟨fuel,hf⟩:=h;rcases Deep.open_slice hu hf with ⟨e,_⟩ | ⟨a,len,cap,m,q,D,Pl,e,_,hl,hm,hk,hx,hD⟩
 · exact⟨none,0,0,[],Bk e (vQ hu hv),Nat.le_refl _,cd _,⟨rfl,fun i l hi=>(by cases hi)⟩,fun l hl=>(by cases hl)⟩
 · obtain⟨xs,h5,h6⟩:=nH (p:=fun i (l:List T3)=>i<len∧(∃hd:Hd,w.cell? (a.add i)=some hd.v∧dX w hd.A hd.n l∧hd.n≤hd.cap)∧4*l.length≤Rows.uptoBulk (D i)) len (fun i hi'=>by
    obtain⟨cs',h1,h2⟩:=hD i (by rw[hk];split <;> omega);obtain⟨A',n',c',ts,rfl,hle,_,_,hts⟩:=Uj he hi cg h2;have hb:=Vm he hg h2 rfl;rw[ce,Nat.mul_one] at h1;have hc:=(Em h1).1 0 _ rfl;refine⟨ts,hi',⟨⟨A',n',c'⟩,hc,hts,hle⟩,?_⟩;rw[hts.len];exact hb)
   obtain rfl:d=_:=congrArg Prod.fst hx;refine⟨some a,len,cap,xs,Bk e (vQ hu hv),hl,hm,⟨h5,fun i l hi=>?_⟩,fun l hl'=>?_⟩
   · obtain⟨_,⟨hd,h7,h8,h9⟩,_⟩:=h6 i l hi
     exact⟨a,hd,rfl,h7,h8,h9⟩
   · obtain⟨i,hi,rfl⟩:=List.getElem_of_mem hl'
     obtain⟨h7,_,h8⟩:=h6 i _ (ao hi);have h9:D i∈(List.range len).map D:=List.mem_map_of_mem (fw.2 h7);have:=Il h9;simp only[Rows.uptoBulk];omega
end Go.Lith
