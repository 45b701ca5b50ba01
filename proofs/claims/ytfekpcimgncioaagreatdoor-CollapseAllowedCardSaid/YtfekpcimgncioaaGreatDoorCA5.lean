/-
 Texts of one claim, laid together: Rchk2, W2, Ent, W3, K1, K2, K3, K4, Sfa, K5, Ref1, Ref2, Ref3, Ref4, Ref5, Ref6, Ref7, Wide6.
-/
import Derived.Test.YtfekpcimgncioaaGreatDoorCA4
open Nat renaming reduceAdd→aa,reduceMul→ag,zero_add→aq,le_refl→av,le_trans→ba,zero_le→bw,lt_succ_self→fc,add_sub_cancel→gr,min_eq_left→ii,mul_zero→ky
open Int renaming reduceToNat→ad,toNat_natCast→ah,reduceAdd→ak
open Go renaming Value→ai,World→aj,wp_region_lit→ao,wpList→ar,MapEntry→ck,wpQuiet→cl,wp_ret→jb,wp_block→jm,wp_skip→jp
open List renaming getElem?_eq_getElem→am,length_append→au,length_cons→aw,take_of_length_le→ay,flatMap_append→a_,mem_singleton→bf,map_cons→bh,mem_append→bi,length_nil→bn,length_take→bv,getElem?_eq_none→bz,nil_append→b_,cons_append→cj,map_nil→cq,replicate→cu,map_append→cv,mem_filter→c_,append_assoc→dl,eq_nil_of_length_eq_zero→fa,append_nil→fe,take_length→fi,length_filter_le→fm,length_drop→ft,filter_append→gj,length_singleton→ja,take_zero→jx,drop_length→lg
open Go.Value renaming bool→bj
open Go.Oper renaming mk→bm
open Go.Exit renaming inBlock→cw
open Option renaming getD_some→df,map_some→fl,getD_none→lj
open Array renaming getElem?_eq_some_iff→dz,getElem?_modify→jq,ext_getElem?→ki
open UInt8 renaming ofNat→ei
open Option.some renaming inj→eo
open Bool renaming not_false→fj
set_option maxHeartbeats 8000000
set_option linter.unusedSimpArgs false
set_option linter.unusedVariables false
set_option linter.unusedSectionVars false
namespace Go.Proofs.YtfekpcimgncioaaGreatDoor
open Go.Proofs.Tryz
open Go.RowKit Go.Lith
variable{ts:List T3}{N cap:Nat}{A:Option Addr}{op:Bool}{E:List E3}{kp:E3}
abbrev Ll:=@underlying284
abbrev oT:=@underlying285
set_option maxRecDepth 100000
attribute [local irreducible] ar cl fU bS cO Code.wp
attribute [local congr] pD gF gG gH gI gJ kL gK gL gM gN gQ gR gS gT gU gV gW eU eV gX gY iA iB iC kN dF dG cW dD gZ kM eW eX eY iD iE kO
theorem Rv{all out:List E3}{e:E3}(h:0<lV all (e.2,e.1)∨0<lV out e):pV all out e=out:=if_pos h
theorem We{all out:List E3}{e:E3}{k:Nat}(h1:¬0<lV all (e.2,e.1))(h2:¬0<lV out e)(h:afb out e=k):pV all out e=out.take k++[e]++out.drop k:=by
 rw[pV,if_neg (fun h=>h.elim h1 h2),acc,h]
theorem ao3{w:aj}{a:Addr}{e:E3}(h:mD w a (cY e)):mD w a [.int .i64 e.1.x,.int .i64 e.1.y,.int .i64 e.1.z,.int .i64 e.2.x,.int .i64 e.2.y,.int .i64 e.2.z]:=h
theorem gt0{n:Nat}:((0:Int)<(n:Int))↔0<n:=by omega
theorem ai6(w:aj)(hT:bU w A N ts)(hN:N≤100000000):dA prog 28 [.slice A N cap] w (SL 56 6 ((bK ts).flatMap cY) (bK ts).length w):=by
 refine⟨bJ func28 (by kernel_rfl),?_⟩;have m:=Mem.refl w
 go_enter func28,ntmps28
 apply fI 7 [0] m;simp only[↓aD];refine bH O O (aes _ (hT.ext m.ext) (by omega)) ?_;rintro v u e_ ⟨A3,cap3,n3,hn3,rfl,h_⟩;replace m:=m.newO e_ h_;have he3:=qW ts;have htl:=hT.len;apply aL 4 [0] m;simp only[↓aD];refine aC aO ?_;replace m:=m.nilO 56 6;apply aL 7 [0] m;simp only[↓aD];refine bX [4,5] [6,7,8,9,12,13,14,15,16,17,18,19,20,21,22,23,24,25,26,27,28,29,30,31,32,33,34,35,36,37,38,39,40,41,42,43,44,45,46,47,48,49,50,51,52,53,54,55,56,57,58,59,60,61,62,63] (fun n vs wl=>∃(k n4 cap4:Nat) (A4:Option Addr),vs=[.slice A4 n4 cap4,.int .i64 (k:Int)]∧Mem w wl [oI 56 6 A4 n4 cap4 ((((bE ts).take k).foldl (pV (bE ts)) []).flatMap cY),oI 56 6 A3 n3 cap3 ((bE ts).flatMap cY)]∧(n4≤k)∧(k≤n3)∧(n=n3-k)) ?_ ?_
 ·
  exact⟨_,0,_,_,_,O,m,av _,bw _,O⟩
 ·
  intro n vs wr hI u K1 hK1;obtain⟨k,n4,cap4,A4,rfl,m,hl4,hk,hn⟩:=hI;simp only[zu,zF,zG];apply aK 8 [0,0] m;simp only[↓aD,Vy];refine bD O ?_ ?_<;>intro hc1
  ·
   obtain⟨e,he⟩:∃e,(bE ts)[k]? = some e:=⟨_,am (by omega)⟩
   obtain⟨gO,rfl⟩:=(m.o 1 rfl).some (by omega);apply aK 7 [0] m;simp only[↓aD];refine aC (aF oB iV O O (by omega) (by omega) (bZ (ah _))) ?_;simp only[zz];refine aS O ((ao3 ((m.o 1 O).at Nh he)).lies Ft iV) ?_;simp only[zz];apply jS 5 [0] m;simp only[↓aD,Vz,Fc,aa];intro g1 u m;obtain⟨B,hB⟩:∃B,B=((bE ts).take k).foldl (pV (bE ts)) []:=⟨_,rfl⟩
   rw[←hB] at m;have h4:B.length=n4:=(m.o 1 rfl).num Nh (by decide);have hle4:=(m.o 1 rfl).le;have hs:=afc (all:=bE ts) he;rw[←hB] at hs;rcases Nat.eq_zero_or_pos (lV (bE ts) (e.2,e.1)) with hz | hz
   ·
    apply aU 7 [0,0,0] m;simp only[↓aD,Rg,aQ,Fe,ad,ag,aa];refine⟨by omega,?_⟩;refine cQ m O O (Ny (es:=bE ts) (e:=(e.2,e.1)) _ ((m.o 2 O).lat Nh (by decide)) (by omega)) ?_;rintro v u m rfl;apply aL 4 [2,0,0] m;simp only[↓aD,Fc];refine⟨by omega,?_⟩;refine eB O (cQ m O O (Ny (es:=B) (e:=e) _ ((m.o 1 O).lat Nh (by decide)) (by omega)) ?_);rintro v u m rfl;apply aL 3 [0,0] m;simp only[↓aD];refine bD O ?_ ?_<;>intro hc2
    ·
     rw[Rv (.inr (gt0.1 hc2))] at hs;apply aK 6 [0] m;simp only[↓aD];refine⟨by omega,?_⟩;exact hK1 (n3-(k+1)) _ _ (by omega) (by kernel_rfl) ⟨k+1,_,_,_,O,((m.reO 1 O ((m.o 1 O).as (by rw[hs]))).sel [false,true,true]),by omega,by omega,O⟩
    ·
     have hz2:¬0<lV B e:=fun h=>hc2 (gt0.2 h);apply aK 7 [0] m;simp only[↓aD];refine bX [7] [8,36,37,38,39,40,41,42,43,44,45,46,47,48,49] (fun n vs wl=>∃(j:Nat),vs=[.int .i64 (j:Int)]∧Mem w wl [bI g1 (cY e) 56,oI 56 6 A4 n4 cap4 ((B).flatMap cY),oI 56 6 (some ⟨gO,0,none⟩) n3 cap3 ((bE ts).flatMap cY)]∧(Pre (fun x=>ltE x e) B j)∧(j≤n4)∧(n=n4-j)) ?_ ?_
     ·
      exact⟨_,0,O,m,Pre.zero,bw _,O⟩
     ·
      intro n vs wr hI u K2 hK2;obtain⟨j,rfl,m,hpre,hj,hn2⟩:=hI;simp only[zu,zF,zG];apply aK 8 [0,0] m;simp only[↓aD,Vy];refine bD O ?_ ?_<;>intro hc3
      ·
       obtain⟨x,hx⟩:∃x,B[j]? = some x:=⟨_,am (by omega)⟩
       obtain⟨gP,rfl⟩:=(m.o 1 rfl).some (by omega);apply aK 3 [0] m;simp only[↓aD];refine mq m aB (by kernel_rfl) (aI aH (aI aH ?_));simp only[zz];refine aI (aF oB iV O O (by omega) (by omega) (bZ (ah _))) ?_;simp only[zz];refine ql O (fun u m=>(((m.o 1 O).at Nh hx).lies Ft iV)) ?_;simp only[zz];refine ql O (fun u m=>((m.b 0 O).full Ft iV)) ?_;simp only[zz];refine fD O O (aiK (a:=x) (b:=e)) (aI aO (bC ?_));intro u m;apply aU 6 [0] m;simp only[↓aD];refine gE O ?_ ?_<;>intro hc4
       ·
        have hpos:afb B e=j:=am0 hpre hx (by simpa using hc4);rw[We (by omega) hz2 hpos] at hs;apply aK 3 [0] m;simp only[↓aD];refine aC aO ?_;replace m:=m.nilO 56 6;apply aL 6 [0] m;simp only[↓aD];refine aC (nG oB iV O O (ah _) (by omega) (by omega)) ?_;simp only[zz];refine bM m 0 O O oB Bo O (by decide) O O (by rw[kD Nh,bv,ii (show j≤B.length by omega)]) ((((m.o 2 O).lat Nh (by decide)).take (k:=j) (by omega)).cells Nh (by decide)) (Xr _) (by omega) (by omega) ?_;intro A9 cap9 u m;simp only[zF,zG] at m;rw[b_,aq] at m;simp only[aq];apply aL 6 [1,0] m;simp only[↓aD,Fc];refine Km O ?_;intro u g2 e_ h_ k_;replace m:=m.newB e_ h_ k_;simp only[zz];refine bM m 1 O O oB Bo O (by decide) O O O (m.b 0 O).rowsO (fV O) (by omega) (by omega) ?_;intro A9 cap9 u m;simp only[zF,zG] at m;apply aL 6 [0] m;simp only[↓aD];refine aC (tR oB iV O O (ah _) (by omega) (by omega) O) ?_;simp only[zz];refine bM m 1 O O oB Bo O (by decide) O O (by rw[kD Nh,ft,h4]) (((m.o 3 O).lat Nh (by decide)).cellsD Nh (by decide) (by omega)) (Xr _) (by omega) (by omega) ?_;intro A9 cap9 u m;simp only[zF,zG] at m;refine aC aO ?_;simp only[zz];replace m:=(m.pull 1 O).mv 2 O;simp only[dW,dX,zF,zG] at m;apply aL 7 [0] m;simp only[↓aD];refine⟨by omega,?_⟩;exact hK1 (n3-(k+1)) _ _ (by omega) (by kernel_rfl) ⟨k+1,_,_,_,O,((m.reO 2 O ((m.o 2 O).as (by rw[hs,a_,a_];rfl))).sel [false,false,true,true]),by omega,by omega,rfl⟩
       ·
        have hpre2:=hpre.step hx (by simpa using hc4);apply aK 7 [0] m;simp only[↓aD];refine⟨by omega,?_⟩;exact hK2 (n4-(j+1)) _ _ (by omega) (by kernel_rfl) ⟨j+1,O,m,hpre2,by omega,O⟩
      ·
       have hjl:j=B.length:=by omega
       have hpos:afb B e=j:=by rw[hjl] at hpre ⊢;exact ahh hpre
       rw[We (by omega) hz2 hpos] at hs;apply aK 3 [0] m;simp only[↓aD];refine aC aO ?_;replace m:=m.nilO 56 6;apply aL 6 [0] m;simp only[↓aD];refine aC (nG oB iV O O (ah _) (by omega) (by omega)) ?_;simp only[zz];refine bM m 0 O O oB Bo O (by decide) O O (by rw[kD Nh,bv,ii (show j≤B.length by omega)]) ((((m.o 2 O).lat Nh (by decide)).take (k:=j) (by omega)).cells Nh (by decide)) (Xr _) (by omega) (by omega) ?_;intro A9 cap9 u m;simp only[zF,zG] at m;rw[b_,aq] at m;simp only[aq];apply aL 6 [1,0] m;simp only[↓aD,Fc];refine Km O ?_;intro u g2 e_ h_ k_;replace m:=m.newB e_ h_ k_;simp only[zz];refine bM m 1 O O oB Bo O (by decide) O O O (m.b 0 O).rowsO (fV O) (by omega) (by omega) ?_;intro A9 cap9 u m;simp only[zF,zG] at m;apply aL 6 [0] m;simp only[↓aD];refine aC (tR oB iV O O (ah _) (by omega) (by omega) O) ?_;simp only[zz];refine bM m 1 O O oB Bo O (by decide) O O (by rw[kD Nh,ft,h4]) (((m.o 3 O).lat Nh (by decide)).cellsD Nh (by decide) (by omega)) (Xr _) (by omega) (by omega) ?_;intro A9 cap9 u m;simp only[zF,zG] at m;refine aC aO ?_;simp only[zz];replace m:=(m.pull 1 O).mv 2 O;simp only[dW,dX,zF,zG] at m;apply aL 7 [0] m;simp only[↓aD];refine⟨by omega,?_⟩;exact hK1 (n3-(k+1)) _ _ (by omega) (by kernel_rfl) ⟨k+1,_,_,_,O,((m.reO 2 O ((m.o 2 O).as (by rw[hs,a_,a_];rfl))).sel [false,false,true,true]),by omega,by omega,rfl⟩
   ·
    rw[Rv (.inl hz)] at hs;apply aU 7 [0,0,0] m;simp only[↓aD,Rg,aQ,Fe,ad,ag,aa];refine⟨by omega,?_⟩;refine cQ m O O (Ny (es:=bE ts) (e:=(e.2,e.1)) _ ((m.o 2 O).lat Nh (by decide)) (by omega)) ?_;rintro v u m rfl;apply aL 15 [1,0] m;simp only[↓aD];refine⟨by omega,?_⟩;exact hK1 (n3-(k+1)) _ _ (by omega) (by kernel_rfl) ⟨k+1,_,_,_,O,((m.reO 1 O ((m.o 1 O).as (by rw[hs]))).sel [false,true,true]),by omega,by omega,O⟩
  ·
   have hkN:k=(bE ts).length:=by omega
   rw[hkN,fi] at m;apply aK 7 [] m;simp only[↓aD];exact aT O O ⟨_,O,m.ext,⟨_,_,_,((m.o 0 O).num Nh (by decide)).symm,O,(m.o 0 O)⟩⟩
theorem aey(h:ts.any wV=true):fW op ts=20:=by simp[fW,h]
theorem aez(h:ts.any wV=false)(h2:(bE ts).any (fun e=>decide (1<lV (bE ts) e))=true):fW op ts=21:=by rw[fW,h,h2];rfl
theorem aeA(h:ts.any wV=false)(h2:(bE ts).any (fun e=>decide (1<lV (bE ts) e))=false)(h3:(!op&&decide (0<(bK ts).length))=false)(h4:(dY ts).any (Hn ts)=true):fW op ts=23:=by rw[fW,h,h2,h3,h4];rfl
theorem ai7(h:ts.any wV=false)(h2:(bE ts).any (fun e=>decide (1<lV (bE ts) e))=false)(h3:(!op&&decide (0<(bK ts).length))=false)(h4:(dY ts).any (Hn ts)=false):fW op ts=0:=by rw[fW,h,h2,h3,h4];rfl
theorem gt1{n:Nat}:((1:Int)<(n:Int))↔1<n:=by omega
theorem amd(w:aj)(hT:bU w A N ts)(hN:N≤100000000):dA prog 79 [.slice A N cap,.bool true] w (fun v _=>v=.int .i64 (fW true ts)):=by
 refine⟨bJ func79 (by kernel_rfl),?_⟩;have m:=Mem.refl w;have htl:=hT.len;have he3:=qW ts;have hcl:=Mg ts
 go_enter func79,ntmps79
 apply fI 10 [0] m;simp only[↓aD];refine bX [5] [4,11,12,13,14,15,16,17,18,19,20,21,22,23,24,25,26,27,28,29,30,31,32,33,34,35,36,37,38,39,40,41,42,43,44,45,46,47,48,49,50,51,52,53] (fun n vs wl=>∃(k:Nat),vs=[.int .i64 (k:Int)]∧Mem w wl []∧((ts.take k).any wV=false)∧(k≤N)∧(n=N-k)) ?_ ?_
 ·
  exact⟨_,0,O,m,O,bw _,O⟩
 ·
  intro n vs wr hI u K1 hK1;obtain⟨k,rfl,m,hd0,hk,hn⟩:=hI;simp only[zu,zF,zG];apply aK 8 [0,0] m;simp only[↓aD,iM];refine bD O ?_ ?_<;>intro hc1
  ·
   obtain⟨t,ht,_,a,rfl,hrow⟩:=hT.get (i:=k) (by omega);apply aK 4 [0] m;simp only[↓aD];refine mq m aB (by kernel_rfl) (aI aH (aI aH ?_));simp only[zz];refine aI (aF cD aP O O (by omega) (by omega) (bZ (ah _))) (dZ 1 [] ?_);simp only[↓aD,bR,ad,ag,aa];refine⟨by omega,?_⟩;refine ql O (fun u m=>((mD.cor ((hrow.ext m.ext)) (c:=0) (by decide)).lies aG aA)) ?_;simp only[zz];refine aI aH (aI aH ?_);simp only[zz];refine aI (aF cD aP O O (by omega) (by omega) (bZ (ah _))) (dZ 1 [] ?_);simp only[↓aD,bR,ad,ag,aa];refine⟨by omega,?_⟩;refine ql O (fun u m=>((mD.cor ((hrow.ext m.ext)) (c:=1) (by decide)).lies aG aA)) ?_;simp only[zz];refine aI (cB O O) (aI aH (iO O (fun hb=>aH) (iO O (fun hb=>aH) ?_)));simp only[zz];refine iO O (fun hb=>aF cD aP (aX hb O) (aX hb O) (by omega) (by omega) (bZ (ah _))) (iO O (fun hb=>aJ cF aA (aX hb O) O (by decide) (by decide) O) ?_);simp only[zz];refine pU O (fun hb u m=>aY (aX hb O) ((mD.cor ((hrow.ext m.ext)) (c:=1) (by decide)).lies aG aA)) (iO O (fun hb=>aH) (iO O (fun hb=>aH) ?_));simp only[zz];refine iO O (fun hb=>aF cD aP (aX hb O) (aX hb O) (by omega) (by omega) (bZ (ah _))) (iO O (fun hb=>aJ cF aA (aX hb O) O (by decide) (by decide) O) ?_);simp only[zz];refine pU O (fun hb u m=>aY (aX hb O) ((mD.cor ((hrow.ext m.ext)) (c:=2) (by decide)).lies aG aA)) (iO O (fun hb=>cB (aX hb O) (aX hb O)) (aI (cC O O O) (aI aH (iO O (fun hb=>aH) ?_))));simp only[zz];refine iO O (fun hb=>aH) ?_;simp only[zz];refine iO O (fun hb=>aF cD aP (aX hb O) (aX hb O) (by omega) (by omega) (bZ (ah _))) (iO O (fun hb=>aJ cF aA (aX hb O) O (by decide) (by decide) O) ?_);simp only[zz];refine pU O (fun hb u m=>aY (aX hb O) ((mD.cor ((hrow.ext m.ext)) (c:=2) (by decide)).lies aG aA)) (iO O (fun hb=>aH) (iO O (fun hb=>aH) ?_));simp only[zz];refine iO O (fun hb=>aF cD aP (aX hb O) (aX hb O) (by omega) (by omega) (bZ (ah _))) (iO O (fun hb=>aJ cF aA (aX hb O) O (by decide) (by decide) O) ?_);simp only[zz];refine pU O (fun hb u m=>aY (aX hb O) ((mD.cor ((hrow.ext m.ext)) (c:=0) (by decide)).lies aG aA)) (iO O (fun hb=>cB (aX hb O) (aX hb O)) (aI (cC O O O) (bC ?_)));intro u m;refine gc ?_;simp only[zz];refine gE O ?_ ?_<;>intro hc2
   ·
    have hd:=Ho (p:=wV) ht (Xs.symm.trans hc2);apply aK 5 [] m;simp only[↓aD];refine aT O O ?_;try simp only[zD,zE]
    exact⟨_,O,m.ext,by rw[aey hd]⟩
   ·
    have hd1:(ts.take (k+1)).any wV=false:=by rw[wW ht,hd0,←Xs];exact hc2
    apply aK 7 [0] m;simp only[↓aD];refine⟨by omega,?_⟩;exact hK1 (N-(k+1)) _ _ (by omega) (by kernel_rfl) ⟨k+1,O,m,hd1,by omega,O⟩
  ·
   have hkN:k=N:=by omega
   rw[hkN,show ts.take N=ts from ay (by omega)] at hd0;apply aK 4 [0] m;simp only[↓aD];refine bH O O (aes _ (hT.ext m.ext) (by omega)) ?_;rintro v u e_ ⟨A3,cap3,n3,hn3,rfl,h_⟩;replace m:=m.newO e_ h_;have hle3:=(m.o 0 rfl).le;apply aL 8 [0] m;simp only[↓aD];refine bX [7] [4,56,57,58,59,60,61,62,63,64,65,66,67,68] (fun n vs wl=>∃(k:Nat),vs=[.int .i64 (k:Int)]∧Mem w wl [oI 56 6 A3 n3 cap3 ((bE ts).flatMap cY)]∧(((bE ts).take k).any (fun e=>decide (1<lV (bE ts) e))=false)∧(k≤n3)∧(n=n3-k)) ?_ ?_
   ·
    exact⟨_,0,O,m,O,bw _,O⟩
   ·
    intro n vs wr hI u K2 hK2;obtain⟨k,rfl,m,hc0,hk,hn⟩:=hI;simp only[zu,zF,zG];apply aK 8 [0,0] m;simp only[↓aD,Vy];refine bD O ?_ ?_<;>intro hc3
    ·
     obtain⟨e,he⟩:∃e,(bE ts)[k]? = some e:=⟨_,am (by omega)⟩
     obtain⟨gO,rfl⟩:=(m.o 0 rfl).some (by omega);apply aK 8 [0] m;simp only[↓aD];refine aC (aF oB iV O O (by omega) (by omega) (bZ (ah _))) ?_;simp only[zz];refine aS O (((m.o 0 O).at Nh he).lies Ft iV) ?_;simp only[zz];refine cQ m O O (Ny (es:=bE ts) (e:=e) _ ((m.o 0 O).lat Nh (by decide)) (by omega)) ?_;rintro v u m rfl;apply aL 2 [0,0] m;simp only[↓aD];refine bD O ?_ ?_<;>intro hc4
     ·
      have hc:=Ho (p:=(fun e=>decide (1<lV (bE ts) e))) he (decide_eq_true (gt1.1 hc4));apply aK 5 [] m;simp only[↓aD];refine aT O O ?_;try simp only[zD,zE]
      exact⟨_,O,m.ext,by rw[aez hd0 hc]⟩
     ·
      have hc01:((bE ts).take (k+1)).any (fun e=>decide (1<lV (bE ts) e))=false:=by rw[wW he,hc0,decide_eq_false (fun h=>hc4 (gt1.2 h))];rfl
      apply aK 7 [0] m;simp only[↓aD];refine⟨by omega,?_⟩;exact hK2 (n3-(k+1)) _ _ (by omega) (by kernel_rfl) ⟨k+1,O,m,hc01,by omega,O⟩
    ·
     have hkN:k=(bE ts).length:=by omega
     rw[hkN,fi] at hc0;apply aK 18 [0] m;simp only[↓aD,Bool.not_true,fj];refine bH O O (afL _ (hT.ext m.ext) hN) ?_;rintro v u e_ ⟨A8,cap8,n8,hn8,rfl,h_⟩;replace m:=m.newO e_ h_;have hle8:=(m.o 0 rfl).le;apply aL 8 [0] m;simp only[↓aD];refine bX [9] [4,10,79,80,81,82,83,84,85,86,87,88,89,90,91] (fun n vs wl=>∃(k:Nat),vs=[.int .i64 (k:Int)]∧Mem w wl [oI 30 3 A8 n8 cap8 ((dY ts).flatMap lB)]∧(((dY ts).take k).any (Hn ts)=false)∧(k≤n8)∧(n=n8-k)) ?_ ?_
     ·
      exact⟨_,0,O,(m.sel [true,false]),O,bw _,O⟩
     ·
      intro n vs wr hI u K3 hK3;obtain⟨k,rfl,m,hp0,hk,hn⟩:=hI;simp only[zu,zF,zG];apply aK 8 [0,0] m;simp only[↓aD,kC];refine bD O ?_ ?_<;>intro hc6
      ·
       obtain⟨x,hx⟩:∃x,(dY ts)[k]? = some x:=⟨_,am (by omega)⟩
       obtain⟨gO,rfl⟩:=(m.o 0 rfl).some (by omega);apply aK 8 [0] m;simp only[↓aD];refine aC (aF cN aA O O (by omega) (by omega) (bZ (ah _))) ?_;simp only[zz];refine aS O (((m.o 0 O).at yC hx).lies aG aA) ?_;simp only[zz];refine cQ m O O (afM (p:=x) _ (hT.ext m.ext) (by omega)) ?_;rintro v u m rfl;apply aL 6 [0] m;simp only[↓aD];refine gE O ?_ ?_<;>intro hc7
       ·
        have hp:=Ho (p:=Hn ts) hx hc7;apply aK 5 [] m;simp only[↓aD];refine aT O O ?_;try simp only[zD,zE]
        exact⟨_,O,m.ext,by rw[aeA hd0 hc0 O hp]⟩
       ·
        have hp1:((dY ts).take (k+1)).any (Hn ts)=false:=by rw[wW hx,hp0,hc7];rfl
        apply aK 7 [0] m;simp only[↓aD];refine⟨by omega,?_⟩;exact hK3 (n8-(k+1)) _ _ (by omega) (by kernel_rfl) ⟨k+1,O,m,hp1,by omega,O⟩
      ·
       have hkN:k=(dY ts).length:=by omega
       rw[hkN,fi] at hp0;apply aK 6 [] m;simp only[↓aD];refine aT O O ?_;try simp only[zD,zE]
       exact⟨_,O,m.ext,by rw[ai7 hd0 hc0 O hp0]⟩
theorem Zc(w:aj)(hT:bU w A N ts)(hN:N≤100000000):dA prog 30 [.slice A N cap] w (fun v _=>v=.int .i64 (fW true ts)):=by
 refine⟨bJ func30 (by kernel_rfl),?_⟩;have m:=Mem.refl w
 go_enter func30,ntmps30
 apply fI 7 [0] m;simp only[↓aD];refine cQ m O O (amd _ (hT.ext m.ext) hN) ?_;rintro v u m rfl;apply aL 3 [] m;simp only[↓aD];exact aT O O ⟨_,O,m.ext,O⟩
theorem ai8{t:T3}:dS prog 234 [tr t] (.agg #[.int .i64 t.a.x,.int .i64 t.a.y,.int .i64 t.a.z,.int .i64 t.b.x,.int .i64 t.b.y,.int .i64 t.b.z,.int .i64 t.b.x,.int .i64 t.b.y,.int .i64 t.b.z,.int .i64 t.c.x,.int .i64 t.c.y,.int .i64 t.c.z,.int .i64 t.c.x,.int .i64 t.c.y,.int .i64 t.c.z,.int .i64 t.a.x,.int .i64 t.a.y,.int .i64 t.a.z]):=by
 intro w;refine⟨bJ func234 (by kernel_rfl),?_⟩;have m:=Mem.refl w
 go_enter func234,ntmps234
 apply iY 23 [1,1,1,1,1,1] m;simp only[↓aD,aoP,bR,aQ,Lf,aoQ,ad,ag,aa];intro g1 g2;refine⟨by omega,?_⟩;intro u m;apply Nu 3 [0] m;simp only[↓aD,aoO,aa];intro u m;exact aT O ⟨_,O,((m.b 0 O).full alk afh)⟩ ⟨_,O,m.ext,O⟩
theorem ao4{e:E3}:dS prog 236 [ed e] (ed (e.2,e.1)):=by
 intro w;refine⟨bJ func236 (by kernel_rfl),?_⟩;have m:=Mem.refl w
 go_enter func236,ntmps236
 apply iY 15 [1,1,0] m;simp only[↓aD,Cl,Cm,aQ,Rj,Lf,uW,aa];intro g1 g2 u m;exact aT O ⟨_,O,((m.b 0 O).full Dk qY)⟩ ⟨_,O,m.ext,O⟩
theorem adb{e:E3}(h:(!!(cL (fZ [] E) e).getD false)=true):false=decide (E++[e]).Nodup:=by
 rw[Bool.not_not] at h;exact (decide_eq_false fun k=>(Fx.1 k).2 (aaQ.1 h)).symm
theorem Zd{e:E3}{b:Bool}(hb:b=decide E.Nodup)(h:(!!(cL (fZ [] E) e).getD false)=false):b=decide (E++[e]).Nodup:=by
 rw[Bool.not_not] at h;rw[hb,decide_eq_decide,Fx];exact⟨fun k=>⟨k,fun h2=>by rw[aaQ.2 h2] at h;cases h⟩,And.left⟩
theorem mH{K:Type}[DecidableEq K](ks:List K)(k:K):fZ [] (ks++[k])=fP (fZ [] ks) k true:=ahW [] ks [k]
theorem Rw(w:aj)(hT:bU w A N ts)(hN:N≤10000000):dA prog 164 [.slice A N cap] w (fun v w'=>∃g es c,v=.tuple #[.map (some g),.bool (decide (bE ts).Nodup)]∧Mem w w' [mI g es c]∧bT ed bj (fZ [] (bE ts)) es c):=by
 refine⟨bJ func164 (by kernel_rfl),?_⟩;have m:=Mem.refl w
 go_enter func164,ntmps164
 apply fI 7 [0] m;simp only[↓aD];refine lZ m ?_;intro q8 u m;have hD8:=bT.nil (K:=E3) (V:=Bool) ed bj;apply aL 14 [0] m;simp only[↓aD,iM];refine bX [5,13] [7,9,14,15,16,17,18,19,20,21,22,23,24,25,26,27] (fun n vs wl=>∃(k:Nat) (es:Array ck) (c:Nat) (b:Bool),vs=[.bool b,.int .i64 (k:Int)]∧Mem w wl [mI q8 es c]∧(bT ed bj (fZ [] (bE (ts.take k))) es c)∧(b=decide (bE (ts.take k)).Nodup)∧(k≤N)∧(n=N-k)) ?_ ?_
 ·
  exact⟨_,0,_,_,true,O,m,hD8,O,bw _,O⟩
 ·
  intro n vs wr hI u K1 hK1;obtain⟨k,es,c,b0,rfl,m,hD8,hb0,hk,hn⟩:=hI;simp only[zu,zF,zG];apply aK 5 [0,0] m;simp only[↓aD];refine bD O ?_ ?_<;>intro hc1
  ·
   obtain⟨t,ht,_,a,rfl,hrow⟩:=hT.get (i:=k) (by omega);apply aK 5 [0] m;simp only[↓aD];refine aC (aF cD aP O O (by omega) (by omega) (bZ (ah _))) ?_;simp only[zz];refine aS O ((hrow.ext m.ext).lies cA aP) ?_;simp only[zz];apply jS 6 [0,0,0] m;simp only[↓aD,lM,eA,aa];intro g2 u m;refine nF m O O ai8 16 [4,1,0] ?_;simp only[↓aD];refine⟨by omega,?_⟩;intro u m;refine aC (To O O) ?_;apply jS 7 [0,0,0] m;simp only[↓aD,Cl,uW,aa];intro g3 u m;refine mL m 2 Xt O O (fun m=>Zb (p:=(t.a,t.b)) m 2 O hD8) ?_;rintro v i u m ⟨rfl,es',c',rfl,hD'⟩;simp only[zF,zG] at m;simp only[zz];rw[←mH] at hD';clear hD8;have hD8:=hD';clear hD';apply aL 2 [0] m;simp only[↓aD];refine Qg m [5] [] (fun vs=>∃(b:Bool),vs=[.bool b]∧(b=decide (((bE (ts.take k))++[(t.a,t.b)])).Nodup)) ?_ ?_
   ·
    intro K2 hK2;refine cR O ?_ ?_<;>intro hc3
    ·
     apply aK 3 [0] m;simp only[↓aD];exact hK2 _ _ (by kernel_rfl) m ⟨false,O,adb hc3⟩
    ·
     skip
     apply aK 1 [0] m;simp only[↓aD];exact hK2 _ _ (by kernel_rfl) m ⟨b0,O,Zd hb0 hc3⟩
   ·
    intro vs wr m hI u;obtain⟨b1,rfl,hb1⟩:=hI;simp only[zu,zF,zG];apply aU 17 [1,0] m;simp only[↓aD,ak];refine⟨by omega,?_⟩;refine aC (Tp O O) ?_;apply jS 7 [0,0,0] m;simp only[↓aD,Cl,uW,aa];intro g4 u m;refine mL m 3 Xt O O (fun m=>Zb (p:=(t.b,t.c)) m 3 O hD8) ?_;rintro v i u m ⟨rfl,es',c',rfl,hD'⟩;simp only[zF,zG] at m;simp only[zz];rw[←mH] at hD';clear hD8;have hD8:=hD';clear hD';apply aL 2 [0] m;simp only[↓aD];refine Qg m [5] [] (fun vs=>∃(b:Bool),vs=[.bool b]∧(b=decide ((((bE (ts.take k))++[(t.a,t.b)])++[(t.b,t.c)])).Nodup)) ?_ ?_
    ·
     intro K3 hK3;refine cR O ?_ ?_<;>intro hc3
     ·
      apply aK 3 [0] m;simp only[↓aD];exact hK3 _ _ (by kernel_rfl) m ⟨false,O,adb hc3⟩
     ·
      skip
      apply aK 1 [0] m;simp only[↓aD];exact hK3 _ _ (by kernel_rfl) m ⟨b1,O,Zd hb1 hc3⟩
    ·
     intro vs wr m hI u;obtain⟨b2,rfl,hb2⟩:=hI;simp only[zu,zF,zG];apply aU 17 [1,0] m;simp only[↓aD,ak];refine⟨by omega,?_⟩;refine aC (Tq O O) ?_;apply jS 7 [0,0,0] m;simp only[↓aD,Cl,uW,aa];intro g5 u m;refine mL m 4 Xt O O (fun m=>Zb (p:=(t.c,t.a)) m 4 O hD8) ?_;rintro v i u m ⟨rfl,es',c',rfl,hD'⟩;simp only[zF,zG] at m;simp only[zz];rw[←mH] at hD';clear hD8;have hD8:=hD';clear hD';apply aL 2 [0] m;simp only[↓aD];refine Qg m [5] [] (fun vs=>∃(b:Bool),vs=[.bool b]∧(b=decide (((((bE (ts.take k))++[(t.a,t.b)])++[(t.b,t.c)])++[(t.c,t.a)])).Nodup)) ?_ ?_
     ·
      intro K4 hK4;refine cR O ?_ ?_<;>intro hc3
      ·
       apply aK 3 [0] m;simp only[↓aD];exact hK4 _ _ (by kernel_rfl) m ⟨false,O,adb hc3⟩
      ·
       skip
       apply aK 1 [0] m;simp only[↓aD];exact hK4 _ _ (by kernel_rfl) m ⟨b2,O,Zd hb2 hc3⟩
     ·
      intro vs wr m hI u;obtain⟨b3,rfl,hb3⟩:=hI;simp only[zu,zF,zG];apply aU 18 [2,0] m;simp only[↓aD,ak];refine⟨by omega,?_⟩;exact hK1 (N-(k+1)) _ _ (by omega) (by kernel_rfl) ⟨k+1,_,_,b3,O,(m.sel [false,false,false,false,true]),by rw[uD ht];simpa[dl] using hD8,by rw[hb3,uD ht];simp only[dl,cj,b_],by omega,rfl⟩
  ·
   have hkN:k=N:=by omega
   rw[hkN,show ts.take N=ts from ay (by rw[hT.len];exact av _)] at hD8 hb0;apply aK 9 [] m;simp only[↓aD];refine uA O O O ?_;try simp only[zD,zE]
   exact⟨_,O,m.ext,_,_,_,by rw[hb0],m,hD8⟩
theorem ao5{dn:List (E3 × Bool)}{kb:Bool}(h:(!(cL (fZ [] E) (kp.2,kp.1)).getD false)=true):((dn++[(kp,kb)]).map (·.1)).filter (fun e=>decide ((e.2,e.1)∉E))=(dn.map (·.1)).filter (fun e=>decide ((e.2,e.1)∉E))++[kp]:=by
 rw[rV] at h;simp only[cv,gj,bh,cq];rw[List.filter_cons_of_pos (by simpa using h)];rfl
theorem ao6{dn:List (E3 × Bool)}{kb:Bool}(h:(!(cL (fZ [] E) (kp.2,kp.1)).getD false)=false):((dn++[(kp,kb)]).map (·.1)).filter (fun e=>decide ((e.2,e.1)∉E))=(dn.map (·.1)).filter (fun e=>decide ((e.2,e.1)∉E)):=by
 rw[rV] at h;simp only[cv,gj,bh,cq];rw[List.filter_cons_of_neg (by simpa using h)];simp
theorem ai9{dn:List (E3 × Bool)}(h:dn.Perm (fZ [] E)):(∀a,a∈(dn.map (·.1)).filter (fun e=>decide ((e.2,e.1)∉E))↔a∈E∧(a.2,a.1)∉E)∧((dn.map (·.1)).filter (fun e=>decide ((e.2,e.1)∉E))).length≤E.length:=by
 refine⟨fun a=>?_,?_⟩
 ·
  rw[c_,(h.map (·.1)).mem_iff,uL];simp
 ·
  refine ba (fm _ _) ?_;have:=pA E [];rw[List.length_map,h.length_eq];simpa using this
theorem af0{g c:Nat}{es:Array ck}(w:aj)(hM:jO w g es c)(hD:bT ed bj (fZ [] E) es c):dA prog 165 [.map (some g)] w (fun v w'=>∃g es c ks,v=.map (some g)∧Mem w w' [mI g es c]∧bT ed bj (fZ [] ks) es c∧(∀a,a∈ks↔a∈E∧(a.2,a.1)∉E)∧ks.length≤E.length):=by
 refine⟨bJ func165 (by kernel_rfl),?_⟩;have m:=Mem.refl w
 go_enter func165,ntmps165
 apply fI 6 [0] m;simp only[↓aD];refine lZ m ?_;intro q8 u m;have hD8:=bT.nil (K:=E3) (V:=Bool) ed bj;apply aL 6 [0] m;simp only[↓aD];refine wE m underlying208 O (hM.ext m.ext) ?_;intro r1 u m;apply aL 2 [0] m;simp only[↓aD];refine bX [] [4,8,9,10,11,12,13,14,15,16,17,18,19] (fun n vs wl=>∃(dn rs:List (E3 × Bool)) (sn:Array Nat) (es2:Array ck) (c2:Nat),vs=[]∧Mem w wl [iI r1 g c sn,mI q8 es2 c2]∧(bT ed bj (fZ [] ((dn.map (·.1)).filter (fun e=>decide ((e.2,e.1)∉E)))) es2 c2)∧(oC ed bj (fZ [] E) es sn dn rs)∧(n=rs.length)) ?_ ?_
 ·
  exact⟨_,[],fZ [] E,#[],_,_,O,m,hD8,oC.start hD,O⟩
 ·
  intro n vs wr hI u K1 hK1;obtain⟨dn,rs,sn,es2,c2,rfl,m,hD8,hT,hn⟩:=hI;simp only[zu,zF,zG];apply aK 2 [0] m;simp only[↓aD];refine Ml m 0 O O (hM.ext m.ext) hD hT ?_;intro bb kk vv sn u m hN;simp only[zF,zG] at m;refine aC (pX O) ?_;apply aL 2 [0] m;simp only[↓aD];refine cR O ?_ ?_<;>intro hc1
  ·
   obtain⟨kp,kb,rs2,hp,hT2⟩:=Hx hc1 hN;apply aK 4 [0] m;simp only[↓aD];refine fO (tM O (m.r 0 O) (hM.ext m.ext) hD hT2) ?_;simp only[zz];apply jS 8 [0,0,0] m;simp only[↓aD,Cl,uW,aa];intro g3 u m;refine lD m O O ao4 ?_;intro u m;simp only[zz];refine fO (eH (ek:=ed) (en:=bj) (k:=(kp.2,kp.1)) (v0:=false) underlying208 oN Cq O O (hM.ext m.ext) hD) ?_;simp only[zz];apply aL 2 [0] m;simp only[↓aD];refine cR O ?_ ?_<;>intro hc2
   ·
    apply aK 3 [0,0] m;simp only[↓aD,uW];refine mL m 2 Xt O O (fun m=>Zb (p:=kp) m 2 O hD8) ?_;rintro v i u m ⟨rfl,es',c',rfl,hD'⟩;simp only[zF,zG] at m;simp only[zz];rw[←mH] at hD';clear hD8;have hD8:=hD';clear hD';apply aL 2 [0] m;simp only[↓aD];exact hK1 rs2.length _ _ (by rw[hn,hp.length_eq];exact fc _) (by kernel_rfl) ⟨dn++[(kp,kb)],rs2,_,_,_,O,(m.sel [false,true,true]),by rw[ao5 hc2];exact hD8,hT2,O⟩
   ·
    apply aK 2 [0] m;simp only[↓aD];exact hK1 rs2.length _ _ (by rw[hn,hp.length_eq];exact fc _) (by kernel_rfl) ⟨dn++[(kp,kb)],rs2,_,_,_,O,(m.sel [false,true,true]),by rw[ao6 hc2];exact hD8,hT2,O⟩
  ·
   obtain rfl:=Hw hc1 hN;apply aK 7 [] m;simp only[↓aD];exact aT O O ⟨_,O,m.ext,_,_,_,_,O,m.sel [false,true],hD8,ai9 hT.done⟩
theorem af1{ks ps:List E3}(hk:∀a,a∈ks↔a∈bE ts∧(a.2,a.1)∉bE ts)(hp:ps.Perm ((fZ [] ks).map (·.1)))(hs:ps.Pairwise fun a b=>¬Mo b a):ps=bK ts:=by
 refine aaO ?_ (Tw ts) fun a=>?_
 ·
  have hn:ps.Nodup:=hp.nodup_iff.2 (Fw _ _ .nil);refine List.Pairwise.imp₂ (fun a b (h:¬Mo b a) (k:a≠b)=>?_) hs hn;rcases Mo.tri a b with h1 | h1 | h1
  · exact h1
  · exact absurd h1 k
  · exact absurd h1 h
 ·
  rw[hp.mem_iff,uL,acC,hk];simp
theorem af2(w:aj)(hT:bU w A N ts)(hN:N≤10000000):dA prog 98 [.slice A N cap] w (SL 56 6 ((bK ts).flatMap cY) (bK ts).length w):=by
 refine⟨bJ func98 (by kernel_rfl),?_⟩;have m:=Mem.refl w;have htl:=hT.len;have hel:=qW ts
 go_enter func98,ntmps98
 apply fI 7 [0] m;simp only[↓aD];refine bH O O (Rw _ (hT.ext m.ext) (by omega)) ?_;rintro v u e_ ⟨g8,es8,c8,rfl,hM,hD8⟩;replace m:=m.plus hM;clear hM;simp only[cj,b_] at m;apply aL 8 [0] m;simp only[↓aD];refine aC aO ?_;replace m:=m.nilO 56 6;apply aL 5 [0] m;simp only[↓aD];refine bH O O (af0 _ (m.p 1 O) hD8) ?_;rintro v u e_ ⟨g9,es9,c9,ks,rfl,hM,hD9,hks,hkl⟩;replace m:=m.plus hM;clear hM;simp only[cj,b_] at m;simp only[zz];refine bH O O (afZ _ (m.p 0 O) hD9 (by have h1:=pA ks [];simp only[bn] at h1;omega)) ?_;rintro v u e_ ⟨A5,n5,cap5,_,rfl,h_,ps,rfl,hps,hso⟩;replace m:=m.newO e_ h_;obtain rfl:=af1 hks hps hso;obtain rfl:(bK ts).length=n5:=(m.o 0 rfl).num Nh (by decide);have hle5:=(m.o 0 rfl).le;have hbl:(bK ts).length≤(bE ts).length:=by have:=Hm (all:=bE ts) (bE ts) [];simpa[bK] using this
 apply aL 4 [0] m;simp only[↓aD,aoE];refine bX [5,17] [7,18,19,20,21,22,23,24,25,26,27,28,29] (fun n vs wl=>∃(k:Nat) (A6:Option Addr) (cap6:Nat),vs=[.slice A6 k cap6,.int .i64 (k:Int)]∧Mem w wl [oI 215 6 A5 (bK ts).length cap5 ((bK ts).flatMap cY),oI 56 6 A6 k cap6 (((bK ts).take k).flatMap cY)]∧(k≤(bK ts).length)∧(n=(bK ts).length-k)) ?_ ?_
 ·
  exact⟨_,0,_,_,O,(m.sel [true,false,true,false]),bw _,O⟩
 ·
  intro n vs wr hI u K1 hK1;obtain⟨k,A6,cap6,rfl,m,hk,hn⟩:=hI;simp only[zu,zF,zG];apply aK 5 [0,0] m;simp only[↓aD];refine bD O ?_ ?_<;>intro hc1
  ·
   obtain⟨e,he⟩:∃e,(bK ts)[k]? = some e:=⟨_,am (by omega)⟩
   obtain⟨gO,rfl⟩:=(m.o 0 rfl).some (by omega);apply aK 5 [0] m;simp only[↓aD];refine aC (aF underlying212 qY O O (by omega) (by omega) (bZ (ah _))) ?_;simp only[zz];refine aS O (((m.o 0 O).at Nh he).lies Dk qY) ?_;simp only[zz];apply jS 10 [0,0,0,0] m;simp only[↓aD,Cl,uW,Rj,aQ,Cm,Fe,aa];intro g1 u m;refine Km O ?_;intro u g2 e_ h_ k_;replace m:=m.newB e_ h_ k_;simp only[zz];refine bM m 3 O O oB Bo O (by decide) O O O (m.b 0 O).rowsO (fV O) (by omega) (by omega) ?_;intro A6 cap6 u m;simp only[zF,zG] at m;apply aL 7 [0] m;simp only[↓aD];refine⟨by omega,?_⟩;exact hK1 ((bK ts).length-(k+1)) _ _ (by omega) (by kernel_rfl) ⟨k+1,_,_,O,((m.reO 3 O ((m.o 3 O).as (by rw[cH he,a_];rfl))).sel [false,false,true,true]),by omega,rfl⟩
  ·
   obtain rfl:k=(bK ts).length:=by omega
   rw[fi] at m;apply aK 7 [] m;simp only[↓aD];exact aT O O ⟨_,O,m.ext,⟨_,_,_,O,O,(m.o 1 O)⟩⟩
end Go.Proofs.YtfekpcimgncioaaGreatDoor
namespace Go.Lith
open Go.RowKit Go.ChangeMaps Go.MapKept
def ame{K V:Type}[DecidableEq K](ek:K→ai)(en:V→ai)(D:List (K × V))(k:K)(es:Array ck)(c b:Nat):Prop :=
 ∀u,∃p,es.findIdx? (fun e=>(e.born:Int) == (b:Int))=some p∧bT ek en (fP D k u) (es.modify p fun e=>{ e with val:=en u }) c
section
variable {K V:Type} [DecidableEq K] {P:Program} {T M E ty:TypeId} {ek:K→ai} {en:V→ai} {w w0:aj} {g c:Nat} {es:Array ck} {D:List (K × V)}
theorem ao7{α:Type}{l:List α}{p:Nat}{x:α}(h:l[p]? = some x):l.set p x=l:=by
 apply List.ext_getElem?;intro j;rw[List.getElem?_set];split
 · rename_i e;subst e;rw[if_pos (List.getElem?_eq_some_iff.1 h).1,h]
 · rfl
theorem abm{b p:Nat}(hn:(es.toList.map (·.born)).Nodup){e:ck}(he:es[p]? = some e)(hb:e.born=b):es.findIdx? (fun e=>(e.born:Int) == (b:Int))=some p:=by
 rw[Array.findIdx?_eq_some_iff_getElem];have hp:=(dz.1 he).1;have hx:=(dz.1 he).2;refine⟨hp,by rw[hx,hb];simp,fun j hj=>?_⟩;have hj':j<es.size:=by omega
 simp only[Bool.not_eq_true,beq_eq_false_iff_ne,ne_eq,Int.natCast_inj];intro hh;have h1:(es.toList.map (·.born))[j]'(by simpa using hj')=(es.toList.map (·.born))[p]'(by simpa using hp):=by
  simp only[List.getElem_map,Array.getElem_toList];rw[hh,hx,hb]
 have:=(List.getElem_inj hn).1 h1;omega
theorem adc{p:Nat}{e:ck}(he:es[p]? = some e)(k u:ai)(hk:e.key=k):(es.modify p fun e=>{ e with val:=u })=es.modify p fun e=>{ e with key:=k,val:=u }:=by
 apply ki;intro j;rw[jq,jq];split
 · rename_i hj;subst hj;rw[he];simp[hk]
 · rfl
theorem amf(hD:bT ek en D es c){p:Nat}{k:K}{v:V}(hp:D[p]? = some (k,v)):∃e,es[p]? = some e∧e.key=ek k∧e.val=en v:=by
 have h2:=congrArg (fun L=>L[p]?) hD.cells;simp only[List.getElem?_map,hp,fl] at h2;rw[Array.getElem?_toList] at h2;cases h3:es[p]? with
 | none=>rw[h3] at h2;cases h2
 | some x =>
  rw[h3] at h2;simp only[fl,Option.some.injEq,Tu,Prod.mk.injEq] at h2;exact⟨x,O,h2.1,h2.2⟩
theorem Ub{v0:V}(hu:P.underlying M=some (.map T E))(hz:nU P E (en v0))(kt:sM P T ek)(hM:jO w g es c)(hD:bT ek en D es c)(k:K) :
 ∃es' c' b,(Instr.mapEntry M (.map (some g)) (ek k)).run P w=.ok (.tuple #[en ((cL D k).getD v0),.int .i64 (b:Nat)]) (setBlock w g (.map es' c'))∧bT ek en (fP D k ((cL D k).getD v0)) es' c'∧ame ek en D k es' c' b:=by
 unfold jO at hM;cases hf:qQ D k 0 with
 | none =>
  obtain⟨h0,h1,_⟩:=qZ D k 0 hf;obtain⟨inf,hi,hz⟩:=hz;have hzv:(zeroValue E).run P w=.ok (en v0) w:=by simp[zeroValue,typeInfo,program,Sem.run,hi,hz]
  have hP:=hD.push k v0;refine⟨_,_,c,?_,by rw[h0,h1];exact hP,fun u=>⟨es.size,abm hP.nd (e:={ key:=ek k,val:=en v0,born:=c }) (by simp) O,?_⟩⟩
  · simp only[Instr.mapEntry,Sem.run_bind,run_underlying hu,Result.andThen,getObj,Sem.run,hM,Sem.run_pure,kt.chk,uI kt k w hD,hf,Option.map_none,hzv,run_setObj_map _ hM,h0,lj,goInt]
    rfl
  · rw[h1]
    have e:((es.push { key:=ek k,val:=en v0,born:=c }).modify es.size fun e=>{ e with val:=en u })=es.push { key:=ek k,val:=en u,born:=c }:=by
     apply ki;intro j;rw[jq,Array.getElem?_push,Array.getElem?_push];split
     · rename_i hj;subst hj;simp
     · rename_i hj;simp[Ne.symm hj]
    rw[e];exact hD.push k u
 | some p =>
  obtain⟨j,v⟩:=p;obtain⟨p,rfl,hp,h0,h1,_⟩:=mY D k 0 j v hf;rw[aq] at hf;obtain⟨e,he,hk,hv⟩:=amf hD hp;have hk':((es[p]?).map (·.key)).getD (ek k)=ek k:=by rw[he];simp[hk]
  have hm:(es.modify p fun e=>{ e with key:=ek k })=es:=by
   apply ki;intro j;rw[jq];split
   · rename_i hj;subst hj;rw[he];simp[←hk]
   · rfl
  refine⟨es,c,e.born,?_,by rw[h0,df,h1,ao7 hp];exact hD,fun u=>⟨p,abm hD.nd he O,?_⟩⟩
  · simp only[Instr.mapEntry,Sem.run_bind,run_underlying hu,Result.andThen,getObj,Sem.run,hM,Sem.run_pure,kt.chk,uI kt k w hD,hf,fl,hk',Instr.keyThatStays,kt.bits,if_true,hm,run_setObj_map _ hM,h0,df,he,hk,kt.bits,if_true,Sem.run_pure,hm,goInt]
    rfl
  · rw[h1,adc he (ek k) (en u) hk]
    exact hD.set hp u
theorem Nm{b:Nat}{k:K}(hM:jO w g es c)(hS:ame ek en D k es c b)(u:V) :
 ∃es',(Instr.entryStore M (.map (some g)) (.int .i64 (b:Nat)) (en u)).run P w=.ok () (setBlock w g (.map es' c))∧bT ek en (fP D k u) es' c:=by
 obtain⟨p,hp,hD⟩:=hS u;unfold jO at hM;refine⟨_,?_,hD⟩;simp only[Instr.entryStore,Sem.run_bind,Result.andThen,getObj,Sem.run,hM,Sem.run_pure,asInt,asIntOf,hp];exact run_setObj_map _ hM
theorem amg{ds:List Deferred}{l:List ai}{op:Op}{ops:Array Oper}{Q:Exit→Act→aj→Prop}{rest:List Oper}{pos:String}{after:Array Edge}
 (h:∀o:Oper,o.op=op→∃v w',(execOp (Fr l).eval o).run P w=.ok (.value v) w'∧ar P ops Q rest (Fr l ds) w'):ar P ops Q (bm none op ty pos after none::rest) (Fr l ds) w:=by
 refine wpList_plain O fun K hK=>?_;unfold Oper.wp;obtain⟨v,w',hr,hw⟩:=h (bm none op ty pos after none) rfl;rw[kI,hr];exact hK _ _ hw
variable {is:List It} {ds:List Deferred} {l:List ai} {x y z:Operand} {ops:Array Oper} {Q:Exit→Act→aj→Prop} {rest:List Oper} {d:Nat} {pos:String} {after:Array Edge}
theorem yU{v0:V}{a:K}(m:Mem w0 w is)(k:Nat)(hk:is[k]? = some (mI g es c))(hu:P.underlying M=some (.map T E))(hz:nU P E (en v0))(kt:sM P T ek)(hx:ev l x=.map (some g))(hy:ev l y=ek a)(hD:bT ek en D es c)
 (h:∀es' c' b u,Mem w0 u (is.set k (mI g es' c'))→bT ek en (fP D a ((cL D a).getD v0)) es' c'→ame ek en D a es' c' b→ar P ops Q rest (Fr (l.set d (.tuple #[en ((cL D a).getD v0),.int .i64 (b:Nat)])) ds) u) :
 ar P ops Q (bm (some d) (.mapEntry M x y) ty pos after none::rest) (Fr l ds) w:=by
 have hM:=m.p k hk;obtain⟨es',c',b,hr,hD',hS⟩:=Ub hu hz kt hM hD a;have hC:=pW (w:=w) (g:=g) (.map es' c');refine mJ (w':=setBlock w g (.map es' c')) (fun o ho hty=>by simp[execOp,ho,hty,cK,hx,hy,hr]) (h es' c' b _ ?_ hD' hS);exact m.put k hk hC.os hC.tape hC.output (by rw[hC.size];exact av _) (fun b _ hne=>hC.block b fun e=>hne (by rw[e];rfl)) (kB hM) (.inl fun _ h=>h)
theorem qB{v:V}{a:K}{b:Nat}(m:Mem w0 w is)(k:Nat)(hk:is[k]? = some (mI g es c))(hx:ev l x=.map (some g))(hy:ev l y=.int .i64 (b:Nat))(hz:ev l z=en v)(hS:ame ek en D a es c b)
 (h:∀es' u,Mem w0 u (is.set k (mI g es' c))→bT ek en (fP D a v) es' c→ar P ops Q rest (Fr l ds) u):ar P ops Q (bm none (.entryStore M x y z) ty pos after none::rest) (Fr l ds) w:=by
 have hM:=m.p k hk;obtain⟨es',hr,hD'⟩:=Nm (P:=P) (M:=M) hM hS v;have hC:=pW (w:=w) (g:=g) (.map es' c);refine Gy (w':=setBlock w g (.map es' c)) (fun o ho=>by simp[execOp,ho,cK,hx,hy,hz,hr]) (h es' _ ?_ hD');exact m.put k hk hC.os hC.tape hC.output (by rw[hC.size];exact av _) (fun b _ hne=>hC.block b fun e=>hne (by rw[e];rfl)) (kB hM) (.inl fun _ h=>h)
end
end Go.Lith
namespace Go.Proofs.YtfekpcimgncioaaGreatDoor
open Go.Proofs.Tryz
open Go.RowKit Go.Lith
set_option maxRecDepth 100000
attribute [local irreducible] ar cl fU bS cO Code.wp
attribute [local congr] pD gF gG gH gI gJ kL gK gL gM gN gQ gR gS gT gU gV gW eU eV gX gY iA iB iC kN dF dG cW dD gZ kM eW eX eY iD iE kO
variable{K:Type}{s a y:P3}{z N cap:Nat}{ts:List T3}{t:T3}
def sB(n:Nat):ai:=.int .i64 (n:Int)
theorem Lm{V:Type}[DecidableEq K](xs:List (K × V))(k:K)(v:V):Eh [] (xs++[(k,v)])=fP (Eh [] xs) k v:=ahX [] xs [(k,v)]
theorem tV[DecidableEq K](ks:List K)(k:K):wF [] (ks++[k])=fP (wF [] ks) k ((cL (wF [] ks) k).getD 0+1):=ahZ [] ks [k]
theorem abn[DecidableEq K](ks:List K)(k:K):(cL (wF [] ks) k).getD 0=vC ks k:=by rw[aaS];simp[cL]
theorem Oc[DecidableEq K](ks:List K)(k:K):(cL (wF [] ks) k).getD 0≤ks.length:=by rw[abn];exact fm _ _
theorem ao8{nx:P3→Option P3}{n:Nat}(h:¬a=s)(hb:nx a=some y):Cb nx s (n+1) a z=Cb nx s n y (z+1):=by rw[Cb,if_neg h,hb]
theorem amh{nx:P3→Option P3}{n:Nat}(hb:nx a=none):Cb nx s n a z=(a,z):=by
 cases n with
 | zero=>rfl
 | succ n=>rw[Cb,hb];split <;> rfl
theorem ao9{nx:P3→Option P3}{M:Nat}(hz:z≤M+1)(h:a=s∨¬z≤M):Cb nx s (M+1-z) a z=(a,z):=by
 rcases h with rfl | h
 · exact ah0
 · rw[show M+1-z=0 by omega];rfl
theorem apa{x:P3}:(¬x.x=y.x∨¬x.y=y.y∨¬x.z=y.z)↔¬x=y:=by
 rw[←yD];exact⟨fun h k=>h.elim (fun h=>h k.1) fun h=>h.elim (fun h=>h k.2.1) fun h=>h k.2.2,fun h=>by
  rcases Classical.em (x.x=y.x) with h1 | h1
  ·
   rcases Classical.em (x.y=y.y) with h2 | h2
   · exact .inr (.inr fun h3=>h ⟨h1,h2,h3⟩)
   · exact .inr (.inl h2)
  · exact .inl h1⟩
theorem aja{M:Nat}(h:(decide (¬(a.x=s.x∧a.y=s.y∧a.z=s.z))&&decide ((z:Int)≤(M:Int)))=false):a=s∨¬z≤M:=by
 rcases Classical.em (a=s) with k | k
 · exact .inl k
 ·
  refine .inr fun k4=>?_;rw[decide_eq_true (mt yD.1 k),decide_eq_true (Int.ofNat_le.2 k4)] at h;cases h
theorem ajb{es:Array ck}{sn:Array Nat}{dn:List (E3 × P3)}(h:oC ed pt (Eh [] (lS ts)) es sn dn [])(hnd:(bE ts).Nodup)(hno:∀y∈dn,¬Yi ts y.1)(e:E3):¬Yi ts e:=fun he=>by
 obtain⟨x,hx,_⟩:=id he;have h1:cL (Eh [] (lS ts)) e=some x:=by rw[←hx];exact Ia hnd e.1 e.2
 exact hno _ (h.done.mem_iff.2 (Bt h1)) he
theorem Wf(ts:List T3):(dT ts).length=ts.length*3:=pY ts
theorem ade{A:Option Addr}(w:aj)(hT:bU w A N ts)(hN:N≤10000000)(hnd:(bE ts).Nodup):dA prog 166 [.slice A N cap] w (fun v _=>v=.bool ((dY ts).any (Hn ts))):=by
 refine⟨bJ func166 (by kernel_rfl),?_⟩;have m:=Mem.refl w
 go_enter func166,ntmps166
 apply fI 6 [0] m;simp only[↓aD];refine lZ m ?_;intro q8 u m;have hD8:=bT.nil (K:=E3) (V:=P3) ed pt;apply aL 4 [0] m;simp only[↓aD];refine lZ m ?_;intro q9 u m;have hD9:=bT.nil (K:=P3) (V:=Nat) pt sB;apply aL 10 [0] m;simp only[↓aD,iM];refine bX [18] [6,7,8,19,20,21,22,23,24,25,26,27,28,29,30,31,32,33,34,35,36,37,38,39,40,41,42,43,44,45,46,47] (fun n vs wl=>∃(k:Nat) (es8 es9:Array ck) (c8 c9:Nat),vs=[.int .i64 (k:Int)]∧Mem w wl [mI q9 es9 c9,mI q8 es8 c8]∧(bT ed pt (Eh [] (lS (ts.take k))) es8 c8)∧(bT pt sB (wF [] (dT (ts.take k))) es9 c9)∧(k≤N)∧(n=N-k)) ?_ ?_
 ·
  exact⟨_,0,_,_,_,_,O,m,hD8,hD9,bw _,O⟩
 ·
  intro n vs wr hI u K1 hK1;obtain⟨k,es8,es9,c8,c9,rfl,m,hD8,hD9,hk,hn⟩:=hI;simp only[zu,zF,zG];apply aK 5 [0,0] m;simp only[↓aD];refine bD O ?_ ?_<;>intro hc1
  ·
   obtain⟨t,ht,_,a,rfl,hrow⟩:=hT.get (i:=k) (by omega);have hcl:=Wf (ts.take k);rw[bv] at hcl;apply aK 5 [0] m;simp only[↓aD];refine aC (aF cD aP O O (by omega) (by omega) (bZ (ah _))) ?_;simp only[zz];refine aS O ((hrow.ext m.ext).lies cA aP) ?_;simp only[zz];apply jS 8 [0,0] m;simp only[↓aD,lM,eA,aa];intro g3 u m;apply aU 15 [4,1,0] m;simp only[↓aD];refine⟨by omega,?_⟩;refine aC (tJ O O) ?_;apply jS 5 [0,0] m;simp only[↓aD,eS,aQ,aa];intro g4 u m;refine cU m 13 aB (by kernel_rfl) ?_;simp only[zy];refine dZ 4 [0] ?_;simp only[↓aD,aQ,ak];refine⟨by omega,?_⟩;refine aI (cP (m:=1) (n:=3) (r:=1) O O (by decide) (by decide)) (dZ 5 [1] ?_);simp only[↓aD,bR,aQ,Lf,ad,ag,aa,ak];refine⟨by omega,?_⟩;refine aI (cP (m:=2) (n:=3) (r:=2) O O (by decide) (by decide)) (dZ 2 [1] ?_);simp only[↓aD,bR,aQ,ad,ag,aa];refine⟨by omega,?_⟩;refine bC ?_;intro u m;refine nI (ek:=ed) (en:=pt) (a:=(t.a,t.b)) (v:=t.c) m 3 O Ll Cq O O O hD8 ?_;intro es8 c8 u m hD8;simp only[zF,zG] at m;rw[←Lm] at hD8;refine aM (gc ?_);refine iP m 2 [] [40,41,42,43,44,45] (fun vs i=>∃(es:Array ck) (c:Nat),vs=[]∧i=mI q9 es c∧(bT pt sB (wF [] (((dT (ts.take k))++[t.a]))) es c)) ?_ ?_
   ·
    intro K2 hK2;refine Uq m [true,true,false,true] (.take 0 (.take 1 (.two 2 (.take 3 (.one 4 (.take 5 (.one 6 .nil)))) 4 (.take 5 (.one 2 (.take 3 (.one 6 .nil))))))) aB (by kernel_rfl) (bQ (fun _ _ _ _ _ h=>h)) ?_;intro u m;have hb:=Oc (dT (ts.take k)) t.a;try simp only[au,aw,bn] at hb
    refine eP (by simp only[zw];rfl) (aZ aH (bY (eP (by simp only[zw];rfl) ?_)));simp only[zz];refine eE O (fun u m=>((m.b 0 O).full aG aA)) ?_;simp only[zz];refine bY ?_;refine aav (by simp only[zw];rfl) (by simp only[zw];rfl) ?_ ?_
    ·
     refine fO (eH (ek:=pt) (en:=sB) (k:=t.a) (v0:=0) oT lW gC O O (m.p 2 O) hD9) ?_;simp only[zz];refine aM ⟨m.sel [true,true,false,true],?_⟩;refine eP (by simp only[zw];rfl) (aZ (fC rfl rfl (bP (by omega) (by omega))) (bY (nN (by simp only[zw];rfl) ?_)));simp only[zz];refine yU (ek:=pt) (en:=sB) (a:=t.a) (v0:=0) m 2 O oT lW gC O O hD9 ?_;intro es9 c9 bs u m hD' hS;simp only[zF,zG] at m;refine aM ⟨m.sel [true,true,false,true],?_⟩;refine eP (by simp only[zw];rfl) (aZ (fG rfl rfl) (bY (nN (by simp only[zw];rfl) ?_)));simp only[zz];refine qB (ek:=pt) (en:=sB) (a:=t.a) (v:=(cL (wF [] (dT (ts.take k))) t.a).getD 0+1) m 2 O O O O hS ?_;intro es9 u m hD9;simp only[zF,zG] at m;rw[←tV] at hD9;refine aM ⟨m.sel [true,true,false,true],?_⟩;refine Es (gk ?_);exact hK2 _ _ _ (by kernel_rfl) m ⟨_,_,O,O,hD9⟩
    ·
     refine yU (ek:=pt) (en:=sB) (a:=t.a) (v0:=0) m 2 O oT lW gC O O hD9 ?_;intro es9 c9 bs u m hD' hS;simp only[zF,zG] at m;refine aM ⟨m.sel [true,true,false,true],?_⟩;refine eP (by simp only[zw];rfl) (aZ (fG rfl rfl) (bY (nN (by simp only[zw];rfl) ?_)));simp only[zz];refine fO (eH (ek:=pt) (en:=sB) (k:=t.a) (v0:=0) oT lW gC O O (m.p 2 O) hD') ?_;simp only[zz];rw[mG,if_pos rfl,df];refine aM ⟨m.sel [true,true,false,true],?_⟩;refine eP (by simp only[zw];rfl) (aZ (fC rfl rfl (bP (by omega) (by omega))) (bY (nN (by simp only[zw];rfl) ?_)));simp only[zz];refine qB (ek:=pt) (en:=sB) (a:=t.a) (v:=(cL (wF [] (dT (ts.take k))) t.a).getD 0+1) m 2 O O O O hS ?_;intro es9 u m hD9;simp only[zF,zG] at m;rw[←tV] at hD9;refine aM ⟨m.sel [true,true,false,true],?_⟩;refine Es (gk ?_);exact hK2 _ _ _ (by kernel_rfl) m ⟨_,_,O,O,hD9⟩
   ·
    intro vs i wr m hI u;obtain⟨es9,c9,rfl,rfl,hD9⟩:=hI;simp only[zF,zG] at m;simp only[zu,zF,zG];apply aU 18 [1,0] m;simp only[↓aD,ak];refine⟨by omega,?_⟩;refine aC (tK O O) ?_;apply jS 5 [0,0] m;simp only[↓aD,eS,aQ,aa];intro g5 u m;refine cU m 13 aB (by kernel_rfl) ?_;simp only[zy];refine dZ 4 [0] ?_;simp only[↓aD,aQ,ak];refine⟨by omega,?_⟩;refine aI (cP (m:=2) (n:=3) (r:=2) O O (by decide) (by decide)) (dZ 5 [2] ?_);simp only[↓aD,bR,aQ,Lf,ad,ag,aa,ak];refine⟨by omega,?_⟩;refine aI (cP (m:=3) (n:=3) (r:=0) O O (by decide) (by decide)) (dZ 2 [2] ?_);simp only[↓aD,bR,aQ,ad,ag,aa];refine⟨by omega,?_⟩;refine bC ?_;intro u m;refine nI (ek:=ed) (en:=pt) (a:=(t.b,t.c)) (v:=t.a) m 4 O Ll Cq O O O hD8 ?_;intro es8 c8 u m hD8;simp only[zF,zG] at m;rw[←Lm] at hD8;refine aM (gc ?_);refine iP m 3 [] [40,41,42,43,44,45] (fun vs i=>∃(es:Array ck) (c:Nat),vs=[]∧i=mI q9 es c∧(bT pt sB (wF [] (((((dT (ts.take k))++[t.a]))++[t.b]))) es c)) ?_ ?_
    ·
     intro K3 hK3;refine Uq m [true,true,true,false,true] (.take 0 (.take 1 (.two 2 (.take 3 (.one 4 (.take 5 (.one 6 .nil)))) 4 (.take 5 (.one 2 (.take 3 (.one 6 .nil))))))) aB (by kernel_rfl) (bQ (fun _ _ _ _ _ h=>h)) ?_;intro u m;have hb:=Oc (((dT (ts.take k))++[t.a])) t.b;try simp only[au,aw,bn] at hb
     refine eP (by simp only[zw];rfl) (aZ aH (bY (eP (by simp only[zw];rfl) ?_)));simp only[zz];refine eE O (fun u m=>((m.b 0 O).full aG aA)) ?_;simp only[zz];refine bY ?_;refine aav (by simp only[zw];rfl) (by simp only[zw];rfl) ?_ ?_
     ·
      refine fO (eH (ek:=pt) (en:=sB) (k:=t.b) (v0:=0) oT lW gC O O (m.p 3 O) hD9) ?_;simp only[zz];refine aM ⟨m.sel [true,true,true,false,true],?_⟩;refine eP (by simp only[zw];rfl) (aZ (fC rfl rfl (bP (by omega) (by omega))) (bY (nN (by simp only[zw];rfl) ?_)));simp only[zz];refine yU (ek:=pt) (en:=sB) (a:=t.b) (v0:=0) m 3 O oT lW gC O O hD9 ?_;intro es9 c9 bs u m hD' hS;simp only[zF,zG] at m;refine aM ⟨m.sel [true,true,true,false,true],?_⟩;refine eP (by simp only[zw];rfl) (aZ (fG rfl rfl) (bY (nN (by simp only[zw];rfl) ?_)));simp only[zz];refine qB (ek:=pt) (en:=sB) (a:=t.b) (v:=(cL (wF [] (((dT (ts.take k))++[t.a]))) t.b).getD 0+1) m 3 O O O O hS ?_;intro es9 u m hD9;simp only[zF,zG] at m;rw[←tV] at hD9;refine aM ⟨m.sel [true,true,true,false,true],?_⟩;refine Es (gk ?_);exact hK3 _ _ _ (by kernel_rfl) m ⟨_,_,O,O,hD9⟩
     ·
      refine yU (ek:=pt) (en:=sB) (a:=t.b) (v0:=0) m 3 O oT lW gC O O hD9 ?_;intro es9 c9 bs u m hD' hS;simp only[zF,zG] at m;refine aM ⟨m.sel [true,true,true,false,true],?_⟩;refine eP (by simp only[zw];rfl) (aZ (fG rfl rfl) (bY (nN (by simp only[zw];rfl) ?_)));simp only[zz];refine fO (eH (ek:=pt) (en:=sB) (k:=t.b) (v0:=0) oT lW gC O O (m.p 3 O) hD') ?_;simp only[zz];rw[mG,if_pos rfl,df];refine aM ⟨m.sel [true,true,true,false,true],?_⟩;refine eP (by simp only[zw];rfl) (aZ (fC rfl rfl (bP (by omega) (by omega))) (bY (nN (by simp only[zw];rfl) ?_)));simp only[zz];refine qB (ek:=pt) (en:=sB) (a:=t.b) (v:=(cL (wF [] (((dT (ts.take k))++[t.a]))) t.b).getD 0+1) m 3 O O O O hS ?_;intro es9 u m hD9;simp only[zF,zG] at m;rw[←tV] at hD9;refine aM ⟨m.sel [true,true,true,false,true],?_⟩;refine Es (gk ?_);exact hK3 _ _ _ (by kernel_rfl) m ⟨_,_,O,O,hD9⟩
    ·
     intro vs i wr m hI u;obtain⟨es9,c9,rfl,rfl,hD9⟩:=hI;simp only[zF,zG] at m;simp only[zu,zF,zG];apply aU 18 [1,0] m;simp only[↓aD,ak];refine⟨by omega,?_⟩;refine aC (tL O O) ?_;apply jS 5 [0,0] m;simp only[↓aD,eS,aQ,aa];intro g6 u m;refine cU m 13 aB (by kernel_rfl) ?_;simp only[zy];refine dZ 4 [0] ?_;simp only[↓aD,aQ,ak];refine⟨by omega,?_⟩;refine aI (cP (m:=3) (n:=3) (r:=0) O O (by decide) (by decide)) (dZ 5 [3] ?_);simp only[↓aD,bR,aQ,Lf,ad,ag,aa,ak];refine⟨by omega,?_⟩;refine aI (cP (m:=4) (n:=3) (r:=1) O O (by decide) (by decide)) (dZ 2 [3] ?_);simp only[↓aD,bR,aQ,ad,ag,aa];refine⟨by omega,?_⟩;refine bC ?_;intro u m;refine nI (ek:=ed) (en:=pt) (a:=(t.c,t.a)) (v:=t.b) m 5 O Ll Cq O O O hD8 ?_;intro es8 c8 u m hD8;simp only[zF,zG] at m;rw[←Lm] at hD8;refine aM (gc ?_);refine iP m 4 [] [40,41,42,43,44,45] (fun vs i=>∃(es:Array ck) (c:Nat),vs=[]∧i=mI q9 es c∧(bT pt sB (wF [] (((((((dT (ts.take k))++[t.a]))++[t.b]))++[t.c]))) es c)) ?_ ?_
     ·
      intro K4 hK4;refine Uq m [true,true,true,true,false,true] (.take 0 (.take 1 (.two 2 (.take 3 (.one 4 (.take 5 (.one 6 .nil)))) 4 (.take 5 (.one 2 (.take 3 (.one 6 .nil))))))) aB (by kernel_rfl) (bQ (fun _ _ _ _ _ h=>h)) ?_;intro u m;have hb:=Oc (((((dT (ts.take k))++[t.a]))++[t.b])) t.c;try simp only[au,aw,bn] at hb
      refine eP (by simp only[zw];rfl) (aZ aH (bY (eP (by simp only[zw];rfl) ?_)));simp only[zz];refine eE O (fun u m=>((m.b 0 O).full aG aA)) ?_;simp only[zz];refine bY ?_;refine aav (by simp only[zw];rfl) (by simp only[zw];rfl) ?_ ?_
      ·
       refine fO (eH (ek:=pt) (en:=sB) (k:=t.c) (v0:=0) oT lW gC O O (m.p 4 O) hD9) ?_;simp only[zz];refine aM ⟨m.sel [true,true,true,true,false,true],?_⟩;refine eP (by simp only[zw];rfl) (aZ (fC rfl rfl (bP (by omega) (by omega))) (bY (nN (by simp only[zw];rfl) ?_)));simp only[zz];refine yU (ek:=pt) (en:=sB) (a:=t.c) (v0:=0) m 4 O oT lW gC O O hD9 ?_;intro es9 c9 bs u m hD' hS;simp only[zF,zG] at m;refine aM ⟨m.sel [true,true,true,true,false,true],?_⟩;refine eP (by simp only[zw];rfl) (aZ (fG rfl rfl) (bY (nN (by simp only[zw];rfl) ?_)));simp only[zz];refine qB (ek:=pt) (en:=sB) (a:=t.c) (v:=(cL (wF [] (((((dT (ts.take k))++[t.a]))++[t.b]))) t.c).getD 0+1) m 4 O O O O hS ?_;intro es9 u m hD9;simp only[zF,zG] at m;rw[←tV] at hD9;refine aM ⟨m.sel [true,true,true,true,false,true],?_⟩;refine Es (gk ?_);exact hK4 _ _ _ (by kernel_rfl) m ⟨_,_,O,O,hD9⟩
      ·
       refine yU (ek:=pt) (en:=sB) (a:=t.c) (v0:=0) m 4 O oT lW gC O O hD9 ?_;intro es9 c9 bs u m hD' hS;simp only[zF,zG] at m;refine aM ⟨m.sel [true,true,true,true,false,true],?_⟩;refine eP (by simp only[zw];rfl) (aZ (fG rfl rfl) (bY (nN (by simp only[zw];rfl) ?_)));simp only[zz];refine fO (eH (ek:=pt) (en:=sB) (k:=t.c) (v0:=0) oT lW gC O O (m.p 4 O) hD') ?_;simp only[zz];rw[mG,if_pos rfl,df];refine aM ⟨m.sel [true,true,true,true,false,true],?_⟩;refine eP (by simp only[zw];rfl) (aZ (fC rfl rfl (bP (by omega) (by omega))) (bY (nN (by simp only[zw];rfl) ?_)));simp only[zz];refine qB (ek:=pt) (en:=sB) (a:=t.c) (v:=(cL (wF [] (((((dT (ts.take k))++[t.a]))++[t.b]))) t.c).getD 0+1) m 4 O O O O hS ?_;intro es9 u m hD9;simp only[zF,zG] at m;rw[←tV] at hD9;refine aM ⟨m.sel [true,true,true,true,false,true],?_⟩;refine Es (gk ?_);exact hK4 _ _ _ (by kernel_rfl) m ⟨_,_,O,O,hD9⟩
     ·
      intro vs i wr m hI u;obtain⟨es9,c9,rfl,rfl,hD9⟩:=hI;simp only[zF,zG] at m;simp only[zu,zF,zG];apply aU 18 [2,0] m;simp only[↓aD,ak];refine⟨by omega,?_⟩;exact hK1 (N-(k+1)) _ _ (by omega) (by kernel_rfl) ⟨k+1,_,_,_,_,O,(m.sel [false,false,false,false,true,true]),by rw[acD ht];simpa[dl] using hD8,by rw[Qh ht];simpa[dl] using hD9,by omega,rfl⟩
  ·
   have hkN:k=N:=by omega
   rw[hkN,show ts.take N=ts from ay (by rw[hT.len];exact av _)] at hD8 hD9;apply aK 5 [0] m;simp only[↓aD];refine wE m Ll O (m.p 1 O) ?_;intro r1 u m;apply aL 2 [0] m;simp only[↓aD];refine bX [] [2,9,10,11,12,13,50,51,52,53,54,55,56,57,58,59,60,61,62,63,64,65,66,67,68,69,70,71,72,73,74,75,76,77,78,79,80,81,82,83,84,85,86,87,88,89,90,91,92,93,94] (fun n vs wl=>∃(dn rs:List (E3 × P3)) (sn:Array Nat),vs=[]∧Mem w wl [iI r1 q8 c8 sn,mI q9 es9 c9,mI q8 es8 c8]∧(oC ed pt (Eh [] (lS ts)) es8 sn dn rs)∧(∀y∈dn,¬Yi ts y.1)∧(n=rs.length)) ?_ ?_
   ·
    exact⟨_,[],_,#[],rfl,m,oC.start hD8,fun _ h=>(by cases h),rfl⟩
   ·
    intro n vs wr hI u K5 hK5;obtain⟨dn,rs,sn,rfl,m,hT1,hno,hn⟩:=hI;simp only[zu,zF,zG];apply aK 2 [0] m;simp only[↓aD];refine Ml m 0 O O (m.p 2 O) hD8 hT1 ?_;intro bb kk vv sn u m hN;simp only[zF,zG] at m;refine aC (pX O) ?_;apply aL 2 [0] m;simp only[↓aD];refine cR O ?_ ?_<;>intro hc3
    ·
     obtain⟨kp,kb,rs2,hp,hT2⟩:=Hx hc3 hN;obtain⟨x,hx⟩:∃x,cL (Eh [] (lS ts)) kp=some x:=by
      cases h:cL (Eh [] (lS ts)) kp with
      | some x=>exact⟨x,rfl⟩
      | none =>
       refine absurd ?_ (oX.1 h);have h1:=hT2.1.mem_iff (a:=(kp,kb));exact List.mem_map.2 ⟨_,h1.1 (by simp),O⟩
     have hkx:cE ts kp.1 kp.2=some x:=by rw[←Ia hnd];exact hx
     obtain⟨M,hM⟩:∃M,M=vC (dT ts) kp.1:=⟨_,rfl⟩
     have hmM:(cL (wF [] (dT ts)) kp.1).getD 0=M:=by rw[abn,hM]
     have hMl:M≤30000000:=by have h1:=Oc (dT ts) kp.1;rw[hmM,Wf,hT.len] at h1;omega
     apply aK 4 [0] m;simp only[↓aD];refine fO (tM O (m.r 0 O) (m.p 2 O) hD8 hT2) ?_;simp only[zz];apply jS 12 [0,0,0] m;simp only[↓aD,Cl,uW,aa];intro g4 u m;refine fO (eH (ek:=ed) (en:=pt) (k:=kp) (v0:=⟨0,0,0⟩) Ll iZ Cq O O (m.p 3 O) hD8) ?_;simp only[zz];apply jS 3 [0] m;simp only[↓aD,eS,aQ,aa];intro g5 u m;rw[hx] at m;simp only[df] at m;apply aU 2 [0] m;simp only[↓aD];refine bX [10] [12,13,57,58,59,60,61,62,63,64,65,66,67,68,69,70,71,72,73,74,75,76,77,78,79,80,81,82] (fun n vs wl=>∃(z:Nat) (a:P3),vs=[.int .i64 (z:Int)]∧Mem w wl [bI g5 (lB a) 30,bI g4 (cY kp) 215,iI r1 q8 c8 sn,mI q9 es9 c9,mI q8 es8 c8]∧(Cb (cE ts kp.1) kp.2 M x 1=Cb (cE ts kp.1) kp.2 (M+1-z) a z)∧(1≤z)∧(z≤M+1)∧(n=M+1-z)) ?_ ?_
     ·
      exact⟨_,1,x,O,m,O,av _,by omega,O⟩
     ·
      intro n vs wr hI u K6 hK6;obtain⟨z,a,rfl,m,hrun,hz1,hz2,hn4⟩:=hI;simp only[zu,zF,zG];apply aK 6 [0,1,0] m;simp only[↓aD,aQ,Cm,aa];refine aC (fH O O) ?_;apply aL 1 [0] m;simp only[↓aD];refine cS O (fun hb=>aH) (cS O (fun hb=>aH) (cS O (fun hb=>aW (c:=2) uF O aA O O) ?_));simp only[zz];refine iF O (fun hb=>aY (aX hb O) ((m.b 1 O).lies aG aA O O)) ?_;simp only[zz,zy,aq,aa,ag,ad];refine iF O (fun hb=>eH (ek:=pt) (en:=sB) (k:=kp.1) (v0:=0) oT lW gC (aX hb O) (aX hb O) (m.p 3 O) hD9) ?_;simp only[zz];refine cS O (fun hb=>En (aX hb O) (aX hb O)) (aC (bW O O O) ?_);apply aL 1 [0] m;simp only[↓aD];refine cR O ?_ ?_<;>intro hc4
      ·
       have hs:¬a=kp.2∧z≤M:=by rw[hmM] at hc4;simpa[apa] using hc4
       apply aK 9 [1,0,0] m;simp only[↓aD,Rj,aQ,Lf,aa];refine fO (Vc (ek:=ed) (en:=pt) (k:=(kp.1,a)) (v0:=⟨0,0,0⟩) Ll iZ Cq O O (m.p 4 O) hD8) ?_;simp only[zz];apply jS 13 [0,0] m;simp only[↓aD,eS,aQ,aa];intro g6 u m;refine cR O ?_ ?_<;>intro hc5
       ·
        have hyn:cE ts kp.1 a=none:=by rw[←Ia hnd];simpa using hc5
        have hfin:=hrun.trans (amh hyn);apply aK 6 [1,2,0] m;simp only[↓aD,aQ,Cm,aa];refine aC (cB O O) ?_;apply aL 1 [0] m;simp only[↓aD];refine cS O (fun hb=>aH) (cS O (fun hb=>aH) (cS O (fun hb=>aW (c:=2) uF O aA O O) ?_));simp only[zz];refine iF O (fun hb=>aY (aX hb O) ((m.b 2 O).lies aG aA O O)) ?_;simp only[zz,zy,aq,aa,ag,ad];refine iF O (fun hb=>eH (ek:=pt) (en:=sB) (k:=kp.1) (v0:=0) oT lW gC (aX hb O) (aX hb O) (m.p 4 O) hD9) ?_;simp only[zz];refine cS O (fun hb=>qL (aX hb O) (aX hb O)) (aC (bW O O O) ?_);apply aL 1 [0] m;simp only[↓aD];refine cR O ?_ ?_<;>intro hc6
        ·
         have hs:a=kp.2∧z<M:=by rw[hmM] at hc6;simpa[←yD] using hc6
         apply aK 5 [] m;simp only[↓aD];refine aT O O ?_;try simp only[zD,zE]
         exact⟨_,O,m.ext,by have hp:Yi ts kp:=⟨x,hkx,by rw[gr,←hM,hfin];exact hs.1,by rw[gr,←hM,hfin];exact hs.2⟩;rw[pinned.2 ⟨kp,hp⟩]⟩
        ·
         have hs:¬(a=kp.2∧z<M):=by rw[hmM] at hc6;simpa[←yD] using hc6
         have hno2:∀y∈dn++[(kp,kb)],¬Yi ts y.1:=fun y hy=>by
          rcases bi.1 hy with hy | hy
          · exact hno y hy
          ·
           obtain rfl:=bf.1 hy;rintro⟨x2,h1,h2,h3⟩;obtain rfl:x=x2:=eo (hkx.symm.trans h1);rw[gr,←hM,hfin] at h2 h3;exact hs ⟨h2,h3⟩
         apply aK 2 [0] m;simp only[↓aD];exact hK5 rs2.length _ _ (by rw[hn,hp.length_eq];exact fc _) (by kernel_rfl) ⟨dn++[(kp,kb)],rs2,_,O,(m.sel [false,false,false,true,true,true]),hT2,hno2,O⟩
       ·
        obtain⟨y,hy⟩:∃y,cL (Eh [] (lS ts)) (kp.1,a)=some y:=by
         cases h:cL (Eh [] (lS ts)) (kp.1,a) with
         | some y=>exact⟨y,rfl⟩
         | none=>rw[h] at hc5;cases hc5
        have hya:cE ts kp.1 a=some y:=by rw[←Ia hnd];exact hy
        rw[hy] at m;simp only[df] at m;apply Vf 12 [0,1,0] m;simp only[↓aD,aQ,aa];refine⟨by omega,?_⟩;intro u m;exact hK6 (M+1-(z+1)) _ _ (by omega) (by kernel_rfl) ⟨z+1,y,O,(m.sel [false,true,true,true,true,true]),by rw[hrun,show M+1-z=(M+1-(z+1))+1 by omega,ao8 hs.1 hya],by omega,by omega,O⟩
      ·
       have hs0:a=kp.2∨¬z≤M:=by rw[hmM] at hc4;exact aja hc4
       have hfin:=hrun.trans (ao9 hz2 hs0);apply aK 6 [0,1,0] m;simp only[↓aD,aQ,Cm,aa];refine aC (cB O O) ?_;apply aL 1 [0] m;simp only[↓aD];refine cS O (fun hb=>aH) (cS O (fun hb=>aH) (cS O (fun hb=>aW (c:=2) uF O aA O O) ?_));simp only[zz];refine iF O (fun hb=>aY (aX hb O) ((m.b 1 O).lies aG aA O O)) ?_;simp only[zz,zy,aq,aa,ag,ad];refine iF O (fun hb=>eH (ek:=pt) (en:=sB) (k:=kp.1) (v0:=0) oT lW gC (aX hb O) (aX hb O) (m.p 3 O) hD9) ?_;simp only[zz];refine cS O (fun hb=>qL (aX hb O) (aX hb O)) (aC (bW O O O) ?_);apply aL 1 [0] m;simp only[↓aD];refine cR O ?_ ?_<;>intro hc6
       ·
        have hs:a=kp.2∧z<M:=by rw[hmM] at hc6;simpa[←yD] using hc6
        apply aK 5 [] m;simp only[↓aD];refine aT O O ?_;try simp only[zD,zE]
        exact⟨_,O,m.ext,by have hp:Yi ts kp:=⟨x,hkx,by rw[gr,←hM,hfin];exact hs.1,by rw[gr,←hM,hfin];exact hs.2⟩;rw[pinned.2 ⟨kp,hp⟩]⟩
       ·
        have hs:¬(a=kp.2∧z<M):=by rw[hmM] at hc6;simpa[←yD] using hc6
        have hno2:∀y∈dn++[(kp,kb)],¬Yi ts y.1:=fun y hy=>by
         rcases bi.1 hy with hy | hy
         · exact hno y hy
         ·
          obtain rfl:=bf.1 hy;rintro⟨x2,h1,h2,h3⟩;obtain rfl:x=x2:=eo (hkx.symm.trans h1);rw[gr,←hM,hfin] at h2 h3;exact hs ⟨h2,h3⟩
        apply aK 2 [0] m;simp only[↓aD];exact hK5 rs2.length _ _ (by rw[hn,hp.length_eq];exact fc _) (by kernel_rfl) ⟨dn++[(kp,kb)],rs2,_,O,(m.sel [false,false,true,true,true]),hT2,hno2,O⟩
    ·
     obtain rfl:=Hw hc3 hN;apply aK 6 [] m;simp only[↓aD];refine aT O O ?_;try simp only[zD,zE]
     exact⟨_,rfl,m.ext,by cases h:(dY ts).any (Hn ts) with | false=>rfl | true=>(obtain⟨e,he⟩:=pinned.1 h;exact absurd he (ajb hT1 hnd hno e))⟩
theorem ami(h:¬(bE ts).Nodup):(bE ts).any (fun e=>decide (1<lV (bE ts) e))=true:=by rw[Hz];exact decide_eq_true h
theorem ajc(h:(bE ts).Nodup):(bE ts).any (fun e=>decide (1<lV (bE ts) e))=false:=by rw[Hz];exact decide_eq_false fun k=>k h
theorem ajd{A:Option Addr}(w:aj)(hT:bU w A N ts)(hN:N≤10000000):dA prog 97 [.slice A N cap,.bool true] w (fun v _=>v=.int .i64 (fW true ts)):=by
 refine⟨bJ func97 (by kernel_rfl),?_⟩;have m:=Mem.refl w
 go_enter func97,ntmps97
 apply fI 12 [0] m;simp only[↓aD,iM];refine bX [11] [4,6,12,13,14,15,16,17,18,19,20,21,22,23,24,25,26,27,28,29,30,31,32,33,34] (fun n vs wl=>∃(k:Nat),vs=[.int .i64 (k:Int)]∧Mem w wl []∧((ts.take k).any wV=false)∧(k≤N)∧(n=N-k)) ?_ ?_
 ·
  exact⟨_,0,O,m,O,bw _,O⟩
 ·
  intro n vs wr hI u K1 hK1;obtain⟨k,rfl,m,hd0,hk,hn⟩:=hI;simp only[zu,zF,zG];apply aK 5 [0,0] m;simp only[↓aD];refine bD O ?_ ?_<;>intro hc1
  ·
   obtain⟨t,ht,_,a,rfl,hrow⟩:=hT.get (i:=k) (by omega);apply aK 5 [0] m;simp only[↓aD];refine aC (aF cD aP O O (by omega) (by omega) (bZ (ah _))) ?_;simp only[zz];refine aS O ((hrow.ext m.ext).lies cA aP) ?_;simp only[zz];apply jS 9 [0,0,0,0] m;simp only[↓aD,lM,eA,bR,aQ,aa,ad,ag];intro g1;refine⟨by omega,?_⟩;intro u m;refine aC (cB O O) ?_;apply aL 1 [0] m;simp only[↓aD];refine bA O (fun hb=>aJ cF aA O O (by decide) (by decide) O) ?_;simp only[zz];refine bV O (fun hb=>aY (aX hb O) ((m.b 0 O).lies aG aA O O)) ?_;simp only[zz,zy,aq,aa,ag,ad];refine bA O (fun hb=>aJ cF aA O O (by decide) (by decide) O) ?_;simp only[zz];refine bV O (fun hb=>aY (aX hb O) ((m.b 0 O).lies aG aA O O)) ?_;simp only[zz,zy,aq,aa,ag,ad];refine bA O (fun hb=>cB (aX hb O) (aX hb O)) (aC (cC O O O) ?_);apply aL 1 [0] m;simp only[↓aD];refine bA O (fun hb=>aJ cF aA O O (by decide) (by decide) O) ?_;simp only[zz];refine bV O (fun hb=>aY (aX hb O) ((m.b 0 O).lies aG aA O O)) ?_;simp only[zz,zy,aq,aa,ag,ad];refine bA O (fun hb=>aJ cF aA O O (by decide) (by decide) O) ?_;simp only[zz];refine bV O (fun hb=>aY (aX hb O) ((m.b 0 O).lies aG aA O O)) ?_;simp only[zz,zy,aq,aa,ag,ad];refine bA O (fun hb=>cB (aX hb O) (aX hb O)) (aC (cC O O O) ?_);apply aL 1 [0] m;simp only[↓aD];refine gE O ?_ ?_<;>intro hc2
   ·
    have hd:=Ho (p:=wV) ht (Xs.symm.trans hc2);apply aK 5 [] m;simp only[↓aD];refine aT O O ?_;try simp only[zD,zE]
    exact⟨_,O,m.ext,by rw[aey hd]⟩
   ·
    have hd1:(ts.take (k+1)).any wV=false:=by rw[wW ht,hd0,←Xs];exact hc2
    apply aK 6 [0] m;simp only[↓aD];refine⟨by omega,?_⟩;exact hK1 (N-(k+1)) _ _ (by omega) (by kernel_rfl) ⟨k+1,O,(m.sel [false]),hd1,by omega,O⟩
  ·
   have hkN:k=N:=by omega
   rw[hkN,show ts.take N=ts from ay (by rw[hT.len];exact av _)] at hd0;apply aK 4 [0] m;simp only[↓aD];refine bH O O (Rw _ (hT.ext m.ext) hN) ?_;rintro v u e_ ⟨g8,es8,c8,rfl,hM,hD8⟩;replace m:=m.plus hM;clear hM;simp only[cj,b_] at m;apply aL 14 [0] m;simp only[↓aD];refine cR O ?_ ?_<;>intro hc3
   ·
    have hnd:¬(bE ts).Nodup:=by simpa using hc3
    apply aK 5 [] m;simp only[↓aD];refine aT O O ?_;try simp only[zD,zE]
    exact⟨_,O,m.ext,by rw[aez hd0 (ami hnd)]⟩
   ·
    have hnd:(bE ts).Nodup:=by simpa using hc3
    apply aK 16 [0] m;simp only[↓aD,Bool.not_true,fj];refine cQ m O O (ade _ (hT.ext m.ext) hN hnd) ?_;rintro v u m rfl;apply aL 2 [0] m;simp only[↓aD];refine cR O ?_ ?_<;>intro hc5
    ·
     apply aK 5 [] m;simp only[↓aD];refine aT O O ?_;try simp only[zD,zE]
     exact⟨_,O,m.ext,by rw[aeA hd0 (ajc hnd) O hc5]⟩
    ·
     apply aK 7 [] m;simp only[↓aD];refine aT O O ?_;try simp only[zD,zE]
     exact⟨_,O,m.ext,by rw[ai7 hd0 (ajc hnd) O hc5]⟩
theorem yV{A:Option Addr}(w:aj)(hT:bU w A N ts)(hN:N≤10000000):dA prog 49 [.slice A N cap] w (fun v _=>v=.int .i64 (fW true ts)):=by
 refine⟨bJ func49 (by kernel_rfl),?_⟩;have m:=Mem.refl w
 go_enter func49,ntmps49
 apply fI 7 [0] m;simp only[↓aD];refine cQ m O O (ajd _ (hT.ext m.ext) hN) ?_;rintro v u m rfl;apply aL 3 [] m;simp only[↓aD];exact aT O O ⟨_,O,m.ext,O⟩
theorem apb(h1:t.b.Lt t.a)(h2:t.c.Lt t.b):dU t=⟨t.c,t.a,t.b⟩:=if_pos ⟨P3.lt_trans h2 h1,.inl h2⟩
theorem apc(h1:t.b.Lt t.a)(h2:¬t.c.Lt t.b):dU t=⟨t.b,t.c,t.a⟩:=by rw[dU,if_neg (fun h=>h.2.elim h2 fun k=>k h1),if_pos h1]
theorem apd(h1:¬t.b.Lt t.a)(h2:t.c.Lt t.a):dU t=⟨t.c,t.a,t.b⟩:=if_pos ⟨h2,.inr h1⟩
theorem ape(h1:¬t.b.Lt t.a)(h2:¬t.c.Lt t.a):dU t=t:=by rw[dU,if_neg (fun h=>h2 h.1),if_neg h1]
theorem af3  : dS prog 111 [tr t] (tr (dU t)):=by
 intro w;refine⟨bJ func111 (by kernel_rfl),?_⟩;have m:=Mem.refl w
 go_enter func111,ntmps111
 apply iY 28 [3,1,0] m;simp only[↓aD,lM];intro g1 g2;refine⟨by omega,?_⟩;intro u m;refine mq m aB (by kernel_rfl) (dZ 6 [1,1] ?_);simp only[↓aD,bR,aQ,ad,ag,aa];refine⟨by omega,?_⟩;refine fD O O tP.pure (bC ?_);intro u m;refine gc ?_;simp only[zz];refine bD O ?_ ?_<;>intro hc2
 ·
  have h1:=hc2;apply aK 22 [1,0] m;simp only[↓aD,ak];refine⟨by omega,?_⟩;refine mq m aB (by kernel_rfl) (dZ 6 [1,1] ?_);simp only[↓aD,bR,aQ,ad,ag,aa];refine⟨by omega,?_⟩;refine fD O O tP.pure (bC ?_);intro u m;refine gc ?_;simp only[zz];refine bD O ?_ ?_<;>intro hc2
  ·
   have h2:=hc2;apply aK 20 [2,0] m;simp only[↓aD,ak];refine⟨by omega,?_⟩;refine cU m 14 aB (by kernel_rfl) ?_;simp only[zy];refine dZ 5 [1] ?_;simp only[↓aD,bR,aQ,ad,ag,aa,ak];refine⟨by omega,?_⟩;refine aI (cP (m:=3) (n:=3) (r:=0) O O (by decide) (by decide)) (dZ 4 [1] ?_);simp only[↓aD,bR,aQ,ad,ag,aa,ak];refine⟨by omega,?_⟩;refine aI (cP (m:=4) (n:=3) (r:=1) O O (by decide) (by decide)) (dZ 3 [1] ?_);simp only[↓aD,bR,aQ,qS,ad,ag,aa];refine⟨by omega,?_⟩;refine bC ?_;intro u m;refine bN m 0 O O O aP (iK O) O ?_;intro u m;simp only[zy,zx,over,zF,zG,aa] at m;refine aM ?_;apply aU 1 [] m;simp only[↓aD];refine aT O ⟨_,O,((m.b 0 O).full cA aP)⟩ ?_;try simp only[zD,zE]
   exact⟨_,O,m.ext,by rw[apb h1 h2];rfl⟩
  ·
   have h2:=hc2;apply aK 17 [2,0] m;simp only[↓aD,ak];refine⟨by omega,?_⟩;refine cU m 14 aB (by kernel_rfl) ?_;simp only[zy];refine dZ 5 [1] ?_;simp only[↓aD,bR,aQ,ad,ag,aa,ak];refine⟨by omega,?_⟩;refine aI (cP (m:=2) (n:=3) (r:=2) O O (by decide) (by decide)) (dZ 4 [1] ?_);simp only[↓aD,bR,aQ,ad,ag,aa,ak];refine⟨by omega,?_⟩;refine aI (cP (m:=3) (n:=3) (r:=0) O O (by decide) (by decide)) (dZ 3 [1] ?_);simp only[↓aD,bR,aQ,qS,ad,ag,aa];refine⟨by omega,?_⟩;refine bC ?_;intro u m;refine bN m 0 O O O aP (iK O) O ?_;intro u m;simp only[zy,zx,over,zF,zG,aa] at m;refine aM ?_;apply aU 1 [] m;simp only[↓aD];refine aT O ⟨_,O,((m.b 0 O).full cA aP)⟩ ?_;try simp only[zD,zE]
   exact⟨_,O,m.ext,by rw[apc h1 h2];rfl⟩
 ·
  have h1:=hc2;apply aK 19 [1,0] m;simp only[↓aD,ak];refine⟨by omega,?_⟩;refine mq m aB (by kernel_rfl) (dZ 6 [1,1] ?_);simp only[↓aD,bR,aQ,ad,ag,aa];refine⟨by omega,?_⟩;refine fD O O tP.pure (bC ?_);intro u m;refine gc ?_;simp only[zz];refine bD O ?_ ?_<;>intro hc2
  ·
   have h2:=hc2;apply aK 20 [2,0] m;simp only[↓aD,ak];refine⟨by omega,?_⟩;refine cU m 14 aB (by kernel_rfl) ?_;simp only[zy];refine dZ 5 [1] ?_;simp only[↓aD,bR,aQ,ad,ag,aa,ak];refine⟨by omega,?_⟩;refine aI (cP (m:=3) (n:=3) (r:=0) O O (by decide) (by decide)) (dZ 4 [1] ?_);simp only[↓aD,bR,aQ,ad,ag,aa,ak];refine⟨by omega,?_⟩;refine aI (cP (m:=4) (n:=3) (r:=1) O O (by decide) (by decide)) (dZ 3 [1] ?_);simp only[↓aD,bR,aQ,qS,ad,ag,aa];refine⟨by omega,?_⟩;refine bC ?_;intro u m;refine bN m 0 O O O aP (iK O) O ?_;intro u m;simp only[zy,zx,over,zF,zG,aa] at m;refine aM ?_;apply aU 1 [] m;simp only[↓aD];refine aT O ⟨_,O,((m.b 0 O).full cA aP)⟩ ?_;try simp only[zD,zE]
   exact⟨_,O,m.ext,by rw[apd h1 h2];rfl⟩
  ·
   have h2:=hc2;apply aK 17 [2,0] m;simp only[↓aD,ak];refine⟨by omega,?_⟩;refine cU m 14 aB (by kernel_rfl) ?_;simp only[zy];refine dZ 5 [1] ?_;simp only[↓aD,bR,aQ,ad,ag,aa,ak];refine⟨by omega,?_⟩;refine aI (cP (m:=1) (n:=3) (r:=1) O O (by decide) (by decide)) (dZ 4 [1] ?_);simp only[↓aD,bR,aQ,ad,ag,aa,ak];refine⟨by omega,?_⟩;refine aI (cP (m:=2) (n:=3) (r:=2) O O (by decide) (by decide)) (dZ 3 [1] ?_);simp only[↓aD,bR,aQ,qS,ad,ag,aa];refine⟨by omega,?_⟩;refine bC ?_;intro u m;refine bN m 0 O O O aP (iK O) O ?_;intro u m;simp only[zy,zx,over,zF,zG,aa] at m;refine aM ?_;apply aU 1 [] m;simp only[↓aD];refine aT O ⟨_,O,((m.b 0 O).full cA aP)⟩ ?_;try simp only[zD,zE]
   exact⟨_,O,m.ext,by rw[ape h1 h2];rfl⟩
end Go.Proofs.YtfekpcimgncioaaGreatDoor
namespace Go.Proofs.YtfekpcimgncioaaGreatDoor
open Go.Proofs.Tryz
open Go.RowKit Go.Lith
set_option maxRecDepth 100000
attribute [local irreducible] ar cl fU bS cO Code.wp
variable{q:P3}
theorem aje{x y z:Int}{g1:Nat}(w:aj)(hB1:fR w g1 [.int .i64 x,.int .i64 y,.int .i64 z] 3):ai3 prog 125 [.slice (some ⟨g1,0,none⟩) 3 3] w (.int .i64 (if x=0 then if y=0 then z else y else x)):=by
 refine⟨ahm,?_⟩;have m:=iU.refl w
 go_enter func125,ntmps125
 refine bG fun K1 k1=>ao (aC aO (aM (k1 _ _ ?_)));try clear k1 K1
 refine bG fun K2 k2=>ao (aC aO (aM (k2 _ _ ?_)));try clear k2 K2
 refine bG fun K3 k3=>bG fun K4 k4=>ao (aC aH (aC (Jw O dN O) ?_));simp only[zz];refine aC aH (aM (k4 _ _ ?_));try clear k4 K4
 refine jm (wp_loop_rounds 4 (Bf (bG fun K5 k5=>ao (aC (qT (m:=0) (n:=3) O O (by decide)) (aM (k5 _ _ ?_))))));try clear k5 K5
 refine bG fun K6 k6=>Ax O (jp (k6 _ _ ?_));try clear k6 K6
 refine bG fun K7 k7=>jm (bG fun K8 k8=>ao ?_);simp only[zz];refine aC (aF dN aV O O (by decide) (by omega) O) ?_;simp only[zz];refine aS O ((hB1.ext m.ext.ext).lies1 bF O) ?_;simp only[zz];refine aC aO (aM (k8 _ _ ?_));try clear k8 K8
 refine bG fun K9 k9=>ao (aC aH (aC aH (aC (qM O O) ?_)));simp only[zz];refine aM (k9 _ _ ?_);try clear k9 K9
 refine bD O ?_ ?_<;>intro hc2
 ·
  refine bG fun K10 k10=>ao (aC aH (aC aO (aM (k10 _ _ ?_))));try clear k10 K10
  refine jb ?_;simp only[zz];try simp only[cw,Exit.then,if_true]
  refine aT O O ?_;try simp only[zD,zE]
  exact⟨_,O,m.ext,by rw[if_neg hc2]⟩
 ·
  have hx:x=0:=by omega
  refine jp (k7 _ _ ?_);try clear k7 K7
  refine ao (aC (fC (m:=0) (n:=1) (r:=1) O O (by decide)) (aC aH (aM (lR (bG fun K11 k11=>ao (aC (qT (m:=1) (n:=3) O O (by decide)) (aM (k11 _ _ ?_))))))));try clear k11 K11
  refine bG fun K12 k12=>Ax O (jp (k12 _ _ ?_));try clear k12 K12
  refine bG fun K13 k13=>jm (bG fun K14 k14=>ao ?_);simp only[zz];refine aC (aF dN aV O O (by decide) (by omega) O) ?_;simp only[zz];refine aS O ((hB1.ext m.ext.ext).lies1 bF O) ?_;simp only[zz];refine aC aO (aM (k14 _ _ ?_));try clear k14 K14
  refine bG fun K15 k15=>ao (aC aH (aC aH (aC (qM O O) ?_)));simp only[zz];refine aM (k15 _ _ ?_);try clear k15 K15
  refine bD O ?_ ?_<;>intro hc2
  ·
   refine bG fun K16 k16=>ao (aC aH (aC aO (aM (k16 _ _ ?_))));try clear k16 K16
   refine jb ?_;simp only[zz];try simp only[cw,Exit.then,if_true]
   refine aT O O ?_;try simp only[zD,zE]
   exact⟨_,O,m.ext,by rw[if_pos hx,if_neg hc2]⟩
  ·
   have hy:y=0:=by omega
   refine jp (k13 _ _ ?_);try clear k13 K13
   refine ao (aC (fC (m:=1) (n:=1) (r:=2) O O (by decide)) (aC aH (aM (lR (bG fun K17 k17=>ao (aC (qT (m:=2) (n:=3) O O (by decide)) (aM (k17 _ _ ?_))))))));try clear k17 K17
   refine bG fun K18 k18=>Ax O (jp (k18 _ _ ?_));try clear k18 K18
   refine bG fun K19 k19=>jm (bG fun K20 k20=>ao ?_);simp only[zz];refine aC (aF dN aV O O (by decide) (by omega) O) ?_;simp only[zz];refine aS O ((hB1.ext m.ext.ext).lies1 bF O) ?_;simp only[zz];refine aC aO (aM (k20 _ _ ?_));try clear k20 K20
   refine bG fun K21 k21=>ao (aC aH (aC aH (aC (qM O O) ?_)));simp only[zz];refine aM (k21 _ _ ?_);try clear k21 K21
   refine bD O ?_ ?_<;>intro hc2
   ·
    refine bG fun K22 k22=>ao (aC aH (aC aO (aM (k22 _ _ ?_))));try clear k22 K22
    refine jb ?_;simp only[zz];try simp only[cw,Exit.then,if_true]
    refine aT O O ?_;try simp only[zD,zE]
    exact⟨_,O,m.ext,by rw[if_pos hx,if_pos hy]⟩
   ·
    have hz:z=0:=by omega
    refine jp (k19 _ _ ?_);try clear k19 K19
    refine ao (aC (fC (m:=2) (n:=1) (r:=3) O O (by decide)) (aC aH (aM (lR (bG fun K23 k23=>ao (aC (Fj (m:=3) (n:=3) O O (by decide)) (aM (k23 _ _ ?_))))))));try clear k23 K23
    refine bG fun K24 k24=>aeX O (wp_exit (k3 _ _ ?_));try clear k3 K3
    refine bG fun K25 k25=>ao (aC aH ?_);simp only[zz];refine aC aO (aM (k25 _ _ ?_));try clear k25 K25
    refine jb ?_;simp only[zz];try simp only[cw,Exit.then,if_true]
    refine aT O O ?_;try simp only[zD,zE]
    exact⟨_,O,m.ext,by rw[if_pos hx,if_pos hy,hz]⟩
def adf(s t:T3):Int:=if qK s.a t.a=0 then if qK s.b t.b=0 then qK s.c t.c else qK s.b t.b else qK s.a t.a
theorem Ja(s t:T3):(adf s t<0)↔s.Lt t:=by
 unfold adf T3.Lt;split
 · rename_i h
   have h':=nK.1 h;have n1:¬s.a.Lt t.a:=fun k=>P3.lt_irrefl _ (h'▸k);split
   · rename_i g
     have g':=nK.1 g;have n2:¬s.b.Lt t.b:=fun k=>P3.lt_irrefl _ (g'▸k);rw[mA];simp[h',g',P3.lt_irrefl]
   · rename_i g
     have g':¬s.b=t.b:=fun e=>g (nK.2 e);rw[mA];simp[h',g',P3.lt_irrefl]
 · rename_i h
   have h':¬s.a=t.a:=fun e=>h (nK.2 e);rw[mA];simp[h']
instance:Inhabited T3:=⟨⟨⟨0,0,0⟩,⟨0,0,0⟩,⟨0,0,0⟩⟩⟩
theorem ajf:Go.Sort.SWO (Go.Proofs.ltOf adf) where
 irrefl a:=by simp only[Go.Proofs.ltOf,decide_eq_false_iff_not,Ja];exact T3.lt_irrefl a
 trans x y z h1 h2:=by
  simp only[Go.Proofs.ltOf,decide_eq_true_eq,Ja] at *
  exact T3.lt_trans h1 h2
 ntrans x y z h1 h2:=by
  simp only[Go.Proofs.ltOf,decide_eq_false_iff_not,Ja] at *
  intro h;rcases T3.lt_tri y x with k | k | k
  · exact absurd (T3.lt_trans k h) (by first | exact h2 | exact h1)
  · subst k;first | exact h2 h | exact h1 h
  · first | exact h1 k | exact h2 k
theorem Ze(t:T3):∀v∈aN t,v.oneCell'=true:=fun v h=>by
 simp only[aN,List.mem_cons,List.not_mem_nil,or_false] at h;rcases h with rfl | rfl | rfl | rfl | rfl | rfl | rfl | rfl | rfl <;> rfl
theorem amj{p q:T3}:sT prog 113 [tr p,tr q] (.int .i64 (adf p q)):=by
 intro w;refine⟨bJ func113 (by kernel_rfl),?_⟩;have m:=iU.refl w
 go_enter func113,ntmps113
 refine bG fun K1 k1=>ao (oL m O ?_);intro g1 u m;simp only[zz];refine oL m O ?_;intro g2 u m;refine aC aO (aM (k1 _ _ ?_));try clear k1 K1
 refine bG fun K2 k2=>?_;simp only[zz];refine Pk m 15 aB (by kernel_rfl) ?_;simp only[zy];refine aI (aJ cF aA O O (by decide) (by decide) O) ?_;simp only[zz];refine Tc O (fun u m=>((m.b 1 O).lies aG aA O O)) ?_;simp only[zz,zy,aq,aa,ag,ad];refine aI (aJ cF aA O O (by decide) (by decide) O) ?_;simp only[zz];refine Tc O (fun u m=>((m.b 0 O).lies aG aA O O)) ?_;simp only[zz,zy,aq,aa,ag,ad];refine Hj O O (Dx (p:=p.a) (q:=q.a)) (aI (aJ cF aA O O (by decide) (by decide) O) ?_);simp only[zz];refine Tc O (fun u m=>((m.b 1 O).lies aG aA O O)) ?_;simp only[zz,zy,aq,aa,ag,ad];refine aI (aJ cF aA O O (by decide) (by decide) O) ?_;simp only[zz];refine Tc O (fun u m=>((m.b 0 O).lies aG aA O O)) ?_;simp only[zz,zy,aq,aa,ag,ad];refine Hj O O (Dx (p:=p.b) (q:=q.b)) (aI (aJ cF aA O O (by decide) (by decide) O) ?_);simp only[zz];refine Tc O (fun u m=>((m.b 1 O).lies aG aA O O)) ?_;simp only[zz,zy,aq,aa,ag,ad];refine aI (aJ cF aA O O (by decide) (by decide) O) ?_;simp only[zz];refine Tc O (fun u m=>((m.b 0 O).lies aG aA O O)) ?_;simp only[zz,zy,aq,aa,ag,ad];refine Hj O O (Dx (p:=p.c) (q:=q.c)) (bC ?_);intro u m;simp only[zz];refine abk m dN (z:=.int .i64 0) (by kernel_rfl) O O O O O O O ?_;intro g3 u m;simp only[zz];refine Za m O O (aje _ (m.b 0 O)) ?_;intro u m;refine aC aO (aM (k2 _ _ ?_));try clear k2 K2
 refine jb ?_;simp only[zz];try simp only[cw,Exit.then,if_true]
 refine aT O O ?_;try simp only[zD,zE]
 exact⟨_,O,m.ext,O⟩
theorem apf{p:P3}(h:p.x=q.x∧p.y=q.y∧p.z=q.z):(0:Int)=qK p q:=(nK.2 (P3.eq h.1 h.2.1 h.2.2)).symm
theorem apg{p:P3}(h:p.Lt q):(-1:Int)=qK p q:=(if_pos h).symm
theorem aph{p:P3}(h1:¬(p.x=q.x∧p.y=q.y∧p.z=q.z))(h2:¬p.Lt q):(1:Int)=qK p q:=by
 unfold qK;rcases P3.lt_tri p q with h | h | h
 · exact absurd h h2
 · exact absurd (by rw[h];exact⟨O,O,O⟩) h1
 · rw[if_neg h2,if_pos h]
theorem Rx{p:P3}:sT prog 70 [pt p,pt q] (.int .i64 (qK p q)):=by
 intro w;refine⟨bJ func70 (by kernel_rfl),?_⟩;have m:=iU.refl w
 go_enter func70,ntmps70
 refine bG fun K1 k1=>ao (oL m O ?_);intro g1 u m;simp only[zz];refine oL m O ?_;intro g2 u m;refine aC aO (aM (k1 _ _ ?_));try clear k1 K1
 refine bG fun K2 k2=>jm (bG fun K3 k3=>ao ?_);simp only[zz];refine aS O ((m.b 1 O).full aG aA) ?_;simp only[zz];refine aS O ((m.b 0 O).full aG aA) ?_;simp only[zz];refine aC (cB O O) (aC aO (aM (k3 _ _ ?_)));try clear k3 K3
 simp only[zz];refine bD O ?_ ?_<;>intro hc1
 ·
  refine bG fun K4 k4=>ao (aC aO (aM (k4 _ _ ?_)));try clear k4 K4
  refine jb ?_;simp only[zz];try simp only[cw,Exit.then,if_true]
  refine aT O O ?_;try simp only[zD,zE]
  exact⟨_,O,m.ext,by rw[←apf hc1]⟩
 ·
  refine bG fun K5 k5=>ao (aS O ((m.b 1 O).full aG aA) ?_);simp only[zz];refine aS O ((m.b 0 O).full aG aA) ?_;simp only[zz];refine Nq m O O (tP (p:=p) (q:=q)) ?_;intro u m;refine aC aO (aM (k5 _ _ ?_));try clear k5 K5
  simp only[zz];refine bD O ?_ ?_<;>intro hc2
  ·
   refine bG fun K6 k6=>ao (aC aO (aM (k6 _ _ ?_)));try clear k6 K6
   refine jb ?_;simp only[zz];try simp only[cw,Exit.then,if_true]
   refine aT O O ?_;try simp only[zD,zE]
   exact⟨_,O,m.ext,by rw[←apg hc2]⟩
  ·
   refine jp (k2 _ _ ?_);try clear k2 K2
   refine bG fun K7 k7=>ao (aC aO (aM (k7 _ _ ?_)));try clear k7 K7
   refine jb ?_;simp only[zz];try simp only[cw,Exit.then,if_true]
   refine aT O O ?_;try simp only[zD,zE]
   exact⟨_,O,m.ext,by rw[←aph hc1 hc2]⟩
end Go.Proofs.YtfekpcimgncioaaGreatDoor
namespace Go.Proofs.YtfekpcimgncioaaGreatDoor
open Go.Proofs.Tryz
open Go.RowKit Go.Lith
set_option maxRecDepth 100000
attribute [local irreducible] ar cl fU bS cO Code.wp
attribute [local congr] pD gF gG gH gI gJ kL gK gL gM gN gQ gR gS gT gU gV gW eU eV gX gY iA iB iC kN dF dG cW dD gZ kM eW eX eY iD iE kO
variable{ts:List T3}{cap:Nat}{u x q:P3}{t:T3}
theorem af4{w0 w:aj}{is:List It}{A:Option Addr}{n cap:Nat}{xs:List T3}(m:Mem w0 w is)(k:Nat)(hi:is[k]? = some (oI 39 9 A n cap (xs.flatMap aN)))(hsz:n<4611686018427387904) :
 Calls prog 112 [.slice A n cap,.func (.func 113) #[] #[]].toArray w fun e w'=>∃v i,e=.returned v∧Mem w0 w' (is.set k i)∧(v=.tuple #[]∧∃ys:List T3,i=oI 39 9 A n cap (ys.flatMap aN)∧ys.Perm xs∧ys.Pairwise fun a b=>ltOf adf b a=false) :=
 Bu (enc:=aN) Tryz.sort112 (fun w=>pK cA w) (fun w=>eG aP w) (fun _=>rfl) (by decide) Ze adf ajf (fun x y=>amj) m k hi hsz
theorem adg{ys:List T3}(h:ys.Perm (ts.map dU))(hs:ys.Pairwise fun a b=>Go.Proofs.ltOf adf b a=false):ys=eC ts :=
 aij h (hs.imp fun {a b} h k=>by
  have:=(Ja b a).2 k;simp[Go.Proofs.ltOf] at h;omega)
theorem abo{N:Nat}{A:Option Addr}(w:aj)(hT:bU w A N ts)(hN:N≤10000000):dA prog 55 [.slice A N cap] w (SL 39 9 ((eC ts).flatMap aN) ts.length w):=by
 refine⟨bJ func55 (by kernel_rfl),?_⟩;have m:=Mem.refl w;have htl:=hT.len
 go_enter func55,ntmps55
 apply fI 6 [0] m;simp only[↓aD];refine aC aO ?_;replace m:=m.nilO 39 9;apply aL 9 [0] m;simp only[↓aD,iM];refine bX [3,8] [5,9,10,11,12,13,14,15,16,17] (fun n vs wl=>∃(k:Nat) (A1:Option Addr) (cap1:Nat),vs=[.slice A1 k cap1,.int .i64 (k:Int)]∧Mem w wl [oI 39 9 A1 k cap1 (((ts.take k).map dU).flatMap aN)]∧(k≤N)∧(n=N-k)) ?_ ?_
 ·
  exact⟨_,0,_,_,O,m,bw _,O⟩
 · intro n vs wr hI u K1 hK1
   obtain⟨k,A1,cap1,rfl,m,hk,hn⟩:=hI;simp only[zu,zF,zG];apply aK 5 [0,0] m;simp only[↓aD];refine bD O ?_ ?_<;>intro hc1
   ·
    obtain⟨t,ht,_,a,rfl,hrow⟩:=hT.get (i:=k) (by omega);apply aK 5 [0] m;simp only[↓aD];refine aC (aF cD aP O O (by omega) (by omega) (bZ (ah _))) ?_;simp only[zz];refine aS O ((hrow.ext m.ext).lies cA aP) ?_;simp only[zz];apply jS 6 [0,0,0] m;simp only[↓aD,lM,eA,aa];intro g1 u m;refine lD m O O af3 ?_;intro u m;simp only[zz];refine eZ O ?_;intro u g2 e_ h_ k_;replace m:=m.newB e_ h_ k_;simp only[zz];refine bM m 2 O O cD jK O (by decide) O O O (m.b 0 O).rowsO (fV O) (by omega) (by omega) ?_;intro A1 cap1 u m;simp only[zF,zG] at m;rw[show ((ts.take k).map dU).flatMap aN++_=((ts.take (k+1)).map dU).flatMap aN by rw[cH ht,cv,a_];rfl] at m;apply aL 7 [0] m;simp only[↓aD];refine⟨by omega,?_⟩;exact hK1 (N-(k+1)) _ _ (by omega) (by kernel_rfl) ⟨k+1,_,_,O,(m.sel [false,false,true]),by omega,O⟩
   ·
    obtain rfl:k=N:=by omega
    rw[show ts.take k=ts from ay (by omega)] at m;apply aK 4 [0] m;simp only[↓aD];refine mL m 0 (bJ func112 (by kernel_rfl)) O O (fun m=>af4 m 0 O (by omega)) ?_;rintro v i u m ⟨rfl,ys,rfl,hys,hso⟩;simp only[zF,zG] at m;simp only[zz];obtain rfl:=adg hys hso;apply aL 7 [] m;simp only[↓aD];exact aT O O ⟨_,O,m.ext,⟨_,_,_,htl.symm,O,(m.o 0 O)⟩⟩
theorem Wg{v:P3}(h:x.x=u.x∧x.y=u.y∧x.z=u.z):sK u v x=v:=by
 rw[show x=u from P3.eq h.1 h.2.1 h.2.2];exact aqt
theorem Ln{v:P3}(h:¬(x.x=u.x∧x.y=u.y∧x.z=u.z)):sK u v x=x:=aqu fun e=>h (by rw[e];exact⟨rfl,rfl,rfl⟩)
theorem pne{p:P3}:decide (¬(p.x=q.x∧p.y=q.y∧p.z=q.z))=decide (p≠q):=decide_eq_decide.2 ⟨fun h e=>h (by rw[e];exact⟨rfl,rfl,rfl⟩),fun h e=>h (P3.eq e.1 e.2.1 e.2.2)⟩
theorem aeB{p:P3}:dS prog 54 [tr t,pt p,pt q] (.tuple #[tr (jV p q t),.bool (jV p q t).nd]):=by
 intro w;refine⟨bJ func54 (by kernel_rfl),?_⟩;have m:=Mem.refl w
 go_enter func54,ntmps54
 apply iY 31 [4,1,0] m;simp only[↓aD,lM];intro g1 g2 g3 g4;refine⟨by omega,?_⟩;intro u m;refine mq m aB (by kernel_rfl) (dZ 4 [3,2] ?_);simp only[↓aD,bR,aQ,ad,ag,aa];refine⟨by omega,?_⟩;refine aI (cB O O) (bC ?_);intro u m;refine gc ?_;simp only[zz];refine iP m 3 [] [17,18,19] (fun vs i=>vs=[]∧i=bI g1 [.int .i64 (sK p q t.a).x,.int .i64 (sK p q t.a).y,.int .i64 (sK p q t.a).z,.int .i64 (t.b).x,.int .i64 (t.b).y,.int .i64 (t.b).z,.int .i64 (t.c).x,.int .i64 (t.c).y,.int .i64 (t.c).z] 39) ?_ ?_
 · intro K1 hK1
   refine bD O ?_ ?_<;>intro hc2
   ·
    apply Vf 6 [1,3,0] m;simp only[↓aD,aQ,bR,ad,ag,aa];refine⟨by omega,?_⟩;intro u m;exact hK1 _ _ _ (by kernel_rfl) m ⟨O,by rw[Wg hc2] <;> rfl⟩
   ·
    apply aK 1 [0] m;simp only[↓aD];exact hK1 _ _ _ (by kernel_rfl) m ⟨O,by rw[Ln hc2] <;> rfl⟩
 · intro vs i wr m hI u
   obtain⟨rfl,rfl⟩:=hI;simp only[zF,zG] at m;simp only[zu,zF,zG];apply aU 21 [1,0] m;simp only[↓aD,ak];refine⟨by omega,?_⟩;refine mq m aB (by kernel_rfl) (dZ 4 [3,2] ?_);simp only[↓aD,bR,aQ,ad,ag,aa];refine⟨by omega,?_⟩;refine aI (cB O O) (bC ?_);intro u m;refine gc ?_;simp only[zz];refine iP m 3 [] [17,18,19] (fun vs i=>vs=[]∧i=bI g1 [.int .i64 (sK p q t.a).x,.int .i64 (sK p q t.a).y,.int .i64 (sK p q t.a).z,.int .i64 (sK p q t.b).x,.int .i64 (sK p q t.b).y,.int .i64 (sK p q t.b).z,.int .i64 (t.c).x,.int .i64 (t.c).y,.int .i64 (t.c).z] 39) ?_ ?_
   · intro K2 hK2
     refine bD O ?_ ?_<;>intro hc2
     ·
      apply Vf 6 [1,3,0] m;simp only[↓aD,aQ,bR,ad,ag,aa];refine⟨by omega,?_⟩;intro u m;exact hK2 _ _ _ (by kernel_rfl) m ⟨O,by rw[Wg hc2] <;> rfl⟩
     ·
      apply aK 1 [0] m;simp only[↓aD];exact hK2 _ _ _ (by kernel_rfl) m ⟨O,by rw[Ln hc2] <;> rfl⟩
   · intro vs i wr m hI u
     obtain⟨rfl,rfl⟩:=hI;simp only[zF,zG] at m;simp only[zu,zF,zG];apply aU 21 [1,0] m;simp only[↓aD,ak];refine⟨by omega,?_⟩;refine mq m aB (by kernel_rfl) (dZ 4 [3,2] ?_);simp only[↓aD,bR,aQ,ad,ag,aa];refine⟨by omega,?_⟩;refine aI (cB O O) (bC ?_);intro u m;refine gc ?_;simp only[zz];refine iP m 3 [] [17,18,19] (fun vs i=>vs=[]∧i=bI g1 [.int .i64 (sK p q t.a).x,.int .i64 (sK p q t.a).y,.int .i64 (sK p q t.a).z,.int .i64 (sK p q t.b).x,.int .i64 (sK p q t.b).y,.int .i64 (sK p q t.b).z,.int .i64 (sK p q t.c).x,.int .i64 (sK p q t.c).y,.int .i64 (sK p q t.c).z] 39) ?_ ?_
     · intro K3 hK3
       refine bD O ?_ ?_<;>intro hc2
       ·
        apply Vf 6 [1,3,0] m;simp only[↓aD,aQ,bR,ad,ag,aa];refine⟨by omega,?_⟩;intro u m;exact hK3 _ _ _ (by kernel_rfl) m ⟨O,by rw[Wg hc2] <;> rfl⟩
       ·
        apply aK 1 [0] m;simp only[↓aD];exact hK3 _ _ _ (by kernel_rfl) m ⟨O,by rw[Ln hc2] <;> rfl⟩
     · intro vs i wr m hI u
       obtain⟨rfl,rfl⟩:=hI;simp only[zF,zG] at m;simp only[zu,zF,zG];apply aU 14 [2,0] m;simp only[↓aD,ak];refine⟨by omega,?_⟩;refine mh m [false,true,true,true] [(1,true),(3,true),(0,true),(2,true),(4,true),(5,true),(6,true),(7,true),(9,true),(8,true),(10,true),(11,true),(12,true),(13,true),(14,true),(16,true),(15,true),(17,true),(18,true),(19,true),(20,false),(21,true)] aB (by kernel_rfl) (bQ (fun _ _ _ _ _ h=>h)) (ol:=?_) ?hol ?_
       case hol=>simp only[zw,zQ,zR];try rfl
       intro u m;refine Hv 5 [2,2,2] ?_;simp only[↓aD,bR,eA,aQ,ad,ag,aa];refine⟨by omega,?_⟩;refine aZ (fH O O) (aZ aH (kQ O (fun hb=>aJ cF aA O O (by decide) (by decide) O) (kQ O (fun hb=>aJ cF aA O O (by decide) (by decide) O) ?_)));simp only[zz];refine vH O (fun hb u m=>aY (aX hb O) ((m.b 2 O).lies aG aA O O)) ?_;simp only[zz,zy,aq,aa,ag,ad];refine vH O (fun hb u m=>aY (aX hb O) ((m.b 2 O).lies aG aA O O)) ?_;simp only[zz,zy,aq,aa,ag,ad];refine kQ O (fun hb=>fH (aX hb O) (aX hb O)) (aZ (bW O O O) (aZ aH (kQ O (fun hb=>aJ cF aA O O (by decide) (by decide) O) ?_)));simp only[zz];refine kQ O (fun hb=>aJ cF aA O O (by decide) (by decide) O) ?_;simp only[zz];refine vH O (fun hb u m=>aY (aX hb O) ((m.b 2 O).lies aG aA O O)) ?_;simp only[zz,zy,aq,aa,ag,ad];refine vH O (fun hb u m=>aY (aX hb O) ((m.b 2 O).lies aG aA O O)) ?_;simp only[zz,zy,aq,aa,ag,ad];refine kQ O (fun hb=>fH (aX hb O) (aX hb O)) (aZ (bW O O O) (bL ?_));simp only[zz];refine bN m 0 O O O aP (iK O) O ?_;intro u m;simp only[zy,zx,over,zF,zG,aa] at m;refine aM ⟨m.sel [false,true,true,true],?_⟩;refine aZ aO (bY ?_);apply aU 1 [] m;simp only[↓aD];refine uA O ⟨_,O,((m.b 0 O).full cA aP)⟩ O ?_;try simp only[zD,zE]
       exact⟨_,O,m.ext,by rw[pne,pne,pne] <;> rfl⟩
theorem Wh{p:P3}{k:Nat}(h:ts[k]? = some t):pE p q (ts.take (k+1))=pE p q (ts.take k)++if (jV p q t).nd then [jV p q t] else []:=by
 rw[cH h];unfold pE;rw[cv,gj]
 congr 1
 rw[bh,cq,List.filter_cons,List.filter_nil]
theorem yW{p:P3}(hq:I3 q)(hx:I3 x):I3 (sK p q x):=by
 unfold sK;split
 · exact hq
 · exact hx
theorem Od{p:P3}(hq:I3 q)(h:∀t∈ts,IT t):∀t∈pE p q ts,IT t:=fun t ht=>by
 obtain⟨s,hs,rfl⟩:=List.mem_map.1 (c_.1 ht).1;have:=h s hs;exact⟨yW hq this.a,yW hq this.b,yW hq this.c⟩
theorem Ry{p:P3}(ts:List T3):(oQ ts p q).length=(pE p q ts).length:=rF _
theorem Gi{N:Nat}{A:Option Addr}{p:P3}[I3 p][I3 q](w:aj)(hT:bU w A N ts)(hN:N≤10000000):dA prog 22 [.slice A N cap,pt p,pt q] w (SL 39 9 ((oQ ts p q).flatMap aN) (oQ ts p q).length w):=by
 refine⟨bJ func22 (by kernel_rfl),?_⟩;have m:=Mem.refl w;have htl:=hT.len
 go_enter func22,ntmps22
 apply iY 8 [0] m;simp only[↓aD];intro g1 g2 u m;refine aC aO ?_;replace m:=m.nilO 39 9;apply aL 9 [0] m;simp only[↓aD,iM];refine bX [7,14] [9,10,11,15,16,17,18,19,20,21,22,23,24,25,26,27,28,29,30] (fun n vs wl=>∃(k:Nat) (A7:Option Addr) (cap7:Nat),vs=[.slice A7 (pE p q (ts.take k)).length cap7,.int .i64 (k:Int)]∧Mem w wl [oI 39 9 A7 (pE p q (ts.take k)).length cap7 ((pE p q (ts.take k)).flatMap aN),bI g2 [.int .i64 q.x,.int .i64 q.y,.int .i64 q.z] 30,bI g1 [.int .i64 p.x,.int .i64 p.y,.int .i64 p.z] 30]∧(k≤N)∧(n=N-k)) ?_ ?_
 ·
  exact⟨_,0,_,_,O,m,bw _,O⟩
 · intro n vs wr hI u K1 hK1
   obtain⟨k,A7,cap7,rfl,m,hk,hn⟩:=hI;simp only[zu,zF,zG];apply aK 5 [0,0] m;simp only[↓aD];refine bD O ?_ ?_<;>intro hc1
   ·
    obtain⟨t,ht,_,a,rfl,hrow⟩:=hT.get (i:=k) (by omega);have hcs:=Wh (p:=p) (q:=q) ht;have hcl:=Ij p q (ts.take k);rw[bv] at hcl;apply aK 5 [0] m;simp only[↓aD];refine aC (aF cD aP O O (by omega) (by omega) (bZ (ah _))) ?_;simp only[zz];refine aS O ((hrow.ext m.ext).lies cA aP) ?_;simp only[zz];apply jS 8 [0,0,3,2,0] m;simp only[↓aD,lM,eA,aQ,aa];intro g3 u m;refine nF m O O (aeB (t:=t) (p:=p) (q:=q)) 11 [0,0] ?_;simp only[↓aD,lM,eA,aa];intro g4 u m;refine cR O ?_ ?_<;>intro hc2
    ·
     rw[hc2,if_pos rfl] at hcs;apply aK 3 [0,0] m;simp only[↓aD,eA];refine eZ O ?_;intro u g5 e_ h_ k_;replace m:=m.newB e_ h_ k_;simp only[zz];refine bM m 3 O O cD jK O (by decide) O O O (m.b 0 O).rowsO (fV O) (by omega) (by omega) ?_;intro A7 cap7 u m;simp only[zF,zG] at m;rw[show (pE p q (ts.take k)).flatMap aN++_=(pE p q (ts.take (k+1))).flatMap aN by rw[hcs,a_];rfl] at m;have hll:(pE p q (ts.take k)).length+1=(pE p q (ts.take (k+1))).length:=by rw[hcs,au];rfl
     rw[hll] at m;rw[hll];apply aL 7 [0] m;simp only[↓aD];refine⟨by omega,?_⟩;exact hK1 (N-(k+1)) _ _ (by omega) (by kernel_rfl) ⟨k+1,_,_,O,(m.sel [false,false,false,true,true,true]),by omega,O⟩
    ·
     rw[hc2,if_neg Bool.false_ne_true,fe] at hcs;apply aK 6 [0] m;simp only[↓aD];refine⟨by omega,?_⟩;rw[←hcs] at m ⊢;exact hK1 (N-(k+1)) _ _ (by omega) (by kernel_rfl) ⟨k+1,_,_,O,(m.sel [false,false,true,true,true]),by omega,O⟩
   ·
    obtain rfl:k=N:=by omega
    rw[show ts.take k=ts from ay (by omega)] at m ⊢;apply aK 4 [0] m;simp only[↓aD];refine bH O O (abo (ts:=pE p q ts) _ ((m.o 0 O).tris (Od inferInstance hT.it)) (by have:=Ij p q ts;omega)) ?_;rintro v u e_ ⟨A8,cap8,n8,hn8,rfl,h_⟩;replace m:=m.newO e_ h_;apply aL 3 [] m;simp only[↓aD];exact aT O O ⟨_,O,m.ext,⟨_,_,_,by rw[hn8,Ry],O,(m.o 0 O)⟩⟩
end Go.Proofs.YtfekpcimgncioaaGreatDoor
namespace Go.Lith
open Go.RowKit
variable{q x:P3}
def pF(D:List (P3 × Hd))(p:P3):Hd:=(cL D p).getD ⟨none,0,0⟩
def nbK(p:P3)(q:P3):List P3:=if q≠p then [q] else []
def nbT(p:P3)(t:T3):List P3:=nbK p t.a++nbK p t.b++nbK p t.c
def nL(ts:List T3)(p:P3):List P3:=(ts.filter fun t=>t.has p).flatMap (nbT p)
theorem Dy{p:P3}:x∈nbK p q↔x=q∧x≠p:=by
 unfold nbK;split
 · rename_i h;rw[bf];exact⟨fun e=>⟨e,e▸h⟩,fun e=>e.1⟩
 · rename_i h;exact⟨fun e=>(by cases e),fun e=>absurd (e.1▸e.2) h⟩
theorem sC{ts:List T3}{p:P3}:x∈nL ts p↔Nj ts p x=true:=by
 unfold nL;rw[Rb,Ic,List.mem_flatMap];constructor
 · rintro⟨t,ht,hx⟩
   obtain⟨h1,h2⟩:=c_.1 ht;unfold nbT at hx;rw[bi,bi,Dy,Dy,Dy] at hx;have hne:x≠p:=by rcases hx with (h | h) | h <;> exact h.2
   have hh:t.has x=true:=fE.2 (by rcases hx with (h | h) | h <;> simp[h.1]);exact⟨hne,t,h1,h2,hh⟩
 · rintro⟨hne,t,h1,h2,hh⟩
   refine⟨t,c_.2 ⟨h1,h2⟩,?_⟩;unfold nbT;rw[bi,bi,Dy,Dy,Dy];rcases fE.1 hh with e | e | e
   · exact .inl (.inl ⟨e,hne⟩)
   · exact .inl (.inr ⟨e,hne⟩)
   · exact .inr ⟨e,hne⟩
theorem ajg{p:P3}(h:¬(q.x=p.x∧q.y=p.y∧q.z=p.z)):nbK p q=[q]:=if_pos fun e=>h (by rw[e];exact⟨rfl,rfl,rfl⟩)
theorem ajh{p:P3}(h:¬¬(q.x=p.x∧q.y=p.y∧q.z=p.z)):nbK p q=[]:=if_neg fun k=>h fun e=>k (P3.eq e.1 e.2.1 e.2.2)
theorem aji{fs:List T3}{p:P3}{k:Nat}{t:T3}(h:fs[k]? = some t):(fs.take (k+1)).flatMap (nbT p)=(fs.take k).flatMap (nbT p)++nbK p t.a++nbK p t.b++nbK p t.c:=by
 rw[cH h,a_,List.flatMap_cons,List.flatMap_nil,fe];unfold nbT;simp only[dl]
end Go.Lith
namespace Go.Proofs.YtfekpcimgncioaaGreatDoor
open Go.Proofs.Tryz
open Go.RowKit Go.Lith
set_option maxRecDepth 100000
attribute [local irreducible] ar cl fU bS cO Code.wp
attribute [local congr] pD gF gG gH gI gJ kL gK gL gM gN gQ gR gS gT gU gV gW eU eV gX gY iA iB iC kN dF dG cW dD gZ kM eW eX eY iD iE kO
variable{cap ca na nb cb:Nat}{A:Option Addr}{xs ys:List Nat}
theorem Zf{g90 ga gf N:Nat}{ea:Array ck}{D:List (P3 × Hd)}{ts:List T3}{p:P3}(w:aj)(hB90:fR w g90 [.slice A N cap,.map (some ga),.map (some gf)] 109)(hMa:jO w ga ea ca)(hDa:bT pt Hd.v D ea ca)(hS:∀p,bU w (pF D p).A (pF D p).n (ts.filter fun t=>t.has p)∧(pF D p).n≤(pF D p).cap)(hN:ts.length≤10000000):dA prog 62 [.pointer (some ⟨g90,0,none⟩),pt p] w (fun v w'=>∃g es c,v=.map (some g)∧Mem w w' [mI g es c]∧bT pt bj (fZ [] (nL ts p)) es c):=by
 refine⟨bJ func62 (by kernel_rfl),?_⟩;have m:=Mem.refl w
 go_enter func62,ntmps62
 apply iY 7 [0] m;simp only[↓aD];intro g1 u m;refine lZ m ?_;intro q8 u m;have hD8:=bT.nil (K:=P3) (V:=Bool) pt bj;apply aL 4 [0] m;simp only[↓aD];refine mq m aB (by kernel_rfl) (dZ 3 [] ?_);simp only[↓aD,Rh,aa];refine ql O (fun u m=>((hB90.ext m.ext).lies1 ad5 O)) ?_;simp only[zz];refine ql O (fun u m=>((m.b 1 O).full aG aA)) ?_;simp only[zz];refine kP (fun u m=>eH (ek:=pt) (en:=Hd.v) (k:=p) (v0:=⟨none,0,0⟩) underlying106 ad3 gC O O (hMa.ext m.ext) hDa) ?_;simp only[zz];refine aI (Jw O cD O) (aI aH (bC ?_));intro u m;simp only[zz];obtain⟨⟨A9,n9,cap9⟩,hhe⟩:∃h:Hd,h=(cL D p).getD ⟨none,0,0⟩:=⟨_,rfl⟩
 have hT9:=hS p;unfold pF at hT9;rw[←hhe] at hT9;obtain⟨hT9,hle9⟩:=hT9;simp only at hT9 hle9;have hl9:=hT9.len;have hfl:=fm (fun t=>T3.has t p) ts;rw[←hhe];simp only[Hd.v];apply aU 1 [0] m;simp only[↓aD];refine bX [18] [7,9,19,20,21,22,23,24,25,26,27,28,29,30,31,32] (fun n vs wl=>∃(k:Nat) (es:Array ck) (c:Nat),vs=[.int .i64 (k:Int)]∧Mem w wl [mI q8 es c,bI g1 [.int .i64 p.x,.int .i64 p.y,.int .i64 p.z] 30]∧(bT pt bj (fZ [] (((ts.filter fun t=>t.has p).take k).flatMap (nbT p))) es c)∧(k≤n9)∧(n=n9-k)) ?_ ?_
 ·
  exact⟨_,0,_,_,O,m,hD8,bw _,O⟩
 · intro n vs wr hI u K1 hK1
   obtain⟨k,es8,c8,rfl,m,hD8,hk,hn⟩:=hI;simp only[zu,zF,zG];apply aK 5 [0,0] m;simp only[↓aD];refine bD O ?_ ?_<;>intro hc1
   ·
    obtain⟨t,ht,_,a,rfl,hrow⟩:=hT9.get (i:=k) (by omega);apply aK 5 [0] m;simp only[↓aD];refine aC (aF cD aP O O (by omega) (by omega) (bZ (ah _))) ?_;simp only[zz];refine aS O ((hrow.ext m.ext).lies cA aP) ?_;simp only[zz];apply jS 22 [0,0,4,1,0] m;simp only[↓aD,lM,eA,aa];intro g3;refine⟨by omega,?_⟩;intro u m;refine aC (tJ O O) ?_;apply jS 7 [0,0,3,0] m;simp only[↓aD,eS,aQ,aa];intro g4 u m;refine aC (fH O O) ?_;apply aL 1 [0] m;simp only[↓aD];refine iP m 2 [] [29,30] (fun vs i=>∃(es:Array ck) (c:Nat),vs=[]∧i=mI q8 es c∧(bT pt bj (fZ [] ((((ts.filter fun t=>t.has p).take k).flatMap (nbT p))++nbK p t.a)) es c)) ?_ ?_
    · intro K2 hK2
      refine bD O ?_ ?_<;>intro hc3
      ·
       apply aK 3 [0,0] m;simp only[↓aD,aQ];refine nI (ek:=pt) (en:=bj) (a:=t.a) (v:=true) m 2 O nP gC O O O hD8 ?_;intro es8 c8 u m hD8;simp only[zF,zG] at m;rw[←mH] at hD8;apply aL 1 [0] m;simp only[↓aD];exact hK2 _ _ _ (by kernel_rfl) m ⟨_,_,O,O,by rw[ajg hc3];exact hD8⟩
      ·
       apply aK 1 [0] m;simp only[↓aD];exact hK2 _ _ _ (by kernel_rfl) m ⟨_,_,O,O,by rw[ajh hc3,fe];exact hD8⟩
    · intro vs i wr m hI u
      obtain⟨es8,c8,rfl,rfl,hD8⟩:=hI;simp only[zF,zG] at m;simp only[zu,zF,zG];apply aU 17 [1,0] m;simp only[↓aD,ak];refine⟨by omega,?_⟩;refine aC (tK O O) ?_;apply jS 7 [0,0,4,0] m;simp only[↓aD,eS,aQ,aa];intro g5 u m;refine aC (fH O O) ?_;apply aL 1 [0] m;simp only[↓aD];refine iP m 3 [] [29,30] (fun vs i=>∃(es:Array ck) (c:Nat),vs=[]∧i=mI q8 es c∧(bT pt bj (fZ [] (((((ts.filter fun t=>t.has p).take k).flatMap (nbT p))++nbK p t.a)++nbK p t.b)) es c)) ?_ ?_
      · intro K3 hK3
        refine bD O ?_ ?_<;>intro hc3
        ·
         apply aK 3 [0,0] m;simp only[↓aD,aQ];refine nI (ek:=pt) (en:=bj) (a:=t.b) (v:=true) m 3 O nP gC O O O hD8 ?_;intro es8 c8 u m hD8;simp only[zF,zG] at m;rw[←mH] at hD8;apply aL 1 [0] m;simp only[↓aD];exact hK3 _ _ _ (by kernel_rfl) m ⟨_,_,O,O,by rw[ajg hc3];exact hD8⟩
        ·
         apply aK 1 [0] m;simp only[↓aD];exact hK3 _ _ _ (by kernel_rfl) m ⟨_,_,O,O,by rw[ajh hc3,fe];exact hD8⟩
      · intro vs i wr m hI u
        obtain⟨es8,c8,rfl,rfl,hD8⟩:=hI;simp only[zF,zG] at m;simp only[zu,zF,zG];apply aU 17 [1,0] m;simp only[↓aD,ak];refine⟨by omega,?_⟩;refine aC (tL O O) ?_;apply jS 7 [0,0,5,0] m;simp only[↓aD,eS,aQ,aa];intro g6 u m;refine aC (fH O O) ?_;apply aL 1 [0] m;simp only[↓aD];refine iP m 4 [] [29,30] (fun vs i=>∃(es:Array ck) (c:Nat),vs=[]∧i=mI q8 es c∧(bT pt bj (fZ [] ((((((ts.filter fun t=>t.has p).take k).flatMap (nbT p))++nbK p t.a)++nbK p t.b)++nbK p t.c)) es c)) ?_ ?_
        · intro K4 hK4
          refine bD O ?_ ?_<;>intro hc3
          ·
           apply aK 3 [0,0] m;simp only[↓aD,aQ];refine nI (ek:=pt) (en:=bj) (a:=t.c) (v:=true) m 4 O nP gC O O O hD8 ?_;intro es8 c8 u m hD8;simp only[zF,zG] at m;rw[←mH] at hD8;apply aL 1 [0] m;simp only[↓aD];exact hK4 _ _ _ (by kernel_rfl) m ⟨_,_,O,O,by rw[ajg hc3];exact hD8⟩
          ·
           apply aK 1 [0] m;simp only[↓aD];exact hK4 _ _ _ (by kernel_rfl) m ⟨_,_,O,O,by rw[ajh hc3,fe];exact hD8⟩
        · intro vs i wr m hI u
          obtain⟨es8,c8,rfl,rfl,hD8⟩:=hI;simp only[zF,zG] at m;simp only[zu,zF,zG];apply aU 18 [2,0] m;simp only[↓aD,ak];refine⟨by omega,?_⟩;exact hK1 (n9-(k+1)) _ _ (by omega) (by kernel_rfl) ⟨k+1,_,_,O,(m.sel [false,false,false,false,true,true]),by rw[aji ht];exact hD8,by omega,O⟩
   ·
    obtain rfl:k=n9:=by omega
    rw[show (ts.filter fun t=>t.has p).take k=ts.filter fun t=>t.has p from ay (by omega)] at hD8;apply aK 7 [] m;simp only[↓aD];exact aT O O ⟨_,O,m.ext,_,_,_,O,m.sel [true,false],hD8⟩
theorem mB{os:List Nat}{x:Nat}:os.map rW++[.int .i64 (x:Int)]=(os++[x]).map rW:=by simp[rW]
theorem Rz{w0 w:aj}{S:List (Option Nat)}{E:TypeId}{n:Nat}{os:List Nat}(h:Ow w0 w S E 1 A n cap (os.map rW))(hn:n=os.length)(hd:eO 65536 os)(hl:n≤17592186044416):gB w w.heap.size A n cap os∧∀a,A=some a→w0.heap.size≤a.block:=by
 obtain⟨_,_,e,r⟩:=gB.of_owns (show agU w w0.heap.size E 1 (.slice A n cap) n _ from h.own) hn hd hl;cases e;exact r
theorem Zg{b:Nat}(w:aj)(hS:gB w b A na cap xs):dA prog 296 [.slice A na cap] w (fun v _=>v=.slice A (trim xs).length cap):=by
 refine⟨bJ func296 (by kernel_rfl),?_⟩;have m:=Mem.refl w;obtain rfl:=hS.eq;have hl:=hS.len;have hle:=hS.le;have hcp:=hS.cap
 go_enter func296,ntmps296
 apply fI 6 [0] m;simp only[↓aD];refine bX [0] [3,4,5,6,7,8,9,10,11,12,13,14,15,16,17,18,19] (fun n vs wl=>∃(k:Nat),vs=[.slice A k cap]∧Mem w wl []∧(k≤xs.length)∧(trim (xs.take k)=trim xs)∧(n=k)) ?_ ?_
 ·
  exact⟨_,xs.length,O,m,av _,by rw[fi],O⟩
 ·
  intro n vs wr hI u K1 hK1;obtain⟨k,rfl,m,hk,ht,hn⟩:=hI;simp only[zu,zF,zG];apply aK 2 [] m;simp only[↓aD];by_cases hk0:0<k
  ·
   obtain⟨a,rfl,hcell,hlt⟩:=hS.get (show k-1<xs.length by omega);apply aU 9 [1,0] m;simp only[↓aD,lA];refine⟨by omega,?_⟩;refine eB O (aC (aF dN aV O O (by omega) (by omega) (jF (show _=k-1 by omega))) (eB O ?_));simp only[zz];refine aS O (lies1 (m.ext.cell hcell) bF) ?_;simp only[zz];apply aL 3 [0,0] m;simp only[↓aD];refine bD O ?_ ?_<;>intro hc1
   ·
    apply aK 7 [0] m;simp only[↓aD,lA];refine⟨by omega,?_⟩;refine aC (nG dN aV O O (show _=k-1 by omega) (by omega) (by omega)) ?_;apply aL 3 [0] m;simp only[↓aD];exact hK1 (k-1) _ _ (by omega) (by kernel_rfl) ⟨k-1,O,m,by omega,Ui hk0 (by omega) hc1 ht,O⟩
   ·
    apply aK 7 [] m;simp only[↓aD];refine aT O O ?_;try simp only[zD,zE]
    exact⟨_,O,m.ext,by rw[←aak hk0 (by omega) hc1 ht]⟩
  ·
   obtain rfl:k=0:=by omega
   apply aU 22 [2] m;simp only[↓aD,lA];refine⟨by omega,?_⟩;refine aT O O ?_;try simp only[zD,zE]
   exact⟨_,O,m.ext,by rw[←aal ht]⟩
theorem af6{B:Option Addr}{b b2:Nat}(w:aj)(hS:gB w b A na ca xs)(hR:gB w b2 B nb cb ys)(tx:iS xs)(ty:iS ys):dA prog 283 [.slice A na ca,.slice B nb cb] w (fun v _=>v=.int .i64 (ord (val 65536 xs) (val 65536 ys))):=by
 refine⟨bJ func283 (by kernel_rfl),?_⟩;have m:=Mem.refl w;obtain rfl:=hS.eq;obtain rfl:=hR.eq;have hl:=hS.len;have hl2:=hR.len
 go_enter func283,ntmps283
 apply fI 13 [0,0] m;simp only[↓aD,lA];refine bD O ?_ ?_<;>intro hc1
 ·
  apply aK 9 [0,0] m;simp only[↓aD,lA];refine bD O ?_ ?_<;>intro hc2
  ·
   apply aK 5 [] m;simp only[↓aD];refine aT O O ?_;try simp only[zD,zE]
   exact⟨_,O,m.ext,by rw[ord,if_pos (nH (by omega) hS.digs hR.digs ty (by omega))]⟩
  ·
   apply aK 6 [] m;simp only[↓aD];refine aT O O ?_;try simp only[zD,zE]
   exact⟨_,O,m.ext,by have:=nH (B:=65536) (by omega) hR.digs hS.digs tx (by omega);rw[ord,if_neg (by omega),if_pos this]⟩
 ·
  apply aK 10 [0] m;simp only[↓aD,lA];refine⟨by omega,?_⟩;refine bX [5] [4,19,20,21,22,23,24,25,26,27,28,29,30,31,32,33,34,35,36,37,38,39,40] (fun n vs wl=>∃(k:Nat),vs=[.int .i64 ((k:Int)-1)]∧Mem w wl []∧(k≤xs.length)∧(xs.drop k=ys.drop k)∧(n=k)) ?_ ?_
  ·
   exact⟨_,xs.length,O,m,av _,by rw[lg,show xs.length=ys.length by omega,lg],O⟩
  ·
   intro n vs wr hI u K1 hK1;obtain⟨k,rfl,m,hk,hd,hn⟩:=hI;simp only[zu,zF,zG];apply aK 6 [0,0] m;simp only[↓aD];refine bD O ?_ ?_<;>intro hc3
   ·
    apply aK 4 [] m;simp only[↓aD];obtain⟨a,rfl,hca,_⟩:=hS.get (show k-1<xs.length by omega);obtain⟨b,rfl,hcb,_⟩:=hR.get (show k-1<ys.length by omega);refine gc (mq m aB (by kernel_rfl) (aI aH (aI aH ?_)));simp only[zz];refine aI (aF dN aV O O (by omega) (by omega) (jF (show _=k-1 by omega))) ?_;simp only[zz];refine ql O (fun u m=>(lies1 (m.ext.cell hca) bF)) ?_;simp only[zz];refine aI aH (aI aH ?_);simp only[zz];refine aI (aF dN aV O O (by omega) (by omega) (jF (show _=k-1 by omega))) ?_;simp only[zz];refine ql O (fun u m=>(lies1 (m.ext.cell hcb) bF)) ?_;simp only[zz];refine aI (qM O O) (bC ?_);intro u m;refine gc ?_;simp only[zz];refine bD O ?_ ?_<;>intro hc4
    ·
     apply aK 2 [] m;simp only[↓aD];have hca:=hS.at (show k-1<xs.length by omega);have hcb:=hR.at (show k-1<ys.length by omega);refine gc (mq m aB (by kernel_rfl) (aI aH (aI aH ?_)));simp only[zz];refine aI (aF dN aV O O (by omega) (by omega) (jF (show _=k-1 by omega))) ?_;simp only[zz];refine ql O (fun u m=>(lies1 (m.ext.cell hca) bF)) ?_;simp only[zz];refine aI aH (aI aH ?_);simp only[zz];refine aI (aF dN aV O O (by omega) (by omega) (jF (show _=k-1 by omega))) ?_;simp only[zz];refine ql O (fun u m=>(lies1 (m.ext.cell hcb) bF)) ?_;simp only[zz];refine aI (qL O O) (bC ?_);intro u m;refine gc ?_;simp only[zz];refine bD O ?_ ?_<;>intro hc5
     ·
      apply aK 5 [] m;simp only[↓aD];refine aT O O ?_;try simp only[zD,zE]
      exact⟨_,O,m.ext,by rw[ord,if_pos (aaW hS.digs (by omega) (by omega) (by omega) hd hc5)]⟩
     ·
      apply aK 6 [] m;simp only[↓aD];refine aT O O ?_;try simp only[zD,zE]
      exact⟨_,O,m.ext,by have:=aaW hR.digs (by omega) (by omega) (by omega) hd.symm (by omega);rw[ord,if_neg (by omega),if_pos this]⟩
    ·
     apply aK 7 [0] m;simp only[↓aD];refine⟨by omega,?_⟩;rw[show ((k:Int)-1-1)=((k-1:Nat):Int)-1 by omega];exact hK1 (k-1) _ _ (by omega) (by kernel_rfl) ⟨k-1,O,m,by omega,ah2 (by omega) (by omega) (by omega) hd (by omega),O⟩
   ·
    apply aK 6 [] m;simp only[↓aD];refine aT O O ?_;try simp only[zD,zE]
    exact⟨_,O,m.ext,by have h0:k=0:=(by omega);subst h0;simp only[List.drop_zero] at hd;rw[hd,ord,if_neg (by omega),if_neg (by omega)]⟩
theorem api{B:Option Addr}(w:aj)(hS:gB w w.heap.size A na ca xs)(hR:gB w w.heap.size B nb cb ys)(hlx:xs.length≤1000000000000)(hly:ys.length≤1000000000000):dA prog 282 [.slice A na ca,.slice B nb cb] w (aoe (val 65536 xs+val 65536 ys) (max xs.length ys.length+1)):=by
 refine⟨bJ func282 (by kernel_rfl),?_⟩;have m:=Mem.refl w;obtain rfl:=hS.eq;obtain rfl:=hR.eq;obtain⟨M,hM⟩:∃M,M=max xs.length ys.length:=⟨_,rfl⟩
 rw[←hM]
 go_enter func282,ntmps282
 apply fI 6 [0] m;simp only[↓aD];refine aC aO ?_;replace m:=m.nilO 3 1;apply aL 11 [0] m;simp only[↓aD];refine bX [5,6,7] [8,9,10,11,12,13,14,15,16,17,18,19,20,21,22,23,24,25,26,27,28,29,30,31,32,33,34,35,36,37,38,39,40,41,42,43,44,45,46,47,48,49,50,51,52] (fun n vs wl=>∃(i c:Nat) (os:List Nat) (A5:Option Addr) (cap5:Nat),vs=[.slice A5 i cap5,.int .i64 (c:Int),.int .i64 (i:Int)]∧Mem w wl [oI 3 1 A5 i cap5 (os.map rW)]∧(os.length=i)∧(val 65536 os+65536^i*c=val 65536 (xs.take i)+val 65536 (ys.take i))∧(eO 65536 os)∧(c≤1)∧(i≤M+1)∧(i=M+1→c=0)∧(n=M+1-i)) ?_ ?_
 ·
  exact⟨_,0,0,[],none,0,O,m,O,by simp[val],mU _,by omega,by omega,fun _=>rfl,O⟩
 ·
  intro n vs wr hI u K1 hK1;obtain⟨i,c,os,A5,cap5,rfl,m,hlo,hv,hd,hc,hi,hic,hn⟩:=hI;simp only[zu,zF,zG];apply aK 2 [] m;simp only[↓aD];rcases (show i<xs.length∨(¬i<xs.length∧i<ys.length)∨(¬i<xs.length∧¬i<ys.length∧0<c)∨(¬i<xs.length∧¬i<ys.length∧c=0) by omega) with hw | ⟨hw,hw2⟩ | ⟨hw,hw2,hw3⟩ | ⟨hw,hw2,rfl⟩
  ·
   apply aU 34 [1,1] m;simp only[↓aD,lA];refine⟨by omega,?_⟩;obtain⟨a,rfl,hca,hla⟩:=hS.get (show i<xs.length by omega);apply aU 4 [0] m;simp only[↓aD];refine aC (aF dN aV O O (by omega) (by omega) (jF (ah _))) ?_;simp only[zz];refine aS O (lies1 (m.ext.cell hca) bF) ?_;simp only[zz];apply aL 3 [] m;simp only[↓aD];refine⟨by omega,?_⟩;obtain⟨s1,hs1⟩:∃s1:Nat,s1=c+xs[i]:=⟨_,rfl⟩
   rw[show ((c:Int)+(xs[i]:Int))=(s1:Int) by omega];have hs2:s1=c+xs[i]?.getD 0:=by rw[am (by omega)];exact hs1
   have hs3:s1<65537:=by omega
   apply aU 8 [0,0] m;simp only[↓aD,lA];refine bD O ?_ ?_<;>intro hc3
   ·
    obtain⟨a2,rfl,hcb,hlb⟩:=hR.get (show i<ys.length by omega);apply aK 4 [0] m;simp only[↓aD];refine aC (aF dN aV O O (by omega) (by omega) (jF (ah _))) ?_;simp only[zz];refine aS O (lies1 (m.ext.cell hcb) bF) ?_;simp only[zz];apply aL 3 [] m;simp only[↓aD];refine⟨by omega,?_⟩;obtain⟨s,hs⟩:∃s:Nat,s=s1+ys[i]:=⟨_,rfl⟩
    rw[show ((s1:Int)+(ys[i]:Int))=(s:Int) by omega];have hs4:s=c+xs[i]?.getD 0+ys[i]?.getD 0:=by rw[am (l:=ys) (by omega)];simp only[df];omega
    have hs5:s<131072:=by omega
    apply aU 4 [0] m;simp only[↓aD];refine aC (cP O O (by omega) (pR (n:=65536))) ?_;simp only[zz];refine gA dN (z:=.int .i64 0) (by kernel_rfl) O O O ?_;intro u g1 e_ h_ k_;replace m:=m.newB e_ h_ k_;simp only[zz];refine bM m 1 O O dN sV O (by decide) O O O (m.b 0 O).rowsO (fV O) (by omega) (by omega) ?_;intro A5 cap5 u m;simp only[zF,zG] at m;simp only[zA,zB,zC,zD,zE,mB] at m;apply aL 4 [0] m;simp only[↓aD];refine aC (jD O O (by omega) (tH (n:=65536) (by omega))) ?_;apply aL 8 [0] m;simp only[↓aD];refine⟨by omega,?_⟩;obtain⟨r1,r2⟩:=yM hlo hv hd hs4;rw[show ((i:Int)+1)=((i+1:Nat):Int) by omega];exact hK1 (M+1-(i+1)) _ _ (by omega) (by kernel_rfl) ⟨i+1,s / 65536,os++[s%65536],A5,cap5,O,(m.sel [false,true]),by simp;omega,r1,r2,by omega,by omega,fun h=>by rw[bz (l:=xs) (by omega),bz (l:=ys) (by omega)] at hs4;simp at hs4;omega,rfl⟩
   ·
    obtain⟨s,hs⟩:∃s:Nat,s=s1:=⟨_,rfl⟩
    rw[←hs];have hs4:s=c+xs[i]?.getD 0+ys[i]?.getD 0:=by rw[bz (l:=ys) (by omega)];simp only[lj];omega
    have hs5:s<131072:=by omega
    apply aK 5 [0] m;simp only[↓aD];refine aC (cP O O (by omega) (pR (n:=65536))) ?_;simp only[zz];refine gA dN (z:=.int .i64 0) (by kernel_rfl) O O O ?_;intro u g1 e_ h_ k_;replace m:=m.newB e_ h_ k_;simp only[zz];refine bM m 1 O O dN sV O (by decide) O O O (m.b 0 O).rowsO (fV O) (by omega) (by omega) ?_;intro A5 cap5 u m;simp only[zF,zG] at m;simp only[zA,zB,zC,zD,zE,mB] at m;apply aL 4 [0] m;simp only[↓aD];refine aC (jD O O (by omega) (tH (n:=65536) (by omega))) ?_;apply aL 8 [0] m;simp only[↓aD];refine⟨by omega,?_⟩;obtain⟨r1,r2⟩:=yM hlo hv hd hs4;rw[show ((i:Int)+1)=((i+1:Nat):Int) by omega];exact hK1 (M+1-(i+1)) _ _ (by omega) (by kernel_rfl) ⟨i+1,s / 65536,os++[s%65536],A5,cap5,O,(m.sel [false,true]),by simp;omega,r1,r2,by omega,by omega,fun h=>by rw[bz (l:=xs) (by omega),bz (l:=ys) (by omega)] at hs4;simp at hs4;omega,rfl⟩
  ·
   apply aU 25 [2,1] m;simp only[↓aD,lA];refine⟨by omega,?_⟩;obtain⟨s1,hs1⟩:∃s1:Nat,s1=c:=⟨_,rfl⟩
   rw[←hs1];have hs2:s1=c+xs[i]?.getD 0:=by rw[bz (by omega)];exact hs1
   have hs3:s1<65537:=by omega
   apply aU 19 [2,1] m;simp only[↓aD,lA];refine⟨by omega,?_⟩;obtain⟨a2,rfl,hcb,hlb⟩:=hR.get (show i<ys.length by omega);apply aU 4 [0] m;simp only[↓aD];refine aC (aF dN aV O O (by omega) (by omega) (jF (ah _))) ?_;simp only[zz];refine aS O (lies1 (m.ext.cell hcb) bF) ?_;simp only[zz];apply aL 3 [] m;simp only[↓aD];refine⟨by omega,?_⟩;obtain⟨s,hs⟩:∃s:Nat,s=s1+ys[i]:=⟨_,rfl⟩
   rw[show ((s1:Int)+(ys[i]:Int))=(s:Int) by omega];have hs4:s=c+xs[i]?.getD 0+ys[i]?.getD 0:=by rw[am (l:=ys) (by omega)];simp only[df];omega
   have hs5:s<131072:=by omega
   apply aU 4 [0] m;simp only[↓aD];refine aC (cP O O (by omega) (pR (n:=65536))) ?_;simp only[zz];refine gA dN (z:=.int .i64 0) (by kernel_rfl) O O O ?_;intro u g1 e_ h_ k_;replace m:=m.newB e_ h_ k_;simp only[zz];refine bM m 1 O O dN sV O (by decide) O O O (m.b 0 O).rowsO (fV O) (by omega) (by omega) ?_;intro A5 cap5 u m;simp only[zF,zG] at m;simp only[zA,zB,zC,zD,zE,mB] at m;apply aL 4 [0] m;simp only[↓aD];refine aC (jD O O (by omega) (tH (n:=65536) (by omega))) ?_;apply aL 8 [0] m;simp only[↓aD];refine⟨by omega,?_⟩;obtain⟨r1,r2⟩:=yM hlo hv hd hs4;rw[show ((i:Int)+1)=((i+1:Nat):Int) by omega];exact hK1 (M+1-(i+1)) _ _ (by omega) (by kernel_rfl) ⟨i+1,s / 65536,os++[s%65536],A5,cap5,O,(m.sel [false,true]),by simp;omega,r1,r2,by omega,by omega,fun h=>by rw[bz (l:=xs) (by omega),bz (l:=ys) (by omega)] at hs4;simp at hs4;omega,rfl⟩
  ·
   apply aU 25 [2,2,1] m;simp only[↓aD,lA];refine⟨by omega,?_⟩;obtain⟨s1,hs1⟩:∃s1:Nat,s1=c:=⟨_,rfl⟩
   rw[←hs1];have hs2:s1=c+xs[i]?.getD 0:=by rw[bz (by omega)];exact hs1
   have hs3:s1<65537:=by omega
   apply aU 21 [2,2] m;simp only[↓aD,lA];refine⟨by omega,?_⟩;obtain⟨s,hs⟩:∃s:Nat,s=s1:=⟨_,rfl⟩
   rw[←hs];have hs4:s=c+xs[i]?.getD 0+ys[i]?.getD 0:=by rw[bz (l:=ys) (by omega)];simp only[lj];omega
   have hs5:s<131072:=by omega
   apply aU 3 [0] m;simp only[↓aD];refine aC (cP O O (by omega) (pR (n:=65536))) ?_;simp only[zz];refine gA dN (z:=.int .i64 0) (by kernel_rfl) O O O ?_;intro u g1 e_ h_ k_;replace m:=m.newB e_ h_ k_;simp only[zz];refine bM m 1 O O dN sV O (by decide) O O O (m.b 0 O).rowsO (fV O) (by omega) (by omega) ?_;intro A5 cap5 u m;simp only[zF,zG] at m;simp only[zA,zB,zC,zD,zE,mB] at m;apply aL 4 [0] m;simp only[↓aD];refine aC (jD O O (by omega) (tH (n:=65536) (by omega))) ?_;apply aL 8 [0] m;simp only[↓aD];refine⟨by omega,?_⟩;obtain⟨r1,r2⟩:=yM hlo hv hd hs4;rw[show ((i:Int)+1)=((i+1:Nat):Int) by omega];exact hK1 (M+1-(i+1)) _ _ (by omega) (by kernel_rfl) ⟨i+1,s / 65536,os++[s%65536],A5,cap5,O,(m.sel [false,true]),by simp;omega,r1,r2,by omega,by omega,fun h=>by rw[bz (l:=xs) (by omega),bz (l:=ys) (by omega)] at hs4;simp at hs4;omega,rfl⟩
  ·
   apply aU 24 [2,2,2] m;simp only[↓aD,lA];refine⟨by omega,?_⟩;refine aT O O ?_;try simp only[zD,zE]
   obtain⟨hD,_⟩:=Rz (m.o 0 rfl) hlo.symm hd (by omega);obtain rfl:=hlo;exact⟨_,O,m.ext,A5,cap5,os,O,hD,by rw[ay (by omega),ay (by omega)] at hv;simpa using hv,by omega⟩
theorem aeC{B:Option Addr}(w:aj)(hS:gB w w.heap.size A na ca xs)(hR:gB w w.heap.size B nb cb ys)(hle:ys.length≤xs.length)(hge:val 65536 ys≤val 65536 xs)(hlx:xs.length≤1000000000000):dA prog 284 [.slice A na ca,.slice B nb cb] w (fun v w'=>wG (val 65536 xs-val 65536 ys) v w'∧wQ w v):=by
 refine⟨bJ func284 (by kernel_rfl),?_⟩;have m:=Mem.refl w;obtain rfl:=hS.eq;obtain rfl:=hR.eq
 go_enter func284,ntmps284
 apply fI 6 [0] m;simp only[↓aD];refine aC aO ?_;replace m:=m.nilO 3 1;apply aL 11 [0] m;simp only[↓aD];refine bX [5,6,7] [8,9,10,11,12,13,14,15,16,17,18,19,20,21,22,23,24,25,26,27,28,29,30,31,32,33,34,35,36,37,38] (fun n vs wl=>∃(i c:Nat) (os:List Nat) (A5:Option Addr) (cap5:Nat),vs=[.slice A5 i cap5,.int .i64 (c:Int),.int .i64 (i:Int)]∧Mem w wl [oI 3 1 A5 i cap5 (os.map rW)]∧(os.length=i)∧(val 65536 os+val 65536 (ys.take i)=val 65536 (xs.take i)+65536^i*c)∧(eO 65536 os)∧(c≤1)∧(i≤xs.length)∧(n=xs.length-i)) ?_ ?_
 ·
  exact⟨_,0,0,[],none,0,O,m,O,by simp[val],mU _,by omega,by omega,O⟩
 ·
  intro n vs wr hI u K1 hK1;obtain⟨i,c,os,A5,cap5,rfl,m,hlo,hv,hd,hc,hi,hn⟩:=hI;simp only[zu,zF,zG];apply aK 8 [0,0] m;simp only[↓aD,lA];refine bD O ?_ ?_<;>intro hc1
  ·
   apply aK 4 [] m;simp only[↓aD];obtain⟨a,rfl,hca,hla⟩:=hS.get (show i<xs.length by omega);have hyd:ys[i]?.getD 0<65536:=by
    rcases Nat.lt_or_ge i ys.length with h | h
    · rw[am h];exact hR.lt h
    · rw[bz h];decide
   apply aU 3 [0] m;simp only[↓aD];refine aC (aF dN aV O O (by omega) (by omega) (jF (ah _))) ?_;simp only[zz];refine aS O (lies1 (m.ext.cell hca) bF) ?_;simp only[zz];apply aL 12 [0,0] m;simp only[↓aD,lA];refine⟨by omega,?_⟩;refine bD O ?_ ?_<;>intro hc2
   ·
    obtain⟨a2,rfl,hcb,hlb⟩:=hR.get (show i<ys.length by omega);apply aK 4 [0] m;simp only[↓aD];refine aC (aF dN aV O O (by omega) (by omega) (jF (ah _))) ?_;simp only[zz];refine aS O (lies1 (m.ext.cell hcb) bF) ?_;simp only[zz];apply aL 3 [] m;simp only[↓aD];refine⟨by omega,?_⟩;obtain⟨e,he⟩:∃e:Int,e=(xs[i]:Int)-(c:Int)-(ys[i]:Int):=⟨_,rfl⟩
    rw[←he];have he2:e=(xs[i]:Int)-(c:Int)-((ys[i]?.getD 0:Nat):Int):=by rw[am (by omega)];exact he
    apply aU 10 [0,0] m;simp only[↓aD];refine bD O ?_ ?_<;>intro hc3
    ·
     obtain⟨s,hs⟩:∃s:Nat,(s:Int)=e+65536:=⟨(e+65536).toNat,by omega⟩
     have hs6:s+ys[i]?.getD 0+c=xs[i]+65536*1:=by omega
     have hs7:s<65536:=by omega
     apply aK 4 [] m;simp only[↓aD];refine⟨by omega,?_⟩;rw[←hs];apply aU 8 [0] m;simp only[↓aD];refine gA dN (z:=.int .i64 0) (by kernel_rfl) O O O ?_;intro u g1 e_ h_ k_;replace m:=m.newB e_ h_ k_;simp only[zz];refine bM m 1 O O dN sV O (by decide) O O O (m.b 0 O).rowsO (fV O) (by omega) (by omega) ?_;intro A5 cap5 u m;simp only[zF,zG] at m;simp only[zA,zB,zC,zD,zE,mB] at m;apply aL 8 [0] m;simp only[↓aD];refine⟨by omega,?_⟩;obtain⟨r1,r2⟩:=vN (by omega) hlo hv hd hs6 hs7;rw[show ((i:Int)+1)=((i+1:Nat):Int) by omega];exact hK1 (xs.length-(i+1)) _ _ (by omega) (by kernel_rfl) ⟨i+1,1,os++[s],A5,cap5,O,(m.sel [false,true]),by simp;omega,r1,r2,by omega,by omega,rfl⟩
    ·
     obtain⟨s,hs⟩:∃s:Nat,(s:Int)=e:=⟨e.toNat,by omega⟩
     rw[←hs];have hs6:s+ys[i]?.getD 0+c=xs[i]+65536*0:=by omega
     have hs7:s<65536:=by omega
     apply aK 4 [0] m;simp only[↓aD];refine gA dN (z:=.int .i64 0) (by kernel_rfl) O O O ?_;intro u g1 e_ h_ k_;replace m:=m.newB e_ h_ k_;simp only[zz];refine bM m 1 O O dN sV O (by decide) O O O (m.b 0 O).rowsO (fV O) (by omega) (by omega) ?_;intro A5 cap5 u m;simp only[zF,zG] at m;simp only[zA,zB,zC,zD,zE,mB] at m;apply aL 8 [0] m;simp only[↓aD];refine⟨by omega,?_⟩;obtain⟨r1,r2⟩:=vN (by omega) hlo hv hd hs6 hs7;rw[show ((i:Int)+1)=((i+1:Nat):Int) by omega];exact hK1 (xs.length-(i+1)) _ _ (by omega) (by kernel_rfl) ⟨i+1,0,os++[s],A5,cap5,O,(m.sel [false,true]),by simp;omega,r1,r2,by omega,by omega,rfl⟩
   ·
    obtain⟨e,he⟩:∃e:Int,e=(xs[i]:Int)-(c:Int):=⟨_,rfl⟩
    rw[←he];have he2:e=(xs[i]:Int)-(c:Int)-((ys[i]?.getD 0:Nat):Int):=by rw[bz (by omega)];simp only[lj];omega
    apply aK 11 [0,0] m;simp only[↓aD];refine bD O ?_ ?_<;>intro hc3
    ·
     obtain⟨s,hs⟩:∃s:Nat,(s:Int)=e+65536:=⟨(e+65536).toNat,by omega⟩
     have hs6:s+ys[i]?.getD 0+c=xs[i]+65536*1:=by omega
     have hs7:s<65536:=by omega
     apply aK 4 [] m;simp only[↓aD];refine⟨by omega,?_⟩;rw[←hs];apply aU 8 [0] m;simp only[↓aD];refine gA dN (z:=.int .i64 0) (by kernel_rfl) O O O ?_;intro u g1 e_ h_ k_;replace m:=m.newB e_ h_ k_;simp only[zz];refine bM m 1 O O dN sV O (by decide) O O O (m.b 0 O).rowsO (fV O) (by omega) (by omega) ?_;intro A5 cap5 u m;simp only[zF,zG] at m;simp only[zA,zB,zC,zD,zE,mB] at m;apply aL 8 [0] m;simp only[↓aD];refine⟨by omega,?_⟩;obtain⟨r1,r2⟩:=vN (by omega) hlo hv hd hs6 hs7;rw[show ((i:Int)+1)=((i+1:Nat):Int) by omega];exact hK1 (xs.length-(i+1)) _ _ (by omega) (by kernel_rfl) ⟨i+1,1,os++[s],A5,cap5,O,(m.sel [false,true]),by simp;omega,r1,r2,by omega,by omega,rfl⟩
    ·
     obtain⟨s,hs⟩:∃s:Nat,(s:Int)=e:=⟨e.toNat,by omega⟩
     rw[←hs];have hs6:s+ys[i]?.getD 0+c=xs[i]+65536*0:=by omega
     have hs7:s<65536:=by omega
     apply aK 4 [0] m;simp only[↓aD];refine gA dN (z:=.int .i64 0) (by kernel_rfl) O O O ?_;intro u g1 e_ h_ k_;replace m:=m.newB e_ h_ k_;simp only[zz];refine bM m 1 O O dN sV O (by decide) O O O (m.b 0 O).rowsO (fV O) (by omega) (by omega) ?_;intro A5 cap5 u m;simp only[zF,zG] at m;simp only[zA,zB,zC,zD,zE,mB] at m;apply aL 8 [0] m;simp only[↓aD];refine⟨by omega,?_⟩;obtain⟨r1,r2⟩:=vN (by omega) hlo hv hd hs6 hs7;rw[show ((i:Int)+1)=((i+1:Nat):Int) by omega];exact hK1 (xs.length-(i+1)) _ _ (by omega) (by kernel_rfl) ⟨i+1,0,os++[s],A5,cap5,O,(m.sel [false,true]),by simp;omega,r1,r2,by omega,by omega,rfl⟩
  ·
   apply aK 2 [] m;simp only[↓aD];obtain rfl:i=xs.length:=by omega
   obtain⟨hD,hbn⟩:=Rz (m.o 0 rfl) hlo.symm hd (by omega);apply aU 2 [0] m;simp only[↓aD];refine bH O O (Zg _ hD) ?_;rintro v u e_ rfl;replace m:=m.ext' e_;replace hD:=hD.ext e_;apply aL 3 [] m;simp only[↓aD];exact aT rfl rfl ⟨_,rfl,m.ext,wG.of_trim hD (afB hle hlo hd hv hge),fun a n c e=>by cases e;exact hbn _ O⟩
theorem amk{B:Option Addr}(w:aj)(hS:gB w w.heap.size A na ca xs)(hR:gB w w.heap.size B nb cb ys)(hlx:xs.length≤1000000000000)(hly:ys.length≤1000000000000):dA prog 295 [.slice A na ca,.slice B nb cb] w (fun v w'=>wG (val 65536 xs*val 65536 ys) v w'∧wQ w v):=by
 refine⟨bJ func295 (by kernel_rfl),?_⟩;have m:=Mem.refl w;obtain rfl:=hS.eq;obtain rfl:=hR.eq
 go_enter func295,ntmps295
 apply fI 11 [0] m;simp only[↓aD,lA];refine⟨by omega,?_⟩;refine tE dN sV O O O (show _=xs.length+ys.length by omega) (show _=xs.length+ys.length by omega) (by omega) (by omega) (by omega) (by omega) ?_;intro u g1 e_ h_ k_;replace m:=m.newB e_ h_ k_;apply aL 2 [] m;simp only[↓aD];rw[Ty] at m;apply aU 6 [0] m;simp only[↓aD];refine bX [6] [7,8,9,16,17,18,19,20,21,22,23,24,25,26,27,28,29,30,31,32,33,34,35,36,37,38,39,40,41,42,43,44,45,46,47,48,49,50,51,52,53,54,55,56,57,58,59,60,61] (fun n vs wl=>∃(i:Nat) (os:List Nat),vs=[.int .i64 (i:Int)]∧Mem w wl [bI g1 (os.map rW) 3]∧(i≤xs.length)∧(os.length=xs.length+ys.length)∧(val 65536 os=val 65536 (xs.take i)*val 65536 ys)∧(os.drop (i+ys.length)=cu (xs.length-i) 0)∧(eO 65536 os)∧(n=xs.length-i)) ?_ ?_
 ·
  exact⟨_,0,cu (xs.length+ys.length) 0,O,m,by omega,by simp,by rw[mE,jx];simp only[val,Nat.zero_mul],by rw[List.drop_replicate];congr 1;omega,fun x hx=>by rw[List.eq_of_mem_replicate hx];decide,rfl⟩
 ·
  intro n vs wr hI u K1 hK1;obtain⟨i,os,rfl,m,hi,hlo,hv,hz,hd,hn⟩:=hI;simp only[zu,zF,zG];apply aK 8 [0,0] m;simp only[↓aD,lA];refine bD O ?_ ?_<;>intro hc1
  ·
   apply aK 13 [0] m;simp only[↓aD];refine bX [7,8] [9,22,23,24,25,26,27,28,29,30,31,32,33,34,35,36,37,38,39,40,41,42,43,44,45,46,47,48,49,50,51,52,53,54] (fun n vs wl=>∃(k c:Nat) (os:List Nat),vs=[.int .i64 (c:Int),.int .i64 (k:Int)]∧Mem w wl [bI g1 (os.map rW) 3]∧(k≤ys.length)∧(os.length=xs.length+ys.length)∧(val 65536 os+65536^(i+k)*c=val 65536 (xs.take i)*val 65536 ys+65536^i*(xs[i]*val 65536 (ys.take k)))∧(os.drop (i+ys.length)=cu (xs.length-i) 0)∧(eO 65536 os)∧(c<65536)∧(n=ys.length-k)) ?_ ?_
   ·
    exact⟨_,0,0,os,O,m,by omega,hlo,by rw[jx,hv];simp only[val,ky],hz,hd,by omega,rfl⟩
   ·
    intro n vs wr hI u K2 hK2;obtain⟨k,c,os,rfl,m,hk,hlo,hv2,hz,hd,hc,hn2⟩:=hI;simp only[zu,zF,zG];apply aK 8 [0,0] m;simp only[↓aD,lA];refine bD O ?_ ?_<;>intro hc2
    ·
     apply aK 4 [] m;simp only[↓aD];obtain⟨a,rfl,hca,hla⟩:=hS.get (show i<xs.length by omega);obtain⟨a2,rfl,hcb,hlb⟩:=hR.get (show k<ys.length by omega);have hlo2:=hd.get (am (show i+k<os.length by omega));obtain⟨hm0,hm1⟩:=afD hla hlb;refine gc (mq m aB (by kernel_rfl) ?_);refine dZ 4 [] ?_;simp only[↓aD];refine⟨by omega,?_⟩;refine aI (aF dN aV O O (by omega) (by omega) (fK (show _=i+k by omega))) ?_;simp only[zz];refine ql O (fun u m=>(lies1 ((m.b 0 O).digit (show i+k<os.length by omega)) bF)) ?_;simp only[zz];refine aI aH (aI aH ?_);simp only[zz];refine aI (aF dN aV O O (by omega) (by omega) (jF (ah _))) ?_;simp only[zz];refine ql O (fun u m=>(lies1 (m.ext.cell hca) bF)) ?_;simp only[zz];refine aI aH (aI aH ?_);simp only[zz];refine aI (aF dN aV O O (by omega) (by omega) (jF (ah _))) ?_;simp only[zz];refine ql O (fun u m=>(lies1 (m.ext.cell hcb) bF)) ?_;simp only[zz];refine dZ 5 [] ?_;simp only[↓aD];refine⟨by omega,?_⟩;refine bC ?_;intro u m;obtain⟨s,hs⟩:∃s,s=os[i+k]+xs[i]*ys[k]+c:=⟨_,rfl⟩
     have hsI:(↑os[i+k]+↑xs[i]*↑ys[k]+↑c:Int)=(s:Int):=by rw[hs];simp
     rw[hsI];have hs64:s<4294967296:=by have:=aaV hla hlb;omega
     apply aU 7 [0] m;simp only[↓aD];refine⟨by omega,?_⟩;refine aC (cP O O (by omega) (pR (n:=65536))) ?_;simp only[zz];refine aC (aF dN aV O O (by omega) (by omega) (fK (show _=i+k by omega))) ?_;simp only[zz];refine dB m 0 O O O aV (by simp;omega) ⟨rfl,rfl⟩ ?_;intro u m;simp only[zz] at m ;rw[Ie (by omega)] at m;apply aL 3 [0] m;simp only[↓aD];refine aC (jD O O (by omega) (tH (n:=65536) (by omega))) ?_;apply aL 8 [0] m;simp only[↓aD];refine⟨by omega,?_⟩;have r1:=aaU (by omega) (by omega) hlo hv2 hs;rw[show ((k:Int)+1)=((k+1:Nat):Int) by omega];exact hK2 (ys.length-(k+1)) _ _ (by omega) (by kernel_rfl) ⟨k+1,s / 65536,os.set (i+k) (s%65536),O,m,by omega,by simpa using hlo,r1,by rw[Mb (by omega)];exact hz,hd.set (by omega),by omega,O⟩
    ·
     apply aK 1 [] m;simp only[↓aD];obtain rfl:k=ys.length:=by omega
     apply aU 7 [0] m;simp only[↓aD,lA];refine⟨by omega,?_⟩;refine aC (aF dN aV O O (by omega) (by omega) (fK (show _=i+ys.length by omega))) ?_;simp only[zz];refine dB m 0 O O O aV (by simp;omega) ⟨rfl,rfl⟩ ?_;intro u m;simp only[zz] at m ;rw[Ie (by omega)] at m;apply aL 7 [0] m;simp only[↓aD];refine⟨by omega,?_⟩;obtain⟨r1,r2⟩:=afC (by omega) hlo hv2 hz;rw[show ((i:Int)+1)=((i+1:Nat):Int) by omega];exact hK1 (xs.length-(i+1)) _ _ (by omega) (by kernel_rfl) ⟨i+1,os.set (i+ys.length) c,O,m,by omega,by simpa using hlo,r1,r2,hd.set (by omega),O⟩
  ·
   apply aK 2 [] m;simp only[↓aD];obtain rfl:i=xs.length:=by omega
   apply aU 2 [0] m;simp only[↓aD];rw[←hlo];refine cQ m O O (Zg _ (gB.of_blk (m.b 0 O) hd O (by omega))) ?_;rintro v u m rfl;apply aL 3 [] m;simp only[↓aD];exact aT rfl rfl ⟨_,rfl,m.ext,wG.of_trim (gB.of_blk (m.b 0 rfl) hd rfl (by omega)) (by rw[hv,fi]),fun a n c e=>by cases e;exact (m.gb 0 O)⟩
end Go.Proofs.YtfekpcimgncioaaGreatDoor
namespace Go.Proofs.YtfekpcimgncioaaGreatDoor
open Go.Proofs.Tryz
open Go.RowKit Go.Lith
set_option maxRecDepth 100000
attribute [local irreducible] ar cl fU Code.wp
end Go.Proofs.YtfekpcimgncioaaGreatDoor
namespace Go.Proofs.YtfekpcimgncioaaGreatDoor
open Go.Proofs.Tryz
open Go.RowKit Go.Lith
set_option maxRecDepth 100000
attribute [local irreducible] ar cl fU bS cO Code.wp
attribute [local congr] pD gF gG gH gI gJ kL gK gL gM gN gQ gR gS gT gU gV gW eU eV gX gY iA iB iC kN dF dG cW dD gZ kM eW eX eY iD iE kO
variable{a:Int}
theorem Jb{os:List UInt8}{x:Nat}(hx:x<256):os.map u8v++[.int .u8 (x:Int)]=(os++[ei x]).map u8v:=by
 have:u8v (ei x)=.int .u8 (x:Int):=by simp only[u8v,UInt8.toNat_ofNat',Value.int.injEq,true_and];rw[Nat.mod_eq_of_lt (by omega)]
 rw[cv,List.map_singleton,this]
theorem xH{neg:Bool}{s:ByteArray}(w:aj)(hs:s.size≤1000000000000):dA prog 280 [.agg #[.bool neg,.string s]] w (wG (akY s)):=by
 refine⟨bJ func280 (by kernel_rfl),?_⟩;have m:=Mem.refl w;have hbl:=wB s;have hbd:=Mc s
 go_enter func280,ntmps280
 apply iY 7 [0] m;simp only[↓aD];intro g1 u m;refine aC aO ?_;replace m:=m.nilO 3 1;apply aL 5 [1,0] m;simp only[↓aD,yP,acW,aa];refine aC (tZ O pC O) ?_;apply aL 9 [0] m;simp only[↓aD];refine bX [3,5] [6,11,12,13,14,15,16,17,18,19,20,21,22,23,24,25,26,27,28,29,30,31,32,33,34,35] (fun n vs wl=>∃(k:Nat) (os:List Nat) (A3:Option Addr) (cap3:Nat),vs=[.slice A3 k cap3,.int .i64 ((s.size:Int)-2*(k:Int))]∧Mem w wl [oI 3 1 A3 k cap3 (os.map rW),bI g1 [.bool neg,.string s] 95]∧(os.length=k)∧(val 65536 os=val 256 ((oK s).take (2*k)))∧(eO 65536 os)∧(2*k≤s.size+1)∧(n=s.size-2*k)) ?_ ?_
 ·
  rw[show ((s.size:Int))=(s.size:Int)-2*((0:Nat):Int) by omega];exact⟨_,0,[],none,0,O,m,O,by simp[val],mU _,by omega,O⟩
 ·
  intro n vs wr hI u K1 hK1;obtain⟨k,os,A3,cap3,rfl,m,hlo,hv,hd,hk,hn⟩:=hI;simp only[zu,zF,zG];apply aK 6 [0,0] m;simp only[↓aD];refine bD O ?_ ?_<;>intro hc1
  ·
   apply aK 4 [] m;simp only[↓aD];obtain⟨y1,hb1,hp1,hy1⟩:=Fl (show 2*k+1+(s.size-2*k-1)=s.size by omega);have hy1l:y1.toNat<256:=y1.toNat_lt;apply aU 5 [1,0] m;simp only[↓aD,yP,acW,aa];refine⟨by omega,?_⟩;refine aC ((oJ pC O O (by omega) (by rw[show ((s.size:Int)-2*(k:Int)-1).toNat=s.size-2*k-1 by omega];exact hb1))) ?_;apply aL 9 [0,0] m;simp only[↓aD,yO,Il];refine⟨by omega,?_⟩;refine bD O ?_ ?_<;>intro hc2
   ·
    obtain⟨y2,hb2,hp2,hy2⟩:=Fl (show 2*k+1+1+(s.size-2*k-2)=s.size by omega);have hy2l:y2.toNat<256:=y2.toNat_lt;apply aK 6 [1,0] m;simp only[↓aD,yP,acW,aa];refine⟨by omega,?_⟩;refine aC ((oJ pC O O (by omega) (by rw[show ((s.size:Int)-2*(k:Int)-2).toNat=s.size-2*k-2 by omega];exact hb2))) ?_;apply aL 5 [] m;simp only[↓aD,yO,Il];refine⟨by omega,?_⟩;obtain⟨d,hd1⟩:∃d:Nat,d=y1.toNat+256*y2.toNat:=⟨_,rfl⟩
    rw[show ((y1.toNat:Int)+256*(y2.toNat:Int))=(d:Int) by omega];have hd2:d=(oK s)[2*k]+256*((oK s)[2*k+1]?.getD 0):=by rw[am hp2,hy1];simp only[df];rw[hy2];exact hd1
    apply aU 3 [0] m;simp only[↓aD];refine gA dN (z:=.int .i64 0) (by kernel_rfl) O O O ?_;intro u g2 e_ h_ k_;replace m:=m.newB e_ h_ k_;simp only[zz];refine bM m 1 O O dN sV O (by decide) O O O (m.b 0 O).rowsO (fV O) (by omega) (by omega) ?_;intro A3 cap3 u m;simp only[zF,zG] at m;simp only[zA,zB,zC,zD,zE,mB] at m;apply aL 8 [0] m;simp only[↓aD];refine⟨by omega,?_⟩;obtain⟨r1,r2⟩:=Ig hlo hv (by omega) hd2 hbd hd;rw[show ((s.size:Int)-2*(k:Int)-2)=(s.size:Int)-2*((k+1:Nat):Int) by omega];exact hK1 (s.size-2*(k+1)) _ _ (by omega) (by kernel_rfl) ⟨k+1,os++[d],A3,cap3,O,(m.sel [false,true,true]),by simp;omega,r1,r2,by omega,rfl⟩
   ·
    obtain⟨d,hd1⟩:∃d:Nat,d=y1.toNat:=⟨_,rfl⟩
    rw[←hd1];have hd2:d=(oK s)[2*k]+256*((oK s)[2*k+1]?.getD 0):=by rw[bz (by omega),hy1];simp only[lj];omega
    apply aK 4 [0] m;simp only[↓aD];refine gA dN (z:=.int .i64 0) (by kernel_rfl) O O O ?_;intro u g2 e_ h_ k_;replace m:=m.newB e_ h_ k_;simp only[zz];refine bM m 1 O O dN sV O (by decide) O O O (m.b 0 O).rowsO (fV O) (by omega) (by omega) ?_;intro A3 cap3 u m;simp only[zF,zG] at m;simp only[zA,zB,zC,zD,zE,mB] at m;apply aL 8 [0] m;simp only[↓aD];refine⟨by omega,?_⟩;obtain⟨r1,r2⟩:=Ig hlo hv (by omega) hd2 hbd hd;rw[show ((s.size:Int)-2*(k:Int)-2)=(s.size:Int)-2*((k+1:Nat):Int) by omega];exact hK1 (s.size-2*(k+1)) _ _ (by omega) (by kernel_rfl) ⟨k+1,os++[d],A3,cap3,O,(m.sel [false,true,true]),by simp;omega,r1,r2,by omega,rfl⟩
  ·
   apply aK 2 [] m;simp only[↓aD];obtain⟨hD,_⟩:=Rz (m.o 0 rfl) hlo.symm hd (by omega);apply aU 2 [0] m;simp only[↓aD];refine bH O O (Zg _ hD) ?_;rintro v u e_ rfl;replace m:=m.ext' e_;replace hD:=hD.ext e_;apply aL 3 [] m;simp only[↓aD];exact aT O O ⟨_,O,m.ext,wG.of_trim hD (by rw[hv,ay (by omega)];rfl)⟩
theorem yX{A:Option Addr}{xs:List Nat}{b na cap:Nat}{neg:Bool}(w:aj)(hS:gB w b A na cap xs)(hl:xs.length≤100000000000):dA prog 281 [.bool neg,.slice A na cap] w (fun v _=>v=W (Tg neg (val 65536 xs))):=by
 refine⟨bJ func281 (by kernel_rfl),?_⟩;have m:=Mem.refl w;obtain rfl:=hS.eq;have hlt:=uB xs;have hT:gB w w.heap.size A (trim xs).length cap (trim xs):=by
  have h:=(hS.take (trim xs).length).here;rwa [←kY] at h
 have htr:=Hc xs;have hvx:=Hb 65536 xs;obtain⟨ys,hys⟩:∃ys,ys=trim xs:=⟨_,rfl⟩
 rw[←hys] at hT htr hlt hvx;have hyd:=hT.digs;have h2l:=afE ys
 go_enter func281,ntmps281
 apply iY 7 [0] m;simp only[↓aD,nA];intro g1 u m;refine cQ m O O (Zg _ (hS.ext m.ext)) ?_;rintro v u m rfl;simp only[zz];rw[←hys];clear hys;apply aL 4 [] m;simp only[↓aD];by_cases hy0:ys=[]
 ·
  subst hy0;apply aU 3 [0] m;simp only[↓aD,lA];refine aC (xT O O (by rfl)) ?_;apply jS 8 [0] m;simp only[↓aD,anf,fL,aa];intro u m;refine aT O ⟨_,O,((m.b 0 O).full cM aR)⟩ ?_;try simp only[zD,zE]
  exact⟨_,O,m.ext,by rw[←hvx];cases neg <;> rfl⟩
 ·
  have hyl:0<ys.length:=List.length_pos_iff.2 hy0;have htop:=aas htr hyl;apply aU 9 [2,0] m;simp only[↓aD,lA];refine⟨by omega,?_⟩;refine aC aO ?_;replace m:=m.nilO 5 1;apply aL 10 [0] m;simp only[↓aD,lA];refine⟨by omega,?_⟩;refine bX [5,6] [16,17,18,19,20,21,22,23,24,25,26,27,28,29,30,31,32,33,34,35,36,37,38,39,40,41,42,43,44,45,46,47,48,49] (fun n vs wl=>∃(k j:Nat) (os:List UInt8) (A5:Option Addr) (cap5:Nat),vs=[.slice A5 j cap5,.int .i64 ((k:Int)-1)]∧Mem w wl [oI 5 1 A5 j cap5 (os.map u8v),bI g1 [.bool false,.string ⟨#[]⟩] 95]∧(os.length=j)∧(os=oD ys k)∧(k≤ys.length)∧(k<ys.length→oD ys k≠[])∧(os.length≤2*ys.length)∧(n=k)) ?_ ?_
  ·
   exact⟨_,ys.length,0,[],none,0,O,m,O,(Vk ys).symm,by omega,fun h=>absurd h (by omega),by simp,O⟩
  ·
   intro n vs wr hI u K1 hK1;obtain⟨k,j,os,A5,cap5,rfl,m,hjl,hos,hk,hne,hosl,hn⟩:=hI;simp only[zu,zF,zG];apply aK 6 [0,0] m;simp only[↓aD];refine bD O ?_ ?_<;>intro hc2
   ·
    apply aK 5 [] m;simp only[↓aD];obtain⟨a,rfl,hca,hla⟩:=hT.get (show k-1<ys.length by omega);rcases (show k<ys.length∨k=ys.length by omega) with hkl | hkl
    ·
     obtain⟨r1,r2⟩:=acI (show 0<k by omega) (by omega) (hne hkl);apply aU 15 [1] m;simp only[↓aD,lA];refine⟨by omega,?_⟩;have hca:=hT.at (show k-1<ys.length by omega);apply aU 4 [0] m;simp only[↓aD];refine aC (aF dN aV O O (by omega) (by omega) (jF (show _=k-1 by omega))) ?_;simp only[zz];refine aS O (lies1 (m.ext.cell hca) bF) ?_;simp only[zz];refine aC (jD O O (by omega) (tH (n:=256) (by omega))) (aC (jE Ys jN O (Ce (by omega))) ?_);simp only[zz];refine gA oM (z:=.int .u8 0) (by kernel_rfl) O O O ?_;intro u g2 e_ h_ k_;replace m:=m.newB e_ h_ k_;simp only[zz];refine bM m 1 O O oM Uu O (by decide) O O O (m.b 0 O).rowsO (fV O) (by omega) (by omega) ?_;intro A5 cap5 u m;simp only[zF,zG] at m;simp only[zz] at m;rw[Jb (by omega)] at m;apply aL 2 [] m;simp only[↓aD];have hca:=hT.at (show k-1<ys.length by omega);apply aU 4 [0] m;simp only[↓aD];refine aC (aF dN aV O O (by omega) (by omega) (jF (show _=k-1 by omega))) ?_;simp only[zz];refine aS O (lies1 (m.ext.cell hca) bF) ?_;simp only[zz];refine aC (cP O O (by omega) (pR (n:=256))) (aC (jE Ys jN O (Ce (by omega))) ?_);simp only[zz];refine gA oM (z:=.int .u8 0) (by kernel_rfl) O O O ?_;intro u g3 e_ h_ k_;replace m:=m.newB e_ h_ k_;simp only[zz];refine bM m 2 O O oM Uu O (by decide) O O O (m.b 0 O).rowsO (fV O) (by first | omega | (simp;omega)) (by first | omega | (simp;omega)) ?_;intro A5 cap5 u m;simp only[zF,zG] at m;simp only[zz] at m;rw[Jb (by omega)] at m;apply aL 8 [0] m;simp only[↓aD];refine⟨by omega,?_⟩;have hos2:os++[ei (ys[k-1] / 256)]++[ei (ys[k-1]%256)]=oD ys (k-1):=by rw[r1,hos]
     rw[show ((k:Int)-1-1)=((k-1:Nat):Int)-1 by omega];exact hK1 (k-1) _ _ (by omega) (by kernel_rfl) ⟨k-1,j+1+1,os++[ei (ys[k-1] / 256)]++[ei (ys[k-1]%256)],A5,cap5,O,(m.sel [false,false,true,true]),by simp only[au,ja];omega,hos2,by omega,fun _=>r2,by rw[hos2];exact h2l _,O⟩
    ·
     subst hkl;obtain⟨f1,f2⟩:=aaY (by omega) htop hla;have hos0:os=[]:=by rw[hos];exact Vk ys
     apply aU 9 [2,0] m;simp only[↓aD,lA];refine⟨by omega,?_⟩;refine eB O (aC (aF dN aV O O (by omega) (by omega) (jF (show _=ys.length-1 by omega))) (eB O ?_));simp only[zz];refine aS O (lies1 (m.ext.cell hca) bF) ?_;simp only[zz];apply aL 3 [0,0] m;simp only[↓aD];refine bD O ?_ ?_<;>intro hc3
     ·
      have hca:=hT.at (show ys.length-1<ys.length by omega);apply aK 4 [0] m;simp only[↓aD];refine aC (aF dN aV O O (by omega) (by omega) (jF (show _=ys.length-1 by omega))) ?_;simp only[zz];refine aS O (lies1 (m.ext.cell hca) bF) ?_;simp only[zz];refine aC (jD O O (by omega) (tH (n:=256) (by omega))) (aC (jE Ys jN O (Ce (by omega))) ?_);simp only[zz];refine gA oM (z:=.int .u8 0) (by kernel_rfl) O O O ?_;intro u g2 e_ h_ k_;replace m:=m.newB e_ h_ k_;simp only[zz];refine bM m 1 O O oM Uu O (by decide) O O O (m.b 0 O).rowsO (fV O) (by omega) (by omega) ?_;intro A5 cap5 u m;simp only[zF,zG] at m;simp only[zz] at m;rw[Jb (by omega)] at m;apply aL 2 [] m;simp only[↓aD];have hca:=hT.at (show ys.length-1<ys.length by omega);apply aU 4 [0] m;simp only[↓aD];refine aC (aF dN aV O O (by omega) (by omega) (jF (show _=ys.length-1 by omega))) ?_;simp only[zz];refine aS O (lies1 (m.ext.cell hca) bF) ?_;simp only[zz];refine aC (cP O O (by omega) (pR (n:=256))) (aC (jE Ys jN O (Ce (by omega))) ?_);simp only[zz];refine gA oM (z:=.int .u8 0) (by kernel_rfl) O O O ?_;intro u g3 e_ h_ k_;replace m:=m.newB e_ h_ k_;simp only[zz];refine bM m 2 O O oM Uu O (by decide) O O O (m.b 0 O).rowsO (fV O) (by first | omega | (simp;omega)) (by first | omega | (simp;omega)) ?_;intro A5 cap5 u m;simp only[zF,zG] at m;simp only[zz] at m;rw[Jb (by omega)] at m;apply aL 8 [0] m;simp only[↓aD];refine⟨by omega,?_⟩;have hos2:os++[ei (ys[ys.length-1] / 256)]++[ei (ys[ys.length-1]%256)]=oD ys (ys.length-1):=by rw[f1,if_pos (by omega),hos0];rfl
      rw[show ((ys.length:Int)-1-1)=((ys.length-1:Nat):Int)-1 by omega];exact hK1 (ys.length-1) _ _ (by omega) (by kernel_rfl) ⟨ys.length-1,j+1+1,os++[ei (ys[ys.length-1] / 256)]++[ei (ys[ys.length-1]%256)],A5,cap5,O,(m.sel [false,false,true,true]),by simp only[au,ja];omega,hos2,by omega,fun _=>f2,by rw[hos2];exact h2l _,O⟩
     ·
      apply aK 1 [] m;simp only[↓aD];have hca:=hT.at (show ys.length-1<ys.length by omega);apply aU 4 [0] m;simp only[↓aD];refine aC (aF dN aV O O (by omega) (by omega) (jF (show _=ys.length-1 by omega))) ?_;simp only[zz];refine aS O (lies1 (m.ext.cell hca) bF) ?_;simp only[zz];refine aC (cP O O (by omega) (pR (n:=256))) (aC (jE Ys jN O (Ce (by omega))) ?_);simp only[zz];refine gA oM (z:=.int .u8 0) (by kernel_rfl) O O O ?_;intro u g2 e_ h_ k_;replace m:=m.newB e_ h_ k_;simp only[zz];refine bM m 1 O O oM Uu O (by decide) O O O (m.b 0 O).rowsO (fV O) (by first | omega | (simp;omega)) (by first | omega | (simp;omega)) ?_;intro A5 cap5 u m;simp only[zF,zG] at m;simp only[zz] at m;rw[Jb (by omega)] at m;apply aL 8 [0] m;simp only[↓aD];refine⟨by omega,?_⟩;have hos2:os++[ei (ys[ys.length-1]%256)]=oD ys (ys.length-1):=by rw[f1,if_neg (by omega),hos0]
      rw[show ((ys.length:Int)-1-1)=((ys.length-1:Nat):Int)-1 by omega];exact hK1 (ys.length-1) _ _ (by omega) (by kernel_rfl) ⟨ys.length-1,j+1,os++[ei (ys[ys.length-1]%256)],A5,cap5,O,(m.sel [false,true,true]),by simp only[au,ja];omega,hos2,by omega,fun _=>f2,by rw[hos2];exact h2l _,O⟩
   ·
    apply aK 5 [0] m;simp only[↓aD];refine fO (Oz oM Ys pC O (m.o 0 O).own) ?_;apply jS 4 [1] m;simp only[↓aD,anf,fL,aa];intro u m;refine aT O ⟨_,O,((m.b 1 O).full cM aR)⟩ ?_;try simp only[zD,zE]
    exact⟨_,rfl,m.ext,by (obtain rfl:k=0:=by omega);(have hV:val 65536 ys≠0:=Nat.ne_of_gt (He (by omega) htr hy0));rw[hos,acJ hyd neg,←hvx];simp[Lith.W,Xl,hV]⟩
theorem af7{k:Nat}{b:Int}(ha:Bd k a)(hb:Bd k b):(digs 65536 (a*b).natAbs).length≤k+k:=xB (Bd.mul ha hb)
theorem Wi  : (((digs 65536 a.natAbs).length:Int)=0)↔a=0:=by
 constructor
 ·
  intro h;have h0:digs 65536 a.natAbs=[]:=fa (by omega);have:=(vF (by omega)).1 h0;omega
 · rintro rfl;rfl
theorem Jc(ha:Bd 1000000 a):dS prog 211 [W a] (.int .i64 (bB a)):=by
 intro w;refine⟨bJ func211 (by kernel_rfl),?_⟩;have m:=Mem.refl w
 go_enter func211,ntmps211
 apply iY 9 [0,0] m;simp only[↓aD,fL];intro g1 u m;refine bH O O (xH _ (kV ha)) ?_;rintro v u e_ ⟨A1,c1,rfl,hD1⟩;replace m:=m.ext' e_;simp only[zz];rw[kS] at hD1 ⊢;apply aL 3 [0,0] m;simp only[↓aD,lA];refine bD O ?_ ?_<;>intro hc1
 ·
  have h0:=Wi.1 hc1;apply aK 5 [] m;simp only[↓aD];refine aT O O ?_;try simp only[zD,zE]
  exact⟨_,O,m.ext,by rw[h0];rfl⟩
 ·
  apply aK 7 [0,0] m;simp only[↓aD,mP,Im,aa];refine gE O ?_ ?_<;>intro hc2
  ·
   have hn:=Kc hc2;apply aK 5 [] m;simp only[↓aD];refine aT O O ?_;try simp only[zD,zE]
   exact⟨_,O,m.ext,by rw[De hn]⟩
  ·
   have hn:=Fp hc2;have h0:¬a=0:=fun e=>hc1 (Wi.2 e);apply aK 6 [] m;simp only[↓aD];refine aT O O ?_;try simp only[zD,zE]
   exact⟨_,O,m.ext,by rw[Df (by omega)]⟩
theorem apj(ha:Bd 1000000 a):dS prog 325 [W a] (W (-a)):=by
 intro w;refine⟨bJ func325 (by kernel_rfl),?_⟩;have m:=Mem.refl w;have hla:(digs 65536 a.natAbs).length≤1000000:=xB ha
 go_enter func325,ntmps325
 apply iY 6 [0] m;simp only[↓aD,nA];intro g1 g2 u m;refine mh m [false,true] [(0,true),(1,true),(2,true),(3,true),(4,false),(5,false),(6,false)] aB (by kernel_rfl) (bQ (fun _ _ _ _ _ h=>h)) (ol:=?_) ?hol ?_
 case hol=>simp only[zw,zQ,zR];try rfl
 intro u m;refine Hv 4 [0,0] ?_;simp only[↓aD,mP,Im,fL,aa];refine bL (bH O O (xH _ (kV ha)) ?_);rintro v u e_ ⟨A1,c1,rfl,hD1⟩;replace m:=m.ext' e_;simp only[zz];rw[kS] at hD1 ⊢;refine aM ⟨m.sel [false,true],?_⟩;refine bL (bH O O (yX _ hD1 (ba hla (by decide))) ?_);rintro v u e_ rfl;replace m:=m.ext' e_;simp only[zz];simp only[jT];refine aM ⟨m.sel [false,true],?_⟩;refine bL (bN m 0 O O O aR (iK O) O ?_);intro u m;simp only[zy,zx,over,zF,zG,aa] at m;refine aM ⟨m.sel [false,true],?_⟩;refine bY ?_;rw[adT] at m;apply aU 1 [] m;simp only[↓aD];exact aT O ⟨_,O,((m.b 0 O).full cM aR)⟩ ⟨_,O,m.ext,O⟩
theorem adh{b:Int}(ha:Bd 1000000 a)(hb:Bd 1000000 b):dS prog 200 [W a,W b] (W (a+b)):=by
 intro w;refine⟨bJ func200 (by kernel_rfl),?_⟩;have m:=Mem.refl w;have hla:(digs 65536 a.natAbs).length≤1000000:=xB ha;have hlb:(digs 65536 b.natAbs).length≤1000000:=xB hb
 go_enter func200,ntmps200
 apply iY 9 [2,0] m;simp only[↓aD,nA,fL];intro g1 g2 g3 u m;refine bH O O (xH _ (kV ha)) ?_;rintro v u e_ ⟨A1,c1,rfl,hD1⟩;replace m:=m.ext' e_;simp only[zz];rw[kS] at hD1 ⊢;apply aL 5 [1,0] m;simp only[↓aD,fL];refine bH O O (xH _ (kV hb)) ?_;rintro v u e_ ⟨A2,c2,rfl,hD2⟩;replace m:=m.ext' e_;replace hD1:=hD1.ext e_;simp only[zz];rw[kS] at hD2 ⊢;apply aL 9 [2,1,0] m;simp only[↓aD,mP,Im,aa];refine aC (agZ Pu O O) ?_;apply aL 1 [0] m;simp only[↓aD];refine bD O ?_ ?_<;>intro hc1
 ·
  apply aK 1 [0] m;simp only[↓aD];refine mhe m [false,true,true] [(0,true),(2,true),(3,true),(1,true),(4,false),(5,false),(6,false)] aB (by kernel_rfl) (bQ (fun _ _ _ _ _ h=>h)) (ol:=?_) ?hol ?_
  case hol=>simp only[zw,zQ,zR];try rfl
  intro u e_ m;replace hD1:=hD1.ext e_;replace hD2:=hD2.ext e_;refine Hv 4 [1] ?_;simp only[↓aD,mP,Im,aa];refine bL (bH O O (api _ hD1.here hD2.here (ba hla (by decide)) (ba hlb (by decide))) ?_);rintro v u e_ ⟨A3,c3,os,rfl,hD3,hv3,hl3⟩;replace m:=m.ext' e_;simp only[zz];simp only[jT] at hv3;refine aM ⟨m.sel [false,true,true],?_⟩;refine bL (bH O O (yX _ hD3 (by omega)) ?_);rintro v u e_ rfl;replace m:=m.ext' e_;simp only[zz];rw[hv3];refine aM ⟨m.sel [false,true,true],?_⟩;refine bL (bN m 0 O O O aR (iK O) O ?_);intro u m;simp only[zy,zx,over,zF,zG,aa] at m;refine aM ⟨m.sel [false,true,true],?_⟩;refine bY ?_;rw[adU hc1] at m;apply aU 1 [] m;simp only[↓aD];exact aT O ⟨_,O,((m.b 0 O).full cM aR)⟩ ⟨_,O,m.ext,O⟩
 ·
  apply aK 6 [0] m;simp only[↓aD];refine bH O O (af6 _ hD1 hD2 (Cd _) (Cd _)) ?_;rintro v u e_ rfl;replace m:=m.ext' e_;replace hD1:=hD1.ext e_;replace hD2:=hD2.ext e_;simp only[zz];simp only[jT];apply aL 2 [0,0] m;simp only[↓aD];refine bD O ?_ ?_<;>intro hc2
  ·
   have hge:=Pd.1 hc2;apply aK 1 [0] m;simp only[↓aD];refine mhe m [false,true,true] [(0,true),(2,true),(3,true),(1,true),(4,false),(5,false),(6,false)] aB (by kernel_rfl) (bQ (fun _ _ _ _ _ h=>h)) (ol:=?_) ?hol ?_
   case hol=>simp only[zw,zQ,zR];try rfl
   intro u e_ m;replace hD1:=hD1.ext e_;replace hD2:=hD2.ext e_;refine Hv 4 [1] ?_;simp only[↓aD,mP,Im,aa];refine bL (bH O O (aeC _ hD1.here hD2.here (If hge) (by simp only[jT];omega) (ba hla (by decide))) ?_);rintro v u e_ ⟨⟨A3,c3,rfl,hD3⟩,_⟩;replace m:=m.ext' e_;simp only[zz];simp only[jT] at hD3 ⊢;have hl3:=If (Nat.sub_le a.natAbs b.natAbs);refine aM ⟨m.sel [false,true,true],?_⟩;refine bL (bH O O (yX _ hD3 (ba hl3 (ba hla (by decide)))) ?_);rintro v u e_ rfl;replace m:=m.ext' e_;simp only[zz];simp only[jT];refine aM ⟨m.sel [false,true,true],?_⟩;refine bL (bN m 0 O O O aR (iK O) O ?_);intro u m;simp only[zy,zx,over,zF,zG,aa] at m;refine aM ⟨m.sel [false,true,true],?_⟩;refine bY ?_;rw[ag3 hc1 hge] at m;apply aU 1 [] m;simp only[↓aD];exact aT O ⟨_,O,((m.b 0 O).full cM aR)⟩ ⟨_,O,m.ext,O⟩
  ·
   have hlt:a.natAbs<b.natAbs:=Nat.lt_of_not_le fun h=>hc2 (Pd.2 h);apply aK 2 [0] m;simp only[↓aD];refine mhe m [false,true,true] [(0,true),(2,true),(3,true),(1,true),(4,false),(5,false),(6,false)] aB (by kernel_rfl) (bQ (fun _ _ _ _ _ h=>h)) (ol:=?_) ?hol ?_
   case hol=>simp only[zw,zQ,zR];try rfl
   intro u e_ m;replace hD1:=hD1.ext e_;replace hD2:=hD2.ext e_;refine Hv 4 [0] ?_;simp only[↓aD,mP,Im,aa];refine bL (bH O O (aeC _ hD2.here hD1.here (If (Nat.le_of_lt hlt)) (by simp only[jT];omega) (ba hlb (by decide))) ?_);rintro v u e_ ⟨⟨A3,c3,rfl,hD3⟩,_⟩;replace m:=m.ext' e_;simp only[zz];simp only[jT] at hD3 ⊢;have hl3:=If (Nat.sub_le b.natAbs a.natAbs);refine aM ⟨m.sel [false,true,true],?_⟩;refine bL (bH O O (yX _ hD3 (ba hl3 (ba hlb (by decide)))) ?_);rintro v u e_ rfl;replace m:=m.ext' e_;simp only[zz];simp only[jT];refine aM ⟨m.sel [false,true,true],?_⟩;refine bL (bN m 0 O O O aR (iK O) O ?_);intro u m;simp only[zy,zx,over,zF,zG,aa] at m;refine aM ⟨m.sel [false,true,true],?_⟩;refine bY ?_;rw[ag2 hc1 hlt] at m;apply aU 1 [] m;simp only[↓aD];exact aT O ⟨_,O,((m.b 0 O).full cM aR)⟩ ⟨_,O,m.ext,O⟩
theorem Zh{b:Int}(ha:Bd 1000000 a)(hb:Bd 1000000 b):dS prog 279 [W a,W b] (W (a-b)):=by
 intro w;refine⟨bJ func279 (by kernel_rfl),?_⟩;have m:=Mem.refl w
 go_enter func279,ntmps279
 apply iY 7 [0] m;simp only[↓aD,nA];intro g1 g2 g3 u m;refine cU m 4 aB (by kernel_rfl) ?_;simp only[zy];refine ql O (fun u m=>((m.b 2 O).full cM aR)) ?_;simp only[zz];refine ql O (fun u m=>((m.b 1 O).full cM aR)) ?_;simp only[zz];refine fD O O (apj hb) ?_;simp only[zz];refine fD O O (adh ha hb.neg) (bC ?_);intro u m;simp only[zz];refine bN m 0 O O O aR (iK O) O ?_;intro u m;simp only[zy,zx,over,zF,zG,aa] at m;refine aM ?_;rw[←Int.sub_eq_add_neg] at m;apply aU 1 [] m;simp only[↓aD];exact aT O ⟨_,O,((m.b 0 O).full cM aR)⟩ ⟨_,O,m.ext,O⟩
theorem Sa{b:Int}(ha:Bd 1000000 a)(hb:Bd 1000000 b):dS prog 231 [W a,W b] (W (a*b)):=by
 intro w;refine⟨bJ func231 (by kernel_rfl),?_⟩;have m:=Mem.refl w;have hla:(digs 65536 a.natAbs).length≤1000000:=xB ha;have hlb:(digs 65536 b.natAbs).length≤1000000:=xB hb;have hls:=af7 ha hb
 go_enter func231,ntmps231
 apply iY 7 [0] m;simp only[↓aD,nA];intro g1 g2 g3 u m;refine mh m [false,true,true] [(0,true),(2,true),(1,true),(3,true),(4,true),(5,true),(7,true),(6,false),(8,false),(9,false),(10,false),(11,false)] aB (by kernel_rfl) (bQ (fun _ _ _ _ _ h=>h)) (ol:=?_) ?hol ?_
 case hol=>simp only[zw,zQ,zR];try rfl
 intro u m;refine Hv 4 [1,0] ?_;simp only[↓aD,mP,Im,aa];refine aZ (Kb Pu O O) ?_;simp only[zz];refine eE O (fun u m=>((m.b 1 O).full cM aR)) ?_;simp only[zz];refine eE O (fun u m=>((m.b 0 O).full cM aR)) ?_;simp only[zz];refine bL (bH O O (xH _ (kV ha)) ?_);rintro v u e_ ⟨A1,c1,rfl,hD1⟩;replace m:=m.ext' e_;simp only[zz];rw[kS] at hD1 ⊢;refine aM ⟨m.sel [false,true,true],?_⟩;refine bL (bH O O (xH _ (kV hb)) ?_);rintro v u e_ ⟨A2,c2,rfl,hD2⟩;replace m:=m.ext' e_;replace hD1:=hD1.ext e_;simp only[zz];rw[kS] at hD2 ⊢;refine aM ⟨m.sel [false,true,true],?_⟩;refine bL (bH O O (amk _ hD1.here hD2.here (ba hla (by decide)) (ba hlb (by decide))) ?_);rintro v u e_ ⟨⟨A3,c3,rfl,hD3⟩,_⟩;replace m:=m.ext' e_;simp only[zz];simp only[jT] at hD3 ⊢;rw[←Int.natAbs_mul] at hD3 ⊢;refine aM ⟨m.sel [false,true,true],?_⟩;refine bL (bH O O (yX _ hD3 (ba hls (by decide))) ?_);rintro v u e_ rfl;replace m:=m.ext' e_;simp only[zz];simp only[jT];refine aM ⟨m.sel [false,true,true],?_⟩;refine bL (bN m 0 O O O aR (iK O) O ?_);intro u m;simp only[zy,zx,over,zF,zG,aa] at m;refine aM ⟨m.sel [false,true,true],?_⟩;refine bY ?_;rw[Int.natAbs_mul,adV] at m;apply aU 1 [] m;simp only[↓aD];exact aT O ⟨_,O,((m.b 0 O).full cM aR)⟩ ⟨_,O,m.ext,O⟩
theorem Dz{n:Int}(h:rT n):dS prog 232 [.int .i64 n] (W n):=by
 intro w;refine⟨bJ func232 (by kernel_rfl),?_⟩;have m:=Mem.refl w;have hna:=h.natAbs;obtain⟨N,hN⟩:∃N,N=n.natAbs:=⟨_,rfl⟩
 go_enter func232,ntmps232
 apply iY 6 [0] m;simp only[↓aD,nA];intro g1 u m;refine aC aO ?_;replace m:=m.nilO 3 1;apply aL 2 [] m;simp only[↓aD];rcases (show n<0∨0≤n by omega) with h0 | h0
 ·
  have hwn:true=fY n:=(decide_eq_true h0).symm;apply aU 2 [0] m;simp only[↓aD];refine aC (jE lJ jN O (adX h h0)) ?_;apply aL 11 [1,0] m;simp only[↓aD];refine⟨by omega,?_⟩;refine aC (tY O (Ul hna (by omega))) ?_;apply aL 4 [0] m;simp only[↓aD];refine bX [3,4] [11,12,13,14,15,16,17,18,19,20] (fun n vs wl=>∃(z j:Nat) (os:List Nat) (A3:Option Addr) (cap3:Nat),vs=[.slice A3 j cap3,.int .u64 (z:Int)]∧Mem w wl [oI 3 1 A3 j cap3 (os.map rW),bI g1 [.bool false,.string ⟨#[]⟩] 95]∧(j=os.length)∧(val 65536 os+65536^os.length*z=N)∧(eO 65536 os)∧(z≤9223372036854775808)∧(z<2^(64-os.length))∧(os.length≤64)∧(n=z)) ?_ ?_
  ·
   exact⟨_,n.natAbs,0,[],none,0,O,m,O,by simp[val,hN],mU _,hna,by simp;omega,by simp,rfl⟩
  ·
   intro n vs wr hI u K1 hK1;obtain⟨z,j,os,A3,cap3,rfl,m,hj,hv,hd,hm,hol2,hol3,hn⟩:=hI;simp only[zu,zF,zG];apply aK 6 [0,0] m;simp only[↓aD];refine bD O ?_ ?_<;>intro hc2
   ·
    apply aK 6 [0] m;simp only[↓aD];refine aC (cP O O (by omega) (pR (n:=65536))) (aC (jE jN lJ O (bP (by omega) (by omega))) ?_);simp only[zz];refine gA dN (z:=.int .i64 0) (by kernel_rfl) O O O ?_;intro u g2 e_ h_ k_;replace m:=m.newB e_ h_ k_;simp only[zz];refine bM m 1 O O dN sV O (by decide) O O O (m.b 0 O).rowsO (fV O) (by omega) (by omega) ?_;intro A3 cap3 u m;simp only[zF,zG] at m;simp only[zA,zB,zC,zD,zE,mB] at m;apply aL 4 [0] m;simp only[↓aD];refine aC (jD O O (by omega) (adR (n:=65536) (by omega))) ?_;apply aL 3 [0] m;simp only[↓aD];have r:=Qp hv hd hol2 hol3 (show 0<z by omega);exact hK1 (z / 65536) _ _ (by omega) (by kernel_rfl) ⟨z / 65536,j+1,os++[z%65536],A3,cap3,O,(m.sel [false,true,true]),by simp;omega,r.1,r.2.1,by omega,r.2.2.1,r.2.2.2,rfl⟩
   ·
    apply aK 2 [] m;simp only[↓aD];obtain rfl:z=0:=by omega
    rw[ky,Nat.add_zero] at hv;obtain⟨hD,_⟩:=Rz (m.o 0 rfl) hj hd (by omega);apply aU 4 [1,0] m;simp only[↓aD];refine⟨by omega,?_⟩;refine bH O O (yX _ hD (by omega)) ?_;rintro v u e_ rfl;replace m:=m.ext' e_;simp only[zz];rw[hv,hN,hwn,Hg];apply jS 3 [1] m;simp only[↓aD,fL,aa];intro u m;exact aT O ⟨_,O,((m.b 1 O).full cM aR)⟩ ⟨_,O,m.ext,O⟩
 ·
  have hwn:false=fY n:=(decide_eq_false (by omega)).symm;apply aU 2 [0] m;simp only[↓aD];refine aC (jE lJ jN O (ag4 h h0)) ?_;apply aL 12 [2,0] m;simp only[↓aD];refine⟨by omega,?_⟩;refine bX [3,4] [11,12,13,14,15,16,17,18,19,20] (fun n vs wl=>∃(z j:Nat) (os:List Nat) (A3:Option Addr) (cap3:Nat),vs=[.slice A3 j cap3,.int .u64 (z:Int)]∧Mem w wl [oI 3 1 A3 j cap3 (os.map rW),bI g1 [.bool false,.string ⟨#[]⟩] 95]∧(j=os.length)∧(val 65536 os+65536^os.length*z=N)∧(eO 65536 os)∧(z≤9223372036854775808)∧(z<2^(64-os.length))∧(os.length≤64)∧(n=z)) ?_ ?_
  ·
   exact⟨_,n.natAbs,0,[],none,0,O,m,O,by simp[val,hN],mU _,hna,by simp;omega,by simp,rfl⟩
  ·
   intro n vs wr hI u K2 hK2;obtain⟨z,j,os,A3,cap3,rfl,m,hj,hv,hd,hm,hol2,hol3,hn⟩:=hI;simp only[zu,zF,zG];apply aK 6 [0,0] m;simp only[↓aD];refine bD O ?_ ?_<;>intro hc2
   ·
    apply aK 6 [0] m;simp only[↓aD];refine aC (cP O O (by omega) (pR (n:=65536))) (aC (jE jN lJ O (bP (by omega) (by omega))) ?_);simp only[zz];refine gA dN (z:=.int .i64 0) (by kernel_rfl) O O O ?_;intro u g2 e_ h_ k_;replace m:=m.newB e_ h_ k_;simp only[zz];refine bM m 1 O O dN sV O (by decide) O O O (m.b 0 O).rowsO (fV O) (by omega) (by omega) ?_;intro A3 cap3 u m;simp only[zF,zG] at m;simp only[zA,zB,zC,zD,zE,mB] at m;apply aL 4 [0] m;simp only[↓aD];refine aC (jD O O (by omega) (adR (n:=65536) (by omega))) ?_;apply aL 3 [0] m;simp only[↓aD];have r:=Qp hv hd hol2 hol3 (show 0<z by omega);exact hK2 (z / 65536) _ _ (by omega) (by kernel_rfl) ⟨z / 65536,j+1,os++[z%65536],A3,cap3,O,(m.sel [false,true,true]),by simp;omega,r.1,r.2.1,by omega,r.2.2.1,r.2.2.2,rfl⟩
   ·
    apply aK 2 [] m;simp only[↓aD];obtain rfl:z=0:=by omega
    rw[ky,Nat.add_zero] at hv;obtain⟨hD,_⟩:=Rz (m.o 0 rfl) hj hd (by omega);apply aU 4 [2,0] m;simp only[↓aD];refine⟨by omega,?_⟩;refine bH O O (yX _ hD (by omega)) ?_;rintro v u e_ rfl;replace m:=m.ext' e_;simp only[zz];rw[hv,hN,hwn,Hg];apply jS 3 [1] m;simp only[↓aD,fL,aa];intro u m;exact aT O ⟨_,O,((m.b 1 O).full cM aR)⟩ ⟨_,O,m.ext,O⟩
end Go.Proofs.YtfekpcimgncioaaGreatDoor
namespace Go.Proofs.YtfekpcimgncioaaGreatDoor
open Go.Proofs.Tryz
open Go.RowKit Go.Lith
set_option maxRecDepth 100000
attribute [local irreducible] ar cl fU Code.wp
end Go.Proofs.YtfekpcimgncioaaGreatDoor
namespace Go.Proofs.YtfekpcimgncioaaGreatDoor
open Go.Proofs.Tryz
open Go.RowKit Go.Lith
set_option maxRecDepth 100000
attribute [local irreducible] ar cl fU bS cO Code.wp
attribute [local congr] pD gF gG gH gI gJ kL gK gL gM gN gQ gR gS gT gU gV gW eU eV gX gY iA iB iC kN dF dG cW dD gZ kM eW eX eY iD iE kO
theorem Sb{l:List UInt8}(hl:l.length≤1000000000000000):dS prog 315 [.string (nM l),.int .u8 0] (.string (nM (jR l))):=by
 intro w;refine⟨bJ func315 (by kernel_rfl),?_⟩;have m:=Mem.refl w
 go_enter func315,ntmps315
 apply fI 6 [0] m;simp only[↓aD];refine bX [0] [5,6,7,8,9,10,11,12,13,14,15] (fun n vs wl=>∃(k:List UInt8),vs=[.string (nM k)]∧Mem w wl []∧(jR k=jR l)∧(k.length≤1000000000000000)∧(n=k.length)) ?_ ?_
 ·
  exact⟨_,l,O,m,O,hl,O⟩
 ·
  intro n vs wr hI u K1 hK1;obtain⟨k,rfl,m,hk,hl,hn⟩:=hI;have hsz:=Fm k;simp only[zu,zF,zG];apply aK 2 [] m;simp only[↓aD];by_cases hk0:0<k.length
  ·
   obtain⟨b,hb⟩:∃b,k[0]? = some b:=⟨k[0],am hk0⟩
   apply aU 2 [0] m;simp only[↓aD];refine aC (tZ O pC O) ?_;apply aL 3 [1,0] m;simp only[↓aD];refine⟨by omega,?_⟩;refine eB O (aC ((oJ pC O O (by omega) (by rw[ae5];exact hb))) ?_);apply aL 4 [0,0] m;simp only[↓aD];refine bD O ?_ ?_<;>intro hc1
   ·
    apply aK 4 [0] m;simp only[↓aD];refine aC (agT pC O O (by omega) (by omega)) ?_;apply aL 2 [] m;simp only[↓aD];rw[show (1:Int).toNat=1 from rfl,ab5];apply aU 1 [0] m;simp only[↓aD];exact hK1 ((k.drop 1).length) _ _ (by rw[ft];omega) (by kernel_rfl) ⟨k.drop 1,rfl,m,by rw[ab6 hb (by omega)];exact hk,by rw[ft];omega,rfl⟩
   ·
    apply aK 7 [] m;simp only[↓aD];refine aT O O ?_;try simp only[zD,zE]
    exact⟨_,O,m.ext,by rw[←hk,ab7 hb (by omega)]⟩
  ·
   obtain rfl:k=[]:=fa (by omega);apply aU 2 [0] m;simp only[↓aD];refine aC (tZ O pC O) ?_;apply aL 16 [2] m;simp only[↓aD];refine⟨by omega,?_⟩;refine aT O O ?_;try simp only[zD,zE]
   exact⟨_,O,m.ext,by rw[←hk,ae6]⟩
theorem adi{l:List UInt8}(hl:l.length≤1000000000000000):dS prog 258 [.string (nM l),.string ⟨#[0]⟩] (.string (nM (jR l))):=by
 intro w;refine⟨bJ func258 (by kernel_rfl),?_⟩;have m:=Mem.refl w;have hsz:=Fm l
 go_enter func258,ntmps258
 apply fI 6 [] m;simp only[↓aD];by_cases hk0:l=[]
 ·
  subst hk0;apply aU 2 [0] m;simp only[↓aD];refine aC (anN (ab4 pC O O) (show _=bj true by simp[nM])) ?_;apply aL 12 [] m;simp only[↓aD];exact aT O O ⟨_,O,m.ext,O⟩
 ·
  apply aU 2 [0] m;simp only[↓aD];refine aC (anN (ab4 pC O O) (show _=bj false by simp only[aat,hk0,decide_false])) ?_;apply aL 2 [0] m;simp only[↓aD];refine eB O (aC (anN (ab4 pC O O) (show _=bj false by simp)) ?_);apply aL 8 [0] m;simp only[↓aD];refine aC (tZ O pC O) (aC (xT O O O) ?_);apply aL 2 [0] m;simp only[↓aD];refine eB O (aC ((oJ (b:=0) pC O O (by omega) O)) (eB O (aC (qT O O (by decide)) ?_)));apply aL 7 [0] m;simp only[↓aD];refine aC ((oJ (b:=0) pC O O (by omega) O)) ?_;simp only[zz];refine nF m O O (Sb hl) 3 [] ?_;simp only[↓aD];intro u m;exact aT O O ⟨_,O,m.ext,O⟩
end Go.Proofs.YtfekpcimgncioaaGreatDoor
