/-
 Texts of one claim, laid together: Ref4, Ref5, Ref6, Ref7, Wide6, Wide1, Wide2, Wide3, Wide4, Wide5, Back, Wide7, Wide8, Wide9, Wide10, Geo1, Exact, Exact2, K6, Sla, K7, Guard2, K8, K9, K10, K11, Kt, K16.
-/
import Derived.RangeFuncNested
import Derived.RangeFuncBound
import Derived.RangeFuncCalls
import Derived.RangeFuncBox
import Derived.RangeFuncLeaves
import Derived.Shelf.Abstract
import Derived.Shelf.RegionOpen
import Derived.WalkKit
import Derived.OwnWalkIn
import Derived.TacticsInMore
import Derived.LoopNIn
import Derived.LoopIn
import Derived.Maps.AppendAt
import Derived.Test.YtfekpcimgncioaaGreatDoorCP5
open Nat renaming reduceAdd→aa,reduceMul→ag,le_refl→aq,zero_add→au,le_trans→ba,zero_le→cv,lt_succ_self→fg,lt_of_lt_of_le→gg,reduceSub→km,ne_of_gt→lg,mul_zero→lj,sub_le→py
open Int renaming reduceToNat→ad,toNat_natCast→ah,reduceAdd→ak,natAbs_mul→jq,sub_eq_add_neg→pg
open Go renaming Value→ai,World→aj,wp_region_lit→ao,wpList→ar,TypeId→az,Operand→bw,run_underlying→cd,wpQuiet→cw,MapEntry→c_
open List renaming getElem?_eq_getElem→am,mem_cons→an,getElem?_eq_some_iff→ap,length_cons→av,length_append→aw,take_of_length_le→a_,mem_singleton→bf,mem_of_getElem?→bh,mem_append→bi,length_nil→bv,length_map→bx,getElem?_eq_none→bz,nil_append→b_,not_mem_nil→cg,replicate→cl,cons_append→cn,map_append→ct,all_eq_true→de,mem_map→dh,mem_iff_getElem?→ej,eq_nil_of_length_eq_zero→et,getElem?_map→fb,length_drop→fl,take_length→fp,set_cons_succ→fx,set_cons_zero→gh,size_toArray→gm,filter_append→il,eq_of_mem_replicate→iq,getD_cons_zero→iu,getD_cons_succ→iv,append_toArray→iw,push_toArray→jd,length_singleton→je,take_zero→kf,nodup_nil→kx,pairwise_map→lk,drop_length→lv,drop_zero→m_,all_eq_false→pp
open Go.Value renaming bool→bn,oneCell'→pk
open Option renaming getD_some→dq,getD_none→ly
open UInt8 renaming ofNat→ei,toNat_ofNat'→jj
open Array renaming replicate_succ→ii,replicate_zero→ij
open Prod renaming snd→pv
open Go.Oper renaming semAt_some→qh
set_option maxHeartbeats 8000000
set_option linter.unusedSimpArgs false
set_option linter.unusedVariables false
set_option linter.unusedSectionVars false
namespace Go.Proofs.YtfekpcimgncioaaGreatDoor
open Go.Proofs.Tryz
open Go.RowKit Go.Lith
variable{a:Int}
abbrev fE:=@underlying233
set_option maxRecDepth 100000
attribute [local irreducible] ar cw gG bQ cO Code.wp
attribute [local congr] rC gX gY gZ iA iB lI iC iD iE iF iG iH iJ iK iL iM iN fJ fK iO iP iR iS iT lK dW dX cX dV iQ lJ fN fO fP iU iV lM
theorem Kb{os:List UInt8}{x:Nat}(hx:x<256):os.map u8v++[.int .u8 (x:Int)]=(os++[ei x]).map u8v:=by
 have:u8v (ei x)=.int .u8 (x:Int):=by simp only[u8v,jj,Value.int.injEq,true_and];rw[Nat.mod_eq_of_lt (by omega)]
 rw[ct,List.map_singleton,this]
theorem xV{neg:Bool}{s:ByteArray}(w:aj)(hs:s.size≤1000000000000):dQ prog 280 [.agg #[.bool neg,.string s]] w (wO (amq s)):=by
 refine⟨bK func280 (by kernel_rfl),?_⟩;have m:=Mem.refl w;have hbl:=wK s;have hbd:=Ng s
 go_enter func280,ntmps280
 apply jP 7 [0] m;simp only[↓aD];intro g1 u m;refine aB aO ?_;replace m:=m.nilO 3 1;apply aL 5 [1,0] m;simp only[↓aD,zX,ad4,aa];refine aB (uL O pI O) ?_;apply aL 9 [0] m;simp only[↓aD];refine bX [3,5] [6,11,12,13,14,15,16,17,18,19,20,21,22,23,24,25,26,27,28,29,30,31,32,33,34,35] (fun n vs wl=>∃(k:Nat) (os:List Nat) (A3:Option Addr) (cap3:Nat),vs=[.slice A3 k cap3,.int .i64 ((s.size:Int)-2*(k:Int))]∧Mem w wl [oI 3 1 A3 k cap3 (os.map sA),bI g1 [.bool neg,.string s] 95]∧(os.length=k)∧(val 65536 os=val 256 ((oR s).take (2*k)))∧(eM 65536 os)∧(2*k≤s.size+1)∧(n=s.size-2*k)) ?_ ?_
 ·
  rw[show ((s.size:Int))=(s.size:Int)-2*((0:Nat):Int) by omega];exact⟨_,0,[],none,0,O,m,O,by simp[val],mZ _,by omega,O⟩
 ·
  intro n vs wr hI u K1 hK1;obtain⟨k,os,A3,cap3,rfl,m,hlo,hv,hd,hk,hn⟩:=hI;simp only[zu,zF,zG];apply aJ 6 [0,0] m;simp only[↓aD];refine bG O ?_ ?_<;>intro hc1
  ·
   apply aJ 4 [] m;simp only[↓aD];obtain⟨y1,hb1,hp1,hy1⟩:=Gh (show 2*k+1+(s.size-2*k-1)=s.size by omega);have hy1l:y1.toNat<256:=y1.toNat_lt;apply aW 5 [1,0] m;simp only[↓aD,zX,ad4,aa];refine⟨by omega,?_⟩;refine aB ((oQ pI O O (by omega) (by rw[show ((s.size:Int)-2*(k:Int)-1).toNat=s.size-2*k-1 by omega];exact hb1))) ?_;apply aL 9 [0,0] m;simp only[↓aD,xM,Mc];refine⟨by omega,?_⟩;refine bG O ?_ ?_<;>intro hc2
   ·
    obtain⟨y2,hb2,hp2,hy2⟩:=Gh (show 2*k+1+1+(s.size-2*k-2)=s.size by omega);have hy2l:y2.toNat<256:=y2.toNat_lt;apply aJ 6 [1,0] m;simp only[↓aD,zX,ad4,aa];refine⟨by omega,?_⟩;refine aB ((oQ pI O O (by omega) (by rw[show ((s.size:Int)-2*(k:Int)-2).toNat=s.size-2*k-2 by omega];exact hb2))) ?_;apply aL 5 [] m;simp only[↓aD,xM,Mc];refine⟨by omega,?_⟩;obtain⟨d,hd1⟩:∃d:Nat,d=y1.toNat+256*y2.toNat:=⟨_,rfl⟩
    rw[show ((y1.toNat:Int)+256*(y2.toNat:Int))=(d:Int) by omega];have hd2:d=(oR s)[2*k]+256*((oR s)[2*k+1]?.getD 0):=by rw[am hp2,hy1];simp only[dq];rw[hy2];exact hd1
    apply aW 3 [0] m;simp only[↓aD];refine gA dH (z:=.int .i64 0) (by kernel_rfl) O O O ?_;intro u g2 e_ h_ k_;replace m:=m.newB e_ h_ k_;simp only[zz];refine bL m 1 O O dH tA O (by decide) O O O (m.b 0 O).rowsO (gB O) (by omega) (by omega) ?_;intro A3 cap3 u m;simp only[zF,zG] at m;simp only[zA,zB,zC,zD,zE,mD] at m;apply aL 8 [0] m;simp only[↓aD];refine⟨by omega,?_⟩;obtain⟨r1,r2⟩:=Jb hlo hv (by omega) hd2 hbd hd;rw[show ((s.size:Int)-2*(k:Int)-2)=(s.size:Int)-2*((k+1:Nat):Int) by omega];exact hK1 (s.size-2*(k+1)) _ _ (by omega) (by kernel_rfl) ⟨k+1,os++[d],A3,cap3,O,(m.sel [false,true,true]),by simp;omega,r1,r2,by omega,rfl⟩
   ·
    obtain⟨d,hd1⟩:∃d:Nat,d=y1.toNat:=⟨_,rfl⟩
    rw[←hd1];have hd2:d=(oR s)[2*k]+256*((oR s)[2*k+1]?.getD 0):=by rw[bz (by omega),hy1];simp only[ly];omega
    apply aJ 4 [0] m;simp only[↓aD];refine gA dH (z:=.int .i64 0) (by kernel_rfl) O O O ?_;intro u g2 e_ h_ k_;replace m:=m.newB e_ h_ k_;simp only[zz];refine bL m 1 O O dH tA O (by decide) O O O (m.b 0 O).rowsO (gB O) (by omega) (by omega) ?_;intro A3 cap3 u m;simp only[zF,zG] at m;simp only[zA,zB,zC,zD,zE,mD] at m;apply aL 8 [0] m;simp only[↓aD];refine⟨by omega,?_⟩;obtain⟨r1,r2⟩:=Jb hlo hv (by omega) hd2 hbd hd;rw[show ((s.size:Int)-2*(k:Int)-2)=(s.size:Int)-2*((k+1:Nat):Int) by omega];exact hK1 (s.size-2*(k+1)) _ _ (by omega) (by kernel_rfl) ⟨k+1,os++[d],A3,cap3,O,(m.sel [false,true,true]),by simp;omega,r1,r2,by omega,rfl⟩
  ·
   apply aJ 2 [] m;simp only[↓aD];obtain⟨hD,_⟩:=To (m.o 0 rfl) hlo.symm hd (by omega);apply aW 2 [0] m;simp only[↓aD];refine bJ O O (aaF _ hD) ?_;rintro v u e_ rfl;replace m:=m.ext' e_;replace hD:=hD.ext e_;apply aL 3 [] m;simp only[↓aD];exact aT O O ⟨_,O,m.ext,wO.of_trim hD (by rw[hv,a_ (by omega)];rfl)⟩
theorem Ag{A:Option Addr}{xs:List Nat}{b na cap:Nat}{neg:Bool}(w:aj)(hS:gC w b A na cap xs)(hl:xs.length≤100000000000):dQ prog 281 [.bool neg,.slice A na cap] w (fun v _=>v=W (Uw neg (val 65536 xs))):=by
 refine⟨bK func281 (by kernel_rfl),?_⟩;have m:=Mem.refl w;obtain rfl:=hS.eq;have hlt:=uM xs;have hT:gC w w.heap.size A (trim xs).length cap (trim xs):=by
  have h:=(hS.take (trim xs).length).here;rwa [←kW] at h
 have htr:=Hu xs;have hvx:=Ht 65536 xs;obtain⟨ys,hys⟩:∃ys,ys=trim xs:=⟨_,rfl⟩
 rw[←hys] at hT htr hlt hvx;have hyd:=hT.digs;have h2l:=agQ ys
 go_enter func281,ntmps281
 apply jP 7 [0] m;simp only[↓aD,nF];intro g1 u m;refine dM m O O (aaF _ (hS.ext m.ext)) ?_;rintro v u m rfl;simp only[zz];rw[←hys];clear hys;apply aL 4 [] m;simp only[↓aD];by_cases hy0:ys=[]
 ·
  subst hy0;apply aW 3 [0] m;simp only[↓aD,kM];refine aB (yG O O (by rfl)) ?_;apply kD 8 [0] m;simp only[↓aD,ao8,fD,aa];intro u m;refine aT O ⟨_,O,((m.b 0 O).full cI aQ)⟩ ?_;try simp only[zD,zE]
  exact⟨_,O,m.ext,by rw[←hvx];cases neg <;> rfl⟩
 ·
  have hyl:0<ys.length:=List.length_pos_iff.2 hy0;have htop:=abd htr hyl;apply aW 9 [2,0] m;simp only[↓aD,kM];refine⟨by omega,?_⟩;refine aB aO ?_;replace m:=m.nilO 5 1;apply aL 10 [0] m;simp only[↓aD,kM];refine⟨by omega,?_⟩;refine bX [5,6] [16,17,18,19,20,21,22,23,24,25,26,27,28,29,30,31,32,33,34,35,36,37,38,39,40,41,42,43,44,45,46,47,48,49] (fun n vs wl=>∃(k j:Nat) (os:List UInt8) (A5:Option Addr) (cap5:Nat),vs=[.slice A5 j cap5,.int .i64 ((k:Int)-1)]∧Mem w wl [oI 5 1 A5 j cap5 (os.map u8v),bI g1 [.bool false,.string ⟨#[]⟩] 95]∧(os.length=j)∧(os=oL ys k)∧(k≤ys.length)∧(k<ys.length→oL ys k≠[])∧(os.length≤2*ys.length)∧(n=k)) ?_ ?_
  ·
   exact⟨_,ys.length,0,[],none,0,O,m,O,(Xe ys).symm,by omega,fun h=>absurd h (by omega),by simp,O⟩
  ·
   intro n vs wr hI u K1 hK1;obtain⟨k,j,os,A5,cap5,rfl,m,hjl,hos,hk,hne,hosl,hn⟩:=hI;simp only[zu,zF,zG];apply aJ 6 [0,0] m;simp only[↓aD];refine bG O ?_ ?_<;>intro hc2
   ·
    apply aJ 5 [] m;simp only[↓aD];obtain⟨a,rfl,hca,hla⟩:=hT.get (show k-1<ys.length by omega);rcases (show k<ys.length∨k=ys.length by omega) with hkl | hkl
    ·
     obtain⟨r1,r2⟩:=adN (show 0<k by omega) (by omega) (hne hkl);apply aW 15 [1] m;simp only[↓aD,kM];refine⟨by omega,?_⟩;have hca:=hT.at (show k-1<ys.length by omega);apply aW 4 [0] m;simp only[↓aD];refine aB (aF dH aU O O (by omega) (by omega) (jI (show _=k-1 by omega))) ?_;simp only[zz];refine aR O (lies1 (m.ext.cell hca) bD) ?_;simp only[zz];refine aB (jG O O (by omega) (tO (n:=256) (by omega))) (aB (jA Vt jE O (Cr (by omega))) ?_);simp only[zz];refine gA oT (z:=.int .u8 0) (by kernel_rfl) O O O ?_;intro u g2 e_ h_ k_;replace m:=m.newB e_ h_ k_;simp only[zz];refine bL m 1 O O oT Wm O (by decide) O O O (m.b 0 O).rowsO (gB O) (by omega) (by omega) ?_;intro A5 cap5 u m;simp only[zF,zG] at m;simp only[zz] at m;rw[Kb (by omega)] at m;apply aL 2 [] m;simp only[↓aD];have hca:=hT.at (show k-1<ys.length by omega);apply aW 4 [0] m;simp only[↓aD];refine aB (aF dH aU O O (by omega) (by omega) (jI (show _=k-1 by omega))) ?_;simp only[zz];refine aR O (lies1 (m.ext.cell hca) bD) ?_;simp only[zz];refine aB (cP O O (by omega) (pU (n:=256))) (aB (jA Vt jE O (Cr (by omega))) ?_);simp only[zz];refine gA oT (z:=.int .u8 0) (by kernel_rfl) O O O ?_;intro u g3 e_ h_ k_;replace m:=m.newB e_ h_ k_;simp only[zz];refine bL m 2 O O oT Wm O (by decide) O O O (m.b 0 O).rowsO (gB O) (by first | omega | (simp;omega)) (by first | omega | (simp;omega)) ?_;intro A5 cap5 u m;simp only[zF,zG] at m;simp only[zz] at m;rw[Kb (by omega)] at m;apply aL 8 [0] m;simp only[↓aD];refine⟨by omega,?_⟩;have hos2:os++[ei (ys[k-1] / 256)]++[ei (ys[k-1]%256)]=oL ys (k-1):=by rw[r1,hos]
     rw[show ((k:Int)-1-1)=((k-1:Nat):Int)-1 by omega];exact hK1 (k-1) _ _ (by omega) (by kernel_rfl) ⟨k-1,j+1+1,os++[ei (ys[k-1] / 256)]++[ei (ys[k-1]%256)],A5,cap5,O,(m.sel [false,false,true,true]),by simp only[aw,je];omega,hos2,by omega,fun _=>r2,by rw[hos2];exact h2l _,O⟩
    ·
     subst hkl;obtain⟨f1,f2⟩:=abK (by omega) htop hla;have hos0:os=[]:=by rw[hos];exact Xe ys
     apply aW 9 [2,0] m;simp only[↓aD,kM];refine⟨by omega,?_⟩;refine eE O (aB (aF dH aU O O (by omega) (by omega) (jI (show _=ys.length-1 by omega))) (eE O ?_));simp only[zz];refine aR O (lies1 (m.ext.cell hca) bD) ?_;simp only[zz];apply aL 3 [0,0] m;simp only[↓aD];refine bG O ?_ ?_<;>intro hc3
     ·
      have hca:=hT.at (show ys.length-1<ys.length by omega);apply aJ 4 [0] m;simp only[↓aD];refine aB (aF dH aU O O (by omega) (by omega) (jI (show _=ys.length-1 by omega))) ?_;simp only[zz];refine aR O (lies1 (m.ext.cell hca) bD) ?_;simp only[zz];refine aB (jG O O (by omega) (tO (n:=256) (by omega))) (aB (jA Vt jE O (Cr (by omega))) ?_);simp only[zz];refine gA oT (z:=.int .u8 0) (by kernel_rfl) O O O ?_;intro u g2 e_ h_ k_;replace m:=m.newB e_ h_ k_;simp only[zz];refine bL m 1 O O oT Wm O (by decide) O O O (m.b 0 O).rowsO (gB O) (by omega) (by omega) ?_;intro A5 cap5 u m;simp only[zF,zG] at m;simp only[zz] at m;rw[Kb (by omega)] at m;apply aL 2 [] m;simp only[↓aD];have hca:=hT.at (show ys.length-1<ys.length by omega);apply aW 4 [0] m;simp only[↓aD];refine aB (aF dH aU O O (by omega) (by omega) (jI (show _=ys.length-1 by omega))) ?_;simp only[zz];refine aR O (lies1 (m.ext.cell hca) bD) ?_;simp only[zz];refine aB (cP O O (by omega) (pU (n:=256))) (aB (jA Vt jE O (Cr (by omega))) ?_);simp only[zz];refine gA oT (z:=.int .u8 0) (by kernel_rfl) O O O ?_;intro u g3 e_ h_ k_;replace m:=m.newB e_ h_ k_;simp only[zz];refine bL m 2 O O oT Wm O (by decide) O O O (m.b 0 O).rowsO (gB O) (by first | omega | (simp;omega)) (by first | omega | (simp;omega)) ?_;intro A5 cap5 u m;simp only[zF,zG] at m;simp only[zz] at m;rw[Kb (by omega)] at m;apply aL 8 [0] m;simp only[↓aD];refine⟨by omega,?_⟩;have hos2:os++[ei (ys[ys.length-1] / 256)]++[ei (ys[ys.length-1]%256)]=oL ys (ys.length-1):=by rw[f1,if_pos (by omega),hos0];rfl
      rw[show ((ys.length:Int)-1-1)=((ys.length-1:Nat):Int)-1 by omega];exact hK1 (ys.length-1) _ _ (by omega) (by kernel_rfl) ⟨ys.length-1,j+1+1,os++[ei (ys[ys.length-1] / 256)]++[ei (ys[ys.length-1]%256)],A5,cap5,O,(m.sel [false,false,true,true]),by simp only[aw,je];omega,hos2,by omega,fun _=>f2,by rw[hos2];exact h2l _,O⟩
     ·
      apply aJ 1 [] m;simp only[↓aD];have hca:=hT.at (show ys.length-1<ys.length by omega);apply aW 4 [0] m;simp only[↓aD];refine aB (aF dH aU O O (by omega) (by omega) (jI (show _=ys.length-1 by omega))) ?_;simp only[zz];refine aR O (lies1 (m.ext.cell hca) bD) ?_;simp only[zz];refine aB (cP O O (by omega) (pU (n:=256))) (aB (jA Vt jE O (Cr (by omega))) ?_);simp only[zz];refine gA oT (z:=.int .u8 0) (by kernel_rfl) O O O ?_;intro u g2 e_ h_ k_;replace m:=m.newB e_ h_ k_;simp only[zz];refine bL m 1 O O oT Wm O (by decide) O O O (m.b 0 O).rowsO (gB O) (by first | omega | (simp;omega)) (by first | omega | (simp;omega)) ?_;intro A5 cap5 u m;simp only[zF,zG] at m;simp only[zz] at m;rw[Kb (by omega)] at m;apply aL 8 [0] m;simp only[↓aD];refine⟨by omega,?_⟩;have hos2:os++[ei (ys[ys.length-1]%256)]=oL ys (ys.length-1):=by rw[f1,if_neg (by omega),hos0]
      rw[show ((ys.length:Int)-1-1)=((ys.length-1:Nat):Int)-1 by omega];exact hK1 (ys.length-1) _ _ (by omega) (by kernel_rfl) ⟨ys.length-1,j+1,os++[ei (ys[ys.length-1]%256)],A5,cap5,O,(m.sel [false,true,true]),by simp only[aw,je];omega,hos2,by omega,fun _=>f2,by rw[hos2];exact h2l _,O⟩
   ·
    apply aJ 5 [0] m;simp only[↓aD];refine fG (Qn oT Vt pI O (m.o 0 O).own) ?_;apply kD 4 [1] m;simp only[↓aD,ao8,fD,aa];intro u m;refine aT O ⟨_,O,((m.b 1 O).full cI aQ)⟩ ?_;try simp only[zD,zE]
    exact⟨_,rfl,m.ext,by (obtain rfl:k=0:=by omega);(have hV:val 65536 ys≠0:=lg (Hv (by omega) htr hy0));rw[hos,adO hyd neg,←hvx];simp[Lith.W,Zg,hV]⟩
theorem ahp{k:Nat}{b:Int}(ha:Bd k a)(hb:Bd k b):(digs 65536 (a*b).natAbs).length≤k+k:=xJ (Bd.mul ha hb)
theorem Yg  : (((digs 65536 a.natAbs).length:Int)=0)↔a=0:=by
 constructor
 ·
  intro h;have h0:digs 65536 a.natAbs=[]:=et (by omega);have:=(vP (by omega)).1 h0;omega
 · rintro rfl;rfl
theorem Kc(ha:Bd 1000000 a):dT prog 211 [W a] (.int .i64 (bA a)):=by
 intro w;refine⟨bK func211 (by kernel_rfl),?_⟩;have m:=Mem.refl w
 go_enter func211,ntmps211
 apply jP 9 [0,0] m;simp only[↓aD,fD];intro g1 u m;refine bJ O O (xV _ (kS ha)) ?_;rintro v u e_ ⟨A1,c1,rfl,hD1⟩;replace m:=m.ext' e_;simp only[zz];rw[kQ] at hD1 ⊢;apply aL 3 [0,0] m;simp only[↓aD,kM];refine bG O ?_ ?_<;>intro hc1
 ·
  have h0:=Yg.1 hc1;apply aJ 5 [] m;simp only[↓aD];refine aT O O ?_;try simp only[zD,zE]
  exact⟨_,O,m.ext,by rw[h0];rfl⟩
 ·
  apply aJ 7 [0,0] m;simp only[↓aD,mU,Jj,aa];refine gF O ?_ ?_<;>intro hc2
  ·
   have hn:=La hc2;apply aJ 5 [] m;simp only[↓aD];refine aT O O ?_;try simp only[zD,zE]
   exact⟨_,O,m.ext,by rw[Dz hn]⟩
  ·
   have hn:=Gk hc2;have h0:¬a=0:=fun e=>hc1 (Yg.2 e);apply aJ 6 [] m;simp only[↓aD];refine aT O O ?_;try simp only[zD,zE]
   exact⟨_,O,m.ext,by rw[Ea (by omega)]⟩
theorem aru(ha:Bd 1000000 a):dT prog 325 [W a] (W (-a)):=by
 intro w;refine⟨bK func325 (by kernel_rfl),?_⟩;have m:=Mem.refl w;have hla:(digs 65536 a.natAbs).length≤1000000:=xJ ha
 go_enter func325,ntmps325
 apply jP 6 [0] m;simp only[↓aD,nF];intro g1 g2 u m;refine mh m [false,true] [(0,true),(1,true),(2,true),(3,true),(4,false),(5,false),(6,false)] aC (by kernel_rfl) (bU (fun _ _ _ _ _ h=>h)) (ol:=?_) ?hol ?_
 case hol=>simp only[zw,zQ,zR];try rfl
 intro u m;refine Pg 4 [0,0] ?_;simp only[↓aD,mU,Jj,fD,aa];refine bR (bJ O O (xV _ (kS ha)) ?_);rintro v u e_ ⟨A1,c1,rfl,hD1⟩;replace m:=m.ext' e_;simp only[zz];rw[kQ] at hD1 ⊢;refine aM ⟨m.sel [false,true],?_⟩;refine bR (bJ O O (Ag _ hD1 (ba hla (by decide))) ?_);rintro v u e_ rfl;replace m:=m.ext' e_;simp only[zz];simp only[jM];refine aM ⟨m.sel [false,true],?_⟩;refine bR (bP m 0 O O O aQ (gV O) O ?_);intro u m;simp only[zy,zx,over,zF,zG,aa] at m;refine aM ⟨m.sel [false,true],?_⟩;refine bW ?_;rw[ae3] at m;apply aW 1 [] m;simp only[↓aD];exact aT O ⟨_,O,((m.b 0 O).full cI aQ)⟩ ⟨_,O,m.ext,O⟩
theorem aet{b:Int}(ha:Bd 1000000 a)(hb:Bd 1000000 b):dT prog 200 [W a,W b] (W (a+b)):=by
 intro w;refine⟨bK func200 (by kernel_rfl),?_⟩;have m:=Mem.refl w;have hla:(digs 65536 a.natAbs).length≤1000000:=xJ ha;have hlb:(digs 65536 b.natAbs).length≤1000000:=xJ hb
 go_enter func200,ntmps200
 apply jP 9 [2,0] m;simp only[↓aD,nF,fD];intro g1 g2 g3 u m;refine bJ O O (xV _ (kS ha)) ?_;rintro v u e_ ⟨A1,c1,rfl,hD1⟩;replace m:=m.ext' e_;simp only[zz];rw[kQ] at hD1 ⊢;apply aL 5 [1,0] m;simp only[↓aD,fD];refine bJ O O (xV _ (kS hb)) ?_;rintro v u e_ ⟨A2,c2,rfl,hD2⟩;replace m:=m.ext' e_;replace hD1:=hD1.ext e_;simp only[zz];rw[kQ] at hD2 ⊢;apply aL 9 [2,1,0] m;simp only[↓aD,mU,Jj,aa];refine aB (aia Va O O) ?_;apply aL 1 [0] m;simp only[↓aD];refine bG O ?_ ?_<;>intro hc1
 ·
  apply aJ 1 [0] m;simp only[↓aD];refine mhe m [false,true,true] [(0,true),(2,true),(3,true),(1,true),(4,false),(5,false),(6,false)] aC (by kernel_rfl) (bU (fun _ _ _ _ _ h=>h)) (ol:=?_) ?hol ?_
  case hol=>simp only[zw,zQ,zR];try rfl
  intro u e_ m;replace hD1:=hD1.ext e_;replace hD2:=hD2.ext e_;refine Pg 4 [1] ?_;simp only[↓aD,mU,Jj,aa];refine bR (bJ O O (art _ hD1.here hD2.here (ba hla (by decide)) (ba hlb (by decide))) ?_);rintro v u e_ ⟨A3,c3,os,rfl,hD3,hv3,hl3⟩;replace m:=m.ext' e_;simp only[zz];simp only[jM] at hv3;refine aM ⟨m.sel [false,true,true],?_⟩;refine bR (bJ O O (Ag _ hD3 (by omega)) ?_);rintro v u e_ rfl;replace m:=m.ext' e_;simp only[zz];rw[hv3];refine aM ⟨m.sel [false,true,true],?_⟩;refine bR (bP m 0 O O O aQ (gV O) O ?_);intro u m;simp only[zy,zx,over,zF,zG,aa] at m;refine aM ⟨m.sel [false,true,true],?_⟩;refine bW ?_;rw[ae4 hc1] at m;apply aW 1 [] m;simp only[↓aD];exact aT O ⟨_,O,((m.b 0 O).full cI aQ)⟩ ⟨_,O,m.ext,O⟩
 ·
  apply aJ 6 [0] m;simp only[↓aD];refine bJ O O (aho _ hD1 hD2 (Cq _) (Cq _)) ?_;rintro v u e_ rfl;replace m:=m.ext' e_;replace hD1:=hD1.ext e_;replace hD2:=hD2.ext e_;simp only[zz];simp only[jM];apply aL 2 [0,0] m;simp only[↓aD];refine bG O ?_ ?_<;>intro hc2
  ·
   have hge:=Qs.1 hc2;apply aJ 1 [0] m;simp only[↓aD];refine mhe m [false,true,true] [(0,true),(2,true),(3,true),(1,true),(4,false),(5,false),(6,false)] aC (by kernel_rfl) (bU (fun _ _ _ _ _ h=>h)) (ol:=?_) ?hol ?_
   case hol=>simp only[zw,zQ,zR];try rfl
   intro u e_ m;replace hD1:=hD1.ext e_;replace hD2:=hD2.ext e_;refine Pg 4 [1] ?_;simp only[↓aD,mU,Jj,aa];refine bR (bJ O O (afP _ hD1.here hD2.here (Ja hge) (by simp only[jM];omega) (ba hla (by decide))) ?_);rintro v u e_ ⟨⟨A3,c3,rfl,hD3⟩,_⟩;replace m:=m.ext' e_;simp only[zz];simp only[jM] at hD3 ⊢;have hl3:=Ja (py a.natAbs b.natAbs);refine aM ⟨m.sel [false,true,true],?_⟩;refine bR (bJ O O (Ag _ hD3 (ba hl3 (ba hla (by decide)))) ?_);rintro v u e_ rfl;replace m:=m.ext' e_;simp only[zz];simp only[jM];refine aM ⟨m.sel [false,true,true],?_⟩;refine bR (bP m 0 O O O aQ (gV O) O ?_);intro u m;simp only[zy,zx,over,zF,zG,aa] at m;refine aM ⟨m.sel [false,true,true],?_⟩;refine bW ?_;rw[aie hc1 hge] at m;apply aW 1 [] m;simp only[↓aD];exact aT O ⟨_,O,((m.b 0 O).full cI aQ)⟩ ⟨_,O,m.ext,O⟩
  ·
   have hlt:a.natAbs<b.natAbs:=Nat.lt_of_not_le fun h=>hc2 (Qs.2 h);apply aJ 2 [0] m;simp only[↓aD];refine mhe m [false,true,true] [(0,true),(2,true),(3,true),(1,true),(4,false),(5,false),(6,false)] aC (by kernel_rfl) (bU (fun _ _ _ _ _ h=>h)) (ol:=?_) ?hol ?_
   case hol=>simp only[zw,zQ,zR];try rfl
   intro u e_ m;replace hD1:=hD1.ext e_;replace hD2:=hD2.ext e_;refine Pg 4 [0] ?_;simp only[↓aD,mU,Jj,aa];refine bR (bJ O O (afP _ hD2.here hD1.here (Ja (Nat.le_of_lt hlt)) (by simp only[jM];omega) (ba hlb (by decide))) ?_);rintro v u e_ ⟨⟨A3,c3,rfl,hD3⟩,_⟩;replace m:=m.ext' e_;simp only[zz];simp only[jM] at hD3 ⊢;have hl3:=Ja (py b.natAbs a.natAbs);refine aM ⟨m.sel [false,true,true],?_⟩;refine bR (bJ O O (Ag _ hD3 (ba hl3 (ba hlb (by decide)))) ?_);rintro v u e_ rfl;replace m:=m.ext' e_;simp only[zz];simp only[jM];refine aM ⟨m.sel [false,true,true],?_⟩;refine bR (bP m 0 O O O aQ (gV O) O ?_);intro u m;simp only[zy,zx,over,zF,zG,aa] at m;refine aM ⟨m.sel [false,true,true],?_⟩;refine bW ?_;rw[aid hc1 hlt] at m;apply aW 1 [] m;simp only[↓aD];exact aT O ⟨_,O,((m.b 0 O).full cI aQ)⟩ ⟨_,O,m.ext,O⟩
theorem aaG{b:Int}(ha:Bd 1000000 a)(hb:Bd 1000000 b):dT prog 279 [W a,W b] (W (a-b)):=by
 intro w;refine⟨bK func279 (by kernel_rfl),?_⟩;have m:=Mem.refl w
 go_enter func279,ntmps279
 apply jP 7 [0] m;simp only[↓aD,nF];intro g1 g2 g3 u m;refine cL m 4 aC (by kernel_rfl) ?_;simp only[zy];refine ql O (fun u m=>((m.b 2 O).full cI aQ)) ?_;simp only[zz];refine ql O (fun u m=>((m.b 1 O).full cI aQ)) ?_;simp only[zz];refine eX O O (aru hb) ?_;simp only[zz];refine eX O O (aet ha hb.neg) (bC ?_);intro u m;simp only[zz];refine bP m 0 O O O aQ (gV O) O ?_;intro u m;simp only[zy,zx,over,zF,zG,aa] at m;refine aM ?_;rw[←pg] at m;apply aW 1 [] m;simp only[↓aD];exact aT O ⟨_,O,((m.b 0 O).full cI aQ)⟩ ⟨_,O,m.ext,O⟩
theorem Tp{b:Int}(ha:Bd 1000000 a)(hb:Bd 1000000 b):dT prog 231 [W a,W b] (W (a*b)):=by
 intro w;refine⟨bK func231 (by kernel_rfl),?_⟩;have m:=Mem.refl w;have hla:(digs 65536 a.natAbs).length≤1000000:=xJ ha;have hlb:(digs 65536 b.natAbs).length≤1000000:=xJ hb;have hls:=ahp ha hb
 go_enter func231,ntmps231
 apply jP 7 [0] m;simp only[↓aD,nF];intro g1 g2 g3 u m;refine mh m [false,true,true] [(0,true),(2,true),(1,true),(3,true),(4,true),(5,true),(7,true),(6,false),(8,false),(9,false),(10,false),(11,false)] aC (by kernel_rfl) (bU (fun _ _ _ _ _ h=>h)) (ol:=?_) ?hol ?_
 case hol=>simp only[zw,zQ,zR];try rfl
 intro u m;refine Pg 4 [1,0] ?_;simp only[↓aD,mU,Jj,aa];refine bF (Qm Va O O) ?_;simp only[zz];refine fU O (fun u m=>((m.b 1 O).full cI aQ)) ?_;simp only[zz];refine fU O (fun u m=>((m.b 0 O).full cI aQ)) ?_;simp only[zz];refine bR (bJ O O (xV _ (kS ha)) ?_);rintro v u e_ ⟨A1,c1,rfl,hD1⟩;replace m:=m.ext' e_;simp only[zz];rw[kQ] at hD1 ⊢;refine aM ⟨m.sel [false,true,true],?_⟩;refine bR (bJ O O (xV _ (kS hb)) ?_);rintro v u e_ ⟨A2,c2,rfl,hD2⟩;replace m:=m.ext' e_;replace hD1:=hD1.ext e_;simp only[zz];rw[kQ] at hD2 ⊢;refine aM ⟨m.sel [false,true,true],?_⟩;refine bR (bJ O O (aob _ hD1.here hD2.here (ba hla (by decide)) (ba hlb (by decide))) ?_);rintro v u e_ ⟨⟨A3,c3,rfl,hD3⟩,_⟩;replace m:=m.ext' e_;simp only[zz];simp only[jM] at hD3 ⊢;rw[←jq] at hD3 ⊢;refine aM ⟨m.sel [false,true,true],?_⟩;refine bR (bJ O O (Ag _ hD3 (ba hls (by decide))) ?_);rintro v u e_ rfl;replace m:=m.ext' e_;simp only[zz];simp only[jM];refine aM ⟨m.sel [false,true,true],?_⟩;refine bR (bP m 0 O O O aQ (gV O) O ?_);intro u m;simp only[zy,zx,over,zF,zG,aa] at m;refine aM ⟨m.sel [false,true,true],?_⟩;refine bW ?_;rw[jq,ae5] at m;apply aW 1 [] m;simp only[↓aD];exact aT O ⟨_,O,((m.b 0 O).full cI aQ)⟩ ⟨_,O,m.ext,O⟩
theorem Ev{n:Int}(h:sP n):dT prog 232 [.int .i64 n] (W n):=by
 intro w;refine⟨bK func232 (by kernel_rfl),?_⟩;have m:=Mem.refl w;have hna:=h.natAbs;obtain⟨N,hN⟩:∃N,N=n.natAbs:=⟨_,rfl⟩
 go_enter func232,ntmps232
 apply jP 6 [0] m;simp only[↓aD,nF];intro g1 u m;refine aB aO ?_;replace m:=m.nilO 3 1;apply aL 2 [] m;simp only[↓aD];rcases (show n<0∨0≤n by omega) with h0 | h0
 ·
  have hwn:true=fX n:=(decide_eq_true h0).symm;apply aW 2 [0] m;simp only[↓aD];refine aB (jA lH jE O (ae7 h h0)) ?_;apply aL 11 [1,0] m;simp only[↓aD];refine⟨by omega,?_⟩;refine aB (uK O (Wd hna (by omega))) ?_;apply aL 4 [0] m;simp only[↓aD];refine bX [3,4] [11,12,13,14,15,16,17,18,19,20] (fun n vs wl=>∃(z j:Nat) (os:List Nat) (A3:Option Addr) (cap3:Nat),vs=[.slice A3 j cap3,.int .u64 (z:Int)]∧Mem w wl [oI 3 1 A3 j cap3 (os.map sA),bI g1 [.bool false,.string ⟨#[]⟩] 95]∧(j=os.length)∧(val 65536 os+65536^os.length*z=N)∧(eM 65536 os)∧(z≤9223372036854775808)∧(z<2^(64-os.length))∧(os.length≤64)∧(n=z)) ?_ ?_
  ·
   exact⟨_,n.natAbs,0,[],none,0,O,m,O,by simp[val,hN],mZ _,hna,by simp;omega,by simp,rfl⟩
  ·
   intro n vs wr hI u K1 hK1;obtain⟨z,j,os,A3,cap3,rfl,m,hj,hv,hd,hm,hol2,hol3,hn⟩:=hI;simp only[zu,zF,zG];apply aJ 6 [0,0] m;simp only[↓aD];refine bG O ?_ ?_<;>intro hc2
   ·
    apply aJ 6 [0] m;simp only[↓aD];refine aB (cP O O (by omega) (pU (n:=65536))) (aB (jA jE lH O (bM (by omega) (by omega))) ?_);simp only[zz];refine gA dH (z:=.int .i64 0) (by kernel_rfl) O O O ?_;intro u g2 e_ h_ k_;replace m:=m.newB e_ h_ k_;simp only[zz];refine bL m 1 O O dH tA O (by decide) O O O (m.b 0 O).rowsO (gB O) (by omega) (by omega) ?_;intro A3 cap3 u m;simp only[zF,zG] at m;simp only[zA,zB,zC,zD,zE,mD] at m;apply aL 4 [0] m;simp only[↓aD];refine aB (jG O O (by omega) (ae2 (n:=65536) (by omega))) ?_;apply aL 3 [0] m;simp only[↓aD];have r:=Sb hv hd hol2 hol3 (show 0<z by omega);exact hK1 (z / 65536) _ _ (by omega) (by kernel_rfl) ⟨z / 65536,j+1,os++[z%65536],A3,cap3,O,(m.sel [false,true,true]),by simp;omega,r.1,r.2.1,by omega,r.2.2.1,r.2.2.2,rfl⟩
   ·
    apply aJ 2 [] m;simp only[↓aD];obtain rfl:z=0:=by omega
    rw[lj,Nat.add_zero] at hv;obtain⟨hD,_⟩:=To (m.o 0 rfl) hj hd (by omega);apply aW 4 [1,0] m;simp only[↓aD];refine⟨by omega,?_⟩;refine bJ O O (Ag _ hD (by omega)) ?_;rintro v u e_ rfl;replace m:=m.ext' e_;simp only[zz];rw[hv,hN,hwn,Hx];apply kD 3 [1] m;simp only[↓aD,fD,aa];intro u m;exact aT O ⟨_,O,((m.b 1 O).full cI aQ)⟩ ⟨_,O,m.ext,O⟩
 ·
  have hwn:false=fX n:=(decide_eq_false (by omega)).symm;apply aW 2 [0] m;simp only[↓aD];refine aB (jA lH jE O (aif h h0)) ?_;apply aL 12 [2,0] m;simp only[↓aD];refine⟨by omega,?_⟩;refine bX [3,4] [11,12,13,14,15,16,17,18,19,20] (fun n vs wl=>∃(z j:Nat) (os:List Nat) (A3:Option Addr) (cap3:Nat),vs=[.slice A3 j cap3,.int .u64 (z:Int)]∧Mem w wl [oI 3 1 A3 j cap3 (os.map sA),bI g1 [.bool false,.string ⟨#[]⟩] 95]∧(j=os.length)∧(val 65536 os+65536^os.length*z=N)∧(eM 65536 os)∧(z≤9223372036854775808)∧(z<2^(64-os.length))∧(os.length≤64)∧(n=z)) ?_ ?_
  ·
   exact⟨_,n.natAbs,0,[],none,0,O,m,O,by simp[val,hN],mZ _,hna,by simp;omega,by simp,rfl⟩
  ·
   intro n vs wr hI u K2 hK2;obtain⟨z,j,os,A3,cap3,rfl,m,hj,hv,hd,hm,hol2,hol3,hn⟩:=hI;simp only[zu,zF,zG];apply aJ 6 [0,0] m;simp only[↓aD];refine bG O ?_ ?_<;>intro hc2
   ·
    apply aJ 6 [0] m;simp only[↓aD];refine aB (cP O O (by omega) (pU (n:=65536))) (aB (jA jE lH O (bM (by omega) (by omega))) ?_);simp only[zz];refine gA dH (z:=.int .i64 0) (by kernel_rfl) O O O ?_;intro u g2 e_ h_ k_;replace m:=m.newB e_ h_ k_;simp only[zz];refine bL m 1 O O dH tA O (by decide) O O O (m.b 0 O).rowsO (gB O) (by omega) (by omega) ?_;intro A3 cap3 u m;simp only[zF,zG] at m;simp only[zA,zB,zC,zD,zE,mD] at m;apply aL 4 [0] m;simp only[↓aD];refine aB (jG O O (by omega) (ae2 (n:=65536) (by omega))) ?_;apply aL 3 [0] m;simp only[↓aD];have r:=Sb hv hd hol2 hol3 (show 0<z by omega);exact hK2 (z / 65536) _ _ (by omega) (by kernel_rfl) ⟨z / 65536,j+1,os++[z%65536],A3,cap3,O,(m.sel [false,true,true]),by simp;omega,r.1,r.2.1,by omega,r.2.2.1,r.2.2.2,rfl⟩
   ·
    apply aJ 2 [] m;simp only[↓aD];obtain rfl:z=0:=by omega
    rw[lj,Nat.add_zero] at hv;obtain⟨hD,_⟩:=To (m.o 0 rfl) hj hd (by omega);apply aW 4 [2,0] m;simp only[↓aD];refine⟨by omega,?_⟩;refine bJ O O (Ag _ hD (by omega)) ?_;rintro v u e_ rfl;replace m:=m.ext' e_;simp only[zz];rw[hv,hN,hwn,Hx];apply kD 3 [1] m;simp only[↓aD,fD,aa];intro u m;exact aT O ⟨_,O,((m.b 1 O).full cI aQ)⟩ ⟨_,O,m.ext,O⟩
end Go.Proofs.YtfekpcimgncioaaGreatDoor
namespace Go.Proofs.YtfekpcimgncioaaGreatDoor
open Go.Proofs.Tryz
open Go.RowKit Go.Lith
set_option maxRecDepth 100000
attribute [local irreducible] ar cw gG Code.wp
end Go.Proofs.YtfekpcimgncioaaGreatDoor
namespace Go.Proofs.YtfekpcimgncioaaGreatDoor
open Go.Proofs.Tryz
open Go.RowKit Go.Lith
set_option maxRecDepth 100000
attribute [local irreducible] ar cw gG bQ cO Code.wp
attribute [local congr] rC gX gY gZ iA iB lI iC iD iE iF iG iH iJ iK iL iM iN fJ fK iO iP iR iS iT lK dW dX cX dV iQ lJ fN fO fP iU iV lM
variable{A:Option Addr}{xs ys:List Nat}{na nb ca cb:Nat}
theorem Tq{l:List UInt8}(hl:l.length≤1000000000000000):dT prog 315 [.string (nT l),.int .u8 0] (.string (nT (jJ l))):=by
 intro w;refine⟨bK func315 (by kernel_rfl),?_⟩;have m:=Mem.refl w
 go_enter func315,ntmps315
 apply fF 6 [0] m;simp only[↓aD];refine bX [0] [5,6,7,8,9,10,11,12,13,14,15] (fun n vs wl=>∃(k:List UInt8),vs=[.string (nT k)]∧Mem w wl []∧(jJ k=jJ l)∧(k.length≤1000000000000000)∧(n=k.length)) ?_ ?_
 ·
  exact⟨_,l,O,m,O,hl,O⟩
 ·
  intro n vs wr hI u K1 hK1;obtain⟨k,rfl,m,hk,hl,hn⟩:=hI;have hsz:=Gi k;simp only[zu,zF,zG];apply aJ 2 [] m;simp only[↓aD];by_cases hk0:0<k.length
  ·
   obtain⟨b,hb⟩:∃b,k[0]? = some b:=⟨k[0],am hk0⟩
   apply aW 2 [0] m;simp only[↓aD];refine aB (uL O pI O) ?_;apply aL 3 [1,0] m;simp only[↓aD];refine⟨by omega,?_⟩;refine eE O (aB ((oQ pI O O (by omega) (by rw[agi];exact hb))) ?_);apply aL 4 [0,0] m;simp only[↓aD];refine bG O ?_ ?_<;>intro hc1
   ·
    apply aJ 4 [0] m;simp only[↓aD];refine aB (ah5 pI O O (by omega) (by omega)) ?_;apply aL 2 [] m;simp only[↓aD];rw[show (1:Int).toNat=1 from rfl,ac7];apply aW 1 [0] m;simp only[↓aD];exact hK1 ((k.drop 1).length) _ _ (by rw[fl];omega) (by kernel_rfl) ⟨k.drop 1,rfl,m,by rw[ac8 hb (by omega)];exact hk,by rw[fl];omega,rfl⟩
   ·
    apply aJ 7 [] m;simp only[↓aD];refine aT O O ?_;try simp only[zD,zE]
    exact⟨_,O,m.ext,by rw[←hk,ac9 hb (by omega)]⟩
  ·
   obtain rfl:k=[]:=et (by omega);apply aW 2 [0] m;simp only[↓aD];refine aB (uL O pI O) ?_;apply aL 16 [2] m;simp only[↓aD];refine⟨by omega,?_⟩;refine aT O O ?_;try simp only[zD,zE]
   exact⟨_,O,m.ext,by rw[←hk,agj]⟩
theorem aeu{l:List UInt8}(hl:l.length≤1000000000000000):dT prog 258 [.string (nT l),.string ⟨#[0]⟩] (.string (nT (jJ l))):=by
 intro w;refine⟨bK func258 (by kernel_rfl),?_⟩;have m:=Mem.refl w;have hsz:=Gi l
 go_enter func258,ntmps258
 apply fF 6 [] m;simp only[↓aD];by_cases hk0:l=[]
 ·
  subst hk0;apply aW 2 [0] m;simp only[↓aD];refine aB (apK (ac6 pI O O) (show _=bn true by simp[nT])) ?_;apply aL 12 [] m;simp only[↓aD];exact aT O O ⟨_,O,m.ext,O⟩
 ·
  apply aW 2 [0] m;simp only[↓aD];refine aB (apK (ac6 pI O O) (show _=bn false by simp only[abe,hk0,decide_false])) ?_;apply aL 2 [0] m;simp only[↓aD];refine eE O (aB (apK (ac6 pI O O) (show _=bn false by simp)) ?_);apply aL 8 [0] m;simp only[↓aD];refine aB (uL O pI O) (aB (yG O O O) ?_);apply aL 2 [0] m;simp only[↓aD];refine eE O (aB ((oQ (b:=0) pI O O (by omega) O)) (eE O (aB (qW O O (by decide)) ?_)));apply aL 7 [0] m;simp only[↓aD];refine aB ((oQ (b:=0) pI O O (by omega) O)) ?_;simp only[zz];refine nV m O O (Tq hl) 3 [] ?_;simp only[↓aD];intro u m;exact aT O O ⟨_,O,m.ext,O⟩
theorem Mr{cap:Nat}(w:aj)(hS:lG w A na cap xs):dQ prog 256 [.slice A na cap] w (fun v _=>v=.slice A (trim xs).length cap):=by
 refine⟨bK func256 (by kernel_rfl),?_⟩;have m:=Mem.refl w;obtain rfl:=hS.eq;have hl:=hS.len;have hle:=hS.le
 go_enter func256,ntmps256
 apply fF 6 [0] m;simp only[↓aD];refine bX [0] [3,4,5,6,7,8,9,10,11,12,13,14,15,16,17,18,19] (fun n vs wl=>∃(k:Nat),vs=[.slice A k cap]∧Mem w wl []∧(k≤xs.length)∧(trim (xs.take k)=trim xs)∧(n=k)) ?_ ?_
 ·
  exact⟨_,xs.length,O,m,aq _,by rw[fp],O⟩
 ·
  intro n vs wr hI u K1 hK1;obtain⟨k,rfl,m,hk,ht,hn⟩:=hI;simp only[zu,zF,zG];apply aJ 2 [] m;simp only[↓aD];by_cases hk0:0<k
  ·
   obtain⟨a,rfl,hcell,hlt⟩:=hS.get (show k-1<xs.length by omega);apply aW 9 [1,0] m;simp only[↓aD,kG];refine⟨by omega,?_⟩;refine eE O (aB (aF fE cB O O (by omega) (by omega) (jI (show _=k-1 by omega))) (eE O ?_));simp only[zz];refine aR O (lies1 (m.ext.cell hcell) lX) ?_;simp only[zz];apply aL 3 [0,0] m;simp only[↓aD];refine bG O ?_ ?_<;>intro hc1
   ·
    apply aJ 7 [0] m;simp only[↓aD,kG];refine⟨by omega,?_⟩;refine aB (mF fE cB O O (show _=k-1 by omega) (by omega) (by omega)) ?_;apply aL 3 [0] m;simp only[↓aD];exact hK1 (k-1) _ _ (by omega) (by kernel_rfl) ⟨k-1,O,m,by omega,Wa hk0 (by omega) hc1 ht,O⟩
   ·
    apply aJ 7 [] m;simp only[↓aD];refine aT O O ?_;try simp only[zD,zE]
    exact⟨_,O,m.ext,by rw[←aa5 hk0 (by omega) hc1 ht]⟩
  ·
   obtain rfl:k=0:=by omega
   apply aW 22 [2] m;simp only[↓aD,kG];refine⟨by omega,?_⟩;refine aT O O ?_;try simp only[zD,zE]
   exact⟨_,O,m.ext,by rw[←aa6 ht]⟩
theorem ati{B:Option Addr}(w:aj)(hS:lG w A na ca xs)(hR:lG w B nb cb ys)(tx:gQ xs)(ty:gQ ys):dQ prog 187 [.slice A na ca,.slice B nb cb] w (fun v _=>v=.int .i64 (ord (val 4294967296 xs) (val 4294967296 ys))):=by
 refine⟨bK func187 (by kernel_rfl),?_⟩;have m:=Mem.refl w;obtain rfl:=hS.eq;obtain rfl:=hR.eq;have hl:=hS.len;have hl2:=hR.len
 go_enter func187,ntmps187
 apply fF 15 [0,0] m;simp only[↓aD,kG];refine bG O ?_ ?_<;>intro hc1
 ·
  apply aJ 5 [] m;simp only[↓aD];refine aT O O ?_;try simp only[zD,zE]
  exact⟨_,O,m.ext,by rw[ord,if_pos (nM (by omega) hS.digs hR.digs ty (by omega))]⟩
 ·
  apply aJ 9 [0,0] m;simp only[↓aD,kG];refine bG O ?_ ?_<;>intro hc2
  ·
   apply aJ 5 [] m;simp only[↓aD];refine aT O O ?_;try simp only[zD,zE]
   exact⟨_,O,m.ext,by have:=nM (B:=4294967296) (by omega) hR.digs hS.digs tx (by omega);rw[ord,if_neg (by omega),if_pos this]⟩
  ·
   apply aJ 11 [0] m;simp only[↓aD,kG];refine⟨by omega,?_⟩;refine bX [5] [4,21,22,23,24,25,26,27,28,29,30,31,32,33,34,35,36,37,38,39,40,41,42,43,44] (fun n vs wl=>∃(k:Nat),vs=[.int .i64 ((k:Int)-1)]∧Mem w wl []∧(k≤xs.length)∧(xs.drop k=ys.drop k)∧(n=k)) ?_ ?_
   ·
    exact⟨_,xs.length,O,m,aq _,by rw[lv,show xs.length=ys.length by omega,lv],O⟩
   ·
    intro n vs wr hI u K1 hK1;obtain⟨k,rfl,m,hk,hd,hn⟩:=hI;simp only[zu,zF,zG];apply aJ 6 [0,0] m;simp only[↓aD];refine bG O ?_ ?_<;>intro hc3
    ·
     apply aJ 5 [] m;simp only[↓aD];obtain⟨a,rfl,hca,_⟩:=hS.get (show k-1<xs.length by omega);obtain⟨b,rfl,hcb,_⟩:=hR.get (show k-1<ys.length by omega);refine gc (mq m aC (by kernel_rfl) (aG aI (aG aI ?_)));simp only[zz];refine aG (aF fE cB O O (by omega) (by omega) (jI (show _=k-1 by omega))) ?_;simp only[zz];refine ql O (fun u m=>(lies1 (m.ext.cell hca) lX)) ?_;simp only[zz];refine aG aI (aG aI ?_);simp only[zz];refine aG (aF fE cB O O (by omega) (by omega) (jI (show _=k-1 by omega))) ?_;simp only[zz];refine ql O (fun u m=>(lies1 (m.ext.cell hcb) lX)) ?_;simp only[zz];refine aG (rR O O) (aG aO (bC ?_));intro u m;refine gc ?_;simp only[zz];refine bG O ?_ ?_<;>intro hc4
     ·
      apply aJ 5 [] m;simp only[↓aD];refine aT O O ?_;try simp only[zD,zE]
      exact⟨_,O,m.ext,by rw[ord,if_pos (ah7 hS.digs (by omega) (by omega) (by omega) hd hc4)]⟩
     ·
      apply aJ 1 [] m;simp only[↓aD];have hca:=hS.at (show k-1<xs.length by omega);have hcb:=hR.at (show k-1<ys.length by omega);refine gc (mq m aC (by kernel_rfl) (aG aI (aG aI ?_)));simp only[zz];refine aG (aF fE cB O O (by omega) (by omega) (jI (show _=k-1 by omega))) ?_;simp only[zz];refine ql O (fun u m=>(lies1 (m.ext.cell hca) lX)) ?_;simp only[zz];refine aG aI (aG aI ?_);simp only[zz];refine aG (aF fE cB O O (by omega) (by omega) (jI (show _=k-1 by omega))) ?_;simp only[zz];refine ql O (fun u m=>(lies1 (m.ext.cell hcb) lX)) ?_;simp only[zz];refine aG (aa1 O O) (aG aO (bC ?_));intro u m;refine gc ?_;simp only[zz];refine bG O ?_ ?_<;>intro hc5
      ·
       apply aJ 5 [] m;simp only[↓aD];refine aT O O ?_;try simp only[zD,zE]
       exact⟨_,O,m.ext,by have:=ah7 hR.digs (by omega) (by omega) (by omega) hd.symm hc5;rw[ord,if_neg (by omega),if_pos this]⟩
      ·
       apply aJ 8 [0] m;simp only[↓aD];refine⟨by omega,?_⟩;rw[show ((k:Int)-1-1)=((k-1:Nat):Int)-1 by omega];exact hK1 (k-1) _ _ (by omega) (by kernel_rfl) ⟨k-1,O,m,by omega,agd (by omega) (by omega) (by omega) hd hc4 hc5,O⟩
    ·
     apply aJ 6 [] m;simp only[↓aD];refine aT O O ?_;try simp only[zD,zE]
     exact⟨_,O,m.ext,by have h0:k=0:=(by omega);subst h0;simp only[m_] at hd;rw[hd,ord,if_neg (by omega),if_neg (by omega)]⟩
theorem atj{B:Option Addr}(w:aj)(hS:lG w A na ca xs)(hR:lG w B nb cb ys)(hlx:xs.length≤1099511627776)(hly:ys.length≤1099511627776):dQ prog 186 [.slice A na ca,.slice B nb cb] w (qX (val 4294967296 xs+val 4294967296 ys)):=by
 refine⟨bK func186 (by kernel_rfl),?_⟩;have m:=Mem.refl w;obtain rfl:=hS.eq;obtain rfl:=hR.eq
 go_enter func186,ntmps186
 apply fF 13 [0,0] m;simp only[↓aD,kG];refine bG O ?_ ?_<;>intro hc1
 ·
  obtain⟨qb,rfl⟩:∃q,q=xs:=⟨_,rfl⟩
  obtain⟨qa,rfl⟩:∃q,q=ys:=⟨_,rfl⟩
  obtain⟨Qb,rfl⟩:∃q,q=A:=⟨_,rfl⟩
  obtain⟨Qa,rfl⟩:∃q,q=B:=⟨_,rfl⟩
  have hSa:=hR;have hSb:=hS;apply aJ 11 [0] m;simp only[↓aD,kG];refine⟨by omega,?_⟩;refine tK fE Ii O O O (show _=qa.length+1 by omega) (show _=qa.length+1 by omega) (by omega) (by omega) (by omega) (by omega) ?_;intro u g1 e_ h_ k_;replace m:=m.newB e_ h_ k_;apply aL 2 [] m;simp only[↓aD];rw[oE] at m;apply aW 12 [0] m;simp only[↓aD,kG];refine bX [6,22] [7,8,23,24,25,26,27,28,29,30,31,32,33,34,35,36,37,38,39,40,41,42,43,44,45,46,47,48] (fun n vs wl=>∃(i c:Nat) (os:List Nat),vs=[.int .u64 (c:Int),.int .i64 (i:Int)]∧Mem w wl [bI g1 (os.map Kz) 231]∧(i≤qa.length)∧(os.length=qa.length+1)∧(val 4294967296 os+4294967296^i*c=val 4294967296 (qa.take i)+val 4294967296 (qb.take i))∧(os.drop i=cl (qa.length+1-i) 0)∧(eM 4294967296 os)∧(c≤1)∧(n=qa.length-i)) ?_ ?_
  ·
   exact⟨_,0,0,cl (qa.length+1) 0,O,m,by omega,by simp,by simp[mG,val],by simp,fun x hx=>by rw[iq hx];decide,by omega,rfl⟩
  ·
   intro n vs wr hI u K1 hK1;obtain⟨i,c,os,rfl,m,hi,hlo,hv,hz,hd,hc,hn⟩:=hI;simp only[zu,zF,zG];apply aJ 5 [0,0] m;simp only[↓aD];refine bG O ?_ ?_<;>intro hc2
   ·
    apply aJ 9 [] m;simp only[↓aD];obtain⟨a,rfl,hca,hla⟩:=hSa.get (show i<qa.length by omega);apply aW 3 [0] m;simp only[↓aD];refine aB (aF fE cB O O (by omega) (by omega) (jI (ah _))) ?_;simp only[zz];refine aR O (lies1 (m.ext.cell hca) lX) ?_;simp only[zz];apply aL 12 [0,0] m;simp only[↓aD,kG];refine⟨by omega,?_⟩;refine bG O ?_ ?_<;>intro hc3
    ·
     obtain⟨b,rfl,hcb,hlb⟩:=hSb.get (show i<qb.length by omega);apply aJ 4 [0] m;simp only[↓aD];refine aB (aF fE cB O O (by omega) (by omega) (jI (ah _))) ?_;simp only[zz];refine aR O (lies1 (m.ext.cell hcb) lX) ?_;simp only[zz];apply aL 3 [] m;simp only[↓aD];refine⟨by omega,?_⟩;obtain⟨s,hs⟩:∃s:Nat,(s:Int)=↑qa[i]+↑c+↑qb[i]:=⟨qa[i]+c+qb[i],by omega⟩
     rw[←hs];have hs2:s=qa[i]+c+qb[i]?.getD 0:=by rw[am (by omega)];simp;omega
     have hyb:qb[i]?.getD 0<4294967296:=by rw[am (by omega)];exact hlb
     apply aW 4 [0] m;simp only[↓aD];refine aB (lQ O O (rV (by omega) (by omega))) ?_;apply aL 1 [0] m;simp only[↓aD];refine aB (lD O O (by omega) (Wb (by omega))) ?_;simp only[zz];refine aB (aF fE cB O O (by omega) (by omega) (fC (ah _))) ?_;simp only[zz];refine cW m 0 O O O cB (by simp;omega) ⟨rfl,rfl⟩ ?_;intro u m;simp only[zz] at m ;rw[show ((s:Int)%4294967296)=((s%4294967296:Nat):Int) by omega,nA (by omega)] at m;apply aL 7 [0] m;simp only[↓aD];refine⟨by omega,?_⟩;obtain⟨r1,r2,r3,r4⟩:=Dy (by omega) hlo hv hz hd hc hs2 hla hyb;rw[show ((i:Int)+1)=((i+1:Nat):Int) by omega,show ((s:Int) / 4294967296)=((s / 4294967296:Nat):Int) by omega];exact hK1 (qa.length-(i+1)) _ _ (by omega) (by kernel_rfl) ⟨i+1,s / 4294967296,os.set i (s%4294967296),O,m,by omega,by simpa using hlo,r1,r2,r3,r4,O⟩
    ·
     obtain⟨s,hs⟩:∃s:Nat,(s:Int)=↑qa[i]+↑c:=⟨qa[i]+c,by omega⟩
     rw[←hs];have hs2:s=qa[i]+c+qb[i]?.getD 0:=by rw[bz (by omega)];simp;omega
     have hyb:qb[i]?.getD 0<4294967296:=by rw[bz (by omega)];decide
     apply aJ 5 [0] m;simp only[↓aD];refine aB (lQ O O (rV (by omega) (by omega))) ?_;apply aL 1 [0] m;simp only[↓aD];refine aB (lD O O (by omega) (Wb (by omega))) ?_;simp only[zz];refine aB (aF fE cB O O (by omega) (by omega) (fC (ah _))) ?_;simp only[zz];refine cW m 0 O O O cB (by simp;omega) ⟨rfl,rfl⟩ ?_;intro u m;simp only[zz] at m ;rw[show ((s:Int)%4294967296)=((s%4294967296:Nat):Int) by omega,nA (by omega)] at m;apply aL 7 [0] m;simp only[↓aD];refine⟨by omega,?_⟩;obtain⟨r1,r2,r3,r4⟩:=Dy (by omega) hlo hv hz hd hc hs2 hla hyb;rw[show ((i:Int)+1)=((i+1:Nat):Int) by omega,show ((s:Int) / 4294967296)=((s / 4294967296:Nat):Int) by omega];exact hK1 (qa.length-(i+1)) _ _ (by omega) (by kernel_rfl) ⟨i+1,s / 4294967296,os.set i (s%4294967296),O,m,by omega,by simpa using hlo,r1,r2,r3,r4,O⟩
   ·
    apply aJ 2 [] m;simp only[↓aD];obtain rfl:i=qa.length:=by omega
    apply aW 5 [0] m;simp only[↓aD,kG];refine aB (aF fE cB O O (by omega) (by omega) (fC (ah _))) ?_;simp only[zz];refine cW m 0 O O O cB (by simp;omega) ⟨rfl,rfl⟩ ?_;intro u m;simp only[zz] at m ;rw[nA (by omega)] at m;apply aL 4 [0] m;simp only[↓aD];refine dM m O O (Mr _ ((m.b 0 O).nat (hd.set (show c<4294967296 by omega)) (by simp;omega) (by omega))) ?_;rintro v u m rfl;apply aL 3 [] m;simp only[↓aD];refine aT O O ?_;try simp only[zD,zE]
    exact⟨_,O,m.ext,by first | exact qX.of_trim ((m.b 0 O).nat (hd.set (show c<4294967296 by omega)) (by simp;omega) (by omega)) (Pa (by omega) hlo hv hz) | (rw[Nat.add_comm];exact qX.of_trim ((m.b 0 O).nat (hd.set (show c<4294967296 by omega)) (by simp;omega) (by omega)) (Pa (by omega) hlo hv hz))⟩
 ·
  obtain⟨qa,rfl⟩:∃q,q=xs:=⟨_,rfl⟩
  obtain⟨qb,rfl⟩:∃q,q=ys:=⟨_,rfl⟩
  obtain⟨Qa,rfl⟩:∃q,q=A:=⟨_,rfl⟩
  obtain⟨Qb,rfl⟩:∃q,q=B:=⟨_,rfl⟩
  have hSa:=hS;have hSb:=hR;apply aJ 6 [0] m;simp only[↓aD,kG];refine⟨by omega,?_⟩;refine tK fE Ii O O O (show _=qa.length+1 by omega) (show _=qa.length+1 by omega) (by omega) (by omega) (by omega) (by omega) ?_;intro u g1 e_ h_ k_;replace m:=m.newB e_ h_ k_;apply aL 2 [] m;simp only[↓aD];rw[oE] at m;apply aW 12 [0] m;simp only[↓aD,kG];refine bX [6,22] [7,8,23,24,25,26,27,28,29,30,31,32,33,34,35,36,37,38,39,40,41,42,43,44,45,46,47,48] (fun n vs wl=>∃(i c:Nat) (os:List Nat),vs=[.int .u64 (c:Int),.int .i64 (i:Int)]∧Mem w wl [bI g1 (os.map Kz) 231]∧(i≤qa.length)∧(os.length=qa.length+1)∧(val 4294967296 os+4294967296^i*c=val 4294967296 (qa.take i)+val 4294967296 (qb.take i))∧(os.drop i=cl (qa.length+1-i) 0)∧(eM 4294967296 os)∧(c≤1)∧(n=qa.length-i)) ?_ ?_
  ·
   exact⟨_,0,0,cl (qa.length+1) 0,O,m,by omega,by simp,by simp[mG,val],by simp,fun x hx=>by rw[iq hx];decide,by omega,rfl⟩
  ·
   intro n vs wr hI u K2 hK2;obtain⟨i,c,os,rfl,m,hi,hlo,hv,hz,hd,hc,hn⟩:=hI;simp only[zu,zF,zG];apply aJ 5 [0,0] m;simp only[↓aD];refine bG O ?_ ?_<;>intro hc2
   ·
    apply aJ 9 [] m;simp only[↓aD];obtain⟨a,rfl,hca,hla⟩:=hSa.get (show i<qa.length by omega);apply aW 3 [0] m;simp only[↓aD];refine aB (aF fE cB O O (by omega) (by omega) (jI (ah _))) ?_;simp only[zz];refine aR O (lies1 (m.ext.cell hca) lX) ?_;simp only[zz];apply aL 12 [0,0] m;simp only[↓aD,kG];refine⟨by omega,?_⟩;refine bG O ?_ ?_<;>intro hc3
    ·
     obtain⟨b,rfl,hcb,hlb⟩:=hSb.get (show i<qb.length by omega);apply aJ 4 [0] m;simp only[↓aD];refine aB (aF fE cB O O (by omega) (by omega) (jI (ah _))) ?_;simp only[zz];refine aR O (lies1 (m.ext.cell hcb) lX) ?_;simp only[zz];apply aL 3 [] m;simp only[↓aD];refine⟨by omega,?_⟩;obtain⟨s,hs⟩:∃s:Nat,(s:Int)=↑qa[i]+↑c+↑qb[i]:=⟨qa[i]+c+qb[i],by omega⟩
     rw[←hs];have hs2:s=qa[i]+c+qb[i]?.getD 0:=by rw[am (by omega)];simp;omega
     have hyb:qb[i]?.getD 0<4294967296:=by rw[am (by omega)];exact hlb
     apply aW 4 [0] m;simp only[↓aD];refine aB (lQ O O (rV (by omega) (by omega))) ?_;apply aL 1 [0] m;simp only[↓aD];refine aB (lD O O (by omega) (Wb (by omega))) ?_;simp only[zz];refine aB (aF fE cB O O (by omega) (by omega) (fC (ah _))) ?_;simp only[zz];refine cW m 0 O O O cB (by simp;omega) ⟨rfl,rfl⟩ ?_;intro u m;simp only[zz] at m ;rw[show ((s:Int)%4294967296)=((s%4294967296:Nat):Int) by omega,nA (by omega)] at m;apply aL 7 [0] m;simp only[↓aD];refine⟨by omega,?_⟩;obtain⟨r1,r2,r3,r4⟩:=Dy (by omega) hlo hv hz hd hc hs2 hla hyb;rw[show ((i:Int)+1)=((i+1:Nat):Int) by omega,show ((s:Int) / 4294967296)=((s / 4294967296:Nat):Int) by omega];exact hK2 (qa.length-(i+1)) _ _ (by omega) (by kernel_rfl) ⟨i+1,s / 4294967296,os.set i (s%4294967296),O,m,by omega,by simpa using hlo,r1,r2,r3,r4,O⟩
    ·
     obtain⟨s,hs⟩:∃s:Nat,(s:Int)=↑qa[i]+↑c:=⟨qa[i]+c,by omega⟩
     rw[←hs];have hs2:s=qa[i]+c+qb[i]?.getD 0:=by rw[bz (by omega)];simp;omega
     have hyb:qb[i]?.getD 0<4294967296:=by rw[bz (by omega)];decide
     apply aJ 5 [0] m;simp only[↓aD];refine aB (lQ O O (rV (by omega) (by omega))) ?_;apply aL 1 [0] m;simp only[↓aD];refine aB (lD O O (by omega) (Wb (by omega))) ?_;simp only[zz];refine aB (aF fE cB O O (by omega) (by omega) (fC (ah _))) ?_;simp only[zz];refine cW m 0 O O O cB (by simp;omega) ⟨rfl,rfl⟩ ?_;intro u m;simp only[zz] at m ;rw[show ((s:Int)%4294967296)=((s%4294967296:Nat):Int) by omega,nA (by omega)] at m;apply aL 7 [0] m;simp only[↓aD];refine⟨by omega,?_⟩;obtain⟨r1,r2,r3,r4⟩:=Dy (by omega) hlo hv hz hd hc hs2 hla hyb;rw[show ((i:Int)+1)=((i+1:Nat):Int) by omega,show ((s:Int) / 4294967296)=((s / 4294967296:Nat):Int) by omega];exact hK2 (qa.length-(i+1)) _ _ (by omega) (by kernel_rfl) ⟨i+1,s / 4294967296,os.set i (s%4294967296),O,m,by omega,by simpa using hlo,r1,r2,r3,r4,O⟩
   ·
    apply aJ 2 [] m;simp only[↓aD];obtain rfl:i=qa.length:=by omega
    apply aW 5 [0] m;simp only[↓aD,kG];refine aB (aF fE cB O O (by omega) (by omega) (fC (ah _))) ?_;simp only[zz];refine cW m 0 O O O cB (by simp;omega) ⟨rfl,rfl⟩ ?_;intro u m;simp only[zz] at m ;rw[nA (by omega)] at m;apply aL 4 [0] m;simp only[↓aD];refine dM m O O (Mr _ ((m.b 0 O).nat (hd.set (show c<4294967296 by omega)) (by simp;omega) (by omega))) ?_;rintro v u m rfl;apply aL 3 [] m;simp only[↓aD];refine aT O O ?_;try simp only[zD,zE]
    exact⟨_,O,m.ext,by first | exact qX.of_trim ((m.b 0 O).nat (hd.set (show c<4294967296 by omega)) (by simp;omega) (by omega)) (Pa (by omega) hlo hv hz) | (rw[Nat.add_comm];exact qX.of_trim ((m.b 0 O).nat (hd.set (show c<4294967296 by omega)) (by simp;omega) (by omega)) (Pa (by omega) hlo hv hz))⟩
theorem apo{B:Option Addr}(w:aj)(hS:lG w A na ca xs)(hR:lG w B nb cb ys)(hle:ys.length≤xs.length)(hge:val 4294967296 ys≤val 4294967296 xs)(hlx:xs.length≤1099511627776):dQ prog 188 [.slice A na ca,.slice B nb cb] w (fun v w'=>qX (val 4294967296 xs-val 4294967296 ys) v w'∧wZ w v):=by
 refine⟨bK func188 (by kernel_rfl),?_⟩;have m:=Mem.refl w;obtain rfl:=hS.eq;obtain rfl:=hR.eq
 go_enter func188,ntmps188
 apply fF 8 [0] m;simp only[↓aD,kG];refine tK fE Ii O O O (ah _) (ah _) (by omega) (by omega) (by omega) (by omega) ?_;intro u g1 e_ h_ k_;replace m:=m.newB e_ h_ k_;apply aL 2 [] m;simp only[↓aD];rw[oE] at m;apply aW 12 [0] m;simp only[↓aD,kG];refine bX [6,14] [7,8,15,16,17,18,19,20,21,22,23,24,25,26,27,28,29,30,31,32,33,34,35,36,37,38,39,40] (fun n vs wl=>∃(i c:Nat) (os:List Nat),vs=[.int .u64 (c:Int),.int .i64 (i:Int)]∧Mem w wl [bI g1 (os.map Kz) 231]∧(i≤xs.length)∧(os.length=xs.length)∧(val 4294967296 os+val 4294967296 (ys.take i)=val 4294967296 (xs.take i)+4294967296^i*c)∧(os.drop i=cl (xs.length-i) 0)∧(eM 4294967296 os)∧(c≤1)∧(n=xs.length-i)) ?_ ?_
 ·
  exact⟨_,0,0,cl xs.length 0,O,m,by omega,by simp,by simp[mG,val],by simp,fun x hx=>by rw[iq hx];decide,by omega,rfl⟩
 ·
  intro n vs wr hI u K1 hK1;obtain⟨i,c,os,rfl,m,hi,hlo,hv,hz,hd,hc,hn⟩:=hI;simp only[zu,zF,zG];apply aJ 5 [0,0] m;simp only[↓aD];refine bG O ?_ ?_<;>intro hc1
  ·
   apply aJ 9 [] m;simp only[↓aD];obtain⟨a,rfl,hca,hla⟩:=hS.get (show i<xs.length by omega);apply aW 3 [0] m;simp only[↓aD];refine aB (aF fE cB O O (by omega) (by omega) (jI (ah _))) ?_;simp only[zz];refine aR O (lies1 (m.ext.cell hca) lX) ?_;simp only[zz];apply aL 1 [0] m;simp only[↓aD];refine aB (Aw O O (mH _)) ?_;apply aL 10 [0,0] m;simp only[↓aD,kG];refine bG O ?_ ?_<;>intro hc2
   ·
    obtain⟨b,rfl,hcb,hlb⟩:=hR.get (show i<ys.length by omega);apply aJ 4 [0] m;simp only[↓aD];refine aB (aF fE cB O O (by omega) (by omega) (jI (ah _))) ?_;simp only[zz];refine aR O (lies1 (m.ext.cell hcb) lX) ?_;simp only[zz];refine aB (Aw O O (mH _)) ?_;apply aL 2 [] m;simp only[↓aD];obtain⟨s,hs⟩:∃s:Nat,(s:Int)=((↑xs[i]-↑c)%18446744073709551616-↑ys[i])%18446744073709551616:=⟨(((↑xs[i]-↑c)%18446744073709551616-↑ys[i])%18446744073709551616:Int).toNat,by omega⟩
    rw[←hs];have hs2:(s:Int)=((xs[i]:Nat)-(c:Nat)-(ys[i]?.getD 0:Nat):Int)%18446744073709551616:=by rw[am (by omega)];simp only[dq];omega
    have hyb:ys[i]?.getD 0<4294967296:=by rw[am (by omega)];exact hlb
    have hs64:s<18446744073709551616:=by omega
    apply aW 4 [0] m;simp only[↓aD];refine aB (lQ O O (rV (by omega) (by omega))) ?_;apply aL 1 [0] m;simp only[↓aD];refine aB (lD O O (by omega) (aoP (by omega))) ?_;simp only[zz];refine aB (aF fE cB O O (by omega) (by omega) (fC (ah _))) ?_;simp only[zz];refine cW m 0 O O O cB (by simp;omega) ⟨rfl,rfl⟩ ?_;intro u m;simp only[zz] at m ;rw[show ((s:Int)%4294967296)=((s%4294967296:Nat):Int) by omega,nA (by omega)] at m;apply aL 7 [0] m;simp only[↓aD];refine⟨by omega,?_⟩;obtain⟨r1,r2,r3,r4⟩:=Wc (by omega) hlo hv hz hd hc hs2 hla hyb;rw[show ((i:Int)+1)=((i+1:Nat):Int) by omega,show ((s:Int) / 9223372036854775808)=((s / 9223372036854775808:Nat):Int) by omega];exact hK1 (xs.length-(i+1)) _ _ (by omega) (by kernel_rfl) ⟨i+1,s / 9223372036854775808,os.set i (s%4294967296),O,m,by omega,by simpa using hlo,r1,r2,r3,r4,O⟩
   ·
    obtain⟨s,hs⟩:∃s:Nat,(s:Int)=(↑xs[i]-↑c)%18446744073709551616:=⟨((↑xs[i]-↑c)%18446744073709551616:Int).toNat,by omega⟩
    rw[←hs];have hs2:(s:Int)=((xs[i]:Nat)-(c:Nat)-(ys[i]?.getD 0:Nat):Int)%18446744073709551616:=by rw[bz (by omega)];simp only[ly];omega
    have hyb:ys[i]?.getD 0<4294967296:=by rw[bz (by omega)];decide
    apply aJ 1 [] m;simp only[↓aD];have hs64:s<18446744073709551616:=by omega
    apply aW 4 [0] m;simp only[↓aD];refine aB (lQ O O (rV (by omega) (by omega))) ?_;apply aL 1 [0] m;simp only[↓aD];refine aB (lD O O (by omega) (aoP (by omega))) ?_;simp only[zz];refine aB (aF fE cB O O (by omega) (by omega) (fC (ah _))) ?_;simp only[zz];refine cW m 0 O O O cB (by simp;omega) ⟨rfl,rfl⟩ ?_;intro u m;simp only[zz] at m ;rw[show ((s:Int)%4294967296)=((s%4294967296:Nat):Int) by omega,nA (by omega)] at m;apply aL 7 [0] m;simp only[↓aD];refine⟨by omega,?_⟩;obtain⟨r1,r2,r3,r4⟩:=Wc (by omega) hlo hv hz hd hc hs2 hla hyb;rw[show ((i:Int)+1)=((i+1:Nat):Int) by omega,show ((s:Int) / 9223372036854775808)=((s / 9223372036854775808:Nat):Int) by omega];exact hK1 (xs.length-(i+1)) _ _ (by omega) (by kernel_rfl) ⟨i+1,s / 9223372036854775808,os.set i (s%4294967296),O,m,by omega,by simpa using hlo,r1,r2,r3,r4,O⟩
  ·
   apply aJ 2 [] m;simp only[↓aD];obtain rfl:i=xs.length:=by omega
   apply aW 2 [0] m;simp only[↓aD];refine dM m O O (Mr _ ((m.b 0 O).nat hd (by omega) (by omega))) ?_;rintro v u m rfl;apply aL 3 [] m;simp only[↓aD];exact aT O O ⟨_,O,m.ext,qX.of_trim ((m.b 0 O).nat hd (n:=xs.length) (by omega) (by omega)) (aml hle hlo hd hv hge),wZ.of_blk (m.gb 0 O)⟩
theorem atk{B:Option Addr}(w:aj)(hS:lG w A na ca xs)(hR:lG w B nb cb ys)(hlx:xs.length≤1099511627776)(hly:ys.length≤1099511627776):dQ prog 189 [.slice A na ca,.slice B nb cb] w (qX (val 4294967296 xs*val 4294967296 ys)):=by
 refine⟨bK func189 (by kernel_rfl),?_⟩;have m:=Mem.refl w;obtain rfl:=hS.eq;obtain rfl:=hR.eq
 go_enter func189,ntmps189
 apply fF 11 [0] m;simp only[↓aD,kG];refine⟨by omega,?_⟩;refine tK fE Ii O O O (show _=xs.length+ys.length by omega) (show _=xs.length+ys.length by omega) (by omega) (by omega) (by omega) (by omega) ?_;intro u g1 e_ h_ k_;replace m:=m.newB e_ h_ k_;apply aL 2 [] m;simp only[↓aD];rw[oE] at m;apply aW 8 [0] m;simp only[↓aD,kG];refine bX [20] [6,7,8,9,10,11,21,22,23,24,25,26,27,28,29,30,31,32,33,34,35,36,37,38,39,40,41,42,43,44,45,46,47,48,49,50,51,52,53,54,55,56,57,58,59,60,61] (fun n vs wl=>∃(i:Nat) (os:List Nat),vs=[.int .i64 (i:Int)]∧Mem w wl [bI g1 (os.map Kz) 231]∧(i≤xs.length)∧(os.length=xs.length+ys.length)∧(val 4294967296 os=val 4294967296 (xs.take i)*val 4294967296 ys)∧(os.drop (i+ys.length)=cl (xs.length-i) 0)∧(eM 4294967296 os)∧(n=xs.length-i)) ?_ ?_
 ·
  exact⟨_,0,cl (xs.length+ys.length) 0,O,m,by omega,by simp,by rw[mG,kf];simp only[val,Nat.zero_mul],by rw[List.drop_replicate];congr 1;omega,fun x hx=>by rw[iq hx];decide,rfl⟩
 ·
  intro n vs wr hI u K1 hK1;obtain⟨i,os,rfl,m,hi,hlo,hv,hz,hd,hn⟩:=hI;simp only[zu,zF,zG];apply aJ 5 [0,0] m;simp only[↓aD];refine bG O ?_ ?_<;>intro hc1
  ·
   apply aJ 4 [] m;simp only[↓aD];obtain⟨a,rfl,hca,hla⟩:=hS.get (show i<xs.length by omega);apply aW 2 [0] m;simp only[↓aD];refine aB (aF fE cB O O (by omega) (by omega) (jI (ah _))) ?_;simp only[zz];refine aR O (lies1 (m.ext.cell hca) lX) ?_;simp only[zz];apply aL 15 [0] m;simp only[↓aD,kG];refine bX [8,27] [9,10,11,28,29,30,31,32,33,34,35,36,37,38,39,40,41,42,43,44,45,46,47,48,49,50,51,52,53] (fun n vs wl=>∃(k c:Nat) (os:List Nat),vs=[.int .u64 (c:Int),.int .i64 (k:Int)]∧Mem w wl [bI g1 (os.map Kz) 231]∧(k≤ys.length)∧(os.length=xs.length+ys.length)∧(val 4294967296 os+4294967296^(i+k)*c=val 4294967296 (xs.take i)*val 4294967296 ys+4294967296^i*(xs[i]*val 4294967296 (ys.take k)))∧(os.drop (i+ys.length)=cl (xs.length-i) 0)∧(eM 4294967296 os)∧(c<4294967296)∧(n=ys.length-k)) ?_ ?_
   ·
    exact⟨_,0,0,os,O,m,by omega,hlo,by rw[kf,hv];simp only[val,lj],hz,hd,by omega,rfl⟩
   ·
    intro n vs wr hI u K2 hK2;obtain⟨k,c,os,rfl,m,hk,hlo,hv2,hz,hd,hc,hn2⟩:=hI;simp only[zu,zF,zG];apply aJ 5 [0,0] m;simp only[↓aD];refine bG O ?_ ?_<;>intro hc2
    ·
     apply aJ 4 [] m;simp only[↓aD];obtain⟨b,rfl,hcb,hlb⟩:=hR.get (show k<ys.length by omega);apply aW 2 [0] m;simp only[↓aD];refine aB (aF fE cB O O (by omega) (by omega) (jI (ah _))) ?_;simp only[zz];refine aR O (lies1 (m.ext.cell hcb) lX) ?_;simp only[zz];apply aL 4 [] m;simp only[↓aD];have hco:=(m.b 0 rfl).word (show i+k<os.length by omega);have hlo2:=hd.get (am (show i+k<os.length by omega));obtain⟨hm0,hm1⟩:=amn hla hlb;apply aW 5 [0] m;simp only[↓aD];refine⟨by omega,?_⟩;refine aB (aF fE cB O O (by omega) (by omega) (fC (show _=i+k by omega))) ?_;simp only[zz];refine aR O (lies1 ((m.b 0 O).word (show i+k<os.length by omega)) lX) ?_;simp only[zz];apply aL 8 [] m;simp only[↓aD];refine⟨by omega,?_⟩;obtain⟨s,hs⟩:∃s:Nat,s=os[i+k]+xs[i]*ys[k]+c:=⟨_,rfl⟩
     have hsI:(↑os[i+k]+↑xs[i]*↑ys[k]+↑c:Int)=(s:Int):=by rw[hs];simp
     rw[hsI];have hs64:s<18446744073709551616:=by omega
     apply aW 6 [0] m;simp only[↓aD];refine⟨by omega,?_⟩;refine aB (lQ O O (rV (by omega) (by omega))) ?_;apply aL 1 [0] m;simp only[↓aD];refine aB (lD O O (by omega) (Wb (by omega))) ?_;simp only[zz];refine aB (aF fE cB O O (by omega) (by omega) (fC (show _=i+k by omega))) ?_;simp only[zz];refine cW m 0 O O O cB (by simp;omega) ⟨rfl,rfl⟩ ?_;intro u m;simp only[zz] at m ;rw[show ((s:Int)%4294967296)=((s%4294967296:Nat):Int) by omega,nA (by omega)] at m;apply aL 7 [0] m;simp only[↓aD];refine⟨by omega,?_⟩;have r1:=age (by omega) (by omega) hlo hv2 hs;rw[show ((k:Int)+1)=((k+1:Nat):Int) by omega,show ((s:Int) / 4294967296)=((s / 4294967296:Nat):Int) by omega];exact hK2 (ys.length-(k+1)) _ _ (by omega) (by kernel_rfl) ⟨k+1,s / 4294967296,os.set (i+k) (s%4294967296),O,m,by omega,by simpa using hlo,r1,by rw[Nf (by omega)];exact hz,hd.set (by omega),by omega,O⟩
    ·
     apply aJ 1 [] m;simp only[↓aD];obtain rfl:k=ys.length:=by omega
     apply aW 7 [0] m;simp only[↓aD,kG];refine⟨by omega,?_⟩;refine aB (aF fE cB O O (by omega) (by omega) (fC (show _=i+ys.length by omega))) ?_;simp only[zz];refine cW m 0 O O O cB (by simp;omega) ⟨rfl,rfl⟩ ?_;intro u m;simp only[zz] at m ;rw[nA (by omega)] at m;apply aL 6 [0] m;simp only[↓aD];refine⟨by omega,?_⟩;obtain⟨r1,r2⟩:=amm (by omega) hlo hv2 hz;rw[show ((i:Int)+1)=((i+1:Nat):Int) by omega];exact hK1 (xs.length-(i+1)) _ _ (by omega) (by kernel_rfl) ⟨i+1,os.set (i+ys.length) c,O,m,by omega,by simpa using hlo,r1,r2,hd.set (by omega),O⟩
  ·
   apply aJ 2 [] m;simp only[↓aD];obtain rfl:i=xs.length:=by omega
   apply aW 2 [0] m;simp only[↓aD];refine dM m O O (Mr _ ((m.b 0 O).nat hd (by omega) (by omega))) ?_;rintro v u m rfl;apply aL 3 [] m;simp only[↓aD];exact aT O O ⟨_,O,m.ext,qX.of_trim ((m.b 0 O).nat hd (n:=xs.length+ys.length) (by omega) (by omega)) (by rw[hv,fp])⟩
end Go.Proofs.YtfekpcimgncioaaGreatDoor
namespace Go.Proofs.YtfekpcimgncioaaGreatDoor
open Go.Proofs.Tryz
open Go.RowKit Go.Lith
set_option maxRecDepth 100000
attribute [local irreducible] ar cw gG Code.wp
end Go.Proofs.YtfekpcimgncioaaGreatDoor
namespace Go.Proofs.YtfekpcimgncioaaGreatDoor
open Go.Proofs.Tryz
open Go.RowKit Go.Lith
set_option maxRecDepth 100000
attribute [local irreducible] ar cw gG bQ cO Code.wp
attribute [local congr] rC gX gY gZ iA iB lI iC iD iE iF iG iH iJ iK iL iM iN fJ fK iO iP iR iS iT lK dW dX cX dV iQ lJ fN fO fP iU iV lM
theorem Yh{neg:Bool}{s:ByteArray}(w:aj)(hs:s.size≤1000000000000):dQ prog 185 [.agg #[.bool neg,.string s]] w (qX (amq s)):=by
 refine⟨bK func185 (by kernel_rfl),?_⟩;have m:=Mem.refl w
 go_enter func185,ntmps185
 apply jP 9 [0,0] m;simp only[↓aD,zX,ad4,aa];intro g1 u m;refine aB (uL O pI O) ?_;apply aL 2 [0] m;simp only[↓aD];refine⟨by omega,?_⟩;rw[show ((s.size:Int)+4-1)=((s.size+3:Nat):Int) by omega];refine aB (jG O O (by omega) (tO (n:=4) (by omega))) ?_;simp only[zz];obtain⟨K,hK⟩:∃K,K=(s.size+3) / 4:=⟨_,rfl⟩
 rw[←hK];refine tK fE Ii O O O (show _=K by omega) (show _=K by omega) (by omega) (by omega) (by omega) (by omega) ?_;intro u g2 e_ h_ k_;replace m:=m.newB e_ h_ k_;apply aL 2 [] m;simp only[↓aD];rw[oE] at m;apply aW 5 [1,0] m;simp only[↓aD,zX,ad4,aa];refine aB (uL O pI O) ?_;apply aL 3 [0] m;simp only[↓aD];refine bX [16] [4,5,17,18,19,20,21,22,23,24,25,26,27,28,29,30,31,32,33,34,35,36,37,38,39,40,41] (fun n vs wl=>∃(i:Nat) (os:List Nat),vs=[.int .i64 (i:Int)]∧Mem w wl [bI g2 (os.map Kz) 231,bI g1 [.bool neg,.string s] 95]∧(i≤s.size)∧(os.length=K)∧(eM 4294967296 os)∧(∀(j:Nat) (h:j<os.length),256^(s.size-i-4*j)∣os[j])∧(val 4294967296 os=256^(s.size-i)*val 256 ((oR s).drop (s.size-i)))∧(n=s.size-i)) ?_ ?_
 ·
  exact⟨_,0,cl K 0,O,m,by omega,by simp,fun x hx=>by rw[iq hx];decide,fun j h=>by rw[List.getElem_replicate];exact Nat.dvd_zero _,by rw[mG,aib (by rw[wK];omega),lj],rfl⟩
 ·
  intro n vs wr hI u K1 hK1;obtain⟨i,os,rfl,m,hi,hlo,hd,hdv,hv,hn⟩:=hI;simp only[zu,zF,zG];apply aJ 5 [0,0] m;simp only[↓aD];refine bG O ?_ ?_<;>intro hc1
  ·
   apply aJ 12 [1,0] m;simp only[↓aD,zX,ad4,aa];refine aB (uL O pI O) ?_;apply aL 5 [] m;simp only[↓aD];refine⟨by omega,?_⟩;obtain⟨p,hp⟩:∃p,p+1+i=s.size:=⟨s.size-1-i,by omega⟩
   rw[show ((s.size:Int)-1-(i:Int))=(p:Int) by omega];obtain⟨b,hb,hpl,hbp⟩:=Gh hp;obtain⟨f1,f2,f3,f4⟩:=agf (r:=p%4) (j:=p / 4) hpl (by omega) (by omega) (by omega) hd (Ng s) (by rw[show p+1=s.size-i by omega];exact hdv) (by rw[show p+1=s.size-i by omega];exact hv);rw[hbp,Qj] at f1 f3 f4;have hb256:b.toNat<256:=b.toNat_lt;have f5:b.toNat*2^(8*(p%4))<2^(8*(p%4+1)):=by
    rw[show 8*(p%4+1)=8+8*(p%4) by omega,Nat.pow_add];exact Nat.mul_lt_mul_of_pos_right hb256 (Nat.pow_pos (by omega))
   obtain⟨c,f6⟩:∃c,os[p / 4]=2^(8*(p%4+1))*c:=by
    obtain⟨c,hc⟩:=f2;exact⟨c,by rw[hc,Qj]⟩
   refine gc ?_;refine cL m 16 aC (by kernel_rfl) ?_;simp only[zy];refine aG aI (aG aI ?_);simp only[zz];refine aG (jG O O (by omega) (tO (n:=4) (by omega))) ?_;simp only[zz];refine aG (aF fE cB O O (by omega) (by omega) (fC (show _=p / 4 by omega))) ?_;simp only[zz];refine ql O (fun u m=>(lies1 ((m.b 0 O).word (show p / 4<os.length by omega)) lX)) ?_;simp only[zz];refine eC 3 [1] ?_;simp only[↓aD,zX,ad4,aa];refine aG ((oQ pI O O (by omega) (by rw[ah];exact hb))) (aG (jA lH Vt O (wX (by omega) (by omega))) (aG aI ?_));simp only[zz];refine aG (cP O O (by omega) (pU (n:=4))) (aG (lC O O ((bM (by omega) (by omega)).trans (show (8:Int)*((p%4:Nat):Int)=((8*(p%4):Nat):Int) by omega))) ?_);simp only[zz];refine aG (qQ O O (by omega) (amo (n:=8*(p%4)) (by omega) (by omega))) (aG (auc O O ((amp (s:=8*(p%4+1)) (a:=b.toNat*2^(8*(p%4))) (b:=os[p / 4]) f5 f6 (by omega)).trans (show (((b.toNat*2^(8*(p%4)))+os[p / 4]:Nat):Int)=((os[p / 4]+b.toNat*2^(8*(p%4)):Nat):Int) by omega))) ?_);simp only[zz];refine aG (aF fE cB O O (by omega) (by omega) (fC (show _=p / 4 by omega))) (bC ?_);intro u m;simp only[zz];refine cW m 0 O O O cB (by simp;omega) ⟨rfl,rfl⟩ ?_;intro u m;simp only[zz] at m ;rw[nA (by omega)] at m;refine aM ?_;apply aW 5 [0] m;simp only[↓aD];refine⟨by omega,?_⟩;rw[show ((i:Int)+1)=((i+1:Nat):Int) by omega];exact hK1 (s.size-(i+1)) _ _ (by omega) (by kernel_rfl) ⟨i+1,os.set (p / 4) (os[p / 4]+b.toNat*2^(8*(p%4))),O,m,by omega,by simpa using hlo,hd.set f1,by rw[show s.size-(i+1)=p by omega];exact f3,by rw[show s.size-(i+1)=p by omega];exact f4,O⟩
  ·
   apply aJ 2 [] m;simp only[↓aD];obtain rfl:i=s.size:=by omega
   apply aW 2 [0] m;simp only[↓aD];refine dM m O O (Mr _ ((m.b 0 O).nat hd (by omega) (by omega))) ?_;rintro v u m rfl;apply aL 3 [] m;simp only[↓aD];exact aT O O ⟨_,O,m.ext,qX.of_trim ((m.b 0 O).nat hd (n:=K) (by omega) (by omega)) (by rw[hv,Nat.sub_self,Nat.pow_zero,Nat.one_mul,m_];rfl)⟩
end Go.Proofs.YtfekpcimgncioaaGreatDoor
namespace Go.Proofs.YtfekpcimgncioaaGreatDoor
open Go.Proofs.Tryz
open Go.RowKit Go.Lith
attribute [local go_sem] qh
variable{n₀ Bs:Nat}
def nI(n₀ Bs:Nat)(W W':aj):Prop:=Below n₀ W W'∧W'.heap[Bs]? = W.heap[Bs]?
theorem nI.refl(n₀ Bs:Nat)(W:aj):nI n₀ Bs W W:=⟨Below.refl _ _,rfl⟩
theorem nI.trans{A B C:aj}(h:nI n₀ Bs A B)(k:nI n₀ Bs B C):nI n₀ Bs A C:=⟨h.1.trans k.1,k.2.trans h.2⟩
theorem nI.box{A B:aj}(h:nI n₀ Bs A B){v:ai}(hc:A.cell? ⟨Bs,0,none⟩=some v):B.cell? ⟨Bs,0,none⟩=some v:=(World.cell?_of_block h.2).trans hc
set_option maxRecDepth 100000 in
theorem akN(F:Fence)(n:Nat)(h7:F.fn 314)(hro:F.round=none)(hn:1≤n)(l Bs n₀ cap:Nat)(a:Addr)(xs:List Nat)(hreach:xs.length*8≤140737488351232)(hb:a.block<n₀)(J Jx:List (Nat × Nat)→aj→Prop)
 (hY:∀pre x W,J pre W→pre.length<xs.length→YieldAt F (n-1) prog l #[.int .i64 (x.1:Int),.int .u64 (x.2:Int)] W fun e W' =>
  (e=.returned (.bool true)∧J (pre++[x]) W'∧nI n₀ Bs W W')∨(e=.returned (.bool false)∧Jx (pre++[x]) W'))
 (W:aj) (hBs:W.cell? ⟨Bs,0,none⟩=some (.slice (some a) xs.length cap)) (hc:∀j (h:j<xs.length),W.cell? (a.add j)=some (.int .u64 (xs[j]:Nat))) (h0:J [] W) :
 CallsIn F n prog 314 #[.func (.yield l) #[] #[],.pointer (some ⟨Bs,0,none⟩)] W fun e W'=>(∃v,e=.returned v) ∧
  ((∃ys:List (Nat × Nat),ys.map pv=xs.reverse∧J ys W')∨(∃pre,True∧Jx pre W')):=by
 refine callsIn_of_wp func314 O h7 ?_ hro;simp only[ntmps314,gm,av,bv,aa,km,ii,ij,jd,iw,b_,cn]
 gi_wp2
 gi_loopw [3] (fun i wr=>∃(k:Nat) (pre:List (Nat × Nat)),k≤xs.length∧i=.int .i64 ((k:Int)-1)∧pre.length=xs.length-k∧pre.map pv=(xs.drop k).reverse∧J pre wr∧nI n₀ Bs W wr)
  (fun i _=>(intOf i+1).toNat)
 case atStart=>exact⟨xs.length,[],aq _,rfl,by simp,by simp,h0,nI.refl _ _ _⟩
 case round =>
  obtain⟨k,pre,hk,rfl,hpl,hpre,hJs,hnx⟩:=hrel;have hBw:wr.cell? ⟨Bs,0,none⟩=some (.slice (some a) xs.length cap):=hnx.box hBs;by_cases hk0:0<k
  · have hlt:k-1<xs.length:=by omega
    have hcx:wr.cell? (a.add (k-1))=some (.int .u64 ((xs[k-1]:Nat):Int)):=(hnx.1.cell (by rw[Dx];exact hb)).trans (hc _ hlt);obtain⟨fn,tmps,assign,body,hy,hR⟩:=hY pre (k-1,xs[k-1]) wr hJs (by omega);dsimp only at hy;obtain⟨j,rfl⟩:∃j,k=j+1:=⟨k-1,by omega⟩
    rw[show (((j+1:Nat):Int)-1)=(j:Int) by omega];simp only[Nat.add_sub_cancel] at hy hR hcx hlt
    gi_wp2
    refine hR.mono ?_;rintro e W3 (⟨rfl,hJ3,hk3⟩ | ⟨rfl,hJx3⟩)
    · gi_wp2
      go_roundw
      case rel=>exact⟨j,pre++[(j,xs[j])],by omega,by simp,by simp;omega,by rw[List.drop_eq_getElem_cons hlt,List.reverse_cons,ct,hpre];rfl,hJ3,hnx.trans hk3⟩
      case measure=>simp[intOf]
    · gi_wp2
      refine bodyPost_ret (results_none O _ _ _) O ?_;exact⟨⟨_,O⟩,.inr ⟨_,trivial,hJx3⟩⟩
  · obtain rfl:k=0:=by omega
    gi_wp2
    go_end0
    exact⟨⟨_,O⟩,.inl ⟨pre,by rw[hpre];rfl,hJs⟩⟩
set_option maxRecDepth 100000 in
theorem aaH(F:Fence)(n:Nat)(h7:F.fn 314)(hro:F.round=none)(l Bs cap:Nat)(A:Option Addr)(J:List (Nat × Nat)→aj→Prop)(W:aj)(hBs:W.cell? ⟨Bs,0,none⟩=some (.slice A 0 cap))(h0:J [] W) :
 CallsIn F n prog 314 #[.func (.yield l) #[] #[],.pointer (some ⟨Bs,0,none⟩)] W fun e W'=>(∃v,e=.returned v)∧J [] W':=by
 refine callsIn_of_wp func314 O h7 ?_ hro;simp only[ntmps314,gm,av,bv,aa,km,ii,ij,jd,iw,b_,cn]
 gi_wp2
 gi_loopw [3] (fun i wr=>i=.int .i64 (-1)∧J [] wr) (fun _ _=>0)
 case atStart=>exact⟨rfl,h0⟩
 case round =>
  obtain⟨rfl,hJs⟩:=hrel
  gi_wp2
  go_end0
  exact⟨⟨_,O⟩,hJs⟩
theorem aoc(F:Fence)(n:Nat)(h5:F.fn 257)(hro:F.round=none)(a:Option Addr)(len cap:Nat)(w:aj) :
 CallsIn F n prog 257 #[.slice a len cap] w fun e w'=>e=.returned (.func (.func 314) #[] #[.pointer (some ⟨w.heap.size,0,none⟩)])∧w'=w.alloc (.cells #[.slice a len cap] 233):=by
 refine callsIn_of_wp func257 O h5 ?_ hro;simp only[ntmps257,gm,av,bv,aa,km,ii,ij,jd,iw,b_,cn]
 gi_wp2
 go_ret
 exact⟨O,O⟩
theorem aev(F:Fence)(n:Nat)(h7:F.fn 314)(hro:F.round=none)(hn:1≤n)(Bs n₀ cap:Nat)(A:Option Addr)(xs:List Nat)(hreach:xs.length*8≤140737488351232)(w:aj)(hBs:Bs<w.heap.size)(hn₀:n₀≤w.heap.size)
 (hc:w.cell? ⟨Bs,0,none⟩=some (.slice A xs.length cap)) (hI:∀(i x:Nat),xs[i]? = some x→∃a,A=some a∧w.cell? (a.add i)=some (.int .u64 (x:Int))) (hA:∀a,0<xs.length→A=some a→a.block<n₀) :
 SeqStopsK F n prog 314 #[.pointer (some ⟨Bs,0,none⟩)] (fun x:Nat × Nat=>#[Value.int .i64 (x.1:Int),Value.int .u64 (x.2:Int)]) (nI n₀ Bs) (fun ys=>ys.map pv=xs.reverse) (fun _=>True) xs.length w:=fun l J Jx W hW _ _ hY h0=>by
 have hc':=(hW.cell (p:=⟨Bs,0,none⟩) hBs).trans hc;rcases Nat.eq_zero_or_pos xs.length with h | h
 · obtain rfl:xs=[]:=et h
   exact (aaH F n h7 hro l Bs cap A J W hc' h0).mono fun e W' ⟨he,hj⟩=>⟨he,.inl ⟨[],O,hj⟩⟩
 · obtain⟨a,rfl,_⟩:=hI 0 xs[0] (am h)
   refine akN F n h7 hro hn l Bs n₀ cap a xs hreach (hA a h O) J Jx hY W hc' (fun j hj=>?_) h0;obtain⟨a',e,hcl⟩:=hI j xs[j] (am hj);cases e;exact (hW.cell (by rw[Dx];exact gg (hA a h O) hn₀)).trans hcl
theorem arv{A:Option Addr}{n cap:Nat}(w:aj):dQ prog 257 [.slice A n cap] w (fun v w'=>∃g,v=.func (.func 314) #[] #[.pointer (some ⟨g,0,none⟩)]∧w.heap.size≤g∧fR w' g [.slice A n cap] 233):=by
 refine⟨bK func257 (by kernel_rfl),(callsIn_wide (n:=2)).1 ((aoc Fence.wide 2 trivial O A n cap w).mono ?_)⟩;rintro e w' ⟨rfl,rfl⟩;exact⟨_,O,(fQ.refl w).alloc _,_,O,aq _,jH w _ _⟩
end Go.Proofs.YtfekpcimgncioaaGreatDoor
namespace Go.Proofs.YtfekpcimgncioaaGreatDoor
open Go.Proofs.Tryz
open Go.RowKit Go.Lith
set_option maxRecDepth 100000
attribute [local irreducible] ar cw gG Code.wp
attribute [local go_sem] qh
theorem aod:(prog.info? 5).map (fun i=>(i.zero,i.size,i.bytes))=some (some (.int .u8 0),1,1):=by kernel_rfl
theorem Tr{W w1:aj}{tmp:Obj}{v v':ai}{base size k g g3:Nat}{e t:az}{xs cs:List ai}(hB:fR W g cs t)(hte:t≠e)(hr:W.ownsRow base e size v k xs)(hg:(W.alloc tmp).grownBy w1 v.ownBlock)(hne:g≠g3):(w1.setCell ⟨g3,0,none⟩ v').heap[g]? = W.heap[g]?:=by
 have h1:some g≠v.ownBlock:=by
  rcases hr.2 with ⟨rfl,_⟩ | ⟨g',cap,cur,rfl,_,hgb,_⟩
  · simp[Value.ownBlock]
  ·
   intro h;obtain rfl:g=g':=by simpa[Value.ownBlock] using h
   rw[hB] at hgb;cases hgb;exact hte O
 exact ((Below.heap_setCell w1 ⟨g3,0,none⟩ v' g hne).trans (hg.block g (by simp;have:=hB.lt;omega) h1)).trans (Below.heap_alloc W tmp g hB.lt)
theorem Hb{A:Option Addr}{xs:List Nat}{na cap:Nat}{neg:Bool}(w:aj)(hS:lG w A na cap xs)(hl:xs.length≤100000000000):dQ prog 184 [.slice A na cap,.bool neg] w (fun v _=>v=W (Uw neg (val 4294967296 xs))):=by
 skip
 refine⟨bK func184 (by kernel_rfl),?_⟩;have hX:=fQ.refl w;obtain rfl:=hS.eq;have hlt:=uM xs;have hle:=hS.le;refine (callsIn_wide (n:=4)).1 (callsIn_of_wp_marks func184 O trivial ?_ O);simp only[ntmps184,gm,av,bv,aa,km,ii,ij,jd,iw,b_,cn];refine wpIn_wide.2 (bE (fun K1 hK1=>ao ?_));refine Dw yR O ?_;intro w1 g1 hE hg1 hB1;have hG1:=ba hX.size hg1;replace hX:=hX.trans hE;clear hE hg1;simp only[zz];refine aM (hK1 _ _ ?_);refine bE (fun K2 hK2=>ao (aB aI ?_));simp only[zz];refine bJ O O (Mr _ (hS.ext hX)) ?_;rintro v w2 hE rfl;replace hB1:=hB1.ext hE;replace hX:=hX.trans hE;clear hE;simp only[zz];refine aB aO ?_;simp only[zz];refine aM ?_;obtain⟨ys,hys⟩:∃ys,ys=trim xs:=⟨_,rfl⟩
 rw[←hys] at hlt ⊢;refine hK2 _ _ (bE (fun K3 hK3=>ao (aB aI (aB (Kv O fE O) (aB (lC O O (bM (by omega) (by omega))) ?_)))));simp only[zz];refine tK oT Wm O O O (show _=0 by omega) (show _=4*ys.length by omega) (by omega) (by omega) (by omega) (by omega) ?_;intro w3 g2 hE hg2 hB2;have hG2:=ba hX.size hg2;have hN2_1:g2≠g1:=lg (gg hB1.lt hg2);replace hB1:=hB1.ext hE;replace hX:=hX.trans hE;clear hE hg2;simp only[zz];refine Dw aiO O ?_;intro w4 g3 hE hg3 hB3;have hG3:=ba hX.size hg3;have hN3_1:g3≠g1:=lg (gg hB1.lt hg3);have hN3_2:g3≠g2:=lg (gg hB2.lt hg3);replace hB1:=hB1.ext hE;replace hB2:=hB2.ext hE;replace hX:=hX.trans hE;clear hE hg3;simp only[zz];refine yD O (by simp only[zz];rfl) (by exact agv) hB3 (by simp) (by simp[pk]) ?_;clear hB3;intro w5 hC hB3;replace hB1:=hB1.chg hC (by first | exact hN1_3 | exact Ne.symm hN3_1);replace hB2:=hB2.chg hC (by first | exact hN2_3 | exact Ne.symm hN3_2);replace hX:=hX.chg hC hG3;clear hC;simp only[zy,zx,over,aa] at hB3;refine aM (hK3 _ _ ?_);refine bE (fun K4 hK4=>bE (fun K5 hK5=>ao (aB aI ?_)));simp only[zz];refine bJ O O (arv _) ?_;rintro v w6 hE ⟨g4,rfl,hg4,hB4⟩;have hG4:=ba hX.size hg4;have hN4_1:g4≠g1:=lg (gg hB1.lt hg4);have hN4_2:g4≠g2:=lg (gg hB2.lt hg4);have hN4_3:g4≠g3:=lg (gg hB3.lt hg4);replace hB1:=hB1.ext hE;replace hB2:=hB2.ext hE;replace hB3:=hB3.ext hE;replace hX:=hX.trans hE;clear hE hg4;simp only[zz];refine aM (hK5 _ _ ?_);refine wp_block ((wpIn_wide (n:=4)).1 ?_);have hbase:w.heap.size≤w6.heap.size:=hX.size;obtain⟨n0,hn0⟩:∃n0,n0=w.heap.size:=⟨_,rfl⟩
 have hT:lG w6 A ys.length cap ys:=(((hS.ext hX).take (trim xs).length).as (kW xs).symm |> fun h=>by rw[←kW,←hys] at h;exact h)
 have hA:∀a,0<ys.length→A=some a→a.block<w.heap.size:=fun a h0 e=>by
  obtain⟨a',e',hc⟩:=hS.row 0 (xs[0]'(by omega)) (am (by omega));rw[e] at e';cases e';have:=World.block_lt_of_cell? _ _ hc;rwa [Dx] at this
 refine wpIn_rangeFunc_ownG (F:=Fence.wide) O (by omega) (gf:=314) (lb:=#[.pointer (some ⟨g4,0,none⟩)]) O trivial (enters_of func314 (by kernel_rfl) O)
  (aev Fence.wide 3 trivial rfl (by omega) g4 w.heap.size cap A ys (by omega) w6 hB4.lt hX.size (hB4.cell rfl) hT.row hA) nI.trans (fun W l o o' hl ho _ _=>⟨belowK_b (w:=w6) hX.size W l o o' hl ho ‹_› ‹_›,World.putObj_heap_other (by have:=hB4.lt;omega)⟩) (Below.refl _ _) (fun _=>rfl)
  (fun pre W=>((∃v,Boxed W g3 300 v∧W.ownsRow w.heap.size 5 1 v (wbs pre).length ((wbs pre).map u8v)∧True)∧fR W g1 [.bool false,.string ⟨#[]⟩] 95∧fR W g4 [.slice A ys.length cap] 233)∧Below w.heap.size w W)
  (fun _ _ _=>False)
  (OwnFrom.and (OwnFrom.and (Own.from (holdsRow_own w.heap.size g3 300 5 1 (fun pre=>(wbs pre).length) (fun pre=>(wbs pre).map u8v) (fun _ _=>True)) _) (Own.from (fun s X Y row hs hg hr=>⟨(grownBy_keeps_cells hg hr hs.1 rfl).trans hs.1,(grownBy_keeps_cells hg hr hs.2 rfl).trans hs.2⟩) _)) (ownFrom_below (aq _) hX.size))
  (fun _ _ _ _ _ hs _ _=>hs)
  ⟨⟨⟨_,hB3,⟨rfl,.inr ⟨g2,4*ys.length,_,rfl,hG2,hB2,cv _,by show _≤9223372036854775807;omega,by simp,by simp[wbs]⟩⟩,trivial⟩,hB1,hB4⟩,hX⟩
  (fun x=>{ tmps:=#[.slice A ys.length cap,.bool neg,undef,undef,.pointer (some ⟨g1,0,none⟩),.pointer (some ⟨g3,0,none⟩),undef,.int .u64 (x.2:Int),undef,.slice A xs.length cap,.slice A ys.length cap,.slice A ys.length cap,.int .i64 (ys.length:Int),.int .i64 (4*(ys.length:Int)),.slice (some ⟨g2,0,none⟩) 0 (4*ys.length),.slice A ys.length cap,.func (.func 314) #[] #[.pointer (some ⟨g4,0,none⟩)],.int .i64 (x.1:Int),.int .u64 (x.2:Int),undef,undef,undef,undef,undef,undef,undef,undef,undef,undef,undef,undef,undef,undef,undef,undef,undef,undef,undef,undef,undef,undef,undef,undef],defers:=[] }) ?assign ?body ?done ?stop
 case assign =>
  intro l x W K hK;clear hys
  gi_wp2
  exact hK
 case stop =>
  rintro D c pre W _ _ h _;exact h.elim
 case body =>
  rintro l pre x W ⟨⟨⟨v,hv,hrow,_⟩,hB1',hB4'⟩,hB⟩ hlt;have hc:=hv.cell;have hwl:(wbs pre).length≤4*pre.length:=Nat.le_of_eq (Qo pre);clear hys;obtain⟨i0,hi,hz0,hz1,hz2⟩:=info_parts aod
  gi_wp2_with (gi_at_builtin;refine wpListIn_append_own _ O _ _ 300 O w.heap.size 5 i0 (.int .u8 0) 1 1 oT hi hz0 hz1 hz2 O (by decide) _ _ _ O (hrow.alloc _) ⟨W.heap.size,0,none⟩ 4 4 [.int .u8 ((x.2:Int) / 16777216%256),.int .u8 ((x.2:Int) / 65536%256),.int .u8 ((x.2:Int) / 256%256),.int .u8 ((x.2:Int)%256)] O O ((jH W _ 5).row 0) (by simp[pk]) (by show _≤9223372036854775807;omega) (by omega) (by have:=hB.size;simp;omega) ?_;intro v' w1 hown' hgrow _;obtain⟨g',cap',rfl⟩:=ownsRow_succ hown';obtain⟨hv1,hv2,hr2,hk2,hb2⟩:=hv.appended (by decide) hrow hB.size hG3 hown' hgrow;have hc1:=hv1.cell;have hf1:=hv1.frozen)
  have e1:=Tr hB1' (by decide) hrow hgrow (Ne.symm hN3_1) (v':=.slice (some ⟨g',0,none⟩) ((wbs pre).length+3+1) cap');have e4:=Tr hB4' (by decide) hrow hgrow hN4_3 (v':=.slice (some ⟨g',0,none⟩) ((wbs pre).length+3+1) cap');refine⟨hk2.from _,⟨hb2,e4⟩,⟨⟨_,hv2,?_,trivial⟩,e1.trans hB1',e4.trans hB4'⟩,hB.trans hb2⟩;rw[aic,aw,ct];have e:(wb x.2).map u8v=[.int .u8 ((x.2:Int) / 16777216%256),.int .u8 ((x.2:Int) / 65536%256),.int .u8 ((x.2:Int) / 256%256),.int .u8 ((x.2:Int)%256)]:=by simp[wb,jj]
  rw[e];exact hr2
 rintro D ls W hD hls ⟨⟨⟨v,hv,hrow,_⟩,hB1',_⟩,hX'⟩ hK';replace hD:=ba hX.size hD;clear hB1 hB2 hB3 hB4 hX hG2 hG4 hN2_1 hN3_2 hN4_1 hN4_2 hN4_3 hbase hT;have hB1:=hB1';have hB3:fR W g3 [v] 300:=hv;have hX:fQ w W:=hX';have hK:Def W D:=⟨hK'⟩
 have hDg1:=hK.ne hB1;have hlb:(wbs ls).length≤1000000000000000:=by
  have:=congrArg List.length hls;rw[bx,List.length_reverse] at this;rw[Qo];omega
 have hbs:nT (jJ (wbs ls))=kL (Uw neg (val 4294967296 xs)):=by
  have e:wbs ls=ys.reverse.flatMap wb:=by rw[←hls,List.flatMap_map];rfl
  have hd:eM 4294967296 ys:=by rw[hys];exact hS.digs.trim
  rw[e,adb hd neg,hys,Ht]
 dsimp only;refine hK4 _ _ (bE (fun K6 hK6=>ao ?_));refine aR O (hB3.lies1 amN O) ?_;simp only[zz];refine fG (Qn oT Vt pI O hrow) ?_;simp only[zz];refine Yx O O (aeu hlb) ?_;intro w7 hE;replace hB1:=hB1.ext hE;(try replace hK:=hK.ext hE);replace hX:=hX.trans hE;clear hE;simp only[zz];refine aB aO ?_;simp only[zz];refine aM ?_;rw[hbs];refine hK6 _ _ (bE (fun K7 hK7=>?_));cases neg
 ·
  refine ao (aB aI (aB aI ?_));simp only[zz];refine rI O ?_;simp only[zz];refine rI O ?_;simp only[zz];refine aB (Hs O) (aB aI (aB (Ci O O) ?_));simp only[zz];refine yD O (by simp only[zz];rfl) (by exact aQ) hB1 (by simp) (by simp[pk]) ?_;clear hB1;intro w8 hC hB1
  (try replace hK:=hK.chg hC (by first | assumption | rfl));replace hX:=hX.chg hC hG1
  clear hC;simp only[zy,zx,over,aa] at hB1;refine aM (hK7 _ _ ?_);refine wp_ret ?_;try simp only[Exit.inBlock,Exit.then]
  refine ada hK ?_;replace hB1:=hB1.putD hK (o:=.deferred none);replace hX:=hX.putD hD (o:=.deferred none);refine aT O ⟨_,O,(hB1.lies cI aQ O O)⟩ ?_;try simp only[zD,zE]
  exact⟨_,O,hX,by simp[Lith.W,Zg,Qp]⟩
 ·
  refine ao (aB aI (aB aI ?_));simp only[zz];refine eE O (aB aI ?_);simp only[zz];refine eE O (aB (apP pI O O) (aB (tL O) (aB aI ?_)));simp only[zz];refine aB (Ci O O) ?_;simp only[zz];refine yD O (by simp only[zz];rfl) (by exact aQ) hB1 (by simp) (by simp[pk]) ?_;clear hB1;intro w8 hC hB1
  (try replace hK:=hK.chg hC (by first | assumption | rfl));replace hX:=hX.chg hC hG1
  clear hC;simp only[zy,zx,over,aa] at hB1;refine aM (hK7 _ _ ?_);refine wp_ret ?_;try simp only[Exit.inBlock,Exit.then]
  refine ada hK ?_;replace hB1:=hB1.putD hK (o:=.deferred none);replace hX:=hX.putD hD (o:=.deferred none);refine aT O ⟨_,O,(hB1.lies cI aQ O O)⟩ ?_;try simp only[zD,zE]
  exact⟨_,O,hX,by simp[Lith.W,Zg,Qp]⟩
end Go.Proofs.YtfekpcimgncioaaGreatDoor
namespace Go.Proofs.YtfekpcimgncioaaGreatDoor
open Go.Proofs.Tryz
open Go.RowKit Go.Lith
set_option maxRecDepth 100000
attribute [local irreducible] ar cw gG bQ cO Code.wp
attribute [local congr] rC gX gY gZ iA iB lI iC iD iE iF iG iH iJ iK iL iM iN fJ fK iO iP iR iS iT lK dW dX cX dV iQ lJ fN fO fP iU iV lM
variable{a:Int}
theorem Ms(ha:Bd 1000000 a):dT prog 191 [W a] (.int .i64 (bA a)):=by
 intro w;refine⟨bK func191 (by kernel_rfl),?_⟩;have m:=Mem.refl w
 go_enter func191,ntmps191
 apply jP 10 [0,0] m;simp only[↓aD,fD];intro g1 u m;refine bJ O O (Yh _ (kS ha)) ?_;rintro v u e_ ⟨A1,c1,rfl,hN1⟩;replace m:=m.ext' e_;simp only[zz];rw[kQ] at hN1 ⊢;apply aL 4 [0,0] m;simp only[↓aD,kG];refine bG O ?_ ?_<;>intro hc1
 ·
  have h0:=ae6.1 hc1;apply aJ 5 [] m;simp only[↓aD];refine aT O O ?_;try simp only[zD,zE]
  exact⟨_,O,m.ext,by rw[h0];rfl⟩
 ·
  apply aJ 6 [0,0] m;simp only[↓aD,mU,Jj,aa];refine gF O ?_ ?_<;>intro hc2
  ·
   have hn:=La hc2;apply aJ 5 [] m;simp only[↓aD];refine aT O O ?_;try simp only[zD,zE]
   exact⟨_,O,m.ext,by rw[Dz hn]⟩
  ·
   have hn:=Gk hc2;have h0:¬a=0:=fun e=>hc1 (ae6.2 e);apply aJ 7 [] m;simp only[↓aD];refine aT O O ?_;try simp only[zD,zE]
   exact⟨_,O,m.ext,by rw[Ea (by omega)]⟩
theorem atl(ha:Bd 1000000 a):dT prog 267 [W a] (W (-a)):=by
 intro w;refine⟨bK func267 (by kernel_rfl),?_⟩;have m:=Mem.refl w
 go_enter func267,ntmps267
 apply jP 6 [0] m;simp only[↓aD,nF];intro g1 g2 u m;refine mh m [false,true] [(2,true),(0,true),(3,true),(4,true),(1,false),(5,false),(6,false)] aC (by kernel_rfl) (bU (fun _ _ _ _ _ h=>h)) (ol:=?_) ?hol ?_
 case hol=>simp only[zw,zQ,zR];try rfl
 intro u m;refine Pg 4 [0,0] ?_;simp only[↓aD,mU,fD,Jj,aa];refine bR (bJ O O (Yh _ (kS ha)) ?_);rintro v u e_ ⟨A1,c1,rfl,hN1⟩;replace m:=m.ext' e_;simp only[zz];rw[kQ] at hN1 ⊢;refine aM ⟨m.sel [false,true],?_⟩;refine bR (bJ O O (Hb _ hN1 (ba (Gl ha) (by decide))) ?_);rintro v u e_ rfl;replace m:=m.ext' e_;simp only[zz];simp only[gU];refine aM ⟨m.sel [false,true],?_⟩;refine bR (bP m 0 O O O aQ (gV O) O ?_);intro u m;simp only[zy,zx,over,zF,zG,aa] at m;refine aM ⟨m.sel [false,true],?_⟩;refine bW ?_;rw[ae3] at m;apply aW 1 [] m;simp only[↓aD];exact aT O ⟨_,O,((m.b 0 O).full cI aQ)⟩ ⟨_,O,m.ext,O⟩
theorem Yi{b:Int}(ha:Bd 1000000 a)(hb:Bd 1000000 b):dT prog 121 [W a,W b] (W (a+b)):=by
 intro w;refine⟨bK func121 (by kernel_rfl),?_⟩;have m:=Mem.refl w;have hla:=Gl ha;have hlb:=Gl hb;have hls:=Gl (Bd.add ha hb)
 go_enter func121,ntmps121
 apply jP 7 [0] m;simp only[↓aD,nF];intro g1 g2 g3 u m;refine mh m [true,true,true] [(0,true),(2,true),(1,false),(3,false),(4,true),(5,true)] aC (by kernel_rfl) (bU (fun _ _ _ _ _ h=>h)) (ol:=?_) ?hol ?_
 case hol=>simp only[zw,zQ,zR];try rfl
 intro u m;refine Pg 2 [2,1] ?_;simp only[↓aD,fD];refine bR (bJ O O (Yh _ (kS ha)) ?_);rintro v u e_ ⟨A1,c1,rfl,hN1⟩;replace m:=m.ext' e_;simp only[zz];rw[kQ] at hN1 ⊢;refine aM ⟨m,?_⟩;refine bR (bJ O O (Yh _ (kS hb)) ?_);rintro v u e_ ⟨A2,c2,rfl,hN2⟩;replace m:=m.ext' e_;replace hN1:=hN1.ext e_;simp only[zz];rw[kQ] at hN2 ⊢;refine aM ⟨m,?_⟩;refine bF aO (bF aO (bW ?_));apply aW 8 [2,1,0] m;simp only[↓aD,mU,Jj,aa];refine aB (aia Va O O) ?_;apply aL 2 [0] m;simp only[↓aD];refine bG O ?_ ?_<;>intro hc1
 ·
  apply aJ 1 [0] m;simp only[↓aD];refine mhe m [false,true,true] [(0,true),(1,true),(3,true),(4,true),(2,false),(5,false),(6,false)] aC (by kernel_rfl) (bU (fun _ _ _ _ _ h=>h)) (ol:=?_) ?hol ?_
  case hol=>simp only[zw,zQ,zR];try rfl
  intro u e_ m;replace hN1:=hN1.ext e_;replace hN2:=hN2.ext e_;refine Pg 4 [1] ?_;simp only[↓aD,mU,Jj,aa];refine bR (bJ O O (atj _ hN1 hN2 (ba hla (by decide)) (ba hlb (by decide))) ?_);rintro v u e_ ⟨A3,c3,rfl,hN3⟩;replace m:=m.ext' e_;refine aM ⟨m.sel [false,true,true],?_⟩;refine bR ?_;simp only[zz];simp only[gU] at hN3 ⊢;have hl3:(digs 4294967296 (a.natAbs+b.natAbs)).length≤100000000000:=ba (agk ha hb) (by decide);refine bJ O O (Hb _ hN3 hl3) ?_;rintro v u e_ rfl;replace m:=m.ext' e_;simp only[zz];simp only[gU];refine aM ⟨m.sel [false,true,true],?_⟩;refine bR (bP m 0 O O O aQ (gV O) O ?_);intro u m;simp only[zy,zx,over,zF,zG,aa] at m;refine aM ⟨m.sel [false,true,true],?_⟩;refine bW ?_;rw[ae4 hc1] at m;apply aW 1 [] m;simp only[↓aD];exact aT O ⟨_,O,((m.b 0 O).full cI aQ)⟩ ⟨_,O,m.ext,O⟩
 ·
  apply aJ 4 [0] m;simp only[↓aD];refine bJ O O (ati _ hN1 hN2 (Bp _) (Bp _)) ?_;rintro v u e_ rfl;replace m:=m.ext' e_;replace hN1:=hN1.ext e_;replace hN2:=hN2.ext e_;simp only[zz];simp only[gU];apply aL 3 [0,0] m;simp only[↓aD];refine bG O ?_ ?_<;>intro hc2
  ·
   have hlt:=Qi.1 hc2;apply aJ 1 [0] m;simp only[↓aD];refine mhe m [false,true,true] [(0,true),(1,true),(3,true),(4,true),(2,false),(5,false),(6,false)] aC (by kernel_rfl) (bU (fun _ _ _ _ _ h=>h)) (ol:=?_) ?hol ?_
   case hol=>simp only[zw,zQ,zR];try rfl
   intro u e_ m;replace hN1:=hN1.ext e_;replace hN2:=hN2.ext e_;refine Pg 4 [0] ?_;simp only[↓aD,mU,Jj,aa];refine bR (bJ O O (apo _ hN2 hN1 (Zh (Nat.le_of_lt hlt)) (by simp only[gU];omega) (ba hlb (by decide))) ?_);rintro v u e_ ⟨⟨A3,c3,rfl,hN3⟩,_⟩;replace m:=m.ext' e_;simp only[zz];simp only[gU] at hN3 ⊢;have hl3:=Zh (py b.natAbs a.natAbs);refine aM ⟨m.sel [false,true,true],?_⟩;refine bR (bJ O O (Hb _ hN3 (ba hl3 (ba hlb (by decide)))) ?_);rintro v u e_ rfl;replace m:=m.ext' e_;simp only[zz];simp only[gU];refine aM ⟨m.sel [false,true,true],?_⟩;refine bR (bP m 0 O O O aQ (gV O) O ?_);intro u m;simp only[zy,zx,over,zF,zG,aa] at m;refine aM ⟨m.sel [false,true,true],?_⟩;refine bW ?_;rw[aid hc1 hlt] at m;apply aW 1 [] m;simp only[↓aD];exact aT O ⟨_,O,((m.b 0 O).full cI aQ)⟩ ⟨_,O,m.ext,O⟩
  ·
   have hge:b.natAbs≤a.natAbs:=Nat.le_of_not_lt fun h=>hc2 (Qi.2 h);apply aJ 3 [0] m;simp only[↓aD];refine mhe m [false,true,true] [(0,true),(1,true),(3,true),(4,true),(2,false),(5,false),(6,false)] aC (by kernel_rfl) (bU (fun _ _ _ _ _ h=>h)) (ol:=?_) ?hol ?_
   case hol=>simp only[zw,zQ,zR];try rfl
   intro u e_ m;replace hN1:=hN1.ext e_;replace hN2:=hN2.ext e_;refine Pg 4 [1] ?_;simp only[↓aD,mU,Jj,aa];refine bR (bJ O O (apo _ hN1 hN2 (Zh hge) (by simp only[gU];omega) (ba hla (by decide))) ?_);rintro v u e_ ⟨⟨A3,c3,rfl,hN3⟩,_⟩;replace m:=m.ext' e_;simp only[zz];simp only[gU] at hN3 ⊢;have hl3:=Zh (py a.natAbs b.natAbs);refine aM ⟨m.sel [false,true,true],?_⟩;refine bR (bJ O O (Hb _ hN3 (ba hl3 (ba hla (by decide)))) ?_);rintro v u e_ rfl;replace m:=m.ext' e_;simp only[zz];simp only[gU];refine aM ⟨m.sel [false,true,true],?_⟩;refine bR (bP m 0 O O O aQ (gV O) O ?_);intro u m;simp only[zy,zx,over,zF,zG,aa] at m;refine aM ⟨m.sel [false,true,true],?_⟩;refine bW ?_;rw[aie hc1 hge] at m;apply aW 1 [] m;simp only[↓aD];exact aT O ⟨_,O,((m.b 0 O).full cI aQ)⟩ ⟨_,O,m.ext,O⟩
theorem Gc{b:Int}(ha:Bd 1000000 a)(hb:Bd 1000000 b):dT prog 192 [W a,W b] (W (a-b)):=by
 intro w;refine⟨bK func192 (by kernel_rfl),?_⟩;have m:=Mem.refl w
 go_enter func192,ntmps192
 apply jP 7 [0] m;simp only[↓aD,nF];intro g1 g2 g3 u m;refine cL m 4 aC (by kernel_rfl) ?_;simp only[zy];refine ql O (fun u m=>((m.b 2 O).full cI aQ)) ?_;simp only[zz];refine ql O (fun u m=>((m.b 1 O).full cI aQ)) ?_;simp only[zz];refine eX O O (atl hb) ?_;simp only[zz];refine eX O O (Yi ha hb.neg) (bC ?_);intro u m;simp only[zz];refine bP m 0 O O O aQ (gV O) O ?_;intro u m;simp only[zy,zx,over,zF,zG,aa] at m;refine aM ?_;rw[←pg] at m;apply aW 1 [] m;simp only[↓aD];exact aT O ⟨_,O,((m.b 0 O).full cI aQ)⟩ ⟨_,O,m.ext,O⟩
theorem tF{b:Int}(ha:Bd 1000000 a)(hb:Bd 1000000 b):dT prog 122 [W a,W b] (W (a*b)):=by
 intro w;refine⟨bK func122 (by kernel_rfl),?_⟩;have m:=Mem.refl w;have hla:=Gl ha;have hlb:=Gl hb;have hls:=Gl (Bd.mul ha hb)
 go_enter func122,ntmps122
 apply jP 7 [0] m;simp only[↓aD,nF];intro g1 g2 g3 u m;refine mh m [false,true,true] [(5,true),(7,true),(0,true),(2,true),(6,true),(8,true),(9,true),(1,false),(3,false),(4,false),(10,false),(11,false)] aC (by kernel_rfl) (bU (fun _ _ _ _ _ h=>h)) (ol:=?_) ?hol ?_
 case hol=>simp only[zw,zQ,zR];try rfl
 intro u m;refine Pg 6 [1,0,1,0] ?_;simp only[↓aD,mU,fD,Jj,aa];refine bF (Qm Va O O) (bR ?_);simp only[zz];refine bJ O O (Yh _ (kS ha)) ?_;rintro v u e_ ⟨A1,c1,rfl,hN1⟩;replace m:=m.ext' e_;simp only[zz];rw[kQ] at hN1 ⊢;refine aM ⟨m.sel [false,true,true],?_⟩;refine bR (bJ O O (Yh _ (kS hb)) ?_);rintro v u e_ ⟨A2,c2,rfl,hN2⟩;replace m:=m.ext' e_;replace hN1:=hN1.ext e_;simp only[zz];rw[kQ] at hN2 ⊢;refine aM ⟨m.sel [false,true,true],?_⟩;refine bR (bJ O O (atk _ hN1 hN2 (ba hla (by decide)) (ba hlb (by decide))) ?_);rintro v u e_ ⟨A3,c3,rfl,hN3⟩;replace m:=m.ext' e_;simp only[zz];simp only[gU] at hN3 ⊢;rw[←jq] at hN3 ⊢;refine aM ⟨m.sel [false,true,true],?_⟩;refine bR (bJ O O (Hb _ hN3 (ba hls (by decide))) ?_);rintro v u e_ rfl;replace m:=m.ext' e_;simp only[zz];simp only[gU];refine aM ⟨m.sel [false,true,true],?_⟩;refine bR (bP m 0 O O O aQ (gV O) O ?_);intro u m;simp only[zy,zx,over,zF,zG,aa] at m;refine aM ⟨m.sel [false,true,true],?_⟩;refine bW ?_;rw[jq,ae5] at m;apply aW 1 [] m;simp only[↓aD];exact aT O ⟨_,O,((m.b 0 O).full cI aQ)⟩ ⟨_,O,m.ext,O⟩
theorem atm{b:Int}(ha:Bd 900000 a)(hb:Bd 900000 b):dT prog 126 [W a,W b] (.int .i64 (bA (a-b))):=by
 intro w;refine⟨bK func126 (by kernel_rfl),?_⟩;have m:=Mem.refl w
 go_enter func126,ntmps126
 apply jP 10 [1,0,0] m;simp only[↓aD,fD];intro g1 g2 u m;refine kO m O O (Gc (ha.mono (by decide)) (hb.mono (by decide))) ?_;intro u m;simp only[zz];refine nV m O O (Ms ((Bd.sub ha hb).mono (by decide))) 3 [] ?_;simp only[↓aD];intro u m;exact aT O O ⟨_,O,m.ext,O⟩
theorem qK{n:Int}(h:sP n):dT prog 118 [.int .i64 n] (W n):=by
 intro w;refine⟨bK func118 (by kernel_rfl),?_⟩;have m:=Mem.refl w;have hna:=h.natAbs
 go_enter func118,ntmps118
 apply jP 5 [] m;simp only[↓aD,nF];intro g1 u m;rcases (show n<0∨0≤n by omega) with h0 | h0
 ·
  apply aW 2 [0] m;simp only[↓aD];refine aB (jA lH jE O (ae7 h h0)) ?_;apply aL 11 [1,0] m;simp only[↓aD];refine⟨by omega,?_⟩;refine aB (uK O (Wd hna (by omega))) ?_;apply aL 5 [0] m;simp only[↓aD];refine aB (lQ O O (ae1 (by omega))) ?_;apply aL 1 [0] m;simp only[↓aD];refine aB (lD O O (by omega) ac5) ?_;simp only[zz];refine abb fE (z:=.int .u64 0) (by kernel_rfl) O O O O O ?_;intro u g2 e_ h_ k_;replace m:=m.newB e_ h_ k_;apply aL 2 [1,0] m;simp only[↓aD];refine⟨by omega,?_⟩;refine dM m O O (Hb _ ((m.b 0 O).nat (os:=[n.natAbs%4294967296,n.natAbs / 4294967296]) (Qr (by omega)) O (by omega)) (by simp)) ?_;rintro v u m rfl;apply kD 3 [1] m;simp only[↓aD,fD,aa];intro u m;refine aT O ⟨_,O,((m.b 1 O).full cI aQ)⟩ ?_;try simp only[zD,zE]
  exact⟨_,O,m.ext,by rw[We,show true=fX n from (decide_eq_true h0).symm,Hx];rfl⟩
 ·
  apply aW 2 [0] m;simp only[↓aD];refine aB (jA lH jE O (aif h h0)) ?_;apply aL 13 [2,0] m;simp only[↓aD];refine⟨by omega,?_⟩;refine aB (lQ O O (ae1 (by omega))) ?_;apply aL 1 [0] m;simp only[↓aD];refine aB (lD O O (by omega) ac5) ?_;simp only[zz];refine abb fE (z:=.int .u64 0) (by kernel_rfl) O O O O O ?_;intro u g2 e_ h_ k_;replace m:=m.newB e_ h_ k_;apply aL 2 [2,0] m;simp only[↓aD];refine⟨by omega,?_⟩;refine dM m O O (Hb _ ((m.b 0 O).nat (os:=[n.natAbs%4294967296,n.natAbs / 4294967296]) (Qr (by omega)) O (by omega)) (by simp)) ?_;rintro v u m rfl;apply kD 3 [1] m;simp only[↓aD,fD,aa];intro u m;refine aT O ⟨_,O,((m.b 1 O).full cI aQ)⟩ ?_;try simp only[zD,zE]
  exact⟨_,O,m.ext,by rw[We,show false=fX n from (decide_eq_false (by omega)).symm,Hx];rfl⟩
end Go.Proofs.YtfekpcimgncioaaGreatDoor
namespace Go.Proofs.YtfekpcimgncioaaGreatDoor
open Go.Proofs.Tryz
open Go.RowKit Go.Lith
set_option maxRecDepth 100000
attribute [local irreducible] ar cw gG Code.wp
end Go.Proofs.YtfekpcimgncioaaGreatDoor
namespace Go.Proofs.YtfekpcimgncioaaGreatDoor
open Go.Proofs.Tryz
open Go.RowKit Go.Lith
set_option maxRecDepth 100000
attribute [local irreducible] ar cw gG bQ cO Code.wp
attribute [local congr] rC gX gY gZ iA iB lI iC iD iE iF iG iH iJ iK iL iM iN fJ fK iO iP iR iS iT lK dW dX cX dV iQ lJ fN fO fP iU iV lM
variable{q u a c d:P3}{t:T3}
theorem atn{p:P3}:dT prog 276 [pt p] (.int .i64 p.x):=by
 intro w;refine⟨aiB,?_⟩;have m:=Mem.refl w
 go_enter func276,ntmps276
 apply jP 12 [0] m;simp only[↓aD,ajG,cY,aa];intro g1 u m;exact aT O O ⟨_,O,m.ext,O⟩
theorem ato{p:P3}:dT prog 277 [pt p] (.int .i64 p.y):=by
 intro w;refine⟨aiC,?_⟩;have m:=Mem.refl w
 go_enter func277,ntmps277
 apply jP 12 [0] m;simp only[↓aD,ajH,cY,aa];intro g1 u m;exact aT O O ⟨_,O,m.ext,O⟩
theorem atp{p:P3}:dT prog 278 [pt p] (.int .i64 p.z):=by
 intro w;refine⟨aiD,?_⟩;have m:=Mem.refl w
 go_enter func278,ntmps278
 apply jP 12 [0] m;simp only[↓aD,ajI,cY,aa];intro g1 u m;exact aT O O ⟨_,O,m.ext,O⟩
theorem arw  : dT prog 195 [] (.agg #[.func (.func 276) #[] #[],.func (.func 277) #[] #[],.func (.func 278) #[] #[]]):=by
 intro w;refine⟨aiA,?_⟩;have m:=Mem.refl w
 go_enter func195,ntmps195
 apply jP 10 [0] m;simp only[↓aD,aqA,aqB,aqz,aa];intro g1 u m;exact aT O ⟨_,O,((m.b 0 O).full afh Li)⟩ ⟨_,O,m.ext,O⟩
theorem akO  : dT prog 336 [.int .i64 0] (.tuple #[.int .i64 1,.int .i64 2]):=by
 intro w;refine⟨adn,?_⟩;have m:=Mem.refl w
 go_enter func336,ntmps336
 apply fF 9 [0] m;simp only[↓aD,ak];refine⟨by omega,?_⟩;refine aB (cP (m:=1) (n:=3) (r:=1) O O (by decide) (by decide)) ?_;apply aL 2 [0] m;simp only[↓aD,ak];refine⟨by omega,?_⟩;refine aB (cP (m:=2) (n:=3) (r:=2) O O (by decide) (by decide)) ?_;apply aL 4 [] m;simp only[↓aD];exact yE O O O ⟨_,O,m.ext,O⟩
theorem akP  : dT prog 336 [.int .i64 1] (.tuple #[.int .i64 2,.int .i64 0]):=by
 intro w;refine⟨adn,?_⟩;have m:=Mem.refl w
 go_enter func336,ntmps336
 apply fF 9 [0] m;simp only[↓aD,ak];refine⟨by omega,?_⟩;refine aB (cP (m:=2) (n:=3) (r:=2) O O (by decide) (by decide)) ?_;apply aL 2 [0] m;simp only[↓aD,ak];refine⟨by omega,?_⟩;refine aB (cP (m:=3) (n:=3) (r:=0) O O (by decide) (by decide)) ?_;apply aL 4 [] m;simp only[↓aD];exact yE O O O ⟨_,O,m.ext,O⟩
theorem akQ  : dT prog 336 [.int .i64 2] (.tuple #[.int .i64 0,.int .i64 1]):=by
 intro w;refine⟨adn,?_⟩;have m:=Mem.refl w
 go_enter func336,ntmps336
 apply fF 9 [0] m;simp only[↓aD,ak];refine⟨by omega,?_⟩;refine aB (cP (m:=3) (n:=3) (r:=0) O O (by decide) (by decide)) ?_;apply aL 2 [0] m;simp only[↓aD,ak];refine⟨by omega,?_⟩;refine aB (cP (m:=4) (n:=3) (r:=1) O O (by decide) (by decide)) ?_;apply aL 4 [] m;simp only[↓aD];exact yE O O O ⟨_,O,m.ext,O⟩
theorem nJ{p:P3}[I3 p][I3 q]:dT prog 223 [pt p,pt q] (wv (q.sub p)):=by
 intro w;refine⟨bK func223 (by kernel_rfl),?_⟩;have m:=Mem.refl w
 go_enter func223,ntmps223
 apply jP 13 [0] m;simp only[↓aD,ajL];intro g1 g2 g3 g4 u m;refine nV m O O arw 17 [4,1,0] ?_;simp only[↓aD];refine⟨by omega,?_⟩;intro u m;refine aB (Fs O O) ?_;apply aL 3 [0] m;simp only[↓aD];refine cL m 11 aC (by kernel_rfl) ?_;simp only[zy];refine eC 3 [2] ?_;simp only[↓aD,aS];refine eX O O atn ?_;simp only[zz];refine eX O O (qK Iw.h) (aG aI ?_);simp only[zz];refine ql O (fun u m=>((m.b 3 O).full aH aA)) ?_;simp only[zz];refine eX O O atn ?_;simp only[zz];refine eX O O (qK Iw.h) ?_;simp only[zz];refine eX O O (Gc Bw.up Bw.up) (eC 1 [] ?_);simp only[↓aD,oY,ad,ag,aa];refine⟨by omega,?_⟩;refine bC ?_;intro u m;refine bP m 0 O O O aQ (gV O) O ?_;intro u m;simp only[zy,zx,over,zF,zG,aa] at m;refine aM ?_;apply aW 18 [1,0] m;simp only[↓aD,ak];refine⟨by omega,?_⟩;refine aB (Ft O O) ?_;apply aL 3 [0] m;simp only[↓aD];refine cL m 11 aC (by kernel_rfl) ?_;simp only[zy];refine eC 3 [2] ?_;simp only[↓aD,aS];refine eX O O ato ?_;simp only[zz];refine eX O O (qK Iw.h) (aG aI ?_);simp only[zz];refine ql O (fun u m=>((m.b 3 O).full aH aA)) ?_;simp only[zz];refine eX O O ato ?_;simp only[zz];refine eX O O (qK Iw.h) ?_;simp only[zz];refine eX O O (Gc Bw.up Bw.up) (eC 1 [] ?_);simp only[↓aD,oY,ad,ag,aa];refine⟨by omega,?_⟩;refine bC ?_;intro u m;refine bP m 0 O O O aQ (gV O) O ?_;intro u m;simp only[zy,zx,over,zF,zG,aa] at m;refine aM ?_;apply aW 18 [1,0] m;simp only[↓aD,ak];refine⟨by omega,?_⟩;refine aB (Fu O O) ?_;apply aL 3 [0] m;simp only[↓aD];refine cL m 11 aC (by kernel_rfl) ?_;simp only[zy];refine eC 3 [2] ?_;simp only[↓aD,aS];refine eX O O atp ?_;simp only[zz];refine eX O O (qK Iw.h) (aG aI ?_);simp only[zz];refine ql O (fun u m=>((m.b 3 O).full aH aA)) ?_;simp only[zz];refine eX O O atp ?_;simp only[zz];refine eX O O (qK Iw.h) ?_;simp only[zz];refine eX O O (Gc Bw.up Bw.up) (eC 1 [] ?_);simp only[↓aD,oY,ad,ag,aa];refine⟨by omega,?_⟩;refine bC ?_;intro u m;refine bP m 0 O O O aQ (gV O) O ?_;intro u m;simp only[zy,zx,over,zF,zG,aa] at m;refine aM ?_;apply Rp 19 [2,0,1] m;simp only[↓aD,ajK,ak,aa];refine⟨by omega,?_⟩;intro u m;exact aT O ⟨_,O,((m.b 1 O).full afi Wo)⟩ ⟨_,O,m.ext,O⟩
theorem Ah{v:P3}(hu:Bv 400000 u)(hv:Bv 400000 v):dT prog 302 [wv u,wv v] (wv (u.cross v)):=by
 intro w;refine⟨bK func302 (by kernel_rfl),?_⟩;have m:=Mem.refl w
 go_enter func302,ntmps302
 apply jP 35 [4,1,0] m;simp only[↓aD,ajL];intro g1 g2 g3 g4;refine⟨by omega,?_⟩;intro u m;refine nV m O O akO 6 [0] ?_;simp only[↓aD];intro u m;refine cL m 17 aC (by kernel_rfl) ?_;simp only[zy];refine eC 7 [3,2] ?_;simp only[↓aD,oY,fD,ad,ag,aa];refine⟨by omega,?_⟩;refine eX O O (tF Bw.up Bw.up) (eC 6 [3,2] ?_);simp only[↓aD,oY,fD,ad,ag,aa];refine⟨by omega,?_⟩;refine eX O O (tF Bw.up Bw.up) ?_;simp only[zz];refine eX O O (Gc Bw.up Bw.up) (eC 1 [] ?_);simp only[↓aD,oY,ad,ag,aa];refine⟨by omega,?_⟩;refine bC ?_;intro u m;refine bP m 0 O O O aQ (gV O) O ?_;intro u m;simp only[zy,zx,over,zF,zG,aa] at m;refine aM ?_;apply aW 23 [1,0] m;simp only[↓aD,ak];refine⟨by omega,?_⟩;refine nV m O O akP 6 [0] ?_;simp only[↓aD];intro u m;refine cL m 17 aC (by kernel_rfl) ?_;simp only[zy];refine eC 7 [3,2] ?_;simp only[↓aD,oY,fD,ad,ag,aa];refine⟨by omega,?_⟩;refine eX O O (tF Bw.up Bw.up) (eC 6 [3,2] ?_);simp only[↓aD,oY,fD,ad,ag,aa];refine⟨by omega,?_⟩;refine eX O O (tF Bw.up Bw.up) ?_;simp only[zz];refine eX O O (Gc Bw.up Bw.up) (eC 1 [] ?_);simp only[↓aD,oY,ad,ag,aa];refine⟨by omega,?_⟩;refine bC ?_;intro u m;refine bP m 0 O O O aQ (gV O) O ?_;intro u m;simp only[zy,zx,over,zF,zG,aa] at m;refine aM ?_;apply aW 23 [1,0] m;simp only[↓aD,ak];refine⟨by omega,?_⟩;refine nV m O O akQ 6 [0] ?_;simp only[↓aD];intro u m;refine cL m 17 aC (by kernel_rfl) ?_;simp only[zy];refine eC 7 [3,2] ?_;simp only[↓aD,oY,fD,ad,ag,aa];refine⟨by omega,?_⟩;refine eX O O (tF Bw.up Bw.up) (eC 6 [3,2] ?_);simp only[↓aD,oY,fD,ad,ag,aa];refine⟨by omega,?_⟩;refine eX O O (tF Bw.up Bw.up) ?_;simp only[zz];refine eX O O (Gc Bw.up Bw.up) (eC 1 [] ?_);simp only[↓aD,oY,ad,ag,aa];refine⟨by omega,?_⟩;refine bC ?_;intro u m;refine bP m 0 O O O aQ (gV O) O ?_;intro u m;simp only[zy,zx,over,zF,zG,aa] at m;refine aM ?_;apply Rp 19 [2,0,1] m;simp only[↓aD,ajK,ak,aa];refine⟨by omega,?_⟩;intro u m;exact aT O ⟨_,O,((m.b 1 O).full afi Wo)⟩ ⟨_,O,m.ext,O⟩
theorem arx{b:Int}(hb:Bd 1000000 b):dT prog 121 [.agg #[.bool false,.string ⟨#[]⟩],W b] (W (0+b)):=by
 rw[←Zi];exact Yi (Oz _) hb
theorem Og{v:P3}(hu:Bv 400000 u)(hv:Bv 400000 v):dT prog 224 [wv u,wv v] (W (u.dot v)):=by
 intro w;refine⟨bK func224 (by kernel_rfl),?_⟩;have m:=Mem.refl w
 go_enter func224,ntmps224
 apply jP 32 [4,1,0] m;simp only[↓aD,nF];intro g1 g2 g3 g4;refine⟨by omega,?_⟩;intro u m;refine cL m 9 aC (by kernel_rfl) ?_;simp only[zy];refine eC 7 [0,3,2] ?_;simp only[↓aD,fD,oY,ad,ag,aa];refine⟨by omega,?_⟩;refine eX O O (tF Bw.up Bw.up) ?_;simp only[zz];refine eX O O (arx Bw.up) (bC ?_);intro u m;simp only[zz];refine bP m 0 O O O aQ (gV O) O ?_;intro u m;simp only[zy,zx,over,zF,zG,aa] at m;refine aM ?_;apply aW 20 [1,0] m;simp only[↓aD,ak];refine⟨by omega,?_⟩;refine cL m 9 aC (by kernel_rfl) ?_;simp only[zy];refine eC 7 [0,3,2] ?_;simp only[↓aD,fD,oY,ad,ag,aa];refine⟨by omega,?_⟩;refine eX O O (tF Bw.up Bw.up) ?_;simp only[zz];refine eX O O (Yi Bw.up Bw.up) (bC ?_);intro u m;simp only[zz];refine bP m 0 O O O aQ (gV O) O ?_;intro u m;simp only[zy,zx,over,zF,zG,aa] at m;refine aM ?_;apply aW 20 [1,0] m;simp only[↓aD,ak];refine⟨by omega,?_⟩;refine cL m 9 aC (by kernel_rfl) ?_;simp only[zy];refine eC 7 [0,3,2] ?_;simp only[↓aD,fD,oY,ad,ag,aa];refine⟨by omega,?_⟩;refine eX O O (tF Bw.up Bw.up) ?_;simp only[zz];refine eX O O (Yi Bw.up Bw.up) (bC ?_);intro u m;simp only[zz];refine bP m 0 O O O aQ (gV O) O ?_;intro u m;simp only[zy,zx,over,zF,zG,aa] at m;refine aM ?_;apply Rp 19 [2,0,1] m;simp only[↓aD,fD,ak,aa];refine⟨by omega,?_⟩;intro u m;refine aT O ⟨_,O,((m.b 1 O).full cI aQ)⟩ ?_;try simp only[zD,zE]
 exact⟨_,O,m.ext,by rw[←P3.dot0];rfl⟩
theorem Ts[IT t]:dT prog 239 [tr t] (wv t.normal):=by
 intro w;refine⟨bK func239 (by kernel_rfl),?_⟩;have m:=Mem.refl w
 go_enter func239,ntmps239
 apply jP 6 [0] m;simp only[↓aD,Tb];intro g1 g2 u m;refine cL m 11 aC (by kernel_rfl) ?_;simp only[zy];refine eC 4 [1,1] ?_;simp only[↓aD,bT,aS,ad,ag,aa];refine⟨by omega,?_⟩;refine eX O O nJ (eC 4 [1,1] ?_);simp only[↓aD,bT,aS,ad,ag,aa];refine⟨by omega,?_⟩;refine eX O O nJ ?_;simp only[zz];refine eX O O (Ah Bv.of Bv.of) (bC ?_);intro u m;simp only[zz];refine bP m 0 O O O pC (gV O) O ?_;intro u m;simp only[zy,zx,over,zF,zG,aa] at m;refine aM ?_;apply aW 1 [] m;simp only[↓aD];exact aT O ⟨_,O,((m.b 0 O).full Pe pC)⟩ ⟨_,O,m.ext,O⟩
theorem oO{X:Nat}(w:aj)(hX64:X<18446744073709551616):dQ prog 255 [.int .u64 X] w (fun v _=>∃n:Int,v=.int .i64 n∧0≤n∧n≤64∧(n≤18→X<262144)):=by
 refine⟨bK func255 (by kernel_rfl),?_⟩;have m:=Mem.refl w
 go_enter func255,ntmps255
 apply fF 10 [0,0] m;simp only[↓aD];refine bG O ?_ ?_<;>intro hc1
 ·
  apply aJ 3 [0] m;simp only[↓aD];refine aB (lD O O (by omega) ac5) ?_;apply aL 11 [0,0] m;simp only[↓aD];refine bG O ?_ ?_<;>intro hc2
  ·
   apply aJ 3 [0] m;simp only[↓aD];refine aB (lD O O (by omega) aik) ?_;apply aL 13 [0,0] m;simp only[↓aD,ak];refine⟨by omega,?_⟩;refine bG O ?_ ?_<;>intro hc3
   ·
    apply aJ 3 [0] m;simp only[↓aD];refine aB (lD O O (by omega) ae8) ?_;apply aL 12 [0] m;simp only[↓aD,Db,xM,ak];refine⟨by omega,?_⟩;refine Cc pI (by kernel_rfl) O (by omega) ?_;intro b hb8 hb2;simp only[Bk,rQ,vO,iv,iu,fx,gh];apply aL 5 [] m;simp only[↓aD,xM,Mc];refine⟨by omega,?_⟩;exact aT O O ⟨_,O,m.ext,_,O,by omega,by omega,by omega⟩
   ·
    apply aJ 6 [0] m;simp only[↓aD,Db,xM];refine⟨by omega,?_⟩;refine Cc pI (by kernel_rfl) O (by omega) ?_;intro b hb8 hb2;simp only[Bk,rQ,vO,iv,iu,fx,gh];apply aL 5 [] m;simp only[↓aD,xM,Mc];refine⟨by omega,?_⟩;exact aT O O ⟨_,O,m.ext,_,O,by omega,by omega,by omega⟩
  ·
   apply aJ 7 [0,0] m;simp only[↓aD];refine bG O ?_ ?_<;>intro hc3
   ·
    apply aJ 3 [0] m;simp only[↓aD];refine aB (lD O O (by omega) ae8) ?_;apply aL 12 [0] m;simp only[↓aD,Db,xM,ak];refine⟨by omega,?_⟩;refine Cc pI (by kernel_rfl) O (by omega) ?_;intro b hb8 hb2;simp only[Bk,rQ,vO,iv,iu,fx,gh];apply aL 5 [] m;simp only[↓aD,xM,Mc];refine⟨by omega,?_⟩;exact aT O O ⟨_,O,m.ext,_,O,by omega,by omega,by omega⟩
   ·
    apply aJ 6 [0] m;simp only[↓aD,Db,xM];refine⟨by omega,?_⟩;refine Cc pI (by kernel_rfl) O (by omega) ?_;intro b hb8 hb2;simp only[Bk,rQ,vO,iv,iu,fx,gh];apply aL 5 [] m;simp only[↓aD,xM,Mc];refine⟨by omega,?_⟩;exact aT O O ⟨_,O,m.ext,_,O,by omega,by omega,by omega⟩
 ·
  apply aJ 7 [0,0] m;simp only[↓aD];refine bG O ?_ ?_<;>intro hc2
  ·
   apply aJ 3 [0] m;simp only[↓aD];refine aB (lD O O (by omega) aik) ?_;apply aL 13 [0,0] m;simp only[↓aD,ak];refine⟨by omega,?_⟩;refine bG O ?_ ?_<;>intro hc3
   ·
    apply aJ 3 [0] m;simp only[↓aD];refine aB (lD O O (by omega) ae8) ?_;apply aL 12 [0] m;simp only[↓aD,Db,xM,ak];refine⟨by omega,?_⟩;refine Cc pI (by kernel_rfl) O (by omega) ?_;intro b hb8 hb2;simp only[Bk,rQ,vO,iv,iu,fx,gh];apply aL 5 [] m;simp only[↓aD,xM,Mc];refine⟨by omega,?_⟩;exact aT O O ⟨_,O,m.ext,_,O,by omega,by omega,by omega⟩
   ·
    apply aJ 6 [0] m;simp only[↓aD,Db,xM];refine⟨by omega,?_⟩;refine Cc pI (by kernel_rfl) O (by omega) ?_;intro b hb8 hb2;simp only[Bk,rQ,vO,iv,iu,fx,gh];apply aL 5 [] m;simp only[↓aD,xM,Mc];refine⟨by omega,?_⟩;exact aT O O ⟨_,O,m.ext,_,O,by omega,by omega,by omega⟩
  ·
   apply aJ 7 [0,0] m;simp only[↓aD];refine bG O ?_ ?_<;>intro hc3
   ·
    apply aJ 3 [0] m;simp only[↓aD];refine aB (lD O O (by omega) ae8) ?_;apply aL 12 [0] m;simp only[↓aD,Db,xM,ak];refine⟨by omega,?_⟩;refine Cc pI (by kernel_rfl) O (by omega) ?_;intro b hb8 hb2;simp only[Bk,rQ,vO,iv,iu,fx,gh];apply aL 5 [] m;simp only[↓aD,xM,Mc];refine⟨by omega,?_⟩;exact aT O O ⟨_,O,m.ext,_,O,by omega,by omega,by omega⟩
   ·
    apply aJ 6 [0] m;simp only[↓aD,Db,xM];refine⟨by omega,?_⟩;refine Cc pI (by kernel_rfl) O (by omega) ?_;intro b hb8 hb2;simp only[Bk,rQ,vO,iv,iu,fx,gh];apply aL 5 [] m;simp only[↓aD,xM,Mc];refine⟨by omega,?_⟩;exact aT O O ⟨_,O,m.ext,_,O,by omega,by omega,by omega⟩
theorem qL{p:P3}[hp:S3 p][hq:S3 q]:dT prog 299 [pt p,pt q] (nv (q.sub p)):=by
 intro w;refine⟨bK func299 (by kernel_rfl),?_⟩;have m:=Mem.refl w;have:=hp.x;have:=hp.y;have:=hp.z;have:=hq.x;have:=hq.y;have:=hq.z
 go_enter func299,ntmps299
 apply jP 27 [1,2,1,2,1,2,0] m;simp only[↓aD,ajN,gE,cY,gI,iX,aqK,ajM,aa];intro g1 g2 g3;refine⟨by omega,?_⟩;intro u m;exact aT O ⟨_,O,((m.b 0 O).full afj Wp)⟩ ⟨_,O,m.ext,O⟩
theorem Gd{v:P3}(hu:N3 u)(hv:N3 v):dT prog 300 [nv u,nv v] (nv (u.cross v)):=by
 intro w;refine⟨bK func300 (by kernel_rfl),?_⟩;have m:=Mem.refl w
 go_enter func300,ntmps300
 apply jP 35 [4,1,0] m;simp only[↓aD,ajN];intro g1 g2 g3 g4;refine⟨by omega,?_⟩;intro u m;refine nV m O O akO 6 [0] ?_;simp only[↓aD];intro u m;refine cL m 17 aC (by kernel_rfl) ?_;simp only[zy];refine eC 7 [3,2] ?_;simp only[↓aD,sW,cY,ad,ag,aa];refine⟨by omega,?_⟩;refine aG (lC O O (Wf (Bc hu.y hv.z))) (eC 6 [3,2] ?_);simp only[↓aD,sW,cY,ad,ag,aa];refine⟨by omega,?_⟩;refine aG (lC O O (Wf (Bc hu.z hv.y))) (aG (Aw O O (apT (Bc hu.y hv.z) (Bc hu.z hv.y))) ?_);refine eC 1 [] ?_;simp only[↓aD,sW,ad,ag,aa];refine⟨by omega,?_⟩;refine bC ?_;intro u m;refine cW m 0 O O O aU (gV O) ⟨O,O⟩ ?_;intro u m;simp only[zz,zy,zx,over,aa] at m;refine aM ?_;apply aW 23 [1,0] m;simp only[↓aD,ak];refine⟨by omega,?_⟩;refine nV m O O akP 6 [0] ?_;simp only[↓aD];intro u m;refine cL m 17 aC (by kernel_rfl) ?_;simp only[zy];refine eC 7 [3,2] ?_;simp only[↓aD,sW,cY,ad,ag,aa];refine⟨by omega,?_⟩;refine aG (lC O O (Wf (Bc hu.z hv.x))) (eC 6 [3,2] ?_);simp only[↓aD,sW,cY,ad,ag,aa];refine⟨by omega,?_⟩;refine aG (lC O O (Wf (Bc hu.x hv.z))) (aG (Aw O O (apT (Bc hu.z hv.x) (Bc hu.x hv.z))) ?_);refine eC 1 [] ?_;simp only[↓aD,sW,ad,ag,aa];refine⟨by omega,?_⟩;refine bC ?_;intro u m;refine cW m 0 O O O aU (gV O) ⟨O,O⟩ ?_;intro u m;simp only[zz,zy,zx,over,aa] at m;refine aM ?_;apply aW 23 [1,0] m;simp only[↓aD,ak];refine⟨by omega,?_⟩;refine nV m O O akQ 6 [0] ?_;simp only[↓aD];intro u m;refine cL m 17 aC (by kernel_rfl) ?_;simp only[zy];refine eC 7 [3,2] ?_;simp only[↓aD,sW,cY,ad,ag,aa];refine⟨by omega,?_⟩;refine aG (lC O O (Wf (Bc hu.x hv.y))) (eC 6 [3,2] ?_);simp only[↓aD,sW,cY,ad,ag,aa];refine⟨by omega,?_⟩;refine aG (lC O O (Wf (Bc hu.y hv.x))) (aG (Aw O O (apT (Bc hu.x hv.y) (Bc hu.y hv.x))) ?_);refine eC 1 [] ?_;simp only[↓aD,sW,ad,ag,aa];refine⟨by omega,?_⟩;refine bC ?_;intro u m;refine cW m 0 O O O aU (gV O) ⟨O,O⟩ ?_;intro u m;simp only[zz,zy,zx,over,aa] at m;refine aM ?_;apply Rp 19 [2,0,1] m;simp only[↓aD,ajM,ak,aa];refine⟨by omega,?_⟩;intro u m;exact aT O ⟨_,O,((m.b 1 O).full afj Wp)⟩ ⟨_,O,m.ext,O⟩
theorem aaI{n:Int}:dT prog 301 [.int .i64 n] (.int .i64 (bA n)):=by
 intro w;refine⟨bK func301 (by kernel_rfl),?_⟩;have m:=Mem.refl w
 go_enter func301,ntmps301
 apply fF 12 [0,0] m;simp only[↓aD];refine bG O ?_ ?_<;>intro hc1
 ·
  apply aJ 5 [] m;simp only[↓aD];refine aT O O ?_;try simp only[zD,zE]
  exact⟨_,O,m.ext,by rw[Dz (by assumption)]⟩
 ·
  apply aJ 6 [0,0] m;simp only[↓aD];refine bG O ?_ ?_<;>intro hc2
  ·
   apply aJ 5 [] m;simp only[↓aD];refine aT O O ?_;try simp only[zD,zE]
   exact⟨_,O,m.ext,by rw[Ea (by assumption)]⟩
  ·
   apply aJ 7 [] m;simp only[↓aD];refine aT O O ?_;try simp only[zD,zE]
   exact⟨_,O,m.ext,by rw[show n=0 by omega];rfl⟩
theorem Yj{b:P3}[I3 a][I3 b][I3 c][I3 d]{g0:Nat}(w:aj)(hB0:fR w g0 [.int .i64 a.x,.int .i64 a.y,.int .i64 a.z,.int .i64 b.x,.int .i64 b.y,.int .i64 b.z,.int .i64 c.x,.int .i64 c.y,.int .i64 c.z,.int .i64 d.x,.int .i64 d.y,.int .i64 d.z] 30):dQ prog 298 [.slice (some ⟨g0,0,none⟩) 4 4] w (fun v _=>∃bo:Bool,v=.bool bo∧(bo=true→S3 a∧S3 b∧S3 c∧S3 d)):=by
 refine⟨bK func298 (by kernel_rfl),?_⟩;have m:=Mem.refl w
 go_enter func298,ntmps298
 apply fF 25 [5,1,0] m;simp only[↓aD,kZ];refine⟨by omega,?_⟩;refine aB (aF cT aA O O (by decide) (by decide) O) ?_;simp only[zz];refine aR O ((hB0.ext m.ext).lies aH aA O O) ?_;simp only[zz,zy,au,aa,ag,ad];apply kD 28 [0,0,0,0,4,1,0] m;simp only[↓aD,eS,aS,gE,cY,gI,iX,tE,aa];intro g1;refine⟨by omega,?_⟩;intro u m;refine aB (jU O O) ?_;apply aL 6 [0] m;simp only[↓aD];refine aB (uK O O) (aB (wW O O O) (aB (jA lH jE O (Ay Iw.h)) ?_));simp only[zz];refine dM m O O (oO (X:=(a.x).natAbs) _ (by have:=(Iw.h:sP a.x).natAbs;omega)) ?_;rintro v u m ⟨n,rfl,hn0,hn1,hax⟩;apply aL 2 [0,0] m;simp only[↓aD];refine bG O ?_ ?_<;>intro hc3
 ·
  apply aJ 5 [] m;simp only[↓aD];exact aT rfl rfl ⟨_,rfl,m.ext,false,rfl,fun h=>by cases h⟩
 ·
  replace hax:=hax (by omega);clear hc3 hn0 hn1;apply aJ 18 [1,0] m;simp only[↓aD,ak];refine⟨by omega,?_⟩;refine aB (jV O O) ?_;apply aL 6 [0] m;simp only[↓aD];refine aB (uK O O) (aB (wW O O O) (aB (jA lH jE O (Ay Iw.h)) ?_));simp only[zz];refine dM m O O (oO (X:=(a.y).natAbs) _ (by have:=(Iw.h:sP a.y).natAbs;omega)) ?_;rintro v u m ⟨n,rfl,hn0,hn1,hay⟩;apply aL 2 [0,0] m;simp only[↓aD];refine bG O ?_ ?_<;>intro hc3
  ·
   apply aJ 5 [] m;simp only[↓aD];exact aT rfl rfl ⟨_,rfl,m.ext,false,rfl,fun h=>by cases h⟩
  ·
   replace hay:=hay (by omega);clear hc3 hn0 hn1;apply aJ 18 [1,0] m;simp only[↓aD,ak];refine⟨by omega,?_⟩;refine aB (jW O O) ?_;apply aL 6 [0] m;simp only[↓aD];refine aB (uK O O) (aB (wW O O O) (aB (jA lH jE O (Ay Iw.h)) ?_));simp only[zz];refine dM m O O (oO (X:=(a.z).natAbs) _ (by have:=(Iw.h:sP a.z).natAbs;omega)) ?_;rintro v u m ⟨n,rfl,hn0,hn1,haz⟩;apply aL 2 [0,0] m;simp only[↓aD];refine bG O ?_ ?_<;>intro hc3
   ·
    apply aJ 5 [] m;simp only[↓aD];exact aT rfl rfl ⟨_,rfl,m.ext,false,rfl,fun h=>by cases h⟩
   ·
    replace haz:=haz (by omega);clear hc3 hn0 hn1;apply aJ 31 [2,1,0] m;simp only[↓aD,ak];refine⟨by omega,?_⟩;refine aB (aF cT aA O O (by decide) (by decide) O) ?_;simp only[zz];refine aR O ((hB0.ext m.ext).lies aH aA O O) ?_;simp only[zz,zy,au,aa,ag,ad];apply kD 28 [0,0,0,0,4,1,0] m;simp only[↓aD,eS,aS,gE,cY,gI,iX,tE,aa];intro g2;refine⟨by omega,?_⟩;intro u m;refine aB (jU O O) ?_;apply aL 6 [0] m;simp only[↓aD];refine aB (uK O O) (aB (wW O O O) (aB (jA lH jE O (Ay Iw.h)) ?_));simp only[zz];refine dM m O O (oO (X:=(b.x).natAbs) _ (by have:=(Iw.h:sP b.x).natAbs;omega)) ?_;rintro v u m ⟨n,rfl,hn0,hn1,hbx⟩;apply aL 2 [0,0] m;simp only[↓aD];refine bG O ?_ ?_<;>intro hc3
    ·
     apply aJ 5 [] m;simp only[↓aD];exact aT rfl rfl ⟨_,rfl,m.ext,false,rfl,fun h=>by cases h⟩
    ·
     replace hbx:=hbx (by omega);clear hc3 hn0 hn1;apply aJ 18 [1,0] m;simp only[↓aD,ak];refine⟨by omega,?_⟩;refine aB (jV O O) ?_;apply aL 6 [0] m;simp only[↓aD];refine aB (uK O O) (aB (wW O O O) (aB (jA lH jE O (Ay Iw.h)) ?_));simp only[zz];refine dM m O O (oO (X:=(b.y).natAbs) _ (by have:=(Iw.h:sP b.y).natAbs;omega)) ?_;rintro v u m ⟨n,rfl,hn0,hn1,hby⟩;apply aL 2 [0,0] m;simp only[↓aD];refine bG O ?_ ?_<;>intro hc3
     ·
      apply aJ 5 [] m;simp only[↓aD];exact aT rfl rfl ⟨_,rfl,m.ext,false,rfl,fun h=>by cases h⟩
     ·
      replace hby:=hby (by omega);clear hc3 hn0 hn1;apply aJ 18 [1,0] m;simp only[↓aD,ak];refine⟨by omega,?_⟩;refine aB (jW O O) ?_;apply aL 6 [0] m;simp only[↓aD];refine aB (uK O O) (aB (wW O O O) (aB (jA lH jE O (Ay Iw.h)) ?_));simp only[zz];refine dM m O O (oO (X:=(b.z).natAbs) _ (by have:=(Iw.h:sP b.z).natAbs;omega)) ?_;rintro v u m ⟨n,rfl,hn0,hn1,hbz⟩;apply aL 2 [0,0] m;simp only[↓aD];refine bG O ?_ ?_<;>intro hc3
      ·
       apply aJ 5 [] m;simp only[↓aD];exact aT rfl rfl ⟨_,rfl,m.ext,false,rfl,fun h=>by cases h⟩
      ·
       replace hbz:=hbz (by omega);clear hc3 hn0 hn1;apply aJ 31 [2,1,0] m;simp only[↓aD,ak];refine⟨by omega,?_⟩;refine aB (aF cT aA O O (by decide) (by decide) O) ?_;simp only[zz];refine aR O ((hB0.ext m.ext).lies aH aA O O) ?_;simp only[zz,zy,au,aa,ag,ad];apply kD 28 [0,0,0,0,4,1,0] m;simp only[↓aD,eS,aS,gE,cY,gI,iX,tE,aa];intro g3;refine⟨by omega,?_⟩;intro u m;refine aB (jU O O) ?_;apply aL 6 [0] m;simp only[↓aD];refine aB (uK O O) (aB (wW O O O) (aB (jA lH jE O (Ay Iw.h)) ?_));simp only[zz];refine dM m O O (oO (X:=(c.x).natAbs) _ (by have:=(Iw.h:sP c.x).natAbs;omega)) ?_;rintro v u m ⟨n,rfl,hn0,hn1,hcx⟩;apply aL 2 [0,0] m;simp only[↓aD];refine bG O ?_ ?_<;>intro hc3
       ·
        apply aJ 5 [] m;simp only[↓aD];exact aT rfl rfl ⟨_,rfl,m.ext,false,rfl,fun h=>by cases h⟩
       ·
        replace hcx:=hcx (by omega);clear hc3 hn0 hn1;apply aJ 18 [1,0] m;simp only[↓aD,ak];refine⟨by omega,?_⟩;refine aB (jV O O) ?_;apply aL 6 [0] m;simp only[↓aD];refine aB (uK O O) (aB (wW O O O) (aB (jA lH jE O (Ay Iw.h)) ?_));simp only[zz];refine dM m O O (oO (X:=(c.y).natAbs) _ (by have:=(Iw.h:sP c.y).natAbs;omega)) ?_;rintro v u m ⟨n,rfl,hn0,hn1,hcy⟩;apply aL 2 [0,0] m;simp only[↓aD];refine bG O ?_ ?_<;>intro hc3
        ·
         apply aJ 5 [] m;simp only[↓aD];exact aT rfl rfl ⟨_,rfl,m.ext,false,rfl,fun h=>by cases h⟩
        ·
         replace hcy:=hcy (by omega);clear hc3 hn0 hn1;apply aJ 18 [1,0] m;simp only[↓aD,ak];refine⟨by omega,?_⟩;refine aB (jW O O) ?_;apply aL 6 [0] m;simp only[↓aD];refine aB (uK O O) (aB (wW O O O) (aB (jA lH jE O (Ay Iw.h)) ?_));simp only[zz];refine dM m O O (oO (X:=(c.z).natAbs) _ (by have:=(Iw.h:sP c.z).natAbs;omega)) ?_;rintro v u m ⟨n,rfl,hn0,hn1,hcz⟩;apply aL 2 [0,0] m;simp only[↓aD];refine bG O ?_ ?_<;>intro hc3
         ·
          apply aJ 5 [] m;simp only[↓aD];exact aT rfl rfl ⟨_,rfl,m.ext,false,rfl,fun h=>by cases h⟩
         ·
          replace hcz:=hcz (by omega);clear hc3 hn0 hn1;apply aJ 31 [2,1,0] m;simp only[↓aD,ak];refine⟨by omega,?_⟩;refine aB (aF cT aA O O (by decide) (by decide) O) ?_;simp only[zz];refine aR O ((hB0.ext m.ext).lies aH aA O O) ?_;simp only[zz,zy,au,aa,ag,ad];apply kD 28 [0,0,0,0,4,1,0] m;simp only[↓aD,eS,aS,gE,cY,gI,iX,tE,aa];intro g4;refine⟨by omega,?_⟩;intro u m;refine aB (jU O O) ?_;apply aL 6 [0] m;simp only[↓aD];refine aB (uK O O) (aB (wW O O O) (aB (jA lH jE O (Ay Iw.h)) ?_));simp only[zz];refine dM m O O (oO (X:=(d.x).natAbs) _ (by have:=(Iw.h:sP d.x).natAbs;omega)) ?_;rintro v u m ⟨n,rfl,hn0,hn1,hdx⟩;apply aL 2 [0,0] m;simp only[↓aD];refine bG O ?_ ?_<;>intro hc3
          ·
           apply aJ 5 [] m;simp only[↓aD];exact aT rfl rfl ⟨_,rfl,m.ext,false,rfl,fun h=>by cases h⟩
          ·
           replace hdx:=hdx (by omega);clear hc3 hn0 hn1;apply aJ 18 [1,0] m;simp only[↓aD,ak];refine⟨by omega,?_⟩;refine aB (jV O O) ?_;apply aL 6 [0] m;simp only[↓aD];refine aB (uK O O) (aB (wW O O O) (aB (jA lH jE O (Ay Iw.h)) ?_));simp only[zz];refine dM m O O (oO (X:=(d.y).natAbs) _ (by have:=(Iw.h:sP d.y).natAbs;omega)) ?_;rintro v u m ⟨n,rfl,hn0,hn1,hdy⟩;apply aL 2 [0,0] m;simp only[↓aD];refine bG O ?_ ?_<;>intro hc3
           ·
            apply aJ 5 [] m;simp only[↓aD];exact aT rfl rfl ⟨_,rfl,m.ext,false,rfl,fun h=>by cases h⟩
           ·
            replace hdy:=hdy (by omega);clear hc3 hn0 hn1;apply aJ 18 [1,0] m;simp only[↓aD,ak];refine⟨by omega,?_⟩;refine aB (jW O O) ?_;apply aL 6 [0] m;simp only[↓aD];refine aB (uK O O) (aB (wW O O O) (aB (jA lH jE O (Ay Iw.h)) ?_));simp only[zz];refine dM m O O (oO (X:=(d.z).natAbs) _ (by have:=(Iw.h:sP d.z).natAbs;omega)) ?_;rintro v u m ⟨n,rfl,hn0,hn1,hdz⟩;apply aL 2 [0,0] m;simp only[↓aD];refine bG O ?_ ?_<;>intro hc3
            ·
             apply aJ 5 [] m;simp only[↓aD];exact aT rfl rfl ⟨_,rfl,m.ext,false,rfl,fun h=>by cases h⟩
            ·
             replace hdz:=hdz (by omega);clear hc3 hn0 hn1;apply aJ 32 [2,2] m;simp only[↓aD,ak];refine⟨by omega,?_⟩;exact aT O O ⟨_,O,m.ext,true,O,fun _=>⟨⟨hax,hay,haz⟩,⟨hbx,hby,hbz⟩,⟨hcx,hcy,hcz⟩,⟨hdx,hdy,hdz⟩⟩⟩
theorem rO{b:P3}[I3 a][I3 b][I3 c][I3 d]:dT prog 238 [pt a,pt b,pt c,pt d] (sg ((b.sub a).cross (d.sub c))):=by
 intro w;refine⟨bK func238 (by kernel_rfl),?_⟩;have m:=Mem.refl w
 go_enter func238,ntmps238
 apply jP 19 [5,4,3,2] m;simp only[↓aD,xO,aS];intro g1 g2 g3 g4 g5 g6 u m;refine go (Ei O O O O ?_);intro u g7 e_ h_ k_;replace m:=m.newB e_ h_ k_;simp only[zz];refine dM m O O (Yj _ (m.b 0 O)) ?_;rintro v u m ⟨bo,rfl,hsm⟩;apply aL 1 [0] m;simp only[↓aD];refine gF O ?_ ?_<;>intro hc1
 ·
  obtain⟨_,_,_,_⟩:=hsm hc1;apply aJ 2 [0] m;simp only[↓aD];refine mq m aC (by kernel_rfl) (ql O (fun u m=>((m.b 6 O).full aH aA)) ?_);simp only[zz];refine ql O (fun u m=>((m.b 5 O).full aH aA)) ?_;simp only[zz];refine eX O O qL ?_;simp only[zz];refine ql O (fun u m=>((m.b 4 O).full aH aA)) ?_;simp only[zz];refine ql O (fun u m=>((m.b 3 O).full aH aA)) ?_;simp only[zz];refine eX O O qL ?_;simp only[zz];refine eX O O (Gd inferInstance inferInstance) (aG aI (bC ?_));intro u m;apply aW 15 [4,1,0] m;simp only[↓aD];refine⟨by omega,?_⟩;refine aB (Vi O O) ?_;apply aL 6 [0] m;simp only[↓aD];refine nV m O O aaI 21 [1,1,0] ?_;simp only[↓aD,eW,cY,ad,ag,aa,ak];refine⟨by omega,?_⟩;intro u m;refine aB (Vj O O) ?_;apply aL 6 [0] m;simp only[↓aD];refine nV m O O aaI 21 [1,1,0] ?_;simp only[↓aD,eW,cY,ad,ag,aa,ak];refine⟨by omega,?_⟩;intro u m;refine aB (Vk O O) ?_;apply aL 6 [0] m;simp only[↓aD];refine nV m O O aaI 22 [1,2,1,2] ?_;simp only[↓aD,eW,cY,vB,ad,ag,aa,ak];refine⟨by omega,?_⟩;intro u m;exact aT O ⟨_,O,((m.b 2 O).full uR jC)⟩ ⟨_,O,m.ext,O⟩
 ·
  apply aJ 3 [0] m;simp only[↓aD];refine mq m aC (by kernel_rfl) (ql O (fun u m=>((m.b 6 O).full aH aA)) ?_);simp only[zz];refine ql O (fun u m=>((m.b 5 O).full aH aA)) ?_;simp only[zz];refine eX O O nJ ?_;simp only[zz];refine ql O (fun u m=>((m.b 4 O).full aH aA)) ?_;simp only[zz];refine ql O (fun u m=>((m.b 3 O).full aH aA)) ?_;simp only[zz];refine eX O O nJ ?_;simp only[zz];refine eX O O (Ah Bv.of Bv.of) (aG aI (bC ?_));intro u m;apply aW 15 [4,1,0] m;simp only[↓aD];refine⟨by omega,?_⟩;refine aB (Vc O O) ?_;apply kD 7 [0,0,0] m;simp only[↓aD,nF,fD,aa];intro g8 u m;refine nV m O O (Ms Bw.up) 21 [2,1,0] ?_;simp only[↓aD,eW,cY,ad,ag,aa,ak];refine⟨by omega,?_⟩;intro u m;refine aB (Vd O O) ?_;apply kD 7 [0,0,0] m;simp only[↓aD,nF,fD,aa];intro g9 u m;refine nV m O O (Ms Bw.up) 21 [3,1,0] ?_;simp only[↓aD,eW,cY,ad,ag,aa,ak];refine⟨by omega,?_⟩;intro u m;refine aB (Ve O O) ?_;apply kD 7 [0,0,0] m;simp only[↓aD,nF,fD,aa];intro g10 u m;refine nV m O O (Ms Bw.up) 22 [4,2,4,5] ?_;simp only[↓aD,eW,cY,vB,ad,ag,aa,ak];refine⟨by omega,?_⟩;intro u m;exact aT O ⟨_,O,((m.b 5 O).full uR jC)⟩ ⟨_,O,m.ext,O⟩
theorem aaJ[IT t]:dT prog 171 [tr t] (.bool (decide (bA t.normal.x=0∧bA t.normal.y=0∧bA t.normal.z=0))):=by
 intro w;refine⟨bK func171 (by kernel_rfl),?_⟩;have m:=Mem.refl w
 go_enter func171,ntmps171
 apply jP 15 [0,0,0,0,0] m;simp only[↓aD,bT,aS,ad,ag,aa];intro g1;refine⟨by omega,?_⟩;intro u m;refine nV m O O (rO (a:=t.a) (b:=t.b) (c:=t.a) (d:=t.c)) 1 [0] ?_;simp only[↓aD,tE,aa];intro u m;refine aB (Eh O O) ?_;apply aL 3 [] m;simp only[↓aD];exact aT O O ⟨_,O,m.ext,O⟩
theorem akR{r:T3}[IT t][IT r]:dT prog 172 [tr t,tr r] (.int .i64 (agX t r)):=by
 intro w;refine⟨bK func172 (by kernel_rfl),?_⟩;have m:=Mem.refl w
 go_enter func172,ntmps172
 apply jP 7 [0] m;simp only[↓aD];intro g1 g2 u m;refine mq m aC (by kernel_rfl) (ql O (fun u m=>((m.b 1 O).full cF aP)) ?_);simp only[zz];refine eX O O Ts ?_;simp only[zz];refine ql O (fun u m=>((m.b 0 O).full cF aP)) ?_;simp only[zz];refine eX O O Ts ?_;simp only[zz];refine eX O O (Og Bv.of Bv.of) ?_;simp only[zz];refine eX O O (Ms Bw.up) (aG aO (bC ?_));intro u m;apply aW 1 [] m;simp only[↓aD];exact aT O O ⟨_,O,m.ext,O⟩
theorem aew{r:T3}{k:Nat}(hk:k<3)(h:En t k<Em r k):oM t r=false:=by
 unfold oM abU
 match k,hk with
 | 0,_=>simp[h]
 | 1,_=>simp[h]
 | 2,_=>simp[h]
theorem aex{r:T3}{k:Nat}(hk:k<3)(h:En r k<Em t k):oM t r=false:=by
 unfold oM abU
 match k,hk with
 | 0,_=>simp[h]
 | 1,_=>simp[h]
 | 2,_=>simp[h]
theorem ary{r:T3}(h0:¬En t 0<Em r 0)(h1:¬En t 1<Em r 1)(h2:¬En t 2<Em r 2)(g0:¬En r 0<Em t 0)(g1:¬En r 1<Em t 1)(g2:¬En r 2<Em t 2):oM t r=true:=by
 unfold oM abU;simp[h0,h1,h2,g0,g1,g2]
theorem arz{r:T3}:dT prog 175 [.agg #[.int .i64 (Em t 0),.int .i64 (Em t 1),.int .i64 (Em t 2),.int .i64 (En t 0),.int .i64 (En t 1),.int .i64 (En t 2)],.agg #[.int .i64 (Em r 0),.int .i64 (Em r 1),.int .i64 (Em r 2),.int .i64 (En r 0),.int .i64 (En r 1),.int .i64 (En r 2)]] (.bool (oM t r)):=by
 intro w;refine⟨bK func175 (by kernel_rfl),?_⟩;have m:=Mem.refl w
 go_enter func175,ntmps175
 apply jP 29 [4,1] m;simp only[↓aD];intro g1 g2;refine⟨by omega,?_⟩;intro u m;by_cases h0:En t 0<Em r 0
 ·
  refine gc (mq m aC (by kernel_rfl) ?_);refine eC 8 [1,0] ?_;simp only[↓aD,kF,eW,cY,kE,aa,ad,ag];refine⟨by omega,?_⟩;refine aG (qW O O h0) (aG aI (Hn O ?_));refine eC 9 [] ?_;simp only[↓aD];refine bC ?_;intro u m;apply aW 6 [] m;simp only[↓aD];refine aT O O ?_;try simp only[zD,zE]
  exact⟨_,O,m.ext,by rw[aew (k:=0) (by decide) h0]⟩
 ·
  refine gc (mq m aC (by kernel_rfl) ?_);refine eC 8 [1,0] ?_;simp only[↓aD,kF,eW,cY,kE,aa,ad,ag];refine⟨by omega,?_⟩;refine aG (Gf O O h0) (aG aI (cZ O (aG aI ?_)));refine eC 9 [0,1,0] ?_;simp only[↓aD,kF,eW,cY,kE,aa,ad,ag];refine⟨by omega,?_⟩;refine bC ?_;intro u m;refine gc (bG O (fun hc2=>?_) (fun hc2=>?_))
  ·
   have q0:=hc2;apply aJ 5 [] m;simp only[↓aD];refine aT O O ?_;try simp only[zD,zE]
   exact⟨_,O,m.ext,by rw[aex (k:=0) (by decide) q0]⟩
  ·
   have q0:=hc2;apply aJ 22 [1] m;simp only[↓aD,ak];refine⟨by omega,?_⟩;by_cases h1:En t 1<Em r 1
   ·
    refine gc (mq m aC (by kernel_rfl) ?_);refine eC 8 [1,0] ?_;simp only[↓aD,kF,eW,cY,kE,aa,ad,ag];refine⟨by omega,?_⟩;refine aG (qW O O h1) (aG aI (Hn O ?_));refine eC 9 [] ?_;simp only[↓aD];refine bC ?_;intro u m;apply aW 6 [] m;simp only[↓aD];refine aT O O ?_;try simp only[zD,zE]
    exact⟨_,O,m.ext,by rw[aew (k:=1) (by decide) h1]⟩
   ·
    refine gc (mq m aC (by kernel_rfl) ?_);refine eC 8 [1,0] ?_;simp only[↓aD,kF,eW,cY,kE,aa,ad,ag];refine⟨by omega,?_⟩;refine aG (Gf O O h1) (aG aI (cZ O (aG aI ?_)));refine eC 9 [0,1,0] ?_;simp only[↓aD,kF,eW,cY,kE,aa,ad,ag];refine⟨by omega,?_⟩;refine bC ?_;intro u m;refine gc (bG O (fun hc2=>?_) (fun hc2=>?_))
    ·
     have q1:=hc2;apply aJ 5 [] m;simp only[↓aD];refine aT O O ?_;try simp only[zD,zE]
     exact⟨_,O,m.ext,by rw[aex (k:=1) (by decide) q1]⟩
    ·
     have q1:=hc2;apply aJ 22 [1] m;simp only[↓aD,ak];refine⟨by omega,?_⟩;by_cases h2:En t 2<Em r 2
     ·
      refine gc (mq m aC (by kernel_rfl) ?_);refine eC 8 [1,0] ?_;simp only[↓aD,kF,eW,cY,kE,aa,ad,ag];refine⟨by omega,?_⟩;refine aG (qW O O h2) (aG aI (Hn O ?_));refine eC 9 [] ?_;simp only[↓aD];refine bC ?_;intro u m;apply aW 6 [] m;simp only[↓aD];refine aT O O ?_;try simp only[zD,zE]
      exact⟨_,O,m.ext,by rw[aew (k:=2) (by decide) h2]⟩
     ·
      refine gc (mq m aC (by kernel_rfl) ?_);refine eC 8 [1,0] ?_;simp only[↓aD,kF,eW,cY,kE,aa,ad,ag];refine⟨by omega,?_⟩;refine aG (Gf O O h2) (aG aI (cZ O (aG aI ?_)));refine eC 9 [0,1,0] ?_;simp only[↓aD,kF,eW,cY,kE,aa,ad,ag];refine⟨by omega,?_⟩;refine bC ?_;intro u m;refine gc (bG O (fun hc2=>?_) (fun hc2=>?_))
      ·
       have q2:=hc2;apply aJ 5 [] m;simp only[↓aD];refine aT O O ?_;try simp only[zD,zE]
       exact⟨_,O,m.ext,by rw[aex (k:=2) (by decide) q2]⟩
      ·
       have q2:=hc2;apply aJ 19 [2] m;simp only[↓aD,ak];refine⟨by omega,?_⟩;refine aT O O ?_;try simp only[zD,zE]
       exact⟨_,O,m.ext,by rw[ary h0 h1 h2 q0 q1 q2]⟩
end Go.Proofs.YtfekpcimgncioaaGreatDoor
namespace Go.Lith
open Go.RowKit
section
variable {P:Program} {l:List ai} {T ty:az} {x y:bw} {k:IntKind} {m:Int}
theorem akS{n c:Nat}{E:az}{a:Addr}(hu:P.underlying T=some (.array n E))(hc:dO P E c)(hx:ev l x=.pointer (some a)) :
 gN P l (.slice T x none none none) ty (.slice (some a) n n):=fun w o ho _=>by
 have e:(if n=0 then a else a.add (0*c))=a:=by
  split
  · rfl
  · simp[Addr.add]
 simp[execOp,ho,cD,hx,Instr.sliceAt,Instr.sliceBounds,Instr.sliceBound,asIntOf,cd hu,eG hc,Instr.sureAddr,e];intro _;simp[Addr.add]
theorem aey{n c q:Nat}{E:az}{a a':Addr}(hu:P.underlying T=some (.array n E))(hc:dO P E c)(hx:ev l x=.pointer (some a))(hy:ev l y=.int k m)(hq:m.toNat=q)(h0:0≤m)(h1:m≤n)(hA:(if n=q then a else a.add (q*c))=a') :
 gN P l (.slice T x (some y) none none) ty (.slice (some a') (n-q) (n-q)):=fun w o ho _=>by
 subst hq;subst hA;simp[execOp,ho,cD,hx,hy,Instr.sliceAt,Instr.sliceBounds,Instr.sliceBound,asIntOf,cd hu,eG hc,Instr.sureAddr,h0,h1]
theorem ahq{n len cap:Nat}{E:az}{A:Option Addr}(hu:P.underlying T=some (.array n E))(hx:ev l x=.slice A len cap)(h:n≤len) :
 gN P l (.sliceToArrayPointer T x) ty (.pointer A):=fun w o ho _=>by
 have:¬len<n:=by omega
 simp[execOp,ho,cD,hx,Instr.arrayAt,cd hu,this]
end
end Go.Lith
namespace Go.Proofs.YtfekpcimgncioaaGreatDoor
open Go.Proofs.Tryz
open Go.RowKit Go.Lith
set_option maxRecDepth 100000
attribute [local irreducible] ar cw gG bQ cO Code.wp
attribute [local congr] rC gX gY gZ iA iB lI iC iD iE iF iG iH iJ iK iL iM iN fJ fK iO iP iR iS iT lK dW dX cX dV iQ lJ fN fO fP iU iV lM
theorem Mt(m n:Int):(if n<m then n else m)=min m n:=by omega
theorem Mu(m n:Int):(if m<n then n else m)=max m n:=by omega
theorem acp{t:T3}:dT prog 173 [tr t] (.agg #[.int .i64 (Em t 0),.int .i64 (Em t 1),.int .i64 (Em t 2),.int .i64 (En t 0),.int .i64 (En t 1),.int .i64 (En t 2)]):=by
 intro w;refine⟨bK func173 (by kernel_rfl),?_⟩;have m:=Mem.refl w
 go_enter func173,ntmps173
 apply jP 14 [1,1] m;simp only[↓aD,ad9,bT,gE,cY,gI,ad,ag,aa];intro g1 g2;refine⟨by omega,?_⟩;intro u m;apply aW 13 [1,1,1,1] m;simp only[↓aD,iX,cY,tE,bT,gE,gI,aa,ad,ag];refine⟨by omega,?_⟩;apply Rp 7 [0,0] m;simp only[↓aD,aqy,ad9,ad8,aa];intro g3 u m;refine aB (aey cM aA O O O (by decide) (by decide) O) ?_;apply kD 27 [3,1,2,0,0] m;simp only[↓aD,reduceIte,kZ,ao7,aS,eS,gE,cY,gI,Nat.reduceEqDiff,ag,aa,ad];intro g4;refine⟨by omega,?_⟩;intro u m;apply aW 21 [0,0,4,1,0] m;simp only[↓aD,cY,iX,tE,aa];refine⟨by omega,?_⟩;refine aB (jU O O) ?_;apply aL 3 [0] m;simp only[↓aD];refine jL m 1 [] [46,47,48,49,50,51,52,53,54,55,56,57,58,59,60,61,62,63] (fun vs i=>vs=[]∧i=bI g3 [.int .i64 (min t.a.x t.b.x),.int .i64 t.a.y,.int .i64 t.a.z,.int .i64 (max t.a.x t.b.x),.int .i64 t.a.y,.int .i64 t.a.z] 222) ?_ ?_
 · intro K1 hK1
   refine zvt [true,false,true,true] [[],[],[],[],[],[1],[],[],[],[],[],[1],[],[],[],[],[1],[],[],[1]] (.take 0 (.take 1 (.take 2 (.take 3 (.take 4 (.take 6 (.take 8 (.take 9 (.take 10 (.take 12 (.take 14 (.take 17 (.two 5 (.take 7 (.one 11 (.take 13 (.take 15 (.one 16 (.take 18 (.one 19 .nil))))))) 11 (.take 13 (.one 5 (.take 7 (.take 15 (.one 16 (.take 18 (.one 19 .nil)))))))))))))))))))) m aC (by kernel_rfl) (bU (fun _ _ _ _ _ h=>h)) ?_;simp only[↓aD,↓zzu,kE,eW,kF,cY,Mt,Mu,aa,ad,ag];refine⟨by omega,?_⟩;intro u m;exact gk (hK1 _ _ _ (by kernel_rfl) m ⟨O,(by first | rfl | trivial)⟩)
 · intro vs i wr m hI u
   obtain⟨rfl,rfl⟩:=hI;simp only[zF,zG] at m;simp only[zu,zF,zG];apply aW 18 [1,0] m;simp only[↓aD,ak];refine⟨by omega,?_⟩;refine aB (jV O O) ?_;apply aL 3 [0] m;simp only[↓aD];refine jL m 1 [] [46,47,48,49,50,51,52,53,54,55,56,57,58,59,60,61,62,63] (fun vs i=>vs=[]∧i=bI g3 [.int .i64 (min t.a.x t.b.x),.int .i64 (min t.a.y t.b.y),.int .i64 t.a.z,.int .i64 (max t.a.x t.b.x),.int .i64 (max t.a.y t.b.y),.int .i64 t.a.z] 222) ?_ ?_
   · intro K2 hK2
     refine zvt [true,false,true,true] [[],[],[],[],[],[1],[],[],[],[],[],[1],[],[],[],[],[1],[],[],[1]] (.take 0 (.take 1 (.take 2 (.take 3 (.take 4 (.take 6 (.take 8 (.take 9 (.take 10 (.take 12 (.take 14 (.take 17 (.two 5 (.take 7 (.one 11 (.take 13 (.take 15 (.one 16 (.take 18 (.one 19 .nil))))))) 11 (.take 13 (.one 5 (.take 7 (.take 15 (.one 16 (.take 18 (.one 19 .nil)))))))))))))))))))) m aC (by kernel_rfl) (bU (fun _ _ _ _ _ h=>h)) ?_;simp only[↓aD,↓zzu,kE,eW,kF,cY,Mt,Mu,aa,ad,ag];refine⟨by omega,?_⟩;intro u m;exact gk (hK2 _ _ _ (by kernel_rfl) m ⟨O,(by first | rfl | trivial)⟩)
   · intro vs i wr m hI u
     obtain⟨rfl,rfl⟩:=hI;simp only[zF,zG] at m;simp only[zu,zF,zG];apply aW 18 [1,0] m;simp only[↓aD,ak];refine⟨by omega,?_⟩;refine aB (jW O O) ?_;apply aL 3 [0] m;simp only[↓aD];refine jL m 1 [] [46,47,48,49,50,51,52,53,54,55,56,57,58,59,60,61,62,63] (fun vs i=>vs=[]∧i=bI g3 [.int .i64 (min t.a.x t.b.x),.int .i64 (min t.a.y t.b.y),.int .i64 (min t.a.z t.b.z),.int .i64 (max t.a.x t.b.x),.int .i64 (max t.a.y t.b.y),.int .i64 (max t.a.z t.b.z)] 222) ?_ ?_
     · intro K3 hK3
       refine zvt [true,false,true,true] [[],[],[],[],[],[1],[],[],[],[],[],[1],[],[],[],[],[1],[],[],[1]] (.take 0 (.take 1 (.take 2 (.take 3 (.take 4 (.take 6 (.take 8 (.take 9 (.take 10 (.take 12 (.take 14 (.take 17 (.two 5 (.take 7 (.one 11 (.take 13 (.take 15 (.one 16 (.take 18 (.one 19 .nil))))))) 11 (.take 13 (.one 5 (.take 7 (.take 15 (.one 16 (.take 18 (.one 19 .nil)))))))))))))))))))) m aC (by kernel_rfl) (bU (fun _ _ _ _ _ h=>h)) ?_;simp only[↓aD,↓zzu,kE,eW,kF,cY,Mt,Mu,aa,ad,ag];refine⟨by omega,?_⟩;intro u m;exact gk (hK3 _ _ _ (by kernel_rfl) m ⟨O,(by first | rfl | trivial)⟩)
     · intro vs i wr m hI u
       obtain⟨rfl,rfl⟩:=hI;simp only[zF,zG] at m;simp only[zu,zF,zG];apply Rp 34 [2,1,3,0] m;simp only[↓aD,ao7,aS,eS,ak,ad,ag,aa];intro g5;refine⟨by omega,?_⟩;intro u m;apply aW 25 [0,0,0,4,1] m;simp only[↓aD,gE,cY,gI,iX,tE,aa];refine⟨by omega,?_⟩;apply aW 2 [0] m;simp only[↓aD];refine aB (jU O O) ?_;apply aL 3 [0] m;simp only[↓aD];refine jL m 2 [] [46,47,48,49,50,51,52,53,54,55,56,57,58,59,60,61,62,63] (fun vs i=>vs=[]∧i=bI g3 [.int .i64 (min (min t.a.x t.b.x) t.c.x),.int .i64 (min t.a.y t.b.y),.int .i64 (min t.a.z t.b.z),.int .i64 (max (max t.a.x t.b.x) t.c.x),.int .i64 (max t.a.y t.b.y),.int .i64 (max t.a.z t.b.z)] 222) ?_ ?_
       · intro K4 hK4
         refine zvt [true,true,false,true,true] [[],[],[],[],[],[2],[],[],[],[],[],[2],[],[],[],[],[2],[],[],[2]] (.take 0 (.take 1 (.take 2 (.take 3 (.take 4 (.take 6 (.take 8 (.take 9 (.take 10 (.take 12 (.take 14 (.take 17 (.two 5 (.take 7 (.one 11 (.take 13 (.take 15 (.one 16 (.take 18 (.one 19 .nil))))))) 11 (.take 13 (.one 5 (.take 7 (.take 15 (.one 16 (.take 18 (.one 19 .nil)))))))))))))))))))) m aC (by kernel_rfl) (bU (fun _ _ _ _ _ h=>h)) ?_;simp only[↓aD,↓zzu,kE,eW,kF,cY,Mt,Mu,aa,ad,ag];refine⟨by omega,?_⟩;intro u m;exact gk (hK4 _ _ _ (by kernel_rfl) m ⟨O,(by first | rfl | trivial)⟩)
       · intro vs i wr m hI u
         obtain⟨rfl,rfl⟩:=hI;simp only[zF,zG] at m;simp only[zu,zF,zG];apply aW 18 [1,0] m;simp only[↓aD,ak];refine⟨by omega,?_⟩;refine aB (jV O O) ?_;apply aL 3 [0] m;simp only[↓aD];refine jL m 2 [] [46,47,48,49,50,51,52,53,54,55,56,57,58,59,60,61,62,63] (fun vs i=>vs=[]∧i=bI g3 [.int .i64 (min (min t.a.x t.b.x) t.c.x),.int .i64 (min (min t.a.y t.b.y) t.c.y),.int .i64 (min t.a.z t.b.z),.int .i64 (max (max t.a.x t.b.x) t.c.x),.int .i64 (max (max t.a.y t.b.y) t.c.y),.int .i64 (max t.a.z t.b.z)] 222) ?_ ?_
         · intro K5 hK5
           refine zvt [true,true,false,true,true] [[],[],[],[],[],[2],[],[],[],[],[],[2],[],[],[],[],[2],[],[],[2]] (.take 0 (.take 1 (.take 2 (.take 3 (.take 4 (.take 6 (.take 8 (.take 9 (.take 10 (.take 12 (.take 14 (.take 17 (.two 5 (.take 7 (.one 11 (.take 13 (.take 15 (.one 16 (.take 18 (.one 19 .nil))))))) 11 (.take 13 (.one 5 (.take 7 (.take 15 (.one 16 (.take 18 (.one 19 .nil)))))))))))))))))))) m aC (by kernel_rfl) (bU (fun _ _ _ _ _ h=>h)) ?_;simp only[↓aD,↓zzu,kE,eW,kF,cY,Mt,Mu,aa,ad,ag];refine⟨by omega,?_⟩;intro u m;exact gk (hK5 _ _ _ (by kernel_rfl) m ⟨O,(by first | rfl | trivial)⟩)
         · intro vs i wr m hI u
           obtain⟨rfl,rfl⟩:=hI;simp only[zF,zG] at m;simp only[zu,zF,zG];apply aW 18 [1,0] m;simp only[↓aD,ak];refine⟨by omega,?_⟩;refine aB (jW O O) ?_;apply aL 3 [0] m;simp only[↓aD];refine jL m 2 [] [46,47,48,49,50,51,52,53,54,55,56,57,58,59,60,61,62,63] (fun vs i=>vs=[]∧i=bI g3 [.int .i64 (min (min t.a.x t.b.x) t.c.x),.int .i64 (min (min t.a.y t.b.y) t.c.y),.int .i64 (min (min t.a.z t.b.z) t.c.z),.int .i64 (max (max t.a.x t.b.x) t.c.x),.int .i64 (max (max t.a.y t.b.y) t.c.y),.int .i64 (max (max t.a.z t.b.z) t.c.z)] 222) ?_ ?_
           · intro K6 hK6
             refine zvt [true,true,false,true,true] [[],[],[],[],[],[2],[],[],[],[],[],[2],[],[],[],[],[2],[],[],[2]] (.take 0 (.take 1 (.take 2 (.take 3 (.take 4 (.take 6 (.take 8 (.take 9 (.take 10 (.take 12 (.take 14 (.take 17 (.two 5 (.take 7 (.one 11 (.take 13 (.take 15 (.one 16 (.take 18 (.one 19 .nil))))))) 11 (.take 13 (.one 5 (.take 7 (.take 15 (.one 16 (.take 18 (.one 19 .nil)))))))))))))))))))) m aC (by kernel_rfl) (bU (fun _ _ _ _ _ h=>h)) ?_;simp only[↓aD,↓zzu,kE,eW,kF,cY,Mt,Mu,aa,ad,ag];refine⟨by omega,?_⟩;intro u m;exact gk (hK6 _ _ _ (by kernel_rfl) m ⟨O,(by first | rfl | trivial)⟩)
           · intro vs i wr m hI u
             obtain⟨rfl,rfl⟩:=hI;simp only[zF,zG] at m;simp only[zu,zF,zG];apply Rp 32 [2,2,2,3] m;simp only[↓aD,ad8,ak,aa];refine⟨by omega,?_⟩;intro u m;exact aT O ⟨_,O,((m.b 3 O).full aff Wn)⟩ ⟨_,O,m.ext,O⟩
end Go.Proofs.YtfekpcimgncioaaGreatDoor
namespace Go.Lith
open Go.RowKit
section
variable {P:Program} {ops:Array Oper} {Q:Exit→Act→aj→Prop} {rest:List Oper} {d j:Nat} {ty:az} {pos:String} {after:Array Edge} {v:ai} {b:Bool} {ds:List Deferred} {l:List ai} {w w0:aj} {is:List It}
variable {f:FuncId} {fo:bw} {xs:Array bw} {args:List ai} {first cap:Array ai} {a0:Array az}
end
section
variable {P:Program} {ops:Array Oper} {Q:Act→Prop} {rest:List Oper} {d j:Nat} {ty:az} {pos:String} {after:Array Edge} {v:ai} {b:Bool} {ds:List Deferred} {l:List ai} {w0:aj} {is:List It}
variable {f:FuncId} {fo:bw} {xs:Array bw} {args:List ai} {first cap:Array ai} {a0:Array az}
end
/-! ### Rows of edges and moves -/
end Go.Lith
namespace Go.Proofs.YtfekpcimgncioaaGreatDoor
open Go.Proofs.Tryz
open Go.RowKit Go.Lith
set_option maxRecDepth 100000
attribute [local irreducible] ar cw gG bQ cO Code.wp
attribute [local congr] rC gX gY gZ iA iB lI iC iD iE iF iG iH iJ iK iL iM iN fJ fK iO iP iR iS iT lK dW dX cX dV iQ lJ fN fO fP iU iV lM
variable{g90 g91 ga gf gx gy N cap cx cf nm cm no co nr cr cy:Nat}{A Am Ao Ar:Option Addr}{q k:P3}{t:T3}{os ms:List T3}
theorem ahr{cy:Nat}{ex ey ef:Array c_}{X Y F:List (P3 × Bool)}{ts:List T3}{p:P3}(w:aj)(hB91:fR w g91 [.pointer (some ⟨g90,0,none⟩),.int .i64 p.x,.int .i64 p.y,.int .i64 p.z,.int .i64 q.x,.int .i64 q.y,.int .i64 q.z,.map (some gx),.map (some gy),.slice Am nm cm,.slice Ao no co,.slice Ar nr cr] 218)(hB90:fR w g90 [.slice A N cap,.map (some ga),.map (some gf)] 109)(hMx:jF w gx ex cx)(hDx:bO pt bn X ex cx)(hMf:jF w gf ef cf)(hDf:bO pt bn F ef cf):dQ prog 100 [.pointer (some ⟨g91,0,none⟩)] w (fun v _=>v=.bool ((cG X q).getD false && !(cG F p).getD false)):=by
 refine⟨bK func100 (by kernel_rfl),?_⟩;have m:=Mem.refl w
 go_enter func100,ntmps100
 apply fF 5 [0] m;simp only[↓aD];refine mq m aC (by kernel_rfl) (eC 3 [] ?_);simp only[↓aD,Sz,aa];refine ql O (fun u m=>((hB91.ext m.ext).lies1 tP O)) ?_;simp only[zz];refine eC 3 [] ?_;simp only[↓aD,Sy,aa];refine ql O (fun u m=>((hB91.ext m.ext).lies aH aA O O)) ?_;simp only[zz,zy,au,aa,ag,ad];refine kN (fun u m=>eH (ek:=pt) (en:=bn) (k:=q) (v0:=false) nY oU gD O O (hMx.ext m.ext) hDx) ?_;simp only[zz];refine aG aI (dU O (fun hb=>aI) (dU O (fun hb=>dB (aY hb O)) (dU O (fun hb=>aV (c:=0) nZ O Rj (aY hb O) O) ?_)));simp only[zz];refine eR O (fun hb u m=>aZ (aY hb O) ((hB91.ext m.ext).lies1 Zq O)) (dU O (fun hb=>dB (aY hb O)) (dU O (fun hb=>aV (c:=0) underlying109 O Ee (aY hb O) O) ?_));simp only[zz];refine eR O (fun hb u m=>aZ (aY hb O) ((hB90.ext m.ext).lies1 tP O)) (dU O (fun hb=>aI) (dU O (fun hb=>dB (aY hb O)) (dU O (fun hb=>aV (c:=2) nZ O aA (aY hb O) O) ?_)));simp only[zz];refine eR O (fun hb u m=>aZ (aY hb O) ((hB91.ext m.ext).lies aH aA O O)) ?_;simp only[zz,zy,au,aa,ag,ad];refine eR O (fun hb u m=>eH (ek:=pt) (en:=bn) (k:=p) (v0:=false) nY oU gD (aY hb O) (aY hb O) (hMf.ext m.ext) hDf) ?_;simp only[zz];refine dU O (fun hb=>rT (aY hb O)) (aG (cC O O O) (aG aO (bC ?_)));intro u m;apply aW 1 [] m;simp only[↓aD];exact aT O O ⟨_,O,m.ext,O⟩
def Hc(Y:List (P3 × Bool))(dn:List (P3 × Bool)):Nat:=((dn.map (·.1)).filter fun k=>(cG Y k).getD false).length
theorem arA{Y dn:List (P3 × Bool)}{b:Bool}(h:(cG Y k).getD false=true):Hc Y (dn++[(k,b)])=Hc Y dn+1:=by
 unfold Hc;rw[ct,il,aw];simp[h]
theorem arB{Y dn:List (P3 × Bool)}{b:Bool}(h:(cG Y k).getD false=false):Hc Y (dn++[(k,b)])=Hc Y dn:=by
 unfold Hc;rw[ct,il,aw];simp[h]
theorem afQ(Y dn:List (P3 × Bool)):Hc Y dn≤dn.length:=by
 unfold Hc;have:=List.length_filter_le (fun k=>(cG Y k).getD false) (dn.map (·.1));rwa [bx] at this
theorem ahs{Y dn D:List (P3 × Bool)}(h:dn.Perm D):Hc Y dn=Hc Y D:=by
 unfold Hc;exact ((h.map Prod.fst).filter _).length_eq
theorem aht{cf:Nat}{ex ey ef:Array c_}{X Y F:List (P3 × Bool)}{ts:List T3}{p:P3}(w:aj)(hB91:fR w g91 [.pointer (some ⟨g90,0,none⟩),.int .i64 p.x,.int .i64 p.y,.int .i64 p.z,.int .i64 q.x,.int .i64 q.y,.int .i64 q.z,.map (some gx),.map (some gy),.slice Am nm cm,.slice Ao no co,.slice Ar nr cr] 218)(hB90:fR w g90 [.slice A N cap,.map (some ga),.map (some gf)] 109)(hMx:jF w gx ex cx)(hDx:bO pt bn X ex cx)(hMy:jF w gy ey cy)(hDy:bO pt bn Y ey cy)(hXl:X.length≤100000000):dQ prog 101 [.pointer (some ⟨g91,0,none⟩)] w (fun v _=>v=.bool (decide (Hc Y X=2))):=by
 refine⟨bK func101 (by kernel_rfl),?_⟩;have m:=Mem.refl w
 go_enter func101,ntmps101
 apply fF 14 [0] m;simp only[↓aD,Sz,aa];refine aR O ((hB91.ext m.ext).lies1 tP O) ?_;simp only[zz];refine wM m nY O (hMx.ext m.ext) ?_;intro r1 u m;apply aL 2 [0] m;simp only[↓aD];refine bX [3] [4,10,11,12,13,14,15,16,17,18,19,20,21] (fun n vs wl=>∃(dn rs:List (P3 × Bool)) (sn:Array Nat) (cc:Nat),vs=[.int .i64 (cc:Int)]∧Mem w wl [iI r1 gx cx sn]∧(oK pt bn X ex sn dn rs)∧(cc=Hc Y dn)∧(n=rs.length)) ?_ ?_
 ·
  exact⟨_,[],X,#[],0,O,m,oK.start hDx,O,O⟩
 · intro n vs wr hI u K1 hK1
   obtain⟨dn,rs,sn,cc,rfl,m,hT,hcc0,hn⟩:=hI;have hlen:=hT.len;simp only[zu,zF,zG];apply aJ 2 [0] m;simp only[↓aD];refine Nr m 0 O O (hMx.ext m.ext) hDx hT ?_;intro bb kk vv sn u m hN;simp only[zF,zG] at m;refine aB (qB O) ?_;apply aL 2 [0] m;simp only[↓aD];refine dK O ?_ ?_<;>intro hc1
   ·
    obtain⟨kp,kb,rs2,hp,hT2⟩:=Ip hc1 hN;apply aJ 4 [0] m;simp only[↓aD];refine fG (tU O (m.r 0 O) (hMx.ext m.ext) hDx hT2) ?_;simp only[zz];apply kD 5 [0,0] m;simp only[↓aD,eS,aS,aa];intro g2 u m;refine mq m aC (by kernel_rfl) (eC 3 [] ?_);simp only[↓aD,ajD,aa];refine ql O (fun u m=>((hB91.ext m.ext).lies1 tP O)) ?_;simp only[zz];refine ql O (fun u m=>((m.b 0 O).full aH aA)) ?_;simp only[zz];refine kN (fun u m=>eH (ek:=pt) (en:=bn) (k:=kp) (v0:=false) nY oU gD O O (hMy.ext m.ext) hDy) ?_;simp only[zz];refine bC ?_;intro u m;refine gc (dK O (fun hc2=>?_) (fun hc2=>?_))
    ·
     apply aJ 2 [0] m;simp only[↓aD];refine aB (fB O O (bM (by have:=afQ Y dn;omega) (by have:=afQ Y dn;omega))) ?_;apply aL 3 [0] m;simp only[↓aD];exact hK1 rs2.length _ _ (by rw[hn,hp.length_eq];exact fg _) (by kernel_rfl) ⟨dn++[(kp,kb)],rs2,_,cc+1,O,(m.sel [false,true]),hT2,by rw[arA hc2,hcc0],O⟩
    ·
     apply aJ 2 [0] m;simp only[↓aD];exact hK1 rs2.length _ _ (by rw[hn,hp.length_eq];exact fg _) (by kernel_rfl) ⟨dn++[(kp,kb)],rs2,_,cc,O,(m.sel [false,true]),hT2,by rw[arB hc2,hcc0],O⟩
   ·
    obtain rfl:=Io hc1 hN;have hcc:=ahs (Y:=Y) hT.done;apply aJ 8 [0] m;simp only[↓aD];refine aT O O ?_;try simp only[zD,zE]
    exact⟨_,O,m.ext,by rw[←hcc,←hcc0];exact congrArg bn (decide_eq_decide.2 (by omega))⟩
def ahu(F Y:List (P3 × Bool))(q k:P3):Bool:=decide (¬(k.x=q.x∧k.y=q.y∧k.z=q.z))&&(cG F k).getD false && !(cG Y k).getD false
def aaK(X Y F:List (P3 × Bool))(q:P3):Bool:=!(cG F q).getD false||(X.map Prod.fst).all fun k=>!ahu F Y q k
theorem arC{X Y F:List (P3 × Bool)}(h:(!(cG F q).getD false)=true):aaK X Y F q=true:=by unfold aaK;rw[h];rfl
theorem aoe{X Y F:List (P3 × Bool)}{b:Bool}{dn rs:List (P3 × Bool)}(h:(!(cG F q).getD false)=false)(hp:(dn++[(k,b)]++rs).Perm X)(hb:ahu F Y q k=true):aaK X Y F q=false:=by
 unfold aaK;rw[h,Bool.false_or,pp];refine⟨k,dh.2 ⟨(k,b),hp.mem_iff.1 (by simp),O⟩,by rw[hb];decide⟩
theorem akT{X Y F:List (P3 × Bool)}{dn:List (P3 × Bool)}(hp:dn.Perm X)(hb:∀x∈dn,ahu F Y q x.1=false):aaK X Y F q=true:=by
 unfold aaK;rw[Bool.or_eq_true];refine .inr (de.2 fun k hk=>?_);obtain⟨x,hx,rfl⟩:=dh.1 hk;rw[hb x (hp.mem_iff.2 hx)];rfl
theorem akU{ex ey ef:Array c_}{X Y F:List (P3 × Bool)}{ts:List T3}{p:P3}(w:aj)(hB91:fR w g91 [.pointer (some ⟨g90,0,none⟩),.int .i64 p.x,.int .i64 p.y,.int .i64 p.z,.int .i64 q.x,.int .i64 q.y,.int .i64 q.z,.map (some gx),.map (some gy),.slice Am nm cm,.slice Ao no co,.slice Ar nr cr] 218)(hB90:fR w g90 [.slice A N cap,.map (some ga),.map (some gf)] 109)(hMx:jF w gx ex cx)(hDx:bO pt bn X ex cx)(hMy:jF w gy ey cy)(hDy:bO pt bn Y ey cy)(hMf:jF w gf ef cf)(hDf:bO pt bn F ef cf):dQ prog 103 [.pointer (some ⟨g91,0,none⟩)] w (fun v _=>v=.bool (aaK X Y F q)):=by
 refine⟨bK func103 (by kernel_rfl),?_⟩;have m:=Mem.refl w
 go_enter func103,ntmps103
 apply fF 6 [0] m;simp only[↓aD];refine mq m aC (by kernel_rfl) (eC 3 [] ?_);simp only[↓aD,ajC,aa];refine ql O (fun u m=>((hB91.ext m.ext).lies1 Zq O)) ?_;simp only[zz];refine aG (dB O) (eC 1 [] ?_);simp only[↓aD,Sw,aa];refine ql O (fun u m=>((hB90.ext m.ext).lies1 tP O)) ?_;simp only[zz];refine eC 3 [] ?_;simp only[↓aD,Sy,aa];refine ql O (fun u m=>((hB91.ext m.ext).lies aH aA O O)) ?_;simp only[zz,zy,au,aa,ag,ad];refine kN (fun u m=>eH (ek:=pt) (en:=bn) (k:=q) (v0:=false) nY oU gD O O (hMf.ext m.ext) hDf) ?_;simp only[zz];refine aG (rT O) (bC ?_);intro u m;refine gc ?_;simp only[zz];refine dK O ?_ ?_<;>intro hc1
 ·
  apply aJ 5 [] m;simp only[↓aD];refine aT O O ?_;try simp only[zD,zE]
  exact⟨_,O,m.ext,by rw[arC hc1]⟩
 ·
  apply aJ 7 [0] m;simp only[↓aD,Sz,aa];refine aR O ((hB91.ext m.ext).lies1 tP O) ?_;simp only[zz];refine wM m nY O (hMx.ext m.ext) ?_;intro r1 u m;apply aL 2 [0] m;simp only[↓aD];refine bX [] [2,3,22,23,24,25,26,27,28,29,30,31,32,33,34,35,36,37,38,39,40,41,42,43,44,45,46,47,48,49,50,51] (fun n vs wl=>∃(dn rs:List (P3 × Bool)) (sn:Array Nat),vs=[]∧Mem w wl [iI r1 gx cx sn]∧(oK pt bn X ex sn dn rs)∧(∀x∈dn,ahu F Y q x.1=false)∧(n=rs.length)) ?_ ?_
  ·
   exact⟨_,[],X,#[],rfl,m,oK.start hDx,(fun x h=>(by cases h)),rfl⟩
  · intro n vs wr hI u K1 hK1
    obtain⟨dn,rs,sn,rfl,m,hT,hb0,hn⟩:=hI;simp only[zu,zF,zG];apply aJ 2 [0] m;simp only[↓aD];refine Nr m 0 O O (hMx.ext m.ext) hDx hT ?_;intro bb kk vv sn u m hN;simp only[zF,zG] at m;refine aB (qB O) ?_;apply aL 2 [0] m;simp only[↓aD];refine dK O ?_ ?_<;>intro hc2
    ·
     obtain⟨kp,kb,rs2,hp,hT2⟩:=Ip hc2 hN;apply aJ 4 [0] m;simp only[↓aD];refine fG (tU O (m.r 0 O) (hMx.ext m.ext) hDx hT2) ?_;simp only[zz];apply kD 5 [0,0] m;simp only[↓aD,eS,aS,aa];intro g2 u m;refine mq m aC (by kernel_rfl) (eC 4 [0] ?_);simp only[↓aD,aS,Sy,aa];refine ql O (fun u m=>((hB91.ext m.ext).lies aH aA O O)) ?_;simp only[zz,zy,au,aa,ag,ad];refine aG (gW O O) (aG aI (dU O (fun hb=>aI) (dU O (fun hb=>dB (aY hb O)) ?_)));simp only[zz];refine dU O (fun hb=>aV (c:=0) nZ O Rj (aY hb O) O) ?_;simp only[zz];refine eR O (fun hb u m=>aZ (aY hb O) ((hB91.ext m.ext).lies1 Zq O)) (dU O (fun hb=>dB (aY hb O)) (dU O (fun hb=>aV (c:=0) underlying109 O Ee (aY hb O) O) ?_));simp only[zz];refine eR O (fun hb u m=>aZ (aY hb O) ((hB90.ext m.ext).lies1 tP O)) (eR O (fun hb u m=>aZ O ((m.b 0 O).full aH aA)) (eR O (fun hb u m=>eH (ek:=pt) (en:=bn) (k:=kp) (v0:=false) nY oU gD (aY hb O) (aY hb O) (hMf.ext m.ext) hDf) ?_));simp only[zz];refine aG (cC O O O) (aG aI (dU O (fun hb=>aI) (dU O (fun hb=>dB (aY hb O)) ?_)));simp only[zz];refine dU O (fun hb=>aV (c:=0) nZ O Ee (aY hb O) O) ?_;simp only[zz];refine eR O (fun hb u m=>aZ (aY hb O) ((hB91.ext m.ext).lies1 tP O)) (eR O (fun hb u m=>aZ O ((m.b 0 O).full aH aA)) (eR O (fun hb u m=>eH (ek:=pt) (en:=bn) (k:=kp) (v0:=false) nY oU gD (aY hb O) (aY hb O) (hMy.ext m.ext) hDy) ?_));simp only[zz];refine dU O (fun hb=>rT (aY hb O)) (aG (cC O O O) (bC ?_));intro u m;refine gc ?_;simp only[zz];refine dK O ?_ ?_<;>intro hc3
     ·
      apply aJ 5 [] m;simp only[↓aD];refine aT O O ?_;try simp only[zD,zE]
      exact⟨_,O,m.ext,by rw[aoe hc1 hT2.1 hc3]⟩
     ·
      apply aJ 2 [0] m;simp only[↓aD];exact hK1 rs2.length _ _ (by rw[hn,hp.length_eq];exact fg _) (by kernel_rfl) ⟨dn++[(kp,kb)],rs2,_,O,(m.sel [false,true]),hT2,(fun x hx=>(bi.1 hx).elim (hb0 x) fun h=>(by rw[bf.1 h];exact hc3)),O⟩
    ·
     obtain rfl:=Io hc2 hN;apply aJ 6 [] m;simp only[↓aD];refine aT O O ?_;try simp only[zD,zE]
     exact⟨_,O,m.ext,by rw[akT hT.done hb0]⟩
theorem He  : decide (bA t.normal.x=0∧bA t.normal.y=0∧bA t.normal.z=0)=fV t:=by
 unfold fV;refine decide_eq_decide.2 ?_;rw[bZ,bZ,bZ];show (dN t.a t.b t.c).x=0∧(dN t.a t.b t.c).y=0∧(dN t.a t.b t.c).z=0↔_
 unfold iZ;generalize dN t.a t.b t.c=n;by_cases h1:n.x=0 <;> by_cases h2:n.y=0 <;> by_cases h3:n.z=0 <;> simp[h1,h2,h3]
def ahv(o t:T3):Bool:=!fV t&&decide (agX o t=1)
def aez(os ms:List T3):Bool:=(os.zip ms).all fun x=>ahv x.1 x.2
theorem akV{k:Nat}{x:T3 × T3}:(os.zip ms)[k]? = some x↔os[k]? = some x.1∧ms[k]? = some x.2:=by
 obtain⟨a,b⟩:=x;rw[List.getElem?_zip_eq_some]
theorem aof{k:Nat}{o:T3}(ho:os[k]? = some o)(ht:ms[k]? = some t)(h:(fV t||decide (¬agX o t=1))=true):aez os ms=false:=by
 unfold aez;rw[pp];refine⟨(o,t),bh (akV.2 ⟨ho,ht⟩),?_⟩;unfold ahv;cases hf:fV t <;> rw[hf] at h <;> simp at h ⊢;exact h
theorem akW(h:∀(j:Nat) (o t:T3),os[j]? = some o→ms[j]? = some t→ahv o t=true):aez os ms=true:=by
 unfold aez;rw[de];intro x hx;obtain⟨j,hj⟩:=ej.1 hx;obtain⟨h1,h2⟩:=akV.1 hj;exact h j _ _ h1 h2
theorem atq{o:T3}(h:(fV t||decide (¬agX o t=1))=false):ahv o t=true:=by
 unfold ahv;cases hf:fV t <;> rw[hf] at h <;> simp at h ⊢;exact h
theorem aeA{cx cy cf:Nat}{ex ey ef:Array c_}{X Y F:List (P3 × Bool)}{ts:List T3}{p:P3}(w:aj)(hB91:fR w g91 [.pointer (some ⟨g90,0,none⟩),.int .i64 p.x,.int .i64 p.y,.int .i64 p.z,.int .i64 q.x,.int .i64 q.y,.int .i64 q.z,.map (some gx),.map (some gy),.slice Am nm cm,.slice Ao no co,.slice Ar nr cr] 218)(hB90:fR w g90 [.slice A N cap,.map (some ga),.map (some gf)] 109)(hTm:bV w Am nm ms)(hTo:bV w Ao no os)(hno:no=nm)(hN:nm≤10000000):dQ prog 104 [.pointer (some ⟨g91,0,none⟩)] w (fun v _=>v=.bool (aez os ms)):=by
 refine⟨bK func104 (by kernel_rfl),?_⟩;have m:=Mem.refl w;subst hno
 go_enter func104,ntmps104
 apply fF 10 [0] m;simp only[↓aD,Jl,aa];refine aR O ((hB91.ext m.ext).lies1 sQ O) ?_;simp only[zz];apply aL 4 [0] m;simp only[↓aD,kA];refine bX [10] [2,3,4,11,12,13,14,15,16,17,18,19,20,21,22,23,24,25,26,27,28,29] (fun n vs wl=>∃(k:Nat),vs=[.int .i64 (k:Int)]∧Mem w wl []∧(∀(j:Nat) (o t:T3),j<k→os[j]? = some o→ms[j]? = some t→ahv o t=true)∧(k≤no)∧(n=no-k)) ?_ ?_
 ·
  exact⟨_,0,O,m,(fun j o t h=>by omega),cv _,O⟩
 · intro n vs wr hI u K1 hK1
   obtain⟨k,rfl,m,hu0,hk,hn⟩:=hI;simp only[zu,zF,zG];apply aJ 5 [0,0] m;simp only[↓aD];refine bG O ?_ ?_<;>intro hc1
   ·
    obtain⟨t,ht,hti,a,rfl,hrow⟩:=hTm.get (i:=k) (by omega);obtain⟨o,ho,hoi,a2,rfl,hrow2⟩:=hTo.get (i:=k) (by omega);apply aJ 6 [0] m;simp only[↓aD];refine aB (aF cH aP O O (by omega) (by omega) (cQ (ah _))) ?_;simp only[zz];refine aR O ((hrow.ext m.ext).lies cF aP) ?_;simp only[zz];apply kD 5 [0,0] m;simp only[↓aD,nX,eL,aa];intro g1 u m;refine mq m aC (by kernel_rfl) (ql O (fun u m=>((m.b 0 O).full cF aP)) ?_);simp only[zz];refine eX O O (aaJ (t:=t)) (aG aI (gM O (fun hb=>aI) (gM O (fun hb=>dB (aY hb O)) ?_)));simp only[zz];refine gM O (fun hb=>aV (c:=0) nZ O gH (aY hb O) O) ?_;simp only[zz];refine pX O (fun hb u m=>aZ (aY hb O) ((hB91.ext m.ext).lies1 sQ O)) (gM O (fun hb=>aI) ?_);simp only[zz];refine gM O (fun hb=>aF cH aP (aY hb O) (aY hb O) (by omega) (by omega) (cQ (ah _))) ?_;simp only[zz];refine pX O (fun hb u m=>aZ (aY hb O) ((hrow2.ext m.ext).lies cF aP)) (pX O (fun hb u m=>aZ O ((m.b 0 O).full cF aP)) (afa O O (fun hb=>by simp only[List.toList_toArray,List.map_cons,List.map_nil,zA,zB,zC,zD,zE,hb,lS];rfl) (fun hb=>akR (t:=o) (r:=t)) (gM rfl (fun hb=>rS (aY hb rfl) rfl) (aG (cE rfl rfl rfl) (bC ?_)))));intro u m;refine gc ?_;simp only[zz];refine dK O ?_ ?_<;>intro hc2
    ·
     rw[He] at hc2;apply aJ 5 [] m;simp only[↓aD];refine aT O O ?_;try simp only[zD,zE]
     exact⟨_,O,m.ext,by rw[aof ho ht hc2]⟩
    ·
     rw[He] at hc2;apply aJ 6 [0] m;simp only[↓aD];refine⟨by omega,?_⟩;exact hK1 (no-(k+1)) _ _ (by omega) (by kernel_rfl) ⟨k+1, rfl, (m.sel [false]), (fun j o2 t2 hj h1 h2 => by
      rcases Nat.lt_or_ge j k with h | h
      · exact hu0 j o2 t2 h h1 h2
      · obtain rfl:j=k:=by omega
        rw[ho] at h1;rw[ht] at h2;cases h1;cases h2;exact atq hc2),by omega,O⟩
   ·
    apply aJ 6 [] m;simp only[↓aD];refine aT O O ?_;try simp only[zD,zE]
    exact⟨_,O,m.ext,by rw[akW fun j o t h1 h2=>hu0 j o t (by have:=(ap.1 h1).1;have:=hTo.len;omega) h1 h2]⟩
theorem ahw{w:aj}{ts:List T3}(h:bV w A N ts)(hA:A.isNone=true):ts=[]:=by
 cases A with
 | some a=>cases hA
 | none =>
  cases ts with
  | nil=>rfl
  | cons t ts =>
   obtain⟨a,e,_⟩:=h.row 0 t rfl;cases e
theorem akX{ts:List T3}(w:aj)(hT:bV w A N ts)(hN:N≤10000000):dQ prog 169 [.slice A N cap] w (SL 39 9 (ts.flatMap aN) ts.length w):=by
 refine⟨bK func169 (by kernel_rfl),?_⟩;have m:=Mem.refl w;have htl:=hT.len
 go_enter func169,ntmps169
 apply fF 8 [0] m;simp only[↓aD];refine aB (aa9 cH O O) ?_;apply aL 1 [0] m;simp only[↓aD];refine dK O ?_ ?_<;>intro hc1
 ·
  obtain rfl:=ahw hT hc1;apply aJ 5 [] m;simp only[↓aD];exact aT O O ⟨_,O,m.ext,⟨none,0,0,O,O,Ow.nil _ _ _ _⟩⟩
 ·
  apply aJ 3 [0] m;simp only[↓aD];refine aba cH (c:=9) (by kernel_rfl)  ?_;intro u g1 e_ h_ k_;replace m:=m.newB e_ h_ k_;simp only[zz];replace m:=m.own 0 O (n:=0) (c:=9) O (gV O);simp only[zG] at m;apply aL 1 [0] m;simp only[↓aD];refine bL m 0 O O cH jK O (by decide) O O (by rw[Ec,hT.len]) (bV.cells (hT.ext m.ext)) (xB _) (by omega) (by omega) ?_;intro A5 cap5 u m;simp only[zF,zG] at m;simp only[au,b_] at m ⊢;apply aL 3 [] m;simp only[↓aD];exact aT O O ⟨_,O,m.ext,⟨_,_,_,htl.symm,O,(m.o 0 O)⟩⟩
end Go.Proofs.YtfekpcimgncioaaGreatDoor
namespace Go.Lith
open Go.RowKit
variable{t:T3}
theorem Tt{l ys:List P3}(hn:l.Nodup)(h:ys.Perm l)(hs:ys.Pairwise fun a b=>¬b.Lt a):ys=Ba l:=by
 have h1:ys.Pairwise P3.Lt:=(hs.and (h.nodup_iff.2 hn)).imp fun {a b} k=>by
  rcases P3.lt_tri a b with e | e | e
  · exact e
  · exact absurd e k.2
  · exact absurd e k.1
 exact Gq P3.lt_irrefl (fun _ _ _=>P3.lt_trans) h1 (Jo hn) fun p=>by rw[h.mem_iff,(rG l).mem_iff]
def kT(t:T3):T3:=match Sn t with
 | [a,b,c]=>⟨a,b,c⟩
 | _=>t
theorem aaL(t:T3):Sn t=[(kT t).a,(kT t).b,(kT t).c]:=by
 have h:(Sn t).length=3:=(rG _).length_eq;unfold kT;generalize Sn t=L at h;rcases L with _ | ⟨a,_ | ⟨b,_ | ⟨c,_ | ⟨d,L⟩⟩⟩⟩ <;> simp only[av,bv] at h <;> first | omega | rfl
theorem akY{s:T3}:kT s=kT t↔Sn s=Sn t:=by
 rw[aaL s,aaL t];constructor
 · intro h;rw[h]
 · intro h
   simp only[List.cons.injEq,and_true] at h;obtain⟨a,b,c⟩:=h;cases hs:kT s;cases ht:kT t;simp only[hs,ht] at a b c;rw[a,b,c]
theorem acq{l:List T3}:(l.map kT).Nodup↔(l.map Sn).Nodup:=by
 unfold List.Nodup;rw[lk,lk];exact⟨fun h=>h.imp fun k e=>k (akY.2 e),fun h=>h.imp fun k e=>k (akY.1 e)⟩
theorem Tu(h:t.nd=true):[t.a,t.b,t.c].Nodup:=by
 obtain⟨h1,h2,h3⟩:=(Gv (t:=t)).1 h;simp only[List.nodup_cons,an,cg,or_false,not_or,not_false_eq_true,kx,and_true];exact⟨⟨h1,fun e=>h3 e.symm⟩,h2⟩
theorem arD{L:List T3}{k:Nat}(ht:L[k]? = some t)(h:kT t∈(L.take k).map kT):decide ((L.map Sn).Nodup)=false:=by
 rw[decide_eq_false_iff_not,←acq];intro hn;obtain⟨s,hs,e⟩:=dh.1 h;obtain⟨j,hj⟩:=ej.1 hs;rw[List.getElem?_take] at hj;split at hj
 · rename_i hjk
   have h1:(L.map kT)[j]? = some (kT t):=by rw[fb,hj];exact congrArg some e
   have h2:(L.map kT)[k]? = some (kT t):=by rw[fb,ht];rfl
   obtain⟨a1,a2⟩:=ap.1 h1;obtain⟨b1,b2⟩:=ap.1 h2;have:=(List.getElem_inj hn).1 (a2.trans b2.symm);omega
 · cases hj
theorem aog{L:List T3}{k:Nat}(ht:L[k]? = some t)(hn:((L.take k).map kT).Nodup)(h:kT t∉(L.take k).map kT):((L.take (k+1)).map kT).Nodup:=by
 rw[cJ ht,ct];exact List.nodup_append.2 ⟨hn,by simp,fun a ha b hb e=>h (by rw[bf.1 hb] at e;exact e▸ha)⟩
end Go.Lith
namespace Go.Proofs.YtfekpcimgncioaaGreatDoor
open Go.Proofs.Tryz
open Go.RowKit Go.Lith
set_option maxRecDepth 100000
attribute [local irreducible] ar cw gG bQ cO Code.wp
attribute [local congr] rC gX gY gZ iA iB lI iC iD iE iF iG iH iJ iK iL iM iN fJ fK iO iP iR iS iT lK dW dX cX dV iQ lJ fN fO fP iU iV lM
variable{N cap:Nat}
theorem akZ{w:aj}{A:Option Addr}{ps:List P3}(h:vJ dF 3 w A N ps)(hA:A.isNone=true):ps=[]:=by
 cases A with
 | some a=>cases hA
 | none =>
  cases ps with
  | nil=>rfl
  | cons t ts =>
   obtain⟨a,e,_⟩:=h.row 0 t rfl;cases e
theorem auz{w:aj}{g:Nat}{t:T3}{T:az}(h:fR w g (aN t) T):vJ dF 3 w (some ⟨g,0,none⟩) 3 [t.a,t.b,t.c]:=⟨rfl,fun i x hx=>by
 refine⟨⟨g,0,none⟩,O,?_⟩;rcases i with _ | _ | _ | i <;> simp at hx <;> subst hx
 · exact (h.row 0).take 3
 · exact (h.row 3).take 3
 · exact (h.row 6).take 3⟩
theorem ak0{ps:List P3}{A:Option Addr}(w:aj)(hT:vJ dF 3 w A N ps)(hN:N≤10000000):dQ prog 170 [.slice A N cap] w (SL 30 3 (ps.flatMap dF) ps.length w):=by
 refine⟨bK func170 (by kernel_rfl),?_⟩;have m:=Mem.refl w;have htl:=hT.len
 go_enter func170,ntmps170
 apply fF 8 [0] m;simp only[↓aD];refine aB (aa9 cT O O) ?_;apply aL 1 [0] m;simp only[↓aD];refine dK O ?_ ?_<;>intro hc1
 ·
  obtain rfl:=akZ hT hc1;apply aJ 5 [] m;simp only[↓aD];exact aT O O ⟨_,O,m.ext,⟨none,0,0,O,O,Ow.nil _ _ _ _⟩⟩
 ·
  apply aJ 3 [0] m;simp only[↓aD];refine aba cT (c:=3) (by kernel_rfl)  ?_;intro u g1 e_ h_ k_;replace m:=m.newB e_ h_ k_;simp only[zz];replace m:=m.own 0 O (n:=0) (c:=3) O (gV O);simp only[zG] at m;apply aL 1 [0] m;simp only[↓aD];refine bL m 0 O O cT oV O (by decide) O O (by rw[show (ps.flatMap lA).length=ps.length*3 from ai5,hT.len]) ((hT.ext m.ext).cells yO (by decide)) (Rb _) (by omega) (by omega) ?_;intro A5 cap5 u m;simp only[zF,zG] at m;simp only[au,b_] at m ⊢;apply aL 3 [] m;simp only[↓aD];exact aT O O ⟨_,O,m.ext,⟨_,_,_,htl.symm,O,(m.o 0 O)⟩⟩
theorem afR{w0 w:aj}{is:List It}{A:Option Addr}{n cap:Nat}{xs:List P3}(m:Mem w0 w is)(k:Nat)(hi:is[k]? = some (oI 30 3 A n cap (xs.flatMap dF)))(hsz:n<4611686018427387904) :
 Calls prog 128 [.slice A n cap,.func (.func 70) #[] #[]].toArray w fun e w'=>∃v i,e=.returned v∧Mem w0 w' (is.set k i)∧(v=.tuple #[]∧∃ys:List P3,i=oI 30 3 A n cap (ys.flatMap dF)∧ys.Perm xs∧ys.Pairwise fun a b=>¬b.Lt a) :=
 (Cl (enc:=dF) Tryz.sort128 (fun w=>pN aH w) (fun w=>eG aA w) (fun _=>rfl) (by decide) Ns qO aby (fun x y=>Tn) m k hi hsz).mono (by
  rintro e w' ⟨v,i,h1,h2,h3,ys,h4,h5,h6⟩;exact⟨v,i,h1,h2,h3,ys,h4,h5,h6.imp fun h=>by simpa[Go.Proofs.ltOf,mB] using h⟩)
theorem app:sR prog 38 tr:=by
 refine sR.agg (cs:=fun p=>#[.int .i64 p.a.x,.int .i64 p.a.y,.int .i64 p.a.z,.int .i64 p.b.x,.int .i64 p.b.y,.int .i64 p.b.z,.int .i64 p.c.x,.int .i64 p.c.y,.int .i64 p.c.z]) (fun _=>rfl) underlying38 (fun e p=>?_) (fun p q=>?_) (fun p=>?_)
 · refine wV.array (d:=9999) underlying38 aA fun i hi=>?_
   obtain rfl | rfl | rfl:=(by omega:i=0∨i=1∨i=2)
   · refine⟨_,cR aH aA O,?_⟩
     refine wV.struct (d:=9998) fT fun f hf=>?_;simp only[an,cg,or_false] at hf;rcases hf with rfl | rfl | rfl
     · exact⟨_,cU bD O,wV.int (d:=9997) jE⟩
     · exact⟨_,cU bD O,wV.int (d:=9997) jE⟩
     · exact⟨_,cU bD O,wV.int (d:=9997) jE⟩
   · refine⟨_,cR aH aA O,?_⟩
     refine wV.struct (d:=9998) fT fun f hf=>?_;simp only[an,cg,or_false] at hf;rcases hf with rfl | rfl | rfl
     · exact⟨_,cU bD O,wV.int (d:=9997) jE⟩
     · exact⟨_,cU bD O,wV.int (d:=9997) jE⟩
     · exact⟨_,cU bD O,wV.int (d:=9997) jE⟩
   · refine⟨_,cR aH aA O,?_⟩
     refine wV.struct (d:=9998) fT fun f hf=>?_;simp only[an,cg,or_false] at hf;rcases hf with rfl | rfl | rfl
     · exact⟨_,cU bD O,wV.int (d:=9997) jE⟩
     · exact⟨_,cU bD O,wV.int (d:=9997) jE⟩
     · exact⟨_,cU bD O,wV.int (d:=9997) jE⟩
 · exact (ap1 _).iff ⟨fun h=>Rz (P3.eq h.1 h.2.1 h.2.2.1) (P3.eq h.2.2.2.1 h.2.2.2.2.1 h.2.2.2.2.2.1) (P3.eq h.2.2.2.2.2.2.1 h.2.2.2.2.2.2.2.1 h.2.2.2.2.2.2.2.2),fun h=>by subst h;simp only[and_self]⟩
 · simp[tr,Instr.sameBits]
theorem ahx{g90 g91 ga gf gx gy cx cy cf nm cm no co nr cr:Nat}{A Am Ao Ar:Option Addr}{ex ey ef:Array c_}{X Y F:List (P3 × Bool)}{ts:List T3}{p q:P3}{ms rs:List T3}(w:aj)(hB91:fR w g91 [.pointer (some ⟨g90,0,none⟩),.int .i64 p.x,.int .i64 p.y,.int .i64 p.z,.int .i64 q.x,.int .i64 q.y,.int .i64 q.z,.map (some gx),.map (some gy),.slice Am nm cm,.slice Ao no co,.slice Ar nr cr] 218)(hB90:fR w g90 [.slice A N cap,.map (some ga),.map (some gf)] 109)(hTm:bV w Am nm ms)(hTr:bV w Ar nr rs)(hnd:∀t∈ms++rs,t.nd=true)(hN:nm+nr≤10000000):dQ prog 102 [.pointer (some ⟨g91,0,none⟩)] w (fun v _=>v=.bool (decide (((ms++rs).map Sn).Nodup))):=by
 refine⟨bK func102 (by kernel_rfl),?_⟩;have m:=Mem.refl w;have htm:=hTm.len;have htr:=hTr.len;have hit:∀t∈ms++rs,IT t:=fun t ht=>(bi.1 ht).elim (hTm.it t) (hTr.it t)
 go_enter func102,ntmps102
 apply fF 6 [0] m;simp only[↓aD];refine mA m ?_;intro q8 u m;have hD8:=bO.nil (K:=T3) (V:=Bool) tr bn;apply aL 4 [0] m;simp only[↓aD];refine mh m [true] [(0,true),(1,true),(2,true),(5,true),(6,true),(7,true),(11,true),(3,true),(8,true),(4,false),(9,false),(10,true)] aC (by kernel_rfl) (bU (fun _ _ _ _ _ h=>h)) (ol:=?_) ?hol ?_
 case hol=>simp only[zw,zQ,zR];try rfl
 intro u m;refine Pg 7 [] ?_;simp only[↓aD,Jl,Ta,aa];refine fU O (fun u m=>((hB91.ext m.ext).lies1 sQ O)) ?_;simp only[zz];refine fU O (fun u m=>((hB91.ext m.ext).lies1 sQ O)) ?_;simp only[zz];refine bR (bJ O O (akX (ts:=ms) _ (hTm.ext m.ext) (by omega)) ?_);rintro v u e_ ⟨A5,cap5,n5,hn5,rfl,h_⟩;replace m:=m.newO e_ h_;refine aM ⟨m.sel [false,true],?_⟩;refine bR ?_;simp only[zz];refine bL m 0 O O cH jK O (by decide) O O (by rw[Ec,hTr.len]) (bV.cells (hTr.ext m.ext)) (xB _) (by omega) (by omega) ?_;intro A5 cap5 u m;simp only[zF,zG] at m;rw[←List.flatMap_append] at m;refine aM ⟨m.sel [false,true],?_⟩;refine bF (Kv O cH O) (bW ?_);apply aW 1 [0] m;simp only[↓aD];refine bX [20] [2,5,6,7,21,22,23,24,25,26,27,28,29,30,31,32,33,34,35,36,37] (fun n vs wl=>∃(k:Nat) (es:Array c_) (c:Nat),vs=[.int .i64 (k:Int)]∧Mem w wl [oI 39 9 A5 (n5+nr) cap5 ((ms++rs).flatMap aN),mI q8 es c]∧(bO tr bn (fY [] (((ms++rs).take k).map kT)) es c)∧((((ms++rs).take k).map kT).Nodup)∧(k≤n5+nr)∧(n=n5+nr-k)) ?_ ?_
 ·
  exact⟨_,0,_,_,O,m,hD8,kx,cv _,O⟩
 · intro n vs wr hI u K1 hK1
   obtain⟨k,es8,c8,rfl,m,hD8,hu,hk,hn⟩:=hI;simp only[zu,zF,zG];apply aJ 5 [0,0] m;simp only[↓aD];refine bG O ?_ ?_<;>intro hc1
   ·
    obtain⟨t,ht,hti,a,hA5,hr5⟩:=((m.o 0 rfl).tris hit).get (i:=k) (by omega);subst hA5;apply aJ 5 [0] m;simp only[↓aD];refine aB (aF cH aP O O (by omega) (by omega) (cQ (ah _))) ?_;simp only[zz];refine aR O (hr5.lies cF aP) ?_;simp only[zz];apply kD 5 [0,0] m;simp only[↓aD,nX,eL,aa];intro g2 u m;refine aB (akS cM aA O) ?_;apply aL 5 [0] m;simp only[↓aD,reduceIte,Nat.reduceEqDiff,ag,aa];refine bJ O O (ak0 (ps:=[t.a,t.b,t.c]) _ (auz (m.b 0 O)) (by decide)) ?_;rintro v u e_ ⟨A6,cap6,n6,hn6,rfl,h_⟩;replace m:=m.newO e_ h_;obtain rfl:n6=3:=hn6;apply aL 5 [0] m;simp only[↓aD];refine mO m 0 adm O O (fun m=>afR m 0 O (by decide)) ?_;rintro v i u m ⟨rfl,ys,rfl,hys,hso⟩;simp only[zF,zG] at m;simp only[zz];obtain rfl:ys=[(kT t).a,(kT t).b,(kT t).c]:=by rw[←aaL];exact Tt (Tu (hnd t (bh ht))) hys hso
    obtain⟨g6,rfl⟩:=(m.o 0 rfl).some (by decide);apply aL 4 [0] m;simp only[↓aD];refine aB (ahq underlying38 O (by decide)) ?_;simp only[zz];refine aR O (show fZ _ _ _ _ (tr (kT t)) from (m.o 0 O).rows.lies apY aiF) ?_;simp only[zz];apply kD 8 [0,0,0] m;simp only[↓aD,asP,ao4,aa];intro g3 u m;refine fG (eH (ek:=tr) (en:=bn) (k:=kT t) (v0:=false) underlying219 oU app O O (m.p 4 O) hD8) ?_;simp only[zz];apply aL 1 [0] m;simp only[↓aD];refine dK O ?_ ?_<;>intro hc2
    ·
     rw[rZ,decide_eq_true_eq] at hc2;apply aJ 5 [] m;simp only[↓aD];refine aT O O ?_;try simp only[zD,zE]
     exact⟨_,O,m.ext,by rw[arD ht hc2]⟩
    ·
     rw[rZ,decide_eq_false_iff_not] at hc2;apply aJ 4 [0,0] m;simp only[↓aD,ao4];refine nN (ek:=tr) (en:=bn) (a:=kT t) (v:=true) m 4 O underlying219 app O O O hD8 ?_;intro es8 c8 u m hD8;simp only[zF,zG] at m;rw[←mL] at hD8;apply aL 6 [0] m;simp only[↓aD];refine⟨by omega,?_⟩;exact hK1 (n5+nr-(k+1)) _ _ (by omega) (by kernel_rfl) ⟨k+1,_,_,O,(m.sel [false,false,false,true,true]),by rw[cJ ht,ct];exact hD8,aog ht hu hc2,by omega,O⟩
   ·
    obtain rfl:k=n5+nr:=by omega
    rw[show (ms++rs).take (n5+nr)=(ms++rs) from a_ (by rw[aw];omega)] at hu;apply aJ 6 [] m;simp only[↓aD];refine aT O O ?_;try simp only[zD,zE]
    exact⟨_,O,m.ext,by rw[decide_eq_true (acq.1 hu)]⟩
end Go.Proofs.YtfekpcimgncioaaGreatDoor
