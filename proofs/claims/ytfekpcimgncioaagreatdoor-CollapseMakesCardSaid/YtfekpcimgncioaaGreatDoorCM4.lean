/-
 Texts of one claim, laid together: Wide1, Wide2, Wide3, Wide4, Wide5, Back, Wide7, Wide8, Wide9, Wide10, Facts2, Geo1, Exact, Exact2, Meas1, RefG1, RefF, Rchk.
-/
import Derived.RangeFuncNested
import Derived.RangeFuncBound
import Derived.RangeFuncCalls
import Derived.RangeFuncBox
import Derived.RangeFuncLeaves
import Derived.Shelf.Abstract
import Derived.Shelf.RegionOpen
import Derived.WalkKit
import Derived.OwnWalkIn
import Derived.TacticsInMore
import Derived.LoopNIn
import Derived.LoopIn
import Derived.Maps.AppendAt
import Derived.Test.YtfekpcimgncioaaGreatDoorCM3
open Nat renaming reduceAdd→aa,reduceMul→ag,zero_add→ar,le_refl→av,le_trans→az,zero_le→br,lt_of_lt_of_le→fm,min_eq_left→iu,reduceSub→jq,ne_of_gt→jz
open Int renaming reduceToNat→ad,toNat_natCast→ai,reduceAdd→ak,natAbs_mul→jj
open Go renaming Value→ah,World→aj,TypeId→an,wp_region_lit→ap,wpList→au,Operand→bg,wpQuiet→cg,Deferred→cn
open List renaming getElem?_eq_getElem→am,length_append→aw,length_cons→ay,take_of_length_le→a_,flatMap_append→ba,length_nil→bu,getElem?_eq_none→bv,nil_append→cd,cons_append→ci,length_take→cj,map_append→cl,replicate→c_,take_length→ew,set_cons_succ→ft,size_toArray→fy,length_drop→gh,getD_cons_zero→gv,getD_cons_succ→gw,append_toArray→gz,set_cons_zero→ic,push_toArray→io,eq_of_mem_replicate→ir,take_zero→kj,drop_length→km,drop_zero→lq
open Go.Oper renaming mk→bn,semAt_some→oz
open Option renaming getD_some→cu
open Array renaming replicate_succ→gj,replicate_zero→gl
open Go.Value renaming oneCell'→n_
open Prod renaming snd→og
set_option maxHeartbeats 8000000
set_option linter.unusedSimpArgs false
set_option linter.unusedVariables false
set_option linter.unusedSectionVars false
namespace Go.Proofs.YtfekpcimgncioaaGreatDoor
open Go.Proofs.Tryz
open Go.RowKit Go.Lith
abbrev fD:=@underlying233
abbrev nV:=@underlying52
set_option maxRecDepth 100000
attribute [local irreducible] au cg fR bO cO Code.wp
attribute [local congr] pL fX fY fZ gA gB kI gC gD gE gF gG gH gI gJ gK gL gM eS eT gN gQ gS gT gU kK dC dD cR dB gR kJ eV eW eX gW gX kL
theorem Kb{A:Option Addr}{xs:List Nat}{na cap:Nat}(w:aj)(hS:kS w A na cap xs):dJ prog 256 [.slice A na cap] w (fun v _=>v=.slice A (trim xs).length cap):=by
 refine⟨an6,?_⟩;have m:=Mem.refl w;obtain rfl:=hS.eq;have hl:=hS.len;have hle:=hS.le
 go_enter func256,ntmps256
 refine eC 6 [0] m ?_;simp only[↓aD];intro u m;refine cE [0] [3,4,5,6,7,8,9,10,11,12,13,14,15,16,17,18,19] (fun n vs wl=>∃(k:Nat),vs=[.slice A k cap]∧Mem w wl []∧(k≤xs.length)∧(trim (xs.take k)=trim xs)∧(n=k)) ?_ ?_
 ·
  apply Exists.intro;simp only[zQ,zR,zD,zE];exact⟨xs.length,rfl,m,av _,by rw[ew],rfl⟩
 ·
  intro n vs wr hI u K1 hK1;clear m;obtain⟨k,rfl,m,hk,ht,hn⟩:=hI;simp only[zu,zF,zG];refine aW 2 [] m ?_;simp only[↓aD];intro u m;by_cases hk0:0<k
  ·
   obtain⟨a,rfl,hcell,hlt⟩:=hS.get (show k-1<xs.length by omega);refine cP 9 [1,0] m ?_;simp only[↓aD,jT];refine⟨by omega,?_⟩;intro u m;refine dN rfl (aC (aF fD cG rfl rfl (by omega) (by omega) (jQ (show _=k-1 by omega))) (dN rfl ?_));simp only[zz];refine aQ rfl (lies1 (m.ext.cell hcell) lI) ?_;simp only[zz];refine aS 3 [0,0] m ?_;simp only[↓aD];intro u m;refine bG rfl (fun hc1=>?_) (fun hc1=>?_)
   ·
    refine aW 7 [0] m ?_;simp only[↓aD,jT];refine⟨by omega,?_⟩;intro u m;refine aC (oL fD cG rfl rfl (show _=k-1 by omega) (by omega) (by omega)) (aS 3 [0] m ?_);simp only[↓aD];intro u m;refine hK1 (k-1) _ _ ?_ ?_ ?_
    · omega
    · simp only[zz,zv]
    ·
     simp only[zQ,zR,zD,zE];exact⟨k-1,rfl,m,by omega,Tg hk0 (by omega) hc1 ht,rfl⟩
   ·
    refine aW 7 [] m ?_;simp only[↓aD];intro u m;refine aR rfl rfl ?_;try simp only[zD,zE]
    exact⟨_,rfl,m.ext,by rw[←Zg hk0 (by omega) hc1 ht]⟩
  ·
   obtain rfl:k=0:=by omega
   refine cP 22 [2] m ?_;simp only[↓aD,jT];refine⟨by omega,?_⟩;intro u m;refine aR rfl rfl ?_;try simp only[zD,zE]
   exact⟨_,rfl,m.ext,by rw[←Zh ht]⟩
theorem ar9{A B:Option Addr}{xs ys:List Nat}{na nb ca cb:Nat}(w:aj)(hS:kS w A na ca xs)(hR:kS w B nb cb ys)(tx:iE xs)(ty:iE ys):dJ prog 187 [.slice A na ca,.slice B nb cb] w (fun v _=>v=.int .i64 (Zj (val 4294967296 xs) (val 4294967296 ys))):=by
 refine⟨ant,?_⟩;have m:=Mem.refl w;obtain rfl:=hS.eq;obtain rfl:=hR.eq;have hl:=hS.len;have hl2:=hR.len
 go_enter func187,ntmps187
 refine eC 15 [0,0] m ?_;simp only[↓aD,jT];intro u m;refine bG rfl (fun hc1=>?_) (fun hc1=>?_)
 ·
  refine aW 5 [] m ?_;simp only[↓aD];intro u m;refine aR rfl rfl ?_;try simp only[zD,zE]
  exact⟨_,rfl,m.ext,by rw[Zj,if_pos (mX (by omega) hS.digs hR.digs ty (by omega))]⟩
 ·
  refine aW 9 [0,0] m ?_;simp only[↓aD,jT];intro u m;refine bG rfl (fun hc2=>?_) (fun hc2=>?_)
  ·
   refine aW 5 [] m ?_;simp only[↓aD];intro u m;refine aR rfl rfl ?_;try simp only[zD,zE]
   exact⟨_,rfl,m.ext,by have:=mX (B:=4294967296) (by omega) hR.digs hS.digs tx (by omega);rw[Zj,if_neg (by omega),if_pos this]⟩
  ·
   refine jF 11 [0] m ?_;simp only[↓aD,jT];refine⟨by omega,?_⟩;rintro u m rfl;refine cE [5] [4,21,22,23,24,25,26,27,28,29,30,31,32,33,34,35,36,37,38,39,40,41,42,43,44] (fun n vs wl=>∃(k:Nat),vs=[.int .i64 ((k:Int)-1)]∧Mem w wl []∧(k≤xs.length)∧(xs.drop k=ys.drop k)∧(n=k)) ?_ ?_
   ·
    apply Exists.intro;simp only[zQ,zR,zD,zE];exact⟨xs.length,rfl,m,av _,by rw[km,show xs.length=ys.length by omega,km],rfl⟩
   ·
    intro n vs wr hI u K1 hK1;clear m;obtain⟨k,rfl,m,hk,hd,hn⟩:=hI;simp only[zu,zF,zG];refine aW 6 [0,0] m ?_;simp only[↓aD];intro u m;refine bG rfl (fun hc3=>?_) (fun hc3=>?_)
    ·
     refine aW 5 [] m ?_;simp only[↓aD];intro u m;obtain⟨a,rfl,hca,_⟩:=hS.get (show k-1<xs.length by omega);obtain⟨b,rfl,hcb,_⟩:=hR.get (show k-1<ys.length by omega);refine gc (mq m aB (by kernel_rfl) (aJ aH (aJ aH ?_)));simp only[zz];refine aJ (aF fD cG rfl rfl (by omega) (by omega) (jQ (show _=k-1 by omega))) ?_;simp only[zz];refine ql rfl (fun u m=>(lies1 (m.ext.cell hca) lI)) ?_;simp only[zz];refine aJ aH (aJ aH ?_);simp only[zz];refine aJ (aF fD cG rfl rfl (by omega) (by omega) (jQ (show _=k-1 by omega))) ?_;simp only[zz];refine ql rfl (fun u m=>(lies1 (m.ext.cell hcb) lI)) ?_;simp only[zz];refine aJ (rA rfl rfl) (aJ aM (bD ?_));clear m;intro u m;refine gc ?_;simp only[zz];refine bG rfl (fun hc4=>?_) (fun hc4=>?_)
     ·
      refine aW 5 [] m ?_;simp only[↓aD];intro u m;refine aR rfl rfl ?_;try simp only[zD,zE]
      exact⟨_,rfl,m.ext,by rw[Zj,if_pos (agw hS.digs (by omega) (by omega) (by omega) hd hc4)]⟩
     ·
      refine aW 1 [] m ?_;simp only[↓aD];intro u m;have hca:=hS.at (show k-1<xs.length by omega);have hcb:=hR.at (show k-1<ys.length by omega);refine gc (mq m aB (by kernel_rfl) (aJ aH (aJ aH ?_)));simp only[zz];refine aJ (aF fD cG rfl rfl (by omega) (by omega) (jQ (show _=k-1 by omega))) ?_;simp only[zz];refine ql rfl (fun u m=>(lies1 (m.ext.cell hca) lI)) ?_;simp only[zz];refine aJ aH (aJ aH ?_);simp only[zz];refine aJ (aF fD cG rfl rfl (by omega) (by omega) (jQ (show _=k-1 by omega))) ?_;simp only[zz];refine ql rfl (fun u m=>(lies1 (m.ext.cell hcb) lI)) ?_;simp only[zz];refine aJ (Yr rfl rfl) (aJ aM (bD ?_));clear m;intro u m;refine gc ?_;simp only[zz];refine bG rfl (fun hc5=>?_) (fun hc5=>?_)
      ·
       refine aW 5 [] m ?_;simp only[↓aD];intro u m;refine aR rfl rfl ?_;try simp only[zD,zE]
       exact⟨_,rfl,m.ext,by have:=agw hR.digs (by omega) (by omega) (by omega) hd.symm hc5;rw[Zj,if_neg (by omega),if_pos this]⟩
      ·
       refine jF 8 [0] m ?_;simp only[↓aD];refine⟨by omega,?_⟩;rintro u m rfl;rw[show ((k:Int)-1-1)=((k-1:Nat):Int)-1 by omega];refine hK1 (k-1) _ _ ?_ ?_ ?_
       · omega
       · simp only[zz,zv]
       ·
        simp only[zQ,zR,zD,zE];exact⟨k-1,rfl,m,by omega,aew (by omega) (by omega) (by omega) hd hc4 hc5,rfl⟩
    ·
     refine jF 6 [] m ?_;simp only[↓aD];rintro u m rfl;refine aR rfl rfl ?_;try simp only[zD,zE]
     exact⟨_,rfl,m.ext,by have h0:k=0:=(by omega);subst h0;simp only[lq] at hd;rw[hd,Zj,if_neg (by omega),if_neg (by omega)]⟩
theorem asa{A B:Option Addr}{xs ys:List Nat}{na nb ca cb:Nat}(w:aj)(hS:kS w A na ca xs)(hR:kS w B nb cb ys)(hlx:xs.length≤1099511627776)(hly:ys.length≤1099511627776):dJ prog 186 [.slice A na ca,.slice B nb cb] w (qK (val 4294967296 xs+val 4294967296 ys)):=by
 refine⟨ans,?_⟩;have m:=Mem.refl w;obtain rfl:=hS.eq;obtain rfl:=hR.eq
 go_enter func186,ntmps186
 refine eC 13 [0,0] m ?_;simp only[↓aD,jT];intro u m;refine bG rfl (fun hc1=>?_) (fun hc1=>?_)
 ·
  obtain⟨qb,rfl⟩:∃q,q=xs:=⟨_,rfl⟩
  obtain⟨qa,rfl⟩:∃q,q=ys:=⟨_,rfl⟩
  obtain⟨Qb,rfl⟩:∃q,q=A:=⟨_,rfl⟩
  obtain⟨Qa,rfl⟩:∃q,q=B:=⟨_,rfl⟩
  have hSa:=hR;have hSb:=hS;refine aW 11 [0] m ?_;simp only[↓aD,jT];refine⟨by omega,?_⟩;intro u m;refine wW fD Gb rfl rfl rfl (show _=qa.length+1 by omega) (show _=qa.length+1 by omega) (by omega) (by omega) (by omega) (by omega) ?_;intro u g1 e hg hB;replace m:=m.newB e hg hB;clear e hg hB;refine aS 2 [] m ?_;simp only[↓aD];intro u m;rw[nN] at m;refine cP 12 [0] m ?_;simp only[↓aD,jT];intro u m;refine cE [6,22] [7,8,23,24,25,26,27,28,29,30,31,32,33,34,35,36,37,38,39,40,41,42,43,44,45,46,47,48] (fun n vs wl=>∃(i c:Nat) (os:List Nat),vs=[.int .u64 (c:Int),.int .i64 (i:Int)]∧Mem w wl [bI g1 (os.map Jc) 231]∧(i≤qa.length)∧(os.length=qa.length+1)∧(val 4294967296 os+4294967296^i*c=val 4294967296 (qa.take i)+val 4294967296 (qb.take i))∧(os.drop i=c_ (qa.length+1-i) 0)∧(eE 4294967296 os)∧(c≤1)∧(n=qa.length-i)) ?_ ?_
  ·
   apply Exists.intro;simp only[zQ,zR,zD,zE];exact⟨0,0,c_ (qa.length+1) 0,rfl,m,by omega,by simp,by simp[lU,val],by simp,fun x hx=>by rw[ir hx];decide,by omega,rfl⟩
  ·
   intro n vs wr hI u K1 hK1;clear m;obtain⟨i,c,os,rfl,m,hi,hlo,hv,hz,hd,hc,hn⟩:=hI;simp only[zu,zF,zG];refine aW 5 [0,0] m ?_;simp only[↓aD];intro u m;refine bG rfl (fun hc2=>?_) (fun hc2=>?_)
   ·
    refine aW 9 [] m ?_;simp only[↓aD];intro u m;obtain⟨a,rfl,hca,hla⟩:=hSa.get (show i<qa.length by omega);refine cP 3 [0] m ?_;simp only[↓aD];intro u m;refine aC (aF fD cG rfl rfl (by omega) (by omega) (jQ (ai _))) ?_;simp only[zz];refine aQ rfl (lies1 (m.ext.cell hca) lI) ?_;simp only[zz];refine aS 12 [0,0] m ?_;simp only[↓aD,jT];refine⟨by omega,?_⟩;intro u m;refine bG rfl (fun hc3=>?_) (fun hc3=>?_)
    ·
     obtain⟨b,rfl,hcb,hlb⟩:=hSb.get (show i<qb.length by omega);refine aW 4 [0] m ?_;simp only[↓aD];intro u m;refine aC (aF fD cG rfl rfl (by omega) (by omega) (jQ (ai _))) ?_;simp only[zz];refine aQ rfl (lies1 (m.ext.cell hcb) lI) ?_;simp only[zz];refine aS 3 [] m ?_;simp only[↓aD];refine⟨by omega,?_⟩;intro u m;obtain⟨s,hs⟩:∃s:Nat,(s:Int)=↑qa[i]+↑c+↑qb[i]:=⟨qa[i]+c+qb[i],by omega⟩
     rw[←hs];have hs2:s=qa[i]+c+qb[i]?.getD 0:=by rw[am (by omega)];simp;omega
     have hyb:qb[i]?.getD 0<4294967296:=by rw[am (by omega)];exact hlb
     refine cP 4 [0] m ?_;simp only[↓aD];intro u m;refine aC (vS rfl rfl (rD (by omega) (by omega))) (aS 1 [0] m ?_);simp only[↓aD];intro u m;refine aC (oK rfl rfl (by omega) (Th (by omega))) ?_;simp only[zz];refine aC (aF fD cG rfl rfl (by omega) (by omega) (nH (ai _))) ?_;simp only[zz];refine eK m 0 rfl rfl rfl cG (by simp;omega) ⟨rfl,rfl⟩ ?_;clear m;intro u m;simp only[zz] at m ;rw[show ((s:Int)%4294967296)=((s%4294967296:Nat):Int) by omega,mM (by omega)] at m;refine aS 7 [0] m ?_;simp only[↓aD];refine⟨by omega,?_⟩;intro u m;obtain⟨r1,r2,r3,r4⟩:=Ci (by omega) hlo hv hz hd hc hs2 hla hyb;rw[show ((i:Int)+1)=((i+1:Nat):Int) by omega,show ((s:Int) / 4294967296)=((s / 4294967296:Nat):Int) by omega];refine hK1 (qa.length-(i+1)) _ _ ?_ ?_ ?_
     · omega
     · simp only[zz,zv]
     ·
      simp only[zQ,zR,zD,zE];exact⟨i+1,s / 4294967296,os.set i (s%4294967296),rfl,m,by omega,by simpa using hlo,r1,r2,r3,r4,rfl⟩
    ·
     obtain⟨s,hs⟩:∃s:Nat,(s:Int)=↑qa[i]+↑c:=⟨qa[i]+c,by omega⟩
     rw[←hs];have hs2:s=qa[i]+c+qb[i]?.getD 0:=by rw[bv (by omega)];simp;omega
     have hyb:qb[i]?.getD 0<4294967296:=by rw[bv (by omega)];decide
     refine aW 5 [0] m ?_;simp only[↓aD];intro u m;refine aC (vS rfl rfl (rD (by omega) (by omega))) (aS 1 [0] m ?_);simp only[↓aD];intro u m;refine aC (oK rfl rfl (by omega) (Th (by omega))) ?_;simp only[zz];refine aC (aF fD cG rfl rfl (by omega) (by omega) (nH (ai _))) ?_;simp only[zz];refine eK m 0 rfl rfl rfl cG (by simp;omega) ⟨rfl,rfl⟩ ?_;clear m;intro u m;simp only[zz] at m ;rw[show ((s:Int)%4294967296)=((s%4294967296:Nat):Int) by omega,mM (by omega)] at m;refine aS 7 [0] m ?_;simp only[↓aD];refine⟨by omega,?_⟩;intro u m;obtain⟨r1,r2,r3,r4⟩:=Ci (by omega) hlo hv hz hd hc hs2 hla hyb;rw[show ((i:Int)+1)=((i+1:Nat):Int) by omega,show ((s:Int) / 4294967296)=((s / 4294967296:Nat):Int) by omega];refine hK1 (qa.length-(i+1)) _ _ ?_ ?_ ?_
     · omega
     · simp only[zz,zv]
     ·
      simp only[zQ,zR,zD,zE];exact⟨i+1,s / 4294967296,os.set i (s%4294967296),rfl,m,by omega,by simpa using hlo,r1,r2,r3,r4,rfl⟩
   ·
    refine aW 2 [] m ?_;simp only[↓aD];intro u m;obtain rfl:i=qa.length:=by omega
    refine cP 5 [0] m ?_;simp only[↓aD,jT];intro u m;refine aC (aF fD cG rfl rfl (by omega) (by omega) (nH (ai _))) ?_;simp only[zz];refine eK m 0 rfl rfl rfl cG (by simp;omega) ⟨rfl,rfl⟩ ?_;clear m;intro u m;simp only[zz] at m ;rw[mM (by omega)] at m;refine aS 4 [0] m ?_;simp only[↓aD];intro u m;refine cU m rfl rfl (Kb _ ((m.b 0 rfl).nat (hd.set (show c<4294967296 by omega)) (by simp;omega) (by omega))) ?_;clear m;rintro v u m rfl;refine aS 3 [] m ?_;simp only[↓aD];intro u m;refine aR rfl rfl ?_;try simp only[zD,zE]
    exact⟨_,rfl,m.ext,by first | exact qK.of_trim ((m.b 0 rfl).nat (hd.set (show c<4294967296 by omega)) (by simp;omega) (by omega)) (Mn (by omega) hlo hv hz) | (rw[Nat.add_comm];exact qK.of_trim ((m.b 0 rfl).nat (hd.set (show c<4294967296 by omega)) (by simp;omega) (by omega)) (Mn (by omega) hlo hv hz))⟩
 ·
  obtain⟨qa,rfl⟩:∃q,q=xs:=⟨_,rfl⟩
  obtain⟨qb,rfl⟩:∃q,q=ys:=⟨_,rfl⟩
  obtain⟨Qa,rfl⟩:∃q,q=A:=⟨_,rfl⟩
  obtain⟨Qb,rfl⟩:∃q,q=B:=⟨_,rfl⟩
  have hSa:=hS;have hSb:=hR;refine aW 6 [0] m ?_;simp only[↓aD,jT];refine⟨by omega,?_⟩;intro u m;refine wW fD Gb rfl rfl rfl (show _=qa.length+1 by omega) (show _=qa.length+1 by omega) (by omega) (by omega) (by omega) (by omega) ?_;intro u g1 e hg hB;replace m:=m.newB e hg hB;clear e hg hB;refine aS 2 [] m ?_;simp only[↓aD];intro u m;rw[nN] at m;refine cP 12 [0] m ?_;simp only[↓aD,jT];intro u m;refine cE [6,22] [7,8,23,24,25,26,27,28,29,30,31,32,33,34,35,36,37,38,39,40,41,42,43,44,45,46,47,48] (fun n vs wl=>∃(i c:Nat) (os:List Nat),vs=[.int .u64 (c:Int),.int .i64 (i:Int)]∧Mem w wl [bI g1 (os.map Jc) 231]∧(i≤qa.length)∧(os.length=qa.length+1)∧(val 4294967296 os+4294967296^i*c=val 4294967296 (qa.take i)+val 4294967296 (qb.take i))∧(os.drop i=c_ (qa.length+1-i) 0)∧(eE 4294967296 os)∧(c≤1)∧(n=qa.length-i)) ?_ ?_
  ·
   apply Exists.intro;simp only[zQ,zR,zD,zE];exact⟨0,0,c_ (qa.length+1) 0,rfl,m,by omega,by simp,by simp[lU,val],by simp,fun x hx=>by rw[ir hx];decide,by omega,rfl⟩
  ·
   intro n vs wr hI u K2 hK2;clear m;obtain⟨i,c,os,rfl,m,hi,hlo,hv,hz,hd,hc,hn⟩:=hI;simp only[zu,zF,zG];refine aW 5 [0,0] m ?_;simp only[↓aD];intro u m;refine bG rfl (fun hc2=>?_) (fun hc2=>?_)
   ·
    refine aW 9 [] m ?_;simp only[↓aD];intro u m;obtain⟨a,rfl,hca,hla⟩:=hSa.get (show i<qa.length by omega);refine cP 3 [0] m ?_;simp only[↓aD];intro u m;refine aC (aF fD cG rfl rfl (by omega) (by omega) (jQ (ai _))) ?_;simp only[zz];refine aQ rfl (lies1 (m.ext.cell hca) lI) ?_;simp only[zz];refine aS 12 [0,0] m ?_;simp only[↓aD,jT];refine⟨by omega,?_⟩;intro u m;refine bG rfl (fun hc3=>?_) (fun hc3=>?_)
    ·
     obtain⟨b,rfl,hcb,hlb⟩:=hSb.get (show i<qb.length by omega);refine aW 4 [0] m ?_;simp only[↓aD];intro u m;refine aC (aF fD cG rfl rfl (by omega) (by omega) (jQ (ai _))) ?_;simp only[zz];refine aQ rfl (lies1 (m.ext.cell hcb) lI) ?_;simp only[zz];refine aS 3 [] m ?_;simp only[↓aD];refine⟨by omega,?_⟩;intro u m;obtain⟨s,hs⟩:∃s:Nat,(s:Int)=↑qa[i]+↑c+↑qb[i]:=⟨qa[i]+c+qb[i],by omega⟩
     rw[←hs];have hs2:s=qa[i]+c+qb[i]?.getD 0:=by rw[am (by omega)];simp;omega
     have hyb:qb[i]?.getD 0<4294967296:=by rw[am (by omega)];exact hlb
     refine cP 4 [0] m ?_;simp only[↓aD];intro u m;refine aC (vS rfl rfl (rD (by omega) (by omega))) (aS 1 [0] m ?_);simp only[↓aD];intro u m;refine aC (oK rfl rfl (by omega) (Th (by omega))) ?_;simp only[zz];refine aC (aF fD cG rfl rfl (by omega) (by omega) (nH (ai _))) ?_;simp only[zz];refine eK m 0 rfl rfl rfl cG (by simp;omega) ⟨rfl,rfl⟩ ?_;clear m;intro u m;simp only[zz] at m ;rw[show ((s:Int)%4294967296)=((s%4294967296:Nat):Int) by omega,mM (by omega)] at m;refine aS 7 [0] m ?_;simp only[↓aD];refine⟨by omega,?_⟩;intro u m;obtain⟨r1,r2,r3,r4⟩:=Ci (by omega) hlo hv hz hd hc hs2 hla hyb;rw[show ((i:Int)+1)=((i+1:Nat):Int) by omega,show ((s:Int) / 4294967296)=((s / 4294967296:Nat):Int) by omega];refine hK2 (qa.length-(i+1)) _ _ ?_ ?_ ?_
     · omega
     · simp only[zz,zv]
     ·
      simp only[zQ,zR,zD,zE];exact⟨i+1,s / 4294967296,os.set i (s%4294967296),rfl,m,by omega,by simpa using hlo,r1,r2,r3,r4,rfl⟩
    ·
     obtain⟨s,hs⟩:∃s:Nat,(s:Int)=↑qa[i]+↑c:=⟨qa[i]+c,by omega⟩
     rw[←hs];have hs2:s=qa[i]+c+qb[i]?.getD 0:=by rw[bv (by omega)];simp;omega
     have hyb:qb[i]?.getD 0<4294967296:=by rw[bv (by omega)];decide
     refine aW 5 [0] m ?_;simp only[↓aD];intro u m;refine aC (vS rfl rfl (rD (by omega) (by omega))) (aS 1 [0] m ?_);simp only[↓aD];intro u m;refine aC (oK rfl rfl (by omega) (Th (by omega))) ?_;simp only[zz];refine aC (aF fD cG rfl rfl (by omega) (by omega) (nH (ai _))) ?_;simp only[zz];refine eK m 0 rfl rfl rfl cG (by simp;omega) ⟨rfl,rfl⟩ ?_;clear m;intro u m;simp only[zz] at m ;rw[show ((s:Int)%4294967296)=((s%4294967296:Nat):Int) by omega,mM (by omega)] at m;refine aS 7 [0] m ?_;simp only[↓aD];refine⟨by omega,?_⟩;intro u m;obtain⟨r1,r2,r3,r4⟩:=Ci (by omega) hlo hv hz hd hc hs2 hla hyb;rw[show ((i:Int)+1)=((i+1:Nat):Int) by omega,show ((s:Int) / 4294967296)=((s / 4294967296:Nat):Int) by omega];refine hK2 (qa.length-(i+1)) _ _ ?_ ?_ ?_
     · omega
     · simp only[zz,zv]
     ·
      simp only[zQ,zR,zD,zE];exact⟨i+1,s / 4294967296,os.set i (s%4294967296),rfl,m,by omega,by simpa using hlo,r1,r2,r3,r4,rfl⟩
   ·
    refine aW 2 [] m ?_;simp only[↓aD];intro u m;obtain rfl:i=qa.length:=by omega
    refine cP 5 [0] m ?_;simp only[↓aD,jT];intro u m;refine aC (aF fD cG rfl rfl (by omega) (by omega) (nH (ai _))) ?_;simp only[zz];refine eK m 0 rfl rfl rfl cG (by simp;omega) ⟨rfl,rfl⟩ ?_;clear m;intro u m;simp only[zz] at m ;rw[mM (by omega)] at m;refine aS 4 [0] m ?_;simp only[↓aD];intro u m;refine cU m rfl rfl (Kb _ ((m.b 0 rfl).nat (hd.set (show c<4294967296 by omega)) (by simp;omega) (by omega))) ?_;clear m;rintro v u m rfl;refine aS 3 [] m ?_;simp only[↓aD];intro u m;refine aR rfl rfl ?_;try simp only[zD,zE]
    exact⟨_,rfl,m.ext,by first | exact qK.of_trim ((m.b 0 rfl).nat (hd.set (show c<4294967296 by omega)) (by simp;omega) (by omega)) (Mn (by omega) hlo hv hz) | (rw[Nat.add_comm];exact qK.of_trim ((m.b 0 rfl).nat (hd.set (show c<4294967296 by omega)) (by simp;omega) (by omega)) (Mn (by omega) hlo hv hz))⟩
theorem al4{A B:Option Addr}{xs ys:List Nat}{na nb ca cb:Nat}(w:aj)(hS:kS w A na ca xs)(hR:kS w B nb cb ys)(hle:ys.length≤xs.length)(hge:val 4294967296 ys≤val 4294967296 xs)(hlx:xs.length≤1099511627776):dJ prog 188 [.slice A na ca,.slice B nb cb] w (fun v w'=>qK (val 4294967296 xs-val 4294967296 ys) v w'∧vY w v):=by
 refine⟨anu,?_⟩;have m:=Mem.refl w;obtain rfl:=hS.eq;obtain rfl:=hR.eq
 go_enter func188,ntmps188
 refine eC 8 [0] m ?_;simp only[↓aD,jT];intro u m;refine wW fD Gb rfl rfl rfl (ai _) (ai _) (by omega) (by omega) (by omega) (by omega) ?_;intro u g1 e hg hB;replace m:=m.newB e hg hB;clear e hg hB;refine aS 2 [] m ?_;simp only[↓aD];intro u m;rw[nN] at m;refine cP 12 [0] m ?_;simp only[↓aD,jT];intro u m;refine cE [6,14] [7,8,15,16,17,18,19,20,21,22,23,24,25,26,27,28,29,30,31,32,33,34,35,36,37,38,39,40] (fun n vs wl=>∃(i c:Nat) (os:List Nat),vs=[.int .u64 (c:Int),.int .i64 (i:Int)]∧Mem w wl [bI g1 (os.map Jc) 231]∧(i≤xs.length)∧(os.length=xs.length)∧(val 4294967296 os+val 4294967296 (ys.take i)=val 4294967296 (xs.take i)+4294967296^i*c)∧(os.drop i=c_ (xs.length-i) 0)∧(eE 4294967296 os)∧(c≤1)∧(n=xs.length-i)) ?_ ?_
 ·
  apply Exists.intro;simp only[zQ,zR,zD,zE];exact⟨0,0,c_ xs.length 0,rfl,m,by omega,by simp,by simp[lU,val],by simp,fun x hx=>by rw[ir hx];decide,by omega,rfl⟩
 ·
  intro n vs wr hI u K1 hK1;clear m;obtain⟨i,c,os,rfl,m,hi,hlo,hv,hz,hd,hc,hn⟩:=hI;simp only[zu,zF,zG];refine aW 5 [0,0] m ?_;simp only[↓aD];intro u m;refine bG rfl (fun hc1=>?_) (fun hc1=>?_)
  ·
   refine aW 9 [] m ?_;simp only[↓aD];intro u m;obtain⟨a,rfl,hca,hla⟩:=hS.get (show i<xs.length by omega);refine cP 3 [0] m ?_;simp only[↓aD];intro u m;refine aC (aF fD cG rfl rfl (by omega) (by omega) (jQ (ai _))) ?_;simp only[zz];refine aQ rfl (lies1 (m.ext.cell hca) lI) ?_;simp only[zz];refine aS 1 [0] m ?_;simp only[↓aD];intro u m;refine aC (Fs rfl rfl (lV _)) (aS 10 [0,0] m ?_);simp only[↓aD,jT];intro u m;refine bG rfl (fun hc2=>?_) (fun hc2=>?_)
   ·
    obtain⟨b,rfl,hcb,hlb⟩:=hR.get (show i<ys.length by omega);refine aW 4 [0] m ?_;simp only[↓aD];intro u m;refine aC (aF fD cG rfl rfl (by omega) (by omega) (jQ (ai _))) ?_;simp only[zz];refine aQ rfl (lies1 (m.ext.cell hcb) lI) ?_;simp only[zz];refine aC (Fs rfl rfl (lV _)) (aS 2 [] m ?_);simp only[↓aD];intro u m;obtain⟨s,hs⟩:∃s:Nat,(s:Int)=((↑xs[i]-↑c)%18446744073709551616-↑ys[i])%18446744073709551616:=⟨(((↑xs[i]-↑c)%18446744073709551616-↑ys[i])%18446744073709551616:Int).toNat,by omega⟩
    rw[←hs];have hs2:(s:Int)=((xs[i]:Nat)-(c:Nat)-(ys[i]?.getD 0:Nat):Int)%18446744073709551616:=by rw[am (by omega)];simp only[cu];omega
    have hyb:ys[i]?.getD 0<4294967296:=by rw[am (by omega)];exact hlb
    have hs64:s<18446744073709551616:=by omega
    refine cP 4 [0] m ?_;simp only[↓aD];intro u m;refine aC (vS rfl rfl (rD (by omega) (by omega))) (aS 1 [0] m ?_);simp only[↓aD];intro u m;refine aC (oK rfl rfl (by omega) (alO (by omega))) ?_;simp only[zz];refine aC (aF fD cG rfl rfl (by omega) (by omega) (nH (ai _))) ?_;simp only[zz];refine eK m 0 rfl rfl rfl cG (by simp;omega) ⟨rfl,rfl⟩ ?_;clear m;intro u m;simp only[zz] at m ;rw[show ((s:Int)%4294967296)=((s%4294967296:Nat):Int) by omega,mM (by omega)] at m;refine aS 7 [0] m ?_;simp only[↓aD];refine⟨by omega,?_⟩;intro u m;obtain⟨r1,r2,r3,r4⟩:=Ti (by omega) hlo hv hz hd hc hs2 hla hyb;rw[show ((i:Int)+1)=((i+1:Nat):Int) by omega,show ((s:Int) / 9223372036854775808)=((s / 9223372036854775808:Nat):Int) by omega];refine hK1 (xs.length-(i+1)) _ _ ?_ ?_ ?_
    · omega
    · simp only[zz,zv]
    ·
     simp only[zQ,zR,zD,zE];exact⟨i+1,s / 9223372036854775808,os.set i (s%4294967296),rfl,m,by omega,by simpa using hlo,r1,r2,r3,r4,rfl⟩
   ·
    obtain⟨s,hs⟩:∃s:Nat,(s:Int)=(↑xs[i]-↑c)%18446744073709551616:=⟨((↑xs[i]-↑c)%18446744073709551616:Int).toNat,by omega⟩
    rw[←hs];have hs2:(s:Int)=((xs[i]:Nat)-(c:Nat)-(ys[i]?.getD 0:Nat):Int)%18446744073709551616:=by rw[bv (by omega)];simp only[Option.getD_none];omega
    have hyb:ys[i]?.getD 0<4294967296:=by rw[bv (by omega)];decide
    refine aW 1 [] m ?_;simp only[↓aD];intro u m;have hs64:s<18446744073709551616:=by omega
    refine cP 4 [0] m ?_;simp only[↓aD];intro u m;refine aC (vS rfl rfl (rD (by omega) (by omega))) (aS 1 [0] m ?_);simp only[↓aD];intro u m;refine aC (oK rfl rfl (by omega) (alO (by omega))) ?_;simp only[zz];refine aC (aF fD cG rfl rfl (by omega) (by omega) (nH (ai _))) ?_;simp only[zz];refine eK m 0 rfl rfl rfl cG (by simp;omega) ⟨rfl,rfl⟩ ?_;clear m;intro u m;simp only[zz] at m ;rw[show ((s:Int)%4294967296)=((s%4294967296:Nat):Int) by omega,mM (by omega)] at m;refine aS 7 [0] m ?_;simp only[↓aD];refine⟨by omega,?_⟩;intro u m;obtain⟨r1,r2,r3,r4⟩:=Ti (by omega) hlo hv hz hd hc hs2 hla hyb;rw[show ((i:Int)+1)=((i+1:Nat):Int) by omega,show ((s:Int) / 9223372036854775808)=((s / 9223372036854775808:Nat):Int) by omega];refine hK1 (xs.length-(i+1)) _ _ ?_ ?_ ?_
    · omega
    · simp only[zz,zv]
    ·
     simp only[zQ,zR,zD,zE];exact⟨i+1,s / 9223372036854775808,os.set i (s%4294967296),rfl,m,by omega,by simpa using hlo,r1,r2,r3,r4,rfl⟩
  ·
   refine aW 2 [] m ?_;simp only[↓aD];intro u m;obtain rfl:i=xs.length:=by omega
   refine cP 2 [0] m ?_;simp only[↓aD];intro u m;refine cU m rfl rfl (Kb _ ((m.b 0 rfl).nat hd (by omega) (by omega))) ?_;clear m;rintro v u m rfl;refine aS 3 [] m ?_;simp only[↓aD];intro u m;refine aR rfl rfl ?_;try simp only[zD,zE]
   exact⟨_,rfl,m.ext,qK.of_trim ((m.b 0 rfl).nat hd (n:=xs.length) (by omega) (by omega)) (aj3 hle hlo hd hv hge),vY.of_blk (m.gb 0 rfl)⟩
theorem asb{A B:Option Addr}{xs ys:List Nat}{na nb ca cb:Nat}(w:aj)(hS:kS w A na ca xs)(hR:kS w B nb cb ys)(hlx:xs.length≤1099511627776)(hly:ys.length≤1099511627776):dJ prog 189 [.slice A na ca,.slice B nb cb] w (qK (val 4294967296 xs*val 4294967296 ys)):=by
 refine⟨anv,?_⟩;have m:=Mem.refl w;obtain rfl:=hS.eq;obtain rfl:=hR.eq
 go_enter func189,ntmps189
 refine eC 11 [0] m ?_;simp only[↓aD,jT];refine⟨by omega,?_⟩;intro u m;refine wW fD Gb rfl rfl rfl (show _=xs.length+ys.length by omega) (show _=xs.length+ys.length by omega) (by omega) (by omega) (by omega) (by omega) ?_;intro u g1 e hg hB;replace m:=m.newB e hg hB;clear e hg hB;refine aS 2 [] m ?_;simp only[↓aD];intro u m;rw[nN] at m;refine cP 8 [0] m ?_;simp only[↓aD,jT];intro u m;refine cE [20] [6,7,8,9,10,11,21,22,23,24,25,26,27,28,29,30,31,32,33,34,35,36,37,38,39,40,41,42,43,44,45,46,47,48,49,50,51,52,53,54,55,56,57,58,59,60,61] (fun n vs wl=>∃(i:Nat) (os:List Nat),vs=[.int .i64 (i:Int)]∧Mem w wl [bI g1 (os.map Jc) 231]∧(i≤xs.length)∧(os.length=xs.length+ys.length)∧(val 4294967296 os=val 4294967296 (xs.take i)*val 4294967296 ys)∧(os.drop (i+ys.length)=c_ (xs.length-i) 0)∧(eE 4294967296 os)∧(n=xs.length-i)) ?_ ?_
 ·
  apply Exists.intro;simp only[zQ,zR,zD,zE];exact⟨0,c_ (xs.length+ys.length) 0,rfl,m,by omega,by simp,by rw[lU,kj];simp only[val,Nat.zero_mul],by rw[List.drop_replicate];congr 1;omega,fun x hx=>by rw[ir hx];decide,rfl⟩
 ·
  intro n vs wr hI u K1 hK1;clear m;obtain⟨i,os,rfl,m,hi,hlo,hv,hz,hd,hn⟩:=hI;simp only[zu,zF,zG];refine aW 5 [0,0] m ?_;simp only[↓aD];intro u m;refine bG rfl (fun hc1=>?_) (fun hc1=>?_)
  ·
   refine aW 4 [] m ?_;simp only[↓aD];intro u m;obtain⟨a,rfl,hca,hla⟩:=hS.get (show i<xs.length by omega);refine cP 2 [0] m ?_;simp only[↓aD];intro u m;refine aC (aF fD cG rfl rfl (by omega) (by omega) (jQ (ai _))) ?_;simp only[zz];refine aQ rfl (lies1 (m.ext.cell hca) lI) ?_;simp only[zz];refine aS 15 [0] m ?_;simp only[↓aD,jT];intro u m;refine cE [8,27] [9,10,11,28,29,30,31,32,33,34,35,36,37,38,39,40,41,42,43,44,45,46,47,48,49,50,51,52,53] (fun n vs wl=>∃(k c:Nat) (os:List Nat),vs=[.int .u64 (c:Int),.int .i64 (k:Int)]∧Mem w wl [bI g1 (os.map Jc) 231]∧(k≤ys.length)∧(os.length=xs.length+ys.length)∧(val 4294967296 os+4294967296^(i+k)*c=val 4294967296 (xs.take i)*val 4294967296 ys+4294967296^i*(xs[i]*val 4294967296 (ys.take k)))∧(os.drop (i+ys.length)=c_ (xs.length-i) 0)∧(eE 4294967296 os)∧(c<4294967296)∧(n=ys.length-k)) ?_ ?_
   ·
    apply Exists.intro;simp only[zQ,zR,zD,zE];exact⟨0,0,os,rfl,m,by omega,hlo,by rw[kj,hv];simp only[val,Nat.mul_zero],hz,hd,by omega,rfl⟩
   ·
    intro n vs wr hI u K2 hK2;clear m;obtain⟨k,c,os,rfl,m,hk,hlo,hv2,hz,hd,hc,hn2⟩:=hI;simp only[zu,zF,zG];refine aW 5 [0,0] m ?_;simp only[↓aD];intro u m;refine bG rfl (fun hc2=>?_) (fun hc2=>?_)
    ·
     refine aW 4 [] m ?_;simp only[↓aD];intro u m;obtain⟨b,rfl,hcb,hlb⟩:=hR.get (show k<ys.length by omega);refine cP 2 [0] m ?_;simp only[↓aD];intro u m;refine aC (aF fD cG rfl rfl (by omega) (by omega) (jQ (ai _))) ?_;simp only[zz];refine aQ rfl (lies1 (m.ext.cell hcb) lI) ?_;simp only[zz];refine aS 4 [] m ?_;simp only[↓aD];intro u m;have hco:=(m.b 0 rfl).word (show i+k<os.length by omega);have hlo2:=hd.get (am (show i+k<os.length by omega));obtain⟨hm0,hm1⟩:=aj5 hla hlb;refine lK 5 [0] m ?_;simp only[↓aD];refine⟨by omega,?_⟩;rintro u m rfl;refine aC (aF fD cG rfl rfl (by omega) (by omega) (nH (show _=i+k by omega))) ?_;simp only[zz];refine aQ rfl (lies1 ((m.b 0 rfl).word (show i+k<os.length by omega)) lI) ?_;simp only[zz];refine Df 8 [] m ?_;simp only[↓aD];refine⟨by omega,?_⟩;rintro u m rfl;obtain⟨s,hs⟩:∃s:Nat,s=os[i+k]+xs[i]*ys[k]+c:=⟨_,rfl⟩
     have hsI:(↑os[i+k]+↑xs[i]*↑ys[k]+↑c:Int)=(s:Int):=by rw[hs];simp
     rw[hsI];have hs64:s<18446744073709551616:=by omega
     refine lK 6 [0] m ?_;simp only[↓aD];refine⟨by omega,?_⟩;rintro u m rfl;refine aC (vS rfl rfl (rD (by omega) (by omega))) (Df 1 [0] m ?_);simp only[↓aD];rintro u m rfl;refine aC (oK rfl rfl (by omega) (Th (by omega))) ?_;simp only[zz];refine aC (aF fD cG rfl rfl (by omega) (by omega) (nH (show _=i+k by omega))) ?_;simp only[zz];refine eK m 0 rfl rfl rfl cG (by simp;omega) ⟨rfl,rfl⟩ ?_;clear m;intro u m;simp only[zz] at m ;rw[show ((s:Int)%4294967296)=((s%4294967296:Nat):Int) by omega,mM (by omega)] at m;refine aS 7 [0] m ?_;simp only[↓aD];refine⟨by omega,?_⟩;intro u m;have r1:=aex (by omega) (by omega) hlo hv2 hs;rw[show ((k:Int)+1)=((k+1:Nat):Int) by omega,show ((s:Int) / 4294967296)=((s / 4294967296:Nat):Int) by omega];refine hK2 (ys.length-(k+1)) _ _ ?_ ?_ ?_
     · omega
     · simp only[zz,zv]
     ·
      simp only[zQ,zR,zD,zE];exact⟨k+1,s / 4294967296,os.set (i+k) (s%4294967296),rfl,m,by omega,by simpa using hlo,r1,by rw[Ky (by omega)];exact hz,hd.set (by omega),by omega,rfl⟩
    ·
     refine aW 1 [] m ?_;simp only[↓aD];intro u m;obtain rfl:k=ys.length:=by omega
     refine cP 7 [0] m ?_;simp only[↓aD,jT];refine⟨by omega,?_⟩;intro u m;refine aC (aF fD cG rfl rfl (by omega) (by omega) (nH (show _=i+ys.length by omega))) ?_;simp only[zz];refine eK m 0 rfl rfl rfl cG (by simp;omega) ⟨rfl,rfl⟩ ?_;clear m;intro u m;simp only[zz] at m ;rw[mM (by omega)] at m;refine aS 6 [0] m ?_;simp only[↓aD];refine⟨by omega,?_⟩;intro u m;obtain⟨r1,r2⟩:=aj4 (by omega) hlo hv2 hz;rw[show ((i:Int)+1)=((i+1:Nat):Int) by omega];refine hK1 (xs.length-(i+1)) _ _ ?_ ?_ ?_
     · omega
     · simp only[zz,zv]
     ·
      simp only[zQ,zR,zD,zE];exact⟨i+1,os.set (i+ys.length) c,rfl,m,by omega,by simpa using hlo,r1,r2,hd.set (by omega),rfl⟩
  ·
   refine aW 2 [] m ?_;simp only[↓aD];intro u m;obtain rfl:i=xs.length:=by omega
   refine cP 2 [0] m ?_;simp only[↓aD];intro u m;refine cU m rfl rfl (Kb _ ((m.b 0 rfl).nat hd (by omega) (by omega))) ?_;clear m;rintro v u m rfl;refine aS 3 [] m ?_;simp only[↓aD];intro u m;refine aR rfl rfl ?_;try simp only[zD,zE]
   exact⟨_,rfl,m.ext,qK.of_trim ((m.b 0 rfl).nat hd (n:=xs.length+ys.length) (by omega) (by omega)) (by rw[hv,ew])⟩
end Go.Proofs.YtfekpcimgncioaaGreatDoor
namespace Go.Proofs.YtfekpcimgncioaaGreatDoor
open Go.Proofs.Tryz
open Go.RowKit Go.Lith
set_option maxRecDepth 100000
attribute [local irreducible] au cg fR Code.wp
end Go.Proofs.YtfekpcimgncioaaGreatDoor
namespace Go.Proofs.YtfekpcimgncioaaGreatDoor
open Go.Proofs.Tryz
open Go.RowKit Go.Lith
set_option maxRecDepth 100000
attribute [local irreducible] au cg fR bO cO Code.wp
attribute [local congr] pL fX fY fZ gA gB kI gC gD gE gF gG gH gI gJ gK gL gM eS eT gN gQ gS gT gU kK dC dD cR dB gR kJ eV eW eX gW gX kL
theorem Ur{neg:Bool}{s:ByteArray}(w:aj)(hs:s.size≤1000000000000):dJ prog 185 [.agg #[.bool neg,.string s]] w (qK (aj8 s)):=by
 refine⟨anr,?_⟩;have m:=Mem.refl w
 go_enter func185,ntmps185
 refine eC 9 [0,0] m ?_;simp only[↓aD,xR,ach,aa];intro g1;intro u m;refine aC (tK rfl oT rfl) (aS 2 [0] m ?_);simp only[↓aD];refine⟨by omega,?_⟩;intro u m;rw[show ((s.size:Int)+4-1)=((s.size+3:Nat):Int) by omega];refine aC (yJ rfl rfl (by omega) (sR (n:=4) (by omega))) ?_;simp only[zz];obtain⟨K,hK⟩:∃K,K=(s.size+3) / 4:=⟨_,rfl⟩
 rw[←hK];refine wW fD Gb rfl rfl rfl (show _=K by omega) (show _=K by omega) (by omega) (by omega) (by omega) (by omega) ?_;intro u g2 e hg hB;replace m:=m.newB e hg hB;clear e hg hB;refine aS 2 [] m ?_;simp only[↓aD];intro u m;rw[nN] at m;refine cP 5 [1,0] m ?_;simp only[↓aD,xR,ach,aa];intro u m;refine aC (tK rfl oT rfl) (aS 3 [0] m ?_);simp only[↓aD];intro u m;refine cE [16] [4,5,17,18,19,20,21,22,23,24,25,26,27,28,29,30,31,32,33,34,35,36,37,38,39,40,41] (fun n vs wl=>∃(i:Nat) (os:List Nat),vs=[.int .i64 (i:Int)]∧Mem w wl [bI g2 (os.map Jc) 231,bI g1 [.bool neg,.string s] 95]∧(i≤s.size)∧(os.length=K)∧(eE 4294967296 os)∧(∀(j:Nat) (h:j<os.length),256^(s.size-i-4*j)∣os[j])∧(val 4294967296 os=256^(s.size-i)*val 256 ((oD s).drop (s.size-i)))∧(n=s.size-i)) ?_ ?_
 ·
  apply Exists.intro;simp only[zQ,zR,zD,zE];exact⟨0,c_ K 0,rfl,m,by omega,by simp,fun x hx=>by rw[ir hx];decide,fun j h=>by rw[List.getElem_replicate];exact Nat.dvd_zero _,by rw[lU,agy (by rw[vH];omega),Nat.mul_zero],rfl⟩
 ·
  intro n vs wr hI u K1 hK1;clear m;obtain⟨i,os,rfl,m,hi,hlo,hd,hdv,hv,hn⟩:=hI;simp only[zu,zF,zG];refine aW 5 [0,0] m ?_;simp only[↓aD];intro u m;refine bG rfl (fun hc1=>?_) (fun hc1=>?_)
  ·
   refine aW 12 [1,0] m ?_;simp only[↓aD,xR,ach,aa];intro u m;refine aC (tK rfl oT rfl) (aS 5 [] m ?_);simp only[↓aD];refine⟨by omega,?_⟩;intro u m;obtain⟨p,hp⟩:∃p,p+1+i=s.size:=⟨s.size-1-i,by omega⟩
   rw[show ((s.size:Int)-1-(i:Int))=(p:Int) by omega];obtain⟨b,hb,hpl,hbp⟩:=El hp;obtain⟨f1,f2,f3,f4⟩:=aey (r:=p%4) (j:=p / 4) hpl (by omega) (by omega) (by omega) hd (Kz s) (by rw[show p+1=s.size-i by omega];exact hdv) (by rw[show p+1=s.size-i by omega];exact hv);rw[hbp,Ns] at f1 f3 f4;have hb256:b.toNat<256:=b.toNat_lt;have f5:b.toNat*2^(8*(p%4))<2^(8*(p%4+1)):=by
    rw[show 8*(p%4+1)=8+8*(p%4) by omega,Nat.pow_add];exact Nat.mul_lt_mul_of_pos_right hb256 (Nat.pow_pos (by omega))
   obtain⟨c,f6⟩:∃c,os[p / 4]=2^(8*(p%4+1))*c:=by
    obtain⟨c,hc⟩:=f2;exact⟨c,by rw[hc,Ns]⟩
   refine gc ?_;refine dA m 16 aB (by kernel_rfl) ?_;simp only[zy];refine aJ aH (aJ aH ?_);simp only[zz];refine aJ (yJ rfl rfl (by omega) (sR (n:=4) (by omega))) ?_;simp only[zz];refine aJ (aF fD cG rfl rfl (by omega) (by omega) (nH (show _=p / 4 by omega))) ?_;simp only[zz];refine ql rfl (fun u m=>(lies1 ((m.b 0 rfl).word (show p / 4<os.length by omega)) lI)) ?_;simp only[zz];refine eM 3 [1] ?_;simp only[↓aD,xR,ach,aa];refine aJ ((nZ oT rfl rfl (by omega) (by rw[ai];exact hb))) (aJ (jB kQ aav rfl (vU (by omega) (by omega))) (aJ aH ?_));simp only[zz];refine aJ (eG rfl rfl (by omega) (pH (n:=4))) (aJ (lB rfl rfl ((dY (by omega) (by omega)).trans (show (8:Int)*((p%4:Nat):Int)=((8*(p%4):Nat):Int) by omega))) ?_);simp only[zz];refine aJ (aqK rfl rfl (by omega) (aj6 (n:=8*(p%4)) (by omega) (by omega))) (aJ (as2 rfl rfl ((aj7 (s:=8*(p%4+1)) (a:=b.toNat*2^(8*(p%4))) (b:=os[p / 4]) f5 f6 (by omega)).trans (show (((b.toNat*2^(8*(p%4)))+os[p / 4]:Nat):Int)=((os[p / 4]+b.toNat*2^(8*(p%4)):Nat):Int) by omega))) ?_);simp only[zz];refine aJ (aF fD cG rfl rfl (by omega) (by omega) (nH (show _=p / 4 by omega))) (bD ?_);clear m;intro u m;simp only[zz];refine eK m 0 rfl rfl rfl cG (by simp;omega) ⟨rfl,rfl⟩ ?_;clear m;intro u m;simp only[zz] at m ;rw[mM (by omega)] at m;refine aK (cP 5 [0] m ?_);simp only[↓aD];refine⟨by omega,?_⟩;intro u m;rw[show ((i:Int)+1)=((i+1:Nat):Int) by omega];refine hK1 (s.size-(i+1)) _ _ ?_ ?_ ?_
   · omega
   · simp only[zz,zv]
   ·
    simp only[zQ,zR,zD,zE];exact⟨i+1,os.set (p / 4) (os[p / 4]+b.toNat*2^(8*(p%4))),rfl,m,by omega,by simpa using hlo,hd.set f1,by rw[show s.size-(i+1)=p by omega];exact f3,by rw[show s.size-(i+1)=p by omega];exact f4,rfl⟩
  ·
   refine aW 2 [] m ?_;simp only[↓aD];intro u m;obtain rfl:i=s.size:=by omega
   refine cP 2 [0] m ?_;simp only[↓aD];intro u m;refine cU m rfl rfl (Kb _ ((m.b 0 rfl).nat hd (by omega) (by omega))) ?_;clear m;rintro v u m rfl;refine aS 3 [] m ?_;simp only[↓aD];intro u m;refine aR rfl rfl ?_;try simp only[zD,zE]
   exact⟨_,rfl,m.ext,qK.of_trim ((m.b 0 rfl).nat hd (n:=K) (by omega) (by omega)) (by rw[hv,Nat.sub_self,Nat.pow_zero,Nat.one_mul,lq];rfl)⟩
end Go.Proofs.YtfekpcimgncioaaGreatDoor
namespace Go.Proofs.YtfekpcimgncioaaGreatDoor
open Go.Proofs.Tryz
open Go.RowKit Go.Lith
attribute [local go_sem] oz
def mS(n₀ Bs:Nat)(W W':aj):Prop:=Below n₀ W W'∧W'.heap[Bs]? = W.heap[Bs]?
theorem mS.refl(n₀ Bs:Nat)(W:aj):mS n₀ Bs W W:=⟨Below.refl _ _,rfl⟩
theorem mS.trans{n₀ Bs:Nat}{A B C:aj}(h:mS n₀ Bs A B)(k:mS n₀ Bs B C):mS n₀ Bs A C:=⟨h.1.trans k.1,k.2.trans h.2⟩
theorem mS.box{n₀ Bs:Nat}{A B:aj}(h:mS n₀ Bs A B){v:ah}(hc:A.cell? ⟨Bs,0,none⟩=some v):B.cell? ⟨Bs,0,none⟩=some v:=(World.cell?_of_block h.2).trans hc
set_option maxRecDepth 100000 in
theorem ahS(F:Fence)(n:Nat)(h7:F.fn 314)(hro:F.round=none)(hn:1≤n)(l Bs n₀ cap:Nat)(a:Addr)(xs:List Nat)(hreach:xs.length*8≤140737488351232)(hb:a.block<n₀)(J Jx:List (Nat × Nat)→aj→Prop)
 (hY:∀pre x W,J pre W→pre.length<xs.length→YieldAt F (n-1) prog l #[.int .i64 (x.1:Int),.int .u64 (x.2:Int)] W fun e W' =>
  (e=.returned (.bool true)∧J (pre++[x]) W'∧mS n₀ Bs W W')∨(e=.returned (.bool false)∧Jx (pre++[x]) W'))
 (W:aj) (hBs:W.cell? ⟨Bs,0,none⟩=some (.slice (some a) xs.length cap)) (hc:∀j (h:j<xs.length),W.cell? (a.add j)=some (.int .u64 (xs[j]:Nat))) (h0:J [] W) :
 CallsIn F n prog 314 #[.func (.yield l) #[] #[],.pointer (some ⟨Bs,0,none⟩)] W fun e W'=>(∃v,e=.returned v) ∧
  ((∃ys:List (Nat × Nat),ys.map og=xs.reverse∧J ys W')∨(∃pre,True∧Jx pre W')):=by
 refine callsIn_of_wp func314 rfl h7 ?_ hro;simp only[ntmps314,fy,ay,bu,aa,jq,gj,gl,io,gz,cd,ci]
 gi_wp2
 gi_loopw [3] (fun i wr=>∃(k:Nat) (pre:List (Nat × Nat)),k≤xs.length∧i=.int .i64 ((k:Int)-1)∧pre.length=xs.length-k∧pre.map og=(xs.drop k).reverse∧J pre wr∧mS n₀ Bs W wr)
  (fun i _=>(intOf i+1).toNat)
 case atStart=>exact⟨xs.length,[],av _,rfl,by simp,by simp,h0,mS.refl _ _ _⟩
 case round =>
  obtain⟨k,pre,hk,rfl,hpl,hpre,hJs,hnx⟩:=hrel;have hBw:wr.cell? ⟨Bs,0,none⟩=some (.slice (some a) xs.length cap):=hnx.box hBs;by_cases hk0:0<k
  · have hlt:k-1<xs.length:=by omega
    have hcx:wr.cell? (a.add (k-1))=some (.int .u64 ((xs[k-1]:Nat):Int)):=(hnx.1.cell (by rw[Ch];exact hb)).trans (hc _ hlt);obtain⟨fn,tmps,assign,body,hy,hR⟩:=hY pre (k-1,xs[k-1]) wr hJs (by omega);dsimp only at hy;obtain⟨j,rfl⟩:∃j,k=j+1:=⟨k-1,by omega⟩
    rw[show (((j+1:Nat):Int)-1)=(j:Int) by omega];simp only[Nat.add_sub_cancel] at hy hR hcx hlt
    gi_wp2
    refine hR.mono ?_;rintro e W3 (⟨rfl,hJ3,hk3⟩ | ⟨rfl,hJx3⟩)
    · gi_wp2
      go_roundw
      case rel=>exact⟨j,pre++[(j,xs[j])],by omega,by simp,by simp;omega,by rw[List.drop_eq_getElem_cons hlt,List.reverse_cons,cl,hpre];rfl,hJ3,hnx.trans hk3⟩
      case measure=>simp[intOf]
    · gi_wp2
      refine bodyPost_ret (results_none rfl _ _ _) rfl ?_;exact⟨⟨_,rfl⟩,.inr ⟨_,trivial,hJx3⟩⟩
  · obtain rfl:k=0:=by omega
    gi_wp2
    go_end0
    exact⟨⟨_,rfl⟩,.inl ⟨pre,by rw[hpre];rfl,hJs⟩⟩
set_option maxRecDepth 100000 in
theorem Xi(F:Fence)(n:Nat)(h7:F.fn 314)(hro:F.round=none)(l Bs cap:Nat)(A:Option Addr)(J:List (Nat × Nat)→aj→Prop)(W:aj)(hBs:W.cell? ⟨Bs,0,none⟩=some (.slice A 0 cap))(h0:J [] W) :
 CallsIn F n prog 314 #[.func (.yield l) #[] #[],.pointer (some ⟨Bs,0,none⟩)] W fun e W'=>(∃v,e=.returned v)∧J [] W':=by
 refine callsIn_of_wp func314 rfl h7 ?_ hro;simp only[ntmps314,fy,ay,bu,aa,jq,gj,gl,io,gz,cd,ci]
 gi_wp2
 gi_loopw [3] (fun i wr=>i=.int .i64 (-1)∧J [] wr) (fun _ _=>0)
 case atStart=>exact⟨rfl,h0⟩
 case round =>
  obtain⟨rfl,hJs⟩:=hrel
  gi_wp2
  go_end0
  exact⟨⟨_,rfl⟩,hJs⟩
theorem akP(F:Fence)(n:Nat)(h5:F.fn 257)(hro:F.round=none)(a:Option Addr)(len cap:Nat)(w:aj) :
 CallsIn F n prog 257 #[.slice a len cap] w fun e w'=>e=.returned (.func (.func 314) #[] #[.pointer (some ⟨w.heap.size,0,none⟩)])∧w'=w.alloc (.cells #[.slice a len cap] 233):=by
 refine callsIn_of_wp func257 rfl h5 ?_ hro;simp only[ntmps257,fy,ay,bu,aa,jq,gj,gl,io,gz,cd,ci]
 gi_wp2
 go_ret
 exact⟨rfl,rfl⟩
theorem acp(F:Fence)(n:Nat)(h7:F.fn 314)(hro:F.round=none)(hn:1≤n)(Bs n₀ cap:Nat)(A:Option Addr)(xs:List Nat)(hreach:xs.length*8≤140737488351232)(w:aj)(hBs:Bs<w.heap.size)(hn₀:n₀≤w.heap.size)
 (hc:w.cell? ⟨Bs,0,none⟩=some (.slice A xs.length cap)) (hI:∀(i x:Nat),xs[i]? = some x→∃a,A=some a∧w.cell? (a.add i)=some (.int .u64 (x:Int))) (hA:∀a,0<xs.length→A=some a→a.block<n₀) :
 SeqStopsK F n prog 314 #[.pointer (some ⟨Bs,0,none⟩)] (fun x:Nat × Nat=>#[Value.int .i64 (x.1:Int),Value.int .u64 (x.2:Int)]) (mS n₀ Bs) (fun ys=>ys.map og=xs.reverse) (fun _=>True) xs.length w:=fun l J Jx W hW _ _ hY h0=>by
 have hc':=(hW.cell (p:=⟨Bs,0,none⟩) hBs).trans hc;rcases Nat.eq_zero_or_pos xs.length with h | h
 · obtain rfl:xs=[]:=List.eq_nil_of_length_eq_zero h
   exact (Xi F n h7 hro l Bs cap A J W hc' h0).mono fun e W' ⟨he,hj⟩=>⟨he,.inl ⟨[],rfl,hj⟩⟩
 · obtain⟨a,rfl,_⟩:=hI 0 xs[0] (am h)
   refine ahS F n h7 hro hn l Bs n₀ cap a xs hreach (hA a h rfl) J Jx hY W hc' (fun j hj=>?_) h0;obtain⟨a',e,hcl⟩:=hI j xs[j] (am hj);cases e;exact (hW.cell (by rw[Ch];exact fm (hA a h rfl) hn₀)).trans hcl
theorem apz{A:Option Addr}{n cap:Nat}(w:aj):dJ prog 257 [.slice A n cap] w (fun v w'=>∃g,v=.func (.func 314) #[] #[.pointer (some ⟨g,0,none⟩)]∧w.heap.size≤g∧fK w' g [.slice A n cap] 233):=by
 refine⟨an7,(callsIn_wide (n:=2)).1 ((akP Fence.wide 2 trivial rfl A n cap w).mono ?_)⟩;rintro e w' ⟨rfl,rfl⟩;exact⟨_,rfl,(fN.refl w).alloc _,_,rfl,av _,iZ w _ _⟩
end Go.Proofs.YtfekpcimgncioaaGreatDoor
namespace Go.Proofs.YtfekpcimgncioaaGreatDoor
open Go.Proofs.Tryz
open Go.RowKit Go.Lith
set_option maxRecDepth 100000
attribute [local irreducible] au cg fR Code.wp
attribute [local go_sem] oz
theorem akQ:(prog.info? 5).map (fun i=>(i.zero,i.size,i.bytes))=some (some (.int .u8 0),1,1):=by kernel_rfl
theorem Ql{W w1:aj}{tmp:Obj}{v v':ah}{base size k g g3:Nat}{e t:an}{xs cs:List ah}(hB:fK W g cs t)(hte:t≠e)(hr:W.ownsRow base e size v k xs)(hg:(W.alloc tmp).grownBy w1 v.ownBlock)(hne:g≠g3):(w1.setCell ⟨g3,0,none⟩ v').heap[g]? = W.heap[g]?:=by
 have h1:some g≠v.ownBlock:=by
  rcases hr.2 with ⟨rfl,_⟩ | ⟨g',cap,cur,rfl,_,hgb,_⟩
  · simp[Value.ownBlock]
  ·
   intro h;obtain rfl:g=g':=by simpa[Value.ownBlock] using h
   rw[hB] at hgb;cases hgb;exact hte rfl
 exact ((Below.heap_setCell w1 ⟨g3,0,none⟩ v' g hne).trans (hg.block g (by simp;have:=hB.lt;omega) h1)).trans (Below.heap_alloc W tmp g hB.lt)
theorem Fe{A:Option Addr}{xs:List Nat}{na cap:Nat}{neg:Bool}(w:aj)(hS:kS w A na cap xs)(hl:xs.length≤100000000000):dJ prog 184 [.slice A na cap,.bool neg] w (fun v _=>v=W (Rx neg (val 4294967296 xs))):=by
 skip
 refine⟨anq,?_⟩;have hX:=fN.refl w;obtain rfl:=hS.eq;have hlt:=tN xs;have hle:=hS.le;refine (callsIn_wide (n:=4)).1 (callsIn_of_wp_marks func184 rfl trivial ?_ rfl);simp only[ntmps184,fy,ay,bu,aa,jq,gj,gl,io,gz,cd,ci];refine wpIn_wide.2 (bA (fun K1 hK1=>ap ?_));refine Bz xA rfl ?_;intro w1 g1 hE hg1 hB1;have hG1:=az hX.size hg1;replace hX:=hX.trans hE;clear hE hg1;simp only[zz];refine aK (hK1 _ _ ?_);refine bA (fun K2 hK2=>ap (aC aH ?_));simp only[zz];refine bJ rfl rfl (Kb _ (hS.ext hX)) ?_;rintro v w2 hE rfl;replace hB1:=hB1.ext hE;replace hX:=hX.trans hE;clear hE;simp only[zz];refine aC aM ?_;simp only[zz];refine aK ?_;obtain⟨ys,hys⟩:∃ys,ys=trim xs:=⟨_,rfl⟩
 rw[←hys] at hlt ⊢;refine hK2 _ _ (bA (fun K3 hK3=>ap (aC aH (aC (Ip rfl fD rfl) (aC (lB rfl rfl (dY (by omega) (by omega))) ?_)))));simp only[zz];refine wW oA Sy rfl rfl rfl (show _=0 by omega) (show _=4*ys.length by omega) (by omega) (by omega) (by omega) (by omega) ?_;intro w3 g2 hE hg2 hB2;have hG2:=az hX.size hg2;have hN2_1:g2≠g1:=jz (fm hB1.lt hg2);replace hB1:=hB1.ext hE;replace hX:=hX.trans hE;clear hE hg2;simp only[zz];refine Bz agr rfl ?_;intro w4 g3 hE hg3 hB3;have hG3:=az hX.size hg3;have hN3_1:g3≠g1:=jz (fm hB1.lt hg3);have hN3_2:g3≠g2:=jz (fm hB2.lt hg3);replace hB1:=hB1.ext hE;replace hB2:=hB2.ext hE;replace hX:=hX.trans hE;clear hE hg3;simp only[zz];refine Ca rfl (by simp only[zz];rfl) (by exact aep) hB3 (by simp) (by simp[n_]) ?_;clear hB3;intro w5 hC hB3;replace hB1:=hB1.chg hC (by first | exact hN1_3 | exact Ne.symm hN3_1);replace hB2:=hB2.chg hC (by first | exact hN2_3 | exact Ne.symm hN3_2);replace hX:=hX.chg hC hG3;clear hC;simp only[zy,zx,cA,aa] at hB3;refine aK (hK3 _ _ ?_);refine bA (fun K4 hK4=>bA (fun K5 hK5=>ap (aC aH ?_)));simp only[zz];refine bJ rfl rfl (apz _) ?_;rintro v w6 hE ⟨g4,rfl,hg4,hB4⟩;have hG4:=az hX.size hg4;have hN4_1:g4≠g1:=jz (fm hB1.lt hg4);have hN4_2:g4≠g2:=jz (fm hB2.lt hg4);have hN4_3:g4≠g3:=jz (fm hB3.lt hg4);replace hB1:=hB1.ext hE;replace hB2:=hB2.ext hE;replace hB3:=hB3.ext hE;replace hX:=hX.trans hE;clear hE hg4;simp only[zz];refine aK (hK5 _ _ ?_);refine wp_block ((wpIn_wide (n:=4)).1 ?_);have hbase:w.heap.size≤w6.heap.size:=hX.size;obtain⟨n0,hn0⟩:∃n0,n0=w.heap.size:=⟨_,rfl⟩
 have hT:kS w6 A ys.length cap ys:=(((hS.ext hX).take (trim xs).length).as (kH xs).symm |> fun h=>by rw[←kH,←hys] at h;exact h)
 have hA:∀a,0<ys.length→A=some a→a.block<w.heap.size:=fun a h0 e=>by
  obtain⟨a',e',hc⟩:=hS.row 0 (xs[0]'(by omega)) (am (by omega));rw[e] at e';cases e';have:=World.block_lt_of_cell? _ _ hc;rwa [Ch] at this
 refine wpIn_rangeFunc_ownG (F:=Fence.wide) rfl (by omega) (gf:=314) (lb:=#[.pointer (some ⟨g4,0,none⟩)]) rfl trivial (enters_of func314 (by kernel_rfl) rfl)
  (acp Fence.wide 3 trivial rfl (by omega) g4 w.heap.size cap A ys (by omega) w6 hB4.lt hX.size (hB4.cell rfl) hT.row hA) mS.trans (fun W l o o' hl ho _ _=>⟨belowK_b (w:=w6) hX.size W l o o' hl ho ‹_› ‹_›,World.putObj_heap_other (by have:=hB4.lt;omega)⟩) (Below.refl _ _) (fun _=>rfl)
  (fun pre W=>((∃v,Boxed W g3 300 v∧W.ownsRow w.heap.size 5 1 v (Zn pre).length ((Zn pre).map u8v)∧True)∧fK W g1 [.bool false,.string ⟨#[]⟩] 95∧fK W g4 [.slice A ys.length cap] 233)∧Below w.heap.size w W)
  (fun _ _ _=>False)
  (OwnFrom.and (OwnFrom.and (Own.from (holdsRow_own w.heap.size g3 300 5 1 (fun pre=>(Zn pre).length) (fun pre=>(Zn pre).map u8v) (fun _ _=>True)) _) (Own.from (fun s X Y row hs hg hr=>⟨(grownBy_keeps_cells hg hr hs.1 rfl).trans hs.1,(grownBy_keeps_cells hg hr hs.2 rfl).trans hs.2⟩) _)) (ownFrom_below (av _) hX.size))
  (fun _ _ _ _ _ hs _ _=>hs)
  ⟨⟨⟨_,hB3,⟨rfl,.inr ⟨g2,4*ys.length,_,rfl,hG2,hB2,br _,by show _≤9223372036854775807;omega,by simp,by simp[Zn]⟩⟩,trivial⟩,hB1,hB4⟩,hX⟩
  (fun x=>{ tmps:=#[.slice A ys.length cap,.bool neg,undef,undef,.pointer (some ⟨g1,0,none⟩),.pointer (some ⟨g3,0,none⟩),undef,.int .u64 (x.2:Int),undef,.slice A xs.length cap,.slice A ys.length cap,.slice A ys.length cap,.int .i64 (ys.length:Int),.int .i64 (4*(ys.length:Int)),.slice (some ⟨g2,0,none⟩) 0 (4*ys.length),.slice A ys.length cap,.func (.func 314) #[] #[.pointer (some ⟨g4,0,none⟩)],.int .i64 (x.1:Int),.int .u64 (x.2:Int),undef,undef,undef,undef,undef,undef,undef,undef,undef,undef,undef,undef,undef,undef,undef,undef,undef,undef,undef,undef,undef,undef,undef,undef],defers:=[] }) ?assign ?body ?done ?stop
 case assign =>
  intro l x W K hK;clear hys
  gi_wp2
  exact hK
 case stop =>
  rintro D c pre W _ _ h _;exact h.elim
 case body =>
  rintro l pre x W ⟨⟨⟨v,hv,hrow,_⟩,hB1',hB4'⟩,hB⟩ hlt;have hc:=hv.cell;have hwl:(Zn pre).length≤4*pre.length:=Nat.le_of_eq (Nu pre);clear hys;obtain⟨i0,hi,hz0,hz1,hz2⟩:=info_parts akQ
  gi_wp2_with (gi_at_builtin;refine wpListIn_append_own _ rfl _ _ 300 rfl w.heap.size 5 i0 (.int .u8 0) 1 1 oA hi hz0 hz1 hz2 rfl (by decide) _ _ _ rfl (hrow.alloc _) ⟨W.heap.size,0,none⟩ 4 4 [.int .u8 ((x.2:Int) / 16777216%256),.int .u8 ((x.2:Int) / 65536%256),.int .u8 ((x.2:Int) / 256%256),.int .u8 ((x.2:Int)%256)] rfl rfl ((iZ W _ 5).row 0) (by simp[n_]) (by show _≤9223372036854775807;omega) (by omega) (by have:=hB.size;simp;omega) ?_;intro v' w1 hown' hgrow _;obtain⟨g',cap',rfl⟩:=ownsRow_succ hown';obtain⟨hv1,hv2,hr2,hk2,hb2⟩:=hv.appended (by decide) hrow hB.size hG3 hown' hgrow;have hc1:=hv1.cell;have hf1:=hv1.frozen)
  have e1:=Ql hB1' (by decide) hrow hgrow (Ne.symm hN3_1) (v':=.slice (some ⟨g',0,none⟩) ((Zn pre).length+3+1) cap');have e4:=Ql hB4' (by decide) hrow hgrow hN4_3 (v':=.slice (some ⟨g',0,none⟩) ((Zn pre).length+3+1) cap');refine⟨hk2.from _,⟨hb2,e4⟩,⟨⟨_,hv2,?_,trivial⟩,e1.trans hB1',e4.trans hB4'⟩,hB.trans hb2⟩;rw[agz,aw,cl];have e:(wb x.2).map u8v=[.int .u8 ((x.2:Int) / 16777216%256),.int .u8 ((x.2:Int) / 65536%256),.int .u8 ((x.2:Int) / 256%256),.int .u8 ((x.2:Int)%256)]:=by simp[wb,UInt8.toNat_ofNat']
  rw[e];exact hr2
 rintro D ls W hD hls ⟨⟨⟨v,hv,hrow,_⟩,hB1',_⟩,hX'⟩ hK';replace hD:=az hX.size hD;clear hB1 hB2 hB3 hB4 hX hG2 hG4 hN2_1 hN3_2 hN4_1 hN4_2 hN4_3 hbase hT;have hB1:=hB1';have hB3:fK W g3 [v] 300:=hv;have hX:fN w W:=hX';have hK:Def W D:=⟨hK'⟩
 have hDg1:=hK.ne hB1;have hlb:(Zn ls).length≤1000000000000000:=by
  have:=congrArg List.length hls;rw[List.length_map,List.length_reverse] at this;rw[Nu];omega
 have hbs:nC (jA (Zn ls))=jX (Rx neg (val 4294967296 xs)):=by
  have e:Zn ls=ys.reverse.flatMap wb:=by rw[←hls,List.flatMap_map];rfl
  have hd:eE 4294967296 ys:=by rw[hys];exact hS.digs.trim
  rw[e,abI hd neg,hys,Gf]
 dsimp only;refine hK4 _ _ (bA (fun K6 hK6=>ap ?_));refine aQ rfl (hB3.lies1 aj0 rfl) ?_;simp only[zz];refine fF (Nt oA aav oT rfl hrow) ?_;simp only[zz];refine Vr rfl rfl (aco hlb) ?_;intro w7 hE;replace hB1:=hB1.ext hE;(try replace hK:=hK.ext hE);replace hX:=hX.trans hE;clear hE;simp only[zz];refine aC aM ?_;simp only[zz];refine aK ?_;rw[hbs];refine hK6 _ _ (bA (fun K7 hK7=>?_));cases neg
 ·
  refine ap (aC aH (aC aH ?_));simp only[zz];refine oX rfl ?_;simp only[zz];refine oX rfl ?_;simp only[zz];refine aC (Cb rfl) (aC aH (aC (zZ rfl rfl) ?_));simp only[zz];refine Ca rfl (by simp only[zz];rfl) (by exact aP) hB1 (by simp) (by simp[n_]) ?_;clear hB1;intro w8 hC hB1
  (try replace hK:=hK.chg hC (by first | assumption | rfl));replace hX:=hX.chg hC hG1
  clear hC;simp only[zy,zx,cA,aa] at hB1;refine aK (hK7 _ _ ?_);refine wp_ret ?_;try simp only[Exit.inBlock,Exit.then]
  refine abH hK ?_;replace hB1:=hB1.putD hK (o:=.deferred none);replace hX:=hX.putD hD (o:=.deferred none);refine aR rfl ⟨_,rfl,(hB1.lies cL aP rfl rfl)⟩ ?_;try simp only[zD,zE]
  exact⟨_,rfl,hX,by simp[Lith.W,Wd,Nv]⟩
 ·
  refine ap (aC aH (aC aH ?_));simp only[zz];refine dN rfl (aC aH ?_);simp only[zz];refine dN rfl (aC (amy oT rfl rfl) (aC (sM rfl) (aC aH ?_)));simp only[zz];refine aC (zZ rfl rfl) ?_;simp only[zz];refine Ca rfl (by simp only[zz];rfl) (by exact aP) hB1 (by simp) (by simp[n_]) ?_;clear hB1;intro w8 hC hB1
  (try replace hK:=hK.chg hC (by first | assumption | rfl));replace hX:=hX.chg hC hG1
  clear hC;simp only[zy,zx,cA,aa] at hB1;refine aK (hK7 _ _ ?_);refine wp_ret ?_;try simp only[Exit.inBlock,Exit.then]
  refine abH hK ?_;replace hB1:=hB1.putD hK (o:=.deferred none);replace hX:=hX.putD hD (o:=.deferred none);refine aR rfl ⟨_,rfl,(hB1.lies cL aP rfl rfl)⟩ ?_;try simp only[zD,zE]
  exact⟨_,rfl,hX,by simp[Lith.W,Wd,Nv]⟩
end Go.Proofs.YtfekpcimgncioaaGreatDoor
namespace Go.Proofs.YtfekpcimgncioaaGreatDoor
open Go.Proofs.Tryz
open Go.RowKit Go.Lith
set_option maxRecDepth 100000
attribute [local irreducible] au cg fR bO cO Code.wp
attribute [local congr] pL fX fY fZ gA gB kI gC gD gE gF gG gH gI gJ gK gL gM eS eT gN gQ gS gT gU kK dC dD cR dB gR kJ eV eW eX gW gX kL
theorem Kc{a:Int}(ha:Bd 1000000 a):dL prog 191 [W a] (.int .i64 (aY a)):=by
 intro w;refine⟨anw,?_⟩;have m:=Mem.refl w
 go_enter func191,ntmps191
 refine eC 10 [0,0] m ?_;simp only[↓aD,fC];intro g1;intro u m;refine bJ rfl rfl (Ur _ (kF ha)) ?_;rintro v u e ⟨A1,c1,rfl,hN1⟩;replace m:=m.ext' e;simp only[zz];rw[kD] at hN1 ⊢;refine Df 4 [0,0] m ?_;simp only[↓aD,jT];rintro u m rfl;refine bG rfl (fun hc1=>?_) (fun hc1=>?_)
 ·
  have h0:=adp.1 hc1;refine jF 5 [] m ?_;simp only[↓aD];rintro u m rfl;refine aR rfl rfl ?_;try simp only[zD,zE]
  exact⟨_,rfl,m.ext,by rw[h0];rfl⟩
 ·
  refine jF 6 [0,0] m ?_;simp only[↓aD,mE,Hi,aa];rintro u m rfl;refine jZ rfl (fun hc2=>?_) (fun hc2=>?_)
  ·
   have hn:=Jd hc2;refine jF 5 [] m ?_;simp only[↓aD];rintro u m rfl;refine aR rfl rfl ?_;try simp only[zD,zE]
   exact⟨_,rfl,m.ext,by rw[Cj hn]⟩
  ·
   have hn:=Eo hc2;have h0:¬a=0:=fun e=>hc1 (adp.2 e);refine jF 7 [] m ?_;simp only[↓aD];rintro u m rfl;refine aR rfl rfl ?_;try simp only[zD,zE]
   exact⟨_,rfl,m.ext,by rw[Ck (by omega)]⟩
theorem asc{a:Int}(ha:Bd 1000000 a):dL prog 267 [W a] (W (-a)):=by
 intro w;refine⟨an9,?_⟩;have m:=Mem.refl w
 go_enter func267,ntmps267
 refine eC 6 [0] m ?_;simp only[↓aD,mR];intro g1 g2;intro u m;refine mh m [false,true] [(2,true),(0,true),(3,true),(4,true),(1,false),(5,false),(6,false)] aB (by kernel_rfl) (bT (fun _ _ _ _ _ h=>h)) (ol:=?_) ?hol ?_
 case hol=>simp only[zw,zQ,zR];try rfl
 clear m;intro u m;refine Oi 4 [0,0] ?_;simp only[↓aD,mE,fC,Hi,aa];refine bK (bJ rfl rfl (Ur _ (kF ha)) ?_);rintro v u e ⟨A1,c1,rfl,hN1⟩;replace m:=m.ext' e;simp only[zz];rw[kD] at hN1 ⊢;refine aK (⟨m.sel [false,true],?_⟩);refine bK (bJ rfl rfl (Fe _ hN1 (az (Ep ha) (by decide))) ?_);rintro v u e rfl;replace m:=m.ext' e;simp only[zz];simp only[iK];refine aK (⟨m.sel [false,true],?_⟩);refine bK (bR m 0 rfl rfl rfl aP (iS rfl) rfl ?_);clear m;intro u m;simp only[zy,zx,cA,zF,zG,aa] at m;refine aK (⟨m.sel [false,true],?_⟩);refine cK ?_;rw[adm] at m;refine lK 1 [] m ?_;simp only[↓aD];rintro u m rfl;exact aR rfl ⟨_,rfl,((m.b 0 rfl).full cL aP)⟩ (⟨_,rfl,m.ext,rfl⟩)
theorem Us{a b:Int}(ha:Bd 1000000 a)(hb:Bd 1000000 b):dL prog 121 [W a,W b] (W (a+b)):=by
 intro w;refine⟨amS,?_⟩;have m:=Mem.refl w;have hla:=Ep ha;have hlb:=Ep hb;have hls:=Ep (Bd.add ha hb)
 go_enter func121,ntmps121
 refine eC 7 [0] m ?_;simp only[↓aD,mR];intro g1 g2 g3;intro u m;refine mh m [true,true,true] [(0,true),(2,true),(1,false),(3,false),(4,true),(5,true)] aB (by kernel_rfl) (bT (fun _ _ _ _ _ h=>h)) (ol:=?_) ?hol ?_
 case hol=>simp only[zw,zQ,zR];try rfl
 clear m;intro u m;refine Oi 2 [2,1] ?_;simp only[↓aD,fC];refine bK (bJ rfl rfl (Ur _ (kF ha)) ?_);rintro v u e ⟨A1,c1,rfl,hN1⟩;replace m:=m.ext' e;simp only[zz];rw[kD] at hN1 ⊢;refine aK (⟨m,?_⟩);refine bK (bJ rfl rfl (Ur _ (kF hb)) ?_);rintro v u e ⟨A2,c2,rfl,hN2⟩;replace m:=m.ext' e;replace hN1:=hN1.ext e;simp only[zz];rw[kD] at hN2 ⊢;refine aK (⟨m,?_⟩);refine bB aM (bB aM (cK ?_));refine lK 8 [2,1,0] m ?_;simp only[↓aD,mE,Hi,aa];rintro u m rfl;refine aC (abr Yx rfl rfl) (Df 2 [0] m ?_);simp only[↓aD];rintro u m rfl;refine bG rfl (fun hc1=>?_) (fun hc1=>?_)
 ·
  refine jF 1 [0] m ?_;simp only[↓aD];rintro u m rfl;refine mhe m [false,true,true] [(0,true),(1,true),(3,true),(4,true),(2,false),(5,false),(6,false)] aB (by kernel_rfl) (bT (fun _ _ _ _ _ h=>h)) (ol:=?_) ?hol ?_
  case hol=>simp only[zw,zQ,zR];try rfl
  clear m;intro u e m;replace hN1:=hN1.ext e;replace hN2:=hN2.ext e;refine Oi 4 [1] ?_;simp only[↓aD,mE,Hi,aa];refine bK (bJ rfl rfl (asa _ hN1 hN2 (az hla (by decide)) (az hlb (by decide))) ?_);rintro v u e ⟨A3,c3,rfl,hN3⟩;replace m:=m.ext' e;refine aK (⟨m.sel [false,true,true],?_⟩);refine bK ?_;simp only[zz];simp only[iK] at hN3 ⊢;have hl3:(digs 4294967296 (a.natAbs+b.natAbs)).length≤100000000000:=az (aeC ha hb) (by decide);refine bJ rfl rfl (Fe _ hN3 hl3) ?_;rintro v u e rfl;replace m:=m.ext' e;simp only[zz];simp only[iK];refine aK (⟨m.sel [false,true,true],?_⟩);refine bK (bR m 0 rfl rfl rfl aP (iS rfl) rfl ?_);clear m;intro u m;simp only[zy,zx,cA,zF,zG,aa] at m;refine aK (⟨m.sel [false,true,true],?_⟩);refine cK ?_;rw[adn hc1] at m;refine lK 1 [] m ?_;simp only[↓aD];rintro u m rfl;exact aR rfl ⟨_,rfl,((m.b 0 rfl).full cL aP)⟩ (⟨_,rfl,m.ext,rfl⟩)
 ·
  refine jF 4 [0] m ?_;simp only[↓aD];rintro u m rfl;refine bJ rfl rfl (ar9 _ hN1 hN2 (Ab _) (Ab _)) ?_;rintro v u e rfl;replace m:=m.ext' e;replace hN1:=hN1.ext e;replace hN2:=hN2.ext e;simp only[zz];simp only[iK];refine Df 3 [0,0] m ?_;simp only[↓aD];rintro u m rfl;refine bG rfl (fun hc2=>?_) (fun hc2=>?_)
  ·
   have hlt:=Nr.1 hc2;refine jF 1 [0] m ?_;simp only[↓aD];rintro u m rfl;refine mhe m [false,true,true] [(0,true),(1,true),(3,true),(4,true),(2,false),(5,false),(6,false)] aB (by kernel_rfl) (bT (fun _ _ _ _ _ h=>h)) (ol:=?_) ?hol ?_
   case hol=>simp only[zw,zQ,zR];try rfl
   clear m;intro u e m;replace hN1:=hN1.ext e;replace hN2:=hN2.ext e;refine Oi 4 [0] ?_;simp only[↓aD,mE,Hi,aa];refine bK (bJ rfl rfl (al4 _ hN2 hN1 (We (Nat.le_of_lt hlt)) (by simp only[iK];omega) (az hlb (by decide))) ?_);rintro v u e ⟨⟨A3,c3,rfl,hN3⟩,_⟩;replace m:=m.ext' e;simp only[zz];simp only[iK] at hN3 ⊢;have hl3:=We (Nat.sub_le b.natAbs a.natAbs);refine aK (⟨m.sel [false,true,true],?_⟩);refine bK (bJ rfl rfl (Fe _ hN3 (az hl3 (az hlb (by decide)))) ?_);rintro v u e rfl;replace m:=m.ext' e;simp only[zz];simp only[iK];refine aK (⟨m.sel [false,true,true],?_⟩);refine bK (bR m 0 rfl rfl rfl aP (iS rfl) rfl ?_);clear m;intro u m;simp only[zy,zx,cA,zF,zG,aa] at m;refine aK (⟨m.sel [false,true,true],?_⟩);refine cK ?_;rw[agA hc1 hlt] at m;refine lK 1 [] m ?_;simp only[↓aD];rintro u m rfl;exact aR rfl ⟨_,rfl,((m.b 0 rfl).full cL aP)⟩ (⟨_,rfl,m.ext,rfl⟩)
  ·
   have hge:b.natAbs≤a.natAbs:=Nat.le_of_not_lt fun h=>hc2 (Nr.2 h);refine jF 3 [0] m ?_;simp only[↓aD];rintro u m rfl;refine mhe m [false,true,true] [(0,true),(1,true),(3,true),(4,true),(2,false),(5,false),(6,false)] aB (by kernel_rfl) (bT (fun _ _ _ _ _ h=>h)) (ol:=?_) ?hol ?_
   case hol=>simp only[zw,zQ,zR];try rfl
   clear m;intro u e m;replace hN1:=hN1.ext e;replace hN2:=hN2.ext e;refine Oi 4 [1] ?_;simp only[↓aD,mE,Hi,aa];refine bK (bJ rfl rfl (al4 _ hN1 hN2 (We hge) (by simp only[iK];omega) (az hla (by decide))) ?_);rintro v u e ⟨⟨A3,c3,rfl,hN3⟩,_⟩;replace m:=m.ext' e;simp only[zz];simp only[iK] at hN3 ⊢;have hl3:=We (Nat.sub_le a.natAbs b.natAbs);refine aK (⟨m.sel [false,true,true],?_⟩);refine bK (bJ rfl rfl (Fe _ hN3 (az hl3 (az hla (by decide)))) ?_);rintro v u e rfl;replace m:=m.ext' e;simp only[zz];simp only[iK];refine aK (⟨m.sel [false,true,true],?_⟩);refine bK (bR m 0 rfl rfl rfl aP (iS rfl) rfl ?_);clear m;intro u m;simp only[zy,zx,cA,zF,zG,aa] at m;refine aK (⟨m.sel [false,true,true],?_⟩);refine cK ?_;rw[agB hc1 hge] at m;refine lK 1 [] m ?_;simp only[↓aD];rintro u m rfl;exact aR rfl ⟨_,rfl,((m.b 0 rfl).full cL aP)⟩ (⟨_,rfl,m.ext,rfl⟩)
theorem Ea{a b:Int}(ha:Bd 1000000 a)(hb:Bd 1000000 b):dL prog 192 [W a,W b] (W (a-b)):=by
 intro w;refine⟨anx,?_⟩;have m:=Mem.refl w
 go_enter func192,ntmps192
 refine eC 7 [0] m ?_;simp only[↓aD,mR];intro g1 g2 g3;intro u m;refine dA m 4 aB (by kernel_rfl) ?_;simp only[zy];refine ql rfl (fun u m=>((m.b 2 rfl).full cL aP)) ?_;simp only[zz];refine ql rfl (fun u m=>((m.b 1 rfl).full cL aP)) ?_;simp only[zz];refine eR rfl rfl (asc hb) ?_;simp only[zz];refine eR rfl rfl (Us ha hb.neg) (bD ?_);clear m;intro u m;simp only[zz];refine bR m 0 rfl rfl rfl aP (iS rfl) rfl ?_;clear m;intro u m;simp only[zy,zx,cA,zF,zG,aa] at m;refine aK ?_;rw[←Int.sub_eq_add_neg] at m;refine cP 1 [] m ?_;simp only[↓aD];intro u m;exact aR rfl ⟨_,rfl,((m.b 0 rfl).full cL aP)⟩ (⟨_,rfl,m.ext,rfl⟩)
theorem sH{a b:Int}(ha:Bd 1000000 a)(hb:Bd 1000000 b):dL prog 122 [W a,W b] (W (a*b)):=by
 intro w;refine⟨amT,?_⟩;have m:=Mem.refl w;have hla:=Ep ha;have hlb:=Ep hb;have hls:=Ep (Bd.mul ha hb)
 go_enter func122,ntmps122
 refine eC 7 [0] m ?_;simp only[↓aD,mR];intro g1 g2 g3;intro u m;refine mh m [false,true,true] [(5,true),(7,true),(0,true),(2,true),(6,true),(8,true),(9,true),(1,false),(3,false),(4,false),(10,false),(11,false)] aB (by kernel_rfl) (bT (fun _ _ _ _ _ h=>h)) (ol:=?_) ?hol ?_
 case hol=>simp only[zw,zQ,zR];try rfl
 clear m;intro u m;refine Oi 6 [1,0,1,0] ?_;simp only[↓aD,mE,fC,Hi,aa];refine bB (af9 Yx rfl rfl) (bK ?_);simp only[zz];refine bJ rfl rfl (Ur _ (kF ha)) ?_;rintro v u e ⟨A1,c1,rfl,hN1⟩;replace m:=m.ext' e;simp only[zz];rw[kD] at hN1 ⊢;refine aK (⟨m.sel [false,true,true],?_⟩);refine bK (bJ rfl rfl (Ur _ (kF hb)) ?_);rintro v u e ⟨A2,c2,rfl,hN2⟩;replace m:=m.ext' e;replace hN1:=hN1.ext e;simp only[zz];rw[kD] at hN2 ⊢;refine aK (⟨m.sel [false,true,true],?_⟩);refine bK (bJ rfl rfl (asb _ hN1 hN2 (az hla (by decide)) (az hlb (by decide))) ?_);rintro v u e ⟨A3,c3,rfl,hN3⟩;replace m:=m.ext' e;simp only[zz];simp only[iK] at hN3 ⊢;rw[←jj] at hN3 ⊢;refine aK (⟨m.sel [false,true,true],?_⟩);refine bK (bJ rfl rfl (Fe _ hN3 (az hls (by decide))) ?_);rintro v u e rfl;replace m:=m.ext' e;simp only[zz];simp only[iK];refine aK (⟨m.sel [false,true,true],?_⟩);refine bK (bR m 0 rfl rfl rfl aP (iS rfl) rfl ?_);clear m;intro u m;simp only[zy,zx,cA,zF,zG,aa] at m;refine aK (⟨m.sel [false,true,true],?_⟩);refine cK ?_;rw[jj,ado] at m;refine lK 1 [] m ?_;simp only[↓aD];rintro u m rfl;exact aR rfl ⟨_,rfl,((m.b 0 rfl).full cL aP)⟩ (⟨_,rfl,m.ext,rfl⟩)
theorem asd{a b:Int}(ha:Bd 900000 a)(hb:Bd 900000 b):dL prog 126 [W a,W b] (.int .i64 (aY (a-b))):=by
 intro w;refine⟨amW,?_⟩;have m:=Mem.refl w
 go_enter func126,ntmps126
 refine eC 10 [1,0,0] m ?_;simp only[↓aD,fC];intro g1 g2;intro u m;refine lJ m rfl rfl (Ea (ha.mono (by decide)) (hb.mono (by decide))) ?_;clear m;intro u m;simp only[zz];refine mW m rfl rfl (Kc ((Bd.sub ha hb).mono (by decide))) 3 [] ?_;simp only[↓aD];intro u m;exact aR rfl rfl (⟨_,rfl,m.ext,rfl⟩)
theorem pT{n:Int}(h:yL n):dL prog 118 [.int .i64 n] (W n):=by
 intro w;refine⟨amQ,?_⟩;have m:=Mem.refl w;have hna:=h.natAbs
 go_enter func118,ntmps118
 refine eC 5 [] m ?_;simp only[↓aD,mR];intro g1;intro u m;rcases (show n<0∨0≤n by omega) with h0 | h0
 ·
  refine cP 2 [0] m ?_;simp only[↓aD];intro u m;refine aC (jB kQ iW rfl (adq h h0)) (aS 11 [1,0] m ?_);simp only[↓aD];refine⟨by omega,?_⟩;intro u m;refine aC (tJ rfl (Tj hna (by omega))) (aS 5 [0] m ?_);simp only[↓aD];intro u m;refine aC (vS rfl rfl (adk (by omega))) (aS 1 [0] m ?_);simp only[↓aD];intro u m;refine aC (oK rfl rfl (by omega) abD) ?_;simp only[zz];refine Yw fD (z:=.int .u64 0) (by kernel_rfl) rfl rfl rfl rfl rfl ?_;intro u g2 e hg hB;replace m:=m.newB e hg hB;clear e hg hB;refine aS 2 [1,0] m ?_;simp only[↓aD];refine⟨by omega,?_⟩;intro u m;refine cU m rfl rfl (Fe _ ((m.b 0 rfl).nat (os:=[n.natAbs%4294967296,n.natAbs / 4294967296]) (Nw (by omega)) rfl (by omega)) (by simp)) ?_;clear m;rintro v u m rfl;refine aS 3 [1] m ?_;simp only[↓aD,fC,aa];intro u m;refine aR rfl ⟨_,rfl,((m.b 1 rfl).full cL aP)⟩ ?_;try simp only[zD,zE]
  exact⟨_,rfl,m.ext,by rw[Tk,show true=fP n from (decide_eq_true h0).symm,Gi];rfl⟩
 ·
  refine cP 2 [0] m ?_;simp only[↓aD];intro u m;refine aC (jB kQ iW rfl (agC h h0)) (aS 13 [2,0] m ?_);simp only[↓aD];refine⟨by omega,?_⟩;intro u m;refine aC (vS rfl rfl (adk (by omega))) (aS 1 [0] m ?_);simp only[↓aD];intro u m;refine aC (oK rfl rfl (by omega) abD) ?_;simp only[zz];refine Yw fD (z:=.int .u64 0) (by kernel_rfl) rfl rfl rfl rfl rfl ?_;intro u g2 e hg hB;replace m:=m.newB e hg hB;clear e hg hB;refine aS 2 [2,0] m ?_;simp only[↓aD];refine⟨by omega,?_⟩;intro u m;refine cU m rfl rfl (Fe _ ((m.b 0 rfl).nat (os:=[n.natAbs%4294967296,n.natAbs / 4294967296]) (Nw (by omega)) rfl (by omega)) (by simp)) ?_;clear m;rintro v u m rfl;refine aS 3 [1] m ?_;simp only[↓aD,fC,aa];intro u m;refine aR rfl ⟨_,rfl,((m.b 1 rfl).full cL aP)⟩ ?_;try simp only[zD,zE]
  exact⟨_,rfl,m.ext,by rw[Tk,show false=fP n from (decide_eq_false (by omega)).symm,Gi];rfl⟩
end Go.Proofs.YtfekpcimgncioaaGreatDoor
namespace Go.Proofs.YtfekpcimgncioaaGreatDoor
open Go.Proofs.Tryz
open Go.RowKit Go.Lith
set_option maxRecDepth 100000
attribute [local irreducible] au cg fR Code.wp
end Go.Proofs.YtfekpcimgncioaaGreatDoor
namespace Go.Proofs.YtfekpcimgncioaaGreatDoor
open Go.Proofs.Tryz
open Go.RowKit Go.Lith
theorem jI{l:List ah}{ty:an}{x y:bg}{k:IntKind}{c0 c1 c2:ah}(hx:ev l x=.agg #[c0,c1,c2])(hy:ev l y=.int k 0):iG prog l (.index 36 x y) ty c0:=pB tM bE aX hx hy (by decide) (by decide) rfl
theorem jJ{l:List ah}{ty:an}{x y:bg}{k:IntKind}{c0 c1 c2:ah}(hx:ev l x=.agg #[c0,c1,c2])(hy:ev l y=.int k 1):iG prog l (.index 36 x y) ty c1:=pB tM bE aX hx hy (by decide) (by decide) rfl
theorem jK{l:List ah}{ty:an}{x y:bg}{k:IntKind}{c0 c1 c2:ah}(hx:ev l x=.agg #[c0,c1,c2])(hy:ev l y=.int k 2):iG prog l (.index 36 x y) ty c2:=pB tM bE aX hx hy (by decide) (by decide) rfl
theorem sU{l:List ah}{ty:an}{x y:bg}{k:IntKind}{c0 c1 c2 c3 c4 c5 c6 c7 c8:ah}(hx:ev l x=.agg #[c0,c1,c2,c3,c4,c5,c6,c7,c8])(hy:ev l y=.int k 0):iG prog l (.index 39 x y) ty (.agg #[c0,c1,c2]):=pC cH aG aA hx hy (by decide) (by decide) rfl
theorem sV{l:List ah}{ty:an}{x y:bg}{k:IntKind}{c0 c1 c2 c3 c4 c5 c6 c7 c8:ah}(hx:ev l x=.agg #[c0,c1,c2,c3,c4,c5,c6,c7,c8])(hy:ev l y=.int k 1):iG prog l (.index 39 x y) ty (.agg #[c3,c4,c5]):=pC cH aG aA hx hy (by decide) (by decide) rfl
theorem sW{l:List ah}{ty:an}{x y:bg}{k:IntKind}{c0 c1 c2 c3 c4 c5 c6 c7 c8:ah}(hx:ev l x=.agg #[c0,c1,c2,c3,c4,c5,c6,c7,c8])(hy:ev l y=.int k 2):iG prog l (.index 39 x y) ty (.agg #[c6,c7,c8]):=pC cH aG aA hx hy (by decide) (by decide) rfl
theorem Eb{l:List ah}{ty:an}{x y:bg}{k:IntKind}{c0 c1 c2:ah}(hx:ev l x=.agg #[c0,c1,c2])(hy:ev l y=.int k 0):iG prog l (.index 243 x y) ty c0:=pB underlying243 Vz Cf hx hy (by decide) (by decide) rfl
theorem Ec{l:List ah}{ty:an}{x y:bg}{k:IntKind}{c0 c1 c2:ah}(hx:ev l x=.agg #[c0,c1,c2])(hy:ev l y=.int k 1):iG prog l (.index 243 x y) ty c1:=pB underlying243 Vz Cf hx hy (by decide) (by decide) rfl
theorem Ed{l:List ah}{ty:an}{x y:bg}{k:IntKind}{c0 c1 c2:ah}(hx:ev l x=.agg #[c0,c1,c2])(hy:ev l y=.int k 2):iG prog l (.index 243 x y) ty c2:=pB underlying243 Vz Cf hx hy (by decide) (by decide) rfl
theorem Si{l:List ah}{ty:an}{x y:bg}{k:IntKind}{c0 c1 c2 c3 c4 c5:ah}(hx:ev l x=.agg #[c0,c1,c2,c3,c4,c5])(hy:ev l y=.int k 0):iG prog l (.index 273 x y) ty (.agg #[c0,c1]):=pC underlying273 cL aP hx hy (by decide) (by decide) rfl
theorem Sj{l:List ah}{ty:an}{x y:bg}{k:IntKind}{c0 c1 c2 c3 c4 c5:ah}(hx:ev l x=.agg #[c0,c1,c2,c3,c4,c5])(hy:ev l y=.int k 1):iG prog l (.index 273 x y) ty (.agg #[c2,c3]):=pC underlying273 cL aP hx hy (by decide) (by decide) rfl
theorem Sk{l:List ah}{ty:an}{x y:bg}{k:IntKind}{c0 c1 c2 c3 c4 c5:ah}(hx:ev l x=.agg #[c0,c1,c2,c3,c4,c5])(hy:ev l y=.int k 2):iG prog l (.index 273 x y) ty (.agg #[c4,c5]):=pC underlying273 cL aP hx hy (by decide) (by decide) rfl
theorem Sl{l:List ah}{ty:an}{x y:bg}{k:IntKind}{c0 c1 c2 c3 c4 c5 c6 c7 c8 c9 c10 c11 c12 c13 c14 c15 c16 c17:ah}(hx:ev l x=.agg #[c0,c1,c2,c3,c4,c5,c6,c7,c8,c9,c10,c11,c12,c13,c14,c15,c16,c17])(hy:ev l y=.int k 0):iG prog l (.index 280 x y) ty (.agg #[c0,c1,c2,c3,c4,c5]):=pC underlying280 Ce qJ hx hy (by decide) (by decide) rfl
theorem Sm{l:List ah}{ty:an}{x y:bg}{k:IntKind}{c0 c1 c2 c3 c4 c5 c6 c7 c8 c9 c10 c11 c12 c13 c14 c15 c16 c17:ah}(hx:ev l x=.agg #[c0,c1,c2,c3,c4,c5,c6,c7,c8,c9,c10,c11,c12,c13,c14,c15,c16,c17])(hy:ev l y=.int k 1):iG prog l (.index 280 x y) ty (.agg #[c6,c7,c8,c9,c10,c11]):=pC underlying280 Ce qJ hx hy (by decide) (by decide) rfl
theorem Sn{l:List ah}{ty:an}{x y:bg}{k:IntKind}{c0 c1 c2 c3 c4 c5 c6 c7 c8 c9 c10 c11 c12 c13 c14 c15 c16 c17:ah}(hx:ev l x=.agg #[c0,c1,c2,c3,c4,c5,c6,c7,c8,c9,c10,c11,c12,c13,c14,c15,c16,c17])(hy:ev l y=.int k 2):iG prog l (.index 280 x y) ty (.agg #[c12,c13,c14,c15,c16,c17]):=pC underlying280 Ce qJ hx hy (by decide) (by decide) rfl
theorem So{l:List ah}{ty:an}{x y:bg}{k:IntKind}{c0 c1 c2:ah}(hx:ev l x=.agg #[c0,c1,c2])(hy:ev l y=.int k 0):iG prog l (.index 333 x y) ty c0:=pB underlying333 bE aX hx hy (by decide) (by decide) rfl
theorem Sq{l:List ah}{ty:an}{x y:bg}{k:IntKind}{c0 c1 c2:ah}(hx:ev l x=.agg #[c0,c1,c2])(hy:ev l y=.int k 1):iG prog l (.index 333 x y) ty c1:=pB underlying333 bE aX hx hy (by decide) (by decide) rfl
theorem Sr{l:List ah}{ty:an}{x y:bg}{k:IntKind}{c0 c1 c2:ah}(hx:ev l x=.agg #[c0,c1,c2])(hy:ev l y=.int k 2):iG prog l (.index 333 x y) ty c2:=pB underlying333 bE aX hx hy (by decide) (by decide) rfl
theorem fH{ds:List cn}{l:List ah}{ty:an}{ops:Array Oper}{Q:Exit→Act→aj→Prop}{rest:List Oper}{d:Nat}{pos:String}{after:Array Edge}{w:aj}{x0:bg}{c0_0 c0_1 c0_2 c0_3 c0_4 c0_5 c0_6 c0_7 c0_8:ah}(h0:(ev l x0).cells = #[c0_0,c0_1,c0_2,c0_3,c0_4,c0_5,c0_6,c0_7,c0_8])(h:∀w' g,fN w w'→w.heap.size≤g→fK w' g [c0_0,c0_1,c0_2,c0_3,c0_4,c0_5,c0_6,c0_7,c0_8] 39→au prog ops Q rest (Fr (l.set d (.slice (some ⟨g,0,none⟩) 1 1)) ds) w'):au prog ops Q (bn (some d) (.buildSlice 27 1 #[(0,x0)]) ty pos after none::rest) (Fr l ds) w :=
 lN (vs:=#[(0,ev l x0)]) (base:=#[.int .i64 0,.int .i64 0,.int .i64 0,.int .i64 0,.int .i64 0,.int .i64 0,.int .i64 0,.int .i64 0,.int .i64 0]) (c:=9) (z:=(.agg #[.int .i64 0,.int .i64 0,.int .i64 0,.int .i64 0,.int .i64 0,.int .i64 0,.int .i64 0,.int .i64 0,.int .i64 0])) cC (by kernel_rfl) (by decide) (by decide) (by kernel_rfl) (by simp) (by simp[Instr.fill,h0]) h
theorem ae6{ds:List cn}{l:List ah}{ty:an}{ops:Array Oper}{Q:Exit→Act→aj→Prop}{rest:List Oper}{d:Nat}{pos:String}{after:Array Edge}{w:aj}{x0 x1 x2 x3:bg}{c0_0 c0_1 c0_2 c0_3 c0_4 c0_5 c0_6 c0_7 c0_8 c1_0 c1_1 c1_2 c1_3 c1_4 c1_5 c1_6 c1_7 c1_8 c2_0 c2_1 c2_2 c2_3 c2_4 c2_5 c2_6 c2_7 c2_8 c3_0 c3_1 c3_2 c3_3 c3_4 c3_5 c3_6 c3_7 c3_8:ah}(h0:(ev l x0).cells = #[c0_0,c0_1,c0_2,c0_3,c0_4,c0_5,c0_6,c0_7,c0_8])(h1:(ev l x1).cells = #[c1_0,c1_1,c1_2,c1_3,c1_4,c1_5,c1_6,c1_7,c1_8])(h2:(ev l x2).cells = #[c2_0,c2_1,c2_2,c2_3,c2_4,c2_5,c2_6,c2_7,c2_8])(h3:(ev l x3).cells = #[c3_0,c3_1,c3_2,c3_3,c3_4,c3_5,c3_6,c3_7,c3_8])(h:∀w' g,fN w w'→w.heap.size≤g→fK w' g [c0_0,c0_1,c0_2,c0_3,c0_4,c0_5,c0_6,c0_7,c0_8,c1_0,c1_1,c1_2,c1_3,c1_4,c1_5,c1_6,c1_7,c1_8,c2_0,c2_1,c2_2,c2_3,c2_4,c2_5,c2_6,c2_7,c2_8,c3_0,c3_1,c3_2,c3_3,c3_4,c3_5,c3_6,c3_7,c3_8] 39→au prog ops Q rest (Fr (l.set d (.slice (some ⟨g,0,none⟩) 4 4)) ds) w'):au prog ops Q (bn (some d) (.buildSlice 27 4 #[(0,x0),(1,x1),(2,x2),(3,x3)]) ty pos after none::rest) (Fr l ds) w :=
 lN (vs:=#[(0,ev l x0),(1,ev l x1),(2,ev l x2),(3,ev l x3)]) (base:=#[.int .i64 0,.int .i64 0,.int .i64 0,.int .i64 0,.int .i64 0,.int .i64 0,.int .i64 0,.int .i64 0,.int .i64 0,.int .i64 0,.int .i64 0,.int .i64 0,.int .i64 0,.int .i64 0,.int .i64 0,.int .i64 0,.int .i64 0,.int .i64 0,.int .i64 0,.int .i64 0,.int .i64 0,.int .i64 0,.int .i64 0,.int .i64 0,.int .i64 0,.int .i64 0,.int .i64 0,.int .i64 0,.int .i64 0,.int .i64 0,.int .i64 0,.int .i64 0,.int .i64 0,.int .i64 0,.int .i64 0,.int .i64 0]) (c:=9) (z:=(.agg #[.int .i64 0,.int .i64 0,.int .i64 0,.int .i64 0,.int .i64 0,.int .i64 0,.int .i64 0,.int .i64 0,.int .i64 0])) cC (by kernel_rfl) (by decide) (by decide) (by kernel_rfl) (by simp) (by simp[Instr.fill,h0,h1,h2,h3]) h
theorem Kd{ds:List cn}{l:List ah}{ty:an}{ops:Array Oper}{Q:Exit→Act→aj→Prop}{rest:List Oper}{d:Nat}{pos:String}{after:Array Edge}{w:aj}{x0:bg}{c0_0 c0_1 c0_2 c0_3 c0_4 c0_5:ah}(h0:(ev l x0).cells = #[c0_0,c0_1,c0_2,c0_3,c0_4,c0_5])(h:∀w' g,fN w w'→w.heap.size≤g→fK w' g [c0_0,c0_1,c0_2,c0_3,c0_4,c0_5] 55→au prog ops Q rest (Fr (l.set d (.slice (some ⟨g,0,none⟩) 1 1)) ds) w'):au prog ops Q (bn (some d) (.buildSlice 46 1 #[(0,x0)]) ty pos after none::rest) (Fr l ds) w :=
 lN (vs:=#[(0,ev l x0)]) (base:=#[.int .i64 0,.int .i64 0,.int .i64 0,.int .i64 0,.int .i64 0,.int .i64 0]) (c:=6) (z:=(.agg #[.int .i64 0,.int .i64 0,.int .i64 0,.int .i64 0,.int .i64 0,.int .i64 0])) underlying46 (by kernel_rfl) (by decide) (by decide) (by kernel_rfl) (by simp) (by simp[Instr.fill,h0]) h
theorem Ke{ds:List cn}{l:List ah}{ty:an}{ops:Array Oper}{Q:Exit→Act→aj→Prop}{rest:List Oper}{d:Nat}{pos:String}{after:Array Edge}{w:aj}{x0:bg}{c0_0 c0_1 c0_2 c0_3 c0_4 c0_5:ah}(h0:(ev l x0).cells = #[c0_0,c0_1,c0_2,c0_3,c0_4,c0_5])(h:∀w' g,fN w w'→w.heap.size≤g→fK w' g [c0_0,c0_1,c0_2,c0_3,c0_4,c0_5] 56→au prog ops Q rest (Fr (l.set d (.slice (some ⟨g,0,none⟩) 1 1)) ds) w'):au prog ops Q (bn (some d) (.buildSlice 52 1 #[(0,x0)]) ty pos after none::rest) (Fr l ds) w :=
 lN (vs:=#[(0,ev l x0)]) (base:=#[.int .i64 0,.int .i64 0,.int .i64 0,.int .i64 0,.int .i64 0,.int .i64 0]) (c:=6) (z:=(.agg #[.int .i64 0,.int .i64 0,.int .i64 0,.int .i64 0,.int .i64 0,.int .i64 0])) nV (by kernel_rfl) (by decide) (by decide) (by kernel_rfl) (by simp) (by simp[Instr.fill,h0]) h
theorem ae7{ds:List cn}{l:List ah}{ty:an}{ops:Array Oper}{Q:Exit→Act→aj→Prop}{rest:List Oper}{d:Nat}{pos:String}{after:Array Edge}{w:aj}{x0 x1 x2:bg}{c0_0 c0_1 c0_2 c0_3 c0_4 c0_5 c1_0 c1_1 c1_2 c1_3 c1_4 c1_5 c2_0 c2_1 c2_2 c2_3 c2_4 c2_5:ah}(h0:(ev l x0).cells = #[c0_0,c0_1,c0_2,c0_3,c0_4,c0_5])(h1:(ev l x1).cells = #[c1_0,c1_1,c1_2,c1_3,c1_4,c1_5])(h2:(ev l x2).cells = #[c2_0,c2_1,c2_2,c2_3,c2_4,c2_5])(h:∀w' g,fN w w'→w.heap.size≤g→fK w' g [c0_0,c0_1,c0_2,c0_3,c0_4,c0_5,c1_0,c1_1,c1_2,c1_3,c1_4,c1_5,c2_0,c2_1,c2_2,c2_3,c2_4,c2_5] 56→au prog ops Q rest (Fr (l.set d (.slice (some ⟨g,0,none⟩) 3 3)) ds) w'):au prog ops Q (bn (some d) (.buildSlice 52 3 #[(0,x0),(1,x1),(2,x2)]) ty pos after none::rest) (Fr l ds) w :=
 lN (vs:=#[(0,ev l x0),(1,ev l x1),(2,ev l x2)]) (base:=#[.int .i64 0,.int .i64 0,.int .i64 0,.int .i64 0,.int .i64 0,.int .i64 0,.int .i64 0,.int .i64 0,.int .i64 0,.int .i64 0,.int .i64 0,.int .i64 0,.int .i64 0,.int .i64 0,.int .i64 0,.int .i64 0,.int .i64 0,.int .i64 0]) (c:=6) (z:=(.agg #[.int .i64 0,.int .i64 0,.int .i64 0,.int .i64 0,.int .i64 0,.int .i64 0])) nV (by kernel_rfl) (by decide) (by decide) (by kernel_rfl) (by simp) (by simp[Instr.fill,h0,h1,h2]) h
theorem kY{ds:List cn}{l:List ah}{ty:an}{ops:Array Oper}{Q:Exit→Act→aj→Prop}{rest:List Oper}{d:Nat}{pos:String}{after:Array Edge}{w:aj}{x0:bg}{c0_0 c0_1 c0_2:ah}(h0:(ev l x0).cells = #[c0_0,c0_1,c0_2])(h:∀w' g,fN w w'→w.heap.size≤g→fK w' g [c0_0,c0_1,c0_2] 30→au prog ops Q rest (Fr (l.set d (.slice (some ⟨g,0,none⟩) 1 1)) ds) w'):au prog ops Q (bn (some d) (.buildSlice 65 1 #[(0,x0)]) ty pos after none::rest) (Fr l ds) w :=
 lN (vs:=#[(0,ev l x0)]) (base:=#[.int .i64 0,.int .i64 0,.int .i64 0]) (c:=3) (z:=(.agg #[.int .i64 0,.int .i64 0,.int .i64 0])) cX (by kernel_rfl) (by decide) (by decide) (by kernel_rfl) (by simp) (by simp[Instr.fill,h0]) h
theorem Ut{ds:List cn}{l:List ah}{ty:an}{ops:Array Oper}{Q:Exit→Act→aj→Prop}{rest:List Oper}{d:Nat}{pos:String}{after:Array Edge}{w:aj}{x0 x1:bg}{c0_0 c0_1 c0_2 c1_0 c1_1 c1_2:ah}(h0:(ev l x0).cells = #[c0_0,c0_1,c0_2])(h1:(ev l x1).cells = #[c1_0,c1_1,c1_2])(h:∀w' g,fN w w'→w.heap.size≤g→fK w' g [c0_0,c0_1,c0_2,c1_0,c1_1,c1_2] 30→au prog ops Q rest (Fr (l.set d (.slice (some ⟨g,0,none⟩) 2 2)) ds) w'):au prog ops Q (bn (some d) (.buildSlice 65 2 #[(0,x0),(1,x1)]) ty pos after none::rest) (Fr l ds) w :=
 lN (vs:=#[(0,ev l x0),(1,ev l x1)]) (base:=#[.int .i64 0,.int .i64 0,.int .i64 0,.int .i64 0,.int .i64 0,.int .i64 0]) (c:=3) (z:=(.agg #[.int .i64 0,.int .i64 0,.int .i64 0])) cX (by kernel_rfl) (by decide) (by decide) (by kernel_rfl) (by simp) (by simp[Instr.fill,h0,h1]) h
theorem ae8{ds:List cn}{l:List ah}{ty:an}{ops:Array Oper}{Q:Exit→Act→aj→Prop}{rest:List Oper}{d:Nat}{pos:String}{after:Array Edge}{w:aj}{x0 x1 x2:bg}{c0_0 c0_1 c0_2 c1_0 c1_1 c1_2 c2_0 c2_1 c2_2:ah}(h0:(ev l x0).cells = #[c0_0,c0_1,c0_2])(h1:(ev l x1).cells = #[c1_0,c1_1,c1_2])(h2:(ev l x2).cells = #[c2_0,c2_1,c2_2])(h:∀w' g,fN w w'→w.heap.size≤g→fK w' g [c0_0,c0_1,c0_2,c1_0,c1_1,c1_2,c2_0,c2_1,c2_2] 30→au prog ops Q rest (Fr (l.set d (.slice (some ⟨g,0,none⟩) 3 3)) ds) w'):au prog ops Q (bn (some d) (.buildSlice 65 3 #[(0,x0),(1,x1),(2,x2)]) ty pos after none::rest) (Fr l ds) w :=
 lN (vs:=#[(0,ev l x0),(1,ev l x1),(2,ev l x2)]) (base:=#[.int .i64 0,.int .i64 0,.int .i64 0,.int .i64 0,.int .i64 0,.int .i64 0,.int .i64 0,.int .i64 0,.int .i64 0]) (c:=3) (z:=(.agg #[.int .i64 0,.int .i64 0,.int .i64 0])) cX (by kernel_rfl) (by decide) (by decide) (by kernel_rfl) (by simp) (by simp[Instr.fill,h0,h1,h2]) h
theorem Cs{ds:List cn}{l:List ah}{ty:an}{ops:Array Oper}{Q:Exit→Act→aj→Prop}{rest:List Oper}{d:Nat}{pos:String}{after:Array Edge}{w:aj}{x0 x1 x2 x3:bg}{c0_0 c0_1 c0_2 c1_0 c1_1 c1_2 c2_0 c2_1 c2_2 c3_0 c3_1 c3_2:ah}(h0:(ev l x0).cells = #[c0_0,c0_1,c0_2])(h1:(ev l x1).cells = #[c1_0,c1_1,c1_2])(h2:(ev l x2).cells = #[c2_0,c2_1,c2_2])(h3:(ev l x3).cells = #[c3_0,c3_1,c3_2])(h:∀w' g,fN w w'→w.heap.size≤g→fK w' g [c0_0,c0_1,c0_2,c1_0,c1_1,c1_2,c2_0,c2_1,c2_2,c3_0,c3_1,c3_2] 30→au prog ops Q rest (Fr (l.set d (.slice (some ⟨g,0,none⟩) 4 4)) ds) w'):au prog ops Q (bn (some d) (.buildSlice 65 4 #[(0,x0),(1,x1),(2,x2),(3,x3)]) ty pos after none::rest) (Fr l ds) w :=
 lN (vs:=#[(0,ev l x0),(1,ev l x1),(2,ev l x2),(3,ev l x3)]) (base:=#[.int .i64 0,.int .i64 0,.int .i64 0,.int .i64 0,.int .i64 0,.int .i64 0,.int .i64 0,.int .i64 0,.int .i64 0,.int .i64 0,.int .i64 0,.int .i64 0]) (c:=3) (z:=(.agg #[.int .i64 0,.int .i64 0,.int .i64 0])) cX (by kernel_rfl) (by decide) (by decide) (by kernel_rfl) (by simp) (by simp[Instr.fill,h0,h1,h2,h3]) h
theorem acq{ds:List cn}{l:List ah}{ty:an}{ops:Array Oper}{Q:Exit→Act→aj→Prop}{rest:List Oper}{d:Nat}{pos:String}{after:Array Edge}{w:aj}{x0:bg}{c0_0 c0_1 c0_2 c0_3 c0_4 c0_5 c0_6 c0_7:ah}(h0:(ev l x0).cells = #[c0_0,c0_1,c0_2,c0_3,c0_4,c0_5,c0_6,c0_7])(h:∀w' g,fN w w'→w.heap.size≤g→fK w' g [c0_0,c0_1,c0_2,c0_3,c0_4,c0_5,c0_6,c0_7] 112→au prog ops Q rest (Fr (l.set d (.slice (some ⟨g,0,none⟩) 1 1)) ds) w'):au prog ops Q (bn (some d) (.buildSlice 105 1 #[(0,x0)]) ty pos after none::rest) (Fr l ds) w :=
 lN (vs:=#[(0,ev l x0)]) (base:=#[.int .i64 0,.int .i64 0,.int .i64 0,.int .i64 0,.int .i64 0,.int .i64 0,.bool false,.string ⟨#[]⟩]) (c:=8) (z:=(.agg #[.int .i64 0,.int .i64 0,.int .i64 0,.int .i64 0,.int .i64 0,.int .i64 0,.bool false,.string ⟨#[]⟩])) underlying105 (by kernel_rfl) (by decide) (by decide) (by kernel_rfl) (by simp) (by simp[Instr.fill,h0]) h
theorem acr{ds:List cn}{l:List ah}{ty:an}{ops:Array Oper}{Q:Exit→Act→aj→Prop}{rest:List Oper}{d:Nat}{pos:String}{after:Array Edge}{w:aj}{x0 x1 x2 x3 x4 x5:bg}{c0_0 c1_0 c2_0 c3_0 c4_0 c5_0:ah}(h0:(ev l x0).cells = #[c0_0])(h1:(ev l x1).cells = #[c1_0])(h2:(ev l x2).cells = #[c2_0])(h3:(ev l x3).cells = #[c3_0])(h4:(ev l x4).cells = #[c4_0])(h5:(ev l x5).cells = #[c5_0])(h:∀w' g,fN w w'→w.heap.size≤g→fK w' g [c0_0,c1_0,c2_0,c3_0,c4_0,c5_0] 26→au prog ops Q rest (Fr (l.set d (.slice (some ⟨g,0,none⟩) 6 6)) ds) w'):au prog ops Q (bn (some d) (.buildSlice 157 6 #[(0,x0),(1,x1),(2,x2),(3,x3),(4,x4),(5,x5)]) ty pos after none::rest) (Fr l ds) w :=
 lN (vs:=#[(0,ev l x0),(1,ev l x1),(2,ev l x2),(3,ev l x3),(4,ev l x4),(5,ev l x5)]) (base:=#[.nilFunc,.nilFunc,.nilFunc,.nilFunc,.nilFunc,.nilFunc]) (c:=1) (z:=(.nilFunc)) underlying157 (by kernel_rfl) (by decide) (by decide) (by kernel_rfl) (by simp) (by simp[Instr.fill,h0,h1,h2,h3,h4,h5]) h
theorem acs{ds:List cn}{l:List ah}{ty:an}{ops:Array Oper}{Q:Exit→Act→aj→Prop}{rest:List Oper}{d:Nat}{pos:String}{after:Array Edge}{w:aj}{x0:bg}{c0_0 c0_1 c0_2 c0_3 c0_4 c0_5:ah}(h0:(ev l x0).cells = #[c0_0,c0_1,c0_2,c0_3,c0_4,c0_5])(h:∀w' g,fN w w'→w.heap.size≤g→fK w' g [c0_0,c0_1,c0_2,c0_3,c0_4,c0_5] 215→au prog ops Q rest (Fr (l.set d (.slice (some ⟨g,0,none⟩) 1 1)) ds) w'):au prog ops Q (bn (some d) (.buildSlice 212 1 #[(0,x0)]) ty pos after none::rest) (Fr l ds) w :=
 lN (vs:=#[(0,ev l x0)]) (base:=#[.int .i64 0,.int .i64 0,.int .i64 0,.int .i64 0,.int .i64 0,.int .i64 0]) (c:=6) (z:=(.agg #[.int .i64 0,.int .i64 0,.int .i64 0,.int .i64 0,.int .i64 0,.int .i64 0])) underlying212 (by kernel_rfl) (by decide) (by decide) (by kernel_rfl) (by simp) (by simp[Instr.fill,h0]) h
end Go.Proofs.YtfekpcimgncioaaGreatDoor
namespace Go.Proofs.YtfekpcimgncioaaGreatDoor
open Go.Proofs.Tryz
open Go.RowKit Go.Lith
set_option maxRecDepth 100000
attribute [local irreducible] au cg fR bO cO Code.wp
attribute [local congr] pL fX fY fZ gA gB kI gC gD gE gF gG gH gI gJ gK gL gM eS eT gN gQ gS gT gU kK dC dD cR dB gR kJ eV eW eX gW gX kL
theorem ase{p:P3}:dL prog 276 [pt p] (.int .i64 p.x):=by
 intro w;refine⟨age,?_⟩;have m:=Mem.refl w
 go_enter func276,ntmps276
 refine eC 12 [0] m ?_;simp only[↓aD,ahK,dU,aa];intro g1;intro u m;exact aR rfl rfl (⟨_,rfl,m.ext,rfl⟩)
theorem asf{p:P3}:dL prog 277 [pt p] (.int .i64 p.y):=by
 intro w;refine⟨agf,?_⟩;have m:=Mem.refl w
 go_enter func277,ntmps277
 refine eC 12 [0] m ?_;simp only[↓aD,ahL,dU,aa];intro g1;intro u m;exact aR rfl rfl (⟨_,rfl,m.ext,rfl⟩)
theorem asg{p:P3}:dL prog 278 [pt p] (.int .i64 p.z):=by
 intro w;refine⟨agh,?_⟩;have m:=Mem.refl w
 go_enter func278,ntmps278
 refine eC 12 [0] m ?_;simp only[↓aD,ahM,dU,aa];intro g1;intro u m;exact aR rfl rfl (⟨_,rfl,m.ext,rfl⟩)
theorem apA  : dL prog 195 [] (.agg #[.func (.func 276) #[] #[],.func (.func 277) #[] #[],.func (.func 278) #[] #[]]):=by
 intro w;refine⟨agd,?_⟩;have m:=Mem.refl w
 go_enter func195,ntmps195
 refine eC 10 [0] m ?_;simp only[↓aD,apq,apr,app,aa];intro g1;intro u m;exact aR rfl ⟨_,rfl,((m.b 0 rfl).full adh Iy)⟩ (⟨_,rfl,m.ext,rfl⟩)
theorem ahT  : dL prog 336 [.int .i64 0] (.tuple #[.int .i64 1,.int .i64 2]):=by
 intro w;refine⟨abw,?_⟩;have m:=Mem.refl w
 go_enter func336,ntmps336
 refine eC 9 [0] m ?_;simp only[↓aD,ak];refine⟨by omega,?_⟩;intro u m;refine aC (eG (m:=1) (n:=3) (r:=1) rfl rfl (by decide) (by decide)) (aS 2 [0] m ?_);simp only[↓aD,ak];refine⟨by omega,?_⟩;intro u m;refine aC (eG (m:=2) (n:=3) (r:=2) rfl rfl (by decide) (by decide)) (aS 4 [] m ?_);simp only[↓aD];intro u m;exact wU rfl rfl rfl (⟨_,rfl,m.ext,rfl⟩)
theorem ahU  : dL prog 336 [.int .i64 1] (.tuple #[.int .i64 2,.int .i64 0]):=by
 intro w;refine⟨abw,?_⟩;have m:=Mem.refl w
 go_enter func336,ntmps336
 refine eC 9 [0] m ?_;simp only[↓aD,ak];refine⟨by omega,?_⟩;intro u m;refine aC (eG (m:=2) (n:=3) (r:=2) rfl rfl (by decide) (by decide)) (aS 2 [0] m ?_);simp only[↓aD,ak];refine⟨by omega,?_⟩;intro u m;refine aC (eG (m:=3) (n:=3) (r:=0) rfl rfl (by decide) (by decide)) (aS 4 [] m ?_);simp only[↓aD];intro u m;exact wU rfl rfl rfl (⟨_,rfl,m.ext,rfl⟩)
theorem ahV  : dL prog 336 [.int .i64 2] (.tuple #[.int .i64 0,.int .i64 1]):=by
 intro w;refine⟨abw,?_⟩;have m:=Mem.refl w
 go_enter func336,ntmps336
 refine eC 9 [0] m ?_;simp only[↓aD,ak];refine⟨by omega,?_⟩;intro u m;refine aC (eG (m:=3) (n:=3) (r:=0) rfl rfl (by decide) (by decide)) (aS 2 [0] m ?_);simp only[↓aD,ak];refine⟨by omega,?_⟩;intro u m;refine aC (eG (m:=4) (n:=3) (r:=1) rfl rfl (by decide) (by decide)) (aS 4 [] m ?_);simp only[↓aD];intro u m;exact wU rfl rfl rfl (⟨_,rfl,m.ext,rfl⟩)
theorem mT{p q:P3}[I3 p][I3 q]:dL prog 223 [pt p,pt q] (wv (q.sub p)):=by
 intro w;refine⟨anQ,?_⟩;have m:=Mem.refl w
 go_enter func223,ntmps223
 refine eC 13 [0] m ?_;simp only[↓aD,ahP];intro g1 g2 g3 g4;intro u m;refine mW m rfl rfl apA 17 [4,1,0] ?_;simp only[↓aD];refine⟨by omega,?_⟩;intro u m;refine aC (Eb rfl rfl) (aS 3 [0] m ?_);simp only[↓aD];intro u m;refine dA m 11 aB (by kernel_rfl) ?_;simp only[zy];refine eM 3 [2] ?_;simp only[↓aD,aO];refine eR rfl rfl ase ?_;simp only[zz];refine eR rfl rfl (pT Iw.h) (aJ aH ?_);simp only[zz];refine ql rfl (fun u m=>((m.b 3 rfl).full aG aA)) ?_;simp only[zz];refine eR rfl rfl ase ?_;simp only[zz];refine eR rfl rfl (pT Iw.h) ?_;simp only[zz];refine eR rfl rfl (Ea Bw.up Bw.up) (eM 1 [] ?_);simp only[↓aD,oG,ad,ag,aa];refine⟨by omega,?_⟩;refine bD ?_;clear m;intro u m;refine bR m 0 rfl rfl rfl aP (iS rfl) rfl ?_;clear m;intro u m;simp only[zy,zx,cA,zF,zG,aa] at m;refine aK (cP 18 [1,0] m ?_);simp only[↓aD,ak];refine⟨by omega,?_⟩;intro u m;refine aC (Ec rfl rfl) (aS 3 [0] m ?_);simp only[↓aD];intro u m;refine dA m 11 aB (by kernel_rfl) ?_;simp only[zy];refine eM 3 [2] ?_;simp only[↓aD,aO];refine eR rfl rfl asf ?_;simp only[zz];refine eR rfl rfl (pT Iw.h) (aJ aH ?_);simp only[zz];refine ql rfl (fun u m=>((m.b 3 rfl).full aG aA)) ?_;simp only[zz];refine eR rfl rfl asf ?_;simp only[zz];refine eR rfl rfl (pT Iw.h) ?_;simp only[zz];refine eR rfl rfl (Ea Bw.up Bw.up) (eM 1 [] ?_);simp only[↓aD,oG,ad,ag,aa];refine⟨by omega,?_⟩;refine bD ?_;clear m;intro u m;refine bR m 0 rfl rfl rfl aP (iS rfl) rfl ?_;clear m;intro u m;simp only[zy,zx,cA,zF,zG,aa] at m;refine aK (cP 18 [1,0] m ?_);simp only[↓aD,ak];refine⟨by omega,?_⟩;intro u m;refine aC (Ed rfl rfl) (aS 3 [0] m ?_);simp only[↓aD];intro u m;refine dA m 11 aB (by kernel_rfl) ?_;simp only[zy];refine eM 3 [2] ?_;simp only[↓aD,aO];refine eR rfl rfl asg ?_;simp only[zz];refine eR rfl rfl (pT Iw.h) (aJ aH ?_);simp only[zz];refine ql rfl (fun u m=>((m.b 3 rfl).full aG aA)) ?_;simp only[zz];refine eR rfl rfl asg ?_;simp only[zz];refine eR rfl rfl (pT Iw.h) ?_;simp only[zz];refine eR rfl rfl (Ea Bw.up Bw.up) (eM 1 [] ?_);simp only[↓aD,oG,ad,ag,aa];refine⟨by omega,?_⟩;refine bD ?_;clear m;intro u m;refine bR m 0 rfl rfl rfl aP (iS rfl) rfl ?_;clear m;intro u m;simp only[zy,zx,cA,zF,zG,aa] at m;refine aK (cP 19 [2,0,1] m ?_);simp only[↓aD,ahO,ak,aa];refine⟨by omega,?_⟩;intro u m;exact aR rfl ⟨_,rfl,((m.b 1 rfl).full adi Ta)⟩ (⟨_,rfl,m.ext,rfl⟩)
theorem xT{u v:P3}(hu:Bv 400000 u)(hv:Bv 400000 v):dL prog 302 [wv u,wv v] (wv (u.cross v)):=by
 intro w;refine⟨aoo,?_⟩;have m:=Mem.refl w
 go_enter func302,ntmps302
 refine eC 35 [4,1,0] m ?_;simp only[↓aD,ahP];intro g1 g2 g3 g4;refine⟨by omega,?_⟩;intro u m;refine mW m rfl rfl ahT 6 [0] ?_;simp only[↓aD];intro u m;refine dA m 17 aB (by kernel_rfl) ?_;simp only[zy];refine eM 7 [3,2] ?_;simp only[↓aD,oG,fC,ad,ag,aa];refine⟨by omega,?_⟩;refine eR rfl rfl (sH Bw.up Bw.up) (eM 6 [3,2] ?_);simp only[↓aD,oG,fC,ad,ag,aa];refine⟨by omega,?_⟩;refine eR rfl rfl (sH Bw.up Bw.up) ?_;simp only[zz];refine eR rfl rfl (Ea Bw.up Bw.up) (eM 1 [] ?_);simp only[↓aD,oG,ad,ag,aa];refine⟨by omega,?_⟩;refine bD ?_;clear m;intro u m;refine bR m 0 rfl rfl rfl aP (iS rfl) rfl ?_;clear m;intro u m;simp only[zy,zx,cA,zF,zG,aa] at m;refine aK (cP 23 [1,0] m ?_);simp only[↓aD,ak];refine⟨by omega,?_⟩;intro u m;refine mW m rfl rfl ahU 6 [0] ?_;simp only[↓aD];intro u m;refine dA m 17 aB (by kernel_rfl) ?_;simp only[zy];refine eM 7 [3,2] ?_;simp only[↓aD,oG,fC,ad,ag,aa];refine⟨by omega,?_⟩;refine eR rfl rfl (sH Bw.up Bw.up) (eM 6 [3,2] ?_);simp only[↓aD,oG,fC,ad,ag,aa];refine⟨by omega,?_⟩;refine eR rfl rfl (sH Bw.up Bw.up) ?_;simp only[zz];refine eR rfl rfl (Ea Bw.up Bw.up) (eM 1 [] ?_);simp only[↓aD,oG,ad,ag,aa];refine⟨by omega,?_⟩;refine bD ?_;clear m;intro u m;refine bR m 0 rfl rfl rfl aP (iS rfl) rfl ?_;clear m;intro u m;simp only[zy,zx,cA,zF,zG,aa] at m;refine aK (cP 23 [1,0] m ?_);simp only[↓aD,ak];refine⟨by omega,?_⟩;intro u m;refine mW m rfl rfl ahV 6 [0] ?_;simp only[↓aD];intro u m;refine dA m 17 aB (by kernel_rfl) ?_;simp only[zy];refine eM 7 [3,2] ?_;simp only[↓aD,oG,fC,ad,ag,aa];refine⟨by omega,?_⟩;refine eR rfl rfl (sH Bw.up Bw.up) (eM 6 [3,2] ?_);simp only[↓aD,oG,fC,ad,ag,aa];refine⟨by omega,?_⟩;refine eR rfl rfl (sH Bw.up Bw.up) ?_;simp only[zz];refine eR rfl rfl (Ea Bw.up Bw.up) (eM 1 [] ?_);simp only[↓aD,oG,ad,ag,aa];refine⟨by omega,?_⟩;refine bD ?_;clear m;intro u m;refine bR m 0 rfl rfl rfl aP (iS rfl) rfl ?_;clear m;intro u m;simp only[zy,zx,cA,zF,zG,aa] at m;refine aK (cP 19 [2,0,1] m ?_);simp only[↓aD,ahO,ak,aa];refine⟨by omega,?_⟩;intro u m;exact aR rfl ⟨_,rfl,((m.b 1 rfl).full adi Ta)⟩ (⟨_,rfl,m.ext,rfl⟩)
theorem apB{b:Int}(hb:Bd 1000000 b):dL prog 121 [.agg #[.bool false,.string ⟨#[]⟩],W b] (W (0+b)):=by
 rw[←Wh];exact Us (Mm _) hb
theorem Lp{u v:P3}(hu:Bv 400000 u)(hv:Bv 400000 v):dL prog 224 [wv u,wv v] (W (u.dot v)):=by
 intro w;refine⟨anR,?_⟩;have m:=Mem.refl w
 go_enter func224,ntmps224
 refine eC 32 [4,1,0] m ?_;simp only[↓aD,mR];intro g1 g2 g3 g4;refine⟨by omega,?_⟩;intro u m;refine dA m 9 aB (by kernel_rfl) ?_;simp only[zy];refine eM 7 [0,3,2] ?_;simp only[↓aD,fC,oG,ad,ag,aa];refine⟨by omega,?_⟩;refine eR rfl rfl (sH Bw.up Bw.up) ?_;simp only[zz];refine eR rfl rfl (apB Bw.up) (bD ?_);clear m;intro u m;simp only[zz];refine bR m 0 rfl rfl rfl aP (iS rfl) rfl ?_;clear m;intro u m;simp only[zy,zx,cA,zF,zG,aa] at m;refine aK (cP 20 [1,0] m ?_);simp only[↓aD,ak];refine⟨by omega,?_⟩;intro u m;refine dA m 9 aB (by kernel_rfl) ?_;simp only[zy];refine eM 7 [0,3,2] ?_;simp only[↓aD,fC,oG,ad,ag,aa];refine⟨by omega,?_⟩;refine eR rfl rfl (sH Bw.up Bw.up) ?_;simp only[zz];refine eR rfl rfl (Us Bw.up Bw.up) (bD ?_);clear m;intro u m;simp only[zz];refine bR m 0 rfl rfl rfl aP (iS rfl) rfl ?_;clear m;intro u m;simp only[zy,zx,cA,zF,zG,aa] at m;refine aK (cP 20 [1,0] m ?_);simp only[↓aD,ak];refine⟨by omega,?_⟩;intro u m;refine dA m 9 aB (by kernel_rfl) ?_;simp only[zy];refine eM 7 [0,3,2] ?_;simp only[↓aD,fC,oG,ad,ag,aa];refine⟨by omega,?_⟩;refine eR rfl rfl (sH Bw.up Bw.up) ?_;simp only[zz];refine eR rfl rfl (Us Bw.up Bw.up) (bD ?_);clear m;intro u m;simp only[zz];refine bR m 0 rfl rfl rfl aP (iS rfl) rfl ?_;clear m;intro u m;simp only[zy,zx,cA,zF,zG,aa] at m;refine aK (cP 19 [2,0,1] m ?_);simp only[↓aD,fC,ak,aa];refine⟨by omega,?_⟩;intro u m;refine aR rfl ⟨_,rfl,((m.b 1 rfl).full cL aP)⟩ ?_;try simp only[zD,zE]
 exact⟨_,rfl,m.ext,by rw[←P3.dot0];rfl⟩
theorem Qm{t:T3}[IT t]:dL prog 239 [tr t] (wv t.normal):=by
 intro w;refine⟨anY,?_⟩;have m:=Mem.refl w
 go_enter func239,ntmps239
 refine eC 6 [0] m ?_;simp only[↓aD,Qh];intro g1 g2;intro u m;refine dA m 11 aB (by kernel_rfl) ?_;simp only[zy];refine eM 4 [1,1] ?_;simp only[↓aD,bM,aO,ad,ag,aa];refine⟨by omega,?_⟩;refine eR rfl rfl mT (eM 4 [1,1] ?_);simp only[↓aD,bM,aO,ad,ag,aa];refine⟨by omega,?_⟩;refine eR rfl rfl mT ?_;simp only[zz];refine eR rfl rfl (xT Bv.of Bv.of) (bD ?_);clear m;intro u m;simp only[zz];refine bR m 0 rfl rfl rfl oM (iS rfl) rfl ?_;clear m;intro u m;simp only[zy,zx,cA,zF,zG,aa] at m;refine aK (cP 1 [] m ?_);simp only[↓aD];intro u m;exact aR rfl ⟨_,rfl,((m.b 0 rfl).full Ml oM)⟩ (⟨_,rfl,m.ext,rfl⟩)
theorem nW{X:Nat}(w:aj)(hX64:X<18446744073709551616):dJ prog 255 [.int .u64 X] w (fun v _=>∃n:Int,v=.int .i64 n∧0≤n∧n≤64∧(n≤18→X<262144)):=by
 refine⟨an5,?_⟩;have m:=Mem.refl w
 go_enter func255,ntmps255
 refine eC 10 [0,0] m ?_;simp only[↓aD];intro u m;refine bG rfl (fun hc1=>?_) (fun hc1=>?_)
 ·
  refine aW 3 [0] m ?_;simp only[↓aD];intro u m;refine aC (oK rfl rfl (by omega) abD) (aS 11 [0,0] m ?_);simp only[↓aD];intro u m;refine bG rfl (fun hc2=>?_) (fun hc2=>?_)
  ·
   refine aW 3 [0] m ?_;simp only[↓aD];intro u m;refine aC (oK rfl rfl (by omega) agH) (aS 13 [0,0] m ?_);simp only[↓aD,ak];refine⟨by omega,?_⟩;intro u m;refine bG rfl (fun hc3=>?_) (fun hc3=>?_)
   ·
    refine aW 3 [0] m ?_;simp only[↓aD];intro u m;refine aC (oK rfl rfl (by omega) adt) (aS 12 [0] m ?_);simp only[↓aD,Bm,yV,ak];refine⟨by omega,?_⟩;intro u m;refine Aj oT (by kernel_rfl) rfl (by omega) ?_;intro b hb8 hb2;simp only[yY,qZ,uM,gw,gv,ft,ic];refine aS 5 [] m ?_;simp only[↓aD,yV,Sh];refine⟨by omega,?_⟩;intro u m;refine aR rfl rfl ?_;try simp only[zD,zE]
    exact⟨_,rfl,m.ext,_,rfl,by omega,by omega,by omega⟩
   ·
    refine aW 6 [0] m ?_;simp only[↓aD,Bm,yV];refine⟨by omega,?_⟩;intro u m;refine Aj oT (by kernel_rfl) rfl (by omega) ?_;intro b hb8 hb2;simp only[yY,qZ,uM,gw,gv,ft,ic];refine aS 5 [] m ?_;simp only[↓aD,yV,Sh];refine⟨by omega,?_⟩;intro u m;refine aR rfl rfl ?_;try simp only[zD,zE]
    exact⟨_,rfl,m.ext,_,rfl,by omega,by omega,by omega⟩
  ·
   refine aW 7 [0,0] m ?_;simp only[↓aD];intro u m;refine bG rfl (fun hc3=>?_) (fun hc3=>?_)
   ·
    refine aW 3 [0] m ?_;simp only[↓aD];intro u m;refine aC (oK rfl rfl (by omega) adt) (aS 12 [0] m ?_);simp only[↓aD,Bm,yV,ak];refine⟨by omega,?_⟩;intro u m;refine Aj oT (by kernel_rfl) rfl (by omega) ?_;intro b hb8 hb2;simp only[yY,qZ,uM,gw,gv,ft,ic];refine aS 5 [] m ?_;simp only[↓aD,yV,Sh];refine⟨by omega,?_⟩;intro u m;refine aR rfl rfl ?_;try simp only[zD,zE]
    exact⟨_,rfl,m.ext,_,rfl,by omega,by omega,by omega⟩
   ·
    refine aW 6 [0] m ?_;simp only[↓aD,Bm,yV];refine⟨by omega,?_⟩;intro u m;refine Aj oT (by kernel_rfl) rfl (by omega) ?_;intro b hb8 hb2;simp only[yY,qZ,uM,gw,gv,ft,ic];refine aS 5 [] m ?_;simp only[↓aD,yV,Sh];refine⟨by omega,?_⟩;intro u m;refine aR rfl rfl ?_;try simp only[zD,zE]
    exact⟨_,rfl,m.ext,_,rfl,by omega,by omega,by omega⟩
 ·
  refine aW 7 [0,0] m ?_;simp only[↓aD];intro u m;refine bG rfl (fun hc2=>?_) (fun hc2=>?_)
  ·
   refine aW 3 [0] m ?_;simp only[↓aD];intro u m;refine aC (oK rfl rfl (by omega) agH) (aS 13 [0,0] m ?_);simp only[↓aD,ak];refine⟨by omega,?_⟩;intro u m;refine bG rfl (fun hc3=>?_) (fun hc3=>?_)
   ·
    refine aW 3 [0] m ?_;simp only[↓aD];intro u m;refine aC (oK rfl rfl (by omega) adt) (aS 12 [0] m ?_);simp only[↓aD,Bm,yV,ak];refine⟨by omega,?_⟩;intro u m;refine Aj oT (by kernel_rfl) rfl (by omega) ?_;intro b hb8 hb2;simp only[yY,qZ,uM,gw,gv,ft,ic];refine aS 5 [] m ?_;simp only[↓aD,yV,Sh];refine⟨by omega,?_⟩;intro u m;refine aR rfl rfl ?_;try simp only[zD,zE]
    exact⟨_,rfl,m.ext,_,rfl,by omega,by omega,by omega⟩
   ·
    refine aW 6 [0] m ?_;simp only[↓aD,Bm,yV];refine⟨by omega,?_⟩;intro u m;refine Aj oT (by kernel_rfl) rfl (by omega) ?_;intro b hb8 hb2;simp only[yY,qZ,uM,gw,gv,ft,ic];refine aS 5 [] m ?_;simp only[↓aD,yV,Sh];refine⟨by omega,?_⟩;intro u m;refine aR rfl rfl ?_;try simp only[zD,zE]
    exact⟨_,rfl,m.ext,_,rfl,by omega,by omega,by omega⟩
  ·
   refine aW 7 [0,0] m ?_;simp only[↓aD];intro u m;refine bG rfl (fun hc3=>?_) (fun hc3=>?_)
   ·
    refine aW 3 [0] m ?_;simp only[↓aD];intro u m;refine aC (oK rfl rfl (by omega) adt) (aS 12 [0] m ?_);simp only[↓aD,Bm,yV,ak];refine⟨by omega,?_⟩;intro u m;refine Aj oT (by kernel_rfl) rfl (by omega) ?_;intro b hb8 hb2;simp only[yY,qZ,uM,gw,gv,ft,ic];refine aS 5 [] m ?_;simp only[↓aD,yV,Sh];refine⟨by omega,?_⟩;intro u m;refine aR rfl rfl ?_;try simp only[zD,zE]
    exact⟨_,rfl,m.ext,_,rfl,by omega,by omega,by omega⟩
   ·
    refine aW 6 [0] m ?_;simp only[↓aD,Bm,yV];refine⟨by omega,?_⟩;intro u m;refine Aj oT (by kernel_rfl) rfl (by omega) ?_;intro b hb8 hb2;simp only[yY,qZ,uM,gw,gv,ft,ic];refine aS 5 [] m ?_;simp only[↓aD,yV,Sh];refine⟨by omega,?_⟩;intro u m;refine aR rfl rfl ?_;try simp only[zD,zE]
    exact⟨_,rfl,m.ext,_,rfl,by omega,by omega,by omega⟩
theorem pU{p q:P3}[hp:S3 p][hq:S3 q]:dL prog 299 [pt p,pt q] (nv (q.sub p)):=by
 intro w;refine⟨aol,?_⟩;have m:=Mem.refl w;have:=hp.x;have:=hp.y;have:=hp.z;have:=hq.x;have:=hq.y;have:=hq.z
 go_enter func299,ntmps299
 refine eC 27 [1,2,1,2,1,2,0] m ?_;simp only[↓aD,ahR,jW,dU,kM,lM,apw,ahQ,aa];intro g1 g2 g3;refine⟨by omega,?_⟩;intro u m;exact aR rfl ⟨_,rfl,((m.b 0 rfl).full adj Tb)⟩ (⟨_,rfl,m.ext,rfl⟩)
theorem Ee{u v:P3}(hu:N3 u)(hv:N3 v):dL prog 300 [nv u,nv v] (nv (u.cross v)):=by
 intro w;refine⟨aom,?_⟩;have m:=Mem.refl w
 go_enter func300,ntmps300
 refine eC 35 [4,1,0] m ?_;simp only[↓aD,ahR];intro g1 g2 g3 g4;refine⟨by omega,?_⟩;intro u m;refine mW m rfl rfl ahT 6 [0] ?_;simp only[↓aD];intro u m;refine dA m 17 aB (by kernel_rfl) ?_;simp only[zy];refine eM 7 [3,2] ?_;simp only[↓aD,sB,dU,ad,ag,aa];refine⟨by omega,?_⟩;refine aJ (lB rfl rfl (Tl (yT hu.y hv.z))) (eM 6 [3,2] ?_);simp only[↓aD,sB,dU,ad,ag,aa];refine⟨by omega,?_⟩;refine aJ (lB rfl rfl (Tl (yT hu.z hv.y))) (aJ (Fs rfl rfl (aoM (yT hu.y hv.z) (yT hu.z hv.y))) ?_);refine eM 1 [] ?_;simp only[↓aD,sB,ad,ag,aa];refine⟨by omega,?_⟩;refine bD ?_;clear m;intro u m;refine eK m 0 rfl rfl rfl aX (iS rfl) ⟨rfl,rfl⟩ ?_;clear m;intro u m;simp only[zz,zy,zx,cA,aa] at m;refine aK (cP 23 [1,0] m ?_);simp only[↓aD,ak];refine⟨by omega,?_⟩;intro u m;refine mW m rfl rfl ahU 6 [0] ?_;simp only[↓aD];intro u m;refine dA m 17 aB (by kernel_rfl) ?_;simp only[zy];refine eM 7 [3,2] ?_;simp only[↓aD,sB,dU,ad,ag,aa];refine⟨by omega,?_⟩;refine aJ (lB rfl rfl (Tl (yT hu.z hv.x))) (eM 6 [3,2] ?_);simp only[↓aD,sB,dU,ad,ag,aa];refine⟨by omega,?_⟩;refine aJ (lB rfl rfl (Tl (yT hu.x hv.z))) (aJ (Fs rfl rfl (aoM (yT hu.z hv.x) (yT hu.x hv.z))) ?_);refine eM 1 [] ?_;simp only[↓aD,sB,ad,ag,aa];refine⟨by omega,?_⟩;refine bD ?_;clear m;intro u m;refine eK m 0 rfl rfl rfl aX (iS rfl) ⟨rfl,rfl⟩ ?_;clear m;intro u m;simp only[zz,zy,zx,cA,aa] at m;refine aK (cP 23 [1,0] m ?_);simp only[↓aD,ak];refine⟨by omega,?_⟩;intro u m;refine mW m rfl rfl ahV 6 [0] ?_;simp only[↓aD];intro u m;refine dA m 17 aB (by kernel_rfl) ?_;simp only[zy];refine eM 7 [3,2] ?_;simp only[↓aD,sB,dU,ad,ag,aa];refine⟨by omega,?_⟩;refine aJ (lB rfl rfl (Tl (yT hu.x hv.y))) (eM 6 [3,2] ?_);simp only[↓aD,sB,dU,ad,ag,aa];refine⟨by omega,?_⟩;refine aJ (lB rfl rfl (Tl (yT hu.y hv.x))) (aJ (Fs rfl rfl (aoM (yT hu.x hv.y) (yT hu.y hv.x))) ?_);refine eM 1 [] ?_;simp only[↓aD,sB,ad,ag,aa];refine⟨by omega,?_⟩;refine bD ?_;clear m;intro u m;refine eK m 0 rfl rfl rfl aX (iS rfl) ⟨rfl,rfl⟩ ?_;clear m;intro u m;simp only[zz,zy,zx,cA,aa] at m;refine aK (cP 19 [2,0,1] m ?_);simp only[↓aD,ahQ,ak,aa];refine⟨by omega,?_⟩;intro u m;exact aR rfl ⟨_,rfl,((m.b 1 rfl).full adj Tb)⟩ (⟨_,rfl,m.ext,rfl⟩)
theorem Xj{n:Int}:dL prog 301 [.int .i64 n] (.int .i64 (aY n)):=by
 intro w;refine⟨aon,?_⟩;have m:=Mem.refl w
 go_enter func301,ntmps301
 refine eC 12 [0,0] m ?_;simp only[↓aD];intro u m;refine bG rfl (fun hc1=>?_) (fun hc1=>?_)
 ·
  refine aW 5 [] m ?_;simp only[↓aD];intro u m;refine aR rfl rfl ?_;try simp only[zD,zE]
  exact⟨_,rfl,m.ext,by rw[Cj (by assumption)]⟩
 ·
  refine aW 6 [0,0] m ?_;simp only[↓aD];intro u m;refine bG rfl (fun hc2=>?_) (fun hc2=>?_)
  ·
   refine aW 5 [] m ?_;simp only[↓aD];intro u m;refine aR rfl rfl ?_;try simp only[zD,zE]
   exact⟨_,rfl,m.ext,by rw[Ck (by assumption)]⟩
  ·
   refine aW 7 [] m ?_;simp only[↓aD];intro u m;refine aR rfl rfl ?_;try simp only[zD,zE]
   exact⟨_,rfl,m.ext,by rw[show n=0 by omega];rfl⟩
theorem Uu{a b c d:P3}[I3 a][I3 b][I3 c][I3 d]{g0:Nat}(w:aj)(hB0:fK w g0 [.int .i64 a.x,.int .i64 a.y,.int .i64 a.z,.int .i64 b.x,.int .i64 b.y,.int .i64 b.z,.int .i64 c.x,.int .i64 c.y,.int .i64 c.z,.int .i64 d.x,.int .i64 d.y,.int .i64 d.z] 30):dJ prog 298 [.slice (some ⟨g0,0,none⟩) 4 4] w (fun v _=>∃bo:Bool,v=.bool bo∧(bo=true→S3 a∧S3 b∧S3 c∧S3 d)):=by
 refine⟨aok,?_⟩;have m:=Mem.refl w
 go_enter func298,ntmps298
 refine eC 25 [5,1,0] m ?_;simp only[↓aD,mQ];refine⟨by omega,?_⟩;intro u m;refine aC (aF cX aA rfl rfl (by decide) (by decide) rfl) ?_;simp only[zz];refine aQ rfl ((hB0.ext m.ext).lies aG aA rfl rfl) ?_;simp only[zz,zy,ar,aa,ag,ad];refine aS 28 [0,0,0,0,4,1,0] m ?_;simp only[↓aD,eY,aO,jW,dU,kM,lM,uD,aa];intro g1;refine⟨by omega,?_⟩;intro u m;refine aC (jI rfl rfl) (aS 6 [0] m ?_);simp only[↓aD];intro u m;refine aC (tJ rfl rfl) (aC (vT rfl rfl rfl) (aC (jB kQ iW rfl (yN Iw.h)) ?_));simp only[zz];refine cU m rfl rfl (nW (X:=(a.x).natAbs) _ (by have:=(Iw.h:yL a.x).natAbs;omega)) ?_;clear m;rintro v u m ⟨n,rfl,hn0,hn1,hax⟩;refine aS 2 [0,0] m ?_;simp only[↓aD];intro u m;refine bG rfl (fun hc3=>?_) (fun hc3=>?_)
 ·
  refine aW 5 [] m ?_;simp only[↓aD];intro u m;refine aR rfl rfl ?_;try simp only[zD,zE]
  exact⟨_,rfl,m.ext,false,rfl,fun h=>by cases h⟩
 ·
  replace hax:=hax (by omega);clear hc3 hn0 hn1;refine aW 18 [1,0] m ?_;simp only[↓aD,ak];refine⟨by omega,?_⟩;intro u m;refine aC (jJ rfl rfl) (aS 6 [0] m ?_);simp only[↓aD];intro u m;refine aC (tJ rfl rfl) (aC (vT rfl rfl rfl) (aC (jB kQ iW rfl (yN Iw.h)) ?_));simp only[zz];refine cU m rfl rfl (nW (X:=(a.y).natAbs) _ (by have:=(Iw.h:yL a.y).natAbs;omega)) ?_;clear m;rintro v u m ⟨n,rfl,hn0,hn1,hay⟩;refine aS 2 [0,0] m ?_;simp only[↓aD];intro u m;refine bG rfl (fun hc3=>?_) (fun hc3=>?_)
  ·
   refine aW 5 [] m ?_;simp only[↓aD];intro u m;refine aR rfl rfl ?_;try simp only[zD,zE]
   exact⟨_,rfl,m.ext,false,rfl,fun h=>by cases h⟩
  ·
   replace hay:=hay (by omega);clear hc3 hn0 hn1;refine aW 18 [1,0] m ?_;simp only[↓aD,ak];refine⟨by omega,?_⟩;intro u m;refine aC (jK rfl rfl) (aS 6 [0] m ?_);simp only[↓aD];intro u m;refine aC (tJ rfl rfl) (aC (vT rfl rfl rfl) (aC (jB kQ iW rfl (yN Iw.h)) ?_));simp only[zz];refine cU m rfl rfl (nW (X:=(a.z).natAbs) _ (by have:=(Iw.h:yL a.z).natAbs;omega)) ?_;clear m;rintro v u m ⟨n,rfl,hn0,hn1,haz⟩;refine aS 2 [0,0] m ?_;simp only[↓aD];intro u m;refine bG rfl (fun hc3=>?_) (fun hc3=>?_)
   ·
    refine aW 5 [] m ?_;simp only[↓aD];intro u m;refine aR rfl rfl ?_;try simp only[zD,zE]
    exact⟨_,rfl,m.ext,false,rfl,fun h=>by cases h⟩
   ·
    replace haz:=haz (by omega);clear hc3 hn0 hn1;refine aW 31 [2,1,0] m ?_;simp only[↓aD,ak];refine⟨by omega,?_⟩;intro u m;refine aC (aF cX aA rfl rfl (by decide) (by decide) rfl) ?_;simp only[zz];refine aQ rfl ((hB0.ext m.ext).lies aG aA rfl rfl) ?_;simp only[zz,zy,ar,aa,ag,ad];refine aS 28 [0,0,0,0,4,1,0] m ?_;simp only[↓aD,eY,aO,jW,dU,kM,lM,uD,aa];intro g2;refine⟨by omega,?_⟩;intro u m;refine aC (jI rfl rfl) (aS 6 [0] m ?_);simp only[↓aD];intro u m;refine aC (tJ rfl rfl) (aC (vT rfl rfl rfl) (aC (jB kQ iW rfl (yN Iw.h)) ?_));simp only[zz];refine cU m rfl rfl (nW (X:=(b.x).natAbs) _ (by have:=(Iw.h:yL b.x).natAbs;omega)) ?_;clear m;rintro v u m ⟨n,rfl,hn0,hn1,hbx⟩;refine aS 2 [0,0] m ?_;simp only[↓aD];intro u m;refine bG rfl (fun hc3=>?_) (fun hc3=>?_)
    ·
     refine aW 5 [] m ?_;simp only[↓aD];intro u m;refine aR rfl rfl ?_;try simp only[zD,zE]
     exact⟨_,rfl,m.ext,false,rfl,fun h=>by cases h⟩
    ·
     replace hbx:=hbx (by omega);clear hc3 hn0 hn1;refine aW 18 [1,0] m ?_;simp only[↓aD,ak];refine⟨by omega,?_⟩;intro u m;refine aC (jJ rfl rfl) (aS 6 [0] m ?_);simp only[↓aD];intro u m;refine aC (tJ rfl rfl) (aC (vT rfl rfl rfl) (aC (jB kQ iW rfl (yN Iw.h)) ?_));simp only[zz];refine cU m rfl rfl (nW (X:=(b.y).natAbs) _ (by have:=(Iw.h:yL b.y).natAbs;omega)) ?_;clear m;rintro v u m ⟨n,rfl,hn0,hn1,hby⟩;refine aS 2 [0,0] m ?_;simp only[↓aD];intro u m;refine bG rfl (fun hc3=>?_) (fun hc3=>?_)
     ·
      refine aW 5 [] m ?_;simp only[↓aD];intro u m;refine aR rfl rfl ?_;try simp only[zD,zE]
      exact⟨_,rfl,m.ext,false,rfl,fun h=>by cases h⟩
     ·
      replace hby:=hby (by omega);clear hc3 hn0 hn1;refine aW 18 [1,0] m ?_;simp only[↓aD,ak];refine⟨by omega,?_⟩;intro u m;refine aC (jK rfl rfl) (aS 6 [0] m ?_);simp only[↓aD];intro u m;refine aC (tJ rfl rfl) (aC (vT rfl rfl rfl) (aC (jB kQ iW rfl (yN Iw.h)) ?_));simp only[zz];refine cU m rfl rfl (nW (X:=(b.z).natAbs) _ (by have:=(Iw.h:yL b.z).natAbs;omega)) ?_;clear m;rintro v u m ⟨n,rfl,hn0,hn1,hbz⟩;refine aS 2 [0,0] m ?_;simp only[↓aD];intro u m;refine bG rfl (fun hc3=>?_) (fun hc3=>?_)
      ·
       refine aW 5 [] m ?_;simp only[↓aD];intro u m;refine aR rfl rfl ?_;try simp only[zD,zE]
       exact⟨_,rfl,m.ext,false,rfl,fun h=>by cases h⟩
      ·
       replace hbz:=hbz (by omega);clear hc3 hn0 hn1;refine aW 31 [2,1,0] m ?_;simp only[↓aD,ak];refine⟨by omega,?_⟩;intro u m;refine aC (aF cX aA rfl rfl (by decide) (by decide) rfl) ?_;simp only[zz];refine aQ rfl ((hB0.ext m.ext).lies aG aA rfl rfl) ?_;simp only[zz,zy,ar,aa,ag,ad];refine aS 28 [0,0,0,0,4,1,0] m ?_;simp only[↓aD,eY,aO,jW,dU,kM,lM,uD,aa];intro g3;refine⟨by omega,?_⟩;intro u m;refine aC (jI rfl rfl) (aS 6 [0] m ?_);simp only[↓aD];intro u m;refine aC (tJ rfl rfl) (aC (vT rfl rfl rfl) (aC (jB kQ iW rfl (yN Iw.h)) ?_));simp only[zz];refine cU m rfl rfl (nW (X:=(c.x).natAbs) _ (by have:=(Iw.h:yL c.x).natAbs;omega)) ?_;clear m;rintro v u m ⟨n,rfl,hn0,hn1,hcx⟩;refine aS 2 [0,0] m ?_;simp only[↓aD];intro u m;refine bG rfl (fun hc3=>?_) (fun hc3=>?_)
       ·
        refine aW 5 [] m ?_;simp only[↓aD];intro u m;refine aR rfl rfl ?_;try simp only[zD,zE]
        exact⟨_,rfl,m.ext,false,rfl,fun h=>by cases h⟩
       ·
        replace hcx:=hcx (by omega);clear hc3 hn0 hn1;refine aW 18 [1,0] m ?_;simp only[↓aD,ak];refine⟨by omega,?_⟩;intro u m;refine aC (jJ rfl rfl) (aS 6 [0] m ?_);simp only[↓aD];intro u m;refine aC (tJ rfl rfl) (aC (vT rfl rfl rfl) (aC (jB kQ iW rfl (yN Iw.h)) ?_));simp only[zz];refine cU m rfl rfl (nW (X:=(c.y).natAbs) _ (by have:=(Iw.h:yL c.y).natAbs;omega)) ?_;clear m;rintro v u m ⟨n,rfl,hn0,hn1,hcy⟩;refine aS 2 [0,0] m ?_;simp only[↓aD];intro u m;refine bG rfl (fun hc3=>?_) (fun hc3=>?_)
        ·
         refine aW 5 [] m ?_;simp only[↓aD];intro u m;refine aR rfl rfl ?_;try simp only[zD,zE]
         exact⟨_,rfl,m.ext,false,rfl,fun h=>by cases h⟩
        ·
         replace hcy:=hcy (by omega);clear hc3 hn0 hn1;refine aW 18 [1,0] m ?_;simp only[↓aD,ak];refine⟨by omega,?_⟩;intro u m;refine aC (jK rfl rfl) (aS 6 [0] m ?_);simp only[↓aD];intro u m;refine aC (tJ rfl rfl) (aC (vT rfl rfl rfl) (aC (jB kQ iW rfl (yN Iw.h)) ?_));simp only[zz];refine cU m rfl rfl (nW (X:=(c.z).natAbs) _ (by have:=(Iw.h:yL c.z).natAbs;omega)) ?_;clear m;rintro v u m ⟨n,rfl,hn0,hn1,hcz⟩;refine aS 2 [0,0] m ?_;simp only[↓aD];intro u m;refine bG rfl (fun hc3=>?_) (fun hc3=>?_)
         ·
          refine aW 5 [] m ?_;simp only[↓aD];intro u m;refine aR rfl rfl ?_;try simp only[zD,zE]
          exact⟨_,rfl,m.ext,false,rfl,fun h=>by cases h⟩
         ·
          replace hcz:=hcz (by omega);clear hc3 hn0 hn1;refine aW 31 [2,1,0] m ?_;simp only[↓aD,ak];refine⟨by omega,?_⟩;intro u m;refine aC (aF cX aA rfl rfl (by decide) (by decide) rfl) ?_;simp only[zz];refine aQ rfl ((hB0.ext m.ext).lies aG aA rfl rfl) ?_;simp only[zz,zy,ar,aa,ag,ad];refine aS 28 [0,0,0,0,4,1,0] m ?_;simp only[↓aD,eY,aO,jW,dU,kM,lM,uD,aa];intro g4;refine⟨by omega,?_⟩;intro u m;refine aC (jI rfl rfl) (aS 6 [0] m ?_);simp only[↓aD];intro u m;refine aC (tJ rfl rfl) (aC (vT rfl rfl rfl) (aC (jB kQ iW rfl (yN Iw.h)) ?_));simp only[zz];refine cU m rfl rfl (nW (X:=(d.x).natAbs) _ (by have:=(Iw.h:yL d.x).natAbs;omega)) ?_;clear m;rintro v u m ⟨n,rfl,hn0,hn1,hdx⟩;refine aS 2 [0,0] m ?_;simp only[↓aD];intro u m;refine bG rfl (fun hc3=>?_) (fun hc3=>?_)
          ·
           refine aW 5 [] m ?_;simp only[↓aD];intro u m;refine aR rfl rfl ?_;try simp only[zD,zE]
           exact⟨_,rfl,m.ext,false,rfl,fun h=>by cases h⟩
          ·
           replace hdx:=hdx (by omega);clear hc3 hn0 hn1;refine aW 18 [1,0] m ?_;simp only[↓aD,ak];refine⟨by omega,?_⟩;intro u m;refine aC (jJ rfl rfl) (aS 6 [0] m ?_);simp only[↓aD];intro u m;refine aC (tJ rfl rfl) (aC (vT rfl rfl rfl) (aC (jB kQ iW rfl (yN Iw.h)) ?_));simp only[zz];refine cU m rfl rfl (nW (X:=(d.y).natAbs) _ (by have:=(Iw.h:yL d.y).natAbs;omega)) ?_;clear m;rintro v u m ⟨n,rfl,hn0,hn1,hdy⟩;refine aS 2 [0,0] m ?_;simp only[↓aD];intro u m;refine bG rfl (fun hc3=>?_) (fun hc3=>?_)
           ·
            refine aW 5 [] m ?_;simp only[↓aD];intro u m;refine aR rfl rfl ?_;try simp only[zD,zE]
            exact⟨_,rfl,m.ext,false,rfl,fun h=>by cases h⟩
           ·
            replace hdy:=hdy (by omega);clear hc3 hn0 hn1;refine aW 18 [1,0] m ?_;simp only[↓aD,ak];refine⟨by omega,?_⟩;intro u m;refine aC (jK rfl rfl) (aS 6 [0] m ?_);simp only[↓aD];intro u m;refine aC (tJ rfl rfl) (aC (vT rfl rfl rfl) (aC (jB kQ iW rfl (yN Iw.h)) ?_));simp only[zz];refine cU m rfl rfl (nW (X:=(d.z).natAbs) _ (by have:=(Iw.h:yL d.z).natAbs;omega)) ?_;clear m;rintro v u m ⟨n,rfl,hn0,hn1,hdz⟩;refine aS 2 [0,0] m ?_;simp only[↓aD];intro u m;refine bG rfl (fun hc3=>?_) (fun hc3=>?_)
            ·
             refine aW 5 [] m ?_;simp only[↓aD];intro u m;refine aR rfl rfl ?_;try simp only[zD,zE]
             exact⟨_,rfl,m.ext,false,rfl,fun h=>by cases h⟩
            ·
             replace hdz:=hdz (by omega);clear hc3 hn0 hn1;refine aW 32 [2,2] m ?_;simp only[↓aD,ak];refine⟨by omega,?_⟩;intro u m;exact aR rfl rfl (⟨_,rfl,m.ext,true,rfl,fun _=>⟨⟨hax,hay,haz⟩,⟨hbx,hby,hbz⟩,⟨hcx,hcy,hcz⟩,⟨hdx,hdy,hdz⟩⟩⟩)
theorem qX{a b c d:P3}[I3 a][I3 b][I3 c][I3 d]:dL prog 238 [pt a,pt b,pt c,pt d] (sg ((b.sub a).cross (d.sub c))):=by
 intro w;refine⟨anX,?_⟩;have m:=Mem.refl w
 go_enter func238,ntmps238
 refine eC 19 [5,4,3,2] m ?_;simp only[↓aD,Un,aO];intro g1 g2 g3 g4 g5 g6;intro u m;refine go (Cs rfl rfl rfl rfl ?_);intro u g7 e hg hB;replace m:=m.newB e hg hB;clear e hg hB;simp only[zz];refine cU m rfl rfl (Uu _ (m.b 0 rfl)) ?_;clear m;rintro v u m ⟨bo,rfl,hsm⟩;refine aS 1 [0] m ?_;simp only[↓aD];intro u m;refine jZ rfl (fun hc1=>?_) (fun hc1=>?_)
 ·
  obtain⟨_,_,_,_⟩:=hsm hc1;refine aW 2 [0] m ?_;simp only[↓aD];intro u m;refine mq m aB (by kernel_rfl) (ql rfl (fun u m=>((m.b 6 rfl).full aG aA)) ?_);simp only[zz];refine ql rfl (fun u m=>((m.b 5 rfl).full aG aA)) ?_;simp only[zz];refine eR rfl rfl pU ?_;simp only[zz];refine ql rfl (fun u m=>((m.b 4 rfl).full aG aA)) ?_;simp only[zz];refine ql rfl (fun u m=>((m.b 3 rfl).full aG aA)) ?_;simp only[zz];refine eR rfl rfl pU ?_;simp only[zz];refine eR rfl rfl (Ee inferInstance inferInstance) (aJ aH (bD ?_));clear m;intro u m;refine cP 15 [4,1,0] m ?_;simp only[↓aD];refine⟨by omega,?_⟩;intro u m;refine aC (So rfl rfl) (aS 6 [0] m ?_);simp only[↓aD];intro u m;refine mW m rfl rfl Xj 21 [1,1,0] ?_;simp only[↓aD,fU,dU,ad,ag,aa,ak];refine⟨by omega,?_⟩;intro u m;refine aC (Sq rfl rfl) (aS 6 [0] m ?_);simp only[↓aD];intro u m;refine mW m rfl rfl Xj 21 [1,1,0] ?_;simp only[↓aD,fU,dU,ad,ag,aa,ak];refine⟨by omega,?_⟩;intro u m;refine aC (Sr rfl rfl) (aS 6 [0] m ?_);simp only[↓aD];intro u m;refine mW m rfl rfl Xj 22 [1,2,1,2] ?_;simp only[↓aD,fU,dU,Hj,ad,ag,aa,ak];refine⟨by omega,?_⟩;intro u m;exact aR rfl ⟨_,rfl,((m.b 2 rfl).full vF jE)⟩ (⟨_,rfl,m.ext,rfl⟩)
 ·
  refine aW 3 [0] m ?_;simp only[↓aD];intro u m;refine mq m aB (by kernel_rfl) (ql rfl (fun u m=>((m.b 6 rfl).full aG aA)) ?_);simp only[zz];refine ql rfl (fun u m=>((m.b 5 rfl).full aG aA)) ?_;simp only[zz];refine eR rfl rfl mT ?_;simp only[zz];refine ql rfl (fun u m=>((m.b 4 rfl).full aG aA)) ?_;simp only[zz];refine ql rfl (fun u m=>((m.b 3 rfl).full aG aA)) ?_;simp only[zz];refine eR rfl rfl mT ?_;simp only[zz];refine eR rfl rfl (xT Bv.of Bv.of) (aJ aH (bD ?_));clear m;intro u m;refine cP 15 [4,1,0] m ?_;simp only[↓aD];refine⟨by omega,?_⟩;intro u m;refine aC (Si rfl rfl) (aS 7 [0,0,0] m ?_);simp only[↓aD,mR,fC,aa];intro g8;intro u m;refine mW m rfl rfl (Kc Bw.up) 21 [2,1,0] ?_;simp only[↓aD,fU,dU,ad,ag,aa,ak];refine⟨by omega,?_⟩;intro u m;refine aC (Sj rfl rfl) (aS 7 [0,0,0] m ?_);simp only[↓aD,mR,fC,aa];intro g9;intro u m;refine mW m rfl rfl (Kc Bw.up) 21 [3,1,0] ?_;simp only[↓aD,fU,dU,ad,ag,aa,ak];refine⟨by omega,?_⟩;intro u m;refine aC (Sk rfl rfl) (aS 7 [0,0,0] m ?_);simp only[↓aD,mR,fC,aa];intro g10;intro u m;refine mW m rfl rfl (Kc Bw.up) 22 [4,2,4,5] ?_;simp only[↓aD,fU,dU,Hj,ad,ag,aa,ak];refine⟨by omega,?_⟩;intro u m;exact aR rfl ⟨_,rfl,((m.b 5 rfl).full vF jE)⟩ (⟨_,rfl,m.ext,rfl⟩)
theorem Xk{t:T3}[IT t]:dL prog 171 [tr t] (.bool (decide (aY t.normal.x=0∧aY t.normal.y=0∧aY t.normal.z=0))):=by
 intro w;refine⟨anf,?_⟩;have m:=Mem.refl w
 go_enter func171,ntmps171
 refine eC 15 [0,0,0,0,0] m ?_;simp only[↓aD,bM,aO,ad,ag,aa];intro g1;refine⟨by omega,?_⟩;intro u m;refine mW m rfl rfl (qX (a:=t.a) (b:=t.b) (c:=t.a) (d:=t.c)) 1 [0] ?_;simp only[↓aD,uD,aa];intro u m;refine aC (Cg rfl rfl) (aS 3 [] m ?_);simp only[↓aD];intro u m;exact aR rfl rfl (⟨_,rfl,m.ext,rfl⟩)
end Go.Proofs.YtfekpcimgncioaaGreatDoor
namespace Go.Proofs.YtfekpcimgncioaaGreatDoor
open Go.Proofs.Tryz
open Go.RowKit Go.Lith
set_option maxRecDepth 100000
attribute [local irreducible] au cg fR bO cO Code.wp
end Go.Proofs.YtfekpcimgncioaaGreatDoor
namespace Go.Proofs.YtfekpcimgncioaaGreatDoor
open Go.Proofs.Tryz
open Go.RowKit Go.Lith
set_option maxRecDepth 100000
attribute [local irreducible] au cg fR bO cO Code.wp
attribute [local congr] pL fX fY fZ gA gB kI gC gD gE gF gG gH gI gJ gK gL gM eS eT gN gQ gS gT gU kK dC dD cR dB gR kJ eV eW eX gW gX kL
theorem uH{p q:P3}[I3 p][I3 q]:dL prog 214 [pt p,pt q] (wv (q.sub p)):=by
 intro w;refine⟨anO,?_⟩;have m:=Mem.refl w
 go_enter func214,ntmps214
 refine eC 7 [0] m ?_;simp only[↓aD,Qh];intro g1 g2 g3;intro u m;refine eD 8 [0,1,2,3,4,5,6] [⟨7,5,95,[.bool false,.string ⟨#[]⟩]⟩] aB (by kernel_rfl) (al1 ⟨_,_,_,rfl,by kernel_rfl,_,xA,rfl⟩) (ol:=?_) ?hol ?_
 case hol=>simp only[zw,zQ,zR];try rfl
 intro u e;replace m:=m.ext' e;clear e;refine iR (aT (c:=0) fJ rfl aX rfl rfl) ?_;simp only[zz];refine eB rfl (fun u e=>(((m.ext' e).b 1 rfl).lies1 bE rfl)) ?_;simp only[zz];refine eO rfl rfl (Cr Iw.h) (iR (aT (c:=0) fJ rfl aX rfl rfl) ?_);simp only[zz];refine eB rfl (fun u e=>(((m.ext' e).b 2 rfl).lies1 bE rfl)) ?_;simp only[zz];refine eO rfl rfl (Cr Iw.h) ?_;simp only[zz];refine eO rfl rfl (Xh Bw.up Bw.up) (yM ?_);simp only[zz];refine mf1 m ?_;clear m;intro g4 u m;simp only[zJ,zK,zF,zG];refine bR m 0 rfl rfl rfl aP (iS rfl) rfl ?_;clear m;intro u m;simp only[zy,zx,cA,zF,zG,aa] at m;refine aK (cP 1 [0] m ?_);simp only[↓aD];intro u m;refine eD 8 [0,1,2,3,4,5,6] [⟨7,6,95,[.bool false,.string ⟨#[]⟩]⟩] aB (by kernel_rfl) (al1 ⟨_,_,_,rfl,by kernel_rfl,_,xA,rfl⟩) (ol:=?_) ?hol ?_
 case hol=>simp only[zw,zQ,zR];try rfl
 intro u e;replace m:=m.ext' e;clear e;refine iR (aT (c:=0) fJ rfl aX rfl rfl) ?_;simp only[zz];refine eB rfl (fun u e=>(((m.ext' e).b 2 rfl).lies1 bE rfl)) ?_;simp only[zz];refine eO rfl rfl (Cr Iw.h) (iR (aT (c:=0) fJ rfl aX rfl rfl) ?_);simp only[zz];refine eB rfl (fun u e=>(((m.ext' e).b 3 rfl).lies1 bE rfl)) ?_;simp only[zz];refine eO rfl rfl (Cr Iw.h) ?_;simp only[zz];refine eO rfl rfl (Xh Bw.up Bw.up) (yM ?_);simp only[zz];refine mf1 m ?_;clear m;intro g5 u m;simp only[zJ,zK,zF,zG];refine bR m 0 rfl rfl rfl aP (iS rfl) rfl ?_;clear m;intro u m;simp only[zy,zx,cA,zF,zG,aa] at m;refine aK (cP 1 [0] m ?_);simp only[↓aD];intro u m;refine eD 8 [0,1,2,3,4,5,6] [⟨7,7,95,[.bool false,.string ⟨#[]⟩]⟩] aB (by kernel_rfl) (al1 ⟨_,_,_,rfl,by kernel_rfl,_,xA,rfl⟩) (ol:=?_) ?hol ?_
 case hol=>simp only[zw,zQ,zR];try rfl
 intro u e;replace m:=m.ext' e;clear e;refine iR (aT (c:=0) fJ rfl aX rfl rfl) ?_;simp only[zz];refine eB rfl (fun u e=>(((m.ext' e).b 3 rfl).lies1 bE rfl)) ?_;simp only[zz];refine eO rfl rfl (Cr Iw.h) (iR (aT (c:=0) fJ rfl aX rfl rfl) ?_);simp only[zz];refine eB rfl (fun u e=>(((m.ext' e).b 4 rfl).lies1 bE rfl)) ?_;simp only[zz];refine eO rfl rfl (Cr Iw.h) ?_;simp only[zz];refine eO rfl rfl (Xh Bw.up Bw.up) (yM ?_);simp only[zz];refine mf1 m ?_;clear m;intro g6 u m;simp only[zJ,zK,zF,zG];refine bR m 0 rfl rfl rfl aP (iS rfl) rfl ?_;clear m;intro u m;simp only[zy,zx,cA,zF,zG,aa] at m;refine aK (cP 9 [2,1,0,3] m ?_);simp only[↓aD,fC,aps,ahN,aa];intro u m;exact aR rfl ⟨_,rfl,((m.b 3 rfl).full Ml oM)⟩ (⟨_,rfl,m.ext,rfl⟩)
theorem Qn{u v:P3}(hu:Bv 400000 u)(hv:Bv 400000 v):dL prog 212 [wv u,wv v] (W (u.dot v)):=by
 intro w;refine⟨anM,?_⟩;have m:=Mem.refl w
 go_enter func212,ntmps212
 refine eC 7 [0] m ?_;simp only[↓aD,mR];intro g1 g2 g3;intro u m;refine eD 12 [0,1,2,3,4,5,6,7,8,9,10] [⟨11,5,95,[.bool false,.string ⟨#[]⟩]⟩] aB (by kernel_rfl) (al1 ⟨_,_,_,rfl,by kernel_rfl,_,xA,rfl⟩) (ol:=?_) ?hol ?_
 case hol=>simp only[zw,zQ,zR];try rfl
 intro u e;replace m:=m.ext' e;clear e;refine iR (aI Iu aP rfl rfl (by decide) (by decide) rfl) ?_;simp only[zz];refine eB rfl (fun u e=>(((m.ext' e).b 2 rfl).lies cL aP rfl rfl)) ?_;simp only[zz,zy,ar,aa,ag,ad];refine iR (aI Iu aP rfl rfl (by decide) (by decide) rfl) ?_;simp only[zz];refine eB rfl (fun u e=>(((m.ext' e).b 1 rfl).lies cL aP rfl rfl)) ?_;simp only[zz,zy,ar,aa,ag,ad];refine eO rfl rfl (Qj Bw.up Bw.up) (iR (aI Iu aP rfl rfl (by decide) (by decide) rfl) ?_);simp only[zz];refine eB rfl (fun u e=>(((m.ext' e).b 2 rfl).lies cL aP rfl rfl)) ?_;simp only[zz,zy,ar,aa,ag,ad];refine iR (aI Iu aP rfl rfl (by decide) (by decide) rfl) ?_;simp only[zz];refine eB rfl (fun u e=>(((m.ext' e).b 1 rfl).lies cL aP rfl rfl)) ?_;simp only[zz,zy,ar,aa,ag,ad];refine eO rfl rfl (Qj Bw.up Bw.up) ?_;simp only[zz];refine eO rfl rfl (acn Bw.up Bw.up) (yM ?_);simp only[zz];refine mf1 m ?_;clear m;intro g4 u m;simp only[zJ,zK,zF,zG];refine bR m 0 rfl rfl rfl aP (iS rfl) rfl ?_;clear m;intro u m;simp only[zy,zx,cA,zF,zG,aa] at m;refine aK (cP 1 [0] m ?_);simp only[↓aD];intro u m;refine dA m 7 aB (by kernel_rfl) ?_;simp only[zy];refine eM 5 [0,3,2] ?_;simp only[↓aD,fC,uG,ad,ag,aa];refine⟨by omega,?_⟩;refine eR rfl rfl (Qj Bw.up Bw.up) ?_;simp only[zz];refine eR rfl rfl (acn Bw.up Bw.up) (bD ?_);clear m;intro u m;simp only[zz];refine bR m 1 rfl rfl rfl aP (iS rfl) rfl ?_;clear m;intro u m;simp only[zy,zx,cA,zF,zG,aa] at m;refine aK (cP 1 [] m ?_);simp only[↓aD];intro u m;exact aR rfl ⟨_,rfl,((m.b 1 rfl).full cL aP)⟩ (⟨_,rfl,m.ext,rfl⟩)
theorem Kf{a b c d:Int}(ha:Bd 400000 a)(hb:Bd 400000 b)(hc:Bd 400000 c)(hd:Bd 400000 d):dL prog 286 [W a,W b,W c,W d] (W (a*b-c*d)):=by
 intro w;refine⟨aoh,?_⟩;have m:=Mem.refl w;haveI:Bw 400000 a:=⟨ha⟩;haveI:Bw 400000 b:=⟨hb⟩;haveI:Bw 400000 c:=⟨hc⟩;haveI:Bw 400000 d:=⟨hd⟩
 go_enter func286,ntmps286
 refine eC 9 [0] m ?_;simp only[↓aD,mR];intro g1 g2 g3 g4 g5;intro u m;refine dA m 7 aB (by kernel_rfl) ?_;simp only[zy];refine ql rfl (fun u m=>((m.b 4 rfl).full cL aP)) ?_;simp only[zz];refine ql rfl (fun u m=>((m.b 3 rfl).full cL aP)) ?_;simp only[zz];refine eR rfl rfl (Qj Bw.up Bw.up) ?_;simp only[zz];refine ql rfl (fun u m=>((m.b 2 rfl).full cL aP)) ?_;simp only[zz];refine ql rfl (fun u m=>((m.b 1 rfl).full cL aP)) ?_;simp only[zz];refine eR rfl rfl (Qj Bw.up Bw.up) ?_;simp only[zz];refine eR rfl rfl (Xh Bw.up Bw.up) (bD ?_);clear m;intro u m;simp only[zz];refine bR m 0 rfl rfl rfl aP (iS rfl) rfl ?_;clear m;intro u m;simp only[zy,zx,cA,zF,zG,aa] at m;refine aK (cP 1 [] m ?_);simp only[↓aD];intro u m;exact aR rfl ⟨_,rfl,((m.b 0 rfl).full cL aP)⟩ (⟨_,rfl,m.ext,rfl⟩)
theorem Qo{u v:P3}(hu:Bv 400000 u)(hv:Bv 400000 v):dL prog 213 [wv u,wv v] (wv (u.cross v)):=by
 intro w;refine⟨anN,?_⟩;have m:=Mem.refl w
 go_enter func213,ntmps213
 refine eC 7 [0] m ?_;simp only[↓aD,Qh];intro g1 g2 g3;intro u m;refine dA m 28 aB (by kernel_rfl) ?_;simp only[zy];refine eM 8 [2,1,2,1] ?_;simp only[↓aD,uG,fC,ad,ag,aa];refine⟨by omega,?_⟩;refine eR rfl rfl (Kf Bw.up Bw.up Bw.up Bw.up) (eM 8 [2,1,2,1] ?_);simp only[↓aD,uG,fC,ad,ag,aa];refine⟨by omega,?_⟩;refine eR rfl rfl (Kf Bw.up Bw.up Bw.up Bw.up) (eM 8 [2,1,2,1] ?_);simp only[↓aD,uG,fC,ad,ag,aa];refine⟨by omega,?_⟩;refine eR rfl rfl (Kf Bw.up Bw.up Bw.up Bw.up) (aJ (Ge rfl rfl rfl) (bD ?_));clear m;intro u m;simp only[zz];refine bR m 0 rfl rfl rfl oM (iS rfl) rfl ?_;clear m;intro u m;simp only[zy,zx,cA,zF,zG,aa] at m;refine aK (cP 1 [] m ?_);simp only[↓aD];intro u m;exact aR rfl ⟨_,rfl,((m.b 0 rfl).full Ml oM)⟩ (⟨_,rfl,m.ext,rfl⟩)
theorem Uv{t:T3}[IT t]:dL prog 245 [tr t] (wv t.normal):=by
 intro w;refine⟨an4,?_⟩;have m:=Mem.refl w
 go_enter func245,ntmps245
 refine eC 6 [0] m ?_;simp only[↓aD,Qh];intro g1 g2;intro u m;refine dA m 11 aB (by kernel_rfl) ?_;simp only[zy];refine eM 4 [1,1] ?_;simp only[↓aD,bM,aO,ad,ag,aa];refine⟨by omega,?_⟩;refine eR rfl rfl uH (eM 4 [1,1] ?_);simp only[↓aD,bM,aO,ad,ag,aa];refine⟨by omega,?_⟩;refine eR rfl rfl uH ?_;simp only[zz];refine eR rfl rfl (Qo Bv.of Bv.of) (bD ?_);clear m;intro u m;simp only[zz];refine bR m 0 rfl rfl rfl oM (iS rfl) rfl ?_;clear m;intro u m;simp only[zy,zx,cA,zF,zG,aa] at m;refine aK (cP 1 [] m ?_);simp only[↓aD];intro u m;exact aR rfl ⟨_,rfl,((m.b 0 rfl).full Ml oM)⟩ (⟨_,rfl,m.ext,rfl⟩)
class Sr4(p:P3):Prop where
 x:p.x.natAbs≤262144
 y:p.y.natAbs≤262144
 z:p.z.natAbs≤262144
class Nr4(p:P3):Prop where
 x:p.x.natAbs≤524288
 y:p.y.natAbs≤524288
 z:p.z.natAbs≤524288
instance {p q:P3}[a:Sr4 p][b:Sr4 q]:Nr4 (p.sub q):=⟨by have:=a.x;have:=b.x;simp only[P3.sub];omega,by have:=a.y;have:=b.y;simp only[P3.sub];omega,by have:=a.z;have:=b.z;simp only[P3.sub];omega⟩
theorem mA{a b:Int}(ha:a.natAbs≤524288)(hb:b.natAbs≤524288) : -549755813888<a*b∧a*b<549755813888:=by
 have h:(a*b).natAbs≤524288*524288:=by rw[jj];exact Nat.mul_le_mul (by omega) (by omega)
 omega
theorem acu{x y:Int}(h : -549755813888<x∧x<549755813888)(k : -549755813888<y∧y<549755813888):IntKind.i64.wrap (x-y)=x-y:=dY (by omega) (by omega)
theorem Cu{x:Int}(h : -549755813888<x∧x<549755813888):IntKind.i64.wrap x=x:=dY (by omega) (by omega)
theorem al5{w:aj}{g:Nat}{T:an}{a b c d:P3}(hB:fK w g [.int .i64 a.x,.int .i64 a.y,.int .i64 a.z,.int .i64 b.x,.int .i64 b.y,.int .i64 b.z,.int .i64 c.x,.int .i64 c.y,.int .i64 c.z,.int .i64 d.x,.int .i64 d.y,.int .i64 d.z] T):Dg kN 3 w (some ⟨g,0,none⟩) 4 [a,b,c,d] :=
 ⟨rfl,fun i x hi=>⟨_,rfl,by
  rw[gZ,ar]
  match i,hi with
  | 0,h=>cases h;exact mB.pre (ys:=kN b++kN c++kN d) (hB.row 0)
  | 1,h=>cases h;exact mB.pre (ys:=kN c++kN d) (hB.row 3)
  | 2,h=>cases h;exact mB.pre (ys:=kN d) (hB.row 6)
  | 3,h=>cases h;exact hB.row 9⟩⟩
theorem ahW{ps:List P3}{p:P3}{k:Nat}(h:∀q∈ps.take k,Sr4 q)(hp:ps[k]? = some p)(h4:Sr4 p):∀q∈ps.take (k+1),Sr4 q:=fun q hq=>by
 rw[Tw hp] at hq;rcases List.mem_append.1 hq with hq | hq
 · exact h q hq
 · rw[List.mem_singleton.1 hq];exact h4
theorem Qp{ps:List P3}{N cap:Nat}{A:Option Addr}(w:aj)(hP:Dg kN 3 w A N ps)(hN:N<4611686018427387904):dJ prog 207 [.slice A N cap] w (fun v _=>∃bo:Bool,v=.bool bo∧(bo=true→∀p∈ps,Sr4 p)):=by
 refine⟨anH,?_⟩;have m:=Mem.refl w
 go_enter func207,ntmps207
 refine eC 10 [0] m ?_;simp only[↓aD];intro u m;refine cE [3] [2,4,5,6,7,8,9,10,11,12,13,14,15,16,17,18,19,20,21,22,23,24,25,26,27,28,29,30,31,32,33,34,35,36,37,38,39,40,41,42] (fun n vs wl=>∃(k:Nat),vs=[.int .i64 (k:Int)]∧Mem w wl []∧(∀p∈ps.take k,Sr4 p)∧(k≤N)∧(n=N-k)) ?_ ?_
 ·
  apply Exists.intro;simp only[zQ,zR,zD,zE];exact⟨0,rfl,m,fun p h=>by simp at h,br _,rfl⟩
 ·
  intro n vs wr hI u K1 hK1;clear m;obtain⟨k,rfl,m,hs,hk,hn⟩:=hI;simp only[zu,zF,zG];refine aW 8 [0,0] m ?_;simp only[↓aD,mQ];intro u m;refine bG rfl (fun hc1=>?_) (fun hc1=>?_)
  ·
   obtain⟨p,hp,a,rfl,hrow⟩:=hP.get (i:=k) (by omega);have hrow:mB w (a.add (k*3)) [.int .i64 p.x,.int .i64 p.y,.int .i64 p.z]:=hrow;refine aW 7 [0] m ?_;simp only[↓aD];intro u m;refine aC (aF cX aA rfl rfl (by omega) (by omega) (bZ (ai _))) ?_;simp only[zz];refine aQ rfl (((hrow.ext m.ext)).lies aG aA) ?_;simp only[zz];refine aS 9 [0,0,0,0] m ?_;simp only[↓aD,eY,aO,jW,dU,aa];intro g1;intro u m;refine bC rfl (fun hb=>aT (c:=0) fJ rfl aX rfl rfl) ?_;simp only[zz];refine bS rfl (fun hb=>aU (aV hb rfl) ((m.b 0 rfl).lies1 bE rfl)) (bC rfl (fun hb=>rA (aV hb rfl) rfl) (aC (cF rfl rfl rfl) ?_));refine aS 1 [0] m ?_;simp only[↓aD];intro u m;refine bC rfl (fun hb=>aT (c:=0) fJ rfl aX rfl rfl) ?_;simp only[zz];refine bS rfl (fun hb=>aU (aV hb rfl) ((m.b 0 rfl).lies1 bE rfl)) (bC rfl (fun hb=>Yr (aV hb rfl) rfl) (aC (cF rfl rfl rfl) ?_));refine aS 1 [0] m ?_;simp only[↓aD];intro u m;refine bC rfl (fun hb=>aT (c:=0) fJ rfl aX rfl rfl) ?_;simp only[zz];refine bS rfl (fun hb=>aU (aV hb rfl) ((m.b 0 rfl).lies1 bE rfl)) (bC rfl (fun hb=>rA (aV hb rfl) rfl) (aC (cF rfl rfl rfl) ?_));refine aS 1 [0] m ?_;simp only[↓aD];intro u m;refine bC rfl (fun hb=>aT (c:=0) fJ rfl aX rfl rfl) ?_;simp only[zz];refine bS rfl (fun hb=>aU (aV hb rfl) ((m.b 0 rfl).lies1 bE rfl)) (bC rfl (fun hb=>Yr (aV hb rfl) rfl) (aC (cF rfl rfl rfl) ?_));refine aS 1 [0] m ?_;simp only[↓aD];intro u m;refine bC rfl (fun hb=>aT (c:=0) fJ rfl aX rfl rfl) ?_;simp only[zz];refine bS rfl (fun hb=>aU (aV hb rfl) ((m.b 0 rfl).lies1 bE rfl)) (bC rfl (fun hb=>rA (aV hb rfl) rfl) (aC (cF rfl rfl rfl) ?_));refine aS 1 [0] m ?_;simp only[↓aD];intro u m;refine jZ rfl (fun hc2=>?_) (fun hc2=>?_)
   ·
    refine aW 5 [] m ?_;simp only[↓aD];intro u m;refine aR rfl rfl ?_;try simp only[zD,zE]
    exact⟨_,rfl,m.ext,false,rfl,fun h=>by cases h⟩
   ·
    have hp4:Sr4 p:=by
     simp only[Bool.or_eq_false_iff,decide_eq_false_iff_not] at hc2;exact⟨by omega,by omega,by omega⟩
    refine aW 7 [0] m ?_;simp only[↓aD];refine⟨by omega,?_⟩;intro u m;refine hK1 (N-(k+1)) _ _ ?_ ?_ ?_
    · omega
    · simp only[zz,zv]
    ·
     simp only[zQ,zR,zD,zE];exact⟨k+1,rfl,(m.sel [false]),ahW hs hp hp4,by omega,rfl⟩
  ·
   have e:ps.take k=ps:=a_ (by rw[hP.len];omega);rw[e] at hs;refine aW 6 [] m ?_;simp only[↓aD];intro u m;exact aR rfl rfl (⟨_,rfl,m.ext,true,rfl,fun _=>hs⟩)
theorem rM{p q:P3}[hp:Sr4 p][hq:Sr4 q]:dL prog 209 [pt p,pt q] (nv (q.sub p)):=by
 intro w;refine⟨anJ,?_⟩;have m:=Mem.refl w;have:=hp.x;have:=hp.y;have:=hp.z;have:=hq.x;have:=hq.y;have:=hq.z
 go_enter func209,ntmps209
 refine eC 27 [1,2,1,2,1,2,0] m ?_;simp only[↓aD,Un,jW,dU,kM,lM,uD,Hj,aa];intro g1 g2 g3;refine⟨by omega,?_⟩;intro u m;exact aR rfl ⟨_,rfl,((m.b 0 rfl).full vF jE)⟩ (⟨_,rfl,m.ext,rfl⟩)
theorem Hn{u v:P3}(hu:Nr4 u)(hv:Nr4 v):dL prog 208 [nv u,nv v] (nv (u.cross v)):=by
 intro w;refine⟨anI,?_⟩;have m:=Mem.refl w
 go_enter func208,ntmps208
 refine eC 12 [2,1,0] m ?_;simp only[↓aD,Un,fU,dU,ad,ag,aa];intro g1 g2 g3;refine⟨by omega,?_⟩;intro u m;refine aC (lB rfl rfl (Cu (mA hu.y hv.z))) (aS 4 [2,1,0] m ?_);simp only[↓aD,fU,dU,ad,ag,aa];refine⟨by omega,?_⟩;intro u m;refine aC (lB rfl rfl (Cu (mA hu.z hv.y))) (aC (Fs rfl rfl (acu (mA hu.y hv.z) (mA hu.z hv.y))) ?_);refine aS 4 [2,1,0] m ?_;simp only[↓aD,fU,dU,ad,ag,aa];refine⟨by omega,?_⟩;intro u m;refine aC (lB rfl rfl (Cu (mA hu.z hv.x))) (aS 4 [2,1,0] m ?_);simp only[↓aD,fU,dU,ad,ag,aa];refine⟨by omega,?_⟩;intro u m;refine aC (lB rfl rfl (Cu (mA hu.x hv.z))) (aC (Fs rfl rfl (acu (mA hu.z hv.x) (mA hu.x hv.z))) ?_);refine aS 4 [2,1,0] m ?_;simp only[↓aD,fU,dU,ad,ag,aa];refine⟨by omega,?_⟩;intro u m;refine aC (lB rfl rfl (Cu (mA hu.x hv.y))) (aS 4 [2,1,0] m ?_);simp only[↓aD,fU,dU,ad,ag,aa];refine⟨by omega,?_⟩;intro u m;refine aC (lB rfl rfl (Cu (mA hu.y hv.x))) (aC (Fs rfl rfl (acu (mA hu.x hv.y) (mA hu.y hv.x))) ?_);refine aS 4 [0] m ?_;simp only[↓aD,uD,Hj,aa];intro u m;exact aR rfl ⟨_,rfl,((m.b 0 rfl).full vF jE)⟩ (⟨_,rfl,m.ext,rfl⟩)
theorem Cv{n:Int}:dL prog 210 [.int .i64 n] (.int .i64 (aY n)):=by
 intro w;refine⟨anK,?_⟩;have m:=Mem.refl w
 go_enter func210,ntmps210
 refine eC 10 [0,0] m ?_;simp only[↓aD];intro u m;refine bG rfl (fun hc1=>?_) (fun hc1=>?_)
 ·
  refine aW 5 [] m ?_;simp only[↓aD];intro u m;refine aR rfl rfl ?_;try simp only[zD,zE]
  exact⟨_,rfl,m.ext,by rw[Cj (by assumption)]⟩
 ·
  refine aW 7 [0,0] m ?_;simp only[↓aD];intro u m;refine bG rfl (fun hc2=>?_) (fun hc2=>?_)
  ·
   refine aW 5 [] m ?_;simp only[↓aD];intro u m;refine aR rfl rfl ?_;try simp only[zD,zE]
   exact⟨_,rfl,m.ext,by rw[Ck (by assumption)]⟩
  ·
   refine aW 6 [] m ?_;simp only[↓aD];intro u m;refine aR rfl rfl ?_;try simp only[zD,zE]
   exact⟨_,rfl,m.ext,by rw[show n=0 by omega];rfl⟩
theorem Qr{a b c d:P3}[I3 a][I3 b][I3 c][I3 d]:dL prog 206 [pt a,pt b,pt c,pt d] (sg ((b.sub a).cross (d.sub c))):=by
 intro w;refine⟨anG,?_⟩;have m:=Mem.refl w
 go_enter func206,ntmps206
 refine eC 14 [4,3,2,1,0] m ?_;simp only[↓aD,Un,aO];intro g1 g2 g3 g4 g5;intro u m;refine Cs rfl rfl rfl rfl ?_;intro u g6 e hg hB;replace m:=m.newB e hg hB;clear e hg hB;simp only[zz];refine cU m rfl rfl (Qp (ps:=[a,b,c,d]) _ (al5 (m.b 0 rfl)) (by decide)) ?_;clear m;rintro v u m ⟨bo,rfl,hsm⟩;refine aS 7 [0] m ?_;simp only[↓aD];intro u m;refine jZ rfl (fun hc1=>?_) (fun hc1=>?_)
 ·
  have hs4:=hsm hc1;haveI:=hs4 a (by simp);haveI:=hs4 b (by simp);haveI:=hs4 c (by simp);haveI:=hs4 d (by simp);refine aW 1 [0] m ?_;simp only[↓aD];intro u m;refine eD 8 [0,1,2,3,4,5,6] [⟨7,10,36,[.int .i64 0,.int .i64 0,.int .i64 0]⟩] aB (by kernel_rfl) (al1 ⟨_,_,_,rfl,by kernel_rfl,_,Cc,rfl⟩) (ol:=?_) ?hol ?_
  case hol=>simp only[zw,zQ,zR];try rfl
  intro u e;replace m:=m.ext' e;clear e;refine eB rfl (fun u e=>(((m.ext' e).b 5 rfl).full aG aA)) ?_;simp only[zz];refine eB rfl (fun u e=>(((m.ext' e).b 4 rfl).full aG aA)) ?_;simp only[zz];refine eO rfl rfl rM ?_;simp only[zz];refine eB rfl (fun u e=>(((m.ext' e).b 3 rfl).full aG aA)) ?_;simp only[zz];refine eB rfl (fun u e=>(((m.ext' e).b 2 rfl).full aG aA)) ?_;simp only[zz];refine eO rfl rfl rM ?_;simp only[zz];refine eO rfl rfl (Hn inferInstance inferInstance) (yM ?_);simp only[zz];refine mf1 m ?_;clear m;intro g7 u m;simp only[zJ,zK,zF,zG];refine bR m 0 rfl rfl rfl jE (iS rfl) rfl ?_;clear m;intro u m;simp only[zy,zx,cA,zF,zG,aa] at m;refine aK (cP 1 [0] m ?_);simp only[↓aD];intro u m;refine dA m 10 aB (by kernel_rfl) ?_;simp only[zy];refine eM 2 [0] ?_;simp only[↓aD,fU,dU,ad,ag,aa];refine⟨by omega,?_⟩;refine eR rfl rfl Cv (eM 2 [0] ?_);simp only[↓aD,fU,dU,ad,ag,aa];refine⟨by omega,?_⟩;refine eR rfl rfl Cv (eM 2 [0] ?_);simp only[↓aD,fU,dU,ad,ag,aa];refine⟨by omega,?_⟩;refine eR rfl rfl Cv (aJ (vW rfl rfl rfl) (bD ?_));clear m;intro u m;simp only[zz];refine bR m 2 rfl rfl rfl jE (iS rfl) rfl ?_;clear m;intro u m;simp only[zy,zx,cA,zF,zG,aa] at m;refine aK (cP 1 [] m ?_);simp only[↓aD];intro u m;exact aR rfl ⟨_,rfl,((m.b 2 rfl).full vF jE)⟩ (⟨_,rfl,m.ext,rfl⟩)
 ·
  refine aW 2 [0] m ?_;simp only[↓aD];intro u m;refine eD 8 [0,1,2,3,4,5,6] [⟨7,11,257,[.bool false,.string ⟨#[]⟩,.bool false,.string ⟨#[]⟩,.bool false,.string ⟨#[]⟩]⟩] aB (by kernel_rfl) (al1 ⟨_,_,_,rfl,by kernel_rfl,_,Zb,rfl⟩) (ol:=?_) ?hol ?_
  case hol=>simp only[zw,zQ,zR];try rfl
  intro u e;replace m:=m.ext' e;clear e;refine eB rfl (fun u e=>(((m.ext' e).b 5 rfl).full aG aA)) ?_;simp only[zz];refine eB rfl (fun u e=>(((m.ext' e).b 4 rfl).full aG aA)) ?_;simp only[zz];refine eO rfl rfl uH ?_;simp only[zz];refine eB rfl (fun u e=>(((m.ext' e).b 3 rfl).full aG aA)) ?_;simp only[zz];refine eB rfl (fun u e=>(((m.ext' e).b 2 rfl).full aG aA)) ?_;simp only[zz];refine eO rfl rfl uH ?_;simp only[zz];refine eO rfl rfl (Qo Bv.of Bv.of) (yM ?_);simp only[zz];refine mf1 m ?_;clear m;intro g7 u m;simp only[zJ,zK,zF,zG];refine bR m 0 rfl rfl rfl oM (iS rfl) rfl ?_;clear m;intro u m;simp only[zy,zx,cA,zF,zG,aa] at m;refine aK (cP 1 [0] m ?_);simp only[↓aD];intro u m;refine dA m 10 aB (by kernel_rfl) ?_;simp only[zy];refine eM 2 [0] ?_;simp only[↓aD,uG,fC,ad,ag,aa];refine⟨by omega,?_⟩;refine eR rfl rfl (Hm Bw.up) (eM 2 [0] ?_);simp only[↓aD,uG,fC,ad,ag,aa];refine⟨by omega,?_⟩;refine eR rfl rfl (Hm Bw.up) (eM 2 [0] ?_);simp only[↓aD,uG,fC,ad,ag,aa];refine⟨by omega,?_⟩;refine eR rfl rfl (Hm Bw.up) (aJ (vW rfl rfl rfl) (bD ?_));clear m;intro u m;simp only[zz];refine bR m 2 rfl rfl rfl jE (iS rfl) rfl ?_;clear m;intro u m;simp only[zy,zx,cA,zF,zG,aa] at m;refine aK (cP 1 [] m ?_);simp only[↓aD];intro u m;exact aR rfl ⟨_,rfl,((m.b 2 rfl).full vF jE)⟩ (⟨_,rfl,m.ext,rfl⟩)
theorem gY{a b c:P3}[I3 a][I3 b][I3 c]:dL prog 140 [pt a,pt b,pt c] (sg ((b.sub a).cross (c.sub a))):=by
 intro w;refine⟨am4,?_⟩;have m:=Mem.refl w
 go_enter func140,ntmps140
 refine eC 13 [3,2,3,1,0] m ?_;simp only[↓aD,Un,aO];intro g1 g2 g3 g4;intro u m;refine mW m rfl rfl Qr 3 [0] ?_;simp only[↓aD,Hj,aa];intro u m;exact aR rfl ⟨_,rfl,((m.b 0 rfl).full vF jE)⟩ (⟨_,rfl,m.ext,rfl⟩)
theorem Ho{t:T3}[IT t]:dL prog 137 [tr t] (.bool (decide (aY t.normal.x=0∧aY t.normal.y=0∧aY t.normal.z=0))):=by
 intro w;refine⟨am1,?_⟩;have m:=Mem.refl w
 go_enter func137,ntmps137
 refine eC 13 [0,0,0,0] m ?_;simp only[↓aD,bM,aO,ad,ag,aa];intro g1;refine⟨by omega,?_⟩;intro u m;refine mW m rfl rfl (gY (a:=t.a) (b:=t.b) (c:=t.c)) 1 [0] ?_;simp only[↓aD,uD,aa];intro u m;refine aC (Cg rfl rfl) (aS 3 [] m ?_);simp only[↓aD];intro u m;exact aR rfl rfl (⟨_,rfl,m.ext,rfl⟩)
theorem mZ{p q:P3}:dL prog 38 [pt p,pt q] (.bool (decide (p.Lt q))):=by
 intro w;refine⟨aq5,?_⟩;have m:=Mem.refl w
 go_enter func38,ntmps38
 refine eC 15 [1,0,0,0] m ?_;simp only[↓aD,jW,dU,aa];intro g1 g2;intro u m;refine bG rfl (fun hc1=>?_) (fun hc1=>?_)
 ·
  refine aW 10 [1,0,0] m ?_;simp only[↓aD,jW,dU,aa];intro u m;refine aR rfl rfl ?_;try simp only[zD,zE]
  exact⟨_,rfl,m.ext,by simp only[P3.lt_x hc1]⟩
 ·
  have ex:p.x=q.x:=by omega
  refine aW 10 [1,0,0,0] m ?_;simp only[↓aD,kM,dU,aa];intro u m;refine bG rfl (fun hc2=>?_) (fun hc2=>?_)
  ·
   refine aW 10 [1,0,0] m ?_;simp only[↓aD,kM,dU,aa];intro u m;refine aR rfl rfl ?_;try simp only[zD,zE]
   exact⟨_,rfl,m.ext,by simp only[P3.lt_y ex hc2]⟩
  ·
   have ey:p.y=q.y:=by omega
   refine aW 11 [1,0,0] m ?_;simp only[↓aD,lM,dU,aa];intro u m;refine aR rfl rfl ?_;try simp only[zD,zE]
   exact⟨_,rfl,m.ext,by simp only[P3.lt_z ex ey]⟩
theorem ahX{a b:E3}:dL prog 78 [ed a,ed b] (.bool (ltE a b)):=by
 intro w;refine⟨arz,?_⟩;have m:=Mem.refl w
 go_enter func78,ntmps78
 refine eC 13 [1,0,0] m ?_;simp only[↓aD,Px,aO,ad,ag,aa];intro g1 g2;refine⟨by omega,?_⟩;intro u m;refine aC (fA rfl rfl) (aS 1 [0] m ?_);simp only[↓aD];intro u m;refine bG rfl (fun hc1=>?_) (fun hc1=>?_)
 ·
  refine aW 6 [1,0,0] m ?_;simp only[↓aD,Px,aO,ad,ag,aa];refine⟨by omega,?_⟩;intro u m;refine mW m rfl rfl (mZ (p:=a.1) (q:=b.1)) 3 [] ?_;simp only[↓aD];intro u m;refine aR rfl rfl ?_;try simp only[zD,zE]
  exact⟨_,rfl,m.ext,by rw[ltE,if_pos (fun h=>hc1 (by rw[h];exact⟨rfl,rfl,rfl⟩))]⟩
 ·
  refine aW 7 [1,0,0] m ?_;simp only[↓aD,Px,aO,ad,ag,aa];refine⟨by omega,?_⟩;intro u m;refine mW m rfl rfl (mZ (p:=a.2) (q:=b.2)) 3 [] ?_;simp only[↓aD];intro u m;refine aR rfl rfl ?_;try simp only[zD,zE]
  exact⟨_,rfl,m.ext,by rw[ltE,if_neg (fun h=>h (P3.eq (Classical.not_not.1 hc1).1 (Classical.not_not.1 hc1).2.1 (Classical.not_not.1 hc1).2.2))]⟩
theorem adP{ts:List T3}{N cap:Nat}{A:Option Addr}(w:aj)(hT:bP w A N ts)(hN:N≤1000000000):dJ prog 76 [.slice A N cap] w (SL 56 6 ((aZ ts).flatMap cT) (aZ ts).length w):=by
 refine⟨arx,?_⟩;have m:=Mem.refl w
 go_enter func76,ntmps76
 refine eC 6 [0] m ?_;simp only[↓aD];intro u m;refine aC aM ?_;replace m:=m.nilO 56 6;refine aS 7 [0] m ?_;simp only[↓aD];intro u m;refine cE [3,4] [5,6,7,8,9,10,11,12,13,14,15,16,17,18,19,20,21,22,23,24,25,26,27,28,29,30,31,32,33] (fun n vs wl=>∃(k:Nat) (A3:Option Addr) (cap3:Nat),vs=[.slice A3 (aZ (ts.take k)).length cap3,.int .i64 (k:Int)]∧Mem w wl [oI 56 6 A3 (aZ (ts.take k)).length cap3 ((aZ (ts.take k)).flatMap cT)]∧(k≤N)∧(n=N-k)) ?_ ?_
 ·
  apply Exists.intro;simp only[zQ,zR,zD,zE];exact⟨0,_,_,rfl,m,br _,rfl⟩
 ·
  intro n vs wr hI u K1 hK1;clear m;obtain⟨k,A3,cap3,rfl,m,hk,hn⟩:=hI;simp only[zu,zF,zG];refine aW 8 [0,0] m ?_;simp only[↓aD,iU];intro u m;refine bG rfl (fun hc1=>?_) (fun hc1=>?_)
  ·
   obtain⟨t,ht,_,a,rfl,hrow⟩:=hT.get (i:=k) (by omega);refine aW 7 [0] m ?_;simp only[↓aD];intro u m;refine aC (aF cC aL rfl rfl (by omega) (by omega) (bZ (ai _))) ?_;simp only[zz];refine aQ rfl ((hrow.ext m.ext).lies bV aL) ?_;simp only[zz];refine aS 17 [0,0,0,0,0,0] m ?_;simp only[↓aD,kX,dQ,bM,aO,Dz,aa,ad,ag];intro g1;refine⟨by omega,?_⟩;intro u m;refine cP 3 [0,0] m ?_;simp only[↓aD,bM,aO,Dz,ad,ag,aa];refine⟨by omega,?_⟩;intro u m;refine ae7 rfl rfl rfl ?_;intro u g2 e hg hB;replace m:=m.newB e hg hB;clear e hg hB;simp only[zz];refine bQ m 2 rfl rfl nV zX rfl (by decide) rfl rfl rfl (m.b 0 rfl).rowsO (fW rfl) (by have:=qL (ts.take k);rw[cj] at this;omega) (by have:=qL (ts.take k);rw[cj] at this;omega) ?_;clear m;intro A3 cap3 u m;simp only[zF,zG] at m;rw[show (aZ (ts.take k)).flatMap cT++_=(aZ (ts.take (k+1))).flatMap cT by rw[tO ht,ba];rfl,show (aZ (ts.take k)).length+3=(aZ (ts.take (k+1))).length by rw[tO ht,aw];rfl] at m;rw[show (aZ (ts.take k)).length+3=(aZ (ts.take (k+1))).length by rw[tO ht,aw];rfl];refine aS 8 [0] m ?_;simp only[↓aD];refine⟨by omega,?_⟩;intro u m;refine hK1 (N-(k+1)) _ _ ?_ ?_ ?_
   · omega
   · simp only[zz,zv]
   ·
    simp only[zQ,zR,zD,zE];exact⟨k+1,_,_,rfl,(m.sel [false,false,true]),by omega,rfl⟩
  ·
   have hkN:k=N:=by omega
   rw[hkN,show ts.take N=ts from a_ (by rw[hT.len];exact av _)] at m ⊢;refine aW 7 [] m ?_;simp only[↓aD];intro u m;exact aR rfl rfl (⟨_,rfl,m.ext,⟨_,_,_,rfl,rfl,(m.o 0 rfl)⟩⟩)
theorem Mt{es:List E3}{N cap:Nat}{A:Option Addr}{e:E3}(w:aj)(hL:Dg cT 6 w A N es)(hN:N≤1000000000):dJ prog 77 [.slice A N cap,ed e] w (fun v _=>v=.int .i64 ((lL es e:Nat):Int)):=by
 refine⟨ary,?_⟩;have m:=Mem.refl w
 go_enter func77,ntmps77
 refine eC 15 [0] m ?_;simp only[↓aD];intro g1;intro u m;refine cE [5,6] [7,8,9,10,11,12,13,14,15,16,17,18,19,20] (fun n vs wl=>∃(k q:Nat),vs=[.int .i64 (q:Int),.int .i64 (k:Int)]∧Mem w wl [bI g1 (cT e) 56]∧(q=lL (es.take k) e)∧(k≤N)∧(n=N-k)) ?_ ?_
 ·
  apply Exists.intro;simp only[zQ,zR,zD,zE];exact⟨0,0,rfl,m,rfl,br _,rfl⟩
 ·
  intro n vs wr hI u K1 hK1;clear m;obtain⟨k,q,rfl,m,hq,hk,hn⟩:=hI;subst hq;simp only[zu,zF,zG];refine aW 8 [0,0] m ?_;simp only[↓aD,Uo];intro u m;refine bG rfl (fun hc1=>?_) (fun hc1=>?_)
  ·
   obtain⟨x,hx,a,rfl,hrow⟩:=hL.get (i:=k) (by omega);refine aW 4 [0] m ?_;simp only[↓aD];intro u m;refine mq m aB (by kernel_rfl) (aJ aH (aJ aH ?_));simp only[zz];refine aJ (aF nV iH rfl rfl (by omega) (by omega) (bZ (ai _))) ?_;simp only[zz];refine ql rfl (fun u m=>((hrow.ext m.ext).lies Ej iH)) ?_;simp only[zz];refine ql rfl (fun u m=>((m.b 0 rfl).full Ej iH)) ?_;simp only[zz];refine aJ (aev rfl rfl) (bD ?_);clear m;intro u m;refine gc ?_;simp only[zz];refine bG rfl (fun hc2=>?_) (fun hc2=>?_)
   ·
    have hxe:x=e:=Prod.ext (P3.eq hc2.1 hc2.2.1 hc2.2.2.1) (P3.eq hc2.2.2.2.1 hc2.2.2.2.2.1 hc2.2.2.2.2.2);have hcl:lL (es.take k) e≤N:=az aoW (by rw[cj];omega);have hs:=Zx (e:=e) hx;rw[if_pos hxe] at hs;refine aW 11 [0] m ?_;simp only[↓aD];refine⟨by omega,?_⟩;intro u m;rw[show ((lL (es.take k) e:Nat):Int)+1=((lL (es.take (k+1)) e:Nat):Int) by rw[hs];rfl];refine hK1 (N-(k+1)) _ _ ?_ ?_ ?_
    · omega
    · simp only[zz,zv]
    ·
     simp only[zQ,zR,zD,zE];exact⟨k+1,lL (es.take (k+1)) e,rfl,m,rfl,by omega,rfl⟩
   ·
    have hs:lL (es.take (k+1)) e=lL (es.take k) e:=(Zx (e:=e) hx).trans (by rw[if_neg (fun h=>hc2 (by rw[h];exact⟨rfl,rfl,rfl,rfl,rfl,rfl⟩))];rfl);refine aW 7 [0] m ?_;simp only[↓aD];refine⟨by omega,?_⟩;intro u m;rw[←hs];refine hK1 (N-(k+1)) _ _ ?_ ?_ ?_
    · omega
    · simp only[zz,zv]
    ·
     simp only[zQ,zR,zD,zE];exact⟨k+1,lL (es.take (k+1)) e,rfl,m,rfl,by omega,rfl⟩
  ·
   have hkN:k=N:=by omega
   rw[hkN,show es.take N=es from a_ (by rw[hL.len];exact av _)];refine aW 7 [] m ?_;simp only[↓aD];intro u m;exact aR rfl rfl (⟨_,rfl,m.ext,rfl⟩)
theorem akR{ps:List P3}{N cap:Nat}{A:Option Addr}{p:P3}(w:aj)(hL:Dg kN 3 w A N ps)(hN:N≤1000000000)(hcap:N≤cap):dJ prog 82 [.slice A N cap,pt p] w (fun v w'=>(v=.slice A N cap∧iA ps p=ps)∨SL 30 3 ((iA ps p).flatMap kN) (iA ps p).length w v w'):=by
 refine⟨ada,?_⟩;have m:=Mem.refl w;obtain rfl:ps.length=N:=hL.len
 go_enter func82,ntmps82
 refine eC 11 [0] m ?_;simp only[↓aD];intro g1;intro u m;refine cE [5] [6,8,9,10,11,12,13,14,15,16,17,18,19,20,21] (fun n vs wl=>∃(k:Nat),vs=[.int .i64 (k:Int)]∧Mem w wl [bI g1 (kN p) 30]∧(Pre (fun x=>decide (x.Lt p)) ps k)∧(k≤ps.length)∧(n=ps.length-k)) ?_ ?_
 ·
  apply Exists.intro;simp only[zQ,zR,zD,zE];exact⟨0,rfl,m,Pre.zero,br _,rfl⟩
 ·
  intro n vs wr hI u K1 hK1;clear m;obtain⟨k,rfl,m,hpre,hk,hn⟩:=hI;simp only[zu,zF,zG];refine aW 8 [0,0] m ?_;simp only[↓aD,mQ];intro u m;refine bG rfl (fun hc1=>?_) (fun hc1=>?_)
  ·
   obtain⟨x,hx,a,rfl,hrow⟩:=hL.get (i:=k) (by omega);refine aW 3 [0] m ?_;simp only[↓aD];intro u m;refine mq m aB (by kernel_rfl) (aJ aH (aJ aH ?_));simp only[zz];refine aJ (aF cX aA rfl rfl (by omega) (by omega) (bZ (ai _))) ?_;simp only[zz];refine ql rfl (fun u m=>((hrow.ext m.ext).lies aG aA)) ?_;simp only[zz];refine ql rfl (fun u m=>((m.b 0 rfl).full aG aA)) ?_;simp only[zz];refine eR rfl rfl mZ (aJ aM (bD ?_));clear m;intro u m;refine cP 6 [0] m ?_;simp only[↓aD];intro u m;refine jZ rfl (fun hc2=>?_) (fun hc2=>?_)
   ·
    have hpos:aad ps p=k:=alR hpre hx (by simpa using hc2);refine aW 3 [0] m ?_;simp only[↓aD];intro u m;refine mq m aB (by kernel_rfl) (eM 7 [1] ?_);simp only[↓aD,mQ];refine⟨by omega,?_⟩;refine tI rfl (aJ (aF cX aA rfl rfl (by omega) (by omega) (bZ (ai _))) (tI rfl ?_));simp only[zz];refine ql rfl (fun u m=>((hrow.ext m.ext).lies aG aA)) ?_;simp only[zz];refine tI rfl (ql rfl (fun u m=>((m.b 0 rfl).full aG aA)) ?_);simp only[zz];refine tI rfl (aJ (bW rfl rfl) (aJ (sM rfl) (bD ?_)));clear m;intro u m;refine gc ?_;simp only[zz];refine bG rfl (fun hc3=>?_) (fun hc3=>?_)
    ·
     have hxp:x=p:=P3.eq hc3.1 hc3.2.1 hc3.2.2;refine aW 6 [] m ?_;simp only[↓aD];intro u m;refine aR rfl rfl ?_;try simp only[zD,zE]
     exact⟨_,rfl,m.ext,.inl ⟨rfl,by rw[iA,hpos,hx,if_pos (by rw[hxp])]⟩⟩
    ·
     have hw:iA ps p=ps.take k++[p]++ps.drop k:=by unfold iA;rw[hpos,if_neg (by rw[hx];exact fun h=>hc3 (by cases h;exact⟨rfl,rfl,rfl⟩))]
     refine aW 3 [0] m ?_;simp only[↓aD];intro u m;refine aC aM ?_;replace m:=m.nilO 30 3;refine aS 6 [0] m ?_;simp only[↓aD];intro u m;refine aC (oL cX aA rfl rfl (ai _) (by omega) (by omega)) ?_;simp only[zz];refine bQ m 0 rfl rfl cX nG rfl (by decide) rfl rfl (by rw[jO xK,cj,iu (by omega)]) (((hL.take (by omega)).ext m.ext).cells xK (by decide)) (Oo _) (by omega) (by omega) ?_;clear m;intro A7 cap7 u m;simp only[zF,zG] at m;rw[cd,ar] at m;rw[ar];refine aS 6 [1,0] m ?_;simp only[↓aD,aO];intro u m;refine kY rfl ?_;intro u g2 e hg hB;replace m:=m.newB e hg hB;clear e hg hB;simp only[zz];refine bQ m 1 rfl rfl cX nG rfl (by decide) rfl rfl rfl (m.b 0 rfl).rowsO (fW rfl) (by omega) (by omega) ?_;clear m;intro A7 cap7 u m;simp only[zF,zG] at m;refine aS 7 [0] m ?_;simp only[↓aD];intro u m;refine aC (tC cX aA rfl rfl (ai _) (by omega) (by omega) rfl) ?_;simp only[zz];refine bQ m 1 rfl rfl cX nG rfl (by decide) rfl rfl (by rw[jO xK,gh]) ((hL.ext m.ext).cellsD xK (by decide) hcap) (Oo _) (by omega) (by omega) ?_;clear m;intro A7 cap7 u m;simp only[zF,zG] at m;refine aS 3 [] m ?_;simp only[↓aD];intro u m;refine aR rfl rfl ?_;try simp only[zD,zE]
     exact⟨_,rfl,m.ext,.inr ⟨_,_,_,by rw[hw];simp;omega,rfl,(m.o 1 rfl).as (by rw[hw,ba,ba];rfl)⟩⟩
   ·
    have hpre2:=hpre.step hx (by simpa using hc2);refine aW 7 [0] m ?_;simp only[↓aD];refine⟨by omega,?_⟩;intro u m;refine hK1 (ps.length-(k+1)) _ _ ?_ ?_ ?_
    · omega
    · simp only[zz,zv]
    ·
     simp only[zQ,zR,zD,zE];exact⟨k+1,rfl,m,hpre2,by omega,rfl⟩
  ·
   obtain rfl:k=ps.length:=by omega
   have hpos:aad ps p=ps.length:=agZ hpre;have hw:iA ps p=ps.take ps.length++[p]++ps.drop ps.length:=by unfold iA;rw[hpos,if_neg (by rw[bv (av _)];simp)]
   refine aW 3 [0] m ?_;simp only[↓aD];intro u m;refine mq m aB (by kernel_rfl) (eM 12 [2] ?_);simp only[↓aD,mQ];refine⟨by omega,?_⟩;refine bD ?_;clear m;intro u m;refine cP 4 [0] m ?_;simp only[↓aD];intro u m;refine aC aM ?_;replace m:=m.nilO 30 3;refine aS 6 [0] m ?_;simp only[↓aD];intro u m;refine aC (oL cX aA rfl rfl (ai _) (by omega) (by omega)) ?_;simp only[zz];refine bQ m 0 rfl rfl cX nG rfl (by decide) rfl rfl (by rw[jO xK,cj,iu (by omega)]) (((hL.take (by omega)).ext m.ext).cells xK (by decide)) (Oo _) (by omega) (by omega) ?_;clear m;intro A7 cap7 u m;simp only[zF,zG] at m;rw[cd,ar] at m;rw[ar];refine aS 6 [1,0] m ?_;simp only[↓aD,aO];intro u m;refine kY rfl ?_;intro u g2 e hg hB;replace m:=m.newB e hg hB;clear e hg hB;simp only[zz];refine bQ m 1 rfl rfl cX nG rfl (by decide) rfl rfl rfl (m.b 0 rfl).rowsO (fW rfl) (by omega) (by omega) ?_;clear m;intro A7 cap7 u m;simp only[zF,zG] at m;refine aS 7 [0] m ?_;simp only[↓aD];intro u m;refine aC (tC cX aA rfl rfl (ai _) (by omega) (by omega) rfl) ?_;simp only[zz];refine bQ m 1 rfl rfl cX nG rfl (by decide) rfl rfl (by rw[jO xK,gh]) ((hL.ext m.ext).cellsD xK (by decide) hcap) (Oo _) (by omega) (by omega) ?_;clear m;intro A7 cap7 u m;simp only[zF,zG] at m;refine aS 3 [] m ?_;simp only[↓aD];intro u m;refine aR rfl rfl ?_;try simp only[zD,zE]
   exact⟨_,rfl,m.ext,.inr ⟨_,_,_,by rw[hw];simp,rfl,(m.o 1 rfl).as (by rw[hw,ba,ba];rfl)⟩⟩
theorem acv{w0 w:aj}{is:List It}{A:Option Addr}{n cap:Nat}{ps:List P3}{p:P3}(m:Mem w0 w is)(k:Nat)(hi:is[k]? = some (oI 30 3 A n cap (ps.flatMap kN)))(hN:n≤1000000000) :
 Calls prog 82 [.slice A n cap,pt p].toArray w fun e w'=>∃v i,e=.returned v∧Mem w0 w' (is.set k i)∧∃A' cap' n',n'=(iA ps p).length∧v=.slice A' n' cap'∧i=oI 30 3 A' n' cap' ((iA ps p).flatMap kN):=by
 have hO:=m.o k hi;refine (akR (p:=p) w (hO.lat xK (by decide)) hN hO.le).2.mono ?_;rintro e w' ⟨v,rfl,hE,h⟩;rcases h with ⟨rfl,h⟩ | ⟨A',cap',n',rfl,rfl,hN'⟩
 · exact⟨_,oI 30 3 A n cap (ps.flatMap kN),rfl,by rw[aoX hi];exact m.ext' hE,A,cap,n,by rw[h];exact (hO.num xK (by decide)).symm,rfl,by rw[h]⟩
 · exact⟨_,_,rfl,(m.newO hE hN').mv k hi,_,_,_,rfl,rfl,rfl⟩
theorem afa{ts:List T3}{N cap:Nat}{A:Option Addr}(w:aj)(hT:bP w A N ts)(hN:N≤100000000):dJ prog 36 [.slice A N cap] w (SL 30 3 ((dO ts).flatMap kN) (dO ts).length w):=by
 refine⟨aq4,?_⟩;have m:=Mem.refl w
 go_enter func36,ntmps36
 refine eC 6 [0] m ?_;simp only[↓aD];intro u m;refine aC aM ?_;replace m:=m.nilO 30 3;refine aS 7 [0] m ?_;simp only[↓aD];intro u m;refine cE [3,4] [5,6,7,8,9,10,11,12,13,14,15,16,17,18,19,20,21,22,23] (fun n vs wl=>∃(k n3:Nat) (A3:Option Addr) (cap3:Nat),vs=[.slice A3 n3 cap3,.int .i64 (k:Int)]∧Mem w wl [oI 30 3 A3 n3 cap3 ((dO (ts.take k)).flatMap kN)]∧(n3=(dO (ts.take k)).length)∧(k≤N)∧(n=N-k)) ?_ ?_
 ·
  apply Exists.intro;simp only[zQ,zR,zD,zE];exact⟨0,0,_,_,rfl,m,rfl,br _,rfl⟩
 ·
  intro n vs wr hI u K1 hK1;clear m;obtain⟨k,n3,A3,cap3,rfl,m,hn3,hk,hn⟩:=hI;simp only[zu,zF,zG];refine aW 8 [0,0] m ?_;simp only[↓aD,iU];intro u m;refine bG rfl (fun hc1=>?_) (fun hc1=>?_)
  ·
   obtain⟨t,ht,_,a,rfl,hrow⟩:=hT.get (i:=k) (by omega);have hb0:=Lk (ts.take k);have hb1:=wD (dO (ts.take k)) t.a;have hb2:=wD (iA (dO (ts.take k)) t.a) t.b;rw[cj] at hb0;refine aW 25 [4,1,0] m ?_;simp only[↓aD];refine⟨by omega,?_⟩;intro u m;refine aC (aF cC aL rfl rfl (by omega) (by omega) (bZ (ai _))) (aS 1 [0] m ?_);simp only[↓aD,bM,ad,ag,aa];refine⟨by omega,?_⟩;intro u m;refine aQ rfl ((mB.cor (hrow.ext m.ext) (c:=0) (by decide)).lies aG aA) ?_;simp only[zz];refine lZ m 0 ada rfl rfl (fun m=>acv (p:=t.a) m 0 rfl (by omega)) ?_;clear m;rintro v i u m ⟨A3,cap3,n3,hn3,rfl,rfl⟩;simp only[zF,zG] at m;refine aS 24 [1,0] m ?_;simp only[↓aD,ak];refine⟨by omega,?_⟩;intro u m;refine aC (aF cC aL rfl rfl (by omega) (by omega) (bZ (ai _))) (aS 1 [0] m ?_);simp only[↓aD,bM,ad,ag,aa];refine⟨by omega,?_⟩;intro u m;refine aQ rfl ((mB.cor (hrow.ext m.ext) (c:=1) (by decide)).lies aG aA) ?_;simp only[zz];refine lZ m 0 ada rfl rfl (fun m=>acv (p:=t.b) m 0 rfl (by omega)) ?_;clear m;rintro v i u m ⟨A3,cap3,n3,hn3,rfl,rfl⟩;simp only[zF,zG] at m;refine aS 24 [1,0] m ?_;simp only[↓aD,ak];refine⟨by omega,?_⟩;intro u m;refine aC (aF cC aL rfl rfl (by omega) (by omega) (bZ (ai _))) (aS 1 [0] m ?_);simp only[↓aD,bM,ad,ag,aa];refine⟨by omega,?_⟩;intro u m;refine aQ rfl ((mB.cor (hrow.ext m.ext) (c:=2) (by decide)).lies aG aA) ?_;simp only[zz];refine lZ m 0 ada rfl rfl (fun m=>acv (p:=t.c) m 0 rfl (by omega)) ?_;clear m;rintro v i u m ⟨A3,cap3,n3,hn3,rfl,rfl⟩;simp only[zF,zG] at m;refine aS 23 [2,0] m ?_;simp only[↓aD,ak];refine⟨by omega,?_⟩;intro u m;refine hK1 (N-(k+1)) _ _ ?_ ?_ ?_
   · omega
   · simp only[zz,zv]
   ·
    simp only[zQ,zR,zD,zE];exact⟨k+1,_,_,_,rfl,(m.reO 0 rfl ((m.o 0 rfl).as (by rw[Gv ht]))),by rw[Gv ht];exact hn3,by omega,rfl⟩
  ·
   have hkN:k=N:=by omega
   rw[hkN,show ts.take N=ts from a_ (by rw[hT.len];exact av _)] at m hn3;refine aW 7 [] m ?_;simp only[↓aD];intro u m;exact aR rfl rfl (⟨_,rfl,m.ext,⟨_,_,_,hn3,rfl,(m.o 0 rfl)⟩⟩)
theorem ahY{ts:List T3}{N cap:Nat}{A:Option Addr}{p q:P3}(w:aj)(hT:Dg aN 9 w A N ts)(hN:N≤1000000000):dJ prog 201 [.slice A N cap,pt p,pt q] w (fun v _=>v=.tuple #[pt ((bY ts p q).getD p),.bool (bY ts p q).isSome]):=by
 refine⟨anB,?_⟩;have m:=Mem.refl w
 go_enter func201,ntmps201
 refine eC 13 [0] m ?_;simp only[↓aD,eY];intro g1 g2 g3;intro u m;refine cE [8] [7,9,10,11,12,13,14,15,16,17,18,19,20,21,22,23,24,25,26,27,28,29,30,31,32,33,34,35,36,37,38,39,40,41,42,43,44,45,46,47] (fun n vs wl=>∃(k:Nat),vs=[.int .i64 (k:Int)]∧Mem w wl [bI g3 [.int .i64 0,.int .i64 0,.int .i64 0] 30,bI g2 (kN q) 30,bI g1 (kN p) 30]∧(bY (ts.take k) p q=none)∧(k≤N)∧(n=N-k)) ?_ ?_
 ·
  apply Exists.intro;simp only[zQ,zR,zD,zE];exact⟨0,rfl,m,rfl,br _,rfl⟩
 ·
  intro n vs wr hI u K1 hK1;clear m;obtain⟨k,rfl,m,hb0,hk,hn⟩:=hI;simp only[zu,zF,zG];refine aW 8 [0,0] m ?_;simp only[↓aD,iU];intro u m;refine bG rfl (fun hc1=>?_) (fun hc1=>?_)
  ·
   obtain⟨t,ht,a,rfl,hrow⟩:=hT.get (i:=k) (by omega);refine aW 21 [4,1,0] m ?_;simp only[↓aD];refine⟨by omega,?_⟩;intro u m;refine mq m aB (by kernel_rfl) (eM 3 [] ?_);simp only[↓aD];refine aJ (aF cC aL rfl rfl (by omega) (by omega) (bZ (ai _))) (eM 1 [] ?_);simp only[↓aD,bM,ad,ag,aa];refine⟨by omega,?_⟩;refine ql rfl (fun u m=>((mB.cor (hrow.ext m.ext) (c:=0) (by omega)).lies aG aA)) ?_;simp only[zz];refine ql rfl (fun u m=>((m.b 2 rfl).full aG aA)) ?_;simp only[zz];refine aJ (bW rfl rfl) (aJ aH (cM rfl (fun hb=>aH) (cM rfl (fun hb=>aH) ?_)));simp only[zz];refine cM rfl (fun hb=>aH) (cM rfl (fun hb=>jL (m:=0) (n:=1) (r:=1) (aV hb rfl) rfl (by decide)) (cM rfl (fun hb=>eG (m:=1) (n:=3) (r:=1) (aV hb rfl) rfl (by decide) (by decide)) ?_));simp only[zz];refine cM rfl (fun hb=>aF cC aL (aV hb rfl) (aV hb rfl) (by omega) (by omega) (bZ (ai _))) (cM rfl (fun hb=>aI cH aA (aV hb rfl) (aV hb rfl) (by decide) (by decide) rfl) ?_);simp only[zz];refine dX rfl (fun hb u m=>aU (aV hb rfl) ((mB.cor (hrow.ext m.ext) (c:=1) (by omega)).lies aG aA)) (dX rfl (fun hb u m=>aU rfl ((m.b 1 rfl).full aG aA)) (cM rfl (fun hb=>bW (aV hb rfl) (aV hb rfl)) (aJ (bU rfl rfl rfl) (bD ?_))));clear m;intro u m;refine gc ?_;simp only[zz];refine jZ rfl (fun hc3=>?_) (fun hc3=>?_)
   ·
    have hf:=Aw ((uV ht hb0).trans (as8  (Mq.1 hc3)));refine aW 6 [0] m ?_;simp only[↓aD,ak];refine⟨by omega,?_⟩;intro u m;refine aC (eG (m:=2) (n:=3) (r:=2) rfl rfl (by decide) (by decide)) ?_;simp only[zz];refine aC (aF cC aL rfl rfl (by omega) (by omega) (bZ (ai _))) (aS 1 [0] m ?_);simp only[↓aD,bM,ad,ag,aa];refine⟨by omega,?_⟩;intro u m;refine aQ rfl ((mB.cor (hrow.ext m.ext) (c:=2) (by omega)).lies aG aA) ?_;simp only[zz];refine aS 4 [0] m ?_;simp only[↓aD,aO,aa];intro u m;refine wU rfl ⟨_,rfl,((m.b 0 rfl).full aG aA)⟩ rfl ?_;try simp only[zD,zE]
    exact⟨_,rfl,m.ext,by rw[hf];rfl⟩
   ·
    have hq0:=abV hc3;refine aW 19 [1,0] m ?_;simp only[↓aD,ak];refine⟨by omega,?_⟩;intro u m;refine mq m aB (by kernel_rfl) (eM 3 [] ?_);simp only[↓aD];refine aJ (aF cC aL rfl rfl (by omega) (by omega) (bZ (ai _))) (eM 1 [] ?_);simp only[↓aD,bM,ad,ag,aa];refine⟨by omega,?_⟩;refine ql rfl (fun u m=>((mB.cor (hrow.ext m.ext) (c:=1) (by omega)).lies aG aA)) ?_;simp only[zz];refine ql rfl (fun u m=>((m.b 2 rfl).full aG aA)) ?_;simp only[zz];refine aJ (bW rfl rfl) (aJ aH (cM rfl (fun hb=>aH) (cM rfl (fun hb=>aH) ?_)));simp only[zz];refine cM rfl (fun hb=>aH) (cM rfl (fun hb=>jL (m:=1) (n:=1) (r:=2) (aV hb rfl) rfl (by decide)) (cM rfl (fun hb=>eG (m:=2) (n:=3) (r:=2) (aV hb rfl) rfl (by decide) (by decide)) ?_));simp only[zz];refine cM rfl (fun hb=>aF cC aL (aV hb rfl) (aV hb rfl) (by omega) (by omega) (bZ (ai _))) (cM rfl (fun hb=>aI cH aA (aV hb rfl) (aV hb rfl) (by decide) (by decide) rfl) ?_);simp only[zz];refine dX rfl (fun hb u m=>aU (aV hb rfl) ((mB.cor (hrow.ext m.ext) (c:=2) (by omega)).lies aG aA)) (dX rfl (fun hb u m=>aU rfl ((m.b 1 rfl).full aG aA)) (cM rfl (fun hb=>bW (aV hb rfl) (aV hb rfl)) (aJ (bU rfl rfl rfl) (bD ?_))));clear m;intro u m;refine gc ?_;simp only[zz];refine jZ rfl (fun hc3=>?_) (fun hc3=>?_)
    ·
     have hf:=Aw ((uV ht hb0).trans (as9 hq0 (Mq.1 hc3)));refine aW 6 [0] m ?_;simp only[↓aD,ak];refine⟨by omega,?_⟩;intro u m;refine aC (eG (m:=3) (n:=3) (r:=0) rfl rfl (by decide) (by decide)) ?_;simp only[zz];refine aC (aF cC aL rfl rfl (by omega) (by omega) (bZ (ai _))) (aS 1 [0] m ?_);simp only[↓aD,bM,ad,ag,aa];refine⟨by omega,?_⟩;intro u m;refine aQ rfl ((mB.cor (hrow.ext m.ext) (c:=0) (by omega)).lies aG aA) ?_;simp only[zz];refine aS 4 [0] m ?_;simp only[↓aD,aO,aa];intro u m;refine wU rfl ⟨_,rfl,((m.b 0 rfl).full aG aA)⟩ rfl ?_;try simp only[zD,zE]
     exact⟨_,rfl,m.ext,by rw[hf];rfl⟩
    ·
     have hq1:=abV hc3;refine aW 19 [1,0] m ?_;simp only[↓aD,ak];refine⟨by omega,?_⟩;intro u m;refine mq m aB (by kernel_rfl) (eM 3 [] ?_);simp only[↓aD];refine aJ (aF cC aL rfl rfl (by omega) (by omega) (bZ (ai _))) (eM 1 [] ?_);simp only[↓aD,bM,ad,ag,aa];refine⟨by omega,?_⟩;refine ql rfl (fun u m=>((mB.cor (hrow.ext m.ext) (c:=2) (by omega)).lies aG aA)) ?_;simp only[zz];refine ql rfl (fun u m=>((m.b 2 rfl).full aG aA)) ?_;simp only[zz];refine aJ (bW rfl rfl) (aJ aH (cM rfl (fun hb=>aH) (cM rfl (fun hb=>aH) ?_)));simp only[zz];refine cM rfl (fun hb=>aH) (cM rfl (fun hb=>jL (m:=2) (n:=1) (r:=3) (aV hb rfl) rfl (by decide)) (cM rfl (fun hb=>eG (m:=3) (n:=3) (r:=0) (aV hb rfl) rfl (by decide) (by decide)) ?_));simp only[zz];refine cM rfl (fun hb=>aF cC aL (aV hb rfl) (aV hb rfl) (by omega) (by omega) (bZ (ai _))) (cM rfl (fun hb=>aI cH aA (aV hb rfl) (aV hb rfl) (by decide) (by decide) rfl) ?_);simp only[zz];refine dX rfl (fun hb u m=>aU (aV hb rfl) ((mB.cor (hrow.ext m.ext) (c:=0) (by omega)).lies aG aA)) (dX rfl (fun hb u m=>aU rfl ((m.b 1 rfl).full aG aA)) (cM rfl (fun hb=>bW (aV hb rfl) (aV hb rfl)) (aJ (bU rfl rfl rfl) (bD ?_))));clear m;intro u m;refine gc ?_;simp only[zz];refine jZ rfl (fun hc3=>?_) (fun hc3=>?_)
     ·
      have hf:=Aw ((uV ht hb0).trans (ata hq0 hq1 (Mq.1 hc3)));refine aW 6 [0] m ?_;simp only[↓aD,ak];refine⟨by omega,?_⟩;intro u m;refine aC (eG (m:=4) (n:=3) (r:=1) rfl rfl (by decide) (by decide)) ?_;simp only[zz];refine aC (aF cC aL rfl rfl (by omega) (by omega) (bZ (ai _))) (aS 1 [0] m ?_);simp only[↓aD,bM,ad,ag,aa];refine⟨by omega,?_⟩;intro u m;refine aQ rfl ((mB.cor (hrow.ext m.ext) (c:=1) (by omega)).lies aG aA) ?_;simp only[zz];refine aS 4 [0] m ?_;simp only[↓aD,aO,aa];intro u m;refine wU rfl ⟨_,rfl,((m.b 0 rfl).full aG aA)⟩ rfl ?_;try simp only[zD,zE]
      exact⟨_,rfl,m.ext,by rw[hf];rfl⟩
     ·
      have hq2:=abV hc3;refine aW 22 [2,0] m ?_;simp only[↓aD,ak];refine⟨by omega,?_⟩;intro u m;refine hK1 (N-(k+1)) _ _ ?_ ?_ ?_
      · omega
      · simp only[zz,zv]
      ·
       simp only[zQ,zR,zD,zE];exact⟨k+1,rfl,m,(uV ht hb0).trans (atb hq0 hq1 hq2),by omega,rfl⟩
  ·
   have hkN:k=N:=by omega
   rw[hkN,show ts.take N=ts from a_ (by rw[hT.len];exact av _)] at hb0;refine aW 8 [2,0] m ?_;simp only[↓aD,aO,aa];intro u m;refine wU rfl ⟨_,rfl,((m.b 0 rfl).full aG aA)⟩ rfl ?_;try simp only[zD,zE]
   exact⟨_,rfl,m.ext,by rw[hb0];rfl⟩
theorem afb{ts:List T3}{N cap:Nat}{A:Option Addr}{p:P3}(w:aj)(hT:bP w A N ts)(hN:N≤100000000):dJ prog 135 [.slice A N cap,pt p] w (fun v _=>v=.bool (Gx ts p)):=by
 refine⟨amZ,?_⟩;have m:=Mem.refl w
 go_enter func135,ntmps135
 refine eC 7 [0] m ?_;simp only[↓aD];intro g1;intro u m;refine aC aM ?_;replace m:=m.nilO 39 9;refine aS 3 [0] m ?_;simp only[↓aD];intro u m;refine aC aM ?_;replace m:=m.nilO 30 3;refine aS 7 [0] m ?_;simp only[↓aD];intro u m;refine cE [5,6,7] [8,14,15,16,17,18,19,20,21,22,23,24,25,26,27,28,29,30,31,32,33,34,35,36,37,38,39,40,41,42,43,44,45,46,47,48,49] (fun n vs wl=>∃(k n5 n6 cap5 cap6:Nat) (A5 A6:Option Addr),vs=[.slice A5 n5 cap5,.slice A6 n6 cap6,.int .i64 (k:Int)]∧Mem w wl [oI 30 3 A6 n6 cap6 ((tS (ts.take k) p).flatMap kN),oI 39 9 A5 n5 cap5 ((nR (ts.take k) p).flatMap aN),bI g1 (kN p) 30]∧(n5≤k*3)∧(n6≤k*3)∧(k≤N)∧(n=N-k)) ?_ ?_
 ·
  apply Exists.intro;simp only[zQ,zR,zD,zE];exact⟨0,_,_,_,_,_,_,rfl,m,av _,av _,br _,rfl⟩
 ·
  intro n vs wr hI u K1 hK1;clear m;obtain⟨k,n5,n6,cap5,cap6,A5,A6,rfl,m,hl5,hl6,hk,hn⟩:=hI;simp only[zu,zF,zG];refine aW 8 [0,0] m ?_;simp only[↓aD,iU];intro u m;refine bG rfl (fun hc1=>?_) (fun hc1=>?_)
  ·
   obtain⟨t,ht,_,a,rfl,hrow⟩:=hT.get (i:=k) (by omega);refine aW 8 [0] m ?_;simp only[↓aD];intro u m;refine cE [5,6,8] [20,21,22,23,24,25,26,27,28,29,30,31,32,33,34,35,36,37,38,39,40,41,42,43,44,45,46,47,48,49] (fun n vs wl=>∃(c n5 n6 cap5 cap6:Nat) (A5 A6:Option Addr),vs=[.slice A5 n5 cap5,.slice A6 n6 cap6,.int .i64 (c:Int)]∧Mem w wl [oI 30 3 A6 n6 cap6 ((vK ts p k t c).flatMap kN),oI 39 9 A5 n5 cap5 ((Dv ts p k t c).flatMap aN),bI g1 (kN p) 30]∧(n5≤k*3+c)∧(n6≤k*3+c)∧(c≤3)∧(n=3-c)) ?_ ?_
   ·
    rw[←akw (t:=t),←ag1 (t:=t)] at m;apply Exists.intro;simp only[zQ,zR,zD,zE];exact⟨0,_,_,_,_,_,_,rfl,m,hl5,hl6,br _,rfl⟩
   ·
    intro n vs wr hI u K2 hK2;clear m;obtain⟨c,n5,n6,cap5,cap6,A5,A6,rfl,m,hl5,hl6,hc,hn2⟩:=hI;simp only[zu,zF,zG];refine aW 6 [0,0] m ?_;simp only[↓aD];intro u m;refine bG rfl (fun hc2=>?_) (fun hc2=>?_)
    ·
     have hc3:c<3:=by omega
     refine aW 4 [0] m ?_;simp only[↓aD];intro u m;refine mq m aB (by kernel_rfl) (eM 3 [] ?_);simp only[↓aD];refine aJ (aF cC aL rfl rfl (by omega) (by omega) (bZ (ai _))) ?_;simp only[zz];refine aJ (aI cH aA rfl rfl (by omega) (by omega) (bZ (ai _))) ?_;simp only[zz];refine ql rfl (fun u m=>((mB.cor (hrow.ext m.ext) (c:=c) (by omega)).lies aG aA)) ?_;simp only[zz];refine ql rfl (fun u m=>((m.b 2 rfl).full aG aA)) ?_;simp only[zz];refine aJ (bW rfl rfl) (bD ?_);clear m;intro u m;refine gc ?_;simp only[zz];refine bG rfl (fun hc3=>?_) (fun hc3=>?_)
     ·
      have hcp:t.cor c=p:=P3.eq hc3.1 hc3.2.1 hc3.2.2;refine aW 5 [0] m ?_;simp only[↓aD];intro u m;refine aC (aF cC aL rfl rfl (by omega) (by omega) (bZ (ai _))) ?_;simp only[zz];refine aQ rfl ((hrow.ext m.ext).lies bV aL) ?_;simp only[zz];refine fH rfl ?_;intro u g2 e hg hB;replace m:=m.newB e hg hB;clear e hg hB;simp only[zz];refine bQ m 2 rfl rfl cC kA rfl (by decide) rfl rfl rfl (m.b 0 rfl).rowsO (fW rfl) (by omega) (by omega) ?_;clear m;intro A5 cap5 u m;simp only[zF,zG] at m;refine aS 8 [0] m ?_;simp only[↓aD];refine⟨by omega,?_⟩;intro u m;refine aC (eG rfl rfl (by omega) (arQ (k:=c+1))) ?_;simp only[zz];refine aC (aF cC aL rfl rfl (by omega) (by omega) (bZ (ai _))) ?_;simp only[zz];refine aC (aI cH aA rfl rfl (by omega) (by omega) (bZ (ai _))) ?_;simp only[zz];refine aQ rfl ((mB.cor (hrow.ext m.ext) (c:=(c+1)%3) (by omega)).lies aG aA) ?_;simp only[zz];refine kY rfl ?_;intro u g3 e hg hB;replace m:=m.newB e hg hB;clear e hg hB;simp only[zz];refine bQ m 2 rfl rfl cX nG rfl (by decide) rfl rfl rfl (m.b 0 rfl).rowsO (fW rfl) (by omega) (by omega) ?_;clear m;intro A6 cap6 u m;simp only[zF,zG] at m;refine aS 8 [0] m ?_;simp only[↓aD];refine⟨by omega,?_⟩;intro u m;refine hK2 (3-(c+1)) _ _ ?_ ?_ ?_
      · omega
      · simp only[zz,zv]
      ·
       simp only[zQ,zR,zD,zE];exact⟨c+1,_,_,_,_,_,_,rfl,(((m.reO 3 rfl ((m.o 3 rfl).as (by rw[aeT hcp,ba];rfl))).reO 2 rfl ((m.o 2 rfl).as (by rw[abU hcp,ba];rfl))).sel [false,false,true,true,true]),by omega,by omega,by omega,rfl⟩
     ·
      have hcp:¬t.cor c=p:=fun h=>hc3 (by rw[h];exact⟨rfl,rfl,rfl⟩);refine aW 7 [0] m ?_;simp only[↓aD];refine⟨by omega,?_⟩;intro u m;refine hK2 (3-(c+1)) _ _ ?_ ?_ ?_
      · omega
      · simp only[zz,zv]
      ·
       simp only[zQ,zR,zD,zE];exact⟨c+1,_,_,_,_,_,_,rfl,((m.reO 1 rfl ((m.o 1 rfl).as (by rw[ag0 hcp]))).reO 0 rfl ((m.o 0 rfl).as (by rw[aeU hcp]))),by omega,by omega,by omega,rfl⟩
    ·
     obtain rfl:c=3:=by omega
     rw[akx ht,ag2 ht] at m;refine aW 7 [0] m ?_;simp only[↓aD];refine⟨by omega,?_⟩;intro u m;refine hK1 (N-(k+1)) _ _ ?_ ?_ ?_
     · omega
     · simp only[zz,zv]
     ·
      simp only[zQ,zR,zD,zE];exact⟨k+1,_,_,_,_,_,_,rfl,m,by omega,by omega,by omega,rfl⟩
  ·
   have hkN:k=N:=by omega
   rw[hkN,show ts.take N=ts from a_ (by rw[hT.len];exact av _)] at m;obtain⟨M,hM⟩:∃M,M=nR ts p:=⟨_,rfl⟩
   obtain⟨S,hS⟩:∃S,S=tS ts p:=⟨_,rfl⟩
   rw[←hM,←hS] at m;have h5:M.length=n5:=(m.o 1 rfl).num aoV (by decide);have h6:S.length=n6:=(m.o 0 rfl).num xK (by decide);have hle6:=(m.o 0 rfl).le;have hP:Gx ts p=S.any (fun s=>nS M p s (M.length-1) s):=by rw[hM,hS];rfl
   clear hM hS;refine jF 7 [0] m ?_;simp only[↓aD];rintro u m rfl;refine cE [9] [4,10,11,12,13,50,51,52,53,54,55,56,57,58,59,60,61,62,63,64,65,66,67,68,69,70,71,72,73,74,75,76,77,78,79,80,81] (fun n vs wl=>∃(k2:Nat),vs=[.int .i64 (k2:Int)]∧Mem w wl [oI 30 3 A6 n6 cap6 ((S).flatMap kN),oI 39 9 A5 n5 cap5 ((M).flatMap aN),bI g1 (kN p) 30]∧((S.take k2).any (fun s=>nS M p s (M.length-1) s)=false)∧(k2≤n6)∧(n=n6-k2)) ?_ ?_
   ·
    apply Exists.intro;simp only[zQ,zR,zD,zE];exact⟨0,rfl,m,rfl,br _,rfl⟩
   ·
    intro n vs wr hI u K3 hK3;clear m;obtain⟨k2,rfl,m,hno,hk2,hn3⟩:=hI;simp only[zu,zF,zG];refine aW 8 [0,0] m ?_;simp only[↓aD,mQ];intro u m;refine bG rfl (fun hc4=>?_) (fun hc4=>?_)
    ·
     obtain⟨sx,hsx⟩:∃sx,S[k2]? = some sx:=⟨_,am (by omega)⟩
     obtain⟨gO,rfl⟩:=(m.o 0 rfl).some (by omega);refine jF 7 [0] m ?_;simp only[↓aD];rintro u m rfl;refine aC (aF cX aA rfl rfl (by omega) (by omega) (bZ (ai _))) ?_;simp only[zz];refine aQ rfl (((m.o 0 rfl).at xK hsx).lies aG aA) ?_;simp only[zz];refine aS 8 [0,0] m ?_;simp only[↓aD,eY,aO,aa];intro g2;intro u m;refine cE [11] [4,12,13,60,61,62,63,64,65,66,67,68,69,70,71,72,73,74,75,76,77,78,79,80,81] (fun n vs wl=>∃(j:Nat) (x:P3),vs=[.int .i64 (j:Int)]∧Mem w wl [bI g2 (kN x) 30,oI 30 3 (some ⟨gO,0,none⟩) n6 cap6 (S.flatMap kN),oI 39 9 A5 n5 cap5 ((M).flatMap aN),bI g1 (kN p) 30]∧(nS M p sx (M.length-1) sx=nS M p sx (M.length-j) x)∧(1≤j)∧(j≤n5+1)∧(n=n5+1-j)) ?_ ?_
     ·
      apply Exists.intro;simp only[zQ,zR,zD,zE];exact⟨1,sx,rfl,m,rfl,av _,by omega,rfl⟩
     ·
      intro n vs wr hI u K4 hK4;clear m;obtain⟨j,x,rfl,m,hrg,hj,hj2,hn4⟩:=hI;simp only[zu,zF,zG];refine aW 8 [0,0] m ?_;simp only[↓aD,iU];intro u m;refine bG rfl (fun hc5=>?_) (fun hc5=>?_)
      ·
       obtain⟨f,hf⟩:∃f,M.length-j=f+1:=⟨M.length-j-1,by omega⟩
       rw[hf] at hrg;refine aW 8 [3,0,0] m ?_;simp only[↓aD,aO];intro u m;refine cU m rfl rfl (ahY (p:=p) (q:=x) _ ((m.o 2 rfl).lat aoV (by decide)) (by omega)) ?_;clear m;rintro v u m rfl;refine aS 13 [0,0] m ?_;simp only[↓aD,eY,aO,aa];intro g3;intro u m;refine jZ rfl (fun hc6=>?_) (fun hc6=>?_)
       ·
        have hbn:bY M p x=none:=by cases hb:bY M p x with | none=>rfl | some y=>rw[hb] at hc6;cases hc6
        have hz:nS M p sx (M.length-1) sx=false:=by rw[hrg,Tu hbn]
        have hno2:(S.take (k2+1)).any (fun s=>nS M p s (M.length-1) s)=false:=by rw[wG hsx,hno,hz];rfl
        refine aW 7 [0] m ?_;simp only[↓aD];refine⟨by omega,?_⟩;intro u m;refine hK3 (n6-(k2+1)) _ _ ?_ ?_ ?_
        · omega
        · simp only[zz,zv]
        ·
         simp only[zQ,zR,zD,zE];exact⟨k2+1,rfl,(m.sel [false,false,true,true,true]),hno2,by omega,rfl⟩
       ·
        obtain⟨y,hy⟩:∃y,bY M p x=some y:=by cases hb:bY M p x with | none=>rw[hb] at hc6;cases hc6 | some y=>exact⟨y,rfl⟩
        rw[hy] at m;simp only[cu] at m;refine aW 7 [0,1,0] m ?_;simp only[↓aD,aO,aa];intro u m;refine mq m aB (by kernel_rfl) (eM 3 [1] ?_);simp only[↓aD,aO];refine aJ (aF cX aA rfl rfl (by omega) (by omega) (bZ (ai _))) ?_;simp only[zz];refine ql rfl (fun u m=>(((m.o 2 rfl).at xK hsx).lies aG aA)) ?_;simp only[zz];refine aJ (bW rfl rfl) (bD ?_);clear m;intro u m;refine gc ?_;simp only[zz];refine bG rfl (fun hc7=>?_) (fun hc7=>?_)
        ·
         have hys:y=sx:=P3.eq hc7.1 hc7.2.1 hc7.2.2;have hz:S.any (fun s=>nS M p s (M.length-1) s)=true:=Gy hsx (by show nS M p sx (M.length-1) sx=true;rw[hrg];exact aae (by rw[hy,hys]));refine aW 5 [] m ?_;simp only[↓aD];intro u m;refine aR rfl rfl ?_;try simp only[zD,zE]
         exact⟨_,rfl,m.ext,by rw[hP,hz]⟩
        ·
         have hys:¬y=sx:=fun h=>hc7 (by rw[h];exact⟨rfl,rfl,rfl⟩);refine aW 7 [0] m ?_;simp only[↓aD];refine⟨by omega,?_⟩;intro u m;refine hK4 (n5+1-(j+1)) _ _ ?_ ?_ ?_
         · omega
         · simp only[zz,zv]
         ·
          simp only[zQ,zR,zD,zE];exact⟨j+1,y,rfl,(m.sel [false,true,true,true,true]),by rw[hrg,Tv hy hys,show M.length-(j+1)=f by omega],by omega,by omega,rfl⟩
      ·
       have hz:nS M p sx (M.length-1) sx=false:=by rw[hrg,show M.length-j=0 by omega];rfl
       have hno2:(S.take (k2+1)).any (fun s=>nS M p s (M.length-1) s)=false:=by rw[wG hsx,hno,hz];rfl
       refine aW 7 [0] m ?_;simp only[↓aD];refine⟨by omega,?_⟩;intro u m;refine hK3 (n6-(k2+1)) _ _ ?_ ?_ ?_
       · omega
       · simp only[zz,zv]
       ·
        simp only[zQ,zR,zD,zE];exact⟨k2+1,rfl,(m.sel [false,true,true,true]),hno2,by omega,rfl⟩
    ·
     have hk2:k2=S.length:=by omega
     rw[hk2,ew] at hno;refine aW 6 [] m ?_;simp only[↓aD];intro u m;refine aR rfl rfl ?_;try simp only[zD,zE]
     exact⟨_,rfl,m.ext,by rw[hP,hno]⟩
end Go.Proofs.YtfekpcimgncioaaGreatDoor
