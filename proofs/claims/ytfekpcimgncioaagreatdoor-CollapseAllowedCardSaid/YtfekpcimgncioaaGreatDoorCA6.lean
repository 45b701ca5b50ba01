/-
 Texts of one claim, laid together: Wide1, Wide2, Wide3, Wide4, Wide5, Back, Wide7, Wide8, Wide9, Wide10, Geo1, Exact, Exact2, K6, Sla, K7, Guard2, K8, K9, K10, K11, Kt, K16, Round, Sides, LoopF.
-/
import Derived.RangeFuncNested
import Derived.RangeFuncBound
import Derived.RangeFuncCalls
import Derived.RangeFuncBox
import Derived.RangeFuncLeaves
import Derived.Shelf.Abstract
import Derived.Shelf.RegionOpen
import Derived.WalkKit
import Derived.OwnWalkIn
import Derived.TacticsInMore
import Derived.LoopNIn
import Derived.LoopIn
import Derived.Maps.AppendAt
import Derived.OrdersIn
import Derived.Test.YtfekpcimgncioaaGreatDoorCA5
open Nat renaming reduceAdd→aa,reduceMul→ag,zero_add→aq,le_refl→av,le_trans→ba,zero_le→bw,lt_succ_self→fc,lt_of_lt_of_le→gg,not_lt_zero→je,reduceSub→ke,ne_of_gt→ku,add_comm→ml
open Int renaming reduceToNat→ad,toNat_natCast→ah,reduceAdd→ak
open Go renaming Value→ai,World→aj,wp_region_lit→ao,wpList→ar,TypeId→az,Program→bp,Operand→bx,run_underlying→cd,MapEntry→ck,wpQuiet→cl,execOp→de,Deferred→dx
open List renaming getElem?_eq_getElem→am,mem_cons→an,getElem?_eq_some_iff→ap,length_append→au,length_cons→aw,mem_of_getElem?→be,mem_singleton→bf,mem_append→bi,length_nil→bn,pairwise_cons→br,mem_cons_of_mem→bt,mem_cons_self→bu,getElem?_eq_none→bz,nil_append→b_,not_mem_nil→cg,cons_append→cj,length_map→ct,replicate→cu,map_append→cv,mem_iff_getElem?→dh,getElem?_drop→di,mem_map→eh,all_eq_true→ep,getElem?_map→fb,mem_map_of_mem→fh,take_length→fi,set_cons_succ→fy,size_toArray→gi,filter_append→gj,set_cons_zero→ig,getD_cons_zero→im,getD_cons_succ→io,append_toArray→ip,push_toArray→i_,eq_of_mem_replicate→jc,range→ji,take_zero→jx,pairwise_map→j_,nodup_nil→kj,drop_length→lg,drop_zero→mi,all_eq_false→oa
open Bool renaming and_eq_true→bg,not_false→fj,not_true→fp
open Go.Value renaming bool→bj,oneCell'→oy
open Go.Oper renaming mk→bm,upon→nh,uponIn→pa,semAt_some→pu,semAt→p_
open Go.Exit renaming inBlock→cw
open Array renaming replicate→gd,replicate_succ→ia,replicate_zero→ib
open Prod renaming snd→pc
set_option maxHeartbeats 8000000
set_option linter.unusedSimpArgs false
set_option linter.unusedVariables false
set_option linter.unusedSectionVars false
namespace Go.Proofs.YtfekpcimgncioaaGreatDoor
open Go.Proofs.Tryz
open Go.RowKit Go.Lith
variable{A:Option Addr}{xs ys:List Nat}{na nb ca cb:Nat}
abbrev fM:=@underlying233
set_option maxRecDepth 100000
attribute [local irreducible] ar cl fU bS cO Code.wp
attribute [local congr] pD gF gG gH gI gJ kL gK gL gM gN gQ gR gS gT gU gV gW eU eV gX gY iA iB iC kN dF dG cW dD gZ kM eW eX eY iD iE kO
theorem Lo{cap:Nat}(w:aj)(hS:lI w A na cap xs):dA prog 256 [.slice A na cap] w (fun v _=>v=.slice A (trim xs).length cap):=by
 refine⟨bJ func256 (by kernel_rfl),?_⟩;have m:=Mem.refl w;obtain rfl:=hS.eq;have hl:=hS.len;have hle:=hS.le
 go_enter func256,ntmps256
 apply fI 6 [0] m;simp only[↓aD];refine bX [0] [3,4,5,6,7,8,9,10,11,12,13,14,15,16,17,18,19] (fun n vs wl=>∃(k:Nat),vs=[.slice A k cap]∧Mem w wl []∧(k≤xs.length)∧(trim (xs.take k)=trim xs)∧(n=k)) ?_ ?_
 ·
  exact⟨_,xs.length,O,m,av _,by rw[fi],O⟩
 ·
  intro n vs wr hI u K1 hK1;obtain⟨k,rfl,m,hk,ht,hn⟩:=hI;simp only[zu,zF,zG];apply aK 2 [] m;simp only[↓aD];by_cases hk0:0<k
  ·
   obtain⟨a,rfl,hcell,hlt⟩:=hS.get (show k-1<xs.length by omega);apply aU 9 [1,0] m;simp only[↓aD,kG];refine⟨by omega,?_⟩;refine eB O (aC (aF fM cJ O O (by omega) (by omega) (jF (show _=k-1 by omega))) (eB O ?_));simp only[zz];refine aS O (lies1 (m.ext.cell hcell) lX) ?_;simp only[zz];apply aL 3 [0,0] m;simp only[↓aD];refine bD O ?_ ?_<;>intro hc1
   ·
    apply aK 7 [0] m;simp only[↓aD,kG];refine⟨by omega,?_⟩;refine aC (nG fM cJ O O (show _=k-1 by omega) (by omega) (by omega)) ?_;apply aL 3 [0] m;simp only[↓aD];exact hK1 (k-1) _ _ (by omega) (by kernel_rfl) ⟨k-1,O,m,by omega,Ui hk0 (by omega) hc1 ht,O⟩
   ·
    apply aK 7 [] m;simp only[↓aD];refine aT O O ?_;try simp only[zD,zE]
    exact⟨_,O,m.ext,by rw[←aak hk0 (by omega) hc1 ht]⟩
  ·
   obtain rfl:k=0:=by omega
   apply aU 22 [2] m;simp only[↓aD,kG];refine⟨by omega,?_⟩;refine aT O O ?_;try simp only[zD,zE]
   exact⟨_,O,m.ext,by rw[←aal ht]⟩
theorem aqR{B:Option Addr}(w:aj)(hS:lI w A na ca xs)(hR:lI w B nb cb ys)(tx:iS xs)(ty:iS ys):dA prog 187 [.slice A na ca,.slice B nb cb] w (fun v _=>v=.int .i64 (ord (val 4294967296 xs) (val 4294967296 ys))):=by
 refine⟨bJ func187 (by kernel_rfl),?_⟩;have m:=Mem.refl w;obtain rfl:=hS.eq;obtain rfl:=hR.eq;have hl:=hS.len;have hl2:=hR.len
 go_enter func187,ntmps187
 apply fI 15 [0,0] m;simp only[↓aD,kG];refine bD O ?_ ?_<;>intro hc1
 ·
  apply aK 5 [] m;simp only[↓aD];refine aT O O ?_;try simp only[zD,zE]
  exact⟨_,O,m.ext,by rw[ord,if_pos (nH (by omega) hS.digs hR.digs ty (by omega))]⟩
 ·
  apply aK 9 [0,0] m;simp only[↓aD,kG];refine bD O ?_ ?_<;>intro hc2
  ·
   apply aK 5 [] m;simp only[↓aD];refine aT O O ?_;try simp only[zD,zE]
   exact⟨_,O,m.ext,by have:=nH (B:=4294967296) (by omega) hR.digs hS.digs tx (by omega);rw[ord,if_neg (by omega),if_pos this]⟩
  ·
   apply aK 11 [0] m;simp only[↓aD,kG];refine⟨by omega,?_⟩;refine bX [5] [4,21,22,23,24,25,26,27,28,29,30,31,32,33,34,35,36,37,38,39,40,41,42,43,44] (fun n vs wl=>∃(k:Nat),vs=[.int .i64 ((k:Int)-1)]∧Mem w wl []∧(k≤xs.length)∧(xs.drop k=ys.drop k)∧(n=k)) ?_ ?_
   ·
    exact⟨_,xs.length,O,m,av _,by rw[lg,show xs.length=ys.length by omega,lg],O⟩
   ·
    intro n vs wr hI u K1 hK1;obtain⟨k,rfl,m,hk,hd,hn⟩:=hI;simp only[zu,zF,zG];apply aK 6 [0,0] m;simp only[↓aD];refine bD O ?_ ?_<;>intro hc3
    ·
     apply aK 5 [] m;simp only[↓aD];obtain⟨a,rfl,hca,_⟩:=hS.get (show k-1<xs.length by omega);obtain⟨b,rfl,hcb,_⟩:=hR.get (show k-1<ys.length by omega);refine gc (mq m aB (by kernel_rfl) (aI aH (aI aH ?_)));simp only[zz];refine aI (aF fM cJ O O (by omega) (by omega) (jF (show _=k-1 by omega))) ?_;simp only[zz];refine ql O (fun u m=>(lies1 (m.ext.cell hca) lX)) ?_;simp only[zz];refine aI aH (aI aH ?_);simp only[zz];refine aI (aF fM cJ O O (by omega) (by omega) (jF (show _=k-1 by omega))) ?_;simp only[zz];refine ql O (fun u m=>(lies1 (m.ext.cell hcb) lX)) ?_;simp only[zz];refine aI (qL O O) (aI aO (bC ?_));intro u m;refine gc ?_;simp only[zz];refine bD O ?_ ?_<;>intro hc4
     ·
      apply aK 5 [] m;simp only[↓aD];refine aT O O ?_;try simp only[zD,zE]
      exact⟨_,O,m.ext,by rw[ord,if_pos (agV hS.digs (by omega) (by omega) (by omega) hd hc4)]⟩
     ·
      apply aK 1 [] m;simp only[↓aD];have hca:=hS.at (show k-1<xs.length by omega);have hcb:=hR.at (show k-1<ys.length by omega);refine gc (mq m aB (by kernel_rfl) (aI aH (aI aH ?_)));simp only[zz];refine aI (aF fM cJ O O (by omega) (by omega) (jF (show _=k-1 by omega))) ?_;simp only[zz];refine ql O (fun u m=>(lies1 (m.ext.cell hca) lX)) ?_;simp only[zz];refine aI aH (aI aH ?_);simp only[zz];refine aI (aF fM cJ O O (by omega) (by omega) (jF (show _=k-1 by omega))) ?_;simp only[zz];refine ql O (fun u m=>(lies1 (m.ext.cell hcb) lX)) ?_;simp only[zz];refine aI (aag O O) (aI aO (bC ?_));intro u m;refine gc ?_;simp only[zz];refine bD O ?_ ?_<;>intro hc5
      ·
       apply aK 5 [] m;simp only[↓aD];refine aT O O ?_;try simp only[zD,zE]
       exact⟨_,O,m.ext,by have:=agV hR.digs (by omega) (by omega) (by omega) hd.symm hc5;rw[ord,if_neg (by omega),if_pos this]⟩
      ·
       apply aK 8 [0] m;simp only[↓aD];refine⟨by omega,?_⟩;rw[show ((k:Int)-1-1)=((k-1:Nat):Int)-1 by omega];exact hK1 (k-1) _ _ (by omega) (by kernel_rfl) ⟨k-1,O,m,by omega,ae1 (by omega) (by omega) (by omega) hd hc4 hc5,O⟩
    ·
     apply aK 6 [] m;simp only[↓aD];refine aT O O ?_;try simp only[zD,zE]
     exact⟨_,O,m.ext,by have h0:k=0:=(by omega);subst h0;simp only[mi] at hd;rw[hd,ord,if_neg (by omega),if_neg (by omega)]⟩
theorem aqS{B:Option Addr}(w:aj)(hS:lI w A na ca xs)(hR:lI w B nb cb ys)(hlx:xs.length≤1099511627776)(hly:ys.length≤1099511627776):dA prog 186 [.slice A na ca,.slice B nb cb] w (qU (val 4294967296 xs+val 4294967296 ys)):=by
 refine⟨bJ func186 (by kernel_rfl),?_⟩;have m:=Mem.refl w;obtain rfl:=hS.eq;obtain rfl:=hR.eq
 go_enter func186,ntmps186
 apply fI 13 [0,0] m;simp only[↓aD,kG];refine bD O ?_ ?_<;>intro hc1
 ·
  obtain⟨qb,rfl⟩:∃q,q=xs:=⟨_,rfl⟩
  obtain⟨qa,rfl⟩:∃q,q=ys:=⟨_,rfl⟩
  obtain⟨Qb,rfl⟩:∃q,q=A:=⟨_,rfl⟩
  obtain⟨Qa,rfl⟩:∃q,q=B:=⟨_,rfl⟩
  have hSa:=hR;have hSb:=hS;apply aK 11 [0] m;simp only[↓aD,kG];refine⟨by omega,?_⟩;refine tE fM Hr O O O (show _=qa.length+1 by omega) (show _=qa.length+1 by omega) (by omega) (by omega) (by omega) (by omega) ?_;intro u g1 e_ h_ k_;replace m:=m.newB e_ h_ k_;apply aL 2 [] m;simp only[↓aD];rw[nW] at m;apply aU 12 [0] m;simp only[↓aD,kG];refine bX [6,22] [7,8,23,24,25,26,27,28,29,30,31,32,33,34,35,36,37,38,39,40,41,42,43,44,45,46,47,48] (fun n vs wl=>∃(i c:Nat) (os:List Nat),vs=[.int .u64 (c:Int),.int .i64 (i:Int)]∧Mem w wl [bI g1 (os.map Ka) 231]∧(i≤qa.length)∧(os.length=qa.length+1)∧(val 4294967296 os+4294967296^i*c=val 4294967296 (qa.take i)+val 4294967296 (qb.take i))∧(os.drop i=cu (qa.length+1-i) 0)∧(eO 4294967296 os)∧(c≤1)∧(n=qa.length-i)) ?_ ?_
  ·
   exact⟨_,0,0,cu (qa.length+1) 0,O,m,by omega,by simp,by simp[mE,val],by simp,fun x hx=>by rw[jc hx];decide,by omega,rfl⟩
  ·
   intro n vs wr hI u K1 hK1;obtain⟨i,c,os,rfl,m,hi,hlo,hv,hz,hd,hc,hn⟩:=hI;simp only[zu,zF,zG];apply aK 5 [0,0] m;simp only[↓aD];refine bD O ?_ ?_<;>intro hc2
   ·
    apply aK 9 [] m;simp only[↓aD];obtain⟨a,rfl,hca,hla⟩:=hSa.get (show i<qa.length by omega);apply aU 3 [0] m;simp only[↓aD];refine aC (aF fM cJ O O (by omega) (by omega) (jF (ah _))) ?_;simp only[zz];refine aS O (lies1 (m.ext.cell hca) lX) ?_;simp only[zz];apply aL 12 [0,0] m;simp only[↓aD,kG];refine⟨by omega,?_⟩;refine bD O ?_ ?_<;>intro hc3
    ·
     obtain⟨b,rfl,hcb,hlb⟩:=hSb.get (show i<qb.length by omega);apply aK 4 [0] m;simp only[↓aD];refine aC (aF fM cJ O O (by omega) (by omega) (jF (ah _))) ?_;simp only[zz];refine aS O (lies1 (m.ext.cell hcb) lX) ?_;simp only[zz];apply aL 3 [] m;simp only[↓aD];refine⟨by omega,?_⟩;obtain⟨s,hs⟩:∃s:Nat,(s:Int)=↑qa[i]+↑c+↑qb[i]:=⟨qa[i]+c+qb[i],by omega⟩
     rw[←hs];have hs2:s=qa[i]+c+qb[i]?.getD 0:=by rw[am (by omega)];simp;omega
     have hyb:qb[i]?.getD 0<4294967296:=by rw[am (by omega)];exact hlb
     apply aU 4 [0] m;simp only[↓aD];refine aC (lQ O O (rR (by omega) (by omega))) ?_;apply aL 1 [0] m;simp only[↓aD];refine aC (lF O O (by omega) (Uj (by omega))) ?_;simp only[zz];refine aC (aF fM cJ O O (by omega) (by omega) (fK (ah _))) ?_;simp only[zz];refine dB m 0 O O O cJ (by simp;omega) ⟨rfl,rfl⟩ ?_;intro u m;simp only[zz] at m ;rw[show ((s:Int)%4294967296)=((s%4294967296:Nat):Int) by omega,mV (by omega)] at m;apply aL 7 [0] m;simp only[↓aD];refine⟨by omega,?_⟩;obtain⟨r1,r2,r3,r4⟩:=Dd (by omega) hlo hv hz hd hc hs2 hla hyb;rw[show ((i:Int)+1)=((i+1:Nat):Int) by omega,show ((s:Int) / 4294967296)=((s / 4294967296:Nat):Int) by omega];exact hK1 (qa.length-(i+1)) _ _ (by omega) (by kernel_rfl) ⟨i+1,s / 4294967296,os.set i (s%4294967296),O,m,by omega,by simpa using hlo,r1,r2,r3,r4,O⟩
    ·
     obtain⟨s,hs⟩:∃s:Nat,(s:Int)=↑qa[i]+↑c:=⟨qa[i]+c,by omega⟩
     rw[←hs];have hs2:s=qa[i]+c+qb[i]?.getD 0:=by rw[bz (by omega)];simp;omega
     have hyb:qb[i]?.getD 0<4294967296:=by rw[bz (by omega)];decide
     apply aK 5 [0] m;simp only[↓aD];refine aC (lQ O O (rR (by omega) (by omega))) ?_;apply aL 1 [0] m;simp only[↓aD];refine aC (lF O O (by omega) (Uj (by omega))) ?_;simp only[zz];refine aC (aF fM cJ O O (by omega) (by omega) (fK (ah _))) ?_;simp only[zz];refine dB m 0 O O O cJ (by simp;omega) ⟨rfl,rfl⟩ ?_;intro u m;simp only[zz] at m ;rw[show ((s:Int)%4294967296)=((s%4294967296:Nat):Int) by omega,mV (by omega)] at m;apply aL 7 [0] m;simp only[↓aD];refine⟨by omega,?_⟩;obtain⟨r1,r2,r3,r4⟩:=Dd (by omega) hlo hv hz hd hc hs2 hla hyb;rw[show ((i:Int)+1)=((i+1:Nat):Int) by omega,show ((s:Int) / 4294967296)=((s / 4294967296:Nat):Int) by omega];exact hK1 (qa.length-(i+1)) _ _ (by omega) (by kernel_rfl) ⟨i+1,s / 4294967296,os.set i (s%4294967296),O,m,by omega,by simpa using hlo,r1,r2,r3,r4,O⟩
   ·
    apply aK 2 [] m;simp only[↓aD];obtain rfl:i=qa.length:=by omega
    apply aU 5 [0] m;simp only[↓aD,kG];refine aC (aF fM cJ O O (by omega) (by omega) (fK (ah _))) ?_;simp only[zz];refine dB m 0 O O O cJ (by simp;omega) ⟨rfl,rfl⟩ ?_;intro u m;simp only[zz] at m ;rw[mV (by omega)] at m;apply aL 4 [0] m;simp only[↓aD];refine cQ m O O (Lo _ ((m.b 0 O).nat (hd.set (show c<4294967296 by omega)) (by simp;omega) (by omega))) ?_;rintro v u m rfl;apply aL 3 [] m;simp only[↓aD];refine aT O O ?_;try simp only[zD,zE]
    exact⟨_,O,m.ext,by first | exact qU.of_trim ((m.b 0 O).nat (hd.set (show c<4294967296 by omega)) (by simp;omega) (by omega)) (Np (by omega) hlo hv hz) | (rw[ml];exact qU.of_trim ((m.b 0 O).nat (hd.set (show c<4294967296 by omega)) (by simp;omega) (by omega)) (Np (by omega) hlo hv hz))⟩
 ·
  obtain⟨qa,rfl⟩:∃q,q=xs:=⟨_,rfl⟩
  obtain⟨qb,rfl⟩:∃q,q=ys:=⟨_,rfl⟩
  obtain⟨Qa,rfl⟩:∃q,q=A:=⟨_,rfl⟩
  obtain⟨Qb,rfl⟩:∃q,q=B:=⟨_,rfl⟩
  have hSa:=hS;have hSb:=hR;apply aK 6 [0] m;simp only[↓aD,kG];refine⟨by omega,?_⟩;refine tE fM Hr O O O (show _=qa.length+1 by omega) (show _=qa.length+1 by omega) (by omega) (by omega) (by omega) (by omega) ?_;intro u g1 e_ h_ k_;replace m:=m.newB e_ h_ k_;apply aL 2 [] m;simp only[↓aD];rw[nW] at m;apply aU 12 [0] m;simp only[↓aD,kG];refine bX [6,22] [7,8,23,24,25,26,27,28,29,30,31,32,33,34,35,36,37,38,39,40,41,42,43,44,45,46,47,48] (fun n vs wl=>∃(i c:Nat) (os:List Nat),vs=[.int .u64 (c:Int),.int .i64 (i:Int)]∧Mem w wl [bI g1 (os.map Ka) 231]∧(i≤qa.length)∧(os.length=qa.length+1)∧(val 4294967296 os+4294967296^i*c=val 4294967296 (qa.take i)+val 4294967296 (qb.take i))∧(os.drop i=cu (qa.length+1-i) 0)∧(eO 4294967296 os)∧(c≤1)∧(n=qa.length-i)) ?_ ?_
  ·
   exact⟨_,0,0,cu (qa.length+1) 0,O,m,by omega,by simp,by simp[mE,val],by simp,fun x hx=>by rw[jc hx];decide,by omega,rfl⟩
  ·
   intro n vs wr hI u K2 hK2;obtain⟨i,c,os,rfl,m,hi,hlo,hv,hz,hd,hc,hn⟩:=hI;simp only[zu,zF,zG];apply aK 5 [0,0] m;simp only[↓aD];refine bD O ?_ ?_<;>intro hc2
   ·
    apply aK 9 [] m;simp only[↓aD];obtain⟨a,rfl,hca,hla⟩:=hSa.get (show i<qa.length by omega);apply aU 3 [0] m;simp only[↓aD];refine aC (aF fM cJ O O (by omega) (by omega) (jF (ah _))) ?_;simp only[zz];refine aS O (lies1 (m.ext.cell hca) lX) ?_;simp only[zz];apply aL 12 [0,0] m;simp only[↓aD,kG];refine⟨by omega,?_⟩;refine bD O ?_ ?_<;>intro hc3
    ·
     obtain⟨b,rfl,hcb,hlb⟩:=hSb.get (show i<qb.length by omega);apply aK 4 [0] m;simp only[↓aD];refine aC (aF fM cJ O O (by omega) (by omega) (jF (ah _))) ?_;simp only[zz];refine aS O (lies1 (m.ext.cell hcb) lX) ?_;simp only[zz];apply aL 3 [] m;simp only[↓aD];refine⟨by omega,?_⟩;obtain⟨s,hs⟩:∃s:Nat,(s:Int)=↑qa[i]+↑c+↑qb[i]:=⟨qa[i]+c+qb[i],by omega⟩
     rw[←hs];have hs2:s=qa[i]+c+qb[i]?.getD 0:=by rw[am (by omega)];simp;omega
     have hyb:qb[i]?.getD 0<4294967296:=by rw[am (by omega)];exact hlb
     apply aU 4 [0] m;simp only[↓aD];refine aC (lQ O O (rR (by omega) (by omega))) ?_;apply aL 1 [0] m;simp only[↓aD];refine aC (lF O O (by omega) (Uj (by omega))) ?_;simp only[zz];refine aC (aF fM cJ O O (by omega) (by omega) (fK (ah _))) ?_;simp only[zz];refine dB m 0 O O O cJ (by simp;omega) ⟨rfl,rfl⟩ ?_;intro u m;simp only[zz] at m ;rw[show ((s:Int)%4294967296)=((s%4294967296:Nat):Int) by omega,mV (by omega)] at m;apply aL 7 [0] m;simp only[↓aD];refine⟨by omega,?_⟩;obtain⟨r1,r2,r3,r4⟩:=Dd (by omega) hlo hv hz hd hc hs2 hla hyb;rw[show ((i:Int)+1)=((i+1:Nat):Int) by omega,show ((s:Int) / 4294967296)=((s / 4294967296:Nat):Int) by omega];exact hK2 (qa.length-(i+1)) _ _ (by omega) (by kernel_rfl) ⟨i+1,s / 4294967296,os.set i (s%4294967296),O,m,by omega,by simpa using hlo,r1,r2,r3,r4,O⟩
    ·
     obtain⟨s,hs⟩:∃s:Nat,(s:Int)=↑qa[i]+↑c:=⟨qa[i]+c,by omega⟩
     rw[←hs];have hs2:s=qa[i]+c+qb[i]?.getD 0:=by rw[bz (by omega)];simp;omega
     have hyb:qb[i]?.getD 0<4294967296:=by rw[bz (by omega)];decide
     apply aK 5 [0] m;simp only[↓aD];refine aC (lQ O O (rR (by omega) (by omega))) ?_;apply aL 1 [0] m;simp only[↓aD];refine aC (lF O O (by omega) (Uj (by omega))) ?_;simp only[zz];refine aC (aF fM cJ O O (by omega) (by omega) (fK (ah _))) ?_;simp only[zz];refine dB m 0 O O O cJ (by simp;omega) ⟨rfl,rfl⟩ ?_;intro u m;simp only[zz] at m ;rw[show ((s:Int)%4294967296)=((s%4294967296:Nat):Int) by omega,mV (by omega)] at m;apply aL 7 [0] m;simp only[↓aD];refine⟨by omega,?_⟩;obtain⟨r1,r2,r3,r4⟩:=Dd (by omega) hlo hv hz hd hc hs2 hla hyb;rw[show ((i:Int)+1)=((i+1:Nat):Int) by omega,show ((s:Int) / 4294967296)=((s / 4294967296:Nat):Int) by omega];exact hK2 (qa.length-(i+1)) _ _ (by omega) (by kernel_rfl) ⟨i+1,s / 4294967296,os.set i (s%4294967296),O,m,by omega,by simpa using hlo,r1,r2,r3,r4,O⟩
   ·
    apply aK 2 [] m;simp only[↓aD];obtain rfl:i=qa.length:=by omega
    apply aU 5 [0] m;simp only[↓aD,kG];refine aC (aF fM cJ O O (by omega) (by omega) (fK (ah _))) ?_;simp only[zz];refine dB m 0 O O O cJ (by simp;omega) ⟨rfl,rfl⟩ ?_;intro u m;simp only[zz] at m ;rw[mV (by omega)] at m;apply aL 4 [0] m;simp only[↓aD];refine cQ m O O (Lo _ ((m.b 0 O).nat (hd.set (show c<4294967296 by omega)) (by simp;omega) (by omega))) ?_;rintro v u m rfl;apply aL 3 [] m;simp only[↓aD];refine aT O O ?_;try simp only[zD,zE]
    exact⟨_,O,m.ext,by first | exact qU.of_trim ((m.b 0 O).nat (hd.set (show c<4294967296 by omega)) (by simp;omega) (by omega)) (Np (by omega) hlo hv hz) | (rw[ml];exact qU.of_trim ((m.b 0 O).nat (hd.set (show c<4294967296 by omega)) (by simp;omega) (by omega)) (Np (by omega) hlo hv hz))⟩
theorem ano{B:Option Addr}(w:aj)(hS:lI w A na ca xs)(hR:lI w B nb cb ys)(hle:ys.length≤xs.length)(hge:val 4294967296 ys≤val 4294967296 xs)(hlx:xs.length≤1099511627776):dA prog 188 [.slice A na ca,.slice B nb cb] w (fun v w'=>qU (val 4294967296 xs-val 4294967296 ys) v w'∧wQ w v):=by
 refine⟨bJ func188 (by kernel_rfl),?_⟩;have m:=Mem.refl w;obtain rfl:=hS.eq;obtain rfl:=hR.eq
 go_enter func188,ntmps188
 apply fI 8 [0] m;simp only[↓aD,kG];refine tE fM Hr O O O (ah _) (ah _) (by omega) (by omega) (by omega) (by omega) ?_;intro u g1 e_ h_ k_;replace m:=m.newB e_ h_ k_;apply aL 2 [] m;simp only[↓aD];rw[nW] at m;apply aU 12 [0] m;simp only[↓aD,kG];refine bX [6,14] [7,8,15,16,17,18,19,20,21,22,23,24,25,26,27,28,29,30,31,32,33,34,35,36,37,38,39,40] (fun n vs wl=>∃(i c:Nat) (os:List Nat),vs=[.int .u64 (c:Int),.int .i64 (i:Int)]∧Mem w wl [bI g1 (os.map Ka) 231]∧(i≤xs.length)∧(os.length=xs.length)∧(val 4294967296 os+val 4294967296 (ys.take i)=val 4294967296 (xs.take i)+4294967296^i*c)∧(os.drop i=cu (xs.length-i) 0)∧(eO 4294967296 os)∧(c≤1)∧(n=xs.length-i)) ?_ ?_
 ·
  exact⟨_,0,0,cu xs.length 0,O,m,by omega,by simp,by simp[mE,val],by simp,fun x hx=>by rw[jc hx];decide,by omega,rfl⟩
 ·
  intro n vs wr hI u K1 hK1;obtain⟨i,c,os,rfl,m,hi,hlo,hv,hz,hd,hc,hn⟩:=hI;simp only[zu,zF,zG];apply aK 5 [0,0] m;simp only[↓aD];refine bD O ?_ ?_<;>intro hc1
  ·
   apply aK 9 [] m;simp only[↓aD];obtain⟨a,rfl,hca,hla⟩:=hS.get (show i<xs.length by omega);apply aU 3 [0] m;simp only[↓aD];refine aC (aF fM cJ O O (by omega) (by omega) (jF (ah _))) ?_;simp only[zz];refine aS O (lies1 (m.ext.cell hca) lX) ?_;simp only[zz];apply aL 1 [0] m;simp only[↓aD];refine aC (Ac O O (mF _)) ?_;apply aL 10 [0,0] m;simp only[↓aD,kG];refine bD O ?_ ?_<;>intro hc2
   ·
    obtain⟨b,rfl,hcb,hlb⟩:=hR.get (show i<ys.length by omega);apply aK 4 [0] m;simp only[↓aD];refine aC (aF fM cJ O O (by omega) (by omega) (jF (ah _))) ?_;simp only[zz];refine aS O (lies1 (m.ext.cell hcb) lX) ?_;simp only[zz];refine aC (Ac O O (mF _)) ?_;apply aL 2 [] m;simp only[↓aD];obtain⟨s,hs⟩:∃s:Nat,(s:Int)=((↑xs[i]-↑c)%18446744073709551616-↑ys[i])%18446744073709551616:=⟨(((↑xs[i]-↑c)%18446744073709551616-↑ys[i])%18446744073709551616:Int).toNat,by omega⟩
    rw[←hs];have hs2:(s:Int)=((xs[i]:Nat)-(c:Nat)-(ys[i]?.getD 0:Nat):Int)%18446744073709551616:=by rw[am (by omega)];simp only[Option.getD_some];omega
    have hyb:ys[i]?.getD 0<4294967296:=by rw[am (by omega)];exact hlb
    have hs64:s<18446744073709551616:=by omega
    apply aU 4 [0] m;simp only[↓aD];refine aC (lQ O O (rR (by omega) (by omega))) ?_;apply aL 1 [0] m;simp only[↓aD];refine aC (lF O O (by omega) (amW (by omega))) ?_;simp only[zz];refine aC (aF fM cJ O O (by omega) (by omega) (fK (ah _))) ?_;simp only[zz];refine dB m 0 O O O cJ (by simp;omega) ⟨rfl,rfl⟩ ?_;intro u m;simp only[zz] at m ;rw[show ((s:Int)%4294967296)=((s%4294967296:Nat):Int) by omega,mV (by omega)] at m;apply aL 7 [0] m;simp only[↓aD];refine⟨by omega,?_⟩;obtain⟨r1,r2,r3,r4⟩:=Uk (by omega) hlo hv hz hd hc hs2 hla hyb;rw[show ((i:Int)+1)=((i+1:Nat):Int) by omega,show ((s:Int) / 9223372036854775808)=((s / 9223372036854775808:Nat):Int) by omega];exact hK1 (xs.length-(i+1)) _ _ (by omega) (by kernel_rfl) ⟨i+1,s / 9223372036854775808,os.set i (s%4294967296),O,m,by omega,by simpa using hlo,r1,r2,r3,r4,O⟩
   ·
    obtain⟨s,hs⟩:∃s:Nat,(s:Int)=(↑xs[i]-↑c)%18446744073709551616:=⟨((↑xs[i]-↑c)%18446744073709551616:Int).toNat,by omega⟩
    rw[←hs];have hs2:(s:Int)=((xs[i]:Nat)-(c:Nat)-(ys[i]?.getD 0:Nat):Int)%18446744073709551616:=by rw[bz (by omega)];simp only[Option.getD_none];omega
    have hyb:ys[i]?.getD 0<4294967296:=by rw[bz (by omega)];decide
    apply aK 1 [] m;simp only[↓aD];have hs64:s<18446744073709551616:=by omega
    apply aU 4 [0] m;simp only[↓aD];refine aC (lQ O O (rR (by omega) (by omega))) ?_;apply aL 1 [0] m;simp only[↓aD];refine aC (lF O O (by omega) (amW (by omega))) ?_;simp only[zz];refine aC (aF fM cJ O O (by omega) (by omega) (fK (ah _))) ?_;simp only[zz];refine dB m 0 O O O cJ (by simp;omega) ⟨rfl,rfl⟩ ?_;intro u m;simp only[zz] at m ;rw[show ((s:Int)%4294967296)=((s%4294967296:Nat):Int) by omega,mV (by omega)] at m;apply aL 7 [0] m;simp only[↓aD];refine⟨by omega,?_⟩;obtain⟨r1,r2,r3,r4⟩:=Uk (by omega) hlo hv hz hd hc hs2 hla hyb;rw[show ((i:Int)+1)=((i+1:Nat):Int) by omega,show ((s:Int) / 9223372036854775808)=((s / 9223372036854775808:Nat):Int) by omega];exact hK1 (xs.length-(i+1)) _ _ (by omega) (by kernel_rfl) ⟨i+1,s / 9223372036854775808,os.set i (s%4294967296),O,m,by omega,by simpa using hlo,r1,r2,r3,r4,O⟩
  ·
   apply aK 2 [] m;simp only[↓aD];obtain rfl:i=xs.length:=by omega
   apply aU 2 [0] m;simp only[↓aD];refine cQ m O O (Lo _ ((m.b 0 O).nat hd (by omega) (by omega))) ?_;rintro v u m rfl;apply aL 3 [] m;simp only[↓aD];exact aT O O ⟨_,O,m.ext,qU.of_trim ((m.b 0 O).nat hd (n:=xs.length) (by omega) (by omega)) (akT hle hlo hd hv hge),wQ.of_blk (m.gb 0 O)⟩
theorem aqT{B:Option Addr}(w:aj)(hS:lI w A na ca xs)(hR:lI w B nb cb ys)(hlx:xs.length≤1099511627776)(hly:ys.length≤1099511627776):dA prog 189 [.slice A na ca,.slice B nb cb] w (qU (val 4294967296 xs*val 4294967296 ys)):=by
 refine⟨bJ func189 (by kernel_rfl),?_⟩;have m:=Mem.refl w;obtain rfl:=hS.eq;obtain rfl:=hR.eq
 go_enter func189,ntmps189
 apply fI 11 [0] m;simp only[↓aD,kG];refine⟨by omega,?_⟩;refine tE fM Hr O O O (show _=xs.length+ys.length by omega) (show _=xs.length+ys.length by omega) (by omega) (by omega) (by omega) (by omega) ?_;intro u g1 e_ h_ k_;replace m:=m.newB e_ h_ k_;apply aL 2 [] m;simp only[↓aD];rw[nW] at m;apply aU 8 [0] m;simp only[↓aD,kG];refine bX [20] [6,7,8,9,10,11,21,22,23,24,25,26,27,28,29,30,31,32,33,34,35,36,37,38,39,40,41,42,43,44,45,46,47,48,49,50,51,52,53,54,55,56,57,58,59,60,61] (fun n vs wl=>∃(i:Nat) (os:List Nat),vs=[.int .i64 (i:Int)]∧Mem w wl [bI g1 (os.map Ka) 231]∧(i≤xs.length)∧(os.length=xs.length+ys.length)∧(val 4294967296 os=val 4294967296 (xs.take i)*val 4294967296 ys)∧(os.drop (i+ys.length)=cu (xs.length-i) 0)∧(eO 4294967296 os)∧(n=xs.length-i)) ?_ ?_
 ·
  exact⟨_,0,cu (xs.length+ys.length) 0,O,m,by omega,by simp,by rw[mE,jx];simp only[val,Nat.zero_mul],by rw[List.drop_replicate];congr 1;omega,fun x hx=>by rw[jc hx];decide,rfl⟩
 ·
  intro n vs wr hI u K1 hK1;obtain⟨i,os,rfl,m,hi,hlo,hv,hz,hd,hn⟩:=hI;simp only[zu,zF,zG];apply aK 5 [0,0] m;simp only[↓aD];refine bD O ?_ ?_<;>intro hc1
  ·
   apply aK 4 [] m;simp only[↓aD];obtain⟨a,rfl,hca,hla⟩:=hS.get (show i<xs.length by omega);apply aU 2 [0] m;simp only[↓aD];refine aC (aF fM cJ O O (by omega) (by omega) (jF (ah _))) ?_;simp only[zz];refine aS O (lies1 (m.ext.cell hca) lX) ?_;simp only[zz];apply aL 15 [0] m;simp only[↓aD,kG];refine bX [8,27] [9,10,11,28,29,30,31,32,33,34,35,36,37,38,39,40,41,42,43,44,45,46,47,48,49,50,51,52,53] (fun n vs wl=>∃(k c:Nat) (os:List Nat),vs=[.int .u64 (c:Int),.int .i64 (k:Int)]∧Mem w wl [bI g1 (os.map Ka) 231]∧(k≤ys.length)∧(os.length=xs.length+ys.length)∧(val 4294967296 os+4294967296^(i+k)*c=val 4294967296 (xs.take i)*val 4294967296 ys+4294967296^i*(xs[i]*val 4294967296 (ys.take k)))∧(os.drop (i+ys.length)=cu (xs.length-i) 0)∧(eO 4294967296 os)∧(c<4294967296)∧(n=ys.length-k)) ?_ ?_
   ·
    exact⟨_,0,0,os,O,m,by omega,hlo,by rw[jx,hv];simp only[val,Nat.mul_zero],hz,hd,by omega,rfl⟩
   ·
    intro n vs wr hI u K2 hK2;obtain⟨k,c,os,rfl,m,hk,hlo,hv2,hz,hd,hc,hn2⟩:=hI;simp only[zu,zF,zG];apply aK 5 [0,0] m;simp only[↓aD];refine bD O ?_ ?_<;>intro hc2
    ·
     apply aK 4 [] m;simp only[↓aD];obtain⟨b,rfl,hcb,hlb⟩:=hR.get (show k<ys.length by omega);apply aU 2 [0] m;simp only[↓aD];refine aC (aF fM cJ O O (by omega) (by omega) (jF (ah _))) ?_;simp only[zz];refine aS O (lies1 (m.ext.cell hcb) lX) ?_;simp only[zz];apply aL 4 [] m;simp only[↓aD];have hco:=(m.b 0 rfl).word (show i+k<os.length by omega);have hlo2:=hd.get (am (show i+k<os.length by omega));obtain⟨hm0,hm1⟩:=akV hla hlb;apply aU 5 [0] m;simp only[↓aD];refine⟨by omega,?_⟩;refine aC (aF fM cJ O O (by omega) (by omega) (fK (show _=i+k by omega))) ?_;simp only[zz];refine aS O (lies1 ((m.b 0 O).word (show i+k<os.length by omega)) lX) ?_;simp only[zz];apply aL 8 [] m;simp only[↓aD];refine⟨by omega,?_⟩;obtain⟨s,hs⟩:∃s:Nat,s=os[i+k]+xs[i]*ys[k]+c:=⟨_,rfl⟩
     have hsI:(↑os[i+k]+↑xs[i]*↑ys[k]+↑c:Int)=(s:Int):=by rw[hs];simp
     rw[hsI];have hs64:s<18446744073709551616:=by omega
     apply aU 6 [0] m;simp only[↓aD];refine⟨by omega,?_⟩;refine aC (lQ O O (rR (by omega) (by omega))) ?_;apply aL 1 [0] m;simp only[↓aD];refine aC (lF O O (by omega) (Uj (by omega))) ?_;simp only[zz];refine aC (aF fM cJ O O (by omega) (by omega) (fK (show _=i+k by omega))) ?_;simp only[zz];refine dB m 0 O O O cJ (by simp;omega) ⟨rfl,rfl⟩ ?_;intro u m;simp only[zz] at m ;rw[show ((s:Int)%4294967296)=((s%4294967296:Nat):Int) by omega,mV (by omega)] at m;apply aL 7 [0] m;simp only[↓aD];refine⟨by omega,?_⟩;have r1:=ae2 (by omega) (by omega) hlo hv2 hs;rw[show ((k:Int)+1)=((k+1:Nat):Int) by omega,show ((s:Int) / 4294967296)=((s / 4294967296:Nat):Int) by omega];exact hK2 (ys.length-(k+1)) _ _ (by omega) (by kernel_rfl) ⟨k+1,s / 4294967296,os.set (i+k) (s%4294967296),O,m,by omega,by simpa using hlo,r1,by rw[Mb (by omega)];exact hz,hd.set (by omega),by omega,O⟩
    ·
     apply aK 1 [] m;simp only[↓aD];obtain rfl:k=ys.length:=by omega
     apply aU 7 [0] m;simp only[↓aD,kG];refine⟨by omega,?_⟩;refine aC (aF fM cJ O O (by omega) (by omega) (fK (show _=i+ys.length by omega))) ?_;simp only[zz];refine dB m 0 O O O cJ (by simp;omega) ⟨rfl,rfl⟩ ?_;intro u m;simp only[zz] at m ;rw[mV (by omega)] at m;apply aL 6 [0] m;simp only[↓aD];refine⟨by omega,?_⟩;obtain⟨r1,r2⟩:=akU (by omega) hlo hv2 hz;rw[show ((i:Int)+1)=((i+1:Nat):Int) by omega];exact hK1 (xs.length-(i+1)) _ _ (by omega) (by kernel_rfl) ⟨i+1,os.set (i+ys.length) c,O,m,by omega,by simpa using hlo,r1,r2,hd.set (by omega),O⟩
  ·
   apply aK 2 [] m;simp only[↓aD];obtain rfl:i=xs.length:=by omega
   apply aU 2 [0] m;simp only[↓aD];refine cQ m O O (Lo _ ((m.b 0 O).nat hd (by omega) (by omega))) ?_;rintro v u m rfl;apply aL 3 [] m;simp only[↓aD];exact aT O O ⟨_,O,m.ext,qU.of_trim ((m.b 0 O).nat hd (n:=xs.length+ys.length) (by omega) (by omega)) (by rw[hv,fi])⟩
end Go.Proofs.YtfekpcimgncioaaGreatDoor
namespace Go.Proofs.YtfekpcimgncioaaGreatDoor
open Go.Proofs.Tryz
open Go.RowKit Go.Lith
set_option maxRecDepth 100000
attribute [local irreducible] ar cl fU Code.wp
end Go.Proofs.YtfekpcimgncioaaGreatDoor
namespace Go.Proofs.YtfekpcimgncioaaGreatDoor
open Go.Proofs.Tryz
open Go.RowKit Go.Lith
set_option maxRecDepth 100000
attribute [local irreducible] ar cl fU bS cO Code.wp
attribute [local congr] pD gF gG gH gI gJ kL gK gL gM gN gQ gR gS gT gU gV gW eU eV gX gY iA iB iC kN dF dG cW dD gZ kM eW eX eY iD iE kO
theorem Wj{neg:Bool}{s:ByteArray}(w:aj)(hs:s.size≤1000000000000):dA prog 185 [.agg #[.bool neg,.string s]] w (qU (akY s)):=by
 refine⟨bJ func185 (by kernel_rfl),?_⟩;have m:=Mem.refl w
 go_enter func185,ntmps185
 apply iY 9 [0,0] m;simp only[↓aD,yP,acW,aa];intro g1 u m;refine aC (tZ O pC O) ?_;apply aL 2 [0] m;simp only[↓aD];refine⟨by omega,?_⟩;rw[show ((s.size:Int)+4-1)=((s.size+3:Nat):Int) by omega];refine aC (jD O O (by omega) (tH (n:=4) (by omega))) ?_;simp only[zz];obtain⟨K,hK⟩:∃K,K=(s.size+3) / 4:=⟨_,rfl⟩
 rw[←hK];refine tE fM Hr O O O (show _=K by omega) (show _=K by omega) (by omega) (by omega) (by omega) (by omega) ?_;intro u g2 e_ h_ k_;replace m:=m.newB e_ h_ k_;apply aL 2 [] m;simp only[↓aD];rw[nW] at m;apply aU 5 [1,0] m;simp only[↓aD,yP,acW,aa];refine aC (tZ O pC O) ?_;apply aL 3 [0] m;simp only[↓aD];refine bX [16] [4,5,17,18,19,20,21,22,23,24,25,26,27,28,29,30,31,32,33,34,35,36,37,38,39,40,41] (fun n vs wl=>∃(i:Nat) (os:List Nat),vs=[.int .i64 (i:Int)]∧Mem w wl [bI g2 (os.map Ka) 231,bI g1 [.bool neg,.string s] 95]∧(i≤s.size)∧(os.length=K)∧(eO 4294967296 os)∧(∀(j:Nat) (h:j<os.length),256^(s.size-i-4*j)∣os[j])∧(val 4294967296 os=256^(s.size-i)*val 256 ((oK s).drop (s.size-i)))∧(n=s.size-i)) ?_ ?_
 ·
  exact⟨_,0,cu K 0,O,m,by omega,by simp,fun x hx=>by rw[jc hx];decide,fun j h=>by rw[List.getElem_replicate];exact Nat.dvd_zero _,by rw[mE,ag0 (by rw[wB];omega),Nat.mul_zero],rfl⟩
 ·
  intro n vs wr hI u K1 hK1;obtain⟨i,os,rfl,m,hi,hlo,hd,hdv,hv,hn⟩:=hI;simp only[zu,zF,zG];apply aK 5 [0,0] m;simp only[↓aD];refine bD O ?_ ?_<;>intro hc1
  ·
   apply aK 12 [1,0] m;simp only[↓aD,yP,acW,aa];refine aC (tZ O pC O) ?_;apply aL 5 [] m;simp only[↓aD];refine⟨by omega,?_⟩;obtain⟨p,hp⟩:∃p,p+1+i=s.size:=⟨s.size-1-i,by omega⟩
   rw[show ((s.size:Int)-1-(i:Int))=(p:Int) by omega];obtain⟨b,hb,hpl,hbp⟩:=Fl hp;obtain⟨f1,f2,f3,f4⟩:=ae3 (r:=p%4) (j:=p / 4) hpl (by omega) (by omega) (by omega) hd (Mc s) (by rw[show p+1=s.size-i by omega];exact hdv) (by rw[show p+1=s.size-i by omega];exact hv);rw[hbp,Ov] at f1 f3 f4;have hb256:b.toNat<256:=b.toNat_lt;have f5:b.toNat*2^(8*(p%4))<2^(8*(p%4+1)):=by
    rw[show 8*(p%4+1)=8+8*(p%4) by omega,Nat.pow_add];exact Nat.mul_lt_mul_of_pos_right hb256 (Nat.pow_pos (by omega))
   obtain⟨c,f6⟩:∃c,os[p / 4]=2^(8*(p%4+1))*c:=by
    obtain⟨c,hc⟩:=f2;exact⟨c,by rw[hc,Ov]⟩
   refine gc ?_;refine cU m 16 aB (by kernel_rfl) ?_;simp only[zy];refine aI aH (aI aH ?_);simp only[zz];refine aI (jD O O (by omega) (tH (n:=4) (by omega))) ?_;simp only[zz];refine aI (aF fM cJ O O (by omega) (by omega) (fK (show _=p / 4 by omega))) ?_;simp only[zz];refine ql O (fun u m=>(lies1 ((m.b 0 O).word (show p / 4<os.length by omega)) lX)) ?_;simp only[zz];refine dZ 3 [1] ?_;simp only[↓aD,yP,acW,aa];refine aI ((oJ pC O O (by omega) (by rw[ah];exact hb))) (aI (jE lJ Ys O (wO (by omega) (by omega))) (aI aH ?_));simp only[zz];refine aI (cP O O (by omega) (pR (n:=4))) (aI (lE O O ((bP (by omega) (by omega)).trans (show (8:Int)*((p%4:Nat):Int)=((8*(p%4):Nat):Int) by omega))) ?_);simp only[zz];refine aI (qN O O (by omega) (akW (n:=8*(p%4)) (by omega) (by omega))) (aI (arG O O ((akX (s:=8*(p%4+1)) (a:=b.toNat*2^(8*(p%4))) (b:=os[p / 4]) f5 f6 (by omega)).trans (show (((b.toNat*2^(8*(p%4)))+os[p / 4]:Nat):Int)=((os[p / 4]+b.toNat*2^(8*(p%4)):Nat):Int) by omega))) ?_);simp only[zz];refine aI (aF fM cJ O O (by omega) (by omega) (fK (show _=p / 4 by omega))) (bC ?_);intro u m;simp only[zz];refine dB m 0 O O O cJ (by simp;omega) ⟨rfl,rfl⟩ ?_;intro u m;simp only[zz] at m ;rw[mV (by omega)] at m;refine aM ?_;apply aU 5 [0] m;simp only[↓aD];refine⟨by omega,?_⟩;rw[show ((i:Int)+1)=((i+1:Nat):Int) by omega];exact hK1 (s.size-(i+1)) _ _ (by omega) (by kernel_rfl) ⟨i+1,os.set (p / 4) (os[p / 4]+b.toNat*2^(8*(p%4))),O,m,by omega,by simpa using hlo,hd.set f1,by rw[show s.size-(i+1)=p by omega];exact f3,by rw[show s.size-(i+1)=p by omega];exact f4,O⟩
  ·
   apply aK 2 [] m;simp only[↓aD];obtain rfl:i=s.size:=by omega
   apply aU 2 [0] m;simp only[↓aD];refine cQ m O O (Lo _ ((m.b 0 O).nat hd (by omega) (by omega))) ?_;rintro v u m rfl;apply aL 3 [] m;simp only[↓aD];exact aT O O ⟨_,O,m.ext,qU.of_trim ((m.b 0 O).nat hd (n:=K) (by omega) (by omega)) (by rw[hv,Nat.sub_self,Nat.pow_zero,Nat.one_mul,mi];rfl)⟩
end Go.Proofs.YtfekpcimgncioaaGreatDoor
namespace Go.Proofs.YtfekpcimgncioaaGreatDoor
open Go.Proofs.Tryz
open Go.RowKit Go.Lith
attribute [local go_sem] pu
variable{n₀ Bs:Nat}
def nB(n₀ Bs:Nat)(W W':aj):Prop:=Below n₀ W W'∧W'.heap[Bs]? = W.heap[Bs]?
theorem nB.refl(n₀ Bs:Nat)(W:aj):nB n₀ Bs W W:=⟨Below.refl _ _,rfl⟩
theorem nB.trans{A B C:aj}(h:nB n₀ Bs A B)(k:nB n₀ Bs B C):nB n₀ Bs A C:=⟨h.1.trans k.1,k.2.trans h.2⟩
theorem nB.box{A B:aj}(h:nB n₀ Bs A B){v:ai}(hc:A.cell? ⟨Bs,0,none⟩=some v):B.cell? ⟨Bs,0,none⟩=some v:=(World.cell?_of_block h.2).trans hc
set_option maxRecDepth 100000 in
theorem ajj(F:Fence)(n:Nat)(h7:F.fn 314)(hro:F.round=none)(hn:1≤n)(l Bs n₀ cap:Nat)(a:Addr)(xs:List Nat)(hreach:xs.length*8≤140737488351232)(hb:a.block<n₀)(J Jx:List (Nat × Nat)→aj→Prop)
 (hY:∀pre x W,J pre W→pre.length<xs.length→YieldAt F (n-1) prog l #[.int .i64 (x.1:Int),.int .u64 (x.2:Int)] W fun e W' =>
  (e=.returned (.bool true)∧J (pre++[x]) W'∧nB n₀ Bs W W')∨(e=.returned (.bool false)∧Jx (pre++[x]) W'))
 (W:aj) (hBs:W.cell? ⟨Bs,0,none⟩=some (.slice (some a) xs.length cap)) (hc:∀j (h:j<xs.length),W.cell? (a.add j)=some (.int .u64 (xs[j]:Nat))) (h0:J [] W) :
 CallsIn F n prog 314 #[.func (.yield l) #[] #[],.pointer (some ⟨Bs,0,none⟩)] W fun e W'=>(∃v,e=.returned v) ∧
  ((∃ys:List (Nat × Nat),ys.map pc=xs.reverse∧J ys W')∨(∃pre,True∧Jx pre W')):=by
 refine callsIn_of_wp func314 O h7 ?_ hro;simp only[ntmps314,gi,aw,bn,aa,ke,ia,ib,i_,ip,b_,cj]
 gi_wp2
 gi_loopw [3] (fun i wr=>∃(k:Nat) (pre:List (Nat × Nat)),k≤xs.length∧i=.int .i64 ((k:Int)-1)∧pre.length=xs.length-k∧pre.map pc=(xs.drop k).reverse∧J pre wr∧nB n₀ Bs W wr)
  (fun i _=>(intOf i+1).toNat)
 case atStart=>exact⟨xs.length,[],av _,rfl,by simp,by simp,h0,nB.refl _ _ _⟩
 case round =>
  obtain⟨k,pre,hk,rfl,hpl,hpre,hJs,hnx⟩:=hrel;have hBw:wr.cell? ⟨Bs,0,none⟩=some (.slice (some a) xs.length cap):=hnx.box hBs;by_cases hk0:0<k
  · have hlt:k-1<xs.length:=by omega
    have hcx:wr.cell? (a.add (k-1))=some (.int .u64 ((xs[k-1]:Nat):Int)):=(hnx.1.cell (by rw[Db];exact hb)).trans (hc _ hlt);obtain⟨fn,tmps,assign,body,hy,hR⟩:=hY pre (k-1,xs[k-1]) wr hJs (by omega);dsimp only at hy;obtain⟨j,rfl⟩:∃j,k=j+1:=⟨k-1,by omega⟩
    rw[show (((j+1:Nat):Int)-1)=(j:Int) by omega];simp only[Nat.add_sub_cancel] at hy hR hcx hlt
    gi_wp2
    refine hR.mono ?_;rintro e W3 (⟨rfl,hJ3,hk3⟩ | ⟨rfl,hJx3⟩)
    · gi_wp2
      go_roundw
      case rel=>exact⟨j,pre++[(j,xs[j])],by omega,by simp,by simp;omega,by rw[List.drop_eq_getElem_cons hlt,List.reverse_cons,cv,hpre];rfl,hJ3,hnx.trans hk3⟩
      case measure=>simp[intOf]
    · gi_wp2
      refine bodyPost_ret (results_none O _ _ _) O ?_;exact⟨⟨_,O⟩,.inr ⟨_,trivial,hJx3⟩⟩
  · obtain rfl:k=0:=by omega
    gi_wp2
    go_end0
    exact⟨⟨_,O⟩,.inl ⟨pre,by rw[hpre];rfl,hJs⟩⟩
set_option maxRecDepth 100000 in
theorem Zi(F:Fence)(n:Nat)(h7:F.fn 314)(hro:F.round=none)(l Bs cap:Nat)(A:Option Addr)(J:List (Nat × Nat)→aj→Prop)(W:aj)(hBs:W.cell? ⟨Bs,0,none⟩=some (.slice A 0 cap))(h0:J [] W) :
 CallsIn F n prog 314 #[.func (.yield l) #[] #[],.pointer (some ⟨Bs,0,none⟩)] W fun e W'=>(∃v,e=.returned v)∧J [] W':=by
 refine callsIn_of_wp func314 O h7 ?_ hro;simp only[ntmps314,gi,aw,bn,aa,ke,ia,ib,i_,ip,b_,cj]
 gi_wp2
 gi_loopw [3] (fun i wr=>i=.int .i64 (-1)∧J [] wr) (fun _ _=>0)
 case atStart=>exact⟨rfl,h0⟩
 case round =>
  obtain⟨rfl,hJs⟩:=hrel
  gi_wp2
  go_end0
  exact⟨⟨_,O⟩,hJs⟩
theorem aml(F:Fence)(n:Nat)(h5:F.fn 257)(hro:F.round=none)(a:Option Addr)(len cap:Nat)(w:aj) :
 CallsIn F n prog 257 #[.slice a len cap] w fun e w'=>e=.returned (.func (.func 314) #[] #[.pointer (some ⟨w.heap.size,0,none⟩)])∧w'=w.alloc (.cells #[.slice a len cap] 233):=by
 refine callsIn_of_wp func257 O h5 ?_ hro;simp only[ntmps257,gi,aw,bn,aa,ke,ia,ib,i_,ip,b_,cj]
 gi_wp2
 go_ret
 exact⟨O,O⟩
theorem adj(F:Fence)(n:Nat)(h7:F.fn 314)(hro:F.round=none)(hn:1≤n)(Bs n₀ cap:Nat)(A:Option Addr)(xs:List Nat)(hreach:xs.length*8≤140737488351232)(w:aj)(hBs:Bs<w.heap.size)(hn₀:n₀≤w.heap.size)
 (hc:w.cell? ⟨Bs,0,none⟩=some (.slice A xs.length cap)) (hI:∀(i x:Nat),xs[i]? = some x→∃a,A=some a∧w.cell? (a.add i)=some (.int .u64 (x:Int))) (hA:∀a,0<xs.length→A=some a→a.block<n₀) :
 SeqStopsK F n prog 314 #[.pointer (some ⟨Bs,0,none⟩)] (fun x:Nat × Nat=>#[Value.int .i64 (x.1:Int),Value.int .u64 (x.2:Int)]) (nB n₀ Bs) (fun ys=>ys.map pc=xs.reverse) (fun _=>True) xs.length w:=fun l J Jx W hW _ _ hY h0=>by
 have hc':=(hW.cell (p:=⟨Bs,0,none⟩) hBs).trans hc;rcases Nat.eq_zero_or_pos xs.length with h | h
 · obtain rfl:xs=[]:=List.eq_nil_of_length_eq_zero h
   exact (Zi F n h7 hro l Bs cap A J W hc' h0).mono fun e W' ⟨he,hj⟩=>⟨he,.inl ⟨[],O,hj⟩⟩
 · obtain⟨a,rfl,_⟩:=hI 0 xs[0] (am h)
   refine ajj F n h7 hro hn l Bs n₀ cap a xs hreach (hA a h O) J Jx hY W hc' (fun j hj=>?_) h0;obtain⟨a',e,hcl⟩:=hI j xs[j] (am hj);cases e;exact (hW.cell (by rw[Db];exact gg (hA a h O) hn₀)).trans hcl
theorem apk{A:Option Addr}{n cap:Nat}(w:aj):dA prog 257 [.slice A n cap] w (fun v w'=>∃g,v=.func (.func 314) #[] #[.pointer (some ⟨g,0,none⟩)]∧w.heap.size≤g∧fR w' g [.slice A n cap] 233):=by
 refine⟨bJ func257 (by kernel_rfl),(callsIn_wide (n:=2)).1 ((aml Fence.wide 2 trivial O A n cap w).mono ?_)⟩;rintro e w' ⟨rfl,rfl⟩;exact⟨_,O,(fQ.refl w).alloc _,_,O,av _,jQ w _ _⟩
end Go.Proofs.YtfekpcimgncioaaGreatDoor
namespace Go.Proofs.YtfekpcimgncioaaGreatDoor
open Go.Proofs.Tryz
open Go.RowKit Go.Lith
set_option maxRecDepth 100000
attribute [local irreducible] ar cl fU Code.wp
attribute [local go_sem] pu
theorem amm:(prog.info? 5).map (fun i=>(i.zero,i.size,i.bytes))=some (some (.int .u8 0),1,1):=by kernel_rfl
theorem Sc{W w1:aj}{tmp:Obj}{v v':ai}{base size k g g3:Nat}{e t:az}{xs cs:List ai}(hB:fR W g cs t)(hte:t≠e)(hr:W.ownsRow base e size v k xs)(hg:(W.alloc tmp).grownBy w1 v.ownBlock)(hne:g≠g3):(w1.setCell ⟨g3,0,none⟩ v').heap[g]? = W.heap[g]?:=by
 have h1:some g≠v.ownBlock:=by
  rcases hr.2 with ⟨rfl,_⟩ | ⟨g',cap,cur,rfl,_,hgb,_⟩
  · simp[Value.ownBlock]
  ·
   intro h;obtain rfl:g=g':=by simpa[Value.ownBlock] using h
   rw[hB] at hgb;cases hgb;exact hte O
 exact ((Below.heap_setCell w1 ⟨g3,0,none⟩ v' g hne).trans (hg.block g (by simp;have:=hB.lt;omega) h1)).trans (Below.heap_alloc W tmp g hB.lt)
theorem Gj{A:Option Addr}{xs:List Nat}{na cap:Nat}{neg:Bool}(w:aj)(hS:lI w A na cap xs)(hl:xs.length≤100000000000):dA prog 184 [.slice A na cap,.bool neg] w (fun v _=>v=W (Tg neg (val 4294967296 xs))):=by
 skip
 refine⟨bJ func184 (by kernel_rfl),?_⟩;have hX:=fQ.refl w;obtain rfl:=hS.eq;have hlt:=uB xs;have hle:=hS.le;refine (callsIn_wide (n:=4)).1 (callsIn_of_wp_marks func184 O trivial ?_ O);simp only[ntmps184,gi,aw,bn,aa,ke,ia,ib,i_,ip,b_,cj];refine wpIn_wide.2 (bG (fun K1 hK1=>ao ?_));refine Cz yF O ?_;intro w1 g1 hE hg1 hB1;have hG1:=ba hX.size hg1;replace hX:=hX.trans hE;clear hE hg1;simp only[zz];refine aM (hK1 _ _ ?_);refine bG (fun K2 hK2=>ao (aC aH ?_));simp only[zz];refine bH O O (Lo _ (hS.ext hX)) ?_;rintro v w2 hE rfl;replace hB1:=hB1.ext hE;replace hX:=hX.trans hE;clear hE;simp only[zz];refine aC aO ?_;simp only[zz];refine aM ?_;obtain⟨ys,hys⟩:∃ys,ys=trim xs:=⟨_,rfl⟩
 rw[←hys] at hlt ⊢;refine hK2 _ _ (bG (fun K3 hK3=>ao (aC aH (aC (Jw O fM O) (aC (lE O O (bP (by omega) (by omega))) ?_)))));simp only[zz];refine tE oM Uu O O O (show _=0 by omega) (show _=4*ys.length by omega) (by omega) (by omega) (by omega) (by omega) ?_;intro w3 g2 hE hg2 hB2;have hG2:=ba hX.size hg2;have hN2_1:g2≠g1:=ku (gg hB1.lt hg2);replace hB1:=hB1.ext hE;replace hX:=hX.trans hE;clear hE hg2;simp only[zz];refine Cz ahD O ?_;intro w4 g3 hE hg3 hB3;have hG3:=ba hX.size hg3;have hN3_1:g3≠g1:=ku (gg hB1.lt hg3);have hN3_2:g3≠g2:=ku (gg hB2.lt hg3);replace hB1:=hB1.ext hE;replace hB2:=hB2.ext hE;replace hX:=hX.trans hE;clear hE hg3;simp only[zz];refine xR O (by simp only[zz];rfl) (by exact afi) hB3 (by simp) (by simp[oy]) ?_;clear hB3;intro w5 hC hB3;replace hB1:=hB1.chg hC (by first | exact hN1_3 | exact Ne.symm hN3_1);replace hB2:=hB2.chg hC (by first | exact hN2_3 | exact Ne.symm hN3_2);replace hX:=hX.chg hC hG3;clear hC;simp only[zy,zx,over,aa] at hB3;refine aM (hK3 _ _ ?_);refine bG (fun K4 hK4=>bG (fun K5 hK5=>ao (aC aH ?_)));simp only[zz];refine bH O O (apk _) ?_;rintro v w6 hE ⟨g4,rfl,hg4,hB4⟩;have hG4:=ba hX.size hg4;have hN4_1:g4≠g1:=ku (gg hB1.lt hg4);have hN4_2:g4≠g2:=ku (gg hB2.lt hg4);have hN4_3:g4≠g3:=ku (gg hB3.lt hg4);replace hB1:=hB1.ext hE;replace hB2:=hB2.ext hE;replace hB3:=hB3.ext hE;replace hX:=hX.trans hE;clear hE hg4;simp only[zz];refine aM (hK5 _ _ ?_);refine wp_block ((wpIn_wide (n:=4)).1 ?_);have hbase:w.heap.size≤w6.heap.size:=hX.size;obtain⟨n0,hn0⟩:∃n0,n0=w.heap.size:=⟨_,rfl⟩
 have hT:lI w6 A ys.length cap ys:=(((hS.ext hX).take (trim xs).length).as (kY xs).symm |> fun h=>by rw[←kY,←hys] at h;exact h)
 have hA:∀a,0<ys.length→A=some a→a.block<w.heap.size:=fun a h0 e=>by
  obtain⟨a',e',hc⟩:=hS.row 0 (xs[0]'(by omega)) (am (by omega));rw[e] at e';cases e';have:=World.block_lt_of_cell? _ _ hc;rwa [Db] at this
 refine wpIn_rangeFunc_ownG (F:=Fence.wide) O (by omega) (gf:=314) (lb:=#[.pointer (some ⟨g4,0,none⟩)]) O trivial (enters_of func314 (by kernel_rfl) O)
  (adj Fence.wide 3 trivial rfl (by omega) g4 w.heap.size cap A ys (by omega) w6 hB4.lt hX.size (hB4.cell rfl) hT.row hA) nB.trans (fun W l o o' hl ho _ _=>⟨belowK_b (w:=w6) hX.size W l o o' hl ho ‹_› ‹_›,World.putObj_heap_other (by have:=hB4.lt;omega)⟩) (Below.refl _ _) (fun _=>rfl)
  (fun pre W=>((∃v,Boxed W g3 300 v∧W.ownsRow w.heap.size 5 1 v (wbs pre).length ((wbs pre).map u8v)∧True)∧fR W g1 [.bool false,.string ⟨#[]⟩] 95∧fR W g4 [.slice A ys.length cap] 233)∧Below w.heap.size w W)
  (fun _ _ _=>False)
  (OwnFrom.and (OwnFrom.and (Own.from (holdsRow_own w.heap.size g3 300 5 1 (fun pre=>(wbs pre).length) (fun pre=>(wbs pre).map u8v) (fun _ _=>True)) _) (Own.from (fun s X Y row hs hg hr=>⟨(grownBy_keeps_cells hg hr hs.1 rfl).trans hs.1,(grownBy_keeps_cells hg hr hs.2 rfl).trans hs.2⟩) _)) (ownFrom_below (av _) hX.size))
  (fun _ _ _ _ _ hs _ _=>hs)
  ⟨⟨⟨_,hB3,⟨rfl,.inr ⟨g2,4*ys.length,_,rfl,hG2,hB2,bw _,by show _≤9223372036854775807;omega,by simp,by simp[wbs]⟩⟩,trivial⟩,hB1,hB4⟩,hX⟩
  (fun x=>{ tmps:=#[.slice A ys.length cap,.bool neg,undef,undef,.pointer (some ⟨g1,0,none⟩),.pointer (some ⟨g3,0,none⟩),undef,.int .u64 (x.2:Int),undef,.slice A xs.length cap,.slice A ys.length cap,.slice A ys.length cap,.int .i64 (ys.length:Int),.int .i64 (4*(ys.length:Int)),.slice (some ⟨g2,0,none⟩) 0 (4*ys.length),.slice A ys.length cap,.func (.func 314) #[] #[.pointer (some ⟨g4,0,none⟩)],.int .i64 (x.1:Int),.int .u64 (x.2:Int),undef,undef,undef,undef,undef,undef,undef,undef,undef,undef,undef,undef,undef,undef,undef,undef,undef,undef,undef,undef,undef,undef,undef,undef],defers:=[] }) ?assign ?body ?done ?stop
 case assign =>
  intro l x W K hK;clear hys
  gi_wp2
  exact hK
 case stop =>
  rintro D c pre W _ _ h _;exact h.elim
 case body =>
  rintro l pre x W ⟨⟨⟨v,hv,hrow,_⟩,hB1',hB4'⟩,hB⟩ hlt;have hc:=hv.cell;have hwl:(wbs pre).length≤4*pre.length:=Nat.le_of_eq (Pa pre);clear hys;obtain⟨i0,hi,hz0,hz1,hz2⟩:=info_parts amm
  gi_wp2_with (gi_at_builtin;refine wpListIn_append_own _ O _ _ 300 O w.heap.size 5 i0 (.int .u8 0) 1 1 oM hi hz0 hz1 hz2 O (by decide) _ _ _ O (hrow.alloc _) ⟨W.heap.size,0,none⟩ 4 4 [.int .u8 ((x.2:Int) / 16777216%256),.int .u8 ((x.2:Int) / 65536%256),.int .u8 ((x.2:Int) / 256%256),.int .u8 ((x.2:Int)%256)] O O ((jQ W _ 5).row 0) (by simp[oy]) (by show _≤9223372036854775807;omega) (by omega) (by have:=hB.size;simp;omega) ?_;intro v' w1 hown' hgrow _;obtain⟨g',cap',rfl⟩:=ownsRow_succ hown';obtain⟨hv1,hv2,hr2,hk2,hb2⟩:=hv.appended (by decide) hrow hB.size hG3 hown' hgrow;have hc1:=hv1.cell;have hf1:=hv1.frozen)
  have e1:=Sc hB1' (by decide) hrow hgrow (Ne.symm hN3_1) (v':=.slice (some ⟨g',0,none⟩) ((wbs pre).length+3+1) cap');have e4:=Sc hB4' (by decide) hrow hgrow hN4_3 (v':=.slice (some ⟨g',0,none⟩) ((wbs pre).length+3+1) cap');refine⟨hk2.from _,⟨hb2,e4⟩,⟨⟨_,hv2,?_,trivial⟩,e1.trans hB1',e4.trans hB4'⟩,hB.trans hb2⟩;rw[ag1,au,cv];have e:(wb x.2).map u8v=[.int .u8 ((x.2:Int) / 16777216%256),.int .u8 ((x.2:Int) / 65536%256),.int .u8 ((x.2:Int) / 256%256),.int .u8 ((x.2:Int)%256)]:=by simp[wb,UInt8.toNat_ofNat']
  rw[e];exact hr2
 rintro D ls W hD hls ⟨⟨⟨v,hv,hrow,_⟩,hB1',_⟩,hX'⟩ hK';replace hD:=ba hX.size hD;clear hB1 hB2 hB3 hB4 hX hG2 hG4 hN2_1 hN3_2 hN4_1 hN4_2 hN4_3 hbase hT;have hB1:=hB1';have hB3:fR W g3 [v] 300:=hv;have hX:fQ w W:=hX';have hK:Def W D:=⟨hK'⟩
 have hDg1:=hK.ne hB1;have hlb:(wbs ls).length≤1000000000000000:=by
  have:=congrArg List.length hls;rw[ct,List.length_reverse] at this;rw[Pa];omega
 have hbs:nM (jR (wbs ls))=kK (Tg neg (val 4294967296 xs)):=by
  have e:wbs ls=ys.reverse.flatMap wb:=by rw[←hls,List.flatMap_map];rfl
  have hd:eO 4294967296 ys:=by rw[hys];exact hS.digs.trim
  rw[e,ab9 hd neg,hys,Hb]
 dsimp only;refine hK4 _ _ (bG (fun K6 hK6=>ao ?_));refine aS O (hB3.lies1 alm O) ?_;simp only[zz];refine fO (Oz oM Ys pC O hrow) ?_;simp only[zz];refine Xc O O (adi hlb) ?_;intro w7 hE;replace hB1:=hB1.ext hE;(try replace hK:=hK.ext hE);replace hX:=hX.trans hE;clear hE;simp only[zz];refine aC aO ?_;simp only[zz];refine aM ?_;rw[hbs];refine hK6 _ _ (bG (fun K7 hK7=>?_));cases neg
 ·
  refine ao (aC aH (aC aH ?_));simp only[zz];refine pH O ?_;simp only[zz];refine pH O ?_;simp only[zz];refine aC (Da O) (aC aH (aC (Bq O O) ?_));simp only[zz];refine xR O (by simp only[zz];rfl) (by exact aR) hB1 (by simp) (by simp[oy]) ?_;clear hB1;intro w8 hC hB1
  (try replace hK:=hK.chg hC (by first | assumption | rfl));replace hX:=hX.chg hC hG1
  clear hC;simp only[zy,zx,over,aa] at hB1;refine aM (hK7 _ _ ?_);refine wp_ret ?_;try simp only[cw,Exit.then]
  refine ab8 hK ?_;replace hB1:=hB1.putD hK (o:=.deferred none);replace hX:=hX.putD hD (o:=.deferred none);refine aT O ⟨_,O,(hB1.lies cM aR O O)⟩ ?_;try simp only[zD,zE]
  exact⟨_,O,hX,by simp[Lith.W,Xl,Pb]⟩
 ·
  refine ao (aC aH (aC aH ?_));simp only[zz];refine eB O (aC aH ?_);simp only[zz];refine eB O (aC (anR pC O O) (aC (rH O) (aC aH ?_)));simp only[zz];refine aC (Bq O O) ?_;simp only[zz];refine xR O (by simp only[zz];rfl) (by exact aR) hB1 (by simp) (by simp[oy]) ?_;clear hB1;intro w8 hC hB1
  (try replace hK:=hK.chg hC (by first | assumption | rfl));replace hX:=hX.chg hC hG1
  clear hC;simp only[zy,zx,over,aa] at hB1;refine aM (hK7 _ _ ?_);refine wp_ret ?_;try simp only[cw,Exit.then]
  refine ab8 hK ?_;replace hB1:=hB1.putD hK (o:=.deferred none);replace hX:=hX.putD hD (o:=.deferred none);refine aT O ⟨_,O,(hB1.lies cM aR O O)⟩ ?_;try simp only[zD,zE]
  exact⟨_,O,hX,by simp[Lith.W,Xl,Pb]⟩
end Go.Proofs.YtfekpcimgncioaaGreatDoor
namespace Go.Proofs.YtfekpcimgncioaaGreatDoor
open Go.Proofs.Tryz
open Go.RowKit Go.Lith
set_option maxRecDepth 100000
attribute [local irreducible] ar cl fU bS cO Code.wp
attribute [local congr] pD gF gG gH gI gJ kL gK gL gM gN gQ gR gS gT gU gV gW eU eV gX gY iA iB iC kN dF dG cW dD gZ kM eW eX eY iD iE kO
variable{a:Int}
theorem Lp(ha:Bd 1000000 a):dS prog 191 [W a] (.int .i64 (bB a)):=by
 intro w;refine⟨bJ func191 (by kernel_rfl),?_⟩;have m:=Mem.refl w
 go_enter func191,ntmps191
 apply iY 10 [0,0] m;simp only[↓aD,fL];intro g1 u m;refine bH O O (Wj _ (kV ha)) ?_;rintro v u e_ ⟨A1,c1,rfl,hN1⟩;replace m:=m.ext' e_;simp only[zz];rw[kS] at hN1 ⊢;apply aL 4 [0,0] m;simp only[↓aD,kG];refine bD O ?_ ?_<;>intro hc1
 ·
  have h0:=adW.1 hc1;apply aK 5 [] m;simp only[↓aD];refine aT O O ?_;try simp only[zD,zE]
  exact⟨_,O,m.ext,by rw[h0];rfl⟩
 ·
  apply aK 6 [0,0] m;simp only[↓aD,mP,Im,aa];refine gE O ?_ ?_<;>intro hc2
  ·
   have hn:=Kc hc2;apply aK 5 [] m;simp only[↓aD];refine aT O O ?_;try simp only[zD,zE]
   exact⟨_,O,m.ext,by rw[De hn]⟩
  ·
   have hn:=Fp hc2;have h0:¬a=0:=fun e=>hc1 (adW.2 e);apply aK 7 [] m;simp only[↓aD];refine aT O O ?_;try simp only[zD,zE]
   exact⟨_,O,m.ext,by rw[Df (by omega)]⟩
theorem aqU(ha:Bd 1000000 a):dS prog 267 [W a] (W (-a)):=by
 intro w;refine⟨bJ func267 (by kernel_rfl),?_⟩;have m:=Mem.refl w
 go_enter func267,ntmps267
 apply iY 6 [0] m;simp only[↓aD,nA];intro g1 g2 u m;refine mh m [false,true] [(2,true),(0,true),(3,true),(4,true),(1,false),(5,false),(6,false)] aB (by kernel_rfl) (bQ (fun _ _ _ _ _ h=>h)) (ol:=?_) ?hol ?_
 case hol=>simp only[zw,zQ,zR];try rfl
 intro u m;refine Hv 4 [0,0] ?_;simp only[↓aD,mP,fL,Im,aa];refine bL (bH O O (Wj _ (kV ha)) ?_);rintro v u e_ ⟨A1,c1,rfl,hN1⟩;replace m:=m.ext' e_;simp only[zz];rw[kS] at hN1 ⊢;refine aM ⟨m.sel [false,true],?_⟩;refine bL (bH O O (Gj _ hN1 (ba (Fq ha) (by decide))) ?_);rintro v u e_ rfl;replace m:=m.ext' e_;simp only[zz];simp only[iX];refine aM ⟨m.sel [false,true],?_⟩;refine bL (bN m 0 O O O aR (iK O) O ?_);intro u m;simp only[zy,zx,over,zF,zG,aa] at m;refine aM ⟨m.sel [false,true],?_⟩;refine bY ?_;rw[adT] at m;apply aU 1 [] m;simp only[↓aD];exact aT O ⟨_,O,((m.b 0 O).full cM aR)⟩ ⟨_,O,m.ext,O⟩
theorem Wk{b:Int}(ha:Bd 1000000 a)(hb:Bd 1000000 b):dS prog 121 [W a,W b] (W (a+b)):=by
 intro w;refine⟨bJ func121 (by kernel_rfl),?_⟩;have m:=Mem.refl w;have hla:=Fq ha;have hlb:=Fq hb;have hls:=Fq (Bd.add ha hb)
 go_enter func121,ntmps121
 apply iY 7 [0] m;simp only[↓aD,nA];intro g1 g2 g3 u m;refine mh m [true,true,true] [(0,true),(2,true),(1,false),(3,false),(4,true),(5,true)] aB (by kernel_rfl) (bQ (fun _ _ _ _ _ h=>h)) (ol:=?_) ?hol ?_
 case hol=>simp only[zw,zQ,zR];try rfl
 intro u m;refine Hv 2 [2,1] ?_;simp only[↓aD,fL];refine bL (bH O O (Wj _ (kV ha)) ?_);rintro v u e_ ⟨A1,c1,rfl,hN1⟩;replace m:=m.ext' e_;simp only[zz];rw[kS] at hN1 ⊢;refine aM ⟨m,?_⟩;refine bL (bH O O (Wj _ (kV hb)) ?_);rintro v u e_ ⟨A2,c2,rfl,hN2⟩;replace m:=m.ext' e_;replace hN1:=hN1.ext e_;simp only[zz];rw[kS] at hN2 ⊢;refine aM ⟨m,?_⟩;refine aZ aO (aZ aO (bY ?_));apply aU 8 [2,1,0] m;simp only[↓aD,mP,Im,aa];refine aC (agZ Pu O O) ?_;apply aL 2 [0] m;simp only[↓aD];refine bD O ?_ ?_<;>intro hc1
 ·
  apply aK 1 [0] m;simp only[↓aD];refine mhe m [false,true,true] [(0,true),(1,true),(3,true),(4,true),(2,false),(5,false),(6,false)] aB (by kernel_rfl) (bQ (fun _ _ _ _ _ h=>h)) (ol:=?_) ?hol ?_
  case hol=>simp only[zw,zQ,zR];try rfl
  intro u e_ m;replace hN1:=hN1.ext e_;replace hN2:=hN2.ext e_;refine Hv 4 [1] ?_;simp only[↓aD,mP,Im,aa];refine bL (bH O O (aqS _ hN1 hN2 (ba hla (by decide)) (ba hlb (by decide))) ?_);rintro v u e_ ⟨A3,c3,rfl,hN3⟩;replace m:=m.ext' e_;refine aM ⟨m.sel [false,true,true],?_⟩;refine bL ?_;simp only[zz];simp only[iX] at hN3 ⊢;have hl3:(digs 4294967296 (a.natAbs+b.natAbs)).length≤100000000000:=ba (ae7 ha hb) (by decide);refine bH O O (Gj _ hN3 hl3) ?_;rintro v u e_ rfl;replace m:=m.ext' e_;simp only[zz];simp only[iX];refine aM ⟨m.sel [false,true,true],?_⟩;refine bL (bN m 0 O O O aR (iK O) O ?_);intro u m;simp only[zy,zx,over,zF,zG,aa] at m;refine aM ⟨m.sel [false,true,true],?_⟩;refine bY ?_;rw[adU hc1] at m;apply aU 1 [] m;simp only[↓aD];exact aT O ⟨_,O,((m.b 0 O).full cM aR)⟩ ⟨_,O,m.ext,O⟩
 ·
  apply aK 4 [0] m;simp only[↓aD];refine bH O O (aqR _ hN1 hN2 (Ba _) (Ba _)) ?_;rintro v u e_ rfl;replace m:=m.ext' e_;replace hN1:=hN1.ext e_;replace hN2:=hN2.ext e_;simp only[zz];simp only[iX];apply aL 3 [0,0] m;simp only[↓aD];refine bD O ?_ ?_<;>intro hc2
  ·
   have hlt:=Ou.1 hc2;apply aK 1 [0] m;simp only[↓aD];refine mhe m [false,true,true] [(0,true),(1,true),(3,true),(4,true),(2,false),(5,false),(6,false)] aB (by kernel_rfl) (bQ (fun _ _ _ _ _ h=>h)) (ol:=?_) ?hol ?_
   case hol=>simp only[zw,zQ,zR];try rfl
   intro u e_ m;replace hN1:=hN1.ext e_;replace hN2:=hN2.ext e_;refine Hv 4 [0] ?_;simp only[↓aD,mP,Im,aa];refine bL (bH O O (ano _ hN2 hN1 (Xm (Nat.le_of_lt hlt)) (by simp only[iX];omega) (ba hlb (by decide))) ?_);rintro v u e_ ⟨⟨A3,c3,rfl,hN3⟩,_⟩;replace m:=m.ext' e_;simp only[zz];simp only[iX] at hN3 ⊢;have hl3:=Xm (Nat.sub_le b.natAbs a.natAbs);refine aM ⟨m.sel [false,true,true],?_⟩;refine bL (bH O O (Gj _ hN3 (ba hl3 (ba hlb (by decide)))) ?_);rintro v u e_ rfl;replace m:=m.ext' e_;simp only[zz];simp only[iX];refine aM ⟨m.sel [false,true,true],?_⟩;refine bL (bN m 0 O O O aR (iK O) O ?_);intro u m;simp only[zy,zx,over,zF,zG,aa] at m;refine aM ⟨m.sel [false,true,true],?_⟩;refine bY ?_;rw[ag2 hc1 hlt] at m;apply aU 1 [] m;simp only[↓aD];exact aT O ⟨_,O,((m.b 0 O).full cM aR)⟩ ⟨_,O,m.ext,O⟩
  ·
   have hge:b.natAbs≤a.natAbs:=Nat.le_of_not_lt fun h=>hc2 (Ou.2 h);apply aK 3 [0] m;simp only[↓aD];refine mhe m [false,true,true] [(0,true),(1,true),(3,true),(4,true),(2,false),(5,false),(6,false)] aB (by kernel_rfl) (bQ (fun _ _ _ _ _ h=>h)) (ol:=?_) ?hol ?_
   case hol=>simp only[zw,zQ,zR];try rfl
   intro u e_ m;replace hN1:=hN1.ext e_;replace hN2:=hN2.ext e_;refine Hv 4 [1] ?_;simp only[↓aD,mP,Im,aa];refine bL (bH O O (ano _ hN1 hN2 (Xm hge) (by simp only[iX];omega) (ba hla (by decide))) ?_);rintro v u e_ ⟨⟨A3,c3,rfl,hN3⟩,_⟩;replace m:=m.ext' e_;simp only[zz];simp only[iX] at hN3 ⊢;have hl3:=Xm (Nat.sub_le a.natAbs b.natAbs);refine aM ⟨m.sel [false,true,true],?_⟩;refine bL (bH O O (Gj _ hN3 (ba hl3 (ba hla (by decide)))) ?_);rintro v u e_ rfl;replace m:=m.ext' e_;simp only[zz];simp only[iX];refine aM ⟨m.sel [false,true,true],?_⟩;refine bL (bN m 0 O O O aR (iK O) O ?_);intro u m;simp only[zy,zx,over,zF,zG,aa] at m;refine aM ⟨m.sel [false,true,true],?_⟩;refine bY ?_;rw[ag3 hc1 hge] at m;apply aU 1 [] m;simp only[↓aD];exact aT O ⟨_,O,((m.b 0 O).full cM aR)⟩ ⟨_,O,m.ext,O⟩
theorem Fg{b:Int}(ha:Bd 1000000 a)(hb:Bd 1000000 b):dS prog 192 [W a,W b] (W (a-b)):=by
 intro w;refine⟨bJ func192 (by kernel_rfl),?_⟩;have m:=Mem.refl w
 go_enter func192,ntmps192
 apply iY 7 [0] m;simp only[↓aD,nA];intro g1 g2 g3 u m;refine cU m 4 aB (by kernel_rfl) ?_;simp only[zy];refine ql O (fun u m=>((m.b 2 O).full cM aR)) ?_;simp only[zz];refine ql O (fun u m=>((m.b 1 O).full cM aR)) ?_;simp only[zz];refine fD O O (aqU hb) ?_;simp only[zz];refine fD O O (Wk ha hb.neg) (bC ?_);intro u m;simp only[zz];refine bN m 0 O O O aR (iK O) O ?_;intro u m;simp only[zy,zx,over,zF,zG,aa] at m;refine aM ?_;rw[←Int.sub_eq_add_neg] at m;apply aU 1 [] m;simp only[↓aD];exact aT O ⟨_,O,((m.b 0 O).full cM aR)⟩ ⟨_,O,m.ext,O⟩
theorem sZ{b:Int}(ha:Bd 1000000 a)(hb:Bd 1000000 b):dS prog 122 [W a,W b] (W (a*b)):=by
 intro w;refine⟨bJ func122 (by kernel_rfl),?_⟩;have m:=Mem.refl w;have hla:=Fq ha;have hlb:=Fq hb;have hls:=Fq (Bd.mul ha hb)
 go_enter func122,ntmps122
 apply iY 7 [0] m;simp only[↓aD,nA];intro g1 g2 g3 u m;refine mh m [false,true,true] [(5,true),(7,true),(0,true),(2,true),(6,true),(8,true),(9,true),(1,false),(3,false),(4,false),(10,false),(11,false)] aB (by kernel_rfl) (bQ (fun _ _ _ _ _ h=>h)) (ol:=?_) ?hol ?_
 case hol=>simp only[zw,zQ,zR];try rfl
 intro u m;refine Hv 6 [1,0,1,0] ?_;simp only[↓aD,mP,fL,Im,aa];refine aZ (Kb Pu O O) (bL ?_);simp only[zz];refine bH O O (Wj _ (kV ha)) ?_;rintro v u e_ ⟨A1,c1,rfl,hN1⟩;replace m:=m.ext' e_;simp only[zz];rw[kS] at hN1 ⊢;refine aM ⟨m.sel [false,true,true],?_⟩;refine bL (bH O O (Wj _ (kV hb)) ?_);rintro v u e_ ⟨A2,c2,rfl,hN2⟩;replace m:=m.ext' e_;replace hN1:=hN1.ext e_;simp only[zz];rw[kS] at hN2 ⊢;refine aM ⟨m.sel [false,true,true],?_⟩;refine bL (bH O O (aqT _ hN1 hN2 (ba hla (by decide)) (ba hlb (by decide))) ?_);rintro v u e_ ⟨A3,c3,rfl,hN3⟩;replace m:=m.ext' e_;simp only[zz];simp only[iX] at hN3 ⊢;rw[←Int.natAbs_mul] at hN3 ⊢;refine aM ⟨m.sel [false,true,true],?_⟩;refine bL (bH O O (Gj _ hN3 (ba hls (by decide))) ?_);rintro v u e_ rfl;replace m:=m.ext' e_;simp only[zz];simp only[iX];refine aM ⟨m.sel [false,true,true],?_⟩;refine bL (bN m 0 O O O aR (iK O) O ?_);intro u m;simp only[zy,zx,over,zF,zG,aa] at m;refine aM ⟨m.sel [false,true,true],?_⟩;refine bY ?_;rw[Int.natAbs_mul,adV] at m;apply aU 1 [] m;simp only[↓aD];exact aT O ⟨_,O,((m.b 0 O).full cM aR)⟩ ⟨_,O,m.ext,O⟩
theorem aqV{b:Int}(ha:Bd 900000 a)(hb:Bd 900000 b):dS prog 126 [W a,W b] (.int .i64 (bB (a-b))):=by
 intro w;refine⟨bJ func126 (by kernel_rfl),?_⟩;have m:=Mem.refl w
 go_enter func126,ntmps126
 apply iY 10 [1,0,0] m;simp only[↓aD,fL];intro g1 g2 u m;refine lD m O O (Fg (ha.mono (by decide)) (hb.mono (by decide))) ?_;intro u m;simp only[zz];refine nF m O O (Lp ((Bd.sub ha hb).mono (by decide))) 3 [] ?_;simp only[↓aD];intro u m;exact aT O O ⟨_,O,m.ext,O⟩
theorem qD{n:Int}(h:rT n):dS prog 118 [.int .i64 n] (W n):=by
 intro w;refine⟨bJ func118 (by kernel_rfl),?_⟩;have m:=Mem.refl w;have hna:=h.natAbs
 go_enter func118,ntmps118
 apply iY 5 [] m;simp only[↓aD,nA];intro g1 u m;rcases (show n<0∨0≤n by omega) with h0 | h0
 ·
  apply aU 2 [0] m;simp only[↓aD];refine aC (jE lJ jN O (adX h h0)) ?_;apply aL 11 [1,0] m;simp only[↓aD];refine⟨by omega,?_⟩;refine aC (tY O (Ul hna (by omega))) ?_;apply aL 5 [0] m;simp only[↓aD];refine aC (lQ O O (adQ (by omega))) ?_;apply aL 1 [0] m;simp only[↓aD];refine aC (lF O O (by omega) ab3) ?_;simp only[zz];refine aaq fM (z:=.int .u64 0) (by kernel_rfl) O O O O O ?_;intro u g2 e_ h_ k_;replace m:=m.newB e_ h_ k_;apply aL 2 [1,0] m;simp only[↓aD];refine⟨by omega,?_⟩;refine cQ m O O (Gj _ ((m.b 0 O).nat (os:=[n.natAbs%4294967296,n.natAbs / 4294967296]) (Pc (by omega)) O (by omega)) (by simp)) ?_;rintro v u m rfl;apply jS 3 [1] m;simp only[↓aD,fL,aa];intro u m;refine aT O ⟨_,O,((m.b 1 O).full cM aR)⟩ ?_;try simp only[zD,zE]
  exact⟨_,O,m.ext,by rw[Um,show true=fY n from (decide_eq_true h0).symm,Hg];rfl⟩
 ·
  apply aU 2 [0] m;simp only[↓aD];refine aC (jE lJ jN O (ag4 h h0)) ?_;apply aL 13 [2,0] m;simp only[↓aD];refine⟨by omega,?_⟩;refine aC (lQ O O (adQ (by omega))) ?_;apply aL 1 [0] m;simp only[↓aD];refine aC (lF O O (by omega) ab3) ?_;simp only[zz];refine aaq fM (z:=.int .u64 0) (by kernel_rfl) O O O O O ?_;intro u g2 e_ h_ k_;replace m:=m.newB e_ h_ k_;apply aL 2 [2,0] m;simp only[↓aD];refine⟨by omega,?_⟩;refine cQ m O O (Gj _ ((m.b 0 O).nat (os:=[n.natAbs%4294967296,n.natAbs / 4294967296]) (Pc (by omega)) O (by omega)) (by simp)) ?_;rintro v u m rfl;apply jS 3 [1] m;simp only[↓aD,fL,aa];intro u m;refine aT O ⟨_,O,((m.b 1 O).full cM aR)⟩ ?_;try simp only[zD,zE]
  exact⟨_,O,m.ext,by rw[Um,show false=fY n from (decide_eq_false (by omega)).symm,Hg];rfl⟩
end Go.Proofs.YtfekpcimgncioaaGreatDoor
namespace Go.Proofs.YtfekpcimgncioaaGreatDoor
open Go.Proofs.Tryz
open Go.RowKit Go.Lith
set_option maxRecDepth 100000
attribute [local irreducible] ar cl fU Code.wp
end Go.Proofs.YtfekpcimgncioaaGreatDoor
namespace Go.Proofs.YtfekpcimgncioaaGreatDoor
open Go.Proofs.Tryz
open Go.RowKit Go.Lith
set_option maxRecDepth 100000
attribute [local irreducible] ar cl fU bS cO Code.wp
attribute [local congr] pD gF gG gH gI gJ kL gK gL gM gN gQ gR gS gT gU gV gW eU eV gX gY iA iB iC kN dF dG cW dD gZ kM eW eX eY iD iE kO
variable{q u a c d:P3}{t:T3}
theorem aqW{p:P3}:dS prog 276 [pt p] (.int .i64 p.x):=by
 intro w;refine⟨ahp,?_⟩;have m:=Mem.refl w
 go_enter func276,ntmps276
 apply iY 12 [0] m;simp only[↓aD,aiC,dC,aa];intro g1 u m;exact aT O O ⟨_,O,m.ext,O⟩
theorem aqX{p:P3}:dS prog 277 [pt p] (.int .i64 p.y):=by
 intro w;refine⟨ahq,?_⟩;have m:=Mem.refl w
 go_enter func277,ntmps277
 apply iY 12 [0] m;simp only[↓aD,aiD,dC,aa];intro g1 u m;exact aT O O ⟨_,O,m.ext,O⟩
theorem aqY{p:P3}:dS prog 278 [pt p] (.int .i64 p.z):=by
 intro w;refine⟨ahr,?_⟩;have m:=Mem.refl w
 go_enter func278,ntmps278
 apply iY 12 [0] m;simp only[↓aD,aiE,dC,aa];intro g1 u m;exact aT O O ⟨_,O,m.ext,O⟩
theorem apl  : dS prog 195 [] (.agg #[.func (.func 276) #[] #[],.func (.func 277) #[] #[],.func (.func 278) #[] #[]]):=by
 intro w;refine⟨aho,?_⟩;have m:=Mem.refl w
 go_enter func195,ntmps195
 apply iY 10 [0] m;simp only[↓aD,aoH,aoI,aoG,aa];intro g1 u m;exact aT O ⟨_,O,((m.b 0 O).full ad8 Kj)⟩ ⟨_,O,m.ext,O⟩
theorem ajk  : dS prog 336 [.int .i64 0] (.tuple #[.int .i64 1,.int .i64 2]):=by
 intro w;refine⟨aci,?_⟩;have m:=Mem.refl w
 go_enter func336,ntmps336
 apply fI 9 [0] m;simp only[↓aD,ak];refine⟨by omega,?_⟩;refine aC (cP (m:=1) (n:=3) (r:=1) O O (by decide) (by decide)) ?_;apply aL 2 [0] m;simp only[↓aD,ak];refine⟨by omega,?_⟩;refine aC (cP (m:=2) (n:=3) (r:=2) O O (by decide) (by decide)) ?_;apply aL 4 [] m;simp only[↓aD];exact uA O O O ⟨_,O,m.ext,O⟩
theorem ajl  : dS prog 336 [.int .i64 1] (.tuple #[.int .i64 2,.int .i64 0]):=by
 intro w;refine⟨aci,?_⟩;have m:=Mem.refl w
 go_enter func336,ntmps336
 apply fI 9 [0] m;simp only[↓aD,ak];refine⟨by omega,?_⟩;refine aC (cP (m:=2) (n:=3) (r:=2) O O (by decide) (by decide)) ?_;apply aL 2 [0] m;simp only[↓aD,ak];refine⟨by omega,?_⟩;refine aC (cP (m:=3) (n:=3) (r:=0) O O (by decide) (by decide)) ?_;apply aL 4 [] m;simp only[↓aD];exact uA O O O ⟨_,O,m.ext,O⟩
theorem ajm  : dS prog 336 [.int .i64 2] (.tuple #[.int .i64 0,.int .i64 1]):=by
 intro w;refine⟨aci,?_⟩;have m:=Mem.refl w
 go_enter func336,ntmps336
 apply fI 9 [0] m;simp only[↓aD,ak];refine⟨by omega,?_⟩;refine aC (cP (m:=3) (n:=3) (r:=0) O O (by decide) (by decide)) ?_;apply aL 2 [0] m;simp only[↓aD,ak];refine⟨by omega,?_⟩;refine aC (cP (m:=4) (n:=3) (r:=1) O O (by decide) (by decide)) ?_;apply aL 4 [] m;simp only[↓aD];exact uA O O O ⟨_,O,m.ext,O⟩
theorem nC{p:P3}[I3 p][I3 q]:dS prog 223 [pt p,pt q] (wv (q.sub p)):=by
 intro w;refine⟨bJ func223 (by kernel_rfl),?_⟩;have m:=Mem.refl w
 go_enter func223,ntmps223
 apply iY 13 [0] m;simp only[↓aD,aiH];intro g1 g2 g3 g4 u m;refine nF m O O apl 17 [4,1,0] ?_;simp only[↓aD];refine⟨by omega,?_⟩;intro u m;refine aC (Ev O O) ?_;apply aL 3 [0] m;simp only[↓aD];refine cU m 11 aB (by kernel_rfl) ?_;simp only[zy];refine dZ 3 [2] ?_;simp only[↓aD,aQ];refine fD O O aqW ?_;simp only[zz];refine fD O O (qD Iw.h) (aI aH ?_);simp only[zz];refine ql O (fun u m=>((m.b 3 O).full aG aA)) ?_;simp only[zz];refine fD O O aqW ?_;simp only[zz];refine fD O O (qD Iw.h) ?_;simp only[zz];refine fD O O (Fg Bw.up Bw.up) (dZ 1 [] ?_);simp only[↓aD,oR,ad,ag,aa];refine⟨by omega,?_⟩;refine bC ?_;intro u m;refine bN m 0 O O O aR (iK O) O ?_;intro u m;simp only[zy,zx,over,zF,zG,aa] at m;refine aM ?_;apply aU 18 [1,0] m;simp only[↓aD,ak];refine⟨by omega,?_⟩;refine aC (Ew O O) ?_;apply aL 3 [0] m;simp only[↓aD];refine cU m 11 aB (by kernel_rfl) ?_;simp only[zy];refine dZ 3 [2] ?_;simp only[↓aD,aQ];refine fD O O aqX ?_;simp only[zz];refine fD O O (qD Iw.h) (aI aH ?_);simp only[zz];refine ql O (fun u m=>((m.b 3 O).full aG aA)) ?_;simp only[zz];refine fD O O aqX ?_;simp only[zz];refine fD O O (qD Iw.h) ?_;simp only[zz];refine fD O O (Fg Bw.up Bw.up) (dZ 1 [] ?_);simp only[↓aD,oR,ad,ag,aa];refine⟨by omega,?_⟩;refine bC ?_;intro u m;refine bN m 0 O O O aR (iK O) O ?_;intro u m;simp only[zy,zx,over,zF,zG,aa] at m;refine aM ?_;apply aU 18 [1,0] m;simp only[↓aD,ak];refine⟨by omega,?_⟩;refine aC (Ex O O) ?_;apply aL 3 [0] m;simp only[↓aD];refine cU m 11 aB (by kernel_rfl) ?_;simp only[zy];refine dZ 3 [2] ?_;simp only[↓aD,aQ];refine fD O O aqY ?_;simp only[zz];refine fD O O (qD Iw.h) (aI aH ?_);simp only[zz];refine ql O (fun u m=>((m.b 3 O).full aG aA)) ?_;simp only[zz];refine fD O O aqY ?_;simp only[zz];refine fD O O (qD Iw.h) ?_;simp only[zz];refine fD O O (Fg Bw.up Bw.up) (dZ 1 [] ?_);simp only[↓aD,oR,ad,ag,aa];refine⟨by omega,?_⟩;refine bC ?_;intro u m;refine bN m 0 O O O aR (iK O) O ?_;intro u m;simp only[zy,zx,over,zF,zG,aa] at m;refine aM ?_;apply Nu 19 [2,0,1] m;simp only[↓aD,aiG,ak,aa];refine⟨by omega,?_⟩;intro u m;exact aT O ⟨_,O,((m.b 1 O).full ad9 Uw)⟩ ⟨_,O,m.ext,O⟩
theorem yY{v:P3}(hu:Bv 400000 u)(hv:Bv 400000 v):dS prog 302 [wv u,wv v] (wv (u.cross v)):=by
 intro w;refine⟨bJ func302 (by kernel_rfl),?_⟩;have m:=Mem.refl w
 go_enter func302,ntmps302
 apply iY 35 [4,1,0] m;simp only[↓aD,aiH];intro g1 g2 g3 g4;refine⟨by omega,?_⟩;intro u m;refine nF m O O ajk 6 [0] ?_;simp only[↓aD];intro u m;refine cU m 17 aB (by kernel_rfl) ?_;simp only[zy];refine dZ 7 [3,2] ?_;simp only[↓aD,oR,fL,ad,ag,aa];refine⟨by omega,?_⟩;refine fD O O (sZ Bw.up Bw.up) (dZ 6 [3,2] ?_);simp only[↓aD,oR,fL,ad,ag,aa];refine⟨by omega,?_⟩;refine fD O O (sZ Bw.up Bw.up) ?_;simp only[zz];refine fD O O (Fg Bw.up Bw.up) (dZ 1 [] ?_);simp only[↓aD,oR,ad,ag,aa];refine⟨by omega,?_⟩;refine bC ?_;intro u m;refine bN m 0 O O O aR (iK O) O ?_;intro u m;simp only[zy,zx,over,zF,zG,aa] at m;refine aM ?_;apply aU 23 [1,0] m;simp only[↓aD,ak];refine⟨by omega,?_⟩;refine nF m O O ajl 6 [0] ?_;simp only[↓aD];intro u m;refine cU m 17 aB (by kernel_rfl) ?_;simp only[zy];refine dZ 7 [3,2] ?_;simp only[↓aD,oR,fL,ad,ag,aa];refine⟨by omega,?_⟩;refine fD O O (sZ Bw.up Bw.up) (dZ 6 [3,2] ?_);simp only[↓aD,oR,fL,ad,ag,aa];refine⟨by omega,?_⟩;refine fD O O (sZ Bw.up Bw.up) ?_;simp only[zz];refine fD O O (Fg Bw.up Bw.up) (dZ 1 [] ?_);simp only[↓aD,oR,ad,ag,aa];refine⟨by omega,?_⟩;refine bC ?_;intro u m;refine bN m 0 O O O aR (iK O) O ?_;intro u m;simp only[zy,zx,over,zF,zG,aa] at m;refine aM ?_;apply aU 23 [1,0] m;simp only[↓aD,ak];refine⟨by omega,?_⟩;refine nF m O O ajm 6 [0] ?_;simp only[↓aD];intro u m;refine cU m 17 aB (by kernel_rfl) ?_;simp only[zy];refine dZ 7 [3,2] ?_;simp only[↓aD,oR,fL,ad,ag,aa];refine⟨by omega,?_⟩;refine fD O O (sZ Bw.up Bw.up) (dZ 6 [3,2] ?_);simp only[↓aD,oR,fL,ad,ag,aa];refine⟨by omega,?_⟩;refine fD O O (sZ Bw.up Bw.up) ?_;simp only[zz];refine fD O O (Fg Bw.up Bw.up) (dZ 1 [] ?_);simp only[↓aD,oR,ad,ag,aa];refine⟨by omega,?_⟩;refine bC ?_;intro u m;refine bN m 0 O O O aR (iK O) O ?_;intro u m;simp only[zy,zx,over,zF,zG,aa] at m;refine aM ?_;apply Nu 19 [2,0,1] m;simp only[↓aD,aiG,ak,aa];refine⟨by omega,?_⟩;intro u m;exact aT O ⟨_,O,((m.b 1 O).full ad9 Uw)⟩ ⟨_,O,m.ext,O⟩
theorem apm{b:Int}(hb:Bd 1000000 b):dS prog 121 [.agg #[.bool false,.string ⟨#[]⟩],W b] (W (0+b)):=by
 rw[←Xn];exact Wk (No _) hb
theorem Mw{v:P3}(hu:Bv 400000 u)(hv:Bv 400000 v):dS prog 224 [wv u,wv v] (W (u.dot v)):=by
 intro w;refine⟨bJ func224 (by kernel_rfl),?_⟩;have m:=Mem.refl w
 go_enter func224,ntmps224
 apply iY 32 [4,1,0] m;simp only[↓aD,nA];intro g1 g2 g3 g4;refine⟨by omega,?_⟩;intro u m;refine cU m 9 aB (by kernel_rfl) ?_;simp only[zy];refine dZ 7 [0,3,2] ?_;simp only[↓aD,fL,oR,ad,ag,aa];refine⟨by omega,?_⟩;refine fD O O (sZ Bw.up Bw.up) ?_;simp only[zz];refine fD O O (apm Bw.up) (bC ?_);intro u m;simp only[zz];refine bN m 0 O O O aR (iK O) O ?_;intro u m;simp only[zy,zx,over,zF,zG,aa] at m;refine aM ?_;apply aU 20 [1,0] m;simp only[↓aD,ak];refine⟨by omega,?_⟩;refine cU m 9 aB (by kernel_rfl) ?_;simp only[zy];refine dZ 7 [0,3,2] ?_;simp only[↓aD,fL,oR,ad,ag,aa];refine⟨by omega,?_⟩;refine fD O O (sZ Bw.up Bw.up) ?_;simp only[zz];refine fD O O (Wk Bw.up Bw.up) (bC ?_);intro u m;simp only[zz];refine bN m 0 O O O aR (iK O) O ?_;intro u m;simp only[zy,zx,over,zF,zG,aa] at m;refine aM ?_;apply aU 20 [1,0] m;simp only[↓aD,ak];refine⟨by omega,?_⟩;refine cU m 9 aB (by kernel_rfl) ?_;simp only[zy];refine dZ 7 [0,3,2] ?_;simp only[↓aD,fL,oR,ad,ag,aa];refine⟨by omega,?_⟩;refine fD O O (sZ Bw.up Bw.up) ?_;simp only[zz];refine fD O O (Wk Bw.up Bw.up) (bC ?_);intro u m;simp only[zz];refine bN m 0 O O O aR (iK O) O ?_;intro u m;simp only[zy,zx,over,zF,zG,aa] at m;refine aM ?_;apply Nu 19 [2,0,1] m;simp only[↓aD,fL,ak,aa];refine⟨by omega,?_⟩;intro u m;refine aT O ⟨_,O,((m.b 1 O).full cM aR)⟩ ?_;try simp only[zD,zE]
 exact⟨_,O,m.ext,by rw[←P3.dot0];rfl⟩
theorem Sd[IT t]:dS prog 239 [tr t] (wv t.normal):=by
 intro w;refine⟨bJ func239 (by kernel_rfl),?_⟩;have m:=Mem.refl w
 go_enter func239,ntmps239
 apply iY 6 [0] m;simp only[↓aD,Rn];intro g1 g2 u m;refine cU m 11 aB (by kernel_rfl) ?_;simp only[zy];refine dZ 4 [1,1] ?_;simp only[↓aD,bR,aQ,ad,ag,aa];refine⟨by omega,?_⟩;refine fD O O nC (dZ 4 [1,1] ?_);simp only[↓aD,bR,aQ,ad,ag,aa];refine⟨by omega,?_⟩;refine fD O O nC ?_;simp only[zz];refine fD O O (yY Bv.of Bv.of) (bC ?_);intro u m;simp only[zz];refine bN m 0 O O O oW (iK O) O ?_;intro u m;simp only[zy,zx,over,zF,zG,aa] at m;refine aM ?_;apply aU 1 [] m;simp only[↓aD];exact aT O ⟨_,O,((m.b 0 O).full Ns oW)⟩ ⟨_,O,m.ext,O⟩
theorem oG{X:Nat}(w:aj)(hX64:X<18446744073709551616):dA prog 255 [.int .u64 X] w (fun v _=>∃n:Int,v=.int .i64 n∧0≤n∧n≤64∧(n≤18→X<262144)):=by
 refine⟨bJ func255 (by kernel_rfl),?_⟩;have m:=Mem.refl w
 go_enter func255,ntmps255
 apply fI 10 [0,0] m;simp only[↓aD];refine bD O ?_ ?_<;>intro hc1
 ·
  apply aK 3 [0] m;simp only[↓aD];refine aC (lF O O (by omega) ab3) ?_;apply aL 11 [0,0] m;simp only[↓aD];refine bD O ?_ ?_<;>intro hc2
  ·
   apply aK 3 [0] m;simp only[↓aD];refine aC (lF O O (by omega) ag8) ?_;apply aL 13 [0,0] m;simp only[↓aD,ak];refine⟨by omega,?_⟩;refine bD O ?_ ?_<;>intro hc3
   ·
    apply aK 3 [0] m;simp only[↓aD];refine aC (lF O O (by omega) adY) ?_;apply aL 12 [0] m;simp only[↓aD,Cn,yO,ak];refine⟨by omega,?_⟩;refine Bi pC (by kernel_rfl) O (by omega) ?_;intro b hb8 hb2;simp only[Av,rO,vE,io,im,fy,ig];apply aL 5 [] m;simp only[↓aD,yO,Il];refine⟨by omega,?_⟩;exact aT O O ⟨_,O,m.ext,_,O,by omega,by omega,by omega⟩
   ·
    apply aK 6 [0] m;simp only[↓aD,Cn,yO];refine⟨by omega,?_⟩;refine Bi pC (by kernel_rfl) O (by omega) ?_;intro b hb8 hb2;simp only[Av,rO,vE,io,im,fy,ig];apply aL 5 [] m;simp only[↓aD,yO,Il];refine⟨by omega,?_⟩;exact aT O O ⟨_,O,m.ext,_,O,by omega,by omega,by omega⟩
  ·
   apply aK 7 [0,0] m;simp only[↓aD];refine bD O ?_ ?_<;>intro hc3
   ·
    apply aK 3 [0] m;simp only[↓aD];refine aC (lF O O (by omega) adY) ?_;apply aL 12 [0] m;simp only[↓aD,Cn,yO,ak];refine⟨by omega,?_⟩;refine Bi pC (by kernel_rfl) O (by omega) ?_;intro b hb8 hb2;simp only[Av,rO,vE,io,im,fy,ig];apply aL 5 [] m;simp only[↓aD,yO,Il];refine⟨by omega,?_⟩;exact aT O O ⟨_,O,m.ext,_,O,by omega,by omega,by omega⟩
   ·
    apply aK 6 [0] m;simp only[↓aD,Cn,yO];refine⟨by omega,?_⟩;refine Bi pC (by kernel_rfl) O (by omega) ?_;intro b hb8 hb2;simp only[Av,rO,vE,io,im,fy,ig];apply aL 5 [] m;simp only[↓aD,yO,Il];refine⟨by omega,?_⟩;exact aT O O ⟨_,O,m.ext,_,O,by omega,by omega,by omega⟩
 ·
  apply aK 7 [0,0] m;simp only[↓aD];refine bD O ?_ ?_<;>intro hc2
  ·
   apply aK 3 [0] m;simp only[↓aD];refine aC (lF O O (by omega) ag8) ?_;apply aL 13 [0,0] m;simp only[↓aD,ak];refine⟨by omega,?_⟩;refine bD O ?_ ?_<;>intro hc3
   ·
    apply aK 3 [0] m;simp only[↓aD];refine aC (lF O O (by omega) adY) ?_;apply aL 12 [0] m;simp only[↓aD,Cn,yO,ak];refine⟨by omega,?_⟩;refine Bi pC (by kernel_rfl) O (by omega) ?_;intro b hb8 hb2;simp only[Av,rO,vE,io,im,fy,ig];apply aL 5 [] m;simp only[↓aD,yO,Il];refine⟨by omega,?_⟩;exact aT O O ⟨_,O,m.ext,_,O,by omega,by omega,by omega⟩
   ·
    apply aK 6 [0] m;simp only[↓aD,Cn,yO];refine⟨by omega,?_⟩;refine Bi pC (by kernel_rfl) O (by omega) ?_;intro b hb8 hb2;simp only[Av,rO,vE,io,im,fy,ig];apply aL 5 [] m;simp only[↓aD,yO,Il];refine⟨by omega,?_⟩;exact aT O O ⟨_,O,m.ext,_,O,by omega,by omega,by omega⟩
  ·
   apply aK 7 [0,0] m;simp only[↓aD];refine bD O ?_ ?_<;>intro hc3
   ·
    apply aK 3 [0] m;simp only[↓aD];refine aC (lF O O (by omega) adY) ?_;apply aL 12 [0] m;simp only[↓aD,Cn,yO,ak];refine⟨by omega,?_⟩;refine Bi pC (by kernel_rfl) O (by omega) ?_;intro b hb8 hb2;simp only[Av,rO,vE,io,im,fy,ig];apply aL 5 [] m;simp only[↓aD,yO,Il];refine⟨by omega,?_⟩;exact aT O O ⟨_,O,m.ext,_,O,by omega,by omega,by omega⟩
   ·
    apply aK 6 [0] m;simp only[↓aD,Cn,yO];refine⟨by omega,?_⟩;refine Bi pC (by kernel_rfl) O (by omega) ?_;intro b hb8 hb2;simp only[Av,rO,vE,io,im,fy,ig];apply aL 5 [] m;simp only[↓aD,yO,Il];refine⟨by omega,?_⟩;exact aT O O ⟨_,O,m.ext,_,O,by omega,by omega,by omega⟩
theorem qG{p:P3}[hp:S3 p][hq:S3 q]:dS prog 299 [pt p,pt q] (nv (q.sub p)):=by
 intro w;refine⟨bJ func299 (by kernel_rfl),?_⟩;have m:=Mem.refl w;have:=hp.x;have:=hp.y;have:=hp.z;have:=hq.x;have:=hq.y;have:=hq.z
 go_enter func299,ntmps299
 apply iY 27 [1,2,1,2,1,2,0] m;simp only[↓aD,aiJ,gD,dC,iH,jA,aoR,aiI,aa];intro g1 g2 g3;refine⟨by omega,?_⟩;intro u m;exact aT O ⟨_,O,((m.b 0 O).full aea Ux)⟩ ⟨_,O,m.ext,O⟩
theorem Fh{v:P3}(hu:N3 u)(hv:N3 v):dS prog 300 [nv u,nv v] (nv (u.cross v)):=by
 intro w;refine⟨bJ func300 (by kernel_rfl),?_⟩;have m:=Mem.refl w
 go_enter func300,ntmps300
 apply iY 35 [4,1,0] m;simp only[↓aD,aiJ];intro g1 g2 g3 g4;refine⟨by omega,?_⟩;intro u m;refine nF m O O ajk 6 [0] ?_;simp only[↓aD];intro u m;refine cU m 17 aB (by kernel_rfl) ?_;simp only[zy];refine dZ 7 [3,2] ?_;simp only[↓aD,sQ,dC,ad,ag,aa];refine⟨by omega,?_⟩;refine aI (lE O O (Un (An hu.y hv.z))) (dZ 6 [3,2] ?_);simp only[↓aD,sQ,dC,ad,ag,aa];refine⟨by omega,?_⟩;refine aI (lE O O (Un (An hu.z hv.y))) (aI (Ac O O (anV (An hu.y hv.z) (An hu.z hv.y))) ?_);refine dZ 1 [] ?_;simp only[↓aD,sQ,ad,ag,aa];refine⟨by omega,?_⟩;refine bC ?_;intro u m;refine dB m 0 O O O aV (iK O) ⟨O,O⟩ ?_;intro u m;simp only[zz,zy,zx,over,aa] at m;refine aM ?_;apply aU 23 [1,0] m;simp only[↓aD,ak];refine⟨by omega,?_⟩;refine nF m O O ajl 6 [0] ?_;simp only[↓aD];intro u m;refine cU m 17 aB (by kernel_rfl) ?_;simp only[zy];refine dZ 7 [3,2] ?_;simp only[↓aD,sQ,dC,ad,ag,aa];refine⟨by omega,?_⟩;refine aI (lE O O (Un (An hu.z hv.x))) (dZ 6 [3,2] ?_);simp only[↓aD,sQ,dC,ad,ag,aa];refine⟨by omega,?_⟩;refine aI (lE O O (Un (An hu.x hv.z))) (aI (Ac O O (anV (An hu.z hv.x) (An hu.x hv.z))) ?_);refine dZ 1 [] ?_;simp only[↓aD,sQ,ad,ag,aa];refine⟨by omega,?_⟩;refine bC ?_;intro u m;refine dB m 0 O O O aV (iK O) ⟨O,O⟩ ?_;intro u m;simp only[zz,zy,zx,over,aa] at m;refine aM ?_;apply aU 23 [1,0] m;simp only[↓aD,ak];refine⟨by omega,?_⟩;refine nF m O O ajm 6 [0] ?_;simp only[↓aD];intro u m;refine cU m 17 aB (by kernel_rfl) ?_;simp only[zy];refine dZ 7 [3,2] ?_;simp only[↓aD,sQ,dC,ad,ag,aa];refine⟨by omega,?_⟩;refine aI (lE O O (Un (An hu.x hv.y))) (dZ 6 [3,2] ?_);simp only[↓aD,sQ,dC,ad,ag,aa];refine⟨by omega,?_⟩;refine aI (lE O O (Un (An hu.y hv.x))) (aI (Ac O O (anV (An hu.x hv.y) (An hu.y hv.x))) ?_);refine dZ 1 [] ?_;simp only[↓aD,sQ,ad,ag,aa];refine⟨by omega,?_⟩;refine bC ?_;intro u m;refine dB m 0 O O O aV (iK O) ⟨O,O⟩ ?_;intro u m;simp only[zz,zy,zx,over,aa] at m;refine aM ?_;apply Nu 19 [2,0,1] m;simp only[↓aD,aiI,ak,aa];refine⟨by omega,?_⟩;intro u m;exact aT O ⟨_,O,((m.b 1 O).full aea Ux)⟩ ⟨_,O,m.ext,O⟩
theorem Zj{n:Int}:dS prog 301 [.int .i64 n] (.int .i64 (bB n)):=by
 intro w;refine⟨bJ func301 (by kernel_rfl),?_⟩;have m:=Mem.refl w
 go_enter func301,ntmps301
 apply fI 12 [0,0] m;simp only[↓aD];refine bD O ?_ ?_<;>intro hc1
 ·
  apply aK 5 [] m;simp only[↓aD];refine aT O O ?_;try simp only[zD,zE]
  exact⟨_,O,m.ext,by rw[De (by assumption)]⟩
 ·
  apply aK 6 [0,0] m;simp only[↓aD];refine bD O ?_ ?_<;>intro hc2
  ·
   apply aK 5 [] m;simp only[↓aD];refine aT O O ?_;try simp only[zD,zE]
   exact⟨_,O,m.ext,by rw[Df (by assumption)]⟩
  ·
   apply aK 7 [] m;simp only[↓aD];refine aT O O ?_;try simp only[zD,zE]
   exact⟨_,O,m.ext,by rw[show n=0 by omega];rfl⟩
theorem Wl{b:P3}[I3 a][I3 b][I3 c][I3 d]{g0:Nat}(w:aj)(hB0:fR w g0 [.int .i64 a.x,.int .i64 a.y,.int .i64 a.z,.int .i64 b.x,.int .i64 b.y,.int .i64 b.z,.int .i64 c.x,.int .i64 c.y,.int .i64 c.z,.int .i64 d.x,.int .i64 d.y,.int .i64 d.z] 30):dA prog 298 [.slice (some ⟨g0,0,none⟩) 4 4] w (fun v _=>∃bo:Bool,v=.bool bo∧(bo=true→S3 a∧S3 b∧S3 c∧S3 d)):=by
 refine⟨bJ func298 (by kernel_rfl),?_⟩;have m:=Mem.refl w
 go_enter func298,ntmps298
 apply fI 25 [5,1,0] m;simp only[↓aD,kC];refine⟨by omega,?_⟩;refine aC (aF cN aA O O (by decide) (by decide) O) ?_;simp only[zz];refine aS O ((hB0.ext m.ext).lies aG aA O O) ?_;simp only[zz,zy,aq,aa,ag,ad];apply jS 28 [0,0,0,0,4,1,0] m;simp only[↓aD,eS,aQ,gD,dC,iH,jA,sY,aa];intro g1;refine⟨by omega,?_⟩;intro u m;refine aC (jY O O) ?_;apply aL 6 [0] m;simp only[↓aD];refine aC (tY O O) (aC (wN O O O) (aC (jE lJ jN O (Ag Iw.h)) ?_));simp only[zz];refine cQ m O O (oG (X:=(a.x).natAbs) _ (by have:=(Iw.h:rT a.x).natAbs;omega)) ?_;rintro v u m ⟨n,rfl,hn0,hn1,hax⟩;apply aL 2 [0,0] m;simp only[↓aD];refine bD O ?_ ?_<;>intro hc3
 ·
  apply aK 5 [] m;simp only[↓aD];exact aT rfl rfl ⟨_,rfl,m.ext,false,rfl,fun h=>by cases h⟩
 ·
  replace hax:=hax (by omega);clear hc3 hn0 hn1;apply aK 18 [1,0] m;simp only[↓aD,ak];refine⟨by omega,?_⟩;refine aC (jZ O O) ?_;apply aL 6 [0] m;simp only[↓aD];refine aC (tY O O) (aC (wN O O O) (aC (jE lJ jN O (Ag Iw.h)) ?_));simp only[zz];refine cQ m O O (oG (X:=(a.y).natAbs) _ (by have:=(Iw.h:rT a.y).natAbs;omega)) ?_;rintro v u m ⟨n,rfl,hn0,hn1,hay⟩;apply aL 2 [0,0] m;simp only[↓aD];refine bD O ?_ ?_<;>intro hc3
  ·
   apply aK 5 [] m;simp only[↓aD];exact aT rfl rfl ⟨_,rfl,m.ext,false,rfl,fun h=>by cases h⟩
  ·
   replace hay:=hay (by omega);clear hc3 hn0 hn1;apply aK 18 [1,0] m;simp only[↓aD,ak];refine⟨by omega,?_⟩;refine aC (kA O O) ?_;apply aL 6 [0] m;simp only[↓aD];refine aC (tY O O) (aC (wN O O O) (aC (jE lJ jN O (Ag Iw.h)) ?_));simp only[zz];refine cQ m O O (oG (X:=(a.z).natAbs) _ (by have:=(Iw.h:rT a.z).natAbs;omega)) ?_;rintro v u m ⟨n,rfl,hn0,hn1,haz⟩;apply aL 2 [0,0] m;simp only[↓aD];refine bD O ?_ ?_<;>intro hc3
   ·
    apply aK 5 [] m;simp only[↓aD];exact aT rfl rfl ⟨_,rfl,m.ext,false,rfl,fun h=>by cases h⟩
   ·
    replace haz:=haz (by omega);clear hc3 hn0 hn1;apply aK 31 [2,1,0] m;simp only[↓aD,ak];refine⟨by omega,?_⟩;refine aC (aF cN aA O O (by decide) (by decide) O) ?_;simp only[zz];refine aS O ((hB0.ext m.ext).lies aG aA O O) ?_;simp only[zz,zy,aq,aa,ag,ad];apply jS 28 [0,0,0,0,4,1,0] m;simp only[↓aD,eS,aQ,gD,dC,iH,jA,sY,aa];intro g2;refine⟨by omega,?_⟩;intro u m;refine aC (jY O O) ?_;apply aL 6 [0] m;simp only[↓aD];refine aC (tY O O) (aC (wN O O O) (aC (jE lJ jN O (Ag Iw.h)) ?_));simp only[zz];refine cQ m O O (oG (X:=(b.x).natAbs) _ (by have:=(Iw.h:rT b.x).natAbs;omega)) ?_;rintro v u m ⟨n,rfl,hn0,hn1,hbx⟩;apply aL 2 [0,0] m;simp only[↓aD];refine bD O ?_ ?_<;>intro hc3
    ·
     apply aK 5 [] m;simp only[↓aD];exact aT rfl rfl ⟨_,rfl,m.ext,false,rfl,fun h=>by cases h⟩
    ·
     replace hbx:=hbx (by omega);clear hc3 hn0 hn1;apply aK 18 [1,0] m;simp only[↓aD,ak];refine⟨by omega,?_⟩;refine aC (jZ O O) ?_;apply aL 6 [0] m;simp only[↓aD];refine aC (tY O O) (aC (wN O O O) (aC (jE lJ jN O (Ag Iw.h)) ?_));simp only[zz];refine cQ m O O (oG (X:=(b.y).natAbs) _ (by have:=(Iw.h:rT b.y).natAbs;omega)) ?_;rintro v u m ⟨n,rfl,hn0,hn1,hby⟩;apply aL 2 [0,0] m;simp only[↓aD];refine bD O ?_ ?_<;>intro hc3
     ·
      apply aK 5 [] m;simp only[↓aD];exact aT rfl rfl ⟨_,rfl,m.ext,false,rfl,fun h=>by cases h⟩
     ·
      replace hby:=hby (by omega);clear hc3 hn0 hn1;apply aK 18 [1,0] m;simp only[↓aD,ak];refine⟨by omega,?_⟩;refine aC (kA O O) ?_;apply aL 6 [0] m;simp only[↓aD];refine aC (tY O O) (aC (wN O O O) (aC (jE lJ jN O (Ag Iw.h)) ?_));simp only[zz];refine cQ m O O (oG (X:=(b.z).natAbs) _ (by have:=(Iw.h:rT b.z).natAbs;omega)) ?_;rintro v u m ⟨n,rfl,hn0,hn1,hbz⟩;apply aL 2 [0,0] m;simp only[↓aD];refine bD O ?_ ?_<;>intro hc3
      ·
       apply aK 5 [] m;simp only[↓aD];exact aT rfl rfl ⟨_,rfl,m.ext,false,rfl,fun h=>by cases h⟩
      ·
       replace hbz:=hbz (by omega);clear hc3 hn0 hn1;apply aK 31 [2,1,0] m;simp only[↓aD,ak];refine⟨by omega,?_⟩;refine aC (aF cN aA O O (by decide) (by decide) O) ?_;simp only[zz];refine aS O ((hB0.ext m.ext).lies aG aA O O) ?_;simp only[zz,zy,aq,aa,ag,ad];apply jS 28 [0,0,0,0,4,1,0] m;simp only[↓aD,eS,aQ,gD,dC,iH,jA,sY,aa];intro g3;refine⟨by omega,?_⟩;intro u m;refine aC (jY O O) ?_;apply aL 6 [0] m;simp only[↓aD];refine aC (tY O O) (aC (wN O O O) (aC (jE lJ jN O (Ag Iw.h)) ?_));simp only[zz];refine cQ m O O (oG (X:=(c.x).natAbs) _ (by have:=(Iw.h:rT c.x).natAbs;omega)) ?_;rintro v u m ⟨n,rfl,hn0,hn1,hcx⟩;apply aL 2 [0,0] m;simp only[↓aD];refine bD O ?_ ?_<;>intro hc3
       ·
        apply aK 5 [] m;simp only[↓aD];exact aT rfl rfl ⟨_,rfl,m.ext,false,rfl,fun h=>by cases h⟩
       ·
        replace hcx:=hcx (by omega);clear hc3 hn0 hn1;apply aK 18 [1,0] m;simp only[↓aD,ak];refine⟨by omega,?_⟩;refine aC (jZ O O) ?_;apply aL 6 [0] m;simp only[↓aD];refine aC (tY O O) (aC (wN O O O) (aC (jE lJ jN O (Ag Iw.h)) ?_));simp only[zz];refine cQ m O O (oG (X:=(c.y).natAbs) _ (by have:=(Iw.h:rT c.y).natAbs;omega)) ?_;rintro v u m ⟨n,rfl,hn0,hn1,hcy⟩;apply aL 2 [0,0] m;simp only[↓aD];refine bD O ?_ ?_<;>intro hc3
        ·
         apply aK 5 [] m;simp only[↓aD];exact aT rfl rfl ⟨_,rfl,m.ext,false,rfl,fun h=>by cases h⟩
        ·
         replace hcy:=hcy (by omega);clear hc3 hn0 hn1;apply aK 18 [1,0] m;simp only[↓aD,ak];refine⟨by omega,?_⟩;refine aC (kA O O) ?_;apply aL 6 [0] m;simp only[↓aD];refine aC (tY O O) (aC (wN O O O) (aC (jE lJ jN O (Ag Iw.h)) ?_));simp only[zz];refine cQ m O O (oG (X:=(c.z).natAbs) _ (by have:=(Iw.h:rT c.z).natAbs;omega)) ?_;rintro v u m ⟨n,rfl,hn0,hn1,hcz⟩;apply aL 2 [0,0] m;simp only[↓aD];refine bD O ?_ ?_<;>intro hc3
         ·
          apply aK 5 [] m;simp only[↓aD];exact aT rfl rfl ⟨_,rfl,m.ext,false,rfl,fun h=>by cases h⟩
         ·
          replace hcz:=hcz (by omega);clear hc3 hn0 hn1;apply aK 31 [2,1,0] m;simp only[↓aD,ak];refine⟨by omega,?_⟩;refine aC (aF cN aA O O (by decide) (by decide) O) ?_;simp only[zz];refine aS O ((hB0.ext m.ext).lies aG aA O O) ?_;simp only[zz,zy,aq,aa,ag,ad];apply jS 28 [0,0,0,0,4,1,0] m;simp only[↓aD,eS,aQ,gD,dC,iH,jA,sY,aa];intro g4;refine⟨by omega,?_⟩;intro u m;refine aC (jY O O) ?_;apply aL 6 [0] m;simp only[↓aD];refine aC (tY O O) (aC (wN O O O) (aC (jE lJ jN O (Ag Iw.h)) ?_));simp only[zz];refine cQ m O O (oG (X:=(d.x).natAbs) _ (by have:=(Iw.h:rT d.x).natAbs;omega)) ?_;rintro v u m ⟨n,rfl,hn0,hn1,hdx⟩;apply aL 2 [0,0] m;simp only[↓aD];refine bD O ?_ ?_<;>intro hc3
          ·
           apply aK 5 [] m;simp only[↓aD];exact aT rfl rfl ⟨_,rfl,m.ext,false,rfl,fun h=>by cases h⟩
          ·
           replace hdx:=hdx (by omega);clear hc3 hn0 hn1;apply aK 18 [1,0] m;simp only[↓aD,ak];refine⟨by omega,?_⟩;refine aC (jZ O O) ?_;apply aL 6 [0] m;simp only[↓aD];refine aC (tY O O) (aC (wN O O O) (aC (jE lJ jN O (Ag Iw.h)) ?_));simp only[zz];refine cQ m O O (oG (X:=(d.y).natAbs) _ (by have:=(Iw.h:rT d.y).natAbs;omega)) ?_;rintro v u m ⟨n,rfl,hn0,hn1,hdy⟩;apply aL 2 [0,0] m;simp only[↓aD];refine bD O ?_ ?_<;>intro hc3
           ·
            apply aK 5 [] m;simp only[↓aD];exact aT rfl rfl ⟨_,rfl,m.ext,false,rfl,fun h=>by cases h⟩
           ·
            replace hdy:=hdy (by omega);clear hc3 hn0 hn1;apply aK 18 [1,0] m;simp only[↓aD,ak];refine⟨by omega,?_⟩;refine aC (kA O O) ?_;apply aL 6 [0] m;simp only[↓aD];refine aC (tY O O) (aC (wN O O O) (aC (jE lJ jN O (Ag Iw.h)) ?_));simp only[zz];refine cQ m O O (oG (X:=(d.z).natAbs) _ (by have:=(Iw.h:rT d.z).natAbs;omega)) ?_;rintro v u m ⟨n,rfl,hn0,hn1,hdz⟩;apply aL 2 [0,0] m;simp only[↓aD];refine bD O ?_ ?_<;>intro hc3
            ·
             apply aK 5 [] m;simp only[↓aD];exact aT rfl rfl ⟨_,rfl,m.ext,false,rfl,fun h=>by cases h⟩
            ·
             replace hdz:=hdz (by omega);clear hc3 hn0 hn1;apply aK 32 [2,2] m;simp only[↓aD,ak];refine⟨by omega,?_⟩;exact aT O O ⟨_,O,m.ext,true,O,fun _=>⟨⟨hax,hay,haz⟩,⟨hbx,hby,hbz⟩,⟨hcx,hcy,hcz⟩,⟨hdx,hdy,hdz⟩⟩⟩
theorem rM{b:P3}[I3 a][I3 b][I3 c][I3 d]:dS prog 238 [pt a,pt b,pt c,pt d] (sg ((b.sub a).cross (d.sub c))):=by
 intro w;refine⟨bJ func238 (by kernel_rfl),?_⟩;have m:=Mem.refl w
 go_enter func238,ntmps238
 apply iY 19 [5,4,3,2] m;simp only[↓aD,xE,aQ];intro g1 g2 g3 g4 g5 g6 u m;refine go (Do O O O O ?_);intro u g7 e_ h_ k_;replace m:=m.newB e_ h_ k_;simp only[zz];refine cQ m O O (Wl _ (m.b 0 O)) ?_;rintro v u m ⟨bo,rfl,hsm⟩;apply aL 1 [0] m;simp only[↓aD];refine gE O ?_ ?_<;>intro hc1
 ·
  obtain⟨_,_,_,_⟩:=hsm hc1;apply aK 2 [0] m;simp only[↓aD];refine mq m aB (by kernel_rfl) (ql O (fun u m=>((m.b 6 O).full aG aA)) ?_);simp only[zz];refine ql O (fun u m=>((m.b 5 O).full aG aA)) ?_;simp only[zz];refine fD O O qG ?_;simp only[zz];refine ql O (fun u m=>((m.b 4 O).full aG aA)) ?_;simp only[zz];refine ql O (fun u m=>((m.b 3 O).full aG aA)) ?_;simp only[zz];refine fD O O qG ?_;simp only[zz];refine fD O O (Fh inferInstance inferInstance) (aI aH (bC ?_));intro u m;apply aU 15 [4,1,0] m;simp only[↓aD];refine⟨by omega,?_⟩;refine aC (Tr O O) ?_;apply aL 6 [0] m;simp only[↓aD];refine nF m O O Zj 21 [1,1,0] ?_;simp only[↓aD,fF,dC,ad,ag,aa,ak];refine⟨by omega,?_⟩;intro u m;refine aC (Ts O O) ?_;apply aL 6 [0] m;simp only[↓aD];refine nF m O O Zj 21 [1,1,0] ?_;simp only[↓aD,fF,dC,ad,ag,aa,ak];refine⟨by omega,?_⟩;intro u m;refine aC (Tt O O) ?_;apply aL 6 [0] m;simp only[↓aD];refine nF m O O Zj 22 [1,2,1,2] ?_;simp only[↓aD,fF,dC,uU,ad,ag,aa,ak];refine⟨by omega,?_⟩;intro u m;exact aT O ⟨_,O,((m.b 2 O).full uG jJ)⟩ ⟨_,O,m.ext,O⟩
 ·
  apply aK 3 [0] m;simp only[↓aD];refine mq m aB (by kernel_rfl) (ql O (fun u m=>((m.b 6 O).full aG aA)) ?_);simp only[zz];refine ql O (fun u m=>((m.b 5 O).full aG aA)) ?_;simp only[zz];refine fD O O nC ?_;simp only[zz];refine ql O (fun u m=>((m.b 4 O).full aG aA)) ?_;simp only[zz];refine ql O (fun u m=>((m.b 3 O).full aG aA)) ?_;simp only[zz];refine fD O O nC ?_;simp only[zz];refine fD O O (yY Bv.of Bv.of) (aI aH (bC ?_));intro u m;apply aU 15 [4,1,0] m;simp only[↓aD];refine⟨by omega,?_⟩;refine aC (Tl O O) ?_;apply jS 7 [0,0,0] m;simp only[↓aD,nA,fL,aa];intro g8 u m;refine nF m O O (Lp Bw.up) 21 [2,1,0] ?_;simp only[↓aD,fF,dC,ad,ag,aa,ak];refine⟨by omega,?_⟩;intro u m;refine aC (Tm O O) ?_;apply jS 7 [0,0,0] m;simp only[↓aD,nA,fL,aa];intro g9 u m;refine nF m O O (Lp Bw.up) 21 [3,1,0] ?_;simp only[↓aD,fF,dC,ad,ag,aa,ak];refine⟨by omega,?_⟩;intro u m;refine aC (Tn O O) ?_;apply jS 7 [0,0,0] m;simp only[↓aD,nA,fL,aa];intro g10 u m;refine nF m O O (Lp Bw.up) 22 [4,2,4,5] ?_;simp only[↓aD,fF,dC,uU,ad,ag,aa,ak];refine⟨by omega,?_⟩;intro u m;exact aT O ⟨_,O,((m.b 5 O).full uG jJ)⟩ ⟨_,O,m.ext,O⟩
theorem Zk[IT t]:dS prog 171 [tr t] (.bool (decide (bB t.normal.x=0∧bB t.normal.y=0∧bB t.normal.z=0))):=by
 intro w;refine⟨bJ func171 (by kernel_rfl),?_⟩;have m:=Mem.refl w
 go_enter func171,ntmps171
 apply iY 15 [0,0,0,0,0] m;simp only[↓aD,bR,aQ,ad,ag,aa];intro g1;refine⟨by omega,?_⟩;intro u m;refine nF m O O (rM (a:=t.a) (b:=t.b) (c:=t.a) (d:=t.c)) 1 [0] ?_;simp only[↓aD,sY,aa];intro u m;refine aC (Dn O O) ?_;apply aL 3 [] m;simp only[↓aD];exact aT O O ⟨_,O,m.ext,O⟩
theorem ajn{r:T3}[IT t][IT r]:dS prog 172 [tr t,tr r] (.int .i64 (Tz t r)):=by
 intro w;refine⟨bJ func172 (by kernel_rfl),?_⟩;have m:=Mem.refl w
 go_enter func172,ntmps172
 apply iY 7 [0] m;simp only[↓aD];intro g1 g2 u m;refine mq m aB (by kernel_rfl) (ql O (fun u m=>((m.b 1 O).full cA aP)) ?_);simp only[zz];refine fD O O Sd ?_;simp only[zz];refine ql O (fun u m=>((m.b 0 O).full cA aP)) ?_;simp only[zz];refine fD O O Sd ?_;simp only[zz];refine fD O O (Mw Bv.of Bv.of) ?_;simp only[zz];refine fD O O (Lp Bw.up) (aI aO (bC ?_));intro u m;apply aU 1 [] m;simp only[↓aD];exact aT O O ⟨_,O,m.ext,O⟩
theorem adk{r:T3}{k:Nat}(hk:k<3)(h:Dt t k<Ds r k):oE t r=false:=by
 unfold oE aa6
 match k,hk with
 | 0,_=>simp[h]
 | 1,_=>simp[h]
 | 2,_=>simp[h]
theorem adl{r:T3}{k:Nat}(hk:k<3)(h:Dt r k<Ds t k):oE t r=false:=by
 unfold oE aa6
 match k,hk with
 | 0,_=>simp[h]
 | 1,_=>simp[h]
 | 2,_=>simp[h]
theorem apn{r:T3}(h0:¬Dt t 0<Ds r 0)(h1:¬Dt t 1<Ds r 1)(h2:¬Dt t 2<Ds r 2)(g0:¬Dt r 0<Ds t 0)(g1:¬Dt r 1<Ds t 1)(g2:¬Dt r 2<Ds t 2):oE t r=true:=by
 unfold oE aa6;simp[h0,h1,h2,g0,g1,g2]
theorem apo{r:T3}:dS prog 175 [.agg #[.int .i64 (Ds t 0),.int .i64 (Ds t 1),.int .i64 (Ds t 2),.int .i64 (Dt t 0),.int .i64 (Dt t 1),.int .i64 (Dt t 2)],.agg #[.int .i64 (Ds r 0),.int .i64 (Ds r 1),.int .i64 (Ds r 2),.int .i64 (Dt r 0),.int .i64 (Dt r 1),.int .i64 (Dt r 2)]] (.bool (oE t r)):=by
 intro w;refine⟨bJ func175 (by kernel_rfl),?_⟩;have m:=Mem.refl w
 go_enter func175,ntmps175
 apply iY 29 [4,1] m;simp only[↓aD];intro g1 g2;refine⟨by omega,?_⟩;intro u m;by_cases h0:Dt t 0<Ds r 0
 ·
  refine gc (mq m aB (by kernel_rfl) ?_);refine dZ 8 [1,0] ?_;simp only[↓aD,kF,fF,dC,kE,aa,ad,ag];refine⟨by omega,?_⟩;refine aI (qT O O h0) (aI aH (Gw O ?_));refine dZ 9 [] ?_;simp only[↓aD];refine bC ?_;intro u m;apply aU 6 [] m;simp only[↓aD];refine aT O O ?_;try simp only[zD,zE]
  exact⟨_,O,m.ext,by rw[adk (k:=0) (by decide) h0]⟩
 ·
  refine gc (mq m aB (by kernel_rfl) ?_);refine dZ 8 [1,0] ?_;simp only[↓aD,kF,fF,dC,kE,aa,ad,ag];refine⟨by omega,?_⟩;refine aI (Fj O O h0) (aI aH (dH O (aI aH ?_)));refine dZ 9 [0,1,0] ?_;simp only[↓aD,kF,fF,dC,kE,aa,ad,ag];refine⟨by omega,?_⟩;refine bC ?_;intro u m;refine gc (bD O (fun hc2=>?_) (fun hc2=>?_))
  ·
   have q0:=hc2;apply aK 5 [] m;simp only[↓aD];refine aT O O ?_;try simp only[zD,zE]
   exact⟨_,O,m.ext,by rw[adl (k:=0) (by decide) q0]⟩
  ·
   have q0:=hc2;apply aK 22 [1] m;simp only[↓aD,ak];refine⟨by omega,?_⟩;by_cases h1:Dt t 1<Ds r 1
   ·
    refine gc (mq m aB (by kernel_rfl) ?_);refine dZ 8 [1,0] ?_;simp only[↓aD,kF,fF,dC,kE,aa,ad,ag];refine⟨by omega,?_⟩;refine aI (qT O O h1) (aI aH (Gw O ?_));refine dZ 9 [] ?_;simp only[↓aD];refine bC ?_;intro u m;apply aU 6 [] m;simp only[↓aD];refine aT O O ?_;try simp only[zD,zE]
    exact⟨_,O,m.ext,by rw[adk (k:=1) (by decide) h1]⟩
   ·
    refine gc (mq m aB (by kernel_rfl) ?_);refine dZ 8 [1,0] ?_;simp only[↓aD,kF,fF,dC,kE,aa,ad,ag];refine⟨by omega,?_⟩;refine aI (Fj O O h1) (aI aH (dH O (aI aH ?_)));refine dZ 9 [0,1,0] ?_;simp only[↓aD,kF,fF,dC,kE,aa,ad,ag];refine⟨by omega,?_⟩;refine bC ?_;intro u m;refine gc (bD O (fun hc2=>?_) (fun hc2=>?_))
    ·
     have q1:=hc2;apply aK 5 [] m;simp only[↓aD];refine aT O O ?_;try simp only[zD,zE]
     exact⟨_,O,m.ext,by rw[adl (k:=1) (by decide) q1]⟩
    ·
     have q1:=hc2;apply aK 22 [1] m;simp only[↓aD,ak];refine⟨by omega,?_⟩;by_cases h2:Dt t 2<Ds r 2
     ·
      refine gc (mq m aB (by kernel_rfl) ?_);refine dZ 8 [1,0] ?_;simp only[↓aD,kF,fF,dC,kE,aa,ad,ag];refine⟨by omega,?_⟩;refine aI (qT O O h2) (aI aH (Gw O ?_));refine dZ 9 [] ?_;simp only[↓aD];refine bC ?_;intro u m;apply aU 6 [] m;simp only[↓aD];refine aT O O ?_;try simp only[zD,zE]
      exact⟨_,O,m.ext,by rw[adk (k:=2) (by decide) h2]⟩
     ·
      refine gc (mq m aB (by kernel_rfl) ?_);refine dZ 8 [1,0] ?_;simp only[↓aD,kF,fF,dC,kE,aa,ad,ag];refine⟨by omega,?_⟩;refine aI (Fj O O h2) (aI aH (dH O (aI aH ?_)));refine dZ 9 [0,1,0] ?_;simp only[↓aD,kF,fF,dC,kE,aa,ad,ag];refine⟨by omega,?_⟩;refine bC ?_;intro u m;refine gc (bD O (fun hc2=>?_) (fun hc2=>?_))
      ·
       have q2:=hc2;apply aK 5 [] m;simp only[↓aD];refine aT O O ?_;try simp only[zD,zE]
       exact⟨_,O,m.ext,by rw[adl (k:=2) (by decide) q2]⟩
      ·
       have q2:=hc2;apply aK 19 [2] m;simp only[↓aD,ak];refine⟨by omega,?_⟩;refine aT O O ?_;try simp only[zD,zE]
       exact⟨_,O,m.ext,by rw[apn h0 h1 h2 q0 q1 q2]⟩
end Go.Proofs.YtfekpcimgncioaaGreatDoor
namespace Go.Lith
open Go.RowKit
section
variable {P:bp} {l:List ai} {T ty:az} {x y:bx} {k:IntKind} {m:Int}
theorem ajo{n c:Nat}{E:az}{a:Addr}(hu:P.underlying T=some (.array n E))(hc:dQ P E c)(hx:ev l x=.pointer (some a)) :
 iR P l (.slice T x none none none) ty (.slice (some a) n n):=fun w o ho _=>by
 have e:(if n=0 then a else a.add (0*c))=a:=by
  split
  · rfl
  · simp[Addr.add]
 simp[de,ho,cK,hx,Instr.sliceAt,Instr.sliceBounds,Instr.sliceBound,asIntOf,cd hu,eG hc,Instr.sureAddr,e];intro _;simp[Addr.add]
theorem adm{n c q:Nat}{E:az}{a a':Addr}(hu:P.underlying T=some (.array n E))(hc:dQ P E c)(hx:ev l x=.pointer (some a))(hy:ev l y=.int k m)(hq:m.toNat=q)(h0:0≤m)(h1:m≤n)(hA:(if n=q then a else a.add (q*c))=a') :
 iR P l (.slice T x (some y) none none) ty (.slice (some a') (n-q) (n-q)):=fun w o ho _=>by
 subst hq;subst hA;simp[de,ho,cK,hx,hy,Instr.sliceAt,Instr.sliceBounds,Instr.sliceBound,asIntOf,cd hu,eG hc,Instr.sureAddr,h0,h1]
theorem af8{n len cap:Nat}{E:az}{A:Option Addr}(hu:P.underlying T=some (.array n E))(hx:ev l x=.slice A len cap)(h:n≤len) :
 iR P l (.sliceToArrayPointer T x) ty (.pointer A):=fun w o ho _=>by
 have:¬len<n:=by omega
 simp[de,ho,cK,hx,Instr.arrayAt,cd hu,this]
end
end Go.Lith
namespace Go.Proofs.YtfekpcimgncioaaGreatDoor
open Go.Proofs.Tryz
open Go.RowKit Go.Lith
set_option maxRecDepth 100000
attribute [local irreducible] ar cl fU bS cO Code.wp
attribute [local congr] pD gF gG gH gI gJ kL gK gL gM gN gQ gR gS gT gU gV gW eU eV gX gY iA iB iC kN dF dG cW dD gZ kM eW eX eY iD iE kO
theorem Lr(m n:Int):(if n<m then n else m)=min m n:=by omega
theorem Ls(m n:Int):(if m<n then n else m)=max m n:=by omega
theorem abq{t:T3}:dS prog 173 [tr t] (.agg #[.int .i64 (Ds t 0),.int .i64 (Ds t 1),.int .i64 (Ds t 2),.int .i64 (Dt t 0),.int .i64 (Dt t 1),.int .i64 (Dt t 2)]):=by
 intro w;refine⟨bJ func173 (by kernel_rfl),?_⟩;have m:=Mem.refl w
 go_enter func173,ntmps173
 apply iY 14 [1,1] m;simp only[↓aD,ac1,bR,gD,dC,iH,ad,ag,aa];intro g1 g2;refine⟨by omega,?_⟩;intro u m;apply aU 13 [1,1,1,1] m;simp only[↓aD,jA,dC,sY,bR,gD,iH,aa,ad,ag];refine⟨by omega,?_⟩;apply Nu 7 [0,0] m;simp only[↓aD,aoF,ac1,ac0,aa];intro g3 u m;refine aC (adm cF aA O O O (by decide) (by decide) O) ?_;apply jS 27 [3,1,2,0,0] m;simp only[↓aD,reduceIte,kC,ane,aQ,eS,gD,dC,iH,Nat.reduceEqDiff,ag,aa,ad];intro g4;refine⟨by omega,?_⟩;intro u m;apply aU 21 [0,0,4,1,0] m;simp only[↓aD,dC,jA,sY,aa];refine⟨by omega,?_⟩;refine aC (jY O O) ?_;apply aL 3 [0] m;simp only[↓aD];refine iP m 1 [] [46,47,48,49,50,51,52,53,54,55,56,57,58,59,60,61,62,63] (fun vs i=>vs=[]∧i=bI g3 [.int .i64 (min t.a.x t.b.x),.int .i64 t.a.y,.int .i64 t.a.z,.int .i64 (max t.a.x t.b.x),.int .i64 t.a.y,.int .i64 t.a.z] 222) ?_ ?_
 · intro K1 hK1
   refine zvt [true,false,true,true] [[],[],[],[],[],[1],[],[],[],[],[],[1],[],[],[],[],[1],[],[],[1]] (.take 0 (.take 1 (.take 2 (.take 3 (.take 4 (.take 6 (.take 8 (.take 9 (.take 10 (.take 12 (.take 14 (.take 17 (.two 5 (.take 7 (.one 11 (.take 13 (.take 15 (.one 16 (.take 18 (.one 19 .nil))))))) 11 (.take 13 (.one 5 (.take 7 (.take 15 (.one 16 (.take 18 (.one 19 .nil)))))))))))))))))))) m aB (by kernel_rfl) (bQ (fun _ _ _ _ _ h=>h)) ?_;simp only[↓aD,↓zzu,kE,fF,kF,dC,Lr,Ls,aa,ad,ag];refine⟨by omega,?_⟩;intro u m;exact gk (hK1 _ _ _ (by kernel_rfl) m ⟨O,(by first | rfl | trivial)⟩)
 · intro vs i wr m hI u
   obtain⟨rfl,rfl⟩:=hI;simp only[zF,zG] at m;simp only[zu,zF,zG];apply aU 18 [1,0] m;simp only[↓aD,ak];refine⟨by omega,?_⟩;refine aC (jZ O O) ?_;apply aL 3 [0] m;simp only[↓aD];refine iP m 1 [] [46,47,48,49,50,51,52,53,54,55,56,57,58,59,60,61,62,63] (fun vs i=>vs=[]∧i=bI g3 [.int .i64 (min t.a.x t.b.x),.int .i64 (min t.a.y t.b.y),.int .i64 t.a.z,.int .i64 (max t.a.x t.b.x),.int .i64 (max t.a.y t.b.y),.int .i64 t.a.z] 222) ?_ ?_
   · intro K2 hK2
     refine zvt [true,false,true,true] [[],[],[],[],[],[1],[],[],[],[],[],[1],[],[],[],[],[1],[],[],[1]] (.take 0 (.take 1 (.take 2 (.take 3 (.take 4 (.take 6 (.take 8 (.take 9 (.take 10 (.take 12 (.take 14 (.take 17 (.two 5 (.take 7 (.one 11 (.take 13 (.take 15 (.one 16 (.take 18 (.one 19 .nil))))))) 11 (.take 13 (.one 5 (.take 7 (.take 15 (.one 16 (.take 18 (.one 19 .nil)))))))))))))))))))) m aB (by kernel_rfl) (bQ (fun _ _ _ _ _ h=>h)) ?_;simp only[↓aD,↓zzu,kE,fF,kF,dC,Lr,Ls,aa,ad,ag];refine⟨by omega,?_⟩;intro u m;exact gk (hK2 _ _ _ (by kernel_rfl) m ⟨O,(by first | rfl | trivial)⟩)
   · intro vs i wr m hI u
     obtain⟨rfl,rfl⟩:=hI;simp only[zF,zG] at m;simp only[zu,zF,zG];apply aU 18 [1,0] m;simp only[↓aD,ak];refine⟨by omega,?_⟩;refine aC (kA O O) ?_;apply aL 3 [0] m;simp only[↓aD];refine iP m 1 [] [46,47,48,49,50,51,52,53,54,55,56,57,58,59,60,61,62,63] (fun vs i=>vs=[]∧i=bI g3 [.int .i64 (min t.a.x t.b.x),.int .i64 (min t.a.y t.b.y),.int .i64 (min t.a.z t.b.z),.int .i64 (max t.a.x t.b.x),.int .i64 (max t.a.y t.b.y),.int .i64 (max t.a.z t.b.z)] 222) ?_ ?_
     · intro K3 hK3
       refine zvt [true,false,true,true] [[],[],[],[],[],[1],[],[],[],[],[],[1],[],[],[],[],[1],[],[],[1]] (.take 0 (.take 1 (.take 2 (.take 3 (.take 4 (.take 6 (.take 8 (.take 9 (.take 10 (.take 12 (.take 14 (.take 17 (.two 5 (.take 7 (.one 11 (.take 13 (.take 15 (.one 16 (.take 18 (.one 19 .nil))))))) 11 (.take 13 (.one 5 (.take 7 (.take 15 (.one 16 (.take 18 (.one 19 .nil)))))))))))))))))))) m aB (by kernel_rfl) (bQ (fun _ _ _ _ _ h=>h)) ?_;simp only[↓aD,↓zzu,kE,fF,kF,dC,Lr,Ls,aa,ad,ag];refine⟨by omega,?_⟩;intro u m;exact gk (hK3 _ _ _ (by kernel_rfl) m ⟨O,(by first | rfl | trivial)⟩)
     · intro vs i wr m hI u
       obtain⟨rfl,rfl⟩:=hI;simp only[zF,zG] at m;simp only[zu,zF,zG];apply Nu 34 [2,1,3,0] m;simp only[↓aD,ane,aQ,eS,ak,ad,ag,aa];intro g5;refine⟨by omega,?_⟩;intro u m;apply aU 25 [0,0,0,4,1] m;simp only[↓aD,gD,dC,iH,jA,sY,aa];refine⟨by omega,?_⟩;apply aU 2 [0] m;simp only[↓aD];refine aC (jY O O) ?_;apply aL 3 [0] m;simp only[↓aD];refine iP m 2 [] [46,47,48,49,50,51,52,53,54,55,56,57,58,59,60,61,62,63] (fun vs i=>vs=[]∧i=bI g3 [.int .i64 (min (min t.a.x t.b.x) t.c.x),.int .i64 (min t.a.y t.b.y),.int .i64 (min t.a.z t.b.z),.int .i64 (max (max t.a.x t.b.x) t.c.x),.int .i64 (max t.a.y t.b.y),.int .i64 (max t.a.z t.b.z)] 222) ?_ ?_
       · intro K4 hK4
         refine zvt [true,true,false,true,true] [[],[],[],[],[],[2],[],[],[],[],[],[2],[],[],[],[],[2],[],[],[2]] (.take 0 (.take 1 (.take 2 (.take 3 (.take 4 (.take 6 (.take 8 (.take 9 (.take 10 (.take 12 (.take 14 (.take 17 (.two 5 (.take 7 (.one 11 (.take 13 (.take 15 (.one 16 (.take 18 (.one 19 .nil))))))) 11 (.take 13 (.one 5 (.take 7 (.take 15 (.one 16 (.take 18 (.one 19 .nil)))))))))))))))))))) m aB (by kernel_rfl) (bQ (fun _ _ _ _ _ h=>h)) ?_;simp only[↓aD,↓zzu,kE,fF,kF,dC,Lr,Ls,aa,ad,ag];refine⟨by omega,?_⟩;intro u m;exact gk (hK4 _ _ _ (by kernel_rfl) m ⟨O,(by first | rfl | trivial)⟩)
       · intro vs i wr m hI u
         obtain⟨rfl,rfl⟩:=hI;simp only[zF,zG] at m;simp only[zu,zF,zG];apply aU 18 [1,0] m;simp only[↓aD,ak];refine⟨by omega,?_⟩;refine aC (jZ O O) ?_;apply aL 3 [0] m;simp only[↓aD];refine iP m 2 [] [46,47,48,49,50,51,52,53,54,55,56,57,58,59,60,61,62,63] (fun vs i=>vs=[]∧i=bI g3 [.int .i64 (min (min t.a.x t.b.x) t.c.x),.int .i64 (min (min t.a.y t.b.y) t.c.y),.int .i64 (min t.a.z t.b.z),.int .i64 (max (max t.a.x t.b.x) t.c.x),.int .i64 (max (max t.a.y t.b.y) t.c.y),.int .i64 (max t.a.z t.b.z)] 222) ?_ ?_
         · intro K5 hK5
           refine zvt [true,true,false,true,true] [[],[],[],[],[],[2],[],[],[],[],[],[2],[],[],[],[],[2],[],[],[2]] (.take 0 (.take 1 (.take 2 (.take 3 (.take 4 (.take 6 (.take 8 (.take 9 (.take 10 (.take 12 (.take 14 (.take 17 (.two 5 (.take 7 (.one 11 (.take 13 (.take 15 (.one 16 (.take 18 (.one 19 .nil))))))) 11 (.take 13 (.one 5 (.take 7 (.take 15 (.one 16 (.take 18 (.one 19 .nil)))))))))))))))))))) m aB (by kernel_rfl) (bQ (fun _ _ _ _ _ h=>h)) ?_;simp only[↓aD,↓zzu,kE,fF,kF,dC,Lr,Ls,aa,ad,ag];refine⟨by omega,?_⟩;intro u m;exact gk (hK5 _ _ _ (by kernel_rfl) m ⟨O,(by first | rfl | trivial)⟩)
         · intro vs i wr m hI u
           obtain⟨rfl,rfl⟩:=hI;simp only[zF,zG] at m;simp only[zu,zF,zG];apply aU 18 [1,0] m;simp only[↓aD,ak];refine⟨by omega,?_⟩;refine aC (kA O O) ?_;apply aL 3 [0] m;simp only[↓aD];refine iP m 2 [] [46,47,48,49,50,51,52,53,54,55,56,57,58,59,60,61,62,63] (fun vs i=>vs=[]∧i=bI g3 [.int .i64 (min (min t.a.x t.b.x) t.c.x),.int .i64 (min (min t.a.y t.b.y) t.c.y),.int .i64 (min (min t.a.z t.b.z) t.c.z),.int .i64 (max (max t.a.x t.b.x) t.c.x),.int .i64 (max (max t.a.y t.b.y) t.c.y),.int .i64 (max (max t.a.z t.b.z) t.c.z)] 222) ?_ ?_
           · intro K6 hK6
             refine zvt [true,true,false,true,true] [[],[],[],[],[],[2],[],[],[],[],[],[2],[],[],[],[],[2],[],[],[2]] (.take 0 (.take 1 (.take 2 (.take 3 (.take 4 (.take 6 (.take 8 (.take 9 (.take 10 (.take 12 (.take 14 (.take 17 (.two 5 (.take 7 (.one 11 (.take 13 (.take 15 (.one 16 (.take 18 (.one 19 .nil))))))) 11 (.take 13 (.one 5 (.take 7 (.take 15 (.one 16 (.take 18 (.one 19 .nil)))))))))))))))))))) m aB (by kernel_rfl) (bQ (fun _ _ _ _ _ h=>h)) ?_;simp only[↓aD,↓zzu,kE,fF,kF,dC,Lr,Ls,aa,ad,ag];refine⟨by omega,?_⟩;intro u m;exact gk (hK6 _ _ _ (by kernel_rfl) m ⟨O,(by first | rfl | trivial)⟩)
           · intro vs i wr m hI u
             obtain⟨rfl,rfl⟩:=hI;simp only[zF,zG] at m;simp only[zu,zF,zG];apply Nu 32 [2,2,2,3] m;simp only[↓aD,ac0,ak,aa];refine⟨by omega,?_⟩;intro u m;exact aT O ⟨_,O,((m.b 3 O).full ad6 Uv)⟩ ⟨_,O,m.ext,O⟩
end Go.Proofs.YtfekpcimgncioaaGreatDoor
namespace Go.Lith
open Go.RowKit
section
variable {P:bp} {ops:Array Oper} {Q:Exit→Act→aj→Prop} {rest:List Oper} {d j:Nat} {ty:az} {pos:String} {after:Array Edge} {v:ai} {b:Bool} {ds:List dx} {l:List ai} {w w0:aj} {is:List It}
variable {f:FuncId} {fo:bx} {xs:Array bx} {args:List ai} {first cap:Array ai} {a0:Array az}
theorem Zl(m:Mem w0 w is)(hw:yielded ops l.toArray j=some b)(hf:ev l fo=.func (.func f) first cap)(hxs:b=true→first.toList++xs.toList.map (ev l)++cap.toList=args)(hc:b=true→dA P f args w fun x _=>x=v)
 (h:∀u,Mem w0 u is→ar P ops Q rest (Fr (l.set d (Pm b v)) ds) u):ar P ops Q (bm (some d) (.call { callee:=.value fo,args:=xs,argTypes:=a0 }) ty pos after (some (j,true))::rest) (Fr l ds) w:=by
 cases b with
 | false=>simp only[Bk] at h;exact pH hw (h w m)
 | true=>simp only[jI] at h;exact eB hw (cQ m hf (hxs rfl) (hc rfl) fun x u m e=>by subst e;exact h u m)
end
section
variable {P:bp} {ops:Array Oper} {Q:Act→Prop} {rest:List Oper} {d j:Nat} {ty:az} {pos:String} {after:Array Edge} {v:ai} {b:Bool} {ds:List dx} {l:List ai} {w0:aj} {is:List It}
variable {f:FuncId} {fo:bx} {xs:Array bx} {args:List ai} {first cap:Array ai} {a0:Array az}
end
/-! ### Rows of edges and moves -/
end Go.Lith
namespace Go.Proofs.YtfekpcimgncioaaGreatDoor
open Go.Proofs.Tryz
open Go.RowKit Go.Lith
set_option maxRecDepth 100000
attribute [local irreducible] ar cl fU bS cO Code.wp
attribute [local congr] pD gF gG gH gI gJ kL gK gL gM gN gQ gR gS gT gU gV gW eU eV gX gY iA iB iC kN dF dG cW dD gZ kM eW eX eY iD iE kO
variable{g90 g91 ga gf gx gy N cap cx cf nm cm no co nr cr cy:Nat}{A Am Ao Ar:Option Addr}{q k:P3}{t:T3}{os ms:List T3}
theorem af9{cy:Nat}{ex ey ef:Array ck}{X Y F:List (P3 × Bool)}{ts:List T3}{p:P3}(w:aj)(hB91:fR w g91 [.pointer (some ⟨g90,0,none⟩),.int .i64 p.x,.int .i64 p.y,.int .i64 p.z,.int .i64 q.x,.int .i64 q.y,.int .i64 q.z,.map (some gx),.map (some gy),.slice Am nm cm,.slice Ao no co,.slice Ar nr cr] 218)(hB90:fR w g90 [.slice A N cap,.map (some ga),.map (some gf)] 109)(hMx:jO w gx ex cx)(hDx:bT pt bj X ex cx)(hMf:jO w gf ef cf)(hDf:bT pt bj F ef cf):dA prog 100 [.pointer (some ⟨g91,0,none⟩)] w (fun v _=>v=.bool ((cL X q).getD false && !(cL F p).getD false)):=by
 refine⟨bJ func100 (by kernel_rfl),?_⟩;have m:=Mem.refl w
 go_enter func100,ntmps100
 apply fI 5 [0] m;simp only[↓aD];refine mq m aB (by kernel_rfl) (dZ 3 [] ?_);simp only[↓aD,Rl,aa];refine ql O (fun u m=>((hB91.ext m.ext).lies1 tI O)) ?_;simp only[zz];refine dZ 3 [] ?_;simp only[↓aD,Rk,aa];refine ql O (fun u m=>((hB91.ext m.ext).lies aG aA O O)) ?_;simp only[zz,zy,aq,aa,ag,ad];refine kP (fun u m=>eH (ek:=pt) (en:=bj) (k:=q) (v0:=false) nP oN gC O O (hMx.ext m.ext) hDx) ?_;simp only[zz];refine aI aH (cT O (fun hb=>aH) (cT O (fun hb=>dJ (aX hb O)) (cT O (fun hb=>aW (c:=0) nQ O Px (aX hb O) O) ?_)));simp only[zz];refine eF O (fun hb u m=>aY (aX hb O) ((hB91.ext m.ext).lies1 Xu O)) (cT O (fun hb=>dJ (aX hb O)) (cT O (fun hb=>aW (c:=0) underlying109 O Dj (aX hb O) O) ?_));simp only[zz];refine eF O (fun hb u m=>aY (aX hb O) ((hB90.ext m.ext).lies1 tI O)) (cT O (fun hb=>aH) (cT O (fun hb=>dJ (aX hb O)) (cT O (fun hb=>aW (c:=2) nQ O aA (aX hb O) O) ?_)));simp only[zz];refine eF O (fun hb u m=>aY (aX hb O) ((hB91.ext m.ext).lies aG aA O O)) ?_;simp only[zz,zy,aq,aa,ag,ad];refine eF O (fun hb u m=>eH (ek:=pt) (en:=bj) (k:=p) (v0:=false) nP oN gC (aX hb O) (aX hb O) (hMf.ext m.ext) hDf) ?_;simp only[zz];refine cT O (fun hb=>nV (aX hb O)) (aI (bW O O O) (aI aO (bC ?_)));intro u m;apply aU 1 [] m;simp only[↓aD];exact aT O O ⟨_,O,m.ext,O⟩
def Gk(Y:List (P3 × Bool))(dn:List (P3 × Bool)):Nat:=((dn.map (·.1)).filter fun k=>(cL Y k).getD false).length
theorem app{Y dn:List (P3 × Bool)}{b:Bool}(h:(cL Y k).getD false=true):Gk Y (dn++[(k,b)])=Gk Y dn+1:=by
 unfold Gk;rw[cv,gj,au];simp[h]
theorem apq{Y dn:List (P3 × Bool)}{b:Bool}(h:(cL Y k).getD false=false):Gk Y (dn++[(k,b)])=Gk Y dn:=by
 unfold Gk;rw[cv,gj,au];simp[h]
theorem aeD(Y dn:List (P3 × Bool)):Gk Y dn≤dn.length:=by
 unfold Gk;have:=List.length_filter_le (fun k=>(cL Y k).getD false) (dn.map (·.1));rwa [ct] at this
theorem aga{Y dn D:List (P3 × Bool)}(h:dn.Perm D):Gk Y dn=Gk Y D:=by
 unfold Gk;exact ((h.map Prod.fst).filter _).length_eq
theorem agb{cf:Nat}{ex ey ef:Array ck}{X Y F:List (P3 × Bool)}{ts:List T3}{p:P3}(w:aj)(hB91:fR w g91 [.pointer (some ⟨g90,0,none⟩),.int .i64 p.x,.int .i64 p.y,.int .i64 p.z,.int .i64 q.x,.int .i64 q.y,.int .i64 q.z,.map (some gx),.map (some gy),.slice Am nm cm,.slice Ao no co,.slice Ar nr cr] 218)(hB90:fR w g90 [.slice A N cap,.map (some ga),.map (some gf)] 109)(hMx:jO w gx ex cx)(hDx:bT pt bj X ex cx)(hMy:jO w gy ey cy)(hDy:bT pt bj Y ey cy)(hXl:X.length≤100000000):dA prog 101 [.pointer (some ⟨g91,0,none⟩)] w (fun v _=>v=.bool (decide (Gk Y X=2))):=by
 refine⟨bJ func101 (by kernel_rfl),?_⟩;have m:=Mem.refl w
 go_enter func101,ntmps101
 apply fI 14 [0] m;simp only[↓aD,Rl,aa];refine aS O ((hB91.ext m.ext).lies1 tI O) ?_;simp only[zz];refine wE m nP O (hMx.ext m.ext) ?_;intro r1 u m;apply aL 2 [0] m;simp only[↓aD];refine bX [3] [4,10,11,12,13,14,15,16,17,18,19,20,21] (fun n vs wl=>∃(dn rs:List (P3 × Bool)) (sn:Array Nat) (cc:Nat),vs=[.int .i64 (cc:Int)]∧Mem w wl [iI r1 gx cx sn]∧(oC pt bj X ex sn dn rs)∧(cc=Gk Y dn)∧(n=rs.length)) ?_ ?_
 ·
  exact⟨_,[],X,#[],0,O,m,oC.start hDx,O,O⟩
 · intro n vs wr hI u K1 hK1
   obtain⟨dn,rs,sn,cc,rfl,m,hT,hcc0,hn⟩:=hI;have hlen:=hT.len;simp only[zu,zF,zG];apply aK 2 [0] m;simp only[↓aD];refine Ml m 0 O O (hMx.ext m.ext) hDx hT ?_;intro bb kk vv sn u m hN;simp only[zF,zG] at m;refine aC (pX O) ?_;apply aL 2 [0] m;simp only[↓aD];refine cR O ?_ ?_<;>intro hc1
   ·
    obtain⟨kp,kb,rs2,hp,hT2⟩:=Hx hc1 hN;apply aK 4 [0] m;simp only[↓aD];refine fO (tM O (m.r 0 O) (hMx.ext m.ext) hDx hT2) ?_;simp only[zz];apply jS 5 [0,0] m;simp only[↓aD,eS,aQ,aa];intro g2 u m;refine mq m aB (by kernel_rfl) (dZ 3 [] ?_);simp only[↓aD,aiz,aa];refine ql O (fun u m=>((hB91.ext m.ext).lies1 tI O)) ?_;simp only[zz];refine ql O (fun u m=>((m.b 0 O).full aG aA)) ?_;simp only[zz];refine kP (fun u m=>eH (ek:=pt) (en:=bj) (k:=kp) (v0:=false) nP oN gC O O (hMy.ext m.ext) hDy) ?_;simp only[zz];refine bC ?_;intro u m;refine gc (cR O (fun hc2=>?_) (fun hc2=>?_))
    ·
     apply aK 2 [0] m;simp only[↓aD];refine aC (fC O O (bP (by have:=aeD Y dn;omega) (by have:=aeD Y dn;omega))) ?_;apply aL 3 [0] m;simp only[↓aD];exact hK1 rs2.length _ _ (by rw[hn,hp.length_eq];exact fc _) (by kernel_rfl) ⟨dn++[(kp,kb)],rs2,_,cc+1,O,(m.sel [false,true]),hT2,by rw[app hc2,hcc0],O⟩
    ·
     apply aK 2 [0] m;simp only[↓aD];exact hK1 rs2.length _ _ (by rw[hn,hp.length_eq];exact fc _) (by kernel_rfl) ⟨dn++[(kp,kb)],rs2,_,cc,O,(m.sel [false,true]),hT2,by rw[apq hc2,hcc0],O⟩
   ·
    obtain rfl:=Hw hc1 hN;have hcc:=aga (Y:=Y) hT.done;apply aK 8 [0] m;simp only[↓aD];refine aT O O ?_;try simp only[zD,zE]
    exact⟨_,O,m.ext,by rw[←hcc,←hcc0];exact congrArg bj (decide_eq_decide.2 (by omega))⟩
def agc(F Y:List (P3 × Bool))(q k:P3):Bool:=decide (¬(k.x=q.x∧k.y=q.y∧k.z=q.z))&&(cL F k).getD false && !(cL Y k).getD false
def Zm(X Y F:List (P3 × Bool))(q:P3):Bool:=!(cL F q).getD false||(X.map Prod.fst).all fun k=>!agc F Y q k
theorem apr{X Y F:List (P3 × Bool)}(h:(!(cL F q).getD false)=true):Zm X Y F q=true:=by unfold Zm;rw[h];rfl
theorem amn{X Y F:List (P3 × Bool)}{b:Bool}{dn rs:List (P3 × Bool)}(h:(!(cL F q).getD false)=false)(hp:(dn++[(k,b)]++rs).Perm X)(hb:agc F Y q k=true):Zm X Y F q=false:=by
 unfold Zm;rw[h,Bool.false_or,oa];refine⟨k,eh.2 ⟨(k,b),hp.mem_iff.1 (by simp),O⟩,by rw[hb];decide⟩
theorem ajp{X Y F:List (P3 × Bool)}{dn:List (P3 × Bool)}(hp:dn.Perm X)(hb:∀x∈dn,agc F Y q x.1=false):Zm X Y F q=true:=by
 unfold Zm;rw[Bool.or_eq_true];refine .inr (ep.2 fun k hk=>?_);obtain⟨x,hx,rfl⟩:=eh.1 hk;rw[hb x (hp.mem_iff.2 hx)];rfl
theorem ajq{ex ey ef:Array ck}{X Y F:List (P3 × Bool)}{ts:List T3}{p:P3}(w:aj)(hB91:fR w g91 [.pointer (some ⟨g90,0,none⟩),.int .i64 p.x,.int .i64 p.y,.int .i64 p.z,.int .i64 q.x,.int .i64 q.y,.int .i64 q.z,.map (some gx),.map (some gy),.slice Am nm cm,.slice Ao no co,.slice Ar nr cr] 218)(hB90:fR w g90 [.slice A N cap,.map (some ga),.map (some gf)] 109)(hMx:jO w gx ex cx)(hDx:bT pt bj X ex cx)(hMy:jO w gy ey cy)(hDy:bT pt bj Y ey cy)(hMf:jO w gf ef cf)(hDf:bT pt bj F ef cf):dA prog 103 [.pointer (some ⟨g91,0,none⟩)] w (fun v _=>v=.bool (Zm X Y F q)):=by
 refine⟨bJ func103 (by kernel_rfl),?_⟩;have m:=Mem.refl w
 go_enter func103,ntmps103
 apply fI 6 [0] m;simp only[↓aD];refine mq m aB (by kernel_rfl) (dZ 3 [] ?_);simp only[↓aD,aiy,aa];refine ql O (fun u m=>((hB91.ext m.ext).lies1 Xu O)) ?_;simp only[zz];refine aI (dJ O) (dZ 1 [] ?_);simp only[↓aD,Ri,aa];refine ql O (fun u m=>((hB90.ext m.ext).lies1 tI O)) ?_;simp only[zz];refine dZ 3 [] ?_;simp only[↓aD,Rk,aa];refine ql O (fun u m=>((hB91.ext m.ext).lies aG aA O O)) ?_;simp only[zz,zy,aq,aa,ag,ad];refine kP (fun u m=>eH (ek:=pt) (en:=bj) (k:=q) (v0:=false) nP oN gC O O (hMf.ext m.ext) hDf) ?_;simp only[zz];refine aI (nV O) (bC ?_);intro u m;refine gc ?_;simp only[zz];refine cR O ?_ ?_<;>intro hc1
 ·
  apply aK 5 [] m;simp only[↓aD];refine aT O O ?_;try simp only[zD,zE]
  exact⟨_,O,m.ext,by rw[apr hc1]⟩
 ·
  apply aK 7 [0] m;simp only[↓aD,Rl,aa];refine aS O ((hB91.ext m.ext).lies1 tI O) ?_;simp only[zz];refine wE m nP O (hMx.ext m.ext) ?_;intro r1 u m;apply aL 2 [0] m;simp only[↓aD];refine bX [] [2,3,22,23,24,25,26,27,28,29,30,31,32,33,34,35,36,37,38,39,40,41,42,43,44,45,46,47,48,49,50,51] (fun n vs wl=>∃(dn rs:List (P3 × Bool)) (sn:Array Nat),vs=[]∧Mem w wl [iI r1 gx cx sn]∧(oC pt bj X ex sn dn rs)∧(∀x∈dn,agc F Y q x.1=false)∧(n=rs.length)) ?_ ?_
  ·
   exact⟨_,[],X,#[],rfl,m,oC.start hDx,(fun x h=>(by cases h)),rfl⟩
  · intro n vs wr hI u K1 hK1
    obtain⟨dn,rs,sn,rfl,m,hT,hb0,hn⟩:=hI;simp only[zu,zF,zG];apply aK 2 [0] m;simp only[↓aD];refine Ml m 0 O O (hMx.ext m.ext) hDx hT ?_;intro bb kk vv sn u m hN;simp only[zF,zG] at m;refine aC (pX O) ?_;apply aL 2 [0] m;simp only[↓aD];refine cR O ?_ ?_<;>intro hc2
    ·
     obtain⟨kp,kb,rs2,hp,hT2⟩:=Hx hc2 hN;apply aK 4 [0] m;simp only[↓aD];refine fO (tM O (m.r 0 O) (hMx.ext m.ext) hDx hT2) ?_;simp only[zz];apply jS 5 [0,0] m;simp only[↓aD,eS,aQ,aa];intro g2 u m;refine mq m aB (by kernel_rfl) (dZ 4 [0] ?_);simp only[↓aD,aQ,Rk,aa];refine ql O (fun u m=>((hB91.ext m.ext).lies aG aA O O)) ?_;simp only[zz,zy,aq,aa,ag,ad];refine aI (fH O O) (aI aH (cT O (fun hb=>aH) (cT O (fun hb=>dJ (aX hb O)) ?_)));simp only[zz];refine cT O (fun hb=>aW (c:=0) nQ O Px (aX hb O) O) ?_;simp only[zz];refine eF O (fun hb u m=>aY (aX hb O) ((hB91.ext m.ext).lies1 Xu O)) (cT O (fun hb=>dJ (aX hb O)) (cT O (fun hb=>aW (c:=0) underlying109 O Dj (aX hb O) O) ?_));simp only[zz];refine eF O (fun hb u m=>aY (aX hb O) ((hB90.ext m.ext).lies1 tI O)) (eF O (fun hb u m=>aY O ((m.b 0 O).full aG aA)) (eF O (fun hb u m=>eH (ek:=pt) (en:=bj) (k:=kp) (v0:=false) nP oN gC (aX hb O) (aX hb O) (hMf.ext m.ext) hDf) ?_));simp only[zz];refine aI (bW O O O) (aI aH (cT O (fun hb=>aH) (cT O (fun hb=>dJ (aX hb O)) ?_)));simp only[zz];refine cT O (fun hb=>aW (c:=0) nQ O Dj (aX hb O) O) ?_;simp only[zz];refine eF O (fun hb u m=>aY (aX hb O) ((hB91.ext m.ext).lies1 tI O)) (eF O (fun hb u m=>aY O ((m.b 0 O).full aG aA)) (eF O (fun hb u m=>eH (ek:=pt) (en:=bj) (k:=kp) (v0:=false) nP oN gC (aX hb O) (aX hb O) (hMy.ext m.ext) hDy) ?_));simp only[zz];refine cT O (fun hb=>nV (aX hb O)) (aI (bW O O O) (bC ?_));intro u m;refine gc ?_;simp only[zz];refine cR O ?_ ?_<;>intro hc3
     ·
      apply aK 5 [] m;simp only[↓aD];refine aT O O ?_;try simp only[zD,zE]
      exact⟨_,O,m.ext,by rw[amn hc1 hT2.1 hc3]⟩
     ·
      apply aK 2 [0] m;simp only[↓aD];exact hK1 rs2.length _ _ (by rw[hn,hp.length_eq];exact fc _) (by kernel_rfl) ⟨dn++[(kp,kb)],rs2,_,O,(m.sel [false,true]),hT2,(fun x hx=>(bi.1 hx).elim (hb0 x) fun h=>(by rw[bf.1 h];exact hc3)),O⟩
    ·
     obtain rfl:=Hw hc2 hN;apply aK 6 [] m;simp only[↓aD];refine aT O O ?_;try simp only[zD,zE]
     exact⟨_,O,m.ext,by rw[ajp hT.done hb0]⟩
theorem Gl  : decide (bB t.normal.x=0∧bB t.normal.y=0∧bB t.normal.z=0)=fN t:=by
 unfold fN;refine decide_eq_decide.2 ?_;rw[cI,cI,cI];show (dR t.a t.b t.c).x=0∧(dR t.a t.b t.c).y=0∧(dR t.a t.b t.c).z=0↔_
 unfold jC;generalize dR t.a t.b t.c=n;by_cases h1:n.x=0 <;> by_cases h2:n.y=0 <;> by_cases h3:n.z=0 <;> simp[h1,h2,h3]
def agd(o t:T3):Bool:=!fN t&&decide (Tz o t=1)
def adn(os ms:List T3):Bool:=(os.zip ms).all fun x=>agd x.1 x.2
theorem ajr{k:Nat}{x:T3 × T3}:(os.zip ms)[k]? = some x↔os[k]? = some x.1∧ms[k]? = some x.2:=by
 obtain⟨a,b⟩:=x;rw[List.getElem?_zip_eq_some]
theorem amo{k:Nat}{o:T3}(ho:os[k]? = some o)(ht:ms[k]? = some t)(h:(fN t||decide (¬Tz o t=1))=true):adn os ms=false:=by
 unfold adn;rw[oa];refine⟨(o,t),be (ajr.2 ⟨ho,ht⟩),?_⟩;unfold agd;cases hf:fN t <;> rw[hf] at h <;> simp at h ⊢;exact h
theorem ajs(h:∀(j:Nat) (o t:T3),os[j]? = some o→ms[j]? = some t→agd o t=true):adn os ms=true:=by
 unfold adn;rw[ep];intro x hx;obtain⟨j,hj⟩:=dh.1 hx;obtain⟨h1,h2⟩:=ajr.1 hj;exact h j _ _ h1 h2
theorem aqZ{o:T3}(h:(fN t||decide (¬Tz o t=1))=false):agd o t=true:=by
 unfold agd;cases hf:fN t <;> rw[hf] at h <;> simp at h ⊢;exact h
theorem ado{cx cy cf:Nat}{ex ey ef:Array ck}{X Y F:List (P3 × Bool)}{ts:List T3}{p:P3}(w:aj)(hB91:fR w g91 [.pointer (some ⟨g90,0,none⟩),.int .i64 p.x,.int .i64 p.y,.int .i64 p.z,.int .i64 q.x,.int .i64 q.y,.int .i64 q.z,.map (some gx),.map (some gy),.slice Am nm cm,.slice Ao no co,.slice Ar nr cr] 218)(hB90:fR w g90 [.slice A N cap,.map (some ga),.map (some gf)] 109)(hTm:bU w Am nm ms)(hTo:bU w Ao no os)(hno:no=nm)(hN:nm≤10000000):dA prog 104 [.pointer (some ⟨g91,0,none⟩)] w (fun v _=>v=.bool (adn os ms)):=by
 refine⟨bJ func104 (by kernel_rfl),?_⟩;have m:=Mem.refl w;subst hno
 go_enter func104,ntmps104
 apply fI 10 [0] m;simp only[↓aD,Io,aa];refine aS O ((hB91.ext m.ext).lies1 sL O) ?_;simp only[zz];apply aL 4 [0] m;simp only[↓aD,iM];refine bX [10] [2,3,4,11,12,13,14,15,16,17,18,19,20,21,22,23,24,25,26,27,28,29] (fun n vs wl=>∃(k:Nat),vs=[.int .i64 (k:Int)]∧Mem w wl []∧(∀(j:Nat) (o t:T3),j<k→os[j]? = some o→ms[j]? = some t→agd o t=true)∧(k≤no)∧(n=no-k)) ?_ ?_
 ·
  exact⟨_,0,O,m,(fun j o t h=>by omega),bw _,O⟩
 · intro n vs wr hI u K1 hK1
   obtain⟨k,rfl,m,hu0,hk,hn⟩:=hI;simp only[zu,zF,zG];apply aK 5 [0,0] m;simp only[↓aD];refine bD O ?_ ?_<;>intro hc1
   ·
    obtain⟨t,ht,hti,a,rfl,hrow⟩:=hTm.get (i:=k) (by omega);obtain⟨o,ho,hoi,a2,rfl,hrow2⟩:=hTo.get (i:=k) (by omega);apply aK 6 [0] m;simp only[↓aD];refine aC (aF cD aP O O (by omega) (by omega) (bZ (ah _))) ?_;simp only[zz];refine aS O ((hrow.ext m.ext).lies cA aP) ?_;simp only[zz];apply jS 5 [0,0] m;simp only[↓aD,lM,eA,aa];intro g1 u m;refine mq m aB (by kernel_rfl) (ql O (fun u m=>((m.b 0 O).full cA aP)) ?_);simp only[zz];refine fD O O (Zk (t:=t)) (aI aH (iO O (fun hb=>aH) (iO O (fun hb=>dJ (aX hb O)) ?_)));simp only[zz];refine iO O (fun hb=>aW (c:=0) nQ O iG (aX hb O) O) ?_;simp only[zz];refine pU O (fun hb u m=>aY (aX hb O) ((hB91.ext m.ext).lies1 sL O)) (iO O (fun hb=>aH) ?_);simp only[zz];refine iO O (fun hb=>aF cD aP (aX hb O) (aX hb O) (by omega) (by omega) (bZ (ah _))) ?_;simp only[zz];refine pU O (fun hb u m=>aY (aX hb O) ((hrow2.ext m.ext).lies cA aP)) (pU O (fun hb u m=>aY O ((m.b 0 O).full cA aP)) (ad0 O O (fun hb=>by simp only[List.toList_toArray,List.map_cons,List.map_nil,zA,zB,zC,zD,zE,hb,jI];rfl) (fun hb=>ajn (t:=o) (r:=t)) (iO rfl (fun hb=>qM (aX hb rfl) rfl) (aI (cC rfl rfl rfl) (bC ?_)))));intro u m;refine gc ?_;simp only[zz];refine cR O ?_ ?_<;>intro hc2
    ·
     rw[Gl] at hc2;apply aK 5 [] m;simp only[↓aD];refine aT O O ?_;try simp only[zD,zE]
     exact⟨_,O,m.ext,by rw[amo ho ht hc2]⟩
    ·
     rw[Gl] at hc2;apply aK 6 [0] m;simp only[↓aD];refine⟨by omega,?_⟩;exact hK1 (no-(k+1)) _ _ (by omega) (by kernel_rfl) ⟨k+1, rfl, (m.sel [false]), (fun j o2 t2 hj h1 h2 => by
      rcases Nat.lt_or_ge j k with h | h
      · exact hu0 j o2 t2 h h1 h2
      · obtain rfl:j=k:=by omega
        rw[ho] at h1;rw[ht] at h2;cases h1;cases h2;exact aqZ hc2),by omega,O⟩
   ·
    apply aK 6 [] m;simp only[↓aD];refine aT O O ?_;try simp only[zD,zE]
    exact⟨_,O,m.ext,by rw[ajs fun j o t h1 h2=>hu0 j o t (by have:=(ap.1 h1).1;have:=hTo.len;omega) h1 h2]⟩
theorem age{w:aj}{ts:List T3}(h:bU w A N ts)(hA:A.isNone=true):ts=[]:=by
 cases A with
 | some a=>cases hA
 | none =>
  cases ts with
  | nil=>rfl
  | cons t ts =>
   obtain⟨a,e,_⟩:=h.row 0 t rfl;cases e
theorem ajt{ts:List T3}(w:aj)(hT:bU w A N ts)(hN:N≤10000000):dA prog 169 [.slice A N cap] w (SL 39 9 (ts.flatMap aN) ts.length w):=by
 refine⟨bJ func169 (by kernel_rfl),?_⟩;have m:=Mem.refl w;have htl:=hT.len
 go_enter func169,ntmps169
 apply fI 8 [0] m;simp only[↓aD];refine aC (aao cD O O) ?_;apply aL 1 [0] m;simp only[↓aD];refine cR O ?_ ?_<;>intro hc1
 ·
  obtain rfl:=age hT hc1;apply aK 5 [] m;simp only[↓aD];exact aT O O ⟨_,O,m.ext,⟨none,0,0,O,O,Ow.nil _ _ _ _⟩⟩
 ·
  apply aK 3 [0] m;simp only[↓aD];refine aap cD (c:=9) (by kernel_rfl)  ?_;intro u g1 e_ h_ k_;replace m:=m.newB e_ h_ k_;simp only[zz];replace m:=m.own 0 O (n:=0) (c:=9) O (iK O);simp only[zG] at m;apply aL 1 [0] m;simp only[↓aD];refine bM m 0 O O cD jK O (by decide) O O (by rw[Dh,hT.len]) (bU.cells (hT.ext m.ext)) (wS _) (by omega) (by omega) ?_;intro A5 cap5 u m;simp only[zF,zG] at m;simp only[aq,b_] at m ⊢;apply aL 3 [] m;simp only[↓aD];exact aT O O ⟨_,O,m.ext,⟨_,_,_,htl.symm,O,(m.o 0 O)⟩⟩
end Go.Proofs.YtfekpcimgncioaaGreatDoor
namespace Go.Lith
open Go.RowKit
variable{t:T3}
theorem Se{l ys:List P3}(hn:l.Nodup)(h:ys.Perm l)(hs:ys.Pairwise fun a b=>¬b.Lt a):ys=Ai l:=by
 have h1:ys.Pairwise P3.Lt:=(hs.and (h.nodup_iff.2 hn)).imp fun {a b} k=>by
  rcases P3.lt_tri a b with e | e | e
  · exact e
  · exact absurd e k.2
  · exact absurd e k.1
 exact yJ P3.lt_irrefl (fun _ _ _=>P3.lt_trans) h1 (tN hn) fun p=>by rw[h.mem_iff,(oS l).mem_iff]
def kT(t:T3):T3:=match pZ t with
 | [a,b,c]=>⟨a,b,c⟩
 | _=>t
theorem Zn(t:T3):pZ t=[(kT t).a,(kT t).b,(kT t).c]:=by
 have h:(pZ t).length=3:=(oS _).length_eq;unfold kT;generalize pZ t=L at h;rcases L with _ | ⟨a,_ | ⟨b,_ | ⟨c,_ | ⟨d,L⟩⟩⟩⟩ <;> simp only[aw,bn] at h <;> first | omega | rfl
theorem aju{s:T3}:kT s=kT t↔pZ s=pZ t:=by
 rw[Zn s,Zn t];constructor
 · intro h;rw[h]
 · intro h
   simp only[List.cons.injEq,and_true] at h;obtain⟨a,b,c⟩:=h;cases hs:kT s;cases ht:kT t;simp only[hs,ht] at a b c;rw[a,b,c]
theorem abr{l:List T3}:(l.map kT).Nodup↔(l.map pZ).Nodup:=by
 unfold List.Nodup;rw[j_,j_];exact⟨fun h=>h.imp fun k e=>k (aju.2 e),fun h=>h.imp fun k e=>k (aju.1 e)⟩
theorem Sf(h:t.nd=true):[t.a,t.b,t.c].Nodup:=by
 obtain⟨h1,h2,h3⟩:=(Ga (t:=t)).1 h;simp only[List.nodup_cons,an,cg,or_false,not_or,not_false_eq_true,kj,and_true];exact⟨⟨h1,fun e=>h3 e.symm⟩,h2⟩
theorem aps{L:List T3}{k:Nat}(ht:L[k]? = some t)(h:kT t∈(L.take k).map kT):decide ((L.map pZ).Nodup)=false:=by
 rw[decide_eq_false_iff_not,←abr];intro hn;obtain⟨s,hs,e⟩:=eh.1 h;obtain⟨j,hj⟩:=dh.1 hs;rw[List.getElem?_take] at hj;split at hj
 · rename_i hjk
   have h1:(L.map kT)[j]? = some (kT t):=by rw[fb,hj];exact congrArg some e
   have h2:(L.map kT)[k]? = some (kT t):=by rw[fb,ht];rfl
   obtain⟨a1,a2⟩:=ap.1 h1;obtain⟨b1,b2⟩:=ap.1 h2;have:=(List.getElem_inj hn).1 (a2.trans b2.symm);omega
 · cases hj
theorem amp{L:List T3}{k:Nat}(ht:L[k]? = some t)(hn:((L.take k).map kT).Nodup)(h:kT t∉(L.take k).map kT):((L.take (k+1)).map kT).Nodup:=by
 rw[cH ht,cv];exact List.nodup_append.2 ⟨hn,by simp,fun a ha b hb e=>h (by rw[bf.1 hb] at e;exact e▸ha)⟩
end Go.Lith
namespace Go.Proofs.YtfekpcimgncioaaGreatDoor
open Go.Proofs.Tryz
open Go.RowKit Go.Lith
set_option maxRecDepth 100000
attribute [local irreducible] ar cl fU bS cO Code.wp
attribute [local congr] pD gF gG gH gI gJ kL gK gL gM gN gQ gR gS gT gU gV gW eU eV gX gY iA iB iC kN dF dG cW dD gZ kM eW eX eY iD iE kO
variable{N cap:Nat}
theorem ajv{w:aj}{A:Option Addr}{ps:List P3}(h:sU bO 3 w A N ps)(hA:A.isNone=true):ps=[]:=by
 cases A with
 | some a=>cases hA
 | none =>
  cases ps with
  | nil=>rfl
  | cons t ts =>
   obtain⟨a,e,_⟩:=h.row 0 t rfl;cases e
theorem arS{w:aj}{g:Nat}{t:T3}{T:az}(h:fR w g (aN t) T):sU bO 3 w (some ⟨g,0,none⟩) 3 [t.a,t.b,t.c]:=⟨rfl,fun i x hx=>by
 refine⟨⟨g,0,none⟩,O,?_⟩;rcases i with _ | _ | _ | i <;> simp at hx <;> subst hx
 · exact (h.row 0).take 3
 · exact (h.row 3).take 3
 · exact (h.row 6).take 3⟩
theorem ajw{ps:List P3}{A:Option Addr}(w:aj)(hT:sU bO 3 w A N ps)(hN:N≤10000000):dA prog 170 [.slice A N cap] w (SL 30 3 (ps.flatMap bO) ps.length w):=by
 refine⟨bJ func170 (by kernel_rfl),?_⟩;have m:=Mem.refl w;have htl:=hT.len
 go_enter func170,ntmps170
 apply fI 8 [0] m;simp only[↓aD];refine aC (aao cN O O) ?_;apply aL 1 [0] m;simp only[↓aD];refine cR O ?_ ?_<;>intro hc1
 ·
  obtain rfl:=ajv hT hc1;apply aK 5 [] m;simp only[↓aD];exact aT O O ⟨_,O,m.ext,⟨none,0,0,O,O,Ow.nil _ _ _ _⟩⟩
 ·
  apply aK 3 [0] m;simp only[↓aD];refine aap cN (c:=3) (by kernel_rfl)  ?_;intro u g1 e_ h_ k_;replace m:=m.newB e_ h_ k_;simp only[zz];replace m:=m.own 0 O (n:=0) (c:=3) O (iK O);simp only[zG] at m;apply aL 1 [0] m;simp only[↓aD];refine bM m 0 O O cN mX O (by decide) O O (by rw[show (ps.flatMap lB).length=ps.length*3 from ahU,hT.len]) ((hT.ext m.ext).cells yC (by decide)) (Pq _) (by omega) (by omega) ?_;intro A5 cap5 u m;simp only[zF,zG] at m;simp only[aq,b_] at m ⊢;apply aL 3 [] m;simp only[↓aD];exact aT O O ⟨_,O,m.ext,⟨_,_,_,htl.symm,O,(m.o 0 O)⟩⟩
theorem aeE{w0 w:aj}{is:List It}{A:Option Addr}{n cap:Nat}{xs:List P3}(m:Mem w0 w is)(k:Nat)(hi:is[k]? = some (oI 30 3 A n cap (xs.flatMap bO)))(hsz:n<4611686018427387904) :
 Calls prog 128 [.slice A n cap,.func (.func 70) #[] #[]].toArray w fun e w'=>∃v i,e=.returned v∧Mem w0 w' (is.set k i)∧(v=.tuple #[]∧∃ys:List P3,i=oI 30 3 A n cap (ys.flatMap bO)∧ys.Perm xs∧ys.Pairwise fun a b=>¬b.Lt a) :=
 (Bu (enc:=bO) Tryz.sort128 (fun w=>pK aG w) (fun w=>eG aA w) (fun _=>rfl) (by decide) Mm qK aaM (fun x y=>Rx) m k hi hsz).mono (by
  rintro e w' ⟨v,i,h1,h2,h3,ys,h4,h5,h6⟩;exact⟨v,i,h1,h2,h3,ys,h4,h5,h6.imp fun h=>by simpa[Go.Proofs.ltOf,mA] using h⟩)
theorem anp:sM prog 38 tr:=by
 refine sM.agg (cs:=fun p=>#[.int .i64 p.a.x,.int .i64 p.a.y,.int .i64 p.a.z,.int .i64 p.b.x,.int .i64 p.b.y,.int .i64 p.b.z,.int .i64 p.c.x,.int .i64 p.c.y,.int .i64 p.c.z]) (fun _=>rfl) underlying38 (fun e p=>?_) (fun p q=>?_) (fun p=>?_)
 · refine wM.array (d:=9999) underlying38 aA fun i hi=>?_
   obtain rfl | rfl | rfl:=(by omega:i=0∨i=1∨i=2)
   · refine⟨_,cX aG aA O,?_⟩
     refine wM.struct (d:=9998) fT fun f hf=>?_;simp only[an,cg,or_false] at hf;rcases hf with rfl | rfl | rfl
     · exact⟨_,cZ bF O,wM.int (d:=9997) jN⟩
     · exact⟨_,cZ bF O,wM.int (d:=9997) jN⟩
     · exact⟨_,cZ bF O,wM.int (d:=9997) jN⟩
   · refine⟨_,cX aG aA O,?_⟩
     refine wM.struct (d:=9998) fT fun f hf=>?_;simp only[an,cg,or_false] at hf;rcases hf with rfl | rfl | rfl
     · exact⟨_,cZ bF O,wM.int (d:=9997) jN⟩
     · exact⟨_,cZ bF O,wM.int (d:=9997) jN⟩
     · exact⟨_,cZ bF O,wM.int (d:=9997) jN⟩
   · refine⟨_,cX aG aA O,?_⟩
     refine wM.struct (d:=9998) fT fun f hf=>?_;simp only[an,cg,or_false] at hf;rcases hf with rfl | rfl | rfl
     · exact⟨_,cZ bF O,wM.int (d:=9997) jN⟩
     · exact⟨_,cZ bF O,wM.int (d:=9997) jN⟩
     · exact⟨_,cZ bF O,wM.int (d:=9997) jN⟩
 · exact (an5 _).iff ⟨fun h=>Ky (P3.eq h.1 h.2.1 h.2.2.1) (P3.eq h.2.2.2.1 h.2.2.2.2.1 h.2.2.2.2.2.1) (P3.eq h.2.2.2.2.2.2.1 h.2.2.2.2.2.2.2.1 h.2.2.2.2.2.2.2.2),fun h=>by subst h;simp only[and_self]⟩
 · simp[tr,Instr.sameBits]
theorem agf{g90 g91 ga gf gx gy cx cy cf nm cm no co nr cr:Nat}{A Am Ao Ar:Option Addr}{ex ey ef:Array ck}{X Y F:List (P3 × Bool)}{ts:List T3}{p q:P3}{ms rs:List T3}(w:aj)(hB91:fR w g91 [.pointer (some ⟨g90,0,none⟩),.int .i64 p.x,.int .i64 p.y,.int .i64 p.z,.int .i64 q.x,.int .i64 q.y,.int .i64 q.z,.map (some gx),.map (some gy),.slice Am nm cm,.slice Ao no co,.slice Ar nr cr] 218)(hB90:fR w g90 [.slice A N cap,.map (some ga),.map (some gf)] 109)(hTm:bU w Am nm ms)(hTr:bU w Ar nr rs)(hnd:∀t∈ms++rs,t.nd=true)(hN:nm+nr≤10000000):dA prog 102 [.pointer (some ⟨g91,0,none⟩)] w (fun v _=>v=.bool (decide (((ms++rs).map pZ).Nodup))):=by
 refine⟨bJ func102 (by kernel_rfl),?_⟩;have m:=Mem.refl w;have htm:=hTm.len;have htr:=hTr.len;have hit:∀t∈ms++rs,IT t:=fun t ht=>(bi.1 ht).elim (hTm.it t) (hTr.it t)
 go_enter func102,ntmps102
 apply fI 6 [0] m;simp only[↓aD];refine lZ m ?_;intro q8 u m;have hD8:=bT.nil (K:=T3) (V:=Bool) tr bj;apply aL 4 [0] m;simp only[↓aD];refine mh m [true] [(0,true),(1,true),(2,true),(5,true),(6,true),(7,true),(11,true),(3,true),(8,true),(4,false),(9,false),(10,true)] aB (by kernel_rfl) (bQ (fun _ _ _ _ _ h=>h)) (ol:=?_) ?hol ?_
 case hol=>simp only[zw,zQ,zR];try rfl
 intro u m;refine Hv 7 [] ?_;simp only[↓aD,Io,Rm,aa];refine eE O (fun u m=>((hB91.ext m.ext).lies1 sL O)) ?_;simp only[zz];refine eE O (fun u m=>((hB91.ext m.ext).lies1 sL O)) ?_;simp only[zz];refine bL (bH O O (ajt (ts:=ms) _ (hTm.ext m.ext) (by omega)) ?_);rintro v u e_ ⟨A5,cap5,n5,hn5,rfl,h_⟩;replace m:=m.newO e_ h_;refine aM ⟨m.sel [false,true],?_⟩;refine bL ?_;simp only[zz];refine bM m 0 O O cD jK O (by decide) O O (by rw[Dh,hTr.len]) (bU.cells (hTr.ext m.ext)) (wS _) (by omega) (by omega) ?_;intro A5 cap5 u m;simp only[zF,zG] at m;rw[←List.flatMap_append] at m;refine aM ⟨m.sel [false,true],?_⟩;refine aZ (Jw O cD O) (bY ?_);apply aU 1 [0] m;simp only[↓aD];refine bX [20] [2,5,6,7,21,22,23,24,25,26,27,28,29,30,31,32,33,34,35,36,37] (fun n vs wl=>∃(k:Nat) (es:Array ck) (c:Nat),vs=[.int .i64 (k:Int)]∧Mem w wl [oI 39 9 A5 (n5+nr) cap5 ((ms++rs).flatMap aN),mI q8 es c]∧(bT tr bj (fZ [] (((ms++rs).take k).map kT)) es c)∧((((ms++rs).take k).map kT).Nodup)∧(k≤n5+nr)∧(n=n5+nr-k)) ?_ ?_
 ·
  exact⟨_,0,_,_,O,m,hD8,kj,bw _,O⟩
 · intro n vs wr hI u K1 hK1
   obtain⟨k,es8,c8,rfl,m,hD8,hu,hk,hn⟩:=hI;simp only[zu,zF,zG];apply aK 5 [0,0] m;simp only[↓aD];refine bD O ?_ ?_<;>intro hc1
   ·
    obtain⟨t,ht,hti,a,hA5,hr5⟩:=((m.o 0 rfl).tris hit).get (i:=k) (by omega);subst hA5;apply aK 5 [0] m;simp only[↓aD];refine aC (aF cD aP O O (by omega) (by omega) (bZ (ah _))) ?_;simp only[zz];refine aS O (hr5.lies cA aP) ?_;simp only[zz];apply jS 5 [0,0] m;simp only[↓aD,lM,eA,aa];intro g2 u m;refine aC (ajo cF aA O) ?_;apply aL 5 [0] m;simp only[↓aD,reduceIte,Nat.reduceEqDiff,ag,aa];refine bH O O (ajw (ps:=[t.a,t.b,t.c]) _ (arS (m.b 0 O)) (by decide)) ?_;rintro v u e_ ⟨A6,cap6,n6,hn6,rfl,h_⟩;replace m:=m.newO e_ h_;obtain rfl:n6=3:=hn6;apply aL 5 [0] m;simp only[↓aD];refine mL m 0 ach O O (fun m=>aeE m 0 O (by decide)) ?_;rintro v i u m ⟨rfl,ys,rfl,hys,hso⟩;simp only[zF,zG] at m;simp only[zz];obtain rfl:ys=[(kT t).a,(kT t).b,(kT t).c]:=by rw[←Zn];exact Se (Sf (hnd t (be ht))) hys hso
    obtain⟨g6,rfl⟩:=(m.o 0 rfl).some (by decide);apply aL 4 [0] m;simp only[↓aD];refine aC (af8 underlying38 O (by decide)) ?_;simp only[zz];refine aS O (show eR _ _ _ _ (tr (kT t)) from (m.o 0 O).rows.lies an2 ahu) ?_;simp only[zz];apply jS 8 [0,0,0] m;simp only[↓aD,aqC,ana,aa];intro g3 u m;refine fO (eH (ek:=tr) (en:=bj) (k:=kT t) (v0:=false) underlying219 oN anp O O (m.p 4 O) hD8) ?_;simp only[zz];apply aL 1 [0] m;simp only[↓aD];refine cR O ?_ ?_<;>intro hc2
    ·
     rw[rV,decide_eq_true_eq] at hc2;apply aK 5 [] m;simp only[↓aD];refine aT O O ?_;try simp only[zD,zE]
     exact⟨_,O,m.ext,by rw[aps ht hc2]⟩
    ·
     rw[rV,decide_eq_false_iff_not] at hc2;apply aK 4 [0,0] m;simp only[↓aD,ana];refine nI (ek:=tr) (en:=bj) (a:=kT t) (v:=true) m 4 O underlying219 anp O O O hD8 ?_;intro es8 c8 u m hD8;simp only[zF,zG] at m;rw[←mH] at hD8;apply aL 6 [0] m;simp only[↓aD];refine⟨by omega,?_⟩;exact hK1 (n5+nr-(k+1)) _ _ (by omega) (by kernel_rfl) ⟨k+1,_,_,O,(m.sel [false,false,false,true,true]),by rw[cH ht,cv];exact hD8,amp ht hu hc2,by omega,O⟩
   ·
    obtain rfl:k=n5+nr:=by omega
    rw[show (ms++rs).take (n5+nr)=(ms++rs) from List.take_of_length_le (by rw[au];omega)] at hu;apply aK 6 [] m;simp only[↓aD];refine aT O O ?_;try simp only[zD,zE]
    exact⟨_,O,m.ext,by rw[decide_eq_true (abr.1 hu)]⟩
end Go.Proofs.YtfekpcimgncioaaGreatDoor
namespace Go.Lith
open Go.RowKit
variable{β:Type}
def Mx(o:Oper):Bool:=match o.op with | .defer _=>false | _=>true
theorem ajx{o:Oper}(h:Mx o=true):∀c,o.op≠.defer c:=fun c e=>by unfold Mx at h;rw[e] at h;cases h
section
variable {P:bp} {Q:Exit→Act→aj→Prop} {r n:Nat}
theorem Zo{row:String}{args:Array ai}{w:aj}{R:ai→aj→Prop}(h:Rows P row args w R):RowsIn (Fence.wide.inRound r) n P row args w R :=
 fun c cs _=>let ⟨v,w',q,s⟩:=h c cs;⟨v,w',q,stepsIn_wide.2 s⟩
theorem Uc{f:FuncId}{args:Array ai}{w:aj}{R:Ending→aj→Prop}(h:Calls P f args w R):CallsIn (Fence.wide.inRound r) n P f args w R :=
 (callsIn_wide (n:=n)).2 h
theorem Oper.wpIn_of{o:Oper}{a:Act}{w:aj}{K:Act→aj→Prop}(hd:Mx o=true)(h:o.wp P a w K Q):o.wpIn (Fence.wide.inRound r) n P a w K Q:=by
 unfold Oper.wp at h;refine⟨fun _ _=>trivial,?_⟩;rw[Oper.semAt_eq _ _ _ (ajx hd)];generalize (de a.eval o).run P w=z at *
 have h0:(Fence.wide.inRound r).depth.isSome=true→1≤n:=fun h=>by cases h
 cases z with
 | ok x w'=>cases x <;> simp only[nh,pa] at h ⊢ <;> first | exact h | exact⟨h0,Uc h⟩ | exact⟨h0,Zo h⟩ | exact h.elim
 | halt x w'=>cases x <;> simp only[nh,pa] at h ⊢ <;> exact h
theorem Cr{ops:Array Oper}(hq:¬LetsOut Q):∀(l:List Oper) (a:Act) (w:aj),l.all Mx=true→ar P ops Q l a w→wpListIn (Fence.wide.inRound r) n P ops Q l a w
 | [],a,w,_,h=>h
 | o::l,a,w,hd,h=>by
  simp only[List.all_cons,bg] at hd;simp only[ar] at h;simp only[wpListIn];split
  · rename_i hw
    rw[if_pos hw] at h;rcases h with h | ⟨_,h⟩
    · exact Oper.wpIn_of hd.1 (Oper.wp_mono (fun a w k=>Cr hq l a w hd.2 k) h)
    · exact absurd h hq
  · rename_i hw
    rw[if_neg hw] at h;exact⟨fun _ _=>trivial,Cr hq l _ w hd.2 h⟩
theorem yZ{md:Region.Mode}{ops:Array Oper}(hq:¬LetsOut Q)(hd:∀(i:Nat) (o:Oper),ops[i]? = some o→Mx o=true):∀(f:Nat) (listed:Array Bool) (a:Act) (w:aj),wpAny P md ops Q f listed a w→wpAnyIn (Fence.wide.inRound r) n P md ops Q f listed a w
 | 0,listed,a,w,h=>h
 | f+1,listed,a,w,h=>by
  refine⟨h.1,fun i hi=>?_⟩;have h2:=h.2 i hi;unfold wpOp at h2;unfold wpOpIn;split
  · rename_i hn
    simp only[hn] at h2;exact yZ hq hd f _ a w h2
  · rename_i o ho
    simp only[ho] at h2;split
    · rename_i hw
      rw[if_pos hw] at h2;rcases h2 with h2 | ⟨_,h2⟩
      · exact Oper.wpIn_of (hd i o ho) (Oper.wp_mono (fun a w k=>yZ hq hd f _ a w k) h2)
      · exact absurd h2 hq
    · rename_i hw
      rw[if_neg hw] at h2;exact⟨fun _ _=>trivial,yZ hq hd f _ _ w h2⟩
class Fi(Q:Exit→Act→aj→Prop):Prop where
 h:¬LetsOut Q
instance {K:Act→aj→Prop}[q:Fi Q]:Fi (Exit.then K Q):=⟨fun⟨a,w,k⟩=>q.h ⟨a,w,k⟩⟩
instance {id:Nat}[q:Fi Q]:Fi (cw id Q):=⟨fun⟨a,w,k⟩=>q.h ⟨a,w,k⟩⟩
instance {α:Type}{B:Nat}{Kp:aj→aj→Prop}{I:List α→aj→Prop}{Ix:Code→List α→aj→Prop}{xs:List α}{W:aj}:Fi (ownPostG B Kp I Ix xs W):=⟨fun⟨_,_,k⟩=>k⟩
instance:Fi (fun _ _ _=>False):=⟨fun⟨_,_,k⟩=>k⟩
theorem cG{id:Nat}{l:List Oper}{a:Act}{w:aj}[hq:Fi Q](h:ar P l.toArray Q l a w)(hd:l.all Mx=true:=by rfl):(Code.region id l.toArray false).wpIn (Fence.wide.inRound r) n P Q a w:=wpIn_region_lit (Cr hq.h l a w hd h)
theorem nS{c1 c2:Code}{a:Act}{w:aj}(h:∀K:Act→aj→Prop,(∀a w,c2.wpIn (Fence.wide.inRound r) n P Q a w→K a w)→c1.wpIn (Fence.wide.inRound r) n P (Exit.then K Q) a w):(Code.seq c1 c2).wpIn (Fence.wide.inRound r) n P Q a w:=wpIn_seq_k h
variable {l:List ai} {ds:List dx} {w:aj} {c1 c2:Code}
theorem zW{x:bx}{b:Bool}(hx:ev l x=.bool b)(ht:b=true→c1.wpIn (Fence.wide.inRound r) n P Q (Fr l ds) w)(hf:b=false→c2.wpIn (Fence.wide.inRound r) n P Q (Fr l ds) w):(Code.cond x c1 c2).wpIn (Fence.wide.inRound r) n P Q (Fr l ds) w:=by
 refine wpIn_cond (t:=b) (by rw[kI,cK];exact hx) ?_;cases b with
 | false=>exact hf rfl
 | true=>exact ht rfl
theorem pB{id:Nat}{c:Code}{a:Act}(h:c.wpIn (Fence.wide.inRound r) n P (cw id Q) a w):(Code.block id c).wpIn (Fence.wide.inRound r) n P Q a w:=wpIn_block h
theorem ajy{a:Act}(h:Q .normal a w):Code.skip.wpIn (Fence.wide.inRound r) n P Q a w:=wpIn_skip h
theorem Oe{a:Act}(h:Q .ret a w):Code.ret.wpIn (Fence.wide.inRound r) n P Q a w:=wpIn_ret h
theorem As{C:aj→Prop}{id:Nat}{a:Act}{l:List Oper}(k:Nat)(hq:¬LetsOut Q)(hd:l.all Mx=true)(hm:P.follows .mixedOrders=true)(hB:Region.lexTailB .any l.toArray k=true)
 (hC:C { w with drawn:=w.drawn+1 })
 (h:cl P l.toArray C (fun a'=>∀w',C w'→ar P l.toArray Q (l.drop k) a' w') (l.take k) a):(Code.region id l.toArray true).wpIn (Fence.wide.inRound r) n P Q a w:=by
 simp only[Region.lexTailB,bg,decide_eq_true_eq] at hB;obtain⟨⟨⟨⟨hsel,hn⟩,hs⟩,hc⟩,hlex⟩:=hB;have hn':k<l.length:=by simpa using hn
 have htl:(l.take k).length=k:=by simp;omega
 have hdl:(l.drop k).length=l.toArray.size-k:=by simp
 have inv0:HeadInv .any l.toArray k (gd l.toArray.size false) :=
  ⟨by simp,fun j oj _ hl=>(by rw[getD_replicate_false] at hl;cases hl),fun t _ ht=>getD_in (by simpa using ht) (getD_replicate_false _ _)⟩
 have H:=xQ (md:=.any) (g:=l.toArray.size-k) hsel hs hc hn (l.take k) 0 _ a (fun j hj=>by
  have hj':j<k:=by rw[htl] at hj;exact hj
  simp[hj']) (by simpa using htl) inv0 (by rw[htl];exact hlex) h
 refine wpIn_region_any hm ?_;have:=tX (Q':=Q) (g:=l.toArray.size-k) (fun listed a' hL w' hw'=>by
  have:=wpAny_of_seq (md:=.any) (Q':=Q) (l.drop k) k listed a' w' (fun j=>by simp[di]) (by rw[hdl];exact hL.1) (hL.2 w' hw');rwa [hdl] at this) _ _ _ _ hC H
 rw[htl,show k+(l.toArray.size-k)=l.toArray.size by omega] at this;refine yZ hq (fun i o ho=>?_) _ _ _ _ this;have hi:o∈l:=by rw[List.getElem?_toArray] at ho;exact be ho
 exact ep.1 hd o hi
structure RX(w w':aj):Prop where
 os:w'.os=w.os
 tape:w'.tape=w.tape
 output:w'.output=w.output
 ko:KeepsOthers w w'
theorem RX.refl(w:aj):RX w w:=⟨rfl,rfl,rfl,KeepsOthers.refl w⟩
theorem RX.ext{W u u':aj}(h:RX W u)(e:fQ u u'):RX W u':=⟨e.os.trans h.os,e.tape.trans h.tape,e.output.trans h.output,h.ko.trans ⟨e.size,fun k o hk _=>e.block hk⟩⟩
theorem RX.chg{W u u':aj}{g:Nat}{cs:List ai}{t:az}(h:RX W u)(hB:fR u g cs t)(e:Chg u u' g):RX W u' :=
 ⟨e.os.trans h.os,e.tape.trans h.tape,e.output.trans h.output,h.ko.trans ⟨Nat.le_of_eq e.size.symm,fun k o hk ho=>(e.block k fun hkg=>by
  subst hkg;rw[show u.heap[k]? = _ from hB] at hk;cases hk;cases ho).trans hk⟩⟩
structure lP(W w0 w:aj)(is:List It):Prop extends Mem w0 w is where
 rx:RX W w
theorem lP.start{w0 w:aj}{is:List It}(m:Mem w0 w is):lP w w0 w is:=⟨m,RX.refl w⟩
theorem lP.e{W w0 w w':aj}{is:List It}(m:lP W w0 w is)(e:fQ w w'):lP W w0 w' is:=⟨m.ext' e,m.rx.ext e⟩
section
variable {W w0:aj} {is:List It} {ops:Array Oper} {rest:List Oper} {d:Nat} {ty T:az} {pos:String} {after:Array Edge} {x y:bx} {v:ai}
theorem Jd{cs:List ai}{z:ai}(m:lP W w0 w is)(hZ:nU P T z)(hv:z.cells=cs.toArray)(h:∀g u,lP W w0 u (bI g cs T::is)→ar P ops Q rest (Fr (l.set d (.pointer (some ⟨g,0,none⟩))) ds) u) :
 ar P ops Q (bm (some d) (.alloc T) ty pos after none::rest) (Fr l ds) w:=Cz hZ hv fun u g e hg hB=>h g u ⟨m.toMem.newB e hg hB,m.rx.ext e⟩
theorem aeF{g off:Nat}{cs us:List ai}{t:az}(m:lP W w0 w is)(k:Nat)(hk:is[k]? = some (bI g cs t))(hx:ev l x=.pointer (some ⟨g,off,none⟩))(hv:(ev l y).cells=us.toArray)(hc:dQ P T us.length)(hfit:off+us.length≤cs.length)(h1:(us.all (·.oneCell'))=true)
 (h:∀u,lP W w0 u (is.set k (bI g (over cs off us) t))→ar P ops Q rest (Fr l ds) u):ar P ops Q (bm none (.store T x y) ty pos after none::rest) (Fr l ds) w :=
 xR hx hv hc (m.b k hk) hfit (fV h1) fun u hC hB=>h u ⟨m.put k hk hC.os hC.tape hC.output (by rw[hC.size];exact av _) (fun b _ hne=>hC.block b fun e=>hne (by rw[e];rfl)) hB (.inl fun _ h=>h),m.rx.chg (m.b k hk) hC⟩
theorem Cs{g off:Nat}{cs us:List ai}{t:az}(m:lP W w0 w is)(k:Nat)(hk:is[k]? = some (bI g cs t))(hx:ev l x=.pointer (some ⟨g,off,none⟩))(hv:ev l y=.agg us.toArray)(hc:dQ P T us.length)(hfit:off+us.length≤cs.length)(h1:(us.all (·.oneCell'))=true)
 (h:∀u,lP W w0 u (is.set k (bI g (over cs off us) t))→ar P ops Q rest (Fr l ds) u):ar P ops Q (bm none (.store T x y) ty pos after none::rest) (Fr l ds) w:=aeF m k hk hx (by rw[hv];rfl) hc hfit h1 h
theorem jM{g off:Nat}{cs:List ai}{v:ai}{t:az}(m:lP W w0 w is)(k:Nat)(hk:is[k]? = some (bI g cs t))(hx:ev l x=.pointer (some ⟨g,off,none⟩))(hv:ev l y=v)(hc:dQ P T 1)(hfit:off+1≤cs.length)(h1:v.oneCell'=true∧v.cells = #[v])
 (h:∀u,lP W w0 u (is.set k (bI g (over cs off [v]) t))→ar P ops Q rest (Fr l ds) u):ar P ops Q (bm none (.store T x y) ty pos after none::rest) (Fr l ds) w:=aeF (us:=[v]) m k hk hx (by rw[hv];exact h1.2) hc hfit (by simp[h1.1]) h
theorem Of{f:FuncId}{fo:bx}{xs:Array bx}{args:List ai}{first cap:Array ai}{a0:Array az}(m:lP W w0 w is)(hf:ev l fo=.func (.func f) first cap)(hxs:first.toList++xs.toList.map (ev l)++cap.toList=args)(hc:dS P f args v)
 (h:∀u,lP W w0 u is→ar P ops Q rest (Fr (l.set d v) ds) u):ar P ops Q (bm (some d) (.call { callee:=.value fo,args:=xs,argTypes:=a0 }) ty pos after none::rest) (Fr l ds) w :=
 Xc hf hxs hc fun u e=>h u (m.e e)
theorem xI{id:Nat}{a:Act}{l:List Oper}[hq:Fi Q](m:lP W w0 w is)(k:Nat)(hm:P.follows .mixedOrders=true)(hB:Region.lexTailB .any l.toArray k=true)
 (h:cl P l.toArray (fun u=>lP W w0 u is) (fun a'=>∀u,lP W w0 u is→ar P l.toArray Q (l.drop k) a' u) (l.take k) a) (hd:l.all Mx=true:=by rfl):(Code.region id l.toArray true).wpIn (Fence.wide.inRound r) n P Q a w :=
 As (C:=fun u=>lP W w0 u is) k hq.h hd hm hB (m.e (fQ.refl w).drawn) h
variable {Qq:Act→Prop}
theorem El{a:Addr}(hx:ev l x=.pointer (some a))(hv:∀u,lP W w0 u is→eR P u T a v)(h:cl P ops (fun u=>lP W w0 u is) Qq rest (Fr (l.set d v) ds)):cl P ops (fun u=>lP W w0 u is) Qq (bm (some d) (.load T x) ty pos after none::rest) (Fr l ds) :=
 kP (fun u m=>aY hx (hv u m)) h
theorem agh{f:FuncId}{fo:bx}{xs:Array bx}{args:List ai}{first cap:Array ai}{a0:Array az}(hf:ev l fo=.func (.func f) first cap)(hxs:first.toList++xs.toList.map (ev l)++cap.toList=args)(hc:dS P f args v)
 (h:cl P ops (fun u=>lP W w0 u is) Qq rest (Fr (l.set d v) ds)):cl P ops (fun u=>lP W w0 u is) Qq (bm (some d) (.call { callee:=.value fo,args:=xs,argTypes:=a0 }) ty pos after none::rest) (Fr l ds):=by
 refine wpQuiet_step fun K hK=>?_;rw[if_pos (by simp[Region.wanted])];refine⟨v,fun w' hw=>?_,?_⟩
 · unfold Oper.quietAt
   rw[kI,pJ (hc w').1 hf hxs _ rfl];refine⟨O,(hc w').2.mono ?_⟩;rintro e w'' ⟨u,rfl,hE,rfl⟩;exact⟨O,hw.e hE⟩
 · show K ((Fr l ds).put (some d) v)
   rw[iN];exact hK _ h
end
end
/-! ### Within the fence that bars nothing: a head of quiet operations,then a tail that may yield -/
section
variable {P:bp} {Q:Exit→Act→aj→Prop} {n:Nat} {C:aj→Prop} {ops:Array Oper} {md:Region.Mode}
theorem abt{row:String}{args:Array ai}{w:aj}{R:ai→aj→Prop}(h:Rows P row args w R):RowsIn Fence.wide n P row args w R :=
 fun c cs _=>let ⟨v,w',q,s⟩:=h c cs;⟨v,w',q,stepsIn_wide.2 s⟩
theorem Oper.wpIn_q{o:Oper}{a:Act}{w:aj}{K:Act→aj→Prop}(h:o.wp P a w K (fun _ _ _=>False)):o.wpIn Fence.wide n P a w K Q:=by
 unfold Oper.wp at h;refine⟨fun _ _=>trivial,?_⟩;show pa _ _ _ _ _ _ _ ((de a.eval o).run P w)
 generalize (de a.eval o).run P w=z at *
 have h0:Fence.wide.depth.isSome=true→1≤n:=fun h=>by cases h
 cases z with
 | ok x w' =>
  cases x <;> simp only[nh,pa] at h ⊢ <;> first
   | exact h
   | exact⟨h0,(callsIn_wide.2 h).mono fun e w'' k=>by cases e with | returned v=>exact k | panicked c=>exact k.elim | outgrown=>exact (k.elim fun _ k=>k.elim fun _ k=>k.elim)⟩
   | exact⟨h0,abt h⟩
   | exact h.elim
 | halt x w'=>cases x <;> simp only[nh,pa] at h ⊢ <;> first | exact h | exact h.elim
theorem ajz{i:Nat}{K:Act→aj→Prop}{a:Act}{w:aj}(h:wpOp P ops (fun _ _ _=>False) i K a w):wpOpIn Fence.wide n P ops Q i K a w:=by
 unfold wpOp at h;unfold wpOpIn;split
 · rename_i hn
   simp only[hn] at h;exact h
 · rename_i o ho
   simp only[ho] at h;split
   · rename_i hw
     rw[if_pos hw] at h;rcases h with h | ⟨_,_,_,h⟩
     · exact Oper.wpIn_q h
     · exact h.elim
   · rename_i hw
     rw[if_neg hw] at h;exact⟨fun _ _=>trivial,h⟩
theorem xJ{k g:Nat}{L:Array Bool→Act→Prop}(hL:∀listed a,L listed a→∀w,C w→wpAnyIn Fence.wide n P md ops Q g listed a w) :
 ∀(f:Nat) (listed:Array Bool) (a:Act) (w:aj),C w→Jv P md ops C k L f listed a→wpAnyIn Fence.wide n P md ops Q (f+g) listed a w
 | 0,listed,a,w,hw,h=>by rw[aq];exact hL _ _ h w hw
 | f+1,listed,a,w,hw,h=>by
  rw[show f+1+g=(f+g)+1 by omega];exact⟨fun h0=>absurd h0 h.1,fun i hi=>ajz (wpOp_of_qOp hw (fun a' w' hw' h'=>xJ hL f _ a' w' hw' h') (h.2 i hi).2)⟩
theorem Cu:∀(l:List Oper) (k:Nat) (listed:Array Bool) (a:Act) (w:aj),(∀j,l[j]? = ops[k+j]?) →
 Region.seqB md ops l.length k listed=true→wpListIn Fence.wide n P ops Q l a w→wpAnyIn Fence.wide n P md ops Q l.length listed a w
 | [],_,_,_,_,_,hB,h=>⟨by simpa[Region.seqB] using hB,h⟩
 | o::l,k,listed,a,w,hl,hB,h=>by
  have h0:ops[k]? = some o:=by simpa using (hl 0).symm
  simp only[aw,Region.seqB,bg,decide_eq_true_eq] at hB;refine⟨fun h1=>(by rw[hB.1] at h1;cases h1),fun i hi=>?_⟩;rw[hB.1] at hi;have hik:i=k:=by simpa using hi
  subst hik;have hw:wpOpIn Fence.wide n P ops Q i (wpListIn Fence.wide n P ops Q l) a w:=by unfold wpOpIn;simp only[h0];exact h
  exact wpOpIn_mono (fun a' w' h'=>Cu l (i+1) _ a' w' (fun j=>by have:=hl (j+1);simpa[Nat.add_assoc,ml 1 j] using this) hB.2 h') hw
theorem zX{w:aj}{id:Nat}{a:Act}{l:List Oper}(k:Nat)(hm:P.follows .mixedOrders=true)(hB:Region.lexTailB .any l.toArray k=true)
 (hC:C { w with drawn:=w.drawn+1 })
 (h:cl P l.toArray C (fun a'=>∀w',C w'→wpListIn Fence.wide n P l.toArray Q (l.drop k) a' w') (l.take k) a):(Code.region id l.toArray true).wpIn Fence.wide n P Q a w:=by
 simp only[Region.lexTailB,bg,decide_eq_true_eq] at hB;obtain⟨⟨⟨⟨hsel,hn⟩,hs⟩,hc⟩,hlex⟩:=hB;have hn':k<l.length:=by simpa using hn
 have htl:(l.take k).length=k:=by simp;omega
 have hdl:(l.drop k).length=l.toArray.size-k:=by simp
 have inv0:HeadInv .any l.toArray k (gd l.toArray.size false) :=
  ⟨by simp,fun j oj _ hl=>(by rw[getD_replicate_false] at hl;cases hl),fun t _ ht=>getD_in (by simpa using ht) (getD_replicate_false _ _)⟩
 have H:=xQ (md:=.any) (g:=l.toArray.size-k) hsel hs hc hn (l.take k) 0 _ a (fun j hj=>by
  have hj':j<k:=by rw[htl] at hj;exact hj
  simp[hj']) (by simpa using htl) inv0 (by rw[htl];exact hlex) h
 refine wpIn_region_any hm ?_;have:=xJ (Q:=Q) (n:=n) (g:=l.toArray.size-k) (fun listed a' hL w' hw'=>by
  have:=Cu (md:=.any) (Q:=Q) (n:=n) (l.drop k) k listed a' w' (fun j=>by simp[di]) (by rw[hdl];exact hL.1) (hL.2 w' hw');rwa [hdl] at this) _ _ _ _ hC H
 rw[htl,show k+(l.toArray.size-k)=l.toArray.size by omega] at this;exact this
theorem Og{l:List ai}{ds:List dx}{w:aj}{y d:Nat}{f:FuncId}{fo:bx}{xs:Array bx}{args:List ai}{a0:Array az}{ty:az}{pos:String}{after:Array Edge}{rest:List Oper}{tmps:Array ai}{assign body:Code}{R:Ending→aj→Prop}
 (hf:ev l fo=.func (.yield y) #[] #[]) (hxs:xs.toList.map (ev l)=args) (hy:(Instr.yield y args.toArray).run P w=.ok (.round y f tmps assign body) w) (hR:RoundIn Fence.wide (n-1) P y f tmps assign body w R)
 (h:∀e w',R e w'→∃v,e=.returned v∧wpListIn Fence.wide n P ops Q rest (Fr (l.set d v) ds) w') :
 wpListIn Fence.wide n P ops Q (bm (some d) (.call { callee:=.value fo,args:=xs,argTypes:=a0 }) ty pos after none::rest) (Fr l ds) w:=by
 refine wpListIn_plain O fun K hK=>?_;refine⟨fun _ _=>trivial,?_⟩;have e:(Fr l ds).eval=ev l:=funext cK;have ea:args.toArray = #[]++xs.map (ev l) ++ #[]:=by
  rw[←hxs];apply Array.ext';simp
 have er:(de (Fr l ds).eval (bm (some d) (.call { callee:=.value fo,args:=xs,argTypes:=a0 }) ty pos after none)).run P w=.ok (.round y f tmps assign body) w:=by
  rw[ea] at hy;simp[de,resolve,e,hf,Deferred.ofValue,invoke] at hy ⊢;exact hy
 rw[show p_ Fence.wide.round=p_ none from rfl,Oper.semAt_none,er];refine⟨fun (h:Fence.wide.depth.isSome=true)=>(by cases h),hR.mono fun e w' hr=>?_⟩;obtain⟨v,rfl,hk⟩:=h e w' hr;exact hK _ _ (by rw[iN];exact hk)
theorem wJ{l:List ai}{ds:List dx}{w:aj}{d:Nat}{op:Op}{ty:az}{pos:String}{after:Array Edge}{rest:List Oper}{v:ai}(hr:Ak P l op ty v w)(h:wpListIn Fence.wide n P ops Q rest (Fr (l.set d v) ds) w):wpListIn Fence.wide n P ops Q (bm (some d) op ty pos after none::rest) (Fr l ds) w:=by
 refine wpListIn_plain O fun K hK=>?_;refine⟨fun _ _=>trivial,?_⟩;rw[show p_ Fence.wide.round=p_ none from rfl,Oper.semAt_none,kI,hr _ rfl rfl];show K ((Fr l ds).put (some d) v) w
 rw[iN];exact hK _ _ h
end
theorem Oh(B:Nat)(g:β→Nat)(cs:β→List ai)(t:az):OwnFrom B fun s W=>fR W (g s) (cs s) t:=fun s X Y row hs hg hr=>by
 have hs':X.heap[g s]? = some (.cells (cs s).toArray t (0,0)):=hs;show Y.heap[g s]? = _
 rw[grownBy_keeps_cells hg (fun r e=>(hr r e).2) hs' rfl];exact hs'
theorem aeG{B:Nat}{w:aj}(h:w.heap.size≤B):OwnFrom B fun (_:β) W=>fQ w W:=ownFrom_below (av _) h
def amq(is:List It):Prop:=∀i∈is,∃g cs t,i=bI g cs t
theorem aeH{B:Nat}{w:aj}(F:β→List It)(hF:∀s,amq (F s))(h:w.heap.size≤B):OwnFrom B fun s W=>Mem w W (F s):=fun s W W' row hs hg hr=>by
 refine⟨aeG (β:=Unit) h () W W' row hs.ext hg hr,fun i hi=>?_,hs.ge,hs.nd⟩;obtain⟨g,cs,t,rfl⟩:=hF s i hi;exact Oh (β:=Unit) B (fun _=>g) (fun _=>cs) t () W W' row (hs.all _ hi) hg hr
end Go.Lith
namespace Go.Proofs.YtfekpcimgncioaaGreatDoor
open Go.Proofs.Tryz
open Go.RowKit Go.Lith
attribute [local go_sem] pu
def anq(t:T3)(k:Nat):Array ai:=#[pt (t.cor k),pt (t.cor ((k+1)%3))]
set_option maxRecDepth 100000 in
theorem agi(n:Nat)(hn:1≤n)(l Bs n₀:Nat)(t:T3)(J Jx:List Nat→aj→Prop)
 (hJd:∀s W,J s W→J s W.drew) (hY:∀pre x W,J pre W→pre.length<3→YieldAt Fence.wide (n-1) prog l (anq t x) W fun e W' =>
  (e=.returned (.bool true)∧J (pre++[x]) W'∧nB n₀ Bs W W')∨(e=.returned (.bool false)∧Jx (pre++[x]) W'))
 (W:aj) (hBs:fR W Bs (aN t) 39) (h0:J [] W) :
 CallsIn Fence.wide n prog 337 #[.func (.yield l) #[] #[],.pointer (some ⟨Bs,0,none⟩)] W fun e W'=>(∃v,e=.returned v) ∧
  ((∃ys:List Nat,ys=[0,1,2]∧J ys W')∨(∃pre,(∀k∈pre,k<3)∧Jx pre W')):=by
 refine callsIn_of_wp func337 O trivial ?_ O;simp only[ntmps337,gi,aw,bn,aa,ke,ia,ib,i_,ip,b_,cj]
 gi_wp2
 gi_loopw [4] (fun i wr=>∃(k:Nat),k≤3∧i=.int .i64 (k:Int)∧J (ji k) wr∧nB n₀ Bs W wr)
  (fun i _=>(3-intOf i).toNat)
 case atStart=>exact⟨0,by omega,rfl,h0,nB.refl _ _ _⟩
 case round =>
  obtain⟨k,hk,rfl,hJs,hnx⟩:=hrel;have hB:fR wr Bs (aN t) 39:=hnx.2.trans hBs;have hD:fR wr.drew Bs (aN t) 39:=hB;have hk4:k=0∨k=1∨k=2∨k=3:=by omega
  rcases hk4 with rfl | rfl | rfl | rfl
  · obtain⟨fn,tmps,assign,body,hy,hR⟩:=hY (ji 0) 0 wr.drew (hJd _ _ hJs) (by decide)
    gi_wp2
    rename_i K1 hK1 K2 hK2;refine zX (C:=fun u=>u=wr.drew) 9 aB (by kernel_rfl) O ?_;simp only[zy];refine aI aH (aI aH (aI (aJ cF aA O O (by decide) (by decide) O) ?_));simp only[zz,zy,aq,aa,ag,ad];refine kP (fun u hu=>aY O (hu▸(mD.cor (c:=0) (hD.row 0) (by decide)).lies aG aA)) ?_;simp only[zz];refine aI aH (aI (fC (m:=0) (n:=1) (r:=1) O O (by decide)) (aI (cP (m:=1) (n:=3) (r:=1) O O (by decide) (by decide)) ?_));simp only[zz];refine aI (aJ cF aA O O (by decide) (by decide) O) ?_;simp only[zz,zy,aq,aa,ag,ad];refine kP (fun u hu=>aY O (hu▸(mD.cor (c:=1) (hD.row 0) (by decide)).lies aG aA)) ?_;simp only[zz];refine bC ?_;rintro u rfl;try simp only[zy]
    refine Og O O hy hR ?_;rintro e W3 (⟨rfl,hJ3,hk3⟩ | ⟨rfl,hJx3⟩)
    · refine⟨_,O,?_⟩
      simp only[zz];refine wJ (nV O _) (wpListIn_nil (hK2 _ _ ?_));simp only[zz,fp]
      gi_wp2
      go_roundw
      case rel=>exact⟨0+1,by decide,rfl,hJ3,hnx.trans ((show nB n₀ Bs wr wr.drew from⟨(Below.refl _ _).drew,rfl⟩).trans hk3)⟩
      case measure=>simp[intOf]
    · refine⟨_,O,?_⟩
      simp only[zz];refine wJ (nV O _) (wpListIn_nil (hK2 _ _ ?_));simp only[zz,fj]
      gi_wp2
      refine bodyPost_ret (results_none O _ _ _) O ?_;exact⟨⟨_,O⟩,.inr ⟨_,by decide,hJx3⟩⟩
  · obtain⟨fn,tmps,assign,body,hy,hR⟩:=hY (ji 1) 1 wr.drew (hJd _ _ hJs) (by decide)
    gi_wp2
    rename_i K1 hK1 K2 hK2;refine zX (C:=fun u=>u=wr.drew) 9 aB (by kernel_rfl) O ?_;simp only[zy];refine aI aH (aI aH (aI (aJ cF aA O O (by decide) (by decide) O) ?_));simp only[zz,zy,aq,aa,ag,ad];refine kP (fun u hu=>aY O (hu▸(mD.cor (c:=1) (hD.row 0) (by decide)).lies aG aA)) ?_;simp only[zz];refine aI aH (aI (fC (m:=1) (n:=1) (r:=2) O O (by decide)) (aI (cP (m:=2) (n:=3) (r:=2) O O (by decide) (by decide)) ?_));simp only[zz];refine aI (aJ cF aA O O (by decide) (by decide) O) ?_;simp only[zz,zy,aq,aa,ag,ad];refine kP (fun u hu=>aY O (hu▸(mD.cor (c:=2) (hD.row 0) (by decide)).lies aG aA)) ?_;simp only[zz];refine bC ?_;rintro u rfl;try simp only[zy]
    refine Og O O hy hR ?_;rintro e W3 (⟨rfl,hJ3,hk3⟩ | ⟨rfl,hJx3⟩)
    · refine⟨_,O,?_⟩
      simp only[zz];refine wJ (nV O _) (wpListIn_nil (hK2 _ _ ?_));simp only[zz,fp]
      gi_wp2
      go_roundw
      case rel=>exact⟨1+1,by decide,rfl,hJ3,hnx.trans ((show nB n₀ Bs wr wr.drew from⟨(Below.refl _ _).drew,rfl⟩).trans hk3)⟩
      case measure=>simp[intOf]
    · refine⟨_,O,?_⟩
      simp only[zz];refine wJ (nV O _) (wpListIn_nil (hK2 _ _ ?_));simp only[zz,fj]
      gi_wp2
      refine bodyPost_ret (results_none O _ _ _) O ?_;exact⟨⟨_,O⟩,.inr ⟨_,by decide,hJx3⟩⟩
  · obtain⟨fn,tmps,assign,body,hy,hR⟩:=hY (ji 2) 2 wr.drew (hJd _ _ hJs) (by decide)
    gi_wp2
    rename_i K1 hK1 K2 hK2;refine zX (C:=fun u=>u=wr.drew) 9 aB (by kernel_rfl) O ?_;simp only[zy];refine aI aH (aI aH (aI (aJ cF aA O O (by decide) (by decide) O) ?_));simp only[zz,zy,aq,aa,ag,ad];refine kP (fun u hu=>aY O (hu▸(mD.cor (c:=2) (hD.row 0) (by decide)).lies aG aA)) ?_;simp only[zz];refine aI aH (aI (fC (m:=2) (n:=1) (r:=3) O O (by decide)) (aI (cP (m:=3) (n:=3) (r:=0) O O (by decide) (by decide)) ?_));simp only[zz];refine aI (aJ cF aA O O (by decide) (by decide) O) ?_;simp only[zz,zy,aq,aa,ag,ad];refine kP (fun u hu=>aY O (hu▸(mD.cor (c:=0) (hD.row 0) (by decide)).lies aG aA)) ?_;simp only[zz];refine bC ?_;rintro u rfl;try simp only[zy]
    refine Og O O hy hR ?_;rintro e W3 (⟨rfl,hJ3,hk3⟩ | ⟨rfl,hJx3⟩)
    · refine⟨_,O,?_⟩
      simp only[zz];refine wJ (nV O _) (wpListIn_nil (hK2 _ _ ?_));simp only[zz,fp]
      gi_wp2
      go_roundw
      case rel=>exact⟨2+1,by decide,rfl,hJ3,hnx.trans ((show nB n₀ Bs wr wr.drew from⟨(Below.refl _ _).drew,rfl⟩).trans hk3)⟩
      case measure=>simp[intOf]
    · refine⟨_,O,?_⟩
      simp only[zz];refine wJ (nV O _) (wpListIn_nil (hK2 _ _ ?_));simp only[zz,fj]
      gi_wp2
      refine bodyPost_ret (results_none O _ _ _) O ?_;exact⟨⟨_,O⟩,.inr ⟨_,by decide,hJx3⟩⟩
  · gi_wp2
    go_end0
    exact⟨⟨_,O⟩,.inl ⟨_,O,hJs⟩⟩
end Go.Proofs.YtfekpcimgncioaaGreatDoor
namespace Go.Proofs.YtfekpcimgncioaaGreatDoor
open Go.Proofs.Tryz
open Go.RowKit Go.Lith
section
variable {w0 w:aj} {is:List It}
def dI(D:Nat)(o:Obj):It where
 own b:=some D=some b
 P w:=w.heap[D]? = some o
 lt w b h e:=by cases e;exact (Array.getElem?_eq_some_iff.1 h).1
 st w w' h _ k:=(k D rfl).trans h
theorem _root_.Go.Lith.Mem.putD{D:Nat}{o o':Obj}(m:Mem w0 w is)(k:Nat)(hk:is[k]? = some (dI D o)):Mem w0 (w.putObj D o') (is.set k (dI D o')):=by
 have hl:D<w.heap.size:=(dI D o).lt w D (m.get k hk) rfl;refine m.put k hk O O O (by show _≤(w.heap.setIfInBounds D o').size;simp) (fun b _ hne=>World.putObj_heap_other (fun e=>hne (by rw[e];rfl))) ?_ (.inl fun _ h=>h);show (w.heap.setIfInBounds D o')[D]? = some o'
 simp[hl]
theorem _root_.Go.Lith.Mem.addD{D:Nat}{x:Option (List dx)}(m:Mem w0 w is)(hA:amq is)(h:w.heap[D]? = some (.deferred x))(hge:w0.heap.size≤D):Mem w0 w (dI D (.deferred x)::is):=by
 refine⟨m.ext,fun i hi=>?_,fun i hi b hb=>?_,br.2 ⟨fun j hj b h1 h2=>?_,m.nd⟩⟩
 · rcases an.1 hi with rfl | hi
   · exact h
   · exact m.all i hi
 · rcases an.1 hi with rfl | hi
   · cases hb;exact hge
   · exact m.ge i hi b hb
 · obtain⟨g,cs,t,rfl⟩:=hA j hj
   cases h1;cases h2;have hB:w.heap[D]? = some (.cells cs.toArray t (0,0)):=m.all _ hj;rw[h] at hB;cases hB
theorem anr{P:bp}{l:List ai}{n:Nat}{fn:Func}{R:Ending→aj→Prop}{w:aj}(h:bodyPost P fn R .ret (Fr l) w):bodyPostM Fence.wide n P fn R .ret (Fr l) w:=by
 obtain⟨_,v,hv,hR⟩:=h;exact⟨v,hv,hR⟩
theorem abu{W u:aj}{Bs:Nat}{cs:List ai}{t:az}(rx:RX W u)(h1:fR W Bs cs t)(h2:fR u Bs cs t):nB 0 Bs W u :=
 ⟨⟨rx.os,rx.tape,rx.output,rx.ko.size,fun k hk=>absurd hk (je _)⟩,(show u.heap[Bs]? = _ from h2).trans (show W.heap[Bs]? = _ from h1).symm⟩
theorem ajA{g k:Nat}{c1 c2:List ai}{T1 T2:az}(m:Mem w0 w is)(h1:fR w g c1 T1)(h2:fR w k c2 T2)(hgk:k≠g)(hg:∀o∈is.map (·.own),¬o g)(hk:∀o∈is.map (·.own),¬o k)(eg:w0.heap.size≤g)(ek:w0.heap.size≤k):Mem w0 w (bI k c2 T2::bI g c1 T1::is):=by
 refine⟨m.ext,fun i hi=>?_,fun i hi b hb=>?_,br.2 ⟨fun j hj b e1 e2=>?_,br.2 ⟨fun j hj b e1 e2=>?_,m.nd⟩⟩⟩
 · rcases an.1 hi with rfl | hi
   · exact h2
   · rcases an.1 hi with rfl | hi
     · exact h1
     · exact m.all i hi
 · rcases an.1 hi with rfl | hi
   · cases hb;exact ek
   · rcases an.1 hi with rfl | hi
     · cases hb;exact eg
     · exact m.ge i hi b hb
 · cases e1
   rcases an.1 hj with rfl | hj
   · cases e2;exact hgk O
   · exact hk _ (fh hj) e2
 · cases e1
   exact hg _ (fh hj) e2
theorem ajB{g k:Nat}{c1 c2:List ai}{T1 T2:az}(m:Mem w0 w (bI k c2 T2::bI g c1 T1::is)):k≠g∧(∀o∈is.map (·.own),¬o g)∧(∀o∈is.map (·.own),¬o k)∧w0.heap.size≤g∧w0.heap.size≤k:=by
 obtain⟨h1,h2⟩:=br.1 m.nd;obtain⟨h3,_⟩:=br.1 h2;refine⟨fun e=>h1 _ bu k O (by rw[e];rfl),fun o ho h=>?_,fun o ho h=>?_,m.ge _ (bt _ bu) g rfl,m.ge _ bu k rfl⟩
 · obtain⟨i,hi,rfl⟩:=eh.1 ho
   exact h3 i hi g O h
 · obtain⟨i,hi,rfl⟩:=eh.1 ho
   exact h1 i (bt _ hi) k O h
theorem abv{α:Type}{L:List ai}{go:bx}{gf Bs N q1 q2 d1 d2:Nat}{assign body:Code}{Q:Exit→Act→aj→Prop}{P:bp}{S Sp:List α→Prop}{v1 v2:α→ai}{c1 c2:α→List ai}{T1 T2 tB:az}{csB:List ai}
 (hf:ev L go=.func (.func gf) #[] #[.pointer (some ⟨Bs,0,none⟩)]) (he:Lith.Entr P gf) (hseq:SeqStopsK Fence.wide 3 P gf #[.pointer (some ⟨Bs,0,none⟩)] (fun x=>#[v1 x,v2 x]) (nB 0 Bs) S Sp N w)
 (I Ir:List α→List It) (J Jr:List α→Prop) (hA:∀pre,amq (I pre)) (hAr:∀pre,amq (Ir pre)) (hid:∀pre,(I pre).map (·.own)=(I []).map (·.own)) (hBs:∀pre,bI Bs csB tB∈I pre)
 (m:Mem w0 w (I [])) (hJ:J [])
 (hassign:∀(r:Nat) (pre:List α) (x:α) (W:aj) (K:Act→aj→Prop),lP W w0 W (I pre)→(∀g k u,lP W w0 u (bI k (c2 x) T2::bI g (c1 x) T1::I pre)→K (Fr ((((L.set q1 (v1 x)).set q2 (v2 x)).set d1 (.pointer (some ⟨g,0,none⟩))).set d2 (.pointer (some ⟨k,0,none⟩)))) u) →
  assign.wpIn (Fence.wide.inRound r) 2 P (Exit.then K (fun _ _ _=>False)) (Fr ((L.set q1 (v1 x)).set q2 (v2 x))) W)
 (hbody:∀(r:Nat) (pre:List α) (x:α) (g k:Nat) (W:aj) (Q':Exit→Act→aj→Prop) [Fi Q'],J pre→pre.length<N→lP W w0 W (bI k (c2 x) T2::bI g (c1 x) T1::I pre) →
  (∀a u,lP W w0 u (I (pre++[x]))→J (pre++[x])→Q' .normal a u)→(∀a u,lP W w0 u (Ir (pre++[x]))→Jr (pre++[x])→Q' .ret a u) →
  body.wpIn (Fence.wide.inRound r) 2 P Q' (Fr ((((L.set q1 (v1 x)).set q2 (v2 x)).set d1 (.pointer (some ⟨g,0,none⟩))).set d2 (.pointer (some ⟨k,0,none⟩)))) W)
 (hdone:∀(D:Nat) (xs:List α) (u:aj),S xs→J xs→Mem w0 u (dI D (.deferred (some []))::I xs)→Q .normal (Fr L [{ target:=.collected D,args:=#[] }]) u)
 (hstop:∀(D:Nat) (pre:List α) (u:aj),Sp pre→Jr pre→Mem w0 u (dI D (.deferred (some []))::Ir pre)→Q .ret (Fr L [{ target:=.collected D,args:=#[] }]) u) :
 (Code.rangeFunc go #[q1,q2] assign body).wp P Q (Fr L) w:=by
 refine (wpIn_wide (n:=4)).1 ?_;have hsz:=m.ext.size;refine wpIn_rangeFunc_ownH (F:=Fence.wide) O (by omega) (gf:=gf) (lb:=#[.pointer (some ⟨Bs,0,none⟩)]) (by rw[cK];exact hf) trivial (fun args u=>tD he) hseq nB.trans
  (fun W l o o' hl ho hc _=>⟨⟨rfl,rfl,rfl,by show _≤(W.heap.setIfInBounds l o').size;simp,fun k hk=>absurd hk (je _)⟩,World.putObj_heap_other (fun e=>by
   have hb:=(m.all _ (hBs [])).lt;omega)⟩) (Below.refl _ _) (fun _=>rfl)
  (fun pre W=>Mem w0 W (I pre)∧J pre) (fun c pre W=>Mem w0 W (Ir pre)∧(c=.ret∧Jr pre))
  (OwnFrom.and (aeH I hA hsz) (ownFrom_pure _ J)) (fun c=>OwnFrom.and (aeH Ir hAr hsz) (ownFrom_pure _ _)) ⟨m,hJ⟩
  (fun x a' W=>∃g k,a'=Fr ((((L.set q1 (v1 x)).set q2 (v2 x)).set d1 (.pointer (some ⟨g,0,none⟩))).set d2 (.pointer (some ⟨k,0,none⟩)))∧fR W g (c1 x) T1∧fR W k (c2 x) T2∧k≠g∧(∀o∈(I []).map (·.own),¬o g)∧(∀o∈(I []).map (·.own),¬o k)∧w0.heap.size≤g∧w0.heap.size≤k)
  (fun x a' _ X Y row hs hg hr=>by
   obtain⟨g,k,e,h1,h2,h3⟩:=hs;exact⟨g,k,e,Oh (β:=Unit) _ (fun _=>g) (fun _=>c1 x) T1 () X Y row h1 hg hr,Oh (β:=Unit) _ (fun _=>k) (fun _=>c2 x) T2 () X Y row h2 hg hr,h3⟩)
  ?_ ?_ ?_ ?_
 · intro r pre x W K hI hK
   have e:((#[q1,q2].zip #[v1 x,v2 x]).foldl (fun t (y:Tmp × ai)=>t.setIfInBounds y.1 y.2) (Fr L).tmps)=((L.set q1 (v1 x)).set q2 (v2 x)).toArray:=by simp
   have:=hassign r pre x W K (lP.start hI.1) (fun g k u hm=>?_)
   · simp only at this ⊢
     rw[e];exact this
   · have hp:=ajB hm.toMem
     rw[hid pre] at hp;have hI2:Mem w0 u (I pre):=hm.toMem.tl.tl;exact hK _ _ (hm.rx.ko.from _) (abu hm.rx (hI.1.all _ (hBs pre)) (hI2.all _ (hBs pre))) ⟨hI2,hI.2⟩ ⟨g,k,O,hm.all _ (bt _ bu),hm.all _ bu,hp⟩
 · rintro r pre x a' W _ _ ⟨hI,hJp⟩ ⟨g,k,rfl,h1,h2,h3,h4,h5,h6,h7⟩ hN
   rw[←hid pre] at h4 h5;refine hbody r pre x g k W _ hJp hN (lP.start (ajA hI h1 h2 h3 h4 h5 h6 h7)) (fun a u hm hj=>?_) (fun a u hm hj=>?_)
   · exact⟨hm.rx.ko.from _,abu hm.rx (hI.all _ (hBs pre)) (hm.all _ (hBs _)),hm.toMem,hj⟩
   · exact⟨hm.rx.ko.from _,hm.toMem,O,hj⟩
 · rintro D xs W hD hS ⟨hI,hj⟩ hd
   exact hdone D xs W hS hj (Lith.Mem.addD hI (hA xs) hd (ba hsz hD))
 · rintro D c pre W hD hsp ⟨hI,rfl,hj⟩ hd
   exact wpIn_ret (hstop D pre W hsp hj (Lith.Mem.addD hI (hAr pre) hd (ba hsz hD)))
end
end Go.Proofs.YtfekpcimgncioaaGreatDoor
