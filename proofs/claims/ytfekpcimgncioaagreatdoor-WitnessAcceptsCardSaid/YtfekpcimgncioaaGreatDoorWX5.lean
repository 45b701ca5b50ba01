/-
 Texts of one claim, laid together: W4, W5, Int, Wide6, Wide1, Wide2, Wide3, Wide4, Wide5, Back, Wide7, Wide8, Wide9, Wide10, W6, Pack.
-/
import Derived.RangeFuncNested
import Derived.RangeFuncBound
import Derived.RangeFuncCalls
import Derived.RangeFuncBox
import Derived.RangeFuncLeaves
import Derived.Shelf.Abstract
import Derived.Shelf.RegionOpen
import Derived.WalkKit
import Derived.OwnWalkIn
import Derived.TacticsInMore
import Derived.LoopNIn
import Derived.LoopIn
import Derived.Maps.AppendAt
import Derived.Test.YtfekpcimgncioaaGreatDoorWX4
open Nat renaming reduceAdd→aa,reduceMul→ah,zero_add→ap,le_refl→av,le_trans→aw,zero_le→bw,lt_of_lt_of_le→cw,min_eq_left→dx,add_sub_cancel→eh,eq_zero_or_pos→ff,le_of_not_lt→gv,lt_of_le_of_lt→ib,ne_of_gt→il,mul_comm→iy,div_lt_iff_lt_mul→jn,pow_pos→j_,one_mul→ka,le_mul_of_pos_right→kx,mod_lt→lc,div_le_self→lf,le_mul_of_pos_left→lj,reduceSub→lo,not_lt_zero→ma,mul_zero→nh,le_of_lt→pp,sub_le→ra
open Int renaming reduceToNat→ag,toNat_natCast→ai,reduceAdd→an
open Go renaming wp_region_lit→aj,Value→ak,World→am,wpList→au,MapEntry→cg,wpQuiet→cq,wp_block→gh,wp_skip→g_,wp_ret→ik,wp_exit→o_
open List renaming getElem?_eq_getElem→ar,length_cons→az,take_of_length_le→bf,mem_singleton→bg,mem_of_getElem?→bn,mem_append→br,not_mem_nil→bt,nil_append→bv,length_take→bx,length_nil→b_,replicate→cl,cons_append→cn,map_append→cz,length_map→dm,eq_nil_of_length_eq_zero→eo,take_length→fa,getElem_mem→fl,getElem?_eq_none→fm,eq_of_mem_replicate→fp,mem_append_left→gd,mem_append_right→gj,pairwise_append→gu,size_toArray→gz,length_drop→ip,append_toArray→jb,push_toArray→jk,mem_singleton_self→jt,take_zero→km,getElem_set_self→ly,getElem_set_ne→mo,drop_zero→od,drop_replicate→pm,drop_length→qi
open Go.Value renaming bool→ba,oneCell'→ie,ownBlock→qt
open Go.Exit renaming inBlock→bu
open Option renaming getD_some→de
open BitVec renaming ofInt→dw,toNat_ofInt→kh
open Option.some renaming inj→fh
open Array renaming replicate_succ→iv,replicate_zero→iw
open Prod renaming ext→pa,snd→qh
open Go.Oper renaming semAt_some→qr
set_option maxHeartbeats 8000000
set_option linter.unusedSimpArgs false
set_option linter.unusedVariables false
set_option linter.unusedSectionVars false
namespace Go.Proofs.YtfekpcimgncioaaGreatDoor
open Go.Proofs.Tryz
open Go.RowKit Go.Lith
variable{ts:List T3}{N cap cap2:Nat}
abbrev Bk:=@underlying194
abbrev tA:=@underlying196
abbrev bC:=@underlying233
set_option maxRecDepth 100000
attribute [local irreducible] au cq eF bJ cD Code.wp
attribute [local congr] oG fS fT fU fV fW jR fX fY fZ gA gB gC gD gE gF gG gH eM eN gI gJ gL gM gN jT cW cX cA cU gK jS eO eP eQ gQ gR jU
theorem pK:rN prog 56 ed:=by
 refine rN.agg (cs:=fun p=>#[.int .i64 p.1.x,.int .i64 p.1.y,.int .i64 p.1.z,.int .i64 p.2.x,.int .i64 p.2.y,.int .i64 p.2.z]) (fun _=>rfl) Nw (fun e p=>?_) (fun p q=>?_) (fun p=>?_)
 ·
  refine sR.array (d:=9999) Nw aA fun i hi=>?_;obtain rfl | rfl:=(by omega:i=0∨i=1)
  ·
   refine⟨_,cZ aH aA O,?_⟩;refine sR.struct (d:=9998) oN fun f hf=>?_;simp only[List.mem_cons,bt,or_false] at hf;rcases hf with rfl | rfl | rfl
   · exact⟨_,bU bT O,sR.int (d:=9997) iY⟩
   · exact⟨_,bU bT O,sR.int (d:=9997) iY⟩
   · exact⟨_,bU bT O,sR.int (d:=9997) iY⟩
  ·
   refine⟨_,cZ aH aA O,?_⟩;refine sR.struct (d:=9998) oN fun f hf=>?_;simp only[List.mem_cons,bt,or_false] at hf;rcases hf with rfl | rfl | rfl
   · exact⟨_,bU bT O,sR.int (d:=9997) iY⟩
   · exact⟨_,bU bT O,sR.int (d:=9997) iY⟩
   · exact⟨_,bU bT O,sR.int (d:=9997) iY⟩
 · exact (adX _).iff ⟨fun h=>pa (P3.eq h.1 h.2.1 h.2.2.1) (P3.eq h.2.2.2.1 h.2.2.2.2.1 h.2.2.2.2.2),fun h=>by subst h;simp only[and_self]⟩
 · simp[ed,Instr.sameBits]
theorem Uc{A:Option Addr}(w:am)(hT:cJ w A N ts)(hN:N≤10000000):dR prog 153 [.slice A N cap] w (fun v w'=>∃g es c,v=.map (some g)∧Mem w w' [mI g es c]∧bA ed ba (dX [] (oR ts)) es c):=by
 refine⟨bO func153 (by kernel_rfl),?_⟩;have m:=Mem.refl w
 go_enter func153,ntmps153
 apply iE 6 [0] m;simp only[↓aD];refine iV m ?_;intro q8 u m;have hD8:=bA.nil (K:=E3) (V:=Bool) ed ba;apply aM 10 [0] m;simp only[↓aD,mC];refine cP [13] [5,7,9,14,15,16,17,18,19,20,21,22,23,24,25,26,27,28,29,30,31] (fun n vs wl=>∃(k:Nat) (es:Array cg) (c:Nat),vs=[.int .i64 (k:Int)]∧Mem w wl [mI q8 es c]∧(bA ed ba (dX [] (oR (ts.take k))) es c)∧(k≤N)∧(n=N-k)) ?_ ?_
 ·
  exact⟨_,0,_,_,O,m,hD8,bw _,O⟩
 ·
  intro n vs wr hI u K1 hK1;obtain⟨k,es8,c8,rfl,m,hD8,hk,hn⟩:=hI;simp only[zu,zF,zG];apply aL 5 [0,0] m;simp only[↓aD];refine bK O ?_ ?_<;>intro hc1
  ·
   obtain⟨t,ht,_,a,rfl,hrow⟩:=hT.get (i:=k) (by omega);apply aL 5 [0] m;simp only[↓aD];refine aB (aG bZ aR O O (by omega) (by omega) (bX (ai _))) ?_;simp only[zz];refine aQ O ((hrow.ext m.ext).lies dK aR) ?_;simp only[zz];apply iH 22 [0,0,4,1,0] m;simp only[↓aD,nB,iG,aa];intro g2;refine⟨by omega,?_⟩;intro u m;refine aB (kF O O) ?_;apply iH 22 [0,1,4,1,0] m;simp only[↓aD,dN,aS,iG,aa];intro g3;refine⟨by omega,?_⟩;intro u m;refine aB (kF O O) ?_;apply iH 8 [0,1,0,0] m;simp only[↓aD,dN,aS,pJ,aa];intro g4 u m;refine eR (ek:=ed) (en:=ba) (a:=(t.a,t.a)) (v:=true) m 3 O tA pK O O O hD8 ?_;intro es8 c8 u m hD8;simp only[zF,zG] at m;apply aM 18 [1,0] m;simp only[↓aD,an];refine⟨by omega,?_⟩;refine aB (kG O O) ?_;apply iH 8 [0,2,0,0] m;simp only[↓aD,dN,aS,pJ,aa];intro g5 u m;refine eR (ek:=ed) (en:=ba) (a:=(t.a,t.b)) (v:=true) m 4 O tA pK O O O hD8 ?_;intro es8 c8 u m hD8;simp only[zF,zG] at m;apply aM 18 [1,0] m;simp only[↓aD,an];refine⟨by omega,?_⟩;refine aB (kH O O) ?_;apply iH 8 [0,3,0,0] m;simp only[↓aD,dN,aS,pJ,aa];intro g6 u m;refine eR (ek:=ed) (en:=ba) (a:=(t.a,t.c)) (v:=true) m 5 O tA pK O O O hD8 ?_;intro es8 c8 u m hD8;simp only[zF,zG] at m;apply aM 31 [2,1,0] m;simp only[↓aD,an];refine⟨by omega,?_⟩;refine aB (kG O O) ?_;apply iH 22 [0,5,4,1,0] m;simp only[↓aD,dN,aS,iG,aa];intro g7;refine⟨by omega,?_⟩;intro u m;refine aB (kF O O) ?_;apply iH 8 [0,1,0,0] m;simp only[↓aD,dN,aS,pJ,aa];intro g8 u m;refine eR (ek:=ed) (en:=ba) (a:=(t.b,t.a)) (v:=true) m 7 O tA pK O O O hD8 ?_;intro es8 c8 u m hD8;simp only[zF,zG] at m;apply aM 18 [1,0] m;simp only[↓aD,an];refine⟨by omega,?_⟩;refine aB (kG O O) ?_;apply iH 8 [0,2,0,0] m;simp only[↓aD,dN,aS,pJ,aa];intro g9 u m;refine eR (ek:=ed) (en:=ba) (a:=(t.b,t.b)) (v:=true) m 8 O tA pK O O O hD8 ?_;intro es8 c8 u m hD8;simp only[zF,zG] at m;apply aM 18 [1,0] m;simp only[↓aD,an];refine⟨by omega,?_⟩;refine aB (kH O O) ?_;apply iH 8 [0,3,0,0] m;simp only[↓aD,dN,aS,pJ,aa];intro g10 u m;refine eR (ek:=ed) (en:=ba) (a:=(t.b,t.c)) (v:=true) m 9 O tA pK O O O hD8 ?_;intro es8 c8 u m hD8;simp only[zF,zG] at m;apply aM 31 [2,1,0] m;simp only[↓aD,an];refine⟨by omega,?_⟩;refine aB (kH O O) ?_;apply iH 22 [0,9,4,1,0] m;simp only[↓aD,dN,aS,iG,aa];intro g11;refine⟨by omega,?_⟩;intro u m;refine aB (kF O O) ?_;apply iH 8 [0,1,0,0] m;simp only[↓aD,dN,aS,pJ,aa];intro g12 u m;refine eR (ek:=ed) (en:=ba) (a:=(t.c,t.a)) (v:=true) m 11 O tA pK O O O hD8 ?_;intro es8 c8 u m hD8;simp only[zF,zG] at m;apply aM 18 [1,0] m;simp only[↓aD,an];refine⟨by omega,?_⟩;refine aB (kG O O) ?_;apply iH 8 [0,2,0,0] m;simp only[↓aD,dN,aS,pJ,aa];intro g13 u m;refine eR (ek:=ed) (en:=ba) (a:=(t.c,t.b)) (v:=true) m 12 O tA pK O O O hD8 ?_;intro es8 c8 u m hD8;simp only[zF,zG] at m;apply aM 18 [1,0] m;simp only[↓aD,an];refine⟨by omega,?_⟩;refine aB (kH O O) ?_;apply iH 8 [0,3,0,0] m;simp only[↓aD,dN,aS,pJ,aa];intro g14 u m;refine eR (ek:=ed) (en:=ba) (a:=(t.c,t.c)) (v:=true) m 13 O tA pK O O O hD8 ?_;intro es8 c8 u m hD8;simp only[zF,zG] at m;apply aM 32 [2,2,0] m;simp only[↓aD,an];refine⟨by omega,?_⟩;exact hK1 (N-(k+1)) _ _ (by omega) (by kernel_rfl) ⟨k+1,_,_,O,(m.sel [false,false,false,false,false,false,false,false,false,false,false,false,false,true]),by rw[aee ht,acd];exact hD8,by omega,O⟩
  ·
   have hkN:k=N:=by omega
   rw[hkN,show ts.take N=ts from bf (by rw[hT.len];exact av _)] at hD8;apply aL 7 [] m;simp only[↓aD];exact aY O O ⟨_,O,m.ext,_,_,_,O,m,hD8⟩
theorem alb{ps:List P3}{A:Option Addr}(w:am)(hL:Aq qO 3 w A N ps)(hN:N≤9223372036854775807):dR prog 154 [.slice A N cap] w (fun v w'=>∃g es c,v=.map (some g)∧Mem w w' [mI g es c]∧bA pt ba (dX [] ps) es c):=by
 refine⟨bO func154 (by kernel_rfl),?_⟩;have m:=Mem.refl w
 go_enter func154,ntmps154
 apply iE 6 [0] m;simp only[↓aD];refine iV m ?_;intro q8 u m;have hD8:=bA.nil (K:=P3) (V:=Bool) pt ba;apply aM 10 [0] m;simp only[↓aD,wK];refine cP [9] [5,10,11,12,13,14,15] (fun n vs wl=>∃(k:Nat) (es:Array cg) (c:Nat),vs=[.int .i64 (k:Int)]∧Mem w wl [mI q8 es c]∧(bA pt ba (dX [] (ps.take k)) es c)∧(k≤N)∧(n=N-k)) ?_ ?_
 ·
  exact⟨_,0,_,_,O,m,hD8,bw _,O⟩
 ·
  intro n vs wr hI u K1 hK1;obtain⟨k,es8,c8,rfl,m,hD8,hk,hn⟩:=hI;simp only[zu,zF,zG];apply aL 5 [0,0] m;simp only[↓aD];refine bK O ?_ ?_<;>intro hc1
  ·
   obtain⟨x,hx,a,rfl,hrow⟩:=hL.get (i:=k) (by omega);apply aL 5 [0] m;simp only[↓aD];refine aB (aG gW aA O O (by omega) (by omega) (bX (ai _))) ?_;simp only[zz];refine aQ O ((hrow.ext m.ext).lies aH aA) ?_;simp only[zz];apply iH 6 [0,0,0] m;simp only[↓aD,dN,aS,aa];intro g2 u m;refine eR (ek:=pt) (en:=ba) (a:=x) (v:=true) m 1 O iM eK O O O hD8 ?_;intro es8 c8 u m hD8;simp only[zF,zG] at m;apply aM 6 [0] m;simp only[↓aD];refine⟨by omega,?_⟩;exact hK1 (N-(k+1)) _ _ (by omega) (by kernel_rfl) ⟨k+1,_,_,O,(m.sel [false,true]),by rw[cC hx,jV];exact hD8,by omega,O⟩
  ·
   have hkN:k=N:=by omega
   rw[hkN,show ps.take N=ps from bf (by rw[hL.len];exact av _)] at hD8;apply aL 7 [] m;simp only[↓aD];exact aY O O ⟨_,O,m.ext,_,_,_,O,m,hD8⟩
theorem ahO{rim:List E3}{k:Nat}{e:E3}(h:rim[k]? = some e):Hb ts (rim.take (k+1))=Hb ts (rim.take k)++[(e,aaz ts e.1 ts.length e.2)]:=by
 rw[cC h];simp[Hb]
theorem alc{A:Option Addr}{rim:List E3}{M:Nat}{A2:Option Addr}(w:am)(hT:cJ w A N ts)(hN:N≤10000000)(hL:Aq bM 6 w A2 M rim)(hM:M≤100000000)(hdg:pG ts)(hnd:(aU ts).Nodup)(hrim:∀e∈rim,(e.2,e.1)∉aU ts):dR prog 152 [.slice A N cap,.slice A2 M cap2] w (fun v w'=>∃g es c,v=.map (some g)∧Mem w w' [mI g es c]∧bA ed pt (qQ [] (Hb ts rim)) es c):=by
 refine⟨bO func152 (by kernel_rfl),?_⟩;have m:=Mem.refl w
 go_enter func152,ntmps152
 apply iE 6 [0] m;simp only[↓aD];refine iV m ?_;intro q8 u m;have hD8:=bA.nil (K:=E3) (V:=P3) ed pt;apply aM 10 [0] m;simp only[↓aD,mC];refine cP [19] [7,8,9,20,21,22,23,24,25,26,27,28,29,30,31,32,33,34,35,36,37,38,39,40,41,42] (fun n vs wl=>∃(k:Nat) (es:Array cg) (c:Nat),vs=[.int .i64 (k:Int)]∧Mem w wl [mI q8 es c]∧(bA ed pt (qQ [] (kL (ts.take k))) es c)∧(k≤N)∧(n=N-k)) ?_ ?_
 ·
  exact⟨_,0,_,_,O,m,hD8,bw _,O⟩
 ·
  intro n vs wr hI u K1 hK1;obtain⟨k,es8,c8,rfl,m,hD8,hk,hn⟩:=hI;simp only[zu,zF,zG];apply aL 5 [0,0] m;simp only[↓aD];refine bK O ?_ ?_<;>intro hc1
  ·
   obtain⟨t,ht,_,a,rfl,hrow⟩:=hT.get (i:=k) (by omega);apply aL 5 [0] m;simp only[↓aD];refine aB (aG bZ aR O O (by omega) (by omega) (bX (ai _))) ?_;simp only[zz];refine aQ O ((hrow.ext m.ext).lies dK aR) ?_;simp only[zz];apply iH 20 [0,0,4,1] m;simp only[↓aD,nB,iG,aa];intro g2;refine⟨by omega,?_⟩;intro u m;apply bF 3 [0] m;simp only[↓aD];refine aB (kF O O) ?_;apply iH 4 [0,0] m;simp only[↓aD,dN,aS,aa];intro g3 u m;refine eB m 13 aF (by kernel_rfl) ?_;simp only[zy];refine iB 4 [0] ?_;simp only[↓aD,aS,an];refine⟨by omega,?_⟩;refine aK (dL (m:=1) (n:=3) (r:=1) O O (by decide) (by decide)) (iB 5 [1] ?_);simp only[↓aD,dJ,aS,pJ,ag,ah,aa,an];refine⟨by omega,?_⟩;refine aK (dL (m:=2) (n:=3) (r:=2) O O (by decide) (by decide)) (iB 2 [1] ?_);simp only[↓aD,dJ,aS,ag,ah,aa];refine⟨by omega,?_⟩;refine bN ?_;intro u m;refine eR (ek:=ed) (en:=pt) (a:=(t.a,t.b)) (v:=t.c) m 2 O Bk pK O O O hD8 ?_;intro es8 c8 u m hD8;simp only[zF,zG] at m;rw[←sZ] at hD8;refine aI ?_;apply bF 18 [1,0] m;simp only[↓aD,an];refine⟨by omega,?_⟩;refine aB (kG O O) ?_;apply iH 4 [0,0] m;simp only[↓aD,dN,aS,aa];intro g4 u m;refine eB m 13 aF (by kernel_rfl) ?_;simp only[zy];refine iB 4 [0] ?_;simp only[↓aD,aS,an];refine⟨by omega,?_⟩;refine aK (dL (m:=2) (n:=3) (r:=2) O O (by decide) (by decide)) (iB 5 [2] ?_);simp only[↓aD,dJ,aS,pJ,ag,ah,aa,an];refine⟨by omega,?_⟩;refine aK (dL (m:=3) (n:=3) (r:=0) O O (by decide) (by decide)) (iB 2 [2] ?_);simp only[↓aD,dJ,aS,ag,ah,aa];refine⟨by omega,?_⟩;refine bN ?_;intro u m;refine eR (ek:=ed) (en:=pt) (a:=(t.b,t.c)) (v:=t.a) m 3 O Bk pK O O O hD8 ?_;intro es8 c8 u m hD8;simp only[zF,zG] at m;rw[←sZ] at hD8;refine aI ?_;apply bF 18 [1,0] m;simp only[↓aD,an];refine⟨by omega,?_⟩;refine aB (kH O O) ?_;apply iH 4 [0,0] m;simp only[↓aD,dN,aS,aa];intro g5 u m;refine eB m 13 aF (by kernel_rfl) ?_;simp only[zy];refine iB 4 [0] ?_;simp only[↓aD,aS,an];refine⟨by omega,?_⟩;refine aK (dL (m:=3) (n:=3) (r:=0) O O (by decide) (by decide)) (iB 5 [3] ?_);simp only[↓aD,dJ,aS,pJ,ag,ah,aa,an];refine⟨by omega,?_⟩;refine aK (dL (m:=4) (n:=3) (r:=1) O O (by decide) (by decide)) (iB 2 [3] ?_);simp only[↓aD,dJ,aS,ag,ah,aa];refine⟨by omega,?_⟩;refine bN ?_;intro u m;refine eR (ek:=ed) (en:=pt) (a:=(t.c,t.a)) (v:=t.b) m 4 O Bk pK O O O hD8 ?_;intro es8 c8 u m hD8;simp only[zF,zG] at m;rw[←sZ] at hD8;refine aI ?_;apply bF 18 [2,0] m;simp only[↓aD,an];refine⟨by omega,?_⟩;exact hK1 (N-(k+1)) _ _ (by omega) (by kernel_rfl) ⟨k+1,_,_,O,(m.sel [false,false,false,false,true]),by rw[So ht];simpa[List.append_assoc] using hD8,by omega,rfl⟩
  ·
   have hkN:k=N:=by omega
   rw[hkN,show ts.take N=ts from bf (by rw[hT.len];exact av _)] at hD8;apply aL 3 [0] m;simp only[↓aD];refine iV m ?_;intro q9 u m;have hD9:=bA.nil (K:=E3) (V:=P3) ed pt;apply aM 10 [0] m;simp only[↓aD,Ee];refine cP [46] [12,13,14,15,47,48,49,50,51,52,53,54,55,56,57,58,59,60,61,62,63,64,65,66,67] (fun n vs wl=>∃(k:Nat) (es:Array cg) (c:Nat),vs=[.int .i64 (k:Int)]∧Mem w wl [mI q9 es c,mI q8 es8 c8]∧(bA ed pt (qQ [] (Hb ts (rim.take k))) es c)∧(k≤M)∧(n=M-k)) ?_ ?_
   ·
    exact⟨_,0,_,_,O,m,hD9,bw _,O⟩
   ·
    intro n vs wr hI u K2 hK2;obtain⟨k,es9,c9,rfl,m,hD9,hk,hn⟩:=hI;simp only[zu,zF,zG];apply aL 5 [0,0] m;simp only[↓aD];refine bK O ?_ ?_<;>intro hc3
    ·
     obtain⟨e,he,a,rfl,hrow2⟩:=hL.get (i:=k) (by omega);have hre:=hrim e (bn he);apply aL 5 [0] m;simp only[↓aD];refine aB (aG mL eH O O (by omega) (by omega) (bX (ai _))) ?_;simp only[zz];refine aQ O (((hrow2.ext m.ext)).lies sJ eH) ?_;simp only[zz];apply iH 12 [0,0,0,0] m;simp only[↓aD,Om,yU,xM,aS,dN,aa,ag,ah];intro g3 g4;refine⟨by omega,?_⟩;intro u m;refine cP [] [14,15,52,53,54,55,56,57,58,59,60,61,62,63] (fun n vs wl=>∃(i:Nat) (z:P3),vs=[]∧Mem w wl [bI g4 (qO z) 30,bI g3 (bM e) 56,mI q9 es9 c9,mI q8 es8 c8]∧(pE ts e.1 i e.2=some z)∧(i≤ts.length)∧(n=ts.length+1-i)) ?_ ?_
     ·
      exact⟨_,0,e.2,O,m,O,bw _,O⟩
     ·
      intro n vs wr hI u K3 hK3;obtain⟨i,z,rfl,m,hit,hil,hn4⟩:=hI;simp only[zu,zF,zG];apply aL 8 [1,0,0] m;simp only[↓aD,xM,aS,pJ,ag,ah,aa];refine⟨by omega,?_⟩;refine eD (vM (ek:=ed) (en:=pt) (k:=(e.1,z)) (v0:=⟨0,0,0⟩) Bk eC pK O O (m.p 3 O) hD8) ?_;simp only[zz];apply iH 13 [0,0] m;simp only[↓aD,dN,aS,aa];intro g5 u m;refine dC O ?_ ?_<;>intro hc4
      ·
       have hyn:bE ts e.1 z=none:=by rw[←yN hnd];simpa using hc4
       have hend:=aed i ts.length e.2 z hil hit hyn;apply aL 5 [2,1,0] m;simp only[↓aD,yU,aS];refine eR (ek:=ed) (en:=pt) (a:=e) (v:=z) m 3 O Bk pK O O O hD9 ?_;intro es9 c9 u m hD9;simp only[zF,zG] at m;apply aM 6 [0] m;simp only[↓aD];refine⟨by omega,?_⟩;exact hK2 (M-(k+1)) _ _ (by omega) (by kernel_rfl) ⟨k+1,_,_,O,(m.sel [false,false,false,true,true]),by rw[ahO he,sZ,hend];exact hD9,by omega,O⟩
      ·
       obtain⟨y,hy⟩:∃y,bL (qQ [] (kL ts)) (e.1,z)=some y:=by
        cases h:bL (qQ [] (kL ts)) (e.1,z) with
        | some y=>exact⟨y,rfl⟩
        | none=>rw[h] at hc4;cases hc4
       have hya:bE ts e.1 z=some y:=by rw[←yN hnd];exact hy
       have hit2:pE ts e.1 (i+1) e.2=some y:=by rw[pF,hit];exact hya
       have hil2:=aaA hdg hnd hre hit2;rw[hy] at m;simp only[de] at m;apply Wi 6 [0,1,0] m;simp only[↓aD,aS,aa];intro u m;exact hK3 (ts.length+1-(i+1)) _ _ (by omega) (by kernel_rfl) ⟨i+1,y,O,(m.sel [false,true,true,true,true]),hit2,hil2,O⟩
    ·
     have hkN:k=M:=by omega
     rw[hkN,show rim.take M=rim from bf (by rw[hL.len];exact av _)] at hD9;apply aL 7 [] m;simp only[↓aD];exact aY O O ⟨_,O,m.ext,_,_,_,O,m.sel [true,false],hD9⟩
theorem ald{x y:E3}:(x.1.x=y.1.x∧x.1.y=y.1.y∧x.1.z=y.1.z∧x.2.x=y.2.x∧x.2.y=y.2.y∧x.2.z=y.2.z)↔x=y :=
 ⟨fun h=>pa (P3.eq h.1 h.2.1 h.2.2.1) (P3.eq h.2.2.2.1 h.2.2.2.2.1 h.2.2.2.2.2),fun h=>by rw[h];exact⟨O,O,O,O,O,O⟩⟩
theorem ahP{K V:Type}[DecidableEq K]{D1 D2:List (K × V)}(hk:D1.map (·.1)=D2.map (·.1))(hn:(D1.map (·.1)).Nodup)(h:∀x∈D1,bL D2 x.1=some x.2):D1=D2:=by
 apply List.ext_getElem?;intro i;have e:=congrArg (·[i]?) hk;simp only[List.getElem?_map] at e;cases h1:D1[i]? with
 | none =>
  rw[h1] at e;cases h2:D2[i]? with
  | none=>rfl
  | some y=>rw[h2] at e;cases e
 | some x =>
  rw[h1] at e;cases h2:D2[i]? with
  | none=>rw[h2] at e;cases e
  | some y =>
   rw[h2] at e;have e':x.1=y.1:=fh e;have hm:=h x (bn h1);rw[e',lH (v:=y.2) (by rw[←hk];exact hn) (bn h2)] at hm;exact congrArg some (pa e' (fh hm).symm)
theorem ahQ{es fs:List E3}{M:Nat}{A A2:Option Addr}(w:am)(hL:Aq bM 6 w A N es)(hL2:Aq bM 6 w A2 M fs)(hN:N≤100000000):dR prog 150 [.slice A N cap,.slice A2 M cap2] w (fun v _=>v=.bool (decide (es=fs))):=by
 refine⟨bO func150 (by kernel_rfl),?_⟩;have m:=Mem.refl w;have e1:=hL.len;have e2:=hL2.len
 go_enter func150,ntmps150
 apply iE 13 [0,0] m;simp only[↓aD,Ee];refine bK O ?_ ?_<;>intro hc1
 ·
  have hne:¬es=fs:=fun h=>hc1 (by rw[←e1,←e2,h]);apply aL 5 [] m;simp only[↓aD];refine aY O O ?_;try simp only[zD,zE]
  exact⟨_,O,m.ext,by rw[decide_eq_false hne]⟩
 ·
  apply aL 9 [0] m;simp only[↓aD,Ee];refine cP [13] [4,5,14,15,16,17,18,19,20,21,22,23,24,25] (fun n vs wl=>∃(k:Nat),vs=[.int .i64 (k:Int)]∧Mem w wl []∧(es.take k=fs.take k)∧(k≤N)∧(n=N-k)) ?_ ?_
  ·
   exact⟨_,0,O,m,O,bw _,O⟩
  ·
   intro n vs wr hI u K1 hK1;obtain⟨k,rfl,m,heq,hk,hn⟩:=hI;simp only[zu,zF,zG];apply aL 5 [0,0] m;simp only[↓aD];refine bK O ?_ ?_<;>intro hc2
   ·
    obtain⟨x,hx,a,rfl,hrow⟩:=hL.get (i:=k) (by omega);obtain⟨y,hy,a2,rfl,hrow2⟩:=hL2.get (i:=k) (by omega);apply aL 9 [0] m;simp only[↓aD];refine mq m aF (by kernel_rfl) (aK aC (aK aC ?_));simp only[zz];refine aK (aG mL eH O O (by omega) (by omega) (bX (ai _))) ?_;simp only[zz];refine ql O (fun u m=>((hrow.ext m.ext).lies sJ eH)) ?_;simp only[zz];refine aK aC (aK aC ?_);simp only[zz];refine aK (aG mL eH O O (by omega) (by omega) (bX (ai _))) ?_;simp only[zz];refine ql O (fun u m=>((hrow2.ext m.ext).lies sJ eH)) ?_;simp only[zz];refine aK (ahm O O) (bN ?_);intro u m;refine gc ?_;simp only[zz];refine bK O ?_ ?_<;>intro hc3
    ·
     have hne:¬es=fs:=fun h=>hc3 (ald.2 (by subst h;exact fh (hx.symm.trans hy)));apply aL 5 [] m;simp only[↓aD];refine aY O O ?_;try simp only[zD,zE]
     exact⟨_,O,m.ext,by rw[decide_eq_false hne]⟩
    ·
     obtain rfl:=ald.1 (Classical.not_not.1 hc3);apply aL 6 [0] m;simp only[↓aD];refine⟨by omega,?_⟩;exact hK1 (N-(k+1)) _ _ (by omega) (by kernel_rfl) ⟨k+1,O,m,by rw[cC hx,cC hy,heq],by omega,O⟩
   ·
    have hall:es=fs:=by rw[bf (by omega),bf (by omega)] at heq;exact heq
    apply aL 6 [] m;simp only[↓aD];refine aY O O ?_;try simp only[zD,zE]
    exact⟨_,O,m.ext,by rw[decide_eq_true hall]⟩
theorem aob{g c g2 c2:Nat}{es es2:Array cg}{D1 D2:List (E3 × P3)}(w:am)(hM:iN w g es c)(hD:bA ed pt D1 es c)(hM2:iN w g2 es2 c2)(hD2:bA ed pt D2 es2 c2)(hk:D1.map (·.1)=D2.map (·.1))(hnk:(D1.map (·.1)).Nodup):dR prog 151 [.map (some g),.map (some g2)] w (fun v _=>v=.bool (decide (D1=D2))):=by
 refine⟨bO func151 (by kernel_rfl),?_⟩;have m:=Mem.refl w;have hl:D1.length=D2.length:=by simpa using congrArg List.length hk
 go_enter func151,ntmps151
 apply iE 8 [0] m;simp only[↓aD];refine eD (ajU O Bk O (hM.ext m.ext) hD) ?_;apply aM 1 [0] m;simp only[↓aD];refine eD (ajU O Bk O (hM2.ext m.ext) hD2) ?_;apply aM 2 [0,0] m;simp only[↓aD];refine bK O ?_ ?_<;>intro hc1
 ·
  exact absurd (congrArg (Nat.cast (R:=Int)) hl) hc1
 ·
  apply aL 5 [0] m;simp only[↓aD];refine sQ m Bk O (hM.ext m.ext) ?_;intro r1 u m;apply aM 2 [0] m;simp only[↓aD];refine cP [] [4,5,6,7,8,16,17,18,19,20,21,22,23,24,25,26,27,28,29,30,31,32,33] (fun n vs wl=>∃(dn rs:List (E3 × P3)) (sn:Array Nat),vs=[]∧Mem w wl [iI r1 g c sn]∧(lP ed pt D1 es sn dn rs)∧(∀x∈dn,bL D2 x.1=some x.2)∧(n=rs.length)) ?_ ?_
  ·
   exact⟨_,[],D1,#[],rfl,m,lP.start hD,fun _ h=>(by cases h),rfl⟩
  ·
   intro n vs wr hI u K1 hK1;obtain⟨dn,rs,sn,rfl,m,hT,hall,hn⟩:=hI;simp only[zu,zF,zG];apply aL 2 [0] m;simp only[↓aD];refine Dr m 0 O O (hM.ext m.ext) hD hT ?_;intro bb kk vv sn u m hN;simp only[zF,zG] at m;refine aB (nL O) ?_;apply aM 2 [0] m;simp only[↓aD];refine dC O ?_ ?_<;>intro hc2
   ·
    obtain⟨kp,kb,rs2,hp,hT2⟩:=Cd hc2 hN;have hin:(kp,kb)∈D1:=hT2.1.mem_iff.1 (by simp);apply aL 4 [0] m;simp only[↓aD];refine eD (pQ O (m.r 0 O) (hM.ext m.ext) hD hT2) ?_;simp only[zz];apply iH 11 [1,0,1,0] m;simp only[↓aD,Om,dN,yU,aS,aa];intro g2 g3 u m;refine eD (vM (ek:=ed) (en:=pt) (k:=kp) (v0:=⟨0,0,0⟩) Bk eC pK O O (hM2.ext m.ext) hD2) ?_;simp only[zz];apply iH 12 [0,0] m;simp only[↓aD,dN,aS,aa];intro g4 u m;refine fG O (fun hb=>aZ O ((m.b 1 O).full aH aA)) (fG O (fun hb=>aZ O ((m.b 0 O).full aH aA)) (eL O (fun hb=>fR (aX hb O) (aX hb O)) (aB (eG O O O) ?_)));apply aM 1 [0] m;simp only[↓aD];refine dC O ?_ ?_<;>intro hc3
    ·
     have hne:¬D1=D2:=fun h=>by rw[←h,lH hnk hin] at hc3;simp at hc3
     apply aL 5 [] m;simp only[↓aD];refine aY O O ?_;try simp only[zD,zE]
     exact⟨_,O,m.ext,by rw[decide_eq_false hne]⟩
    ·
     have hv:bL D2 kp=some kb:=by
      cases h:bL D2 kp with
      | none=>rw[h] at hc3;cases hc3
      | some y =>
       rw[h] at hc3;simp only[Option.isSome_some,Bool.not_true,Bool.false_or,de,decide_eq_false_iff_not,Classical.not_not] at hc3;rw[nV.1 hc3]
     apply aL 2 [0] m;simp only[↓aD];exact hK1 rs2.length _ _ (by rw[hn,hp.length_eq];exact Nat.lt_succ_self _) (by kernel_rfl) ⟨dn++[(kp,kb)],rs2,_,rfl,(m.sel [false,false,false,true]),hT2,fun x hx=>(br.1 hx).elim (hall x) fun hx=>by obtain rfl:=bg.1 hx;exact hv,O⟩
   ·
    obtain rfl:=Cc hc2 hN;have hsm:D1=D2:=ahP hk hnk fun x hx=>hall x (hT.done.mem_iff.2 hx);apply aL 6 [] m;simp only[↓aD];refine aY O O ?_;try simp only[zD,zE]
    exact⟨_,O,m.ext,by rw[decide_eq_true hsm]⟩
theorem aoc{F G H R J:ak}{g1 q c:Nat}{es:Array cg}{D:List (P3 × P3)}{p:P3}(w:am)(hB1:fE w g1 [F,G,H,R,.map (some q),J] 148)(hM:iN w q es c)(hD:bA pt pt D es c):dR prog 155 [.pointer (some ⟨g1,0,none⟩),pt p] w (fun v _=>v=pt ((bL D p).getD p)):=by
 refine⟨bO func155 (by kernel_rfl),?_⟩;have m:=Mem.refl w
 go_enter func155,ntmps155
 apply nM 7 [0] m;simp only[↓aD,dN];intro g2 g3 u m;apply asJ m (T1:=30)
 ·
  refine Xh m [true,true] (.take 0 (.take 1 (.take 2 (.take 3 (.take 4 (.two 5 (.take 6 (.take 7 (.take 8 (.one 9 (.one 10 (.take 11 .nil)))))) 9 (.one 5 (.take 6 (.take 7 (.take 8 (.one 10 (.take 11 .nil)))))))))))) aF (by kernel_rfl) (fun _ _ _ _ _ h=>by cases h.1) ?_;intro u m;refine fD (by simp only[zw];rfl) (cF aC (bY (fD (by simp only[zw];rfl) (cF (eV rfl) (bY (fD (by simp only[zw];rfl) (cF (bD (c:=0) underlying148 rfl ajL rfl rfl) (bY (fD (by simp only[zw];rfl) ?_)))))))));simp only[zz];refine nT O (fun u m=>((hB1.ext m.ext).lies1 ajM O)) ?_;simp only[zz];refine bY (fD (by simp only[zw];rfl) (nT rfl (fun u m=>((m.b 1 rfl).full aH aA)) ?_));simp only[zz];refine bY ?_;refine abI (by simp only[zw];rfl) (by simp only[zw];rfl) ?_ ?_
  ·
   refine eD (vM (ek:=pt) (en:=pt) (k:=p) (v0:=⟨0,0,0⟩) Dn eC eK O O (hM.ext m.ext) hD) ?_;simp only[zz];refine aI ⟨m,?_⟩;refine fD (by simp only[zw];rfl) (cF aC (bY (fD (by simp only[zw];rfl) (cF (dD rfl rfl) (bY (fD (by simp only[zw];rfl) (cF (dD rfl rfl) (bY (oM (by simp only[zw];rfl) ?_)))))))));simp only[zz];refine lA m eC O ?_;intro g4 u m;refine aI ⟨m.sel [false,true,true],?_⟩;refine oM (by simp only[zw];rfl) ?_;simp only[zz];refine cL m 0 O O O aA (jO O) O ?_;intro u m;simp only[zy,zx,bQ,zF,zG,aa] at m;refine aI ⟨m.sel [false,true,true],?_⟩;refine fD (by simp only[zw];rfl) (cF aJ (bY (Gs ?_)));exact⟨O,g4,O,m⟩
  ·
   refine lA m eC O ?_;intro g4 u m;refine aI ⟨m.sel [false,true,true],?_⟩;refine oM (by simp only[zw];rfl) ?_;simp only[zz];refine eD (vM (ek:=pt) (en:=pt) (k:=p) (v0:=⟨0,0,0⟩) Dn eC eK O O (hM.ext m.ext) hD) ?_;simp only[zz];refine aI ⟨m.sel [false,true,true],?_⟩;refine fD (by simp only[zw];rfl) (cF aC (bY (fD (by simp only[zw];rfl) (cF (dD rfl rfl) (bY (fD (by simp only[zw];rfl) (cF (dD rfl rfl) (bY (oM (by simp only[zw];rfl) ?_)))))))));simp only[zz];refine cL m 0 O O O aA (jO O) O ?_;intro u m;simp only[zy,zx,bQ,zF,zG,aa] at m;refine aI ⟨m.sel [false,true,true],?_⟩;refine fD (by simp only[zw];rfl) (cF aJ (bY (Gs ?_)));exact⟨O,g4,O,m⟩
 intro g4 u m;try dsimp only
 apply bF 4 [0] m;simp only[↓aD];refine dC O ?_ ?_<;>intro hc1
 ·
  obtain⟨y,hy⟩:∃y,bL D p=some y:=by
   cases h:bL D p with
   | some y=>exact⟨y,rfl⟩
   | none=>rw[h] at hc1;cases hc1
  apply Wi 6 [0,1] m;simp only[↓aD,aS,aa];intro u m;refine aY O ⟨_,O,((m.b 1 O).full aH aA)⟩ ?_;try simp only[zD,zE]
  exact⟨_,O,m.ext,by rw[hy];rfl⟩
 ·
  have hy:bL D p=none:=by
   cases h:bL D p with
   | none=>rfl
   | some y=>rw[h] at hc1;cases hc1
  apply Wi 7 [2,1] m;simp only[↓aD,aS,aa];intro u m;refine aY O ⟨_,O,((m.b 1 O).full aH aA)⟩ ?_;try simp only[zD,zE]
  exact⟨_,O,m.ext,by rw[hy];rfl⟩
end Go.Proofs.YtfekpcimgncioaaGreatDoor
namespace Go.Lith
open Go.RowKit
theorem atc{d k:Nat}(hd:d<4294967296)(hk:k<2):IntKind.u64.wrap ((d:Int)*2^(min (32*(k:Int)).toNat IntKind.u64.bits))=((d*4294967296^k:Nat):Int):=by
 obtain rfl | rfl:k=0∨k=1:=by omega
 · rw[iQ];simp;omega
 · rw[iQ]
   simp only[IntKind.bits];show ((d:Int)*2^32)%18446744073709551616=_
   omega
theorem at5{s d k:Nat}(hs:s<4294967296^k)(hd:d<4294967296)(hk:k<2):IntKind.u64.wrap ((dw IntKind.u64.bits (s:Int) ||| dw IntKind.u64.bits ((d*4294967296^k:Nat):Int)).toNat:Int)=((s+d*4294967296^k:Nat):Int):=by
 rw[iQ];show (((dw 64 (s:Int) ||| dw 64 ((d*4294967296^k:Nat):Int)).toNat:Nat):Int)%18446744073709551616=_
 rw[BitVec.toNat_or,kh,kh];obtain rfl | rfl:k=0∨k=1:=by omega
 · obtain rfl:s=0:=by omega
   have h1:(((0:Nat):Int)%((2^64:Nat):Int)).toNat=0:=by simp
   have h2:(((d*4294967296^0:Nat):Int)%((2^64:Nat):Int)).toNat=d:=by omega
   rw[h1,h2,Nat.zero_or];omega
 · have hs':s<2^32:=by omega
   have h1:(((s:Nat):Int)%((2^64:Nat):Int)).toNat=s:=by omega
   have h2:(((d*4294967296^1:Nat):Int)%((2^64:Nat):Int)).toNat=d <<< 32:=by rw[Nat.shiftLeft_eq];omega
   rw[h1,h2,Nat.or_comm,←Nat.shiftLeft_add_eq_or_of_lt hs' d,Nat.shiftLeft_eq];omega
theorem ale{a:Int}{X:Nat}(h:X=a.natAbs)(hl:2<(digs 4294967296 X).length):¬pV a:=fun k=>by
 have h1:X<4294967296^2:=by have:=k.natAbs;rw[←h] at this;omega
 have h2:=fF (B:=4294967296) (by omega) h1;omega
end Go.Lith
namespace Go.Proofs.YtfekpcimgncioaaGreatDoor
open Go.Proofs.Tryz
open Go.RowKit Go.Lith
set_option maxRecDepth 100000
attribute [local irreducible] au cq eF bJ cD Code.wp
attribute [local congr] oG fS fT fU fV fW jR fX fY fZ gA gB gC gD gE gF gG gH eM eN gI gJ gL gM gN jT cW cX cA cU gK jS eO eP eQ gQ gR jU
variable{A:Option Addr}{xs ys:List Nat}{na nb ca cb:Nat}
theorem Ud{l:List UInt8}(hl:l.length≤1000000000000000):gS prog 315 [.string (qI l),.int .u8 0] (.string (qI (vY l))):=by
 intro w;refine⟨bO func315 (by kernel_rfl),?_⟩;have m:=Mem.refl w
 go_enter func315,ntmps315
 apply iE 6 [0] m;simp only[↓aD];refine cP [0] [5,6,7,8,9,10,11,12,13,14,15] (fun n vs wl=>∃(k:List UInt8),vs=[.string (qI k)]∧Mem w wl []∧(vY k=vY l)∧(k.length≤1000000000000000)∧(n=k.length)) ?_ ?_
 ·
  exact⟨_,l,O,m,O,hl,O⟩
 ·
  intro n vs wr hI u K1 hK1;obtain⟨k,rfl,m,hk,hl,hn⟩:=hI;have hsz:=Hj k;simp only[zu,zF,zG];apply aL 2 [] m;simp only[↓aD];by_cases hk0:0<k.length
  ·
   obtain⟨b,hb⟩:∃b,k[0]? = some b:=⟨k[0],ar hk0⟩
   apply bF 2 [0] m;simp only[↓aD];refine aB (yE O tZ O) ?_;apply aM 3 [1,0] m;simp only[↓aD];refine⟨by omega,?_⟩;refine eY O (aB ((vU tZ O O (by omega) (by rw[agY];exact hb))) ?_);apply aM 4 [0,0] m;simp only[↓aD];refine bK O ?_ ?_<;>intro hc1
   ·
    apply aL 4 [0] m;simp only[↓aD];refine aB (aiJ tZ O O (by omega) (by omega)) ?_;apply aM 2 [] m;simp only[↓aD];rw[show (1:Int).toNat=1 from rfl,ady];apply bF 1 [0] m;simp only[↓aD];exact hK1 ((k.drop 1).length) _ _ (by rw[ip];omega) (by kernel_rfl) ⟨k.drop 1,rfl,m,by rw[adz hb (by omega)];exact hk,by rw[ip];omega,rfl⟩
   ·
    apply aL 7 [] m;simp only[↓aD];refine aY O O ?_;try simp only[zD,zE]
    exact⟨_,O,m.ext,by rw[←hk,adA hb (by omega)]⟩
  ·
   obtain rfl:k=[]:=eo (by omega);apply bF 2 [0] m;simp only[↓aD];refine aB (yE O tZ O) ?_;apply aM 16 [2] m;simp only[↓aD];refine⟨by omega,?_⟩;refine aY O O ?_;try simp only[zD,zE]
   exact⟨_,O,m.ext,by rw[←hk,agZ]⟩
theorem aeF{l:List UInt8}(hl:l.length≤1000000000000000):gS prog 258 [.string (qI l),.string ⟨#[0]⟩] (.string (qI (vY l))):=by
 intro w;refine⟨bO func258 (by kernel_rfl),?_⟩;have m:=Mem.refl w;have hsz:=Hj l
 go_enter func258,ntmps258
 apply iE 6 [] m;simp only[↓aD];by_cases hk0:l=[]
 ·
  subst hk0;apply bF 2 [0] m;simp only[↓aD];refine aB (aiM (adw tZ O O) (show _=ba true by simp[qI])) ?_;apply aM 12 [] m;simp only[↓aD];exact aY O O ⟨_,O,m.ext,O⟩
 ·
  apply bF 2 [0] m;simp only[↓aD];refine aB (aiM (adw tZ O O) (show _=ba false by simp only[abE,hk0,decide_false])) ?_;apply aM 2 [0] m;simp only[↓aD];refine eY O (aB (aiM (adw tZ O O) (show _=ba false by simp)) ?_);apply aM 8 [0] m;simp only[↓aD];refine aB (yE O tZ O) (aB (aiL O O O) ?_);apply aM 2 [0] m;simp only[↓aD];refine eY O (aB ((vU (b:=0) tZ O O (by omega) O)) (eY O (aB (sG O O (by decide)) ?_)));apply aM 7 [0] m;simp only[↓aD];refine aB ((vU (b:=0) tZ O O (by omega) O)) ?_;simp only[zz];refine wQ m O O (Ud hl) 3 [] ?_;simp only[↓aD];intro u m;exact aY O O ⟨_,O,m.ext,O⟩
theorem xX{cap:Nat}(w:am)(hS:dF w A na cap xs):dR prog 256 [.slice A na cap] w (fun v _=>v=.slice A (trim xs).length cap):=by
 refine⟨bO func256 (by kernel_rfl),?_⟩;have m:=Mem.refl w;obtain rfl:=hS.eq;have hl:=hS.len;have hle:=hS.le
 go_enter func256,ntmps256
 apply iE 6 [0] m;simp only[↓aD];refine cP [0] [3,4,5,6,7,8,9,10,11,12,13,14,15,16,17,18,19] (fun n vs wl=>∃(k:Nat),vs=[.slice A k cap]∧Mem w wl []∧(k≤xs.length)∧(trim (xs.take k)=trim xs)∧(n=k)) ?_ ?_
 ·
  exact⟨_,xs.length,O,m,av _,by rw[fa],O⟩
 ·
  intro n vs wr hI u K1 hK1;obtain⟨k,rfl,m,hk,ht,hn⟩:=hI;simp only[zu,zF,zG];apply aL 2 [] m;simp only[↓aD];by_cases hk0:0<k
  ·
   obtain⟨a,rfl,hcell,hlt⟩:=hS.get (show k-1<xs.length by omega);apply bF 9 [1,0] m;simp only[↓aD,jW];refine⟨by omega,?_⟩;refine eY O (aB (aG bC aV O O (by omega) (by omega) (rB (show _=k-1 by omega))) (eY O ?_));simp only[zz];refine aQ O (lies1 (m.ext.cell hcell) fL) ?_;simp only[zz];apply aM 3 [0,0] m;simp only[↓aD];refine bK O ?_ ?_<;>intro hc1
   ·
    apply aL 7 [0] m;simp only[↓aD,jW];refine⟨by omega,?_⟩;refine aB (nC bC aV O O (show _=k-1 by omega) (by omega) (by omega)) ?_;apply aM 3 [0] m;simp only[↓aD];exact hK1 (k-1) _ _ (by omega) (by kernel_rfl) ⟨k-1,O,m,by omega,agO hk0 (by omega) hc1 ht,O⟩
   ·
    apply aL 7 [] m;simp only[↓aD];refine aY O O ?_;try simp only[zD,zE]
    exact⟨_,O,m.ext,by rw[←aiN hk0 (by omega) hc1 ht]⟩
  ·
   obtain rfl:k=0:=by omega
   apply bF 22 [2] m;simp only[↓aD,jW];refine⟨by omega,?_⟩;refine aY O O ?_;try simp only[zD,zE]
   exact⟨_,O,m.ext,by rw[←aiO ht]⟩
theorem af7{B:Option Addr}(w:am)(hS:dF w A na ca xs)(hR:dF w B nb cb ys)(tx:jG xs)(ty:jG ys):dR prog 187 [.slice A na ca,.slice B nb cb] w (fun v _=>v=.int .i64 (ord (val 4294967296 xs) (val 4294967296 ys))):=by
 refine⟨bO func187 (by kernel_rfl),?_⟩;have m:=Mem.refl w;obtain rfl:=hS.eq;obtain rfl:=hR.eq;have hl:=hS.len;have hl2:=hR.len
 go_enter func187,ntmps187
 apply iE 15 [0,0] m;simp only[↓aD,jW];refine bK O ?_ ?_<;>intro hc1
 ·
  apply aL 5 [] m;simp only[↓aD];refine aY O O ?_;try simp only[zD,zE]
  exact⟨_,O,m.ext,by rw[ord,if_pos (sH (by omega) hS.digs hR.digs ty (by omega))]⟩
 ·
  apply aL 9 [0,0] m;simp only[↓aD,jW];refine bK O ?_ ?_<;>intro hc2
  ·
   apply aL 5 [] m;simp only[↓aD];refine aY O O ?_;try simp only[zD,zE]
   exact⟨_,O,m.ext,by have:=sH (B:=4294967296) (by omega) hR.digs hS.digs tx (by omega);rw[ord,if_neg (by omega),if_pos this]⟩
  ·
   apply aL 11 [0] m;simp only[↓aD,jW];refine⟨by omega,?_⟩;refine cP [5] [4,21,22,23,24,25,26,27,28,29,30,31,32,33,34,35,36,37,38,39,40,41,42,43,44] (fun n vs wl=>∃(k:Nat),vs=[.int .i64 ((k:Int)-1)]∧Mem w wl []∧(k≤xs.length)∧(xs.drop k=ys.drop k)∧(n=k)) ?_ ?_
   ·
    exact⟨_,xs.length,O,m,av _,by rw[qi,show xs.length=ys.length by omega,qi],O⟩
   ·
    intro n vs wr hI u K1 hK1;obtain⟨k,rfl,m,hk,hd,hn⟩:=hI;simp only[zu,zF,zG];apply aL 6 [0,0] m;simp only[↓aD];refine bK O ?_ ?_<;>intro hc3
    ·
     apply aL 5 [] m;simp only[↓aD];obtain⟨a,rfl,hca,_⟩:=hS.get (show k-1<xs.length by omega);obtain⟨b,rfl,hcb,_⟩:=hR.get (show k-1<ys.length by omega);refine gc (mq m aF (by kernel_rfl) (aK aC (aK aC ?_)));simp only[zz];refine aK (aG bC aV O O (by omega) (by omega) (rB (show _=k-1 by omega))) ?_;simp only[zz];refine ql O (fun u m=>(lies1 (m.ext.cell hca) fL)) ?_;simp only[zz];refine aK aC (aK aC ?_);simp only[zz];refine aK (aG bC aV O O (by omega) (by omega) (rB (show _=k-1 by omega))) ?_;simp only[zz];refine ql O (fun u m=>(lies1 (m.ext.cell hcb) fL)) ?_;simp only[zz];refine aK (tQ O O) (aK aJ (bN ?_));intro u m;refine gc ?_;simp only[zz];refine bK O ?_ ?_<;>intro hc4
     ·
      apply aL 5 [] m;simp only[↓aD];refine aY O O ?_;try simp only[zD,zE]
      exact⟨_,O,m.ext,by rw[ord,if_pos (aiQ hS.digs (by omega) (by omega) (by omega) hd hc4)]⟩
     ·
      apply aL 1 [] m;simp only[↓aD];have hca:=hS.at (show k-1<xs.length by omega);have hcb:=hR.at (show k-1<ys.length by omega);refine gc (mq m aF (by kernel_rfl) (aK aC (aK aC ?_)));simp only[zz];refine aK (aG bC aV O O (by omega) (by omega) (rB (show _=k-1 by omega))) ?_;simp only[zz];refine ql O (fun u m=>(lies1 (m.ext.cell hca) fL)) ?_;simp only[zz];refine aK aC (aK aC ?_);simp only[zz];refine aK (aG bC aV O O (by omega) (by omega) (rB (show _=k-1 by omega))) ?_;simp only[zz];refine ql O (fun u m=>(lies1 (m.ext.cell hcb) fL)) ?_;simp only[zz];refine aK (Nr O O) (aK aJ (bN ?_));intro u m;refine gc ?_;simp only[zz];refine bK O ?_ ?_<;>intro hc5
      ·
       apply aL 5 [] m;simp only[↓aD];refine aY O O ?_;try simp only[zD,zE]
       exact⟨_,O,m.ext,by have:=aiQ hR.digs (by omega) (by omega) (by omega) hd.symm hc5;rw[ord,if_neg (by omega),if_pos this]⟩
      ·
       apply aL 8 [0] m;simp only[↓aD];refine⟨by omega,?_⟩;rw[show ((k:Int)-1-1)=((k-1:Nat):Int)-1 by omega];exact hK1 (k-1) _ _ (by omega) (by kernel_rfl) ⟨k-1,O,m,by omega,agP (by omega) (by omega) (by omega) hd hc4 hc5,O⟩
    ·
     apply aL 6 [] m;simp only[↓aD];refine aY O O ?_;try simp only[zD,zE]
     exact⟨_,O,m.ext,by have h0:k=0:=(by omega);subst h0;simp only[od] at hd;rw[hd,ord,if_neg (by omega),if_neg (by omega)]⟩
theorem apt{B:Option Addr}(w:am)(hS:dF w A na ca xs)(hR:dF w B nb cb ys)(hlx:xs.length≤1099511627776)(hly:ys.length≤1099511627776):dR prog 186 [.slice A na ca,.slice B nb cb] w (iX (val 4294967296 xs+val 4294967296 ys)):=by
 refine⟨bO func186 (by kernel_rfl),?_⟩;have m:=Mem.refl w;obtain rfl:=hS.eq;obtain rfl:=hR.eq
 go_enter func186,ntmps186
 apply iE 13 [0,0] m;simp only[↓aD,jW];refine bK O ?_ ?_<;>intro hc1
 ·
  obtain⟨qb,rfl⟩:∃q,q=xs:=⟨_,rfl⟩
  obtain⟨qa,rfl⟩:∃q,q=ys:=⟨_,rfl⟩
  obtain⟨Qb,rfl⟩:∃q,q=A:=⟨_,rfl⟩
  obtain⟨Qa,rfl⟩:∃q,q=B:=⟨_,rfl⟩
  have hSa:=hR;have hSb:=hS;apply aL 11 [0] m;simp only[↓aD,jW];refine⟨by omega,?_⟩;refine qY bC pP O O O (show _=qa.length+1 by omega) (show _=qa.length+1 by omega) (by omega) (by omega) (by omega) (by omega) ?_;intro u g1 e_ h_ k_;replace m:=m.newB e_ h_ k_;apply aM 2 [] m;simp only[↓aD];rw[iP] at m;apply bF 12 [0] m;simp only[↓aD,jW];refine cP [6,22] [7,8,23,24,25,26,27,28,29,30,31,32,33,34,35,36,37,38,39,40,41,42,43,44,45,46,47,48] (fun n vs wl=>∃(i c:Nat) (os:List Nat),vs=[.int .u64 (c:Int),.int .i64 (i:Int)]∧Mem w wl [bI g1 (os.map mX) 231]∧(i≤qa.length)∧(os.length=qa.length+1)∧(val 4294967296 os+4294967296^i*c=val 4294967296 (qa.take i)+val 4294967296 (qb.take i))∧(os.drop i=cl (qa.length+1-i) 0)∧(dV 4294967296 os)∧(c≤1)∧(n=qa.length-i)) ?_ ?_
  ·
   exact⟨_,0,0,cl (qa.length+1) 0,O,m,by omega,by simp,by simp[gZ,val],by simp,fun x hx=>by rw[fp hx];decide,by omega,rfl⟩
  ·
   intro n vs wr hI u K1 hK1;obtain⟨i,c,os,rfl,m,hi,hlo,hv,hz,hd,hc,hn⟩:=hI;simp only[zu,zF,zG];apply aL 5 [0,0] m;simp only[↓aD];refine bK O ?_ ?_<;>intro hc2
   ·
    apply aL 9 [] m;simp only[↓aD];obtain⟨a,rfl,hca,hla⟩:=hSa.get (show i<qa.length by omega);apply bF 3 [0] m;simp only[↓aD];refine aB (aG bC aV O O (by omega) (by omega) (rB (ai _))) ?_;simp only[zz];refine aQ O (lies1 (m.ext.cell hca) fL) ?_;simp only[zz];apply aM 12 [0,0] m;simp only[↓aD,jW];refine⟨by omega,?_⟩;refine bK O ?_ ?_<;>intro hc3
    ·
     obtain⟨b,rfl,hcb,hlb⟩:=hSb.get (show i<qb.length by omega);apply aL 4 [0] m;simp only[↓aD];refine aB (aG bC aV O O (by omega) (by omega) (rB (ai _))) ?_;simp only[zz];refine aQ O (lies1 (m.ext.cell hcb) fL) ?_;simp only[zz];apply aM 3 [] m;simp only[↓aD];refine⟨by omega,?_⟩;obtain⟨s,hs⟩:∃s:Nat,(s:Int)=↑qa[i]+↑c+↑qb[i]:=⟨qa[i]+c+qb[i],by omega⟩
     rw[←hs];have hs2:s=qa[i]+c+qb[i]?.getD 0:=by rw[ar (by omega)];simp;omega
     have hyb:qb[i]?.getD 0<4294967296:=by rw[ar (by omega)];exact hlb
     apply bF 4 [0] m;simp only[↓aD];refine aB (yD O O (tR (by omega) (by omega))) ?_;apply aM 1 [0] m;simp only[↓aD];refine aB (oW O O (by omega) (Ww (by omega))) ?_;simp only[zz];refine aB (aG bC aV O O (by omega) (by omega) (iL (ai _))) ?_;simp only[zz];refine fK m 0 O O O aV (by simp;omega) ⟨rfl,rfl⟩ ?_;intro u m;simp only[zz] at m ;rw[show ((s:Int)%4294967296)=((s%4294967296:Nat):Int) by omega,iD (by omega)] at m;apply aM 7 [0] m;simp only[↓aD];refine⟨by omega,?_⟩;obtain⟨r1,r2,r3,r4⟩:=Fh (by omega) hlo hv hz hd hc hs2 hla hyb;rw[show ((i:Int)+1)=((i+1:Nat):Int) by omega,show ((s:Int) / 4294967296)=((s / 4294967296:Nat):Int) by omega];exact hK1 (qa.length-(i+1)) _ _ (by omega) (by kernel_rfl) ⟨i+1,s / 4294967296,os.set i (s%4294967296),O,m,by omega,by simpa using hlo,r1,r2,r3,r4,O⟩
    ·
     obtain⟨s,hs⟩:∃s:Nat,(s:Int)=↑qa[i]+↑c:=⟨qa[i]+c,by omega⟩
     rw[←hs];have hs2:s=qa[i]+c+qb[i]?.getD 0:=by rw[fm (by omega)];simp;omega
     have hyb:qb[i]?.getD 0<4294967296:=by rw[fm (by omega)];decide
     apply aL 5 [0] m;simp only[↓aD];refine aB (yD O O (tR (by omega) (by omega))) ?_;apply aM 1 [0] m;simp only[↓aD];refine aB (oW O O (by omega) (Ww (by omega))) ?_;simp only[zz];refine aB (aG bC aV O O (by omega) (by omega) (iL (ai _))) ?_;simp only[zz];refine fK m 0 O O O aV (by simp;omega) ⟨rfl,rfl⟩ ?_;intro u m;simp only[zz] at m ;rw[show ((s:Int)%4294967296)=((s%4294967296:Nat):Int) by omega,iD (by omega)] at m;apply aM 7 [0] m;simp only[↓aD];refine⟨by omega,?_⟩;obtain⟨r1,r2,r3,r4⟩:=Fh (by omega) hlo hv hz hd hc hs2 hla hyb;rw[show ((i:Int)+1)=((i+1:Nat):Int) by omega,show ((s:Int) / 4294967296)=((s / 4294967296:Nat):Int) by omega];exact hK1 (qa.length-(i+1)) _ _ (by omega) (by kernel_rfl) ⟨i+1,s / 4294967296,os.set i (s%4294967296),O,m,by omega,by simpa using hlo,r1,r2,r3,r4,O⟩
   ·
    apply aL 2 [] m;simp only[↓aD];obtain rfl:i=qa.length:=by omega
    apply bF 5 [0] m;simp only[↓aD,jW];refine aB (aG bC aV O O (by omega) (by omega) (iL (ai _))) ?_;simp only[zz];refine fK m 0 O O O aV (by simp;omega) ⟨rfl,rfl⟩ ?_;intro u m;simp only[zz] at m ;rw[iD (by omega)] at m;apply aM 4 [0] m;simp only[↓aD];refine dH m O O (xX _ ((m.b 0 O).nat (hd.set (show c<4294967296 by omega)) (by simp;omega) (by omega))) ?_;rintro v u m rfl;apply aM 3 [] m;simp only[↓aD];refine aY O O ?_;try simp only[zD,zE]
    exact⟨_,O,m.ext,by first | exact iX.of_trim ((m.b 0 O).nat (hd.set (show c<4294967296 by omega)) (by simp;omega) (by omega)) (Pi (by omega) hlo hv hz) | (rw[Nat.add_comm];exact iX.of_trim ((m.b 0 O).nat (hd.set (show c<4294967296 by omega)) (by simp;omega) (by omega)) (Pi (by omega) hlo hv hz))⟩
 ·
  obtain⟨qa,rfl⟩:∃q,q=xs:=⟨_,rfl⟩
  obtain⟨qb,rfl⟩:∃q,q=ys:=⟨_,rfl⟩
  obtain⟨Qa,rfl⟩:∃q,q=A:=⟨_,rfl⟩
  obtain⟨Qb,rfl⟩:∃q,q=B:=⟨_,rfl⟩
  have hSa:=hS;have hSb:=hR;apply aL 6 [0] m;simp only[↓aD,jW];refine⟨by omega,?_⟩;refine qY bC pP O O O (show _=qa.length+1 by omega) (show _=qa.length+1 by omega) (by omega) (by omega) (by omega) (by omega) ?_;intro u g1 e_ h_ k_;replace m:=m.newB e_ h_ k_;apply aM 2 [] m;simp only[↓aD];rw[iP] at m;apply bF 12 [0] m;simp only[↓aD,jW];refine cP [6,22] [7,8,23,24,25,26,27,28,29,30,31,32,33,34,35,36,37,38,39,40,41,42,43,44,45,46,47,48] (fun n vs wl=>∃(i c:Nat) (os:List Nat),vs=[.int .u64 (c:Int),.int .i64 (i:Int)]∧Mem w wl [bI g1 (os.map mX) 231]∧(i≤qa.length)∧(os.length=qa.length+1)∧(val 4294967296 os+4294967296^i*c=val 4294967296 (qa.take i)+val 4294967296 (qb.take i))∧(os.drop i=cl (qa.length+1-i) 0)∧(dV 4294967296 os)∧(c≤1)∧(n=qa.length-i)) ?_ ?_
  ·
   exact⟨_,0,0,cl (qa.length+1) 0,O,m,by omega,by simp,by simp[gZ,val],by simp,fun x hx=>by rw[fp hx];decide,by omega,rfl⟩
  ·
   intro n vs wr hI u K2 hK2;obtain⟨i,c,os,rfl,m,hi,hlo,hv,hz,hd,hc,hn⟩:=hI;simp only[zu,zF,zG];apply aL 5 [0,0] m;simp only[↓aD];refine bK O ?_ ?_<;>intro hc2
   ·
    apply aL 9 [] m;simp only[↓aD];obtain⟨a,rfl,hca,hla⟩:=hSa.get (show i<qa.length by omega);apply bF 3 [0] m;simp only[↓aD];refine aB (aG bC aV O O (by omega) (by omega) (rB (ai _))) ?_;simp only[zz];refine aQ O (lies1 (m.ext.cell hca) fL) ?_;simp only[zz];apply aM 12 [0,0] m;simp only[↓aD,jW];refine⟨by omega,?_⟩;refine bK O ?_ ?_<;>intro hc3
    ·
     obtain⟨b,rfl,hcb,hlb⟩:=hSb.get (show i<qb.length by omega);apply aL 4 [0] m;simp only[↓aD];refine aB (aG bC aV O O (by omega) (by omega) (rB (ai _))) ?_;simp only[zz];refine aQ O (lies1 (m.ext.cell hcb) fL) ?_;simp only[zz];apply aM 3 [] m;simp only[↓aD];refine⟨by omega,?_⟩;obtain⟨s,hs⟩:∃s:Nat,(s:Int)=↑qa[i]+↑c+↑qb[i]:=⟨qa[i]+c+qb[i],by omega⟩
     rw[←hs];have hs2:s=qa[i]+c+qb[i]?.getD 0:=by rw[ar (by omega)];simp;omega
     have hyb:qb[i]?.getD 0<4294967296:=by rw[ar (by omega)];exact hlb
     apply bF 4 [0] m;simp only[↓aD];refine aB (yD O O (tR (by omega) (by omega))) ?_;apply aM 1 [0] m;simp only[↓aD];refine aB (oW O O (by omega) (Ww (by omega))) ?_;simp only[zz];refine aB (aG bC aV O O (by omega) (by omega) (iL (ai _))) ?_;simp only[zz];refine fK m 0 O O O aV (by simp;omega) ⟨rfl,rfl⟩ ?_;intro u m;simp only[zz] at m ;rw[show ((s:Int)%4294967296)=((s%4294967296:Nat):Int) by omega,iD (by omega)] at m;apply aM 7 [0] m;simp only[↓aD];refine⟨by omega,?_⟩;obtain⟨r1,r2,r3,r4⟩:=Fh (by omega) hlo hv hz hd hc hs2 hla hyb;rw[show ((i:Int)+1)=((i+1:Nat):Int) by omega,show ((s:Int) / 4294967296)=((s / 4294967296:Nat):Int) by omega];exact hK2 (qa.length-(i+1)) _ _ (by omega) (by kernel_rfl) ⟨i+1,s / 4294967296,os.set i (s%4294967296),O,m,by omega,by simpa using hlo,r1,r2,r3,r4,O⟩
    ·
     obtain⟨s,hs⟩:∃s:Nat,(s:Int)=↑qa[i]+↑c:=⟨qa[i]+c,by omega⟩
     rw[←hs];have hs2:s=qa[i]+c+qb[i]?.getD 0:=by rw[fm (by omega)];simp;omega
     have hyb:qb[i]?.getD 0<4294967296:=by rw[fm (by omega)];decide
     apply aL 5 [0] m;simp only[↓aD];refine aB (yD O O (tR (by omega) (by omega))) ?_;apply aM 1 [0] m;simp only[↓aD];refine aB (oW O O (by omega) (Ww (by omega))) ?_;simp only[zz];refine aB (aG bC aV O O (by omega) (by omega) (iL (ai _))) ?_;simp only[zz];refine fK m 0 O O O aV (by simp;omega) ⟨rfl,rfl⟩ ?_;intro u m;simp only[zz] at m ;rw[show ((s:Int)%4294967296)=((s%4294967296:Nat):Int) by omega,iD (by omega)] at m;apply aM 7 [0] m;simp only[↓aD];refine⟨by omega,?_⟩;obtain⟨r1,r2,r3,r4⟩:=Fh (by omega) hlo hv hz hd hc hs2 hla hyb;rw[show ((i:Int)+1)=((i+1:Nat):Int) by omega,show ((s:Int) / 4294967296)=((s / 4294967296:Nat):Int) by omega];exact hK2 (qa.length-(i+1)) _ _ (by omega) (by kernel_rfl) ⟨i+1,s / 4294967296,os.set i (s%4294967296),O,m,by omega,by simpa using hlo,r1,r2,r3,r4,O⟩
   ·
    apply aL 2 [] m;simp only[↓aD];obtain rfl:i=qa.length:=by omega
    apply bF 5 [0] m;simp only[↓aD,jW];refine aB (aG bC aV O O (by omega) (by omega) (iL (ai _))) ?_;simp only[zz];refine fK m 0 O O O aV (by simp;omega) ⟨rfl,rfl⟩ ?_;intro u m;simp only[zz] at m ;rw[iD (by omega)] at m;apply aM 4 [0] m;simp only[↓aD];refine dH m O O (xX _ ((m.b 0 O).nat (hd.set (show c<4294967296 by omega)) (by simp;omega) (by omega))) ?_;rintro v u m rfl;apply aM 3 [] m;simp only[↓aD];refine aY O O ?_;try simp only[zD,zE]
    exact⟨_,O,m.ext,by first | exact iX.of_trim ((m.b 0 O).nat (hd.set (show c<4294967296 by omega)) (by simp;omega) (by omega)) (Pi (by omega) hlo hv hz) | (rw[Nat.add_comm];exact iX.of_trim ((m.b 0 O).nat (hd.set (show c<4294967296 by omega)) (by simp;omega) (by omega)) (Pi (by omega) hlo hv hz))⟩
theorem alf{B:Option Addr}(w:am)(hS:dF w A na ca xs)(hR:dF w B nb cb ys)(hle:ys.length≤xs.length)(hge:val 4294967296 ys≤val 4294967296 xs)(hlx:xs.length≤1099511627776):dR prog 188 [.slice A na ca,.slice B nb cb] w (fun v w'=>iX (val 4294967296 xs-val 4294967296 ys) v w'∧Jb w v):=by
 refine⟨bO func188 (by kernel_rfl),?_⟩;have m:=Mem.refl w;obtain rfl:=hS.eq;obtain rfl:=hR.eq
 go_enter func188,ntmps188
 apply iE 8 [0] m;simp only[↓aD,jW];refine qY bC pP O O O (ai _) (ai _) (by omega) (by omega) (by omega) (by omega) ?_;intro u g1 e_ h_ k_;replace m:=m.newB e_ h_ k_;apply aM 2 [] m;simp only[↓aD];rw[iP] at m;apply bF 12 [0] m;simp only[↓aD,jW];refine cP [6,14] [7,8,15,16,17,18,19,20,21,22,23,24,25,26,27,28,29,30,31,32,33,34,35,36,37,38,39,40] (fun n vs wl=>∃(i c:Nat) (os:List Nat),vs=[.int .u64 (c:Int),.int .i64 (i:Int)]∧Mem w wl [bI g1 (os.map mX) 231]∧(i≤xs.length)∧(os.length=xs.length)∧(val 4294967296 os+val 4294967296 (ys.take i)=val 4294967296 (xs.take i)+4294967296^i*c)∧(os.drop i=cl (xs.length-i) 0)∧(dV 4294967296 os)∧(c≤1)∧(n=xs.length-i)) ?_ ?_
 ·
  exact⟨_,0,0,cl xs.length 0,O,m,by omega,by simp,by simp[gZ,val],by simp,fun x hx=>by rw[fp hx];decide,by omega,rfl⟩
 ·
  intro n vs wr hI u K1 hK1;obtain⟨i,c,os,rfl,m,hi,hlo,hv,hz,hd,hc,hn⟩:=hI;simp only[zu,zF,zG];apply aL 5 [0,0] m;simp only[↓aD];refine bK O ?_ ?_<;>intro hc1
  ·
   apply aL 9 [] m;simp only[↓aD];obtain⟨a,rfl,hca,hla⟩:=hS.get (show i<xs.length by omega);apply bF 3 [0] m;simp only[↓aD];refine aB (aG bC aV O O (by omega) (by omega) (rB (ai _))) ?_;simp only[zz];refine aQ O (lies1 (m.ext.cell hca) fL) ?_;simp only[zz];apply aM 1 [0] m;simp only[↓aD];refine aB (mG O O (iQ _)) ?_;apply aM 10 [0,0] m;simp only[↓aD,jW];refine bK O ?_ ?_<;>intro hc2
   ·
    obtain⟨b,rfl,hcb,hlb⟩:=hR.get (show i<ys.length by omega);apply aL 4 [0] m;simp only[↓aD];refine aB (aG bC aV O O (by omega) (by omega) (rB (ai _))) ?_;simp only[zz];refine aQ O (lies1 (m.ext.cell hcb) fL) ?_;simp only[zz];refine aB (mG O O (iQ _)) ?_;apply aM 2 [] m;simp only[↓aD];obtain⟨s,hs⟩:∃s:Nat,(s:Int)=((↑xs[i]-↑c)%18446744073709551616-↑ys[i])%18446744073709551616:=⟨(((↑xs[i]-↑c)%18446744073709551616-↑ys[i])%18446744073709551616:Int).toNat,by omega⟩
    rw[←hs];have hs2:(s:Int)=((xs[i]:Nat)-(c:Nat)-(ys[i]?.getD 0:Nat):Int)%18446744073709551616:=by rw[ar (by omega)];simp only[de];omega
    have hyb:ys[i]?.getD 0<4294967296:=by rw[ar (by omega)];exact hlb
    have hs64:s<18446744073709551616:=by omega
    apply bF 4 [0] m;simp only[↓aD];refine aB (yD O O (tR (by omega) (by omega))) ?_;apply aM 1 [0] m;simp only[↓aD];refine aB (oW O O (by omega) (ao6 (by omega))) ?_;simp only[zz];refine aB (aG bC aV O O (by omega) (by omega) (iL (ai _))) ?_;simp only[zz];refine fK m 0 O O O aV (by simp;omega) ⟨rfl,rfl⟩ ?_;intro u m;simp only[zz] at m ;rw[show ((s:Int)%4294967296)=((s%4294967296:Nat):Int) by omega,iD (by omega)] at m;apply aM 7 [0] m;simp only[↓aD];refine⟨by omega,?_⟩;obtain⟨r1,r2,r3,r4⟩:=Wx (by omega) hlo hv hz hd hc hs2 hla hyb;rw[show ((i:Int)+1)=((i+1:Nat):Int) by omega,show ((s:Int) / 9223372036854775808)=((s / 9223372036854775808:Nat):Int) by omega];exact hK1 (xs.length-(i+1)) _ _ (by omega) (by kernel_rfl) ⟨i+1,s / 9223372036854775808,os.set i (s%4294967296),O,m,by omega,by simpa using hlo,r1,r2,r3,r4,O⟩
   ·
    obtain⟨s,hs⟩:∃s:Nat,(s:Int)=(↑xs[i]-↑c)%18446744073709551616:=⟨((↑xs[i]-↑c)%18446744073709551616:Int).toNat,by omega⟩
    rw[←hs];have hs2:(s:Int)=((xs[i]:Nat)-(c:Nat)-(ys[i]?.getD 0:Nat):Int)%18446744073709551616:=by rw[fm (by omega)];simp only[Option.getD_none];omega
    have hyb:ys[i]?.getD 0<4294967296:=by rw[fm (by omega)];decide
    apply aL 1 [] m;simp only[↓aD];have hs64:s<18446744073709551616:=by omega
    apply bF 4 [0] m;simp only[↓aD];refine aB (yD O O (tR (by omega) (by omega))) ?_;apply aM 1 [0] m;simp only[↓aD];refine aB (oW O O (by omega) (ao6 (by omega))) ?_;simp only[zz];refine aB (aG bC aV O O (by omega) (by omega) (iL (ai _))) ?_;simp only[zz];refine fK m 0 O O O aV (by simp;omega) ⟨rfl,rfl⟩ ?_;intro u m;simp only[zz] at m ;rw[show ((s:Int)%4294967296)=((s%4294967296:Nat):Int) by omega,iD (by omega)] at m;apply aM 7 [0] m;simp only[↓aD];refine⟨by omega,?_⟩;obtain⟨r1,r2,r3,r4⟩:=Wx (by omega) hlo hv hz hd hc hs2 hla hyb;rw[show ((i:Int)+1)=((i+1:Nat):Int) by omega,show ((s:Int) / 9223372036854775808)=((s / 9223372036854775808:Nat):Int) by omega];exact hK1 (xs.length-(i+1)) _ _ (by omega) (by kernel_rfl) ⟨i+1,s / 9223372036854775808,os.set i (s%4294967296),O,m,by omega,by simpa using hlo,r1,r2,r3,r4,O⟩
  ·
   apply aL 2 [] m;simp only[↓aD];obtain rfl:i=xs.length:=by omega
   apply bF 2 [0] m;simp only[↓aD];refine dH m O O (xX _ ((m.b 0 O).nat hd (by omega) (by omega))) ?_;rintro v u m rfl;apply aM 3 [] m;simp only[↓aD];exact aY O O ⟨_,O,m.ext,iX.of_trim ((m.b 0 O).nat hd (n:=xs.length) (by omega) (by omega)) (amP hle hlo hd hv hge),Jb.of_blk (m.gb 0 O)⟩
theorem alg{B:Option Addr}(w:am)(hS:dF w A na ca xs)(hR:dF w B nb cb ys)(hlx:xs.length≤1099511627776)(hly:ys.length≤1099511627776):dR prog 189 [.slice A na ca,.slice B nb cb] w (iX (val 4294967296 xs*val 4294967296 ys)):=by
 refine⟨bO func189 (by kernel_rfl),?_⟩;have m:=Mem.refl w;obtain rfl:=hS.eq;obtain rfl:=hR.eq
 go_enter func189,ntmps189
 apply iE 11 [0] m;simp only[↓aD,jW];refine⟨by omega,?_⟩;refine qY bC pP O O O (show _=xs.length+ys.length by omega) (show _=xs.length+ys.length by omega) (by omega) (by omega) (by omega) (by omega) ?_;intro u g1 e_ h_ k_;replace m:=m.newB e_ h_ k_;apply aM 2 [] m;simp only[↓aD];rw[iP] at m;apply bF 8 [0] m;simp only[↓aD,jW];refine cP [20] [6,7,8,9,10,11,21,22,23,24,25,26,27,28,29,30,31,32,33,34,35,36,37,38,39,40,41,42,43,44,45,46,47,48,49,50,51,52,53,54,55,56,57,58,59,60,61] (fun n vs wl=>∃(i:Nat) (os:List Nat),vs=[.int .i64 (i:Int)]∧Mem w wl [bI g1 (os.map mX) 231]∧(i≤xs.length)∧(os.length=xs.length+ys.length)∧(val 4294967296 os=val 4294967296 (xs.take i)*val 4294967296 ys)∧(os.drop (i+ys.length)=cl (xs.length-i) 0)∧(dV 4294967296 os)∧(n=xs.length-i)) ?_ ?_
 ·
  exact⟨_,0,cl (xs.length+ys.length) 0,O,m,by omega,by simp,by rw[gZ,km];simp only[val,Nat.zero_mul],by rw[pm];congr 1;omega,fun x hx=>by rw[fp hx];decide,rfl⟩
 ·
  intro n vs wr hI u K1 hK1;obtain⟨i,os,rfl,m,hi,hlo,hv,hz,hd,hn⟩:=hI;simp only[zu,zF,zG];apply aL 5 [0,0] m;simp only[↓aD];refine bK O ?_ ?_<;>intro hc1
  ·
   apply aL 4 [] m;simp only[↓aD];obtain⟨a,rfl,hca,hla⟩:=hS.get (show i<xs.length by omega);apply bF 2 [0] m;simp only[↓aD];refine aB (aG bC aV O O (by omega) (by omega) (rB (ai _))) ?_;simp only[zz];refine aQ O (lies1 (m.ext.cell hca) fL) ?_;simp only[zz];apply aM 15 [0] m;simp only[↓aD,jW];refine cP [8,27] [9,10,11,28,29,30,31,32,33,34,35,36,37,38,39,40,41,42,43,44,45,46,47,48,49,50,51,52,53] (fun n vs wl=>∃(k c:Nat) (os:List Nat),vs=[.int .u64 (c:Int),.int .i64 (k:Int)]∧Mem w wl [bI g1 (os.map mX) 231]∧(k≤ys.length)∧(os.length=xs.length+ys.length)∧(val 4294967296 os+4294967296^(i+k)*c=val 4294967296 (xs.take i)*val 4294967296 ys+4294967296^i*(xs[i]*val 4294967296 (ys.take k)))∧(os.drop (i+ys.length)=cl (xs.length-i) 0)∧(dV 4294967296 os)∧(c<4294967296)∧(n=ys.length-k)) ?_ ?_
   ·
    exact⟨_,0,0,os,O,m,by omega,hlo,by rw[km,hv];simp only[val,nh],hz,hd,by omega,rfl⟩
   ·
    intro n vs wr hI u K2 hK2;obtain⟨k,c,os,rfl,m,hk,hlo,hv2,hz,hd,hc,hn2⟩:=hI;simp only[zu,zF,zG];apply aL 5 [0,0] m;simp only[↓aD];refine bK O ?_ ?_<;>intro hc2
    ·
     apply aL 4 [] m;simp only[↓aD];obtain⟨b,rfl,hcb,hlb⟩:=hR.get (show k<ys.length by omega);apply bF 2 [0] m;simp only[↓aD];refine aB (aG bC aV O O (by omega) (by omega) (rB (ai _))) ?_;simp only[zz];refine aQ O (lies1 (m.ext.cell hcb) fL) ?_;simp only[zz];apply aM 4 [] m;simp only[↓aD];have hco:=(m.b 0 rfl).word (show i+k<os.length by omega);have hlo2:=hd.get (ar (show i+k<os.length by omega));obtain⟨hm0,hm1⟩:=amR hla hlb;apply bF 5 [0] m;simp only[↓aD];refine⟨by omega,?_⟩;refine aB (aG bC aV O O (by omega) (by omega) (iL (show _=i+k by omega))) ?_;simp only[zz];refine aQ O (lies1 ((m.b 0 O).word (show i+k<os.length by omega)) fL) ?_;simp only[zz];apply aM 8 [] m;simp only[↓aD];refine⟨by omega,?_⟩;obtain⟨s,hs⟩:∃s:Nat,s=os[i+k]+xs[i]*ys[k]+c:=⟨_,rfl⟩
     have hsI:(↑os[i+k]+↑xs[i]*↑ys[k]+↑c:Int)=(s:Int):=by rw[hs];simp
     rw[hsI];have hs64:s<18446744073709551616:=by omega
     apply bF 6 [0] m;simp only[↓aD];refine⟨by omega,?_⟩;refine aB (yD O O (tR (by omega) (by omega))) ?_;apply aM 1 [0] m;simp only[↓aD];refine aB (oW O O (by omega) (Ww (by omega))) ?_;simp only[zz];refine aB (aG bC aV O O (by omega) (by omega) (iL (show _=i+k by omega))) ?_;simp only[zz];refine fK m 0 O O O aV (by simp;omega) ⟨rfl,rfl⟩ ?_;intro u m;simp only[zz] at m ;rw[show ((s:Int)%4294967296)=((s%4294967296:Nat):Int) by omega,iD (by omega)] at m;apply aM 7 [0] m;simp only[↓aD];refine⟨by omega,?_⟩;have r1:=agQ (by omega) (by omega) hlo hv2 hs;rw[show ((k:Int)+1)=((k+1:Nat):Int) by omega,show ((s:Int) / 4294967296)=((s / 4294967296:Nat):Int) by omega];exact hK2 (ys.length-(k+1)) _ _ (by omega) (by kernel_rfl) ⟨k+1,s / 4294967296,os.set (i+k) (s%4294967296),O,m,by omega,by simpa using hlo,r1,by rw[wY (by omega)];exact hz,hd.set (by omega),by omega,O⟩
    ·
     apply aL 1 [] m;simp only[↓aD];obtain rfl:k=ys.length:=by omega
     apply bF 7 [0] m;simp only[↓aD,jW];refine⟨by omega,?_⟩;refine aB (aG bC aV O O (by omega) (by omega) (iL (show _=i+ys.length by omega))) ?_;simp only[zz];refine fK m 0 O O O aV (by simp;omega) ⟨rfl,rfl⟩ ?_;intro u m;simp only[zz] at m ;rw[iD (by omega)] at m;apply aM 6 [0] m;simp only[↓aD];refine⟨by omega,?_⟩;obtain⟨r1,r2⟩:=amQ (by omega) hlo hv2 hz;rw[show ((i:Int)+1)=((i+1:Nat):Int) by omega];exact hK1 (xs.length-(i+1)) _ _ (by omega) (by kernel_rfl) ⟨i+1,os.set (i+ys.length) c,O,m,by omega,by simpa using hlo,r1,r2,hd.set (by omega),O⟩
  ·
   apply aL 2 [] m;simp only[↓aD];obtain rfl:i=xs.length:=by omega
   apply bF 2 [0] m;simp only[↓aD];refine dH m O O (xX _ ((m.b 0 O).nat hd (by omega) (by omega))) ?_;rintro v u m rfl;apply aM 3 [] m;simp only[↓aD];exact aY O O ⟨_,O,m.ext,iX.of_trim ((m.b 0 O).nat hd (n:=xs.length+ys.length) (by omega) (by omega)) (by rw[hv,fa])⟩
end Go.Proofs.YtfekpcimgncioaaGreatDoor
namespace Go.Proofs.YtfekpcimgncioaaGreatDoor
open Go.Proofs.Tryz
open Go.RowKit Go.Lith
set_option maxRecDepth 100000
attribute [local irreducible] au cq eF Code.wp
variable{A:Option Addr}{xs ys:List Nat}{na ca d sh nb cb:Nat}
theorem af8(w:am)(hS:dF w A na ca xs)(hlx:xs.length≤1099511627776)(h0:0<d)(h32:d≤4294967296):dR prog 226 [.slice A na ca,.int .u64 (d:Int)] w (fun v w'=>∃q,v=.tuple #[q,.int .u64 ((val 4294967296 xs%d:Nat):Int)]∧iX (val 4294967296 xs / d) q w'):=by
 skip
 refine⟨bO func226 (by kernel_rfl),?_⟩;have hX:=dY.refl w;obtain rfl:=hS.eq
 go_enter func226,ntmps226
 refine aT (fun K1 hK1=>aj (aB aJ (aB aJ ?_)));simp only[zz];refine aI (hK1 _ _ ?_);refine aT (fun K2 hK2=>aj (aB aC (aB (jD O bC O) ?_)));simp only[zz];refine qY bC pP O O O (ai _) (ai _) (by omega) (by omega) (by omega) (by omega) ?_;intro w1 g1 hE hg1 hB1;have hG1:=aw hX.size hg1;replace hX:=hX.trans hE;clear hE hg1;simp only[zz];refine aB aJ ?_;simp only[zz];refine aI ?_;rw[iP] at hB1;refine hK2 _ _ (aT (fun K3 hK3=>aj (aB aJ ?_)));simp only[zz];refine aI (hK3 _ _ ?_);refine aT (fun K4 hK4=>aT (fun K5 hK5=>aj (aB aC (aB (jD O bC O) (aB (mG O O (bH (by omega) (by omega))) ?_)))));simp only[zz];refine aB aJ ?_;simp only[zz];refine aI (hK5 _ _ ?_);refine gh (vB [7,8] [15,16,17,18,19,20,21,22,23,24,25,26,27,28,29,30,31,32,33,34] (fun n vs wl=>∃(k r:Nat) (os:List Nat),vs=[.int .u64 (r:Int),.int .i64 ((k:Int)-1)]∧(dY w wl)∧(fE wl g1 (os.map mX) 231)∧(k≤xs.length)∧(os.length=xs.length)∧(val 4294967296 (xs.drop k)=d*val 4294967296 (os.drop k)+r)∧(r<d)∧(dV 4294967296 os)∧(n=k)) ?_ ?_)
 ·
  apply Exists.intro;simp only[zQ,zR,zD,zE];exact⟨xs.length,0,cl xs.length 0,O,hX,hB1,by omega,by simp,by rw[qi,List.drop_of_length_le (by simp)];simp only[val,nh],h0,fun x hx=>by rw[fp hx];decide,rfl⟩
 ·
  intro n vs wr hI u;obtain⟨k,r,os,rfl,hX,hB1,hk,hlo,hv,hr,hd,hn⟩:=hI;simp only[zu,zF,zG];refine aT (fun K6 hK6=>aT (fun K7 hK7=>aj (aB aC (aB (Qs O O) ?_))));simp only[zz];refine aI (hK7 _ _ ?_);refine bK O ?_ ?_<;>intro hc1
  ·
   refine g_ ?_;refine hK6 _ _ (aT (fun K8 hK8=>gh (aT (fun K9 hK9=>?_))));obtain⟨a,rfl,hca,hla⟩:=(hS.ext hX).get (show k-1<xs.length by omega);have hr32:r<4294967296:=by omega
   refine aj (aB aC (aB (Ns O O (by omega) (Ag (n:=32) (by omega) (by omega))) (aB aC ?_)));simp only[zz];refine aB aC (aB (aG bC aV O O (by omega) (by omega) (rB (show _=k-1 by omega))) ?_);simp only[zz];refine aQ O (lies1 hca fL) ?_;simp only[zz];refine aB (abq O O (Pk (s:=32) (c:=r) (by omega) (by omega) (by omega))) (aB aJ ?_);simp only[zz];refine aI (hK9 _ _ ?_);obtain⟨t,ht⟩:∃t:Nat,t=xs[k-1]+r*4294967296:=⟨_,rfl⟩
   rw[←ht];have ht64:t<18446744073709551616:=by omega
   have hd64:(d:Int)≠0:=by omega
   refine Vn [(0,true),(1,true),(2,true),(3,true),(4,true),(5,true),(6,true),(7,true),(8,true),(9,false),(10,true)] aF (by kernel_rfl) (cB (fun _ _ _ _ _ h=>h)) (ol:=?_) ?hol ?_
   case hol=>simp only[zw,zQ,zR];try rfl
   intro w2 hE;replace hB1:=hB1.ext hE;replace hX:=hX.trans hE;clear hE;refine Gp aC (Gp aC (Gp aC ?_));simp only[zz];refine Gp aC (Gp (mV O O (by omega) (afh ht64)) (Gp aC ?_));simp only[zz];refine Gp aC (Gp (dL O O (by omega) Zo) (Gp (aG bC aV O O (by omega) (by omega) (iL (show _=k-1 by omega))) ?_));simp only[zz];refine apQ ?_;refine kY O (by simp only[zz];rfl) (by exact aV) hB1 (by simp;omega) (by simp[ie]) ?_;clear hB1;intro w3 hC hB1;replace hX:=hX.chg hC hG1;clear hC;rw[iD (by omega)] at hB1;refine aI (Gp aJ ?_);simp only[zz];refine asj (hK8 _ _ ?_);refine aj (aB aC (aB (mG O O (bH (by omega) (by omega))) (aB aJ ?_)));simp only[zz];refine aI ?_;obtain⟨r1,r2,r3⟩:=aby (by omega) hk hlo hv hr hd hla;rw[←ht] at r1 r2 r3;rw[show ((k:Int)-1-1)=((k-1:Nat):Int)-1 by omega];simp only[bu,Exit.then];refine⟨k-1,_,?_,O,?_,?_⟩
   · omega
   · simp only[zz,zv]
   ·
    simp only[zQ,zR,zD,zE];exact⟨k-1,t%d,os.set (k-1) (t / d),O,hX,hB1,by omega,by simpa using hlo,r1,r3,r2,O⟩
  ·
   refine o_ ?_;refine hK4 _ _ (aT (fun K10 hK10=>?_));obtain rfl:k=0:=by omega
   refine aj (aB aC ?_);simp only[zz];refine bB O O (xX _ (hB1.nat hd (by omega) (by omega))) ?_;rintro v w2 hE rfl;replace hB1:=hB1.ext hE;replace hX:=hX.trans hE;clear hE;simp only[zz];refine aB aC (aB aJ (aB aJ ?_));simp only[zz];refine aI (hK10 _ _ ?_);refine ik ?_;try simp only[bu,Exit.then]
   refine nP O O O ?_;try simp only[zD,zE]
   (have hq:val 4294967296 os=val 4294967296 xs / d∧r=val 4294967296 xs%d:=Qv h0 hr (by simpa using hv));exact⟨_,O,hX,_,by rw[hq.2],iX.of_trim (hB1.nat hd (n:=xs.length) (by omega) (by omega)) hq.1⟩
theorem af9(w:am)(hS:dF w A na ca xs)(hlx:xs.length≤1099511627776)(hn:sh≤31):dR prog 290 [.slice A na ca,.int .i64 (sh:Int)] w (fun v w'=>∃g os,v=.slice (some ⟨g,0,none⟩) (xs.length+1) (xs.length+1)∧w.heap.size≤g∧fE w' g (os.map mX) 231∧os.length=xs.length+1∧dV 4294967296 os∧val 4294967296 os=2^sh*val 4294967296 xs):=by
 skip
 refine⟨bO func290 (by kernel_rfl),?_⟩;have hX:=dY.refl w;obtain rfl:=hS.eq
 go_enter func290,ntmps290
 refine aT (fun K1 hK1=>aj (aB aJ ?_));simp only[zz];refine aI (hK1 _ _ ?_);refine aT (fun K2 hK2=>aj (aB aC (aB (jD O bC O) (aB (fH O O (bH (by omega) (by omega))) ?_))));simp only[zz];refine qY bC pP O O O (show _=xs.length+1 by omega) (show _=xs.length+1 by omega) (by omega) (by omega) (by omega) (by omega) ?_;intro w1 g1 hE hg1 hB1;have hG1:=aw hX.size hg1;replace hX:=hX.trans hE;clear hE hg1;simp only[zz];refine aB aJ ?_;simp only[zz];refine aI ?_;rw[iP] at hB1;refine hK2 _ _ (aT (fun K3 hK3=>aT (fun K4 hK4=>aj (aB aC (aB (jD O bC O) (aB aC ?_))))));simp only[zz];refine aI (hK4 _ _ ?_);refine gh (vB [14] [6,7,15,16,17,18,19,20,21,22,23,24,25,26,27,28,29,30,31,32,33,34,35,36] (fun n vs wl=>∃(i:Nat) (os:List Nat),vs=[.int .i64 (i:Int)]∧(dY w wl)∧(fE wl g1 (os.map mX) 231)∧(i≤xs.length)∧(os.length=xs.length+1)∧(val 4294967296 os=2^sh*val 4294967296 (xs.take i))∧(os.drop (i+1)=cl (xs.length-i) 0)∧(dV 4294967296 os)∧(∀h:i<os.length,os[i]<2^sh)∧(n=xs.length-i)) ?_ ?_)
 ·
  apply Exists.intro;simp only[zQ,zR,zD,zE];exact⟨0,cl (xs.length+1) 0,O,hX,hB1,by omega,by simp,by rw[gZ,km];rfl,by rw[pm];congr 1,fun x hx=>by rw[fp hx];decide,fun h=>by rw[List.getElem_replicate];exact j_ (by decide),O⟩
 ·
  intro n vs wr hI u;obtain⟨i,os,rfl,hX,hB1,hi,hlo,hv,hz,hd,hc,hn⟩:=hI;simp only[zu,zF,zG];refine aT (fun K5 hK5=>aj (aB (tQ O O) ?_));simp only[zz];refine aI (hK5 _ _ ?_);refine aT (fun K6 hK6=>?_);refine bK O ?_ ?_<;>intro hc1
  ·
   refine g_ ?_;refine hK6 _ _ (aT (fun K7 hK7=>gh (aT (fun K8 hK8=>?_))));obtain⟨a,rfl,hca,hla⟩:=(hS.ext hX).get (show i<xs.length by omega);refine aj (aB aC (aB (aG bC aV O O (by omega) (by omega) (rB (ai _))) ?_));simp only[zz];refine aQ O (lies1 hca fL) ?_;simp only[zz];refine aB aJ (aB aJ ?_);simp only[zz];refine aI (hK8 _ _ ?_);refine aT (fun K9 hK9=>?_);have hm64:=ads (n:=sh) (by omega) hla;have hf:=Po (x:=xs[i]) (n:=sh) (by omega) (hc (by omega));refine aj (aB aC (aB aC (aB (Ns O O (by omega) (Ag (n:=sh) (by omega) hm64)) ?_)));simp only[zz];refine aB aJ ?_;simp only[zz];refine aI (hK9 _ _ ?_);refine aT (fun K10 hK10=>?_);have hco:=hB1.word (show i<os.length by omega);have hmm:xs[i]*2^sh%4294967296<4294967296:=lc _ (by decide);refine aj (aB aC (aB aC (aB (aG bC aV O O (by omega) (by omega) (iL (ai _))) ?_)));simp only[zz];refine aQ O (lies1 hco fL) ?_;simp only[zz];refine aB aC (aB (yD O O (Pm hm64)) (aB (abq O O (Zn (s:=sh) (hc (by omega)) (Pn (by omega)) (by omega))) ?_));simp only[zz];refine aB (aG bC aV O O (by omega) (by omega) (iL (ai _))) ?_;simp only[zz];refine kY O (by simp only[zz];rfl) (by exact aV) hB1 (by simp;omega) (by simp[ie]) ?_;clear hB1;intro w2 hC hB1;replace hX:=hX.chg hC hG1;clear hC;rw[iD (by omega)] at hB1;refine aI (hK10 _ _ ?_);refine aj (aB aC (aB aC (aB (fH O O (bH (by omega) (by omega))) ?_)));simp only[zz];refine aB aC (aB (oW O O (by omega) Zr) (aB (aG bC aV O O (by omega) (by omega) (iL (show _=i+1 by omega))) ?_));simp only[zz];refine kY O (by simp only[zz];rfl) (by exact aV) hB1 (by simp;omega) (by simp[ie]) ?_;clear hB1;intro w3 hC hB1;replace hX:=hX.chg hC hG1;clear hC;rw[iD (by simp;omega)] at hB1;refine aI (hK7 _ _ ?_);refine aj (aB (fH O O (bH (by omega) (by omega))) (aB aC ?_));simp only[zz];refine aI ?_;obtain⟨r1,r2,r3,r4⟩:=abA (by omega) (by omega) hlo hv hz hd (by omega) (hc (by omega)) hla;rw[show ((i:Int)+1)=((i+1:Nat):Int) by omega];simp only[bu,Exit.then];refine⟨xs.length-(i+1),_,?_,O,?_,?_⟩
   · omega
   · simp only[zz,zv]
   ·
    simp only[zQ,zR,zD,zE];exact⟨i+1,(os.set i (os[i]+xs[i]*2^sh%4294967296)).set (i+1) (xs[i]*2^sh / 4294967296),O,hX,hB1,by omega,by simpa using hlo,r1,r2,r3,r4,O⟩
  ·
   refine o_ ?_;refine hK3 _ _ (aT (fun K11 hK11=>?_));obtain rfl:i=xs.length:=by omega
   refine aj (aB aC (aB aJ ?_));simp only[zz];refine aI (hK11 _ _ ?_);refine ik ?_;try simp only[bu,Exit.then]
   refine aY O O ?_;try simp only[zD,zE]
   exact⟨_,O,hX,_,os,O,hG1,hB1,hlo,hd,by rw[hv,fa]⟩
theorem ahR(w:am)(hS:dF w A na ca xs)(hlx:xs.length≤1099511627776)(hn:sh≤31):dR prog 293 [.slice A na ca,.int .i64 (sh:Int)] w (iX (val 4294967296 xs / 2^sh)):=by
 skip
 refine⟨bO func293 (by kernel_rfl),?_⟩;have hX:=dY.refl w;obtain rfl:=hS.eq
 go_enter func293,ntmps293
 refine aT (fun K1 hK1=>aj (aB aJ ?_));simp only[zz];refine aI (hK1 _ _ ?_);refine aT (fun K2 hK2=>aj (aB aC (aB (jD O bC O) ?_)));simp only[zz];refine qY bC pP O O O (ai _) (ai _) (by omega) (by omega) (by omega) (by omega) ?_;intro w1 g1 hE hg1 hB1;have hG1:=aw hX.size hg1;replace hX:=hX.trans hE;clear hE hg1;simp only[zz];refine aB aJ ?_;simp only[zz];refine aI ?_;rw[iP] at hB1;refine hK2 _ _ (aT (fun K3 hK3=>aT (fun K4 hK4=>aj (aB aC (aB (jD O bC O) (aB aC ?_))))));simp only[zz];refine aI (hK4 _ _ ?_);refine gh (vB [13] [6,7,14,15,16,17,18,19,20,21,22,23,24,25,26,27,28,29,30,31,32,33,34,35,36,37,38,39,40,41] (fun n vs wl=>∃(i:Nat) (os:List Nat),vs=[.int .i64 (i:Int)]∧(dY w wl)∧(fE wl g1 (os.map mX) 231)∧(i≤xs.length)∧(os.length=xs.length)∧(val 4294967296 os=val 4294967296 (xs.take i) / 2^sh)∧(os.drop i=cl (xs.length-i) 0)∧(dV 4294967296 os)∧(0<i→∀h:i-1<os.length,os[i-1]<2^(32-sh))∧(n=xs.length-i)) ?_ ?_)
 ·
  apply Exists.intro;simp only[zQ,zR,zD,zE];exact⟨0,cl xs.length 0,O,hX,hB1,by omega,by simp,by rw[gZ,km,show val 4294967296 []=0 from O,Nat.zero_div],O,fun x hx=>by rw[fp hx];decide,fun h=>absurd h (by omega),rfl⟩
 ·
  intro n vs wr hI u;obtain⟨i,os,rfl,hX,hB1,hi,hlo,hv,hz,hd,hc,hn⟩:=hI;simp only[zu,zF,zG];refine aT (fun K5 hK5=>aj (aB (tQ O O) ?_));simp only[zz];refine aI (hK5 _ _ ?_);refine aT (fun K6 hK6=>?_);refine bK O ?_ ?_<;>intro hc1
  ·
   refine g_ ?_;refine hK6 _ _ (aT (fun K7 hK7=>gh (aT (fun K8 hK8=>?_))));obtain⟨a,rfl,hca,hla⟩:=(hS.ext hX).get (show i<xs.length by omega);refine aj (aB aC (aB (aG bC aV O O (by omega) (by omega) (rB (ai _))) ?_));simp only[zz];refine aQ O (lies1 hca fL) ?_;simp only[zz];refine aB aJ (aB aJ ?_);simp only[zz];refine aI (hK8 _ _ ?_);refine aT (fun K9 hK9=>?_);have hco:=hB1.word (show i<os.length by omega);obtain⟨z1,z2⟩:=kK hz (by omega);have hq:xs[i] / 2^sh<4294967296:=ib (lf _ _) hla;refine vS 9 aF (by kernel_rfl) ?_;simp only[zy];refine aK aC (aK aC (aK (aG bC aV O O (by omega) (by omega) (iL (ai _))) ?_));simp only[zz];refine Lj O (fun _ hE'=>(lies1 (hE'.cell hco) fL)) ?_;simp only[zz];refine aK aC (aK aC (aK (oW O O (by omega) (amS (n:=sh) (by omega))) ?_));simp only[zz];refine aK (abq O O (Zn (s:=0) (c:=xs[i] / 2^sh) (by omega) (by omega) (by omega))) (aK (aG bC aV O O (by omega) (by omega) (iL (ai _))) ?_);simp only[zz];refine bN ?_;intro w2 hE;replace hB1:=hB1.ext hE;replace hX:=hX.trans hE;clear hE;refine kY O (by simp only[zz];rfl) (by exact aV) hB1 (by simp;omega) (by simp[ie]) ?_;clear hB1;intro w3 hC hB1;replace hX:=hX.chg hC hG1;clear hC;rw[iD (by omega),z1,ap] at hB1;refine aI (hK9 _ _ ?_);refine aT (fun K10 hK10=>aj (aB aC (aB (Nr O O) ?_)));simp only[zz];refine aI (hK10 _ _ ?_);refine bK O ?_ ?_<;>intro hc2
   ·
    obtain⟨j,rfl⟩:∃j,i=j+1:=⟨i-1,by omega⟩
    have hm64:=ads (x:=xs[j+1]) (n:=32-sh) (by omega) hla;have hcj:=hc (by omega) (by omega);simp only[eh] at hcj;have hf:=Po (x:=xs[j+1]) (n:=32-sh) (by omega) hcj;have hmm:xs[j+1]*2^(32-sh)%4294967296<4294967296:=lc _ (by decide);have hco2:=hB1.word (show j<(os.set (j+1) (xs[j+1] / 2^sh)).length by simp;omega);rw[mo (by omega)] at hco2;refine vS 12 aF (by kernel_rfl) ?_;simp only[zy];refine aK aC (aK aC (aK (mG O O (bH (by omega) (by omega))) ?_));simp only[zz];refine aK (aG bC aV O O (by omega) (by omega) (iL (show _=j by omega))) ?_;simp only[zz];refine Lj O (fun _ hE'=>(lies1 (hE'.cell hco2) fL)) ?_;simp only[zz];refine aK aC (aK aC (aK (mG O O ((bH (by omega) (by omega)).trans (show (32:Int)-(sh:Int)=((32-sh:Nat):Int) by omega))) ?_));simp only[zz];refine aK (Ns O O (by omega) (Ag (n:=32-sh) (by omega) hm64)) (aK (yD O O (Pm hm64)) (aK (abq O O (Zn (s:=32-sh) hcj (Pn (by omega)) (by omega))) ?_));simp only[zz];refine aK (aG bC aV O O (by omega) (by omega) (iL (show _=j by omega))) ?_;simp only[zz];refine bN ?_;intro w4 hE;replace hB1:=hB1.ext hE;replace hX:=hX.trans hE;clear hE;refine kY O (by simp only[zz];rfl) (by exact aV) hB1 (by simp;omega) (by simp[ie]) ?_;clear hB1;intro w5 hC hB1;replace hX:=hX.chg hC hG1;clear hC;rw[iD (by simp;omega)] at hB1;refine aI (hK7 _ _ ?_);refine aj (aB (fH O O (bH (by omega) (by omega))) (aB aC ?_));simp only[zz];refine aI ?_;obtain⟨r1,r2,r3⟩:=Vr (n:=sh) (by omega) (by omega) hlo hv hz hd hS.digs (by omega) hcj;rw[show (((j+1:Nat):Int)+1)=((j+1+1:Nat):Int) by omega];simp only[bu,Exit.then];refine⟨xs.length-(j+1+1),_,?_,O,?_,?_⟩
    · omega
    · simp only[zz,zv]
    ·
     simp only[zQ,zR,zD,zE];exact⟨j+1+1,(os.set (j+1) (xs[j+1] / 2^sh)).set j (os[j]+xs[j+1]*2^(32-sh)%4294967296),O,hX,hB1,by omega,by simpa using hlo,r1,r2,r3,fun _ h=>by simp only[eh];rw[mo (by omega),ly];exact aiT (by omega) hla,O⟩
   ·
    refine g_ ?_;refine hK7 _ _ (aj (aB (fH O O (bH (by omega) (by omega))) (aB aC ?_)));simp only[zz];refine aI ?_;obtain rfl:i=0:=by omega
    obtain⟨r1,r2,r3⟩:=Vp (n:=sh) (by omega) (by omega) hlo hv hz hd hla;rw[show (((0:Nat):Int)+1)=((0+1:Nat):Int) by omega];simp only[bu,Exit.then];refine⟨xs.length-(0+1),_,?_,O,?_,?_⟩
    · omega
    · simp only[zz,zv]
    ·
     simp only[zQ,zR,zD,zE];exact⟨0+1,os.set 0 (xs[0] / 2^sh),O,hX,hB1,by omega,by simpa using hlo,r1,r2,r3,fun _ h=>by simp only[eh];rw[ly];exact aiT (by omega) hla,O⟩
  ·
   refine o_ ?_;refine hK3 _ _ (aT (fun K11 hK11=>?_));obtain rfl:i=xs.length:=by omega
   refine aj (aB aC ?_);simp only[zz];refine bB O O (xX _ (hB1.nat hd (by omega) (by omega))) ?_;rintro v w2 hE rfl;replace hB1:=hB1.ext hE;replace hX:=hX.trans hE;clear hE;simp only[zz];refine aB aJ ?_;simp only[zz];refine aI (hK11 _ _ ?_);refine ik ?_;try simp only[bu,Exit.then]
   refine aY O O ?_;try simp only[zD,zE]
   exact⟨_,O,hX,iX.of_trim (hB1.nat hd (n:=xs.length) (by omega) (by omega)) (by rw[hv,fa])⟩
theorem aga(w:am)(hS:dF w A na ca xs):dR prog 327 [.slice A na ca] w (amW xs):=by
 skip
 refine⟨bO func327 (by kernel_rfl),?_⟩;have hX:=dY.refl w;obtain rfl:=hS.eq;have hl:=hS.len
 go_enter func327,ntmps327
 refine aT (fun K1 hK1=>aj (aB aJ ?_));simp only[zz];refine aI (hK1 _ _ ?_);refine aT (fun K2 hK2=>aT (fun K3 hK3=>?_));rcases A with _ | a
 ·
  obtain rfl:=hS.none;refine aj (aB aC (aB (Jc bC O O) ?_));simp only[zz];refine aI (hK3 _ _ ?_);refine wV O (aT (fun K4 hK4=>aj (aB aJ ?_)));simp only[zz];refine aI (hK4 _ _ ?_);refine ik ?_;try simp only[bu,Exit.then]
  refine aY O O ?_;try simp only[zD,zE]
  exact⟨_,O,hX,none,0,O,dF.nil _⟩
 ·
  refine aj (aB aC (aB (Jc bC O O) ?_));simp only[zz];refine aI (hK3 _ _ ?_);refine Zk O (g_ ?_);refine hK2 _ _ (aT (fun K5 hK5=>aj ?_));refine Je bC (c:=1) (by kernel_rfl)  ?_;intro w1 g1 hE hg1 hB1;have hG1:=aw hX.size hg1;replace hX:=hX.trans hE;clear hE hg1;simp only[zz];refine aB aC ?_;simp only[zz];refine abu rfl bC pP rfl (by decide) rfl (Oz.build0 (base:=g1) hB1 (av _)) rfl (news:=xs.map mX) (by simp) (hS.ext hX).words (fun u hu=>by obtain⟨x,_,rfl⟩:=List.mem_map.1 hu;rfl) (by omega) (by omega) (pp hB1.lt) ?_;intro v1 w9 hO hGr _;replace hX:=hX.grown hGr hG1;clear hB1 hGr;simp only[bv,ap] at hO;obtain⟨A1,c1,rfl,hN⟩:=dF.of_owns hO rfl hS.digs (by omega);simp only[zz];refine aB aJ ?_;simp only[zz];refine aI (hK5 _ _ ?_);refine ik ?_;try simp only[bu,Exit.then]
  refine aY O O ?_;try simp only[zD,zE]
  exact⟨_,O,hX,A1,c1,O,hN⟩
theorem Mz{cap:Nat}(w:am)(hS:dF w A na cap xs):dR prog 256 [.slice A na cap] w (iX (val 4294967296 xs)) :=
 (xX w hS).mono fun v w' hE h=>by subst h;exact iX.of_trim (hS.ext hE) O
theorem alh{B:Option Addr}(w:am)(hS:dF w A na ca xs)(hR:dF w B nb cb ys)(hl:ys.length+1≤xs.length)(hly:ys.length≤1099511627776)(hdd:d<4294967296):dR prog 291 [.slice A na ca,.slice B nb cb,.int .u64 (d:Int)] w (fun v _=>v=.bool (decide (val 4294967296 (xs.take (ys.length+1))<val 4294967296 ys*d))):=by
 skip
 refine⟨bO func291 (by kernel_rfl),?_⟩;have hX:=dY.refl w;obtain rfl:=hS.eq;obtain rfl:=hR.eq;have hle:=hS.le;have hcap:=hS.cap
 go_enter func291,ntmps291
 refine aT (fun K1 hK1=>aj (aB aJ ?_));simp only[zz];refine aI (hK1 _ _ ?_);refine aT (fun K2 hK2=>aj (aB aC (aB aC (aB (jD O bC O) ?_))));simp only[zz];refine aB (fH O O (bH (by omega) (by omega))) (aB (nC bC aV O O (show _=ys.length+1 by omega) (by omega) (by omega)) ?_);simp only[zz];refine bB O O (aga _ ((hS.ext hX).head hl)) ?_;rintro v w1 hE ⟨A1,c1,rfl,hN1⟩;replace hX:=hX.trans hE;clear hE;simp only[zz];refine bB O O (Mz _ hN1) ?_;rintro v w2 hE ⟨A2,c2,rfl,hN2⟩;replace hX:=hX.trans hE;clear hE;simp only[zz];refine aB aC (aB aC ?_);simp only[zz];refine Jf bC (z:=.int .u64 0) (by kernel_rfl) O (by simp only[zz];rfl) (by rfl) ?_;intro w3 g1 hE hg1 hB1;have hG1:=aw hX.size hg1
 (try replace hN2:=hN2.ext hE);replace hX:=hX.trans hE
 clear hE hg1;simp only[zz];refine bB O O (Mz _ (hB1.nat (os:=[d]) (yH hdd) O (by omega))) ?_;rintro v w4 hE ⟨A3,c3,rfl,hN3⟩
 (try replace hN2:=hN2.ext hE);replace hX:=hX.trans hE
 clear hE;simp only[zz];refine bB O O (alg _ (hR.ext hX) hN3 hly (aw (uF (yH hdd)) (by simp))) ?_;rintro v w5 hE ⟨A4,c4,rfl,hN4⟩
 (try replace hN2:=hN2.ext hE);replace hX:=hX.trans hE
 clear hE;simp only[zz];refine bB O O (af7 _ hN2 hN4 (iS _) (iS _)) ?_;rintro v w6 hE rfl;replace hX:=hX.trans hE;clear hE;simp only[zz];refine aB (tQ O O) (aB aJ ?_);simp only[zz];refine aI (hK2 _ _ ?_);refine ik ?_;try simp only[bu,Exit.then]
 refine aY O O ?_;try simp only[zD,zE]
 exact⟨_,O,hX,by rw[aiV];simp only[cO,rC]⟩
theorem aaY{B:Option Addr}{os:List Nat}{g0 off:Nat}(w:am)(hB0:fE w g0 (os.map mX) 231)(hd:dV 4294967296 os)(hlo:os.length≤1099511627776)(hR:dF w B nb cb ys)(hoff:off+(ys.length+1)≤os.length)(hna:na=os.length-off)(hdd:d<4294967296)(hge:val 4294967296 ys*d≤val 4294967296 ((os.drop off).take (ys.length+1))):aiU prog 292 [.slice (some ⟨g0,off,none⟩) na na,.slice B nb cb,.int .u64 (d:Int)] w g0 (fun _ w'=>fE w' g0 ((laid os off (ys.length+1) (val 4294967296 ((os.drop off).take (ys.length+1))-val 4294967296 ys*d)).map mX) 231):=by
 skip
 refine⟨bO func292 (by kernel_rfl),?_⟩;have hX:=dY.refl w;obtain rfl:=hR.eq;have hg0:=hB0.lt;have hS:dF w (some ⟨g0,off,none⟩) na na (os.drop off):=by
  have h:=(hB0.nat hd rfl (by omega)).drop (show off≤os.length by omega) hna;rw[gV,ap] at h;rwa [hna] at *
 have hle:ys.length+1≤(os.drop off).length:=by simp;omega
 obtain⟨V,hV⟩:∃V,V=val 4294967296 ((os.drop off).take (ys.length+1)):=⟨_,rfl⟩
 rw[←hV] at hge ⊢
 go_enter func292,ntmps292
 refine aT (fun K1 hK1=>aj (aB aC (aB aC (aB (jD O bC O) ?_))));simp only[zz];refine aB (fH O O (bH (by omega) (by omega))) (aB (nC bC aV O O (show _=ys.length+1 by omega) (by omega) (by omega)) ?_);simp only[zz];refine bB O O (aga _ ((hS.ext hX).head hle)) ?_;rintro v w1 hE ⟨A1,c1,rfl,hN1⟩;replace hB0:=hB0.ext hE;replace hX:=hX.trans hE;clear hE;simp only[zz];refine aB aC (aB aC ?_);simp only[zz];refine Jf bC (z:=.int .u64 0) (by kernel_rfl) O (by simp only[zz];rfl) (by rfl) ?_;intro w2 g1 hE hg1 hB1;have hG1:=aw hX.size hg1;have hN1_0:g1≠g0:=il (cw hB0.lt hg1);replace hB0:=hB0.ext hE;(try replace hN1:=hN1.ext hE);replace hX:=hX.trans hE;clear hE hg1;simp only[zz];refine bB O O (Mz _ (hB1.nat (os:=[d]) (yH hdd) O (by omega))) ?_;rintro v w3 hE ⟨A3,c3,rfl,hN3⟩;replace hB0:=hB0.ext hE;(try replace hN1:=hN1.ext hE);replace hX:=hX.trans hE;clear hE;simp only[zz];refine bB O O (alg _ (hR.ext hX) hN3 (by omega) (aw (uF (yH hdd)) (by simp))) ?_;rintro v w4 hE ⟨A4,c4,rfl,hN4⟩;replace hB0:=hB0.ext hE;(try replace hN1:=hN1.ext hE);replace hX:=hX.trans hE;clear hE;simp only[zz];have hsz:=hX.size;refine bB O O (alf _ hN1 hN4 (by simp only[cO,rC];rw[bx,dx hle];exact Pa hR.digs hdd) (by simp only[cO,rC];rw[←hV];exact hge) (by rw[bx];omega)) ?_;rintro v w5 hE ⟨⟨A5,c5,rfl,hN5⟩,hne⟩;replace hB0:=hB0.ext hE;replace hX:=hX.trans hE;clear hE;replace hne:∀a,A5=some a→a.block≠g0:=fun a e=>by subst e;have:=hne a _ _ rfl;omega
 simp only[cO,rC,←hV] at hN5 ⊢;have hm:(digs 4294967296 (V-val 4294967296 ys*d)).length≤ys.length+1:=fF (by omega) (ib (ra _ _) (by have h:=lW ((hd.drop off).take (ys.length+1));rw[bx,dx hle,←hV] at h;exact h));simp only[zz];refine aB aJ ?_;simp only[zz];refine aI (hK1 _ _ ?_);refine aT (fun K2 hK2=>?_);replace hX:=hX.upd g0;have hG0:w.heap.size≤g0∨g0=g0:=.inr rfl;refine aj (aB aC (aB aC (aB (jD O bC O) ?_)));simp only[zz];refine aB (fH O O (bH (by omega) (by omega))) (aB (nC bC aV O O (show _=ys.length+1 by omega) (by omega) (by omega)) ?_);simp only[zz];refine amU (z:=.int .u64 0) O bC (by kernel_rfl) O O (by omega) hB0 (by simp;omega) rfl ?_;clear hB0;intro w6 hC hB0
 (try replace hN5:=hN5.chg hC (by first | assumption | rfl));replace hX:=hX.chg hC hG0
 clear hC;refine aI (hK2 _ _ ?_);refine aj (aB aC (aB aC ?_));simp only[zz];refine amX O bC (by kernel_rfl) O O (g:=g0) (o:=off) (n:=na) (m:=(digs 4294967296 (V-val 4294967296 ys*d)).length) (us:=(digs 4294967296 (V-val 4294967296 ys*d)).map mX) (by rw[dm];exact (dx (by omega)).symm) hN5.src hB0 (by rw[Cp (by simp;omega)];simp;omega) aiW ?_;clear hB0;intro w7 hC hB0;replace hX:=hX.chg hC hG0;clear hC;simp only[zz];refine aI ?_;try simp only[bu,Exit.then,if_true]
 exact Qw O ⟨_,O,hX,by rw[←agS hoff hm];exact hB0⟩
theorem atd{B:Option Addr}(w:am)(hS:dF w A na ca xs)(hR:dF w B nb cb ys)(tx:jG xs)(ty:jG ys)(h0:0<val 4294967296 ys)(hlx:xs.length≤1000000000000)(hly:ys.length≤1000000000000):dR prog 225 [.slice A na ca,.slice B nb cb] w (fun v w'=>∃q r,v=.tuple #[q,r]∧iX (val 4294967296 xs / val 4294967296 ys) q w'∧iX (val 4294967296 xs%val 4294967296 ys) r w'):=by
 skip
 refine⟨bO func225 (by kernel_rfl),?_⟩;have hX:=dY.refl w;obtain rfl:=hS.eq;obtain rfl:=hR.eq
 go_enter func225,ntmps225
 refine aT (fun K1 hK1=>aj (aB aJ (aB aJ ?_)));simp only[zz];refine aI (hK1 _ _ ?_);refine aT (fun K2 hK2=>aT (fun K3 hK3=>aj (aB aC (aB aC ?_))));simp only[zz];refine bB O O (af7 _ (hS.ext hX) (hR.ext hX) tx ty) ?_;rintro v w1 hE rfl;replace hX:=hX.trans hE;clear hE;simp only[zz];refine aB (tQ O O) ?_;simp only[zz];refine aI (hK3 _ _ ?_);refine bK O ?_ ?_<;>intro hc1
 ·
  have hlt:=Ah.1 hc1;refine aT (fun K4 hK4=>aj (aB aC (aB aJ (aB aJ ?_))));simp only[zz];refine aI (hK4 _ _ ?_);refine ik ?_;try simp only[bu,Exit.then]
  refine nP O O O ?_;try simp only[zD,zE]
  exact⟨_,O,hX,_,_,O,by rw[Nat.div_eq_of_lt hlt];exact iX.zero _,by rw[Nat.mod_eq_of_lt hlt];exact iX.self (hS.ext hX) tx⟩
 ·
  have hYX:val 4294967296 ys≤val 4294967296 xs:=gv fun h=>hc1 (Ah.2 h);refine g_ (hK2 _ _ ?_);refine aT (fun K5 hK5=>aT (fun K6 hK6=>aj (aB aC (aB (jD O bC O) (aB (Qt O O) ?_)))));simp only[zz];refine aI (hK6 _ _ ?_);refine bK O ?_ ?_<;>intro hc2
  ·
   refine aT (fun K7 hK7=>?_);obtain⟨y,rfl⟩:∃y,ys=[y]:=List.length_eq_one_iff.1 (by omega);obtain⟨b,rfl,hcb,hyb⟩:=(hR.ext hX).get (i:=0) (by simp);simp only[List.getElem_cons_zero] at hcb hyb;refine aj (aB aC (aB aC (aB (aG bC aV O O (by decide) (by omega) O) ?_)));simp only[zz];refine aQ O (lies1 hcb fL) ?_;simp only[zz];refine bB O O (af8 _ (hS.ext hX) (by omega) (by rw[rC] at h0;exact h0) (by omega)) ?_;rintro v w2 hE ⟨q,rfl,A1,c1,rfl,hN1⟩;replace hX:=hX.trans hE;clear hE;simp only[zz];refine aB aC (aB (dD O O) (aB (dD O O) ?_));simp only[zz];refine aB aJ (aB aJ ?_);simp only[zz];refine aI (hK7 _ _ ?_);refine aT (fun K8 hK8=>aj (aB aC (aB aC ?_)));simp only[zz];refine Jf bC (z:=.int .u64 0) (by kernel_rfl) O (by simp only[zz];rfl) (by rfl) ?_;intro w3 g1 hE hg1 hB1;have hG1:=aw hX.size hg1
   (try replace hN1:=hN1.ext hE);replace hX:=hX.trans hE
   clear hE hg1;simp only[zz];refine bB O O (Mz _ (hB1.nat (os:=[val 4294967296 xs%y]) (yH (cw (lc _ (by rw[rC] at h0;exact h0)) (by omega))) O (by omega))) ?_;rintro v w4 hE ⟨A2,c2,rfl,hN2⟩
   (try replace hN1:=hN1.ext hE);replace hX:=hX.trans hE
   clear hE;simp only[rC] at hN2 ⊢;simp only[zz];refine aB aJ (aB aJ ?_);simp only[zz];refine aI (hK8 _ _ ?_);refine ik ?_;try simp only[bu,Exit.then]
   refine nP O O O ?_;try simp only[zD,zE]
   exact⟨_,O,hX,_,_,O,by rw[rC];exact⟨A1,c1,O,hN1⟩,by rw[rC];exact⟨A2,c2,O,hN2⟩⟩
  ·
   have hl2:2≤ys.length:=by
    rcases ys with _ | ⟨y,ys⟩
    · exact absurd h0 (by simp[val])
    · simp only[az] at hc2 ⊢;omega
   have hxy:ys.length≤xs.length:=by
    rcases Nat.lt_or_ge xs.length ys.length with h | h
    · have:=sH (B:=4294967296) (by omega) hS.digs hR.digs ty h;omega
    · exact h
   obtain⟨b,rfl,_,hyb⟩:=hR.get (i:=ys.length-1) (by omega);have htpy:=Nt ty (by omega);refine g_ (hK5 _ _ ?_);refine aT (fun K9 hK9=>aj (aB aJ ?_));simp only[zz];refine aI (hK9 _ _ ?_);refine aT (fun K10 hK10=>gh ?_);refine vB [8] [39,40,41,42,43,44,45,46,47,48,49,50] (fun n vs wl=>∃(sh:Nat),vs=[.int .i64 (sh:Int)]∧(dY w wl)∧(ys[ys.length-1]*2^sh<4294967296)∧(sh≤31)∧(n=32-sh)) ?_ ?_
   ·
    apply Exists.intro;simp only[zQ,zR,zD,zE];exact⟨0,O,hX,by simpa using hyb,by omega,O⟩
   ·
    intro n vs wr hI u;obtain⟨sh,rfl,hX,hsh,hs31,hn⟩:=hI;simp only[zu,zF,zG];refine aT (fun K11 hK11=>aT (fun K12 hK12=>?_));have hcb:=(hR.ext hX).at (show ys.length-1<ys.length by omega);refine aj (aB aC (aB aC (aB (jD O bC O) ?_)));simp only[zz];refine aB (mG O O (bH (by omega) (by omega))) (aB (aG bC aV O O (by omega) (by omega) (rB (show _=ys.length-1 by omega))) ?_);simp only[zz];refine aQ O (lies1 hcb fL) ?_;simp only[zz];refine aB aC (aB (Ns O O (by omega) (Ag (n:=sh) (by omega) (ads (by omega) hyb))) (aB (oW O O (by omega) apR) ?_));simp only[zz];refine aB (Qt O O) ?_;simp only[zz];refine aI (hK12 _ _ ?_);refine bK O ?_ ?_<;>intro hc3
    ·
     refine g_ ?_;refine hK11 _ _ (gh (aj (aB aC (aB (fH O O (bH (by omega) (by omega))) (aB aJ ?_)))));simp only[zz];refine aI ?_;rw[show ((sh:Int)+1)=((sh+1:Nat):Int) by omega];have hlt31:ys[ys.length-1]*2^sh<2147483648:=by omega
     have hps:2^sh<2^31:=ib (lj (2^sh) htpy) hlt31;have hs30:sh<31:=(Nat.pow_lt_pow_iff_right (by omega)).1 hps;simp only[bu,Exit.then];refine⟨32-(sh+1),_,?_,O,?_,?_⟩
     · omega
     · simp only[zz,zv]
     ·
      simp only[zQ,zR,zD,zE];exact⟨sh+1,O,hX,by rw[Nat.pow_succ,←Nat.mul_assoc];omega,by omega,rfl⟩
    ·
     refine o_ ?_;refine hK10 _ _ (aT (fun K13 hK13=>aj (aB aC (aB aC ?_))));simp only[zz];refine bB O O (af9 _ (hS.ext hX) (by omega) (by omega)) ?_;rintro v w2 hE ⟨g1,us,rfl,hg1,hB1,hlu,hdu,hvu⟩;have hG1:=aw hX.size hg1;replace hX:=hX.trans hE;clear hE hg1;simp only[zz];refine aB aC (aB aC ?_);simp only[zz];refine bB O O (af9 _ (hR.ext hX) (by omega) (by omega)) ?_;rintro v w3 hE ⟨g2,vs0,rfl,hg2,hB2,hlv,hdv,hvv⟩;have hG2:=aw hX.size hg2;have hN2_1:g2≠g1:=il (cw hB1.lt hg2);replace hB1:=hB1.ext hE;replace hX:=hX.trans hE;clear hE hg2;rw[←hlv];simp only[zz];refine bB O O (xX _ (hB2.nat hdv O (by omega))) ?_;rintro v w4 hE rfl;replace hB1:=hB1.ext hE;replace hB2:=hB2.ext hE;replace hX:=hX.trans hE;clear hE;simp only[zz];refine aB aJ (aB aJ ?_);simp only[zz];refine aI ?_;obtain⟨ds,hvs⟩:∃ds,ds=trim vs0:=⟨_,rfl⟩
     rw[←hvs];have hlvs:ds.length=ys.length:=by rw[hvs];exact agT hdv hvv hR.digs (by omega) hsh htpy hs31
     have hdvs:dV 4294967296 ds:=by rw[hvs];exact hdv.trim
     have hvvs:val 4294967296 ds=2^sh*val 4294967296 ys:=by rw[hvs,Cr,hvv]
     obtain⟨K,hK⟩:∃K,K=xs.length+1-ds.length:=⟨_,rfl⟩
     refine hK13 _ _ ?_;refine aT (fun K14 hK14=>aj (aB aC (aB (jD O bC O) (aB aC ?_))));simp only[zz];refine aB (jD O bC O) (aB (mG O O (bH (by omega) (by omega))) ?_);simp only[zz];refine qY bC pP O O O (show _=K by omega) (show _=K by omega) (by omega) (by omega) (by omega) (by omega) ?_;intro w5 g3 hE hg3 hB3;have hG3:=aw hX.size hg3;have hN3_1:g3≠g1:=il (cw hB1.lt hg3);have hN3_2:g3≠g2:=il (cw hB2.lt hg3);replace hB1:=hB1.ext hE;replace hB2:=hB2.ext hE;replace hX:=hX.trans hE;clear hE hg3;simp only[zz];refine aB aJ ?_;simp only[zz];refine aI ?_;rw[iP] at hB3;refine hK14 _ _ (aT (fun K15 hK15=>?_));have hNv:=vW hB2 hdv (by omega);rw[←hvs] at hNv;have hct:=hNv.at (show ds.length-1<ds.length by omega);have hcs:=hNv.at (show ds.length-2<ds.length by omega);rw[gV,ap] at hct hcs;refine xQ aF (by kernel_rfl) (aK aC (aK aC (aK (jD O bC O) ?_)));simp only[zz];refine aK (mG O O (bH (by omega) (by omega))) (aK (aG bC aV O O (by omega) (by omega) (iL (show _=ds.length-1 by omega))) ?_);simp only[zz];refine Lj O (fun _ hE'=>(lies1 (hE'.cell hct) fL)) ?_;simp only[zz];refine aK aC (aK aC (aK (jD O bC O) ?_));simp only[zz];refine aK (mG O O (bH (by omega) (by omega))) (aK (aG bC aV O O (by omega) (by omega) (iL (show _=ds.length-2 by omega))) ?_);simp only[zz];refine Lj O (fun _ hE'=>(lies1 (hE'.cell hcs) fL)) ?_;simp only[zz];refine aK aJ (aK aJ ?_);simp only[zz];refine bN ?_;intro w6 hE;replace hB1:=hB1.ext hE;replace hB2:=hB2.ext hE;replace hB3:=hB3.ext hE;replace hX:=hX.trans hE;clear hE;have htv:0<ds[ds.length-1]:=Nt (by rw[hvs];exact Ja _) (by omega);obtain⟨top,htop⟩:∃top,top=ds[ds.length-1]:=⟨_,rfl⟩
     obtain⟨sec,hsec⟩:∃sec,sec=ds[ds.length-2]:=⟨_,rfl⟩
     have htB:top<4294967296:=htop▸hdvs _ (fl _);have hsB:sec<4294967296:=hsec▸hdvs _ (fl _);rw[←htop] at htv;rw[←htop,←hsec];refine hK15 _ _ (aT (fun K16 hK16=>aT (fun K17 hK17=>?_)));clear hNv hct hcs;refine aj (aB aC (aB (jD O bC O) (aB (mG O O (bH (by omega) (by omega))) ?_)));simp only[zz];refine aB aJ ?_;simp only[zz];refine aI (hK17 _ _ ?_);refine gh (vB [14] [15,16,17,18,79,80,81,82,83,84,85,86,87,88,89,90,91,92,93,94,95,96,97,98,99,100,101,102,103,104,105,106,107,108,109,110,111,112,113,114,115,116,117,118,119,120,121,122,123,124,125,126,127,128,129,130,131,132,133,134,135,136,137,138,139,140,141,142,143,144,145,146] (fun n vs wl=>∃(k:Nat) (us qs:List Nat),vs=[.int .i64 ((k:Int)-1)]∧(dY w wl)∧(fE wl g1 (us.map mX) 231)∧(fE wl g2 (vs0.map mX) 231)∧(fE wl g3 (qs.map mX) 231)∧(k≤K)∧(us.length=xs.length+1)∧(qs.length=K)∧(dV 4294967296 us)∧(dV 4294967296 qs)∧(val 4294967296 us+val 4294967296 qs*val 4294967296 ds=2^sh*val 4294967296 xs)∧(val 4294967296 (us.drop k)<val 4294967296 ds)∧(qs.take k=cl k 0)∧(n=k)) ?_ ?_)
     ·
      apply Exists.intro;simp only[zQ,zR,zD,zE];exact⟨K,us,cl K 0,O,hX,hB1,hB2,hB3,av _,hlu,by simp,hdu,fun x hx=>by rw[fp hx];decide,by rw[gZ,Nat.zero_mul];exact hvu,by rw[hK];exact ai1 hS.digs hlu hvu (by omega) (by omega) hs31 (by rw[hvvs,hlvs];exact agU (by omega) (by omega)),by rw[bf (by simp)],O⟩
     ·
      intro n vs wr hI u;obtain⟨k,us,qs,rfl,hX,hB1,hB2,hB3,hk,hlu,hlq,hdu,hdq,hI,hH,hz,hn⟩:=hI;simp only[zu,zF,zG];refine aT (fun K18 hK18=>aT (fun K19 hK19=>aj (aB aC (aB (Qs O O) ?_))));simp only[zz];refine aI (hK19 _ _ ?_);refine bK O ?_ ?_<;>intro hc4
      ·
       obtain⟨i,rfl⟩:∃i,k=i+1:=⟨k-1,by omega⟩
       rw[show (((i+1:Nat):Int)-1)=(i:Int) by omega];have hi:i+ds.length<us.length:=by omega
       refine g_ ?_;refine hK18 _ _ (aT (fun K20 hK20=>gh (aT (fun K21 hK21=>aj (aB aC (aB aC (aB (jD O bC O) ?_)))))));simp only[zz];refine aB (fH O O (bH (by omega) (by omega))) (aB aJ ?_);simp only[zz];refine aI ?_;rw[show ((i:Int)+(ds.length:Int))=((i+ds.length:Nat):Int) by omega];refine hK21 _ _ (aT (fun K22 hK22=>?_));have hco1:=hB1.word (show i+ds.length<us.length by omega);have hco2:=hB1.word (show i+ds.length-1<us.length by omega);have hb1:us[i+ds.length]<4294967296:=hdu _ (fl _);have hb2:us[i+ds.length-1]<4294967296:=hdu _ (fl _);obtain⟨a3,ha3⟩:∃a3,a3=us[i+ds.length-2]:=⟨_,rfl⟩
       have hb3:a3<4294967296:=ha3▸hdu _ (fl _);obtain⟨U,hU⟩:∃U,U=val 4294967296 (us.drop i):=⟨_,rfl⟩
       refine xQ aF (by kernel_rfl) (aK aC (aK aC (aK (aG bC aV O O (by omega) (by omega) (iL (show _=i+ds.length by omega))) ?_)));simp only[zz];refine Lj O (fun _ hE'=>(lies1 (hE'.cell hco1) fL)) ?_;simp only[zz];refine aK (Ns O O (by omega) (Ag (n:=32) (by omega) (by omega))) (aK aC (aK aC ?_));simp only[zz];refine aK (mG O O (bH (by omega) (by omega))) (aK (aG bC aV O O (by omega) (by omega) (iL (show _=i+ds.length-1 by omega))) ?_);simp only[zz];refine Lj O (fun _ hE'=>(lies1 (hE'.cell hco2) fL)) ?_;simp only[zz];refine aK (abq O O (Pk (s:=32) (c:=us[i+ds.length]) (by omega) (by omega) (by omega))) (aK aJ ?_);simp only[zz];refine bN ?_;intro w7 hE;replace hB1:=hB1.ext hE;replace hB2:=hB2.ext hE;replace hB3:=hB3.ext hE;replace hX:=hX.trans hE;clear hE;obtain⟨two,htwo⟩:∃two:Nat,two=us[i+ds.length-1]+us[i+ds.length]*4294967296:=⟨_,rfl⟩
       rw[←htwo];have ht64:two<18446744073709551616:=by omega
       obtain⟨P,hP,f1,f2,f3,f4,f5,f6,f7⟩:=agV hdu hdvs (by omega) hi hH htwo htop hsec ha3 hU;obtain⟨q,hq⟩:∃q,q=U / val 4294967296 ds:=⟨_,rfl⟩
       have hq1:q*val 4294967296 ds≤U:=by rw[hq];exact Nat.div_mul_le_self _ _
       have hV0:0<val 4294967296 ds:=by omega
       have hq2:U<(q+1)*val 4294967296 ds:=by rw[←jn hV0];omega
       have hqB:q<4294967296:=by rw[hq,jn hV0];exact f7
       refine hK22 _ _ ?_;refine aT (fun K23 hK23=>?_);refine xQ aF (by kernel_rfl) (aK aC (aK aC (aK (mV O O (by omega) (afh ht64)) ?_)));simp only[zz];refine aK aC (aK aC (aK (dL O O (by omega) Zo) ?_));simp only[zz];refine aK aJ (aK aJ ?_);simp only[zz];refine bN ?_;intro w8 hE;replace hB1:=hB1.ext hE;replace hB2:=hB2.ext hE;replace hB3:=hB3.ext hE;replace hX:=hX.trans hE;clear hE;refine hK23 _ _ (aT (fun K24 hK24=>gh ?_));refine vB [17,18] [104,105,106,107,108,109,110,111,112,113,114,115,116,117,118,119,120,121,122,123,124,125,126,127,128] (fun n vs wl=>∃(gq rr:Nat),vs=[.int .u64 (gq:Int),.int .u64 (rr:Int)]∧(dY w wl)∧(fE wl g1 (us.map mX) 231)∧(fE wl g2 (vs0.map mX) 231)∧(fE wl g3 (qs.map mX) 231)∧(gq*top+rr=two)∧(q≤gq)∧(n=gq)) ?_ ?_
       ·
        apply Exists.intro;simp only[zQ,zR,zD,zE];exact⟨two / top,two%top,O,hX,hB1,hB2,hB3,by rw[iy];exact Nat.div_add_mod two top,aiY (by omega) f1 f2 hq1 htv,O⟩
       ·
        intro n vs wr hI u;obtain⟨gq,rr,rfl,hX,hB1,hB2,hB3,hgr,hqg,hn3⟩:=hI;simp only[zu,zF,zG];refine aT (fun K25 hK25=>aT (fun K26 hK26=>?_));have hco3:=hB1.word (show i+ds.length-2<us.length by omega);rw[←ha3] at hco3;have hgt:gq≤two:=aw (kx gq htv) (by omega);rcases (show 4294967295<gq∨(gq≤4294967295∧4294967295<rr)∨(gq≤4294967295∧rr≤4294967295) by omega) with hga | ⟨hga,hrr⟩ | ⟨hga,hrr⟩
        ·
         have hqg2:q<gq:=by omega
         have hco3:=hB1.word (show i+ds.length-2<us.length by omega);rw[←ha3] at hco3;have hgt:gq≤two:=aw (kx gq htv) (by omega);refine aj (aB aC (aB (apO O O (by omega)) (aB aC ?_)));simp only[zz];refine Fc O ?_;simp only[zz];refine Fc O ?_;simp only[zz];refine Fc O ?_;simp only[zz];refine pM O ?_;simp only[zz];refine pM O ?_;simp only[zz];refine pM O ?_;simp only[zz];refine pM O ?_;simp only[zz];refine pM O ?_;simp only[zz];refine pM O ?_;simp only[zz];refine pM O ?_;simp only[zz];refine pM O ?_;simp only[zz];refine pM O ?_;simp only[zz];refine pM O ?_;simp only[zz];refine pM O ?_;simp only[zz];refine pM O ?_;simp only[zz];refine Fc O ?_;simp only[zz];refine aB (Fe O) ?_;simp only[zz];refine aI (hK26 _ _ ?_);refine wV O (g_ ?_);refine hK25 _ _ (gh (aT (fun K27 hK27=>aj (aB aC (aB (mG O O (kQ (by omega) (by omega))) (aB aJ ?_))))));simp only[zz];refine aI (hK27 _ _ ?_);have hgt2:rr+top≤two:=by have:=lj top (show 0<gq by omega);omega
         refine aj (aB aC (aB aC (aB (fH O O (kQ (by omega) (by omega))) ?_)));simp only[zz];refine aB aJ ?_;simp only[zz];refine aI ?_;obtain⟨g9,rfl⟩:∃g9,gq=g9+1:=⟨gq-1,by omega⟩
         rw[show (((g9+1:Nat):Int)-1)=(g9:Int) by omega,show ((rr:Int)+(top:Int))=((rr+top:Nat):Int) by omega];simp only[bu,Exit.then];refine⟨g9,_,?_,O,?_,?_⟩
         · omega
         · simp only[zz,zv]
         ·
          simp only[zQ,zR,zD,zE];exact⟨g9,rr+top,O,hX,hB1,hB2,hB3,by rw[Nat.add_mul,ka] at hgr;omega,by omega,rfl⟩
        ·
         have hx:gq*sec≤a3+rr*4294967296:=ai3 (by omega) hsB (by omega);have hco3:=hB1.word (show i+ds.length-2<us.length by omega);rw[←ha3] at hco3;have hgt:gq≤two:=aw (kx gq htv) (by omega);refine aj (aB aC (aB (aiK O O (by omega)) (aB aC ?_)));simp only[zz];refine eY O (aB aC ?_);simp only[zz];refine eY O (aB (apN O O (by omega)) ?_);simp only[zz];refine eY O (aB aC ?_);simp only[zz];refine kX O ?_;simp only[zz];refine kX O ?_;simp only[zz];refine kX O ?_;simp only[zz];refine kX O ?_;simp only[zz];refine kX O ?_;simp only[zz];refine kX O ?_;simp only[zz];refine kX O ?_;simp only[zz];refine kX O ?_;simp only[zz];refine kX O ?_;simp only[zz];refine kX O ?_;simp only[zz];refine kX O ?_;simp only[zz];refine kX O ?_;simp only[zz];refine eY O (aB (Ff O) (aB (Ff O) ?_));simp only[zz];refine aI (hK26 _ _ ?_);refine Zk O (o_ ?_);refine hK24 _ _ (aT (fun K28 hK28=>aT (fun K29 hK29=>?_)));have hNv:=vW hB2 hdv (by omega);rw[←hvs] at hNv;have hNu:=(hB1.nat hdu rfl (by omega)).drop (show i≤us.length by omega) rfl;rw[gV,ap,hlu] at hNu;have hU2:val 4294967296 ((us.drop i).take (ds.length+1))=U:=by rw[←Jh hdvs (by omega) hH,hU]
         have hgl:gq≤q+1:=abC f4 f6 hq2 (Qx hgr hx) (by omega);obtain⟨ge1,ge2⟩:=Wy hq1 hq2 hqg hgl;refine aj (aB aC (aB aC (aB (nD bC aV O O (ai _) (by omega) (by omega) (Fj (by omega))) ?_)));simp only[zz];refine aB aC (aB aC ?_);simp only[zz];refine bB O O (alh _ hNu hNv (by simp;omega) (by omega) (by omega)) ?_;rintro v w9 hE rfl;replace hB1:=hB1.ext hE;replace hB2:=hB2.ext hE;replace hB3:=hB3.ext hE;replace hX:=hX.trans hE;clear hE;simp only[zz];refine aI (hK29 _ _ ?_);refine bK O ?_ ?_<;>intro hc6
         ·
          have hg1:0<gq:=by
           rcases ff gq with h | h
           · rw[h,nh] at hc6;exact absurd hc6 (ma _)
           · exact h
          have hgq:=ge1 (by rw[←hU2];exact hc6);refine aj (aB aC (aB (mG O O (kQ (by omega) (by omega))) (aB aJ ?_)));simp only[zz];refine aI ?_;rw[show ((gq:Int)-1)=(q:Int) by omega];refine hK28 _ _ (aT (fun K30 hK30=>?_));clear hNv hNu;have hNv:=vW hB2 hdv (by omega);rw[←hvs] at hNv;refine aj (aB aC (aB aC (aB (nD bC aV O O (ai _) (by omega) (by omega) (Fj (by omega))) ?_)));simp only[zz];refine aB aC (aB aC ?_);simp only[zz];refine Jg O O (aaY _ hB1 hdu (by omega) hNv (by omega) (by omega) hqB (by rw[hU2,iy];exact hq1)) ?_;clear hB1;rintro v w10 hU hB1;replace hB2:=hB2.upd hU (by first | exact hN2_1 | exact Ne.symm hN1_2);replace hB3:=hB3.upd hU (by first | exact hN3_1 | exact Ne.symm hN1_3);replace hX:=hX.grownUpd hU hG1;clear hU;simp only[zz];refine aI (hK30 _ _ ?_);clear hNv;refine aj (aB aC (aB aC (aB aC ?_)));simp only[zz];refine aB (aG bC aV O O (by omega) (by omega) (iL (ai _))) ?_;simp only[zz];refine kY O (by simp only[zz];rfl) (by exact aV) hB3 (by simp;omega) (by simp[ie]) ?_;clear hB3;intro w11 hC hB3;replace hB1:=hB1.chg hC (by first | exact hN1_3 | exact Ne.symm hN3_1);replace hB2:=hB2.chg hC (by first | exact hN2_3 | exact Ne.symm hN3_2);replace hX:=hX.chg hC hG3;clear hC;rw[iD (by omega)] at hB3;refine aI (hK20 _ _ ?_);refine aj (aB aC (aB (mG O O (bH (by omega) (by omega))) (aB aJ ?_)));simp only[zz];refine aI ?_;obtain⟨r1,r2,r3,r4⟩:=Fk hdvs hdu hi hH hU hq1 hq2 hI hz (by omega);simp only[bu,Exit.then];refine⟨i,_,?_,O,?_,?_⟩
          · omega
          · simp only[zz,zv]
          ·
           simp only[zQ,zR,zD,zE];exact⟨i,laid us i (ds.length+1) (val 4294967296 ((us.drop i).take (ds.length+1))-val 4294967296 ds*q),qs.set i q,O,hX,hB1,hB2,hB3,by omega,by rw[r4];exact hlu,by simpa using hlq,Fi hdu,hdq.set hqB,r1,r2,r3,O⟩
         ·
          have hgq:=ge2 (by rw[←hU2];exact hc6);rw[show (gq:Int)=(q:Int) by omega];refine g_ (hK28 _ _ ?_);refine aT (fun K31 hK31=>?_);clear hNv hNu;have hNv:=vW hB2 hdv (by omega);rw[←hvs] at hNv;refine aj (aB aC (aB aC (aB (nD bC aV O O (ai _) (by omega) (by omega) (Fj (by omega))) ?_)));simp only[zz];refine aB aC (aB aC ?_);simp only[zz];refine Jg O O (aaY _ hB1 hdu (by omega) hNv (by omega) (by omega) hqB (by rw[hU2,iy];exact hq1)) ?_;clear hB1;rintro v w10 hU hB1;replace hB2:=hB2.upd hU (by first | exact hN2_1 | exact Ne.symm hN1_2);replace hB3:=hB3.upd hU (by first | exact hN3_1 | exact Ne.symm hN1_3);replace hX:=hX.grownUpd hU hG1;clear hU;simp only[zz];refine aI (hK31 _ _ ?_);clear hNv;refine aj (aB aC (aB aC (aB aC ?_)));simp only[zz];refine aB (aG bC aV O O (by omega) (by omega) (iL (ai _))) ?_;simp only[zz];refine kY O (by simp only[zz];rfl) (by exact aV) hB3 (by simp;omega) (by simp[ie]) ?_;clear hB3;intro w11 hC hB3;replace hB1:=hB1.chg hC (by first | exact hN1_3 | exact Ne.symm hN3_1);replace hB2:=hB2.chg hC (by first | exact hN2_3 | exact Ne.symm hN3_2);replace hX:=hX.chg hC hG3;clear hC;rw[iD (by omega)] at hB3;refine aI (hK20 _ _ ?_);refine aj (aB aC (aB (mG O O (bH (by omega) (by omega))) (aB aJ ?_)));simp only[zz];refine aI ?_;obtain⟨r1,r2,r3,r4⟩:=Fk hdvs hdu hi hH hU hq1 hq2 hI hz (by omega);simp only[bu,Exit.then];refine⟨i,_,?_,O,?_,?_⟩
          · omega
          · simp only[zz,zv]
          ·
           simp only[zQ,zR,zD,zE];exact⟨i,laid us i (ds.length+1) (val 4294967296 ((us.drop i).take (ds.length+1))-val 4294967296 ds*q),qs.set i q,O,hX,hB1,hB2,hB3,by omega,by rw[r4];exact hlu,by simpa using hlq,Fi hdu,hdq.set hqB,r1,r2,r3,O⟩
        ·
         have hco3:=hB1.word (show i+ds.length-2<us.length by omega);rw[←ha3] at hco3;have hgt:gq≤two:=aw (kx gq htv) (by omega);refine aj (aB aC (aB (aiK O O (by omega)) (aB aC ?_)));simp only[zz];refine eY O (aB aC ?_);simp only[zz];refine eY O (aB (apM O O (by omega)) ?_);simp only[zz];refine eY O (aB aC ?_);simp only[zz];refine eY O (aB aC ?_);simp only[zz];refine eY O (aB aC ?_);simp only[zz];refine eY O (aB (sD O O (amZ (ib (aiR (by omega) hsB) (by decide)))) ?_);simp only[zz];refine eY O (aB aC ?_);simp only[zz];refine eY O (aB (Ns O O (by omega) (Ag (n:=32) (by omega) (by omega))) ?_);simp only[zz];refine eY O (aB aC ?_);simp only[zz];refine eY O (aB aC ?_);simp only[zz];refine eY O (aB (mG O O (bH (by omega) (by omega))) ?_);simp only[zz];refine eY O (aB (aG bC aV O O (by omega) (by omega) (iL (show _=i+ds.length-2 by omega))) ?_);simp only[zz];refine eY O (aQ O (lies1 hco3 fL) ?_);simp only[zz];refine eY O (aB (abq O O (Pk (s:=32) (c:=rr) (by omega) (by omega) (by omega))) ?_);simp only[zz];refine eY O (aB (Nr O O) ?_);simp only[zz];refine eY O (aB (Fe O) (aB (Ff O) ?_));simp only[zz];refine aI (hK26 _ _ ?_);refine bK O ?_ ?_<;>intro hc5
         ·
          have hqg2:q<gq:=aiZ hP f3 f5 hq1 (adt hgr (by omega));refine g_ (hK25 _ _ ?_);refine gh (aT (fun K32 hK32=>aj (aB aC (aB (mG O O (kQ (by omega) (by omega))) (aB aJ ?_)))));simp only[zz];refine aI (hK32 _ _ ?_);have hgt2:rr+top≤two:=by have:=lj top (show 0<gq by omega);omega
          refine aj (aB aC (aB aC (aB (fH O O (kQ (by omega) (by omega))) ?_)));simp only[zz];refine aB aJ ?_;simp only[zz];refine aI ?_;obtain⟨g9,rfl⟩:∃g9,gq=g9+1:=⟨gq-1,by omega⟩
          rw[show (((g9+1:Nat):Int)-1)=(g9:Int) by omega,show ((rr:Int)+(top:Int))=((rr+top:Nat):Int) by omega];simp only[bu,Exit.then];refine⟨g9,_,?_,O,?_,?_⟩
          · omega
          · simp only[zz,zv]
          ·
           simp only[zQ,zR,zD,zE];exact⟨g9,rr+top,O,hX,hB1,hB2,hB3,by rw[Nat.add_mul,ka] at hgr;omega,by omega,rfl⟩
         ·
          have hx:gq*sec≤a3+rr*4294967296:=by omega
          refine o_ ?_;refine hK24 _ _ (aT (fun K33 hK33=>aT (fun K34 hK34=>?_)));have hNv:=vW hB2 hdv (by omega);rw[←hvs] at hNv;have hNu:=(hB1.nat hdu rfl (by omega)).drop (show i≤us.length by omega) rfl;rw[gV,ap,hlu] at hNu;have hU2:val 4294967296 ((us.drop i).take (ds.length+1))=U:=by rw[←Jh hdvs (by omega) hH,hU]
          have hgl:gq≤q+1:=abC f4 f6 hq2 (Qx hgr hx) (by omega);obtain⟨ge1,ge2⟩:=Wy hq1 hq2 hqg hgl;refine aj (aB aC (aB aC (aB (nD bC aV O O (ai _) (by omega) (by omega) (Fj (by omega))) ?_)));simp only[zz];refine aB aC (aB aC ?_);simp only[zz];refine bB O O (alh _ hNu hNv (by simp;omega) (by omega) (by omega)) ?_;rintro v w9 hE rfl;replace hB1:=hB1.ext hE;replace hB2:=hB2.ext hE;replace hB3:=hB3.ext hE;replace hX:=hX.trans hE;clear hE;simp only[zz];refine aI (hK34 _ _ ?_);refine bK O ?_ ?_<;>intro hc6
          ·
           have hg1:0<gq:=by
            rcases ff gq with h | h
            · rw[h,nh] at hc6;exact absurd hc6 (ma _)
            · exact h
           have hgq:=ge1 (by rw[←hU2];exact hc6);refine aj (aB aC (aB (mG O O (kQ (by omega) (by omega))) (aB aJ ?_)));simp only[zz];refine aI ?_;rw[show ((gq:Int)-1)=(q:Int) by omega];refine hK33 _ _ (aT (fun K35 hK35=>?_));clear hNv hNu;have hNv:=vW hB2 hdv (by omega);rw[←hvs] at hNv;refine aj (aB aC (aB aC (aB (nD bC aV O O (ai _) (by omega) (by omega) (Fj (by omega))) ?_)));simp only[zz];refine aB aC (aB aC ?_);simp only[zz];refine Jg O O (aaY _ hB1 hdu (by omega) hNv (by omega) (by omega) hqB (by rw[hU2,iy];exact hq1)) ?_;clear hB1;rintro v w10 hU hB1;replace hB2:=hB2.upd hU (by first | exact hN2_1 | exact Ne.symm hN1_2);replace hB3:=hB3.upd hU (by first | exact hN3_1 | exact Ne.symm hN1_3);replace hX:=hX.grownUpd hU hG1;clear hU;simp only[zz];refine aI (hK35 _ _ ?_);clear hNv;refine aj (aB aC (aB aC (aB aC ?_)));simp only[zz];refine aB (aG bC aV O O (by omega) (by omega) (iL (ai _))) ?_;simp only[zz];refine kY O (by simp only[zz];rfl) (by exact aV) hB3 (by simp;omega) (by simp[ie]) ?_;clear hB3;intro w11 hC hB3;replace hB1:=hB1.chg hC (by first | exact hN1_3 | exact Ne.symm hN3_1);replace hB2:=hB2.chg hC (by first | exact hN2_3 | exact Ne.symm hN3_2);replace hX:=hX.chg hC hG3;clear hC;rw[iD (by omega)] at hB3;refine aI (hK20 _ _ ?_);refine aj (aB aC (aB (mG O O (bH (by omega) (by omega))) (aB aJ ?_)));simp only[zz];refine aI ?_;obtain⟨r1,r2,r3,r4⟩:=Fk hdvs hdu hi hH hU hq1 hq2 hI hz (by omega);simp only[bu,Exit.then];refine⟨i,_,?_,O,?_,?_⟩
           · omega
           · simp only[zz,zv]
           ·
            simp only[zQ,zR,zD,zE];exact⟨i,laid us i (ds.length+1) (val 4294967296 ((us.drop i).take (ds.length+1))-val 4294967296 ds*q),qs.set i q,O,hX,hB1,hB2,hB3,by omega,by rw[r4];exact hlu,by simpa using hlq,Fi hdu,hdq.set hqB,r1,r2,r3,O⟩
          ·
           have hgq:=ge2 (by rw[←hU2];exact hc6);rw[show (gq:Int)=(q:Int) by omega];refine g_ (hK33 _ _ ?_);refine aT (fun K36 hK36=>?_);clear hNv hNu;have hNv:=vW hB2 hdv (by omega);rw[←hvs] at hNv;refine aj (aB aC (aB aC (aB (nD bC aV O O (ai _) (by omega) (by omega) (Fj (by omega))) ?_)));simp only[zz];refine aB aC (aB aC ?_);simp only[zz];refine Jg O O (aaY _ hB1 hdu (by omega) hNv (by omega) (by omega) hqB (by rw[hU2,iy];exact hq1)) ?_;clear hB1;rintro v w10 hU hB1;replace hB2:=hB2.upd hU (by first | exact hN2_1 | exact Ne.symm hN1_2);replace hB3:=hB3.upd hU (by first | exact hN3_1 | exact Ne.symm hN1_3);replace hX:=hX.grownUpd hU hG1;clear hU;simp only[zz];refine aI (hK36 _ _ ?_);clear hNv;refine aj (aB aC (aB aC (aB aC ?_)));simp only[zz];refine aB (aG bC aV O O (by omega) (by omega) (iL (ai _))) ?_;simp only[zz];refine kY O (by simp only[zz];rfl) (by exact aV) hB3 (by simp;omega) (by simp[ie]) ?_;clear hB3;intro w11 hC hB3;replace hB1:=hB1.chg hC (by first | exact hN1_3 | exact Ne.symm hN3_1);replace hB2:=hB2.chg hC (by first | exact hN2_3 | exact Ne.symm hN3_2);replace hX:=hX.chg hC hG3;clear hC;rw[iD (by omega)] at hB3;refine aI (hK20 _ _ ?_);refine aj (aB aC (aB (mG O O (bH (by omega) (by omega))) (aB aJ ?_)));simp only[zz];refine aI ?_;obtain⟨r1,r2,r3,r4⟩:=Fk hdvs hdu hi hH hU hq1 hq2 hI hz (by omega);simp only[bu,Exit.then];refine⟨i,_,?_,O,?_,?_⟩
           · omega
           · simp only[zz,zv]
           ·
            simp only[zQ,zR,zD,zE];exact⟨i,laid us i (ds.length+1) (val 4294967296 ((us.drop i).take (ds.length+1))-val 4294967296 ds*q),qs.set i q,O,hX,hB1,hB2,hB3,by omega,by rw[r4];exact hlu,by simpa using hlq,Fi hdu,hdq.set hqB,r1,r2,r3,O⟩
      ·
       obtain rfl:k=0:=by omega
       rw[od] at hH;obtain⟨dq,dr⟩:=ai2 (X:=val 4294967296 xs) (Y:=val 4294967296 ys) (p:=2^sh) (u:=val 4294967296 us) (q:=val 4294967296 qs) (j_ (by omega)) (by rw[←hvvs];exact hI) (by rw[←hvvs];exact hH);refine o_ (hK16 _ _ ?_);refine aT (fun K37 hK37=>aj (aB aC ?_));simp only[zz];refine bB O O (Mz _ (hB3.nat hdq (by omega) (by omega))) ?_;rintro v w7 hE ⟨A5,c5,rfl,hN5⟩;replace hB1:=hB1.ext hE;replace hX:=hX.trans hE;clear hE;simp only[zz];refine aB aC ?_;simp only[zz];refine bB O O (Mz _ (hB1.nat hdu (by omega) (by omega))) ?_;rintro v w8 hE ⟨A6,c6,rfl,hN6⟩
       (try replace hN5:=hN5.ext hE);replace hX:=hX.trans hE
       clear hE;simp only[zz];refine aB aC ?_;simp only[zz];refine bB O O (ahR _ hN6 (aw (uF hdu) (by omega)) hs31) ?_;rintro v w9 hE ⟨A7,c7,rfl,hN7⟩
       (try replace hN5:=hN5.ext hE);replace hX:=hX.trans hE
       clear hE;simp only[zz];refine aB aJ (aB aJ ?_);simp only[zz];refine aI (hK37 _ _ ?_);refine ik ?_;try simp only[bu,Exit.then]
       refine nP O O O ?_;try simp only[zD,zE]
       exact⟨_,O,hX,_,_,O,by rw[←dq];exact⟨A5,c5,O,hN5⟩,by rw[←dr];simp only[cO] at hN7 ⊢;exact⟨A7,c7,O,hN7⟩⟩
end Go.Proofs.YtfekpcimgncioaaGreatDoor
namespace Go.Proofs.YtfekpcimgncioaaGreatDoor
open Go.Proofs.Tryz
open Go.RowKit Go.Lith
set_option maxRecDepth 100000
attribute [local irreducible] au cq eF bJ cD Code.wp
attribute [local congr] oG fS fT fU fV fW jR fX fY fZ gA gB gC gD gE gF gG gH eM eN gI gJ gL gM gN jT cW cX cA cU gK jS eO eP eQ gQ gR jU
theorem On{neg:Bool}{s:ByteArray}(w:am)(hs:s.size≤1000000000000):dR prog 185 [.agg #[.bool neg,.string s]] w (iX (apX s)):=by
 refine⟨bO func185 (by kernel_rfl),?_⟩;have m:=Mem.refl w
 go_enter func185,ntmps185
 apply nM 9 [0,0] m;simp only[↓aD,Qf,anT,aa];intro g1 u m;refine aB (yE O tZ O) ?_;apply aM 2 [0] m;simp only[↓aD];refine⟨by omega,?_⟩;rw[show ((s.size:Int)+4-1)=((s.size+3:Nat):Int) by omega];refine aB (mV O O (by omega) (Pp (n:=4) (by omega))) ?_;simp only[zz];obtain⟨K,hK⟩:∃K,K=(s.size+3) / 4:=⟨_,rfl⟩
 rw[←hK];refine qY bC pP O O O (show _=K by omega) (show _=K by omega) (by omega) (by omega) (by omega) (by omega) ?_;intro u g2 e_ h_ k_;replace m:=m.newB e_ h_ k_;apply aM 2 [] m;simp only[↓aD];rw[iP] at m;apply bF 5 [1,0] m;simp only[↓aD,Qf,anT,aa];refine aB (yE O tZ O) ?_;apply aM 3 [0] m;simp only[↓aD];refine cP [16] [4,5,17,18,19,20,21,22,23,24,25,26,27,28,29,30,31,32,33,34,35,36,37,38,39,40,41] (fun n vs wl=>∃(i:Nat) (os:List Nat),vs=[.int .i64 (i:Int)]∧Mem w wl [bI g2 (os.map mX) 231,bI g1 [.bool neg,.string s] 95]∧(i≤s.size)∧(os.length=K)∧(dV 4294967296 os)∧(∀(j:Nat) (h:j<os.length),256^(s.size-i-4*j)∣os[j])∧(val 4294967296 os=256^(s.size-i)*val 256 ((xT s).drop (s.size-i)))∧(n=s.size-i)) ?_ ?_
 ·
  exact⟨_,0,cl K 0,O,m,by omega,by simp,fun x hx=>by rw[fp hx];decide,fun j h=>by rw[List.getElem_replicate];exact Nat.dvd_zero _,by rw[gZ,ai5 (by rw[Gq];omega),nh],rfl⟩
 ·
  intro n vs wr hI u K1 hK1;obtain⟨i,os,rfl,m,hi,hlo,hd,hdv,hv,hn⟩:=hI;simp only[zu,zF,zG];apply aL 5 [0,0] m;simp only[↓aD];refine bK O ?_ ?_<;>intro hc1
  ·
   apply aL 12 [1,0] m;simp only[↓aD,Qf,anT,aa];refine aB (yE O tZ O) ?_;apply aM 5 [] m;simp only[↓aD];refine⟨by omega,?_⟩;obtain⟨p,hp⟩:∃p,p+1+i=s.size:=⟨s.size-1-i,by omega⟩
   rw[show ((s.size:Int)-1-(i:Int))=(p:Int) by omega];obtain⟨b,hb,hpl,hbp⟩:=adx hp;obtain⟨f1,f2,f3,f4⟩:=agW (r:=p%4) (j:=p / 4) hpl (by omega) (by omega) (by omega) hd (abD s) (by rw[show p+1=s.size-i by omega];exact hdv) (by rw[show p+1=s.size-i by omega];exact hv);rw[hbp,Qy] at f1 f3 f4;have hb256:b.toNat<256:=b.toNat_lt;have f5:b.toNat*2^(8*(p%4))<2^(8*(p%4+1)):=by
    rw[show 8*(p%4+1)=8+8*(p%4) by omega,Nat.pow_add];exact Nat.mul_lt_mul_of_pos_right hb256 (j_ (by omega))
   obtain⟨c,f6⟩:∃c,os[p / 4]=2^(8*(p%4+1))*c:=by
    obtain⟨c,hc⟩:=f2;exact⟨c,by rw[hc,Qy]⟩
   refine gc ?_;refine eB m 16 aF (by kernel_rfl) ?_;simp only[zy];refine aK aC (aK aC ?_);simp only[zz];refine aK (mV O O (by omega) (Pp (n:=4) (by omega))) ?_;simp only[zz];refine aK (aG bC aV O O (by omega) (by omega) (iL (show _=p / 4 by omega))) ?_;simp only[zz];refine ql O (fun u m=>(lies1 ((m.b 0 O).word (show p / 4<os.length by omega)) fL)) ?_;simp only[zz];refine iB 3 [1] ?_;simp only[↓aD,Qf,anT,aa];refine aK ((vU tZ O O (by omega) (by rw[ai];exact hb))) (aK (lT nH asZ O (kQ (by omega) (by omega))) (aK aC ?_));simp only[zz];refine aK (dL O O (by omega) (Zo (n:=4))) (aK (sD O O ((bH (by omega) (by omega)).trans (show (8:Int)*((p%4:Nat):Int)=((8*(p%4):Nat):Int) by omega))) ?_);simp only[zz];refine aK (Ns O O (by omega) (Ag (n:=8*(p%4)) (by omega) (by omega))) (aK (abq O O ((Pk (s:=8*(p%4+1)) (a:=b.toNat*2^(8*(p%4))) (b:=os[p / 4]) f5 f6 (by omega)).trans (show (((b.toNat*2^(8*(p%4)))+os[p / 4]:Nat):Int)=((os[p / 4]+b.toNat*2^(8*(p%4)):Nat):Int) by omega))) ?_);simp only[zz];refine aK (aG bC aV O O (by omega) (by omega) (iL (show _=p / 4 by omega))) (bN ?_);intro u m;simp only[zz];refine fK m 0 O O O aV (by simp;omega) ⟨rfl,rfl⟩ ?_;intro u m;simp only[zz] at m ;rw[iD (by omega)] at m;refine aI ?_;apply bF 5 [0] m;simp only[↓aD];refine⟨by omega,?_⟩;rw[show ((i:Int)+1)=((i+1:Nat):Int) by omega];exact hK1 (s.size-(i+1)) _ _ (by omega) (by kernel_rfl) ⟨i+1,os.set (p / 4) (os[p / 4]+b.toNat*2^(8*(p%4))),O,m,by omega,by simpa using hlo,hd.set f1,by rw[show s.size-(i+1)=p by omega];exact f3,by rw[show s.size-(i+1)=p by omega];exact f4,O⟩
  ·
   apply aL 2 [] m;simp only[↓aD];obtain rfl:i=s.size:=by omega
   apply bF 2 [0] m;simp only[↓aD];refine dH m O O (xX _ ((m.b 0 O).nat hd (by omega) (by omega))) ?_;rintro v u m rfl;apply aM 3 [] m;simp only[↓aD];exact aY O O ⟨_,O,m.ext,iX.of_trim ((m.b 0 O).nat hd (n:=K) (by omega) (by omega)) (by rw[hv,Nat.sub_self,Nat.pow_zero,ka,od];rfl)⟩
end Go.Proofs.YtfekpcimgncioaaGreatDoor
namespace Go.Proofs.YtfekpcimgncioaaGreatDoor
open Go.Proofs.Tryz
open Go.RowKit Go.Lith
attribute [local go_sem] qr
variable{n₀ Bs:Nat}
def oB(n₀ Bs:Nat)(W W':am):Prop:=Below n₀ W W'∧W'.heap[Bs]? = W.heap[Bs]?
theorem oB.refl(n₀ Bs:Nat)(W:am):oB n₀ Bs W W:=⟨Below.refl _ _,rfl⟩
theorem oB.trans{A B C:am}(h:oB n₀ Bs A B)(k:oB n₀ Bs B C):oB n₀ Bs A C:=⟨h.1.trans k.1,k.2.trans h.2⟩
theorem oB.box{A B:am}(h:oB n₀ Bs A B){v:ak}(hc:A.cell? ⟨Bs,0,none⟩=some v):B.cell? ⟨Bs,0,none⟩=some v:=(World.cell?_of_block h.2).trans hc
set_option maxRecDepth 100000 in
theorem ali(F:Fence)(n:Nat)(h7:F.fn 314)(hro:F.round=none)(hn:1≤n)(l Bs n₀ cap:Nat)(a:Addr)(xs:List Nat)(hreach:xs.length*8≤140737488351232)(hb:a.block<n₀)(J Jx:List (Nat × Nat)→am→Prop)
 (hY:∀pre x W,J pre W→pre.length<xs.length→YieldAt F (n-1) prog l #[.int .i64 (x.1:Int),.int .u64 (x.2:Int)] W fun e W' =>
  (e=.returned (.bool true)∧J (pre++[x]) W'∧oB n₀ Bs W W')∨(e=.returned (.bool false)∧Jx (pre++[x]) W'))
 (W:am) (hBs:W.cell? ⟨Bs,0,none⟩=some (.slice (some a) xs.length cap)) (hc:∀j (h:j<xs.length),W.cell? (a.add j)=some (.int .u64 (xs[j]:Nat))) (h0:J [] W) :
 CallsIn F n prog 314 #[.func (.yield l) #[] #[],.pointer (some ⟨Bs,0,none⟩)] W fun e W'=>(∃v,e=.returned v) ∧
  ((∃ys:List (Nat × Nat),ys.map qh=xs.reverse∧J ys W')∨(∃pre,True∧Jx pre W')):=by
 refine callsIn_of_wp func314 O h7 ?_ hro;simp only[ntmps314,gz,az,b_,aa,lo,iv,iw,jk,jb,bv,cn]
 gi_wp2
 gi_loopw [3] (fun i wr=>∃(k:Nat) (pre:List (Nat × Nat)),k≤xs.length∧i=.int .i64 ((k:Int)-1)∧pre.length=xs.length-k∧pre.map qh=(xs.drop k).reverse∧J pre wr∧oB n₀ Bs W wr)
  (fun i _=>(intOf i+1).toNat)
 case atStart=>exact⟨xs.length,[],av _,rfl,by simp,by simp,h0,oB.refl _ _ _⟩
 case round =>
  obtain⟨k,pre,hk,rfl,hpl,hpre,hJs,hnx⟩:=hrel;have hBw:wr.cell? ⟨Bs,0,none⟩=some (.slice (some a) xs.length cap):=hnx.box hBs;by_cases hk0:0<k
  · have hlt:k-1<xs.length:=by omega
    have hcx:wr.cell? (a.add (k-1))=some (.int .u64 ((xs[k-1]:Nat):Int)):=(hnx.1.cell (by rw[Fg];exact hb)).trans (hc _ hlt);obtain⟨fn,tmps,assign,body,hy,hR⟩:=hY pre (k-1,xs[k-1]) wr hJs (by omega);dsimp only at hy;obtain⟨j,rfl⟩:∃j,k=j+1:=⟨k-1,by omega⟩
    rw[show (((j+1:Nat):Int)-1)=(j:Int) by omega];simp only[eh] at hy hR hcx hlt
    gi_wp2
    refine hR.mono ?_;rintro e W3 (⟨rfl,hJ3,hk3⟩ | ⟨rfl,hJx3⟩)
    · gi_wp2
      go_roundw
      case rel=>exact⟨j,pre++[(j,xs[j])],by omega,by simp,by simp;omega,by rw[List.drop_eq_getElem_cons hlt,List.reverse_cons,cz,hpre];rfl,hJ3,hnx.trans hk3⟩
      case measure=>simp[intOf]
    · gi_wp2
      refine bodyPost_ret (results_none O _ _ _) O ?_;exact⟨⟨_,O⟩,.inr ⟨_,trivial,hJx3⟩⟩
  · obtain rfl:k=0:=by omega
    gi_wp2
    go_end0
    exact⟨⟨_,O⟩,.inl ⟨pre,by rw[hpre];rfl,hJs⟩⟩
set_option maxRecDepth 100000 in
theorem aaZ(F:Fence)(n:Nat)(h7:F.fn 314)(hro:F.round=none)(l Bs cap:Nat)(A:Option Addr)(J:List (Nat × Nat)→am→Prop)(W:am)(hBs:W.cell? ⟨Bs,0,none⟩=some (.slice A 0 cap))(h0:J [] W) :
 CallsIn F n prog 314 #[.func (.yield l) #[] #[],.pointer (some ⟨Bs,0,none⟩)] W fun e W'=>(∃v,e=.returned v)∧J [] W':=by
 refine callsIn_of_wp func314 O h7 ?_ hro;simp only[ntmps314,gz,az,b_,aa,lo,iv,iw,jk,jb,bv,cn]
 gi_wp2
 gi_loopw [3] (fun i wr=>i=.int .i64 (-1)∧J [] wr) (fun _ _=>0)
 case atStart=>exact⟨rfl,h0⟩
 case round =>
  obtain⟨rfl,hJs⟩:=hrel
  gi_wp2
  go_end0
  exact⟨⟨_,O⟩,hJs⟩
theorem aod(F:Fence)(n:Nat)(h5:F.fn 257)(hro:F.round=none)(a:Option Addr)(len cap:Nat)(w:am) :
 CallsIn F n prog 257 #[.slice a len cap] w fun e w'=>e=.returned (.func (.func 314) #[] #[.pointer (some ⟨w.heap.size,0,none⟩)])∧w'=w.alloc (.cells #[.slice a len cap] 233):=by
 refine callsIn_of_wp func257 O h5 ?_ hro;simp only[ntmps257,gz,az,b_,aa,lo,iv,iw,jk,jb,bv,cn]
 gi_wp2
 go_ret
 exact⟨O,O⟩
theorem aeG(F:Fence)(n:Nat)(h7:F.fn 314)(hro:F.round=none)(hn:1≤n)(Bs n₀ cap:Nat)(A:Option Addr)(xs:List Nat)(hreach:xs.length*8≤140737488351232)(w:am)(hBs:Bs<w.heap.size)(hn₀:n₀≤w.heap.size)
 (hc:w.cell? ⟨Bs,0,none⟩=some (.slice A xs.length cap)) (hI:∀(i x:Nat),xs[i]? = some x→∃a,A=some a∧w.cell? (a.add i)=some (.int .u64 (x:Int))) (hA:∀a,0<xs.length→A=some a→a.block<n₀) :
 SeqStopsK F n prog 314 #[.pointer (some ⟨Bs,0,none⟩)] (fun x:Nat × Nat=>#[Value.int .i64 (x.1:Int),Value.int .u64 (x.2:Int)]) (oB n₀ Bs) (fun ys=>ys.map qh=xs.reverse) (fun _=>True) xs.length w:=fun l J Jx W hW _ _ hY h0=>by
 have hc':=(hW.cell (p:=⟨Bs,0,none⟩) hBs).trans hc;rcases ff xs.length with h | h
 · obtain rfl:xs=[]:=eo h
   exact (aaZ F n h7 hro l Bs cap A J W hc' h0).mono fun e W' ⟨he,hj⟩=>⟨he,.inl ⟨[],O,hj⟩⟩
 · obtain⟨a,rfl,_⟩:=hI 0 xs[0] (ar h)
   refine ali F n h7 hro hn l Bs n₀ cap a xs hreach (hA a h O) J Jx hY W hc' (fun j hj=>?_) h0;obtain⟨a',e,hcl⟩:=hI j xs[j] (ar hj);cases e;exact (hW.cell (by rw[Fg];exact cw (hA a h O) hn₀)).trans hcl
theorem ard{A:Option Addr}{n cap:Nat}(w:am):dR prog 257 [.slice A n cap] w (fun v w'=>∃g,v=.func (.func 314) #[] #[.pointer (some ⟨g,0,none⟩)]∧w.heap.size≤g∧fE w' g [.slice A n cap] 233):=by
 refine⟨bO func257 (by kernel_rfl),(callsIn_wide (n:=2)).1 ((aod Fence.wide 2 trivial O A n cap w).mono ?_)⟩;rintro e w' ⟨rfl,rfl⟩;exact⟨_,O,(dY.refl w).alloc _,_,O,av _,jP w _ _⟩
end Go.Proofs.YtfekpcimgncioaaGreatDoor
namespace Go.Proofs.YtfekpcimgncioaaGreatDoor
open Go.Proofs.Tryz
open Go.RowKit Go.Lith
set_option maxRecDepth 100000
attribute [local irreducible] au cq eF Code.wp
attribute [local go_sem] qr
theorem aoe:(prog.info? 5).map (fun i=>(i.zero,i.size,i.bytes))=some (some (.int .u8 0),1,1):=by kernel_rfl
theorem Ue{W w1:am}{tmp:Obj}{v v':ak}{base size k g g3:Nat}{e t:TypeId}{xs cs:List ak}(hB:fE W g cs t)(hte:t≠e)(hr:W.ownsRow base e size v k xs)(hg:(W.alloc tmp).grownBy w1 v.ownBlock)(hne:g≠g3):(w1.setCell ⟨g3,0,none⟩ v').heap[g]? = W.heap[g]?:=by
 have h1:some g≠v.ownBlock:=by
  rcases hr.2 with ⟨rfl,_⟩ | ⟨g',cap,cur,rfl,_,hgb,_⟩
  · simp[qt]
  ·
   intro h;obtain rfl:g=g':=by simpa[qt] using h
   rw[hB] at hgb;cases hgb;exact hte O
 exact ((Below.heap_setCell w1 ⟨g3,0,none⟩ v' g hne).trans (hg.block g (by simp;have:=hB.lt;omega) h1)).trans (Below.heap_alloc W tmp g hB.lt)
theorem Em{A:Option Addr}{xs:List Nat}{na cap:Nat}{neg:Bool}(w:am)(hS:dF w A na cap xs)(hl:xs.length≤100000000000):dR prog 184 [.slice A na cap,.bool neg] w (fun v _=>v=W (sgn neg (val 4294967296 xs))):=by
 skip
 refine⟨bO func184 (by kernel_rfl),?_⟩;have hX:=dY.refl w;obtain rfl:=hS.eq;have hlt:=Cs xs;have hle:=hS.le;refine (callsIn_wide (n:=4)).1 (callsIn_of_wp_marks func184 O trivial ?_ O);simp only[ntmps184,gz,az,b_,aa,lo,iv,iw,jk,jb,bv,cn];refine wpIn_wide.2 (aT (fun K1 hK1=>aj ?_));refine Ab Jq O ?_;intro w1 g1 hE hg1 hB1;have hG1:=aw hX.size hg1;replace hX:=hX.trans hE;clear hE hg1;simp only[zz];refine aI (hK1 _ _ ?_);refine aT (fun K2 hK2=>aj (aB aC ?_));simp only[zz];refine bB O O (xX _ (hS.ext hX)) ?_;rintro v w2 hE rfl;replace hB1:=hB1.ext hE;replace hX:=hX.trans hE;clear hE;simp only[zz];refine aB aJ ?_;simp only[zz];refine aI ?_;obtain⟨ys,hys⟩:∃ys,ys=trim xs:=⟨_,rfl⟩
 rw[←hys] at hlt ⊢;refine hK2 _ _ (aT (fun K3 hK3=>aj (aB aC (aB (jD O bC O) (aB (sD O O (bH (by omega) (by omega))) ?_)))));simp only[zz];refine qY underlying300 asF O O O (show _=0 by omega) (show _=4*ys.length by omega) (by omega) (by omega) (by omega) (by omega) ?_;intro w3 g2 hE hg2 hB2;have hG2:=aw hX.size hg2;have hN2_1:g2≠g1:=il (cw hB1.lt hg2);replace hB1:=hB1.ext hE;replace hX:=hX.trans hE;clear hE hg2;simp only[zz];refine Ab ajP O ?_;intro w4 g3 hE hg3 hB3;have hG3:=aw hX.size hg3;have hN3_1:g3≠g1:=il (cw hB1.lt hg3);have hN3_2:g3≠g2:=il (cw hB2.lt hg3);replace hB1:=hB1.ext hE;replace hB2:=hB2.ext hE;replace hX:=hX.trans hE;clear hE hg3;simp only[zz];refine kY O (by simp only[zz];rfl) (by exact ahi) hB3 (by simp) (by simp[ie]) ?_;clear hB3;intro w5 hC hB3;replace hB1:=hB1.chg hC (by first | exact hN1_3 | exact Ne.symm hN3_1);replace hB2:=hB2.chg hC (by first | exact hN2_3 | exact Ne.symm hN3_2);replace hX:=hX.chg hC hG3;clear hC;simp only[zy,zx,bQ,aa] at hB3;refine aI (hK3 _ _ ?_);refine aT (fun K4 hK4=>aT (fun K5 hK5=>aj (aB aC ?_)));simp only[zz];refine bB O O (ard _) ?_;rintro v w6 hE ⟨g4,rfl,hg4,hB4⟩;have hG4:=aw hX.size hg4;have hN4_1:g4≠g1:=il (cw hB1.lt hg4);have hN4_2:g4≠g2:=il (cw hB2.lt hg4);have hN4_3:g4≠g3:=il (cw hB3.lt hg4);replace hB1:=hB1.ext hE;replace hB2:=hB2.ext hE;replace hB3:=hB3.ext hE;replace hX:=hX.trans hE;clear hE hg4;simp only[zz];refine aI (hK5 _ _ ?_);refine gh ((wpIn_wide (n:=4)).1 ?_);have hbase:w.heap.size≤w6.heap.size:=hX.size;obtain⟨n0,hn0⟩:∃n0,n0=w.heap.size:=⟨_,rfl⟩
 have hT:dF w6 A ys.length cap ys:=(((hS.ext hX).take (trim xs).length).as (mQ xs).symm |> fun h=>by rw[←mQ,←hys] at h;exact h)
 have hA:∀a,0<ys.length→A=some a→a.block<w.heap.size:=fun a h0 e=>by
  obtain⟨a',e',hc⟩:=hS.row 0 (xs[0]'(by omega)) (ar (by omega));rw[e] at e';cases e';have:=World.block_lt_of_cell? _ _ hc;rwa [Fg] at this
 refine wpIn_rangeFunc_ownG (F:=Fence.wide) O (by omega) (gf:=314) (lb:=#[.pointer (some ⟨g4,0,none⟩)]) O trivial (enters_of func314 (by kernel_rfl) O)
  (aeG Fence.wide 3 trivial rfl (by omega) g4 w.heap.size cap A ys (by omega) w6 hB4.lt hX.size (hB4.cell rfl) hT.row hA) oB.trans (fun W l o o' hl ho _ _=>⟨belowK_b (w:=w6) hX.size W l o o' hl ho ‹_› ‹_›,World.putObj_heap_other (by have:=hB4.lt;omega)⟩) (Below.refl _ _) (fun _=>rfl)
  (fun pre W=>((∃v,Boxed W g3 300 v∧W.ownsRow w.heap.size 5 1 v (wbs pre).length ((wbs pre).map u8v)∧True)∧fE W g1 [.bool false,.string ⟨#[]⟩] 95∧fE W g4 [.slice A ys.length cap] 233)∧Below w.heap.size w W)
  (fun _ _ _=>False)
  (OwnFrom.and (OwnFrom.and (Own.from (holdsRow_own w.heap.size g3 300 5 1 (fun pre=>(wbs pre).length) (fun pre=>(wbs pre).map u8v) (fun _ _=>True)) _) (Own.from (fun s X Y row hs hg hr=>⟨(grownBy_keeps_cells hg hr hs.1 rfl).trans hs.1,(grownBy_keeps_cells hg hr hs.2 rfl).trans hs.2⟩) _)) (ownFrom_below (av _) hX.size))
  (fun _ _ _ _ _ hs _ _=>hs)
  ⟨⟨⟨_,hB3,⟨rfl,.inr ⟨g2,4*ys.length,_,rfl,hG2,hB2,bw _,by show _≤9223372036854775807;omega,by simp,by simp[wbs]⟩⟩,trivial⟩,hB1,hB4⟩,hX⟩
  (fun x=>{ tmps:=#[.slice A ys.length cap,.bool neg,undef,undef,.pointer (some ⟨g1,0,none⟩),.pointer (some ⟨g3,0,none⟩),undef,.int .u64 (x.2:Int),undef,.slice A xs.length cap,.slice A ys.length cap,.slice A ys.length cap,.int .i64 (ys.length:Int),.int .i64 (4*(ys.length:Int)),.slice (some ⟨g2,0,none⟩) 0 (4*ys.length),.slice A ys.length cap,.func (.func 314) #[] #[.pointer (some ⟨g4,0,none⟩)],.int .i64 (x.1:Int),.int .u64 (x.2:Int),undef,undef,undef,undef,undef,undef,undef,undef,undef,undef,undef,undef,undef,undef,undef,undef,undef,undef,undef,undef,undef,undef,undef,undef],defers:=[] }) ?assign ?body ?done ?stop
 case assign =>
  intro l x W K hK;clear hys
  gi_wp2
  exact hK
 case stop =>
  rintro D c pre W _ _ h _;exact h.elim
 case body =>
  rintro l pre x W ⟨⟨⟨v,hv,hrow,_⟩,hB1',hB4'⟩,hB⟩ hlt;have hc:=hv.cell;have hwl:(wbs pre).length≤4*pre.length:=Nat.le_of_eq (Rb pre);clear hys;obtain⟨i0,hi,hz0,hz1,hz2⟩:=info_parts aoe
  gi_wp2_with (gi_at_builtin;refine wpListIn_append_own _ O _ _ 300 O w.heap.size 5 i0 (.int .u8 0) 1 1 underlying300 hi hz0 hz1 hz2 O (by decide) _ _ _ O (hrow.alloc _) ⟨W.heap.size,0,none⟩ 4 4 [.int .u8 ((x.2:Int) / 16777216%256),.int .u8 ((x.2:Int) / 65536%256),.int .u8 ((x.2:Int) / 256%256),.int .u8 ((x.2:Int)%256)] O O ((jP W _ 5).row 0) (by simp[ie]) (by show _≤9223372036854775807;omega) (by omega) (by have:=hB.size;simp;omega) ?_;intro v' w1 hown' hgrow _;obtain⟨g',cap',rfl⟩:=ownsRow_succ hown';obtain⟨hv1,hv2,hr2,hk2,hb2⟩:=hv.appended (by decide) hrow hB.size hG3 hown' hgrow;have hc1:=hv1.cell;have hf1:=hv1.frozen)
  have e1:=Ue hB1' (by decide) hrow hgrow (Ne.symm hN3_1) (v':=.slice (some ⟨g',0,none⟩) ((wbs pre).length+3+1) cap');have e4:=Ue hB4' (by decide) hrow hgrow hN4_3 (v':=.slice (some ⟨g',0,none⟩) ((wbs pre).length+3+1) cap');refine⟨hk2.from _,⟨hb2,e4⟩,⟨⟨_,hv2,?_,trivial⟩,e1.trans hB1',e4.trans hB4'⟩,hB.trans hb2⟩;rw[ai6,List.length_append,cz];have e:(wb x.2).map u8v=[.int .u8 ((x.2:Int) / 16777216%256),.int .u8 ((x.2:Int) / 65536%256),.int .u8 ((x.2:Int) / 256%256),.int .u8 ((x.2:Int)%256)]:=by simp[wb,UInt8.toNat_ofNat']
  rw[e];exact hr2
 rintro D ls W hD hls ⟨⟨⟨v,hv,hrow,_⟩,hB1',_⟩,hX'⟩ hK';replace hD:=aw hX.size hD;clear hB1 hB2 hB3 hB4 hX hG2 hG4 hN2_1 hN3_2 hN4_1 hN4_2 hN4_3 hbase hT;have hB1:=hB1';have hB3:fE W g3 [v] 300:=hv;have hX:dY w W:=hX';have hK:Def W D:=⟨hK'⟩
 have hDg1:=hK.ne hB1;have hlb:(wbs ls).length≤1000000000000000:=by
  have:=congrArg List.length hls;rw[dm,List.length_reverse] at this;rw[Rb];omega
 have hbs:qI (vY (wbs ls))=kA (sgn neg (val 4294967296 xs)):=by
  have e:wbs ls=ys.reverse.flatMap wb:=by rw[←hls,List.flatMap_map];rfl
  have hd:dV 4294967296 ys:=by rw[hys];exact hS.digs.trim
  rw[e,adD hd neg,hys,Cr]
 dsimp only;refine hK4 _ _ (aT (fun K6 hK6=>aj ?_));refine aQ O (hB3.lies1 anr O) ?_;simp only[zz];refine eD (adB underlying300 asZ tZ O hrow) ?_;simp only[zz];refine Zj O O (aeF hlb) ?_;intro w7 hE;replace hB1:=hB1.ext hE;(try replace hK:=hK.ext hE);replace hX:=hX.trans hE;clear hE;simp only[zz];refine aB aJ ?_;simp only[zz];refine aI ?_;rw[hbs];refine hK6 _ _ (aT (fun K7 hK7=>?_));cases neg
 ·
  refine aj (aB aC (aB aC ?_));simp only[zz];refine kX O ?_;simp only[zz];refine kX O ?_;simp only[zz];refine aB (Ff O) (aB aC (aB (Dp O O) ?_));simp only[zz];refine kY O (by simp only[zz];rfl) (by exact aW) hB1 (by simp) (by simp[ie]) ?_;clear hB1;intro w8 hC hB1
  (try replace hK:=hK.chg hC (by first | assumption | rfl));replace hX:=hX.chg hC hG1
  clear hC;simp only[zy,zx,bQ,aa] at hB1;refine aI (hK7 _ _ ?_);refine ik ?_;try simp only[bu,Exit.then]
  refine adC hK ?_;replace hB1:=hB1.putD hK (o:=.deferred none);replace hX:=hX.putD hD (o:=.deferred none);refine aY O ⟨_,O,(hB1.lies dU aW O O)⟩ ?_;try simp only[zD,zE]
  exact⟨_,O,hX,by simp[Lith.W,afi,Re]⟩
 ·
  refine aj (aB aC (aB aC ?_));simp only[zz];refine eY O (aB aC ?_);simp only[zz];refine eY O (aB (apW tZ O O) (aB (Fe O) (aB aC ?_)));simp only[zz];refine aB (Dp O O) ?_;simp only[zz];refine kY O (by simp only[zz];rfl) (by exact aW) hB1 (by simp) (by simp[ie]) ?_;clear hB1;intro w8 hC hB1
  (try replace hK:=hK.chg hC (by first | assumption | rfl));replace hX:=hX.chg hC hG1
  clear hC;simp only[zy,zx,bQ,aa] at hB1;refine aI (hK7 _ _ ?_);refine ik ?_;try simp only[bu,Exit.then]
  refine adC hK ?_;replace hB1:=hB1.putD hK (o:=.deferred none);replace hX:=hX.putD hD (o:=.deferred none);refine aY O ⟨_,O,(hB1.lies dU aW O O)⟩ ?_;try simp only[zD,zE]
  exact⟨_,O,hX,by simp[Lith.W,afi,Re]⟩
end Go.Proofs.YtfekpcimgncioaaGreatDoor
namespace Go.Proofs.YtfekpcimgncioaaGreatDoor
open Go.Proofs.Tryz
open Go.RowKit Go.Lith
set_option maxRecDepth 100000
attribute [local irreducible] au cq eF bJ cD Code.wp
attribute [local congr] oG fS fT fU fV fW jR fX fY fZ gA gB gC gD gE gF gG gH eM eN gI gJ gL gM gN jT cW cX cA cU gK jS eO eP eQ gQ gR jU
variable{a:Int}
theorem Na(ha:Bd 1000000 a):gS prog 191 [W a] (.int .i64 (bR a)):=by
 intro w;refine⟨bO func191 (by kernel_rfl),?_⟩;have m:=Mem.refl w
 go_enter func191,ntmps191
 apply nM 10 [0,0] m;simp only[↓aD,jC];intro g1 u m;refine bB O O (On _ (qJ ha)) ?_;rintro v u e_ ⟨A1,c1,rfl,hN1⟩;replace m:=m.ext' e_;simp only[zz];rw[oE] at hN1 ⊢;apply aM 4 [0,0] m;simp only[↓aD,jW];refine bK O ?_ ?_<;>intro hc1
 ·
  have h0:=afj.1 hc1;apply aL 5 [] m;simp only[↓aD];refine aY O O ?_;try simp only[zD,zE]
  exact⟨_,O,m.ext,by rw[h0];rfl⟩
 ·
  apply aL 6 [0,0] m;simp only[↓aD,rT,Tl,aa];refine lV O ?_ ?_<;>intro hc2
  ·
   have hn:=Ll hc2;apply aL 5 [] m;simp only[↓aD];refine aY O O ?_;try simp only[zD,zE]
   exact⟨_,O,m.ext,by rw[Xa hn]⟩
  ·
   have hn:=Rf hc2;have h0:¬a=0:=fun e=>hc1 (afj.2 e);apply aL 7 [] m;simp only[↓aD];refine aY O O ?_;try simp only[zD,zE]
   exact⟨_,O,m.ext,by rw[Xb (by omega)]⟩
theorem ate(ha:Bd 1000000 a):gS prog 267 [W a] (W (-a)):=by
 intro w;refine⟨bO func267 (by kernel_rfl),?_⟩;have m:=Mem.refl w
 go_enter func267,ntmps267
 apply nM 6 [0] m;simp only[↓aD,sF];intro g1 g2 u m;refine mh m [false,true] [(2,true),(0,true),(3,true),(4,true),(1,false),(5,false),(6,false)] aF (by kernel_rfl) (cB (fun _ _ _ _ _ h=>h)) (ol:=?_) ?hol ?_
 case hol=>simp only[zw,zQ,zR];try rfl
 intro u m;refine Oc 4 [0,0] ?_;simp only[↓aD,rT,jC,Tl,aa];refine cG (bB O O (On _ (qJ ha)) ?_);rintro v u e_ ⟨A1,c1,rfl,hN1⟩;replace m:=m.ext' e_;simp only[zz];rw[oE] at hN1 ⊢;refine aI ⟨m.sel [false,true],?_⟩;refine cG (bB O O (Em _ hN1 (aw (Cx ha) (by decide))) ?_);rintro v u e_ rfl;replace m:=m.ext' e_;simp only[zz];simp only[cO];refine aI ⟨m.sel [false,true],?_⟩;refine cG (cL m 0 O O O aW (jO O) O ?_);intro u m;simp only[zy,zx,bQ,zF,zG,aa] at m;refine aI ⟨m.sel [false,true],?_⟩;refine bY ?_;rw[am1] at m;apply bF 1 [] m;simp only[↓aD];exact aY O ⟨_,O,((m.b 0 O).full dU aW)⟩ ⟨_,O,m.ext,O⟩
theorem Uf{b:Int}(ha:Bd 1000000 a)(hb:Bd 1000000 b):gS prog 121 [W a,W b] (W (a+b)):=by
 intro w;refine⟨bO func121 (by kernel_rfl),?_⟩;have m:=Mem.refl w;have hla:=Cx ha;have hlb:=Cx hb;have hls:=Cx (Bd.add ha hb)
 go_enter func121,ntmps121
 apply nM 7 [0] m;simp only[↓aD,sF];intro g1 g2 g3 u m;refine mh m [true,true,true] [(0,true),(2,true),(1,false),(3,false),(4,true),(5,true)] aF (by kernel_rfl) (cB (fun _ _ _ _ _ h=>h)) (ol:=?_) ?hol ?_
 case hol=>simp only[zw,zQ,zR];try rfl
 intro u m;refine Oc 2 [2,1] ?_;simp only[↓aD,jC];refine cG (bB O O (On _ (qJ ha)) ?_);rintro v u e_ ⟨A1,c1,rfl,hN1⟩;replace m:=m.ext' e_;simp only[zz];rw[oE] at hN1 ⊢;refine aI ⟨m,?_⟩;refine cG (bB O O (On _ (qJ hb)) ?_);rintro v u e_ ⟨A2,c2,rfl,hN2⟩;replace m:=m.ext' e_;replace hN1:=hN1.ext e_;simp only[zz];rw[oE] at hN2 ⊢;refine aI ⟨m,?_⟩;refine cF aJ (cF aJ (bY ?_));apply bF 8 [2,1,0] m;simp only[↓aD,rT,Tl,aa];refine aB (adv adN O O) ?_;apply aM 2 [0] m;simp only[↓aD];refine bK O ?_ ?_<;>intro hc1
 ·
  apply aL 1 [0] m;simp only[↓aD];refine mhe m [false,true,true] [(0,true),(1,true),(3,true),(4,true),(2,false),(5,false),(6,false)] aF (by kernel_rfl) (cB (fun _ _ _ _ _ h=>h)) (ol:=?_) ?hol ?_
  case hol=>simp only[zw,zQ,zR];try rfl
  intro u e_ m;replace hN1:=hN1.ext e_;replace hN2:=hN2.ext e_;refine Oc 4 [1] ?_;simp only[↓aD,rT,Tl,aa];refine cG (bB O O (apt _ hN1 hN2 (aw hla (by decide)) (aw hlb (by decide))) ?_);rintro v u e_ ⟨A3,c3,rfl,hN3⟩;replace m:=m.ext' e_;refine aI ⟨m.sel [false,true,true],?_⟩;refine cG ?_;simp only[zz];simp only[cO] at hN3 ⊢;have hl3:(digs 4294967296 (a.natAbs+b.natAbs)).length≤100000000000:=aw (ag0 ha hb) (by decide);refine bB O O (Em _ hN3 hl3) ?_;rintro v u e_ rfl;replace m:=m.ext' e_;simp only[zz];simp only[cO];refine aI ⟨m.sel [false,true,true],?_⟩;refine cG (cL m 0 O O O aW (jO O) O ?_);intro u m;simp only[zy,zx,bQ,zF,zG,aa] at m;refine aI ⟨m.sel [false,true,true],?_⟩;refine bY ?_;rw[am2 hc1] at m;apply bF 1 [] m;simp only[↓aD];exact aY O ⟨_,O,((m.b 0 O).full dU aW)⟩ ⟨_,O,m.ext,O⟩
 ·
  apply aL 4 [0] m;simp only[↓aD];refine bB O O (af7 _ hN1 hN2 (iS _) (iS _)) ?_;rintro v u e_ rfl;replace m:=m.ext' e_;replace hN1:=hN1.ext e_;replace hN2:=hN2.ext e_;simp only[zz];simp only[cO];apply aM 3 [0,0] m;simp only[↓aD];refine bK O ?_ ?_<;>intro hc2
  ·
   have hlt:=Ah.1 hc2;apply aL 1 [0] m;simp only[↓aD];refine mhe m [false,true,true] [(0,true),(1,true),(3,true),(4,true),(2,false),(5,false),(6,false)] aF (by kernel_rfl) (cB (fun _ _ _ _ _ h=>h)) (ol:=?_) ?hol ?_
   case hol=>simp only[zw,zQ,zR];try rfl
   intro u e_ m;replace hN1:=hN1.ext e_;replace hN2:=hN2.ext e_;refine Oc 4 [0] ?_;simp only[↓aD,rT,Tl,aa];refine cG (bB O O (alf _ hN2 hN1 (Rg (pp hlt)) (by simp only[cO];omega) (aw hlb (by decide))) ?_);rintro v u e_ ⟨⟨A3,c3,rfl,hN3⟩,_⟩;replace m:=m.ext' e_;simp only[zz];simp only[cO] at hN3 ⊢;have hl3:=Rg (ra b.natAbs a.natAbs);refine aI ⟨m.sel [false,true,true],?_⟩;refine cG (bB O O (Em _ hN3 (aw hl3 (aw hlb (by decide)))) ?_);rintro v u e_ rfl;replace m:=m.ext' e_;simp only[zz];simp only[cO];refine aI ⟨m.sel [false,true,true],?_⟩;refine cG (cL m 0 O O O aW (jO O) O ?_);intro u m;simp only[zy,zx,bQ,zF,zG,aa] at m;refine aI ⟨m.sel [false,true,true],?_⟩;refine bY ?_;rw[apY hc1 hlt] at m;apply bF 1 [] m;simp only[↓aD];exact aY O ⟨_,O,((m.b 0 O).full dU aW)⟩ ⟨_,O,m.ext,O⟩
  ·
   have hge:b.natAbs≤a.natAbs:=gv fun h=>hc2 (Ah.2 h);apply aL 3 [0] m;simp only[↓aD];refine mhe m [false,true,true] [(0,true),(1,true),(3,true),(4,true),(2,false),(5,false),(6,false)] aF (by kernel_rfl) (cB (fun _ _ _ _ _ h=>h)) (ol:=?_) ?hol ?_
   case hol=>simp only[zw,zQ,zR];try rfl
   intro u e_ m;replace hN1:=hN1.ext e_;replace hN2:=hN2.ext e_;refine Oc 4 [1] ?_;simp only[↓aD,rT,Tl,aa];refine cG (bB O O (alf _ hN1 hN2 (Rg hge) (by simp only[cO];omega) (aw hla (by decide))) ?_);rintro v u e_ ⟨⟨A3,c3,rfl,hN3⟩,_⟩;replace m:=m.ext' e_;simp only[zz];simp only[cO] at hN3 ⊢;have hl3:=Rg (ra a.natAbs b.natAbs);refine aI ⟨m.sel [false,true,true],?_⟩;refine cG (bB O O (Em _ hN3 (aw hl3 (aw hla (by decide)))) ?_);rintro v u e_ rfl;replace m:=m.ext' e_;simp only[zz];simp only[cO];refine aI ⟨m.sel [false,true,true],?_⟩;refine cG (cL m 0 O O O aW (jO O) O ?_);intro u m;simp only[zy,zx,bQ,zF,zG,aa] at m;refine aI ⟨m.sel [false,true,true],?_⟩;refine bY ?_;rw[apZ hc1 hge] at m;apply bF 1 [] m;simp only[↓aD];exact aY O ⟨_,O,((m.b 0 O).full dU aW)⟩ ⟨_,O,m.ext,O⟩
theorem He{b:Int}(ha:Bd 1000000 a)(hb:Bd 1000000 b):gS prog 192 [W a,W b] (W (a-b)):=by
 intro w;refine⟨bO func192 (by kernel_rfl),?_⟩;have m:=Mem.refl w
 go_enter func192,ntmps192
 apply nM 7 [0] m;simp only[↓aD,sF];intro g1 g2 g3 u m;refine eB m 4 aF (by kernel_rfl) ?_;simp only[zy];refine ql O (fun u m=>((m.b 2 O).full dU aW)) ?_;simp only[zz];refine ql O (fun u m=>((m.b 1 O).full dU aW)) ?_;simp only[zz];refine kR O O (ate hb) ?_;simp only[zz];refine kR O O (Uf ha hb.neg) (bN ?_);intro u m;simp only[zz];refine cL m 0 O O O aW (jO O) O ?_;intro u m;simp only[zy,zx,bQ,zF,zG,aa] at m;refine aI ?_;rw[←Int.sub_eq_add_neg] at m;apply bF 1 [] m;simp only[↓aD];exact aY O ⟨_,O,((m.b 0 O).full dU aW)⟩ ⟨_,O,m.ext,O⟩
theorem uD{b:Int}(ha:Bd 1000000 a)(hb:Bd 1000000 b):gS prog 122 [W a,W b] (W (a*b)):=by
 intro w;refine⟨bO func122 (by kernel_rfl),?_⟩;have m:=Mem.refl w;have hla:=Cx ha;have hlb:=Cx hb;have hls:=Cx (Bd.mul ha hb)
 go_enter func122,ntmps122
 apply nM 7 [0] m;simp only[↓aD,sF];intro g1 g2 g3 u m;refine mh m [false,true,true] [(5,true),(7,true),(0,true),(2,true),(6,true),(8,true),(9,true),(1,false),(3,false),(4,false),(10,false),(11,false)] aF (by kernel_rfl) (cB (fun _ _ _ _ _ h=>h)) (ol:=?_) ?hol ?_
 case hol=>simp only[zw,zQ,zR];try rfl
 intro u m;refine Oc 6 [1,0,1,0] ?_;simp only[↓aD,rT,jC,Tl,aa];refine cF (apV adN O O) (cG ?_);simp only[zz];refine bB O O (On _ (qJ ha)) ?_;rintro v u e_ ⟨A1,c1,rfl,hN1⟩;replace m:=m.ext' e_;simp only[zz];rw[oE] at hN1 ⊢;refine aI ⟨m.sel [false,true,true],?_⟩;refine cG (bB O O (On _ (qJ hb)) ?_);rintro v u e_ ⟨A2,c2,rfl,hN2⟩;replace m:=m.ext' e_;replace hN1:=hN1.ext e_;simp only[zz];rw[oE] at hN2 ⊢;refine aI ⟨m.sel [false,true,true],?_⟩;refine cG (bB O O (alg _ hN1 hN2 (aw hla (by decide)) (aw hlb (by decide))) ?_);rintro v u e_ ⟨A3,c3,rfl,hN3⟩;replace m:=m.ext' e_;simp only[zz];simp only[cO] at hN3 ⊢;rw[←Int.natAbs_mul] at hN3 ⊢;refine aI ⟨m.sel [false,true,true],?_⟩;refine cG (bB O O (Em _ hN3 (aw hls (by decide))) ?_);rintro v u e_ rfl;replace m:=m.ext' e_;simp only[zz];simp only[cO];refine aI ⟨m.sel [false,true,true],?_⟩;refine cG (cL m 0 O O O aW (jO O) O ?_);intro u m;simp only[zy,zx,bQ,zF,zG,aa] at m;refine aI ⟨m.sel [false,true,true],?_⟩;refine bY ?_;rw[Int.natAbs_mul,am3] at m;apply bF 1 [] m;simp only[↓aD];exact aY O ⟨_,O,((m.b 0 O).full dU aW)⟩ ⟨_,O,m.ext,O⟩
theorem atf{b:Int}(ha:Bd 900000 a)(hb:Bd 900000 b):gS prog 126 [W a,W b] (.int .i64 (bR (a-b))):=by
 intro w;refine⟨bO func126 (by kernel_rfl),?_⟩;have m:=Mem.refl w
 go_enter func126,ntmps126
 apply nM 10 [1,0,0] m;simp only[↓aD,jC];intro g1 g2 u m;refine oP m O O (He (ha.mono (by decide)) (hb.mono (by decide))) ?_;intro u m;simp only[zz];refine wQ m O O (Na ((Bd.sub ha hb).mono (by decide))) 3 [] ?_;simp only[↓aD];intro u m;exact aY O O ⟨_,O,m.ext,O⟩
theorem qG{n:Int}(h:pV n):gS prog 118 [.int .i64 n] (W n):=by
 intro w;refine⟨bO func118 (by kernel_rfl),?_⟩;have m:=Mem.refl w;have hna:=h.natAbs
 go_enter func118,ntmps118
 apply nM 5 [] m;simp only[↓aD,sF];intro g1 u m;rcases (show n<0∨0≤n by omega) with h0 | h0
 ·
  apply bF 2 [0] m;simp only[↓aD];refine aB (lT nH iY O (am4 h h0)) ?_;apply aM 11 [1,0] m;simp only[↓aD];refine⟨by omega,?_⟩;refine aB (vT O (ag1 hna (by omega))) ?_;apply aM 5 [0] m;simp only[↓aD];refine aB (yD O O (Pm (by omega))) ?_;apply aM 1 [0] m;simp only[↓aD];refine aB (oW O O (by omega) Zr) ?_;simp only[zz];refine abz bC (z:=.int .u64 0) (by kernel_rfl) O O O O O ?_;intro u g2 e_ h_ k_;replace m:=m.newB e_ h_ k_;apply aM 2 [1,0] m;simp only[↓aD];refine⟨by omega,?_⟩;refine dH m O O (Em _ ((m.b 0 O).nat (os:=[n.natAbs%4294967296,n.natAbs / 4294967296]) (Rh (by omega)) O (by omega)) (by simp)) ?_;rintro v u m rfl;apply iH 3 [1] m;simp only[↓aD,jC,aa];intro u m;refine aY O ⟨_,O,((m.b 1 O).full dU aW)⟩ ?_;try simp only[zD,zE]
  exact⟨_,O,m.ext,by rw[Xc,show true=fM n from (decide_eq_true h0).symm,abH];rfl⟩
 ·
  apply bF 2 [0] m;simp only[↓aD];refine aB (lT nH iY O (ap0 h h0)) ?_;apply aM 13 [2,0] m;simp only[↓aD];refine⟨by omega,?_⟩;refine aB (yD O O (Pm (by omega))) ?_;apply aM 1 [0] m;simp only[↓aD];refine aB (oW O O (by omega) Zr) ?_;simp only[zz];refine abz bC (z:=.int .u64 0) (by kernel_rfl) O O O O O ?_;intro u g2 e_ h_ k_;replace m:=m.newB e_ h_ k_;apply aM 2 [2,0] m;simp only[↓aD];refine⟨by omega,?_⟩;refine dH m O O (Em _ ((m.b 0 O).nat (os:=[n.natAbs%4294967296,n.natAbs / 4294967296]) (Rh (by omega)) O (by omega)) (by simp)) ?_;rintro v u m rfl;apply iH 3 [1] m;simp only[↓aD,jC,aa];intro u m;refine aY O ⟨_,O,((m.b 1 O).full dU aW)⟩ ?_;try simp only[zD,zE]
  exact⟨_,O,m.ext,by rw[Xc,show false=fM n from (decide_eq_false (by omega)).symm,abH];rfl⟩
end Go.Proofs.YtfekpcimgncioaaGreatDoor
namespace Go.Proofs.YtfekpcimgncioaaGreatDoor
open Go.Proofs.Tryz
open Go.RowKit Go.Lith
set_option maxRecDepth 100000
attribute [local irreducible] au cq eF Code.wp
theorem ahS{K n R Y M:Nat}(hM:M=4294967296^(K+1))(hRM:R<M)(hy:Y<4294967296^n):(digs 4294967296 (R+Y)).length≤K+1+n+1:=fF (by omega) (ap1 (hM▸hRM) hy)
theorem are{a:Int}(ha:Bd 1000000 a)(h0:0≤a):gS prog 157 [W a] (.tuple #[W (fB a.natAbs:Int),.bool true]):=by
 intro w;refine⟨bO func157 (by kernel_rfl),?_⟩;have hX:=dY.refl w;have hla:=Cx ha;obtain⟨X,hXa⟩:∃X,X=a.natAbs:=⟨_,rfl⟩
 obtain⟨K,hK⟩:∃K,K=((digs 4294967296 X).length+1) / 2:=⟨_,rfl⟩
 rw[←hXa] at hla;obtain⟨M,hM⟩:∃M,M=4294967296^(K+1):=⟨_,rfl⟩
 have hlen:∀V:Nat,V<M→(digs 4294967296 V).length≤1000001:=fun V h=>aw (fF (by omega) (by rw[←hM];exact h)) (by omega);have hXd:X<4294967296^(digs 4294967296 X).length:=by have:=lW (mJ X);rwa [cO] at this
 have hst:=adE hXd;rw[←hK] at hst;have hMK:4294967296^K<M:=by rw[hM];exact Nat.pow_lt_pow_right (by omega) (by omega)
 have hp0:0<4294967296^K:=j_ (by omega);obtain⟨R0,hR0⟩:∃R0,R0=4294967296^K:=⟨_,rfl⟩
 rw[←hR0] at hst hMK hp0;rw[←hXa]
 go_enter func157,ntmps157
 refine aT (fun K1 hK1=>aj ?_);refine aff (by simp only[zz];rfl) ?_;intro w1 g1 hE hg1 hB1;have hG1:=aw hX.size hg1;replace hX:=hX.trans hE;clear hE;simp only[zz];refine Ab Jq O ?_;intro w2 g2 hE hg2 hB2;have hG2:=aw hX.size hg2;have hN2_1:g2≠g1:=il (cw hB1.lt hg2);have hL2_1:=cw hB1.lt hg2;replace hB1:=hB1.ext hE;replace hX:=hX.trans hE;clear hE;simp only[zz];refine aB aJ ?_;simp only[zz];refine aI (hK1 _ _ ?_);refine aT (fun K2 hK2=>aj ?_);refine aQ O (hB1.lies dU aW O O) ?_;simp only[zz];refine bB O O (On _ (qJ ha)) ?_;rintro v w3 hE ⟨A1,c1,rfl,hN1⟩;replace hB1:=hB1.ext hE;replace hB2:=hB2.ext hE;replace hX:=hX.trans hE;clear hE;rw[oE,←hXa] at hN1 ⊢;simp only[zz];refine aB aJ ?_;simp only[zz];refine aI (hK2 _ _ ?_);refine aT (fun K3 hK3=>aT (fun K4 hK4=>?_));rcases ff X with hX0 | hX0
 ·
  subst hX0;refine aj (aB aC (aB (jD O bC O) (aB (aiL O O (by rfl)) ?_)));simp only[zz];refine aI (hK4 _ _ ?_);refine wV O (aT (fun K5 hK5=>aj (aB abY ?_)));simp only[zz];refine kY O (by simp only[zz];rfl) (by exact aW) hB2 (by simp) (by simp[ie]) ?_;clear hB2;intro w4 hC hB2;replace hX:=hX.chg hC hG2;clear hC;simp only[zy,zx,bQ,aa] at hB2;refine aB aJ ?_;simp only[zz];refine aI (hK5 _ _ ?_);refine ik ?_;try simp only[bu,Exit.then]
  refine nP O ⟨_,O,(hB2.lies dU aW O O)⟩ O ?_;try simp only[zD,zE]
  exact⟨_,O,hX,O⟩
 ·
  refine aj (aB aC (aB (jD O bC O) (aB (apP O O (fun e=>by have h1:=(wX (B:=4294967296) (by omega)).1 (eo (show (digs 4294967296 X).length=0 by omega));omega)) ?_)));simp only[zz];refine aI (hK4 _ _ ?_);refine Zk O (g_ ?_);refine hK3 _ _ (aT (fun K6 hK6=>aT (fun K7 hK7=>aj (aB (bD (c:=0) underlying95 O tG O O) ?_))));simp only[zz];refine aQ O (hB1.lies1 Jp O) ?_;simp only[zz];refine aI (hK7 _ _ ?_);refine lV O ?_ ?_<;>intro hc2
  ·
   exact absurd (Ll hc2) (by omega)
  ·
   refine g_ ?_;refine hK6 _ _ (aT (fun K8 hK8=>aj (aB aC (aB (jD O bC O) (aB (fH O O (bH (by omega) (by omega))) ?_)))));simp only[zz];refine aB (mV O O (by omega) ((Pp (m:=(digs 4294967296 X).length+1) (n:=2) (by omega)).trans (congrArg (fun q:Nat=>(q:Int)) hK.symm))) ?_;simp only[zz];have hN0:=hN1;have hE0:=dY.refl_of hB1;refine qY bC pP O O O (show _=K by omega) (show _=K by omega) (by omega) (by omega) (by omega) (by omega) ?_;intro w4 g3 hE hg3 hB3;have hG3:=aw hX.size hg3;have hN3_1:g3≠g1:=il (cw hB1.lt hg3);have hN3_2:g3≠g2:=il (cw hB2.lt hg3);have hL3_1:=cw hB1.lt hg3;have hL3_2:=cw hB2.lt hg3;replace hB1:=hB1.ext hE;replace hB2:=hB2.ext hE;(try replace hE0:=hE0.ext hE);replace hX:=hX.trans hE;clear hE;simp only[zz];refine Jf bC (z:=.int .u64 0) (by kernel_rfl) O (by simp only[zz];rfl) (by rfl) ?_;intro w5 g4 hE hg4 hB4;have hG4:=aw hX.size hg4;have hN4_1:g4≠g1:=il (cw hB1.lt hg4);have hN4_2:g4≠g2:=il (cw hB2.lt hg4);have hN4_3:g4≠g3:=il (cw hB3.lt hg4);have hL4_1:=cw hB1.lt hg4;have hL4_2:=cw hB2.lt hg4;have hL4_3:=cw hB3.lt hg4;replace hB2:=hB2.ext hE;replace hB3:=hB3.ext hE;(try replace hE0:=hE0.ext hE);replace hX:=hX.trans hE;clear hE;simp only[zz];refine abu O bC pP O (by decide) O (Oz.full (base:=g3) hB3 (av _) (by simp) (by omega)) O (news:=[mX 1]) O (hB4.row 0) (by simp[ie]) (by omega) (by omega) (pp hB3.lt) ?_;intro v1 w9 hO hGr _;replace hX:=hX.grown hGr hG3;replace hB2:=hB2.grew hGr hL3_2;replace hN1:=hN0.grew hE0 hGr hg3;obtain⟨A5,c5,rfl,hN5⟩:=dF.of_owns (xs:=cl K 0++[1]) (by have h:=hO;rw[iP] at h;rw[cz];exact h) (by simp) (by rw[Xe];exact mJ _) (by omega);rw[Xe,←hR0] at hN5;have hl5:=hN5.eq;rw[hl5] at hN5 ⊢;clear hB3 hB4;simp only[zz];refine aB aJ ?_;simp only[zz];refine aI (hK8 _ _ ?_);refine gh (vB [5] [3,6,7,8,9,26,27,28,29,30,31,32,33,34,35,36,37,38,39,40,41,42,43,44,45] (fun n vs wl=>∃(R:Nat) (A5:Option Addr) (c5:Nat),vs=[.slice A5 (digs 4294967296 R).length c5]∧(dY w wl)∧(fE wl g2 [.bool false,.string ⟨#[]⟩] 95)∧(dF wl A1 (digs 4294967296 X).length c1 (digs 4294967296 X))∧(dF wl A5 (digs 4294967296 R).length c5 (digs 4294967296 R))∧(0<R)∧(X<(R+1)*(R+1))∧(R<M)∧(n=R)) ?_ ?_)
   ·
    apply Exists.intro;simp only[zQ,zR,zD,zE];exact⟨R0,A5,c5,O,hX,hB2,hN1,hN5,hp0,hst,hMK,O⟩
   ·
    intro n vs wr hI u;obtain⟨R,A5,c5,rfl,hX,hB2,hN1,hN5,hp1,hRx,hRM,hn⟩:=hI;simp only[zu,zF,zG];refine gh (aT (fun K9 hK9=>aj (aB aC (aB aC ?_))));simp only[zz];refine bB O O (atd _ hN1 hN5 (iS _) (iS _) (by rw[cO];exact hp1) (by omega) (aw (hlen _ hRM) (by decide))) ?_;rintro v w6 hE ⟨_,_,rfl,⟨A3,c3,rfl,hN3⟩,⟨A4,c4,rfl,hN4⟩⟩;replace hB2:=hB2.ext hE;(try replace hN1:=hN1.ext hE);(try replace hN5:=hN5.ext hE);replace hX:=hX.trans hE;clear hE;simp only[cO] at hN3 hN4 ⊢;have hl3:=Rg (lf X R);simp only[zz];refine aB aC (aB (dD O O) (aB (dD O O) ?_));simp only[zz];refine aB aJ (aB aJ ?_);simp only[zz];refine aI (hK9 _ _ ?_);refine aT (fun K10 hK10=>aj (aB aC (aB aC ?_)));simp only[zz];refine bB O O (apt _ hN5 hN3 (aw (hlen _ hRM) (by decide)) (by omega)) ?_;rintro v w7 hE ⟨A6,c6,rfl,hN6⟩;replace hB2:=hB2.ext hE;(try replace hN1:=hN1.ext hE);(try replace hN5:=hN5.ext hE);replace hX:=hX.trans hE;clear hE;simp only[cO] at hN6 ⊢;simp only[zz];have hl6:(digs 4294967296 (R+X / R)).length≤1099511627776:=by
     have h1:=lW (mJ X);rw[cO] at h1;have h2:X / R≤X:=lf _ _;exact aw (ahS hM hRM (ib h2 h1)) (by omega)
    refine bB O O (af8 (d:=2) _ hN6 hl6 (by omega) (by omega)) ?_;rintro v w8 hE ⟨q,rfl,A7,c7,rfl,hN7⟩;replace hB2:=hB2.ext hE;(try replace hN1:=hN1.ext hE);(try replace hN5:=hN5.ext hE);replace hX:=hX.trans hE;clear hE;simp only[cO] at hN7 ⊢;simp only[zz];refine aB aC (aB (dD O O) (aB (dD O O) ?_));simp only[zz];refine aB aJ (aB aJ ?_);simp only[zz];refine aI (hK10 _ _ ?_);refine aT (fun K11 hK11=>aT (fun K12 hK12=>aj (aB aC (aB aC ?_))));simp only[zz];refine bB O O (af7 _ hN7 hN5 (iS _) (iS _)) ?_;rintro v w9 hE rfl;replace hB2:=hB2.ext hE;(try replace hN1:=hN1.ext hE);(try replace hN5:=hN5.ext hE);(try replace hN7:=hN7.ext hE);replace hX:=hX.trans hE;clear hE;simp only[cO];simp only[zz];refine aB (Qs O O) ?_;simp only[zz];refine aI (hK12 _ _ ?_);refine bK O ?_ ?_<;>intro hc3
    ·
     have hge:=Ri.1 hc3;have hres:=ag3 hp1 hRx hge;refine aT (fun K13 hK13=>aj (aB aC ?_));simp only[zz];refine bB O O (Em _ hN5 (aw (hlen _ hRM) (by decide))) ?_;rintro v w10 hE rfl;replace hB2:=hB2.ext hE;replace hX:=hX.trans hE;clear hE;simp only[cO];simp only[zz];refine kY O (by simp only[zz];rfl) (by exact aW) hB2 (by simp) (by simp[ie]) ?_;clear hB2;intro w11 hC hB2;replace hX:=hX.chg hC hG2;clear hC;simp only[zy,zx,bQ,aa] at hB2;refine aB aJ ?_;simp only[zz];refine aI (hK13 _ _ ?_);refine ik ?_;try simp only[bu,Exit.then]
     refine nP O ⟨_,O,(hB2.lies dU aW O O)⟩ O ?_;try simp only[zD,zE]
     exact⟨_,O,hX,by rw[←hres,vJ];rfl⟩
    ·
     have hlt:¬R≤(R+X / R) / 2:=fun h=>hc3 (Ri.2 h);refine g_ (hK11 _ _ ?_);refine aj (aB aC (aB aJ ?_));simp only[zz];refine aI ?_;simp only[bu,Exit.then];refine⟨(R+X / R) / 2,_,?_,O,?_,?_⟩
     · rw[hn];exact Xd hlt
     · simp only[zz,zv]
     ·
      simp only[zQ,zR,zD,zE];exact⟨(R+X / R) / 2,A7,c7,O,hX,hB2,hN1,hN7,ai7 hp1 hRx hX0,ag2 hp1,Nat.lt_trans (Xd hlt) hRM,O⟩
end Go.Proofs.YtfekpcimgncioaaGreatDoor
namespace Go.Proofs.YtfekpcimgncioaaGreatDoor
open Go.Proofs.Tryz
open Go.RowKit Go.Lith
set_option maxRecDepth 100000
attribute [local irreducible] au cq eF bJ cD Code.wp
attribute [local congr] oG fS fT fU fV fW jR fX fY fZ gA gB gC gD gE gF gG gH eM eN gI gJ gL gM gN jT cW cX cA cU gK jS eO eP eQ gQ gR jU
theorem atg{X k:Nat}(hk:k<(digs 4294967296 X).length)(h2:(digs 4294967296 X).length≤2):IntKind.u64.wrap ((dw IntKind.u64.bits ((val 4294967296 ((digs 4294967296 X).take k):Nat):Int) ||| dw IntKind.u64.bits (((digs 4294967296 X)[k]*4294967296^k:Nat):Int)).toNat:Int)=((val 4294967296 ((digs 4294967296 X).take (k+1)):Nat):Int):=by
 have hd:=mJ X;have h1:=lW (fun x hx=>hd x (List.mem_of_mem_take hx):dV 4294967296 ((digs 4294967296 X).take k));rw[bx,dx (by omega)] at h1;rw[at5 h1 (hd _ (fl hk)) (by omega),dS hk,iy]
theorem aof{X:Nat}(hl:(digs 4294967296 X).length≤2):X<18446744073709551616:=by
 have h:=lW (mJ X);rw[cO] at h;have h3:4294967296^(digs 4294967296 X).length≤4294967296^2:=Nat.pow_le_pow_right (by omega) hl;omega
theorem arf{a:Int}(ha:Bd 1000000 a):gS prog 158 [W a] (.tuple #[.int .i64 (ahz a),.bool (decide (pV a))]):=by
 intro w;refine⟨bO func158 (by kernel_rfl),?_⟩;have m:=Mem.refl w;obtain⟨X,hXa⟩:∃X,X=a.natAbs:=⟨_,rfl⟩
 go_enter func158,ntmps158
 apply nM 9 [0,0] m;simp only[↓aD,jC];intro g1 u m;refine dH m O O (On _ (qJ ha)) ?_;rintro v u m ⟨A1,c1,rfl,hN1⟩;simp only[zz];rw[oE,←hXa] at hN1;rw[oE,←hXa];have hx1:=m.ext;apply aM 9 [0,0] m;simp only[↓aD,jW];refine bK O ?_ ?_<;>intro hc1
 ·
  have hbig:¬pV a:=ale hXa (by omega);apply aL 6 [] m;simp only[↓aD];exact nP O O O ⟨_,O,m.ext,aei hbig⟩
 ·
  have hl2:(digs 4294967296 X).length≤2:=by omega
  have hX64:=aof hl2;apply aL 13 [0] m;simp only[↓aD,jW];refine cP [5,15] [6,7,16,17,18,19,20,21,22,23,24,25,26] (fun n vs wl=>∃(k:Nat),vs=[.int .u64 ((val 4294967296 ((digs 4294967296 X).take k):Nat):Int),.int .i64 (k:Int)]∧Mem w wl [bI g1 [.bool (fM a),.string (kA a)] 95]∧(dF wl A1 (digs 4294967296 X).length c1 (digs 4294967296 X))∧(k≤(digs 4294967296 X).length)∧(n=(digs 4294967296 X).length-k)) ?_ ?_
  ·
   exact⟨_,0,O,m,hN1,bw _,O⟩
  ·
   intro n vs wr hI u K1 hK1;obtain⟨k,rfl,m,hN1,hk,hn⟩:=hI;simp only[zu,zF,zG];apply aL 5 [0,0] m;simp only[↓aD];refine bK O ?_ ?_<;>intro hc2
   ·
    have hkl:k<(digs 4294967296 X).length:=by omega
    obtain⟨p,rfl,hca,hlt⟩:=hN1.get hkl;apply aL 6 [0] m;simp only[↓aD];refine aB (aG bC aV O O (by omega) (by omega) (rB (ai _))) ?_;simp only[zz];refine aQ O (lies1 hca fL) ?_;simp only[zz];apply aM 8 [0] m;simp only[↓aD];refine⟨by omega,?_⟩;refine aB (Ns O O (by omega) (atc hlt (by omega))) (aB (abq O O (atg hkl hl2)) ?_);apply aM 7 [0] m;simp only[↓aD];refine⟨by omega,?_⟩;exact hK1 ((digs 4294967296 X).length-(k+1)) _ _ (by omega) (by kernel_rfl) ⟨k+1,O,m,hN1,by omega,O⟩
   ·
    obtain rfl:k=(digs 4294967296 X).length:=by omega
    rw[fa,cO];apply aL 4 [] m;simp only[↓aD];rcases ahA hXa with ⟨h1,h2,h3,h4⟩ | ⟨h1,h2,h3⟩ | ⟨h1,h2,h3⟩ | ⟨h1,h2,h3,h4⟩
    ·
     rw[h1] at m;apply bF 13 [0,1,0] m;simp only[↓aD,rT,Tl,aa];refine⟨by omega,?_⟩;refine aB (vT O O) (aB (lT iY nH O (ake h2)) ?_);apply aM 4 [] m;simp only[↓aD];exact nP O O O ⟨_,O,m.ext,afO h3 h4.symm⟩
    ·
     rw[h1] at m;apply bF 23 [0,2,1] m;simp only[↓aD,rT,Tl,aa];refine⟨by omega,?_⟩;exact nP O O O ⟨_,O,m.ext,aei h3⟩
    ·
     rw[h1] at m;apply bF 23 [0,1] m;simp only[↓aD,rT,Tl,aa];refine⟨by omega,?_⟩;exact nP O O O ⟨_,O,m.ext,aei h3⟩
    ·
     rw[h1] at m;apply bF 22 [0,2,0] m;simp only[↓aD,rT,Tl,aa];refine⟨by omega,?_⟩;refine aB (lT iY nH O (bH (by omega) (by omega))) ?_;apply aM 4 [] m;simp only[↓aD];exact nP O O O ⟨_,O,m.ext,afO h3 h4.symm⟩
end Go.Proofs.YtfekpcimgncioaaGreatDoor
namespace Go.Lith
open Go.RowKit Go.ChangeMaps Go.MapKept
def En(is:List It):It where
 own b:=∃i∈is,i.own b
 P w:=(∀i∈is,i.P w)∧is.Pairwise Ap
 lt w b h e:=by obtain⟨i,hi,ho⟩:=e;exact i.lt w b (h.1 i hi) ho
 st w w' h s k:=⟨fun i hi=>i.st w w' (h.1 i hi) s fun b hb=>k b ⟨i,hi,hb⟩,h.2⟩
section
variable {w0 w:am} {a is:List It}
theorem Mem.pack(a:List It)(m:Mem w0 w (a++is)):Mem w0 w (a++[En is]):=by
 have h:=gu.1 m.nd;refine⟨m.ext,fun i hi=>?_,fun i hi b hb=>?_,gu.2 ⟨h.1,List.pairwise_singleton _ _,fun x hx y hy b h1 h2=>?_⟩⟩
 · rcases br.1 hi with hi | hi
   · exact m.all i (gd _ hi)
   · obtain rfl:=bg.1 hi
     exact⟨fun i hi=>m.all i (gj _ hi),h.2.1⟩
 · rcases br.1 hi with hi | hi
   · exact m.ge i (gd _ hi) b hb
   · obtain rfl:=bg.1 hi
     obtain⟨j,hj,hb⟩:=hb;exact m.ge j (gj _ hj) b hb
 · obtain rfl:=bg.1 hy
   obtain⟨j,hj,hb⟩:=h2;exact h.2.2 x hx j hj b h1 hb
theorem Mem.unpack(a:List It)(m:Mem w0 w (a++[En is])):Mem w0 w (a++is):=by
 have h:=gu.1 m.nd;have hP:(∀i∈is,i.P w)∧is.Pairwise Ap:=m.all _ (gj _ (jt _));refine⟨m.ext,fun i hi=>?_,fun i hi b hb=>?_,gu.2 ⟨h.1,hP.2,fun x hx y hy b h1 h2=>?_⟩⟩
 · rcases br.1 hi with hi | hi
   · exact m.all i (gd _ hi)
   · exact hP.1 i hi
 · rcases br.1 hi with hi | hi
   · exact m.ge i (gd _ hi) b hb
   · exact m.ge _ (gj _ (jt _)) b ⟨i,hi,hb⟩
 · exact h.2.2 x hx _ (jt _) b h1 ⟨y,hy,h2⟩
end
def xN(P:Program)(f:FuncId)(args:List ak)(w:am)(R:ak→am→Prop):Prop :=
 Entr P f∧Calls P f args.toArray w fun e w'=>∃v,e=.returned v∧R v w'
theorem xN.mono{P:Program}{f:FuncId}{args:List ak}{w:am}{R R':ak→am→Prop}(h:xN P f args w R)(hr:∀v w',R v w'→R' v w'):xN P f args w R' :=
 ⟨h.1,h.2.mono fun _ _ ⟨v,he,hR⟩=>⟨v,he,hr _ _ hR⟩⟩
section
variable {P:Program} {ds:List Deferred} {l:List ak} {ty:TypeId} {w:am}
variable {ops:Array Oper} {Q:Exit→Act→am→Prop} {rest:List Oper} {d:Nat} {pos:String} {after:Array Edge}
theorem lS{f:FuncId}{fo:Operand}{xs:Array Operand}{args:List ak}{first cap:Array ak}{a0:Array TypeId}{R:ak→am→Prop}(hf:ev l fo=.func (.func f) first cap)(hxs:first.toList++xs.toList.map (ev l)++cap.toList=args)(hc:xN P f args w R)
 (h:∀v u,R v u→au P ops Q rest (Fr (l.set d v) ds) u):au P ops Q (Oper.mk (some d) (.call { callee:=.value fo,args:=xs,argTypes:=a0 }) ty pos after none::rest) (Fr l ds) w:=by
 refine wpList_plain O fun K hK=>?_;unfold Oper.wp;rw[iZ,oX hc.1 hf hxs _ rfl];refine hc.2.mono ?_;rintro e w' ⟨v,rfl,hR⟩;show K ((Fr l ds).put (some d) v) w'
 rw[gY];exact hK _ _ (h v w' hR)
end
end Go.Lith
