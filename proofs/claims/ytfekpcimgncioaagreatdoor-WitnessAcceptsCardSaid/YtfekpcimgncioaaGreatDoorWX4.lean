/-
 Texts of one claim, laid together: Fa3, Rchk, Rchk2, Guard2, V1, V2, Cmp, Grow2, SortPt, Maps1, W1, Bag, W2, Ent, W3, Maps2.
-/
import Derived.Shelf.SlLaysF0
import Derived.Test.YtfekpcimgncioaaGreatDoorProg
import Derived.Test.YtfekpcimgncioaaGreatDoorWX3
open Nat renaming reduceAdd→aa,reduceMul→ah,zero_add→ap,le_refl→av,le_trans→aw,zero_le→bw,min_eq_left→dx,add_sub_cancel→eh,lt_succ_self→et
open Int renaming reduceToNat→ag,toNat_natCast→ai,reduceAdd→an
open Go renaming wp_region_lit→aj,Value→ak,World→am,wpList→au,TypeId→ay,Program→bz,Operand→cd,MapEntry→cg,run_underlying→cj,wpQuiet→cq,execOp→da,Deferred→dl,wp_block→gh,wp_skip→g_,wp_ret→ik
open List renaming mem_cons→ao,getElem?_eq_getElem→ar,getElem?_eq_some_iff→ax,length_cons→az,length_append→a_,flatMap_append→be,take_of_length_le→bf,mem_singleton→bg,mem_append→br,not_mem_nil→bt,nil_append→bv,length_take→bx,length_nil→b_,cons_append→cn,map_append→cz,append_assoc→dh,drop_eq_getElem_cons→el,take_length→fa,length_filter_le→fu,filter_append→fx,length_drop→ip,take_succ_cons→jx
open Go.Value renaming bool→ba
open Go.Oper renaming mk→bp
open Go.Exit renaming inBlock→bu
open Option renaming getD_some→de,map_some→ew
open Array renaming getElem?_eq_some_iff→dj,getElem?_modify→kg,ext_getElem?→lv
open Prod.mk renaming injEq→fc
open Option.some renaming inj→fh,injEq→fw
open Bool renaming not_false→jv
set_option maxHeartbeats 8000000
set_option linter.unusedSimpArgs false
set_option linter.unusedVariables false
set_option linter.unusedSectionVars false
namespace Go.Proofs.YtfekpcimgncioaaGreatDoor
open Go.Proofs.Tryz
open Go.RowKit Go.Lith
abbrev akB:=@underlying141
abbrev Cg:=@underlying22
abbrev Mr:=@underlying284
abbrev qB:=@underlying285
abbrev asZ:=@underlying5
set_option maxRecDepth 100000
theorem eW:sS prog 3=some (false,1):=by kernel_rfl
theorem at3:Jv prog 3=some [.int .i64 0]:=by kernel_rfl
theorem acw:ikP prog 3=some .i64:=by kernel_rfl
theorem Tl:sS prog 4=some (false,1):=by kernel_rfl
theorem Gk:ikP prog 5=some .u8:=by kernel_rfl
theorem anT:sS prog 9=some (false,1):=by kernel_rfl
theorem as0:sS prog 22=some (false,1):=by kernel_rfl
theorem apm:Hn prog 22=some 3:=by kernel_rfl
theorem Yr:sS prog 26=some (false,1):=by kernel_rfl
theorem Tm:sS prog 27=some (false,1):=by kernel_rfl
theorem mC:Hn prog 27=some 39:=by kernel_rfl
theorem aS:sS prog 30=some (true,3):=by kernel_rfl
theorem dN:Jv prog 30=some [.int .i64 0,.int .i64 0,.int .i64 0]:=by kernel_rfl
theorem jI:lQ prog 30 0=some (0,false,1):=by kernel_rfl
theorem jJ:lQ prog 30 1=some (1,false,1):=by kernel_rfl
theorem kJ:lQ prog 30 2=some (2,false,1):=by kernel_rfl
theorem xJ:Az prog 30=some ([(0,1),(1,1),(2,1)],[.int .i64 0,.int .i64 0,.int .i64 0]):=by kernel_rfl
theorem akC:sS prog 36=some (true,3):=by kernel_rfl
theorem as1:Jv prog 36=some [.int .i64 0,.int .i64 0,.int .i64 0]:=by kernel_rfl
theorem nA:ixP prog 36=some (some 3,1):=by kernel_rfl
theorem Ch:Az prog 36=some ([(0,1),(1,1),(2,1)],[.int .i64 0,.int .i64 0,.int .i64 0]):=by kernel_rfl
theorem apn:sS prog 38=some (true,9):=by kernel_rfl
theorem as2:Jv prog 38=some [.int .i64 0,.int .i64 0,.int .i64 0,.int .i64 0,.int .i64 0,.int .i64 0,.int .i64 0,.int .i64 0,.int .i64 0]:=by kernel_rfl
theorem iG:sS prog 39=some (true,9):=by kernel_rfl
theorem nB:Jv prog 39=some [.int .i64 0,.int .i64 0,.int .i64 0,.int .i64 0,.int .i64 0,.int .i64 0,.int .i64 0,.int .i64 0,.int .i64 0]:=by kernel_rfl
theorem dJ:ixP prog 39=some (some 3,3):=by kernel_rfl
theorem xK:Az prog 39=some ([(0,3),(3,3),(6,3)],[.int .i64 0,.int .i64 0,.int .i64 0,.int .i64 0,.int .i64 0,.int .i64 0,.int .i64 0,.int .i64 0,.int .i64 0]):=by kernel_rfl
theorem afZ:sS prog 46=some (false,1):=by kernel_rfl
theorem Ys:Hn prog 46=some 55:=by kernel_rfl
theorem acx:sS prog 52=some (false,1):=by kernel_rfl
theorem Ee:Hn prog 52=some 56:=by kernel_rfl
theorem akD:sS prog 55=some (true,6):=by kernel_rfl
theorem akE:Jv prog 55=some [.int .i64 0,.int .i64 0,.int .i64 0,.int .i64 0,.int .i64 0,.int .i64 0]:=by kernel_rfl
theorem xL:lQ prog 55 0=some (0,true,3):=by kernel_rfl
theorem Qe:lQ prog 55 1=some (3,true,3):=by kernel_rfl
theorem akF:Az prog 55=some ([(0,3),(3,3)],[.int .i64 0,.int .i64 0,.int .i64 0,.int .i64 0,.int .i64 0,.int .i64 0]):=by kernel_rfl
theorem yU:sS prog 56=some (true,6):=by kernel_rfl
theorem Om:Jv prog 56=some [.int .i64 0,.int .i64 0,.int .i64 0,.int .i64 0,.int .i64 0,.int .i64 0]:=by kernel_rfl
theorem xM:ixP prog 56=some (some 2,3):=by kernel_rfl
theorem pJ:Az prog 56=some ([(0,3),(3,3)],[.int .i64 0,.int .i64 0,.int .i64 0,.int .i64 0,.int .i64 0,.int .i64 0]):=by kernel_rfl
theorem wK:Hn prog 65=some 30:=by kernel_rfl
theorem apo:ixP prog 65=some (none,3):=by kernel_rfl
theorem as3:sS prog 73=some (false,1):=by kernel_rfl
theorem as4:Hn prog 73=some 191:=by kernel_rfl
theorem as5:sS prog 75=some (true,4):=by kernel_rfl
theorem anU:lQ prog 75 0=some (0,false,1):=by kernel_rfl
theorem anV:lQ prog 75 1=some (1,false,1):=by kernel_rfl
theorem anW:lQ prog 75 2=some (2,false,1):=by kernel_rfl
theorem anX:lQ prog 75 3=some (3,false,1):=by kernel_rfl
theorem af0:sS prog 88=some (false,1):=by kernel_rfl
theorem as6:Jv prog 88=some [.pointer none]:=by kernel_rfl
theorem af1:sS prog 93=some (false,1):=by kernel_rfl
theorem as7:Jv prog 93=some [.map none]:=by kernel_rfl
theorem jC:sS prog 95=some (true,2):=by kernel_rfl
theorem sF:Jv prog 95=some [.bool false,.string ⟨#[]⟩]:=by kernel_rfl
theorem rT:lQ prog 95 0=some (0,false,1):=by kernel_rfl
theorem Qf:lQ prog 95 1=some (1,false,1):=by kernel_rfl
theorem akG:Jv prog 97=some [.bool false,.string ⟨#[]⟩,.bool false,.string ⟨#[]⟩,.bool false,.string ⟨#[]⟩,.bool false,.string ⟨#[]⟩,.bool false,.string ⟨#[]⟩,.bool false,.string ⟨#[]⟩,.bool false,.string ⟨#[]⟩,.bool false,.string ⟨#[]⟩,.bool false,.string ⟨#[]⟩,.bool false,.string ⟨#[]⟩]:=by kernel_rfl
theorem app:sS prog 99=some (false,1):=by kernel_rfl
theorem aaQ:sS prog 100=some (false,1):=by kernel_rfl
theorem aqE:Jv prog 100=some [.map none]:=by kernel_rfl
theorem aqF:Hn prog 105=some 112:=by kernel_rfl
theorem aqG:sS prog 106=some (false,1):=by kernel_rfl
theorem aqH:sS prog 107=some (false,1):=by kernel_rfl
theorem akH:lQ prog 109 0=some (0,false,1):=by kernel_rfl
theorem Tn:lQ prog 109 1=some (1,false,1):=by kernel_rfl
theorem To:lQ prog 109 2=some (2,false,1):=by kernel_rfl
theorem aqI:Az prog 109=some ([(0,1),(1,1),(2,1)],[.slice none 0 0,.map none,.map none]):=by kernel_rfl
theorem aer:sS prog 112=some (true,8):=by kernel_rfl
theorem aes:Jv prog 112=some [.int .i64 0,.int .i64 0,.int .i64 0,.int .i64 0,.int .i64 0,.int .i64 0,.bool false,.string ⟨#[]⟩]:=by kernel_rfl
theorem Ef:lQ prog 112 0=some (0,true,3):=by kernel_rfl
theorem wL:lQ prog 112 1=some (3,true,3):=by kernel_rfl
theorem yV:lQ prog 148 0=some (0,false,1):=by kernel_rfl
theorem wM:lQ prog 148 1=some (1,false,1):=by kernel_rfl
theorem Ke:lQ prog 148 2=some (2,false,1):=by kernel_rfl
theorem Eg:lQ prog 148 3=some (3,false,1):=by kernel_rfl
theorem acy:lQ prog 148 4=some (4,false,1):=by kernel_rfl
theorem Tp:lQ prog 148 5=some (5,false,1):=by kernel_rfl
theorem aqJ:Az prog 148=some ([(0,1),(1,1),(2,1),(3,1),(4,1),(5,1)],[.slice none 0 0,.slice none 0 0,.slice none 0 0,.slice none 0 0,.map none,.int .i64 0]):=by kernel_rfl
theorem Tq:sS prog 149=some (false,1):=by kernel_rfl
theorem Tr:sS prog 151=some (true,1):=by kernel_rfl
theorem Ts:Jv prog 151=some [.nilFunc]:=by kernel_rfl
theorem Eh:lQ prog 151 0=some (0,false,1):=by kernel_rfl
theorem Tt:Az prog 151=some ([(0,1)],[.nilFunc]):=by kernel_rfl
theorem aqK:Hn prog 152=some 151:=by kernel_rfl
theorem Tu:ixP prog 152=some (none,1):=by kernel_rfl
theorem aqL:Hn prog 157=some 26:=by kernel_rfl
theorem Mt:ixP prog 157=some (none,1):=by kernel_rfl
theorem aet:ixP prog 191=some (some 4,1):=by kernel_rfl
theorem aqM:Hn prog 212=some 215:=by kernel_rfl
theorem wN:sS prog 215=some (true,6):=by kernel_rfl
theorem Ei:Jv prog 215=some [.int .i64 0,.int .i64 0,.int .i64 0,.int .i64 0,.int .i64 0,.int .i64 0]:=by kernel_rfl
theorem Tv:lQ prog 215 0=some (0,true,3):=by kernel_rfl
theorem Ej:lQ prog 215 1=some (3,true,3):=by kernel_rfl
theorem Mu:Az prog 215=some ([(0,3),(3,3)],[.int .i64 0,.int .i64 0,.int .i64 0,.int .i64 0,.int .i64 0,.int .i64 0]):=by kernel_rfl
theorem akI:lQ prog 218 0=some (0,false,1):=by kernel_rfl
theorem Tw:lQ prog 218 2=some (4,true,3):=by kernel_rfl
theorem Tx:lQ prog 218 3=some (7,false,1):=by kernel_rfl
theorem akJ:lQ prog 218 4=some (8,false,1):=by kernel_rfl
theorem Kf:lQ prog 218 5=some (9,false,1):=by kernel_rfl
theorem Ty:lQ prog 218 7=some (11,false,1):=by kernel_rfl
theorem aeu:sS prog 222=some (true,6):=by kernel_rfl
theorem aev:Jv prog 222=some [.int .i64 0,.int .i64 0,.int .i64 0,.int .i64 0,.int .i64 0,.int .i64 0]:=by kernel_rfl
theorem kV:lQ prog 222 0=some (0,true,3):=by kernel_rfl
theorem kW:lQ prog 222 1=some (3,true,3):=by kernel_rfl
theorem aqN:Az prog 222=some ([(0,3),(3,3)],[.int .i64 0,.int .i64 0,.int .i64 0,.int .i64 0,.int .i64 0,.int .i64 0]):=by kernel_rfl
theorem akK:sS prog 229=some (true,8):=by kernel_rfl
theorem aew:Jv prog 229=some [.bool false,.string ⟨#[]⟩,.bool false,.string ⟨#[]⟩,.bool false,.string ⟨#[]⟩,.bool false,.string ⟨#[]⟩]:=by kernel_rfl
theorem Mw:ixP prog 229=some (some 4,2):=by kernel_rfl
theorem akL:Az prog 229=some ([(0,2),(2,2),(4,2),(6,2)],[.bool false,.string ⟨#[]⟩,.bool false,.string ⟨#[]⟩,.bool false,.string ⟨#[]⟩,.bool false,.string ⟨#[]⟩]):=by kernel_rfl
theorem Ek:ikP prog 231=some .u64:=by kernel_rfl
theorem jW:Hn prog 233=some 231:=by kernel_rfl
theorem aqO:sS prog 243=some (true,3):=by kernel_rfl
theorem aqP:Jv prog 243=some [.nilFunc,.nilFunc,.nilFunc]:=by kernel_rfl
theorem aqQ:Az prog 243=some ([(0,1),(1,1),(2,1)],[.nilFunc,.nilFunc,.nilFunc]):=by kernel_rfl
theorem akM:lQ prog 245 0=some (0,false,1):=by kernel_rfl
theorem akN:lQ prog 245 1=some (1,false,1):=by kernel_rfl
theorem akO:lQ prog 245 2=some (2,false,1):=by kernel_rfl
theorem aqR:sS prog 257=some (true,6):=by kernel_rfl
theorem akP:Jv prog 257=some [.bool false,.string ⟨#[]⟩,.bool false,.string ⟨#[]⟩,.bool false,.string ⟨#[]⟩]:=by kernel_rfl
theorem aaR:ixP prog 257=some (some 3,2):=by kernel_rfl
theorem aqS:sS prog 270=some (true,18):=by kernel_rfl
theorem aqT:Jv prog 270=some [.int .i64 0,.int .i64 0,.int .i64 0,.int .i64 0,.int .i64 0,.int .i64 0,.int .i64 0,.int .i64 0,.int .i64 0,.int .i64 0,.int .i64 0,.int .i64 0,.int .i64 0,.int .i64 0,.int .i64 0,.int .i64 0,.int .i64 0,.int .i64 0]:=by kernel_rfl
theorem aqU:Az prog 270=some ([(0,3),(3,3),(6,3),(9,3),(12,3),(15,3)],[.int .i64 0,.int .i64 0,.int .i64 0,.int .i64 0,.int .i64 0,.int .i64 0,.int .i64 0,.int .i64 0,.int .i64 0,.int .i64 0,.int .i64 0,.int .i64 0,.int .i64 0,.int .i64 0,.int .i64 0,.int .i64 0,.int .i64 0,.int .i64 0]):=by kernel_rfl
theorem aex:sS prog 273=some (true,6):=by kernel_rfl
theorem aey:Jv prog 273=some [.bool false,.string ⟨#[]⟩,.bool false,.string ⟨#[]⟩,.bool false,.string ⟨#[]⟩]:=by kernel_rfl
theorem qD:ixP prog 273=some (some 3,2):=by kernel_rfl
theorem aqV:sS prog 280=some (true,18):=by kernel_rfl
theorem aqW:Jv prog 280=some [.int .i64 0,.int .i64 0,.int .i64 0,.int .i64 0,.int .i64 0,.int .i64 0,.int .i64 0,.int .i64 0,.int .i64 0,.int .i64 0,.int .i64 0,.int .i64 0,.int .i64 0,.int .i64 0,.int .i64 0,.int .i64 0,.int .i64 0,.int .i64 0]:=by kernel_rfl
theorem aqX:Az prog 280=some ([(0,6),(6,6),(12,6)],[.int .i64 0,.int .i64 0,.int .i64 0,.int .i64 0,.int .i64 0,.int .i64 0,.int .i64 0,.int .i64 0,.int .i64 0,.int .i64 0,.int .i64 0,.int .i64 0,.int .i64 0,.int .i64 0,.int .i64 0,.int .i64 0,.int .i64 0,.int .i64 0]):=by kernel_rfl
theorem aqY:Jv prog 325=some [.int .i64 0,.int .i64 0,.int .i64 0,.int .i64 0,.int .i64 0,.int .i64 0,.int .i64 0,.int .i64 0,.int .i64 0,.int .i64 0,.int .i64 0,.int .i64 0,.int .i64 0,.int .i64 0,.int .i64 0,.int .i64 0,.int .i64 0,.int .i64 0,.int .i64 0,.int .i64 0,.int .i64 0,.int .i64 0,.int .i64 0,.int .i64 0]:=by kernel_rfl
theorem rU:ixP prog 325=some (some 8,3):=by kernel_rfl
theorem akQ:sS prog 333=some (true,3):=by kernel_rfl
theorem akR:Jv prog 333=some [.int .i64 0,.int .i64 0,.int .i64 0]:=by kernel_rfl
theorem uR:ixP prog 333=some (some 3,1):=by kernel_rfl
theorem aqZ:Az prog 333=some ([(0,1),(1,1),(2,1)],[.int .i64 0,.int .i64 0,.int .i64 0]):=by kernel_rfl
end Go.Proofs.YtfekpcimgncioaaGreatDoor
namespace Go.Proofs.YtfekpcimgncioaaGreatDoor
open Go.Proofs.Tryz
open Go.RowKit Go.Lith
set_option maxRecDepth 100000
attribute [local irreducible] au cq eF bJ cD Code.wp
attribute [local congr] oG fS fT fU fV fW jR fX fY fZ gA gB gC gD gE gF gG gH eM eN gI gJ gL gM gN jT cW cX cA cU gK jS eO eP eQ gQ gR jU
variable{q:P3}{ts:List T3}{N cap:Nat}{A:Option Addr}{op:Bool}
theorem aaS{p:P3}:gS prog 38 [pt p,pt q] (.bool (decide (p.Lt q))):=by
 intro w;refine⟨bO func38 (by kernel_rfl),?_⟩;have m:=Mem.refl w
 go_enter func38,ntmps38
 apply nM 15 [1,0,0,0] m;simp only[↓aD,jI,eW,aa];intro g1 g2 u m;refine bK O ?_ ?_<;>intro hc1
 ·
  apply aL 10 [1,0,0] m;simp only[↓aD,jI,eW,aa];refine aY O O ?_;try simp only[zD,zE]
  exact⟨_,O,m.ext,by simp only[P3.lt_x hc1]⟩
 ·
  have ex:p.x=q.x:=by omega
  apply aL 10 [1,0,0,0] m;simp only[↓aD,jJ,eW,aa];refine bK O ?_ ?_<;>intro hc2
  ·
   apply aL 10 [1,0,0] m;simp only[↓aD,jJ,eW,aa];refine aY O O ?_;try simp only[zD,zE]
   exact⟨_,O,m.ext,by simp only[P3.lt_y ex hc2]⟩
  ·
   have ey:p.y=q.y:=by omega
   apply aL 11 [1,0,0] m;simp only[↓aD,kJ,eW,aa];refine aY O O ?_;try simp only[zD,zE]
   exact⟨_,O,m.ext,by simp only[P3.lt_z ex ey]⟩
theorem akS{a b:E3}:gS prog 78 [ed a,ed b] (.bool (ltE a b)):=by
 intro w;refine⟨bO func78 (by kernel_rfl),?_⟩;have m:=Mem.refl w
 go_enter func78,ntmps78
 apply nM 13 [1,0,0] m;simp only[↓aD,xM,aS,ag,ah,aa];intro g1 g2;refine⟨by omega,?_⟩;intro u m;refine aB (fR O O) ?_;apply aM 1 [0] m;simp only[↓aD];refine bK O ?_ ?_<;>intro hc1
 ·
  apply aL 6 [1,0,0] m;simp only[↓aD,xM,aS,ag,ah,aa];refine⟨by omega,?_⟩;refine wQ m O O (aaS (p:=a.1) (q:=b.1)) 3 [] ?_;simp only[↓aD];intro u m;refine aY O O ?_;try simp only[zD,zE]
  exact⟨_,O,m.ext,by rw[ltE,if_pos (fun h=>hc1 (by rw[h];exact⟨O,O,O⟩))]⟩
 ·
  apply aL 7 [1,0,0] m;simp only[↓aD,xM,aS,ag,ah,aa];refine⟨by omega,?_⟩;refine wQ m O O (aaS (p:=a.2) (q:=b.2)) 3 [] ?_;simp only[↓aD];intro u m;refine aY O O ?_;try simp only[zD,zE]
  exact⟨_,O,m.ext,by rw[ltE,if_neg (fun h=>h (P3.eq (Classical.not_not.1 hc1).1 (Classical.not_not.1 hc1).2.1 (Classical.not_not.1 hc1).2.2))]⟩
theorem af2(w:am)(hT:cJ w A N ts)(hN:N≤1000000000):dR prog 76 [.slice A N cap] w (SL 56 6 ((aU ts).flatMap bM) (aU ts).length w):=by
 refine⟨bO func76 (by kernel_rfl),?_⟩;have m:=Mem.refl w
 go_enter func76,ntmps76
 apply iE 6 [0] m;simp only[↓aD];refine aB aJ ?_;replace m:=m.nilO 56 6;apply aM 7 [0] m;simp only[↓aD];refine cP [3,4] [5,6,7,8,9,10,11,12,13,14,15,16,17,18,19,20,21,22,23,24,25,26,27,28,29,30,31,32,33] (fun n vs wl=>∃(k:Nat) (A3:Option Addr) (cap3:Nat),vs=[.slice A3 (aU (ts.take k)).length cap3,.int .i64 (k:Int)]∧Mem w wl [oI 56 6 A3 (aU (ts.take k)).length cap3 ((aU (ts.take k)).flatMap bM)]∧(k≤N)∧(n=N-k)) ?_ ?_
 ·
  exact⟨_,0,_,_,O,m,bw _,O⟩
 ·
  intro n vs wr hI u K1 hK1;obtain⟨k,A3,cap3,rfl,m,hk,hn⟩:=hI;simp only[zu,zF,zG];apply aL 8 [0,0] m;simp only[↓aD,mC];refine bK O ?_ ?_<;>intro hc1
  ·
   obtain⟨t,ht,_,a,rfl,hrow⟩:=hT.get (i:=k) (by omega);apply aL 7 [0] m;simp only[↓aD];refine aB (aG bZ aR O O (by omega) (by omega) (bX (ai _))) ?_;simp only[zz];refine aQ O ((hrow.ext m.ext).lies dK aR) ?_;simp only[zz];apply iH 17 [0,0,0,0,0,0] m;simp only[↓aD,nB,iG,dJ,aS,pJ,aa,ag,ah];intro g1;refine⟨by omega,?_⟩;intro u m;apply bF 3 [0,0] m;simp only[↓aD,dJ,aS,pJ,ag,ah,aa];refine⟨by omega,?_⟩;refine ahq O O O ?_;intro u g2 e_ h_ k_;replace m:=m.newB e_ h_ k_;simp only[zz];refine cS m 2 O O mL Do O (by decide) O O O (m.b 0 O).rowsO (nQ O) (by have:=nF (ts.take k);rw[bx] at this;omega) (by have:=nF (ts.take k);rw[bx] at this;omega) ?_;intro A3 cap3 u m;simp only[zF,zG] at m;rw[show (aU (ts.take k)).flatMap bM++_=(aU (ts.take (k+1))).flatMap bM by rw[wA ht,be];rfl,show (aU (ts.take k)).length+3=(aU (ts.take (k+1))).length by rw[wA ht,a_];rfl] at m;rw[show (aU (ts.take k)).length+3=(aU (ts.take (k+1))).length by rw[wA ht,a_];rfl];apply aM 8 [0] m;simp only[↓aD];refine⟨by omega,?_⟩;exact hK1 (N-(k+1)) _ _ (by omega) (by kernel_rfl) ⟨k+1,_,_,O,(m.sel [false,false,true]),by omega,O⟩
  ·
   have hkN:k=N:=by omega
   rw[hkN,show ts.take N=ts from bf (by rw[hT.len];exact av _)] at m ⊢;apply aL 7 [] m;simp only[↓aD];exact aY O O ⟨_,O,m.ext,⟨_,_,_,O,O,(m.o 0 O)⟩⟩
theorem Qg{es:List E3}{e:E3}(w:am)(hL:Aq bM 6 w A N es)(hN:N≤1000000000):dR prog 77 [.slice A N cap,ed e] w (fun v _=>v=.int .i64 ((kN es e:Nat):Int)):=by
 refine⟨bO func77 (by kernel_rfl),?_⟩;have m:=Mem.refl w
 go_enter func77,ntmps77
 apply nM 15 [0] m;simp only[↓aD];intro g1 u m;refine cP [5,6] [7,8,9,10,11,12,13,14,15,16,17,18,19,20] (fun n vs wl=>∃(k q:Nat),vs=[.int .i64 (q:Int),.int .i64 (k:Int)]∧Mem w wl [bI g1 (bM e) 56]∧(q=kN (es.take k) e)∧(k≤N)∧(n=N-k)) ?_ ?_
 ·
  exact⟨_,0,0,O,m,O,bw _,O⟩
 ·
  intro n vs wr hI u K1 hK1;obtain⟨k,q,rfl,m,hq,hk,hn⟩:=hI;subst hq;simp only[zu,zF,zG];apply aL 8 [0,0] m;simp only[↓aD,Ee];refine bK O ?_ ?_<;>intro hc1
  ·
   obtain⟨x,hx,a,rfl,hrow⟩:=hL.get (i:=k) (by omega);apply aL 4 [0] m;simp only[↓aD];refine mq m aF (by kernel_rfl) (aK aC (aK aC ?_));simp only[zz];refine aK (aG mL eH O O (by omega) (by omega) (bX (ai _))) ?_;simp only[zz];refine ql O (fun u m=>((hrow.ext m.ext).lies sJ eH)) ?_;simp only[zz];refine ql O (fun u m=>((m.b 0 O).full sJ eH)) ?_;simp only[zz];refine aK (ahl O O) (bN ?_);intro u m;refine gc ?_;simp only[zz];refine bK O ?_ ?_<;>intro hc2
   ·
    have hxe:x=e:=Prod.ext (P3.eq hc2.1 hc2.2.1 hc2.2.2.1) (P3.eq hc2.2.2.2.1 hc2.2.2.2.2.1 hc2.2.2.2.2.2);have hcl:kN (es.take k) e≤N:=aw ap9 (by rw[bx];omega);have hs:=abS (e:=e) hx;rw[if_pos hxe] at hs;apply aL 11 [0] m;simp only[↓aD];refine⟨by omega,?_⟩;rw[show ((kN (es.take k) e:Nat):Int)+1=((kN (es.take (k+1)) e:Nat):Int) by rw[hs];rfl];exact hK1 (N-(k+1)) _ _ (by omega) (by kernel_rfl) ⟨k+1,kN (es.take (k+1)) e,O,m,O,by omega,O⟩
   ·
    have hs:kN (es.take (k+1)) e=kN (es.take k) e:=(abS (e:=e) hx).trans (by rw[if_neg (fun h=>hc2 (by rw[h];exact⟨O,O,O,O,O,O⟩))];rfl);apply aL 7 [0] m;simp only[↓aD];refine⟨by omega,?_⟩;rw[←hs];exact hK1 (N-(k+1)) _ _ (by omega) (by kernel_rfl) ⟨k+1,kN (es.take (k+1)) e,O,m,O,by omega,O⟩
  ·
   have hkN:k=N:=by omega
   rw[hkN,show es.take N=es from bf (by rw[hL.len];exact av _)];apply aL 7 [] m;simp only[↓aD];exact aY O O ⟨_,O,m.ext,O⟩
theorem anY{ps:List P3}{p:P3}(w:am)(hL:Aq qO 3 w A N ps)(hN:N≤1000000000)(hcap:N≤cap):dR prog 82 [.slice A N cap,pt p] w (fun v w'=>(v=.slice A N cap∧iW ps p=ps)∨SL 30 3 ((iW ps p).flatMap qO) (iW ps p).length w v w'):=by
 refine⟨afu,?_⟩;have m:=Mem.refl w;obtain rfl:ps.length=N:=hL.len
 go_enter func82,ntmps82
 apply nM 11 [0] m;simp only[↓aD];intro g1 u m;refine cP [5] [6,8,9,10,11,12,13,14,15,16,17,18,19,20,21] (fun n vs wl=>∃(k:Nat),vs=[.int .i64 (k:Int)]∧Mem w wl [bI g1 (qO p) 30]∧(Pre (fun x=>decide (x.Lt p)) ps k)∧(k≤ps.length)∧(n=ps.length-k)) ?_ ?_
 ·
  exact⟨_,0,O,m,Pre.zero,bw _,O⟩
 ·
  intro n vs wr hI u K1 hK1;obtain⟨k,rfl,m,hpre,hk,hn⟩:=hI;simp only[zu,zF,zG];apply aL 8 [0,0] m;simp only[↓aD,wK];refine bK O ?_ ?_<;>intro hc1
  ·
   obtain⟨x,hx,a,rfl,hrow⟩:=hL.get (i:=k) (by omega);apply aL 3 [0] m;simp only[↓aD];refine mq m aF (by kernel_rfl) (aK aC (aK aC ?_));simp only[zz];refine aK (aG gW aA O O (by omega) (by omega) (bX (ai _))) ?_;simp only[zz];refine ql O (fun u m=>((hrow.ext m.ext).lies aH aA)) ?_;simp only[zz];refine ql O (fun u m=>((m.b 0 O).full aH aA)) ?_;simp only[zz];refine kR O O aaS (aK aJ (bN ?_));intro u m;apply bF 6 [0] m;simp only[↓aD];refine lV O ?_ ?_<;>intro hc2
   ·
    have hpos:abT ps p=k:=apd hpre hx (by simpa using hc2);apply aL 3 [0] m;simp only[↓aD];refine mq m aF (by kernel_rfl) (iB 7 [1] ?_);simp only[↓aD,wK];refine⟨by omega,?_⟩;refine nS O (aK (aG gW aA O O (by omega) (by omega) (bX (ai _))) (nS O ?_));simp only[zz];refine ql O (fun u m=>((hrow.ext m.ext).lies aH aA)) ?_;simp only[zz];refine nS O (ql O (fun u m=>((m.b 0 O).full aH aA)) ?_);simp only[zz];refine nS O (aK (bS O O) (aK (Fe O) (bN ?_)));intro u m;refine gc ?_;simp only[zz];refine bK O ?_ ?_<;>intro hc3
    ·
     have hxp:x=p:=P3.eq hc3.1 hc3.2.1 hc3.2.2;apply aL 6 [] m;simp only[↓aD];exact aY O O ⟨_,O,m.ext,.inl ⟨O,by rw[iW,hpos,hx,if_pos (by rw[hxp])]⟩⟩
    ·
     have hw:iW ps p=ps.take k++[p]++ps.drop k:=by unfold iW;rw[hpos,if_neg (by rw[hx];exact fun h=>hc3 (by cases h;exact⟨O,O,O⟩))]
     apply aL 3 [0] m;simp only[↓aD];refine aB aJ ?_;replace m:=m.nilO 30 3;apply aM 6 [0] m;simp only[↓aD];refine aB (nC gW aA O O (ai _) (by omega) (by omega)) ?_;simp only[zz];refine cS m 0 O O gW uJ O (by decide) O O (by rw[kM Lg,bx,dx (by omega)]) (((hL.take (by omega)).ext m.ext).cells Lg (by decide)) (Ru _) (by omega) (by omega) ?_;intro A7 cap7 u m;simp only[zF,zG] at m;rw[bv,ap] at m;rw[ap];apply aM 6 [1,0] m;simp only[↓aD,aS];refine sO O ?_;intro u g2 e_ h_ k_;replace m:=m.newB e_ h_ k_;simp only[zz];refine cS m 1 O O gW uJ O (by decide) O O O (m.b 0 O).rowsO (nQ O) (by omega) (by omega) ?_;intro A7 cap7 u m;simp only[zF,zG] at m;apply aM 7 [0] m;simp only[↓aD];refine aB (nD gW aA O O (ai _) (by omega) (by omega) O) ?_;simp only[zz];refine cS m 1 O O gW uJ O (by decide) O O (by rw[kM Lg,ip]) ((hL.ext m.ext).cellsD Lg (by decide) hcap) (Ru _) (by omega) (by omega) ?_;intro A7 cap7 u m;simp only[zF,zG] at m;apply aM 3 [] m;simp only[↓aD];exact aY O O ⟨_,O,m.ext,.inr ⟨_,_,_,by rw[hw];simp;omega,rfl,(m.o 1 rfl).as (by rw[hw,be,be];rfl)⟩⟩
   ·
    have hpre2:=hpre.step hx (by simpa using hc2);apply aL 7 [0] m;simp only[↓aD];refine⟨by omega,?_⟩;exact hK1 (ps.length-(k+1)) _ _ (by omega) (by kernel_rfl) ⟨k+1,O,m,hpre2,by omega,O⟩
  ·
   obtain rfl:k=ps.length:=by omega
   have hpos:abT ps p=ps.length:=ajv hpre;have hw:iW ps p=ps.take ps.length++[p]++ps.drop ps.length:=by unfold iW;rw[hpos,if_neg (by rw[List.getElem?_eq_none (av _)];simp)]
   apply aL 3 [0] m;simp only[↓aD];refine mq m aF (by kernel_rfl) (iB 12 [2] ?_);simp only[↓aD,wK];refine⟨by omega,?_⟩;refine bN ?_;intro u m;apply bF 4 [0] m;simp only[↓aD];refine aB aJ ?_;replace m:=m.nilO 30 3;apply aM 6 [0] m;simp only[↓aD];refine aB (nC gW aA O O (ai _) (by omega) (by omega)) ?_;simp only[zz];refine cS m 0 O O gW uJ O (by decide) O O (by rw[kM Lg,bx,dx (by omega)]) (((hL.take (by omega)).ext m.ext).cells Lg (by decide)) (Ru _) (by omega) (by omega) ?_;intro A7 cap7 u m;simp only[zF,zG] at m;rw[bv,ap] at m;rw[ap];apply aM 6 [1,0] m;simp only[↓aD,aS];refine sO O ?_;intro u g2 e_ h_ k_;replace m:=m.newB e_ h_ k_;simp only[zz];refine cS m 1 O O gW uJ O (by decide) O O O (m.b 0 O).rowsO (nQ O) (by omega) (by omega) ?_;intro A7 cap7 u m;simp only[zF,zG] at m;apply aM 7 [0] m;simp only[↓aD];refine aB (nD gW aA O O (ai _) (by omega) (by omega) O) ?_;simp only[zz];refine cS m 1 O O gW uJ O (by decide) O O (by rw[kM Lg,ip]) ((hL.ext m.ext).cellsD Lg (by decide) hcap) (Ru _) (by omega) (by omega) ?_;intro A7 cap7 u m;simp only[zF,zG] at m;apply aM 3 [] m;simp only[↓aD];exact aY O O ⟨_,O,m.ext,.inr ⟨_,_,_,by rw[hw];simp,rfl,(m.o 1 rfl).as (by rw[hw,be,be];rfl)⟩⟩
theorem aez{w0 w:am}{is:List It}{A:Option Addr}{n cap:Nat}{ps:List P3}{p:P3}(m:Mem w0 w is)(k:Nat)(hi:is[k]? = some (oI 30 3 A n cap (ps.flatMap qO)))(hN:n≤1000000000) :
 Calls prog 82 [.slice A n cap,pt p].toArray w fun e w'=>∃v i,e=.returned v∧Mem w0 w' (is.set k i)∧∃A' cap' n',n'=(iW ps p).length∧v=.slice A' n' cap'∧i=oI 30 3 A' n' cap' ((iW ps p).flatMap qO):=by
 have hO:=m.o k hi;refine (anY (p:=p) w (hO.lat Lg (by decide)) hN hO.le).2.mono ?_;rintro e w' ⟨v,rfl,hE,h⟩;rcases h with ⟨rfl,h⟩ | ⟨A',cap',n',rfl,rfl,hN'⟩
 · exact⟨_,oI 30 3 A n cap (ps.flatMap qO),O,by rw[aqa hi];exact m.ext' hE,A,cap,n,by rw[h];exact (hO.num Lg (by decide)).symm,O,by rw[h]⟩
 · exact⟨_,_,O,(m.newO hE hN').mv k hi,_,_,_,O,O,O⟩
theorem ahG(w:am)(hT:cJ w A N ts)(hN:N≤100000000):dR prog 36 [.slice A N cap] w (SL 30 3 ((cK ts).flatMap qO) (cK ts).length w):=by
 refine⟨bO func36 (by kernel_rfl),?_⟩;have m:=Mem.refl w
 go_enter func36,ntmps36
 apply iE 6 [0] m;simp only[↓aD];refine aB aJ ?_;replace m:=m.nilO 30 3;apply aM 7 [0] m;simp only[↓aD];refine cP [3,4] [5,6,7,8,9,10,11,12,13,14,15,16,17,18,19,20,21,22,23] (fun n vs wl=>∃(k n3:Nat) (A3:Option Addr) (cap3:Nat),vs=[.slice A3 n3 cap3,.int .i64 (k:Int)]∧Mem w wl [oI 30 3 A3 n3 cap3 ((cK (ts.take k)).flatMap qO)]∧(n3=(cK (ts.take k)).length)∧(k≤N)∧(n=N-k)) ?_ ?_
 ·
  exact⟨_,0,0,_,_,O,m,O,bw _,O⟩
 ·
  intro n vs wr hI u K1 hK1;obtain⟨k,n3,A3,cap3,rfl,m,hn3,hk,hn⟩:=hI;simp only[zu,zF,zG];apply aL 8 [0,0] m;simp only[↓aD,mC];refine bK O ?_ ?_<;>intro hc1
  ·
   obtain⟨t,ht,_,a,rfl,hrow⟩:=hT.get (i:=k) (by omega);have hb0:=Di (ts.take k);have hb1:=yI (cK (ts.take k)) t.a;have hb2:=yI (iW (cK (ts.take k)) t.a) t.b;rw[bx] at hb0;apply aL 25 [4,1,0] m;simp only[↓aD];refine⟨by omega,?_⟩;refine aB (aG bZ aR O O (by omega) (by omega) (bX (ai _))) ?_;apply aM 1 [0] m;simp only[↓aD,dJ,ag,ah,aa];refine⟨by omega,?_⟩;refine aQ O ((mE.cor (hrow.ext m.ext) (c:=0) (by decide)).lies aH aA) ?_;simp only[zz];refine nI m 0 afu O O (fun m=>aez (p:=t.a) m 0 O (by omega)) ?_;rintro v i u m ⟨A3,cap3,n3,hn3,rfl,rfl⟩;simp only[zF,zG] at m;apply aM 24 [1,0] m;simp only[↓aD,an];refine⟨by omega,?_⟩;refine aB (aG bZ aR O O (by omega) (by omega) (bX (ai _))) ?_;apply aM 1 [0] m;simp only[↓aD,dJ,ag,ah,aa];refine⟨by omega,?_⟩;refine aQ O ((mE.cor (hrow.ext m.ext) (c:=1) (by decide)).lies aH aA) ?_;simp only[zz];refine nI m 0 afu O O (fun m=>aez (p:=t.b) m 0 O (by omega)) ?_;rintro v i u m ⟨A3,cap3,n3,hn3,rfl,rfl⟩;simp only[zF,zG] at m;apply aM 24 [1,0] m;simp only[↓aD,an];refine⟨by omega,?_⟩;refine aB (aG bZ aR O O (by omega) (by omega) (bX (ai _))) ?_;apply aM 1 [0] m;simp only[↓aD,dJ,ag,ah,aa];refine⟨by omega,?_⟩;refine aQ O ((mE.cor (hrow.ext m.ext) (c:=2) (by decide)).lies aH aA) ?_;simp only[zz];refine nI m 0 afu O O (fun m=>aez (p:=t.c) m 0 O (by omega)) ?_;rintro v i u m ⟨A3,cap3,n3,hn3,rfl,rfl⟩;simp only[zF,zG] at m;apply aM 23 [2,0] m;simp only[↓aD,an];refine⟨by omega,?_⟩;exact hK1 (N-(k+1)) _ _ (by omega) (by kernel_rfl) ⟨k+1,_,_,_,O,(m.reO 0 O ((m.o 0 O).as (by rw[Jn ht]))),by rw[Jn ht];exact hn3,by omega,O⟩
  ·
   have hkN:k=N:=by omega
   rw[hkN,show ts.take N=ts from bf (by rw[hT.len];exact av _)] at m hn3;apply aL 7 [] m;simp only[↓aD];exact aY O O ⟨_,O,m.ext,⟨_,_,_,hn3,O,(m.o 0 O)⟩⟩
theorem akT{p:P3}(w:am)(hT:Aq aP 9 w A N ts)(hN:N≤1000000000):dR prog 201 [.slice A N cap,pt p,pt q] w (fun v _=>v=.tuple #[pt ((bE ts p q).getD p),.bool (bE ts p q).isSome]):=by
 refine⟨bO func201 (by kernel_rfl),?_⟩;have m:=Mem.refl w
 go_enter func201,ntmps201
 apply nM 13 [0] m;simp only[↓aD,dN];intro g1 g2 g3 u m;refine cP [8] [7,9,10,11,12,13,14,15,16,17,18,19,20,21,22,23,24,25,26,27,28,29,30,31,32,33,34,35,36,37,38,39,40,41,42,43,44,45,46,47] (fun n vs wl=>∃(k:Nat),vs=[.int .i64 (k:Int)]∧Mem w wl [bI g3 [.int .i64 0,.int .i64 0,.int .i64 0] 30,bI g2 (qO q) 30,bI g1 (qO p) 30]∧(bE (ts.take k) p q=none)∧(k≤N)∧(n=N-k)) ?_ ?_
 ·
  exact⟨_,0,O,m,O,bw _,O⟩
 ·
  intro n vs wr hI u K1 hK1;obtain⟨k,rfl,m,hb0,hk,hn⟩:=hI;simp only[zu,zF,zG];apply aL 8 [0,0] m;simp only[↓aD,mC];refine bK O ?_ ?_<;>intro hc1
  ·
   obtain⟨t,ht,a,rfl,hrow⟩:=hT.get (i:=k) (by omega);apply aL 21 [4,1,0] m;simp only[↓aD];refine⟨by omega,?_⟩;refine mq m aF (by kernel_rfl) (iB 3 [] ?_);simp only[↓aD];refine aK (aG bZ aR O O (by omega) (by omega) (bX (ai _))) (iB 1 [] ?_);simp only[↓aD,dJ,ag,ah,aa];refine⟨by omega,?_⟩;refine ql O (fun u m=>((mE.cor (hrow.ext m.ext) (c:=0) (by omega)).lies aH aA)) ?_;simp only[zz];refine ql O (fun u m=>((m.b 2 O).full aH aA)) ?_;simp only[zz];refine aK (bS O O) (aK aC (bP O (fun hb=>aC) (bP O (fun hb=>aC) ?_)));simp only[zz];refine bP O (fun hb=>aC) (bP O (fun hb=>fH (m:=0) (n:=1) (r:=1) (aX hb O) O (by decide)) (bP O (fun hb=>dL (m:=1) (n:=3) (r:=1) (aX hb O) O (by decide) (by decide)) ?_));simp only[zz];refine bP O (fun hb=>aG bZ aR (aX hb O) (aX hb O) (by omega) (by omega) (bX (ai _))) (bP O (fun hb=>aN dA aA (aX hb O) (aX hb O) (by decide) (by decide) O) ?_);simp only[zz];refine dM O (fun hb u m=>aZ (aX hb O) ((mE.cor (hrow.ext m.ext) (c:=1) (by omega)).lies aH aA)) (dM O (fun hb u m=>aZ O ((m.b 1 O).full aH aA)) (bP O (fun hb=>bS (aX hb O) (aX hb O)) (aK (cE O O O) (bN ?_))));intro u m;refine gc ?_;simp only[zz];refine lV O ?_ ?_<;>intro hc3
   ·
    have hf:=Dj ((tW ht hb0).trans (asB  (Au.1 hc3)));apply aL 6 [0] m;simp only[↓aD,an];refine⟨by omega,?_⟩;refine aB (dL (m:=2) (n:=3) (r:=2) O O (by decide) (by decide)) ?_;simp only[zz];refine aB (aG bZ aR O O (by omega) (by omega) (bX (ai _))) ?_;apply aM 1 [0] m;simp only[↓aD,dJ,ag,ah,aa];refine⟨by omega,?_⟩;refine aQ O ((mE.cor (hrow.ext m.ext) (c:=2) (by omega)).lies aH aA) ?_;simp only[zz];apply iH 4 [0] m;simp only[↓aD,aS,aa];intro u m;refine nP O ⟨_,O,((m.b 0 O).full aH aA)⟩ O ?_;try simp only[zD,zE]
    exact⟨_,O,m.ext,by rw[hf];rfl⟩
   ·
    have hq0:=Lu hc3;apply aL 19 [1,0] m;simp only[↓aD,an];refine⟨by omega,?_⟩;refine mq m aF (by kernel_rfl) (iB 3 [] ?_);simp only[↓aD];refine aK (aG bZ aR O O (by omega) (by omega) (bX (ai _))) (iB 1 [] ?_);simp only[↓aD,dJ,ag,ah,aa];refine⟨by omega,?_⟩;refine ql O (fun u m=>((mE.cor (hrow.ext m.ext) (c:=1) (by omega)).lies aH aA)) ?_;simp only[zz];refine ql O (fun u m=>((m.b 2 O).full aH aA)) ?_;simp only[zz];refine aK (bS O O) (aK aC (bP O (fun hb=>aC) (bP O (fun hb=>aC) ?_)));simp only[zz];refine bP O (fun hb=>aC) (bP O (fun hb=>fH (m:=1) (n:=1) (r:=2) (aX hb O) O (by decide)) (bP O (fun hb=>dL (m:=2) (n:=3) (r:=2) (aX hb O) O (by decide) (by decide)) ?_));simp only[zz];refine bP O (fun hb=>aG bZ aR (aX hb O) (aX hb O) (by omega) (by omega) (bX (ai _))) (bP O (fun hb=>aN dA aA (aX hb O) (aX hb O) (by decide) (by decide) O) ?_);simp only[zz];refine dM O (fun hb u m=>aZ (aX hb O) ((mE.cor (hrow.ext m.ext) (c:=2) (by omega)).lies aH aA)) (dM O (fun hb u m=>aZ O ((m.b 1 O).full aH aA)) (bP O (fun hb=>bS (aX hb O) (aX hb O)) (aK (cE O O O) (bN ?_))));intro u m;refine gc ?_;simp only[zz];refine lV O ?_ ?_<;>intro hc3
    ·
     have hf:=Dj ((tW ht hb0).trans (asC hq0 (Au.1 hc3)));apply aL 6 [0] m;simp only[↓aD,an];refine⟨by omega,?_⟩;refine aB (dL (m:=3) (n:=3) (r:=0) O O (by decide) (by decide)) ?_;simp only[zz];refine aB (aG bZ aR O O (by omega) (by omega) (bX (ai _))) ?_;apply aM 1 [0] m;simp only[↓aD,dJ,ag,ah,aa];refine⟨by omega,?_⟩;refine aQ O ((mE.cor (hrow.ext m.ext) (c:=0) (by omega)).lies aH aA) ?_;simp only[zz];apply iH 4 [0] m;simp only[↓aD,aS,aa];intro u m;refine nP O ⟨_,O,((m.b 0 O).full aH aA)⟩ O ?_;try simp only[zD,zE]
     exact⟨_,O,m.ext,by rw[hf];rfl⟩
    ·
     have hq1:=Lu hc3;apply aL 19 [1,0] m;simp only[↓aD,an];refine⟨by omega,?_⟩;refine mq m aF (by kernel_rfl) (iB 3 [] ?_);simp only[↓aD];refine aK (aG bZ aR O O (by omega) (by omega) (bX (ai _))) (iB 1 [] ?_);simp only[↓aD,dJ,ag,ah,aa];refine⟨by omega,?_⟩;refine ql O (fun u m=>((mE.cor (hrow.ext m.ext) (c:=2) (by omega)).lies aH aA)) ?_;simp only[zz];refine ql O (fun u m=>((m.b 2 O).full aH aA)) ?_;simp only[zz];refine aK (bS O O) (aK aC (bP O (fun hb=>aC) (bP O (fun hb=>aC) ?_)));simp only[zz];refine bP O (fun hb=>aC) (bP O (fun hb=>fH (m:=2) (n:=1) (r:=3) (aX hb O) O (by decide)) (bP O (fun hb=>dL (m:=3) (n:=3) (r:=0) (aX hb O) O (by decide) (by decide)) ?_));simp only[zz];refine bP O (fun hb=>aG bZ aR (aX hb O) (aX hb O) (by omega) (by omega) (bX (ai _))) (bP O (fun hb=>aN dA aA (aX hb O) (aX hb O) (by decide) (by decide) O) ?_);simp only[zz];refine dM O (fun hb u m=>aZ (aX hb O) ((mE.cor (hrow.ext m.ext) (c:=0) (by omega)).lies aH aA)) (dM O (fun hb u m=>aZ O ((m.b 1 O).full aH aA)) (bP O (fun hb=>bS (aX hb O) (aX hb O)) (aK (cE O O O) (bN ?_))));intro u m;refine gc ?_;simp only[zz];refine lV O ?_ ?_<;>intro hc3
     ·
      have hf:=Dj ((tW ht hb0).trans (asD hq0 hq1 (Au.1 hc3)));apply aL 6 [0] m;simp only[↓aD,an];refine⟨by omega,?_⟩;refine aB (dL (m:=4) (n:=3) (r:=1) O O (by decide) (by decide)) ?_;simp only[zz];refine aB (aG bZ aR O O (by omega) (by omega) (bX (ai _))) ?_;apply aM 1 [0] m;simp only[↓aD,dJ,ag,ah,aa];refine⟨by omega,?_⟩;refine aQ O ((mE.cor (hrow.ext m.ext) (c:=1) (by omega)).lies aH aA) ?_;simp only[zz];apply iH 4 [0] m;simp only[↓aD,aS,aa];intro u m;refine nP O ⟨_,O,((m.b 0 O).full aH aA)⟩ O ?_;try simp only[zD,zE]
      exact⟨_,O,m.ext,by rw[hf];rfl⟩
     ·
      have hq2:=Lu hc3;apply aL 22 [2,0] m;simp only[↓aD,an];refine⟨by omega,?_⟩;exact hK1 (N-(k+1)) _ _ (by omega) (by kernel_rfl) ⟨k+1,O,m,(tW ht hb0).trans (asE hq0 hq1 hq2),by omega,O⟩
  ·
   have hkN:k=N:=by omega
   rw[hkN,show ts.take N=ts from bf (by rw[hT.len];exact av _)] at hb0;apply Wi 8 [2,0] m;simp only[↓aD,aS,aa];intro u m;refine nP O ⟨_,O,((m.b 0 O).full aH aA)⟩ O ?_;try simp only[zD,zE]
   exact⟨_,O,m.ext,by rw[hb0];rfl⟩
theorem ahH{p:P3}(w:am)(hT:cJ w A N ts)(hN:N≤100000000):dR prog 135 [.slice A N cap,pt p] w (fun v _=>v=.bool (Jo ts p)):=by
 refine⟨bO func135 (by kernel_rfl),?_⟩;have m:=Mem.refl w
 go_enter func135,ntmps135
 apply nM 7 [0] m;simp only[↓aD];intro g1 u m;refine aB aJ ?_;replace m:=m.nilO 39 9;apply aM 3 [0] m;simp only[↓aD];refine aB aJ ?_;replace m:=m.nilO 30 3;apply aM 7 [0] m;simp only[↓aD];refine cP [5,6,7] [8,14,15,16,17,18,19,20,21,22,23,24,25,26,27,28,29,30,31,32,33,34,35,36,37,38,39,40,41,42,43,44,45,46,47,48,49] (fun n vs wl=>∃(k n5 n6 cap5 cap6:Nat) (A5 A6:Option Addr),vs=[.slice A5 n5 cap5,.slice A6 n6 cap6,.int .i64 (k:Int)]∧Mem w wl [oI 30 3 A6 n6 cap6 ((wB (ts.take k) p).flatMap qO),oI 39 9 A5 n5 cap5 ((oZ (ts.take k) p).flatMap aP),bI g1 (qO p) 30]∧(n5≤k*3)∧(n6≤k*3)∧(k≤N)∧(n=N-k)) ?_ ?_
 ·
  exact⟨_,0,_,_,_,_,_,_,O,m,av _,av _,bw _,O⟩
 ·
  intro n vs wr hI u K1 hK1;obtain⟨k,n5,n6,cap5,cap6,A5,A6,rfl,m,hl5,hl6,hk,hn⟩:=hI;simp only[zu,zF,zG];apply aL 8 [0,0] m;simp only[↓aD,mC];refine bK O ?_ ?_<;>intro hc1
  ·
   obtain⟨t,ht,_,a,rfl,hrow⟩:=hT.get (i:=k) (by omega);apply aL 8 [0] m;simp only[↓aD];refine cP [5,6,8] [20,21,22,23,24,25,26,27,28,29,30,31,32,33,34,35,36,37,38,39,40,41,42,43,44,45,46,47,48,49] (fun n vs wl=>∃(c n5 n6 cap5 cap6:Nat) (A5 A6:Option Addr),vs=[.slice A5 n5 cap5,.slice A6 n6 cap6,.int .i64 (c:Int)]∧Mem w wl [oI 30 3 A6 n6 cap6 ((xU ts p k t c).flatMap qO),oI 39 9 A5 n5 cap5 ((Gv ts p k t c).flatMap aP),bI g1 (qO p) 30]∧(n5≤k*3+c)∧(n6≤k*3+c)∧(c≤3)∧(n=3-c)) ?_ ?_
   ·
    rw[←ang (t:=t),←ajx (t:=t)] at m;exact⟨_,0,_,_,_,_,_,_,O,m,hl5,hl6,bw _,O⟩
   ·
    intro n vs wr hI u K2 hK2;obtain⟨c,n5,n6,cap5,cap6,A5,A6,rfl,m,hl5,hl6,hc,hn2⟩:=hI;simp only[zu,zF,zG];apply aL 6 [0,0] m;simp only[↓aD];refine bK O ?_ ?_<;>intro hc2
    ·
     have hc3:c<3:=by omega
     apply aL 4 [0] m;simp only[↓aD];refine mq m aF (by kernel_rfl) (iB 3 [] ?_);simp only[↓aD];refine aK (aG bZ aR O O (by omega) (by omega) (bX (ai _))) ?_;simp only[zz];refine aK (aN dA aA O O (by omega) (by omega) (bX (ai _))) ?_;simp only[zz];refine ql O (fun u m=>((mE.cor (hrow.ext m.ext) (c:=c) (by omega)).lies aH aA)) ?_;simp only[zz];refine ql O (fun u m=>((m.b 2 O).full aH aA)) ?_;simp only[zz];refine aK (bS O O) (bN ?_);intro u m;refine gc ?_;simp only[zz];refine bK O ?_ ?_<;>intro hc3
     ·
      have hcp:t.cor c=p:=P3.eq hc3.1 hc3.2.1 hc3.2.2;apply aL 5 [0] m;simp only[↓aD];refine aB (aG bZ aR O O (by omega) (by omega) (bX (ai _))) ?_;simp only[zz];refine aQ O ((hrow.ext m.ext).lies dK aR) ?_;simp only[zz];refine nG O ?_;intro u g2 e_ h_ k_;replace m:=m.newB e_ h_ k_;simp only[zz];refine cS m 2 O O bZ kS O (by decide) O O O (m.b 0 O).rowsO (nQ O) (by omega) (by omega) ?_;intro A5 cap5 u m;simp only[zF,zG] at m;apply aM 8 [0] m;simp only[↓aD];refine⟨by omega,?_⟩;refine aB (dL O O (by omega) (Xl (k:=c+1))) ?_;simp only[zz];refine aB (aG bZ aR O O (by omega) (by omega) (bX (ai _))) ?_;simp only[zz];refine aB (aN dA aA O O (by omega) (by omega) (bX (ai _))) ?_;simp only[zz];refine aQ O ((mE.cor (hrow.ext m.ext) (c:=(c+1)%3) (by omega)).lies aH aA) ?_;simp only[zz];refine sO O ?_;intro u g3 e_ h_ k_;replace m:=m.newB e_ h_ k_;simp only[zz];refine cS m 2 O O gW uJ O (by decide) O O O (m.b 0 O).rowsO (nQ O) (by omega) (by omega) ?_;intro A6 cap6 u m;simp only[zF,zG] at m;apply aM 8 [0] m;simp only[↓aD];refine⟨by omega,?_⟩;exact hK2 (3-(c+1)) _ _ (by omega) (by kernel_rfl) ⟨c+1,_,_,_,_,_,_,O,(((m.reO 3 O ((m.o 3 O).as (by rw[ahe hcp,be];rfl))).reO 2 rfl ((m.o 2 rfl).as (by rw[adM hcp,be];rfl))).sel [false,false,true,true,true]),by omega,by omega,by omega,rfl⟩
     ·
      have hcp:¬t.cor c=p:=fun h=>hc3 (by rw[h];exact⟨O,O,O⟩);apply aL 7 [0] m;simp only[↓aD];refine⟨by omega,?_⟩;exact hK2 (3-(c+1)) _ _ (by omega) (by kernel_rfl) ⟨c+1,_,_,_,_,_,_,O,((m.reO 1 O ((m.o 1 O).as (by rw[ajw hcp]))).reO 0 O ((m.o 0 O).as (by rw[ahf hcp]))),by omega,by omega,by omega,O⟩
    ·
     obtain rfl:c=3:=by omega
     rw[anh ht,ajy ht] at m;apply aL 7 [0] m;simp only[↓aD];refine⟨by omega,?_⟩;exact hK1 (N-(k+1)) _ _ (by omega) (by kernel_rfl) ⟨k+1,_,_,_,_,_,_,O,m,by omega,by omega,by omega,O⟩
  ·
   have hkN:k=N:=by omega
   rw[hkN,show ts.take N=ts from bf (by rw[hT.len];exact av _)] at m;obtain⟨M,hM⟩:∃M,M=oZ ts p:=⟨_,rfl⟩
   obtain⟨S,hS⟩:∃S,S=wB ts p:=⟨_,rfl⟩
   rw[←hM,←hS] at m;have h5:M.length=n5:=(m.o 1 rfl).num ap8 (by decide);have h6:S.length=n6:=(m.o 0 rfl).num Lg (by decide);have hle6:=(m.o 0 rfl).le;have hP:Jo ts p=S.any (fun s=>pA M p s (M.length-1) s):=by rw[hM,hS];rfl
   clear hM hS;apply aL 7 [0] m;simp only[↓aD];refine cP [9] [4,10,11,12,13,50,51,52,53,54,55,56,57,58,59,60,61,62,63,64,65,66,67,68,69,70,71,72,73,74,75,76,77,78,79,80,81] (fun n vs wl=>∃(k2:Nat),vs=[.int .i64 (k2:Int)]∧Mem w wl [oI 30 3 A6 n6 cap6 ((S).flatMap qO),oI 39 9 A5 n5 cap5 ((M).flatMap aP),bI g1 (qO p) 30]∧((S.take k2).any (fun s=>pA M p s (M.length-1) s)=false)∧(k2≤n6)∧(n=n6-k2)) ?_ ?_
   ·
    exact⟨_,0,O,m,O,bw _,O⟩
   ·
    intro n vs wr hI u K3 hK3;obtain⟨k2,rfl,m,hno,hk2,hn3⟩:=hI;simp only[zu,zF,zG];apply aL 8 [0,0] m;simp only[↓aD,wK];refine bK O ?_ ?_<;>intro hc4
    ·
     obtain⟨sx,hsx⟩:∃sx,S[k2]? = some sx:=⟨_,ar (by omega)⟩
     obtain⟨gO,rfl⟩:=(m.o 0 rfl).some (by omega);apply aL 7 [0] m;simp only[↓aD];refine aB (aG gW aA O O (by omega) (by omega) (bX (ai _))) ?_;simp only[zz];refine aQ O (((m.o 0 O).at Lg hsx).lies aH aA) ?_;simp only[zz];apply iH 8 [0,0] m;simp only[↓aD,dN,aS,aa];intro g2 u m;refine cP [11] [4,12,13,60,61,62,63,64,65,66,67,68,69,70,71,72,73,74,75,76,77,78,79,80,81] (fun n vs wl=>∃(j:Nat) (x:P3),vs=[.int .i64 (j:Int)]∧Mem w wl [bI g2 (qO x) 30,oI 30 3 (some ⟨gO,0,none⟩) n6 cap6 (S.flatMap qO),oI 39 9 A5 n5 cap5 ((M).flatMap aP),bI g1 (qO p) 30]∧(pA M p sx (M.length-1) sx=pA M p sx (M.length-j) x)∧(1≤j)∧(j≤n5+1)∧(n=n5+1-j)) ?_ ?_
     ·
      exact⟨_,1,sx,O,m,O,av _,by omega,O⟩
     ·
      intro n vs wr hI u K4 hK4;obtain⟨j,x,rfl,m,hrg,hj,hj2,hn4⟩:=hI;simp only[zu,zF,zG];apply aL 8 [0,0] m;simp only[↓aD,mC];refine bK O ?_ ?_<;>intro hc5
      ·
       obtain⟨f,hf⟩:∃f,M.length-j=f+1:=⟨M.length-j-1,by omega⟩
       rw[hf] at hrg;apply aL 8 [3,0,0] m;simp only[↓aD,aS];refine dH m O O (akT (p:=p) (q:=x) _ ((m.o 2 O).lat ap8 (by decide)) (by omega)) ?_;rintro v u m rfl;apply iH 13 [0,0] m;simp only[↓aD,dN,aS,aa];intro g3 u m;refine lV O ?_ ?_<;>intro hc6
       ·
        have hbn:bE M p x=none:=by cases hb:bE M p x with | none=>rfl | some y=>rw[hb] at hc6;cases hc6
        have hz:pA M p sx (M.length-1) sx=false:=by rw[hrg,Xn hbn]
        have hno2:(S.take (k2+1)).any (fun s=>pA M p s (M.length-1) s)=false:=by rw[tY hsx,hno,hz];rfl
        apply aL 7 [0] m;simp only[↓aD];refine⟨by omega,?_⟩;exact hK3 (n6-(k2+1)) _ _ (by omega) (by kernel_rfl) ⟨k2+1,O,(m.sel [false,false,true,true,true]),hno2,by omega,O⟩
       ·
        obtain⟨y,hy⟩:∃y,bE M p x=some y:=by cases hb:bE M p x with | none=>rw[hb] at hc6;cases hc6 | some y=>exact⟨y,rfl⟩
        rw[hy] at m;simp only[de] at m;apply Wi 7 [0,1,0] m;simp only[↓aD,aS,aa];intro u m;refine mq m aF (by kernel_rfl) (iB 3 [1] ?_);simp only[↓aD,aS];refine aK (aG gW aA O O (by omega) (by omega) (bX (ai _))) ?_;simp only[zz];refine ql O (fun u m=>(((m.o 2 O).at Lg hsx).lies aH aA)) ?_;simp only[zz];refine aK (bS O O) (bN ?_);intro u m;refine gc ?_;simp only[zz];refine bK O ?_ ?_<;>intro hc7
        ·
         have hys:y=sx:=P3.eq hc7.1 hc7.2.1 hc7.2.2;have hz:S.any (fun s=>pA M p s (M.length-1) s)=true:=Av hsx (by show pA M p sx (M.length-1) sx=true;rw[hrg];exact abU (by rw[hy,hys]));apply aL 5 [] m;simp only[↓aD];refine aY O O ?_;try simp only[zD,zE]
         exact⟨_,O,m.ext,by rw[hP,hz]⟩
        ·
         have hys:¬y=sx:=fun h=>hc7 (by rw[h];exact⟨O,O,O⟩);apply aL 7 [0] m;simp only[↓aD];refine⟨by omega,?_⟩;exact hK4 (n5+1-(j+1)) _ _ (by omega) (by kernel_rfl) ⟨j+1,y,O,(m.sel [false,true,true,true,true]),by rw[hrg,Xo hy hys,show M.length-(j+1)=f by omega],by omega,by omega,O⟩
      ·
       have hz:pA M p sx (M.length-1) sx=false:=by rw[hrg,show M.length-j=0 by omega];rfl
       have hno2:(S.take (k2+1)).any (fun s=>pA M p s (M.length-1) s)=false:=by rw[tY hsx,hno,hz];rfl
       apply aL 7 [0] m;simp only[↓aD];refine⟨by omega,?_⟩;exact hK3 (n6-(k2+1)) _ _ (by omega) (by kernel_rfl) ⟨k2+1,O,(m.sel [false,true,true,true]),hno2,by omega,O⟩
    ·
     have hk2:k2=S.length:=by omega
     rw[hk2,fa] at hno;apply aL 6 [] m;simp only[↓aD];refine aY O O ?_;try simp only[zD,zE]
     exact⟨_,O,m.ext,by rw[hP,hno]⟩
theorem Tz{all out:List E3}{e:E3}(h:0<kN all (e.2,e.1)∨0<kN out e):rJ all out e=out:=if_pos h
theorem Yt{all out:List E3}{e:E3}{k:Nat}(h1:¬0<kN all (e.2,e.1))(h2:¬0<kN out e)(h:ahb out e=k):rJ all out e=out.take k++[e]++out.drop k:=by
 rw[rJ,if_neg (fun h=>h.elim h1 h2),adK,h]
theorem aq0{w:am}{a:Addr}{e:E3}(h:mE w a (bM e)):mE w a [.int .i64 e.1.x,.int .i64 e.1.y,.int .i64 e.1.z,.int .i64 e.2.x,.int .i64 e.2.y,.int .i64 e.2.z]:=h
theorem gt0{n:Nat}:((0:Int)<(n:Int))↔0<n:=by omega
theorem akU(w:am)(hT:cJ w A N ts)(hN:N≤100000000):dR prog 28 [.slice A N cap] w (SL 56 6 ((aO ts).flatMap bM) (aO ts).length w):=by
 refine⟨bO func28 (by kernel_rfl),?_⟩;have m:=Mem.refl w
 go_enter func28,ntmps28
 apply iE 7 [0] m;simp only[↓aD];refine bB O O (af2 _ (hT.ext m.ext) (by omega)) ?_;rintro v u e_ ⟨A3,cap3,n3,hn3,rfl,h_⟩;replace m:=m.newO e_ h_;have he3:=nF ts;have htl:=hT.len;apply aM 4 [0] m;simp only[↓aD];refine aB aJ ?_;replace m:=m.nilO 56 6;apply aM 7 [0] m;simp only[↓aD];refine cP [4,5] [6,7,8,9,12,13,14,15,16,17,18,19,20,21,22,23,24,25,26,27,28,29,30,31,32,33,34,35,36,37,38,39,40,41,42,43,44,45,46,47,48,49,50,51,52,53,54,55,56,57,58,59,60,61,62,63] (fun n vs wl=>∃(k n4 cap4:Nat) (A4:Option Addr),vs=[.slice A4 n4 cap4,.int .i64 (k:Int)]∧Mem w wl [oI 56 6 A4 n4 cap4 ((((aU ts).take k).foldl (rJ (aU ts)) []).flatMap bM),oI 56 6 A3 n3 cap3 ((aU ts).flatMap bM)]∧(n4≤k)∧(k≤n3)∧(n=n3-k)) ?_ ?_
 ·
  exact⟨_,0,_,_,_,O,m,av _,bw _,O⟩
 ·
  intro n vs wr hI u K1 hK1;obtain⟨k,n4,cap4,A4,rfl,m,hl4,hk,hn⟩:=hI;simp only[zu,zF,zG];apply aL 8 [0,0] m;simp only[↓aD,Ee];refine bK O ?_ ?_<;>intro hc1
  ·
   obtain⟨e,he⟩:∃e,(aU ts)[k]? = some e:=⟨_,ar (by omega)⟩
   obtain⟨gO,rfl⟩:=(m.o 1 rfl).some (by omega);apply aL 7 [0] m;simp only[↓aD];refine aB (aG mL eH O O (by omega) (by omega) (bX (ai _))) ?_;simp only[zz];refine aQ O ((aq0 ((m.o 1 O).at Cj he)).lies sJ eH) ?_;simp only[zz];apply iH 5 [0] m;simp only[↓aD,Om,yU,aa];intro g1 u m;obtain⟨B,hB⟩:∃B,B=((aU ts).take k).foldl (rJ (aU ts)) []:=⟨_,rfl⟩
   rw[←hB] at m;have h4:B.length=n4:=(m.o 1 rfl).num Cj (by decide);have hle4:=(m.o 1 rfl).le;have hs:=ahc (all:=aU ts) he;rw[←hB] at hs;rcases Nat.eq_zero_or_pos (kN (aU ts) (e.2,e.1)) with hz | hz
   ·
    apply bF 7 [0,0,0] m;simp only[↓aD,xM,aS,pJ,ag,ah,aa];refine⟨by omega,?_⟩;refine dH m O O (Qg (es:=aU ts) (e:=(e.2,e.1)) _ ((m.o 2 O).lat Cj (by decide)) (by omega)) ?_;rintro v u m rfl;apply aM 4 [2,0,0] m;simp only[↓aD,yU];refine⟨by omega,?_⟩;refine eY O (dH m O O (Qg (es:=B) (e:=e) _ ((m.o 1 O).lat Cj (by decide)) (by omega)) ?_);rintro v u m rfl;apply aM 3 [0,0] m;simp only[↓aD];refine bK O ?_ ?_<;>intro hc2
    ·
     rw[Tz (.inr (gt0.1 hc2))] at hs;apply aL 6 [0] m;simp only[↓aD];refine⟨by omega,?_⟩;exact hK1 (n3-(k+1)) _ _ (by omega) (by kernel_rfl) ⟨k+1,_,_,_,O,((m.reO 1 O ((m.o 1 O).as (by rw[hs]))).sel [false,true,true]),by omega,by omega,O⟩
    ·
     have hz2:¬0<kN B e:=fun h=>hc2 (gt0.2 h);apply aL 7 [0] m;simp only[↓aD];refine cP [7] [8,36,37,38,39,40,41,42,43,44,45,46,47,48,49] (fun n vs wl=>∃(j:Nat),vs=[.int .i64 (j:Int)]∧Mem w wl [bI g1 (bM e) 56,oI 56 6 A4 n4 cap4 ((B).flatMap bM),oI 56 6 (some ⟨gO,0,none⟩) n3 cap3 ((aU ts).flatMap bM)]∧(Pre (fun x=>ltE x e) B j)∧(j≤n4)∧(n=n4-j)) ?_ ?_
     ·
      exact⟨_,0,O,m,Pre.zero,bw _,O⟩
     ·
      intro n vs wr hI u K2 hK2;obtain⟨j,rfl,m,hpre,hj,hn2⟩:=hI;simp only[zu,zF,zG];apply aL 8 [0,0] m;simp only[↓aD,Ee];refine bK O ?_ ?_<;>intro hc3
      ·
       obtain⟨x,hx⟩:∃x,B[j]? = some x:=⟨_,ar (by omega)⟩
       obtain⟨gP,rfl⟩:=(m.o 1 rfl).some (by omega);apply aL 3 [0] m;simp only[↓aD];refine mq m aF (by kernel_rfl) (aK aC (aK aC ?_));simp only[zz];refine aK (aG mL eH O O (by omega) (by omega) (bX (ai _))) ?_;simp only[zz];refine ql O (fun u m=>(((m.o 1 O).at Cj hx).lies sJ eH)) ?_;simp only[zz];refine ql O (fun u m=>((m.b 0 O).full sJ eH)) ?_;simp only[zz];refine kR O O (akS (a:=x) (b:=e)) (aK aJ (bN ?_));intro u m;apply bF 6 [0] m;simp only[↓aD];refine lV O ?_ ?_<;>intro hc4
       ·
        have hpos:ahb B e=j:=apd hpre hx (by simpa using hc4);rw[Yt (by omega) hz2 hpos] at hs;apply aL 3 [0] m;simp only[↓aD];refine aB aJ ?_;replace m:=m.nilO 56 6;apply aM 6 [0] m;simp only[↓aD];refine aB (nC mL eH O O (ai _) (by omega) (by omega)) ?_;simp only[zz];refine cS m 0 O O mL Do O (by decide) O O (by rw[kM Cj,bx,dx (show j≤B.length by omega)]) ((((m.o 2 O).lat Cj (by decide)).take (k:=j) (by omega)).cells Cj (by decide)) (aaf _) (by omega) (by omega) ?_;intro A9 cap9 u m;simp only[zF,zG] at m;rw[bv,ap] at m;simp only[ap];apply aM 6 [1,0] m;simp only[↓aD,yU];refine Ly O ?_;intro u g2 e_ h_ k_;replace m:=m.newB e_ h_ k_;simp only[zz];refine cS m 1 O O mL Do O (by decide) O O O (m.b 0 O).rowsO (nQ O) (by omega) (by omega) ?_;intro A9 cap9 u m;simp only[zF,zG] at m;apply aM 6 [0] m;simp only[↓aD];refine aB (nD mL eH O O (ai _) (by omega) (by omega) O) ?_;simp only[zz];refine cS m 1 O O mL Do O (by decide) O O (by rw[kM Cj,ip,h4]) (((m.o 3 O).lat Cj (by decide)).cellsD Cj (by decide) (by omega)) (aaf _) (by omega) (by omega) ?_;intro A9 cap9 u m;simp only[zF,zG] at m;refine aB aJ ?_;simp only[zz];replace m:=(m.pull 1 O).mv 2 O;simp only[dO,dP,zF,zG] at m;apply aM 7 [0] m;simp only[↓aD];refine⟨by omega,?_⟩;exact hK1 (n3-(k+1)) _ _ (by omega) (by kernel_rfl) ⟨k+1,_,_,_,O,((m.reO 2 O ((m.o 2 O).as (by rw[hs,be,be];rfl))).sel [false,false,true,true]),by omega,by omega,rfl⟩
       ·
        have hpre2:=hpre.step hx (by simpa using hc4);apply aL 7 [0] m;simp only[↓aD];refine⟨by omega,?_⟩;exact hK2 (n4-(j+1)) _ _ (by omega) (by kernel_rfl) ⟨j+1,O,m,hpre2,by omega,O⟩
      ·
       have hjl:j=B.length:=by omega
       have hpos:ahb B e=j:=by rw[hjl] at hpre ⊢;exact ajv hpre
       rw[Yt (by omega) hz2 hpos] at hs;apply aL 3 [0] m;simp only[↓aD];refine aB aJ ?_;replace m:=m.nilO 56 6;apply aM 6 [0] m;simp only[↓aD];refine aB (nC mL eH O O (ai _) (by omega) (by omega)) ?_;simp only[zz];refine cS m 0 O O mL Do O (by decide) O O (by rw[kM Cj,bx,dx (show j≤B.length by omega)]) ((((m.o 2 O).lat Cj (by decide)).take (k:=j) (by omega)).cells Cj (by decide)) (aaf _) (by omega) (by omega) ?_;intro A9 cap9 u m;simp only[zF,zG] at m;rw[bv,ap] at m;simp only[ap];apply aM 6 [1,0] m;simp only[↓aD,yU];refine Ly O ?_;intro u g2 e_ h_ k_;replace m:=m.newB e_ h_ k_;simp only[zz];refine cS m 1 O O mL Do O (by decide) O O O (m.b 0 O).rowsO (nQ O) (by omega) (by omega) ?_;intro A9 cap9 u m;simp only[zF,zG] at m;apply aM 6 [0] m;simp only[↓aD];refine aB (nD mL eH O O (ai _) (by omega) (by omega) O) ?_;simp only[zz];refine cS m 1 O O mL Do O (by decide) O O (by rw[kM Cj,ip,h4]) (((m.o 3 O).lat Cj (by decide)).cellsD Cj (by decide) (by omega)) (aaf _) (by omega) (by omega) ?_;intro A9 cap9 u m;simp only[zF,zG] at m;refine aB aJ ?_;simp only[zz];replace m:=(m.pull 1 O).mv 2 O;simp only[dO,dP,zF,zG] at m;apply aM 7 [0] m;simp only[↓aD];refine⟨by omega,?_⟩;exact hK1 (n3-(k+1)) _ _ (by omega) (by kernel_rfl) ⟨k+1,_,_,_,O,((m.reO 2 O ((m.o 2 O).as (by rw[hs,be,be];rfl))).sel [false,false,true,true]),by omega,by omega,rfl⟩
   ·
    rw[Tz (.inl hz)] at hs;apply bF 7 [0,0,0] m;simp only[↓aD,xM,aS,pJ,ag,ah,aa];refine⟨by omega,?_⟩;refine dH m O O (Qg (es:=aU ts) (e:=(e.2,e.1)) _ ((m.o 2 O).lat Cj (by decide)) (by omega)) ?_;rintro v u m rfl;apply aM 15 [1,0] m;simp only[↓aD];refine⟨by omega,?_⟩;exact hK1 (n3-(k+1)) _ _ (by omega) (by kernel_rfl) ⟨k+1,_,_,_,O,((m.reO 1 O ((m.o 1 O).as (by rw[hs]))).sel [false,true,true]),by omega,by omega,O⟩
  ·
   have hkN:k=(aU ts).length:=by omega
   rw[hkN,fa] at m;apply aL 7 [] m;simp only[↓aD];exact aY O O ⟨_,O,m.ext,⟨_,_,_,((m.o 0 O).num Cj (by decide)).symm,O,(m.o 0 O)⟩⟩
theorem af3(h:ts.any tX=true):cQ op ts=20:=by simp[cQ,h]
theorem af4(h:ts.any tX=false)(h2:(aU ts).any (fun e=>decide (1<kN (aU ts) e))=true):cQ op ts=21:=by rw[cQ,h,h2];rfl
theorem af5(h:ts.any tX=false)(h2:(aU ts).any (fun e=>decide (1<kN (aU ts) e))=false)(h3:(!op&&decide (0<(aO ts).length))=false)(h4:(cK ts).any (Jo ts)=true):cQ op ts=23:=by rw[cQ,h,h2,h3,h4];rfl
theorem akV(h:ts.any tX=false)(h2:(aU ts).any (fun e=>decide (1<kN (aU ts) e))=false)(h3:(!op&&decide (0<(aO ts).length))=false)(h4:(cK ts).any (Jo ts)=false):cQ op ts=0:=by rw[cQ,h,h2,h3,h4];rfl
theorem gt1{n:Nat}:((1:Int)<(n:Int))↔1<n:=by omega
theorem anZ(w:am)(hT:cJ w A N ts)(hN:N≤100000000):dR prog 79 [.slice A N cap,.bool true] w (fun v _=>v=.int .i64 (cQ true ts)):=by
 refine⟨bO func79 (by kernel_rfl),?_⟩;have m:=Mem.refl w;have htl:=hT.len;have he3:=nF ts;have hcl:=Di ts
 go_enter func79,ntmps79
 apply iE 10 [0] m;simp only[↓aD];refine cP [5] [4,11,12,13,14,15,16,17,18,19,20,21,22,23,24,25,26,27,28,29,30,31,32,33,34,35,36,37,38,39,40,41,42,43,44,45,46,47,48,49,50,51,52,53] (fun n vs wl=>∃(k:Nat),vs=[.int .i64 (k:Int)]∧Mem w wl []∧((ts.take k).any tX=false)∧(k≤N)∧(n=N-k)) ?_ ?_
 ·
  exact⟨_,0,O,m,O,bw _,O⟩
 ·
  intro n vs wr hI u K1 hK1;obtain⟨k,rfl,m,hd0,hk,hn⟩:=hI;simp only[zu,zF,zG];apply aL 8 [0,0] m;simp only[↓aD,mC];refine bK O ?_ ?_<;>intro hc1
  ·
   obtain⟨t,ht,_,a,rfl,hrow⟩:=hT.get (i:=k) (by omega);apply aL 4 [0] m;simp only[↓aD];refine mq m aF (by kernel_rfl) (aK aC (aK aC ?_));simp only[zz];refine aK (aG bZ aR O O (by omega) (by omega) (bX (ai _))) (iB 1 [] ?_);simp only[↓aD,dJ,ag,ah,aa];refine⟨by omega,?_⟩;refine ql O (fun u m=>((mE.cor ((hrow.ext m.ext)) (c:=0) (by decide)).lies aH aA)) ?_;simp only[zz];refine aK aC (aK aC ?_);simp only[zz];refine aK (aG bZ aR O O (by omega) (by omega) (bX (ai _))) (iB 1 [] ?_);simp only[↓aD,dJ,ag,ah,aa];refine⟨by omega,?_⟩;refine ql O (fun u m=>((mE.cor ((hrow.ext m.ext)) (c:=1) (by decide)).lies aH aA)) ?_;simp only[zz];refine aK (bS O O) (aK aC (cY O (fun hb=>aC) (cY O (fun hb=>aC) ?_)));simp only[zz];refine cY O (fun hb=>aG bZ aR (aX hb O) (aX hb O) (by omega) (by omega) (bX (ai _))) (cY O (fun hb=>aN dA aA (aX hb O) O (by decide) (by decide) O) ?_);simp only[zz];refine fQ O (fun hb u m=>aZ (aX hb O) ((mE.cor ((hrow.ext m.ext)) (c:=1) (by decide)).lies aH aA)) (cY O (fun hb=>aC) (cY O (fun hb=>aC) ?_));simp only[zz];refine cY O (fun hb=>aG bZ aR (aX hb O) (aX hb O) (by omega) (by omega) (bX (ai _))) (cY O (fun hb=>aN dA aA (aX hb O) O (by decide) (by decide) O) ?_);simp only[zz];refine fQ O (fun hb u m=>aZ (aX hb O) ((mE.cor ((hrow.ext m.ext)) (c:=2) (by decide)).lies aH aA)) (cY O (fun hb=>bS (aX hb O) (aX hb O)) (aK (eG O O O) (aK aC (cY O (fun hb=>aC) ?_))));simp only[zz];refine cY O (fun hb=>aC) ?_;simp only[zz];refine cY O (fun hb=>aG bZ aR (aX hb O) (aX hb O) (by omega) (by omega) (bX (ai _))) (cY O (fun hb=>aN dA aA (aX hb O) O (by decide) (by decide) O) ?_);simp only[zz];refine fQ O (fun hb u m=>aZ (aX hb O) ((mE.cor ((hrow.ext m.ext)) (c:=2) (by decide)).lies aH aA)) (cY O (fun hb=>aC) (cY O (fun hb=>aC) ?_));simp only[zz];refine cY O (fun hb=>aG bZ aR (aX hb O) (aX hb O) (by omega) (by omega) (bX (ai _))) (cY O (fun hb=>aN dA aA (aX hb O) O (by decide) (by decide) O) ?_);simp only[zz];refine fQ O (fun hb u m=>aZ (aX hb O) ((mE.cor ((hrow.ext m.ext)) (c:=0) (by decide)).lies aH aA)) (cY O (fun hb=>bS (aX hb O) (aX hb O)) (aK (eG O O O) (bN ?_)));intro u m;refine gc ?_;simp only[zz];refine lV O ?_ ?_<;>intro hc2
   ·
    have hd:=Av (p:=tX) ht (aag.symm.trans hc2);apply aL 5 [] m;simp only[↓aD];refine aY O O ?_;try simp only[zD,zE]
    exact⟨_,O,m.ext,by rw[af3 hd]⟩
   ·
    have hd1:(ts.take (k+1)).any tX=false:=by rw[tY ht,hd0,←aag];exact hc2
    apply aL 7 [0] m;simp only[↓aD];refine⟨by omega,?_⟩;exact hK1 (N-(k+1)) _ _ (by omega) (by kernel_rfl) ⟨k+1,O,m,hd1,by omega,O⟩
  ·
   have hkN:k=N:=by omega
   rw[hkN,show ts.take N=ts from bf (by omega)] at hd0;apply aL 4 [0] m;simp only[↓aD];refine bB O O (af2 _ (hT.ext m.ext) (by omega)) ?_;rintro v u e_ ⟨A3,cap3,n3,hn3,rfl,h_⟩;replace m:=m.newO e_ h_;have hle3:=(m.o 0 rfl).le;apply aM 8 [0] m;simp only[↓aD];refine cP [7] [4,56,57,58,59,60,61,62,63,64,65,66,67,68] (fun n vs wl=>∃(k:Nat),vs=[.int .i64 (k:Int)]∧Mem w wl [oI 56 6 A3 n3 cap3 ((aU ts).flatMap bM)]∧(((aU ts).take k).any (fun e=>decide (1<kN (aU ts) e))=false)∧(k≤n3)∧(n=n3-k)) ?_ ?_
   ·
    exact⟨_,0,O,m,O,bw _,O⟩
   ·
    intro n vs wr hI u K2 hK2;obtain⟨k,rfl,m,hc0,hk,hn⟩:=hI;simp only[zu,zF,zG];apply aL 8 [0,0] m;simp only[↓aD,Ee];refine bK O ?_ ?_<;>intro hc3
    ·
     obtain⟨e,he⟩:∃e,(aU ts)[k]? = some e:=⟨_,ar (by omega)⟩
     obtain⟨gO,rfl⟩:=(m.o 0 rfl).some (by omega);apply aL 8 [0] m;simp only[↓aD];refine aB (aG mL eH O O (by omega) (by omega) (bX (ai _))) ?_;simp only[zz];refine aQ O (((m.o 0 O).at Cj he).lies sJ eH) ?_;simp only[zz];refine dH m O O (Qg (es:=aU ts) (e:=e) _ ((m.o 0 O).lat Cj (by decide)) (by omega)) ?_;rintro v u m rfl;apply aM 2 [0,0] m;simp only[↓aD];refine bK O ?_ ?_<;>intro hc4
     ·
      have hc:=Av (p:=(fun e=>decide (1<kN (aU ts) e))) he (decide_eq_true (gt1.1 hc4));apply aL 5 [] m;simp only[↓aD];refine aY O O ?_;try simp only[zD,zE]
      exact⟨_,O,m.ext,by rw[af4 hd0 hc]⟩
     ·
      have hc01:((aU ts).take (k+1)).any (fun e=>decide (1<kN (aU ts) e))=false:=by rw[tY he,hc0,decide_eq_false (fun h=>hc4 (gt1.2 h))];rfl
      apply aL 7 [0] m;simp only[↓aD];refine⟨by omega,?_⟩;exact hK2 (n3-(k+1)) _ _ (by omega) (by kernel_rfl) ⟨k+1,O,m,hc01,by omega,O⟩
    ·
     have hkN:k=(aU ts).length:=by omega
     rw[hkN,fa] at hc0;apply aL 18 [0] m;simp only[↓aD,Bool.not_true,jv];refine bB O O (ahG _ (hT.ext m.ext) hN) ?_;rintro v u e_ ⟨A8,cap8,n8,hn8,rfl,h_⟩;replace m:=m.newO e_ h_;have hle8:=(m.o 0 rfl).le;apply aM 8 [0] m;simp only[↓aD];refine cP [9] [4,10,79,80,81,82,83,84,85,86,87,88,89,90,91] (fun n vs wl=>∃(k:Nat),vs=[.int .i64 (k:Int)]∧Mem w wl [oI 30 3 A8 n8 cap8 ((cK ts).flatMap qO)]∧(((cK ts).take k).any (Jo ts)=false)∧(k≤n8)∧(n=n8-k)) ?_ ?_
     ·
      exact⟨_,0,O,(m.sel [true,false]),O,bw _,O⟩
     ·
      intro n vs wr hI u K3 hK3;obtain⟨k,rfl,m,hp0,hk,hn⟩:=hI;simp only[zu,zF,zG];apply aL 8 [0,0] m;simp only[↓aD,wK];refine bK O ?_ ?_<;>intro hc6
      ·
       obtain⟨x,hx⟩:∃x,(cK ts)[k]? = some x:=⟨_,ar (by omega)⟩
       obtain⟨gO,rfl⟩:=(m.o 0 rfl).some (by omega);apply aL 8 [0] m;simp only[↓aD];refine aB (aG gW aA O O (by omega) (by omega) (bX (ai _))) ?_;simp only[zz];refine aQ O (((m.o 0 O).at Lg hx).lies aH aA) ?_;simp only[zz];refine dH m O O (ahH (p:=x) _ (hT.ext m.ext) (by omega)) ?_;rintro v u m rfl;apply aM 6 [0] m;simp only[↓aD];refine lV O ?_ ?_<;>intro hc7
       ·
        have hp:=Av (p:=Jo ts) hx hc7;apply aL 5 [] m;simp only[↓aD];refine aY O O ?_;try simp only[zD,zE]
        exact⟨_,O,m.ext,by rw[af5 hd0 hc0 O hp]⟩
       ·
        have hp1:((cK ts).take (k+1)).any (Jo ts)=false:=by rw[tY hx,hp0,hc7];rfl
        apply aL 7 [0] m;simp only[↓aD];refine⟨by omega,?_⟩;exact hK3 (n8-(k+1)) _ _ (by omega) (by kernel_rfl) ⟨k+1,O,m,hp1,by omega,O⟩
      ·
       have hkN:k=(cK ts).length:=by omega
       rw[hkN,fa] at hp0;apply aL 6 [] m;simp only[↓aD];refine aY O O ?_;try simp only[zD,zE]
       exact⟨_,O,m.ext,by rw[akV hd0 hc0 O hp0]⟩
theorem aaT(w:am)(hT:cJ w A N ts)(hN:N≤100000000):dR prog 30 [.slice A N cap] w (fun v _=>v=.int .i64 (cQ true ts)):=by
 refine⟨bO func30 (by kernel_rfl),?_⟩;have m:=Mem.refl w
 go_enter func30,ntmps30
 apply iE 7 [0] m;simp only[↓aD];refine dH m O O (anZ _ (hT.ext m.ext) hN) ?_;rintro v u m rfl;apply aM 3 [] m;simp only[↓aD];exact aY O O ⟨_,O,m.ext,O⟩
end Go.Proofs.YtfekpcimgncioaaGreatDoor
namespace Go.Lith
open Go.RowKit
variable{x y:P3}
section
variable {P:bz} {ops:Array Oper} {Q:Exit→Act→am→Prop} {rest:List Oper} {d j:Nat} {ty:ay} {pos:String} {after:Array Edge} {v:ak} {b:Bool} {ds:List dl} {l:List ak} {w w0:am} {is:List It}
variable {f:FuncId} {fo:cd} {xs:Array cd} {args:List ak} {first cap:Array ak} {a0:Array ay}
theorem an0(m:Mem w0 w is)(hw:yielded ops l.toArray j=some b)(hf:ev l fo=.func (.func f) first cap)(hxs:b=true→first.toList++xs.toList.map (ev l)++cap.toList=args)(hc:b=true→dR P f args w fun x _=>x=v)
 (h:∀u,Mem w0 u is→au P ops Q rest (Fr (l.set d (Ps b v)) ds) u):au P ops Q (bp (some d) (.call { callee:=.value fo,args:=xs,argTypes:=a0 }) ty pos after (some (j,true))::rest) (Fr l ds) w:=by
 cases b with
 | false=>simp only[De] at h;exact kX hw (h w m)
 | true=>simp only[lN] at h;exact eY hw (dH m hf (hxs rfl) (hc rfl) fun x u m e=>by subst e;exact h u m)
end
section
variable {P:bz} {ops:Array Oper} {Q:Act→Prop} {rest:List Oper} {d j:Nat} {ty:ay} {pos:String} {after:Array Edge} {v:ak} {b:Bool} {ds:List dl} {l:List ak} {w0:am} {is:List It}
variable {f:FuncId} {fo:cd} {xs:Array cd} {args:List ak} {first cap:Array ak} {a0:Array ay}
end
theorem as8{c:Bool}{u v:ak}{cs:Array ak}(hb:c=true)(h:u=Ps c v)(hv:v.cells=cs):u.cells=cs:=by rw[h,hb,lN,hv]
/-! ### Rows of edges and moves -/
theorem akW{w:am}{a:Addr}{e:E3}(h:mE w a (bM e)):mE w (a.add 0) [.int .i64 e.1.x,.int .i64 e.1.y,.int .i64 e.1.z]:=(h.sub 0).take 3
theorem akX{w:am}{a:Addr}{e:E3}(h:mE w a (bM e)):mE w (a.add 3) [.int .i64 e.2.x,.int .i64 e.2.y,.int .i64 e.2.z]:=h.sub 3
theorem as9{z p:P3}:((decide (x.x=p.x∧x.y=p.y∧x.z=p.z)||decide (y.x=p.x∧y.y=p.y∧y.z=p.z))||decide (z.x=p.x∧z.y=p.y∧z.z=p.z))=(decide (x=p)||decide (y=p)||decide (z=p)):=by
 simp only[nV]
theorem ata{p:P3}:(decide (x.x=p.x∧x.y=p.y∧x.z=p.z)||decide (y.x=p.x∧y.y=p.y∧y.z=p.z))=(decide (x=p)||decide (y=p)):=by
 simp only[nV]
end Go.Lith
namespace Go.Proofs.YtfekpcimgncioaaGreatDoor
open Go.Proofs.Tryz
open Go.RowKit Go.Lith
set_option maxRecDepth 100000
attribute [local irreducible] au cq eF bJ cD Code.wp
attribute [local congr] oG fS fT fU fV fW jR fX fY fZ gA gB gC gD gE gF gG gH eM eN gI gJ gL gM gN jT cW cX cA cU gK jS eO eP eQ gQ gR jU
variable{ms:List Mv}{k N cap:Nat}{ts:List T3}{t:T3}{q:P3}
theorem an1{mv:Mv}{p:P3}(hm:ms[k]? = some mv)(h0:mU ms p=mU (ms.drop k) p)(h:mv.1=p):mU ms p=mv.2:=by
 rw[h0,el (ax.1 hm).1,(ax.1 hm).2,mU,if_pos h]
theorem akY{mv:Mv}{p:P3}(hm:ms[k]? = some mv)(h0:mU ms p=mU (ms.drop k) p)(h:¬mv.1=p):mU ms p=mU (ms.drop (k+1)) p:=by
 rw[h0,el (ax.1 hm).1,(ax.1 hm).2,mU,if_neg h]
theorem akZ{p:P3}(ht:ts[k]? = some t):wG (ts.take (k+1)) p=(wG (ts.take k) p||t.has p):=tY ht
theorem an2{p:P3}(ht:ts[k]? = some t)(h:t.has p=true):wG ts p=true:=Av ht h
theorem ak0{rim:List E3}{e:E3}{p:P3}(he:rim[k]? = some e):wH (rim.take (k+1)) p=(wH (rim.take k) p||(decide (e.1=p)||decide (e.2=p))):=tY he
def aeA(ts:List T3)(p q:P3):Int:=match ts.findIdx? fun t=>(t.fnd p q).isSome with
 | some k=>(k:Int)
 | none=>-1
theorem acz{p:P3}:∀{ts:List T3},bE ts p q=none→aeA ts p q = -1:=by
 intro ts h;have:ts.findIdx? (fun t=>(t.fnd p q).isSome)=none:=by
  rw[List.findIdx?_eq_none_iff];intro t ht
  induction ts with
  | nil=>cases ht
  | cons u us ih =>
   unfold bE at h;cases hu:u.fnd p q with
   | some x=>rw[hu] at h;cases h
   | none =>
    rw[hu] at h;rcases ao.1 ht with rfl | ht
    · rw[hu];rfl
    · exact ih h ht
 rw[aeA,this]
theorem Kg{p x:P3}:∀{ts:List T3} {k:Nat} {t:T3},bE (ts.take k) p q=none→ts[k]? = some t→t.fnd p q=some x→aeA ts p q=(k:Int):=by
 intro ts k t h ht hx;have key:∀(ts:List T3) (k:Nat),bE (ts.take k) p q=none→ts[k]? = some t→ts.findIdx? (fun t=>(t.fnd p q).isSome)=some k:=by
  intro ts
  induction ts with
  | nil=>intro k _ h;cases h
  | cons u us ih =>
   intro k h0 hk;cases k with
   | zero=>cases hk;rw[List.findIdx?_cons,hx];rfl
   | succ k =>
    rw[jx] at h0;unfold bE at h0;cases hu:u.fnd p q with
    | some y=>rw[hu] at h0;cases h0
    | none =>
     rw[hu] at h0;rw[List.findIdx?_cons,hu,ih k h0 hk];rfl
 rw[aeA,key ts k h ht]
theorem ahI(ts:List T3)(p q:P3):(aeA ts p q = -1∧bE ts p q=none)∨∃(k:Nat) (t:T3) (x:P3),aeA ts p q=(k:Int)∧ts[k]? = some t∧t.fnd p q=some x∧bE ts p q=some x:=by
 cases hb:bE ts p q with
 | none=>exact .inl ⟨acz hb,rfl⟩
 | some x =>
  have key:∀us:List T3,bE us p q=some x→∃k t,bE (us.take k) p q=none∧us[k]? = some t∧t.fnd p q=some x:=by
   intro us
   induction us with
   | nil=>intro h;cases h
   | cons u us ih =>
    intro h;unfold bE at h;cases hu:u.fnd p q with
    | some y=>rw[hu] at h;cases h;exact⟨0,u,O,O,hu⟩
    | none =>
     rw[hu] at h;obtain⟨k,t,h1,h2,h3⟩:=ih h;exact⟨k+1,t,by rw[jx,bE,hu];exact h1,h2,h3⟩
  obtain⟨k,t,h1,h2,h3⟩:=key ts hb;exact .inr ⟨k,t,x,Kg h1 h2 h3,h2,h3,O⟩
theorem acA{A:Option Addr}{p:P3}(w:am)(hL:Aq bM 6 w A N ms)(hN:N≤1000000000):dR prog 149 [.slice A N cap,pt p] w (fun v _=>v=pt (mU ms p)):=by
 refine⟨bO func149 (by kernel_rfl),?_⟩;have m:=Mem.refl w
 go_enter func149,ntmps149
 apply nM 11 [0] m;simp only[↓aD,dN];intro g1 g2 u m;refine cP [5] [6,7,8,9,10,11,12,13,14,15,16,17,18,19,20,21,22,23] (fun n vs wl=>∃(k:Nat),vs=[.int .i64 (k:Int)]∧Mem w wl [bI g2 [.int .i64 0,.int .i64 0,.int .i64 0] 30,bI g1 (qO p) 30]∧(mU ms p=mU (ms.drop k) p)∧(k≤N)∧(n=N-k)) ?_ ?_
 ·
  exact⟨_,0,O,m,O,bw _,O⟩
 ·
  intro n vs wr hI u K1 hK1;obtain⟨k,rfl,m,hi,hk,hn⟩:=hI;simp only[zu,zF,zG];apply aL 8 [0,0] m;simp only[↓aD,Ys];refine bK O ?_ ?_<;>intro hc1
  ·
   obtain⟨mv,hmv,a,rfl,hrow⟩:=hL.get (i:=k) (by omega);apply aL 4 [0] m;simp only[↓aD];refine mq m aF (by kernel_rfl) (aK aC (aK aC ?_));simp only[zz];refine aK (aG Dl rK O O (by omega) (by omega) (bX (ai _))) (iB 1 [] ?_);simp only[↓aD,xL,aa];refine ql O (fun u m=>((akW (hrow.ext m.ext)).lies aH aA)) ?_;simp only[zz];refine ql O (fun u m=>((m.b 1 O).full aH aA)) ?_;simp only[zz];refine aK (bS O O) (bN ?_);intro u m;refine gc ?_;simp only[zz];refine bK O ?_ ?_<;>intro hc2
   ·
    have hh:=an1 hmv hi (nV.1 hc2);apply aL 4 [0] m;simp only[↓aD];refine aB (aG Dl rK O O (by omega) (by omega) (bX (ai _))) ?_;apply aM 1 [0] m;simp only[↓aD,Qe,aa];refine aQ O ((akX (hrow.ext m.ext)).lies aH aA) ?_;simp only[zz];apply iH 3 [0] m;simp only[↓aD,aS,aa];intro u m;refine aY O ⟨_,O,((m.b 0 O).full aH aA)⟩ ?_;try simp only[zD,zE]
    exact⟨_,O,m.ext,by rw[hh];rfl⟩
   ·
    have hi2:=akY hmv hi (mt nV.2 hc2);apply aL 7 [0] m;simp only[↓aD];refine⟨by omega,?_⟩;exact hK1 (N-(k+1)) _ _ (by omega) (by kernel_rfl) ⟨k+1,O,m,hi2,by omega,O⟩
  ·
   have hkN:k=N:=by omega
   rw[hkN,show ms.drop N=[] from List.drop_of_length_le (by rw[hL.len];exact av _)] at hi;apply Wi 7 [1,0] m;simp only[↓aD,aS,aa];intro u m;refine aY O ⟨_,O,((m.b 0 O).full aH aA)⟩ ?_;try simp only[zD,zE]
   exact⟨_,O,m.ext,by rw[hi];rfl⟩
theorem at4{A:Option Addr}{p:P3}(w:am)(hT:Aq aP 9 w A N ts)(hN:N≤1000000000):dR prog 228 [.slice A N cap,pt p] w (fun v _=>v=.bool (wG ts p)):=by
 refine⟨bO func228 (by kernel_rfl),?_⟩;have m:=Mem.refl w
 go_enter func228,ntmps228
 apply nM 11 [0] m;simp only[↓aD];intro g1 u m;refine cP [5] [4,6,7,8,9,10,11,12,13,14,15,16,17,18,19,20,21,22,23,24,25,26,27,28,29,30,31,32,33,34,35,36] (fun n vs wl=>∃(k:Nat),vs=[.int .i64 (k:Int)]∧Mem w wl [bI g1 (qO p) 30]∧(wG (ts.take k) p=false)∧(k≤N)∧(n=N-k)) ?_ ?_
 ·
  exact⟨_,0,O,m,O,bw _,O⟩
 ·
  intro n vs wr hI u K1 hK1;obtain⟨k,rfl,m,h0,hk,hn⟩:=hI;simp only[zu,zF,zG];apply aL 8 [0,0] m;simp only[↓aD,mC];refine bK O ?_ ?_<;>intro hc1
  ·
   obtain⟨t,ht,a,rfl,hrow⟩:=hT.get (i:=k) (by omega);apply aL 4 [0] m;simp only[↓aD];refine mq m aF (by kernel_rfl) (aK aC (aK aC ?_));simp only[zz];refine aK (aG bZ aR O O (by omega) (by omega) (bX (ai _))) (iB 1 [] ?_);simp only[↓aD,dJ,ag,ah,aa];refine⟨by omega,?_⟩;refine ql O (fun u m=>((mE.cor (hrow.ext m.ext) (c:=0) (by omega)).lies aH aA)) ?_;simp only[zz];refine ql O (fun u m=>((m.b 0 O).full aH aA)) ?_;simp only[zz];refine aK (bS O O) (aK aC (cY O (fun hb=>aC) (cY O (fun hb=>aC) ?_)));simp only[zz];refine cY O (fun hb=>aG bZ aR (aX hb O) (aX hb O) (by omega) (by omega) (bX (ai _))) (cY O (fun hb=>aN dA aA (aX hb O) O (by decide) (by decide) O) ?_);simp only[zz];refine fQ O (fun hb u m=>aZ (aX hb O) ((mE.cor (hrow.ext m.ext) (c:=1) (by omega)).lies aH aA)) (fQ O (fun hb u m=>aZ O ((m.b 0 O).full aH aA)) (cY O (fun hb=>bS (aX hb O) (aX hb O)) (aK (eG O O O) (aK aC (cY O (fun hb=>aC) ?_)))));simp only[zz];refine cY O (fun hb=>aC) ?_;simp only[zz];refine cY O (fun hb=>aG bZ aR (aX hb O) (aX hb O) (by omega) (by omega) (bX (ai _))) (cY O (fun hb=>aN dA aA (aX hb O) O (by decide) (by decide) O) ?_);simp only[zz];refine fQ O (fun hb u m=>aZ (aX hb O) ((mE.cor (hrow.ext m.ext) (c:=2) (by omega)).lies aH aA)) (fQ O (fun hb u m=>aZ O ((m.b 0 O).full aH aA)) (cY O (fun hb=>bS (aX hb O) (aX hb O)) (aK (eG O O O) (bN ?_))));intro u m;refine gc ?_;simp only[zz];refine dC O ?_ ?_<;>intro hc2
   ·
    have hh:wG ts p=true:=an2 ht (as9.symm.trans hc2);apply aL 5 [] m;simp only[↓aD];refine aY O O ?_;try simp only[zD,zE]
    exact⟨_,O,m.ext,by rw[hh]⟩
   ·
    have h1:wG (ts.take (k+1)) p=false:=by rw[akZ ht,h0];exact as9.symm.trans hc2
    apply aL 7 [0] m;simp only[↓aD];refine⟨by omega,?_⟩;exact hK1 (N-(k+1)) _ _ (by omega) (by kernel_rfl) ⟨k+1,O,m,h1,by omega,O⟩
  ·
   have hkN:k=N:=by omega
   rw[hkN,show ts.take N=ts from bf (by rw[hT.len];exact av _)] at h0;apply aL 6 [] m;simp only[↓aD];refine aY O O ?_;try simp only[zD,zE]
   exact⟨_,O,m.ext,by rw[h0]⟩
theorem ak1{rim:List E3}{A:Option Addr}{p:P3}(w:am)(hL:Aq bM 6 w A N rim)(hN:N≤1000000000):dR prog 148 [.slice A N cap,pt p] w (fun v _=>v=.bool (wH rim p)):=by
 refine⟨bO func148 (by kernel_rfl),?_⟩;have m:=Mem.refl w
 go_enter func148,ntmps148
 apply nM 11 [0] m;simp only[↓aD];intro g1 u m;refine cP [5] [4,6,7,8,9,10,11,12,13,14,15,16,17,18,19,20,21,22,23,24,25,26,27] (fun n vs wl=>∃(k:Nat),vs=[.int .i64 (k:Int)]∧Mem w wl [bI g1 (qO p) 30]∧(wH (rim.take k) p=false)∧(k≤N)∧(n=N-k)) ?_ ?_
 ·
  exact⟨_,0,O,m,O,bw _,O⟩
 ·
  intro n vs wr hI u K1 hK1;obtain⟨k,rfl,m,h0,hk,hn⟩:=hI;simp only[zu,zF,zG];apply aL 8 [0,0] m;simp only[↓aD,Ee];refine bK O ?_ ?_<;>intro hc1
  ·
   obtain⟨e,he,a,rfl,hrow⟩:=hL.get (i:=k) (by omega);apply aL 4 [0] m;simp only[↓aD];refine mq m aF (by kernel_rfl) (aK aC (aK aC ?_));simp only[zz];refine aK (aG mL eH O O (by omega) (by omega) (bX (ai _))) (iB 1 [] ?_);simp only[↓aD,xM,ag,ah,aa];refine⟨by omega,?_⟩;refine ql O (fun u m=>((akW (hrow.ext m.ext)).lies aH aA)) ?_;simp only[zz];refine ql O (fun u m=>((m.b 0 O).full aH aA)) ?_;simp only[zz];refine aK (bS O O) (aK aC (cY O (fun hb=>aC) (cY O (fun hb=>aC) ?_)));simp only[zz];refine cY O (fun hb=>aG mL eH (aX hb O) (aX hb O) (by omega) (by omega) (bX (ai _))) (cY O (fun hb=>aN Nw aA (aX hb O) O (by decide) (by decide) O) ?_);simp only[zz];refine fQ O (fun hb u m=>aZ (aX hb O) ((akX (hrow.ext m.ext)).lies aH aA)) (fQ O (fun hb u m=>aZ O ((m.b 0 O).full aH aA)) (cY O (fun hb=>bS (aX hb O) (aX hb O)) (aK (eG O O O) (bN ?_))));intro u m;refine gc ?_;simp only[zz];refine dC O ?_ ?_<;>intro hc2
   ·
    have hh:wH rim p=true:=Av he (ata.symm.trans hc2);apply aL 5 [] m;simp only[↓aD];refine aY O O ?_;try simp only[zD,zE]
    exact⟨_,O,m.ext,by rw[hh]⟩
   ·
    have h1:wH (rim.take (k+1)) p=false:=by rw[ak0 he,h0];exact ata.symm.trans hc2
    apply aL 7 [0] m;simp only[↓aD];refine⟨by omega,?_⟩;exact hK1 (N-(k+1)) _ _ (by omega) (by kernel_rfl) ⟨k+1,O,m,h1,by omega,O⟩
  ·
   have hkN:k=N:=by omega
   rw[hkN,show rim.take N=rim from bf (by rw[hL.len];exact av _)] at h0;apply aL 6 [] m;simp only[↓aD];refine aY O O ?_;try simp only[zD,zE]
   exact⟨_,O,m.ext,by rw[h0]⟩
theorem aq1{A:Option Addr}{p:P3}(w:am)(hT:Aq aP 9 w A N ts)(hN:N≤1000000000):dR prog 94 [.slice A N cap,pt p,pt q] w (fun v _=>v=.int .i64 (aeA ts p q)):=by
 refine⟨bO func94 (by kernel_rfl),?_⟩;have m:=Mem.refl w
 go_enter func94,ntmps94
 apply nM 12 [0] m;simp only[↓aD];intro g1 g2 u m;refine cP [7] [6,8,9,10,11,12,13,14,15,16,17,18,19,20,21,22,23,24,25,26,27,28,29,30,31,32,33,34,35,36,37,38,39] (fun n vs wl=>∃(k:Nat),vs=[.int .i64 (k:Int)]∧Mem w wl [bI g2 (qO q) 30,bI g1 (qO p) 30]∧(bE (ts.take k) p q=none)∧(k≤N)∧(n=N-k)) ?_ ?_
 ·
  exact⟨_,0,O,m,O,bw _,O⟩
 ·
  intro n vs wr hI u K1 hK1;obtain⟨k,rfl,m,hb0,hk,hn⟩:=hI;simp only[zu,zF,zG];apply aL 8 [0,0] m;simp only[↓aD,mC];refine bK O ?_ ?_<;>intro hc1
  ·
   obtain⟨t,ht,a,rfl,hrow⟩:=hT.get (i:=k) (by omega);apply aL 21 [4,1,0] m;simp only[↓aD];refine⟨by omega,?_⟩;refine mq m aF (by kernel_rfl) (iB 3 [] ?_);simp only[↓aD];refine aK (aG bZ aR O O (by omega) (by omega) (bX (ai _))) (iB 1 [] ?_);simp only[↓aD,dJ,ag,ah,aa];refine⟨by omega,?_⟩;refine ql O (fun u m=>((mE.cor (hrow.ext m.ext) (c:=0) (by omega)).lies aH aA)) ?_;simp only[zz];refine ql O (fun u m=>((m.b 1 O).full aH aA)) ?_;simp only[zz];refine aK (bS O O) (aK aC (bP O (fun hb=>aC) (bP O (fun hb=>aC) ?_)));simp only[zz];refine bP O (fun hb=>aC) (bP O (fun hb=>fH (m:=0) (n:=1) (r:=1) (aX hb O) O (by decide)) (bP O (fun hb=>dL (m:=1) (n:=3) (r:=1) (aX hb O) O (by decide) (by decide)) ?_));simp only[zz];refine bP O (fun hb=>aG bZ aR (aX hb O) (aX hb O) (by omega) (by omega) (bX (ai _))) (bP O (fun hb=>aN dA aA (aX hb O) (aX hb O) (by decide) (by decide) O) ?_);simp only[zz];refine dM O (fun hb u m=>aZ (aX hb O) ((mE.cor (hrow.ext m.ext) (c:=1) (by omega)).lies aH aA)) (dM O (fun hb u m=>aZ O ((m.b 0 O).full aH aA)) (bP O (fun hb=>bS (aX hb O) (aX hb O)) (aK (cE O O O) (bN ?_))));intro u m;refine gc ?_;simp only[zz];refine dC O ?_ ?_<;>intro hc3
   ·
    have hf:=Kg hb0 ht (asB  (Au.1 hc3));apply aL 6 [] m;simp only[↓aD];refine aY O O ?_;try simp only[zD,zE]
    exact⟨_,O,m.ext,by rw[hf]⟩
   ·
    have hq0:=Lu hc3;apply aL 19 [1,0] m;simp only[↓aD,an];refine⟨by omega,?_⟩;refine mq m aF (by kernel_rfl) (iB 3 [] ?_);simp only[↓aD];refine aK (aG bZ aR O O (by omega) (by omega) (bX (ai _))) (iB 1 [] ?_);simp only[↓aD,dJ,ag,ah,aa];refine⟨by omega,?_⟩;refine ql O (fun u m=>((mE.cor (hrow.ext m.ext) (c:=1) (by omega)).lies aH aA)) ?_;simp only[zz];refine ql O (fun u m=>((m.b 1 O).full aH aA)) ?_;simp only[zz];refine aK (bS O O) (aK aC (bP O (fun hb=>aC) (bP O (fun hb=>aC) ?_)));simp only[zz];refine bP O (fun hb=>aC) (bP O (fun hb=>fH (m:=1) (n:=1) (r:=2) (aX hb O) O (by decide)) (bP O (fun hb=>dL (m:=2) (n:=3) (r:=2) (aX hb O) O (by decide) (by decide)) ?_));simp only[zz];refine bP O (fun hb=>aG bZ aR (aX hb O) (aX hb O) (by omega) (by omega) (bX (ai _))) (bP O (fun hb=>aN dA aA (aX hb O) (aX hb O) (by decide) (by decide) O) ?_);simp only[zz];refine dM O (fun hb u m=>aZ (aX hb O) ((mE.cor (hrow.ext m.ext) (c:=2) (by omega)).lies aH aA)) (dM O (fun hb u m=>aZ O ((m.b 0 O).full aH aA)) (bP O (fun hb=>bS (aX hb O) (aX hb O)) (aK (cE O O O) (bN ?_))));intro u m;refine gc ?_;simp only[zz];refine dC O ?_ ?_<;>intro hc3
    ·
     have hf:=Kg hb0 ht (asC hq0 (Au.1 hc3));apply aL 6 [] m;simp only[↓aD];refine aY O O ?_;try simp only[zD,zE]
     exact⟨_,O,m.ext,by rw[hf]⟩
    ·
     have hq1:=Lu hc3;apply aL 19 [1,0] m;simp only[↓aD,an];refine⟨by omega,?_⟩;refine mq m aF (by kernel_rfl) (iB 3 [] ?_);simp only[↓aD];refine aK (aG bZ aR O O (by omega) (by omega) (bX (ai _))) (iB 1 [] ?_);simp only[↓aD,dJ,ag,ah,aa];refine⟨by omega,?_⟩;refine ql O (fun u m=>((mE.cor (hrow.ext m.ext) (c:=2) (by omega)).lies aH aA)) ?_;simp only[zz];refine ql O (fun u m=>((m.b 1 O).full aH aA)) ?_;simp only[zz];refine aK (bS O O) (aK aC (bP O (fun hb=>aC) (bP O (fun hb=>aC) ?_)));simp only[zz];refine bP O (fun hb=>aC) (bP O (fun hb=>fH (m:=2) (n:=1) (r:=3) (aX hb O) O (by decide)) (bP O (fun hb=>dL (m:=3) (n:=3) (r:=0) (aX hb O) O (by decide) (by decide)) ?_));simp only[zz];refine bP O (fun hb=>aG bZ aR (aX hb O) (aX hb O) (by omega) (by omega) (bX (ai _))) (bP O (fun hb=>aN dA aA (aX hb O) (aX hb O) (by decide) (by decide) O) ?_);simp only[zz];refine dM O (fun hb u m=>aZ (aX hb O) ((mE.cor (hrow.ext m.ext) (c:=0) (by omega)).lies aH aA)) (dM O (fun hb u m=>aZ O ((m.b 0 O).full aH aA)) (bP O (fun hb=>bS (aX hb O) (aX hb O)) (aK (cE O O O) (bN ?_))));intro u m;refine gc ?_;simp only[zz];refine dC O ?_ ?_<;>intro hc3
     ·
      have hf:=Kg hb0 ht (asD hq0 hq1 (Au.1 hc3));apply aL 6 [] m;simp only[↓aD];refine aY O O ?_;try simp only[zD,zE]
      exact⟨_,O,m.ext,by rw[hf]⟩
     ·
      have hq2:=Lu hc3;apply aL 22 [2,0] m;simp only[↓aD,an];refine⟨by omega,?_⟩;exact hK1 (N-(k+1)) _ _ (by omega) (by kernel_rfl) ⟨k+1,O,m,(tW ht hb0).trans (asE hq0 hq1 hq2),by omega,O⟩
  ·
   have hkN:k=N:=by omega
   rw[hkN,show ts.take N=ts from bf (by rw[hT.len];exact av _)] at hb0;apply aL 6 [] m;simp only[↓aD];refine aY O O ?_;try simp only[zD,zE]
   exact⟨_,O,m.ext,by rw[acz hb0]⟩
/-! ### How often a triangle is hit -/
end Go.Proofs.YtfekpcimgncioaaGreatDoor
namespace Go.Proofs.YtfekpcimgncioaaGreatDoor
open Go.Proofs.Tryz
open Go.RowKit Go.Lith
set_option maxRecDepth 100000
attribute [local irreducible] au cq eF bJ cD Code.wp
variable{q:P3}
theorem apq{p:P3}:uU prog 276 [pt p] (.int .i64 p.x):=by
 intro w;refine⟨ajD,?_⟩;have m:=jB.refl w
 go_enter func276,ntmps276
 refine aT fun K1 k1=>aj (pW m O ?_);intro g1 u m;refine aB aJ (aI (k1 _ _ ?_));refine aT fun K2 k2=>aj (aB (bD (c:=0) underlying245 O cN O O) ?_);simp only[zz];refine aQ O ((m.b 0 O).lies1 bT O) ?_;simp only[zz];refine aB aJ (aI (k2 _ _ ?_));refine ik ?_;simp only[zz];try simp only[bu,Exit.then,if_true]
 refine aY O O ?_;try simp only[zD,zE]
 exact⟨_,O,m.ext,O⟩
theorem apr{p:P3}:uU prog 277 [pt p] (.int .i64 p.y):=by
 intro w;refine⟨ajE,?_⟩;have m:=jB.refl w
 go_enter func277,ntmps277
 refine aT fun K1 k1=>aj (pW m O ?_);intro g1 u m;refine aB aJ (aI (k1 _ _ ?_));refine aT fun K2 k2=>aj (aB (bD (c:=0) underlying245 O cN O O) ?_);simp only[zz];refine aQ O ((m.b 0 O).lies1 bT O) ?_;simp only[zz];refine aB aJ (aI (k2 _ _ ?_));refine ik ?_;simp only[zz];try simp only[bu,Exit.then,if_true]
 refine aY O O ?_;try simp only[zD,zE]
 exact⟨_,O,m.ext,O⟩
theorem aps{p:P3}:uU prog 278 [pt p] (.int .i64 p.z):=by
 intro w;refine⟨ajF,?_⟩;have m:=jB.refl w
 go_enter func278,ntmps278
 refine aT fun K1 k1=>aj (pW m O ?_);intro g1 u m;refine aB aJ (aI (k1 _ _ ?_));refine aT fun K2 k2=>aj (aB (bD (c:=0) underlying245 O cN O O) ?_);simp only[zz];refine aQ O ((m.b 0 O).lies1 bT O) ?_;simp only[zz];refine aB aJ (aI (k2 _ _ ?_));refine ik ?_;simp only[zz];try simp only[bu,Exit.then,if_true]
 refine aY O O ?_;try simp only[zD,zE]
 exact⟨_,O,m.ext,O⟩
theorem an3  : uU prog 195 [] (.agg #[.func (.func 276) #[] #[],.func (.func 277) #[] #[],.func (.func 278) #[] #[]]):=by
 intro w;refine⟨ajC,?_⟩;have m:=jB.refl w
 go_enter func195,ntmps195
 refine aT fun K1 k1=>aj (am9 m abW O ?_);intro g1 u m;refine aI (k1 _ _ ?_);refine aT fun K2 k2=>aj (aB (Ju O O O) ?_);simp only[zz];refine ajj m 0 O O O Lw (jO O) O ?_;intro u m;simp only[zy,zx,bQ,zF,zG,aa] at m;refine aI (k2 _ _ ?_);refine ik ?_;try simp only[bu,Exit.then,if_true]
 refine aY O ⟨_,O,((m.b 0 O).full afA Lw)⟩ ?_;try simp only[zD,zE]
 exact⟨_,O,m.ext,O⟩
theorem tL{p:P3}:uU prog 130 [pt p,pt q] (.bool (decide (p.Lt q))):=by
 intro w;refine⟨bO func130 (by kernel_rfl),?_⟩;have m:=jB.refl w
 go_enter func130,ntmps130
 refine aT fun K1 k1=>aj (pW m O ?_);intro g1 u m;simp only[zz];refine pW m O ?_;intro g2 u m;refine aB aJ (aI (k1 _ _ ?_));refine aT fun K2 k2=>aT fun K3 k3=>aj ?_;simp only[zz];refine Pr m O O an3 ?_;intro u m;refine aB aC (aI (k3 _ _ ?_));refine gh (wp_loop_rounds 4 (Cy (aT fun K4 k4=>aj (aB (sG (m:=0) (n:=3) O O (by decide)) (aI (k4 _ _ ?_))))));refine aT fun K5 k5=>wV O (g_ (k5 _ _ ?_));refine aT fun K6 k6=>gh (aT fun K7 k7=>aj (aB (Gw O O) ?_));simp only[zz];refine aB aJ (aI (k7 _ _ ?_));refine aT fun K8 k8=>?_;simp only[zz];refine Gmq m aF (by kernel_rfl) (aK aC ?_);simp only[zz];refine Vk O (fun u m=>((m.b 1 O).full aH aA)) ?_;simp only[zz];refine Jj O O apq (aK aC ?_);simp only[zz];refine Vk O (fun u m=>((m.b 0 O).full aH aA)) ?_;simp only[zz];refine Jj O O apq (aK aJ (aK aJ (bN ?_)));intro u m;refine k8 _ _ ?_;refine aT fun K9 k9=>aj (aB aC ?_);simp only[zz];refine aB aC (aB (uT O O) (aI (k9 _ _ ?_)));simp only[zz];refine bK O ?_ ?_<;>intro hc2
 ·
  refine aT fun K10 k10=>aj (aB aC (aB aC (aB (tQ O O) (aB aJ ?_))));simp only[zz];refine aI (k10 _ _ ?_);refine ik ?_;try simp only[bu,Exit.then,if_true]
  refine aY O O ?_;try simp only[zD,zE]
  exact⟨_,O,m.ext,by simp only[P3.lt_x hc2]⟩
 ·
  have ex:p.x=q.x:=by omega
  refine g_ (k6 _ _ ?_);refine aj (aB (fH (m:=0) (n:=1) (r:=1) O O (by decide)) (aB aC (aI (mK (aT fun K11 k11=>aj (aB (sG (m:=1) (n:=3) O O (by decide)) (aI (k11 _ _ ?_))))))));refine aT fun K12 k12=>wV O (g_ (k12 _ _ ?_));refine aT fun K13 k13=>gh (aT fun K14 k14=>aj (aB (Gx O O) ?_));simp only[zz];refine aB aJ (aI (k14 _ _ ?_));refine aT fun K15 k15=>?_;simp only[zz];refine Gmq m aF (by kernel_rfl) (aK aC ?_);simp only[zz];refine Vk O (fun u m=>((m.b 1 O).full aH aA)) ?_;simp only[zz];refine Jj O O apr (aK aC ?_);simp only[zz];refine Vk O (fun u m=>((m.b 0 O).full aH aA)) ?_;simp only[zz];refine Jj O O apr (aK aJ (aK aJ (bN ?_)));intro u m;refine k15 _ _ ?_;refine aT fun K16 k16=>aj (aB aC ?_);simp only[zz];refine aB aC (aB (uT O O) (aI (k16 _ _ ?_)));simp only[zz];refine bK O ?_ ?_<;>intro hc2
  ·
   refine aT fun K17 k17=>aj (aB aC (aB aC (aB (tQ O O) (aB aJ ?_))));simp only[zz];refine aI (k17 _ _ ?_);refine ik ?_;try simp only[bu,Exit.then,if_true]
   refine aY O O ?_;try simp only[zD,zE]
   exact⟨_,O,m.ext,by simp only[P3.lt_y ex hc2]⟩
  ·
   have ey:p.y=q.y:=by omega
   refine g_ (k13 _ _ ?_);refine aj (aB (fH (m:=1) (n:=1) (r:=2) O O (by decide)) (aB aC (aI (mK (aT fun K18 k18=>aj (aB (sG (m:=2) (n:=3) O O (by decide)) (aI (k18 _ _ ?_))))))));refine aT fun K19 k19=>wV O (g_ (k19 _ _ ?_));refine aT fun K20 k20=>gh (aT fun K21 k21=>aj (aB (Gy O O) ?_));simp only[zz];refine aB aJ (aI (k21 _ _ ?_));refine aT fun K22 k22=>?_;simp only[zz];refine Gmq m aF (by kernel_rfl) (aK aC ?_);simp only[zz];refine Vk O (fun u m=>((m.b 1 O).full aH aA)) ?_;simp only[zz];refine Jj O O aps (aK aC ?_);simp only[zz];refine Vk O (fun u m=>((m.b 0 O).full aH aA)) ?_;simp only[zz];refine Jj O O aps (aK aJ (aK aJ (bN ?_)));intro u m;refine k22 _ _ ?_;refine aT fun K23 k23=>aj (aB aC ?_);simp only[zz];refine aB aC (aB (uT O O) (aI (k23 _ _ ?_)));simp only[zz];refine bK O ?_ ?_<;>intro hc2
   ·
    refine aT fun K24 k24=>aj (aB aC (aB aC (aB (tQ O O) (aB aJ ?_))));simp only[zz];refine aI (k24 _ _ ?_);refine ik ?_;try simp only[bu,Exit.then,if_true]
    refine aY O O ?_;try simp only[zD,zE]
    exact⟨_,O,m.ext,by simp only[P3.lt_z ex ey]⟩
   ·
    have ez:p.z=q.z:=by omega
    refine g_ (k20 _ _ ?_);refine aj (aB (fH (m:=2) (n:=1) (r:=3) O O (by decide)) (aB aC (aI (mK (aT fun K25 k25=>aj (aB (Hi (m:=3) (n:=3) O O (by decide)) (aI (k25 _ _ ?_))))))));refine aT fun K26 k26=>Zk O (wp_exit (k2 _ _ ?_));refine aT fun K27 k27=>aj (aB aJ ?_);simp only[zz];refine aI (k27 _ _ ?_);refine ik ?_;try simp only[bu,Exit.then,if_true]
    refine aY O O ?_;try simp only[zD,zE]
    exact⟨_,O,m.ext,by rw[decide_eq_false (fun h=>by unfold P3.Lt at h;omega)]⟩
theorem Gb{p:P3}:uU prog 116 [pt p,pt q] (.int .i64 (sA p q)):=by
 intro w;refine⟨bO func116 (by kernel_rfl),?_⟩;have m:=jB.refl w
 go_enter func116,ntmps116
 refine aT fun K1 k1=>aj (pW m O ?_);intro g1 u m;simp only[zz];refine pW m O ?_;intro g2 u m;refine aB aJ (aI (k1 _ _ ?_));refine aT fun K2 k2=>gh (aT fun K3 k3=>aj ?_);simp only[zz];refine aQ O ((m.b 1 O).full aH aA) ?_;simp only[zz];refine aQ O ((m.b 0 O).full aH aA) ?_;simp only[zz];refine Pr m O O tL ?_;intro u m;refine aB aJ (aI (k3 _ _ ?_));simp only[zz];refine bK O ?_ ?_<;>intro hc1
 ·
  refine aT fun K4 k4=>aj (aB aJ (aI (k4 _ _ ?_)));refine ik ?_;simp only[zz];try simp only[bu,Exit.then,if_true]
  refine aY O O ?_;try simp only[zD,zE]
  exact⟨_,O,m.ext,by simp[sA,hc1]⟩
 ·
  refine aT fun K5 k5=>aj (aQ O ((m.b 0 O).full aH aA) ?_);simp only[zz];refine aQ O ((m.b 1 O).full aH aA) ?_;simp only[zz];refine Pr m O O tL ?_;intro u m;refine aB aJ (aI (k5 _ _ ?_));simp only[zz];refine bK O ?_ ?_<;>intro hc2
  ·
   refine aT fun K6 k6=>aj (aB aJ (aI (k6 _ _ ?_)));refine ik ?_;simp only[zz];try simp only[bu,Exit.then,if_true]
   refine aY O O ?_;try simp only[zD,zE]
   exact⟨_,O,m.ext,by simp[sA,hc1,hc2]⟩
  ·
   refine g_ (k2 _ _ ?_);refine aT fun K7 k7=>aj (aB aJ (aI (k7 _ _ ?_)));refine ik ?_;simp only[zz];try simp only[bu,Exit.then,if_true]
   refine aY O O ?_;try simp only[zD,zE]
   exact⟨_,O,m.ext,by simp[sA,hc1,hc2]⟩
end Go.Proofs.YtfekpcimgncioaaGreatDoor
namespace Go.Lith
open Go.RowKit
def ak2(P:bz)(f:FuncId)(args:List ak)(w:am)(v:ak):Prop:=Entr P f∧Calls P f args.toArray w fun e w'=>∃u,e=.returned u∧GX w w'∧u=v
section
variable {P:bz} {ds:List dl} {l:List ak} {x y:cd} {T ty:ay}
variable {ops:Array Oper} {Q:Exit→Act→am→Prop} {rest:List Oper} {d:Nat} {pos:String} {after:Array Edge} {w w0:am} {is:List It} {v:ak}
theorem ak3{E:ay}{z:ak}(m:jB w0 w is)(hu:P.underlying T=some (.slice E))(hi:(P.info? E).map (fun i=>(i.size,i.zero))=some (1,some z))(hz:z.cells = #[z]){v v2:ak}(hx:ev l x=v)(hv:v.cells = #[v])(hy:ev l y=v2)(hv2:v2.cells = #[v2])
 (h:∀g u,jB w0 u (bI g [v,v2] E::is)→au P ops Q rest (Fr (l.set d (.slice (some ⟨g,0,none⟩) 2 2)) ds) u) :
 au P ops Q (bp (some d) (.buildSlice T 2 #[(0,x),(1,y)]) ty pos after none::rest) (Fr l ds) w:=by
 cases hq:P.info? E with
 | none=>rw[hq] at hi;cases hi
 | some i =>
  rw[hq] at hi;simp only[ew,fw,fc] at hi;obtain⟨e1,e2⟩:=hi;exact lU (w':=w.alloc (.cells #[v,v2] E)) (v:=.slice (some ⟨w.heap.size,0,none⟩) 2 2) (fun o ho _=>by simp[da,ho,Instr.buildSlice,cj hu,sizeOf,typeInfo,zeroValue,hq,e1,e2,hz,bW,hx,hv,hy,hv2,Instr.fill,newRow,newObj,Sem.run,Jd]) (h _ _ (m.go (m.mem.newB ((dY.refl w).alloc _) (av _) (jP w [v,v2] E)) (av _)))
theorem aaU(z v v2 v3:ak):(((Array.map (fun x=>[z][x%1]?.getD default) (Array.range 3)).setIfInBounds 0 v).setIfInBounds 1 v2).setIfInBounds 2 v3 = #[v,v2,v3]:=by
 apply Array.ext (by simp);intro i h1 h2;have h3:i<3:=by simpa using h2
 rcases Nat.lt_trichotomy i 1 with h | h | h
 · obtain rfl:i=0:=by omega
   simp
 · subst h
   simp
 · obtain rfl:i=2:=by omega
   simp
theorem acB{E:ay}{z:ak}{y3:cd}(m:jB w0 w is)(hu:P.underlying T=some (.slice E))(hi:(P.info? E).map (fun i=>(i.size,i.zero))=some (1,some z))(hz:z.cells = #[z]){v v2 v3:ak}(hx:ev l x=v)(hv:v.cells = #[v])(hy:ev l y=v2)(hv2:v2.cells = #[v2])(hy3:ev l y3=v3)(hv3:v3.cells = #[v3])
 (h:∀g u,jB w0 u (bI g [v,v2,v3] E::is)→au P ops Q rest (Fr (l.set d (.slice (some ⟨g,0,none⟩) 3 3)) ds) u) :
 au P ops Q (bp (some d) (.buildSlice T 3 #[(0,x),(1,y),(2,y3)]) ty pos after none::rest) (Fr l ds) w:=by
 cases hq:P.info? E with
 | none=>rw[hq] at hi;cases hi
 | some i =>
  rw[hq] at hi;simp only[ew,fw,fc] at hi;obtain⟨e1,e2⟩:=hi;exact lU (w':=w.alloc (.cells #[v,v2,v3] E)) (v:=.slice (some ⟨w.heap.size,0,none⟩) 3 3) (fun o ho _=>by simp[da,ho,Instr.buildSlice,cj hu,sizeOf,typeInfo,zeroValue,hq,e1,e2,hz,bW,hx,hv,hy,hv2,hy3,hv3,Instr.fill,newRow,newObj,Sem.run,aaU]) (h _ _ (m.go (m.mem.newB ((dY.refl w).alloc _) (av _) (jP w [v,v2,v3] E)) (av _)))
theorem aaV{f:FuncId}{fo:cd}{xs:Array cd}{args:List ak}{first cap:Array ak}{a0:Array ay}(m:jB w0 w is)(hf:ev l fo=.func (.func f) first cap)(hxs:first.toList++xs.toList.map (ev l)++cap.toList=args)(hc:ak2 P f args w v)
 (h:∀u,jB w0 u is→au P ops Q rest (Fr (l.set d v) ds) u):au P ops Q (bp (some d) (.call { callee:=.value fo,args:=xs,argTypes:=a0 }) ty pos after none::rest) (Fr l ds) w:=by
 refine wpList_plain O fun K hK=>?_;unfold Oper.wp;rw[iZ,oX hc.1 hf hxs _ rfl];refine hc.2.mono ?_;rintro e w' ⟨u,rfl,hE,rfl⟩;show K ((Fr l ds).put (some d) u) w'
 rw[gY];exact hK _ _ (h w' (m.ext' hE))
end
end Go.Lith
namespace Go.Proofs
open Go.Shelf
def Tryz.sort112_ren:Go.Shelf.Ren:=⟨fun | 6=>112 | 15=>181 | 14=>180 | 28=>254 | 29=>255 | 20=>246 | 21=>247 | 22=>248 | 23=>249 | 24=>250 | 25=>251 | 26=>252 | 27=>253 | 46=>309 | 47=>310 | 48=>311 | 49=>312 | 50=>313 | 57=>339 | n=>n,fun | 22=>27 | 24=>39 | 25=>162 | 3=>3 | 39=>141 | 0=>0 | 53=>297 | 55=>231 | 4=>4 | 46=>291 | 45=>290 | 50=>202 | 5=>5 | 9=>9 | 66=>343 | 70=>347 | 76=>369 | 77=>367 | n=>n,fun | n=>n⟩
theorem Tryz.sort112:Go.Proofs.SlLaysF0.n6 Tryz.prog Tryz.sort112_ren:={
 mixed:=by kernel_rfl
 f6:=⟨Tryz.f112.name,by decide,Tryz.func112.trans (congrArg some (by kernel_rfl))⟩
 f14:=⟨Tryz.f180.name,by decide,Tryz.func180.trans (congrArg some (by kernel_rfl))⟩
 f15:=Tryz.func181.trans (congrArg some (by kernel_rfl))
 f20:=⟨Tryz.f246.name,by decide,Tryz.func246.trans (congrArg some (by kernel_rfl))⟩
 f21:=⟨Tryz.f247.name,by decide,Tryz.func247.trans (congrArg some (by kernel_rfl))⟩
 f22:=⟨Tryz.f248.name,by decide,Tryz.func248.trans (congrArg some (by kernel_rfl))⟩
 f23:=⟨Tryz.f249.name,by decide,Tryz.func249.trans (congrArg some (by kernel_rfl))⟩
 f24:=⟨Tryz.f250.name,by decide,Tryz.func250.trans (congrArg some (by kernel_rfl))⟩
 f25:=⟨Tryz.f251.name,by decide,Tryz.func251.trans (congrArg some (by kernel_rfl))⟩
 f26:=⟨Tryz.f252.name,by decide,Tryz.func252.trans (congrArg some (by kernel_rfl))⟩
 f27:=⟨Tryz.f253.name,by decide,Tryz.func253.trans (congrArg some (by kernel_rfl))⟩
 f28:=Tryz.func254.trans (congrArg some (by kernel_rfl))
 f29:=Tryz.func255.trans (congrArg some (by kernel_rfl))
 f46:=⟨Tryz.f309.name,by decide,Tryz.func309.trans (congrArg some (by kernel_rfl))⟩
 f47:=Tryz.func310.trans (congrArg some (by kernel_rfl))
 f48:=Tryz.func311.trans (congrArg some (by kernel_rfl))
 f49:=⟨Tryz.f312.name,by decide,Tryz.func312.trans (congrArg some (by kernel_rfl))⟩
 f50:=⟨Tryz.f313.name,by decide,Tryz.func313.trans (congrArg some (by kernel_rfl))⟩
 f57:=⟨Tryz.f339.name,by decide,Tryz.func339.trans (congrArg some (by kernel_rfl))⟩
 t0:=Tryz.underlying0
 a0:=Tryz.isAgg0
 z0:=Tryz.sizeOf0
 v0:=Tryz.zeroValue0
 t3:=Tryz.underlying3
 a3:=Tryz.isAgg3
 z3:=Tryz.sizeOf3
 v3:=Tryz.zeroValue3
 t4:=Tryz.underlying4
 a4:=Tryz.isAgg4
 z4:=Tryz.sizeOf4
 v4:=Tryz.zeroValue4
 t5:=Tryz.underlying5
 a5:=Tryz.isAgg5
 z5:=Tryz.sizeOf5
 v5:=Tryz.zeroValue5
 t9:=Tryz.underlying9
 a9:=Tryz.isAgg9
 z9:=Tryz.sizeOf9
 v9:=Tryz.zeroValue9
 t22:=Tryz.underlying27
 a22:=Tryz.isAgg27
 z22:=Tryz.sizeOf27
 v22:=Tryz.zeroValue27
 t25:=Tryz.underlying162
 a25:=Tryz.isAgg162
 z25:=Tryz.sizeOf162
 v25:=Tryz.zeroValue162
 t39:=Tryz.underlying141
 a39:=Tryz.isAgg141
 z39:=Tryz.sizeOf141
 v39:=Tryz.zeroValue141
 t45:=Tryz.underlying290
 a45:=Tryz.isAgg290
 z45:=Tryz.sizeOf290
 v45:=Tryz.zeroValue290
 t46:=Tryz.underlying291
 a46:=Tryz.isAgg291
 z46:=Tryz.sizeOf291
 v46:=Tryz.zeroValue291
 t50:=Tryz.underlying202
 a50:=Tryz.isAgg202
 z50:=Tryz.sizeOf202
 v50:=Tryz.zeroValue202
 t53:=Tryz.underlying297
 a53:=Tryz.isAgg297
 z53:=Tryz.sizeOf297
 v53:=Tryz.zeroValue297
 t55:=Tryz.underlying231
 a55:=Tryz.isAgg231
 z55:=Tryz.sizeOf231
 v55:=Tryz.zeroValue231
 t66:=Tryz.underlying343
 a66:=Tryz.isAgg343
 z66:=Tryz.sizeOf343
 v66:=Tryz.zeroValue343
 t70:=Tryz.underlying347
 a70:=Tryz.isAgg347
 z70:=Tryz.sizeOf347
 v70:=Tryz.zeroValue347
 t76:=Tryz.underlying369
 a76:=Tryz.isAgg369
 z76:=Tryz.sizeOf369
 v76:=Tryz.zeroValue369
 t77:=Tryz.underlying367
 a77:=Tryz.isAgg367
 z77:=Tryz.sizeOf367
 v77:=Tryz.zeroValue367 }
def Tryz.sort123_ren:Go.Shelf.Ren:=⟨fun | 6=>123 | 15=>181 | 14=>190 | 28=>254 | 29=>255 | 20=>259 | 21=>260 | 22=>261 | 23=>262 | 24=>263 | 25=>264 | 26=>265 | 27=>266 | 46=>319 | 47=>310 | 48=>311 | 49=>320 | 50=>321 | 57=>343 | n=>n,fun | 22=>105 | 24=>112 | 25=>115 | 3=>3 | 39=>141 | 0=>0 | 53=>297 | 55=>231 | 4=>4 | 46=>291 | 45=>290 | 50=>202 | 5=>5 | 9=>9 | 66=>343 | 70=>347 | 76=>369 | 77=>367 | n=>n,fun | n=>n⟩
theorem Tryz.sort123:Go.Proofs.SlLaysF0.n6 Tryz.prog Tryz.sort123_ren:={
 mixed:=by kernel_rfl
 f6:=⟨Tryz.f123.name,by decide,Tryz.func123.trans (congrArg some (by kernel_rfl))⟩
 f14:=⟨Tryz.f190.name,by decide,Tryz.func190.trans (congrArg some (by kernel_rfl))⟩
 f15:=Tryz.func181.trans (congrArg some (by kernel_rfl))
 f20:=⟨Tryz.f259.name,by decide,Tryz.func259.trans (congrArg some (by kernel_rfl))⟩
 f21:=⟨Tryz.f260.name,by decide,Tryz.func260.trans (congrArg some (by kernel_rfl))⟩
 f22:=⟨Tryz.f261.name,by decide,Tryz.func261.trans (congrArg some (by kernel_rfl))⟩
 f23:=⟨Tryz.f262.name,by decide,Tryz.func262.trans (congrArg some (by kernel_rfl))⟩
 f24:=⟨Tryz.f263.name,by decide,Tryz.func263.trans (congrArg some (by kernel_rfl))⟩
 f25:=⟨Tryz.f264.name,by decide,Tryz.func264.trans (congrArg some (by kernel_rfl))⟩
 f26:=⟨Tryz.f265.name,by decide,Tryz.func265.trans (congrArg some (by kernel_rfl))⟩
 f27:=⟨Tryz.f266.name,by decide,Tryz.func266.trans (congrArg some (by kernel_rfl))⟩
 f28:=Tryz.func254.trans (congrArg some (by kernel_rfl))
 f29:=Tryz.func255.trans (congrArg some (by kernel_rfl))
 f46:=⟨Tryz.f319.name,by decide,Tryz.func319.trans (congrArg some (by kernel_rfl))⟩
 f47:=Tryz.func310.trans (congrArg some (by kernel_rfl))
 f48:=Tryz.func311.trans (congrArg some (by kernel_rfl))
 f49:=⟨Tryz.f320.name,by decide,Tryz.func320.trans (congrArg some (by kernel_rfl))⟩
 f50:=⟨Tryz.f321.name,by decide,Tryz.func321.trans (congrArg some (by kernel_rfl))⟩
 f57:=⟨Tryz.f343.name,by decide,Tryz.func343.trans (congrArg some (by kernel_rfl))⟩
 t0:=Tryz.underlying0
 a0:=Tryz.isAgg0
 z0:=Tryz.sizeOf0
 v0:=Tryz.zeroValue0
 t3:=Tryz.underlying3
 a3:=Tryz.isAgg3
 z3:=Tryz.sizeOf3
 v3:=Tryz.zeroValue3
 t4:=Tryz.underlying4
 a4:=Tryz.isAgg4
 z4:=Tryz.sizeOf4
 v4:=Tryz.zeroValue4
 t5:=Tryz.underlying5
 a5:=Tryz.isAgg5
 z5:=Tryz.sizeOf5
 v5:=Tryz.zeroValue5
 t9:=Tryz.underlying9
 a9:=Tryz.isAgg9
 z9:=Tryz.sizeOf9
 v9:=Tryz.zeroValue9
 t22:=Tryz.underlying105
 a22:=Tryz.isAgg105
 z22:=Tryz.sizeOf105
 v22:=Tryz.zeroValue105
 t25:=Tryz.underlying115
 a25:=Tryz.isAgg115
 z25:=Tryz.sizeOf115
 v25:=Tryz.zeroValue115
 t39:=Tryz.underlying141
 a39:=Tryz.isAgg141
 z39:=Tryz.sizeOf141
 v39:=Tryz.zeroValue141
 t45:=Tryz.underlying290
 a45:=Tryz.isAgg290
 z45:=Tryz.sizeOf290
 v45:=Tryz.zeroValue290
 t46:=Tryz.underlying291
 a46:=Tryz.isAgg291
 z46:=Tryz.sizeOf291
 v46:=Tryz.zeroValue291
 t50:=Tryz.underlying202
 a50:=Tryz.isAgg202
 z50:=Tryz.sizeOf202
 v50:=Tryz.zeroValue202
 t53:=Tryz.underlying297
 a53:=Tryz.isAgg297
 z53:=Tryz.sizeOf297
 v53:=Tryz.zeroValue297
 t55:=Tryz.underlying231
 a55:=Tryz.isAgg231
 z55:=Tryz.sizeOf231
 v55:=Tryz.zeroValue231
 t66:=Tryz.underlying343
 a66:=Tryz.isAgg343
 z66:=Tryz.sizeOf343
 v66:=Tryz.zeroValue343
 t70:=Tryz.underlying347
 a70:=Tryz.isAgg347
 z70:=Tryz.sizeOf347
 v70:=Tryz.zeroValue347
 t76:=Tryz.underlying369
 a76:=Tryz.isAgg369
 z76:=Tryz.sizeOf369
 v76:=Tryz.zeroValue369
 t77:=Tryz.underlying367
 a77:=Tryz.isAgg367
 z77:=Tryz.sizeOf367
 v77:=Tryz.zeroValue367 }
def Tryz.sort128_ren:Go.Shelf.Ren:=⟨fun | 6=>128 | 15=>181 | 14=>194 | 28=>254 | 29=>255 | 20=>268 | 21=>269 | 22=>270 | 23=>271 | 24=>272 | 25=>273 | 26=>274 | 27=>275 | 46=>322 | 47=>310 | 48=>311 | 49=>323 | 50=>324 | 57=>344 | n=>n,fun | 22=>65 | 24=>30 | 25=>123 | 3=>3 | 39=>141 | 0=>0 | 53=>297 | 55=>231 | 4=>4 | 46=>291 | 45=>290 | 50=>202 | 5=>5 | 9=>9 | 66=>343 | 70=>347 | 76=>369 | 77=>367 | n=>n,fun | n=>n⟩
theorem Tryz.sort128:Go.Proofs.SlLaysF0.n6 Tryz.prog Tryz.sort128_ren:={
 mixed:=by kernel_rfl
 f6:=⟨Tryz.f128.name,by decide,Tryz.func128.trans (congrArg some (by kernel_rfl))⟩
 f14:=⟨Tryz.f194.name,by decide,Tryz.func194.trans (congrArg some (by kernel_rfl))⟩
 f15:=Tryz.func181.trans (congrArg some (by kernel_rfl))
 f20:=⟨Tryz.f268.name,by decide,Tryz.func268.trans (congrArg some (by kernel_rfl))⟩
 f21:=⟨Tryz.f269.name,by decide,Tryz.func269.trans (congrArg some (by kernel_rfl))⟩
 f22:=⟨Tryz.f270.name,by decide,Tryz.func270.trans (congrArg some (by kernel_rfl))⟩
 f23:=⟨Tryz.f271.name,by decide,Tryz.func271.trans (congrArg some (by kernel_rfl))⟩
 f24:=⟨Tryz.f272.name,by decide,Tryz.func272.trans (congrArg some (by kernel_rfl))⟩
 f25:=⟨Tryz.f273.name,by decide,Tryz.func273.trans (congrArg some (by kernel_rfl))⟩
 f26:=⟨Tryz.f274.name,by decide,Tryz.func274.trans (congrArg some (by kernel_rfl))⟩
 f27:=⟨Tryz.f275.name,by decide,Tryz.func275.trans (congrArg some (by kernel_rfl))⟩
 f28:=Tryz.func254.trans (congrArg some (by kernel_rfl))
 f29:=Tryz.func255.trans (congrArg some (by kernel_rfl))
 f46:=⟨Tryz.f322.name,by decide,Tryz.func322.trans (congrArg some (by kernel_rfl))⟩
 f47:=Tryz.func310.trans (congrArg some (by kernel_rfl))
 f48:=Tryz.func311.trans (congrArg some (by kernel_rfl))
 f49:=⟨Tryz.f323.name,by decide,Tryz.func323.trans (congrArg some (by kernel_rfl))⟩
 f50:=⟨Tryz.f324.name,by decide,Tryz.func324.trans (congrArg some (by kernel_rfl))⟩
 f57:=⟨Tryz.f344.name,by decide,Tryz.func344.trans (congrArg some (by kernel_rfl))⟩
 t0:=Tryz.underlying0
 a0:=Tryz.isAgg0
 z0:=Tryz.sizeOf0
 v0:=Tryz.zeroValue0
 t3:=Tryz.underlying3
 a3:=Tryz.isAgg3
 z3:=Tryz.sizeOf3
 v3:=Tryz.zeroValue3
 t4:=Tryz.underlying4
 a4:=Tryz.isAgg4
 z4:=Tryz.sizeOf4
 v4:=Tryz.zeroValue4
 t5:=Tryz.underlying5
 a5:=Tryz.isAgg5
 z5:=Tryz.sizeOf5
 v5:=Tryz.zeroValue5
 t9:=Tryz.underlying9
 a9:=Tryz.isAgg9
 z9:=Tryz.sizeOf9
 v9:=Tryz.zeroValue9
 t22:=Tryz.underlying65
 a22:=Tryz.isAgg65
 z22:=Tryz.sizeOf65
 v22:=Tryz.zeroValue65
 t25:=Tryz.underlying123
 a25:=Tryz.isAgg123
 z25:=Tryz.sizeOf123
 v25:=Tryz.zeroValue123
 t39:=Tryz.underlying141
 a39:=Tryz.isAgg141
 z39:=Tryz.sizeOf141
 v39:=Tryz.zeroValue141
 t45:=Tryz.underlying290
 a45:=Tryz.isAgg290
 z45:=Tryz.sizeOf290
 v45:=Tryz.zeroValue290
 t46:=Tryz.underlying291
 a46:=Tryz.isAgg291
 z46:=Tryz.sizeOf291
 v46:=Tryz.zeroValue291
 t50:=Tryz.underlying202
 a50:=Tryz.isAgg202
 z50:=Tryz.sizeOf202
 v50:=Tryz.zeroValue202
 t53:=Tryz.underlying297
 a53:=Tryz.isAgg297
 z53:=Tryz.sizeOf297
 v53:=Tryz.zeroValue297
 t55:=Tryz.underlying231
 a55:=Tryz.isAgg231
 z55:=Tryz.sizeOf231
 v55:=Tryz.zeroValue231
 t66:=Tryz.underlying343
 a66:=Tryz.isAgg343
 z66:=Tryz.sizeOf343
 v66:=Tryz.zeroValue343
 t70:=Tryz.underlying347
 a70:=Tryz.isAgg347
 z70:=Tryz.sizeOf347
 v70:=Tryz.zeroValue347
 t76:=Tryz.underlying369
 a76:=Tryz.isAgg369
 z76:=Tryz.sizeOf369
 v76:=Tryz.zeroValue369
 t77:=Tryz.underlying367
 a77:=Tryz.isAgg367
 z77:=Tryz.sizeOf367
 v77:=Tryz.zeroValue367 }
def Tryz.sort237_ren:Go.Shelf.Ren:=⟨fun | 6=>237 | 15=>181 | 14=>297 | 28=>254 | 29=>255 | 20=>328 | 21=>329 | 22=>330 | 23=>331 | 24=>332 | 25=>333 | 26=>334 | 27=>335 | 46=>345 | 47=>310 | 48=>311 | 49=>346 | 50=>347 | 57=>350 | n=>n,fun | 22=>212 | 24=>215 | 25=>216 | 3=>3 | 39=>141 | 0=>0 | 53=>297 | 55=>231 | 4=>4 | 46=>291 | 45=>290 | 50=>202 | 5=>5 | 9=>9 | 66=>343 | 70=>347 | 76=>369 | 77=>367 | n=>n,fun | n=>n⟩
theorem Tryz.sort237:Go.Proofs.SlLaysF0.n6 Tryz.prog Tryz.sort237_ren:={
 mixed:=by kernel_rfl
 f6:=⟨Tryz.f237.name,by decide,Tryz.func237.trans (congrArg some (by kernel_rfl))⟩
 f14:=⟨Tryz.f297.name,by decide,Tryz.func297.trans (congrArg some (by kernel_rfl))⟩
 f15:=Tryz.func181.trans (congrArg some (by kernel_rfl))
 f20:=⟨Tryz.f328.name,by decide,Tryz.func328.trans (congrArg some (by kernel_rfl))⟩
 f21:=⟨Tryz.f329.name,by decide,Tryz.func329.trans (congrArg some (by kernel_rfl))⟩
 f22:=⟨Tryz.f330.name,by decide,Tryz.func330.trans (congrArg some (by kernel_rfl))⟩
 f23:=⟨Tryz.f331.name,by decide,Tryz.func331.trans (congrArg some (by kernel_rfl))⟩
 f24:=⟨Tryz.f332.name,by decide,Tryz.func332.trans (congrArg some (by kernel_rfl))⟩
 f25:=⟨Tryz.f333.name,by decide,Tryz.func333.trans (congrArg some (by kernel_rfl))⟩
 f26:=⟨Tryz.f334.name,by decide,Tryz.func334.trans (congrArg some (by kernel_rfl))⟩
 f27:=⟨Tryz.f335.name,by decide,Tryz.func335.trans (congrArg some (by kernel_rfl))⟩
 f28:=Tryz.func254.trans (congrArg some (by kernel_rfl))
 f29:=Tryz.func255.trans (congrArg some (by kernel_rfl))
 f46:=⟨Tryz.f345.name,by decide,Tryz.func345.trans (congrArg some (by kernel_rfl))⟩
 f47:=Tryz.func310.trans (congrArg some (by kernel_rfl))
 f48:=Tryz.func311.trans (congrArg some (by kernel_rfl))
 f49:=⟨Tryz.f346.name,by decide,Tryz.func346.trans (congrArg some (by kernel_rfl))⟩
 f50:=⟨Tryz.f347.name,by decide,Tryz.func347.trans (congrArg some (by kernel_rfl))⟩
 f57:=⟨Tryz.f350.name,by decide,Tryz.func350.trans (congrArg some (by kernel_rfl))⟩
 t0:=Tryz.underlying0
 a0:=Tryz.isAgg0
 z0:=Tryz.sizeOf0
 v0:=Tryz.zeroValue0
 t3:=Tryz.underlying3
 a3:=Tryz.isAgg3
 z3:=Tryz.sizeOf3
 v3:=Tryz.zeroValue3
 t4:=Tryz.underlying4
 a4:=Tryz.isAgg4
 z4:=Tryz.sizeOf4
 v4:=Tryz.zeroValue4
 t5:=Tryz.underlying5
 a5:=Tryz.isAgg5
 z5:=Tryz.sizeOf5
 v5:=Tryz.zeroValue5
 t9:=Tryz.underlying9
 a9:=Tryz.isAgg9
 z9:=Tryz.sizeOf9
 v9:=Tryz.zeroValue9
 t22:=Tryz.underlying212
 a22:=Tryz.isAgg212
 z22:=Tryz.sizeOf212
 v22:=Tryz.zeroValue212
 t25:=Tryz.underlying216
 a25:=Tryz.isAgg216
 z25:=Tryz.sizeOf216
 v25:=Tryz.zeroValue216
 t39:=Tryz.underlying141
 a39:=Tryz.isAgg141
 z39:=Tryz.sizeOf141
 v39:=Tryz.zeroValue141
 t45:=Tryz.underlying290
 a45:=Tryz.isAgg290
 z45:=Tryz.sizeOf290
 v45:=Tryz.zeroValue290
 t46:=Tryz.underlying291
 a46:=Tryz.isAgg291
 z46:=Tryz.sizeOf291
 v46:=Tryz.zeroValue291
 t50:=Tryz.underlying202
 a50:=Tryz.isAgg202
 z50:=Tryz.sizeOf202
 v50:=Tryz.zeroValue202
 t53:=Tryz.underlying297
 a53:=Tryz.isAgg297
 z53:=Tryz.sizeOf297
 v53:=Tryz.zeroValue297
 t55:=Tryz.underlying231
 a55:=Tryz.isAgg231
 z55:=Tryz.sizeOf231
 v55:=Tryz.zeroValue231
 t66:=Tryz.underlying343
 a66:=Tryz.isAgg343
 z66:=Tryz.sizeOf343
 v66:=Tryz.zeroValue343
 t70:=Tryz.underlying347
 a70:=Tryz.isAgg347
 z70:=Tryz.sizeOf347
 v70:=Tryz.zeroValue347
 t76:=Tryz.underlying369
 a76:=Tryz.isAgg369
 z76:=Tryz.sizeOf369
 v76:=Tryz.zeroValue369
 t77:=Tryz.underlying367
 a77:=Tryz.isAgg367
 z77:=Tryz.sizeOf367
 v77:=Tryz.zeroValue367 }
end Go.Proofs
namespace Go.Proofs.YtfekpcimgncioaaGreatDoor
open Go.Proofs.Tryz
open Go.RowKit Go.Lith
set_option maxRecDepth 100000
attribute [local irreducible] au cq eF bJ cD Code.wp
attribute [local congr] oG fS fT fU fV fW jR fX fY fZ gA gB gC gD gE gF gG gH eM eN gI gJ gL gM gN jT cW cX cA cU gK jS eO eP eQ gQ gR jU
variable{c:Nat}
theorem eK:rN prog 30 pt:=by
 refine rN.agg (cs:=fun p=>#[.int .i64 p.x,.int .i64 p.y,.int .i64 p.z]) (fun _=>rfl) oN (fun e p=>?_) (fun p q=>?_) (fun p=>?_)
 ·
  refine sR.struct (d:=9999) oN fun f hf=>?_;simp only[ao,bt,or_false] at hf;rcases hf with rfl | rfl | rfl <;> exact⟨_,bU bT rfl,sR.int (d:=9998) iY⟩
 · exact (sM 9998).iff ⟨fun h=>P3.eq h.1 h.2.1 h.2.2,fun h=>by subst h;exact⟨O,O,O⟩⟩
 · simp[pt,Instr.sameBits]
theorem aeB{w0 w:am}{is:List It}{g:Nat}{es:Array cg}{D:List (P3 × Bool)}{p:P3}(m:Mem w0 w is)(k:Nat)(hk:is[k]? = some (mI g es c))(hD1:bA pt ba D es c):Calls prog 114 [.map (some g),pt p].toArray w fun e w'=>∃v i,e=.returned v∧Mem w0 w' (is.set k i)∧(v=.bool (!(bL D p).getD false)∧∃es' c',i=mI g es' c'∧bA pt ba (fI D p true) es' c'):=by
 go_enter func114,ntmps114
 apply nM 10 [0,0] m;simp only[↓aD,aS];intro g1 u m;refine eD (cR (ek:=pt) (en:=ba) (k:=p) (v0:=false) underlying163 jE eK O O (m.p (k+1) hk) hD1) ?_;simp only[zz];apply aM 1 [0] m;simp only[↓aD];refine dC O ?_ ?_<;>intro hc1
 ·
  apply aL 5 [] m;simp only[↓aD];exact aY O O ⟨_,mI g es c,O,by rw[Sf hk];exact m.tl,by rw[hc1];rfl,es,c,rfl,by rw[Ma (by cases hq:bL D p with | none=>rw[hq] at hc1;cases hc1 | some x=>rw[hq] at hc1;exact congrArg some hc1)];exact hD1⟩
 ·
  apply aL 5 [0,0] m;simp only[↓aD,aS];refine eR (ek:=pt) (en:=ba) (a:=p) (v:=true) m (k+1) hk underlying163 eK O O O hD1 ?_;intro es1 c1 u m hD1;simp only[zF,zG] at m;apply aM 6 [] m;simp only[↓aD];exact aY O O ⟨_,_,O,m.tl,by rw[hc1];rfl,_,_,rfl,hD1⟩
theorem an4{w0 w:am}{is:List It}{A:Option Addr}{n cap:Nat}{xs:List P3}(m:Mem w0 w is)(k:Nat)(hi:is[k]? = some (oI 30 3 A n cap (xs.flatMap gX)))(hsz:n<4611686018427387904) :
 Calls prog 128 [.slice A n cap,.func (.func 116) #[] #[]].toArray w fun e w'=>∃v i,e=.returned v∧Mem w0 w' (is.set k i)∧(v=.tuple #[]∧∃ys:List P3,i=oI 30 3 A n cap (ys.flatMap gX)∧ys.Perm xs∧ys.Pairwise fun a b=>ltOf sA b a=false) :=
 Ds (enc:=gX) Tryz.sort128 (fun w=>qU aH w) (fun w=>fA aA w) (fun _=>rfl) (by decide) Od sA ab9 (fun x y=>Gb) m k hi hsz
theorem ahJ{g:Nat}{es:Array cg}{D:List (P3 × Bool)}(w:am)(hM:iN w g es c)(hD:bA pt ba D es c)(hl:D.length≤1000000):dR prog 115 [.map (some g),.func (.func 116) #[] #[]] w (OR 30 3 (fun xs=>∃ps:List P3,xs=ps.flatMap gX∧ps.Perm (D.map (·.1))∧ps.Pairwise fun a b=>¬b.Lt a) w):=by
 refine⟨bO func115 (by kernel_rfl),?_⟩;have m:=Mem.refl w
 go_enter func115,ntmps115
 apply iE 6 [0] m;simp only[↓aD];refine aB aJ ?_;replace m:=m.nilO 30 3;apply aM 5 [0] m;simp only[↓aD];refine sQ m underlying163 O (hM.ext m.ext) ?_;intro r1 u m;apply aM 2 [0] m;simp only[↓aD];refine cP [5] [6,9,10,11,12,13,14,15,16] (fun n vs wl=>∃(dn rs:List (P3 × Bool)) (A1:Option Addr) (n1 cap1:Nat) (sn:Array Nat),vs=[.slice A1 n1 cap1]∧Mem w wl [iI r1 g c sn,oI 30 3 A1 n1 cap1 ((dn.map (·.1)).flatMap gX)]∧(lP pt ba D es sn dn rs)∧(n1=dn.length)∧(n=rs.length)) ?_ ?_
 ·
  exact⟨_,[],D,none,0,0,#[],O,m,lP.start hD,O,O⟩
 ·
  intro n vs wr hI u K1 hK1;obtain⟨dn,rs,A1,n1,cap1,sn,rfl,m,hT,hn1,hn⟩:=hI;have hlen:=hT.len;simp only[zu,zF,zG];apply aL 2 [0] m;simp only[↓aD];refine Dr m 0 O O (hM.ext m.ext) hD hT ?_;intro bb kk vv sn u m hN;simp only[zF,zG] at m;refine aB (nL O) ?_;apply aM 2 [0] m;simp only[↓aD];refine dC O ?_ ?_<;>intro hc1
  ·
   obtain⟨kp,kb,rs2,hp,hT2⟩:=Cd hc1 hN;apply aL 4 [0] m;simp only[↓aD];refine eD (pQ O (m.r 0 O) (hM.ext m.ext) hD hT2) ?_;simp only[zz];apply iH 7 [0,0,0] m;simp only[↓aD,dN,aS,aa];intro g2 u m;refine sO O ?_;intro u g3 e_ h_ k_;replace m:=m.newB e_ h_ k_;simp only[zz];refine cS m 3 O O gW uJ O (by decide) O O O (m.b 0 O).rowsO (nQ O) (by omega) (by omega) ?_;intro A1 cap1 u m;simp only[zF,zG] at m;apply aM 3 [0] m;simp only[↓aD];exact hK1 rs2.length _ _ (by rw[hn,hp.length_eq];exact et _) (by kernel_rfl) ⟨dn++[(kp,kb)],rs2,_,_,_,_,O,((m.reO 3 O ((m.o 3 O).as (by simp[gX]))).sel [false,false,true,true]),hT2,by simp[hn1],O⟩
  ·
   obtain rfl:=Cc hc1 hN;apply aL 5 [0] m;simp only[↓aD];refine nI m 1 adP O O (fun m=>an4 m 1 O (by omega)) ?_;rintro v i u m ⟨rfl,ys,rfl,hys,hso⟩;simp only[zF,zG] at m;apply aM 7 [] m;simp only[↓aD];exact aY O O ⟨_,O,m.ext,_,_,_,_,O,(m.o 1 O),_,O,hys.trans (hT.done.map _),hso.imp fun h=>by simpa[ltOf,mY] using h⟩
theorem El:rN prog 215 ed:=by
 refine rN.agg (cs:=fun p=>#[.int .i64 p.1.x,.int .i64 p.1.y,.int .i64 p.1.z,.int .i64 p.2.x,.int .i64 p.2.y,.int .i64 p.2.z]) (fun _=>rfl) wD (fun e p=>?_) (fun p q=>?_) (fun p=>?_)
 ·
  refine sR.struct (d:=9999) wD fun f hf=>?_;simp only[ao,bt,or_false] at hf;rcases hf with rfl | rfl
  ·
   refine⟨_,cZ aH aA O,?_⟩;refine sR.struct (d:=9998) oN fun f hf=>?_;simp only[ao,bt,or_false] at hf;rcases hf with rfl | rfl | rfl
   · exact⟨_,bU bT O,sR.int (d:=9997) iY⟩
   · exact⟨_,bU bT O,sR.int (d:=9997) iY⟩
   · exact⟨_,bU bT O,sR.int (d:=9997) iY⟩
  ·
   refine⟨_,cZ aH aA O,?_⟩;refine sR.struct (d:=9998) oN fun f hf=>?_;simp only[ao,bt,or_false] at hf;rcases hf with rfl | rfl | rfl
   · exact⟨_,bU bT O,sR.int (d:=9997) iY⟩
   · exact⟨_,bU bT O,sR.int (d:=9997) iY⟩
   · exact⟨_,bU bT O,sR.int (d:=9997) iY⟩
 · exact (ans _).iff ⟨fun h=>Prod.ext (P3.eq h.1 h.2.1 h.2.2.1) (P3.eq h.2.2.2.1 h.2.2.2.2.1 h.2.2.2.2.2),fun h=>by subst h;simp only[and_self]⟩
 · simp[ed,Instr.sameBits]
theorem atb{x y:Int}{g1:Nat}(w:am)(hB1:fE w g1 [.int .i64 x,.int .i64 y] 3):ak2 prog 125 [.slice (some ⟨g1,0,none⟩) 2 2] w (.int .i64 (if x=0 then y else x)):=by
 refine⟨ajA,?_⟩;have m:=jB.refl w
 go_enter func125,ntmps125
 refine aT fun K1 k1=>aj (aB aJ (aI (k1 _ _ ?_)));refine aT fun K2 k2=>aj (aB aJ (aI (k2 _ _ ?_)));refine aT fun K3 k3=>aT fun K4 k4=>aj (aB aC (aB (jD O Cg O) ?_));simp only[zz];refine aB aC (aI (k4 _ _ ?_));refine gh (wp_loop_rounds 3 (Cy (aT fun K5 k5=>aj (aB (sG (m:=0) (n:=2) O O (by decide)) (aI (k5 _ _ ?_))))));refine aT fun K6 k6=>wV O (g_ (k6 _ _ ?_));refine aT fun K7 k7=>gh (aT fun K8 k8=>aj ?_);simp only[zz];refine aB (aG Cg cN O O (by decide) (by omega) O) ?_;simp only[zz];refine aQ O ((hB1.ext m.ext.ext).lies1 bT O) ?_;simp only[zz];refine aB aJ (aI (k8 _ _ ?_));refine aT fun K9 k9=>aj (aB aC (aB aC (aB (uT O O) ?_)));simp only[zz];refine aI (k9 _ _ ?_);refine bK O ?_ ?_<;>intro hc2
 ·
  refine aT fun K10 k10=>aj (aB aC (aB aJ (aI (k10 _ _ ?_))));refine ik ?_;simp only[zz];try simp only[bu,Exit.then,if_true]
  refine aY O O ?_;try simp only[zD,zE]
  exact⟨_,O,m.ext,by rw[if_neg hc2]⟩
 ·
  have hx:x=0:=by omega
  refine g_ (k7 _ _ ?_);refine aj (aB (fH (m:=0) (n:=1) (r:=1) O O (by decide)) (aB aC (aI (mK (aT fun K11 k11=>aj (aB (sG (m:=1) (n:=2) O O (by decide)) (aI (k11 _ _ ?_))))))));refine aT fun K12 k12=>wV O (g_ (k12 _ _ ?_));refine aT fun K13 k13=>gh (aT fun K14 k14=>aj ?_);simp only[zz];refine aB (aG Cg cN O O (by decide) (by omega) O) ?_;simp only[zz];refine aQ O ((hB1.ext m.ext.ext).lies1 bT O) ?_;simp only[zz];refine aB aJ (aI (k14 _ _ ?_));refine aT fun K15 k15=>aj (aB aC (aB aC (aB (uT O O) ?_)));simp only[zz];refine aI (k15 _ _ ?_);refine bK O ?_ ?_<;>intro hc2
  ·
   refine aT fun K16 k16=>aj (aB aC (aB aJ (aI (k16 _ _ ?_))));refine ik ?_;simp only[zz];try simp only[bu,Exit.then,if_true]
   refine aY O O ?_;try simp only[zD,zE]
   exact⟨_,O,m.ext,by rw[if_pos hx]⟩
  ·
   have hy:y=0:=by omega
   refine g_ (k13 _ _ ?_);refine aj (aB (fH (m:=1) (n:=1) (r:=2) O O (by decide)) (aB aC (aI (mK (aT fun K17 k17=>aj (aB (Hi (m:=2) (n:=2) O O (by decide)) (aI (k17 _ _ ?_))))))));refine aT fun K18 k18=>Zk O (wp_exit (k3 _ _ ?_));refine aT fun K19 k19=>aj (aB aC ?_);simp only[zz];refine aB aJ (aI (k19 _ _ ?_));refine ik ?_;simp only[zz];try simp only[bu,Exit.then,if_true]
   refine aY O O ?_;try simp only[zD,zE]
   exact⟨_,O,m.ext,by rw[if_pos hx,hy]⟩
def ahK(a b:E3):Int:=if sA a.1 b.1=0 then sA a.2 b.2 else sA a.1 b.1
theorem oJ{p q:P3}:sA p q=0↔p=q:=by
 unfold sA;rcases P3.lt_tri p q with h | h | h
 · rw[if_pos h];exact⟨fun e=>(by cases e),fun e=>absurd (e▸h) (P3.lt_irrefl _)⟩
 · subst h;rw[if_neg (P3.lt_irrefl _),if_neg (P3.lt_irrefl _)];exact⟨fun _=>rfl,fun _=>rfl⟩
 · rw[if_neg (fun k=>P3.lt_irrefl _ (P3.lt_trans h k)),if_pos h];exact⟨fun e=>(by cases e),fun e=>absurd (e▸h) (P3.lt_irrefl _)⟩
theorem Kh(a b:E3):(ahK a b<0)↔Lh a b:=by
 unfold ahK Lh;split
 ·
  rename_i h;have h':=oJ.1 h;rw[mY];exact⟨fun k=>.inr ⟨h',k⟩,fun k=>k.elim (fun k=>absurd (h'▸k) (P3.lt_irrefl _)) fun k=>k.2⟩
 ·
  rename_i h;rw[mY];exact⟨.inl,fun k=>k.elim id fun k=>absurd (oJ.2 k.1) h⟩
instance:Inhabited E3:=⟨(⟨0,0,0⟩,⟨0,0,0⟩)⟩
theorem ak4:Go.Sort.SWO (Go.Proofs.ltOf ahK) where
 irrefl a:=by simp only[Go.Proofs.ltOf,decide_eq_false_iff_not,Kh];exact Lh.irrefl a
 trans x y z h1 h2:=by
  simp only[Go.Proofs.ltOf,decide_eq_true_eq,Kh] at *
  exact h1.trans h2
 ntrans x y z h1 h2:=by
  simp only[Go.Proofs.ltOf,decide_eq_false_iff_not,Kh] at *
  intro h;rcases Lh.tri y x with k | k | k
  · exact absurd (k.trans h) (by first | exact h2 | exact h1)
  · subst k;first | exact h2 h | exact h1 h
  · first | exact h1 k | exact h2 k
theorem an5{p q:E3}:uU prog 168 [ed p,ed q] (.int .i64 (ahK p q)):=by
 intro w;refine⟨bO func168 (by kernel_rfl),?_⟩;have m:=jB.refl w
 go_enter func168,ntmps168
 refine aT fun K1 k1=>aj (pW m O ?_);intro g1 u m;simp only[zz];refine pW m O ?_;intro g2 u m;refine aB aJ (aI (k1 _ _ ?_));refine aT fun K2 k2=>?_;simp only[zz];refine Ro m 10 aF (by kernel_rfl) ?_;simp only[zy];refine aK (bD (c:=2) wD O aA O O) ?_;simp only[zz];refine Vk O (fun u m=>((m.b 1 O).lies aH aA O O)) ?_;simp only[zz,zy,ap,aa,ah,ag];refine aK (bD (c:=2) wD O aA O O) ?_;simp only[zz];refine Vk O (fun u m=>((m.b 0 O).lies aH aA O O)) ?_;simp only[zz,zy,ap,aa,ah,ag];refine Jj O O (Gb (p:=p.1) (q:=q.1)) (aK (bD (c:=2) wD O aA O O) ?_);simp only[zz];refine Vk O (fun u m=>((m.b 1 O).lies aH aA O O)) ?_;simp only[zz,zy,ap,aa,ah,ag];refine aK (bD (c:=2) wD O aA O O) ?_;simp only[zz];refine Vk O (fun u m=>((m.b 0 O).lies aH aA O O)) ?_;simp only[zz,zy,ap,aa,ah,ag];refine Jj O O (Gb (p:=p.2) (q:=q.2)) (bN ?_);intro u m;simp only[zz];refine ak3 m Cg (z:=.int .i64 0) (by kernel_rfl) O O O O O ?_;intro g3 u m;simp only[zz];refine aaV m O O (atb _ (m.b 0 O)) ?_;intro u m;refine aB aJ (aI (k2 _ _ ?_));refine ik ?_;simp only[zz];try simp only[bu,Exit.then,if_true]
 refine aY O O ?_;try simp only[zD,zE]
 exact⟨_,O,m.ext,O⟩
theorem aaW{w0 w:am}{is:List It}{g:Nat}{es:Array cg}{D:List (E3 × Bool)}{p:E3}(m:Mem w0 w is)(k:Nat)(hk:is[k]? = some (mI g es c))(hD1:bA ed ba D es c):Calls prog 235 [.map (some g),ed p].toArray w fun e w'=>∃v i,e=.returned v∧Mem w0 w' (is.set k i)∧(v=.bool (!(bL D p).getD false)∧∃es' c',i=mI g es' c'∧bA ed ba (fI D p true) es' c'):=by
 go_enter func235,ntmps235
 apply nM 10 [0,0] m;simp only[↓aD,wN];intro g1 u m;refine eD (cR (ek:=ed) (en:=ba) (k:=p) (v0:=false) underlying208 jE El O O (m.p (k+1) hk) hD1) ?_;simp only[zz];apply aM 1 [0] m;simp only[↓aD];refine dC O ?_ ?_<;>intro hc1
 ·
  apply aL 5 [] m;simp only[↓aD];exact aY O O ⟨_,mI g es c,O,by rw[Sf hk];exact m.tl,by rw[hc1];rfl,es,c,rfl,by rw[Ma (by cases hq:bL D p with | none=>rw[hq] at hc1;cases hc1 | some x=>rw[hq] at hc1;exact congrArg some hc1)];exact hD1⟩
 ·
  apply aL 5 [0,0] m;simp only[↓aD,wN];refine eR (ek:=ed) (en:=ba) (a:=p) (v:=true) m (k+1) hk underlying208 El O O O hD1 ?_;intro es1 c1 u m hD1;simp only[zF,zG] at m;apply aM 6 [] m;simp only[↓aD];exact aY O O ⟨_,_,O,m.tl,by rw[hc1];rfl,_,_,rfl,hD1⟩
theorem acC(p:E3):∀v∈bM p,v.oneCell'=true:=fun v h=>by
 simp only[bM,ao,bt,or_false] at h;rcases h with rfl | rfl | rfl | rfl | rfl | rfl <;> rfl
theorem an6{w0 w:am}{is:List It}{A:Option Addr}{n cap:Nat}{xs:List E3}(m:Mem w0 w is)(k:Nat)(hi:is[k]? = some (oI 215 6 A n cap (xs.flatMap bM)))(hsz:n<4611686018427387904) :
 Calls prog 237 [.slice A n cap,.func (.func 168) #[] #[]].toArray w fun e w'=>∃v i,e=.returned v∧Mem w0 w' (is.set k i)∧(v=.tuple #[]∧∃ys:List E3,i=oI 215 6 A n cap (ys.flatMap bM)∧ys.Perm xs∧ys.Pairwise fun a b=>ltOf ahK b a=false) :=
 Ds (enc:=bM) Tryz.sort237 (fun w=>qU Fp w) (fun w=>fA sL w) (fun _=>rfl) (by decide) acC ahK ak4 (fun x y=>an5) m k hi hsz
theorem ahL{g:Nat}{es:Array cg}{D:List (E3 × Bool)}(w:am)(hM:iN w g es c)(hD:bA ed ba D es c)(hl:D.length≤100000000):dR prog 167 [.map (some g),.func (.func 168) #[] #[]] w (OR 215 6 (fun xs=>∃ps:List E3,xs=ps.flatMap bM∧ps.Perm (D.map (·.1))∧ps.Pairwise fun a b=>¬Lh b a) w):=by
 refine⟨bO func167 (by kernel_rfl),?_⟩;have m:=Mem.refl w
 go_enter func167,ntmps167
 apply iE 6 [0] m;simp only[↓aD];refine aB aJ ?_;replace m:=m.nilO 215 6;apply aM 5 [0] m;simp only[↓aD];refine sQ m underlying208 O (hM.ext m.ext) ?_;intro r1 u m;apply aM 2 [0] m;simp only[↓aD];refine cP [5] [6,9,10,11,12,13,14,15,16] (fun n vs wl=>∃(dn rs:List (E3 × Bool)) (A1:Option Addr) (n1 cap1:Nat) (sn:Array Nat),vs=[.slice A1 n1 cap1]∧Mem w wl [iI r1 g c sn,oI 215 6 A1 n1 cap1 ((dn.map (·.1)).flatMap bM)]∧(lP ed ba D es sn dn rs)∧(n1=dn.length)∧(n=rs.length)) ?_ ?_
 ·
  exact⟨_,[],D,none,0,0,#[],O,m,lP.start hD,O,O⟩
 ·
  intro n vs wr hI u K1 hK1;obtain⟨dn,rs,A1,n1,cap1,sn,rfl,m,hT,hn1,hn⟩:=hI;have hlen:=hT.len;simp only[zu,zF,zG];apply aL 2 [0] m;simp only[↓aD];refine Dr m 0 O O (hM.ext m.ext) hD hT ?_;intro bb kk vv sn u m hN;simp only[zF,zG] at m;refine aB (nL O) ?_;apply aM 2 [0] m;simp only[↓aD];refine dC O ?_ ?_<;>intro hc1
  ·
   obtain⟨kp,kb,rs2,hp,hT2⟩:=Cd hc1 hN;apply aL 4 [0] m;simp only[↓aD];refine eD (pQ O (m.r 0 O) (hM.ext m.ext) hD hT2) ?_;simp only[zz];apply iH 7 [0,0,0] m;simp only[↓aD,Ei,wN,aa];intro g2 u m;refine ad2 O ?_;intro u g3 e_ h_ k_;replace m:=m.newB e_ h_ k_;simp only[zz];refine cS m 3 O O underlying212 ano O (by decide) O O O (m.b 0 O).rowsO (nQ O) (by omega) (by omega) ?_;intro A1 cap1 u m;simp only[zF,zG] at m;apply aM 3 [0] m;simp only[↓aD];exact hK1 rs2.length _ _ (by rw[hn,hp.length_eq];exact et _) (by kernel_rfl) ⟨dn++[(kp,kb)],rs2,_,_,_,_,O,((m.reO 3 O ((m.o 3 O).as (by simp[bM]))).sel [false,false,true,true]),hT2,by simp[hn1],O⟩
  ·
   obtain rfl:=Cc hc1 hN;apply aL 5 [0] m;simp only[↓aD];refine nI m 1 (bO func237 (by kernel_rfl)) O O (fun m=>an6 m 1 O (by omega)) ?_;rintro v i u m ⟨rfl,ys,rfl,hys,hso⟩;simp only[zF,zG] at m;apply aM 7 [] m;simp only[↓aD];exact aY O O ⟨_,O,m.ext,_,_,_,_,O,(m.o 1 O),_,O,hys.trans (hT.done.map _),hso.imp fun h=>by simpa[ltOf,Kh] using h⟩
end Go.Proofs.YtfekpcimgncioaaGreatDoor
namespace Go.Lith
open Go.RowKit
section
variable {w0 w w':am} {is:List It}
theorem Mem.plus{js:List It}(m:Mem w0 w is)(h:Mem w w' js):Mem w0 w' (js++is):=by
 have m':=m.ext' h.ext;refine⟨m'.ext,fun i hi=>?_,fun i hi b hb=>?_,List.pairwise_append.2 ⟨h.nd,m.nd,fun i hi j hj b h1 h2=>?_⟩⟩
 · exact (br.1 hi).elim (h.all i) (m'.all i)
 · rcases br.1 hi with hi | hi
   · exact aw m.ext.size (h.ge i hi b hb)
   · exact m'.ge i hi b hb
 · have k1:=h.ge i hi b h1
   have k2:=j.lt w b (m.all j hj) h2;omega
end
structure Hd where
 A:Option Addr
 n:Nat
 cap:Nat
def Hd.v(h:Hd):ak:=.slice h.A h.n h.cap
end Go.Lith
namespace Go.Proofs.YtfekpcimgncioaaGreatDoor
open Go.Proofs.Tryz
open Go.RowKit Go.Lith
set_option maxRecDepth 100000
attribute [local irreducible] au cq eF bJ cD Code.wp
attribute [local congr] oG fS fT fU fV fW jR fX fY fZ gA gB gC gD gE gF gG gH eM eN gI gJ gL gM gN jT cW cX cA cU gK jS eO eP eQ gQ gR jU
variable{E:List E3}{ts:List T3}{cap:Nat}{kp:E3}
theorem ak5{t:T3}:gS prog 234 [tr t] (.agg #[.int .i64 t.a.x,.int .i64 t.a.y,.int .i64 t.a.z,.int .i64 t.b.x,.int .i64 t.b.y,.int .i64 t.b.z,.int .i64 t.b.x,.int .i64 t.b.y,.int .i64 t.b.z,.int .i64 t.c.x,.int .i64 t.c.y,.int .i64 t.c.z,.int .i64 t.c.x,.int .i64 t.c.y,.int .i64 t.c.z,.int .i64 t.a.x,.int .i64 t.a.y,.int .i64 t.a.z]):=by
 intro w;refine⟨bO func234 (by kernel_rfl),?_⟩;have m:=Mem.refl w
 go_enter func234,ntmps234
 apply nM 23 [1,1,1,1,1,1] m;simp only[↓aD,aqW,dJ,aS,Mu,aqX,ag,ah,aa];intro g1 g2;refine⟨by omega,?_⟩;intro u m;apply zvn 3 [0] m;simp only[↓aD,aqV,aa];intro u m;exact aY O ⟨_,O,((m.b 0 O).full anq ahh)⟩ ⟨_,O,m.ext,O⟩
theorem aq2{e:E3}:gS prog 236 [ed e] (ed (e.2,e.1)):=by
 intro w;refine⟨bO func236 (by kernel_rfl),?_⟩;have m:=Mem.refl w
 go_enter func236,ntmps236
 apply nM 15 [1,1,0] m;simp only[↓aD,Ei,Ej,aS,Tv,Mu,wN,aa];intro g1 g2 u m;exact aY O ⟨_,O,((m.b 0 O).full Fp sL)⟩ ⟨_,O,m.ext,O⟩
theorem aeC{e:E3}(h:(!!(bL (dX [] E) e).getD false)=true):false=decide (E++[e]).Nodup:=by
 rw[Bool.not_not] at h;exact (decide_eq_false fun k=>(sV.1 k).2 (Sk.1 h)).symm
theorem aaX{e:E3}{b:Bool}(hb:b=decide E.Nodup)(h:(!!(bL (dX [] E) e).getD false)=false):b=decide (E++[e]).Nodup:=by
 rw[Bool.not_not] at h;rw[hb,decide_eq_decide,sV];exact⟨fun k=>⟨k,fun h2=>by rw[Sk.2 h2] at h;cases h⟩,And.left⟩
theorem jV{K:Type}[DecidableEq K](ks:List K)(k:K):dX [] (ks++[k])=fI (dX [] ks) k true:=acd [] ks [k]
theorem Ua{N:Nat}{A:Option Addr}(w:am)(hT:cJ w A N ts)(hN:N≤10000000):dR prog 164 [.slice A N cap] w (fun v w'=>∃g es c,v=.tuple #[.map (some g),.bool (decide (aU ts).Nodup)]∧Mem w w' [mI g es c]∧bA ed ba (dX [] (aU ts)) es c):=by
 refine⟨bO func164 (by kernel_rfl),?_⟩;have m:=Mem.refl w
 go_enter func164,ntmps164
 apply iE 7 [0] m;simp only[↓aD];refine iV m ?_;intro q8 u m;have hD8:=bA.nil (K:=E3) (V:=Bool) ed ba;apply aM 14 [0] m;simp only[↓aD,mC];refine cP [5,13] [7,9,14,15,16,17,18,19,20,21,22,23,24,25,26,27] (fun n vs wl=>∃(k:Nat) (es:Array cg) (c:Nat) (b:Bool),vs=[.bool b,.int .i64 (k:Int)]∧Mem w wl [mI q8 es c]∧(bA ed ba (dX [] (aU (ts.take k))) es c)∧(b=decide (aU (ts.take k)).Nodup)∧(k≤N)∧(n=N-k)) ?_ ?_
 ·
  exact⟨_,0,_,_,true,O,m,hD8,O,bw _,O⟩
 ·
  intro n vs wr hI u K1 hK1;obtain⟨k,es,c,b0,rfl,m,hD8,hb0,hk,hn⟩:=hI;simp only[zu,zF,zG];apply aL 5 [0,0] m;simp only[↓aD];refine bK O ?_ ?_<;>intro hc1
  ·
   obtain⟨t,ht,_,a,rfl,hrow⟩:=hT.get (i:=k) (by omega);apply aL 5 [0] m;simp only[↓aD];refine aB (aG bZ aR O O (by omega) (by omega) (bX (ai _))) ?_;simp only[zz];refine aQ O ((hrow.ext m.ext).lies dK aR) ?_;simp only[zz];apply iH 6 [0,0,0] m;simp only[↓aD,nB,iG,aa];intro g2 u m;refine wQ m O O ak5 16 [4,1,0] ?_;simp only[↓aD];refine⟨by omega,?_⟩;intro u m;refine aB (Wb O O) ?_;apply iH 7 [0,0,0] m;simp only[↓aD,Ei,wN,aa];intro g3 u m;refine nI m 2 aah O O (fun m=>aaW (p:=(t.a,t.b)) m 2 O hD8) ?_;rintro v i u m ⟨rfl,es',c',rfl,hD'⟩;simp only[zF,zG] at m;simp only[zz];rw[←jV] at hD';clear hD8;have hD8:=hD';clear hD';apply aM 2 [0] m;simp only[↓aD];refine afL m [5] [] (fun vs=>∃(b:Bool),vs=[.bool b]∧(b=decide (((aU (ts.take k))++[(t.a,t.b)])).Nodup)) ?_ ?_
   ·
    intro K2 hK2;refine dC O ?_ ?_<;>intro hc3
    ·
     apply aL 3 [0] m;simp only[↓aD];exact hK2 _ _ (by kernel_rfl) m ⟨false,O,aeC hc3⟩
    ·
     skip
     apply aL 1 [0] m;simp only[↓aD];exact hK2 _ _ (by kernel_rfl) m ⟨b0,O,aaX hb0 hc3⟩
   ·
    intro vs wr m hI u;obtain⟨b1,rfl,hb1⟩:=hI;simp only[zu,zF,zG];apply bF 17 [1,0] m;simp only[↓aD,an];refine⟨by omega,?_⟩;refine aB (Wc O O) ?_;apply iH 7 [0,0,0] m;simp only[↓aD,Ei,wN,aa];intro g4 u m;refine nI m 3 aah O O (fun m=>aaW (p:=(t.b,t.c)) m 3 O hD8) ?_;rintro v i u m ⟨rfl,es',c',rfl,hD'⟩;simp only[zF,zG] at m;simp only[zz];rw[←jV] at hD';clear hD8;have hD8:=hD';clear hD';apply aM 2 [0] m;simp only[↓aD];refine afL m [5] [] (fun vs=>∃(b:Bool),vs=[.bool b]∧(b=decide ((((aU (ts.take k))++[(t.a,t.b)])++[(t.b,t.c)])).Nodup)) ?_ ?_
    ·
     intro K3 hK3;refine dC O ?_ ?_<;>intro hc3
     ·
      apply aL 3 [0] m;simp only[↓aD];exact hK3 _ _ (by kernel_rfl) m ⟨false,O,aeC hc3⟩
     ·
      skip
      apply aL 1 [0] m;simp only[↓aD];exact hK3 _ _ (by kernel_rfl) m ⟨b1,O,aaX hb1 hc3⟩
    ·
     intro vs wr m hI u;obtain⟨b2,rfl,hb2⟩:=hI;simp only[zu,zF,zG];apply bF 17 [1,0] m;simp only[↓aD,an];refine⟨by omega,?_⟩;refine aB (Wd O O) ?_;apply iH 7 [0,0,0] m;simp only[↓aD,Ei,wN,aa];intro g5 u m;refine nI m 4 aah O O (fun m=>aaW (p:=(t.c,t.a)) m 4 O hD8) ?_;rintro v i u m ⟨rfl,es',c',rfl,hD'⟩;simp only[zF,zG] at m;simp only[zz];rw[←jV] at hD';clear hD8;have hD8:=hD';clear hD';apply aM 2 [0] m;simp only[↓aD];refine afL m [5] [] (fun vs=>∃(b:Bool),vs=[.bool b]∧(b=decide (((((aU (ts.take k))++[(t.a,t.b)])++[(t.b,t.c)])++[(t.c,t.a)])).Nodup)) ?_ ?_
     ·
      intro K4 hK4;refine dC O ?_ ?_<;>intro hc3
      ·
       apply aL 3 [0] m;simp only[↓aD];exact hK4 _ _ (by kernel_rfl) m ⟨false,O,aeC hc3⟩
      ·
       skip
       apply aL 1 [0] m;simp only[↓aD];exact hK4 _ _ (by kernel_rfl) m ⟨b2,O,aaX hb2 hc3⟩
     ·
      intro vs wr m hI u;obtain⟨b3,rfl,hb3⟩:=hI;simp only[zu,zF,zG];apply bF 18 [2,0] m;simp only[↓aD,an];refine⟨by omega,?_⟩;exact hK1 (N-(k+1)) _ _ (by omega) (by kernel_rfl) ⟨k+1,_,_,b3,O,(m.sel [false,false,false,false,true]),by rw[wA ht];simpa[dh] using hD8,by rw[hb3,wA ht];simp only[dh,cn,bv],by omega,rfl⟩
  ·
   have hkN:k=N:=by omega
   rw[hkN,show ts.take N=ts from bf (by rw[hT.len];exact av _)] at hD8 hb0;apply aL 9 [] m;simp only[↓aD];refine nP O O O ?_;try simp only[zD,zE]
   exact⟨_,O,m.ext,_,_,_,by rw[hb0],m,hD8⟩
theorem aq3{dn:List (E3 × Bool)}{kb:Bool}(h:(!(bL (dX [] E) (kp.2,kp.1)).getD false)=true):((dn++[(kp,kb)]).map (·.1)).filter (fun e=>decide ((e.2,e.1)∉E))=(dn.map (·.1)).filter (fun e=>decide ((e.2,e.1)∉E))++[kp]:=by
 rw[lZ] at h;simp only[cz,fx,List.map_cons,List.map_nil];rw[List.filter_cons_of_pos (by simpa using h)];rfl
theorem aq4{dn:List (E3 × Bool)}{kb:Bool}(h:(!(bL (dX [] E) (kp.2,kp.1)).getD false)=false):((dn++[(kp,kb)]).map (·.1)).filter (fun e=>decide ((e.2,e.1)∉E))=(dn.map (·.1)).filter (fun e=>decide ((e.2,e.1)∉E)):=by
 rw[lZ] at h;simp only[cz,fx,List.map_cons,List.map_nil];rw[List.filter_cons_of_neg (by simpa using h)];simp
theorem ak6{dn:List (E3 × Bool)}(h:dn.Perm (dX [] E)):(∀a,a∈(dn.map (·.1)).filter (fun e=>decide ((e.2,e.1)∉E))↔a∈E∧(a.2,a.1)∉E)∧((dn.map (·.1)).filter (fun e=>decide ((e.2,e.1)∉E))).length≤E.length:=by
 refine⟨fun a=>?_,?_⟩
 ·
  rw[List.mem_filter,(h.map (·.1)).mem_iff,rP];simp
 ·
  refine aw (fu _ _) ?_;have:=qM E [];rw[List.length_map,h.length_eq];simpa using this
theorem ahM{g c:Nat}{es:Array cg}(w:am)(hM:iN w g es c)(hD:bA ed ba (dX [] E) es c):dR prog 165 [.map (some g)] w (fun v w'=>∃g es c ks,v=.map (some g)∧Mem w w' [mI g es c]∧bA ed ba (dX [] ks) es c∧(∀a,a∈ks↔a∈E∧(a.2,a.1)∉E)∧ks.length≤E.length):=by
 refine⟨bO func165 (by kernel_rfl),?_⟩;have m:=Mem.refl w
 go_enter func165,ntmps165
 apply iE 6 [0] m;simp only[↓aD];refine iV m ?_;intro q8 u m;have hD8:=bA.nil (K:=E3) (V:=Bool) ed ba;apply aM 6 [0] m;simp only[↓aD];refine sQ m underlying208 O (hM.ext m.ext) ?_;intro r1 u m;apply aM 2 [0] m;simp only[↓aD];refine cP [] [4,8,9,10,11,12,13,14,15,16,17,18,19] (fun n vs wl=>∃(dn rs:List (E3 × Bool)) (sn:Array Nat) (es2:Array cg) (c2:Nat),vs=[]∧Mem w wl [iI r1 g c sn,mI q8 es2 c2]∧(bA ed ba (dX [] ((dn.map (·.1)).filter (fun e=>decide ((e.2,e.1)∉E)))) es2 c2)∧(lP ed ba (dX [] E) es sn dn rs)∧(n=rs.length)) ?_ ?_
 ·
  exact⟨_,[],dX [] E,#[],_,_,O,m,hD8,lP.start hD,O⟩
 ·
  intro n vs wr hI u K1 hK1;obtain⟨dn,rs,sn,es2,c2,rfl,m,hD8,hT,hn⟩:=hI;simp only[zu,zF,zG];apply aL 2 [0] m;simp only[↓aD];refine Dr m 0 O O (hM.ext m.ext) hD hT ?_;intro bb kk vv sn u m hN;simp only[zF,zG] at m;refine aB (nL O) ?_;apply aM 2 [0] m;simp only[↓aD];refine dC O ?_ ?_<;>intro hc1
  ·
   obtain⟨kp,kb,rs2,hp,hT2⟩:=Cd hc1 hN;apply aL 4 [0] m;simp only[↓aD];refine eD (pQ O (m.r 0 O) (hM.ext m.ext) hD hT2) ?_;simp only[zz];apply iH 8 [0,0,0] m;simp only[↓aD,Ei,wN,aa];intro g3 u m;refine oP m O O aq2 ?_;intro u m;simp only[zz];refine eD (cR (ek:=ed) (en:=ba) (k:=(kp.2,kp.1)) (v0:=false) underlying208 jE El O O (hM.ext m.ext) hD) ?_;simp only[zz];apply aM 2 [0] m;simp only[↓aD];refine dC O ?_ ?_<;>intro hc2
   ·
    apply aL 3 [0,0] m;simp only[↓aD,wN];refine nI m 2 aah O O (fun m=>aaW (p:=kp) m 2 O hD8) ?_;rintro v i u m ⟨rfl,es',c',rfl,hD'⟩;simp only[zF,zG] at m;simp only[zz];rw[←jV] at hD';clear hD8;have hD8:=hD';clear hD';apply aM 2 [0] m;simp only[↓aD];exact hK1 rs2.length _ _ (by rw[hn,hp.length_eq];exact et _) (by kernel_rfl) ⟨dn++[(kp,kb)],rs2,_,_,_,O,(m.sel [false,true,true]),by rw[aq3 hc2];exact hD8,hT2,O⟩
   ·
    apply aL 2 [0] m;simp only[↓aD];exact hK1 rs2.length _ _ (by rw[hn,hp.length_eq];exact et _) (by kernel_rfl) ⟨dn++[(kp,kb)],rs2,_,_,_,O,(m.sel [false,true,true]),by rw[aq4 hc2];exact hD8,hT2,O⟩
  ·
   obtain rfl:=Cc hc1 hN;apply aL 7 [] m;simp only[↓aD];exact aY O O ⟨_,O,m.ext,_,_,_,_,O,m.sel [false,true],hD8,ak6 hT.done⟩
theorem ahN{ks ps:List E3}(hk:∀a,a∈ks↔a∈aU ts∧(a.2,a.1)∉aU ts)(hp:ps.Perm ((dX [] ks).map (·.1)))(hs:ps.Pairwise fun a b=>¬Lh b a):ps=aO ts:=by
 refine Of ?_ (pD ts) fun a=>?_
 ·
  have hn:ps.Nodup:=hp.nodup_iff.2 (pY _ _ .nil);refine List.Pairwise.imp₂ (fun a b (h:¬Lh b a) (k:a≠b)=>?_) hs hn;rcases Lh.tri a b with h1 | h1 | h1
  · exact h1
  · exact absurd h1 k
  · exact absurd h1 h
 ·
  rw[hp.mem_iff,rP,wE,hk];simp
theorem Mx{N:Nat}{A:Option Addr}(w:am)(hT:cJ w A N ts)(hN:N≤10000000):dR prog 98 [.slice A N cap] w (SL 56 6 ((aO ts).flatMap bM) (aO ts).length w):=by
 refine⟨bO func98 (by kernel_rfl),?_⟩;have m:=Mem.refl w;have htl:=hT.len;have hel:=nF ts
 go_enter func98,ntmps98
 apply iE 7 [0] m;simp only[↓aD];refine bB O O (Ua _ (hT.ext m.ext) (by omega)) ?_;rintro v u e_ ⟨g8,es8,c8,rfl,hM,hD8⟩;replace m:=m.plus hM;clear hM;simp only[cn,bv] at m;apply aM 8 [0] m;simp only[↓aD];refine aB aJ ?_;replace m:=m.nilO 56 6;apply aM 5 [0] m;simp only[↓aD];refine bB O O (ahM _ (m.p 1 O) hD8) ?_;rintro v u e_ ⟨g9,es9,c9,ks,rfl,hM,hD9,hks,hkl⟩;replace m:=m.plus hM;clear hM;simp only[cn,bv] at m;simp only[zz];refine bB O O (ahL _ (m.p 0 O) hD9 (by have h1:=qM ks [];simp only[b_] at h1;omega)) ?_;rintro v u e_ ⟨A5,n5,cap5,_,rfl,h_,ps,rfl,hps,hso⟩;replace m:=m.newO e_ h_;obtain rfl:=ahN hks hps hso;obtain rfl:(aO ts).length=n5:=(m.o 0 rfl).num Cj (by decide);have hle5:=(m.o 0 rfl).le;have hbl:(aO ts).length≤(aU ts).length:=by have:=yJ (all:=aU ts) (aU ts) [];simpa[aO] using this
 apply aM 4 [0] m;simp only[↓aD,aqM];refine cP [5,17] [7,18,19,20,21,22,23,24,25,26,27,28,29] (fun n vs wl=>∃(k:Nat) (A6:Option Addr) (cap6:Nat),vs=[.slice A6 k cap6,.int .i64 (k:Int)]∧Mem w wl [oI 215 6 A5 (aO ts).length cap5 ((aO ts).flatMap bM),oI 56 6 A6 k cap6 (((aO ts).take k).flatMap bM)]∧(k≤(aO ts).length)∧(n=(aO ts).length-k)) ?_ ?_
 ·
  exact⟨_,0,_,_,O,(m.sel [true,false,true,false]),bw _,O⟩
 ·
  intro n vs wr hI u K1 hK1;obtain⟨k,A6,cap6,rfl,m,hk,hn⟩:=hI;simp only[zu,zF,zG];apply aL 5 [0,0] m;simp only[↓aD];refine bK O ?_ ?_<;>intro hc1
  ·
   obtain⟨e,he⟩:∃e,(aO ts)[k]? = some e:=⟨_,ar (by omega)⟩
   obtain⟨gO,rfl⟩:=(m.o 0 rfl).some (by omega);apply aL 5 [0] m;simp only[↓aD];refine aB (aG underlying212 sL O O (by omega) (by omega) (bX (ai _))) ?_;simp only[zz];refine aQ O (((m.o 0 O).at Cj he).lies Fp sL) ?_;simp only[zz];apply iH 10 [0,0,0,0] m;simp only[↓aD,Ei,wN,Tv,aS,Ej,pJ,aa];intro g1 u m;refine Ly O ?_;intro u g2 e_ h_ k_;replace m:=m.newB e_ h_ k_;simp only[zz];refine cS m 3 O O mL Do O (by decide) O O O (m.b 0 O).rowsO (nQ O) (by omega) (by omega) ?_;intro A6 cap6 u m;simp only[zF,zG] at m;apply aM 7 [0] m;simp only[↓aD];refine⟨by omega,?_⟩;exact hK1 ((aO ts).length-(k+1)) _ _ (by omega) (by kernel_rfl) ⟨k+1,_,_,O,((m.reO 3 O ((m.o 3 O).as (by rw[cC he,be];rfl))).sel [false,false,true,true]),by omega,rfl⟩
  ·
   obtain rfl:k=(aO ts).length:=by omega
   rw[fa] at m;apply aL 7 [] m;simp only[↓aD];exact aY O O ⟨_,O,m.ext,⟨_,_,_,O,O,(m.o 1 O)⟩⟩
end Go.Proofs.YtfekpcimgncioaaGreatDoor
namespace Go.Lith
open Go.RowKit Go.ChangeMaps Go.MapKept
def an7{K V:Type}[DecidableEq K](ek:K→ak)(en:V→ak)(D:List (K × V))(k:K)(es:Array cg)(c b:Nat):Prop :=
 ∀u,∃p,es.findIdx? (fun e=>(e.born:Int) == (b:Int))=some p∧bA ek en (fI D k u) (es.modify p fun e=>{ e with val:=en u }) c
section
variable {K V:Type} [DecidableEq K] {P:bz} {T M E ty:ay} {ek:K→ak} {en:V→ak} {w w0:am} {g c:Nat} {es:Array cg} {D:List (K × V)}
theorem aq5{α:Type}{l:List α}{p:Nat}{x:α}(h:l[p]? = some x):l.set p x=l:=by
 apply List.ext_getElem?;intro j;rw[List.getElem?_set];split
 · rename_i e;subst e;rw[if_pos (ax.1 h).1,h]
 · rfl
theorem acD{b p:Nat}(hn:(es.toList.map (·.born)).Nodup){e:cg}(he:es[p]? = some e)(hb:e.born=b):es.findIdx? (fun e=>(e.born:Int) == (b:Int))=some p:=by
 rw[Array.findIdx?_eq_some_iff_getElem];have hp:=(dj.1 he).1;have hx:=(dj.1 he).2;refine⟨hp,by rw[hx,hb];simp,fun j hj=>?_⟩;have hj':j<es.size:=by omega
 simp only[Bool.not_eq_true,beq_eq_false_iff_ne,ne_eq,Int.natCast_inj];intro hh;have h1:(es.toList.map (·.born))[j]'(by simpa using hj')=(es.toList.map (·.born))[p]'(by simpa using hp):=by
  simp only[List.getElem_map,Array.getElem_toList];rw[hh,hx,hb]
 have:=(List.getElem_inj hn).1 h1;omega
theorem aeD{p:Nat}{e:cg}(he:es[p]? = some e)(k u:ak)(hk:e.key=k):(es.modify p fun e=>{ e with val:=u })=es.modify p fun e=>{ e with key:=k,val:=u }:=by
 apply lv;intro j;rw[kg,kg];split
 · rename_i hj;subst hj;rw[he];simp[hk]
 · rfl
theorem an8(hD:bA ek en D es c){p:Nat}{k:K}{v:V}(hp:D[p]? = some (k,v)):∃e,es[p]? = some e∧e.key=ek k∧e.val=en v:=by
 have h2:=congrArg (fun L=>L[p]?) hD.cells;simp only[List.getElem?_map,hp,ew] at h2;rw[Array.getElem?_toList] at h2;cases h3:es[p]? with
 | none=>rw[h3] at h2;cases h2
 | some x =>
  rw[h3] at h2;simp only[ew,fw,Wh,fc] at h2;exact⟨x,O,h2.1,h2.2⟩
theorem Wm{v0:V}(hu:P.underlying M=some (.map T E))(hz:pU P E (en v0))(kt:rN P T ek)(hM:iN w g es c)(hD:bA ek en D es c)(k:K) :
 ∃es' c' b,(Instr.mapEntry M (.map (some g)) (ek k)).run P w=.ok (.tuple #[en ((bL D k).getD v0),.int .i64 (b:Nat)]) (setBlock w g (.map es' c'))∧bA ek en (fI D k ((bL D k).getD v0)) es' c'∧an7 ek en D k es' c' b:=by
 unfold iN at hM;cases hf:pB D k 0 with
 | none =>
  obtain⟨h0,h1,_⟩:=nX D k 0 hf;obtain⟨inf,hi,hz⟩:=hz;have hzv:(zeroValue E).run P w=.ok (en v0) w:=by simp[zeroValue,typeInfo,program,Sem.run,hi,hz]
  have hP:=hD.push k v0;refine⟨_,_,c,?_,by rw[h0,h1];exact hP,fun u=>⟨es.size,acD hP.nd (e:={ key:=ek k,val:=en v0,born:=c }) (by simp) O,?_⟩⟩
  · simp only[Instr.mapEntry,Sem.run_bind,cj hu,Result.andThen,getObj,Sem.run,hM,Sem.run_pure,kt.chk,rO kt k w hD,hf,Option.map_none,hzv,run_setObj_map _ hM,h0,Option.getD_none,goInt]
    rfl
  · rw[h1]
    have e:((es.push { key:=ek k,val:=en v0,born:=c }).modify es.size fun e=>{ e with val:=en u })=es.push { key:=ek k,val:=en u,born:=c }:=by
     apply lv;intro j;rw[kg,Array.getElem?_push,Array.getElem?_push];split
     · rename_i hj;subst hj;simp
     · rename_i hj;simp[Ne.symm hj]
    rw[e];exact hD.push k u
 | some p =>
  obtain⟨j,v⟩:=p;obtain⟨p,rfl,hp,h0,h1,_⟩:=lL D k 0 j v hf;rw[ap] at hf;obtain⟨e,he,hk,hv⟩:=an8 hD hp;have hk':((es[p]?).map (·.key)).getD (ek k)=ek k:=by rw[he];simp[hk]
  have hm:(es.modify p fun e=>{ e with key:=ek k })=es:=by
   apply lv;intro j;rw[kg];split
   · rename_i hj;subst hj;rw[he];simp[←hk]
   · rfl
  refine⟨es,c,e.born,?_,by rw[h0,de,h1,aq5 hp];exact hD,fun u=>⟨p,acD hD.nd he O,?_⟩⟩
  · simp only[Instr.mapEntry,Sem.run_bind,cj hu,Result.andThen,getObj,Sem.run,hM,Sem.run_pure,kt.chk,rO kt k w hD,hf,ew,hk',Instr.keyThatStays,kt.bits,if_true,hm,run_setObj_map _ hM,h0,de,he,hk,kt.bits,if_true,Sem.run_pure,hm,goInt]
    rfl
  · rw[h1,aeD he (ek k) (en u) hk]
    exact hD.set hp u
theorem Pd{b:Nat}{k:K}(hM:iN w g es c)(hS:an7 ek en D k es c b)(u:V) :
 ∃es',(Instr.entryStore M (.map (some g)) (.int .i64 (b:Nat)) (en u)).run P w=.ok () (setBlock w g (.map es' c))∧bA ek en (fI D k u) es' c:=by
 obtain⟨p,hp,hD⟩:=hS u;unfold iN at hM;refine⟨_,?_,hD⟩;simp only[Instr.entryStore,Sem.run_bind,Result.andThen,getObj,Sem.run,hM,Sem.run_pure,asInt,asIntOf,hp];exact run_setObj_map _ hM
theorem af6{ds:List dl}{l:List ak}{op:Op}{ops:Array Oper}{Q:Exit→Act→am→Prop}{rest:List Oper}{pos:String}{after:Array Edge}
 (h:∀o:Oper,o.op=op→∃v w',(da (Fr l).eval o).run P w=.ok (.value v) w'∧au P ops Q rest (Fr l ds) w'):au P ops Q (bp none op ty pos after none::rest) (Fr l ds) w:=by
 refine wpList_plain O fun K hK=>?_;unfold Oper.wp;obtain⟨v,w',hr,hw⟩:=h (bp none op ty pos after none) rfl;rw[iZ,hr];exact hK _ _ hw
variable {is:List It} {ds:List dl} {l:List ak} {x y z:cd} {ops:Array Oper} {Q:Exit→Act→am→Prop} {rest:List Oper} {d:Nat} {pos:String} {after:Array Edge}
theorem Bi{v0:V}{a:K}(m:Mem w0 w is)(k:Nat)(hk:is[k]? = some (mI g es c))(hu:P.underlying M=some (.map T E))(hz:pU P E (en v0))(kt:rN P T ek)(hx:ev l x=.map (some g))(hy:ev l y=ek a)(hD:bA ek en D es c)
 (h:∀es' c' b u,Mem w0 u (is.set k (mI g es' c'))→bA ek en (fI D a ((bL D a).getD v0)) es' c'→an7 ek en D a es' c' b→au P ops Q rest (Fr (l.set d (.tuple #[en ((bL D a).getD v0),.int .i64 (b:Nat)])) ds) u) :
 au P ops Q (bp (some d) (.mapEntry M x y) ty pos after none::rest) (Fr l ds) w:=by
 have hM:=m.p k hk;obtain⟨es',c',b,hr,hD',hS⟩:=Wm hu hz kt hM hD a;have hC:=oF (w:=w) (g:=g) (.map es' c');refine lU (w':=setBlock w g (.map es' c')) (fun o ho hty=>by simp[da,ho,hty,bW,hx,hy,hr]) (h es' c' b _ ?_ hD' hS);exact m.put k hk hC.os hC.tape hC.output (by rw[hC.size];exact av _) (fun b _ hne=>hC.block b fun e=>hne (by rw[e];rfl)) (jH hM) (.inl fun _ h=>h)
theorem rV{v:V}{a:K}{b:Nat}(m:Mem w0 w is)(k:Nat)(hk:is[k]? = some (mI g es c))(hx:ev l x=.map (some g))(hy:ev l y=.int .i64 (b:Nat))(hz:ev l z=en v)(hS:an7 ek en D a es c b)
 (h:∀es' u,Mem w0 u (is.set k (mI g es' c))→bA ek en (fI D a v) es' c→au P ops Q rest (Fr l ds) u):au P ops Q (bp none (.entryStore M x y z) ty pos after none::rest) (Fr l ds) w:=by
 have hM:=m.p k hk;obtain⟨es',hr,hD'⟩:=Pd (P:=P) (M:=M) hM hS v;have hC:=oF (w:=w) (g:=g) (.map es' c);refine Iv (w':=setBlock w g (.map es' c)) (fun o ho=>by simp[da,ho,bW,hx,hy,hz,hr]) (h es' _ ?_ hD');exact m.put k hk hC.os hC.tape hC.output (by rw[hC.size];exact av _) (fun b _ hne=>hC.block b fun e=>hne (by rw[e];rfl)) (jH hM) (.inl fun _ h=>h)
theorem Ub{a:K}{T2:ay}(m:Mem w0 w is)(k:Nat)(hk:is[k]? = some (mI g es c))(hu:P.underlying M=some (.map T E))(kt:rN P T ek)(hx:ev l x=.map (some g))(hy:ev l y=ek a)(hD:bA ek en D es c){a0:Array ay}(ha:a0 = #[M,T2])
 (h:∀es' c' u,Mem w0 u (is.set k (mI g es' c'))→bA ek en (sB D a) es' c'→au P ops Q rest (Fr l ds) u):au P ops Q (bp none (.call { callee:=.builtin .delete,args:=#[x,y],argTypes:=a0 }) ty pos after none::rest) (Fr l ds) w:=by
 subst ha;have hM:=m.p k hk;have hC:=fun es' c'=>oF (w:=w) (g:=g) (.map es' c');refine af6 fun o ho=>?_;obtain⟨es',c',hr,hD'⟩:=ab4 (T2:=T2) (ty:=o.type) hu kt hM hD a;exact⟨.tuple #[],setBlock w g (.map es' c'),by simp[da,ho,resolve,invoke,builtin,bW,hx,hy,hr],h es' c' _ (m.put k hk (hC es' c').os (hC es' c').tape (hC es' c').output (by rw[(hC es' c').size];exact av _) (fun b _ hne=>(hC es' c').block b fun e=>hne (by rw[e];rfl)) (jH hM) (.inl fun _ h=>h)) hD'⟩
end
end Go.Lith
namespace Go.Proofs.YtfekpcimgncioaaGreatDoor
open Go.Proofs.Tryz
open Go.RowKit Go.Lith
set_option maxRecDepth 100000
attribute [local irreducible] au cq eF bJ cD Code.wp
attribute [local congr] oG fS fT fU fV fW jR fX fY fZ gA gB gC gD gE gF gG gH eM eN gI gJ gL gM gN jT cW cX cA cU gK jS eO eP eQ gQ gR jU
variable{K:Type}{s a y:P3}{z N cap:Nat}{ts:List T3}{t:T3}
def uC(n:Nat):ak:=.int .i64 (n:Int)
theorem sZ{V:Type}[DecidableEq K](xs:List (K × V))(k:K)(v:V):qQ [] (xs++[(k,v)])=fI (qQ [] xs) k v:=ace [] xs [(k,v)]
theorem vN[DecidableEq K](ks:List K)(k:K):xV [] (ks++[k])=fI (xV [] ks) k ((bL (xV [] ks) k).getD 0+1):=aka [] ks [k]
theorem acE[DecidableEq K](ks:List K)(k:K):(bL (xV [] ks) k).getD 0=qR ks k:=by rw[acf];simp[bL]
theorem Qh[DecidableEq K](ks:List K)(k:K):(bL (xV [] ks) k).getD 0≤ks.length:=by rw[acE];exact fu _ _
theorem aq6{nx:P3→Option P3}{n:Nat}(h:¬a=s)(hb:nx a=some y):Dv nx s (n+1) a z=Dv nx s n y (z+1):=by rw[Dv,if_neg h,hb]
theorem an9{nx:P3→Option P3}{n:Nat}(hb:nx a=none):Dv nx s n a z=(a,z):=by
 cases n with
 | zero=>rfl
 | succ n=>rw[Dv,hb];split <;> rfl
theorem aq7{nx:P3→Option P3}{M:Nat}(hz:z≤M+1)(h:a=s∨¬z≤M):Dv nx s (M+1-z) a z=(a,z):=by
 rcases h with rfl | h
 · exact akb
 · rw[show M+1-z=0 by omega];rfl
theorem aq8{x:P3}:(¬x.x=y.x∨¬x.y=y.y∨¬x.z=y.z)↔¬x=y:=by
 rw[←nV];exact⟨fun h k=>h.elim (fun h=>h k.1) fun h=>h.elim (fun h=>h k.2.1) fun h=>h k.2.2,fun h=>by
  rcases Classical.em (x.x=y.x) with h1 | h1
  ·
   rcases Classical.em (x.y=y.y) with h2 | h2
   · exact .inr (.inr fun h3=>h ⟨h1,h2,h3⟩)
   · exact .inr (.inl h2)
  · exact .inl h1⟩
theorem ak7{M:Nat}(h:(decide (¬(a.x=s.x∧a.y=s.y∧a.z=s.z))&&decide ((z:Int)≤(M:Int)))=false):a=s∨¬z≤M:=by
 rcases Classical.em (a=s) with k | k
 · exact .inl k
 ·
  refine .inr fun k4=>?_;rw[decide_eq_true (mt nV.1 k),decide_eq_true (Int.ofNat_le.2 k4)] at h;cases h
theorem ak8{es:Array cg}{sn:Array Nat}{dn:List (E3 × P3)}(h:lP ed pt (qQ [] (kL ts)) es sn dn [])(hnd:(aU ts).Nodup)(hno:∀y∈dn,¬aay ts y.1)(e:E3):¬aay ts e:=fun he=>by
 obtain⟨x,hx,_⟩:=id he;have h1:bL (qQ [] (kL ts)) e=some x:=by rw[←hx];exact yN hnd e.1 e.2
 exact hno _ (h.done.mem_iff.2 (rM h1)) he
theorem Yu(ts:List T3):(bG ts).length=ts.length*3:=vG ts
theorem aeE{A:Option Addr}(w:am)(hT:cJ w A N ts)(hN:N≤10000000)(hnd:(aU ts).Nodup):dR prog 166 [.slice A N cap] w (fun v _=>v=.bool ((cK ts).any (Jo ts))):=by
 refine⟨bO func166 (by kernel_rfl),?_⟩;have m:=Mem.refl w
 go_enter func166,ntmps166
 apply iE 6 [0] m;simp only[↓aD];refine iV m ?_;intro q8 u m;have hD8:=bA.nil (K:=E3) (V:=P3) ed pt;apply aM 4 [0] m;simp only[↓aD];refine iV m ?_;intro q9 u m;have hD9:=bA.nil (K:=P3) (V:=Nat) pt uC;apply aM 10 [0] m;simp only[↓aD,mC];refine cP [18] [6,7,8,19,20,21,22,23,24,25,26,27,28,29,30,31,32,33,34,35,36,37,38,39,40,41,42,43,44,45,46,47] (fun n vs wl=>∃(k:Nat) (es8 es9:Array cg) (c8 c9:Nat),vs=[.int .i64 (k:Int)]∧Mem w wl [mI q9 es9 c9,mI q8 es8 c8]∧(bA ed pt (qQ [] (kL (ts.take k))) es8 c8)∧(bA pt uC (xV [] (bG (ts.take k))) es9 c9)∧(k≤N)∧(n=N-k)) ?_ ?_
 ·
  exact⟨_,0,_,_,_,_,O,m,hD8,hD9,bw _,O⟩
 ·
  intro n vs wr hI u K1 hK1;obtain⟨k,es8,es9,c8,c9,rfl,m,hD8,hD9,hk,hn⟩:=hI;simp only[zu,zF,zG];apply aL 5 [0,0] m;simp only[↓aD];refine bK O ?_ ?_<;>intro hc1
  ·
   obtain⟨t,ht,_,a,rfl,hrow⟩:=hT.get (i:=k) (by omega);have hcl:=Yu (ts.take k);rw[bx] at hcl;apply aL 5 [0] m;simp only[↓aD];refine aB (aG bZ aR O O (by omega) (by omega) (bX (ai _))) ?_;simp only[zz];refine aQ O ((hrow.ext m.ext).lies dK aR) ?_;simp only[zz];apply iH 8 [0,0] m;simp only[↓aD,nB,iG,aa];intro g3 u m;apply bF 15 [4,1,0] m;simp only[↓aD];refine⟨by omega,?_⟩;refine aB (kF O O) ?_;apply iH 5 [0,0] m;simp only[↓aD,dN,aS,aa];intro g4 u m;refine eB m 13 aF (by kernel_rfl) ?_;simp only[zy];refine iB 4 [0] ?_;simp only[↓aD,aS,an];refine⟨by omega,?_⟩;refine aK (dL (m:=1) (n:=3) (r:=1) O O (by decide) (by decide)) (iB 5 [1] ?_);simp only[↓aD,dJ,aS,Mu,ag,ah,aa,an];refine⟨by omega,?_⟩;refine aK (dL (m:=2) (n:=3) (r:=2) O O (by decide) (by decide)) (iB 2 [1] ?_);simp only[↓aD,dJ,aS,ag,ah,aa];refine⟨by omega,?_⟩;refine bN ?_;intro u m;refine eR (ek:=ed) (en:=pt) (a:=(t.a,t.b)) (v:=t.c) m 3 O Mr El O O O hD8 ?_;intro es8 c8 u m hD8;simp only[zF,zG] at m;rw[←sZ] at hD8;refine aI (gc ?_);refine lY m 2 [] [40,41,42,43,44,45] (fun vs i=>∃(es:Array cg) (c:Nat),vs=[]∧i=mI q9 es c∧(bA pt uC (xV [] (((bG (ts.take k))++[t.a]))) es c)) ?_ ?_
   ·
    intro K2 hK2;refine Xh m [true,true,false,true] (.take 0 (.take 1 (.two 2 (.take 3 (.one 4 (.take 5 (.one 6 .nil)))) 4 (.take 5 (.one 2 (.take 3 (.one 6 .nil))))))) aF (by kernel_rfl) (cB (fun _ _ _ _ _ h=>h)) ?_;intro u m;have hb:=Qh (bG (ts.take k)) t.a;try simp only[a_,az,b_] at hb
    refine fD (by simp only[zw];rfl) (cF aC (bY (fD (by simp only[zw];rfl) ?_)));simp only[zz];refine nT O (fun u m=>((m.b 0 O).full aH aA)) ?_;simp only[zz];refine bY ?_;refine abI (by simp only[zw];rfl) (by simp only[zw];rfl) ?_ ?_
    ·
     refine eD (cR (ek:=pt) (en:=uC) (k:=t.a) (v0:=0) qB mS eK O O (m.p 2 O) hD9) ?_;simp only[zz];refine aI ⟨m.sel [true,true,false,true],?_⟩;refine fD (by simp only[zw];rfl) (cF (fH rfl rfl (bH (by omega) (by omega))) (bY (oM (by simp only[zw];rfl) ?_)));simp only[zz];refine Bi (ek:=pt) (en:=uC) (a:=t.a) (v0:=0) m 2 O qB mS eK O O hD9 ?_;intro es9 c9 bs u m hD' hS;simp only[zF,zG] at m;refine aI ⟨m.sel [true,true,false,true],?_⟩;refine fD (by simp only[zw];rfl) (cF (dD rfl rfl) (bY (oM (by simp only[zw];rfl) ?_)));simp only[zz];refine rV (ek:=pt) (en:=uC) (a:=t.a) (v:=(bL (xV [] (bG (ts.take k))) t.a).getD 0+1) m 2 O O O O hS ?_;intro es9 u m hD9;simp only[zF,zG] at m;rw[←vN] at hD9;refine aI ⟨m.sel [true,true,false,true],?_⟩;refine Gs (gk ?_);exact hK2 _ _ _ (by kernel_rfl) m ⟨_,_,O,O,hD9⟩
    ·
     refine Bi (ek:=pt) (en:=uC) (a:=t.a) (v0:=0) m 2 O qB mS eK O O hD9 ?_;intro es9 c9 bs u m hD' hS;simp only[zF,zG] at m;refine aI ⟨m.sel [true,true,false,true],?_⟩;refine fD (by simp only[zw];rfl) (cF (dD rfl rfl) (bY (oM (by simp only[zw];rfl) ?_)));simp only[zz];refine eD (cR (ek:=pt) (en:=uC) (k:=t.a) (v0:=0) qB mS eK O O (m.p 2 O) hD') ?_;simp only[zz];rw[kO,if_pos rfl,de];refine aI ⟨m.sel [true,true,false,true],?_⟩;refine fD (by simp only[zw];rfl) (cF (fH rfl rfl (bH (by omega) (by omega))) (bY (oM (by simp only[zw];rfl) ?_)));simp only[zz];refine rV (ek:=pt) (en:=uC) (a:=t.a) (v:=(bL (xV [] (bG (ts.take k))) t.a).getD 0+1) m 2 O O O O hS ?_;intro es9 u m hD9;simp only[zF,zG] at m;rw[←vN] at hD9;refine aI ⟨m.sel [true,true,false,true],?_⟩;refine Gs (gk ?_);exact hK2 _ _ _ (by kernel_rfl) m ⟨_,_,O,O,hD9⟩
   ·
    intro vs i wr m hI u;obtain⟨es9,c9,rfl,rfl,hD9⟩:=hI;simp only[zF,zG] at m;simp only[zu,zF,zG];apply bF 18 [1,0] m;simp only[↓aD,an];refine⟨by omega,?_⟩;refine aB (kG O O) ?_;apply iH 5 [0,0] m;simp only[↓aD,dN,aS,aa];intro g5 u m;refine eB m 13 aF (by kernel_rfl) ?_;simp only[zy];refine iB 4 [0] ?_;simp only[↓aD,aS,an];refine⟨by omega,?_⟩;refine aK (dL (m:=2) (n:=3) (r:=2) O O (by decide) (by decide)) (iB 5 [2] ?_);simp only[↓aD,dJ,aS,Mu,ag,ah,aa,an];refine⟨by omega,?_⟩;refine aK (dL (m:=3) (n:=3) (r:=0) O O (by decide) (by decide)) (iB 2 [2] ?_);simp only[↓aD,dJ,aS,ag,ah,aa];refine⟨by omega,?_⟩;refine bN ?_;intro u m;refine eR (ek:=ed) (en:=pt) (a:=(t.b,t.c)) (v:=t.a) m 4 O Mr El O O O hD8 ?_;intro es8 c8 u m hD8;simp only[zF,zG] at m;rw[←sZ] at hD8;refine aI (gc ?_);refine lY m 3 [] [40,41,42,43,44,45] (fun vs i=>∃(es:Array cg) (c:Nat),vs=[]∧i=mI q9 es c∧(bA pt uC (xV [] (((((bG (ts.take k))++[t.a]))++[t.b]))) es c)) ?_ ?_
    ·
     intro K3 hK3;refine Xh m [true,true,true,false,true] (.take 0 (.take 1 (.two 2 (.take 3 (.one 4 (.take 5 (.one 6 .nil)))) 4 (.take 5 (.one 2 (.take 3 (.one 6 .nil))))))) aF (by kernel_rfl) (cB (fun _ _ _ _ _ h=>h)) ?_;intro u m;have hb:=Qh (((bG (ts.take k))++[t.a])) t.b;try simp only[a_,az,b_] at hb
     refine fD (by simp only[zw];rfl) (cF aC (bY (fD (by simp only[zw];rfl) ?_)));simp only[zz];refine nT O (fun u m=>((m.b 0 O).full aH aA)) ?_;simp only[zz];refine bY ?_;refine abI (by simp only[zw];rfl) (by simp only[zw];rfl) ?_ ?_
     ·
      refine eD (cR (ek:=pt) (en:=uC) (k:=t.b) (v0:=0) qB mS eK O O (m.p 3 O) hD9) ?_;simp only[zz];refine aI ⟨m.sel [true,true,true,false,true],?_⟩;refine fD (by simp only[zw];rfl) (cF (fH rfl rfl (bH (by omega) (by omega))) (bY (oM (by simp only[zw];rfl) ?_)));simp only[zz];refine Bi (ek:=pt) (en:=uC) (a:=t.b) (v0:=0) m 3 O qB mS eK O O hD9 ?_;intro es9 c9 bs u m hD' hS;simp only[zF,zG] at m;refine aI ⟨m.sel [true,true,true,false,true],?_⟩;refine fD (by simp only[zw];rfl) (cF (dD rfl rfl) (bY (oM (by simp only[zw];rfl) ?_)));simp only[zz];refine rV (ek:=pt) (en:=uC) (a:=t.b) (v:=(bL (xV [] (((bG (ts.take k))++[t.a]))) t.b).getD 0+1) m 3 O O O O hS ?_;intro es9 u m hD9;simp only[zF,zG] at m;rw[←vN] at hD9;refine aI ⟨m.sel [true,true,true,false,true],?_⟩;refine Gs (gk ?_);exact hK3 _ _ _ (by kernel_rfl) m ⟨_,_,O,O,hD9⟩
     ·
      refine Bi (ek:=pt) (en:=uC) (a:=t.b) (v0:=0) m 3 O qB mS eK O O hD9 ?_;intro es9 c9 bs u m hD' hS;simp only[zF,zG] at m;refine aI ⟨m.sel [true,true,true,false,true],?_⟩;refine fD (by simp only[zw];rfl) (cF (dD rfl rfl) (bY (oM (by simp only[zw];rfl) ?_)));simp only[zz];refine eD (cR (ek:=pt) (en:=uC) (k:=t.b) (v0:=0) qB mS eK O O (m.p 3 O) hD') ?_;simp only[zz];rw[kO,if_pos rfl,de];refine aI ⟨m.sel [true,true,true,false,true],?_⟩;refine fD (by simp only[zw];rfl) (cF (fH rfl rfl (bH (by omega) (by omega))) (bY (oM (by simp only[zw];rfl) ?_)));simp only[zz];refine rV (ek:=pt) (en:=uC) (a:=t.b) (v:=(bL (xV [] (((bG (ts.take k))++[t.a]))) t.b).getD 0+1) m 3 O O O O hS ?_;intro es9 u m hD9;simp only[zF,zG] at m;rw[←vN] at hD9;refine aI ⟨m.sel [true,true,true,false,true],?_⟩;refine Gs (gk ?_);exact hK3 _ _ _ (by kernel_rfl) m ⟨_,_,O,O,hD9⟩
    ·
     intro vs i wr m hI u;obtain⟨es9,c9,rfl,rfl,hD9⟩:=hI;simp only[zF,zG] at m;simp only[zu,zF,zG];apply bF 18 [1,0] m;simp only[↓aD,an];refine⟨by omega,?_⟩;refine aB (kH O O) ?_;apply iH 5 [0,0] m;simp only[↓aD,dN,aS,aa];intro g6 u m;refine eB m 13 aF (by kernel_rfl) ?_;simp only[zy];refine iB 4 [0] ?_;simp only[↓aD,aS,an];refine⟨by omega,?_⟩;refine aK (dL (m:=3) (n:=3) (r:=0) O O (by decide) (by decide)) (iB 5 [3] ?_);simp only[↓aD,dJ,aS,Mu,ag,ah,aa,an];refine⟨by omega,?_⟩;refine aK (dL (m:=4) (n:=3) (r:=1) O O (by decide) (by decide)) (iB 2 [3] ?_);simp only[↓aD,dJ,aS,ag,ah,aa];refine⟨by omega,?_⟩;refine bN ?_;intro u m;refine eR (ek:=ed) (en:=pt) (a:=(t.c,t.a)) (v:=t.b) m 5 O Mr El O O O hD8 ?_;intro es8 c8 u m hD8;simp only[zF,zG] at m;rw[←sZ] at hD8;refine aI (gc ?_);refine lY m 4 [] [40,41,42,43,44,45] (fun vs i=>∃(es:Array cg) (c:Nat),vs=[]∧i=mI q9 es c∧(bA pt uC (xV [] (((((((bG (ts.take k))++[t.a]))++[t.b]))++[t.c]))) es c)) ?_ ?_
     ·
      intro K4 hK4;refine Xh m [true,true,true,true,false,true] (.take 0 (.take 1 (.two 2 (.take 3 (.one 4 (.take 5 (.one 6 .nil)))) 4 (.take 5 (.one 2 (.take 3 (.one 6 .nil))))))) aF (by kernel_rfl) (cB (fun _ _ _ _ _ h=>h)) ?_;intro u m;have hb:=Qh (((((bG (ts.take k))++[t.a]))++[t.b])) t.c;try simp only[a_,az,b_] at hb
      refine fD (by simp only[zw];rfl) (cF aC (bY (fD (by simp only[zw];rfl) ?_)));simp only[zz];refine nT O (fun u m=>((m.b 0 O).full aH aA)) ?_;simp only[zz];refine bY ?_;refine abI (by simp only[zw];rfl) (by simp only[zw];rfl) ?_ ?_
      ·
       refine eD (cR (ek:=pt) (en:=uC) (k:=t.c) (v0:=0) qB mS eK O O (m.p 4 O) hD9) ?_;simp only[zz];refine aI ⟨m.sel [true,true,true,true,false,true],?_⟩;refine fD (by simp only[zw];rfl) (cF (fH rfl rfl (bH (by omega) (by omega))) (bY (oM (by simp only[zw];rfl) ?_)));simp only[zz];refine Bi (ek:=pt) (en:=uC) (a:=t.c) (v0:=0) m 4 O qB mS eK O O hD9 ?_;intro es9 c9 bs u m hD' hS;simp only[zF,zG] at m;refine aI ⟨m.sel [true,true,true,true,false,true],?_⟩;refine fD (by simp only[zw];rfl) (cF (dD rfl rfl) (bY (oM (by simp only[zw];rfl) ?_)));simp only[zz];refine rV (ek:=pt) (en:=uC) (a:=t.c) (v:=(bL (xV [] (((((bG (ts.take k))++[t.a]))++[t.b]))) t.c).getD 0+1) m 4 O O O O hS ?_;intro es9 u m hD9;simp only[zF,zG] at m;rw[←vN] at hD9;refine aI ⟨m.sel [true,true,true,true,false,true],?_⟩;refine Gs (gk ?_);exact hK4 _ _ _ (by kernel_rfl) m ⟨_,_,O,O,hD9⟩
      ·
       refine Bi (ek:=pt) (en:=uC) (a:=t.c) (v0:=0) m 4 O qB mS eK O O hD9 ?_;intro es9 c9 bs u m hD' hS;simp only[zF,zG] at m;refine aI ⟨m.sel [true,true,true,true,false,true],?_⟩;refine fD (by simp only[zw];rfl) (cF (dD rfl rfl) (bY (oM (by simp only[zw];rfl) ?_)));simp only[zz];refine eD (cR (ek:=pt) (en:=uC) (k:=t.c) (v0:=0) qB mS eK O O (m.p 4 O) hD') ?_;simp only[zz];rw[kO,if_pos rfl,de];refine aI ⟨m.sel [true,true,true,true,false,true],?_⟩;refine fD (by simp only[zw];rfl) (cF (fH rfl rfl (bH (by omega) (by omega))) (bY (oM (by simp only[zw];rfl) ?_)));simp only[zz];refine rV (ek:=pt) (en:=uC) (a:=t.c) (v:=(bL (xV [] (((((bG (ts.take k))++[t.a]))++[t.b]))) t.c).getD 0+1) m 4 O O O O hS ?_;intro es9 u m hD9;simp only[zF,zG] at m;rw[←vN] at hD9;refine aI ⟨m.sel [true,true,true,true,false,true],?_⟩;refine Gs (gk ?_);exact hK4 _ _ _ (by kernel_rfl) m ⟨_,_,O,O,hD9⟩
     ·
      intro vs i wr m hI u;obtain⟨es9,c9,rfl,rfl,hD9⟩:=hI;simp only[zF,zG] at m;simp only[zu,zF,zG];apply bF 18 [2,0] m;simp only[↓aD,an];refine⟨by omega,?_⟩;exact hK1 (N-(k+1)) _ _ (by omega) (by kernel_rfl) ⟨k+1,_,_,_,_,O,(m.sel [false,false,false,false,true,true]),by rw[So ht];simpa[dh] using hD8,by rw[Sj ht];simpa[dh] using hD9,by omega,rfl⟩
  ·
   have hkN:k=N:=by omega
   rw[hkN,show ts.take N=ts from bf (by rw[hT.len];exact av _)] at hD8 hD9;apply aL 5 [0] m;simp only[↓aD];refine sQ m Mr O (m.p 1 O) ?_;intro r1 u m;apply aM 2 [0] m;simp only[↓aD];refine cP [] [2,9,10,11,12,13,50,51,52,53,54,55,56,57,58,59,60,61,62,63,64,65,66,67,68,69,70,71,72,73,74,75,76,77,78,79,80,81,82,83,84,85,86,87,88,89,90,91,92,93,94] (fun n vs wl=>∃(dn rs:List (E3 × P3)) (sn:Array Nat),vs=[]∧Mem w wl [iI r1 q8 c8 sn,mI q9 es9 c9,mI q8 es8 c8]∧(lP ed pt (qQ [] (kL ts)) es8 sn dn rs)∧(∀y∈dn,¬aay ts y.1)∧(n=rs.length)) ?_ ?_
   ·
    exact⟨_,[],_,#[],rfl,m,lP.start hD8,fun _ h=>(by cases h),rfl⟩
   ·
    intro n vs wr hI u K5 hK5;obtain⟨dn,rs,sn,rfl,m,hT1,hno,hn⟩:=hI;simp only[zu,zF,zG];apply aL 2 [0] m;simp only[↓aD];refine Dr m 0 O O (m.p 2 O) hD8 hT1 ?_;intro bb kk vv sn u m hN;simp only[zF,zG] at m;refine aB (nL O) ?_;apply aM 2 [0] m;simp only[↓aD];refine dC O ?_ ?_<;>intro hc3
    ·
     obtain⟨kp,kb,rs2,hp,hT2⟩:=Cd hc3 hN;obtain⟨x,hx⟩:∃x,bL (qQ [] (kL ts)) kp=some x:=by
      cases h:bL (qQ [] (kL ts)) kp with
      | some x=>exact⟨x,rfl⟩
      | none =>
       refine absurd ?_ (lD.1 h);have h1:=hT2.1.mem_iff (a:=(kp,kb));exact List.mem_map.2 ⟨_,h1.1 (by simp),O⟩
     have hkx:bE ts kp.1 kp.2=some x:=by rw[←yN hnd];exact hx
     obtain⟨M,hM⟩:∃M,M=qR (bG ts) kp.1:=⟨_,rfl⟩
     have hmM:(bL (xV [] (bG ts)) kp.1).getD 0=M:=by rw[acE,hM]
     have hMl:M≤30000000:=by have h1:=Qh (bG ts) kp.1;rw[hmM,Yu,hT.len] at h1;omega
     apply aL 4 [0] m;simp only[↓aD];refine eD (pQ O (m.r 0 O) (m.p 2 O) hD8 hT2) ?_;simp only[zz];apply iH 12 [0,0,0] m;simp only[↓aD,Ei,wN,aa];intro g4 u m;refine eD (cR (ek:=ed) (en:=pt) (k:=kp) (v0:=⟨0,0,0⟩) Mr eC El O O (m.p 3 O) hD8) ?_;simp only[zz];apply iH 3 [0] m;simp only[↓aD,dN,aS,aa];intro g5 u m;rw[hx] at m;simp only[de] at m;apply bF 2 [0] m;simp only[↓aD];refine cP [10] [12,13,57,58,59,60,61,62,63,64,65,66,67,68,69,70,71,72,73,74,75,76,77,78,79,80,81,82] (fun n vs wl=>∃(z:Nat) (a:P3),vs=[.int .i64 (z:Int)]∧Mem w wl [bI g5 (qO a) 30,bI g4 (bM kp) 215,iI r1 q8 c8 sn,mI q9 es9 c9,mI q8 es8 c8]∧(Dv (bE ts kp.1) kp.2 M x 1=Dv (bE ts kp.1) kp.2 (M+1-z) a z)∧(1≤z)∧(z≤M+1)∧(n=M+1-z)) ?_ ?_
     ·
      exact⟨_,1,x,O,m,O,av _,by omega,O⟩
     ·
      intro n vs wr hI u K6 hK6;obtain⟨z,a,rfl,m,hrun,hz1,hz2,hn4⟩:=hI;simp only[zu,zF,zG];apply aL 6 [0,1,0] m;simp only[↓aD,aS,Ej,aa];refine aB (fR O O) ?_;apply aM 1 [0] m;simp only[↓aD];refine dW O (fun hb=>aC) (dW O (fun hb=>aC) (dW O (fun hb=>bD (c:=2) wD O aA O O) ?_));simp only[zz];refine fO O (fun hb=>aZ (aX hb O) ((m.b 1 O).lies aH aA O O)) ?_;simp only[zz,zy,ap,aa,ah,ag];refine fO O (fun hb=>cR (ek:=pt) (en:=uC) (k:=kp.1) (v0:=0) qB mS eK (aX hb O) (aX hb O) (m.p 3 O) hD9) ?_;simp only[zz];refine dW O (fun hb=>Ws (aX hb O) (aX hb O)) (aB (cE O O O) ?_);apply aM 1 [0] m;simp only[↓aD];refine dC O ?_ ?_<;>intro hc4
      ·
       have hs:¬a=kp.2∧z≤M:=by rw[hmM] at hc4;simpa[aq8] using hc4
       apply aL 9 [1,0,0] m;simp only[↓aD,Tv,aS,Mu,aa];refine eD (vM (ek:=ed) (en:=pt) (k:=(kp.1,a)) (v0:=⟨0,0,0⟩) Mr eC El O O (m.p 4 O) hD8) ?_;simp only[zz];apply iH 13 [0,0] m;simp only[↓aD,dN,aS,aa];intro g6 u m;refine dC O ?_ ?_<;>intro hc5
       ·
        have hyn:bE ts kp.1 a=none:=by rw[←yN hnd];simpa using hc5
        have hfin:=hrun.trans (an9 hyn);apply aL 6 [1,2,0] m;simp only[↓aD,aS,Ej,aa];refine aB (bS O O) ?_;apply aM 1 [0] m;simp only[↓aD];refine dW O (fun hb=>aC) (dW O (fun hb=>aC) (dW O (fun hb=>bD (c:=2) wD O aA O O) ?_));simp only[zz];refine fO O (fun hb=>aZ (aX hb O) ((m.b 2 O).lies aH aA O O)) ?_;simp only[zz,zy,ap,aa,ah,ag];refine fO O (fun hb=>cR (ek:=pt) (en:=uC) (k:=kp.1) (v0:=0) qB mS eK (aX hb O) (aX hb O) (m.p 4 O) hD9) ?_;simp only[zz];refine dW O (fun hb=>tQ (aX hb O) (aX hb O)) (aB (cE O O O) ?_);apply aM 1 [0] m;simp only[↓aD];refine dC O ?_ ?_<;>intro hc6
        ·
         have hs:a=kp.2∧z<M:=by rw[hmM] at hc6;simpa[←nV] using hc6
         apply aL 5 [] m;simp only[↓aD];refine aY O O ?_;try simp only[zD,zE]
         exact⟨_,O,m.ext,by have hp:aay ts kp:=⟨x,hkx,by rw[eh,←hM,hfin];exact hs.1,by rw[eh,←hM,hfin];exact hs.2⟩;rw[pinned.2 ⟨kp,hp⟩]⟩
        ·
         have hs:¬(a=kp.2∧z<M):=by rw[hmM] at hc6;simpa[←nV] using hc6
         have hno2:∀y∈dn++[(kp,kb)],¬aay ts y.1:=fun y hy=>by
          rcases br.1 hy with hy | hy
          · exact hno y hy
          ·
           obtain rfl:=bg.1 hy;rintro⟨x2,h1,h2,h3⟩;obtain rfl:x=x2:=fh (hkx.symm.trans h1);rw[eh,←hM,hfin] at h2 h3;exact hs ⟨h2,h3⟩
         apply aL 2 [0] m;simp only[↓aD];exact hK5 rs2.length _ _ (by rw[hn,hp.length_eq];exact et _) (by kernel_rfl) ⟨dn++[(kp,kb)],rs2,_,O,(m.sel [false,false,false,true,true,true]),hT2,hno2,O⟩
       ·
        obtain⟨y,hy⟩:∃y,bL (qQ [] (kL ts)) (kp.1,a)=some y:=by
         cases h:bL (qQ [] (kL ts)) (kp.1,a) with
         | some y=>exact⟨y,rfl⟩
         | none=>rw[h] at hc5;cases hc5
        have hya:bE ts kp.1 a=some y:=by rw[←yN hnd];exact hy
        rw[hy] at m;simp only[de] at m;apply Wi 12 [0,1,0] m;simp only[↓aD,aS,aa];refine⟨by omega,?_⟩;intro u m;exact hK6 (M+1-(z+1)) _ _ (by omega) (by kernel_rfl) ⟨z+1,y,O,(m.sel [false,true,true,true,true,true]),by rw[hrun,show M+1-z=(M+1-(z+1))+1 by omega,aq6 hs.1 hya],by omega,by omega,O⟩
      ·
       have hs0:a=kp.2∨¬z≤M:=by rw[hmM] at hc4;exact ak7 hc4
       have hfin:=hrun.trans (aq7 hz2 hs0);apply aL 6 [0,1,0] m;simp only[↓aD,aS,Ej,aa];refine aB (bS O O) ?_;apply aM 1 [0] m;simp only[↓aD];refine dW O (fun hb=>aC) (dW O (fun hb=>aC) (dW O (fun hb=>bD (c:=2) wD O aA O O) ?_));simp only[zz];refine fO O (fun hb=>aZ (aX hb O) ((m.b 1 O).lies aH aA O O)) ?_;simp only[zz,zy,ap,aa,ah,ag];refine fO O (fun hb=>cR (ek:=pt) (en:=uC) (k:=kp.1) (v0:=0) qB mS eK (aX hb O) (aX hb O) (m.p 3 O) hD9) ?_;simp only[zz];refine dW O (fun hb=>tQ (aX hb O) (aX hb O)) (aB (cE O O O) ?_);apply aM 1 [0] m;simp only[↓aD];refine dC O ?_ ?_<;>intro hc6
       ·
        have hs:a=kp.2∧z<M:=by rw[hmM] at hc6;simpa[←nV] using hc6
        apply aL 5 [] m;simp only[↓aD];refine aY O O ?_;try simp only[zD,zE]
        exact⟨_,O,m.ext,by have hp:aay ts kp:=⟨x,hkx,by rw[eh,←hM,hfin];exact hs.1,by rw[eh,←hM,hfin];exact hs.2⟩;rw[pinned.2 ⟨kp,hp⟩]⟩
       ·
        have hs:¬(a=kp.2∧z<M):=by rw[hmM] at hc6;simpa[←nV] using hc6
        have hno2:∀y∈dn++[(kp,kb)],¬aay ts y.1:=fun y hy=>by
         rcases br.1 hy with hy | hy
         · exact hno y hy
         ·
          obtain rfl:=bg.1 hy;rintro⟨x2,h1,h2,h3⟩;obtain rfl:x=x2:=fh (hkx.symm.trans h1);rw[eh,←hM,hfin] at h2 h3;exact hs ⟨h2,h3⟩
        apply aL 2 [0] m;simp only[↓aD];exact hK5 rs2.length _ _ (by rw[hn,hp.length_eq];exact et _) (by kernel_rfl) ⟨dn++[(kp,kb)],rs2,_,O,(m.sel [false,false,true,true,true]),hT2,hno2,O⟩
    ·
     obtain rfl:=Cc hc3 hN;apply aL 6 [] m;simp only[↓aD];refine aY O O ?_;try simp only[zD,zE]
     exact⟨_,rfl,m.ext,by cases h:(cK ts).any (Jo ts) with | false=>rfl | true=>(obtain⟨e,he⟩:=pinned.1 h;exact absurd he (ak8 hT1 hnd hno e))⟩
theorem aoa(h:¬(aU ts).Nodup):(aU ts).any (fun e=>decide (1<kN (aU ts) e))=true:=by rw[Jz];exact decide_eq_true h
theorem ak9(h:(aU ts).Nodup):(aU ts).any (fun e=>decide (1<kN (aU ts) e))=false:=by rw[Jz];exact decide_eq_false fun k=>k h
theorem ala{A:Option Addr}(w:am)(hT:cJ w A N ts)(hN:N≤10000000):dR prog 97 [.slice A N cap,.bool true] w (fun v _=>v=.int .i64 (cQ true ts)):=by
 refine⟨bO func97 (by kernel_rfl),?_⟩;have m:=Mem.refl w
 go_enter func97,ntmps97
 apply iE 12 [0] m;simp only[↓aD,mC];refine cP [11] [4,6,12,13,14,15,16,17,18,19,20,21,22,23,24,25,26,27,28,29,30,31,32,33,34] (fun n vs wl=>∃(k:Nat),vs=[.int .i64 (k:Int)]∧Mem w wl []∧((ts.take k).any tX=false)∧(k≤N)∧(n=N-k)) ?_ ?_
 ·
  exact⟨_,0,O,m,O,bw _,O⟩
 ·
  intro n vs wr hI u K1 hK1;obtain⟨k,rfl,m,hd0,hk,hn⟩:=hI;simp only[zu,zF,zG];apply aL 5 [0,0] m;simp only[↓aD];refine bK O ?_ ?_<;>intro hc1
  ·
   obtain⟨t,ht,_,a,rfl,hrow⟩:=hT.get (i:=k) (by omega);apply aL 5 [0] m;simp only[↓aD];refine aB (aG bZ aR O O (by omega) (by omega) (bX (ai _))) ?_;simp only[zz];refine aQ O ((hrow.ext m.ext).lies dK aR) ?_;simp only[zz];apply iH 9 [0,0,0,0] m;simp only[↓aD,nB,iG,dJ,aS,aa,ag,ah];intro g1;refine⟨by omega,?_⟩;intro u m;refine aB (bS O O) ?_;apply aM 1 [0] m;simp only[↓aD];refine eL O (fun hb=>aN dA aA O O (by decide) (by decide) O) ?_;simp only[zz];refine fG O (fun hb=>aZ (aX hb O) ((m.b 0 O).lies aH aA O O)) ?_;simp only[zz,zy,ap,aa,ah,ag];refine eL O (fun hb=>aN dA aA O O (by decide) (by decide) O) ?_;simp only[zz];refine fG O (fun hb=>aZ (aX hb O) ((m.b 0 O).lies aH aA O O)) ?_;simp only[zz,zy,ap,aa,ah,ag];refine eL O (fun hb=>bS (aX hb O) (aX hb O)) (aB (eG O O O) ?_);apply aM 1 [0] m;simp only[↓aD];refine eL O (fun hb=>aN dA aA O O (by decide) (by decide) O) ?_;simp only[zz];refine fG O (fun hb=>aZ (aX hb O) ((m.b 0 O).lies aH aA O O)) ?_;simp only[zz,zy,ap,aa,ah,ag];refine eL O (fun hb=>aN dA aA O O (by decide) (by decide) O) ?_;simp only[zz];refine fG O (fun hb=>aZ (aX hb O) ((m.b 0 O).lies aH aA O O)) ?_;simp only[zz,zy,ap,aa,ah,ag];refine eL O (fun hb=>bS (aX hb O) (aX hb O)) (aB (eG O O O) ?_);apply aM 1 [0] m;simp only[↓aD];refine lV O ?_ ?_<;>intro hc2
   ·
    have hd:=Av (p:=tX) ht (aag.symm.trans hc2);apply aL 5 [] m;simp only[↓aD];refine aY O O ?_;try simp only[zD,zE]
    exact⟨_,O,m.ext,by rw[af3 hd]⟩
   ·
    have hd1:(ts.take (k+1)).any tX=false:=by rw[tY ht,hd0,←aag];exact hc2
    apply aL 6 [0] m;simp only[↓aD];refine⟨by omega,?_⟩;exact hK1 (N-(k+1)) _ _ (by omega) (by kernel_rfl) ⟨k+1,O,(m.sel [false]),hd1,by omega,O⟩
  ·
   have hkN:k=N:=by omega
   rw[hkN,show ts.take N=ts from bf (by rw[hT.len];exact av _)] at hd0;apply aL 4 [0] m;simp only[↓aD];refine bB O O (Ua _ (hT.ext m.ext) hN) ?_;rintro v u e_ ⟨g8,es8,c8,rfl,hM,hD8⟩;replace m:=m.plus hM;clear hM;simp only[cn,bv] at m;apply aM 14 [0] m;simp only[↓aD];refine dC O ?_ ?_<;>intro hc3
   ·
    have hnd:¬(aU ts).Nodup:=by simpa using hc3
    apply aL 5 [] m;simp only[↓aD];refine aY O O ?_;try simp only[zD,zE]
    exact⟨_,O,m.ext,by rw[af4 hd0 (aoa hnd)]⟩
   ·
    have hnd:(aU ts).Nodup:=by simpa using hc3
    apply aL 16 [0] m;simp only[↓aD,Bool.not_true,jv];refine dH m O O (aeE _ (hT.ext m.ext) hN hnd) ?_;rintro v u m rfl;apply aM 2 [0] m;simp only[↓aD];refine dC O ?_ ?_<;>intro hc5
    ·
     apply aL 5 [] m;simp only[↓aD];refine aY O O ?_;try simp only[zD,zE]
     exact⟨_,O,m.ext,by rw[af5 hd0 (ak9 hnd) O hc5]⟩
    ·
     apply aL 7 [] m;simp only[↓aD];refine aY O O ?_;try simp only[zD,zE]
     exact⟨_,O,m.ext,by rw[akV hd0 (ak9 hnd) O hc5]⟩
theorem Bj{A:Option Addr}(w:am)(hT:cJ w A N ts)(hN:N≤10000000):dR prog 49 [.slice A N cap] w (fun v _=>v=.int .i64 (cQ true ts)):=by
 refine⟨bO func49 (by kernel_rfl),?_⟩;have m:=Mem.refl w
 go_enter func49,ntmps49
 apply iE 7 [0] m;simp only[↓aD];refine dH m O O (ala _ (hT.ext m.ext) hN) ?_;rintro v u m rfl;apply aM 3 [] m;simp only[↓aD];exact aY O O ⟨_,O,m.ext,O⟩
theorem aq9(h1:t.b.Lt t.a)(h2:t.c.Lt t.b):eX t=⟨t.c,t.a,t.b⟩:=if_pos ⟨P3.lt_trans h2 h1,.inl h2⟩
theorem ara(h1:t.b.Lt t.a)(h2:¬t.c.Lt t.b):eX t=⟨t.b,t.c,t.a⟩:=by rw[eX,if_neg (fun h=>h.2.elim h2 fun k=>k h1),if_pos h1]
theorem arb(h1:¬t.b.Lt t.a)(h2:t.c.Lt t.a):eX t=⟨t.c,t.a,t.b⟩:=if_pos ⟨h2,.inr h1⟩
theorem arc(h1:¬t.b.Lt t.a)(h2:¬t.c.Lt t.a):eX t=t:=by rw[eX,if_neg (fun h=>h2 h.1),if_neg h1]
theorem My  : gS prog 111 [tr t] (tr (eX t)):=by
 intro w;refine⟨bO func111 (by kernel_rfl),?_⟩;have m:=Mem.refl w
 go_enter func111,ntmps111
 apply nM 28 [3,1,0] m;simp only[↓aD,nB];intro g1 g2;refine⟨by omega,?_⟩;intro u m;refine mq m aF (by kernel_rfl) (iB 6 [1,1] ?_);simp only[↓aD,dJ,aS,ag,ah,aa];refine⟨by omega,?_⟩;refine kR O O tL.pure (bN ?_);intro u m;refine gc ?_;simp only[zz];refine bK O ?_ ?_<;>intro hc2
 ·
  have h1:=hc2;apply aL 22 [1,0] m;simp only[↓aD,an];refine⟨by omega,?_⟩;refine mq m aF (by kernel_rfl) (iB 6 [1,1] ?_);simp only[↓aD,dJ,aS,ag,ah,aa];refine⟨by omega,?_⟩;refine kR O O tL.pure (bN ?_);intro u m;refine gc ?_;simp only[zz];refine bK O ?_ ?_<;>intro hc2
  ·
   have h2:=hc2;apply aL 20 [2,0] m;simp only[↓aD,an];refine⟨by omega,?_⟩;refine eB m 14 aF (by kernel_rfl) ?_;simp only[zy];refine iB 5 [1] ?_;simp only[↓aD,dJ,aS,ag,ah,aa,an];refine⟨by omega,?_⟩;refine aK (dL (m:=3) (n:=3) (r:=0) O O (by decide) (by decide)) (iB 4 [1] ?_);simp only[↓aD,dJ,aS,ag,ah,aa,an];refine⟨by omega,?_⟩;refine aK (dL (m:=4) (n:=3) (r:=1) O O (by decide) (by decide)) (iB 3 [1] ?_);simp only[↓aD,dJ,aS,xK,ag,ah,aa];refine⟨by omega,?_⟩;refine bN ?_;intro u m;refine cL m 0 O O O aR (jO O) O ?_;intro u m;simp only[zy,zx,bQ,zF,zG,aa] at m;refine aI ?_;apply bF 1 [] m;simp only[↓aD];refine aY O ⟨_,O,((m.b 0 O).full dK aR)⟩ ?_;try simp only[zD,zE]
   exact⟨_,O,m.ext,by rw[aq9 h1 h2];rfl⟩
  ·
   have h2:=hc2;apply aL 17 [2,0] m;simp only[↓aD,an];refine⟨by omega,?_⟩;refine eB m 14 aF (by kernel_rfl) ?_;simp only[zy];refine iB 5 [1] ?_;simp only[↓aD,dJ,aS,ag,ah,aa,an];refine⟨by omega,?_⟩;refine aK (dL (m:=2) (n:=3) (r:=2) O O (by decide) (by decide)) (iB 4 [1] ?_);simp only[↓aD,dJ,aS,ag,ah,aa,an];refine⟨by omega,?_⟩;refine aK (dL (m:=3) (n:=3) (r:=0) O O (by decide) (by decide)) (iB 3 [1] ?_);simp only[↓aD,dJ,aS,xK,ag,ah,aa];refine⟨by omega,?_⟩;refine bN ?_;intro u m;refine cL m 0 O O O aR (jO O) O ?_;intro u m;simp only[zy,zx,bQ,zF,zG,aa] at m;refine aI ?_;apply bF 1 [] m;simp only[↓aD];refine aY O ⟨_,O,((m.b 0 O).full dK aR)⟩ ?_;try simp only[zD,zE]
   exact⟨_,O,m.ext,by rw[ara h1 h2];rfl⟩
 ·
  have h1:=hc2;apply aL 19 [1,0] m;simp only[↓aD,an];refine⟨by omega,?_⟩;refine mq m aF (by kernel_rfl) (iB 6 [1,1] ?_);simp only[↓aD,dJ,aS,ag,ah,aa];refine⟨by omega,?_⟩;refine kR O O tL.pure (bN ?_);intro u m;refine gc ?_;simp only[zz];refine bK O ?_ ?_<;>intro hc2
  ·
   have h2:=hc2;apply aL 20 [2,0] m;simp only[↓aD,an];refine⟨by omega,?_⟩;refine eB m 14 aF (by kernel_rfl) ?_;simp only[zy];refine iB 5 [1] ?_;simp only[↓aD,dJ,aS,ag,ah,aa,an];refine⟨by omega,?_⟩;refine aK (dL (m:=3) (n:=3) (r:=0) O O (by decide) (by decide)) (iB 4 [1] ?_);simp only[↓aD,dJ,aS,ag,ah,aa,an];refine⟨by omega,?_⟩;refine aK (dL (m:=4) (n:=3) (r:=1) O O (by decide) (by decide)) (iB 3 [1] ?_);simp only[↓aD,dJ,aS,xK,ag,ah,aa];refine⟨by omega,?_⟩;refine bN ?_;intro u m;refine cL m 0 O O O aR (jO O) O ?_;intro u m;simp only[zy,zx,bQ,zF,zG,aa] at m;refine aI ?_;apply bF 1 [] m;simp only[↓aD];refine aY O ⟨_,O,((m.b 0 O).full dK aR)⟩ ?_;try simp only[zD,zE]
   exact⟨_,O,m.ext,by rw[arb h1 h2];rfl⟩
  ·
   have h2:=hc2;apply aL 17 [2,0] m;simp only[↓aD,an];refine⟨by omega,?_⟩;refine eB m 14 aF (by kernel_rfl) ?_;simp only[zy];refine iB 5 [1] ?_;simp only[↓aD,dJ,aS,ag,ah,aa,an];refine⟨by omega,?_⟩;refine aK (dL (m:=1) (n:=3) (r:=1) O O (by decide) (by decide)) (iB 4 [1] ?_);simp only[↓aD,dJ,aS,ag,ah,aa,an];refine⟨by omega,?_⟩;refine aK (dL (m:=2) (n:=3) (r:=2) O O (by decide) (by decide)) (iB 3 [1] ?_);simp only[↓aD,dJ,aS,xK,ag,ah,aa];refine⟨by omega,?_⟩;refine bN ?_;intro u m;refine cL m 0 O O O aR (jO O) O ?_;intro u m;simp only[zy,zx,bQ,zF,zG,aa] at m;refine aI ?_;apply bF 1 [] m;simp only[↓aD];refine aY O ⟨_,O,((m.b 0 O).full dK aR)⟩ ?_;try simp only[zD,zE]
   exact⟨_,O,m.ext,by rw[arc h1 h2];rfl⟩
theorem Ib{A:Option Addr}(w:am)(hT:cJ w A N ts)(hN:N≤300000):dR prog 57 [.slice A N cap] w (OR 30 3 (fun xs=>∃ps:List P3,xs=ps.flatMap gX∧sU ps∧∀a,a∈ps↔a∈bG ts) w):=by
 refine⟨bO func57 (by kernel_rfl),?_⟩;have m:=Mem.refl w
 go_enter func57,ntmps57
 apply iE 6 [0] m;simp only[↓aD];refine iV m ?_;intro q8 u m;have hD8:=bA.nil (K:=P3) (V:=Bool) pt ba;apply aM 10 [0] m;simp only[↓aD,mC];refine cP [11] [5,7,12,13,14,15,16,17,18,19,20,21,22,23] (fun n vs wl=>∃(k:Nat) (es:Array cg) (c:Nat),vs=[.int .i64 (k:Int)]∧Mem w wl [mI q8 es c]∧(bA pt ba (Dt [] (bG (ts.take k))) es c)∧(k≤N)∧(n=N-k)) ?_ ?_
 ·
  exact⟨_,0,_,_,O,m,hD8,bw _,O⟩
 ·
  intro n vs wr hI u K1 hK1;obtain⟨k,es,c,rfl,m,hD8,hk,hn⟩:=hI;simp only[zu,zF,zG];apply aL 5 [0,0] m;simp only[↓aD];refine bK O ?_ ?_<;>intro hc1
  ·
   obtain⟨t,ht,_,a,rfl,hrow⟩:=hT.get (i:=k) (by omega);apply aL 5 [0] m;simp only[↓aD];refine aB (aG bZ aR O O (by omega) (by omega) (bX (ai _))) ?_;simp only[zz];refine aQ O (((hrow.ext m.ext)).lies dK aR) ?_;simp only[zz];apply iH 22 [0,0,4,1,0] m;simp only[↓aD,nB,iG,aa];intro g2;refine⟨by omega,?_⟩;intro u m;refine aB (kF O O) ?_;apply iH 6 [0,0,0] m;simp only[↓aD,dN,aS,aa];intro g3 u m;refine nI m 2 adO O O (fun m=>aeB (p:=t.a) m 2 O hD8) ?_;rintro v i u m ⟨rfl,es',c',rfl,hD'⟩;simp only[zF,zG] at m;simp only[zz];clear hD8;have hD8:=hD';clear hD';apply aM 18 [1,0] m;simp only[↓aD,an];refine⟨by omega,?_⟩;refine aB (kG O O) ?_;apply iH 6 [0,0,0] m;simp only[↓aD,dN,aS,aa];intro g4 u m;refine nI m 3 adO O O (fun m=>aeB (p:=t.b) m 3 O hD8) ?_;rintro v i u m ⟨rfl,es',c',rfl,hD'⟩;simp only[zF,zG] at m;simp only[zz];clear hD8;have hD8:=hD';clear hD';apply aM 18 [1,0] m;simp only[↓aD,an];refine⟨by omega,?_⟩;refine aB (kH O O) ?_;apply iH 6 [0,0,0] m;simp only[↓aD,dN,aS,aa];intro g5 u m;refine nI m 4 adO O O (fun m=>aeB (p:=t.c) m 4 O hD8) ?_;rintro v i u m ⟨rfl,es',c',rfl,hD'⟩;simp only[zF,zG] at m;simp only[zz];clear hD8;have hD8:=hD';clear hD';apply aM 19 [2,0] m;simp only[↓aD,an];refine⟨by omega,?_⟩;exact hK1 (N-(k+1)) _ _ (by omega) (by kernel_rfl) ⟨k+1,_,_,O,(m.sel [false,false,false,false,true]),by rw[ad9 ht];exact hD8,by omega,O⟩
  ·
   have hkN:k=N:=by omega
   rw[hkN,show ts.take N=ts from bf (by rw[hT.len];exact av _)] at hD8;apply aL 4 [0] m;simp only[↓aD];refine bB O O (ahJ _ (m.p 0 O) hD8 (by have h1:=Jw (bG ts) [];have h2:=vG ts;have h3:=hT.len;simp only[b_] at h1;omega)) ?_;rintro v u e_ ⟨A9,n9,cap9,_,rfl,h_,ps,rfl,hps,hso⟩;replace m:=m.newO e_ h_;apply aM 3 [] m;simp only[↓aD];exact aY O O ⟨_,O,m.ext,_,_,_,_,O,(m.o 0 O),ps,O,ahw (hps.nodup_iff.2 (Oe _ _ .nil)) hso,fun a=>by rw[hps.mem_iff,Xz];simp⟩
end Go.Proofs.YtfekpcimgncioaaGreatDoor
