/-
 Texts of one claim, laid together: K23, Mono, Cp, K24, K25, Trav, K27, K28, K29, Sh, Wq, Cq, K89, Join, Open5.
-/
import Derived.RunT
import Derived.OpenVars
import Derived.OpenShut
import Derived.WalkKit
import Derived.ProofKit
import Derived.Test.YtfekpcimgncioaaGreatDoorWX8
open Nat renaming reduceAdd→aa,reduceMul→ah,zero_add→ap,le_refl→av,le_trans→aw,zero_le→bw,lt_succ_self→et,eq_zero_or_pos→ff,le_of_not_lt→gv,le_succ→qw
open Int renaming reduceToNat→ag,toNat_natCast→ai
open Go renaming Value→ak,World→am,wpList→au,TypeId→ay,Program→bz,MapEntry→cg,wpQuiet→cq
open List renaming mem_cons→ao,getElem?_eq_getElem→ar,getElem?_eq_some_iff→ax,length_cons→az,length_append→a_,flatMap_append→be,take_of_length_le→bf,mem_singleton→bg,map_cons→bi,mem_cons_self→bj,mem_cons_of_mem→bm,mem_of_getElem?→bn,mem_append→br,not_mem_nil→bt,nil_append→bv,length_nil→b_,cons_append→cn,mem_map→cu,map_append→cz,mem_filter→c_,map_nil→db,append_assoc→dh,length_map→dm,mem_iff_getElem?→ej,take_length→fa,map_toArray→fb,getElem?_map→fj,mem_map_of_mem→ft,mem_append_left→gd,mem_append_right→gj,getD_eq_getElem?_getD→jf,map_congr_left→ji,nodup_append→jj,nodup_nil→ku,map_eq_append_iff→ni,map_eq_cons_iff→og,filter_eq_nil_iff→ow,perm_cons→q_
open Go.Value renaming bool→ba,okWide→qn
open Bool renaming and_eq_true→bh,false_ne_true→ei
open Array renaming getElem?_eq_some_iff→dj,eraseIdxIfInBounds→mj,toList_push→oy
open Option renaming map_some→ew
open Prod.mk renaming injEq→fc
open Option.some renaming inj→fh,injEq→fw
open List.Perm renaming append_left→nz,refl→oz
set_option maxHeartbeats 8000000
set_option linter.unusedSimpArgs false
set_option linter.unusedVariables false
set_option linter.unusedSectionVars false
namespace Go.Proofs.YtfekpcimgncioaaGreatDoor
open Go.Proofs.Tryz
open Go.RowKit Go.Lith
set_option maxRecDepth 100000
attribute [local irreducible] au cq eF bJ cD Code.wp
attribute [local congr] oG fS fT fU fV fW jR fX fY fZ gA gB gC gD gE gF gG gH eM eN gI gJ gL gM gN jT cW cX cA cU gK jS eO eP eQ gQ gR jU
variable{t:T3}{k:Nat}
theorem zw0:[ba false,Value.string ⟨#[]⟩]=wC 0:=by unfold wC;rw[Lm];rfl
theorem zq0:([.bool false,.string ⟨#[]⟩,.bool false,.string ⟨#[]⟩,.bool false,.string ⟨#[]⟩,.bool false,.string ⟨#[]⟩,.bool false,.string ⟨#[]⟩,.bool false,.string ⟨#[]⟩,.bool false,.string ⟨#[]⟩,.bool false,.string ⟨#[]⟩,.bool false,.string ⟨#[]⟩,.bool false,.string ⟨#[]⟩]:List ak)=qC q0:=by unfold qC q0;simp only[List.flatMap_cons,List.flatMap_nil,←zw0];rfl
theorem zqV:(Value.agg #[.bool false,.string ⟨#[]⟩,.bool false,.string ⟨#[]⟩,.bool false,.string ⟨#[]⟩,.bool false,.string ⟨#[]⟩,.bool false,.string ⟨#[]⟩,.bool false,.string ⟨#[]⟩,.bool false,.string ⟨#[]⟩,.bool false,.string ⟨#[]⟩,.bool false,.string ⟨#[]⟩,.bool false,.string ⟨#[]⟩])=qV q0:=by unfold qV;rw[←zq0]
theorem agE{n:Int}(h1:fM n=false)(h2:kA n=⟨#[]⟩):n=0:=ao5 (by rw[Zx];unfold W;rw[h1,h2])
theorem aug(t:T3):0-t.normal.x*t.a.x-t.normal.y*t.a.y-t.normal.z*t.a.z = -((uV t.a t.b t.c).dot t.a):=by
 show 0-(uV t.a t.b t.c).x*t.a.x-(uV t.a t.b t.c).y*t.a.y-(uV t.a t.b t.c).z*t.a.z=_
 generalize uV t.a t.b t.c=n;unfold P3.dot
 grind
theorem ae1(t:T3):qPr t.normal.x t.normal.y t.normal.z (0-t.normal.x*t.a.x-t.normal.y*t.a.y-t.normal.z*t.a.z)=qOf t:=by rw[aug];rfl
theorem apI[IT t]:Ia 300 [t.normal.x,t.normal.y,t.normal.z,0-t.normal.x*t.a.x-t.normal.y*t.a.y-t.normal.z*t.a.z]:=fun x hx=>by
 simp only[ao,bt,or_false] at hx;rcases hx with rfl | rfl | rfl | rfl
 · exact (Bw.up:Bd 300 t.normal.x)
 · exact (Bw.up:Bd 300 t.normal.y)
 · exact (Bw.up:Bd 300 t.normal.z)
 · exact (Bw.up:Bd 300 (0-t.normal.x*t.a.x-t.normal.y*t.a.y-t.normal.z*t.a.z))
theorem amm[IT t]:Ia 602 (qOf t):=by rw[←ae1];exact asX apI
theorem xP(t:T3):(qOf t).length=10:=rfl
theorem atF:Ia 1 q0:=fun x hx=>by
 simp only[q0,ao,bt,or_false] at hx;rcases hx with rfl | rfl | rfl | rfl | rfl | rfl | rfl | rfl | rfl | rfl <;> (unfold Bd;decide)
theorem Lc{ts:List T3}{p:P3}(h:ts[k]? = some t):wS (ts.take (k+1)) p=if t.has p then Gi (wS (ts.take k) p) (qOf t) else wS (ts.take k) p:=by
 unfold wS;rw[cC h,List.filter_append,List.foldl_append];cases hh:t.has p <;> simp[hh]
theorem By{ts:List T3}{p:P3}:∀k,k≤ts.length→(wS (ts.take k) p).length=10
 | 0,_=>rfl
 | k+1,hk=>by
  rw[Lc (ar (by omega))];split
  · exact mB (By k (by omega)) (xP _)
  · exact By k (by omega)
theorem abi{ts:List T3}{p:P3}(hI:∀t∈ts,IT t):∀k,k≤ts.length→Ia (602+k) (wS (ts.take k) p)
 | 0,_=>atF.mono (by omega)
 | k+1,hk=>by
  rw[Lc (ar (by omega))];split
  · haveI:=hI _ (List.getElem_mem (by omega:k<ts.length))
    exact Qd (abi hI k (by omega)) (amm.mono (by show 602≤602+k;omega))
  · exact (abi hI k (by omega)).mono (by omega)
theorem atG[IT t]:gS prog 117 [tr t] (qV (qOf t)):=by
 intro w;refine⟨bO func117 (by kernel_rfl),?_⟩;have m:=Mem.refl w
 go_enter func117,ntmps117
 apply nM 12 [2,0] m;simp only[↓aD,akG,iG];intro g1 g2 g3 u m;refine wQ m O O (auf (t:=t)) 1 [0] ?_;simp only[↓aD,aew];intro g4 u m;refine Ga (n:=8) m 0 O O O O O Lv ?_;intro u m;simp only[zF,zG] at m;apply aM 4 [0] m;simp only[↓aD];refine aQ O (xW (m.b 0 O) afz Lv O) ?_;simp only[zz];apply aM 1 [0] m;simp only[↓aD,akL,aa];refine aB (adY O O) ?_;apply aM 1 [0] m;simp only[↓aD];refine bK O ?_ ?_<;>intro hc1
 ·
  apply aL 1 [] m;simp only[↓aD];rw[zq0] at m;apply bF 1 [0] m;simp only[↓aD];refine aQ O (xW (m.b 1 O) Ax lG (by first | rw[xP] | rfl)) ?_;simp only[zz];refine Ga (n:=20) m 2 O O O O O lG ?_;intro u m;simp only[zF,zG] at m;apply aM 2 [] m;simp only[↓aD];refine aY O ⟨_,O,(xW (m.b 2 O) Ax lG (by first | rw[xP] | rfl))⟩ ?_;try simp only[zD,zE]
  exact⟨_,O,m.ext,by rw[←ae1,agE hc1.2.2.2.2.2.2.1 hc1.2.2.2.2.2.2.2,agE hc1.1 hc1.2.1,agE hc1.2.2.1 hc1.2.2.2.1,agE hc1.2.2.2.2.1 hc1.2.2.2.2.2.1];rfl⟩
 ·
  apply aL 3 [0] m;simp only[↓aD];refine wQ m O O (qG (n:=2) (by constructor <;> decide)) 4 [0] ?_;simp only[↓aD,sF,jC,aa];intro g5 u m;rw[zq0] at m;apply bF 1 [0] m;simp only[↓aD];refine aB eS ?_;simp only[zz,fb,bi,db];replace m:=m.pull 1 O;simp only[dO,dP,zF,zG] at m;replace m:=m.pull 1 O;simp only[dO,dP,zF,zG] at m;replace m:=m.pull 2 O;simp only[dO,dP,zF,zG] at m;replace m:=m.pack3;refine nI m 0 ajz O O (fun m=>aml (J:=fun n=>bI g3 (qC (qF t.normal.x t.normal.y t.normal.z (0-t.normal.x*t.a.x-t.normal.y*t.a.y-t.normal.z*t.a.z) n)) 97) m 0 O (fun n u hn mu=>atE (k:=300) mu hn apI (by decide))) ?_;rintro v i u m ⟨rfl,rfl⟩;simp only[zF,zG] at m;simp only[zz];replace m:=m.unpack3;rw[asW,ae1] at m;apply aM 3 [0] m;simp only[↓aD];refine aQ O (xW (m.b 0 O) Ax lG (by first | rw[xP] | rfl)) ?_;simp only[zz];refine Ga (n:=20) m 3 O O O (by rw[xP]) O lG ?_;intro u m;simp only[zF,zG] at m;apply aM 2 [] m;simp only[↓aD];exact aY O ⟨_,O,(xW (m.b 3 O) Ax lG (by first | rw[xP] | rfl))⟩ ⟨_,O,m.ext,O⟩
theorem atH{w0 w:am}{K:It}{g1 g4 g5 n:Nat}{q x:List Int}(m:Mem w0 w [bI g5 (wC (atS q x n)) 95,bI g4 (qC x) 168,bI g1 (qC q) 97,K])(hn:n<10)(hq:Ia k q)(hl:q.length=10)(hx:Ia 64 x)(hxl:x.length=4)(hk:k≤900000):xN prog 120 [.int .i64 (n:Int),.int .i64 (eI n:Int),.int .i64 (eJ n:Int),.pointer (some ⟨g5,0,none⟩),.pointer (some ⟨g1,0,none⟩),.pointer (some ⟨g4,0,none⟩)] w fun _ w'=>Mem w0 w' [bI g5 (wC (atS q x (n+1))) 95,bI g4 (qC x) 168,bI g1 (qC q) 97,K]:=by
 refine⟨bO func120 (by kernel_rfl),?_⟩;have hi:=akx hn;have hj:=aky hn;have hx1:x[eI n]? = some (x.getD (eI n) 0):=by rw[jf,ar (by omega:eI n<x.length)];rfl
 have hx2:x[eJ n]? = some (x.getD (eJ n) 0):=by rw[jf,ar (by omega:eJ n<x.length)];rfl
 have hq1:=aaO hl hn;have hp1:Bd 128 (x.getD (eI n) 0*x.getD (eJ n) 0):=aep hx hxl hn;have hs1:=aeq hq hl hx hxl n (by omega);have hm1:=(hq.at hq1).mul hp1
 go_enter func120,ntmps120
 refine g0 ?_;refine eB m 13 aF (by kernel_rfl) ?_;simp only[zy];refine ql O (fun u m=>(show nO _ _ _ _ (W (atS q x n)) from (m.b 0 O).lies dU aW O O)) ?_;simp only[zz];refine aK aC ?_;simp only[zz];refine aK (aN Ny aW O O (by omega) (by omega) (mR (ai _))) ?_;simp only[zz];refine ql O (fun u m=>(show nO _ _ _ _ (W (q.getD n 0)) from (Ec (m.b 2 O) hq1).lies dU aW)) ?_;simp only[zz];refine aK aC ?_;simp only[zz];refine aK (aN underlying168 aW O O (by omega) (by omega) (mR (ai _))) ?_;simp only[zz];refine ql O (fun u m=>(show nO _ _ _ _ (W (x.getD (eI n) 0)) from (Ec (m.b 1 O) hx1).lies dU aW)) ?_;simp only[zz];refine aK aC ?_;simp only[zz];refine aK (aN underlying168 aW O O (by omega) (by omega) (mR (ai _))) ?_;simp only[zz];refine ql O (fun u m=>(show nO _ _ _ _ (W (x.getD (eJ n) 0)) from (Ec (m.b 1 O) hx2).lies dU aW)) ?_;simp only[zz];refine kR O O (uD ((hx.at hx1).mono (by omega)) ((hx.at hx2).mono (by omega))) ?_;simp only[zz];refine kR O O (uD ((hq.at hq1).mono (by omega)) (hp1.mono (by omega))) ?_;simp only[zz];refine kR O O (Uf (hs1.mono (by omega)) (hm1.mono (by omega))) (bN ?_);intro u m;simp only[zz];refine cL m 0 O O O aW (by simp[wC]) O ?_;intro u m;simp only[zF,zG] at m;rw[acv (by rfl)] at m;exact aI (Qw O ⟨_,O,m⟩)
theorem atI{q:List Int}{p:P3}[I3 p](hq:Ia k q)(hl:q.length=10)(hk:k≤900000):gS prog 60 [qV q,pt p] (W (qAt q p)):=by
 intro w;refine⟨bO func60 (by kernel_rfl),?_⟩;have m:=Mem.refl w
 go_enter func60,ntmps60
 apply nM 7 [0] m;simp only[↓aD,sF];intro g1 g2 g3 u m;refine pO 12 [0,1,2,3,4,5,6,7,8,9,10] [⟨11,5,168,[.bool false,.string ⟨#[]⟩,.bool false,.string ⟨#[]⟩,.bool false,.string ⟨#[]⟩,.bool false,.string ⟨#[]⟩]⟩] aF (by kernel_rfl) (al1 ⟨_,_,_,O,by kernel_rfl,_,abV,O⟩) (ol:=?_) ?hol ?_
 case hol=>simp only[zw,zQ,zR];try rfl
 intro u e_;replace m:=m.ext' e_;refine jF (bD (c:=0) oN O cN O O) ?_;simp only[zz];refine nU O (fun u e=>(((m.ext' e).b 1 O).lies1 bT O)) ?_;simp only[zz];refine vD O O (qG Iw.h) (jF (bD (c:=0) oN O cN O O) ?_);simp only[zz];refine nU O (fun u e=>(((m.ext' e).b 1 O).lies1 bT O)) ?_;simp only[zz];refine vD O O (qG Iw.h) (jF (bD (c:=0) oN O cN O O) ?_);simp only[zz];refine nU O (fun u e=>(((m.ext' e).b 1 O).lies1 bT O)) ?_;simp only[zz];refine vD O O (qG Iw.h) ?_;simp only[zz];refine vD O O (qG (n:=1) (by constructor <;> decide)) (jF (Gh rfl rfl rfl rfl) (afl ?_));simp only[zz];refine mf1 m ?_;intro g4 u m;simp only[zJ,zK,zF,zG];refine cL m 0 O O O ahg (jO O) O ?_;intro u m;simp only[zy,zx,bQ,zF,zG,aa] at m;refine aI ?_;apply zvn 5 [] m;simp only[↓aD,sF];intro g5 u m;rw[zw0] at m;apply bF 1 [0] m;simp only[↓aD];refine aB eS ?_;simp only[zz,fb,bi,db];replace m:=m.pull 4 O;simp only[dO,dP,zF,zG] at m;replace m:=m.pull 2 O;simp only[dO,dP,zF,zG] at m;replace m:=m.pull 2 O;simp only[dO,dP,zF,zG] at m;replace m:=m.pack3;refine nI m 0 ajz O O (fun m=>aml (J:=fun n=>bI g5 (wC (atS q [p.x,p.y,p.z,1] n)) 95) m 0 O (fun n u hn mu=>atH mu hn hq hl (bd4 inferInstance) O hk)) ?_;rintro v i u m ⟨rfl,rfl⟩;simp only[zF,zG] at m;simp only[zz];replace m:=m.unpack3;rw[akA hl] at m;apply iH 7 [0,3] m;simp only[↓aD,jC,aa];intro u m;exact aY O ⟨_,O,((m.b 3 O).full dU aW)⟩ ⟨_,O,m.ext,O⟩
theorem apJ{x:P3}:(decide (t.a.x=x.x∧t.a.y=x.y∧t.a.z=x.z)||decide (t.b.x=x.x∧t.b.y=x.y∧t.b.z=x.z)||decide (t.c.x=x.x∧t.c.y=x.y∧t.c.z=x.z))=t.has x:=by
 have e:∀p q:P3,(p.x=q.x∧p.y=q.y∧p.z=q.z)↔q=p:=fun p q=>⟨fun h=>(P3.eq h.1 h.2.1 h.2.2).symm,fun h=>by rw[h];exact⟨O,O,O⟩⟩
 rw[Bool.eq_iff_iff,iJ];simp only[Bool.or_eq_true,decide_eq_true_eq,e,or_assoc]
theorem ar1{ts:List T3}{N cap:Nat}{A:Option Addr}{p:P3}(w:am)(hT:cJ w A N ts)(hN:N≤800000):dR prog 58 [.slice A N cap,pt p] w (fun v _=>v=qV (wS ts p)):=by
 refine⟨bO func58 (by kernel_rfl),?_⟩;have m:=Mem.refl w;have htl:=hT.len
 go_enter func58,ntmps58
 apply nM 17 [0] m;simp only[↓aD,akG,mC];intro g1 g2 g3 u m;refine cP [10] [7,11,12,13,14,15,16,17,18,19,20,21,22,23,24,25,26,27,28,29,30,31,32,33,34] (fun n vs wl=>∃(k:Nat),vs=[.int .i64 (k:Int)]∧Mem w wl [bI g3 (qC (wS (ts.take k) p)) 97,bI g2 [.bool false,.string ⟨#[]⟩,.bool false,.string ⟨#[]⟩,.bool false,.string ⟨#[]⟩,.bool false,.string ⟨#[]⟩,.bool false,.string ⟨#[]⟩,.bool false,.string ⟨#[]⟩,.bool false,.string ⟨#[]⟩,.bool false,.string ⟨#[]⟩,.bool false,.string ⟨#[]⟩,.bool false,.string ⟨#[]⟩] 97,bI g1 [.int .i64 p.x,.int .i64 p.y,.int .i64 p.z] 30]∧(k≤N)∧(n=N-k)) ?_ ?_
 · rw[show ([.bool false,.string ⟨#[]⟩,.bool false,.string ⟨#[]⟩,.bool false,.string ⟨#[]⟩,.bool false,.string ⟨#[]⟩,.bool false,.string ⟨#[]⟩,.bool false,.string ⟨#[]⟩,.bool false,.string ⟨#[]⟩,.bool false,.string ⟨#[]⟩,.bool false,.string ⟨#[]⟩,.bool false,.string ⟨#[]⟩]:List ak)=qC (wS (ts.take 0) p) from zq0] at m
   exact⟨_,0,O,m,bw _,O⟩
 · intro n vs wr hI u K1 hK1
   obtain⟨k,rfl,m,hk,hn⟩:=hI;simp only[zu,zF,zG];apply aL 5 [0,0] m;simp only[↓aD];refine bK O ?_ ?_<;>intro hc1
   ·
    obtain⟨t,ht,hti,a,rfl,hrow⟩:=hT.get (i:=k) (by omega);have hql:=By (ts:=ts) (p:=p) k (by omega);have hqb:=abi (p:=p) hT.it k (by omega);apply aL 5 [0] m;simp only[↓aD];refine aB (aG bZ aR O O (by omega) (by omega) (bX (ai _))) ?_;simp only[zz];refine aQ O ((hrow.ext m.ext).lies dK aR) ?_;simp only[zz];apply iH 8 [0,0,3,0] m;simp only[↓aD,nB,iG,dJ,aS,aa,ag,ah];intro g4;refine⟨by omega,?_⟩;intro u m;refine aB (bS O O) ?_;apply aM 1 [0] m;simp only[↓aD];refine eL O (fun hb=>aN dA aA O O (by decide) (by decide) O) ?_;simp only[zz];refine fG O (fun hb=>aZ (aX hb O) ((m.b 0 O).lies aH aA O O)) ?_;simp only[zz,zy,ap,aa,ah,ag];refine fG O (fun hb=>aZ O ((m.b 3 O).full aH aA)) (eL O (fun hb=>bS (aX hb O) (aX hb O)) (aB (eG O O O) ?_));apply aM 1 [0] m;simp only[↓aD];refine eL O (fun hb=>aN dA aA O O (by decide) (by decide) O) ?_;simp only[zz];refine fG O (fun hb=>aZ (aX hb O) ((m.b 0 O).lies aH aA O O)) ?_;simp only[zz,zy,ap,aa,ah,ag];refine fG O (fun hb=>aZ O ((m.b 3 O).full aH aA)) (eL O (fun hb=>bS (aX hb O) (aX hb O)) (aB (eG O O O) ?_));apply aM 1 [0] m;simp only[↓aD];refine dC O ?_ ?_<;>intro hc2
    ·
     rw[apJ] at hc2;have hst:=Lc (p:=p) ht;rw[if_pos hc2] at hst;refine eB m 4 aF (by kernel_rfl) ?_;simp only[zy];refine ql O (fun u m=>(xW (m.b 1 O) Ax lG (by first | rw[hqN] | rw[By _ (by omega)]))) ?_;simp only[zz];refine ql O (fun u m=>((m.b 0 O).full dK aR)) ?_;simp only[zz];refine kR O O (atG (t:=t)) ?_;simp only[zz];refine kR O O (ae0 hql (xP t) hqb (amm.mono (by omega)) (by omega)) (bN ?_);intro u m;simp only[zz];refine Ga (n:=20) m 1 O O O (by rw[mB hql (xP t)]) (by rw[Eb,hql]) lG ?_;intro u m;simp only[zF,zG] at m;refine aI ?_;apply bF 5 [0] m;simp only[↓aD];refine⟨by omega,?_⟩;rw[←hst] at m;exact hK1 (N-(k+1)) _ _ (by omega) (by kernel_rfl) ⟨k+1,O,(m.sel [false,true,true,true]),by omega,O⟩
    ·
     rw[apJ] at hc2;have hst:=Lc (p:=p) ht;rw[if_neg (by rw[hc2];exact ei)] at hst;apply aL 6 [0] m;simp only[↓aD];refine⟨by omega,?_⟩;rw[←hst] at m;exact hK1 (N-(k+1)) _ _ (by omega) (by kernel_rfl) ⟨k+1,O,(m.sel [false,true,true,true]),by omega,O⟩
   ·
    obtain rfl:N=k:=by omega
    rw[show ts.take N=ts from bf (by omega)] at m;have hqN:(wS ts p).length=10:=by have:=By (ts:=ts) (p:=p) N (by omega);rwa [bf (by omega)] at this
    apply aL 3 [0] m;simp only[↓aD];refine aQ O (xW (m.b 0 O) Ax lG (by first | rw[hqN] | rw[By _ (by omega)])) ?_;simp only[zz];refine Ga (n:=20) m 1 O O O (by rw[hqN]) O lG ?_;intro u m;simp only[zF,zG] at m;apply aM 2 [] m;simp only[↓aD];exact aY O ⟨_,O,(xW (m.b 1 O) Ax lG (by rw[hqN]))⟩ ⟨_,O,m.ext,O⟩
end Go.Proofs.YtfekpcimgncioaaGreatDoor
set_option linter.unusedSectionVars false
namespace Go.Lith
open Go
variable{P:bz}{w:am}{α:Type}{d:Nat}{m m':Machine}
theorem ae2{at_:Addr}{u:ay}{k:Addr}{v:ak}{b:Bool}{r:am × List Addr}(h:w.viewStore P at_ u k v b=.ok r):r.1.drawn=w.drawn:=by
 unfold World.viewStore at h;simp only[bind,Except.bind,pure,Except.pure,throw] at h
 repeat' split at h
 all_goals first | (cases h;done) | (cases h;rfl) | skip
theorem aio{x:Addr}{v:ak}{b:Bool}{r:am × List Addr}(h:w.farStore P x v b=.ok r):r.1.drawn=w.drawn:=by
 unfold World.farStore at h;split at h
 · split at h
   · rename_i hv
     cases h;exact ae2 hv
   · cases h
 · cases h
theorem abj(w:am)(x:Addr)(n:Nat):(w.freeze x n).drawn=w.drawn:=by
 unfold World.freeze;split <;> rfl
theorem aip(s:Ask α):∀w:am,w.drawn≤(w.ask s).2.drawn:=by
 induction s with
 | done a=>intro w;exact av _
 | ask what range k ih =>
  intro w;simp only[World.ask];split
  · exact ih _ w
  · exact aw (qw _) (ih _ { w with drawn:=w.drawn+1 })
theorem aiq(w:am)(c:Sys):w.drawn≤(w.sys c).2.drawn:=by
 have h:=aip (Kernel.perform c w.os) w;unfold World.sys;split
 · exact av _
 · rename_i e
   rw[e] at h;exact h
def okR{α:Type}(d:Nat):Result α→Prop
 | .ok _ w=>d≤w.drawn
 | .halt _ w=>d≤w.drawn
theorem okR.mono{α:Type}{d e:Nat}(h:e≤d):∀{r:Result α},okR d r→okR e r
 | .ok _ _,k=>aw h k
 | .halt _ _,k=>aw h k
theorem Qr(s:Sem α):∀w:am,okR w.drawn (s.run P w):=by
 induction s with
 | pure _=>intro w;exact av _
 | load m x k ih =>
  intro w;simp only[Sem.run];split
  · exact ih _ _
  · split
    · exact ih _ _
    · exact av _
 | store m x v k ih =>
  intro w;have key:okR w.drawn (match w.cell? x with
   | some _=>if w.frozen? x then Result.halt (.unsupported (.unsafePointer "a write to bytes that a string shares")) w else k.run P (w.setCell x v)
   | none=>match w.farStore P x v (m == Mode.atomic) with
    | .ok (w,_)=>k.run P w
    | .error h=>.halt h w):=by
   split
   · split
     · exact av _
     · exact ih (w.setCell x v)
   · split
     · rename_i hf
       exact okR.mono (Nat.le_of_eq (aio hf).symm) (ih _)
     · exact av _
  cases v <;> simp only[Sem.run] <;> first | exact av _ | exact key
 | new o k ih=>intro w;exact ih _ { w with heap:=w.heap.push o }
 | shape r k ih=>intro w;exact ih _ _
 | freeze x n k ih=>intro w;exact okR.mono (Nat.le_of_eq (abj w x n).symm) (ih _)
 | frozen x k ih=>intro w;exact ih _ _
 | getObj r k ih =>
  intro w;simp only[Sem.run];split
  · exact av _
  · exact ih _ _
  · exact av _
 | setObj r o k ih =>
  intro w;simp only[Sem.run];split
  · exact av _
  · exact ih { w with heap:=w.heap.setIfInBounds r o }
  · exact av _
 | choose q k ih =>
  intro w;simp only[Sem.run];split
  · exact ih _ _
  · exact okR.mono (qw _) (ih _ { w with drawn:=w.drawn+1 })
 | sys c k ih=>intro w;exact okR.mono (aiq w c) (ih _ _)
 | program k ih=>intro w;exact ih _ _
 | mark m k ih=>intro w;exact ih _
 | halt x=>intro w;exact av _
theorem ac5{s:Sem α}{es:Array Event}{r:Result α}{es':Array Event}(h:s.runT P w es=(r,es')):okR w.drawn r:=by
 have:=Sem.runT_fst P s w es;rw[h] at this;rw[show r=s.run P w from this];exact Qr s w
theorem jA{s:Sem α}{r:Result α}(h:s.run P w=r):okR w.drawn r:=h▸Qr s w
theorem pT{s:Sem α}{es:Array Event}{r:Result α}(h:(s.runT P w es).1=r):okR w.drawn r:=by
 rw[Sem.runT_fst] at h;exact jA h
def okG(d:Nat):GStep→Prop
 | .go _ w _ | .comm _ _ _ _ w _ | .spawn _ _ w _ | .count _ w _ | .timer _ _ w _ | .alone _ _ w _ | .newcoro _ _ _ w _ | .coroswitch _ _ _ w _ | .collect _ w _ | .watch _ w _=>d≤w.drawn
 | .ended _ _ _=>True
theorem zW{es:Array Event}{g:GStep}(h:okG d g):okG d (g.after es):=by cases g <;> exact h
theorem aoN{α:Type}{d:Nat}{x:GStep}{f:α→GStep}(h1:okG d x)(h2:∀a,okG d (f a)):∀o:Option α,okG d (o.elim x f)
 | none=>h1
 | some a=>h2 a
section
variable {P:bz} {d:Nat} {w:am} (hw:d≤w.drawn)
include hw
theorem ae3(fd:Nat)(t:ByteArray)(o:Outcome):okG d (endWith w fd t o):=by
 unfold endWith;dsimp only
 repeat' split
 all_goals trivial
theorem Vg(fr:Frame)(cs:List Frame)(dy:Option Dying)(m:String):okG d (endFatal P fr cs dy m w):=by
 unfold endFatal;dsimp only;split
 · rename_i h
   exact aw hw (jA h)
 · trivial
 · trivial
theorem Ox(fr:Frame)(v:ak):okG d (endPrinting P fr v w):=by
 unfold endPrinting;dsimp only;split
 · exact hw
 · trivial
theorem Nn(main:Bool)(fr:Frame)(cs:List Frame)(dy:Option Dying)(v:ak):okG d (doReturn P main fr cs dy v w):=by
 unfold doReturn
 repeat' (first | exact hw | trivial | split)
theorem ac6(fr:Frame)(cs:List Frame)(dy:Option Dying)(g:Nat):okG d (early P fr cs dy g w):=by
 have n:∀w:am,d≤w.drawn→okG d (match w.heap[g]? with
  | some (.pending c elem)=>GStep.go { frame:=fr,callers:=cs,status:=.running,dying:=dy } { w with heap:=w.heap.setIfInBounds g (.cells c elem) }
  | _=>.ended (.stuck "early: the variable does not wait" (fr.pos P)) w):=fun w hw=>by
  split
  · exact hw
  · trivial
 unfold early;dsimp only
 repeat' (first | exact n _ hw | exact hw | trivial | exact aw hw (jA (r:=.ok _ _) (by assumption)) | (rename_i w1 h1 x1 c1 e1 h2;exact aw hw (jA h1)) | split)
theorem Vh(b:Bool)(fr:Frame)(cs:List Frame)(dy:Option Dying)(s:Sem Next):okG d (stepG.apply P b fr cs dy s w):=by
 unfold stepG.apply;dsimp only;have hr:okR w.drawn (if b=true then s.runT P w #[] else (s.run P w,#[])).1:=by
  split
  · rw[Sem.runT_fst];exact Qr s w
  · exact Qr s w
 generalize (if b=true then s.runT P w #[] else (s.run P w,#[]))=r at hr;obtain⟨r,es⟩:=r;refine zW ?_;cases r with
 | ok n u =>
  have hu:d≤u.drawn:=aw hw hr;cases n
  all_goals dsimp only
  all_goals repeat' (first | exact hu | trivial | exact throw_ok hu _ _ | split)
 | halt x u =>
  have hu:d≤u.drawn:=aw hw hr;cases x
  all_goals dsimp only
  all_goals repeat' (first | exact hu | trivial | exact throw_ok hu _ _ | exact Vg hu _ _ _ _ | exact ac6 hu _ _ _ _ | (rename_i e;cases e;done) | (rename_i e;cases e;exact hu) | (rename_i e;cases e;exact Vg hu _ _ _ _) | (rename_i e;cases e;exact ac6 hu _ _ _ _) | split)
theorem aoO(b:Bool)(fr:Frame)(cs:List Frame)(dy:Option Dying):okG d (stepG.oper P b fr cs dy w):=by
 unfold stepG.oper
 repeat' (first | trivial | exact Vh hw _ _ _ _ _ | split)
theorem aoP(main b:Bool)(fr:Frame)(cs:List Frame)(dy:Option Dying):okG d (stepG.exec P main b fr cs dy w):=by
 unfold stepG.exec;dsimp only
 repeat' (first | exact hw | trivial | exact Vh hw _ _ _ _ _ | exact aoO hw _ _ _ _ | (with_reducible refine zW ?_) | exact aw hw (pT (r:=.ok _ _) (by assumption)) | exact aw hw (pT (r:=.halt _ _) (by assumption)) | exact aw hw (jA (r:=.ok _ _) (by assumption)) | exact Nn (aw hw (pT (r:=.ok _ _) (by assumption))) _ _ _ _ _ | exact Vh (aw hw (pT (r:=.ok _ _) (by assumption))) _ _ _ _ _ | refine aoN ?_ (fun _=>?_) _ | split)
theorem ac7(fr:Frame)(cs:List Frame)(dy:Option Dying)(x:Deferred):okG d (callDeferred P fr cs dy x w):=by
 unfold callDeferred;dsimp only
 repeat' (first | exact hw | trivial | (with_reducible refine zW ?_) | exact aw hw (pT (r:=.ok _ _) (by assumption)) | exact aw hw (pT (r:=.halt _ _) (by assumption)) | exact throw_ok (aw hw (pT (r:=.halt _ _) (by assumption))) _ _ | exact Vg (aw hw (pT (r:=.halt _ _) (by assumption))) _ _ _ _ | split)
theorem ais(main:Bool)(fr:Frame)(cs:List Frame)(dy:Option Dying):okG d (unwind P main fr cs dy w):=by
 unfold unwind;dsimp only
 repeat' (first | exact hw | trivial | (with_reducible refine zW ?_) | exact ac7 hw _ _ _ _ | exact Nn hw _ _ _ _ _ | exact Ox hw _ _ | exact aw hw (pT (r:=.ok _ _) (by assumption)) | exact aw hw (jA (r:=.ok _ _) (by assumption)) | exact Nn (aw hw (pT (r:=.ok _ _) (by assumption))) _ _ _ _ _ | split)
theorem ae4(fr:Frame)(x:Dying)(f:Fatal):okG d (writeOn P fr x f w):=by
 unfold writeOn;dsimp only
 repeat' (first | exact hw | trivial | exact aw hw (ac5 (r:=.ok _ _) (by assumption)) | exact aw hw (ac5 (r:=.halt _ _) (by assumption)) | split)
theorem ar2(fr:Frame)(x:Dying):okG d (die P fr x w):=by
 unfold die;dsimp only
 repeat' (first | exact hw | trivial | (with_reducible refine zW ?_) | exact ae4 hw _ _ _ | exact ae3 hw _ _ _ | exact aw hw (pT (r:=.ok _ _) (by assumption)) | exact aw hw (jA (r:=.ok _ _) (by assumption)) | exact Ox (aw hw (pT (r:=.halt _ _) (by assumption))) _ _ | split)
theorem amn(main:Bool)(g:Goroutine)(b:Bool):okG d (stepG P main g w b):=by
 unfold stepG;dsimp only
 repeat' (first | exact ar2 hw _ _ | exact aoP hw _ _ _ _ _ | exact ais hw _ _ _ _ | split)
end
def okS(d:Nat):Stepped→Prop
 | .next m=>d≤m.world.drawn
 | _=>True
section
variable {P:bz} {d:Nat} {w:am} (hw:d≤w.drawn)
include hw
theorem ae5{rest:Rest}{cases:Array CommCase}{u:am}(h:waitingAt rest cases w=some u):d≤u.drawn:=by
 unfold waitingAt at h;split at h
 · split at h
   · cases h;exact hw
   · cases h
 · cases h;exact hw
theorem aoQ(rest:Rest)(gs:Array Goroutine)(i:Nat)(g:Goroutine)(cases:Array CommCase)(bl:Bool)(sh:CommShape):okS d (communicate P rest gs i g cases bl sh w).1:=by
 unfold communicate;dsimp only
 repeat' (first | exact hw | trivial | exact ae5 hw (by assumption) | split)
 all_goals dsimp only[okS]
 all_goals first | exact aw hw (jA (r:=.ok _ _) (by assumption)) | exact aw (aw hw (jA (r:=.ok _ _) (by assumption))) (jA (r:=.ok _ _) (by assumption)) | exact aw (aw hw (jA (r:=.ok _ _) (by assumption))) (jA (r:=.halt _ _) (by assumption))
theorem agF(gs:Array Goroutine)(rest:Rest):okS d (look P gs rest w):=by
 unfold look;dsimp only
 repeat' (first | exact hw | trivial | split)
 all_goals dsimp only[okS]
 all_goals exact aw hw (jA (r:=.ok _ _) (by assumption))
end
theorem amo(m:Machine)(k:Nat):okS m.world.drawn (serve P m k):=by
 unfold serve;dsimp only
 repeat' (first | exact av _ | trivial | split)
theorem Ze(m:Machine)(k:Nat)(t:Timer)(a b:Nat):m.world.drawn≤(retime m k t a b).2.world.drawn:=by
 unfold retime;dsimp only;split
 · unfold drain
   split <;> exact av _
 · exact av _
theorem ac8{v:ak}{var:Addr}{f:Nat→Timer→ak × Machine}(hf:∀k t,m.world.drawn≤(f k t).2.world.drawn){m0:Machine}(h:timerOp.named m0 var f=.ok (v,m')):m.world.drawn≤m'.world.drawn:=by
 unfold timerOp.named at h;split at h
 · rename_i k _
   have:=hf k (m0.rest.timers.getD k default);cases hh:f k (m0.rest.timers.getD k default) with
   | mk a b =>
    rw[hh] at h this;cases h;exact this
 · cases h
theorem ae6{op:TimerOp}{v:ak}(h:timerOp m op=.ok (v,m')):m.world.drawn≤m'.world.drawn:=by
 unfold timerOp at h;cases op with
 | new t =>
  dsimp only at h
  repeat' (first | (cases h;done) | (cases h;exact av _) | split at h)
 | stop var=>exact ac8 (fun k t=>Ze m k t _ _) h
 | reset var when period =>
  dsimp only at h;split at h
  · rename_i m1 hm
    have h1:m.world.drawn≤m1.world.drawn:=by
     unfold timerOp.opened at hm
     repeat' (first | (cases hm;done) | (cases hm;exact av _) | split at hm)
    exact ac8 (fun k t=>aw h1 (Ze m1 k t _ _)) h
  · cases h
 | deadline ctx read write when=>cases h;exact av _
theorem ar3(P:bz)(m:Machine)(i:Nat)(b:Bool):okS m.world.drawn (runT P m i b).1:=by
 unfold runT;dsimp only;have h:=amn (P:=P) (av m.world.drawn) (i == 0) (m.gs.swapAt! i { (default:Goroutine) with status:=.finished }).1 b;generalize stepG P (i == 0) (m.gs.swapAt! i { (default:Goroutine) with status:=.finished }).1 m.world b=s at h;cases s
 all_goals dsimp only
 all_goals repeat' (first | exact h | trivial | exact aoQ h _ _ _ _ _ _ _ | exact agF h _ _ | split)
 all_goals exact aw h (ae6 (by assumption))
def okM(d:Nat):Move→Prop
 | .goroutine m _=>d≤m.world.drawn
 | .machine s _=>okS d s
theorem okS.mono{d e:Nat}(h:e≤d):∀{s:Stepped},okS d s→okS e s
 | .next _,k=>aw h k
 | .ended _ _,_=>trivial
theorem abl{P:bz}{d:Nat}(rs:List Nat)(m:Machine)(hw:d≤m.world.drawn):okM d (match (choose (.sched rs.length)).run P m.world with
 | .halt _ w=>.machine (.ended (.stuck "sched" "") w)
 | .ok k world =>
  if rs.length≤1 then .goroutine { m with world } (rs.getD k 0) else
  match (choose (.extern "sched.slice" 65536)).run P world with
  | .halt _ w=>.machine (.ended (.stuck "sched.slice" "") w)
  | .ok n world=>.goroutine { m with world,rest:={ m.rest with slice:=if n=0 then none else some (rs.getD k 0,n) } } (rs.getD k 0)):=by
 repeat' (first | trivial | split)
 all_goals dsimp only[okM]
 all_goals first | exact aw hw (jA (r:=.ok _ _) (by assumption)) | exact aw (aw hw (jA (r:=.ok _ _) (by assumption))) (jA (r:=.ok _ _) (by assumption))
theorem Vi(hw:d≤m.world.drawn):okM d (askOn P m):=by
 unfold askOn;dsimp only;split
 · trivial
 · rename_i k w1 h1
   have hw1:d≤w1.drawn:=aw hw (jA h1);split
   · exact okS.mono hw1 (amo { m with world:=w1 } _)
   · split
     · split
       · exact hw1
       · split
         · exact hw1
         · split <;> trivial
     · split
       · exact abl _ { m with world:=w1 } hw1
       · split
         · trivial
         · rename_i w2 h2
           exact abl _ { m with world:=w2 } (aw hw1 (jA h2))
         · rename_i w2 h2
           exact aw hw1 (jA h2)
         · rename_i w2 h2
           exact abl _ (({ m with world:=w2 }:Machine).advanceTo _) (aw hw1 (jA h2))
theorem amp(hw:d≤m.world.drawn):okM d (ask P m):=by
 unfold ask;split
 · split
   · trivial
   · rename_i w1 h1
     have hw1:d≤w1.drawn:=aw hw (jA h1);have hl:=agF (P:=P) hw1 m.gs m.rest;split
     · rename_i m2 h2
       rw[h2] at hl;exact Vi hl
     · rename_i e he
       cases hq:look P m.gs m.rest w1 with
       | next m2=>exact absurd hq (he m2)
       | ended o w2=>trivial
   · rename_i w1 h1 _
     exact Vi (m:={ m with world:=w1 }) (show d≤w1.drawn from aw hw (jA (r:=.ok _ _) (by assumption)))
 · exact Vi hw
theorem aoR   : okM m.world.drawn (move P m):=by
 unfold move;split
 · split
   · exact av _
   · trivial
 · split
   · split
     · exact av _
     · exact amp (m:={ m with rest:={ m.rest with slice:=none } }) (av _)
   · exact amp (av _)
theorem aoS(h:step P m=.next m'):m.world.drawn≤m'.world.drawn:=by
 have h1:=aoR (P:=P) (m:=m);have h2:okS m.world.drawn (step P m):=by
  unfold step stepT;split
  · rename_i m1 i hm
    rw[hm] at h1;exact okS.mono h1 (ar3 P m1 i _)
  · rename_i s ops hm
    rw[hm] at h1;exact h1
 rw[h] at h2;exact h2
theorem ac9(h:Steps P m m'):m.world.drawn≤m'.world.drawn:=by
 obtain⟨n,hn⟩:=h
 induction n generalizing m with
 | zero=>cases hn;exact av _
 | succ n ih =>
  simp only[runN] at hn;split at hn
  · rename_i m1 h1
    exact aw (aoS h1) (ih hn)
  · rename_i e he
    cases hq:step P m with
    | next m2=>exact absurd hq (he m2)
    | ended o w2=>rw[hq] at hn;cases hn
theorem ada{f:FuncId}{args:Array ak}{R:Ending→am→Prop}(hR:∀w',¬R .outgrown w')(h:Calls P f args w R):Calls P f args w fun e w'=>R e w'∧w.drawn≤w'.drawn:=fun cs=>by
 obtain⟨e,w',fr,hr,hc,hf,hl⟩:=h cs;refine⟨e,w',fr,⟨hr,?_⟩,hc,hf,hl⟩;cases e with
 | returned v=>exact ac9 hc
 | panicked c=>exact ac9 hc
 | outgrown=>exact absurd hr (hR w')
theorem gS.g{f:FuncId}{args:List ak}{v:ak}(h:gS P f args v):uU P f args v:=fun w =>
 ⟨(h w).1,(ada (fun _ ⟨_,e,_⟩=>(by cases e)) (h w).2).mono fun _ _ ⟨⟨u,he,hX,hv⟩,hd⟩=>⟨u,he,⟨hX,hd⟩,hv⟩⟩
end Go.Lith
namespace Go.Lith
open Go.RowKit
theorem ae7{l:List T3}{q:P3→List Int}{cs:List mN}{c:mN}{k:Nat}(hm:∀d,d∈cs↔d∈aeo l q)(hs:cs.Pairwise fun a b=>¬b.Lt a)(hk:cs[k]? = some c)(ha:dT l c.u c.v=true)(hb:∀j d,j<k→cs[j]? = some d→dT l d.u d.v=false):Cf l q=some c:=by
 refine anR (c_.2 ⟨(hm c).1 (bn hk),ha⟩) fun d hd hlt=>?_;obtain⟨h1,h2⟩:=c_.1 hd;obtain⟨j,hj⟩:=ej.1 ((hm d).2 h1);rcases Nat.lt_trichotomy j k with h | h | h
 · rw[hb j d h hj] at h2;cases h2
 · rw[h,hk] at hj;cases hj;exact mN.lt_irrefl _ hlt
 · obtain⟨kl,rfl⟩:=ax.1 hk
   obtain⟨jl,rfl⟩:=ax.1 hj;exact List.pairwise_iff_getElem.1 hs k j kl jl h hlt
theorem ae8{l:List T3}{q:P3→List Int}{cs:List mN}(hm:∀d,d∈cs↔d∈aeo l q)(hb:∀d∈cs,dT l d.u d.v=false):Cf l q=none:=by
 refine Mn.2 (ow.2 fun d hd=>?_);rw[hb d ((hm d).2 hd)];exact ei
/-! ### The example: the octahedron -/
end Go.Lith
namespace Go.Proofs.YtfekpcimgncioaaGreatDoor
open Go.Proofs.Tryz
open Go.RowKit Go.Lith
set_option maxRecDepth 100000
attribute [local irreducible] au cq eF bJ cD Code.wp
attribute [local congr] oG fS fT fU fV fW jR fX fY fZ gA gB gC gD gE gF gG gH eM eN gI gJ gL gM gN jT cW cX cA cU gK jS eO eP eQ gQ gR jU
variable{g50 g90 ga gf N cap ca cf n1 c1:Nat}{ts:List T3}
def uS(c:mN):List ak:=[.int .i64 c.u.x,.int .i64 c.u.y,.int .i64 c.u.z,.int .i64 c.v.x,.int .i64 c.v.y,.int .i64 c.v.z,.bool (fM c.c),.string (kA c.c)]
def abm(c:mN):ak:=.agg (uS c).toArray
theorem fJ:(∀c,uS c=[.int .i64 c.u.x,.int .i64 c.u.y,.int .i64 c.u.z,.int .i64 c.v.x,.int .i64 c.v.y,.int .i64 c.v.z,.bool (fM c.c),.string (kA c.c)])∧(∀c,(abm c).cells.toList=[.int .i64 c.u.x,.int .i64 c.u.y,.int .i64 c.u.z,.int .i64 c.v.x,.int .i64 c.v.y,.int .i64 c.v.z,.bool (fM c.c),.string (kA c.c)])∧(∀c f,vvA (abm c) f=f [.int .i64 c.u.x,.int .i64 c.u.y,.int .i64 c.u.z,.int .i64 c.v.x,.int .i64 c.v.y,.int .i64 c.v.z,.bool (fM c.c),.string (kA c.c)]):=⟨fun _=>rfl,fun _=>rfl,fun _ _=>rfl⟩
theorem aoT(c:mN):∀v∈uS c,v.oneCell'=true:=fun v h=>by
 simp only[uS,ao,bt,or_false] at h;rcases h with rfl | rfl | rfl | rfl | rfl | rfl | rfl | rfl <;> rfl
def amq(a b:mN):Int:=if bR (a.c-b.c)=0 then if sA a.u b.u=0 then sA a.v b.v else sA a.u b.u else bR (a.c-b.c)
theorem Ld(a b:mN):(amq a b<0)↔a.Lt b:=by
 unfold amq mN.Lt;have h0:bR (a.c-b.c)=0↔a.c=b.c:=by rw[iT];omega
 have h1:bR (a.c-b.c)<0↔a.c<b.c:=by
  have:=abK (n:=a.c-b.c);omega
 by_cases h:a.c=b.c
 · rw[if_pos (h0.2 h)]
   by_cases g:a.u=b.u
   · rw[if_pos (oJ.2 g),mY]
     simp[h,g,P3.lt_irrefl]
   · rw[if_neg fun k=>g (oJ.1 k),mY]
     simp[h,g]
 · rw[if_neg fun k=>h (h0.1 k),h1]
   simp[h]
abbrev amr:Type:={ c:mN // Bd 900000 c.c }
instance:Inhabited amr:=⟨⟨⟨⟨0,0,0⟩,⟨0,0,0⟩,0⟩,Ph _⟩⟩
theorem ams:Go.Sort.SWO (Go.Proofs.ltOf fun a b:amr=>amq a.1 b.1) where
 irrefl a:=by simp only[Go.Proofs.ltOf,decide_eq_false_iff_not,Ld];exact mN.lt_irrefl a.1
 trans x y z h1 h2:=by
  simp only[Go.Proofs.ltOf,decide_eq_true_eq,Ld] at *
  exact mN.lt_trans h1 h2
 ntrans x y z h1 h2:=by
  simp only[Go.Proofs.ltOf,decide_eq_false_iff_not,Ld] at *
  intro h;rcases mN.lt_tri y.1 x.1 with k | k | k
  · exact h2 (mN.lt_trans k h)
  · exact h2 (by rw[k];exact h)
  · exact h1 k
theorem aoU{p q:mN}(hp:Bd 900000 p.c)(hq:Bd 900000 q.c):uU prog 64 [abm p,abm q] (.int .i64 (amq p q)):=by
 intro w;refine⟨bO func64 (by kernel_rfl),?_⟩;have m:=jB.refl w
 go_enter func64,ntmps64
 refine aT fun K1 k1=>wp_region_lit (pW m O ?_);intro g1 u m;simp only[zz];refine pW m O ?_;intro g2 u m;refine aB aJ (aI (k1 _ _ ?_));try clear k1 K1
 refine aT fun K2 k2=>?_;simp only[zz];refine Ro m 15 aF (by kernel_rfl) ?_;simp only[zy];refine aK (bD (c:=1) Aw O aW O O) ?_;simp only[zz];refine Vk O (fun u m=>((m.b 1 O).lies dU aW O O)) ?_;simp only[zz,zy,ap,aa,ah,ag];refine aK (bD (c:=1) Aw O aW O O) ?_;simp only[zz];refine Vk O (fun u m=>((m.b 0 O).lies dU aW O O)) ?_;simp only[zz,zy,ap,aa,ah,ag];refine Jj O O ((atf (a:=p.c) (b:=q.c) hp hq).g) (aK (bD (c:=2) Aw O aA O O) ?_);simp only[zz];refine Vk O (fun u m=>((m.b 1 O).lies aH aA O O)) ?_;simp only[zz,zy,ap,aa,ah,ag];refine aK (bD (c:=2) Aw O aA O O) ?_;simp only[zz];refine Vk O (fun u m=>((m.b 0 O).lies aH aA O O)) ?_;simp only[zz,zy,ap,aa,ah,ag];refine Jj O O (Up (p:=p.u) (q:=q.u)) (aK (bD (c:=2) Aw O aA O O) ?_);simp only[zz];refine Vk O (fun u m=>((m.b 1 O).lies aH aA O O)) ?_;simp only[zz,zy,ap,aa,ah,ag];refine aK (bD (c:=2) Aw O aA O O) ?_;simp only[zz];refine Vk O (fun u m=>((m.b 0 O).lies aH aA O O)) ?_;simp only[zz,zy,ap,aa,ah,ag];refine Jj O O (Up (p:=p.v) (q:=q.v)) (bN ?_);intro u m;simp only[zz];refine acB m Cg (z:=.int .i64 0) (by kernel_rfl) O O O O O O O ?_;intro g3 u m;simp only[zz];refine aaV m O O (aly _ (m.b 0 O)) ?_;intro u m;refine aB aJ (aI (k2 _ _ ?_));try clear k2 K2
 refine wp_ret ?_;simp only[zz];try simp only[Exit.inBlock,Exit.then,if_true]
 refine aY O O ?_;try simp only[zD,zE]
 exact⟨_,O,m.ext,O⟩
theorem aoV{w0 w:am}{is:List It}{A:Option Addr}{n cap:Nat}{xs:List mN}(hb:∀c∈xs,Bd 900000 c.c)(m:Mem w0 w is)(k:Nat)(hi:is[k]? = some (oI 112 8 A n cap (xs.flatMap uS)))(hsz:n<4611686018427387904) :
 Calls prog 123 [.slice A n cap,.func (.func 64) #[] #[]].toArray w fun e w'=>∃v i,e=.returned v∧Mem w0 w' (is.set k i)∧(v=.tuple #[]∧∃ys:List mN,i=oI 112 8 A n cap (ys.flatMap uS)∧ys.Perm xs∧ys.Pairwise fun a b=>¬b.Lt a):=by
 have e0:(xs.attachWith (fun c=>Bd 900000 c.c) hb).map (·.1)=xs:=List.attachWith_map_subtype_val ..;have e1:∀L:List amr,L.flatMap (fun c=>uS c.1)=(L.map (·.1)).flatMap uS:=fun L=>by rw[List.flatMap_map]
 have hi':is[k]? = some (oI 112 8 A n cap ((xs.attachWith (fun c=>Bd 900000 c.c) hb).flatMap fun c=>uS c.1)):=by rw[e1,e0];exact hi
 refine (Ds (α:=amr) (enc:=fun c=>uS c.1) Tryz.sort123 (fun w=>qU Js w) (fun w=>fA sK w) (fun _=>rfl) (by decide) (fun x=>aoT x.1) (fun a b=>amq a.1 b.1) ams (fun x y=>aoU x.2 y.2) m k hi' hsz).mono ?_;rintro e w' ⟨v,i,h1,h2,h3,ys,h4,h5,h6⟩;refine⟨v,i,h1,h2,h3,ys.map (·.1),by rw[h4,e1],?_,?_⟩
 · have:=h5.map (fun c:amr=>c.1)
   rwa [e0] at this
 · rw[List.pairwise_map]
   exact h6.imp fun h=>by simpa[Go.Proofs.ltOf,Ld] using h
theorem ar4{A:Option Addr}{ea ef:Array cg}{D:List (P3 × Hd)}{F:List (P3 × Bool)}{c:mN}[I3 c.u][I3 c.v](w:am)(hB50:fE w g50 [.pointer (some ⟨g90,0,none⟩)] 88)(hS:La 109 w g90 ga gf A N cap ea ef ca cf D ts)(hT:cJ w A N ts)(hD:Ve ea ef ca cf D F ts)(hnd:∀t∈ts,t.nd=true)(hN:ts.length≤1000000):dR prog 65 [abm c,.pointer (some ⟨g50,0,none⟩)] w (fun v _=>v=.bool (dT ts c.u c.v)):=by
 refine⟨bO func65 (by kernel_rfl),?_⟩;have m:=Mem.refl w
 go_enter func65,ntmps65
 apply nM 7 [0] m;simp only[↓aD,↓fJ];intro g1 u m;refine aQ O ((hB50.ext m.ext).lies1 aaj O) ?_;simp only[zz];apply aM 4 [0,0,0] m;simp only[↓aD,↓fJ,Ef,aS,wL,aa];refine dH m O O (ain (p:=c.u) (q:=c.v) _ (hS.ext m.ext) hD (hT.ext m.ext) hnd hN) ?_;rintro v u m rfl;apply aM 3 [] m;simp only[↓aD];exact aY O O ⟨_,O,m.ext,O⟩
theorem amt{A:Option Addr}{ea ef:Array cg}{D:List (P3 × Hd)}{F:List (P3 × Bool)}{cs:List mN}{A1:Option Addr}(w:am)(hB50:fE w g50 [.pointer (some ⟨g90,0,none⟩)] 88)(hS:La 109 w g90 ga gf A N cap ea ef ca cf D ts)(hT:cJ w A N ts)(hD:Ve ea ef ca cf D F ts)(hnd:∀t∈ts,t.nd=true)(hN:ts.length≤1000000)(hL:Aq uS 8 w A1 n1 cs)(hI:∀c∈cs,I3 c.u∧I3 c.v)(hn1:n1≤100000000):dR prog 124 [.slice A1 n1 c1,.func (.func 65) #[] #[.pointer (some ⟨g50,0,none⟩)]] w (fun v _=>∃k:Int,v=.int .i64 k∧((k<0∧∀c∈cs,dT ts c.u c.v=false)∨∃(j:Nat) (c:mN),k=j∧j<n1∧cs[j]? = some c∧dT ts c.u c.v=true∧∀(i:Nat) (d:mN),i<j→cs[i]? = some d→dT ts d.u d.v=false)):=by
 refine⟨bO func124 (by kernel_rfl),?_⟩;have m:=Mem.refl w;have hcl:=hL.len
 go_enter func124,ntmps124
 apply iE 12 [0] m;simp only[↓aD,aqF];refine cP [8] [4,5,9,10,11,12,13,14,15,16,17,18] (fun n vs wl=>∃(k:Nat),vs=[.int .i64 (k:Int)]∧Mem w wl []∧(∀(j:Nat) (d:mN),j<k→cs[j]? = some d→dT ts d.u d.v=false)∧(k≤n1)∧(n=n1-k)) ?_ ?_
 ·
  exact⟨_,0,O,m,(fun j r h=>by omega),bw _,O⟩
 · intro n vs wr hI u K1 hK1
   obtain⟨k,rfl,m,hq0,hk,hn2⟩:=hI;simp only[zu,zF,zG];apply aL 5 [0,0] m;simp only[↓aD];refine bK O ?_ ?_<;>intro hc1
   ·
    obtain⟨c,hc,a1,rfl,hrow⟩:=hL.get (i:=k) (by omega);apply aL 13 [0] m;simp only[↓aD];refine aB (aG underlying105 sK O O (by omega) (by omega) (bX (ai _))) ?_;simp only[zz];refine aQ O ((hrow.ext m.ext).lies Js sK) ?_;simp only[zz];refine dH m O O ((haveI:=(hI c (bn hc)).1;haveI:=(hI c (bn hc)).2;ar4 (c:=c) _ (hB50.ext m.ext) (hS.ext m.ext) (hT.ext m.ext) hD hnd hN)) ?_;rintro v u m rfl;apply aM 1 [0] m;simp only[↓aD];refine dC O ?_ ?_<;>intro hc2
    ·
     apply aL 6 [] m;simp only[↓aD];exact aY O O ⟨_,O,m.ext,k,O,.inr ⟨k,c,O,by omega,hc,hc2,fun i d hi hd=>hq0 i d hi hd⟩⟩
    ·
     apply aL 6 [0] m;simp only[↓aD];refine⟨by omega,?_⟩;exact hK1 (n1-(k+1)) _ _ (by omega) (by kernel_rfl) ⟨k+1, rfl, m, (fun j r2 hj h1 => by
      rcases Nat.lt_or_ge j k with h | h
      · exact hq0 j r2 h h1
      · obtain rfl:j=k:=by omega
        rw[hc] at h1;cases h1;exact hc2),by omega,O⟩
   ·
    obtain rfl:n1=k:=by omega
    apply aL 6 [] m;simp only[↓aD];exact aY rfl rfl ⟨_,rfl,m.ext,-1,rfl,.inl ⟨by decide,fun c hc=>by obtain⟨j,hj⟩:=ej.1 hc;exact hq0 j c (by have:=(ax.1 hj).1;omega) hj⟩⟩
theorem ar5{w0 w:am}{K R0:It}{A:Option Addr}{ea ef:Array cg}{D:List (P3 × Hd)}{F:List (P3 × Bool)}{cs:List mN}{A1:Option Addr}(m:Mem w0 w [oI 112 8 A1 n1 c1 (cs.flatMap uS),bI g50 [.pointer (some ⟨g90,0,none⟩)] 88,K,oI 39 9 A N cap (ts.flatMap aP),R0])(hK:∀u,K.P u→La 109 u g90 ga gf A N cap ea ef ca cf D ts)(hD:Ve ea ef ca cf D F ts)(hnd:∀t∈ts,t.nd=true)(hIT:∀t∈ts,IT t)(hN:ts.length≤1000000)(hI:∀c∈cs,I3 c.u∧I3 c.v)(hb:∀c∈cs,Bd 900000 c.c)(hn1:n1≤100000000):xN prog 63 [.slice A1 n1 c1,.func (.func 64) #[] #[],.func (.func 65) #[] #[.pointer (some ⟨g50,0,none⟩)]] w fun v w'=>Mem w0 w' [bI g50 [.pointer (some ⟨g90,0,none⟩)] 88,K,oI 39 9 A N cap (ts.flatMap aP),R0]∧((v=.tuple #[.agg #[.int .i64 0,.int .i64 0,.int .i64 0,.int .i64 0,.int .i64 0,.int .i64 0,.bool false,.string ⟨#[]⟩],.bool false]∧∀c∈cs,dT ts c.u c.v=false)∨∃(c:mN) (ys:List mN) (j:Nat),v=.tuple #[abm c,.bool true]∧ys.Perm cs∧(ys.Pairwise fun a b=>¬b.Lt a)∧ys[j]? = some c∧dT ts c.u c.v=true∧∀(i:Nat) (d:mN),i<j→ys[i]? = some d→dT ts d.u d.v=false):=by
 refine⟨bO func63 (by kernel_rfl),?_⟩
 go_enter func63,ntmps63
 apply nM 9 [0] m;simp only[↓aD,↓fJ,aes];intro g51 u m;refine nI m 1 (bO func123 (by kernel_rfl)) O O (fun m=>aoV hb m 1 O (by omega)) ?_;rintro v i u m ⟨rfl,ys,rfl,hys,hso⟩;simp only[zF,zG] at m;apply aM 5 [0] m;simp only[↓aD];refine dH m O O (amt _ (m.b 2 O) (hK _ (m.get 3 O)) ((m.o 4 O).tris hIT) hD hnd hN ((m.o 1 O).lat (enc:=uS) (fun _=>rfl) (by decide)) (fun c hc=>hI c (hys.mem_iff.1 hc)) hn1) ?_;rintro v u m ⟨kk,rfl,hkk⟩;apply aM 8 [0,0] m;simp only[↓aD];refine bK O ?_ ?_<;>intro hc1
 ·
  apply Wi 11 [0,1] m;simp only[↓aD,↓fJ,aes,aer,aa];intro g52 u m;exact nP O ⟨_,O,((m.b 1 O).full Js sK)⟩ O ⟨_,O,m.sel [false,false,false,true,true,true,true],.inl ⟨O,fun c hc=>(hkk.resolve_right (fun⟨j,c2,e,_⟩=>by omega)).2 c (hys.mem_iff.2 hc)⟩⟩
 ·
  obtain⟨j,c,rfl,hj,hc,ha,hb4⟩:=hkk.resolve_left (fun h=>hc1 h.1);obtain⟨c9,hc9,a1,hA1,hr5⟩:=((m.o 1 rfl).lat (enc:=uS) (fun _=>rfl) (by decide)).get (i:=j) (by omega);obtain rfl:c9=c:=fh (hc9.symm.trans hc);subst hA1;apply aL 5 [0] m;simp only[↓aD];refine aB (aG underlying105 sK O O (by omega) (by omega) (bX (ai _))) ?_;simp only[zz];refine aQ O (show nO _ _ _ _ (.agg #[.int .i64 c9.u.x,.int .i64 c9.u.y,.int .i64 c9.u.z,.int .i64 c9.v.x,.int .i64 c9.v.y,.int .i64 c9.v.z,.bool (fM c9.c),.string (kA c9.c)]) from hr5.lies Js sK) ?_;simp only[zz];apply iH 4 [0] m;simp only[↓aD,↓fJ,aer,aa];intro u m;exact nP O ⟨_,O,((m.b 0 O).full Js sK)⟩ O ⟨_,O,m.sel [false,false,true,true,true,true],.inr ⟨c9,ys,j,O,hys,hso,hc,ha,hb4⟩⟩
end Go.Proofs.YtfekpcimgncioaaGreatDoor
namespace Go.Lith
open Go.RowKit Go.ChangeMaps Go.MapKept
section
variable {K V:Type} [DecidableEq K] {P:bz} {T M E ty:ay} {ek:K→ak} {ev:V→ak} {w w0:am} {g c:Nat} {es:Array cg} {D:List (K × V)} {is:List It}
def uZ(ek:K→ak)(ev:V→ak)(D:List (K × V))(es:Array cg)(seen:Array Nat)(dn rs:List (K × V)):Prop :=
 (dn++rs).Perm D∧∃dE rE:List cg,(∀e∈dE,e.born∈seen.toList)∧(∀e∈rE,e.born∉seen.toList)∧(dE++rE).Perm es.toList∧dE.map Wh=dn.map (fun x=>(ek x.1,ev x.2))∧rE.map Wh=rs.map (fun x=>(ek x.1,ev x.2))
def zX(ek:K→ak)(ev:V→ak)(D:List (K × V))(es:Array cg)(seen:Array Nat)(dn:List (K × V))(k:K)(v:V)(rs:List (K × V)):Prop :=
 uZ ek ev D es seen (dn++[(k,v)]) rs∧∃(e:cg) (s:Array Nat),e∈es.toList∧Wh e=(ek k,ev v)∧seen=s.push e.born
theorem uZ.start(hD:bA ek ev D es c):uZ ek ev D es #[] [] D:=⟨oz _,[],es.toList,fun _ h=>(by cases h),fun _ _ h=>(by cases h),oz _,rfl,hD.cells⟩
theorem uZ.done{seen:Array Nat}{dn:List (K × V)}(h:uZ ek ev D es seen dn []):dn.Perm D:=by simpa using h.1
def aoW(ek:K→ak)(ev:V→ak)(D:List (K × V))(es:Array cg)(dn rs:List (K × V))(b:Bool)(seen':Array Nat):Prop :=
 (b=false∧rs=[])∨(b=true∧∃k v rs',rs.Perm ((k,v)::rs')∧zX ek ev D es seen' dn k v rs')
theorem aiu{r:Nat}{seen:Array Nat}{dn rs:List (K × V)}(hI:uA w r g c seen c)(hM:iN w g es c)(hD:bA ek ev D es c)(hT:uZ ek ev D es seen dn rs) :
 ∃b kv vv seen' w1,(w1=w∨w1=w.drew)∧(Instr.next (.pointer (some ⟨r,0,none⟩)) false ty).run P w=.ok (Gz b kv vv) (setBlock w1 r (.mapIter (some g) c seen' c))∧aoW ek ev D es dn rs b seen':=by
 obtain⟨hp,dE,rE,h1,h1',h2,h3,h4⟩:=hT;have hnd:((dE++rE).map (·.born)).Nodup:=(h2.map (·.born)).nodup_iff.2 hD.nd;have hleft:∀e,e∈(leftOf es seen).toList↔e∈rE:=fun e=>by
  unfold leftOf;simp only[Array.toList_filter,c_,Bool.not_eq_true',Array.contains_eq_mem,decide_eq_false_iff_not];rw[←Array.mem_toList_iff (xs:=seen),←h2.mem_iff,br];constructor
  · rintro⟨h | h,hn⟩
    · exact absurd (h1 e h) hn
    · exact h
  · intro h
    exact⟨.inr h,h1' e h⟩
 rcases run_next_at (P:=P) w ty r g c c seen es c hI hM hD.born (av _) with ⟨h0,hr⟩ | ⟨e,he,w1,hw1,hr⟩
 · refine⟨false,default,default,seen,w,.inl O,?_,.inl ⟨O,?_⟩⟩
   · rw[hr]
     have:setBlock w r (.mapIter (some g) c seen c)=w:=by
      unfold setBlock;have hlt:=(dj.1 hI).1;have:w.heap.setIfInBounds r (.mapIter (some g) c seen c)=w.heap:=by
       apply Array.ext_getElem?;intro i;rw[Array.getElem?_setIfInBounds];split
       · rename_i e;subst e;exact hI.symm
       · rfl
      rw[this]
     rw[this];rfl
   · cases rs with
     | nil=>rfl
     | cons x rs =>
      cases rE with
      | nil=>simp at h4
      | cons e rE =>
       have:=(hleft e).2 (bj ..);rw[Array.eq_empty_of_size_eq_zero h0] at this;simp at this
 · obtain⟨s,t,rfl⟩:=List.append_of_mem ((hleft e).1 he)
   rw[cz,bi] at h4;obtain⟨rs1,rs2,rfl,e1,e2⟩:=ni.1 h4.symm;obtain⟨x,rs3,rfl,e3,e4⟩:=og.1 e2;obtain⟨k,v⟩:=x;have hmid:(dE++[e]++(s++t)).Perm (dE++(s++e::t)):=by
    simp only[dh,cn,bv];exact nz _ List.perm_middle.symm
   have hnd':((dE++[e]++(s++t)).map (·.born)).Nodup:=(hmid.map _).nodup_iff.2 hnd;rw[cz,jj] at hnd';refine⟨true,e.key,e.val,seen.push e.born,w1,hw1,hr,.inr ⟨O,k,v,rs1++rs3,List.perm_middle,⟨?_,dE++[e],s++t,?_,?_,?_,?_,?_⟩,e,seen,h2.mem_iff.1 (by simp),by rw[←e3],O⟩⟩
   · refine List.Perm.trans ?_ hp
     simp only[dh,cn,bv];exact nz _ List.perm_middle.symm
   · intro x hx
     rw[oy];rcases br.1 hx with hx | hx
     · exact gd _ (h1 x hx)
     · rw[bg.1 hx];exact gj _ (bg.2 O)
   · intro x hx hm
     rw[oy] at hm;rcases br.1 hm with hm | hm
     · refine h1' x ?_ hm
       rcases br.1 hx with h | h
       · exact gd _ h
       · exact gj _ (bm _ h)
     · refine hnd'.2.2 e.born (cu.2 ⟨e,by simp,O⟩) x.born (cu.2 ⟨x,hx,O⟩) (bg.1 hm).symm
   · exact hmid.trans h2
   · simp only[cz,h3,bi,db]
     rw[←e3]
   · simp[e1,e4]
theorem ae9{r:Nat}{seen:Array Nat}{dn rs:List (K × V)}{k:K}{v:V}(hI:uA w r g c seen c)(hM:iN w g es c)(hD:bA ek ev D es c)(hT:zX ek ev D es seen dn k v rs) :
 (Instr.entry (.pointer (some ⟨r,0,none⟩))).run P w=.ok (.tuple #[ek k,ev v]) w:=by
 obtain⟨_,e,s,hm,he,rfl⟩:=hT;have:=run_entry_at (P:=P) w r g c _ es c e hI hM hm hD.nd;rw[this];simp only[Wh,fc] at he;rw[he.1,he.2]
theorem amu(w:am)(kt:rN P T ek){a b:K}(h:ek a=ek b):a=b:=by
 have h1:=kt.eq a b w;have h2:=kt.eq a a w;rw[←h,h2] at h1
 injection h1 with h1
 simpa using h1.symm
theorem No{α:Type}:∀{l:List α} {p:Nat} {x:α},l[p]? = some x→l.Perm (x::l.eraseIdx p)
 | [],_,_,h=>by simp at h
 | y::l,0,x,h=>by simp at h;subst h;exact .refl _
 | y::l,p+1,x,h=>by
  have:=No (l:=l) (p:=p) (by simpa using h);exact (this.cons y).trans (.swap ..)
theorem Np{α:Type}:∀{l:List α} {p:Nat} {x y:α},l[p]? = some x→(l.set p y).Perm (y::l.eraseIdx p)
 | [],_,_,_,h=>by simp at h
 | z::l,0,x,y,h=>.refl _
 | z::l,p+1,x,y,h=>by
  have:=Np (l:=l) (p:=p) (y:=y) (x:=x) (by simpa using h);exact (this.cons z).trans (.swap ..)
theorem Vj{D:List (K × V)}(hn:(D.map (·.1)).Nodup){p q:Nat}{k:K}{v u:V}(hp:D[p]? = some (k,v))(hq:D[q]? = some (k,u)):p=q:=by
 have h1:(D.map (·.1))[p]? = some k:=by simp[hp]
 have h2:(D.map (·.1))[q]? = some k:=by simp[hq]
 obtain⟨a1,a2⟩:=ax.1 h1;obtain⟨b1,b2⟩:=ax.1 h2;exact (List.getElem_inj hn).1 (a2.trans b2.symm)
theorem zX.at(kt:rN P T ek)(w:am){seen:Array Nat}{dn rs:List (K × V)}{k:K}{v:V}(hD:bA ek ev D es c)(hn:(D.map (·.1)).Nodup)(hT:zX ek ev D es seen dn k v rs) :
 ∃(p:Nat) (e:cg) (dE rE:List cg),pB D k 0=some (p,v)∧D[p]? = some (k,v)∧es.toList[p]? = some e∧(dn++rs).Perm (D.eraseIdx p)∧(dE++rE).Perm (es.toList.eraseIdx p)∧e.born∈seen.toList ∧
  (∀e∈dE,e.born∈seen.toList)∧(∀e∈rE,e.born∉seen.toList)∧dE.map Wh=dn.map (fun x=>(ek x.1,ev x.2))∧rE.map Wh=rs.map (fun x=>(ek x.1,ev x.2)):=by
 obtain⟨⟨hp,dE,rE,h1,h1',h2,h3,h4⟩,_⟩:=hT;have hmem:(k,v)∈D:=hp.mem_iff.1 (by simp);have hg:=lH hn hmem;cases hf:pB D k 0 with
 | none=>rw[(nX D k 0 hf).1] at hg;cases hg
 | some q =>
  obtain⟨j,v'⟩:=q;obtain⟨p,rfl,hpp,h0,_,_⟩:=lL D k 0 j v' hf;rw[ap] at hf ⊢;obtain rfl:v'=v:=by rw[h0] at hg;exact fh hg
  rw[cz,bi,db] at h3;obtain⟨d1,d2,rfl,e1,e2⟩:=ni.1 h3;obtain⟨e,d3,rfl,e3,e4⟩:=og.1 e2;obtain rfl:d3=[]:=by simpa using e4
  have hm:e∈es.toList:=h2.mem_iff.1 (by simp);obtain⟨q,hq⟩:=ej.1 hm;have hqD:∃u,D[q]? = some (k,u):=by
   have h5:=congrArg (fun L=>L[q]?) hD.cells;simp only[fj,hq,ew,e3] at h5;cases h6:D[q]? with
   | none=>rw[h6] at h5;cases h5
   | some x =>
    rw[h6] at h5;simp only[ew,fw,fc] at h5;obtain⟨a,u⟩:=x;obtain rfl:k=a:=amu w kt h5.1;exact⟨u,O⟩
  obtain⟨u,hu⟩:=hqD;obtain rfl:=Vj hn hpp hu;refine⟨p,e,d1,rE,O,hpp,hq,?_,?_,h1 e (by simp),fun x hx=>h1 x (gd _ hx),h1',e1,h4⟩
  · have:((k,v')::(dn++rs)).Perm ((k,v')::D.eraseIdx p):=by
     refine (?_:List.Perm _ _).trans (hp.trans (No hpp));rw[dh];exact List.perm_middle.symm
    exact (q_ _).1 this
  · have:(e::(d1++rE)).Perm (e::es.toList.eraseIdx p):=by
     refine (?_:List.Perm _ _).trans (h2.trans (No hq));rw[dh];exact List.perm_middle.symm
    exact (q_ _).1 this
theorem adb{T2:ay}{seen:Array Nat}{dn rs:List (K × V)}{k:K}{v:V}(hu:P.underlying M=some (.map T E))(kt:rN P T ek)(hM:iN w g es c)(hD:bA ek ev D es c)(hn:(D.map (·.1)).Nodup)(hT:zX ek ev D es seen dn k v rs) :
 ∃es',(Builtin.delete_ #[M,T2] ty #[.map (some g),ek k]).run P w=.ok (.tuple #[]) (setBlock w g (.map es' c))∧bA ek ev (sB D k) es' c∧uZ ek ev (sB D k) es' seen dn rs:=by
 unfold iN at hM;obtain⟨p,e,dE,rE,hf,hp,he,hd,hE,_,h1,h1',h3,h4⟩:=hT.at kt w hD hn;obtain⟨p',e0,_,_,_,hm⟩:=lL D k 0 p v hf;rw[ap] at e0;subst e0;refine⟨es.eraseIdxIfInBounds p,?_,hm▸hD.erase p,hm▸hd,dE,rE,h1,h1',?_,h3,h4⟩
 · simp[Builtin.delete_,run_underlying hu,getObj,Sem.run,hM,kt.chk,rO kt k w hD,hf,run_setObj_map _ hM,setBlock]
 · have e2:(es.eraseIdxIfInBounds p).toList=es.toList.eraseIdx p:=by
    by_cases h:p<es.size
    · simp[mj,h]
    · simp only[mj,h,dite_false]
      exact (List.eraseIdx_of_length_le (by simpa using gv h)).symm
   rw[e2];exact hE
theorem adc{seen:Array Nat}{dn rs:List (K × V)}{k:K}{v:V}(hu:P.underlying M=some (.map T E))(kt:rN P T ek)(hM:iN w g es c)(hD:bA ek ev D es c)(hn:(D.map (·.1)).Nodup)(hT:zX ek ev D es seen dn k v rs)(u:V) :
 ∃es',(Instr.mapUpdate M (.map (some g)) (ek k) (ev u)).run P w=.ok () (setBlock w g (.map es' c))∧bA ek ev (fI D k u) es' c∧uZ ek ev (fI D k u) es' seen (dn++[(k,u)]) rs:=by
 unfold iN at hM;obtain⟨p,e,dE,rE,hf,hp,he,hd,hE,hb,h1,h1',h3,h4⟩:=hT.at kt w hD hn;obtain⟨p',e0,_,_,hm,_⟩:=lL D k 0 p v hf;rw[ap] at e0;subst e0;have hk:e.key=ek k:=by
  have h2:=congrArg (fun L=>L[p]?) hD.cells;simp only[fj,hp,he,ew,Wh,fw,fc] at h2;exact h2.1
 have hes:es[p]? = some e:=by rw[←Array.getElem?_toList];exact he
 have hk':((es[p]?).map (·.key)).getD (ek k)=ek k:=by rw[hes];exact hk
 refine⟨es.modify p fun e=>{ e with key:=ek k,val:=ev u },?_,hm u▸hD.set hp u,hm u▸?_,dE++[{ e with key:=ek k,val:=ev u }],rE,?_,h1',?_,?_,h4⟩
 · simp only[Instr.mapUpdate,Sem.run_bind,run_underlying hu,Result.andThen,getObj,Sem.run,hM,Sem.run_pure,kt.chk,rO kt k w hD,hf,ew,hk',Instr.keyThatStays,kt.bits,if_true]
   exact run_setObj_map _ hM
 · rw[dh]
   refine List.perm_middle.trans (((hd.cons (k,u))).trans (Np hp).symm)
 · intro x hx
   rcases br.1 hx with hx | hx
   · exact h1 x hx
   · rw[bg.1 hx];exact hb
 · have e2:(es.modify p fun e=>{ e with key:=ek k,val:=ev u }).toList=es.toList.set p { e with key:=ek k,val:=ev u }:=by
    rw[Array.toList_modify];apply List.ext_getElem?;intro j;rw[List.getElem?_modify,List.getElem?_set];by_cases h:p=j
    · subst h
      have:=(ax.1 he).1;rw[he];simp[this];simpa using this
    · simp[h]
   rw[e2,dh];exact List.perm_middle.trans ((hE.cons _).trans (Np he).symm)
 · simp[h3,Wh]
theorem zX.stay{seen:Array Nat}{dn rs:List (K × V)}{k:K}{v:V}(hT:zX ek ev D es seen dn k v rs):uZ ek ev D es seen (dn++[(k,v)]) rs:=hT.1
variable {ds:List Deferred} {l:List ak} {x y z:Operand} {ops:Array Oper} {Q:Exit→Act→am→Prop} {rest:List Oper} {d:Nat} {pos:String} {after:Array Edge}
theorem amv{r:Nat}{seen:Array Nat}{dn rs:List (K × V)}(m:Mem w0 w is)(k:Nat)(hk:is[k]? = some (iI r g c seen))(hx:Go.Lith.ev l x=.pointer (some ⟨r,0,none⟩))(hM:iN w g es c)(hD:bA ek ev D es c)(hT:uZ ek ev D es seen dn rs)
 (h:∀b kv vv seen' u,Mem w0 u (is.set k (iI r g c seen'))→aoW ek ev D es dn rs b seen'→au P ops Q rest (Fr (l.set d (Gz b kv vv)) ds) u) :
 au P ops Q (Oper.mk (some d) (.next x false) ty pos after none::rest) (Fr l ds) w:=by
 have hI:=m.r k hk;obtain⟨b,kv,vv,seen',w1,hw1,hr,hN⟩:=aiu (P:=P) (ty:=ty) hI hM hD hT;refine lU (w':=setBlock w1 r (.mapIter (some g) c seen' c)) (v:=Gz b kv vv) (fun o ho hty=>by simp[execOp,ho,bW,hx,hty,hr]) (h b kv vv seen' _ ?_ hN);have e1:w1.heap=w.heap∧w1.os=w.os∧w1.tape=w.tape∧w1.output=w.output:=by rcases hw1 with rfl | rfl <;> exact⟨rfl,rfl,rfl,rfl⟩
 refine m.put k hk e1.2.1 e1.2.2.1 e1.2.2.2 (by simp[setBlock,e1.1]) (fun b' _ hne=>?_) ?_ (.inl fun _ h=>h)
 · have:b'≠r:=fun e=>hne (by rw[e];rfl)
   simp only[setBlock,e1.1];exact Array.getElem?_setIfInBounds_ne (Ne.symm this)
 · exact jH (w:=w1) (o:=.mapIter (some g) c seen c) (by rw[e1.1];exact hI)
theorem ade{r:Nat}{seen:Array Nat}{dn rs:List (K × V)}{k:K}{v:V}(hx:Go.Lith.ev l x=.pointer (some ⟨r,0,none⟩))(hI:uA w r g c seen c)(hM:iN w g es c)(hD:bA ek ev D es c)(hT:zX ek ev D es seen dn k v rs) :
 Aa P l (.entry x) ty (.tuple #[ek k,ev v]) w:=fun o ho _=>by
 have:=ae9 (P:=P) hI hM hD hT;simp[execOp,ho,bW,hx,this]
theorem amw{a:K}{va:V}{T2:ay}{seen:Array Nat}{dn rs:List (K × V)}(m:Mem w0 w is)(k:Nat)(hk:is[k]? = some (mI g es c))(hu:P.underlying M=some (.map T E))(kt:rN P T ek)(hx:Go.Lith.ev l x=.map (some g))(hy:Go.Lith.ev l y=ek a)(hD:bA ek ev D es c)
 (hn:(D.map (·.1)).Nodup) (hT:zX ek ev D es seen dn a va rs) {a0:Array ay} (ha:a0 = #[M,T2])
 (h:∀es' u,Mem w0 u (is.set k (mI g es' c))→bA ek ev (sB D a) es' c→uZ ek ev (sB D a) es' seen dn rs→au P ops Q rest (Fr l ds) u):au P ops Q (Oper.mk none (.call { callee:=.builtin .delete,args:=#[x,y],argTypes:=a0 }) ty pos after none::rest) (Fr l ds) w:=by
 subst ha;have hM:=m.p k hk;have hC:=fun es' c'=>oF (w:=w) (g:=g) (.map es' c');refine af6 fun o ho=>?_;obtain⟨es',hr,hD',hT'⟩:=adb (T2:=T2) (ty:=o.type) hu kt hM hD hn hT;exact⟨.tuple #[],setBlock w g (.map es' c),by simp[execOp,ho,resolve,invoke,builtin,bW,hx,hy,hr],h es' _ (m.put k hk (hC es' c).os (hC es' c).tape (hC es' c).output (by rw[(hC es' c).size];exact av _) (fun b _ hne=>(hC es' c).block b fun e=>hne (by rw[e];rfl)) (jH hM) (.inl fun _ h=>h)) hD' hT'⟩
theorem amx{v va:V}{a:K}{seen:Array Nat}{dn rs:List (K × V)}(m:Mem w0 w is)(k:Nat)(hk:is[k]? = some (mI g es c))(hu:P.underlying M=some (.map T E))(kt:rN P T ek)(hx:Go.Lith.ev l x=.map (some g))(hy:Go.Lith.ev l y=ek a)(hz:Go.Lith.ev l z=ev v)(hD:bA ek ev D es c)
 (hn:(D.map (·.1)).Nodup) (hT:zX ek ev D es seen dn a va rs)
 (h:∀es' u,Mem w0 u (is.set k (mI g es' c))→bA ek ev (fI D a v) es' c→uZ ek ev (fI D a v) es' seen (dn++[(a,v)]) rs→au P ops Q rest (Fr l ds) u):au P ops Q (Oper.mk none (.mapUpdate M x y z) ty pos after none::rest) (Fr l ds) w:=by
 have hM:=m.p k hk;obtain⟨es',hr,hD',hT'⟩:=adc hu kt hM hD hn hT v;have hC:=oF (w:=w) (g:=g) (.map es' c);refine Iv (w':=setBlock w g (.map es' c)) (fun o ho=>by simp[execOp,ho,bW,hx,hy,hz,hr]) (h es' _ ?_ hD' hT');exact m.put k hk hC.os hC.tape hC.output (by rw[hC.size];exact av _) (fun b _ hne=>hC.block b fun e=>hne (by rw[e];rfl)) (jH hM) (.inl fun _ h=>h)
end
end Go.Lith
namespace Go.Proofs.YtfekpcimgncioaaGreatDoor
open Go.Proofs.Tryz
open Go.RowKit Go.Lith
set_option maxRecDepth 100000
attribute [local irreducible] au cq eF bJ cD Code.wp
attribute [local congr] oG fS fT fU fV fW jR fX fY fZ gA gB gC gD gE gF gG gH eM eN gI gJ gL gM gN jT cW cX cA cU gK jS eO eP eQ gQ gR jU
variable{R0:It}{q60 c60 g16:Nat}{cc:mN}
theorem atK:pU prog 95 (W 0):=by rw[Zx];exact Jq
theorem agG:pU prog 97 (qV q0):=by rw[←zqV];exact anm
def rY(D:List (E3 × Int))(Q:P3→List Int):Prop:=∀k v,bL D k=some v→v=uW Q k.1 k.2
theorem rY.put{D:List (E3 × Int)}{Q:P3→List Int}(h:rY D Q)(p q:P3):rY (fI D (p,q) (uW Q p q)) Q:=fun k v hv=>by
 rw[kO] at hv;split at hv
 · rename_i e;cases e;cases hv;rfl
 · exact h k v hv
structure QOK(Dq:List (P3 × List Int))(Q:P3→List Int)(B:Nat):Prop where
 get:∀x,(bL Dq x).getD q0=Q x
 len:∀x,(Q x).length=10
 bd:∀x,Ia B (Q x)
theorem ar6{w0 w:am}{g60 g61 q61 c61 B:Nat}{es60 es61:Array cg}{Dc:List (E3 × Int)}{Dq:List (P3 × List Int)}{Q:P3→List Int}{p q:P3}[I3 p][I3 q](m:Mem w0 w [bI g60 [.map (some q60)] 100,bI g61 [.map (some q61)] 93,mI q60 es60 c60,mI q61 es61 c61,R0])(hD60:bA ed W Dc es60 c60)(hD61:bA pt qV Dq es61 c61)(hC:rY Dc Q)(hnC:(Dc.map (·.1)).Nodup)(hQ:QOK Dq Q B)(hB:B≤800000):xN prog 59 [pt p,pt q,.pointer (some ⟨g60,0,none⟩),.pointer (some ⟨g61,0,none⟩)] w fun v w'=>∃(es:Array cg) (c:Nat) (D:List (E3 × Int)),v=W (uW Q p q)∧Mem w0 w' [bI g60 [.map (some q60)] 100,bI g61 [.map (some q61)] 93,mI q60 es c,mI q61 es61 c61,R0]∧bA ed W D es c∧rY D Q∧(D.map (·.1)).Nodup:=by
 refine⟨bO func59 (by kernel_rfl),?_⟩;obtain rfl:(fun x=>(bL Dq x).getD q0)=Q:=funext hQ.get;have hlp:((bL Dq p).getD q0).length=10:=hQ.len p;have hlq:((bL Dq q).getD q0).length=10:=hQ.len q;have hbp:Ia B ((bL Dq p).getD q0):=hQ.bd p;have hbq:Ia B ((bL Dq q).getD q0):=hQ.bd q
 go_enter func59,ntmps59
 apply nM 12 [3,2,1,0] m;simp only[↓aD,↓fJ,sF,aaQ,aS,pJ,aa];intro g71 g72 g73 u m;refine eD (vM (ek:=ed) (en:=W) (k:=(p,q)) (v0:=0) underlying100 atK pK O O (m.p 5 O) hD60) ?_;simp only[zz];apply iH 13 [0,0] m;simp only[↓aD,↓fJ,sF,jC,aa];intro g74 u m;refine dC O ?_ ?_<;>intro hc1
 ·
  apply aL 1 [0] m;simp only[↓aD];refine eB m 9 aF (by kernel_rfl) ?_;simp only[zy];refine ql O (fun u m=>((m.b 5 O).lies1 ajK O)) ?_;simp only[zz];refine ql O (fun u m=>((m.b 3 O).full aH aA)) ?_;simp only[zz];refine jZ (fun u m=>cR (ek:=pt) (en:=qV) (k:=p) (v0:=q0) Rz agG eK O O (m.p 7 O) hD61) ?_;simp only[zz];refine ql O (fun u m=>((m.b 5 O).lies1 ajK O)) ?_;simp only[zz];refine ql O (fun u m=>((m.b 2 O).full aH aA)) ?_;simp only[zz];refine jZ (fun u m=>cR (ek:=pt) (en:=qV) (k:=q) (v0:=q0) Rz agG eK O O (m.p 7 O) hD61) ?_;simp only[zz];refine kR O O (ae0 hlp hlq hbp hbq (by omega)) ?_;simp only[zz];refine ql O (fun u m=>((m.b 2 O).full aH aA)) ?_;simp only[zz];refine kR O O (atI (Qd hbp hbq) (mB hlp hlq) (by omega)) (bN ?_);intro u m;simp only[zz];refine cL m 0 O O O aW (jO O) O ?_;intro u m;simp only[zy,zx,bQ,zF,zG,aa] at m;refine aI ?_;apply bF 6 [4,3,2,0,0] m;simp only[↓aD,↓fJ,aaQ,aS,pJ,jC,aa];refine eR (ek:=ed) (en:=W) (a:=(p,q)) (v:=(uW (fun x=>(bL Dq x).getD q0) p q)) m 6 O underlying100 pK O O O hD60 ?_;intro es60 c60 u m hD60;simp only[zF,zG] at m;apply iH 7 [0,1] m;simp only[↓aD,↓fJ,jC,aa];intro u m;exact aY O ⟨_,O,((m.b 1 O).full dU aW)⟩ ⟨_,O,_,_,_,O,m.sel [false,false,false,false,true,true,true,true,true],hD60,hC.put p q,sP hnC _ _⟩
 ·
  obtain⟨y,hy⟩:∃y,bL Dc (p,q)=some y:=Option.isSome_iff_exists.1 (by simpa using hc1);obtain rfl:=hC _ _ hy;simp only[hy,Option.getD_some] at m;apply Wi 7 [0,1] m;simp only[↓aD,↓fJ,jC,aa];intro u m;exact aY O ⟨_,O,((m.b 1 O).full dU aW)⟩ ⟨_,O,_,_,_,O,m.sel [false,false,false,false,true,true,true,true,true],hD60,hC,hnC⟩
theorem amy{K V:Type}[DecidableEq K]{ek:K→ak}{ev:V→ak}{D dn rs:List (K × V)}{es:Array cg}{b:Bool}{sn:Array Nat}(hb:b=false)(h:aoW ek ev D es dn rs b sn):rs=[]:=by
 rcases h with ⟨_,h⟩ | ⟨h,_⟩
 · exact h
 · rw[h] at hb;cases hb
theorem amz{K V:Type}[DecidableEq K]{ek:K→ak}{ev:V→ak}{D dn rs:List (K × V)}{es:Array cg}{b:Bool}{sn:Array Nat}(hb:b=true)(h:aoW ek ev D es dn rs b sn):∃k v rs',rs.Perm ((k,v)::rs')∧zX ek ev D es sn dn k v rs':=by
 rcases h with ⟨h,_⟩ | ⟨_,h⟩
 · rw[h] at hb;cases hb
 · exact h
theorem aoY(a b:P3):decide (a.x=b.x∧a.y=b.y∧a.z=b.z)=decide (a=b):=decide_eq_decide.2 ⟨fun h=>P3.eq h.1 h.2.1 h.2.2,fun h=>by rw[h];exact⟨rfl,rfl,rfl⟩⟩
def amA(v:P3)(k:E3):Bool:=decide (k.1=v)||decide (k.2=v)
theorem amB{k:E3}{x:Int}(w:am)(hB16:fE w g16 (uS cc) 112):dR prog 67 [ed k,W x,.pointer (some ⟨g16,0,none⟩)] w (fun v _=>v=.bool (amA cc.v k)):=by
 refine⟨bO func67 (by kernel_rfl),?_⟩;have m:=Mem.refl w
 go_enter func67,ntmps67
 apply nM 11 [1,0] m;simp only[↓aD,↓fJ,xM,aS,wL,ag,ah,aa];intro g1 g2;refine⟨by omega,?_⟩;intro u m;refine aQ O ((hB16.ext m.ext).lies aH aA O O) ?_;simp only[zz,zy,ap,aa,ah,ag];refine aB (bS O O) ?_;apply aM 1 [0] m;simp only[↓aD];refine eL O (fun hb=>aN Nw aA O O (by decide) (by decide) O) ?_;simp only[zz];refine fG O (fun hb=>aZ (aX hb O) ((m.b 1 O).lies aH aA O O)) ?_;simp only[zz,zy,ap,aa,ah,ag];refine eL O (fun hb=>bD (c:=2) Aw O aA O O) ?_;simp only[zz];refine fG O (fun hb=>aZ (aX hb O) ((hB16.ext m.ext).lies aH aA O O)) ?_;simp only[zz,zy,ap,aa,ah,ag];refine eL O (fun hb=>bS (aX hb O) (aX hb O)) (aB (eG O O O) ?_);apply aM 3 [] m;simp only[↓aD];refine aY O O ?_;try simp only[zD,zE]
 exact⟨_,O,m.ext,by rw[aoY,aoY];rfl⟩
theorem amC{w0 w:am}{es60:Array cg}{D0:List (E3 × Int)}(m:Mem w0 w [mI q60 es60 c60,bI g16 (uS cc) 112,R0])(hD60:bA ed W D0 es60 c60)(hn0:(D0.map (·.1)).Nodup):xN prog 66 [.map (some q60),.func (.func 67) #[] #[.pointer (some ⟨g16,0,none⟩)]] w fun v w'=>∃(es:Array cg) (D:List (E3 × Int)),v=.tuple #[]∧Mem w0 w' [mI q60 es c60,bI g16 (uS cc) 112,R0]∧bA ed W D es c60∧(D.map (·.1)).Nodup∧∀k v,bL D k=some v→bL D0 k=some v∧amA cc.v k=false:=by
 refine⟨bO func66 (by kernel_rfl),?_⟩
 go_enter func66,ntmps66
 apply iE 3 [0] m;simp only[↓aD];refine sQ m underlying100 O (m.p 0 O) ?_;intro r1 u m;apply aM 2 [0] m;simp only[↓aD];refine cP [] [4,5,8,9,10,11,12,13,14,15,16,17,18] (fun n vs wl=>∃(D dn rs:List (E3 × Int)) (sn:Array Nat) (es:Array cg),vs=[]∧Mem w0 wl [iI r1 q60 c60 sn,mI q60 es c60,bI g16 (uS cc) 112,R0]∧(bA ed W D es c60)∧((D.map (·.1)).Nodup)∧(uZ ed W D es sn dn rs)∧(∀x∈dn,amA cc.v x.1=false)∧(∀k v,bL D k=some v→bL D0 k=some v)∧(n=rs.length)) ?_ ?_
 ·
  exact⟨_,D0,[],D0,#[],es60,rfl,m,hD60,hn0,uZ.start hD60,(fun x h=>(by cases h)),(fun _ _ h=>h),rfl⟩
 · intro n vs wr hI u K1 hK1
   obtain⟨D,dn,rs,sn,es60,rfl,m,hD60,hnD,hT,hb0,hs0,hn⟩:=hI;simp only[zu,zF,zG];apply aL 2 [0] m;simp only[↓aD];refine amv m 0 O O (m.p 1 O) hD60 hT ?_;intro bb kk vv sn u m hN;simp only[zF,zG] at m;refine aB (nL O) ?_;apply aM 2 [0] m;simp only[↓aD];refine dC O ?_ ?_<;>intro hc1
   ·
    obtain⟨kp,kb,rs2,hp,hT2⟩:=amz hc1 hN;apply aL 4 [0] m;simp only[↓aD];refine eD (ade O (m.r 0 O) (m.p 1 O) hD60 hT2) ?_;simp only[zz];apply iH 12 [1,0,1,0,0] m;simp only[↓aD,↓fJ,Om,sF,yU,jC,aa];intro g72 g73 u m;refine dH m O O (amB (k:=kp) (x:=kb) _ (m.b 4 O)) ?_;rintro v u m rfl;apply aM 1 [0] m;simp only[↓aD];refine dC O ?_ ?_<;>intro hc2
    ·
     apply aL 3 [1,0] m;simp only[↓aD,↓fJ,yU];refine amw (ek:=ed) (ev:=W) (a:=kp) m 3 O underlying100 pK O O hD60 hnD hT2 O ?_;intro es60 u m hD60 hT';simp only[zF,zG] at m;apply aM 2 [0] m;simp only[↓aD];exact hK1 rs2.length _ _ (by rw[hn,hp.length_eq];exact et _) (by kernel_rfl) ⟨sB D kp,dn,rs2,_,_,O,(m.sel [false,false,true,true,true,true]),hD60,Sd hnD kp,hT',hb0,(fun k v h=>hs0 k v (by rw[Lz _ _ hnD] at h;split at h;cases h;exact h)),O⟩
    ·
     apply aL 2 [0] m;simp only[↓aD];exact hK1 rs2.length _ _ (by rw[hn,hp.length_eq];exact et _) (by kernel_rfl) ⟨D,dn++[(kp,kb)],rs2,_,_,O,(m.sel [false,false,true,true,true,true]),hD60,hnD,hT2.stay,(fun x hx=>(br.1 hx).elim (hb0 x) fun h=>(by rw[bg.1 h];exact hc2)),hs0,O⟩
   ·
    obtain rfl:=amy hc1 hN;apply aL 1 [0] m;simp only[↓aD];exact Qw O ⟨_,O,_,D,O,m.sel [false,true,true,true],hD60,hnD,fun k v h=>⟨hs0 k v h,hb0 (k,v) (hT.done.mem_iff.2 (rM h))⟩⟩
end Go.Proofs.YtfekpcimgncioaaGreatDoor
namespace Go.Proofs.YtfekpcimgncioaaGreatDoor
open Go.Proofs.Tryz
open Go.RowKit Go.Lith
set_option maxRecDepth 100000
attribute [local irreducible] au cq eF bJ cD Code.wp
variable{u q k x:P3}{l:List T3}{S:List P3}{cs:List mN}{D:List Mv}
theorem aoZ{B:Nat}{Q:P3→List Int}(hl:∀x,(Q x).length=10)(hb:∀x,Ia B (Q x))(hB:B≤800000)(u:P3){v:P3}(hv:I3 v):Bd 900000 (uW Q u v):=by
 unfold uW;rw[←akA (mB (hl u) (hl v))];exact (aeq (Qd (hb u) (hb v)) (mB (hl u) (hl v)) (bd4 hv) O 10 (av _)).mono (by omega)
theorem QOK.upd{Dq:List (P3 × List Int)}{Q:P3→List Int}{B:Nat}(h:QOK Dq Q B)(u v:P3):QOK (fI Dq v (Gi (Q u) (Q v))) (aaL Q u v) (B+1) where
 get x:=by
  rw[kO];unfold aaL;by_cases e:v=x
  · rw[if_pos e,if_pos e.symm];rfl
  · rw[if_neg e,if_neg fun k=>e k.symm];exact h.get x
 len x:=by
  unfold aaL;split
  · exact mB (h.len u) (h.len v)
  · exact h.len x
 bd x:=by
  unfold aaL;split
  · exact Qd (h.bd u) (h.bd v)
  · exact (h.bd x).mono (qw B)
theorem QOK.mono{Dq:List (P3 × List Int)}{Q:P3→List Int}{B C:Nat}(h:QOK Dq Q B)(hB:B≤C):QOK Dq Q C:=⟨h.get,h.len,fun x=>(h.bd x).mono hB⟩
theorem rY.upd{D D1:List (E3 × Int)}{Q:P3→List Int}{v:P3}(h:rY D Q)(h1:∀k x,bL D1 k=some x→bL D k=some x∧amA v k=false):rY D1 (aaL Q u v):=fun k x hx=>by
 obtain⟨h2,h3⟩:=h1 k x hx;rw[h k x h2];simp only[amA,Bool.or_eq_false_iff,decide_eq_false_iff_not] at h3;unfold uW aaL;rw[if_neg h3.1,if_neg h3.2]
theorem rY.nil(Q:P3→List Int):rY [] Q:=fun _ _ h=>by cases h
/-! ### The quadrics of the corners -/
def Le(l:List T3)(S:List P3)(Dq:List (P3 × List Int)):Prop:=∀x,(bL Dq x).getD q0=if x∈S then wS l x else q0
theorem Le.nil(l:List T3):Le l [] []:=fun _=>rfl
theorem Le.put{ps:List P3}{k:Nat}{p:P3}{Dq:List (P3 × List Int)}(h:Le l (ps.take k) Dq)(hp:ps[k]? = some p):Le l (ps.take (k+1)) (fI Dq p (wS l p)):=fun x=>by
 rw[kO,cC hp];by_cases e:p=x
 · subst e
   rw[if_pos rfl,if_pos (gj _ (bg.2 rfl))];rfl
 · rw[if_neg e,h x]
   have:x∈ps.take k++[p]↔x∈ps.take k:=by
    rw[br,bg];exact⟨fun h=>h.resolve_right fun k=>e k.symm,.inl⟩
   simp only[this]
theorem amD{p:P3}(h:p∉bG l):wS l p=q0:=by
 unfold wS;rw[ow.2 fun t ht hp=>h (rS ht hp)];rfl
theorem Le.ok{l:List T3}{ps:List P3}{Dq:List (P3 × List Int)}(h:Le l ps Dq)(hps:∀a,a∈ps↔a∈bG l)(hI:∀t∈l,IT t):QOK Dq (wS l) (602+l.length) where
 get x:=by
  rw[h x];split
  · rfl
  · rename_i e;rw[amD fun k=>e ((hps x).2 k)]
 len x:=by have:=By (ts:=l) (p:=x) l.length (av _);rwa [fa] at this
 bd x:=by have:=abi (p:=x) hI l.length (av _);rwa [fa] at this
theorem Lf(hI:∀t∈l,IT t){p:P3}(h:p∈bG l):I3 p:=by
 obtain⟨t,ht,hp⟩:=List.mem_flatMap.1 (show p∈l.flatMap fun t=>[t.a,t.b,t.c] from h);have:=hI t ht;simp only[ao,bt,or_false] at hp;rcases hp with rfl | rfl | rfl
 · exact this.a
 · exact this.b
 · exact this.c
theorem abn{p:P3}(h:Mm l p q=true):p∈bG l∧q∈bG l:=by
 simp only[Mm,bh,kP,List.any_eq_true] at h;obtain⟨_,t,ht,h⟩:=h;exact⟨rS ht h.1,rS ht h.2⟩
/-! ### Candidates -/
def Gn(l:List T3)(Q:P3→List Int)(S:List P3)(cs:List mN):Prop:=∀d,d∈cs↔d.u∈S∧wH (aO l) d.u=false∧Mm l d.u d.v=true∧d.c=uW Q d.u d.v
def afa(l:List T3)(Q:P3→List Int)(S:List P3)(p:P3)(S2:List P3)(cs:List mN):Prop:=∀d,d∈cs↔(d.u∈S∧wH (aO l) d.u=false∧Mm l d.u d.v=true∧d.c=uW Q d.u d.v)∨(d.u=p∧d.v∈S2∧d.c=uW Q d.u d.v)
theorem Gn.nil(l:List T3)(Q:P3→List Int):Gn l Q [] []:=fun d=>by simp
theorem Gn.skip{Q:P3→List Int}{p:P3}(h:Gn l Q S cs)(hb:wH (aO l) p=true):Gn l Q (S++[p]) cs:=fun d=>by
 rw[h d];constructor
 · rintro⟨h1,h2⟩;exact⟨gd _ h1,h2⟩
 · rintro⟨h1,h2,h3⟩
   rcases br.1 h1 with h1 | h1
   · exact⟨h1,h2,h3⟩
   · rw[bg.1 h1,hb] at h2;cases h2
theorem Gn.start{Q:P3→List Int}(h:Gn l Q S cs)(p:P3):afa l Q S p [] cs:=fun d=>by rw[h d];simp
theorem afa.put{Q:P3→List Int}{S2:List P3}{p:P3}(h:afa l Q S p S2 cs):afa l Q S p (S2++[q]) (cs++[⟨p,q,uW Q p q⟩]):=fun d=>by
 rw[br,h d,br,bg,bg];constructor
 · rintro ((h1 | ⟨h1,h2,h3⟩) | rfl)
   · exact .inl h1
   · exact .inr ⟨h1,.inl h2,h3⟩
   · exact .inr ⟨O,.inr O,O⟩
 · rintro (h1 | ⟨h1,h2 | h2,h3⟩)
   · exact .inl (.inl h1)
   · exact .inl (.inr ⟨h1,h2,h3⟩)
   · refine .inr ?_
     obtain⟨du,dv,dc⟩:=d;simp only at h1 h2 h3;subst h1;subst h2;subst h3;rfl
theorem afa.done{Q:P3→List Int}{S2:List P3}{p:P3}(h:afa l Q S p S2 cs)(hb:wH (aO l) p=false)(hS:∀x,x∈S2↔Mm l p x=true):Gn l Q (S++[p]) cs:=fun d=>by
 rw[h d,br,bg];constructor
 · rintro (⟨h1,h2⟩ | ⟨h1,h2,h3⟩)
   · exact⟨.inl h1,h2⟩
   · rw[hS] at h2;subst h1;exact⟨.inr O,hb,h2,h3⟩
 · rintro⟨h1 | h1,h2,h3,h4⟩
   · exact .inl ⟨h1,h2,h3,h4⟩
   · refine .inr ⟨h1,?_,h4⟩;rw[hS,←h1];exact h3
theorem Gn.all{Q:P3→List Int}(h:Gn l Q S cs)(hS:∀x,x∈S↔x∈bG l)(d:mN):d∈cs↔d∈aeo l Q:=by
 rw[h d,afY,hS];exact⟨fun h=>h.2,fun h=>⟨(abn h.2.1).1,h⟩⟩
/-! ### The moves -/
def Ez(S:List P3)(u v:P3)(D:List Mv):List Mv:=D.map fun e=>(e.1,if e.1∈S then kZ u v e.2 else e.2)
theorem adf(u v:P3)(D:List Mv):Ez [] u v D=D:=by simp[Ez]
theorem Gf(S:List P3)(u v:P3)(D:List Mv):(Ez S u v D).map (·.1)=D.map (·.1):=by simp[Ez,Function.comp_def]
theorem amE{v:P3}(h:∀e∈D,e.1∈S):fI (Ez S u v D) u v=toF D u v:=by
 unfold Ez toF;rw[ji fun e he=>by rw[if_pos (h e he)]]
theorem adg{K V:Type}[DecidableEq K]:∀{D:List (K × V)} {k:K} {x:V},(D.map (·.1)).Nodup→k∈D.map (·.1)→fI D k x=D.map fun e=>(e.1,if e.1=k then x else e.2)
 | [],_,_,_,h=>by cases h
 | e::D,k,x,hn,h=>by
  rw[bi,List.nodup_cons] at hn;by_cases hk:e.1=k
  · subst hk
    have:∀f∈D,((f.1,if f.1=e.1 then x else f.2):K × V)=f:=fun f hf=>by
     rw[if_neg fun k:f.1=e.1=>hn.1 (by rw[←k];exact ft (f:=fun x:K × V=>x.1) hf)]
    simp only[fI,bi,if_pos];rw[ji this,List.map_id']
  · have h2:k∈D.map (·.1):=by
     rcases ao.1 h with h | h
     · exact absurd h.symm hk
     · exact h
    simp only[fI,bi,if_neg hk];rw[adg hn.2 h2]
theorem amF{v:P3}(hn:(D.map (·.1)).Nodup)(hk:(k,x)∈Ez S u v D)(hS:k∉S)(hx:x=u):fI (Ez S u v D) k v=Ez (S++[k]) u v D:=by
 have hk1:k∈(Ez S u v D).map (·.1):=ft (f:=(·.1)) hk;rw[adg (by rw[Gf];exact hn) hk1];unfold Ez at hk ⊢;obtain⟨e,he,h⟩:=cu.1 hk;cases h;rw[if_neg hS] at hx;rw[List.map_map];refine ji fun f hf=>?_;simp only[Function.comp_apply];by_cases hfe:f.1=e.1
 · have:f=e:=by
    obtain⟨i,hi⟩:=ej.1 hf;obtain⟨j,hj⟩:=ej.1 he;have h1:i=j:=Vj hn (k:=e.1) (v:=f.2) (u:=e.2) (by rw[hi,←hfe]) hj;rw[h1,hj] at hi;exact (fh hi).symm
   subst this;rw[if_pos rfl,if_pos (gj S (bg.2 rfl))];unfold kZ;rw[if_pos hx]
 · rw[if_neg hfe]
   have:f.1∈S++[e.1]↔f.1∈S:=by simp[hfe]
   simp only[this]
theorem aiv{v:P3}(hn:(D.map (·.1)).Nodup)(hk:(k,x)∈Ez S u v D)(hS:k∉S)(hx:x≠u):Ez S u v D=Ez (S++[k]) u v D:=by
 unfold Ez at hk ⊢;obtain⟨e,he,h⟩:=cu.1 hk;cases h;rw[if_neg hS] at hx;refine ji fun f hf=>?_;by_cases hfe:f.1=e.1
 · have:f=e:=by
    obtain⟨i,hi⟩:=ej.1 hf;obtain⟨j,hj⟩:=ej.1 he;have h1:i=j:=Vj hn (k:=e.1) (v:=f.2) (u:=e.2) (by rw[hi,←hfe]) hj;rw[h1,hj] at hi;exact (fh hi).symm
   subst this;rw[if_neg hS,if_pos (gj S (bg.2 rfl))];unfold kZ;rw[if_neg hx]
 · have:f.1∈S++[e.1]↔f.1∈S:=by simp[hfe]
   simp only[this]
theorem amG{V:Type}{ek:P3→ak}{ev:V→ak}{D dn rs:List (P3 × V)}{es:Array cg}{sn:Array Nat}{x:V}(hn:(D.map (·.1)).Nodup)(h:zX ek ev D es sn dn k x rs):k∉dn.map (·.1)∧(k,x)∈D:=by
 have hp:=h.1.1;refine⟨fun hk=>?_,hp.mem_iff.1 (by simp)⟩;have h1:=(hp.map (·.1)).nodup_iff.2 hn;simp only[cz,bi,db,dh] at h1;exact (jj.1 h1).2.2 k hk k (by simp) O
theorem ar7(hn:(D.map (·.1)).Nodup)(u v:P3):((toF D u v).map (·.1)).Nodup:=by
 unfold toF;exact sP (by rw[List.map_map];exact hn) u v
theorem aiw{l:List T3}{want:Int}{Q:P3→List Int}{D:List Mv}{c:mN}(hw:0≤want)(h:¬(l.length:Int)≤want)(hb:Cf l Q=some c) :
 oA l.length want l Q D=oA (iC l c.u c.v).length want (iC l c.u c.v) (aaL Q c.u c.v) (toF D c.u c.v):=by
 have h1:=yT hb;obtain⟨n,hn⟩:∃n,l.length=n+1:=⟨l.length-1,by omega⟩
 rw[hn]
 conv=>lhs;unfold oA
 rw[if_neg h,hb];exact Yo n _ want _ _ _ (by omega) (av _) hw
theorem adh{want:Int}{Q:P3→List Int}(h:(l.length:Int)≤want∨Cf l Q=none):oA l.length want l Q D=(l,D):=by
 rcases h with h | h
 · exact akv h
 · cases hl:l.length with
   | zero=>rfl
   | succ n =>
    unfold oA;split
    · rfl
    · rw[h]
theorem ar8{w0 w:am}{K R0:It}{g50 g90 ga gf N cap ca cf:Nat}{A:Option Addr}{ea ef:Array cg}{D:List (P3 × Hd)}{F:List (P3 × Bool)}{ts:List T3}{cs:List mN}{n1 c1:Nat}{A1:Option Addr}{Q:P3→List Int}{B:Nat}(m:Mem w0 w [oI 112 8 A1 n1 c1 (cs.flatMap uS),bI g50 [.pointer (some ⟨g90,0,none⟩)] 88,K,oI 39 9 A N cap (ts.flatMap aP),R0])(hK:∀u,K.P u→La 109 u g90 ga gf A N cap ea ef ca cf D ts)(hD:Ve ea ef ca cf D F ts)(hnd:∀t∈ts,t.nd=true)(hIT:∀t∈ts,IT t)(hN:ts.length≤1000000)(hl:∀x,(Q x).length=10)(hb:∀x,Ia B (Q x))(hB:B≤800000)(hC:Gn ts Q (D.map (·.1)) cs)(hn1:n1≤100000000) :
 xN prog 63 [.slice A1 n1 c1,.func (.func 64) #[] #[],.func (.func 65) #[] #[.pointer (some ⟨g50,0,none⟩)]] w fun v w'=>∃(c:mN) (b:Bool),v=.tuple #[abm c,.bool b]∧Mem w0 w' [bI g50 [.pointer (some ⟨g90,0,none⟩)] 88,K,oI 39 9 A N cap (ts.flatMap aP),R0]∧((b=false∧Cf ts Q=none)∨(b=true∧Cf ts Q=some c∧I3 c.u∧I3 c.v)):=by
 have hall:=hC.all (fun x=>hD.k x);have hI:∀c∈cs,I3 c.u∧I3 c.v:=fun c hc=>by
  have:=abn ((hC c).1 hc).2.2.1;exact⟨Lf hIT this.1,Lf hIT this.2⟩
 refine (ar5 m hK hD hnd hIT hN hI (fun c hc=>by rw[((hC c).1 hc).2.2.2];exact aoZ hl hb hB c.u (hI c hc).2) hn1).mono ?_;rintro v w' ⟨h1,⟨rfl,h2⟩ | ⟨c,ys,j,rfl,hys,hso,hc,ha,hq⟩⟩
 · exact⟨⟨⟨0,0,0⟩,⟨0,0,0⟩,0⟩,false,by simp only[abm,uS,Lm];rfl,h1,.inl ⟨rfl,ae8 hall h2⟩⟩
 · refine⟨c,true,O,h1,.inr ⟨O,ae7 (fun d=>by rw[hys.mem_iff];exact hall d) hso hc ha hq,hI c (hys.mem_iff.1 (bn hc))⟩⟩
end Go.Proofs.YtfekpcimgncioaaGreatDoor
namespace Go.Proofs.YtfekpcimgncioaaGreatDoor
open Go.Proofs.Tryz
open Go.RowKit Go.Lith
set_option maxRecDepth 100000
attribute [local irreducible] au cq eF bJ cD Code.wp
attribute [local congr] oG fS fT fU fV fW jR fX fY fZ gA gB gC gD gE gF gG gH eM eN gI gJ gL gM gN jT cW cX cA cU gK jS eO eP eQ gQ gR jU
variable{l ts:List T3}{want:Int}
theorem Fa(h:∀t∈l,IT t):∀t∈dG l,IT t:=fun t ht=>by
 obtain⟨s,hs,rfl⟩:=Gd.1 ht;have:=h s hs;unfold eX;split
 · exact⟨this.c,this.a,this.b⟩
 · split
   · exact⟨this.b,this.c,this.a⟩
   · exact this
theorem Zf{ks:List P3}{a:P3}:a∈(dX [] ks).map (·.1)↔a∈ks:=by rw[rP];simp
theorem aix{ps:List P3}(h:sU ps)(hm:∀a,a∈ps↔a∈bG l):ps.length≤3*l.length:=by
 have hn:ps.Nodup:=List.Pairwise.imp (fun {a b} (h:P3.Lt a b) (e:a=b)=>P3.lt_irrefl b (by rw[e] at h;exact h)) h;have h1:=List.Nodup.length_le_of_subset hn (l₂:=bG l) fun x hx=>(hm x).1 hx;rw[vG] at h1;omega
theorem Gn.perm{Q:P3→List Int}{dn D:List (P3 × Hd)}{cs:List mN}(h:Gn l Q (dn.map (·.1)) cs)(hp:dn.Perm D):Gn l Q (D.map (·.1)) cs:=fun d=>by rw[h d,(hp.map (·.1)).mem_iff]
theorem apK{D:List Mv}{k:Nat}{p:P3}(h:(yS (D.map (·.1)))[k]? = some p):(lB D)[k]? = some (p,(bL D p).getD ⟨0,0,0⟩):=by
 have hm:p∈D.map (·.1):=(lM _).mem_iff.1 (bn h);obtain⟨y,hy⟩:∃y,bL D p=some y:=by
  cases hg:bL D p with
  | some y=>exact⟨y,rfl⟩
  | none=>exact absurd hm (lD.1 hg)
 unfold lB;rw[fj,h,hy];simp[hy]
theorem Zg{ea ef:Array cg}{ca cf:Nat}{D:List (P3 × Hd)}{F:List (P3 × Bool)}(h:Ve ea ef ca cf D F l):D.length≤3*l.length:=by
 have h1:=List.Nodup.length_le_of_subset h.nk (l₂:=bG l) fun x hx=>(h.k x).1 hx;rw[dm,vG] at h1;omega
theorem ao0(D:List Mv)(u v:P3):(toF D u v).length≤D.length+1:=by
 have:=xC (D.map fun e=>(e.1,kZ u v e.2)) u v;rwa [dm] at this
theorem vQ{D:List Mv}(h0:cQ true (dG ts)=0)(h:oA (dG ts).length want (dG ts) (wS (dG ts)) []=(l,D)):mZ ts want=(l,lB D):=by
 unfold mZ;rw[if_neg (by rw[h0];simp),h]
theorem afb(h:¬cQ true (dG ts)=0):mZ ts want=(dG ts,[]):=by unfold mZ;rw[if_pos h]
theorem afc{N cap:Nat}{A:Option Addr}(w:am)(hT0:cJ w A N ts)(hN:N≤2000)(hw:0≤want):dR prog 24 [.slice A N cap,.int .i64 want] w (fun v w'=>∃A1 n1 c1 A2 n2 c2,v=.tuple #[.slice A1 n1 c1,.slice A2 n2 c2]∧n1=(mZ ts want).1.length∧n2=(mZ ts want).2.length∧Mem w w' [oI 55 6 A2 n2 c2 ((mZ ts want).2.flatMap bM),oI 39 9 A1 n1 c1 ((mZ ts want).1.flatMap aP)]):=by
 refine⟨bO func24 (by kernel_rfl),?_⟩;have m:=Mem.refl w;have htl:=hT0.len;have hcl:=sY ts;have hit:∀t∈dG ts,IT t:=Fa hT0.it;have hN2:(dG ts).length≤2000:=by omega
 go_enter func24,ntmps24
 apply iE 8 [0] m;simp only[↓aD];refine bB O O (acH _ (hT0.ext m.ext) (by omega)) ?_;rintro v u e_ ⟨A1,cap1,n1,hn1,rfl,h_⟩;replace m:=m.newO e_ h_;obtain rfl:n1=(dG ts).length:=by rw[hcl];exact hn1
 apply aM 6 [0] m;simp only[↓aD];refine dH m O O (Bj _ ((m.o 0 O).tris hit) (by omega)) ?_;rintro v u m rfl;apply aM 2 [0,0] m;simp only[↓aD];refine bK O ?_ ?_<;>intro hc1
 ·
  apply aL 6 [] m;simp only[↓aD];replace m:=m.nilO 55 6;apply bF 1 [] m;simp only[↓aD];exact nP O O O ⟨_,O,m.ext,_,_,_,_,_,_,O,by rw[afb hc1],by rw[afb hc1];rfl,by rw[afb hc1];exact m.sel [true,true]⟩
 ·
  have hc0:cQ true (dG ts)=0:=by omega
  have hnd:=amk hc0;apply aL 3 [0] m;simp only[↓aD];refine iV m ?_;intro q61 u m;have hD61:=bA.nil (K:=P3) (V:=List Int) pt qV;apply iH 7 [0,0] m;simp only[↓aD,↓fJ,as7,af1,aa];intro g2 u m;refine bB O O (Ib _ ((m.o 2 O).tris hit) (by omega)) ?_;rintro v u e_ ⟨A3,n3,cap3,_,rfl,h_,ps,rfl,hso,hmem⟩;replace m:=m.newO e_ h_;obtain rfl:ps.length=n3:=by have:=(m.o 0 rfl).own.1;rw[aj8] at this;omega
  have hpl:ps.length≤10000000:=by have h1:=aix hso hmem;omega
  apply aM 4 [0] m;simp only[↓aD,wK];refine cP [33] [8,34,35,36,37,38,39,40,41,42] (fun n vs wl=>∃(k:Nat) (es:Array cg) (c:Nat) (Dq:List (P3 × List Int)),vs=[.int .i64 (k:Int)]∧Mem w wl [oI 30 3 A3 ps.length cap3 (ps.flatMap gX),bI g2 [.map (some q61)] 93,mI q61 es c,oI 39 9 A1 (dG ts).length cap1 ((dG ts).flatMap aP)]∧(bA pt qV Dq es c)∧(Le (dG ts) (ps.take k) Dq)∧(k≤ps.length)∧(n=ps.length-k)) ?_ ?_
  ·
   exact⟨_,0,_,_,[],O,m,hD61,Le.nil _,bw _,O⟩
  · intro n vs wr hI u K1 hK1
    obtain⟨k,es61,c61,Dq,rfl,m,hD61,hq1,hk,hn⟩:=hI;simp only[zu,zF,zG];apply aL 5 [0,0] m;simp only[↓aD];refine bK O ?_ ?_<;>intro hc2
    ·
     obtain⟨p,hp,a3,hA3,hr3⟩:=((m.o 0 rfl).lat (enc:=gX) (fun _=>rfl) (by decide)).get (i:=k) (by omega);subst hA3;apply aL 5 [0] m;simp only[↓aD];refine aB (aG gW aA O O (by omega) (by omega) (bX (ai _))) ?_;simp only[zz];refine aQ O (show nO _ _ _ _ (pt p) from hr3.lies aH aA) ?_;simp only[zz];apply iH 3 [0,0] m;simp only[↓aD,↓fJ,dN,aS,aa];intro g3 u m;refine mh m [true,true,true,false,true] [(2,true),(0,true),(1,true),(3,true),(4,false),(5,false)] aF (by kernel_rfl) (cB (fun _ _ _ _ _ h=>h)) (ol:=?_) ?hol ?_
     case hol=>simp only[zw,zQ,zR];try rfl
     intro u m;refine Oc 4 [2,0,0] ?_;simp only[↓aD,↓fJ,af1,aS];refine cG (dH m O O (ar1 (p:=p) _ ((m.o 4 O).tris hit) (by omega)) ?_);rintro v u m rfl;refine aI ⟨m.sel [true,true,true,false,true],?_⟩;refine cG ?_;simp only[zz];refine eR (ek:=pt) (en:=qV) (a:=p) (v:=(wS (dG ts) p)) m 3 O Rz eK O O O hD61 ?_;intro es61 c61 u m hD61;simp only[zF,zG] at m;refine aI ⟨m.sel [true,true,true,false,true],?_⟩;refine bY ?_;apply bF 5 [0] m;simp only[↓aD];refine⟨by omega,?_⟩;exact hK1 (ps.length-(k+1)) _ _ (by omega) (by kernel_rfl) ⟨k+1,_,_,_,O,(m.sel [false,true,true,true,true]),hD61,hq1.put hp,by omega,O⟩
    ·
     obtain rfl:k=ps.length:=by omega
     rw[bf (av _)] at hq1;have hQ:=hq1.ok hmem hit;apply aL 3 [0] m;simp only[↓aD];refine iV m ?_;intro q62 u m;have hD62:=bA.nil (K:=P3) (V:=P3) pt pt;apply aM 4 [0] m;simp only[↓aD];refine iV m ?_;intro q60 u m;have hD60:=bA.nil (K:=E3) (V:=Int) ed W;apply iH 5 [0,0] m;simp only[↓aD,↓fJ,aqE,aaQ,aa];intro g5 u m;refine aB eS ?_;simp only[zz,fb,bi,db];apply aM 4 [0] m;simp only[↓aD];refine cP [0] [12,13,14,15,16,17,18,19,46,47,48,49,50,51,52,53,54,55,56,57,58,59,60,61,62,63,64,65,66,67,68,69,70,71,72,73,74,75,76,77,78,79,80,81,82,83,84,85,86,87,88,89,90,91,92,93,94,95,96,97,98,99,100,101,102,103,104,105,106,107,108,109,110,111,112,113,114,115,116,117,118,119,120,121,122,123,124,125,126,127,128,129,130,131,132,133] (fun n vs wl=>∃(l:List T3) (Q:P3→List Int) (A1:Option Addr) (cap1:Nat) (es60 es61 es62:Array cg) (c60 c61 c62:Nat) (Dc:List (E3 × Int)) (Dq:List (P3 × List Int)) (Dm:List Mv),vs=[.slice A1 l.length cap1]∧Mem w wl [bI g5 [.map (some q60)] 100,mI q60 es60 c60,mI q62 es62 c62,bI g2 [.map (some q61)] 93,mI q61 es61 c61,oI 39 9 A1 l.length cap1 (l.flatMap aP)]∧(bA ed W Dc es60 c60)∧(rY Dc Q)∧((Dc.map (·.1)).Nodup)∧(bA pt qV Dq es61 c61)∧(bA pt pt Dm es62 c62)∧(QOK Dq Q (602+2*(dG ts).length-l.length))∧(∀t∈l,IT t)∧(∀t∈l,t.nd=true)∧((Dm.map (·.1)).Nodup)∧(oA (dG ts).length want (dG ts) (wS (dG ts)) []=oA l.length want l Q Dm)∧(l.length+Dm.length≤(dG ts).length)∧(n=l.length)) ?_ ?_
     ·
      exact⟨_,(dG ts),(wS (dG ts)),_,_,_,_,_,_,_,_,[],_,[],O,(m.sel [true,true,true,false,true,true,true]),hD60,rY.nil _,ku,hD61,hD62,hQ.mono (by omega),hit,hnd,ku,O,(by simp),O⟩
     · intro n vs wr hI u K2 hK2
       obtain⟨l,Q,A1,cap1,es60,es61,es62,c60,c61,c62,Dc,Dq,Dm,rfl,m,hD60,hC,hnC,hD61,hD62,hQ,hit,hnd,hnM,hS,hle,hn⟩:=hI;simp only[zu,zF,zG];apply aL 8 [0,0] m;simp only[↓aD,mC];refine bK O ?_ ?_<;>intro hc3
       ·
        apply aL 5 [0] m;simp only[↓aD];refine bB O O (arZ _ ((m.o 5 O).tris hit) hnd (by omega)) ?_;rintro v u e_ ⟨g90,ga,gf,ea,ef,ca,cf,D,F,K,rfl,hM,hK,hSD⟩;replace m:=m.plus hM;clear hM;simp only[cn,bv] at m;apply iH 7 [0] m;simp only[↓aD,↓fJ,as6,af0,aa];intro g6 u m;replace m:=m.nilO 112 8;apply bF 6 [1,0] m;simp only[↓aD,↓fJ,af0,Tn,aa];refine aQ O (((hK _ (m.get 2 O)).b).lies1 afx O) ?_;simp only[zz];refine sQ m underlying106 O ((hK _ (m.get 2 O)).a) ?_;intro r1 u m;apply aM 2 [0] m;simp only[↓aD];refine cP [13] [14,15,57,58,59,60,61,62,63,64,65,66,67,68,69,70,71,72,73,74,75,76,77,78,79,80,81,82,83,84] (fun n vs wl=>∃(dn rs:List (P3 × Hd)) (sn:Array Nat) (cs:List mN) (A9:Option Addr) (cap9:Nat) (es60:Array cg) (c60:Nat) (Dc:List (E3 × Int)),vs=[.slice A9 cs.length cap9]∧Mem w wl [iI r1 ga ca sn,oI 112 8 A9 cs.length cap9 (cs.flatMap uS),bI g6 [.pointer (some ⟨g90,0,none⟩)] 88,K,bI g5 [.map (some q60)] 100,mI q60 es60 c60,mI q62 es62 c62,bI g2 [.map (some q61)] 93,mI q61 es61 c61,oI 39 9 A1 l.length cap1 (l.flatMap aP)]∧(bA ed W Dc es60 c60)∧(rY Dc Q)∧((Dc.map (·.1)).Nodup)∧(lP pt Hd.v D ea sn dn rs)∧(Gn l Q (dn.map (·.1)) cs)∧(cs.length≤dn.length*6000)∧(n=rs.length)) ?_ ?_
        ·
         exact⟨_,[],D,#[],[],_,_,_,_,_,O,m,hD60,hC,hnC,(lP.start hSD.a),(Gn.nil _ _),(bw _),O⟩
        · intro n vs wr hI u K3 hK3
          obtain⟨dn,rs,sn,cs,A9,cap9,es60,c60,Dc,rfl,m,hD60,hC,hnC,hT,hCs,hcl3,hn3⟩:=hI;simp only[zu,zF,zG];apply aL 2 [0] m;simp only[↓aD];refine Dr m 0 O O ((hK _ (m.get 3 O)).a) hSD.a hT ?_;intro bb kk vv sn u m hN;simp only[zF,zG] at m;refine aB (nL O) ?_;apply aM 2 [0] m;simp only[↓aD];refine dC O ?_ ?_<;>intro hc4
          ·
           obtain⟨kp,kb,rs2,hp2,hT2⟩:=Cd hc4 hN;have hkp:kp∈D.map (·.1):=ft (f:=(·.1)) (hT2.1.mem_iff.1 (by simp):(kp,kb)∈D);have hTl:=hT2.len;have hkeys:=Zg hSD;rw[a_,az,b_] at hTl;apply aL 4 [0] m;simp only[↓aD];refine eD (pQ O (m.r 0 O) ((hK _ (m.get 3 O)).a) hSD.a hT2) ?_;simp only[zz];apply iH 6 [0,0] m;simp only[↓aD,↓fJ,dN,aS,aa];intro g8 u m;refine mq m aF (by kernel_rfl) (iB 3 [3] ?_);simp only[↓aD,↓fJ,af0,To,aa];refine ql O (fun u m=>(((hK _ (m.get 4 O)).b).lies1 vF O)) ?_;simp only[zz];refine ql O (fun u m=>((m.b 0 O).full aH aA)) ?_;simp only[zz];refine jZ (fun u m=>cR (ek:=pt) (en:=ba) (k:=kp) (v0:=false) iM jE eK O O ((hK _ (m.get 4 O)).f) hSD.f) ?_;simp only[zz];refine bN ?_;intro u m;refine gc (dC O (fun hc5=>?_) (fun hc5=>?_))
           ·
            rw[hSD.b] at hc5;apply aL 1 [0] m;simp only[↓aD];exact hK3 rs2.length _ _ (by rw[hn3,hp2.length_eq];exact et _) (by kernel_rfl) ⟨dn++[(kp,kb)],rs2,_,cs,_,_,_,_,_,O,(m.sel [false,true,true,true,true,true,true,true,true,true,true]),hD60,hC,hnC,hT2,(by rw[cz];exact hCs.skip hc5),(by rw[a_];simp only[az,b_];omega),rfl⟩
           ·
            rw[hSD.b] at hc5;apply aL 5 [3,0,0] m;simp only[↓aD,↓fJ,af0,aS];refine bB O O (aa7 (p:=kp) _ ((hK _ (m.get 4 O)).b) ((hK _ (m.get 4 O)).a) hSD.a ((hK _ (m.get 4 O)).t) (by omega)) ?_;rintro v u e_ ⟨qx,esx,cx,rfl,hM,hDx⟩;replace m:=m.plus hM;clear hM;simp only[cn,bv] at m;simp only[zz];refine sQ m iM O (m.p 0 O) ?_;intro r2 u m;apply aM 2 [0] m;simp only[↓aD];refine cP [13] [15,71,72,73,74,75,76,77,78,79,80,81,82,83,84] (fun n vs wl=>∃(dn2 rs2:List (P3 × Bool)) (sn2:Array Nat) (cs:List mN) (A9:Option Addr) (cap9:Nat) (es60:Array cg) (c60:Nat) (Dc:List (E3 × Int)),vs=[.slice A9 cs.length cap9]∧Mem w wl [iI r2 qx cx sn2,mI qx esx cx,bI g8 [.int .i64 kp.x,.int .i64 kp.y,.int .i64 kp.z] 30,iI r1 ga ca sn,oI 112 8 A9 cs.length cap9 (cs.flatMap uS),bI g6 [.pointer (some ⟨g90,0,none⟩)] 88,K,bI g5 [.map (some q60)] 100,mI q60 es60 c60,mI q62 es62 c62,bI g2 [.map (some q61)] 93,mI q61 es61 c61,oI 39 9 A1 l.length cap1 (l.flatMap aP)]∧(bA ed W Dc es60 c60)∧(rY Dc Q)∧((Dc.map (·.1)).Nodup)∧(lP pt ba (dX [] (oK l kp)) esx sn2 dn2 rs2)∧(afa l Q (dn.map (·.1)) kp (dn2.map (·.1)) cs)∧(cs.length≤dn.length*6000+dn2.length)∧(n=rs2.length)) ?_ ?_
            ·
             exact⟨_,[],_,#[],cs,_,_,_,_,_,O,m,hD60,hC,hnC,(lP.start hDx),(hCs.start kp),(by simp only[b_];omega),rfl⟩
            · intro n vs wr hI u K4 hK4
              obtain⟨dn2,rs3,sn2,cs,A9,cap9,es60,c60,Dc,rfl,m,hD60,hC,hnC,hT3,hCi,hcl4,hn4⟩:=hI;simp only[zu,zF,zG];apply aL 2 [0] m;simp only[↓aD];refine Dr m 0 O O (m.p 1 O) hDx hT3 ?_;intro bb kk vv sn u m hN;simp only[zF,zG] at m;refine aB (nL O) ?_;apply aM 2 [0] m;simp only[↓aD];refine dC O ?_ ?_<;>intro hc6
              ·
               obtain⟨kq,kv,rs4,hp4,hT4⟩:=Cd hc6 hN;have hnb:Mm l kp kq=true:=uE.1 (Zf.1 (ft (f:=(·.1)) (hT4.1.mem_iff.1 (by simp):(kq,kv)∈dX [] (oK l kp))));have hT4l:=hT4.len;have hal:=qM (oK l kp) [];have hbl:=Vf l kp;rw[a_,az,b_] at hT4l;rw[b_] at hal;apply aL 4 [0] m;simp only[↓aD];refine eD (pQ O (m.r 0 O) (m.p 1 O) hDx hT4) ?_;simp only[zz];apply iH 4 [0] m;simp only[↓aD,↓fJ,dN,aS,aa];intro g10 u m;replace m:=m.pull 12 O;simp only[dO,dP,zF,zG] at m;replace m:=m.pull 10 O;simp only[dO,dP,zF,zG] at m;replace m:=m.pull 12 O;simp only[dO,dP,zF,zG] at m;replace m:=m.pull 11 O;simp only[dO,dP,zF,zG] at m;refine gc (mh m [true,true,false,true,true,true,true,true,true,false,true,true,true,true] [(0,true),(3,true),(1,true),(2,true),(4,true),(5,true),(6,false),(7,true),(8,false),(9,false),(10,true)] aF (by kernel_rfl) (cB (fun _ _ _ _ _ h=>h)) (ol:=?_) ?hol ?_)
               case hol=>simp only[zw,zQ,zR];try rfl
               intro u m;refine Oc 6 [6,3,6,3] ?_;simp only[↓aD,↓fJ,aS];refine cG ?_;replace m:=m.pack4;refine lS O O ((haveI:=Lf hit ((hSD.k kp).1 hkp);haveI:=Lf hit (abn hnb).2;ar6 (p:=kp) (q:=kq) m hD60 hD61 hC hnC hQ (by omega))) ?_;rintro v u ⟨es60,c60,Dc,rfl,m,hD60,hC,hnC⟩;simp only[zz];replace m:=m.unpack4;refine aI ⟨m.sel [true,true,false,true,true,true,true,true,true,false,true,true,true,true],?_⟩;refine cF (Jt O O O) (cG ?_);simp only[zz];refine adZ O ?_;intro u g11 e_ h_ k_;replace m:=m.newB e_ h_ k_;refine aI ⟨m.sel [false,true,true,false,true,true,true,true,true,true,false,true,true,true,true],?_⟩;refine cG ?_;simp only[zz];refine cS m 10 O O underlying105 ann O (by decide) O O O (m.b 0 O).rowsO (nQ O) (by omega) (by omega) ?_;intro A9 cap9 u m;simp only[zF,zG] at m;rw[show cs.flatMap uS++_=(cs++[⟨kp,kq,uW Q kp kq⟩]:List mN).flatMap uS by rw[be];rfl] at m;have hll:cs.length+1=(cs++[⟨kp,kq,uW Q kp kq⟩]:List mN).length:=by simp
               rw[hll] at m;rw[hll];refine aI ⟨m.sel [false,true,true,false,true,true,true,true,true,true,false,true,true,true,true],?_⟩;refine cF aJ (bY ?_);simp only[zz];replace m:=m.pull 14 O;simp only[dO,dP,zF,zG] at m;replace m:=m.pull 5 O;simp only[dO,dP,zF,zG] at m;replace m:=m.pull 4 O;simp only[dO,dP,zF,zG] at m;replace m:=m.pull 14 O;simp only[dO,dP,zF,zG] at m;replace m:=m.pull 6 O;simp only[dO,dP,zF,zG] at m;replace m:=m.pull 6 O;simp only[dO,dP,zF,zG] at m;replace m:=m.pull 14 O;simp only[dO,dP,zF,zG] at m;replace m:=m.pull 14 O;simp only[dO,dP,zF,zG] at m;replace m:=m.pull 14 O;simp only[dO,dP,zF,zG] at m;replace m:=m.pull 14 O;simp only[dO,dP,zF,zG] at m;replace m:=m.pull 14 O;simp only[dO,dP,zF,zG] at m;replace m:=m.pull 14 O;simp only[dO,dP,zF,zG] at m;replace m:=m.pull 14 O;simp only[dO,dP,zF,zG] at m;replace m:=m.pull 14 O;simp only[dO,dP,zF,zG] at m;apply bF 1 [0] m;simp only[↓aD];exact hK4 rs4.length _ _ (by rw[hn4,hp4.length_eq];exact et _) (by kernel_rfl) ⟨dn2++[(kq,kv)],rs4,_,(cs++[mN.mk kp kq (uW Q kp kq)]),_,_,_,_,_,O,(m.sel [false,true,true,true,true,true,true,true,true,true,true,true,true,true,false]),hD60,hC,hnC,hT4,(by rw[cz];exact hCi.put),(by rw[a_,a_];simp only[az,b_];omega),rfl⟩
              ·
               obtain rfl:=Cc hc6 hN;have hT3l:=hT3.len;have hal:=qM (oK l kp) [];have hbl:=Vf l kp;rw[b_] at hal hT3l;replace hCi:=hCi.done hc5 (fun x=>by rw[←uE];exact ((hT3.done.map (·.1)).mem_iff).trans Zf);apply aL 2 [0] m;simp only[↓aD];exact hK3 rs2.length _ _ (by rw[hn3,hp2.length_eq];exact et _) (by kernel_rfl) ⟨dn++[(kp,kb)],rs2,_,cs,_,_,_,_,_,O,(m.sel [false,false,false,true,true,true,true,true,true,true,true,true,true]),hD60,hC,hnC,hT2,(by rw[cz];exact hCi),(by rw[a_];simp only[az,b_] at hal ⊢;omega),rfl⟩
          ·
           obtain rfl:=Cc hc4 hN;have hTl:=hT.len;have hkeys:=Zg hSD;rw[b_] at hTl;have hdn:=hT.done;replace hCs:=hCs.perm hdn;apply aL 4 [0] m;simp only[↓aD];refine aB eS ?_;simp only[zz,fb,bi,db];replace m:=m.pull 9 O;simp only[dO,dP,zF,zG] at m;replace m:=m.pull 4 O;simp only[dO,dP,zF,zG] at m;replace m:=m.pull 4 O;simp only[dO,dP,zF,zG] at m;replace m:=m.pull 4 O;simp only[dO,dP,zF,zG] at m;replace m:=m.pack4;refine lS O O (ar8 m hK hSD hnd hit (by omega) hQ.len hQ.bd (by omega) hCs (by omega)) ?_;rintro v u ⟨c,bb,rfl,m,hbest⟩;simp only[zz];replace m:=m.unpack3;apply aM 1 [0] m;simp only[↓aD];refine aB (dD (v:=abm c) O O) ?_;simp only[zz];refine aB (dD (v:=.bool bb) O O) ?_;simp only[zz];apply iH 2 [0] m;simp only[↓aD,↓fJ,aes,aer,aa];intro g8 u m;apply bF 8 [0] m;simp only[↓aD];refine dC O ?_ ?_<;>intro hc7
           ·
            have hend:=adh (l:=l) (want:=want) (Q:=Q) (D:=Dm) (.inr (hbest.resolve_right (fun h=>by rw[h.1] at hc7;cases hc7)).2);apply aL 5 [] m;simp only[↓aD];replace m:=m.nilO 55 6;apply bF 4 [0] m;simp only[↓aD];refine bB O O (alX (q:=q62) _) ?_;rintro v u e_ ⟨g9,rfl,h_,k_⟩;replace m:=m.newB e_ h_ k_;simp only[zz];refine bB O O (acZ _ ajB (Ot (m.p 9 O) hD62 (m.b 0 O)) (fun xs h=>by rw[h.length_eq,dm];exact av _) (by omega)) ?_;rintro v u e_ ⟨xs,ys,⟨A22,cap22,n22,hn22,rfl,h_⟩,hxs,hys,hso⟩;replace m:=m.newO e_ h_;obtain rfl:n22=Dm.length:=by rw[hn22,hxs.length_eq,dm]
            obtain rfl:ys=yS (Dm.map (·.1)):=Uw hnM (hys.trans hxs) hso;apply aM 4 [0] m;simp only[↓aD,wK];refine cP [20,138] [22,139,140,141,142,143,144,145,146,147,148,149,150] (fun n vs wl=>∃(k:Nat) (A20:Option Addr) (cap20:Nat),vs=[.slice A20 k cap20,.int .i64 (k:Int)]∧Mem w wl [oI 30 3 A22 Dm.length cap22 ((yS (Dm.map (·.1))).flatMap gX),oI 55 6 A20 k cap20 (((lB Dm).take k).flatMap bM),oI 39 9 A1 l.length cap1 (l.flatMap aP),mI q62 es62 c62]∧(k≤Dm.length)∧(n=Dm.length-k)) ?_ ?_
            ·
             exact⟨_,0,_,_,O,(m.sel [true,false,true,false,false,false,true,false,false,false,true,false,false]),bw _,O⟩
            · intro n vs wr hI u K5 hK5
              obtain⟨k,A20,cap20,rfl,m,hk,hn6⟩:=hI;simp only[zu,zF,zG];apply aL 5 [0,0] m;simp only[↓aD];refine bK O ?_ ?_<;>intro hc10
              ·
               obtain⟨k9,hk9,a9,hA9,hr9⟩:=((m.o 0 rfl).lat (enc:=gX) (fun _=>rfl) (by decide)).get (i:=k) (by omega);subst hA9;have hmv:=apK hk9;apply aL 5 [0] m;simp only[↓aD];refine aB (aG gW aA O O (by omega) (by omega) (bX (ai _))) ?_;simp only[zz];refine aQ O (show nO _ _ _ _ (pt k9) from hr9.lies aH aA) ?_;simp only[zz];apply iH 3 [0,0] m;simp only[↓aD,↓fJ,dN,aS,aa];intro g10 u m;refine mh m [true,true,false,true,true] [(0,true),(2,true),(1,true),(3,true),(4,false),(5,true),(6,false),(7,false),(8,true)] aF (by kernel_rfl) (cB (fun _ _ _ _ _ h=>h)) (ol:=?_) ?hol ?_
               case hol=>simp only[zw,zQ,zR];try rfl
               intro u m;refine Oc 4 [0,0] ?_;simp only[↓aD,↓fJ,aS];refine cG (eD (cR (ek:=pt) (en:=pt) (k:=k9) (v0:=⟨0,0,0⟩) Dn eC eK O O (m.p 4 O) hD62) ?_);simp only[zz];refine aI ⟨m.sel [true,true,false,true,true],?_⟩;refine cF (rL O O) (cG ?_);simp only[zz];refine sN O ?_;intro u g11 e_ h_ k_;replace m:=m.newB e_ h_ k_;refine aI ⟨m.sel [false,true,true,false,true,true],?_⟩;refine cG ?_;simp only[zz];refine cS m 3 O O Dl aai O (by decide) O O O (m.b 0 O).rowsO (nQ O) (by omega) (by omega) ?_;intro A20 cap20 u m;simp only[zF,zG] at m;rw[show ((lB Dm).take k).flatMap bM++_=((lB Dm).take (k+1)).flatMap bM by rw[cC hmv,be];rfl] at m;refine aI ⟨m.sel [false,true,true,false,true,true],?_⟩;refine cF aJ (bY ?_);apply bF 5 [0] m;simp only[↓aD];refine⟨by omega,?_⟩;exact hK5 (Dm.length-(k+1)) _ _ (by omega) (by kernel_rfl) ⟨k+1,_,_,O,(m.sel [false,false,true,true,true,true]),by omega,O⟩
              ·
               obtain rfl:k=Dm.length:=by omega
               rw[show (lB Dm).take Dm.length=lB Dm from bf (by rw[yW];exact av _)] at m;apply aL 9 [] m;simp only[↓aD];exact nP O O O ⟨_,O,m.ext,_,_,_,_,_,_,O,by rw[vQ hc0 (hS.trans hend)],by rw[vQ hc0 (hS.trans hend)];exact (yW _).symm,by rw[vQ hc0 (hS.trans hend)];exact m.sel [false,true,true,false]⟩
           ·
            obtain⟨rfl,hbs,hbI⟩:=hbest.resolve_left (fun h=>by rw[h.1] at hc7;cases hc7);have hlu:((bL Dq c.u).getD q0).length=10:=by rw[hQ.get];exact hQ.len _
            have hbu:Ia (602+2*(dG ts).length-l.length) ((bL Dq c.u).getD q0):=by rw[hQ.get];exact hQ.bd _
            have hlv:((bL Dq c.v).getD q0).length=10:=by rw[hQ.get];exact hQ.len _
            have hbv:Ia (602+2*(dG ts).length-l.length) ((bL Dq c.v).getD q0):=by rw[hQ.get];exact hQ.bd _
            apply aL 8 [0,0,0] m;simp only[↓aD,↓fJ,Ef,aS,wL,aa];refine bB O O ((haveI:=hbI.1;haveI:=hbI.2;aeM (p:=c.u) (q:=c.v) _ ((m.o 3 rfl).tris hit) (by omega))) ?_;rintro v u e_ ⟨A21,cap21,n21,hn21,rfl,h_⟩;replace m:=m.newO e_ h_;subst hn21;refine aB aJ ?_;simp only[zz];replace m:=(m.pull 0 O).mv 3 O;simp only[dO,dP,zF,zG] at m;apply aM 2 [0] m;simp only[↓aD];refine eB m 12 aF (by kernel_rfl) ?_;simp only[zy];refine iB 6 [8,0,8,0] ?_;simp only[↓aD,↓fJ,af1,wL,aS,Ef,aa];refine jZ (fun u m=>cR (ek:=pt) (en:=qV) (k:=c.u) (v0:=q0) Rz agG eK O O (m.p 9 O) hD61) ?_;simp only[zz];refine iB 3 [8,0] ?_;simp only[↓aD,↓fJ,af1,wL,aS,aa];refine jZ (fun u m=>cR (ek:=pt) (en:=qV) (k:=c.v) (v0:=q0) Rz agG eK O O (m.p 9 O) hD61) ?_;simp only[zz];refine kR O O (ae0 hlu hlv hbu hbv (by omega)) (bN ?_);intro u m;simp only[zz];refine eR (ek:=pt) (en:=qV) (a:=c.v) (v:=(Gi ((bL Dq c.u).getD q0) ((bL Dq c.v).getD q0))) m 9 O Rz eK O O O hD61 ?_;intro es61 c61 u m hD61;simp only[zF,zG] at m;rw[hQ.get,hQ.get] at hD61;refine aI ?_;apply bF 3 [5,0] m;simp only[↓aD,↓fJ,aaQ];refine aB eS ?_;simp only[zz,fb,bi,db];replace m:=m.pull 0 O;simp only[dO,dP,zF,zG] at m;replace m:=m.pull 6 O;simp only[dO,dP,zF,zG] at m;replace m:=m.pack2;refine lS O O (amC m hD60 hnC) ?_;rintro v u ⟨es60,Dc2,rfl,m,hD60,hnC2,hdel⟩;simp only[zz];replace m:=m.unpack2;apply aM 5 [0] m;simp only[↓aD];refine sQ m Dn O (m.p 7 O) ?_;intro r3 u m;apply aM 2 [0] m;simp only[↓aD];refine cP [] [18,19,116,117,118,119,120,121,122,123,124,125,126,127,128] (fun n vs wl=>∃(dn rs:List Mv) (sn:Array Nat) (es62:Array cg),vs=[]∧Mem w wl [iI r3 q62 c62 sn,mI q60 es60 c60,bI g8 (uS c) 112,oI 39 9 A21 (iC l c.u c.v).length cap21 ((iC l c.u c.v).flatMap aP),bI g5 [.map (some q60)] 100,mI q62 es62 c62,bI g2 [.map (some q61)] 93,mI q61 es61 c61]∧(bA pt pt (Ez (dn.map (·.1)) c.u c.v Dm) es62 c62)∧(uZ pt pt (Ez (dn.map (·.1)) c.u c.v Dm) es62 sn dn rs)∧(n=rs.length)) ?_ ?_
            ·
             exact⟨_,[],Dm,#[],_,O,(m.sel [true,true,true,false,false,true,false,true,true,true,true]),(by rw[db,adf];exact hD62),(by rw[db,adf];exact uZ.start hD62),O⟩
            · intro n vs wr hI u K6 hK6
              obtain⟨dn,rs,sn,es62,rfl,m,hD62,hT5,hn5⟩:=hI;simp only[zu,zF,zG];apply aL 2 [0] m;simp only[↓aD];refine amv m 0 O O (m.p 5 O) hD62 hT5 ?_;intro bb kk vv sn u m hN;simp only[zF,zG] at m;refine aB (nL O) ?_;apply aM 2 [0] m;simp only[↓aD];refine dC O ?_ ?_<;>intro hc8
              ·
               obtain⟨kp,kb,rs2,hp2,hT6⟩:=amz hc8 hN;obtain⟨hnew,hmm⟩:=amG (by rw[Gf];exact hnM) hT6;apply aL 4 [0] m;simp only[↓aD];refine eD (ade O (m.r 0 O) (m.p 5 O) hD62 hT6) ?_;simp only[zz];apply iH 5 [1] m;simp only[↓aD,↓fJ,dN,aS,aa];intro g10 g11 u m;apply zvn 7 [0,0,4,0] m;simp only[↓aD,↓fJ,aS,Ef,aa];intro u m;refine aB (bS O O) ?_;apply aM 1 [0] m;simp only[↓aD];refine dC O ?_ ?_<;>intro hc9
               ·
                rw[aoY,decide_eq_true_eq] at hc9;have hup:=amF hnM hmm hnew hc9;apply aL 5 [1,4,0] m;simp only[↓aD,↓fJ,aS,wL,aa];refine amx (ek:=pt) (ev:=pt) (a:=kp) (v:=c.v) m 7 O Dn eK O O O hD62 (by rw[Gf];exact hnM) hT6 ?_;intro es62 u m hD62 hT';simp only[zF,zG] at m;apply aM 2 [0] m;simp only[↓aD];rw[hup] at hD62 hT';exact hK6 rs2.length _ _ (by rw[hn5,hp2.length_eq];exact et _) (by kernel_rfl) ⟨dn++[(kp,c.v)],rs2,_,_,O,(m.sel [false,false,true,true,true,true,true,true,true,true]),(by rw[cz];exact hD62),(by rw[cz];exact hT'),O⟩
               ·
                rw[aoY,decide_eq_false_iff_not] at hc9;have hup:=aiv (v:=c.v) hnM hmm hnew hc9;apply aL 2 [0] m;simp only[↓aD];have hT7:=hT6.stay;rw[hup] at hD62 hT7;exact hK6 rs2.length _ _ (by rw[hn5,hp2.length_eq];exact et _) (by kernel_rfl) ⟨dn++[(kp,kb)],rs2,_,_,O,(m.sel [false,false,true,true,true,true,true,true,true,true]),(by rw[cz];exact hD62),(by rw[cz];exact hT7),O⟩
              ·
               obtain rfl:=amy hc8 hN;have hdn:=hT5.done;have hall:∀e∈Dm,e.1∈dn.map (·.1):=fun e he=>(hdn.map (·.1)).mem_iff.2 (by rw[Gf];exact ft he);apply aL 7 [2,2,0] m;simp only[↓aD,↓fJ,Ef,aS,wL,aa];refine eR (ek:=pt) (en:=pt) (a:=c.u) (v:=c.v) m 5 O Dn eK O O O hD62 ?_;intro es62 c62 u m hD62;simp only[zF,zG] at m;rw[amE hall] at hD62;apply aM 1 [] m;simp only[↓aD];replace m:=m.pull 3 O;simp only[dO,dP,zF,zG] at m;replace m:=m.pull 7 O;simp only[dO,dP,zF,zG] at m;replace m:=m.pull 7 O;simp only[dO,dP,zF,zG] at m;replace m:=m.pull 7 O;simp only[dO,dP,zF,zG] at m;replace m:=m.pull 5 O;simp only[dO,dP,zF,zG] at m;replace m:=m.pull 7 O;simp only[dO,dP,zF,zG] at m;apply bF 1 [0] m;simp only[↓aD];exact hK2 ((iC l c.u c.v).length) _ _ (by have:=yT hbs;omega) (by kernel_rfl) ⟨(iC l c.u c.v),(aaL Q c.u c.v),_,_,_,_,_,_,_,_,_,_,(toF Dm c.u c.v),rfl,(m.sel [true,true,true,true,true,true,false,false]),hD60,(hC.upd hdel),hnC2,hD61,hD62,((hQ.upd c.u c.v).mono (by have:=yT hbs;omega)),(Fa (aa6 hbI.2 hit)),(akt l c.u c.v),(ar7 hnM _ _),(hS.trans (aiw hw (by omega) hbs)),(by have:=yT hbs;have:=ao0 Dm c.u c.v;omega),rfl⟩
       ·
        have hend:=adh (l:=l) (want:=want) (Q:=Q) (D:=Dm) (.inl (by omega));apply aL 5 [] m;simp only[↓aD];replace m:=m.nilO 55 6;apply bF 4 [0] m;simp only[↓aD];refine bB O O (alX (q:=q62) _) ?_;rintro v u e_ ⟨g6,rfl,h_,k_⟩;replace m:=m.newB e_ h_ k_;simp only[zz];refine bB O O (acZ _ ajB (Ot (m.p 4 O) hD62 (m.b 0 O)) (fun xs h=>by rw[h.length_eq,dm];exact av _) (by omega)) ?_;rintro v u e_ ⟨xs,ys,⟨A22,cap22,n22,hn22,rfl,h_⟩,hxs,hys,hso⟩;replace m:=m.newO e_ h_;obtain rfl:n22=Dm.length:=by rw[hn22,hxs.length_eq,dm]
        obtain rfl:ys=yS (Dm.map (·.1)):=Uw hnM (hys.trans hxs) hso;apply aM 4 [0] m;simp only[↓aD,wK];refine cP [20,138] [22,139,140,141,142,143,144,145,146,147,148,149,150] (fun n vs wl=>∃(k:Nat) (A20:Option Addr) (cap20:Nat),vs=[.slice A20 k cap20,.int .i64 (k:Int)]∧Mem w wl [oI 30 3 A22 Dm.length cap22 ((yS (Dm.map (·.1))).flatMap gX),oI 55 6 A20 k cap20 (((lB Dm).take k).flatMap bM),mI q62 es62 c62,oI 39 9 A1 l.length cap1 (l.flatMap aP)]∧(k≤Dm.length)∧(n=Dm.length-k)) ?_ ?_
        ·
         exact⟨_,0,_,_,O,(m.sel [true,false,true,false,false,true,false,false,true]),bw _,O⟩
        · intro n vs wr hI u K7 hK7
          obtain⟨k,A20,cap20,rfl,m,hk,hn6⟩:=hI;simp only[zu,zF,zG];apply aL 5 [0,0] m;simp only[↓aD];refine bK O ?_ ?_<;>intro hc10
          ·
           obtain⟨k9,hk9,a9,hA9,hr9⟩:=((m.o 0 rfl).lat (enc:=gX) (fun _=>rfl) (by decide)).get (i:=k) (by omega);subst hA9;have hmv:=apK hk9;apply aL 5 [0] m;simp only[↓aD];refine aB (aG gW aA O O (by omega) (by omega) (bX (ai _))) ?_;simp only[zz];refine aQ O (show nO _ _ _ _ (pt k9) from hr9.lies aH aA) ?_;simp only[zz];apply iH 3 [0,0] m;simp only[↓aD,↓fJ,dN,aS,aa];intro g7 u m;refine mh m [true,true,false,true,true] [(0,true),(2,true),(1,true),(3,true),(4,false),(5,true),(6,false),(7,false),(8,true)] aF (by kernel_rfl) (cB (fun _ _ _ _ _ h=>h)) (ol:=?_) ?hol ?_
           case hol=>simp only[zw,zQ,zR];try rfl
           intro u m;refine Oc 4 [0,0] ?_;simp only[↓aD,↓fJ,aS];refine cG (eD (cR (ek:=pt) (en:=pt) (k:=k9) (v0:=⟨0,0,0⟩) Dn eC eK O O (m.p 3 O) hD62) ?_);simp only[zz];refine aI ⟨m.sel [true,true,false,true,true],?_⟩;refine cF (rL O O) (cG ?_);simp only[zz];refine sN O ?_;intro u g8 e_ h_ k_;replace m:=m.newB e_ h_ k_;refine aI ⟨m.sel [false,true,true,false,true,true],?_⟩;refine cG ?_;simp only[zz];refine cS m 3 O O Dl aai O (by decide) O O O (m.b 0 O).rowsO (nQ O) (by omega) (by omega) ?_;intro A20 cap20 u m;simp only[zF,zG] at m;rw[show ((lB Dm).take k).flatMap bM++_=((lB Dm).take (k+1)).flatMap bM by rw[cC hmv,be];rfl] at m;refine aI ⟨m.sel [false,true,true,false,true,true],?_⟩;refine cF aJ (bY ?_);apply bF 5 [0] m;simp only[↓aD];refine⟨by omega,?_⟩;exact hK7 (Dm.length-(k+1)) _ _ (by omega) (by kernel_rfl) ⟨k+1,_,_,O,(m.sel [false,false,true,true,true,true]),by omega,O⟩
          ·
           obtain rfl:k=Dm.length:=by omega
           rw[show (lB Dm).take Dm.length=lB Dm from bf (by rw[yW];exact av _)] at m;apply aL 9 [] m;simp only[↓aD];exact nP O O O ⟨_,O,m.ext,_,_,_,_,_,_,O,by rw[vQ hc0 (hS.trans hend)],by rw[vQ hc0 (hS.trans hend)];exact (yW _).symm,by rw[vQ hc0 (hS.trans hend)];exact m.sel [false,true,false,true]⟩
end Go.Proofs.YtfekpcimgncioaaGreatDoor
namespace Go.Lith
open Go.RowKit
variable{q:P3}
section
variable {g gi:P3→P3} {ts us l:List T3} {f:P3→P3}
end
/-! ### Moves,one after the other -/
/-! ### How far -/
theorem ar9{n m:Nat}(h:n≤m*m):(fB n+if fB n*fB n=n then 0 else 1)≤m:=by
 obtain⟨h1,h2⟩:=vZ n;by_cases e:fB n*fB n=n
 · rw[if_pos e]
   refine gv fun k=>?_;have:(m+1)*(m+1)≤fB n*fB n:=Nat.mul_le_mul k k;have e2:(m+1)*(m+1)=m*m+2*m+1:=by grind
   omega
 · rw[if_neg e]
   refine gv fun k=>?_;have:m*m≤fB n*fB n:=Nat.mul_le_mul (by omega) (by omega);omega
def Wq(p q:P3):Nat:=fB (rR p q)+if fB (rR p q)*fB (rR p q)=rR p q then 0 else 1
theorem agH(p q:P3):wR p q=(Wq p q:Int):=by
 unfold wR Wq;split <;> simp
theorem adi(p q:P3):((rR p q:Nat):Int)=(q.x-p.x)*(q.x-p.x)+((q.y-p.y)*(q.y-p.y)+(q.z-p.z)*(q.z-p.z)):=by
 have h:=ajf (q.sub p);unfold rR;have e:(q.sub p).dot (q.sub p)=(q.x-p.x)*(q.x-p.x)+((q.y-p.y)*(q.y-p.y)+(q.z-p.z)*(q.z-p.z)):=by simp only[P3.sub,P3.dot,Int.add_assoc]
 rw[←e];omega
/-! ### The greatest distance -/
def mxM:List Mv→Nat→Nat
 | [],n=>n
 | m::ms,n=>mxM ms (max n (Wq m.1 m.2))
theorem amH:∀(ms:List Mv) (n:Nat),n≤mxM ms n∧∀m∈ms,Wq m.1 m.2≤mxM ms n
 | [],n=>⟨av _,fun m h=>by cases h⟩
 | m::ms,n=>by
  obtain⟨h1,h2⟩:=amH ms (max n (Wq m.1 m.2));refine⟨aw (Nat.le_max_left _ _) h1,fun k hk=>?_⟩;rcases ao.1 hk with rfl | hk
  · exact aw (Nat.le_max_right _ _) h1
  · exact h2 k hk
theorem adj:∀(ms:List Mv) (n:Nat),(∀m∈ms,pV (wR m.1 m.2))→pH ms (n:Int)=some ((mxM ms n:Nat):Int)
 | [],n,_=>rfl
 | m::ms,n,h=>by
  rw[pH,if_pos (h m (bj ..)),agH];have:max (n:Int) (Wq m.1 m.2:Int)=((max n (Wq m.1 m.2):Nat):Int):=by omega
  rw[this,adj ms _ fun q hq=>h q (bm _ hq)];rfl
theorem aiy{p:P3}(hp:Mid p)(hq:Mid q):Wq p q≤12000000:=by
 have h0:=adi p q;obtain⟨a1,a2,a3,a4,a5,a6⟩:=hp;obtain⟨b1,b2,b3,b4,b5,b6⟩:=hq;have k:∀x y:Int,-2000000≤x→x≤2000000→-2000000≤y→y≤2000000→(y-x)*(y-x)≤4000000*4000000:=fun x y h1 h2 h3 h4=>by
  rcases Int.le_total 0 (y-x) with h | h
  · exact Int.mul_le_mul (by omega) (by omega) h (by omega)
  · have:(y-x)*(y-x)=(x-y)*(x-y):=by grind
    rw[this];exact Int.mul_le_mul (by omega) (by omega) (by omega) (by omega)
 have k1:=k p.x q.x (by omega) (by omega) (by omega) (by omega);have k2:=k p.y q.y (by omega) (by omega) (by omega) (by omega);have k3:=k p.z q.z (by omega) (by omega) (by omega) (by omega);exact ar9 (by omega)
theorem ao1{p:P3}(hp:Mid p)(hq:Mid q):pV (wR p q):=by
 have h1:=aiy hp hq;rw[agH];exact⟨by omega,by omega⟩
theorem ao2{p:P3}(h:p≠q):1≤Wq p q:=by
 have hp:1≤rR p q:=by
  refine Nat.one_le_iff_ne_zero.2 fun e=>h ?_;have:=adi p q;rw[e] at this;have sq:∀x:Int,0≤x*x:=fun x=>by
   rcases Int.le_total 0 x with h | h
   · exact Int.mul_nonneg h h
   · exact Int.mul_nonneg_of_nonpos_of_nonpos h h
  have s1:=sq (q.x-p.x);have s2:=sq (q.y-p.y);have s3:=sq (q.z-p.z);have z:∀x y:Int,(y-x)*(y-x)=0→x=y:=fun x y h=>by
   have:=Int.mul_eq_zero.1 h;omega
  have hz:((0:Nat):Int)=0:=rfl;rw[hz] at this;refine P3.eq (z _ _ ?_) (z _ _ ?_) (z _ _ ?_) <;> omega
 unfold Wq;obtain⟨h1,h2⟩:=vZ (rR p q);rcases ff (fB (rR p q)) with e | e
 · rw[e] at h2 ⊢
   split
   · rename_i k;omega
   · omega
 · omega
theorem abo{s:List T3}{want:Int}(hc:cQ true s=0)(hm:∀x∈bG s,Mid x) :
 ∃n:Nat,oS s (mZ s want).1 (mZ s want).2=((n:Int),0)∧(n=0↔(mZ s want).2.length=0):=by
 have S:=tC (want:=want) hc;obtain⟨h1,h2,h3⟩:=lK.1 S.ck;have hall:∀m∈(mZ s want).2,pV (wR m.1 m.2):=fun m h=>ao1 (hm _ (S.mv.ic m h)) (hm _ (S.acc.sub _ (S.mv.to m h)));refine⟨mxM (mZ s want).2 0,aoz S.acc S.mv h1 h2 h3 (adj _ 0 hall),fun h=>?_,fun h=>?_⟩
 · cases hms:(mZ s want).2 with
   | nil=>rfl
   | cons m ms =>
    have hmem:m∈(mZ s want).2:=by rw[hms];exact bj ..
    have hne:m.1≠m.2:=fun e=>S.mv.nl m hmem (e▸S.mv.to m hmem);have k1:=(amH (mZ s want).2 0).2 m hmem;have k2:=ao2 hne;omega
 · rw[List.length_eq_zero_iff.1 h];rfl
end Go.Lith
namespace Go.Proofs.YtfekpcimgncioaaGreatDoor
open Go.Proofs.Tryz
open Go.RowKit Go.Lith
set_option maxRecDepth 100000
attribute [local irreducible] au cq eF bJ cD Code.wp
attribute [local congr] oG fS fT fU fV fW jR fX fY fZ gA gB gC gD gE gF gG gH eM eN gI gJ gL gM gN jT cW cX cA cU gK jS eO eP eQ gQ gR jU
theorem adk:∀(n:Nat) {want:Int} {l:List T3} {q:P3→List Int} {D:List Mv},(∀t∈l,IT t)→∀t∈(oA n want l q D).1,IT t
 | 0,_,_,_,_,h=>h
 | n+1,want,l,q,D,h=>by
  unfold oA;split
  · exact h
  · cases hb:Cf l q with
    | none=>exact h
    | some c=>exact adk n (Fa (aa6 (Lf h (abn (afY.1 (Mp hb).1).2.1).2) h))
theorem amI{l:List T3}{want:Int}(h:∀t∈l,IT t):∀t∈(mZ l want).1,IT t:=by
 unfold mZ;split
 · exact Fa h
 · exact adk _ (Fa h)
structure auh(s L:List T3)(Ms:List Mv):Prop where
 ac:∃n:Nat,oS s L Ms=((n:Int),0)∧(n=0↔Ms.length=0)
 si:apz s L Ms
 ll:L.length≤s.length
 ml:Ms.length≤3*s.length
 li:∀t∈L,IT t
 mi:∀m∈Ms,I3 m.1∧I3 m.2
theorem ao3{s:List T3}{want:Int}(hc:cQ true s=0)(hm:∀x∈bG s,Mid x):auh s (mZ s want).1 (mZ s want).2 where
 ac:=abo hc hm
 si:=tC hc
 ll:=(tC hc).le
 ml:=by
  have:=(tC (want:=want) hc).num;have:=Di s;omega
 li:=amI (Uo hm)
 mi m h:=⟨(hm _ ((tC hc).mv.ic m h)).i3,(hm _ ((tC hc).acc.sub _ ((tC hc).mv.to m h))).i3⟩
theorem amJ{us:List T3}{n:Nat}(h:∀x∈bG us,Mid x):∀x∈bG (us.take n),Mid x:=fun x hx=>h x (by
 obtain⟨t,ht,hp⟩:=lJ.1 hx;exact lJ.2 ⟨t,List.mem_of_mem_take ht,hp⟩)
theorem Nq{kind bits:Int}[Iw kind][Iw bits]{HN Hc DN Dc:Nat}{HA DA:Option Addr}{zs:List Int}{qs:List Q4}{n0:Int}[Iw n0](w:am)(hZ:uG w HA HN zs)(hQ:Aq q4C 4 w DA DN qs)(hI:∀q∈qs,IQ q):dR prog 12 [.agg #[.int .i64 kind,.int .i64 bits,.slice HA HN Hc,.slice DA DN Dc],.int .i64 n0] w (fun v _=>v=.bool true):=by
 refine⟨bO func12 (by kernel_rfl),?_⟩;have m:=Mem.refl w
 go_enter func12,ntmps12
 apply nM 7 [0] m;simp only[↓aD];intro g1 u m;refine wQ m O O alx 5 [0,0] ?_;simp only[↓aD,as5];intro u m;refine bB O O (arq _ (hZ.ext m.ext) (hQ.ext m.ext) hI) ?_;rintro v u e_ ⟨us,ms,A7,c7,A8,c8,A5,c5,i,rfl,hM,hi,hdv⟩;replace m:=m.plus hM;clear hM;simp only[cn,bv] at m;have hs:=hdv.srf hi;have hs1:=hs.ul;have hcp:=(m.o 1 rfl).le;apply aM 15 [0,0] m;simp only[↓aD,mC];refine afL m [6] [23,24] (fun vs=>∃(n6:Nat),vs=[.slice A7 n6 c7]∧(n6≤us.length)∧(n6≤90)) ?_ ?_
 · intro K1 hK1
   refine bK O ?_ ?_<;>intro hc1
   ·
    apply aL 2 [0] m;simp only[↓aD];refine aB (nC bZ aR O O (ai _) (by omega) (by omega)) ?_;apply aM 2 [0] m;simp only[↓aD];exact hK1 _ _ (by kernel_rfl) m ⟨90,O,by omega,by omega⟩
   ·
    apply aL 1 [0] m;simp only[↓aD];exact hK1 _ _ (by kernel_rfl) m ⟨us.length,O,av _,by omega⟩
 · intro vs wr m hI u
   obtain⟨n6,rfl,hn6,hn9⟩:=hI;simp only[zu,zF,zG];apply bF 4 [0] m;simp only[↓aD];refine dH m O O (aaT _ (((m.o 1 O).tris (Uo hs.um)).take hn6) (by omega)) ?_;rintro v u m rfl;apply aM 2 [0,0] m;simp only[↓aD];refine bK O ?_ ?_<;>intro hc2
   ·
    apply aL 6 [] m;simp only[↓aD];exact aY O O ⟨_,O,m.ext,O⟩
   ·
    have hck:cQ true (us.take n6)=0:=by omega
    apply aL 5 [0] m;simp only[↓aD];refine oP m O O (xO (n:=n0) (k:=60) (by decide) (by decide)) ?_;intro u m;simp only[zz];refine bB O O (afc (ts:=us.take n6) _ (((m.o 1 O).tris (Uo hs.um)).take hn6) (by omega) (by omega)) ?_;rintro v u e_ ⟨A10,n10,c10,A9,n9,c9,rfl,hn10,hn9,hM⟩;replace m:=m.plus hM;clear hM;simp only[cn,bv] at m;obtain⟨L,hL1⟩:∃L,L=(mZ (us.take n6) (n0%60)).1:=⟨_,rfl⟩
    obtain⟨Ms,hMs⟩:∃L,L=(mZ (us.take n6) (n0%60)).2:=⟨_,rfl⟩
    have hsm:=ao3 (want:=n0%60) hck (amJ hs.um);rw[←hL1] at m hn10 hsm;rw[←hMs] at m hn9 hsm;obtain⟨ee,hch,he0⟩:=hsm.ac;have hll:=hsm.ll;have hml:=hsm.ml;rw[List.length_take] at hll hml;apply aM 11 [0] m;simp only[↓aD];refine dH m O O (Ep (fs:=us.take n6) (gs:=L) (ms:=Ms) _ (((m.o 3 O).tris (Uo hs.um)).take hn6) ((m.o 1 O).tris hsm.li) ((m.o 0 O).lat Cj (by decide)) (by omega) (by omega) (by omega) hsm.mi) ?_;rintro v u m rfl;simp only[zz];rw[hch];dsimp only;apply aM 7 [] m;simp only[↓aD];rcases ff ee with hz | hz
    ·
     apply bF 16 [1,1,1,1,0] m;simp only[↓aD,Ys];refine⟨by omega,?_⟩;refine eY O (aB (aiM (adv adN O O) (afg (show decide (true=true)=true by decide))) ?_);apply aM 4 [] m;simp only[↓aD];exact aY O O ⟨_,O,m.ext,O⟩
    ·
     apply bF 16 [1,1,2,2,0] m;simp only[↓aD,Ys];refine⟨by omega,?_⟩;refine eY O (aB (aiM (adv adN O O) (afg (show decide (false=false)=true by decide))) ?_);apply aM 4 [] m;simp only[↓aD];exact aY O O ⟨_,O,m.ext,O⟩
end Go.Proofs.YtfekpcimgncioaaGreatDoor
namespace Go.Lith
open Go.RowKit Go.ChangeShapes
variable {H:Type} {enc:ay × ak→H} {P:bz}
theorem Oy(hl:laidOutB P=true){W W':am}(hb:dY W W'){sp:Nat→Bool} :
 ∀{ts:List ay} {vs:List ak} {ds:List (DataW H)} {ps:List MemPlace},(ts.all fun t=>P.readableRec t&&decide (t<P.types.size))=true→DataW.TrodAll enc P W 0 (fun _=>true) true ts vs ds ps→(∀p∈ps,sp p.block=true)→DataW.TrodAll enc P W' 0 sp true ts vs ds ps
 | [],[],[],_,_,h,_=>h
 | [],[],_::_,_,_,h,_=>h.elim
 | [],_::_,_,_,_,h,_=>h.elim
 | _::_,[],_,_,_,h,_=>h.elim
 | _::_,_::_,[],_,_,h,_=>h.elim
 | t::ts,v::vs,d::ds,ps,hv,h,hs=>by
  obtain⟨p,q,⟨n,h1⟩,h2,e⟩:=h;subst e;simp only[List.all_cons,bh,decide_eq_true_eq] at hv;have hlt:=DataW.trod_lt n _ _ _ h1;exact⟨p,q,⟨n,DataW.trod_stays (kids_book hl hv.1.1) (book_sized hv.1.1) (fun h=>by cases h) ⟨hv.1.2,book_self t⟩ h1 (fun x hx=>Below.same hb (hlt x hx)) (fun x hx=>hs x (by simp[hx]))⟩,
   Oy hl hb (by simpa using hv.2) h2 (fun x hx=>hs x (by simp[hx])),rfl⟩
theorem adl{f:Func}{s:ChangeSpec}{apart fresh handsOn again:Bool}{W W':am}{args:Array ak}{t:ay}{ds gs:List (DataW H)}{before:List MemPlace}
 (hl:laidOutB P=true) (hps:(f.params.toList.all fun t=>P.readableRec t&&decide (t<P.types.size))=true) (hv:s.vars=[]) (hr:f.resultTypes = #[t]) (hu:P.underlying t=some .bool)
 (hW:DataW.Whole enc P f.params.toList s.vars apart W args.toList ds gs before) (hfn:(s.fn H (ds++gs)).results=[.lit (.bool true)]∧(s.fn H (ds++gs)).args=ds∧(s.fn H (ds++gs)).vars=[]) (hb:dY W W') :
 s.post enc P f apart fresh handsOn again W args (.bool true) W':=by
 have hW0:=hW;obtain⟨p,q,hA,hV,rfl,hz,hn⟩:=hW0;rw[hv] at hV;obtain⟨rfl,rfl⟩:=trodVars_none hV;have hargs:∀sp:Nat→Bool,(∀x∈p++[],sp x.block=true)→DataW.TrodAll enc P W' 0 sp true f.params.toList args.toList (s.fn H (ds++[])).args p:=fun sp hsp=>by
  rw[hfn.2.1];exact Oy hl hb hps hA (fun x hx=>hsp x (by simp[hx]))
 have hvars:∀sp:Nat→Bool,DataW.TrodVars enc P W' sp s.vars (s.fn H (ds++[])).vars []:=fun sp=>by
  rw[hv,hfn.2.2];exact rfl
 have hres:∀(b:Nat) (sp:Nat→Bool) (hd:Bool),DataW.TrodAll enc P W' b sp hd f.resultTypes.toList ((ba true).resultList f.resultTypes.size) (s.fn H (ds++[])).results []:=fun b sp hd=>by
  rw[hr,hfn.1];exact trodAll_cons_mk (shut_bool hu true) trodAll_mk0
 have hok:∀(j:Nat) (t:ay) (r:ak),f.resultTypes[j]? = some t→((ba true).resultList f.resultTypes.size)[j]? = some r→qn P W' .any 0 t r:=ok_one hr rfl (okWide_bool_mk hu _);have hlt:∀x∈p++[],x.block<W.heap.size:=hW.lt;have hold:∀x∈p++[],(fun b=>decide (b<W.heap.size)) x.block=true:=fun x hx=>by simpa using hlt x hx
 refine⟨ds,[],p++[],[],p,[],hW,hres _ _ _,hargs _ hold,hvars _,Below.frame hb _,fun _=>?_⟩;refine⟨hok,_,_,([]++p)++[],⟨[]++p,[],trodAll_append (hargs _ (fun _ _=>rfl)) (hres _ _ _),hvars _,O,?_,?_⟩,?_⟩
 · intro b off hp
   have h1:MemPlace.cell b off∈p++[]:=by simpa using hp
   rw[Below.frozen hb (p:=⟨b,off,none⟩) (hlt _ h1)];exact hz b off h1
 · intro ha
   simpa using hn ha
 · intro x hp _
   simpa using hp
variable {H:Type} {enc:ay × ak→H} {P:bz} {w:am} {base:Nat} {spare:Nat→Bool} {held:Bool}
theorem atN{zs:List Int}(h:zs.length=4):∃a b c d,zs=[a,b,c,d]:=by
 match zs,h with
 | [a,b,c,d],_=>exact⟨a,b,c,d,rfl⟩
theorem afd{n:Nat}{t e:ay}{fuel:Nat}{cs:List ak}{x:DataW H × List MemPlace}(hu:P.underlying t=some (.slice e))(hi:rH P n e=true)(hc:P.cellsOf e=4)(h:DataW.trod enc P w base spare held fuel t cs=some x) :
 ∃(A:Option Addr) (len cap:Nat) (qs:List Q4),cs=[.slice A len cap]∧len≤cap∧cap≤maxLen∧Aq q4C 4 w A len qs∧∀q∈qs,IQ q:=by
 obtain⟨A,len,cap,rfl,h1,h2,h3,h4⟩:=Xj hu hi hc h;obtain⟨qs,h5,h6⟩:=Df (p:=fun i (q:Q4)=>IQ q∧∃a,A=some a∧mE w (a.add (i*4)) (q4C q)) len (fun i hi=>by
  obtain⟨a,zs,rfl,_,hr,hl,hz⟩:=h4 i hi;obtain⟨x,y,z,u,rfl⟩:=atN hl;exact⟨⟨x,y,z,u⟩,⟨hz _ (by simp),hz _ (by simp),hz _ (by simp),hz _ (by simp)⟩,a,O,hr⟩)
 refine⟨A,len,cap,qs,O,h1,h2,⟨h5,fun i p hp=>(h6 i p hp).2⟩,fun q hq=>?_⟩;obtain⟨i,hi,rfl⟩:=List.getElem_of_mem hq;exact (h6 i _ (ar hi)).1
theorem adm{r:Reach}{b0 n:Nat}{t tI tH tM tT:ay}{fs:Array Field}{v:ak}{d:DataW H}{p:List MemPlace}(hs:P.underlying t=some (.struct fs))(hf:fs.map (fun f=>(f.type,f.offset)) = #[(tI,0),(tI,1),(tH,2),(tM,3)])(ct:P.cellsOf t=4)
 (hI:rH P n tI=true) (cI:P.cellsOf tI=1) (hH:P.underlying tH=some (.slice tI)) (cH:P.cellsOf tH=1) (hM:P.underlying tM=some (.slice tT)) (cM:P.cellsOf tM=1) (hT:rH P n tT=true) (cT:P.cellsOf tT=4)
 (hv:qn P w r b0 t v) (h:DataW.Trod enc P w base spare held t v d p) :
 ∃(kind bits:Int) (HA DA:Option Addr) (HN Hc DN Dc:Nat) (zs:List Int) (qs:List Q4),v=.agg #[.int .i64 kind,.int .i64 bits,.slice HA HN Hc,.slice DA DN Dc] ∧
  Iw kind∧Iw bits∧uG w HA HN zs∧Aq q4C 4 w DA DN qs∧∀q∈qs,IQ q:=by
 obtain⟨fuel,hfu⟩:=h;unfold qn at hv;rw[hs] at hv;obtain⟨cs,rfl,hz,_⟩:=hv;obtain⟨xs,m,_,_,hl,hxl,hx⟩:=DataW.trod_struct hs hfu;have field:∀(i:Nat) (ty:ay) (off:Nat),(#[(tI,0),(tI,1),(tH,2),(tM,3)]:Array (ay × Nat))[i]? = some (ty,off)→∃y,DataW.trod enc P w base spare held m ty ((cs.toList.drop off).take (P.cellsOf ty))=some y:=fun i ty off hi=>by
  rw[←hf,Array.getElem?_map] at hi;cases hq:fs[i]? with
  | none=>rw[hq] at hi;cases hi
  | some f =>
   rw[hq] at hi;simp only[ew,fw,fc] at hi;obtain⟨rfl,rfl⟩:=hi;have hi':i<fs.size:=(dj.1 hq).1;exact⟨xs[i]'(by omega),(hx i f hq).trans (ar (by omega))⟩
 rw[ct] at hz;obtain⟨l⟩:=cs
 match l,hz with
 | [c0,c1,c2,c3],_ =>
  obtain⟨y0,h0⟩:=field 0 tI 0 rfl;obtain⟨y1,h1⟩:=field 1 tI 1 rfl;obtain⟨y2,h2⟩:=field 2 tH 2 rfl;obtain⟨y3,h3⟩:=field 3 tM 3 rfl;simp only[cI,cH,cM] at h0 h1 h2 h3;have e0:=(rI n tI m [c0] _ hI h0).2;have e1:=(rI n tI m [c1] _ hI h1).2;obtain⟨kind,rfl,k0⟩:=e0 c0 (by simp);obtain⟨bits,rfl,k1⟩:=e1 c1 (by simp);obtain⟨HA,HN,Hc,zs,hc2,_,_,_,hZ⟩:=adH (n:=n) (cs:=[c2]) hH hI cI h2;obtain⟨DA,DN,Dc,qs,hc3,_,_,hQ,hIQ⟩:=afd (n:=n) (cs:=[c3]) hM hT cT h3;simp only[List.cons.injEq,and_true] at hc2 hc3;subst hc2;subst hc3;exact⟨kind,bits,HA,DA,HN,Hc,DN,Dc,zs,qs,O,⟨k0⟩,⟨k1⟩,hZ,hQ,hIQ⟩
end Go.Lith
