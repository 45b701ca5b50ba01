/-
 Texts of one claim, laid together: W3, K1, K2, K3, K4, Sfa, K5, Ref1, Ref2, Ref3, Ref4, Ref5, Ref6, Ref7, Wide6, Wide1, Wide2, Wide3, Wide4, Wide5, Back, Wide7, Wide8, Wide9, Wide10, Geo1, Exact.
-/
import Derived.RangeFuncNested
import Derived.RangeFuncBound
import Derived.RangeFuncCalls
import Derived.RangeFuncBox
import Derived.RangeFuncLeaves
import Derived.Shelf.Abstract
import Derived.Shelf.RegionOpen
import Derived.WalkKit
import Derived.OwnWalkIn
import Derived.TacticsInMore
import Derived.LoopNIn
import Derived.LoopIn
import Derived.Maps.AppendAt
import Derived.Test.YtfekpcimgncioaaGreatDoorCS4
open Nat renaming reduceAdd→aa,reduceMul→ad,le_refl→ap,zero_add→aq,le_trans→az,zero_le→cd,lt_succ_self→dq,lt_of_lt_of_le→fi,add_sub_cancel→ft,reduceSub→i_,ne_of_gt→lc
open Int renaming reduceToNat→ab,toNat_natCast→ag,reduceAdd→ai
open Go renaming World→ah,wp_region_lit→am,wpList→ao,MapEntry→bx,wpQuiet→bz,wp_ret→h_,wp_block→ig,wp_skip→il
open List renaming getElem?_eq_getElem→an,length_cons→au,flatMap_append→av,length_append→aw,mem_singleton→ay,take_of_length_le→be,mem_append→bg,length_take→br,length_nil→bt,nil_append→bv,cons_append→b_,map_append→cl,append_assoc→cq,replicate→de,mem_filter→di,getElem?_eq_none→ee,eq_nil_of_length_eq_zero→eh,length_drop→ej,length_filter_le→ep,set_cons_succ→eu,append_nil→e_,size_toArray→fh,take_length→fy,set_cons_zero→gi,getD_cons_zero→gp,getD_cons_succ→gq,append_toArray→gr,push_toArray→g_,eq_of_mem_replicate→ir,take_zero→ju,drop_zero→mj
open Go.Value renaming bool→bf,oneCell'→mn
open Go.Exit renaming inBlock→cj
open Option renaming getD_some→cv
open Option.some renaming inj→fw
open Array renaming replicate_succ→gd,replicate_zero→gg
open Prod renaming snd→nc
open Go.Oper renaming semAt_some→ni
set_option maxHeartbeats 8000000
set_option linter.unusedSimpArgs false
set_option linter.unusedVariables false
set_option linter.unusedSectionVars false
namespace Go.Proofs.YtfekpcimgncioaaGreatDoor
open Go.Proofs.Tryz
open Go.RowKit Go.Lith
abbrev eK:=@underlying233
abbrev Fi:=@underlying284
abbrev mK:=@underlying285
set_option maxRecDepth 100000
attribute [local irreducible] ao bz eZ bE bX Code.wp
attribute [local congr] nO fF fG fH fI fJ jH fK fL fM fN fO fP fQ fR fS fT fU dX dY fV fW fY fZ gA jJ cO cP cA cN fX jI dZ eA eB gB gC jK
def pE(n:Nat):Value:=.int .i64 (n:Int)
theorem Fj{K V:Type}[DecidableEq K](xs:List (K × V))(k:K)(v:V):yS [] (xs++[(k,v)])=eP (yS [] xs) k v:=aed [] xs [(k,v)]
theorem qU{K:Type}[DecidableEq K](ks:List K)(k:K):sV [] (ks++[k])=eP (sV [] ks) k ((bU (sV [] ks) k).getD 0+1):=aef [] ks [k]
theorem Vo{K:Type}[DecidableEq K](ks:List K)(k:K):(bU (sV [] ks) k).getD 0=yT ks k:=by rw[Uv];simp[bU]
theorem Hz{K:Type}[DecidableEq K](ks:List K)(k:K):(bU (sV [] ks) k).getD 0≤ks.length:=by rw[Vo];exact ep _ _
theorem alV{nx:P3→Option P3}{s a y:P3}{n z:Nat}(h:¬a=s)(hb:nx a=some y):wV nx s (n+1) a z=wV nx s n y (z+1):=by rw[wV,if_neg h,hb]
theorem ahN{nx:P3→Option P3}{s a:P3}{n z:Nat}(hb:nx a=none):wV nx s n a z=(a,z):=by
 cases n with
 | zero=>rfl
 | succ n=>rw[wV,hb];split <;> rfl
theorem alW{nx:P3→Option P3}{s a:P3}{M z:Nat}(hz:z≤M+1)(h:a=s∨¬z≤M):wV nx s (M+1-z) a z=(a,z):=by
 rcases h with rfl | h
 · exact aeh
 · rw[show M+1-z=0 by omega];rfl
theorem alX{x y:P3}:(¬x.x=y.x∨¬x.y=y.y∨¬x.z=y.z)↔¬x=y:=by
 rw[←uJ];exact⟨fun h k=>h.elim (fun h=>h k.1) fun h=>h.elim (fun h=>h k.2.1) fun h=>h k.2.2,fun h=>by
  rcases Classical.em (x.x=y.x) with h1 | h1
  ·
   rcases Classical.em (x.y=y.y) with h2 | h2
   · exact .inr (.inr fun h3=>h ⟨h1,h2,h3⟩)
   · exact .inr (.inl h2)
  · exact .inl h1⟩
theorem ae7{a s:P3}{z M:Nat}(h:(decide (¬(a.x=s.x∧a.y=s.y∧a.z=s.z))&&decide ((z:Int)≤(M:Int)))=false):a=s∨¬z≤M:=by
 rcases Classical.em (a=s) with k | k
 · exact .inl k
 ·
  refine .inr fun k4=>?_;rw[decide_eq_true (mt uJ.1 k),decide_eq_true (Int.ofNat_le.2 k4)] at h;cases h
theorem ae8{ts:List T3}{es:Array bx}{sn:Array Nat}{dn:List (E3 × P3)}(h:lY ed pt (yS [] (lK ts)) es sn dn [])(hnd:(bA ts).Nodup)(hno:∀y∈dn,¬Rl ts y.1)(e:E3):¬Rl ts e:=fun he=>by
 obtain⟨x,hx,_⟩:=id he;have h1:bU (yS [] (lK ts)) e=some x:=by rw[←hx];exact Cz hnd e.1 e.2
 exact hno _ (h.done.mem_iff.2 (wS h1)) he
theorem Pd(ts:List T3):(dL ts).length=ts.length*3:=qL ts
theorem Zm{ts:List T3}{N cap:Nat}{A:Option Addr}(w:ah)(hT:bK w A N ts)(hN:N≤10000000)(hnd:(bA ts).Nodup):dF prog 166 [.slice A N cap] w (fun v _=>v=.bool ((dJ ts).any (Jo ts))):=by
 refine⟨ajQ,?_⟩;have m:=Mem.refl w
 go_enter func166,ntmps166
 refine eS 6 [0] m ?_;simp only[↓aD];intro u m;refine kH m ?_;clear m;intro q8 u m;have hD8:=bB.nil (K:=E3) (V:=P3) ed pt;refine aP 4 [0] m ?_;simp only[↓aD];intro u m;refine kH m ?_;clear m;intro q9 u m;have hD9:=bB.nil (K:=P3) (V:=Nat) pt pE;refine aP 10 [0] m ?_;simp only[↓aD,iS];intro u m;refine bW [18] [6,7,8,19,20,21,22,23,24,25,26,27,28,29,30,31,32,33,34,35,36,37,38,39,40,41,42,43,44,45,46,47] (fun n vs wl=>∃(k:Nat) (es8 es9:Array bx) (c8 c9:Nat),vs=[.int .i64 (k:Int)]∧Mem w wl [mI q9 es9 c9,mI q8 es8 c8]∧(bB ed pt (yS [] (lK (ts.take k))) es8 c8)∧(bB pt pE (sV [] (dL (ts.take k))) es9 c9)∧(k≤N)∧(n=N-k)) ?_ ?_
 ·
  apply Exists.intro;simp only[zQ,zR,zD,zE];exact⟨0,_,_,_,_,rfl,m,hD8,hD9,cd _,rfl⟩
 ·
  intro n vs wr hI u K1 hK1;clear m;obtain⟨k,es8,es9,c8,c9,rfl,m,hD8,hD9,hk,hn⟩:=hI;simp only[zu,zF,zG];refine aS 5 [0,0] m ?_;simp only[↓aD];intro u m;refine bC rfl (fun hc1=>?_) (fun hc1=>?_)
  ·
   obtain⟨t,ht,_,a,rfl,hrow⟩:=hT.get (i:=k) (by omega);have hcl:=Pd (ts.take k);rw[br] at hcl;refine aS 5 [0] m ?_;simp only[↓aD];intro u m;refine aB (aF bT aN rfl rfl (by omega) (by omega) (cI (ag _))) ?_;simp only[zz];refine aO rfl ((hrow.ext m.ext).lies cF aN) ?_;simp only[zz];refine aP 8 [0,0] m ?_;simp only[↓aD,mU,gZ,aa];intro g3;intro u m;refine cR 15 [4,1,0] m ?_;simp only[↓aD];refine⟨by omega,?_⟩;intro u m;refine aB (qG rfl rfl) (aP 5 [0,0] m ?_);simp only[↓aD,eU,aR,aa];intro g4;intro u m;refine cL m 13 aC (by kernel_rfl) ?_;simp only[zy];refine eC 4 [0] ?_;simp only[↓aD,aR,ai];refine⟨by omega,?_⟩;refine aH (cU (m:=1) (n:=3) (r:=1) rfl rfl (by decide) (by decide)) (eC 5 [1] ?_);simp only[↓aD,dB,aR,Fc,ab,ad,aa,ai];refine⟨by omega,?_⟩;refine aH (cU (m:=2) (n:=3) (r:=2) rfl rfl (by decide) (by decide)) (eC 2 [1] ?_);simp only[↓aD,dB,aR,ab,ad,aa];refine⟨by omega,?_⟩;refine aY ?_;clear m;intro u m;refine lE (ek:=ed) (en:=pt) (a:=(t.a,t.b)) (v:=t.c) m 3 rfl Fi xM rfl rfl rfl hD8 ?_;clear m;intro es8 c8 u m hD';clear hD8;have hD8:=hD';clear hD';simp only[zF,zG] at m;rw[←Fj] at hD8;refine aL (gc ?_);refine iM m 2 [] [40,41,42,43,44,45] (fun vs i=>∃(es:Array bx) (c:Nat),vs=[]∧i=mI q9 es c∧(bB pt pE (sV [] (((dL (ts.take k))++[t.a]))) es c)) ?_ ?_
   ·
    intro K2 hK2;refine Nv m [true,true,false,true] (.take 0 (.take 1 (.two 2 (.take 3 (.one 4 (.take 5 (.one 6 .nil)))) 4 (.take 5 (.one 2 (.take 3 (.one 6 .nil))))))) aC (by kernel_rfl) (bQ (fun _ _ _ _ _ h=>h)) ?_;clear m;intro u m;have hb:=Hz (dL (ts.take k)) t.a;try simp only[aw,au,bt] at hb
    refine dO (by simp only[zw];rfl) (aU aI (bM (dO (by simp only[zw];rfl) ?_)));simp only[zz];refine eN rfl (fun u m=>((m.b 0 rfl).full aG aA)) ?_;simp only[zz];refine bM ?_;refine Ty (by simp only[zw];rfl) (by simp only[zw];rfl) ?_ ?_
    ·
     refine eQ (dK (ek:=pt) (en:=pE) (k:=t.a) (v0:=0) mK kD fB rfl rfl (m.p 2 rfl) hD9) ?_;simp only[zz];refine aL (⟨m.sel [true,true,false,true],?_⟩);refine dO (by simp only[zw];rfl) (aU (eL rfl rfl (bF (by omega) (by omega))) (bM (lJ (by simp only[zw];rfl) ?_)));simp only[zz];refine uW (ek:=pt) (en:=pE) (a:=t.a) (v0:=0) m 2 rfl mK kD fB rfl rfl hD9 ?_;clear m;intro es9 c9 bs u m hD' hS;simp only[zF,zG] at m;refine aL (⟨m.sel [true,true,false,true],?_⟩);refine dO (by simp only[zw];rfl) (aU (eE rfl rfl) (bM (lJ (by simp only[zw];rfl) ?_)));simp only[zz];refine nR (ek:=pt) (en:=pE) (a:=t.a) (v:=(bU (sV [] (dL (ts.take k))) t.a).getD 0+1) m 2 rfl rfl rfl rfl hS ?_;clear m hD' hS;intro es9 u m hD';clear hD9;have hD9:=hD';clear hD';simp only[zF,zG] at m;rw[←qU] at hD9;refine aL (⟨m.sel [true,true,false,true],?_⟩);refine Ab (gk ?_);refine hK2 _ _ _ ?_ m ?_
     · simp only[zz,zv]
     ·
      simp only[zQ,zR,zD,zE];exact⟨_,_,trivial,rfl,hD9⟩
    ·
     refine uW (ek:=pt) (en:=pE) (a:=t.a) (v0:=0) m 2 rfl mK kD fB rfl rfl hD9 ?_;clear m;intro es9 c9 bs u m hD' hS;simp only[zF,zG] at m;refine aL (⟨m.sel [true,true,false,true],?_⟩);refine dO (by simp only[zw];rfl) (aU (eE rfl rfl) (bM (lJ (by simp only[zw];rfl) ?_)));simp only[zz];refine eQ (dK (ek:=pt) (en:=pE) (k:=t.a) (v0:=0) mK kD fB rfl rfl (m.p 2 rfl) hD') ?_;simp only[zz];rw[kL,if_pos rfl,cv];refine aL (⟨m.sel [true,true,false,true],?_⟩);refine dO (by simp only[zw];rfl) (aU (eL rfl rfl (bF (by omega) (by omega))) (bM (lJ (by simp only[zw];rfl) ?_)));simp only[zz];refine nR (ek:=pt) (en:=pE) (a:=t.a) (v:=(bU (sV [] (dL (ts.take k))) t.a).getD 0+1) m 2 rfl rfl rfl rfl hS ?_;clear m hD' hS;intro es9 u m hD';clear hD9;have hD9:=hD';clear hD';simp only[zF,zG] at m;rw[←qU] at hD9;refine aL (⟨m.sel [true,true,false,true],?_⟩);refine Ab (gk ?_);refine hK2 _ _ _ ?_ m ?_
     · simp only[zz,zv]
     ·
      simp only[zQ,zR,zD,zE];exact⟨_,_,trivial,rfl,hD9⟩
   ·
    intro vs i wr m hI u;obtain⟨es9,c9,rfl,rfl,hD9⟩:=hI;simp only[zF,zG] at m;simp only[zu,zF,zG];refine cR 18 [1,0] m ?_;simp only[↓aD,ai];refine⟨by omega,?_⟩;intro u m;refine aB (qH rfl rfl) (aP 5 [0,0] m ?_);simp only[↓aD,eU,aR,aa];intro g5;intro u m;refine cL m 13 aC (by kernel_rfl) ?_;simp only[zy];refine eC 4 [0] ?_;simp only[↓aD,aR,ai];refine⟨by omega,?_⟩;refine aH (cU (m:=2) (n:=3) (r:=2) rfl rfl (by decide) (by decide)) (eC 5 [2] ?_);simp only[↓aD,dB,aR,Fc,ab,ad,aa,ai];refine⟨by omega,?_⟩;refine aH (cU (m:=3) (n:=3) (r:=0) rfl rfl (by decide) (by decide)) (eC 2 [2] ?_);simp only[↓aD,dB,aR,ab,ad,aa];refine⟨by omega,?_⟩;refine aY ?_;clear m;intro u m;refine lE (ek:=ed) (en:=pt) (a:=(t.b,t.c)) (v:=t.a) m 4 rfl Fi xM rfl rfl rfl hD8 ?_;clear m;intro es8 c8 u m hD';clear hD8;have hD8:=hD';clear hD';simp only[zF,zG] at m;rw[←Fj] at hD8;refine aL (gc ?_);refine iM m 3 [] [40,41,42,43,44,45] (fun vs i=>∃(es:Array bx) (c:Nat),vs=[]∧i=mI q9 es c∧(bB pt pE (sV [] (((((dL (ts.take k))++[t.a]))++[t.b]))) es c)) ?_ ?_
    ·
     intro K3 hK3;refine Nv m [true,true,true,false,true] (.take 0 (.take 1 (.two 2 (.take 3 (.one 4 (.take 5 (.one 6 .nil)))) 4 (.take 5 (.one 2 (.take 3 (.one 6 .nil))))))) aC (by kernel_rfl) (bQ (fun _ _ _ _ _ h=>h)) ?_;clear m;intro u m;have hb:=Hz (((dL (ts.take k))++[t.a])) t.b;try simp only[aw,au,bt] at hb
     refine dO (by simp only[zw];rfl) (aU aI (bM (dO (by simp only[zw];rfl) ?_)));simp only[zz];refine eN rfl (fun u m=>((m.b 0 rfl).full aG aA)) ?_;simp only[zz];refine bM ?_;refine Ty (by simp only[zw];rfl) (by simp only[zw];rfl) ?_ ?_
     ·
      refine eQ (dK (ek:=pt) (en:=pE) (k:=t.b) (v0:=0) mK kD fB rfl rfl (m.p 3 rfl) hD9) ?_;simp only[zz];refine aL (⟨m.sel [true,true,true,false,true],?_⟩);refine dO (by simp only[zw];rfl) (aU (eL rfl rfl (bF (by omega) (by omega))) (bM (lJ (by simp only[zw];rfl) ?_)));simp only[zz];refine uW (ek:=pt) (en:=pE) (a:=t.b) (v0:=0) m 3 rfl mK kD fB rfl rfl hD9 ?_;clear m;intro es9 c9 bs u m hD' hS;simp only[zF,zG] at m;refine aL (⟨m.sel [true,true,true,false,true],?_⟩);refine dO (by simp only[zw];rfl) (aU (eE rfl rfl) (bM (lJ (by simp only[zw];rfl) ?_)));simp only[zz];refine nR (ek:=pt) (en:=pE) (a:=t.b) (v:=(bU (sV [] (((dL (ts.take k))++[t.a]))) t.b).getD 0+1) m 3 rfl rfl rfl rfl hS ?_;clear m hD' hS;intro es9 u m hD';clear hD9;have hD9:=hD';clear hD';simp only[zF,zG] at m;rw[←qU] at hD9;refine aL (⟨m.sel [true,true,true,false,true],?_⟩);refine Ab (gk ?_);refine hK3 _ _ _ ?_ m ?_
      · simp only[zz,zv]
      ·
       simp only[zQ,zR,zD,zE];exact⟨_,_,trivial,rfl,hD9⟩
     ·
      refine uW (ek:=pt) (en:=pE) (a:=t.b) (v0:=0) m 3 rfl mK kD fB rfl rfl hD9 ?_;clear m;intro es9 c9 bs u m hD' hS;simp only[zF,zG] at m;refine aL (⟨m.sel [true,true,true,false,true],?_⟩);refine dO (by simp only[zw];rfl) (aU (eE rfl rfl) (bM (lJ (by simp only[zw];rfl) ?_)));simp only[zz];refine eQ (dK (ek:=pt) (en:=pE) (k:=t.b) (v0:=0) mK kD fB rfl rfl (m.p 3 rfl) hD') ?_;simp only[zz];rw[kL,if_pos rfl,cv];refine aL (⟨m.sel [true,true,true,false,true],?_⟩);refine dO (by simp only[zw];rfl) (aU (eL rfl rfl (bF (by omega) (by omega))) (bM (lJ (by simp only[zw];rfl) ?_)));simp only[zz];refine nR (ek:=pt) (en:=pE) (a:=t.b) (v:=(bU (sV [] (((dL (ts.take k))++[t.a]))) t.b).getD 0+1) m 3 rfl rfl rfl rfl hS ?_;clear m hD' hS;intro es9 u m hD';clear hD9;have hD9:=hD';clear hD';simp only[zF,zG] at m;rw[←qU] at hD9;refine aL (⟨m.sel [true,true,true,false,true],?_⟩);refine Ab (gk ?_);refine hK3 _ _ _ ?_ m ?_
      · simp only[zz,zv]
      ·
       simp only[zQ,zR,zD,zE];exact⟨_,_,trivial,rfl,hD9⟩
    ·
     intro vs i wr m hI u;obtain⟨es9,c9,rfl,rfl,hD9⟩:=hI;simp only[zF,zG] at m;simp only[zu,zF,zG];refine cR 18 [1,0] m ?_;simp only[↓aD,ai];refine⟨by omega,?_⟩;intro u m;refine aB (qI rfl rfl) (aP 5 [0,0] m ?_);simp only[↓aD,eU,aR,aa];intro g6;intro u m;refine cL m 13 aC (by kernel_rfl) ?_;simp only[zy];refine eC 4 [0] ?_;simp only[↓aD,aR,ai];refine⟨by omega,?_⟩;refine aH (cU (m:=3) (n:=3) (r:=0) rfl rfl (by decide) (by decide)) (eC 5 [3] ?_);simp only[↓aD,dB,aR,Fc,ab,ad,aa,ai];refine⟨by omega,?_⟩;refine aH (cU (m:=4) (n:=3) (r:=1) rfl rfl (by decide) (by decide)) (eC 2 [3] ?_);simp only[↓aD,dB,aR,ab,ad,aa];refine⟨by omega,?_⟩;refine aY ?_;clear m;intro u m;refine lE (ek:=ed) (en:=pt) (a:=(t.c,t.a)) (v:=t.b) m 5 rfl Fi xM rfl rfl rfl hD8 ?_;clear m;intro es8 c8 u m hD';clear hD8;have hD8:=hD';clear hD';simp only[zF,zG] at m;rw[←Fj] at hD8;refine aL (gc ?_);refine iM m 4 [] [40,41,42,43,44,45] (fun vs i=>∃(es:Array bx) (c:Nat),vs=[]∧i=mI q9 es c∧(bB pt pE (sV [] (((((((dL (ts.take k))++[t.a]))++[t.b]))++[t.c]))) es c)) ?_ ?_
     ·
      intro K4 hK4;refine Nv m [true,true,true,true,false,true] (.take 0 (.take 1 (.two 2 (.take 3 (.one 4 (.take 5 (.one 6 .nil)))) 4 (.take 5 (.one 2 (.take 3 (.one 6 .nil))))))) aC (by kernel_rfl) (bQ (fun _ _ _ _ _ h=>h)) ?_;clear m;intro u m;have hb:=Hz (((((dL (ts.take k))++[t.a]))++[t.b])) t.c;try simp only[aw,au,bt] at hb
      refine dO (by simp only[zw];rfl) (aU aI (bM (dO (by simp only[zw];rfl) ?_)));simp only[zz];refine eN rfl (fun u m=>((m.b 0 rfl).full aG aA)) ?_;simp only[zz];refine bM ?_;refine Ty (by simp only[zw];rfl) (by simp only[zw];rfl) ?_ ?_
      ·
       refine eQ (dK (ek:=pt) (en:=pE) (k:=t.c) (v0:=0) mK kD fB rfl rfl (m.p 4 rfl) hD9) ?_;simp only[zz];refine aL (⟨m.sel [true,true,true,true,false,true],?_⟩);refine dO (by simp only[zw];rfl) (aU (eL rfl rfl (bF (by omega) (by omega))) (bM (lJ (by simp only[zw];rfl) ?_)));simp only[zz];refine uW (ek:=pt) (en:=pE) (a:=t.c) (v0:=0) m 4 rfl mK kD fB rfl rfl hD9 ?_;clear m;intro es9 c9 bs u m hD' hS;simp only[zF,zG] at m;refine aL (⟨m.sel [true,true,true,true,false,true],?_⟩);refine dO (by simp only[zw];rfl) (aU (eE rfl rfl) (bM (lJ (by simp only[zw];rfl) ?_)));simp only[zz];refine nR (ek:=pt) (en:=pE) (a:=t.c) (v:=(bU (sV [] (((((dL (ts.take k))++[t.a]))++[t.b]))) t.c).getD 0+1) m 4 rfl rfl rfl rfl hS ?_;clear m hD' hS;intro es9 u m hD';clear hD9;have hD9:=hD';clear hD';simp only[zF,zG] at m;rw[←qU] at hD9;refine aL (⟨m.sel [true,true,true,true,false,true],?_⟩);refine Ab (gk ?_);refine hK4 _ _ _ ?_ m ?_
       · simp only[zz,zv]
       ·
        simp only[zQ,zR,zD,zE];exact⟨_,_,trivial,rfl,hD9⟩
      ·
       refine uW (ek:=pt) (en:=pE) (a:=t.c) (v0:=0) m 4 rfl mK kD fB rfl rfl hD9 ?_;clear m;intro es9 c9 bs u m hD' hS;simp only[zF,zG] at m;refine aL (⟨m.sel [true,true,true,true,false,true],?_⟩);refine dO (by simp only[zw];rfl) (aU (eE rfl rfl) (bM (lJ (by simp only[zw];rfl) ?_)));simp only[zz];refine eQ (dK (ek:=pt) (en:=pE) (k:=t.c) (v0:=0) mK kD fB rfl rfl (m.p 4 rfl) hD') ?_;simp only[zz];rw[kL,if_pos rfl,cv];refine aL (⟨m.sel [true,true,true,true,false,true],?_⟩);refine dO (by simp only[zw];rfl) (aU (eL rfl rfl (bF (by omega) (by omega))) (bM (lJ (by simp only[zw];rfl) ?_)));simp only[zz];refine nR (ek:=pt) (en:=pE) (a:=t.c) (v:=(bU (sV [] (((((dL (ts.take k))++[t.a]))++[t.b]))) t.c).getD 0+1) m 4 rfl rfl rfl rfl hS ?_;clear m hD' hS;intro es9 u m hD';clear hD9;have hD9:=hD';clear hD';simp only[zF,zG] at m;rw[←qU] at hD9;refine aL (⟨m.sel [true,true,true,true,false,true],?_⟩);refine Ab (gk ?_);refine hK4 _ _ _ ?_ m ?_
       · simp only[zz,zv]
       ·
        simp only[zQ,zR,zD,zE];exact⟨_,_,trivial,rfl,hD9⟩
     ·
      intro vs i wr m hI u;obtain⟨es9,c9,rfl,rfl,hD9⟩:=hI;simp only[zF,zG] at m;simp only[zu,zF,zG];refine cR 18 [2,0] m ?_;simp only[↓aD,ai];refine⟨by omega,?_⟩;intro u m;refine hK1 (N-(k+1)) _ _ ?_ ?_ ?_
      · omega
      · simp only[zz,zv]
      ·
       simp only[zQ,zR,zD,zE];exact⟨k+1,_,_,_,_,rfl,(m.sel [false,false,false,false,true,true]),by rw[Yo ht];simpa[cq] using hD8,by rw[Ka ht];simpa[cq] using hD9,by omega,rfl⟩
  ·
   have hkN:k=N:=by omega
   rw[hkN,show ts.take N=ts from be (by rw[hT.len];exact ap _)] at hD8 hD9;refine aS 5 [0] m ?_;simp only[↓aD];intro u m;refine sU m Fi rfl (m.p 1 rfl) ?_;clear m;intro r1 u m;refine aP 2 [0] m ?_;simp only[↓aD];intro u m;refine bW [] [2,9,10,11,12,13,50,51,52,53,54,55,56,57,58,59,60,61,62,63,64,65,66,67,68,69,70,71,72,73,74,75,76,77,78,79,80,81,82,83,84,85,86,87,88,89,90,91,92,93,94] (fun n vs wl=>∃(dn rs:List (E3 × P3)) (sn:Array Nat),vs=[]∧Mem w wl [iI r1 q8 c8 sn,mI q9 es9 c9,mI q8 es8 c8]∧(lY ed pt (yS [] (lK ts)) es8 sn dn rs)∧(∀y∈dn,¬Rl ts y.1)∧(n=rs.length)) ?_ ?_
   ·
    apply Exists.intro;simp only[zQ,zR,zD,zE];exact⟨[],_,#[],trivial,m,lY.start hD8,fun _ h=>(by cases h),rfl⟩
   ·
    intro n vs wr hI u K5 hK5;clear m;obtain⟨dn,rs,sn,rfl,m,hT1,hno,hn⟩:=hI;simp only[zu,zF,zG];refine aS 2 [0] m ?_;simp only[↓aD];intro u m;refine Gj m 0 rfl rfl (m.p 2 rfl) hD8 hT1 ?_;clear m;intro bb kk vv sn u m hN;simp only[zF,zG] at m;refine aB (nN rfl) (aP 2 [0] m ?_);simp only[↓aD];intro u m;refine dQ rfl (fun hc3=>?_) (fun hc3=>?_)
    ·
     obtain⟨kp,kb,rs2,hp,hT2⟩:=Cx hc3 hN;obtain⟨x,hx⟩:∃x,bU (yS [] (lK ts)) kp=some x:=by
      cases h:bU (yS [] (lK ts)) kp with
      | some x=>exact⟨x,rfl⟩
      | none =>
       refine absurd ?_ (mP.1 h);have h1:=hT2.1.mem_iff (a:=(kp,kb));exact List.mem_map.2 ⟨_,h1.1 (by simp),rfl⟩
     have hkx:bP ts kp.1 kp.2=some x:=by rw[←Cz hnd];exact hx
     obtain⟨M,hM⟩:∃M,M=yT (dL ts) kp.1:=⟨_,rfl⟩
     have hmM:(bU (sV [] (dL ts)) kp.1).getD 0=M:=by rw[Vo,hM]
     have hMl:M≤30000000:=by have h1:=Hz (dL ts) kp.1;rw[hmM,Pd,hT.len] at h1;omega
     refine aS 4 [0] m ?_;simp only[↓aD];intro u m;refine eQ (qJ rfl (m.r 0 rfl) (m.p 2 rfl) hD8 hT2) ?_;simp only[zz];refine aP 12 [0,0,0] m ?_;simp only[↓aD,xH,rV,aa];intro g4;intro u m;refine eQ (dK (ek:=ed) (en:=pt) (k:=kp) (v0:=⟨0,0,0⟩) Fi gN xM rfl rfl (m.p 3 rfl) hD8) ?_;simp only[zz];refine aP 3 [0] m ?_;simp only[↓aD,eU,aR,aa];intro g5;intro u m;rw[hx] at m;simp only[cv] at m;refine cR 2 [0] m ?_;simp only[↓aD];intro u m;refine bW [10] [12,13,57,58,59,60,61,62,63,64,65,66,67,68,69,70,71,72,73,74,75,76,77,78,79,80,81,82] (fun n vs wl=>∃(z:Nat) (a:P3),vs=[.int .i64 (z:Int)]∧Mem w wl [bI g5 (oN a) 30,bI g4 (cM kp) 215,iI r1 q8 c8 sn,mI q9 es9 c9,mI q8 es8 c8]∧(wV (bP ts kp.1) kp.2 M x 1=wV (bP ts kp.1) kp.2 (M+1-z) a z)∧(1≤z)∧(z≤M+1)∧(n=M+1-z)) ?_ ?_
     ·
      apply Exists.intro;simp only[zQ,zR,zD,zE];exact⟨1,x,rfl,m,rfl,ap _,by omega,rfl⟩
     ·
      intro n vs wr hI u K6 hK6;clear m;obtain⟨z,a,rfl,m,hrun,hz1,hz2,hn4⟩:=hI;simp only[zu,zF,zG];refine aS 6 [0,1,0] m ?_;simp only[↓aD,aR,xI,aa];intro u m;refine aB (gL rfl rfl) (aP 1 [0] m ?_);simp only[↓aD];intro u m;refine kB rfl (fun hb=>aI) (kB rfl (fun hb=>aI) (kB rfl (fun hb=>aZ (c:=2) rJ rfl aA rfl rfl) ?_));simp only[zz];refine iG rfl (fun hb=>aW (bD hb rfl) ((m.b 1 rfl).lies aG aA rfl rfl)) ?_;simp only[zz,zy,aq,aa,ad,ab];refine iG rfl (fun hb=>dK (ek:=pt) (en:=pE) (k:=kp.1) (v0:=0) mK kD fB (bD hb rfl) (bD hb rfl) (m.p 3 rfl) hD9) ?_;simp only[zz];refine kB rfl (fun hb=>aat (bD hb rfl) (bD hb rfl)) (aB (eO rfl rfl rfl) ?_);refine aP 1 [0] m ?_;simp only[↓aD];intro u m;refine dQ rfl (fun hc4=>?_) (fun hc4=>?_)
      ·
       have hs:¬a=kp.2∧z≤M:=by rw[hmM] at hc4;simpa[alX] using hc4
       refine aS 9 [1,0,0] m ?_;simp only[↓aD,Ks,aR,Fc,aa];intro u m;refine eQ (Oi (ek:=ed) (en:=pt) (k:=(kp.1,a)) (v0:=⟨0,0,0⟩) Fi gN xM rfl rfl (m.p 4 rfl) hD8) ?_;simp only[zz];refine aP 13 [0,0] m ?_;simp only[↓aD,eU,aR,aa];intro g6;intro u m;refine dQ rfl (fun hc5=>?_) (fun hc5=>?_)
       ·
        have hyn:bP ts kp.1 a=none:=by rw[←Cz hnd];simpa using hc5
        have hfin:=hrun.trans (ahN hyn);refine aS 6 [1,2,0] m ?_;simp only[↓aD,aR,xI,aa];intro u m;refine aB (cG rfl rfl) (aP 1 [0] m ?_);simp only[↓aD];intro u m;refine kB rfl (fun hb=>aI) (kB rfl (fun hb=>aI) (kB rfl (fun hb=>aZ (c:=2) rJ rfl aA rfl rfl) ?_));simp only[zz];refine iG rfl (fun hb=>aW (bD hb rfl) ((m.b 2 rfl).lies aG aA rfl rfl)) ?_;simp only[zz,zy,aq,aa,ad,ab];refine iG rfl (fun hb=>dK (ek:=pt) (en:=pE) (k:=kp.1) (v0:=0) mK kD fB (bD hb rfl) (bD hb rfl) (m.p 4 rfl) hD9) ?_;simp only[zz];refine kB rfl (fun hb=>zX (bD hb rfl) (bD hb rfl)) (aB (eO rfl rfl rfl) ?_);refine aP 1 [0] m ?_;simp only[↓aD];intro u m;refine dQ rfl (fun hc6=>?_) (fun hc6=>?_)
        ·
         have hs:a=kp.2∧z<M:=by rw[hmM] at hc6;simpa[←uJ] using hc6
         refine aS 5 [] m ?_;simp only[↓aD];intro u m;refine aQ rfl rfl ?_;try simp only[zD,zE]
         exact⟨_,rfl,m.ext,by have hp:Rl ts kp:=⟨x,hkx,by rw[ft,←hM,hfin];exact hs.1,by rw[ft,←hM,hfin];exact hs.2⟩;rw[pinned.2 ⟨kp,hp⟩]⟩
        ·
         have hs:¬(a=kp.2∧z<M):=by rw[hmM] at hc6;simpa[←uJ] using hc6
         have hno2:∀y∈dn++[(kp,kb)],¬Rl ts y.1:=fun y hy=>by
          rcases bg.1 hy with hy | hy
          · exact hno y hy
          ·
           obtain rfl:=ay.1 hy;rintro⟨x2,h1,h2,h3⟩;obtain rfl:x=x2:=fw (hkx.symm.trans h1);rw[ft,←hM,hfin] at h2 h3;exact hs ⟨h2,h3⟩
         refine lF 2 [0] m ?_;simp only[↓aD];rintro u m rfl;refine hK5 rs2.length _ _ ?_ ?_ ?_
         · rw[hn,hp.length_eq];exact dq _
         · simp only[zz,zv]
         ·
          simp only[zQ,zR,zD,zE];exact⟨dn++[(kp,kb)],rs2,_,trivial,(m.sel [false,false,false,true,true,true]),hT2,hno2,rfl⟩
       ·
        obtain⟨y,hy⟩:∃y,bU (yS [] (lK ts)) (kp.1,a)=some y:=by
         cases h:bU (yS [] (lK ts)) (kp.1,a) with
         | some y=>exact⟨y,rfl⟩
         | none=>rw[h] at hc5;cases hc5
        have hya:bP ts kp.1 a=some y:=by rw[←Cz hnd];exact hy
        rw[hy] at m;simp only[cv] at m;refine aS 12 [0,1,0] m ?_;simp only[↓aD,aR,aa];refine⟨by omega,?_⟩;intro u m;refine hK6 (M+1-(z+1)) _ _ ?_ ?_ ?_
        · omega
        · simp only[zz,zv]
        ·
         simp only[zQ,zR,zD,zE];exact⟨z+1,y,rfl,(m.sel [false,true,true,true,true,true]),by rw[hrun,show M+1-z=(M+1-(z+1))+1 by omega,alV hs.1 hya],by omega,by omega,rfl⟩
      ·
       have hs0:a=kp.2∨¬z≤M:=by rw[hmM] at hc4;exact ae7 hc4
       have hfin:=hrun.trans (alW hz2 hs0);refine aS 6 [0,1,0] m ?_;simp only[↓aD,aR,xI,aa];intro u m;refine aB (cG rfl rfl) (aP 1 [0] m ?_);simp only[↓aD];intro u m;refine kB rfl (fun hb=>aI) (kB rfl (fun hb=>aI) (kB rfl (fun hb=>aZ (c:=2) rJ rfl aA rfl rfl) ?_));simp only[zz];refine iG rfl (fun hb=>aW (bD hb rfl) ((m.b 1 rfl).lies aG aA rfl rfl)) ?_;simp only[zz,zy,aq,aa,ad,ab];refine iG rfl (fun hb=>dK (ek:=pt) (en:=pE) (k:=kp.1) (v0:=0) mK kD fB (bD hb rfl) (bD hb rfl) (m.p 3 rfl) hD9) ?_;simp only[zz];refine kB rfl (fun hb=>zX (bD hb rfl) (bD hb rfl)) (aB (eO rfl rfl rfl) ?_);refine aP 1 [0] m ?_;simp only[↓aD];intro u m;refine dQ rfl (fun hc6=>?_) (fun hc6=>?_)
       ·
        have hs:a=kp.2∧z<M:=by rw[hmM] at hc6;simpa[←uJ] using hc6
        refine aS 5 [] m ?_;simp only[↓aD];intro u m;refine aQ rfl rfl ?_;try simp only[zD,zE]
        exact⟨_,rfl,m.ext,by have hp:Rl ts kp:=⟨x,hkx,by rw[ft,←hM,hfin];exact hs.1,by rw[ft,←hM,hfin];exact hs.2⟩;rw[pinned.2 ⟨kp,hp⟩]⟩
       ·
        have hs:¬(a=kp.2∧z<M):=by rw[hmM] at hc6;simpa[←uJ] using hc6
        have hno2:∀y∈dn++[(kp,kb)],¬Rl ts y.1:=fun y hy=>by
         rcases bg.1 hy with hy | hy
         · exact hno y hy
         ·
          obtain rfl:=ay.1 hy;rintro⟨x2,h1,h2,h3⟩;obtain rfl:x=x2:=fw (hkx.symm.trans h1);rw[ft,←hM,hfin] at h2 h3;exact hs ⟨h2,h3⟩
        refine lF 2 [0] m ?_;simp only[↓aD];rintro u m rfl;refine hK5 rs2.length _ _ ?_ ?_ ?_
        · rw[hn,hp.length_eq];exact dq _
        · simp only[zz,zv]
        ·
         simp only[zQ,zR,zD,zE];exact⟨dn++[(kp,kb)],rs2,_,trivial,(m.sel [false,false,true,true,true]),hT2,hno2,rfl⟩
    ·
     obtain rfl:=Cw hc3 hN;refine lF 6 [] m ?_;simp only[↓aD];rintro u m rfl;refine aQ rfl rfl ?_;try simp only[zD,zE]
     exact⟨_,rfl,m.ext,by cases h:(dJ ts).any (Jo ts) with | false=>rfl | true=>(obtain⟨e,he⟩:=pinned.1 h;exact absurd he (ae8 hT1 hnd hno e))⟩
theorem ahO{ts:List T3}(h:¬(bA ts).Nodup):(bA ts).any (fun e=>decide (1<kC (bA ts) e))=true:=by rw[Rj];exact decide_eq_true h
theorem ae9{ts:List T3}(h:(bA ts).Nodup):(bA ts).any (fun e=>decide (1<kC (bA ts) e))=false:=by rw[Rj];exact decide_eq_false fun k=>k h
theorem afa{ts:List T3}{N cap:Nat}{A:Option Addr}(w:ah)(hT:bK w A N ts)(hN:N≤10000000):dF prog 97 [.slice A N cap,.bool true] w (fun v _=>v=.int .i64 (iH true ts)):=by
 refine⟨anQ,?_⟩;have m:=Mem.refl w
 go_enter func97,ntmps97
 refine eS 12 [0] m ?_;simp only[↓aD,iS];intro u m;refine bW [11] [4,6,12,13,14,15,16,17,18,19,20,21,22,23,24,25,26,27,28,29,30,31,32,33,34] (fun n vs wl=>∃(k:Nat),vs=[.int .i64 (k:Int)]∧Mem w wl []∧((ts.take k).any vN=false)∧(k≤N)∧(n=N-k)) ?_ ?_
 ·
  apply Exists.intro;simp only[zQ,zR,zD,zE];exact⟨0,rfl,m,rfl,cd _,rfl⟩
 ·
  intro n vs wr hI u K1 hK1;clear m;obtain⟨k,rfl,m,hd0,hk,hn⟩:=hI;simp only[zu,zF,zG];refine aS 5 [0,0] m ?_;simp only[↓aD];intro u m;refine bC rfl (fun hc1=>?_) (fun hc1=>?_)
  ·
   obtain⟨t,ht,_,a,rfl,hrow⟩:=hT.get (i:=k) (by omega);refine aS 5 [0] m ?_;simp only[↓aD];intro u m;refine aB (aF bT aN rfl rfl (by omega) (by omega) (cI (ag _))) ?_;simp only[zz];refine aO rfl ((hrow.ext m.ext).lies cF aN) ?_;simp only[zz];refine aP 9 [0,0,0,0] m ?_;simp only[↓aD,mU,gZ,dB,aR,aa,ab,ad];intro g1;refine⟨by omega,?_⟩;intro u m;refine aB (cG rfl rfl) (aP 1 [0] m ?_);simp only[↓aD];intro u m;refine dG rfl (fun hb=>aJ dC aA rfl rfl (by decide) (by decide) rfl) ?_;simp only[zz];refine eV rfl (fun hb=>aW (bD hb rfl) ((m.b 0 rfl).lies aG aA rfl rfl)) ?_;simp only[zz,zy,aq,aa,ad,ab];refine dG rfl (fun hb=>aJ dC aA rfl rfl (by decide) (by decide) rfl) ?_;simp only[zz];refine eV rfl (fun hb=>aW (bD hb rfl) ((m.b 0 rfl).lies aG aA rfl rfl)) ?_;simp only[zz,zy,aq,aa,ad,ab];refine dG rfl (fun hb=>cG (bD hb rfl) (bD hb rfl)) (aB (dW rfl rfl rfl) ?_);refine aP 1 [0] m ?_;simp only[↓aD];intro u m;refine dG rfl (fun hb=>aJ dC aA rfl rfl (by decide) (by decide) rfl) ?_;simp only[zz];refine eV rfl (fun hb=>aW (bD hb rfl) ((m.b 0 rfl).lies aG aA rfl rfl)) ?_;simp only[zz,zy,aq,aa,ad,ab];refine dG rfl (fun hb=>aJ dC aA rfl rfl (by decide) (by decide) rfl) ?_;simp only[zz];refine eV rfl (fun hb=>aW (bD hb rfl) ((m.b 0 rfl).lies aG aA rfl rfl)) ?_;simp only[zz,zy,aq,aa,ad,ab];refine dG rfl (fun hb=>cG (bD hb rfl) (bD hb rfl)) (aB (dW rfl rfl rfl) ?_);refine aP 1 [0] m ?_;simp only[↓aD];intro u m;refine gR rfl (fun hc2=>?_) (fun hc2=>?_)
   ·
    have hd:=Cn (p:=vN) ht (Qs.symm.trans hc2);refine aS 5 [] m ?_;simp only[↓aD];intro u m;refine aQ rfl rfl ?_;try simp only[zD,zE]
    exact⟨_,rfl,m.ext,by rw[aa2 hd]⟩
   ·
    have hd1:(ts.take (k+1)).any vN=false:=by rw[tL ht,hd0,←Qs];exact hc2
    refine aS 6 [0] m ?_;simp only[↓aD];refine⟨by omega,?_⟩;intro u m;refine hK1 (N-(k+1)) _ _ ?_ ?_ ?_
    · omega
    · simp only[zz,zv]
    ·
     simp only[zQ,zR,zD,zE];exact⟨k+1,rfl,(m.sel [false]),hd1,by omega,rfl⟩
  ·
   have hkN:k=N:=by omega
   rw[hkN,show ts.take N=ts from be (by rw[hT.len];exact ap _)] at hd0;refine aS 4 [0] m ?_;simp only[↓aD];intro u m;refine bJ rfl rfl (Le _ (hT.ext m.ext) hN) ?_;rintro v u e ⟨g8,es8,c8,rfl,hM,hD8⟩;replace m:=m.plus hM;clear hM e;simp only[b_,bv] at m;refine aP 14 [0] m ?_;simp only[↓aD];intro u m;refine dQ rfl (fun hc3=>?_) (fun hc3=>?_)
   ·
    have hnd:¬(bA ts).Nodup:=by simpa using hc3
    refine aS 5 [] m ?_;simp only[↓aD];intro u m;refine aQ rfl rfl ?_;try simp only[zD,zE]
    exact⟨_,rfl,m.ext,by rw[aa3 hd0 (ahO hnd)]⟩
   ·
    have hnd:(bA ts).Nodup:=by simpa using hc3
    refine aS 16 [0] m ?_;simp only[↓aD,Bool.not_true,Bool.not_false];intro u m;refine cW m rfl rfl (Zm _ (hT.ext m.ext) hN hnd) ?_;clear m;rintro v u m rfl;refine aP 2 [0] m ?_;simp only[↓aD];intro u m;refine dQ rfl (fun hc5=>?_) (fun hc5=>?_)
    ·
     refine aS 5 [] m ?_;simp only[↓aD];intro u m;refine aQ rfl rfl ?_;try simp only[zD,zE]
     exact⟨_,rfl,m.ext,by rw[aa4 hd0 (ae9 hnd) rfl hc5]⟩
    ·
     refine aS 7 [] m ?_;simp only[↓aD];intro u m;refine aQ rfl rfl ?_;try simp only[zD,zE]
     exact⟨_,rfl,m.ext,by rw[ae4 hd0 (ae9 hnd) rfl hc5]⟩
theorem uX{ts:List T3}{N cap:Nat}{A:Option Addr}(w:ah)(hT:bK w A N ts)(hN:N≤10000000):dF prog 49 [.slice A N cap] w (fun v _=>v=.int .i64 (iH true ts)):=by
 refine⟨ann,?_⟩;have m:=Mem.refl w
 go_enter func49,ntmps49
 refine eS 7 [0] m ?_;simp only[↓aD];intro u m;refine cW m rfl rfl (afa _ (hT.ext m.ext) hN) ?_;clear m;rintro v u m rfl;refine aP 3 [] m ?_;simp only[↓aD];intro u m;exact aQ rfl rfl (⟨_,rfl,m.ext,rfl⟩)
theorem alY{t:T3}(h1:t.b.Lt t.a)(h2:t.c.Lt t.b):mW t=⟨t.c,t.a,t.b⟩:=if_pos ⟨P3.lt_trans h2 h1,.inl h2⟩
theorem alZ{t:T3}(h1:t.b.Lt t.a)(h2:¬t.c.Lt t.b):mW t=⟨t.b,t.c,t.a⟩:=by rw[mW,if_neg (fun h=>h.2.elim h2 fun k=>k h1),if_pos h1]
theorem al0{t:T3}(h1:¬t.b.Lt t.a)(h2:t.c.Lt t.a):mW t=⟨t.c,t.a,t.b⟩:=if_pos ⟨h2,.inr h1⟩
theorem al3{t:T3}(h1:¬t.b.Lt t.a)(h2:¬t.c.Lt t.a):mW t=t:=by rw[mW,if_neg (fun h=>h2 h.1),if_neg h1]
theorem acv{t:T3}:eM prog 111 [tr t] (tr (mW t)):=by
 intro w;refine⟨aju,?_⟩;have m:=Mem.refl w
 go_enter func111,ntmps111
 refine eS 28 [3,1,0] m ?_;simp only[↓aD,mU];intro g1 g2;refine⟨by omega,?_⟩;intro u m;refine mq m aC (by kernel_rfl) (eC 6 [1,1] ?_);simp only[↓aD,dB,aR,ab,ad,aa];refine⟨by omega,?_⟩;refine iF rfl rfl qN.pure (aY ?_);clear m;intro u m;refine gc ?_;simp only[zz];refine bC rfl (fun hc2=>?_) (fun hc2=>?_)
 ·
  have h1:=hc2;refine aS 22 [1,0] m ?_;simp only[↓aD,ai];refine⟨by omega,?_⟩;intro u m;refine mq m aC (by kernel_rfl) (eC 6 [1,1] ?_);simp only[↓aD,dB,aR,ab,ad,aa];refine⟨by omega,?_⟩;refine iF rfl rfl qN.pure (aY ?_);clear m;intro u m;refine gc ?_;simp only[zz];refine bC rfl (fun hc2=>?_) (fun hc2=>?_)
  ·
   have h2:=hc2;refine aS 20 [2,0] m ?_;simp only[↓aD,ai];refine⟨by omega,?_⟩;intro u m;refine cL m 14 aC (by kernel_rfl) ?_;simp only[zy];refine eC 5 [1] ?_;simp only[↓aD,dB,aR,ab,ad,aa,ai];refine⟨by omega,?_⟩;refine aH (cU (m:=3) (n:=3) (r:=0) rfl rfl (by decide) (by decide)) (eC 4 [1] ?_);simp only[↓aD,dB,aR,ab,ad,aa,ai];refine⟨by omega,?_⟩;refine aH (cU (m:=4) (n:=3) (r:=1) rfl rfl (by decide) (by decide)) (eC 3 [1] ?_);simp only[↓aD,dB,aR,pS,ab,ad,aa];refine⟨by omega,?_⟩;refine aY ?_;clear m;intro u m;refine cD m 0 rfl rfl rfl aN (jE rfl) rfl ?_;clear m;intro u m;simp only[zy,zx,over,zF,zG,aa] at m;refine aL (cR 1 [] m ?_);simp only[↓aD];intro u m;refine aQ rfl ⟨_,rfl,((m.b 0 rfl).full cF aN)⟩ ?_;try simp only[zD,zE]
   exact⟨_,rfl,m.ext,by rw[alY h1 h2];rfl⟩
  ·
   have h2:=hc2;refine aS 17 [2,0] m ?_;simp only[↓aD,ai];refine⟨by omega,?_⟩;intro u m;refine cL m 14 aC (by kernel_rfl) ?_;simp only[zy];refine eC 5 [1] ?_;simp only[↓aD,dB,aR,ab,ad,aa,ai];refine⟨by omega,?_⟩;refine aH (cU (m:=2) (n:=3) (r:=2) rfl rfl (by decide) (by decide)) (eC 4 [1] ?_);simp only[↓aD,dB,aR,ab,ad,aa,ai];refine⟨by omega,?_⟩;refine aH (cU (m:=3) (n:=3) (r:=0) rfl rfl (by decide) (by decide)) (eC 3 [1] ?_);simp only[↓aD,dB,aR,pS,ab,ad,aa];refine⟨by omega,?_⟩;refine aY ?_;clear m;intro u m;refine cD m 0 rfl rfl rfl aN (jE rfl) rfl ?_;clear m;intro u m;simp only[zy,zx,over,zF,zG,aa] at m;refine aL (cR 1 [] m ?_);simp only[↓aD];intro u m;refine aQ rfl ⟨_,rfl,((m.b 0 rfl).full cF aN)⟩ ?_;try simp only[zD,zE]
   exact⟨_,rfl,m.ext,by rw[alZ h1 h2];rfl⟩
 ·
  have h1:=hc2;refine aS 19 [1,0] m ?_;simp only[↓aD,ai];refine⟨by omega,?_⟩;intro u m;refine mq m aC (by kernel_rfl) (eC 6 [1,1] ?_);simp only[↓aD,dB,aR,ab,ad,aa];refine⟨by omega,?_⟩;refine iF rfl rfl qN.pure (aY ?_);clear m;intro u m;refine gc ?_;simp only[zz];refine bC rfl (fun hc2=>?_) (fun hc2=>?_)
  ·
   have h2:=hc2;refine aS 20 [2,0] m ?_;simp only[↓aD,ai];refine⟨by omega,?_⟩;intro u m;refine cL m 14 aC (by kernel_rfl) ?_;simp only[zy];refine eC 5 [1] ?_;simp only[↓aD,dB,aR,ab,ad,aa,ai];refine⟨by omega,?_⟩;refine aH (cU (m:=3) (n:=3) (r:=0) rfl rfl (by decide) (by decide)) (eC 4 [1] ?_);simp only[↓aD,dB,aR,ab,ad,aa,ai];refine⟨by omega,?_⟩;refine aH (cU (m:=4) (n:=3) (r:=1) rfl rfl (by decide) (by decide)) (eC 3 [1] ?_);simp only[↓aD,dB,aR,pS,ab,ad,aa];refine⟨by omega,?_⟩;refine aY ?_;clear m;intro u m;refine cD m 0 rfl rfl rfl aN (jE rfl) rfl ?_;clear m;intro u m;simp only[zy,zx,over,zF,zG,aa] at m;refine aL (cR 1 [] m ?_);simp only[↓aD];intro u m;refine aQ rfl ⟨_,rfl,((m.b 0 rfl).full cF aN)⟩ ?_;try simp only[zD,zE]
   exact⟨_,rfl,m.ext,by rw[al0 h1 h2];rfl⟩
  ·
   have h2:=hc2;refine aS 17 [2,0] m ?_;simp only[↓aD,ai];refine⟨by omega,?_⟩;intro u m;refine cL m 14 aC (by kernel_rfl) ?_;simp only[zy];refine eC 5 [1] ?_;simp only[↓aD,dB,aR,ab,ad,aa,ai];refine⟨by omega,?_⟩;refine aH (cU (m:=1) (n:=3) (r:=1) rfl rfl (by decide) (by decide)) (eC 4 [1] ?_);simp only[↓aD,dB,aR,ab,ad,aa,ai];refine⟨by omega,?_⟩;refine aH (cU (m:=2) (n:=3) (r:=2) rfl rfl (by decide) (by decide)) (eC 3 [1] ?_);simp only[↓aD,dB,aR,pS,ab,ad,aa];refine⟨by omega,?_⟩;refine aY ?_;clear m;intro u m;refine cD m 0 rfl rfl rfl aN (jE rfl) rfl ?_;clear m;intro u m;simp only[zy,zx,over,zF,zG,aa] at m;refine aL (cR 1 [] m ?_);simp only[↓aD];intro u m;refine aQ rfl ⟨_,rfl,((m.b 0 rfl).full cF aN)⟩ ?_;try simp only[zD,zE]
   exact⟨_,rfl,m.ext,by rw[al3 h1 h2];rfl⟩
end Go.Proofs.YtfekpcimgncioaaGreatDoor
namespace Go.Proofs.YtfekpcimgncioaaGreatDoor
open Go.Proofs.Tryz
open Go.RowKit Go.Lith
set_option maxRecDepth 100000
attribute [local irreducible] ao bz eZ bE bX Code.wp
theorem afb{x y z:Int}{g1:Nat}(w:ah)(hB1:fA w g1 [.int .i64 x,.int .i64 y,.int .i64 z] 3):ae1 prog 125 [.slice (some ⟨g1,0,none⟩) 3 3] w (.int .i64 (if x=0 then if y=0 then z else y else x)):=by
 refine⟨adD,?_⟩;have m:=gH.refl w
 go_enter func125,ntmps125
 refine aV fun K1 k1=>am (aB aM (aL (k1 _ _ ?_)));try clear k1 K1
 refine aV fun K2 k2=>am (aB aM (aL (k2 _ _ ?_)));try clear k2 K2
 refine aV fun K3 k3=>aV fun K4 k4=>am (aB aI (aB (Ec rfl lM rfl) ?_));simp only[zz];refine aB aI (aL (k4 _ _ ?_));try clear k4 K4
 refine ig (wp_loop_rounds 4 (wH (aV fun K5 k5=>am (aB (oB (m:=0) (n:=3) rfl rfl (by decide)) (aL (k5 _ _ ?_))))));try clear k5 K5
 refine aV fun K6 k6=>vV rfl (il (k6 _ _ ?_));try clear k6 K6
 refine aV fun K7 k7=>ig (aV fun K8 k8=>am ?_);simp only[zz];refine aB (aF lM aX rfl rfl (by decide) (by omega) rfl) ?_;simp only[zz];refine aO rfl ((hB1.ext m.ext.ext).lies1 bN rfl) ?_;simp only[zz];refine aB aM (aL (k8 _ _ ?_));try clear k8 K8
 refine aV fun K9 k9=>am (aB aI (aB aI (aB (pO rfl rfl) ?_)));simp only[zz];refine aL (k9 _ _ ?_);try clear k9 K9
 refine bC rfl (fun hc2=>?_) (fun hc2=>?_)
 · skip
   refine aV fun K10 k10=>am (aB aI (aB aM (aL (k10 _ _ ?_))));try clear k10 K10
   refine h_ ?_;simp only[zz];try simp only[cj,Exit.then,if_true]
   refine aQ rfl rfl ?_;try simp only[zD,zE]
   exact⟨_,rfl,m.ext,by rw[if_neg hc2]⟩
 · skip
   have hx:x=0:=by omega
   refine il (k7 _ _ ?_);try clear k7 K7
   refine am (aB (eL (m:=0) (n:=1) (r:=1) rfl rfl (by decide)) (aB aI (aL (jZ (aV fun K11 k11=>am (aB (oB (m:=1) (n:=3) rfl rfl (by decide)) (aL (k11 _ _ ?_))))))));try clear k11 K11
   refine aV fun K12 k12=>vV rfl (il (k12 _ _ ?_));try clear k12 K12
   refine aV fun K13 k13=>ig (aV fun K14 k14=>am ?_);simp only[zz];refine aB (aF lM aX rfl rfl (by decide) (by omega) rfl) ?_;simp only[zz];refine aO rfl ((hB1.ext m.ext.ext).lies1 bN rfl) ?_;simp only[zz];refine aB aM (aL (k14 _ _ ?_));try clear k14 K14
   refine aV fun K15 k15=>am (aB aI (aB aI (aB (pO rfl rfl) ?_)));simp only[zz];refine aL (k15 _ _ ?_);try clear k15 K15
   refine bC rfl (fun hc2=>?_) (fun hc2=>?_)
   · skip
     refine aV fun K16 k16=>am (aB aI (aB aM (aL (k16 _ _ ?_))));try clear k16 K16
     refine h_ ?_;simp only[zz];try simp only[cj,Exit.then,if_true]
     refine aQ rfl rfl ?_;try simp only[zD,zE]
     exact⟨_,rfl,m.ext,by rw[if_pos hx,if_neg hc2]⟩
   · skip
     have hy:y=0:=by omega
     refine il (k13 _ _ ?_);try clear k13 K13
     refine am (aB (eL (m:=1) (n:=1) (r:=2) rfl rfl (by decide)) (aB aI (aL (jZ (aV fun K17 k17=>am (aB (oB (m:=2) (n:=3) rfl rfl (by decide)) (aL (k17 _ _ ?_))))))));try clear k17 K17
     refine aV fun K18 k18=>vV rfl (il (k18 _ _ ?_));try clear k18 K18
     refine aV fun K19 k19=>ig (aV fun K20 k20=>am ?_);simp only[zz];refine aB (aF lM aX rfl rfl (by decide) (by omega) rfl) ?_;simp only[zz];refine aO rfl ((hB1.ext m.ext.ext).lies1 bN rfl) ?_;simp only[zz];refine aB aM (aL (k20 _ _ ?_));try clear k20 K20
     refine aV fun K21 k21=>am (aB aI (aB aI (aB (pO rfl rfl) ?_)));simp only[zz];refine aL (k21 _ _ ?_);try clear k21 K21
     refine bC rfl (fun hc2=>?_) (fun hc2=>?_)
     · skip
       refine aV fun K22 k22=>am (aB aI (aB aM (aL (k22 _ _ ?_))));try clear k22 K22
       refine h_ ?_;simp only[zz];try simp only[cj,Exit.then,if_true]
       refine aQ rfl rfl ?_;try simp only[zD,zE]
       exact⟨_,rfl,m.ext,by rw[if_pos hx,if_pos hy]⟩
     · skip
       have hz:z=0:=by omega
       refine il (k19 _ _ ?_);try clear k19 K19
       refine am (aB (eL (m:=2) (n:=1) (r:=3) rfl rfl (by decide)) (aB aI (aL (jZ (aV fun K23 k23=>am (aB (Aw (m:=3) (n:=3) rfl rfl (by decide)) (aL (k23 _ _ ?_))))))));try clear k23 K23
       refine aV fun K24 k24=>abp rfl (wp_exit (k3 _ _ ?_));try clear k3 K3
       refine aV fun K25 k25=>am (aB aI ?_);simp only[zz];refine aB aM (aL (k25 _ _ ?_));try clear k25 K25
       refine h_ ?_;simp only[zz];try simp only[cj,Exit.then,if_true]
       refine aQ rfl rfl ?_;try simp only[zD,zE]
       exact⟨_,rfl,m.ext,by rw[if_pos hx,if_pos hy,hz]⟩
def Zn(s t:T3):Int:=if nX s.a t.a=0 then if nX s.b t.b=0 then nX s.c t.c else nX s.b t.b else nX s.a t.a
theorem Dj(s t:T3):(Zn s t<0)↔s.Lt t:=by
 unfold Zn T3.Lt;split
 · rename_i h
   have h':=lH.1 h;have n1:¬s.a.Lt t.a:=fun k=>P3.lt_irrefl _ (h'▸k);split
   · rename_i g
     have g':=lH.1 g;have n2:¬s.b.Lt t.b:=fun k=>P3.lt_irrefl _ (g'▸k);rw[kI];simp[h',g',P3.lt_irrefl]
   · rename_i g
     have g':¬s.b=t.b:=fun e=>g (lH.2 e);rw[kI];simp[h',g',P3.lt_irrefl]
 · rename_i h
   have h':¬s.a=t.a:=fun e=>h (lH.2 e);rw[kI];simp[h']
instance:Inhabited T3:=⟨⟨⟨0,0,0⟩,⟨0,0,0⟩,⟨0,0,0⟩⟩⟩
theorem afc:Go.Sort.SWO (Go.Proofs.ltOf Zn) where
 irrefl a:=by simp only[Go.Proofs.ltOf,decide_eq_false_iff_not,Dj];exact T3.lt_irrefl a
 trans x y z h1 h2:=by
  simp only[Go.Proofs.ltOf,decide_eq_true_eq,Dj] at *
  exact T3.lt_trans h1 h2
 ntrans x y z h1 h2:=by
  simp only[Go.Proofs.ltOf,decide_eq_false_iff_not,Dj] at *
  intro h;rcases T3.lt_tri y x with k | k | k
  · exact absurd (T3.lt_trans k h) (by first | exact h2 | exact h1)
  · subst k;first | exact h2 h | exact h1 h
  · first | exact h1 k | exact h2 k
theorem Sk(t:T3):∀v∈aK t,v.oneCell'=true:=fun v h=>by
 simp only[aK,List.mem_cons,List.not_mem_nil,or_false] at h;rcases h with rfl | rfl | rfl | rfl | rfl | rfl | rfl | rfl | rfl <;> rfl
theorem ahP{p q:T3}:pQ prog 113 [tr p,tr q] (.int .i64 (Zn p q)):=by
 intro w;refine⟨ajw,?_⟩;have m:=gH.refl w
 go_enter func113,ntmps113
 refine aV fun K1 k1=>am (mD m rfl ?_);clear m;intro g1 u m;simp only[zz];refine mD m rfl ?_;clear m;intro g2 u m;refine aB aM (aL (k1 _ _ ?_));try clear k1 K1
 refine aV fun K2 k2=>?_;simp only[zz];refine Jg m 15 aC (by kernel_rfl) ?_;simp only[zy];refine aH (aJ dC aA rfl rfl (by decide) (by decide) rfl) ?_;simp only[zz];refine Me rfl (fun u m=>((m.b 1 rfl).lies aG aA rfl rfl)) ?_;simp only[zz,zy,aq,aa,ad,ab];refine aH (aJ dC aA rfl rfl (by decide) (by decide) rfl) ?_;simp only[zz];refine Me rfl (fun u m=>((m.b 0 rfl).lies aG aA rfl rfl)) ?_;simp only[zz,zy,aq,aa,ad,ab];refine Ck rfl rfl (yM (p:=p.a) (q:=q.a)) (aH (aJ dC aA rfl rfl (by decide) (by decide) rfl) ?_);simp only[zz];refine Me rfl (fun u m=>((m.b 1 rfl).lies aG aA rfl rfl)) ?_;simp only[zz,zy,aq,aa,ad,ab];refine aH (aJ dC aA rfl rfl (by decide) (by decide) rfl) ?_;simp only[zz];refine Me rfl (fun u m=>((m.b 0 rfl).lies aG aA rfl rfl)) ?_;simp only[zz,zy,aq,aa,ad,ab];refine Ck rfl rfl (yM (p:=p.b) (q:=q.b)) (aH (aJ dC aA rfl rfl (by decide) (by decide) rfl) ?_);simp only[zz];refine Me rfl (fun u m=>((m.b 1 rfl).lies aG aA rfl rfl)) ?_;simp only[zz,zy,aq,aa,ad,ab];refine aH (aJ dC aA rfl rfl (by decide) (by decide) rfl) ?_;simp only[zz];refine Me rfl (fun u m=>((m.b 0 rfl).lies aG aA rfl rfl)) ?_;simp only[zz,zy,aq,aa,ad,ab];refine Ck rfl rfl (yM (p:=p.c) (q:=q.c)) (aY ?_);clear m;intro u m;simp only[zz];refine Vl m lM (z:=.int .i64 0) (by kernel_rfl) rfl rfl rfl rfl rfl rfl rfl ?_;clear m;intro g3 u m;simp only[zz];refine Sg m rfl rfl (afb _ (m.b 0 rfl)) ?_;clear m;intro u m;refine aB aM (aL (k2 _ _ ?_));try clear k2 K2
 refine h_ ?_;simp only[zz];try simp only[cj,Exit.then,if_true]
 refine aQ rfl rfl ?_;try simp only[zD,zE]
 exact⟨_,rfl,m.ext,rfl⟩
theorem al4{p q:P3}(h:p.x=q.x∧p.y=q.y∧p.z=q.z):(0:Int)=nX p q:=(lH.2 (P3.eq h.1 h.2.1 h.2.2)).symm
theorem al5{p q:P3}(h:p.Lt q):(-1:Int)=nX p q:=(if_pos h).symm
theorem al6{p q:P3}(h1:¬(p.x=q.x∧p.y=q.y∧p.z=q.z))(h2:¬p.Lt q):(1:Int)=nX p q:=by
 unfold nX;rcases P3.lt_tri p q with h | h | h
 · exact absurd h h2
 · exact absurd (by rw[h];exact⟨rfl,rfl,rfl⟩) h1
 · rw[if_neg h2,if_pos h]
theorem Lf{p q:P3}:pQ prog 70 [pt p,pt q] (.int .i64 (nX p q)):=by
 intro w;refine⟨anH,?_⟩;have m:=gH.refl w
 go_enter func70,ntmps70
 refine aV fun K1 k1=>am (mD m rfl ?_);clear m;intro g1 u m;simp only[zz];refine mD m rfl ?_;clear m;intro g2 u m;refine aB aM (aL (k1 _ _ ?_));try clear k1 K1
 refine aV fun K2 k2=>ig (aV fun K3 k3=>am ?_);simp only[zz];refine aO rfl ((m.b 1 rfl).full aG aA) ?_;simp only[zz];refine aO rfl ((m.b 0 rfl).full aG aA) ?_;simp only[zz];refine aB (cG rfl rfl) (aB aM (aL (k3 _ _ ?_)));try clear k3 K3
 simp only[zz];refine bC rfl (fun hc1=>?_) (fun hc1=>?_)
 · skip
   refine aV fun K4 k4=>am (aB aM (aL (k4 _ _ ?_)));try clear k4 K4
   refine h_ ?_;simp only[zz];try simp only[cj,Exit.then,if_true]
   refine aQ rfl rfl ?_;try simp only[zD,zE]
   exact⟨_,rfl,m.ext,by rw[←al4 hc1]⟩
 · skip
   refine aV fun K5 k5=>am (aO rfl ((m.b 1 rfl).full aG aA) ?_);simp only[zz];refine aO rfl ((m.b 0 rfl).full aG aA) ?_;simp only[zz];refine Hr m rfl rfl (qN (p:=p) (q:=q)) ?_;clear m;intro u m;refine aB aM (aL (k5 _ _ ?_));try clear k5 K5
   simp only[zz];refine bC rfl (fun hc2=>?_) (fun hc2=>?_)
   · skip
     refine aV fun K6 k6=>am (aB aM (aL (k6 _ _ ?_)));try clear k6 K6
     refine h_ ?_;simp only[zz];try simp only[cj,Exit.then,if_true]
     refine aQ rfl rfl ?_;try simp only[zD,zE]
     exact⟨_,rfl,m.ext,by rw[←al5 hc2]⟩
   · skip
     refine il (k2 _ _ ?_);try clear k2 K2
     refine aV fun K7 k7=>am (aB aM (aL (k7 _ _ ?_)));try clear k7 K7
     refine h_ ?_;simp only[zz];try simp only[cj,Exit.then,if_true]
     refine aQ rfl rfl ?_;try simp only[zD,zE]
     exact⟨_,rfl,m.ext,by rw[←al6 hc1 hc2]⟩
end Go.Proofs.YtfekpcimgncioaaGreatDoor
namespace Go.Proofs.YtfekpcimgncioaaGreatDoor
open Go.Proofs.Tryz
open Go.RowKit Go.Lith
set_option maxRecDepth 100000
attribute [local irreducible] ao bz eZ bE bX Code.wp
attribute [local congr] nO fF fG fH fI fJ jH fK fL fM fN fO fP fQ fR fS fT fU dX dY fV fW fY fZ gA jJ cO cP cA cN fX jI dZ eA eB gB gC jK
theorem acw{w0 w:ah}{is:List It}{A:Option Addr}{n cap:Nat}{xs:List T3}(m:Mem w0 w is)(k:Nat)(hi:is[k]? = some (oI 39 9 A n cap (xs.flatMap aK)))(hsz:n<4611686018427387904) :
 Calls prog 112 [.slice A n cap,.func (.func 113) #[] #[]].toArray w fun e w'=>∃v i,e=.returned v∧Mem w0 w' (is.set k i)∧(v=.tuple #[]∧∃ys:List T3,i=oI 39 9 A n cap (ys.flatMap aK)∧ys.Perm xs∧ys.Pairwise fun a b=>ltOf Zn b a=false) :=
 wT (enc:=aK) Tryz.sort112 (fun w=>nB cF w) (fun w=>dH aN w) (fun _=>rfl) (by decide) Sk Zn afc (fun x y=>ahP) m k hi hsz
theorem Zo{ts ys:List T3}(h:ys.Perm (ts.map mW))(hs:ys.Pairwise fun a b=>Go.Proofs.ltOf Zn b a=false):ys=dA ts :=
 aen h (hs.imp fun {a b} h k=>by
  have:=(Dj b a).2 k;simp[Go.Proofs.ltOf] at h;omega)
theorem Vp{ts:List T3}{N cap:Nat}{A:Option Addr}(w:ah)(hT:bK w A N ts)(hN:N≤10000000):dF prog 55 [.slice A N cap] w (SL 39 9 ((dA ts).flatMap aK) ts.length w):=by
 refine⟨ans,?_⟩;have m:=Mem.refl w;have htl:=hT.len
 go_enter func55,ntmps55
 refine eS 6 [0] m ?_;simp only[↓aD];intro u m;refine aB aM ?_;replace m:=m.nilO 39 9;refine aP 9 [0] m ?_;simp only[↓aD,iS];intro u m;refine bW [3,8] [5,9,10,11,12,13,14,15,16,17] (fun n vs wl=>∃(k:Nat) (A1:Option Addr) (cap1:Nat),vs=[.slice A1 k cap1,.int .i64 (k:Int)]∧Mem w wl [oI 39 9 A1 k cap1 (((ts.take k).map mW).flatMap aK)]∧(k≤N)∧(n=N-k)) ?_ ?_
 · skip
   apply Exists.intro;simp only[zQ,zR,zD,zE];exact⟨0,_,_,rfl,m,cd _,rfl⟩
 · intro n vs wr hI u K1 hK1
   clear m;obtain⟨k,A1,cap1,rfl,m,hk,hn⟩:=hI;simp only[zu,zF,zG];refine aS 5 [0,0] m ?_;simp only[↓aD];intro u m;refine bC rfl (fun hc1=>?_) (fun hc1=>?_)
   · skip
     obtain⟨t,ht,_,a,rfl,hrow⟩:=hT.get (i:=k) (by omega);refine aS 5 [0] m ?_;simp only[↓aD];intro u m;refine aB (aF bT aN rfl rfl (by omega) (by omega) (cI (ag _))) ?_;simp only[zz];refine aO rfl ((hrow.ext m.ext).lies cF aN) ?_;simp only[zz];refine aP 6 [0,0,0] m ?_;simp only[↓aD,mU,gZ,aa];intro g1;intro u m;refine kA m rfl rfl acv ?_;clear m;intro u m;simp only[zz];refine eF rfl ?_;intro u g2 e hg hB;replace m:=m.newB e hg hB;clear e hg hB;simp only[zz];refine bR m 2 rfl rfl bT iA rfl (by decide) rfl rfl rfl (m.b 0 rfl).rowsO (jM rfl) (by omega) (by omega) ?_;clear m;intro A1 cap1 u m;simp only[zF,zG] at m;rw[show ((ts.take k).map mW).flatMap aK++_=((ts.take (k+1)).map mW).flatMap aK by rw[cC ht,cl,av];rfl] at m;refine aP 7 [0] m ?_;simp only[↓aD];refine⟨by omega,?_⟩;intro u m;refine hK1 (N-(k+1)) _ _ ?_ ?_ ?_
     · omega
     · simp only[zz,zv]
     · simp only[zQ,zR,zD,zE]
       exact⟨k+1,_,_,rfl,(m.sel [false,false,true]),by omega,rfl⟩
   · skip
     obtain rfl:k=N:=by omega
     rw[show ts.take k=ts from be (by omega)] at m;refine aS 4 [0] m ?_;simp only[↓aD];intro u m;refine kP m 0 ajv rfl rfl (fun m=>acw m 0 rfl (by omega)) ?_;clear m;rintro v i u m ⟨rfl,ys,rfl,hys,hso⟩;simp only[zF,zG] at m;simp only[zz];obtain rfl:=Zo hys hso;refine aP 7 [] m ?_;simp only[↓aD];intro u m;exact aQ rfl rfl (⟨_,rfl,m.ext,⟨_,_,_,htl.symm,rfl,(m.o 0 rfl)⟩⟩)
theorem afd{u v x:P3}(h:x.x=u.x∧x.y=u.y∧x.z=u.z):Bg u v x=v:=by
 rw[show x=u from P3.eq h.1 h.2.1 h.2.2];exact an5
theorem Zp{u v x:P3}(h:¬(x.x=u.x∧x.y=u.y∧x.z=u.z)):Bg u v x=x:=an6 fun e=>h (by rw[e];exact⟨rfl,rfl,rfl⟩)
theorem pne{p q:P3}:decide (¬(p.x=q.x∧p.y=q.y∧p.z=q.z))=decide (p≠q):=decide_eq_decide.2 ⟨fun h e=>h (by rw[e];exact⟨rfl,rfl,rfl⟩),fun h e=>h (P3.eq e.1 e.2.1 e.2.2)⟩
theorem aa5{t:T3}{p q:P3}:eM prog 54 [tr t,pt p,pt q] (.tuple #[tr (rS p q t),.bool (rS p q t).nd]):=by
 intro w;refine⟨anr,?_⟩;have m:=Mem.refl w
 go_enter func54,ntmps54
 refine eS 31 [4,1,0] m ?_;simp only[↓aD,mU];intro g1 g2 g3 g4;refine⟨by omega,?_⟩;intro u m;refine mq m aC (by kernel_rfl) (eC 4 [3,2] ?_);simp only[↓aD,dB,aR,ab,ad,aa];refine⟨by omega,?_⟩;refine aH (cG rfl rfl) (aY ?_);clear m;intro u m;refine gc ?_;simp only[zz];refine iM m 3 [] [17,18,19] (fun vs i=>vs=[]∧i=bI g1 [.int .i64 (Bg p q t.a).x,.int .i64 (Bg p q t.a).y,.int .i64 (Bg p q t.a).z,.int .i64 (t.b).x,.int .i64 (t.b).y,.int .i64 (t.b).z,.int .i64 (t.c).x,.int .i64 (t.c).y,.int .i64 (t.c).z] 39) ?_ ?_
 · intro K1 hK1
   refine bC rfl (fun hc2=>?_) (fun hc2=>?_)
   · skip
     refine aS 6 [1,3,0] m ?_;simp only[↓aD,aR,dB,ab,ad,aa];refine⟨by omega,?_⟩;intro u m;refine hK1 _ _ _ ?_ m ?_
     · simp only[zz,zv]
     · simp only[zQ,zR,zD,zE]
       exact⟨trivial,by rw[afd hc2] <;> rfl⟩
   · skip
     refine aS 1 [0] m ?_;simp only[↓aD];intro u m;refine hK1 _ _ _ ?_ m ?_
     · simp only[zz,zv]
     · simp only[zQ,zR,zD,zE]
       exact⟨trivial,by rw[Zp hc2] <;> rfl⟩
 · intro vs i wr m hI u
   obtain⟨rfl,rfl⟩:=hI;simp only[zF,zG] at m;simp only[zu,zF,zG];refine cR 21 [1,0] m ?_;simp only[↓aD,ai];refine⟨by omega,?_⟩;intro u m;refine mq m aC (by kernel_rfl) (eC 4 [3,2] ?_);simp only[↓aD,dB,aR,ab,ad,aa];refine⟨by omega,?_⟩;refine aH (cG rfl rfl) (aY ?_);clear m;intro u m;refine gc ?_;simp only[zz];refine iM m 3 [] [17,18,19] (fun vs i=>vs=[]∧i=bI g1 [.int .i64 (Bg p q t.a).x,.int .i64 (Bg p q t.a).y,.int .i64 (Bg p q t.a).z,.int .i64 (Bg p q t.b).x,.int .i64 (Bg p q t.b).y,.int .i64 (Bg p q t.b).z,.int .i64 (t.c).x,.int .i64 (t.c).y,.int .i64 (t.c).z] 39) ?_ ?_
   · intro K2 hK2
     refine bC rfl (fun hc2=>?_) (fun hc2=>?_)
     · skip
       refine aS 6 [1,3,0] m ?_;simp only[↓aD,aR,dB,ab,ad,aa];refine⟨by omega,?_⟩;intro u m;refine hK2 _ _ _ ?_ m ?_
       · simp only[zz,zv]
       · simp only[zQ,zR,zD,zE]
         exact⟨trivial,by rw[afd hc2] <;> rfl⟩
     · skip
       refine aS 1 [0] m ?_;simp only[↓aD];intro u m;refine hK2 _ _ _ ?_ m ?_
       · simp only[zz,zv]
       · simp only[zQ,zR,zD,zE]
         exact⟨trivial,by rw[Zp hc2] <;> rfl⟩
   · intro vs i wr m hI u
     obtain⟨rfl,rfl⟩:=hI;simp only[zF,zG] at m;simp only[zu,zF,zG];refine cR 21 [1,0] m ?_;simp only[↓aD,ai];refine⟨by omega,?_⟩;intro u m;refine mq m aC (by kernel_rfl) (eC 4 [3,2] ?_);simp only[↓aD,dB,aR,ab,ad,aa];refine⟨by omega,?_⟩;refine aH (cG rfl rfl) (aY ?_);clear m;intro u m;refine gc ?_;simp only[zz];refine iM m 3 [] [17,18,19] (fun vs i=>vs=[]∧i=bI g1 [.int .i64 (Bg p q t.a).x,.int .i64 (Bg p q t.a).y,.int .i64 (Bg p q t.a).z,.int .i64 (Bg p q t.b).x,.int .i64 (Bg p q t.b).y,.int .i64 (Bg p q t.b).z,.int .i64 (Bg p q t.c).x,.int .i64 (Bg p q t.c).y,.int .i64 (Bg p q t.c).z] 39) ?_ ?_
     · intro K3 hK3
       refine bC rfl (fun hc2=>?_) (fun hc2=>?_)
       · skip
         refine aS 6 [1,3,0] m ?_;simp only[↓aD,aR,dB,ab,ad,aa];refine⟨by omega,?_⟩;intro u m;refine hK3 _ _ _ ?_ m ?_
         · simp only[zz,zv]
         · simp only[zQ,zR,zD,zE]
           exact⟨trivial,by rw[afd hc2] <;> rfl⟩
       · skip
         refine aS 1 [0] m ?_;simp only[↓aD];intro u m;refine hK3 _ _ _ ?_ m ?_
         · simp only[zz,zv]
         · simp only[zQ,zR,zD,zE]
           exact⟨trivial,by rw[Zp hc2] <;> rfl⟩
     · intro vs i wr m hI u
       obtain⟨rfl,rfl⟩:=hI;simp only[zF,zG] at m;simp only[zu,zF,zG];refine cR 14 [2,0] m ?_;simp only[↓aD,ai];refine⟨by omega,?_⟩;intro u m;refine mh m [false,true,true,true] [(1,true),(3,true),(0,true),(2,true),(4,true),(5,true),(6,true),(7,true),(9,true),(8,true),(10,true),(11,true),(12,true),(13,true),(14,true),(16,true),(15,true),(17,true),(18,true),(19,true),(20,false),(21,true)] aC (by kernel_rfl) (bQ (fun _ _ _ _ _ h=>h)) (ol:=?_) ?hol ?_
       case hol=>simp only[zw,zQ,zR];try rfl
       clear m;intro u m;refine Mz 5 [2,2,2] ?_;simp only[↓aD,dB,gZ,aR,ab,ad,aa];refine⟨by omega,?_⟩;refine aU (gL rfl rfl) (aU aI (Ei rfl (fun hb=>aJ dC aA rfl rfl (by decide) (by decide) rfl) (Ei rfl (fun hb=>aJ dC aA rfl rfl (by decide) (by decide) rfl) ?_)));simp only[zz];refine Cl rfl (fun hb u m=>aW (bD hb rfl) ((m.b 2 rfl).lies aG aA rfl rfl)) ?_;simp only[zz,zy,aq,aa,ad,ab];refine Cl rfl (fun hb u m=>aW (bD hb rfl) ((m.b 2 rfl).lies aG aA rfl rfl)) ?_;simp only[zz,zy,aq,aa,ad,ab];refine Ei rfl (fun hb=>gL (bD hb rfl) (bD hb rfl)) (aU (eO rfl rfl rfl) (aU aI (Ei rfl (fun hb=>aJ dC aA rfl rfl (by decide) (by decide) rfl) ?_)));simp only[zz];refine Ei rfl (fun hb=>aJ dC aA rfl rfl (by decide) (by decide) rfl) ?_;simp only[zz];refine Cl rfl (fun hb u m=>aW (bD hb rfl) ((m.b 2 rfl).lies aG aA rfl rfl)) ?_;simp only[zz,zy,aq,aa,ad,ab];refine Cl rfl (fun hb u m=>aW (bD hb rfl) ((m.b 2 rfl).lies aG aA rfl rfl)) ?_;simp only[zz,zy,aq,aa,ad,ab];refine Ei rfl (fun hb=>gL (bD hb rfl) (bD hb rfl)) (aU (eO rfl rfl rfl) (bV ?_));simp only[zz];refine cD m 0 rfl rfl rfl aN (jE rfl) rfl ?_;clear m;intro u m;simp only[zy,zx,over,zF,zG,aa] at m;refine aL (⟨m.sel [false,true,true,true],?_⟩);refine aU aM (bM ?_);refine cR 1 [] m ?_;simp only[↓aD];intro u m;refine vW rfl ⟨_,rfl,((m.b 0 rfl).full cF aN)⟩ rfl ?_;try simp only[zD,zE]
       exact⟨_,rfl,m.ext,by rw[pne,pne,pne] <;> rfl⟩
theorem acx{p q:P3}{ts:List T3}{k:Nat}{t:T3}(h:ts[k]? = some t):wY p q (ts.take (k+1))=wY p q (ts.take k)++if (rS p q t).nd then [rS p q t] else []:=by
 rw[cC h];unfold wY;rw[cl,List.filter_append]
 congr 1
 rw[List.map_cons,List.map_nil,List.filter_cons,List.filter_nil]
theorem Fk{p q x:P3}(hq:I3 q)(hx:I3 x):I3 (Bg p q x):=by
 unfold Bg;split
 · exact hq
 · exact hx
theorem Sl{p q:P3}{ts:List T3}(hq:I3 q)(h:∀t∈ts,IT t):∀t∈wY p q ts,IT t:=fun t ht=>by
 obtain⟨s,hs,rfl⟩:=List.mem_map.1 (di.1 ht).1;have:=h s hs;exact⟨Fk hq this.a,Fk hq this.b,Fk hq this.c⟩
theorem afe{p q:P3}(ts:List T3):(yU ts p q).length=(wY p q ts).length:=lG _
theorem Bl{ts:List T3}{N cap:Nat}{A:Option Addr}{p q:P3}[I3 p][I3 q](w:ah)(hT:bK w A N ts)(hN:N≤10000000):dF prog 22 [.slice A N cap,pt p,pt q] w (SL 39 9 ((yU ts p q).flatMap aK) (yU ts p q).length w):=by
 refine⟨am9,?_⟩;have m:=Mem.refl w;have htl:=hT.len
 go_enter func22,ntmps22
 refine eS 8 [0] m ?_;simp only[↓aD];intro g1 g2;intro u m;refine aB aM ?_;replace m:=m.nilO 39 9;refine aP 9 [0] m ?_;simp only[↓aD,iS];intro u m;refine bW [7,14] [9,10,11,15,16,17,18,19,20,21,22,23,24,25,26,27,28,29,30] (fun n vs wl=>∃(k:Nat) (A7:Option Addr) (cap7:Nat),vs=[.slice A7 (wY p q (ts.take k)).length cap7,.int .i64 (k:Int)]∧Mem w wl [oI 39 9 A7 (wY p q (ts.take k)).length cap7 ((wY p q (ts.take k)).flatMap aK),bI g2 [.int .i64 q.x,.int .i64 q.y,.int .i64 q.z] 30,bI g1 [.int .i64 p.x,.int .i64 p.y,.int .i64 p.z] 30]∧(k≤N)∧(n=N-k)) ?_ ?_
 · skip
   apply Exists.intro;simp only[zQ,zR,zD,zE];exact⟨0,_,_,rfl,m,cd _,rfl⟩
 · intro n vs wr hI u K1 hK1
   clear m;obtain⟨k,A7,cap7,rfl,m,hk,hn⟩:=hI;simp only[zu,zF,zG];refine aS 5 [0,0] m ?_;simp only[↓aD];intro u m;refine bC rfl (fun hc1=>?_) (fun hc1=>?_)
   · skip
     obtain⟨t,ht,_,a,rfl,hrow⟩:=hT.get (i:=k) (by omega);have hcs:=acx (p:=p) (q:=q) ht;have hcl:=aaV p q (ts.take k);rw[br] at hcl;refine aS 5 [0] m ?_;simp only[↓aD];intro u m;refine aB (aF bT aN rfl rfl (by omega) (by omega) (cI (ag _))) ?_;simp only[zz];refine aO rfl ((hrow.ext m.ext).lies cF aN) ?_;simp only[zz];refine aP 8 [0,0,3,2,0] m ?_;simp only[↓aD,mU,gZ,aR,aa];intro g3;intro u m;refine vJ m rfl rfl (aa5 (t:=t) (p:=p) (q:=q)) 11 [0,0] ?_;simp only[↓aD,mU,gZ,aa];intro g4;intro u m;refine dQ rfl (fun hc2=>?_) (fun hc2=>?_)
     · skip
       rw[hc2,if_pos rfl] at hcs;refine aS 3 [0,0] m ?_;simp only[↓aD,gZ];intro u m;refine eF rfl ?_;intro u g5 e hg hB;replace m:=m.newB e hg hB;clear e hg hB;simp only[zz];refine bR m 3 rfl rfl bT iA rfl (by decide) rfl rfl rfl (m.b 0 rfl).rowsO (jM rfl) (by omega) (by omega) ?_;clear m;intro A7 cap7 u m;simp only[zF,zG] at m;rw[show (wY p q (ts.take k)).flatMap aK++_=(wY p q (ts.take (k+1))).flatMap aK by rw[hcs,av];rfl] at m;have hll:(wY p q (ts.take k)).length+1=(wY p q (ts.take (k+1))).length:=by rw[hcs,aw];rfl
       rw[hll] at m;rw[hll];refine aP 7 [0] m ?_;simp only[↓aD];refine⟨by omega,?_⟩;intro u m;refine hK1 (N-(k+1)) _ _ ?_ ?_ ?_
       · omega
       · simp only[zz,zv]
       · simp only[zQ,zR,zD,zE]
         exact⟨k+1,_,_,rfl,(m.sel [false,false,false,true,true,true]),by omega,rfl⟩
     · skip
       rw[hc2,if_neg Bool.false_ne_true,e_] at hcs;refine aS 6 [0] m ?_;simp only[↓aD];refine⟨by omega,?_⟩;intro u m;rw[←hcs] at m ⊢;refine hK1 (N-(k+1)) _ _ ?_ ?_ ?_
       · omega
       · simp only[zz,zv]
       · simp only[zQ,zR,zD,zE]
         exact⟨k+1,_,_,rfl,(m.sel [false,false,true,true,true]),by omega,rfl⟩
   · skip
     obtain rfl:k=N:=by omega
     rw[show ts.take k=ts from be (by omega)] at m ⊢;refine aS 4 [0] m ?_;simp only[↓aD];intro u m;refine bJ rfl rfl (Vp (ts:=wY p q ts) _ ((m.o 0 rfl).tris (Sl inferInstance hT.it)) (by have:=aaV p q ts;omega)) ?_;rintro v u e ⟨A8,cap8,n8,hn8,rfl,hN⟩;replace m:=m.newO e hN;clear e hN;refine aP 3 [] m ?_;simp only[↓aD];intro u m;refine aQ rfl rfl ?_;try simp only[zD,zE]
     exact⟨_,rfl,m.ext,⟨_,_,_,by rw[hn8,afe],rfl,(m.o 0 rfl)⟩⟩
end Go.Proofs.YtfekpcimgncioaaGreatDoor
namespace Go.Lith
open Go.RowKit
def mX(D:List (P3 × Hd))(p:P3):Hd:=(bU D p).getD ⟨none,0,0⟩
def Vq(p:P3)(q:P3):List P3:=if q≠p then [q] else []
def nbT(p:P3)(t:T3):List P3:=Vq p t.a++Vq p t.b++Vq p t.c
def lI(ts:List T3)(p:P3):List P3:=(ts.filter fun t=>t.has p).flatMap (nbT p)
theorem yN{p q x:P3}:x∈Vq p q↔x=q∧x≠p:=by
 unfold Vq;split
 · rename_i h;rw[ay];exact⟨fun e=>⟨e,e▸h⟩,fun e=>e.1⟩
 · rename_i h;exact⟨fun e=>(by cases e),fun e=>absurd (e.1▸e.2) h⟩
theorem pF{ts:List T3}{p x:P3}:x∈lI ts p↔Rq ts p x=true:=by
 unfold lI;rw[Rs,Da,List.mem_flatMap];constructor
 · rintro⟨t,ht,hx⟩
   obtain⟨h1,h2⟩:=di.1 ht;unfold nbT at hx;rw[bg,bg,yN,yN,yN] at hx;have hne:x≠p:=by rcases hx with (h | h) | h <;> exact h.2
   have hh:t.has x=true:=nP.2 (by rcases hx with (h | h) | h <;> simp[h.1]);exact⟨hne,t,h1,h2,hh⟩
 · rintro⟨hne,t,h1,h2,hh⟩
   refine⟨t,di.2 ⟨h1,h2⟩,?_⟩;unfold nbT;rw[bg,bg,yN,yN,yN];rcases nP.1 hh with e | e | e
   · exact .inl (.inl ⟨e,hne⟩)
   · exact .inl (.inr ⟨e,hne⟩)
   · exact .inr ⟨e,hne⟩
theorem aff{p q:P3}(h:¬(q.x=p.x∧q.y=p.y∧q.z=p.z)):Vq p q=[q]:=if_pos fun e=>h (by rw[e];exact⟨rfl,rfl,rfl⟩)
theorem afg{p q:P3}(h:¬¬(q.x=p.x∧q.y=p.y∧q.z=p.z)):Vq p q=[]:=if_neg fun k=>h fun e=>k (P3.eq e.1 e.2.1 e.2.2)
theorem afh{fs:List T3}{p:P3}{k:Nat}{t:T3}(h:fs[k]? = some t):(fs.take (k+1)).flatMap (nbT p)=(fs.take k).flatMap (nbT p)++Vq p t.a++Vq p t.b++Vq p t.c:=by
 rw[cC h,av,List.flatMap_cons,List.flatMap_nil,e_];unfold nbT;simp only[cq]
end Go.Lith
namespace Go.Proofs.YtfekpcimgncioaaGreatDoor
open Go.Proofs.Tryz
open Go.RowKit Go.Lith
set_option maxRecDepth 100000
attribute [local irreducible] ao bz eZ bE bX Code.wp
attribute [local congr] nO fF fG fH fI fJ jH fK fL fM fN fO fP fQ fR fS fT fU dX dY fV fW fY fZ gA jJ cO cP cA cN fX jI dZ eA eB gB gC jK
theorem Sn{g90 ga gf N cap ca:Nat}{A:Option Addr}{ea:Array bx}{D:List (P3 × Hd)}{ts:List T3}{p:P3}(w:ah)(hB90:fA w g90 [.slice A N cap,.map (some ga),.map (some gf)] 109)(hMa:gW w ga ea ca)(hDa:bB pt Hd.v D ea ca)(hS:∀p,bK w (mX D p).A (mX D p).n (ts.filter fun t=>t.has p)∧(mX D p).n≤(mX D p).cap)(hN:ts.length≤10000000):dF prog 62 [.pointer (some ⟨g90,0,none⟩),pt p] w (fun v w'=>∃g es c,v=.map (some g)∧Mem w w' [mI g es c]∧bB pt bf (eY [] (lI ts p)) es c):=by
 refine⟨anz,?_⟩;have m:=Mem.refl w
 go_enter func62,ntmps62
 refine eS 7 [0] m ?_;simp only[↓aD];intro g1;intro u m;refine kH m ?_;clear m;intro q8 u m;have hD8:=bB.nil (K:=P3) (V:=Bool) pt bf;refine aP 4 [0] m ?_;simp only[↓aD];intro u m;refine mq m aC (by kernel_rfl) (eC 3 [] ?_);simp only[↓aD,Kq,aa];refine ql rfl (fun u m=>((hB90.ext m.ext).lies1 aaF rfl)) ?_;simp only[zz];refine ql rfl (fun u m=>((m.b 1 rfl).full aG aA)) ?_;simp only[zz];refine jC (fun u m=>dK (ek:=pt) (en:=Hd.v) (k:=p) (v0:=⟨none,0,0⟩) underlying106 aaE fB rfl rfl (hMa.ext m.ext) hDa) ?_;simp only[zz];refine aH (Ec rfl bT rfl) (aH aI (aY ?_));clear m;intro u m;simp only[zz];obtain⟨⟨A9,n9,cap9⟩,hhe⟩:∃h:Hd,h=(bU D p).getD ⟨none,0,0⟩:=⟨_,rfl⟩
 have hT9:=hS p;unfold mX at hT9;rw[←hhe] at hT9;obtain⟨hT9,hle9⟩:=hT9;simp only at hT9 hle9;have hl9:=hT9.len;have hfl:=ep (fun t=>T3.has t p) ts;rw[←hhe];simp only[Hd.v];refine cR 1 [0] m ?_;simp only[↓aD];intro u m;refine bW [18] [7,9,19,20,21,22,23,24,25,26,27,28,29,30,31,32] (fun n vs wl=>∃(k:Nat) (es:Array bx) (c:Nat),vs=[.int .i64 (k:Int)]∧Mem w wl [mI q8 es c,bI g1 [.int .i64 p.x,.int .i64 p.y,.int .i64 p.z] 30]∧(bB pt bf (eY [] (((ts.filter fun t=>t.has p).take k).flatMap (nbT p))) es c)∧(k≤n9)∧(n=n9-k)) ?_ ?_
 · skip
   apply Exists.intro;simp only[zQ,zR,zD,zE];exact⟨0,_,_,rfl,m,hD8,cd _,rfl⟩
 · intro n vs wr hI u K1 hK1
   clear m;obtain⟨k,es8,c8,rfl,m,hD8,hk,hn⟩:=hI;simp only[zu,zF,zG];refine aS 5 [0,0] m ?_;simp only[↓aD];intro u m;refine bC rfl (fun hc1=>?_) (fun hc1=>?_)
   · skip
     obtain⟨t,ht,_,a,rfl,hrow⟩:=hT9.get (i:=k) (by omega);refine aS 5 [0] m ?_;simp only[↓aD];intro u m;refine aB (aF bT aN rfl rfl (by omega) (by omega) (cI (ag _))) ?_;simp only[zz];refine aO rfl ((hrow.ext m.ext).lies cF aN) ?_;simp only[zz];refine aP 22 [0,0,4,1,0] m ?_;simp only[↓aD,mU,gZ,aa];intro g3;refine⟨by omega,?_⟩;intro u m;refine aB (qG rfl rfl) (aP 7 [0,0,3,0] m ?_);simp only[↓aD,eU,aR,aa];intro g4;intro u m;refine aB (gL rfl rfl) (aP 1 [0] m ?_);simp only[↓aD];intro u m;refine iM m 2 [] [29,30] (fun vs i=>∃(es:Array bx) (c:Nat),vs=[]∧i=mI q8 es c∧(bB pt bf (eY [] ((((ts.filter fun t=>t.has p).take k).flatMap (nbT p))++Vq p t.a)) es c)) ?_ ?_
     · intro K2 hK2
       refine bC rfl (fun hc3=>?_) (fun hc3=>?_)
       · skip
         refine aS 3 [0,0] m ?_;simp only[↓aD,aR];intro u m;refine lE (ek:=pt) (en:=bf) (a:=t.a) (v:=true) m 2 rfl lN fB rfl rfl rfl hD8 ?_;clear m;intro es8 c8 u m hD';clear hD8;have hD8:=hD';clear hD';simp only[zF,zG] at m;rw[←kM] at hD8;refine aP 1 [0] m ?_;simp only[↓aD];intro u m;refine hK2 _ _ _ ?_ m ?_
         · simp only[zz,zv]
         · simp only[zQ,zR,zD,zE]
           exact⟨_,_,trivial,rfl,by rw[aff hc3];exact hD8⟩
       · skip
         refine aS 1 [0] m ?_;simp only[↓aD];intro u m;refine hK2 _ _ _ ?_ m ?_
         · simp only[zz,zv]
         · simp only[zQ,zR,zD,zE]
           exact⟨_,_,trivial,rfl,by rw[afg hc3,e_];exact hD8⟩
     · intro vs i wr m hI u
       obtain⟨es8,c8,rfl,rfl,hD8⟩:=hI;simp only[zF,zG] at m;simp only[zu,zF,zG];refine cR 17 [1,0] m ?_;simp only[↓aD,ai];refine⟨by omega,?_⟩;intro u m;refine aB (qH rfl rfl) (aP 7 [0,0,4,0] m ?_);simp only[↓aD,eU,aR,aa];intro g5;intro u m;refine aB (gL rfl rfl) (aP 1 [0] m ?_);simp only[↓aD];intro u m;refine iM m 3 [] [29,30] (fun vs i=>∃(es:Array bx) (c:Nat),vs=[]∧i=mI q8 es c∧(bB pt bf (eY [] (((((ts.filter fun t=>t.has p).take k).flatMap (nbT p))++Vq p t.a)++Vq p t.b)) es c)) ?_ ?_
       · intro K3 hK3
         refine bC rfl (fun hc3=>?_) (fun hc3=>?_)
         · skip
           refine aS 3 [0,0] m ?_;simp only[↓aD,aR];intro u m;refine lE (ek:=pt) (en:=bf) (a:=t.b) (v:=true) m 3 rfl lN fB rfl rfl rfl hD8 ?_;clear m;intro es8 c8 u m hD';clear hD8;have hD8:=hD';clear hD';simp only[zF,zG] at m;rw[←kM] at hD8;refine aP 1 [0] m ?_;simp only[↓aD];intro u m;refine hK3 _ _ _ ?_ m ?_
           · simp only[zz,zv]
           · simp only[zQ,zR,zD,zE]
             exact⟨_,_,trivial,rfl,by rw[aff hc3];exact hD8⟩
         · skip
           refine aS 1 [0] m ?_;simp only[↓aD];intro u m;refine hK3 _ _ _ ?_ m ?_
           · simp only[zz,zv]
           · simp only[zQ,zR,zD,zE]
             exact⟨_,_,trivial,rfl,by rw[afg hc3,e_];exact hD8⟩
       · intro vs i wr m hI u
         obtain⟨es8,c8,rfl,rfl,hD8⟩:=hI;simp only[zF,zG] at m;simp only[zu,zF,zG];refine cR 17 [1,0] m ?_;simp only[↓aD,ai];refine⟨by omega,?_⟩;intro u m;refine aB (qI rfl rfl) (aP 7 [0,0,5,0] m ?_);simp only[↓aD,eU,aR,aa];intro g6;intro u m;refine aB (gL rfl rfl) (aP 1 [0] m ?_);simp only[↓aD];intro u m;refine iM m 4 [] [29,30] (fun vs i=>∃(es:Array bx) (c:Nat),vs=[]∧i=mI q8 es c∧(bB pt bf (eY [] ((((((ts.filter fun t=>t.has p).take k).flatMap (nbT p))++Vq p t.a)++Vq p t.b)++Vq p t.c)) es c)) ?_ ?_
         · intro K4 hK4
           refine bC rfl (fun hc3=>?_) (fun hc3=>?_)
           · skip
             refine aS 3 [0,0] m ?_;simp only[↓aD,aR];intro u m;refine lE (ek:=pt) (en:=bf) (a:=t.c) (v:=true) m 4 rfl lN fB rfl rfl rfl hD8 ?_;clear m;intro es8 c8 u m hD';clear hD8;have hD8:=hD';clear hD';simp only[zF,zG] at m;rw[←kM] at hD8;refine aP 1 [0] m ?_;simp only[↓aD];intro u m;refine hK4 _ _ _ ?_ m ?_
             · simp only[zz,zv]
             · simp only[zQ,zR,zD,zE]
               exact⟨_,_,trivial,rfl,by rw[aff hc3];exact hD8⟩
           · skip
             refine aS 1 [0] m ?_;simp only[↓aD];intro u m;refine hK4 _ _ _ ?_ m ?_
             · simp only[zz,zv]
             · simp only[zQ,zR,zD,zE]
               exact⟨_,_,trivial,rfl,by rw[afg hc3,e_];exact hD8⟩
         · intro vs i wr m hI u
           obtain⟨es8,c8,rfl,rfl,hD8⟩:=hI;simp only[zF,zG] at m;simp only[zu,zF,zG];refine cR 18 [2,0] m ?_;simp only[↓aD,ai];refine⟨by omega,?_⟩;intro u m;refine hK1 (n9-(k+1)) _ _ ?_ ?_ ?_
           · omega
           · simp only[zz,zv]
           · simp only[zQ,zR,zD,zE]
             exact⟨k+1,_,_,rfl,(m.sel [false,false,false,false,true,true]),by rw[afh ht];exact hD8,by omega,rfl⟩
   · skip
     obtain rfl:k=n9:=by omega
     rw[show (ts.filter fun t=>t.has p).take k=ts.filter fun t=>t.has p from be (by omega)] at hD8;refine aS 7 [] m ?_;simp only[↓aD];intro u m;exact aQ rfl rfl (⟨_,rfl,m.ext,_,_,_,rfl,m.sel [true,false],hD8⟩)
end Go.Proofs.YtfekpcimgncioaaGreatDoor
namespace Go.Proofs.YtfekpcimgncioaaGreatDoor
open Go.Proofs.Tryz
open Go.RowKit Go.Lith
set_option maxRecDepth 100000
attribute [local irreducible] ao bz eZ Code.wp
end Go.Proofs.YtfekpcimgncioaaGreatDoor
namespace Go.Proofs.YtfekpcimgncioaaGreatDoor
open Go.Proofs.Tryz
open Go.RowKit Go.Lith
set_option maxRecDepth 100000
attribute [local irreducible] ao bz eZ bE bX Code.wp
attribute [local congr] nO fF fG fH fI fJ jH fK fL fM fN fO fP fQ fR fS fT fU dX dY fV fW fY fZ gA jJ cO cP cA cN fX jI dZ eA eB gB gC jK
end Go.Proofs.YtfekpcimgncioaaGreatDoor
namespace Go.Proofs.YtfekpcimgncioaaGreatDoor
open Go.Proofs.Tryz
open Go.RowKit Go.Lith
set_option maxRecDepth 100000
attribute [local irreducible] ao bz eZ Code.wp
end Go.Proofs.YtfekpcimgncioaaGreatDoor
namespace Go.Proofs.YtfekpcimgncioaaGreatDoor
open Go.Proofs.Tryz
open Go.RowKit Go.Lith
set_option maxRecDepth 100000
attribute [local irreducible] ao bz eZ bE bX Code.wp
attribute [local congr] nO fF fG fH fI fJ jH fK fL fM fN fO fP fQ fR fS fT fU dX dY fV fW fY fZ gA jJ cO cP cA cN fX jI dZ eA eB gB gC jK
theorem Lg{l:List UInt8}(hl:l.length≤1000000000000000):eM prog 315 [.string (mM l),.int .u8 0] (.string (mM (rD l))):=by
 intro w;refine⟨akN,?_⟩;have m:=Mem.refl w
 go_enter func315,ntmps315
 refine eS 6 [0] m ?_;simp only[↓aD];intro u m;refine bW [0] [5,6,7,8,9,10,11,12,13,14,15] (fun n vs wl=>∃(k:List UInt8),vs=[.string (mM k)]∧Mem w wl []∧(rD k=rD l)∧(k.length≤1000000000000000)∧(n=k.length)) ?_ ?_
 ·
  apply Exists.intro;simp only[zQ,zR,zD,zE];exact⟨l,rfl,m,rfl,hl,rfl⟩
 ·
  intro n vs wr hI u K1 hK1;clear m;obtain⟨k,rfl,m,hk,hl,hn⟩:=hI;have hsz:=Ax k;simp only[zu,zF,zG];refine aS 2 [] m ?_;simp only[↓aD];intro u m;by_cases hk0:0<k.length
  ·
   obtain⟨b,hb⟩:∃b,k[0]? = some b:=⟨k[0],an hk0⟩
   refine cR 2 [0] m ?_;simp only[↓aD];intro u m;refine aB (tD rfl oX rfl) (aP 3 [1,0] m ?_);simp only[↓aD];refine⟨by omega,?_⟩;intro u m;refine eD rfl (aB ((qZ oX rfl rfl (by omega) (by rw[abA];exact hb))) ?_);refine aP 4 [0,0] m ?_;simp only[↓aD];intro u m;refine bC rfl (fun hc1=>?_) (fun hc1=>?_)
   ·
    refine aS 4 [0] m ?_;simp only[↓aD];intro u m;refine aB (adc oX rfl rfl (by omega) (by omega)) (aP 2 [] m ?_);simp only[↓aD];intro u m;rw[show (1:Int).toNat=1 from rfl,Xf];refine cR 1 [0] m ?_;simp only[↓aD];intro u m;refine hK1 ((k.drop 1).length) _ _ ?_ ?_ ?_
    · rw[ej];omega
    · simp only[zz,zv]
    ·
     simp only[zQ,zR,zD,zE];exact⟨k.drop 1,rfl,m,by rw[Xg hb (by omega)];exact hk,by rw[ej];omega,rfl⟩
   ·
    refine aS 7 [] m ?_;simp only[↓aD];intro u m;refine aQ rfl rfl ?_;try simp only[zD,zE]
    exact⟨_,rfl,m.ext,by rw[←hk,Xh hb (by omega)]⟩
  ·
   obtain rfl:k=[]:=eh (by omega);refine cR 2 [0] m ?_;simp only[↓aD];intro u m;refine aB (tD rfl oX rfl) (aP 16 [2] m ?_);simp only[↓aD];refine⟨by omega,?_⟩;intro u m;refine aQ rfl rfl ?_;try simp only[zD,zE]
   exact⟨_,rfl,m.ext,by rw[←hk,abB]⟩
theorem Zq{l:List UInt8}(hl:l.length≤1000000000000000):eM prog 258 [.string (mM l),.string ⟨#[0]⟩] (.string (mM (rD l))):=by
 intro w;refine⟨akx,?_⟩;have m:=Mem.refl w;have hsz:=Ax l
 go_enter func258,ntmps258
 refine eS 6 [] m ?_;simp only[↓aD];intro u m;by_cases hk0:l=[]
 ·
  subst hk0;refine cR 2 [0] m ?_;simp only[↓aD];intro u m;refine aB (ai5 (Xd oX rfl rfl) (show _=bf true by simp[mM])) (aP 12 [] m ?_);simp only[↓aD];intro u m;exact aQ rfl rfl (⟨_,rfl,m.ext,rfl⟩)
 ·
  refine cR 2 [0] m ?_;simp only[↓aD];intro u m;refine aB (ai5 (Xd oX rfl rfl) (show _=bf false by simp only[Tu,hk0,decide_false])) (aP 2 [0] m ?_);simp only[↓aD];intro u m;refine eD rfl (aB (ai5 (Xd oX rfl rfl) (show _=bf false by simp)) ?_);refine aP 8 [0] m ?_;simp only[↓aD];intro u m;refine aB (tD rfl oX rfl) (aB (vZ rfl rfl rfl) ?_);refine aP 2 [0] m ?_;simp only[↓aD];intro u m;refine eD rfl (aB ((qZ (b:=0) oX rfl rfl (by omega) rfl)) (eD rfl (aB (oB rfl rfl (by decide)) ?_)));refine aP 7 [0] m ?_;simp only[↓aD];intro u m;refine aB ((qZ (b:=0) oX rfl rfl (by omega) rfl)) ?_;simp only[zz];refine vJ m rfl rfl (Lg hl) 3 [] ?_;simp only[↓aD];intro u m;exact aQ rfl rfl (⟨_,rfl,m.ext,rfl⟩)
theorem Fl{A:Option Addr}{xs:List Nat}{na cap:Nat}(w:ah)(hS:jR w A na cap xs):dF prog 256 [.slice A na cap] w (fun v _=>v=.slice A (trim xs).length cap):=by
 refine⟨akv,?_⟩;have m:=Mem.refl w;obtain rfl:=hS.eq;have hl:=hS.len;have hle:=hS.le
 go_enter func256,ntmps256
 refine eS 6 [0] m ?_;simp only[↓aD];intro u m;refine bW [0] [3,4,5,6,7,8,9,10,11,12,13,14,15,16,17,18,19] (fun n vs wl=>∃(k:Nat),vs=[.slice A k cap]∧Mem w wl []∧(k≤xs.length)∧(trim (xs.take k)=trim xs)∧(n=k)) ?_ ?_
 ·
  apply Exists.intro;simp only[zQ,zR,zD,zE];exact⟨xs.length,rfl,m,ap _,by rw[fy],rfl⟩
 ·
  intro n vs wr hI u K1 hK1;clear m;obtain⟨k,rfl,m,hk,ht,hn⟩:=hI;simp only[zu,zF,zG];refine aS 2 [] m ?_;simp only[↓aD];intro u m;by_cases hk0:0<k
  ·
   obtain⟨a,rfl,hcell,hlt⟩:=hS.get (show k-1<xs.length by omega);refine cR 9 [1,0] m ?_;simp only[↓aD,iW];refine⟨by omega,?_⟩;intro u m;refine eD rfl (aB (aF eK bO rfl rfl (by omega) (by omega) (pP (show _=k-1 by omega))) (eD rfl ?_));simp only[zz];refine aO rfl (lies1 (m.ext.cell hcell) kE) ?_;simp only[zz];refine aP 3 [0,0] m ?_;simp only[↓aD];intro u m;refine bC rfl (fun hc1=>?_) (fun hc1=>?_)
   ·
    refine aS 7 [0] m ?_;simp only[↓aD,iW];refine⟨by omega,?_⟩;intro u m;refine aB (lB eK bO rfl rfl (show _=k-1 by omega) (by omega) (by omega)) (aP 3 [0] m ?_);simp only[↓aD];intro u m;refine hK1 (k-1) _ _ ?_ ?_ ?_
    · omega
    · simp only[zz,zv]
    ·
     simp only[zQ,zR,zD,zE];exact⟨k-1,rfl,m,by omega,abv hk0 (by omega) hc1 ht,rfl⟩
   ·
    refine aS 7 [] m ?_;simp only[↓aD];intro u m;refine aQ rfl rfl ?_;try simp only[zD,zE]
    exact⟨_,rfl,m.ext,by rw[←ade hk0 (by omega) hc1 ht]⟩
  ·
   obtain rfl:k=0:=by omega
   refine cR 22 [2] m ?_;simp only[↓aD,iW];refine⟨by omega,?_⟩;intro u m;refine aQ rfl rfl ?_;try simp only[zD,zE]
   exact⟨_,rfl,m.ext,by rw[←adf ht]⟩
theorem aov{A B:Option Addr}{xs ys:List Nat}{na nb ca cb:Nat}(w:ah)(hS:jR w A na ca xs)(hR:jR w B nb cb ys)(tx:jF xs)(ty:jF ys):dF prog 187 [.slice A na ca,.slice B nb cb] w (fun v _=>v=.int .i64 (ord (val 4294967296 xs) (val 4294967296 ys))):=by
 refine⟨aj7,?_⟩;have m:=Mem.refl w;obtain rfl:=hS.eq;obtain rfl:=hR.eq;have hl:=hS.len;have hl2:=hR.len
 go_enter func187,ntmps187
 refine eS 15 [0,0] m ?_;simp only[↓aD,iW];intro u m;refine bC rfl (fun hc1=>?_) (fun hc1=>?_)
 ·
  refine aS 5 [] m ?_;simp only[↓aD];intro u m;refine aQ rfl rfl ?_;try simp only[zD,zE]
  exact⟨_,rfl,m.ext,by rw[ord,if_pos (tG (by omega) hS.digs hR.digs ty (by omega))]⟩
 ·
  refine aS 9 [0,0] m ?_;simp only[↓aD,iW];intro u m;refine bC rfl (fun hc2=>?_) (fun hc2=>?_)
  ·
   refine aS 5 [] m ?_;simp only[↓aD];intro u m;refine aQ rfl rfl ?_;try simp only[zD,zE]
   exact⟨_,rfl,m.ext,by have:=tG (B:=4294967296) (by omega) hR.digs hS.digs tx (by omega);rw[ord,if_neg (by omega),if_pos this]⟩
  ·
   refine lF 11 [0] m ?_;simp only[↓aD,iW];refine⟨by omega,?_⟩;rintro u m rfl;refine bW [5] [4,21,22,23,24,25,26,27,28,29,30,31,32,33,34,35,36,37,38,39,40,41,42,43,44] (fun n vs wl=>∃(k:Nat),vs=[.int .i64 ((k:Int)-1)]∧Mem w wl []∧(k≤xs.length)∧(xs.drop k=ys.drop k)∧(n=k)) ?_ ?_
   ·
    apply Exists.intro;simp only[zQ,zR,zD,zE];exact⟨xs.length,rfl,m,ap _,by rw[List.drop_length,show xs.length=ys.length by omega,List.drop_length],rfl⟩
   ·
    intro n vs wr hI u K1 hK1;clear m;obtain⟨k,rfl,m,hk,hd,hn⟩:=hI;simp only[zu,zF,zG];refine aS 6 [0,0] m ?_;simp only[↓aD];intro u m;refine bC rfl (fun hc3=>?_) (fun hc3=>?_)
    ·
     refine aS 5 [] m ?_;simp only[↓aD];intro u m;obtain⟨a,rfl,hca,_⟩:=hS.get (show k-1<xs.length by omega);obtain⟨b,rfl,hcb,_⟩:=hR.get (show k-1<ys.length by omega);refine gc (mq m aC (by kernel_rfl) (aH aI (aH aI ?_)));simp only[zz];refine aH (aF eK bO rfl rfl (by omega) (by omega) (pP (show _=k-1 by omega))) ?_;simp only[zz];refine ql rfl (fun u m=>(lies1 (m.ext.cell hca) kE)) ?_;simp only[zz];refine aH aI (aH aI ?_);simp only[zz];refine aH (aF eK bO rfl rfl (by omega) (by omega) (pP (show _=k-1 by omega))) ?_;simp only[zz];refine ql rfl (fun u m=>(lies1 (m.ext.cell hcb) kE)) ?_;simp only[zz];refine aH (zX rfl rfl) (aH aM (aY ?_));clear m;intro u m;refine gc ?_;simp only[zz];refine bC rfl (fun hc4=>?_) (fun hc4=>?_)
     ·
      refine aS 5 [] m ?_;simp only[↓aD];intro u m;refine aQ rfl rfl ?_;try simp only[zD,zE]
      exact⟨_,rfl,m.ext,by rw[ord,if_pos (adg hS.digs (by omega) (by omega) (by omega) hd hc4)]⟩
     ·
      refine aS 1 [] m ?_;simp only[↓aD];intro u m;have hca:=hS.at (show k-1<xs.length by omega);have hcb:=hR.at (show k-1<ys.length by omega);refine gc (mq m aC (by kernel_rfl) (aH aI (aH aI ?_)));simp only[zz];refine aH (aF eK bO rfl rfl (by omega) (by omega) (pP (show _=k-1 by omega))) ?_;simp only[zz];refine ql rfl (fun u m=>(lies1 (m.ext.cell hca) kE)) ?_;simp only[zz];refine aH aI (aH aI ?_);simp only[zz];refine aH (aF eK bO rfl rfl (by omega) (by omega) (pP (show _=k-1 by omega))) ?_;simp only[zz];refine ql rfl (fun u m=>(lies1 (m.ext.cell hcb) kE)) ?_;simp only[zz];refine aH (ac6 rfl rfl) (aH aM (aY ?_));clear m;intro u m;refine gc ?_;simp only[zz];refine bC rfl (fun hc5=>?_) (fun hc5=>?_)
      ·
       refine aS 5 [] m ?_;simp only[↓aD];intro u m;refine aQ rfl rfl ?_;try simp only[zD,zE]
       exact⟨_,rfl,m.ext,by have:=adg hR.digs (by omega) (by omega) (by omega) hd.symm hc5;rw[ord,if_neg (by omega),if_pos this]⟩
      ·
       refine lF 8 [0] m ?_;simp only[↓aD];refine⟨by omega,?_⟩;rintro u m rfl;rw[show ((k:Int)-1-1)=((k-1:Nat):Int)-1 by omega];refine hK1 (k-1) _ _ ?_ ?_ ?_
       · omega
       · simp only[zz,zv]
       ·
        simp only[zQ,zR,zD,zE];exact⟨k-1,rfl,m,by omega,abw (by omega) (by omega) (by omega) hd hc4 hc5,rfl⟩
    ·
     refine lF 6 [] m ?_;simp only[↓aD];rintro u m rfl;refine aQ rfl rfl ?_;try simp only[zD,zE]
     exact⟨_,rfl,m.ext,by have h0:k=0:=(by omega);subst h0;simp only[mj] at hd;rw[hd,ord,if_neg (by omega),if_neg (by omega)]⟩
theorem aow{A B:Option Addr}{xs ys:List Nat}{na nb ca cb:Nat}(w:ah)(hS:jR w A na ca xs)(hR:jR w B nb cb ys)(hlx:xs.length≤1099511627776)(hly:ys.length≤1099511627776):dF prog 186 [.slice A na ca,.slice B nb cb] w (oC (val 4294967296 xs+val 4294967296 ys)):=by
 refine⟨aj6,?_⟩;have m:=Mem.refl w;obtain rfl:=hS.eq;obtain rfl:=hR.eq
 go_enter func186,ntmps186
 refine eS 13 [0,0] m ?_;simp only[↓aD,iW];intro u m;refine bC rfl (fun hc1=>?_) (fun hc1=>?_)
 ·
  obtain⟨qb,rfl⟩:∃q,q=xs:=⟨_,rfl⟩
  obtain⟨qa,rfl⟩:∃q,q=ys:=⟨_,rfl⟩
  obtain⟨Qb,rfl⟩:∃q,q=A:=⟨_,rfl⟩
  obtain⟨Qa,rfl⟩:∃q,q=B:=⟨_,rfl⟩
  have hSa:=hR;have hSb:=hS;refine aS 11 [0] m ?_;simp only[↓aD,iW];refine⟨by omega,?_⟩;intro u m;refine sB eK Cr rfl rfl rfl (show _=qa.length+1 by omega) (show _=qa.length+1 by omega) (by omega) (by omega) (by omega) (by omega) ?_;intro u g1 e hg hB;replace m:=m.newB e hg hB;clear e hg hB;refine aP 2 [] m ?_;simp only[↓aD];intro u m;rw[lS] at m;refine cR 12 [0] m ?_;simp only[↓aD,iW];intro u m;refine bW [6,22] [7,8,23,24,25,26,27,28,29,30,31,32,33,34,35,36,37,38,39,40,41,42,43,44,45,46,47,48] (fun n vs wl=>∃(i c:Nat) (os:List Nat),vs=[.int .u64 (c:Int),.int .i64 (i:Int)]∧Mem w wl [bI g1 (os.map Ee) 231]∧(i≤qa.length)∧(os.length=qa.length+1)∧(val 4294967296 os+4294967296^i*c=val 4294967296 (qa.take i)+val 4294967296 (qb.take i))∧(os.drop i=de (qa.length+1-i) 0)∧(gS 4294967296 os)∧(c≤1)∧(n=qa.length-i)) ?_ ?_
  ·
   apply Exists.intro;simp only[zQ,zR,zD,zE];exact⟨0,0,de (qa.length+1) 0,rfl,m,by omega,by simp,by simp[lT,val],by simp,fun x hx=>by rw[ir hx];decide,by omega,rfl⟩
  ·
   intro n vs wr hI u K1 hK1;clear m;obtain⟨i,c,os,rfl,m,hi,hlo,hv,hz,hd,hc,hn⟩:=hI;simp only[zu,zF,zG];refine aS 5 [0,0] m ?_;simp only[↓aD];intro u m;refine bC rfl (fun hc2=>?_) (fun hc2=>?_)
   ·
    refine aS 9 [] m ?_;simp only[↓aD];intro u m;obtain⟨a,rfl,hca,hla⟩:=hSa.get (show i<qa.length by omega);refine cR 3 [0] m ?_;simp only[↓aD];intro u m;refine aB (aF eK bO rfl rfl (by omega) (by omega) (pP (ag _))) ?_;simp only[zz];refine aO rfl (lies1 (m.ext.cell hca) kE) ?_;simp only[zz];refine aP 12 [0,0] m ?_;simp only[↓aD,iW];refine⟨by omega,?_⟩;intro u m;refine bC rfl (fun hc3=>?_) (fun hc3=>?_)
    ·
     obtain⟨b,rfl,hcb,hlb⟩:=hSb.get (show i<qb.length by omega);refine aS 4 [0] m ?_;simp only[↓aD];intro u m;refine aB (aF eK bO rfl rfl (by omega) (by omega) (pP (ag _))) ?_;simp only[zz];refine aO rfl (lies1 (m.ext.cell hcb) kE) ?_;simp only[zz];refine aP 3 [] m ?_;simp only[↓aD];refine⟨by omega,?_⟩;intro u m;obtain⟨s,hs⟩:∃s:Nat,(s:Int)=↑qa[i]+↑c+↑qb[i]:=⟨qa[i]+c+qb[i],by omega⟩
     rw[←hs];have hs2:s=qa[i]+c+qb[i]?.getD 0:=by rw[an (by omega)];simp;omega
     have hyb:qb[i]?.getD 0<4294967296:=by rw[an (by omega)];exact hlb
     refine cR 4 [0] m ?_;simp only[↓aD];intro u m;refine aB (jY rfl rfl (oT (by omega) (by omega))) (aP 1 [0] m ?_);simp only[↓aD];intro u m;refine aB (jQ rfl rfl (by omega) (Nm (by omega))) ?_;simp only[zz];refine aB (aF eK bO rfl rfl (by omega) (by omega) (eT (ag _))) ?_;simp only[zz];refine cK m 0 rfl rfl rfl bO (by simp;omega) ⟨rfl,rfl⟩ ?_;clear m;intro u m;simp only[zz] at m ;rw[show ((s:Int)%4294967296)=((s%4294967296:Nat):Int) by omega,kU (by omega)] at m;refine aP 7 [0] m ?_;simp only[↓aD];refine⟨by omega,?_⟩;intro u m;obtain⟨r1,r2,r3,r4⟩:=xZ (by omega) hlo hv hz hd hc hs2 hla hyb;rw[show ((i:Int)+1)=((i+1:Nat):Int) by omega,show ((s:Int) / 4294967296)=((s / 4294967296:Nat):Int) by omega];refine hK1 (qa.length-(i+1)) _ _ ?_ ?_ ?_
     · omega
     · simp only[zz,zv]
     ·
      simp only[zQ,zR,zD,zE];exact⟨i+1,s / 4294967296,os.set i (s%4294967296),rfl,m,by omega,by simpa using hlo,r1,r2,r3,r4,rfl⟩
    ·
     obtain⟨s,hs⟩:∃s:Nat,(s:Int)=↑qa[i]+↑c:=⟨qa[i]+c,by omega⟩
     rw[←hs];have hs2:s=qa[i]+c+qb[i]?.getD 0:=by rw[ee (by omega)];simp;omega
     have hyb:qb[i]?.getD 0<4294967296:=by rw[ee (by omega)];decide
     refine aS 5 [0] m ?_;simp only[↓aD];intro u m;refine aB (jY rfl rfl (oT (by omega) (by omega))) (aP 1 [0] m ?_);simp only[↓aD];intro u m;refine aB (jQ rfl rfl (by omega) (Nm (by omega))) ?_;simp only[zz];refine aB (aF eK bO rfl rfl (by omega) (by omega) (eT (ag _))) ?_;simp only[zz];refine cK m 0 rfl rfl rfl bO (by simp;omega) ⟨rfl,rfl⟩ ?_;clear m;intro u m;simp only[zz] at m ;rw[show ((s:Int)%4294967296)=((s%4294967296:Nat):Int) by omega,kU (by omega)] at m;refine aP 7 [0] m ?_;simp only[↓aD];refine⟨by omega,?_⟩;intro u m;obtain⟨r1,r2,r3,r4⟩:=xZ (by omega) hlo hv hz hd hc hs2 hla hyb;rw[show ((i:Int)+1)=((i+1:Nat):Int) by omega,show ((s:Int) / 4294967296)=((s / 4294967296:Nat):Int) by omega];refine hK1 (qa.length-(i+1)) _ _ ?_ ?_ ?_
     · omega
     · simp only[zz,zv]
     ·
      simp only[zQ,zR,zD,zE];exact⟨i+1,s / 4294967296,os.set i (s%4294967296),rfl,m,by omega,by simpa using hlo,r1,r2,r3,r4,rfl⟩
   ·
    refine aS 2 [] m ?_;simp only[↓aD];intro u m;obtain rfl:i=qa.length:=by omega
    refine cR 5 [0] m ?_;simp only[↓aD,iW];intro u m;refine aB (aF eK bO rfl rfl (by omega) (by omega) (eT (ag _))) ?_;simp only[zz];refine cK m 0 rfl rfl rfl bO (by simp;omega) ⟨rfl,rfl⟩ ?_;clear m;intro u m;simp only[zz] at m ;rw[kU (by omega)] at m;refine aP 4 [0] m ?_;simp only[↓aD];intro u m;refine cW m rfl rfl (Fl _ ((m.b 0 rfl).nat (hd.set (show c<4294967296 by omega)) (by simp;omega) (by omega))) ?_;clear m;rintro v u m rfl;refine aP 3 [] m ?_;simp only[↓aD];intro u m;refine aQ rfl rfl ?_;try simp only[zD,zE]
    exact⟨_,rfl,m.ext,by first | exact oC.of_trim ((m.b 0 rfl).nat (hd.set (show c<4294967296 by omega)) (by simp;omega) (by omega)) (Hq (by omega) hlo hv hz) | (rw[Nat.add_comm];exact oC.of_trim ((m.b 0 rfl).nat (hd.set (show c<4294967296 by omega)) (by simp;omega) (by omega)) (Hq (by omega) hlo hv hz))⟩
 ·
  obtain⟨qa,rfl⟩:∃q,q=xs:=⟨_,rfl⟩
  obtain⟨qb,rfl⟩:∃q,q=ys:=⟨_,rfl⟩
  obtain⟨Qa,rfl⟩:∃q,q=A:=⟨_,rfl⟩
  obtain⟨Qb,rfl⟩:∃q,q=B:=⟨_,rfl⟩
  have hSa:=hS;have hSb:=hR;refine aS 6 [0] m ?_;simp only[↓aD,iW];refine⟨by omega,?_⟩;intro u m;refine sB eK Cr rfl rfl rfl (show _=qa.length+1 by omega) (show _=qa.length+1 by omega) (by omega) (by omega) (by omega) (by omega) ?_;intro u g1 e hg hB;replace m:=m.newB e hg hB;clear e hg hB;refine aP 2 [] m ?_;simp only[↓aD];intro u m;rw[lS] at m;refine cR 12 [0] m ?_;simp only[↓aD,iW];intro u m;refine bW [6,22] [7,8,23,24,25,26,27,28,29,30,31,32,33,34,35,36,37,38,39,40,41,42,43,44,45,46,47,48] (fun n vs wl=>∃(i c:Nat) (os:List Nat),vs=[.int .u64 (c:Int),.int .i64 (i:Int)]∧Mem w wl [bI g1 (os.map Ee) 231]∧(i≤qa.length)∧(os.length=qa.length+1)∧(val 4294967296 os+4294967296^i*c=val 4294967296 (qa.take i)+val 4294967296 (qb.take i))∧(os.drop i=de (qa.length+1-i) 0)∧(gS 4294967296 os)∧(c≤1)∧(n=qa.length-i)) ?_ ?_
  ·
   apply Exists.intro;simp only[zQ,zR,zD,zE];exact⟨0,0,de (qa.length+1) 0,rfl,m,by omega,by simp,by simp[lT,val],by simp,fun x hx=>by rw[ir hx];decide,by omega,rfl⟩
  ·
   intro n vs wr hI u K2 hK2;clear m;obtain⟨i,c,os,rfl,m,hi,hlo,hv,hz,hd,hc,hn⟩:=hI;simp only[zu,zF,zG];refine aS 5 [0,0] m ?_;simp only[↓aD];intro u m;refine bC rfl (fun hc2=>?_) (fun hc2=>?_)
   ·
    refine aS 9 [] m ?_;simp only[↓aD];intro u m;obtain⟨a,rfl,hca,hla⟩:=hSa.get (show i<qa.length by omega);refine cR 3 [0] m ?_;simp only[↓aD];intro u m;refine aB (aF eK bO rfl rfl (by omega) (by omega) (pP (ag _))) ?_;simp only[zz];refine aO rfl (lies1 (m.ext.cell hca) kE) ?_;simp only[zz];refine aP 12 [0,0] m ?_;simp only[↓aD,iW];refine⟨by omega,?_⟩;intro u m;refine bC rfl (fun hc3=>?_) (fun hc3=>?_)
    ·
     obtain⟨b,rfl,hcb,hlb⟩:=hSb.get (show i<qb.length by omega);refine aS 4 [0] m ?_;simp only[↓aD];intro u m;refine aB (aF eK bO rfl rfl (by omega) (by omega) (pP (ag _))) ?_;simp only[zz];refine aO rfl (lies1 (m.ext.cell hcb) kE) ?_;simp only[zz];refine aP 3 [] m ?_;simp only[↓aD];refine⟨by omega,?_⟩;intro u m;obtain⟨s,hs⟩:∃s:Nat,(s:Int)=↑qa[i]+↑c+↑qb[i]:=⟨qa[i]+c+qb[i],by omega⟩
     rw[←hs];have hs2:s=qa[i]+c+qb[i]?.getD 0:=by rw[an (by omega)];simp;omega
     have hyb:qb[i]?.getD 0<4294967296:=by rw[an (by omega)];exact hlb
     refine cR 4 [0] m ?_;simp only[↓aD];intro u m;refine aB (jY rfl rfl (oT (by omega) (by omega))) (aP 1 [0] m ?_);simp only[↓aD];intro u m;refine aB (jQ rfl rfl (by omega) (Nm (by omega))) ?_;simp only[zz];refine aB (aF eK bO rfl rfl (by omega) (by omega) (eT (ag _))) ?_;simp only[zz];refine cK m 0 rfl rfl rfl bO (by simp;omega) ⟨rfl,rfl⟩ ?_;clear m;intro u m;simp only[zz] at m ;rw[show ((s:Int)%4294967296)=((s%4294967296:Nat):Int) by omega,kU (by omega)] at m;refine aP 7 [0] m ?_;simp only[↓aD];refine⟨by omega,?_⟩;intro u m;obtain⟨r1,r2,r3,r4⟩:=xZ (by omega) hlo hv hz hd hc hs2 hla hyb;rw[show ((i:Int)+1)=((i+1:Nat):Int) by omega,show ((s:Int) / 4294967296)=((s / 4294967296:Nat):Int) by omega];refine hK2 (qa.length-(i+1)) _ _ ?_ ?_ ?_
     · omega
     · simp only[zz,zv]
     ·
      simp only[zQ,zR,zD,zE];exact⟨i+1,s / 4294967296,os.set i (s%4294967296),rfl,m,by omega,by simpa using hlo,r1,r2,r3,r4,rfl⟩
    ·
     obtain⟨s,hs⟩:∃s:Nat,(s:Int)=↑qa[i]+↑c:=⟨qa[i]+c,by omega⟩
     rw[←hs];have hs2:s=qa[i]+c+qb[i]?.getD 0:=by rw[ee (by omega)];simp;omega
     have hyb:qb[i]?.getD 0<4294967296:=by rw[ee (by omega)];decide
     refine aS 5 [0] m ?_;simp only[↓aD];intro u m;refine aB (jY rfl rfl (oT (by omega) (by omega))) (aP 1 [0] m ?_);simp only[↓aD];intro u m;refine aB (jQ rfl rfl (by omega) (Nm (by omega))) ?_;simp only[zz];refine aB (aF eK bO rfl rfl (by omega) (by omega) (eT (ag _))) ?_;simp only[zz];refine cK m 0 rfl rfl rfl bO (by simp;omega) ⟨rfl,rfl⟩ ?_;clear m;intro u m;simp only[zz] at m ;rw[show ((s:Int)%4294967296)=((s%4294967296:Nat):Int) by omega,kU (by omega)] at m;refine aP 7 [0] m ?_;simp only[↓aD];refine⟨by omega,?_⟩;intro u m;obtain⟨r1,r2,r3,r4⟩:=xZ (by omega) hlo hv hz hd hc hs2 hla hyb;rw[show ((i:Int)+1)=((i+1:Nat):Int) by omega,show ((s:Int) / 4294967296)=((s / 4294967296:Nat):Int) by omega];refine hK2 (qa.length-(i+1)) _ _ ?_ ?_ ?_
     · omega
     · simp only[zz,zv]
     ·
      simp only[zQ,zR,zD,zE];exact⟨i+1,s / 4294967296,os.set i (s%4294967296),rfl,m,by omega,by simpa using hlo,r1,r2,r3,r4,rfl⟩
   ·
    refine aS 2 [] m ?_;simp only[↓aD];intro u m;obtain rfl:i=qa.length:=by omega
    refine cR 5 [0] m ?_;simp only[↓aD,iW];intro u m;refine aB (aF eK bO rfl rfl (by omega) (by omega) (eT (ag _))) ?_;simp only[zz];refine cK m 0 rfl rfl rfl bO (by simp;omega) ⟨rfl,rfl⟩ ?_;clear m;intro u m;simp only[zz] at m ;rw[kU (by omega)] at m;refine aP 4 [0] m ?_;simp only[↓aD];intro u m;refine cW m rfl rfl (Fl _ ((m.b 0 rfl).nat (hd.set (show c<4294967296 by omega)) (by simp;omega) (by omega))) ?_;clear m;rintro v u m rfl;refine aP 3 [] m ?_;simp only[↓aD];intro u m;refine aQ rfl rfl ?_;try simp only[zD,zE]
    exact⟨_,rfl,m.ext,by first | exact oC.of_trim ((m.b 0 rfl).nat (hd.set (show c<4294967296 by omega)) (by simp;omega) (by omega)) (Hq (by omega) hlo hv hz) | (rw[Nat.add_comm];exact oC.of_trim ((m.b 0 rfl).nat (hd.set (show c<4294967296 by omega)) (by simp;omega) (by omega)) (Hq (by omega) hlo hv hz))⟩
theorem aiP{A B:Option Addr}{xs ys:List Nat}{na nb ca cb:Nat}(w:ah)(hS:jR w A na ca xs)(hR:jR w B nb cb ys)(hle:ys.length≤xs.length)(hge:val 4294967296 ys≤val 4294967296 xs)(hlx:xs.length≤1099511627776):dF prog 188 [.slice A na ca,.slice B nb cb] w (fun v w'=>oC (val 4294967296 xs-val 4294967296 ys) v w'∧Ch w v):=by
 refine⟨aj8,?_⟩;have m:=Mem.refl w;obtain rfl:=hS.eq;obtain rfl:=hR.eq
 go_enter func188,ntmps188
 refine eS 8 [0] m ?_;simp only[↓aD,iW];intro u m;refine sB eK Cr rfl rfl rfl (ag _) (ag _) (by omega) (by omega) (by omega) (by omega) ?_;intro u g1 e hg hB;replace m:=m.newB e hg hB;clear e hg hB;refine aP 2 [] m ?_;simp only[↓aD];intro u m;rw[lS] at m;refine cR 12 [0] m ?_;simp only[↓aD,iW];intro u m;refine bW [6,14] [7,8,15,16,17,18,19,20,21,22,23,24,25,26,27,28,29,30,31,32,33,34,35,36,37,38,39,40] (fun n vs wl=>∃(i c:Nat) (os:List Nat),vs=[.int .u64 (c:Int),.int .i64 (i:Int)]∧Mem w wl [bI g1 (os.map Ee) 231]∧(i≤xs.length)∧(os.length=xs.length)∧(val 4294967296 os+val 4294967296 (ys.take i)=val 4294967296 (xs.take i)+4294967296^i*c)∧(os.drop i=de (xs.length-i) 0)∧(gS 4294967296 os)∧(c≤1)∧(n=xs.length-i)) ?_ ?_
 ·
  apply Exists.intro;simp only[zQ,zR,zD,zE];exact⟨0,0,de xs.length 0,rfl,m,by omega,by simp,by simp[lT,val],by simp,fun x hx=>by rw[ir hx];decide,by omega,rfl⟩
 ·
  intro n vs wr hI u K1 hK1;clear m;obtain⟨i,c,os,rfl,m,hi,hlo,hv,hz,hd,hc,hn⟩:=hI;simp only[zu,zF,zG];refine aS 5 [0,0] m ?_;simp only[↓aD];intro u m;refine bC rfl (fun hc1=>?_) (fun hc1=>?_)
  ·
   refine aS 9 [] m ?_;simp only[↓aD];intro u m;obtain⟨a,rfl,hca,hla⟩:=hS.get (show i<xs.length by omega);refine cR 3 [0] m ?_;simp only[↓aD];intro u m;refine aB (aF eK bO rfl rfl (by omega) (by omega) (pP (ag _))) ?_;simp only[zz];refine aO rfl (lies1 (m.ext.cell hca) kE) ?_;simp only[zz];refine aP 1 [0] m ?_;simp only[↓aD];intro u m;refine aB (Cc rfl rfl (kK _)) (aP 10 [0,0] m ?_);simp only[↓aD,iW];intro u m;refine bC rfl (fun hc2=>?_) (fun hc2=>?_)
   ·
    obtain⟨b,rfl,hcb,hlb⟩:=hR.get (show i<ys.length by omega);refine aS 4 [0] m ?_;simp only[↓aD];intro u m;refine aB (aF eK bO rfl rfl (by omega) (by omega) (pP (ag _))) ?_;simp only[zz];refine aO rfl (lies1 (m.ext.cell hcb) kE) ?_;simp only[zz];refine aB (Cc rfl rfl (kK _)) (aP 2 [] m ?_);simp only[↓aD];intro u m;obtain⟨s,hs⟩:∃s:Nat,(s:Int)=((↑xs[i]-↑c)%18446744073709551616-↑ys[i])%18446744073709551616:=⟨(((↑xs[i]-↑c)%18446744073709551616-↑ys[i])%18446744073709551616:Int).toNat,by omega⟩
    rw[←hs];have hs2:(s:Int)=((xs[i]:Nat)-(c:Nat)-(ys[i]?.getD 0:Nat):Int)%18446744073709551616:=by rw[an (by omega)];simp only[cv];omega
    have hyb:ys[i]?.getD 0<4294967296:=by rw[an (by omega)];exact hlb
    have hs64:s<18446744073709551616:=by omega
    refine cR 4 [0] m ?_;simp only[↓aD];intro u m;refine aB (jY rfl rfl (oT (by omega) (by omega))) (aP 1 [0] m ?_);simp only[↓aD];intro u m;refine aB (jQ rfl rfl (by omega) (ain (by omega))) ?_;simp only[zz];refine aB (aF eK bO rfl rfl (by omega) (by omega) (eT (ag _))) ?_;simp only[zz];refine cK m 0 rfl rfl rfl bO (by simp;omega) ⟨rfl,rfl⟩ ?_;clear m;intro u m;simp only[zz] at m ;rw[show ((s:Int)%4294967296)=((s%4294967296:Nat):Int) by omega,kU (by omega)] at m;refine aP 7 [0] m ?_;simp only[↓aD];refine⟨by omega,?_⟩;intro u m;obtain⟨r1,r2,r3,r4⟩:=Nn (by omega) hlo hv hz hd hc hs2 hla hyb;rw[show ((i:Int)+1)=((i+1:Nat):Int) by omega,show ((s:Int) / 9223372036854775808)=((s / 9223372036854775808:Nat):Int) by omega];refine hK1 (xs.length-(i+1)) _ _ ?_ ?_ ?_
    · omega
    · simp only[zz,zv]
    ·
     simp only[zQ,zR,zD,zE];exact⟨i+1,s / 9223372036854775808,os.set i (s%4294967296),rfl,m,by omega,by simpa using hlo,r1,r2,r3,r4,rfl⟩
   ·
    obtain⟨s,hs⟩:∃s:Nat,(s:Int)=(↑xs[i]-↑c)%18446744073709551616:=⟨((↑xs[i]-↑c)%18446744073709551616:Int).toNat,by omega⟩
    rw[←hs];have hs2:(s:Int)=((xs[i]:Nat)-(c:Nat)-(ys[i]?.getD 0:Nat):Int)%18446744073709551616:=by rw[ee (by omega)];simp only[Option.getD_none];omega
    have hyb:ys[i]?.getD 0<4294967296:=by rw[ee (by omega)];decide
    refine aS 1 [] m ?_;simp only[↓aD];intro u m;have hs64:s<18446744073709551616:=by omega
    refine cR 4 [0] m ?_;simp only[↓aD];intro u m;refine aB (jY rfl rfl (oT (by omega) (by omega))) (aP 1 [0] m ?_);simp only[↓aD];intro u m;refine aB (jQ rfl rfl (by omega) (ain (by omega))) ?_;simp only[zz];refine aB (aF eK bO rfl rfl (by omega) (by omega) (eT (ag _))) ?_;simp only[zz];refine cK m 0 rfl rfl rfl bO (by simp;omega) ⟨rfl,rfl⟩ ?_;clear m;intro u m;simp only[zz] at m ;rw[show ((s:Int)%4294967296)=((s%4294967296:Nat):Int) by omega,kU (by omega)] at m;refine aP 7 [0] m ?_;simp only[↓aD];refine⟨by omega,?_⟩;intro u m;obtain⟨r1,r2,r3,r4⟩:=Nn (by omega) hlo hv hz hd hc hs2 hla hyb;rw[show ((i:Int)+1)=((i+1:Nat):Int) by omega,show ((s:Int) / 9223372036854775808)=((s / 9223372036854775808:Nat):Int) by omega];refine hK1 (xs.length-(i+1)) _ _ ?_ ?_ ?_
    · omega
    · simp only[zz,zv]
    ·
     simp only[zQ,zR,zD,zE];exact⟨i+1,s / 9223372036854775808,os.set i (s%4294967296),rfl,m,by omega,by simpa using hlo,r1,r2,r3,r4,rfl⟩
  ·
   refine aS 2 [] m ?_;simp only[↓aD];intro u m;obtain rfl:i=xs.length:=by omega
   refine cR 2 [0] m ?_;simp only[↓aD];intro u m;refine cW m rfl rfl (Fl _ ((m.b 0 rfl).nat hd (by omega) (by omega))) ?_;clear m;rintro v u m rfl;refine aP 3 [] m ?_;simp only[↓aD];intro u m;refine aQ rfl rfl ?_;try simp only[zD,zE]
   exact⟨_,rfl,m.ext,oC.of_trim ((m.b 0 rfl).nat hd (n:=xs.length) (by omega) (by omega)) (agz hle hlo hd hv hge),Ch.of_blk (m.gb 0 rfl)⟩
theorem aox{A B:Option Addr}{xs ys:List Nat}{na nb ca cb:Nat}(w:ah)(hS:jR w A na ca xs)(hR:jR w B nb cb ys)(hlx:xs.length≤1099511627776)(hly:ys.length≤1099511627776):dF prog 189 [.slice A na ca,.slice B nb cb] w (oC (val 4294967296 xs*val 4294967296 ys)):=by
 refine⟨aj9,?_⟩;have m:=Mem.refl w;obtain rfl:=hS.eq;obtain rfl:=hR.eq
 go_enter func189,ntmps189
 refine eS 11 [0] m ?_;simp only[↓aD,iW];refine⟨by omega,?_⟩;intro u m;refine sB eK Cr rfl rfl rfl (show _=xs.length+ys.length by omega) (show _=xs.length+ys.length by omega) (by omega) (by omega) (by omega) (by omega) ?_;intro u g1 e hg hB;replace m:=m.newB e hg hB;clear e hg hB;refine aP 2 [] m ?_;simp only[↓aD];intro u m;rw[lS] at m;refine cR 8 [0] m ?_;simp only[↓aD,iW];intro u m;refine bW [20] [6,7,8,9,10,11,21,22,23,24,25,26,27,28,29,30,31,32,33,34,35,36,37,38,39,40,41,42,43,44,45,46,47,48,49,50,51,52,53,54,55,56,57,58,59,60,61] (fun n vs wl=>∃(i:Nat) (os:List Nat),vs=[.int .i64 (i:Int)]∧Mem w wl [bI g1 (os.map Ee) 231]∧(i≤xs.length)∧(os.length=xs.length+ys.length)∧(val 4294967296 os=val 4294967296 (xs.take i)*val 4294967296 ys)∧(os.drop (i+ys.length)=de (xs.length-i) 0)∧(gS 4294967296 os)∧(n=xs.length-i)) ?_ ?_
 ·
  apply Exists.intro;simp only[zQ,zR,zD,zE];exact⟨0,de (xs.length+ys.length) 0,rfl,m,by omega,by simp,by rw[lT,ju];simp only[val,Nat.zero_mul],by rw[List.drop_replicate];congr 1;omega,fun x hx=>by rw[ir hx];decide,rfl⟩
 ·
  intro n vs wr hI u K1 hK1;clear m;obtain⟨i,os,rfl,m,hi,hlo,hv,hz,hd,hn⟩:=hI;simp only[zu,zF,zG];refine aS 5 [0,0] m ?_;simp only[↓aD];intro u m;refine bC rfl (fun hc1=>?_) (fun hc1=>?_)
  ·
   refine aS 4 [] m ?_;simp only[↓aD];intro u m;obtain⟨a,rfl,hca,hla⟩:=hS.get (show i<xs.length by omega);refine cR 2 [0] m ?_;simp only[↓aD];intro u m;refine aB (aF eK bO rfl rfl (by omega) (by omega) (pP (ag _))) ?_;simp only[zz];refine aO rfl (lies1 (m.ext.cell hca) kE) ?_;simp only[zz];refine aP 15 [0] m ?_;simp only[↓aD,iW];intro u m;refine bW [8,27] [9,10,11,28,29,30,31,32,33,34,35,36,37,38,39,40,41,42,43,44,45,46,47,48,49,50,51,52,53] (fun n vs wl=>∃(k c:Nat) (os:List Nat),vs=[.int .u64 (c:Int),.int .i64 (k:Int)]∧Mem w wl [bI g1 (os.map Ee) 231]∧(k≤ys.length)∧(os.length=xs.length+ys.length)∧(val 4294967296 os+4294967296^(i+k)*c=val 4294967296 (xs.take i)*val 4294967296 ys+4294967296^i*(xs[i]*val 4294967296 (ys.take k)))∧(os.drop (i+ys.length)=de (xs.length-i) 0)∧(gS 4294967296 os)∧(c<4294967296)∧(n=ys.length-k)) ?_ ?_
   ·
    apply Exists.intro;simp only[zQ,zR,zD,zE];exact⟨0,0,os,rfl,m,by omega,hlo,by rw[ju,hv];simp only[val,Nat.mul_zero],hz,hd,by omega,rfl⟩
   ·
    intro n vs wr hI u K2 hK2;clear m;obtain⟨k,c,os,rfl,m,hk,hlo,hv2,hz,hd,hc,hn2⟩:=hI;simp only[zu,zF,zG];refine aS 5 [0,0] m ?_;simp only[↓aD];intro u m;refine bC rfl (fun hc2=>?_) (fun hc2=>?_)
    ·
     refine aS 4 [] m ?_;simp only[↓aD];intro u m;obtain⟨b,rfl,hcb,hlb⟩:=hR.get (show k<ys.length by omega);refine cR 2 [0] m ?_;simp only[↓aD];intro u m;refine aB (aF eK bO rfl rfl (by omega) (by omega) (pP (ag _))) ?_;simp only[zz];refine aO rfl (lies1 (m.ext.cell hcb) kE) ?_;simp only[zz];refine aP 4 [] m ?_;simp only[↓aD];intro u m;have hco:=(m.b 0 rfl).word (show i+k<os.length by omega);have hlo2:=hd.get (an (show i+k<os.length by omega));obtain⟨hm0,hm1⟩:=agB hla hlb;refine tO 5 [0] m ?_;simp only[↓aD];refine⟨by omega,?_⟩;rintro u m rfl;refine aB (aF eK bO rfl rfl (by omega) (by omega) (eT (show _=i+k by omega))) ?_;simp only[zz];refine aO rfl (lies1 ((m.b 0 rfl).word (show i+k<os.length by omega)) kE) ?_;simp only[zz];refine Hi 8 [] m ?_;simp only[↓aD];refine⟨by omega,?_⟩;rintro u m rfl;obtain⟨s,hs⟩:∃s:Nat,s=os[i+k]+xs[i]*ys[k]+c:=⟨_,rfl⟩
     have hsI:(↑os[i+k]+↑xs[i]*↑ys[k]+↑c:Int)=(s:Int):=by rw[hs];simp
     rw[hsI];have hs64:s<18446744073709551616:=by omega
     refine tO 6 [0] m ?_;simp only[↓aD];refine⟨by omega,?_⟩;rintro u m rfl;refine aB (jY rfl rfl (oT (by omega) (by omega))) (Hi 1 [0] m ?_);simp only[↓aD];rintro u m rfl;refine aB (jQ rfl rfl (by omega) (Nm (by omega))) ?_;simp only[zz];refine aB (aF eK bO rfl rfl (by omega) (by omega) (eT (show _=i+k by omega))) ?_;simp only[zz];refine cK m 0 rfl rfl rfl bO (by simp;omega) ⟨rfl,rfl⟩ ?_;clear m;intro u m;simp only[zz] at m ;rw[show ((s:Int)%4294967296)=((s%4294967296:Nat):Int) by omega,kU (by omega)] at m;refine aP 7 [0] m ?_;simp only[↓aD];refine⟨by omega,?_⟩;intro u m;have r1:=abx (by omega) (by omega) hlo hv2 hs;rw[show ((k:Int)+1)=((k+1:Nat):Int) by omega,show ((s:Int) / 4294967296)=((s / 4294967296:Nat):Int) by omega];refine hK2 (ys.length-(k+1)) _ _ ?_ ?_ ?_
     · omega
     · simp only[zz,zv]
     ·
      simp only[zQ,zR,zD,zE];exact⟨k+1,s / 4294967296,os.set (i+k) (s%4294967296),rfl,m,by omega,by simpa using hlo,r1,by rw[To (by omega)];exact hz,hd.set (by omega),by omega,rfl⟩
    ·
     refine aS 1 [] m ?_;simp only[↓aD];intro u m;obtain rfl:k=ys.length:=by omega
     refine cR 7 [0] m ?_;simp only[↓aD,iW];refine⟨by omega,?_⟩;intro u m;refine aB (aF eK bO rfl rfl (by omega) (by omega) (eT (show _=i+ys.length by omega))) ?_;simp only[zz];refine cK m 0 rfl rfl rfl bO (by simp;omega) ⟨rfl,rfl⟩ ?_;clear m;intro u m;simp only[zz] at m ;rw[kU (by omega)] at m;refine aP 6 [0] m ?_;simp only[↓aD];refine⟨by omega,?_⟩;intro u m;obtain⟨r1,r2⟩:=agA (by omega) hlo hv2 hz;rw[show ((i:Int)+1)=((i+1:Nat):Int) by omega];refine hK1 (xs.length-(i+1)) _ _ ?_ ?_ ?_
     · omega
     · simp only[zz,zv]
     ·
      simp only[zQ,zR,zD,zE];exact⟨i+1,os.set (i+ys.length) c,rfl,m,by omega,by simpa using hlo,r1,r2,hd.set (by omega),rfl⟩
  ·
   refine aS 2 [] m ?_;simp only[↓aD];intro u m;obtain rfl:i=xs.length:=by omega
   refine cR 2 [0] m ?_;simp only[↓aD];intro u m;refine cW m rfl rfl (Fl _ ((m.b 0 rfl).nat hd (by omega) (by omega))) ?_;clear m;rintro v u m rfl;refine aP 3 [] m ?_;simp only[↓aD];intro u m;refine aQ rfl rfl ?_;try simp only[zD,zE]
   exact⟨_,rfl,m.ext,oC.of_trim ((m.b 0 rfl).nat hd (n:=xs.length+ys.length) (by omega) (by omega)) (by rw[hv,fy])⟩
end Go.Proofs.YtfekpcimgncioaaGreatDoor
namespace Go.Proofs.YtfekpcimgncioaaGreatDoor
open Go.Proofs.Tryz
open Go.RowKit Go.Lith
set_option maxRecDepth 100000
attribute [local irreducible] ao bz eZ Code.wp
end Go.Proofs.YtfekpcimgncioaaGreatDoor
namespace Go.Proofs.YtfekpcimgncioaaGreatDoor
open Go.Proofs.Tryz
open Go.RowKit Go.Lith
set_option maxRecDepth 100000
attribute [local irreducible] ao bz eZ bE bX Code.wp
attribute [local congr] nO fF fG fH fI fJ jH fK fL fM fN fO fP fQ fR fS fT fU dX dY fV fW fY fZ gA jJ cO cP cA cN fX jI dZ eA eB gB gC jK
theorem Pe{neg:Bool}{s:ByteArray}(w:ah)(hs:s.size≤1000000000000):dF prog 185 [.agg #[.bool neg,.string s]] w (oC (ajc s)):=by
 refine⟨aj5,?_⟩;have m:=Mem.refl w
 go_enter func185,ntmps185
 refine eS 9 [0,0] m ?_;simp only[↓aD,Hx,ahr,aa];intro g1;intro u m;refine aB (tD rfl oX rfl) (aP 2 [0] m ?_);simp only[↓aD];refine⟨by omega,?_⟩;intro u m;rw[show ((s.size:Int)+4-1)=((s.size+3:Nat):Int) by omega];refine aB (kF rfl rfl (by omega) (aaw (n:=4) (by omega))) ?_;simp only[zz];obtain⟨K,hK⟩:∃K,K=(s.size+3) / 4:=⟨_,rfl⟩
 rw[←hK];refine sB eK Cr rfl rfl rfl (show _=K by omega) (show _=K by omega) (by omega) (by omega) (by omega) (by omega) ?_;intro u g2 e hg hB;replace m:=m.newB e hg hB;clear e hg hB;refine aP 2 [] m ?_;simp only[↓aD];intro u m;rw[lS] at m;refine cR 5 [1,0] m ?_;simp only[↓aD,Hx,ahr,aa];intro u m;refine aB (tD rfl oX rfl) (aP 3 [0] m ?_);simp only[↓aD];intro u m;refine bW [16] [4,5,17,18,19,20,21,22,23,24,25,26,27,28,29,30,31,32,33,34,35,36,37,38,39,40,41] (fun n vs wl=>∃(i:Nat) (os:List Nat),vs=[.int .i64 (i:Int)]∧Mem w wl [bI g2 (os.map Ee) 231,bI g1 [.bool neg,.string s] 95]∧(i≤s.size)∧(os.length=K)∧(gS 4294967296 os)∧(∀(j:Nat) (h:j<os.length),256^(s.size-i-4*j)∣os[j])∧(val 4294967296 os=256^(s.size-i)*val 256 ((sS s).drop (s.size-i)))∧(n=s.size-i)) ?_ ?_
 ·
  apply Exists.intro;simp only[zQ,zR,zD,zE];exact⟨0,de K 0,rfl,m,by omega,by simp,fun x hx=>by rw[ir hx];decide,fun j h=>by rw[List.getElem_replicate];exact Nat.dvd_zero _,by rw[lT,adj (by rw[zZ];omega),Nat.mul_zero],rfl⟩
 ·
  intro n vs wr hI u K1 hK1;clear m;obtain⟨i,os,rfl,m,hi,hlo,hd,hdv,hv,hn⟩:=hI;simp only[zu,zF,zG];refine aS 5 [0,0] m ?_;simp only[↓aD];intro u m;refine bC rfl (fun hc1=>?_) (fun hc1=>?_)
  ·
   refine aS 12 [1,0] m ?_;simp only[↓aD,Hx,ahr,aa];intro u m;refine aB (tD rfl oX rfl) (aP 5 [] m ?_);simp only[↓aD];refine⟨by omega,?_⟩;intro u m;obtain⟨p,hp⟩:∃p,p+1+i=s.size:=⟨s.size-1-i,by omega⟩
   rw[show ((s.size:Int)-1-(i:Int))=(p:Int) by omega];obtain⟨b,hb,hpl,hbp⟩:=Xe hp;obtain⟨f1,f2,f3,f4⟩:=aby (r:=p%4) (j:=p / 4) hpl (by omega) (by omega) (by omega) hd (Tt s) (by rw[show p+1=s.size-i by omega];exact hdv) (by rw[show p+1=s.size-i by omega];exact hv);rw[hbp,Iq] at f1 f3 f4;have hb256:b.toNat<256:=b.toNat_lt;have f5:b.toNat*2^(8*(p%4))<2^(8*(p%4+1)):=by
    rw[show 8*(p%4+1)=8+8*(p%4) by omega,Nat.pow_add];exact Nat.mul_lt_mul_of_pos_right hb256 (Nat.pow_pos (by omega))
   obtain⟨c,f6⟩:∃c,os[p / 4]=2^(8*(p%4+1))*c:=by
    obtain⟨c,hc⟩:=f2;exact⟨c,by rw[hc,Iq]⟩
   refine gc ?_;refine cL m 16 aC (by kernel_rfl) ?_;simp only[zy];refine aH aI (aH aI ?_);simp only[zz];refine aH (kF rfl rfl (by omega) (aaw (n:=4) (by omega))) ?_;simp only[zz];refine aH (aF eK bO rfl rfl (by omega) (by omega) (eT (show _=p / 4 by omega))) ?_;simp only[zz];refine ql rfl (fun u m=>(lies1 ((m.b 0 rfl).word (show p / 4<os.length by omega)) kE)) ?_;simp only[zz];refine eC 3 [1] ?_;simp only[↓aD,Hx,ahr,aa];refine aH ((qZ oX rfl rfl (by omega) (by rw[ag];exact hb))) (aH (kS lP ahB rfl (vX (by omega) (by omega))) (aH aI ?_));simp only[zz];refine aH (cU rfl rfl (by omega) (agE (n:=4))) (aH (pN rfl rfl ((bF (by omega) (by omega)).trans (show (8:Int)*((p%4:Nat):Int)=((8*(p%4):Nat):Int) by omega))) ?_);simp only[zz];refine aH (nZ rfl rfl (by omega) (agC (n:=8*(p%4)) (by omega) (by omega))) (aH (ao4 rfl rfl ((agD (s:=8*(p%4+1)) (a:=b.toNat*2^(8*(p%4))) (b:=os[p / 4]) f5 f6 (by omega)).trans (show (((b.toNat*2^(8*(p%4)))+os[p / 4]:Nat):Int)=((os[p / 4]+b.toNat*2^(8*(p%4)):Nat):Int) by omega))) ?_);simp only[zz];refine aH (aF eK bO rfl rfl (by omega) (by omega) (eT (show _=p / 4 by omega))) (aY ?_);clear m;intro u m;simp only[zz];refine cK m 0 rfl rfl rfl bO (by simp;omega) ⟨rfl,rfl⟩ ?_;clear m;intro u m;simp only[zz] at m ;rw[kU (by omega)] at m;refine aL (cR 5 [0] m ?_);simp only[↓aD];refine⟨by omega,?_⟩;intro u m;rw[show ((i:Int)+1)=((i+1:Nat):Int) by omega];refine hK1 (s.size-(i+1)) _ _ ?_ ?_ ?_
   · omega
   · simp only[zz,zv]
   ·
    simp only[zQ,zR,zD,zE];exact⟨i+1,os.set (p / 4) (os[p / 4]+b.toNat*2^(8*(p%4))),rfl,m,by omega,by simpa using hlo,hd.set f1,by rw[show s.size-(i+1)=p by omega];exact f3,by rw[show s.size-(i+1)=p by omega];exact f4,rfl⟩
  ·
   refine aS 2 [] m ?_;simp only[↓aD];intro u m;obtain rfl:i=s.size:=by omega
   refine cR 2 [0] m ?_;simp only[↓aD];intro u m;refine cW m rfl rfl (Fl _ ((m.b 0 rfl).nat hd (by omega) (by omega))) ?_;clear m;rintro v u m rfl;refine aP 3 [] m ?_;simp only[↓aD];intro u m;refine aQ rfl rfl ?_;try simp only[zD,zE]
   exact⟨_,rfl,m.ext,oC.of_trim ((m.b 0 rfl).nat hd (n:=K) (by omega) (by omega)) (by rw[hv,Nat.sub_self,Nat.pow_zero,Nat.one_mul,mj];rfl)⟩
end Go.Proofs.YtfekpcimgncioaaGreatDoor
namespace Go.Proofs.YtfekpcimgncioaaGreatDoor
open Go.Proofs.Tryz
open Go.RowKit Go.Lith
attribute [local go_sem] ni
def kY(n₀ Bs:Nat)(W W':ah):Prop:=Below n₀ W W'∧W'.heap[Bs]? = W.heap[Bs]?
theorem kY.refl(n₀ Bs:Nat)(W:ah):kY n₀ Bs W W:=⟨Below.refl _ _,rfl⟩
theorem kY.trans{n₀ Bs:Nat}{A B C:ah}(h:kY n₀ Bs A B)(k:kY n₀ Bs B C):kY n₀ Bs A C:=⟨h.1.trans k.1,k.2.trans h.2⟩
theorem kY.box{n₀ Bs:Nat}{A B:ah}(h:kY n₀ Bs A B){v:Value}(hc:A.cell? ⟨Bs,0,none⟩=some v):B.cell? ⟨Bs,0,none⟩=some v:=(World.cell?_of_block h.2).trans hc
set_option maxRecDepth 100000 in
theorem afi(F:Fence)(n:Nat)(h7:F.fn 314)(hro:F.round=none)(hn:1≤n)(l Bs n₀ cap:Nat)(a:Addr)(xs:List Nat)(hreach:xs.length*8≤140737488351232)(hb:a.block<n₀)(J Jx:List (Nat × Nat)→ah→Prop)
 (hY:∀pre x W,J pre W→pre.length<xs.length→YieldAt F (n-1) prog l #[.int .i64 (x.1:Int),.int .u64 (x.2:Int)] W fun e W' =>
  (e=.returned (.bool true)∧J (pre++[x]) W'∧kY n₀ Bs W W')∨(e=.returned (.bool false)∧Jx (pre++[x]) W'))
 (W:ah) (hBs:W.cell? ⟨Bs,0,none⟩=some (.slice (some a) xs.length cap)) (hc:∀j (h:j<xs.length),W.cell? (a.add j)=some (.int .u64 (xs[j]:Nat))) (h0:J [] W) :
 CallsIn F n prog 314 #[.func (.yield l) #[] #[],.pointer (some ⟨Bs,0,none⟩)] W fun e W'=>(∃v,e=.returned v) ∧
  ((∃ys:List (Nat × Nat),ys.map nc=xs.reverse∧J ys W')∨(∃pre,True∧Jx pre W')):=by
 refine callsIn_of_wp func314 rfl h7 ?_ hro;simp only[ntmps314,fh,au,bt,aa,i_,gd,gg,g_,gr,bv,b_]
 gi_wp2
 gi_loopw [3] (fun i wr=>∃(k:Nat) (pre:List (Nat × Nat)),k≤xs.length∧i=.int .i64 ((k:Int)-1)∧pre.length=xs.length-k∧pre.map nc=(xs.drop k).reverse∧J pre wr∧kY n₀ Bs W wr)
  (fun i _=>(intOf i+1).toNat)
 case atStart=>exact⟨xs.length,[],ap _,rfl,by simp,by simp,h0,kY.refl _ _ _⟩
 case round =>
  obtain⟨k,pre,hk,rfl,hpl,hpre,hJs,hnx⟩:=hrel;have hBw:wr.cell? ⟨Bs,0,none⟩=some (.slice (some a) xs.length cap):=hnx.box hBs;by_cases hk0:0<k
  · have hlt:k-1<xs.length:=by omega
    have hcx:wr.cell? (a.add (k-1))=some (.int .u64 ((xs[k-1]:Nat):Int)):=(hnx.1.cell (by rw[Ef];exact hb)).trans (hc _ hlt);obtain⟨fn,tmps,assign,body,hy,hR⟩:=hY pre (k-1,xs[k-1]) wr hJs (by omega);dsimp only at hy;obtain⟨j,rfl⟩:∃j,k=j+1:=⟨k-1,by omega⟩
    rw[show (((j+1:Nat):Int)-1)=(j:Int) by omega];simp only[ft] at hy hR hcx hlt
    gi_wp2
    refine hR.mono ?_;rintro e W3 (⟨rfl,hJ3,hk3⟩ | ⟨rfl,hJx3⟩)
    · gi_wp2
      go_roundw
      case rel=>exact⟨j,pre++[(j,xs[j])],by omega,by simp,by simp;omega,by rw[List.drop_eq_getElem_cons hlt,List.reverse_cons,cl,hpre];rfl,hJ3,hnx.trans hk3⟩
      case measure=>simp[intOf]
    · gi_wp2
      refine bodyPost_ret (results_none rfl _ _ _) rfl ?_;exact⟨⟨_,rfl⟩,.inr ⟨_,trivial,hJx3⟩⟩
  · obtain rfl:k=0:=by omega
    gi_wp2
    go_end0
    exact⟨⟨_,rfl⟩,.inl ⟨pre,by rw[hpre];rfl,hJs⟩⟩
set_option maxRecDepth 100000 in
theorem So(F:Fence)(n:Nat)(h7:F.fn 314)(hro:F.round=none)(l Bs cap:Nat)(A:Option Addr)(J:List (Nat × Nat)→ah→Prop)(W:ah)(hBs:W.cell? ⟨Bs,0,none⟩=some (.slice A 0 cap))(h0:J [] W) :
 CallsIn F n prog 314 #[.func (.yield l) #[] #[],.pointer (some ⟨Bs,0,none⟩)] W fun e W'=>(∃v,e=.returned v)∧J [] W':=by
 refine callsIn_of_wp func314 rfl h7 ?_ hro;simp only[ntmps314,fh,au,bt,aa,i_,gd,gg,g_,gr,bv,b_]
 gi_wp2
 gi_loopw [3] (fun i wr=>i=.int .i64 (-1)∧J [] wr) (fun _ _=>0)
 case atStart=>exact⟨rfl,h0⟩
 case round =>
  obtain⟨rfl,hJs⟩:=hrel
  gi_wp2
  go_end0
  exact⟨⟨_,rfl⟩,hJs⟩
theorem ahQ(F:Fence)(n:Nat)(h5:F.fn 257)(hro:F.round=none)(a:Option Addr)(len cap:Nat)(w:ah) :
 CallsIn F n prog 257 #[.slice a len cap] w fun e w'=>e=.returned (.func (.func 314) #[] #[.pointer (some ⟨w.heap.size,0,none⟩)])∧w'=w.alloc (.cells #[.slice a len cap] 233):=by
 refine callsIn_of_wp func257 rfl h5 ?_ hro;simp only[ntmps257,fh,au,bt,aa,i_,gd,gg,g_,gr,bv,b_]
 gi_wp2
 go_ret
 exact⟨rfl,rfl⟩
theorem Zr(F:Fence)(n:Nat)(h7:F.fn 314)(hro:F.round=none)(hn:1≤n)(Bs n₀ cap:Nat)(A:Option Addr)(xs:List Nat)(hreach:xs.length*8≤140737488351232)(w:ah)(hBs:Bs<w.heap.size)(hn₀:n₀≤w.heap.size)
 (hc:w.cell? ⟨Bs,0,none⟩=some (.slice A xs.length cap)) (hI:∀(i x:Nat),xs[i]? = some x→∃a,A=some a∧w.cell? (a.add i)=some (.int .u64 (x:Int))) (hA:∀a,0<xs.length→A=some a→a.block<n₀) :
 SeqStopsK F n prog 314 #[.pointer (some ⟨Bs,0,none⟩)] (fun x:Nat × Nat=>#[Value.int .i64 (x.1:Int),Value.int .u64 (x.2:Int)]) (kY n₀ Bs) (fun ys=>ys.map nc=xs.reverse) (fun _=>True) xs.length w:=fun l J Jx W hW _ _ hY h0=>by
 have hc':=(hW.cell (p:=⟨Bs,0,none⟩) hBs).trans hc;rcases Nat.eq_zero_or_pos xs.length with h | h
 · obtain rfl:xs=[]:=eh h
   exact (So F n h7 hro l Bs cap A J W hc' h0).mono fun e W' ⟨he,hj⟩=>⟨he,.inl ⟨[],rfl,hj⟩⟩
 · obtain⟨a,rfl,_⟩:=hI 0 xs[0] (an h)
   refine afi F n h7 hro hn l Bs n₀ cap a xs hreach (hA a h rfl) J Jx hY W hc' (fun j hj=>?_) h0;obtain⟨a',e,hcl⟩:=hI j xs[j] (an hj);cases e;exact (hW.cell (by rw[Ef];exact fi (hA a h rfl) hn₀)).trans hcl
theorem al7{A:Option Addr}{n cap:Nat}(w:ah):dF prog 257 [.slice A n cap] w (fun v w'=>∃g,v=.func (.func 314) #[] #[.pointer (some ⟨g,0,none⟩)]∧w.heap.size≤g∧fA w' g [.slice A n cap] 233):=by
 refine⟨akw,(callsIn_wide (n:=2)).1 ((ahQ Fence.wide 2 trivial rfl A n cap w).mono ?_)⟩;rintro e w' ⟨rfl,rfl⟩;exact⟨_,rfl,(eW.refl w).alloc _,_,rfl,ap _,gX w _ _⟩
end Go.Proofs.YtfekpcimgncioaaGreatDoor
namespace Go.Proofs.YtfekpcimgncioaaGreatDoor
open Go.Proofs.Tryz
open Go.RowKit Go.Lith
set_option maxRecDepth 100000
attribute [local irreducible] ao bz eZ Code.wp
attribute [local go_sem] ni
theorem ahR:(prog.info? 5).map (fun i=>(i.zero,i.size,i.bytes))=some (some (.int .u8 0),1,1):=by kernel_rfl
theorem Lh{W w1:ah}{tmp:Obj}{v v':Value}{base size k g g3:Nat}{e t:TypeId}{xs cs:List Value}(hB:fA W g cs t)(hte:t≠e)(hr:W.ownsRow base e size v k xs)(hg:(W.alloc tmp).grownBy w1 v.ownBlock)(hne:g≠g3):(w1.setCell ⟨g3,0,none⟩ v').heap[g]? = W.heap[g]?:=by
 have h1:some g≠v.ownBlock:=by
  rcases hr.2 with ⟨rfl,_⟩ | ⟨g',cap,cur,rfl,_,hgb,_⟩
  · simp[Value.ownBlock]
  ·
   intro h;obtain rfl:g=g':=by simpa[Value.ownBlock] using h
   rw[hB] at hgb;cases hgb;exact hte rfl
 exact ((Below.heap_setCell w1 ⟨g3,0,none⟩ v' g hne).trans (hg.block g (by simp;have:=hB.lt;omega) h1)).trans (Below.heap_alloc W tmp g hB.lt)
theorem Bm{A:Option Addr}{xs:List Nat}{na cap:Nat}{neg:Bool}(w:ah)(hS:jR w A na cap xs)(hl:xs.length≤100000000000):dF prog 184 [.slice A na cap,.bool neg] w (fun v _=>v=W (Ti neg (val 4294967296 xs))):=by
 skip
 refine⟨aj4,?_⟩;have hX:=eW.refl w;obtain rfl:=hS.eq;have hlt:=Io xs;have hle:=hS.le;refine (callsIn_wide (n:=4)).1 (callsIn_of_wp_marks func184 rfl trivial ?_ rfl);simp only[ntmps184,fh,au,bt,aa,i_,gd,gg,g_,gr,bv,b_];refine wpIn_wide.2 (aV (fun K1 hK1=>am ?_));refine xW Qw rfl ?_;intro w1 g1 hE hg1 hB1;have hG1:=az hX.size hg1;replace hX:=hX.trans hE;clear hE hg1;simp only[zz];refine aL (hK1 _ _ ?_);refine aV (fun K2 hK2=>am (aB aI ?_));simp only[zz];refine bJ rfl rfl (Fl _ (hS.ext hX)) ?_;rintro v w2 hE rfl;replace hB1:=hB1.ext hE;replace hX:=hX.trans hE;clear hE;simp only[zz];refine aB aM ?_;simp only[zz];refine aL ?_;obtain⟨ys,hys⟩:∃ys,ys=trim xs:=⟨_,rfl⟩
 rw[←hys] at hlt ⊢;refine hK2 _ _ (aV (fun K3 hK3=>am (aB aI (aB (Ec rfl eK rfl) (aB (pN rfl rfl (bF (by omega) (by omega))) ?_)))));simp only[zz];refine sB underlying300 anT rfl rfl rfl (show _=0 by omega) (show _=4*ys.length by omega) (by omega) (by omega) (by omega) (by omega) ?_;intro w3 g2 hE hg2 hB2;have hG2:=az hX.size hg2;have hN2_1:g2≠g1:=lc (fi hB1.lt hg2);replace hB1:=hB1.ext hE;replace hX:=hX.trans hE;clear hE hg2;simp only[zz];refine xW adU rfl ?_;intro w4 g3 hE hg3 hB3;have hG3:=az hX.size hg3;have hN3_1:g3≠g1:=lc (fi hB1.lt hg3);have hN3_2:g3≠g2:=lc (fi hB2.lt hg3);replace hB1:=hB1.ext hE;replace hB2:=hB2.ext hE;replace hX:=hX.trans hE;clear hE hg3;simp only[zz];refine uA rfl (by simp only[zz];rfl) (by exact abO) hB3 (by simp) (by simp[mn]) ?_;clear hB3;intro w5 hC hB3;replace hB1:=hB1.chg hC (by first | exact hN1_3 | exact Ne.symm hN3_1);replace hB2:=hB2.chg hC (by first | exact hN2_3 | exact Ne.symm hN3_2);replace hX:=hX.chg hC hG3;clear hC;simp only[zy,zx,over,aa] at hB3;refine aL (hK3 _ _ ?_);refine aV (fun K4 hK4=>aV (fun K5 hK5=>am (aB aI ?_)));simp only[zz];refine bJ rfl rfl (al7 _) ?_;rintro v w6 hE ⟨g4,rfl,hg4,hB4⟩;have hG4:=az hX.size hg4;have hN4_1:g4≠g1:=lc (fi hB1.lt hg4);have hN4_2:g4≠g2:=lc (fi hB2.lt hg4);have hN4_3:g4≠g3:=lc (fi hB3.lt hg4);replace hB1:=hB1.ext hE;replace hB2:=hB2.ext hE;replace hB3:=hB3.ext hE;replace hX:=hX.trans hE;clear hE hg4;simp only[zz];refine aL (hK5 _ _ ?_);refine ig ((wpIn_wide (n:=4)).1 ?_);have hbase:w.heap.size≤w6.heap.size:=hX.size;obtain⟨n0,hn0⟩:∃n0,n0=w.heap.size:=⟨_,rfl⟩
 have hT:jR w6 A ys.length cap ys:=(((hS.ext hX).take (trim xs).length).as (lC xs).symm |> fun h=>by rw[←lC,←hys] at h;exact h)
 have hA:∀a,0<ys.length→A=some a→a.block<w.heap.size:=fun a h0 e=>by
  obtain⟨a',e',hc⟩:=hS.row 0 (xs[0]'(by omega)) (an (by omega));rw[e] at e';cases e';have:=World.block_lt_of_cell? _ _ hc;rwa [Ef] at this
 refine wpIn_rangeFunc_ownG (F:=Fence.wide) rfl (by omega) (gf:=314) (lb:=#[.pointer (some ⟨g4,0,none⟩)]) rfl trivial (enters_of func314 (by kernel_rfl) rfl)
  (Zr Fence.wide 3 trivial rfl (by omega) g4 w.heap.size cap A ys (by omega) w6 hB4.lt hX.size (hB4.cell rfl) hT.row hA) kY.trans (fun W l o o' hl ho _ _=>⟨belowK_b (w:=w6) hX.size W l o o' hl ho ‹_› ‹_›,World.putObj_heap_other (by have:=hB4.lt;omega)⟩) (Below.refl _ _) (fun _=>rfl)
  (fun pre W=>((∃v,Boxed W g3 300 v∧W.ownsRow w.heap.size 5 1 v (Tv pre).length ((Tv pre).map u8v)∧True)∧fA W g1 [.bool false,.string ⟨#[]⟩] 95∧fA W g4 [.slice A ys.length cap] 233)∧Below w.heap.size w W)
  (fun _ _ _=>False)
  (OwnFrom.and (OwnFrom.and (Own.from (holdsRow_own w.heap.size g3 300 5 1 (fun pre=>(Tv pre).length) (fun pre=>(Tv pre).map u8v) (fun _ _=>True)) _) (Own.from (fun s X Y row hs hg hr=>⟨(grownBy_keeps_cells hg hr hs.1 rfl).trans hs.1,(grownBy_keeps_cells hg hr hs.2 rfl).trans hs.2⟩) _)) (ownFrom_below (ap _) hX.size))
  (fun _ _ _ _ _ hs _ _=>hs)
  ⟨⟨⟨_,hB3,⟨rfl,.inr ⟨g2,4*ys.length,_,rfl,hG2,hB2,cd _,by show _≤9223372036854775807;omega,by simp,by simp[Tv]⟩⟩,trivial⟩,hB1,hB4⟩,hX⟩
  (fun x=>{ tmps:=#[.slice A ys.length cap,.bool neg,undef,undef,.pointer (some ⟨g1,0,none⟩),.pointer (some ⟨g3,0,none⟩),undef,.int .u64 (x.2:Int),undef,.slice A xs.length cap,.slice A ys.length cap,.slice A ys.length cap,.int .i64 (ys.length:Int),.int .i64 (4*(ys.length:Int)),.slice (some ⟨g2,0,none⟩) 0 (4*ys.length),.slice A ys.length cap,.func (.func 314) #[] #[.pointer (some ⟨g4,0,none⟩)],.int .i64 (x.1:Int),.int .u64 (x.2:Int),undef,undef,undef,undef,undef,undef,undef,undef,undef,undef,undef,undef,undef,undef,undef,undef,undef,undef,undef,undef,undef,undef,undef,undef],defers:=[] }) ?assign ?body ?done ?stop
 case assign =>
  intro l x W K hK;clear hys
  gi_wp2
  exact hK
 case stop =>
  rintro D c pre W _ _ h _;exact h.elim
 case body =>
  rintro l pre x W ⟨⟨⟨v,hv,hrow,_⟩,hB1',hB4'⟩,hB⟩ hlt;have hc:=hv.cell;have hwl:(Tv pre).length≤4*pre.length:=Nat.le_of_eq (Iv pre);clear hys;obtain⟨i0,hi,hz0,hz1,hz2⟩:=info_parts ahR
  gi_wp2_with (gi_at_builtin;refine wpListIn_append_own _ rfl _ _ 300 rfl w.heap.size 5 i0 (.int .u8 0) 1 1 underlying300 hi hz0 hz1 hz2 rfl (by decide) _ _ _ rfl (hrow.alloc _) ⟨W.heap.size,0,none⟩ 4 4 [.int .u8 ((x.2:Int) / 16777216%256),.int .u8 ((x.2:Int) / 65536%256),.int .u8 ((x.2:Int) / 256%256),.int .u8 ((x.2:Int)%256)] rfl rfl ((gX W _ 5).row 0) (by simp[mn]) (by show _≤9223372036854775807;omega) (by omega) (by have:=hB.size;simp;omega) ?_;intro v' w1 hown' hgrow _;obtain⟨g',cap',rfl⟩:=ownsRow_succ hown';obtain⟨hv1,hv2,hr2,hk2,hb2⟩:=hv.appended (by decide) hrow hB.size hG3 hown' hgrow;have hc1:=hv1.cell;have hf1:=hv1.frozen)
  have e1:=Lh hB1' (by decide) hrow hgrow (Ne.symm hN3_1) (v':=.slice (some ⟨g',0,none⟩) ((Tv pre).length+3+1) cap');have e4:=Lh hB4' (by decide) hrow hgrow hN4_3 (v':=.slice (some ⟨g',0,none⟩) ((Tv pre).length+3+1) cap');refine⟨hk2.from _,⟨hb2,e4⟩,⟨⟨_,hv2,?_,trivial⟩,e1.trans hB1',e4.trans hB4'⟩,hB.trans hb2⟩;rw[adk,aw,cl];have e:(wb x.2).map u8v=[.int .u8 ((x.2:Int) / 16777216%256),.int .u8 ((x.2:Int) / 65536%256),.int .u8 ((x.2:Int) / 256%256),.int .u8 ((x.2:Int)%256)]:=by simp[wb,UInt8.toNat_ofNat']
  rw[e];exact hr2
 rintro D ls W hD hls ⟨⟨⟨v,hv,hrow,_⟩,hB1',_⟩,hX'⟩ hK';replace hD:=az hX.size hD;clear hB1 hB2 hB3 hB4 hX hG2 hG4 hN2_1 hN3_2 hN4_1 hN4_2 hN4_3 hbase hT;have hB1:=hB1';have hB3:fA W g3 [v] 300:=hv;have hX:eW w W:=hX';have hK:Wy W D:=⟨hK'⟩
 have hDg1:=hK.ne hB1;have hlb:(Tv ls).length≤1000000000000000:=by
  have:=congrArg List.length hls;rw[List.length_map,List.length_reverse] at this;rw[Iv];omega
 have hbs:mM (rD (Tv ls))=jL (Ti neg (val 4294967296 xs)):=by
  have e:Tv ls=ys.reverse.flatMap wb:=by rw[←hls,List.flatMap_map];rfl
  have hd:gS 4294967296 ys:=by rw[hys];exact hS.digs.trim
  rw[e,Xk hd neg,hys,Il]
 dsimp only;refine hK4 _ _ (aV (fun K6 hK6=>am ?_));refine aO rfl (hB3.lies1 ag6 rfl) ?_;simp only[zz];refine eQ (Xi underlying300 ahB oX rfl hrow) ?_;simp only[zz];refine Pv rfl rfl (Zq hlb) ?_;intro w7 hE;replace hB1:=hB1.ext hE;(try replace hK:=hK.ext hE);replace hX:=hX.trans hE;clear hE;simp only[zz];refine aB aM ?_;simp only[zz];refine aL ?_;rw[hbs];refine hK6 _ _ (aV (fun K7 hK7=>?_));cases neg
 ·
  refine am (aB aI (aB aI ?_));simp only[zz];refine oK rfl ?_;simp only[zz];refine oK rfl ?_;simp only[zz];refine aB (xX rfl) (aB aI (aB (wQ rfl rfl) ?_));simp only[zz];refine uA rfl (by simp only[zz];rfl) (by exact aT) hB1 (by simp) (by simp[mn]) ?_;clear hB1;intro w8 hC hB1
  (try replace hK:=hK.chg hC (by first | assumption | rfl));replace hX:=hX.chg hC hG1
  clear hC;simp only[zy,zx,over,aa] at hB1;refine aL (hK7 _ _ ?_);refine h_ ?_;try simp only[cj,Exit.then]
  refine Xj hK ?_;replace hB1:=hB1.putD hK (o:=.deferred none);replace hX:=hX.putD hD (o:=.deferred none);refine aQ rfl ⟨_,rfl,(hB1.lies dP aT rfl rfl)⟩ ?_;try simp only[zD,zE]
  exact⟨_,rfl,hX,by simp[Lith.W,aax,Iz]⟩
 ·
  refine am (aB aI (aB aI ?_));simp only[zz];refine eD rfl (aB aI ?_);simp only[zz];refine eD rfl (aB (ajb oX rfl rfl) (aB (pY rfl) (aB aI ?_)));simp only[zz];refine aB (wQ rfl rfl) ?_;simp only[zz];refine uA rfl (by simp only[zz];rfl) (by exact aT) hB1 (by simp) (by simp[mn]) ?_;clear hB1;intro w8 hC hB1
  (try replace hK:=hK.chg hC (by first | assumption | rfl));replace hX:=hX.chg hC hG1
  clear hC;simp only[zy,zx,over,aa] at hB1;refine aL (hK7 _ _ ?_);refine h_ ?_;try simp only[cj,Exit.then]
  refine Xj hK ?_;replace hB1:=hB1.putD hK (o:=.deferred none);replace hX:=hX.putD hD (o:=.deferred none);refine aQ rfl ⟨_,rfl,(hB1.lies dP aT rfl rfl)⟩ ?_;try simp only[zD,zE]
  exact⟨_,rfl,hX,by simp[Lith.W,aax,Iz]⟩
end Go.Proofs.YtfekpcimgncioaaGreatDoor
namespace Go.Proofs.YtfekpcimgncioaaGreatDoor
open Go.Proofs.Tryz
open Go.RowKit Go.Lith
set_option maxRecDepth 100000
attribute [local irreducible] ao bz eZ bE bX Code.wp
attribute [local congr] nO fF fG fH fI fJ jH fK fL fM fN fO fP fQ fR fS fT fU dX dY fV fW fY fZ gA jJ cO cP cA cN fX jI dZ eA eB gB gC jK
theorem Fm{a:Int}(ha:Bd 1000000 a):eM prog 191 [W a] (.int .i64 (bG a)):=by
 intro w;refine⟨aka,?_⟩;have m:=Mem.refl w
 go_enter func191,ntmps191
 refine eS 10 [0,0] m ?_;simp only[↓aD,iT];intro g1;intro u m;refine bJ rfl rfl (Pe _ (qR ha)) ?_;rintro v u e ⟨A1,c1,rfl,hN1⟩;replace m:=m.ext' e;simp only[zz];rw[qQ] at hN1 ⊢;refine Hi 4 [0,0] m ?_;simp only[↓aD,iW];rintro u m rfl;refine bC rfl (fun hc1=>?_) (fun hc1=>?_)
 ·
  have h0:=aay.1 hc1;refine lF 5 [] m ?_;simp only[↓aD];rintro u m rfl;refine aQ rfl rfl ?_;try simp only[zD,zE]
  exact⟨_,rfl,m.ext,by rw[h0];rfl⟩
 ·
  refine lF 6 [0,0] m ?_;simp only[↓aD,uT,Yw,aa];rintro u m rfl;refine gR rfl (fun hc2=>?_) (fun hc2=>?_)
  ·
   have hn:=No hc2;refine lF 5 [] m ?_;simp only[↓aD];rintro u m rfl;refine aQ rfl rfl ?_;try simp only[zD,zE]
   exact⟨_,rfl,m.ext,by rw[Np hn]⟩
  ·
   have hn:=Ja hc2;have h0:¬a=0:=fun e=>hc1 (aay.2 e);refine lF 7 [] m ?_;simp only[↓aD];rintro u m rfl;refine aQ rfl rfl ?_;try simp only[zD,zE]
   exact⟨_,rfl,m.ext,by rw[Nq (by omega)]⟩
theorem aoy{a:Int}(ha:Bd 1000000 a):eM prog 267 [W a] (W (-a)):=by
 intro w;refine⟨aky,?_⟩;have m:=Mem.refl w
 go_enter func267,ntmps267
 refine eS 6 [0] m ?_;simp only[↓aD,rT];intro g1 g2;intro u m;refine mh m [false,true] [(2,true),(0,true),(3,true),(4,true),(1,false),(5,false),(6,false)] aC (by kernel_rfl) (bQ (fun _ _ _ _ _ h=>h)) (ol:=?_) ?hol ?_
 case hol=>simp only[zw,zQ,zR];try rfl
 clear m;intro u m;refine Mz 4 [0,0] ?_;simp only[↓aD,uT,iT,Yw,aa];refine bV (bJ rfl rfl (Pe _ (qR ha)) ?_);rintro v u e ⟨A1,c1,rfl,hN1⟩;replace m:=m.ext' e;simp only[zz];rw[qQ] at hN1 ⊢;refine aL (⟨m.sel [false,true],?_⟩);refine bV (bJ rfl rfl (Bm _ hN1 (az (Ay ha) (by decide))) ?_);rintro v u e rfl;replace m:=m.ext' e;simp only[zz];simp only[gK];refine aL (⟨m.sel [false,true],?_⟩);refine bV (cD m 0 rfl rfl rfl aT (jE rfl) rfl ?_);clear m;intro u m;simp only[zy,zx,over,zF,zG,aa] at m;refine aL (⟨m.sel [false,true],?_⟩);refine bM ?_;rw[agF] at m;refine tO 1 [] m ?_;simp only[↓aD];rintro u m rfl;exact aQ rfl ⟨_,rfl,((m.b 0 rfl).full dP aT)⟩ (⟨_,rfl,m.ext,rfl⟩)
theorem Pf{a b:Int}(ha:Bd 1000000 a)(hb:Bd 1000000 b):eM prog 121 [W a,W b] (W (a+b)):=by
 intro w;refine⟨ajC,?_⟩;have m:=Mem.refl w;have hla:=Ay ha;have hlb:=Ay hb;have hls:=Ay (Bd.add ha hb)
 go_enter func121,ntmps121
 refine eS 7 [0] m ?_;simp only[↓aD,rT];intro g1 g2 g3;intro u m;refine mh m [true,true,true] [(0,true),(2,true),(1,false),(3,false),(4,true),(5,true)] aC (by kernel_rfl) (bQ (fun _ _ _ _ _ h=>h)) (ol:=?_) ?hol ?_
 case hol=>simp only[zw,zQ,zR];try rfl
 clear m;intro u m;refine Mz 2 [2,1] ?_;simp only[↓aD,iT];refine bV (bJ rfl rfl (Pe _ (qR ha)) ?_);rintro v u e ⟨A1,c1,rfl,hN1⟩;replace m:=m.ext' e;simp only[zz];rw[qQ] at hN1 ⊢;refine aL (⟨m,?_⟩);refine bV (bJ rfl rfl (Pe _ (qR hb)) ?_);rintro v u e ⟨A2,c2,rfl,hN2⟩;replace m:=m.ext' e;replace hN1:=hN1.ext e;simp only[zz];rw[qQ] at hN2 ⊢;refine aL (⟨m,?_⟩);refine aU aM (aU aM (bM ?_));refine tO 8 [2,1,0] m ?_;simp only[↓aD,uT,Yw,aa];rintro u m rfl;refine aB (aja Ue rfl rfl) (Hi 2 [0] m ?_);simp only[↓aD];rintro u m rfl;refine bC rfl (fun hc1=>?_) (fun hc1=>?_)
 ·
  refine lF 1 [0] m ?_;simp only[↓aD];rintro u m rfl;refine mhe m [false,true,true] [(0,true),(1,true),(3,true),(4,true),(2,false),(5,false),(6,false)] aC (by kernel_rfl) (bQ (fun _ _ _ _ _ h=>h)) (ol:=?_) ?hol ?_
  case hol=>simp only[zw,zQ,zR];try rfl
  clear m;intro u e m;replace hN1:=hN1.ext e;replace hN2:=hN2.ext e;refine Mz 4 [1] ?_;simp only[↓aD,uT,Yw,aa];refine bV (bJ rfl rfl (aow _ hN1 hN2 (az hla (by decide)) (az hlb (by decide))) ?_);rintro v u e ⟨A3,c3,rfl,hN3⟩;replace m:=m.ext' e;refine aL (⟨m.sel [false,true,true],?_⟩);refine bV ?_;simp only[zz];simp only[gK] at hN3 ⊢;have hl3:(digs 4294967296 (a.natAbs+b.natAbs)).length≤100000000000:=az (abC ha hb) (by decide);refine bJ rfl rfl (Bm _ hN3 hl3) ?_;rintro v u e rfl;replace m:=m.ext' e;simp only[zz];simp only[gK];refine aL (⟨m.sel [false,true,true],?_⟩);refine bV (cD m 0 rfl rfl rfl aT (jE rfl) rfl ?_);clear m;intro u m;simp only[zy,zx,over,zF,zG,aa] at m;refine aL (⟨m.sel [false,true,true],?_⟩);refine bM ?_;rw[agG hc1] at m;refine tO 1 [] m ?_;simp only[↓aD];rintro u m rfl;exact aQ rfl ⟨_,rfl,((m.b 0 rfl).full dP aT)⟩ (⟨_,rfl,m.ext,rfl⟩)
 ·
  refine lF 4 [0] m ?_;simp only[↓aD];rintro u m rfl;refine bJ rfl rfl (aov _ hN1 hN2 (wD _) (wD _)) ?_;rintro v u e rfl;replace m:=m.ext' e;replace hN1:=hN1.ext e;replace hN2:=hN2.ext e;simp only[zz];simp only[gK];refine Hi 3 [0,0] m ?_;simp only[↓aD];rintro u m rfl;refine bC rfl (fun hc2=>?_) (fun hc2=>?_)
  ·
   have hlt:=Ip.1 hc2;refine lF 1 [0] m ?_;simp only[↓aD];rintro u m rfl;refine mhe m [false,true,true] [(0,true),(1,true),(3,true),(4,true),(2,false),(5,false),(6,false)] aC (by kernel_rfl) (bQ (fun _ _ _ _ _ h=>h)) (ol:=?_) ?hol ?_
   case hol=>simp only[zw,zQ,zR];try rfl
   clear m;intro u e m;replace hN1:=hN1.ext e;replace hN2:=hN2.ext e;refine Mz 4 [0] ?_;simp only[↓aD,uT,Yw,aa];refine bV (bJ rfl rfl (aiP _ hN2 hN1 (Qj (Nat.le_of_lt hlt)) (by simp only[gK];omega) (az hlb (by decide))) ?_);rintro v u e ⟨⟨A3,c3,rfl,hN3⟩,_⟩;replace m:=m.ext' e;simp only[zz];simp only[gK] at hN3 ⊢;have hl3:=Qj (Nat.sub_le b.natAbs a.natAbs);refine aL (⟨m.sel [false,true,true],?_⟩);refine bV (bJ rfl rfl (Bm _ hN3 (az hl3 (az hlb (by decide)))) ?_);rintro v u e rfl;replace m:=m.ext' e;simp only[zz];simp only[gK];refine aL (⟨m.sel [false,true,true],?_⟩);refine bV (cD m 0 rfl rfl rfl aT (jE rfl) rfl ?_);clear m;intro u m;simp only[zy,zx,over,zF,zG,aa] at m;refine aL (⟨m.sel [false,true,true],?_⟩);refine bM ?_;rw[ajd hc1 hlt] at m;refine tO 1 [] m ?_;simp only[↓aD];rintro u m rfl;exact aQ rfl ⟨_,rfl,((m.b 0 rfl).full dP aT)⟩ (⟨_,rfl,m.ext,rfl⟩)
  ·
   have hge:b.natAbs≤a.natAbs:=Nat.le_of_not_lt fun h=>hc2 (Ip.2 h);refine lF 3 [0] m ?_;simp only[↓aD];rintro u m rfl;refine mhe m [false,true,true] [(0,true),(1,true),(3,true),(4,true),(2,false),(5,false),(6,false)] aC (by kernel_rfl) (bQ (fun _ _ _ _ _ h=>h)) (ol:=?_) ?hol ?_
   case hol=>simp only[zw,zQ,zR];try rfl
   clear m;intro u e m;replace hN1:=hN1.ext e;replace hN2:=hN2.ext e;refine Mz 4 [1] ?_;simp only[↓aD,uT,Yw,aa];refine bV (bJ rfl rfl (aiP _ hN1 hN2 (Qj hge) (by simp only[gK];omega) (az hla (by decide))) ?_);rintro v u e ⟨⟨A3,c3,rfl,hN3⟩,_⟩;replace m:=m.ext' e;simp only[zz];simp only[gK] at hN3 ⊢;have hl3:=Qj (Nat.sub_le a.natAbs b.natAbs);refine aL (⟨m.sel [false,true,true],?_⟩);refine bV (bJ rfl rfl (Bm _ hN3 (az hl3 (az hla (by decide)))) ?_);rintro v u e rfl;replace m:=m.ext' e;simp only[zz];simp only[gK];refine aL (⟨m.sel [false,true,true],?_⟩);refine bV (cD m 0 rfl rfl rfl aT (jE rfl) rfl ?_);clear m;intro u m;simp only[zy,zx,over,zF,zG,aa] at m;refine aL (⟨m.sel [false,true,true],?_⟩);refine bM ?_;rw[aje hc1 hge] at m;refine tO 1 [] m ?_;simp only[↓aD];rintro u m rfl;exact aQ rfl ⟨_,rfl,((m.b 0 rfl).full dP aT)⟩ (⟨_,rfl,m.ext,rfl⟩)
theorem As{a b:Int}(ha:Bd 1000000 a)(hb:Bd 1000000 b):eM prog 192 [W a,W b] (W (a-b)):=by
 intro w;refine⟨akb,?_⟩;have m:=Mem.refl w
 go_enter func192,ntmps192
 refine eS 7 [0] m ?_;simp only[↓aD,rT];intro g1 g2 g3;intro u m;refine cL m 4 aC (by kernel_rfl) ?_;simp only[zy];refine ql rfl (fun u m=>((m.b 2 rfl).full dP aT)) ?_;simp only[zz];refine ql rfl (fun u m=>((m.b 1 rfl).full dP aT)) ?_;simp only[zz];refine iF rfl rfl (aoy hb) ?_;simp only[zz];refine iF rfl rfl (Pf ha hb.neg) (aY ?_);clear m;intro u m;simp only[zz];refine cD m 0 rfl rfl rfl aT (jE rfl) rfl ?_;clear m;intro u m;simp only[zy,zx,over,zF,zG,aa] at m;refine aL ?_;rw[←Int.sub_eq_add_neg] at m;refine cR 1 [] m ?_;simp only[↓aD];intro u m;exact aQ rfl ⟨_,rfl,((m.b 0 rfl).full dP aT)⟩ (⟨_,rfl,m.ext,rfl⟩)
theorem pT{a b:Int}(ha:Bd 1000000 a)(hb:Bd 1000000 b):eM prog 122 [W a,W b] (W (a*b)):=by
 intro w;refine⟨ajD,?_⟩;have m:=Mem.refl w;have hla:=Ay ha;have hlb:=Ay hb;have hls:=Ay (Bd.mul ha hb)
 go_enter func122,ntmps122
 refine eS 7 [0] m ?_;simp only[↓aD,rT];intro g1 g2 g3;intro u m;refine mh m [false,true,true] [(5,true),(7,true),(0,true),(2,true),(6,true),(8,true),(9,true),(1,false),(3,false),(4,false),(10,false),(11,false)] aC (by kernel_rfl) (bQ (fun _ _ _ _ _ h=>h)) (ol:=?_) ?hol ?_
 case hol=>simp only[zw,zQ,zR];try rfl
 clear m;intro u m;refine Mz 6 [1,0,1,0] ?_;simp only[↓aD,uT,iT,Yw,aa];refine aU (Qi Ue rfl rfl) (bV ?_);simp only[zz];refine bJ rfl rfl (Pe _ (qR ha)) ?_;rintro v u e ⟨A1,c1,rfl,hN1⟩;replace m:=m.ext' e;simp only[zz];rw[qQ] at hN1 ⊢;refine aL (⟨m.sel [false,true,true],?_⟩);refine bV (bJ rfl rfl (Pe _ (qR hb)) ?_);rintro v u e ⟨A2,c2,rfl,hN2⟩;replace m:=m.ext' e;replace hN1:=hN1.ext e;simp only[zz];rw[qQ] at hN2 ⊢;refine aL (⟨m.sel [false,true,true],?_⟩);refine bV (bJ rfl rfl (aox _ hN1 hN2 (az hla (by decide)) (az hlb (by decide))) ?_);rintro v u e ⟨A3,c3,rfl,hN3⟩;replace m:=m.ext' e;simp only[zz];simp only[gK] at hN3 ⊢;rw[←Int.natAbs_mul] at hN3 ⊢;refine aL (⟨m.sel [false,true,true],?_⟩);refine bV (bJ rfl rfl (Bm _ hN3 (az hls (by decide))) ?_);rintro v u e rfl;replace m:=m.ext' e;simp only[zz];simp only[gK];refine aL (⟨m.sel [false,true,true],?_⟩);refine bV (cD m 0 rfl rfl rfl aT (jE rfl) rfl ?_);clear m;intro u m;simp only[zy,zx,over,zF,zG,aa] at m;refine aL (⟨m.sel [false,true,true],?_⟩);refine bM ?_;rw[Int.natAbs_mul,agH] at m;refine tO 1 [] m ?_;simp only[↓aD];rintro u m rfl;exact aQ rfl ⟨_,rfl,((m.b 0 rfl).full dP aT)⟩ (⟨_,rfl,m.ext,rfl⟩)
theorem aoz{a b:Int}(ha:Bd 900000 a)(hb:Bd 900000 b):eM prog 126 [W a,W b] (.int .i64 (bG (a-b))):=by
 intro w;refine⟨ajG,?_⟩;have m:=Mem.refl w
 go_enter func126,ntmps126
 refine eS 10 [1,0,0] m ?_;simp only[↓aD,iT];intro g1 g2;intro u m;refine kA m rfl rfl (As (ha.mono (by decide)) (hb.mono (by decide))) ?_;clear m;intro u m;simp only[zz];refine vJ m rfl rfl (Fm ((Bd.sub ha hb).mono (by decide))) 3 [] ?_;simp only[↓aD];intro u m;exact aQ rfl rfl (⟨_,rfl,m.ext,rfl⟩)
theorem nS{n:Int}(h:oV n):eM prog 118 [.int .i64 n] (W n):=by
 intro w;refine⟨ajA,?_⟩;have m:=Mem.refl w;have hna:=h.natAbs
 go_enter func118,ntmps118
 refine eS 5 [] m ?_;simp only[↓aD,rT];intro g1;intro u m;rcases (show n<0∨0≤n by omega) with h0 | h0
 ·
  refine cR 2 [0] m ?_;simp only[↓aD];intro u m;refine aB (kS lP jN rfl (agI h h0)) (aP 11 [1,0] m ?_);simp only[↓aD];refine⟨by omega,?_⟩;intro u m;refine aB (sA rfl (abD hna (by omega))) (aP 5 [0] m ?_);simp only[↓aD];intro u m;refine aB (jY rfl rfl (aav (by omega))) (aP 1 [0] m ?_);simp only[↓aD];intro u m;refine aB (jQ rfl rfl (by omega) Xc) ?_;simp only[zz];refine Tr eK (z:=.int .u64 0) (by kernel_rfl) rfl rfl rfl rfl rfl ?_;intro u g2 e hg hB;replace m:=m.newB e hg hB;clear e hg hB;refine aP 2 [1,0] m ?_;simp only[↓aD];refine⟨by omega,?_⟩;intro u m;refine cW m rfl rfl (Bm _ ((m.b 0 rfl).nat (os:=[n.natAbs%4294967296,n.natAbs / 4294967296]) (Jb (by omega)) rfl (by omega)) (by simp)) ?_;clear m;rintro v u m rfl;refine aP 3 [1] m ?_;simp only[↓aD,iT,aa];intro u m;refine aQ rfl ⟨_,rfl,((m.b 1 rfl).full dP aT)⟩ ?_;try simp only[zD,zE]
  exact⟨_,rfl,m.ext,by rw[Nr,show true=fC n from (decide_eq_true h0).symm,Tx];rfl⟩
 ·
  refine cR 2 [0] m ?_;simp only[↓aD];intro u m;refine aB (kS lP jN rfl (ajf h h0)) (aP 13 [2,0] m ?_);simp only[↓aD];refine⟨by omega,?_⟩;intro u m;refine aB (jY rfl rfl (aav (by omega))) (aP 1 [0] m ?_);simp only[↓aD];intro u m;refine aB (jQ rfl rfl (by omega) Xc) ?_;simp only[zz];refine Tr eK (z:=.int .u64 0) (by kernel_rfl) rfl rfl rfl rfl rfl ?_;intro u g2 e hg hB;replace m:=m.newB e hg hB;clear e hg hB;refine aP 2 [2,0] m ?_;simp only[↓aD];refine⟨by omega,?_⟩;intro u m;refine cW m rfl rfl (Bm _ ((m.b 0 rfl).nat (os:=[n.natAbs%4294967296,n.natAbs / 4294967296]) (Jb (by omega)) rfl (by omega)) (by simp)) ?_;clear m;rintro v u m rfl;refine aP 3 [1] m ?_;simp only[↓aD,iT,aa];intro u m;refine aQ rfl ⟨_,rfl,((m.b 1 rfl).full dP aT)⟩ ?_;try simp only[zD,zE]
  exact⟨_,rfl,m.ext,by rw[Nr,show false=fC n from (decide_eq_false (by omega)).symm,Tx];rfl⟩
end Go.Proofs.YtfekpcimgncioaaGreatDoor
namespace Go.Proofs.YtfekpcimgncioaaGreatDoor
open Go.Proofs.Tryz
open Go.RowKit Go.Lith
set_option maxRecDepth 100000
attribute [local irreducible] ao bz eZ Code.wp
end Go.Proofs.YtfekpcimgncioaaGreatDoor
namespace Go.Proofs.YtfekpcimgncioaaGreatDoor
open Go.Proofs.Tryz
open Go.RowKit Go.Lith
set_option maxRecDepth 100000
attribute [local irreducible] ao bz eZ bE bX Code.wp
attribute [local congr] nO fF fG fH fI fJ jH fK fL fM fN fO fP fQ fR fS fT fU dX dY fV fW fY fZ gA jJ cO cP cA cN fX jI dZ eA eB gB gC jK
theorem aoA{p:P3}:eM prog 276 [pt p] (.int .i64 p.x):=by
 intro w;refine⟨adG,?_⟩;have m:=Mem.refl w
 go_enter func276,ntmps276
 refine eS 12 [0] m ?_;simp only[↓aD,aeD,dR,aa];intro g1;intro u m;exact aQ rfl rfl (⟨_,rfl,m.ext,rfl⟩)
theorem aoB{p:P3}:eM prog 277 [pt p] (.int .i64 p.y):=by
 intro w;refine⟨adH,?_⟩;have m:=Mem.refl w
 go_enter func277,ntmps277
 refine eS 12 [0] m ?_;simp only[↓aD,aeE,dR,aa];intro g1;intro u m;exact aQ rfl rfl (⟨_,rfl,m.ext,rfl⟩)
theorem aoC{p:P3}:eM prog 278 [pt p] (.int .i64 p.z):=by
 intro w;refine⟨adI,?_⟩;have m:=Mem.refl w
 go_enter func278,ntmps278
 refine eS 12 [0] m ?_;simp only[↓aD,aeF,dR,aa];intro g1;intro u m;exact aQ rfl rfl (⟨_,rfl,m.ext,rfl⟩)
theorem al8  : eM prog 195 [] (.agg #[.func (.func 276) #[] #[],.func (.func 277) #[] #[],.func (.func 278) #[] #[]]):=by
 intro w;refine⟨adF,?_⟩;have m:=Mem.refl w
 go_enter func195,ntmps195
 refine eS 10 [0] m ?_;simp only[↓aD,alt,alu,als,aa];intro g1;intro u m;exact aQ rfl ⟨_,rfl,((m.b 0 rfl).full aaI Em)⟩ (⟨_,rfl,m.ext,rfl⟩)
theorem afj  : eM prog 336 [.int .i64 0] (.tuple #[.int .i64 1,.int .i64 2]):=by
 intro w;refine⟨Xu,?_⟩;have m:=Mem.refl w
 go_enter func336,ntmps336
 refine eS 9 [0] m ?_;simp only[↓aD,ai];refine⟨by omega,?_⟩;intro u m;refine aB (cU (m:=1) (n:=3) (r:=1) rfl rfl (by decide) (by decide)) (aP 2 [0] m ?_);simp only[↓aD,ai];refine⟨by omega,?_⟩;intro u m;refine aB (cU (m:=2) (n:=3) (r:=2) rfl rfl (by decide) (by decide)) (aP 4 [] m ?_);simp only[↓aD];intro u m;exact vW rfl rfl rfl (⟨_,rfl,m.ext,rfl⟩)
theorem afk  : eM prog 336 [.int .i64 1] (.tuple #[.int .i64 2,.int .i64 0]):=by
 intro w;refine⟨Xu,?_⟩;have m:=Mem.refl w
 go_enter func336,ntmps336
 refine eS 9 [0] m ?_;simp only[↓aD,ai];refine⟨by omega,?_⟩;intro u m;refine aB (cU (m:=2) (n:=3) (r:=2) rfl rfl (by decide) (by decide)) (aP 2 [0] m ?_);simp only[↓aD,ai];refine⟨by omega,?_⟩;intro u m;refine aB (cU (m:=3) (n:=3) (r:=0) rfl rfl (by decide) (by decide)) (aP 4 [] m ?_);simp only[↓aD];intro u m;exact vW rfl rfl rfl (⟨_,rfl,m.ext,rfl⟩)
theorem afl  : eM prog 336 [.int .i64 2] (.tuple #[.int .i64 0,.int .i64 1]):=by
 intro w;refine⟨Xu,?_⟩;have m:=Mem.refl w
 go_enter func336,ntmps336
 refine eS 9 [0] m ?_;simp only[↓aD,ai];refine⟨by omega,?_⟩;intro u m;refine aB (cU (m:=3) (n:=3) (r:=0) rfl rfl (by decide) (by decide)) (aP 2 [0] m ?_);simp only[↓aD,ai];refine⟨by omega,?_⟩;intro u m;refine aB (cU (m:=4) (n:=3) (r:=1) rfl rfl (by decide) (by decide)) (aP 4 [] m ?_);simp only[↓aD];intro u m;exact vW rfl rfl rfl (⟨_,rfl,m.ext,rfl⟩)
theorem kZ{p q:P3}[I3 p][I3 q]:eM prog 223 [pt p,pt q] (wv (q.sub p)):=by
 intro w;refine⟨aki,?_⟩;have m:=Mem.refl w
 go_enter func223,ntmps223
 refine eS 13 [0] m ?_;simp only[↓aD,aeI];intro g1 g2 g3 g4;intro u m;refine vJ m rfl rfl al8 17 [4,1,0] ?_;simp only[↓aD];refine⟨by omega,?_⟩;intro u m;refine aB (Ag rfl rfl) (aP 3 [0] m ?_);simp only[↓aD];intro u m;refine cL m 11 aC (by kernel_rfl) ?_;simp only[zy];refine eC 3 [2] ?_;simp only[↓aD,aR];refine iF rfl rfl aoA ?_;simp only[zz];refine iF rfl rfl (nS Iw.h) (aH aI ?_);simp only[zz];refine ql rfl (fun u m=>((m.b 3 rfl).full aG aA)) ?_;simp only[zz];refine iF rfl rfl aoA ?_;simp only[zz];refine iF rfl rfl (nS Iw.h) ?_;simp only[zz];refine iF rfl rfl (As Bw.up Bw.up) (eC 1 [] ?_);simp only[↓aD,mJ,ab,ad,aa];refine⟨by omega,?_⟩;refine aY ?_;clear m;intro u m;refine cD m 0 rfl rfl rfl aT (jE rfl) rfl ?_;clear m;intro u m;simp only[zy,zx,over,zF,zG,aa] at m;refine aL (cR 18 [1,0] m ?_);simp only[↓aD,ai];refine⟨by omega,?_⟩;intro u m;refine aB (Ah rfl rfl) (aP 3 [0] m ?_);simp only[↓aD];intro u m;refine cL m 11 aC (by kernel_rfl) ?_;simp only[zy];refine eC 3 [2] ?_;simp only[↓aD,aR];refine iF rfl rfl aoB ?_;simp only[zz];refine iF rfl rfl (nS Iw.h) (aH aI ?_);simp only[zz];refine ql rfl (fun u m=>((m.b 3 rfl).full aG aA)) ?_;simp only[zz];refine iF rfl rfl aoB ?_;simp only[zz];refine iF rfl rfl (nS Iw.h) ?_;simp only[zz];refine iF rfl rfl (As Bw.up Bw.up) (eC 1 [] ?_);simp only[↓aD,mJ,ab,ad,aa];refine⟨by omega,?_⟩;refine aY ?_;clear m;intro u m;refine cD m 0 rfl rfl rfl aT (jE rfl) rfl ?_;clear m;intro u m;simp only[zy,zx,over,zF,zG,aa] at m;refine aL (cR 18 [1,0] m ?_);simp only[↓aD,ai];refine⟨by omega,?_⟩;intro u m;refine aB (Ai rfl rfl) (aP 3 [0] m ?_);simp only[↓aD];intro u m;refine cL m 11 aC (by kernel_rfl) ?_;simp only[zy];refine eC 3 [2] ?_;simp only[↓aD,aR];refine iF rfl rfl aoC ?_;simp only[zz];refine iF rfl rfl (nS Iw.h) (aH aI ?_);simp only[zz];refine ql rfl (fun u m=>((m.b 3 rfl).full aG aA)) ?_;simp only[zz];refine iF rfl rfl aoC ?_;simp only[zz];refine iF rfl rfl (nS Iw.h) ?_;simp only[zz];refine iF rfl rfl (As Bw.up Bw.up) (eC 1 [] ?_);simp only[↓aD,mJ,ab,ad,aa];refine⟨by omega,?_⟩;refine aY ?_;clear m;intro u m;refine cD m 0 rfl rfl rfl aT (jE rfl) rfl ?_;clear m;intro u m;simp only[zy,zx,over,zF,zG,aa] at m;refine aL (cR 19 [2,0,1] m ?_);simp only[↓aD,aeH,ai,aa];refine⟨by omega,?_⟩;intro u m;exact aQ rfl ⟨_,rfl,((m.b 1 rfl).full aaJ Oc)⟩ (⟨_,rfl,m.ext,rfl⟩)
theorem uY{u v:P3}(hu:Bv 400000 u)(hv:Bv 400000 v):eM prog 302 [wv u,wv v] (wv (u.cross v)):=by
 intro w;refine⟨akG,?_⟩;have m:=Mem.refl w
 go_enter func302,ntmps302
 refine eS 35 [4,1,0] m ?_;simp only[↓aD,aeI];intro g1 g2 g3 g4;refine⟨by omega,?_⟩;intro u m;refine vJ m rfl rfl afj 6 [0] ?_;simp only[↓aD];intro u m;refine cL m 17 aC (by kernel_rfl) ?_;simp only[zy];refine eC 7 [3,2] ?_;simp only[↓aD,mJ,iT,ab,ad,aa];refine⟨by omega,?_⟩;refine iF rfl rfl (pT Bw.up Bw.up) (eC 6 [3,2] ?_);simp only[↓aD,mJ,iT,ab,ad,aa];refine⟨by omega,?_⟩;refine iF rfl rfl (pT Bw.up Bw.up) ?_;simp only[zz];refine iF rfl rfl (As Bw.up Bw.up) (eC 1 [] ?_);simp only[↓aD,mJ,ab,ad,aa];refine⟨by omega,?_⟩;refine aY ?_;clear m;intro u m;refine cD m 0 rfl rfl rfl aT (jE rfl) rfl ?_;clear m;intro u m;simp only[zy,zx,over,zF,zG,aa] at m;refine aL (cR 23 [1,0] m ?_);simp only[↓aD,ai];refine⟨by omega,?_⟩;intro u m;refine vJ m rfl rfl afk 6 [0] ?_;simp only[↓aD];intro u m;refine cL m 17 aC (by kernel_rfl) ?_;simp only[zy];refine eC 7 [3,2] ?_;simp only[↓aD,mJ,iT,ab,ad,aa];refine⟨by omega,?_⟩;refine iF rfl rfl (pT Bw.up Bw.up) (eC 6 [3,2] ?_);simp only[↓aD,mJ,iT,ab,ad,aa];refine⟨by omega,?_⟩;refine iF rfl rfl (pT Bw.up Bw.up) ?_;simp only[zz];refine iF rfl rfl (As Bw.up Bw.up) (eC 1 [] ?_);simp only[↓aD,mJ,ab,ad,aa];refine⟨by omega,?_⟩;refine aY ?_;clear m;intro u m;refine cD m 0 rfl rfl rfl aT (jE rfl) rfl ?_;clear m;intro u m;simp only[zy,zx,over,zF,zG,aa] at m;refine aL (cR 23 [1,0] m ?_);simp only[↓aD,ai];refine⟨by omega,?_⟩;intro u m;refine vJ m rfl rfl afl 6 [0] ?_;simp only[↓aD];intro u m;refine cL m 17 aC (by kernel_rfl) ?_;simp only[zy];refine eC 7 [3,2] ?_;simp only[↓aD,mJ,iT,ab,ad,aa];refine⟨by omega,?_⟩;refine iF rfl rfl (pT Bw.up Bw.up) (eC 6 [3,2] ?_);simp only[↓aD,mJ,iT,ab,ad,aa];refine⟨by omega,?_⟩;refine iF rfl rfl (pT Bw.up Bw.up) ?_;simp only[zz];refine iF rfl rfl (As Bw.up Bw.up) (eC 1 [] ?_);simp only[↓aD,mJ,ab,ad,aa];refine⟨by omega,?_⟩;refine aY ?_;clear m;intro u m;refine cD m 0 rfl rfl rfl aT (jE rfl) rfl ?_;clear m;intro u m;simp only[zy,zx,over,zF,zG,aa] at m;refine aL (cR 19 [2,0,1] m ?_);simp only[↓aD,aeH,ai,aa];refine⟨by omega,?_⟩;intro u m;exact aQ rfl ⟨_,rfl,((m.b 1 rfl).full aaJ Oc)⟩ (⟨_,rfl,m.ext,rfl⟩)
theorem al9{b:Int}(hb:Bd 1000000 b):eM prog 121 [.agg #[.bool false,.string ⟨#[]⟩],W b] (W (0+b)):=by
 rw[←Qk];exact Pf (Hp _) hb
theorem Gx{u v:P3}(hu:Bv 400000 u)(hv:Bv 400000 v):eM prog 224 [wv u,wv v] (W (u.dot v)):=by
 intro w;refine⟨akj,?_⟩;have m:=Mem.refl w
 go_enter func224,ntmps224
 refine eS 32 [4,1,0] m ?_;simp only[↓aD,rT];intro g1 g2 g3 g4;refine⟨by omega,?_⟩;intro u m;refine cL m 9 aC (by kernel_rfl) ?_;simp only[zy];refine eC 7 [0,3,2] ?_;simp only[↓aD,iT,mJ,ab,ad,aa];refine⟨by omega,?_⟩;refine iF rfl rfl (pT Bw.up Bw.up) ?_;simp only[zz];refine iF rfl rfl (al9 Bw.up) (aY ?_);clear m;intro u m;simp only[zz];refine cD m 0 rfl rfl rfl aT (jE rfl) rfl ?_;clear m;intro u m;simp only[zy,zx,over,zF,zG,aa] at m;refine aL (cR 20 [1,0] m ?_);simp only[↓aD,ai];refine⟨by omega,?_⟩;intro u m;refine cL m 9 aC (by kernel_rfl) ?_;simp only[zy];refine eC 7 [0,3,2] ?_;simp only[↓aD,iT,mJ,ab,ad,aa];refine⟨by omega,?_⟩;refine iF rfl rfl (pT Bw.up Bw.up) ?_;simp only[zz];refine iF rfl rfl (Pf Bw.up Bw.up) (aY ?_);clear m;intro u m;simp only[zz];refine cD m 0 rfl rfl rfl aT (jE rfl) rfl ?_;clear m;intro u m;simp only[zy,zx,over,zF,zG,aa] at m;refine aL (cR 20 [1,0] m ?_);simp only[↓aD,ai];refine⟨by omega,?_⟩;intro u m;refine cL m 9 aC (by kernel_rfl) ?_;simp only[zy];refine eC 7 [0,3,2] ?_;simp only[↓aD,iT,mJ,ab,ad,aa];refine⟨by omega,?_⟩;refine iF rfl rfl (pT Bw.up Bw.up) ?_;simp only[zz];refine iF rfl rfl (Pf Bw.up Bw.up) (aY ?_);clear m;intro u m;simp only[zz];refine cD m 0 rfl rfl rfl aT (jE rfl) rfl ?_;clear m;intro u m;simp only[zy,zx,over,zF,zG,aa] at m;refine aL (cR 19 [2,0,1] m ?_);simp only[↓aD,iT,ai,aa];refine⟨by omega,?_⟩;intro u m;refine aQ rfl ⟨_,rfl,((m.b 1 rfl).full dP aT)⟩ ?_;try simp only[zD,zE]
 exact⟨_,rfl,m.ext,by rw[←P3.dot0];rfl⟩
theorem Li{t:T3}[IT t]:eM prog 239 [tr t] (wv t.normal):=by
 intro w;refine⟨ako,?_⟩;have m:=Mem.refl w
 go_enter func239,ntmps239
 refine eS 6 [0] m ?_;simp only[↓aD,aeG];intro g1 g2;intro u m;refine cL m 11 aC (by kernel_rfl) ?_;simp only[zy];refine eC 4 [1,1] ?_;simp only[↓aD,dB,aR,ab,ad,aa];refine⟨by omega,?_⟩;refine iF rfl rfl kZ (eC 4 [1,1] ?_);simp only[↓aD,dB,aR,ab,ad,aa];refine⟨by omega,?_⟩;refine iF rfl rfl kZ ?_;simp only[zz];refine iF rfl rfl (uY Bv.of Bv.of) (aY ?_);clear m;intro u m;simp only[zz];refine cD m 0 rfl rfl rfl Oa (jE rfl) rfl ?_;clear m;intro u m;simp only[zy,zx,over,zF,zG,aa] at m;refine aL (cR 1 [] m ?_);simp only[↓aD];intro u m;exact aQ rfl ⟨_,rfl,((m.b 0 rfl).full ag4 Oa)⟩ (⟨_,rfl,m.ext,rfl⟩)
theorem mA{X:Nat}(w:ah)(hX64:X<18446744073709551616):dF prog 255 [.int .u64 X] w (fun v _=>∃n:Int,v=.int .i64 n∧0≤n∧n≤64∧(n≤18→X<262144)):=by
 refine⟨aku,?_⟩;have m:=Mem.refl w
 go_enter func255,ntmps255
 refine eS 10 [0,0] m ?_;simp only[↓aD];intro u m;refine bC rfl (fun hc1=>?_) (fun hc1=>?_)
 ·
  refine aS 3 [0] m ?_;simp only[↓aD];intro u m;refine aB (jQ rfl rfl (by omega) Xc) (aP 11 [0,0] m ?_);simp only[↓aD];intro u m;refine bC rfl (fun hc2=>?_) (fun hc2=>?_)
  ·
   refine aS 3 [0] m ?_;simp only[↓aD];intro u m;refine aB (jQ rfl rfl (by omega) ado) (aP 13 [0,0] m ?_);simp only[↓aD,ai];refine⟨by omega,?_⟩;intro u m;refine bC rfl (fun hc3=>?_) (fun hc3=>?_)
   ·
    refine aS 3 [0] m ?_;simp only[↓aD];intro u m;refine aB (jQ rfl rfl (by omega) aaz) (aP 12 [0] m ?_);simp only[↓aD,xJ,uS,ai];refine⟨by omega,?_⟩;intro u m;refine wK oX (by kernel_rfl) rfl (by omega) ?_;intro b hb8 hb2;simp only[vT,oS,rZ,gq,gp,eu,gi];refine aP 5 [] m ?_;simp only[↓aD,uS,Hk];refine⟨by omega,?_⟩;intro u m;refine aQ rfl rfl ?_;try simp only[zD,zE]
    exact⟨_,rfl,m.ext,_,rfl,by omega,by omega,by omega⟩
   ·
    refine aS 6 [0] m ?_;simp only[↓aD,xJ,uS];refine⟨by omega,?_⟩;intro u m;refine wK oX (by kernel_rfl) rfl (by omega) ?_;intro b hb8 hb2;simp only[vT,oS,rZ,gq,gp,eu,gi];refine aP 5 [] m ?_;simp only[↓aD,uS,Hk];refine⟨by omega,?_⟩;intro u m;refine aQ rfl rfl ?_;try simp only[zD,zE]
    exact⟨_,rfl,m.ext,_,rfl,by omega,by omega,by omega⟩
  ·
   refine aS 7 [0,0] m ?_;simp only[↓aD];intro u m;refine bC rfl (fun hc3=>?_) (fun hc3=>?_)
   ·
    refine aS 3 [0] m ?_;simp only[↓aD];intro u m;refine aB (jQ rfl rfl (by omega) aaz) (aP 12 [0] m ?_);simp only[↓aD,xJ,uS,ai];refine⟨by omega,?_⟩;intro u m;refine wK oX (by kernel_rfl) rfl (by omega) ?_;intro b hb8 hb2;simp only[vT,oS,rZ,gq,gp,eu,gi];refine aP 5 [] m ?_;simp only[↓aD,uS,Hk];refine⟨by omega,?_⟩;intro u m;refine aQ rfl rfl ?_;try simp only[zD,zE]
    exact⟨_,rfl,m.ext,_,rfl,by omega,by omega,by omega⟩
   ·
    refine aS 6 [0] m ?_;simp only[↓aD,xJ,uS];refine⟨by omega,?_⟩;intro u m;refine wK oX (by kernel_rfl) rfl (by omega) ?_;intro b hb8 hb2;simp only[vT,oS,rZ,gq,gp,eu,gi];refine aP 5 [] m ?_;simp only[↓aD,uS,Hk];refine⟨by omega,?_⟩;intro u m;refine aQ rfl rfl ?_;try simp only[zD,zE]
    exact⟨_,rfl,m.ext,_,rfl,by omega,by omega,by omega⟩
 ·
  refine aS 7 [0,0] m ?_;simp only[↓aD];intro u m;refine bC rfl (fun hc2=>?_) (fun hc2=>?_)
  ·
   refine aS 3 [0] m ?_;simp only[↓aD];intro u m;refine aB (jQ rfl rfl (by omega) ado) (aP 13 [0,0] m ?_);simp only[↓aD,ai];refine⟨by omega,?_⟩;intro u m;refine bC rfl (fun hc3=>?_) (fun hc3=>?_)
   ·
    refine aS 3 [0] m ?_;simp only[↓aD];intro u m;refine aB (jQ rfl rfl (by omega) aaz) (aP 12 [0] m ?_);simp only[↓aD,xJ,uS,ai];refine⟨by omega,?_⟩;intro u m;refine wK oX (by kernel_rfl) rfl (by omega) ?_;intro b hb8 hb2;simp only[vT,oS,rZ,gq,gp,eu,gi];refine aP 5 [] m ?_;simp only[↓aD,uS,Hk];refine⟨by omega,?_⟩;intro u m;refine aQ rfl rfl ?_;try simp only[zD,zE]
    exact⟨_,rfl,m.ext,_,rfl,by omega,by omega,by omega⟩
   ·
    refine aS 6 [0] m ?_;simp only[↓aD,xJ,uS];refine⟨by omega,?_⟩;intro u m;refine wK oX (by kernel_rfl) rfl (by omega) ?_;intro b hb8 hb2;simp only[vT,oS,rZ,gq,gp,eu,gi];refine aP 5 [] m ?_;simp only[↓aD,uS,Hk];refine⟨by omega,?_⟩;intro u m;refine aQ rfl rfl ?_;try simp only[zD,zE]
    exact⟨_,rfl,m.ext,_,rfl,by omega,by omega,by omega⟩
  ·
   refine aS 7 [0,0] m ?_;simp only[↓aD];intro u m;refine bC rfl (fun hc3=>?_) (fun hc3=>?_)
   ·
    refine aS 3 [0] m ?_;simp only[↓aD];intro u m;refine aB (jQ rfl rfl (by omega) aaz) (aP 12 [0] m ?_);simp only[↓aD,xJ,uS,ai];refine⟨by omega,?_⟩;intro u m;refine wK oX (by kernel_rfl) rfl (by omega) ?_;intro b hb8 hb2;simp only[vT,oS,rZ,gq,gp,eu,gi];refine aP 5 [] m ?_;simp only[↓aD,uS,Hk];refine⟨by omega,?_⟩;intro u m;refine aQ rfl rfl ?_;try simp only[zD,zE]
    exact⟨_,rfl,m.ext,_,rfl,by omega,by omega,by omega⟩
   ·
    refine aS 6 [0] m ?_;simp only[↓aD,xJ,uS];refine⟨by omega,?_⟩;intro u m;refine wK oX (by kernel_rfl) rfl (by omega) ?_;intro b hb8 hb2;simp only[vT,oS,rZ,gq,gp,eu,gi];refine aP 5 [] m ?_;simp only[↓aD,uS,Hk];refine⟨by omega,?_⟩;intro u m;refine aQ rfl rfl ?_;try simp only[zD,zE]
    exact⟨_,rfl,m.ext,_,rfl,by omega,by omega,by omega⟩
theorem nT{p q:P3}[hp:S3 p][hq:S3 q]:eM prog 299 [pt p,pt q] (nv (q.sub p)):=by
 intro w;refine⟨akD,?_⟩;have m:=Mem.refl w;have:=hp.x;have:=hp.y;have:=hp.z;have:=hq.x;have:=hq.y;have:=hq.z
 go_enter func299,ntmps299
 refine eS 27 [1,2,1,2,1,2,0] m ?_;simp only[↓aD,aeK,iZ,dR,jA,jP,alD,aeJ,aa];intro g1 g2 g3;refine⟨by omega,?_⟩;intro u m;exact aQ rfl ⟨_,rfl,((m.b 0 rfl).full aaK Od)⟩ (⟨_,rfl,m.ext,rfl⟩)
theorem Au{u v:P3}(hu:N3 u)(hv:N3 v):eM prog 300 [nv u,nv v] (nv (u.cross v)):=by
 intro w;refine⟨akE,?_⟩;have m:=Mem.refl w
 go_enter func300,ntmps300
 refine eS 35 [4,1,0] m ?_;simp only[↓aD,aeK];intro g1 g2 g3 g4;refine⟨by omega,?_⟩;intro u m;refine vJ m rfl rfl afj 6 [0] ?_;simp only[↓aD];intro u m;refine cL m 17 aC (by kernel_rfl) ?_;simp only[zy];refine eC 7 [3,2] ?_;simp only[↓aD,pL,dR,ab,ad,aa];refine⟨by omega,?_⟩;refine aH (pN rfl rfl (Ns (vM hu.y hv.z))) (eC 6 [3,2] ?_);simp only[↓aD,pL,dR,ab,ad,aa];refine⟨by omega,?_⟩;refine aH (pN rfl rfl (Ns (vM hu.z hv.y))) (aH (Cc rfl rfl (ajj (vM hu.y hv.z) (vM hu.z hv.y))) ?_);refine eC 1 [] ?_;simp only[↓aD,pL,ab,ad,aa];refine⟨by omega,?_⟩;refine aY ?_;clear m;intro u m;refine cK m 0 rfl rfl rfl aX (jE rfl) ⟨rfl,rfl⟩ ?_;clear m;intro u m;simp only[zz,zy,zx,over,aa] at m;refine aL (cR 23 [1,0] m ?_);simp only[↓aD,ai];refine⟨by omega,?_⟩;intro u m;refine vJ m rfl rfl afk 6 [0] ?_;simp only[↓aD];intro u m;refine cL m 17 aC (by kernel_rfl) ?_;simp only[zy];refine eC 7 [3,2] ?_;simp only[↓aD,pL,dR,ab,ad,aa];refine⟨by omega,?_⟩;refine aH (pN rfl rfl (Ns (vM hu.z hv.x))) (eC 6 [3,2] ?_);simp only[↓aD,pL,dR,ab,ad,aa];refine⟨by omega,?_⟩;refine aH (pN rfl rfl (Ns (vM hu.x hv.z))) (aH (Cc rfl rfl (ajj (vM hu.z hv.x) (vM hu.x hv.z))) ?_);refine eC 1 [] ?_;simp only[↓aD,pL,ab,ad,aa];refine⟨by omega,?_⟩;refine aY ?_;clear m;intro u m;refine cK m 0 rfl rfl rfl aX (jE rfl) ⟨rfl,rfl⟩ ?_;clear m;intro u m;simp only[zz,zy,zx,over,aa] at m;refine aL (cR 23 [1,0] m ?_);simp only[↓aD,ai];refine⟨by omega,?_⟩;intro u m;refine vJ m rfl rfl afl 6 [0] ?_;simp only[↓aD];intro u m;refine cL m 17 aC (by kernel_rfl) ?_;simp only[zy];refine eC 7 [3,2] ?_;simp only[↓aD,pL,dR,ab,ad,aa];refine⟨by omega,?_⟩;refine aH (pN rfl rfl (Ns (vM hu.x hv.y))) (eC 6 [3,2] ?_);simp only[↓aD,pL,dR,ab,ad,aa];refine⟨by omega,?_⟩;refine aH (pN rfl rfl (Ns (vM hu.y hv.x))) (aH (Cc rfl rfl (ajj (vM hu.x hv.y) (vM hu.y hv.x))) ?_);refine eC 1 [] ?_;simp only[↓aD,pL,ab,ad,aa];refine⟨by omega,?_⟩;refine aY ?_;clear m;intro u m;refine cK m 0 rfl rfl rfl aX (jE rfl) ⟨rfl,rfl⟩ ?_;clear m;intro u m;simp only[zz,zy,zx,over,aa] at m;refine aL (cR 19 [2,0,1] m ?_);simp only[↓aD,aeJ,ai,aa];refine⟨by omega,?_⟩;intro u m;exact aQ rfl ⟨_,rfl,((m.b 1 rfl).full aaK Od)⟩ (⟨_,rfl,m.ext,rfl⟩)
theorem Sq{n:Int}:eM prog 301 [.int .i64 n] (.int .i64 (bG n)):=by
 intro w;refine⟨akF,?_⟩;have m:=Mem.refl w
 go_enter func301,ntmps301
 refine eS 12 [0,0] m ?_;simp only[↓aD];intro u m;refine bC rfl (fun hc1=>?_) (fun hc1=>?_)
 ·
  refine aS 5 [] m ?_;simp only[↓aD];intro u m;refine aQ rfl rfl ?_;try simp only[zD,zE]
  exact⟨_,rfl,m.ext,by rw[Np (by assumption)]⟩
 ·
  refine aS 6 [0,0] m ?_;simp only[↓aD];intro u m;refine bC rfl (fun hc2=>?_) (fun hc2=>?_)
  ·
   refine aS 5 [] m ?_;simp only[↓aD];intro u m;refine aQ rfl rfl ?_;try simp only[zD,zE]
   exact⟨_,rfl,m.ext,by rw[Nq (by assumption)]⟩
  ·
   refine aS 7 [] m ?_;simp only[↓aD];intro u m;refine aQ rfl rfl ?_;try simp only[zD,zE]
   exact⟨_,rfl,m.ext,by rw[show n=0 by omega];rfl⟩
end Go.Proofs.YtfekpcimgncioaaGreatDoor
