/-
 Texts of one claim, laid together: K3, K4, Sfa, K5, Ref1, Ref2, Ref3, Ref4, Ref5, Ref6, Ref7, Wide6, Wide1, Wide2, Wide3, Wide4, Wide5, Back, Wide7, Wide8, Wide9, Wide10, Geo1, Exact, Exact2, K6, Sla, K7, Guard2, K8, K9, K10, K11, Kt, K16.
-/
import Derived.RangeFuncNested
import Derived.RangeFuncBound
import Derived.RangeFuncCalls
import Derived.RangeFuncBox
import Derived.RangeFuncLeaves
import Derived.Shelf.Abstract
import Derived.Shelf.RegionOpen
import Derived.WalkKit
import Derived.OwnWalkIn
import Derived.TacticsInMore
import Derived.LoopNIn
import Derived.LoopIn
import Derived.Maps.AppendAt
import Derived.Test.YtfekpcimgncioaaGreatDoorG5
open Nat renaming reduceAdd→aa,reduceMul→ah,le_refl→ao,zero_add→ar,le_trans→be,zero_le→cq,lt_succ_self→fg,lt_of_lt_of_le→gz,reduceSub→kn,ne_of_gt→nf
open Int renaming reduceToNat→ad,toNat_natCast→ag,reduceAdd→am
open Go renaming Value→ai,World→aj,wp_region_lit→aq,wpList→au,TypeId→av,Operand→bz,run_underlying→cn,wpQuiet→cu,MapEntry→de
open List renaming getElem?_eq_getElem→ak,mem_cons→an,getElem?_eq_some_iff→ap,flatMap_append→aw,length_cons→ay,mem_singleton→az,length_append→a_,length_map→bf,take_of_length_le→bi,mem_of_getElem?→bj,mem_append→br,nil_append→bt,length_nil→cd,cons_append→cg,not_mem_nil→cl,map_append→ct,mem_map→cw,replicate→db,all_eq_true→df,mem_filter→dh,getElem?_map→eh,append_nil→eo,eq_nil_of_length_eq_zero→et,mem_iff_getElem?→fb,length_drop→fm,getElem?_eq_none→fq,length_filter_le→ft,set_cons_succ→fy,set_cons_zero→gq,take_length→gt,size_toArray→gu,filter_append→ij,getD_cons_zero→iv,getD_cons_succ→iw,append_toArray→ix,push_toArray→jd,eq_of_mem_replicate→jf,pairwise_map→jn,nodup_nil→jo,take_zero→lp,drop_zero→pa,all_eq_false→pn
open Go.Value renaming bool→bm,oneCell'→pi
open Array renaming replicate_succ→im,replicate_zero→io
open Prod renaming snd→pv
open Go.Oper renaming semAt_some→qd
set_option maxHeartbeats 8000000
set_option linter.unusedSimpArgs false
set_option linter.unusedVariables false
set_option linter.unusedSectionVars false
namespace Go.Proofs.YtfekpcimgncioaaGreatDoor
open Go.Proofs.Tryz
open Go.RowKit Go.Lith
variable{u x q:P3}{t:T3}{ts:List T3}
abbrev fH:=@underlying233
set_option maxRecDepth 100000
attribute [local irreducible] au cu fA bF cG Code.wp
attribute [local congr] nO fK fM fN fO fP iY fQ fR fS fT fU fV fW fX fY fZ gA dX dY gB gC gE gF gG jA cQ cR cE cP gD iZ dZ eA eB gH gI jD
theorem aj9{v:P3}(h:x.x=u.x∧x.y=u.y∧x.z=u.z):jW u v x=v:=by
 rw[show x=u from P3.eq h.1 h.2.1 h.2.2];exact lB
theorem aeb{v:P3}(h:¬(x.x=u.x∧x.y=u.y∧x.z=u.z)):jW u v x=x:=gN fun e=>h (by rw[e];exact⟨rfl,rfl,rfl⟩)
theorem pne{p:P3}:decide (¬(p.x=q.x∧p.y=q.y∧p.z=q.z))=decide (p≠q):=decide_eq_decide.2 ⟨fun h e=>h (by rw[e];exact⟨rfl,rfl,rfl⟩),fun h e=>h (P3.eq e.1 e.2.1 e.2.2)⟩
theorem afw{p:P3}:fF prog 54 [tr t,pt p,pt q] (.tuple #[tr (oL p q t),.bool (oL p q t).nd]):=by
 intro w;refine⟨bP func54 (by kernel_rfl),?_⟩;have m:=Mem.refl w
 go_enter func54,ntmps54
 apply mR 31 [4,1,0] m;simp only[↓aC,nC];intro g1 g2 g3 g4;refine⟨by omega,?_⟩;intro u m;refine mq m aD (by kernel_rfl) (eT 4 [3,2] ?_);simp only[↓aC,dD,aU,ad,ah,aa];refine⟨by omega,?_⟩;refine aI (bZ rfl rfl) (bE ?_);intro u m;refine gc ?_;simp only[zz];refine iO m 3 [] [17,18,19] (fun vs i=>vs=[]∧i=bI g1 [.int .i64 (jW p q t.a).x,.int .i64 (jW p q t.a).y,.int .i64 (jW p q t.a).z,.int .i64 (t.b).x,.int .i64 (t.b).y,.int .i64 (t.b).z,.int .i64 (t.c).x,.int .i64 (t.c).y,.int .i64 (t.c).z] 39) ?_ ?_
 · intro K1 hK1
   refine bA rfl ?_ ?_<;>intro hc2
   ·
    apply zvc 6 [1,3,0] m;simp only[↓aC,aU,dD,ad,ah,aa];refine⟨by omega,?_⟩;intro u m;exact hK1 _ _ _ (by kernel_rfl) m ⟨rfl,by rw[aj9 hc2] <;> rfl⟩
   ·
    apply aK 1 [0] m;simp only[↓aC];exact hK1 _ _ _ (by kernel_rfl) m ⟨rfl,by rw[aeb hc2] <;> rfl⟩
 · intro vs i wr m hI u
   obtain⟨rfl,rfl⟩:=hI;simp only[zF,zG] at m;simp only[zu,zF,zG];apply aW 21 [1,0] m;simp only[↓aC,am];refine⟨by omega,?_⟩;refine mq m aD (by kernel_rfl) (eT 4 [3,2] ?_);simp only[↓aC,dD,aU,ad,ah,aa];refine⟨by omega,?_⟩;refine aI (bZ rfl rfl) (bE ?_);intro u m;refine gc ?_;simp only[zz];refine iO m 3 [] [17,18,19] (fun vs i=>vs=[]∧i=bI g1 [.int .i64 (jW p q t.a).x,.int .i64 (jW p q t.a).y,.int .i64 (jW p q t.a).z,.int .i64 (jW p q t.b).x,.int .i64 (jW p q t.b).y,.int .i64 (jW p q t.b).z,.int .i64 (t.c).x,.int .i64 (t.c).y,.int .i64 (t.c).z] 39) ?_ ?_
   · intro K2 hK2
     refine bA rfl ?_ ?_<;>intro hc2
     ·
      apply zvc 6 [1,3,0] m;simp only[↓aC,aU,dD,ad,ah,aa];refine⟨by omega,?_⟩;intro u m;exact hK2 _ _ _ (by kernel_rfl) m ⟨rfl,by rw[aj9 hc2] <;> rfl⟩
     ·
      apply aK 1 [0] m;simp only[↓aC];exact hK2 _ _ _ (by kernel_rfl) m ⟨rfl,by rw[aeb hc2] <;> rfl⟩
   · intro vs i wr m hI u
     obtain⟨rfl,rfl⟩:=hI;simp only[zF,zG] at m;simp only[zu,zF,zG];apply aW 21 [1,0] m;simp only[↓aC,am];refine⟨by omega,?_⟩;refine mq m aD (by kernel_rfl) (eT 4 [3,2] ?_);simp only[↓aC,dD,aU,ad,ah,aa];refine⟨by omega,?_⟩;refine aI (bZ rfl rfl) (bE ?_);intro u m;refine gc ?_;simp only[zz];refine iO m 3 [] [17,18,19] (fun vs i=>vs=[]∧i=bI g1 [.int .i64 (jW p q t.a).x,.int .i64 (jW p q t.a).y,.int .i64 (jW p q t.a).z,.int .i64 (jW p q t.b).x,.int .i64 (jW p q t.b).y,.int .i64 (jW p q t.b).z,.int .i64 (jW p q t.c).x,.int .i64 (jW p q t.c).y,.int .i64 (jW p q t.c).z] 39) ?_ ?_
     · intro K3 hK3
       refine bA rfl ?_ ?_<;>intro hc2
       ·
        apply zvc 6 [1,3,0] m;simp only[↓aC,aU,dD,ad,ah,aa];refine⟨by omega,?_⟩;intro u m;exact hK3 _ _ _ (by kernel_rfl) m ⟨rfl,by rw[aj9 hc2] <;> rfl⟩
       ·
        apply aK 1 [0] m;simp only[↓aC];exact hK3 _ _ _ (by kernel_rfl) m ⟨rfl,by rw[aeb hc2] <;> rfl⟩
     · intro vs i wr m hI u
       obtain⟨rfl,rfl⟩:=hI;simp only[zF,zG] at m;simp only[zu,zF,zG];apply aW 14 [2,0] m;simp only[↓aC,am];refine⟨by omega,?_⟩;refine mh m [false,true,true,true] [(1,true),(3,true),(0,true),(2,true),(4,true),(5,true),(6,true),(7,true),(9,true),(8,true),(10,true),(11,true),(12,true),(13,true),(14,true),(16,true),(15,true),(17,true),(18,true),(19,true),(20,false),(21,true)] aD (by kernel_rfl) (bT (fun _ _ _ _ _ h=>h)) (ol:=?_) ?hol ?_
       case hol=>simp only[zw,zQ,zR];try rfl
       intro u m;refine Ps 5 [2,2,2] ?_;simp only[↓aC,dD,gX,aU,ad,ah,aa];refine⟨by omega,?_⟩;refine aS (iN rfl rfl) (aS aG (Ln rfl (fun hb=>aJ cT aA rfl rfl (by decide) (by decide) rfl) (Ln rfl (fun hb=>aJ cT aA rfl rfl (by decide) (by decide) rfl) ?_)));simp only[zz];refine Iu rfl (fun hb u m=>aZ (bB hb rfl) ((m.b 2 rfl).lies aH aA rfl rfl)) ?_;simp only[zz,zy,ar,aa,ah,ad];refine Iu rfl (fun hb u m=>aZ (bB hb rfl) ((m.b 2 rfl).lies aH aA rfl rfl)) ?_;simp only[zz,zy,ar,aa,ah,ad];refine Ln rfl (fun hb=>iN (bB hb rfl) (bB hb rfl)) (aS (fC rfl rfl rfl) (aS aG (Ln rfl (fun hb=>aJ cT aA rfl rfl (by decide) (by decide) rfl) ?_)));simp only[zz];refine Ln rfl (fun hb=>aJ cT aA rfl rfl (by decide) (by decide) rfl) ?_;simp only[zz];refine Iu rfl (fun hb u m=>aZ (bB hb rfl) ((m.b 2 rfl).lies aH aA rfl rfl)) ?_;simp only[zz,zy,ar,aa,ah,ad];refine Iu rfl (fun hb u m=>aZ (bB hb rfl) ((m.b 2 rfl).lies aH aA rfl rfl)) ?_;simp only[zz,zy,ar,aa,ah,ad];refine Ln rfl (fun hb=>iN (bB hb rfl) (bB hb rfl)) (aS (fC rfl rfl rfl) (cF ?_));simp only[zz];refine cU m 0 rfl rfl rfl aO (kG rfl) rfl ?_;intro u m;simp only[zy,zx,over,zF,zG,aa] at m;refine aN ⟨m.sel [false,true,true,true],?_⟩;refine aS aP (bV ?_);apply aW 1 [] m;simp only[↓aC];refine Ck rfl ⟨_,rfl,((m.b 0 rfl).full cK aO)⟩ rfl ?_;try simp only[zD,zE]
       exact⟨_,rfl,m.ext,by rw[pne,pne,pne] <;> rfl⟩
theorem ag2{p:P3}{k:Nat}(h:ts[k]? = some t):sU p q (ts.take (k+1))=sU p q (ts.take k)++if (oL p q t).nd then [oL p q t] else []:=by
 rw[bY h];unfold sU;rw[ct,ij]
 congr 1
 rw[List.map_cons,List.map_nil,List.filter_cons,List.filter_nil]
theorem Nb{p:P3}(hq:I3 q)(hx:I3 x):I3 (jW p q x):=by
 unfold jW;split
 · exact hq
 · exact hx
theorem Ki{p:P3}(hq:I3 q)(h:∀t∈ts,IT t):∀t∈sU p q ts,IT t:=fun t ht=>by
 obtain⟨s,hs,rfl⟩:=cw.1 (dh.1 ht).1;have:=h s hs;exact⟨Nb hq this.a,Nb hq this.b,Nb hq this.c⟩
theorem aka{p:P3}(ts:List T3):(eZ ts p q).length=(sU p q ts).length:=eH _
theorem Ht{N cap:Nat}{A:Option Addr}{p:P3}[I3 p][I3 q](w:aj)(hT:bQ w A N ts)(hN:N≤10000000):dK prog 22 [.slice A N cap,pt p,pt q] w (SL 39 9 ((eZ ts p q).flatMap aM) (eZ ts p q).length w):=by
 refine⟨bP func22 (by kernel_rfl),?_⟩;have m:=Mem.refl w;have htl:=hT.len
 go_enter func22,ntmps22
 apply mR 8 [0] m;simp only[↓aC];intro g1 g2 u m;refine aB aP ?_;replace m:=m.nilO 39 9;apply aL 9 [0] m;simp only[↓aC,eV];refine bX [7,14] [9,10,11,15,16,17,18,19,20,21,22,23,24,25,26,27,28,29,30] (fun n vs wl=>∃(k:Nat) (A7:Option Addr) (cap7:Nat),vs=[.slice A7 (sU p q (ts.take k)).length cap7,.int .i64 (k:Int)]∧Mem w wl [oI 39 9 A7 (sU p q (ts.take k)).length cap7 ((sU p q (ts.take k)).flatMap aM),bI g2 [.int .i64 q.x,.int .i64 q.y,.int .i64 q.z] 30,bI g1 [.int .i64 p.x,.int .i64 p.y,.int .i64 p.z] 30]∧(k≤N)∧(n=N-k)) ?_ ?_
 ·
  exact⟨_,0,_,_,rfl,m,cq _,rfl⟩
 · intro n vs wr hI u K1 hK1
   obtain⟨k,A7,cap7,rfl,m,hk,hn⟩:=hI;simp only[zu,zF,zG];apply aK 5 [0,0] m;simp only[↓aC];refine bA rfl ?_ ?_<;>intro hc1
   ·
    obtain⟨t,ht,_,a,rfl,hrow⟩:=hT.get (i:=k) (by omega);have hcs:=ag2 (p:=p) (q:=q) ht;have hcl:=afc p q (ts.take k);rw[List.length_take] at hcl;apply aK 5 [0] m;simp only[↓aC];refine aB (aF bL aO rfl rfl (by omega) (by omega) (cH (ag _))) ?_;simp only[zz];refine aR rfl ((hrow.ext m.ext).lies cK aO) ?_;simp only[zz];apply kP 8 [0,0,3,2,0] m;simp only[↓aC,nC,gX,aU,aa];intro g3 u m;refine wA m rfl rfl (afw (t:=t) (p:=p) (q:=q)) 11 [0,0] ?_;simp only[↓aC,nC,gX,aa];intro g4 u m;refine eG rfl ?_ ?_<;>intro hc2
    ·
     rw[hc2,if_pos rfl] at hcs;apply aK 3 [0,0] m;simp only[↓aC,gX];refine eF rfl ?_;intro u g5 e_ h_ k_;replace m:=m.newB e_ h_ k_;simp only[zz];refine bW m 3 rfl rfl bL gR rfl (by decide) rfl rfl rfl (m.b 0 rfl).rowsO (jX rfl) (by omega) (by omega) ?_;intro A7 cap7 u m;simp only[zF,zG] at m;rw[show (sU p q (ts.take k)).flatMap aM++_=(sU p q (ts.take (k+1))).flatMap aM by rw[hcs,aw];rfl] at m;have hll:(sU p q (ts.take k)).length+1=(sU p q (ts.take (k+1))).length:=by rw[hcs,a_];rfl
     rw[hll] at m;rw[hll];apply aL 7 [0] m;simp only[↓aC];refine⟨by omega,?_⟩;exact hK1 (N-(k+1)) _ _ (by omega) (by kernel_rfl) ⟨k+1,_,_,rfl,(m.sel [false,false,false,true,true,true]),by omega,rfl⟩
    ·
     rw[hc2,if_neg Bool.false_ne_true,eo] at hcs;apply aK 6 [0] m;simp only[↓aC];refine⟨by omega,?_⟩;rw[←hcs] at m ⊢;exact hK1 (N-(k+1)) _ _ (by omega) (by kernel_rfl) ⟨k+1,_,_,rfl,(m.sel [false,false,true,true,true]),by omega,rfl⟩
   ·
    obtain rfl:k=N:=by omega
    rw[show ts.take k=ts from bi (by omega)] at m ⊢;apply aK 4 [0] m;simp only[↓aC];refine bC rfl rfl (ace (ts:=sU p q ts) _ ((m.o 0 rfl).tris (Ki inferInstance hT.it)) (by have:=afc p q ts;omega)) ?_;rintro v u e_ ⟨A8,cap8,n8,hn8,rfl,h_⟩;replace m:=m.newO e_ h_;apply aL 3 [] m;simp only[↓aC];exact aT rfl rfl ⟨_,rfl,m.ext,⟨_,_,_,by rw[hn8,aka],rfl,(m.o 0 rfl)⟩⟩
end Go.Proofs.YtfekpcimgncioaaGreatDoor
namespace Go.Lith
open Go.RowKit
variable{q x:P3}
def pJ(D:List (P3 × Hd))(p:P3):Hd:=(cD D p).getD ⟨none,0,0⟩
def nbK(p:P3)(q:P3):List P3:=if q≠p then [q] else []
def nbT(p:P3)(t:T3):List P3:=nbK p t.a++nbK p t.b++nbK p t.c
def nR(ts:List T3)(p:P3):List P3:=(ts.filter fun t=>t.has p).flatMap (nbT p)
theorem Fq{p:P3}:x∈nbK p q↔x=q∧x≠p:=by
 unfold nbK;split
 · rename_i h;rw[az];exact⟨fun e=>⟨e,e▸h⟩,fun e=>e.1⟩
 · rename_i h;exact⟨fun e=>(by cases e),fun e=>absurd (e.1▸e.2) h⟩
theorem sJ{ts:List T3}{p:P3}:x∈nR ts p↔Me ts p x=true:=by
 unfold nR;rw[Dr,kU,List.mem_flatMap];constructor
 · rintro⟨t,ht,hx⟩
   obtain⟨h1,h2⟩:=dh.1 ht;unfold nbT at hx;rw[br,br,Fq,Fq,Fq] at hx;have hne:x≠p:=by rcases hx with (h | h) | h <;> exact h.2
   have hh:t.has x=true:=jQ.2 (by rcases hx with (h | h) | h <;> simp[h.1]);exact⟨hne,t,h1,h2,hh⟩
 · rintro⟨hne,t,h1,h2,hh⟩
   refine⟨t,dh.2 ⟨h1,h2⟩,?_⟩;unfold nbT;rw[br,br,Fq,Fq,Fq];rcases jQ.1 hh with e | e | e
   · exact .inl (.inl ⟨e,hne⟩)
   · exact .inl (.inr ⟨e,hne⟩)
   · exact .inr ⟨e,hne⟩
theorem akb{p:P3}(h:¬(q.x=p.x∧q.y=p.y∧q.z=p.z)):nbK p q=[q]:=if_pos fun e=>h (by rw[e];exact⟨rfl,rfl,rfl⟩)
theorem akc{p:P3}(h:¬¬(q.x=p.x∧q.y=p.y∧q.z=p.z)):nbK p q=[]:=if_neg fun k=>h fun e=>k (P3.eq e.1 e.2.1 e.2.2)
theorem akd{fs:List T3}{p:P3}{k:Nat}{t:T3}(h:fs[k]? = some t):(fs.take (k+1)).flatMap (nbT p)=(fs.take k).flatMap (nbT p)++nbK p t.a++nbK p t.b++nbK p t.c:=by
 rw[bY h,aw,List.flatMap_cons,List.flatMap_nil,eo];unfold nbT;simp only[List.append_assoc]
end Go.Lith
namespace Go.Proofs.YtfekpcimgncioaaGreatDoor
open Go.Proofs.Tryz
open Go.RowKit Go.Lith
set_option maxRecDepth 100000
attribute [local irreducible] au cu fA bF cG Code.wp
attribute [local congr] nO fK fM fN fO fP iY fQ fR fS fT fU fV fW fX fY fZ gA dX dY gB gC gE gF gG jA cQ cR cE cP gD iZ dZ eA eB gH gI jD
theorem aaK{g90 ga gf N cap ca:Nat}{A:Option Addr}{ea:Array de}{D:List (P3 × Hd)}{ts:List T3}{p:P3}(w:aj)(hB90:gT w g90 [.slice A N cap,.map (some ga),.map (some gf)] 109)(hMa:iW w ga ea ca)(hDa:bJ pt Hd.v D ea ca)(hS:∀p,bQ w (pJ D p).A (pJ D p).n (ts.filter fun t=>t.has p)∧(pJ D p).n≤(pJ D p).cap)(hN:ts.length≤10000000):dK prog 62 [.pointer (some ⟨g90,0,none⟩),pt p] w (fun v w'=>∃g es c,v=.map (some g)∧Mem w w' [mI g es c]∧bJ pt bm (gS [] (nR ts p)) es c):=by
 refine⟨bP func62 (by kernel_rfl),?_⟩;have m:=Mem.refl w
 go_enter func62,ntmps62
 apply mR 7 [0] m;simp only[↓aC];intro g1 u m;refine mE m ?_;intro q8 u m;have hD8:=bJ.nil (K:=P3) (V:=Bool) pt bm;apply aL 4 [0] m;simp only[↓aC];refine mq m aD (by kernel_rfl) (eT 3 [] ?_);simp only[↓aC,Sw,aa];refine ql rfl (fun u m=>((hB90.ext m.ext).lies1 aeP rfl)) ?_;simp only[zz];refine ql rfl (fun u m=>((m.b 1 rfl).full aH aA)) ?_;simp only[zz];refine kK (fun u m=>eE (ek:=pt) (en:=Hd.v) (k:=p) (v0:=⟨none,0,0⟩) underlying106 aeN gU rfl rfl (hMa.ext m.ext) hDa) ?_;simp only[zz];refine aI (Lh rfl bL rfl) (aI aG (bE ?_));intro u m;simp only[zz];obtain⟨⟨A9,n9,cap9⟩,hhe⟩:∃h:Hd,h=(cD D p).getD ⟨none,0,0⟩:=⟨_,rfl⟩
 have hT9:=hS p;unfold pJ at hT9;rw[←hhe] at hT9;obtain⟨hT9,hle9⟩:=hT9;simp only at hT9 hle9;have hl9:=hT9.len;have hfl:=ft (fun t=>T3.has t p) ts;rw[←hhe];simp only[Hd.v];apply aW 1 [0] m;simp only[↓aC];refine bX [18] [7,9,19,20,21,22,23,24,25,26,27,28,29,30,31,32] (fun n vs wl=>∃(k:Nat) (es:Array de) (c:Nat),vs=[.int .i64 (k:Int)]∧Mem w wl [mI q8 es c,bI g1 [.int .i64 p.x,.int .i64 p.y,.int .i64 p.z] 30]∧(bJ pt bm (gS [] (((ts.filter fun t=>t.has p).take k).flatMap (nbT p))) es c)∧(k≤n9)∧(n=n9-k)) ?_ ?_
 ·
  exact⟨_,0,_,_,rfl,m,hD8,cq _,rfl⟩
 · intro n vs wr hI u K1 hK1
   obtain⟨k,es8,c8,rfl,m,hD8,hk,hn⟩:=hI;simp only[zu,zF,zG];apply aK 5 [0,0] m;simp only[↓aC];refine bA rfl ?_ ?_<;>intro hc1
   ·
    obtain⟨t,ht,_,a,rfl,hrow⟩:=hT9.get (i:=k) (by omega);apply aK 5 [0] m;simp only[↓aC];refine aB (aF bL aO rfl rfl (by omega) (by omega) (cH (ag _))) ?_;simp only[zz];refine aR rfl ((hrow.ext m.ext).lies cK aO) ?_;simp only[zz];apply kP 22 [0,0,4,1,0] m;simp only[↓aC,nC,gX,aa];intro g3;refine⟨by omega,?_⟩;intro u m;refine aB (tX rfl rfl) ?_;apply kP 7 [0,0,3,0] m;simp only[↓aC,gM,aU,aa];intro g4 u m;refine aB (iN rfl rfl) ?_;apply aL 1 [0] m;simp only[↓aC];refine iO m 2 [] [29,30] (fun vs i=>∃(es:Array de) (c:Nat),vs=[]∧i=mI q8 es c∧(bJ pt bm (gS [] ((((ts.filter fun t=>t.has p).take k).flatMap (nbT p))++nbK p t.a)) es c)) ?_ ?_
    · intro K2 hK2
      refine bA rfl ?_ ?_<;>intro hc3
      ·
       apply aK 3 [0,0] m;simp only[↓aC,aU];refine nN (ek:=pt) (en:=bm) (a:=t.a) (v:=true) m 2 rfl nU gU rfl rfl rfl hD8 ?_;intro es8 c8 u m hD8;simp only[zF,zG] at m;rw[←mJ] at hD8;apply aL 1 [0] m;simp only[↓aC];exact hK2 _ _ _ (by kernel_rfl) m ⟨_,_,rfl,rfl,by rw[akb hc3];exact hD8⟩
      ·
       apply aK 1 [0] m;simp only[↓aC];exact hK2 _ _ _ (by kernel_rfl) m ⟨_,_,rfl,rfl,by rw[akc hc3,eo];exact hD8⟩
    · intro vs i wr m hI u
      obtain⟨es8,c8,rfl,rfl,hD8⟩:=hI;simp only[zF,zG] at m;simp only[zu,zF,zG];apply aW 17 [1,0] m;simp only[↓aC,am];refine⟨by omega,?_⟩;refine aB (tY rfl rfl) ?_;apply kP 7 [0,0,4,0] m;simp only[↓aC,gM,aU,aa];intro g5 u m;refine aB (iN rfl rfl) ?_;apply aL 1 [0] m;simp only[↓aC];refine iO m 3 [] [29,30] (fun vs i=>∃(es:Array de) (c:Nat),vs=[]∧i=mI q8 es c∧(bJ pt bm (gS [] (((((ts.filter fun t=>t.has p).take k).flatMap (nbT p))++nbK p t.a)++nbK p t.b)) es c)) ?_ ?_
      · intro K3 hK3
        refine bA rfl ?_ ?_<;>intro hc3
        ·
         apply aK 3 [0,0] m;simp only[↓aC,aU];refine nN (ek:=pt) (en:=bm) (a:=t.b) (v:=true) m 3 rfl nU gU rfl rfl rfl hD8 ?_;intro es8 c8 u m hD8;simp only[zF,zG] at m;rw[←mJ] at hD8;apply aL 1 [0] m;simp only[↓aC];exact hK3 _ _ _ (by kernel_rfl) m ⟨_,_,rfl,rfl,by rw[akb hc3];exact hD8⟩
        ·
         apply aK 1 [0] m;simp only[↓aC];exact hK3 _ _ _ (by kernel_rfl) m ⟨_,_,rfl,rfl,by rw[akc hc3,eo];exact hD8⟩
      · intro vs i wr m hI u
        obtain⟨es8,c8,rfl,rfl,hD8⟩:=hI;simp only[zF,zG] at m;simp only[zu,zF,zG];apply aW 17 [1,0] m;simp only[↓aC,am];refine⟨by omega,?_⟩;refine aB (tZ rfl rfl) ?_;apply kP 7 [0,0,5,0] m;simp only[↓aC,gM,aU,aa];intro g6 u m;refine aB (iN rfl rfl) ?_;apply aL 1 [0] m;simp only[↓aC];refine iO m 4 [] [29,30] (fun vs i=>∃(es:Array de) (c:Nat),vs=[]∧i=mI q8 es c∧(bJ pt bm (gS [] ((((((ts.filter fun t=>t.has p).take k).flatMap (nbT p))++nbK p t.a)++nbK p t.b)++nbK p t.c)) es c)) ?_ ?_
        · intro K4 hK4
          refine bA rfl ?_ ?_<;>intro hc3
          ·
           apply aK 3 [0,0] m;simp only[↓aC,aU];refine nN (ek:=pt) (en:=bm) (a:=t.c) (v:=true) m 4 rfl nU gU rfl rfl rfl hD8 ?_;intro es8 c8 u m hD8;simp only[zF,zG] at m;rw[←mJ] at hD8;apply aL 1 [0] m;simp only[↓aC];exact hK4 _ _ _ (by kernel_rfl) m ⟨_,_,rfl,rfl,by rw[akb hc3];exact hD8⟩
          ·
           apply aK 1 [0] m;simp only[↓aC];exact hK4 _ _ _ (by kernel_rfl) m ⟨_,_,rfl,rfl,by rw[akc hc3,eo];exact hD8⟩
        · intro vs i wr m hI u
          obtain⟨es8,c8,rfl,rfl,hD8⟩:=hI;simp only[zF,zG] at m;simp only[zu,zF,zG];apply aW 18 [2,0] m;simp only[↓aC,am];refine⟨by omega,?_⟩;exact hK1 (n9-(k+1)) _ _ (by omega) (by kernel_rfl) ⟨k+1,_,_,rfl,(m.sel [false,false,false,false,true,true]),by rw[akd ht];exact hD8,by omega,rfl⟩
   ·
    obtain rfl:k=n9:=by omega
    rw[show (ts.filter fun t=>t.has p).take k=ts.filter fun t=>t.has p from bi (by omega)] at hD8;apply aK 7 [] m;simp only[↓aC];exact aT rfl rfl ⟨_,rfl,m.ext,_,_,_,rfl,m.sel [true,false],hD8⟩
end Go.Proofs.YtfekpcimgncioaaGreatDoor
namespace Go.Proofs.YtfekpcimgncioaaGreatDoor
open Go.Proofs.Tryz
open Go.RowKit Go.Lith
set_option maxRecDepth 100000
attribute [local irreducible] au cu fA Code.wp
end Go.Proofs.YtfekpcimgncioaaGreatDoor
namespace Go.Proofs.YtfekpcimgncioaaGreatDoor
open Go.Proofs.Tryz
open Go.RowKit Go.Lith
set_option maxRecDepth 100000
attribute [local irreducible] au cu fA bF cG Code.wp
attribute [local congr] nO fK fM fN fO fP iY fQ fR fS fT fU fV fW fX fY fZ gA dX dY gB gC gE gF gG jA cQ cR cE cP gD iZ dZ eA eB gH gI jD
end Go.Proofs.YtfekpcimgncioaaGreatDoor
namespace Go.Proofs.YtfekpcimgncioaaGreatDoor
open Go.Proofs.Tryz
open Go.RowKit Go.Lith
set_option maxRecDepth 100000
attribute [local irreducible] au cu fA Code.wp
end Go.Proofs.YtfekpcimgncioaaGreatDoor
namespace Go.Proofs.YtfekpcimgncioaaGreatDoor
open Go.Proofs.Tryz
open Go.RowKit Go.Lith
set_option maxRecDepth 100000
attribute [local irreducible] au cu fA bF cG Code.wp
attribute [local congr] nO fK fM fN fO fP iY fQ fR fS fT fU fV fW fX fY fZ gA dX dY gB gC gE gF gG jA cQ cR cE cP gD iZ dZ eA eB gH gI jD
variable{A:Option Addr}{xs ys:List Nat}{na nb ca cb:Nat}
theorem Tx{l:List UInt8}(hl:l.length≤1000000000000000):fF prog 315 [.string (pC l),.int .u8 0] (.string (pC (uX l))):=by
 intro w;refine⟨bP func315 (by kernel_rfl),?_⟩;have m:=Mem.refl w
 go_enter func315,ntmps315
 apply fG 6 [0] m;simp only[↓aC];refine bX [0] [5,6,7,8,9,10,11,12,13,14,15] (fun n vs wl=>∃(k:List UInt8),vs=[.string (pC k)]∧Mem w wl []∧(uX k=uX l)∧(k.length≤1000000000000000)∧(n=k.length)) ?_ ?_
 ·
  exact⟨_,l,rfl,m,rfl,hl,rfl⟩
 ·
  intro n vs wr hI u K1 hK1;obtain⟨k,rfl,m,hk,hl,hn⟩:=hI;have hsz:=Gz k;simp only[zu,zF,zG];apply aK 2 [] m;simp only[↓aC];by_cases hk0:0<k.length
  ·
   obtain⟨b,hb⟩:∃b,k[0]? = some b:=⟨k[0],ak hk0⟩
   apply aW 2 [0] m;simp only[↓aC];refine aB (xQ rfl sB rfl) ?_;apply aL 3 [1,0] m;simp only[↓aC];refine⟨by omega,?_⟩;refine cN rfl (aB ((uS sB rfl rfl (by omega) (by rw[af1];exact hb))) ?_);apply aL 4 [0,0] m;simp only[↓aC];refine bA rfl ?_ ?_<;>intro hc1
   ·
    apply aK 4 [0] m;simp only[↓aC];refine aB (ahJ sB rfl rfl (by omega) (by omega)) ?_;apply aL 2 [] m;simp only[↓aC];rw[show (1:Int).toNat=1 from rfl,acV];apply aW 1 [0] m;simp only[↓aC];exact hK1 ((k.drop 1).length) _ _ (by rw[fm];omega) (by kernel_rfl) ⟨k.drop 1,rfl,m,by rw[acW hb (by omega)];exact hk,by rw[fm];omega,rfl⟩
   ·
    apply aK 7 [] m;simp only[↓aC];refine aT rfl rfl ?_;try simp only[zD,zE]
    exact⟨_,rfl,m.ext,by rw[←hk,acX hb (by omega)]⟩
  ·
   obtain rfl:k=[]:=et (by omega);apply aW 2 [0] m;simp only[↓aC];refine aB (xQ rfl sB rfl) ?_;apply aL 16 [2] m;simp only[↓aC];refine⟨by omega,?_⟩;refine aT rfl rfl ?_;try simp only[zD,zE]
   exact⟨_,rfl,m.ext,by rw[←hk,af2]⟩
theorem aec{l:List UInt8}(hl:l.length≤1000000000000000):fF prog 258 [.string (pC l),.string ⟨#[0]⟩] (.string (pC (uX l))):=by
 intro w;refine⟨bP func258 (by kernel_rfl),?_⟩;have m:=Mem.refl w;have hsz:=Gz l
 go_enter func258,ntmps258
 apply fG 6 [] m;simp only[↓aC];by_cases hk0:l=[]
 ·
  subst hk0;apply aW 2 [0] m;simp only[↓aC];refine aB (aoT (acT sB rfl rfl) (show _=bm true by simp[pC])) ?_;apply aL 12 [] m;simp only[↓aC];exact aT rfl rfl ⟨_,rfl,m.ext,rfl⟩
 ·
  apply aW 2 [0] m;simp only[↓aC];refine aB (aoT (acT sB rfl rfl) (show _=bm false by simp only[abi,hk0,decide_false])) ?_;apply aL 2 [0] m;simp only[↓aC];refine cN rfl (aB (aoT (acT sB rfl rfl) (show _=bm false by simp)) ?_);apply aL 8 [0] m;simp only[↓aC];refine aB (xQ rfl sB rfl) (aB (uT rfl rfl rfl) ?_);apply aL 2 [0] m;simp only[↓aC];refine cN rfl (aB ((uS (b:=0) sB rfl rfl (by omega) rfl)) (cN rfl (aB (qW rfl rfl (by decide)) ?_)));apply aL 7 [0] m;simp only[↓aC];refine aB ((uS (b:=0) sB rfl rfl (by omega) rfl)) ?_;simp only[zz];refine wA m rfl rfl (Tx hl) 3 [] ?_;simp only[↓aC];intro u m;exact aT rfl rfl ⟨_,rfl,m.ext,rfl⟩
theorem Nc{cap:Nat}(w:aj)(hS:lH w A na cap xs):dK prog 256 [.slice A na cap] w (fun v _=>v=.slice A (trim xs).length cap):=by
 refine⟨bP func256 (by kernel_rfl),?_⟩;have m:=Mem.refl w;obtain rfl:=hS.eq;have hl:=hS.len;have hle:=hS.le
 go_enter func256,ntmps256
 apply fG 6 [0] m;simp only[↓aC];refine bX [0] [3,4,5,6,7,8,9,10,11,12,13,14,15,16,17,18,19] (fun n vs wl=>∃(k:Nat),vs=[.slice A k cap]∧Mem w wl []∧(k≤xs.length)∧(trim (xs.take k)=trim xs)∧(n=k)) ?_ ?_
 ·
  exact⟨_,xs.length,rfl,m,ao _,by rw[gt],rfl⟩
 ·
  intro n vs wr hI u K1 hK1;obtain⟨k,rfl,m,hk,ht,hn⟩:=hI;simp only[zu,zF,zG];apply aK 2 [] m;simp only[↓aC];by_cases hk0:0<k
  ·
   obtain⟨a,rfl,hcell,hlt⟩:=hS.get (show k-1<xs.length by omega);apply aW 9 [1,0] m;simp only[↓aC,kC];refine⟨by omega,?_⟩;refine cN rfl (aB (aF fH cI rfl rfl (by omega) (by omega) (tE (show _=k-1 by omega))) (cN rfl ?_));simp only[zz];refine aR rfl (lies1 (m.ext.cell hcell) lY) ?_;simp only[zz];apply aL 3 [0,0] m;simp only[↓aC];refine bA rfl ?_ ?_<;>intro hc1
   ·
    apply aK 7 [0] m;simp only[↓aC,kC];refine⟨by omega,?_⟩;refine aB (kL fH cI rfl rfl (show _=k-1 by omega) (by omega) (by omega)) ?_;apply aL 3 [0] m;simp only[↓aC];exact hK1 (k-1) _ _ (by omega) (by kernel_rfl) ⟨k-1,rfl,m,by omega,afW hk0 (by omega) hc1 ht,rfl⟩
   ·
    apply aK 7 [] m;simp only[↓aC];refine aT rfl rfl ?_;try simp only[zD,zE]
    exact⟨_,rfl,m.ext,by rw[←ahL hk0 (by omega) hc1 ht]⟩
  ·
   obtain rfl:k=0:=by omega
   apply aW 22 [2] m;simp only[↓aC,kC];refine⟨by omega,?_⟩;refine aT rfl rfl ?_;try simp only[zD,zE]
   exact⟨_,rfl,m.ext,by rw[←ahM ht]⟩
theorem asz{B:Option Addr}(w:aj)(hS:lH w A na ca xs)(hR:lH w B nb cb ys)(tx:kQ xs)(ty:kQ ys):dK prog 187 [.slice A na ca,.slice B nb cb] w (fun v _=>v=.int .i64 (ord (val 4294967296 xs) (val 4294967296 ys))):=by
 refine⟨bP func187 (by kernel_rfl),?_⟩;have m:=Mem.refl w;obtain rfl:=hS.eq;obtain rfl:=hR.eq;have hl:=hS.len;have hl2:=hR.len
 go_enter func187,ntmps187
 apply fG 15 [0,0] m;simp only[↓aC,kC];refine bA rfl ?_ ?_<;>intro hc1
 ·
  apply aK 5 [] m;simp only[↓aC];refine aT rfl rfl ?_;try simp only[zD,zE]
  exact⟨_,rfl,m.ext,by rw[ord,if_pos (xT (by omega) hS.digs hR.digs ty (by omega))]⟩
 ·
  apply aK 9 [0,0] m;simp only[↓aC,kC];refine bA rfl ?_ ?_<;>intro hc2
  ·
   apply aK 5 [] m;simp only[↓aC];refine aT rfl rfl ?_;try simp only[zD,zE]
   exact⟨_,rfl,m.ext,by have:=xT (B:=4294967296) (by omega) hR.digs hS.digs tx (by omega);rw[ord,if_neg (by omega),if_pos this]⟩
  ·
   apply aK 11 [0] m;simp only[↓aC,kC];refine⟨by omega,?_⟩;refine bX [5] [4,21,22,23,24,25,26,27,28,29,30,31,32,33,34,35,36,37,38,39,40,41,42,43,44] (fun n vs wl=>∃(k:Nat),vs=[.int .i64 ((k:Int)-1)]∧Mem w wl []∧(k≤xs.length)∧(xs.drop k=ys.drop k)∧(n=k)) ?_ ?_
   ·
    exact⟨_,xs.length,rfl,m,ao _,by rw[List.drop_length,show xs.length=ys.length by omega,List.drop_length],rfl⟩
   ·
    intro n vs wr hI u K1 hK1;obtain⟨k,rfl,m,hk,hd,hn⟩:=hI;simp only[zu,zF,zG];apply aK 6 [0,0] m;simp only[↓aC];refine bA rfl ?_ ?_<;>intro hc3
    ·
     apply aK 5 [] m;simp only[↓aC];obtain⟨a,rfl,hca,_⟩:=hS.get (show k-1<xs.length by omega);obtain⟨b,rfl,hcb,_⟩:=hR.get (show k-1<ys.length by omega);refine gc (mq m aD (by kernel_rfl) (aI aG (aI aG ?_)));simp only[zz];refine aI (aF fH cI rfl rfl (by omega) (by omega) (tE (show _=k-1 by omega))) ?_;simp only[zz];refine ql rfl (fun u m=>(lies1 (m.ext.cell hca) lY)) ?_;simp only[zz];refine aI aG (aI aG ?_);simp only[zz];refine aI (aF fH cI rfl rfl (by omega) (by omega) (tE (show _=k-1 by omega))) ?_;simp only[zz];refine ql rfl (fun u m=>(lies1 (m.ext.cell hcb) lY)) ?_;simp only[zz];refine aI (Ge rfl rfl) (aI aP (bE ?_));intro u m;refine gc ?_;simp only[zz];refine bA rfl ?_ ?_<;>intro hc4
     ·
      apply aK 5 [] m;simp only[↓aC];refine aT rfl rfl ?_;try simp only[zD,zE]
      exact⟨_,rfl,m.ext,by rw[ord,if_pos (ahN hS.digs (by omega) (by omega) (by omega) hd hc4)]⟩
     ·
      apply aK 1 [] m;simp only[↓aC];have hca:=hS.at (show k-1<xs.length by omega);have hcb:=hR.at (show k-1<ys.length by omega);refine gc (mq m aD (by kernel_rfl) (aI aG (aI aG ?_)));simp only[zz];refine aI (aF fH cI rfl rfl (by omega) (by omega) (tE (show _=k-1 by omega))) ?_;simp only[zz];refine ql rfl (fun u m=>(lies1 (m.ext.cell hca) lY)) ?_;simp only[zz];refine aI aG (aI aG ?_);simp only[zz];refine aI (aF fH cI rfl rfl (by omega) (by omega) (tE (show _=k-1 by omega))) ?_;simp only[zz];refine ql rfl (fun u m=>(lies1 (m.ext.cell hcb) lY)) ?_;simp only[zz];refine aI (aa7 rfl rfl) (aI aP (bE ?_));intro u m;refine gc ?_;simp only[zz];refine bA rfl ?_ ?_<;>intro hc5
      ·
       apply aK 5 [] m;simp only[↓aC];refine aT rfl rfl ?_;try simp only[zD,zE]
       exact⟨_,rfl,m.ext,by have:=ahN hR.digs (by omega) (by omega) (by omega) hd.symm hc5;rw[ord,if_neg (by omega),if_pos this]⟩
      ·
       apply aK 8 [0] m;simp only[↓aC];refine⟨by omega,?_⟩;rw[show ((k:Int)-1-1)=((k-1:Nat):Int)-1 by omega];exact hK1 (k-1) _ _ (by omega) (by kernel_rfl) ⟨k-1,rfl,m,by omega,afX (by omega) (by omega) (by omega) hd hc4 hc5,rfl⟩
    ·
     apply aK 6 [] m;simp only[↓aC];refine aT rfl rfl ?_;try simp only[zD,zE]
     exact⟨_,rfl,m.ext,by have h0:k=0:=(by omega);subst h0;simp only[pa] at hd;rw[hd,ord,if_neg (by omega),if_neg (by omega)]⟩
theorem asA{B:Option Addr}(w:aj)(hS:lH w A na ca xs)(hR:lH w B nb cb ys)(hlx:xs.length≤1099511627776)(hly:ys.length≤1099511627776):dK prog 186 [.slice A na ca,.slice B nb cb] w (qX (val 4294967296 xs+val 4294967296 ys)):=by
 refine⟨bP func186 (by kernel_rfl),?_⟩;have m:=Mem.refl w;obtain rfl:=hS.eq;obtain rfl:=hR.eq
 go_enter func186,ntmps186
 apply fG 13 [0,0] m;simp only[↓aC,kC];refine bA rfl ?_ ?_<;>intro hc1
 ·
  obtain⟨qb,rfl⟩:∃q,q=xs:=⟨_,rfl⟩
  obtain⟨qa,rfl⟩:∃q,q=ys:=⟨_,rfl⟩
  obtain⟨Qb,rfl⟩:∃q,q=A:=⟨_,rfl⟩
  obtain⟨Qa,rfl⟩:∃q,q=B:=⟨_,rfl⟩
  have hSa:=hR;have hSb:=hS;apply aK 11 [0] m;simp only[↓aC,kC];refine⟨by omega,?_⟩;refine tQ fH Ja rfl rfl rfl (show _=qa.length+1 by omega) (show _=qa.length+1 by omega) (by omega) (by omega) (by omega) (by omega) ?_;intro u g1 e_ h_ k_;replace m:=m.newB e_ h_ k_;apply aL 2 [] m;simp only[↓aC];rw[oA] at m;apply aW 12 [0] m;simp only[↓aC,kC];refine bX [6,22] [7,8,23,24,25,26,27,28,29,30,31,32,33,34,35,36,37,38,39,40,41,42,43,44,45,46,47,48] (fun n vs wl=>∃(i c:Nat) (os:List Nat),vs=[.int .u64 (c:Int),.int .i64 (i:Int)]∧Mem w wl [bI g1 (os.map Lj) 231]∧(i≤qa.length)∧(os.length=qa.length+1)∧(val 4294967296 os+4294967296^i*c=val 4294967296 (qa.take i)+val 4294967296 (qb.take i))∧(os.drop i=db (qa.length+1-i) 0)∧(iS 4294967296 os)∧(c≤1)∧(n=qa.length-i)) ?_ ?_
  ·
   exact⟨_,0,0,db (qa.length+1) 0,rfl,m,by omega,by simp,by simp[oB,val],by simp,fun x hx=>by rw[jf hx];decide,by omega,rfl⟩
  ·
   intro n vs wr hI u K1 hK1;obtain⟨i,c,os,rfl,m,hi,hlo,hv,hz,hd,hc,hn⟩:=hI;simp only[zu,zF,zG];apply aK 5 [0,0] m;simp only[↓aC];refine bA rfl ?_ ?_<;>intro hc2
   ·
    apply aK 9 [] m;simp only[↓aC];obtain⟨a,rfl,hca,hla⟩:=hSa.get (show i<qa.length by omega);apply aW 3 [0] m;simp only[↓aC];refine aB (aF fH cI rfl rfl (by omega) (by omega) (tE (ag _))) ?_;simp only[zz];refine aR rfl (lies1 (m.ext.cell hca) lY) ?_;simp only[zz];apply aL 12 [0,0] m;simp only[↓aC,kC];refine⟨by omega,?_⟩;refine bA rfl ?_ ?_<;>intro hc3
    ·
     obtain⟨b,rfl,hcb,hlb⟩:=hSb.get (show i<qb.length by omega);apply aK 4 [0] m;simp only[↓aC];refine aB (aF fH cI rfl rfl (by omega) (by omega) (tE (ag _))) ?_;simp only[zz];refine aR rfl (lies1 (m.ext.cell hcb) lY) ?_;simp only[zz];apply aL 3 [] m;simp only[↓aC];refine⟨by omega,?_⟩;obtain⟨s,hs⟩:∃s:Nat,(s:Int)=↑qa[i]+↑c+↑qb[i]:=⟨qa[i]+c+qb[i],by omega⟩
     rw[←hs];have hs2:s=qa[i]+c+qb[i]?.getD 0:=by rw[ak (by omega)];simp;omega
     have hyb:qb[i]?.getD 0<4294967296:=by rw[ak (by omega)];exact hlb
     apply aW 4 [0] m;simp only[↓aC];refine aB (lQ rfl rfl (rX (by omega) (by omega))) ?_;apply aL 1 [0] m;simp only[↓aC];refine aB (lG rfl rfl (by omega) (Vy (by omega))) ?_;simp only[zz];refine aB (aF fH cI rfl rfl (by omega) (by omega) (fI (ag _))) ?_;simp only[zz];refine cX m 0 rfl rfl rfl cI (by simp;omega) ⟨rfl,rfl⟩ ?_;intro u m;simp only[zz] at m ;rw[show ((s:Int)%4294967296)=((s%4294967296:Nat):Int) by omega,mV (by omega)] at m;apply aL 7 [0] m;simp only[↓aC];refine⟨by omega,?_⟩;obtain⟨r1,r2,r3,r4⟩:=Ew (by omega) hlo hv hz hd hc hs2 hla hyb;rw[show ((i:Int)+1)=((i+1:Nat):Int) by omega,show ((s:Int) / 4294967296)=((s / 4294967296:Nat):Int) by omega];exact hK1 (qa.length-(i+1)) _ _ (by omega) (by kernel_rfl) ⟨i+1,s / 4294967296,os.set i (s%4294967296),rfl,m,by omega,by simpa using hlo,r1,r2,r3,r4,rfl⟩
    ·
     obtain⟨s,hs⟩:∃s:Nat,(s:Int)=↑qa[i]+↑c:=⟨qa[i]+c,by omega⟩
     rw[←hs];have hs2:s=qa[i]+c+qb[i]?.getD 0:=by rw[fq (by omega)];simp;omega
     have hyb:qb[i]?.getD 0<4294967296:=by rw[fq (by omega)];decide
     apply aK 5 [0] m;simp only[↓aC];refine aB (lQ rfl rfl (rX (by omega) (by omega))) ?_;apply aL 1 [0] m;simp only[↓aC];refine aB (lG rfl rfl (by omega) (Vy (by omega))) ?_;simp only[zz];refine aB (aF fH cI rfl rfl (by omega) (by omega) (fI (ag _))) ?_;simp only[zz];refine cX m 0 rfl rfl rfl cI (by simp;omega) ⟨rfl,rfl⟩ ?_;intro u m;simp only[zz] at m ;rw[show ((s:Int)%4294967296)=((s%4294967296:Nat):Int) by omega,mV (by omega)] at m;apply aL 7 [0] m;simp only[↓aC];refine⟨by omega,?_⟩;obtain⟨r1,r2,r3,r4⟩:=Ew (by omega) hlo hv hz hd hc hs2 hla hyb;rw[show ((i:Int)+1)=((i+1:Nat):Int) by omega,show ((s:Int) / 4294967296)=((s / 4294967296:Nat):Int) by omega];exact hK1 (qa.length-(i+1)) _ _ (by omega) (by kernel_rfl) ⟨i+1,s / 4294967296,os.set i (s%4294967296),rfl,m,by omega,by simpa using hlo,r1,r2,r3,r4,rfl⟩
   ·
    apply aK 2 [] m;simp only[↓aC];obtain rfl:i=qa.length:=by omega
    apply aW 5 [0] m;simp only[↓aC,kC];refine aB (aF fH cI rfl rfl (by omega) (by omega) (fI (ag _))) ?_;simp only[zz];refine cX m 0 rfl rfl rfl cI (by simp;omega) ⟨rfl,rfl⟩ ?_;intro u m;simp only[zz] at m ;rw[mV (by omega)] at m;apply aL 4 [0] m;simp only[↓aC];refine cM m rfl rfl (Nc _ ((m.b 0 rfl).nat (hd.set (show c<4294967296 by omega)) (by simp;omega) (by omega))) ?_;rintro v u m rfl;apply aL 3 [] m;simp only[↓aC];refine aT rfl rfl ?_;try simp only[zD,zE]
    exact⟨_,rfl,m.ext,by first | exact qX.of_trim ((m.b 0 rfl).nat (hd.set (show c<4294967296 by omega)) (by simp;omega) (by omega)) (Pn (by omega) hlo hv hz) | (rw[Nat.add_comm];exact qX.of_trim ((m.b 0 rfl).nat (hd.set (show c<4294967296 by omega)) (by simp;omega) (by omega)) (Pn (by omega) hlo hv hz))⟩
 ·
  obtain⟨qa,rfl⟩:∃q,q=xs:=⟨_,rfl⟩
  obtain⟨qb,rfl⟩:∃q,q=ys:=⟨_,rfl⟩
  obtain⟨Qa,rfl⟩:∃q,q=A:=⟨_,rfl⟩
  obtain⟨Qb,rfl⟩:∃q,q=B:=⟨_,rfl⟩
  have hSa:=hS;have hSb:=hR;apply aK 6 [0] m;simp only[↓aC,kC];refine⟨by omega,?_⟩;refine tQ fH Ja rfl rfl rfl (show _=qa.length+1 by omega) (show _=qa.length+1 by omega) (by omega) (by omega) (by omega) (by omega) ?_;intro u g1 e_ h_ k_;replace m:=m.newB e_ h_ k_;apply aL 2 [] m;simp only[↓aC];rw[oA] at m;apply aW 12 [0] m;simp only[↓aC,kC];refine bX [6,22] [7,8,23,24,25,26,27,28,29,30,31,32,33,34,35,36,37,38,39,40,41,42,43,44,45,46,47,48] (fun n vs wl=>∃(i c:Nat) (os:List Nat),vs=[.int .u64 (c:Int),.int .i64 (i:Int)]∧Mem w wl [bI g1 (os.map Lj) 231]∧(i≤qa.length)∧(os.length=qa.length+1)∧(val 4294967296 os+4294967296^i*c=val 4294967296 (qa.take i)+val 4294967296 (qb.take i))∧(os.drop i=db (qa.length+1-i) 0)∧(iS 4294967296 os)∧(c≤1)∧(n=qa.length-i)) ?_ ?_
  ·
   exact⟨_,0,0,db (qa.length+1) 0,rfl,m,by omega,by simp,by simp[oB,val],by simp,fun x hx=>by rw[jf hx];decide,by omega,rfl⟩
  ·
   intro n vs wr hI u K2 hK2;obtain⟨i,c,os,rfl,m,hi,hlo,hv,hz,hd,hc,hn⟩:=hI;simp only[zu,zF,zG];apply aK 5 [0,0] m;simp only[↓aC];refine bA rfl ?_ ?_<;>intro hc2
   ·
    apply aK 9 [] m;simp only[↓aC];obtain⟨a,rfl,hca,hla⟩:=hSa.get (show i<qa.length by omega);apply aW 3 [0] m;simp only[↓aC];refine aB (aF fH cI rfl rfl (by omega) (by omega) (tE (ag _))) ?_;simp only[zz];refine aR rfl (lies1 (m.ext.cell hca) lY) ?_;simp only[zz];apply aL 12 [0,0] m;simp only[↓aC,kC];refine⟨by omega,?_⟩;refine bA rfl ?_ ?_<;>intro hc3
    ·
     obtain⟨b,rfl,hcb,hlb⟩:=hSb.get (show i<qb.length by omega);apply aK 4 [0] m;simp only[↓aC];refine aB (aF fH cI rfl rfl (by omega) (by omega) (tE (ag _))) ?_;simp only[zz];refine aR rfl (lies1 (m.ext.cell hcb) lY) ?_;simp only[zz];apply aL 3 [] m;simp only[↓aC];refine⟨by omega,?_⟩;obtain⟨s,hs⟩:∃s:Nat,(s:Int)=↑qa[i]+↑c+↑qb[i]:=⟨qa[i]+c+qb[i],by omega⟩
     rw[←hs];have hs2:s=qa[i]+c+qb[i]?.getD 0:=by rw[ak (by omega)];simp;omega
     have hyb:qb[i]?.getD 0<4294967296:=by rw[ak (by omega)];exact hlb
     apply aW 4 [0] m;simp only[↓aC];refine aB (lQ rfl rfl (rX (by omega) (by omega))) ?_;apply aL 1 [0] m;simp only[↓aC];refine aB (lG rfl rfl (by omega) (Vy (by omega))) ?_;simp only[zz];refine aB (aF fH cI rfl rfl (by omega) (by omega) (fI (ag _))) ?_;simp only[zz];refine cX m 0 rfl rfl rfl cI (by simp;omega) ⟨rfl,rfl⟩ ?_;intro u m;simp only[zz] at m ;rw[show ((s:Int)%4294967296)=((s%4294967296:Nat):Int) by omega,mV (by omega)] at m;apply aL 7 [0] m;simp only[↓aC];refine⟨by omega,?_⟩;obtain⟨r1,r2,r3,r4⟩:=Ew (by omega) hlo hv hz hd hc hs2 hla hyb;rw[show ((i:Int)+1)=((i+1:Nat):Int) by omega,show ((s:Int) / 4294967296)=((s / 4294967296:Nat):Int) by omega];exact hK2 (qa.length-(i+1)) _ _ (by omega) (by kernel_rfl) ⟨i+1,s / 4294967296,os.set i (s%4294967296),rfl,m,by omega,by simpa using hlo,r1,r2,r3,r4,rfl⟩
    ·
     obtain⟨s,hs⟩:∃s:Nat,(s:Int)=↑qa[i]+↑c:=⟨qa[i]+c,by omega⟩
     rw[←hs];have hs2:s=qa[i]+c+qb[i]?.getD 0:=by rw[fq (by omega)];simp;omega
     have hyb:qb[i]?.getD 0<4294967296:=by rw[fq (by omega)];decide
     apply aK 5 [0] m;simp only[↓aC];refine aB (lQ rfl rfl (rX (by omega) (by omega))) ?_;apply aL 1 [0] m;simp only[↓aC];refine aB (lG rfl rfl (by omega) (Vy (by omega))) ?_;simp only[zz];refine aB (aF fH cI rfl rfl (by omega) (by omega) (fI (ag _))) ?_;simp only[zz];refine cX m 0 rfl rfl rfl cI (by simp;omega) ⟨rfl,rfl⟩ ?_;intro u m;simp only[zz] at m ;rw[show ((s:Int)%4294967296)=((s%4294967296:Nat):Int) by omega,mV (by omega)] at m;apply aL 7 [0] m;simp only[↓aC];refine⟨by omega,?_⟩;obtain⟨r1,r2,r3,r4⟩:=Ew (by omega) hlo hv hz hd hc hs2 hla hyb;rw[show ((i:Int)+1)=((i+1:Nat):Int) by omega,show ((s:Int) / 4294967296)=((s / 4294967296:Nat):Int) by omega];exact hK2 (qa.length-(i+1)) _ _ (by omega) (by kernel_rfl) ⟨i+1,s / 4294967296,os.set i (s%4294967296),rfl,m,by omega,by simpa using hlo,r1,r2,r3,r4,rfl⟩
   ·
    apply aK 2 [] m;simp only[↓aC];obtain rfl:i=qa.length:=by omega
    apply aW 5 [0] m;simp only[↓aC,kC];refine aB (aF fH cI rfl rfl (by omega) (by omega) (fI (ag _))) ?_;simp only[zz];refine cX m 0 rfl rfl rfl cI (by simp;omega) ⟨rfl,rfl⟩ ?_;intro u m;simp only[zz] at m ;rw[mV (by omega)] at m;apply aL 4 [0] m;simp only[↓aC];refine cM m rfl rfl (Nc _ ((m.b 0 rfl).nat (hd.set (show c<4294967296 by omega)) (by simp;omega) (by omega))) ?_;rintro v u m rfl;apply aL 3 [] m;simp only[↓aC];refine aT rfl rfl ?_;try simp only[zD,zE]
    exact⟨_,rfl,m.ext,by first | exact qX.of_trim ((m.b 0 rfl).nat (hd.set (show c<4294967296 by omega)) (by simp;omega) (by omega)) (Pn (by omega) hlo hv hz) | (rw[Nat.add_comm];exact qX.of_trim ((m.b 0 rfl).nat (hd.set (show c<4294967296 by omega)) (by simp;omega) (by omega)) (Pn (by omega) hlo hv hz))⟩
theorem aoy{B:Option Addr}(w:aj)(hS:lH w A na ca xs)(hR:lH w B nb cb ys)(hle:ys.length≤xs.length)(hge:val 4294967296 ys≤val 4294967296 xs)(hlx:xs.length≤1099511627776):dK prog 188 [.slice A na ca,.slice B nb cb] w (fun v w'=>qX (val 4294967296 xs-val 4294967296 ys) v w'∧Io w v):=by
 refine⟨bP func188 (by kernel_rfl),?_⟩;have m:=Mem.refl w;obtain rfl:=hS.eq;obtain rfl:=hR.eq
 go_enter func188,ntmps188
 apply fG 8 [0] m;simp only[↓aC,kC];refine tQ fH Ja rfl rfl rfl (ag _) (ag _) (by omega) (by omega) (by omega) (by omega) ?_;intro u g1 e_ h_ k_;replace m:=m.newB e_ h_ k_;apply aL 2 [] m;simp only[↓aC];rw[oA] at m;apply aW 12 [0] m;simp only[↓aC,kC];refine bX [6,14] [7,8,15,16,17,18,19,20,21,22,23,24,25,26,27,28,29,30,31,32,33,34,35,36,37,38,39,40] (fun n vs wl=>∃(i c:Nat) (os:List Nat),vs=[.int .u64 (c:Int),.int .i64 (i:Int)]∧Mem w wl [bI g1 (os.map Lj) 231]∧(i≤xs.length)∧(os.length=xs.length)∧(val 4294967296 os+val 4294967296 (ys.take i)=val 4294967296 (xs.take i)+4294967296^i*c)∧(os.drop i=db (xs.length-i) 0)∧(iS 4294967296 os)∧(c≤1)∧(n=xs.length-i)) ?_ ?_
 ·
  exact⟨_,0,0,db xs.length 0,rfl,m,by omega,by simp,by simp[oB,val],by simp,fun x hx=>by rw[jf hx];decide,by omega,rfl⟩
 ·
  intro n vs wr hI u K1 hK1;obtain⟨i,c,os,rfl,m,hi,hlo,hv,hz,hd,hc,hn⟩:=hI;simp only[zu,zF,zG];apply aK 5 [0,0] m;simp only[↓aC];refine bA rfl ?_ ?_<;>intro hc1
  ·
   apply aK 9 [] m;simp only[↓aC];obtain⟨a,rfl,hca,hla⟩:=hS.get (show i<xs.length by omega);apply aW 3 [0] m;simp only[↓aC];refine aB (aF fH cI rfl rfl (by omega) (by omega) (tE (ag _))) ?_;simp only[zz];refine aR rfl (lies1 (m.ext.cell hca) lY) ?_;simp only[zz];apply aL 1 [0] m;simp only[↓aC];refine aB (Gd rfl rfl (mG _)) ?_;apply aL 10 [0,0] m;simp only[↓aC,kC];refine bA rfl ?_ ?_<;>intro hc2
   ·
    obtain⟨b,rfl,hcb,hlb⟩:=hR.get (show i<ys.length by omega);apply aK 4 [0] m;simp only[↓aC];refine aB (aF fH cI rfl rfl (by omega) (by omega) (tE (ag _))) ?_;simp only[zz];refine aR rfl (lies1 (m.ext.cell hcb) lY) ?_;simp only[zz];refine aB (Gd rfl rfl (mG _)) ?_;apply aL 2 [] m;simp only[↓aC];obtain⟨s,hs⟩:∃s:Nat,(s:Int)=((↑xs[i]-↑c)%18446744073709551616-↑ys[i])%18446744073709551616:=⟨(((↑xs[i]-↑c)%18446744073709551616-↑ys[i])%18446744073709551616:Int).toNat,by omega⟩
    rw[←hs];have hs2:(s:Int)=((xs[i]:Nat)-(c:Nat)-(ys[i]?.getD 0:Nat):Int)%18446744073709551616:=by rw[ak (by omega)];simp only[Option.getD_some];omega
    have hyb:ys[i]?.getD 0<4294967296:=by rw[ak (by omega)];exact hlb
    have hs64:s<18446744073709551616:=by omega
    apply aW 4 [0] m;simp only[↓aC];refine aB (lQ rfl rfl (rX (by omega) (by omega))) ?_;apply aL 1 [0] m;simp only[↓aC];refine aB (lG rfl rfl (by omega) (an0 (by omega))) ?_;simp only[zz];refine aB (aF fH cI rfl rfl (by omega) (by omega) (fI (ag _))) ?_;simp only[zz];refine cX m 0 rfl rfl rfl cI (by simp;omega) ⟨rfl,rfl⟩ ?_;intro u m;simp only[zz] at m ;rw[show ((s:Int)%4294967296)=((s%4294967296:Nat):Int) by omega,mV (by omega)] at m;apply aL 7 [0] m;simp only[↓aC];refine⟨by omega,?_⟩;obtain⟨r1,r2,r3,r4⟩:=Vz (by omega) hlo hv hz hd hc hs2 hla hyb;rw[show ((i:Int)+1)=((i+1:Nat):Int) by omega,show ((s:Int) / 9223372036854775808)=((s / 9223372036854775808:Nat):Int) by omega];exact hK1 (xs.length-(i+1)) _ _ (by omega) (by kernel_rfl) ⟨i+1,s / 9223372036854775808,os.set i (s%4294967296),rfl,m,by omega,by simpa using hlo,r1,r2,r3,r4,rfl⟩
   ·
    obtain⟨s,hs⟩:∃s:Nat,(s:Int)=(↑xs[i]-↑c)%18446744073709551616:=⟨((↑xs[i]-↑c)%18446744073709551616:Int).toNat,by omega⟩
    rw[←hs];have hs2:(s:Int)=((xs[i]:Nat)-(c:Nat)-(ys[i]?.getD 0:Nat):Int)%18446744073709551616:=by rw[fq (by omega)];simp only[Option.getD_none];omega
    have hyb:ys[i]?.getD 0<4294967296:=by rw[fq (by omega)];decide
    apply aK 1 [] m;simp only[↓aC];have hs64:s<18446744073709551616:=by omega
    apply aW 4 [0] m;simp only[↓aC];refine aB (lQ rfl rfl (rX (by omega) (by omega))) ?_;apply aL 1 [0] m;simp only[↓aC];refine aB (lG rfl rfl (by omega) (an0 (by omega))) ?_;simp only[zz];refine aB (aF fH cI rfl rfl (by omega) (by omega) (fI (ag _))) ?_;simp only[zz];refine cX m 0 rfl rfl rfl cI (by simp;omega) ⟨rfl,rfl⟩ ?_;intro u m;simp only[zz] at m ;rw[show ((s:Int)%4294967296)=((s%4294967296:Nat):Int) by omega,mV (by omega)] at m;apply aL 7 [0] m;simp only[↓aC];refine⟨by omega,?_⟩;obtain⟨r1,r2,r3,r4⟩:=Vz (by omega) hlo hv hz hd hc hs2 hla hyb;rw[show ((i:Int)+1)=((i+1:Nat):Int) by omega,show ((s:Int) / 9223372036854775808)=((s / 9223372036854775808:Nat):Int) by omega];exact hK1 (xs.length-(i+1)) _ _ (by omega) (by kernel_rfl) ⟨i+1,s / 9223372036854775808,os.set i (s%4294967296),rfl,m,by omega,by simpa using hlo,r1,r2,r3,r4,rfl⟩
  ·
   apply aK 2 [] m;simp only[↓aC];obtain rfl:i=xs.length:=by omega
   apply aW 2 [0] m;simp only[↓aC];refine cM m rfl rfl (Nc _ ((m.b 0 rfl).nat hd (by omega) (by omega))) ?_;rintro v u m rfl;apply aL 3 [] m;simp only[↓aC];exact aT rfl rfl ⟨_,rfl,m.ext,qX.of_trim ((m.b 0 rfl).nat hd (n:=xs.length) (by omega) (by omega)) (alx hle hlo hd hv hge),Io.of_blk (m.gb 0 rfl)⟩
theorem asB{B:Option Addr}(w:aj)(hS:lH w A na ca xs)(hR:lH w B nb cb ys)(hlx:xs.length≤1099511627776)(hly:ys.length≤1099511627776):dK prog 189 [.slice A na ca,.slice B nb cb] w (qX (val 4294967296 xs*val 4294967296 ys)):=by
 refine⟨bP func189 (by kernel_rfl),?_⟩;have m:=Mem.refl w;obtain rfl:=hS.eq;obtain rfl:=hR.eq
 go_enter func189,ntmps189
 apply fG 11 [0] m;simp only[↓aC,kC];refine⟨by omega,?_⟩;refine tQ fH Ja rfl rfl rfl (show _=xs.length+ys.length by omega) (show _=xs.length+ys.length by omega) (by omega) (by omega) (by omega) (by omega) ?_;intro u g1 e_ h_ k_;replace m:=m.newB e_ h_ k_;apply aL 2 [] m;simp only[↓aC];rw[oA] at m;apply aW 8 [0] m;simp only[↓aC,kC];refine bX [20] [6,7,8,9,10,11,21,22,23,24,25,26,27,28,29,30,31,32,33,34,35,36,37,38,39,40,41,42,43,44,45,46,47,48,49,50,51,52,53,54,55,56,57,58,59,60,61] (fun n vs wl=>∃(i:Nat) (os:List Nat),vs=[.int .i64 (i:Int)]∧Mem w wl [bI g1 (os.map Lj) 231]∧(i≤xs.length)∧(os.length=xs.length+ys.length)∧(val 4294967296 os=val 4294967296 (xs.take i)*val 4294967296 ys)∧(os.drop (i+ys.length)=db (xs.length-i) 0)∧(iS 4294967296 os)∧(n=xs.length-i)) ?_ ?_
 ·
  exact⟨_,0,db (xs.length+ys.length) 0,rfl,m,by omega,by simp,by rw[oB,lp];simp only[val,Nat.zero_mul],by rw[List.drop_replicate];congr 1;omega,fun x hx=>by rw[jf hx];decide,rfl⟩
 ·
  intro n vs wr hI u K1 hK1;obtain⟨i,os,rfl,m,hi,hlo,hv,hz,hd,hn⟩:=hI;simp only[zu,zF,zG];apply aK 5 [0,0] m;simp only[↓aC];refine bA rfl ?_ ?_<;>intro hc1
  ·
   apply aK 4 [] m;simp only[↓aC];obtain⟨a,rfl,hca,hla⟩:=hS.get (show i<xs.length by omega);apply aW 2 [0] m;simp only[↓aC];refine aB (aF fH cI rfl rfl (by omega) (by omega) (tE (ag _))) ?_;simp only[zz];refine aR rfl (lies1 (m.ext.cell hca) lY) ?_;simp only[zz];apply aL 15 [0] m;simp only[↓aC,kC];refine bX [8,27] [9,10,11,28,29,30,31,32,33,34,35,36,37,38,39,40,41,42,43,44,45,46,47,48,49,50,51,52,53] (fun n vs wl=>∃(k c:Nat) (os:List Nat),vs=[.int .u64 (c:Int),.int .i64 (k:Int)]∧Mem w wl [bI g1 (os.map Lj) 231]∧(k≤ys.length)∧(os.length=xs.length+ys.length)∧(val 4294967296 os+4294967296^(i+k)*c=val 4294967296 (xs.take i)*val 4294967296 ys+4294967296^i*(xs[i]*val 4294967296 (ys.take k)))∧(os.drop (i+ys.length)=db (xs.length-i) 0)∧(iS 4294967296 os)∧(c<4294967296)∧(n=ys.length-k)) ?_ ?_
   ·
    exact⟨_,0,0,os,rfl,m,by omega,hlo,by rw[lp,hv];simp only[val,Nat.mul_zero],hz,hd,by omega,rfl⟩
   ·
    intro n vs wr hI u K2 hK2;obtain⟨k,c,os,rfl,m,hk,hlo,hv2,hz,hd,hc,hn2⟩:=hI;simp only[zu,zF,zG];apply aK 5 [0,0] m;simp only[↓aC];refine bA rfl ?_ ?_<;>intro hc2
    ·
     apply aK 4 [] m;simp only[↓aC];obtain⟨b,rfl,hcb,hlb⟩:=hR.get (show k<ys.length by omega);apply aW 2 [0] m;simp only[↓aC];refine aB (aF fH cI rfl rfl (by omega) (by omega) (tE (ag _))) ?_;simp only[zz];refine aR rfl (lies1 (m.ext.cell hcb) lY) ?_;simp only[zz];apply aL 4 [] m;simp only[↓aC];have hco:=(m.b 0 rfl).word (show i+k<os.length by omega);have hlo2:=hd.get (ak (show i+k<os.length by omega));obtain⟨hm0,hm1⟩:=alz hla hlb;apply aW 5 [0] m;simp only[↓aC];refine⟨by omega,?_⟩;refine aB (aF fH cI rfl rfl (by omega) (by omega) (fI (show _=i+k by omega))) ?_;simp only[zz];refine aR rfl (lies1 ((m.b 0 rfl).word (show i+k<os.length by omega)) lY) ?_;simp only[zz];apply aL 8 [] m;simp only[↓aC];refine⟨by omega,?_⟩;obtain⟨s,hs⟩:∃s:Nat,s=os[i+k]+xs[i]*ys[k]+c:=⟨_,rfl⟩
     have hsI:(↑os[i+k]+↑xs[i]*↑ys[k]+↑c:Int)=(s:Int):=by rw[hs];simp
     rw[hsI];have hs64:s<18446744073709551616:=by omega
     apply aW 6 [0] m;simp only[↓aC];refine⟨by omega,?_⟩;refine aB (lQ rfl rfl (rX (by omega) (by omega))) ?_;apply aL 1 [0] m;simp only[↓aC];refine aB (lG rfl rfl (by omega) (Vy (by omega))) ?_;simp only[zz];refine aB (aF fH cI rfl rfl (by omega) (by omega) (fI (show _=i+k by omega))) ?_;simp only[zz];refine cX m 0 rfl rfl rfl cI (by simp;omega) ⟨rfl,rfl⟩ ?_;intro u m;simp only[zz] at m ;rw[show ((s:Int)%4294967296)=((s%4294967296:Nat):Int) by omega,mV (by omega)] at m;apply aL 7 [0] m;simp only[↓aC];refine⟨by omega,?_⟩;have r1:=afY (by omega) (by omega) hlo hv2 hs;rw[show ((k:Int)+1)=((k+1:Nat):Int) by omega,show ((s:Int) / 4294967296)=((s / 4294967296:Nat):Int) by omega];exact hK2 (ys.length-(k+1)) _ _ (by omega) (by kernel_rfl) ⟨k+1,s / 4294967296,os.set (i+k) (s%4294967296),rfl,m,by omega,by simpa using hlo,r1,by rw[abd (by omega)];exact hz,hd.set (by omega),by omega,rfl⟩
    ·
     apply aK 1 [] m;simp only[↓aC];obtain rfl:k=ys.length:=by omega
     apply aW 7 [0] m;simp only[↓aC,kC];refine⟨by omega,?_⟩;refine aB (aF fH cI rfl rfl (by omega) (by omega) (fI (show _=i+ys.length by omega))) ?_;simp only[zz];refine cX m 0 rfl rfl rfl cI (by simp;omega) ⟨rfl,rfl⟩ ?_;intro u m;simp only[zz] at m ;rw[mV (by omega)] at m;apply aL 6 [0] m;simp only[↓aC];refine⟨by omega,?_⟩;obtain⟨r1,r2⟩:=aly (by omega) hlo hv2 hz;rw[show ((i:Int)+1)=((i+1:Nat):Int) by omega];exact hK1 (xs.length-(i+1)) _ _ (by omega) (by kernel_rfl) ⟨i+1,os.set (i+ys.length) c,rfl,m,by omega,by simpa using hlo,r1,r2,hd.set (by omega),rfl⟩
  ·
   apply aK 2 [] m;simp only[↓aC];obtain rfl:i=xs.length:=by omega
   apply aW 2 [0] m;simp only[↓aC];refine cM m rfl rfl (Nc _ ((m.b 0 rfl).nat hd (by omega) (by omega))) ?_;rintro v u m rfl;apply aL 3 [] m;simp only[↓aC];exact aT rfl rfl ⟨_,rfl,m.ext,qX.of_trim ((m.b 0 rfl).nat hd (n:=xs.length+ys.length) (by omega) (by omega)) (by rw[hv,gt])⟩
end Go.Proofs.YtfekpcimgncioaaGreatDoor
namespace Go.Proofs.YtfekpcimgncioaaGreatDoor
open Go.Proofs.Tryz
open Go.RowKit Go.Lith
set_option maxRecDepth 100000
attribute [local irreducible] au cu fA Code.wp
end Go.Proofs.YtfekpcimgncioaaGreatDoor
namespace Go.Proofs.YtfekpcimgncioaaGreatDoor
open Go.Proofs.Tryz
open Go.RowKit Go.Lith
set_option maxRecDepth 100000
attribute [local irreducible] au cu fA bF cG Code.wp
attribute [local congr] nO fK fM fN fO fP iY fQ fR fS fT fU fV fW fX fY fZ gA dX dY gB gC gE gF gG jA cQ cR cE cP gD iZ dZ eA eB gH gI jD
theorem Ye{neg:Bool}{s:ByteArray}(w:aj)(hs:s.size≤1000000000000):dK prog 185 [.agg #[.bool neg,.string s]] w (qX (ao0 s)):=by
 refine⟨bP func185 (by kernel_rfl),?_⟩;have m:=Mem.refl w
 go_enter func185,ntmps185
 apply mR 9 [0,0] m;simp only[↓aC,Py,amt,aa];intro g1 u m;refine aB (xQ rfl sB rfl) ?_;apply aL 2 [0] m;simp only[↓aC];refine⟨by omega,?_⟩;rw[show ((s.size:Int)+4-1)=((s.size+3:Nat):Int) by omega];refine aB (mB rfl rfl (by omega) (aeF (n:=4) (by omega))) ?_;simp only[zz];obtain⟨K,hK⟩:∃K,K=(s.size+3) / 4:=⟨_,rfl⟩
 rw[←hK];refine tQ fH Ja rfl rfl rfl (show _=K by omega) (show _=K by omega) (by omega) (by omega) (by omega) (by omega) ?_;intro u g2 e_ h_ k_;replace m:=m.newB e_ h_ k_;apply aL 2 [] m;simp only[↓aC];rw[oA] at m;apply aW 5 [1,0] m;simp only[↓aC,Py,amt,aa];refine aB (xQ rfl sB rfl) ?_;apply aL 3 [0] m;simp only[↓aC];refine bX [16] [4,5,17,18,19,20,21,22,23,24,25,26,27,28,29,30,31,32,33,34,35,36,37,38,39,40,41] (fun n vs wl=>∃(i:Nat) (os:List Nat),vs=[.int .i64 (i:Int)]∧Mem w wl [bI g2 (os.map Lj) 231,bI g1 [.bool neg,.string s] 95]∧(i≤s.size)∧(os.length=K)∧(iS 4294967296 os)∧(∀(j:Nat) (h:j<os.length),256^(s.size-i-4*j)∣os[j])∧(val 4294967296 os=256^(s.size-i)*val 256 ((xE s).drop (s.size-i)))∧(n=s.size-i)) ?_ ?_
 ·
  exact⟨_,0,db K 0,rfl,m,by omega,by simp,fun x hx=>by rw[jf hx];decide,fun j h=>by rw[List.getElem_replicate];exact Nat.dvd_zero _,by rw[oB,ahP (by rw[Gg];omega),Nat.mul_zero],rfl⟩
 ·
  intro n vs wr hI u K1 hK1;obtain⟨i,os,rfl,m,hi,hlo,hd,hdv,hv,hn⟩:=hI;simp only[zu,zF,zG];apply aK 5 [0,0] m;simp only[↓aC];refine bA rfl ?_ ?_<;>intro hc1
  ·
   apply aK 12 [1,0] m;simp only[↓aC,Py,amt,aa];refine aB (xQ rfl sB rfl) ?_;apply aL 5 [] m;simp only[↓aC];refine⟨by omega,?_⟩;obtain⟨p,hp⟩:∃p,p+1+i=s.size:=⟨s.size-1-i,by omega⟩
   rw[show ((s.size:Int)-1-(i:Int))=(p:Int) by omega];obtain⟨b,hb,hpl,hbp⟩:=acU hp;obtain⟨f1,f2,f3,f4⟩:=afZ (r:=p%4) (j:=p / 4) hpl (by omega) (by omega) (by omega) hd (abh s) (by rw[show p+1=s.size-i by omega];exact hdv) (by rw[show p+1=s.size-i by omega];exact hv);rw[hbp,Qy] at f1 f3 f4;have hb256:b.toNat<256:=b.toNat_lt;have f5:b.toNat*2^(8*(p%4))<2^(8*(p%4+1)):=by
    rw[show 8*(p%4+1)=8+8*(p%4) by omega,Nat.pow_add];exact Nat.mul_lt_mul_of_pos_right hb256 (Nat.pow_pos (by omega))
   obtain⟨c,f6⟩:∃c,os[p / 4]=2^(8*(p%4+1))*c:=by
    obtain⟨c,hc⟩:=f2;exact⟨c,by rw[hc,Qy]⟩
   refine gc ?_;refine dA m 16 aD (by kernel_rfl) ?_;simp only[zy];refine aI aG (aI aG ?_);simp only[zz];refine aI (mB rfl rfl (by omega) (aeF (n:=4) (by omega))) ?_;simp only[zz];refine aI (aF fH cI rfl rfl (by omega) (by omega) (fI (show _=p / 4 by omega))) ?_;simp only[zz];refine ql rfl (fun u m=>(lies1 ((m.b 0 rfl).word (show p / 4<os.length by omega)) lY)) ?_;simp only[zz];refine eT 3 [1] ?_;simp only[↓aC,Py,amt,aa];refine aI ((uS sB rfl rfl (by omega) (by rw[ag];exact hb))) (aI (mU nW agS rfl (Cl (by omega) (by omega))) (aI aG ?_));simp only[zz];refine aI (cL rfl rfl (by omega) (alC (n:=4))) (aI (tC rfl rfl ((bG (by omega) (by omega)).trans (show (8:Int)*((p%4:Nat):Int)=((8*(p%4):Nat):Int) by omega))) ?_);simp only[zz];refine aI (qR rfl rfl (by omega) (alA (n:=8*(p%4)) (by omega) (by omega))) (aI (atj rfl rfl ((alB (s:=8*(p%4+1)) (a:=b.toNat*2^(8*(p%4))) (b:=os[p / 4]) f5 f6 (by omega)).trans (show (((b.toNat*2^(8*(p%4)))+os[p / 4]:Nat):Int)=((os[p / 4]+b.toNat*2^(8*(p%4)):Nat):Int) by omega))) ?_);simp only[zz];refine aI (aF fH cI rfl rfl (by omega) (by omega) (fI (show _=p / 4 by omega))) (bE ?_);intro u m;simp only[zz];refine cX m 0 rfl rfl rfl cI (by simp;omega) ⟨rfl,rfl⟩ ?_;intro u m;simp only[zz] at m ;rw[mV (by omega)] at m;refine aN ?_;apply aW 5 [0] m;simp only[↓aC];refine⟨by omega,?_⟩;rw[show ((i:Int)+1)=((i+1:Nat):Int) by omega];exact hK1 (s.size-(i+1)) _ _ (by omega) (by kernel_rfl) ⟨i+1,os.set (p / 4) (os[p / 4]+b.toNat*2^(8*(p%4))),rfl,m,by omega,by simpa using hlo,hd.set f1,by rw[show s.size-(i+1)=p by omega];exact f3,by rw[show s.size-(i+1)=p by omega];exact f4,rfl⟩
  ·
   apply aK 2 [] m;simp only[↓aC];obtain rfl:i=s.size:=by omega
   apply aW 2 [0] m;simp only[↓aC];refine cM m rfl rfl (Nc _ ((m.b 0 rfl).nat hd (by omega) (by omega))) ?_;rintro v u m rfl;apply aL 3 [] m;simp only[↓aC];exact aT rfl rfl ⟨_,rfl,m.ext,qX.of_trim ((m.b 0 rfl).nat hd (n:=K) (by omega) (by omega)) (by rw[hv,Nat.sub_self,Nat.pow_zero,Nat.one_mul,pa];rfl)⟩
end Go.Proofs.YtfekpcimgncioaaGreatDoor
namespace Go.Proofs.YtfekpcimgncioaaGreatDoor
open Go.Proofs.Tryz
open Go.RowKit Go.Lith
attribute [local go_sem] qd
variable{n₀ Bs:Nat}
def nG(n₀ Bs:Nat)(W W':aj):Prop:=Below n₀ W W'∧W'.heap[Bs]? = W.heap[Bs]?
theorem nG.refl(n₀ Bs:Nat)(W:aj):nG n₀ Bs W W:=⟨Below.refl _ _,rfl⟩
theorem nG.trans{A B C:aj}(h:nG n₀ Bs A B)(k:nG n₀ Bs B C):nG n₀ Bs A C:=⟨h.1.trans k.1,k.2.trans h.2⟩
theorem nG.box{A B:aj}(h:nG n₀ Bs A B){v:ai}(hc:A.cell? ⟨Bs,0,none⟩=some v):B.cell? ⟨Bs,0,none⟩=some v:=(World.cell?_of_block h.2).trans hc
set_option maxRecDepth 100000 in
theorem ake(F:Fence)(n:Nat)(h7:F.fn 314)(hro:F.round=none)(hn:1≤n)(l Bs n₀ cap:Nat)(a:Addr)(xs:List Nat)(hreach:xs.length*8≤140737488351232)(hb:a.block<n₀)(J Jx:List (Nat × Nat)→aj→Prop)
 (hY:∀pre x W,J pre W→pre.length<xs.length→YieldAt F (n-1) prog l #[.int .i64 (x.1:Int),.int .u64 (x.2:Int)] W fun e W' =>
  (e=.returned (.bool true)∧J (pre++[x]) W'∧nG n₀ Bs W W')∨(e=.returned (.bool false)∧Jx (pre++[x]) W'))
 (W:aj) (hBs:W.cell? ⟨Bs,0,none⟩=some (.slice (some a) xs.length cap)) (hc:∀j (h:j<xs.length),W.cell? (a.add j)=some (.int .u64 (xs[j]:Nat))) (h0:J [] W) :
 CallsIn F n prog 314 #[.func (.yield l) #[] #[],.pointer (some ⟨Bs,0,none⟩)] W fun e W'=>(∃v,e=.returned v) ∧
  ((∃ys:List (Nat × Nat),ys.map pv=xs.reverse∧J ys W')∨(∃pre,True∧Jx pre W')):=by
 refine callsIn_of_wp func314 rfl h7 ?_ hro;simp only[ntmps314,gu,ay,cd,aa,kn,im,io,jd,ix,bt,cg]
 gi_wp2
 gi_loopw [3] (fun i wr=>∃(k:Nat) (pre:List (Nat × Nat)),k≤xs.length∧i=.int .i64 ((k:Int)-1)∧pre.length=xs.length-k∧pre.map pv=(xs.drop k).reverse∧J pre wr∧nG n₀ Bs W wr)
  (fun i _=>(intOf i+1).toNat)
 case atStart=>exact⟨xs.length,[],ao _,rfl,by simp,by simp,h0,nG.refl _ _ _⟩
 case round =>
  obtain⟨k,pre,hk,rfl,hpl,hpre,hJs,hnx⟩:=hrel;have hBw:wr.cell? ⟨Bs,0,none⟩=some (.slice (some a) xs.length cap):=hnx.box hBs;by_cases hk0:0<k
  · have hlt:k-1<xs.length:=by omega
    have hcx:wr.cell? (a.add (k-1))=some (.int .u64 ((xs[k-1]:Nat):Int)):=(hnx.1.cell (by rw[Lk];exact hb)).trans (hc _ hlt);obtain⟨fn,tmps,assign,body,hy,hR⟩:=hY pre (k-1,xs[k-1]) wr hJs (by omega);dsimp only at hy;obtain⟨j,rfl⟩:∃j,k=j+1:=⟨k-1,by omega⟩
    rw[show (((j+1:Nat):Int)-1)=(j:Int) by omega];simp only[Nat.add_sub_cancel] at hy hR hcx hlt
    gi_wp2
    refine hR.mono ?_;rintro e W3 (⟨rfl,hJ3,hk3⟩ | ⟨rfl,hJx3⟩)
    · gi_wp2
      go_roundw
      case rel=>exact⟨j,pre++[(j,xs[j])],by omega,by simp,by simp;omega,by rw[List.drop_eq_getElem_cons hlt,List.reverse_cons,ct,hpre];rfl,hJ3,hnx.trans hk3⟩
      case measure=>simp[intOf]
    · gi_wp2
      refine bodyPost_ret (results_none rfl _ _ _) rfl ?_;exact⟨⟨_,rfl⟩,.inr ⟨_,trivial,hJx3⟩⟩
  · obtain rfl:k=0:=by omega
    gi_wp2
    go_end0
    exact⟨⟨_,rfl⟩,.inl ⟨pre,by rw[hpre];rfl,hJs⟩⟩
set_option maxRecDepth 100000 in
theorem aaL(F:Fence)(n:Nat)(h7:F.fn 314)(hro:F.round=none)(l Bs cap:Nat)(A:Option Addr)(J:List (Nat × Nat)→aj→Prop)(W:aj)(hBs:W.cell? ⟨Bs,0,none⟩=some (.slice A 0 cap))(h0:J [] W) :
 CallsIn F n prog 314 #[.func (.yield l) #[] #[],.pointer (some ⟨Bs,0,none⟩)] W fun e W'=>(∃v,e=.returned v)∧J [] W':=by
 refine callsIn_of_wp func314 rfl h7 ?_ hro;simp only[ntmps314,gu,ay,cd,aa,kn,im,io,jd,ix,bt,cg]
 gi_wp2
 gi_loopw [3] (fun i wr=>i=.int .i64 (-1)∧J [] wr) (fun _ _=>0)
 case atStart=>exact⟨rfl,h0⟩
 case round =>
  obtain⟨rfl,hJs⟩:=hrel
  gi_wp2
  go_end0
  exact⟨⟨_,rfl⟩,hJs⟩
theorem ano(F:Fence)(n:Nat)(h5:F.fn 257)(hro:F.round=none)(a:Option Addr)(len cap:Nat)(w:aj) :
 CallsIn F n prog 257 #[.slice a len cap] w fun e w'=>e=.returned (.func (.func 314) #[] #[.pointer (some ⟨w.heap.size,0,none⟩)])∧w'=w.alloc (.cells #[.slice a len cap] 233):=by
 refine callsIn_of_wp func257 rfl h5 ?_ hro;simp only[ntmps257,gu,ay,cd,aa,kn,im,io,jd,ix,bt,cg]
 gi_wp2
 go_ret
 exact⟨rfl,rfl⟩
theorem aed(F:Fence)(n:Nat)(h7:F.fn 314)(hro:F.round=none)(hn:1≤n)(Bs n₀ cap:Nat)(A:Option Addr)(xs:List Nat)(hreach:xs.length*8≤140737488351232)(w:aj)(hBs:Bs<w.heap.size)(hn₀:n₀≤w.heap.size)
 (hc:w.cell? ⟨Bs,0,none⟩=some (.slice A xs.length cap)) (hI:∀(i x:Nat),xs[i]? = some x→∃a,A=some a∧w.cell? (a.add i)=some (.int .u64 (x:Int))) (hA:∀a,0<xs.length→A=some a→a.block<n₀) :
 SeqStopsK F n prog 314 #[.pointer (some ⟨Bs,0,none⟩)] (fun x:Nat × Nat=>#[Value.int .i64 (x.1:Int),Value.int .u64 (x.2:Int)]) (nG n₀ Bs) (fun ys=>ys.map pv=xs.reverse) (fun _=>True) xs.length w:=fun l J Jx W hW _ _ hY h0=>by
 have hc':=(hW.cell (p:=⟨Bs,0,none⟩) hBs).trans hc;rcases Nat.eq_zero_or_pos xs.length with h | h
 · obtain rfl:xs=[]:=et h
   exact (aaL F n h7 hro l Bs cap A J W hc' h0).mono fun e W' ⟨he,hj⟩=>⟨he,.inl ⟨[],rfl,hj⟩⟩
 · obtain⟨a,rfl,_⟩:=hI 0 xs[0] (ak h)
   refine ake F n h7 hro hn l Bs n₀ cap a xs hreach (hA a h rfl) J Jx hY W hc' (fun j hj=>?_) h0;obtain⟨a',e,hcl⟩:=hI j xs[j] (ak hj);cases e;exact (hW.cell (by rw[Lk];exact gz (hA a h rfl) hn₀)).trans hcl
theorem aqE{A:Option Addr}{n cap:Nat}(w:aj):dK prog 257 [.slice A n cap] w (fun v w'=>∃g,v=.func (.func 314) #[] #[.pointer (some ⟨g,0,none⟩)]∧w.heap.size≤g∧gT w' g [.slice A n cap] 233):=by
 refine⟨bP func257 (by kernel_rfl),(callsIn_wide (n:=2)).1 ((ano Fence.wide 2 trivial rfl A n cap w).mono ?_)⟩;rintro e w' ⟨rfl,rfl⟩;exact⟨_,rfl,(gJ.refl w).alloc _,_,rfl,ao _,iX w _ _⟩
end Go.Proofs.YtfekpcimgncioaaGreatDoor
namespace Go.Proofs.YtfekpcimgncioaaGreatDoor
open Go.Proofs.Tryz
open Go.RowKit Go.Lith
set_option maxRecDepth 100000
attribute [local irreducible] au cu fA Code.wp
attribute [local go_sem] qd
theorem anp:(prog.info? 5).map (fun i=>(i.zero,i.size,i.bytes))=some (some (.int .u8 0),1,1):=by kernel_rfl
theorem Ty{W w1:aj}{tmp:Obj}{v v':ai}{base size k g g3:Nat}{e t:av}{xs cs:List ai}(hB:gT W g cs t)(hte:t≠e)(hr:W.ownsRow base e size v k xs)(hg:(W.alloc tmp).grownBy w1 v.ownBlock)(hne:g≠g3):(w1.setCell ⟨g3,0,none⟩ v').heap[g]? = W.heap[g]?:=by
 have h1:some g≠v.ownBlock:=by
  rcases hr.2 with ⟨rfl,_⟩ | ⟨g',cap,cur,rfl,_,hgb,_⟩
  · simp[Value.ownBlock]
  ·
   intro h;obtain rfl:g=g':=by simpa[Value.ownBlock] using h
   rw[hB] at hgb;cases hgb;exact hte rfl
 exact ((Below.heap_setCell w1 ⟨g3,0,none⟩ v' g hne).trans (hg.block g (by simp;have:=hB.lt;omega) h1)).trans (Below.heap_alloc W tmp g hB.lt)
theorem Hu{A:Option Addr}{xs:List Nat}{na cap:Nat}{neg:Bool}(w:aj)(hS:lH w A na cap xs)(hl:xs.length≤100000000000):dK prog 184 [.slice A na cap,.bool neg] w (fun v _=>v=W (sgn neg (val 4294967296 xs))):=by
 skip
 refine⟨bP func184 (by kernel_rfl),?_⟩;have hX:=gJ.refl w;obtain rfl:=hS.eq;have hlt:=Qw xs;have hle:=hS.le;refine (callsIn_wide (n:=4)).1 (callsIn_of_wp_marks func184 rfl trivial ?_ rfl);simp only[ntmps184,gu,ay,cd,aa,kn,im,io,jd,ix,bt,cg];refine wpIn_wide.2 (aX (fun K1 hK1=>aq ?_));refine Eu Zr rfl ?_;intro w1 g1 hE hg1 hB1;have hG1:=be hX.size hg1;replace hX:=hX.trans hE;clear hE hg1;simp only[zz];refine aN (hK1 _ _ ?_);refine aX (fun K2 hK2=>aq (aB aG ?_));simp only[zz];refine bC rfl rfl (Nc _ (hS.ext hX)) ?_;rintro v w2 hE rfl;replace hB1:=hB1.ext hE;replace hX:=hX.trans hE;clear hE;simp only[zz];refine aB aP ?_;simp only[zz];refine aN ?_;obtain⟨ys,hys⟩:∃ys,ys=trim xs:=⟨_,rfl⟩
 rw[←hys] at hlt ⊢;refine hK2 _ _ (aX (fun K3 hK3=>aq (aB aG (aB (Lh rfl fH rfl) (aB (tC rfl rfl (bG (by omega) (by omega))) ?_)))));simp only[zz];refine tQ underlying300 arM rfl rfl rfl (show _=0 by omega) (show _=4*ys.length by omega) (by omega) (by omega) (by omega) (by omega) ?_;intro w3 g2 hE hg2 hB2;have hG2:=be hX.size hg2;have hN2_1:g2≠g1:=nf (gz hB1.lt hg2);replace hB1:=hB1.ext hE;replace hX:=hX.trans hE;clear hE hg2;simp only[zz];refine Eu ait rfl ?_;intro w4 g3 hE hg3 hB3;have hG3:=be hX.size hg3;have hN3_1:g3≠g1:=nf (gz hB1.lt hg3);have hN3_2:g3≠g2:=nf (gz hB2.lt hg3);replace hB1:=hB1.ext hE;replace hB2:=hB2.ext hE;replace hX:=hX.trans hE;clear hE hg3;simp only[zz];refine yW rfl (by simp only[zz];rfl) (by exact agf) hB3 (by simp) (by simp[pi]) ?_;clear hB3;intro w5 hC hB3;replace hB1:=hB1.chg hC (by first | exact hN1_3 | exact Ne.symm hN3_1);replace hB2:=hB2.chg hC (by first | exact hN2_3 | exact Ne.symm hN3_2);replace hX:=hX.chg hC hG3;clear hC;simp only[zy,zx,over,aa] at hB3;refine aN (hK3 _ _ ?_);refine aX (fun K4 hK4=>aX (fun K5 hK5=>aq (aB aG ?_)));simp only[zz];refine bC rfl rfl (aqE _) ?_;rintro v w6 hE ⟨g4,rfl,hg4,hB4⟩;have hG4:=be hX.size hg4;have hN4_1:g4≠g1:=nf (gz hB1.lt hg4);have hN4_2:g4≠g2:=nf (gz hB2.lt hg4);have hN4_3:g4≠g3:=nf (gz hB3.lt hg4);replace hB1:=hB1.ext hE;replace hB2:=hB2.ext hE;replace hB3:=hB3.ext hE;replace hX:=hX.trans hE;clear hE hg4;simp only[zz];refine aN (hK5 _ _ ?_);refine wp_block ((wpIn_wide (n:=4)).1 ?_);have hbase:w.heap.size≤w6.heap.size:=hX.size;obtain⟨n0,hn0⟩:∃n0,n0=w.heap.size:=⟨_,rfl⟩
 have hT:lH w6 A ys.length cap ys:=(((hS.ext hX).take (trim xs).length).as (nL xs).symm |> fun h=>by rw[←nL,←hys] at h;exact h)
 have hA:∀a,0<ys.length→A=some a→a.block<w.heap.size:=fun a h0 e=>by
  obtain⟨a',e',hc⟩:=hS.row 0 (xs[0]'(by omega)) (ak (by omega));rw[e] at e';cases e';have:=World.block_lt_of_cell? _ _ hc;rwa [Lk] at this
 refine wpIn_rangeFunc_ownG (F:=Fence.wide) rfl (by omega) (gf:=314) (lb:=#[.pointer (some ⟨g4,0,none⟩)]) rfl trivial (enters_of func314 (by kernel_rfl) rfl)
  (aed Fence.wide 3 trivial rfl (by omega) g4 w.heap.size cap A ys (by omega) w6 hB4.lt hX.size (hB4.cell rfl) hT.row hA) nG.trans (fun W l o o' hl ho _ _=>⟨belowK_b (w:=w6) hX.size W l o o' hl ho ‹_› ‹_›,World.putObj_heap_other (by have:=hB4.lt;omega)⟩) (Below.refl _ _) (fun _=>rfl)
  (fun pre W=>((∃v,Boxed W g3 300 v∧W.ownsRow w.heap.size 5 1 v (wbs pre).length ((wbs pre).map u8v)∧True)∧gT W g1 [.bool false,.string ⟨#[]⟩] 95∧gT W g4 [.slice A ys.length cap] 233)∧Below w.heap.size w W)
  (fun _ _ _=>False)
  (OwnFrom.and (OwnFrom.and (Own.from (holdsRow_own w.heap.size g3 300 5 1 (fun pre=>(wbs pre).length) (fun pre=>(wbs pre).map u8v) (fun _ _=>True)) _) (Own.from (fun s X Y row hs hg hr=>⟨(grownBy_keeps_cells hg hr hs.1 rfl).trans hs.1,(grownBy_keeps_cells hg hr hs.2 rfl).trans hs.2⟩) _)) (ownFrom_below (ao _) hX.size))
  (fun _ _ _ _ _ hs _ _=>hs)
  ⟨⟨⟨_,hB3,⟨rfl,.inr ⟨g2,4*ys.length,_,rfl,hG2,hB2,cq _,by show _≤9223372036854775807;omega,by simp,by simp[wbs]⟩⟩,trivial⟩,hB1,hB4⟩,hX⟩
  (fun x=>{ tmps:=#[.slice A ys.length cap,.bool neg,undef,undef,.pointer (some ⟨g1,0,none⟩),.pointer (some ⟨g3,0,none⟩),undef,.int .u64 (x.2:Int),undef,.slice A xs.length cap,.slice A ys.length cap,.slice A ys.length cap,.int .i64 (ys.length:Int),.int .i64 (4*(ys.length:Int)),.slice (some ⟨g2,0,none⟩) 0 (4*ys.length),.slice A ys.length cap,.func (.func 314) #[] #[.pointer (some ⟨g4,0,none⟩)],.int .i64 (x.1:Int),.int .u64 (x.2:Int),undef,undef,undef,undef,undef,undef,undef,undef,undef,undef,undef,undef,undef,undef,undef,undef,undef,undef,undef,undef,undef,undef,undef,undef],defers:=[] }) ?assign ?body ?done ?stop
 case assign =>
  intro l x W K hK;clear hys
  gi_wp2
  exact hK
 case stop =>
  rintro D c pre W _ _ h _;exact h.elim
 case body =>
  rintro l pre x W ⟨⟨⟨v,hv,hrow,_⟩,hB1',hB4'⟩,hB⟩ hlt;have hc:=hv.cell;have hwl:(wbs pre).length≤4*pre.length:=Nat.le_of_eq (Rb pre);clear hys;obtain⟨i0,hi,hz0,hz1,hz2⟩:=info_parts anp
  gi_wp2_with (gi_at_builtin;refine wpListIn_append_own _ rfl _ _ 300 rfl w.heap.size 5 i0 (.int .u8 0) 1 1 underlying300 hi hz0 hz1 hz2 rfl (by decide) _ _ _ rfl (hrow.alloc _) ⟨W.heap.size,0,none⟩ 4 4 [.int .u8 ((x.2:Int) / 16777216%256),.int .u8 ((x.2:Int) / 65536%256),.int .u8 ((x.2:Int) / 256%256),.int .u8 ((x.2:Int)%256)] rfl rfl ((iX W _ 5).row 0) (by simp[pi]) (by show _≤9223372036854775807;omega) (by omega) (by have:=hB.size;simp;omega) ?_;intro v' w1 hown' hgrow _;obtain⟨g',cap',rfl⟩:=ownsRow_succ hown';obtain⟨hv1,hv2,hr2,hk2,hb2⟩:=hv.appended (by decide) hrow hB.size hG3 hown' hgrow;have hc1:=hv1.cell;have hf1:=hv1.frozen)
  have e1:=Ty hB1' (by decide) hrow hgrow (Ne.symm hN3_1) (v':=.slice (some ⟨g',0,none⟩) ((wbs pre).length+3+1) cap');have e4:=Ty hB4' (by decide) hrow hgrow hN4_3 (v':=.slice (some ⟨g',0,none⟩) ((wbs pre).length+3+1) cap');refine⟨hk2.from _,⟨hb2,e4⟩,⟨⟨_,hv2,?_,trivial⟩,e1.trans hB1',e4.trans hB4'⟩,hB.trans hb2⟩;rw[ahQ,a_,ct];have e:(wb x.2).map u8v=[.int .u8 ((x.2:Int) / 16777216%256),.int .u8 ((x.2:Int) / 65536%256),.int .u8 ((x.2:Int) / 256%256),.int .u8 ((x.2:Int)%256)]:=by simp[wb,UInt8.toNat_ofNat']
  rw[e];exact hr2
 rintro D ls W hD hls ⟨⟨⟨v,hv,hrow,_⟩,hB1',_⟩,hX'⟩ hK';replace hD:=be hX.size hD;clear hB1 hB2 hB3 hB4 hX hG2 hG4 hN2_1 hN3_2 hN4_1 hN4_2 hN4_3 hbase hT;have hB1:=hB1';have hB3:gT W g3 [v] 300:=hv;have hX:gJ w W:=hX';have hK:Def W D:=⟨hK'⟩
 have hDg1:=hK.ne hB1;have hlb:(wbs ls).length≤1000000000000000:=by
  have:=congrArg List.length hls;rw[bf,List.length_reverse] at this;rw[Rb];omega
 have hbs:pC (uX (wbs ls))=kX (sgn neg (val 4294967296 xs)):=by
  have e:wbs ls=ys.reverse.flatMap wb:=by rw[←hls,List.flatMap_map];rfl
  have hd:iS 4294967296 ys:=by rw[hys];exact hS.digs.trim
  rw[e,ac0 hd neg,hys,Qu]
 dsimp only;refine hK4 _ _ (aX (fun K6 hK6=>aq ?_));refine aR rfl (hB3.lies1 al4 rfl) ?_;simp only[zz];refine gK (acY underlying300 agS sB rfl hrow) ?_;simp only[zz];refine Yu rfl rfl (aec hlb) ?_;intro w7 hE;replace hB1:=hB1.ext hE;(try replace hK:=hK.ext hE);replace hX:=hX.trans hE;clear hE;simp only[zz];refine aB aP ?_;simp only[zz];refine aN ?_;rw[hbs];refine hK6 _ _ (aX (fun K7 hK7=>?_));cases neg
 ·
  refine aq (aB aG (aB aG ?_));simp only[zz];refine rJ rfl ?_;simp only[zz];refine rJ rfl ?_;simp only[zz];refine aB (tR rfl) (aB aG (aB (Df rfl rfl) ?_));simp only[zz];refine yW rfl (by simp only[zz];rfl) (by exact aV) hB1 (by simp) (by simp[pi]) ?_;clear hB1;intro w8 hC hB1
  (try replace hK:=hK.chg hC (by first | assumption | rfl));replace hX:=hX.chg hC hG1
  clear hC;simp only[zy,zx,over,aa] at hB1;refine aN (hK7 _ _ ?_);refine wp_ret ?_;try simp only[Exit.inBlock,Exit.then]
  refine acZ hK ?_;replace hB1:=hB1.putD hK (o:=.deferred none);replace hX:=hX.putD hD (o:=.deferred none);refine aT rfl ⟨_,rfl,(hB1.lies eN aV rfl rfl)⟩ ?_;try simp only[zD,zE]
  exact⟨_,rfl,hX,by simp[Lith.W,aeG,Re]⟩
 ·
  refine aq (aB aG (aB aG ?_));simp only[zz];refine cN rfl (aB aG ?_);simp only[zz];refine cN rfl (aB (aoZ sB rfl rfl) (aB (rL rfl) (aB aG ?_)));simp only[zz];refine aB (Df rfl rfl) ?_;simp only[zz];refine yW rfl (by simp only[zz];rfl) (by exact aV) hB1 (by simp) (by simp[pi]) ?_;clear hB1;intro w8 hC hB1
  (try replace hK:=hK.chg hC (by first | assumption | rfl));replace hX:=hX.chg hC hG1
  clear hC;simp only[zy,zx,over,aa] at hB1;refine aN (hK7 _ _ ?_);refine wp_ret ?_;try simp only[Exit.inBlock,Exit.then]
  refine acZ hK ?_;replace hB1:=hB1.putD hK (o:=.deferred none);replace hX:=hX.putD hD (o:=.deferred none);refine aT rfl ⟨_,rfl,(hB1.lies eN aV rfl rfl)⟩ ?_;try simp only[zD,zE]
  exact⟨_,rfl,hX,by simp[Lith.W,aeG,Re]⟩
end Go.Proofs.YtfekpcimgncioaaGreatDoor
namespace Go.Proofs.YtfekpcimgncioaaGreatDoor
open Go.Proofs.Tryz
open Go.RowKit Go.Lith
set_option maxRecDepth 100000
attribute [local irreducible] au cu fA bF cG Code.wp
attribute [local congr] nO fK fM fN fO fP iY fQ fR fS fT fU fV fW fX fY fZ gA dX dY gB gC gE gF gG jA cQ cR cE cP gD iZ dZ eA eB gH gI jD
variable{a:Int}
theorem Nd(ha:Bd 1000000 a):fF prog 191 [W a] (.int .i64 (bS a)):=by
 intro w;refine⟨bP func191 (by kernel_rfl),?_⟩;have m:=Mem.refl w
 go_enter func191,ntmps191
 apply mR 10 [0,0] m;simp only[↓aC,jZ];intro g1 u m;refine bC rfl rfl (Ye _ (uL ha)) ?_;rintro v u e_ ⟨A1,c1,rfl,hN1⟩;replace m:=m.ext' e_;simp only[zz];rw[uK] at hN1 ⊢;apply aL 4 [0,0] m;simp only[↓aC,kC];refine bA rfl ?_ ?_<;>intro hc1
 ·
  have h0:=aeH.1 hc1;apply aK 5 [] m;simp only[↓aC];refine aT rfl rfl ?_;try simp only[zD,zE]
  exact⟨_,rfl,m.ext,by rw[h0];rfl⟩
 ·
  apply aK 6 [0,0] m;simp only[↓aC,Aq,adN,aa];refine iK rfl ?_ ?_<;>intro hc2
  ·
   have hn:=Wa hc2;apply aK 5 [] m;simp only[↓aC];refine aT rfl rfl ?_;try simp only[zD,zE]
   exact⟨_,rfl,m.ext,by rw[Wb hn]⟩
  ·
   have hn:=Rf hc2;have h0:¬a=0:=fun e=>hc1 (aeH.2 e);apply aK 7 [] m;simp only[↓aC];refine aT rfl rfl ?_;try simp only[zD,zE]
   exact⟨_,rfl,m.ext,by rw[Wc (by omega)]⟩
theorem asC(ha:Bd 1000000 a):fF prog 267 [W a] (W (-a)):=by
 intro w;refine⟨bP func267 (by kernel_rfl),?_⟩;have m:=Mem.refl w
 go_enter func267,ntmps267
 apply mR 6 [0] m;simp only[↓aC,vN];intro g1 g2 u m;refine mh m [false,true] [(2,true),(0,true),(3,true),(4,true),(1,false),(5,false),(6,false)] aD (by kernel_rfl) (bT (fun _ _ _ _ _ h=>h)) (ol:=?_) ?hol ?_
 case hol=>simp only[zw,zQ,zR];try rfl
 intro u m;refine Ps 4 [0,0] ?_;simp only[↓aC,Aq,jZ,adN,aa];refine cF (bC rfl rfl (Ye _ (uL ha)) ?_);rintro v u e_ ⟨A1,c1,rfl,hN1⟩;replace m:=m.ext' e_;simp only[zz];rw[uK] at hN1 ⊢;refine aN ⟨m.sel [false,true],?_⟩;refine cF (bC rfl rfl (Hu _ hN1 (be (Ha ha) (by decide))) ?_);rintro v u e_ rfl;replace m:=m.ext' e_;simp only[zz];simp only[iM];refine aN ⟨m.sel [false,true],?_⟩;refine cF (cU m 0 rfl rfl rfl aV (kG rfl) rfl ?_);intro u m;simp only[zy,zx,over,zF,zG,aa] at m;refine aN ⟨m.sel [false,true],?_⟩;refine bV ?_;rw[alD] at m;apply aW 1 [] m;simp only[↓aC];exact aT rfl ⟨_,rfl,((m.b 0 rfl).full eN aV)⟩ ⟨_,rfl,m.ext,rfl⟩
theorem Yf{b:Int}(ha:Bd 1000000 a)(hb:Bd 1000000 b):fF prog 121 [W a,W b] (W (a+b)):=by
 intro w;refine⟨bP func121 (by kernel_rfl),?_⟩;have m:=Mem.refl w;have hla:=Ha ha;have hlb:=Ha hb;have hls:=Ha (Bd.add ha hb)
 go_enter func121,ntmps121
 apply mR 7 [0] m;simp only[↓aC,vN];intro g1 g2 g3 u m;refine mh m [true,true,true] [(0,true),(2,true),(1,false),(3,false),(4,true),(5,true)] aD (by kernel_rfl) (bT (fun _ _ _ _ _ h=>h)) (ol:=?_) ?hol ?_
 case hol=>simp only[zw,zQ,zR];try rfl
 intro u m;refine Ps 2 [2,1] ?_;simp only[↓aC,jZ];refine cF (bC rfl rfl (Ye _ (uL ha)) ?_);rintro v u e_ ⟨A1,c1,rfl,hN1⟩;replace m:=m.ext' e_;simp only[zz];rw[uK] at hN1 ⊢;refine aN ⟨m,?_⟩;refine cF (bC rfl rfl (Ye _ (uL hb)) ?_);rintro v u e_ ⟨A2,c2,rfl,hN2⟩;replace m:=m.ext' e_;replace hN1:=hN1.ext e_;simp only[zz];rw[uK] at hN2 ⊢;refine aN ⟨m,?_⟩;refine aS aP (aS aP (bV ?_));apply aW 8 [2,1,0] m;simp only[↓aC,Aq,adN,aa];refine aB (aoY Vc rfl rfl) ?_;apply aL 2 [0] m;simp only[↓aC];refine bA rfl ?_ ?_<;>intro hc1
 ·
  apply aK 1 [0] m;simp only[↓aC];refine mhe m [false,true,true] [(0,true),(1,true),(3,true),(4,true),(2,false),(5,false),(6,false)] aD (by kernel_rfl) (bT (fun _ _ _ _ _ h=>h)) (ol:=?_) ?hol ?_
  case hol=>simp only[zw,zQ,zR];try rfl
  intro u e_ m;replace hN1:=hN1.ext e_;replace hN2:=hN2.ext e_;refine Ps 4 [1] ?_;simp only[↓aC,Aq,adN,aa];refine cF (bC rfl rfl (asA _ hN1 hN2 (be hla (by decide)) (be hlb (by decide))) ?_);rintro v u e_ ⟨A3,c3,rfl,hN3⟩;replace m:=m.ext' e_;refine aN ⟨m.sel [false,true,true],?_⟩;refine cF ?_;simp only[zz];simp only[iM] at hN3 ⊢;have hl3:(digs 4294967296 (a.natAbs+b.natAbs)).length≤100000000000:=be (af3 ha hb) (by decide);refine bC rfl rfl (Hu _ hN3 hl3) ?_;rintro v u e_ rfl;replace m:=m.ext' e_;simp only[zz];simp only[iM];refine aN ⟨m.sel [false,true,true],?_⟩;refine cF (cU m 0 rfl rfl rfl aV (kG rfl) rfl ?_);intro u m;simp only[zy,zx,over,zF,zG,aa] at m;refine aN ⟨m.sel [false,true,true],?_⟩;refine bV ?_;rw[alE hc1] at m;apply aW 1 [] m;simp only[↓aC];exact aT rfl ⟨_,rfl,((m.b 0 rfl).full eN aV)⟩ ⟨_,rfl,m.ext,rfl⟩
 ·
  apply aK 4 [0] m;simp only[↓aC];refine bC rfl rfl (asz _ hN1 hN2 (Cq _) (Cq _)) ?_;rintro v u e_ rfl;replace m:=m.ext' e_;replace hN1:=hN1.ext e_;replace hN2:=hN2.ext e_;simp only[zz];simp only[iM];apply aL 3 [0,0] m;simp only[↓aC];refine bA rfl ?_ ?_<;>intro hc2
  ·
   have hlt:=Qx.1 hc2;apply aK 1 [0] m;simp only[↓aC];refine mhe m [false,true,true] [(0,true),(1,true),(3,true),(4,true),(2,false),(5,false),(6,false)] aD (by kernel_rfl) (bT (fun _ _ _ _ _ h=>h)) (ol:=?_) ?hol ?_
   case hol=>simp only[zw,zQ,zR];try rfl
   intro u e_ m;replace hN1:=hN1.ext e_;replace hN2:=hN2.ext e_;refine Ps 4 [0] ?_;simp only[↓aC,Aq,adN,aa];refine cF (bC rfl rfl (aoy _ hN2 hN1 (Zg (Nat.le_of_lt hlt)) (by simp only[iM];omega) (be hlb (by decide))) ?_);rintro v u e_ ⟨⟨A3,c3,rfl,hN3⟩,_⟩;replace m:=m.ext' e_;simp only[zz];simp only[iM] at hN3 ⊢;have hl3:=Zg (Nat.sub_le b.natAbs a.natAbs);refine aN ⟨m.sel [false,true,true],?_⟩;refine cF (bC rfl rfl (Hu _ hN3 (be hl3 (be hlb (by decide)))) ?_);rintro v u e_ rfl;replace m:=m.ext' e_;simp only[zz];simp only[iM];refine aN ⟨m.sel [false,true,true],?_⟩;refine cF (cU m 0 rfl rfl rfl aV (kG rfl) rfl ?_);intro u m;simp only[zy,zx,over,zF,zG,aa] at m;refine aN ⟨m.sel [false,true,true],?_⟩;refine bV ?_;rw[ao1 hc1 hlt] at m;apply aW 1 [] m;simp only[↓aC];exact aT rfl ⟨_,rfl,((m.b 0 rfl).full eN aV)⟩ ⟨_,rfl,m.ext,rfl⟩
  ·
   have hge:b.natAbs≤a.natAbs:=Nat.le_of_not_lt fun h=>hc2 (Qx.2 h);apply aK 3 [0] m;simp only[↓aC];refine mhe m [false,true,true] [(0,true),(1,true),(3,true),(4,true),(2,false),(5,false),(6,false)] aD (by kernel_rfl) (bT (fun _ _ _ _ _ h=>h)) (ol:=?_) ?hol ?_
   case hol=>simp only[zw,zQ,zR];try rfl
   intro u e_ m;replace hN1:=hN1.ext e_;replace hN2:=hN2.ext e_;refine Ps 4 [1] ?_;simp only[↓aC,Aq,adN,aa];refine cF (bC rfl rfl (aoy _ hN1 hN2 (Zg hge) (by simp only[iM];omega) (be hla (by decide))) ?_);rintro v u e_ ⟨⟨A3,c3,rfl,hN3⟩,_⟩;replace m:=m.ext' e_;simp only[zz];simp only[iM] at hN3 ⊢;have hl3:=Zg (Nat.sub_le a.natAbs b.natAbs);refine aN ⟨m.sel [false,true,true],?_⟩;refine cF (bC rfl rfl (Hu _ hN3 (be hl3 (be hla (by decide)))) ?_);rintro v u e_ rfl;replace m:=m.ext' e_;simp only[zz];simp only[iM];refine aN ⟨m.sel [false,true,true],?_⟩;refine cF (cU m 0 rfl rfl rfl aV (kG rfl) rfl ?_);intro u m;simp only[zy,zx,over,zF,zG,aa] at m;refine aN ⟨m.sel [false,true,true],?_⟩;refine bV ?_;rw[ao2 hc1 hge] at m;apply aW 1 [] m;simp only[↓aC];exact aT rfl ⟨_,rfl,((m.b 0 rfl).full eN aV)⟩ ⟨_,rfl,m.ext,rfl⟩
theorem Gv{b:Int}(ha:Bd 1000000 a)(hb:Bd 1000000 b):fF prog 192 [W a,W b] (W (a-b)):=by
 intro w;refine⟨bP func192 (by kernel_rfl),?_⟩;have m:=Mem.refl w
 go_enter func192,ntmps192
 apply mR 7 [0] m;simp only[↓aC,vN];intro g1 g2 g3 u m;refine dA m 4 aD (by kernel_rfl) ?_;simp only[zy];refine ql rfl (fun u m=>((m.b 2 rfl).full eN aV)) ?_;simp only[zz];refine ql rfl (fun u m=>((m.b 1 rfl).full eN aV)) ?_;simp only[zz];refine jJ rfl rfl (asC hb) ?_;simp only[zz];refine jJ rfl rfl (Yf ha hb.neg) (bE ?_);intro u m;simp only[zz];refine cU m 0 rfl rfl rfl aV (kG rfl) rfl ?_;intro u m;simp only[zy,zx,over,zF,zG,aa] at m;refine aN ?_;rw[←Int.sub_eq_add_neg] at m;apply aW 1 [] m;simp only[↓aC];exact aT rfl ⟨_,rfl,((m.b 0 rfl).full eN aV)⟩ ⟨_,rfl,m.ext,rfl⟩
theorem tK{b:Int}(ha:Bd 1000000 a)(hb:Bd 1000000 b):fF prog 122 [W a,W b] (W (a*b)):=by
 intro w;refine⟨bP func122 (by kernel_rfl),?_⟩;have m:=Mem.refl w;have hla:=Ha ha;have hlb:=Ha hb;have hls:=Ha (Bd.mul ha hb)
 go_enter func122,ntmps122
 apply mR 7 [0] m;simp only[↓aC,vN];intro g1 g2 g3 u m;refine mh m [false,true,true] [(5,true),(7,true),(0,true),(2,true),(6,true),(8,true),(9,true),(1,false),(3,false),(4,false),(10,false),(11,false)] aD (by kernel_rfl) (bT (fun _ _ _ _ _ h=>h)) (ol:=?_) ?hol ?_
 case hol=>simp only[zw,zQ,zR];try rfl
 intro u m;refine Ps 6 [1,0,1,0] ?_;simp only[↓aC,Aq,jZ,adN,aa];refine aS (Zf Vc rfl rfl) (cF ?_);simp only[zz];refine bC rfl rfl (Ye _ (uL ha)) ?_;rintro v u e_ ⟨A1,c1,rfl,hN1⟩;replace m:=m.ext' e_;simp only[zz];rw[uK] at hN1 ⊢;refine aN ⟨m.sel [false,true,true],?_⟩;refine cF (bC rfl rfl (Ye _ (uL hb)) ?_);rintro v u e_ ⟨A2,c2,rfl,hN2⟩;replace m:=m.ext' e_;replace hN1:=hN1.ext e_;simp only[zz];rw[uK] at hN2 ⊢;refine aN ⟨m.sel [false,true,true],?_⟩;refine cF (bC rfl rfl (asB _ hN1 hN2 (be hla (by decide)) (be hlb (by decide))) ?_);rintro v u e_ ⟨A3,c3,rfl,hN3⟩;replace m:=m.ext' e_;simp only[zz];simp only[iM] at hN3 ⊢;rw[←Int.natAbs_mul] at hN3 ⊢;refine aN ⟨m.sel [false,true,true],?_⟩;refine cF (bC rfl rfl (Hu _ hN3 (be hls (by decide))) ?_);rintro v u e_ rfl;replace m:=m.ext' e_;simp only[zz];simp only[iM];refine aN ⟨m.sel [false,true,true],?_⟩;refine cF (cU m 0 rfl rfl rfl aV (kG rfl) rfl ?_);intro u m;simp only[zy,zx,over,zF,zG,aa] at m;refine aN ⟨m.sel [false,true,true],?_⟩;refine bV ?_;rw[Int.natAbs_mul,alF] at m;apply aW 1 [] m;simp only[↓aC];exact aT rfl ⟨_,rfl,((m.b 0 rfl).full eN aV)⟩ ⟨_,rfl,m.ext,rfl⟩
theorem asD{b:Int}(ha:Bd 900000 a)(hb:Bd 900000 b):fF prog 126 [W a,W b] (.int .i64 (bS (a-b))):=by
 intro w;refine⟨bP func126 (by kernel_rfl),?_⟩;have m:=Mem.refl w
 go_enter func126,ntmps126
 apply mR 10 [1,0,0] m;simp only[↓aC,jZ];intro g1 g2 u m;refine kY m rfl rfl (Gv (ha.mono (by decide)) (hb.mono (by decide))) ?_;intro u m;simp only[zz];refine wA m rfl rfl (Nd ((Bd.sub ha hb).mono (by decide))) 3 [] ?_;simp only[↓aC];intro u m;exact aT rfl rfl ⟨_,rfl,m.ext,rfl⟩
theorem qK{n:Int}(h:rN n):fF prog 118 [.int .i64 n] (W n):=by
 intro w;refine⟨bP func118 (by kernel_rfl),?_⟩;have m:=Mem.refl w;have hna:=h.natAbs
 go_enter func118,ntmps118
 apply mR 5 [] m;simp only[↓aC,vN];intro g1 u m;rcases (show n<0∨0≤n by omega) with h0 | h0
 ·
  apply aW 2 [0] m;simp only[↓aC];refine aB (mU nW lA rfl (alG h h0)) ?_;apply aL 11 [1,0] m;simp only[↓aC];refine⟨by omega,?_⟩;refine aB (wH rfl (af4 hna (by omega))) ?_;apply aL 5 [0] m;simp only[↓aC];refine aB (lQ rfl rfl (aeE (by omega))) ?_;apply aL 1 [0] m;simp only[↓aC];refine aB (lG rfl rfl (by omega) acS) ?_;simp only[zz];refine abf fH (z:=.int .u64 0) (by kernel_rfl) rfl rfl rfl rfl rfl ?_;intro u g2 e_ h_ k_;replace m:=m.newB e_ h_ k_;apply aL 2 [1,0] m;simp only[↓aC];refine⟨by omega,?_⟩;refine cM m rfl rfl (Hu _ ((m.b 0 rfl).nat (os:=[n.natAbs%4294967296,n.natAbs / 4294967296]) (Rg (by omega)) rfl (by omega)) (by simp)) ?_;rintro v u m rfl;apply kP 3 [1] m;simp only[↓aC,jZ,aa];intro u m;refine aT rfl ⟨_,rfl,((m.b 1 rfl).full eN aV)⟩ ?_;try simp only[zD,zE]
  exact⟨_,rfl,m.ext,by rw[Wd,show true=gW n from (decide_eq_true h0).symm,abl];rfl⟩
 ·
  apply aW 2 [0] m;simp only[↓aC];refine aB (mU nW lA rfl (ao3 h h0)) ?_;apply aL 13 [2,0] m;simp only[↓aC];refine⟨by omega,?_⟩;refine aB (lQ rfl rfl (aeE (by omega))) ?_;apply aL 1 [0] m;simp only[↓aC];refine aB (lG rfl rfl (by omega) acS) ?_;simp only[zz];refine abf fH (z:=.int .u64 0) (by kernel_rfl) rfl rfl rfl rfl rfl ?_;intro u g2 e_ h_ k_;replace m:=m.newB e_ h_ k_;apply aL 2 [2,0] m;simp only[↓aC];refine⟨by omega,?_⟩;refine cM m rfl rfl (Hu _ ((m.b 0 rfl).nat (os:=[n.natAbs%4294967296,n.natAbs / 4294967296]) (Rg (by omega)) rfl (by omega)) (by simp)) ?_;rintro v u m rfl;apply kP 3 [1] m;simp only[↓aC,jZ,aa];intro u m;refine aT rfl ⟨_,rfl,((m.b 1 rfl).full eN aV)⟩ ?_;try simp only[zD,zE]
  exact⟨_,rfl,m.ext,by rw[Wd,show false=gW n from (decide_eq_false (by omega)).symm,abl];rfl⟩
end Go.Proofs.YtfekpcimgncioaaGreatDoor
namespace Go.Proofs.YtfekpcimgncioaaGreatDoor
open Go.Proofs.Tryz
open Go.RowKit Go.Lith
set_option maxRecDepth 100000
attribute [local irreducible] au cu fA Code.wp
end Go.Proofs.YtfekpcimgncioaaGreatDoor
namespace Go.Proofs.YtfekpcimgncioaaGreatDoor
open Go.Proofs.Tryz
open Go.RowKit Go.Lith
set_option maxRecDepth 100000
attribute [local irreducible] au cu fA bF cG Code.wp
attribute [local congr] nO fK fM fN fO fP iY fQ fR fS fT fU fV fW fX fY fZ gA dX dY gB gC gE gF gG jA cQ cR cE cP gD iZ dZ eA eB gH gI jD
variable{q u a c d:P3}{t:T3}
theorem asE{p:P3}:fF prog 276 [pt p] (.int .i64 p.x):=by
 intro w;refine⟨aid,?_⟩;have m:=Mem.refl w
 go_enter func276,ntmps276
 apply mR 12 [0] m;simp only[↓aC,ajf,eR,aa];intro g1 u m;exact aT rfl rfl ⟨_,rfl,m.ext,rfl⟩
theorem asF{p:P3}:fF prog 277 [pt p] (.int .i64 p.y):=by
 intro w;refine⟨aie,?_⟩;have m:=Mem.refl w
 go_enter func277,ntmps277
 apply mR 12 [0] m;simp only[↓aC,ajg,eR,aa];intro g1 u m;exact aT rfl rfl ⟨_,rfl,m.ext,rfl⟩
theorem asG{p:P3}:fF prog 278 [pt p] (.int .i64 p.z):=by
 intro w;refine⟨aif,?_⟩;have m:=Mem.refl w
 go_enter func278,ntmps278
 apply mR 12 [0] m;simp only[↓aC,ajh,eR,aa];intro g1 u m;exact aT rfl rfl ⟨_,rfl,m.ext,rfl⟩
theorem aqF  : fF prog 195 [] (.agg #[.func (.func 276) #[] #[],.func (.func 277) #[] #[],.func (.func 278) #[] #[]]):=by
 intro w;refine⟨aic,?_⟩;have m:=Mem.refl w
 go_enter func195,ntmps195
 apply mR 10 [0] m;simp only[↓aC,apL,apM,apK,aa];intro g1 u m;exact aT rfl ⟨_,rfl,((m.b 0 rfl).full aeS Lu)⟩ ⟨_,rfl,m.ext,rfl⟩
theorem akf  : fF prog 336 [.int .i64 0] (.tuple #[.int .i64 1,.int .i64 2]):=by
 intro w;refine⟨adc,?_⟩;have m:=Mem.refl w
 go_enter func336,ntmps336
 apply fG 9 [0] m;simp only[↓aC,am];refine⟨by omega,?_⟩;refine aB (cL (m:=1) (n:=3) (r:=1) rfl rfl (by decide) (by decide)) ?_;apply aL 2 [0] m;simp only[↓aC,am];refine⟨by omega,?_⟩;refine aB (cL (m:=2) (n:=3) (r:=2) rfl rfl (by decide) (by decide)) ?_;apply aL 4 [] m;simp only[↓aC];exact Ck rfl rfl rfl ⟨_,rfl,m.ext,rfl⟩
theorem akg  : fF prog 336 [.int .i64 1] (.tuple #[.int .i64 2,.int .i64 0]):=by
 intro w;refine⟨adc,?_⟩;have m:=Mem.refl w
 go_enter func336,ntmps336
 apply fG 9 [0] m;simp only[↓aC,am];refine⟨by omega,?_⟩;refine aB (cL (m:=2) (n:=3) (r:=2) rfl rfl (by decide) (by decide)) ?_;apply aL 2 [0] m;simp only[↓aC,am];refine⟨by omega,?_⟩;refine aB (cL (m:=3) (n:=3) (r:=0) rfl rfl (by decide) (by decide)) ?_;apply aL 4 [] m;simp only[↓aC];exact Ck rfl rfl rfl ⟨_,rfl,m.ext,rfl⟩
theorem akh  : fF prog 336 [.int .i64 2] (.tuple #[.int .i64 0,.int .i64 1]):=by
 intro w;refine⟨adc,?_⟩;have m:=Mem.refl w
 go_enter func336,ntmps336
 apply fG 9 [0] m;simp only[↓aC,am];refine⟨by omega,?_⟩;refine aB (cL (m:=3) (n:=3) (r:=0) rfl rfl (by decide) (by decide)) ?_;apply aL 2 [0] m;simp only[↓aC,am];refine⟨by omega,?_⟩;refine aB (cL (m:=4) (n:=3) (r:=1) rfl rfl (by decide) (by decide)) ?_;apply aL 4 [] m;simp only[↓aC];exact Ck rfl rfl rfl ⟨_,rfl,m.ext,rfl⟩
theorem nH{p:P3}[I3 p][I3 q]:fF prog 223 [pt p,pt q] (wv (q.sub p)):=by
 intro w;refine⟨bP func223 (by kernel_rfl),?_⟩;have m:=Mem.refl w
 go_enter func223,ntmps223
 apply mR 13 [0] m;simp only[↓aC,ajk];intro g1 g2 g3 g4 u m;refine wA m rfl rfl aqF 17 [4,1,0] ?_;simp only[↓aC];refine⟨by omega,?_⟩;intro u m;refine aB (Gl rfl rfl) ?_;apply aL 3 [0] m;simp only[↓aC];refine dA m 11 aD (by kernel_rfl) ?_;simp only[zy];refine eT 3 [2] ?_;simp only[↓aC,aU];refine jJ rfl rfl asE ?_;simp only[zz];refine jJ rfl rfl (qK Iw.h) (aI aG ?_);simp only[zz];refine ql rfl (fun u m=>((m.b 3 rfl).full aH aA)) ?_;simp only[zz];refine jJ rfl rfl asE ?_;simp only[zz];refine jJ rfl rfl (qK Iw.h) ?_;simp only[zz];refine jJ rfl rfl (Gv Bw.up Bw.up) (eT 1 [] ?_);simp only[↓aC,oZ,ad,ah,aa];refine⟨by omega,?_⟩;refine bE ?_;intro u m;refine cU m 0 rfl rfl rfl aV (kG rfl) rfl ?_;intro u m;simp only[zy,zx,over,zF,zG,aa] at m;refine aN ?_;apply aW 18 [1,0] m;simp only[↓aC,am];refine⟨by omega,?_⟩;refine aB (Gm rfl rfl) ?_;apply aL 3 [0] m;simp only[↓aC];refine dA m 11 aD (by kernel_rfl) ?_;simp only[zy];refine eT 3 [2] ?_;simp only[↓aC,aU];refine jJ rfl rfl asF ?_;simp only[zz];refine jJ rfl rfl (qK Iw.h) (aI aG ?_);simp only[zz];refine ql rfl (fun u m=>((m.b 3 rfl).full aH aA)) ?_;simp only[zz];refine jJ rfl rfl asF ?_;simp only[zz];refine jJ rfl rfl (qK Iw.h) ?_;simp only[zz];refine jJ rfl rfl (Gv Bw.up Bw.up) (eT 1 [] ?_);simp only[↓aC,oZ,ad,ah,aa];refine⟨by omega,?_⟩;refine bE ?_;intro u m;refine cU m 0 rfl rfl rfl aV (kG rfl) rfl ?_;intro u m;simp only[zy,zx,over,zF,zG,aa] at m;refine aN ?_;apply aW 18 [1,0] m;simp only[↓aC,am];refine⟨by omega,?_⟩;refine aB (Gn rfl rfl) ?_;apply aL 3 [0] m;simp only[↓aC];refine dA m 11 aD (by kernel_rfl) ?_;simp only[zy];refine eT 3 [2] ?_;simp only[↓aC,aU];refine jJ rfl rfl asG ?_;simp only[zz];refine jJ rfl rfl (qK Iw.h) (aI aG ?_);simp only[zz];refine ql rfl (fun u m=>((m.b 3 rfl).full aH aA)) ?_;simp only[zz];refine jJ rfl rfl asG ?_;simp only[zz];refine jJ rfl rfl (qK Iw.h) ?_;simp only[zz];refine jJ rfl rfl (Gv Bw.up Bw.up) (eT 1 [] ?_);simp only[↓aC,oZ,ad,ah,aa];refine⟨by omega,?_⟩;refine bE ?_;intro u m;refine cU m 0 rfl rfl rfl aV (kG rfl) rfl ?_;intro u m;simp only[zy,zx,over,zF,zG,aa] at m;refine aN ?_;apply Wy 19 [2,0,1] m;simp only[↓aC,ajj,am,aa];refine⟨by omega,?_⟩;intro u m;exact aT rfl ⟨_,rfl,((m.b 1 rfl).full aeT Wn)⟩ ⟨_,rfl,m.ext,rfl⟩
theorem Bf{v:P3}(hu:Bv 400000 u)(hv:Bv 400000 v):fF prog 302 [wv u,wv v] (wv (u.cross v)):=by
 intro w;refine⟨bP func302 (by kernel_rfl),?_⟩;have m:=Mem.refl w
 go_enter func302,ntmps302
 apply mR 35 [4,1,0] m;simp only[↓aC,ajk];intro g1 g2 g3 g4;refine⟨by omega,?_⟩;intro u m;refine wA m rfl rfl akf 6 [0] ?_;simp only[↓aC];intro u m;refine dA m 17 aD (by kernel_rfl) ?_;simp only[zy];refine eT 7 [3,2] ?_;simp only[↓aC,oZ,jZ,ad,ah,aa];refine⟨by omega,?_⟩;refine jJ rfl rfl (tK Bw.up Bw.up) (eT 6 [3,2] ?_);simp only[↓aC,oZ,jZ,ad,ah,aa];refine⟨by omega,?_⟩;refine jJ rfl rfl (tK Bw.up Bw.up) ?_;simp only[zz];refine jJ rfl rfl (Gv Bw.up Bw.up) (eT 1 [] ?_);simp only[↓aC,oZ,ad,ah,aa];refine⟨by omega,?_⟩;refine bE ?_;intro u m;refine cU m 0 rfl rfl rfl aV (kG rfl) rfl ?_;intro u m;simp only[zy,zx,over,zF,zG,aa] at m;refine aN ?_;apply aW 23 [1,0] m;simp only[↓aC,am];refine⟨by omega,?_⟩;refine wA m rfl rfl akg 6 [0] ?_;simp only[↓aC];intro u m;refine dA m 17 aD (by kernel_rfl) ?_;simp only[zy];refine eT 7 [3,2] ?_;simp only[↓aC,oZ,jZ,ad,ah,aa];refine⟨by omega,?_⟩;refine jJ rfl rfl (tK Bw.up Bw.up) (eT 6 [3,2] ?_);simp only[↓aC,oZ,jZ,ad,ah,aa];refine⟨by omega,?_⟩;refine jJ rfl rfl (tK Bw.up Bw.up) ?_;simp only[zz];refine jJ rfl rfl (Gv Bw.up Bw.up) (eT 1 [] ?_);simp only[↓aC,oZ,ad,ah,aa];refine⟨by omega,?_⟩;refine bE ?_;intro u m;refine cU m 0 rfl rfl rfl aV (kG rfl) rfl ?_;intro u m;simp only[zy,zx,over,zF,zG,aa] at m;refine aN ?_;apply aW 23 [1,0] m;simp only[↓aC,am];refine⟨by omega,?_⟩;refine wA m rfl rfl akh 6 [0] ?_;simp only[↓aC];intro u m;refine dA m 17 aD (by kernel_rfl) ?_;simp only[zy];refine eT 7 [3,2] ?_;simp only[↓aC,oZ,jZ,ad,ah,aa];refine⟨by omega,?_⟩;refine jJ rfl rfl (tK Bw.up Bw.up) (eT 6 [3,2] ?_);simp only[↓aC,oZ,jZ,ad,ah,aa];refine⟨by omega,?_⟩;refine jJ rfl rfl (tK Bw.up Bw.up) ?_;simp only[zz];refine jJ rfl rfl (Gv Bw.up Bw.up) (eT 1 [] ?_);simp only[↓aC,oZ,ad,ah,aa];refine⟨by omega,?_⟩;refine bE ?_;intro u m;refine cU m 0 rfl rfl rfl aV (kG rfl) rfl ?_;intro u m;simp only[zy,zx,over,zF,zG,aa] at m;refine aN ?_;apply Wy 19 [2,0,1] m;simp only[↓aC,ajj,am,aa];refine⟨by omega,?_⟩;intro u m;exact aT rfl ⟨_,rfl,((m.b 1 rfl).full aeT Wn)⟩ ⟨_,rfl,m.ext,rfl⟩
theorem aqG{b:Int}(hb:Bd 1000000 b):fF prog 121 [.agg #[.bool false,.string ⟨#[]⟩],W b] (W (0+b)):=by
 rw[←Zh];exact Yf (Pm _) hb
theorem Ou{v:P3}(hu:Bv 400000 u)(hv:Bv 400000 v):fF prog 224 [wv u,wv v] (W (u.dot v)):=by
 intro w;refine⟨bP func224 (by kernel_rfl),?_⟩;have m:=Mem.refl w
 go_enter func224,ntmps224
 apply mR 32 [4,1,0] m;simp only[↓aC,vN];intro g1 g2 g3 g4;refine⟨by omega,?_⟩;intro u m;refine dA m 9 aD (by kernel_rfl) ?_;simp only[zy];refine eT 7 [0,3,2] ?_;simp only[↓aC,jZ,oZ,ad,ah,aa];refine⟨by omega,?_⟩;refine jJ rfl rfl (tK Bw.up Bw.up) ?_;simp only[zz];refine jJ rfl rfl (aqG Bw.up) (bE ?_);intro u m;simp only[zz];refine cU m 0 rfl rfl rfl aV (kG rfl) rfl ?_;intro u m;simp only[zy,zx,over,zF,zG,aa] at m;refine aN ?_;apply aW 20 [1,0] m;simp only[↓aC,am];refine⟨by omega,?_⟩;refine dA m 9 aD (by kernel_rfl) ?_;simp only[zy];refine eT 7 [0,3,2] ?_;simp only[↓aC,jZ,oZ,ad,ah,aa];refine⟨by omega,?_⟩;refine jJ rfl rfl (tK Bw.up Bw.up) ?_;simp only[zz];refine jJ rfl rfl (Yf Bw.up Bw.up) (bE ?_);intro u m;simp only[zz];refine cU m 0 rfl rfl rfl aV (kG rfl) rfl ?_;intro u m;simp only[zy,zx,over,zF,zG,aa] at m;refine aN ?_;apply aW 20 [1,0] m;simp only[↓aC,am];refine⟨by omega,?_⟩;refine dA m 9 aD (by kernel_rfl) ?_;simp only[zy];refine eT 7 [0,3,2] ?_;simp only[↓aC,jZ,oZ,ad,ah,aa];refine⟨by omega,?_⟩;refine jJ rfl rfl (tK Bw.up Bw.up) ?_;simp only[zz];refine jJ rfl rfl (Yf Bw.up Bw.up) (bE ?_);intro u m;simp only[zz];refine cU m 0 rfl rfl rfl aV (kG rfl) rfl ?_;intro u m;simp only[zy,zx,over,zF,zG,aa] at m;refine aN ?_;apply Wy 19 [2,0,1] m;simp only[↓aC,jZ,am,aa];refine⟨by omega,?_⟩;intro u m;refine aT rfl ⟨_,rfl,((m.b 1 rfl).full eN aV)⟩ ?_;try simp only[zD,zE]
 exact⟨_,rfl,m.ext,by rw[←P3.dot0];rfl⟩
theorem Tz[IT t]:fF prog 239 [tr t] (wv t.normal):=by
 intro w;refine⟨bP func239 (by kernel_rfl),?_⟩;have m:=Mem.refl w
 go_enter func239,ntmps239
 apply mR 6 [0] m;simp only[↓aC,aji];intro g1 g2 u m;refine dA m 11 aD (by kernel_rfl) ?_;simp only[zy];refine eT 4 [1,1] ?_;simp only[↓aC,dD,aU,ad,ah,aa];refine⟨by omega,?_⟩;refine jJ rfl rfl nH (eT 4 [1,1] ?_);simp only[↓aC,dD,aU,ad,ah,aa];refine⟨by omega,?_⟩;refine jJ rfl rfl nH ?_;simp only[zz];refine jJ rfl rfl (Bf Bv.of Bv.of) (bE ?_);intro u m;simp only[zz];refine cU m 0 rfl rfl rfl Wm (kG rfl) rfl ?_;intro u m;simp only[zy,zx,over,zF,zG,aa] at m;refine aN ?_;apply aW 1 [] m;simp only[↓aC];exact aT rfl ⟨_,rfl,((m.b 0 rfl).full al0 Wm)⟩ ⟨_,rfl,m.ext,rfl⟩
theorem oQ{X:Nat}(w:aj)(hX64:X<18446744073709551616):dK prog 255 [.int .u64 X] w (fun v _=>∃n:Int,v=.int .i64 n∧0≤n∧n≤64∧(n≤18→X<262144)):=by
 refine⟨bP func255 (by kernel_rfl),?_⟩;have m:=Mem.refl w
 go_enter func255,ntmps255
 apply fG 10 [0,0] m;simp only[↓aC];refine bA rfl ?_ ?_<;>intro hc1
 ·
  apply aK 3 [0] m;simp only[↓aC];refine aB (lG rfl rfl (by omega) acS) ?_;apply aL 11 [0,0] m;simp only[↓aC];refine bA rfl ?_ ?_<;>intro hc2
  ·
   apply aK 3 [0] m;simp only[↓aC];refine aB (lG rfl rfl (by omega) ahV) ?_;apply aL 13 [0,0] m;simp only[↓aC,am];refine⟨by omega,?_⟩;refine bA rfl ?_ ?_<;>intro hc3
   ·
    apply aK 3 [0] m;simp only[↓aC];refine aB (lG rfl rfl (by omega) aeI) ?_;apply aL 12 [0] m;simp only[↓aC,Ea,sW,am];refine⟨by omega,?_⟩;refine Cy sB (by kernel_rfl) rfl (by omega) ?_;intro b hb8 hb2;simp only[Ch,rW,wG,iw,iv,fy,gq];apply aL 5 [] m;simp only[↓aC,sW,uE];refine⟨by omega,?_⟩;exact aT rfl rfl ⟨_,rfl,m.ext,_,rfl,by omega,by omega,by omega⟩
   ·
    apply aK 6 [0] m;simp only[↓aC,Ea,sW];refine⟨by omega,?_⟩;refine Cy sB (by kernel_rfl) rfl (by omega) ?_;intro b hb8 hb2;simp only[Ch,rW,wG,iw,iv,fy,gq];apply aL 5 [] m;simp only[↓aC,sW,uE];refine⟨by omega,?_⟩;exact aT rfl rfl ⟨_,rfl,m.ext,_,rfl,by omega,by omega,by omega⟩
  ·
   apply aK 7 [0,0] m;simp only[↓aC];refine bA rfl ?_ ?_<;>intro hc3
   ·
    apply aK 3 [0] m;simp only[↓aC];refine aB (lG rfl rfl (by omega) aeI) ?_;apply aL 12 [0] m;simp only[↓aC,Ea,sW,am];refine⟨by omega,?_⟩;refine Cy sB (by kernel_rfl) rfl (by omega) ?_;intro b hb8 hb2;simp only[Ch,rW,wG,iw,iv,fy,gq];apply aL 5 [] m;simp only[↓aC,sW,uE];refine⟨by omega,?_⟩;exact aT rfl rfl ⟨_,rfl,m.ext,_,rfl,by omega,by omega,by omega⟩
   ·
    apply aK 6 [0] m;simp only[↓aC,Ea,sW];refine⟨by omega,?_⟩;refine Cy sB (by kernel_rfl) rfl (by omega) ?_;intro b hb8 hb2;simp only[Ch,rW,wG,iw,iv,fy,gq];apply aL 5 [] m;simp only[↓aC,sW,uE];refine⟨by omega,?_⟩;exact aT rfl rfl ⟨_,rfl,m.ext,_,rfl,by omega,by omega,by omega⟩
 ·
  apply aK 7 [0,0] m;simp only[↓aC];refine bA rfl ?_ ?_<;>intro hc2
  ·
   apply aK 3 [0] m;simp only[↓aC];refine aB (lG rfl rfl (by omega) ahV) ?_;apply aL 13 [0,0] m;simp only[↓aC,am];refine⟨by omega,?_⟩;refine bA rfl ?_ ?_<;>intro hc3
   ·
    apply aK 3 [0] m;simp only[↓aC];refine aB (lG rfl rfl (by omega) aeI) ?_;apply aL 12 [0] m;simp only[↓aC,Ea,sW,am];refine⟨by omega,?_⟩;refine Cy sB (by kernel_rfl) rfl (by omega) ?_;intro b hb8 hb2;simp only[Ch,rW,wG,iw,iv,fy,gq];apply aL 5 [] m;simp only[↓aC,sW,uE];refine⟨by omega,?_⟩;exact aT rfl rfl ⟨_,rfl,m.ext,_,rfl,by omega,by omega,by omega⟩
   ·
    apply aK 6 [0] m;simp only[↓aC,Ea,sW];refine⟨by omega,?_⟩;refine Cy sB (by kernel_rfl) rfl (by omega) ?_;intro b hb8 hb2;simp only[Ch,rW,wG,iw,iv,fy,gq];apply aL 5 [] m;simp only[↓aC,sW,uE];refine⟨by omega,?_⟩;exact aT rfl rfl ⟨_,rfl,m.ext,_,rfl,by omega,by omega,by omega⟩
  ·
   apply aK 7 [0,0] m;simp only[↓aC];refine bA rfl ?_ ?_<;>intro hc3
   ·
    apply aK 3 [0] m;simp only[↓aC];refine aB (lG rfl rfl (by omega) aeI) ?_;apply aL 12 [0] m;simp only[↓aC,Ea,sW,am];refine⟨by omega,?_⟩;refine Cy sB (by kernel_rfl) rfl (by omega) ?_;intro b hb8 hb2;simp only[Ch,rW,wG,iw,iv,fy,gq];apply aL 5 [] m;simp only[↓aC,sW,uE];refine⟨by omega,?_⟩;exact aT rfl rfl ⟨_,rfl,m.ext,_,rfl,by omega,by omega,by omega⟩
   ·
    apply aK 6 [0] m;simp only[↓aC,Ea,sW];refine⟨by omega,?_⟩;refine Cy sB (by kernel_rfl) rfl (by omega) ?_;intro b hb8 hb2;simp only[Ch,rW,wG,iw,iv,fy,gq];apply aL 5 [] m;simp only[↓aC,sW,uE];refine⟨by omega,?_⟩;exact aT rfl rfl ⟨_,rfl,m.ext,_,rfl,by omega,by omega,by omega⟩
theorem qL{p:P3}[hp:S3 p][hq:S3 q]:fF prog 299 [pt p,pt q] (nv (q.sub p)):=by
 intro w;refine⟨bP func299 (by kernel_rfl),?_⟩;have m:=Mem.refl w;have:=hp.x;have:=hp.y;have:=hp.z;have:=hq.x;have:=hq.y;have:=hq.z
 go_enter func299,ntmps299
 apply mR 27 [1,2,1,2,1,2,0] m;simp only[↓aC,ajm,kH,eR,kI,lE,apV,ajl,aa];intro g1 g2 g3;refine⟨by omega,?_⟩;intro u m;exact aT rfl ⟨_,rfl,((m.b 0 rfl).full aeU Wo)⟩ ⟨_,rfl,m.ext,rfl⟩
theorem Gw{v:P3}(hu:N3 u)(hv:N3 v):fF prog 300 [nv u,nv v] (nv (u.cross v)):=by
 intro w;refine⟨bP func300 (by kernel_rfl),?_⟩;have m:=Mem.refl w
 go_enter func300,ntmps300
 apply mR 35 [4,1,0] m;simp only[↓aC,ajm];intro g1 g2 g3 g4;refine⟨by omega,?_⟩;intro u m;refine wA m rfl rfl akf 6 [0] ?_;simp only[↓aC];intro u m;refine dA m 17 aD (by kernel_rfl) ?_;simp only[zy];refine eT 7 [3,2] ?_;simp only[↓aC,sX,eR,ad,ah,aa];refine⟨by omega,?_⟩;refine aI (tC rfl rfl (We (Br hu.y hv.z))) (eT 6 [3,2] ?_);simp only[↓aC,sX,eR,ad,ah,aa];refine⟨by omega,?_⟩;refine aI (tC rfl rfl (We (Br hu.z hv.y))) (aI (Gd rfl rfl (ao7 (Br hu.y hv.z) (Br hu.z hv.y))) ?_);refine eT 1 [] ?_;simp only[↓aC,sX,ad,ah,aa];refine⟨by omega,?_⟩;refine bE ?_;intro u m;refine cX m 0 rfl rfl rfl bD (kG rfl) ⟨rfl,rfl⟩ ?_;intro u m;simp only[zz,zy,zx,over,aa] at m;refine aN ?_;apply aW 23 [1,0] m;simp only[↓aC,am];refine⟨by omega,?_⟩;refine wA m rfl rfl akg 6 [0] ?_;simp only[↓aC];intro u m;refine dA m 17 aD (by kernel_rfl) ?_;simp only[zy];refine eT 7 [3,2] ?_;simp only[↓aC,sX,eR,ad,ah,aa];refine⟨by omega,?_⟩;refine aI (tC rfl rfl (We (Br hu.z hv.x))) (eT 6 [3,2] ?_);simp only[↓aC,sX,eR,ad,ah,aa];refine⟨by omega,?_⟩;refine aI (tC rfl rfl (We (Br hu.x hv.z))) (aI (Gd rfl rfl (ao7 (Br hu.z hv.x) (Br hu.x hv.z))) ?_);refine eT 1 [] ?_;simp only[↓aC,sX,ad,ah,aa];refine⟨by omega,?_⟩;refine bE ?_;intro u m;refine cX m 0 rfl rfl rfl bD (kG rfl) ⟨rfl,rfl⟩ ?_;intro u m;simp only[zz,zy,zx,over,aa] at m;refine aN ?_;apply aW 23 [1,0] m;simp only[↓aC,am];refine⟨by omega,?_⟩;refine wA m rfl rfl akh 6 [0] ?_;simp only[↓aC];intro u m;refine dA m 17 aD (by kernel_rfl) ?_;simp only[zy];refine eT 7 [3,2] ?_;simp only[↓aC,sX,eR,ad,ah,aa];refine⟨by omega,?_⟩;refine aI (tC rfl rfl (We (Br hu.x hv.y))) (eT 6 [3,2] ?_);simp only[↓aC,sX,eR,ad,ah,aa];refine⟨by omega,?_⟩;refine aI (tC rfl rfl (We (Br hu.y hv.x))) (aI (Gd rfl rfl (ao7 (Br hu.x hv.y) (Br hu.y hv.x))) ?_);refine eT 1 [] ?_;simp only[↓aC,sX,ad,ah,aa];refine⟨by omega,?_⟩;refine bE ?_;intro u m;refine cX m 0 rfl rfl rfl bD (kG rfl) ⟨rfl,rfl⟩ ?_;intro u m;simp only[zz,zy,zx,over,aa] at m;refine aN ?_;apply Wy 19 [2,0,1] m;simp only[↓aC,ajl,am,aa];refine⟨by omega,?_⟩;intro u m;exact aT rfl ⟨_,rfl,((m.b 1 rfl).full aeU Wo)⟩ ⟨_,rfl,m.ext,rfl⟩
theorem aaM{n:Int}:fF prog 301 [.int .i64 n] (.int .i64 (bS n)):=by
 intro w;refine⟨bP func301 (by kernel_rfl),?_⟩;have m:=Mem.refl w
 go_enter func301,ntmps301
 apply fG 12 [0,0] m;simp only[↓aC];refine bA rfl ?_ ?_<;>intro hc1
 ·
  apply aK 5 [] m;simp only[↓aC];refine aT rfl rfl ?_;try simp only[zD,zE]
  exact⟨_,rfl,m.ext,by rw[Wb (by assumption)]⟩
 ·
  apply aK 6 [0,0] m;simp only[↓aC];refine bA rfl ?_ ?_<;>intro hc2
  ·
   apply aK 5 [] m;simp only[↓aC];refine aT rfl rfl ?_;try simp only[zD,zE]
   exact⟨_,rfl,m.ext,by rw[Wc (by assumption)]⟩
  ·
   apply aK 7 [] m;simp only[↓aC];refine aT rfl rfl ?_;try simp only[zD,zE]
   exact⟨_,rfl,m.ext,by rw[show n=0 by omega];rfl⟩
theorem Yg{b:P3}[I3 a][I3 b][I3 c][I3 d]{g0:Nat}(w:aj)(hB0:gT w g0 [.int .i64 a.x,.int .i64 a.y,.int .i64 a.z,.int .i64 b.x,.int .i64 b.y,.int .i64 b.z,.int .i64 c.x,.int .i64 c.y,.int .i64 c.z,.int .i64 d.x,.int .i64 d.y,.int .i64 d.z] 30):dK prog 298 [.slice (some ⟨g0,0,none⟩) 4 4] w (fun v _=>∃bo:Bool,v=.bool bo∧(bo=true→S3 a∧S3 b∧S3 c∧S3 d)):=by
 refine⟨bP func298 (by kernel_rfl),?_⟩;have m:=Mem.refl w
 go_enter func298,ntmps298
 apply fG 25 [5,1,0] m;simp only[↓aC,lC];refine⟨by omega,?_⟩;refine aB (aF eK aA rfl rfl (by decide) (by decide) rfl) ?_;simp only[zz];refine aR rfl ((hB0.ext m.ext).lies aH aA rfl rfl) ?_;simp only[zz,zy,ar,aa,ah,ad];apply kP 28 [0,0,0,0,4,1,0] m;simp only[↓aC,gM,aU,kH,eR,kI,lE,yE,aa];intro g1;refine⟨by omega,?_⟩;intro u m;refine aB (jN rfl rfl) ?_;apply aL 6 [0] m;simp only[↓aC];refine aB (wH rfl rfl) (aB (xR rfl rfl rfl) (aB (mU nW lA rfl (Bn Iw.h)) ?_));simp only[zz];refine cM m rfl rfl (oQ (X:=(a.x).natAbs) _ (by have:=(Iw.h:rN a.x).natAbs;omega)) ?_;rintro v u m ⟨n,rfl,hn0,hn1,hax⟩;apply aL 2 [0,0] m;simp only[↓aC];refine bA rfl ?_ ?_<;>intro hc3
 ·
  apply aK 5 [] m;simp only[↓aC];exact aT rfl rfl ⟨_,rfl,m.ext,false,rfl,fun h=>by cases h⟩
 ·
  replace hax:=hax (by omega);clear hc3 hn0 hn1;apply aK 18 [1,0] m;simp only[↓aC,am];refine⟨by omega,?_⟩;refine aB (jO rfl rfl) ?_;apply aL 6 [0] m;simp only[↓aC];refine aB (wH rfl rfl) (aB (xR rfl rfl rfl) (aB (mU nW lA rfl (Bn Iw.h)) ?_));simp only[zz];refine cM m rfl rfl (oQ (X:=(a.y).natAbs) _ (by have:=(Iw.h:rN a.y).natAbs;omega)) ?_;rintro v u m ⟨n,rfl,hn0,hn1,hay⟩;apply aL 2 [0,0] m;simp only[↓aC];refine bA rfl ?_ ?_<;>intro hc3
  ·
   apply aK 5 [] m;simp only[↓aC];exact aT rfl rfl ⟨_,rfl,m.ext,false,rfl,fun h=>by cases h⟩
  ·
   replace hay:=hay (by omega);clear hc3 hn0 hn1;apply aK 18 [1,0] m;simp only[↓aC,am];refine⟨by omega,?_⟩;refine aB (jP rfl rfl) ?_;apply aL 6 [0] m;simp only[↓aC];refine aB (wH rfl rfl) (aB (xR rfl rfl rfl) (aB (mU nW lA rfl (Bn Iw.h)) ?_));simp only[zz];refine cM m rfl rfl (oQ (X:=(a.z).natAbs) _ (by have:=(Iw.h:rN a.z).natAbs;omega)) ?_;rintro v u m ⟨n,rfl,hn0,hn1,haz⟩;apply aL 2 [0,0] m;simp only[↓aC];refine bA rfl ?_ ?_<;>intro hc3
   ·
    apply aK 5 [] m;simp only[↓aC];exact aT rfl rfl ⟨_,rfl,m.ext,false,rfl,fun h=>by cases h⟩
   ·
    replace haz:=haz (by omega);clear hc3 hn0 hn1;apply aK 31 [2,1,0] m;simp only[↓aC,am];refine⟨by omega,?_⟩;refine aB (aF eK aA rfl rfl (by decide) (by decide) rfl) ?_;simp only[zz];refine aR rfl ((hB0.ext m.ext).lies aH aA rfl rfl) ?_;simp only[zz,zy,ar,aa,ah,ad];apply kP 28 [0,0,0,0,4,1,0] m;simp only[↓aC,gM,aU,kH,eR,kI,lE,yE,aa];intro g2;refine⟨by omega,?_⟩;intro u m;refine aB (jN rfl rfl) ?_;apply aL 6 [0] m;simp only[↓aC];refine aB (wH rfl rfl) (aB (xR rfl rfl rfl) (aB (mU nW lA rfl (Bn Iw.h)) ?_));simp only[zz];refine cM m rfl rfl (oQ (X:=(b.x).natAbs) _ (by have:=(Iw.h:rN b.x).natAbs;omega)) ?_;rintro v u m ⟨n,rfl,hn0,hn1,hbx⟩;apply aL 2 [0,0] m;simp only[↓aC];refine bA rfl ?_ ?_<;>intro hc3
    ·
     apply aK 5 [] m;simp only[↓aC];exact aT rfl rfl ⟨_,rfl,m.ext,false,rfl,fun h=>by cases h⟩
    ·
     replace hbx:=hbx (by omega);clear hc3 hn0 hn1;apply aK 18 [1,0] m;simp only[↓aC,am];refine⟨by omega,?_⟩;refine aB (jO rfl rfl) ?_;apply aL 6 [0] m;simp only[↓aC];refine aB (wH rfl rfl) (aB (xR rfl rfl rfl) (aB (mU nW lA rfl (Bn Iw.h)) ?_));simp only[zz];refine cM m rfl rfl (oQ (X:=(b.y).natAbs) _ (by have:=(Iw.h:rN b.y).natAbs;omega)) ?_;rintro v u m ⟨n,rfl,hn0,hn1,hby⟩;apply aL 2 [0,0] m;simp only[↓aC];refine bA rfl ?_ ?_<;>intro hc3
     ·
      apply aK 5 [] m;simp only[↓aC];exact aT rfl rfl ⟨_,rfl,m.ext,false,rfl,fun h=>by cases h⟩
     ·
      replace hby:=hby (by omega);clear hc3 hn0 hn1;apply aK 18 [1,0] m;simp only[↓aC,am];refine⟨by omega,?_⟩;refine aB (jP rfl rfl) ?_;apply aL 6 [0] m;simp only[↓aC];refine aB (wH rfl rfl) (aB (xR rfl rfl rfl) (aB (mU nW lA rfl (Bn Iw.h)) ?_));simp only[zz];refine cM m rfl rfl (oQ (X:=(b.z).natAbs) _ (by have:=(Iw.h:rN b.z).natAbs;omega)) ?_;rintro v u m ⟨n,rfl,hn0,hn1,hbz⟩;apply aL 2 [0,0] m;simp only[↓aC];refine bA rfl ?_ ?_<;>intro hc3
      ·
       apply aK 5 [] m;simp only[↓aC];exact aT rfl rfl ⟨_,rfl,m.ext,false,rfl,fun h=>by cases h⟩
      ·
       replace hbz:=hbz (by omega);clear hc3 hn0 hn1;apply aK 31 [2,1,0] m;simp only[↓aC,am];refine⟨by omega,?_⟩;refine aB (aF eK aA rfl rfl (by decide) (by decide) rfl) ?_;simp only[zz];refine aR rfl ((hB0.ext m.ext).lies aH aA rfl rfl) ?_;simp only[zz,zy,ar,aa,ah,ad];apply kP 28 [0,0,0,0,4,1,0] m;simp only[↓aC,gM,aU,kH,eR,kI,lE,yE,aa];intro g3;refine⟨by omega,?_⟩;intro u m;refine aB (jN rfl rfl) ?_;apply aL 6 [0] m;simp only[↓aC];refine aB (wH rfl rfl) (aB (xR rfl rfl rfl) (aB (mU nW lA rfl (Bn Iw.h)) ?_));simp only[zz];refine cM m rfl rfl (oQ (X:=(c.x).natAbs) _ (by have:=(Iw.h:rN c.x).natAbs;omega)) ?_;rintro v u m ⟨n,rfl,hn0,hn1,hcx⟩;apply aL 2 [0,0] m;simp only[↓aC];refine bA rfl ?_ ?_<;>intro hc3
       ·
        apply aK 5 [] m;simp only[↓aC];exact aT rfl rfl ⟨_,rfl,m.ext,false,rfl,fun h=>by cases h⟩
       ·
        replace hcx:=hcx (by omega);clear hc3 hn0 hn1;apply aK 18 [1,0] m;simp only[↓aC,am];refine⟨by omega,?_⟩;refine aB (jO rfl rfl) ?_;apply aL 6 [0] m;simp only[↓aC];refine aB (wH rfl rfl) (aB (xR rfl rfl rfl) (aB (mU nW lA rfl (Bn Iw.h)) ?_));simp only[zz];refine cM m rfl rfl (oQ (X:=(c.y).natAbs) _ (by have:=(Iw.h:rN c.y).natAbs;omega)) ?_;rintro v u m ⟨n,rfl,hn0,hn1,hcy⟩;apply aL 2 [0,0] m;simp only[↓aC];refine bA rfl ?_ ?_<;>intro hc3
        ·
         apply aK 5 [] m;simp only[↓aC];exact aT rfl rfl ⟨_,rfl,m.ext,false,rfl,fun h=>by cases h⟩
        ·
         replace hcy:=hcy (by omega);clear hc3 hn0 hn1;apply aK 18 [1,0] m;simp only[↓aC,am];refine⟨by omega,?_⟩;refine aB (jP rfl rfl) ?_;apply aL 6 [0] m;simp only[↓aC];refine aB (wH rfl rfl) (aB (xR rfl rfl rfl) (aB (mU nW lA rfl (Bn Iw.h)) ?_));simp only[zz];refine cM m rfl rfl (oQ (X:=(c.z).natAbs) _ (by have:=(Iw.h:rN c.z).natAbs;omega)) ?_;rintro v u m ⟨n,rfl,hn0,hn1,hcz⟩;apply aL 2 [0,0] m;simp only[↓aC];refine bA rfl ?_ ?_<;>intro hc3
         ·
          apply aK 5 [] m;simp only[↓aC];exact aT rfl rfl ⟨_,rfl,m.ext,false,rfl,fun h=>by cases h⟩
         ·
          replace hcz:=hcz (by omega);clear hc3 hn0 hn1;apply aK 31 [2,1,0] m;simp only[↓aC,am];refine⟨by omega,?_⟩;refine aB (aF eK aA rfl rfl (by decide) (by decide) rfl) ?_;simp only[zz];refine aR rfl ((hB0.ext m.ext).lies aH aA rfl rfl) ?_;simp only[zz,zy,ar,aa,ah,ad];apply kP 28 [0,0,0,0,4,1,0] m;simp only[↓aC,gM,aU,kH,eR,kI,lE,yE,aa];intro g4;refine⟨by omega,?_⟩;intro u m;refine aB (jN rfl rfl) ?_;apply aL 6 [0] m;simp only[↓aC];refine aB (wH rfl rfl) (aB (xR rfl rfl rfl) (aB (mU nW lA rfl (Bn Iw.h)) ?_));simp only[zz];refine cM m rfl rfl (oQ (X:=(d.x).natAbs) _ (by have:=(Iw.h:rN d.x).natAbs;omega)) ?_;rintro v u m ⟨n,rfl,hn0,hn1,hdx⟩;apply aL 2 [0,0] m;simp only[↓aC];refine bA rfl ?_ ?_<;>intro hc3
          ·
           apply aK 5 [] m;simp only[↓aC];exact aT rfl rfl ⟨_,rfl,m.ext,false,rfl,fun h=>by cases h⟩
          ·
           replace hdx:=hdx (by omega);clear hc3 hn0 hn1;apply aK 18 [1,0] m;simp only[↓aC,am];refine⟨by omega,?_⟩;refine aB (jO rfl rfl) ?_;apply aL 6 [0] m;simp only[↓aC];refine aB (wH rfl rfl) (aB (xR rfl rfl rfl) (aB (mU nW lA rfl (Bn Iw.h)) ?_));simp only[zz];refine cM m rfl rfl (oQ (X:=(d.y).natAbs) _ (by have:=(Iw.h:rN d.y).natAbs;omega)) ?_;rintro v u m ⟨n,rfl,hn0,hn1,hdy⟩;apply aL 2 [0,0] m;simp only[↓aC];refine bA rfl ?_ ?_<;>intro hc3
           ·
            apply aK 5 [] m;simp only[↓aC];exact aT rfl rfl ⟨_,rfl,m.ext,false,rfl,fun h=>by cases h⟩
           ·
            replace hdy:=hdy (by omega);clear hc3 hn0 hn1;apply aK 18 [1,0] m;simp only[↓aC,am];refine⟨by omega,?_⟩;refine aB (jP rfl rfl) ?_;apply aL 6 [0] m;simp only[↓aC];refine aB (wH rfl rfl) (aB (xR rfl rfl rfl) (aB (mU nW lA rfl (Bn Iw.h)) ?_));simp only[zz];refine cM m rfl rfl (oQ (X:=(d.z).natAbs) _ (by have:=(Iw.h:rN d.z).natAbs;omega)) ?_;rintro v u m ⟨n,rfl,hn0,hn1,hdz⟩;apply aL 2 [0,0] m;simp only[↓aC];refine bA rfl ?_ ?_<;>intro hc3
            ·
             apply aK 5 [] m;simp only[↓aC];exact aT rfl rfl ⟨_,rfl,m.ext,false,rfl,fun h=>by cases h⟩
            ·
             replace hdz:=hdz (by omega);clear hc3 hn0 hn1;apply aK 32 [2,2] m;simp only[↓aC,am];refine⟨by omega,?_⟩;exact aT rfl rfl ⟨_,rfl,m.ext,true,rfl,fun _=>⟨⟨hax,hay,haz⟩,⟨hbx,hby,hbz⟩,⟨hcx,hcy,hcz⟩,⟨hdx,hdy,hdz⟩⟩⟩
theorem rU{b:P3}[I3 a][I3 b][I3 c][I3 d]:fF prog 238 [pt a,pt b,pt c,pt d] (sg ((b.sub a).cross (d.sub c))):=by
 intro w;refine⟨bP func238 (by kernel_rfl),?_⟩;have m:=Mem.refl w
 go_enter func238,ntmps238
 apply mR 19 [5,4,3,2] m;simp only[↓aC,Oj,aU];intro g1 g2 g3 g4 g5 g6 u m;refine go (Ws rfl rfl rfl rfl ?_);intro u g7 e_ h_ k_;replace m:=m.newB e_ h_ k_;simp only[zz];refine cM m rfl rfl (Yg _ (m.b 0 rfl)) ?_;rintro v u m ⟨bo,rfl,hsm⟩;apply aL 1 [0] m;simp only[↓aC];refine iK rfl ?_ ?_<;>intro hc1
 ·
  obtain⟨_,_,_,_⟩:=hsm hc1;apply aK 2 [0] m;simp only[↓aC];refine mq m aD (by kernel_rfl) (ql rfl (fun u m=>((m.b 6 rfl).full aH aA)) ?_);simp only[zz];refine ql rfl (fun u m=>((m.b 5 rfl).full aH aA)) ?_;simp only[zz];refine jJ rfl rfl qL ?_;simp only[zz];refine ql rfl (fun u m=>((m.b 4 rfl).full aH aA)) ?_;simp only[zz];refine ql rfl (fun u m=>((m.b 3 rfl).full aH aA)) ?_;simp only[zz];refine jJ rfl rfl qL ?_;simp only[zz];refine jJ rfl rfl (Gw inferInstance inferInstance) (aI aG (bE ?_));intro u m;apply aW 15 [4,1,0] m;simp only[↓aC];refine⟨by omega,?_⟩;refine aB (Vk rfl rfl) ?_;apply aL 6 [0] m;simp only[↓aC];refine wA m rfl rfl aaM 21 [1,1,0] ?_;simp only[↓aC,jE,eR,ad,ah,aa,am];refine⟨by omega,?_⟩;intro u m;refine aB (Vl rfl rfl) ?_;apply aL 6 [0] m;simp only[↓aC];refine wA m rfl rfl aaM 21 [1,1,0] ?_;simp only[↓aC,jE,eR,ad,ah,aa,am];refine⟨by omega,?_⟩;intro u m;refine aB (Vm rfl rfl) ?_;apply aL 6 [0] m;simp only[↓aC];refine wA m rfl rfl aaM 22 [1,2,1,2] ?_;simp only[↓aC,jE,eR,Dv,ad,ah,aa,am];refine⟨by omega,?_⟩;intro u m;exact aT rfl ⟨_,rfl,((m.b 2 rfl).full Zp Iy)⟩ ⟨_,rfl,m.ext,rfl⟩
 ·
  apply aK 3 [0] m;simp only[↓aC];refine mq m aD (by kernel_rfl) (ql rfl (fun u m=>((m.b 6 rfl).full aH aA)) ?_);simp only[zz];refine ql rfl (fun u m=>((m.b 5 rfl).full aH aA)) ?_;simp only[zz];refine jJ rfl rfl nH ?_;simp only[zz];refine ql rfl (fun u m=>((m.b 4 rfl).full aH aA)) ?_;simp only[zz];refine ql rfl (fun u m=>((m.b 3 rfl).full aH aA)) ?_;simp only[zz];refine jJ rfl rfl nH ?_;simp only[zz];refine jJ rfl rfl (Bf Bv.of Bv.of) (aI aG (bE ?_));intro u m;apply aW 15 [4,1,0] m;simp only[↓aC];refine⟨by omega,?_⟩;refine aB (Ve rfl rfl) ?_;apply kP 7 [0,0,0] m;simp only[↓aC,vN,jZ,aa];intro g8 u m;refine wA m rfl rfl (Nd Bw.up) 21 [2,1,0] ?_;simp only[↓aC,jE,eR,ad,ah,aa,am];refine⟨by omega,?_⟩;intro u m;refine aB (Vf rfl rfl) ?_;apply kP 7 [0,0,0] m;simp only[↓aC,vN,jZ,aa];intro g9 u m;refine wA m rfl rfl (Nd Bw.up) 21 [3,1,0] ?_;simp only[↓aC,jE,eR,ad,ah,aa,am];refine⟨by omega,?_⟩;intro u m;refine aB (Vg rfl rfl) ?_;apply kP 7 [0,0,0] m;simp only[↓aC,vN,jZ,aa];intro g10 u m;refine wA m rfl rfl (Nd Bw.up) 22 [4,2,4,5] ?_;simp only[↓aC,jE,eR,Dv,ad,ah,aa,am];refine⟨by omega,?_⟩;intro u m;exact aT rfl ⟨_,rfl,((m.b 5 rfl).full Zp Iy)⟩ ⟨_,rfl,m.ext,rfl⟩
theorem aaN[IT t]:fF prog 171 [tr t] (.bool (decide (bS t.normal.x=0∧bS t.normal.y=0∧bS t.normal.z=0))):=by
 intro w;refine⟨bP func171 (by kernel_rfl),?_⟩;have m:=Mem.refl w
 go_enter func171,ntmps171
 apply mR 15 [0,0,0,0,0] m;simp only[↓aC,dD,aU,ad,ah,aa];intro g1;refine⟨by omega,?_⟩;intro u m;refine wA m rfl rfl (rU (a:=t.a) (b:=t.b) (c:=t.a) (d:=t.c)) 1 [0] ?_;simp only[↓aC,yE,aa];intro u m;refine aB (Wp rfl rfl) ?_;apply aL 3 [] m;simp only[↓aC];exact aT rfl rfl ⟨_,rfl,m.ext,rfl⟩
theorem aki{r:T3}[IT t][IT r]:fF prog 172 [tr t,tr r] (.int .i64 (aiZ t r)):=by
 intro w;refine⟨bP func172 (by kernel_rfl),?_⟩;have m:=Mem.refl w
 go_enter func172,ntmps172
 apply mR 7 [0] m;simp only[↓aC];intro g1 g2 u m;refine mq m aD (by kernel_rfl) (ql rfl (fun u m=>((m.b 1 rfl).full cK aO)) ?_);simp only[zz];refine jJ rfl rfl Tz ?_;simp only[zz];refine ql rfl (fun u m=>((m.b 0 rfl).full cK aO)) ?_;simp only[zz];refine jJ rfl rfl Tz ?_;simp only[zz];refine jJ rfl rfl (Ou Bv.of Bv.of) ?_;simp only[zz];refine jJ rfl rfl (Nd Bw.up) (aI aP (bE ?_));intro u m;apply aW 1 [] m;simp only[↓aC];exact aT rfl rfl ⟨_,rfl,m.ext,rfl⟩
theorem aee{r:T3}{k:Nat}(hk:k<3)(h:Hm t k<Hl r k):Oh t r=false:=by
 unfold Oh agE
 match k,hk with
 | 0,_=>simp[h]
 | 1,_=>simp[h]
 | 2,_=>simp[h]
theorem aef{r:T3}{k:Nat}(hk:k<3)(h:Hm r k<Hl t k):Oh t r=false:=by
 unfold Oh agE
 match k,hk with
 | 0,_=>simp[h]
 | 1,_=>simp[h]
 | 2,_=>simp[h]
theorem aqH{r:T3}(h0:¬Hm t 0<Hl r 0)(h1:¬Hm t 1<Hl r 1)(h2:¬Hm t 2<Hl r 2)(g0:¬Hm r 0<Hl t 0)(g1:¬Hm r 1<Hl t 1)(g2:¬Hm r 2<Hl t 2):Oh t r=true:=by
 unfold Oh agE;simp[h0,h1,h2,g0,g1,g2]
theorem aqI{r:T3}:fF prog 175 [.agg #[.int .i64 (Hl t 0),.int .i64 (Hl t 1),.int .i64 (Hl t 2),.int .i64 (Hm t 0),.int .i64 (Hm t 1),.int .i64 (Hm t 2)],.agg #[.int .i64 (Hl r 0),.int .i64 (Hl r 1),.int .i64 (Hl r 2),.int .i64 (Hm r 0),.int .i64 (Hm r 1),.int .i64 (Hm r 2)]] (.bool (Oh t r)):=by
 intro w;refine⟨bP func175 (by kernel_rfl),?_⟩;have m:=Mem.refl w
 go_enter func175,ntmps175
 apply mR 29 [4,1] m;simp only[↓aC];intro g1 g2;refine⟨by omega,?_⟩;intro u m;by_cases h0:Hm t 0<Hl r 0
 ·
  refine gc (mq m aD (by kernel_rfl) ?_);refine eT 8 [1,0] ?_;simp only[↓aC,kB,jE,eR,kA,aa,ad,ah];refine⟨by omega,?_⟩;refine aI (qW rfl rfl h0) (aI aG (Ii rfl ?_));refine eT 9 [] ?_;simp only[↓aC];refine bE ?_;intro u m;apply aW 6 [] m;simp only[↓aC];refine aT rfl rfl ?_;try simp only[zD,zE]
  exact⟨_,rfl,m.ext,by rw[aee (k:=0) (by decide) h0]⟩
 ·
  refine gc (mq m aD (by kernel_rfl) ?_);refine eT 8 [1,0] ?_;simp only[↓aC,kB,jE,eR,kA,aa,ad,ah];refine⟨by omega,?_⟩;refine aI (Gy rfl rfl h0) (aI aG (bU rfl (aI aG ?_)));refine eT 9 [0,1,0] ?_;simp only[↓aC,kB,jE,eR,kA,aa,ad,ah];refine⟨by omega,?_⟩;refine bE ?_;intro u m;refine gc (bA rfl (fun hc2=>?_) (fun hc2=>?_))
  ·
   have q0:=hc2;apply aK 5 [] m;simp only[↓aC];refine aT rfl rfl ?_;try simp only[zD,zE]
   exact⟨_,rfl,m.ext,by rw[aef (k:=0) (by decide) q0]⟩
  ·
   have q0:=hc2;apply aK 22 [1] m;simp only[↓aC,am];refine⟨by omega,?_⟩;by_cases h1:Hm t 1<Hl r 1
   ·
    refine gc (mq m aD (by kernel_rfl) ?_);refine eT 8 [1,0] ?_;simp only[↓aC,kB,jE,eR,kA,aa,ad,ah];refine⟨by omega,?_⟩;refine aI (qW rfl rfl h1) (aI aG (Ii rfl ?_));refine eT 9 [] ?_;simp only[↓aC];refine bE ?_;intro u m;apply aW 6 [] m;simp only[↓aC];refine aT rfl rfl ?_;try simp only[zD,zE]
    exact⟨_,rfl,m.ext,by rw[aee (k:=1) (by decide) h1]⟩
   ·
    refine gc (mq m aD (by kernel_rfl) ?_);refine eT 8 [1,0] ?_;simp only[↓aC,kB,jE,eR,kA,aa,ad,ah];refine⟨by omega,?_⟩;refine aI (Gy rfl rfl h1) (aI aG (bU rfl (aI aG ?_)));refine eT 9 [0,1,0] ?_;simp only[↓aC,kB,jE,eR,kA,aa,ad,ah];refine⟨by omega,?_⟩;refine bE ?_;intro u m;refine gc (bA rfl (fun hc2=>?_) (fun hc2=>?_))
    ·
     have q1:=hc2;apply aK 5 [] m;simp only[↓aC];refine aT rfl rfl ?_;try simp only[zD,zE]
     exact⟨_,rfl,m.ext,by rw[aef (k:=1) (by decide) q1]⟩
    ·
     have q1:=hc2;apply aK 22 [1] m;simp only[↓aC,am];refine⟨by omega,?_⟩;by_cases h2:Hm t 2<Hl r 2
     ·
      refine gc (mq m aD (by kernel_rfl) ?_);refine eT 8 [1,0] ?_;simp only[↓aC,kB,jE,eR,kA,aa,ad,ah];refine⟨by omega,?_⟩;refine aI (qW rfl rfl h2) (aI aG (Ii rfl ?_));refine eT 9 [] ?_;simp only[↓aC];refine bE ?_;intro u m;apply aW 6 [] m;simp only[↓aC];refine aT rfl rfl ?_;try simp only[zD,zE]
      exact⟨_,rfl,m.ext,by rw[aee (k:=2) (by decide) h2]⟩
     ·
      refine gc (mq m aD (by kernel_rfl) ?_);refine eT 8 [1,0] ?_;simp only[↓aC,kB,jE,eR,kA,aa,ad,ah];refine⟨by omega,?_⟩;refine aI (Gy rfl rfl h2) (aI aG (bU rfl (aI aG ?_)));refine eT 9 [0,1,0] ?_;simp only[↓aC,kB,jE,eR,kA,aa,ad,ah];refine⟨by omega,?_⟩;refine bE ?_;intro u m;refine gc (bA rfl (fun hc2=>?_) (fun hc2=>?_))
      ·
       have q2:=hc2;apply aK 5 [] m;simp only[↓aC];refine aT rfl rfl ?_;try simp only[zD,zE]
       exact⟨_,rfl,m.ext,by rw[aef (k:=2) (by decide) q2]⟩
      ·
       have q2:=hc2;apply aK 19 [2] m;simp only[↓aC,am];refine⟨by omega,?_⟩;refine aT rfl rfl ?_;try simp only[zD,zE]
       exact⟨_,rfl,m.ext,by rw[aqH h0 h1 h2 q0 q1 q2]⟩
end Go.Proofs.YtfekpcimgncioaaGreatDoor
namespace Go.Lith
open Go.RowKit
section
variable {P:Program} {l:List ai} {T ty:av} {x y:bz} {k:IntKind} {m:Int}
theorem akj{n c:Nat}{E:av}{a:Addr}(hu:P.underlying T=some (.array n E))(hc:dH P E c)(hx:ev l x=.pointer (some a)) :
 iB P l (.slice T x none none none) ty (.slice (some a) n n):=fun w o ho _=>by
 have e:(if n=0 then a else a.add (0*c))=a:=by
  split
  · rfl
  · simp[Addr.add]
 simp[execOp,ho,cJ,hx,Instr.sliceAt,Instr.sliceBounds,Instr.sliceBound,asIntOf,cn hu,eC hc,Instr.sureAddr,e];intro _;simp[Addr.add]
theorem aeg{n c q:Nat}{E:av}{a a':Addr}(hu:P.underlying T=some (.array n E))(hc:dH P E c)(hx:ev l x=.pointer (some a))(hy:ev l y=.int k m)(hq:m.toNat=q)(h0:0≤m)(h1:m≤n)(hA:(if n=q then a else a.add (q*c))=a') :
 iB P l (.slice T x (some y) none none) ty (.slice (some a') (n-q) (n-q)):=fun w o ho _=>by
 subst hq;subst hA;simp[execOp,ho,cJ,hx,hy,Instr.sliceAt,Instr.sliceBounds,Instr.sliceBound,asIntOf,cn hu,eC hc,Instr.sureAddr,h0,h1]
theorem ag4{n len cap:Nat}{E:av}{A:Option Addr}(hu:P.underlying T=some (.array n E))(hx:ev l x=.slice A len cap)(h:n≤len) :
 iB P l (.sliceToArrayPointer T x) ty (.pointer A):=fun w o ho _=>by
 have:¬len<n:=by omega
 simp[execOp,ho,cJ,hx,Instr.arrayAt,cn hu,this]
end
end Go.Lith
namespace Go.Proofs.YtfekpcimgncioaaGreatDoor
open Go.Proofs.Tryz
open Go.RowKit Go.Lith
set_option maxRecDepth 100000
attribute [local irreducible] au cu fA bF cG Code.wp
attribute [local congr] nO fK fM fN fO fP iY fQ fR fS fT fU fV fW fX fY fZ gA dX dY gB gC gE gF gG jA cQ cR cE cP gD iZ dZ eA eB gH gI jD
theorem Nf(m n:Int):(if n<m then n else m)=min m n:=by omega
theorem Ng(m n:Int):(if m<n then n else m)=max m n:=by omega
theorem acg{t:T3}:fF prog 173 [tr t] (.agg #[.int .i64 (Hl t 0),.int .i64 (Hl t 1),.int .i64 (Hl t 2),.int .i64 (Hm t 0),.int .i64 (Hm t 1),.int .i64 (Hm t 2)]):=by
 intro w;refine⟨bP func173 (by kernel_rfl),?_⟩;have m:=Mem.refl w
 go_enter func173,ntmps173
 apply mR 14 [1,1] m;simp only[↓aC,adS,dD,kH,eR,kI,ad,ah,aa];intro g1 g2;refine⟨by omega,?_⟩;intro u m;apply aW 13 [1,1,1,1] m;simp only[↓aC,lE,eR,yE,dD,kH,kI,aa,ad,ah];refine⟨by omega,?_⟩;apply Wy 7 [0,0] m;simp only[↓aC,apJ,adS,adR,aa];intro g3 u m;refine aB (aeg cT aA rfl rfl rfl (by decide) (by decide) rfl) ?_;apply kP 27 [3,1,2,0,0] m;simp only[↓aC,reduceIte,lC,aoi,aU,gM,kH,eR,kI,Nat.reduceEqDiff,ah,aa,ad];intro g4;refine⟨by omega,?_⟩;intro u m;apply aW 21 [0,0,4,1,0] m;simp only[↓aC,eR,lE,yE,aa];refine⟨by omega,?_⟩;refine aB (jN rfl rfl) ?_;apply aL 3 [0] m;simp only[↓aC];refine iO m 1 [] [46,47,48,49,50,51,52,53,54,55,56,57,58,59,60,61,62,63] (fun vs i=>vs=[]∧i=bI g3 [.int .i64 (min t.a.x t.b.x),.int .i64 t.a.y,.int .i64 t.a.z,.int .i64 (max t.a.x t.b.x),.int .i64 t.a.y,.int .i64 t.a.z] 222) ?_ ?_
 · intro K1 hK1
   refine zvt [true,false,true,true] [[],[],[],[],[],[1],[],[],[],[],[],[1],[],[],[],[],[1],[],[],[1]] (.take 0 (.take 1 (.take 2 (.take 3 (.take 4 (.take 6 (.take 8 (.take 9 (.take 10 (.take 12 (.take 14 (.take 17 (.two 5 (.take 7 (.one 11 (.take 13 (.take 15 (.one 16 (.take 18 (.one 19 .nil))))))) 11 (.take 13 (.one 5 (.take 7 (.take 15 (.one 16 (.take 18 (.one 19 .nil)))))))))))))))))))) m aD (by kernel_rfl) (bT (fun _ _ _ _ _ h=>h)) ?_;simp only[↓aC,↓zzu,kA,jE,kB,eR,Nf,Ng,aa,ad,ah];refine⟨by omega,?_⟩;intro u m;exact gk (hK1 _ _ _ (by kernel_rfl) m ⟨rfl,(by first | rfl | trivial)⟩)
 · intro vs i wr m hI u
   obtain⟨rfl,rfl⟩:=hI;simp only[zF,zG] at m;simp only[zu,zF,zG];apply aW 18 [1,0] m;simp only[↓aC,am];refine⟨by omega,?_⟩;refine aB (jO rfl rfl) ?_;apply aL 3 [0] m;simp only[↓aC];refine iO m 1 [] [46,47,48,49,50,51,52,53,54,55,56,57,58,59,60,61,62,63] (fun vs i=>vs=[]∧i=bI g3 [.int .i64 (min t.a.x t.b.x),.int .i64 (min t.a.y t.b.y),.int .i64 t.a.z,.int .i64 (max t.a.x t.b.x),.int .i64 (max t.a.y t.b.y),.int .i64 t.a.z] 222) ?_ ?_
   · intro K2 hK2
     refine zvt [true,false,true,true] [[],[],[],[],[],[1],[],[],[],[],[],[1],[],[],[],[],[1],[],[],[1]] (.take 0 (.take 1 (.take 2 (.take 3 (.take 4 (.take 6 (.take 8 (.take 9 (.take 10 (.take 12 (.take 14 (.take 17 (.two 5 (.take 7 (.one 11 (.take 13 (.take 15 (.one 16 (.take 18 (.one 19 .nil))))))) 11 (.take 13 (.one 5 (.take 7 (.take 15 (.one 16 (.take 18 (.one 19 .nil)))))))))))))))))))) m aD (by kernel_rfl) (bT (fun _ _ _ _ _ h=>h)) ?_;simp only[↓aC,↓zzu,kA,jE,kB,eR,Nf,Ng,aa,ad,ah];refine⟨by omega,?_⟩;intro u m;exact gk (hK2 _ _ _ (by kernel_rfl) m ⟨rfl,(by first | rfl | trivial)⟩)
   · intro vs i wr m hI u
     obtain⟨rfl,rfl⟩:=hI;simp only[zF,zG] at m;simp only[zu,zF,zG];apply aW 18 [1,0] m;simp only[↓aC,am];refine⟨by omega,?_⟩;refine aB (jP rfl rfl) ?_;apply aL 3 [0] m;simp only[↓aC];refine iO m 1 [] [46,47,48,49,50,51,52,53,54,55,56,57,58,59,60,61,62,63] (fun vs i=>vs=[]∧i=bI g3 [.int .i64 (min t.a.x t.b.x),.int .i64 (min t.a.y t.b.y),.int .i64 (min t.a.z t.b.z),.int .i64 (max t.a.x t.b.x),.int .i64 (max t.a.y t.b.y),.int .i64 (max t.a.z t.b.z)] 222) ?_ ?_
     · intro K3 hK3
       refine zvt [true,false,true,true] [[],[],[],[],[],[1],[],[],[],[],[],[1],[],[],[],[],[1],[],[],[1]] (.take 0 (.take 1 (.take 2 (.take 3 (.take 4 (.take 6 (.take 8 (.take 9 (.take 10 (.take 12 (.take 14 (.take 17 (.two 5 (.take 7 (.one 11 (.take 13 (.take 15 (.one 16 (.take 18 (.one 19 .nil))))))) 11 (.take 13 (.one 5 (.take 7 (.take 15 (.one 16 (.take 18 (.one 19 .nil)))))))))))))))))))) m aD (by kernel_rfl) (bT (fun _ _ _ _ _ h=>h)) ?_;simp only[↓aC,↓zzu,kA,jE,kB,eR,Nf,Ng,aa,ad,ah];refine⟨by omega,?_⟩;intro u m;exact gk (hK3 _ _ _ (by kernel_rfl) m ⟨rfl,(by first | rfl | trivial)⟩)
     · intro vs i wr m hI u
       obtain⟨rfl,rfl⟩:=hI;simp only[zF,zG] at m;simp only[zu,zF,zG];apply Wy 34 [2,1,3,0] m;simp only[↓aC,aoi,aU,gM,am,ad,ah,aa];intro g5;refine⟨by omega,?_⟩;intro u m;apply aW 25 [0,0,0,4,1] m;simp only[↓aC,kH,eR,kI,lE,yE,aa];refine⟨by omega,?_⟩;apply aW 2 [0] m;simp only[↓aC];refine aB (jN rfl rfl) ?_;apply aL 3 [0] m;simp only[↓aC];refine iO m 2 [] [46,47,48,49,50,51,52,53,54,55,56,57,58,59,60,61,62,63] (fun vs i=>vs=[]∧i=bI g3 [.int .i64 (min (min t.a.x t.b.x) t.c.x),.int .i64 (min t.a.y t.b.y),.int .i64 (min t.a.z t.b.z),.int .i64 (max (max t.a.x t.b.x) t.c.x),.int .i64 (max t.a.y t.b.y),.int .i64 (max t.a.z t.b.z)] 222) ?_ ?_
       · intro K4 hK4
         refine zvt [true,true,false,true,true] [[],[],[],[],[],[2],[],[],[],[],[],[2],[],[],[],[],[2],[],[],[2]] (.take 0 (.take 1 (.take 2 (.take 3 (.take 4 (.take 6 (.take 8 (.take 9 (.take 10 (.take 12 (.take 14 (.take 17 (.two 5 (.take 7 (.one 11 (.take 13 (.take 15 (.one 16 (.take 18 (.one 19 .nil))))))) 11 (.take 13 (.one 5 (.take 7 (.take 15 (.one 16 (.take 18 (.one 19 .nil)))))))))))))))))))) m aD (by kernel_rfl) (bT (fun _ _ _ _ _ h=>h)) ?_;simp only[↓aC,↓zzu,kA,jE,kB,eR,Nf,Ng,aa,ad,ah];refine⟨by omega,?_⟩;intro u m;exact gk (hK4 _ _ _ (by kernel_rfl) m ⟨rfl,(by first | rfl | trivial)⟩)
       · intro vs i wr m hI u
         obtain⟨rfl,rfl⟩:=hI;simp only[zF,zG] at m;simp only[zu,zF,zG];apply aW 18 [1,0] m;simp only[↓aC,am];refine⟨by omega,?_⟩;refine aB (jO rfl rfl) ?_;apply aL 3 [0] m;simp only[↓aC];refine iO m 2 [] [46,47,48,49,50,51,52,53,54,55,56,57,58,59,60,61,62,63] (fun vs i=>vs=[]∧i=bI g3 [.int .i64 (min (min t.a.x t.b.x) t.c.x),.int .i64 (min (min t.a.y t.b.y) t.c.y),.int .i64 (min t.a.z t.b.z),.int .i64 (max (max t.a.x t.b.x) t.c.x),.int .i64 (max (max t.a.y t.b.y) t.c.y),.int .i64 (max t.a.z t.b.z)] 222) ?_ ?_
         · intro K5 hK5
           refine zvt [true,true,false,true,true] [[],[],[],[],[],[2],[],[],[],[],[],[2],[],[],[],[],[2],[],[],[2]] (.take 0 (.take 1 (.take 2 (.take 3 (.take 4 (.take 6 (.take 8 (.take 9 (.take 10 (.take 12 (.take 14 (.take 17 (.two 5 (.take 7 (.one 11 (.take 13 (.take 15 (.one 16 (.take 18 (.one 19 .nil))))))) 11 (.take 13 (.one 5 (.take 7 (.take 15 (.one 16 (.take 18 (.one 19 .nil)))))))))))))))))))) m aD (by kernel_rfl) (bT (fun _ _ _ _ _ h=>h)) ?_;simp only[↓aC,↓zzu,kA,jE,kB,eR,Nf,Ng,aa,ad,ah];refine⟨by omega,?_⟩;intro u m;exact gk (hK5 _ _ _ (by kernel_rfl) m ⟨rfl,(by first | rfl | trivial)⟩)
         · intro vs i wr m hI u
           obtain⟨rfl,rfl⟩:=hI;simp only[zF,zG] at m;simp only[zu,zF,zG];apply aW 18 [1,0] m;simp only[↓aC,am];refine⟨by omega,?_⟩;refine aB (jP rfl rfl) ?_;apply aL 3 [0] m;simp only[↓aC];refine iO m 2 [] [46,47,48,49,50,51,52,53,54,55,56,57,58,59,60,61,62,63] (fun vs i=>vs=[]∧i=bI g3 [.int .i64 (min (min t.a.x t.b.x) t.c.x),.int .i64 (min (min t.a.y t.b.y) t.c.y),.int .i64 (min (min t.a.z t.b.z) t.c.z),.int .i64 (max (max t.a.x t.b.x) t.c.x),.int .i64 (max (max t.a.y t.b.y) t.c.y),.int .i64 (max (max t.a.z t.b.z) t.c.z)] 222) ?_ ?_
           · intro K6 hK6
             refine zvt [true,true,false,true,true] [[],[],[],[],[],[2],[],[],[],[],[],[2],[],[],[],[],[2],[],[],[2]] (.take 0 (.take 1 (.take 2 (.take 3 (.take 4 (.take 6 (.take 8 (.take 9 (.take 10 (.take 12 (.take 14 (.take 17 (.two 5 (.take 7 (.one 11 (.take 13 (.take 15 (.one 16 (.take 18 (.one 19 .nil))))))) 11 (.take 13 (.one 5 (.take 7 (.take 15 (.one 16 (.take 18 (.one 19 .nil)))))))))))))))))))) m aD (by kernel_rfl) (bT (fun _ _ _ _ _ h=>h)) ?_;simp only[↓aC,↓zzu,kA,jE,kB,eR,Nf,Ng,aa,ad,ah];refine⟨by omega,?_⟩;intro u m;exact gk (hK6 _ _ _ (by kernel_rfl) m ⟨rfl,(by first | rfl | trivial)⟩)
           · intro vs i wr m hI u
             obtain⟨rfl,rfl⟩:=hI;simp only[zF,zG] at m;simp only[zu,zF,zG];apply Wy 32 [2,2,2,3] m;simp only[↓aC,adR,am,aa];refine⟨by omega,?_⟩;intro u m;exact aT rfl ⟨_,rfl,((m.b 3 rfl).full aeQ Wl)⟩ ⟨_,rfl,m.ext,rfl⟩
end Go.Proofs.YtfekpcimgncioaaGreatDoor
namespace Go.Lith
open Go.RowKit
section
variable {P:Program} {ops:Array Oper} {Q:Exit→Act→aj→Prop} {rest:List Oper} {d j:Nat} {ty:av} {pos:String} {after:Array Edge} {v:ai} {b:Bool} {ds:List Deferred} {l:List ai} {w w0:aj} {is:List It}
variable {f:FuncId} {fo:bz} {xs:Array bz} {args:List ai} {first cap:Array ai} {a0:Array av}
end
section
variable {P:Program} {ops:Array Oper} {Q:Act→Prop} {rest:List Oper} {d j:Nat} {ty:av} {pos:String} {after:Array Edge} {v:ai} {b:Bool} {ds:List Deferred} {l:List ai} {w0:aj} {is:List It}
variable {f:FuncId} {fo:bz} {xs:Array bz} {args:List ai} {first cap:Array ai} {a0:Array av}
end
/-! ### Rows of edges and moves -/
end Go.Lith
namespace Go.Proofs.YtfekpcimgncioaaGreatDoor
open Go.Proofs.Tryz
open Go.RowKit Go.Lith
set_option maxRecDepth 100000
attribute [local irreducible] au cu fA bF cG Code.wp
attribute [local congr] nO fK fM fN fO fP iY fQ fR fS fT fU fV fW fX fY fZ gA dX dY gB gC gE gF gG jA cQ cR cE cP gD iZ dZ eA eB gH gI jD
variable{g90 g91 ga gf gx gy N cap cx cf nm cm no co nr cr cy:Nat}{A Am Ao Ar:Option Addr}{q k:P3}{t:T3}{os ms:List T3}
theorem ag5{cy:Nat}{ex ey ef:Array de}{X Y F:List (P3 × Bool)}{ts:List T3}{p:P3}(w:aj)(hB91:gT w g91 [.pointer (some ⟨g90,0,none⟩),.int .i64 p.x,.int .i64 p.y,.int .i64 p.z,.int .i64 q.x,.int .i64 q.y,.int .i64 q.z,.map (some gx),.map (some gy),.slice Am nm cm,.slice Ao no co,.slice Ar nr cr] 218)(hB90:gT w g90 [.slice A N cap,.map (some ga),.map (some gf)] 109)(hMx:iW w gx ex cx)(hDx:bJ pt bm X ex cx)(hMf:iW w gf ef cf)(hDf:bJ pt bm F ef cf):dK prog 100 [.pointer (some ⟨g91,0,none⟩)] w (fun v _=>v=.bool ((cD X q).getD false && !(cD F p).getD false)):=by
 refine⟨bP func100 (by kernel_rfl),?_⟩;have m:=Mem.refl w
 go_enter func100,ntmps100
 apply fG 5 [0] m;simp only[↓aC];refine mq m aD (by kernel_rfl) (eT 3 [] ?_);simp only[↓aC,Ta,aa];refine ql rfl (fun u m=>((hB91.ext m.ext).lies1 tW rfl)) ?_;simp only[zz];refine eT 3 [] ?_;simp only[↓aC,Sz,aa];refine ql rfl (fun u m=>((hB91.ext m.ext).lies aH aA rfl rfl)) ?_;simp only[zz,zy,ar,aa,ah,ad];refine kK (fun u m=>eE (ek:=pt) (en:=bm) (k:=q) (v0:=false) nU oW gU rfl rfl (hMx.ext m.ext) hDx) ?_;simp only[zz];refine aI aG (dL rfl (fun hb=>aG) (dL rfl (fun hb=>cY (bB hb rfl)) (dL rfl (fun hb=>bH (c:=0) nV rfl Rv (bB hb rfl) rfl) ?_)));simp only[zz];refine fE rfl (fun hb u m=>aZ (bB hb rfl) ((hB91.ext m.ext).lies1 Zq rfl)) (dL rfl (fun hb=>cY (bB hb rfl)) (dL rfl (fun hb=>bH (c:=0) underlying109 rfl Fa (bB hb rfl) rfl) ?_));simp only[zz];refine fE rfl (fun hb u m=>aZ (bB hb rfl) ((hB90.ext m.ext).lies1 tW rfl)) (dL rfl (fun hb=>aG) (dL rfl (fun hb=>cY (bB hb rfl)) (dL rfl (fun hb=>bH (c:=2) nV rfl aA (bB hb rfl) rfl) ?_)));simp only[zz];refine fE rfl (fun hb u m=>aZ (bB hb rfl) ((hB91.ext m.ext).lies aH aA rfl rfl)) ?_;simp only[zz,zy,ar,aa,ah,ad];refine fE rfl (fun hb u m=>eE (ek:=pt) (en:=bm) (k:=p) (v0:=false) nU oW gU (bB hb rfl) (bB hb rfl) (hMf.ext m.ext) hDf) ?_;simp only[zz];refine dL rfl (fun hb=>pL (bB hb rfl)) (aI (fC rfl rfl rfl) (aI aP (bE ?_)));intro u m;apply aW 1 [] m;simp only[↓aC];exact aT rfl rfl ⟨_,rfl,m.ext,rfl⟩
def Hv(Y:List (P3 × Bool))(dn:List (P3 × Bool)):Nat:=((dn.map (·.1)).filter fun k=>(cD Y k).getD false).length
theorem aqJ{Y dn:List (P3 × Bool)}{b:Bool}(h:(cD Y k).getD false=true):Hv Y (dn++[(k,b)])=Hv Y dn+1:=by
 unfold Hv;rw[ct,ij,a_];simp[h]
theorem aqK{Y dn:List (P3 × Bool)}{b:Bool}(h:(cD Y k).getD false=false):Hv Y (dn++[(k,b)])=Hv Y dn:=by
 unfold Hv;rw[ct,ij,a_];simp[h]
theorem afx(Y dn:List (P3 × Bool)):Hv Y dn≤dn.length:=by
 unfold Hv;have:=ft (fun k=>(cD Y k).getD false) (dn.map (·.1));rwa [bf] at this
theorem ag6{Y dn D:List (P3 × Bool)}(h:dn.Perm D):Hv Y dn=Hv Y D:=by
 unfold Hv;exact ((h.map Prod.fst).filter _).length_eq
theorem ag7{cf:Nat}{ex ey ef:Array de}{X Y F:List (P3 × Bool)}{ts:List T3}{p:P3}(w:aj)(hB91:gT w g91 [.pointer (some ⟨g90,0,none⟩),.int .i64 p.x,.int .i64 p.y,.int .i64 p.z,.int .i64 q.x,.int .i64 q.y,.int .i64 q.z,.map (some gx),.map (some gy),.slice Am nm cm,.slice Ao no co,.slice Ar nr cr] 218)(hB90:gT w g90 [.slice A N cap,.map (some ga),.map (some gf)] 109)(hMx:iW w gx ex cx)(hDx:bJ pt bm X ex cx)(hMy:iW w gy ey cy)(hDy:bJ pt bm Y ey cy)(hXl:X.length≤100000000):dK prog 101 [.pointer (some ⟨g91,0,none⟩)] w (fun v _=>v=.bool (decide (Hv Y X=2))):=by
 refine⟨bP func101 (by kernel_rfl),?_⟩;have m:=Mem.refl w
 go_enter func101,ntmps101
 apply fG 14 [0] m;simp only[↓aC,Ta,aa];refine aR rfl ((hB91.ext m.ext).lies1 tW rfl) ?_;simp only[zz];refine xG m nU rfl (hMx.ext m.ext) ?_;intro r1 u m;apply aL 2 [0] m;simp only[↓aC];refine bX [3] [4,10,11,12,13,14,15,16,17,18,19,20,21] (fun n vs wl=>∃(dn rs:List (P3 × Bool)) (sn:Array Nat) (cc:Nat),vs=[.int .i64 (cc:Int)]∧Mem w wl [iI r1 gx cx sn]∧(oJ pt bm X ex sn dn rs)∧(cc=Hv Y dn)∧(n=rs.length)) ?_ ?_
 ·
  exact⟨_,[],X,#[],0,rfl,m,oJ.start hDx,rfl,rfl⟩
 · intro n vs wr hI u K1 hK1
   obtain⟨dn,rs,sn,cc,rfl,m,hT,hcc0,hn⟩:=hI;have hlen:=hT.len;simp only[zu,zF,zG];apply aK 2 [0] m;simp only[↓aC];refine Oa m 0 rfl rfl (hMx.ext m.ext) hDx hT ?_;intro bb kk vv sn u m hN;simp only[zF,zG] at m;refine aB (pZ rfl) ?_;apply aL 2 [0] m;simp only[↓aC];refine eG rfl ?_ ?_<;>intro hc1
   ·
    obtain⟨kp,kb,rs2,hp,hT2⟩:=Jf hc1 hN;apply aK 4 [0] m;simp only[↓aC];refine gK (uA rfl (m.r 0 rfl) (hMx.ext m.ext) hDx hT2) ?_;simp only[zz];apply kP 5 [0,0] m;simp only[↓aC,gM,aU,aa];intro g2 u m;refine mq m aD (by kernel_rfl) (eT 3 [] ?_);simp only[↓aC,ajc,aa];refine ql rfl (fun u m=>((hB91.ext m.ext).lies1 tW rfl)) ?_;simp only[zz];refine ql rfl (fun u m=>((m.b 0 rfl).full aH aA)) ?_;simp only[zz];refine kK (fun u m=>eE (ek:=pt) (en:=bm) (k:=kp) (v0:=false) nU oW gU rfl rfl (hMy.ext m.ext) hDy) ?_;simp only[zz];refine bE ?_;intro u m;refine gc (eG rfl (fun hc2=>?_) (fun hc2=>?_))
    ·
     apply aK 2 [0] m;simp only[↓aC];refine aB (eS rfl rfl (bG (by have:=afx Y dn;omega) (by have:=afx Y dn;omega))) ?_;apply aL 3 [0] m;simp only[↓aC];exact hK1 rs2.length _ _ (by rw[hn,hp.length_eq];exact fg _) (by kernel_rfl) ⟨dn++[(kp,kb)],rs2,_,cc+1,rfl,(m.sel [false,true]),hT2,by rw[aqJ hc2,hcc0],rfl⟩
    ·
     apply aK 2 [0] m;simp only[↓aC];exact hK1 rs2.length _ _ (by rw[hn,hp.length_eq];exact fg _) (by kernel_rfl) ⟨dn++[(kp,kb)],rs2,_,cc,rfl,(m.sel [false,true]),hT2,by rw[aqK hc2,hcc0],rfl⟩
   ·
    obtain rfl:=Je hc1 hN;have hcc:=ag6 (Y:=Y) hT.done;apply aK 8 [0] m;simp only[↓aC];refine aT rfl rfl ?_;try simp only[zD,zE]
    exact⟨_,rfl,m.ext,by rw[←hcc,←hcc0];exact congrArg bm (decide_eq_decide.2 (by omega))⟩
def ag8(F Y:List (P3 × Bool))(q k:P3):Bool:=decide (¬(k.x=q.x∧k.y=q.y∧k.z=q.z))&&(cD F k).getD false && !(cD Y k).getD false
def aaO(X Y F:List (P3 × Bool))(q:P3):Bool:=!(cD F q).getD false||(X.map Prod.fst).all fun k=>!ag8 F Y q k
theorem aqL{X Y F:List (P3 × Bool)}(h:(!(cD F q).getD false)=true):aaO X Y F q=true:=by unfold aaO;rw[h];rfl
theorem anq{X Y F:List (P3 × Bool)}{b:Bool}{dn rs:List (P3 × Bool)}(h:(!(cD F q).getD false)=false)(hp:(dn++[(k,b)]++rs).Perm X)(hb:ag8 F Y q k=true):aaO X Y F q=false:=by
 unfold aaO;rw[h,Bool.false_or,pn];refine⟨k,cw.2 ⟨(k,b),hp.mem_iff.1 (by simp),rfl⟩,by rw[hb];decide⟩
theorem akk{X Y F:List (P3 × Bool)}{dn:List (P3 × Bool)}(hp:dn.Perm X)(hb:∀x∈dn,ag8 F Y q x.1=false):aaO X Y F q=true:=by
 unfold aaO;rw[Bool.or_eq_true];refine .inr (df.2 fun k hk=>?_);obtain⟨x,hx,rfl⟩:=cw.1 hk;rw[hb x (hp.mem_iff.2 hx)];rfl
theorem akl{ex ey ef:Array de}{X Y F:List (P3 × Bool)}{ts:List T3}{p:P3}(w:aj)(hB91:gT w g91 [.pointer (some ⟨g90,0,none⟩),.int .i64 p.x,.int .i64 p.y,.int .i64 p.z,.int .i64 q.x,.int .i64 q.y,.int .i64 q.z,.map (some gx),.map (some gy),.slice Am nm cm,.slice Ao no co,.slice Ar nr cr] 218)(hB90:gT w g90 [.slice A N cap,.map (some ga),.map (some gf)] 109)(hMx:iW w gx ex cx)(hDx:bJ pt bm X ex cx)(hMy:iW w gy ey cy)(hDy:bJ pt bm Y ey cy)(hMf:iW w gf ef cf)(hDf:bJ pt bm F ef cf):dK prog 103 [.pointer (some ⟨g91,0,none⟩)] w (fun v _=>v=.bool (aaO X Y F q)):=by
 refine⟨bP func103 (by kernel_rfl),?_⟩;have m:=Mem.refl w
 go_enter func103,ntmps103
 apply fG 6 [0] m;simp only[↓aC];refine mq m aD (by kernel_rfl) (eT 3 [] ?_);simp only[↓aC,ajb,aa];refine ql rfl (fun u m=>((hB91.ext m.ext).lies1 Zq rfl)) ?_;simp only[zz];refine aI (cY rfl) (eT 1 [] ?_);simp only[↓aC,Sx,aa];refine ql rfl (fun u m=>((hB90.ext m.ext).lies1 tW rfl)) ?_;simp only[zz];refine eT 3 [] ?_;simp only[↓aC,Sz,aa];refine ql rfl (fun u m=>((hB91.ext m.ext).lies aH aA rfl rfl)) ?_;simp only[zz,zy,ar,aa,ah,ad];refine kK (fun u m=>eE (ek:=pt) (en:=bm) (k:=q) (v0:=false) nU oW gU rfl rfl (hMf.ext m.ext) hDf) ?_;simp only[zz];refine aI (pL rfl) (bE ?_);intro u m;refine gc ?_;simp only[zz];refine eG rfl ?_ ?_<;>intro hc1
 ·
  apply aK 5 [] m;simp only[↓aC];refine aT rfl rfl ?_;try simp only[zD,zE]
  exact⟨_,rfl,m.ext,by rw[aqL hc1]⟩
 ·
  apply aK 7 [0] m;simp only[↓aC,Ta,aa];refine aR rfl ((hB91.ext m.ext).lies1 tW rfl) ?_;simp only[zz];refine xG m nU rfl (hMx.ext m.ext) ?_;intro r1 u m;apply aL 2 [0] m;simp only[↓aC];refine bX [] [2,3,22,23,24,25,26,27,28,29,30,31,32,33,34,35,36,37,38,39,40,41,42,43,44,45,46,47,48,49,50,51] (fun n vs wl=>∃(dn rs:List (P3 × Bool)) (sn:Array Nat),vs=[]∧Mem w wl [iI r1 gx cx sn]∧(oJ pt bm X ex sn dn rs)∧(∀x∈dn,ag8 F Y q x.1=false)∧(n=rs.length)) ?_ ?_
  ·
   exact⟨_,[],X,#[],rfl,m,oJ.start hDx,(fun x h=>(by cases h)),rfl⟩
  · intro n vs wr hI u K1 hK1
    obtain⟨dn,rs,sn,rfl,m,hT,hb0,hn⟩:=hI;simp only[zu,zF,zG];apply aK 2 [0] m;simp only[↓aC];refine Oa m 0 rfl rfl (hMx.ext m.ext) hDx hT ?_;intro bb kk vv sn u m hN;simp only[zF,zG] at m;refine aB (pZ rfl) ?_;apply aL 2 [0] m;simp only[↓aC];refine eG rfl ?_ ?_<;>intro hc2
    ·
     obtain⟨kp,kb,rs2,hp,hT2⟩:=Jf hc2 hN;apply aK 4 [0] m;simp only[↓aC];refine gK (uA rfl (m.r 0 rfl) (hMx.ext m.ext) hDx hT2) ?_;simp only[zz];apply kP 5 [0,0] m;simp only[↓aC,gM,aU,aa];intro g2 u m;refine mq m aD (by kernel_rfl) (eT 4 [0] ?_);simp only[↓aC,aU,Sz,aa];refine ql rfl (fun u m=>((hB91.ext m.ext).lies aH aA rfl rfl)) ?_;simp only[zz,zy,ar,aa,ah,ad];refine aI (iN rfl rfl) (aI aG (dL rfl (fun hb=>aG) (dL rfl (fun hb=>cY (bB hb rfl)) ?_)));simp only[zz];refine dL rfl (fun hb=>bH (c:=0) nV rfl Rv (bB hb rfl) rfl) ?_;simp only[zz];refine fE rfl (fun hb u m=>aZ (bB hb rfl) ((hB91.ext m.ext).lies1 Zq rfl)) (dL rfl (fun hb=>cY (bB hb rfl)) (dL rfl (fun hb=>bH (c:=0) underlying109 rfl Fa (bB hb rfl) rfl) ?_));simp only[zz];refine fE rfl (fun hb u m=>aZ (bB hb rfl) ((hB90.ext m.ext).lies1 tW rfl)) (fE rfl (fun hb u m=>aZ rfl ((m.b 0 rfl).full aH aA)) (fE rfl (fun hb u m=>eE (ek:=pt) (en:=bm) (k:=kp) (v0:=false) nU oW gU (bB hb rfl) (bB hb rfl) (hMf.ext m.ext) hDf) ?_));simp only[zz];refine aI (fC rfl rfl rfl) (aI aG (dL rfl (fun hb=>aG) (dL rfl (fun hb=>cY (bB hb rfl)) ?_)));simp only[zz];refine dL rfl (fun hb=>bH (c:=0) nV rfl Fa (bB hb rfl) rfl) ?_;simp only[zz];refine fE rfl (fun hb u m=>aZ (bB hb rfl) ((hB91.ext m.ext).lies1 tW rfl)) (fE rfl (fun hb u m=>aZ rfl ((m.b 0 rfl).full aH aA)) (fE rfl (fun hb u m=>eE (ek:=pt) (en:=bm) (k:=kp) (v0:=false) nU oW gU (bB hb rfl) (bB hb rfl) (hMy.ext m.ext) hDy) ?_));simp only[zz];refine dL rfl (fun hb=>pL (bB hb rfl)) (aI (fC rfl rfl rfl) (bE ?_));intro u m;refine gc ?_;simp only[zz];refine eG rfl ?_ ?_<;>intro hc3
     ·
      apply aK 5 [] m;simp only[↓aC];refine aT rfl rfl ?_;try simp only[zD,zE]
      exact⟨_,rfl,m.ext,by rw[anq hc1 hT2.1 hc3]⟩
     ·
      apply aK 2 [0] m;simp only[↓aC];exact hK1 rs2.length _ _ (by rw[hn,hp.length_eq];exact fg _) (by kernel_rfl) ⟨dn++[(kp,kb)],rs2,_,rfl,(m.sel [false,true]),hT2,(fun x hx=>(br.1 hx).elim (hb0 x) fun h=>(by rw[az.1 h];exact hc3)),rfl⟩
    ·
     obtain rfl:=Je hc2 hN;apply aK 6 [] m;simp only[↓aC];refine aT rfl rfl ?_;try simp only[zD,zE]
     exact⟨_,rfl,m.ext,by rw[akk hT.done hb0]⟩
theorem Hw  : decide (bS t.normal.x=0∧bS t.normal.y=0∧bS t.normal.z=0)=nT t:=by
 unfold nT;refine decide_eq_decide.2 ?_;rw[gY,gY,gY];show (tH t.a t.b t.c).x=0∧(tH t.a t.b t.c).y=0∧(tH t.a t.b t.c).z=0↔_
 unfold Pu;generalize tH t.a t.b t.c=n;by_cases h1:n.x=0 <;> by_cases h2:n.y=0 <;> by_cases h3:n.z=0 <;> simp[h1,h2,h3]
def ag9(o t:T3):Bool:=!nT t&&decide (aiZ o t=1)
def aeh(os ms:List T3):Bool:=(os.zip ms).all fun x=>ag9 x.1 x.2
theorem akm{k:Nat}{x:T3 × T3}:(os.zip ms)[k]? = some x↔os[k]? = some x.1∧ms[k]? = some x.2:=by
 obtain⟨a,b⟩:=x;rw[List.getElem?_zip_eq_some]
theorem anr{k:Nat}{o:T3}(ho:os[k]? = some o)(ht:ms[k]? = some t)(h:(nT t||decide (¬aiZ o t=1))=true):aeh os ms=false:=by
 unfold aeh;rw[pn];refine⟨(o,t),bj (akm.2 ⟨ho,ht⟩),?_⟩;unfold ag9;cases hf:nT t <;> rw[hf] at h <;> simp at h ⊢;exact h
theorem akn(h:∀(j:Nat) (o t:T3),os[j]? = some o→ms[j]? = some t→ag9 o t=true):aeh os ms=true:=by
 unfold aeh;rw[df];intro x hx;obtain⟨j,hj⟩:=fb.1 hx;obtain⟨h1,h2⟩:=akm.1 hj;exact h j _ _ h1 h2
theorem asH{o:T3}(h:(nT t||decide (¬aiZ o t=1))=false):ag9 o t=true:=by
 unfold ag9;cases hf:nT t <;> rw[hf] at h <;> simp at h ⊢;exact h
theorem aei{cx cy cf:Nat}{ex ey ef:Array de}{X Y F:List (P3 × Bool)}{ts:List T3}{p:P3}(w:aj)(hB91:gT w g91 [.pointer (some ⟨g90,0,none⟩),.int .i64 p.x,.int .i64 p.y,.int .i64 p.z,.int .i64 q.x,.int .i64 q.y,.int .i64 q.z,.map (some gx),.map (some gy),.slice Am nm cm,.slice Ao no co,.slice Ar nr cr] 218)(hB90:gT w g90 [.slice A N cap,.map (some ga),.map (some gf)] 109)(hTm:bQ w Am nm ms)(hTo:bQ w Ao no os)(hno:no=nm)(hN:nm≤10000000):dK prog 104 [.pointer (some ⟨g91,0,none⟩)] w (fun v _=>v=.bool (aeh os ms)):=by
 refine⟨bP func104 (by kernel_rfl),?_⟩;have m:=Mem.refl w;subst hno
 go_enter func104,ntmps104
 apply fG 10 [0] m;simp only[↓aC,Jp,aa];refine aR rfl ((hB91.ext m.ext).lies1 sP rfl) ?_;simp only[zz];apply aL 4 [0] m;simp only[↓aC,eV];refine bX [10] [2,3,4,11,12,13,14,15,16,17,18,19,20,21,22,23,24,25,26,27,28,29] (fun n vs wl=>∃(k:Nat),vs=[.int .i64 (k:Int)]∧Mem w wl []∧(∀(j:Nat) (o t:T3),j<k→os[j]? = some o→ms[j]? = some t→ag9 o t=true)∧(k≤no)∧(n=no-k)) ?_ ?_
 ·
  exact⟨_,0,rfl,m,(fun j o t h=>by omega),cq _,rfl⟩
 · intro n vs wr hI u K1 hK1
   obtain⟨k,rfl,m,hu0,hk,hn⟩:=hI;simp only[zu,zF,zG];apply aK 5 [0,0] m;simp only[↓aC];refine bA rfl ?_ ?_<;>intro hc1
   ·
    obtain⟨t,ht,hti,a,rfl,hrow⟩:=hTm.get (i:=k) (by omega);obtain⟨o,ho,hoi,a2,rfl,hrow2⟩:=hTo.get (i:=k) (by omega);apply aK 6 [0] m;simp only[↓aC];refine aB (aF bL aO rfl rfl (by omega) (by omega) (cH (ag _))) ?_;simp only[zz];refine aR rfl ((hrow.ext m.ext).lies cK aO) ?_;simp only[zz];apply kP 5 [0,0] m;simp only[↓aC,nC,gX,aa];intro g1 u m;refine mq m aD (by kernel_rfl) (ql rfl (fun u m=>((m.b 0 rfl).full cK aO)) ?_);simp only[zz];refine jJ rfl rfl (aaN (t:=t)) (aI aG (dQ rfl (fun hb=>aG) (dQ rfl (fun hb=>cY (bB hb rfl)) ?_)));simp only[zz];refine dQ rfl (fun hb=>bH (c:=0) nV rfl gZ (bB hb rfl) rfl) ?_;simp only[zz];refine lW rfl (fun hb u m=>aZ (bB hb rfl) ((hB91.ext m.ext).lies1 sP rfl)) (dQ rfl (fun hb=>aG) ?_);simp only[zz];refine dQ rfl (fun hb=>aF bL aO (bB hb rfl) (bB hb rfl) (by omega) (by omega) (cH (ag _))) ?_;simp only[zz];refine lW rfl (fun hb u m=>aZ (bB hb rfl) ((hrow2.ext m.ext).lies cK aO)) (lW rfl (fun hb u m=>aZ rfl ((m.b 0 rfl).full cK aO)) (aeK rfl rfl (fun hb=>by simp only[List.toList_toArray,List.map_cons,List.map_nil,zA,zB,zC,zD,zE,hb,mC];rfl) (fun hb=>aki (t:=o) (r:=t)) (dQ rfl (fun hb=>tD (bB hb rfl) rfl) (aI (eD rfl rfl rfl) (bE ?_)))));intro u m;refine gc ?_;simp only[zz];refine eG rfl ?_ ?_<;>intro hc2
    ·
     rw[Hw] at hc2;apply aK 5 [] m;simp only[↓aC];refine aT rfl rfl ?_;try simp only[zD,zE]
     exact⟨_,rfl,m.ext,by rw[anr ho ht hc2]⟩
    ·
     rw[Hw] at hc2;apply aK 6 [0] m;simp only[↓aC];refine⟨by omega,?_⟩;exact hK1 (no-(k+1)) _ _ (by omega) (by kernel_rfl) ⟨k+1, rfl, (m.sel [false]), (fun j o2 t2 hj h1 h2 => by
      rcases Nat.lt_or_ge j k with h | h
      · exact hu0 j o2 t2 h h1 h2
      · obtain rfl:j=k:=by omega
        rw[ho] at h1;rw[ht] at h2;cases h1;cases h2;exact asH hc2),by omega,rfl⟩
   ·
    apply aK 6 [] m;simp only[↓aC];refine aT rfl rfl ?_;try simp only[zD,zE]
    exact⟨_,rfl,m.ext,by rw[akn fun j o t h1 h2=>hu0 j o t (by have:=(ap.1 h1).1;have:=hTo.len;omega) h1 h2]⟩
theorem aha{w:aj}{ts:List T3}(h:bQ w A N ts)(hA:A.isNone=true):ts=[]:=by
 cases A with
 | some a=>cases hA
 | none =>
  cases ts with
  | nil=>rfl
  | cons t ts =>
   obtain⟨a,e,_⟩:=h.row 0 t rfl;cases e
theorem ako{ts:List T3}(w:aj)(hT:bQ w A N ts)(hN:N≤10000000):dK prog 169 [.slice A N cap] w (SL 39 9 (ts.flatMap aM) ts.length w):=by
 refine⟨bP func169 (by kernel_rfl),?_⟩;have m:=Mem.refl w;have htl:=hT.len
 go_enter func169,ntmps169
 apply fG 8 [0] m;simp only[↓aC];refine aB (abe bL rfl rfl) ?_;apply aL 1 [0] m;simp only[↓aC];refine eG rfl ?_ ?_<;>intro hc1
 ·
  obtain rfl:=aha hT hc1;apply aK 5 [] m;simp only[↓aC];exact aT rfl rfl ⟨_,rfl,m.ext,⟨none,0,0,rfl,rfl,Ow.nil _ _ _ _⟩⟩
 ·
  apply aK 3 [0] m;simp only[↓aC];refine Cp bL (c:=9) (by kernel_rfl)  ?_;intro u g1 e_ h_ k_;replace m:=m.newB e_ h_ k_;simp only[zz];replace m:=m.own 0 rfl (n:=0) (c:=9) rfl (kG rfl);simp only[zG] at m;apply aL 1 [0] m;simp only[↓aC];refine bW m 0 rfl rfl bL gR rfl (by decide) rfl rfl (by rw[Ez,hT.len]) (bQ.cells (hT.ext m.ext)) (pU _) (by omega) (by omega) ?_;intro A5 cap5 u m;simp only[zF,zG] at m;simp only[ar,bt] at m ⊢;apply aL 3 [] m;simp only[↓aC];exact aT rfl rfl ⟨_,rfl,m.ext,⟨_,_,_,htl.symm,rfl,(m.o 0 rfl)⟩⟩
end Go.Proofs.YtfekpcimgncioaaGreatDoor
namespace Go.Lith
open Go.RowKit
variable{t:T3}
theorem Ua{l ys:List P3}(hn:l.Nodup)(h:ys.Perm l)(hs:ys.Pairwise fun a b=>¬b.Lt a):ys=yB l:=by
 have h1:ys.Pairwise P3.Lt:=(hs.and (h.nodup_iff.2 hn)).imp fun {a b} k=>by
  rcases P3.lt_tri a b with e | e | e
  · exact e
  · exact absurd e k.2
  · exact absurd e k.1
 exact He P3.lt_irrefl (fun _ _ _=>P3.lt_trans) h1 (Au hn) fun p=>by rw[h.mem_iff,(iP l).mem_iff]
def kT(t:T3):T3:=match So t with
 | [a,b,c]=>⟨a,b,c⟩
 | _=>t
theorem aaP(t:T3):So t=[(kT t).a,(kT t).b,(kT t).c]:=by
 have h:(So t).length=3:=(iP _).length_eq;unfold kT;generalize So t=L at h;rcases L with _ | ⟨a,_ | ⟨b,_ | ⟨c,_ | ⟨d,L⟩⟩⟩⟩ <;> simp only[ay,cd] at h <;> first | omega | rfl
theorem akp{s:T3}:kT s=kT t↔So s=So t:=by
 rw[aaP s,aaP t];constructor
 · intro h;rw[h]
 · intro h
   simp only[List.cons.injEq,and_true] at h;obtain⟨a,b,c⟩:=h;cases hs:kT s;cases ht:kT t;simp only[hs,ht] at a b c;rw[a,b,c]
theorem ach{l:List T3}:(l.map kT).Nodup↔(l.map So).Nodup:=by
 unfold List.Nodup;rw[jn,jn];exact⟨fun h=>h.imp fun k e=>k (akp.2 e),fun h=>h.imp fun k e=>k (akp.1 e)⟩
theorem Ub(h:t.nd=true):[t.a,t.b,t.c].Nodup:=by
 obtain⟨h1,h2,h3⟩:=(rH (t:=t)).1 h;simp only[List.nodup_cons,an,cl,or_false,not_or,not_false_eq_true,jo,and_true];exact⟨⟨h1,fun e=>h3 e.symm⟩,h2⟩
theorem aqM{L:List T3}{k:Nat}(ht:L[k]? = some t)(h:kT t∈(L.take k).map kT):decide ((L.map So).Nodup)=false:=by
 rw[decide_eq_false_iff_not,←ach];intro hn;obtain⟨s,hs,e⟩:=cw.1 h;obtain⟨j,hj⟩:=fb.1 hs;rw[List.getElem?_take] at hj;split at hj
 · rename_i hjk
   have h1:(L.map kT)[j]? = some (kT t):=by rw[eh,hj];exact congrArg some e
   have h2:(L.map kT)[k]? = some (kT t):=by rw[eh,ht];rfl
   obtain⟨a1,a2⟩:=ap.1 h1;obtain⟨b1,b2⟩:=ap.1 h2;have:=(List.getElem_inj hn).1 (a2.trans b2.symm);omega
 · cases hj
theorem ans{L:List T3}{k:Nat}(ht:L[k]? = some t)(hn:((L.take k).map kT).Nodup)(h:kT t∉(L.take k).map kT):((L.take (k+1)).map kT).Nodup:=by
 rw[bY ht,ct];exact List.nodup_append.2 ⟨hn,by simp,fun a ha b hb e=>h (by rw[az.1 hb] at e;exact e▸ha)⟩
end Go.Lith
namespace Go.Proofs.YtfekpcimgncioaaGreatDoor
open Go.Proofs.Tryz
open Go.RowKit Go.Lith
set_option maxRecDepth 100000
attribute [local irreducible] au cu fA bF cG Code.wp
attribute [local congr] nO fK fM fN fO fP iY fQ fR fS fT fU fV fW fX fY fZ gA dX dY gB gC gE gF gG jA cQ cR cE cP gD iZ dZ eA eB gH gI jD
variable{N cap:Nat}
theorem akq{w:aj}{A:Option Addr}{ps:List P3}(h:vY dU 3 w A N ps)(hA:A.isNone=true):ps=[]:=by
 cases A with
 | some a=>cases hA
 | none =>
  cases ps with
  | nil=>rfl
  | cons t ts =>
   obtain⟨a,e,_⟩:=h.row 0 t rfl;cases e
theorem atI{w:aj}{g:Nat}{t:T3}{T:av}(h:gT w g (aM t) T):vY dU 3 w (some ⟨g,0,none⟩) 3 [t.a,t.b,t.c]:=⟨rfl,fun i x hx=>by
 refine⟨⟨g,0,none⟩,rfl,?_⟩;rcases i with _ | _ | _ | i <;> simp at hx <;> subst hx
 · exact (h.row 0).take 3
 · exact (h.row 3).take 3
 · exact (h.row 6).take 3⟩
theorem akr{ps:List P3}{A:Option Addr}(w:aj)(hT:vY dU 3 w A N ps)(hN:N≤10000000):dK prog 170 [.slice A N cap] w (SL 30 3 (ps.flatMap dU) ps.length w):=by
 refine⟨bP func170 (by kernel_rfl),?_⟩;have m:=Mem.refl w;have htl:=hT.len
 go_enter func170,ntmps170
 apply fG 8 [0] m;simp only[↓aC];refine aB (abe eK rfl rfl) ?_;apply aL 1 [0] m;simp only[↓aC];refine eG rfl ?_ ?_<;>intro hc1
 ·
  obtain rfl:=akq hT hc1;apply aK 5 [] m;simp only[↓aC];exact aT rfl rfl ⟨_,rfl,m.ext,⟨none,0,0,rfl,rfl,Ow.nil _ _ _ _⟩⟩
 ·
  apply aK 3 [0] m;simp only[↓aC];refine Cp eK (c:=3) (by kernel_rfl)  ?_;intro u g1 e_ h_ k_;replace m:=m.newB e_ h_ k_;simp only[zz];replace m:=m.own 0 rfl (n:=0) (c:=3) rfl (kG rfl);simp only[zG] at m;apply aL 1 [0] m;simp only[↓aC];refine bW m 0 rfl rfl eK qY rfl (by decide) rfl rfl (by rw[show (ps.flatMap qS).length=ps.length*3 from aiK,hT.len]) ((hT.ext m.ext).cells Ld (by decide)) (Ro _) (by omega) (by omega) ?_;intro A5 cap5 u m;simp only[zF,zG] at m;simp only[ar,bt] at m ⊢;apply aL 3 [] m;simp only[↓aC];exact aT rfl rfl ⟨_,rfl,m.ext,⟨_,_,_,htl.symm,rfl,(m.o 0 rfl)⟩⟩
theorem afy{w0 w:aj}{is:List It}{A:Option Addr}{n cap:Nat}{xs:List P3}(m:Mem w0 w is)(k:Nat)(hi:is[k]? = some (oI 30 3 A n cap (xs.flatMap dU)))(hsz:n<4611686018427387904) :
 Calls prog 128 [.slice A n cap,.func (.func 70) #[] #[]].toArray w fun e w'=>∃v i,e=.returned v∧Mem w0 w' (is.set k i)∧(v=.tuple #[]∧∃ys:List P3,i=oI 30 3 A n cap (ys.flatMap dU)∧ys.Perm xs∧ys.Pairwise fun a b=>¬b.Lt a) :=
 (Dh (enc:=dU) Tryz.sort128 (fun w=>pN aH w) (fun w=>eC aA w) (fun _=>rfl) (by decide) Oc qO abE (fun x y=>Tw) m k hi hsz).mono (by
  rintro e w' ⟨v,i,h1,h2,h3,ys,h4,h5,h6⟩;exact⟨v,i,h1,h2,h3,ys,h4,h5,h6.imp fun h=>by simpa[Go.Proofs.ltOf,mF] using h⟩)
theorem aoz:sQ prog 38 tr:=by
 refine sQ.agg (cs:=fun p=>#[.int .i64 p.a.x,.int .i64 p.a.y,.int .i64 p.a.z,.int .i64 p.b.x,.int .i64 p.b.y,.int .i64 p.b.z,.int .i64 p.c.x,.int .i64 p.c.y,.int .i64 p.c.z]) (fun _=>rfl) underlying38 (fun e p=>?_) (fun p q=>?_) (fun p=>?_)
 · refine xO.array (d:=9999) underlying38 aA fun i hi=>?_
   obtain rfl | rfl | rfl:=(by omega:i=0∨i=1∨i=2)
   · refine⟨_,cS aH aA rfl,?_⟩
     refine xO.struct (d:=9998) vC fun f hf=>?_;simp only[an,cl,or_false] at hf;rcases hf with rfl | rfl | rfl
     · exact⟨_,cW cC rfl,xO.int (d:=9997) lA⟩
     · exact⟨_,cW cC rfl,xO.int (d:=9997) lA⟩
     · exact⟨_,cW cC rfl,xO.int (d:=9997) lA⟩
   · refine⟨_,cS aH aA rfl,?_⟩
     refine xO.struct (d:=9998) vC fun f hf=>?_;simp only[an,cl,or_false] at hf;rcases hf with rfl | rfl | rfl
     · exact⟨_,cW cC rfl,xO.int (d:=9997) lA⟩
     · exact⟨_,cW cC rfl,xO.int (d:=9997) lA⟩
     · exact⟨_,cW cC rfl,xO.int (d:=9997) lA⟩
   · refine⟨_,cS aH aA rfl,?_⟩
     refine xO.struct (d:=9998) vC fun f hf=>?_;simp only[an,cl,or_false] at hf;rcases hf with rfl | rfl | rfl
     · exact⟨_,cW cC rfl,xO.int (d:=9997) lA⟩
     · exact⟨_,cW cC rfl,xO.int (d:=9997) lA⟩
     · exact⟨_,cW cC rfl,xO.int (d:=9997) lA⟩
 · exact (ape _).iff ⟨fun h=>Md (P3.eq h.1 h.2.1 h.2.2.1) (P3.eq h.2.2.2.1 h.2.2.2.2.1 h.2.2.2.2.2.1) (P3.eq h.2.2.2.2.2.2.1 h.2.2.2.2.2.2.2.1 h.2.2.2.2.2.2.2.2),fun h=>by subst h;simp only[and_self]⟩
 · simp[tr,Instr.sameBits]
theorem ahb{g90 g91 ga gf gx gy cx cy cf nm cm no co nr cr:Nat}{A Am Ao Ar:Option Addr}{ex ey ef:Array de}{X Y F:List (P3 × Bool)}{ts:List T3}{p q:P3}{ms rs:List T3}(w:aj)(hB91:gT w g91 [.pointer (some ⟨g90,0,none⟩),.int .i64 p.x,.int .i64 p.y,.int .i64 p.z,.int .i64 q.x,.int .i64 q.y,.int .i64 q.z,.map (some gx),.map (some gy),.slice Am nm cm,.slice Ao no co,.slice Ar nr cr] 218)(hB90:gT w g90 [.slice A N cap,.map (some ga),.map (some gf)] 109)(hTm:bQ w Am nm ms)(hTr:bQ w Ar nr rs)(hnd:∀t∈ms++rs,t.nd=true)(hN:nm+nr≤10000000):dK prog 102 [.pointer (some ⟨g91,0,none⟩)] w (fun v _=>v=.bool (decide (((ms++rs).map So).Nodup))):=by
 refine⟨bP func102 (by kernel_rfl),?_⟩;have m:=Mem.refl w;have htm:=hTm.len;have htr:=hTr.len;have hit:∀t∈ms++rs,IT t:=fun t ht=>(br.1 ht).elim (hTm.it t) (hTr.it t)
 go_enter func102,ntmps102
 apply fG 6 [0] m;simp only[↓aC];refine mE m ?_;intro q8 u m;have hD8:=bJ.nil (K:=T3) (V:=Bool) tr bm;apply aL 4 [0] m;simp only[↓aC];refine mh m [true] [(0,true),(1,true),(2,true),(5,true),(6,true),(7,true),(11,true),(3,true),(8,true),(4,false),(9,false),(10,true)] aD (by kernel_rfl) (bT (fun _ _ _ _ _ h=>h)) (ol:=?_) ?hol ?_
 case hol=>simp only[zw,zQ,zR];try rfl
 intro u m;refine Ps 7 [] ?_;simp only[↓aC,Jp,Tb,aa];refine dF rfl (fun u m=>((hB91.ext m.ext).lies1 sP rfl)) ?_;simp only[zz];refine dF rfl (fun u m=>((hB91.ext m.ext).lies1 sP rfl)) ?_;simp only[zz];refine cF (bC rfl rfl (ako (ts:=ms) _ (hTm.ext m.ext) (by omega)) ?_);rintro v u e_ ⟨A5,cap5,n5,hn5,rfl,h_⟩;replace m:=m.newO e_ h_;refine aN ⟨m.sel [false,true],?_⟩;refine cF ?_;simp only[zz];refine bW m 0 rfl rfl bL gR rfl (by decide) rfl rfl (by rw[Ez,hTr.len]) (bQ.cells (hTr.ext m.ext)) (pU _) (by omega) (by omega) ?_;intro A5 cap5 u m;simp only[zF,zG] at m;rw[←aw] at m;refine aN ⟨m.sel [false,true],?_⟩;refine aS (Lh rfl bL rfl) (bV ?_);apply aW 1 [0] m;simp only[↓aC];refine bX [20] [2,5,6,7,21,22,23,24,25,26,27,28,29,30,31,32,33,34,35,36,37] (fun n vs wl=>∃(k:Nat) (es:Array de) (c:Nat),vs=[.int .i64 (k:Int)]∧Mem w wl [oI 39 9 A5 (n5+nr) cap5 ((ms++rs).flatMap aM),mI q8 es c]∧(bJ tr bm (gS [] (((ms++rs).take k).map kT)) es c)∧((((ms++rs).take k).map kT).Nodup)∧(k≤n5+nr)∧(n=n5+nr-k)) ?_ ?_
 ·
  exact⟨_,0,_,_,rfl,m,hD8,jo,cq _,rfl⟩
 · intro n vs wr hI u K1 hK1
   obtain⟨k,es8,c8,rfl,m,hD8,hu,hk,hn⟩:=hI;simp only[zu,zF,zG];apply aK 5 [0,0] m;simp only[↓aC];refine bA rfl ?_ ?_<;>intro hc1
   ·
    obtain⟨t,ht,hti,a,hA5,hr5⟩:=((m.o 0 rfl).tris hit).get (i:=k) (by omega);subst hA5;apply aK 5 [0] m;simp only[↓aC];refine aB (aF bL aO rfl rfl (by omega) (by omega) (cH (ag _))) ?_;simp only[zz];refine aR rfl (hr5.lies cK aO) ?_;simp only[zz];apply kP 5 [0,0] m;simp only[↓aC,nC,gX,aa];intro g2 u m;refine aB (akj cT aA rfl) ?_;apply aL 5 [0] m;simp only[↓aC,reduceIte,Nat.reduceEqDiff,ah,aa];refine bC rfl rfl (akr (ps:=[t.a,t.b,t.c]) _ (atI (m.b 0 rfl)) (by decide)) ?_;rintro v u e_ ⟨A6,cap6,n6,hn6,rfl,h_⟩;replace m:=m.newO e_ h_;obtain rfl:n6=3:=hn6;apply aL 5 [0] m;simp only[↓aC];refine mM m 0 adb rfl rfl (fun m=>afy m 0 rfl (by decide)) ?_;rintro v i u m ⟨rfl,ys,rfl,hys,hso⟩;simp only[zF,zG] at m;simp only[zz];obtain rfl:ys=[(kT t).a,(kT t).b,(kT t).c]:=by rw[←aaP];exact Ua (Ub (hnd t (bj ht))) hys hso
    obtain⟨g6,rfl⟩:=(m.o 0 rfl).some (by decide);apply aL 4 [0] m;simp only[↓aC];refine aB (ag4 underlying38 rfl (by decide)) ?_;simp only[zz];refine aR rfl (show eQ _ _ _ _ (tr (kT t)) from (m.o 0 rfl).rows.lies apb aik) ?_;simp only[zz];apply kP 8 [0,0,0] m;simp only[↓aC,ar4,aoh,aa];intro g3 u m;refine gK (eE (ek:=tr) (en:=bm) (k:=kT t) (v0:=false) underlying219 oW aoz rfl rfl (m.p 4 rfl) hD8) ?_;simp only[zz];apply aL 1 [0] m;simp only[↓aC];refine eG rfl ?_ ?_<;>intro hc2
    ·
     rw[sE,decide_eq_true_eq] at hc2;apply aK 5 [] m;simp only[↓aC];refine aT rfl rfl ?_;try simp only[zD,zE]
     exact⟨_,rfl,m.ext,by rw[aqM ht hc2]⟩
    ·
     rw[sE,decide_eq_false_iff_not] at hc2;apply aK 4 [0,0] m;simp only[↓aC,aoh];refine nN (ek:=tr) (en:=bm) (a:=kT t) (v:=true) m 4 rfl underlying219 aoz rfl rfl rfl hD8 ?_;intro es8 c8 u m hD8;simp only[zF,zG] at m;rw[←mJ] at hD8;apply aL 6 [0] m;simp only[↓aC];refine⟨by omega,?_⟩;exact hK1 (n5+nr-(k+1)) _ _ (by omega) (by kernel_rfl) ⟨k+1,_,_,rfl,(m.sel [false,false,false,true,true]),by rw[bY ht,ct];exact hD8,ans ht hu hc2,by omega,rfl⟩
   ·
    obtain rfl:k=n5+nr:=by omega
    rw[show (ms++rs).take (n5+nr)=(ms++rs) from bi (by rw[a_];omega)] at hu;apply aK 6 [] m;simp only[↓aC];refine aT rfl rfl ?_;try simp only[zD,zE]
    exact⟨_,rfl,m.ext,by rw[decide_eq_true (ach.1 hu)]⟩
end Go.Proofs.YtfekpcimgncioaaGreatDoor
