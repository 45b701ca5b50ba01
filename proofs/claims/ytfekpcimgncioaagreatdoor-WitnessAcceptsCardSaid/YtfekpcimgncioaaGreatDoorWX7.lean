/-
 Texts of one claim, laid together: K3, K4, Sfa, K5, K6, Sla, K7, K8, K9, K10, K11, Wo, Ch, Ci, Ck, Cl, Wp, Cm, Kt, K16, Round, Sides, LoopF, Seq, K26, Near2, Ifc.
-/
import Derived.RangeFuncNested
import Derived.OrdersIn
import Derived.RangeFuncCalls
import Derived.RangeFuncBox
import Derived.Stop.Asserts
import Derived.Test.YtfekpcimgncioaaGreatDoorWX6
open Nat renaming reduceAdd→aa,reduceMul→ah,zero_add→ap,le_refl→av,le_trans→aw,zero_le→bw,lt_succ_self→et,reduceSub→lo,not_lt_zero→ma
open Int renaming reduceToNat→ag,toNat_natCast→ai,reduceAdd→an
open Go renaming wp_region_lit→aj,Value→ak,World→am,wpList→au,TypeId→ay,Program→bz,Operand→cd,MapEntry→cg,run_underlying→cj,wpQuiet→cq,execOp→da,Deferred→dl
open List renaming mem_cons→ao,getElem?_eq_some_iff→ax,length_cons→az,length_append→a_,flatMap_append→be,take_of_length_le→bf,mem_singleton→bg,map_cons→bi,mem_cons_self→bj,mem_cons_of_mem→bm,mem_of_getElem?→bn,pairwise_cons→bq,mem_append→br,not_mem_nil→bt,nil_append→bv,length_nil→b_,flatMap_cons→ci,cons_append→cn,mem_map→cu,map_append→cz,mem_filter→c_,map_nil→db,length_map→dm,all_eq_true→dt,getElem?_drop→eb,mem_iff_getElem?→ej,filter_cons→ep,append_nil→fe,getElem?_map→fj,mem_map_of_mem→ft,length_filter_le→fu,filter_append→fx,nodup_cons→fz,range→gm,pairwise_append→gu,size_toArray→gz,append_toArray→jb,push_toArray→jk,pairwise_singleton→jq,mem_singleton_self→jt,filter_sublist→jy,nodup_nil→ku,pairwise_map→la,filter_nil→mb,map_map→ng,any_eq_false→ob,all_eq_false→pb,filter_congr→pd,length_singleton→pf,getElem_map→pg,flatMap_map→ph
open Go.Value renaming bool→ba
open Bool renaming and_eq_true→bh,false_ne_true→ei,not_eq_true'→ij,not_true→jg,not_false→jv
open Go.Oper renaming mk→bp,upon→nq,uponIn→pz,semAt→rb
open Go.Exit renaming inBlock→bu
open Array renaming getElem?_eq_some_iff→dj,replicate→fy,replicate_succ→iv,replicate_zero→iw,getElem?_setIfInBounds_ne→je
open Prod.mk renaming injEq→fc
open List.Pairwise renaming nil→kz,imp→oa
open List.cons renaming injEq→l_
open Prod renaming fst→qz
set_option maxHeartbeats 8000000
set_option linter.unusedSimpArgs false
set_option linter.unusedVariables false
set_option linter.unusedSectionVars false
namespace Go.Proofs.YtfekpcimgncioaaGreatDoor
open Go.Proofs.Tryz
open Go.RowKit Go.Lith
set_option maxRecDepth 100000
attribute [local irreducible] au cq eF bJ cD Code.wp
attribute [local congr] oG fS fT fU fV fW jR fX fY fZ gA gB gC gD gE gF gG gH eM eN gI gJ gL gM gN jT cW cX cA cU gK jS eO eP eQ gQ gR jU
variable{u x q:P3}{t:T3}{ts:List T3}
theorem alA{v:P3}(h:x.x=u.x∧x.y=u.y∧x.z=u.z):kZ u v x=v:=by
 rw[show x=u from P3.eq h.1 h.2.1 h.2.2];exact lO
theorem aeL{v:P3}(h:¬(x.x=u.x∧x.y=u.y∧x.z=u.z)):kZ u v x=x:=iA fun e=>h (by rw[e];exact⟨rfl,rfl,rfl⟩)
theorem pne{p:P3}:decide (¬(p.x=q.x∧p.y=q.y∧p.z=q.z))=decide (p≠q):=decide_eq_decide.2 ⟨fun h e=>h (by rw[e];exact⟨rfl,rfl,rfl⟩),fun h e=>h (P3.eq e.1 e.2.1 e.2.2)⟩
theorem agi{p:P3}:gS prog 54 [tr t,pt p,pt q] (.tuple #[tr (pI p q t),.bool (pI p q t).nd]):=by
 intro w;refine⟨bO func54 (by kernel_rfl),?_⟩;have m:=Mem.refl w
 go_enter func54,ntmps54
 apply nM 31 [4,1,0] m;simp only[↓aD,nB];intro g1 g2 g3 g4;refine⟨by omega,?_⟩;intro u m;refine mq m aF (by kernel_rfl) (iB 4 [3,2] ?_);simp only[↓aD,dJ,aS,ag,ah,aa];refine⟨by omega,?_⟩;refine aK (bS O O) (bN ?_);intro u m;refine gc ?_;simp only[zz];refine lY m 3 [] [17,18,19] (fun vs i=>vs=[]∧i=bI g1 [.int .i64 (kZ p q t.a).x,.int .i64 (kZ p q t.a).y,.int .i64 (kZ p q t.a).z,.int .i64 (t.b).x,.int .i64 (t.b).y,.int .i64 (t.b).z,.int .i64 (t.c).x,.int .i64 (t.c).y,.int .i64 (t.c).z] 39) ?_ ?_
 · intro K1 hK1
   refine bK O ?_ ?_<;>intro hc2
   ·
    apply Wi 6 [1,3,0] m;simp only[↓aD,aS,dJ,ag,ah,aa];refine⟨by omega,?_⟩;intro u m;exact hK1 _ _ _ (by kernel_rfl) m ⟨O,by rw[alA hc2] <;> rfl⟩
   ·
    apply aL 1 [0] m;simp only[↓aD];exact hK1 _ _ _ (by kernel_rfl) m ⟨O,by rw[aeL hc2] <;> rfl⟩
 · intro vs i wr m hI u
   obtain⟨rfl,rfl⟩:=hI;simp only[zF,zG] at m;simp only[zu,zF,zG];apply bF 21 [1,0] m;simp only[↓aD,an];refine⟨by omega,?_⟩;refine mq m aF (by kernel_rfl) (iB 4 [3,2] ?_);simp only[↓aD,dJ,aS,ag,ah,aa];refine⟨by omega,?_⟩;refine aK (bS O O) (bN ?_);intro u m;refine gc ?_;simp only[zz];refine lY m 3 [] [17,18,19] (fun vs i=>vs=[]∧i=bI g1 [.int .i64 (kZ p q t.a).x,.int .i64 (kZ p q t.a).y,.int .i64 (kZ p q t.a).z,.int .i64 (kZ p q t.b).x,.int .i64 (kZ p q t.b).y,.int .i64 (kZ p q t.b).z,.int .i64 (t.c).x,.int .i64 (t.c).y,.int .i64 (t.c).z] 39) ?_ ?_
   · intro K2 hK2
     refine bK O ?_ ?_<;>intro hc2
     ·
      apply Wi 6 [1,3,0] m;simp only[↓aD,aS,dJ,ag,ah,aa];refine⟨by omega,?_⟩;intro u m;exact hK2 _ _ _ (by kernel_rfl) m ⟨O,by rw[alA hc2] <;> rfl⟩
     ·
      apply aL 1 [0] m;simp only[↓aD];exact hK2 _ _ _ (by kernel_rfl) m ⟨O,by rw[aeL hc2] <;> rfl⟩
   · intro vs i wr m hI u
     obtain⟨rfl,rfl⟩:=hI;simp only[zF,zG] at m;simp only[zu,zF,zG];apply bF 21 [1,0] m;simp only[↓aD,an];refine⟨by omega,?_⟩;refine mq m aF (by kernel_rfl) (iB 4 [3,2] ?_);simp only[↓aD,dJ,aS,ag,ah,aa];refine⟨by omega,?_⟩;refine aK (bS O O) (bN ?_);intro u m;refine gc ?_;simp only[zz];refine lY m 3 [] [17,18,19] (fun vs i=>vs=[]∧i=bI g1 [.int .i64 (kZ p q t.a).x,.int .i64 (kZ p q t.a).y,.int .i64 (kZ p q t.a).z,.int .i64 (kZ p q t.b).x,.int .i64 (kZ p q t.b).y,.int .i64 (kZ p q t.b).z,.int .i64 (kZ p q t.c).x,.int .i64 (kZ p q t.c).y,.int .i64 (kZ p q t.c).z] 39) ?_ ?_
     · intro K3 hK3
       refine bK O ?_ ?_<;>intro hc2
       ·
        apply Wi 6 [1,3,0] m;simp only[↓aD,aS,dJ,ag,ah,aa];refine⟨by omega,?_⟩;intro u m;exact hK3 _ _ _ (by kernel_rfl) m ⟨O,by rw[alA hc2] <;> rfl⟩
       ·
        apply aL 1 [0] m;simp only[↓aD];exact hK3 _ _ _ (by kernel_rfl) m ⟨O,by rw[aeL hc2] <;> rfl⟩
     · intro vs i wr m hI u
       obtain⟨rfl,rfl⟩:=hI;simp only[zF,zG] at m;simp only[zu,zF,zG];apply bF 14 [2,0] m;simp only[↓aD,an];refine⟨by omega,?_⟩;refine mh m [false,true,true,true] [(1,true),(3,true),(0,true),(2,true),(4,true),(5,true),(6,true),(7,true),(9,true),(8,true),(10,true),(11,true),(12,true),(13,true),(14,true),(16,true),(15,true),(17,true),(18,true),(19,true),(20,false),(21,true)] aF (by kernel_rfl) (cB (fun _ _ _ _ _ h=>h)) (ol:=?_) ?hol ?_
       case hol=>simp only[zw,zQ,zR];try rfl
       intro u m;refine Oc 5 [2,2,2] ?_;simp only[↓aD,dJ,iG,aS,ag,ah,aa];refine⟨by omega,?_⟩;refine cF (fR O O) (cF aC (Lo O (fun hb=>aN dA aA O O (by decide) (by decide) O) (Lo O (fun hb=>aN dA aA O O (by decide) (by decide) O) ?_)));simp only[zz];refine Jk O (fun hb u m=>aZ (aX hb O) ((m.b 2 O).lies aH aA O O)) ?_;simp only[zz,zy,ap,aa,ah,ag];refine Jk O (fun hb u m=>aZ (aX hb O) ((m.b 2 O).lies aH aA O O)) ?_;simp only[zz,zy,ap,aa,ah,ag];refine Lo O (fun hb=>fR (aX hb O) (aX hb O)) (cF (cE O O O) (cF aC (Lo O (fun hb=>aN dA aA O O (by decide) (by decide) O) ?_)));simp only[zz];refine Lo O (fun hb=>aN dA aA O O (by decide) (by decide) O) ?_;simp only[zz];refine Jk O (fun hb u m=>aZ (aX hb O) ((m.b 2 O).lies aH aA O O)) ?_;simp only[zz,zy,ap,aa,ah,ag];refine Jk O (fun hb u m=>aZ (aX hb O) ((m.b 2 O).lies aH aA O O)) ?_;simp only[zz,zy,ap,aa,ah,ag];refine Lo O (fun hb=>fR (aX hb O) (aX hb O)) (cF (cE O O O) (cG ?_));simp only[zz];refine cL m 0 O O O aR (jO O) O ?_;intro u m;simp only[zy,zx,bQ,zF,zG,aa] at m;refine aI ⟨m.sel [false,true,true,true],?_⟩;refine cF aJ (bY ?_);apply bF 1 [] m;simp only[↓aD];refine nP O ⟨_,O,((m.b 0 O).full dK aR)⟩ O ?_;try simp only[zD,zE]
       exact⟨_,O,m.ext,by rw[pne,pne,pne] <;> rfl⟩
theorem ah0{p:P3}{k:Nat}(h:ts[k]? = some t):uQ p q (ts.take (k+1))=uQ p q (ts.take k)++if (pI p q t).nd then [pI p q t] else []:=by
 rw[cC h];unfold uQ;rw[cz,fx]
 congr 1
 rw[bi,db,ep,mb]
theorem Nc{p:P3}(hq:I3 q)(hx:I3 x):I3 (kZ p q x):=by
 unfold kZ;split
 · exact hq
 · exact hx
theorem aa6{p:P3}(hq:I3 q)(h:∀t∈ts,IT t):∀t∈uQ p q ts,IT t:=fun t ht=>by
 obtain⟨s,hs,rfl⟩:=cu.1 (c_.1 ht).1;have:=h s hs;exact⟨Nc hq this.a,Nc hq this.b,Nc hq this.c⟩
theorem alB{p:P3}(ts:List T3):(iC ts p q).length=(uQ p q ts).length:=sY _
theorem aeM{N cap:Nat}{A:Option Addr}{p:P3}[I3 p][I3 q](w:am)(hT:cJ w A N ts)(hN:N≤10000000):dR prog 22 [.slice A N cap,pt p,pt q] w (SL 39 9 ((iC ts p q).flatMap aP) (iC ts p q).length w):=by
 refine⟨bO func22 (by kernel_rfl),?_⟩;have m:=Mem.refl w;have htl:=hT.len
 go_enter func22,ntmps22
 apply nM 8 [0] m;simp only[↓aD];intro g1 g2 u m;refine aB aJ ?_;replace m:=m.nilO 39 9;apply aM 9 [0] m;simp only[↓aD,mC];refine cP [7,14] [9,10,11,15,16,17,18,19,20,21,22,23,24,25,26,27,28,29,30] (fun n vs wl=>∃(k:Nat) (A7:Option Addr) (cap7:Nat),vs=[.slice A7 (uQ p q (ts.take k)).length cap7,.int .i64 (k:Int)]∧Mem w wl [oI 39 9 A7 (uQ p q (ts.take k)).length cap7 ((uQ p q (ts.take k)).flatMap aP),bI g2 [.int .i64 q.x,.int .i64 q.y,.int .i64 q.z] 30,bI g1 [.int .i64 p.x,.int .i64 p.y,.int .i64 p.z] 30]∧(k≤N)∧(n=N-k)) ?_ ?_
 ·
  exact⟨_,0,_,_,O,m,bw _,O⟩
 · intro n vs wr hI u K1 hK1
   obtain⟨k,A7,cap7,rfl,m,hk,hn⟩:=hI;simp only[zu,zF,zG];apply aL 5 [0,0] m;simp only[↓aD];refine bK O ?_ ?_<;>intro hc1
   ·
    obtain⟨t,ht,_,a,rfl,hrow⟩:=hT.get (i:=k) (by omega);have hcs:=ah0 (p:=p) (q:=q) ht;have hcl:=afX p q (ts.take k);rw[List.length_take] at hcl;apply aL 5 [0] m;simp only[↓aD];refine aB (aG bZ aR O O (by omega) (by omega) (bX (ai _))) ?_;simp only[zz];refine aQ O ((hrow.ext m.ext).lies dK aR) ?_;simp only[zz];apply iH 8 [0,0,3,2,0] m;simp only[↓aD,nB,iG,aS,aa];intro g3 u m;refine wQ m O O (agi (t:=t) (p:=p) (q:=q)) 11 [0,0] ?_;simp only[↓aD,nB,iG,aa];intro g4 u m;refine dC O ?_ ?_<;>intro hc2
    ·
     rw[hc2,if_pos rfl] at hcs;apply aL 3 [0,0] m;simp only[↓aD,iG];refine nG O ?_;intro u g5 e_ h_ k_;replace m:=m.newB e_ h_ k_;simp only[zz];refine cS m 3 O O bZ kS O (by decide) O O O (m.b 0 O).rowsO (nQ O) (by omega) (by omega) ?_;intro A7 cap7 u m;simp only[zF,zG] at m;rw[show (uQ p q (ts.take k)).flatMap aP++_=(uQ p q (ts.take (k+1))).flatMap aP by rw[hcs,be];rfl] at m;have hll:(uQ p q (ts.take k)).length+1=(uQ p q (ts.take (k+1))).length:=by rw[hcs,a_];rfl
     rw[hll] at m;rw[hll];apply aM 7 [0] m;simp only[↓aD];refine⟨by omega,?_⟩;exact hK1 (N-(k+1)) _ _ (by omega) (by kernel_rfl) ⟨k+1,_,_,O,(m.sel [false,false,false,true,true,true]),by omega,O⟩
    ·
     rw[hc2,if_neg ei,fe] at hcs;apply aL 6 [0] m;simp only[↓aD];refine⟨by omega,?_⟩;rw[←hcs] at m ⊢;exact hK1 (N-(k+1)) _ _ (by omega) (by kernel_rfl) ⟨k+1,_,_,O,(m.sel [false,false,true,true,true]),by omega,O⟩
   ·
    obtain rfl:k=N:=by omega
    rw[show ts.take k=ts from bf (by omega)] at m ⊢;apply aL 4 [0] m;simp only[↓aD];refine bB O O (acH (ts:=uQ p q ts) _ ((m.o 0 O).tris (aa6 inferInstance hT.it)) (by have:=afX p q ts;omega)) ?_;rintro v u e_ ⟨A8,cap8,n8,hn8,rfl,h_⟩;replace m:=m.newO e_ h_;apply aM 3 [] m;simp only[↓aD];exact aY O O ⟨_,O,m.ext,⟨_,_,_,by rw[hn8,alB],O,(m.o 0 O)⟩⟩
end Go.Proofs.YtfekpcimgncioaaGreatDoor
namespace Go.Lith
open Go.RowKit
variable{q x:P3}
def qS(D:List (P3 × Hd))(p:P3):Hd:=(bL D p).getD ⟨none,0,0⟩
def nbK(p:P3)(q:P3):List P3:=if q≠p then [q] else []
def nbT(p:P3)(t:T3):List P3:=nbK p t.a++nbK p t.b++nbK p t.c
def oK(ts:List T3)(p:P3):List P3:=(ts.filter fun t=>t.has p).flatMap (nbT p)
theorem Gc{p:P3}:x∈nbK p q↔x=q∧x≠p:=by
 unfold nbK;split
 · rename_i h;rw[bg];exact⟨fun e=>⟨e,e▸h⟩,fun e=>e.1⟩
 · rename_i h;exact⟨fun e=>(by cases e),fun e=>absurd (e.1▸e.2) h⟩
theorem uE{ts:List T3}{p:P3}:x∈oK ts p↔Mm ts p x=true:=by
 unfold oK;rw[Ea,kU,List.mem_flatMap];constructor
 · rintro⟨t,ht,hx⟩
   obtain⟨h1,h2⟩:=c_.1 ht;unfold nbT at hx;rw[br,br,Gc,Gc,Gc] at hx;have hne:x≠p:=by rcases hx with (h | h) | h <;> exact h.2
   have hh:t.has x=true:=iJ.2 (by rcases hx with (h | h) | h <;> simp[h.1]);exact⟨hne,t,h1,h2,hh⟩
 · rintro⟨hne,t,h1,h2,hh⟩
   refine⟨t,c_.2 ⟨h1,h2⟩,?_⟩;unfold nbT;rw[br,br,Gc,Gc,Gc];rcases iJ.1 hh with e | e | e
   · exact .inl (.inl ⟨e,hne⟩)
   · exact .inl (.inr ⟨e,hne⟩)
   · exact .inr ⟨e,hne⟩
theorem alC{p:P3}(h:¬(q.x=p.x∧q.y=p.y∧q.z=p.z)):nbK p q=[q]:=if_pos fun e=>h (by rw[e];exact⟨rfl,rfl,rfl⟩)
theorem alD{p:P3}(h:¬¬(q.x=p.x∧q.y=p.y∧q.z=p.z)):nbK p q=[]:=if_neg fun k=>h fun e=>k (P3.eq e.1 e.2.1 e.2.2)
theorem alE{fs:List T3}{p:P3}{k:Nat}{t:T3}(h:fs[k]? = some t):(fs.take (k+1)).flatMap (nbT p)=(fs.take k).flatMap (nbT p)++nbK p t.a++nbK p t.b++nbK p t.c:=by
 rw[cC h,be,ci,List.flatMap_nil,fe];unfold nbT;simp only[List.append_assoc]
end Go.Lith
namespace Go.Proofs.YtfekpcimgncioaaGreatDoor
open Go.Proofs.Tryz
open Go.RowKit Go.Lith
set_option maxRecDepth 100000
attribute [local irreducible] au cq eF bJ cD Code.wp
attribute [local congr] oG fS fT fU fV fW jR fX fY fZ gA gB gC gD gE gF gG gH eM eN gI gJ gL gM gN jT cW cX cA cU gK jS eO eP eQ gQ gR jU
variable{t:T3}
theorem aa7{g90 ga gf N cap ca:Nat}{A:Option Addr}{ea:Array cg}{D:List (P3 × Hd)}{ts:List T3}{p:P3}(w:am)(hB90:fE w g90 [.slice A N cap,.map (some ga),.map (some gf)] 109)(hMa:iN w ga ea ca)(hDa:bA pt Hd.v D ea ca)(hS:∀p,cJ w (qS D p).A (qS D p).n (ts.filter fun t=>t.has p)∧(qS D p).n≤(qS D p).cap)(hN:ts.length≤10000000):dR prog 62 [.pointer (some ⟨g90,0,none⟩),pt p] w (fun v w'=>∃g es c,v=.map (some g)∧Mem w w' [mI g es c]∧bA pt ba (dX [] (oK ts p)) es c):=by
 refine⟨bO func62 (by kernel_rfl),?_⟩;have m:=Mem.refl w
 go_enter func62,ntmps62
 apply nM 7 [0] m;simp only[↓aD];intro g1 u m;refine iV m ?_;intro q8 u m;have hD8:=bA.nil (K:=P3) (V:=Bool) pt ba;apply aM 4 [0] m;simp only[↓aD];refine mq m aF (by kernel_rfl) (iB 3 [] ?_);simp only[↓aD,Tn,aa];refine ql O (fun u m=>((hB90.ext m.ext).lies1 afx O)) ?_;simp only[zz];refine ql O (fun u m=>((m.b 1 O).full aH aA)) ?_;simp only[zz];refine jZ (fun u m=>cR (ek:=pt) (en:=Hd.v) (k:=p) (v0:=⟨none,0,0⟩) underlying106 afv eK O O (hMa.ext m.ext) hDa) ?_;simp only[zz];refine aK (jD O bZ O) (aK aC (bN ?_));intro u m;simp only[zz];obtain⟨⟨A9,n9,cap9⟩,hhe⟩:∃h:Hd,h=(bL D p).getD ⟨none,0,0⟩:=⟨_,rfl⟩
 have hT9:=hS p;unfold qS at hT9;rw[←hhe] at hT9;obtain⟨hT9,hle9⟩:=hT9;simp only at hT9 hle9;have hl9:=hT9.len;have hfl:=fu (fun t=>T3.has t p) ts;rw[←hhe];simp only[Hd.v];apply bF 1 [0] m;simp only[↓aD];refine cP [18] [7,9,19,20,21,22,23,24,25,26,27,28,29,30,31,32] (fun n vs wl=>∃(k:Nat) (es:Array cg) (c:Nat),vs=[.int .i64 (k:Int)]∧Mem w wl [mI q8 es c,bI g1 [.int .i64 p.x,.int .i64 p.y,.int .i64 p.z] 30]∧(bA pt ba (dX [] (((ts.filter fun t=>t.has p).take k).flatMap (nbT p))) es c)∧(k≤n9)∧(n=n9-k)) ?_ ?_
 ·
  exact⟨_,0,_,_,O,m,hD8,bw _,O⟩
 · intro n vs wr hI u K1 hK1
   obtain⟨k,es8,c8,rfl,m,hD8,hk,hn⟩:=hI;simp only[zu,zF,zG];apply aL 5 [0,0] m;simp only[↓aD];refine bK O ?_ ?_<;>intro hc1
   ·
    obtain⟨t,ht,_,a,rfl,hrow⟩:=hT9.get (i:=k) (by omega);apply aL 5 [0] m;simp only[↓aD];refine aB (aG bZ aR O O (by omega) (by omega) (bX (ai _))) ?_;simp only[zz];refine aQ O ((hrow.ext m.ext).lies dK aR) ?_;simp only[zz];apply iH 22 [0,0,4,1,0] m;simp only[↓aD,nB,iG,aa];intro g3;refine⟨by omega,?_⟩;intro u m;refine aB (kF O O) ?_;apply iH 7 [0,0,3,0] m;simp only[↓aD,dN,aS,aa];intro g4 u m;refine aB (fR O O) ?_;apply aM 1 [0] m;simp only[↓aD];refine lY m 2 [] [29,30] (fun vs i=>∃(es:Array cg) (c:Nat),vs=[]∧i=mI q8 es c∧(bA pt ba (dX [] ((((ts.filter fun t=>t.has p).take k).flatMap (nbT p))++nbK p t.a)) es c)) ?_ ?_
    · intro K2 hK2
      refine bK O ?_ ?_<;>intro hc3
      ·
       apply aL 3 [0,0] m;simp only[↓aD,aS];refine eR (ek:=pt) (en:=ba) (a:=t.a) (v:=true) m 2 O iM eK O O O hD8 ?_;intro es8 c8 u m hD8;simp only[zF,zG] at m;rw[←jV] at hD8;apply aM 1 [0] m;simp only[↓aD];exact hK2 _ _ _ (by kernel_rfl) m ⟨_,_,O,O,by rw[alC hc3];exact hD8⟩
      ·
       apply aL 1 [0] m;simp only[↓aD];exact hK2 _ _ _ (by kernel_rfl) m ⟨_,_,O,O,by rw[alD hc3,fe];exact hD8⟩
    · intro vs i wr m hI u
      obtain⟨es8,c8,rfl,rfl,hD8⟩:=hI;simp only[zF,zG] at m;simp only[zu,zF,zG];apply bF 17 [1,0] m;simp only[↓aD,an];refine⟨by omega,?_⟩;refine aB (kG O O) ?_;apply iH 7 [0,0,4,0] m;simp only[↓aD,dN,aS,aa];intro g5 u m;refine aB (fR O O) ?_;apply aM 1 [0] m;simp only[↓aD];refine lY m 3 [] [29,30] (fun vs i=>∃(es:Array cg) (c:Nat),vs=[]∧i=mI q8 es c∧(bA pt ba (dX [] (((((ts.filter fun t=>t.has p).take k).flatMap (nbT p))++nbK p t.a)++nbK p t.b)) es c)) ?_ ?_
      · intro K3 hK3
        refine bK O ?_ ?_<;>intro hc3
        ·
         apply aL 3 [0,0] m;simp only[↓aD,aS];refine eR (ek:=pt) (en:=ba) (a:=t.b) (v:=true) m 3 O iM eK O O O hD8 ?_;intro es8 c8 u m hD8;simp only[zF,zG] at m;rw[←jV] at hD8;apply aM 1 [0] m;simp only[↓aD];exact hK3 _ _ _ (by kernel_rfl) m ⟨_,_,O,O,by rw[alC hc3];exact hD8⟩
        ·
         apply aL 1 [0] m;simp only[↓aD];exact hK3 _ _ _ (by kernel_rfl) m ⟨_,_,O,O,by rw[alD hc3,fe];exact hD8⟩
      · intro vs i wr m hI u
        obtain⟨es8,c8,rfl,rfl,hD8⟩:=hI;simp only[zF,zG] at m;simp only[zu,zF,zG];apply bF 17 [1,0] m;simp only[↓aD,an];refine⟨by omega,?_⟩;refine aB (kH O O) ?_;apply iH 7 [0,0,5,0] m;simp only[↓aD,dN,aS,aa];intro g6 u m;refine aB (fR O O) ?_;apply aM 1 [0] m;simp only[↓aD];refine lY m 4 [] [29,30] (fun vs i=>∃(es:Array cg) (c:Nat),vs=[]∧i=mI q8 es c∧(bA pt ba (dX [] ((((((ts.filter fun t=>t.has p).take k).flatMap (nbT p))++nbK p t.a)++nbK p t.b)++nbK p t.c)) es c)) ?_ ?_
        · intro K4 hK4
          refine bK O ?_ ?_<;>intro hc3
          ·
           apply aL 3 [0,0] m;simp only[↓aD,aS];refine eR (ek:=pt) (en:=ba) (a:=t.c) (v:=true) m 4 O iM eK O O O hD8 ?_;intro es8 c8 u m hD8;simp only[zF,zG] at m;rw[←jV] at hD8;apply aM 1 [0] m;simp only[↓aD];exact hK4 _ _ _ (by kernel_rfl) m ⟨_,_,O,O,by rw[alC hc3];exact hD8⟩
          ·
           apply aL 1 [0] m;simp only[↓aD];exact hK4 _ _ _ (by kernel_rfl) m ⟨_,_,O,O,by rw[alD hc3,fe];exact hD8⟩
        · intro vs i wr m hI u
          obtain⟨es8,c8,rfl,rfl,hD8⟩:=hI;simp only[zF,zG] at m;simp only[zu,zF,zG];apply bF 18 [2,0] m;simp only[↓aD,an];refine⟨by omega,?_⟩;exact hK1 (n9-(k+1)) _ _ (by omega) (by kernel_rfl) ⟨k+1,_,_,O,(m.sel [false,false,false,false,true,true]),by rw[alE ht];exact hD8,by omega,O⟩
   ·
    obtain rfl:k=n9:=by omega
    rw[show (ts.filter fun t=>t.has p).take k=ts.filter fun t=>t.has p from bf (by omega)] at hD8;apply aL 7 [] m;simp only[↓aD];exact aY O O ⟨_,O,m.ext,_,_,_,O,m.sel [true,false],hD8⟩
theorem alF{r:T3}[IT t][IT r]:gS prog 172 [tr t,tr r] (.int .i64 (akr t r)):=by
 intro w;refine⟨bO func172 (by kernel_rfl),?_⟩;have m:=Mem.refl w
 go_enter func172,ntmps172
 apply nM 7 [0] m;simp only[↓aD];intro g1 g2 u m;refine mq m aF (by kernel_rfl) (ql O (fun u m=>((m.b 1 O).full dK aR)) ?_);simp only[zz];refine kR O O Uk ?_;simp only[zz];refine ql O (fun u m=>((m.b 0 O).full dK aR)) ?_;simp only[zz];refine kR O O Uk ?_;simp only[zz];refine kR O O (Eo Bv.of Bv.of) ?_;simp only[zz];refine kR O O (Na Bw.up) (aK aJ (bN ?_));intro u m;apply bF 1 [] m;simp only[↓aD];exact aY O O ⟨_,O,m.ext,O⟩
theorem aeN{r:T3}{k:Nat}(hk:k<3)(h:Hy t k<Hx r k):Ol t r=false:=by
 unfold Ol ahF
 match k,hk with
 | 0,_=>simp[h]
 | 1,_=>simp[h]
 | 2,_=>simp[h]
theorem aeO{r:T3}{k:Nat}(hk:k<3)(h:Hy r k<Hx t k):Ol t r=false:=by
 unfold Ol ahF
 match k,hk with
 | 0,_=>simp[h]
 | 1,_=>simp[h]
 | 2,_=>simp[h]
theorem arv{r:T3}(h0:¬Hy t 0<Hx r 0)(h1:¬Hy t 1<Hx r 1)(h2:¬Hy t 2<Hx r 2)(g0:¬Hy r 0<Hx t 0)(g1:¬Hy r 1<Hx t 1)(g2:¬Hy r 2<Hx t 2):Ol t r=true:=by
 unfold Ol ahF;simp[h0,h1,h2,g0,g1,g2]
theorem arw{r:T3}:gS prog 175 [.agg #[.int .i64 (Hx t 0),.int .i64 (Hx t 1),.int .i64 (Hx t 2),.int .i64 (Hy t 0),.int .i64 (Hy t 1),.int .i64 (Hy t 2)],.agg #[.int .i64 (Hx r 0),.int .i64 (Hx r 1),.int .i64 (Hx r 2),.int .i64 (Hy r 0),.int .i64 (Hy r 1),.int .i64 (Hy r 2)]] (.bool (Ol t r)):=by
 intro w;refine⟨bO func175 (by kernel_rfl),?_⟩;have m:=Mem.refl w
 go_enter func175,ntmps175
 apply nM 29 [4,1] m;simp only[↓aD];intro g1 g2;refine⟨by omega,?_⟩;intro u m;by_cases h0:Hy t 0<Hx r 0
 ·
  refine gc (mq m aF (by kernel_rfl) ?_);refine iB 8 [1,0] ?_;simp only[↓aD,kW,nA,eW,kV,aa,ag,ah];refine⟨by omega,?_⟩;refine aK (sG O O h0) (aK aC (Iu O ?_));refine iB 9 [] ?_;simp only[↓aD];refine bN ?_;intro u m;apply bF 6 [] m;simp only[↓aD];refine aY O O ?_;try simp only[zD,zE]
  exact⟨_,O,m.ext,by rw[aeN (k:=0) (by decide) h0]⟩
 ·
  refine gc (mq m aF (by kernel_rfl) ?_);refine iB 8 [1,0] ?_;simp only[↓aD,kW,nA,eW,kV,aa,ag,ah];refine⟨by omega,?_⟩;refine aK (Hi O O h0) (aK aC (nS O (aK aC ?_)));refine iB 9 [0,1,0] ?_;simp only[↓aD,kW,nA,eW,kV,aa,ag,ah];refine⟨by omega,?_⟩;refine bN ?_;intro u m;refine gc (bK O (fun hc2=>?_) (fun hc2=>?_))
  ·
   have q0:=hc2;apply aL 5 [] m;simp only[↓aD];refine aY O O ?_;try simp only[zD,zE]
   exact⟨_,O,m.ext,by rw[aeO (k:=0) (by decide) q0]⟩
  ·
   have q0:=hc2;apply aL 22 [1] m;simp only[↓aD,an];refine⟨by omega,?_⟩;by_cases h1:Hy t 1<Hx r 1
   ·
    refine gc (mq m aF (by kernel_rfl) ?_);refine iB 8 [1,0] ?_;simp only[↓aD,kW,nA,eW,kV,aa,ag,ah];refine⟨by omega,?_⟩;refine aK (sG O O h1) (aK aC (Iu O ?_));refine iB 9 [] ?_;simp only[↓aD];refine bN ?_;intro u m;apply bF 6 [] m;simp only[↓aD];refine aY O O ?_;try simp only[zD,zE]
    exact⟨_,O,m.ext,by rw[aeN (k:=1) (by decide) h1]⟩
   ·
    refine gc (mq m aF (by kernel_rfl) ?_);refine iB 8 [1,0] ?_;simp only[↓aD,kW,nA,eW,kV,aa,ag,ah];refine⟨by omega,?_⟩;refine aK (Hi O O h1) (aK aC (nS O (aK aC ?_)));refine iB 9 [0,1,0] ?_;simp only[↓aD,kW,nA,eW,kV,aa,ag,ah];refine⟨by omega,?_⟩;refine bN ?_;intro u m;refine gc (bK O (fun hc2=>?_) (fun hc2=>?_))
    ·
     have q1:=hc2;apply aL 5 [] m;simp only[↓aD];refine aY O O ?_;try simp only[zD,zE]
     exact⟨_,O,m.ext,by rw[aeO (k:=1) (by decide) q1]⟩
    ·
     have q1:=hc2;apply aL 22 [1] m;simp only[↓aD,an];refine⟨by omega,?_⟩;by_cases h2:Hy t 2<Hx r 2
     ·
      refine gc (mq m aF (by kernel_rfl) ?_);refine iB 8 [1,0] ?_;simp only[↓aD,kW,nA,eW,kV,aa,ag,ah];refine⟨by omega,?_⟩;refine aK (sG O O h2) (aK aC (Iu O ?_));refine iB 9 [] ?_;simp only[↓aD];refine bN ?_;intro u m;apply bF 6 [] m;simp only[↓aD];refine aY O O ?_;try simp only[zD,zE]
      exact⟨_,O,m.ext,by rw[aeN (k:=2) (by decide) h2]⟩
     ·
      refine gc (mq m aF (by kernel_rfl) ?_);refine iB 8 [1,0] ?_;simp only[↓aD,kW,nA,eW,kV,aa,ag,ah];refine⟨by omega,?_⟩;refine aK (Hi O O h2) (aK aC (nS O (aK aC ?_)));refine iB 9 [0,1,0] ?_;simp only[↓aD,kW,nA,eW,kV,aa,ag,ah];refine⟨by omega,?_⟩;refine bN ?_;intro u m;refine gc (bK O (fun hc2=>?_) (fun hc2=>?_))
      ·
       have q2:=hc2;apply aL 5 [] m;simp only[↓aD];refine aY O O ?_;try simp only[zD,zE]
       exact⟨_,O,m.ext,by rw[aeO (k:=2) (by decide) q2]⟩
      ·
       have q2:=hc2;apply aL 19 [2] m;simp only[↓aD,an];refine⟨by omega,?_⟩;refine aY O O ?_;try simp only[zD,zE]
       exact⟨_,O,m.ext,by rw[arv h0 h1 h2 q0 q1 q2]⟩
end Go.Proofs.YtfekpcimgncioaaGreatDoor
namespace Go.Lith
open Go.RowKit
section
variable {P:bz} {l:List ak} {T ty:ay} {x y:cd} {k:IntKind} {m:Int}
theorem alG{n c:Nat}{E:ay}{a:Addr}(hu:P.underlying T=some (.array n E))(hc:dQ P E c)(hx:ev l x=.pointer (some a)) :
 iO P l (.slice T x none none none) ty (.slice (some a) n n):=fun w o ho _=>by
 have e:(if n=0 then a else a.add (0*c))=a:=by
  split
  · rfl
  · simp[Addr.add]
 simp[da,ho,bW,hx,Instr.sliceAt,Instr.sliceBounds,Instr.sliceBound,asIntOf,cj hu,fA hc,Instr.sureAddr,e];intro _;simp[Addr.add]
theorem aeP{n c q:Nat}{E:ay}{a a':Addr}(hu:P.underlying T=some (.array n E))(hc:dQ P E c)(hx:ev l x=.pointer (some a))(hy:ev l y=.int k m)(hq:m.toNat=q)(h0:0≤m)(h1:m≤n)(hA:(if n=q then a else a.add (q*c))=a') :
 iO P l (.slice T x (some y) none none) ty (.slice (some a') (n-q) (n-q)):=fun w o ho _=>by
 subst hq;subst hA;simp[da,ho,bW,hx,hy,Instr.sliceAt,Instr.sliceBounds,Instr.sliceBound,asIntOf,cj hu,fA hc,Instr.sureAddr,h0,h1]
theorem ah2{n len cap:Nat}{E:ay}{A:Option Addr}(hu:P.underlying T=some (.array n E))(hx:ev l x=.slice A len cap)(h:n≤len) :
 iO P l (.sliceToArrayPointer T x) ty (.pointer A):=fun w o ho _=>by
 have:¬len<n:=by omega
 simp[da,ho,bW,hx,Instr.arrayAt,cj hu,this]
end
end Go.Lith
namespace Go.Proofs.YtfekpcimgncioaaGreatDoor
open Go.Proofs.Tryz
open Go.RowKit Go.Lith
set_option maxRecDepth 100000
attribute [local irreducible] au cq eF bJ cD Code.wp
attribute [local congr] oG fS fT fU fV fW jR fX fY fZ gA gB gC gD gE gF gG gH eM eN gI gJ gL gM gN jT cW cX cA cU gK jS eO eP eQ gQ gR jU
variable{t:T3}{g90 g91 ga gf gx gy N cap cx cf nm cm no co nr cr cy:Nat}{A Am Ao Ar:Option Addr}{q k:P3}{os ms:List T3}
theorem Nd(m n:Int):(if n<m then n else m)=min m n:=by omega
theorem Nf(m n:Int):(if m<n then n else m)=max m n:=by omega
theorem acJ  : gS prog 173 [tr t] (.agg #[.int .i64 (Hx t 0),.int .i64 (Hx t 1),.int .i64 (Hx t 2),.int .i64 (Hy t 0),.int .i64 (Hy t 1),.int .i64 (Hy t 2)]):=by
 intro w;refine⟨bO func173 (by kernel_rfl),?_⟩;have m:=Mem.refl w
 go_enter func173,ntmps173
 apply nM 14 [1,1] m;simp only[↓aD,aev,dJ,jI,eW,jJ,ag,ah,aa];intro g1 g2;refine⟨by omega,?_⟩;intro u m;apply bF 13 [1,1,1,1] m;simp only[↓aD,kJ,eW,Ch,dJ,jI,jJ,aa,ag,ah];refine⟨by omega,?_⟩;apply zvn 7 [0,0] m;simp only[↓aD,aqN,aev,aeu,aa];intro g3 u m;refine aB (aeP dA aA O O O (by decide) (by decide) O) ?_;apply iH 27 [3,1,2,0,0] m;simp only[↓aD,reduceIte,wK,apo,aS,dN,jI,eW,jJ,Nat.reduceEqDiff,ah,aa,ag];intro g4;refine⟨by omega,?_⟩;intro u m;apply bF 21 [0,0,4,1,0] m;simp only[↓aD,eW,kJ,Ch,aa];refine⟨by omega,?_⟩;refine aB (kC O O) ?_;apply aM 3 [0] m;simp only[↓aD];refine lY m 1 [] [46,47,48,49,50,51,52,53,54,55,56,57,58,59,60,61,62,63] (fun vs i=>vs=[]∧i=bI g3 [.int .i64 (min t.a.x t.b.x),.int .i64 t.a.y,.int .i64 t.a.z,.int .i64 (max t.a.x t.b.x),.int .i64 t.a.y,.int .i64 t.a.z] 222) ?_ ?_
 · intro K1 hK1
   refine zvt [true,false,true,true] [[],[],[],[],[],[1],[],[],[],[],[],[1],[],[],[],[],[1],[],[],[1]] (.take 0 (.take 1 (.take 2 (.take 3 (.take 4 (.take 6 (.take 8 (.take 9 (.take 10 (.take 12 (.take 14 (.take 17 (.two 5 (.take 7 (.one 11 (.take 13 (.take 15 (.one 16 (.take 18 (.one 19 .nil))))))) 11 (.take 13 (.one 5 (.take 7 (.take 15 (.one 16 (.take 18 (.one 19 .nil)))))))))))))))))))) m aF (by kernel_rfl) (cB (fun _ _ _ _ _ h=>h)) ?_;simp only[↓aD,↓zzu,kV,nA,kW,eW,Nd,Nf,aa,ag,ah];refine⟨by omega,?_⟩;intro u m;exact gk (hK1 _ _ _ (by kernel_rfl) m ⟨O,(by first | rfl | trivial)⟩)
 · intro vs i wr m hI u
   obtain⟨rfl,rfl⟩:=hI;simp only[zF,zG] at m;simp only[zu,zF,zG];apply bF 18 [1,0] m;simp only[↓aD,an];refine⟨by omega,?_⟩;refine aB (kD O O) ?_;apply aM 3 [0] m;simp only[↓aD];refine lY m 1 [] [46,47,48,49,50,51,52,53,54,55,56,57,58,59,60,61,62,63] (fun vs i=>vs=[]∧i=bI g3 [.int .i64 (min t.a.x t.b.x),.int .i64 (min t.a.y t.b.y),.int .i64 t.a.z,.int .i64 (max t.a.x t.b.x),.int .i64 (max t.a.y t.b.y),.int .i64 t.a.z] 222) ?_ ?_
   · intro K2 hK2
     refine zvt [true,false,true,true] [[],[],[],[],[],[1],[],[],[],[],[],[1],[],[],[],[],[1],[],[],[1]] (.take 0 (.take 1 (.take 2 (.take 3 (.take 4 (.take 6 (.take 8 (.take 9 (.take 10 (.take 12 (.take 14 (.take 17 (.two 5 (.take 7 (.one 11 (.take 13 (.take 15 (.one 16 (.take 18 (.one 19 .nil))))))) 11 (.take 13 (.one 5 (.take 7 (.take 15 (.one 16 (.take 18 (.one 19 .nil)))))))))))))))))))) m aF (by kernel_rfl) (cB (fun _ _ _ _ _ h=>h)) ?_;simp only[↓aD,↓zzu,kV,nA,kW,eW,Nd,Nf,aa,ag,ah];refine⟨by omega,?_⟩;intro u m;exact gk (hK2 _ _ _ (by kernel_rfl) m ⟨O,(by first | rfl | trivial)⟩)
   · intro vs i wr m hI u
     obtain⟨rfl,rfl⟩:=hI;simp only[zF,zG] at m;simp only[zu,zF,zG];apply bF 18 [1,0] m;simp only[↓aD,an];refine⟨by omega,?_⟩;refine aB (kE O O) ?_;apply aM 3 [0] m;simp only[↓aD];refine lY m 1 [] [46,47,48,49,50,51,52,53,54,55,56,57,58,59,60,61,62,63] (fun vs i=>vs=[]∧i=bI g3 [.int .i64 (min t.a.x t.b.x),.int .i64 (min t.a.y t.b.y),.int .i64 (min t.a.z t.b.z),.int .i64 (max t.a.x t.b.x),.int .i64 (max t.a.y t.b.y),.int .i64 (max t.a.z t.b.z)] 222) ?_ ?_
     · intro K3 hK3
       refine zvt [true,false,true,true] [[],[],[],[],[],[1],[],[],[],[],[],[1],[],[],[],[],[1],[],[],[1]] (.take 0 (.take 1 (.take 2 (.take 3 (.take 4 (.take 6 (.take 8 (.take 9 (.take 10 (.take 12 (.take 14 (.take 17 (.two 5 (.take 7 (.one 11 (.take 13 (.take 15 (.one 16 (.take 18 (.one 19 .nil))))))) 11 (.take 13 (.one 5 (.take 7 (.take 15 (.one 16 (.take 18 (.one 19 .nil)))))))))))))))))))) m aF (by kernel_rfl) (cB (fun _ _ _ _ _ h=>h)) ?_;simp only[↓aD,↓zzu,kV,nA,kW,eW,Nd,Nf,aa,ag,ah];refine⟨by omega,?_⟩;intro u m;exact gk (hK3 _ _ _ (by kernel_rfl) m ⟨O,(by first | rfl | trivial)⟩)
     · intro vs i wr m hI u
       obtain⟨rfl,rfl⟩:=hI;simp only[zF,zG] at m;simp only[zu,zF,zG];apply zvn 34 [2,1,3,0] m;simp only[↓aD,apo,aS,dN,an,ag,ah,aa];intro g5;refine⟨by omega,?_⟩;intro u m;apply bF 25 [0,0,0,4,1] m;simp only[↓aD,jI,eW,jJ,kJ,Ch,aa];refine⟨by omega,?_⟩;apply bF 2 [0] m;simp only[↓aD];refine aB (kC O O) ?_;apply aM 3 [0] m;simp only[↓aD];refine lY m 2 [] [46,47,48,49,50,51,52,53,54,55,56,57,58,59,60,61,62,63] (fun vs i=>vs=[]∧i=bI g3 [.int .i64 (min (min t.a.x t.b.x) t.c.x),.int .i64 (min t.a.y t.b.y),.int .i64 (min t.a.z t.b.z),.int .i64 (max (max t.a.x t.b.x) t.c.x),.int .i64 (max t.a.y t.b.y),.int .i64 (max t.a.z t.b.z)] 222) ?_ ?_
       · intro K4 hK4
         refine zvt [true,true,false,true,true] [[],[],[],[],[],[2],[],[],[],[],[],[2],[],[],[],[],[2],[],[],[2]] (.take 0 (.take 1 (.take 2 (.take 3 (.take 4 (.take 6 (.take 8 (.take 9 (.take 10 (.take 12 (.take 14 (.take 17 (.two 5 (.take 7 (.one 11 (.take 13 (.take 15 (.one 16 (.take 18 (.one 19 .nil))))))) 11 (.take 13 (.one 5 (.take 7 (.take 15 (.one 16 (.take 18 (.one 19 .nil)))))))))))))))))))) m aF (by kernel_rfl) (cB (fun _ _ _ _ _ h=>h)) ?_;simp only[↓aD,↓zzu,kV,nA,kW,eW,Nd,Nf,aa,ag,ah];refine⟨by omega,?_⟩;intro u m;exact gk (hK4 _ _ _ (by kernel_rfl) m ⟨O,(by first | rfl | trivial)⟩)
       · intro vs i wr m hI u
         obtain⟨rfl,rfl⟩:=hI;simp only[zF,zG] at m;simp only[zu,zF,zG];apply bF 18 [1,0] m;simp only[↓aD,an];refine⟨by omega,?_⟩;refine aB (kD O O) ?_;apply aM 3 [0] m;simp only[↓aD];refine lY m 2 [] [46,47,48,49,50,51,52,53,54,55,56,57,58,59,60,61,62,63] (fun vs i=>vs=[]∧i=bI g3 [.int .i64 (min (min t.a.x t.b.x) t.c.x),.int .i64 (min (min t.a.y t.b.y) t.c.y),.int .i64 (min t.a.z t.b.z),.int .i64 (max (max t.a.x t.b.x) t.c.x),.int .i64 (max (max t.a.y t.b.y) t.c.y),.int .i64 (max t.a.z t.b.z)] 222) ?_ ?_
         · intro K5 hK5
           refine zvt [true,true,false,true,true] [[],[],[],[],[],[2],[],[],[],[],[],[2],[],[],[],[],[2],[],[],[2]] (.take 0 (.take 1 (.take 2 (.take 3 (.take 4 (.take 6 (.take 8 (.take 9 (.take 10 (.take 12 (.take 14 (.take 17 (.two 5 (.take 7 (.one 11 (.take 13 (.take 15 (.one 16 (.take 18 (.one 19 .nil))))))) 11 (.take 13 (.one 5 (.take 7 (.take 15 (.one 16 (.take 18 (.one 19 .nil)))))))))))))))))))) m aF (by kernel_rfl) (cB (fun _ _ _ _ _ h=>h)) ?_;simp only[↓aD,↓zzu,kV,nA,kW,eW,Nd,Nf,aa,ag,ah];refine⟨by omega,?_⟩;intro u m;exact gk (hK5 _ _ _ (by kernel_rfl) m ⟨O,(by first | rfl | trivial)⟩)
         · intro vs i wr m hI u
           obtain⟨rfl,rfl⟩:=hI;simp only[zF,zG] at m;simp only[zu,zF,zG];apply bF 18 [1,0] m;simp only[↓aD,an];refine⟨by omega,?_⟩;refine aB (kE O O) ?_;apply aM 3 [0] m;simp only[↓aD];refine lY m 2 [] [46,47,48,49,50,51,52,53,54,55,56,57,58,59,60,61,62,63] (fun vs i=>vs=[]∧i=bI g3 [.int .i64 (min (min t.a.x t.b.x) t.c.x),.int .i64 (min (min t.a.y t.b.y) t.c.y),.int .i64 (min (min t.a.z t.b.z) t.c.z),.int .i64 (max (max t.a.x t.b.x) t.c.x),.int .i64 (max (max t.a.y t.b.y) t.c.y),.int .i64 (max (max t.a.z t.b.z) t.c.z)] 222) ?_ ?_
           · intro K6 hK6
             refine zvt [true,true,false,true,true] [[],[],[],[],[],[2],[],[],[],[],[],[2],[],[],[],[],[2],[],[],[2]] (.take 0 (.take 1 (.take 2 (.take 3 (.take 4 (.take 6 (.take 8 (.take 9 (.take 10 (.take 12 (.take 14 (.take 17 (.two 5 (.take 7 (.one 11 (.take 13 (.take 15 (.one 16 (.take 18 (.one 19 .nil))))))) 11 (.take 13 (.one 5 (.take 7 (.take 15 (.one 16 (.take 18 (.one 19 .nil)))))))))))))))))))) m aF (by kernel_rfl) (cB (fun _ _ _ _ _ h=>h)) ?_;simp only[↓aD,↓zzu,kV,nA,kW,eW,Nd,Nf,aa,ag,ah];refine⟨by omega,?_⟩;intro u m;exact gk (hK6 _ _ _ (by kernel_rfl) m ⟨O,(by first | rfl | trivial)⟩)
           · intro vs i wr m hI u
             obtain⟨rfl,rfl⟩:=hI;simp only[zF,zG] at m;simp only[zu,zF,zG];apply zvn 32 [2,2,2,3] m;simp only[↓aD,aeu,an,aa];refine⟨by omega,?_⟩;intro u m;exact aY O ⟨_,O,((m.b 3 O).full afy Xp)⟩ ⟨_,O,m.ext,O⟩
theorem ah3{cy:Nat}{ex ey ef:Array cg}{X Y F:List (P3 × Bool)}{ts:List T3}{p:P3}(w:am)(hB91:fE w g91 [.pointer (some ⟨g90,0,none⟩),.int .i64 p.x,.int .i64 p.y,.int .i64 p.z,.int .i64 q.x,.int .i64 q.y,.int .i64 q.z,.map (some gx),.map (some gy),.slice Am nm cm,.slice Ao no co,.slice Ar nr cr] 218)(hB90:fE w g90 [.slice A N cap,.map (some ga),.map (some gf)] 109)(hMx:iN w gx ex cx)(hDx:bA pt ba X ex cx)(hMf:iN w gf ef cf)(hDf:bA pt ba F ef cf):dR prog 100 [.pointer (some ⟨g91,0,none⟩)] w (fun v _=>v=.bool ((bL X q).getD false && !(bL F p).getD false)):=by
 refine⟨bO func100 (by kernel_rfl),?_⟩;have m:=Mem.refl w
 go_enter func100,ntmps100
 apply iE 5 [0] m;simp only[↓aD];refine mq m aF (by kernel_rfl) (iB 3 [] ?_);simp only[↓aD,Tx,aa];refine ql O (fun u m=>((hB91.ext m.ext).lies1 vF O)) ?_;simp only[zz];refine iB 3 [] ?_;simp only[↓aD,Tw,aa];refine ql O (fun u m=>((hB91.ext m.ext).lies aH aA O O)) ?_;simp only[zz,zy,ap,aa,ah,ag];refine jZ (fun u m=>cR (ek:=pt) (en:=ba) (k:=q) (v0:=false) iM jE eK O O (hMx.ext m.ext) hDx) ?_;simp only[zz];refine aK aC (bP O (fun hb=>aC) (bP O (fun hb=>eV (aX hb O)) (bP O (fun hb=>bD (c:=0) oQ O Sa (aX hb O) O) ?_)));simp only[zz];refine dM O (fun hb u m=>aZ (aX hb O) ((hB91.ext m.ext).lies1 aaj O)) (bP O (fun hb=>eV (aX hb O)) (bP O (fun hb=>bD (c:=0) underlying109 O Fo (aX hb O) O) ?_));simp only[zz];refine dM O (fun hb u m=>aZ (aX hb O) ((hB90.ext m.ext).lies1 vF O)) (bP O (fun hb=>aC) (bP O (fun hb=>eV (aX hb O)) (bP O (fun hb=>bD (c:=2) oQ O aA (aX hb O) O) ?_)));simp only[zz];refine dM O (fun hb u m=>aZ (aX hb O) ((hB91.ext m.ext).lies aH aA O O)) ?_;simp only[zz,zy,ap,aa,ah,ag];refine dM O (fun hb u m=>cR (ek:=pt) (en:=ba) (k:=p) (v0:=false) iM jE eK (aX hb O) (aX hb O) (hMf.ext m.ext) hDf) ?_;simp only[zz];refine bP O (fun hb=>mH (aX hb O)) (aK (cE O O O) (aK aJ (bN ?_)));intro u m;apply bF 1 [] m;simp only[↓aD];exact aY O O ⟨_,O,m.ext,O⟩
def If(Y:List (P3 × Bool))(dn:List (P3 × Bool)):Nat:=((dn.map (·.1)).filter fun k=>(bL Y k).getD false).length
theorem arx{Y dn:List (P3 × Bool)}{b:Bool}(h:(bL Y k).getD false=true):If Y (dn++[(k,b)])=If Y dn+1:=by
 unfold If;rw[cz,fx,a_];simp[h]
theorem ary{Y dn:List (P3 × Bool)}{b:Bool}(h:(bL Y k).getD false=false):If Y (dn++[(k,b)])=If Y dn:=by
 unfold If;rw[cz,fx,a_];simp[h]
theorem agj(Y dn:List (P3 × Bool)):If Y dn≤dn.length:=by
 unfold If;have:=fu (fun k=>(bL Y k).getD false) (dn.map (·.1));rwa [dm] at this
theorem ah4{Y dn D:List (P3 × Bool)}(h:dn.Perm D):If Y dn=If Y D:=by
 unfold If;exact ((h.map qz).filter _).length_eq
theorem ah5{cf:Nat}{ex ey ef:Array cg}{X Y F:List (P3 × Bool)}{ts:List T3}{p:P3}(w:am)(hB91:fE w g91 [.pointer (some ⟨g90,0,none⟩),.int .i64 p.x,.int .i64 p.y,.int .i64 p.z,.int .i64 q.x,.int .i64 q.y,.int .i64 q.z,.map (some gx),.map (some gy),.slice Am nm cm,.slice Ao no co,.slice Ar nr cr] 218)(hB90:fE w g90 [.slice A N cap,.map (some ga),.map (some gf)] 109)(hMx:iN w gx ex cx)(hDx:bA pt ba X ex cx)(hMy:iN w gy ey cy)(hDy:bA pt ba Y ey cy)(hXl:X.length≤100000000):dR prog 101 [.pointer (some ⟨g91,0,none⟩)] w (fun v _=>v=.bool (decide (If Y X=2))):=by
 refine⟨bO func101 (by kernel_rfl),?_⟩;have m:=Mem.refl w
 go_enter func101,ntmps101
 apply iE 14 [0] m;simp only[↓aD,Tx,aa];refine aQ O ((hB91.ext m.ext).lies1 vF O) ?_;simp only[zz];refine sQ m iM O (hMx.ext m.ext) ?_;intro r1 u m;apply aM 2 [0] m;simp only[↓aD];refine cP [3] [4,10,11,12,13,14,15,16,17,18,19,20,21] (fun n vs wl=>∃(dn rs:List (P3 × Bool)) (sn:Array Nat) (cc:Nat),vs=[.int .i64 (cc:Int)]∧Mem w wl [iI r1 gx cx sn]∧(lP pt ba X ex sn dn rs)∧(cc=If Y dn)∧(n=rs.length)) ?_ ?_
 ·
  exact⟨_,[],X,#[],0,O,m,lP.start hDx,O,O⟩
 · intro n vs wr hI u K1 hK1
   obtain⟨dn,rs,sn,cc,rfl,m,hT,hcc0,hn⟩:=hI;have hlen:=hT.len;simp only[zu,zF,zG];apply aL 2 [0] m;simp only[↓aD];refine Dr m 0 O O (hMx.ext m.ext) hDx hT ?_;intro bb kk vv sn u m hN;simp only[zF,zG] at m;refine aB (nL O) ?_;apply aM 2 [0] m;simp only[↓aD];refine dC O ?_ ?_<;>intro hc1
   ·
    obtain⟨kp,kb,rs2,hp,hT2⟩:=Cd hc1 hN;apply aL 4 [0] m;simp only[↓aD];refine eD (pQ O (m.r 0 O) (hMx.ext m.ext) hDx hT2) ?_;simp only[zz];apply iH 5 [0,0] m;simp only[↓aD,dN,aS,aa];intro g2 u m;refine mq m aF (by kernel_rfl) (iB 3 [] ?_);simp only[↓aD,akJ,aa];refine ql O (fun u m=>((hB91.ext m.ext).lies1 vF O)) ?_;simp only[zz];refine ql O (fun u m=>((m.b 0 O).full aH aA)) ?_;simp only[zz];refine jZ (fun u m=>cR (ek:=pt) (en:=ba) (k:=kp) (v0:=false) iM jE eK O O (hMy.ext m.ext) hDy) ?_;simp only[zz];refine bN ?_;intro u m;refine gc (dC O (fun hc2=>?_) (fun hc2=>?_))
    ·
     apply aL 2 [0] m;simp only[↓aD];refine aB (fH O O (bH (by have:=agj Y dn;omega) (by have:=agj Y dn;omega))) ?_;apply aM 3 [0] m;simp only[↓aD];exact hK1 rs2.length _ _ (by rw[hn,hp.length_eq];exact et _) (by kernel_rfl) ⟨dn++[(kp,kb)],rs2,_,cc+1,O,(m.sel [false,true]),hT2,by rw[arx hc2,hcc0],O⟩
    ·
     apply aL 2 [0] m;simp only[↓aD];exact hK1 rs2.length _ _ (by rw[hn,hp.length_eq];exact et _) (by kernel_rfl) ⟨dn++[(kp,kb)],rs2,_,cc,O,(m.sel [false,true]),hT2,by rw[ary hc2,hcc0],O⟩
   ·
    obtain rfl:=Cc hc1 hN;have hcc:=ah4 (Y:=Y) hT.done;apply aL 8 [0] m;simp only[↓aD];refine aY O O ?_;try simp only[zD,zE]
    exact⟨_,O,m.ext,by rw[←hcc,←hcc0];exact congrArg ba (decide_eq_decide.2 (by omega))⟩
def ah6(F Y:List (P3 × Bool))(q k:P3):Bool:=decide (¬(k.x=q.x∧k.y=q.y∧k.z=q.z))&&(bL F k).getD false && !(bL Y k).getD false
def aa8(X Y F:List (P3 × Bool))(q:P3):Bool:=!(bL F q).getD false||(X.map qz).all fun k=>!ah6 F Y q k
theorem arz{X Y F:List (P3 × Bool)}(h:(!(bL F q).getD false)=true):aa8 X Y F q=true:=by unfold aa8;rw[h];rfl
theorem aor{X Y F:List (P3 × Bool)}{b:Bool}{dn rs:List (P3 × Bool)}(h:(!(bL F q).getD false)=false)(hp:(dn++[(k,b)]++rs).Perm X)(hb:ah6 F Y q k=true):aa8 X Y F q=false:=by
 unfold aa8;rw[h,Bool.false_or,pb];refine⟨k,cu.2 ⟨(k,b),hp.mem_iff.1 (by simp),O⟩,by rw[hb];decide⟩
theorem alH{X Y F:List (P3 × Bool)}{dn:List (P3 × Bool)}(hp:dn.Perm X)(hb:∀x∈dn,ah6 F Y q x.1=false):aa8 X Y F q=true:=by
 unfold aa8;rw[Bool.or_eq_true];refine .inr (dt.2 fun k hk=>?_);obtain⟨x,hx,rfl⟩:=cu.1 hk;rw[hb x (hp.mem_iff.2 hx)];rfl
theorem alI{ex ey ef:Array cg}{X Y F:List (P3 × Bool)}{ts:List T3}{p:P3}(w:am)(hB91:fE w g91 [.pointer (some ⟨g90,0,none⟩),.int .i64 p.x,.int .i64 p.y,.int .i64 p.z,.int .i64 q.x,.int .i64 q.y,.int .i64 q.z,.map (some gx),.map (some gy),.slice Am nm cm,.slice Ao no co,.slice Ar nr cr] 218)(hB90:fE w g90 [.slice A N cap,.map (some ga),.map (some gf)] 109)(hMx:iN w gx ex cx)(hDx:bA pt ba X ex cx)(hMy:iN w gy ey cy)(hDy:bA pt ba Y ey cy)(hMf:iN w gf ef cf)(hDf:bA pt ba F ef cf):dR prog 103 [.pointer (some ⟨g91,0,none⟩)] w (fun v _=>v=.bool (aa8 X Y F q)):=by
 refine⟨bO func103 (by kernel_rfl),?_⟩;have m:=Mem.refl w
 go_enter func103,ntmps103
 apply iE 6 [0] m;simp only[↓aD];refine mq m aF (by kernel_rfl) (iB 3 [] ?_);simp only[↓aD,akI,aa];refine ql O (fun u m=>((hB91.ext m.ext).lies1 aaj O)) ?_;simp only[zz];refine aK (eV O) (iB 1 [] ?_);simp only[↓aD,To,aa];refine ql O (fun u m=>((hB90.ext m.ext).lies1 vF O)) ?_;simp only[zz];refine iB 3 [] ?_;simp only[↓aD,Tw,aa];refine ql O (fun u m=>((hB91.ext m.ext).lies aH aA O O)) ?_;simp only[zz,zy,ap,aa,ah,ag];refine jZ (fun u m=>cR (ek:=pt) (en:=ba) (k:=q) (v0:=false) iM jE eK O O (hMf.ext m.ext) hDf) ?_;simp only[zz];refine aK (mH O) (bN ?_);intro u m;refine gc ?_;simp only[zz];refine dC O ?_ ?_<;>intro hc1
 ·
  apply aL 5 [] m;simp only[↓aD];refine aY O O ?_;try simp only[zD,zE]
  exact⟨_,O,m.ext,by rw[arz hc1]⟩
 ·
  apply aL 7 [0] m;simp only[↓aD,Tx,aa];refine aQ O ((hB91.ext m.ext).lies1 vF O) ?_;simp only[zz];refine sQ m iM O (hMx.ext m.ext) ?_;intro r1 u m;apply aM 2 [0] m;simp only[↓aD];refine cP [] [2,3,22,23,24,25,26,27,28,29,30,31,32,33,34,35,36,37,38,39,40,41,42,43,44,45,46,47,48,49,50,51] (fun n vs wl=>∃(dn rs:List (P3 × Bool)) (sn:Array Nat),vs=[]∧Mem w wl [iI r1 gx cx sn]∧(lP pt ba X ex sn dn rs)∧(∀x∈dn,ah6 F Y q x.1=false)∧(n=rs.length)) ?_ ?_
  ·
   exact⟨_,[],X,#[],rfl,m,lP.start hDx,(fun x h=>(by cases h)),rfl⟩
  · intro n vs wr hI u K1 hK1
    obtain⟨dn,rs,sn,rfl,m,hT,hb0,hn⟩:=hI;simp only[zu,zF,zG];apply aL 2 [0] m;simp only[↓aD];refine Dr m 0 O O (hMx.ext m.ext) hDx hT ?_;intro bb kk vv sn u m hN;simp only[zF,zG] at m;refine aB (nL O) ?_;apply aM 2 [0] m;simp only[↓aD];refine dC O ?_ ?_<;>intro hc2
    ·
     obtain⟨kp,kb,rs2,hp,hT2⟩:=Cd hc2 hN;apply aL 4 [0] m;simp only[↓aD];refine eD (pQ O (m.r 0 O) (hMx.ext m.ext) hDx hT2) ?_;simp only[zz];apply iH 5 [0,0] m;simp only[↓aD,dN,aS,aa];intro g2 u m;refine mq m aF (by kernel_rfl) (iB 4 [0] ?_);simp only[↓aD,aS,Tw,aa];refine ql O (fun u m=>((hB91.ext m.ext).lies aH aA O O)) ?_;simp only[zz,zy,ap,aa,ah,ag];refine aK (fR O O) (aK aC (bP O (fun hb=>aC) (bP O (fun hb=>eV (aX hb O)) ?_)));simp only[zz];refine bP O (fun hb=>bD (c:=0) oQ O Sa (aX hb O) O) ?_;simp only[zz];refine dM O (fun hb u m=>aZ (aX hb O) ((hB91.ext m.ext).lies1 aaj O)) (bP O (fun hb=>eV (aX hb O)) (bP O (fun hb=>bD (c:=0) underlying109 O Fo (aX hb O) O) ?_));simp only[zz];refine dM O (fun hb u m=>aZ (aX hb O) ((hB90.ext m.ext).lies1 vF O)) (dM O (fun hb u m=>aZ O ((m.b 0 O).full aH aA)) (dM O (fun hb u m=>cR (ek:=pt) (en:=ba) (k:=kp) (v0:=false) iM jE eK (aX hb O) (aX hb O) (hMf.ext m.ext) hDf) ?_));simp only[zz];refine aK (cE O O O) (aK aC (bP O (fun hb=>aC) (bP O (fun hb=>eV (aX hb O)) ?_)));simp only[zz];refine bP O (fun hb=>bD (c:=0) oQ O Fo (aX hb O) O) ?_;simp only[zz];refine dM O (fun hb u m=>aZ (aX hb O) ((hB91.ext m.ext).lies1 vF O)) (dM O (fun hb u m=>aZ O ((m.b 0 O).full aH aA)) (dM O (fun hb u m=>cR (ek:=pt) (en:=ba) (k:=kp) (v0:=false) iM jE eK (aX hb O) (aX hb O) (hMy.ext m.ext) hDy) ?_));simp only[zz];refine bP O (fun hb=>mH (aX hb O)) (aK (cE O O O) (bN ?_));intro u m;refine gc ?_;simp only[zz];refine dC O ?_ ?_<;>intro hc3
     ·
      apply aL 5 [] m;simp only[↓aD];refine aY O O ?_;try simp only[zD,zE]
      exact⟨_,O,m.ext,by rw[aor hc1 hT2.1 hc3]⟩
     ·
      apply aL 2 [0] m;simp only[↓aD];exact hK1 rs2.length _ _ (by rw[hn,hp.length_eq];exact et _) (by kernel_rfl) ⟨dn++[(kp,kb)],rs2,_,O,(m.sel [false,true]),hT2,(fun x hx=>(br.1 hx).elim (hb0 x) fun h=>(by rw[bg.1 h];exact hc3)),O⟩
    ·
     obtain rfl:=Cc hc2 hN;apply aL 6 [] m;simp only[↓aD];refine aY O O ?_;try simp only[zD,zE]
     exact⟨_,O,m.ext,by rw[alH hT.done hb0]⟩
theorem Ig  : decide (bR t.normal.x=0∧bR t.normal.y=0∧bR t.normal.z=0)=oO t:=by
 unfold oO;refine decide_eq_decide.2 ?_;rw[iT,iT,iT];show (uV t.a t.b t.c).x=0∧(uV t.a t.b t.c).y=0∧(uV t.a t.b t.c).z=0↔_
 unfold Py;generalize uV t.a t.b t.c=n;by_cases h1:n.x=0 <;> by_cases h2:n.y=0 <;> by_cases h3:n.z=0 <;> simp[h1,h2,h3]
def ah7(o t:T3):Bool:=!oO t&&decide (akr o t=1)
def aeQ(os ms:List T3):Bool:=(os.zip ms).all fun x=>ah7 x.1 x.2
theorem alJ{k:Nat}{x:T3 × T3}:(os.zip ms)[k]? = some x↔os[k]? = some x.1∧ms[k]? = some x.2:=by
 obtain⟨a,b⟩:=x;rw[List.getElem?_zip_eq_some]
theorem aos{k:Nat}{o:T3}(ho:os[k]? = some o)(ht:ms[k]? = some t)(h:(oO t||decide (¬akr o t=1))=true):aeQ os ms=false:=by
 unfold aeQ;rw[pb];refine⟨(o,t),bn (alJ.2 ⟨ho,ht⟩),?_⟩;unfold ah7;cases hf:oO t <;> rw[hf] at h <;> simp at h ⊢;exact h
theorem alK(h:∀(j:Nat) (o t:T3),os[j]? = some o→ms[j]? = some t→ah7 o t=true):aeQ os ms=true:=by
 unfold aeQ;rw[dt];intro x hx;obtain⟨j,hj⟩:=ej.1 hx;obtain⟨h1,h2⟩:=alJ.1 hj;exact h j _ _ h1 h2
theorem atu{o:T3}(h:(oO t||decide (¬akr o t=1))=false):ah7 o t=true:=by
 unfold ah7;cases hf:oO t <;> rw[hf] at h <;> simp at h ⊢;exact h
theorem aeR{cx cy cf:Nat}{ex ey ef:Array cg}{X Y F:List (P3 × Bool)}{ts:List T3}{p:P3}(w:am)(hB91:fE w g91 [.pointer (some ⟨g90,0,none⟩),.int .i64 p.x,.int .i64 p.y,.int .i64 p.z,.int .i64 q.x,.int .i64 q.y,.int .i64 q.z,.map (some gx),.map (some gy),.slice Am nm cm,.slice Ao no co,.slice Ar nr cr] 218)(hB90:fE w g90 [.slice A N cap,.map (some ga),.map (some gf)] 109)(hTm:cJ w Am nm ms)(hTo:cJ w Ao no os)(hno:no=nm)(hN:nm≤10000000):dR prog 104 [.pointer (some ⟨g91,0,none⟩)] w (fun v _=>v=.bool (aeQ os ms)):=by
 refine⟨bO func104 (by kernel_rfl),?_⟩;have m:=Mem.refl w;subst hno
 go_enter func104,ntmps104
 apply iE 10 [0] m;simp only[↓aD,Kf,aa];refine aQ O ((hB91.ext m.ext).lies1 nW O) ?_;simp only[zz];apply aM 4 [0] m;simp only[↓aD,mC];refine cP [10] [2,3,4,11,12,13,14,15,16,17,18,19,20,21,22,23,24,25,26,27,28,29] (fun n vs wl=>∃(k:Nat),vs=[.int .i64 (k:Int)]∧Mem w wl []∧(∀(j:Nat) (o t:T3),j<k→os[j]? = some o→ms[j]? = some t→ah7 o t=true)∧(k≤no)∧(n=no-k)) ?_ ?_
 ·
  exact⟨_,0,O,m,(fun j o t h=>by omega),bw _,O⟩
 · intro n vs wr hI u K1 hK1
   obtain⟨k,rfl,m,hu0,hk,hn⟩:=hI;simp only[zu,zF,zG];apply aL 5 [0,0] m;simp only[↓aD];refine bK O ?_ ?_<;>intro hc1
   ·
    obtain⟨t,ht,hti,a,rfl,hrow⟩:=hTm.get (i:=k) (by omega);obtain⟨o,ho,hoi,a2,rfl,hrow2⟩:=hTo.get (i:=k) (by omega);apply aL 6 [0] m;simp only[↓aD];refine aB (aG bZ aR O O (by omega) (by omega) (bX (ai _))) ?_;simp only[zz];refine aQ O ((hrow.ext m.ext).lies dK aR) ?_;simp only[zz];apply iH 5 [0,0] m;simp only[↓aD,nB,iG,aa];intro g1 u m;refine mq m aF (by kernel_rfl) (ql O (fun u m=>((m.b 0 O).full dK aR)) ?_);simp only[zz];refine kR O O (aa3 (t:=t)) (aK aC (cY O (fun hb=>aC) (cY O (fun hb=>eV (aX hb O)) ?_)));simp only[zz];refine cY O (fun hb=>bD (c:=0) oQ O iU (aX hb O) O) ?_;simp only[zz];refine fQ O (fun hb u m=>aZ (aX hb O) ((hB91.ext m.ext).lies1 nW O)) (cY O (fun hb=>aC) ?_);simp only[zz];refine cY O (fun hb=>aG bZ aR (aX hb O) (aX hb O) (by omega) (by omega) (bX (ai _))) ?_;simp only[zz];refine fQ O (fun hb u m=>aZ (aX hb O) ((hrow2.ext m.ext).lies dK aR)) (fQ O (fun hb u m=>aZ O ((m.b 0 O).full dK aR)) (afo O O (fun hb=>by simp only[List.toList_toArray,bi,db,zA,zB,zC,zD,zE,hb,lN];rfl) (fun hb=>alF (t:=o) (r:=t)) (cY rfl (fun hb=>uT (aX hb rfl) rfl) (aK (eG rfl rfl rfl) (bN ?_)))));intro u m;refine gc ?_;simp only[zz];refine dC O ?_ ?_<;>intro hc2
    ·
     rw[Ig] at hc2;apply aL 5 [] m;simp only[↓aD];refine aY O O ?_;try simp only[zD,zE]
     exact⟨_,O,m.ext,by rw[aos ho ht hc2]⟩
    ·
     rw[Ig] at hc2;apply aL 6 [0] m;simp only[↓aD];refine⟨by omega,?_⟩;exact hK1 (no-(k+1)) _ _ (by omega) (by kernel_rfl) ⟨k+1, rfl, (m.sel [false]), (fun j o2 t2 hj h1 h2 => by
      rcases Nat.lt_or_ge j k with h | h
      · exact hu0 j o2 t2 h h1 h2
      · obtain rfl:j=k:=by omega
        rw[ho] at h1;rw[ht] at h2;cases h1;cases h2;exact atu hc2),by omega,O⟩
   ·
    apply aL 6 [] m;simp only[↓aD];refine aY O O ?_;try simp only[zD,zE]
    exact⟨_,O,m.ext,by rw[alK fun j o t h1 h2=>hu0 j o t (by have:=(ax.1 h1).1;have:=hTo.len;omega) h1 h2]⟩
theorem ah8{w:am}{ts:List T3}(h:cJ w A N ts)(hA:A.isNone=true):ts=[]:=by
 cases A with
 | some a=>cases hA
 | none =>
  cases ts with
  | nil=>rfl
  | cons t ts =>
   obtain⟨a,e,_⟩:=h.row 0 t rfl;cases e
theorem alL{ts:List T3}(w:am)(hT:cJ w A N ts)(hN:N≤10000000):dR prog 169 [.slice A N cap] w (SL 39 9 (ts.flatMap aP) ts.length w):=by
 refine⟨bO func169 (by kernel_rfl),?_⟩;have m:=Mem.refl w;have htl:=hT.len
 go_enter func169,ntmps169
 apply iE 8 [0] m;simp only[↓aD];refine aB (Jc bZ O O) ?_;apply aM 1 [0] m;simp only[↓aD];refine dC O ?_ ?_<;>intro hc1
 ·
  obtain rfl:=ah8 hT hc1;apply aL 5 [] m;simp only[↓aD];exact aY O O ⟨_,O,m.ext,⟨none,0,0,O,O,Ow.nil _ _ _ _⟩⟩
 ·
  apply aL 3 [0] m;simp only[↓aD];refine Je bZ (c:=9) (by kernel_rfl)  ?_;intro u g1 e_ h_ k_;replace m:=m.newB e_ h_ k_;simp only[zz];replace m:=m.own 0 O (n:=0) (c:=9) O (jO O);simp only[zG] at m;apply aM 1 [0] m;simp only[↓aD];refine cS m 0 O O bZ kS O (by decide) O O (by rw[Ji,hT.len]) (cJ.cells (hT.ext m.ext)) (rF _) (by omega) (by omega) ?_;intro A5 cap5 u m;simp only[zF,zG] at m;simp only[ap,bv] at m ⊢;apply aM 3 [] m;simp only[↓aD];exact aY O O ⟨_,O,m.ext,⟨_,_,_,htl.symm,O,(m.o 0 O)⟩⟩
end Go.Proofs.YtfekpcimgncioaaGreatDoor
namespace Go.Lith
open Go.RowKit
variable{t:T3}{f:P3→P3}{l ts us:List T3}{x y a u c:P3}{D:List Mv}{m:Mv}
theorem acK{u:T3}(h:aaD t u):tX u=tX t:=by
 have k:=aaE h;have e:∀s:T3,tX s = !s.nd:=fun s=>by
  cases hd:s.nd with
  | true =>
   obtain⟨h1,h2,h3⟩:=uP.1 hd;simp[tX,h1,h2,h3]
  | false =>
   rcases ako.1 hd with h | h | h <;> simp[tX,h]
 rw[e,e,k]
theorem atv(h:(t.mapP f).nd=false):hF f t=[]:=if_neg (by rw[h];exact ei)
theorem arA(h:(t.mapP f).nd=true):hF f t=[eX (t.mapP f)]:=if_pos h
/-! ### Corners in order -/
theorem agk{p:P3}:∀{ps:List P3},sU ps→(ps.dropWhile fun x=>decide (x.Lt p)).head? ≠ some p→∀x∈ps.dropWhile fun x=>decide (x.Lt p),p.Lt x
 | [],_,_,x,h=>by cases h
 | y::ys,hs,hp,x,h=>by
  obtain⟨h1,h2⟩:=bq.1 hs;rw[List.dropWhile_cons] at h hp;split at h
  · rename_i hy
    rw[if_pos hy] at hp;exact agk h2 hp x h
  · rename_i hy
    rw[if_neg hy] at hp;have hy':p.Lt y:=by
     rcases lt_tri y p with k | k | k
     · exact absurd (decide_eq_true k) hy
     · rw[k] at hp;exact absurd O hp
     · exact k
    rcases ao.1 h with rfl | h
    · exact hy'
    · exact P3.lt_trans hy' (h1 x h)
theorem Bm{ps:List P3}{p:P3}(hs:sU ps):sU (iW ps p):=by
 unfold iW;split
 · exact hs
 · rename_i hp
   have hd:(ps.drop (abT ps p))=ps.dropWhile fun x=>decide (x.Lt p):=aaw ps;have ht:(ps.take (abT ps p))=ps.takeWhile fun x=>decide (x.Lt p):=aav ps;have h0:=hs;rw[sU,←List.takeWhile_append_dropWhile (p:=fun x=>decide (x.Lt p)) (l:=ps)] at h0;obtain⟨h1,h2,h3⟩:=gu.1 h0;have hg:=agk (p:=p) hs (by rw[←hd,List.head?_drop];exact hp);have hl:∀x∈ps.takeWhile fun x=>decide (x.Lt p),x.Lt p:=fun x hx=>of_decide_eq_true (aea (p:=fun x:P3=>decide (x.Lt p)) hx);rw[hd,ht];refine gu.2 ⟨gu.2 ⟨h1,jq _ _,fun x hx y hy=>?_⟩,h2,fun x hx y hy=>?_⟩
   · rw[bg.1 hy];exact hl x hx
   · rcases br.1 hx with hx | hx
     · exact h3 x hx y hy
     · rw[bg.1 hx];exact hg y hy
theorem rX(ts:List T3):sU (cK ts):=by
 have:∀(ts:List T3) (ps:List P3),sU ps→sU (ts.foldl (fun ps t=>iW (iW (iW ps t.a) t.b) t.c) ps):=by
  intro ts
  induction ts with
  | nil=>exact fun ps h=>h
  | cons t ts ih=>exact fun ps h=>ih _ (Bm (Bm (Bm h)))
 exact this ts [] kz
/-! ### Lists turned,mapped,chosen from -/
theorem Uq{p:P3}:Nx (dG l) p x y↔Nx l p x y:=by
 rw[anP (nZ l)];constructor
 · intro h
   obtain⟨t,ht,hx⟩:=fC.1 h;obtain⟨s,hs,rfl⟩:=cu.1 ht;exact fC.2 ⟨s,hs,(acs (lE s)).1 hx⟩
 · intro h
   obtain⟨s,hs,hx⟩:=fC.1 h;exact fC.2 ⟨eX s,ft hs,(acs (lE s)).2 hx⟩
theorem oL{b:P3}:(a,b)∈aU ts↔∃y,Nx ts a b y:=by
 constructor
 · intro h
   rw[←mT] at h;obtain⟨⟨e,y⟩,hx,he⟩:=cu.1 h;simp only at he;subst he;exact⟨y,hx⟩
 · rintro⟨y,h⟩
   exact Bf h
theorem ah9(t:T3):(Wk (eX t)).Perm (Wk t):=by
 rcases lE t with h | h | h
 · rw[h]
 · rw[h];exact List.perm_append_comm (l₁:=[(t.b,t.c),(t.c,t.a)]) (l₂:=[(t.a,t.b)])
 · rw[h];exact List.perm_append_comm (l₁:=[(t.c,t.a)]) (l₂:=[(t.a,t.b),(t.b,t.c)])
theorem Kk:∀l:List T3,(aU (l.map eX)).Perm (aU l)
 | []=>.refl _
 | t::l=>(ah9 t).append (Kk l)
theorem oC(l:List T3):(aU (dG l)).Perm (aU l):=((nZ l).flatMap_right _).trans (Kk l)
theorem arB{p:P3}:Nx (ts.map (T3.mapP f)) p x y↔∃p' x' y',Nx ts p' x' y'∧f p'=p∧f x'=x∧f y'=y:=by
 constructor
 · intro h
   obtain⟨t,ht,hx⟩:=fC.1 h;obtain⟨s,hs,rfl⟩:=cu.1 ht;rcases Hw.1 hx with ⟨rfl,rfl,rfl⟩ | ⟨rfl,rfl,rfl⟩ | ⟨rfl,rfl,rfl⟩
   · exact⟨s.a,s.b,s.c,fC.2 ⟨s,hs,Hw.2 (.inl ⟨O,O,O⟩)⟩,O,O,O⟩
   · exact⟨s.b,s.c,s.a,fC.2 ⟨s,hs,Hw.2 (.inr (.inl ⟨O,O,O⟩))⟩,O,O,O⟩
   · exact⟨s.c,s.a,s.b,fC.2 ⟨s,hs,Hw.2 (.inr (.inr ⟨O,O,O⟩))⟩,O,O,O⟩
 · rintro⟨p',x',y',h,rfl,rfl,rfl⟩
   obtain⟨s,hs,hx⟩:=fC.1 h;refine fC.2 ⟨s.mapP f,ft hs,Hw.2 ?_⟩;rcases Hw.1 hx with ⟨rfl,rfl,rfl⟩ | ⟨rfl,rfl,rfl⟩ | ⟨rfl,rfl,rfl⟩
   · exact .inl ⟨O,O,O⟩
   · exact .inr (.inl ⟨O,O,O⟩)
   · exact .inr (.inr ⟨O,O,O⟩)
theorem arC{p:P3}:Nx (ts.filter T3.nd) p x y↔Nx ts p x y∧p≠x∧x≠y∧y≠p:=by
 constructor
 · intro h
   obtain⟨t,ht,hx⟩:=fC.1 h;obtain⟨h1,h2⟩:=c_.1 ht;obtain⟨k1,k2,k3⟩:=uP.1 h2;refine⟨fC.2 ⟨t,h1,hx⟩,?_⟩;rcases Hw.1 hx with ⟨rfl,rfl,rfl⟩ | ⟨rfl,rfl,rfl⟩ | ⟨rfl,rfl,rfl⟩
   · exact⟨k1,k2,k3⟩
   · exact⟨k2,k3,k1⟩
   · exact⟨k3,k1,k2⟩
 · rintro⟨h,k1,k2,k3⟩
   obtain⟨t,ht,hx⟩:=fC.1 h;refine fC.2 ⟨t,c_.2 ⟨ht,uP.2 ?_⟩,hx⟩;rcases Hw.1 hx with ⟨rfl,rfl,rfl⟩ | ⟨rfl,rfl,rfl⟩ | ⟨rfl,rfl,rfl⟩
   · exact⟨k1,k2,k3⟩
   · exact⟨k3,k1,k2⟩
   · exact⟨k2,k3,k1⟩
theorem Ih{v p:P3}:Nx (iC us u v) p x y↔(∃p' x' y',Nx us p' x' y'∧kZ u v p'=p∧kZ u v x'=x∧kZ u v y'=y)∧p≠x∧x≠y∧y≠p:=by
 unfold iC uQ;rw[Uq,arC];exact and_congr_left fun _=>arB (f:=kZ u v)
theorem oU{b:P3}(h:Nx ts a b c):Nx ts b c a:=pZ h
theorem jY(dg:pG ts){b:P3}(h:Nx ts a b c):a≠b∧b≠c∧c≠a:=by
 obtain⟨t,ht,hx⟩:=fC.1 h;obtain⟨k1,k2,k3⟩:=anJ (dg t ht);rcases Hw.1 hx with ⟨rfl,rfl,rfl⟩ | ⟨rfl,rfl,rfl⟩ | ⟨rfl,rfl,rfl⟩
 · exact⟨k1,k2,k3⟩
 · exact⟨k2,k3,k1⟩
 · exact⟨k3,k1,k2⟩
theorem iK{b:P3}(h:Nx ts a b c):kP ts a b=true:=Hp (Bf h)
theorem pL{b:P3}(h:Nx ts a b c):kP ts a c=true:=iF (iK (oU (oU h)))
theorem Kl{b:P3}(h:kP ts a b=true)(hne:a≠b):(∃y,Nx ts a b y)∨∃y,Nx ts b a y:=(Sw h hne).imp oL.1 oL.1
/-! ### Closed sets in place of rings -/
def Ur(N:P3→P3→Prop):Prop:=∀S:P3→Prop,(∃x,S x)→(∀x,S x→(∃y,N x y)∧∀y,N x y→S y)→∀x y,N x y→S x
theorem tK.back{N:P3→P3→Prop}(fn:∀x y z,N x y→N x z→y=z){s:P3}(hc:Cyc N s)(h:tK N s x):tK N x s:=by
 induction h with
 | refl=>exact .refl _
 | @tail b c _ k ih =>
  rcases ih.head with rfl | ⟨d,hd,r⟩
  · obtain⟨y,hy,r⟩:=hc
    rw[fn _ _ _ k hy];exact r
  · rw[fn _ _ _ k hd];exact r
theorem Ur.ring{N:P3→P3→Prop}(fn:∀x y z,N x y→N x z→y=z)(h:Ur N):oT N:=fun s hc=>h (tK N s) ⟨s,.refl _⟩ fun x hx=>⟨by
 rcases (hx.back fn hc).head with rfl | ⟨d,hd,_⟩
 · exact hc.imp fun _ h=>h.1
 · exact⟨d,hd⟩,fun _ hy=>.tail hx hy⟩
theorem agl{N:P3→P3→Prop}{E:List P3}(hE:∀x y,N x y→x∈E){S:P3→Prop}(hS:∃x,S x)(hc:∀x,S x→(∃y,N x y)∧∀y,N x y→S y):∃s,S s∧Cyc N s:=by
 refine Classical.byContradiction fun hno=>?_;obtain⟨x0,h0⟩:=hS
 -- longer and longer lists of different points,each reached from all before
 have key:∀n,∃L:List P3,L.length=n∧L.Nodup∧(∀x∈L,x∈E)∧∃a,S a∧∀x∈L,∃y,N x y∧S x∧tK N y a:=by
  intro n
  induction n with
  | zero=>exact⟨[],rfl,ku,fun x h=>(by cases h),x0,h0,fun x h=>(by cases h)⟩
  | succ n ih =>
   obtain⟨L,h1,h2,h3,a,ha,h4⟩:=ih;obtain⟨⟨b,hb⟩,hcl⟩:=hc a ha;have hn:a∉L:=fun hm=>by
    obtain⟨y,hy,_,hr⟩:=h4 a hm;exact hno ⟨a,ha,y,hy,hr⟩
   refine⟨a::L,by simp[h1],fz.2 ⟨hn,h2⟩,fun x hx=>?_,b,hcl b hb,fun x hx=>?_⟩
   · rcases ao.1 hx with rfl | hx
     · exact hE _ _ hb
     · exact h3 x hx
   · rcases ao.1 hx with rfl | hx
     · exact⟨b,hb,ha,.refl _⟩
     · obtain⟨y,hy,hs,hr⟩:=h4 x hx
       exact⟨y,hy,hs,.tail hr hb⟩
 obtain⟨L,h1,h2,h3,_⟩:=key (E.length+1);have:=nY h2 h3;omega
theorem oT.sets{N:P3→P3→Prop}{E:List P3}(hE:∀x y,N x y→x∈E)(h:oT N):Ur N:=fun S hS hc=>by
 obtain⟨s,hs,hy⟩:=agl hE hS hc;have key:∀x,tK N s x→S x:=fun x hx=>by
  induction hx with
  | refl=>exact hs
  | tail _ k ih=>exact (hc _ ih).2 _ k
 exact fun x y hxy=>key x (h s hy x y hxy)
/-! ### A path in a corner's place -/
structure Pth(u c1 c2:P3)(A P N N':P3→P3→Prop):Prop where
 n:∀x y,N x y↔A x y∨(x=c1∧y=u)∨(x=u∧y=c2)
 n':∀x y,N' x y↔A x y∨P x y
 a:∀x y,A x y→x≠u∧y≠u∧x≠c1∧y≠c2
 p:∀x y,P x y→tK P c1 x∧tK P y c2
 pc:tK P c1 c2
 i:∀x y,P x y→(x=c1∨((∀z,¬A x z)∧∀z,¬A z x))∧(y=c2∨((∀z,¬A y z)∧∀z,¬A z y))
 pe:∀y,¬P c2 y
 pu:∀x y,P x y→x≠u∧y≠u
 n1:c1≠u
 n2:c2≠u
 n3:c1≠c2
section
variable {u c1 c2:P3} {A P N N':P3→P3→Prop}
theorem Pth.nopin(h:Pth u c1 c2 A P N N')(hN:Ur N):Ur N':=by
 rintro S' ⟨x0,hx0⟩ hcl;have up:∀a b,tK P a b→S' a→S' b:=fun a b r ha=>by
  induction r with
  | refl=>exact ha
  | tail _ k ih=>exact (hcl _ ih).2 _ ((h.n' _ _).2 (.inr k))
 have all:=hN (fun x=>(x=u∧S' c2)∨(x≠u∧S' x∧(x=c1∨∃y,A x y))) (by
  obtain⟨⟨y,hy⟩,_⟩:=hcl x0 hx0;rcases (h.n' _ _).1 hy with k | k
  · exact⟨x0,.inr ⟨(h.a _ _ k).1,hx0,.inr ⟨y,k⟩⟩⟩
  · exact⟨u,.inl ⟨O,up _ _ (h.p _ _ k).2 ((hcl _ hx0).2 _ hy)⟩⟩) (fun x hx=>by
  rcases hx with ⟨rfl,h2⟩ | ⟨hu,hs,rfl | ⟨y0,hA⟩⟩
  · refine⟨⟨c2,(h.n _ _).2 (.inr (.inr ⟨O,O⟩))⟩,fun y hy=>?_⟩
    rcases (h.n _ _).1 hy with k | ⟨e,_⟩ | ⟨_,rfl⟩
    · exact absurd O (h.a _ _ k).1
    · exact absurd e.symm h.n1
    · obtain⟨z,hz⟩:=(hcl _ h2).1
      rcases (h.n' _ _).1 hz with k | k
      · exact .inr ⟨h.n2,h2,.inr ⟨z,k⟩⟩
      · exact absurd k (h.pe z)
  · refine⟨⟨u,(h.n _ _).2 (.inr (.inl ⟨O,O⟩))⟩,fun y hy=>?_⟩
    rcases (h.n _ _).1 hy with k | ⟨_,rfl⟩ | ⟨e,_⟩
    · exact absurd O (h.a _ _ k).2.2.1
    · exact .inl ⟨O,up _ _ h.pc hs⟩
    · exact absurd e h.n1
  · refine⟨⟨y0,(h.n _ _).2 (.inl hA)⟩,fun y hy=>?_⟩
    rcases (h.n _ _).1 hy with k | ⟨e,_⟩ | ⟨e,_⟩
    · have hy':=(hcl _ hs).2 y ((h.n' _ _).2 (.inl k))
      refine .inr ⟨(h.a _ _ k).2.1,hy',?_⟩;obtain⟨z,hz⟩:=(hcl _ hy').1;rcases (h.n' _ _).1 hz with q | q
      · exact .inr ⟨z,q⟩
      · rcases (h.i _ _ q).1 with e | ⟨_,e⟩
        · exact .inl e
        · exact absurd k (e x)
    · exact absurd e (h.a _ _ hA).2.2.1
    · exact absurd e hu)
 intro x y hxy;rcases (h.n' _ _).1 hxy with k | k
 · rcases all x y ((h.n _ _).2 (.inl k)) with ⟨e,_⟩ | ⟨_,hs,_⟩
   · exact absurd e (h.a _ _ k).1
   · exact hs
 · rcases all c1 u ((h.n _ _).2 (.inr (.inl ⟨rfl,rfl⟩))) with ⟨e,_⟩ | ⟨_,hs,_⟩
   · exact absurd e h.n1
   · exact up _ _ (h.p _ _ k).1 hs
theorem Pth.fan(h:Pth u c1 c2 A P N N'){a z:P3}(hu:a≠u)(ha:∀y,P a y→a=c1)(k:Hv N' a z):Hv N a z:=by
 have s1:tK N c1 c2:=.tail (.one ((h.n _ _).2 (.inr (.inl ⟨rfl,rfl⟩)))) ((h.n _ _).2 (.inr (.inr ⟨rfl,rfl⟩)));have key:∀b,tK N' a b→b≠u∧(tK N a b∨(tK N a c1∧∃x,P x b)):=fun b r=>by
  induction r with
  | refl=>exact⟨hu,.inl (.refl _)⟩
  | @tail b c _ s ih =>
   rcases (h.n' _ _).1 s with k | k
   · refine⟨(h.a _ _ k).2.1,.inl ?_⟩
     rcases ih.2 with r | ⟨r,x,hx⟩
     · exact .tail r ((h.n _ _).2 (.inl k))
     · rcases (h.i _ _ hx).2 with rfl | ⟨e,_⟩
       · exact .tail (r.trans s1) ((h.n _ _).2 (.inl k))
       · exact absurd k (e c)
   · refine⟨(h.pu _ _ k).2,.inr ⟨?_,b,k⟩⟩
     rcases ih.2 with r | ⟨r,_⟩
     · rcases (h.i _ _ k).1 with rfl | ⟨_,e⟩
       · exact r
       · cases r with
         | refl=>rw[←ha _ k];exact .refl _
         | @tail w _ r s =>
          rcases (h.n _ _).1 s with q | ⟨_,q⟩ | ⟨_,q⟩
          · exact absurd q (e w)
          · exact absurd q (h.pu _ _ k).1
          · rw[q] at k;exact absurd k (h.pe c)
     · exact r
 obtain⟨hz,hr⟩:=key z k.1;refine⟨?_,fun y hy=>?_⟩
 · rcases hr with r | ⟨r,x,hx⟩
   · exact r
   · rcases (h.p _ _ hx).2.head with e | ⟨w,hw,_⟩
     · rw[e];exact r.trans s1
     · exact absurd ((h.n' _ _).2 (.inr hw)) (k.2 w)
 · rcases (h.n _ _).1 hy with q | ⟨rfl,_⟩ | ⟨e,_⟩
   · exact k.2 y ((h.n' _ _).2 (.inl q))
   · rcases h.pc.head with e | ⟨w,hw,_⟩
     · exact h.n3 e
     · exact k.2 w ((h.n' _ _).2 (.inr hw))
   · exact hz e
theorem Ins.nopin_out{p x0 y0:P3}(h:Ins p x0 y0 N N')(hN:oT N'):oT N:=by
 rintro s ⟨y,hy,hr⟩ x' y' hx;obtain⟨n1,n2⟩:=h.no _ _ hy;have hc:Cyc N' s:=by
  by_cases e:s=x0∧y=y0
  · obtain⟨rfl,rfl⟩:=e
    exact⟨p,(h.iff _ _).2 (.inr (.inl ⟨O,O⟩)),(tK.one ((h.iff _ _).2 (.inr (.inr ⟨O,O⟩)))).trans (h.up hr)⟩
  · exact⟨y,(h.iff _ _).2 (.inl ⟨hy,e⟩),h.up hr⟩
 obtain⟨n3,_⟩:=h.no _ _ hx;have hs:∃w,N' x' w:=by
  by_cases e:x'=x0∧y'=y0
  · exact⟨p,(h.iff _ _).2 (.inr (.inl ⟨e.1,O⟩))⟩
  · exact⟨y',(h.iff _ _).2 (.inl ⟨hx,e⟩)⟩
 obtain⟨w,hw⟩:=hs;rcases h.down n1 (hN s hc x' w hw) with ⟨_,r⟩ | ⟨e,_⟩
 · exact r
 · exact absurd e n3
end
structure eZ(us:List T3)(u v c1 c2:P3):Prop where
 dg:pG us
 nd:(aU us).Nodup
 pin:∀p,oT (Nx us p)
 ne:u≠v
 int:∀x,(∃y,Nx us u x y)↔∃y,Nx us x u y
 h1:Nx us u v c1
 h2:Nx us v u c2
 hc:c1≠c2
 com:∀b,b≠v→b≠u→kP us u b=true→kP us v b=true→b=c1∨b=c2
theorem agm{v:P3}(h:kZ u v x≠v):kZ u v x=x:=by
 unfold kZ at h ⊢;split
 · rename_i e;rw[if_pos e] at h;exact absurd O h
 · rfl
theorem aa9{v:P3}(hy:y≠v)(h:kZ u v x=y):x=y:=(agm (h▸hy)).symm.trans h
theorem aba{v:P3}(hne:u≠v)(x:P3):kZ u v x≠u:=by
 unfold kZ;split
 · exact Ne.symm hne
 · rename_i h;exact h
theorem aeS{v:P3}(h:kZ u v x=v):x=u∨x=v:=by
 unfold kZ at h;split at h
 · exact .inl (by assumption)
 · exact .inr h
section
variable {us:List T3} {u v c1 c2:P3}
theorem eZ.fn(_c:eZ us u v c1 c2){a b x y:P3}(h:Nx us a b x)(k:Nx us a b y):x=y:=wF _c.nd h k
theorem eZ.inj(c:eZ us u v c1 c2){a b x y:P3}(h:Nx us a x b)(k:Nx us a y b):x=y:=c.fn (oU (oU h)) (oU (oU k))
theorem eZ.d1(c:eZ us u v c1 c2):∃d,Nx us u c1 d∧d≠v∧d≠u:=by
 obtain⟨d,hd⟩:=(c.int c1).2 ⟨v,oU (oU c.h1)⟩;exact⟨d,hd,fun e=>c.hc (c.fn (oU (oU (e▸hd))) c.h2),(jY c.dg hd).2.2⟩
theorem eZ.d2(c:eZ us u v c1 c2):∃d,Nx us c2 u d∧d≠v∧d≠u:=by
 obtain⟨d,hd⟩:=(c.int c2).1 ⟨v,oU c.h2⟩;exact⟨d,hd,fun e=>c.hc (c.fn c.h1 (oU (e▸hd))),Ne.symm (jY c.dg hd).2.1⟩
theorem eZ.c1v(c:eZ us u v c1 c2):c1≠v∧c1≠u:=⟨Ne.symm (jY c.dg c.h1).2.1,(jY c.dg c.h1).2.2⟩
theorem eZ.c2v(c:eZ us u v c1 c2):c2≠v∧c2≠u:=⟨(jY c.dg c.h2).2.2,Ne.symm (jY c.dg c.h2).2.1⟩
/-! ### The corners behind each other,afterwards -/
theorem eZ.nu(c:eZ us u v c1 c2){p x y:P3}(h:Nx (iC us u v) p x y):p≠u∧x≠u∧y≠u:=by
 obtain⟨⟨p',x',y',_,rfl,rfl,rfl⟩,_⟩:=Ih.1 h;exact⟨aba c.ne _,aba c.ne _,aba c.ne _⟩
theorem eZ.far(c:eZ us u v c1 c2){p x y:P3}(hp:p≠u)(hv:p≠v):Nx (iC us u v) p x y↔∃x' y',Nx us p x' y'∧kZ u v x'=x∧kZ u v y'=y∧x≠y:=by
 rw[Ih];constructor
 · rintro⟨⟨p',x',y',h,hp',hx,hy⟩,_,k,_⟩
   obtain rfl:=aa9 hv hp';exact⟨x',y',h,hx,hy,k⟩
 · rintro⟨x',y',h,rfl,rfl,k⟩
   obtain⟨n1,_,n3⟩:=jY c.dg h;refine⟨⟨p,x',y',h,iA hp,O,O⟩,fun e=>?_,k,fun e=>?_⟩
   · exact n1 (aa9 hv e.symm).symm
   · exact n3 (aa9 hv e)
theorem eZ.mid(c:eZ us u v c1 c2){x y:P3}:Nx (iC us u v) v x y↔(Nx us v x y∧x≠u∧y≠u)∨(Nx us u x y∧x≠v∧y≠v):=by
 rw[Ih];constructor
 · rintro⟨⟨p',x',y',h,hp,rfl,rfl⟩,k1,k2,k3⟩
   obtain⟨n1,_,n3⟩:=jY c.dg h;have ex:=agm (Ne.symm k1);have ey:=agm k3;rw[ex] at k1 k2 ⊢;rw[ey] at k2 k3 ⊢;rcases aeS hp with rfl | rfl
   · exact .inr ⟨h,Ne.symm k1,k3⟩
   · exact .inl ⟨h,fun e=>by rw[e,lO] at ex;exact c.ne ex.symm,fun e=>by rw[e,lO] at ey;exact c.ne ey.symm⟩
 · rintro (⟨h,k1,k2⟩ | ⟨h,k1,k2⟩) <;> obtain⟨n1,n2,n3⟩:=jY c.dg h
   · exact⟨⟨v,x,y,h,iA (Ne.symm c.ne),iA k1,iA k2⟩,n1,n2,n3⟩
   · exact⟨⟨u,x,y,h,lO,iA (Ne.symm n1),iA n3⟩,Ne.symm k1,n2,k2⟩
/-! ### Edges -/
theorem eZ.e_far(c:eZ us u v c1 c2){a b:P3}(h1:a≠u)(h2:a≠v)(h4:b≠v):(∃y,Nx (iC us u v) a b y)↔b≠u∧∃y,Nx us a b y:=by
 constructor
 · rintro⟨y,h⟩
   obtain⟨x',y',h',hx,_,_⟩:=(c.far h1 h2).1 h;have e:=aa9 h4 hx;exact⟨hx▸aba c.ne _,y',e▸h'⟩
 · rintro⟨hb,y,h⟩
   refine⟨kZ u v y,(c.far h1 h2).2 ⟨b,y,h,iA hb,O,fun e=>?_⟩⟩;by_cases hy:y=u
   · rw[hy,lO] at e;exact h4 e
   · rw[iA hy] at e;exact (jY c.dg h).2.1 e
theorem eZ.e_out(c:eZ us u v c1 c2){b:P3}(hu:b≠u)(hv:b≠v):(∃y,Nx (iC us u v) v b y)↔(∃y,Nx us v b y∧y≠u)∨∃y,Nx us u b y∧y≠v:=by
 constructor
 · rintro⟨y,h⟩
   rcases c.mid.1 h with ⟨h,_,k⟩ | ⟨h,_,k⟩
   · exact .inl ⟨y,h,k⟩
   · exact .inr ⟨y,h,k⟩
 · rintro (⟨y,h,k⟩ | ⟨y,h,k⟩)
   · exact⟨y,c.mid.2 (.inl ⟨h,hu,k⟩)⟩
   · exact⟨y,c.mid.2 (.inr ⟨h,hv,k⟩)⟩
theorem eZ.e_in(c:eZ us u v c1 c2){b:P3}(hu:b≠u)(hv:b≠v):(∃y,Nx (iC us u v) b v y)↔(∃y,Nx us b v y∧y≠u)∨∃y,Nx us b u y∧y≠v:=by
 constructor
 · rintro⟨y,h⟩
   rcases c.mid.1 (oU h) with ⟨h,k,_⟩ | ⟨h,k,_⟩
   · exact .inl ⟨y,oU (oU h),k⟩
   · exact .inr ⟨y,oU (oU h),k⟩
 · rintro (⟨y,h,k⟩ | ⟨y,h,k⟩)
   · exact⟨y,oU (oU (c.mid.2 (.inl ⟨oU h,k,hu⟩)))⟩
   · exact⟨y,oU (oU (c.mid.2 (.inr ⟨oU h,k,hv⟩)))⟩
theorem eZ.e_v(c:eZ us u v c1 c2){b:P3}(hu:b≠u)(hv:b≠v) :
 (((∃y,Nx (iC us u v) v b y)↔∃y,Nx us v b y)∧((∃y,Nx (iC us u v) b v y)↔∃y,Nx us b v y)) ∨
 ((∃y,Nx (iC us u v) v b y)∧(∃y,Nx (iC us u v) b v y)∧kP us v b=false∧kP us u b=true):=by
 rw[c.e_out hu hv,c.e_in hu hv];by_cases k:kP us u b=true
 · by_cases k2:kP us v b=true
   · left
     rcases c.com b hv hu k k2 with rfl | rfl
     · obtain⟨d,hd,hdv,_⟩:=c.d1
       refine⟨⟨fun _=>⟨u,oU c.h1⟩,fun _=>.inr ⟨d,hd,hdv⟩⟩,⟨fun h=>?_,fun⟨y,h⟩=>.inl ⟨y,h,fun e=>?_⟩⟩⟩
       · rcases h with ⟨y,h,_⟩ | ⟨y,h,e⟩
         · exact⟨y,h⟩
         · exact absurd (c.fn h (oU (oU c.h1))) e
       · rw[e] at h
         exact c.hc (c.fn (oU h) c.h2).symm.symm
     · obtain⟨d,hd,hdv,_⟩:=c.d2
       refine⟨⟨fun h=>?_,fun⟨y,h⟩=>.inl ⟨y,h,fun e=>?_⟩⟩,⟨fun _=>⟨u,oU (oU c.h2)⟩,fun _=>.inr ⟨d,hd,hdv⟩⟩⟩
       · rcases h with ⟨y,h,_⟩ | ⟨y,h,e⟩
         · exact⟨y,h⟩
         · exact absurd (c.fn h (oU c.h2)) e
       · rw[e] at h
         exact c.hc (c.fn c.h1 (oU (oU h)))
   · right
     have hno:∀y,¬Nx us v b y∧¬Nx us b v y:=fun y=>⟨fun h=>k2 (iK h),fun h=>k2 (iF (iK h))⟩
     have hE:(∃y,Nx us u b y)∧∃y,Nx us b u y:=by
      rcases Kl k (Ne.symm hu) with h | h
      · exact⟨h,(c.int b).1 h⟩
      · exact⟨(c.int b).2 h,h⟩
     obtain⟨⟨y,hy⟩,y2,hy2⟩:=hE;refine⟨.inr ⟨y,hy,fun e=>(hno u).2 (oU (e▸hy))⟩,.inr ⟨y2,hy2,fun e=>(hno u).1 (oU (oU (e▸hy2)))⟩,by simpa using k2,k⟩
 · left
   have hno:∀y,¬Nx us u b y∧¬Nx us b u y:=fun y=>⟨fun h=>k (iK h),fun h=>k (iF (iK h))⟩
   refine⟨⟨fun h=>?_,fun⟨y,h⟩=>.inl ⟨y,h,fun e=>(hno v).2 (oU (e▸h))⟩⟩,⟨fun h=>?_,fun⟨y,h⟩=>.inl ⟨y,h,fun e=>(hno v).1 (oU (oU (e▸h)))⟩⟩⟩
   · rcases h with ⟨y,h,_⟩ | ⟨y,h,_⟩
     · exact⟨y,h⟩
     · exact absurd h (hno y).1
   · rcases h with ⟨y,h,_⟩ | ⟨y,h,_⟩
     · exact⟨y,h⟩
     · exact absurd h (hno y).2
theorem eZ.bord(c:eZ us u v c1 c2)(e:E3):sE (iC us u v) e↔sE us e:=by
 obtain⟨a,b⟩:=e;unfold sE;simp only[oL];by_cases ha:a=u
 · subst ha
   refine⟨fun h=>?_,fun h=>absurd ((c.int b).1 h.1) h.2⟩;obtain⟨⟨y,h⟩,_⟩:=h;exact absurd O (c.nu h).1
 by_cases hb:b=u
 · subst hb
   refine⟨fun h=>?_,fun h=>absurd ((c.int a).2 h.1) h.2⟩;obtain⟨⟨y,h⟩,_⟩:=h;exact absurd O (c.nu h).2.1
 by_cases hav:a=v
 · subst hav
   by_cases hbv:b=a
   · subst hbv
     exact⟨fun⟨⟨y,h⟩,_⟩=>absurd O (Ih.1 h).2.1,fun⟨⟨y,h⟩,_⟩=>absurd O (jY c.dg h).1⟩
   · rcases c.e_v hb hbv with ⟨k1,k2⟩ | ⟨_,k2,k3,_⟩
     · rw[k1,k2]
     · refine⟨fun h=>absurd k2 h.2,fun⟨⟨y,h⟩,_⟩=>?_⟩
       rw[iK h] at k3;cases k3
 · by_cases hbv:b=v
   · subst hbv
     rcases c.e_v ha hav with ⟨k1,k2⟩ | ⟨k1,_,k3,_⟩
     · rw[k1,k2]
     · refine⟨fun h=>absurd k1 h.2,fun⟨⟨y,h⟩,_⟩=>?_⟩
       rw[iF (iK h)] at k3;cases k3
   · rw[c.e_far ha hav hbv,c.e_far hb hbv hav]
     simp[ha,hb]
/-! ### No edge twice -/
theorem eZ.inj_s(c:eZ us u v c1 c2){b x y:P3}(h:Nx us u b x)(hx:x≠v)(k:Nx us v b y)(hy:y≠u):False:=by
 obtain⟨n1,_,_⟩:=jY c.dg h;obtain⟨n2,_,_⟩:=jY c.dg k;rcases c.com b (Ne.symm n2) (Ne.symm n1) (iK h) (iK k) with rfl | rfl
 · exact hy (c.fn k (oU c.h1))
 · exact hx (c.fn h (oU c.h2))
theorem eZ.inj_t(c:eZ us u v c1 c2){b x y:P3}(h:Nx us b u x)(hx:x≠v)(k:Nx us b v y)(hy:y≠u):False:=by
 obtain⟨n1,_,_⟩:=jY c.dg h;obtain⟨n2,_,_⟩:=jY c.dg k;rcases c.com b n2 n1 (iF (iK h)) (iF (iK k)) with rfl | rfl
 · exact hx (c.fn h (oU (oU c.h1)))
 · exact hy (c.fn k (oU (oU c.h2)))
theorem Us(u v:P3):∀us:List T3,uQ u v us=(us.filter fun t=>(pI u v t).nd).map (pI u v)
 | []=>rfl
 | t::us=>by
  have ih:=Us u v us;unfold uQ at ih ⊢;rw[bi,ep,ep];split
  · rw[bi,ih]
  · exact ih
theorem Yw(f:P3→P3):∀ts:List T3,aU (ts.map (T3.mapP f))=(aU ts).map fun e=>(f e.1,f e.2)
 | []=>rfl
 | t::ts=>by
  have ih:=Yw f ts;unfold aU at ih ⊢;rw[bi,ci,ci,cz,ih];rfl
theorem Yx{p:T3→Bool}:∀ts:List T3,(aU (ts.filter p)).Sublist (aU ts)
 | []=>.refl _
 | t::ts=>by
  have ih:=Yx (p:=p) ts;unfold aU at ih ⊢;rw[ep];split
  · rw[ci,ci];exact (List.Sublist.refl _).append ih
  · rw[ci];exact ih.trans (List.sublist_append_right _ _)
theorem eZ.nodup(c:eZ us u v c1 c2):(aU (iC us u v)).Nodup:=by
 unfold iC;rw[(oC _).nodup_iff,Us];show (aU (List.map (T3.mapP (kZ u v)) _)).Nodup
 rw[Yw,List.Nodup,la];refine (c.nd.sublist (Yx us)).imp_of_mem fun {e g} he hg hne heq=>hne ?_;have sur:∀{a b:P3},(a,b)∈aU (us.filter fun t=>(pI u v t).nd)→∃y,Nx us a b y∧kZ u v a≠kZ u v b∧kZ u v b≠kZ u v y∧kZ u v y≠kZ u v a:=fun h=>by
  obtain⟨y,h⟩:=oL.1 h;obtain⟨t,ht,hx⟩:=fC.1 h;obtain⟨h1,h2⟩:=c_.1 ht;obtain⟨k1,k2,k3⟩:=uP.1 h2;refine⟨y,fC.2 ⟨t,h1,hx⟩,?_⟩;rcases Hw.1 hx with ⟨rfl,rfl,rfl⟩ | ⟨rfl,rfl,rfl⟩ | ⟨rfl,rfl,rfl⟩
  · exact⟨k1,k2,k3⟩
  · exact⟨k2,k3,k1⟩
  · exact⟨k3,k1,k2⟩
 obtain⟨a,b⟩:=e;obtain⟨a',b'⟩:=g;obtain⟨y,hy,m1,m2,m3⟩:=sur he;obtain⟨y',hy',m1',m2',m3'⟩:=sur hg;simp only[fc] at heq;obtain⟨q1,q2⟩:=heq;have two:∀{x x':P3},kZ u v x=kZ u v x'→x=x'∨(x=u∧x'=v)∨(x=v∧x'=u):=fun {x x'} h=>by
  by_cases e1:x=u
  · rw[e1,lO] at h
    rcases aeS h.symm with e | e
    · exact .inl (e1.trans e.symm)
    · exact .inr (.inl ⟨e1,e⟩)
  · rw[iA e1] at h
    by_cases e2:x'=u
    · rw[e2,lO] at h;exact .inr (.inr ⟨h,e2⟩)
    · rw[iA e2] at h;exact .inl h
 have tv:kZ u v v=v:=iA (Ne.symm c.ne);have yv:∀{y},kZ u v y≠v→y≠v∧y≠u:=fun h=>⟨fun e=>h (by rw[e,tv]),fun e=>h (by rw[e,lO])⟩
 rcases two q1 with rfl | ⟨rfl,rfl⟩ | ⟨rfl,rfl⟩
 · rcases two q2 with rfl | ⟨rfl,rfl⟩ | ⟨rfl,rfl⟩
   · rfl
   · rw[lO] at m2;rw[tv] at m2'
     exact absurd (c.inj_t hy (yv (Ne.symm m2)).1 hy' (yv (Ne.symm m2')).2) id
   · rw[tv] at m2;rw[lO] at m2'
     exact absurd (c.inj_t hy' (yv (Ne.symm m2')).1 hy (yv (Ne.symm m2)).2) id
 · rw[lO] at m1 m3;rw[tv] at m1' m3'
   rcases two q2 with rfl | ⟨rfl,rfl⟩ | ⟨rfl,rfl⟩
   · exact absurd (c.inj_s hy (yv m3).1 hy' (yv m3').2) id
   · rw[lO] at m1;exact absurd O m1
   · rw[tv] at m1;exact absurd O m1
 · rw[tv] at m1 m3;rw[lO] at m1' m3'
   rcases two q2 with rfl | ⟨rfl,rfl⟩ | ⟨rfl,rfl⟩
   · exact absurd (c.inj_s hy' (yv m3').1 hy (yv m3).2) id
   · rw[lO] at m1;exact absurd O m1
   · rw[tv] at m1;exact absurd O m1
end
structure Bn(l us:List T3)(f:P3→P3):Prop where
 dg:pG us
 nd:(aU us).Nodup
 pin:∀v,oT (Nx us v)
 bd:∀e,sE us e↔sE l e
 sub:∀x∈bG l,x∈bG us
 fix:∀x∈bG l,f x=x
 img:∀x∈bG us,f x∈bG l
 hit:(yR f us).Perm (l.map eX)
 pair:∀t∈us,∀x y,t.has x=true→t.has y=true→kP l (f x) (f y)=true
 keep:∀e∈aU l,wH (aO l) e.1=true→wH (aO l) e.2=true→e∈aU us
 fan:∀v a z,sE l (v,a)→Hv (Nx l v) a z→Hv (Nx us v) a z
theorem Bn.refl(dg:pG l)(nd:(aU l).Nodup)(pin:∀v,oT (Nx l v)):Bn l l (fun x=>x) :=
 ⟨dg,nd,pin,fun _=>Iff.rfl,fun _ h=>h,fun _ _=>rfl,fun _ h=>h,by rw[anO dg fun _ _=>rfl],fun t ht x y hx hy=>kU.2 ⟨t,ht,hx,hy⟩,fun _ h _ _=>h,fun _ _ _ _ h=>h⟩
theorem Bn.congr{g:P3→P3}(h:Bn l us f)(e:∀x∈bG us,f x=g x):Bn l us g :=
 ⟨h.dg,h.nd,h.pin,h.bd,h.sub,fun x hx=>(e x (h.sub x hx)).symm.trans (h.fix x hx),fun x hx=>e x hx▸h.img x hx,Te e▸h.hit,
  fun t ht x y hx hy=>by rw[←e x (rS ht hx),←e y (rS ht hy)];exact h.pair t ht x y hx hy,h.keep,h.fan⟩
theorem Bn.rim(h:Bn l us f):aO us=aO l:=xE h.bd
theorem Bn.trans{mid:List T3}{g:P3→P3}(h:Bn l mid f)(k:Bn mid us g):Bn l us (fun x=>f (g x)):=by
 refine⟨k.dg,k.nd,k.pin,fun e=>(k.bd e).trans (h.bd e),fun x hx=>k.sub x (h.sub x hx),fun x hx=>?_,fun x hx=>h.img _ (k.img x hx),?_,fun t ht x y hx hy=>?_,fun e he h1 h2=>?_,fun v a z hb hf=>?_⟩
 · show f (g x)=x
   rw[k.fix x (h.sub x hx),h.fix x hx]
 · rw[Yk]
   refine (k.hit.flatMap_right (hF f)).trans ?_;have e:(mid.map eX).flatMap (hF f)=yR f mid:=by
    unfold yR;rw[ph]
    congr 1
    exact funext fun t=>aaH (lE t)
   rw[e];exact h.hit
 · obtain⟨u,hu,k1,k2⟩:=kU.1 (k.pair t ht x y hx hy)
   exact h.pair u hu _ _ k1 k2
 · refine k.keep e (h.keep e he h1 h2) ?_ ?_ <;> rw[h.rim] <;> assumption
 · exact k.fan v a z ((h.bd _).2 hb) (h.fan v a z hb hf)
theorem nN   : x∈bG ts↔∃a b,Nx ts x a b:=by
 constructor
 · intro h
   obtain⟨t,ht,hx⟩:=lJ.1 h;rcases hx with rfl | rfl | rfl
   · exact⟨t.b,t.c,fC.2 ⟨t,ht,Hw.2 (.inl ⟨O,O,O⟩)⟩⟩
   · exact⟨t.c,t.a,fC.2 ⟨t,ht,Hw.2 (.inr (.inl ⟨O,O,O⟩))⟩⟩
   · exact⟨t.a,t.b,fC.2 ⟨t,ht,Hw.2 (.inr (.inr ⟨O,O,O⟩))⟩⟩
 · rintro⟨a,b,h⟩
   exact (yO (Bf h)).1
theorem acL(u v:P3):∀us:List T3,yR (kZ u v) us=(uQ u v us).map eX
 | []=>rfl
 | t::us=>by
  have ih:=acL u v us;unfold yR uQ at ih ⊢;rw[ci,bi,ep,ih];cases h:(pI u v t).nd with
  | true=>rw[if_pos rfl,bi,arA (f:=kZ u v) h];rfl
  | false=>rw[if_neg ei,atv (f:=kZ u v) h];rfl
theorem aia(u v:P3)(us:List T3):(yR (kZ u v) us).Perm ((iC us u v).map eX):=by
 rw[acL];unfold iC;refine List.Perm.trans ?_ ((nZ _).map eX).symm;rw[ng];have e:(uQ u v us).map (eX∘eX)=(uQ u v us).map eX:=List.map_congr_left fun t ht=>acm (lE t) (afW us t ht);rw[e]
section
variable {us:List T3} {u v c1 c2:P3}
theorem eZ.m1(c:eZ us u v c1 c2):∃d,Nx (iC us u v) v c1 d:=by
 obtain⟨d,hd,hv,_⟩:=c.d1;exact⟨d,c.mid.2 (.inr ⟨hd,c.c1v.1,hv⟩)⟩
theorem eZ.m2(c:eZ us u v c1 c2):∃d,Nx (iC us u v) v d c2:=by
 obtain⟨d,hd,hv,_⟩:=c.d2;exact⟨d,c.mid.2 (.inr ⟨oU hd,hv,c.c2v.1⟩)⟩
theorem agn{u v x x':P3}(h:kZ u v x=kZ u v x'):x=x'∨(x=u∧x'=v)∨(x=v∧x'=u):=by
 by_cases e1:x=u
 · rw[e1,lO] at h
   rcases aeS h.symm with e | e
   · exact .inl (e1.trans e.symm)
   · exact .inr (.inl ⟨e1,e⟩)
 · rw[iA e1] at h
   by_cases e2:x'=u
   · rw[e2,lO] at h;exact .inr (.inr ⟨h,e2⟩)
   · rw[iA e2] at h;exact .inl h
theorem eZ.third(c:eZ us u v c1 c2){a b z:P3}(h:Nx us a b z)(e:kZ u v z=kZ u v a):kZ u v a=v∧(b=c1∨b=c2):=by
 rcases agn e with e | ⟨rfl,rfl⟩ | ⟨rfl,rfl⟩
 · exact absurd e (jY c.dg h).2.2
 · exact⟨iA (Ne.symm c.ne),.inl (c.fn (oU (oU h)) c.h1)⟩
 · exact⟨lO,.inr (c.fn (oU (oU h)) c.h2)⟩
theorem eZ.cv(c:eZ us u v c1 c2){b:P3}(h:b=c1∨b=c2):kP (iC us u v) v b=true:=by
 obtain⟨d,hd⟩:=c.m1;obtain⟨e,he⟩:=c.m2;rcases h with rfl | rfl
 · exact iK hd
 · exact pL he
theorem eZ.pairN(c:eZ us u v c1 c2){a b z:P3}(h:Nx us a b z)(hne:kZ u v a≠kZ u v b):kP (iC us u v) (kZ u v a) (kZ u v b)=true:=by
 by_cases e1:kZ u v z=kZ u v a
 · obtain⟨k1,k2⟩:=c.third h e1
   have hb:kZ u v b=b:=iA (k2.elim (fun e=>e▸c.c1v.2) fun e=>e▸c.c2v.2);rw[k1,hb];exact c.cv k2
 by_cases e2:kZ u v b=kZ u v z
 · obtain⟨k1,k2⟩:=c.third (oU (oU h)) e2
   have ha:kZ u v a=a:=iA (k2.elim (fun e=>e▸c.c1v.2) fun e=>e▸c.c2v.2);rw[ha,e2,k1];exact iF (c.cv k2)
 exact iK (Ih.2 ⟨⟨a,b,z,h,O,O,O⟩,hne,e2,e1⟩)
theorem eZ.img(c:eZ us u v c1 c2){x:P3}(hx:x∈bG us):kZ u v x∈bG (iC us u v):=by
 obtain⟨d,hd⟩:=c.m1;by_cases hv:kZ u v x=v
 · rw[hv];exact nN.2 ⟨_,_,hd⟩
 obtain⟨a,b,h⟩:=nN.1 hx;have e0:=agm hv;by_cases e:kZ u v x=kZ u v a
 · rcases agn e with e | ⟨rfl,_⟩ | ⟨rfl,_⟩
   · exact absurd e (jY c.dg h).1
   · exact absurd lO hv
   · exact absurd (iA (Ne.symm c.ne)) hv
 · exact Mh.1 (Mi (c.pairN h e))
theorem eZ.no_deg(_c:eZ us u v c1 c2):pG (iC us u v):=fun t ht=>by
 obtain⟨k1,k2,k3⟩:=uP.1 (akt us u v t ht);simp[tX,k1,k2,k3]
/-! ### Round each corner -/
theorem eZ.fnm(c:eZ us u v c1 c2){a b x y:P3}(h:Nx (iC us u v) a b x)(k:Nx (iC us u v) a b y):x=y:=wF c.nodup h k
theorem eZ.same(c:eZ us u v c1 c2){p:P3}(hu:p≠u)(hv:p≠v)(hn:kP us u p=false)(x y:P3):Nx (iC us u v) p x y↔Nx us p x y:=by
 have no:∀{x y},Nx us p x y→x≠u∧y≠u:=fun h=>⟨fun e=>(by rw[e] at h;rw[iF (iK h)] at hn;cases hn),fun e=>(by rw[e] at h;rw[iF (pL h)] at hn;cases hn)⟩
 rw[c.far hu hv];constructor
 · rintro⟨x',y',h,rfl,rfl,_⟩
   rwa [iA (no h).1,iA (no h).2]
 · intro h
   exact⟨x,y,h,iA (no h).1,iA (no h).2,(jY c.dg h).2.1⟩
theorem eZ.ren1(c:eZ us u v c1 c2){p:P3}(hu:p≠u)(hv:p≠v)(hn:kP us v p=false):Ren u v (Nx us p) (Nx (iC us u v) p):=by
 have no:∀x y,Nx us p x y→x≠v∧y≠v:=fun x y h=>⟨fun e=>(by rw[e] at h;rw[iF (iK h)] at hn;cases hn),fun e=>(by rw[e] at h;rw[iF (pL h)] at hn;cases hn)⟩
 refine⟨no,fun x y=>?_⟩;rw[c.far hu hv];constructor
 · rintro⟨x',y',h,rfl,rfl,_⟩
   exact⟨x',y',h,O,O⟩
 · rintro⟨x',y',h,rfl,rfl⟩
   refine⟨x',y',h,O,O,fun e=>?_⟩;exact (jY c.dg h).2.1 (aaG (q:=u) (p:=v) (no _ _ h).1 (no _ _ h).2 e)
theorem Km{u v x:P3}(hx:x≠v):ren v u (kZ u v x)=x:=by
 by_cases e:x=u
 · rw[e,lO,apg]
 · rw[iA e,afQ hx]
theorem eZ.ren2(c:eZ us u v c1 c2){p:P3}(hu:p≠u)(hv:p≠v)(hn:kP us v p=false):Ren v u (Nx (iC us u v) p) (Nx us p):=by
 have r:=c.ren1 hu hv hn;refine⟨fun x y h=>(c.nu h).2,fun x y=>⟨fun h=>?_,?_⟩⟩
 · obtain⟨n1,n2⟩:=r.no _ _ h
   exact⟨kZ u v x,kZ u v y,(r.iff _ _).2 ⟨x,y,h,O,O⟩,(Km n1).symm,(Km n2).symm⟩
 · rintro⟨a,b,h,rfl,rfl⟩
   obtain⟨x,y,h',rfl,rfl⟩:=(r.iff _ _).1 h;obtain⟨n1,n2⟩:=r.no _ _ h';show Nx us p (ren v u (kZ u v x)) (ren v u (kZ u v y))
   rwa [Km n1,Km n2]
theorem eZ.ins1(c:eZ us u v c1 c2):∃d,Ins u d v (Nx (iC us u v) c1) (Nx us c1):=by
 obtain⟨d,hd,hdv,hdu⟩:=c.d1;have h1:Nx us c1 u v:=oU (oU c.h1);have h0:Nx us c1 d u:=oU hd;have tv:kZ u v v=v:=iA (Ne.symm c.ne);have m0:Nx (iC us u v) c1 d v:=(c.far c.c1v.2 c.c1v.1).2 ⟨d,u,h0,iA hdu,lO,hdv⟩;refine⟨d,fun x y h=>(c.nu h).2,m0,fun x y=>⟨fun h=>?_,fun h=>?_⟩⟩
 · by_cases ex:x=u
   · subst ex;exact .inr (.inr ⟨O,c.fn h h1⟩)
   by_cases ey:y=u
   · subst ey;exact .inr (.inl ⟨c.inj h h0,O⟩)
   refine .inl ⟨(c.far c.c1v.2 c.c1v.1).2 ⟨x,y,h,iA ex,iA ey,(jY c.dg h).2.1⟩,fun e=>?_⟩;rw[e.1,e.2] at h;exact c.ne (c.fn h0 h)
 · rcases h with ⟨h,hno⟩ | ⟨rfl,rfl⟩ | ⟨rfl,rfl⟩
   · obtain⟨x',y',h',rfl,rfl,hne⟩:=(c.far c.c1v.2 c.c1v.1).1 h
     by_cases ex:x'=u
     · subst ex
       rw[c.fn h' h1,lO,tv] at hne;exact absurd O hne
     by_cases ey:y'=u
     · subst ey
       rw[c.inj h' h0,lO,iA hdu] at hno;exact absurd ⟨O,O⟩ hno
     rwa [iA ex,iA ey]
   · exact h0
   · exact h1
theorem eZ.ins2(c:eZ us u v c1 c2):∃d,Ins u v d (Nx (iC us u v) c2) (Nx us c2):=by
 obtain⟨d,hd,hdv,hdu⟩:=c.d2;have h1:Nx us c2 v u:=oU (oU c.h2);have tv:kZ u v v=v:=iA (Ne.symm c.ne);have m0:Nx (iC us u v) c2 v d:=(c.far c.c2v.2 c.c2v.1).2 ⟨u,d,hd,lO,iA hdu,Ne.symm hdv⟩;refine⟨d,fun x y h=>(c.nu h).2,m0,fun x y=>⟨fun h=>?_,fun h=>?_⟩⟩
 · by_cases ex:x=u
   · subst ex;exact .inr (.inr ⟨O,c.fn h hd⟩)
   by_cases ey:y=u
   · subst ey;exact .inr (.inl ⟨c.inj h h1,O⟩)
   refine .inl ⟨(c.far c.c2v.2 c.c2v.1).2 ⟨x,y,h,iA ex,iA ey,(jY c.dg h).2.1⟩,fun e=>?_⟩;rw[e.1,e.2] at h;exact hdu (c.fn h h1)
 · rcases h with ⟨h,hno⟩ | ⟨rfl,rfl⟩ | ⟨rfl,rfl⟩
   · obtain⟨x',y',h',rfl,rfl,hne⟩:=(c.far c.c2v.2 c.c2v.1).1 h
     by_cases ex:x'=u
     · subst ex
       rw[c.fn h' hd,lO,iA hdu] at hno;exact absurd ⟨O,O⟩ hno
     by_cases ey:y'=u
     · subst ey
       rw[c.inj h' h1,lO,tv] at hne;exact absurd O hne
     rwa [iA ex,iA ey]
   · exact h1
   · exact hd
theorem eZ.ring(c:eZ us u v c1 c2):tK (Nx us u) c1 v∧∀x y,Nx us u x y→tK (Nx us u) v x∧tK (Nx us u) x v:=by
 have fn:∀x y z,Nx us u x y→Nx us u x z→y=z:=fun _ _ _ h k=>c.fn h k;obtain⟨s,hs,hc⟩:=agl (N:=Nx us u) (E:=bG us) (fun x y h=>(yO (Bf h)).2) (S:=fun x=>∃y,Nx us u x y) ⟨v,c1,c.h1⟩ fun x hx=>⟨hx,fun y hy=>(c.int y).2 ⟨x,oU (oU hy)⟩⟩
 have all:=c.pin u s hc;have hsv:=all v c1 c.h1;have hvs:=hsv.back fn hc;have hv:∀x y,Nx us u x y→tK (Nx us u) v x:=fun x y h=>hvs.trans (all x y h);have hcv:tK (Nx us u) c1 v:=by
  rcases hvs.head with rfl | ⟨w,hw,r⟩
  · obtain⟨y,hy,r⟩:=hc
    rw[c.fn c.h1 hy];exact r
  · rw[c.fn c.h1 hw];exact r.trans hsv
 exact⟨hcv,fun x y h=>⟨hv x y h,(hv x y h).back fn ⟨c1,c.h1,hcv⟩⟩⟩
theorem eZ.pth(c:eZ us u v c1 c2):Pth u c1 c2 (fun x y=>Nx us v x y∧x≠u∧y≠u) (fun x y=>Nx us u x y∧x≠v∧y≠v) (Nx us v) (Nx (iC us u v) v):=by
 obtain⟨hr1,hr2⟩:=c.ring;have k1:Nx us v c1 u:=oU c.h1;have k2:Nx us u c2 v:=oU c.h2;have tail:∀b,tK (Nx us u) v b→b=v∨tK (fun x y=>Nx us u x y∧x≠v∧y≠v) c1 b:=fun b r=>by
  induction r with
  | refl=>exact .inl rfl
  | @tail b d _ s ih =>
   by_cases hd:d=v
   · exact .inl hd
   by_cases hb:b=v
   · subst hb;rw[c.fn s c.h1];exact .inr (.refl _)
   rcases ih with e | r
   · exact absurd e hb
   · exact .inr (.tail r ⟨s,hb,hd⟩)
 have head:∀a,a≠v→∀b,tK (Nx us u) a b→(b≠v∧tK (fun x y=>Nx us u x y∧x≠v∧y≠v) a b)∨tK (fun x y=>Nx us u x y∧x≠v∧y≠v) a c2:=fun a ha b r=>by
  induction r with
  | refl=>exact .inl ⟨ha,.refl _⟩
  | @tail b d _ s ih =>
   rcases ih with ⟨hb,r⟩ | r
   · by_cases hd:d=v
     · subst hd;rw[←c.inj s k2];exact .inr r
     · exact .inl ⟨hd,.tail r ⟨s,hb,hd⟩⟩
   · exact .inr r
 have toC2:∀a,a≠v→tK (Nx us u) a v→tK (fun x y=>Nx us u x y∧x≠v∧y≠v) a c2:=fun a ha r=>by
  rcases head a ha v r with ⟨e,_⟩ | r
  · exact absurd O e
  · exact r
 refine⟨fun x y=>⟨fun h=>?_,?_⟩,fun x y=>c.mid,fun x y h=>⟨h.2.1,h.2.2,fun e=>?_,fun e=>?_⟩,fun x y h=>⟨?_,?_⟩,toC2 c1 c.c1v.1 hr1,fun x y h=>⟨?_,?_⟩,fun y h=>h.2.2 (c.fn h.1 k2),fun x y h=>⟨Ne.symm (jY c.dg h.1).1,(jY c.dg h.1).2.2⟩,c.c1v.2,c.c2v.2,c.hc⟩
 · by_cases ex:x=u
   · subst ex;exact .inr (.inr ⟨O,c.fn h c.h2⟩)
   by_cases ey:y=u
   · subst ey;exact .inr (.inl ⟨c.inj h k1,O⟩)
   exact .inl ⟨h,ex,ey⟩
 · rintro (⟨h,_⟩ | ⟨rfl,rfl⟩ | ⟨rfl,rfl⟩)
   · exact h
   · exact k1
   · exact c.h2
 · have h:=h
   rw[e] at h;exact h.2.2 (c.fn h.1 k1)
 · have h:=h
   rw[e] at h;exact h.2.1 (c.inj h.1 c.h2)
 · rcases tail x (hr2 x y h.1).1 with e | r
   · exact absurd e h.2.1
   · exact r
 · obtain⟨z,hz⟩:=(c.int y).2 ⟨x,oU (oU h.1)⟩
   exact toC2 y h.2.2 (hr2 y z hz).2
 · by_cases e:x=c1
   · exact .inl e
   refine .inr ⟨fun z hz=>?_,fun z hz=>?_⟩
   · rcases c.com x h.2.1 (Ne.symm (jY c.dg h.1).1) (iK h.1) (iK hz.1) with rfl | rfl
     · exact e O
     · exact h.2.2 (c.fn h.1 k2)
   · rcases c.com x h.2.1 (Ne.symm (jY c.dg h.1).1) (iK h.1) (pL hz.1) with rfl | rfl
     · exact e O
     · exact h.2.2 (c.fn h.1 k2)
 · by_cases e:y=c2
   · exact .inl e
   refine .inr ⟨fun z hz=>?_,fun z hz=>?_⟩
   · rcases c.com y h.2.2 (jY c.dg h.1).2.2 (pL h.1) (iK hz.1) with rfl | rfl
     · exact h.2.1 (c.inj h.1 c.h1)
     · exact e O
   · rcases c.com y h.2.2 (jY c.dg h.1).2.2 (pL h.1) (pL hz.1) with rfl | rfl
     · exact h.2.1 (c.inj h.1 c.h1)
     · exact e O
theorem eZ.nopin(c:eZ us u v c1 c2)(p:P3):oT (Nx (iC us u v) p):=by
 by_cases hu:p=u
 · rintro s ⟨y,hy,_⟩
   exact absurd hu (c.nu hy).1
 by_cases hv:p=v
 · subst hv
   exact (c.pth.nopin ((c.pin p).sets (E:=bG us) fun x y h=>(yO (Bf h)).2)).ring fun _ _ _ h k=>c.fnm h k
 by_cases e1:p=c1
 · subst e1;obtain⟨d,h⟩:=c.ins1;exact h.nopin_out (c.pin p)
 by_cases e2:p=c2
 · subst e2;obtain⟨d,h⟩:=c.ins2;exact h.nopin_out (c.pin p)
 cases hn:kP us u p with
 | false=>exact aek (c.same hu hv hn) (c.pin p)
 | true =>
  have hv2:kP us v p=false:=by
   cases h:kP us v p with
   | false=>rfl
   | true=>exact absurd (c.com p hv hu hn h) fun h=>h.elim e1 e2
  exact (c.ren1 hu hv hv2).nopin (c.pin p)
theorem eZ.check(c:eZ us u v c1 c2):cQ true (iC us u v)=0:=lK.2 ⟨c.no_deg,c.nodup,c.nopin⟩
theorem eZ.fan(c:eZ us u v c1 c2){p a z:P3}(hb:sE (iC us u v) (p,a))(k:Hv (Nx (iC us u v) p) a z):Hv (Nx us p) a z:=by
 obtain⟨y0,hy0⟩:=oL.1 hb.1;obtain⟨hu,hau,_⟩:=c.nu hy0;have hzu:z≠u:=by
  obtain⟨r,_⟩:=k;cases r with
  | refl=>exact hau
  | tail _ s=>exact (c.nu s).2.2
 by_cases hv:p=v
 · subst hv
   refine c.pth.fan hau (fun y hy=>?_) k;have hap:a≠p:=hy.2.1;rcases c.e_v hau hap with ⟨_,_⟩ | ⟨_,h2,_⟩
   · have hb':=(c.bord _).1 hb
     obtain⟨w,hw⟩:=oL.1 hb'.1;rcases c.com a hap hau (iK hy.1) (iK hw) with e | e
     · exact e
     · rw[e] at hy;exact absurd (c.fn hy.1 (oU c.h2)) hy.2.2
   · exact absurd (oL.2 h2) hb.2
 by_cases e1:p=c1
 · subst e1;obtain⟨d,h⟩:=c.ins1;exact h.fan hzu k
 by_cases e2:p=c2
 · subst e2;obtain⟨d,h⟩:=c.ins2;exact h.fan hzu k
 cases hn:kP us u p with
 | false=>exact akm (fun x y=>(c.same hu hv hn x y).symm) k
 | true =>
  have hv2:kP us v p=false:=by
   cases h:kP us v p with
   | false=>rfl
   | true=>exact absurd (c.com p hv hu hn h) fun h=>h.elim e1 e2
  have both:(∃y,Nx (iC us u v) v p y)∧∃y,Nx (iC us u v) p v y:=by
   rcases c.e_v hu hv with ⟨h1,h2⟩ | ⟨h1,h2,_⟩
   · rw[c.e_out hu hv,c.e_in hu hv]
     have hE:(∃y,Nx us u p y)∧∃y,Nx us p u y:=by
      rcases Kl hn (Ne.symm hu) with h | h
      · exact⟨h,(c.int p).1 h⟩
      · exact⟨(c.int p).2 h,h⟩
     obtain⟨⟨y,hy⟩,y2,hy2⟩:=hE;refine⟨.inr ⟨y,hy,fun e=>?_⟩,.inr ⟨y2,hy2,fun e=>?_⟩⟩
     · rw[e] at hy;rw[iF (iK (oU hy))] at hv2;cases hv2
     · rw[e] at hy2;rw[iF (pL hy2)] at hv2;cases hv2
   · exact⟨h1,h2⟩
  refine (c.ren2 hu hv hv2).fan (fun e=>?_) (fun e=>?_) hzu k
  · rw[e] at hb;exact hb.2 (oL.2 both.1)
  · obtain⟨y,hy⟩:=both.2
    rw[e] at k;exact k.2 y hy
theorem eZ.acc(c:eZ us u v c1 c2)(hin:Hz us u v=true):Bn (iC us u v) us (kZ u v):=by
 have hrim:aO (iC us u v)=aO us:=xE c.bord;refine⟨c.dg,c.nd,c.pin,fun e=>(c.bord e).symm,fun x hx=>?_,fun x hx=>?_,fun x hx=>c.img hx,aia u v us,fun t ht x y hx hy=>?_,fun e he h1 h2=>?_,fun p a z hb hf=>c.fan hb hf⟩
 · obtain⟨a,b,h⟩:=nN.1 hx
   obtain⟨⟨p',x',y',h,hp,_,_⟩,_⟩:=Ih.1 h;by_cases e:p'=u
   · rw[e,lO] at hp;rw[←hp];exact nN.2 ⟨_,_,c.h2⟩
   · rw[iA e] at hp;rw[←hp];exact nN.2 ⟨_,_,h⟩
 · obtain⟨a,b,h⟩:=nN.1 hx
   exact iA (c.nu h).1
 · by_cases e:kZ u v x=kZ u v y
   · rw[←e];exact Mh.2 (c.img (rS ht hx))
   · have hne:x≠y:=fun h=>e (by rw[h])
     rcases Kl (kU.2 ⟨t,ht,hx,hy⟩) hne with ⟨z,h⟩ | ⟨z,h⟩
     · exact c.pairN h e
     · exact iF (c.pairN h (Ne.symm e))
 · obtain⟨a,b⟩:=e
   rw[hrim] at h1 h2;simp only at h1 h2;obtain⟨y,hy⟩:=oL.1 he;obtain⟨ha,hb,_⟩:=c.nu hy;have new:∀b,b≠u→b≠v→wH (aO us) v=true→wH (aO us) b=true→kP us v b=false→kP us u b=true→False:=fun b hu hv k1 k2 k3 k4=>by
    unfold Hz at hin;rw[k1,jg,Bool.false_or,dt] at hin;have:=hin b (Bh.2 (Ea.2 ⟨hu,k4⟩));rw[k2] at this;unfold Mm at this;rw[k3] at this;simp[hv] at this
   rw[oL] at he ⊢;by_cases hav:a=v
   · subst hav
     by_cases hbv:b=a
     · rw[hbv] at hy;exact absurd O (jY c.no_deg hy).1
     · rcases c.e_v hb hbv with ⟨k,_⟩ | ⟨_,_,k3,k4⟩
       · exact k.1 he
       · exact (new b hb hbv h1 h2 k3 k4).elim
   · by_cases hbv:b=v
     · subst hbv
       rcases c.e_v ha hav with ⟨_,k⟩ | ⟨_,_,k3,k4⟩
       · exact k.1 he
       · exact (new a ha hav h2 h1 k3 k4).elim
     · exact ((c.e_far ha hav hbv).1 he).2
end
/-! ### From the conditions -/
theorem aot{v:P3}(hc:cQ true us=0)(hj:vH us u v=true)(hl:Fy us u v=true):∃c1 c2,eZ us u v c1 c2:=by
 obtain⟨dg,nd,pin⟩:=lK.1 hc;unfold vH at hj;obtain⟨hj1,hj2⟩:=Bool.and_eq_true_iff.1 hj;have hj2:wH (aO us) u=false:=by simpa using hj2
 obtain⟨hne,he⟩:=Ea.1 hj1;have int:∀x,(∃y,Nx us u x y)↔∃y,Nx us x u y:=fun x=>by
  rw[←oL,←oL];have k:∀e∈aO us,e.1≠u∧e.2≠u:=fun e he=>by
   unfold wH at hj2;rw[ob] at hj2;have:=hj2 e he;simpa using this
  constructor
  · intro h
    exact Decidable.byContradiction fun hn=>(k (u,x) (yQ.2 ⟨h,hn⟩)).1 O
  · intro h
    exact Decidable.byContradiction fun hn=>(k (x,u) (yQ.2 ⟨h,hn⟩)).2 O
 have hE:(∃y,Nx us u v y)∧∃y,Nx us v u y:=by
  rcases Kl he (Ne.symm hne) with h | h
  · exact⟨h,(int v).1 h⟩
  · exact⟨(int v).2 h,h⟩
 obtain⟨⟨c1,h1⟩,c2,h2⟩:=hE;have fn:∀{a b x y},Nx us a b x→Nx us a b y→x=y:=fun h k=>wF nd h k;have hnd:((nbL us u).filter (Mm us v)).Nodup:=by
  unfold nbL;refine ((oa (fun {a b} h e=>?_) (rX us)).sublist jy).sublist jy;exact P3.lt_irrefl b (e▸h)
 have mem:∀{b},b∈(nbL us u).filter (Mm us v)↔(b≠u∧kP us u b=true)∧b≠v∧kP us v b=true:=fun {b}=>by
  rw[c_,Bh,Ea,Ea]
 have hlen:((nbL us u).filter (Mm us v)).length=2:=of_decide_eq_true hl;have m1:c1∈(nbL us u).filter (Mm us v):=mem.2 ⟨⟨(jY dg h1).2.2,pL h1⟩,Ne.symm (jY dg h1).2.1,iK (oU h1)⟩;have m2:c2∈(nbL us u).filter (Mm us v):=mem.2 ⟨⟨Ne.symm (jY dg h2).2.1,iK (oU h2)⟩,(jY dg h2).2.2,pL h2⟩;have hcc:c1≠c2:=fun e=>by
  subst e;have k:Nx us u c1 v:=oU h2;have cyc:Cyc (Nx us u) v:=⟨c1,h1,.one k⟩
  have reach:∀b,tK (Nx us u) v b→b=v∨b=c1:=fun b r=>by
   induction r with
   | refl=>exact .inl rfl
   | tail _ s ih =>
    rcases ih with rfl | rfl
    · exact .inr (fn s h1)
    · exact .inl (fn s k)
  have all:∀b∈(nbL us u).filter (Mm us v),b∈[c1]:=fun b hb=>by
   obtain⟨⟨k1,k2⟩,k3,_⟩:=mem.1 hb;have hE:∃y,Nx us u b y:=by
    rcases Kl k2 (Ne.symm k1) with h | h
    · exact h
    · exact (int b).2 h
   obtain⟨y,hy⟩:=hE;rcases reach b (pin u v cyc b y hy) with e | e
   · exact absurd e k3
   · rw[e];exact jt _
  have:=nY hnd all;rw[hlen] at this;simp at this
 refine⟨c1,c2,dg,nd,pin,Ne.symm hne,int,h1,h2,hcc,fun b k1 k2 k3 k4=>?_⟩;have:=full (S:=[c1,c2]) (E:=(nbL us u).filter (Mm us v)) (by simp[hcc]) (fun x hx=>by
  rcases ao.1 hx with rfl | hx
  · exact m1
  · rw[bg.1 hx];exact m2) (by rw[hlen];exact av _) b (mem.2 ⟨⟨k2,k3⟩,k1,k4⟩)
 simpa using this
/-! ### Edges,each once -/
def aou(ps:List E3)(e:E3):List E3:=if kN ps e=0∧kN ps (e.2,e.1)=0 then ps++[e] else ps
def Er(es:List E3):List E3:=es.foldl aou []
def Wn(ts:List T3):Int:=((cK ts).length:Int)-(Er (aU ts)).length+ts.length
def xY(e:E3):E3:=(e.2,e.1)
theorem Kn(e:E3):xY (xY e)=e:=rfl
theorem vO{es:List E3}{e:E3}:kN es e=0↔e∉es:=by
 have:=pC (es:=es) (e:=e);constructor
 · intro h k;have:=this.2 k;omega
 · intro h;exact Nat.eq_zero_of_not_pos fun k=>h (this.1 k)
def Pf(es:List E3):List E3:=es.filter fun e=>!decide (xY e∈es)
theorem xZ{α:Type}[DecidableEq α]{x:α}:∀{l:List α},l.Nodup→x∈l→(l.filter fun y=>!decide (y=x)).length+1=l.length
 | [],_,h=>by cases h
 | y::l,hn,h=>by
  obtain⟨h1,h2⟩:=fz.1 hn;rw[ep];by_cases e:y=x
  · subst e
    have:(l.filter fun z=>!decide (z=y))=l:=List.filter_eq_self.2 fun z hz=>by
     have:z≠y:=fun e=>h1 (e▸hz);simp[this]
    simp[this]
  · have hx:x∈l:=(ao.1 h).resolve_left fun k=>e k.symm
    have ih:=xZ h2 hx;simp[e];omega
theorem acM(es:List E3)(e:E3):Er (es++[e])=aou (Er es) e:=by
 unfold Er;rw[List.foldl_append];rfl
theorem acN{α:Type}{P:List α→Prop}(h0:P [])(h1:∀l a,P l→P (l++[a]))(l:List α):P l:=by
 have:∀n (l:List α),l.length=n→P l:=by
  intro n
  induction n with
  | zero=>intro l hl;rw[List.length_eq_zero_iff.1 hl];exact h0
  | succ n ih =>
   intro l hl;have hne:l≠[]:=fun e=>by rw[e] at hl;cases hl
   rw[←List.dropLast_concat_getLast hne];exact h1 _ _ (ih _ (by rw[List.length_dropLast,hl];rfl))
 exact this _ l O
theorem aov:∀(es:List E3) (e:E3),(e∈Er es∨xY e∈Er es)↔(e∈es∨xY e∈es):=by
 intro es
 induction es using acN with
 | h0=>intro e;exact Iff.rfl
 | h1 es a ih =>
  intro e;rw[acM];unfold aou;have ia:=ih a;split
  · have:=ih e
    simp only[br,bg]
    grind
  · rename_i hn
    rw[vO,vO] at hn;have hn:a∈Er es∨xY a∈Er es:=by
     by_cases k:a∈Er es
     · exact .inl k
     · exact .inr (Decidable.byContradiction fun k2=>hn ⟨k,k2⟩)
    have ha:=ia.1 hn;rw[ih e];simp only[br,bg];constructor
    · rintro (h | h)
      · exact .inl (.inl h)
      · exact .inr (.inl h)
    · rintro ((h | rfl) | (h | h))
      · exact .inl h
      · exact ha
      · exact .inr h
      · have:e=xY a:=by rw[←Kn e,h]
        rw[this,Kn];exact ha.symm
theorem aow:∀es:List E3,es.Nodup→(∀e∈es,e.1≠e.2)→2*(Er es).length=es.length+(Pf es).length:=by
 intro es
 induction es using acN with
 | h0=>intro _ _;rfl
 | h1 es a ih =>
  intro hn hl;obtain⟨n1,n2⟩:=sV.1 hn;have ih:=ih n1 fun e he=>hl e (List.mem_append_left _ he);have hal:=hl a (List.mem_append_right _ (jt _));have hra:xY a≠a:=fun e=>hal (congrArg qz e).symm;have hla:(Pf (es++[a]))=(es.filter fun e=>!decide (xY e∈es) && !decide (e=xY a))++if xY a∈es then [] else [a]:=by
   unfold Pf;rw[fx]
   congr 1
   · refine pd fun e he=>?_
     rw[←Bool.not_or]
     congr 1
     rw[←Bool.decide_or];refine decide_eq_decide.2 ?_;rw[br,bg];exact or_congr Iff.rfl ⟨fun h=>by rw[←h,Kn],fun h=>by rw[h,Kn]⟩
   · rw[ep,mb]
     by_cases k:xY a∈es
     · simp[k]
     · simp[k,hra]
  rw[hla,acM];unfold aou;have hm:=aov es a;by_cases k:xY a∈es
  · have hp:¬(kN (Er es) a=0∧kN (Er es) (a.2,a.1)=0):=fun h=>by
     rw[vO,vO] at h;exact (hm.2 (.inr k)).elim h.1 h.2
    rw[if_neg hp,if_pos k,fe,a_];have h1:(es.filter fun e=>!decide (xY e∈es) && !decide (e=xY a))=(Pf es).filter fun e=>!decide (e=xY a):=by
     unfold Pf;rw[List.filter_filter];exact pd fun e _=>Bool.and_comm _ _
    have h2:xY a∈Pf es:=by
     unfold Pf;refine c_.2 ⟨k,?_⟩;rw[Kn];simp[n2]
    have h3:=xZ (n1.sublist (l₁:=Pf es) jy) h2;rw[h1];simp only[pf];omega
  · have hp:kN (Er es) a=0∧kN (Er es) (a.2,a.1)=0:=by
     rw[vO,vO];have:¬(a∈Er es∨xY a∈Er es):=fun h=>(hm.1 h).elim n2 k;exact⟨fun h=>this (.inl h),fun h=>this (.inr h)⟩
    rw[if_pos hp,if_neg k,a_,a_,a_];have h1:(es.filter fun e=>!decide (xY e∈es) && !decide (e=xY a))=Pf es:=by
     unfold Pf;refine pd fun e he=>?_;have:e≠xY a:=fun h=>k (h▸he);simp[this]
    rw[h1];simp only[pf];omega
theorem Yy{α:Type}[DecidableEq α]{l m:List α}(h1:l.Nodup)(h2:m.Nodup)(h:∀x,x∈l↔x∈m):l.length=m.length :=
 Nat.le_antisymm (nY h1 fun x hx=>(h x).1 hx) (nY h2 fun x hx=>(h x).2 hx)
theorem acO(nd:(aU ts).Nodup):(Pf (aU ts)).length=(aO ts).length:=by
 refine Yy (nd.sublist jy) (pD ts).nodup fun e=>?_;rw[yQ];unfold Pf sE;rw[c_,ij,decide_eq_false_iff_not];rfl
theorem aeT(dg:pG ts):∀e∈aU ts,e.1≠e.2:=fun e he=>by
 obtain⟨a,b⟩:=e;obtain⟨y,h⟩:=oL.1 he;exact (jY dg h).1
theorem Qk(dg:pG ts)(nd:(aU ts).Nodup):2*(Er (aU ts)).length=3*ts.length+(aO ts).length:=by
 rw[aow _ nd (aeT dg),acO nd,nF];omega
/-! ### Triangles -/
def Hg(u v:P3)(t:T3):Bool:=t.has u&&t.has v
theorem acP{u v:P3}(hne:u≠v):∀ts:List T3,pG ts→(ts.filter (Hg u v)).length=kN (aU ts) (u,v)+kN (aU ts) (v,u)
 | [],_=>rfl
 | t::ts,dg=>by
  have ih:=acP hne ts fun s hs=>dg s (bm _ hs);obtain⟨k1,k2,k3⟩:=anJ (dg t (bj ..));have e:aU (t::ts)=(t.a,t.b)::(t.b,t.c)::(t.c,t.a)::aU ts:=rfl;rw[e,oH,oH,oH,oH,oH,oH,ep];simp only[fc];have h:Hg u v t=true↔(t.a=u∧t.b=v)∨(t.b=u∧t.c=v)∨(t.c=u∧t.a=v)∨(t.a=v∧t.b=u)∨(t.b=v∧t.c=u)∨(t.c=v∧t.a=u):=by
   unfold Hg;rw[bh,iJ,iJ]
   grind
  by_cases hb:Hg u v t=true
  · rw[if_pos hb,az,ih]
    have h':=h.1 hb
    grind
  · rw[if_neg hb,ih]
    have h':=fun k=>hb (h.2 k)
    grind
section
variable {us:List T3} {u v c1 c2:P3}
theorem eZ.faces(c:eZ us u v c1 c2):(iC us u v).length+2=us.length:=by
 unfold iC;rw[sY];have h1:(uQ u v us).length=(us.filter fun t=>(pI u v t).nd).length:=by rw[Us,dm]
 have h2:(us.filter fun t=>(pI u v t).nd)=us.filter fun t=>!Hg u v t:=pd fun t ht=>by
  have:=aqt (u:=u) (v:=v) c.ne (nd_of (c.dg t ht));unfold Hg;cases hm:(pI u v t).nd <;> cases hu:t.has u <;> cases hv:t.has v <;> simp[hm,hu,hv] at this ⊢
 have h3:(us.filter (Hg u v)).length=2:=by
  rw[acP c.ne us c.dg];have k1:=Fu.1 c.nd (u,v);have k2:=Fu.1 c.nd (v,u);have k3:=pC.2 (Bf c.h1);have k4:=pC.2 (Bf c.h2);omega
 have h4:∀l:List T3,(l.filter (Hg u v)).length+(l.filter fun t=>!Hg u v t).length=l.length:=fun l=>by
  induction l with
  | nil=>rfl
  | cons t l ih =>
   rw[ep,ep];cases Hg u v t <;> simp <;> omega
 have:=h4 us;rw[h1,h2];omega
theorem eZ.cors(c:eZ us u v c1 c2)(x:P3):x∈bG (iC us u v)↔x∈bG us∧x≠u:=by
 constructor
 · intro h
   obtain⟨a,b,h⟩:=nN.1 h;refine⟨?_,(c.nu h).1⟩;obtain⟨⟨p',x',y',h,hp,_,_⟩,_⟩:=Ih.1 h;by_cases e:p'=u
   · rw[e,lO] at hp;rw[←hp];exact nN.2 ⟨_,_,c.h2⟩
   · rw[iA e] at hp;rw[←hp];exact nN.2 ⟨_,_,h⟩
 · rintro⟨h,hne⟩
   have:=c.img h;rwa [iA hne] at this
theorem tO(ts:List T3):(cK ts).Nodup:=by
 have h:=rX ts;unfold sU at h;refine oa (S:=fun a b:P3=>a≠b) (fun {a b} k e=>?_) h;rw[e] at k;exact P3.lt_irrefl b k
theorem eZ.ncors(c:eZ us u v c1 c2):(cK (iC us u v)).length+1=(cK us).length:=by
 have hu:u∈cK us:=mM.2 (nN.2 ⟨_,_,c.h1⟩);rw[←xZ (tO us) hu]
 congr 1
 refine Yy (tO _) ((tO us).sublist jy) fun x=>?_;rw[c_,mM,mM,c.cors];simp
theorem eZ.euler(c:eZ us u v c1 c2):Wn (iC us u v)=Wn us:=by
 have h1:=Qk c.dg c.nd;have h2:=Qk c.no_deg c.nodup;have h3:=c.faces;have h4:=c.ncors;have h5:aO (iC us u v)=aO us:=xE c.bord;rw[h5] at h2;unfold Wn;omega
end
/-! ### All along -/
def aox(D:List Mv)(x:P3):P3:=(bL D x).getD x
structure Ut(l0 l:List T3)(D:List Mv):Prop where
 ck:cQ true l=0
 acc:Bn l l0 (aox D)
 nk:(D.map (·.1)).Nodup
 gone:∀m∈D,m.1∉bG l∧m.2∈bG l∧m.1∈bG l0
 num:(cK l).length+D.length=(cK l0).length
 eul:Wn l=Wn l0
 le:l.length≤l0.length
theorem Ut.zero(h:cQ true l=0):Ut l l []:=by
 obtain⟨h1,h2,h3⟩:=lK.1 h;exact⟨h,Bn.refl h1 h2 h3,ku,fun m h=>(by cases h),rfl,rfl,av _⟩
theorem ago(x:P3):bL (D.map fun e=>(e.1,f e.2)) x=(bL D x).map f:=by
 induction D with
 | nil=>rfl
 | cons m D ih =>
  rw[bi];unfold bL;simp only;split
  · rfl
  · exact ih
theorem Uu{v:P3}(h:u∉D.map (·.1)):(toF D u v).map (·.1)=D.map (·.1)++[u]:=by
 unfold toF;have e:(D.map fun e=>(e.1,kZ u v e.2)).map (·.1)=D.map (·.1):=by
  rw[ng];rfl
 rw[vL,e,if_neg h]
theorem aoy{v:P3}(hn:(D.map (·.1)).Nodup)(h:u∉D.map (·.1))(hm:m∈toF D u v):m=(u,v)∨∃e∈D,m=(e.1,kZ u v e.2):=by
 have hk:((toF D u v).map (·.1)).Nodup:=by
  rw[Uu h];exact sV.2 ⟨hn,h⟩
 have hg:bL (toF D u v) m.1=some m.2:=lH hk hm;unfold toF at hg;rw[kO,ago] at hg;split at hg
 · rename_i e
   cases hg;left;rw[e]
 · obtain⟨b,hb,hb2⟩:=Option.map_eq_some_iff.1 hg
   exact .inr ⟨(m.1,b),rM hb,by rw[hb2]⟩
theorem Ut.step{l0:List T3}{v:P3}(r:Ut l0 l D)(h:dT l u v=true):Ut l0 (iC l u v) (toF D u v):=by
 unfold dT at h;simp only[bh] at h;obtain⟨⟨⟨⟨⟨hj,hl⟩,_⟩,hi⟩,_⟩,_⟩:=h;obtain⟨c1,c2,c⟩:=aot r.ck hj hl;have hu:u∈bG l:=nN.2 ⟨_,_,c.h1⟩;have hv:v∈bG l:=nN.2 ⟨_,_,c.h2⟩;have hk:u∉D.map (·.1):=fun hm=>by
  obtain⟨m,hm',rfl⟩:=cu.1 hm;exact (r.gone m hm').1 hu
 have hvc:v∈bG (iC l u v):=(c.cors v).2 ⟨hv,Ne.symm c.ne⟩;refine⟨c.check,((c.acc hi).trans r.acc).congr fun x hx=>?_,?_,fun m hm=>?_,?_,c.euler.trans r.eul,?_⟩
 · unfold aox toF
   rw[kO,ago];split
   · rename_i e
     subst e;rw[lD.2 hk];exact lO
   · rename_i e
     cases bL D x with
     | none=>exact iA (Ne.symm e)
     | some y=>rfl
 · rw[Uu hk]
   exact sV.2 ⟨r.nk,hk⟩
 · rcases aoy r.nk hk hm with rfl | ⟨e,he,rfl⟩
   · exact⟨fun h=>((c.cors u).1 h).2 O,hvc,r.acc.sub u hu⟩
   · obtain⟨g1,g2,g3⟩:=r.gone e he
     exact⟨fun h=>g1 ((c.cors _).1 h).1,c.img g2,g3⟩
 · have h1:=congrArg List.length (Uu (v:=v) hk)
   rw[dm,a_,dm,pf] at h1;have:=c.ncors;have:=r.num;omega
 · have:=c.faces
   have:=r.le;omega
theorem Ut.run{l0:List T3}{want:Int}:∀(n:Nat) {l:List T3} {q:P3→List Int} {D:List Mv},Ut l0 l D→Ut l0 (oA n want l q D).1 (oA n want l q D).2
 | 0,_,_,_,r=>r
 | n+1,l,q,D,r=>by
  unfold oA;split
  · exact r
  · cases hb:Cf l q with
    | none=>exact r
    | some c=>exact Ut.run n (r.step (Mp hb).2)
/-! ### The ends of fans -/
theorem arD{v:P3}(dg:pG ts)(nd:(aU ts).Nodup)(hb:sE ts (v,a)):∃z,Hv (Nx ts v) a z:=by
 have key:∀n,(∃x,pE ts v n a=some x)∨∃z,Hv (Nx ts v) a z:=by
  intro n
  induction n with
  | zero=>exact .inl ⟨a,rfl⟩
  | succ n ih =>
   rcases ih with ⟨x,hx⟩ | h
   · cases hn:bE ts v x with
     | none=>exact .inr ⟨x,(Tc nd).2 ⟨n,hx⟩,fun y hy=>by rw[(Be nd).1 hy] at hn;cases hn⟩
     | some y=>exact .inl ⟨y,by rw[pF,hx,Option.bind_some,hn]⟩
   · exact .inr h
 rcases key (ts.length+1) with ⟨x,hx⟩ | h
 · have:=aaA dg nd hb.2 hx
   omega
 · exact h
theorem agp{v z:P3}(dg:pG ts)(nd:(aU ts).Nodup)(hb:sE ts (v,a))(h:Hv (Nx ts v) a z):aaz ts v ts.length a=z:=by
 obtain⟨i,hi⟩:=(Tc nd).1 h.1;refine aed i ts.length a z (aaA dg nd hb.2 hi) hi ?_;cases hn:bE ts v z with
 | none=>rfl
 | some y=>exact absurd ((Be nd).2 hn) (h.2 y)
/-! ### Accepted -/
theorem aib{K:Type}[DecidableEq K]{ks js:List K}(h:ks.Perm js)(a:K):qR ks a=qR js a:=(h.filter _).length_eq
structure Mvs(l us:List T3)(ms:List Mv):Prop where
 pl:(ms.map (·.1)).Pairwise P3.Lt
 ic:∀m∈ms,m.1∈bG us
 nl:∀m∈ms,m.1∉bG l
 to:∀m∈ms,m.2∈bG l
theorem wO   : x∈bG (dG l)↔x∈bG l:=by
 rw[nN,nN];exact exists_congr fun a=>exists_congr fun b=>Uq
theorem Gd   : t∈dG l↔∃s∈l,eX s=t:=by
 rw[(nZ l).mem_iff,cu]
theorem Uv(e:E3):sE (dG l) e↔sE l e:=by
 unfold sE;rw[(oC l).mem_iff,(oC l).mem_iff]
theorem Ng  : pG (dG l)↔pG l:=by
 constructor
 · intro h t ht
   rw[←acK (lE t)];exact h _ (Gd.2 ⟨t,ht,O⟩)
 · intro h t ht
   obtain⟨s,hs,rfl⟩:=Gd.1 ht;rw[acK (lE s)];exact h s hs
theorem Nh(p:P3):Nx (dG l) p=Nx l p:=funext fun _=>funext fun _=>propext Uq
theorem acQ  : cQ true (dG l)=0↔cQ true l=0:=by
 rw[lK,lK,Ng,(oC l).nodup_iff];simp only[Nh]
theorem aic(l:List T3):(yR f (dG l)).Perm (yR f l):=by
 refine ((nZ l).flatMap_right (hF f)).trans ?_;have e:(l.map eX).flatMap (hF f)=yR f l:=by
  unfold yR;rw[ph]
  congr 1
  exact funext fun t=>aaH (lE t)
 rw[e]
theorem Bn.of_canon{s:List T3}(h:Bn l (dG s) f):Bn l s f:=by
 refine⟨Ng.1 h.dg,(oC s).nodup_iff.1 h.nd,fun v=>Nh (l:=s) v▸h.pin v,fun e=>(Uv e).symm.trans (h.bd e),fun x hx=>wO.1 (h.sub x hx),h.fix,fun x hx=>h.img x (wO.2 hx),(aic s).symm.trans h.hit,fun t ht x y hx hy=>?_,fun e he h1 h2=>(oC s).mem_iff.1 (h.keep e he h1 h2),fun v a z hb hf=>Nh (l:=s) v▸h.fan v a z hb hf⟩;exact h.pair (eX t) (Gd.2 ⟨t,ht,O⟩) x y (by rw[acn (lE t)];exact hx) (by rw[acn (lE t)];exact hy)
theorem aoz{ms:List Mv}(A:Bn l us (mU ms))(M:Mvs l us ms)(dg:pG l)(nd:(aU l).Nodup)(pin:∀v,oT (Nx l v)){n:Int}(hm:pH ms 0=some n):oS us l ms=(n,0):=by
 have c1:cQ true us=0:=lK.2 ⟨A.dg,A.nd,A.pin⟩;have c2:cQ true l=0:=lK.2 ⟨dg,nd,pin⟩;have hj:uM us l (aO us)=false:=by
  unfold uM;rw[ob];intro e he k;simp only[bh,ij] at k;obtain⟨⟨k1,k2⟩,k3⟩:=k;rw[A.rim] at k1 k2;rw[Hp (A.keep e he k1 k2)] at k3;cases k3
 have hf:Dw us l (aO us)=true:=by
  unfold Dw;rw[dt];intro e he;obtain⟨v,a⟩:=e;have b1:sE us (v,a):=yQ.1 he;have b2:sE l (v,a):=(A.bd _).1 b1;obtain⟨z,hz⟩:=arD dg nd b2;exact decide_eq_true ((agp A.dg A.nd b1 (A.fan v a z b2 hz)).trans (agp dg nd b2 hz).symm)
 have hmv:uN us l ms (aO us)=true:=Bc.2 fun i m him=>by
  have hmem:=bn him;have r1:(decide (i=0)||(ms[i-1]?).any fun k=>decide (k.1.Lt m.1))=true:=by
   cases i with
   | zero=>rfl
   | succ i =>
    have hl:=(ax.1 him).1;have h1:ms[i]? = some ms[i]:=List.getElem?_eq_getElem (by omega);have h2:=List.pairwise_iff_getElem.1 M.pl i (i+1) (by rw[dm];omega) (by rw[dm];omega) (by omega);rw[pg,pg] at h2;rw[Nat.add_sub_cancel,h1,←(ax.1 him).2];simp[h2]
  have r2:wG us m.1=true:=Dx.2 (M.ic m hmem);have r3:wG l m.2=true:=Dx.2 (M.to m hmem);have r4:wG us m.2=true:=Dx.2 (A.sub _ (M.to m hmem));have r5:(ms.all fun k=>decide (k.1≠m.2))=true:=dt.2 fun k hk=>decide_eq_true fun e=>M.nl k hk (e▸M.to m hmem);have r6:wH (aO us) m.1=false:=by
   cases hh:wH (aO us) m.1 with
   | false=>rfl
   | true=>rw[A.rim] at hh;exact absurd (acj hh) (M.nl m hmem)
  rw[xD,r1,r2,r3,r4,r5,r6];rfl
 have hcv:uO us l ms=true:=by
  have hit:=A.hit;rw[←afS] at hit;unfold uO;rw[bh,dt,dt];refine⟨fun t ht=>?_,fun u hu=>decide_eq_true ?_⟩
  · cases hn:(t.img ms).nd with
    | true =>
     refine (Sz hn).2 (hit.mem_iff.1 ?_);exact cu.2 ⟨t,c_.2 ⟨ht,hn⟩,O⟩
    | false =>
     have h1:t.has t.a=true:=iJ.2 (.inl rfl);have h2:t.has t.b=true:=iJ.2 (.inr (.inl rfl));have h3:t.has t.c=true:=iJ.2 (.inr (.inr rfl));exact (Hq hn).2 ⟨A.pair t ht _ _ h1 h2,A.pair t ht _ _ h2 h3⟩
  · rw[Kc,aib hit]
    have h1:=Hr (Yf nd) (eX u);have h2:=Dy.2 (cu.2 ⟨u,hu,rfl⟩:eX u∈l.map eX);omega
 rw[oS,if_neg (fun k=>k c1),if_neg (fun k=>k c2),if_neg (fun k=>k A.rim),if_neg (by rw[hj,hf];simp),if_neg (by rw[hmv];simp),if_neg (by rw[hcv];simp),hm]
/-! ### The moves in order -/
theorem Ni(p:P3):∀l:List P3,(ahE p l).Perm (p::l)
 | []=>.refl _
 | q::l=>by
  rw[ahE];split
  · exact ((Ni p l).cons q).trans (.swap ..)
  · exact .refl _
theorem lM:∀l:List P3,(yS l).Perm l
 | []=>.refl _
 | p::l=>(Ni p _).trans ((lM l).cons p)
theorem Oo{p:P3}:∀{l:List P3},l.Pairwise P3.Lt→p∉l→(ahE p l).Pairwise P3.Lt
 | [],_,_=>jq _ _
 | q::l,h,hn=>by
  rw[ahE];obtain⟨h1,h2⟩:=bq.1 h;split
  · rename_i k
    refine bq.2 ⟨fun x hx=>?_,Oo h2 fun k=>hn (bm _ k)⟩;rcases ao.1 ((Ni p l).subset hx) with rfl | hx
    · exact k
    · exact h1 x hx
  · rename_i k
    have hq:p.Lt q:=by
     rcases lt_tri q p with e | e | e
     · exact absurd e k
     · exact absurd (e▸bj ..) hn
     · exact e
    refine bq.2 ⟨fun x hx=>?_,h⟩;rcases ao.1 hx with rfl | hx
    · exact hq
    · exact P3.lt_trans hq (h1 x hx)
theorem Bo:∀{l:List P3},l.Nodup→(yS l).Pairwise P3.Lt
 | [],_=>kz
 | p::l,h=>by
  obtain⟨h1,h2⟩:=fz.1 h;exact Oo (Bo h2) fun k=>h1 ((lM l).mem_iff.1 k)
theorem Bp(D:List Mv):(lB D).map (·.1)=yS (D.map (·.1)):=by
 unfold lB;rw[ng];exact List.map_id _
theorem aid(hn:(D.map (·.1)).Nodup)(x:P3):mU (lB D) x=aox D x:=by
 rw[aaC];unfold aox;have hk:((lB D).map (·.1)).Nodup:=by rw[Bp];exact (lM _).nodup_iff.2 hn
 cases h:bL D x with
 | none =>
  have h1:x∉(lB D).map (·.1):=by
   rw[Bp,(lM _).mem_iff];exact lD.1 h
  rw[lD.2 h1]
 | some y =>
  have h1:x∈yS (D.map (·.1)):=(lM _).mem_iff.2 (cu.2 ⟨_,rM h,rfl⟩);have h2:(x,y)∈lB D:=cu.2 ⟨x,h1,by rw[h];rfl⟩;rw[lH hk h2]
theorem Nj(hm:m∈lB D):m∈D:=by
 obtain⟨x,hx,rfl⟩:=cu.1 hm;have hx:=(lM _).mem_iff.1 hx;cases h:bL D x with
 | none=>exact absurd hx (lD.1 h)
 | some y=>exact rM h
theorem yW(D:List Mv):(lB D).length=D.length:=by
 have:=congrArg List.length (Bp D);rw[dm,(lM _).length_eq,dm] at this;exact this
structure apz(s:List T3)(r:List T3)(ms:List Mv):Prop where
 ck:cQ true r=0
 acc:Bn r s (mU ms)
 mv:Mvs r s ms
 num:(cK r).length+ms.length=(cK s).length
 eul:Wn r=Wn s
 le:r.length≤s.length
theorem Kq{m:List T3}(h:∀x,x∈bG l↔x∈bG m):cK l=cK m:=by
 have k:∀x,x∈cK l↔x∈cK m:=fun x=>by rw[mM,mM];exact h x
 exact Si (rX l) (rX m) k
theorem aie{s:List T3}(dg:pG s)(nd:(aU s).Nodup):Wn (dG s)=Wn s:=by
 have h1:=Qk dg nd;have h2:=Qk (Ng.2 dg) ((oC s).nodup_iff.2 nd);rw[xE Uv,sY] at h2;unfold Wn;rw[Kq fun x=>wO,sY];omega
theorem tC{s:List T3}{want:Int}(h:cQ true s=0):apz s (mZ s want).1 (mZ s want).2:=by
 have h0:=acQ.2 h;unfold mZ;rw[if_neg (fun k=>k h0)];have r:=Ut.run (want:=want) (dG s).length (q:=wS (dG s)) (Ut.zero h0);obtain⟨h1,h2,h3⟩:=lK.1 h;refine⟨r.ck,(r.acc.congr fun x _=>(aid r.nk x).symm).of_canon,⟨by rw[Bp];exact Bo r.nk,fun m hm=>wO.1 (r.gone m (Nj hm)).2.2,fun m hm=>(r.gone m (Nj hm)).1,fun m hm=>(r.gone m (Nj hm)).2.1⟩,?_,r.eul.trans (aie h1 h2),?_⟩
 · rw[yW,←Kq fun x=>wO (l:=s)]
   exact r.num
 · rw[←sY s];exact r.le
theorem Uw{l ys:List P3}(hn:l.Nodup)(h:ys.Perm l)(hs:ys.Pairwise fun a b=>¬b.Lt a):ys=yS l:=by
 have h1:ys.Pairwise P3.Lt:=(hs.and (h.nodup_iff.2 hn)).imp fun {a b} k=>by
  rcases P3.lt_tri a b with e | e | e
  · exact e
  · exact absurd e k.2
  · exact absurd e k.1
 exact Ho P3.lt_irrefl (fun _ _ _=>P3.lt_trans) h1 (Bo hn) fun p=>by rw[h.mem_iff,(lM l).mem_iff]
def kT(t:T3):T3:=match Th t with
 | [a,b,c]=>⟨a,b,c⟩
 | _=>t
theorem abb(t:T3):Th t=[(kT t).a,(kT t).b,(kT t).c]:=by
 have h:(Th t).length=3:=(lM _).length_eq;unfold kT;generalize Th t=L at h;rcases L with _ | ⟨a,_ | ⟨b,_ | ⟨c,_ | ⟨d,L⟩⟩⟩⟩ <;> simp only[az,b_] at h <;> first | omega | rfl
theorem alM{s:T3}:kT s=kT t↔Th s=Th t:=by
 rw[abb s,abb t];constructor
 · intro h;rw[h]
 · intro h
   simp only[l_,and_true] at h;obtain⟨a,b,c⟩:=h;cases hs:kT s;cases ht:kT t;simp only[hs,ht] at a b c;rw[a,b,c]
theorem acR  : (l.map kT).Nodup↔(l.map Th).Nodup:=by
 unfold List.Nodup;rw[la,la];exact⟨fun h=>h.imp fun k e=>k (alM.2 e),fun h=>h.imp fun k e=>k (alM.1 e)⟩
theorem Ux(h:t.nd=true):[t.a,t.b,t.c].Nodup:=by
 obtain⟨h1,h2,h3⟩:=(uP (t:=t)).1 h;simp only[fz,ao,bt,or_false,not_or,not_false_eq_true,ku,and_true];exact⟨⟨h1,fun e=>h3 e.symm⟩,h2⟩
theorem arE{L:List T3}{k:Nat}(ht:L[k]? = some t)(h:kT t∈(L.take k).map kT):decide ((L.map Th).Nodup)=false:=by
 rw[decide_eq_false_iff_not,←acR];intro hn;obtain⟨s,hs,e⟩:=cu.1 h;obtain⟨j,hj⟩:=ej.1 hs;rw[List.getElem?_take] at hj;split at hj
 · rename_i hjk
   have h1:(L.map kT)[j]? = some (kT t):=by rw[fj,hj];exact congrArg some e
   have h2:(L.map kT)[k]? = some (kT t):=by rw[fj,ht];rfl
   obtain⟨a1,a2⟩:=ax.1 h1;obtain⟨b1,b2⟩:=ax.1 h2;have:=(List.getElem_inj hn).1 (a2.trans b2.symm);omega
 · cases hj
theorem aoA{L:List T3}{k:Nat}(ht:L[k]? = some t)(hn:((L.take k).map kT).Nodup)(h:kT t∉(L.take k).map kT):((L.take (k+1)).map kT).Nodup:=by
 rw[cC ht,cz];exact List.nodup_append.2 ⟨hn,by simp,fun a ha b hb e=>h (by rw[bg.1 hb] at e;exact e▸ha)⟩
end Go.Lith
namespace Go.Proofs.YtfekpcimgncioaaGreatDoor
open Go.Proofs.Tryz
open Go.RowKit Go.Lith
set_option maxRecDepth 100000
attribute [local irreducible] au cq eF bJ cD Code.wp
attribute [local congr] oG fS fT fU fV fW jR fX fY fZ gA gB gC gD gE gF gG gH eM eN gI gJ gL gM gN jT cW cX cA cU gK jS eO eP eQ gQ gR jU
variable{N cap:Nat}
theorem alN{w:am}{A:Option Addr}{ps:List P3}(h:Aq gX 3 w A N ps)(hA:A.isNone=true):ps=[]:=by
 cases A with
 | some a=>cases hA
 | none =>
  cases ps with
  | nil=>rfl
  | cons t ts =>
   obtain⟨a,e,_⟩:=h.row 0 t rfl;cases e
theorem aue{w:am}{g:Nat}{t:T3}{T:ay}(h:fE w g (aP t) T):Aq gX 3 w (some ⟨g,0,none⟩) 3 [t.a,t.b,t.c]:=⟨rfl,fun i x hx=>by
 refine⟨⟨g,0,none⟩,O,?_⟩;rcases i with _ | _ | _ | i <;> simp at hx <;> subst hx
 · exact (h.row 0).take 3
 · exact (h.row 3).take 3
 · exact (h.row 6).take 3⟩
theorem alO{ps:List P3}{A:Option Addr}(w:am)(hT:Aq gX 3 w A N ps)(hN:N≤10000000):dR prog 170 [.slice A N cap] w (SL 30 3 (ps.flatMap gX) ps.length w):=by
 refine⟨bO func170 (by kernel_rfl),?_⟩;have m:=Mem.refl w;have htl:=hT.len
 go_enter func170,ntmps170
 apply iE 8 [0] m;simp only[↓aD];refine aB (Jc gW O O) ?_;apply aM 1 [0] m;simp only[↓aD];refine dC O ?_ ?_<;>intro hc1
 ·
  obtain rfl:=alN hT hc1;apply aL 5 [] m;simp only[↓aD];exact aY O O ⟨_,O,m.ext,⟨none,0,0,O,O,Ow.nil _ _ _ _⟩⟩
 ·
  apply aL 3 [0] m;simp only[↓aD];refine Je gW (c:=3) (by kernel_rfl)  ?_;intro u g1 e_ h_ k_;replace m:=m.newB e_ h_ k_;simp only[zz];replace m:=m.own 0 O (n:=0) (c:=3) O (jO O);simp only[zG] at m;apply aM 1 [0] m;simp only[↓aD];refine cS m 0 O O gW uJ O (by decide) O O (by rw[show (ps.flatMap qO).length=ps.length*3 from aj8,hT.len]) ((hT.ext m.ext).cells Lg (by decide)) (Ru _) (by omega) (by omega) ?_;intro A5 cap5 u m;simp only[zF,zG] at m;simp only[ap,bv] at m ⊢;apply aM 3 [] m;simp only[↓aD];exact aY O O ⟨_,O,m.ext,⟨_,_,_,htl.symm,O,(m.o 0 O)⟩⟩
theorem agq{w0 w:am}{is:List It}{A:Option Addr}{n cap:Nat}{xs:List P3}(m:Mem w0 w is)(k:Nat)(hi:is[k]? = some (oI 30 3 A n cap (xs.flatMap gX)))(hsz:n<4611686018427387904) :
 Calls prog 128 [.slice A n cap,.func (.func 70) #[] #[]].toArray w fun e w'=>∃v i,e=.returned v∧Mem w0 w' (is.set k i)∧(v=.tuple #[]∧∃ys:List P3,i=oI 30 3 A n cap (ys.flatMap gX)∧ys.Perm xs∧ys.Pairwise fun a b=>¬b.Lt a) :=
 (Ds (enc:=gX) Tryz.sort128 (fun w=>qU aH w) (fun w=>fA aA w) (fun _=>rfl) (by decide) Od sA ab9 (fun x y=>Up) m k hi hsz).mono (by
  rintro e w' ⟨v,i,h1,h2,h3,ys,h4,h5,h6⟩;exact⟨v,i,h1,h2,h3,ys,h4,h5,h6.imp fun h=>by simpa[Go.Proofs.ltOf,mY] using h⟩)
theorem apA:rN prog 38 tr:=by
 refine rN.agg (cs:=fun p=>#[.int .i64 p.a.x,.int .i64 p.a.y,.int .i64 p.a.z,.int .i64 p.b.x,.int .i64 p.b.y,.int .i64 p.b.z,.int .i64 p.c.x,.int .i64 p.c.y,.int .i64 p.c.z]) (fun _=>rfl) underlying38 (fun e p=>?_) (fun p q=>?_) (fun p=>?_)
 · refine sR.array (d:=9999) underlying38 aA fun i hi=>?_
   obtain rfl | rfl | rfl:=(by omega:i=0∨i=1∨i=2)
   · refine⟨_,cZ aH aA O,?_⟩
     refine sR.struct (d:=9998) oN fun f hf=>?_;simp only[ao,bt,or_false] at hf;rcases hf with rfl | rfl | rfl
     · exact⟨_,bU bT O,sR.int (d:=9997) iY⟩
     · exact⟨_,bU bT O,sR.int (d:=9997) iY⟩
     · exact⟨_,bU bT O,sR.int (d:=9997) iY⟩
   · refine⟨_,cZ aH aA O,?_⟩
     refine sR.struct (d:=9998) oN fun f hf=>?_;simp only[ao,bt,or_false] at hf;rcases hf with rfl | rfl | rfl
     · exact⟨_,bU bT O,sR.int (d:=9997) iY⟩
     · exact⟨_,bU bT O,sR.int (d:=9997) iY⟩
     · exact⟨_,bU bT O,sR.int (d:=9997) iY⟩
   · refine⟨_,cZ aH aA O,?_⟩
     refine sR.struct (d:=9998) oN fun f hf=>?_;simp only[ao,bt,or_false] at hf;rcases hf with rfl | rfl | rfl
     · exact⟨_,bU bT O,sR.int (d:=9997) iY⟩
     · exact⟨_,bU bT O,sR.int (d:=9997) iY⟩
     · exact⟨_,bU bT O,sR.int (d:=9997) iY⟩
 · exact (aqh _).iff ⟨fun h=>Mg (P3.eq h.1 h.2.1 h.2.2.1) (P3.eq h.2.2.2.1 h.2.2.2.2.1 h.2.2.2.2.2.1) (P3.eq h.2.2.2.2.2.2.1 h.2.2.2.2.2.2.2.1 h.2.2.2.2.2.2.2.2),fun h=>by subst h;simp only[and_self]⟩
 · simp[tr,Instr.sameBits]
theorem aif{g90 g91 ga gf gx gy cx cy cf nm cm no co nr cr:Nat}{A Am Ao Ar:Option Addr}{ex ey ef:Array cg}{X Y F:List (P3 × Bool)}{ts:List T3}{p q:P3}{ms rs:List T3}(w:am)(hB91:fE w g91 [.pointer (some ⟨g90,0,none⟩),.int .i64 p.x,.int .i64 p.y,.int .i64 p.z,.int .i64 q.x,.int .i64 q.y,.int .i64 q.z,.map (some gx),.map (some gy),.slice Am nm cm,.slice Ao no co,.slice Ar nr cr] 218)(hB90:fE w g90 [.slice A N cap,.map (some ga),.map (some gf)] 109)(hTm:cJ w Am nm ms)(hTr:cJ w Ar nr rs)(hnd:∀t∈ms++rs,t.nd=true)(hN:nm+nr≤10000000):dR prog 102 [.pointer (some ⟨g91,0,none⟩)] w (fun v _=>v=.bool (decide (((ms++rs).map Th).Nodup))):=by
 refine⟨bO func102 (by kernel_rfl),?_⟩;have m:=Mem.refl w;have htm:=hTm.len;have htr:=hTr.len;have hit:∀t∈ms++rs,IT t:=fun t ht=>(br.1 ht).elim (hTm.it t) (hTr.it t)
 go_enter func102,ntmps102
 apply iE 6 [0] m;simp only[↓aD];refine iV m ?_;intro q8 u m;have hD8:=bA.nil (K:=T3) (V:=Bool) tr ba;apply aM 4 [0] m;simp only[↓aD];refine mh m [true] [(0,true),(1,true),(2,true),(5,true),(6,true),(7,true),(11,true),(3,true),(8,true),(4,false),(9,false),(10,true)] aF (by kernel_rfl) (cB (fun _ _ _ _ _ h=>h)) (ol:=?_) ?hol ?_
 case hol=>simp only[zw,zQ,zR];try rfl
 intro u m;refine Oc 7 [] ?_;simp only[↓aD,Kf,Ty,aa];refine nT O (fun u m=>((hB91.ext m.ext).lies1 nW O)) ?_;simp only[zz];refine nT O (fun u m=>((hB91.ext m.ext).lies1 nW O)) ?_;simp only[zz];refine cG (bB O O (alL (ts:=ms) _ (hTm.ext m.ext) (by omega)) ?_);rintro v u e_ ⟨A5,cap5,n5,hn5,rfl,h_⟩;replace m:=m.newO e_ h_;refine aI ⟨m.sel [false,true],?_⟩;refine cG ?_;simp only[zz];refine cS m 0 O O bZ kS O (by decide) O O (by rw[Ji,hTr.len]) (cJ.cells (hTr.ext m.ext)) (rF _) (by omega) (by omega) ?_;intro A5 cap5 u m;simp only[zF,zG] at m;rw[←be] at m;refine aI ⟨m.sel [false,true],?_⟩;refine cF (jD O bZ O) (bY ?_);apply bF 1 [0] m;simp only[↓aD];refine cP [20] [2,5,6,7,21,22,23,24,25,26,27,28,29,30,31,32,33,34,35,36,37] (fun n vs wl=>∃(k:Nat) (es:Array cg) (c:Nat),vs=[.int .i64 (k:Int)]∧Mem w wl [oI 39 9 A5 (n5+nr) cap5 ((ms++rs).flatMap aP),mI q8 es c]∧(bA tr ba (dX [] (((ms++rs).take k).map kT)) es c)∧((((ms++rs).take k).map kT).Nodup)∧(k≤n5+nr)∧(n=n5+nr-k)) ?_ ?_
 ·
  exact⟨_,0,_,_,O,m,hD8,ku,bw _,O⟩
 · intro n vs wr hI u K1 hK1
   obtain⟨k,es8,c8,rfl,m,hD8,hu,hk,hn⟩:=hI;simp only[zu,zF,zG];apply aL 5 [0,0] m;simp only[↓aD];refine bK O ?_ ?_<;>intro hc1
   ·
    obtain⟨t,ht,hti,a,hA5,hr5⟩:=((m.o 0 rfl).tris hit).get (i:=k) (by omega);subst hA5;apply aL 5 [0] m;simp only[↓aD];refine aB (aG bZ aR O O (by omega) (by omega) (bX (ai _))) ?_;simp only[zz];refine aQ O (hr5.lies dK aR) ?_;simp only[zz];apply iH 5 [0,0] m;simp only[↓aD,nB,iG,aa];intro g2 u m;refine aB (alG dA aA O) ?_;apply aM 5 [0] m;simp only[↓aD,reduceIte,Nat.reduceEqDiff,ah,aa];refine bB O O (alO (ps:=[t.a,t.b,t.c]) _ (aue (m.b 0 O)) (by decide)) ?_;rintro v u e_ ⟨A6,cap6,n6,hn6,rfl,h_⟩;replace m:=m.newO e_ h_;obtain rfl:n6=3:=hn6;apply aM 5 [0] m;simp only[↓aD];refine nI m 0 adP O O (fun m=>agq m 0 O (by decide)) ?_;rintro v i u m ⟨rfl,ys,rfl,hys,hso⟩;simp only[zF,zG] at m;simp only[zz];obtain rfl:ys=[(kT t).a,(kT t).b,(kT t).c]:=by rw[←abb];exact Uw (Ux (hnd t (bn ht))) hys hso
    obtain⟨g6,rfl⟩:=(m.o 0 rfl).some (by decide);apply aM 4 [0] m;simp only[↓aD];refine aB (ah2 underlying38 O (by decide)) ?_;simp only[zz];refine aQ O (show nO _ _ _ _ (tr (kT t)) from (m.o 0 O).rows.lies aqc ajH) ?_;simp only[zz];apply iH 8 [0,0,0] m;simp only[↓aD,as2,apn,aa];intro g3 u m;refine eD (cR (ek:=tr) (en:=ba) (k:=kT t) (v0:=false) underlying219 jE apA O O (m.p 4 O) hD8) ?_;simp only[zz];apply aM 1 [0] m;simp only[↓aD];refine dC O ?_ ?_<;>intro hc2
    ·
     rw[lZ,decide_eq_true_eq] at hc2;apply aL 5 [] m;simp only[↓aD];refine aY O O ?_;try simp only[zD,zE]
     exact⟨_,O,m.ext,by rw[arE ht hc2]⟩
    ·
     rw[lZ,decide_eq_false_iff_not] at hc2;apply aL 4 [0,0] m;simp only[↓aD,apn];refine eR (ek:=tr) (en:=ba) (a:=kT t) (v:=true) m 4 O underlying219 apA O O O hD8 ?_;intro es8 c8 u m hD8;simp only[zF,zG] at m;rw[←jV] at hD8;apply aM 6 [0] m;simp only[↓aD];refine⟨by omega,?_⟩;exact hK1 (n5+nr-(k+1)) _ _ (by omega) (by kernel_rfl) ⟨k+1,_,_,O,(m.sel [false,false,false,true,true]),by rw[cC ht,cz];exact hD8,aoA ht hu hc2,by omega,O⟩
   ·
    obtain rfl:k=n5+nr:=by omega
    rw[show (ms++rs).take (n5+nr)=(ms++rs) from bf (by rw[a_];omega)] at hu;apply aL 6 [] m;simp only[↓aD];refine aY O O ?_;try simp only[zD,zE]
    exact⟨_,O,m.ext,by rw[decide_eq_true (acR.1 hu)]⟩
end Go.Proofs.YtfekpcimgncioaaGreatDoor
namespace Go.Lith
open Go.RowKit
variable{β:Type}
def Oq(o:Oper):Bool:=match o.op with | .defer _=>false | _=>true
theorem alP{o:Oper}(h:Oq o=true):∀c,o.op≠.defer c:=fun c e=>by unfold Oq at h;rw[e] at h;cases h
section
variable {P:bz} {Q:Exit→Act→am→Prop} {r n:Nat}
theorem abc{row:String}{args:Array ak}{w:am}{R:ak→am→Prop}(h:Rows P row args w R):RowsIn (Fence.wide.inRound r) n P row args w R :=
 fun c cs _=>let ⟨v,w',q,s⟩:=h c cs;⟨v,w',q,stepsIn_wide.2 s⟩
theorem Wo{f:FuncId}{args:Array ak}{w:am}{R:Ending→am→Prop}(h:Calls P f args w R):CallsIn (Fence.wide.inRound r) n P f args w R :=
 (callsIn_wide (n:=n)).2 h
theorem Oper.wpIn_of{o:Oper}{a:Act}{w:am}{K:Act→am→Prop}(hd:Oq o=true)(h:o.wp P a w K Q):o.wpIn (Fence.wide.inRound r) n P a w K Q:=by
 unfold Oper.wp at h;refine⟨fun _ _=>trivial,?_⟩;rw[Oper.semAt_eq _ _ _ (alP hd)];generalize (da a.eval o).run P w=z at *
 have h0:(Fence.wide.inRound r).depth.isSome=true→1≤n:=fun h=>by cases h
 cases z with
 | ok x w'=>cases x <;> simp only[nq,pz] at h ⊢ <;> first | exact h | exact⟨h0,Wo h⟩ | exact⟨h0,abc h⟩ | exact h.elim
 | halt x w'=>cases x <;> simp only[nq,pz] at h ⊢ <;> exact h
theorem Es{ops:Array Oper}(hq:¬LetsOut Q):∀(l:List Oper) (a:Act) (w:am),l.all Oq=true→au P ops Q l a w→wpListIn (Fence.wide.inRound r) n P ops Q l a w
 | [],a,w,_,h=>h
 | o::l,a,w,hd,h=>by
  simp only[List.all_cons,bh] at hd;simp only[au] at h;simp only[wpListIn];split
  · rename_i hw
    rw[if_pos hw] at h;rcases h with h | ⟨_,h⟩
    · exact Oper.wpIn_of hd.1 (Oper.wp_mono (fun a w k=>Es hq l a w hd.2 k) h)
    · exact absurd h hq
  · rename_i hw
    rw[if_neg hw] at h;exact⟨fun _ _=>trivial,Es hq l _ w hd.2 h⟩
theorem Bq{md:Region.Mode}{ops:Array Oper}(hq:¬LetsOut Q)(hd:∀(i:Nat) (o:Oper),ops[i]? = some o→Oq o=true):∀(f:Nat) (listed:Array Bool) (a:Act) (w:am),wpAny P md ops Q f listed a w→wpAnyIn (Fence.wide.inRound r) n P md ops Q f listed a w
 | 0,listed,a,w,h=>h
 | f+1,listed,a,w,h=>by
  refine⟨h.1,fun i hi=>?_⟩;have h2:=h.2 i hi;unfold wpOp at h2;unfold wpOpIn;split
  · rename_i hn
    simp only[hn] at h2;exact Bq hq hd f _ a w h2
  · rename_i o ho
    simp only[ho] at h2;split
    · rename_i hw
      rw[if_pos hw] at h2;rcases h2 with h2 | ⟨_,h2⟩
      · exact Oper.wpIn_of (hd i o ho) (Oper.wp_mono (fun a w k=>Bq hq hd f _ a w k) h2)
      · exact absurd h2 hq
    · rename_i hw
      rw[if_neg hw] at h2;exact⟨fun _ _=>trivial,Bq hq hd f _ _ w h2⟩
class Hh(Q:Exit→Act→am→Prop):Prop where
 h:¬LetsOut Q
instance {K:Act→am→Prop}[q:Hh Q]:Hh (Exit.then K Q):=⟨fun⟨a,w,k⟩=>q.h ⟨a,w,k⟩⟩
instance {id:Nat}[q:Hh Q]:Hh (bu id Q):=⟨fun⟨a,w,k⟩=>q.h ⟨a,w,k⟩⟩
instance {α:Type}{B:Nat}{Kp:am→am→Prop}{I:List α→am→Prop}{Ix:Code→List α→am→Prop}{xs:List α}{W:am}:Hh (ownPostG B Kp I Ix xs W):=⟨fun⟨_,_,k⟩=>k⟩
instance:Hh (fun _ _ _=>False):=⟨fun⟨_,_,k⟩=>k⟩
theorem bV{id:Nat}{l:List Oper}{a:Act}{w:am}[hq:Hh Q](h:au P l.toArray Q l a w)(hd:l.all Oq=true:=by rfl):(Code.region id l.toArray false).wpIn (Fence.wide.inRound r) n P Q a w:=wpIn_region_lit (Es hq.h l a w hd h)
theorem oV{c1 c2:Code}{a:Act}{w:am}(h:∀K:Act→am→Prop,(∀a w,c2.wpIn (Fence.wide.inRound r) n P Q a w→K a w)→c1.wpIn (Fence.wide.inRound r) n P (Exit.then K Q) a w):(Code.seq c1 c2).wpIn (Fence.wide.inRound r) n P Q a w:=wpIn_seq_k h
variable {l:List ak} {ds:List dl} {w:am} {c1 c2:Code}
theorem Br{x:cd}{b:Bool}(hx:ev l x=.bool b)(ht:b=true→c1.wpIn (Fence.wide.inRound r) n P Q (Fr l ds) w)(hf:b=false→c2.wpIn (Fence.wide.inRound r) n P Q (Fr l ds) w):(Code.cond x c1 c2).wpIn (Fence.wide.inRound r) n P Q (Fr l ds) w:=by
 refine wpIn_cond (t:=b) (by rw[iZ,bW];exact hx) ?_;cases b with
 | false=>exact hf rfl
 | true=>exact ht rfl
theorem qN{id:Nat}{c:Code}{a:Act}(h:c.wpIn (Fence.wide.inRound r) n P (bu id Q) a w):(Code.block id c).wpIn (Fence.wide.inRound r) n P Q a w:=wpIn_block h
theorem alQ{a:Act}(h:Q .normal a w):Code.skip.wpIn (Fence.wide.inRound r) n P Q a w:=wpIn_skip h
theorem Ql{a:Act}(h:Q .ret a w):Code.ret.wpIn (Fence.wide.inRound r) n P Q a w:=wpIn_ret h
theorem Cl{C:am→Prop}{id:Nat}{a:Act}{l:List Oper}(k:Nat)(hq:¬LetsOut Q)(hd:l.all Oq=true)(hm:P.follows .mixedOrders=true)(hB:Region.lexTailB .any l.toArray k=true)
 (hC:C { w with drawn:=w.drawn+1 })
 (h:cq P l.toArray C (fun a'=>∀w',C w'→au P l.toArray Q (l.drop k) a' w') (l.take k) a):(Code.region id l.toArray true).wpIn (Fence.wide.inRound r) n P Q a w:=by
 simp only[Region.lexTailB,bh,decide_eq_true_eq] at hB;obtain⟨⟨⟨⟨hsel,hn⟩,hs⟩,hc⟩,hlex⟩:=hB;have hn':k<l.length:=by simpa using hn
 have htl:(l.take k).length=k:=by simp;omega
 have hdl:(l.drop k).length=l.toArray.size-k:=by simp
 have inv0:HeadInv .any l.toArray k (fy l.toArray.size false) :=
  ⟨by simp,fun j oj _ hl=>(by rw[getD_replicate_false] at hl;cases hl),fun t _ ht=>getD_in (by simpa using ht) (getD_replicate_false _ _)⟩
 have H:=zY (md:=.any) (g:=l.toArray.size-k) hsel hs hc hn (l.take k) 0 _ a (fun j hj=>by
  have hj':j<k:=by rw[htl] at hj;exact hj
  simp[hj']) (by simpa using htl) inv0 (by rw[htl];exact hlex) h
 refine wpIn_region_any hm ?_;have:=vR (Q':=Q) (g:=l.toArray.size-k) (fun listed a' hL w' hw'=>by
  have:=wpAny_of_seq (md:=.any) (Q':=Q) (l.drop k) k listed a' w' (fun j=>by simp[eb]) (by rw[hdl];exact hL.1) (hL.2 w' hw');rwa [hdl] at this) _ _ _ _ hC H
 rw[htl,show k+(l.toArray.size-k)=l.toArray.size by omega] at this;refine Bq hq (fun i o ho=>?_) _ _ _ _ this;have hi:o∈l:=by rw[List.getElem?_toArray] at ho;exact bn ho
 exact dt.1 hd o hi
structure RX(w w':am):Prop where
 os:w'.os=w.os
 tape:w'.tape=w.tape
 output:w'.output=w.output
 ko:KeepsOthers w w'
theorem RX.refl(w:am):RX w w:=⟨rfl,rfl,rfl,KeepsOthers.refl w⟩
theorem RX.ext{W u u':am}(h:RX W u)(e:dY u u'):RX W u':=⟨e.os.trans h.os,e.tape.trans h.tape,e.output.trans h.output,h.ko.trans ⟨e.size,fun k o hk _=>e.block hk⟩⟩
theorem RX.chg{W u u':am}{g:Nat}{cs:List ak}{t:ay}(h:RX W u)(hB:fE u g cs t)(e:Chg u u' g):RX W u' :=
 ⟨e.os.trans h.os,e.tape.trans h.tape,e.output.trans h.output,h.ko.trans ⟨Nat.le_of_eq e.size.symm,fun k o hk ho=>(e.block k fun hkg=>by
  subst hkg;rw[show u.heap[k]? = _ from hB] at hk;cases hk;cases ho).trans hk⟩⟩
structure mF(W w0 w:am)(is:List It):Prop extends Mem w0 w is where
 rx:RX W w
theorem mF.start{w0 w:am}{is:List It}(m:Mem w0 w is):mF w w0 w is:=⟨m,RX.refl w⟩
theorem mF.e{W w0 w w':am}{is:List It}(m:mF W w0 w is)(e:dY w w'):mF W w0 w' is:=⟨m.ext' e,m.rx.ext e⟩
section
variable {W w0:am} {is:List It} {ops:Array Oper} {rest:List Oper} {d:Nat} {ty T:ay} {pos:String} {after:Array Edge} {x y:cd} {v:ak}
theorem Kr{cs:List ak}{z:ak}(m:mF W w0 w is)(hZ:pU P T z)(hv:z.cells=cs.toArray)(h:∀g u,mF W w0 u (bI g cs T::is)→au P ops Q rest (Fr (l.set d (.pointer (some ⟨g,0,none⟩))) ds) u) :
 au P ops Q (bp (some d) (.alloc T) ty pos after none::rest) (Fr l ds) w:=Ab hZ hv fun u g e hg hB=>h g u ⟨m.toMem.newB e hg hB,m.rx.ext e⟩
theorem agr{g off:Nat}{cs us:List ak}{t:ay}(m:mF W w0 w is)(k:Nat)(hk:is[k]? = some (bI g cs t))(hx:ev l x=.pointer (some ⟨g,off,none⟩))(hv:(ev l y).cells=us.toArray)(hc:dQ P T us.length)(hfit:off+us.length≤cs.length)(h1:(us.all (·.oneCell'))=true)
 (h:∀u,mF W w0 u (is.set k (bI g (bQ cs off us) t))→au P ops Q rest (Fr l ds) u):au P ops Q (bp none (.store T x y) ty pos after none::rest) (Fr l ds) w :=
 kY hx hv hc (m.b k hk) hfit (nQ h1) fun u hC hB=>h u ⟨m.put k hk hC.os hC.tape hC.output (by rw[hC.size];exact av _) (fun b _ hne=>hC.block b fun e=>hne (by rw[e];rfl)) hB (.inl fun _ h=>h),m.rx.chg (m.b k hk) hC⟩
theorem Et{g off:Nat}{cs us:List ak}{t:ay}(m:mF W w0 w is)(k:Nat)(hk:is[k]? = some (bI g cs t))(hx:ev l x=.pointer (some ⟨g,off,none⟩))(hv:ev l y=.agg us.toArray)(hc:dQ P T us.length)(hfit:off+us.length≤cs.length)(h1:(us.all (·.oneCell'))=true)
 (h:∀u,mF W w0 u (is.set k (bI g (bQ cs off us) t))→au P ops Q rest (Fr l ds) u):au P ops Q (bp none (.store T x y) ty pos after none::rest) (Fr l ds) w:=agr m k hk hx (by rw[hv];rfl) hc hfit h1 h
theorem jN{g off:Nat}{cs:List ak}{v:ak}{t:ay}(m:mF W w0 w is)(k:Nat)(hk:is[k]? = some (bI g cs t))(hx:ev l x=.pointer (some ⟨g,off,none⟩))(hv:ev l y=v)(hc:dQ P T 1)(hfit:off+1≤cs.length)(h1:v.oneCell'=true∧v.cells = #[v])
 (h:∀u,mF W w0 u (is.set k (bI g (bQ cs off [v]) t))→au P ops Q rest (Fr l ds) u):au P ops Q (bp none (.store T x y) ty pos after none::rest) (Fr l ds) w:=agr (us:=[v]) m k hk hx (by rw[hv];exact h1.2) hc hfit (by simp[h1.1]) h
theorem Qm{f:FuncId}{fo:cd}{xs:Array cd}{args:List ak}{first cap:Array ak}{a0:Array ay}(m:mF W w0 w is)(hf:ev l fo=.func (.func f) first cap)(hxs:first.toList++xs.toList.map (ev l)++cap.toList=args)(hc:gS P f args v)
 (h:∀u,mF W w0 u is→au P ops Q rest (Fr (l.set d v) ds) u):au P ops Q (bp (some d) (.call { callee:=.value fo,args:=xs,argTypes:=a0 }) ty pos after none::rest) (Fr l ds) w :=
 Zj hf hxs hc fun u e=>h u (m.e e)
theorem yX{id:Nat}{a:Act}{l:List Oper}[hq:Hh Q](m:mF W w0 w is)(k:Nat)(hm:P.follows .mixedOrders=true)(hB:Region.lexTailB .any l.toArray k=true)
 (h:cq P l.toArray (fun u=>mF W w0 u is) (fun a'=>∀u,mF W w0 u is→au P l.toArray Q (l.drop k) a' u) (l.take k) a) (hd:l.all Oq=true:=by rfl):(Code.region id l.toArray true).wpIn (Fence.wide.inRound r) n P Q a w :=
 Cl (C:=fun u=>mF W w0 u is) k hq.h hd hm hB (m.e (dY.refl w).drawn) h
variable {Qq:Act→Prop}
theorem Gl{a:Addr}(hx:ev l x=.pointer (some a))(hv:∀u,mF W w0 u is→nO P u T a v)(h:cq P ops (fun u=>mF W w0 u is) Qq rest (Fr (l.set d v) ds)):cq P ops (fun u=>mF W w0 u is) Qq (bp (some d) (.load T x) ty pos after none::rest) (Fr l ds) :=
 jZ (fun u m=>aZ hx (hv u m)) h
theorem aig{f:FuncId}{fo:cd}{xs:Array cd}{args:List ak}{first cap:Array ak}{a0:Array ay}(hf:ev l fo=.func (.func f) first cap)(hxs:first.toList++xs.toList.map (ev l)++cap.toList=args)(hc:gS P f args v)
 (h:cq P ops (fun u=>mF W w0 u is) Qq rest (Fr (l.set d v) ds)):cq P ops (fun u=>mF W w0 u is) Qq (bp (some d) (.call { callee:=.value fo,args:=xs,argTypes:=a0 }) ty pos after none::rest) (Fr l ds):=by
 refine wpQuiet_step fun K hK=>?_;rw[if_pos (by simp[Region.wanted])];refine⟨v,fun w' hw=>?_,?_⟩
 · unfold Oper.quietAt
   rw[iZ,oX (hc w').1 hf hxs _ rfl];refine⟨O,(hc w').2.mono ?_⟩;rintro e w'' ⟨u,rfl,hE,rfl⟩;exact⟨O,hw.e hE⟩
 · show K ((Fr l ds).put (some d) v)
   rw[gY];exact hK _ h
end
end
/-! ### Within the fence that bars nothing: a head of quiet operations,then a tail that may yield -/
section
variable {P:bz} {Q:Exit→Act→am→Prop} {n:Nat} {C:am→Prop} {ops:Array Oper} {md:Region.Mode}
theorem acS{row:String}{args:Array ak}{w:am}{R:ak→am→Prop}(h:Rows P row args w R):RowsIn Fence.wide n P row args w R :=
 fun c cs _=>let ⟨v,w',q,s⟩:=h c cs;⟨v,w',q,stepsIn_wide.2 s⟩
theorem Oper.wpIn_q{o:Oper}{a:Act}{w:am}{K:Act→am→Prop}(h:o.wp P a w K (fun _ _ _=>False)):o.wpIn Fence.wide n P a w K Q:=by
 unfold Oper.wp at h;refine⟨fun _ _=>trivial,?_⟩;show pz _ _ _ _ _ _ _ ((da a.eval o).run P w)
 generalize (da a.eval o).run P w=z at *
 have h0:Fence.wide.depth.isSome=true→1≤n:=fun h=>by cases h
 cases z with
 | ok x w' =>
  cases x <;> simp only[nq,pz] at h ⊢ <;> first
   | exact h
   | exact⟨h0,(callsIn_wide.2 h).mono fun e w'' k=>by cases e with | returned v=>exact k | panicked c=>exact k.elim | outgrown=>exact (k.elim fun _ k=>k.elim fun _ k=>k.elim)⟩
   | exact⟨h0,acS h⟩
   | exact h.elim
 | halt x w'=>cases x <;> simp only[nq,pz] at h ⊢ <;> first | exact h | exact h.elim
theorem alR{i:Nat}{K:Act→am→Prop}{a:Act}{w:am}(h:wpOp P ops (fun _ _ _=>False) i K a w):wpOpIn Fence.wide n P ops Q i K a w:=by
 unfold wpOp at h;unfold wpOpIn;split
 · rename_i hn
   simp only[hn] at h;exact h
 · rename_i o ho
   simp only[ho] at h;split
   · rename_i hw
     rw[if_pos hw] at h;rcases h with h | ⟨_,_,_,h⟩
     · exact Oper.wpIn_q h
     · exact h.elim
   · rename_i hw
     rw[if_neg hw] at h;exact⟨fun _ _=>trivial,h⟩
theorem yY{k g:Nat}{L:Array Bool→Act→Prop}(hL:∀listed a,L listed a→∀w,C w→wpAnyIn Fence.wide n P md ops Q g listed a w) :
 ∀(f:Nat) (listed:Array Bool) (a:Act) (w:am),C w→Li P md ops C k L f listed a→wpAnyIn Fence.wide n P md ops Q (f+g) listed a w
 | 0,listed,a,w,hw,h=>by rw[ap];exact hL _ _ h w hw
 | f+1,listed,a,w,hw,h=>by
  rw[show f+1+g=(f+g)+1 by omega];exact⟨fun h0=>absurd h0 h.1,fun i hi=>alR (wpOp_of_qOp hw (fun a' w' hw' h'=>yY hL f _ a' w' hw' h') (h.2 i hi).2)⟩
theorem Eu:∀(l:List Oper) (k:Nat) (listed:Array Bool) (a:Act) (w:am),(∀j,l[j]? = ops[k+j]?) →
 Region.seqB md ops l.length k listed=true→wpListIn Fence.wide n P ops Q l a w→wpAnyIn Fence.wide n P md ops Q l.length listed a w
 | [],_,_,_,_,_,hB,h=>⟨by simpa[Region.seqB] using hB,h⟩
 | o::l,k,listed,a,w,hl,hB,h=>by
  have h0:ops[k]? = some o:=by simpa using (hl 0).symm
  simp only[az,Region.seqB,bh,decide_eq_true_eq] at hB;refine⟨fun h1=>(by rw[hB.1] at h1;cases h1),fun i hi=>?_⟩;rw[hB.1] at hi;have hik:i=k:=by simpa using hi
  subst hik;have hw:wpOpIn Fence.wide n P ops Q i (wpListIn Fence.wide n P ops Q l) a w:=by unfold wpOpIn;simp only[h0];exact h
  exact wpOpIn_mono (fun a' w' h'=>Eu l (i+1) _ a' w' (fun j=>by have:=hl (j+1);simpa[Nat.add_assoc,Nat.add_comm 1 j] using this) hB.2 h') hw
theorem Bt{w:am}{id:Nat}{a:Act}{l:List Oper}(k:Nat)(hm:P.follows .mixedOrders=true)(hB:Region.lexTailB .any l.toArray k=true)
 (hC:C { w with drawn:=w.drawn+1 })
 (h:cq P l.toArray C (fun a'=>∀w',C w'→wpListIn Fence.wide n P l.toArray Q (l.drop k) a' w') (l.take k) a):(Code.region id l.toArray true).wpIn Fence.wide n P Q a w:=by
 simp only[Region.lexTailB,bh,decide_eq_true_eq] at hB;obtain⟨⟨⟨⟨hsel,hn⟩,hs⟩,hc⟩,hlex⟩:=hB;have hn':k<l.length:=by simpa using hn
 have htl:(l.take k).length=k:=by simp;omega
 have hdl:(l.drop k).length=l.toArray.size-k:=by simp
 have inv0:HeadInv .any l.toArray k (fy l.toArray.size false) :=
  ⟨by simp,fun j oj _ hl=>(by rw[getD_replicate_false] at hl;cases hl),fun t _ ht=>getD_in (by simpa using ht) (getD_replicate_false _ _)⟩
 have H:=zY (md:=.any) (g:=l.toArray.size-k) hsel hs hc hn (l.take k) 0 _ a (fun j hj=>by
  have hj':j<k:=by rw[htl] at hj;exact hj
  simp[hj']) (by simpa using htl) inv0 (by rw[htl];exact hlex) h
 refine wpIn_region_any hm ?_;have:=yY (Q:=Q) (n:=n) (g:=l.toArray.size-k) (fun listed a' hL w' hw'=>by
  have:=Eu (md:=.any) (Q:=Q) (n:=n) (l.drop k) k listed a' w' (fun j=>by simp[eb]) (by rw[hdl];exact hL.1) (hL.2 w' hw');rwa [hdl] at this) _ _ _ _ hC H
 rw[htl,show k+(l.toArray.size-k)=l.toArray.size by omega] at this;exact this
theorem Qn{l:List ak}{ds:List dl}{w:am}{y d:Nat}{f:FuncId}{fo:cd}{xs:Array cd}{args:List ak}{a0:Array ay}{ty:ay}{pos:String}{after:Array Edge}{rest:List Oper}{tmps:Array ak}{assign body:Code}{R:Ending→am→Prop}
 (hf:ev l fo=.func (.yield y) #[] #[]) (hxs:xs.toList.map (ev l)=args) (hy:(Instr.yield y args.toArray).run P w=.ok (.round y f tmps assign body) w) (hR:RoundIn Fence.wide (n-1) P y f tmps assign body w R)
 (h:∀e w',R e w'→∃v,e=.returned v∧wpListIn Fence.wide n P ops Q rest (Fr (l.set d v) ds) w') :
 wpListIn Fence.wide n P ops Q (bp (some d) (.call { callee:=.value fo,args:=xs,argTypes:=a0 }) ty pos after none::rest) (Fr l ds) w:=by
 refine wpListIn_plain O fun K hK=>?_;refine⟨fun _ _=>trivial,?_⟩;have e:(Fr l ds).eval=ev l:=funext bW;have ea:args.toArray = #[]++xs.map (ev l) ++ #[]:=by
  rw[←hxs];apply Array.ext';simp
 have er:(da (Fr l ds).eval (bp (some d) (.call { callee:=.value fo,args:=xs,argTypes:=a0 }) ty pos after none)).run P w=.ok (.round y f tmps assign body) w:=by
  rw[ea] at hy;simp[da,resolve,e,hf,Deferred.ofValue,invoke] at hy ⊢;exact hy
 rw[show rb Fence.wide.round=rb none from rfl,Oper.semAt_none,er];refine⟨fun (h:Fence.wide.depth.isSome=true)=>(by cases h),hR.mono fun e w' hr=>?_⟩;obtain⟨v,rfl,hk⟩:=h e w' hr;exact hK _ _ (by rw[gY];exact hk)
theorem yA{l:List ak}{ds:List dl}{w:am}{d:Nat}{op:Op}{ty:ay}{pos:String}{after:Array Edge}{rest:List Oper}{v:ak}(hr:Aa P l op ty v w)(h:wpListIn Fence.wide n P ops Q rest (Fr (l.set d v) ds) w):wpListIn Fence.wide n P ops Q (bp (some d) op ty pos after none::rest) (Fr l ds) w:=by
 refine wpListIn_plain O fun K hK=>?_;refine⟨fun _ _=>trivial,?_⟩;rw[show rb Fence.wide.round=rb none from rfl,Oper.semAt_none,iZ,hr _ rfl rfl];show K ((Fr l ds).put (some d) v) w
 rw[gY];exact hK _ _ h
end
theorem Qo(B:Nat)(g:β→Nat)(cs:β→List ak)(t:ay):OwnFrom B fun s W=>fE W (g s) (cs s) t:=fun s X Y row hs hg hr=>by
 have hs':X.heap[g s]? = some (.cells (cs s).toArray t (0,0)):=hs;show Y.heap[g s]? = _
 rw[grownBy_keeps_cells hg (fun r e=>(hr r e).2) hs' rfl];exact hs'
theorem ags{B:Nat}{w:am}(h:w.heap.size≤B):OwnFrom B fun (_:β) W=>dY w W:=ownFrom_below (av _) h
def aoB(is:List It):Prop:=∀i∈is,∃g cs t,i=bI g cs t
theorem agt{B:Nat}{w:am}(F:β→List It)(hF:∀s,aoB (F s))(h:w.heap.size≤B):OwnFrom B fun s W=>Mem w W (F s):=fun s W W' row hs hg hr=>by
 refine⟨ags (β:=Unit) h () W W' row hs.ext hg hr,fun i hi=>?_,hs.ge,hs.nd⟩;obtain⟨g,cs,t,rfl⟩:=hF s i hi;exact Qo (β:=Unit) B (fun _=>g) (fun _=>cs) t () W W' row (hs.all _ hi) hg hr
end Go.Lith
namespace Go.Proofs.YtfekpcimgncioaaGreatDoor
open Go.Proofs.Tryz
open Go.RowKit Go.Lith
attribute [local go_sem] Oper.semAt_some
def apB(t:T3)(k:Nat):Array ak:=#[pt (t.cor k),pt (t.cor ((k+1)%3))]
set_option maxRecDepth 100000 in
theorem aih(n:Nat)(hn:1≤n)(l Bs n₀:Nat)(t:T3)(J Jx:List Nat→am→Prop)
 (hJd:∀s W,J s W→J s W.drew) (hY:∀pre x W,J pre W→pre.length<3→YieldAt Fence.wide (n-1) prog l (apB t x) W fun e W' =>
  (e=.returned (.bool true)∧J (pre++[x]) W'∧oB n₀ Bs W W')∨(e=.returned (.bool false)∧Jx (pre++[x]) W'))
 (W:am) (hBs:fE W Bs (aP t) 39) (h0:J [] W) :
 CallsIn Fence.wide n prog 337 #[.func (.yield l) #[] #[],.pointer (some ⟨Bs,0,none⟩)] W fun e W'=>(∃v,e=.returned v) ∧
  ((∃ys:List Nat,ys=[0,1,2]∧J ys W')∨(∃pre,(∀k∈pre,k<3)∧Jx pre W')):=by
 refine callsIn_of_wp func337 O trivial ?_ O;simp only[ntmps337,gz,az,b_,aa,lo,iv,iw,jk,jb,bv,cn]
 gi_wp2
 gi_loopw [4] (fun i wr=>∃(k:Nat),k≤3∧i=.int .i64 (k:Int)∧J (gm k) wr∧oB n₀ Bs W wr)
  (fun i _=>(3-intOf i).toNat)
 case atStart=>exact⟨0,by omega,rfl,h0,oB.refl _ _ _⟩
 case round =>
  obtain⟨k,hk,rfl,hJs,hnx⟩:=hrel;have hB:fE wr Bs (aP t) 39:=hnx.2.trans hBs;have hD:fE wr.drew Bs (aP t) 39:=hB;have hk4:k=0∨k=1∨k=2∨k=3:=by omega
  rcases hk4 with rfl | rfl | rfl | rfl
  · obtain⟨fn,tmps,assign,body,hy,hR⟩:=hY (gm 0) 0 wr.drew (hJd _ _ hJs) (by decide)
    gi_wp2
    rename_i K1 hK1 K2 hK2;refine Bt (C:=fun u=>u=wr.drew) 9 aF (by kernel_rfl) O ?_;simp only[zy];refine aK aC (aK aC (aK (aN dA aA O O (by decide) (by decide) O) ?_));simp only[zz,zy,ap,aa,ah,ag];refine jZ (fun u hu=>aZ O (hu▸(mE.cor (c:=0) (hD.row 0) (by decide)).lies aH aA)) ?_;simp only[zz];refine aK aC (aK (fH (m:=0) (n:=1) (r:=1) O O (by decide)) (aK (dL (m:=1) (n:=3) (r:=1) O O (by decide) (by decide)) ?_));simp only[zz];refine aK (aN dA aA O O (by decide) (by decide) O) ?_;simp only[zz,zy,ap,aa,ah,ag];refine jZ (fun u hu=>aZ O (hu▸(mE.cor (c:=1) (hD.row 0) (by decide)).lies aH aA)) ?_;simp only[zz];refine bN ?_;rintro u rfl;try simp only[zy]
    refine Qn O O hy hR ?_;rintro e W3 (⟨rfl,hJ3,hk3⟩ | ⟨rfl,hJx3⟩)
    · refine⟨_,O,?_⟩
      simp only[zz];refine yA (mH O _) (wpListIn_nil (hK2 _ _ ?_));simp only[zz,jg]
      gi_wp2
      go_roundw
      case rel=>exact⟨0+1,by decide,rfl,hJ3,hnx.trans ((show oB n₀ Bs wr wr.drew from⟨(Below.refl _ _).drew,rfl⟩).trans hk3)⟩
      case measure=>simp[intOf]
    · refine⟨_,O,?_⟩
      simp only[zz];refine yA (mH O _) (wpListIn_nil (hK2 _ _ ?_));simp only[zz,jv]
      gi_wp2
      refine bodyPost_ret (results_none O _ _ _) O ?_;exact⟨⟨_,O⟩,.inr ⟨_,by decide,hJx3⟩⟩
  · obtain⟨fn,tmps,assign,body,hy,hR⟩:=hY (gm 1) 1 wr.drew (hJd _ _ hJs) (by decide)
    gi_wp2
    rename_i K1 hK1 K2 hK2;refine Bt (C:=fun u=>u=wr.drew) 9 aF (by kernel_rfl) O ?_;simp only[zy];refine aK aC (aK aC (aK (aN dA aA O O (by decide) (by decide) O) ?_));simp only[zz,zy,ap,aa,ah,ag];refine jZ (fun u hu=>aZ O (hu▸(mE.cor (c:=1) (hD.row 0) (by decide)).lies aH aA)) ?_;simp only[zz];refine aK aC (aK (fH (m:=1) (n:=1) (r:=2) O O (by decide)) (aK (dL (m:=2) (n:=3) (r:=2) O O (by decide) (by decide)) ?_));simp only[zz];refine aK (aN dA aA O O (by decide) (by decide) O) ?_;simp only[zz,zy,ap,aa,ah,ag];refine jZ (fun u hu=>aZ O (hu▸(mE.cor (c:=2) (hD.row 0) (by decide)).lies aH aA)) ?_;simp only[zz];refine bN ?_;rintro u rfl;try simp only[zy]
    refine Qn O O hy hR ?_;rintro e W3 (⟨rfl,hJ3,hk3⟩ | ⟨rfl,hJx3⟩)
    · refine⟨_,O,?_⟩
      simp only[zz];refine yA (mH O _) (wpListIn_nil (hK2 _ _ ?_));simp only[zz,jg]
      gi_wp2
      go_roundw
      case rel=>exact⟨1+1,by decide,rfl,hJ3,hnx.trans ((show oB n₀ Bs wr wr.drew from⟨(Below.refl _ _).drew,rfl⟩).trans hk3)⟩
      case measure=>simp[intOf]
    · refine⟨_,O,?_⟩
      simp only[zz];refine yA (mH O _) (wpListIn_nil (hK2 _ _ ?_));simp only[zz,jv]
      gi_wp2
      refine bodyPost_ret (results_none O _ _ _) O ?_;exact⟨⟨_,O⟩,.inr ⟨_,by decide,hJx3⟩⟩
  · obtain⟨fn,tmps,assign,body,hy,hR⟩:=hY (gm 2) 2 wr.drew (hJd _ _ hJs) (by decide)
    gi_wp2
    rename_i K1 hK1 K2 hK2;refine Bt (C:=fun u=>u=wr.drew) 9 aF (by kernel_rfl) O ?_;simp only[zy];refine aK aC (aK aC (aK (aN dA aA O O (by decide) (by decide) O) ?_));simp only[zz,zy,ap,aa,ah,ag];refine jZ (fun u hu=>aZ O (hu▸(mE.cor (c:=2) (hD.row 0) (by decide)).lies aH aA)) ?_;simp only[zz];refine aK aC (aK (fH (m:=2) (n:=1) (r:=3) O O (by decide)) (aK (dL (m:=3) (n:=3) (r:=0) O O (by decide) (by decide)) ?_));simp only[zz];refine aK (aN dA aA O O (by decide) (by decide) O) ?_;simp only[zz,zy,ap,aa,ah,ag];refine jZ (fun u hu=>aZ O (hu▸(mE.cor (c:=0) (hD.row 0) (by decide)).lies aH aA)) ?_;simp only[zz];refine bN ?_;rintro u rfl;try simp only[zy]
    refine Qn O O hy hR ?_;rintro e W3 (⟨rfl,hJ3,hk3⟩ | ⟨rfl,hJx3⟩)
    · refine⟨_,O,?_⟩
      simp only[zz];refine yA (mH O _) (wpListIn_nil (hK2 _ _ ?_));simp only[zz,jg]
      gi_wp2
      go_roundw
      case rel=>exact⟨2+1,by decide,rfl,hJ3,hnx.trans ((show oB n₀ Bs wr wr.drew from⟨(Below.refl _ _).drew,rfl⟩).trans hk3)⟩
      case measure=>simp[intOf]
    · refine⟨_,O,?_⟩
      simp only[zz];refine yA (mH O _) (wpListIn_nil (hK2 _ _ ?_));simp only[zz,jv]
      gi_wp2
      refine bodyPost_ret (results_none O _ _ _) O ?_;exact⟨⟨_,O⟩,.inr ⟨_,by decide,hJx3⟩⟩
  · gi_wp2
    go_end0
    exact⟨⟨_,O⟩,.inl ⟨_,O,hJs⟩⟩
end Go.Proofs.YtfekpcimgncioaaGreatDoor
namespace Go.Proofs.YtfekpcimgncioaaGreatDoor
open Go.Proofs.Tryz
open Go.RowKit Go.Lith
section
variable {w0 w:am} {is:List It}
def dI(D:Nat)(o:Obj):It where
 own b:=some D=some b
 P w:=w.heap[D]? = some o
 lt w b h e:=by cases e;exact (dj.1 h).1
 st w w' h _ k:=(k D rfl).trans h
theorem _root_.Go.Lith.Mem.putD{D:Nat}{o o':Obj}(m:Mem w0 w is)(k:Nat)(hk:is[k]? = some (dI D o)):Mem w0 (w.putObj D o') (is.set k (dI D o')):=by
 have hl:D<w.heap.size:=(dI D o).lt w D (m.get k hk) rfl;refine m.put k hk O O O (by show _≤(w.heap.setIfInBounds D o').size;simp) (fun b _ hne=>World.putObj_heap_other (fun e=>hne (by rw[e];rfl))) ?_ (.inl fun _ h=>h);show (w.heap.setIfInBounds D o')[D]? = some o'
 simp[hl]
theorem _root_.Go.Lith.Mem.addD{D:Nat}{x:Option (List dl)}(m:Mem w0 w is)(hA:aoB is)(h:w.heap[D]? = some (.deferred x))(hge:w0.heap.size≤D):Mem w0 w (dI D (.deferred x)::is):=by
 refine⟨m.ext,fun i hi=>?_,fun i hi b hb=>?_,bq.2 ⟨fun j hj b h1 h2=>?_,m.nd⟩⟩
 · rcases ao.1 hi with rfl | hi
   · exact h
   · exact m.all i hi
 · rcases ao.1 hi with rfl | hi
   · cases hb;exact hge
   · exact m.ge i hi b hb
 · obtain⟨g,cs,t,rfl⟩:=hA j hj
   cases h1;cases h2;have hB:w.heap[D]? = some (.cells cs.toArray t (0,0)):=m.all _ hj;rw[h] at hB;cases hB
theorem apC{P:bz}{l:List ak}{n:Nat}{fn:Func}{R:Ending→am→Prop}{w:am}(h:bodyPost P fn R .ret (Fr l) w):bodyPostM Fence.wide n P fn R .ret (Fr l) w:=by
 obtain⟨_,v,hv,hR⟩:=h;exact⟨v,hv,hR⟩
theorem acT{W u:am}{Bs:Nat}{cs:List ak}{t:ay}(rx:RX W u)(h1:fE W Bs cs t)(h2:fE u Bs cs t):oB 0 Bs W u :=
 ⟨⟨rx.os,rx.tape,rx.output,rx.ko.size,fun k hk=>absurd hk (ma _)⟩,(show u.heap[Bs]? = _ from h2).trans (show W.heap[Bs]? = _ from h1).symm⟩
theorem alS{g k:Nat}{c1 c2:List ak}{T1 T2:ay}(m:Mem w0 w is)(h1:fE w g c1 T1)(h2:fE w k c2 T2)(hgk:k≠g)(hg:∀o∈is.map (·.own),¬o g)(hk:∀o∈is.map (·.own),¬o k)(eg:w0.heap.size≤g)(ek:w0.heap.size≤k):Mem w0 w (bI k c2 T2::bI g c1 T1::is):=by
 refine⟨m.ext,fun i hi=>?_,fun i hi b hb=>?_,bq.2 ⟨fun j hj b e1 e2=>?_,bq.2 ⟨fun j hj b e1 e2=>?_,m.nd⟩⟩⟩
 · rcases ao.1 hi with rfl | hi
   · exact h2
   · rcases ao.1 hi with rfl | hi
     · exact h1
     · exact m.all i hi
 · rcases ao.1 hi with rfl | hi
   · cases hb;exact ek
   · rcases ao.1 hi with rfl | hi
     · cases hb;exact eg
     · exact m.ge i hi b hb
 · cases e1
   rcases ao.1 hj with rfl | hj
   · cases e2;exact hgk O
   · exact hk _ (ft hj) e2
 · cases e1
   exact hg _ (ft hj) e2
theorem alT{g k:Nat}{c1 c2:List ak}{T1 T2:ay}(m:Mem w0 w (bI k c2 T2::bI g c1 T1::is)):k≠g∧(∀o∈is.map (·.own),¬o g)∧(∀o∈is.map (·.own),¬o k)∧w0.heap.size≤g∧w0.heap.size≤k:=by
 obtain⟨h1,h2⟩:=bq.1 m.nd;obtain⟨h3,_⟩:=bq.1 h2;refine⟨fun e=>h1 _ bj k O (by rw[e];rfl),fun o ho h=>?_,fun o ho h=>?_,m.ge _ (bm _ bj) g rfl,m.ge _ bj k rfl⟩
 · obtain⟨i,hi,rfl⟩:=cu.1 ho
   exact h3 i hi g O h
 · obtain⟨i,hi,rfl⟩:=cu.1 ho
   exact h1 i (bm _ hi) k O h
theorem acU{α:Type}{L:List ak}{go:cd}{gf Bs N q1 q2 d1 d2:Nat}{assign body:Code}{Q:Exit→Act→am→Prop}{P:bz}{S Sp:List α→Prop}{v1 v2:α→ak}{c1 c2:α→List ak}{T1 T2 tB:ay}{csB:List ak}
 (hf:ev L go=.func (.func gf) #[] #[.pointer (some ⟨Bs,0,none⟩)]) (he:Lith.Entr P gf) (hseq:SeqStopsK Fence.wide 3 P gf #[.pointer (some ⟨Bs,0,none⟩)] (fun x=>#[v1 x,v2 x]) (oB 0 Bs) S Sp N w)
 (I Ir:List α→List It) (J Jr:List α→Prop) (hA:∀pre,aoB (I pre)) (hAr:∀pre,aoB (Ir pre)) (hid:∀pre,(I pre).map (·.own)=(I []).map (·.own)) (hBs:∀pre,bI Bs csB tB∈I pre)
 (m:Mem w0 w (I [])) (hJ:J [])
 (hassign:∀(r:Nat) (pre:List α) (x:α) (W:am) (K:Act→am→Prop),mF W w0 W (I pre)→(∀g k u,mF W w0 u (bI k (c2 x) T2::bI g (c1 x) T1::I pre)→K (Fr ((((L.set q1 (v1 x)).set q2 (v2 x)).set d1 (.pointer (some ⟨g,0,none⟩))).set d2 (.pointer (some ⟨k,0,none⟩)))) u) →
  assign.wpIn (Fence.wide.inRound r) 2 P (Exit.then K (fun _ _ _=>False)) (Fr ((L.set q1 (v1 x)).set q2 (v2 x))) W)
 (hbody:∀(r:Nat) (pre:List α) (x:α) (g k:Nat) (W:am) (Q':Exit→Act→am→Prop) [Hh Q'],J pre→pre.length<N→mF W w0 W (bI k (c2 x) T2::bI g (c1 x) T1::I pre) →
  (∀a u,mF W w0 u (I (pre++[x]))→J (pre++[x])→Q' .normal a u)→(∀a u,mF W w0 u (Ir (pre++[x]))→Jr (pre++[x])→Q' .ret a u) →
  body.wpIn (Fence.wide.inRound r) 2 P Q' (Fr ((((L.set q1 (v1 x)).set q2 (v2 x)).set d1 (.pointer (some ⟨g,0,none⟩))).set d2 (.pointer (some ⟨k,0,none⟩)))) W)
 (hdone:∀(D:Nat) (xs:List α) (u:am),S xs→J xs→Mem w0 u (dI D (.deferred (some []))::I xs)→Q .normal (Fr L [{ target:=.collected D,args:=#[] }]) u)
 (hstop:∀(D:Nat) (pre:List α) (u:am),Sp pre→Jr pre→Mem w0 u (dI D (.deferred (some []))::Ir pre)→Q .ret (Fr L [{ target:=.collected D,args:=#[] }]) u) :
 (Code.rangeFunc go #[q1,q2] assign body).wp P Q (Fr L) w:=by
 refine (wpIn_wide (n:=4)).1 ?_;have hsz:=m.ext.size;refine wpIn_rangeFunc_ownH (F:=Fence.wide) O (by omega) (gf:=gf) (lb:=#[.pointer (some ⟨Bs,0,none⟩)]) (by rw[bW];exact hf) trivial (fun args u=>vA he) hseq oB.trans
  (fun W l o o' hl ho hc _=>⟨⟨rfl,rfl,rfl,by show _≤(W.heap.setIfInBounds l o').size;simp,fun k hk=>absurd hk (ma _)⟩,World.putObj_heap_other (fun e=>by
   have hb:=(m.all _ (hBs [])).lt;omega)⟩) (Below.refl _ _) (fun _=>rfl)
  (fun pre W=>Mem w0 W (I pre)∧J pre) (fun c pre W=>Mem w0 W (Ir pre)∧(c=.ret∧Jr pre))
  (OwnFrom.and (agt I hA hsz) (ownFrom_pure _ J)) (fun c=>OwnFrom.and (agt Ir hAr hsz) (ownFrom_pure _ _)) ⟨m,hJ⟩
  (fun x a' W=>∃g k,a'=Fr ((((L.set q1 (v1 x)).set q2 (v2 x)).set d1 (.pointer (some ⟨g,0,none⟩))).set d2 (.pointer (some ⟨k,0,none⟩)))∧fE W g (c1 x) T1∧fE W k (c2 x) T2∧k≠g∧(∀o∈(I []).map (·.own),¬o g)∧(∀o∈(I []).map (·.own),¬o k)∧w0.heap.size≤g∧w0.heap.size≤k)
  (fun x a' _ X Y row hs hg hr=>by
   obtain⟨g,k,e,h1,h2,h3⟩:=hs;exact⟨g,k,e,Qo (β:=Unit) _ (fun _=>g) (fun _=>c1 x) T1 () X Y row h1 hg hr,Qo (β:=Unit) _ (fun _=>k) (fun _=>c2 x) T2 () X Y row h2 hg hr,h3⟩)
  ?_ ?_ ?_ ?_
 · intro r pre x W K hI hK
   have e:((#[q1,q2].zip #[v1 x,v2 x]).foldl (fun t (y:Tmp × ak)=>t.setIfInBounds y.1 y.2) (Fr L).tmps)=((L.set q1 (v1 x)).set q2 (v2 x)).toArray:=by simp
   have:=hassign r pre x W K (mF.start hI.1) (fun g k u hm=>?_)
   · simp only at this ⊢
     rw[e];exact this
   · have hp:=alT hm.toMem
     rw[hid pre] at hp;have hI2:Mem w0 u (I pre):=hm.toMem.tl.tl;exact hK _ _ (hm.rx.ko.from _) (acT hm.rx (hI.1.all _ (hBs pre)) (hI2.all _ (hBs pre))) ⟨hI2,hI.2⟩ ⟨g,k,O,hm.all _ (bm _ bj),hm.all _ bj,hp⟩
 · rintro r pre x a' W _ _ ⟨hI,hJp⟩ ⟨g,k,rfl,h1,h2,h3,h4,h5,h6,h7⟩ hN
   rw[←hid pre] at h4 h5;refine hbody r pre x g k W _ hJp hN (mF.start (alS hI h1 h2 h3 h4 h5 h6 h7)) (fun a u hm hj=>?_) (fun a u hm hj=>?_)
   · exact⟨hm.rx.ko.from _,acT hm.rx (hI.all _ (hBs pre)) (hm.all _ (hBs _)),hm.toMem,hj⟩
   · exact⟨hm.rx.ko.from _,hm.toMem,O,hj⟩
 · rintro D xs W hD hS ⟨hI,hj⟩ hd
   exact hdone D xs W hS hj (Lith.Mem.addD hI (hA xs) hd (aw hsz hD))
 · rintro D c pre W hD hsp ⟨hI,rfl,hj⟩ hd
   exact wpIn_ret (hstop D pre W hsp hj (Lith.Mem.addD hI (hAr pre) hd (aw hsz hD)))
end
end Go.Proofs.YtfekpcimgncioaaGreatDoor
namespace Go.Lith
open Go.RowKit Go.ChangeMaps Go.MapKept
variable{w:am}
theorem acV{u:am}(e:dY w u):w.grownBy u none:=⟨e.os,e.tape,e.output,e.size,fun k hk _=>Below.block e k hk⟩
section
variable {K V:Type} [DecidableEq K] {P:bz} {T M E ty:ay} {ek:K→ak} {en:V→ak} {w:am} {g c r:Nat} {es:Array cg} {D:List (K × V)}
variable {ds:List dl} {l:List ak} {x:cd} {ops:Array Oper} {Q:Exit→Act→am→Prop} {rest:List Oper} {d:Nat} {pos:String} {after:Array Edge}
theorem aoC{seen:Array Nat}{dn rs:List (K × V)}(hx:ev l x=.pointer (some ⟨r,0,none⟩))(hI:uA w r g c seen c)(hM:iN w g es c)(hD:bA ek en D es c)(hT:lP ek en D es seen dn rs)
 (h:∀b kv vv seen' u,w.grownBy u (some r)→iN u g es c→uA u r g c seen' c→Nxt ek en D es dn rs b kv vv seen'→au P ops Q rest (Fr (l.set d (Gz b kv vv)) ds) u) :
 au P ops Q (bp (some d) (.next x false) ty pos after none::rest) (Fr l ds) w:=by
 obtain⟨b,kv,vv,seen',w1,hw1,hr,hN⟩:=Xw (P:=P) (ty:=ty) (s:=0) hI hM hD hT;have e1:w1.heap=w.heap∧w1.os=w.os∧w1.tape=w.tape∧w1.output=w.output:=by rcases hw1 with rfl | rfl <;> exact⟨rfl,rfl,rfl,rfl⟩
 have hgr:g≠r:=fun e=>by
  subst e;have h1:w.heap[g]? = some (.map es c):=hM;rw[show w.heap[g]? = _ from hI] at h1;cases h1
 refine lU (w':=setBlock w1 r (.mapIter (some g) c seen' c)) (v:=Gz b kv vv) (fun o ho hty=>by simp[da,ho,bW,hx,hty,hr]) (h b kv vv seen' _ ⟨e1.2.1,e1.2.2.1,e1.2.2.2,by simp[setBlock,e1.1],fun k _ hk=>?_⟩ ?_ ?_ hN)
 · simp only[setBlock,e1.1]
   exact je fun e=>hk (by rw[e])
 · show (setBlock w1 r _).heap[g]? = _
   simp only[setBlock,e1.1];rw[je (Ne.symm hgr)];exact hM
 · exact jH (w:=w1) (o:=.mapIter (some g) c seen c) (by rw[e1.1];exact hI)
end
def aoD(is:List It):Prop:=∀i∈is,(∃g cs t,i=bI g cs t)∨∃E c A n cap xs,i=oI E c A n cap xs
theorem arF{β:Type}(B:Nat)(E:ay)(c:Nat)(A:Option Addr)(n cap:Nat)(xs:List ak):OwnFrom B fun (_:β) W=>(oI E c A n cap xs).P W:=fun s X Y row hs hg hr=>by
 refine⟨hs.1,?_⟩;rcases hs.2 with h | ⟨g,cap,cur,h1,h2,h3,h4⟩
 · exact .inl h
 · exact .inr ⟨g,cap,cur,h1,h2,by
    rw[grownBy_keeps_cells hg (fun r e=>(hr r e).2) h3 rfl];exact h3,h4⟩
theorem acW{β:Type}{B:Nat}(F:β→List It)(hF:∀s,aoD (F s))(h:w.heap.size≤B):OwnFrom B fun s W=>Mem w W (F s):=fun s W W' row hs hg hr=>by
 refine⟨ags (β:=Unit) h () W W' row hs.ext hg hr,fun i hi=>?_,hs.ge,hs.nd⟩;rcases hF s i hi with ⟨g,cs,t,rfl⟩ | ⟨E,c,A,n,cap,xs,rfl⟩
 · exact Qo (β:=Unit) B (fun _=>g) (fun _=>cs) t () W W' row (hs.all _ hi) hg hr
 · exact arF (β:=Unit) B E c A n cap xs () W W' row (hs.all _ hi) hg hr
theorem Mem.addC{w0:am}{is:List It}{D:Nat}{x:Option (List dl)}(m:Mem w0 w is)(hA:aoD is)(h:w.heap[D]? = some (.deferred x))(hge:w0.heap.size≤D):Mem w0 w (Go.Proofs.YtfekpcimgncioaaGreatDoor.dI D (.deferred x)::is):=by
 refine⟨m.ext,fun i hi=>?_,fun i hi b hb=>?_,bq.2 ⟨fun j hj b h1 h2=>?_,m.nd⟩⟩
 · rcases ao.1 hi with rfl | hi
   · exact h
   · exact m.all i hi
 · rcases ao.1 hi with rfl | hi
   · cases hb;exact hge
   · exact m.ge i hi b hb
 · cases h1
   rcases hA j hj with ⟨g,cs,t,rfl⟩ | ⟨E,c,A,n,cap,xs,rfl⟩
   · cases h2
     have hB:w.heap[D]? = some (.cells cs.toArray t (0,0)):=m.all _ hj;rw[h] at hB;cases hB
   · have hP:=m.all _ hj
     rcases hP.2 with ⟨e,_⟩ | ⟨g,cap',cur,e,_,hg,_⟩
     · cases e;cases h2
     · cases e
       cases h2;rw[h] at hg;cases hg
theorem RX.wr{W u u':am}{A:Option Addr}{w0:am}{S:List (Option Nat)}{E:ay}{c n cap:Nat}{xs:List ak}(h:RX W u)(hO:Ow w0 u S E c A n cap xs)(e:Wr u u' A):RX W u' :=
 ⟨e.os.trans h.os,e.tape.trans h.tape,e.output.trans h.output,h.ko.trans ⟨e.size,fun k o hk ho=>(e.block k (dj.1 hk).1 fun hkA=>by
  rcases hO.cases with ⟨rfl,_⟩ | ⟨g,cur,rfl,_,hg,_⟩
  · cases hkA
  · cases hkA
    rw[hg] at hk;cases hk;cases ho).trans hk⟩⟩
section
variable {P:bz} {Q:Exit→Act→am→Prop} {W w0 w:am} {is:List It} {ops:Array Oper} {rest:List Oper} {d:Nat} {ty T:ay} {pos:String} {after:Array Edge} {x y:cd} {l:List ak} {ds:List dl}
theorem alU{E:ay}{c n cap b nm mcap:Nat}{A B:Option Addr}{z:ak}{xs news:List ak}{a0:Array ay}(m:mF W w0 w is)(k:Nat)(hk:is[k]? = some (oI E c A n cap xs))(ha:a0 = #[T,T])(hu:P.underlying T=some (.slice E))(hi:(P.info? E).map (fun i=>(i.size,i.bytes,i.zero))=some (c,b,some z))(hz:z.cells.size=c)(hc:0<c)
 (hs:ev l x=.slice A n cap) (hx:ev l y=.slice B nm mcap) (hl:news.length=nm*c) (hrow:∀j u,news[j]? = some u→∃a,B=some a∧w.cell? (a.add j)=some u) (h1:∀u∈news,u.oneCell'=true) (h63:n+nm≤9223372036854775807) (hbytes:(n+nm)*b≤140737488355328)
 (h:∀A' cap' u,mF W w0 u (is.set k (oI E c A' (n+nm) cap' (xs++news)))→au P ops Q rest (Fr (l.set d (.slice A' (n+nm) cap')) ds) u) :
 au P ops Q (bp (some d) (.call { callee:=.builtin .append,args:=#[x,y],argTypes:=a0 }) ty pos after none::rest) (Fr l ds) w :=
 Xg ha hu hi hz hc m.ext hs (m.o k hk) hx hl hrow h1 h63 hbytes fun A' cap' u hO hW hF=>h A' cap' u ⟨m.put k hk hW.os hW.tape hW.output hW.size (fun b hb hne=>hW.block b hb hne) (by
  refine⟨hO.own.1,?_⟩;rcases hO.cases with ⟨rfl,e1,rfl,_⟩ | ⟨g,cur,rfl,_,h2,h3⟩
  · exact .inl ⟨by rw[e1],e1⟩
  · exact .inr ⟨g,cap',cur,O,bw _,h2,h3⟩) (by
  rcases hF with rfl | hF
  · exact .inl fun _ h=>h
  · exact .inr fun b hb=>by
     have e:Nu A'=some b:=hb;rw[hF] at e;cases e;exact av _),m.rx.wr (m.o k hk) hW⟩
theorem acX{W u:am}(h:RX W u):KeepsWalks W u:=⟨h.ko.size,fun k o hk ho=>h.ko.same k o hk (by cases o <;> first | rfl | cases ho)⟩
theorem alV{α σ:Type}{L:List ak}{go:cd}{gf Bs N q1 d1:Nat}{assign body:Code}{S:List α→Prop}{v1:α→ak}{c1:α→List ak}{T1:ay}
 (hf:ev L go=.func (.func gf) #[] #[.pointer (some ⟨Bs,0,none⟩)]) (he:Lith.Entr P gf) (hseq:SeqStopsK Fence.wide 3 P gf #[.pointer (some ⟨Bs,0,none⟩)] (fun x=>#[v1 x]) KeepsWalks S (fun _=>True) N w)
 (F:σ→List It) (R:List α→σ→Prop) (hF:∀s,aoD (F s)) (hdet:∀W s s' pre pre',R pre s→R pre' s'→Mem w0 W (F s)→Mem w0 W (F s')→R pre s') {s0:σ} (m:Mem w0 w (F s0)) (hR:R [] s0)
 (hassign:∀(r:Nat) (pre:List α) (x:α) (s:σ) (W:am) (K:Act→am→Prop),R pre s→mF W w0 W (F s)→(∀g u,mF W w0 u (bI g (c1 x) T1::F s)→K (Fr ((L.set q1 (v1 x)).set d1 (.pointer (some ⟨g,0,none⟩)))) u) →
  assign.wpIn (Fence.wide.inRound r) 2 P (Exit.then K (fun _ _ _=>False)) (Fr (L.set q1 (v1 x))) W)
 (hbody:∀(r:Nat) (pre:List α) (x:α) (g:Nat) (s:σ) (W:am) (Q':Exit→Act→am→Prop) [Hh Q'],pre.length<N→R pre s→mF W w0 W (bI g (c1 x) T1::F s) →
  (∀a u s',mF W w0 u (F s')→R (pre++[x]) s'→Q' .normal a u)→body.wpIn (Fence.wide.inRound r) 2 P Q' (Fr ((L.set q1 (v1 x)).set d1 (.pointer (some ⟨g,0,none⟩)))) W)
 (hdone:∀(D:Nat) (xs:List α) (s:σ) (u:am),S xs→R xs s→Mem w0 u (Go.Proofs.YtfekpcimgncioaaGreatDoor.dI D (.deferred (some []))::F s)→Q .normal (Fr L [{ target:=.collected D,args:=#[] }]) u) :
 (Code.rangeFunc go #[q1] assign body).wp P Q (Fr L) w:=by
 refine (wpIn_wide (n:=4)).1 ?_;have hsz:=m.ext.size;have own:OwnFrom w.heap.size fun (pre:List α) W=>∃s,R pre s∧Mem w0 W (F s):=fun pre X Y row ⟨s,hs,hm⟩ hg hr=>⟨s,hs,acW (β:=Unit) (fun _=>F s) (fun _=>hF s) hsz () X Y row hm hg hr⟩
 have aao:∀(g:Nat) (x:α) (s:σ),aoD (bI g (c1 x) T1::F s):=fun g x s i hi=>by
  rcases ao.1 hi with rfl | hi
  · exact .inl ⟨_,_,_,O⟩
  · exact hF s i hi
 refine wpIn_rangeFunc_ownH (F:=Fence.wide) O (by omega) (gf:=gf) (lb:=#[.pointer (some ⟨Bs,0,none⟩)]) (by rw[bW];exact hf) trivial (fun args u=>vA he) hseq KeepsWalks.trans
  (fun W l o o' _ ho _ hw=>KeepsWalks.putObj o' ho hw) (Below.refl _ _) (fun _=>rfl)
  (fun pre W=>∃s,R pre s∧Mem w0 W (F s)) (fun _ _ _=>False)
  own (fun _ _ _ _ _ h _ _=>h) ⟨s0,hR,m⟩
  (fun x a' W=>∃g s pre,a'=Fr ((L.set q1 (v1 x)).set d1 (.pointer (some ⟨g,0,none⟩)))∧R pre s∧Mem w0 W (bI g (c1 x) T1::F s))
  (fun x a' _ X Y row hs hg hr=>by
   obtain⟨g,s,pre,e,h1,h2⟩:=hs;exact⟨g,s,pre,e,h1,acW (β:=Unit) (fun _=>bI g (c1 x) T1::F s) (fun _=>aao g x s) hsz () X Y row h2 hg hr⟩)
  ?_ ?_ ?_ ?_
 · rintro r pre x W K ⟨s,hs,hm⟩ hK
   have e:((#[q1].zip #[v1 x]).foldl (fun t (y:Tmp × ak)=>t.setIfInBounds y.1 y.2) (Fr L).tmps)=(L.set q1 (v1 x)).toArray:=by simp
   have:=hassign r pre x s W K hs (mF.start hm) (fun g u hu=>hK _ _ (hu.rx.ko.from _) (acX hu.rx) ⟨s,hs,hu.toMem.tl⟩ ⟨g,s,pre,rfl,hs,hu.toMem⟩);simp only at this ⊢;rw[e];exact this
 · rintro r pre x a' W _ _ ⟨s,hs,hm⟩ ⟨g,s',pre',rfl,hs',hm'⟩ hN
   have hd:=hdet W s s' pre pre' hs hs' hm hm'.tl;refine hbody r pre x g s' W _ hN hd (mF.start hm') (fun a u s2 hu h2=>?_);exact⟨hu.rx.ko.from _,acX hu.rx,s2,h2,hu.toMem⟩
 · rintro D xs W hD hS ⟨s,hs,hm⟩ hd
   exact hdone D xs s W hS hs (Lith.Mem.addC hm (hF s) hd (aw hsz hD))
 · rintro D c pre W hD hsp h hd
   exact h.elim
end
end Go.Lith
namespace Go.Proofs.YtfekpcimgncioaaGreatDoor
open Go.Proofs.Tryz
open Go.RowKit Go.Lith
set_option maxRecDepth 100000
attribute [local irreducible] au cq eF bJ cD Code.wp
attribute [local congr] oG fS fT fU fV fW jR fX fY fZ gA gB gC gD gE gF gG gH eM eN gI gJ gL gM gN jT cW cX cA cU gK jS eO eP eQ gQ gR jU
variable{N gf Bs:Nat}
theorem alW{dp:Nat}(l Bs g c:Nat){es:Array cg}{D:List (P3 × P3)}(J Jx:List P3→am→Prop)(W:am)(hJ:AbidesFrom W.heap.size J)
 (hY:∀pre x W1,J pre W1→pre.length<D.length→YieldAt Fence.wide (dp-1) prog l #[pt x] W1 fun e W'=>(e=.returned (.bool true)∧J (pre++[x]) W'∧KeepsWalks W1 W')∨(e=.returned (.bool false)∧Jx (pre++[x]) W'))
 (hM:iN W g es c) (hD:bA pt pt D es c) (hB:fE W Bs [.map (some g)] 99) (h0:J [] W) :
 CallsIn Fence.wide dp prog 129 #[.func (.yield l) #[] #[],.pointer (some ⟨Bs,0,none⟩)] W fun e W'=>(∃v,e=.returned v)∧((∃xs:List P3,xs.Perm (D.map (·.1))∧J xs W')∨(∃pre,True∧Jx pre W')):=by
 refine callsIn_of_wp func129 O trivial ?_ O;simp only[ntmps129,gz,az,b_,aa,lo,iv,iw,jk,jb,bv,cn];refine wpIn_wide.2 ?_;refine aT fun K1 k1=>aj (aQ O (hB.lies1 ajM O) ?_);simp only[zz];refine afD Dn O hM fun w1 r e1 hr hI=>aI (k1 _ _ ?_);have hJ1:J [] w1:=hJ [] W w1 none h0 (acV e1) (fun _ h=>by cases h);have hM1:=hM.ext e1;clear h0 k1 K1;refine wp_block ?_;simp only[zz];refine vB [] [3,6,7,8,9,10,11,12,13] (fun n vs wl=>∃(dn rs:List (P3 × P3)) (sn:Array Nat),vs=[]∧iN wl g es c∧uA wl r g c sn c∧lP pt pt D es sn dn rs∧J (dn.map (·.1)) wl∧n=rs.length) ?_ ?_
 · apply Exists.intro
   simp only[zQ,zR,zD,zE];exact⟨[],D,#[],trivial,hM1,hI,lP.start hD,hJ1,O⟩
 · intro n vs wr hL u
   obtain⟨dn,rs,sn,rfl,hMw,hIw,hT,hJw,hn⟩:=hL;have hlen:=hT.len;simp only[zu,zF,zG];refine aT fun K5 k5=>aj (aoC O hIw hMw hD hT fun bb kk vv sn2 u1 hg1 hM2 hI2 hN=>?_);refine aB (nL O) (aI (k5 _ _ ?_));have hJ2:J (dn.map (·.1)) u1:=hJ _ _ _ _ hJw hg1 (fun r' e=>by cases e;exact⟨hr,_,hIw,O⟩);clear k5 K5;refine aT fun K6 k6=>?_;simp only[zz];refine dC O ?_ ?_<;>intro hc1
   · obtain⟨kp,kb,rs2,hp,hT2⟩:=Cd hc1 hN
     refine wp_skip (k6 _ _ ?_);clear k6 K6;refine wp_block (aT fun K7 k7=>aj (eD (pQ O hI2 hM2 hD hT2) ?_));simp only[zz];refine aB (dD O O) ?_;have m:=Mem.refl u1;simp only[zz];refine lA m eC O ?_;clear m;intro g2 u2 m;simp only[zz];refine cL m 0 O O O aA (jO O) O ?_;clear m;intro u3 m;simp only[zy,zx,bQ,zF,zG,aa] at m;refine aI (k7 _ _ ?_);clear k7 K7;have hJ3:J (dn.map (·.1)) u3:=hJ _ _ _ _ hJ2 (acV m.ext) (fun _ h=>by cases h);have hM3:=hM2.ext m.ext;have hI3:=hI2.ext m.ext;have hB3:=m.b 0 rfl;obtain⟨fn,tmps,asn,body,hy,hR⟩:=hY (dn.map (·.1)) kp u3 hJ3 (by have:=hp.length_eq;rw[dm];simp only[az] at this;omega);refine aT fun K8 k8=>(wpIn_wide (n:=dp)).1 (wpIn_region_lit (yA (aC _) ?_));simp only[zz];refine yA (aZ O (hB3.full aH aA)) ?_;simp only[zz];refine Qn (args:=[pt kp]) O O hy hR ?_;rintro e w4 (⟨rfl,hJ4,hk4⟩ | ⟨rfl,hJ4⟩)
     · refine⟨_,O,yA (mH O _) (k8 _ _ ?_)⟩
       simp only[zz];refine Zk O (wp_skip ?_);simp only[bu,Exit.then];refine⟨rs2.length,_,?_,O,?_,?_⟩
       · rw[hn,hp.length_eq];exact et _
       · simp only[zz,zv]
       · simp only[zQ,zR,zD,zE]
         exact⟨dn++[(kp,kb)],rs2,_,trivial,hk4.same g _ hM3 O,hk4.same r _ hI3 O,hT2,by rw[cz];exact hJ4,O⟩
     · refine⟨_,O,yA (mH O _) (k8 _ _ ?_)⟩
       simp only[zz];refine wV O (wp_ret ?_);simp only[bu,Exit.then];exact asl O ⟨⟨_,O⟩,.inr ⟨_,trivial,hJ4⟩⟩
   · obtain rfl:=Cc hc1 hN
     refine wp_exit ?_;simp only[bu,Exit.then,if_true];exact Qw O ⟨⟨_,O⟩,.inl ⟨dn.map (·.1),hT.done.map _,hJ2⟩⟩
theorem Ot{w:am}{Bs g c:Nat}{es:Array cg}{D:List (P3 × P3)}(hM:iN w g es c)(hD:bA pt pt D es c)(hB:fE w Bs [.map (some g)] 99) :
 SeqStopsK Fence.wide 3 prog 129 #[.pointer (some ⟨Bs,0,none⟩)] (fun x:P3=>#[pt x]) KeepsWalks (fun xs=>xs.Perm (D.map (·.1))) (fun _=>True) D.length w:=fun l J Jx W hW hJ _ hY h0 =>
 alW l Bs g c J Jx W hJ hY ((hW.block g hM.lt).trans hM) hD ((hW.block Bs hB.lt).trans hB) h0
structure SlS where
 A:Option Addr
 n:Nat
 cap:Nat
 xs:List ak
theorem aoE{w0 W:am}{g:Nat}{s s':SlS}{pre pre':List P3}(h:s.n=pre.length∧s.xs=pre.flatMap qO)(h':s'.n=pre'.length∧s'.xs=pre'.flatMap qO)(m:Mem w0 W [bI g [.slice s.A s.n s.cap] 65,oI 30 3 s.A s.n s.cap s.xs])(m':Mem w0 W [bI g [.slice s'.A s'.n s'.cap] 65,oI 30 3 s'.A s'.n s'.cap s'.xs]):s'.n=pre.length∧s'.xs=pre.flatMap qO:=by
 obtain⟨A,n,cap,xs⟩:=s;obtain⟨A',n',cap',xs'⟩:=s';dsimp only at h h' m m' ⊢;have e:W.heap[g]? = _:=m.b 0 rfl;rw[show W.heap[g]? = _ from m'.b 0 rfl] at e;simp only[Option.some.injEq,Obj.cells.injEq,List.toArray_inj,l_,Value.slice.injEq,and_true] at e;obtain⟨rfl,rfl,rfl⟩:=e;refine⟨h.1,?_⟩;rcases (m.o 1 rfl).cases with ⟨rfl,_,_,hx⟩ | ⟨g1,cur,rfl,_,hg,_,_,_,hx⟩
 · rcases (m'.o 1 rfl).cases with ⟨_,_,_,hx'⟩ | ⟨g2,cur',e,_⟩
   · rw[hx',←h.2,hx]
   · cases e
 · rcases (m'.o 1 rfl).cases with ⟨e,_⟩ | ⟨g2,cur',e,_,hg',_,_,_,hx'⟩
   · cases e
   · cases e
     rw[hg] at hg';cases hg';rw[←hx',hx,h.2]
theorem alX{q:Nat}(w:am):dR prog 69 [.map (some q)] w (fun v w'=>∃g,v=.func (.func 129) #[] #[.pointer (some ⟨g,0,none⟩)]∧w.heap.size≤g∧fE w' g [.map (some q)] 99):=by
 refine⟨bO func69 (by kernel_rfl),?_⟩;have m:=Mem.refl w
 go_enter func69,ntmps69
 apply nM 7 [0] m;simp only[↓aD];intro g1 u m;refine aB eS ?_;simp only[zz,List.map_toArray,bi,db];apply aM 3 [] m;simp only[↓aD];exact aY O O ⟨_,O,m.ext,g1,O,m.ge _ bj g1 O,(m.b 0 O)⟩
theorem Ii{α:Type}{n:Nat}{P:bz}{g:Nat}{lb:Array ak}{encs:α→Array ak}{Kp:am→am→Prop}{S Sp:List α→Prop}{w u:am}(h:SeqStopsK Fence.wide n P g lb encs Kp S Sp N w)(e:dY w u):SeqStopsK Fence.wide n P g lb encs Kp S Sp N u:=fun l J Jx W hW=>h l J Jx W (Below.trans e (Below.mono hW (Below.size e)))
theorem acY{S:List P3→Prop}(w:am)(he:Entr prog gf)(hseq:SeqStopsK Fence.wide 3 prog gf #[.pointer (some ⟨Bs,0,none⟩)] (fun x:P3=>#[pt x]) KeepsWalks S (fun _=>True) N w)(hN:N≤10000000):dR prog 193 [.slice none 0 0,.func (.func gf) #[] #[.pointer (some ⟨Bs,0,none⟩)]] w (fun v w'=>∃xs:List P3,SL 30 3 (xs.flatMap qO) xs.length w v w'∧S xs):=by
 refine⟨bO func193 (by kernel_rfl),?_⟩;have m:=Mem.refl w;refine (callsIn_wide (n:=4)).1 (callsIn_of_wp_marks func193 O trivial ?_ O);simp only[ntmps193,gz,az,b_,aa,lo,iv,iw,jk,jb,bv,cn];refine wpIn_wide.2 ?_;refine aT fun K1 k1=>aj (asq m O O ?_);intro g1 u m;refine aB aJ (aI (k1 _ _ ?_));try clear k1 K1
 refine aT fun K2 k2=>aT fun K3 k3=>?_;simp only[zz];replace m:=m.nilO 30 3;refine aj (aB aC (aI (k3 _ _ ?_)));try clear k3 K3
 refine wp_block ?_;simp only[zz];replace m:=m.s01;refine alV (L:=_) (v1:=fun x=>pt x) (c1:=qO) (T1:=30) (d1:=5) O he (Ii hseq m.ext) (fun s:SlS=>[bI g1 [.slice s.A s.n s.cap] 65,oI 30 3 s.A s.n s.cap s.xs]) (fun pre s=>s.n=pre.length∧s.xs=pre.flatMap qO) (fun s i hi=>?_) (fun W s s2 pre pre2 h h2 m1 m2=>aoE h h2 m1 m2) (s0:=⟨none,0,0,[]⟩) m ⟨O,O⟩ ?_ ?_ ?_
 · simp only[ao,bt,or_false] at hi;rcases hi with rfl | rfl;exact .inl ⟨_,_,_,O⟩;exact .inr ⟨_,_,_,_,_,_,O⟩
 ·
  intro r pre x s W K hs m hK;try dsimp only at m hK ⊢
  simp only[zF,zG];refine bV (Kr m eC O ?_);intro g2 u m;simp only[zz];refine Et m 0 O O O aA (jO O) O ?_;intro u m;simp only[zy,zx,bQ,zF,zG,aa] at m;exact aI (hK _ _ m)
 ·
  rintro r pre x g5 ⟨A1,n1,cap1,xs1⟩ W Q' _ hNp ⟨hn1,hx1⟩ m hn;dsimp only at m hn hn1 hx1 ⊢;subst hx1
  ·
   simp only[zF,zG];refine qN (bV (aQ O ((m.b 1 O).lies1 ajJ O) ?_));simp only[zz];refine aQ O ((m.b 0 O).full aH aA) ?_;simp only[zz];refine sO O ?_;intro u g6 e_ h_ k_;replace m:mF _ _ _ _:=⟨m.toMem.newB e_ h_ k_,m.rx.ext e_⟩
   simp only[zz];refine alU m 3 O O gW uJ O (by decide) O O O (m.b 0 O).rowsO (nQ O) (by omega) (by omega) ?_;intro A1 cap1 u m;simp only[zF,zG] at m;rw[show pre.flatMap qO++_=(pre++[x]).flatMap qO by rw[be];rfl] at m;simp only[zz];refine jN m 2 O O O ajI (jO O) ⟨O,O⟩ ?_;intro u m;simp only[zz,zy,zx,bQ,aa] at m;exact aI (hn _ _ ⟨A1,n1+1,cap1,(pre++[x]).flatMap qO⟩ ⟨m.toMem.sel [false,false,true,true],m.rx⟩ ⟨by simp[hn1],O⟩)
 rintro D xs ⟨A1,n1,cap1,xs1⟩ u hS ⟨hn1,hx1⟩ m;dsimp only at m hn1 hx1;subst hx1;refine k2 _ _ ?_;try clear k2 K2
 refine aT fun K4 k4=>aj (aQ O ((m.b 1 O).lies1 ajJ O) ?_);simp only[zz];refine aB aJ (aI (k4 _ _ ?_));try clear k4 K4
 refine wp_ret ?_;simp only[zz];try simp only[bu,Exit.then,if_true]
 refine adC (Def.mk (m.get 0 O)) ?_;replace m:=m.putD (o':=.deferred none) 0 O;simp only[zF,zG] at m;refine aY O O ?_;try simp only[zD,zE]
 exact⟨_,O,m.ext,xs,⟨A1,cap1,n1,hn1,O,(m.o 2 O)⟩,hS⟩
theorem aeU{S:List P3→Prop}(w:am)(he:Entr prog gf)(hseq:SeqStopsK Fence.wide 3 prog gf #[.pointer (some ⟨Bs,0,none⟩)] (fun x:P3=>#[pt x]) KeepsWalks S (fun _=>True) N w)(hN:N≤10000000):dR prog 127 [.func (.func gf) #[] #[.pointer (some ⟨Bs,0,none⟩)]] w (fun v w'=>∃xs:List P3,SL 30 3 (xs.flatMap qO) xs.length w v w'∧S xs):=by
 refine⟨bO func127 (by kernel_rfl),?_⟩;have m:=Mem.refl w
 go_enter func127,ntmps127
 apply iE 7 [0] m;simp only[↓aD];refine bB O O (acY _ he (Ii hseq m.ext) hN) ?_;rintro v u e_ ⟨xs,⟨A5,cap5,n5,hn5,rfl,h_⟩,hS⟩;replace m:=m.newO e_ h_;apply aM 3 [] m;simp only[↓aD];exact aY O O ⟨_,O,m.ext,xs,⟨_,_,_,hn5,O,(m.o 0 O)⟩,hS⟩
theorem acZ{S:List P3→Prop}(w:am)(he:Entr prog gf)(hseq:SeqStopsK Fence.wide 3 prog gf #[.pointer (some ⟨Bs,0,none⟩)] (fun x:P3=>#[pt x]) KeepsWalks S (fun _=>True) N w)(hS:∀xs,S xs→xs.length≤N)(hN:N≤10000000):dR prog 68 [.func (.func gf) #[] #[.pointer (some ⟨Bs,0,none⟩)],.func (.func 70) #[] #[]] w (fun v w'=>∃xs ys:List P3,SL 30 3 (ys.flatMap gX) xs.length w v w'∧S xs∧ys.Perm xs∧ys.Pairwise fun a b=>¬b.Lt a):=by
 refine⟨bO func68 (by kernel_rfl),?_⟩;have m:=Mem.refl w
 go_enter func68,ntmps68
 apply iE 7 [0] m;simp only[↓aD];refine bB O O (aeU _ he (Ii hseq m.ext) hN) ?_;rintro v u e_ ⟨xs,⟨A5,cap5,n5,hn5,rfl,h_⟩,hSx⟩;replace m:=m.newO e_ h_;apply aM 6 [0] m;simp only[↓aD];refine nI m 0 adP O O (fun m=>agq m 0 O (by have:=hS xs hSx;omega)) ?_;rintro v i u m ⟨rfl,ys,rfl,hys,hso⟩;simp only[zF,zG] at m;apply aM 7 [] m;simp only[↓aD];exact aY O O ⟨_,O,m.ext,xs,ys,⟨_,_,_,hn5,O,(m.o 0 O)⟩,hSx,hys,hso⟩
end Go.Proofs.YtfekpcimgncioaaGreatDoor
namespace Go.Lith
open Go.RowKit
def Ij(u:P3):Nat:=if u.x≠0 then 0 else if u.y≠0 then 1 else 2
def Ou(a b c:Int):Prop:=(0≤a∧0≤b∧0≤c)∨(a≤0∧b≤0∧c≤0)
/-! ### Corners -/
section
variable {P:bz} {ds:List dl} {l:List ak} {x y:cd} {T T' U t ty:ay} {v z:ak}
end
section
variable {P:bz} {ds:List dl} {l:List ak} {ty:ay} {v u:ak}
variable {ops:Array Oper} {Q:Exit→Act→am→Prop} {rest:List Oper} {d:Nat} {pos:String} {after:Array Edge} {w w0:am} {is:List It}
end
section
variable {P:bz} {w0:am} {is:List It} {l:List ak} {ty:ay} {u:ak}
variable {ops:Array Oper} {Q:Act→Prop} {rest:List Oper} {d:Nat} {pos:String} {after:Array Edge} {v:ak} {ds:List dl}
end
section
variable {P:bz} {l:List ak} {x y z:cd} {ty:ay} {k:IntKind} {m n q r:Int}
theorem arG{a0:Array ay}(hx:ev l x=.int k m)(hy:ev l y=.int k n)(hz:ev l z=.int k q)(hr:(if q<(if n<m then n else m) then q else if n<m then n else m)=r):iO P l (.call { callee:=.builtin .min,args:=#[x,y,z],argTypes:=a0 }) ty (.int k r):=fun w o ho _=>by
 subst hr;simp[da,ho,resolve,invoke,builtin,Builtin.min_,Builtin.min2,bW,hx,hy,hz]
theorem arH{a0:Array ay}(hx:ev l x=.int k m)(hy:ev l y=.int k n)(hz:ev l z=.int k q)(hr:(if (if m<n then n else m)<q then q else if m<n then n else m)=r):iO P l (.call { callee:=.builtin .max,args:=#[x,y,z],argTypes:=a0 }) ty (.int k r):=fun w o ho _=>by
 subst hr;simp[da,ho,resolve,invoke,builtin,Builtin.max_,Builtin.max2,bW,hx,hy,hz]
end
end Go.Lith
