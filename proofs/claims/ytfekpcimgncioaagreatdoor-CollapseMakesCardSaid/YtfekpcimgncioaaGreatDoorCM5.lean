/-
 Texts of one claim, laid together: K41, K30, Bag, Pack, Pack2, K31, Cmp, Grow2, SortPt, Maps1, W1, Rchk2, W2, Ent, W3, K1, K2, K3, K4, Wo.
-/
import Derived.Shelf.SlLaysF0
import Derived.Test.YtfekpcimgncioaaGreatDoorProg
import Derived.Test.YtfekpcimgncioaaGreatDoorCM4
open Nat renaming reduceAdd→aa,reduceMul→ag,zero_add→ar,le_refl→av,zero_le→br,lt_succ_self→el,add_sub_cancel→f_,min_eq_left→iu
open Int renaming reduceToNat→ad,toNat_natCast→ai,reduceAdd→ak
open Go renaming Value→ah,World→aj,TypeId→an,wp_region_lit→ap,wpList→au,Operand→bg,Program→bh,run_underlying→bx,MapEntry→b_,wpQuiet→cg,Deferred→cn,wp_ret→iq,wp_block→jc,wp_skip→jf,wp_loop_rounds→ny
open List renaming getElem?_eq_getElem→am,mem_cons→ao,getElem?_eq_some_iff→aq,length_append→aw,length_cons→ay,take_of_length_le→a_,flatMap_append→ba,mem_singleton→bf,map_cons→bi,mem_append→bt,length_nil→bu,not_mem_nil→bz,nil_append→cd,cons_append→ci,length_take→cj,map_nil→ck,map_append→cl,mem_filter→ct,mem_map→df,append_assoc→dh,take_length→ew,length_filter_le→fc,pairwise_append→fi,filter_append→fu,mem_append_right→fv,length_drop→gh,mem_append_left→gm,drop_of_length_le→ij,mem_singleton_self→ku
open Go.Oper renaming mk→bn
open Go.Value renaming bool→bw
open Go.Exit renaming inBlock→cq
open Option renaming getD_some→cu,map_some→fa
open Array renaming getElem?_eq_some_iff→de,getElem?_modify→jg,ext_getElem?→ju
open Bool renaming or_eq_true→dm,not_eq_true'→ei,not_false→gp
open Option.some renaming inj→dq,injEq→fx
open Prod.mk renaming injEq→fp
set_option maxHeartbeats 8000000
set_option linter.unusedSimpArgs false
set_option linter.unusedVariables false
set_option linter.unusedSectionVars false
namespace Go.Proofs.YtfekpcimgncioaaGreatDoor
open Go.Proofs.Tryz
open Go.RowKit Go.Lith
abbrev Kg:=@underlying284
abbrev oH:=@underlying285
set_option maxRecDepth 100000
attribute [local irreducible] au cg fR bO cO Code.wp
attribute [local congr] pL fX fY fZ gA gB kI gC gD gE gF gG gH gI gJ gK gL gM eS eT gN gQ gS gT gU kK dC dD cR dB gR kJ eV eW eX gW gX kL
theorem crB{u v:P3}[a:Nr4 u][b:Nr4 v]:(u.cross v).x.natAbs≤1099511627776∧(u.cross v).y.natAbs≤1099511627776∧(u.cross v).z.natAbs≤1099511627776:=by
 have h1:=mA a.y b.z;have h2:=mA a.z b.y;have h3:=mA a.z b.x;have h4:=mA a.x b.z;have h5:=mA a.x b.y;have h6:=mA a.y b.x;simp only[P3.cross];refine⟨?_,?_,?_⟩ <;> omega
theorem aaw{a b:Int}(ha:a.natAbs≤1099511627776)(hb:b.natAbs≤524288) : -1152921504606846976≤a*b∧a*b≤1152921504606846976:=by
 have h:(a*b).natAbs≤1099511627776*524288:=by rw[Int.natAbs_mul];exact Nat.mul_le_mul ha hb
 omega
theorem ahZ{x:Int}(h : -1152921504606846976≤x∧x≤1152921504606846976):IntKind.i64.wrap x=x:=dY (by omega) (by omega)
theorem apC{x y:Int}(h : -1152921504606846976≤x∧x≤1152921504606846976)(k : -1152921504606846976≤y∧y≤1152921504606846976):IntKind.i64.wrap (x+y)=x+y:=dY (by omega) (by omega)
theorem apD{x y z:Int}(h : -1152921504606846976≤x∧x≤1152921504606846976)(k : -1152921504606846976≤y∧y≤1152921504606846976)(l : -1152921504606846976≤z∧z≤1152921504606846976):IntKind.i64.wrap (x+y+z)=x+y+z:=dY (by omega) (by omega)
theorem mU{a b c d:P3}[I3 a][I3 b][I3 c][I3 d]:dL prog 141 [pt a,pt b,pt c,pt d] (.int .i64 (aY (mG a b c d))):=by
 intro w;refine⟨am5,?_⟩;have m:=Mem.refl w
 go_enter func141,ntmps141
 refine eC 14 [3,2,1,0,0] m ?_;simp only[↓aD,aO];intro g1 g2 g3 g4;intro u m;refine Cs rfl rfl rfl rfl ?_;intro u g5 e hg hB;replace m:=m.newB e hg hB;clear e hg hB;simp only[zz];refine cU m rfl rfl (Qp (ps:=[a,b,c,d]) _ (al5 (m.b 0 rfl)) (by decide)) ?_;clear m;rintro v u m ⟨bo,rfl,hsm⟩;refine aS 7 [0] m ?_;simp only[↓aD];intro u m;refine jZ rfl (fun hc1=>?_) (fun hc1=>?_)
 · skip
   have hs4:=hsm hc1;haveI:=hs4 a (by simp);haveI:=hs4 b (by simp);haveI:=hs4 c (by simp);haveI:=hs4 d (by simp);refine aW 1 [0] m ?_;simp only[↓aD];intro u m;refine eD 8 [0,1,2,3,4,5,6] [⟨7,10,36,[.int .i64 0,.int .i64 0,.int .i64 0]⟩] aB (by kernel_rfl) (al1 ⟨_,_,_,rfl,by kernel_rfl,_,Cc,rfl⟩) (ol:=?_) ?hol ?_
   case hol=>simp only[zw,zQ,zR];try rfl
   intro u e;replace m:=m.ext' e;clear e;refine eB rfl (fun u e=>(((m.ext' e).b 4 rfl).full aG aA)) ?_;simp only[zz];refine eB rfl (fun u e=>(((m.ext' e).b 3 rfl).full aG aA)) ?_;simp only[zz];refine eO rfl rfl rM ?_;simp only[zz];refine eB rfl (fun u e=>(((m.ext' e).b 4 rfl).full aG aA)) ?_;simp only[zz];refine eB rfl (fun u e=>(((m.ext' e).b 2 rfl).full aG aA)) ?_;simp only[zz];refine eO rfl rfl rM ?_;simp only[zz];refine eO rfl rfl (Hn inferInstance inferInstance) (yM ?_);simp only[zz];refine mf1 m ?_;clear m;intro g6 u m;simp only[zJ,zK,zF,zG];refine bR m 0 rfl rfl rfl jE (iS rfl) rfl ?_;clear m;intro u m;simp only[zy,zx,cA,zF,zG,aa] at m;refine aK (cP 4 [5,2,0] m ?_);simp only[↓aD,aO];intro u m;refine mW m rfl rfl rM 9 [0,1,0,0] ?_;simp only[↓aD,Un,Hj,fU,dU,aa,ad,ag];intro g7;refine⟨by omega,?_⟩;intro u m;refine aC (lB rfl rfl (ahZ (aaw (crB (u:=(b.sub a)) (v:=(c.sub a))).1 (show Nr4 (d.sub a) from inferInstance).x))) (aS 4 [1,0,0] m ?_);simp only[↓aD,fU,dU,ad,ag,aa];refine⟨by omega,?_⟩;intro u m;refine aC (lB rfl rfl (ahZ (aaw (crB (u:=(b.sub a)) (v:=(c.sub a))).2.1 (show Nr4 (d.sub a) from inferInstance).y))) (aC (jL rfl rfl (apC (aaw (crB (u:=(b.sub a)) (v:=(c.sub a))).1 (show Nr4 (d.sub a) from inferInstance).x) (aaw (crB (u:=(b.sub a)) (v:=(c.sub a))).2.1 (show Nr4 (d.sub a) from inferInstance).y))) ?_);refine aS 4 [1,0,0] m ?_;simp only[↓aD,fU,dU,ad,ag,aa];refine⟨by omega,?_⟩;intro u m;refine aC (lB rfl rfl (ahZ (aaw (crB (u:=(b.sub a)) (v:=(c.sub a))).2.2 (show Nr4 (d.sub a) from inferInstance).z))) (aC (jL rfl rfl (apD (aaw (crB (u:=(b.sub a)) (v:=(c.sub a))).1 (show Nr4 (d.sub a) from inferInstance).x) (aaw (crB (u:=(b.sub a)) (v:=(c.sub a))).2.1 (show Nr4 (d.sub a) from inferInstance).y) (aaw (crB (u:=(b.sub a)) (v:=(c.sub a))).2.2 (show Nr4 (d.sub a) from inferInstance).z))) ?_);simp only[zz];refine mW m rfl rfl Cv 3 [] ?_;simp only[↓aD];intro u m;exact aR rfl rfl (⟨_,rfl,m.ext,rfl⟩)
 · skip
   refine aW 2 [0] m ?_;simp only[↓aD];intro u m;refine mq m aB (by kernel_rfl) (ql rfl (fun u m=>((m.b 4 rfl).full aG aA)) ?_);simp only[zz];refine ql rfl (fun u m=>((m.b 3 rfl).full aG aA)) ?_;simp only[zz];refine eR rfl rfl uH ?_;simp only[zz];refine ql rfl (fun u m=>((m.b 4 rfl).full aG aA)) ?_;simp only[zz];refine ql rfl (fun u m=>((m.b 2 rfl).full aG aA)) ?_;simp only[zz];refine eR rfl rfl uH ?_;simp only[zz];refine eR rfl rfl (Qo Bv.of Bv.of) ?_;simp only[zz];refine ql rfl (fun u m=>((m.b 4 rfl).full aG aA)) ?_;simp only[zz];refine ql rfl (fun u m=>((m.b 1 rfl).full aG aA)) ?_;simp only[zz];refine eR rfl rfl uH ?_;simp only[zz];refine eR rfl rfl (Qn Bv.of Bv.of) ?_;simp only[zz];refine eR rfl rfl (Hm Bw.up) (aJ aM (bD ?_));clear m;intro u m;refine cP 1 [] m ?_;simp only[↓aD];intro u m;exact aR rfl rfl (⟨_,rfl,m.ext,rfl⟩)
theorem atf{t:T3}{x y z:Bool}(hx:x=decide (t.b.Lt t.a))(hy:y=decide (t.c.Lt t.a))(hz:z=decide (t.c.Lt t.b))(h:(y&&(z || !x))=true):dM t=⟨t.c,t.a,t.b⟩:=by
 subst hx;subst hy;subst hz;simp only[Bool.and_eq_true,decide_eq_true_eq,dm,ei,decide_eq_false_iff_not] at h;exact if_pos h
theorem ash{t:T3}{x y z:Bool}(hx:x=decide (t.b.Lt t.a))(hy:y=decide (t.c.Lt t.a))(hz:z=decide (t.c.Lt t.b))(h:(y&&(z || !x))=false)(h1:x=true):dM t=⟨t.b,t.c,t.a⟩:=by
 subst hx;subst hy;subst hz;have h2:¬(t.c.Lt t.a∧(t.c.Lt t.b∨¬t.b.Lt t.a)):=fun k=>by
  rw[decide_eq_true k.1,Bool.true_and] at h;rcases k.2 with k2 | k2
  · rw[decide_eq_true k2] at h;cases h
  · exact k2 (of_decide_eq_true h1)
 rw[dM,if_neg h2,if_pos (of_decide_eq_true h1)]
theorem asi{t:T3}{x y z:Bool}(hx:x=decide (t.b.Lt t.a))(hy:y=decide (t.c.Lt t.a))(hz:z=decide (t.c.Lt t.b))(h:(y&&(z || !x))=false)(h1:x=false):dM t=t:=by
 subst hx;subst hy;subst hz;have h3:=of_decide_eq_false h1;have h2:¬(t.c.Lt t.a∧(t.c.Lt t.b∨¬t.b.Lt t.a)):=fun k=>by
  rw[decide_eq_true k.1,h1] at h;simp at h
 rw[dM,if_neg h2,if_neg h3]
/-! ### How often a triangle is hit -/
theorem Kh{t:T3}:dL prog 35 [tr t] (tr (dM t)):=by
 intro w;refine⟨aq3,?_⟩;have m:=Mem.refl w
 go_enter func35,ntmps35
 refine eC 11 [1,1,0] m ?_;simp only[↓aD,kX,bM,aO,ad,ag,aa];intro g1 g2;refine⟨by omega,?_⟩;intro u m;refine mW m rfl rfl (mZ (p:=t.b) (q:=t.a)) 8 [1,1,0] ?_;simp only[↓aD,bM,aO,ad,ag,aa];refine⟨by omega,?_⟩;intro u m;refine mW m rfl rfl (mZ (p:=t.c) (q:=t.a)) 8 [1,1,0] ?_;simp only[↓aD,bM,aO,ad,ag,aa];refine⟨by omega,?_⟩;intro u m;refine mW m rfl rfl (mZ (p:=t.c) (q:=t.b)) 4 [] ?_;simp only[↓aD];intro u m;cases hy:decide (t.c.Lt t.a)
 · skip
   refine cP 17 [0] m ?_;simp only[↓aD];intro u m;refine cN rfl (fun hc2=>?_) (fun hc2=>?_)
   · skip
     have hr:=ash (t:=t) rfl rfl rfl (by rw[hy];rfl) hc2;refine aW 12 [1,1,1,0] m ?_;simp only[↓aD,bM,aO,rL,dQ,ad,ag,aa];refine⟨by omega,?_⟩;intro u m;refine aR rfl ⟨_,rfl,((m.b 0 rfl).full bV aL)⟩ ?_;try simp only[zD,zE]
     exact⟨_,rfl,m.ext,by rw[hr];rfl⟩
   · skip
     have hr:=asi (t:=t) rfl rfl rfl (by rw[hy];rfl) hc2;refine aW 7 [1,0] m ?_;simp only[↓aD,dQ,aa];intro u m;refine aR rfl ⟨_,rfl,((m.b 0 rfl).full bV aL)⟩ ?_;try simp only[zD,zE]
     exact⟨_,rfl,m.ext,by rw[hr];rfl⟩
 · skip
   refine cP 5 [0] m ?_;simp only[↓aD];intro u m;refine bC rfl (fun hb=>aH) (bC rfl (fun hb=>nM (aV hb rfl)) (dN rfl (aC (cF rfl rfl rfl) ?_)));refine aS 2 [0] m ?_;simp only[↓aD];intro u m;refine cN rfl (fun hc1=>?_) (fun hc1=>?_)
   · skip
     have hr:=atf (t:=t) rfl rfl rfl (by rw[hy];exact hc1);refine aW 12 [1,1,1,0] m ?_;simp only[↓aD,bM,aO,rL,dQ,ad,ag,aa];refine⟨by omega,?_⟩;intro u m;refine aR rfl ⟨_,rfl,((m.b 0 rfl).full bV aL)⟩ ?_;try simp only[zD,zE]
     exact⟨_,rfl,m.ext,by rw[hr];rfl⟩
   · skip
     refine aW 6 [0] m ?_;simp only[↓aD];intro u m;refine cN rfl (fun hc2=>?_) (fun hc2=>?_)
     · skip
       have hr:=ash (t:=t) rfl rfl rfl (by rw[hy];exact hc1) hc2;refine aW 12 [1,1,1,0] m ?_;simp only[↓aD,bM,aO,rL,dQ,ad,ag,aa];refine⟨by omega,?_⟩;intro u m;refine aR rfl ⟨_,rfl,((m.b 0 rfl).full bV aL)⟩ ?_;try simp only[zD,zE]
       exact⟨_,rfl,m.ext,by rw[hr];rfl⟩
     · skip
       have hr:=asi (t:=t) rfl rfl rfl (by rw[hy];exact hc1) hc2;refine aW 7 [1,0] m ?_;simp only[↓aD,dQ,aa];intro u m;refine aR rfl ⟨_,rfl,((m.b 0 rfl).full bV aL)⟩ ?_;try simp only[zD,zE]
       exact⟨_,rfl,m.ext,by rw[hr];rfl⟩
theorem apE{p q:P3}(h:¬(p.x=q.x∧p.y=q.y∧p.z=q.z)):p≠q:=fun k=>h (by rw[k];exact⟨rfl,rfl,rfl⟩)
theorem apF{p q:P3}(h:¬¬(p.x=q.x∧p.y=q.y∧p.z=q.z)):p=q:=by
 obtain⟨h1,h2,h3⟩:=Classical.not_not.1 h;exact P3.eq h1 h2 h3
theorem asj{s t:T3}(h:s.a≠t.a):decide (s.Lt t)=decide (s.a.Lt t.a):=by unfold T3.Lt;simp[h]
theorem asl{s t:T3}(e:s.a=t.a)(h:s.b≠t.b):decide (s.Lt t)=decide (s.b.Lt t.b):=by unfold T3.Lt;simp[h,e,P3.lt_irrefl]
theorem al7{s t:T3}(e:s.a=t.a)(f:s.b=t.b):decide (s.Lt t)=decide (s.c.Lt t.c):=by unfold T3.Lt;simp[e,f,P3.lt_irrefl]
theorem asm{s t:T3}(e:s.a=t.a)(f:s.b=t.b)(h:s.c=t.c):decide (s.Lt t)=false:=by rw[al7 e f,h];simp[P3.lt_irrefl]
def jU(ls bs:List T3):List T3:=ls.merge bs fun x y=>!decide (y.Lt x)
theorem ah0(bs:List T3):jU [] bs=bs:=by simp[jU]
theorem aax(ls:List T3):jU ls []=ls:=by simp[jU]
theorem ah1{ls bs:List T3}{x y:T3}(h:y.Lt x):jU (x::ls) (y::bs)=y::jU (x::ls) bs:=by simp[jU,List.cons_merge_cons,h]
theorem ah2{ls bs:List T3}{x y:T3}(h:¬y.Lt x):jU (x::ls) (y::bs)=x::jU ls (y::bs):=by simp[jU,List.cons_merge_cons,h]
theorem Hp{α:Type}{l:List α}{i:Nat}{x:α}(h:l[i]? = some x):l.drop i=x::l.drop (i+1):=by
 obtain⟨h1,h2⟩:=aq.1 h;rw[List.drop_eq_getElem_cons h1,h2]
theorem aay(ts:List T3)(k:Nat):jU (uX (ts.take k)) (uX (ts.drop k))=uX ts:=by
 refine Be ?_ ?_ (rK ts)
 · refine (List.merge_perm_append ..).trans (((tE _).append (tE _)).trans ?_)
   rw[List.take_append_drop];exact (tE ts).symm
 · have:=List.pairwise_merge (le:=fun x y:T3=>!decide (y.Lt x)) ?_ ?_ (uX (ts.take k)) (uX (ts.drop k)) ((rK _).imp fun {a b} h=>by simpa[uA] using h) ((rK _).imp fun {a b} h=>by simpa[uA] using h)
   · exact this.imp fun {a b} h=>by simpa[uA] using h
   · intro a b c h1 h2
     simp only[ei,decide_eq_false_iff_not] at *
     exact Lo (s:=a) (t:=b) (u:=c) h1 h2
   · intro a b
     simp only[dm,ei,decide_eq_false_iff_not];by_cases h:b.Lt a
     · exact .inr fun k=>T3.lt_irrefl a (T3.lt_trans k h)
     · exact .inl h
theorem Lr{ts:List T3}(h:ts.length<2):uX ts=ts:=by
 rcases ts with _ | ⟨t,_ | ⟨u,ts⟩⟩
 · rfl
 · rfl
 · simp at h;omega
theorem ah3{s t:T3}:dL prog 218 [tr s,tr t] (.bool (decide (s.Lt t))):=by
 intro w;refine⟨anP,?_⟩;have m:=Mem.refl w
 go_enter func218,ntmps218
 refine eC 25 [4,1,0] m ?_;simp only[↓aD];intro g1 g2;refine⟨by omega,?_⟩;intro u m;refine mq m aB (by kernel_rfl) (eM 6 [1,0] ?_);simp only[↓aD,bM,aO,ad,ag,aa];refine⟨by omega,?_⟩;refine aJ (fA rfl rfl) (bD ?_);clear m;intro u m;refine gc ?_;simp only[zz];refine bG rfl (fun hc2=>?_) (fun hc2=>?_)
 · skip
   have ha:=apE hc2;refine aW 1 [0] m ?_;simp only[↓aD];intro u m;refine mq m aB (by kernel_rfl) (eM 6 [1,0] ?_);simp only[↓aD,bM,aO,ad,ag,aa];refine⟨by omega,?_⟩;refine eR rfl rfl (mZ (p:=s.a) (q:=t.a)) (aJ aM (bD ?_));clear m;intro u m;refine cP 1 [] m ?_;simp only[↓aD];intro u m;refine aR rfl rfl ?_;try simp only[zD,zE]
   exact⟨_,rfl,m.ext,by rw[asj ha]⟩
 · skip
   have ea:=apF hc2;refine aW 19 [1,0] m ?_;simp only[↓aD,ak];refine⟨by omega,?_⟩;intro u m;refine mq m aB (by kernel_rfl) (eM 6 [1,0] ?_);simp only[↓aD,bM,aO,ad,ag,aa];refine⟨by omega,?_⟩;refine aJ (fA rfl rfl) (bD ?_);clear m;intro u m;refine gc ?_;simp only[zz];refine bG rfl (fun hc2=>?_) (fun hc2=>?_)
   · skip
     have hb:=apE hc2;refine aW 1 [0] m ?_;simp only[↓aD];intro u m;refine mq m aB (by kernel_rfl) (eM 6 [1,0] ?_);simp only[↓aD,bM,aO,ad,ag,aa];refine⟨by omega,?_⟩;refine eR rfl rfl (mZ (p:=s.b) (q:=t.b)) (aJ aM (bD ?_));clear m;intro u m;refine cP 1 [] m ?_;simp only[↓aD];intro u m;refine aR rfl rfl ?_;try simp only[zD,zE]
     exact⟨_,rfl,m.ext,by rw[asl ea hb]⟩
   · skip
     have eb:=apF hc2;refine aW 19 [1,0] m ?_;simp only[↓aD,ak];refine⟨by omega,?_⟩;intro u m;refine mq m aB (by kernel_rfl) (eM 6 [1,0] ?_);simp only[↓aD,bM,aO,ad,ag,aa];refine⟨by omega,?_⟩;refine aJ (fA rfl rfl) (bD ?_);clear m;intro u m;refine gc ?_;simp only[zz];refine bG rfl (fun hc2=>?_) (fun hc2=>?_)
     · skip
       have hc:=apE hc2;refine aW 1 [0] m ?_;simp only[↓aD];intro u m;refine mq m aB (by kernel_rfl) (eM 6 [1,0] ?_);simp only[↓aD,bM,aO,ad,ag,aa];refine⟨by omega,?_⟩;refine eR rfl rfl (mZ (p:=s.c) (q:=t.c)) (aJ aM (bD ?_));clear m;intro u m;refine cP 1 [] m ?_;simp only[↓aD];intro u m;refine aR rfl rfl ?_;try simp only[zD,zE]
       exact⟨_,rfl,m.ext,by rw[al7 ea eb]⟩
     · skip
       have ec:=apF hc2;refine aW 21 [2] m ?_;simp only[↓aD,ak];refine⟨by omega,?_⟩;intro u m;refine aR rfl rfl ?_;try simp only[zD,zE]
       exact⟨_,rfl,m.ext,by rw[asm ea eb ec]⟩
theorem ah4{ls ms:List T3}{N M cap cap2:Nat}{A A2:Option Addr}(w:aj)(hT:bP w A N ls)(hU:bP w A2 M ms)(hcap:M≤cap2)(hN:N+M≤10000000):dJ prog 145 [.slice A N cap,.slice A2 M cap2] w (SL 39 9 ((jU ls ms).flatMap aN) (N+M) w):=by
 refine⟨am6,?_⟩;have m:=Mem.refl w;have htl:=hT.len;have hul:=hU.len
 go_enter func145,ntmps145
 refine eC 6 [0] m ?_;simp only[↓aD];intro u m;refine aC aM ?_;replace m:=m.nilO 39 9;refine aS 11 [0] m ?_;simp only[↓aD];intro u m;refine cE [5,6,7] [8,9,10,11,12,13,14,15,16,17,18,19,20,21,22,23,24,25,26,27,28,29,30,31,32,33,34,35,36,37,38,39,40,41,42,43,44,45] (fun n vs wl=>∃(i j:Nat) (xs:List T3) (A5:Option Addr) (cap5:Nat),vs=[.slice A5 (i+j) cap5,.int .i64 (j:Int),.int .i64 (i:Int)]∧Mem w wl [oI 39 9 A5 (i+j) cap5 (xs.flatMap aN)]∧(xs++jU (ls.drop i) (ms.drop j)=jU ls ms)∧(i≤N)∧(j≤M)∧(n=N-i)) ?_ ?_
 · skip
   apply Exists.intro;simp only[zQ,zR,zD,zE];exact⟨0,0,[],_,_,rfl,m,rfl,br _,br _,rfl⟩
 · intro n vs wr hI u K1 hK1
   clear m;obtain⟨i,j,xs,A5,cap5,rfl,m,hI,hi,hj,hn⟩:=hI;simp only[zu,zF,zG];refine aW 8 [0,0] m ?_;simp only[↓aD,iU];intro u m;refine bG rfl (fun hc1=>?_) (fun hc1=>?_)
   · skip
     obtain⟨x,hx,_,a,hA,hrow⟩:=hT.get (i:=i) (by omega);subst hA;refine aW 5 [0] m ?_;simp only[↓aD];intro u m;refine cE [5,6] [8,15,16,17,18,19,20,21,22,23,24,25,26,27,28,29,30,31,32,33,34,35,36,37,38] (fun n vs wl=>∃(j:Nat) (xs:List T3) (A5:Option Addr) (cap5:Nat),vs=[.slice A5 (i+j) cap5,.int .i64 (j:Int)]∧Mem w wl [oI 39 9 A5 (i+j) cap5 (xs.flatMap aN)]∧(xs++jU (ls.drop i) (ms.drop j)=jU ls ms)∧(j≤M)∧(n=M-j)) ?_ ?_
     · skip
       apply Exists.intro;simp only[zQ,zR,zD,zE];exact⟨j,xs,_,_,rfl,m,hI,hj,rfl⟩
     · intro n vs wr hI u K2 hK2
       clear m;obtain⟨j,xs,A5,cap5,rfl,m,hI2,hj,hn2⟩:=hI;simp only[zu,zF,zG];refine aW 8 [0,0] m ?_;simp only[↓aD,iU];intro u m;refine bG rfl (fun hc2=>?_) (fun hc2=>?_)
       · skip
         obtain⟨y,hy,_,a2,hA2,hrow2⟩:=hU.get (i:=j) (by omega);subst hA2;refine aW 3 [0] m ?_;simp only[↓aD];intro u m;refine mh m [true] [(0,true),(1,true),(2,true),(4,true),(5,true),(6,true),(3,true),(7,true),(8,false),(9,true)] aB (by kernel_rfl) (bT (fun _ _ _ _ _ h=>h)) (ol:=?_) ?hol ?_
         case hol=>simp only[zw,zQ,zR];try rfl
         clear m;intro u m;refine bB aH (bB aH ?_);simp only[zz];refine bB (aF cC aL rfl rfl (by omega) (by omega) (bZ (ai _))) (bB aH (bB aH ?_));simp only[zz];refine bB (aF cC aL rfl rfl (by omega) (by omega) (bZ (ai _))) ?_;simp only[zz];refine eN rfl (fun u m=>((hrow2.ext m.ext).lies bV aL)) ?_;simp only[zz];refine eN rfl (fun u m=>((hrow.ext m.ext).lies bV aL)) ?_;simp only[zz];refine bK (lJ m rfl rfl (ah3 (s:=y) (t:=x)) ?_);clear m;intro u m;refine aK (⟨m,?_⟩);refine bB aM (cK ?_);refine cP 6 [0] m ?_;simp only[↓aD];intro u m;refine cN rfl (fun hc3=>?_) (fun hc3=>?_)
         · skip
           have hI3:(xs++[x])++jU (ls.drop (i+1)) (ms.drop j)=jU ls ms:=by rw[←hI2,Hp hx,Hp hy,ah2 (by simpa using hc3),dh];rfl
           refine aW 5 [0] m ?_;simp only[↓aD];intro u m;refine aC (aF cC aL rfl rfl (by omega) (by omega) (bZ (ai _))) ?_;simp only[zz];refine aQ rfl ((hrow.ext m.ext).lies bV aL) ?_;simp only[zz];refine fH rfl ?_;intro u g1 e hg hB;replace m:=m.newB e hg hB;clear e hg hB;simp only[zz];refine bQ m 1 rfl rfl cC kA rfl (by decide) rfl rfl rfl (m.b 0 rfl).rowsO (fW rfl) (by omega) (by omega) ?_;clear m;intro A5 cap5 u m;simp only[zF,zG] at m;rw[show xs.flatMap aN++_=(xs++[x]).flatMap aN by rw[ba];rfl] at m;refine aS 8 [0] m ?_;simp only[↓aD];refine⟨by omega,?_⟩;intro u m;rw[show i+j+1=i+1+j by omega] at m ⊢;refine hK1 (N-(i+1)) _ _ ?_ ?_ ?_
           · omega
           · simp only[zz,zv]
           · simp only[zQ,zR,zD,zE]
             exact⟨i+1,j,xs++[x],_,_,rfl,(m.sel [false,true]),hI3,by omega,hj,rfl⟩
         · skip
           have hI4:(xs++[y])++jU (ls.drop i) (ms.drop (j+1))=jU ls ms:=by rw[←hI2,Hp hx,Hp hy,ah1 (by simpa using hc3),dh];rfl
           refine aW 6 [0] m ?_;simp only[↓aD];intro u m;refine aC (aF cC aL rfl rfl (by omega) (by omega) (bZ (ai _))) ?_;simp only[zz];refine aQ rfl ((hrow2.ext m.ext).lies bV aL) ?_;simp only[zz];refine fH rfl ?_;intro u g1 e hg hB;replace m:=m.newB e hg hB;clear e hg hB;simp only[zz];refine bQ m 1 rfl rfl cC kA rfl (by decide) rfl rfl rfl (m.b 0 rfl).rowsO (fW rfl) (by omega) (by omega) ?_;clear m;intro A5 cap5 u m;simp only[zF,zG] at m;rw[show xs.flatMap aN++_=(xs++[y]).flatMap aN by rw[ba];rfl] at m;refine aS 8 [0] m ?_;simp only[↓aD];refine⟨by omega,?_⟩;intro u m;rw[show i+j+1=i+(j+1) by omega] at m ⊢;refine hK2 (M-(j+1)) _ _ ?_ ?_ ?_
           · omega
           · simp only[zz,zv]
           · simp only[zQ,zR,zD,zE]
             exact⟨j+1,xs++[y],_,_,rfl,(m.sel [false,true]),hI4,by omega,rfl⟩
       · skip
         obtain rfl:j=M:=by omega
         have hI3:(xs++[x])++jU (ls.drop (i+1)) (ms.drop j)=jU ls ms:=by rw[←hI2,Hp hx,show ms.drop j=[] from ij (by omega),aax,aax,dh];rfl
         refine aW 5 [0] m ?_;simp only[↓aD];intro u m;refine aC (aF cC aL rfl rfl (by omega) (by omega) (bZ (ai _))) ?_;simp only[zz];refine aQ rfl ((hrow.ext m.ext).lies bV aL) ?_;simp only[zz];refine fH rfl ?_;intro u g1 e hg hB;replace m:=m.newB e hg hB;clear e hg hB;simp only[zz];refine bQ m 1 rfl rfl cC kA rfl (by decide) rfl rfl rfl (m.b 0 rfl).rowsO (fW rfl) (by omega) (by omega) ?_;clear m;intro A5 cap5 u m;simp only[zF,zG] at m;rw[show xs.flatMap aN++_=(xs++[x]).flatMap aN by rw[ba];rfl] at m;refine aS 8 [0] m ?_;simp only[↓aD];refine⟨by omega,?_⟩;intro u m;rw[show i+j+1=i+1+j by omega] at m ⊢;refine hK1 (N-(i+1)) _ _ ?_ ?_ ?_
         · omega
         · simp only[zz,zv]
         · simp only[zQ,zR,zD,zE]
           exact⟨i+1,j,xs++[x],_,_,rfl,(m.sel [false,true]),hI3,by omega,hj,rfl⟩
   · skip
     obtain rfl:i=N:=by omega
     have hend:xs++ms.drop j=jU ls ms:=by rw[←hI,show ls.drop i=[] from ij (by omega),ah0]
     refine aW 6 [0] m ?_;simp only[↓aD];intro u m;refine aC (tC cC aL rfl rfl (ai _) (by omega) (by omega) rfl) ?_;simp only[zz];refine bQ m 0 rfl rfl cC kA rfl (by decide) rfl rfl (by rw[Gm,gh,hul]) ((hU.lat.ext m.ext).cellsD aoV (by decide) hcap) (Of _) (by omega) (by omega) ?_;clear m;intro A5 cap5 u m;simp only[zF,zG] at m;rw[←ba,hend] at m;refine aS 3 [] m ?_;simp only[↓aD];intro u m;refine aR rfl rfl ?_;try simp only[zD,zE]
     exact⟨_,rfl,m.ext,⟨_,_,_,by omega,rfl,(m.o 0 rfl)⟩⟩
end Go.Proofs.YtfekpcimgncioaaGreatDoor
namespace Go.Lith
open Go.RowKit
section
variable {w0 w w':aj} {is:List It}
theorem Mem.plus{js:List It}(m:Mem w0 w is)(h:Mem w w' js):Mem w0 w' (js++is):=by
 have m':=m.ext' h.ext;refine⟨m'.ext,fun i hi=>?_,fun i hi b hb=>?_,fi.2 ⟨h.nd,m.nd,fun i hi j hj b h1 h2=>?_⟩⟩
 · exact (bt.1 hi).elim (h.all i) (m'.all i)
 · rcases bt.1 hi with hi | hi
   · exact Nat.le_trans m.ext.size (h.ge i hi b hb)
   · exact m'.ge i hi b hb
 · have k1:=h.ge i hi b h1
   have k2:=j.lt w b (m.all j hj) h2;omega
end
structure Hd where
 A:Option Addr
 n:Nat
 cap:Nat
def Hd.v(h:Hd):ah:=.slice h.A h.n h.cap
theorem bP.takeL{w:aj}{A:Option Addr}{N k:Nat}{ts:List T3}(h:bP w A N ts)(hk:k≤N):bP w A k (ts.take k) :=
 ⟨by rw[cj,h.len];exact iu hk,fun t ht=>h.it t (List.mem_of_mem_take ht),fun i t hi=>by
  rw[List.getElem?_take] at hi;split at hi
  · exact h.row i t hi
  · cases hi⟩
theorem bP.dropL{w:aj}{A:Option Addr}{N k cap:Nat}{ts:List T3}(h:bP w A N ts)(hk:k≤N)(hc:N≤cap):bP w (if cap=k then A else A.map (·.add (k*9))) (N-k) (ts.drop k) :=
 ⟨by rw[gh,h.len],fun t ht=>h.it t (List.mem_of_mem_drop ht),fun i t hi=>by
  rw[List.getElem?_drop] at hi;obtain⟨a,e,hr⟩:=h.row _ t hi;have hl:=(aq.1 hi).1;rw[h.len] at hl;rw[if_neg (by omega),e];refine⟨_,rfl,?_⟩;rw[lG,←Nat.add_mul];exact hr⟩
end Go.Lith
namespace Go.Lith
open Go.RowKit Go.ChangeMaps Go.MapKept
def Ef(is:List It):It where
 own b:=∃i∈is,i.own b
 P w:=(∀i∈is,i.P w)∧is.Pairwise Ap
 lt w b h e:=by obtain⟨i,hi,ho⟩:=e;exact i.lt w b (h.1 i hi) ho
 st w w' h s k:=⟨fun i hi=>i.st w w' (h.1 i hi) s fun b hb=>k b ⟨i,hi,hb⟩,h.2⟩
section
variable {w0 w:aj} {a is:List It}
theorem Mem.pack(a:List It)(m:Mem w0 w (a++is)):Mem w0 w (a++[Ef is]):=by
 have h:=fi.1 m.nd;refine⟨m.ext,fun i hi=>?_,fun i hi b hb=>?_,fi.2 ⟨h.1,List.pairwise_singleton _ _,fun x hx y hy b h1 h2=>?_⟩⟩
 · rcases bt.1 hi with hi | hi
   · exact m.all i (gm _ hi)
   · obtain rfl:=bf.1 hi
     exact⟨fun i hi=>m.all i (fv _ hi),h.2.1⟩
 · rcases bt.1 hi with hi | hi
   · exact m.ge i (gm _ hi) b hb
   · obtain rfl:=bf.1 hi
     obtain⟨j,hj,hb⟩:=hb;exact m.ge j (fv _ hj) b hb
 · obtain rfl:=bf.1 hy
   obtain⟨j,hj,hb⟩:=h2;exact h.2.2 x hx j hj b h1 hb
theorem Mem.unpack(a:List It)(m:Mem w0 w (a++[Ef is])):Mem w0 w (a++is):=by
 have h:=fi.1 m.nd;have hP:(∀i∈is,i.P w)∧is.Pairwise Ap:=m.all _ (fv _ (ku _));refine⟨m.ext,fun i hi=>?_,fun i hi b hb=>?_,fi.2 ⟨h.1,hP.2,fun x hx y hy b h1 h2=>?_⟩⟩
 · rcases bt.1 hi with hi | hi
   · exact m.all i (gm _ hi)
   · exact hP.1 i hi
 · rcases bt.1 hi with hi | hi
   · exact m.ge i (gm _ hi) b hb
   · exact m.ge _ (fv _ (ku _)) b ⟨i,hi,hb⟩
 · exact h.2.2 x hx _ (ku _) b h1 ⟨y,hy,h2⟩
end
def yQ(P:bh)(f:FuncId)(args:List ah)(w:aj)(R:ah→aj→Prop):Prop :=
 Entr P f∧Calls P f args.toArray w fun e w'=>∃v,e=.returned v∧R v w'
theorem yQ.mono{P:bh}{f:FuncId}{args:List ah}{w:aj}{R R':ah→aj→Prop}(h:yQ P f args w R)(hr:∀v w',R v w'→R' v w'):yQ P f args w R' :=
 ⟨h.1,h.2.mono fun _ _ ⟨v,he,hR⟩=>⟨v,he,hr _ _ hR⟩⟩
section
variable {P:bh} {ds:List cn} {l:List ah} {ty:an} {w:aj}
variable {ops:Array Oper} {Q:Exit→Act→aj→Prop} {rest:List Oper} {d:Nat} {pos:String} {after:Array Edge}
theorem mF{f:FuncId}{fo:bg}{xs:Array bg}{args:List ah}{first cap:Array ah}{a0:Array an}{R:ah→aj→Prop}(hf:ev l fo=.func (.func f) first cap)(hxs:first.toList++xs.toList.map (ev l)++cap.toList=args)(hc:yQ P f args w R)
 (h:∀v u,R v u→au P ops Q rest (Fr (l.set d v) ds) u):au P ops Q (bn (some d) (.call { callee:=.value fo,args:=xs,argTypes:=a0 }) ty pos after none::rest) (Fr l ds) w:=by
 refine wpList_plain rfl fun K hK=>?_;unfold Oper.wp;rw[jV,oY hc.1 hf hxs _ rfl];refine hc.2.mono ?_;rintro e w' ⟨v,rfl,hR⟩;show K ((Fr l ds).put (some d) v) w'
 rw[iB];exact hK _ _ (h v w' hR)
end
end Go.Lith
namespace Go.Lith
section
variable {w0 w:aj} {x y z:It} {is:List It}
theorem Mem.unpack2(m:Mem w0 w [x,y,Ef is]):Mem w0 w (x::y::is):=Mem.unpack [x,y] m
theorem Mem.pack3(m:Mem w0 w (x::y::z::is)):Mem w0 w [x,y,z,Ef is]:=Mem.pack [x,y,z] m
theorem Mem.pack2(m:Mem w0 w (x::y::is)):Mem w0 w [x,y,Ef is]:=Mem.pack [x,y] m
theorem Mem.pack4{z2:It}(m:Mem w0 w (x::y::z::z2::is)):Mem w0 w [x,y,z,z2,Ef is]:=Mem.pack [x,y,z,z2] m
theorem Mem.unpack4{z2:It}(m:Mem w0 w [x,y,z,z2,Ef is]):Mem w0 w (x::y::z::z2::is):=Mem.unpack [x,y,z,z2] m
theorem Mem.unpack3(m:Mem w0 w [x,y,z,Ef is]):Mem w0 w (x::y::z::is):=Mem.unpack [x,y,z] m
end
end Go.Lith
namespace Go.Proofs.YtfekpcimgncioaaGreatDoor
open Go.Proofs.Tryz
open Go.RowKit Go.Lith
set_option maxRecDepth 100000
attribute [local irreducible] au cg fR bO cO Code.wp
attribute [local congr] pL fX fY fZ gA gB kI gC gD gE gF gG gH gI gJ gK gL gM eS eT gN gQ gS gT gU kK dC dD cR dB gR kJ eV eW eX gW gX kL
def aaz(A:Option Addr)(N cap:Nat)(ts:List T3)(w:aj)(v:ah)(w':aj):Prop:=(v=.slice A N cap∧N<2)∨SL 39 9 ((uX ts).flatMap aN) N w v w'
theorem acw{t:T3}(h:IT t):IT (dM t):=by
 unfold dM;split
 · exact⟨h.c,h.a,h.b⟩
 · split
   · exact⟨h.b,h.c,h.a⟩
   · exact h
theorem akS{ts:List T3}(h:∀t∈ts,IT t):∀t∈uX ts,IT t:=fun t ht=>h t ((tE ts).mem_iff.1 ht)
theorem aaz.view{A:Option Addr}{N cap:Nat}{ts:List T3}{w w':aj}{v:ah}(h:aaz A N cap ts w v w')(hT:bP w' A N ts)(hc:N≤cap):∃B c,v=.slice B N c∧bP w' B N (uX ts)∧N≤c:=by
 rcases h with ⟨rfl,h⟩ | ⟨B,c,n,rfl,rfl,hO⟩
 · exact⟨_,_,rfl,by rw[Lr (by rw[hT.len];exact h)];exact hT,hc⟩
 · exact⟨B,c,rfl,hO.tris (akS hT.it),hO.le⟩
theorem ah5{ts:List T3}{N cap:Nat}{A:Option Addr}(w:aj)(ih:∀{us:List T3} {M c:Nat} {B:Option Addr} (u:aj),bP u B M us→M≤c→M<N→dJ prog 85 [.slice B M c] u (aaz B M c us u))(hT:bP w A N ts)(hcap:N≤cap)(hN:N≤10000000):dJ prog 85 [.slice A N cap] w (aaz A N cap ts w):=by
 refine⟨arD,?_⟩;have m:=Mem.refl w;have htl:=hT.len
 go_enter func85,ntmps85
 refine eC 11 [0,0] m ?_;simp only[↓aD,iU];intro u m;refine bG rfl (fun hc1=>?_) (fun hc1=>?_)
 · skip
   refine aW 6 [] m ?_;simp only[↓aD];intro u m;refine aR rfl rfl ?_;try simp only[zD,zE]
   exact⟨_,rfl,m.ext,.inl ⟨rfl,by omega⟩⟩
 · skip
   refine aW 5 [0] m ?_;simp only[↓aD,iU];intro u m;refine aC (yJ rfl rfl (by omega) (show IntKind.i64.wrap ((N:Int).tdiv 2)=((N / 2:Nat):Int) from (show IntKind.i64.wrap ((N / 2:Nat):Int)=((N / 2:Nat):Int) from dY (by omega) (by omega)))) (aS 3 [0] m ?_);simp only[↓aD];intro u m;refine mh m [] [(0,true),(1,true),(2,true),(4,true),(5,true),(6,true),(3,false),(7,false),(8,false),(9,true)] aB (by kernel_rfl) (bT (fun _ _ _ _ _ h=>h)) (ol:=?_) ?hol ?_
   case hol=>simp only[zw,zQ,zR];try rfl
   clear m;intro u m;refine bB aH (bB aH ?_);simp only[zz];refine bB (oL cC aL rfl rfl (show _=N / 2 by omega) (by omega) (by omega)) (bB aH (bB aH ?_));simp only[zz];refine bB (tC cC aL rfl rfl (show _=N / 2 by omega) (by omega) (by omega) rfl) (bK ?_);simp only[zz];refine bJ rfl rfl (ih _ ((hT.ext m.ext).takeL (k:=N / 2) (by omega)) (by omega) (by omega)) ?_;rintro v u e hR;replace m:=m.ext' e;obtain⟨A5,c5,rfl,hT5,hc5⟩:=hR.view ((hT.ext m.ext).takeL (k:=N / 2) (by omega)) (by omega);clear e;refine aK (⟨m,?_⟩);refine bK ?_;simp only[zz];refine bJ rfl rfl (ih _ ((hT.ext m.ext).dropL (k:=N / 2) (cap:=cap) (by omega) hcap) (by omega) (by omega)) ?_;rintro v u e hR6;replace m:=m.ext' e;replace hT5:=hT5.ext e;obtain⟨A6,c6,rfl,hT6,hc6⟩:=hR6.view ((hT.ext m.ext).dropL (k:=N / 2) (cap:=cap) (by omega) hcap) (by omega);clear e;refine aK (⟨m,?_⟩);refine bK ?_;simp only[zz];refine bJ rfl rfl (ah4 _ hT5 hT6 hc6 (by omega)) ?_;rintro v u e ⟨A7,cap7,n7,hn7,rfl,hN⟩;replace m:=m.newO e hN;clear e hN;refine aK (⟨m.sel [false],?_⟩);refine bB aM (cK ?_);refine lK 1 [] m ?_;simp only[↓aD];rintro u m rfl;refine aR rfl rfl ?_;try simp only[zD,zE]
   exact⟨_,rfl,m.ext,.inr ⟨A7,cap7,n7,by omega,rfl,by rw[←aay ts (N / 2)];exact (m.o 0 rfl)⟩⟩
theorem adQ:∀(n:Nat) {ts:List T3} {N cap:Nat} {A:Option Addr} (w:aj),bP w A N ts→N≤cap→N≤10000000→N<n→dJ prog 85 [.slice A N cap] w (aaz A N cap ts w)
 | 0,_,_,_,_,_,_,_,_,h=>absurd h (Nat.not_lt_zero _)
 | n+1,_,N,_,_,w,hT,hc,hN,h=>ah5 w (fun u hU hcu hM=>adQ n u hU hcu (by omega) (by omega)) hT hc hN
theorem apG{w0 w:aj}{A:Option Addr}{N cap:Nat}{xs:List T3}(m:Mem w0 w [oI 39 9 A N cap (xs.flatMap aN)])(hi:∀t∈xs,IT t)(hN:N≤10000000) :
 yQ prog 85 [.slice A N cap] w fun v w'=>∃B c,v=.slice B N c∧Mem w0 w' [oI 39 9 B N c ((uX xs).flatMap aN)]:=by
 have hO:=m.o 0 rfl;have hD:=adQ (N+1) w (hO.tris hi) hO.le hN (el N);refine⟨hD.1,hD.2.mono ?_⟩;rintro e w' ⟨v,rfl,hE,⟨rfl,h⟩ | ⟨B,c,n,rfl,rfl,hN2⟩⟩
 · exact⟨_,rfl,A,cap,rfl,by rw[Lr (by rw[(hO.tris hi).len];exact h)];exact m.ext' hE⟩
 · exact⟨_,rfl,B,c,rfl,(m.newO hE hN2).sel [true,false]⟩
theorem aaA{ts:List T3}{N cap:Nat}{A:Option Addr}(w:aj)(hT:bP w A N ts)(hN:N≤10000000):dJ prog 40 [.slice A N cap] w (SL 39 9 ((dW ts).flatMap aN) ts.length w):=by
 refine⟨aq6,?_⟩;have m:=Mem.refl w;have htl:=hT.len
 go_enter func40,ntmps40
 refine eC 6 [0] m ?_;simp only[↓aD];intro u m;refine aC aM ?_;replace m:=m.nilO 39 9;refine aS 7 [0] m ?_;simp only[↓aD];intro u m;refine cE [3,4] [5,6,7,8,9,10,11,12,13,14,15,16,17,18] (fun n vs wl=>∃(k:Nat) (A1:Option Addr) (cap1:Nat),vs=[.slice A1 k cap1,.int .i64 (k:Int)]∧Mem w wl [oI 39 9 A1 k cap1 (((ts.take k).map dM).flatMap aN)]∧(k≤N)∧(n=N-k)) ?_ ?_
 · skip
   apply Exists.intro;simp only[zQ,zR,zD,zE];exact⟨0,_,_,rfl,m,br _,rfl⟩
 · intro n vs wr hI u K1 hK1
   clear m;obtain⟨k,A1,cap1,rfl,m,hk,hn⟩:=hI;simp only[zu,zF,zG];refine aW 8 [0,0] m ?_;simp only[↓aD,iU];intro u m;refine bG rfl (fun hc1=>?_) (fun hc1=>?_)
   · skip
     obtain⟨t,ht,_,a,hA,hrow⟩:=hT.get (i:=k) (by omega);subst hA;refine aW 7 [0] m ?_;simp only[↓aD];intro u m;refine aC (aF cC aL rfl rfl (by omega) (by omega) (bZ (ai _))) ?_;simp only[zz];refine aQ rfl ((hrow.ext m.ext).lies bV aL) ?_;simp only[zz];refine lJ m rfl rfl (Kh (t:=t)) ?_;clear m;intro u m;simp only[zz];refine fH rfl ?_;intro u g1 e hg hB;replace m:=m.newB e hg hB;clear e hg hB;simp only[zz];refine bQ m 1 rfl rfl cC kA rfl (by decide) rfl rfl rfl (m.b 0 rfl).rowsO (fW rfl) (by omega) (by omega) ?_;clear m;intro A1 cap1 u m;simp only[zF,zG] at m;rw[show ((ts.take k).map dM).flatMap aN++_=((ts.take (k+1)).map dM).flatMap aN by rw[bX ht,cl,ba];rfl] at m;refine aS 8 [0] m ?_;simp only[↓aD];refine⟨by omega,?_⟩;intro u m;refine hK1 (N-(k+1)) _ _ ?_ ?_ ?_
     · omega
     · simp only[zz,zv]
     · simp only[zQ,zR,zD,zE]
       exact⟨k+1,_,_,rfl,(m.sel [false,true]),by omega,rfl⟩
   · skip
     obtain rfl:k=N:=by omega
     rw[show ts.take k=ts from a_ (by omega)] at m;refine aW 4 [0] m ?_;simp only[↓aD];intro u m;refine mF rfl rfl (apG m (fun t ht=>by obtain⟨s,hs,rfl⟩:=df.1 ht;exact acw (hT.it s hs)) (by omega)) ?_;clear m;rintro v u ⟨A4,cap4,rfl,m⟩;refine aS 3 [] m ?_;simp only[↓aD];intro u m;exact aR rfl rfl (⟨_,rfl,m.ext,⟨_,_,_,htl.symm,rfl,(m.o 0 rfl)⟩⟩)
end Go.Proofs.YtfekpcimgncioaaGreatDoor
namespace Go.Proofs.YtfekpcimgncioaaGreatDoor
open Go.Proofs.Tryz
open Go.RowKit Go.Lith
set_option maxRecDepth 100000
attribute [local irreducible] au cg fR bO cO Code.wp
theorem al8{p:P3}:sE prog 276 [pt p] (.int .i64 p.x):=by
 intro w;refine⟨age,?_⟩;have m:=iJ.refl w
 go_enter func276,ntmps276
 refine bA fun K1 k1=>ap (oF m rfl ?_);clear m;intro g1 u m;refine aC aM (aK (k1 _ _ ?_));refine bA fun K2 k2=>ap (aC (aT (c:=0) underlying245 rfl aX rfl rfl) ?_);simp only[zz];refine aQ rfl ((m.b 0 rfl).lies1 bE rfl) ?_;simp only[zz];refine aC aM (aK (k2 _ _ ?_));refine iq ?_;simp only[zz];try simp only[cq,Exit.then,if_true]
 refine aR rfl rfl ?_;try simp only[zD,zE]
 exact⟨_,rfl,m.ext,rfl⟩
theorem al9{p:P3}:sE prog 277 [pt p] (.int .i64 p.y):=by
 intro w;refine⟨agf,?_⟩;have m:=iJ.refl w
 go_enter func277,ntmps277
 refine bA fun K1 k1=>ap (oF m rfl ?_);clear m;intro g1 u m;refine aC aM (aK (k1 _ _ ?_));refine bA fun K2 k2=>ap (aC (aT (c:=0) underlying245 rfl aX rfl rfl) ?_);simp only[zz];refine aQ rfl ((m.b 0 rfl).lies1 bE rfl) ?_;simp only[zz];refine aC aM (aK (k2 _ _ ?_));refine iq ?_;simp only[zz];try simp only[cq,Exit.then,if_true]
 refine aR rfl rfl ?_;try simp only[zD,zE]
 exact⟨_,rfl,m.ext,rfl⟩
theorem ama{p:P3}:sE prog 278 [pt p] (.int .i64 p.z):=by
 intro w;refine⟨agh,?_⟩;have m:=iJ.refl w
 go_enter func278,ntmps278
 refine bA fun K1 k1=>ap (oF m rfl ?_);clear m;intro g1 u m;refine aC aM (aK (k1 _ _ ?_));refine bA fun K2 k2=>ap (aC (aT (c:=0) underlying245 rfl aX rfl rfl) ?_);simp only[zz];refine aQ rfl ((m.b 0 rfl).lies1 bE rfl) ?_;simp only[zz];refine aC aM (aK (k2 _ _ ?_));refine iq ?_;simp only[zz];try simp only[cq,Exit.then,if_true]
 refine aR rfl rfl ?_;try simp only[zD,zE]
 exact⟨_,rfl,m.ext,rfl⟩
theorem akT  : sE prog 195 [] (.agg #[.func (.func 276) #[] #[],.func (.func 277) #[] #[],.func (.func 278) #[] #[]]):=by
 intro w;refine⟨agd,?_⟩;have m:=iJ.refl w
 go_enter func195,ntmps195
 refine bA fun K1 k1=>ap (aks m Za rfl ?_);clear m;intro g1 u m;refine aK (k1 _ _ ?_);refine bA fun K2 k2=>ap (aC (Gd rfl rfl rfl) ?_);simp only[zz];refine agX m 0 rfl rfl rfl Iy (iS rfl) rfl ?_;clear m;intro u m;simp only[zy,zx,cA,zF,zG,aa] at m;refine aK (k2 _ _ ?_);refine iq ?_;try simp only[cq,Exit.then,if_true]
 refine aR rfl ⟨_,rfl,((m.b 0 rfl).full adh Iy)⟩ ?_;try simp only[zD,zE]
 exact⟨_,rfl,m.ext,rfl⟩
theorem sX{p q:P3}:sE prog 130 [pt p,pt q] (.bool (decide (p.Lt q))):=by
 intro w;refine⟨amY,?_⟩;have m:=iJ.refl w
 go_enter func130,ntmps130
 refine bA fun K1 k1=>ap (oF m rfl ?_);clear m;intro g1 u m;simp only[zz];refine oF m rfl ?_;clear m;intro g2 u m;refine aC aM (aK (k1 _ _ ?_));refine bA fun K2 k2=>bA fun K3 k3=>ap ?_;simp only[zz];refine Mp m rfl rfl akT ?_;clear m;intro u m;refine aC aH (aK (k3 _ _ ?_));refine jc (ny 4 (Ai (bA fun K4 k4=>ap (aC (qH (m:=0) (n:=3) rfl rfl (by decide)) (aK (k4 _ _ ?_))))));refine bA fun K5 k5=>yZ rfl (jf (k5 _ _ ?_));refine bA fun K6 k6=>jc (bA fun K7 k7=>ap (aC (Eb rfl rfl) ?_));simp only[zz];refine aC aM (aK (k7 _ _ ?_));refine bA fun K8 k8=>?_;simp only[zz];refine Gmq m aB (by kernel_rfl) (aJ aH ?_);simp only[zz];refine Rt rfl (fun u m=>((m.b 1 rfl).full aG aA)) ?_;simp only[zz];refine Gp rfl rfl al8 (aJ aH ?_);simp only[zz];refine Rt rfl (fun u m=>((m.b 0 rfl).full aG aA)) ?_;simp only[zz];refine Gp rfl rfl al8 (aJ aM (aJ aM (bD ?_)));clear m;intro u m;refine k8 _ _ ?_;refine bA fun K9 k9=>ap (aC aH ?_);simp only[zz];refine aC aH (aC (qA rfl rfl) (aK (k9 _ _ ?_)));simp only[zz];refine bG rfl (fun hc2=>?_) (fun hc2=>?_)
 ·
  refine bA fun K10 k10=>ap (aC aH (aC aH (aC (rA rfl rfl) (aC aM ?_))));simp only[zz];refine aK (k10 _ _ ?_);refine iq ?_;try simp only[cq,Exit.then,if_true]
  refine aR rfl rfl ?_;try simp only[zD,zE]
  exact⟨_,rfl,m.ext,by simp only[P3.lt_x hc2]⟩
 ·
  have ex:p.x=q.x:=by omega
  refine jf (k6 _ _ ?_);refine ap (aC (jL (m:=0) (n:=1) (r:=1) rfl rfl (by decide)) (aC aH (aK (lC (bA fun K11 k11=>ap (aC (qH (m:=1) (n:=3) rfl rfl (by decide)) (aK (k11 _ _ ?_))))))));refine bA fun K12 k12=>yZ rfl (jf (k12 _ _ ?_));refine bA fun K13 k13=>jc (bA fun K14 k14=>ap (aC (Ec rfl rfl) ?_));simp only[zz];refine aC aM (aK (k14 _ _ ?_));refine bA fun K15 k15=>?_;simp only[zz];refine Gmq m aB (by kernel_rfl) (aJ aH ?_);simp only[zz];refine Rt rfl (fun u m=>((m.b 1 rfl).full aG aA)) ?_;simp only[zz];refine Gp rfl rfl al9 (aJ aH ?_);simp only[zz];refine Rt rfl (fun u m=>((m.b 0 rfl).full aG aA)) ?_;simp only[zz];refine Gp rfl rfl al9 (aJ aM (aJ aM (bD ?_)));clear m;intro u m;refine k15 _ _ ?_;refine bA fun K16 k16=>ap (aC aH ?_);simp only[zz];refine aC aH (aC (qA rfl rfl) (aK (k16 _ _ ?_)));simp only[zz];refine bG rfl (fun hc2=>?_) (fun hc2=>?_)
  ·
   refine bA fun K17 k17=>ap (aC aH (aC aH (aC (rA rfl rfl) (aC aM ?_))));simp only[zz];refine aK (k17 _ _ ?_);refine iq ?_;try simp only[cq,Exit.then,if_true]
   refine aR rfl rfl ?_;try simp only[zD,zE]
   exact⟨_,rfl,m.ext,by simp only[P3.lt_y ex hc2]⟩
  ·
   have ey:p.y=q.y:=by omega
   refine jf (k13 _ _ ?_);refine ap (aC (jL (m:=1) (n:=1) (r:=2) rfl rfl (by decide)) (aC aH (aK (lC (bA fun K18 k18=>ap (aC (qH (m:=2) (n:=3) rfl rfl (by decide)) (aK (k18 _ _ ?_))))))));refine bA fun K19 k19=>yZ rfl (jf (k19 _ _ ?_));refine bA fun K20 k20=>jc (bA fun K21 k21=>ap (aC (Ed rfl rfl) ?_));simp only[zz];refine aC aM (aK (k21 _ _ ?_));refine bA fun K22 k22=>?_;simp only[zz];refine Gmq m aB (by kernel_rfl) (aJ aH ?_);simp only[zz];refine Rt rfl (fun u m=>((m.b 1 rfl).full aG aA)) ?_;simp only[zz];refine Gp rfl rfl ama (aJ aH ?_);simp only[zz];refine Rt rfl (fun u m=>((m.b 0 rfl).full aG aA)) ?_;simp only[zz];refine Gp rfl rfl ama (aJ aM (aJ aM (bD ?_)));clear m;intro u m;refine k22 _ _ ?_;refine bA fun K23 k23=>ap (aC aH ?_);simp only[zz];refine aC aH (aC (qA rfl rfl) (aK (k23 _ _ ?_)));simp only[zz];refine bG rfl (fun hc2=>?_) (fun hc2=>?_)
   ·
    refine bA fun K24 k24=>ap (aC aH (aC aH (aC (rA rfl rfl) (aC aM ?_))));simp only[zz];refine aK (k24 _ _ ?_);refine iq ?_;try simp only[cq,Exit.then,if_true]
    refine aR rfl rfl ?_;try simp only[zD,zE]
    exact⟨_,rfl,m.ext,by simp only[P3.lt_z ex ey]⟩
   ·
    have ez:p.z=q.z:=by omega
    refine jf (k20 _ _ ?_);refine ap (aC (jL (m:=2) (n:=1) (r:=3) rfl rfl (by decide)) (aC aH (aK (lC (bA fun K25 k25=>ap (aC (Ei (m:=3) (n:=3) rfl rfl (by decide)) (aK (k25 _ _ ?_))))))));refine bA fun K26 k26=>aej rfl (wp_exit (k2 _ _ ?_));refine bA fun K27 k27=>ap (aC aM ?_);simp only[zz];refine aK (k27 _ _ ?_);refine iq ?_;try simp only[cq,Exit.then,if_true]
    refine aR rfl rfl ?_;try simp only[zD,zE]
    exact⟨_,rfl,m.ext,by rw[decide_eq_false (fun h=>by unfold P3.Lt at h;omega)]⟩
theorem Cw{p q:P3}:sE prog 116 [pt p,pt q] (.int .i64 (pZ p q)):=by
 intro w;refine⟨amO,?_⟩;have m:=iJ.refl w
 go_enter func116,ntmps116
 refine bA fun K1 k1=>ap (oF m rfl ?_);clear m;intro g1 u m;simp only[zz];refine oF m rfl ?_;clear m;intro g2 u m;refine aC aM (aK (k1 _ _ ?_));refine bA fun K2 k2=>jc (bA fun K3 k3=>ap ?_);simp only[zz];refine aQ rfl ((m.b 1 rfl).full aG aA) ?_;simp only[zz];refine aQ rfl ((m.b 0 rfl).full aG aA) ?_;simp only[zz];refine Mp m rfl rfl sX ?_;clear m;intro u m;refine aC aM (aK (k3 _ _ ?_));simp only[zz];refine bG rfl (fun hc1=>?_) (fun hc1=>?_)
 ·
  refine bA fun K4 k4=>ap (aC aM (aK (k4 _ _ ?_)));refine iq ?_;simp only[zz];try simp only[cq,Exit.then,if_true]
  refine aR rfl rfl ?_;try simp only[zD,zE]
  exact⟨_,rfl,m.ext,by simp[pZ,hc1]⟩
 ·
  refine bA fun K5 k5=>ap (aQ rfl ((m.b 0 rfl).full aG aA) ?_);simp only[zz];refine aQ rfl ((m.b 1 rfl).full aG aA) ?_;simp only[zz];refine Mp m rfl rfl sX ?_;clear m;intro u m;refine aC aM (aK (k5 _ _ ?_));simp only[zz];refine bG rfl (fun hc2=>?_) (fun hc2=>?_)
  ·
   refine bA fun K6 k6=>ap (aC aM (aK (k6 _ _ ?_)));refine iq ?_;simp only[zz];try simp only[cq,Exit.then,if_true]
   refine aR rfl rfl ?_;try simp only[zD,zE]
   exact⟨_,rfl,m.ext,by simp[pZ,hc1,hc2]⟩
  ·
   refine jf (k2 _ _ ?_);refine bA fun K7 k7=>ap (aC aM (aK (k7 _ _ ?_)));refine iq ?_;simp only[zz];try simp only[cq,Exit.then,if_true]
   refine aR rfl rfl ?_;try simp only[zD,zE]
   exact⟨_,rfl,m.ext,by simp[pZ,hc1,hc2]⟩
end Go.Proofs.YtfekpcimgncioaaGreatDoor
namespace Go.Lith
open Go.RowKit
def ah6(P:bh)(f:FuncId)(args:List ah)(w:aj)(v:ah):Prop:=Entr P f∧Calls P f args.toArray w fun e w'=>∃u,e=.returned u∧GX w w'∧u=v
section
variable {P:bh} {ds:List cn} {l:List ah} {x y:bg} {T ty:an}
variable {ops:Array Oper} {Q:Exit→Act→aj→Prop} {rest:List Oper} {d:Nat} {pos:String} {after:Array Edge} {w w0:aj} {is:List It} {v:ah}
theorem ah7{E:an}{z:ah}(m:iJ w0 w is)(hu:P.underlying T=some (.slice E))(hi:(P.info? E).map (fun i=>(i.size,i.zero))=some (1,some z))(hz:z.cells = #[z]){v v2:ah}(hx:ev l x=v)(hv:v.cells = #[v])(hy:ev l y=v2)(hv2:v2.cells = #[v2])
 (h:∀g u,iJ w0 u (bI g [v,v2] E::is)→au P ops Q rest (Fr (l.set d (.slice (some ⟨g,0,none⟩) 2 2)) ds) u) :
 au P ops Q (bn (some d) (.buildSlice T 2 #[(0,x),(1,y)]) ty pos after none::rest) (Fr l ds) w:=by
 cases hq:P.info? E with
 | none=>rw[hq] at hi;cases hi
 | some i =>
  rw[hq] at hi;simp only[fa,fx,fp] at hi;obtain⟨e1,e2⟩:=hi;exact lY (w':=w.alloc (.cells #[v,v2] E)) (v:=.slice (some ⟨w.heap.size,0,none⟩) 2 2) (fun o ho _=>by simp[execOp,ho,Instr.buildSlice,bx hu,sizeOf,typeInfo,zeroValue,hq,e1,e2,hz,cJ,hx,hv,hy,hv2,Instr.fill,newRow,newObj,Sem.run,Fx]) (h _ _ (m.go (m.mem.newB ((fN.refl w).alloc _) (av _) (iZ w [v,v2] E)) (av _)))
theorem Xl(z v v2 v3:ah):(((Array.map (fun x=>[z][x%1]?.getD default) (Array.range 3)).setIfInBounds 0 v).setIfInBounds 1 v2).setIfInBounds 2 v3 = #[v,v2,v3]:=by
 apply Array.ext (by simp);intro i h1 h2;have h3:i<3:=by simpa using h2
 rcases Nat.lt_trichotomy i 1 with h | h | h
 · obtain rfl:i=0:=by omega
   simp
 · subst h
   simp
 · obtain rfl:i=2:=by omega
   simp
theorem aaB{E:an}{z:ah}{y3:bg}(m:iJ w0 w is)(hu:P.underlying T=some (.slice E))(hi:(P.info? E).map (fun i=>(i.size,i.zero))=some (1,some z))(hz:z.cells = #[z]){v v2 v3:ah}(hx:ev l x=v)(hv:v.cells = #[v])(hy:ev l y=v2)(hv2:v2.cells = #[v2])(hy3:ev l y3=v3)(hv3:v3.cells = #[v3])
 (h:∀g u,iJ w0 u (bI g [v,v2,v3] E::is)→au P ops Q rest (Fr (l.set d (.slice (some ⟨g,0,none⟩) 3 3)) ds) u) :
 au P ops Q (bn (some d) (.buildSlice T 3 #[(0,x),(1,y),(2,y3)]) ty pos after none::rest) (Fr l ds) w:=by
 cases hq:P.info? E with
 | none=>rw[hq] at hi;cases hi
 | some i =>
  rw[hq] at hi;simp only[fa,fx,fp] at hi;obtain⟨e1,e2⟩:=hi;exact lY (w':=w.alloc (.cells #[v,v2,v3] E)) (v:=.slice (some ⟨w.heap.size,0,none⟩) 3 3) (fun o ho _=>by simp[execOp,ho,Instr.buildSlice,bx hu,sizeOf,typeInfo,zeroValue,hq,e1,e2,hz,cJ,hx,hv,hy,hv2,hy3,hv3,Instr.fill,newRow,newObj,Sem.run,Xl]) (h _ _ (m.go (m.mem.newB ((fN.refl w).alloc _) (av _) (iZ w [v,v2,v3] E)) (av _)))
theorem Xm{f:FuncId}{fo:bg}{xs:Array bg}{args:List ah}{first cap:Array ah}{a0:Array an}(m:iJ w0 w is)(hf:ev l fo=.func (.func f) first cap)(hxs:first.toList++xs.toList.map (ev l)++cap.toList=args)(hc:ah6 P f args w v)
 (h:∀u,iJ w0 u is→au P ops Q rest (Fr (l.set d v) ds) u):au P ops Q (bn (some d) (.call { callee:=.value fo,args:=xs,argTypes:=a0 }) ty pos after none::rest) (Fr l ds) w:=by
 refine wpList_plain rfl fun K hK=>?_;unfold Oper.wp;rw[jV,oY hc.1 hf hxs _ rfl];refine hc.2.mono ?_;rintro e w' ⟨u,rfl,hE,rfl⟩;show K ((Fr l ds).put (some d) u) w'
 rw[iB];exact hK _ _ (h w' (m.ext' hE))
end
end Go.Lith
namespace Go.Proofs
open Go.Shelf
def Tryz.sort112_ren:Go.Shelf.Ren:=⟨fun | 6=>112 | 15=>181 | 14=>180 | 28=>254 | 29=>255 | 20=>246 | 21=>247 | 22=>248 | 23=>249 | 24=>250 | 25=>251 | 26=>252 | 27=>253 | 46=>309 | 47=>310 | 48=>311 | 49=>312 | 50=>313 | 57=>339 | n=>n,fun | 22=>27 | 24=>39 | 25=>162 | 3=>3 | 39=>141 | 0=>0 | 53=>297 | 55=>231 | 4=>4 | 46=>291 | 45=>290 | 50=>202 | 5=>5 | 9=>9 | 66=>343 | 70=>347 | 76=>369 | 77=>367 | n=>n,fun | n=>n⟩
theorem Tryz.sort112:Go.Proofs.SlLaysF0.n6 Tryz.prog Tryz.sort112_ren:={
 mixed:=by kernel_rfl
 f6:=⟨Tryz.f112.name,by decide,Tryz.func112.trans (congrArg some (by kernel_rfl))⟩
 f14:=⟨Tryz.f180.name,by decide,Tryz.func180.trans (congrArg some (by kernel_rfl))⟩
 f15:=Tryz.func181.trans (congrArg some (by kernel_rfl))
 f20:=⟨Tryz.f246.name,by decide,Tryz.func246.trans (congrArg some (by kernel_rfl))⟩
 f21:=⟨Tryz.f247.name,by decide,Tryz.func247.trans (congrArg some (by kernel_rfl))⟩
 f22:=⟨Tryz.f248.name,by decide,Tryz.func248.trans (congrArg some (by kernel_rfl))⟩
 f23:=⟨Tryz.f249.name,by decide,Tryz.func249.trans (congrArg some (by kernel_rfl))⟩
 f24:=⟨Tryz.f250.name,by decide,Tryz.func250.trans (congrArg some (by kernel_rfl))⟩
 f25:=⟨Tryz.f251.name,by decide,Tryz.func251.trans (congrArg some (by kernel_rfl))⟩
 f26:=⟨Tryz.f252.name,by decide,Tryz.func252.trans (congrArg some (by kernel_rfl))⟩
 f27:=⟨Tryz.f253.name,by decide,Tryz.func253.trans (congrArg some (by kernel_rfl))⟩
 f28:=Tryz.func254.trans (congrArg some (by kernel_rfl))
 f29:=Tryz.func255.trans (congrArg some (by kernel_rfl))
 f46:=⟨Tryz.f309.name,by decide,Tryz.func309.trans (congrArg some (by kernel_rfl))⟩
 f47:=Tryz.func310.trans (congrArg some (by kernel_rfl))
 f48:=Tryz.func311.trans (congrArg some (by kernel_rfl))
 f49:=⟨Tryz.f312.name,by decide,Tryz.func312.trans (congrArg some (by kernel_rfl))⟩
 f50:=⟨Tryz.f313.name,by decide,Tryz.func313.trans (congrArg some (by kernel_rfl))⟩
 f57:=⟨Tryz.f339.name,by decide,Tryz.func339.trans (congrArg some (by kernel_rfl))⟩
 t0:=Tryz.underlying0
 a0:=Tryz.isAgg0
 z0:=Tryz.sizeOf0
 v0:=Tryz.zeroValue0
 t3:=Tryz.underlying3
 a3:=Tryz.isAgg3
 z3:=Tryz.sizeOf3
 v3:=Tryz.zeroValue3
 t4:=Tryz.underlying4
 a4:=Tryz.isAgg4
 z4:=Tryz.sizeOf4
 v4:=Tryz.zeroValue4
 t5:=Tryz.underlying5
 a5:=Tryz.isAgg5
 z5:=Tryz.sizeOf5
 v5:=Tryz.zeroValue5
 t9:=Tryz.underlying9
 a9:=Tryz.isAgg9
 z9:=Tryz.sizeOf9
 v9:=Tryz.zeroValue9
 t22:=Tryz.underlying27
 a22:=Tryz.isAgg27
 z22:=Tryz.sizeOf27
 v22:=Tryz.zeroValue27
 t25:=Tryz.underlying162
 a25:=Tryz.isAgg162
 z25:=Tryz.sizeOf162
 v25:=Tryz.zeroValue162
 t39:=Tryz.underlying141
 a39:=Tryz.isAgg141
 z39:=Tryz.sizeOf141
 v39:=Tryz.zeroValue141
 t45:=Tryz.underlying290
 a45:=Tryz.isAgg290
 z45:=Tryz.sizeOf290
 v45:=Tryz.zeroValue290
 t46:=Tryz.underlying291
 a46:=Tryz.isAgg291
 z46:=Tryz.sizeOf291
 v46:=Tryz.zeroValue291
 t50:=Tryz.underlying202
 a50:=Tryz.isAgg202
 z50:=Tryz.sizeOf202
 v50:=Tryz.zeroValue202
 t53:=Tryz.underlying297
 a53:=Tryz.isAgg297
 z53:=Tryz.sizeOf297
 v53:=Tryz.zeroValue297
 t55:=Tryz.underlying231
 a55:=Tryz.isAgg231
 z55:=Tryz.sizeOf231
 v55:=Tryz.zeroValue231
 t66:=Tryz.underlying343
 a66:=Tryz.isAgg343
 z66:=Tryz.sizeOf343
 v66:=Tryz.zeroValue343
 t70:=Tryz.underlying347
 a70:=Tryz.isAgg347
 z70:=Tryz.sizeOf347
 v70:=Tryz.zeroValue347
 t76:=Tryz.underlying369
 a76:=Tryz.isAgg369
 z76:=Tryz.sizeOf369
 v76:=Tryz.zeroValue369
 t77:=Tryz.underlying367
 a77:=Tryz.isAgg367
 z77:=Tryz.sizeOf367
 v77:=Tryz.zeroValue367 }
def Tryz.sort123_ren:Go.Shelf.Ren:=⟨fun | 6=>123 | 15=>181 | 14=>190 | 28=>254 | 29=>255 | 20=>259 | 21=>260 | 22=>261 | 23=>262 | 24=>263 | 25=>264 | 26=>265 | 27=>266 | 46=>319 | 47=>310 | 48=>311 | 49=>320 | 50=>321 | 57=>343 | n=>n,fun | 22=>105 | 24=>112 | 25=>115 | 3=>3 | 39=>141 | 0=>0 | 53=>297 | 55=>231 | 4=>4 | 46=>291 | 45=>290 | 50=>202 | 5=>5 | 9=>9 | 66=>343 | 70=>347 | 76=>369 | 77=>367 | n=>n,fun | n=>n⟩
theorem Tryz.sort123:Go.Proofs.SlLaysF0.n6 Tryz.prog Tryz.sort123_ren:={
 mixed:=by kernel_rfl
 f6:=⟨Tryz.f123.name,by decide,Tryz.func123.trans (congrArg some (by kernel_rfl))⟩
 f14:=⟨Tryz.f190.name,by decide,Tryz.func190.trans (congrArg some (by kernel_rfl))⟩
 f15:=Tryz.func181.trans (congrArg some (by kernel_rfl))
 f20:=⟨Tryz.f259.name,by decide,Tryz.func259.trans (congrArg some (by kernel_rfl))⟩
 f21:=⟨Tryz.f260.name,by decide,Tryz.func260.trans (congrArg some (by kernel_rfl))⟩
 f22:=⟨Tryz.f261.name,by decide,Tryz.func261.trans (congrArg some (by kernel_rfl))⟩
 f23:=⟨Tryz.f262.name,by decide,Tryz.func262.trans (congrArg some (by kernel_rfl))⟩
 f24:=⟨Tryz.f263.name,by decide,Tryz.func263.trans (congrArg some (by kernel_rfl))⟩
 f25:=⟨Tryz.f264.name,by decide,Tryz.func264.trans (congrArg some (by kernel_rfl))⟩
 f26:=⟨Tryz.f265.name,by decide,Tryz.func265.trans (congrArg some (by kernel_rfl))⟩
 f27:=⟨Tryz.f266.name,by decide,Tryz.func266.trans (congrArg some (by kernel_rfl))⟩
 f28:=Tryz.func254.trans (congrArg some (by kernel_rfl))
 f29:=Tryz.func255.trans (congrArg some (by kernel_rfl))
 f46:=⟨Tryz.f319.name,by decide,Tryz.func319.trans (congrArg some (by kernel_rfl))⟩
 f47:=Tryz.func310.trans (congrArg some (by kernel_rfl))
 f48:=Tryz.func311.trans (congrArg some (by kernel_rfl))
 f49:=⟨Tryz.f320.name,by decide,Tryz.func320.trans (congrArg some (by kernel_rfl))⟩
 f50:=⟨Tryz.f321.name,by decide,Tryz.func321.trans (congrArg some (by kernel_rfl))⟩
 f57:=⟨Tryz.f343.name,by decide,Tryz.func343.trans (congrArg some (by kernel_rfl))⟩
 t0:=Tryz.underlying0
 a0:=Tryz.isAgg0
 z0:=Tryz.sizeOf0
 v0:=Tryz.zeroValue0
 t3:=Tryz.underlying3
 a3:=Tryz.isAgg3
 z3:=Tryz.sizeOf3
 v3:=Tryz.zeroValue3
 t4:=Tryz.underlying4
 a4:=Tryz.isAgg4
 z4:=Tryz.sizeOf4
 v4:=Tryz.zeroValue4
 t5:=Tryz.underlying5
 a5:=Tryz.isAgg5
 z5:=Tryz.sizeOf5
 v5:=Tryz.zeroValue5
 t9:=Tryz.underlying9
 a9:=Tryz.isAgg9
 z9:=Tryz.sizeOf9
 v9:=Tryz.zeroValue9
 t22:=Tryz.underlying105
 a22:=Tryz.isAgg105
 z22:=Tryz.sizeOf105
 v22:=Tryz.zeroValue105
 t25:=Tryz.underlying115
 a25:=Tryz.isAgg115
 z25:=Tryz.sizeOf115
 v25:=Tryz.zeroValue115
 t39:=Tryz.underlying141
 a39:=Tryz.isAgg141
 z39:=Tryz.sizeOf141
 v39:=Tryz.zeroValue141
 t45:=Tryz.underlying290
 a45:=Tryz.isAgg290
 z45:=Tryz.sizeOf290
 v45:=Tryz.zeroValue290
 t46:=Tryz.underlying291
 a46:=Tryz.isAgg291
 z46:=Tryz.sizeOf291
 v46:=Tryz.zeroValue291
 t50:=Tryz.underlying202
 a50:=Tryz.isAgg202
 z50:=Tryz.sizeOf202
 v50:=Tryz.zeroValue202
 t53:=Tryz.underlying297
 a53:=Tryz.isAgg297
 z53:=Tryz.sizeOf297
 v53:=Tryz.zeroValue297
 t55:=Tryz.underlying231
 a55:=Tryz.isAgg231
 z55:=Tryz.sizeOf231
 v55:=Tryz.zeroValue231
 t66:=Tryz.underlying343
 a66:=Tryz.isAgg343
 z66:=Tryz.sizeOf343
 v66:=Tryz.zeroValue343
 t70:=Tryz.underlying347
 a70:=Tryz.isAgg347
 z70:=Tryz.sizeOf347
 v70:=Tryz.zeroValue347
 t76:=Tryz.underlying369
 a76:=Tryz.isAgg369
 z76:=Tryz.sizeOf369
 v76:=Tryz.zeroValue369
 t77:=Tryz.underlying367
 a77:=Tryz.isAgg367
 z77:=Tryz.sizeOf367
 v77:=Tryz.zeroValue367 }
def Tryz.sort128_ren:Go.Shelf.Ren:=⟨fun | 6=>128 | 15=>181 | 14=>194 | 28=>254 | 29=>255 | 20=>268 | 21=>269 | 22=>270 | 23=>271 | 24=>272 | 25=>273 | 26=>274 | 27=>275 | 46=>322 | 47=>310 | 48=>311 | 49=>323 | 50=>324 | 57=>344 | n=>n,fun | 22=>65 | 24=>30 | 25=>123 | 3=>3 | 39=>141 | 0=>0 | 53=>297 | 55=>231 | 4=>4 | 46=>291 | 45=>290 | 50=>202 | 5=>5 | 9=>9 | 66=>343 | 70=>347 | 76=>369 | 77=>367 | n=>n,fun | n=>n⟩
theorem Tryz.sort128:Go.Proofs.SlLaysF0.n6 Tryz.prog Tryz.sort128_ren:={
 mixed:=by kernel_rfl
 f6:=⟨Tryz.f128.name,by decide,Tryz.func128.trans (congrArg some (by kernel_rfl))⟩
 f14:=⟨Tryz.f194.name,by decide,Tryz.func194.trans (congrArg some (by kernel_rfl))⟩
 f15:=Tryz.func181.trans (congrArg some (by kernel_rfl))
 f20:=⟨Tryz.f268.name,by decide,Tryz.func268.trans (congrArg some (by kernel_rfl))⟩
 f21:=⟨Tryz.f269.name,by decide,Tryz.func269.trans (congrArg some (by kernel_rfl))⟩
 f22:=⟨Tryz.f270.name,by decide,Tryz.func270.trans (congrArg some (by kernel_rfl))⟩
 f23:=⟨Tryz.f271.name,by decide,Tryz.func271.trans (congrArg some (by kernel_rfl))⟩
 f24:=⟨Tryz.f272.name,by decide,Tryz.func272.trans (congrArg some (by kernel_rfl))⟩
 f25:=⟨Tryz.f273.name,by decide,Tryz.func273.trans (congrArg some (by kernel_rfl))⟩
 f26:=⟨Tryz.f274.name,by decide,Tryz.func274.trans (congrArg some (by kernel_rfl))⟩
 f27:=⟨Tryz.f275.name,by decide,Tryz.func275.trans (congrArg some (by kernel_rfl))⟩
 f28:=Tryz.func254.trans (congrArg some (by kernel_rfl))
 f29:=Tryz.func255.trans (congrArg some (by kernel_rfl))
 f46:=⟨Tryz.f322.name,by decide,Tryz.func322.trans (congrArg some (by kernel_rfl))⟩
 f47:=Tryz.func310.trans (congrArg some (by kernel_rfl))
 f48:=Tryz.func311.trans (congrArg some (by kernel_rfl))
 f49:=⟨Tryz.f323.name,by decide,Tryz.func323.trans (congrArg some (by kernel_rfl))⟩
 f50:=⟨Tryz.f324.name,by decide,Tryz.func324.trans (congrArg some (by kernel_rfl))⟩
 f57:=⟨Tryz.f344.name,by decide,Tryz.func344.trans (congrArg some (by kernel_rfl))⟩
 t0:=Tryz.underlying0
 a0:=Tryz.isAgg0
 z0:=Tryz.sizeOf0
 v0:=Tryz.zeroValue0
 t3:=Tryz.underlying3
 a3:=Tryz.isAgg3
 z3:=Tryz.sizeOf3
 v3:=Tryz.zeroValue3
 t4:=Tryz.underlying4
 a4:=Tryz.isAgg4
 z4:=Tryz.sizeOf4
 v4:=Tryz.zeroValue4
 t5:=Tryz.underlying5
 a5:=Tryz.isAgg5
 z5:=Tryz.sizeOf5
 v5:=Tryz.zeroValue5
 t9:=Tryz.underlying9
 a9:=Tryz.isAgg9
 z9:=Tryz.sizeOf9
 v9:=Tryz.zeroValue9
 t22:=Tryz.underlying65
 a22:=Tryz.isAgg65
 z22:=Tryz.sizeOf65
 v22:=Tryz.zeroValue65
 t25:=Tryz.underlying123
 a25:=Tryz.isAgg123
 z25:=Tryz.sizeOf123
 v25:=Tryz.zeroValue123
 t39:=Tryz.underlying141
 a39:=Tryz.isAgg141
 z39:=Tryz.sizeOf141
 v39:=Tryz.zeroValue141
 t45:=Tryz.underlying290
 a45:=Tryz.isAgg290
 z45:=Tryz.sizeOf290
 v45:=Tryz.zeroValue290
 t46:=Tryz.underlying291
 a46:=Tryz.isAgg291
 z46:=Tryz.sizeOf291
 v46:=Tryz.zeroValue291
 t50:=Tryz.underlying202
 a50:=Tryz.isAgg202
 z50:=Tryz.sizeOf202
 v50:=Tryz.zeroValue202
 t53:=Tryz.underlying297
 a53:=Tryz.isAgg297
 z53:=Tryz.sizeOf297
 v53:=Tryz.zeroValue297
 t55:=Tryz.underlying231
 a55:=Tryz.isAgg231
 z55:=Tryz.sizeOf231
 v55:=Tryz.zeroValue231
 t66:=Tryz.underlying343
 a66:=Tryz.isAgg343
 z66:=Tryz.sizeOf343
 v66:=Tryz.zeroValue343
 t70:=Tryz.underlying347
 a70:=Tryz.isAgg347
 z70:=Tryz.sizeOf347
 v70:=Tryz.zeroValue347
 t76:=Tryz.underlying369
 a76:=Tryz.isAgg369
 z76:=Tryz.sizeOf369
 v76:=Tryz.zeroValue369
 t77:=Tryz.underlying367
 a77:=Tryz.isAgg367
 z77:=Tryz.sizeOf367
 v77:=Tryz.zeroValue367 }
def Tryz.sort237_ren:Go.Shelf.Ren:=⟨fun | 6=>237 | 15=>181 | 14=>297 | 28=>254 | 29=>255 | 20=>328 | 21=>329 | 22=>330 | 23=>331 | 24=>332 | 25=>333 | 26=>334 | 27=>335 | 46=>345 | 47=>310 | 48=>311 | 49=>346 | 50=>347 | 57=>350 | n=>n,fun | 22=>212 | 24=>215 | 25=>216 | 3=>3 | 39=>141 | 0=>0 | 53=>297 | 55=>231 | 4=>4 | 46=>291 | 45=>290 | 50=>202 | 5=>5 | 9=>9 | 66=>343 | 70=>347 | 76=>369 | 77=>367 | n=>n,fun | n=>n⟩
theorem Tryz.sort237:Go.Proofs.SlLaysF0.n6 Tryz.prog Tryz.sort237_ren:={
 mixed:=by kernel_rfl
 f6:=⟨Tryz.f237.name,by decide,Tryz.func237.trans (congrArg some (by kernel_rfl))⟩
 f14:=⟨Tryz.f297.name,by decide,Tryz.func297.trans (congrArg some (by kernel_rfl))⟩
 f15:=Tryz.func181.trans (congrArg some (by kernel_rfl))
 f20:=⟨Tryz.f328.name,by decide,Tryz.func328.trans (congrArg some (by kernel_rfl))⟩
 f21:=⟨Tryz.f329.name,by decide,Tryz.func329.trans (congrArg some (by kernel_rfl))⟩
 f22:=⟨Tryz.f330.name,by decide,Tryz.func330.trans (congrArg some (by kernel_rfl))⟩
 f23:=⟨Tryz.f331.name,by decide,Tryz.func331.trans (congrArg some (by kernel_rfl))⟩
 f24:=⟨Tryz.f332.name,by decide,Tryz.func332.trans (congrArg some (by kernel_rfl))⟩
 f25:=⟨Tryz.f333.name,by decide,Tryz.func333.trans (congrArg some (by kernel_rfl))⟩
 f26:=⟨Tryz.f334.name,by decide,Tryz.func334.trans (congrArg some (by kernel_rfl))⟩
 f27:=⟨Tryz.f335.name,by decide,Tryz.func335.trans (congrArg some (by kernel_rfl))⟩
 f28:=Tryz.func254.trans (congrArg some (by kernel_rfl))
 f29:=Tryz.func255.trans (congrArg some (by kernel_rfl))
 f46:=⟨Tryz.f345.name,by decide,Tryz.func345.trans (congrArg some (by kernel_rfl))⟩
 f47:=Tryz.func310.trans (congrArg some (by kernel_rfl))
 f48:=Tryz.func311.trans (congrArg some (by kernel_rfl))
 f49:=⟨Tryz.f346.name,by decide,Tryz.func346.trans (congrArg some (by kernel_rfl))⟩
 f50:=⟨Tryz.f347.name,by decide,Tryz.func347.trans (congrArg some (by kernel_rfl))⟩
 f57:=⟨Tryz.f350.name,by decide,Tryz.func350.trans (congrArg some (by kernel_rfl))⟩
 t0:=Tryz.underlying0
 a0:=Tryz.isAgg0
 z0:=Tryz.sizeOf0
 v0:=Tryz.zeroValue0
 t3:=Tryz.underlying3
 a3:=Tryz.isAgg3
 z3:=Tryz.sizeOf3
 v3:=Tryz.zeroValue3
 t4:=Tryz.underlying4
 a4:=Tryz.isAgg4
 z4:=Tryz.sizeOf4
 v4:=Tryz.zeroValue4
 t5:=Tryz.underlying5
 a5:=Tryz.isAgg5
 z5:=Tryz.sizeOf5
 v5:=Tryz.zeroValue5
 t9:=Tryz.underlying9
 a9:=Tryz.isAgg9
 z9:=Tryz.sizeOf9
 v9:=Tryz.zeroValue9
 t22:=Tryz.underlying212
 a22:=Tryz.isAgg212
 z22:=Tryz.sizeOf212
 v22:=Tryz.zeroValue212
 t25:=Tryz.underlying216
 a25:=Tryz.isAgg216
 z25:=Tryz.sizeOf216
 v25:=Tryz.zeroValue216
 t39:=Tryz.underlying141
 a39:=Tryz.isAgg141
 z39:=Tryz.sizeOf141
 v39:=Tryz.zeroValue141
 t45:=Tryz.underlying290
 a45:=Tryz.isAgg290
 z45:=Tryz.sizeOf290
 v45:=Tryz.zeroValue290
 t46:=Tryz.underlying291
 a46:=Tryz.isAgg291
 z46:=Tryz.sizeOf291
 v46:=Tryz.zeroValue291
 t50:=Tryz.underlying202
 a50:=Tryz.isAgg202
 z50:=Tryz.sizeOf202
 v50:=Tryz.zeroValue202
 t53:=Tryz.underlying297
 a53:=Tryz.isAgg297
 z53:=Tryz.sizeOf297
 v53:=Tryz.zeroValue297
 t55:=Tryz.underlying231
 a55:=Tryz.isAgg231
 z55:=Tryz.sizeOf231
 v55:=Tryz.zeroValue231
 t66:=Tryz.underlying343
 a66:=Tryz.isAgg343
 z66:=Tryz.sizeOf343
 v66:=Tryz.zeroValue343
 t70:=Tryz.underlying347
 a70:=Tryz.isAgg347
 z70:=Tryz.sizeOf347
 v70:=Tryz.zeroValue347
 t76:=Tryz.underlying369
 a76:=Tryz.isAgg369
 z76:=Tryz.sizeOf369
 v76:=Tryz.zeroValue369
 t77:=Tryz.underlying367
 a77:=Tryz.isAgg367
 z77:=Tryz.sizeOf367
 v77:=Tryz.zeroValue367 }
end Go.Proofs
namespace Go.Proofs.YtfekpcimgncioaaGreatDoor
open Go.Proofs.Tryz
open Go.RowKit Go.Lith
set_option maxRecDepth 100000
attribute [local irreducible] au cg fR bO cO Code.wp
attribute [local congr] pL fX fY fZ gA gB kI gC gD gE gF gG gH gI gJ gK gL gM eS eT gN gQ gS gT gU kK dC dD cR dB gR kJ eV eW eX gW gX kL
theorem fT:rY prog 30 pt:=by
 refine rY.agg (cs:=fun p=>#[.int .i64 p.x,.int .i64 p.y,.int .i64 p.z]) (fun _=>rfl) fJ (fun e p=>?_) (fun p q=>?_) (fun p=>?_)
 ·
  refine vR.struct (d:=9999) fJ fun f hf=>?_;simp only[ao,bz,or_false] at hf;rcases hf with rfl | rfl | rfl <;> exact⟨_,cW bE rfl,vR.int (d:=9998) iW⟩
 · exact (oC 9998).iff ⟨fun h=>P3.eq h.1 h.2.1 h.2.2,fun h=>by subst h;exact⟨rfl,rfl,rfl⟩⟩
 · simp[pt,Instr.sameBits]
theorem acx{w0 w:aj}{is:List It}{g c:Nat}{es:Array b_}{D:List (P3 × Bool)}{p:P3}(m:Mem w0 w is)(k:Nat)(hk:is[k]? = some (mI g es c))(hD1:bL pt bw D es c):Calls prog 114 [.map (some g),pt p].toArray w fun e w'=>∃v i,e=.returned v∧Mem w0 w' (is.set k i)∧(v=.bool (!(cI D p).getD false)∧∃es' c',i=mI g es' c'∧bL pt bw (fG D p true) es' c'):=by
 go_enter func114,ntmps114
 refine eC 10 [0,0] m ?_;simp only[↓aD,aO];intro g1;intro u m;refine fF (dZ (ek:=pt) (en:=bw) (k:=p) (v0:=false) underlying163 oB fT rfl rfl (m.p (k+1) hk) hD1) ?_;simp only[zz];refine aS 1 [0] m ?_;simp only[↓aD];intro u m;refine cN rfl (fun hc1=>?_) (fun hc1=>?_)
 ·
  refine aW 5 [] m ?_;simp only[↓aD];intro u m;refine aR rfl rfl ?_;try simp only[zD,zE]
  exact⟨_,mI g es c,rfl,by rw[Ot hk];exact m.tl,by rw[hc1];rfl,es,c,rfl,by rw[Jl (by cases hq:cI D p with | none=>rw[hq] at hc1;cases hc1 | some x=>rw[hq] at hc1;exact congrArg some hc1)];exact hD1⟩
 ·
  refine aW 5 [0,0] m ?_;simp only[↓aD,aO];intro u m;refine mY (ek:=pt) (en:=bw) (a:=p) (v:=true) m (k+1) hk underlying163 fT rfl rfl rfl hD1 ?_;clear m;intro es1 c1 u m hD';clear hD1;have hD1:=hD';clear hD';simp only[zF,zG] at m;refine aS 6 [] m ?_;simp only[↓aD];intro u m;refine aR rfl rfl ?_;try simp only[zD,zE]
  exact⟨_,_,rfl,m.tl,by rw[hc1];rfl,_,_,rfl,hD1⟩
theorem akU{w0 w:aj}{is:List It}{A:Option Addr}{n cap:Nat}{xs:List P3}(m:Mem w0 w is)(k:Nat)(hi:is[k]? = some (oI 30 3 A n cap (xs.flatMap bN)))(hsz:n<4611686018427387904) :
 Calls prog 128 [.slice A n cap,.func (.func 116) #[] #[]].toArray w fun e w'=>∃v i,e=.returned v∧Mem w0 w' (is.set k i)∧(v=.tuple #[]∧∃ys:List P3,i=oI 30 3 A n cap (ys.flatMap bN)∧ys.Perm xs∧ys.Pairwise fun a b=>ltOf pZ b a=false) :=
 Au (enc:=bN) Tryz.sort128 (fun w=>oZ aG w) (fun w=>eH aA w) (fun _=>rfl) (by decide) Li pZ aab (fun x y=>Cw) m k hi hsz
theorem afc{g c:Nat}{es:Array b_}{D:List (P3 × Bool)}(w:aj)(hM:iX w g es c)(hD:bL pt bw D es c)(hl:D.length≤1000000):dJ prog 115 [.map (some g),.func (.func 116) #[] #[]] w (OR 30 3 (fun xs=>∃ps:List P3,xs=ps.flatMap bN∧ps.Perm (D.map (·.1))∧ps.Pairwise fun a b=>¬b.Lt a) w):=by
 refine⟨amN,?_⟩;have m:=Mem.refl w
 go_enter func115,ntmps115
 refine eC 6 [0] m ?_;simp only[↓aD];intro u m;refine aC aM ?_;replace m:=m.nilO 30 3;refine aS 5 [0] m ?_;simp only[↓aD];intro u m;refine vJ m underlying163 rfl (hM.ext m.ext) ?_;clear m;intro r1 u m;refine aS 2 [0] m ?_;simp only[↓aD];intro u m;refine cE [5] [6,9,10,11,12,13,14,15,16] (fun n vs wl=>∃(dn rs:List (P3 × Bool)) (A1:Option Addr) (n1 cap1:Nat) (sn:Array Nat),vs=[.slice A1 n1 cap1]∧Mem w wl [iI r1 g c sn,oI 30 3 A1 n1 cap1 ((dn.map (·.1)).flatMap bN)]∧(nQ pt bw D es sn dn rs)∧(n1=dn.length)∧(n=rs.length)) ?_ ?_
 ·
  apply Exists.intro;simp only[zQ,zR,zD,zE];exact⟨[],D,none,0,0,#[],rfl,m,nQ.start hD,rfl,rfl⟩
 ·
  intro n vs wr hI u K1 hK1;clear m;obtain⟨dn,rs,A1,n1,cap1,sn,rfl,m,hT,hn1,hn⟩:=hI;have hlen:=hT.len;simp only[zu,zF,zG];refine aW 2 [0] m ?_;simp only[↓aD];intro u m;refine Lh m 0 rfl rfl (hM.ext m.ext) hD hT ?_;clear m;intro bb kk vv sn u m hN;simp only[zF,zG] at m;refine aC (pP rfl) (aS 2 [0] m ?_);simp only[↓aD];intro u m;refine cN rfl (fun hc1=>?_) (fun hc1=>?_)
  ·
   obtain⟨kp,kb,rs2,hp,hT2⟩:=Gs hc1 hN;refine aW 4 [0] m ?_;simp only[↓aD];intro u m;refine fF (sT rfl (m.r 0 rfl) (hM.ext m.ext) hD hT2) ?_;simp only[zz];refine aS 7 [0,0,0] m ?_;simp only[↓aD,eY,aO,aa];intro g2;intro u m;refine kY rfl ?_;intro u g3 e hg hB;replace m:=m.newB e hg hB;clear e hg hB;simp only[zz];refine bQ m 3 rfl rfl cX nG rfl (by decide) rfl rfl rfl (m.b 0 rfl).rowsO (fW rfl) (by omega) (by omega) ?_;clear m;intro A1 cap1 u m;simp only[zF,zG] at m;refine aS 3 [0] m ?_;simp only[↓aD];intro u m;refine hK1 rs2.length _ _ ?_ ?_ ?_
   · rw[hn,hp.length_eq];exact el _
   · simp only[zz,zv]
   ·
    simp only[zQ,zR,zD,zE];exact⟨dn++[(kp,kb)],rs2,_,_,_,_,rfl,((m.reO 3 rfl ((m.o 3 rfl).as (by simp[bN]))).sel [false,false,true,true]),hT2,by simp[hn1],rfl⟩
  ·
   obtain rfl:=Gr hc1 hN;refine aW 5 [0] m ?_;simp only[↓aD];intro u m;refine lZ m 1 abv rfl rfl (fun m=>akU m 1 rfl (by omega)) ?_;clear m;rintro v i u m ⟨rfl,ys,rfl,hys,hso⟩;simp only[zF,zG] at m;refine aS 7 [] m ?_;simp only[↓aD];intro u m;refine aR rfl rfl ?_;try simp only[zD,zE]
   exact⟨_,rfl,m.ext,_,_,_,_,rfl,(m.o 1 rfl),_,rfl,hys.trans (hT.done.map _),hso.imp fun h=>by simpa[ltOf,lP] using h⟩
theorem Bn:rY prog 215 ed:=by
 refine rY.agg (cs:=fun p=>#[.int .i64 p.1.x,.int .i64 p.1.y,.int .i64 p.1.z,.int .i64 p.2.x,.int .i64 p.2.y,.int .i64 p.2.z]) (fun _=>rfl) tL (fun e p=>?_) (fun p q=>?_) (fun p=>?_)
 ·
  refine vR.struct (d:=9999) tL fun f hf=>?_;simp only[ao,bz,or_false] at hf;rcases hf with rfl | rfl
  ·
   refine⟨_,cQ aG aA rfl,?_⟩;refine vR.struct (d:=9998) fJ fun f hf=>?_;simp only[ao,bz,or_false] at hf;rcases hf with rfl | rfl | rfl
   · exact⟨_,cW bE rfl,vR.int (d:=9997) iW⟩
   · exact⟨_,cW bE rfl,vR.int (d:=9997) iW⟩
   · exact⟨_,cW bE rfl,vR.int (d:=9997) iW⟩
  ·
   refine⟨_,cQ aG aA rfl,?_⟩;refine vR.struct (d:=9998) fJ fun f hf=>?_;simp only[ao,bz,or_false] at hf;rcases hf with rfl | rfl | rfl
   · exact⟨_,cW bE rfl,vR.int (d:=9997) iW⟩
   · exact⟨_,cW bE rfl,vR.int (d:=9997) iW⟩
   · exact⟨_,cW bE rfl,vR.int (d:=9997) iW⟩
 · exact (aj1 _).iff ⟨fun h=>Prod.ext (P3.eq h.1 h.2.1 h.2.2.1) (P3.eq h.2.2.2.1 h.2.2.2.2.1 h.2.2.2.2.2),fun h=>by subst h;simp only[and_self]⟩
 · simp[ed,Instr.sameBits]
theorem aso{x y:Int}{g1:Nat}(w:aj)(hB1:fK w g1 [.int .i64 x,.int .i64 y] 3):ah6 prog 125 [.slice (some ⟨g1,0,none⟩) 2 2] w (.int .i64 (if x=0 then y else x)):=by
 refine⟨agb,?_⟩;have m:=iJ.refl w
 go_enter func125,ntmps125
 refine bA fun K1 k1=>ap (aC aM (aK (k1 _ _ ?_)));refine bA fun K2 k2=>ap (aC aM (aK (k2 _ _ ?_)));refine bA fun K3 k3=>bA fun K4 k4=>ap (aC aH (aC (Ip rfl eA rfl) ?_));simp only[zz];refine aC aH (aK (k4 _ _ ?_));refine jc (ny 3 (Ai (bA fun K5 k5=>ap (aC (qH (m:=0) (n:=2) rfl rfl (by decide)) (aK (k5 _ _ ?_))))));refine bA fun K6 k6=>yZ rfl (jf (k6 _ _ ?_));refine bA fun K7 k7=>jc (bA fun K8 k8=>ap ?_);simp only[zz];refine aC (aF eA aX rfl rfl (by decide) (by omega) rfl) ?_;simp only[zz];refine aQ rfl ((hB1.ext m.ext.ext).lies1 bE rfl) ?_;simp only[zz];refine aC aM (aK (k8 _ _ ?_));refine bA fun K9 k9=>ap (aC aH (aC aH (aC (qA rfl rfl) ?_)));simp only[zz];refine aK (k9 _ _ ?_);refine bG rfl (fun hc2=>?_) (fun hc2=>?_)
 ·
  refine bA fun K10 k10=>ap (aC aH (aC aM (aK (k10 _ _ ?_))));refine iq ?_;simp only[zz];try simp only[cq,Exit.then,if_true]
  refine aR rfl rfl ?_;try simp only[zD,zE]
  exact⟨_,rfl,m.ext,by rw[if_neg hc2]⟩
 ·
  have hx:x=0:=by omega
  refine jf (k7 _ _ ?_);refine ap (aC (jL (m:=0) (n:=1) (r:=1) rfl rfl (by decide)) (aC aH (aK (lC (bA fun K11 k11=>ap (aC (qH (m:=1) (n:=2) rfl rfl (by decide)) (aK (k11 _ _ ?_))))))));refine bA fun K12 k12=>yZ rfl (jf (k12 _ _ ?_));refine bA fun K13 k13=>jc (bA fun K14 k14=>ap ?_);simp only[zz];refine aC (aF eA aX rfl rfl (by decide) (by omega) rfl) ?_;simp only[zz];refine aQ rfl ((hB1.ext m.ext.ext).lies1 bE rfl) ?_;simp only[zz];refine aC aM (aK (k14 _ _ ?_));refine bA fun K15 k15=>ap (aC aH (aC aH (aC (qA rfl rfl) ?_)));simp only[zz];refine aK (k15 _ _ ?_);refine bG rfl (fun hc2=>?_) (fun hc2=>?_)
  ·
   refine bA fun K16 k16=>ap (aC aH (aC aM (aK (k16 _ _ ?_))));refine iq ?_;simp only[zz];try simp only[cq,Exit.then,if_true]
   refine aR rfl rfl ?_;try simp only[zD,zE]
   exact⟨_,rfl,m.ext,by rw[if_pos hx]⟩
  ·
   have hy:y=0:=by omega
   refine jf (k13 _ _ ?_);refine ap (aC (jL (m:=1) (n:=1) (r:=2) rfl rfl (by decide)) (aC aH (aK (lC (bA fun K17 k17=>ap (aC (Ei (m:=2) (n:=2) rfl rfl (by decide)) (aK (k17 _ _ ?_))))))));refine bA fun K18 k18=>aej rfl (wp_exit (k3 _ _ ?_));refine bA fun K19 k19=>ap (aC aH ?_);simp only[zz];refine aC aM (aK (k19 _ _ ?_));refine iq ?_;simp only[zz];try simp only[cq,Exit.then,if_true]
   refine aR rfl rfl ?_;try simp only[zD,zE]
   exact⟨_,rfl,m.ext,by rw[if_pos hx,hy]⟩
def afd(a b:E3):Int:=if pZ a.1 b.1=0 then pZ a.2 b.2 else pZ a.1 b.1
theorem nA{p q:P3}:pZ p q=0↔p=q:=by
 unfold pZ;rcases P3.lt_tri p q with h | h | h
 · rw[if_pos h];exact⟨fun e=>(by cases e),fun e=>absurd (e▸h) (P3.lt_irrefl _)⟩
 · subst h;rw[if_neg (P3.lt_irrefl _),if_neg (P3.lt_irrefl _)];exact⟨fun _=>rfl,fun _=>rfl⟩
 · rw[if_neg (fun k=>P3.lt_irrefl _ (P3.lt_trans h k)),if_pos h];exact⟨fun e=>(by cases e),fun e=>absurd (e▸h) (P3.lt_irrefl _)⟩
theorem Hq(a b:E3):(afd a b<0)↔Lm a b:=by
 unfold afd Lm;split
 ·
  rename_i h;have h':=nA.1 h;rw[lP];exact⟨fun k=>.inr ⟨h',k⟩,fun k=>k.elim (fun k=>absurd (h'▸k) (P3.lt_irrefl _)) fun k=>k.2⟩
 ·
  rename_i h;rw[lP];exact⟨.inl,fun k=>k.elim id fun k=>absurd (nA.2 k.1) h⟩
instance:Inhabited E3:=⟨(⟨0,0,0⟩,⟨0,0,0⟩)⟩
theorem ah8:Go.Sort.SWO (Go.Proofs.ltOf afd) where
 irrefl a:=by simp only[Go.Proofs.ltOf,decide_eq_false_iff_not,Hq];exact Lm.irrefl a
 trans x y z h1 h2:=by
  simp only[Go.Proofs.ltOf,decide_eq_true_eq,Hq] at *
  exact h1.trans h2
 ntrans x y z h1 h2:=by
  simp only[Go.Proofs.ltOf,decide_eq_false_iff_not,Hq] at *
  intro h;rcases Lm.tri y x with k | k | k
  · exact absurd (k.trans h) (by first | exact h2 | exact h1)
  · subst k;first | exact h2 h | exact h1 h
  · first | exact h1 k | exact h2 k
theorem akV{p q:E3}:sE prog 168 [ed p,ed q] (.int .i64 (afd p q)):=by
 intro w;refine⟨anb,?_⟩;have m:=iJ.refl w
 go_enter func168,ntmps168
 refine bA fun K1 k1=>ap (oF m rfl ?_);clear m;intro g1 u m;simp only[zz];refine oF m rfl ?_;clear m;intro g2 u m;refine aC aM (aK (k1 _ _ ?_));refine bA fun K2 k2=>?_;simp only[zz];refine Oj m 10 aB (by kernel_rfl) ?_;simp only[zy];refine aJ (aT (c:=2) tL rfl aA rfl rfl) ?_;simp only[zz];refine Rt rfl (fun u m=>((m.b 1 rfl).lies aG aA rfl rfl)) ?_;simp only[zz,zy,ar,aa,ag,ad];refine aJ (aT (c:=2) tL rfl aA rfl rfl) ?_;simp only[zz];refine Rt rfl (fun u m=>((m.b 0 rfl).lies aG aA rfl rfl)) ?_;simp only[zz,zy,ar,aa,ag,ad];refine Gp rfl rfl (Cw (p:=p.1) (q:=q.1)) (aJ (aT (c:=2) tL rfl aA rfl rfl) ?_);simp only[zz];refine Rt rfl (fun u m=>((m.b 1 rfl).lies aG aA rfl rfl)) ?_;simp only[zz,zy,ar,aa,ag,ad];refine aJ (aT (c:=2) tL rfl aA rfl rfl) ?_;simp only[zz];refine Rt rfl (fun u m=>((m.b 0 rfl).lies aG aA rfl rfl)) ?_;simp only[zz,zy,ar,aa,ag,ad];refine Gp rfl rfl (Cw (p:=p.2) (q:=q.2)) (bD ?_);clear m;intro u m;simp only[zz];refine ah7 m eA (z:=.int .i64 0) (by kernel_rfl) rfl rfl rfl rfl rfl ?_;clear m;intro g3 u m;simp only[zz];refine Xm m rfl rfl (aso _ (m.b 0 rfl)) ?_;clear m;intro u m;refine aC aM (aK (k2 _ _ ?_));refine iq ?_;simp only[zz];try simp only[cq,Exit.then,if_true]
 refine aR rfl rfl ?_;try simp only[zD,zE]
 exact⟨_,rfl,m.ext,rfl⟩
theorem Xn{w0 w:aj}{is:List It}{g c:Nat}{es:Array b_}{D:List (E3 × Bool)}{p:E3}(m:Mem w0 w is)(k:Nat)(hk:is[k]? = some (mI g es c))(hD1:bL ed bw D es c):Calls prog 235 [.map (some g),ed p].toArray w fun e w'=>∃v i,e=.returned v∧Mem w0 w' (is.set k i)∧(v=.bool (!(cI D p).getD false)∧∃es' c',i=mI g es' c'∧bL ed bw (fG D p true) es' c'):=by
 go_enter func235,ntmps235
 refine eC 10 [0,0] m ?_;simp only[↓aD,uF];intro g1;intro u m;refine fF (dZ (ek:=ed) (en:=bw) (k:=p) (v0:=false) underlying208 oB Bn rfl rfl (m.p (k+1) hk) hD1) ?_;simp only[zz];refine aS 1 [0] m ?_;simp only[↓aD];intro u m;refine cN rfl (fun hc1=>?_) (fun hc1=>?_)
 ·
  refine aW 5 [] m ?_;simp only[↓aD];intro u m;refine aR rfl rfl ?_;try simp only[zD,zE]
  exact⟨_,mI g es c,rfl,by rw[Ot hk];exact m.tl,by rw[hc1];rfl,es,c,rfl,by rw[Jl (by cases hq:cI D p with | none=>rw[hq] at hc1;cases hc1 | some x=>rw[hq] at hc1;exact congrArg some hc1)];exact hD1⟩
 ·
  refine aW 5 [0,0] m ?_;simp only[↓aD,uF];intro u m;refine mY (ek:=ed) (en:=bw) (a:=p) (v:=true) m (k+1) hk underlying208 Bn rfl rfl rfl hD1 ?_;clear m;intro es1 c1 u m hD';clear hD1;have hD1:=hD';clear hD';simp only[zF,zG] at m;refine aS 6 [] m ?_;simp only[↓aD];intro u m;refine aR rfl rfl ?_;try simp only[zD,zE]
  exact⟨_,_,rfl,m.tl,by rw[hc1];rfl,_,_,rfl,hD1⟩
theorem aaC(p:E3):∀v∈cT p,v.oneCell'=true:=fun v h=>by
 simp only[cT,ao,bz,or_false] at h;rcases h with rfl | rfl | rfl | rfl | rfl | rfl <;> rfl
theorem akW{w0 w:aj}{is:List It}{A:Option Addr}{n cap:Nat}{xs:List E3}(m:Mem w0 w is)(k:Nat)(hi:is[k]? = some (oI 215 6 A n cap (xs.flatMap cT)))(hsz:n<4611686018427387904) :
 Calls prog 237 [.slice A n cap,.func (.func 168) #[] #[]].toArray w fun e w'=>∃v i,e=.returned v∧Mem w0 w' (is.set k i)∧(v=.tuple #[]∧∃ys:List E3,i=oI 215 6 A n cap (ys.flatMap cT)∧ys.Perm xs∧ys.Pairwise fun a b=>ltOf afd b a=false) :=
 Au (enc:=cT) Tryz.sort237 (fun w=>oZ Ce w) (fun w=>eH qJ w) (fun _=>rfl) (by decide) aaC afd ah8 (fun x y=>akV) m k hi hsz
theorem afe{g c:Nat}{es:Array b_}{D:List (E3 × Bool)}(w:aj)(hM:iX w g es c)(hD:bL ed bw D es c)(hl:D.length≤100000000):dJ prog 167 [.map (some g),.func (.func 168) #[] #[]] w (OR 215 6 (fun xs=>∃ps:List E3,xs=ps.flatMap cT∧ps.Perm (D.map (·.1))∧ps.Pairwise fun a b=>¬Lm b a) w):=by
 refine⟨ana,?_⟩;have m:=Mem.refl w
 go_enter func167,ntmps167
 refine eC 6 [0] m ?_;simp only[↓aD];intro u m;refine aC aM ?_;replace m:=m.nilO 215 6;refine aS 5 [0] m ?_;simp only[↓aD];intro u m;refine vJ m underlying208 rfl (hM.ext m.ext) ?_;clear m;intro r1 u m;refine aS 2 [0] m ?_;simp only[↓aD];intro u m;refine cE [5] [6,9,10,11,12,13,14,15,16] (fun n vs wl=>∃(dn rs:List (E3 × Bool)) (A1:Option Addr) (n1 cap1:Nat) (sn:Array Nat),vs=[.slice A1 n1 cap1]∧Mem w wl [iI r1 g c sn,oI 215 6 A1 n1 cap1 ((dn.map (·.1)).flatMap cT)]∧(nQ ed bw D es sn dn rs)∧(n1=dn.length)∧(n=rs.length)) ?_ ?_
 ·
  apply Exists.intro;simp only[zQ,zR,zD,zE];exact⟨[],D,none,0,0,#[],rfl,m,nQ.start hD,rfl,rfl⟩
 ·
  intro n vs wr hI u K1 hK1;clear m;obtain⟨dn,rs,A1,n1,cap1,sn,rfl,m,hT,hn1,hn⟩:=hI;have hlen:=hT.len;simp only[zu,zF,zG];refine aW 2 [0] m ?_;simp only[↓aD];intro u m;refine Lh m 0 rfl rfl (hM.ext m.ext) hD hT ?_;clear m;intro bb kk vv sn u m hN;simp only[zF,zG] at m;refine aC (pP rfl) (aS 2 [0] m ?_);simp only[↓aD];intro u m;refine cN rfl (fun hc1=>?_) (fun hc1=>?_)
  ·
   obtain⟨kp,kb,rs2,hp,hT2⟩:=Gs hc1 hN;refine aW 4 [0] m ?_;simp only[↓aD];intro u m;refine fF (sT rfl (m.r 0 rfl) (hM.ext m.ext) hD hT2) ?_;simp only[zz];refine aS 7 [0,0,0] m ?_;simp only[↓aD,Bk,uF,aa];intro g2;intro u m;refine acs rfl ?_;intro u g3 e hg hB;replace m:=m.newB e hg hB;clear e hg hB;simp only[zz];refine bQ m 3 rfl rfl underlying212 ajY rfl (by decide) rfl rfl rfl (m.b 0 rfl).rowsO (fW rfl) (by omega) (by omega) ?_;clear m;intro A1 cap1 u m;simp only[zF,zG] at m;refine aS 3 [0] m ?_;simp only[↓aD];intro u m;refine hK1 rs2.length _ _ ?_ ?_ ?_
   · rw[hn,hp.length_eq];exact el _
   · simp only[zz,zv]
   ·
    simp only[zQ,zR,zD,zE];exact⟨dn++[(kp,kb)],rs2,_,_,_,_,rfl,((m.reO 3 rfl ((m.o 3 rfl).as (by simp[cT]))).sel [false,false,true,true]),hT2,by simp[hn1],rfl⟩
  ·
   obtain rfl:=Gr hc1 hN;refine aW 5 [0] m ?_;simp only[↓aD];intro u m;refine lZ m 1 anW rfl rfl (fun m=>akW m 1 rfl (by omega)) ?_;clear m;rintro v i u m ⟨rfl,ys,rfl,hys,hso⟩;simp only[zF,zG] at m;refine aS 7 [] m ?_;simp only[↓aD];intro u m;refine aR rfl rfl ?_;try simp only[zD,zE]
   exact⟨_,rfl,m.ext,_,_,_,_,rfl,(m.o 1 rfl),_,rfl,hys.trans (hT.done.map _),hso.imp fun h=>by simpa[ltOf,Hq] using h⟩
theorem Qs{all out:List E3}{e:E3}(h:0<lL all (e.2,e.1)∨0<lL out e):pQ all out e=out:=if_pos h
theorem Uw{all out:List E3}{e:E3}{k:Nat}(h1:¬0<lL all (e.2,e.1))(h2:¬0<lL out e)(h:aeQ out e=k):pQ all out e=out.take k++[e]++out.drop k:=by
 rw[pQ,if_neg (fun h=>h.elim h1 h2),abS,h]
theorem apH{w:aj}{a:Addr}{e:E3}(h:mB w a (cT e)):mB w a [.int .i64 e.1.x,.int .i64 e.1.y,.int .i64 e.1.z,.int .i64 e.2.x,.int .i64 e.2.y,.int .i64 e.2.z]:=h
theorem gt0{n:Nat}:((0:Int)<(n:Int))↔0<n:=by omega
theorem ah9{ts:List T3}{N cap:Nat}{A:Option Addr}(w:aj)(hT:bP w A N ts)(hN:N≤100000000):dJ prog 28 [.slice A N cap] w (SL 56 6 ((bF ts).flatMap cT) (bF ts).length w):=by
 refine⟨aq0,?_⟩;have m:=Mem.refl w
 go_enter func28,ntmps28
 refine eC 7 [0] m ?_;simp only[↓aD];intro u m;refine bJ rfl rfl (adP _ (hT.ext m.ext) (by omega)) ?_;rintro v u e ⟨A3,cap3,n3,hn3,rfl,hN⟩;replace m:=m.newO e hN;clear e hN;have he3:=qL ts;have htl:=hT.len;refine aS 4 [0] m ?_;simp only[↓aD];intro u m;refine aC aM ?_;replace m:=m.nilO 56 6;refine aS 7 [0] m ?_;simp only[↓aD];intro u m;refine cE [4,5] [6,7,8,9,12,13,14,15,16,17,18,19,20,21,22,23,24,25,26,27,28,29,30,31,32,33,34,35,36,37,38,39,40,41,42,43,44,45,46,47,48,49,50,51,52,53,54,55,56,57,58,59,60,61,62,63] (fun n vs wl=>∃(k n4 cap4:Nat) (A4:Option Addr),vs=[.slice A4 n4 cap4,.int .i64 (k:Int)]∧Mem w wl [oI 56 6 A4 n4 cap4 ((((aZ ts).take k).foldl (pQ (aZ ts)) []).flatMap cT),oI 56 6 A3 n3 cap3 ((aZ ts).flatMap cT)]∧(n4≤k)∧(k≤n3)∧(n=n3-k)) ?_ ?_
 ·
  apply Exists.intro;simp only[zQ,zR,zD,zE];exact⟨0,_,_,_,rfl,m,av _,br _,rfl⟩
 ·
  intro n vs wr hI u K1 hK1;clear m;obtain⟨k,n4,cap4,A4,rfl,m,hl4,hk,hn⟩:=hI;simp only[zu,zF,zG];refine aW 8 [0,0] m ?_;simp only[↓aD,Uo];intro u m;refine bG rfl (fun hc1=>?_) (fun hc1=>?_)
  ·
   obtain⟨e,he⟩:∃e,(aZ ts)[k]? = some e:=⟨_,am (by omega)⟩
   obtain⟨gO,rfl⟩:=(m.o 1 rfl).some (by omega);refine jF 7 [0] m ?_;simp only[↓aD];rintro u m rfl;refine aC (aF nV iH rfl rfl (by omega) (by omega) (bZ (ai _))) ?_;simp only[zz];refine aQ rfl ((apH ((m.o 1 rfl).at Mf he)).lies Ej iH) ?_;simp only[zz];refine aS 5 [0] m ?_;simp only[↓aD,Up,Dy,aa];intro g1;intro u m;obtain⟨B,hB⟩:∃B,B=((aZ ts).take k).foldl (pQ (aZ ts)) []:=⟨_,rfl⟩
   rw[←hB] at m;have h4:B.length=n4:=(m.o 1 rfl).num Mf (by decide);have hle4:=(m.o 1 rfl).le;have hs:=aeR (all:=aZ ts) he;rw[←hB] at hs;rcases Nat.eq_zero_or_pos (lL (aZ ts) (e.2,e.1)) with hz | hz
   ·
    refine lK 7 [0,0,0] m ?_;simp only[↓aD,Px,aO,Dz,ad,ag,aa];refine⟨by omega,?_⟩;rintro u m rfl;refine cU m rfl rfl (Mt (es:=aZ ts) (e:=(e.2,e.1)) _ ((m.o 2 rfl).lat Mf (by decide)) (by omega)) ?_;clear m;rintro v u m rfl;refine aS 4 [2,0,0] m ?_;simp only[↓aD,Dy];refine⟨by omega,?_⟩;intro u m;refine dN rfl (cU m rfl rfl (Mt (es:=B) (e:=e) _ ((m.o 1 rfl).lat Mf (by decide)) (by omega)) ?_);clear m;rintro v u m rfl;refine aS 3 [0,0] m ?_;simp only[↓aD];intro u m;refine bG rfl (fun hc2=>?_) (fun hc2=>?_)
    ·
     rw[Qs (.inr (gt0.1 hc2))] at hs;refine aW 6 [0] m ?_;simp only[↓aD];refine⟨by omega,?_⟩;intro u m;refine hK1 (n3-(k+1)) _ _ ?_ ?_ ?_
     · omega
     · simp only[zz,zv]
     ·
      simp only[zQ,zR,zD,zE];exact⟨k+1,_,_,_,rfl,((m.reO 1 rfl ((m.o 1 rfl).as (by rw[hs]))).sel [false,true,true]),by omega,by omega,rfl⟩
    ·
     have hz2:¬0<lL B e:=fun h=>hc2 (gt0.2 h);refine aW 7 [0] m ?_;simp only[↓aD];intro u m;refine cE [7] [8,36,37,38,39,40,41,42,43,44,45,46,47,48,49] (fun n vs wl=>∃(j:Nat),vs=[.int .i64 (j:Int)]∧Mem w wl [bI g1 (cT e) 56,oI 56 6 A4 n4 cap4 ((B).flatMap cT),oI 56 6 (some ⟨gO,0,none⟩) n3 cap3 ((aZ ts).flatMap cT)]∧(Pre (fun x=>ltE x e) B j)∧(j≤n4)∧(n=n4-j)) ?_ ?_
     ·
      apply Exists.intro;simp only[zQ,zR,zD,zE];exact⟨0,rfl,m,Pre.zero,br _,rfl⟩
     ·
      intro n vs wr hI u K2 hK2;clear m;obtain⟨j,rfl,m,hpre,hj,hn2⟩:=hI;simp only[zu,zF,zG];refine aW 8 [0,0] m ?_;simp only[↓aD,Uo];intro u m;refine bG rfl (fun hc3=>?_) (fun hc3=>?_)
      ·
       obtain⟨x,hx⟩:∃x,B[j]? = some x:=⟨_,am (by omega)⟩
       obtain⟨gP,rfl⟩:=(m.o 1 rfl).some (by omega);refine jF 3 [0] m ?_;simp only[↓aD];rintro u m rfl;refine mq m aB (by kernel_rfl) (aJ aH (aJ aH ?_));simp only[zz];refine aJ (aF nV iH rfl rfl (by omega) (by omega) (bZ (ai _))) ?_;simp only[zz];refine ql rfl (fun u m=>(((m.o 1 rfl).at Mf hx).lies Ej iH)) ?_;simp only[zz];refine ql rfl (fun u m=>((m.b 0 rfl).full Ej iH)) ?_;simp only[zz];refine eR rfl rfl (ahX (a:=x) (b:=e)) (aJ aM (bD ?_));clear m;intro u m;refine lK 6 [0] m ?_;simp only[↓aD];rintro u m rfl;refine jZ rfl (fun hc4=>?_) (fun hc4=>?_)
       ·
        have hpos:aeQ B e=j:=alR hpre hx (by simpa using hc4);rw[Uw (by omega) hz2 hpos] at hs;refine jF 3 [0] m ?_;simp only[↓aD];rintro u m rfl;refine aC aM ?_;replace m:=m.nilO 56 6;refine Df 6 [0] m ?_;simp only[↓aD];rintro u m rfl;refine aC (oL nV iH rfl rfl (ai _) (by omega) (by omega)) ?_;simp only[zz];refine bQ m 0 rfl rfl nV zX rfl (by decide) rfl rfl (by rw[jO Mf,cj,iu (show j≤B.length by omega)]) ((((m.o 2 rfl).lat Mf (by decide)).take (k:=j) (by omega)).cells Mf (by decide)) (Wq _) (by omega) (by omega) ?_;clear m;intro A9 cap9 u m;simp only[zF,zG] at m;rw[cd,ar] at m;simp only[ar];refine aS 6 [1,0] m ?_;simp only[↓aD,Dy];intro u m;refine Ke rfl ?_;intro u g2 e hg hB;replace m:=m.newB e hg hB;clear e hg hB;simp only[zz];refine bQ m 1 rfl rfl nV zX rfl (by decide) rfl rfl rfl (m.b 0 rfl).rowsO (fW rfl) (by omega) (by omega) ?_;clear m;intro A9 cap9 u m;simp only[zF,zG] at m;refine aS 6 [0] m ?_;simp only[↓aD];intro u m;refine aC (tC nV iH rfl rfl (ai _) (by omega) (by omega) rfl) ?_;simp only[zz];refine bQ m 1 rfl rfl nV zX rfl (by decide) rfl rfl (by rw[jO Mf,gh,h4]) (((m.o 3 rfl).lat Mf (by decide)).cellsD Mf (by decide) (by omega)) (Wq _) (by omega) (by omega) ?_;clear m;intro A9 cap9 u m;simp only[zF,zG] at m;refine aC aM ?_;simp only[zz];replace m:=(m.pull 1 rfl).mv 2 rfl;simp only[dS,dT,zF,zG] at m;refine aS 7 [0] m ?_;simp only[↓aD];refine⟨by omega,?_⟩;intro u m;refine hK1 (n3-(k+1)) _ _ ?_ ?_ ?_
        · omega
        · simp only[zz,zv]
        ·
         simp only[zQ,zR,zD,zE];exact⟨k+1,_,_,_,rfl,((m.reO 2 rfl ((m.o 2 rfl).as (by rw[hs,ba,ba];rfl))).sel [false,false,true,true]),by omega,by omega,rfl⟩
       ·
        have hpre2:=hpre.step hx (by simpa using hc4);refine aW 7 [0] m ?_;simp only[↓aD];refine⟨by omega,?_⟩;intro u m;refine hK2 (n4-(j+1)) _ _ ?_ ?_ ?_
        · omega
        · simp only[zz,zv]
        ·
         simp only[zQ,zR,zD,zE];exact⟨j+1,rfl,m,hpre2,by omega,rfl⟩
      ·
       have hjl:j=B.length:=by omega
       have hpos:aeQ B e=j:=by rw[hjl] at hpre ⊢;exact agZ hpre
       rw[Uw (by omega) hz2 hpos] at hs;refine aW 3 [0] m ?_;simp only[↓aD];intro u m;refine aC aM ?_;replace m:=m.nilO 56 6;refine aS 6 [0] m ?_;simp only[↓aD];intro u m;refine aC (oL nV iH rfl rfl (ai _) (by omega) (by omega)) ?_;simp only[zz];refine bQ m 0 rfl rfl nV zX rfl (by decide) rfl rfl (by rw[jO Mf,cj,iu (show j≤B.length by omega)]) ((((m.o 2 rfl).lat Mf (by decide)).take (k:=j) (by omega)).cells Mf (by decide)) (Wq _) (by omega) (by omega) ?_;clear m;intro A9 cap9 u m;simp only[zF,zG] at m;rw[cd,ar] at m;simp only[ar];refine aS 6 [1,0] m ?_;simp only[↓aD,Dy];intro u m;refine Ke rfl ?_;intro u g2 e hg hB;replace m:=m.newB e hg hB;clear e hg hB;simp only[zz];refine bQ m 1 rfl rfl nV zX rfl (by decide) rfl rfl rfl (m.b 0 rfl).rowsO (fW rfl) (by omega) (by omega) ?_;clear m;intro A9 cap9 u m;simp only[zF,zG] at m;refine aS 6 [0] m ?_;simp only[↓aD];intro u m;refine aC (tC nV iH rfl rfl (ai _) (by omega) (by omega) rfl) ?_;simp only[zz];refine bQ m 1 rfl rfl nV zX rfl (by decide) rfl rfl (by rw[jO Mf,gh,h4]) (((m.o 3 rfl).lat Mf (by decide)).cellsD Mf (by decide) (by omega)) (Wq _) (by omega) (by omega) ?_;clear m;intro A9 cap9 u m;simp only[zF,zG] at m;refine aC aM ?_;simp only[zz];replace m:=(m.pull 1 rfl).mv 2 rfl;simp only[dS,dT,zF,zG] at m;refine aS 7 [0] m ?_;simp only[↓aD];refine⟨by omega,?_⟩;intro u m;refine hK1 (n3-(k+1)) _ _ ?_ ?_ ?_
       · omega
       · simp only[zz,zv]
       ·
        simp only[zQ,zR,zD,zE];exact⟨k+1,_,_,_,rfl,((m.reO 2 rfl ((m.o 2 rfl).as (by rw[hs,ba,ba];rfl))).sel [false,false,true,true]),by omega,by omega,rfl⟩
   ·
    rw[Qs (.inl hz)] at hs;refine cP 7 [0,0,0] m ?_;simp only[↓aD,Px,aO,Dz,ad,ag,aa];refine⟨by omega,?_⟩;intro u m;refine cU m rfl rfl (Mt (es:=aZ ts) (e:=(e.2,e.1)) _ ((m.o 2 rfl).lat Mf (by decide)) (by omega)) ?_;clear m;rintro v u m rfl;refine aS 15 [1,0] m ?_;simp only[↓aD];refine⟨by omega,?_⟩;intro u m;refine hK1 (n3-(k+1)) _ _ ?_ ?_ ?_
    · omega
    · simp only[zz,zv]
    ·
     simp only[zQ,zR,zD,zE];exact⟨k+1,_,_,_,rfl,((m.reO 1 rfl ((m.o 1 rfl).as (by rw[hs]))).sel [false,true,true]),by omega,by omega,rfl⟩
  ·
   have hkN:k=(aZ ts).length:=by omega
   rw[hkN,ew] at m;refine aW 7 [] m ?_;simp only[↓aD];intro u m;refine aR rfl rfl ?_;try simp only[zD,zE]
   exact⟨_,rfl,m.ext,⟨_,_,_,((m.o 0 rfl).num Mf (by decide)).symm,rfl,(m.o 0 rfl)⟩⟩
theorem adR{op:Bool}{ts:List T3}(h:ts.any wF=true):fM op ts=20:=by simp[fM,h]
theorem adS{op:Bool}{ts:List T3}(h:ts.any wF=false)(h2:(aZ ts).any (fun e=>decide (1<lL (aZ ts) e))=true):fM op ts=21:=by rw[fM,h,h2];rfl
theorem adT{op:Bool}{ts:List T3}(h:ts.any wF=false)(h2:(aZ ts).any (fun e=>decide (1<lL (aZ ts) e))=false)(h3:(!op&&decide (0<(bF ts).length))=false)(h4:(dO ts).any (Gx ts)=true):fM op ts=23:=by rw[fM,h,h2,h3,h4];rfl
theorem aia{op:Bool}{ts:List T3}(h:ts.any wF=false)(h2:(aZ ts).any (fun e=>decide (1<lL (aZ ts) e))=false)(h3:(!op&&decide (0<(bF ts).length))=false)(h4:(dO ts).any (Gx ts)=false):fM op ts=0:=by rw[fM,h,h2,h3,h4];rfl
theorem gt1{n:Nat}:((1:Int)<(n:Int))↔1<n:=by omega
theorem akX{ts:List T3}{N cap:Nat}{A:Option Addr}(w:aj)(hT:bP w A N ts)(hN:N≤100000000):dJ prog 79 [.slice A N cap,.bool true] w (fun v _=>v=.int .i64 (fM true ts)):=by
 refine⟨arA,?_⟩;have m:=Mem.refl w;have htl:=hT.len;have he3:=qL ts;have hcl:=Lk ts
 go_enter func79,ntmps79
 refine eC 10 [0] m ?_;simp only[↓aD];intro u m;refine cE [5] [4,11,12,13,14,15,16,17,18,19,20,21,22,23,24,25,26,27,28,29,30,31,32,33,34,35,36,37,38,39,40,41,42,43,44,45,46,47,48,49,50,51,52,53] (fun n vs wl=>∃(k:Nat),vs=[.int .i64 (k:Int)]∧Mem w wl []∧((ts.take k).any wF=false)∧(k≤N)∧(n=N-k)) ?_ ?_
 ·
  apply Exists.intro;simp only[zQ,zR,zD,zE];exact⟨0,rfl,m,rfl,br _,rfl⟩
 ·
  intro n vs wr hI u K1 hK1;clear m;obtain⟨k,rfl,m,hd0,hk,hn⟩:=hI;simp only[zu,zF,zG];refine aW 8 [0,0] m ?_;simp only[↓aD,iU];intro u m;refine bG rfl (fun hc1=>?_) (fun hc1=>?_)
  ·
   obtain⟨t,ht,_,a,rfl,hrow⟩:=hT.get (i:=k) (by omega);refine aW 4 [0] m ?_;simp only[↓aD];intro u m;refine mq m aB (by kernel_rfl) (aJ aH (aJ aH ?_));simp only[zz];refine aJ (aF cC aL rfl rfl (by omega) (by omega) (bZ (ai _))) (eM 1 [] ?_);simp only[↓aD,bM,ad,ag,aa];refine⟨by omega,?_⟩;refine ql rfl (fun u m=>((mB.cor ((hrow.ext m.ext)) (c:=0) (by decide)).lies aG aA)) ?_;simp only[zz];refine aJ aH (aJ aH ?_);simp only[zz];refine aJ (aF cC aL rfl rfl (by omega) (by omega) (bZ (ai _))) (eM 1 [] ?_);simp only[↓aD,bM,ad,ag,aa];refine⟨by omega,?_⟩;refine ql rfl (fun u m=>((mB.cor ((hrow.ext m.ext)) (c:=1) (by decide)).lies aG aA)) ?_;simp only[zz];refine aJ (bW rfl rfl) (aJ aH (iC rfl (fun hb=>aH) (iC rfl (fun hb=>aH) ?_)));simp only[zz];refine iC rfl (fun hb=>aF cC aL (aV hb rfl) (aV hb rfl) (by omega) (by omega) (bZ (ai _))) (iC rfl (fun hb=>aI cH aA (aV hb rfl) rfl (by decide) (by decide) rfl) ?_);simp only[zz];refine pM rfl (fun hb u m=>aU (aV hb rfl) ((mB.cor ((hrow.ext m.ext)) (c:=1) (by decide)).lies aG aA)) (iC rfl (fun hb=>aH) (iC rfl (fun hb=>aH) ?_));simp only[zz];refine iC rfl (fun hb=>aF cC aL (aV hb rfl) (aV hb rfl) (by omega) (by omega) (bZ (ai _))) (iC rfl (fun hb=>aI cH aA (aV hb rfl) rfl (by decide) (by decide) rfl) ?_);simp only[zz];refine pM rfl (fun hb u m=>aU (aV hb rfl) ((mB.cor ((hrow.ext m.ext)) (c:=2) (by decide)).lies aG aA)) (iC rfl (fun hb=>bW (aV hb rfl) (aV hb rfl)) (aJ (cF rfl rfl rfl) (aJ aH (iC rfl (fun hb=>aH) ?_))));simp only[zz];refine iC rfl (fun hb=>aH) ?_;simp only[zz];refine iC rfl (fun hb=>aF cC aL (aV hb rfl) (aV hb rfl) (by omega) (by omega) (bZ (ai _))) (iC rfl (fun hb=>aI cH aA (aV hb rfl) rfl (by decide) (by decide) rfl) ?_);simp only[zz];refine pM rfl (fun hb u m=>aU (aV hb rfl) ((mB.cor ((hrow.ext m.ext)) (c:=2) (by decide)).lies aG aA)) (iC rfl (fun hb=>aH) (iC rfl (fun hb=>aH) ?_));simp only[zz];refine iC rfl (fun hb=>aF cC aL (aV hb rfl) (aV hb rfl) (by omega) (by omega) (bZ (ai _))) (iC rfl (fun hb=>aI cH aA (aV hb rfl) rfl (by decide) (by decide) rfl) ?_);simp only[zz];refine pM rfl (fun hb u m=>aU (aV hb rfl) ((mB.cor ((hrow.ext m.ext)) (c:=0) (by decide)).lies aG aA)) (iC rfl (fun hb=>bW (aV hb rfl) (aV hb rfl)) (aJ (cF rfl rfl rfl) (bD ?_)));clear m;intro u m;refine gc ?_;simp only[zz];refine jZ rfl (fun hc2=>?_) (fun hc2=>?_)
   ·
    have hd:=Gy (p:=wF) ht (Ws.symm.trans hc2);refine aW 5 [] m ?_;simp only[↓aD];intro u m;refine aR rfl rfl ?_;try simp only[zD,zE]
    exact⟨_,rfl,m.ext,by rw[adR hd]⟩
   ·
    have hd1:(ts.take (k+1)).any wF=false:=by rw[wG ht,hd0,←Ws];exact hc2
    refine aW 7 [0] m ?_;simp only[↓aD];refine⟨by omega,?_⟩;intro u m;refine hK1 (N-(k+1)) _ _ ?_ ?_ ?_
    · omega
    · simp only[zz,zv]
    ·
     simp only[zQ,zR,zD,zE];exact⟨k+1,rfl,m,hd1,by omega,rfl⟩
  ·
   have hkN:k=N:=by omega
   rw[hkN,show ts.take N=ts from a_ (by omega)] at hd0;refine aW 4 [0] m ?_;simp only[↓aD];intro u m;refine bJ rfl rfl (adP _ (hT.ext m.ext) (by omega)) ?_;rintro v u e ⟨A3,cap3,n3,hn3,rfl,hN⟩;replace m:=m.newO e hN;clear e hN;have hle3:=(m.o 0 rfl).le;refine aS 8 [0] m ?_;simp only[↓aD];intro u m;refine cE [7] [4,56,57,58,59,60,61,62,63,64,65,66,67,68] (fun n vs wl=>∃(k:Nat),vs=[.int .i64 (k:Int)]∧Mem w wl [oI 56 6 A3 n3 cap3 ((aZ ts).flatMap cT)]∧(((aZ ts).take k).any (fun e=>decide (1<lL (aZ ts) e))=false)∧(k≤n3)∧(n=n3-k)) ?_ ?_
   ·
    apply Exists.intro;simp only[zQ,zR,zD,zE];exact⟨0,rfl,m,rfl,br _,rfl⟩
   ·
    intro n vs wr hI u K2 hK2;clear m;obtain⟨k,rfl,m,hc0,hk,hn⟩:=hI;simp only[zu,zF,zG];refine aW 8 [0,0] m ?_;simp only[↓aD,Uo];intro u m;refine bG rfl (fun hc3=>?_) (fun hc3=>?_)
    ·
     obtain⟨e,he⟩:∃e,(aZ ts)[k]? = some e:=⟨_,am (by omega)⟩
     obtain⟨gO,rfl⟩:=(m.o 0 rfl).some (by omega);refine jF 8 [0] m ?_;simp only[↓aD];rintro u m rfl;refine aC (aF nV iH rfl rfl (by omega) (by omega) (bZ (ai _))) ?_;simp only[zz];refine aQ rfl (((m.o 0 rfl).at Mf he).lies Ej iH) ?_;simp only[zz];refine cU m rfl rfl (Mt (es:=aZ ts) (e:=e) _ ((m.o 0 rfl).lat Mf (by decide)) (by omega)) ?_;clear m;rintro v u m rfl;refine aS 2 [0,0] m ?_;simp only[↓aD];intro u m;refine bG rfl (fun hc4=>?_) (fun hc4=>?_)
     ·
      have hc:=Gy (p:=(fun e=>decide (1<lL (aZ ts) e))) he (decide_eq_true (gt1.1 hc4));refine aW 5 [] m ?_;simp only[↓aD];intro u m;refine aR rfl rfl ?_;try simp only[zD,zE]
      exact⟨_,rfl,m.ext,by rw[adS hd0 hc]⟩
     ·
      have hc01:((aZ ts).take (k+1)).any (fun e=>decide (1<lL (aZ ts) e))=false:=by rw[wG he,hc0,decide_eq_false (fun h=>hc4 (gt1.2 h))];rfl
      refine aW 7 [0] m ?_;simp only[↓aD];refine⟨by omega,?_⟩;intro u m;refine hK2 (n3-(k+1)) _ _ ?_ ?_ ?_
      · omega
      · simp only[zz,zv]
      ·
       simp only[zQ,zR,zD,zE];exact⟨k+1,rfl,m,hc01,by omega,rfl⟩
    ·
     have hkN:k=(aZ ts).length:=by omega
     rw[hkN,ew] at hc0;refine aW 18 [0] m ?_;simp only[↓aD,Bool.not_true,gp];intro u m;refine bJ rfl rfl (afa _ (hT.ext m.ext) hN) ?_;rintro v u e ⟨A8,cap8,n8,hn8,rfl,hN⟩;replace m:=m.newO e hN;clear e hN;have hle8:=(m.o 0 rfl).le;refine aS 8 [0] m ?_;simp only[↓aD];intro u m;refine cE [9] [4,10,79,80,81,82,83,84,85,86,87,88,89,90,91] (fun n vs wl=>∃(k:Nat),vs=[.int .i64 (k:Int)]∧Mem w wl [oI 30 3 A8 n8 cap8 ((dO ts).flatMap kN)]∧(((dO ts).take k).any (Gx ts)=false)∧(k≤n8)∧(n=n8-k)) ?_ ?_
     ·
      apply Exists.intro;simp only[zQ,zR,zD,zE];exact⟨0,rfl,(m.sel [true,false]),rfl,br _,rfl⟩
     ·
      intro n vs wr hI u K3 hK3;clear m;obtain⟨k,rfl,m,hp0,hk,hn⟩:=hI;simp only[zu,zF,zG];refine aW 8 [0,0] m ?_;simp only[↓aD,mQ];intro u m;refine bG rfl (fun hc6=>?_) (fun hc6=>?_)
      ·
       obtain⟨x,hx⟩:∃x,(dO ts)[k]? = some x:=⟨_,am (by omega)⟩
       obtain⟨gO,rfl⟩:=(m.o 0 rfl).some (by omega);refine jF 8 [0] m ?_;simp only[↓aD];rintro u m rfl;refine aC (aF cX aA rfl rfl (by omega) (by omega) (bZ (ai _))) ?_;simp only[zz];refine aQ rfl (((m.o 0 rfl).at xK hx).lies aG aA) ?_;simp only[zz];refine cU m rfl rfl (afb (p:=x) _ (hT.ext m.ext) (by omega)) ?_;clear m;rintro v u m rfl;refine aS 6 [0] m ?_;simp only[↓aD];intro u m;refine jZ rfl (fun hc7=>?_) (fun hc7=>?_)
       ·
        have hp:=Gy (p:=Gx ts) hx hc7;refine aW 5 [] m ?_;simp only[↓aD];intro u m;refine aR rfl rfl ?_;try simp only[zD,zE]
        exact⟨_,rfl,m.ext,by rw[adT hd0 hc0 rfl hp]⟩
       ·
        have hp1:((dO ts).take (k+1)).any (Gx ts)=false:=by rw[wG hx,hp0,hc7];rfl
        refine aW 7 [0] m ?_;simp only[↓aD];refine⟨by omega,?_⟩;intro u m;refine hK3 (n8-(k+1)) _ _ ?_ ?_ ?_
        · omega
        · simp only[zz,zv]
        ·
         simp only[zQ,zR,zD,zE];exact⟨k+1,rfl,m,hp1,by omega,rfl⟩
      ·
       have hkN:k=(dO ts).length:=by omega
       rw[hkN,ew] at hp0;refine aW 6 [] m ?_;simp only[↓aD];intro u m;refine aR rfl rfl ?_;try simp only[zD,zE]
       exact⟨_,rfl,m.ext,by rw[aia hd0 hc0 rfl hp0]⟩
theorem Xo{ts:List T3}{N cap:Nat}{A:Option Addr}(w:aj)(hT:bP w A N ts)(hN:N≤100000000):dJ prog 30 [.slice A N cap] w (fun v _=>v=.int .i64 (fM true ts)):=by
 refine⟨aq1,?_⟩;have m:=Mem.refl w
 go_enter func30,ntmps30
 refine eC 7 [0] m ?_;simp only[↓aD];intro u m;refine cU m rfl rfl (akX _ (hT.ext m.ext) hN) ?_;clear m;rintro v u m rfl;refine aS 3 [] m ?_;simp only[↓aD];intro u m;exact aR rfl rfl (⟨_,rfl,m.ext,rfl⟩)
theorem aib{t:T3}:dL prog 234 [tr t] (.agg #[.int .i64 t.a.x,.int .i64 t.a.y,.int .i64 t.a.z,.int .i64 t.b.x,.int .i64 t.b.y,.int .i64 t.b.z,.int .i64 t.b.x,.int .i64 t.b.y,.int .i64 t.b.z,.int .i64 t.c.x,.int .i64 t.c.y,.int .i64 t.c.z,.int .i64 t.c.x,.int .i64 t.c.y,.int .i64 t.c.z,.int .i64 t.a.x,.int .i64 t.a.y,.int .i64 t.a.z]):=by
 intro w;refine⟨anU,?_⟩;have m:=Mem.refl w
 go_enter func234,ntmps234
 refine eC 23 [1,1,1,1,1,1] m ?_;simp only[↓aD,apu,bM,aO,Jz,apv,ad,ag,aa];intro g1 g2;refine⟨by omega,?_⟩;intro u m;refine cP 3 [0] m ?_;simp only[↓aD,apt,aa];intro u m;exact aR rfl ⟨_,rfl,((m.b 0 rfl).full ajZ aeo)⟩ (⟨_,rfl,m.ext,rfl⟩)
theorem apI{e:E3}:dL prog 236 [ed e] (ed (e.2,e.1)):=by
 intro w;refine⟨anV,?_⟩;have m:=Mem.refl w
 go_enter func236,ntmps236
 refine eC 15 [1,1,0] m ?_;simp only[↓aD,Bk,Bl,aO,Qd,Jz,uF,aa];intro g1 g2;intro u m;exact aR rfl ⟨_,rfl,((m.b 0 rfl).full Ce qJ)⟩ (⟨_,rfl,m.ext,rfl⟩)
theorem acy{E:List E3}{e:E3}(h:(!!(cI (fQ [] E) e).getD false)=true):false=decide (E++[e]).Nodup:=by
 rw[Bool.not_not] at h;exact (decide_eq_false fun k=>(Eu.1 k).2 (aah.1 h)).symm
theorem Xp{E:List E3}{e:E3}{b:Bool}(hb:b=decide E.Nodup)(h:(!!(cI (fQ [] E) e).getD false)=false):b=decide (E++[e]).Nodup:=by
 rw[Bool.not_not] at h;rw[hb,decide_eq_decide,Eu];exact⟨fun k=>⟨k,fun h2=>by rw[aah.2 h2] at h;cases h⟩,And.left⟩
theorem lX{K:Type}[DecidableEq K](ks:List K)(k:K):fQ [] (ks++[k])=fG (fQ [] ks) k true:=ag5 [] ks [k]
theorem Qt{ts:List T3}{N cap:Nat}{A:Option Addr}(w:aj)(hT:bP w A N ts)(hN:N≤10000000):dJ prog 164 [.slice A N cap] w (fun v w'=>∃g es c,v=.tuple #[.map (some g),.bool (decide (aZ ts).Nodup)]∧Mem w w' [mI g es c]∧bL ed bw (fQ [] (aZ ts)) es c):=by
 refine⟨am7,?_⟩;have m:=Mem.refl w
 go_enter func164,ntmps164
 refine eC 7 [0] m ?_;simp only[↓aD];intro u m;refine lO m ?_;clear m;intro q8 u m;have hD8:=bL.nil (K:=E3) (V:=Bool) ed bw;refine aS 14 [0] m ?_;simp only[↓aD,iU];intro u m;refine cE [5,13] [7,9,14,15,16,17,18,19,20,21,22,23,24,25,26,27] (fun n vs wl=>∃(k:Nat) (es:Array b_) (c:Nat) (b:Bool),vs=[.bool b,.int .i64 (k:Int)]∧Mem w wl [mI q8 es c]∧(bL ed bw (fQ [] (aZ (ts.take k))) es c)∧(b=decide (aZ (ts.take k)).Nodup)∧(k≤N)∧(n=N-k)) ?_ ?_
 ·
  apply Exists.intro;simp only[zQ,zR,zD,zE];exact⟨0,_,_,true,rfl,m,hD8,rfl,br _,rfl⟩
 ·
  intro n vs wr hI u K1 hK1;clear m;obtain⟨k,es,c,b0,rfl,m,hD8,hb0,hk,hn⟩:=hI;simp only[zu,zF,zG];refine aW 5 [0,0] m ?_;simp only[↓aD];intro u m;refine bG rfl (fun hc1=>?_) (fun hc1=>?_)
  ·
   obtain⟨t,ht,_,a,rfl,hrow⟩:=hT.get (i:=k) (by omega);refine aW 5 [0] m ?_;simp only[↓aD];intro u m;refine aC (aF cC aL rfl rfl (by omega) (by omega) (bZ (ai _))) ?_;simp only[zz];refine aQ rfl ((hrow.ext m.ext).lies bV aL) ?_;simp only[zz];refine aS 6 [0,0,0] m ?_;simp only[↓aD,kX,dQ,aa];intro g2;intro u m;refine mW m rfl rfl aib 16 [4,1,0] ?_;simp only[↓aD];refine⟨by omega,?_⟩;intro u m;refine aC (Sl rfl rfl) (aS 7 [0,0,0] m ?_);simp only[↓aD,Bk,uF,aa];intro g3;intro u m;refine lZ m 2 Vx rfl rfl (fun m=>Xn (p:=(t.a,t.b)) m 2 rfl hD8) ?_;clear m;rintro v i u m ⟨rfl,es',c',rfl,hD'⟩;simp only[zF,zG] at m;simp only[zz];rw[←lX] at hD';clear hD8;have hD8:=hD';clear hD';refine aS 2 [0] m ?_;simp only[↓aD];intro u m;refine agW m [5] [] (fun vs=>∃(b:Bool),vs=[.bool b]∧(b=decide (((aZ (ts.take k))++[(t.a,t.b)])).Nodup)) ?_ ?_
   ·
    intro K2 hK2;refine cN rfl (fun hc3=>?_) (fun hc3=>?_)
    ·
     refine aW 3 [0] m ?_;simp only[↓aD];intro u m;refine hK2 _ _ ?_ m ?_
     · simp only[zz,zv]
     ·
      simp only[zQ,zR,zD,zE];exact⟨false,rfl,acy hc3⟩
    ·
     skip
     refine aW 1 [0] m ?_;simp only[↓aD];intro u m;refine hK2 _ _ ?_ m ?_
     · simp only[zz,zv]
     ·
      simp only[zQ,zR,zD,zE];exact⟨b0,rfl,Xp hb0 hc3⟩
   ·
    intro vs wr m hI u;obtain⟨b1,rfl,hb1⟩:=hI;simp only[zu,zF,zG];refine cP 17 [1,0] m ?_;simp only[↓aD,ak];refine⟨by omega,?_⟩;intro u m;refine aC (Sm rfl rfl) (aS 7 [0,0,0] m ?_);simp only[↓aD,Bk,uF,aa];intro g4;intro u m;refine lZ m 3 Vx rfl rfl (fun m=>Xn (p:=(t.b,t.c)) m 3 rfl hD8) ?_;clear m;rintro v i u m ⟨rfl,es',c',rfl,hD'⟩;simp only[zF,zG] at m;simp only[zz];rw[←lX] at hD';clear hD8;have hD8:=hD';clear hD';refine aS 2 [0] m ?_;simp only[↓aD];intro u m;refine agW m [5] [] (fun vs=>∃(b:Bool),vs=[.bool b]∧(b=decide ((((aZ (ts.take k))++[(t.a,t.b)])++[(t.b,t.c)])).Nodup)) ?_ ?_
    ·
     intro K3 hK3;refine cN rfl (fun hc3=>?_) (fun hc3=>?_)
     ·
      refine aW 3 [0] m ?_;simp only[↓aD];intro u m;refine hK3 _ _ ?_ m ?_
      · simp only[zz,zv]
      ·
       simp only[zQ,zR,zD,zE];exact⟨false,rfl,acy hc3⟩
     ·
      skip
      refine aW 1 [0] m ?_;simp only[↓aD];intro u m;refine hK3 _ _ ?_ m ?_
      · simp only[zz,zv]
      ·
       simp only[zQ,zR,zD,zE];exact⟨b1,rfl,Xp hb1 hc3⟩
    ·
     intro vs wr m hI u;obtain⟨b2,rfl,hb2⟩:=hI;simp only[zu,zF,zG];refine cP 17 [1,0] m ?_;simp only[↓aD,ak];refine⟨by omega,?_⟩;intro u m;refine aC (Sn rfl rfl) (aS 7 [0,0,0] m ?_);simp only[↓aD,Bk,uF,aa];intro g5;intro u m;refine lZ m 4 Vx rfl rfl (fun m=>Xn (p:=(t.c,t.a)) m 4 rfl hD8) ?_;clear m;rintro v i u m ⟨rfl,es',c',rfl,hD'⟩;simp only[zF,zG] at m;simp only[zz];rw[←lX] at hD';clear hD8;have hD8:=hD';clear hD';refine aS 2 [0] m ?_;simp only[↓aD];intro u m;refine agW m [5] [] (fun vs=>∃(b:Bool),vs=[.bool b]∧(b=decide (((((aZ (ts.take k))++[(t.a,t.b)])++[(t.b,t.c)])++[(t.c,t.a)])).Nodup)) ?_ ?_
     ·
      intro K4 hK4;refine cN rfl (fun hc3=>?_) (fun hc3=>?_)
      ·
       refine aW 3 [0] m ?_;simp only[↓aD];intro u m;refine hK4 _ _ ?_ m ?_
       · simp only[zz,zv]
       ·
        simp only[zQ,zR,zD,zE];exact⟨false,rfl,acy hc3⟩
      ·
       skip
       refine aW 1 [0] m ?_;simp only[↓aD];intro u m;refine hK4 _ _ ?_ m ?_
       · simp only[zz,zv]
       ·
        simp only[zQ,zR,zD,zE];exact⟨b2,rfl,Xp hb2 hc3⟩
     ·
      intro vs wr m hI u;obtain⟨b3,rfl,hb3⟩:=hI;simp only[zu,zF,zG];refine cP 18 [2,0] m ?_;simp only[↓aD,ak];refine⟨by omega,?_⟩;intro u m;refine hK1 (N-(k+1)) _ _ ?_ ?_ ?_
      · omega
      · simp only[zz,zv]
      ·
       simp only[zQ,zR,zD,zE];exact⟨k+1,_,_,b3,rfl,(m.sel [false,false,false,false,true]),by rw[tO ht];simpa[dh] using hD8,by rw[hb3,tO ht];simp only[dh,ci,cd],by omega,rfl⟩
  ·
   have hkN:k=N:=by omega
   rw[hkN,show ts.take N=ts from a_ (by rw[hT.len];exact av _)] at hD8 hb0;refine aW 9 [] m ?_;simp only[↓aD];intro u m;refine wU rfl rfl rfl ?_;try simp only[zD,zE]
   exact⟨_,rfl,m.ext,_,_,_,by rw[hb0],m,hD8⟩
theorem apJ{E:List E3}{dn:List (E3 × Bool)}{kp:E3}{kb:Bool}(h:(!(cI (fQ [] E) (kp.2,kp.1)).getD false)=true):((dn++[(kp,kb)]).map (·.1)).filter (fun e=>decide ((e.2,e.1)∉E))=(dn.map (·.1)).filter (fun e=>decide ((e.2,e.1)∉E))++[kp]:=by
 rw[rH] at h;simp only[cl,fu,bi,ck];rw[List.filter_cons_of_pos (by simpa using h)];rfl
theorem apK{E:List E3}{dn:List (E3 × Bool)}{kp:E3}{kb:Bool}(h:(!(cI (fQ [] E) (kp.2,kp.1)).getD false)=false):((dn++[(kp,kb)]).map (·.1)).filter (fun e=>decide ((e.2,e.1)∉E))=(dn.map (·.1)).filter (fun e=>decide ((e.2,e.1)∉E)):=by
 rw[rH] at h;simp only[cl,fu,bi,ck];rw[List.filter_cons_of_neg (by simpa using h)];simp
theorem aic{E:List E3}{dn:List (E3 × Bool)}(h:dn.Perm (fQ [] E)):(∀a,a∈(dn.map (·.1)).filter (fun e=>decide ((e.2,e.1)∉E))↔a∈E∧(a.2,a.1)∉E)∧((dn.map (·.1)).filter (fun e=>decide ((e.2,e.1)∉E))).length≤E.length:=by
 refine⟨fun a=>?_,?_⟩
 ·
  rw[ct,(h.map (·.1)).mem_iff,tU];simp
 ·
  refine Nat.le_trans (fc _ _) ?_;have:=oR E [];rw[List.length_map,h.length_eq];simpa using this
theorem aff{g c:Nat}{es:Array b_}{E:List E3}(w:aj)(hM:iX w g es c)(hD:bL ed bw (fQ [] E) es c):dJ prog 165 [.map (some g)] w (fun v w'=>∃g es c ks,v=.map (some g)∧Mem w w' [mI g es c]∧bL ed bw (fQ [] ks) es c∧(∀a,a∈ks↔a∈E∧(a.2,a.1)∉E)∧ks.length≤E.length):=by
 refine⟨am8,?_⟩;have m:=Mem.refl w
 go_enter func165,ntmps165
 refine eC 6 [0] m ?_;simp only[↓aD];intro u m;refine lO m ?_;clear m;intro q8 u m;have hD8:=bL.nil (K:=E3) (V:=Bool) ed bw;refine aS 6 [0] m ?_;simp only[↓aD];intro u m;refine vJ m underlying208 rfl (hM.ext m.ext) ?_;clear m;intro r1 u m;refine aS 2 [0] m ?_;simp only[↓aD];intro u m;refine cE [] [4,8,9,10,11,12,13,14,15,16,17,18,19] (fun n vs wl=>∃(dn rs:List (E3 × Bool)) (sn:Array Nat) (es2:Array b_) (c2:Nat),vs=[]∧Mem w wl [iI r1 g c sn,mI q8 es2 c2]∧(bL ed bw (fQ [] ((dn.map (·.1)).filter (fun e=>decide ((e.2,e.1)∉E)))) es2 c2)∧(nQ ed bw (fQ [] E) es sn dn rs)∧(n=rs.length)) ?_ ?_
 ·
  apply Exists.intro;simp only[zQ,zR,zD,zE];exact⟨[],fQ [] E,#[],_,_,trivial,m,hD8,nQ.start hD,rfl⟩
 ·
  intro n vs wr hI u K1 hK1;clear m;obtain⟨dn,rs,sn,es2,c2,rfl,m,hD8,hT,hn⟩:=hI;simp only[zu,zF,zG];refine aW 2 [0] m ?_;simp only[↓aD];intro u m;refine Lh m 0 rfl rfl (hM.ext m.ext) hD hT ?_;clear m;intro bb kk vv sn u m hN;simp only[zF,zG] at m;refine aC (pP rfl) (aS 2 [0] m ?_);simp only[↓aD];intro u m;refine cN rfl (fun hc1=>?_) (fun hc1=>?_)
  ·
   obtain⟨kp,kb,rs2,hp,hT2⟩:=Gs hc1 hN;refine aW 4 [0] m ?_;simp only[↓aD];intro u m;refine fF (sT rfl (m.r 0 rfl) (hM.ext m.ext) hD hT2) ?_;simp only[zz];refine aS 8 [0,0,0] m ?_;simp only[↓aD,Bk,uF,aa];intro g3;intro u m;refine lJ m rfl rfl apI ?_;clear m;intro u m;simp only[zz];refine fF (dZ (ek:=ed) (en:=bw) (k:=(kp.2,kp.1)) (v0:=false) underlying208 oB Bn rfl rfl (hM.ext m.ext) hD) ?_;simp only[zz];refine aS 2 [0] m ?_;simp only[↓aD];intro u m;refine cN rfl (fun hc2=>?_) (fun hc2=>?_)
   ·
    refine aW 3 [0,0] m ?_;simp only[↓aD,uF];intro u m;refine lZ m 2 Vx rfl rfl (fun m=>Xn (p:=kp) m 2 rfl hD8) ?_;clear m;rintro v i u m ⟨rfl,es',c',rfl,hD'⟩;simp only[zF,zG] at m;simp only[zz];rw[←lX] at hD';clear hD8;have hD8:=hD';clear hD';refine aS 2 [0] m ?_;simp only[↓aD];intro u m;refine hK1 rs2.length _ _ ?_ ?_ ?_
    · rw[hn,hp.length_eq];exact el _
    · simp only[zz,zv]
    ·
     simp only[zQ,zR,zD,zE];exact⟨dn++[(kp,kb)],rs2,_,_,_,trivial,(m.sel [false,true,true]),by rw[apJ hc2];exact hD8,hT2,rfl⟩
   ·
    refine aW 2 [0] m ?_;simp only[↓aD];intro u m;refine hK1 rs2.length _ _ ?_ ?_ ?_
    · rw[hn,hp.length_eq];exact el _
    · simp only[zz,zv]
    ·
     simp only[zQ,zR,zD,zE];exact⟨dn++[(kp,kb)],rs2,_,_,_,trivial,(m.sel [false,true,true]),by rw[apK hc2];exact hD8,hT2,rfl⟩
  ·
   obtain rfl:=Gr hc1 hN;refine aW 7 [] m ?_;simp only[↓aD];intro u m;exact aR rfl rfl (⟨_,rfl,m.ext,_,_,_,_,rfl,m.sel [false,true],hD8,aic hT.done⟩)
theorem afg{ts:List T3}{ks ps:List E3}(hk:∀a,a∈ks↔a∈aZ ts∧(a.2,a.1)∉aZ ts)(hp:ps.Perm ((fQ [] ks).map (·.1)))(hs:ps.Pairwise fun a b=>¬Lm b a):ps=bF ts:=by
 refine aaf ?_ (Sd ts) fun a=>?_
 ·
  have hn:ps.Nodup:=hp.nodup_iff.2 (Et _ _ .nil);refine List.Pairwise.imp₂ (fun a b (h:¬Lm b a) (k:a≠b)=>?_) hs hn;rcases Lm.tri a b with h1 | h1 | h1
  · exact h1
  · exact absurd h1 k
  · exact absurd h1 h
 ·
  rw[hp.mem_iff,tU,abY,hk];simp
theorem afh{ts:List T3}{N cap:Nat}{A:Option Addr}(w:aj)(hT:bP w A N ts)(hN:N≤10000000):dJ prog 98 [.slice A N cap] w (SL 56 6 ((bF ts).flatMap cT) (bF ts).length w):=by
 refine⟨arF,?_⟩;have m:=Mem.refl w;have htl:=hT.len;have hel:=qL ts
 go_enter func98,ntmps98
 refine eC 7 [0] m ?_;simp only[↓aD];intro u m;refine bJ rfl rfl (Qt _ (hT.ext m.ext) (by omega)) ?_;rintro v u e ⟨g8,es8,c8,rfl,hM,hD8⟩;replace m:=m.plus hM;clear hM e;simp only[ci,cd] at m;refine aS 8 [0] m ?_;simp only[↓aD];intro u m;refine aC aM ?_;replace m:=m.nilO 56 6;refine aS 5 [0] m ?_;simp only[↓aD];intro u m;refine bJ rfl rfl (aff _ (m.p 1 rfl) hD8) ?_;rintro v u e ⟨g9,es9,c9,ks,rfl,hM,hD9,hks,hkl⟩;replace m:=m.plus hM;clear hM e;simp only[ci,cd] at m;simp only[zz];refine bJ rfl rfl (afe _ (m.p 0 rfl) hD9 (by have h1:=oR ks [];simp only[bu] at h1;omega)) ?_;rintro v u e ⟨A5,n5,cap5,_,rfl,hN,ps,rfl,hps,hso⟩;replace m:=m.newO e hN;clear e hN;obtain rfl:=afg hks hps hso;obtain rfl:(bF ts).length=n5:=(m.o 0 rfl).num Mf (by decide);have hle5:=(m.o 0 rfl).le;have hbl:(bF ts).length≤(aZ ts).length:=by have:=Gw (all:=aZ ts) (aZ ts) [];simpa[bF] using this
 refine aS 4 [0] m ?_;simp only[↓aD,apn];intro u m;refine cE [5,17] [7,18,19,20,21,22,23,24,25,26,27,28,29] (fun n vs wl=>∃(k:Nat) (A6:Option Addr) (cap6:Nat),vs=[.slice A6 k cap6,.int .i64 (k:Int)]∧Mem w wl [oI 215 6 A5 (bF ts).length cap5 ((bF ts).flatMap cT),oI 56 6 A6 k cap6 (((bF ts).take k).flatMap cT)]∧(k≤(bF ts).length)∧(n=(bF ts).length-k)) ?_ ?_
 ·
  apply Exists.intro;simp only[zQ,zR,zD,zE];exact⟨0,_,_,rfl,(m.sel [true,false,true,false]),br _,rfl⟩
 ·
  intro n vs wr hI u K1 hK1;clear m;obtain⟨k,A6,cap6,rfl,m,hk,hn⟩:=hI;simp only[zu,zF,zG];refine aW 5 [0,0] m ?_;simp only[↓aD];intro u m;refine bG rfl (fun hc1=>?_) (fun hc1=>?_)
  ·
   obtain⟨e,he⟩:∃e,(bF ts)[k]? = some e:=⟨_,am (by omega)⟩
   obtain⟨gO,rfl⟩:=(m.o 0 rfl).some (by omega);refine jF 5 [0] m ?_;simp only[↓aD];rintro u m rfl;refine aC (aF underlying212 qJ rfl rfl (by omega) (by omega) (bZ (ai _))) ?_;simp only[zz];refine aQ rfl (((m.o 0 rfl).at Mf he).lies Ce qJ) ?_;simp only[zz];refine aS 10 [0,0,0,0] m ?_;simp only[↓aD,Bk,uF,Qd,aO,Bl,Dz,aa];intro g1;intro u m;refine Ke rfl ?_;intro u g2 e hg hB;replace m:=m.newB e hg hB;clear e hg hB;simp only[zz];refine bQ m 3 rfl rfl nV zX rfl (by decide) rfl rfl rfl (m.b 0 rfl).rowsO (fW rfl) (by omega) (by omega) ?_;clear m;intro A6 cap6 u m;simp only[zF,zG] at m;refine aS 7 [0] m ?_;simp only[↓aD];refine⟨by omega,?_⟩;intro u m;refine hK1 ((bF ts).length-(k+1)) _ _ ?_ ?_ ?_
   · omega
   · simp only[zz,zv]
   ·
    simp only[zQ,zR,zD,zE];exact⟨k+1,_,_,rfl,((m.reO 3 rfl ((m.o 3 rfl).as (by rw[bX he,ba];rfl))).sel [false,false,true,true]),by omega,rfl⟩
  ·
   obtain rfl:k=(bF ts).length:=by omega
   rw[ew] at m;refine aW 7 [] m ?_;simp only[↓aD];intro u m;exact aR rfl rfl (⟨_,rfl,m.ext,⟨_,_,_,rfl,rfl,(m.o 1 rfl)⟩⟩)
end Go.Proofs.YtfekpcimgncioaaGreatDoor
namespace Go.Lith
open Go.RowKit Go.ChangeMaps Go.MapKept
def akY{K V:Type}[DecidableEq K](ek:K→ah)(en:V→ah)(D:List (K × V))(k:K)(es:Array b_)(c b:Nat):Prop :=
 ∀u,∃p,es.findIdx? (fun e=>(e.born:Int) == (b:Int))=some p∧bL ek en (fG D k u) (es.modify p fun e=>{ e with val:=en u }) c
section
variable {K V:Type} [DecidableEq K] {P:bh} {T M E ty:an} {ek:K→ah} {en:V→ah} {w w0:aj} {g c:Nat} {es:Array b_} {D:List (K × V)}
theorem apL{α:Type}{l:List α}{p:Nat}{x:α}(h:l[p]? = some x):l.set p x=l:=by
 apply List.ext_getElem?;intro j;rw[List.getElem?_set];split
 · rename_i e;subst e;rw[if_pos (aq.1 h).1,h]
 · rfl
theorem aaD{b p:Nat}(hn:(es.toList.map (·.born)).Nodup){e:b_}(he:es[p]? = some e)(hb:e.born=b):es.findIdx? (fun e=>(e.born:Int) == (b:Int))=some p:=by
 rw[Array.findIdx?_eq_some_iff_getElem];have hp:=(de.1 he).1;have hx:=(de.1 he).2;refine⟨hp,by rw[hx,hb];simp,fun j hj=>?_⟩;have hj':j<es.size:=by omega
 simp only[Bool.not_eq_true,beq_eq_false_iff_ne,ne_eq,Int.natCast_inj];intro hh;have h1:(es.toList.map (·.born))[j]'(by simpa using hj')=(es.toList.map (·.born))[p]'(by simpa using hp):=by
  simp only[List.getElem_map,Array.getElem_toList];rw[hh,hx,hb]
 have:=(List.getElem_inj hn).1 h1;omega
theorem acz{p:Nat}{e:b_}(he:es[p]? = some e)(k u:ah)(hk:e.key=k):(es.modify p fun e=>{ e with val:=u })=es.modify p fun e=>{ e with key:=k,val:=u }:=by
 apply ju;intro j;rw[jg,jg];split
 · rename_i hj;subst hj;rw[he];simp[hk]
 · rfl
theorem akZ(hD:bL ek en D es c){p:Nat}{k:K}{v:V}(hp:D[p]? = some (k,v)):∃e,es[p]? = some e∧e.key=ek k∧e.val=en v:=by
 have h2:=congrArg (fun L=>L[p]?) hD.cells;simp only[List.getElem?_map,hp,fa] at h2;rw[Array.getElem?_toList] at h2;cases h3:es[p]? with
 | none=>rw[h3] at h2;cases h2
 | some x =>
  rw[h3] at h2;simp only[fa,fx,Sb,fp] at h2;exact⟨x,rfl,h2.1,h2.2⟩
theorem Ss{v0:V}(hu:P.underlying M=some (.map T E))(hz:nY P E (en v0))(kt:rY P T ek)(hM:iX w g es c)(hD:bL ek en D es c)(k:K) :
 ∃es' c' b,(Instr.mapEntry M (.map (some g)) (ek k)).run P w=.ok (.tuple #[en ((cI D k).getD v0),.int .i64 (b:Nat)]) (setBlock w g (.map es' c'))∧bL ek en (fG D k ((cI D k).getD v0)) es' c'∧akY ek en D k es' c' b:=by
 unfold iX at hM;cases hf:qD D k 0 with
 | none =>
  obtain⟨h0,h1,_⟩:=qM D k 0 hf;obtain⟨inf,hi,hz⟩:=hz;have hzv:(zeroValue E).run P w=.ok (en v0) w:=by simp[zeroValue,typeInfo,program,Sem.run,hi,hz]
  have hP:=hD.push k v0;refine⟨_,_,c,?_,by rw[h0,h1];exact hP,fun u=>⟨es.size,aaD hP.nd (e:={ key:=ek k,val:=en v0,born:=c }) (by simp) rfl,?_⟩⟩
  · simp only[Instr.mapEntry,Sem.run_bind,bx hu,Result.andThen,getObj,Sem.run,hM,Sem.run_pure,kt.chk,tQ kt k w hD,hf,Option.map_none,hzv,run_setObj_map _ hM,h0,Option.getD_none,goInt]
    rfl
  · rw[h1]
    have e:((es.push { key:=ek k,val:=en v0,born:=c }).modify es.size fun e=>{ e with val:=en u })=es.push { key:=ek k,val:=en u,born:=c }:=by
     apply ju;intro j;rw[jg,Array.getElem?_push,Array.getElem?_push];split
     · rename_i hj;subst hj;simp
     · rename_i hj;simp[Ne.symm hj]
    rw[e];exact hD.push k u
 | some p =>
  obtain⟨j,v⟩:=p;obtain⟨p,rfl,hp,h0,h1,_⟩:=mO D k 0 j v hf;rw[ar] at hf;obtain⟨e,he,hk,hv⟩:=akZ hD hp;have hk':((es[p]?).map (·.key)).getD (ek k)=ek k:=by rw[he];simp[hk]
  have hm:(es.modify p fun e=>{ e with key:=ek k })=es:=by
   apply ju;intro j;rw[jg];split
   · rename_i hj;subst hj;rw[he];simp[←hk]
   · rfl
  refine⟨es,c,e.born,?_,by rw[h0,cu,h1,apL hp];exact hD,fun u=>⟨p,aaD hD.nd he rfl,?_⟩⟩
  · simp only[Instr.mapEntry,Sem.run_bind,bx hu,Result.andThen,getObj,Sem.run,hM,Sem.run_pure,kt.chk,tQ kt k w hD,hf,fa,hk',Instr.keyThatStays,kt.bits,if_true,hm,run_setObj_map _ hM,h0,cu,he,hk,kt.bits,if_true,Sem.run_pure,hm,goInt]
    rfl
  · rw[h1,acz he (ek k) (en u) hk]
    exact hD.set hp u
theorem Mh{b:Nat}{k:K}(hM:iX w g es c)(hS:akY ek en D k es c b)(u:V) :
 ∃es',(Instr.entryStore M (.map (some g)) (.int .i64 (b:Nat)) (en u)).run P w=.ok () (setBlock w g (.map es' c))∧bL ek en (fG D k u) es' c:=by
 obtain⟨p,hp,hD⟩:=hS u;unfold iX at hM;refine⟨_,?_,hD⟩;simp only[Instr.entryStore,Sem.run_bind,Result.andThen,getObj,Sem.run,hM,Sem.run_pure,asInt,asIntOf,hp];exact run_setObj_map _ hM
theorem ak0{ds:List cn}{l:List ah}{op:Op}{ops:Array Oper}{Q:Exit→Act→aj→Prop}{rest:List Oper}{pos:String}{after:Array Edge}
 (h:∀o:Oper,o.op=op→∃v w',(execOp (Fr l).eval o).run P w=.ok (.value v) w'∧au P ops Q rest (Fr l ds) w'):au P ops Q (bn none op ty pos after none::rest) (Fr l ds) w:=by
 refine wpList_plain rfl fun K hK=>?_;unfold Oper.wp;obtain⟨v,w',hr,hw⟩:=h (bn none op ty pos after none) rfl;rw[jV,hr];exact hK _ _ hw
variable {is:List It} {ds:List cn} {l:List ah} {x y z:bg} {ops:Array Oper} {Q:Exit→Act→aj→Prop} {rest:List Oper} {d:Nat} {pos:String} {after:Array Edge}
theorem xU{v0:V}{a:K}(m:Mem w0 w is)(k:Nat)(hk:is[k]? = some (mI g es c))(hu:P.underlying M=some (.map T E))(hz:nY P E (en v0))(kt:rY P T ek)(hx:ev l x=.map (some g))(hy:ev l y=ek a)(hD:bL ek en D es c)
 (h:∀es' c' b u,Mem w0 u (is.set k (mI g es' c'))→bL ek en (fG D a ((cI D a).getD v0)) es' c'→akY ek en D a es' c' b→au P ops Q rest (Fr (l.set d (.tuple #[en ((cI D a).getD v0),.int .i64 (b:Nat)])) ds) u) :
 au P ops Q (bn (some d) (.mapEntry M x y) ty pos after none::rest) (Fr l ds) w:=by
 have hM:=m.p k hk;obtain⟨es',c',b,hr,hD',hS⟩:=Ss hu hz kt hM hD a;have hC:=pO (w:=w) (g:=g) (.map es' c');refine lY (w':=setBlock w g (.map es' c')) (fun o ho hty=>by simp[execOp,ho,hty,cJ,hx,hy,hr]) (h es' c' b _ ?_ hD' hS);exact m.put k hk hC.os hC.tape hC.output (by rw[hC.size];exact av _) (fun b _ hne=>hC.block b fun e=>hne (by rw[e];rfl)) (jM hM) (.inl fun _ h=>h)
theorem pV{v:V}{a:K}{b:Nat}(m:Mem w0 w is)(k:Nat)(hk:is[k]? = some (mI g es c))(hx:ev l x=.map (some g))(hy:ev l y=.int .i64 (b:Nat))(hz:ev l z=en v)(hS:akY ek en D a es c b)
 (h:∀es' u,Mem w0 u (is.set k (mI g es' c))→bL ek en (fG D a v) es' c→au P ops Q rest (Fr l ds) u):au P ops Q (bn none (.entryStore M x y z) ty pos after none::rest) (Fr l ds) w:=by
 have hM:=m.p k hk;obtain⟨es',hr,hD'⟩:=Mh (P:=P) (M:=M) hM hS v;have hC:=pO (w:=w) (g:=g) (.map es' c);refine Fu (w':=setBlock w g (.map es' c)) (fun o ho=>by simp[execOp,ho,cJ,hx,hy,hz,hr]) (h es' _ ?_ hD');exact m.put k hk hC.os hC.tape hC.output (by rw[hC.size];exact av _) (fun b _ hne=>hC.block b fun e=>hne (by rw[e];rfl)) (jM hM) (.inl fun _ h=>h)
end
end Go.Lith
namespace Go.Proofs.YtfekpcimgncioaaGreatDoor
open Go.Proofs.Tryz
open Go.RowKit Go.Lith
set_option maxRecDepth 100000
attribute [local irreducible] au cg fR bO cO Code.wp
attribute [local congr] pL fX fY fZ gA gB kI gC gD gE gF gG gH gI gJ gK gL gM eS eT gN gQ gS gT gU kK dC dD cR dB gR kJ eV eW eX gW gX kL
def rN(n:Nat):ah:=.int .i64 (n:Int)
theorem Ki{K V:Type}[DecidableEq K](xs:List (K × V))(k:K)(v:V):Dh [] (xs++[(k,v)])=fG (Dh [] xs) k v:=ag6 [] xs [(k,v)]
theorem tF{K:Type}[DecidableEq K](ks:List K)(k:K):vL [] (ks++[k])=fG (vL [] ks) k ((cI (vL [] ks) k).getD 0+1):=ag8 [] ks [k]
theorem aaE{K:Type}[DecidableEq K](ks:List K)(k:K):(cI (vL [] ks) k).getD 0=uK ks k:=by rw[aaj];simp[cI]
theorem Mu{K:Type}[DecidableEq K](ks:List K)(k:K):(cI (vL [] ks) k).getD 0≤ks.length:=by rw[aaE];exact fc _ _
theorem apM{nx:P3→Option P3}{s a y:P3}{n z:Nat}(h:¬a=s)(hb:nx a=some y):Ba nx s (n+1) a z=Ba nx s n y (z+1):=by rw[Ba,if_neg h,hb]
theorem ak1{nx:P3→Option P3}{s a:P3}{n z:Nat}(hb:nx a=none):Ba nx s n a z=(a,z):=by
 cases n with
 | zero=>rfl
 | succ n=>rw[Ba,hb];split <;> rfl
theorem apN{nx:P3→Option P3}{s a:P3}{M z:Nat}(hz:z≤M+1)(h:a=s∨¬z≤M):Ba nx s (M+1-z) a z=(a,z):=by
 rcases h with rfl | h
 · exact ag9
 · rw[show M+1-z=0 by omega];rfl
theorem apO{x y:P3}:(¬x.x=y.x∨¬x.y=y.y∨¬x.z=y.z)↔¬x=y:=by
 rw[←xM];exact⟨fun h k=>h.elim (fun h=>h k.1) fun h=>h.elim (fun h=>h k.2.1) fun h=>h k.2.2,fun h=>by
  rcases Classical.em (x.x=y.x) with h1 | h1
  ·
   rcases Classical.em (x.y=y.y) with h2 | h2
   · exact .inr (.inr fun h3=>h ⟨h1,h2,h3⟩)
   · exact .inr (.inl h2)
  · exact .inl h1⟩
theorem aid{a s:P3}{z M:Nat}(h:(decide (¬(a.x=s.x∧a.y=s.y∧a.z=s.z))&&decide ((z:Int)≤(M:Int)))=false):a=s∨¬z≤M:=by
 rcases Classical.em (a=s) with k | k
 · exact .inl k
 ·
  refine .inr fun k4=>?_;rw[decide_eq_true (mt xM.1 k),decide_eq_true (Int.ofNat_le.2 k4)] at h;cases h
theorem aie{ts:List T3}{es:Array b_}{sn:Array Nat}{dn:List (E3 × P3)}(h:nQ ed pt (Dh [] (lD ts)) es sn dn [])(hnd:(aZ ts).Nodup)(hno:∀y∈dn,¬Ww ts y.1)(e:E3):¬Ww ts e:=fun he=>by
 obtain⟨x,hx,_⟩:=id he;have h1:cI (Dh [] (lD ts)) e=some x:=by rw[←hx];exact Ha hnd e.1 e.2
 exact hno _ (h.done.mem_iff.2 (As h1)) he
theorem Ux(ts:List T3):(dK ts).length=ts.length*3:=pR ts
theorem acA{ts:List T3}{N cap:Nat}{A:Option Addr}(w:aj)(hT:bP w A N ts)(hN:N≤10000000)(hnd:(aZ ts).Nodup):dJ prog 166 [.slice A N cap] w (fun v _=>v=.bool ((dO ts).any (Gx ts))):=by
 refine⟨am9,?_⟩;have m:=Mem.refl w
 go_enter func166,ntmps166
 refine eC 6 [0] m ?_;simp only[↓aD];intro u m;refine lO m ?_;clear m;intro q8 u m;have hD8:=bL.nil (K:=E3) (V:=P3) ed pt;refine aS 4 [0] m ?_;simp only[↓aD];intro u m;refine lO m ?_;clear m;intro q9 u m;have hD9:=bL.nil (K:=P3) (V:=Nat) pt rN;refine aS 10 [0] m ?_;simp only[↓aD,iU];intro u m;refine cE [18] [6,7,8,19,20,21,22,23,24,25,26,27,28,29,30,31,32,33,34,35,36,37,38,39,40,41,42,43,44,45,46,47] (fun n vs wl=>∃(k:Nat) (es8 es9:Array b_) (c8 c9:Nat),vs=[.int .i64 (k:Int)]∧Mem w wl [mI q9 es9 c9,mI q8 es8 c8]∧(bL ed pt (Dh [] (lD (ts.take k))) es8 c8)∧(bL pt rN (vL [] (dK (ts.take k))) es9 c9)∧(k≤N)∧(n=N-k)) ?_ ?_
 ·
  apply Exists.intro;simp only[zQ,zR,zD,zE];exact⟨0,_,_,_,_,rfl,m,hD8,hD9,br _,rfl⟩
 ·
  intro n vs wr hI u K1 hK1;clear m;obtain⟨k,es8,es9,c8,c9,rfl,m,hD8,hD9,hk,hn⟩:=hI;simp only[zu,zF,zG];refine aW 5 [0,0] m ?_;simp only[↓aD];intro u m;refine bG rfl (fun hc1=>?_) (fun hc1=>?_)
  ·
   obtain⟨t,ht,_,a,rfl,hrow⟩:=hT.get (i:=k) (by omega);have hcl:=Ux (ts.take k);rw[cj] at hcl;refine aW 5 [0] m ?_;simp only[↓aD];intro u m;refine aC (aF cC aL rfl rfl (by omega) (by omega) (bZ (ai _))) ?_;simp only[zz];refine aQ rfl ((hrow.ext m.ext).lies bV aL) ?_;simp only[zz];refine aS 8 [0,0] m ?_;simp only[↓aD,kX,dQ,aa];intro g3;intro u m;refine cP 15 [4,1,0] m ?_;simp only[↓aD];refine⟨by omega,?_⟩;intro u m;refine aC (sU rfl rfl) (aS 5 [0,0] m ?_);simp only[↓aD,eY,aO,aa];intro g4;intro u m;refine dA m 13 aB (by kernel_rfl) ?_;simp only[zy];refine eM 4 [0] ?_;simp only[↓aD,aO,ak];refine⟨by omega,?_⟩;refine aJ (eG (m:=1) (n:=3) (r:=1) rfl rfl (by decide) (by decide)) (eM 5 [1] ?_);simp only[↓aD,bM,aO,Jz,ad,ag,aa,ak];refine⟨by omega,?_⟩;refine aJ (eG (m:=2) (n:=3) (r:=2) rfl rfl (by decide) (by decide)) (eM 2 [1] ?_);simp only[↓aD,bM,aO,ad,ag,aa];refine⟨by omega,?_⟩;refine bD ?_;clear m;intro u m;refine mY (ek:=ed) (en:=pt) (a:=(t.a,t.b)) (v:=t.c) m 3 rfl Kg Bn rfl rfl rfl hD8 ?_;clear m;intro es8 c8 u m hD';clear hD8;have hD8:=hD';clear hD';simp only[zF,zG] at m;rw[←Ki] at hD8;refine aK (gc ?_);refine kU m 2 [] [40,41,42,43,44,45] (fun vs i=>∃(es:Array b_) (c:Nat),vs=[]∧i=mI q9 es c∧(bL pt rN (vL [] (((dK (ts.take k))++[t.a]))) es c)) ?_ ?_
   ·
    intro K2 hK2;refine Zt m [true,true,false,true] (.take 0 (.take 1 (.two 2 (.take 3 (.one 4 (.take 5 (.one 6 .nil)))) 4 (.take 5 (.one 2 (.take 3 (.one 6 .nil))))))) aB (by kernel_rfl) (bT (fun _ _ _ _ _ h=>h)) ?_;clear m;intro u m;have hb:=Mu (dK (ts.take k)) t.a;try simp only[aw,ay,bu] at hb
    refine iQ (by simp only[zw];rfl) (bB aH (cK (iQ (by simp only[zw];rfl) ?_)));simp only[zz];refine eN rfl (fun u m=>((m.b 0 rfl).full aG aA)) ?_;simp only[zz];refine cK ?_;refine adr (by simp only[zw];rfl) (by simp only[zw];rfl) ?_ ?_
    ·
     refine fF (dZ (ek:=pt) (en:=rN) (k:=t.a) (v0:=0) oH lH fT rfl rfl (m.p 2 rfl) hD9) ?_;simp only[zz];refine aK (⟨m.sel [true,true,false,true],?_⟩);refine iQ (by simp only[zw];rfl) (bB (jL rfl rfl (dY (by omega) (by omega))) (cK (qB (by simp only[zw];rfl) ?_)));simp only[zz];refine xU (ek:=pt) (en:=rN) (a:=t.a) (v0:=0) m 2 rfl oH lH fT rfl rfl hD9 ?_;clear m;intro es9 c9 bs u m hD' hS;simp only[zF,zG] at m;refine aK (⟨m.sel [true,true,false,true],?_⟩);refine iQ (by simp only[zw];rfl) (bB (eZ rfl rfl) (cK (qB (by simp only[zw];rfl) ?_)));simp only[zz];refine pV (ek:=pt) (en:=rN) (a:=t.a) (v:=(cI (vL [] (dK (ts.take k))) t.a).getD 0+1) m 2 rfl rfl rfl rfl hS ?_;clear m hD' hS;intro es9 u m hD';clear hD9;have hD9:=hD';clear hD';simp only[zF,zG] at m;rw[←tF] at hD9;refine aK (⟨m.sel [true,true,false,true],?_⟩);refine Lb (gk ?_);refine hK2 _ _ _ ?_ m ?_
     · simp only[zz,zv]
     ·
      simp only[zQ,zR,zD,zE];exact⟨_,_,trivial,rfl,hD9⟩
    ·
     refine xU (ek:=pt) (en:=rN) (a:=t.a) (v0:=0) m 2 rfl oH lH fT rfl rfl hD9 ?_;clear m;intro es9 c9 bs u m hD' hS;simp only[zF,zG] at m;refine aK (⟨m.sel [true,true,false,true],?_⟩);refine iQ (by simp only[zw];rfl) (bB (eZ rfl rfl) (cK (qB (by simp only[zw];rfl) ?_)));simp only[zz];refine fF (dZ (ek:=pt) (en:=rN) (k:=t.a) (v0:=0) oH lH fT rfl rfl (m.p 2 rfl) hD') ?_;simp only[zz];rw[lW,if_pos rfl,cu];refine aK (⟨m.sel [true,true,false,true],?_⟩);refine iQ (by simp only[zw];rfl) (bB (jL rfl rfl (dY (by omega) (by omega))) (cK (qB (by simp only[zw];rfl) ?_)));simp only[zz];refine pV (ek:=pt) (en:=rN) (a:=t.a) (v:=(cI (vL [] (dK (ts.take k))) t.a).getD 0+1) m 2 rfl rfl rfl rfl hS ?_;clear m hD' hS;intro es9 u m hD';clear hD9;have hD9:=hD';clear hD';simp only[zF,zG] at m;rw[←tF] at hD9;refine aK (⟨m.sel [true,true,false,true],?_⟩);refine Lb (gk ?_);refine hK2 _ _ _ ?_ m ?_
     · simp only[zz,zv]
     ·
      simp only[zQ,zR,zD,zE];exact⟨_,_,trivial,rfl,hD9⟩
   ·
    intro vs i wr m hI u;obtain⟨es9,c9,rfl,rfl,hD9⟩:=hI;simp only[zF,zG] at m;simp only[zu,zF,zG];refine cP 18 [1,0] m ?_;simp only[↓aD,ak];refine⟨by omega,?_⟩;intro u m;refine aC (sV rfl rfl) (aS 5 [0,0] m ?_);simp only[↓aD,eY,aO,aa];intro g5;intro u m;refine dA m 13 aB (by kernel_rfl) ?_;simp only[zy];refine eM 4 [0] ?_;simp only[↓aD,aO,ak];refine⟨by omega,?_⟩;refine aJ (eG (m:=2) (n:=3) (r:=2) rfl rfl (by decide) (by decide)) (eM 5 [2] ?_);simp only[↓aD,bM,aO,Jz,ad,ag,aa,ak];refine⟨by omega,?_⟩;refine aJ (eG (m:=3) (n:=3) (r:=0) rfl rfl (by decide) (by decide)) (eM 2 [2] ?_);simp only[↓aD,bM,aO,ad,ag,aa];refine⟨by omega,?_⟩;refine bD ?_;clear m;intro u m;refine mY (ek:=ed) (en:=pt) (a:=(t.b,t.c)) (v:=t.a) m 4 rfl Kg Bn rfl rfl rfl hD8 ?_;clear m;intro es8 c8 u m hD';clear hD8;have hD8:=hD';clear hD';simp only[zF,zG] at m;rw[←Ki] at hD8;refine aK (gc ?_);refine kU m 3 [] [40,41,42,43,44,45] (fun vs i=>∃(es:Array b_) (c:Nat),vs=[]∧i=mI q9 es c∧(bL pt rN (vL [] (((((dK (ts.take k))++[t.a]))++[t.b]))) es c)) ?_ ?_
    ·
     intro K3 hK3;refine Zt m [true,true,true,false,true] (.take 0 (.take 1 (.two 2 (.take 3 (.one 4 (.take 5 (.one 6 .nil)))) 4 (.take 5 (.one 2 (.take 3 (.one 6 .nil))))))) aB (by kernel_rfl) (bT (fun _ _ _ _ _ h=>h)) ?_;clear m;intro u m;have hb:=Mu (((dK (ts.take k))++[t.a])) t.b;try simp only[aw,ay,bu] at hb
     refine iQ (by simp only[zw];rfl) (bB aH (cK (iQ (by simp only[zw];rfl) ?_)));simp only[zz];refine eN rfl (fun u m=>((m.b 0 rfl).full aG aA)) ?_;simp only[zz];refine cK ?_;refine adr (by simp only[zw];rfl) (by simp only[zw];rfl) ?_ ?_
     ·
      refine fF (dZ (ek:=pt) (en:=rN) (k:=t.b) (v0:=0) oH lH fT rfl rfl (m.p 3 rfl) hD9) ?_;simp only[zz];refine aK (⟨m.sel [true,true,true,false,true],?_⟩);refine iQ (by simp only[zw];rfl) (bB (jL rfl rfl (dY (by omega) (by omega))) (cK (qB (by simp only[zw];rfl) ?_)));simp only[zz];refine xU (ek:=pt) (en:=rN) (a:=t.b) (v0:=0) m 3 rfl oH lH fT rfl rfl hD9 ?_;clear m;intro es9 c9 bs u m hD' hS;simp only[zF,zG] at m;refine aK (⟨m.sel [true,true,true,false,true],?_⟩);refine iQ (by simp only[zw];rfl) (bB (eZ rfl rfl) (cK (qB (by simp only[zw];rfl) ?_)));simp only[zz];refine pV (ek:=pt) (en:=rN) (a:=t.b) (v:=(cI (vL [] (((dK (ts.take k))++[t.a]))) t.b).getD 0+1) m 3 rfl rfl rfl rfl hS ?_;clear m hD' hS;intro es9 u m hD';clear hD9;have hD9:=hD';clear hD';simp only[zF,zG] at m;rw[←tF] at hD9;refine aK (⟨m.sel [true,true,true,false,true],?_⟩);refine Lb (gk ?_);refine hK3 _ _ _ ?_ m ?_
      · simp only[zz,zv]
      ·
       simp only[zQ,zR,zD,zE];exact⟨_,_,trivial,rfl,hD9⟩
     ·
      refine xU (ek:=pt) (en:=rN) (a:=t.b) (v0:=0) m 3 rfl oH lH fT rfl rfl hD9 ?_;clear m;intro es9 c9 bs u m hD' hS;simp only[zF,zG] at m;refine aK (⟨m.sel [true,true,true,false,true],?_⟩);refine iQ (by simp only[zw];rfl) (bB (eZ rfl rfl) (cK (qB (by simp only[zw];rfl) ?_)));simp only[zz];refine fF (dZ (ek:=pt) (en:=rN) (k:=t.b) (v0:=0) oH lH fT rfl rfl (m.p 3 rfl) hD') ?_;simp only[zz];rw[lW,if_pos rfl,cu];refine aK (⟨m.sel [true,true,true,false,true],?_⟩);refine iQ (by simp only[zw];rfl) (bB (jL rfl rfl (dY (by omega) (by omega))) (cK (qB (by simp only[zw];rfl) ?_)));simp only[zz];refine pV (ek:=pt) (en:=rN) (a:=t.b) (v:=(cI (vL [] (((dK (ts.take k))++[t.a]))) t.b).getD 0+1) m 3 rfl rfl rfl rfl hS ?_;clear m hD' hS;intro es9 u m hD';clear hD9;have hD9:=hD';clear hD';simp only[zF,zG] at m;rw[←tF] at hD9;refine aK (⟨m.sel [true,true,true,false,true],?_⟩);refine Lb (gk ?_);refine hK3 _ _ _ ?_ m ?_
      · simp only[zz,zv]
      ·
       simp only[zQ,zR,zD,zE];exact⟨_,_,trivial,rfl,hD9⟩
    ·
     intro vs i wr m hI u;obtain⟨es9,c9,rfl,rfl,hD9⟩:=hI;simp only[zF,zG] at m;simp only[zu,zF,zG];refine cP 18 [1,0] m ?_;simp only[↓aD,ak];refine⟨by omega,?_⟩;intro u m;refine aC (sW rfl rfl) (aS 5 [0,0] m ?_);simp only[↓aD,eY,aO,aa];intro g6;intro u m;refine dA m 13 aB (by kernel_rfl) ?_;simp only[zy];refine eM 4 [0] ?_;simp only[↓aD,aO,ak];refine⟨by omega,?_⟩;refine aJ (eG (m:=3) (n:=3) (r:=0) rfl rfl (by decide) (by decide)) (eM 5 [3] ?_);simp only[↓aD,bM,aO,Jz,ad,ag,aa,ak];refine⟨by omega,?_⟩;refine aJ (eG (m:=4) (n:=3) (r:=1) rfl rfl (by decide) (by decide)) (eM 2 [3] ?_);simp only[↓aD,bM,aO,ad,ag,aa];refine⟨by omega,?_⟩;refine bD ?_;clear m;intro u m;refine mY (ek:=ed) (en:=pt) (a:=(t.c,t.a)) (v:=t.b) m 5 rfl Kg Bn rfl rfl rfl hD8 ?_;clear m;intro es8 c8 u m hD';clear hD8;have hD8:=hD';clear hD';simp only[zF,zG] at m;rw[←Ki] at hD8;refine aK (gc ?_);refine kU m 4 [] [40,41,42,43,44,45] (fun vs i=>∃(es:Array b_) (c:Nat),vs=[]∧i=mI q9 es c∧(bL pt rN (vL [] (((((((dK (ts.take k))++[t.a]))++[t.b]))++[t.c]))) es c)) ?_ ?_
     ·
      intro K4 hK4;refine Zt m [true,true,true,true,false,true] (.take 0 (.take 1 (.two 2 (.take 3 (.one 4 (.take 5 (.one 6 .nil)))) 4 (.take 5 (.one 2 (.take 3 (.one 6 .nil))))))) aB (by kernel_rfl) (bT (fun _ _ _ _ _ h=>h)) ?_;clear m;intro u m;have hb:=Mu (((((dK (ts.take k))++[t.a]))++[t.b])) t.c;try simp only[aw,ay,bu] at hb
      refine iQ (by simp only[zw];rfl) (bB aH (cK (iQ (by simp only[zw];rfl) ?_)));simp only[zz];refine eN rfl (fun u m=>((m.b 0 rfl).full aG aA)) ?_;simp only[zz];refine cK ?_;refine adr (by simp only[zw];rfl) (by simp only[zw];rfl) ?_ ?_
      ·
       refine fF (dZ (ek:=pt) (en:=rN) (k:=t.c) (v0:=0) oH lH fT rfl rfl (m.p 4 rfl) hD9) ?_;simp only[zz];refine aK (⟨m.sel [true,true,true,true,false,true],?_⟩);refine iQ (by simp only[zw];rfl) (bB (jL rfl rfl (dY (by omega) (by omega))) (cK (qB (by simp only[zw];rfl) ?_)));simp only[zz];refine xU (ek:=pt) (en:=rN) (a:=t.c) (v0:=0) m 4 rfl oH lH fT rfl rfl hD9 ?_;clear m;intro es9 c9 bs u m hD' hS;simp only[zF,zG] at m;refine aK (⟨m.sel [true,true,true,true,false,true],?_⟩);refine iQ (by simp only[zw];rfl) (bB (eZ rfl rfl) (cK (qB (by simp only[zw];rfl) ?_)));simp only[zz];refine pV (ek:=pt) (en:=rN) (a:=t.c) (v:=(cI (vL [] (((((dK (ts.take k))++[t.a]))++[t.b]))) t.c).getD 0+1) m 4 rfl rfl rfl rfl hS ?_;clear m hD' hS;intro es9 u m hD';clear hD9;have hD9:=hD';clear hD';simp only[zF,zG] at m;rw[←tF] at hD9;refine aK (⟨m.sel [true,true,true,true,false,true],?_⟩);refine Lb (gk ?_);refine hK4 _ _ _ ?_ m ?_
       · simp only[zz,zv]
       ·
        simp only[zQ,zR,zD,zE];exact⟨_,_,trivial,rfl,hD9⟩
      ·
       refine xU (ek:=pt) (en:=rN) (a:=t.c) (v0:=0) m 4 rfl oH lH fT rfl rfl hD9 ?_;clear m;intro es9 c9 bs u m hD' hS;simp only[zF,zG] at m;refine aK (⟨m.sel [true,true,true,true,false,true],?_⟩);refine iQ (by simp only[zw];rfl) (bB (eZ rfl rfl) (cK (qB (by simp only[zw];rfl) ?_)));simp only[zz];refine fF (dZ (ek:=pt) (en:=rN) (k:=t.c) (v0:=0) oH lH fT rfl rfl (m.p 4 rfl) hD') ?_;simp only[zz];rw[lW,if_pos rfl,cu];refine aK (⟨m.sel [true,true,true,true,false,true],?_⟩);refine iQ (by simp only[zw];rfl) (bB (jL rfl rfl (dY (by omega) (by omega))) (cK (qB (by simp only[zw];rfl) ?_)));simp only[zz];refine pV (ek:=pt) (en:=rN) (a:=t.c) (v:=(cI (vL [] (((((dK (ts.take k))++[t.a]))++[t.b]))) t.c).getD 0+1) m 4 rfl rfl rfl rfl hS ?_;clear m hD' hS;intro es9 u m hD';clear hD9;have hD9:=hD';clear hD';simp only[zF,zG] at m;rw[←tF] at hD9;refine aK (⟨m.sel [true,true,true,true,false,true],?_⟩);refine Lb (gk ?_);refine hK4 _ _ _ ?_ m ?_
       · simp only[zz,zv]
       ·
        simp only[zQ,zR,zD,zE];exact⟨_,_,trivial,rfl,hD9⟩
     ·
      intro vs i wr m hI u;obtain⟨es9,c9,rfl,rfl,hD9⟩:=hI;simp only[zF,zG] at m;simp only[zu,zF,zG];refine cP 18 [2,0] m ?_;simp only[↓aD,ak];refine⟨by omega,?_⟩;intro u m;refine hK1 (N-(k+1)) _ _ ?_ ?_ ?_
      · omega
      · simp only[zz,zv]
      ·
       simp only[zQ,zR,zD,zE];exact⟨k+1,_,_,_,_,rfl,(m.sel [false,false,false,false,true,true]),by rw[abZ ht];simpa[dh] using hD8,by rw[Oy ht];simpa[dh] using hD9,by omega,rfl⟩
  ·
   have hkN:k=N:=by omega
   rw[hkN,show ts.take N=ts from a_ (by rw[hT.len];exact av _)] at hD8 hD9;refine aW 5 [0] m ?_;simp only[↓aD];intro u m;refine vJ m Kg rfl (m.p 1 rfl) ?_;clear m;intro r1 u m;refine aS 2 [0] m ?_;simp only[↓aD];intro u m;refine cE [] [2,9,10,11,12,13,50,51,52,53,54,55,56,57,58,59,60,61,62,63,64,65,66,67,68,69,70,71,72,73,74,75,76,77,78,79,80,81,82,83,84,85,86,87,88,89,90,91,92,93,94] (fun n vs wl=>∃(dn rs:List (E3 × P3)) (sn:Array Nat),vs=[]∧Mem w wl [iI r1 q8 c8 sn,mI q9 es9 c9,mI q8 es8 c8]∧(nQ ed pt (Dh [] (lD ts)) es8 sn dn rs)∧(∀y∈dn,¬Ww ts y.1)∧(n=rs.length)) ?_ ?_
   ·
    apply Exists.intro;simp only[zQ,zR,zD,zE];exact⟨[],_,#[],trivial,m,nQ.start hD8,fun _ h=>(by cases h),rfl⟩
   ·
    intro n vs wr hI u K5 hK5;clear m;obtain⟨dn,rs,sn,rfl,m,hT1,hno,hn⟩:=hI;simp only[zu,zF,zG];refine aW 2 [0] m ?_;simp only[↓aD];intro u m;refine Lh m 0 rfl rfl (m.p 2 rfl) hD8 hT1 ?_;clear m;intro bb kk vv sn u m hN;simp only[zF,zG] at m;refine aC (pP rfl) (aS 2 [0] m ?_);simp only[↓aD];intro u m;refine cN rfl (fun hc3=>?_) (fun hc3=>?_)
    ·
     obtain⟨kp,kb,rs2,hp,hT2⟩:=Gs hc3 hN;obtain⟨x,hx⟩:∃x,cI (Dh [] (lD ts)) kp=some x:=by
      cases h:cI (Dh [] (lD ts)) kp with
      | some x=>exact⟨x,rfl⟩
      | none =>
       refine absurd ?_ (oQ.1 h);have h1:=hT2.1.mem_iff (a:=(kp,kb));exact df.2 ⟨_,h1.1 (by simp),rfl⟩
     have hkx:bY ts kp.1 kp.2=some x:=by rw[←Ha hnd];exact hx
     obtain⟨M,hM⟩:∃M,M=uK (dK ts) kp.1:=⟨_,rfl⟩
     have hmM:(cI (vL [] (dK ts)) kp.1).getD 0=M:=by rw[aaE,hM]
     have hMl:M≤30000000:=by have h1:=Mu (dK ts) kp.1;rw[hmM,Ux,hT.len] at h1;omega
     refine aW 4 [0] m ?_;simp only[↓aD];intro u m;refine fF (sT rfl (m.r 0 rfl) (m.p 2 rfl) hD8 hT2) ?_;simp only[zz];refine aS 12 [0,0,0] m ?_;simp only[↓aD,Bk,uF,aa];intro g4;intro u m;refine fF (dZ (ek:=ed) (en:=pt) (k:=kp) (v0:=⟨0,0,0⟩) Kg iL Bn rfl rfl (m.p 3 rfl) hD8) ?_;simp only[zz];refine aS 3 [0] m ?_;simp only[↓aD,eY,aO,aa];intro g5;intro u m;rw[hx] at m;simp only[cu] at m;refine cP 2 [0] m ?_;simp only[↓aD];intro u m;refine cE [10] [12,13,57,58,59,60,61,62,63,64,65,66,67,68,69,70,71,72,73,74,75,76,77,78,79,80,81,82] (fun n vs wl=>∃(z:Nat) (a:P3),vs=[.int .i64 (z:Int)]∧Mem w wl [bI g5 (kN a) 30,bI g4 (cT kp) 215,iI r1 q8 c8 sn,mI q9 es9 c9,mI q8 es8 c8]∧(Ba (bY ts kp.1) kp.2 M x 1=Ba (bY ts kp.1) kp.2 (M+1-z) a z)∧(1≤z)∧(z≤M+1)∧(n=M+1-z)) ?_ ?_
     ·
      apply Exists.intro;simp only[zQ,zR,zD,zE];exact⟨1,x,rfl,m,rfl,av _,by omega,rfl⟩
     ·
      intro n vs wr hI u K6 hK6;clear m;obtain⟨z,a,rfl,m,hrun,hz1,hz2,hn4⟩:=hI;simp only[zu,zF,zG];refine aW 6 [0,1,0] m ?_;simp only[↓aD,aO,Bl,aa];intro u m;refine aC (fA rfl rfl) (aS 1 [0] m ?_);simp only[↓aD];intro u m;refine cS rfl (fun hb=>aH) (cS rfl (fun hb=>aH) (cS rfl (fun hb=>aT (c:=2) tL rfl aA rfl rfl) ?_));simp only[zz];refine gV rfl (fun hb=>aU (aV hb rfl) ((m.b 1 rfl).lies aG aA rfl rfl)) ?_;simp only[zz,zy,ar,aa,ag,ad];refine gV rfl (fun hb=>dZ (ek:=pt) (en:=rN) (k:=kp.1) (v0:=0) oH lH fT (aV hb rfl) (aV hb rfl) (m.p 3 rfl) hD9) ?_;simp only[zz];refine cS rfl (fun hb=>Do (aV hb rfl) (aV hb rfl)) (aC (bU rfl rfl rfl) ?_);refine aS 1 [0] m ?_;simp only[↓aD];intro u m;refine cN rfl (fun hc4=>?_) (fun hc4=>?_)
      ·
       have hs:¬a=kp.2∧z≤M:=by rw[hmM] at hc4;simpa[apO] using hc4
       refine aW 9 [1,0,0] m ?_;simp only[↓aD,Qd,aO,Jz,aa];intro u m;refine fF (Ts (ek:=ed) (en:=pt) (k:=(kp.1,a)) (v0:=⟨0,0,0⟩) Kg iL Bn rfl rfl (m.p 4 rfl) hD8) ?_;simp only[zz];refine aS 13 [0,0] m ?_;simp only[↓aD,eY,aO,aa];intro g6;intro u m;refine cN rfl (fun hc5=>?_) (fun hc5=>?_)
       ·
        have hyn:bY ts kp.1 a=none:=by rw[←Ha hnd];simpa using hc5
        have hfin:=hrun.trans (ak1 hyn);refine aW 6 [1,2,0] m ?_;simp only[↓aD,aO,Bl,aa];intro u m;refine aC (bW rfl rfl) (aS 1 [0] m ?_);simp only[↓aD];intro u m;refine cS rfl (fun hb=>aH) (cS rfl (fun hb=>aH) (cS rfl (fun hb=>aT (c:=2) tL rfl aA rfl rfl) ?_));simp only[zz];refine gV rfl (fun hb=>aU (aV hb rfl) ((m.b 2 rfl).lies aG aA rfl rfl)) ?_;simp only[zz,zy,ar,aa,ag,ad];refine gV rfl (fun hb=>dZ (ek:=pt) (en:=rN) (k:=kp.1) (v0:=0) oH lH fT (aV hb rfl) (aV hb rfl) (m.p 4 rfl) hD9) ?_;simp only[zz];refine cS rfl (fun hb=>rA (aV hb rfl) (aV hb rfl)) (aC (bU rfl rfl rfl) ?_);refine aS 1 [0] m ?_;simp only[↓aD];intro u m;refine cN rfl (fun hc6=>?_) (fun hc6=>?_)
        ·
         have hs:a=kp.2∧z<M:=by rw[hmM] at hc6;simpa[←xM] using hc6
         refine aW 5 [] m ?_;simp only[↓aD];intro u m;refine aR rfl rfl ?_;try simp only[zD,zE]
         exact⟨_,rfl,m.ext,by have hp:Ww ts kp:=⟨x,hkx,by rw[f_,←hM,hfin];exact hs.1,by rw[f_,←hM,hfin];exact hs.2⟩;rw[pinned.2 ⟨kp,hp⟩]⟩
        ·
         have hs:¬(a=kp.2∧z<M):=by rw[hmM] at hc6;simpa[←xM] using hc6
         have hno2:∀y∈dn++[(kp,kb)],¬Ww ts y.1:=fun y hy=>by
          rcases bt.1 hy with hy | hy
          · exact hno y hy
          ·
           obtain rfl:=bf.1 hy;rintro⟨x2,h1,h2,h3⟩;obtain rfl:x=x2:=dq (hkx.symm.trans h1);rw[f_,←hM,hfin] at h2 h3;exact hs ⟨h2,h3⟩
         refine jF 2 [0] m ?_;simp only[↓aD];rintro u m rfl;refine hK5 rs2.length _ _ ?_ ?_ ?_
         · rw[hn,hp.length_eq];exact el _
         · simp only[zz,zv]
         ·
          simp only[zQ,zR,zD,zE];exact⟨dn++[(kp,kb)],rs2,_,trivial,(m.sel [false,false,false,true,true,true]),hT2,hno2,rfl⟩
       ·
        obtain⟨y,hy⟩:∃y,cI (Dh [] (lD ts)) (kp.1,a)=some y:=by
         cases h:cI (Dh [] (lD ts)) (kp.1,a) with
         | some y=>exact⟨y,rfl⟩
         | none=>rw[h] at hc5;cases hc5
        have hya:bY ts kp.1 a=some y:=by rw[←Ha hnd];exact hy
        rw[hy] at m;simp only[cu] at m;refine aW 12 [0,1,0] m ?_;simp only[↓aD,aO,aa];refine⟨by omega,?_⟩;intro u m;refine hK6 (M+1-(z+1)) _ _ ?_ ?_ ?_
        · omega
        · simp only[zz,zv]
        ·
         simp only[zQ,zR,zD,zE];exact⟨z+1,y,rfl,(m.sel [false,true,true,true,true,true]),by rw[hrun,show M+1-z=(M+1-(z+1))+1 by omega,apM hs.1 hya],by omega,by omega,rfl⟩
      ·
       have hs0:a=kp.2∨¬z≤M:=by rw[hmM] at hc4;exact aid hc4
       have hfin:=hrun.trans (apN hz2 hs0);refine aW 6 [0,1,0] m ?_;simp only[↓aD,aO,Bl,aa];intro u m;refine aC (bW rfl rfl) (aS 1 [0] m ?_);simp only[↓aD];intro u m;refine cS rfl (fun hb=>aH) (cS rfl (fun hb=>aH) (cS rfl (fun hb=>aT (c:=2) tL rfl aA rfl rfl) ?_));simp only[zz];refine gV rfl (fun hb=>aU (aV hb rfl) ((m.b 1 rfl).lies aG aA rfl rfl)) ?_;simp only[zz,zy,ar,aa,ag,ad];refine gV rfl (fun hb=>dZ (ek:=pt) (en:=rN) (k:=kp.1) (v0:=0) oH lH fT (aV hb rfl) (aV hb rfl) (m.p 3 rfl) hD9) ?_;simp only[zz];refine cS rfl (fun hb=>rA (aV hb rfl) (aV hb rfl)) (aC (bU rfl rfl rfl) ?_);refine aS 1 [0] m ?_;simp only[↓aD];intro u m;refine cN rfl (fun hc6=>?_) (fun hc6=>?_)
       ·
        have hs:a=kp.2∧z<M:=by rw[hmM] at hc6;simpa[←xM] using hc6
        refine aW 5 [] m ?_;simp only[↓aD];intro u m;refine aR rfl rfl ?_;try simp only[zD,zE]
        exact⟨_,rfl,m.ext,by have hp:Ww ts kp:=⟨x,hkx,by rw[f_,←hM,hfin];exact hs.1,by rw[f_,←hM,hfin];exact hs.2⟩;rw[pinned.2 ⟨kp,hp⟩]⟩
       ·
        have hs:¬(a=kp.2∧z<M):=by rw[hmM] at hc6;simpa[←xM] using hc6
        have hno2:∀y∈dn++[(kp,kb)],¬Ww ts y.1:=fun y hy=>by
         rcases bt.1 hy with hy | hy
         · exact hno y hy
         ·
          obtain rfl:=bf.1 hy;rintro⟨x2,h1,h2,h3⟩;obtain rfl:x=x2:=dq (hkx.symm.trans h1);rw[f_,←hM,hfin] at h2 h3;exact hs ⟨h2,h3⟩
        refine jF 2 [0] m ?_;simp only[↓aD];rintro u m rfl;refine hK5 rs2.length _ _ ?_ ?_ ?_
        · rw[hn,hp.length_eq];exact el _
        · simp only[zz,zv]
        ·
         simp only[zQ,zR,zD,zE];exact⟨dn++[(kp,kb)],rs2,_,trivial,(m.sel [false,false,true,true,true]),hT2,hno2,rfl⟩
    ·
     obtain rfl:=Gr hc3 hN;refine jF 6 [] m ?_;simp only[↓aD];rintro u m rfl;refine aR rfl rfl ?_;try simp only[zD,zE]
     exact⟨_,rfl,m.ext,by cases h:(dO ts).any (Gx ts) with | false=>rfl | true=>(obtain⟨e,he⟩:=pinned.1 h;exact absurd he (aie hT1 hnd hno e))⟩
theorem ak2{ts:List T3}(h:¬(aZ ts).Nodup):(aZ ts).any (fun e=>decide (1<lL (aZ ts) e))=true:=by rw[Gz];exact decide_eq_true h
theorem aif{ts:List T3}(h:(aZ ts).Nodup):(aZ ts).any (fun e=>decide (1<lL (aZ ts) e))=false:=by rw[Gz];exact decide_eq_false fun k=>k h
theorem aig{ts:List T3}{N cap:Nat}{A:Option Addr}(w:aj)(hT:bP w A N ts)(hN:N≤10000000):dJ prog 97 [.slice A N cap,.bool true] w (fun v _=>v=.int .i64 (fM true ts)):=by
 refine⟨arE,?_⟩;have m:=Mem.refl w
 go_enter func97,ntmps97
 refine eC 12 [0] m ?_;simp only[↓aD,iU];intro u m;refine cE [11] [4,6,12,13,14,15,16,17,18,19,20,21,22,23,24,25,26,27,28,29,30,31,32,33,34] (fun n vs wl=>∃(k:Nat),vs=[.int .i64 (k:Int)]∧Mem w wl []∧((ts.take k).any wF=false)∧(k≤N)∧(n=N-k)) ?_ ?_
 ·
  apply Exists.intro;simp only[zQ,zR,zD,zE];exact⟨0,rfl,m,rfl,br _,rfl⟩
 ·
  intro n vs wr hI u K1 hK1;clear m;obtain⟨k,rfl,m,hd0,hk,hn⟩:=hI;simp only[zu,zF,zG];refine aW 5 [0,0] m ?_;simp only[↓aD];intro u m;refine bG rfl (fun hc1=>?_) (fun hc1=>?_)
  ·
   obtain⟨t,ht,_,a,rfl,hrow⟩:=hT.get (i:=k) (by omega);refine aW 5 [0] m ?_;simp only[↓aD];intro u m;refine aC (aF cC aL rfl rfl (by omega) (by omega) (bZ (ai _))) ?_;simp only[zz];refine aQ rfl ((hrow.ext m.ext).lies bV aL) ?_;simp only[zz];refine aS 9 [0,0,0,0] m ?_;simp only[↓aD,kX,dQ,bM,aO,aa,ad,ag];intro g1;refine⟨by omega,?_⟩;intro u m;refine aC (bW rfl rfl) (aS 1 [0] m ?_);simp only[↓aD];intro u m;refine bC rfl (fun hb=>aI cH aA rfl rfl (by decide) (by decide) rfl) ?_;simp only[zz];refine bS rfl (fun hb=>aU (aV hb rfl) ((m.b 0 rfl).lies aG aA rfl rfl)) ?_;simp only[zz,zy,ar,aa,ag,ad];refine bC rfl (fun hb=>aI cH aA rfl rfl (by decide) (by decide) rfl) ?_;simp only[zz];refine bS rfl (fun hb=>aU (aV hb rfl) ((m.b 0 rfl).lies aG aA rfl rfl)) ?_;simp only[zz,zy,ar,aa,ag,ad];refine bC rfl (fun hb=>bW (aV hb rfl) (aV hb rfl)) (aC (cF rfl rfl rfl) ?_);refine aS 1 [0] m ?_;simp only[↓aD];intro u m;refine bC rfl (fun hb=>aI cH aA rfl rfl (by decide) (by decide) rfl) ?_;simp only[zz];refine bS rfl (fun hb=>aU (aV hb rfl) ((m.b 0 rfl).lies aG aA rfl rfl)) ?_;simp only[zz,zy,ar,aa,ag,ad];refine bC rfl (fun hb=>aI cH aA rfl rfl (by decide) (by decide) rfl) ?_;simp only[zz];refine bS rfl (fun hb=>aU (aV hb rfl) ((m.b 0 rfl).lies aG aA rfl rfl)) ?_;simp only[zz,zy,ar,aa,ag,ad];refine bC rfl (fun hb=>bW (aV hb rfl) (aV hb rfl)) (aC (cF rfl rfl rfl) ?_);refine aS 1 [0] m ?_;simp only[↓aD];intro u m;refine jZ rfl (fun hc2=>?_) (fun hc2=>?_)
   ·
    have hd:=Gy (p:=wF) ht (Ws.symm.trans hc2);refine aW 5 [] m ?_;simp only[↓aD];intro u m;refine aR rfl rfl ?_;try simp only[zD,zE]
    exact⟨_,rfl,m.ext,by rw[adR hd]⟩
   ·
    have hd1:(ts.take (k+1)).any wF=false:=by rw[wG ht,hd0,←Ws];exact hc2
    refine aW 6 [0] m ?_;simp only[↓aD];refine⟨by omega,?_⟩;intro u m;refine hK1 (N-(k+1)) _ _ ?_ ?_ ?_
    · omega
    · simp only[zz,zv]
    ·
     simp only[zQ,zR,zD,zE];exact⟨k+1,rfl,(m.sel [false]),hd1,by omega,rfl⟩
  ·
   have hkN:k=N:=by omega
   rw[hkN,show ts.take N=ts from a_ (by rw[hT.len];exact av _)] at hd0;refine aW 4 [0] m ?_;simp only[↓aD];intro u m;refine bJ rfl rfl (Qt _ (hT.ext m.ext) hN) ?_;rintro v u e ⟨g8,es8,c8,rfl,hM,hD8⟩;replace m:=m.plus hM;clear hM e;simp only[ci,cd] at m;refine aS 14 [0] m ?_;simp only[↓aD];intro u m;refine cN rfl (fun hc3=>?_) (fun hc3=>?_)
   ·
    have hnd:¬(aZ ts).Nodup:=by simpa using hc3
    refine aW 5 [] m ?_;simp only[↓aD];intro u m;refine aR rfl rfl ?_;try simp only[zD,zE]
    exact⟨_,rfl,m.ext,by rw[adS hd0 (ak2 hnd)]⟩
   ·
    have hnd:(aZ ts).Nodup:=by simpa using hc3
    refine aW 16 [0] m ?_;simp only[↓aD,Bool.not_true,gp];intro u m;refine cU m rfl rfl (acA _ (hT.ext m.ext) hN hnd) ?_;clear m;rintro v u m rfl;refine aS 2 [0] m ?_;simp only[↓aD];intro u m;refine cN rfl (fun hc5=>?_) (fun hc5=>?_)
    ·
     refine aW 5 [] m ?_;simp only[↓aD];intro u m;refine aR rfl rfl ?_;try simp only[zD,zE]
     exact⟨_,rfl,m.ext,by rw[adT hd0 (aif hnd) rfl hc5]⟩
    ·
     refine aW 7 [] m ?_;simp only[↓aD];intro u m;refine aR rfl rfl ?_;try simp only[zD,zE]
     exact⟨_,rfl,m.ext,by rw[aia hd0 (aif hnd) rfl hc5]⟩
theorem xV{ts:List T3}{N cap:Nat}{A:Option Addr}(w:aj)(hT:bP w A N ts)(hN:N≤10000000):dJ prog 49 [.slice A N cap] w (fun v _=>v=.int .i64 (fM true ts)):=by
 refine⟨aq8,?_⟩;have m:=Mem.refl w
 go_enter func49,ntmps49
 refine eC 7 [0] m ?_;simp only[↓aD];intro u m;refine cU m rfl rfl (aig _ (hT.ext m.ext) hN) ?_;clear m;rintro v u m rfl;refine aS 3 [] m ?_;simp only[↓aD];intro u m;exact aR rfl rfl (⟨_,rfl,m.ext,rfl⟩)
theorem apP{t:T3}(h1:t.b.Lt t.a)(h2:t.c.Lt t.b):dM t=⟨t.c,t.a,t.b⟩:=if_pos ⟨P3.lt_trans h2 h1,.inl h2⟩
theorem apQ{t:T3}(h1:t.b.Lt t.a)(h2:¬t.c.Lt t.b):dM t=⟨t.b,t.c,t.a⟩:=by rw[dM,if_neg (fun h=>h.2.elim h2 fun k=>k h1),if_pos h1]
theorem apR{t:T3}(h1:¬t.b.Lt t.a)(h2:t.c.Lt t.a):dM t=⟨t.c,t.a,t.b⟩:=if_pos ⟨h2,.inr h1⟩
theorem apS{t:T3}(h1:¬t.b.Lt t.a)(h2:¬t.c.Lt t.a):dM t=t:=by rw[dM,if_neg (fun h=>h2 h.1),if_neg h1]
theorem afi{t:T3}:dL prog 111 [tr t] (tr (dM t)):=by
 intro w;refine⟨amK,?_⟩;have m:=Mem.refl w
 go_enter func111,ntmps111
 refine eC 28 [3,1,0] m ?_;simp only[↓aD,kX];intro g1 g2;refine⟨by omega,?_⟩;intro u m;refine mq m aB (by kernel_rfl) (eM 6 [1,1] ?_);simp only[↓aD,bM,aO,ad,ag,aa];refine⟨by omega,?_⟩;refine eR rfl rfl sX.pure (bD ?_);clear m;intro u m;refine gc ?_;simp only[zz];refine bG rfl (fun hc2=>?_) (fun hc2=>?_)
 ·
  have h1:=hc2;refine aW 22 [1,0] m ?_;simp only[↓aD,ak];refine⟨by omega,?_⟩;intro u m;refine mq m aB (by kernel_rfl) (eM 6 [1,1] ?_);simp only[↓aD,bM,aO,ad,ag,aa];refine⟨by omega,?_⟩;refine eR rfl rfl sX.pure (bD ?_);clear m;intro u m;refine gc ?_;simp only[zz];refine bG rfl (fun hc2=>?_) (fun hc2=>?_)
  ·
   have h2:=hc2;refine aW 20 [2,0] m ?_;simp only[↓aD,ak];refine⟨by omega,?_⟩;intro u m;refine dA m 14 aB (by kernel_rfl) ?_;simp only[zy];refine eM 5 [1] ?_;simp only[↓aD,bM,aO,ad,ag,aa,ak];refine⟨by omega,?_⟩;refine aJ (eG (m:=3) (n:=3) (r:=0) rfl rfl (by decide) (by decide)) (eM 4 [1] ?_);simp only[↓aD,bM,aO,ad,ag,aa,ak];refine⟨by omega,?_⟩;refine aJ (eG (m:=4) (n:=3) (r:=1) rfl rfl (by decide) (by decide)) (eM 3 [1] ?_);simp only[↓aD,bM,aO,rL,ad,ag,aa];refine⟨by omega,?_⟩;refine bD ?_;clear m;intro u m;refine bR m 0 rfl rfl rfl aL (iS rfl) rfl ?_;clear m;intro u m;simp only[zy,zx,cA,zF,zG,aa] at m;refine aK (cP 1 [] m ?_);simp only[↓aD];intro u m;refine aR rfl ⟨_,rfl,((m.b 0 rfl).full bV aL)⟩ ?_;try simp only[zD,zE]
   exact⟨_,rfl,m.ext,by rw[apP h1 h2];rfl⟩
  ·
   have h2:=hc2;refine aW 17 [2,0] m ?_;simp only[↓aD,ak];refine⟨by omega,?_⟩;intro u m;refine dA m 14 aB (by kernel_rfl) ?_;simp only[zy];refine eM 5 [1] ?_;simp only[↓aD,bM,aO,ad,ag,aa,ak];refine⟨by omega,?_⟩;refine aJ (eG (m:=2) (n:=3) (r:=2) rfl rfl (by decide) (by decide)) (eM 4 [1] ?_);simp only[↓aD,bM,aO,ad,ag,aa,ak];refine⟨by omega,?_⟩;refine aJ (eG (m:=3) (n:=3) (r:=0) rfl rfl (by decide) (by decide)) (eM 3 [1] ?_);simp only[↓aD,bM,aO,rL,ad,ag,aa];refine⟨by omega,?_⟩;refine bD ?_;clear m;intro u m;refine bR m 0 rfl rfl rfl aL (iS rfl) rfl ?_;clear m;intro u m;simp only[zy,zx,cA,zF,zG,aa] at m;refine aK (cP 1 [] m ?_);simp only[↓aD];intro u m;refine aR rfl ⟨_,rfl,((m.b 0 rfl).full bV aL)⟩ ?_;try simp only[zD,zE]
   exact⟨_,rfl,m.ext,by rw[apQ h1 h2];rfl⟩
 ·
  have h1:=hc2;refine aW 19 [1,0] m ?_;simp only[↓aD,ak];refine⟨by omega,?_⟩;intro u m;refine mq m aB (by kernel_rfl) (eM 6 [1,1] ?_);simp only[↓aD,bM,aO,ad,ag,aa];refine⟨by omega,?_⟩;refine eR rfl rfl sX.pure (bD ?_);clear m;intro u m;refine gc ?_;simp only[zz];refine bG rfl (fun hc2=>?_) (fun hc2=>?_)
  ·
   have h2:=hc2;refine aW 20 [2,0] m ?_;simp only[↓aD,ak];refine⟨by omega,?_⟩;intro u m;refine dA m 14 aB (by kernel_rfl) ?_;simp only[zy];refine eM 5 [1] ?_;simp only[↓aD,bM,aO,ad,ag,aa,ak];refine⟨by omega,?_⟩;refine aJ (eG (m:=3) (n:=3) (r:=0) rfl rfl (by decide) (by decide)) (eM 4 [1] ?_);simp only[↓aD,bM,aO,ad,ag,aa,ak];refine⟨by omega,?_⟩;refine aJ (eG (m:=4) (n:=3) (r:=1) rfl rfl (by decide) (by decide)) (eM 3 [1] ?_);simp only[↓aD,bM,aO,rL,ad,ag,aa];refine⟨by omega,?_⟩;refine bD ?_;clear m;intro u m;refine bR m 0 rfl rfl rfl aL (iS rfl) rfl ?_;clear m;intro u m;simp only[zy,zx,cA,zF,zG,aa] at m;refine aK (cP 1 [] m ?_);simp only[↓aD];intro u m;refine aR rfl ⟨_,rfl,((m.b 0 rfl).full bV aL)⟩ ?_;try simp only[zD,zE]
   exact⟨_,rfl,m.ext,by rw[apR h1 h2];rfl⟩
  ·
   have h2:=hc2;refine aW 17 [2,0] m ?_;simp only[↓aD,ak];refine⟨by omega,?_⟩;intro u m;refine dA m 14 aB (by kernel_rfl) ?_;simp only[zy];refine eM 5 [1] ?_;simp only[↓aD,bM,aO,ad,ag,aa,ak];refine⟨by omega,?_⟩;refine aJ (eG (m:=1) (n:=3) (r:=1) rfl rfl (by decide) (by decide)) (eM 4 [1] ?_);simp only[↓aD,bM,aO,ad,ag,aa,ak];refine⟨by omega,?_⟩;refine aJ (eG (m:=2) (n:=3) (r:=2) rfl rfl (by decide) (by decide)) (eM 3 [1] ?_);simp only[↓aD,bM,aO,rL,ad,ag,aa];refine⟨by omega,?_⟩;refine bD ?_;clear m;intro u m;refine bR m 0 rfl rfl rfl aL (iS rfl) rfl ?_;clear m;intro u m;simp only[zy,zx,cA,zF,zG,aa] at m;refine aK (cP 1 [] m ?_);simp only[↓aD];intro u m;refine aR rfl ⟨_,rfl,((m.b 0 rfl).full bV aL)⟩ ?_;try simp only[zD,zE]
   exact⟨_,rfl,m.ext,by rw[apS h1 h2];rfl⟩
end Go.Proofs.YtfekpcimgncioaaGreatDoor
namespace Go.Proofs.YtfekpcimgncioaaGreatDoor
open Go.Proofs.Tryz
open Go.RowKit Go.Lith
set_option maxRecDepth 100000
attribute [local irreducible] au cg fR bO cO Code.wp
theorem aih{x y z:Int}{g1:Nat}(w:aj)(hB1:fK w g1 [.int .i64 x,.int .i64 y,.int .i64 z] 3):ah6 prog 125 [.slice (some ⟨g1,0,none⟩) 3 3] w (.int .i64 (if x=0 then if y=0 then z else y else x)):=by
 refine⟨agb,?_⟩;have m:=iJ.refl w
 go_enter func125,ntmps125
 refine bA fun K1 k1=>ap (aC aM (aK (k1 _ _ ?_)));try clear k1 K1
 refine bA fun K2 k2=>ap (aC aM (aK (k2 _ _ ?_)));try clear k2 K2
 refine bA fun K3 k3=>bA fun K4 k4=>ap (aC aH (aC (Ip rfl eA rfl) ?_));simp only[zz];refine aC aH (aK (k4 _ _ ?_));try clear k4 K4
 refine jc (ny 4 (Ai (bA fun K5 k5=>ap (aC (qH (m:=0) (n:=3) rfl rfl (by decide)) (aK (k5 _ _ ?_))))));try clear k5 K5
 refine bA fun K6 k6=>yZ rfl (jf (k6 _ _ ?_));try clear k6 K6
 refine bA fun K7 k7=>jc (bA fun K8 k8=>ap ?_);simp only[zz];refine aC (aF eA aX rfl rfl (by decide) (by omega) rfl) ?_;simp only[zz];refine aQ rfl ((hB1.ext m.ext.ext).lies1 bE rfl) ?_;simp only[zz];refine aC aM (aK (k8 _ _ ?_));try clear k8 K8
 refine bA fun K9 k9=>ap (aC aH (aC aH (aC (qA rfl rfl) ?_)));simp only[zz];refine aK (k9 _ _ ?_);try clear k9 K9
 refine bG rfl (fun hc2=>?_) (fun hc2=>?_)
 · skip
   refine bA fun K10 k10=>ap (aC aH (aC aM (aK (k10 _ _ ?_))));try clear k10 K10
   refine iq ?_;simp only[zz];try simp only[cq,Exit.then,if_true]
   refine aR rfl rfl ?_;try simp only[zD,zE]
   exact⟨_,rfl,m.ext,by rw[if_neg hc2]⟩
 · skip
   have hx:x=0:=by omega
   refine jf (k7 _ _ ?_);try clear k7 K7
   refine ap (aC (jL (m:=0) (n:=1) (r:=1) rfl rfl (by decide)) (aC aH (aK (lC (bA fun K11 k11=>ap (aC (qH (m:=1) (n:=3) rfl rfl (by decide)) (aK (k11 _ _ ?_))))))));try clear k11 K11
   refine bA fun K12 k12=>yZ rfl (jf (k12 _ _ ?_));try clear k12 K12
   refine bA fun K13 k13=>jc (bA fun K14 k14=>ap ?_);simp only[zz];refine aC (aF eA aX rfl rfl (by decide) (by omega) rfl) ?_;simp only[zz];refine aQ rfl ((hB1.ext m.ext.ext).lies1 bE rfl) ?_;simp only[zz];refine aC aM (aK (k14 _ _ ?_));try clear k14 K14
   refine bA fun K15 k15=>ap (aC aH (aC aH (aC (qA rfl rfl) ?_)));simp only[zz];refine aK (k15 _ _ ?_);try clear k15 K15
   refine bG rfl (fun hc2=>?_) (fun hc2=>?_)
   · skip
     refine bA fun K16 k16=>ap (aC aH (aC aM (aK (k16 _ _ ?_))));try clear k16 K16
     refine iq ?_;simp only[zz];try simp only[cq,Exit.then,if_true]
     refine aR rfl rfl ?_;try simp only[zD,zE]
     exact⟨_,rfl,m.ext,by rw[if_pos hx,if_neg hc2]⟩
   · skip
     have hy:y=0:=by omega
     refine jf (k13 _ _ ?_);try clear k13 K13
     refine ap (aC (jL (m:=1) (n:=1) (r:=2) rfl rfl (by decide)) (aC aH (aK (lC (bA fun K17 k17=>ap (aC (qH (m:=2) (n:=3) rfl rfl (by decide)) (aK (k17 _ _ ?_))))))));try clear k17 K17
     refine bA fun K18 k18=>yZ rfl (jf (k18 _ _ ?_));try clear k18 K18
     refine bA fun K19 k19=>jc (bA fun K20 k20=>ap ?_);simp only[zz];refine aC (aF eA aX rfl rfl (by decide) (by omega) rfl) ?_;simp only[zz];refine aQ rfl ((hB1.ext m.ext.ext).lies1 bE rfl) ?_;simp only[zz];refine aC aM (aK (k20 _ _ ?_));try clear k20 K20
     refine bA fun K21 k21=>ap (aC aH (aC aH (aC (qA rfl rfl) ?_)));simp only[zz];refine aK (k21 _ _ ?_);try clear k21 K21
     refine bG rfl (fun hc2=>?_) (fun hc2=>?_)
     · skip
       refine bA fun K22 k22=>ap (aC aH (aC aM (aK (k22 _ _ ?_))));try clear k22 K22
       refine iq ?_;simp only[zz];try simp only[cq,Exit.then,if_true]
       refine aR rfl rfl ?_;try simp only[zD,zE]
       exact⟨_,rfl,m.ext,by rw[if_pos hx,if_pos hy]⟩
     · skip
       have hz:z=0:=by omega
       refine jf (k19 _ _ ?_);try clear k19 K19
       refine ap (aC (jL (m:=2) (n:=1) (r:=3) rfl rfl (by decide)) (aC aH (aK (lC (bA fun K23 k23=>ap (aC (Ei (m:=3) (n:=3) rfl rfl (by decide)) (aK (k23 _ _ ?_))))))));try clear k23 K23
       refine bA fun K24 k24=>aej rfl (wp_exit (k3 _ _ ?_));try clear k3 K3
       refine bA fun K25 k25=>ap (aC aH ?_);simp only[zz];refine aC aM (aK (k25 _ _ ?_));try clear k25 K25
       refine iq ?_;simp only[zz];try simp only[cq,Exit.then,if_true]
       refine aR rfl rfl ?_;try simp only[zD,zE]
       exact⟨_,rfl,m.ext,by rw[if_pos hx,if_pos hy,hz]⟩
def acB(s t:T3):Int:=if pZ s.a t.a=0 then if pZ s.b t.b=0 then pZ s.c t.c else pZ s.b t.b else pZ s.a t.a
theorem Hr(s t:T3):(acB s t<0)↔s.Lt t:=by
 unfold acB T3.Lt;split
 · rename_i h
   have h':=nA.1 h;have n1:¬s.a.Lt t.a:=fun k=>P3.lt_irrefl _ (h'▸k);split
   · rename_i g
     have g':=nA.1 g;have n2:¬s.b.Lt t.b:=fun k=>P3.lt_irrefl _ (g'▸k);rw[lP];simp[h',g',P3.lt_irrefl]
   · rename_i g
     have g':¬s.b=t.b:=fun e=>g (nA.2 e);rw[lP];simp[h',g',P3.lt_irrefl]
 · rename_i h
   have h':¬s.a=t.a:=fun e=>h (nA.2 e);rw[lP];simp[h']
instance:Inhabited T3:=⟨⟨⟨0,0,0⟩,⟨0,0,0⟩,⟨0,0,0⟩⟩⟩
theorem aii:Go.Sort.SWO (Go.Proofs.ltOf acB) where
 irrefl a:=by simp only[Go.Proofs.ltOf,decide_eq_false_iff_not,Hr];exact T3.lt_irrefl a
 trans x y z h1 h2:=by
  simp only[Go.Proofs.ltOf,decide_eq_true_eq,Hr] at *
  exact T3.lt_trans h1 h2
 ntrans x y z h1 h2:=by
  simp only[Go.Proofs.ltOf,decide_eq_false_iff_not,Hr] at *
  intro h;rcases T3.lt_tri y x with k | k | k
  · exact absurd (T3.lt_trans k h) (by first | exact h2 | exact h1)
  · subst k;first | exact h2 h | exact h1 h
  · first | exact h1 k | exact h2 k
theorem Xq(t:T3):∀v∈aN t,v.oneCell'=true:=fun v h=>by
 simp only[aN,ao,bz,or_false] at h;rcases h with rfl | rfl | rfl | rfl | rfl | rfl | rfl | rfl | rfl <;> rfl
theorem ak3{p q:T3}:sE prog 113 [tr p,tr q] (.int .i64 (acB p q)):=by
 intro w;refine⟨amM,?_⟩;have m:=iJ.refl w
 go_enter func113,ntmps113
 refine bA fun K1 k1=>ap (oF m rfl ?_);clear m;intro g1 u m;simp only[zz];refine oF m rfl ?_;clear m;intro g2 u m;refine aC aM (aK (k1 _ _ ?_));try clear k1 K1
 refine bA fun K2 k2=>?_;simp only[zz];refine Oj m 15 aB (by kernel_rfl) ?_;simp only[zy];refine aJ (aI cH aA rfl rfl (by decide) (by decide) rfl) ?_;simp only[zz];refine Rt rfl (fun u m=>((m.b 1 rfl).lies aG aA rfl rfl)) ?_;simp only[zz,zy,ar,aa,ag,ad];refine aJ (aI cH aA rfl rfl (by decide) (by decide) rfl) ?_;simp only[zz];refine Rt rfl (fun u m=>((m.b 0 rfl).lies aG aA rfl rfl)) ?_;simp only[zz,zy,ar,aa,ag,ad];refine Gp rfl rfl (Cw (p:=p.a) (q:=q.a)) (aJ (aI cH aA rfl rfl (by decide) (by decide) rfl) ?_);simp only[zz];refine Rt rfl (fun u m=>((m.b 1 rfl).lies aG aA rfl rfl)) ?_;simp only[zz,zy,ar,aa,ag,ad];refine aJ (aI cH aA rfl rfl (by decide) (by decide) rfl) ?_;simp only[zz];refine Rt rfl (fun u m=>((m.b 0 rfl).lies aG aA rfl rfl)) ?_;simp only[zz,zy,ar,aa,ag,ad];refine Gp rfl rfl (Cw (p:=p.b) (q:=q.b)) (aJ (aI cH aA rfl rfl (by decide) (by decide) rfl) ?_);simp only[zz];refine Rt rfl (fun u m=>((m.b 1 rfl).lies aG aA rfl rfl)) ?_;simp only[zz,zy,ar,aa,ag,ad];refine aJ (aI cH aA rfl rfl (by decide) (by decide) rfl) ?_;simp only[zz];refine Rt rfl (fun u m=>((m.b 0 rfl).lies aG aA rfl rfl)) ?_;simp only[zz,zy,ar,aa,ag,ad];refine Gp rfl rfl (Cw (p:=p.c) (q:=q.c)) (bD ?_);clear m;intro u m;simp only[zz];refine aaB m eA (z:=.int .i64 0) (by kernel_rfl) rfl rfl rfl rfl rfl rfl rfl ?_;clear m;intro g3 u m;simp only[zz];refine Xm m rfl rfl (aih _ (m.b 0 rfl)) ?_;clear m;intro u m;refine aC aM (aK (k2 _ _ ?_));try clear k2 K2
 refine iq ?_;simp only[zz];try simp only[cq,Exit.then,if_true]
 refine aR rfl rfl ?_;try simp only[zD,zE]
 exact⟨_,rfl,m.ext,rfl⟩
theorem apT{p q:P3}(h:p.x=q.x∧p.y=q.y∧p.z=q.z):(0:Int)=pZ p q:=(nA.2 (P3.eq h.1 h.2.1 h.2.2)).symm
theorem apU{p q:P3}(h:p.Lt q):(-1:Int)=pZ p q:=(if_pos h).symm
theorem apV{p q:P3}(h1:¬(p.x=q.x∧p.y=q.y∧p.z=q.z))(h2:¬p.Lt q):(1:Int)=pZ p q:=by
 unfold pZ;rcases P3.lt_tri p q with h | h | h
 · exact absurd h h2
 · exact absurd (by rw[h];exact⟨rfl,rfl,rfl⟩) h1
 · rw[if_neg h2,if_pos h]
theorem Qu{p q:P3}:sE prog 70 [pt p,pt q] (.int .i64 (pZ p q)):=by
 intro w;refine⟨arv,?_⟩;have m:=iJ.refl w
 go_enter func70,ntmps70
 refine bA fun K1 k1=>ap (oF m rfl ?_);clear m;intro g1 u m;simp only[zz];refine oF m rfl ?_;clear m;intro g2 u m;refine aC aM (aK (k1 _ _ ?_));try clear k1 K1
 refine bA fun K2 k2=>jc (bA fun K3 k3=>ap ?_);simp only[zz];refine aQ rfl ((m.b 1 rfl).full aG aA) ?_;simp only[zz];refine aQ rfl ((m.b 0 rfl).full aG aA) ?_;simp only[zz];refine aC (bW rfl rfl) (aC aM (aK (k3 _ _ ?_)));try clear k3 K3
 simp only[zz];refine bG rfl (fun hc1=>?_) (fun hc1=>?_)
 · skip
   refine bA fun K4 k4=>ap (aC aM (aK (k4 _ _ ?_)));try clear k4 K4
   refine iq ?_;simp only[zz];try simp only[cq,Exit.then,if_true]
   refine aR rfl rfl ?_;try simp only[zD,zE]
   exact⟨_,rfl,m.ext,by rw[←apT hc1]⟩
 · skip
   refine bA fun K5 k5=>ap (aQ rfl ((m.b 1 rfl).full aG aA) ?_);simp only[zz];refine aQ rfl ((m.b 0 rfl).full aG aA) ?_;simp only[zz];refine Mp m rfl rfl (sX (p:=p) (q:=q)) ?_;clear m;intro u m;refine aC aM (aK (k5 _ _ ?_));try clear k5 K5
   simp only[zz];refine bG rfl (fun hc2=>?_) (fun hc2=>?_)
   · skip
     refine bA fun K6 k6=>ap (aC aM (aK (k6 _ _ ?_)));try clear k6 K6
     refine iq ?_;simp only[zz];try simp only[cq,Exit.then,if_true]
     refine aR rfl rfl ?_;try simp only[zD,zE]
     exact⟨_,rfl,m.ext,by rw[←apU hc2]⟩
   · skip
     refine jf (k2 _ _ ?_);try clear k2 K2
     refine bA fun K7 k7=>ap (aC aM (aK (k7 _ _ ?_)));try clear k7 K7
     refine iq ?_;simp only[zz];try simp only[cq,Exit.then,if_true]
     refine aR rfl rfl ?_;try simp only[zD,zE]
     exact⟨_,rfl,m.ext,by rw[←apV hc1 hc2]⟩
end Go.Proofs.YtfekpcimgncioaaGreatDoor
namespace Go.Proofs.YtfekpcimgncioaaGreatDoor
open Go.Proofs.Tryz
open Go.RowKit Go.Lith
set_option maxRecDepth 100000
attribute [local irreducible] au cg fR bO cO Code.wp
attribute [local congr] pL fX fY fZ gA gB kI gC gD gE gF gG gH gI gJ gK gL gM eS eT gN gQ gS gT gU kK dC dD cR dB gR kJ eV eW eX gW gX kL
theorem afj{w0 w:aj}{is:List It}{A:Option Addr}{n cap:Nat}{xs:List T3}(m:Mem w0 w is)(k:Nat)(hi:is[k]? = some (oI 39 9 A n cap (xs.flatMap aN)))(hsz:n<4611686018427387904) :
 Calls prog 112 [.slice A n cap,.func (.func 113) #[] #[]].toArray w fun e w'=>∃v i,e=.returned v∧Mem w0 w' (is.set k i)∧(v=.tuple #[]∧∃ys:List T3,i=oI 39 9 A n cap (ys.flatMap aN)∧ys.Perm xs∧ys.Pairwise fun a b=>ltOf acB b a=false) :=
 Au (enc:=aN) Tryz.sort112 (fun w=>oZ bV w) (fun w=>eH aL w) (fun _=>rfl) (by decide) Xq acB aii (fun x y=>ak3) m k hi hsz
theorem acC{ts ys:List T3}(h:ys.Perm (ts.map dM))(hs:ys.Pairwise fun a b=>Go.Proofs.ltOf acB b a=false):ys=dW ts :=
 ahr h (hs.imp fun {a b} h k=>by
  have:=(Hr b a).2 k;simp[Go.Proofs.ltOf] at h;omega)
theorem aaF{ts:List T3}{N cap:Nat}{A:Option Addr}(w:aj)(hT:bP w A N ts)(hN:N≤10000000):dJ prog 55 [.slice A N cap] w (SL 39 9 ((dW ts).flatMap aN) ts.length w):=by
 refine⟨are,?_⟩;have m:=Mem.refl w;have htl:=hT.len
 go_enter func55,ntmps55
 refine eC 6 [0] m ?_;simp only[↓aD];intro u m;refine aC aM ?_;replace m:=m.nilO 39 9;refine aS 9 [0] m ?_;simp only[↓aD,iU];intro u m;refine cE [3,8] [5,9,10,11,12,13,14,15,16,17] (fun n vs wl=>∃(k:Nat) (A1:Option Addr) (cap1:Nat),vs=[.slice A1 k cap1,.int .i64 (k:Int)]∧Mem w wl [oI 39 9 A1 k cap1 (((ts.take k).map dM).flatMap aN)]∧(k≤N)∧(n=N-k)) ?_ ?_
 · skip
   apply Exists.intro;simp only[zQ,zR,zD,zE];exact⟨0,_,_,rfl,m,br _,rfl⟩
 · intro n vs wr hI u K1 hK1
   clear m;obtain⟨k,A1,cap1,rfl,m,hk,hn⟩:=hI;simp only[zu,zF,zG];refine aW 5 [0,0] m ?_;simp only[↓aD];intro u m;refine bG rfl (fun hc1=>?_) (fun hc1=>?_)
   · skip
     obtain⟨t,ht,_,a,rfl,hrow⟩:=hT.get (i:=k) (by omega);refine aW 5 [0] m ?_;simp only[↓aD];intro u m;refine aC (aF cC aL rfl rfl (by omega) (by omega) (bZ (ai _))) ?_;simp only[zz];refine aQ rfl ((hrow.ext m.ext).lies bV aL) ?_;simp only[zz];refine aS 6 [0,0,0] m ?_;simp only[↓aD,kX,dQ,aa];intro g1;intro u m;refine lJ m rfl rfl afi ?_;clear m;intro u m;simp only[zz];refine fH rfl ?_;intro u g2 e hg hB;replace m:=m.newB e hg hB;clear e hg hB;simp only[zz];refine bQ m 2 rfl rfl cC kA rfl (by decide) rfl rfl rfl (m.b 0 rfl).rowsO (fW rfl) (by omega) (by omega) ?_;clear m;intro A1 cap1 u m;simp only[zF,zG] at m;rw[show ((ts.take k).map dM).flatMap aN++_=((ts.take (k+1)).map dM).flatMap aN by rw[bX ht,cl,ba];rfl] at m;refine aS 7 [0] m ?_;simp only[↓aD];refine⟨by omega,?_⟩;intro u m;refine hK1 (N-(k+1)) _ _ ?_ ?_ ?_
     · omega
     · simp only[zz,zv]
     · simp only[zQ,zR,zD,zE]
       exact⟨k+1,_,_,rfl,(m.sel [false,false,true]),by omega,rfl⟩
   · skip
     obtain rfl:k=N:=by omega
     rw[show ts.take k=ts from a_ (by omega)] at m;refine aW 4 [0] m ?_;simp only[↓aD];intro u m;refine lZ m 0 amL rfl rfl (fun m=>afj m 0 rfl (by omega)) ?_;clear m;rintro v i u m ⟨rfl,ys,rfl,hys,hso⟩;simp only[zF,zG] at m;simp only[zz];obtain rfl:=acC hys hso;refine aS 7 [] m ?_;simp only[↓aD];intro u m;exact aR rfl rfl (⟨_,rfl,m.ext,⟨_,_,_,htl.symm,rfl,(m.o 0 rfl)⟩⟩)
theorem Uy{u v x:P3}(h:x.x=u.x∧x.y=u.y∧x.z=u.z):rU u v x=v:=by
 rw[show x=u from P3.eq h.1 h.2.1 h.2.2];exact arW
theorem Kj{u v x:P3}(h:¬(x.x=u.x∧x.y=u.y∧x.z=u.z)):rU u v x=x:=arX fun e=>h (by rw[e];exact⟨rfl,rfl,rfl⟩)
theorem pne{p q:P3}:decide (¬(p.x=q.x∧p.y=q.y∧p.z=q.z))=decide (p≠q):=decide_eq_decide.2 ⟨fun h e=>h (by rw[e];exact⟨rfl,rfl,rfl⟩),fun h e=>h (P3.eq e.1 e.2.1 e.2.2)⟩
theorem adU{t:T3}{p q:P3}:dL prog 54 [tr t,pt p,pt q] (.tuple #[tr (jG p q t),.bool (jG p q t).nd]):=by
 intro w;refine⟨ard,?_⟩;have m:=Mem.refl w
 go_enter func54,ntmps54
 refine eC 31 [4,1,0] m ?_;simp only[↓aD,kX];intro g1 g2 g3 g4;refine⟨by omega,?_⟩;intro u m;refine mq m aB (by kernel_rfl) (eM 4 [3,2] ?_);simp only[↓aD,bM,aO,ad,ag,aa];refine⟨by omega,?_⟩;refine aJ (bW rfl rfl) (bD ?_);clear m;intro u m;refine gc ?_;simp only[zz];refine kU m 3 [] [17,18,19] (fun vs i=>vs=[]∧i=bI g1 [.int .i64 (rU p q t.a).x,.int .i64 (rU p q t.a).y,.int .i64 (rU p q t.a).z,.int .i64 (t.b).x,.int .i64 (t.b).y,.int .i64 (t.b).z,.int .i64 (t.c).x,.int .i64 (t.c).y,.int .i64 (t.c).z] 39) ?_ ?_
 · intro K1 hK1
   refine bG rfl (fun hc2=>?_) (fun hc2=>?_)
   · skip
     refine aW 6 [1,3,0] m ?_;simp only[↓aD,aO,bM,ad,ag,aa];refine⟨by omega,?_⟩;intro u m;refine hK1 _ _ _ ?_ m ?_
     · simp only[zz,zv]
     · simp only[zQ,zR,zD,zE]
       exact⟨trivial,by rw[Uy hc2] <;> rfl⟩
   · skip
     refine aW 1 [0] m ?_;simp only[↓aD];intro u m;refine hK1 _ _ _ ?_ m ?_
     · simp only[zz,zv]
     · simp only[zQ,zR,zD,zE]
       exact⟨trivial,by rw[Kj hc2] <;> rfl⟩
 · intro vs i wr m hI u
   obtain⟨rfl,rfl⟩:=hI;simp only[zF,zG] at m;simp only[zu,zF,zG];refine cP 21 [1,0] m ?_;simp only[↓aD,ak];refine⟨by omega,?_⟩;intro u m;refine mq m aB (by kernel_rfl) (eM 4 [3,2] ?_);simp only[↓aD,bM,aO,ad,ag,aa];refine⟨by omega,?_⟩;refine aJ (bW rfl rfl) (bD ?_);clear m;intro u m;refine gc ?_;simp only[zz];refine kU m 3 [] [17,18,19] (fun vs i=>vs=[]∧i=bI g1 [.int .i64 (rU p q t.a).x,.int .i64 (rU p q t.a).y,.int .i64 (rU p q t.a).z,.int .i64 (rU p q t.b).x,.int .i64 (rU p q t.b).y,.int .i64 (rU p q t.b).z,.int .i64 (t.c).x,.int .i64 (t.c).y,.int .i64 (t.c).z] 39) ?_ ?_
   · intro K2 hK2
     refine bG rfl (fun hc2=>?_) (fun hc2=>?_)
     · skip
       refine aW 6 [1,3,0] m ?_;simp only[↓aD,aO,bM,ad,ag,aa];refine⟨by omega,?_⟩;intro u m;refine hK2 _ _ _ ?_ m ?_
       · simp only[zz,zv]
       · simp only[zQ,zR,zD,zE]
         exact⟨trivial,by rw[Uy hc2] <;> rfl⟩
     · skip
       refine aW 1 [0] m ?_;simp only[↓aD];intro u m;refine hK2 _ _ _ ?_ m ?_
       · simp only[zz,zv]
       · simp only[zQ,zR,zD,zE]
         exact⟨trivial,by rw[Kj hc2] <;> rfl⟩
   · intro vs i wr m hI u
     obtain⟨rfl,rfl⟩:=hI;simp only[zF,zG] at m;simp only[zu,zF,zG];refine cP 21 [1,0] m ?_;simp only[↓aD,ak];refine⟨by omega,?_⟩;intro u m;refine mq m aB (by kernel_rfl) (eM 4 [3,2] ?_);simp only[↓aD,bM,aO,ad,ag,aa];refine⟨by omega,?_⟩;refine aJ (bW rfl rfl) (bD ?_);clear m;intro u m;refine gc ?_;simp only[zz];refine kU m 3 [] [17,18,19] (fun vs i=>vs=[]∧i=bI g1 [.int .i64 (rU p q t.a).x,.int .i64 (rU p q t.a).y,.int .i64 (rU p q t.a).z,.int .i64 (rU p q t.b).x,.int .i64 (rU p q t.b).y,.int .i64 (rU p q t.b).z,.int .i64 (rU p q t.c).x,.int .i64 (rU p q t.c).y,.int .i64 (rU p q t.c).z] 39) ?_ ?_
     · intro K3 hK3
       refine bG rfl (fun hc2=>?_) (fun hc2=>?_)
       · skip
         refine aW 6 [1,3,0] m ?_;simp only[↓aD,aO,bM,ad,ag,aa];refine⟨by omega,?_⟩;intro u m;refine hK3 _ _ _ ?_ m ?_
         · simp only[zz,zv]
         · simp only[zQ,zR,zD,zE]
           exact⟨trivial,by rw[Uy hc2] <;> rfl⟩
       · skip
         refine aW 1 [0] m ?_;simp only[↓aD];intro u m;refine hK3 _ _ _ ?_ m ?_
         · simp only[zz,zv]
         · simp only[zQ,zR,zD,zE]
           exact⟨trivial,by rw[Kj hc2] <;> rfl⟩
     · intro vs i wr m hI u
       obtain⟨rfl,rfl⟩:=hI;simp only[zF,zG] at m;simp only[zu,zF,zG];refine cP 14 [2,0] m ?_;simp only[↓aD,ak];refine⟨by omega,?_⟩;intro u m;refine mh m [false,true,true,true] [(1,true),(3,true),(0,true),(2,true),(4,true),(5,true),(6,true),(7,true),(9,true),(8,true),(10,true),(11,true),(12,true),(13,true),(14,true),(16,true),(15,true),(17,true),(18,true),(19,true),(20,false),(21,true)] aB (by kernel_rfl) (bT (fun _ _ _ _ _ h=>h)) (ol:=?_) ?hol ?_
       case hol=>simp only[zw,zQ,zR];try rfl
       clear m;intro u m;refine Oi 5 [2,2,2] ?_;simp only[↓aD,bM,dQ,aO,ad,ag,aa];refine⟨by omega,?_⟩;refine bB (fA rfl rfl) (bB aH (kB rfl (fun hb=>aI cH aA rfl rfl (by decide) (by decide) rfl) (kB rfl (fun hb=>aI cH aA rfl rfl (by decide) (by decide) rfl) ?_)));simp only[zz];refine uS rfl (fun hb u m=>aU (aV hb rfl) ((m.b 2 rfl).lies aG aA rfl rfl)) ?_;simp only[zz,zy,ar,aa,ag,ad];refine uS rfl (fun hb u m=>aU (aV hb rfl) ((m.b 2 rfl).lies aG aA rfl rfl)) ?_;simp only[zz,zy,ar,aa,ag,ad];refine kB rfl (fun hb=>fA (aV hb rfl) (aV hb rfl)) (bB (bU rfl rfl rfl) (bB aH (kB rfl (fun hb=>aI cH aA rfl rfl (by decide) (by decide) rfl) ?_)));simp only[zz];refine kB rfl (fun hb=>aI cH aA rfl rfl (by decide) (by decide) rfl) ?_;simp only[zz];refine uS rfl (fun hb u m=>aU (aV hb rfl) ((m.b 2 rfl).lies aG aA rfl rfl)) ?_;simp only[zz,zy,ar,aa,ag,ad];refine uS rfl (fun hb u m=>aU (aV hb rfl) ((m.b 2 rfl).lies aG aA rfl rfl)) ?_;simp only[zz,zy,ar,aa,ag,ad];refine kB rfl (fun hb=>fA (aV hb rfl) (aV hb rfl)) (bB (bU rfl rfl rfl) (bK ?_));simp only[zz];refine bR m 0 rfl rfl rfl aL (iS rfl) rfl ?_;clear m;intro u m;simp only[zy,zx,cA,zF,zG,aa] at m;refine aK (⟨m.sel [false,true,true,true],?_⟩);refine bB aM (cK ?_);refine cP 1 [] m ?_;simp only[↓aD];intro u m;refine wU rfl ⟨_,rfl,((m.b 0 rfl).full bV aL)⟩ rfl ?_;try simp only[zD,zE]
       exact⟨_,rfl,m.ext,by rw[pne,pne,pne] <;> rfl⟩
theorem Uz{p q:P3}{ts:List T3}{k:Nat}{t:T3}(h:ts[k]? = some t):oU p q (ts.take (k+1))=oU p q (ts.take k)++if (jG p q t).nd then [jG p q t] else []:=by
 rw[bX h];unfold oU;rw[cl,fu]
 congr 1
 rw[bi,ck,List.filter_cons,List.filter_nil]
theorem xW{p q x:P3}(hq:I3 q)(hx:I3 x):I3 (rU p q x):=by
 unfold rU;split
 · exact hq
 · exact hx
theorem Cx{p q:P3}{ts:List T3}(hq:I3 q)(h:∀t∈ts,IT t):∀t∈oU p q ts,IT t:=fun t ht=>by
 obtain⟨s,hs,rfl⟩:=df.1 (ct.1 ht).1;have:=h s hs;exact⟨xW hq this.a,xW hq this.b,xW hq this.c⟩
theorem Hs{p q:P3}(ts:List T3):(nJ ts p q).length=(oU p q ts).length:=Jt _
theorem xX{ts:List T3}{N cap:Nat}{A:Option Addr}{p q:P3}[I3 p][I3 q](w:aj)(hT:bP w A N ts)(hN:N≤10000000):dJ prog 22 [.slice A N cap,pt p,pt q] w (SL 39 9 ((nJ ts p q).flatMap aN) (nJ ts p q).length w):=by
 refine⟨aqW,?_⟩;have m:=Mem.refl w;have htl:=hT.len
 go_enter func22,ntmps22
 refine eC 8 [0] m ?_;simp only[↓aD];intro g1 g2;intro u m;refine aC aM ?_;replace m:=m.nilO 39 9;refine aS 9 [0] m ?_;simp only[↓aD,iU];intro u m;refine cE [7,14] [9,10,11,15,16,17,18,19,20,21,22,23,24,25,26,27,28,29,30] (fun n vs wl=>∃(k:Nat) (A7:Option Addr) (cap7:Nat),vs=[.slice A7 (oU p q (ts.take k)).length cap7,.int .i64 (k:Int)]∧Mem w wl [oI 39 9 A7 (oU p q (ts.take k)).length cap7 ((oU p q (ts.take k)).flatMap aN),bI g2 [.int .i64 q.x,.int .i64 q.y,.int .i64 q.z] 30,bI g1 [.int .i64 p.x,.int .i64 p.y,.int .i64 p.z] 30]∧(k≤N)∧(n=N-k)) ?_ ?_
 · skip
   apply Exists.intro;simp only[zQ,zR,zD,zE];exact⟨0,_,_,rfl,m,br _,rfl⟩
 · intro n vs wr hI u K1 hK1
   clear m;obtain⟨k,A7,cap7,rfl,m,hk,hn⟩:=hI;simp only[zu,zF,zG];refine aW 5 [0,0] m ?_;simp only[↓aD];intro u m;refine bG rfl (fun hc1=>?_) (fun hc1=>?_)
   · skip
     obtain⟨t,ht,_,a,rfl,hrow⟩:=hT.get (i:=k) (by omega);have hcs:=Uz (p:=p) (q:=q) ht;have hcl:=Cp p q (ts.take k);rw[cj] at hcl;refine aW 5 [0] m ?_;simp only[↓aD];intro u m;refine aC (aF cC aL rfl rfl (by omega) (by omega) (bZ (ai _))) ?_;simp only[zz];refine aQ rfl ((hrow.ext m.ext).lies bV aL) ?_;simp only[zz];refine aS 8 [0,0,3,2,0] m ?_;simp only[↓aD,kX,dQ,aO,aa];intro g3;intro u m;refine mW m rfl rfl (adU (t:=t) (p:=p) (q:=q)) 11 [0,0] ?_;simp only[↓aD,kX,dQ,aa];intro g4;intro u m;refine cN rfl (fun hc2=>?_) (fun hc2=>?_)
     · skip
       rw[hc2,if_pos rfl] at hcs;refine aW 3 [0,0] m ?_;simp only[↓aD,dQ];intro u m;refine fH rfl ?_;intro u g5 e hg hB;replace m:=m.newB e hg hB;clear e hg hB;simp only[zz];refine bQ m 3 rfl rfl cC kA rfl (by decide) rfl rfl rfl (m.b 0 rfl).rowsO (fW rfl) (by omega) (by omega) ?_;clear m;intro A7 cap7 u m;simp only[zF,zG] at m;rw[show (oU p q (ts.take k)).flatMap aN++_=(oU p q (ts.take (k+1))).flatMap aN by rw[hcs,ba];rfl] at m;have hll:(oU p q (ts.take k)).length+1=(oU p q (ts.take (k+1))).length:=by rw[hcs,aw];rfl
       rw[hll] at m;rw[hll];refine aS 7 [0] m ?_;simp only[↓aD];refine⟨by omega,?_⟩;intro u m;refine hK1 (N-(k+1)) _ _ ?_ ?_ ?_
       · omega
       · simp only[zz,zv]
       · simp only[zQ,zR,zD,zE]
         exact⟨k+1,_,_,rfl,(m.sel [false,false,false,true,true,true]),by omega,rfl⟩
     · skip
       rw[hc2,if_neg Bool.false_ne_true,List.append_nil] at hcs;refine aW 6 [0] m ?_;simp only[↓aD];refine⟨by omega,?_⟩;intro u m;rw[←hcs] at m ⊢;refine hK1 (N-(k+1)) _ _ ?_ ?_ ?_
       · omega
       · simp only[zz,zv]
       · simp only[zQ,zR,zD,zE]
         exact⟨k+1,_,_,rfl,(m.sel [false,false,true,true,true]),by omega,rfl⟩
   · skip
     obtain rfl:k=N:=by omega
     rw[show ts.take k=ts from a_ (by omega)] at m ⊢;refine aW 4 [0] m ?_;simp only[↓aD];intro u m;refine bJ rfl rfl (aaF (ts:=oU p q ts) _ ((m.o 0 rfl).tris (Cx inferInstance hT.it)) (by have:=Cp p q ts;omega)) ?_;rintro v u e ⟨A8,cap8,n8,hn8,rfl,hN⟩;replace m:=m.newO e hN;clear e hN;refine aS 3 [] m ?_;simp only[↓aD];intro u m;refine aR rfl rfl ?_;try simp only[zD,zE]
     exact⟨_,rfl,m.ext,⟨_,_,_,by rw[hn8,Hs],rfl,(m.o 0 rfl)⟩⟩
end Go.Proofs.YtfekpcimgncioaaGreatDoor
namespace Go.Lith
open Go.RowKit
end Go.Lith
