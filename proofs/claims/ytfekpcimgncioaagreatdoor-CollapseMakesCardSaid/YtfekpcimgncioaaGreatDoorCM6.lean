/-
 Texts of one claim, laid together: Ch, Ci, Ck, Cl, Wp, Cm, Cn, Co, K36, K42, Sfa, K5, K6, Sla, K7, Guard2, K8, K9, K10, Near2, Ifc, Round, Sides, Tch1, K12, K13, K43, LoopF.
-/
import Derived.Stop.Asserts
import Derived.RangeFuncNested
import Derived.OrdersIn
import Derived.RangeFuncCalls
import Derived.RangeFuncBox
import Derived.Test.YtfekpcimgncioaaGreatDoorCM5
open Nat renaming reduceAdd→aa,reduceMul→ag,zero_add→ar,le_refl→av,zero_le→br,lt_succ_self→el,not_lt_zero→iw
open Int renaming reduceToNat→ad,toNat_natCast→ai,reduceAdd→ak,lt_trichotomy→oc
open Go renaming Value→ah,World→aj,TypeId→an,wpList→au,Operand→bg,Program→bh,run_underlying→bx,MapEntry→b_,wpQuiet→cg,Deferred→cn,execOp→cw
open List renaming getElem?_eq_getElem→am,mem_cons→ao,getElem?_eq_some_iff→aq,length_append→aw,length_cons→ay,take_of_length_le→a_,flatMap_append→ba,mem_singleton→bf,map_cons→bi,mem_of_getElem?→bj,pairwise_cons→bm,mem_cons_of_mem→bp,mem_cons_self→bq,mem_append→bt,map_nil→ck,map_append→cl,mem_filter→ct,mem_iff_getElem?→cv,toList_toArray→cz,mem_map→df,all_eq_true→dw,length_map→dz,getElem?_drop→d_,getElem?_take→eh,mem_map_of_mem→eu,append_nil→fb,length_filter_le→fc,any_eq_false→fg,getElem_mem→fh,pairwise_append→fi,map_toArray→fk,filter_append→fu,pairwise_iff_getElem→gn,mem_zipIdx_iff_getElem?→gq,range→i_,pairwise_singleton→jn,pairwise_map→jo,filter_sublist→ki,getElem?_take_of_lt→mb,all_eq_false→nc
open Bool renaming and_eq_true→be,or_eq_true→dm,not_eq_true'→ei,eq_iff_iff→ep,false_ne_true→et,not_false→gp,not_true→gt,not_eq_true→ng
open Go.Oper renaming mk→bn,upon→mj,uponIn→od,semAt→pb
open Go.Value renaming bool→bw
open Array renaming replicate→fl
open List.Pairwise renaming nil→ka
set_option maxHeartbeats 8000000
set_option linter.unusedSimpArgs false
set_option linter.unusedVariables false
set_option linter.unusedSectionVars false
namespace Go.Lith
open Go.RowKit
/-! ### Corners in order -/
theorem adV{p:P3}:∀{ps:List P3},tR ps→(ps.dropWhile fun x=>decide (x.Lt p)).head? ≠ some p→∀x∈ps.dropWhile fun x=>decide (x.Lt p),p.Lt x
 | [],_,_,x,h=>by cases h
 | y::ys,hs,hp,x,h=>by
  obtain⟨h1,h2⟩:=bm.1 hs;rw[List.dropWhile_cons] at h hp;split at h
  · rename_i hy
    rw[if_pos hy] at hp;exact adV h2 hp x h
  · rename_i hy
    rw[if_neg hy] at hp;have hy':p.Lt y:=by
     rcases lt_tri y p with k | k | k
     · exact absurd (decide_eq_true k) hy
     · rw[k] at hp;exact absurd rfl hp
     · exact k
    rcases ao.1 h with rfl | h
    · exact hy'
    · exact P3.lt_trans hy' (h1 x h)
theorem xY{ps:List P3}{p:P3}(hs:tR ps):tR (iA ps p):=by
 unfold iA;split
 · exact hs
 · rename_i hp
   have hd:(ps.drop (aad ps p))=ps.dropWhile fun x=>decide (x.Lt p):=Wu ps;have ht:(ps.take (aad ps p))=ps.takeWhile fun x=>decide (x.Lt p):=Wt ps;have h0:=hs;rw[tR,←List.takeWhile_append_dropWhile (p:=fun x=>decide (x.Lt p)) (l:=ps)] at h0;obtain⟨h1,h2,h3⟩:=fi.1 h0;have hg:=adV (p:=p) hs (by rw[←hd,List.head?_drop];exact hp);have hl:∀x∈ps.takeWhile fun x=>decide (x.Lt p),x.Lt p:=fun x hx=>of_decide_eq_true (abX (p:=fun x:P3=>decide (x.Lt p)) hx);rw[hd,ht];refine fi.2 ⟨fi.2 ⟨h1,jn _ _,fun x hx y hy=>?_⟩,h2,fun x hx y hy=>?_⟩
   · rw[bf.1 hy];exact hl x hx
   · rcases bt.1 hx with hx | hx
     · exact h3 x hx y hy
     · rw[bf.1 hx];exact hg y hy
theorem Qv(ts:List T3):tR (dO ts):=by
 have:∀(ts:List T3) (ps:List P3),tR ps→tR (ts.foldl (fun ps t=>iA (iA (iA ps t.a) t.b) t.c) ps):=by
  intro ts
  induction ts with
  | nil=>exact fun ps h=>h
  | cons t ts ih=>exact fun ps h=>ih _ (xY (xY (xY h)))
 exact this ts [] ka
/-! ### Lists turned,mapped,chosen from -/
/-! ### Closed sets in place of rings -/
/-! ### A path in a corner's place -/
section
variable {u c1 c2:P3} {A P N N':P3→P3→Prop}
end
section
variable {us:List T3} {u v c1 c2:P3}
/-! ### The corners behind each other,afterwards -/
/-! ### Edges -/
/-! ### No edge twice -/
end
section
variable {us:List T3} {u v c1 c2:P3}
/-! ### Round each corner -/
end
/-! ### From the conditions -/
/-! ### Edges,each once -/
theorem afk{α:Type}[DecidableEq α]{l m:List α}(h1:l.Nodup)(h2:m.Nodup)(h:∀x,x∈l↔x∈m):l.length=m.length :=
 Nat.le_antisymm (tV h1 fun x hx=>(h x).1 hx) (tV h2 fun x hx=>(h x).2 hx)
/-! ### Triangles -/
section
variable {us:List T3} {u v c1 c2:P3}
theorem Eg(ts:List T3):(dO ts).Nodup:=by
 have h:=Qv ts;unfold tR at h;refine List.Pairwise.imp (S:=fun a b:P3=>a≠b) (fun {a b} k e=>?_) h;rw[e] at k;exact P3.lt_irrefl b k
end
/-! ### All along -/
/-! ### The ends of fans -/
/-! ### Accepted -/
theorem Va{l:List T3}{t:T3}:t∈dW l↔∃s∈l,dM s=t:=by
 rw[(uB l).mem_iff,df]
/-! ### The moves in order -/
theorem Kk(p:P3):∀l:List P3,(ae2 p l).Perm (p::l)
 | []=>.refl _
 | q::l=>by
  rw[ae2];split
  · exact ((Kk p l).cons q).trans (.swap ..)
  · exact .refl _
theorem oJ:∀l:List P3,(yO l).Perm l
 | []=>.refl _
 | p::l=>(Kk p _).trans ((oJ l).cons p)
theorem Ls{p:P3}:∀{l:List P3},l.Pairwise P3.Lt→p∉l→(ae2 p l).Pairwise P3.Lt
 | [],_,_=>jn _ _
 | q::l,h,hn=>by
  rw[ae2];obtain⟨h1,h2⟩:=bm.1 h;split
  · rename_i k
    refine bm.2 ⟨fun x hx=>?_,Ls h2 fun k=>hn (bp _ k)⟩;rcases ao.1 ((Kk p l).subset hx) with rfl | hx
    · exact k
    · exact h1 x hx
  · rename_i k
    have hq:p.Lt q:=by
     rcases lt_tri q p with e | e | e
     · exact absurd e k
     · exact absurd (e▸bq ..) hn
     · exact e
    refine bm.2 ⟨fun x hx=>?_,h⟩;rcases ao.1 hx with rfl | hx
    · exact hq
    · exact P3.lt_trans hq (h1 x hx)
theorem sY:∀{l:List P3},l.Nodup→(yO l).Pairwise P3.Lt
 | [],_=>ka
 | p::l,h=>by
  obtain⟨h1,h2⟩:=List.nodup_cons.1 h;exact Ls (sY h2) fun k=>h1 ((oJ l).mem_iff.1 k)
theorem acD(D:List Mv):(mP D).map (·.1)=yO (D.map (·.1)):=by
 unfold mP;rw[List.map_map];exact List.map_id _
theorem Cy(D:List Mv):(mP D).length=D.length:=by
 have:=congrArg List.length (acD D);rw[dz,(oJ _).length_eq,dz] at this;exact this
/-! ### Boxes -/
theorem ak4(t:T3)(k:Nat):Cn (dM t) k=Cn t k:=by
 rcases qQ t with h | h | h <;> rw[h] <;> unfold Cn <;> simp only <;> omega
theorem ak5(t:T3)(k:Nat):Co (dM t) k=Co t k:=by
 rcases qQ t with h | h | h <;> rw[h] <;> unfold Co <;> simp only <;> omega
theorem aij(s t:T3):nU (dM s) (dM t)=nU s t:=by
 unfold nU aat;simp only[ak4,ak5]
theorem Vb(s t:T3):nU s t=nU t s:=by
 unfold nU aat;simp only[Bool.or_comm]
theorem aik(s t:T3):mD (dM s) (dM t)=mD s t:=by
 have h1:∀s t:T3,mD (dM s) t=mD s t:=fun s t=>by
  rcases qQ s with h | h | h
  · rw[h]
  · rw[h];exact Js s t
  · rw[h];exact (Js (rI s) t).trans (Js s t)
 have h2:∀s t:T3,mD s (dM t)=mD s t:=fun s t=>by
  rcases qQ t with h | h | h
  · rw[h]
  · rw[h];exact Ey s t
  · rw[h];exact (Ey s (rI t)).trans (Ey s t)
 rw[h1,h2]
def xZ(s t:T3):Bool:=nU s t&&mD s t
theorem wK(s t:T3):xZ (dM s) (dM t)=xZ s t:=by unfold xZ;rw[aij,aik]
theorem afl{s t:T3}(hs:s.nd=true)(ht:t.nd=true):xZ s t=xZ t s:=by unfold xZ;rw[Vb,ae0 hs ht]
theorem Ht(t s:T3):sF t s=xZ s t:=by unfold sF xZ;rw[Vb]
def yA(t:T3)(l:List T3):Bool:=l.any fun s=>!decide (dM s=dM t)&&xZ (dM s) (dM t)
theorem aaG{t:T3}{l:List T3}:yA t l=false↔∀s∈l,dM s≠dM t→xZ s t=false:=by
 unfold yA;rw[fg];constructor
 · intro h s hs hne
   have:=h s hs;rw[wK] at this;simpa[hne] using this
 · intro h s hs
   rw[wK];by_cases e:dM s=dM t
   · simp[e]
   · simp[h s hs e]
theorem adW{t:T3}(h:t.nd=true):dM (dM t)=dM t:=ahb (qQ t) h
/-! ### What clear says -/
theorem afm{l:List T3}{u v:P3}:Fa l u v=true↔(∀t∈iY u v l,∀s∈mJ u v l,xZ s t=false)∧(iY u v l).Pairwise fun s t=>xZ s t=false:=by
 unfold Fa;rw[dw];have key:∀{i:Nat} {t:T3},(iY u v l)[i]? = some t→(t,i)∈(iY u v l).zipIdx:=fun {i t} h=>gq.2 h;constructor
 · intro h
   refine⟨fun t ht s hs=>?_,gn.2 fun i j hi hj hij=>?_⟩
   · obtain⟨i,hi⟩:=cv.1 ht
     have:=h _ (key hi);simp only[be,ei,fg] at this;have:=this.1 s hs;rw[Ht] at this;simpa using this
   · have:=h _ (key (am hj))
     simp only[be,ei,fg] at this;have:=this.2 ((iY u v l)[i]) (bj (i:=i) (by rw[mb hij];exact am hi));rw[Ht] at this;simpa using this
 · rintro⟨h1,h2⟩ ⟨t,i⟩ hx
   have hi:=gq.1 hx;simp only at hi;simp only[be,ei,fg];refine⟨fun s hs=>?_,fun s hs=>?_⟩
   · rw[Ht,h1 t (bj hi) s hs];exact et
   · obtain⟨j,hj⟩:=cv.1 hs
     rw[eh] at hj;split at hj
     · rename_i hji
       obtain⟨hil,rfl⟩:=aq.1 hi;obtain⟨hjl,rfl⟩:=aq.1 hj;rw[Ht,gn.1 h2 j i hjl hil hji];exact et
     · cases hj
theorem aaH{α:Type}{R:α→α→Prop}(sy:∀a b,R a b→R b a):∀{l:List α},l.Pairwise R→∀a∈l,∀b∈l,a≠b→R a b
 | [],_,a,h,_,_,_=>by cases h
 | x::l,h,a,ha,b,hb,hne=>by
  obtain⟨h1,h2⟩:=bm.1 h;rcases ao.1 ha with e | ha
  · rcases ao.1 hb with e2 | hb
    · exact absurd (e.trans e2.symm) hne
    · rw[e];exact h1 b hb
  · rcases ao.1 hb with e2 | hb
    · rw[e2];exact sy _ _ (h1 a ha)
    · exact aaH sy h2 a ha b hb hne
theorem Mw{l:List T3}{u v:P3}:∀t∈iY u v l,t.nd=true:=fun t ht=>by
 obtain⟨s,hs,rfl⟩:=df.1 ht;have:=(ct.1 hs).2;exact (Bool.and_eq_true_iff.1 this).2
theorem apW{l:List T3}{u v:P3}{t:T3}(h:t∈mJ u v l):t∈l:=(ct.1 h).1
theorem aaI{l:List T3}{u v:P3}(hd:∀t∈l,t.nd=true){x:T3}:x∈nJ l u v↔∃s,(s∈iY u v l∨s∈mJ u v l)∧dM s=x:=by
 unfold nJ;rw[Va];refine exists_congr fun s=>and_congr_left fun _=>?_;rw[←(Fb (u:=u) (v:=v) l hd).mem_iff,bt]
def Hu(p:P3)(o:List P3)(q:P3):List P3:=if q≠p∧q∉o then o++[q] else o
def Hv(p:P3)(o:List P3)(t:T3):List P3:=if t.has p then Hu p (Hu p (Hu p o t.a) t.b) t.c else o
def iD(l:List T3)(p:P3):List P3:=l.foldl (Hv p) []
def qR(l:List T3):Bool:=l.zipIdx.any fun x=>(l.take x.2).any fun s=>s.has x.1.a&&s.has x.1.b&&s.has x.1.c
def Mi(l:List T3)(u v:P3):Bool:=Dw (bF l) v&&(iD l u).any fun q=>decide (q≠v)&&Dw (bF l) q && !decide (q∈iD l v)
def aaJ(l r:List T3)(u v:P3):Bool:=(l.all fun t=>!(t.has u && !t.has v)||(!fE (jG u v t)&&decide (Sf t (jG u v t)=1)))&&l.all fun t=>!(t.has u && !t.has v) || !yA (jG u v t) r
def vC(l:List T3)(u v:P3):Bool :=
 decide (v∈iD l u) && !Dw (bF l) u&&decide (((iD l u).filter fun q=>decide (q∈iD l v)).length=2) && !qR (nJ l u v) && !Mi l u v&&aaJ l (nJ l u v) u v
theorem Qw{p x q:P3}{o:List P3}:x∈Hu p o q↔x∈o∨(x=q∧x≠p):=by
 unfold Hu;split
 · rename_i h
   rw[bt,bf];exact or_congr Iff.rfl ⟨fun e=>⟨e,e▸h.1⟩,fun e=>e.1⟩
 · rename_i h
   refine⟨.inl,fun k=>k.elim id fun⟨e,hp⟩=>?_⟩;exact Decidable.byContradiction fun hn=>h ⟨e▸hp,e▸hn⟩
theorem Ff{p q:P3}{o:List P3}(h:o.Nodup):(Hu p o q).Nodup:=by
 unfold Hu;split
 · rename_i k;exact Eu.2 ⟨h,k.2⟩
 · exact h
theorem ail{p x:P3}{t:T3}{o:List P3}:x∈Hv p o t↔x∈o∨(t.has p=true∧t.has x=true∧x≠p):=by
 unfold Hv;split
 · rename_i h
   rw[Qw,Qw,Qw,eU (p:=x)];simp only[h,true_and]
   grind
 · rename_i h
   exact⟨.inl,fun k=>k.elim id fun e=>absurd e.1 h⟩
theorem sZ{l:List T3}{p x:P3}:x∈iD l p↔Mg l p x=true:=by
 have key:∀(l:List T3) (o:List P3),x∈l.foldl (Hv p) o↔x∈o∨(x≠p∧Se l p x=true):=by
  intro l
  induction l with
  | nil=>intro o;simp[Se]
  | cons t l ih =>
   intro o;rw[List.foldl_cons,ih,ail];have e:Se (t::l) p x=((t.has p&&t.has x)||Se l p x):=rfl;rw[e,dm,be]
   grind
 unfold iD;rw[key,Pt];simp
theorem Vc(l:List T3)(p:P3):(iD l p).Nodup:=by
 have key:∀(l:List T3) (o:List P3),o.Nodup→(l.foldl (Hv p) o).Nodup:=by
  intro l
  induction l with
  | nil=>exact fun o h=>h
  | cons t l ih =>
   intro o h;refine ih _ ?_;unfold Hv;split
   · exact Ff (Ff (Ff h))
   · exact h
 exact key l [] List.nodup_nil
/-! ### The corners of a triangle,in order -/
theorem Hw{t:T3}{p:P3}:p∈pS t↔t.has p=true:=by
 unfold pS;rw[(oJ _).mem_iff,eU];simp
theorem adX{s t:T3}(hs:s.nd=true)(ht:t.nd=true):pS s=pS t↔∀p,s.has p=true↔t.has p=true:=by
 constructor
 · intro h p
   rw[←Hw,←Hw,h]
 · intro h
   exact xN P3.lt_irrefl (fun _ _ _=>P3.lt_trans) (sY (wH hs)) (sY (wH ht)) fun p=>by rw[Hw,Hw];exact h p
theorem Qx{t:T3}(h:t.nd=true):pS (dM t)=pS t:=(adX (by rw[aht];exact h) h).2 fun p=>by rw[ahc (qQ t)]
theorem aaK{s t:T3}(hs:s.nd=true)(ht:t.nd=true):(s.has t.a&&s.has t.b&&s.has t.c)=true↔pS s=pS t:=by
 rw[adX hs ht,be,be];constructor
 · rintro⟨⟨h1,h2⟩,h3⟩ p
   have hsub:∀x∈[t.a,t.b,t.c],x∈[s.a,s.b,s.c]:=fun x hx=>by
    simp only[ao,List.not_mem_nil,or_false] at hx ⊢;rcases hx with rfl | rfl | rfl
    · exact eU.1 h1
    · exact eU.1 h2
    · exact eU.1 h3
   have hsup:=full (wH ht) hsub (av _);constructor
   · intro h
     have:=hsup p (by simpa using eU.1 h);exact eU.2 (by simpa using this)
   · intro h
     have:=hsub p (by simpa using eU.1 h);exact eU.2 (by simpa using this)
 · intro h
   exact⟨⟨(h _).2 (eU.2 (.inl rfl)),(h _).2 (eU.2 (.inr (.inl rfl)))⟩,(h _).2 (eU.2 (.inr (.inr rfl)))⟩
theorem aim{r:List T3}(hd:∀t∈r,t.nd=true):qR r=false↔(r.map pS).Nodup:=by
 unfold qR;rw[fg,List.Nodup,jo,gn];constructor
 · intro h i j hi hj hij e
   have hx:(r[j],j)∈r.zipIdx:=gq.2 (am hj);have:=h _ hx;rw[ng,fg] at this;have:=this r[i] (bj (i:=i) (by rw[mb hij];exact am hi));exact this ((aaK (hd _ (fh hi)) (hd _ (fh hj))).2 e)
 · rintro h ⟨t,j⟩ hx
   have hj:=gq.1 hx;simp only at hj;obtain⟨hjl,rfl⟩:=aq.1 hj;rw[ng,fg];intro s hs k;obtain⟨i,hi⟩:=cv.1 hs;rw[eh] at hi;split at hi
   · rename_i hij
     obtain⟨hil,rfl⟩:=aq.1 hi;exact h i j hil hjl hij ((aaK (hd _ (fh hil)) (hd _ (fh hjl))).1 k)
   · cases hi
theorem Xr{l:List T3}{u v:P3}(hd:∀t∈l,t.nd=true):qW l u v=true↔qR (nJ l u v)=false:=by
 rw[aim (ahv l u v)];unfold qW nJ;rw[decide_eq_true_eq,((Fb (u:=u) (v:=v) l hd).map pS).nodup_iff,((uB (oU u v l)).map pS).nodup_iff,List.map_map];have e:(oU u v l).map (pS∘dM)=(oU u v l).map pS:=List.map_congr_left fun t ht=>Qx (adL l t ht);rw[e]
/-! ### The same conditions -/
theorem Mx{l:List T3}{u v:P3}(hne:u≠v)(hd:∀t∈l,t.nd=true){t:T3}:t∈kV u v l↔t∈l∧(t.has u && !t.has v)=true:=by
 unfold kV;rw[ct];refine and_congr_right fun ht=>?_;have h1:=ahs (u:=u) (v:=v) (t:=t) hne;have h2:=ao7 (u:=u) (v:=v) hne (hd t ht);by_cases e:jG u v t=t
 · have:=h1.1 e
   simp[e,this]
 · have hu:t.has u=true:=by
    cases h:t.has u with
    | true=>rfl
    | false=>exact absurd (h1.2 h) e
   cases hm:(jG u v t).nd <;> cases hv:t.has v <;> simp[hm,hu,hv,e] at h2 ⊢
theorem aaL{l:List T3}{u v:P3}(hne:u≠v)(hd:∀t∈l,t.nd=true)(hs:qW l u v=true):Fa l u v=true↔∀t∈kV u v l,yA (jG u v t) (nJ l u v)=false:=by
 have hk:((iY u v l++mJ u v l).map pS).Nodup:=of_decide_eq_true hs;rw[cl] at hk;obtain⟨k1,_,k3⟩:=fi.1 hk;have nd:∀z,z∈iY u v l∨z∈mJ u v l→z.nd=true:=fun z hz=>hz.elim (Mw z) fun h=>hd z (apW h);have apart:∀{s m:T3},s.nd=true→m.nd=true→pS s≠pS m→dM s≠dM m:=fun h1 h2 hk e=>hk (by rw[←Qx h1,←Qx h2,e]);rw[afm];constructor
 · rintro⟨h1,h2⟩ t ht
   have hm:jG u v t∈iY u v l:=eu ht;refine aaG.2 fun s hs hne'=>?_;obtain⟨s',hs',rfl⟩:=(aaI hd).1 hs;have e0:=adW (nd s' hs');rw[e0] at hne';have e1:xZ (dM s') (jG u v t)=xZ s' (jG u v t):=by rw[←wK (dM s'),e0,wK]
   rw[e1];rcases hs' with hs' | hs'
   · by_cases e:s'=jG u v t
     · exact absurd (by rw[e]) hne'
     · have k:(iY u v l).Pairwise fun s t=>xZ s t=false∧s.nd=true∧t.nd=true:=h2.imp_of_mem fun {a b} ha hb h=>⟨h,Mw a ha,Mw b hb⟩
       exact (aaH (fun a b ⟨h,n1,n2⟩=>⟨by rw[afl n2 n1];exact h,n2,n1⟩) k s' hs' _ hm e).1
   · exact h1 _ hm s' hs'
 · intro h
   have h':∀m∈iY u v l,∀s,(s∈iY u v l∨s∈mJ u v l)→pS s≠pS m→xZ s m=false:=fun m hm s hs hk=>by
    obtain⟨t,ht,rfl⟩:=df.1 hm;have e0:=adW (nd s hs);have:=aaG.1 (h t ht) (dM s) ((aaI hd).2 ⟨s,hs,rfl⟩) (by rw[e0];exact apart (nd s hs) (Mw _ hm) hk);rw[←wK (dM s),e0,wK] at this;exact this
   refine⟨fun t ht s hs=>?_,?_⟩
   · exact h' t ht s (.inr hs) fun e=>k3 _ (eu ht) _ (eu hs) e.symm
   · rw[jo] at k1
     exact k1.imp_of_mem fun {a b} ha hb k=>h' b hb a (.inl ha) k
theorem Xs{l:List T3}{u v:P3}(hc:fM true l=0)(hne:u≠v):vC l u v=cY l u v:=by
 obtain⟨dg,_,_⟩:=aar.1 hc;have hd:∀t∈l,t.nd=true:=fun t ht=>nd_of (dg t ht);have e1:decide (v∈iD l u)=Mg l u v:=by
  cases h:Mg l u v with
  | true=>exact decide_eq_true (sZ.2 h)
  | false=>exact decide_eq_false fun k=>by rw[sZ.1 k] at h;cases h
 have e3:decide (((iD l u).filter fun q=>decide (q∈iD l v)).length=2)=xQ l u v:=by
  unfold xQ
  congr 2
  refine afk ((Vc l u).sublist ki) ?_ fun x=>?_
  · unfold nbL
    exact ((Eg l).sublist ki).sublist ki
  · rw[ct,ct,sZ,uZ,decide_eq_true_eq,sZ]
 have e4:(!qR (nJ l u v))=qW l u v:=by
  have:=Xr (u:=u) (v:=v) hd;cases h:qR (nJ l u v) <;> cases k:qW l u v <;> simp[h,k] at this ⊢
 have e5:(!Mi l u v)=Ez l u v:=by
  unfold Mi Ez;rw[Bool.not_and]
  congr 1
  rw[ep,ei,fg,dw];refine⟨fun h x hx=>?_,fun h x hx=>?_⟩
  · have:=h x (sZ.2 (uZ.1 hx))
    have k:=sZ (l:=l) (p:=v) (x:=x);by_cases a:x=v <;> cases b:Dw (bF l) x <;> cases d:Mg l v x <;> simp[a,b,d,k] at this ⊢
  · have:=h x (uZ.2 (sZ.1 hx))
    have k:=sZ (l:=l) (p:=v) (x:=x);by_cases a:x=v <;> cases b:Dw (bF l) x <;> cases d:Mg l v x <;> simp[a,b,d,k] at this ⊢
 have e6:(l.all fun t=>!(t.has u && !t.has v)||(!fE (jG u v t)&&decide (Sf t (jG u v t)=1)))=uC l u v:=by
  unfold uC;rw[ep,dw,dw];refine⟨fun h t ht=>?_,fun h t ht=>?_⟩
  · obtain⟨h1,h2⟩:=(Mx hne hd).1 ht
    have:=h t h1;rw[h2] at this;simpa using this
  · cases k:(t.has u && !t.has v) with
    | false=>rfl
    | true=>exact h t ((Mx hne hd).2 ⟨ht,k⟩)
 unfold vC cY uY aaJ;rw[e1,e3,e4,e5,e6,←Bool.and_assoc];cases hs:qW l u v with
 | false=>simp
 | true =>
  congr 1
  rw[ep,aaL hne hd hs,dw];refine⟨fun h t ht=>?_,fun h t ht=>?_⟩
  · obtain⟨h1,h2⟩:=(Mx hne hd).1 ht
    have:=h t h1;rw[h2] at this;simpa using this
  · cases k:(t.has u && !t.has v) with
    | false=>rfl
    | true=>rw[h t ((Mx hne hd).2 ⟨ht,k⟩)];rfl
end Go.Lith
namespace Go.Proofs.YtfekpcimgncioaaGreatDoor
open Go.Proofs.Tryz
open Go.RowKit Go.Lith
set_option maxRecDepth 100000
attribute [local irreducible] au cg fR bO cO Code.wp
attribute [local congr] pL fX fY fZ gA gB kI gC gD gE gF gG gH gI gJ gK gL gM eS eT gN gQ gS gT gU kK dC dD cR dB gR kJ eV eW eX gW gX kL
theorem ain{t:T3}{p:P3}:(decide (p.x=t.a.x∧p.y=t.a.y∧p.z=t.a.z)||decide (p.x=t.b.x∧p.y=t.b.y∧p.z=t.b.z)||decide (p.x=t.c.x∧p.y=t.c.y∧p.z=t.c.z))=t.has p:=by
 have e:∀p q:P3,(p.x=q.x∧p.y=q.y∧p.z=q.z)↔p=q:=fun p q=>⟨fun h=>P3.eq h.1 h.2.1 h.2.2,fun h=>by rw[h];exact⟨rfl,rfl,rfl⟩⟩
 rw[ep,eU];simp only[dm,decide_eq_true_eq,e,or_assoc]
theorem asp{t:T3}:(decide (¬(t.a.x=t.b.x∧t.a.y=t.b.y∧t.a.z=t.b.z))&&decide (¬(t.b.x=t.c.x∧t.b.y=t.c.y∧t.b.z=t.c.z))&&decide (¬(t.c.x=t.a.x∧t.c.y=t.a.y∧t.c.z=t.a.z)))=t.nd:=by rw[pne,pne,pne];rfl
theorem Lu{t:T3}{p:P3}:dL prog 178 [pt p,tr t] (.bool (t.has p)):=by
 intro w;refine⟨anm,?_⟩;have m:=Mem.refl w
 go_enter func178,ntmps178
 refine eC 11 [1,0,0] m ?_;simp only[↓aD,aO,bM,ad,ag,aa];intro g1 g2;refine⟨by omega,?_⟩;intro u m;refine aC (bW rfl rfl) (aS 1 [0] m ?_);simp only[↓aD];intro u m;refine bS rfl (fun hb=>aU rfl ((m.b 1 rfl).full aG aA)) (bC rfl (fun hb=>aI cH aA rfl rfl (by decide) (by decide) rfl) ?_);simp only[zz];refine bS rfl (fun hb=>aU (aV hb rfl) ((m.b 0 rfl).lies aG aA rfl rfl)) ?_;simp only[zz,zy,ar,aa,ag,ad];refine bC rfl (fun hb=>bW (aV hb rfl) (aV hb rfl)) (aC (cF rfl rfl rfl) ?_);refine aS 1 [0] m ?_;simp only[↓aD];intro u m;refine bS rfl (fun hb=>aU rfl ((m.b 1 rfl).full aG aA)) (bC rfl (fun hb=>aI cH aA rfl rfl (by decide) (by decide) rfl) ?_);simp only[zz];refine bS rfl (fun hb=>aU (aV hb rfl) ((m.b 0 rfl).lies aG aA rfl rfl)) ?_;simp only[zz,zy,ar,aa,ag,ad];refine bC rfl (fun hb=>bW (aV hb rfl) (aV hb rfl)) (aC (cF rfl rfl rfl) ?_);refine aS 3 [] m ?_;simp only[↓aD];intro u m;refine aR rfl rfl ?_;try simp only[zD,zE]
 exact⟨_,rfl,m.ext,by rw[ain]⟩
theorem Qy{t:T3}{p q:P3}:dL prog 56 [tr t,pt p,pt q] (tr (jG p q t)):=by
 intro w;refine⟨arf,?_⟩;have m:=Mem.refl w
 go_enter func56,ntmps56
 refine eC 26 [4,1,0] m ?_;simp only[↓aD,kX];intro g1 g2 g3 g4;refine⟨by omega,?_⟩;intro u m;refine mq m aB (by kernel_rfl) (eM 4 [3,2] ?_);simp only[↓aD,bM,aO,ad,ag,aa];refine⟨by omega,?_⟩;refine aJ (bW rfl rfl) (bD ?_);clear m;intro u m;refine gc ?_;simp only[zz];refine kU m 3 [] [17,18,19] (fun vs i=>vs=[]∧i=bI g1 [.int .i64 (rU p q t.a).x,.int .i64 (rU p q t.a).y,.int .i64 (rU p q t.a).z,.int .i64 (t.b).x,.int .i64 (t.b).y,.int .i64 (t.b).z,.int .i64 (t.c).x,.int .i64 (t.c).y,.int .i64 (t.c).z] 39) ?_ ?_
 · intro K1 hK1
   refine bG rfl (fun hc2=>?_) (fun hc2=>?_)
   · skip
     refine aW 6 [1,3,0] m ?_;simp only[↓aD,aO,bM,ad,ag,aa];refine⟨by omega,?_⟩;intro u m;refine hK1 _ _ _ ?_ m ?_
     · simp only[zz,zv]
     · simp only[zQ,zR,zD,zE]
       exact⟨trivial,by rw[Uy hc2] <;> rfl⟩
   · skip
     refine aW 1 [0] m ?_;simp only[↓aD];intro u m;refine hK1 _ _ _ ?_ m ?_
     · simp only[zz,zv]
     · simp only[zQ,zR,zD,zE]
       exact⟨trivial,by rw[Kj hc2] <;> rfl⟩
 · intro vs i wr m hI u
   obtain⟨rfl,rfl⟩:=hI;simp only[zF,zG] at m;simp only[zu,zF,zG];refine cP 18 [1,0] m ?_;simp only[↓aD,ak];refine⟨by omega,?_⟩;intro u m;refine mq m aB (by kernel_rfl) (eM 4 [3,2] ?_);simp only[↓aD,bM,aO,ad,ag,aa];refine⟨by omega,?_⟩;refine aJ (bW rfl rfl) (bD ?_);clear m;intro u m;refine gc ?_;simp only[zz];refine kU m 3 [] [17,18,19] (fun vs i=>vs=[]∧i=bI g1 [.int .i64 (rU p q t.a).x,.int .i64 (rU p q t.a).y,.int .i64 (rU p q t.a).z,.int .i64 (rU p q t.b).x,.int .i64 (rU p q t.b).y,.int .i64 (rU p q t.b).z,.int .i64 (t.c).x,.int .i64 (t.c).y,.int .i64 (t.c).z] 39) ?_ ?_
   · intro K2 hK2
     refine bG rfl (fun hc2=>?_) (fun hc2=>?_)
     · skip
       refine aW 6 [1,3,0] m ?_;simp only[↓aD,aO,bM,ad,ag,aa];refine⟨by omega,?_⟩;intro u m;refine hK2 _ _ _ ?_ m ?_
       · simp only[zz,zv]
       · simp only[zQ,zR,zD,zE]
         exact⟨trivial,by rw[Uy hc2] <;> rfl⟩
     · skip
       refine aW 1 [0] m ?_;simp only[↓aD];intro u m;refine hK2 _ _ _ ?_ m ?_
       · simp only[zz,zv]
       · simp only[zQ,zR,zD,zE]
         exact⟨trivial,by rw[Kj hc2] <;> rfl⟩
   · intro vs i wr m hI u
     obtain⟨rfl,rfl⟩:=hI;simp only[zF,zG] at m;simp only[zu,zF,zG];refine cP 18 [1,0] m ?_;simp only[↓aD,ak];refine⟨by omega,?_⟩;intro u m;refine mq m aB (by kernel_rfl) (eM 4 [3,2] ?_);simp only[↓aD,bM,aO,ad,ag,aa];refine⟨by omega,?_⟩;refine aJ (bW rfl rfl) (bD ?_);clear m;intro u m;refine gc ?_;simp only[zz];refine kU m 3 [] [17,18,19] (fun vs i=>vs=[]∧i=bI g1 [.int .i64 (rU p q t.a).x,.int .i64 (rU p q t.a).y,.int .i64 (rU p q t.a).z,.int .i64 (rU p q t.b).x,.int .i64 (rU p q t.b).y,.int .i64 (rU p q t.b).z,.int .i64 (rU p q t.c).x,.int .i64 (rU p q t.c).y,.int .i64 (rU p q t.c).z] 39) ?_ ?_
     · intro K3 hK3
       refine bG rfl (fun hc2=>?_) (fun hc2=>?_)
       · skip
         refine aW 6 [1,3,0] m ?_;simp only[↓aD,aO,bM,ad,ag,aa];refine⟨by omega,?_⟩;intro u m;refine hK3 _ _ _ ?_ m ?_
         · simp only[zz,zv]
         · simp only[zQ,zR,zD,zE]
           exact⟨trivial,by rw[Uy hc2] <;> rfl⟩
       · skip
         refine aW 1 [0] m ?_;simp only[↓aD];intro u m;refine hK3 _ _ _ ?_ m ?_
         · simp only[zz,zv]
         · simp only[zQ,zR,zD,zE]
           exact⟨trivial,by rw[Kj hc2] <;> rfl⟩
     · intro vs i wr m hI u
       obtain⟨rfl,rfl⟩:=hI;simp only[zF,zG] at m;simp only[zu,zF,zG];refine cP 21 [2,3,0] m ?_;simp only[↓aD,dQ,ak,aa];refine⟨by omega,?_⟩;intro u m;exact aR rfl ⟨_,rfl,((m.b 0 rfl).full bV aL)⟩ (⟨_,rfl,m.ext,rfl⟩)
theorem pW{xs:List P3}{N cap:Nat}{A:Option Addr}{p:P3}(w:aj)(hL:Dg bN 3 w A N xs)(hN:N≤100000000):dJ prog 107 [.slice A N cap,pt p] w (fun v _=>v=.bool (decide (p∈xs))):=by
 refine⟨amG,?_⟩;have m:=Mem.refl w;have hxl:=hL.len
 go_enter func107,ntmps107
 refine eC 11 [0] m ?_;simp only[↓aD];intro g1;intro u m;refine cE [5] [4,6,7,8,9,10,11,12,13,14,15,16,17] (fun n vs wl=>∃(k:Nat),vs=[.int .i64 (k:Int)]∧Mem w wl [bI g1 [.int .i64 p.x,.int .i64 p.y,.int .i64 p.z] 30]∧(p∉xs.take k)∧(k≤N)∧(n=N-k)) ?_ ?_
 · skip
   apply Exists.intro;simp only[zQ,zR,zD,zE];exact⟨0,rfl,m,(by simp),br _,rfl⟩
 · intro n vs wr hI u K1 hK1
   clear m;obtain⟨k,rfl,m,hq,hk,hn⟩:=hI;simp only[zu,zF,zG];refine aW 8 [0,0] m ?_;simp only[↓aD,mQ];intro u m;refine bG rfl (fun hc1=>?_) (fun hc1=>?_)
   · skip
     obtain⟨x,hx,a,hA,hrow⟩:=hL.get (i:=k) (by omega);subst hA;refine aW 4 [0] m ?_;simp only[↓aD];intro u m;refine mq m aB (by kernel_rfl) (aJ aH (aJ aH ?_));simp only[zz];refine aJ (aF cX aA rfl rfl (by omega) (by omega) (bZ (ai _))) ?_;simp only[zz];refine ql rfl (fun u m=>(show fL _ _ _ _ (pt x) from (hrow.ext m.ext).lies aG aA)) ?_;simp only[zz];refine ql rfl (fun u m=>((m.b 0 rfl).full aG aA)) ?_;simp only[zz];refine aJ (bW rfl rfl) (bD ?_);clear m;intro u m;refine gc ?_;simp only[zz];refine bG rfl (fun hc2=>?_) (fun hc2=>?_)
     · skip
       have hxp:x=p:=P3.eq hc2.1 hc2.2.1 hc2.2.2;refine aW 5 [] m ?_;simp only[↓aD];intro u m;refine aR rfl rfl ?_;try simp only[zD,zE]
       exact⟨_,rfl,m.ext,by rw[decide_eq_true (hxp▸bj hx)]⟩
     · skip
       have hxp:x≠p:=fun h=>hc2 (by rw[h];exact⟨rfl,rfl,rfl⟩);refine aW 7 [0] m ?_;simp only[↓aD];refine⟨by omega,?_⟩;intro u m;refine hK1 (N-(k+1)) _ _ ?_ ?_ ?_
       · omega
       · simp only[zz,zv]
       · simp only[zQ,zR,zD,zE]
         exact⟨k+1,rfl,m,(by rw[bX hx,bt,bf];exact fun h=>h.elim hq fun e=>hxp e.symm),by omega,rfl⟩
   · skip
     obtain rfl:k=N:=by omega
     refine aW 6 [] m ?_;simp only[↓aD];intro u m;refine aR rfl rfl ?_;try simp only[zD,zE]
     exact⟨_,rfl,m.ext,by rw[decide_eq_false (by rwa [a_ (by omega)] at hq)]⟩
theorem Lv{ts:List T3}{N cap:Nat}{A:Option Addr}{p q:P3}[I3 p][I3 q](w:aj)(hT:bP w A N ts)(hN:N≤10000000):dJ prog 23 [.slice A N cap,pt p,pt q] w (SL 39 9 ((nJ ts p q).flatMap aN) (nJ ts p q).length w):=by
 refine⟨aqX,?_⟩;have m:=Mem.refl w;have htl:=hT.len
 go_enter func23,ntmps23
 refine eC 8 [0] m ?_;simp only[↓aD];intro g1 g2;intro u m;refine aC aM ?_;replace m:=m.nilO 39 9;refine aS 7 [0] m ?_;simp only[↓aD];intro u m;refine cE [7,8] [9,10,11,12,13,14,15,16,17,18,19,20,21,22,23,24,25,26,27,28,29,30,31,32,33,34,35,36,37,38,39,40,41,42,43,44,45] (fun n vs wl=>∃(k:Nat) (A7:Option Addr) (cap7:Nat),vs=[.slice A7 (oU p q (ts.take k)).length cap7,.int .i64 (k:Int)]∧Mem w wl [oI 39 9 A7 (oU p q (ts.take k)).length cap7 ((oU p q (ts.take k)).flatMap aN),bI g2 [.int .i64 q.x,.int .i64 q.y,.int .i64 q.z] 30,bI g1 [.int .i64 p.x,.int .i64 p.y,.int .i64 p.z] 30]∧(k≤N)∧(n=N-k)) ?_ ?_
 · skip
   apply Exists.intro;simp only[zQ,zR,zD,zE];exact⟨0,_,_,rfl,m,br _,rfl⟩
 · intro n vs wr hI u K1 hK1
   clear m;obtain⟨k,A7,cap7,rfl,m,hk,hn⟩:=hI;simp only[zu,zF,zG];refine aW 8 [0,0] m ?_;simp only[↓aD,iU];intro u m;refine bG rfl (fun hc1=>?_) (fun hc1=>?_)
   · skip
     obtain⟨t,ht,_,a,hA,hrow⟩:=hT.get (i:=k) (by omega);subst hA;have hcs:=Uz (p:=p) (q:=q) ht;have hcl:=Cp p q (ts.take k);rw[List.length_take] at hcl;refine aW 4 [0] m ?_;simp only[↓aD];intro u m;refine eD 8 [0,1,2,3,4,5,6] [⟨7,9,39,[.int .i64 0,.int .i64 0,.int .i64 0,.int .i64 0,.int .i64 0,.int .i64 0,.int .i64 0,.int .i64 0,.int .i64 0]⟩] aB (by kernel_rfl) (al1 ⟨_,_,_,rfl,by kernel_rfl,_,adc,rfl⟩) (ol:=?_) ?hol ?_
     case hol=>simp only[zw,zQ,zR];try rfl
     intro u e;replace m:=m.ext' e;clear e;refine iR aH (iR aH ?_);simp only[zz];refine iR (aF cC aL rfl rfl (by omega) (by omega) (bZ (ai _))) ?_;simp only[zz];refine eB rfl (fun u e=>((hrow.ext (m.ext' e).ext).lies bV aL)) ?_;simp only[zz];refine eB rfl (fun u e=>(((m.ext' e).b 2 rfl).full aG aA)) ?_;simp only[zz];refine eB rfl (fun u e=>(((m.ext' e).b 1 rfl).full aG aA)) ?_;simp only[zz];refine eO rfl rfl (Qy (t:=t) (p:=p) (q:=q)) (yM ?_);simp only[zz];refine mf1 m ?_;clear m;intro g3 u m;simp only[zJ,zK,zF,zG];refine bR m 0 rfl rfl rfl aL (iS rfl) rfl ?_;clear m;intro u m;simp only[zy,zx,cA,zF,zG,aa] at m;refine aK (cP 6 [0,0,0] m ?_);simp only[↓aD,bM,aO,ad,ag,aa];refine⟨by omega,?_⟩;intro u m;refine aC (fA rfl rfl) (aS 1 [0] m ?_);simp only[↓aD];intro u m;refine cS rfl (fun hb=>aI cH aA rfl rfl (by decide) (by decide) rfl) ?_;simp only[zz];refine gV rfl (fun hb=>aU (aV hb rfl) ((m.b 0 rfl).lies aG aA rfl rfl)) ?_;simp only[zz,zy,ar,aa,ag,ad];refine cS rfl (fun hb=>aI cH aA rfl rfl (by decide) (by decide) rfl) ?_;simp only[zz];refine gV rfl (fun hb=>aU (aV hb rfl) ((m.b 0 rfl).lies aG aA rfl rfl)) ?_;simp only[zz,zy,ar,aa,ag,ad];refine cS rfl (fun hb=>fA (aV hb rfl) (aV hb rfl)) (aC (bU rfl rfl rfl) ?_);refine aS 1 [0] m ?_;simp only[↓aD];intro u m;refine cS rfl (fun hb=>aI cH aA rfl rfl (by decide) (by decide) rfl) ?_;simp only[zz];refine gV rfl (fun hb=>aU (aV hb rfl) ((m.b 0 rfl).lies aG aA rfl rfl)) ?_;simp only[zz,zy,ar,aa,ag,ad];refine cS rfl (fun hb=>aI cH aA rfl rfl (by decide) (by decide) rfl) ?_;simp only[zz];refine gV rfl (fun hb=>aU (aV hb rfl) ((m.b 0 rfl).lies aG aA rfl rfl)) ?_;simp only[zz,zy,ar,aa,ag,ad];refine cS rfl (fun hb=>fA (aV hb rfl) (aV hb rfl)) (aC (bU rfl rfl rfl) ?_);refine aS 1 [0] m ?_;simp only[↓aD];intro u m;refine cN rfl (fun hc2=>?_) (fun hc2=>?_)
     · skip
       rw[asp] at hc2;rw[hc2,if_pos rfl] at hcs;refine aW 3 [0,0] m ?_;simp only[↓aD,dQ];intro u m;refine fH rfl ?_;intro u g4 e hg hB;replace m:=m.newB e hg hB;clear e hg hB;simp only[zz];refine bQ m 2 rfl rfl cC kA rfl (by decide) rfl rfl rfl (m.b 0 rfl).rowsO (fW rfl) (by omega) (by omega) ?_;clear m;intro A7 cap7 u m;simp only[zF,zG] at m;rw[show (oU p q (ts.take k)).flatMap aN++_=(oU p q (ts.take (k+1))).flatMap aN by rw[hcs,ba];rfl] at m;have hll:(oU p q (ts.take k)).length+1=(oU p q (ts.take (k+1))).length:=by rw[hcs,aw];rfl
       rw[hll] at m;rw[hll];refine aS 8 [0] m ?_;simp only[↓aD];refine⟨by omega,?_⟩;intro u m;refine hK1 (N-(k+1)) _ _ ?_ ?_ ?_
       · omega
       · simp only[zz,zv]
       · simp only[zQ,zR,zD,zE]
         exact⟨k+1,_,_,rfl,(m.sel [false,false,true,true,true]),by omega,rfl⟩
     · skip
       rw[asp] at hc2;rw[hc2,if_neg et,fb] at hcs;refine aW 7 [0] m ?_;simp only[↓aD];refine⟨by omega,?_⟩;intro u m;rw[←hcs] at m ⊢;refine hK1 (N-(k+1)) _ _ ?_ ?_ ?_
       · omega
       · simp only[zz,zv]
       · simp only[zQ,zR,zD,zE]
         exact⟨k+1,_,_,rfl,(m.sel [false,true,true,true]),by omega,rfl⟩
   · skip
     obtain rfl:k=N:=by omega
     rw[show ts.take k=ts from a_ (by omega)] at m ⊢;refine aW 4 [0] m ?_;simp only[↓aD];intro u m;refine bJ rfl rfl (aaA (ts:=oU p q ts) _ ((m.o 0 rfl).tris (Cx inferInstance hT.it)) (by have:=Cp p q ts;omega)) ?_;rintro v u e ⟨A8,cap8,n8,hn8,rfl,hN⟩;replace m:=m.newO e hN;clear e hN;refine aS 3 [] m ?_;simp only[↓aD];intro u m;refine aR rfl rfl ?_;try simp only[zD,zE]
     exact⟨_,rfl,m.ext,⟨_,_,_,by rw[hn8,Hs],rfl,(m.o 0 rfl)⟩⟩
theorem aio(p q:P3):(if p.Lt q then q else p)=nL p q:=by
 unfold nL;rcases lt_tri p q with h | h | h
 · rw[if_pos h,if_neg (lt_asymm h)]
 · subst h;simp[P3.lt_irrefl]
 · rw[if_neg (lt_asymm h),if_pos h]
theorem atg{p q:P3}{b:Bool}(hb:decide (q.Lt p)=b)(h:b=true):mK p q=q:=by subst hb;exact if_pos (of_decide_eq_true h)
theorem ath{p q:P3}{b:Bool}(hb:decide (q.Lt p)=b)(h:b=false):mK p q=p:=by subst hb;exact if_neg (of_decide_eq_false h)
theorem asq{p q:P3}{b:Bool}(hb:decide (p.Lt q)=b)(h:b=true):nL p q=q:=by subst hb;rw[←aio];exact if_pos (of_decide_eq_true h)
theorem asr{p q:P3}{b:Bool}(hb:decide (p.Lt q)=b)(h:b=false):nL p q=p:=by subst hb;rw[←aio];exact if_neg (of_decide_eq_false h)
theorem rO{α β:Type}{f:β→α→β}{z:β}{l:List α}{k:Nat}{x:α}(h:l[k]? = some x):(l.take (k+1)).foldl f z=f ((l.take k).foldl f z) x:=by rw[bX h,List.foldl_append];rfl
theorem Vd{x:P3}{xs:List P3}{N cap:Nat}{a:Addr}(w:aj)(hL:Dg bN 3 w (some a) N (x::xs))(hN:N≤100):dJ prog 203 [.slice (some a) N cap] w (fun v _=>v=.tuple #[pt (xs.foldl mK x),pt (xs.foldl nL x)]):=by
 refine⟨anD,?_⟩;have m:=Mem.refl w;have hxl:=hL.len;simp only[ay] at hxl;have hrow0:mB w (a.add (0*3)) (bN x):=hL.at (i:=0) rfl
 go_enter func203,ntmps203
 refine eC 8 [0] m ?_;simp only[↓aD,eY];intro g1 g2;intro u m;refine aC (aF cX aA rfl rfl (by decide) (by omega) rfl) ?_;simp only[zz];refine aQ rfl (show fL _ _ _ _ (pt x) from (show mB _ _ (bN x) from (hrow0.ext m.ext)).lies aG aA) ?_;simp only[zz];refine aS 6 [0,0] m ?_;simp only[↓aD,eY,aO,aa];intro g3;intro u m;refine aC (aF cX aA rfl rfl (by decide) (by omega) rfl) ?_;simp only[zz];refine aQ rfl (show fL _ _ _ _ (pt x) from (show mB _ _ (bN x) from (hrow0.ext m.ext)).lies aG aA) ?_;simp only[zz];refine aS 9 [0,0] m ?_;simp only[↓aD,eY,aO,aa];intro g4;intro u m;refine cE [6] [7,8,15,16,17,18,19,20,21,22,23,24,25,26,27,28,29,30,31,32,33,34,35,36,37,38,39,40,41,42] (fun n vs wl=>∃(k:Nat),vs=[.int .i64 ((k+1:Nat):Int)]∧Mem w wl [bI g4 [.int .i64 ((xs.take k).foldl nL x).x,.int .i64 ((xs.take k).foldl nL x).y,.int .i64 ((xs.take k).foldl nL x).z] 30,bI g3 [.int .i64 ((xs.take k).foldl mK x).x,.int .i64 ((xs.take k).foldl mK x).y,.int .i64 ((xs.take k).foldl mK x).z] 30,bI g2 [.int .i64 0,.int .i64 0,.int .i64 0] 30,bI g1 [.int .i64 0,.int .i64 0,.int .i64 0] 30]∧(k≤xs.length)∧(n=xs.length-k)) ?_ ?_
 · skip
   apply Exists.intro;simp only[zQ,zR,zD,zE];exact⟨0,rfl,m,br _,rfl⟩
 · intro n vs wr hI u K1 hK1
   clear m;obtain⟨k,rfl,m,hk,hn⟩:=hI;simp only[zu,zF,zG];refine aW 8 [0,0] m ?_;simp only[↓aD,mQ];intro u m;refine bG rfl (fun hc1=>?_) (fun hc1=>?_)
   · skip
     have hkl:k<xs.length:=by omega
     obtain⟨y,hy⟩:∃y,xs[k]? = some y:=⟨_,am hkl⟩
     have hrow:mB w (a.add ((k+1)*3)) (bN y):=hL.at (i:=k+1) (by rw[List.getElem?_cons_succ];exact hy);refine aW 4 [0] m ?_;simp only[↓aD];intro u m;refine mq m aB (by kernel_rfl) (aJ aH (aJ aH ?_));simp only[zz];refine aJ (aF cX aA rfl rfl (by omega) (by omega) (bZ (ai _))) ?_;simp only[zz];refine ql rfl (fun u m=>(show fL _ _ _ _ (pt y) from (hrow.ext m.ext).lies aG aA)) ?_;simp only[zz];refine ql rfl (fun u m=>((m.b 1 rfl).full aG aA)) ?_;simp only[zz];refine eR rfl rfl (mZ (p:=y) (q:=(xs.take k).foldl mK x)) (aJ aM (bD ?_));clear m;intro u m;refine cP 1 [0] m ?_;simp only[↓aD];intro u m;refine mq m aB (by kernel_rfl) (eM 3 [0] ?_);simp only[↓aD,aO];refine aJ (aF cX aA rfl rfl (by omega) (by omega) (bZ (ai _))) ?_;simp only[zz];refine ql rfl (fun u m=>(show fL _ _ _ _ (pt y) from (hrow.ext m.ext).lies aG aA)) ?_;simp only[zz];refine eR rfl rfl (mZ (p:=(xs.take k).foldl nL x) (q:=y)) (aJ aM (bD ?_));clear m;intro u m;refine cP 5 [0] m ?_;simp only[↓aD];intro u m;refine cN rfl (fun hc2=>?_) (fun hc2=>?_)
     · skip
       have hlo:=atg rfl hc2;refine aW 3 [0] m ?_;simp only[↓aD];intro u m;refine aC (aF cX aA rfl rfl (by omega) (by omega) (bZ (ai _))) ?_;simp only[zz];refine aQ rfl (show fL _ _ _ _ (pt y) from (hrow.ext m.ext).lies aG aA) ?_;simp only[zz];refine aS 6 [1,0] m ?_;simp only[↓aD,aO,aa];intro u m;refine cN rfl (fun hc3=>?_) (fun hc3=>?_)
       · skip
         have hhi:=asq rfl hc3;refine aW 3 [0] m ?_;simp only[↓aD];intro u m;refine aC (aF cX aA rfl rfl (by omega) (by omega) (bZ (ai _))) ?_;simp only[zz];refine aQ rfl (show fL _ _ _ _ (pt y) from (hrow.ext m.ext).lies aG aA) ?_;simp only[zz];refine aS 8 [0,0] m ?_;simp only[↓aD,aO,aa];refine⟨by omega,?_⟩;intro u m;have e1:=rO (f:=mK) (z:=x) hy;have e2:=rO (f:=nL) (z:=x) hy;rw[hlo] at e1;rw[hhi] at e2;refine hK1 (xs.length-(k+1)) _ _ ?_ ?_ ?_
         · omega
         · simp only[zz,zv]
         · simp only[zQ,zR,zD,zE]
           exact⟨k+1,rfl,((m.re 1 rfl ((by rw[e1];exact (m.b 1 rfl)))).re 0 rfl ((by rw[e2];exact (m.b 0 rfl)))),by omega,rfl⟩
       · skip
         have hhi:=asr rfl hc3;refine aW 7 [0] m ?_;simp only[↓aD];refine⟨by omega,?_⟩;intro u m;have e1:=rO (f:=mK) (z:=x) hy;have e2:=rO (f:=nL) (z:=x) hy;rw[hlo] at e1;rw[hhi] at e2;refine hK1 (xs.length-(k+1)) _ _ ?_ ?_ ?_
         · omega
         · simp only[zz,zv]
         · simp only[zQ,zR,zD,zE]
           exact⟨k+1,rfl,((m.re 1 rfl ((by rw[e1];exact (m.b 1 rfl)))).re 0 rfl ((by rw[e2];exact (m.b 0 rfl)))),by omega,rfl⟩
     · skip
       have hlo:=ath rfl hc2;refine aW 5 [0] m ?_;simp only[↓aD];intro u m;refine cN rfl (fun hc3=>?_) (fun hc3=>?_)
       · skip
         have hhi:=asq rfl hc3;refine aW 3 [0] m ?_;simp only[↓aD];intro u m;refine aC (aF cX aA rfl rfl (by omega) (by omega) (bZ (ai _))) ?_;simp only[zz];refine aQ rfl (show fL _ _ _ _ (pt y) from (hrow.ext m.ext).lies aG aA) ?_;simp only[zz];refine aS 8 [0,0] m ?_;simp only[↓aD,aO,aa];refine⟨by omega,?_⟩;intro u m;have e1:=rO (f:=mK) (z:=x) hy;have e2:=rO (f:=nL) (z:=x) hy;rw[hlo] at e1;rw[hhi] at e2;refine hK1 (xs.length-(k+1)) _ _ ?_ ?_ ?_
         · omega
         · simp only[zz,zv]
         · simp only[zQ,zR,zD,zE]
           exact⟨k+1,rfl,((m.re 1 rfl ((by rw[e1];exact (m.b 1 rfl)))).re 0 rfl ((by rw[e2];exact (m.b 0 rfl)))),by omega,rfl⟩
       · skip
         have hhi:=asr rfl hc3;refine aW 7 [0] m ?_;simp only[↓aD];refine⟨by omega,?_⟩;intro u m;have e1:=rO (f:=mK) (z:=x) hy;have e2:=rO (f:=nL) (z:=x) hy;rw[hlo] at e1;rw[hhi] at e2;refine hK1 (xs.length-(k+1)) _ _ ?_ ?_ ?_
         · omega
         · simp only[zz,zv]
         · simp only[zQ,zR,zD,zE]
           exact⟨k+1,rfl,((m.re 1 rfl ((by rw[e1];exact (m.b 1 rfl)))).re 0 rfl ((by rw[e2];exact (m.b 0 rfl)))),by omega,rfl⟩
   · skip
     obtain rfl:k=xs.length:=by omega
     rw[a_ (av _)] at m;refine aW 2 [0] m ?_;simp only[↓aD];intro u m;refine zvt [true,true,false,false] [[1],[0],[3],[2]] (.take 0 (.take 1 (.one 2 (.one 3 .nil)))) m aB (by kernel_rfl) (bT (fun _ _ _ _ _ h=>h)) ?_;simp only[↓aD,↓zzu,aO,aa];intro u m;refine cP 1 [] m ?_;simp only[↓aD];intro u m;exact wU rfl ⟨_,rfl,((m.b 3 rfl).full aG aA)⟩ ⟨_,rfl,((m.b 2 rfl).full aG aA)⟩ (⟨_,rfl,m.ext,rfl⟩)
end Go.Proofs.YtfekpcimgncioaaGreatDoor
namespace Go.Lith
open Go.RowKit
def oV(D:List (P3 × Hd))(p:P3):Hd:=(cI D p).getD ⟨none,0,0⟩
def nbK(p:P3)(q:P3):List P3:=if q≠p then [q] else []
def nbT(p:P3)(t:T3):List P3:=nbK p t.a++nbK p t.b++nbK p t.c
def nB(ts:List T3)(p:P3):List P3:=(ts.filter fun t=>t.has p).flatMap (nbT p)
theorem Cz{p q x:P3}:x∈nbK p q↔x=q∧x≠p:=by
 unfold nbK;split
 · rename_i h;rw[bf];exact⟨fun e=>⟨e,e▸h⟩,fun e=>e.1⟩
 · rename_i h;exact⟨fun e=>(by cases e),fun e=>absurd (e.1▸e.2) h⟩
theorem rP{ts:List T3}{p x:P3}:x∈nB ts p↔Mg ts p x=true:=by
 unfold nB;rw[Pt,Hc,List.mem_flatMap];constructor
 · rintro⟨t,ht,hx⟩
   obtain⟨h1,h2⟩:=ct.1 ht;unfold nbT at hx;rw[bt,bt,Cz,Cz,Cz] at hx;have hne:x≠p:=by rcases hx with (h | h) | h <;> exact h.2
   have hh:t.has x=true:=eU.2 (by rcases hx with (h | h) | h <;> simp[h.1]);exact⟨hne,t,h1,h2,hh⟩
 · rintro⟨hne,t,h1,h2,hh⟩
   refine⟨t,ct.2 ⟨h1,h2⟩,?_⟩;unfold nbT;rw[bt,bt,Cz,Cz,Cz];rcases eU.1 hh with e | e | e
   · exact .inl (.inl ⟨e,hne⟩)
   · exact .inl (.inr ⟨e,hne⟩)
   · exact .inr ⟨e,hne⟩
theorem aip{p q:P3}(h:¬(q.x=p.x∧q.y=p.y∧q.z=p.z)):nbK p q=[q]:=if_pos fun e=>h (by rw[e];exact⟨rfl,rfl,rfl⟩)
theorem aiq{p q:P3}(h:¬¬(q.x=p.x∧q.y=p.y∧q.z=p.z)):nbK p q=[]:=if_neg fun k=>h fun e=>k (P3.eq e.1 e.2.1 e.2.2)
theorem air{fs:List T3}{p:P3}{k:Nat}{t:T3}(h:fs[k]? = some t):(fs.take (k+1)).flatMap (nbT p)=(fs.take k).flatMap (nbT p)++nbK p t.a++nbK p t.b++nbK p t.c:=by
 rw[bX h,ba,List.flatMap_cons,List.flatMap_nil,fb];unfold nbT;simp only[List.append_assoc]
end Go.Lith
namespace Go.Proofs.YtfekpcimgncioaaGreatDoor
open Go.Proofs.Tryz
open Go.RowKit Go.Lith
set_option maxRecDepth 100000
attribute [local irreducible] au cg fR bO cO Code.wp
attribute [local congr] pL fX fY fZ gA gB kI gC gD gE gF gG gH gI gJ gK gL gM eS eT gN gQ gS gT gU kK dC dD cR dB gR kJ eV eW eX gW gX kL
theorem Xt{g90 ga gf N cap ca:Nat}{A:Option Addr}{ea:Array b_}{D:List (P3 × Hd)}{ts:List T3}{p:P3}(w:aj)(hB90:fK w g90 [.slice A N cap,.map (some ga),.map (some gf)] 109)(hMa:iX w ga ea ca)(hDa:bL pt Hd.v D ea ca)(hS:∀p,bP w (oV D p).A (oV D p).n (ts.filter fun t=>t.has p)∧(oV D p).n≤(oV D p).cap)(hN:ts.length≤10000000):dJ prog 62 [.pointer (some ⟨g90,0,none⟩),pt p] w (fun v w'=>∃g es c,v=.map (some g)∧Mem w w' [mI g es c]∧bL pt bw (fQ [] (nB ts p)) es c):=by
 refine⟨arm,?_⟩;have m:=Mem.refl w
 go_enter func62,ntmps62
 refine eC 7 [0] m ?_;simp only[↓aD];intro g1;intro u m;refine lO m ?_;clear m;intro q8 u m;have hD8:=bL.nil (K:=P3) (V:=Bool) pt bw;refine aS 4 [0] m ?_;simp only[↓aD];intro u m;refine mq m aB (by kernel_rfl) (eM 3 [] ?_);simp only[↓aD,Py,aa];refine ql rfl (fun u m=>((hB90.ext m.ext).lies1 ade rfl)) ?_;simp only[zz];refine ql rfl (fun u m=>((m.b 1 rfl).full aG aA)) ?_;simp only[zz];refine jY (fun u m=>dZ (ek:=pt) (en:=Hd.v) (k:=p) (v0:=⟨none,0,0⟩) underlying106 adb fT rfl rfl (hMa.ext m.ext) hDa) ?_;simp only[zz];refine aJ (Ip rfl cC rfl) (aJ aH (bD ?_));clear m;intro u m;simp only[zz];obtain⟨⟨A9,n9,cap9⟩,hhe⟩:∃h:Hd,h=(cI D p).getD ⟨none,0,0⟩:=⟨_,rfl⟩
 have hT9:=hS p;unfold oV at hT9;rw[←hhe] at hT9;obtain⟨hT9,hle9⟩:=hT9;simp only at hT9 hle9;have hl9:=hT9.len;have hfl:=fc (fun t=>T3.has t p) ts;rw[←hhe];simp only[Hd.v];refine cP 1 [0] m ?_;simp only[↓aD];intro u m;refine cE [18] [7,9,19,20,21,22,23,24,25,26,27,28,29,30,31,32] (fun n vs wl=>∃(k:Nat) (es:Array b_) (c:Nat),vs=[.int .i64 (k:Int)]∧Mem w wl [mI q8 es c,bI g1 [.int .i64 p.x,.int .i64 p.y,.int .i64 p.z] 30]∧(bL pt bw (fQ [] (((ts.filter fun t=>t.has p).take k).flatMap (nbT p))) es c)∧(k≤n9)∧(n=n9-k)) ?_ ?_
 · skip
   apply Exists.intro;simp only[zQ,zR,zD,zE];exact⟨0,_,_,rfl,m,hD8,br _,rfl⟩
 · intro n vs wr hI u K1 hK1
   clear m;obtain⟨k,es8,c8,rfl,m,hD8,hk,hn⟩:=hI;simp only[zu,zF,zG];refine aW 5 [0,0] m ?_;simp only[↓aD];intro u m;refine bG rfl (fun hc1=>?_) (fun hc1=>?_)
   · skip
     obtain⟨t,ht,_,a,rfl,hrow⟩:=hT9.get (i:=k) (by omega);refine aW 5 [0] m ?_;simp only[↓aD];intro u m;refine aC (aF cC aL rfl rfl (by omega) (by omega) (bZ (ai _))) ?_;simp only[zz];refine aQ rfl ((hrow.ext m.ext).lies bV aL) ?_;simp only[zz];refine aS 22 [0,0,4,1,0] m ?_;simp only[↓aD,kX,dQ,aa];intro g3;refine⟨by omega,?_⟩;intro u m;refine aC (sU rfl rfl) (aS 7 [0,0,3,0] m ?_);simp only[↓aD,eY,aO,aa];intro g4;intro u m;refine aC (fA rfl rfl) (aS 1 [0] m ?_);simp only[↓aD];intro u m;refine kU m 2 [] [29,30] (fun vs i=>∃(es:Array b_) (c:Nat),vs=[]∧i=mI q8 es c∧(bL pt bw (fQ [] ((((ts.filter fun t=>t.has p).take k).flatMap (nbT p))++nbK p t.a)) es c)) ?_ ?_
     · intro K2 hK2
       refine bG rfl (fun hc3=>?_) (fun hc3=>?_)
       · skip
         refine aW 3 [0,0] m ?_;simp only[↓aD,aO];intro u m;refine mY (ek:=pt) (en:=bw) (a:=t.a) (v:=true) m 2 rfl nE fT rfl rfl rfl hD8 ?_;clear m;intro es8 c8 u m hD';clear hD8;have hD8:=hD';clear hD';simp only[zF,zG] at m;rw[←lX] at hD8;refine aS 1 [0] m ?_;simp only[↓aD];intro u m;refine hK2 _ _ _ ?_ m ?_
         · simp only[zz,zv]
         · simp only[zQ,zR,zD,zE]
           exact⟨_,_,trivial,rfl,by rw[aip hc3];exact hD8⟩
       · skip
         refine aW 1 [0] m ?_;simp only[↓aD];intro u m;refine hK2 _ _ _ ?_ m ?_
         · simp only[zz,zv]
         · simp only[zQ,zR,zD,zE]
           exact⟨_,_,trivial,rfl,by rw[aiq hc3,fb];exact hD8⟩
     · intro vs i wr m hI u
       obtain⟨es8,c8,rfl,rfl,hD8⟩:=hI;simp only[zF,zG] at m;simp only[zu,zF,zG];refine cP 17 [1,0] m ?_;simp only[↓aD,ak];refine⟨by omega,?_⟩;intro u m;refine aC (sV rfl rfl) (aS 7 [0,0,4,0] m ?_);simp only[↓aD,eY,aO,aa];intro g5;intro u m;refine aC (fA rfl rfl) (aS 1 [0] m ?_);simp only[↓aD];intro u m;refine kU m 3 [] [29,30] (fun vs i=>∃(es:Array b_) (c:Nat),vs=[]∧i=mI q8 es c∧(bL pt bw (fQ [] (((((ts.filter fun t=>t.has p).take k).flatMap (nbT p))++nbK p t.a)++nbK p t.b)) es c)) ?_ ?_
       · intro K3 hK3
         refine bG rfl (fun hc3=>?_) (fun hc3=>?_)
         · skip
           refine aW 3 [0,0] m ?_;simp only[↓aD,aO];intro u m;refine mY (ek:=pt) (en:=bw) (a:=t.b) (v:=true) m 3 rfl nE fT rfl rfl rfl hD8 ?_;clear m;intro es8 c8 u m hD';clear hD8;have hD8:=hD';clear hD';simp only[zF,zG] at m;rw[←lX] at hD8;refine aS 1 [0] m ?_;simp only[↓aD];intro u m;refine hK3 _ _ _ ?_ m ?_
           · simp only[zz,zv]
           · simp only[zQ,zR,zD,zE]
             exact⟨_,_,trivial,rfl,by rw[aip hc3];exact hD8⟩
         · skip
           refine aW 1 [0] m ?_;simp only[↓aD];intro u m;refine hK3 _ _ _ ?_ m ?_
           · simp only[zz,zv]
           · simp only[zQ,zR,zD,zE]
             exact⟨_,_,trivial,rfl,by rw[aiq hc3,fb];exact hD8⟩
       · intro vs i wr m hI u
         obtain⟨es8,c8,rfl,rfl,hD8⟩:=hI;simp only[zF,zG] at m;simp only[zu,zF,zG];refine cP 17 [1,0] m ?_;simp only[↓aD,ak];refine⟨by omega,?_⟩;intro u m;refine aC (sW rfl rfl) (aS 7 [0,0,5,0] m ?_);simp only[↓aD,eY,aO,aa];intro g6;intro u m;refine aC (fA rfl rfl) (aS 1 [0] m ?_);simp only[↓aD];intro u m;refine kU m 4 [] [29,30] (fun vs i=>∃(es:Array b_) (c:Nat),vs=[]∧i=mI q8 es c∧(bL pt bw (fQ [] ((((((ts.filter fun t=>t.has p).take k).flatMap (nbT p))++nbK p t.a)++nbK p t.b)++nbK p t.c)) es c)) ?_ ?_
         · intro K4 hK4
           refine bG rfl (fun hc3=>?_) (fun hc3=>?_)
           · skip
             refine aW 3 [0,0] m ?_;simp only[↓aD,aO];intro u m;refine mY (ek:=pt) (en:=bw) (a:=t.c) (v:=true) m 4 rfl nE fT rfl rfl rfl hD8 ?_;clear m;intro es8 c8 u m hD';clear hD8;have hD8:=hD';clear hD';simp only[zF,zG] at m;rw[←lX] at hD8;refine aS 1 [0] m ?_;simp only[↓aD];intro u m;refine hK4 _ _ _ ?_ m ?_
             · simp only[zz,zv]
             · simp only[zQ,zR,zD,zE]
               exact⟨_,_,trivial,rfl,by rw[aip hc3];exact hD8⟩
           · skip
             refine aW 1 [0] m ?_;simp only[↓aD];intro u m;refine hK4 _ _ _ ?_ m ?_
             · simp only[zz,zv]
             · simp only[zQ,zR,zD,zE]
               exact⟨_,_,trivial,rfl,by rw[aiq hc3,fb];exact hD8⟩
         · intro vs i wr m hI u
           obtain⟨es8,c8,rfl,rfl,hD8⟩:=hI;simp only[zF,zG] at m;simp only[zu,zF,zG];refine cP 18 [2,0] m ?_;simp only[↓aD,ak];refine⟨by omega,?_⟩;intro u m;refine hK1 (n9-(k+1)) _ _ ?_ ?_ ?_
           · omega
           · simp only[zz,zv]
           · simp only[zQ,zR,zD,zE]
             exact⟨k+1,_,_,rfl,(m.sel [false,false,false,false,true,true]),by rw[air ht];exact hD8,by omega,rfl⟩
   · skip
     obtain rfl:k=n9:=by omega
     rw[show (ts.filter fun t=>t.has p).take k=ts.filter fun t=>t.has p from a_ (by omega)] at hD8;refine aW 7 [] m ?_;simp only[↓aD];intro u m;exact aR rfl rfl (⟨_,rfl,m.ext,_,_,_,rfl,m.sel [true,false],hD8⟩)
theorem ais{t r:T3}[IT t][IT r]:dL prog 172 [tr t,tr r] (.int .i64 (Sf t r)):=by
 intro w;refine⟨ang,?_⟩;have m:=Mem.refl w
 go_enter func172,ntmps172
 refine eC 7 [0] m ?_;simp only[↓aD];intro g1 g2;intro u m;refine mq m aB (by kernel_rfl) (ql rfl (fun u m=>((m.b 1 rfl).full bV aL)) ?_);simp only[zz];refine eR rfl rfl Qm ?_;simp only[zz];refine ql rfl (fun u m=>((m.b 0 rfl).full bV aL)) ?_;simp only[zz];refine eR rfl rfl Qm ?_;simp only[zz];refine eR rfl rfl (Lp Bv.of Bv.of) ?_;simp only[zz];refine eR rfl rfl (Kc Bw.up) (aJ aM (bD ?_));clear m;intro u m;refine cP 1 [] m ?_;simp only[↓aD];intro u m;exact aR rfl rfl (⟨_,rfl,m.ext,rfl⟩)
theorem acE{t r:T3}{k:Nat}(hk:k<3)(h:Co t k<Cn r k):nU t r=false:=by
 unfold nU aat
 match k,hk with
 | 0,_=>simp[h]
 | 1,_=>simp[h]
 | 2,_=>simp[h]
theorem acF{t r:T3}{k:Nat}(hk:k<3)(h:Co r k<Cn t k):nU t r=false:=by
 unfold nU aat
 match k,hk with
 | 0,_=>simp[h]
 | 1,_=>simp[h]
 | 2,_=>simp[h]
theorem apX{t r:T3}(h0:¬Co t 0<Cn r 0)(h1:¬Co t 1<Cn r 1)(h2:¬Co t 2<Cn r 2)(g0:¬Co r 0<Cn t 0)(g1:¬Co r 1<Cn t 1)(g2:¬Co r 2<Cn t 2):nU t r=true:=by
 unfold nU aat;simp[h0,h1,h2,g0,g1,g2]
theorem apY{t r:T3}:dL prog 175 [.agg #[.int .i64 (Cn t 0),.int .i64 (Cn t 1),.int .i64 (Cn t 2),.int .i64 (Co t 0),.int .i64 (Co t 1),.int .i64 (Co t 2)],.agg #[.int .i64 (Cn r 0),.int .i64 (Cn r 1),.int .i64 (Cn r 2),.int .i64 (Co r 0),.int .i64 (Co r 1),.int .i64 (Co r 2)]] (.bool (nU t r)):=by
 intro w;refine⟨anj,?_⟩;have m:=Mem.refl w
 go_enter func175,ntmps175
 refine eC 29 [4,1] m ?_;simp only[↓aD];intro g1 g2;refine⟨by omega,?_⟩;intro u m;by_cases h0:Co t 0<Cn r 0
 · skip
   refine gc (mq m aB (by kernel_rfl) ?_);refine eM 8 [1,0] ?_;simp only[↓aD,jS,fU,dU,jR,aa,ad,ag];refine⟨by omega,?_⟩;refine aJ (qH rfl rfl h0) (aJ aH (Fq rfl ?_));refine eM 9 [] ?_;simp only[↓aD];refine bD ?_;clear m;intro u m;refine cP 6 [] m ?_;simp only[↓aD];intro u m;refine aR rfl rfl ?_;try simp only[zD,zE]
   exact⟨_,rfl,m.ext,by rw[acE (k:=0) (by decide) h0]⟩
 · skip
   refine gc (mq m aB (by kernel_rfl) ?_);refine eM 8 [1,0] ?_;simp only[↓aD,jS,fU,dU,jR,aa,ad,ag];refine⟨by omega,?_⟩;refine aJ (Ei rfl rfl h0) (aJ aH (tI rfl (aJ aH ?_)));refine eM 9 [0,1,0] ?_;simp only[↓aD,jS,fU,dU,jR,aa,ad,ag];refine⟨by omega,?_⟩;refine bD ?_;clear m;intro u m;refine gc (bG rfl (fun hc2=>?_) (fun hc2=>?_))
   · skip
     have q0:=hc2;refine aW 5 [] m ?_;simp only[↓aD];intro u m;refine aR rfl rfl ?_;try simp only[zD,zE]
     exact⟨_,rfl,m.ext,by rw[acF (k:=0) (by decide) q0]⟩
   · skip
     have q0:=hc2;refine aW 22 [1] m ?_;simp only[↓aD,ak];refine⟨by omega,?_⟩;intro u m;by_cases h1:Co t 1<Cn r 1
     · skip
       refine gc (mq m aB (by kernel_rfl) ?_);refine eM 8 [1,0] ?_;simp only[↓aD,jS,fU,dU,jR,aa,ad,ag];refine⟨by omega,?_⟩;refine aJ (qH rfl rfl h1) (aJ aH (Fq rfl ?_));refine eM 9 [] ?_;simp only[↓aD];refine bD ?_;clear m;intro u m;refine cP 6 [] m ?_;simp only[↓aD];intro u m;refine aR rfl rfl ?_;try simp only[zD,zE]
       exact⟨_,rfl,m.ext,by rw[acE (k:=1) (by decide) h1]⟩
     · skip
       refine gc (mq m aB (by kernel_rfl) ?_);refine eM 8 [1,0] ?_;simp only[↓aD,jS,fU,dU,jR,aa,ad,ag];refine⟨by omega,?_⟩;refine aJ (Ei rfl rfl h1) (aJ aH (tI rfl (aJ aH ?_)));refine eM 9 [0,1,0] ?_;simp only[↓aD,jS,fU,dU,jR,aa,ad,ag];refine⟨by omega,?_⟩;refine bD ?_;clear m;intro u m;refine gc (bG rfl (fun hc2=>?_) (fun hc2=>?_))
       · skip
         have q1:=hc2;refine aW 5 [] m ?_;simp only[↓aD];intro u m;refine aR rfl rfl ?_;try simp only[zD,zE]
         exact⟨_,rfl,m.ext,by rw[acF (k:=1) (by decide) q1]⟩
       · skip
         have q1:=hc2;refine aW 22 [1] m ?_;simp only[↓aD,ak];refine⟨by omega,?_⟩;intro u m;by_cases h2:Co t 2<Cn r 2
         · skip
           refine gc (mq m aB (by kernel_rfl) ?_);refine eM 8 [1,0] ?_;simp only[↓aD,jS,fU,dU,jR,aa,ad,ag];refine⟨by omega,?_⟩;refine aJ (qH rfl rfl h2) (aJ aH (Fq rfl ?_));refine eM 9 [] ?_;simp only[↓aD];refine bD ?_;clear m;intro u m;refine cP 6 [] m ?_;simp only[↓aD];intro u m;refine aR rfl rfl ?_;try simp only[zD,zE]
           exact⟨_,rfl,m.ext,by rw[acE (k:=2) (by decide) h2]⟩
         · skip
           refine gc (mq m aB (by kernel_rfl) ?_);refine eM 8 [1,0] ?_;simp only[↓aD,jS,fU,dU,jR,aa,ad,ag];refine⟨by omega,?_⟩;refine aJ (Ei rfl rfl h2) (aJ aH (tI rfl (aJ aH ?_)));refine eM 9 [0,1,0] ?_;simp only[↓aD,jS,fU,dU,jR,aa,ad,ag];refine⟨by omega,?_⟩;refine bD ?_;clear m;intro u m;refine gc (bG rfl (fun hc2=>?_) (fun hc2=>?_))
           · skip
             have q2:=hc2;refine aW 5 [] m ?_;simp only[↓aD];intro u m;refine aR rfl rfl ?_;try simp only[zD,zE]
             exact⟨_,rfl,m.ext,by rw[acF (k:=2) (by decide) q2]⟩
           · skip
             have q2:=hc2;refine aW 19 [2] m ?_;simp only[↓aD,ak];refine⟨by omega,?_⟩;intro u m;refine aR rfl rfl ?_;try simp only[zD,zE]
             exact⟨_,rfl,m.ext,by rw[apX h0 h1 h2 q0 q1 q2]⟩
end Go.Proofs.YtfekpcimgncioaaGreatDoor
namespace Go.Lith
open Go.RowKit
section
variable {P:bh} {l:List ah} {T ty:an} {x y:bg} {k:IntKind} {m:Int}
theorem ait{n c:Nat}{E:an}{a:Addr}(hu:P.underlying T=some (.array n E))(hc:dP P E c)(hx:ev l x=.pointer (some a)) :
 iG P l (.slice T x none none none) ty (.slice (some a) n n):=fun w o ho _=>by
 have e:(if n=0 then a else a.add (0*c))=a:=by
  split
  · rfl
  · simp[Addr.add]
 simp[cw,ho,cJ,hx,Instr.sliceAt,Instr.sliceBounds,Instr.sliceBound,asIntOf,bx hu,eH hc,Instr.sureAddr,e];intro _;simp[Addr.add]
theorem acG{n c q:Nat}{E:an}{a a':Addr}(hu:P.underlying T=some (.array n E))(hc:dP P E c)(hx:ev l x=.pointer (some a))(hy:ev l y=.int k m)(hq:m.toNat=q)(h0:0≤m)(h1:m≤n)(hA:(if n=q then a else a.add (q*c))=a') :
 iG P l (.slice T x (some y) none none) ty (.slice (some a') (n-q) (n-q)):=fun w o ho _=>by
 subst hq;subst hA;simp[cw,ho,cJ,hx,hy,Instr.sliceAt,Instr.sliceBounds,Instr.sliceBound,asIntOf,bx hu,eH hc,Instr.sureAddr,h0,h1]
theorem afo{n len cap:Nat}{E:an}{A:Option Addr}(hu:P.underlying T=some (.array n E))(hx:ev l x=.slice A len cap)(h:n≤len) :
 iG P l (.sliceToArrayPointer T x) ty (.pointer A):=fun w o ho _=>by
 have:¬len<n:=by omega
 simp[cw,ho,cJ,hx,Instr.arrayAt,bx hu,this]
end
end Go.Lith
namespace Go.Proofs.YtfekpcimgncioaaGreatDoor
open Go.Proofs.Tryz
open Go.RowKit Go.Lith
set_option maxRecDepth 100000
attribute [local irreducible] au cg fR bO cO Code.wp
attribute [local congr] pL fX fY fZ gA gB kI gC gD gE gF gG gH gI gJ gK gL gM eS eT gN gQ gS gT gU kK dC dD cR dB gR kJ eV eW eX gW gX kL
theorem Kl(m n:Int):(if n<m then n else m)=min m n:=by omega
theorem Km(m n:Int):(if m<n then n else m)=max m n:=by omega
theorem aaN{t:T3}:dL prog 173 [tr t] (.agg #[.int .i64 (Cn t 0),.int .i64 (Cn t 1),.int .i64 (Cn t 2),.int .i64 (Co t 0),.int .i64 (Co t 1),.int .i64 (Co t 2)]):=by
 intro w;refine⟨anh,?_⟩;have m:=Mem.refl w
 go_enter func173,ntmps173
 refine eC 14 [1,1] m ?_;simp only[↓aD,acl,bM,jW,dU,kM,ad,ag,aa];intro g1 g2;refine⟨by omega,?_⟩;intro u m;refine cP 13 [1,1,1,1] m ?_;simp only[↓aD,lM,dU,uD,bM,jW,kM,aa,ad,ag];refine⟨by omega,?_⟩;intro u m;refine cP 7 [0,0] m ?_;simp only[↓aD,apo,acl,ack,aa];intro g3;intro u m;refine aC (acG cH aA rfl rfl rfl (by decide) (by decide) rfl) (aS 27 [3,1,2,0,0] m ?_);simp only[↓aD,reduceIte,mQ,al0,aO,eY,jW,dU,kM,Nat.reduceEqDiff,ag,aa,ad];intro g4;refine⟨by omega,?_⟩;intro u m;refine cP 21 [0,0,4,1,0] m ?_;simp only[↓aD,dU,lM,uD,aa];refine⟨by omega,?_⟩;intro u m;refine aC (jI rfl rfl) (aS 3 [0] m ?_);simp only[↓aD];intro u m;refine kU m 1 [] [46,47,48,49,50,51,52,53,54,55,56,57,58,59,60,61,62,63] (fun vs i=>vs=[]∧i=bI g3 [.int .i64 (min t.a.x t.b.x),.int .i64 t.a.y,.int .i64 t.a.z,.int .i64 (max t.a.x t.b.x),.int .i64 t.a.y,.int .i64 t.a.z] 222) ?_ ?_
 · intro K1 hK1
   refine zvt [true,false,true,true] [[],[],[],[],[],[1],[],[],[],[],[],[1],[],[],[],[],[1],[],[],[1]] (.take 0 (.take 1 (.take 2 (.take 3 (.take 4 (.take 6 (.take 8 (.take 9 (.take 10 (.take 12 (.take 14 (.take 17 (.two 5 (.take 7 (.one 11 (.take 13 (.take 15 (.one 16 (.take 18 (.one 19 .nil))))))) 11 (.take 13 (.one 5 (.take 7 (.take 15 (.one 16 (.take 18 (.one 19 .nil)))))))))))))))))))) m aB (by kernel_rfl) (bT (fun _ _ _ _ _ h=>h)) ?_;simp only[↓aD,↓zzu,jR,fU,jS,dU,Kl,Km,aa,ad,ag];refine⟨by omega,?_⟩;intro u m;refine gk (hK1 _ _ _ ?_ m ?_)
   · simp only[zz,zv]
   · simp only[zQ,zR,zD,zE]
     exact⟨trivial,(by first | rfl | trivial)⟩
 · intro vs i wr m hI u
   obtain⟨rfl,rfl⟩:=hI;simp only[zF,zG] at m;simp only[zu,zF,zG];refine cP 18 [1,0] m ?_;simp only[↓aD,ak];refine⟨by omega,?_⟩;intro u m;refine aC (jJ rfl rfl) (aS 3 [0] m ?_);simp only[↓aD];intro u m;refine kU m 1 [] [46,47,48,49,50,51,52,53,54,55,56,57,58,59,60,61,62,63] (fun vs i=>vs=[]∧i=bI g3 [.int .i64 (min t.a.x t.b.x),.int .i64 (min t.a.y t.b.y),.int .i64 t.a.z,.int .i64 (max t.a.x t.b.x),.int .i64 (max t.a.y t.b.y),.int .i64 t.a.z] 222) ?_ ?_
   · intro K2 hK2
     refine zvt [true,false,true,true] [[],[],[],[],[],[1],[],[],[],[],[],[1],[],[],[],[],[1],[],[],[1]] (.take 0 (.take 1 (.take 2 (.take 3 (.take 4 (.take 6 (.take 8 (.take 9 (.take 10 (.take 12 (.take 14 (.take 17 (.two 5 (.take 7 (.one 11 (.take 13 (.take 15 (.one 16 (.take 18 (.one 19 .nil))))))) 11 (.take 13 (.one 5 (.take 7 (.take 15 (.one 16 (.take 18 (.one 19 .nil)))))))))))))))))))) m aB (by kernel_rfl) (bT (fun _ _ _ _ _ h=>h)) ?_;simp only[↓aD,↓zzu,jR,fU,jS,dU,Kl,Km,aa,ad,ag];refine⟨by omega,?_⟩;intro u m;refine gk (hK2 _ _ _ ?_ m ?_)
     · simp only[zz,zv]
     · simp only[zQ,zR,zD,zE]
       exact⟨trivial,(by first | rfl | trivial)⟩
   · intro vs i wr m hI u
     obtain⟨rfl,rfl⟩:=hI;simp only[zF,zG] at m;simp only[zu,zF,zG];refine cP 18 [1,0] m ?_;simp only[↓aD,ak];refine⟨by omega,?_⟩;intro u m;refine aC (jK rfl rfl) (aS 3 [0] m ?_);simp only[↓aD];intro u m;refine kU m 1 [] [46,47,48,49,50,51,52,53,54,55,56,57,58,59,60,61,62,63] (fun vs i=>vs=[]∧i=bI g3 [.int .i64 (min t.a.x t.b.x),.int .i64 (min t.a.y t.b.y),.int .i64 (min t.a.z t.b.z),.int .i64 (max t.a.x t.b.x),.int .i64 (max t.a.y t.b.y),.int .i64 (max t.a.z t.b.z)] 222) ?_ ?_
     · intro K3 hK3
       refine zvt [true,false,true,true] [[],[],[],[],[],[1],[],[],[],[],[],[1],[],[],[],[],[1],[],[],[1]] (.take 0 (.take 1 (.take 2 (.take 3 (.take 4 (.take 6 (.take 8 (.take 9 (.take 10 (.take 12 (.take 14 (.take 17 (.two 5 (.take 7 (.one 11 (.take 13 (.take 15 (.one 16 (.take 18 (.one 19 .nil))))))) 11 (.take 13 (.one 5 (.take 7 (.take 15 (.one 16 (.take 18 (.one 19 .nil)))))))))))))))))))) m aB (by kernel_rfl) (bT (fun _ _ _ _ _ h=>h)) ?_;simp only[↓aD,↓zzu,jR,fU,jS,dU,Kl,Km,aa,ad,ag];refine⟨by omega,?_⟩;intro u m;refine gk (hK3 _ _ _ ?_ m ?_)
       · simp only[zz,zv]
       · simp only[zQ,zR,zD,zE]
         exact⟨trivial,(by first | rfl | trivial)⟩
     · intro vs i wr m hI u
       obtain⟨rfl,rfl⟩:=hI;simp only[zF,zG] at m;simp only[zu,zF,zG];refine cP 34 [2,1,3,0] m ?_;simp only[↓aD,al0,aO,eY,ak,ad,ag,aa];intro g5;refine⟨by omega,?_⟩;intro u m;refine cP 25 [0,0,0,4,1] m ?_;simp only[↓aD,jW,dU,kM,lM,uD,aa];refine⟨by omega,?_⟩;intro u m;refine cP 2 [0] m ?_;simp only[↓aD];intro u m;refine aC (jI rfl rfl) (aS 3 [0] m ?_);simp only[↓aD];intro u m;refine kU m 2 [] [46,47,48,49,50,51,52,53,54,55,56,57,58,59,60,61,62,63] (fun vs i=>vs=[]∧i=bI g3 [.int .i64 (min (min t.a.x t.b.x) t.c.x),.int .i64 (min t.a.y t.b.y),.int .i64 (min t.a.z t.b.z),.int .i64 (max (max t.a.x t.b.x) t.c.x),.int .i64 (max t.a.y t.b.y),.int .i64 (max t.a.z t.b.z)] 222) ?_ ?_
       · intro K4 hK4
         refine zvt [true,true,false,true,true] [[],[],[],[],[],[2],[],[],[],[],[],[2],[],[],[],[],[2],[],[],[2]] (.take 0 (.take 1 (.take 2 (.take 3 (.take 4 (.take 6 (.take 8 (.take 9 (.take 10 (.take 12 (.take 14 (.take 17 (.two 5 (.take 7 (.one 11 (.take 13 (.take 15 (.one 16 (.take 18 (.one 19 .nil))))))) 11 (.take 13 (.one 5 (.take 7 (.take 15 (.one 16 (.take 18 (.one 19 .nil)))))))))))))))))))) m aB (by kernel_rfl) (bT (fun _ _ _ _ _ h=>h)) ?_;simp only[↓aD,↓zzu,jR,fU,jS,dU,Kl,Km,aa,ad,ag];refine⟨by omega,?_⟩;intro u m;refine gk (hK4 _ _ _ ?_ m ?_)
         · simp only[zz,zv]
         · simp only[zQ,zR,zD,zE]
           exact⟨trivial,(by first | rfl | trivial)⟩
       · intro vs i wr m hI u
         obtain⟨rfl,rfl⟩:=hI;simp only[zF,zG] at m;simp only[zu,zF,zG];refine cP 18 [1,0] m ?_;simp only[↓aD,ak];refine⟨by omega,?_⟩;intro u m;refine aC (jJ rfl rfl) (aS 3 [0] m ?_);simp only[↓aD];intro u m;refine kU m 2 [] [46,47,48,49,50,51,52,53,54,55,56,57,58,59,60,61,62,63] (fun vs i=>vs=[]∧i=bI g3 [.int .i64 (min (min t.a.x t.b.x) t.c.x),.int .i64 (min (min t.a.y t.b.y) t.c.y),.int .i64 (min t.a.z t.b.z),.int .i64 (max (max t.a.x t.b.x) t.c.x),.int .i64 (max (max t.a.y t.b.y) t.c.y),.int .i64 (max t.a.z t.b.z)] 222) ?_ ?_
         · intro K5 hK5
           refine zvt [true,true,false,true,true] [[],[],[],[],[],[2],[],[],[],[],[],[2],[],[],[],[],[2],[],[],[2]] (.take 0 (.take 1 (.take 2 (.take 3 (.take 4 (.take 6 (.take 8 (.take 9 (.take 10 (.take 12 (.take 14 (.take 17 (.two 5 (.take 7 (.one 11 (.take 13 (.take 15 (.one 16 (.take 18 (.one 19 .nil))))))) 11 (.take 13 (.one 5 (.take 7 (.take 15 (.one 16 (.take 18 (.one 19 .nil)))))))))))))))))))) m aB (by kernel_rfl) (bT (fun _ _ _ _ _ h=>h)) ?_;simp only[↓aD,↓zzu,jR,fU,jS,dU,Kl,Km,aa,ad,ag];refine⟨by omega,?_⟩;intro u m;refine gk (hK5 _ _ _ ?_ m ?_)
           · simp only[zz,zv]
           · simp only[zQ,zR,zD,zE]
             exact⟨trivial,(by first | rfl | trivial)⟩
         · intro vs i wr m hI u
           obtain⟨rfl,rfl⟩:=hI;simp only[zF,zG] at m;simp only[zu,zF,zG];refine cP 18 [1,0] m ?_;simp only[↓aD,ak];refine⟨by omega,?_⟩;intro u m;refine aC (jK rfl rfl) (aS 3 [0] m ?_);simp only[↓aD];intro u m;refine kU m 2 [] [46,47,48,49,50,51,52,53,54,55,56,57,58,59,60,61,62,63] (fun vs i=>vs=[]∧i=bI g3 [.int .i64 (min (min t.a.x t.b.x) t.c.x),.int .i64 (min (min t.a.y t.b.y) t.c.y),.int .i64 (min (min t.a.z t.b.z) t.c.z),.int .i64 (max (max t.a.x t.b.x) t.c.x),.int .i64 (max (max t.a.y t.b.y) t.c.y),.int .i64 (max (max t.a.z t.b.z) t.c.z)] 222) ?_ ?_
           · intro K6 hK6
             refine zvt [true,true,false,true,true] [[],[],[],[],[],[2],[],[],[],[],[],[2],[],[],[],[],[2],[],[],[2]] (.take 0 (.take 1 (.take 2 (.take 3 (.take 4 (.take 6 (.take 8 (.take 9 (.take 10 (.take 12 (.take 14 (.take 17 (.two 5 (.take 7 (.one 11 (.take 13 (.take 15 (.one 16 (.take 18 (.one 19 .nil))))))) 11 (.take 13 (.one 5 (.take 7 (.take 15 (.one 16 (.take 18 (.one 19 .nil)))))))))))))))))))) m aB (by kernel_rfl) (bT (fun _ _ _ _ _ h=>h)) ?_;simp only[↓aD,↓zzu,jR,fU,jS,dU,Kl,Km,aa,ad,ag];refine⟨by omega,?_⟩;intro u m;refine gk (hK6 _ _ _ ?_ m ?_)
             · simp only[zz,zv]
             · simp only[zQ,zR,zD,zE]
               exact⟨trivial,(by first | rfl | trivial)⟩
           · intro vs i wr m hI u
             obtain⟨rfl,rfl⟩:=hI;simp only[zF,zG] at m;simp only[zu,zF,zG];refine cP 32 [2,2,2,3] m ?_;simp only[↓aD,ack,ak,aa];refine⟨by omega,?_⟩;intro u m;exact aR rfl ⟨_,rfl,((m.b 3 rfl).full adf Sz)⟩ (⟨_,rfl,m.ext,rfl⟩)
end Go.Proofs.YtfekpcimgncioaaGreatDoor
namespace Go.Lith
open Go.RowKit
section
variable {P:bh} {ops:Array Oper} {Q:Exit→Act→aj→Prop} {rest:List Oper} {d j:Nat} {ty:an} {pos:String} {after:Array Edge} {v:ah} {b:Bool} {ds:List cn} {l:List ah} {w w0:aj} {is:List It}
variable {f:FuncId} {fo:bg} {xs:Array bg} {args:List ah} {first cap:Array ah} {a0:Array an}
theorem Xu(m:Mem w0 w is)(hw:yielded ops l.toArray j=some b)(hf:ev l fo=.func (.func f) first cap)(hxs:b=true→first.toList++xs.toList.map (ev l)++cap.toList=args)(hc:b=true→dJ P f args w fun x _=>x=v)
 (h:∀u,Mem w0 u is→au P ops Q rest (Fr (l.set d (Ol b v)) ds) u):au P ops Q (bn (some d) (.call { callee:=.value fo,args:=xs,argTypes:=a0 }) ty pos after (some (j,true))::rest) (Fr l ds) w:=by
 cases b with
 | false=>simp only[An] at h;exact oX hw (h w m)
 | true=>simp only[iT] at h;exact dN hw (cU m hf (hxs rfl) (hc rfl) fun x u m e=>by subst e;exact h u m)
end
section
variable {P:bh} {ops:Array Oper} {Q:Act→Prop} {rest:List Oper} {d j:Nat} {ty:an} {pos:String} {after:Array Edge} {v:ah} {b:Bool} {ds:List cn} {l:List ah} {w0:aj} {is:List It}
variable {f:FuncId} {fo:bg} {xs:Array bg} {args:List ah} {first cap:Array ah} {a0:Array an}
end
/-! ### Rows of edges and moves -/
end Go.Lith
namespace Go.Proofs.YtfekpcimgncioaaGreatDoor
open Go.Proofs.Tryz
open Go.RowKit Go.Lith
set_option maxRecDepth 100000
attribute [local irreducible] au cg fR bO cO Code.wp
attribute [local congr] pL fX fY fZ gA gB kI gC gD gE gF gG gH gI gJ gK gL gM eS eT gN gQ gS gT gU kK dC dD cR dB gR kJ eV eW eX gW gX kL
theorem afp{g90 g91 ga gf gx gy N cap cx cy cf nm cm no co nr cr:Nat}{A Am Ao Ar:Option Addr}{ex ey ef:Array b_}{X Y F:List (P3 × Bool)}{ts:List T3}{p q:P3}(w:aj)(hB91:fK w g91 [.pointer (some ⟨g90,0,none⟩),.int .i64 p.x,.int .i64 p.y,.int .i64 p.z,.int .i64 q.x,.int .i64 q.y,.int .i64 q.z,.map (some gx),.map (some gy),.slice Am nm cm,.slice Ao no co,.slice Ar nr cr] 218)(hB90:fK w g90 [.slice A N cap,.map (some ga),.map (some gf)] 109)(hMx:iX w gx ex cx)(hDx:bL pt bw X ex cx)(hMf:iX w gf ef cf)(hDf:bL pt bw F ef cf):dJ prog 100 [.pointer (some ⟨g91,0,none⟩)] w (fun v _=>v=.bool ((cI X q).getD false && !(cI F p).getD false)):=by
 refine⟨amz,?_⟩;have m:=Mem.refl w
 go_enter func100,ntmps100
 refine eC 5 [0] m ?_;simp only[↓aD];intro u m;refine mq m aB (by kernel_rfl) (eM 3 [] ?_);simp only[↓aD,Qf,aa];refine ql rfl (fun u m=>((hB91.ext m.ext).lies1 sQ rfl)) ?_;simp only[zz];refine eM 3 [] ?_;simp only[↓aD,Qe,aa];refine ql rfl (fun u m=>((hB91.ext m.ext).lies aG aA rfl rfl)) ?_;simp only[zz,zy,ar,aa,ag,ad];refine jY (fun u m=>dZ (ek:=pt) (en:=bw) (k:=q) (v0:=false) nE oB fT rfl rfl (hMx.ext m.ext) hDx) ?_;simp only[zz];refine aJ aH (cM rfl (fun hb=>aH) (cM rfl (fun hb=>eL (aV hb rfl)) (cM rfl (fun hb=>aT (c:=0) nF rfl Nq (aV hb rfl) rfl) ?_)));simp only[zz];refine dX rfl (fun hb u m=>aU (aV hb rfl) ((hB91.ext m.ext).lies1 Vy rfl)) (cM rfl (fun hb=>eL (aV hb rfl)) (cM rfl (fun hb=>aT (c:=0) underlying109 rfl Cd (aV hb rfl) rfl) ?_));simp only[zz];refine dX rfl (fun hb u m=>aU (aV hb rfl) ((hB90.ext m.ext).lies1 sQ rfl)) (cM rfl (fun hb=>aH) (cM rfl (fun hb=>eL (aV hb rfl)) (cM rfl (fun hb=>aT (c:=2) nF rfl aA (aV hb rfl) rfl) ?_)));simp only[zz];refine dX rfl (fun hb u m=>aU (aV hb rfl) ((hB91.ext m.ext).lies aG aA rfl rfl)) ?_;simp only[zz,zy,ar,aa,ag,ad];refine dX rfl (fun hb u m=>dZ (ek:=pt) (en:=bw) (k:=p) (v0:=false) nE oB fT (aV hb rfl) (aV hb rfl) (hMf.ext m.ext) hDf) ?_;simp only[zz];refine cM rfl (fun hb=>nM (aV hb rfl)) (aJ (bU rfl rfl rfl) (aJ aM (bD ?_)));clear m;intro u m;refine cP 1 [] m ?_;simp only[↓aD];intro u m;exact aR rfl rfl (⟨_,rfl,m.ext,rfl⟩)
def Fg(Y:List (P3 × Bool))(dn:List (P3 × Bool)):Nat:=((dn.map (·.1)).filter fun k=>(cI Y k).getD false).length
theorem apZ{Y dn:List (P3 × Bool)}{k:P3}{b:Bool}(h:(cI Y k).getD false=true):Fg Y (dn++[(k,b)])=Fg Y dn+1:=by
 unfold Fg;rw[cl,fu,aw];simp[h]
theorem ap0{Y dn:List (P3 × Bool)}{k:P3}{b:Bool}(h:(cI Y k).getD false=false):Fg Y (dn++[(k,b)])=Fg Y dn:=by
 unfold Fg;rw[cl,fu,aw];simp[h]
theorem adY(Y dn:List (P3 × Bool)):Fg Y dn≤dn.length:=by
 unfold Fg;have:=fc (fun k=>(cI Y k).getD false) (dn.map (·.1));rwa [dz] at this
theorem afq{Y dn D:List (P3 × Bool)}(h:dn.Perm D):Fg Y dn=Fg Y D:=by
 unfold Fg;exact ((h.map Prod.fst).filter _).length_eq
theorem afr{g90 g91 ga gf gx gy N cap cx cy cf nm cm no co nr cr:Nat}{A Am Ao Ar:Option Addr}{ex ey ef:Array b_}{X Y F:List (P3 × Bool)}{ts:List T3}{p q:P3}(w:aj)(hB91:fK w g91 [.pointer (some ⟨g90,0,none⟩),.int .i64 p.x,.int .i64 p.y,.int .i64 p.z,.int .i64 q.x,.int .i64 q.y,.int .i64 q.z,.map (some gx),.map (some gy),.slice Am nm cm,.slice Ao no co,.slice Ar nr cr] 218)(hB90:fK w g90 [.slice A N cap,.map (some ga),.map (some gf)] 109)(hMx:iX w gx ex cx)(hDx:bL pt bw X ex cx)(hMy:iX w gy ey cy)(hDy:bL pt bw Y ey cy)(hXl:X.length≤100000000):dJ prog 101 [.pointer (some ⟨g91,0,none⟩)] w (fun v _=>v=.bool (decide (Fg Y X=2))):=by
 refine⟨amA,?_⟩;have m:=Mem.refl w
 go_enter func101,ntmps101
 refine eC 14 [0] m ?_;simp only[↓aD,Qf,aa];intro u m;refine aQ rfl ((hB91.ext m.ext).lies1 sQ rfl) ?_;simp only[zz];refine vJ m nE rfl (hMx.ext m.ext) ?_;clear m;intro r1 u m;refine aS 2 [0] m ?_;simp only[↓aD];intro u m;refine cE [3] [4,10,11,12,13,14,15,16,17,18,19,20,21] (fun n vs wl=>∃(dn rs:List (P3 × Bool)) (sn:Array Nat) (cc:Nat),vs=[.int .i64 (cc:Int)]∧Mem w wl [iI r1 gx cx sn]∧(nQ pt bw X ex sn dn rs)∧(cc=Fg Y dn)∧(n=rs.length)) ?_ ?_
 · skip
   apply Exists.intro;simp only[zQ,zR,zD,zE];exact⟨[],X,#[],0,rfl,m,nQ.start hDx,rfl,rfl⟩
 · intro n vs wr hI u K1 hK1
   clear m;obtain⟨dn,rs,sn,cc,rfl,m,hT,hcc0,hn⟩:=hI;have hlen:=hT.len;simp only[zu,zF,zG];refine aW 2 [0] m ?_;simp only[↓aD];intro u m;refine Lh m 0 rfl rfl (hMx.ext m.ext) hDx hT ?_;clear m;intro bb kk vv sn u m hN;simp only[zF,zG] at m;refine aC (pP rfl) (aS 2 [0] m ?_);simp only[↓aD];intro u m;refine cN rfl (fun hc1=>?_) (fun hc1=>?_)
   · skip
     obtain⟨kp,kb,rs2,hp,hT2⟩:=Gs hc1 hN;refine aW 4 [0] m ?_;simp only[↓aD];intro u m;refine fF (sT rfl (m.r 0 rfl) (hMx.ext m.ext) hDx hT2) ?_;simp only[zz];refine aS 5 [0,0] m ?_;simp only[↓aD,eY,aO,aa];intro g2;intro u m;refine mq m aB (by kernel_rfl) (eM 3 [] ?_);simp only[↓aD,ahH,aa];refine ql rfl (fun u m=>((hB91.ext m.ext).lies1 sQ rfl)) ?_;simp only[zz];refine ql rfl (fun u m=>((m.b 0 rfl).full aG aA)) ?_;simp only[zz];refine jY (fun u m=>dZ (ek:=pt) (en:=bw) (k:=kp) (v0:=false) nE oB fT rfl rfl (hMy.ext m.ext) hDy) ?_;simp only[zz];refine bD ?_;clear m;intro u m;refine gc (cN rfl (fun hc2=>?_) (fun hc2=>?_))
     · skip
       refine aW 2 [0] m ?_;simp only[↓aD];intro u m;refine aC (jL rfl rfl (dY (by have:=adY Y dn;omega) (by have:=adY Y dn;omega))) ?_;refine aS 3 [0] m ?_;simp only[↓aD];intro u m;refine hK1 rs2.length _ _ ?_ ?_ ?_
       · rw[hn,hp.length_eq];exact el _
       · simp only[zz,zv]
       · simp only[zQ,zR,zD,zE]
         exact⟨dn++[(kp,kb)],rs2,_,cc+1,rfl,(m.sel [false,true]),hT2,by rw[apZ hc2,hcc0],rfl⟩
     · skip
       refine aW 2 [0] m ?_;simp only[↓aD];intro u m;refine hK1 rs2.length _ _ ?_ ?_ ?_
       · rw[hn,hp.length_eq];exact el _
       · simp only[zz,zv]
       · simp only[zQ,zR,zD,zE]
         exact⟨dn++[(kp,kb)],rs2,_,cc,rfl,(m.sel [false,true]),hT2,by rw[ap0 hc2,hcc0],rfl⟩
   · skip
     obtain rfl:=Gr hc1 hN;have hcc:=afq (Y:=Y) hT.done;refine aW 8 [0] m ?_;simp only[↓aD];intro u m;refine aR rfl rfl ?_;try simp only[zD,zE]
     exact⟨_,rfl,m.ext,by rw[←hcc,←hcc0];exact congrArg bw (decide_eq_decide.2 (by omega))⟩
def afs(F Y:List (P3 × Bool))(q k:P3):Bool:=decide (¬(k.x=q.x∧k.y=q.y∧k.z=q.z))&&(cI F k).getD false && !(cI Y k).getD false
def Xv(X Y F:List (P3 × Bool))(q:P3):Bool:=!(cI F q).getD false||(X.map Prod.fst).all fun k=>!afs F Y q k
theorem ap1{X Y F:List (P3 × Bool)}{q:P3}(h:(!(cI F q).getD false)=true):Xv X Y F q=true:=by unfold Xv;rw[h];rfl
theorem ak6{X Y F:List (P3 × Bool)}{q k:P3}{b:Bool}{dn rs:List (P3 × Bool)}(h:(!(cI F q).getD false)=false)(hp:(dn++[(k,b)]++rs).Perm X)(hb:afs F Y q k=true):Xv X Y F q=false:=by
 unfold Xv;rw[h,Bool.false_or,nc];refine⟨k,df.2 ⟨(k,b),hp.mem_iff.1 (by simp),rfl⟩,by rw[hb];decide⟩
theorem aiu{X Y F:List (P3 × Bool)}{q:P3}{dn:List (P3 × Bool)}(hp:dn.Perm X)(hb:∀x∈dn,afs F Y q x.1=false):Xv X Y F q=true:=by
 unfold Xv;rw[dm];refine .inr (dw.2 fun k hk=>?_);obtain⟨x,hx,rfl⟩:=df.1 hk;rw[hb x (hp.mem_iff.2 hx)];rfl
theorem aiv{g90 g91 ga gf gx gy N cap cx cy cf nm cm no co nr cr:Nat}{A Am Ao Ar:Option Addr}{ex ey ef:Array b_}{X Y F:List (P3 × Bool)}{ts:List T3}{p q:P3}(w:aj)(hB91:fK w g91 [.pointer (some ⟨g90,0,none⟩),.int .i64 p.x,.int .i64 p.y,.int .i64 p.z,.int .i64 q.x,.int .i64 q.y,.int .i64 q.z,.map (some gx),.map (some gy),.slice Am nm cm,.slice Ao no co,.slice Ar nr cr] 218)(hB90:fK w g90 [.slice A N cap,.map (some ga),.map (some gf)] 109)(hMx:iX w gx ex cx)(hDx:bL pt bw X ex cx)(hMy:iX w gy ey cy)(hDy:bL pt bw Y ey cy)(hMf:iX w gf ef cf)(hDf:bL pt bw F ef cf):dJ prog 103 [.pointer (some ⟨g91,0,none⟩)] w (fun v _=>v=.bool (Xv X Y F q)):=by
 refine⟨amC,?_⟩;have m:=Mem.refl w
 go_enter func103,ntmps103
 refine eC 6 [0] m ?_;simp only[↓aD];intro u m;refine mq m aB (by kernel_rfl) (eM 3 [] ?_);simp only[↓aD,ahG,aa];refine ql rfl (fun u m=>((hB91.ext m.ext).lies1 Vy rfl)) ?_;simp only[zz];refine aJ (eL rfl) (eM 1 [] ?_);simp only[↓aD,Pz,aa];refine ql rfl (fun u m=>((hB90.ext m.ext).lies1 sQ rfl)) ?_;simp only[zz];refine eM 3 [] ?_;simp only[↓aD,Qe,aa];refine ql rfl (fun u m=>((hB91.ext m.ext).lies aG aA rfl rfl)) ?_;simp only[zz,zy,ar,aa,ag,ad];refine jY (fun u m=>dZ (ek:=pt) (en:=bw) (k:=q) (v0:=false) nE oB fT rfl rfl (hMf.ext m.ext) hDf) ?_;simp only[zz];refine aJ (nM rfl) (bD ?_);clear m;intro u m;refine gc ?_;simp only[zz];refine cN rfl (fun hc1=>?_) (fun hc1=>?_)
 · skip
   refine aW 5 [] m ?_;simp only[↓aD];intro u m;refine aR rfl rfl ?_;try simp only[zD,zE]
   exact⟨_,rfl,m.ext,by rw[ap1 hc1]⟩
 · skip
   refine aW 7 [0] m ?_;simp only[↓aD,Qf,aa];intro u m;refine aQ rfl ((hB91.ext m.ext).lies1 sQ rfl) ?_;simp only[zz];refine vJ m nE rfl (hMx.ext m.ext) ?_;clear m;intro r1 u m;refine aS 2 [0] m ?_;simp only[↓aD];intro u m;refine cE [] [2,3,22,23,24,25,26,27,28,29,30,31,32,33,34,35,36,37,38,39,40,41,42,43,44,45,46,47,48,49,50,51] (fun n vs wl=>∃(dn rs:List (P3 × Bool)) (sn:Array Nat),vs=[]∧Mem w wl [iI r1 gx cx sn]∧(nQ pt bw X ex sn dn rs)∧(∀x∈dn,afs F Y q x.1=false)∧(n=rs.length)) ?_ ?_
   · skip
     apply Exists.intro;simp only[zQ,zR,zD,zE];exact⟨[],X,#[],trivial,m,nQ.start hDx,(fun x h=>(by cases h)),rfl⟩
   · intro n vs wr hI u K1 hK1
     clear m;obtain⟨dn,rs,sn,rfl,m,hT,hb0,hn⟩:=hI;simp only[zu,zF,zG];refine aW 2 [0] m ?_;simp only[↓aD];intro u m;refine Lh m 0 rfl rfl (hMx.ext m.ext) hDx hT ?_;clear m;intro bb kk vv sn u m hN;simp only[zF,zG] at m;refine aC (pP rfl) (aS 2 [0] m ?_);simp only[↓aD];intro u m;refine cN rfl (fun hc2=>?_) (fun hc2=>?_)
     · skip
       obtain⟨kp,kb,rs2,hp,hT2⟩:=Gs hc2 hN;refine aW 4 [0] m ?_;simp only[↓aD];intro u m;refine fF (sT rfl (m.r 0 rfl) (hMx.ext m.ext) hDx hT2) ?_;simp only[zz];refine aS 5 [0,0] m ?_;simp only[↓aD,eY,aO,aa];intro g2;intro u m;refine mq m aB (by kernel_rfl) (eM 4 [0] ?_);simp only[↓aD,aO,Qe,aa];refine ql rfl (fun u m=>((hB91.ext m.ext).lies aG aA rfl rfl)) ?_;simp only[zz,zy,ar,aa,ag,ad];refine aJ (fA rfl rfl) (aJ aH (cM rfl (fun hb=>aH) (cM rfl (fun hb=>eL (aV hb rfl)) ?_)));simp only[zz];refine cM rfl (fun hb=>aT (c:=0) nF rfl Nq (aV hb rfl) rfl) ?_;simp only[zz];refine dX rfl (fun hb u m=>aU (aV hb rfl) ((hB91.ext m.ext).lies1 Vy rfl)) (cM rfl (fun hb=>eL (aV hb rfl)) (cM rfl (fun hb=>aT (c:=0) underlying109 rfl Cd (aV hb rfl) rfl) ?_));simp only[zz];refine dX rfl (fun hb u m=>aU (aV hb rfl) ((hB90.ext m.ext).lies1 sQ rfl)) (dX rfl (fun hb u m=>aU rfl ((m.b 0 rfl).full aG aA)) (dX rfl (fun hb u m=>dZ (ek:=pt) (en:=bw) (k:=kp) (v0:=false) nE oB fT (aV hb rfl) (aV hb rfl) (hMf.ext m.ext) hDf) ?_));simp only[zz];refine aJ (bU rfl rfl rfl) (aJ aH (cM rfl (fun hb=>aH) (cM rfl (fun hb=>eL (aV hb rfl)) ?_)));simp only[zz];refine cM rfl (fun hb=>aT (c:=0) nF rfl Cd (aV hb rfl) rfl) ?_;simp only[zz];refine dX rfl (fun hb u m=>aU (aV hb rfl) ((hB91.ext m.ext).lies1 sQ rfl)) (dX rfl (fun hb u m=>aU rfl ((m.b 0 rfl).full aG aA)) (dX rfl (fun hb u m=>dZ (ek:=pt) (en:=bw) (k:=kp) (v0:=false) nE oB fT (aV hb rfl) (aV hb rfl) (hMy.ext m.ext) hDy) ?_));simp only[zz];refine cM rfl (fun hb=>nM (aV hb rfl)) (aJ (bU rfl rfl rfl) (bD ?_));clear m;intro u m;refine gc ?_;simp only[zz];refine cN rfl (fun hc3=>?_) (fun hc3=>?_)
       · skip
         refine aW 5 [] m ?_;simp only[↓aD];intro u m;refine aR rfl rfl ?_;try simp only[zD,zE]
         exact⟨_,rfl,m.ext,by rw[ak6 hc1 hT2.1 hc3]⟩
       · skip
         refine aW 2 [0] m ?_;simp only[↓aD];intro u m;refine hK1 rs2.length _ _ ?_ ?_ ?_
         · rw[hn,hp.length_eq];exact el _
         · simp only[zz,zv]
         · simp only[zQ,zR,zD,zE]
           exact⟨dn++[(kp,kb)],rs2,_,trivial,(m.sel [false,true]),hT2,(fun x hx=>(bt.1 hx).elim (hb0 x) fun h=>(by rw[bf.1 h];exact hc3)),rfl⟩
     · skip
       obtain rfl:=Gr hc2 hN;refine aW 6 [] m ?_;simp only[↓aD];intro u m;refine aR rfl rfl ?_;try simp only[zD,zE]
       exact⟨_,rfl,m.ext,by rw[aiu hT.done hb0]⟩
theorem Fh{t:T3}:decide (aY t.normal.x=0∧aY t.normal.y=0∧aY t.normal.z=0)=fE t:=by
 unfold fE;refine decide_eq_decide.2 ?_;rw[cD,cD,cD];show (dG t.a t.b t.c).x=0∧(dG t.a t.b t.c).y=0∧(dG t.a t.b t.c).z=0↔_
 unfold iN;generalize dG t.a t.b t.c=n;by_cases h1:n.x=0 <;> by_cases h2:n.y=0 <;> by_cases h3:n.z=0 <;> simp[h1,h2,h3]
def aft(o t:T3):Bool:=!fE t&&decide (Sf o t=1)
def acH(os ms:List T3):Bool:=(os.zip ms).all fun x=>aft x.1 x.2
theorem aiw{os ms:List T3}{k:Nat}{x:T3 × T3}:(os.zip ms)[k]? = some x↔os[k]? = some x.1∧ms[k]? = some x.2:=by
 obtain⟨a,b⟩:=x;rw[List.getElem?_zip_eq_some]
theorem ak7{os ms:List T3}{k:Nat}{o t:T3}(ho:os[k]? = some o)(ht:ms[k]? = some t)(h:(fE t||decide (¬Sf o t=1))=true):acH os ms=false:=by
 unfold acH;rw[nc];refine⟨(o,t),bj (aiw.2 ⟨ho,ht⟩),?_⟩;unfold aft;cases hf:fE t <;> rw[hf] at h <;> simp at h ⊢;exact h
theorem aix{os ms:List T3}(h:∀(j:Nat) (o t:T3),os[j]? = some o→ms[j]? = some t→aft o t=true):acH os ms=true:=by
 unfold acH;rw[dw];intro x hx;obtain⟨j,hj⟩:=cv.1 hx;obtain⟨h1,h2⟩:=aiw.1 hj;exact h j _ _ h1 h2
theorem ass{o t:T3}(h:(fE t||decide (¬Sf o t=1))=false):aft o t=true:=by
 unfold aft;cases hf:fE t <;> rw[hf] at h <;> simp at h ⊢;exact h
theorem acI{g90 g91 ga gf gx gy N cap cx cy cf nm cm no co nr cr:Nat}{A Am Ao Ar:Option Addr}{ex ey ef:Array b_}{X Y F:List (P3 × Bool)}{ts:List T3}{p q:P3}{ms os:List T3}(w:aj)(hB91:fK w g91 [.pointer (some ⟨g90,0,none⟩),.int .i64 p.x,.int .i64 p.y,.int .i64 p.z,.int .i64 q.x,.int .i64 q.y,.int .i64 q.z,.map (some gx),.map (some gy),.slice Am nm cm,.slice Ao no co,.slice Ar nr cr] 218)(hB90:fK w g90 [.slice A N cap,.map (some ga),.map (some gf)] 109)(hTm:bP w Am nm ms)(hTo:bP w Ao no os)(hno:no=nm)(hN:nm≤10000000):dJ prog 104 [.pointer (some ⟨g91,0,none⟩)] w (fun v _=>v=.bool (acH os ms)):=by
 refine⟨amD,?_⟩;have m:=Mem.refl w;subst hno
 go_enter func104,ntmps104
 refine eC 10 [0] m ?_;simp only[↓aD,Hk,aa];intro u m;refine aQ rfl ((hB91.ext m.ext).lies1 rV rfl) ?_;simp only[zz];refine aS 4 [0] m ?_;simp only[↓aD,iU];intro u m;refine cE [10] [2,3,4,11,12,13,14,15,16,17,18,19,20,21,22,23,24,25,26,27,28,29] (fun n vs wl=>∃(k:Nat),vs=[.int .i64 (k:Int)]∧Mem w wl []∧(∀(j:Nat) (o t:T3),j<k→os[j]? = some o→ms[j]? = some t→aft o t=true)∧(k≤no)∧(n=no-k)) ?_ ?_
 · skip
   apply Exists.intro;simp only[zQ,zR,zD,zE];exact⟨0,rfl,m,(fun j o t h=>by omega),br _,rfl⟩
 · intro n vs wr hI u K1 hK1
   clear m;obtain⟨k,rfl,m,hu0,hk,hn⟩:=hI;simp only[zu,zF,zG];refine aW 5 [0,0] m ?_;simp only[↓aD];intro u m;refine bG rfl (fun hc1=>?_) (fun hc1=>?_)
   · skip
     obtain⟨t,ht,hti,a,rfl,hrow⟩:=hTm.get (i:=k) (by omega);obtain⟨o,ho,hoi,a2,rfl,hrow2⟩:=hTo.get (i:=k) (by omega);refine aW 6 [0] m ?_;simp only[↓aD];intro u m;refine aC (aF cC aL rfl rfl (by omega) (by omega) (bZ (ai _))) ?_;simp only[zz];refine aQ rfl ((hrow.ext m.ext).lies bV aL) ?_;simp only[zz];refine aS 5 [0,0] m ?_;simp only[↓aD,kX,dQ,aa];intro g1;intro u m;refine mq m aB (by kernel_rfl) (ql rfl (fun u m=>((m.b 0 rfl).full bV aL)) ?_);simp only[zz];refine eR rfl rfl (Xk (t:=t)) (aJ aH (iC rfl (fun hb=>aH) (iC rfl (fun hb=>eL (aV hb rfl)) ?_)));simp only[zz];refine iC rfl (fun hb=>aT (c:=0) nF rfl fV (aV hb rfl) rfl) ?_;simp only[zz];refine pM rfl (fun hb u m=>aU (aV hb rfl) ((hB91.ext m.ext).lies1 rV rfl)) (iC rfl (fun hb=>aH) ?_);simp only[zz];refine iC rfl (fun hb=>aF cC aL (aV hb rfl) (aV hb rfl) (by omega) (by omega) (bZ (ai _))) ?_;simp only[zz];refine pM rfl (fun hb u m=>aU (aV hb rfl) ((hrow2.ext m.ext).lies bV aL)) (pM rfl (fun hb u m=>aU rfl ((m.b 0 rfl).full bV aL)) (adC rfl rfl (fun hb=>by simp only[cz,bi,ck,zA,zB,zC,zD,zE,hb,iT];rfl) (fun hb=>ais (t:=o) (r:=t)) (iC rfl (fun hb=>qA (aV hb rfl) rfl) (aJ (cF rfl rfl rfl) (bD ?_)))));clear m;intro u m;refine gc ?_;simp only[zz];refine cN rfl (fun hc2=>?_) (fun hc2=>?_)
     · skip
       rw[Fh] at hc2;refine aW 5 [] m ?_;simp only[↓aD];intro u m;refine aR rfl rfl ?_;try simp only[zD,zE]
       exact⟨_,rfl,m.ext,by rw[ak7 ho ht hc2]⟩
     · skip
       rw[Fh] at hc2;refine aW 6 [0] m ?_;simp only[↓aD];refine⟨by omega,?_⟩;intro u m;refine hK1 (no-(k+1)) _ _ ?_ ?_ ?_
       · omega
       · simp only[zz,zv]
       · simp only[zQ,zR,zD,zE]
         exact⟨k+1, rfl, (m.sel [false]), (fun j o2 t2 hj h1 h2 => by
          rcases Nat.lt_or_ge j k with h | h
          · exact hu0 j o2 t2 h h1 h2
          · obtain rfl:j=k:=by omega
            rw[ho] at h1;rw[ht] at h2;cases h1;cases h2;exact ass hc2),by omega,rfl⟩
   · skip
     refine aW 6 [] m ?_;simp only[↓aD];intro u m;refine aR rfl rfl ?_;try simp only[zD,zE]
     exact⟨_,rfl,m.ext,by rw[aix fun j o t h1 h2=>hu0 j o t (by have:=(aq.1 h1).1;have:=hTo.len;omega) h1 h2]⟩
end Go.Proofs.YtfekpcimgncioaaGreatDoor
namespace Go.Lith
open Go.RowKit
def Fi(u:P3):Nat:=if u.x≠0 then 0 else if u.y≠0 then 1 else 2
def Lw(a b c:Int):Prop:=(0≤a∧0≤b∧0≤c)∨(a≤0∧b≤0∧c≤0)
/-! ### Corners -/
section
variable {P:bh} {ds:List cn} {l:List ah} {x y:bg} {T T' U t ty:an} {v z:ah}
end
section
variable {P:bh} {ds:List cn} {l:List ah} {ty:an} {v u:ah}
variable {ops:Array Oper} {Q:Exit→Act→aj→Prop} {rest:List Oper} {d:Nat} {pos:String} {after:Array Edge} {w w0:aj} {is:List It}
end
section
variable {P:bh} {w0:aj} {is:List It} {l:List ah} {ty:an} {u:ah}
variable {ops:Array Oper} {Q:Act→Prop} {rest:List Oper} {d:Nat} {pos:String} {after:Array Edge} {v:ah} {ds:List cn}
end
section
variable {P:bh} {l:List ah} {x y z:bg} {ty:an} {k:IntKind} {m n q r:Int}
theorem Fj{a0:Array an}(hx:ev l x=.int k m)(hy:ev l y=.int k n)(hz:ev l z=.int k q)(hr:(if q<(if n<m then n else m) then q else if n<m then n else m)=r):iG P l (.call { callee:=.builtin .min,args:=#[x,y,z],argTypes:=a0 }) ty (.int k r):=fun w o ho _=>by
 subst hr;simp[cw,ho,resolve,invoke,builtin,Builtin.min_,Builtin.min2,cJ,hx,hy,hz]
theorem Fk{a0:Array an}(hx:ev l x=.int k m)(hy:ev l y=.int k n)(hz:ev l z=.int k q)(hr:(if (if m<n then n else m)<q then q else if m<n then n else m)=r):iG P l (.call { callee:=.builtin .max,args:=#[x,y,z],argTypes:=a0 }) ty (.int k r):=fun w o ho _=>by
 subst hr;simp[cw,ho,resolve,invoke,builtin,Builtin.max_,Builtin.max2,cJ,hx,hy,hz]
end
def Lx(o:Oper):Bool:=match o.op with | .defer _=>false | _=>true
theorem aiy{o:Oper}(h:Lx o=true):∀c,o.op≠.defer c:=fun c e=>by unfold Lx at h;rw[e] at h;cases h
section
variable {P:bh} {Q:Exit→Act→aj→Prop} {r n:Nat}
theorem Xw{row:String}{args:Array ah}{w:aj}{R:ah→aj→Prop}(h:Rows P row args w R):RowsIn (Fence.wide.inRound r) n P row args w R :=
 fun c cs _=>let ⟨v,w',q,s⟩:=h c cs;⟨v,w',q,stepsIn_wide.2 s⟩
theorem St{f:FuncId}{args:Array ah}{w:aj}{R:Ending→aj→Prop}(h:Calls P f args w R):CallsIn (Fence.wide.inRound r) n P f args w R :=
 (callsIn_wide (n:=n)).2 h
theorem Oper.wpIn_of{o:Oper}{a:Act}{w:aj}{K:Act→aj→Prop}(hd:Lx o=true)(h:o.wp P a w K Q):o.wpIn (Fence.wide.inRound r) n P a w K Q:=by
 unfold Oper.wp at h;refine⟨fun _ _=>trivial,?_⟩;rw[Oper.semAt_eq _ _ _ (aiy hd)];generalize (cw a.eval o).run P w=z at *
 have h0:(Fence.wide.inRound r).depth.isSome=true→1≤n:=fun h=>by cases h
 cases z with
 | ok x w'=>cases x <;> simp only[mj,od] at h ⊢ <;> first | exact h | exact⟨h0,St h⟩ | exact⟨h0,Xw h⟩ | exact h.elim
 | halt x w'=>cases x <;> simp only[mj,od] at h ⊢ <;> exact h
theorem Bo{ops:Array Oper}(hq:¬LetsOut Q):∀(l:List Oper) (a:Act) (w:aj),l.all Lx=true→au P ops Q l a w→wpListIn (Fence.wide.inRound r) n P ops Q l a w
 | [],a,w,_,h=>h
 | o::l,a,w,hd,h=>by
  simp only[List.all_cons,be] at hd;simp only[au] at h;simp only[wpListIn];split
  · rename_i hw
    rw[if_pos hw] at h;rcases h with h | ⟨_,h⟩
    · exact Oper.wpIn_of hd.1 (Oper.wp_mono (fun a w k=>Bo hq l a w hd.2 k) h)
    · exact absurd h hq
  · rename_i hw
    rw[if_neg hw] at h;exact⟨fun _ _=>trivial,Bo hq l _ w hd.2 h⟩
theorem yB{md:Region.Mode}{ops:Array Oper}(hq:¬LetsOut Q)(hd:∀(i:Nat) (o:Oper),ops[i]? = some o→Lx o=true):∀(f:Nat) (listed:Array Bool) (a:Act) (w:aj),wpAny P md ops Q f listed a w→wpAnyIn (Fence.wide.inRound r) n P md ops Q f listed a w
 | 0,listed,a,w,h=>h
 | f+1,listed,a,w,h=>by
  refine⟨h.1,fun i hi=>?_⟩;have h2:=h.2 i hi;unfold wpOp at h2;unfold wpOpIn;split
  · rename_i hn
    simp only[hn] at h2;exact yB hq hd f _ a w h2
  · rename_i o ho
    simp only[ho] at h2;split
    · rename_i hw
      rw[if_pos hw] at h2;rcases h2 with h2 | ⟨_,h2⟩
      · exact Oper.wpIn_of (hd i o ho) (Oper.wp_mono (fun a w k=>yB hq hd f _ a w k) h2)
      · exact absurd h2 hq
    · rename_i hw
      rw[if_neg hw] at h2;exact⟨fun _ _=>trivial,yB hq hd f _ _ w h2⟩
class Eh(Q:Exit→Act→aj→Prop):Prop where
 h:¬LetsOut Q
instance {K:Act→aj→Prop}[q:Eh Q]:Eh (Exit.then K Q):=⟨fun⟨a,w,k⟩=>q.h ⟨a,w,k⟩⟩
instance {id:Nat}[q:Eh Q]:Eh (Exit.inBlock id Q):=⟨fun⟨a,w,k⟩=>q.h ⟨a,w,k⟩⟩
instance {α:Type}{B:Nat}{Kp:aj→aj→Prop}{I:List α→aj→Prop}{Ix:Code→List α→aj→Prop}{xs:List α}{W:aj}:Eh (ownPostG B Kp I Ix xs W):=⟨fun⟨_,_,k⟩=>k⟩
instance:Eh (fun _ _ _=>False):=⟨fun⟨_,_,k⟩=>k⟩
theorem cB{id:Nat}{l:List Oper}{a:Act}{w:aj}[hq:Eh Q](h:au P l.toArray Q l a w)(hd:l.all Lx=true:=by rfl):(Code.region id l.toArray false).wpIn (Fence.wide.inRound r) n P Q a w:=wpIn_region_lit (Bo hq.h l a w hd h)
theorem nK{c1 c2:Code}{a:Act}{w:aj}(h:∀K:Act→aj→Prop,(∀a w,c2.wpIn (Fence.wide.inRound r) n P Q a w→K a w)→c1.wpIn (Fence.wide.inRound r) n P (Exit.then K Q) a w):(Code.seq c1 c2).wpIn (Fence.wide.inRound r) n P Q a w:=wpIn_seq_k h
variable {l:List ah} {ds:List cn} {w:aj} {c1 c2:Code}
theorem yC{x:bg}{b:Bool}(hx:ev l x=.bool b)(ht:b=true→c1.wpIn (Fence.wide.inRound r) n P Q (Fr l ds) w)(hf:b=false→c2.wpIn (Fence.wide.inRound r) n P Q (Fr l ds) w):(Code.cond x c1 c2).wpIn (Fence.wide.inRound r) n P Q (Fr l ds) w:=by
 refine wpIn_cond (t:=b) (by rw[jV,cJ];exact hx) ?_;cases b with
 | false=>exact hf rfl
 | true=>exact ht rfl
theorem oS{id:Nat}{c:Code}{a:Act}(h:c.wpIn (Fence.wide.inRound r) n P (Exit.inBlock id Q) a w):(Code.block id c).wpIn (Fence.wide.inRound r) n P Q a w:=wpIn_block h
theorem aiz{a:Act}(h:Q .normal a w):Code.skip.wpIn (Fence.wide.inRound r) n P Q a w:=wpIn_skip h
theorem My{a:Act}(h:Q .ret a w):Code.ret.wpIn (Fence.wide.inRound r) n P Q a w:=wpIn_ret h
theorem yW{C:aj→Prop}{id:Nat}{a:Act}{l:List Oper}(k:Nat)(hq:¬LetsOut Q)(hd:l.all Lx=true)(hm:P.follows .mixedOrders=true)(hB:Region.lexTailB .any l.toArray k=true)
 (hC:C { w with drawn:=w.drawn+1 })
 (h:cg P l.toArray C (fun a'=>∀w',C w'→au P l.toArray Q (l.drop k) a' w') (l.take k) a):(Code.region id l.toArray true).wpIn (Fence.wide.inRound r) n P Q a w:=by
 simp only[Region.lexTailB,be,decide_eq_true_eq] at hB;obtain⟨⟨⟨⟨hsel,hn⟩,hs⟩,hc⟩,hlex⟩:=hB;have hn':k<l.length:=by simpa using hn
 have htl:(l.take k).length=k:=by simp;omega
 have hdl:(l.drop k).length=l.toArray.size-k:=by simp
 have inv0:HeadInv .any l.toArray k (fl l.toArray.size false) :=
  ⟨by simp,fun j oj _ hl=>(by rw[getD_replicate_false] at hl;cases hl),fun t _ ht=>getD_in (by simpa using ht) (getD_replicate_false _ _)⟩
 have H:=wT (md:=.any) (g:=l.toArray.size-k) hsel hs hc hn (l.take k) 0 _ a (fun j hj=>by
  have hj':j<k:=by rw[htl] at hj;exact hj
  simp[hj']) (by simpa using htl) inv0 (by rw[htl];exact hlex) h
 refine wpIn_region_any hm ?_;have:=tH (Q':=Q) (g:=l.toArray.size-k) (fun listed a' hL w' hw'=>by
  have:=wpAny_of_seq (md:=.any) (Q':=Q) (l.drop k) k listed a' w' (fun j=>by simp[d_]) (by rw[hdl];exact hL.1) (hL.2 w' hw');rwa [hdl] at this) _ _ _ _ hC H
 rw[htl,show k+(l.toArray.size-k)=l.toArray.size by omega] at this;refine yB hq (fun i o ho=>?_) _ _ _ _ this;have hi:o∈l:=by rw[List.getElem?_toArray] at ho;exact bj ho
 exact dw.1 hd o hi
structure RX(w w':aj):Prop where
 os:w'.os=w.os
 tape:w'.tape=w.tape
 output:w'.output=w.output
 ko:KeepsOthers w w'
theorem RX.refl(w:aj):RX w w:=⟨rfl,rfl,rfl,KeepsOthers.refl w⟩
theorem RX.ext{W u u':aj}(h:RX W u)(e:fN u u'):RX W u':=⟨e.os.trans h.os,e.tape.trans h.tape,e.output.trans h.output,h.ko.trans ⟨e.size,fun k o hk _=>e.block hk⟩⟩
theorem RX.chg{W u u':aj}{g:Nat}{cs:List ah}{t:an}(h:RX W u)(hB:fK u g cs t)(e:Chg u u' g):RX W u' :=
 ⟨e.os.trans h.os,e.tape.trans h.tape,e.output.trans h.output,h.ko.trans ⟨Nat.le_of_eq e.size.symm,fun k o hk ho=>(e.block k fun hkg=>by
  subst hkg;rw[show u.heap[k]? = _ from hB] at hk;cases hk;cases ho).trans hk⟩⟩
structure lA(W w0 w:aj)(is:List It):Prop extends Mem w0 w is where
 rx:RX W w
theorem lA.start{w0 w:aj}{is:List It}(m:Mem w0 w is):lA w w0 w is:=⟨m,RX.refl w⟩
theorem lA.e{W w0 w w':aj}{is:List It}(m:lA W w0 w is)(e:fN w w'):lA W w0 w' is:=⟨m.ext' e,m.rx.ext e⟩
section
variable {W w0:aj} {is:List It} {ops:Array Oper} {rest:List Oper} {d:Nat} {ty T:an} {pos:String} {after:Array Edge} {x y:bg} {v:ah}
theorem Hx{cs:List ah}{z:ah}(m:lA W w0 w is)(hZ:nY P T z)(hv:z.cells=cs.toArray)(h:∀g u,lA W w0 u (bI g cs T::is)→au P ops Q rest (Fr (l.set d (.pointer (some ⟨g,0,none⟩))) ds) u) :
 au P ops Q (bn (some d) (.alloc T) ty pos after none::rest) (Fr l ds) w:=Bz hZ hv fun u g e hg hB=>h g u ⟨m.toMem.newB e hg hB,m.rx.ext e⟩
theorem adZ{g off:Nat}{cs us:List ah}{t:an}(m:lA W w0 w is)(k:Nat)(hk:is[k]? = some (bI g cs t))(hx:ev l x=.pointer (some ⟨g,off,none⟩))(hv:(ev l y).cells=us.toArray)(hc:dP P T us.length)(hfit:off+us.length≤cs.length)(h1:(us.all (·.oneCell'))=true)
 (h:∀u,lA W w0 u (is.set k (bI g (cA cs off us) t))→au P ops Q rest (Fr l ds) u):au P ops Q (bn none (.store T x y) ty pos after none::rest) (Fr l ds) w :=
 Ca hx hv hc (m.b k hk) hfit (fW h1) fun u hC hB=>h u ⟨m.put k hk hC.os hC.tape hC.output (by rw[hC.size];exact av _) (fun b _ hne=>hC.block b fun e=>hne (by rw[e];rfl)) hB (.inl fun _ h=>h),m.rx.chg (m.b k hk) hC⟩
theorem Bp{g off:Nat}{cs us:List ah}{t:an}(m:lA W w0 w is)(k:Nat)(hk:is[k]? = some (bI g cs t))(hx:ev l x=.pointer (some ⟨g,off,none⟩))(hv:ev l y=.agg us.toArray)(hc:dP P T us.length)(hfit:off+us.length≤cs.length)(h1:(us.all (·.oneCell'))=true)
 (h:∀u,lA W w0 u (is.set k (bI g (cA cs off us) t))→au P ops Q rest (Fr l ds) u):au P ops Q (bn none (.store T x y) ty pos after none::rest) (Fr l ds) w:=adZ m k hk hx (by rw[hv];rfl) hc hfit h1 h
theorem iV{g off:Nat}{cs:List ah}{v:ah}{t:an}(m:lA W w0 w is)(k:Nat)(hk:is[k]? = some (bI g cs t))(hx:ev l x=.pointer (some ⟨g,off,none⟩))(hv:ev l y=v)(hc:dP P T 1)(hfit:off+1≤cs.length)(h1:v.oneCell'=true∧v.cells = #[v])
 (h:∀u,lA W w0 u (is.set k (bI g (cA cs off [v]) t))→au P ops Q rest (Fr l ds) u):au P ops Q (bn none (.store T x y) ty pos after none::rest) (Fr l ds) w:=adZ (us:=[v]) m k hk hx (by rw[hv];exact h1.2) hc hfit (by simp[h1.1]) h
theorem Mz{f:FuncId}{fo:bg}{xs:Array bg}{args:List ah}{first cap:Array ah}{a0:Array an}(m:lA W w0 w is)(hf:ev l fo=.func (.func f) first cap)(hxs:first.toList++xs.toList.map (ev l)++cap.toList=args)(hc:dL P f args v)
 (h:∀u,lA W w0 u is→au P ops Q rest (Fr (l.set d v) ds) u):au P ops Q (bn (some d) (.call { callee:=.value fo,args:=xs,argTypes:=a0 }) ty pos after none::rest) (Fr l ds) w :=
 Vr hf hxs hc fun u e=>h u (m.e e)
theorem wL{id:Nat}{a:Act}{l:List Oper}[hq:Eh Q](m:lA W w0 w is)(k:Nat)(hm:P.follows .mixedOrders=true)(hB:Region.lexTailB .any l.toArray k=true)
 (h:cg P l.toArray (fun u=>lA W w0 u is) (fun a'=>∀u,lA W w0 u is→au P l.toArray Q (l.drop k) a' u) (l.take k) a) (hd:l.all Lx=true:=by rfl):(Code.region id l.toArray true).wpIn (Fence.wide.inRound r) n P Q a w :=
 yW (C:=fun u=>lA W w0 u is) k hq.h hd hm hB (m.e (fN.refl w).drawn) h
variable {Qq:Act→Prop}
theorem Dk{a:Addr}(hx:ev l x=.pointer (some a))(hv:∀u,lA W w0 u is→fL P u T a v)(h:cg P ops (fun u=>lA W w0 u is) Qq rest (Fr (l.set d v) ds)):cg P ops (fun u=>lA W w0 u is) Qq (bn (some d) (.load T x) ty pos after none::rest) (Fr l ds) :=
 jY (fun u m=>aU hx (hv u m)) h
theorem afu{f:FuncId}{fo:bg}{xs:Array bg}{args:List ah}{first cap:Array ah}{a0:Array an}(hf:ev l fo=.func (.func f) first cap)(hxs:first.toList++xs.toList.map (ev l)++cap.toList=args)(hc:dL P f args v)
 (h:cg P ops (fun u=>lA W w0 u is) Qq rest (Fr (l.set d v) ds)):cg P ops (fun u=>lA W w0 u is) Qq (bn (some d) (.call { callee:=.value fo,args:=xs,argTypes:=a0 }) ty pos after none::rest) (Fr l ds):=by
 refine wpQuiet_step fun K hK=>?_;rw[if_pos (by simp[Region.wanted])];refine⟨v,fun w' hw=>?_,?_⟩
 · unfold Oper.quietAt
   rw[jV,oY (hc w').1 hf hxs _ rfl];refine⟨rfl,(hc w').2.mono ?_⟩;rintro e w'' ⟨u,rfl,hE,rfl⟩;exact⟨rfl,hw.e hE⟩
 · show K ((Fr l ds).put (some d) v)
   rw[iB];exact hK _ h
end
end
/-! ### Within the fence that bars nothing: a head of quiet operations,then a tail that may yield -/
section
variable {P:bh} {Q:Exit→Act→aj→Prop} {n:Nat} {C:aj→Prop} {ops:Array Oper} {md:Region.Mode}
theorem aaO{row:String}{args:Array ah}{w:aj}{R:ah→aj→Prop}(h:Rows P row args w R):RowsIn Fence.wide n P row args w R :=
 fun c cs _=>let ⟨v,w',q,s⟩:=h c cs;⟨v,w',q,stepsIn_wide.2 s⟩
theorem Oper.wpIn_q{o:Oper}{a:Act}{w:aj}{K:Act→aj→Prop}(h:o.wp P a w K (fun _ _ _=>False)):o.wpIn Fence.wide n P a w K Q:=by
 unfold Oper.wp at h;refine⟨fun _ _=>trivial,?_⟩;show od _ _ _ _ _ _ _ ((cw a.eval o).run P w)
 generalize (cw a.eval o).run P w=z at *
 have h0:Fence.wide.depth.isSome=true→1≤n:=fun h=>by cases h
 cases z with
 | ok x w' =>
  cases x <;> simp only[mj,od] at h ⊢ <;> first
   | exact h
   | exact⟨h0,(callsIn_wide.2 h).mono fun e w'' k=>by cases e with | returned v=>exact k | panicked c=>exact k.elim | outgrown=>exact (k.elim fun _ k=>k.elim fun _ k=>k.elim)⟩
   | exact⟨h0,aaO h⟩
   | exact h.elim
 | halt x w'=>cases x <;> simp only[mj,od] at h ⊢ <;> first | exact h | exact h.elim
theorem aiA{i:Nat}{K:Act→aj→Prop}{a:Act}{w:aj}(h:wpOp P ops (fun _ _ _=>False) i K a w):wpOpIn Fence.wide n P ops Q i K a w:=by
 unfold wpOp at h;unfold wpOpIn;split
 · rename_i hn
   simp only[hn] at h;exact h
 · rename_i o ho
   simp only[ho] at h;split
   · rename_i hw
     rw[if_pos hw] at h;rcases h with h | ⟨_,_,_,h⟩
     · exact Oper.wpIn_q h
     · exact h.elim
   · rename_i hw
     rw[if_neg hw] at h;exact⟨fun _ _=>trivial,h⟩
theorem wM{k g:Nat}{L:Array Bool→Act→Prop}(hL:∀listed a,L listed a→∀w,C w→wpAnyIn Fence.wide n P md ops Q g listed a w) :
 ∀(f:Nat) (listed:Array Bool) (a:Act) (w:aj),C w→Io P md ops C k L f listed a→wpAnyIn Fence.wide n P md ops Q (f+g) listed a w
 | 0,listed,a,w,hw,h=>by rw[ar];exact hL _ _ h w hw
 | f+1,listed,a,w,hw,h=>by
  rw[show f+1+g=(f+g)+1 by omega];exact⟨fun h0=>absurd h0 h.1,fun i hi=>aiA (wpOp_of_qOp hw (fun a' w' hw' h'=>wM hL f _ a' w' hw' h') (h.2 i hi).2)⟩
theorem Bq:∀(l:List Oper) (k:Nat) (listed:Array Bool) (a:Act) (w:aj),(∀j,l[j]? = ops[k+j]?) →
 Region.seqB md ops l.length k listed=true→wpListIn Fence.wide n P ops Q l a w→wpAnyIn Fence.wide n P md ops Q l.length listed a w
 | [],_,_,_,_,_,hB,h=>⟨by simpa[Region.seqB] using hB,h⟩
 | o::l,k,listed,a,w,hl,hB,h=>by
  have h0:ops[k]? = some o:=by simpa using (hl 0).symm
  simp only[ay,Region.seqB,be,decide_eq_true_eq] at hB;refine⟨fun h1=>(by rw[hB.1] at h1;cases h1),fun i hi=>?_⟩;rw[hB.1] at hi;have hik:i=k:=by simpa using hi
  subst hik;have hw:wpOpIn Fence.wide n P ops Q i (wpListIn Fence.wide n P ops Q l) a w:=by unfold wpOpIn;simp only[h0];exact h
  exact wpOpIn_mono (fun a' w' h'=>Bq l (i+1) _ a' w' (fun j=>by have:=hl (j+1);simpa[Nat.add_assoc,Nat.add_comm 1 j] using this) hB.2 h') hw
theorem yD{w:aj}{id:Nat}{a:Act}{l:List Oper}(k:Nat)(hm:P.follows .mixedOrders=true)(hB:Region.lexTailB .any l.toArray k=true)
 (hC:C { w with drawn:=w.drawn+1 })
 (h:cg P l.toArray C (fun a'=>∀w',C w'→wpListIn Fence.wide n P l.toArray Q (l.drop k) a' w') (l.take k) a):(Code.region id l.toArray true).wpIn Fence.wide n P Q a w:=by
 simp only[Region.lexTailB,be,decide_eq_true_eq] at hB;obtain⟨⟨⟨⟨hsel,hn⟩,hs⟩,hc⟩,hlex⟩:=hB;have hn':k<l.length:=by simpa using hn
 have htl:(l.take k).length=k:=by simp;omega
 have hdl:(l.drop k).length=l.toArray.size-k:=by simp
 have inv0:HeadInv .any l.toArray k (fl l.toArray.size false) :=
  ⟨by simp,fun j oj _ hl=>(by rw[getD_replicate_false] at hl;cases hl),fun t _ ht=>getD_in (by simpa using ht) (getD_replicate_false _ _)⟩
 have H:=wT (md:=.any) (g:=l.toArray.size-k) hsel hs hc hn (l.take k) 0 _ a (fun j hj=>by
  have hj':j<k:=by rw[htl] at hj;exact hj
  simp[hj']) (by simpa using htl) inv0 (by rw[htl];exact hlex) h
 refine wpIn_region_any hm ?_;have:=wM (Q:=Q) (n:=n) (g:=l.toArray.size-k) (fun listed a' hL w' hw'=>by
  have:=Bq (md:=.any) (Q:=Q) (n:=n) (l.drop k) k listed a' w' (fun j=>by simp[d_]) (by rw[hdl];exact hL.1) (hL.2 w' hw');rwa [hdl] at this) _ _ _ _ hC H
 rw[htl,show k+(l.toArray.size-k)=l.toArray.size by omega] at this;exact this
theorem Na{l:List ah}{ds:List cn}{w:aj}{y d:Nat}{f:FuncId}{fo:bg}{xs:Array bg}{args:List ah}{a0:Array an}{ty:an}{pos:String}{after:Array Edge}{rest:List Oper}{tmps:Array ah}{assign body:Code}{R:Ending→aj→Prop}
 (hf:ev l fo=.func (.yield y) #[] #[]) (hxs:xs.toList.map (ev l)=args) (hy:(Instr.yield y args.toArray).run P w=.ok (.round y f tmps assign body) w) (hR:RoundIn Fence.wide (n-1) P y f tmps assign body w R)
 (h:∀e w',R e w'→∃v,e=.returned v∧wpListIn Fence.wide n P ops Q rest (Fr (l.set d v) ds) w') :
 wpListIn Fence.wide n P ops Q (bn (some d) (.call { callee:=.value fo,args:=xs,argTypes:=a0 }) ty pos after none::rest) (Fr l ds) w:=by
 refine wpListIn_plain rfl fun K hK=>?_;refine⟨fun _ _=>trivial,?_⟩;have e:(Fr l ds).eval=ev l:=funext cJ;have ea:args.toArray = #[]++xs.map (ev l) ++ #[]:=by
  rw[←hxs];apply Array.ext';simp
 have er:(cw (Fr l ds).eval (bn (some d) (.call { callee:=.value fo,args:=xs,argTypes:=a0 }) ty pos after none)).run P w=.ok (.round y f tmps assign body) w:=by
  rw[ea] at hy;simp[cw,resolve,e,hf,Deferred.ofValue,invoke] at hy ⊢;exact hy
 rw[show pb Fence.wide.round=pb none from rfl,Oper.semAt_none,er];refine⟨fun (h:Fence.wide.depth.isSome=true)=>(by cases h),hR.mono fun e w' hr=>?_⟩;obtain⟨v,rfl,hk⟩:=h e w' hr;exact hK _ _ (by rw[iB];exact hk)
theorem vO{l:List ah}{ds:List cn}{w:aj}{d:Nat}{op:Op}{ty:an}{pos:String}{after:Array Edge}{rest:List Oper}{v:ah}(hr:yR P l op ty v w)(h:wpListIn Fence.wide n P ops Q rest (Fr (l.set d v) ds) w):wpListIn Fence.wide n P ops Q (bn (some d) op ty pos after none::rest) (Fr l ds) w:=by
 refine wpListIn_plain rfl fun K hK=>?_;refine⟨fun _ _=>trivial,?_⟩;rw[show pb Fence.wide.round=pb none from rfl,Oper.semAt_none,jV,hr _ rfl rfl];show K ((Fr l ds).put (some d) v) w
 rw[iB];exact hK _ _ h
end
theorem Nb{β:Type}(B:Nat)(g:β→Nat)(cs:β→List ah)(t:an):OwnFrom B fun s W=>fK W (g s) (cs s) t:=fun s X Y row hs hg hr=>by
 have hs':X.heap[g s]? = some (.cells (cs s).toArray t (0,0)):=hs;show Y.heap[g s]? = _
 rw[grownBy_keeps_cells hg (fun r e=>(hr r e).2) hs' rfl];exact hs'
theorem ad0{β:Type}{B:Nat}{w:aj}(h:w.heap.size≤B):OwnFrom B fun (_:β) W=>fN w W:=ownFrom_below (av _) h
def ak8(is:List It):Prop:=∀i∈is,∃g cs t,i=bI g cs t
theorem ad1{β:Type}{B:Nat}{w:aj}(F:β→List It)(hF:∀s,ak8 (F s))(h:w.heap.size≤B):OwnFrom B fun s W=>Mem w W (F s):=fun s W W' row hs hg hr=>by
 refine⟨ad0 (β:=Unit) h () W W' row hs.ext hg hr,fun i hi=>?_,hs.ge,hs.nd⟩;obtain⟨g,cs,t,rfl⟩:=hF s i hi;exact Nb (β:=Unit) B (fun _=>g) (fun _=>cs) t () W W' row (hs.all _ hi) hg hr
end Go.Lith
namespace Go.Proofs.YtfekpcimgncioaaGreatDoor
open Go.Proofs.Tryz
open Go.RowKit Go.Lith
attribute [local go_sem] Oper.semAt_some
def amb(t:T3)(k:Nat):Array ah:=#[pt (t.cor k),pt (t.cor ((k+1)%3))]
set_option maxRecDepth 100000 in
theorem afv(n:Nat)(hn:1≤n)(l Bs n₀:Nat)(t:T3)(J Jx:List Nat→aj→Prop)
 (hJd:∀s W,J s W→J s W.drew) (hY:∀pre x W,J pre W→pre.length<3→YieldAt Fence.wide (n-1) prog l (amb t x) W fun e W' =>
  (e=.returned (.bool true)∧J (pre++[x]) W'∧mS n₀ Bs W W')∨(e=.returned (.bool false)∧Jx (pre++[x]) W'))
 (W:aj) (hBs:fK W Bs (aN t) 39) (h0:J [] W) :
 CallsIn Fence.wide n prog 337 #[.func (.yield l) #[] #[],.pointer (some ⟨Bs,0,none⟩)] W fun e W'=>(∃v,e=.returned v) ∧
  ((∃ys:List Nat,ys=[0,1,2]∧J ys W')∨(∃pre,(∀k∈pre,k<3)∧Jx pre W')):=by
 refine callsIn_of_wp func337 rfl trivial ?_ rfl;simp only[ntmps337,List.size_toArray,ay,List.length_nil,aa,Nat.reduceSub,Array.replicate_succ,Array.replicate_zero,List.push_toArray,List.append_toArray,List.nil_append,List.cons_append]
 gi_wp2
 gi_loopw [4] (fun i wr=>∃(k:Nat),k≤3∧i=.int .i64 (k:Int)∧J (i_ k) wr∧mS n₀ Bs W wr)
  (fun i _=>(3-intOf i).toNat)
 case atStart=>exact⟨0,by omega,rfl,h0,mS.refl _ _ _⟩
 case round =>
  obtain⟨k,hk,rfl,hJs,hnx⟩:=hrel;have hB:fK wr Bs (aN t) 39:=hnx.2.trans hBs;have hD:fK wr.drew Bs (aN t) 39:=hB;have hk4:k=0∨k=1∨k=2∨k=3:=by omega
  rcases hk4 with rfl | rfl | rfl | rfl
  · obtain⟨fn,tmps,assign,body,hy,hR⟩:=hY (i_ 0) 0 wr.drew (hJd _ _ hJs) (by decide)
    gi_wp2
    rename_i K1 hK1 K2 hK2;refine yD (C:=fun u=>u=wr.drew) 9 aB (by kernel_rfl) rfl ?_;simp only[zy];refine aJ aH (aJ aH (aJ (aI cH aA rfl rfl (by decide) (by decide) rfl) ?_));simp only[zz,zy,ar,aa,ag,ad];refine jY (fun u hu=>aU rfl (hu▸(mB.cor (c:=0) (hD.row 0) (by decide)).lies aG aA)) ?_;simp only[zz];refine aJ aH (aJ (jL (m:=0) (n:=1) (r:=1) rfl rfl (by decide)) (aJ (eG (m:=1) (n:=3) (r:=1) rfl rfl (by decide) (by decide)) ?_));simp only[zz];refine aJ (aI cH aA rfl rfl (by decide) (by decide) rfl) ?_;simp only[zz,zy,ar,aa,ag,ad];refine jY (fun u hu=>aU rfl (hu▸(mB.cor (c:=1) (hD.row 0) (by decide)).lies aG aA)) ?_;simp only[zz];refine bD ?_;rintro u rfl;try simp only[zy]
    refine Na rfl rfl hy hR ?_;rintro e W3 (⟨rfl,hJ3,hk3⟩ | ⟨rfl,hJx3⟩)
    · refine⟨_,rfl,?_⟩
      simp only[zz];refine vO (nM rfl _) (wpListIn_nil (hK2 _ _ ?_));simp only[zz,gt]
      gi_wp2
      go_roundw
      case rel=>exact⟨0+1,by decide,rfl,hJ3,hnx.trans ((show mS n₀ Bs wr wr.drew from⟨(Below.refl _ _).drew,rfl⟩).trans hk3)⟩
      case measure=>simp[intOf]
    · refine⟨_,rfl,?_⟩
      simp only[zz];refine vO (nM rfl _) (wpListIn_nil (hK2 _ _ ?_));simp only[zz,gp]
      gi_wp2
      refine bodyPost_ret (results_none rfl _ _ _) rfl ?_;exact⟨⟨_,rfl⟩,.inr ⟨_,by decide,hJx3⟩⟩
  · obtain⟨fn,tmps,assign,body,hy,hR⟩:=hY (i_ 1) 1 wr.drew (hJd _ _ hJs) (by decide)
    gi_wp2
    rename_i K1 hK1 K2 hK2;refine yD (C:=fun u=>u=wr.drew) 9 aB (by kernel_rfl) rfl ?_;simp only[zy];refine aJ aH (aJ aH (aJ (aI cH aA rfl rfl (by decide) (by decide) rfl) ?_));simp only[zz,zy,ar,aa,ag,ad];refine jY (fun u hu=>aU rfl (hu▸(mB.cor (c:=1) (hD.row 0) (by decide)).lies aG aA)) ?_;simp only[zz];refine aJ aH (aJ (jL (m:=1) (n:=1) (r:=2) rfl rfl (by decide)) (aJ (eG (m:=2) (n:=3) (r:=2) rfl rfl (by decide) (by decide)) ?_));simp only[zz];refine aJ (aI cH aA rfl rfl (by decide) (by decide) rfl) ?_;simp only[zz,zy,ar,aa,ag,ad];refine jY (fun u hu=>aU rfl (hu▸(mB.cor (c:=2) (hD.row 0) (by decide)).lies aG aA)) ?_;simp only[zz];refine bD ?_;rintro u rfl;try simp only[zy]
    refine Na rfl rfl hy hR ?_;rintro e W3 (⟨rfl,hJ3,hk3⟩ | ⟨rfl,hJx3⟩)
    · refine⟨_,rfl,?_⟩
      simp only[zz];refine vO (nM rfl _) (wpListIn_nil (hK2 _ _ ?_));simp only[zz,gt]
      gi_wp2
      go_roundw
      case rel=>exact⟨1+1,by decide,rfl,hJ3,hnx.trans ((show mS n₀ Bs wr wr.drew from⟨(Below.refl _ _).drew,rfl⟩).trans hk3)⟩
      case measure=>simp[intOf]
    · refine⟨_,rfl,?_⟩
      simp only[zz];refine vO (nM rfl _) (wpListIn_nil (hK2 _ _ ?_));simp only[zz,gp]
      gi_wp2
      refine bodyPost_ret (results_none rfl _ _ _) rfl ?_;exact⟨⟨_,rfl⟩,.inr ⟨_,by decide,hJx3⟩⟩
  · obtain⟨fn,tmps,assign,body,hy,hR⟩:=hY (i_ 2) 2 wr.drew (hJd _ _ hJs) (by decide)
    gi_wp2
    rename_i K1 hK1 K2 hK2;refine yD (C:=fun u=>u=wr.drew) 9 aB (by kernel_rfl) rfl ?_;simp only[zy];refine aJ aH (aJ aH (aJ (aI cH aA rfl rfl (by decide) (by decide) rfl) ?_));simp only[zz,zy,ar,aa,ag,ad];refine jY (fun u hu=>aU rfl (hu▸(mB.cor (c:=2) (hD.row 0) (by decide)).lies aG aA)) ?_;simp only[zz];refine aJ aH (aJ (jL (m:=2) (n:=1) (r:=3) rfl rfl (by decide)) (aJ (eG (m:=3) (n:=3) (r:=0) rfl rfl (by decide) (by decide)) ?_));simp only[zz];refine aJ (aI cH aA rfl rfl (by decide) (by decide) rfl) ?_;simp only[zz,zy,ar,aa,ag,ad];refine jY (fun u hu=>aU rfl (hu▸(mB.cor (c:=0) (hD.row 0) (by decide)).lies aG aA)) ?_;simp only[zz];refine bD ?_;rintro u rfl;try simp only[zy]
    refine Na rfl rfl hy hR ?_;rintro e W3 (⟨rfl,hJ3,hk3⟩ | ⟨rfl,hJx3⟩)
    · refine⟨_,rfl,?_⟩
      simp only[zz];refine vO (nM rfl _) (wpListIn_nil (hK2 _ _ ?_));simp only[zz,gt]
      gi_wp2
      go_roundw
      case rel=>exact⟨2+1,by decide,rfl,hJ3,hnx.trans ((show mS n₀ Bs wr wr.drew from⟨(Below.refl _ _).drew,rfl⟩).trans hk3)⟩
      case measure=>simp[intOf]
    · refine⟨_,rfl,?_⟩
      simp only[zz];refine vO (nM rfl _) (wpListIn_nil (hK2 _ _ ?_));simp only[zz,gp]
      gi_wp2
      refine bodyPost_ret (results_none rfl _ _ _) rfl ?_;exact⟨⟨_,rfl⟩,.inr ⟨_,by decide,hJx3⟩⟩
  · gi_wp2
    go_end0
    exact⟨⟨_,rfl⟩,.inl ⟨_,rfl,hJs⟩⟩
end Go.Proofs.YtfekpcimgncioaaGreatDoor
namespace Go.Proofs.YtfekpcimgncioaaGreatDoor
open Go.Proofs.Tryz
open Go.RowKit Go.Lith
set_option maxRecDepth 100000
attribute [local irreducible] au cg fR bO cO Code.wp
attribute [local congr] pL fX fY fZ gA gB kI gC gD gE gF gG gH gI gJ gK gL gM eS eT gN gQ gS gT gU kK dC dD cR dB gR kJ eV eW eX gW gX kL
def Xx(u:P3):Int:=if u.x≠0 then 0 else if u.y≠0 then 1 else if u.z≠0 then 2 else -1
theorem Hy{n:Int}:¬aY n=0↔n≠0:=not_congr cD
theorem Da{n:Int}(h:¬¬aY n=0):¬n≠0:=fun k=>h (Hy.2 k)
theorem aiB{u:P3}(h:¬Z3 u):Xx u=(Fi u:Int):=by
 unfold Xx Fi;unfold Z3 at h
 repeat' split
 all_goals first | rfl | (exfalso;omega)
theorem aiC{u:P3}(h:Z3 u):Xx u = -1:=by
 obtain⟨h1,h2,h3⟩:=h;simp[Xx,h1,h2,h3]
class N4(p:P3):Prop where
 x : -549755813888<p.x∧p.x<549755813888
 y : -549755813888<p.y∧p.y<549755813888
 z : -549755813888<p.z∧p.z<549755813888
theorem N3.cross{u v:P3}(hu:N3 u)(hv:N3 v):N4 (u.cross v):=by
 have h1:=yT hu.y hv.z;have h2:=yT hu.z hv.y;have h3:=yT hu.z hv.x;have h4:=yT hu.x hv.z;have h5:=yT hu.x hv.y;have h6:=yT hu.y hv.x;exact⟨by simp only[P3.cross];omega,by simp only[P3.cross];omega,by simp only[P3.cross];omega⟩
theorem oW{a b:Int}(ha : -549755813888<a∧a<549755813888)(hb:b.natAbs<524288) : -288230376151711744<a*b∧a*b<288230376151711744:=by
 have h:(a*b).natAbs≤549755813887*524287:=by rw[Int.natAbs_mul];exact Nat.mul_le_mul (by omega) (by omega)
 omega
theorem ad2{u:P3}:dL prog 304 [sg u] (.int .i64 (Xx u)):=by
 intro w;refine⟨aoq,?_⟩;have m:=Mem.refl w
 go_enter func304,ntmps304
 refine eC 26 [0,4,1,0] m ?_;simp only[↓aD,Hj];intro g1;refine⟨by omega,?_⟩;intro u m;refine aC (jI rfl rfl) (aS 8 [0,0] m ?_);simp only[↓aD];intro u m;refine bG rfl (fun hc2=>?_) (fun hc2=>?_)
 ·
  refine aW 6 [] m ?_;simp only[↓aD];intro u m;refine aR rfl rfl ?_;try simp only[zD,zE]
  exact⟨_,rfl,m.ext,by rw[Xx,if_pos (Hy.1 hc2)]⟩
 ·
  have hq0:=hc2;refine aW 19 [1,0] m ?_;simp only[↓aD,ak];refine⟨by omega,?_⟩;intro u m;refine aC (jJ rfl rfl) (aS 8 [0,0] m ?_);simp only[↓aD];intro u m;refine bG rfl (fun hc2=>?_) (fun hc2=>?_)
  ·
   refine aW 6 [] m ?_;simp only[↓aD];intro u m;refine aR rfl rfl ?_;try simp only[zD,zE]
   exact⟨_,rfl,m.ext,by rw[Xx,if_neg (Da hq0),if_pos (Hy.1 hc2)]⟩
  ·
   have hq1:=hc2;refine aW 19 [1,0] m ?_;simp only[↓aD,ak];refine⟨by omega,?_⟩;intro u m;refine aC (jK rfl rfl) (aS 8 [0,0] m ?_);simp only[↓aD];intro u m;refine bG rfl (fun hc2=>?_) (fun hc2=>?_)
   ·
    refine aW 6 [] m ?_;simp only[↓aD];intro u m;refine aR rfl rfl ?_;try simp only[zD,zE]
    exact⟨_,rfl,m.ext,by rw[Xx,if_neg (Da hq0),if_neg (Da hq1),if_pos (Hy.1 hc2)]⟩
   ·
    have hq2:=hc2;refine aW 19 [2] m ?_;simp only[↓aD,ak];refine⟨by omega,?_⟩;intro u m;refine aR rfl rfl ?_;try simp only[zD,zE]
    exact⟨_,rfl,m.ext,by rw[Xx,if_neg (Da hq0),if_neg (Da hq1),if_neg (Da hq2)]⟩
theorem Xy{u v:P3}(hu:N4 u)(hv:N3 v):dL prog 308 [nv u,nv v] (.int .i64 (u.dot v)):=by
 intro w;refine⟨aou,?_⟩;have m:=Mem.refl w
 go_enter func308,ntmps308
 refine eC 12 [1,0,0] m ?_;simp only[↓aD,sB,dU,ad,ag,aa];intro g1 g2;refine⟨by omega,?_⟩;intro u m;refine aC (lB rfl rfl (dY (by have h1:=oW hu.x hv.x;have h2:=oW hu.y hv.y;have h3:=oW hu.z hv.z;omega) (by have h1:=oW hu.x hv.x;have h2:=oW hu.y hv.y;have h3:=oW hu.z hv.z;omega))) ?_;refine aS 4 [1,0,0] m ?_;simp only[↓aD,sB,dU,ad,ag,aa];refine⟨by omega,?_⟩;intro u m;refine aC (lB rfl rfl (dY (by have h1:=oW hu.x hv.x;have h2:=oW hu.y hv.y;have h3:=oW hu.z hv.z;omega) (by have h1:=oW hu.x hv.x;have h2:=oW hu.y hv.y;have h3:=oW hu.z hv.z;omega))) (aC (jL rfl rfl (dY (by have h1:=oW hu.x hv.x;have h2:=oW hu.y hv.y;have h3:=oW hu.z hv.z;omega) (by have h1:=oW hu.x hv.x;have h2:=oW hu.y hv.y;have h3:=oW hu.z hv.z;omega))) ?_);refine aS 4 [1,0,0] m ?_;simp only[↓aD,sB,dU,ad,ag,aa];refine⟨by omega,?_⟩;intro u m;refine aC (lB rfl rfl (dY (by have h1:=oW hu.x hv.x;have h2:=oW hu.y hv.y;have h3:=oW hu.z hv.z;omega) (by have h1:=oW hu.x hv.x;have h2:=oW hu.y hv.y;have h3:=oW hu.z hv.z;omega))) (aC (jL rfl rfl (dY (by have h1:=oW hu.x hv.x;have h2:=oW hu.y hv.y;have h3:=oW hu.z hv.z;omega) (by have h1:=oW hu.x hv.x;have h2:=oW hu.y hv.y;have h3:=oW hu.z hv.z;omega))) ?_);refine aS 3 [] m ?_;simp only[↓aD];intro u m;exact aR rfl rfl (⟨_,rfl,m.ext,rfl⟩)
theorem uI{a b c d:P3}[I3 a][I3 b][I3 c][I3 d]:dL prog 243 [pt a,pt b,pt c,pt d] (.int .i64 (aY (((b.sub a).cross (c.sub a)).dot (d.sub a)))):=by
 intro w;refine⟨an2,?_⟩;have m:=Mem.refl w
 go_enter func243,ntmps243
 refine eC 15 [3,2,1,0,0] m ?_;simp only[↓aD,aO];intro g1 g2 g3 g4;intro u m;refine Cs rfl rfl rfl rfl ?_;intro u g5 e hg hB;replace m:=m.newB e hg hB;clear e hg hB;simp only[zz];refine cU m rfl rfl (Uu _ (m.b 0 rfl)) ?_;clear m;rintro v u m ⟨bo,rfl,hsm⟩;refine aS 1 [0] m ?_;simp only[↓aD];intro u m;refine jZ rfl (fun hc1=>?_) (fun hc1=>?_)
 ·
  obtain⟨_,_,_,_⟩:=hsm hc1;refine aW 1 [0] m ?_;simp only[↓aD];intro u m;refine mq m aB (by kernel_rfl) (ql rfl (fun u m=>((m.b 4 rfl).full aG aA)) ?_);simp only[zz];refine ql rfl (fun u m=>((m.b 3 rfl).full aG aA)) ?_;simp only[zz];refine eR rfl rfl pU ?_;simp only[zz];refine ql rfl (fun u m=>((m.b 4 rfl).full aG aA)) ?_;simp only[zz];refine ql rfl (fun u m=>((m.b 2 rfl).full aG aA)) ?_;simp only[zz];refine eR rfl rfl pU ?_;simp only[zz];refine eR rfl rfl (Ee inferInstance inferInstance) ?_;simp only[zz];refine ql rfl (fun u m=>((m.b 4 rfl).full aG aA)) ?_;simp only[zz];refine ql rfl (fun u m=>((m.b 1 rfl).full aG aA)) ?_;simp only[zz];refine eR rfl rfl pU ?_;simp only[zz];refine eR rfl rfl (Xy (N3.cross inferInstance inferInstance) inferInstance) ?_;simp only[zz];refine eR rfl rfl Xj (aJ aM (bD ?_));clear m;intro u m;refine cP 1 [] m ?_;simp only[↓aD];intro u m;exact aR rfl rfl (⟨_,rfl,m.ext,rfl⟩)
 ·
  refine aW 2 [0] m ?_;simp only[↓aD];intro u m;refine mq m aB (by kernel_rfl) (ql rfl (fun u m=>((m.b 4 rfl).full aG aA)) ?_);simp only[zz];refine ql rfl (fun u m=>((m.b 3 rfl).full aG aA)) ?_;simp only[zz];refine eR rfl rfl mT ?_;simp only[zz];refine ql rfl (fun u m=>((m.b 4 rfl).full aG aA)) ?_;simp only[zz];refine ql rfl (fun u m=>((m.b 2 rfl).full aG aA)) ?_;simp only[zz];refine eR rfl rfl mT ?_;simp only[zz];refine eR rfl rfl (xT Bv.of Bv.of) ?_;simp only[zz];refine ql rfl (fun u m=>((m.b 4 rfl).full aG aA)) ?_;simp only[zz];refine ql rfl (fun u m=>((m.b 1 rfl).full aG aA)) ?_;simp only[zz];refine eR rfl rfl mT ?_;simp only[zz];refine eR rfl rfl (Lp Bv.of Bv.of) ?_;simp only[zz];refine eR rfl rfl (Kc Bw.up) (aJ aM (bD ?_));clear m;intro u m;refine cP 1 [] m ?_;simp only[↓aD];intro u m;exact aR rfl rfl (⟨_,rfl,m.ext,rfl⟩)
theorem wN{p q:P3}:dL prog 305 [pt p,pt q] (.tuple #[pt (mK p q),pt (nL p q)]):=by
 intro w;refine⟨aor,?_⟩;have m:=Mem.refl w
 go_enter func305,ntmps305
 refine eC 12 [2,3,0] m ?_;simp only[↓aD,eY,aO];intro g1 g2 g3 g4;intro u m;refine mW m rfl rfl sX.pure 1 [0] ?_;simp only[↓aD];intro u m;refine bG rfl (fun hc1=>?_) (fun hc1=>?_)
 ·
  refine aW 1 [0] m ?_;simp only[↓aD];intro u m;refine zvt [false,false,true,true] [[0],[1],[1],[0]] (.take 0 (.take 1 (.one 2 (.one 3 .nil)))) m aB (by kernel_rfl) (bT (fun _ _ _ _ _ h=>h)) ?_;simp only[↓aD,↓zzu,aO,aa];intro u m;refine cP 1 [] m ?_;simp only[↓aD];intro u m;refine wU rfl ⟨_,rfl,((m.b 1 rfl).full aG aA)⟩ ⟨_,rfl,((m.b 0 rfl).full aG aA)⟩ ?_;try simp only[zD,zE]
  exact⟨_,rfl,m.ext,by rw[mK,nL,if_pos hc1,if_pos hc1];rfl⟩
 ·
  refine aW 2 [0] m ?_;simp only[↓aD];intro u m;refine zvt [false,false,true,true] [[1],[0],[1],[0]] (.take 0 (.take 1 (.one 2 (.one 3 .nil)))) m aB (by kernel_rfl) (bT (fun _ _ _ _ _ h=>h)) ?_;simp only[↓aD,↓zzu,aO,aa];intro u m;refine cP 1 [] m ?_;simp only[↓aD];intro u m;refine wU rfl ⟨_,rfl,((m.b 1 rfl).full aG aA)⟩ ⟨_,rfl,((m.b 0 rfl).full aG aA)⟩ ?_;try simp only[zD,zE]
  exact⟨_,rfl,m.ext,by rw[mK,nL,if_neg hc1,if_neg hc1];rfl⟩
instance (a b c:Int):Decidable (Lw a b c):=inferInstanceAs (Decidable (_∨_))
instance {p q:P3}[I3 p][I3 q]:I3 (mK p q):=by unfold mK;split <;> assumption
instance {p q:P3}[I3 p][I3 q]:I3 (nL p q):=by unfold nL;split <;> assumption
theorem ak9{a b c:Int}:(decide (0≤(if c<(if b<a then b else a) then c else if b<a then b else a))||decide ((if (if a<b then b else a)<c then c else if a<b then b else a)≤0))=decide (Lw a b c):=by
 unfold Lw;rw[←Bool.decide_or]
 congr 1
 apply propext;constructor
 ·
  intro h
  repeat' split at h
  all_goals omega
 ·
  intro h
  repeat' split
  all_goals omega
theorem ala{a b c:Int}:dL prog 307 [.agg #[.int .i64 a,.int .i64 b,.int .i64 c]] (.bool (decide (Lw a b c))):=by
 intro w;refine⟨aot,?_⟩;have m:=Mem.refl w
 go_enter func307,ntmps307
 refine eC 13 [0,0,0,0] m ?_;simp only[↓aD,fU,dU,ad,ag,aa];intro g1;refine⟨by omega,?_⟩;intro u m;refine aC (Fj rfl rfl rfl rfl) (aS 2 [0,0] m ?_);simp only[↓aD];intro u m;refine bC rfl (fun hb=>aI tM aX rfl rfl (by decide) (by decide) rfl) ?_;simp only[zz];refine bS rfl (fun hb=>aU (aV hb rfl) ((m.b 0 rfl).lies1 bE rfl)) (bC rfl (fun hb=>aI tM aX rfl rfl (by decide) (by decide) rfl) ?_);simp only[zz];refine bS rfl (fun hb=>aU (aV hb rfl) ((m.b 0 rfl).lies1 bE rfl)) (bC rfl (fun hb=>aI tM aX rfl rfl (by decide) (by decide) rfl) ?_);simp only[zz];refine bS rfl (fun hb=>aU (aV hb rfl) ((m.b 0 rfl).lies1 bE rfl)) (bC rfl (fun hb=>Fk (aV hb rfl) (aV hb rfl) (aV hb rfl) rfl) (bC rfl (fun hb=>Do (aV hb rfl) rfl) (aC (cF rfl rfl rfl) ?_)));refine aS 3 [] m ?_;simp only[↓aD];intro u m;refine aR rfl rfl ?_;try simp only[zD,zE]
 exact⟨_,rfl,m.ext,by rw[←ak9]⟩
theorem ad3{t:T3}(w:aj):dJ prog 303 [tr t] w (fun v w'=>∃g,v=.func (.func 337) #[] #[.pointer (some ⟨g,0,none⟩)]∧w.heap.size≤g∧fK w' g (aN t) 39):=by
 refine⟨aop,?_⟩;have m:=Mem.refl w
 go_enter func303,ntmps303
 refine eC 7 [0] m ?_;simp only[↓aD];intro g1;intro u m;refine aC fO ?_;simp only[zz,fk,bi,ck];refine aS 3 [] m ?_;simp only[↓aD];intro u m;exact aR rfl rfl (⟨_,rfl,m.ext,_,rfl,m.ge _ bq _ rfl,(m.b 0 rfl)⟩)
theorem Ly(n:Nat)(hn:1≤n)(Bs n₀:Nat)(t:T3)(w:aj)(hB:fK w Bs (aN t) 39):SeqStopsK Fence.wide n prog 337 #[.pointer (some ⟨Bs,0,none⟩)] (fun x:Nat=>amb t x) (mS n₀ Bs) (fun ys=>ys=[0,1,2]) (fun pre=>∀k∈pre,k<3) 3 w:=fun l J Jx W hW hJ hJx hY h0 =>
 afv n hn l Bs n₀ t J Jx (fun s W h=>hJ s W _ none h ⟨rfl,rfl,rfl,av _,fun _ _ _=>rfl⟩ (fun r e=>by cases e)) hY W ((hW.block Bs hB.lt).trans hB) h0
theorem lS{l:List ah}{ty:an}{x y:bg}{v:P3}{k:Nat}(hk:k<3)(hx:ev l x=sg v)(hy:ev l y=.int .i64 (k:Int)):iG prog l (.index 36 x y) ty (.int .i64 (aY (dF v k))):=by
 have h:k=0∨k=1∨k=2:=by omega
 rcases h with rfl | rfl | rfl
 · exact jI hx hy
 · exact jJ hx hy
 · exact jK hx hy
theorem ad4(n:Int) : -1≤aY n∧aY n≤1:=by
 unfold aY;split
 · omega
 · split <;> omega
theorem wO(m n:Int):IntKind.i64.wrap (aY m*aY n)=aY m*aY n:=by
 have h1:=ad4 m;have h2:=ad4 n;have h3:aY m = -1∨aY m=0∨aY m=1:=by omega
 rcases h3 with h | h | h <;> rw[h] <;> exact dY (by omega) (by omega)
theorem aaP{a b c d:P3}[I3 a][I3 b][I3 c][I3 d]{g50 k:Nat}(w:aj)(hB50:fK w g50 [.int .i64 (k:Int)] 3)(hk:k<3):dJ prog 338 [pt a,pt b,pt c,pt d,.pointer (some ⟨g50,0,none⟩)] w (fun v _=>v=.bool (decide (aY (dF (dG a b c) k)*aY (dF (dG a b d) k)≤0))):=by
 refine⟨aox,?_⟩;have m:=Mem.refl w
 go_enter func338,ntmps338
 refine eC 9 [0] m ?_;simp only[↓aD];intro g1 g2 g3 g4;intro u m;refine mq m aB (by kernel_rfl) (eM 4 [3,2,3,1] ?_);simp only[↓aD,aO];refine eR rfl rfl (qX (a:=a) (b:=b) (c:=a) (d:=c)) ?_;simp only[zz];refine ql rfl (fun u m=>((hB50.ext m.ext).lies1 bE rfl)) ?_;simp only[zz];refine aJ ((lS (v:=dG a b c) hk rfl rfl)) (eM 4 [3,2,3,0] ?_);simp only[↓aD,aO];refine eR rfl rfl (qX (a:=a) (b:=b) (c:=a) (d:=d)) ?_;simp only[zz];refine ql rfl (fun u m=>((hB50.ext m.ext).lies1 bE rfl)) ?_;simp only[zz];refine aJ ((lS (v:=dG a b d) hk rfl rfl)) (aJ (lB rfl rfl (wO _ _)) (aJ (Do rfl rfl) (aJ aM ?_)));simp only[zz];refine bD ?_;clear m;intro u m;refine cP 1 [] m ?_;simp only[↓aD];intro u m;exact aR rfl rfl (⟨_,rfl,m.ext,rfl⟩)
section
variable {P:bh} {ops:Array Oper} {Q:Exit→Act→aj→Prop} {rest:List Oper} {d j:Nat} {ty:an} {pos:String} {after:Array Edge} {v:ah} {b:Bool} {ds:List cn} {l:List ah} {w w0:aj} {is:List It}
variable {f:FuncId} {fo:bg} {xs:Array bg} {args:List ah} {first cap:Array ah} {a0:Array an}
theorem ad5(m:Mem w0 w is)(hw:yielded ops l.toArray j=some b)(hf:b=true→ev l fo=.func (.func f) first cap)(hxs:b=true→first.toList++xs.toList.map (ev l)++cap.toList=args)(hc:b=true→dJ P f args w fun x _=>x=v)
 (h:∀u,Mem w0 u is→au P ops Q rest (Fr (l.set d (Ol b v)) ds) u):au P ops Q (bn (some d) (.call { callee:=.value fo,args:=xs,argTypes:=a0 }) ty pos after (some (j,true))::rest) (Fr l ds) w:=by
 cases b with
 | false=>simp only[An] at h;exact oX hw (h w m)
 | true=>simp only[iT] at h;exact dN hw (cU m (hf rfl) (hxs rfl) (hc rfl) fun x u m e=>by subst e;exact h u m)
end
theorem yE{u:P3}(h:¬Z3 u):Fi u=iN u∧iN u<3:=by
 unfold Fi iN;unfold Z3 at h;by_cases h1:u.x=0 <;> by_cases h2:u.y=0 <;> by_cases h3:u.z=0 <;> simp[h1,h2,h3] at h ⊢
theorem aiD{u:P3}(h:Z3 u):¬iN u<3:=by
 obtain⟨h1,h2,h3⟩:=h;simp[iN,h1,h2,h3]
theorem aiE{a b:Int}:aY a*aY b≤0↔a*b≤0:=by
 unfold aY;rcases oc a 0 with ha | ha | ha <;> rcases oc b 0 with hb | hb | hb
 · have:=Int.mul_pos_of_neg_of_neg ha hb
   simp[ha,hb];omega
 · simp[hb]
 · have:=Int.mul_neg_of_neg_of_pos ha hb
   have:¬b<0:=by omega
   simp[ha,hb,this];omega
 · simp[ha]
 · simp[ha]
 · simp[ha]
 · have:=Int.mul_neg_of_pos_of_neg ha hb
   have:¬a<0:=by omega
   simp[ha,hb,this];omega
 · simp[hb]
 · have:=Int.mul_pos ha hb
   have:¬a<0:=by omega
   have:¬b<0:=by omega
   simp[*]
def lF(p q r s:P3):T3:=if mK p q=nL p q then ⟨mK r s,nL r s,mK p q⟩ else ⟨mK p q,nL p q,mK r s⟩
theorem Hz{p q:P3}(hp:I3 p)(hq:I3 q):I3 (mK p q)∧I3 (nL p q):=by
 unfold mK nL;split
 · exact⟨hq,hp⟩
 · exact⟨hp,hq⟩
instance {p q r s:P3}[hp:I3 p][hq:I3 q][hr:I3 r][hs:I3 s]:IT (lF p q r s):=by
 unfold lF;split
 · exact⟨(Hz hr hs).1,(Hz hr hs).2,(Hz hp hq).1⟩
 · exact⟨(Hz hp hq).1,(Hz hp hq).2,(Hz hr hs).1⟩
theorem aiF{p q r s:P3}(h:(mK p q).x=(nL p q).x∧(mK p q).y=(nL p q).y∧(mK p q).z=(nL p q).z):lF p q r s=⟨mK r s,nL r s,mK p q⟩:=if_pos (P3.eq h.1 h.2.1 h.2.2)
theorem aiG{p q r s:P3}(h:¬((mK p q).x=(nL p q).x∧(mK p q).y=(nL p q).y∧(mK p q).z=(nL p q).z)):lF p q r s=⟨mK p q,nL p q,mK r s⟩:=if_neg fun e=>h (by rw[e];exact⟨rfl,rfl,rfl⟩)
theorem amc(u:P3):iN u≤3:=by
 unfold iN;split
 · omega
 · split
   · omega
   · split <;> omega
theorem amd{p q r s:P3}(h:Z3 (tX p q r s)):(fE (lF p q r s) && !decide ((nL p q).Lt (mK r s)) && !decide ((nL r s).Lt (mK p q)))=eF p q r s:=by
 unfold eF;rw[if_neg (aiD h)];unfold ao2
 congr 2
 unfold lF fE ahe;split
 · refine decide_eq_decide.2 ?_
   have:=amc (dG (mK r s) (nL r s) (mK p q));simp only;omega
 · refine decide_eq_decide.2 ?_
   have:=amc (dG (mK p q) (nL p q) (mK r s));simp only;omega
theorem ad6{p q r s:P3}(h:¬Z3 (tX p q r s)):(decide (aY (mG p q r s)=0)&&decide (aY (dF (dG p q r) (iN (tX p q r s)))*aY (dF (dG p q s) (iN (tX p q r s)))≤0)&&decide (aY (dF (dG r s p) (iN (tX p q r s)))*aY (dF (dG r s q) (iN (tX p q r s)))≤0))=eF p q r s:=by
 unfold eF;rw[if_pos (yE h).2];simp only[aiE,cD]
theorem Nc{p q r s:P3}[I3 p][I3 q][I3 r][I3 s]:dL prog 306 [pt p,pt q,pt r,pt s] (.bool (eF p q r s)):=by
 intro w;refine⟨aos,?_⟩;have m:=Mem.refl w
 go_enter func306,ntmps306
 refine eC 13 [3,2,1] m ?_;simp only[↓aD,aO];intro g1 g2 g3 g4;intro u m;refine cP 1 [0,0] m ?_;simp only[↓aD,aO];intro u m;refine lJ m rfl rfl (qX (a:=p) (b:=q) (c:=r) (d:=s)) ?_;clear m;intro u m;simp only[zz];refine mW m rfl rfl (ad2 (u:=tX p q r s)) 5 [0] ?_;simp only[↓aD,ate,dU,aa];intro g5;intro u m;by_cases hf:Z3 (tX p q r s)
 · skip
   rw[aiC hf] at m;refine cP 10 [0,2,4,3,0] m ?_;simp only[↓aD,dU,aO];refine⟨by omega,?_⟩;intro u m;refine mW m rfl rfl (wN (p:=p) (q:=q)) 10 [4,3,2,1,0] ?_;simp only[↓aD,aO,aa];intro u m;refine mW m rfl rfl (wN (p:=r) (q:=s)) 12 [2,1,4,3,2] ?_;simp only[↓aD,aO,rL,aa];intro u m;refine cP 8 [0,5,4,0] m ?_;simp only[↓aD,kX,dQ,aO,aa];intro g6;intro u m;refine aC (bW rfl rfl) (aS 1 [0] m ?_);simp only[↓aD];intro u m;refine kU m 0 [] [62,63,64,65] (fun vs i=>vs=[]∧i=bI g6 [.int .i64 (lF p q r s).a.x,.int .i64 (lF p q r s).a.y,.int .i64 (lF p q r s).a.z,.int .i64 (lF p q r s).b.x,.int .i64 (lF p q r s).b.y,.int .i64 (lF p q r s).b.z,.int .i64 (lF p q r s).c.x,.int .i64 (lF p q r s).c.y,.int .i64 (lF p q r s).c.z] 39) ?_ ?_
   · intro K1 hK1
     refine bG rfl (fun hc2=>?_) (fun hc2=>?_)
     · skip
       refine aW 6 [3,2,5,0] m ?_;simp only[↓aD,aO,rL,dQ,aa];intro u m;refine cP 1 [0] m ?_;simp only[↓aD];intro u m;refine hK1 _ _ _ ?_ m ?_
       · simp only[zz,zv]
       · simp only[zQ,zR,zD,zE]
         exact⟨trivial,by rw[aiF hc2] <;> rfl⟩
     · skip
       refine aW 1 [0] m ?_;simp only[↓aD];intro u m;refine hK1 _ _ _ ?_ m ?_
       · simp only[zz,zv]
       · simp only[zQ,zR,zD,zE]
         exact⟨trivial,by rw[aiG hc2] <;> rfl⟩
   · intro vs i wr m hI u
     obtain⟨rfl,rfl⟩:=hI;simp only[zF,zG] at m;simp only[zu,zF,zG];refine cP 3 [0,0] m ?_;simp only[↓aD,dQ];intro u m;refine mW m rfl rfl (Xk (t:=lF p q r s)) 1 [0] ?_;simp only[↓aD];intro u m;refine gV rfl (fun hb=>aU rfl ((m.b 4 rfl).full aG aA)) (gV rfl (fun hb=>aU rfl ((m.b 3 rfl).full aG aA)) (adB m rfl rfl (fun hb=>by simp only[cz,bi,ck,zA,zB,zC,zD,zE,hb,iT];rfl) (fun hb=>(sX (p:=nL p q) (q:=mK r s)).pure) ?_));clear m;intro u m;refine cS rfl (fun hb=>nM (aV hb rfl)) (aC (bU rfl rfl rfl) ?_);refine aS 1 [0] m ?_;simp only[↓aD];intro u m;refine gV rfl (fun hb=>aU rfl ((m.b 2 rfl).full aG aA)) (gV rfl (fun hb=>aU rfl ((m.b 5 rfl).full aG aA)) (adB m rfl rfl (fun hb=>by simp only[cz,bi,ck,zA,zB,zC,zD,zE,hb,iT];rfl) (fun hb=>(sX (p:=nL r s) (q:=mK p q)).pure) ?_));clear m;intro u m;refine cS rfl (fun hb=>nM (aV hb rfl)) (aC (bU rfl rfl rfl) ?_);refine aS 3 [] m ?_;simp only[↓aD];intro u m;refine aR rfl rfl ?_;try simp only[zD,zE]
     exact⟨_,rfl,m.ext,by rw[Fh,amd hf]⟩
 · skip
   rw[aiB hf,(yE hf).1] at m;refine cP 7 [0,1,0] m ?_;simp only[↓aD,dU];refine⟨by omega,?_⟩;intro u m;refine aC fO ?_;simp only[zz,fk,bi,ck];refine aS 8 [4,3,2,1,0] m ?_;simp only[↓aD,aO];intro u m;refine mW m rfl rfl (uI (a:=p) (b:=q) (c:=r) (d:=s)) 2 [0,0] ?_;simp only[↓aD];intro u m;refine cS rfl (fun hb=>aH) ?_;simp only[zz];refine gV rfl (fun hb=>aU rfl ((m.b 4 rfl).full aG aA)) (gV rfl (fun hb=>aU rfl ((m.b 3 rfl).full aG aA)) (gV rfl (fun hb=>aU rfl ((m.b 2 rfl).full aG aA)) (gV rfl (fun hb=>aU rfl ((m.b 1 rfl).full aG aA)) (ad5 m rfl (fun hb=>aV hb rfl) (fun hb=>by simp only[cz,bi,ck,zA,zB,zC,zD,zE,hb,iT];rfl) (fun hb=>aaP (a:=p) (b:=q) (c:=r) (d:=s) (k:=iN (tX p q r s)) _ (m.b 0 rfl) (yE hf).2) ?_))));clear m;intro u m;refine aC (bU rfl rfl rfl) (aS 1 [0] m ?_);simp only[↓aD];intro u m;refine cS rfl (fun hb=>aH) ?_;simp only[zz];refine gV rfl (fun hb=>aU rfl ((m.b 2 rfl).full aG aA)) (gV rfl (fun hb=>aU rfl ((m.b 1 rfl).full aG aA)) (gV rfl (fun hb=>aU rfl ((m.b 4 rfl).full aG aA)) (gV rfl (fun hb=>aU rfl ((m.b 3 rfl).full aG aA)) (ad5 m rfl (fun hb=>aV hb rfl) (fun hb=>by simp only[cz,bi,ck,zA,zB,zC,zD,zE,hb,iT];rfl) (fun hb=>aaP (a:=r) (b:=s) (c:=p) (d:=q) (k:=iN (tX p q r s)) _ (m.b 0 rfl) (yE hf).2) ?_))));clear m;intro u m;refine aC (bU rfl rfl rfl) (aS 3 [] m ?_);simp only[↓aD];intro u m;refine aR rfl rfl ?_;try simp only[zD,zE]
   exact⟨_,rfl,m.ext,by rw[←ad6 hf];rfl⟩
theorem ati{v:P3}(h:aY v.x≠0):iN v=0:=if_pos fun e=>h (cD.2 e)
theorem atj{v:P3}(e:¬aY v.x≠0)(h:aY v.y≠0):iN v=1:=by
 have e1:=cD.1 (Classical.not_not.1 e);unfold iN;rw[if_neg (fun k=>k e1),if_pos fun e=>h (cD.2 e)]
theorem atk{v:P3}(e:¬aY v.x≠0)(f:¬aY v.y≠0)(h:aY v.z≠0):iN v=2:=by
 have e1:=cD.1 (Classical.not_not.1 e);have e2:=cD.1 (Classical.not_not.1 f);unfold iN;rw[if_neg (fun k=>k e1),if_neg (fun k=>k e2),if_pos fun e=>h (cD.2 e)]
theorem atl{v:P3}(e:¬aY v.x≠0)(f:¬aY v.y≠0)(h:¬aY v.z≠0):iN v=3:=by
 have e1:=cD.1 (Classical.not_not.1 e);have e2:=cD.1 (Classical.not_not.1 f);have e3:=cD.1 (Classical.not_not.1 h);unfold iN;rw[if_neg (fun k=>k e1),if_neg (fun k=>k e2),if_neg (fun k=>k e3)]
theorem tA{t:T3}:decide (aY t.normal.x=0∧aY t.normal.y=0∧aY t.normal.z=0)=fE t:=by
 unfold fE;refine decide_eq_decide.2 ?_;simp only[cD];show _↔¬iN t.normal<3
 unfold iN;constructor
 · rintro⟨h1,h2,h3⟩;simp[h1,h2,h3]
 · intro h
   by_cases h1:t.normal.x=0 <;> by_cases h2:t.normal.y=0 <;> by_cases h3:t.normal.z=0 <;> simp[h1,h2,h3] at h ⊢
theorem ast{w:aj}{g:Nat}{T:an}{a b:P3}(hB:fK w g [.int .i64 a.x,.int .i64 a.y,.int .i64 a.z,.int .i64 b.x,.int .i64 b.y,.int .i64 b.z] T):Dg bN 3 w (some ⟨g,0,none⟩) 2 [a,b] :=
 ⟨rfl,fun i x hi=>⟨_,rfl,by
  rw[gZ,ar]
  match i,hi with
  | 0,h=>cases h;exact mB.pre (ys:=kN b) (hB.row 0)
  | 1,h=>cases h;exact hB.row 3⟩⟩
theorem ad7{p q:P3}{g cap:Nat}(w:aj)(hL:Dg bN 3 w (some ⟨g,0,none⟩) 2 [p,q]):dJ prog 203 [.slice (some ⟨g,0,none⟩) 2 cap] w fun v _=>v=.tuple #[pt (mK p q),pt (nL p q)]:=Vd (x:=p) (xs:=[q]) w hL (by decide)
theorem Ve{v:P3}:dL prog 285 [sg v] (.int .i64 ((iN v:Nat):Int)):=by
 intro w;refine⟨aog,?_⟩;have m:=Mem.refl w
 go_enter func285,ntmps285
 refine eC 30 [4,1,0,0,0] m ?_;simp only[↓aD,fU,dU,ad,ag,aa];intro g1;refine⟨by omega,?_⟩;intro u m;refine bG rfl (fun hc2=>?_) (fun hc2=>?_)
 · skip
   have h0:=hc2;refine aW 6 [] m ?_;simp only[↓aD];intro u m;refine aR rfl rfl ?_;try simp only[zD,zE]
   exact⟨_,rfl,m.ext,by rw[ati h0];rfl⟩
 · skip
   have h0:=hc2;refine aW 25 [1,0,0,0] m ?_;simp only[↓aD,fU,dU,ak,ad,ag,aa];refine⟨by omega,?_⟩;intro u m;refine bG rfl (fun hc2=>?_) (fun hc2=>?_)
   · skip
     have h1:=hc2;refine aW 6 [] m ?_;simp only[↓aD];intro u m;refine aR rfl rfl ?_;try simp only[zD,zE]
     exact⟨_,rfl,m.ext,by rw[atj h0 h1];rfl⟩
   · skip
     have h1:=hc2;refine aW 25 [1,0,0,0] m ?_;simp only[↓aD,fU,dU,ak,ad,ag,aa];refine⟨by omega,?_⟩;intro u m;refine bG rfl (fun hc2=>?_) (fun hc2=>?_)
     · skip
       have h2:=hc2;refine aW 6 [] m ?_;simp only[↓aD];intro u m;refine aR rfl rfl ?_;try simp only[zD,zE]
       exact⟨_,rfl,m.ext,by rw[atk h0 h1 h2];rfl⟩
     · skip
       have h2:=hc2;refine aW 21 [2] m ?_;simp only[↓aD,ak];refine⟨by omega,?_⟩;intro u m;refine aR rfl rfl ?_;try simp only[zD,zE]
       exact⟨_,rfl,m.ext,by rw[atl h0 h1 h2];rfl⟩
theorem yF{p q r s:P3}[I3 p][I3 q][I3 r][I3 s]:dL prog 204 [pt p,pt q,pt r,pt s] (.bool (eF p q r s)):=by
 intro w;refine⟨anE,?_⟩;have m:=Mem.refl w
 go_enter func204,ntmps204
 refine eC 8 [] m ?_;simp only[↓aD];intro g1 g2 g3 g4;intro u m;refine cP 6 [3,2,1,0,0] m ?_;simp only[↓aD,aO];intro u m;refine lJ m rfl rfl (Qr (a:=p) (b:=q) (c:=r) (d:=s)) ?_;clear m;intro u m;simp only[zz];refine mW m rfl rfl (Ve (v:=tX p q r s)) 4 [] ?_;simp only[↓aD];intro u m;by_cases hf:Z3 (tX p q r s)
 · skip
   have hax:=aiD hf;refine cP 10 [2,3,2,0] m ?_;simp only[↓aD,aO];refine⟨by omega,?_⟩;intro u m;refine Ut rfl rfl ?_;intro u g5 e hg hB;replace m:=m.newB e hg hB;clear e hg hB;simp only[zz];refine cU m rfl rfl (ad7 (p:=p) (q:=q) _ (ast (m.b 0 rfl))) ?_;clear m;rintro v u m rfl;refine aS 8 [1,0] m ?_;simp only[↓aD,eY,aO,aa];intro g6 g7;intro u m;refine cP 4 [4,3,0] m ?_;simp only[↓aD,aO];intro u m;refine Ut rfl rfl ?_;intro u g8 e hg hB;replace m:=m.newB e hg hB;clear e hg hB;simp only[zz];refine cU m rfl rfl (ad7 (p:=r) (q:=s) _ (ast (m.b 0 rfl))) ?_;clear m;rintro v u m rfl;refine aS 8 [1,0] m ?_;simp only[↓aD,eY,aO,aa];intro g9 g10;intro u m;refine cP 6 [4,3,1] m ?_;simp only[↓aD,aO,rL,aa];intro u m;refine cP 6 [0] m ?_;simp only[↓aD,kX,dQ,aa];intro g11;intro u m;refine cP 2 [5,4,0] m ?_;simp only[↓aD,aO];intro u m;refine aC (bW rfl rfl) (aS 1 [0] m ?_);simp only[↓aD];intro u m;refine kU m 0 [] [89,90,91,92] (fun vs i=>vs=[]∧i=bI g11 [.int .i64 (lF p q r s).a.x,.int .i64 (lF p q r s).a.y,.int .i64 (lF p q r s).a.z,.int .i64 (lF p q r s).b.x,.int .i64 (lF p q r s).b.y,.int .i64 (lF p q r s).b.z,.int .i64 (lF p q r s).c.x,.int .i64 (lF p q r s).c.y,.int .i64 (lF p q r s).c.z] 39) ?_ ?_
   · intro K1 hK1
     refine bG rfl (fun hc2=>?_) (fun hc2=>?_)
     · skip
       refine aW 5 [2,1,5] m ?_;simp only[↓aD,aO,rL,aa];intro u m;refine cP 2 [0,0] m ?_;simp only[↓aD,dQ,aa];intro u m;refine hK1 _ _ _ ?_ m ?_
       · simp only[zz,zv]
       · simp only[zQ,zR,zD,zE]
         exact⟨trivial,by rw[aiF hc2] <;> rfl⟩
     · skip
       refine aW 1 [0] m ?_;simp only[↓aD];intro u m;refine hK1 _ _ _ ?_ m ?_
       · simp only[zz,zv]
       · simp only[zQ,zR,zD,zE]
         exact⟨trivial,by rw[aiG hc2] <;> rfl⟩
   · intro vs i wr m hI u
     obtain⟨rfl,rfl⟩:=hI;simp only[zF,zG] at m;simp only[zu,zF,zG];refine cP 3 [0,0] m ?_;simp only[↓aD,dQ];intro u m;refine mW m rfl rfl (Ho (t:=lF p q r s)) 6 [4,2,0] ?_;simp only[↓aD,aO];intro u m;refine mW m rfl rfl (mZ (p:=nL p q) (q:=mK r s)) 6 [1,5,0] ?_;simp only[↓aD,aO];intro u m;refine mW m rfl rfl (mZ (p:=nL r s) (q:=mK p q)) 6 [0] ?_;simp only[↓aD];intro u m;refine cS rfl (fun hb=>aH) (cS rfl (fun hb=>nM (aV hb rfl)) (aC (bU rfl rfl rfl) ?_));refine aS 1 [0] m ?_;simp only[↓aD];intro u m;refine cS rfl (fun hb=>aH) (cS rfl (fun hb=>nM (aV hb rfl)) (aC (bU rfl rfl rfl) ?_));refine aS 3 [] m ?_;simp only[↓aD];intro u m;refine aR rfl rfl ?_;try simp only[zD,zE]
     exact⟨_,rfl,m.ext,by rw[tA,amd hf]⟩
 · skip
   have hax:=(yE hf).2;refine cP 6 [1,0] m ?_;simp only[↓aD];refine⟨by omega,?_⟩;intro u m;refine mq m aB (by kernel_rfl) (eM 3 [3,2,1] ?_);simp only[↓aD,aO];refine eR rfl rfl (gY (a:=p) (b:=q) (c:=r)) (aJ aH (aJ ((lS (v:=dG p q r) hax rfl rfl)) ?_));refine eM 3 [3,2,0] ?_;simp only[↓aD,aO];refine eR rfl rfl (gY (a:=p) (b:=q) (c:=s)) (aJ aH (aJ ((lS (v:=dG p q s) hax rfl rfl)) (aJ (lB rfl rfl (wO _ _)) ?_)));simp only[zz];refine aJ aM (bD ?_);clear m;intro u m;refine cP 1 [0] m ?_;simp only[↓aD];intro u m;refine mq m aB (by kernel_rfl) (eM 3 [1,0,3] ?_);simp only[↓aD,aO];refine eR rfl rfl (gY (a:=r) (b:=s) (c:=p)) (aJ aH (aJ ((lS (v:=dG r s p) hax rfl rfl)) ?_));refine eM 3 [1,0,2] ?_;simp only[↓aD,aO];refine eR rfl rfl (gY (a:=r) (b:=s) (c:=q)) (aJ aH (aJ ((lS (v:=dG r s q) hax rfl rfl)) (aJ (lB rfl rfl (wO _ _)) ?_)));simp only[zz];refine aJ aM (bD ?_);clear m;intro u m;refine cP 6 [3,2,1,0,0] m ?_;simp only[↓aD,aO];intro u m;refine mW m rfl rfl (mU (a:=p) (b:=q) (c:=r) (d:=s)) 2 [0,0] ?_;simp only[↓aD];intro u m;refine cS rfl (fun hb=>aH) (cS rfl (fun hb=>Do (aV hb rfl) rfl) (aC (bU rfl rfl rfl) ?_));refine aS 1 [0] m ?_;simp only[↓aD];intro u m;refine cS rfl (fun hb=>aH) (cS rfl (fun hb=>Do (aV hb rfl) rfl) (aC (bU rfl rfl rfl) ?_));refine aS 3 [] m ?_;simp only[↓aD];intro u m;refine aR rfl rfl ?_;try simp only[zD,zE]
   exact⟨_,rfl,m.ext,by rw[←ad6 hf]⟩
end Go.Proofs.YtfekpcimgncioaaGreatDoor
namespace Go.Proofs.YtfekpcimgncioaaGreatDoor
open Go.Proofs.Tryz
open Go.RowKit Go.Lith
section
variable {w0 w:aj} {is:List It}
def dI(D:Nat)(o:Obj):It where
 own b:=some D=some b
 P w:=w.heap[D]? = some o
 lt w b h e:=by cases e;exact (Array.getElem?_eq_some_iff.1 h).1
 st w w' h _ k:=(k D rfl).trans h
theorem _root_.Go.Lith.Mem.putD{D:Nat}{o o':Obj}(m:Mem w0 w is)(k:Nat)(hk:is[k]? = some (dI D o)):Mem w0 (w.putObj D o') (is.set k (dI D o')):=by
 have hl:D<w.heap.size:=(dI D o).lt w D (m.get k hk) rfl;refine m.put k hk rfl rfl rfl (by show _≤(w.heap.setIfInBounds D o').size;simp) (fun b _ hne=>World.putObj_heap_other (fun e=>hne (by rw[e];rfl))) ?_ (.inl fun _ h=>h);show (w.heap.setIfInBounds D o')[D]? = some o'
 simp[hl]
theorem _root_.Go.Lith.Mem.addD{D:Nat}{x:Option (List cn)}(m:Mem w0 w is)(hA:ak8 is)(h:w.heap[D]? = some (.deferred x))(hge:w0.heap.size≤D):Mem w0 w (dI D (.deferred x)::is):=by
 refine⟨m.ext,fun i hi=>?_,fun i hi b hb=>?_,bm.2 ⟨fun j hj b h1 h2=>?_,m.nd⟩⟩
 · rcases ao.1 hi with rfl | hi
   · exact h
   · exact m.all i hi
 · rcases ao.1 hi with rfl | hi
   · cases hb;exact hge
   · exact m.ge i hi b hb
 · obtain⟨g,cs,t,rfl⟩:=hA j hj
   cases h1;cases h2;have hB:w.heap[D]? = some (.cells cs.toArray t (0,0)):=m.all _ hj;rw[h] at hB;cases hB
theorem ame{P:bh}{l:List ah}{n:Nat}{fn:Func}{R:Ending→aj→Prop}{w:aj}(h:bodyPost P fn R .ret (Fr l) w):bodyPostM Fence.wide n P fn R .ret (Fr l) w:=by
 obtain⟨_,v,hv,hR⟩:=h;exact⟨v,hv,hR⟩
theorem aaQ{W u:aj}{Bs:Nat}{cs:List ah}{t:an}(rx:RX W u)(h1:fK W Bs cs t)(h2:fK u Bs cs t):mS 0 Bs W u :=
 ⟨⟨rx.os,rx.tape,rx.output,rx.ko.size,fun k hk=>absurd hk (iw _)⟩,(show u.heap[Bs]? = _ from h2).trans (show W.heap[Bs]? = _ from h1).symm⟩
theorem aiH{g k:Nat}{c1 c2:List ah}{T1 T2:an}(m:Mem w0 w is)(h1:fK w g c1 T1)(h2:fK w k c2 T2)(hgk:k≠g)(hg:∀o∈is.map (·.own),¬o g)(hk:∀o∈is.map (·.own),¬o k)(eg:w0.heap.size≤g)(ek:w0.heap.size≤k):Mem w0 w (bI k c2 T2::bI g c1 T1::is):=by
 refine⟨m.ext,fun i hi=>?_,fun i hi b hb=>?_,bm.2 ⟨fun j hj b e1 e2=>?_,bm.2 ⟨fun j hj b e1 e2=>?_,m.nd⟩⟩⟩
 · rcases ao.1 hi with rfl | hi
   · exact h2
   · rcases ao.1 hi with rfl | hi
     · exact h1
     · exact m.all i hi
 · rcases ao.1 hi with rfl | hi
   · cases hb;exact ek
   · rcases ao.1 hi with rfl | hi
     · cases hb;exact eg
     · exact m.ge i hi b hb
 · cases e1
   rcases ao.1 hj with rfl | hj
   · cases e2;exact hgk rfl
   · exact hk _ (eu hj) e2
 · cases e1
   exact hg _ (eu hj) e2
theorem aiI{g k:Nat}{c1 c2:List ah}{T1 T2:an}(m:Mem w0 w (bI k c2 T2::bI g c1 T1::is)):k≠g∧(∀o∈is.map (·.own),¬o g)∧(∀o∈is.map (·.own),¬o k)∧w0.heap.size≤g∧w0.heap.size≤k:=by
 obtain⟨h1,h2⟩:=bm.1 m.nd;obtain⟨h3,_⟩:=bm.1 h2;refine⟨fun e=>h1 _ bq k rfl (by rw[e];rfl),fun o ho h=>?_,fun o ho h=>?_,m.ge _ (bp _ bq) g rfl,m.ge _ bq k rfl⟩
 · obtain⟨i,hi,rfl⟩:=df.1 ho
   exact h3 i hi g rfl h
 · obtain⟨i,hi,rfl⟩:=df.1 ho
   exact h1 i (bp _ hi) k rfl h
theorem aaR{α:Type}{L:List ah}{go:bg}{gf Bs N q1 q2 d1 d2:Nat}{assign body:Code}{Q:Exit→Act→aj→Prop}{P:bh}{S Sp:List α→Prop}{v1 v2:α→ah}{c1 c2:α→List ah}{T1 T2 tB:an}{csB:List ah}
 (hf:ev L go=.func (.func gf) #[] #[.pointer (some ⟨Bs,0,none⟩)]) (he:Lith.Entr P gf) (hseq:SeqStopsK Fence.wide 3 P gf #[.pointer (some ⟨Bs,0,none⟩)] (fun x=>#[v1 x,v2 x]) (mS 0 Bs) S Sp N w)
 (I Ir:List α→List It) (J Jr:List α→Prop) (hA:∀pre,ak8 (I pre)) (hAr:∀pre,ak8 (Ir pre)) (hid:∀pre,(I pre).map (·.own)=(I []).map (·.own)) (hBs:∀pre,bI Bs csB tB∈I pre)
 (m:Mem w0 w (I [])) (hJ:J [])
 (hassign:∀(r:Nat) (pre:List α) (x:α) (W:aj) (K:Act→aj→Prop),lA W w0 W (I pre)→(∀g k u,lA W w0 u (bI k (c2 x) T2::bI g (c1 x) T1::I pre)→K (Fr ((((L.set q1 (v1 x)).set q2 (v2 x)).set d1 (.pointer (some ⟨g,0,none⟩))).set d2 (.pointer (some ⟨k,0,none⟩)))) u) →
  assign.wpIn (Fence.wide.inRound r) 2 P (Exit.then K (fun _ _ _=>False)) (Fr ((L.set q1 (v1 x)).set q2 (v2 x))) W)
 (hbody:∀(r:Nat) (pre:List α) (x:α) (g k:Nat) (W:aj) (Q':Exit→Act→aj→Prop) [Eh Q'],J pre→pre.length<N→lA W w0 W (bI k (c2 x) T2::bI g (c1 x) T1::I pre) →
  (∀a u,lA W w0 u (I (pre++[x]))→J (pre++[x])→Q' .normal a u)→(∀a u,lA W w0 u (Ir (pre++[x]))→Jr (pre++[x])→Q' .ret a u) →
  body.wpIn (Fence.wide.inRound r) 2 P Q' (Fr ((((L.set q1 (v1 x)).set q2 (v2 x)).set d1 (.pointer (some ⟨g,0,none⟩))).set d2 (.pointer (some ⟨k,0,none⟩)))) W)
 (hdone:∀(D:Nat) (xs:List α) (u:aj),S xs→J xs→Mem w0 u (dI D (.deferred (some []))::I xs)→Q .normal (Fr L [{ target:=.collected D,args:=#[] }]) u)
 (hstop:∀(D:Nat) (pre:List α) (u:aj),Sp pre→Jr pre→Mem w0 u (dI D (.deferred (some []))::Ir pre)→Q .ret (Fr L [{ target:=.collected D,args:=#[] }]) u) :
 (Code.rangeFunc go #[q1,q2] assign body).wp P Q (Fr L) w:=by
 refine (wpIn_wide (n:=4)).1 ?_;have hsz:=m.ext.size;refine wpIn_rangeFunc_ownH (F:=Fence.wide) rfl (by omega) (gf:=gf) (lb:=#[.pointer (some ⟨Bs,0,none⟩)]) (by rw[cJ];exact hf) trivial (fun args u=>sL he) hseq mS.trans
  (fun W l o o' hl ho hc _=>⟨⟨rfl,rfl,rfl,by show _≤(W.heap.setIfInBounds l o').size;simp,fun k hk=>absurd hk (iw _)⟩,World.putObj_heap_other (fun e=>by
   have hb:=(m.all _ (hBs [])).lt;omega)⟩) (Below.refl _ _) (fun _=>rfl)
  (fun pre W=>Mem w0 W (I pre)∧J pre) (fun c pre W=>Mem w0 W (Ir pre)∧(c=.ret∧Jr pre))
  (OwnFrom.and (ad1 I hA hsz) (ownFrom_pure _ J)) (fun c=>OwnFrom.and (ad1 Ir hAr hsz) (ownFrom_pure _ _)) ⟨m,hJ⟩
  (fun x a' W=>∃g k,a'=Fr ((((L.set q1 (v1 x)).set q2 (v2 x)).set d1 (.pointer (some ⟨g,0,none⟩))).set d2 (.pointer (some ⟨k,0,none⟩)))∧fK W g (c1 x) T1∧fK W k (c2 x) T2∧k≠g∧(∀o∈(I []).map (·.own),¬o g)∧(∀o∈(I []).map (·.own),¬o k)∧w0.heap.size≤g∧w0.heap.size≤k)
  (fun x a' _ X Y row hs hg hr=>by
   obtain⟨g,k,e,h1,h2,h3⟩:=hs;exact⟨g,k,e,Nb (β:=Unit) _ (fun _=>g) (fun _=>c1 x) T1 () X Y row h1 hg hr,Nb (β:=Unit) _ (fun _=>k) (fun _=>c2 x) T2 () X Y row h2 hg hr,h3⟩)
  ?_ ?_ ?_ ?_
 · intro r pre x W K hI hK
   have e:((#[q1,q2].zip #[v1 x,v2 x]).foldl (fun t (y:Tmp × ah)=>t.setIfInBounds y.1 y.2) (Fr L).tmps)=((L.set q1 (v1 x)).set q2 (v2 x)).toArray:=by simp
   have:=hassign r pre x W K (lA.start hI.1) (fun g k u hm=>?_)
   · simp only at this ⊢
     rw[e];exact this
   · have hp:=aiI hm.toMem
     rw[hid pre] at hp;have hI2:Mem w0 u (I pre):=hm.toMem.tl.tl;exact hK _ _ (hm.rx.ko.from _) (aaQ hm.rx (hI.1.all _ (hBs pre)) (hI2.all _ (hBs pre))) ⟨hI2,hI.2⟩ ⟨g,k,rfl,hm.all _ (bp _ bq),hm.all _ bq,hp⟩
 · rintro r pre x a' W _ _ ⟨hI,hJp⟩ ⟨g,k,rfl,h1,h2,h3,h4,h5,h6,h7⟩ hN
   rw[←hid pre] at h4 h5;refine hbody r pre x g k W _ hJp hN (lA.start (aiH hI h1 h2 h3 h4 h5 h6 h7)) (fun a u hm hj=>?_) (fun a u hm hj=>?_)
   · exact⟨hm.rx.ko.from _,aaQ hm.rx (hI.all _ (hBs pre)) (hm.all _ (hBs _)),hm.toMem,hj⟩
   · exact⟨hm.rx.ko.from _,hm.toMem,rfl,hj⟩
 · rintro D xs W hD hS ⟨hI,hj⟩ hd
   exact hdone D xs W hS hj (Lith.Mem.addD hI (hA xs) hd (Nat.le_trans hsz hD))
 · rintro D c pre W hD hsp ⟨hI,rfl,hj⟩ hd
   exact wpIn_ret (hstop D pre W hsp hj (Lith.Mem.addD hI (hAr pre) hd (Nat.le_trans hsz hD)))
end
end Go.Proofs.YtfekpcimgncioaaGreatDoor
