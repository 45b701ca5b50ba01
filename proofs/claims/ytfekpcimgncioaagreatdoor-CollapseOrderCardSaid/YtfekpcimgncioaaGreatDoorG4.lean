/-
 Texts of one claim, laid together: Ci, Ck, Cl, Wp, Cm, Cn, Co, Cp, K32, K33, Cr, K53, K54, K55, K56, K70, Cs, Ct, Cu, Cv, Cw, K71, K72.
-/
import Derived.Test.YtfekpcimgncioaaGreatDoorG3
open Nat renaming reduceAdd→aa,reduceMul→ah,le_refl→ao,zero_le→cq,mod_lt→fw,gcd→qq
open Int renaming reduceToNat→ad,toNat_natCast→ag,reduceAdd→am,fdiv_eq_ediv_of_nonneg→il,add_zero→iy,natCast_mul→ju,toNat→ku,add_assoc→qi
open Go renaming World→aj
open List renaming getElem?_eq_getElem→ak,mem_cons→an,getElem?_eq_some_iff→ap,flatMap_append→aw,length_cons→ay,mem_singleton→az,length_append→a_,length_map→bf,mem_cons_of_mem→bg,mem_cons_self→bh,take_of_length_le→bi,mem_of_getElem?→bj,map_cons→bp,mem_append→br,pairwise_cons→bu,flatMap_cons→b_,map_append→ct,mem_map→cw,range→c_,replicate→db,all_eq_true→df,mem_filter→dh,mem_flatMap→dl,getElem?_map→eh,getD_eq_getElem?_getD→ej,filter_cons→fc,mem_range→fe,nodup_cons→f_,foldl_append→gl,range_succ→gw,map_congr_left→ik,map_map→jb,mem_singleton_self→ji,pairwise_map→jn,nodup_nil→jo,filter_sublist→jt,getElem_map→j_,flatMap_map→lx,length_range→oc,filter_congr→od,length_singleton→oe,map_flatMap→om,getElem_range→pd,Nodup→pg
open Bool renaming and_eq_true→ba,not_true→ff,not_false→fh,false_ne_true→fz,or_eq_true→gg,not_eq_true'→gi,and_eq_true_iff→jh
open BitVec renaming ofInt→el
open Option.some renaming inj→ep
open Prod.mk renaming injEq→fk
open Go.Value renaming int→ln
open List.Pairwise renaming imp→oa
set_option maxHeartbeats 8000000
set_option linter.unusedSimpArgs false
set_option linter.unusedVariables false
set_option linter.unusedSectionVars false
namespace Go.Lith
open Go.RowKit
variable{u x:P3}{l us ts s:List T3}{f:P3→P3}{D:List Mv}{m:Mv}{t:T3}{want:Int}
structure eO(us:List T3)(u v c1 c2:P3):Prop where
 dg:tG us
 nd:(aQ us).Nodup
 pin:∀p,nY (Nx us p)
 ne:u≠v
 int:∀x,(∃y,Nx us u x y)↔∃y,Nx us x u y
 h1:Nx us u v c1
 h2:Nx us v u c2
 hc:c1≠c2
 com:∀b,b≠v→b≠u→mN us u b=true→mN us v b=true→b=c1∨b=c2
theorem afj{v:P3}(h:jW u v x≠v):jW u v x=x:=by
 unfold jW at h ⊢;split
 · rename_i e;rw[if_pos e] at h;exact absurd rfl h
 · rfl
theorem aar{v y:P3}(hy:y≠v)(h:jW u v x=y):x=y:=(afj (h▸hy)).symm.trans h
theorem aas{v:P3}(hne:u≠v)(x:P3):jW u v x≠u:=by
 unfold jW;split
 · exact Ne.symm hne
 · rename_i h;exact h
theorem adW{v:P3}(h:jW u v x=v):x=u∨x=v:=by
 unfold jW at h;split at h
 · exact .inl (by assumption)
 · exact .inr h
section
variable {us:List T3} {u v c1 c2:P3}
theorem eO.fn(_c:eO us u v c1 c2){a b x y:P3}(h:Nx us a b x)(k:Nx us a b y):x=y:=vJ _c.nd h k
theorem eO.inj(c:eO us u v c1 c2){a b x y:P3}(h:Nx us a x b)(k:Nx us a y b):x=y:=c.fn (mS (mS h)) (mS (mS k))
theorem eO.d1(c:eO us u v c1 c2):∃d,Nx us u c1 d∧d≠v∧d≠u:=by
 obtain⟨d,hd⟩:=(c.int c1).2 ⟨v,mS (mS c.h1)⟩;exact⟨d,hd,fun e=>c.hc (c.fn (mS (mS (e▸hd))) c.h2),(jI c.dg hd).2.2⟩
theorem eO.d2(c:eO us u v c1 c2):∃d,Nx us c2 u d∧d≠v∧d≠u:=by
 obtain⟨d,hd⟩:=(c.int c2).1 ⟨v,mS c.h2⟩;exact⟨d,hd,fun e=>c.hc (c.fn c.h1 (mS (e▸hd))),Ne.symm (jI c.dg hd).2.1⟩
theorem eO.c1v(c:eO us u v c1 c2):c1≠v∧c1≠u:=⟨Ne.symm (jI c.dg c.h1).2.1,(jI c.dg c.h1).2.2⟩
theorem eO.c2v(c:eO us u v c1 c2):c2≠v∧c2≠u:=⟨(jI c.dg c.h2).2.2,Ne.symm (jI c.dg c.h2).2.1⟩
/-! ### The corners behind each other,afterwards -/
theorem eO.nu(c:eO us u v c1 c2){p x y:P3}(h:Nx (eZ us u v) p x y):p≠u∧x≠u∧y≠u:=by
 obtain⟨⟨p',x',y',_,rfl,rfl,rfl⟩,_⟩:=Hp.1 h;exact⟨aas c.ne _,aas c.ne _,aas c.ne _⟩
theorem eO.far(c:eO us u v c1 c2){p x y:P3}(hp:p≠u)(hv:p≠v):Nx (eZ us u v) p x y↔∃x' y',Nx us p x' y'∧jW u v x'=x∧jW u v y'=y∧x≠y:=by
 rw[Hp];constructor
 · rintro⟨⟨p',x',y',h,hp',hx,hy⟩,_,k,_⟩
   obtain rfl:=aar hv hp';exact⟨x',y',h,hx,hy,k⟩
 · rintro⟨x',y',h,rfl,rfl,k⟩
   obtain⟨n1,_,n3⟩:=jI c.dg h;refine⟨⟨p,x',y',h,gN hp,rfl,rfl⟩,fun e=>?_,k,fun e=>?_⟩
   · exact n1 (aar hv e.symm).symm
   · exact n3 (aar hv e)
theorem eO.mid(c:eO us u v c1 c2){x y:P3}:Nx (eZ us u v) v x y↔(Nx us v x y∧x≠u∧y≠u)∨(Nx us u x y∧x≠v∧y≠v):=by
 rw[Hp];constructor
 · rintro⟨⟨p',x',y',h,hp,rfl,rfl⟩,k1,k2,k3⟩
   obtain⟨n1,_,n3⟩:=jI c.dg h;have ex:=afj (Ne.symm k1);have ey:=afj k3;rw[ex] at k1 k2 ⊢;rw[ey] at k2 k3 ⊢;rcases adW hp with rfl | rfl
   · exact .inr ⟨h,Ne.symm k1,k3⟩
   · exact .inl ⟨h,fun e=>by rw[e,lB] at ex;exact c.ne ex.symm,fun e=>by rw[e,lB] at ey;exact c.ne ey.symm⟩
 · rintro (⟨h,k1,k2⟩ | ⟨h,k1,k2⟩) <;> obtain⟨n1,n2,n3⟩:=jI c.dg h
   · exact⟨⟨v,x,y,h,gN (Ne.symm c.ne),gN k1,gN k2⟩,n1,n2,n3⟩
   · exact⟨⟨u,x,y,h,lB,gN (Ne.symm n1),gN n3⟩,Ne.symm k1,n2,k2⟩
/-! ### Edges -/
theorem eO.e_far(c:eO us u v c1 c2){a b:P3}(h1:a≠u)(h2:a≠v)(h4:b≠v):(∃y,Nx (eZ us u v) a b y)↔b≠u∧∃y,Nx us a b y:=by
 constructor
 · rintro⟨y,h⟩
   obtain⟨x',y',h',hx,_,_⟩:=(c.far h1 h2).1 h;have e:=aar h4 hx;exact⟨hx▸aas c.ne _,y',e▸h'⟩
 · rintro⟨hb,y,h⟩
   refine⟨jW u v y,(c.far h1 h2).2 ⟨b,y,h,gN hb,rfl,fun e=>?_⟩⟩;by_cases hy:y=u
   · rw[hy,lB] at e;exact h4 e
   · rw[gN hy] at e;exact (jI c.dg h).2.1 e
theorem eO.e_out(c:eO us u v c1 c2){b:P3}(hu:b≠u)(hv:b≠v):(∃y,Nx (eZ us u v) v b y)↔(∃y,Nx us v b y∧y≠u)∨∃y,Nx us u b y∧y≠v:=by
 constructor
 · rintro⟨y,h⟩
   rcases c.mid.1 h with ⟨h,_,k⟩ | ⟨h,_,k⟩
   · exact .inl ⟨y,h,k⟩
   · exact .inr ⟨y,h,k⟩
 · rintro (⟨y,h,k⟩ | ⟨y,h,k⟩)
   · exact⟨y,c.mid.2 (.inl ⟨h,hu,k⟩)⟩
   · exact⟨y,c.mid.2 (.inr ⟨h,hv,k⟩)⟩
theorem eO.e_in(c:eO us u v c1 c2){b:P3}(hu:b≠u)(hv:b≠v):(∃y,Nx (eZ us u v) b v y)↔(∃y,Nx us b v y∧y≠u)∨∃y,Nx us b u y∧y≠v:=by
 constructor
 · rintro⟨y,h⟩
   rcases c.mid.1 (mS h) with ⟨h,k,_⟩ | ⟨h,k,_⟩
   · exact .inl ⟨y,mS (mS h),k⟩
   · exact .inr ⟨y,mS (mS h),k⟩
 · rintro (⟨y,h,k⟩ | ⟨y,h,k⟩)
   · exact⟨y,mS (mS (c.mid.2 (.inl ⟨mS h,k,hu⟩)))⟩
   · exact⟨y,mS (mS (c.mid.2 (.inr ⟨mS h,k,hv⟩)))⟩
theorem eO.e_v(c:eO us u v c1 c2){b:P3}(hu:b≠u)(hv:b≠v) :
 (((∃y,Nx (eZ us u v) v b y)↔∃y,Nx us v b y)∧((∃y,Nx (eZ us u v) b v y)↔∃y,Nx us b v y)) ∨
 ((∃y,Nx (eZ us u v) v b y)∧(∃y,Nx (eZ us u v) b v y)∧mN us v b=false∧mN us u b=true):=by
 rw[c.e_out hu hv,c.e_in hu hv];by_cases k:mN us u b=true
 · by_cases k2:mN us v b=true
   · left
     rcases c.com b hv hu k k2 with rfl | rfl
     · obtain⟨d,hd,hdv,_⟩:=c.d1
       refine⟨⟨fun _=>⟨u,mS c.h1⟩,fun _=>.inr ⟨d,hd,hdv⟩⟩,⟨fun h=>?_,fun⟨y,h⟩=>.inl ⟨y,h,fun e=>?_⟩⟩⟩
       · rcases h with ⟨y,h,_⟩ | ⟨y,h,e⟩
         · exact⟨y,h⟩
         · exact absurd (c.fn h (mS (mS c.h1))) e
       · rw[e] at h
         exact c.hc (c.fn (mS h) c.h2).symm.symm
     · obtain⟨d,hd,hdv,_⟩:=c.d2
       refine⟨⟨fun h=>?_,fun⟨y,h⟩=>.inl ⟨y,h,fun e=>?_⟩⟩,⟨fun _=>⟨u,mS (mS c.h2)⟩,fun _=>.inr ⟨d,hd,hdv⟩⟩⟩
       · rcases h with ⟨y,h,_⟩ | ⟨y,h,e⟩
         · exact⟨y,h⟩
         · exact absurd (c.fn h (mS c.h2)) e
       · rw[e] at h
         exact c.hc (c.fn c.h1 (mS (mS h)))
   · right
     have hno:∀y,¬Nx us v b y∧¬Nx us b v y:=fun y=>⟨fun h=>k2 (gV h),fun h=>k2 (jB (gV h))⟩
     have hE:(∃y,Nx us u b y)∧∃y,Nx us b u y:=by
      rcases Jt k (Ne.symm hu) with h | h
      · exact⟨h,(c.int b).1 h⟩
      · exact⟨(c.int b).2 h,h⟩
     obtain⟨⟨y,hy⟩,y2,hy2⟩:=hE;refine⟨.inr ⟨y,hy,fun e=>(hno u).2 (mS (e▸hy))⟩,.inr ⟨y2,hy2,fun e=>(hno u).1 (mS (mS (e▸hy2)))⟩,by simpa using k2,k⟩
 · left
   have hno:∀y,¬Nx us u b y∧¬Nx us b u y:=fun y=>⟨fun h=>k (gV h),fun h=>k (jB (gV h))⟩
   refine⟨⟨fun h=>?_,fun⟨y,h⟩=>.inl ⟨y,h,fun e=>(hno v).2 (mS (e▸h))⟩⟩,⟨fun h=>?_,fun⟨y,h⟩=>.inl ⟨y,h,fun e=>(hno v).1 (mS (mS (e▸h)))⟩⟩⟩
   · rcases h with ⟨y,h,_⟩ | ⟨y,h,_⟩
     · exact⟨y,h⟩
     · exact absurd h (hno y).1
   · rcases h with ⟨y,h,_⟩ | ⟨y,h,_⟩
     · exact⟨y,h⟩
     · exact absurd h (hno y).2
theorem eO.bord(c:eO us u v c1 c2)(e:E3):wM (eZ us u v) e↔wM us e:=by
 obtain⟨a,b⟩:=e;unfold wM;simp only[lF];by_cases ha:a=u
 · subst ha
   refine⟨fun h=>?_,fun h=>absurd ((c.int b).1 h.1) h.2⟩;obtain⟨⟨y,h⟩,_⟩:=h;exact absurd rfl (c.nu h).1
 by_cases hb:b=u
 · subst hb
   refine⟨fun h=>?_,fun h=>absurd ((c.int a).2 h.1) h.2⟩;obtain⟨⟨y,h⟩,_⟩:=h;exact absurd rfl (c.nu h).2.1
 by_cases hav:a=v
 · subst hav
   by_cases hbv:b=a
   · subst hbv
     exact⟨fun⟨⟨y,h⟩,_⟩=>absurd rfl (Hp.1 h).2.1,fun⟨⟨y,h⟩,_⟩=>absurd rfl (jI c.dg h).1⟩
   · rcases c.e_v hb hbv with ⟨k1,k2⟩ | ⟨_,k2,k3,_⟩
     · rw[k1,k2]
     · refine⟨fun h=>absurd k2 h.2,fun⟨⟨y,h⟩,_⟩=>?_⟩
       rw[gV h] at k3;cases k3
 · by_cases hbv:b=v
   · subst hbv
     rcases c.e_v ha hav with ⟨k1,k2⟩ | ⟨k1,_,k3,_⟩
     · rw[k1,k2]
     · refine⟨fun h=>absurd k1 h.2,fun⟨⟨y,h⟩,_⟩=>?_⟩
       rw[jB (gV h)] at k3;cases k3
   · rw[c.e_far ha hav hbv,c.e_far hb hbv hav]
     simp[ha,hb]
/-! ### No edge twice -/
theorem eO.inj_s(c:eO us u v c1 c2){b x y:P3}(h:Nx us u b x)(hx:x≠v)(k:Nx us v b y)(hy:y≠u):False:=by
 obtain⟨n1,_,_⟩:=jI c.dg h;obtain⟨n2,_,_⟩:=jI c.dg k;rcases c.com b (Ne.symm n2) (Ne.symm n1) (gV h) (gV k) with rfl | rfl
 · exact hy (c.fn k (mS c.h1))
 · exact hx (c.fn h (mS c.h2))
theorem eO.inj_t(c:eO us u v c1 c2){b x y:P3}(h:Nx us b u x)(hx:x≠v)(k:Nx us b v y)(hy:y≠u):False:=by
 obtain⟨n1,_,_⟩:=jI c.dg h;obtain⟨n2,_,_⟩:=jI c.dg k;rcases c.com b n2 n1 (jB (gV h)) (jB (gV k)) with rfl | rfl
 · exact hx (c.fn h (mS (mS c.h1)))
 · exact hy (c.fn k (mS (mS c.h2)))
theorem Tf(u v:P3):∀us:List T3,sU u v us=(us.filter fun t=>(oL u v t).nd).map (oL u v)
 | []=>rfl
 | t::us=>by
  have ih:=Tf u v us;unfold sU at ih ⊢;rw[bp,fc,fc];split
  · rw[bp,ih]
  · exact ih
theorem Xq(f:P3→P3):∀ts:List T3,aQ (ts.map (T3.mapP f))=(aQ ts).map fun e=>(f e.1,f e.2)
 | []=>rfl
 | t::ts=>by
  have ih:=Xq f ts;unfold aQ at ih ⊢;rw[bp,b_,b_,ct,ih];rfl
theorem Xr{p:T3→Bool}:∀ts:List T3,(aQ (ts.filter p)).Sublist (aQ ts)
 | []=>.refl _
 | t::ts=>by
  have ih:=Xr (p:=p) ts;unfold aQ at ih ⊢;rw[fc];split
  · rw[b_,b_];exact (List.Sublist.refl _).append ih
  · rw[b_];exact ih.trans (List.sublist_append_right _ _)
theorem eO.nodup(c:eO us u v c1 c2):(aQ (eZ us u v)).Nodup:=by
 unfold eZ;rw[(nD _).nodup_iff,Tf];show (aQ (List.map (T3.mapP (jW u v)) _)).Nodup
 rw[Xq,pg,jn];refine (c.nd.sublist (Xr us)).imp_of_mem fun {e g} he hg hne heq=>hne ?_;have sur:∀{a b:P3},(a,b)∈aQ (us.filter fun t=>(oL u v t).nd)→∃y,Nx us a b y∧jW u v a≠jW u v b∧jW u v b≠jW u v y∧jW u v y≠jW u v a:=fun h=>by
  obtain⟨y,h⟩:=lF.1 h;obtain⟨t,ht,hx⟩:=dP.1 h;obtain⟨h1,h2⟩:=dh.1 ht;obtain⟨k1,k2,k3⟩:=rH.1 h2;refine⟨y,dP.2 ⟨t,h1,hx⟩,?_⟩;rcases Hk.1 hx with ⟨rfl,rfl,rfl⟩ | ⟨rfl,rfl,rfl⟩ | ⟨rfl,rfl,rfl⟩
  · exact⟨k1,k2,k3⟩
  · exact⟨k2,k3,k1⟩
  · exact⟨k3,k1,k2⟩
 obtain⟨a,b⟩:=e;obtain⟨a',b'⟩:=g;obtain⟨y,hy,m1,m2,m3⟩:=sur he;obtain⟨y',hy',m1',m2',m3'⟩:=sur hg;simp only[fk] at heq;obtain⟨q1,q2⟩:=heq;have two:∀{x x':P3},jW u v x=jW u v x'→x=x'∨(x=u∧x'=v)∨(x=v∧x'=u):=fun {x x'} h=>by
  by_cases e1:x=u
  · rw[e1,lB] at h
    rcases adW h.symm with e | e
    · exact .inl (e1.trans e.symm)
    · exact .inr (.inl ⟨e1,e⟩)
  · rw[gN e1] at h
    by_cases e2:x'=u
    · rw[e2,lB] at h;exact .inr (.inr ⟨h,e2⟩)
    · rw[gN e2] at h;exact .inl h
 have tv:jW u v v=v:=gN (Ne.symm c.ne);have yv:∀{y},jW u v y≠v→y≠v∧y≠u:=fun h=>⟨fun e=>h (by rw[e,tv]),fun e=>h (by rw[e,lB])⟩
 rcases two q1 with rfl | ⟨rfl,rfl⟩ | ⟨rfl,rfl⟩
 · rcases two q2 with rfl | ⟨rfl,rfl⟩ | ⟨rfl,rfl⟩
   · rfl
   · rw[lB] at m2;rw[tv] at m2'
     exact absurd (c.inj_t hy (yv (Ne.symm m2)).1 hy' (yv (Ne.symm m2')).2) id
   · rw[tv] at m2;rw[lB] at m2'
     exact absurd (c.inj_t hy' (yv (Ne.symm m2')).1 hy (yv (Ne.symm m2)).2) id
 · rw[lB] at m1 m3;rw[tv] at m1' m3'
   rcases two q2 with rfl | ⟨rfl,rfl⟩ | ⟨rfl,rfl⟩
   · exact absurd (c.inj_s hy (yv m3).1 hy' (yv m3').2) id
   · rw[lB] at m1;exact absurd rfl m1
   · rw[tv] at m1;exact absurd rfl m1
 · rw[tv] at m1 m3;rw[lB] at m1' m3'
   rcases two q2 with rfl | ⟨rfl,rfl⟩ | ⟨rfl,rfl⟩
   · exact absurd (c.inj_s hy' (yv m3').1 hy (yv m3).2) id
   · rw[lB] at m1;exact absurd rfl m1
   · rw[tv] at m1;exact absurd rfl m1
end
structure Bz(l us:List T3)(f:P3→P3):Prop where
 dg:tG us
 nd:(aQ us).Nodup
 pin:∀v,nY (Nx us v)
 bd:∀e,wM us e↔wM l e
 sub:∀x∈cA l,x∈cA us
 fix:∀x∈cA l,f x=x
 img:∀x∈cA us,f x∈cA l
 hit:(wD f us).Perm (l.map dR)
 pair:∀t∈us,∀x y,t.has x=true→t.has y=true→mN l (f x) (f y)=true
 keep:∀e∈aQ l,Uv (aY l) e.1=true→Uv (aY l) e.2=true→e∈aQ us
 fan:∀v a z,wM l (v,a)→Pc (Nx l v) a z→Pc (Nx us v) a z
theorem Bz.refl(dg:tG l)(nd:(aQ l).Nodup)(pin:∀v,nY (Nx l v)):Bz l l (fun x=>x) :=
 ⟨dg,nd,pin,fun _=>Iff.rfl,fun _ h=>h,fun _ _=>rfl,fun _ h=>h,by rw[amo dg fun _ _=>rfl],fun t ht x y hx hy=>kU.2 ⟨t,ht,hx,hy⟩,fun _ h _ _=>h,fun _ _ _ _ h=>h⟩
theorem Bz.congr{g:P3→P3}(h:Bz l us f)(e:∀x∈cA us,f x=g x):Bz l us g :=
 ⟨h.dg,h.nd,h.pin,h.bd,h.sub,fun x hx=>(e x (h.sub x hx)).symm.trans (h.fix x hx),fun x hx=>e x hx▸h.img x hx,Sk e▸h.hit,
  fun t ht x y hx hy=>by rw[←e x (qA ht hx),←e y (qA ht hy)];exact h.pair t ht x y hx hy,h.keep,h.fan⟩
theorem Bz.rim(h:Bz l us f):aY us=aY l:=wN h.bd
theorem Bz.trans{mid:List T3}{g:P3→P3}(h:Bz l mid f)(k:Bz mid us g):Bz l us (fun x=>f (g x)):=by
 refine⟨k.dg,k.nd,k.pin,fun e=>(k.bd e).trans (h.bd e),fun x hx=>k.sub x (h.sub x hx),fun x hx=>?_,fun x hx=>h.img _ (k.img x hx),?_,fun t ht x y hx hy=>?_,fun e he h1 h2=>?_,fun v a z hb hf=>?_⟩
 · show f (g x)=x
   rw[k.fix x (h.sub x hx),h.fix x hx]
 · rw[Xg]
   refine (k.hit.flatMap_right (hF f)).trans ?_;have e:(mid.map dR).flatMap (hF f)=wD f mid:=by
    unfold wD;rw[lx]
    congr 1
    exact funext fun t=>aai (jC t)
   rw[e];exact h.hit
 · obtain⟨u,hu,k1,k2⟩:=kU.1 (k.pair t ht x y hx hy)
   exact h.pair u hu _ _ k1 k2
 · refine k.keep e (h.keep e he h1 h2) ?_ ?_ <;> rw[h.rim] <;> assumption
 · exact k.fan v a z ((h.bd _).2 hb) (h.fan v a z hb hf)
theorem lZ   : x∈cA ts↔∃a b,Nx ts x a b:=by
 constructor
 · intro h
   obtain⟨t,ht,hx⟩:=Do.1 h;rcases hx with rfl | rfl | rfl
   · exact⟨t.b,t.c,dP.2 ⟨t,ht,Hk.2 (.inl ⟨rfl,rfl,rfl⟩)⟩⟩
   · exact⟨t.c,t.a,dP.2 ⟨t,ht,Hk.2 (.inr (.inl ⟨rfl,rfl,rfl⟩))⟩⟩
   · exact⟨t.a,t.b,dP.2 ⟨t,ht,Hk.2 (.inr (.inr ⟨rfl,rfl,rfl⟩))⟩⟩
 · rintro⟨a,b,h⟩
   exact (xZ (qB h)).1
theorem abT(u v:P3):∀us:List T3,wD (jW u v) us=(sU u v us).map dR
 | []=>rfl
 | t::us=>by
  have ih:=abT u v us;unfold wD sU at ih ⊢;rw[b_,bp,fc,ih];cases h:(oL u v t).nd with
  | true=>rw[if_pos rfl,bp,ap0 (f:=jW u v) h];rfl
  | false=>rw[if_neg fz,asd (f:=jW u v) h];rfl
theorem agG(u v:P3)(us:List T3):(wD (jW u v) us).Perm ((eZ us u v).map dR):=by
 rw[abT];unfold eZ;refine List.Perm.trans ?_ ((jY _).map dR).symm;rw[jb];have e:(sU u v us).map (dR∘dR)=(sU u v us).map dR:=ik fun t ht=>vK (jC t) (afb us t ht);rw[e]
section
variable {us:List T3} {u v c1 c2:P3}
theorem eO.m1(c:eO us u v c1 c2):∃d,Nx (eZ us u v) v c1 d:=by
 obtain⟨d,hd,hv,_⟩:=c.d1;exact⟨d,c.mid.2 (.inr ⟨hd,c.c1v.1,hv⟩)⟩
theorem eO.m2(c:eO us u v c1 c2):∃d,Nx (eZ us u v) v d c2:=by
 obtain⟨d,hd,hv,_⟩:=c.d2;exact⟨d,c.mid.2 (.inr ⟨mS hd,hv,c.c2v.1⟩)⟩
theorem afk{u v x x':P3}(h:jW u v x=jW u v x'):x=x'∨(x=u∧x'=v)∨(x=v∧x'=u):=by
 by_cases e1:x=u
 · rw[e1,lB] at h
   rcases adW h.symm with e | e
   · exact .inl (e1.trans e.symm)
   · exact .inr (.inl ⟨e1,e⟩)
 · rw[gN e1] at h
   by_cases e2:x'=u
   · rw[e2,lB] at h;exact .inr (.inr ⟨h,e2⟩)
   · rw[gN e2] at h;exact .inl h
theorem eO.third(c:eO us u v c1 c2){a b z:P3}(h:Nx us a b z)(e:jW u v z=jW u v a):jW u v a=v∧(b=c1∨b=c2):=by
 rcases afk e with e | ⟨rfl,rfl⟩ | ⟨rfl,rfl⟩
 · exact absurd e (jI c.dg h).2.2
 · exact⟨gN (Ne.symm c.ne),.inl (c.fn (mS (mS h)) c.h1)⟩
 · exact⟨lB,.inr (c.fn (mS (mS h)) c.h2)⟩
theorem eO.cv(c:eO us u v c1 c2){b:P3}(h:b=c1∨b=c2):mN (eZ us u v) v b=true:=by
 obtain⟨d,hd⟩:=c.m1;obtain⟨e,he⟩:=c.m2;rcases h with rfl | rfl
 · exact gV hd
 · exact oN he
theorem eO.pairN(c:eO us u v c1 c2){a b z:P3}(h:Nx us a b z)(hne:jW u v a≠jW u v b):mN (eZ us u v) (jW u v a) (jW u v b)=true:=by
 by_cases e1:jW u v z=jW u v a
 · obtain⟨k1,k2⟩:=c.third h e1
   have hb:jW u v b=b:=gN (k2.elim (fun e=>e▸c.c1v.2) fun e=>e▸c.c2v.2);rw[k1,hb];exact c.cv k2
 by_cases e2:jW u v b=jW u v z
 · obtain⟨k1,k2⟩:=c.third (mS (mS h)) e2
   have ha:jW u v a=a:=gN (k2.elim (fun e=>e▸c.c1v.2) fun e=>e▸c.c2v.2);rw[ha,e2,k1];exact jB (c.cv k2)
 exact gV (Hp.2 ⟨⟨a,b,z,h,rfl,rfl,rfl⟩,hne,e2,e1⟩)
theorem eO.img(c:eO us u v c1 c2){x:P3}(hx:x∈cA us):jW u v x∈cA (eZ us u v):=by
 obtain⟨d,hd⟩:=c.m1;by_cases hv:jW u v x=v
 · rw[hv];exact lZ.2 ⟨_,_,hd⟩
 obtain⟨a,b,h⟩:=lZ.1 hx;have e0:=afj hv;by_cases e:jW u v x=jW u v a
 · rcases afk e with e | ⟨rfl,_⟩ | ⟨rfl,_⟩
   · exact absurd e (jI c.dg h).1
   · exact absurd lB hv
   · exact absurd (gN (Ne.symm c.ne)) hv
 · exact Xb.1 (agA (c.pairN h e))
theorem eO.no_deg(_c:eO us u v c1 c2):tG (eZ us u v):=fun t ht=>by
 obtain⟨k1,k2,k3⟩:=rH.1 (adJ us u v t ht);simp[oG,k1,k2,k3]
/-! ### Round each corner -/
theorem eO.fnm(c:eO us u v c1 c2){a b x y:P3}(h:Nx (eZ us u v) a b x)(k:Nx (eZ us u v) a b y):x=y:=vJ c.nodup h k
theorem eO.same(c:eO us u v c1 c2){p:P3}(hu:p≠u)(hv:p≠v)(hn:mN us u p=false)(x y:P3):Nx (eZ us u v) p x y↔Nx us p x y:=by
 have no:∀{x y},Nx us p x y→x≠u∧y≠u:=fun h=>⟨fun e=>(by rw[e] at h;rw[jB (gV h)] at hn;cases hn),fun e=>(by rw[e] at h;rw[jB (oN h)] at hn;cases hn)⟩
 rw[c.far hu hv];constructor
 · rintro⟨x',y',h,rfl,rfl,_⟩
   rwa [gN (no h).1,gN (no h).2]
 · intro h
   exact⟨x,y,h,gN (no h).1,gN (no h).2,(jI c.dg h).2.1⟩
theorem eO.ren1(c:eO us u v c1 c2){p:P3}(hu:p≠u)(hv:p≠v)(hn:mN us v p=false):Ren u v (Nx us p) (Nx (eZ us u v) p):=by
 have no:∀x y,Nx us p x y→x≠v∧y≠v:=fun x y h=>⟨fun e=>(by rw[e] at h;rw[jB (gV h)] at hn;cases hn),fun e=>(by rw[e] at h;rw[jB (oN h)] at hn;cases hn)⟩
 refine⟨no,fun x y=>?_⟩;rw[c.far hu hv];constructor
 · rintro⟨x',y',h,rfl,rfl,_⟩
   exact⟨x',y',h,rfl,rfl⟩
 · rintro⟨x',y',h,rfl,rfl⟩
   refine⟨x',y',h,rfl,rfl,fun e=>?_⟩;exact (jI c.dg h).2.1 (aah (q:=u) (p:=v) (no _ _ h).1 (no _ _ h).2 e)
theorem Ju{u v x:P3}(hx:x≠v):ren v u (jW u v x)=x:=by
 by_cases e:x=u
 · rw[e,lB,an8]
 · rw[gN e,ae7 hx]
theorem eO.ren2(c:eO us u v c1 c2){p:P3}(hu:p≠u)(hv:p≠v)(hn:mN us v p=false):Ren v u (Nx (eZ us u v) p) (Nx us p):=by
 have r:=c.ren1 hu hv hn;refine⟨fun x y h=>(c.nu h).2,fun x y=>⟨fun h=>?_,?_⟩⟩
 · obtain⟨n1,n2⟩:=r.no _ _ h
   exact⟨jW u v x,jW u v y,(r.iff _ _).2 ⟨x,y,h,rfl,rfl⟩,(Ju n1).symm,(Ju n2).symm⟩
 · rintro⟨a,b,h,rfl,rfl⟩
   obtain⟨x,y,h',rfl,rfl⟩:=(r.iff _ _).1 h;obtain⟨n1,n2⟩:=r.no _ _ h';show Nx us p (ren v u (jW u v x)) (ren v u (jW u v y))
   rwa [Ju n1,Ju n2]
theorem eO.ins1(c:eO us u v c1 c2):∃d,Ins u d v (Nx (eZ us u v) c1) (Nx us c1):=by
 obtain⟨d,hd,hdv,hdu⟩:=c.d1;have h1:Nx us c1 u v:=mS (mS c.h1);have h0:Nx us c1 d u:=mS hd;have tv:jW u v v=v:=gN (Ne.symm c.ne);have m0:Nx (eZ us u v) c1 d v:=(c.far c.c1v.2 c.c1v.1).2 ⟨d,u,h0,gN hdu,lB,hdv⟩;refine⟨d,fun x y h=>(c.nu h).2,m0,fun x y=>⟨fun h=>?_,fun h=>?_⟩⟩
 · by_cases ex:x=u
   · subst ex;exact .inr (.inr ⟨rfl,c.fn h h1⟩)
   by_cases ey:y=u
   · subst ey;exact .inr (.inl ⟨c.inj h h0,rfl⟩)
   refine .inl ⟨(c.far c.c1v.2 c.c1v.1).2 ⟨x,y,h,gN ex,gN ey,(jI c.dg h).2.1⟩,fun e=>?_⟩;rw[e.1,e.2] at h;exact c.ne (c.fn h0 h)
 · rcases h with ⟨h,hno⟩ | ⟨rfl,rfl⟩ | ⟨rfl,rfl⟩
   · obtain⟨x',y',h',rfl,rfl,hne⟩:=(c.far c.c1v.2 c.c1v.1).1 h
     by_cases ex:x'=u
     · subst ex
       rw[c.fn h' h1,lB,tv] at hne;exact absurd rfl hne
     by_cases ey:y'=u
     · subst ey
       rw[c.inj h' h0,lB,gN hdu] at hno;exact absurd ⟨rfl,rfl⟩ hno
     rwa [gN ex,gN ey]
   · exact h0
   · exact h1
theorem eO.ins2(c:eO us u v c1 c2):∃d,Ins u v d (Nx (eZ us u v) c2) (Nx us c2):=by
 obtain⟨d,hd,hdv,hdu⟩:=c.d2;have h1:Nx us c2 v u:=mS (mS c.h2);have tv:jW u v v=v:=gN (Ne.symm c.ne);have m0:Nx (eZ us u v) c2 v d:=(c.far c.c2v.2 c.c2v.1).2 ⟨u,d,hd,lB,gN hdu,Ne.symm hdv⟩;refine⟨d,fun x y h=>(c.nu h).2,m0,fun x y=>⟨fun h=>?_,fun h=>?_⟩⟩
 · by_cases ex:x=u
   · subst ex;exact .inr (.inr ⟨rfl,c.fn h hd⟩)
   by_cases ey:y=u
   · subst ey;exact .inr (.inl ⟨c.inj h h1,rfl⟩)
   refine .inl ⟨(c.far c.c2v.2 c.c2v.1).2 ⟨x,y,h,gN ex,gN ey,(jI c.dg h).2.1⟩,fun e=>?_⟩;rw[e.1,e.2] at h;exact hdu (c.fn h h1)
 · rcases h with ⟨h,hno⟩ | ⟨rfl,rfl⟩ | ⟨rfl,rfl⟩
   · obtain⟨x',y',h',rfl,rfl,hne⟩:=(c.far c.c2v.2 c.c2v.1).1 h
     by_cases ex:x'=u
     · subst ex
       rw[c.fn h' hd,lB,gN hdu] at hno;exact absurd ⟨rfl,rfl⟩ hno
     by_cases ey:y'=u
     · subst ey
       rw[c.inj h' h1,lB,tv] at hne;exact absurd rfl hne
     rwa [gN ex,gN ey]
   · exact h1
   · exact hd
theorem eO.ring(c:eO us u v c1 c2):nX (Nx us u) c1 v∧∀x y,Nx us u x y→nX (Nx us u) v x∧nX (Nx us u) x v:=by
 have fn:∀x y z,Nx us u x y→Nx us u x z→y=z:=fun _ _ _ h k=>c.fn h k;obtain⟨s,hs,hc⟩:=afi (N:=Nx us u) (E:=cA us) (fun x y h=>(xZ (qB h)).2) (S:=fun x=>∃y,Nx us u x y) ⟨v,c1,c.h1⟩ fun x hx=>⟨hx,fun y hy=>(c.int y).2 ⟨x,mS (mS hy)⟩⟩
 have all:=c.pin u s hc;have hsv:=all v c1 c.h1;have hvs:=hsv.back fn hc;have hv:∀x y,Nx us u x y→nX (Nx us u) v x:=fun x y h=>hvs.trans (all x y h);have hcv:nX (Nx us u) c1 v:=by
  rcases hvs.head with rfl | ⟨w,hw,r⟩
  · obtain⟨y,hy,r⟩:=hc
    rw[c.fn c.h1 hy];exact r
  · rw[c.fn c.h1 hw];exact r.trans hsv
 exact⟨hcv,fun x y h=>⟨hv x y h,(hv x y h).back fn ⟨c1,c.h1,hcv⟩⟩⟩
theorem eO.pth(c:eO us u v c1 c2):Pth u c1 c2 (fun x y=>Nx us v x y∧x≠u∧y≠u) (fun x y=>Nx us u x y∧x≠v∧y≠v) (Nx us v) (Nx (eZ us u v) v):=by
 obtain⟨hr1,hr2⟩:=c.ring;have k1:Nx us v c1 u:=mS c.h1;have k2:Nx us u c2 v:=mS c.h2;have tail:∀b,nX (Nx us u) v b→b=v∨nX (fun x y=>Nx us u x y∧x≠v∧y≠v) c1 b:=fun b r=>by
  induction r with
  | refl=>exact .inl rfl
  | @tail b d _ s ih =>
   by_cases hd:d=v
   · exact .inl hd
   by_cases hb:b=v
   · subst hb;rw[c.fn s c.h1];exact .inr (.refl _)
   rcases ih with e | r
   · exact absurd e hb
   · exact .inr (.tail r ⟨s,hb,hd⟩)
 have head:∀a,a≠v→∀b,nX (Nx us u) a b→(b≠v∧nX (fun x y=>Nx us u x y∧x≠v∧y≠v) a b)∨nX (fun x y=>Nx us u x y∧x≠v∧y≠v) a c2:=fun a ha b r=>by
  induction r with
  | refl=>exact .inl ⟨ha,.refl _⟩
  | @tail b d _ s ih =>
   rcases ih with ⟨hb,r⟩ | r
   · by_cases hd:d=v
     · subst hd;rw[←c.inj s k2];exact .inr r
     · exact .inl ⟨hd,.tail r ⟨s,hb,hd⟩⟩
   · exact .inr r
 have toC2:∀a,a≠v→nX (Nx us u) a v→nX (fun x y=>Nx us u x y∧x≠v∧y≠v) a c2:=fun a ha r=>by
  rcases head a ha v r with ⟨e,_⟩ | r
  · exact absurd rfl e
  · exact r
 refine⟨fun x y=>⟨fun h=>?_,?_⟩,fun x y=>c.mid,fun x y h=>⟨h.2.1,h.2.2,fun e=>?_,fun e=>?_⟩,fun x y h=>⟨?_,?_⟩,toC2 c1 c.c1v.1 hr1,fun x y h=>⟨?_,?_⟩,fun y h=>h.2.2 (c.fn h.1 k2),fun x y h=>⟨Ne.symm (jI c.dg h.1).1,(jI c.dg h.1).2.2⟩,c.c1v.2,c.c2v.2,c.hc⟩
 · by_cases ex:x=u
   · subst ex;exact .inr (.inr ⟨rfl,c.fn h c.h2⟩)
   by_cases ey:y=u
   · subst ey;exact .inr (.inl ⟨c.inj h k1,rfl⟩)
   exact .inl ⟨h,ex,ey⟩
 · rintro (⟨h,_⟩ | ⟨rfl,rfl⟩ | ⟨rfl,rfl⟩)
   · exact h
   · exact k1
   · exact c.h2
 · have h:=h
   rw[e] at h;exact h.2.2 (c.fn h.1 k1)
 · have h:=h
   rw[e] at h;exact h.2.1 (c.inj h.1 c.h2)
 · rcases tail x (hr2 x y h.1).1 with e | r
   · exact absurd e h.2.1
   · exact r
 · obtain⟨z,hz⟩:=(c.int y).2 ⟨x,mS (mS h.1)⟩
   exact toC2 y h.2.2 (hr2 y z hz).2
 · by_cases e:x=c1
   · exact .inl e
   refine .inr ⟨fun z hz=>?_,fun z hz=>?_⟩
   · rcases c.com x h.2.1 (Ne.symm (jI c.dg h.1).1) (gV h.1) (gV hz.1) with rfl | rfl
     · exact e rfl
     · exact h.2.2 (c.fn h.1 k2)
   · rcases c.com x h.2.1 (Ne.symm (jI c.dg h.1).1) (gV h.1) (oN hz.1) with rfl | rfl
     · exact e rfl
     · exact h.2.2 (c.fn h.1 k2)
 · by_cases e:y=c2
   · exact .inl e
   refine .inr ⟨fun z hz=>?_,fun z hz=>?_⟩
   · rcases c.com y h.2.2 (jI c.dg h.1).2.2 (oN h.1) (gV hz.1) with rfl | rfl
     · exact h.2.1 (c.inj h.1 c.h1)
     · exact e rfl
   · rcases c.com y h.2.2 (jI c.dg h.1).2.2 (oN h.1) (oN hz.1) with rfl | rfl
     · exact h.2.1 (c.inj h.1 c.h1)
     · exact e rfl
theorem eO.nopin(c:eO us u v c1 c2)(p:P3):nY (Nx (eZ us u v) p):=by
 by_cases hu:p=u
 · rintro s ⟨y,hy,_⟩
   exact absurd hu (c.nu hy).1
 by_cases hv:p=v
 · subst hv
   exact (c.pth.nopin ((c.pin p).sets (E:=cA us) fun x y h=>(xZ (qB h)).2)).ring fun _ _ _ h k=>c.fnm h k
 by_cases e1:p=c1
 · subst e1;obtain⟨d,h⟩:=c.ins1;exact h.nopin_out (c.pin p)
 by_cases e2:p=c2
 · subst e2;obtain⟨d,h⟩:=c.ins2;exact h.nopin_out (c.pin p)
 cases hn:mN us u p with
 | false=>exact adE (c.same hu hv hn) (c.pin p)
 | true =>
  have hv2:mN us v p=false:=by
   cases h:mN us v p with
   | false=>rfl
   | true=>exact absurd (c.com p hv hu hn h) fun h=>h.elim e1 e2
  exact (c.ren1 hu hv hv2).nopin (c.pin p)
theorem eO.check(c:eO us u v c1 c2):dC true (eZ us u v)=0:=nB.2 ⟨c.no_deg,c.nodup,c.nopin⟩
theorem eO.fan(c:eO us u v c1 c2){p a z:P3}(hb:wM (eZ us u v) (p,a))(k:Pc (Nx (eZ us u v) p) a z):Pc (Nx us p) a z:=by
 obtain⟨y0,hy0⟩:=lF.1 hb.1;obtain⟨hu,hau,_⟩:=c.nu hy0;have hzu:z≠u:=by
  obtain⟨r,_⟩:=k;cases r with
  | refl=>exact hau
  | tail _ s=>exact (c.nu s).2.2
 by_cases hv:p=v
 · subst hv
   refine c.pth.fan hau (fun y hy=>?_) k;have hap:a≠p:=hy.2.1;rcases c.e_v hau hap with ⟨_,_⟩ | ⟨_,h2,_⟩
   · have hb':=(c.bord _).1 hb
     obtain⟨w,hw⟩:=lF.1 hb'.1;rcases c.com a hap hau (gV hy.1) (gV hw) with e | e
     · exact e
     · rw[e] at hy;exact absurd (c.fn hy.1 (mS c.h2)) hy.2.2
   · exact absurd (lF.2 h2) hb.2
 by_cases e1:p=c1
 · subst e1;obtain⟨d,h⟩:=c.ins1;exact h.fan hzu k
 by_cases e2:p=c2
 · subst e2;obtain⟨d,h⟩:=c.ins2;exact h.fan hzu k
 cases hn:mN us u p with
 | false=>exact aiU (fun x y=>(c.same hu hv hn x y).symm) k
 | true =>
  have hv2:mN us v p=false:=by
   cases h:mN us v p with
   | false=>rfl
   | true=>exact absurd (c.com p hv hu hn h) fun h=>h.elim e1 e2
  have both:(∃y,Nx (eZ us u v) v p y)∧∃y,Nx (eZ us u v) p v y:=by
   rcases c.e_v hu hv with ⟨h1,h2⟩ | ⟨h1,h2,_⟩
   · rw[c.e_out hu hv,c.e_in hu hv]
     have hE:(∃y,Nx us u p y)∧∃y,Nx us p u y:=by
      rcases Jt hn (Ne.symm hu) with h | h
      · exact⟨h,(c.int p).1 h⟩
      · exact⟨(c.int p).2 h,h⟩
     obtain⟨⟨y,hy⟩,y2,hy2⟩:=hE;refine⟨.inr ⟨y,hy,fun e=>?_⟩,.inr ⟨y2,hy2,fun e=>?_⟩⟩
     · rw[e] at hy;rw[jB (gV (mS hy))] at hv2;cases hv2
     · rw[e] at hy2;rw[jB (oN hy2)] at hv2;cases hv2
   · exact⟨h1,h2⟩
  refine (c.ren2 hu hv hv2).fan (fun e=>?_) (fun e=>?_) hzu k
  · rw[e] at hb;exact hb.2 (lF.2 both.1)
  · obtain⟨y,hy⟩:=both.2
    rw[e] at k;exact k.2 y hy
theorem eO.acc(c:eO us u v c1 c2)(hin:Hn us u v=true):Bz (eZ us u v) us (jW u v):=by
 have hrim:aY (eZ us u v)=aY us:=wN c.bord;refine⟨c.dg,c.nd,c.pin,fun e=>(c.bord e).symm,fun x hx=>?_,fun x hx=>?_,fun x hx=>c.img hx,agG u v us,fun t ht x y hx hy=>?_,fun e he h1 h2=>?_,fun p a z hb hf=>c.fan hb hf⟩
 · obtain⟨a,b,h⟩:=lZ.1 hx
   obtain⟨⟨p',x',y',h,hp,_,_⟩,_⟩:=Hp.1 h;by_cases e:p'=u
   · rw[e,lB] at hp;rw[←hp];exact lZ.2 ⟨_,_,c.h2⟩
   · rw[gN e] at hp;rw[←hp];exact lZ.2 ⟨_,_,h⟩
 · obtain⟨a,b,h⟩:=lZ.1 hx
   exact gN (c.nu h).1
 · by_cases e:jW u v x=jW u v y
   · rw[←e];exact Xb.2 (c.img (qA ht hx))
   · have hne:x≠y:=fun h=>e (by rw[h])
     rcases Jt (kU.2 ⟨t,ht,hx,hy⟩) hne with ⟨z,h⟩ | ⟨z,h⟩
     · exact c.pairN h e
     · exact jB (c.pairN h (Ne.symm e))
 · obtain⟨a,b⟩:=e
   rw[hrim] at h1 h2;simp only at h1 h2;obtain⟨y,hy⟩:=lF.1 he;obtain⟨ha,hb,_⟩:=c.nu hy;have new:∀b,b≠u→b≠v→Uv (aY us) v=true→Uv (aY us) b=true→mN us v b=false→mN us u b=true→False:=fun b hu hv k1 k2 k3 k4=>by
    unfold Hn at hin;rw[k1,ff,Bool.false_or,df] at hin;have:=hin b (An.2 (Dr.2 ⟨hu,k4⟩));rw[k2] at this;unfold Me at this;rw[k3] at this;simp[hv] at this
   rw[lF] at he ⊢;by_cases hav:a=v
   · subst hav
     by_cases hbv:b=a
     · rw[hbv] at hy;exact absurd rfl (jI c.no_deg hy).1
     · rcases c.e_v hb hbv with ⟨k,_⟩ | ⟨_,_,k3,k4⟩
       · exact k.1 he
       · exact (new b hb hbv h1 h2 k3 k4).elim
   · by_cases hbv:b=v
     · subst hbv
       rcases c.e_v ha hav with ⟨_,k⟩ | ⟨_,_,k3,k4⟩
       · exact k.1 he
       · exact (new a ha hav h2 h1 k3 k4).elim
     · exact ((c.e_far ha hav hbv).1 he).2
end
/-! ### From the conditions -/
theorem amw{v:P3}(hc:dC true us=0)(hj:uD us u v=true)(hl:Fi us u v=true):∃c1 c2,eO us u v c1 c2:=by
 obtain⟨dg,nd,pin⟩:=nB.1 hc;unfold uD at hj;obtain⟨hj1,hj2⟩:=jh.1 hj;have hj2:Uv (aY us) u=false:=by simpa using hj2
 obtain⟨hne,he⟩:=Dr.1 hj1;have int:∀x,(∃y,Nx us u x y)↔∃y,Nx us x u y:=fun x=>by
  rw[←lF,←lF];have k:∀e∈aY us,e.1≠u∧e.2≠u:=fun e he=>by
   unfold Uv at hj2;rw[List.any_eq_false] at hj2;have:=hj2 e he;simpa using this
  constructor
  · intro h
    exact Decidable.byContradiction fun hn=>(k (u,x) (Dn.2 ⟨h,hn⟩)).1 rfl
  · intro h
    exact Decidable.byContradiction fun hn=>(k (x,u) (Dn.2 ⟨h,hn⟩)).2 rfl
 have hE:(∃y,Nx us u v y)∧∃y,Nx us v u y:=by
  rcases Jt he (Ne.symm hne) with h | h
  · exact⟨h,(int v).1 h⟩
  · exact⟨(int v).2 h,h⟩
 obtain⟨⟨c1,h1⟩,c2,h2⟩:=hE;have fn:∀{a b x y},Nx us a b x→Nx us a b y→x=y:=fun h k=>vJ nd h k;have hnd:((nbL us u).filter (Me us v)).Nodup:=by
  unfold nbL;refine ((oa (fun {a b} h e=>?_) (qG us)).sublist jt).sublist jt;exact P3.lt_irrefl b (e▸h)
 have mem:∀{b},b∈(nbL us u).filter (Me us v)↔(b≠u∧mN us u b=true)∧b≠v∧mN us v b=true:=fun {b}=>by
  rw[dh,An,Dr,Dr]
 have hlen:((nbL us u).filter (Me us v)).length=2:=of_decide_eq_true hl;have m1:c1∈(nbL us u).filter (Me us v):=mem.2 ⟨⟨(jI dg h1).2.2,oN h1⟩,Ne.symm (jI dg h1).2.1,gV (mS h1)⟩;have m2:c2∈(nbL us u).filter (Me us v):=mem.2 ⟨⟨Ne.symm (jI dg h2).2.1,gV (mS h2)⟩,(jI dg h2).2.2,oN h2⟩;have hcc:c1≠c2:=fun e=>by
  subst e;have k:Nx us u c1 v:=mS h2;have cyc:Cyc (Nx us u) v:=⟨c1,h1,.one k⟩
  have reach:∀b,nX (Nx us u) v b→b=v∨b=c1:=fun b r=>by
   induction r with
   | refl=>exact .inl rfl
   | tail _ s ih =>
    rcases ih with rfl | rfl
    · exact .inr (fn s h1)
    · exact .inl (fn s k)
  have all:∀b∈(nbL us u).filter (Me us v),b∈[c1]:=fun b hb=>by
   obtain⟨⟨k1,k2⟩,k3,_⟩:=mem.1 hb;have hE:∃y,Nx us u b y:=by
    rcases Jt k2 (Ne.symm k1) with h | h
    · exact h
    · exact (int b).2 h
   obtain⟨y,hy⟩:=hE;rcases reach b (pin u v cyc b y hy) with e | e
   · exact absurd e k3
   · rw[e];exact ji _
  have:=mZ hnd all;rw[hlen] at this;simp at this
 refine⟨c1,c2,dg,nd,pin,Ne.symm hne,int,h1,h2,hcc,fun b k1 k2 k3 k4=>?_⟩;have:=full (S:=[c1,c2]) (E:=(nbL us u).filter (Me us v)) (by simp[hcc]) (fun x hx=>by
  rcases an.1 hx with rfl | hx
  · exact m1
  · rw[az.1 hx];exact m2) (by rw[hlen];exact ao _) b (mem.2 ⟨⟨k2,k3⟩,k1,k4⟩)
 simpa using this
/-! ### Edges,each once -/
def Ml(ps:List E3)(e:E3):List E3:=if iC ps e=0∧iC ps (e.2,e.1)=0 then ps++[e] else ps
def Ca(es:List E3):List E3:=es.foldl Ml []
def Mm(ts:List T3):Int:=((bM ts).length:Int)-(Ca (aQ ts)).length+ts.length
def sY(e:E3):E3:=(e.2,e.1)
theorem Jv(e:E3):sY (sY e)=e:=rfl
theorem uO{es:List E3}{e:E3}:iC es e=0↔e∉es:=by
 have:=oK (es:=es) (e:=e);constructor
 · intro h k;have:=this.2 k;omega
 · intro h;exact Nat.eq_zero_of_not_pos fun k=>h (this.1 k)
def Pd(es:List E3):List E3:=es.filter fun e=>!decide (sY e∈es)
theorem xJ{α:Type}[DecidableEq α]{x:α}:∀{l:List α},l.Nodup→x∈l→(l.filter fun y=>!decide (y=x)).length+1=l.length
 | [],_,h=>by cases h
 | y::l,hn,h=>by
  obtain⟨h1,h2⟩:=f_.1 hn;rw[fc];by_cases e:y=x
  · subst e
    have:(l.filter fun z=>!decide (z=y))=l:=List.filter_eq_self.2 fun z hz=>by
     have:z≠y:=fun e=>h1 (e▸hz);simp[this]
    simp[this]
  · have hx:x∈l:=(an.1 h).resolve_left fun k=>e k.symm
    have ih:=xJ h2 hx;simp[e];omega
theorem abU(es:List E3)(e:E3):Ca (es++[e])=Ml (Ca es) e:=by
 unfold Ca;rw[gl];rfl
theorem abV{α:Type}{P:List α→Prop}(h0:P [])(h1:∀l a,P l→P (l++[a]))(l:List α):P l:=by
 have:∀n (l:List α),l.length=n→P l:=by
  intro n
  induction n with
  | zero=>intro l hl;rw[List.length_eq_zero_iff.1 hl];exact h0
  | succ n ih =>
   intro l hl;have hne:l≠[]:=fun e=>by rw[e] at hl;cases hl
   rw[←List.dropLast_concat_getLast hne];exact h1 _ _ (ih _ (by rw[List.length_dropLast,hl];rfl))
 exact this _ l rfl
theorem amx:∀(es:List E3) (e:E3),(e∈Ca es∨sY e∈Ca es)↔(e∈es∨sY e∈es):=by
 intro es
 induction es using abV with
 | h0=>intro e;exact Iff.rfl
 | h1 es a ih =>
  intro e;rw[abU];unfold Ml;have ia:=ih a;split
  · have:=ih e
    simp only[br,az]
    grind
  · rename_i hn
    rw[uO,uO] at hn;have hn:a∈Ca es∨sY a∈Ca es:=by
     by_cases k:a∈Ca es
     · exact .inl k
     · exact .inr (Decidable.byContradiction fun k2=>hn ⟨k,k2⟩)
    have ha:=ia.1 hn;rw[ih e];simp only[br,az];constructor
    · rintro (h | h)
      · exact .inl (.inl h)
      · exact .inr (.inl h)
    · rintro ((h | rfl) | (h | h))
      · exact .inl h
      · exact ha
      · exact .inr h
      · have:e=sY a:=by rw[←Jv e,h]
        rw[this,Jv];exact ha.symm
theorem amy:∀es:List E3,es.Nodup→(∀e∈es,e.1≠e.2)→2*(Ca es).length=es.length+(Pd es).length:=by
 intro es
 induction es using abV with
 | h0=>intro _ _;rfl
 | h1 es a ih =>
  intro hn hl;obtain⟨n1,n2⟩:=vH.1 hn;have ih:=ih n1 fun e he=>hl e (List.mem_append_left _ he);have hal:=hl a (List.mem_append_right _ (ji _));have hra:sY a≠a:=fun e=>hal (congrArg Prod.fst e).symm;have hla:(Pd (es++[a]))=(es.filter fun e=>!decide (sY e∈es) && !decide (e=sY a))++if sY a∈es then [] else [a]:=by
   unfold Pd;rw[List.filter_append]
   congr 1
   · refine od fun e he=>?_
     rw[←Bool.not_or]
     congr 1
     rw[←Bool.decide_or];refine decide_eq_decide.2 ?_;rw[br,az];exact or_congr Iff.rfl ⟨fun h=>by rw[←h,Jv],fun h=>by rw[h,Jv]⟩
   · rw[fc,List.filter_nil]
     by_cases k:sY a∈es
     · simp[k]
     · simp[k,hra]
  rw[hla,abU];unfold Ml;have hm:=amx es a;by_cases k:sY a∈es
  · have hp:¬(iC (Ca es) a=0∧iC (Ca es) (a.2,a.1)=0):=fun h=>by
     rw[uO,uO] at h;exact (hm.2 (.inr k)).elim h.1 h.2
    rw[if_neg hp,if_pos k,List.append_nil,a_];have h1:(es.filter fun e=>!decide (sY e∈es) && !decide (e=sY a))=(Pd es).filter fun e=>!decide (e=sY a):=by
     unfold Pd;rw[List.filter_filter];exact od fun e _=>Bool.and_comm _ _
    have h2:sY a∈Pd es:=by
     unfold Pd;refine dh.2 ⟨k,?_⟩;rw[Jv];simp[n2]
    have h3:=xJ (n1.sublist (l₁:=Pd es) jt) h2;rw[h1];simp only[oe];omega
  · have hp:iC (Ca es) a=0∧iC (Ca es) (a.2,a.1)=0:=by
     rw[uO,uO];have:¬(a∈Ca es∨sY a∈Ca es):=fun h=>(hm.1 h).elim n2 k;exact⟨fun h=>this (.inl h),fun h=>this (.inr h)⟩
    rw[if_pos hp,if_neg k,a_,a_,a_];have h1:(es.filter fun e=>!decide (sY e∈es) && !decide (e=sY a))=Pd es:=by
     unfold Pd;refine od fun e he=>?_;have:e≠sY a:=fun h=>k (h▸he);simp[this]
    rw[h1];simp only[oe];omega
theorem Xs{α:Type}[DecidableEq α]{l m:List α}(h1:l.Nodup)(h2:m.Nodup)(h:∀x,x∈l↔x∈m):l.length=m.length :=
 Nat.le_antisymm (mZ h1 fun x hx=>(h x).1 hx) (mZ h2 fun x hx=>(h x).2 hx)
theorem On(nd:(aQ ts).Nodup):(Pd (aQ ts)).length=(aY ts).length:=by
 refine Xs (nd.sublist jt) (rP ts).nodup fun e=>?_;rw[Dn];unfold Pd wM;rw[dh,gi,decide_eq_false_iff_not];rfl
theorem adX(dg:tG ts):∀e∈aQ ts,e.1≠e.2:=fun e he=>by
 obtain⟨a,b⟩:=e;obtain⟨y,h⟩:=lF.1 he;exact (jI dg h).1
theorem Qd(dg:tG ts)(nd:(aQ ts).Nodup):2*(Ca (aQ ts)).length=3*ts.length+(aY ts).length:=by
 rw[amy _ nd (adX dg),On nd,mH];omega
/-! ### Triangles -/
def Gs(u v:P3)(t:T3):Bool:=t.has u&&t.has v
theorem abW{u v:P3}(hne:u≠v):∀ts:List T3,tG ts→(ts.filter (Gs u v)).length=iC (aQ ts) (u,v)+iC (aQ ts) (v,u)
 | [],_=>rfl
 | t::ts,dg=>by
  have ih:=abW hne ts fun s hs=>dg s (bg _ hs);obtain⟨k1,k2,k3⟩:=apm (dg t (bh ..));have e:aQ (t::ts)=(t.a,t.b)::(t.b,t.c)::(t.c,t.a)::aQ ts:=rfl;rw[e,nP,nP,nP,nP,nP,nP,fc];simp only[fk];have h:Gs u v t=true↔(t.a=u∧t.b=v)∨(t.b=u∧t.c=v)∨(t.c=u∧t.a=v)∨(t.a=v∧t.b=u)∨(t.b=v∧t.c=u)∨(t.c=v∧t.a=u):=by
   unfold Gs;rw[ba,jQ,jQ]
   grind
  by_cases hb:Gs u v t=true
  · rw[if_pos hb,ay,ih]
    have h':=h.1 hb
    grind
  · rw[if_neg hb,ih]
    have h':=fun k=>hb (h.2 k)
    grind
section
variable {us:List T3} {u v c1 c2:P3}
theorem eO.faces(c:eO us u v c1 c2):(eZ us u v).length+2=us.length:=by
 unfold eZ;rw[eH];have h1:(sU u v us).length=(us.filter fun t=>(oL u v t).nd).length:=by rw[Tf,bf]
 have h2:(us.filter fun t=>(oL u v t).nd)=us.filter fun t=>!Gs u v t:=od fun t ht=>by
  have:=apr (u:=u) (v:=v) c.ne (nd_of (c.dg t ht));unfold Gs;cases hm:(oL u v t).nd <;> cases hu:t.has u <;> cases hv:t.has v <;> simp[hm,hu,hv] at this ⊢
 have h3:(us.filter (Gs u v)).length=2:=by
  rw[abW c.ne us c.dg];have k1:=Fg.1 c.nd (u,v);have k2:=Fg.1 c.nd (v,u);have k3:=oK.2 (qB c.h1);have k4:=oK.2 (qB c.h2);omega
 have h4:∀l:List T3,(l.filter (Gs u v)).length+(l.filter fun t=>!Gs u v t).length=l.length:=fun l=>by
  induction l with
  | nil=>rfl
  | cons t l ih =>
   rw[fc,fc];cases Gs u v t <;> simp <;> omega
 have:=h4 us;rw[h1,h2];omega
theorem eO.cors(c:eO us u v c1 c2)(x:P3):x∈cA (eZ us u v)↔x∈cA us∧x≠u:=by
 constructor
 · intro h
   obtain⟨a,b,h⟩:=lZ.1 h;refine⟨?_,(c.nu h).1⟩;obtain⟨⟨p',x',y',h,hp,_,_⟩,_⟩:=Hp.1 h;by_cases e:p'=u
   · rw[e,lB] at hp;rw[←hp];exact lZ.2 ⟨_,_,c.h2⟩
   · rw[gN e] at hp;rw[←hp];exact lZ.2 ⟨_,_,h⟩
 · rintro⟨h,hne⟩
   have:=c.img h;rwa [gN hne] at this
theorem rR(ts:List T3):(bM ts).Nodup:=by
 have h:=qG ts;unfold rD at h;refine oa (S:=fun a b:P3=>a≠b) (fun {a b} k e=>?_) h;rw[e] at k;exact P3.lt_irrefl b k
theorem eO.ncors(c:eO us u v c1 c2):(bM (eZ us u v)).length+1=(bM us).length:=by
 have hu:u∈bM us:=iU.2 (lZ.2 ⟨_,_,c.h1⟩);rw[←xJ (rR us) hu]
 congr 1
 refine Xs (rR _) ((rR us).sublist jt) fun x=>?_;rw[dh,iU,iU,c.cors];simp
theorem eO.euler(c:eO us u v c1 c2):Mm (eZ us u v)=Mm us:=by
 have h1:=Qd c.dg c.nd;have h2:=Qd c.no_deg c.nodup;have h3:=c.faces;have h4:=c.ncors;have h5:aY (eZ us u v)=aY us:=wN c.bord;rw[h5] at h2;unfold Mm;omega
end
/-! ### All along -/
def amz(D:List Mv)(x:P3):P3:=(cD D x).getD x
structure Tg(l0 l:List T3)(D:List Mv):Prop where
 ck:dC true l=0
 acc:Bz l l0 (amz D)
 nk:(D.map (·.1)).Nodup
 gone:∀m∈D,m.1∉cA l∧m.2∈cA l∧m.1∈cA l0
 num:(bM l).length+D.length=(bM l0).length
 eul:Mm l=Mm l0
 le:l.length≤l0.length
theorem Tg.zero(h:dC true l=0):Tg l l []:=by
 obtain⟨h1,h2,h3⟩:=nB.1 h;exact⟨h,Bz.refl h1 h2 h3,jo,fun m h=>(by cases h),rfl,rfl,ao _⟩
theorem afl(x:P3):cD (D.map fun e=>(e.1,f e.2)) x=(cD D x).map f:=by
 induction D with
 | nil=>rfl
 | cons m D ih =>
  rw[bp];unfold cD;simp only;split
  · rfl
  · exact ih
theorem Th{v:P3}(h:u∉D.map (·.1)):(Lf D u v).map (·.1)=D.map (·.1)++[u]:=by
 unfold Lf;have e:(D.map fun e=>(e.1,jW u v e.2)).map (·.1)=D.map (·.1):=by
  rw[jb];rfl
 rw[uM,e,if_neg h]
theorem amA{v:P3}(hn:(D.map (·.1)).Nodup)(h:u∉D.map (·.1))(hm:m∈Lf D u v):m=(u,v)∨∃e∈D,m=(e.1,jW u v e.2):=by
 have hk:((Lf D u v).map (·.1)).Nodup:=by
  rw[Th h];exact vH.2 ⟨hn,h⟩
 have hg:cD (Lf D u v) m.1=some m.2:=pE hk hm;unfold Lf at hg;rw[kN,afl] at hg;split at hg
 · rename_i e
   cases hg;left;rw[e]
 · obtain⟨b,hb,hb2⟩:=Option.map_eq_some_iff.1 hg
   exact .inr ⟨(m.1,b),sD hb,by rw[hb2]⟩
theorem Tg.step{l0:List T3}{v:P3}(r:Tg l0 l D)(h:cZ l u v=true):Tg l0 (eZ l u v) (Lf D u v):=by
 unfold cZ at h;simp only[ba] at h;obtain⟨⟨⟨⟨⟨hj,hl⟩,_⟩,hi⟩,_⟩,_⟩:=h;obtain⟨c1,c2,c⟩:=amw r.ck hj hl;have hu:u∈cA l:=lZ.2 ⟨_,_,c.h1⟩;have hv:v∈cA l:=lZ.2 ⟨_,_,c.h2⟩;have hk:u∉D.map (·.1):=fun hm=>by
  obtain⟨m,hm',rfl⟩:=cw.1 hm;exact (r.gone m hm').1 hu
 have hvc:v∈cA (eZ l u v):=(c.cors v).2 ⟨hv,Ne.symm c.ne⟩;refine⟨c.check,((c.acc hi).trans r.acc).congr fun x hx=>?_,?_,fun m hm=>?_,?_,c.euler.trans r.eul,?_⟩
 · unfold amz Lf
   rw[kN,afl];split
   · rename_i e
     subst e;rw[kO.2 hk];exact lB
   · rename_i e
     cases cD D x with
     | none=>exact gN (Ne.symm e)
     | some y=>rfl
 · rw[Th hk]
   exact vH.2 ⟨r.nk,hk⟩
 · rcases amA r.nk hk hm with rfl | ⟨e,he,rfl⟩
   · exact⟨fun h=>((c.cors u).1 h).2 rfl,hvc,r.acc.sub u hu⟩
   · obtain⟨g1,g2,g3⟩:=r.gone e he
     exact⟨fun h=>g1 ((c.cors _).1 h).1,c.img g2,g3⟩
 · have h1:=congrArg List.length (Th (v:=v) hk)
   rw[bf,a_,bf,oe] at h1;have:=c.ncors;have:=r.num;omega
 · have:=c.faces
   have:=r.le;omega
theorem Tg.run{l0:List T3}{want:Int}:∀(n:Nat) {l:List T3} {q:P3→List Int} {D:List Mv},Tg l0 l D→Tg l0 (eU n want l q D).1 (eU n want l q D).2
 | 0,_,_,_,r=>r
 | n+1,l,q,D,r=>by
  unfold eU;split
  · exact r
  · cases hb:oM l q with
    | none=>exact r
    | some c=>exact Tg.run n (r.step (yC hb).2)
/-! ### The ends of fans -/
/-! ### Accepted -/
structure Mvs(l us:List T3)(ms:List Mv):Prop where
 pl:(ms.map (·.1)).Pairwise P3.Lt
 ic:∀m∈ms,m.1∈cA us
 nl:∀m∈ms,m.1∉cA l
 to:∀m∈ms,m.2∈cA l
theorem vR   : x∈cA (bK l)↔x∈cA l:=by
 rw[lZ,lZ];exact exists_congr fun a=>exists_congr fun b=>Td
theorem yG   : t∈bK l↔∃s∈l,dR s=t:=by
 rw[(jY l).mem_iff,cw]
theorem Ti(e:E3):wM (bK l) e↔wM l e:=by
 unfold wM;rw[(nD l).mem_iff,(nD l).mem_iff]
theorem Mn  : tG (bK l)↔tG l:=by
 constructor
 · intro h t ht
   rw[←abS (jC t)];exact h _ (yG.2 ⟨t,ht,rfl⟩)
 · intro h t ht
   obtain⟨s,hs,rfl⟩:=yG.1 ht;rw[abS (jC s)];exact h s hs
theorem Mo(p:P3):Nx (bK l) p=Nx l p:=funext fun _=>funext fun _=>propext Td
theorem Oo  : dC true (bK l)=0↔dC true l=0:=by
 rw[nB,nB,Mn,(nD l).nodup_iff];simp only[Mo]
theorem agH(l:List T3):(wD f (bK l)).Perm (wD f l):=by
 refine ((jY l).flatMap_right (hF f)).trans ?_;have e:(l.map dR).flatMap (hF f)=wD f l:=by
  unfold wD;rw[lx]
  congr 1
  exact funext fun t=>aai (jC t)
 rw[e]
theorem Bz.of_canon(h:Bz l (bK s) f):Bz l s f:=by
 refine⟨Mn.1 h.dg,(nD s).nodup_iff.1 h.nd,fun v=>Mo (l:=s) v▸h.pin v,fun e=>(Ti e).symm.trans (h.bd e),fun x hx=>vR.1 (h.sub x hx),h.fix,fun x hx=>h.img x (vR.2 hx),(agH s).symm.trans h.hit,fun t ht x y hx hy=>?_,fun e he h1 h2=>(nD s).mem_iff.1 (h.keep e he h1 h2),fun v a z hb hf=>Mo (l:=s) v▸h.fan v a z hb hf⟩;exact h.pair (dR t) (yG.2 ⟨t,ht,rfl⟩) x y (by rw[abK (jC t)];exact hx) (by rw[abK (jC t)];exact hy)
/-! ### The moves in order -/
theorem Mp(p:P3):∀l:List P3,(agD p l).Perm (p::l)
 | []=>.refl _
 | q::l=>by
  rw[agD];split
  · exact ((Mp p l).cons q).trans (.swap ..)
  · exact .refl _
theorem iP:∀l:List P3,(yB l).Perm l
 | []=>.refl _
 | p::l=>(Mp p _).trans ((iP l).cons p)
theorem Oq{p:P3}:∀{l:List P3},l.Pairwise P3.Lt→p∉l→(agD p l).Pairwise P3.Lt
 | [],_,_=>List.pairwise_singleton _ _
 | q::l,h,hn=>by
  rw[agD];obtain⟨h1,h2⟩:=bu.1 h;split
  · rename_i k
    refine bu.2 ⟨fun x hx=>?_,Oq h2 fun k=>hn (bg _ k)⟩;rcases an.1 ((Mp p l).subset hx) with rfl | hx
    · exact k
    · exact h1 x hx
  · rename_i k
    have hq:p.Lt q:=by
     rcases lt_tri q p with e | e | e
     · exact absurd e k
     · exact absurd (e▸bh ..) hn
     · exact e
    refine bu.2 ⟨fun x hx=>?_,h⟩;rcases an.1 hx with rfl | hx
    · exact hq
    · exact P3.lt_trans hq (h1 x hx)
theorem Au:∀{l:List P3},l.Nodup→(yB l).Pairwise P3.Lt
 | [],_=>List.Pairwise.nil
 | p::l,h=>by
  obtain⟨h1,h2⟩:=f_.1 h;exact Oq (Au h2) fun k=>h1 ((iP l).mem_iff.1 k)
theorem Av(D:List Mv):(iF D).map (·.1)=yB (D.map (·.1)):=by
 unfold iF;rw[jb];exact List.map_id _
theorem agI(hn:(D.map (·.1)).Nodup)(x:P3):yA (iF D) x=amz D x:=by
 rw[ae5];unfold amz;have hk:((iF D).map (·.1)).Nodup:=by rw[Av];exact (iP _).nodup_iff.2 hn
 cases h:cD D x with
 | none =>
  have h1:x∉(iF D).map (·.1):=by
   rw[Av,(iP _).mem_iff];exact kO.1 h
  rw[kO.2 h1]
 | some y =>
  have h1:x∈yB (D.map (·.1)):=(iP _).mem_iff.2 (cw.2 ⟨_,sD h,rfl⟩);have h2:(x,y)∈iF D:=cw.2 ⟨x,h1,by rw[h];rfl⟩;rw[pE hk h2]
theorem Mq(hm:m∈iF D):m∈D:=by
 obtain⟨x,hx,rfl⟩:=cw.1 hm;have hx:=(iP _).mem_iff.1 hx;cases h:cD D x with
 | none=>exact absurd hx (kO.1 h)
 | some y=>exact sD h
theorem yH(D:List Mv):(iF D).length=D.length:=by
 have:=congrArg List.length (Av D);rw[bf,(iP _).length_eq,bf] at this;exact this
structure Tj(s:List T3)(r:List T3)(ms:List Mv):Prop where
 ck:dC true r=0
 acc:Bz r s (yA ms)
 mv:Mvs r s ms
 num:(bM r).length+ms.length=(bM s).length
 eul:Mm r=Mm s
 le:r.length≤s.length
theorem Jw{m:List T3}(h:∀x,x∈cA l↔x∈cA m):bM l=bM m:=by
 have k:∀x,x∈bM l↔x∈bM m:=fun x=>by rw[iU,iU];exact h x
 exact Sc (qG l) (qG m) k
theorem agJ(dg:tG s)(nd:(aQ s).Nodup):Mm (bK s)=Mm s:=by
 have h1:=Qd dg nd;have h2:=Qd (Mn.2 dg) ((nD s).nodup_iff.2 nd);rw[wN Ti,eH] at h2;unfold Mm;rw[Jw fun x=>vR,eH];omega
theorem Xt(h:dC true s=0):Tj s (eL s want).1 (eL s want).2:=by
 have h0:=Oo.2 h;unfold eL;rw[if_neg (fun k=>k h0)];have r:=Tg.run (want:=want) (bK s).length (q:=sV (bK s)) (Tg.zero h0);obtain⟨h1,h2,h3⟩:=nB.1 h;refine⟨r.ck,(r.acc.congr fun x _=>(agI r.nk x).symm).of_canon,⟨by rw[Av];exact Au r.nk,fun m hm=>vR.1 (r.gone m (Mq hm)).2.2,fun m hm=>(r.gone m (Mq hm)).1,fun m hm=>(r.gone m (Mq hm)).2.1⟩,?_,r.eul.trans (agJ h1 h2),?_⟩
 · rw[yH,←Jw fun x=>vR (l:=s)]
   exact r.num
 · rw[←eH s];exact r.le
/-! ### Boxes -/
theorem amB(h:t.nd=true):dR (dR t)=dR t:=vK (jC t) h
/-! ### What clear says -/
/-! ### The corners of a triangle,in order -/
/-! ### The same conditions -/
theorem adY{q:P3→List Int}{cs:List lU}{c:lU}{k:Nat}(hm:∀d,d∈cs↔d∈adK l q)(hs:cs.Pairwise fun a b=>¬b.Lt a)(hk:cs[k]? = some c)(ha:cZ l c.u c.v=true)(hb:∀j d,j<k→cs[j]? = some d→cZ l d.u d.v=false):oM l q=some c:=by
 refine amr (dh.2 ⟨(hm c).1 (bj hk),ha⟩) fun d hd hlt=>?_;obtain⟨h1,h2⟩:=dh.1 hd;obtain⟨j,hj⟩:=List.mem_iff_getElem?.1 ((hm d).2 h1);rcases Nat.lt_trichotomy j k with h | h | h
 · rw[hb j d h hj] at h2;cases h2
 · rw[h,hk] at hj;cases hj;exact lU.lt_irrefl _ hlt
 · obtain⟨kl,rfl⟩:=ap.1 hk
   obtain⟨jl,rfl⟩:=ap.1 hj;exact List.pairwise_iff_getElem.1 hs k j kl jl h hlt
theorem adZ{q:P3→List Int}{cs:List lU}(hm:∀d,d∈cs↔d∈adK l q)(hb:∀d∈cs,cZ l d.u d.v=false):oM l q=none:=by
 refine Mf.2 (List.filter_eq_nil_iff.2 fun d hd=>?_);rw[hb d ((hm d).2 hd)];exact fz
theorem Hq{t:List T3}(h:bK s=bK t):eL s want=eL t want:=by
 unfold eL;rw[h]
theorem Hr{s t:List T3}{f:Nat→Nat}(hl:t.length=s.length)(hf:∀i,i<s.length→f i<s.length)(hi:∀i j,i<s.length→j<s.length→f i=f j→i=j)
 (ht:∀i x,t[i]? = some x→∃y,s[f i]? = some y∧dR x=dR y):(t.map dR).Perm (s.map dR):=by
 have e1:t.map dR=(c_ s.length).map fun i=>dR ((s[f i]?).getD ⟨⟨0,0,0⟩,⟨0,0,0⟩,⟨0,0,0⟩⟩):=by
  refine List.ext_getElem (by simp[hl]) fun i h1 h2=>?_;rw[bf] at h1;rw[j_,j_,pd];obtain⟨y,hy,e⟩:=ht i _ (ak h1);rw[hy,e];rfl
 have e2:s.map dR=(c_ s.length).map fun i=>dR ((s[i]?).getD ⟨⟨0,0,0⟩,⟨0,0,0⟩,⟨0,0,0⟩⟩):=by
  refine List.ext_getElem (by simp) fun i h1 h2=>?_;rw[bf] at h1;rw[j_,j_,pd,ak h1];rfl
 have e3:((c_ s.length).map f).Perm (c_ s.length):=by
  have n1:((c_ s.length).map f).Nodup:=by
   rw[pg,jn];exact List.nodup_range.imp_of_mem fun {a b} ha hb h e=>h (hi a b (fe.1 ha) (fe.1 hb) e)
  have sub:∀x∈(c_ s.length).map f,x∈c_ s.length:=fun x hx=>by
   obtain⟨i,h,rfl⟩:=cw.1 hx;exact fe.2 (hf i (fe.1 h))
  refine (List.perm_ext_iff_of_nodup n1 List.nodup_range).2 fun x=>⟨sub x,fun hx=>?_⟩
  refine Decidable.byContradiction fun hn=>?_;have h1:=mZ n1 (m:=(c_ s.length).erase x) fun y hy=>by
   have hne:y≠x:=fun e=>hn (e▸hy);exact (List.mem_erase_of_ne hne).2 (sub y hy)
  rw[List.length_erase_of_mem hx,bf] at h1;have:=List.length_pos_of_mem hx;omega
 rw[e1,e2];have:=e3.map fun i=>dR ((s[i]?).getD ⟨⟨0,0,0⟩,⟨0,0,0⟩,⟨0,0,0⟩⟩);rw[jb] at this;exact this
theorem aat{n b i j:Nat}(h7:n%7≠0)(hi:i<n)(hj:j<n)(h:(i*7+b)%n=(j*7+b)%n):i=j:=by
 have key:∀{i j:Nat},i≤j→j<n→(i*7+b)%n=(j*7+b)%n→i=j:=fun {i j} hij hj h=>by
  have h1:n∣7*(j-i):=by
   have:=Nat.sub_mod_eq_zero_of_mod_eq h.symm;have e:j*7+b-(i*7+b)=7*(j-i):=by omega
   rw[e] at this;exact Nat.dvd_of_mod_eq_zero this
  have hc:Nat.Coprime n 7:=by
   have h2:qq n 7∣7:=Nat.gcd_dvd_right n 7;have h3:qq n 7≤7:=Nat.le_of_dvd (by decide) h2;have h4:qq n 7∣n:=Nat.gcd_dvd_left n 7;show qq n 7=1
   generalize hg:qq n 7=g at h2 h3 h4;have:g=0∨g=1∨g=2∨g=3∨g=4∨g=5∨g=6∨g=7:=by omega
   rcases this with rfl | rfl | rfl | rfl | rfl | rfl | rfl | rfl
   · omega
   · rfl
   · omega
   · omega
   · omega
   · omega
   · omega
   · exact absurd (Nat.mod_eq_zero_of_dvd h4) h7
  have h5:n∣(j-i):=hc.dvd_of_dvd_mul_left h1;rcases Nat.eq_zero_or_pos (j-i) with h6 | h6
  · omega
  · have:=Nat.le_of_dvd h6 h5
    omega
 rcases Nat.le_total i j with hij | hij
 · exact key hij hj h
 · exact (key hij hi h.symm).symm
theorem aau{n b i j:Nat}(hi:i<n)(hj:j<n)(h:(i+b)%n=(j+b)%n):i=j:=by
 have key:∀{i j:Nat},i≤j→j<n→(i+b)%n=(j+b)%n→i=j:=fun {i j} hij hj h=>by
  have:=Nat.sub_mod_eq_zero_of_mod_eq h.symm;have e:j+b-(i+b)=j-i:=by omega
  rw[e,Nat.mod_eq_of_lt (by omega)] at this;omega
 rcases Nat.le_total i j with hij | hij
 · exact key hij hj h
 · exact (key hij hi h.symm).symm
/-! ### The example: the octahedron -/
def oct(n:Int):List T3 :=
 let x0:P3:=⟨-n,0,0⟩;let x1:P3:=⟨n,0,0⟩;let y0:P3:=⟨0,-n,0⟩;let y1:P3:=⟨0,n,0⟩;let z0:P3:=⟨0,0,-n⟩;let z1:P3:=⟨0,0,n⟩
 [⟨y0,x0,z0⟩,⟨x1,y0,z0⟩,⟨x0,y1,z0⟩,⟨y1,x1,z0⟩,⟨x0,y0,z1⟩,⟨y0,x1,z1⟩,⟨y1,x0,z1⟩,⟨x1,y1,z1⟩]
def Fy:List T3:=bK (oct 10)
theorem agK:dC true Fy=0:=by kernel_rfl
theorem amC:cZ Fy ⟨10,0,0⟩ ⟨0,10,0⟩=true:=by kernel_rfl
theorem amD:cZ Fy ⟨10,0,0⟩ ⟨-10,0,0⟩=false:=by kernel_rfl
theorem amE:(eZ Fy ⟨10,0,0⟩ ⟨0,10,0⟩).length=6:=by kernel_rfl
theorem abX:((eL Fy 7).1.length,(eL Fy 7).2)=(6,[(⟨-10,0,0⟩,⟨0,-10,0⟩)]):=by kernel_rfl
end Go.Lith
namespace Go.Proofs.YtfekpcimgncioaaGreatDoor
open Go.Proofs.Tryz
open Go.RowKit Go.Lith
variable{s t:T3}{k cap cap2:Nat}
abbrev lM:=@underlying22
abbrev Aw:=@underlying261
abbrev Hs:=@underlying262
set_option maxRecDepth 100000
attribute [local irreducible] wpList wpQuiet fA bF cG Code.wp
attribute [local congr] nO fK fM fN fO fP iY fQ fR fS fT fU fV fW fX fY fZ gA dX dY gB gC gE gF gG jA cQ cR cE cP gD iZ dZ eA eB gH gI jD
theorem afm(h:¬¬(s.a.x=t.a.x∧s.a.y=t.a.y∧s.a.z=t.a.z∧s.b.x=t.b.x∧s.b.y=t.b.y∧s.b.z=t.b.z∧s.c.x=t.c.x∧s.c.y=t.c.y∧s.c.z=t.c.z)):s=t:=by
 obtain⟨h1,h2,h3,h4,h5,h6,h7,h8,h9⟩:=Classical.not_not.1 h;exact Md (P3.eq h1 h2 h3) (P3.eq h4 h5 h6) (P3.eq h7 h8 h9)
theorem afn(h:¬(s.a.x=t.a.x∧s.a.y=t.a.y∧s.a.z=t.a.z∧s.b.x=t.b.x∧s.b.y=t.b.y∧s.b.z=t.b.z∧s.c.x=t.c.x∧s.c.y=t.c.y∧s.c.z=t.c.z)):s≠t:=fun k=>h (by rw[k];simp only[and_self])
theorem afo{s t:E3}(h:¬¬(s.1.x=t.1.x∧s.1.y=t.1.y∧s.1.z=t.1.z∧s.2.x=t.2.x∧s.2.y=t.2.y∧s.2.z=t.2.z)):s=t:=by
 obtain⟨h1,h2,h3,h4,h5,h6⟩:=Classical.not_not.1 h;exact Prod.ext (P3.eq h1 h2 h3) (P3.eq h4 h5 h6)
theorem afp{s t:E3}(h:¬(s.1.x=t.1.x∧s.1.y=t.1.y∧s.1.z=t.1.z∧s.2.x=t.2.x∧s.2.y=t.2.y∧s.2.z=t.2.z)):s≠t:=fun k=>h (by rw[k];simp only[and_self])
theorem Tk{α:Type}{xs ys:List α}(h:xs.take k=ys.take k)(hx:xs.length≤k)(hy:ys.length≤k):xs=ys:=by rwa [bi hx,bi hy] at h
theorem atd{n k:Int}(hi:rN n)(h0:0<k)(h1:k<4611686018427387904):fF prog 53 [.int .i64 n,.int .i64 k] (.int .i64 (n%k)):=by
 intro w;refine⟨bP func53 (by kernel_rfl),?_⟩;have m:=Mem.refl w;haveI:Iw n:=⟨hi⟩
 have hb:=an1 (n:=n) h0
 go_enter func53,ntmps53
 apply fG 8 [0] m;simp only[↓aC];refine aB (cL rfl rfl (by omega) rfl) ?_;apply aL 3 [0] m;simp only[↓aC];refine⟨by omega,?_⟩;refine aB (cL rfl rfl (by omega) (alO h0)) ?_;apply aL 3 [] m;simp only[↓aC];exact aT rfl rfl ⟨_,rfl,m.ext,rfl⟩
theorem Fl{xs ys:List T3}{N M:Nat}{A A2:Option Addr}(w:aj)(hT:bQ w A N xs)(hU:bQ w A2 M ys)(hN:N≤100000000):dK prog 21 [.slice A N cap,.slice A2 M cap2] w (fun v _=>v=.bool (decide (xs=ys))):=by
 refine⟨bP func21 (by kernel_rfl),?_⟩;have m:=Mem.refl w;have hxl:=hT.len;have hyl:=hU.len
 go_enter func21,ntmps21
 apply fG 13 [0,0] m;simp only[↓aC,eV];refine bA rfl ?_ ?_<;>intro hc1
 ·
  apply aK 5 [] m;simp only[↓aC];refine aT rfl rfl ?_;try simp only[zD,zE]
  exact⟨_,rfl,m.ext,by rw[decide_eq_false (fun h=>hc1 (by subst h;omega))]⟩
 ·
  apply aK 7 [0] m;simp only[↓aC];refine bX [5] [4,11,12,13,14,15,16,17,18,19,20,21,22,23,24,25] (fun n vs wl=>∃(k:Nat),vs=[.int .i64 (k:Int)]∧Mem w wl []∧(xs.take k=ys.take k)∧(k≤N)∧(n=N-k)) ?_ ?_
  ·
   exact⟨_,0,rfl,m,(by simp),cq _,rfl⟩
  · intro n vs wr hI u K1 hK1
    obtain⟨k,rfl,m,hq,hk,hn⟩:=hI;simp only[zu,zF,zG];apply aK 8 [0,0] m;simp only[↓aC,eV];refine bA rfl ?_ ?_<;>intro hc2
    ·
     obtain⟨x,hx,_,a,hA1,hrow1⟩:=hT.get (i:=k) (by omega);subst hA1;obtain⟨y,hy,_,a2,hA2,hrow2⟩:=hU.get (i:=k) (by omega);subst hA2;apply aK 4 [0] m;simp only[↓aC];refine mq m aD (by kernel_rfl) (aI aG (aI aG ?_));simp only[zz];refine aI (aF bL aO rfl rfl (by omega) (by omega) (cH (ag _))) ?_;simp only[zz];refine ql rfl (fun u m=>((hrow1.ext m.ext).lies cK aO)) ?_;simp only[zz];refine aI aG (aI aG ?_);simp only[zz];refine aI (aF bL aO rfl rfl (by omega) (by omega) (cH (ag _))) ?_;simp only[zz];refine ql rfl (fun u m=>((hrow2.ext m.ext).lies cK aO)) ?_;simp only[zz];refine aI (agl rfl rfl) (bE ?_);intro u m;refine gc ?_;simp only[zz];refine bA rfl ?_ ?_<;>intro hc3
     ·
      apply aK 5 [] m;simp only[↓aC];refine aT rfl rfl ?_;try simp only[zD,zE]
      exact⟨_,rfl,m.ext,by rw[decide_eq_false (fun h=>afn hc3 (by subst h;exact ep (hx.symm.trans hy)))]⟩
     ·
      have hxy:x=y:=afm hc3;subst hxy;apply aK 7 [0] m;simp only[↓aC];refine⟨by omega,?_⟩;exact hK1 (N-(k+1)) _ _ (by omega) (by kernel_rfl) ⟨k+1,rfl,m,(by rw[bY hx,bY hy,hq]),by omega,rfl⟩
    ·
     apply aK 6 [] m;simp only[↓aC];refine aT rfl rfl ?_;try simp only[zD,zE]
     exact⟨_,rfl,m.ext,by rw[decide_eq_true (Tk hq (by omega) (by omega))]⟩
theorem Jy{xs ys:List E3}{N M:Nat}{A A2:Option Addr}(w:aj)(hT:vY bO 6 w A N xs)(hU:vY bO 6 w A2 M ys)(hN:N≤100000000):dK prog 26 [.slice A N cap,.slice A2 M cap2] w (fun v _=>v=.bool (decide (xs=ys))):=by
 refine⟨bP func26 (by kernel_rfl),?_⟩;have m:=Mem.refl w;have hxl:=hT.len;have hyl:=hU.len
 go_enter func26,ntmps26
 apply fG 13 [0,0] m;simp only[↓aC,Xn];refine bA rfl ?_ ?_<;>intro hc1
 ·
  apply aK 5 [] m;simp only[↓aC];refine aT rfl rfl ?_;try simp only[zD,zE]
  exact⟨_,rfl,m.ext,by rw[decide_eq_false (fun h=>hc1 (by subst h;omega))]⟩
 ·
  apply aK 7 [0] m;simp only[↓aC];refine bX [5] [4,11,12,13,14,15,16,17,18,19,20,21,22,23,24,25] (fun n vs wl=>∃(k:Nat),vs=[.int .i64 (k:Int)]∧Mem w wl []∧(xs.take k=ys.take k)∧(k≤N)∧(n=N-k)) ?_ ?_
  ·
   exact⟨_,0,rfl,m,(by simp),cq _,rfl⟩
  · intro n vs wr hI u K1 hK1
    obtain⟨k,rfl,m,hq,hk,hn⟩:=hI;simp only[zu,zF,zG];apply aK 8 [0,0] m;simp only[↓aC,Xn];refine bA rfl ?_ ?_<;>intro hc2
    ·
     obtain⟨x,hx,a,hA1,hrow1⟩:=hT.get (i:=k) (by omega);subst hA1;obtain⟨y,hy,a2,hA2,hrow2⟩:=hU.get (i:=k) (by omega);subst hA2;apply aK 4 [0] m;simp only[↓aC];refine mq m aD (by kernel_rfl) (aI aG (aI aG ?_));simp only[zz];refine aI (aF xX mD rfl rfl (by omega) (by omega) (cH (ag _))) ?_;simp only[zz];refine ql rfl (fun u m=>(show eQ _ _ _ _ (ed x) from (hrow1.ext m.ext).lies ail mD)) ?_;simp only[zz];refine aI aG (aI aG ?_);simp only[zz];refine aI (aF xX mD rfl rfl (by omega) (by omega) (cH (ag _))) ?_;simp only[zz];refine ql rfl (fun u m=>(show eQ _ _ _ _ (ed y) from (hrow2.ext m.ext).lies ail mD)) ?_;simp only[zz];refine aI (agm rfl rfl) (bE ?_);intro u m;refine gc ?_;simp only[zz];refine bA rfl ?_ ?_<;>intro hc3
     ·
      apply aK 5 [] m;simp only[↓aC];refine aT rfl rfl ?_;try simp only[zD,zE]
      exact⟨_,rfl,m.ext,by rw[decide_eq_false (fun h=>afp hc3 (by subst h;exact ep (hx.symm.trans hy)))]⟩
     ·
      have hxy:x=y:=afo hc3;subst hxy;apply aK 7 [0] m;simp only[↓aC];refine⟨by omega,?_⟩;exact hK1 (N-(k+1)) _ _ (by omega) (by kernel_rfl) ⟨k+1,rfl,m,(by rw[bY hx,bY hy,hq]),by omega,rfl⟩
    ·
     apply aK 6 [] m;simp only[↓aC];refine aT rfl rfl ?_;try simp only[zD,zE]
     exact⟨_,rfl,m.ext,by rw[decide_eq_true (Tk hq (by omega) (by omega))]⟩
theorem Ot(h:k<8):IntKind.i64.wrap (el IntKind.i64.bits (k:Int) &&& el IntKind.i64.bits 1).toNat=((k%2:Nat):Int):=by
 rcases k with _ | _ | _ | _ | _ | _ | _ | _ | k <;> first | rfl | omega
theorem ad0  : Int.fdiv (k:Int) (2^min (ku 1) IntKind.i64.bits)=((k / 2:Nat):Int):=by
 rw[show (2:Int)^min (ku 1) IntKind.i64.bits=2 from rfl,il _ (by decide)];rfl
theorem Tl  : Int.fdiv (k:Int) (2^min (ku 2) IntKind.i64.bits)=((k / 4:Nat):Int):=by
 rw[show (2:Int)^min (ku 2) IntKind.i64.bits=4 from rfl,il _ (by decide)];rfl
theorem ajw{w:aj}{g i:Nat}{x y z u v t:Int}{T:TypeId}(hB:gT w g [.int .i64 x,.int .i64 y,.int .i64 z,.int .i64 u,.int .i64 v,.int .i64 t] T)(hi:i<2):eQ prog w 30 ⟨g,i*3,none⟩ (pt (if i=0 then ⟨x,y,z⟩ else ⟨u,v,t⟩)):=by
 rcases i with _ | _ | i
 · exact hB.lies aH aA rfl rfl
 · exact hB.lies aH aA rfl rfl
 · omega
def ap2(k:Nat):P3:=if k%2=0 then ⟨-10,0,0⟩ else ⟨10,0,0⟩
def ap3(k:Nat):P3:=if k / 2%2=0 then ⟨0,-10,0⟩ else ⟨0,10,0⟩
def ap4(k:Nat):P3:=if k / 4=0 then ⟨0,0,-10⟩ else ⟨0,0,10⟩
theorem o_y(h:k<8)(hp:Int.tmod (((k%2:Nat):Int)+((k / 2%2:Nat):Int)+((k / 4:Nat):Int)) 2=1):(oct 10)[k]? = some ⟨ap2 k,ap3 k,ap4 k⟩:=by
 rcases k with _ | _ | _ | _ | _ | _ | _ | _ | k <;> first | rfl | (revert hp;decide) | omega
theorem o_n(h:k<8)(hp:¬Int.tmod (((k%2:Nat):Int)+((k / 2%2:Nat):Int)+((k / 4:Nat):Int)) 2=1):(oct 10)[k]? = some ⟨ap3 k,ap2 k,ap4 k⟩:=by
 rcases k with _ | _ | _ | _ | _ | _ | _ | _ | k <;> first | rfl | (revert hp;decide) | omega
theorem ajx:∀t∈oct 10,IT t:=fun t ht=>by
 simp only[oct,an,List.not_mem_nil,or_false] at ht;rcases ht with rfl | rfl | rfl | rfl | rfl | rfl | rfl | rfl <;> exact⟨⟨by decide,by decide,by decide⟩,⟨by decide,by decide,by decide⟩,⟨by decide,by decide,by decide⟩⟩
theorem ap5(w:aj):dK prog 47 [.int .i64 10] w (SL 39 9 (Fy.flatMap aM) 8 w):=by
 refine⟨bP func47 (by kernel_rfl),?_⟩;have m:=Mem.refl w
 go_enter func47,ntmps47
 apply fG 12 [] m;simp only[↓aC,yD,Dw,aa];refine⟨by omega,?_⟩;apply Wy 10 [0] m;simp only[↓aC,Sv,wV,yD,aa];intro g1;refine⟨by omega,?_⟩;intro u m;apply Wy 9 [0] m;simp only[↓aC,Dw,Sv,wV,yD,aa];intro g2;refine⟨by omega,?_⟩;intro u m;apply Wy 5 [0] m;simp only[↓aC,yD,Dw,Sv,wV,aa];intro g3 u m;apply aW 3 [0] m;simp only[↓aC];refine aB aP ?_;replace m:=m.nilO 39 9;apply aL 7 [0] m;simp only[↓aC];refine bX [6,7] [8,9,10,29,30,31,32,33,34,35,36,37,38,39,40,41,42,43,44,45,46,47,48,49,50,51,52,53,54,55,56,57,58,59,60,61,62,63,64,65,66,67,68,69,70] (fun n vs wl=>∃(k:Nat) (A6:Option Addr) (cap6:Nat),vs=[.slice A6 k cap6,.int .i64 (k:Int)]∧Mem w wl [oI 39 9 A6 k cap6 (((oct 10).take k).flatMap aM),bI g3 [.int .i64 0,.int .i64 0,.int .i64 (-10),.int .i64 0,.int .i64 0,.int .i64 10] 56,bI g2 [.int .i64 0,.int .i64 (-10),.int .i64 0,.int .i64 0,.int .i64 10,.int .i64 0] 56,bI g1 [.int .i64 (-10),.int .i64 0,.int .i64 0,.int .i64 10,.int .i64 0,.int .i64 0] 56]∧(k≤8)∧(n=8-k)) ?_ ?_
 ·
  exact⟨_,0,_,_,rfl,m,cq _,rfl⟩
 · intro n vs wr hI u K1 hK1
   obtain⟨k,A6,cap6,rfl,m,hk,hn⟩:=hI;simp only[zu,zF,zG];apply aK 6 [0,0] m;simp only[↓aC];refine bA rfl ?_ ?_<;>intro hc1
   ·
    have hk8:k<8:=by omega
    apply aK 6 [0] m;simp only[↓aC];refine aB (lQ rfl rfl (Ot hk8)) ?_;simp only[zz];refine aB (aJ Nv aA rfl rfl (by omega) (by omega) (oT (ag _))) ?_;simp only[zz];refine aR rfl (show eQ _ _ _ _ (pt (ap2 k)) from ajw (m.b 3 rfl) (fw _ (by decide))) ?_;simp only[zz];apply kP 6 [0,0] m;simp only[↓aC,gM,aU,aa];intro g4 u m;refine aB (lG rfl rfl (by omega) ad0) (aB (lQ rfl rfl (Ot (k:=k / 2) (by omega))) ?_);simp only[zz];refine aB (aJ Nv aA rfl rfl (by omega) (by omega) (oT (ag _))) ?_;simp only[zz];refine aR rfl (show eQ _ _ _ _ (pt (ap3 k)) from ajw (m.b 3 rfl) (fw _ (by decide))) ?_;simp only[zz];apply kP 6 [0,0] m;simp only[↓aC,gM,aU,aa];intro g5 u m;refine aB (lG rfl rfl (by omega) Tl) ?_;simp only[zz];refine aB (aJ Nv aA rfl rfl (by omega) (by omega) (oT (ag _))) ?_;simp only[zz];refine aR rfl (show eQ _ _ _ _ (pt (ap4 k)) from ajw (m.b 3 rfl) (by omega)) ?_;simp only[zz];apply kP 6 [0,0] m;simp only[↓aC,gM,aU,aa];intro g6 u m;refine aB (lQ rfl rfl (Ot hk8)) ?_;apply aL 1 [0] m;simp only[↓aC];refine aB (lG rfl rfl (by omega) ad0) (aB (lQ rfl rfl (Ot (k:=k / 2) (by omega))) ?_);apply aL 2 [0] m;simp only[↓aC];refine⟨by omega,?_⟩;refine aB (lG rfl rfl (by omega) Tl) ?_;apply aL 1 [0] m;simp only[↓aC];refine⟨by omega,?_⟩;refine aB (cL rfl rfl (by omega) rfl) ?_;apply aL 2 [0,0] m;simp only[↓aC];refine bA rfl ?_ ?_<;>intro hc2
    ·
     have hx:=o_y hk8 hc2;apply aK 6 [2,1,0,0] m;simp only[↓aC,aU,tJ,aa];refine eF rfl ?_;intro u g7 e_ h_ k_;replace m:=m.newB e_ h_ k_;simp only[zz];refine bW m 4 rfl rfl bL gR rfl (by decide) rfl rfl rfl (m.b 0 rfl).rowsO (jX rfl) (by omega) (by omega) ?_;intro A6 cap6 u m;simp only[zF,zG] at m;rw[show ((oct 10).take k).flatMap aM++_=((oct 10).take (k+1)).flatMap aM by rw[bY hx,aw];rfl] at m;apply aL 8 [0] m;simp only[↓aC];refine⟨by omega,?_⟩;exact hK1 (8-(k+1)) _ _ (by omega) (by kernel_rfl) ⟨k+1,_,_,rfl,(m.sel [false,false,false,false,true,true,true,true]),by omega,rfl⟩
    ·
     have hx:=o_n hk8 hc2;apply aK 6 [1,2,0,0] m;simp only[↓aC,aU,tJ,aa];refine eF rfl ?_;intro u g7 e_ h_ k_;replace m:=m.newB e_ h_ k_;simp only[zz];refine bW m 4 rfl rfl bL gR rfl (by decide) rfl rfl rfl (m.b 0 rfl).rowsO (jX rfl) (by omega) (by omega) ?_;intro A6 cap6 u m;simp only[zF,zG] at m;rw[show ((oct 10).take k).flatMap aM++_=((oct 10).take (k+1)).flatMap aM by rw[bY hx,aw];rfl] at m;apply aL 8 [0] m;simp only[↓aC];refine⟨by omega,?_⟩;exact hK1 (8-(k+1)) _ _ (by omega) (by kernel_rfl) ⟨k+1,_,_,rfl,(m.sel [false,false,false,false,true,true,true,true]),by omega,rfl⟩
   ·
    obtain rfl:k=8:=by omega
    apply aK 4 [0] m;simp only[↓aC];refine bC rfl rfl (Tc (ts:=oct 10) _ ((m.o 0 rfl).tris ajx) (by decide)) ?_;rintro v u e_ ⟨A8,cap8,n8,hn8,rfl,h_⟩;replace m:=m.newO e_ h_;apply aL 3 [] m;simp only[↓aC];exact aT rfl rfl ⟨_,rfl,m.ext,⟨_,_,_,hn8,rfl,(m.o 0 rfl)⟩⟩
end Go.Proofs.YtfekpcimgncioaaGreatDoor
namespace Go.Lith
open Go.RowKit
def dO(e:Nat):List Nat :=
 let v:=e%8
 let p:=[2*(v%2),v / 2%2*2,v / 4*2]
 p.set (e / 8) ((p.getD (e / 8) 0)+1)
def Cb(v axis:Nat):Nat:=(if v / 2^axis%2=1 then v-2^axis else v)+8*axis
def ajy(p q v axis:Nat)(pos:Bool):Bool :=
 let a:=dO p
 let b:=dO q
 let c:List Nat:=[2*(v%2),v / 2%2*2,v / 4*2]
 let x:=(axis+1)%3
 let y:=(axis+2)%3
 let g:=fun (l:List Nat) i=>((l.getD i 0:Nat):Int)
 let d:=(g b x-g a x)*(g c y-g a y)-(g b y-g a y)*(g c x-g a x)
 pos&&decide (d<0) || !pos&&decide (0<d)
def Gu(nx:List Int)(p q v axis:Nat)(pos:Bool):List Int:=if ajy p q v axis pos then nx.set p (q:Int) else nx.set q (p:Int)
def fvE(axis:Nat)(pos:Bool)(k:Nat):Nat:=(if pos then 2^axis else 0)+k%2*2^((axis+1)%3)+k / 2*2^((axis+2)%3)
def Fm(I:List Bool)(v:Nat):Bool:=I.getD v false
def fS1(I:List Bool)(axis:Nat)(pos:Bool)(st:List Nat × Int)(k:Nat):List Nat × Int :=
 let v:=fvE axis pos k
 let b:=(axis+1)%3
 let d:=(axis+2)%3
 let l1:=if k%2=0∧Fm I v≠Fm I (v+2^b) then st.1++[Cb v b] else st.1
 (if k / 2=0∧Fm I v≠Fm I (v+2^d) then l1++[Cb v d] else l1,if Fm I v then (v:Int) else st.2)
def fL(I:List Bool)(axis:Nat)(pos:Bool)(k:Nat):List Nat × Int:=(c_ k).foldl (fS1 I axis pos) ([],-1)
def f4S(I:List Bool)(axis:Nat)(pos:Bool)(nx:List Int)(k:Nat):List Int :=
 let v:=fvE axis pos k
 if Fm I v then Gu nx (Cb v ((axis+1)%3)) (Cb v ((axis+2)%3)) v axis pos else nx
def Jz(I:List Bool)(nx:List Int)(axis:Nat)(pos:Bool):List Int :=
 let s:=fL I axis pos 4
 let nx:=match s.1 with
  | [p,q]=>Gu nx p q s.2.toNat axis pos
  | _=>nx
 if s.1.length=4 then (c_ 4).foldl (f4S I axis pos) nx else nx
def nE(I:List Bool):List Int:=(c_ 3).foldl (fun nx a=>Jz I (Jz I nx a false) a true) (db 24 (-1))
def rI(nx:List Int):Nat→List Bool→Nat→List Nat × List Bool
 | 0,seen,_=>([],seen)
 | n+1,seen,x=>if 0≤nx.getD x (-1)∧seen.getD x false=false then
  let r:=rI nx n (seen.set x true) (nx.getD x (-1)).toNat
  (x::r.1,r.2)
  else ([],seen)
def ap6(nx:List Int)(st:List (List Nat) × List Bool)(e:Nat):List (List Nat) × List Bool :=
 let r:=rI nx 24 st.2 e
 (if r.1=[] then st.1 else st.1++[r.1],r.2)
def atw(I:List Bool):List (List Nat):=((c_ 24).foldl (ap6 (nE I)) ([],db 24 false)).1
def Ec(l:List P3):P3:=⟨(l.map P3.x).sum.tdiv l.length,(l.map P3.y).sum.tdiv l.length,(l.map P3.z).sum.tdiv l.length⟩
def Ka(l:List P3):List T3:=match l with
 | [a,b,c]=>[⟨a,b,c⟩]
 | _=>(c_ l.length).map fun k=>⟨l.getD k ⟨0,0,0⟩,l.getD ((k+1)%l.length) ⟨0,0,0⟩,Ec l⟩
def Xu(c:P3)(h:Int)(e:Nat):P3:=⟨c.x*h+((dO e).getD 0 0:Nat)*(h / 2),c.y*h+((dO e).getD 1 0:Nat)*(h / 2),c.z*h+((dO e).getD 2 0:Nat)*(h / 2)⟩
def wY(I:List Bool)(c:P3)(h:Int):List T3:=(atw I).flatMap fun l=>Ka (l.map (Xu c h))
def Tm(m:Nat):List Bool:=(c_ 8).map fun v=>m / 2^v%2 == 1
def kE(m:Nat):List T3:=wY (Tm m) ⟨0,0,0⟩ 512
def ap7(m:Nat):Bool:=(kE m).all (fun t=>t.nd)&&decide ((aQ (kE m)).Nodup)
theorem abY:(c_ 256).all ap7=true:=by kernel_rfl
end Go.Lith
namespace Go.Proofs.YtfekpcimgncioaaGreatDoor
open Go.Proofs.Tryz
open Go.RowKit Go.Lith
set_option maxRecDepth 100000
attribute [local irreducible] wpList wpQuiet fA bF cG Code.wp
attribute [local congr] nO fK fM fN fO fP iY fQ fR fS fT fU fV fW fX fY fZ gA dX dY gB gC gE gF gG jA cQ cR cE cP gD iZ dZ eA eB gH gI jD
variable{a i:Nat}
theorem Tn:IntKind.i64.wrap (1*2^min (ku 2) IntKind.i64.bits)=4:=by decide
section
variable {P:Program} {l:List Value} {x y:Operand} {T T' ty:TypeId} {k:IntKind} {m n r:Int}
theorem ajB(hx:ev l x=.int k m)(hy:ev l y=.int k n)(hr:k.wrap ((el k.bits m &&& ~~~ el k.bits n).toNat:Int)=r):iB P l (.binOp .andNot T x y T') ty (.int k r):=fun w o ho _=>by
 subst hr;simp[execOp,ho,cJ,hx,hy,eqGuard,binOp,Op.intBits]
end
theorem aok(h:a<3):IntKind.i64.wrap (1*2^min (ku (a:Int)) IntKind.i64.bits)=((2^a:Nat):Int):=by
 rcases a with _ | _ | _ | a <;> first | rfl | omega
def evN(v a:Nat):Nat:=if v / 2^a%2=1 then v-2^a else v
theorem ajC(v a:Nat):evN v a≤v:=by unfold evN;split;exact Nat.sub_le ..;exact ao _
theorem asg{v:Nat}(hv:v<8)(h:a<3):IntKind.i64.wrap ((el IntKind.i64.bits (v:Int) &&& ~~~ el IntKind.i64.bits ((2^a:Nat):Int)).toNat:Int)=((evN v a:Nat):Int):=by
 rcases a with _ | _ | _ | a <;> rcases v with _ | _ | _ | _ | _ | _ | _ | _ | v <;> first | rfl | omega
theorem ash(v a:Nat):((evN v a:Nat):Int)+8*(a:Int)=((Cb v a:Nat):Int):=by rw[show Cb v a=evN v a+8*a from rfl];omega
theorem yI{x y z:Nat}(hx:x≤100)(hy:y≤100)(hz:z≤100):fF prog 144 [.int .i64 2,.int .i64 (x:Int),.int .i64 (y:Int),.int .i64 (z:Int)] (.int .i64 (((z*5+y)*5+x:Nat):Int)):=by
 intro w;refine⟨bP func144 (by kernel_rfl),?_⟩;have m:=Mem.refl w
 go_enter func144,ntmps144
 apply fG 7 [0] m;simp only[↓aC];refine aB (qR rfl rfl (by omega) Tn) ?_;apply aL 17 [] m;simp only[↓aC];refine⟨by omega,?_⟩;refine aT rfl rfl ?_;try simp only[zD,zE]
 exact⟨_,rfl,m.ext,by simp⟩
theorem Ed{v:Nat}(hv:v<8)(ha:a<3):fF prog 287 [.int .i64 (v:Int),.int .i64 (a:Int)] (.int .i64 ((Cb v a:Nat):Int)):=by
 intro w;refine⟨bP func287 (by kernel_rfl),?_⟩;have m:=Mem.refl w;have he:=ajC v a
 go_enter func287,ntmps287
 apply fG 8 [0] m;simp only[↓aC];refine aB (qR rfl rfl (by omega) (aok ha)) ?_;simp only[zz];refine aB (ajB rfl rfl (asg hv ha)) ?_;simp only[zz];apply aL 6 [] m;simp only[↓aC];refine⟨by omega,?_⟩;refine aT rfl rfl ?_;try simp only[zD,zE]
 exact⟨_,rfl,m.ext,by rw[←ash]⟩
theorem ajD{k:Nat}(h:k<8):IntKind.i64.wrap (el IntKind.i64.bits (k:Int) &&& el IntKind.i64.bits 2).toNat=((k / 2%2*2:Nat):Int):=by
 rcases k with _ | _ | _ | _ | _ | _ | _ | _ | k <;> first | rfl | omega
def Kb(e:Nat):Value:=.agg #[.int .i64 (((dO e).getD 0 0:Nat):Int),.int .i64 (((dO e).getD 1 0:Nat):Int),.int .i64 (((dO e).getD 2 0:Nat):Int)]
theorem ajE{e:Nat}(h:e<24):(dO e).getD 0 0≤3∧(dO e).getD 1 0≤3∧(dO e).getD 2 0≤3:=by
 have:∀e,e<24→(dO e).getD 0 0≤3∧(dO e).getD 1 0≤3∧(dO e).getD 2 0≤3:=by decide
 exact this e h
theorem asi{e:Nat}(h:e<24):0≤([2*((e%8%2:Nat):Int),((e%8 / 2%2*2:Nat):Int),((e%8 / 4:Nat):Int)*2]:List Int).getD (e / 8) 0∧([2*((e%8%2:Nat):Int),((e%8 / 2%2*2:Nat):Int),((e%8 / 4:Nat):Int)*2]:List Int).getD (e / 8) 0≤3:=by
 have:∀e:Nat,e<24→0≤([2*((e%8%2:Nat):Int),((e%8 / 2%2*2:Nat):Int),((e%8 / 4:Nat):Int)*2]:List Int).getD (e / 8) 0∧([2*((e%8%2:Nat):Int),((e%8 / 2%2*2:Nat):Int),((e%8 / 4:Nat):Int)*2]:List Int).getD (e / 8) 0≤3:=by decide
 exact this e h
theorem amF{e:Nat}(h:e<24):over [ln .i64 (2*((e%8%2:Nat):Int)),.int .i64 ((e%8 / 2%2*2:Nat):Int),.int .i64 (((e%8 / 4:Nat):Int)*2)] (e / 8) [ln .i64 (([2*((e%8%2:Nat):Int),((e%8 / 2%2*2:Nat):Int),((e%8 / 4:Nat):Int)*2]:List Int).getD (e / 8) 0+1)]=[.int .i64 (((dO e).getD 0 0:Nat):Int),.int .i64 (((dO e).getD 1 0:Nat):Int),.int .i64 (((dO e).getD 2 0:Nat):Int)]:=by
 rcases e with _ | _ | _ | _ | _ | _ | _ | _ | _ | _ | _ | _ | _ | _ | _ | _ | _ | _ | _ | _ | _ | _ | _ | _ | e <;> first | rfl | omega
theorem aol{w:aj}{g:Nat}{a c d:Int}{T:TypeId}(hB:gT w g [.int .i64 a,.int .i64 c,.int .i64 d] T)(hi:i<3):eQ prog w 3 ⟨g,i,none⟩ (.int .i64 (([a,c,d]:List Int).getD i 0)):=by
 rcases i with _ | _ | _ | i
 · exact hB.lies1 cC rfl
 · exact hB.lies1 cC rfl
 · exact hB.lies1 cC rfl
 · omega
theorem Mr{e:Nat}(he:e<24):fF prog 289 [.int .i64 (e:Int)] (Kb e):=by
 intro w;refine⟨bP func289 (by kernel_rfl),?_⟩;have m:=Mem.refl w;have hb:=asi he
 go_enter func289,ntmps289
 apply mR 7 [0] m;simp only[↓aC,Oj];intro g1 u m;refine aB (cL rfl rfl (by omega) (an2 (k:=e))) ?_;apply aL 5 [0] m;simp only[↓aC];refine aB (lQ rfl rfl (Ot (k:=e%8) (by omega))) ?_;apply aL 2 [0] m;simp only[↓aC];refine⟨by omega,?_⟩;refine aB (lQ rfl rfl (ajD (k:=e%8) (by omega))) ?_;apply aL 1 [0] m;simp only[↓aC];refine aB (lG rfl rfl (by omega) (Tl (k:=e%8))) ?_;apply kP 8 [0,0] m;simp only[↓aC,yE,Oj,Dv,aa];intro g2;refine⟨by omega,?_⟩;intro u m;refine aB (mB rfl rfl (by omega) (show IntKind.i64.wrap ((e:Int).tdiv 8)=((e / 8:Nat):Int) from (show IntKind.i64.wrap ((e / 8:Nat):Int)=_ from bG (by omega) (by omega)))) ?_;simp only[zz];refine aB (aJ sA bD rfl rfl (by omega) (by omega) (fI (ag _))) ?_;simp only[zz];refine aR rfl (aol (m.b 0 rfl) (by omega)) ?_;simp only[zz];apply aL 1 [0] m;simp only[↓aC];refine⟨by omega,?_⟩;refine aB (aJ sA bD rfl rfl (by omega) (by omega) (fI (ag _))) ?_;simp only[zz];refine cX m 0 rfl rfl rfl bD (by simp only[ay,List.length_nil];omega) ⟨rfl,rfl⟩ ?_;intro u m;simp only[zz] at m;rw[amF he] at m;apply kP 7 [0,1] m;simp only[↓aC,Dv,aa];intro u m;exact aT rfl ⟨_,rfl,((m.b 1 rfl).full Zp Iy)⟩ ⟨_,rfl,m.ext,rfl⟩
def Sm(p:P3):Prop:=(0≤p.x∧p.x≤3000000)∧(0≤p.y∧p.y≤3000000)∧0≤p.z∧p.z≤3000000
def SmT(t:T3):Prop:=Sm t.a∧Sm t.b∧Sm t.c
theorem aom{ts:List T3}(h:∀t∈ts,SmT t):∀t∈ts,IT t:=fun t ht=>by
 obtain⟨⟨a1,a2,a3⟩,⟨b1,b2,b3⟩,c1,c2,c3⟩:=h t ht;refine⟨⟨?_,?_,?_⟩,⟨?_,?_,?_⟩,⟨?_,?_,?_⟩⟩ <;> (unfold rN;omega)
theorem ap9{x:Int}{N:Nat}(h0:0≤x)(h:x≤N*3000000)(hN:0<N):∃q,IntKind.i64.wrap (x.tdiv (N:Int))=q∧0≤q∧q≤3000000:=by
 have h1:x / (N:Int)≤3000000:=Int.ediv_le_of_le_mul (by omega) (by rw[Int.mul_comm];exact h);have h2:0≤x / (N:Int):=Int.ediv_nonneg h0 (by omega);exact⟨x / N,by rw[Int.tdiv_eq_ediv_of_nonneg h0];exact bG (by omega) (by omega),h2,h1⟩
theorem aqa{N:Nat}:((i:Int)+1).tmod (N:Int)=(((i+1)%N:Nat):Int):=rfl
theorem Mt{u v:Int}(hu : -9≤u∧u≤9)(hv : -9≤v∧v≤9) : -81≤u*v∧u*v≤81:=by
 have h:(u*v).natAbs≤9*9:=by rw[Int.natAbs_mul];exact Nat.mul_le_mul (by omega) (by omega)
 omega
theorem Fo{cs:List Value}{u:Value}(h:i<cs.length):over cs i [u]=cs.set i u:=by
 rw[List.set_eq_take_append_cons_drop,if_pos h,over];simp
theorem To{g p:Nat}:(⟨g,8,none⟩:Addr).add ((p:Int).toNat*1)=⟨g,8+p,none⟩:=by rw[ag,Nat.mul_one];exact dV ..
def lN(bs:List Bool)(ns:List Int):List Value:=bs.map Value.bool++ns.map (ln .i64)
structure jS(bs:List Bool)(ns:List Int):Prop where
 b:bs.length=8
 n:ns.length=24
 r:∀x∈ns,-1≤x∧x<24
theorem jS.len{bs ns}(h:jS bs ns):(lN bs ns).length=32:=by simp[lN,h.b,h.n]
theorem jS.put{bs ns}(h:jS bs ns){p:Nat}{q:Int}(hq : -1≤q∧q<24):jS bs (ns.set p q):=⟨h.b,by rw[List.length_set];exact h.n,fun x hx=>(List.mem_or_eq_of_mem_set hx).elim (h.r x) fun e=>e▸hq⟩
theorem jS.over{bs ns}(h:jS bs ns){p:Nat}{q:Int}(hp:p<24):over (lN bs ns) (8+p) [.int .i64 q]=lN bs (ns.set p q):=by
 rw[Fo (by rw[h.len];omega),lN,List.set_append_right _ _ (by rw[bf,h.b];omega),bf,h.b,Nat.add_sub_cancel_left,lN,List.map_set]
theorem jS.in{bs ns}(h:jS bs ns){v:Nat}(hv:v<8):(lN bs ns)[v]? = some (.bool (bs.getD v false)):=by
 rw[lN,List.getElem?_append_left (by rw[bf,h.b];exact hv),eh,ak (by rw[h.b];exact hv),ej,ak (by rw[h.b];exact hv)];rfl
theorem pl3(e:Nat)(h:e<24):(((dO e).getD 0 0:Nat):Int)≤3∧(((dO e).getD 1 0:Nat):Int)≤3∧(((dO e).getD 2 0:Nat):Int)≤3:=by
 have:=ajE h;omega
theorem amG{p q v n:Nat}{a:Int}{b:Bool}(w:aj)(hp:p<24)(hq:q<24)(hv:v<8)(ha:(a=0∧n=0)∨(a=1∧n=1)∨(a=2∧n=2)):dK prog 326 [.int .i64 (p:Int),.int .i64 (q:Int),.int .i64 (v:Int),.int .i64 a,.bool b] w (fun x _=>x=.bool (ajy p q v n b)):=by
 refine⟨bP func326 (by kernel_rfl),?_⟩;have m:=Mem.refl w;have hp3:=pl3 p hp;have hq3:=pl3 q hq
 go_enter func326,ntmps326
 apply fG 7 [0] m;simp only[↓aC];refine wA m rfl rfl (Mr hp) 6 [0,0] ?_;simp only[↓aC,↓Kb,Oj,Dv,aa];intro g1 u m;refine wA m rfl rfl (Mr hq) 6 [0,0] ?_;simp only[↓aC,↓Kb,Oj,Dv,aa];intro g2 u m;refine aB (lQ rfl rfl (Ot hv)) ?_;apply aL 2 [0] m;simp only[↓aC];refine⟨by omega,?_⟩;refine aB (lQ rfl rfl (ajD hv)) ?_;apply aL 1 [0] m;simp only[↓aC];refine aB (lG rfl rfl (by omega) Tl) ?_;apply kP 6 [0] m;simp only[↓aC,↓Kb,yE,Oj,Dv,aa];intro g3;refine⟨by omega,?_⟩;intro u m;rcases ha with ⟨rfl,rfl⟩ | ⟨rfl,rfl⟩ | ⟨rfl,rfl⟩
 ·
  have hm1:=Mt (u:=(((dO q).getD 1 0:Nat):Int)-(((dO p).getD 1 0:Nat):Int)) (v:=((v / 4:Nat):Int)*2-(((dO p).getD 2 0:Nat):Int)) (by omega) (by omega);have hm2:=Mt (u:=(((dO q).getD 2 0:Nat):Int)-(((dO p).getD 2 0:Nat):Int)) (v:=((v / 2%2*2:Nat):Int)-(((dO p).getD 1 0:Nat):Int)) (by omega) (by omega);have hrg:ajy p q v 0 b=(b&&decide (((((dO q).getD 1 0:Nat):Int)-(((dO p).getD 1 0:Nat):Int))*(((v / 4:Nat):Int)*2-(((dO p).getD 2 0:Nat):Int))-((((dO q).getD 2 0:Nat):Int)-(((dO p).getD 2 0:Nat):Int))*(((v / 2%2*2:Nat):Int)-(((dO p).getD 1 0:Nat):Int))<0) || !b&&decide (0<((((dO q).getD 1 0:Nat):Int)-(((dO p).getD 1 0:Nat):Int))*(((v / 4:Nat):Int)*2-(((dO p).getD 2 0:Nat):Int))-((((dO q).getD 2 0:Nat):Int)-(((dO p).getD 2 0:Nat):Int))*(((v / 2%2*2:Nat):Int)-(((dO p).getD 1 0:Nat):Int)))):=by kernel_rfl
  apply aW 3 [0] m;simp only[↓aC,am];refine⟨by omega,?_⟩;refine aB (cL (m:=1) (n:=3) (r:=1) rfl rfl (by decide) (by decide)) ?_;apply aL 6 [0] m;simp only[↓aC,am];refine⟨by omega,?_⟩;refine aB (cL (m:=2) (n:=3) (r:=2) rfl rfl (by decide) (by decide)) ?_;apply aL 3 [0] m;simp only[↓aC];refine mq m aD (by kernel_rfl) (eT 18 [1,2,0,2,1] ?_);simp only[↓aC,↓Kb,jE,eR,ad,ah,aa];refine⟨by omega,?_⟩;refine eT 14 [2,0,2] ?_;simp only[↓aC,↓Kb,jE,eR,ad,ah,aa];refine⟨by omega,?_⟩;refine bE ?_;intro u m;generalize ((((dO q).getD 1 0:Nat):Int)-(((dO p).getD 1 0:Nat):Int))*(((v / 4:Nat):Int)*2-(((dO p).getD 2 0:Nat):Int))-((((dO q).getD 2 0:Nat):Int)-(((dO p).getD 2 0:Nat):Int))*(((v / 2%2*2:Nat):Int)-(((dO p).getD 1 0:Nat):Int))=d at hrg ⊢;apply aW 1 [] m;simp only[↓aC];rcases (show b=false∨(b=true∧d<0)∨(b=true∧¬d<0) by cases b <;> simp <;> omega) with rfl | ⟨rfl,hd⟩ | ⟨rfl,hd⟩
  ·
   apply aW 17 [0] m;simp only[↓aC,ff,fh];refine aT rfl rfl ?_;try simp only[zD,zE]
   exact⟨_,rfl,m.ext,by rw[hrg];simp_all⟩
  ·
   apply aW 17 [1] m;simp only[↓aC];refine⟨by omega,?_⟩;refine aT rfl rfl ?_;try simp only[zD,zE]
   exact⟨_,rfl,m.ext,by rw[hrg];simp_all⟩
  ·
   apply aW 17 [2] m;simp only[↓aC,ff,fh];refine⟨by omega,?_⟩;refine aT rfl rfl ?_;try simp only[zD,zE]
   exact⟨_,rfl,m.ext,by rw[hrg];simp_all⟩
 ·
  have hm1:=Mt (u:=(((dO q).getD 2 0:Nat):Int)-(((dO p).getD 2 0:Nat):Int)) (v:=2*((v%2:Nat):Int)-(((dO p).getD 0 0:Nat):Int)) (by omega) (by omega);have hm2:=Mt (u:=(((dO q).getD 0 0:Nat):Int)-(((dO p).getD 0 0:Nat):Int)) (v:=((v / 4:Nat):Int)*2-(((dO p).getD 2 0:Nat):Int)) (by omega) (by omega);have hrg:ajy p q v 1 b=(b&&decide (((((dO q).getD 2 0:Nat):Int)-(((dO p).getD 2 0:Nat):Int))*(2*((v%2:Nat):Int)-(((dO p).getD 0 0:Nat):Int))-((((dO q).getD 0 0:Nat):Int)-(((dO p).getD 0 0:Nat):Int))*(((v / 4:Nat):Int)*2-(((dO p).getD 2 0:Nat):Int))<0) || !b&&decide (0<((((dO q).getD 2 0:Nat):Int)-(((dO p).getD 2 0:Nat):Int))*(2*((v%2:Nat):Int)-(((dO p).getD 0 0:Nat):Int))-((((dO q).getD 0 0:Nat):Int)-(((dO p).getD 0 0:Nat):Int))*(((v / 4:Nat):Int)*2-(((dO p).getD 2 0:Nat):Int)))):=by kernel_rfl
  apply aW 3 [0] m;simp only[↓aC,am];refine⟨by omega,?_⟩;refine aB (cL (m:=2) (n:=3) (r:=2) rfl rfl (by decide) (by decide)) ?_;apply aL 6 [0] m;simp only[↓aC,am];refine⟨by omega,?_⟩;refine aB (cL (m:=3) (n:=3) (r:=0) rfl rfl (by decide) (by decide)) ?_;apply aL 3 [0] m;simp only[↓aC];refine mq m aD (by kernel_rfl) (eT 18 [1,2,0,2,1] ?_);simp only[↓aC,↓Kb,jE,eR,ad,ah,aa];refine⟨by omega,?_⟩;refine eT 14 [2,0,2] ?_;simp only[↓aC,↓Kb,jE,eR,ad,ah,aa];refine⟨by omega,?_⟩;refine bE ?_;intro u m;generalize ((((dO q).getD 2 0:Nat):Int)-(((dO p).getD 2 0:Nat):Int))*(2*((v%2:Nat):Int)-(((dO p).getD 0 0:Nat):Int))-((((dO q).getD 0 0:Nat):Int)-(((dO p).getD 0 0:Nat):Int))*(((v / 4:Nat):Int)*2-(((dO p).getD 2 0:Nat):Int))=d at hrg ⊢;apply aW 1 [] m;simp only[↓aC];rcases (show b=false∨(b=true∧d<0)∨(b=true∧¬d<0) by cases b <;> simp <;> omega) with rfl | ⟨rfl,hd⟩ | ⟨rfl,hd⟩
  ·
   apply aW 17 [0] m;simp only[↓aC,ff,fh];refine aT rfl rfl ?_;try simp only[zD,zE]
   exact⟨_,rfl,m.ext,by rw[hrg];simp_all⟩
  ·
   apply aW 17 [1] m;simp only[↓aC];refine⟨by omega,?_⟩;refine aT rfl rfl ?_;try simp only[zD,zE]
   exact⟨_,rfl,m.ext,by rw[hrg];simp_all⟩
  ·
   apply aW 17 [2] m;simp only[↓aC,ff,fh];refine⟨by omega,?_⟩;refine aT rfl rfl ?_;try simp only[zD,zE]
   exact⟨_,rfl,m.ext,by rw[hrg];simp_all⟩
 ·
  have hm1:=Mt (u:=(((dO q).getD 0 0:Nat):Int)-(((dO p).getD 0 0:Nat):Int)) (v:=((v / 2%2*2:Nat):Int)-(((dO p).getD 1 0:Nat):Int)) (by omega) (by omega);have hm2:=Mt (u:=(((dO q).getD 1 0:Nat):Int)-(((dO p).getD 1 0:Nat):Int)) (v:=2*((v%2:Nat):Int)-(((dO p).getD 0 0:Nat):Int)) (by omega) (by omega);have hrg:ajy p q v 2 b=(b&&decide (((((dO q).getD 0 0:Nat):Int)-(((dO p).getD 0 0:Nat):Int))*(((v / 2%2*2:Nat):Int)-(((dO p).getD 1 0:Nat):Int))-((((dO q).getD 1 0:Nat):Int)-(((dO p).getD 1 0:Nat):Int))*(2*((v%2:Nat):Int)-(((dO p).getD 0 0:Nat):Int))<0) || !b&&decide (0<((((dO q).getD 0 0:Nat):Int)-(((dO p).getD 0 0:Nat):Int))*(((v / 2%2*2:Nat):Int)-(((dO p).getD 1 0:Nat):Int))-((((dO q).getD 1 0:Nat):Int)-(((dO p).getD 1 0:Nat):Int))*(2*((v%2:Nat):Int)-(((dO p).getD 0 0:Nat):Int)))):=by kernel_rfl
  apply aW 3 [0] m;simp only[↓aC,am];refine⟨by omega,?_⟩;refine aB (cL (m:=3) (n:=3) (r:=0) rfl rfl (by decide) (by decide)) ?_;apply aL 6 [0] m;simp only[↓aC,am];refine⟨by omega,?_⟩;refine aB (cL (m:=4) (n:=3) (r:=1) rfl rfl (by decide) (by decide)) ?_;apply aL 3 [0] m;simp only[↓aC];refine mq m aD (by kernel_rfl) (eT 18 [1,2,0,2,1] ?_);simp only[↓aC,↓Kb,jE,eR,ad,ah,aa];refine⟨by omega,?_⟩;refine eT 14 [2,0,2] ?_;simp only[↓aC,↓Kb,jE,eR,ad,ah,aa];refine⟨by omega,?_⟩;refine bE ?_;intro u m;generalize ((((dO q).getD 0 0:Nat):Int)-(((dO p).getD 0 0:Nat):Int))*(((v / 2%2*2:Nat):Int)-(((dO p).getD 1 0:Nat):Int))-((((dO q).getD 1 0:Nat):Int)-(((dO p).getD 1 0:Nat):Int))*(2*((v%2:Nat):Int)-(((dO p).getD 0 0:Nat):Int))=d at hrg ⊢;apply aW 1 [] m;simp only[↓aC];rcases (show b=false∨(b=true∧d<0)∨(b=true∧¬d<0) by cases b <;> simp <;> omega) with rfl | ⟨rfl,hd⟩ | ⟨rfl,hd⟩
  ·
   apply aW 17 [0] m;simp only[↓aC,ff,fh];refine aT rfl rfl ?_;try simp only[zD,zE]
   exact⟨_,rfl,m.ext,by rw[hrg];simp_all⟩
  ·
   apply aW 17 [1] m;simp only[↓aC];refine⟨by omega,?_⟩;refine aT rfl rfl ?_;try simp only[zD,zE]
   exact⟨_,rfl,m.ext,by rw[hrg];simp_all⟩
  ·
   apply aW 17 [2] m;simp only[↓aC,ff,fh];refine⟨by omega,?_⟩;refine aT rfl rfl ?_;try simp only[zD,zE]
   exact⟨_,rfl,m.ext,by rw[hrg];simp_all⟩
end Go.Proofs.YtfekpcimgncioaaGreatDoor
namespace Go.Lith
open Go.RowKit
variable{c q a:P3}{mk:P3→Nat}{s:Bool}{k j:Nat}
def onF(k:Nat)(s:Bool)(p:P3):Bool:=decide (cO p k=if s then 512 else 0)
def Cc(k:Nat)(s:Bool)(e:E3):Bool:=onF k s e.1&&onF k s e.2
def Ax(e:E3):Nat:=(if Cc 0 false e then 1 else 0)+(if Cc 0 true e then 1 else 0)+(if Cc 1 false e then 1 else 0)+(if Cc 1 true e then 1 else 0)+(if Cc 2 false e then 1 else 0)+(if Cc 2 true e then 1 else 0)
def aon(p:P3):Bool:=decide (0≤p.x)&&decide (p.x≤512)&&decide (0≤p.y)&&decide (p.y≤512)&&decide (0≤p.z)&&decide (p.z≤512)
def asj(m:Nat):Bool :=
 let es:=aQ (kE m)
 es.all fun e=>aon e.1&&(if decide (sY e∈es) then decide (Ax e=0) else decide (Ax e=1))
theorem ajF:(c_ 256).all asj=true:=by kernel_rfl
def Mu(k:Nat)(n:Int)(p:P3):P3:=if k=0 then ⟨p.x+n,p.y,p.z⟩ else if k=1 then ⟨p.x,p.y+n,p.z⟩ else ⟨p.x,p.y,p.z+n⟩
def fcs(m k:Nat)(s:Bool):List E3:=(aQ (kE m)).filter (Cc k s)
def nF(m k:Nat)(s:Bool):Nat:=(c_ 8).foldl (fun r v=>if (v / 2^k%2 == 1) == s&&m / 2^v%2 == 1 then r+2^v else r) 0
def Ee(m k:Nat)(s:Bool):Nat:=if s then nF m k true / 2^2^k else nF m k false*2^2^k
def yJ(k m:Nat):Bool :=
 let lo:=fcs m k false
 let hi:=fcs m k true
 (fcs (nF m k false) k false).all (fun e=>decide (e∈lo))&&(fcs (nF m k true) k true).all (fun e=>decide (e∈hi)) &&
  (let t:=fcs (Ee m k true) k false;hi.all fun e=>decide ((Mu k (-512) e.2,Mu k (-512) e.1)∈t)) &&
  (let t:=fcs (Ee m k false) k true;lo.all fun e=>decide ((Mu k 512 e.2,Mu k 512 e.1)∈t))
def pcs(f:Nat→Bool)(j:Nat):Bool:=(c_ 64).all fun i=>f (j*64+i)
theorem aqb{f:Nat→Bool}(h0:pcs f 0=true)(h1:pcs f 1=true)(h2:pcs f 2=true)(h3:pcs f 3=true):(c_ 256).all f=true:=df.2 fun m hm=>by
 have hm:=fe.1 hm;have k:∀j,pcs f j=true→f (j*64+m%64)=true:=fun j h=>df.1 h _ (fe.2 (by omega));rw[show m=m / 64*64+m%64 by omega];obtain h | h | h | h:m / 64=0∨m / 64=1∨m / 64=2∨m / 64=3:=by omega
 all_goals rw[h];apply k;assumption
theorem amH:pcs (yJ 0) 0=true:=by kernel_rfl
theorem amI:pcs (yJ 0) 1=true:=by kernel_rfl
theorem amJ:pcs (yJ 0) 2=true:=by kernel_rfl
theorem amK:pcs (yJ 0) 3=true:=by kernel_rfl
theorem aqc:(c_ 256).all (yJ 0)=true:=aqb amH amI amJ amK
theorem amL:pcs (yJ 1) 0=true:=by kernel_rfl
theorem amM:pcs (yJ 1) 1=true:=by kernel_rfl
theorem amN:pcs (yJ 1) 2=true:=by kernel_rfl
theorem amO:pcs (yJ 1) 3=true:=by kernel_rfl
theorem aqd:(c_ 256).all (yJ 1)=true:=aqb amL amM amN amO
theorem amP:pcs (yJ 2) 0=true:=by kernel_rfl
theorem amQ:pcs (yJ 2) 1=true:=by kernel_rfl
theorem amR:pcs (yJ 2) 2=true:=by kernel_rfl
theorem amS:pcs (yJ 2) 3=true:=by kernel_rfl
theorem aqe:(c_ 256).all (yJ 2)=true:=aqb amP amQ amR amS
def agL(ts:List T3)(q:P3):Nat→P3→List P3
 | 0,a=>[a]
 | n+1,a=>a::match bR ts q a with
  | none=>[]
  | some x=>agL ts q n x
theorem Qe{ts:List T3}{q b:P3}:∀(n:Nat) (a:P3),b∈agL ts q n a→nX (Nx ts q) a b
 | 0,a,h=>by rw[az.1 h];exact .refl _
 | n+1,a,h=>by
  unfold agL at h;rcases an.1 h with rfl | h
  · exact .refl _
  · cases hb:bR ts q a with
    | none=>rw[hb] at h;cases h
    | some x =>
     rw[hb] at h;exact (nX.one (rF hb)).trans (Qe n x h)
def onK(k:Nat)(s:Bool)(p:P3):Bool:=decide (cO p k=if s then 512 else 0)
def inK(p:P3):Bool:=decide (0<p.x)&&decide (p.x<512)&&decide (0<p.y)&&decide (p.y<512)&&decide (0<p.z)&&decide (p.z<512)
def isX(k:Nat)(q:P3):Bool:=decide (cO q k=256)&&(onK ((k+1)%3) false q||onK ((k+1)%3) true q)&&(onK ((k+2)%3) false q||onK ((k+2)%3) true q)
def ajG(ts:List T3)(q:P3):Bool :=
 let os:=Jl ts q
 os.all fun a=>let l:=agL ts q os.length a;os.all fun b=>decide (b∈l)
def asl(ts:List T3)(q:P3)(k:Nat)(s:P3):Bool :=
 let os:=Jl ts q
 let t:=amk ts q os.length s
 let l:=agL ts q os.length s
 let A:=onK ((k+1)%3) (onK ((k+1)%3) true q)
 let B:=onK ((k+2)%3) (onK ((k+2)%3) true q)
 decide (s∈os)&&os.all (fun b=>decide (b∈l))&&os.all (fun a=>decide (t∈agL ts q os.length a))&&decide (t∉os) &&
  ((A s && !B s&&B t && !A t)||(B s && !A s&&A t && !B t))&&os.all fun a=>!(A a||B a)||decide (a=s)
def ajH(ts:List T3)(q:P3)(k:Nat):Bool:=isX k q&&(Jl ts q).any (asl ts q k)
def asm(m:Nat):Bool :=
 let ts:=kE m
 (bM ts).all fun q=>(inK q&&ajG ts q)||ajH ts q 0||ajH ts q 1||ajH ts q 2
theorem ajI:(c_ 256).all asm=true:=by kernel_rfl
def rS(c p:P3):P3:=⟨p.x+512*c.x,p.y+512*c.y,p.z+512*c.z⟩
def xK:List P3:=(c_ 4).flatMap fun (z:Nat)=>(c_ 4).flatMap fun (y:Nat)=>(c_ 4).map fun (x:Nat)=>⟨(x:Int),(y:Int),(z:Int)⟩
def inG(c:P3):Prop:=0≤c.x∧c.x<4∧0≤c.y∧c.y<4∧0≤c.z∧c.z<4
theorem yK  : c∈xK↔inG c:=by
 unfold xK inG;simp only[dl,cw,fe];constructor
 · rintro⟨z,hz,y,hy,x,hx,rfl⟩
   simp only;omega
 · rintro⟨h1,h2,h3,h4,h5,h6⟩
   refine⟨c.z.toNat,by omega,c.y.toNat,by omega,c.x.toNat,by omega,P3.eq ?_ ?_ ?_⟩ <;> simp only <;> omega
theorem ab1:xK.Nodup:=by
 have:decide xK.Nodup=true:=by kernel_rfl
 exact of_decide_eq_true this
structure aav(mk:P3→Nat):Prop where
 lt:∀c,mk c<256
 up:∀k,k<3→∀c,Ee (mk c) k true=nF (mk (Mu k 1 c)) k false
 dn:∀k,k<3→∀c,Ee (mk c) k false=nF (mk (Mu k (-1) c)) k true
 lo:∀k,k<3→∀c,cO c k=0→nF (mk c) k false=0
 hi:∀k,k<3→∀c,cO c k=3→nF (mk c) k true=0
def wZ(mk:P3→Nat):List T3:=xK.flatMap fun c=>(kE (mk c)).map (T3.mapP (rS c))
theorem rT{p:P3}(h:rS c p=rS c q):p=q:=by
 unfold rS at h;simp only[P3.mk.injEq] at h;exact P3.eq (by omega) (by omega) (by omega)
theorem aqf{p b:P3}:Nx (wZ mk) p a b↔∃c,inG c∧∃p' a' b',Nx (kE (mk c)) p' a' b'∧rS c p'=p∧rS c a'=a∧rS c b'=b:=by
 constructor
 · intro h
   obtain⟨t,ht,hx⟩:=dP.1 h;obtain⟨c,hc,ht⟩:=dl.1 ht;exact⟨c,yK.1 hc,adV.1 (dP.2 ⟨t,ht,hx⟩)⟩
 · rintro⟨c,hc,h⟩
   obtain⟨t,ht,hx⟩:=dP.1 (adV.2 h);exact dP.2 ⟨t,dl.2 ⟨c,yK.2 hc,ht⟩,hx⟩
/-! ### What was checked -/
theorem Tp{f:Nat→Bool}(h:(c_ 256).all f=true){m:Nat}(hm:m<256):f m=true:=df.1 h m (fe.2 hm)
section
variable {m:Nat}
theorem aty(hm:m<256):∀t∈kE m,t.nd=true:=fun t ht=>by
 have:=Tp abY hm;unfold ap7 at this;exact df.1 (jh.1 this).1 t ht
theorem amT(hm:m<256):(aQ (kE m)).Nodup:=by
 have:=Tp abY hm;unfold ap7 at this;exact of_decide_eq_true (jh.1 this).2
def InB(p:P3):Prop:=0≤p.x∧p.x≤512∧0≤p.y∧p.y≤512∧0≤p.z∧p.z≤512
theorem aaw(hm:m<256){e:E3}(he:e∈aQ (kE m)):InB e.1∧((sY e∈aQ (kE m)∧Ax e=0)∨(sY e∉aQ (kE m)∧Ax e=1)):=by
 have:=Tp ajF hm;unfold asj at this;obtain⟨h1,h2⟩:=jh.1 (df.1 this e he);refine⟨?_,?_⟩
 · unfold aon at h1
   simp only[ba,decide_eq_true_eq] at h1;exact⟨h1.1.1.1.1.1,h1.1.1.1.1.2,h1.1.1.1.2,h1.1.1.2,h1.1.2,h1.2⟩
 · split at h2
   · rename_i k;exact .inl ⟨of_decide_eq_true k,of_decide_eq_true h2⟩
   · rename_i k;exact .inr ⟨fun q=>k (decide_eq_true q),of_decide_eq_true h2⟩
theorem afq(hm:m<256){p b:P3}(h:Nx (kE m) p a b):InB p∧InB a∧InB b:=⟨(aaw hm (qB h)).1,(aaw hm (qB (mS h))).1,(aaw hm (qB (mS (mS h)))).1⟩
theorem Kc{k:Nat}{e:E3}:e∈fcs m k s↔e∈aQ (kE m)∧Cc k s e=true:=dh
theorem c3(hm:m<256){k:Nat}(hk:k<3):yJ k m=true:=by
 match k,hk with
 | 0,_=>exact Tp aqc hm
 | 1,_=>exact Tp aqd hm
 | 2,_=>exact Tp aqe hm
theorem atz(hm:m<256){k:Nat}(hk:k<3){e:E3}(he:e∈fcs m k true):(Mu k (-512) e.2,Mu k (-512) e.1)∈fcs (Ee m k true) k false:=by
 have:=c3 hm hk;unfold yJ at this;simp only[ba] at this;exact of_decide_eq_true (df.1 this.1.2 e he)
theorem atA(hm:m<256){k:Nat}(hk:k<3){e:E3}(he:e∈fcs m k false):(Mu k 512 e.2,Mu k 512 e.1)∈fcs (Ee m k false) k true:=by
 have:=c3 hm hk;unfold yJ at this;simp only[ba] at this;exact of_decide_eq_true (df.1 this.2 e he)
theorem atC(hm:m<256){k:Nat}(hk:k<3){e:E3}(he:e∈fcs (nF m k false) k false):e∈fcs m k false:=by
 have:=c3 hm hk;unfold yJ at this;simp only[ba] at this;exact of_decide_eq_true (df.1 this.1.1.1 e he)
theorem atD(hm:m<256){k:Nat}(hk:k<3){e:E3}(he:e∈fcs (nF m k true) k true):e∈fcs m k true:=by
 have:=c3 hm hk;unfold yJ at this;simp only[ba] at this;exact of_decide_eq_true (df.1 this.1.1.2 e he)
end
theorem aqg:kE 0=[]:=by kernel_rfl
theorem aoo{e:E3}(h:e∈fcs 0 k s):False:=by
 have:=(Kc.1 h).1;rw[aqg] at this;cases this
/-! ### One cell and the next -/
def yL(k:Nat)(s:Bool)(c:P3):P3:=Mu k (if s then 1 else -1) c
def Cd(k:Nat)(s:Bool)(p:P3):P3:=Mu k (if s then -512 else 512) p
theorem Mw(hk:k<3)(s:Bool)(c p:P3):rS (yL k s c) (Cd k s p)=rS c p:=by
 unfold rS yL Cd Mu
 match k,hk with
 | 0,_=>cases s <;> simp <;> omega
 | 1,_=>cases s <;> simp <;> omega
 | 2,_=>cases s <;> simp <;> omega
theorem jF(hk:k<3)(hj:j<3)(n:Int)(p:P3):cO (Mu k n p) j=cO p j+if k=j then n else 0:=by
 unfold cO Mu
 match k,hk,j,hj with
 | 0,_,0,_=>simp
 | 0,_,1,_=>simp
 | 0,_,2,_=>simp
 | 1,_,0,_=>simp
 | 1,_,1,_=>simp
 | 1,_,2,_=>simp
 | 2,_,0,_=>simp
 | 2,_,1,_=>simp
 | 2,_,2,_=>simp
theorem aax  : inG c↔∀k,k<3→0≤cO c k∧cO c k<4:=by
 unfold inG;constructor
 · rintro⟨h1,h2,h3,h4,h5,h6⟩ k hk
   match k,hk with
   | 0,_=>exact⟨h1,h2⟩
   | 1,_=>exact⟨h3,h4⟩
   | 2,_=>exact⟨h5,h6⟩
 · intro h
   exact⟨(h 0 (by decide)).1,(h 0 (by decide)).2,(h 1 (by decide)).1,(h 1 (by decide)).2,(h 2 (by decide)).1,(h 2 (by decide)).2⟩
theorem yM{p:P3}(h:∀k,k<3→cO p k=cO q k):p=q:=P3.eq (h 0 (by decide)) (h 1 (by decide)) (h 2 (by decide))
theorem amU{p:P3}(hk:k<3):cO (rS c p) k=cO p k+512*cO c k:=by
 match k,hk with
 | 0,_=>rfl
 | 1,_=>rfl
 | 2,_=>rfl
theorem InB.at{p:P3}(h:InB p)(hk:k<3):0≤cO p k∧cO p k≤512:=by
 obtain⟨h1,h2,h3,h4,h5,h6⟩:=h
 match k,hk with
 | 0,_=>exact⟨h1,h2⟩
 | 1,_=>exact⟨h3,h4⟩
 | 2,_=>exact⟨h5,h6⟩
theorem yN{e:E3}:Cc k s e=true↔cO e.1 k=(if s then 512 else 0)∧cO e.2 k=if s then 512 else 0:=by
 unfold Cc onF;rw[ba,decide_eq_true_eq,decide_eq_true_eq]
theorem aso{mk:P3→Nat}(g:aav mk){c:P3}(hc:inG c){k:Nat}(hk:k<3){s:Bool}{e:E3}(he:e∈aQ (kE (mk c)))(hf:Cc k s e=true) :
 inG (yL k s c)∧(Cd k s e.2,Cd k s e.1)∈aQ (kE (mk (yL k s c)))∧Cc k (!s) (Cd k s e.2,Cd k s e.1)=true:=by
 have hG:∀d:Int,(0≤cO c k+d∧cO c k+d<4)→inG (Mu k d c):=fun d hd=>aax.2 fun j hj=>by
  rw[jF hk hj];split
  · rename_i e;rw[←e];exact hd
  · rw[iy];exact aax.1 hc j hj
 obtain⟨c0,c4⟩:=aax.1 hc k hk;cases s with
 | true =>
  have h1:=atz (g.lt c) hk (Kc.2 ⟨he,hf⟩);have hne:cO c k≠3:=fun h3=>by
   have h0:=g.hi k hk c h3;unfold Ee at h1;rw[if_pos rfl,h0,Nat.zero_div] at h1;exact aoo h1
  rw[g.up k hk c] at h1;obtain⟨h2,h3⟩:=Kc.1 (atC (g.lt _) hk h1);exact⟨hG 1 (by omega),h2,h3⟩
 | false =>
  have h1:=atA (g.lt c) hk (Kc.2 ⟨he,hf⟩);have hne:cO c k≠0:=fun h3=>by
   have h0:=g.lo k hk c h3;unfold Ee at h1;rw[if_neg fz,h0,Nat.zero_mul] at h1;exact aoo h1
  rw[g.dn k hk c] at h1;obtain⟨h2,h3⟩:=Kc.1 (atD (g.lt _) hk h1);exact⟨hG (-1) (by omega),h2,h3⟩
/-! ### No edge twice -/
theorem agN{e:E3}(hk:k<3)(hj:j<3)(hne:k≠j){r:Bool}(h1:Cc k s e=true)(h2:Cc j r e=true):2≤Ax e:=by
 unfold Ax
 match k,hk,j,hj with
 | 0,_,0,_=>exact absurd rfl hne
 | 1,_,1,_=>exact absurd rfl hne
 | 2,_,2,_=>exact absurd rfl hne
 | 0,_,1,_=>cases s <;> cases r <;> simp[h1,h2] <;> omega
 | 0,_,2,_=>cases s <;> cases r <;> simp[h1,h2] <;> omega
 | 1,_,0,_=>cases s <;> cases r <;> simp[h1,h2] <;> omega
 | 1,_,2,_=>cases s <;> cases r <;> simp[h1,h2] <;> omega
 | 2,_,0,_=>cases s <;> cases r <;> simp[h1,h2] <;> omega
 | 2,_,1,_=>cases s <;> cases r <;> simp[h1,h2] <;> omega
theorem agO{e:E3}(hk:k<3)(h1:Cc k s e=true):1≤Ax e:=by
 unfold Ax
 match k,hk with
 | 0,_=>cases s <;> simp[h1] <;> omega
 | 1,_=>cases s <;> simp[h1] <;> omega
 | 2,_=>cases s <;> simp[h1] <;> omega
theorem Kd{c d p q:P3}(hp:InB p)(hq:InB q)(h:rS c p=rS d q){k:Nat}(hk:k<3) :
 (cO c k=cO d k∧cO p k=cO q k)∨(cO d k=cO c k+1∧cO p k=512∧cO q k=0)∨(cO c k=cO d k+1∧cO p k=0∧cO q k=512):=by
 have e:=congrArg (fun x=>cO x k) h;simp only[amU hk] at e;have a:=hp.at hk;have b:=hq.at hk;omega
theorem aqh(g:aav mk){d:P3}(hc:inG c)(hd:inG d){e1 e2:E3}(h1:e1∈aQ (kE (mk c)))(h2:e2∈aQ (kE (mk d)))(ha:rS c e1.1=rS d e2.1)(hb:rS c e1.2=rS d e2.2):c=d:=by
 have box:∀{c:P3} {e:E3},e∈aQ (kE (mk c))→InB e.1∧InB e.2:=fun {c e} he=>by
  obtain⟨a,b⟩:=e;obtain⟨y,hy⟩:=lF.1 he;exact⟨(afq (g.lt c) hy).1,(afq (g.lt c) hy).2.1⟩
 obtain⟨a1,b1⟩:=box h1;obtain⟨a2,b2⟩:=box h2;refine Classical.byContradiction fun hne=>?_;obtain⟨k,hk,hck⟩:∃k,k<3∧cO c k≠cO d k:=Classical.byContradiction fun hn=>hne (yM fun k hk=>Classical.byContradiction fun h=>hn ⟨k,hk,h⟩);have f1:∀{k},k<3→cO c k≠cO d k→∃s,Cc k s e1=true∧Cc k (!s) e2=true∧cO d k=cO c k+if s then 1 else -1:=fun {k} hk hck=>by
  have A:=Kd a1 a2 ha hk;have B:=Kd b1 b2 hb hk;by_cases h:cO d k=cO c k+1
  · refine⟨true,yN.2 ⟨?_,?_⟩,yN.2 ⟨?_,?_⟩,h⟩ <;> simp <;> omega
  · refine⟨false,yN.2 ⟨?_,?_⟩,yN.2 ⟨?_,?_⟩,?_⟩ <;> simp <;> omega
 obtain⟨s,hs1,hs2,hs3⟩:=f1 hk hck;have hone:Ax e1=1∧sY e1∉aQ (kE (mk c)):=by
  rcases (aaw (g.lt c) h1).2 with ⟨_,h⟩ | ⟨h,h'⟩
  · have:=agO hk hs1;omega
  · exact⟨h',h⟩
 have hd':d=yL k s c:=yM fun j hj=>by
  unfold yL;rw[jF hk hj];by_cases e:k=j
  · subst e;rw[if_pos rfl];exact hs3
  · rw[if_neg e,iy]
    refine Classical.byContradiction fun h=>?_;obtain⟨r,hr,_⟩:=f1 hj (Ne.symm h);have:=agN hk hj e hs1 hr;omega
 -- back across the face
 obtain⟨_,h3,_⟩:=aso g hd hk h2 hs2;have hback:yL k (!s) d=c:=yM fun j hj=>by
  rw[hd'];unfold yL;rw[jF hk hj,jF hk hj];cases s <;> by_cases e:k=j <;> simp[e] <;> omega
 rw[hback] at h3;have q1:Cd k (!s) e2.1=e1.1:=rT (c:=c) (by rw[←hback,Mw hk,hback,ha]);have q2:Cd k (!s) e2.2=e1.2:=rT (c:=c) (by rw[←hback,Mw hk,hback,hb]);rw[q1,q2] at h3;exact hone.2 h3
theorem Tq{α β:Type}{f:α→List β}:∀{l:List α},l.Nodup→(∀a∈l,(f a).Nodup)→(∀a∈l,∀b∈l,∀x,x∈f a→x∈f b→a=b)→(l.flatMap f).Nodup
 | [],_,_,_=>jo
 | a::l,hn,h1,h2=>by
  obtain⟨n1,n2⟩:=f_.1 hn;rw[b_];refine List.nodup_append.2 ⟨h1 a (bh ..),Tq n2 (fun b hb=>h1 b (bg _ hb)) (fun b hb c hc=>h2 b (bg _ hb) c (bg _ hc)),fun x hx y hy e=>?_⟩;obtain⟨b,hb,hy⟩:=dl.1 hy;have:=h2 a (bh ..) b (bg _ hb) x hx (e▸hy);exact n1 (this▸hb)
theorem amV(g:aav mk):(aQ (wZ mk)).Nodup:=by
 have e:aQ (wZ mk)=xK.flatMap fun c=>(aQ (kE (mk c))).map fun e=>(rS c e.1,rS c e.2):=by
  unfold wZ aQ;rw[List.flatMap_assoc]
  congr 1
  funext c
  rw[lx,om];rfl
 rw[e];refine Tq ab1 (fun c _=>?_) fun c hc d hd x hx hy=>?_
 · rw[pg,jn]
   refine (amT (g.lt c)).imp fun {a b} hne h=>hne ?_;simp only[fk] at h;exact Prod.ext (rT h.1) (rT h.2)
 · obtain⟨e1,h1,rfl⟩:=cw.1 hx
   obtain⟨e2,h2,h⟩:=cw.1 hy;simp only[fk] at h;exact aqh g (yK.1 hc) (yK.1 hd) h1 h2 h.1.symm h.2.symm
theorem aop(g:aav mk):tG (wZ mk):=fun t ht=>by
 obtain⟨c,_,ht⟩:=dl.1 ht;obtain⟨s,hs,rfl⟩:=cw.1 ht;obtain⟨k1,k2,k3⟩:=rH.1 (aty (g.lt c) s hs);have i:∀{p q:P3},p≠q→rS c p≠rS c q:=fun h e=>h (rT e);simp[oG,T3.mapP,i k1,i k2,i k3]
structure Seg(mk:P3→Nat)(k α β:Nat)(c q s t:P3):Prop where
 g:inG c
 k3:k<3
 a3:α<3
 b3:β<3
 ka:k≠α
 kb:k≠β
 ab:α≠β
 qk:cO q k=256
 qa:cO q α=0∨cO q α=512
 qb:cO q β=0∨cO q β=512
 dom:∃b,Nx (kE (mk c)) q s b
 fwd:∀a b,Nx (kE (mk c)) q a b→nX (Nx (kE (mk c)) q) s a
 tot:∀a b,Nx (kE (mk c)) q a b→nX (Nx (kE (mk c)) q) a t
 ne:t≠s
 ta:cO t α=cO q α
 sx:cO s α≠cO q α
 un:∀a b,Nx (kE (mk c)) q a b→(cO a α=cO q α∨cO a β=cO q β)→a=s
theorem Qf{p:P3}:onK k s p=true↔cO p k=if s then 512 else 0:=decide_eq_true_iff
theorem Xv(h:cO q k=0∨cO q k=512):onK k (onK k true q) a=true↔cO a k=cO q k:=by
 rw[Qf];cases hh:onK k true q with
 | true=>rw[Qf] at hh;simp at hh;simp[hh]
 | false =>
  have:¬cO q k=512:=fun e=>by
   have:onK k true q=true:=Qf.2 (by simpa using e);rw[hh] at this;cases this
  have h0:cO q k=0:=h.resolve_right this;simp[h0]
theorem Ay{ts:List T3}  : a∈Jl ts q↔∃b,Nx ts q a b:=by rw[Jm,lF]
theorem ajJ(hk:k<3)(hg:inG c)(h:ajH (kE (mk c)) q k=true):∃α β s t,Seg mk k α β c q s t∧((α=(k+1)%3∧β=(k+2)%3)∨(α=(k+2)%3∧β=(k+1)%3)):=by
 unfold ajH at h;obtain⟨hx,h⟩:=jh.1 h;obtain⟨s,hs,h⟩:=List.any_eq_true.1 h;unfold isX at hx;simp only[ba,gg,Qf,decide_eq_true_eq,if_true,Bool.false_eq_true,if_false] at hx;obtain⟨⟨qk,q1⟩,q2⟩:=hx;unfold asl at h;simp only[ba,gg,decide_eq_true_eq,df,gi] at h;obtain⟨⟨⟨⟨⟨_,h1⟩,h2⟩,h3⟩,h4⟩,h5⟩:=h;have hk1:(k+1)%3<3:=fw _ (by decide);have hk2:(k+2)%3<3:=fw _ (by decide);have fwd:∀a b,Nx (kE (mk c)) q a b→nX (Nx (kE (mk c)) q) s a:=fun a b h=>Qe _ _ (h1 a (Ay.2 ⟨b,h⟩));have tot:∀a b,Nx (kE (mk c)) q a b→nX (Nx (kE (mk c)) q) a (amk (kE (mk c)) q (Jl (kE (mk c)) q).length s):=fun a b h=>Qe _ _ (h2 a (Ay.2 ⟨b,h⟩));have ne:amk (kE (mk c)) q (Jl (kE (mk c)) q).length s≠s:=fun e=>h3 (by rw[e];exact hs);have un:∀a b,Nx (kE (mk c)) q a b→(cO a ((k+1)%3)=cO q ((k+1)%3)∨cO a ((k+2)%3)=cO q ((k+2)%3))→a=s:=fun a b h hh=>by
  have:=h5 a (Ay.2 ⟨b,h⟩);rw[Bool.or_eq_false_iff] at this;rcases this with ⟨g1,g2⟩ | g
  · rcases hh with e | e
    · rw[(Xv q1).2 e] at g1;cases g1
    · rw[(Xv q2).2 e] at g2;cases g2
  · exact g
 rcases h4 with ⟨⟨⟨h6,h7⟩,h8⟩,h9⟩ | ⟨⟨⟨h6,h7⟩,h8⟩,h9⟩
 · -- from the first face to the second
   refine⟨(k+2)%3,(k+1)%3,s,_,⟨hg,hk,hk2,hk1,by omega,by omega,by omega,qk,q2,q1,Ay.1 hs,fwd,tot,ne,(Xv q2).1 h8,fun e=>?_,fun a b h hh=>un a b h hh.symm⟩,.inr ⟨rfl,rfl⟩⟩;rw[(Xv q2).2 e] at h7;cases h7
 · refine⟨(k+1)%3,(k+2)%3,s,_,⟨hg,hk,hk1,hk2,by omega,by omega,by omega,qk,q1,q2,Ay.1 hs,fwd,tot,ne,(Xv q1).1 h8,fun e=>?_,un⟩,.inl ⟨rfl,rfl⟩⟩
   rw[(Xv q1).2 e] at h7;cases h7
theorem ajK{mk:P3→Nat}(g:aav mk){c q a b:P3}(hg:inG c)(h:Nx (kE (mk c)) q a b) :
 ((∀k,k<3→0<cO q k∧cO q k<512)∧∀a b x y,Nx (kE (mk c)) q a b→Nx (kE (mk c)) q x y→nX (Nx (kE (mk c)) q) a x)∨∃k α β s t,Seg mk k α β c q s t∧((α=(k+1)%3∧β=(k+2)%3)∨(α=(k+2)%3∧β=(k+1)%3)):=by
 have h4:=Tp ajI (g.lt c);unfold asm at h4;have:=df.1 h4 q (iU.2 (lZ.2 ⟨a,b,h⟩));simp only[gg] at this;rcases this with ((h | h) | h) | h
 · obtain⟨h1,h2⟩:=jh.1 h
   unfold inK at h1;simp only[ba,decide_eq_true_eq] at h1;obtain⟨⟨⟨⟨⟨x1,x2⟩,x3⟩,x4⟩,x5⟩,x6⟩:=h1;refine .inl ⟨fun k hk=>?_,fun a b x y ha hx=>?_⟩
   · match k,hk with
     | 0,_=>exact⟨x1,x2⟩
     | 1,_=>exact⟨x3,x4⟩
     | 2,_=>exact⟨x5,x6⟩
   · unfold ajG at h2
     exact Qe _ _ (of_decide_eq_true (df.1 (df.1 h2 a (Ay.2 ⟨b,ha⟩)) x (Ay.2 ⟨y,hx⟩)))
 · obtain⟨α,β,s,t,S,e⟩:=ajJ (k:=0) (by decide) hg h;exact .inr ⟨0,α,β,s,t,S,e⟩
 · obtain⟨α,β,s,t,S,e⟩:=ajJ (k:=1) (by decide) hg h;exact .inr ⟨1,α,β,s,t,S,e⟩
 · obtain⟨α,β,s,t,S,e⟩:=ajJ (k:=2) (by decide) hg h;exact .inr ⟨2,α,β,s,t,S,e⟩
def qH(k:Nat)(q:P3):Bool:=decide (cO q k=512)
theorem asp(h:cO q k=0∨cO q k=512):cO q k=if qH k q then 512 else 0:=by
 unfold qH;rcases h with e | e <;> simp[e]
theorem Seg.hop{mk:P3→Nat}(g:aav mk){k α β:Nat}{c q s t:P3}(S:Seg mk k α β c q s t) :
 ∃s' t',Seg mk k β α (yL α (qH α q) c) (Cd α (qH α q) q) s' t'∧rS (yL α (qH α q) c) s'=rS c t:=by
 obtain⟨b,hb⟩:=S.dom;have hlast:∃w,Nx (kE (mk c)) q w t:=by
  have r:=S.tot s b hb;cases r with
  | refl=>exact absurd rfl S.ne
  | tail _ h=>exact⟨_,h⟩
 obtain⟨w,hw⟩:=hlast;have he:(t,q)∈aQ (kE (mk c)):=qB (mS (mS hw));have hq:=asp S.qa;have hf:Cc α (qH α q) (t,q)=true:=yN.2 ⟨S.ta.trans hq,hq⟩;obtain⟨hG,h2,h3⟩:=aso g S.g S.a3 he hf;obtain⟨y,hy⟩:=lF.1 h2;obtain⟨f1,f2⟩:=yN.1 h3;simp only at f1 f2 hy;have qa':cO (Cd α (qH α q) q) α=0∨cO (Cd α (qH α q) q) α=512:=by
  rw[f1];cases qH α q <;> simp
 have cj:∀j,j<3→α≠j→cO (Cd α (qH α q) q) j=cO q j:=fun j hj hne=>by
  unfold Cd;rw[jF S.a3 hj,if_neg hne,iy]
 have ck:=cj k S.k3 (Ne.symm S.ka);have cb:=cj β S.b3 S.ab;rcases ajK g hG hy with ⟨hin,_⟩ | ⟨k',α',β',s',t',S',e'⟩
 · have:=hin α S.a3
   omega
 · have ek:k'=k:=by
    have h1:=S'.qk;have h2:=S.k3;have h3:=S.a3;have h4:=S.b3;have h5:=S'.k3;have h6:=S.ka;have h7:=S.kb;have h8:=S.ab;refine Classical.byContradiction fun hne=>?_;have:k'=α∨k'=β:=by omega
    rcases this with e | e
    · rw[e] at h1;omega
    · rw[e,cb] at h1
      have:=S.qb;omega
   subst ek;have hab:(α'=α∧β'=β)∨(α'=β∧β'=α):=by
    have h2:=S.k3;have h3:=S.a3;have h4:=S.b3;have h6:=S.ka;have h7:=S.kb;have h8:=S.ab;omega
   rcases hab with ⟨rfl,rfl⟩ | ⟨rfl,rfl⟩
   · have e:=S'.un _ _ hy (.inl (f2.trans f1.symm))
     exact absurd (by rw[←e];exact f2.trans f1.symm) S'.sx
   · have e:=S'.un _ _ hy (.inr (f2.trans f1.symm))
     exact⟨s',t',S',by rw[←e,Mw S.a3]⟩
theorem qI{b:P3}(hg:inG c)(h:nX (Nx (kE (mk c)) q) a b):nX (Nx (wZ mk) (rS c q)) (rS c a) (rS c b):=by
 induction h with
 | refl=>exact .refl _
 | tail _ k ih=>exact .tail ih (aqf.2 ⟨c,hg,_,_,_,k,rfl,rfl,rfl⟩)
theorem ajL(hk:k<3)(s:Bool)(c:P3):yL k (!s) (yL k s c)=c:=yM fun j hj=>by
 unfold yL;rw[jF hk hj,jF hk hj];cases s <;> by_cases e:k=j <;> simp[e] <;> omega
theorem afr(hk:k<3)(s:Bool)(c:P3):Cd k (!s) (Cd k s c)=c:=yM fun j hj=>by
 unfold Cd;rw[jF hk hj,jF hk hj];cases s <;> by_cases e:k=j <;> simp[e] <;> omega
theorem amW(hk:k<3)(hj:j<3)(s r:Bool)(c:P3):yL k s (yL j r c)=yL j r (yL k s c):=yM fun i hi=>by
 unfold yL;rw[jF hk hi,jF hj hi,jF hj hi,jF hk hi];omega
theorem ajM(hk:k<3)(hj:j<3)(s r:Bool)(c:P3):Cd k s (Cd j r c)=Cd j r (Cd k s c):=yM fun i hi=>by
 unfold Cd;rw[jF hk hi,jF hj hi,jF hj hi,jF hk hi];omega
theorem ab2(hk:k<3)(hj:j<3)(hne:k≠j)(s:Bool)(q:P3):qH j (Cd k s q)=qH j q:=by
 unfold qH Cd;rw[jF hk hj,if_neg hne,iy]
theorem afs(hk:k<3)(h:cO q k=0∨cO q k=512):qH k (Cd k (qH k q) q) = !qH k q:=by
 unfold Cd;have e:∀n,qH k (Mu k n q)=decide (cO q k+n=512):=fun n=>by
  unfold qH;rw[jF hk hk,if_pos rfl]
 rw[e];unfold qH;rcases h with h | h <;> simp[h]
theorem atE{mk:P3→Nat}{k α β:Nat}{c q s t d q2:P3}(S:Seg mk k α β c q s t)(h2:InB q2)(h:rS c q=rS d q2) :
 d=c∨d=yL α (qH α q) c∨d=yL β (qH β q) c∨d=yL β (qH β q) (yL α (qH α q) c):=by
 have h1:InB q:=by
  obtain⟨b,hb⟩:=S.dom;have a:=S.qk;have b:=S.qa;have c:=S.qb;have k3:=S.k3;have a3:=S.a3;have b3:=S.b3;have ka:=S.ka;have kb:=S.kb;have ab:=S.ab;have key:∀j,j<3→0≤cO q j∧cO q j≤512:=fun j hj=>by
   have:j=k∨j=α∨j=β:=by omega
   rcases this with rfl | rfl | rfl <;> omega
  exact⟨(key 0 (by decide)).1,(key 0 (by decide)).2,(key 1 (by decide)).1,(key 1 (by decide)).2,(key 2 (by decide)).1,(key 2 (by decide)).2⟩
 have ax:=fun j (hj:j<3)=>Kd h1 h2 h hj;have ek:cO c k=cO d k:=by
  have:=ax k S.k3;have:=S.qk;omega
 have side:∀j,j<3→(cO q j=0∨cO q j=512)→cO d j=cO c j∨cO d j=cO c j+if qH j q then 1 else -1:=fun j hj hq=>by
  have:=ax j hj;unfold qH;rcases hq with e | e <;> simp[e] <;> omega
 have other:∀j,j<3→j=k∨j=α∨j=β:=fun j hj=>by
  have k3:=S.k3;have a3:=S.a3;have b3:=S.b3;have ka:=S.ka;have kb:=S.kb;have ab:=S.ab;omega
 have nab:=S.ab;have nka:=S.ka;have nkb:=S.kb;rcases side α S.a3 S.qa with ha | ha <;> rcases side β S.b3 S.qb with hb | hb
 · refine .inl (yM fun j hj=>?_)
   rcases other j hj with rfl | rfl | rfl
   · exact ek.symm
   · exact ha
   · exact hb
 · refine .inr (.inr (.inl (yM fun j hj=>?_)))
   unfold yL;rw[jF S.b3 hj];rcases other j hj with rfl | rfl | rfl
   · rw[if_neg (Ne.symm nkb),iy];exact ek.symm
   · rw[if_neg (Ne.symm nab),iy];exact ha
   · rw[if_pos rfl];exact hb
 · refine .inr (.inl (yM fun j hj=>?_))
   unfold yL;rw[jF S.a3 hj];rcases other j hj with rfl | rfl | rfl
   · rw[if_neg (Ne.symm nka),iy];exact ek.symm
   · rw[if_pos rfl];exact ha
   · rw[if_neg nab,iy];exact hb
 · refine .inr (.inr (.inr (yM fun j hj=>?_)))
   unfold yL;rw[jF S.b3 hj,jF S.a3 hj];rcases other j hj with rfl | rfl | rfl
   · rw[if_neg (Ne.symm nkb),if_neg (Ne.symm nka),iy,iy];exact ek.symm
   · rw[if_neg (Ne.symm nab),if_pos rfl,iy];exact ha
   · rw[if_pos rfl,if_neg nab,iy];exact hb
theorem amX(g:aav mk)(p:P3):nY (Nx (wZ mk) p):=by
 rintro s ⟨y0,hs,_⟩ x y hx;obtain⟨c,hc,q,s1,b1,h1,rfl,rfl,_⟩:=aqf.1 hs;obtain⟨d,hd,q2,x1,b2,h2,e2,rfl,_⟩:=aqf.1 hx;have hbx:=(afq (g.lt d) h2).1;have hby:=(afq (g.lt c) h1).1;rcases ajK g hc h1 with ⟨hin,hall⟩ | ⟨k,α,β,sS,tS,S,_⟩
 · have ecd:c=d:=yM fun j hj=>by
    have:=Kd hby hbx e2.symm hj;have:=hin j hj;omega
   subst ecd;have eq:=rT e2;subst eq;exact qI hc (hall _ _ _ _ h1 h2)
 · obtain⟨s2,t2,S2,g2⟩:=S.hop g
   obtain⟨s3,t3,S3,g3⟩:=S2.hop g;obtain⟨s4,t4,S4,g4⟩:=S3.hop g;obtain⟨s5,t5,S5,g5⟩:=S4.hop g
   -- where these are
   have o1:qH β (Cd α (qH α q) q)=qH β q:=ab2 S.a3 S.b3 S.ab _ _;rw[o1] at S3 g3;have o2:qH α (Cd β (qH β q) (Cd α (qH α q) q)) = !qH α q:=by rw[ab2 S.b3 S.a3 (Ne.symm S.ab),afs S.a3 S.qa]
   have hc4:yL α (!qH α q) (yL β (qH β q) (yL α (qH α q) c))=yL β (qH β q) c:=by rw[amW S.a3 S.b3,ajL S.a3]
   have hq4:Cd α (!qH α q) (Cd β (qH β q) (Cd α (qH α q) q))=Cd β (qH β q) q:=by rw[ajM S.a3 S.b3,afr S.a3]
   rw[o1,o2,hc4,hq4] at S4;rw[o1,o2,hc4] at g4;have o3:qH β (Cd β (qH β q) q) = !qH β q:=afs S.b3 S.qb;rw[o1,o2,hc4,hq4,o3,ajL S.b3,afr S.b3] at S5;rw[o1,o2,hc4,hq4,o3,ajL S.b3] at g5;have w1:rS (yL α (qH α q) c) (Cd α (qH α q) q)=rS c q:=Mw S.a3 _ _ _;have w2:rS (yL β (qH β q) (yL α (qH α q) c)) (Cd β (qH β q) (Cd α (qH α q) q))=rS c q:=by rw[Mw S.b3,w1]
   have w3:rS (yL β (qH β q) c) (Cd β (qH β q) q)=rS c q:=Mw S.b3 _ _ _;have r1:nX (Nx (wZ mk) (rS c q)) (rS c s1) (rS (yL α (qH α q) c) s2):=by
    rw[g2];exact qI hc (S.tot _ _ h1)
   have r2:nX (Nx (wZ mk) (rS c q)) (rS (yL α (qH α q) c) s2) (rS (yL β (qH β q) (yL α (qH α q) c)) s3):=by
    obtain⟨b,hb⟩:=S2.dom;rw[g3,←w1];exact qI S2.g (S2.tot _ _ hb)
   have r3:nX (Nx (wZ mk) (rS c q)) (rS (yL β (qH β q) (yL α (qH α q) c)) s3) (rS (yL β (qH β q) c) s4):=by
    obtain⟨b,hb⟩:=S3.dom;rw[g4,←w2];exact qI S3.g (S3.tot _ _ hb)
   have r4:nX (Nx (wZ mk) (rS c q)) (rS (yL β (qH β q) c) s4) (rS c s5):=by
    obtain⟨b,hb⟩:=S4.dom;rw[g5,←w3];exact qI S4.g (S4.tot _ _ hb)
   rcases atE S hbx e2.symm with rfl | rfl | rfl | rfl
   · have eq:=rT e2
     subst eq;exact (((r1.trans r2).trans r3).trans r4).trans (qI hc (S5.fwd _ _ h2))
   · have eq:=rT (e2.trans w1.symm)
     subst eq;have:=qI S2.g (S2.fwd _ _ h2);rw[w1] at this;exact r1.trans this
   · have eq:=rT (e2.trans w3.symm)
     subst eq;have:=qI S4.g (S4.fwd _ _ h2);rw[w3] at this;exact ((r1.trans r2).trans r3).trans this
   · have eq:=rT (e2.trans w2.symm)
     subst eq;have:=qI S3.g (S3.fwd _ _ h2);rw[w2] at this;exact (r1.trans r2).trans this
theorem amY(g:aav mk):dC true (wZ mk)=0:=nB.2 ⟨aop g,amV g,amX g⟩
/-! ### Masks by their bits -/
def bN(b:Bool):Nat:=if b then 1 else 0
def Ef(b0 b1 b2 b3 b4 b5 b6 b7:Bool):Nat:=bN b0+2*bN b1+4*bN b2+8*bN b3+16*bN b4+32*bN b5+64*bN b6+128*bN b7
def amZ(f:Bool→Bool→Bool→Bool→Bool→Bool→Bool→Bool→Bool):Bool:=[false,true].all fun a=>[false,true].all fun b=>[false,true].all fun c=>[false,true].all fun d=>[false,true].all fun e=>[false,true].all fun g=>[false,true].all fun h=>[false,true].all fun i=>f a b c d e g h i
theorem aft{f:Bool→Bool→Bool→Bool→Bool→Bool→Bool→Bool→Bool}(h:amZ f=true)(a b c d e g i j:Bool):f a b c d e g i j=true:=by
 have m:∀x:Bool,x∈[false,true]:=fun x=>by cases x <;> simp
 unfold amZ at h;simp only[df] at h;exact h a (m a) b (m b) c (m c) d (m d) e (m e) g (m g) i (m i) j (m j)
theorem kp(b0 b1 b2 b3 b4 b5 b6 b7:Bool) :
 Ef b0 b1 b2 b3 b4 b5 b6 b7<256∧Tm (Ef b0 b1 b2 b3 b4 b5 b6 b7)=[b0,b1,b2,b3,b4,b5,b6,b7] ∧
 nF (Ef b0 b1 b2 b3 b4 b5 b6 b7) 0 false=Ef b0 false b2 false b4 false b6 false∧nF (Ef b0 b1 b2 b3 b4 b5 b6 b7) 0 true=Ef false b1 false b3 false b5 false b7 ∧
 nF (Ef b0 b1 b2 b3 b4 b5 b6 b7) 1 false=Ef b0 b1 false false b4 b5 false false∧nF (Ef b0 b1 b2 b3 b4 b5 b6 b7) 1 true=Ef false false b2 b3 false false b6 b7 ∧
 nF (Ef b0 b1 b2 b3 b4 b5 b6 b7) 2 false=Ef b0 b1 b2 b3 false false false false∧nF (Ef b0 b1 b2 b3 b4 b5 b6 b7) 2 true=Ef false false false false b4 b5 b6 b7:=by
 have h:amZ (fun b0 b1 b2 b3 b4 b5 b6 b7=>decide (Ef b0 b1 b2 b3 b4 b5 b6 b7<256∧Tm (Ef b0 b1 b2 b3 b4 b5 b6 b7)=[b0,b1,b2,b3,b4,b5,b6,b7] ∧
  nF (Ef b0 b1 b2 b3 b4 b5 b6 b7) 0 false=Ef b0 false b2 false b4 false b6 false∧nF (Ef b0 b1 b2 b3 b4 b5 b6 b7) 0 true=Ef false b1 false b3 false b5 false b7 ∧
  nF (Ef b0 b1 b2 b3 b4 b5 b6 b7) 1 false=Ef b0 b1 false false b4 b5 false false∧nF (Ef b0 b1 b2 b3 b4 b5 b6 b7) 1 true=Ef false false b2 b3 false false b6 b7 ∧
  nF (Ef b0 b1 b2 b3 b4 b5 b6 b7) 2 false=Ef b0 b1 b2 b3 false false false false∧nF (Ef b0 b1 b2 b3 b4 b5 b6 b7) 2 true=Ef false false false false b4 b5 b6 b7))=true:=by kernel_rfl
 exact of_decide_eq_true (aft h b0 b1 b2 b3 b4 b5 b6 b7)
def Pe(vt:P3→Bool)(c:P3)(x y z:Int):Bool:=vt ⟨c.x+x,c.y+y,c.z+z⟩
def mkV(vt:P3→Bool)(c:P3):Nat:=Ef (Pe vt c 0 0 0) (Pe vt c 1 0 0) (Pe vt c 0 1 0) (Pe vt c 1 1 0) (Pe vt c 0 0 1) (Pe vt c 1 0 1) (Pe vt c 0 1 1) (Pe vt c 1 1 1)
def Ke(vt:P3→Bool):Prop:=∀p k,k<3→(cO p k=0∨cO p k=4)→vt p=false
theorem afu{vt:P3→Bool}(hb:Ke vt):aav (mkV vt):=by
 have e1:∀(c:P3) (x y z:Int),Pe vt (Mu 0 1 c) x y z=Pe vt c (1+x) y z:=fun c x y z=>by unfold Pe Mu;simp[qi]
 have e2:∀(c:P3) (x y z:Int),Pe vt (Mu 1 1 c) x y z=Pe vt c x (1+y) z:=fun c x y z=>by unfold Pe Mu;simp[qi]
 have e3:∀(c:P3) (x y z:Int),Pe vt (Mu 2 1 c) x y z=Pe vt c x y (1+z):=fun c x y z=>by unfold Pe Mu;simp[qi]
 have up:∀k,k<3→∀c,Ee (mkV vt c) k true=nF (mkV vt (Mu k 1 c)) k false:=fun k hk c=>by
  unfold Ee mkV;rw[if_pos rfl]
  match k,hk with
  | 0,_=>simp only[e1,(kp _ _ _ _ _ _ _ _).2.2.1,(kp _ _ _ _ _ _ _ _).2.2.2.1];unfold Ef;simp[bN] <;> omega
  | 1,_=>simp only[e2,(kp _ _ _ _ _ _ _ _).2.2.2.2.1,(kp _ _ _ _ _ _ _ _).2.2.2.2.2.1];unfold Ef;simp[bN] <;> omega
  | 2,_=>simp only[e3,(kp _ _ _ _ _ _ _ _).2.2.2.2.2.2.1,(kp _ _ _ _ _ _ _ _).2.2.2.2.2.2.2];unfold Ef;simp[bN] <;> omega
 refine⟨fun c=>(kp _ _ _ _ _ _ _ _).1,up,fun k hk c=>?_,fun k hk c h=>?_,fun k hk c h=>?_⟩
 · -- the same,from the other side
   have hb:c=Mu k 1 (Mu k (-1) c):=yM fun j hj=>by
    rw[jF hk hj,jF hk hj];split <;> omega
   unfold Ee;rw[if_neg fz]
   conv=>lhs;rw[hb]
   generalize Mu k (-1) c=d;unfold mkV
   match k,hk with
   | 0,_=>simp only[e1,(kp _ _ _ _ _ _ _ _).2.2.1,(kp _ _ _ _ _ _ _ _).2.2.2.1];unfold Ef;simp[bN] <;> omega
   | 1,_=>simp only[e2,(kp _ _ _ _ _ _ _ _).2.2.2.2.1,(kp _ _ _ _ _ _ _ _).2.2.2.2.2.1];unfold Ef;simp[bN] <;> omega
   | 2,_=>simp only[e3,(kp _ _ _ _ _ _ _ _).2.2.2.2.2.2.1,(kp _ _ _ _ _ _ _ _).2.2.2.2.2.2.2];unfold Ef;simp[bN] <;> omega
 · have z:∀x y z,cO (⟨x,y,z⟩:P3) k=cO c k→Pe vt c (x-c.x) (y-c.y) (z-c.z)=false:=fun x y z e=>by
    unfold Pe;rw[show c.x+(x-c.x)=x by omega,show c.y+(y-c.y)=y by omega,show c.z+(z-c.z)=z by omega];exact hb _ k hk (.inl (e.trans h))
   unfold mkV
   match k,hk with
   | 0,_ =>
    have q:∀y z,Pe vt c 0 y z=false:=fun y z=>hb _ 0 (by decide) (.inl (by show c.x+0=0;rw[iy];exact h));rw[(kp _ _ _ _ _ _ _ _).2.2.1];simp only[q];rfl
   | 1,_ =>
    have q:∀x z,Pe vt c x 0 z=false:=fun x z=>hb _ 1 (by decide) (.inl (by show c.y+0=0;rw[iy];exact h));rw[(kp _ _ _ _ _ _ _ _).2.2.2.2.1];simp only[q];rfl
   | 2,_ =>
    have q:∀x y,Pe vt c x y 0=false:=fun x y=>hb _ 2 (by decide) (.inl (by show c.z+0=0;rw[iy];exact h));rw[(kp _ _ _ _ _ _ _ _).2.2.2.2.2.2.1];simp only[q];rfl
 · unfold mkV
   match k,hk with
   | 0,_ =>
    have q:∀y z,Pe vt c 1 y z=false:=fun y z=>hb _ 0 (by decide) (.inr (by show c.x+1=4;have:c.x=3:=h;omega));rw[(kp _ _ _ _ _ _ _ _).2.2.2.1];simp only[q];rfl
   | 1,_ =>
    have q:∀x z,Pe vt c x 1 z=false:=fun x z=>hb _ 1 (by decide) (.inr (by show c.y+1=4;have:c.y=3:=h;omega));rw[(kp _ _ _ _ _ _ _ _).2.2.2.2.2.1];simp only[q];rfl
   | 2,_ =>
    have q:∀x y,Pe vt c x y 1=false:=fun x y=>hb _ 2 (by decide) (.inr (by show c.z+1=4;have:c.z=3:=h;omega));rw[(kp _ _ _ _ _ _ _ _).2.2.2.2.2.2.2];simp only[q];rfl
/-! ### From the contour to the surface -/
def Az(p:P3):P3:=⟨p.x / 1024,p.y / 1024,p.z / 1024⟩
def qU(vt:P3→Bool):List T3:=bK (xK.flatMap fun c=>wY (Tm (mkV vt c)) c 524288)
def dW(vt:P3→Bool):List T3:=bK ((qU vt).map (T3.mapP Az))
theorem aay(A k:Int)(f:Nat→Nat):∀l:List Nat,(l.map fun e=>A+(f e:Int)*k).sum=(l.length:Int)*A+((l.map f).sum:Nat)*k
 | []=>by simp
 | e::l=>by
  have ih:=aay A k f l;simp only[bp,List.sum_cons,ay,ih];simp only[Int.natCast_add,Int.add_mul];omega
theorem am0{n:Nat}(hn:0<n)(c S:Nat):((n:Int)*((c:Int)*524288)+(S:Int)*262144).tdiv n / 1024=(512*(c:Int))+((n:Int)*(0*512)+(S:Int)*256).tdiv n:=by
 have h1:(n:Int)*((c:Int)*524288)+(S:Int)*262144=((n*(c*524288)+S*262144:Nat):Int):=by
  rw[Int.natCast_add,ju,ju,ju];rfl
 have h2:(n:Int)*(0*512)+(S:Int)*256=((S*256:Nat):Int):=by
  rw[Int.zero_mul,Int.mul_zero,Int.zero_add,ju];rfl
 rw[h1,h2,←Int.ofNat_tdiv,←Int.ofNat_tdiv];have h3:(n*(c*524288)+S*262144) / n / 1024=512*c+S*256 / n:=by
  rw[Nat.mul_add_div hn,show c*524288=512*c*1024 by omega,Nat.add_comm,Nat.add_mul_div_right _ _ (by decide:0<1024),Nat.div_div_eq_div_mul,show S*262144=S*256*1024 by omega,Nat.mul_div_mul_right _ _ (by decide:0<1024)];omega
 generalize (n*(c*524288)+S*262144) / n=a at h3 ⊢;generalize S*256 / n=b at h3 ⊢;omega
theorem asq(hc:inG c)(e:Nat):Az (Xu c 524288 e)=rS c (Xu ⟨0,0,0⟩ 512 e):=by
 unfold Az Xu rS;simp only[P3.mk.injEq];refine⟨?_,?_,?_⟩ <;> (simp only[show (524288:Int) / 2=262144 from rfl,show (512:Int) / 2=256 from rfl];omega)
theorem aaz(hc:inG c){l:List Nat}(hl:0<l.length):Az (Ec (l.map (Xu c 524288)))=rS c (Ec (l.map (Xu ⟨0,0,0⟩ 512))):=by
 obtain⟨h1,_,h3,_,h5,_⟩:=hc;unfold Ec Az rS;simp only[jb,bf];have key:∀(x:Int) (hx:0≤x) (i:Nat),(l.map fun e=>x*524288+(((dO e).getD i 0:Nat):Int)*(524288 / 2)).sum.tdiv l.length / 1024=(l.map fun e=>(0:Int)*512+(((dO e).getD i 0:Nat):Int)*(512 / 2)).sum.tdiv l.length+512*x:=fun x hx i=>by
  rw[aay,aay,show (524288:Int) / 2=262144 from rfl,show (512:Int) / 2=256 from rfl];obtain⟨n,rfl⟩:∃n:Nat,x=(n:Int):=⟨x.toNat,by omega⟩
  rw[am0 hl];omega
 simp only[P3.mk.injEq];exact⟨key c.x h1 0,key c.y h3 1,key c.z h5 2⟩
theorem am1(hc:inG c)(m:Nat):(wY (Tm m) c 524288).map (T3.mapP Az)=(kE m).map (T3.mapP (rS c)):=by
 unfold kE wY;rw[om,om]
 congr 1
 funext l
 have hp:∀e,Az (Xu c 524288 e)=rS c (Xu ⟨0,0,0⟩ 512 e):=asq hc
 match l with
 | []=>rfl
 | [a]=>simp[Ka,T3.mapP,hp,aaz hc (l:=[a]) (by simp)];have:=aaz hc (l:=[a]) (by simp);simpa using this
 | [a,b] =>
  have:=aaz hc (l:=[a,b]) (by simp);simp only[bp,List.map_nil] at this;simp[Ka,T3.mapP,hp,this,gw]
 | [a,b,d]=>simp[Ka,T3.mapP,hp]
 | a::b::d::e::l =>
  have hm:=aaz hc (l:=a::b::d::e::l) (by simp);have g:∀(L:List Nat) (h:Int) (o:P3),Ka ((a::b::d::e::L).map (Xu o h))=(c_ (a::b::d::e::L).length).map fun k=>⟨((a::b::d::e::L).map (Xu o h)).getD k ⟨0,0,0⟩,((a::b::d::e::L).map (Xu o h)).getD ((k+1)%(a::b::d::e::L).length) ⟨0,0,0⟩,Ec ((a::b::d::e::L).map (Xu o h))⟩:=fun L h o=>by
   unfold Ka;simp only[bp,ay,bf]
  rw[g,g,jb,jb];refine ik fun k hk=>?_;rw[fe] at hk;have gd:∀i,i<(a::b::d::e::l).length→Az (((a::b::d::e::l).map (Xu c 524288)).getD i ⟨0,0,0⟩)=rS c (((a::b::d::e::l).map (Xu ⟨0,0,0⟩ 512)).getD i ⟨0,0,0⟩):=fun i hi=>by
   rw[ej,ej,eh,eh,ak hi];exact hp _
  show T3.mapP Az _=T3.mapP (rS c) _
  unfold T3.mapP;simp only;rw[gd k hk,gd _ (fw _ (by simp)),hm]
theorem agQ{l:List T3}{f:P3→P3}(hd:∀t∈l,(t.mapP f).nd=true):bK ((bK l).map (T3.mapP f))=bK (l.map (T3.mapP f)):=by
 refine wR ?_;rw[jb,jb];refine ((jY l).map _).trans ?_;rw[jb];have e:l.map ((dR∘T3.mapP f)∘dR)=l.map (dR∘T3.mapP f):=ik fun t ht=>by
  show dR ((dR t).mapP f)=dR (t.mapP f)
  exact vK (Xf f (jC t)) (hd t ht)
 rw[e]
theorem Xw{f g:P3→List T3}{k:P3→P3}:∀l:List P3,(∀c∈l,(f c).map (T3.mapP k)=g c)→(l.flatMap f).map (T3.mapP k)=l.flatMap g
 | [],_=>rfl
 | c::l,h=>by rw[b_,b_,ct,h c (bh ..),Xw l fun d hd=>h d (bg _ hd)]
theorem ab3(vt:P3→Bool):(xK.flatMap fun c=>wY (Tm (mkV vt c)) c 524288).map (T3.mapP Az)=wZ (mkV vt):=Xw xK fun c hc=>am1 (yK.1 hc) _
theorem am2{vt:P3→Bool}(hb:Ke vt):dW vt=bK (wZ (mkV vt)) :=
 (agQ fun t ht=>nd_of (aop (afu hb) _ (ab3 vt▸List.mem_map_of_mem ht))).trans (congrArg bK (ab3 vt))
theorem Ba{vt:P3→Bool}(hb:Ke vt):dC true (dW vt)=0:=by
 rw[am2 hb,Oo];exact amY (afu hb)
end Go.Lith
namespace Go.Proofs.YtfekpcimgncioaaGreatDoor
open Go.Proofs.Tryz
open Go.RowKit Go.Lith
set_option maxRecDepth 100000
attribute [local irreducible] wpList wpQuiet fA bF cG Code.wp
attribute [local congr] nO fK fM fN fO fP iY fQ fR fS fT fU fV fW fX fY fZ gA dX dY gB gC gE gF gG jA cQ cR cE cP gD iZ dZ eA eB gH gI jD
variable{n a b1 b2 k g3 N:Nat}{pos:Bool}{I:List Bool}{nx:List Int}{K:It}{c:P3}{ps:List P3}
theorem ab4{bs ns}(h:jS bs ns){p q v:Nat}{b:Bool}(hp:p<24)(hq:q<24):jS bs (Gu ns p q v n b):=by
 unfold Gu;split
 · exact h.put (by omega)
 · exact h.put (by omega)
theorem Mx{os:List Nat}{x:Nat}:os.map adC++[.int .i64 (x:Int)]=(os++[x]).map adC:=by simp[adC]
theorem fv2{sd:Nat}(ha:a<3)(h1:b1=(a+1)%3)(h2:b2=(a+2)%3)(hs:sd=if pos then 2^a else 0)(hk:k<4):∃s1 s2 u1 u2:Nat,IntKind.i64.wrap (((k%2:Nat):Int)*2^min (ku (b1:Int)) IntKind.i64.bits)=(s1:Int)∧IntKind.i64.wrap (((k / 2:Nat):Int)*2^min (ku (b2:Int)) IntKind.i64.bits)=(s2:Int)∧IntKind.i64.wrap (1*2^min (ku (b1:Int)) IntKind.i64.bits)=(u1:Int)∧IntKind.i64.wrap (1*2^min (ku (b2:Int)) IntKind.i64.bits)=(u2:Int)∧sd+s1+s2=fvE a pos k∧u1=2^b1∧u2=2^b2∧fvE a pos k<8∧(k%2=0→fvE a pos k+u1<8)∧(k / 2=0→fvE a pos k+u2<8):=by
 refine⟨k%2*2^b1,k / 2*2^b2,2^b1,2^b2,?_,?_,?_,?_,?_,rfl,rfl,?_,?_,?_⟩ <;> subst h1 h2 hs <;> rcases a with _ | _ | _ | a <;> rcases k with _ | _ | _ | _ | k <;> cases pos <;> first | omega | rfl | decide
theorem uF{v:Nat}(hv:v<8)(ha:a<3):Cb v a<24:=by
 have h1:=ajC v a;have h2:=ash v a;omega
theorem ajN{ls:List Nat}(h:ls.length=n)(hn:(n:Int)=2):∃x y,ls=[x,y]:=by
 match ls,h with
 | [x,y],_=>exact⟨x,y,rfl⟩
 | [],h=>simp at h;omega
 | [_],h=>simp at h;omega
 | _::_::_::l,h=>simp at h;omega
theorem am3(I:List Bool)(a:Nat)(pos:Bool)(k:Nat):fL I a pos (k+1)=fS1 I a pos (fL I a pos k) k:=by
 unfold fL;rw[gw,gl];rfl
theorem Qg{I:List Bool}{a k v b1 b2:Nat}{pos:Bool}{l1 l2:List Nat}{ins:Int}(hv:v=fvE a pos k)(h1:b1=(a+1)%3)(h2:b2=(a+2)%3)(hl1:l1=if k%2=0∧Fm I v≠Fm I (v+2^b1) then (fL I a pos k).1++[Cb v b1] else (fL I a pos k).1)
 (hl2:l2=if k / 2=0∧Fm I v≠Fm I (v+2^b2) then l1++[Cb v b2] else l1) (hi:ins=if Fm I v then (v:Int) else (fL I a pos k).2):fL I a pos (k+1)=(l2,ins):=by
 subst hv h1 h2 hl1 hl2 hi;rw[am3];rfl
def Tr(I:List Bool)(nx:List Int)(a:Nat)(pos:Bool):List Int:=match (fL I a pos 4).1 with
 | [p,q]=>Gu nx p q (fL I a pos 4).2.toNat a pos
 | _=>nx
theorem ab5(I:List Bool)(nx:List Int)(a:Nat)(pos:Bool):Jz I nx a pos=if (fL I a pos 4).1.length=4 then (c_ 4).foldl (f4S I a pos) (Tr I nx a pos) else Tr I nx a pos:=rfl
theorem agR{x y:Nat}(h:(fL I a pos 4).1=[x,y]):Tr I nx a pos=Gu nx x y (fL I a pos 4).2.toNat a pos:=by unfold Tr;rw[h]
theorem ajO(h:(fL I a pos 4).1.length≠2):Tr I nx a pos=nx:=by
 unfold Tr;split
 · rename_i p q e;rw[e] at h;exact absurd rfl h
 · rfl
theorem am4(I:List Bool)(a:Nat)(pos:Bool)(nx:List Int)(k:Nat):(c_ (k+1)).foldl (f4S I a pos) nx=f4S I a pos ((c_ k).foldl (f4S I a pos) nx) k:=by rw[gw,gl];rfl
theorem atF{v:Nat}(hv:v=fvE a pos k)(h1:b1=(a+1)%3)(h2:b2=(a+2)%3)(h:Fm I v=true):f4S I a pos nx k=Gu nx (Cb v b1) (Cb v b2) v a pos:=by
 subst hv h1 h2;unfold f4S;exact if_pos h
theorem atG{v:Nat}(hv:v=fvE a pos k)(h:Fm I v=false):f4S I a pos nx k=nx:=by
 subst hv;unfold f4S;exact if_neg (by rw[h];decide)
def ajG(a:Nat)(pos:Bool)(b0 b1 b2 b3 b4 b5 b6 b7:Bool):Bool:=let r:=fL [b0,b1,b2,b3,b4,b5,b6,b7] a pos 4;!decide (r.1.length=2)||decide (0≤r.2∧r.2<8)
theorem ajP:([0,1,2].all fun a=>[false,true].all fun p=>amZ (ajG a p))=true:=by kernel_rfl
theorem asr(hl:I.length=8)(ha:a<3)(h:(fL I a pos 4).1.length=2):∃v:Nat,(fL I a pos 4).2=(v:Int)∧v<8:=by
 match I,hl with
 | [b0,b1,b2,b3,b4,b5,b6,b7],_ =>
  have h1:=df.1 ajP a (by rcases a with _ | _ | _ | a <;> first | omega | simp);have h2:=aft (df.1 h1 pos (by cases pos <;> simp)) b0 b1 b2 b3 b4 b5 b6 b7;unfold ajG at h2;simp only[h,decide_true,ff,Bool.false_or,decide_eq_true_eq] at h2;exact⟨_,(Int.toNat_of_nonneg h2.1).symm,by omega⟩
theorem Xx{w0 w:aj}{bs:List Bool}{ns:List Int}{p q v:Nat}{a:Int}{b:Bool}(m:Mem w0 w [bI g3 (lN bs ns) 264,K])(hc:jS bs ns)(hp:p<24)(hq:q<24)(hv:v<8)(ha:(a=0∧n=0)∨(a=1∧n=1)∨(a=2∧n=2)):wX prog 288 [.pointer (some ⟨g3,0,none⟩),.int .i64 (p:Int),.int .i64 (q:Int),.int .i64 (v:Int),.int .i64 a,.bool b] w (fun _ w'=>Mem w0 w' [bI g3 (lN bs (Gu ns p q v n b)) 264,K]):=by
 refine⟨bP func288 (by kernel_rfl),?_⟩
 go_enter func288,ntmps288
 apply fG 7 [0] m;simp only[↓aC];refine cM m rfl rfl (amG _ hp hq hv ha) ?_;rintro v u m rfl;apply aL 6 [0] m;simp only[↓aC];refine iK rfl ?_ ?_<;>intro hc1
 ·
  apply aK 6 [0] m;simp only[↓aC,vQ,aa];refine aB (aJ Hs bD rfl rfl (by omega) (by omega) To) ?_;simp only[zz];refine cX m 0 rfl rfl rfl bD (by rw[hc.len];show _+1≤_;omega) ⟨rfl,rfl⟩ ?_;intro u m;simp only[zz] at m;rw[hc.over hp] at m;apply aL 1 [0] m;simp only[↓aC];exact Gf rfl ⟨_,rfl,by rw[Gu,if_pos hc1];exact m⟩
 ·
  apply aK 6 [0] m;simp only[↓aC,vQ,aa];refine aB (aJ Hs bD rfl rfl (by omega) (by omega) To) ?_;simp only[zz];refine cX m 0 rfl rfl rfl bD (by rw[hc.len];show _+1≤_;omega) ⟨rfl,rfl⟩ ?_;intro u m;simp only[zz] at m;rw[hc.over hq] at m;apply aL 1 [0] m;simp only[↓aC];exact Gf rfl ⟨_,rfl,by rw[Gu,if_neg (by rw[hc1];decide)];exact m⟩
theorem Xy{w0 w:aj}{bs:List Bool}{ns:List Int}(m:Mem w0 w [bI g3 (lN bs ns) 264,K])(hc:jS bs ns)(ha:a<3):wX prog 215 [.pointer (some ⟨g3,0,none⟩),.int .i64 (a:Int),.bool pos] w (fun _ w'=>Mem w0 w' [bI g3 (lN bs (Jz bs ns a pos)) 264,K]∧jS bs (Jz bs ns a pos)):=by
 refine⟨bP func215 (by kernel_rfl),?_⟩;obtain⟨b1,hb1⟩:∃b1,b1=(a+1)%3:=⟨_,rfl⟩
 obtain⟨b2,hb2⟩:∃b2,b2=(a+2)%3:=⟨_,rfl⟩
 go_enter func215,ntmps215
 apply fG 9 [0] m;simp only[↓aC];refine Sb m [6] [16,17] (fun vs=>∃(sd:Nat),vs=[.int .i64 (sd:Int)]∧(sd=if pos then 2^a else 0)) ?_ ?_
 · intro K1 hK1
   refine iK rfl ?_ ?_<;>intro hc1
   ·
    apply aK 2 [0] m;simp only[↓aC];refine aB (qR rfl rfl (by omega) (aok ha)) ?_;apply aL 2 [0] m;simp only[↓aC];exact hK1 _ _ (by kernel_rfl) m ⟨2^a,rfl,by rw[if_pos hc1]⟩
   ·
    apply aK 1 [0] m;simp only[↓aC];exact hK1 _ _ (by kernel_rfl) m ⟨0,rfl,by rw[if_neg (by rw[hc1];decide)]⟩
 · intro vs wr m hI u
   obtain⟨sd,rfl,hsd⟩:=hI;simp only[zu,zF,zG];apply aW 4 [0] m;simp only[↓aC];refine⟨by omega,?_⟩;refine aB (cL rfl rfl (by omega) (show ((a:Int)+1).tmod 3=(b1:Int) from by rw[hb1];rfl)) ?_;apply aL 6 [0] m;simp only[↓aC];refine⟨by omega,?_⟩;refine aB (cL rfl rfl (by omega) (show ((a:Int)+2).tmod 3=(b2:Int) from by rw[hb2];rfl)) ?_;apply aL 4 [0] m;simp only[↓aC];refine aB aP ?_;replace m:=m.nilO 3 1;apply aL 11 [0] m;simp only[↓aC];refine bX [9,10,11] [12,24,25,26,27,28,29,30,31,32,33,34,35,36,37,38,39,40,41,42,43,44,45,46,47,48,49,50,51,52,53,54,55,56,57,58,59,60,61,62,63,64,65,66,67,68,69,70,71,72,73,74,75,76,77,78,79,80,81,82,83,84,85,86,87,88,89,90,91,92,93,94,95,96,97,98,99] (fun n vs wl=>∃(k n9:Nat) (ins:Int) (ls:List Nat) (A9:Option Addr) (cap9:Nat),vs=[.slice A9 n9 cap9,.int .i64 ins,.int .i64 (k:Int)]∧Mem w0 wl [oI 3 1 A9 n9 cap9 (ls.map adC),bI g3 (lN bs ns) 264,K]∧(ins=(fL bs a pos k).2)∧(ls=(fL bs a pos k).1)∧(ls.length=n9)∧(∀x∈ls,x<24)∧(n9≤2*k)∧(k≤4)∧(n=4-k)) ?_ ?_
   ·
    exact⟨_,0,0,_,[],none,0,rfl,m,rfl,rfl,rfl,by simp,by omega,by omega,rfl⟩
   · intro n vs wr hI u K2 hK2
     obtain⟨k,n9,ins,ls,A9,cap9,rfl,m,hi0,hL1,hln,hls,hn9,hk,hn⟩:=hI;simp only[zu,zF,zG];apply aK 6 [0,0] m;simp only[↓aC];refine bA rfl ?_ ?_<;>intro hc2
     ·
      have hk4:k<4:=by omega
      apply aK 4 [] m;simp only[↓aC];obtain⟨s1,s2,u1,u2,hs1,hs2,hu1,hu2,hvs,hu3,hu4,hv8,hw1,hw2⟩:=fv2 (pos:=pos) ha hb1 hb2 hsd hk4;refine gc (mq m aD (by kernel_rfl) (aI aG (aI aG ?_)));simp only[zz];refine aI (cL rfl rfl (by omega) (show (k:Int).tmod 2=((k%2:Nat):Int) from rfl)) (aI aG ?_);simp only[zz];refine aI (qR rfl rfl (by omega) hs1) ?_;simp only[zz];refine aI (eS rfl rfl (bG (by omega) (by omega))) (aI aG ?_);simp only[zz];refine aI (mB rfl rfl (by omega) (show IntKind.i64.wrap ((k / 2:Nat):Int)=_ from bG (by omega) (by omega))) (aI aG ?_);simp only[zz];refine aI (qR rfl rfl (by omega) hs2) ?_;simp only[zz];refine aI (eS rfl rfl (bG (by omega) (by omega))) (aI aP (bE ?_));intro u m;simp only[zz];obtain⟨v,hv⟩:∃v:Nat,v=fvE a pos k:=⟨_,rfl⟩
      rw[←hv] at hv8 hw1 hw2 hvs;rw[show ((sd:Int)+(s1:Int)+(s2:Int))=(v:Int) by omega];apply aW 7 [0] m;simp only[↓aC,qD,aa];refine aB (aJ Aw dT rfl rfl (by omega) (by omega) (fI (ag _))) ?_;simp only[zz];refine aR rfl (lies1 ((m.b 1 rfl).cell (hc.in hv8)) oH) ?_;simp only[zz];apply aL 1 [0] m;simp only[↓aC];refine Sb m [10] [45] (fun vs=>∃(ins:Int),vs=[.int .i64 ins]∧(ins=if Fm bs v then (v:Int) else (fL bs a pos k).2)) ?_ ?_
      · intro K3 hK3
        refine iK rfl ?_ ?_<;>intro hc3
        ·
         apply aK 4 [0] m;simp only[↓aC];exact hK3 _ _ (by kernel_rfl) m ⟨_,rfl,by rw[if_pos (show Fm bs v=true from hc3)]⟩
        ·
         apply aK 1 [0] m;simp only[↓aC];exact hK3 _ _ (by kernel_rfl) m ⟨_,rfl,by rw[if_neg (by rw[show Fm bs v=false from hc3];decide)];exact hi0⟩
      · intro vs wr m hI u
        obtain⟨ins,rfl,hins⟩:=hI;simp only[zu,zF,zG];apply aW 2 [] m;simp only[↓aC];by_cases hk13:k%2=0
        ·
         have hvw:=hw1 hk13;refine gc (mq m aD (by kernel_rfl) (aI aG ?_));simp only[zz];refine aI (cL rfl rfl (by omega) (show (k:Int).tmod 2=((k%2:Nat):Int) from rfl)) ?_;simp only[zz];refine aI (uT rfl rfl (by omega)) (aI aG (bU rfl (aI aG (bU rfl (aI aG ?_)))));simp only[zz];refine bU rfl (aI (cY rfl) ?_);refine eT 1 [] ?_;simp only[↓aC,qD,aa];refine bU rfl (aI (aJ Aw dT rfl rfl (by omega) (by omega) (fI (ag _))) (bU rfl ?_));simp only[zz];refine ql rfl (fun u m=>(lies1 ((m.b 1 rfl).cell (hc.in hv8)) oH)) ?_;simp only[zz];refine bU rfl (aI aG (bU rfl (aI aG (bU rfl (aI aG (bU rfl ?_))))));simp only[zz];refine aI (qR rfl rfl (by omega) hu1) (bU rfl ?_);simp only[zz];refine aI (eS rfl rfl (bG (by omega) (by omega))) (bU rfl (aI (cY rfl) ?_));refine eT 1 [] ?_;simp only[↓aC,qD,aa];refine bU rfl (aI (aJ Aw dT rfl rfl (by omega) (by omega) (fI (show _=v+u1 by omega))) (bU rfl ?_));simp only[zz];refine ql rfl (fun u m=>(lies1 ((m.b 1 rfl).cell (hc.in hvw)) oH)) ?_;simp only[zz];refine bU rfl (aI (Zf Vc rfl rfl) (aI (rL rfl) (bE ?_)));intro u m;refine gc ?_;simp only[zz];refine iO m 0 [9] [67,68,69,70,71,72] (fun vs i=>∃(n9:Nat) (l1:List Nat) (A9:Option Addr) (cap9:Nat),vs=[.slice A9 n9 cap9]∧i=oI 3 1 A9 n9 cap9 (l1.map adC)∧(l1=if k%2=0∧Fm bs v≠Fm bs (v+2^b1) then (fL bs a pos k).1++[Cb v b1] else (fL bs a pos k).1)∧(l1.length=n9)∧(∀x∈l1,x<24)∧(n9≤2*k+1)) ?_ ?_
         · intro K4 hK4
           refine iK rfl ?_ ?_<;>intro hc4
           ·
            apply aK 4 [0] m;simp only[↓aC];refine kY m rfl rfl (Ed hv8 (show b1<3 by omega)) ?_;intro u m;simp only[zz];refine Qv lM (z:=.int .i64 0) (by kernel_rfl) rfl rfl rfl ?_;intro u g6 e_ h_ k_;replace m:=m.newB e_ h_ k_;simp only[zz];refine bW m 1 rfl rfl lM aih rfl (by decide) rfl rfl rfl (m.b 0 rfl).rowsO (jX rfl) (by omega) (by omega) ?_;intro A9 cap9 u m;simp only[zF,zG] at m;simp only[zA,zB,zC,zD,zE,Mx] at m;apply aL 2 [0] m;simp only[↓aC];exact hK4 _ _ _ (by kernel_rfl) (m.sel [false,true,true,true]) ⟨_,_,_,_,rfl,rfl,by rw[if_pos ⟨hk13,by rw[←hu3];simpa[Fm] using hc4⟩];rw[←hL1],by simp;omega,fun x hx=>(br.1 hx).elim (hls x) fun h=>by cases az.1 h;exact uF hv8 (by omega),by omega⟩
           ·
            apply aK 1 [0] m;simp only[↓aC];exact hK4 _ _ _ (by kernel_rfl) m ⟨_,_,_,_,rfl,rfl,by rw[if_neg (fun h=>by rw[←hu3] at h;exact h.2 (by simpa[Fm] using hc4))];exact hL1,hln,hls,by omega⟩
         · intro vs i wr m hI u
           obtain⟨n9,l1,A9,cap9,rfl,rfl,hl1,hln,hls,hn9⟩:=hI;simp only[zF,zG] at m;simp only[zu,zF,zG];apply aW 1 [] m;simp only[↓aC];by_cases hk15:k / 2=0
           ·
            have hvw:=hw2 hk15;refine gc (mq m aD (by kernel_rfl) (aI aG ?_));simp only[zz];refine aI (mB rfl rfl (by omega) (show IntKind.i64.wrap ((k / 2:Nat):Int)=_ from bG (by omega) (by omega))) ?_;simp only[zz];refine aI (uT rfl rfl (by omega)) (aI aG (bU rfl (aI aG (bU rfl (aI aG ?_)))));simp only[zz];refine bU rfl (aI (cY rfl) ?_);refine eT 1 [] ?_;simp only[↓aC,qD,aa];refine bU rfl (aI (aJ Aw dT rfl rfl (by omega) (by omega) (fI (ag _))) (bU rfl ?_));simp only[zz];refine ql rfl (fun u m=>(lies1 ((m.b 1 rfl).cell (hc.in hv8)) oH)) ?_;simp only[zz];refine bU rfl (aI aG (bU rfl (aI aG (bU rfl (aI aG (bU rfl ?_))))));simp only[zz];refine aI (qR rfl rfl (by omega) hu2) (bU rfl ?_);simp only[zz];refine aI (eS rfl rfl (bG (by omega) (by omega))) (bU rfl (aI (cY rfl) ?_));refine eT 1 [] ?_;simp only[↓aC,qD,aa];refine bU rfl (aI (aJ Aw dT rfl rfl (by omega) (by omega) (fI (show _=v+u2 by omega))) (bU rfl ?_));simp only[zz];refine ql rfl (fun u m=>(lies1 ((m.b 1 rfl).cell (hc.in hvw)) oH)) ?_;simp only[zz];refine bU rfl (aI (Zf Vc rfl rfl) (aI (rL rfl) (bE ?_)));intro u m;refine gc ?_;simp only[zz];refine iO m 0 [9] [94,95,96,97,98,99] (fun vs i=>∃(n9:Nat) (l2:List Nat) (A9:Option Addr) (cap9:Nat),vs=[.slice A9 n9 cap9]∧i=oI 3 1 A9 n9 cap9 (l2.map adC)∧(l2=if k / 2=0∧Fm bs v≠Fm bs (v+2^b2) then l1++[Cb v b2] else l1)∧(l2.length=n9)∧(∀x∈l2,x<24)∧(n9≤2*k+2)) ?_ ?_
            · intro K5 hK5
              refine iK rfl ?_ ?_<;>intro hc5
              ·
               apply aK 4 [0] m;simp only[↓aC];refine kY m rfl rfl (Ed hv8 (show b2<3 by omega)) ?_;intro u m;simp only[zz];refine Qv lM (z:=.int .i64 0) (by kernel_rfl) rfl rfl rfl ?_;intro u g6 e_ h_ k_;replace m:=m.newB e_ h_ k_;simp only[zz];refine bW m 1 rfl rfl lM aih rfl (by decide) rfl rfl rfl (m.b 0 rfl).rowsO (jX rfl) (by omega) (by omega) ?_;intro A9 cap9 u m;simp only[zF,zG] at m;simp only[zA,zB,zC,zD,zE,Mx] at m;apply aL 2 [0] m;simp only[↓aC];exact hK5 _ _ _ (by kernel_rfl) (m.sel [false,true,true,true]) ⟨_,_,_,_,rfl,rfl,by rw[if_pos ⟨hk15,by rw[←hu4];simpa[Fm] using hc5⟩],by simp;omega,fun x hx=>(br.1 hx).elim (hls x) fun h=>by cases az.1 h;exact uF hv8 (by omega),by omega⟩
              ·
               apply aK 1 [0] m;simp only[↓aC];exact hK5 _ _ _ (by kernel_rfl) m ⟨_,_,_,_,rfl,rfl,by rw[if_neg (fun h=>by rw[←hu4] at h;exact h.2 (by simpa[Fm] using hc5))],hln,hls,by omega⟩
            · intro vs i wr m hI u
              obtain⟨n9,l2,A9,cap9,rfl,rfl,hl2,hln,hls,hn9⟩:=hI;simp only[zF,zG] at m;simp only[zu,zF,zG];apply aW 6 [0] m;simp only[↓aC];refine⟨by omega,?_⟩;have hnx:=Qg hv hb1 hb2 hl1 hl2 hins;exact hK2 (4-(k+1)) _ _ (by omega) (by kernel_rfl) ⟨k+1,_,_,_,_,_,rfl,m,by rw[hnx],by rw[hnx],hln,hls,by omega,by omega,rfl⟩
           ·
            obtain⟨l2,hl9⟩:∃l,l=l1:=⟨_,rfl⟩
            have hl2:l2=if k / 2=0∧Fm bs v≠Fm bs (v+2^b2) then l1++[Cb v b2] else l1:=by rw[if_neg (fun h=>hk15 h.1),hl9]
            rw[←hl9] at m hln hls;refine gc (mq m aD (by kernel_rfl) (aI aG ?_));simp only[zz];refine aI (mB rfl rfl (by omega) (show IntKind.i64.wrap ((k / 2:Nat):Int)=_ from bG (by omega) (by omega))) ?_;simp only[zz];refine aI (Yw rfl rfl (by omega)) (aI aG (mQ rfl (mQ rfl ?_)));simp only[zz];refine mQ rfl (eT 14 [] ?_);simp only[↓aC];refine bE ?_;intro u m;apply aW 8 [0] m;simp only[↓aC];refine⟨by omega,?_⟩;have hnx:=Qg hv hb1 hb2 hl1 hl2 hins;exact hK2 (4-(k+1)) _ _ (by omega) (by kernel_rfl) ⟨k+1,_,_,_,_,_,rfl,m,by rw[hnx],by rw[hnx],hln,hls,by omega,by omega,rfl⟩
        ·
         obtain⟨l1,hl0⟩:∃l,l=ls:=⟨_,rfl⟩
         have hl1:l1=if k%2=0∧Fm bs v≠Fm bs (v+2^b1) then (fL bs a pos k).1++[Cb v b1] else (fL bs a pos k).1:=by rw[if_neg (fun h=>hk13 h.1),hl0];exact hL1
         rw[←hl0] at m hln hls;refine gc (mq m aD (by kernel_rfl) (aI aG ?_));simp only[zz];refine aI (cL rfl rfl (by omega) (show (k:Int).tmod 2=((k%2:Nat):Int) from rfl)) ?_;simp only[zz];refine aI (Yw rfl rfl (by omega)) (aI aG (mQ rfl (mQ rfl ?_)));simp only[zz];refine mQ rfl (eT 14 [] ?_);simp only[↓aC];refine bE ?_;intro u m;apply aW 3 [] m;simp only[↓aC];by_cases hk15:k / 2=0
         ·
          have hvw:=hw2 hk15;refine gc (mq m aD (by kernel_rfl) (aI aG ?_));simp only[zz];refine aI (mB rfl rfl (by omega) (show IntKind.i64.wrap ((k / 2:Nat):Int)=_ from bG (by omega) (by omega))) ?_;simp only[zz];refine aI (uT rfl rfl (by omega)) (aI aG (bU rfl (aI aG (bU rfl (aI aG ?_)))));simp only[zz];refine bU rfl (aI (cY rfl) ?_);refine eT 1 [] ?_;simp only[↓aC,qD,aa];refine bU rfl (aI (aJ Aw dT rfl rfl (by omega) (by omega) (fI (ag _))) (bU rfl ?_));simp only[zz];refine ql rfl (fun u m=>(lies1 ((m.b 1 rfl).cell (hc.in hv8)) oH)) ?_;simp only[zz];refine bU rfl (aI aG (bU rfl (aI aG (bU rfl (aI aG (bU rfl ?_))))));simp only[zz];refine aI (qR rfl rfl (by omega) hu2) (bU rfl ?_);simp only[zz];refine aI (eS rfl rfl (bG (by omega) (by omega))) (bU rfl (aI (cY rfl) ?_));refine eT 1 [] ?_;simp only[↓aC,qD,aa];refine bU rfl (aI (aJ Aw dT rfl rfl (by omega) (by omega) (fI (show _=v+u2 by omega))) (bU rfl ?_));simp only[zz];refine ql rfl (fun u m=>(lies1 ((m.b 1 rfl).cell (hc.in hvw)) oH)) ?_;simp only[zz];refine bU rfl (aI (Zf Vc rfl rfl) (aI (rL rfl) (bE ?_)));intro u m;refine gc ?_;simp only[zz];refine iO m 0 [9] [94,95,96,97,98,99] (fun vs i=>∃(n9:Nat) (l2:List Nat) (A9:Option Addr) (cap9:Nat),vs=[.slice A9 n9 cap9]∧i=oI 3 1 A9 n9 cap9 (l2.map adC)∧(l2=if k / 2=0∧Fm bs v≠Fm bs (v+2^b2) then l1++[Cb v b2] else l1)∧(l2.length=n9)∧(∀x∈l2,x<24)∧(n9≤2*k+2)) ?_ ?_
          · intro K6 hK6
            refine iK rfl ?_ ?_<;>intro hc5
            ·
             apply aK 4 [0] m;simp only[↓aC];refine kY m rfl rfl (Ed hv8 (show b2<3 by omega)) ?_;intro u m;simp only[zz];refine Qv lM (z:=.int .i64 0) (by kernel_rfl) rfl rfl rfl ?_;intro u g6 e_ h_ k_;replace m:=m.newB e_ h_ k_;simp only[zz];refine bW m 1 rfl rfl lM aih rfl (by decide) rfl rfl rfl (m.b 0 rfl).rowsO (jX rfl) (by omega) (by omega) ?_;intro A9 cap9 u m;simp only[zF,zG] at m;simp only[zA,zB,zC,zD,zE,Mx] at m;apply aL 2 [0] m;simp only[↓aC];exact hK6 _ _ _ (by kernel_rfl) (m.sel [false,true,true,true]) ⟨_,_,_,_,rfl,rfl,by rw[if_pos ⟨hk15,by rw[←hu4];simpa[Fm] using hc5⟩],by simp;omega,fun x hx=>(br.1 hx).elim (hls x) fun h=>by cases az.1 h;exact uF hv8 (by omega),by omega⟩
            ·
             apply aK 1 [0] m;simp only[↓aC];exact hK6 _ _ _ (by kernel_rfl) m ⟨_,_,_,_,rfl,rfl,by rw[if_neg (fun h=>by rw[←hu4] at h;exact h.2 (by simpa[Fm] using hc5))],hln,hls,by omega⟩
          · intro vs i wr m hI u
            obtain⟨n9,l2,A9,cap9,rfl,rfl,hl2,hln,hls,hn9⟩:=hI;simp only[zF,zG] at m;simp only[zu,zF,zG];apply aW 6 [0] m;simp only[↓aC];refine⟨by omega,?_⟩;have hnx:=Qg hv hb1 hb2 hl1 hl2 hins;exact hK2 (4-(k+1)) _ _ (by omega) (by kernel_rfl) ⟨k+1,_,_,_,_,_,rfl,m,by rw[hnx],by rw[hnx],hln,hls,by omega,by omega,rfl⟩
         ·
          obtain⟨l2,hl9⟩:∃l,l=l1:=⟨_,rfl⟩
          have hl2:l2=if k / 2=0∧Fm bs v≠Fm bs (v+2^b2) then l1++[Cb v b2] else l1:=by rw[if_neg (fun h=>hk15 h.1),hl9]
          rw[←hl9] at m hln hls;refine gc (mq m aD (by kernel_rfl) (aI aG ?_));simp only[zz];refine aI (mB rfl rfl (by omega) (show IntKind.i64.wrap ((k / 2:Nat):Int)=_ from bG (by omega) (by omega))) ?_;simp only[zz];refine aI (Yw rfl rfl (by omega)) (aI aG (mQ rfl (mQ rfl ?_)));simp only[zz];refine mQ rfl (eT 14 [] ?_);simp only[↓aC];refine bE ?_;intro u m;apply aW 8 [0] m;simp only[↓aC];refine⟨by omega,?_⟩;have hnx:=Qg hv hb1 hb2 hl1 hl2 hins;exact hK2 (4-(k+1)) _ _ (by omega) (by kernel_rfl) ⟨k+1,_,_,_,_,_,rfl,m,by rw[hnx],by rw[hnx],hln,hls,by omega,by omega,rfl⟩
     ·
      obtain rfl:k=4:=by omega
      apply aK 8 [0,0] m;simp only[↓aC,Oi];refine iO m 1 [] [103,104,105,106,107,108,109,110,111,112,113] (fun vs i=>∃(ns1:List Int),vs=[]∧i=bI g3 (lN bs ns1) 264∧(ns1=Tr bs ns a pos)∧(jS bs ns1)) ?_ ?_
      · intro K7 hK7
        refine bA rfl ?_ ?_<;>intro hc6
        ·
         obtain⟨x,y,rfl⟩:=ajN hln hc6;obtain⟨vi,hvi0,hvi⟩:=asr hc.b ha (show (fL bs a pos 4).1.length=2 by rw[←hL1];rfl);rw[hi0,hvi0];obtain⟨g9,rfl⟩:=(m.o 0 rfl).some (by omega);refine mh m [true,false,true] [(0,true),(1,true),(2,true),(4,true),(5,true),(7,true),(8,true),(9,true),(3,true),(6,true),(10,false)] aD (by kernel_rfl) (bT (fun _ _ _ _ _ h=>h)) (ol:=?_) ?hol ?_
         case hol=>simp only[zw,zQ,zR];try rfl
         intro u m;refine aS aG (aS aG ?_);simp only[zz];refine aS (aF lM bD rfl rfl (by decide) (by omega) rfl) (aS aG ?_);simp only[zz];refine aS (aF lM bD rfl rfl (by decide) (by omega) rfl) (Ps 3 [] ?_);simp only[↓aC];refine dF rfl (fun u m=>(lies1 ((m.o 0 rfl).rows 0 _ rfl) cC)) ?_;simp only[zz];refine dF rfl (fun u m=>(lies1 ((m.o 0 rfl).rows 1 _ rfl) cC)) ?_;simp only[zz];refine cF ?_;replace m:=m.pull 1 rfl;simp only[dM,dN,zF,zG] at m;replace m:=m.pack1;refine kJ rfl rfl (Xx (n:=a) m hc (hls x (by simp)) (hls y (by simp)) hvi (by omega)) ?_;rintro v u m;simp only[zz];replace m:=Mem.unpack [_] m;simp only[List.cons_append,List.nil_append] at m;replace m:=m.s01;refine aN ⟨m.sel [true,false,true],?_⟩;refine bV (gk ?_);rw[←hvi0,←hi0];exact hK7 _ _ _ (by kernel_rfl) m ⟨_,rfl,rfl,by rw[agR hL1.symm,hvi0];rfl,ab4 hc (by first | exact hls x (by simp) | exact uF hv8 (by omega)) (by first | exact hls y (by simp) | exact uF hv8 (by omega))⟩
        ·
         apply aK 1 [0] m;simp only[↓aC];exact hK7 _ _ _ (by kernel_rfl) m ⟨_,rfl,rfl,(ajO (by rw[←hL1,hln];omega)).symm,hc⟩
      · intro vs i wr m hI u
        obtain⟨ns1,rfl,rfl,hn1,hc1⟩:=hI;simp only[zF,zG] at m;simp only[zu,zF,zG];apply aW 6 [0,0] m;simp only[↓aC,Oi];refine bA rfl ?_ ?_<;>intro hc7
        ·
         have h4:(fL bs a pos 4).1.length=4:=by rw[←hL1,hln];omega
         apply aK 5 [0] m;simp only[↓aC];refine bX [13] [14,117,118,119,120,121,122,123,124,125,126,127,128,129,130,131,132,133,134,135,136,137,138,139,140,141,142,143,144,145,146,147,148] (fun n vs wl=>∃(k:Nat) (ns:List Int),vs=[.int .i64 (k:Int)]∧Mem w0 wl [bI g3 (lN bs ns) 264,K]∧(jS bs ns)∧(ns=(c_ k).foldl (f4S bs a pos) ns1)∧(k≤4)∧(n=4-k)) ?_ ?_
         ·
          exact⟨_,0,_,rfl,(m.sel [false,true,true]),hc1,rfl,by omega,rfl⟩
         · intro n vs wr hI u K8 hK8
           obtain⟨k,ns,rfl,m,hc,hf4,hk,hn⟩:=hI;simp only[zu,zF,zG];apply aK 6 [0,0] m;simp only[↓aC];refine bA rfl ?_ ?_<;>intro hc8
           ·
            have hk4:k<4:=by omega
            apply aK 4 [] m;simp only[↓aC];obtain⟨s1,s2,u1,u2,hs1,hs2,hu1,hu2,hvs,hu3,hu4,hv8,hw1,hw2⟩:=fv2 (pos:=pos) ha hb1 hb2 hsd hk4;refine gc (mq m aD (by kernel_rfl) (aI aG (aI aG ?_)));simp only[zz];refine aI (cL rfl rfl (by omega) (show (k:Int).tmod 2=((k%2:Nat):Int) from rfl)) (aI aG ?_);simp only[zz];refine aI (qR rfl rfl (by omega) hs1) ?_;simp only[zz];refine aI (eS rfl rfl (bG (by omega) (by omega))) (aI aG ?_);simp only[zz];refine aI (mB rfl rfl (by omega) (show IntKind.i64.wrap ((k / 2:Nat):Int)=_ from bG (by omega) (by omega))) (aI aG ?_);simp only[zz];refine aI (qR rfl rfl (by omega) hs2) ?_;simp only[zz];refine aI (eS rfl rfl (bG (by omega) (by omega))) (aI aP (bE ?_));intro u m;simp only[zz];obtain⟨v,hv⟩:∃v:Nat,v=fvE a pos k:=⟨_,rfl⟩
            rw[←hv] at hv8 hw1 hw2 hvs;rw[show ((sd:Int)+(s1:Int)+(s2:Int))=(v:Int) by omega];apply aW 6 [0] m;simp only[↓aC,qD,aa];refine aB (aJ Aw dT rfl rfl (by omega) (by omega) (fI (ag _))) ?_;simp only[zz];refine aR rfl (lies1 ((m.b 0 rfl).cell (hc.in hv8)) oH) ?_;simp only[zz];apply aL 1 [0] m;simp only[↓aC];refine iO m 0 [] [138,139,140,141,142,143,144,145,146,147,148] (fun vs i=>∃(ns1:List Int),vs=[]∧i=bI g3 (lN bs ns1) 264∧(ns1=f4S bs a pos ns k)∧(jS bs ns1)) ?_ ?_
            · intro K9 hK9
              refine iK rfl ?_ ?_<;>intro hc9
              ·
               apply aK 4 [0] m;simp only[↓aC];refine wA m rfl rfl (Ed hv8 (show b1<3 by omega)) 2 [0] ?_;simp only[↓aC];intro u m;refine wA m rfl rfl (Ed hv8 (show b2<3 by omega)) 3 [0] ?_;simp only[↓aC];intro u m;refine kJ rfl rfl (Xx (n:=a) m hc (uF hv8 (by omega)) (uF hv8 (by omega)) hv8 (by omega)) ?_;rintro v u m;apply aL 1 [0] m;simp only[↓aC];exact hK9 _ _ _ (by kernel_rfl) m ⟨_,rfl,rfl,(atF hv hb1 hb2 hc9).symm,ab4 hc (by first | exact hls x (by simp) | exact uF hv8 (by omega)) (by first | exact hls y (by simp) | exact uF hv8 (by omega))⟩
              ·
               apply aK 1 [0] m;simp only[↓aC];exact hK9 _ _ _ (by kernel_rfl) m ⟨_,rfl,rfl,(atG hv hc9).symm,hc⟩
            · intro vs i wr m hI u
              obtain⟨ns1,rfl,rfl,hn1,hc1⟩:=hI;simp only[zF,zG] at m;simp only[zu,zF,zG];apply aW 6 [0] m;simp only[↓aC];refine⟨by omega,?_⟩;exact hK8 (4-(k+1)) _ _ (by omega) (by kernel_rfl) ⟨k+1,_,rfl,m,hc1,by rw[am4,←hf4];exact hn1,by omega,rfl⟩
           ·
            obtain rfl:k=4:=by omega
            apply aK 1 [0] m;simp only[↓aC];exact Gf rfl ⟨_,rfl,by rw[ab5,if_pos h4,←hn1,←hf4];exact⟨m.sel [true,true],hc⟩⟩
        ·
         have h4:¬(fL bs a pos 4).1.length=4:=by rw[←hL1,hln];omega
         apply aK 1 [0] m;simp only[↓aC];exact Gf rfl ⟨_,rfl,by rw[ab5,if_neg h4,←hn1];exact⟨m.sel [false,true,true],hc1⟩⟩
theorem aqi{e:Nat}(he:e<24)(hx:0≤c.x∧c.x≤3)(hy:0≤c.y∧c.y≤3)(hz:0≤c.z∧c.z≤3):Sm (Xu c 524288 e):=by
 have:=ajE he;simp only[Sm,Xu];rw[show (524288:Int) / 2=262144 from rfl];omega
theorem My{x:Int}(h0:0≤x)(h:x≤N*3000000)(hN:0<N):IntKind.i64.wrap (x.tdiv (N:Int))=x.tdiv (N:Int)∧0≤x.tdiv (N:Int)∧x.tdiv (N:Int)≤3000000:=by
 obtain⟨q,h1,h2,h3⟩:=ap9 h0 h hN;have h4:x / (N:Int)≤3000000:=Int.ediv_le_of_le_mul (by omega) (by rw[Int.mul_comm];exact h);have h5:0≤x / (N:Int):=Int.ediv_nonneg h0 (by omega);rw[Int.tdiv_eq_ediv_of_nonneg h0];exact⟨bG (by omega) (by omega),h5,h4⟩
def ad1(l:List P3)(k:Nat):T3:=⟨l.getD k ⟨0,0,0⟩,l.getD ((k+1)%l.length) ⟨0,0,0⟩,Ec l⟩
theorem ass{l:List P3}{a b:P3}(h0:l[0]? = some a)(h1:l[1]? = some b)(h2:l[2]? = some c)(h:l.length=3):Ka l=[⟨a,b,c⟩]:=by
 match l,h with
 | [x,y,z],_=>cases h0;cases h1;cases h2;rfl
theorem ajQ{l:List P3}(h:l.length≠3):Ka l=(c_ l.length).map (ad1 l):=by
 unfold Ka;split
 · exact absurd rfl h
 · rfl
theorem ajR{f:P3→Int}{l:List P3}{p:P3}(h:l[k]? = some p):((l.take (k+1)).map f).sum=((l.take k).map f).sum+f p:=by
 rw[bY h,ct,List.sum_append];simp
theorem ajS(hs:∀p∈ps,Sm p)(hm:Sm (Ec ps)):∀t∈Ka ps,SmT t:=fun t ht=>by
 have hg:∀i,i<ps.length→Sm (ps.getD i ⟨0,0,0⟩):=fun i hi=>by
  rw[ej,ak hi];exact hs _ (List.getElem_mem hi)
 by_cases h:ps.length=3
 · match ps,h with
   | [x,y,z],_ =>
    cases az.1 (show t∈[(⟨x,y,z⟩:T3)] from ht);exact⟨hs x (by simp),hs y (by simp),hs z (by simp)⟩
 · rw[ajQ h] at ht
   obtain⟨k,hk,rfl⟩:=cw.1 ht;have hk:=fe.1 hk;exact⟨hg k hk,hg _ (fw _ (by omega)),hm⟩
theorem afv  : (Ka ps).length≤ps.length:=by
 by_cases h:ps.length=3
 · match ps,h with
   | [x,y,z],_=>exact (by decide:1≤3)
 · rw[ajQ h,bf,oc];exact ao _
theorem aaA{f:P3→Int}:∀{l:List P3},(∀p∈l,0≤f p∧f p≤3000000)→0≤(l.map f).sum∧(l.map f).sum≤l.length*3000000
 | [],_=>by simp
 | p::l,h=>by
  have h1:=h p (by simp);have h2:=aaA (l:=l) fun x hx=>h x (by simp[hx]);simp only[bp,List.sum_cons,ay];omega
theorem aqj(h0:0<ps.length)(_:ps.length≤24)(hs:∀p∈ps,Sm p):Sm (Ec ps):=by
 obtain⟨a1,a2⟩:=aaA (f:=P3.x) fun p hp=>(hs p hp).1;obtain⟨b1,b2⟩:=aaA (f:=P3.y) fun p hp=>(hs p hp).2.1;obtain⟨c1,c2⟩:=aaA (f:=P3.z) fun p hp=>(hs p hp).2.2;exact⟨(My a1 a2 h0).2,(My b1 b2 h0).2,(My c1 c2 h0).2⟩
theorem aqk{x y z:Int}(hl:ps.length=N)(hx:x=((ps.take N).map P3.x).sum)(hy:y=((ps.take N).map P3.y).sum)(hz:z=((ps.take N).map P3.z).sum):([.int .i64 (x.tdiv (N:Int)),.int .i64 (y.tdiv (N:Int)),.int .i64 (z.tdiv (N:Int))]:List Value)=[.int .i64 (Ec ps).x,.int .i64 (Ec ps).y,.int .i64 (Ec ps).z]:=by
 rw[bi (by omega)] at hx hy hz;subst hx hy hz hl;rfl
theorem ajT{i:Nat}{p q:P3}(hl:ps.length=N)(_:0<N)(hp:ps[i]? = some p)(hq:ps[(i+1)%N]? = some q):((c_ (i+1)).map (ad1 ps)).flatMap aM=((c_ i).map (ad1 ps)).flatMap aM++aM ⟨p,q,Ec ps⟩:=by
 rw[gw,ct,aw,List.map_singleton,List.flatMap_singleton,ad1,ej,ej,hl,hp,hq];rfl
theorem am5{e:Nat}(hx:0≤c.x∧c.x≤3)(hy:0≤c.y∧c.y≤3)(hz:0≤c.z∧c.z≤3)(he:e<24):fF prog 216 [.agg #[.int .i64 c.x,.int .i64 c.y,.int .i64 c.z],.int .i64 524288,.int .i64 (e:Int)] (pt (Xu c 524288 e)):=by
 intro w;refine⟨bP func216 (by kernel_rfl),?_⟩;have m:=Mem.refl w;have hpl:=ajE he
 go_enter func216,ntmps216
 apply mR 8 [0] m;simp only[↓aC,↓Kb,gM];intro g1 g2 u m;refine wA m rfl rfl (Mr he) 12 [0,2,0,0] ?_;simp only[↓aC,↓Kb,Oj,Dv,jE,eR,aa,ad,ah];intro g3;refine⟨by omega,?_⟩;intro u m;refine aB (mB rfl rfl (by omega) (show IntKind.i64.wrap ((524288:Int).tdiv 2)=262144 from rfl)) ?_;apply aL 9 [2,0,0] m;simp only[↓aC,↓Kb,jE,eR,ad,ah,aa];refine⟨by omega,?_⟩;refine aB (mB rfl rfl (by omega) (show IntKind.i64.wrap ((524288:Int).tdiv 2)=262144 from rfl)) ?_;apply aL 9 [2,0,0] m;simp only[↓aC,↓Kb,jE,eR,ad,ah,aa];refine⟨by omega,?_⟩;refine aB (mB rfl rfl (by omega) (show IntKind.i64.wrap ((524288:Int).tdiv 2)=262144 from rfl)) ?_;apply kP 6 [1] m;simp only[↓aC,↓Kb,yD,aU,aa];refine⟨by omega,?_⟩;intro u m;exact aT rfl ⟨_,rfl,((m.b 1 rfl).full aH aA)⟩ ⟨_,rfl,m.ext,rfl⟩
theorem ab6{cap:Nat}{A:Option Addr}(w:aj)(hT:vY dU 3 w A N ps)(h0:0<N)(hN:N≤24)(hs:∀p∈ps,Sm p):dK prog 217 [.slice A N cap] w (fun v w'=>Sm (Ec ps)∧SL 39 9 ((Ka ps).flatMap aM) (Ka ps).length w v w'):=by
 refine⟨bP func217 (by kernel_rfl),?_⟩;have m:=Mem.refl w;have htl:=hT.len;have hmid:Sm (Ec ps):=aqj (by omega) (by omega) hs
 go_enter func217,ntmps217
 apply fG 11 [0,0] m;simp only[↓aC,lC];refine bA rfl ?_ ?_<;>intro hc1
 ·
  obtain⟨p0,hp0,a,hA,hrow0⟩:=hT.get (i:=0) (by omega);subst hA;obtain⟨p1,hp1,a1,e1,hrow1⟩:=hT.get (i:=1) (by omega);cases e1;obtain⟨p2,hp2,a2,e2,hrow2⟩:=hT.get (i:=2) (by omega);cases e2;have hf3:=ass hp0 hp1 hp2 (by omega);apply aK 1 [0] m;simp only[↓aC];refine mh m [] [(0,true),(1,true),(3,true),(4,true),(6,true),(7,true),(2,true),(5,true),(8,true),(9,true),(10,false),(11,true)] aD (by kernel_rfl) (bT (fun _ _ _ _ _ h=>h)) (ol:=?_) ?hol ?_
  case hol=>simp only[zw,zQ,zR];try rfl
  intro u m;refine aS aG ?_;simp only[zz];refine aS (aF eK aA rfl rfl (by decide) (by omega) rfl) (aS aG ?_);simp only[zz];refine aS (aF eK aA rfl rfl (by decide) (by omega) rfl) (aS aG ?_);simp only[zz];refine aS (aF eK aA rfl rfl (by decide) (by omega) rfl) ?_;simp only[zz];refine dF rfl (fun u m=>(show eQ _ _ _ _ (pt p0) from (hrow0.ext m.ext).lies aH aA)) ?_;simp only[zz];refine dF rfl (fun u m=>(show eQ _ _ _ _ (pt p1) from (hrow1.ext m.ext).lies aH aA)) ?_;simp only[zz];refine dF rfl (fun u m=>(show eQ _ _ _ _ (pt p2) from (hrow2.ext m.ext).lies aH aA)) ?_;simp only[zz];refine aS (lI rfl rfl rfl) (cF ?_);simp only[zz];refine eF rfl ?_;intro u g1 e_ h_ k_;replace m:=m.newB e_ h_ k_;simp only[zz];replace m:=m.own 0 rfl (n:=1) (c:=9) rfl (kG rfl);simp only[zG] at m;refine aN ⟨m.sel [false],?_⟩;refine aS aP (bV ?_);apply aW 1 [] m;simp only[↓aC];exact aT rfl rfl ⟨_,rfl,m.ext,hmid,_,_,_,by rw[hf3];rfl,rfl,by rw[hf3];exact (m.o 0 rfl)⟩
 ·
  have hfn:=ajQ (l:=ps) (by omega);apply zvc 13 [0,0] m;simp only[↓aC,↓Kb,yD,gM,aU,aa];intro g1 u m;refine bX [4] [22,23,24,25,26,27,28,29,30,31,32,33,34,35,36,37,38,39,40,41,42,43,44,45,46,47,48,49,50,51,52,53,54] (fun n vs wl=>∃(i:Nat) (x y z:Int),vs=[.int .i64 (i:Int)]∧Mem w wl [bI g1 [.int .i64 x,.int .i64 y,.int .i64 z] 30]∧(x=((ps.take i).map P3.x).sum)∧(y=((ps.take i).map P3.y).sum)∧(z=((ps.take i).map P3.z).sum)∧(0≤x)∧(0≤y)∧(0≤z)∧(x≤i*3000000)∧(y≤i*3000000)∧(z≤i*3000000)∧(i≤N)∧(n=N-i)) ?_ ?_
  ·
   exact⟨_,0,0,0,0,rfl,m,rfl,rfl,rfl,by omega,by omega,by omega,by omega,by omega,by omega,by omega,rfl⟩
  · intro n vs wr hI u K1 hK1
    obtain⟨i,x,y,z,rfl,m,hxs,hys,hzs,hx0,hy0,hz0,hx3,hy3,hz3,hi,hn⟩:=hI;simp only[zu,zF,zG];apply aK 8 [0,0] m;simp only[↓aC,lC];refine bA rfl ?_ ?_<;>intro hc2
    ·
     obtain⟨p,hp,a,hA,hrow⟩:=hT.get (i:=i) (by omega);subst hA;obtain⟨⟨hx1,hx2⟩,⟨hy1,hy2⟩,hz1,hz2⟩:=hs p (bj hp);apply aK 4 [0] m;simp only[↓aC];refine dA m 9 aD (by kernel_rfl) ?_;simp only[zy];refine eT 4 [0] ?_;simp only[↓aC,↓Kb,kH,eR,aa];refine aI (aF eK aA rfl rfl (by omega) (by omega) (cH (ag _))) (eT 1 [] ?_);simp only[↓aC,↓Kb,kH,aa];refine ql rfl (fun u m=>(lies1 ((hrow.ext m.ext) 0 _ rfl) cC)) ?_;simp only[zz];refine aI (eS rfl rfl (bG (by omega) (by omega))) (eT 1 [] ?_);simp only[↓aC,↓Kb,kH,aa];refine bE ?_;intro u m;refine cX m 0 rfl rfl rfl bD (kG rfl) ⟨rfl,rfl⟩ ?_;intro u m;simp only[zz,zy,zx,over,aa] at m;refine aN ?_;apply aW 1 [0] m;simp only[↓aC];refine dA m 9 aD (by kernel_rfl) ?_;simp only[zy];refine eT 4 [0] ?_;simp only[↓aC,↓Kb,kI,eR,aa];refine aI (aF eK aA rfl rfl (by omega) (by omega) (cH (ag _))) (eT 1 [] ?_);simp only[↓aC,↓Kb,kI,aa];refine ql rfl (fun u m=>(lies1 ((hrow.ext m.ext) 1 _ rfl) cC)) ?_;simp only[zz];refine aI (eS rfl rfl (bG (by omega) (by omega))) (eT 1 [] ?_);simp only[↓aC,↓Kb,kI,aa];refine bE ?_;intro u m;refine cX (off:=1) m 0 rfl rfl rfl bD (kG rfl) ⟨rfl,rfl⟩ ?_;intro u m;simp only[zz,zy,zx,over,aa] at m;refine aN (gc ?_);refine dA m 9 aD (by kernel_rfl) ?_;simp only[zy];refine eT 4 [0] ?_;simp only[↓aC,↓Kb,lE,eR,aa];refine aI (aF eK aA rfl rfl (by omega) (by omega) (cH (ag _))) (eT 1 [] ?_);simp only[↓aC,↓Kb,lE,aa];refine ql rfl (fun u m=>(lies1 ((hrow.ext m.ext) 2 _ rfl) cC)) ?_;simp only[zz];refine aI (eS rfl rfl (bG (by omega) (by omega))) (eT 1 [] ?_);simp only[↓aC,↓Kb,lE,aa];refine bE ?_;intro u m;refine cX (off:=2) m 0 rfl rfl rfl bD (kG rfl) ⟨rfl,rfl⟩ ?_;intro u m;simp only[zz,zy,zx,over,aa] at m;refine aN ?_;apply aW 6 [0] m;simp only[↓aC];refine⟨by omega,?_⟩;exact hK1 (N-(i+1)) _ _ (by omega) (by kernel_rfl) ⟨i+1,_,_,_,rfl,m,by rw[ajR hp,hxs],by rw[ajR hp,hys],by rw[ajR hp,hzs],by omega,by omega,by omega,by omega,by omega,by omega,by omega,rfl⟩
    ·
     obtain rfl:N=i:=by omega
     obtain⟨hqx,_,_⟩:=My hx0 (by omega) h0;obtain⟨hqy,_,_⟩:=My hy0 (by omega) h0;obtain⟨hqz,_,_⟩:=My hz0 (by omega) h0;apply aK 2 [0] m;simp only[↓aC];refine dA m 16 aD (by kernel_rfl) ?_;simp only[zy];refine eT 4 [0] ?_;simp only[↓aC,↓Kb,kH,eR,lC,aa];refine aI (mB rfl rfl (by omega) hqx) (eT 4 [0] ?_);simp only[↓aC,↓Kb,kI,eR,lC,aa];refine aI (mB rfl rfl (by omega) hqy) (eT 4 [0] ?_);simp only[↓aC,↓Kb,lE,eR,lC,aa];refine aI (mB rfl rfl (by omega) hqz) (aI (xY rfl rfl rfl) (bE ?_));intro u m;simp only[zz];refine cU m 0 rfl rfl rfl aA (kG rfl) rfl ?_;intro u m;simp only[zy,zx,over,zF,zG,aa] at m;refine aN ?_;apply aW 2 [0] m;simp only[↓aC];refine aB aP ?_;replace m:=m.nilO 39 9;apply aL 7 [0] m;simp only[↓aC];refine bX [5,6] [71,72,73,74,75,76,77,78,79,80,81,82,83,84,85,86,87,88,89,90,91,92,93] (fun n vs wl=>∃(i:Nat) (A5:Option Addr) (cap5:Nat),vs=[.slice A5 i cap5,.int .i64 (i:Int)]∧Mem w wl [oI 39 9 A5 i cap5 (((c_ i).map (ad1 ps)).flatMap aM),bI g1 [.int .i64 (Ec ps).x,.int .i64 (Ec ps).y,.int .i64 (Ec ps).z] 30]∧(i≤N)∧(n=N-i)) ?_ ?_
     · rw[aqk htl hxs hys hzs] at m
       exact⟨_,0,none,0,rfl,m,by omega,rfl⟩
     · intro n vs wr hI u K2 hK2
       obtain⟨i,A5,cap5,rfl,m,hi,hn⟩:=hI;simp only[zu,zF,zG];apply aK 8 [0,0] m;simp only[↓aC,lC];refine bA rfl ?_ ?_<;>intro hc3
       ·
        obtain⟨p,hp,a,hA,hrowp⟩:=hT.get (i:=i) (by omega);subst hA;have hml:=fw (i+1) h0;obtain⟨q,hq,a2,e2,hrowq⟩:=hT.get (i:=(i+1)%N) hml;cases e2;apply aK 3 [0] m;simp only[↓aC];refine mh m [false,true] [(0,true),(1,true),(2,true),(3,true),(5,true),(6,true),(7,true),(8,true),(9,true),(10,true),(11,true),(4,true),(12,true),(13,true),(14,true),(15,false),(16,false),(17,true)] aD (by kernel_rfl) (bT (fun _ _ _ _ _ h=>h)) (ol:=?_) ?hol ?_
        case hol=>simp only[zw,zQ,zR];try rfl
        intro u m;refine Ps 3 [] ?_;simp only[↓aC];refine aS (aF eK aA rfl rfl (by omega) (by omega) (cH (ag _))) (Ps 5 [] ?_);simp only[↓aC,lC];refine⟨by omega,?_⟩;refine aS (cL rfl rfl (by omega) aqa) ?_;simp only[zz];refine aS (aF eK aA rfl rfl (by omega) (by omega) (cH (ag _))) ?_;simp only[zz];refine dF rfl (fun u m=>(show eQ _ _ _ _ (pt p) from (hrowp.ext m.ext).lies aH aA)) ?_;simp only[zz];refine dF rfl (fun u m=>(show eQ _ _ _ _ (pt q) from (hrowq.ext m.ext).lies aH aA)) ?_;simp only[zz];refine Ps 2 [0] ?_;simp only[↓aC,↓Kb,aU,tJ,aa];refine cF (eF rfl ?_);intro u g2 e_ h_ k_;replace m:=m.newB e_ h_ k_;refine aN ⟨m.sel [false,false,true],?_⟩;refine cF ?_;simp only[zz];refine bW m 1 rfl rfl bL gR rfl (by decide) rfl rfl rfl (m.b 0 rfl).rowsO (jX rfl) (by omega) (by omega) ?_;intro A5 cap5 u m;simp only[zF,zG] at m;rw[show ((c_ i).map (ad1 ps)).flatMap aM++_=((c_ (i+1)).map (ad1 ps)).flatMap aM by rw[ajT htl h0 hp hq];rfl] at m;refine aN ⟨m.sel [false,false,true],?_⟩;refine aS aP (bV ?_);apply aW 6 [0] m;simp only[↓aC];refine⟨by omega,?_⟩;exact hK2 (N-(i+1)) _ _ (by omega) (by kernel_rfl) ⟨i+1,_,_,rfl,(m.sel [false,true,true]),by omega,rfl⟩
       ·
        obtain rfl:N=i:=by omega
        apply aK 7 [] m;simp only[↓aC];exact aT rfl rfl ⟨_,rfl,m.ext,hmid,_,_,_,by rw[hfn,bf,oc,htl],rfl,by rw[hfn,htl];exact (m.o 0 rfl)⟩
end Go.Proofs.YtfekpcimgncioaaGreatDoor
