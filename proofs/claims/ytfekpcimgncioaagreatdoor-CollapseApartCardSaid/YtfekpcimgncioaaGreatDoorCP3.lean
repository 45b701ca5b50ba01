/-
 Texts of one claim, laid together: Wb, Wc, Wd, Dig, Dig2, Dig3, Cst, We, Wf, Wg, Wh, Wi, Ca, Near, Cb, Cc, Wk, Wl, Wm, Wn, Cd, Ce, Cf, Cg, Qd, Vt, Vu, Fa3, Rchk, K30, Bag, Pack, Pack2.
-/
import Derived.Test.YtfekpcimgncioaaGreatDoorCP2
open Nat renaming reduceAdd→aa,reduceMul→ag,le_refl→aq,zero_add→au,le_trans→ba,zero_le→cv,lt_or_ge→eu,min_eq_left→gr,le_of_not_lt→io,pow_succ→ja,mod_lt→ji,add_zero→jo,mod_eq_of_lt→kn,sub_self→lh,mul_zero→lj,le_sub_one_of_lt→my,strongRecOn→p_
open Int renaming reduceToNat→ad,toNat_natCast→ah,reduceAdd→ak,neg_eq_zero→la,mul_eq_zero→nt,le_of_lt→og,zero_mul→pd,mul_comm→pe,neg_mul_neg→qd,zero_sub→qp
open Go renaming Value→ai,World→aj,wpList→ar,TypeId→az,Program→br,Deferred→dz
open List renaming getElem?_eq_getElem→am,mem_cons→an,getElem?_eq_some_iff→ap,length_cons→av,length_append→aw,flatMap_append→ay,take_of_length_le→a_,mem_singleton→bf,mem_cons_of_mem→bg,mem_of_getElem?→bh,mem_append→bi,map_cons→bj,mem_cons_self→bm,length_take→bp,pairwise_cons→bt,length_nil→bv,length_map→bx,getElem?_eq_none→bz,nil_append→b_,not_mem_nil→cg,replicate→cl,cons_append→cn,append_assoc→cq,getElem?_append_left→cu,range→df,mem_map→dh,flatMap_cons→di,getElem?_drop→dj,getElem?_append_right→dt,mem_filter→dw,getElem?_take→d_,mem_flatMap→el,getD_eq_getElem?_getD→eo,append_nil→fa,drop_eq_getElem_cons→fc,any_eq_true→fe,length_drop→fl,take_length→fp,set_cons_succ→fx,drop_of_length_le→gi,pairwise_append→gj,getElem_mem→gl,mem_range→gn,mem_append_right→gp,nodup_cons→gt,foldl_append→gz,filter_cons→ib,getElem?_cons_succ→ic,mem_append_left→ig,length_singleton→je,any_eq_false→ju,toArray→jv,pairwise_singleton→kh,getElem?_set_ne→lf,pairwise_map→lk,drop_length→lv,mem_singleton_self→lx,take_append_drop→mn,filter_nil→nu,perm_cons→om,flatMap_nil→ou,perm_singleton→pb
open Bool renaming and_eq_true→be,or_eq_true→ep,not_eq_true'→fj,false_ne_true→fy,false_eq_true→me,or_comm→px
open Option renaming getD_some→dq,bind_some→ip,bind_eq_some_iff→lw
open UInt8 renaming ofNat→ei,toNat→jc,toNat_ofNat'→jj,toNat_inj→nl
open Option.some renaming inj→fq
open Prod.mk renaming injEq→ft
open Array renaming getElem?_toList→fv
open Go.Value renaming int→mi
open Prod renaming ext→oe,snd→pv,fst→qj
set_option maxHeartbeats 8000000
set_option linter.unusedSimpArgs false
set_option linter.unusedVariables false
set_option linter.unusedSectionVars false
namespace Go.Lith
open Go.RowKit
variable{k n cap i m j:Nat}{x y z q s u a:P3}{w:aj}{xs os ys:List Nat}{L:List Int}{op:Op}
section
variable {K V:Type} [DecidableEq K]
def Fb(D:List (K × V))(xs:List (K × V)):List (K × V):=xs.foldl (fun D x=>fI D x.1 x.2) D
theorem abD:∀(xs D:List (K × V)) (k:K),(xs.map (·.1)).Nodup→cG (Fb D xs) k=match cG xs k with | some v=>some v | none=>cG D k
 | [],D,k,_=>rfl
 | (a,v)::xs,D,k,h=>by
  rw[bj,gt] at h;have ih:=abD xs (fI D a v) k h.2;show cG (Fb (fI D a v) xs) k=_
  rw[ih,mK,cG];by_cases e:a=k
  · rw[if_pos e,if_pos e]
    have:cG xs k=none:=pD.2 (e▸h.1);rw[this]
  · rw[if_neg e,if_neg e]
theorem ai8(D xs ys:List (K × V)):Fb D (xs++ys)=Fb (Fb D xs) ys:=gz ..
def wN(D:List (K × Nat))(ks:List K):List (K × Nat):=ks.foldl (fun D k=>fI D k ((cG D k).getD 0+1)) D
def vK(ks:List K)(a:K):Nat:=(ks.filter fun x=>decide (x=a)).length
theorem Ek{x a:K}{ks:List K}:vK (x::ks) a=(if x=a then 1 else 0)+vK ks a:=by
 unfold vK;by_cases h:x=a
 · rw[List.filter_cons_of_pos (by simpa using h),av,if_pos h];omega
 · rw[List.filter_cons_of_neg (by simpa using h),if_neg h];omega
theorem ai9{a:K}{ks ls:List K}:vK (ks++ls) a=vK ks a+vK ls a:=by simp[vK]
theorem abE:∀(ks:List K) (D:List (K × Nat)) (a:K),(cG (wN D ks) a).getD 0=(cG D a).getD 0+vK ks a
 | [],D,a=>rfl
 | k::ks,D,a=>by
  have h:=abE ks (fI D k ((cG D k).getD 0+1)) a;show (cG (wN (fI D k ((cG D k).getD 0+1)) ks) a).getD 0=_
  rw[h,mK,Ek];by_cases e:k=a
  · subst e
    rw[if_pos rfl,if_pos rfl,dq];omega
  · rw[if_neg e,if_neg e];omega
theorem aja(D:List (K × Nat))(ks ls:List K):wN D (ks++ls)=wN (wN D ks) ls:=gz ..
theorem Gs:∀{l m:List K},l.Nodup→(∀a∈l,a∈m)→l.length≤m.length
 | [],_,_,_=>cv _
 | x::l,m,h,k=>by
  rw[gt] at h;have hx:=k x (bm ..);have h1:=Gs (m:=m.erase x) h.2 fun a ha=>(List.mem_erase_of_ne (fun (e:a=x)=>h.1 (e▸ha))).2 (k a (bg _ ha));rw[List.length_erase_of_mem hx] at h1;have:=List.length_pos_of_mem hx;rw[av];omega
end
/-! ### What lies behind an edge -/
def kY(ts:List T3):List (E3 × P3):=ts.flatMap fun t=>[((t.a,t.b),t.c),((t.b,t.c),t.a),((t.c,t.a),t.b)]
theorem nD:∀ts:List T3,(kY ts).map (·.1)=aX ts
 | []=>rfl
 | t::ts=>by
  have:=nD ts;unfold kY aX at this ⊢;rw[di,List.map_append,this];rfl
theorem adH{ts:List T3}{t:T3}(h:ts[k]? = some t):kY (ts.take (k+1))=kY (ts.take k)++[((t.a,t.b),t.c),((t.b,t.c),t.a),((t.c,t.a),t.b)]:=by
 unfold kY;rw[cJ h,ay];simp
theorem yV(p q:P3):∀ts:List T3,bS ts p q=cG (kY ts) (p,q)
 | []=>rfl
 | t::ts=>by
  have ih:=yV p q ts;have e:kY (t::ts)=((t.a,t.b),t.c)::((t.b,t.c),t.a)::((t.c,t.a),t.b)::kY ts:=rfl;rw[e,bS,cG,cG,cG,←ih,T3.fnd];by_cases h1:t.a=p∧t.b=q
  · rw[if_pos h1,if_pos (oe h1.1 h1.2)]
  · rw[if_neg h1,if_neg (fun e=>h1 ⟨congrArg qj e,congrArg pv e⟩)]
    by_cases h2:t.b=p∧t.c=q
    · rw[if_pos h2,if_pos (oe h2.1 h2.2)]
    · rw[if_neg h2,if_neg (fun e=>h2 ⟨congrArg qj e,congrArg pv e⟩)]
      by_cases h3:t.c=p∧t.a=q
      · rw[if_pos h3,if_pos (oe h3.1 h3.2)]
      · rw[if_neg h3,if_neg (fun e=>h3 ⟨congrArg qj e,congrArg pv e⟩)]
theorem Iu{ts:List T3}(h:(aX ts).Nodup)(p q:P3):cG (Fb [] (kY ts)) (p,q)=bS ts p q:=by
 rw[abD _ _ _ (by rw[nD];exact h),yV];cases cG (kY ts) (p,q) <;> rfl
theorem uX{ts:List T3}(h:((x,y),z)∈kY ts):((y,z),x)∈kY ts:=by
 obtain⟨t,ht,hx⟩:=el.1 h;refine el.2 ⟨t,ht,?_⟩;simp only[an,cg,or_false,ft] at hx ⊢;rcases hx with ⟨⟨rfl,rfl⟩,rfl⟩ | ⟨⟨rfl,rfl⟩,rfl⟩ | ⟨⟨rfl,rfl⟩,rfl⟩
 · exact .inr (.inl ⟨⟨O,O⟩,O⟩)
 · exact .inr (.inr ⟨⟨O,O⟩,O⟩)
 · exact .inl ⟨⟨O,O⟩,O⟩
theorem Ru{ts:List T3}(h:(aX ts).Nodup){e:E3}(h1:(e,x)∈kY ts)(h2:(e,y)∈kY ts):x=y:=by
 have k:((kY ts).map (·.1)).Nodup:=by rw[nD];exact h
 have a:=vS k h1;rw[vS k h2] at a;exact (fq a).symm
theorem rD{ts:List T3}{p:P3}(h:bS ts p q=some x):((p,q),x)∈kY ts:=Ck (by rw[←yV];exact h)
theorem vV{ts:List T3}{p:P3}(h:bS ts p q=some x):(p,q)∈aX ts:=by
 rw[←nD];exact dh.2 ⟨_,rD h,O⟩
theorem Cn{ts:List T3}{p:P3}(h:(p,q)∈aX ts):∃x,bS ts p q=some x:=by
 rw[yV];cases e:cG (kY ts) (p,q) with
 | some x=>exact⟨x,rfl⟩
 | none =>
  have:=pD.1 e;rw[nD] at this;exact absurd h this
theorem adI{ts:List T3}(h:(aX ts).Nodup){p:P3}(h1:bS ts p x=some z)(h2:bS ts p y=some z):x=y :=
 Ru h (uX (uX (rD h1))) (uX (uX (rD h2)))
def rF(ts:List T3)(p:P3):Nat→P3→Option P3
 | 0,x=>some x
 | n+1,x=>(bS ts p x).bind (rF ts p n)
theorem Co{ts:List T3}{p:P3}:∀(n:Nat) (x:P3),rF ts p (n+1) x=(rF ts p n x).bind (bS ts p)
 | 0,x=>by simp[rF]
 | n+1,x=>by
  rw[rF];cases h:bS ts p x with
  | none=>simp[rF,h]
  | some y =>
   rw[ip,Co n y,rF,h];rfl
theorem Rv{ms:List T3}{p s:P3}:∀(n:Nat) (x:P3),oJ ms p s n x=true↔∃j,1≤j∧j≤n∧rF ms p j x=some s
 | 0,x=>⟨fun h=>(by cases h),fun⟨j,h1,h2,_⟩=>by omega⟩
 | n+1,x=>by
  cases h:bS ms p x with
  | none =>
   rw[Wk h];refine⟨fun k=>(by cases k),fun⟨j,h1,_,h3⟩=>?_⟩;obtain⟨i,rfl⟩:∃i,j=i+1:=⟨j-1,by omega⟩
   rw[rF,h] at h3;cases h3
  | some y =>
   by_cases e:y=s
   · subst e
     rw[abk h];exact⟨fun _=>⟨1,aq _,by omega,by simp[rF,h]⟩,fun _=>rfl⟩
   · rw[Wl h e,Rv n y]
     constructor
     · rintro⟨j,h1,h2,h3⟩
       exact⟨j+1,by omega,by omega,by rw[rF,h];exact h3⟩
     · rintro⟨j,h1,h2,h3⟩
       obtain⟨i,rfl⟩:∃i,j=i+1:=⟨j-1,by omega⟩
       rw[rF,h,ip] at h3;cases i with
       | zero=>exact absurd (fq h3) e
       | succ i=>exact⟨i+1,by omega,by omega,h3⟩
def Cp(nx:P3→Option P3)(s:P3):Nat→P3→Nat→P3 × Nat
 | 0,a,z=>(a,z)
 | n+1,a,z=>if a=s then (a,z) else match nx a with | none=>(a,z) | some b=>Cp nx s n b (z+1)
theorem ajb{nx:P3→Option P3}{z:Nat}:Cp nx s n s z=(s,z):=by
 cases n with
 | zero=>rfl
 | succ n=>rw[Cp,if_pos rfl]
theorem aac{ts:List T3}{p s:P3}{M:Nat}:∀(n:Nat) (a:P3) (z:Nat),n=M+1-z→((Cp (bS ts p) s n a z).1=s∧(Cp (bS ts p) s n a z).2<M↔∃j,z≤j∧j<M∧rF ts p (j-z) a=some s)
 | 0,a,z,h=>by
  rw[Cp];refine⟨fun k=>?_,fun⟨j,h1,h2,_⟩=>?_⟩
  · have:=k.2;simp only at this;omega
  · omega
 | n+1,a,z,h=>by
  rw[Cp];by_cases e:a=s
  · rw[if_pos e]
    refine⟨fun k=>⟨z,aq _,k.2,by rw[lh,rF,e]⟩,fun⟨j,h1,h2,_⟩=>⟨e,by simp only;omega⟩⟩
  · rw[if_neg e]
    cases hb:bS ts p a with
    | none =>
     refine⟨fun k=>absurd k.1 e,fun⟨j,h1,h2,h3⟩=>?_⟩;cases hj:j-z with
     | zero=>rw[hj,rF] at h3;exact absurd (fq h3) e
     | succ i=>rw[hj,rF,hb] at h3;cases h3
    | some b =>
     rw[aac n b (z+1) (by omega)];constructor
     · rintro⟨j,h1,h2,h3⟩
       refine⟨j,by omega,h2,?_⟩;rw[show j-z=(j-(z+1))+1 by omega,rF,hb];exact h3
     · rintro⟨j,h1,h2,h3⟩
       rcases eu z j with hz | hz
       · refine⟨j,by omega,h2,?_⟩
         rw[show j-z=(j-(z+1))+1 by omega,rF,hb] at h3;exact h3
       · rw[show j-z=0 by omega,rF] at h3
         exact absurd (fq h3) e
/-! ### The triangles of a corner -/
theorem am2{t:T3}{p:P3}(h:t.fnd p q=some x):∃c,c<3∧t.cor c=p:=by
 unfold T3.fnd at h;split at h
 · rename_i h';exact⟨0,by decide,h'.1⟩
 · split at h
   · rename_i h';exact⟨1,by decide,h'.1⟩
   · split at h
     · rename_i h';exact⟨2,by decide,h'.1⟩
     · cases h
theorem adJ{ts us:List T3}{p:P3}:bS (ts++us) p q=match bS ts p q with | some x=>some x | none=>bS us p q:=by
 induction ts with
 | nil=>rfl
 | cons t ts ih =>
  rw[cn,bS,bS];cases t.fnd p q with
  | some x=>rfl
  | none=>exact ih
theorem agM{t u:T3}{p:P3}(h:u∈xD p t 3):u=t∧∃c,c<3∧t.cor c=p:=by
 obtain⟨c,hc,h⟩:=el.1 h;unfold Re at h;split at h
 · rename_i e
   exact⟨bf.1 h,c,gn.1 hc,e⟩
 · cases h
theorem adK{t:T3}{p:P3}{c:Nat}(hc:c<3)(h:t.cor c=p):t∈xD p t 3 :=
 el.2 ⟨c,gn.2 hc,by rw[Re,if_pos h];exact bf.2 O⟩
theorem Rw{t:T3}{p q:P3}:∀us:List T3,(∀u∈us,u=t)→bS us p q=if us=[] then none else t.fnd p q
 | [],_=>rfl
 | u::us,h=>by
  have e:=h u (bm ..);have ih:=Rw (p:=p) (q:=q) us fun v hv=>h v (bg _ hv);rw[bS,e,if_neg (by simp)];cases hf:t.fnd p q with
  | some x=>rfl
  | none =>
   simp only;rw[ih];split
   · rfl
   · exact hf
theorem Nv(p q:P3):∀ts:List T3,bS (oH ts p) p q=bS ts p q
 | []=>rfl
 | t::ts=>by
  have e:oH (t::ts) p=xD p t 3++oH ts p:=by simp[oH]
  rw[e,adJ,Nv p q ts,bS,Rw (t:=t) _ (fun u hu=>(agM hu).1)];by_cases h:xD p t 3=[]
  · rw[if_pos h]
    cases hf:t.fnd p q with
    | none=>rfl
    | some x =>
     obtain⟨c,hc,k⟩:=am2 hf;have:=adK hc k;rw[h] at this;cases this
  · rw[if_neg h] <;> rfl
theorem Iv(ts:List T3)(p:P3):∀(n:Nat) (x:P3),rF (oH ts p) p n x=rF ts p n x
 | 0,_=>rfl
 | n+1,x=>by
  rw[rF,rF,Nv];cases bS ts p x with
  | none=>rfl
  | some y=>exact Iv ts p n y
theorem Rx(p:P3):∀ts:List T3,(oH ts p).length=vK (dS ts) p
 | []=>rfl
 | t::ts=>by
  have ih:=Rx p ts;have e:oH (t::ts) p=xD p t 3++oH ts p:=by simp[oH]
  have e2:dS (t::ts)=[t.a,t.b,t.c]++dS ts:=rfl;rw[e,e2,aw,ai9,ih]
  congr 1
  have r3:df 3=[0,1,2]:=rfl;unfold xD;rw[r3];simp only[di,ou,fa,aw,Re];rw[Ek,Ek,Ek];have k:∀(c:Nat) (x:P3),t.cor c=x→(if t.cor c=p then [t] else []).length=if x=p then 1 else 0:=fun c x hx=>by
   subst hx;split <;> rfl
  rw[k 0 t.a rfl,k 1 t.b rfl,k 2 t.c rfl];rfl
theorem Xb{p:P3}{ts:List T3}:s∈uP ts p↔(p,s)∈aX ts:=by
 unfold uP aX;rw[el,el];refine exists_congr fun t=>and_congr Iff.rfl ?_;unfold Cf;rw[show df 3=[0,1,2] from rfl];simp only[di,ou,fa,bi,Rf,an,cg,or_false,ft];have k:∀(c:Nat) (x y:P3),t.cor c=x→t.cor ((c+1)%3)=y→(s∈(if t.cor c=p then [t.cor ((c+1)%3)] else [])↔p=x∧s=y):=fun c x y hx hy=>by
  subst hx;subst hy;split
  · rename_i h;rw[bf];exact⟨fun e=>⟨h.symm,e⟩,fun e=>e.2⟩
  · rename_i h;exact⟨fun e=>(by cases e),fun e=>absurd e.1.symm h⟩
 rw[k 0 t.a t.b rfl rfl,k 1 t.b t.c rfl rfl,k 2 t.c t.a rfl rfl]
theorem Lv{ps:List P3}{p:P3}:x∈gK ps p↔x=p∨x∈ps:=by
 unfold gK;split
 · rename_i h
   exact⟨.inr,fun k=>k.elim (fun e=>e▸bh h) id⟩
 · conv=>rhs;rw[←mn (abj ps p) ps]
   simp only[bi,bf];exact⟨fun h=>h.elim (fun h=>h.elim (fun h=>.inr (.inl h)) .inl) (fun h=>.inr (.inr h)),fun h=>h.elim (fun h=>.inl (.inr h)) (fun h=>h.elim (fun h=>.inl (.inl h)) .inr)⟩
theorem vW{ts:List T3}:x∈dR ts↔x∈dS ts:=by
 have:∀(ts:List T3) (ps:List P3),x∈ts.foldl (fun ps t=>gK (gK (gK ps t.a) t.b) t.c) ps↔x∈ps∨x∈dS ts:=by
  intro ts
  induction ts with
  | nil=>intro ps;simp[dS]
  | cons t ts ih =>
   intro ps;rw[List.foldl_cons,ih,Lv,Lv,Lv];have e:dS (t::ts)=[t.a,t.b,t.c]++dS ts:=rfl;rw[e];simp only[bi,an,cg,or_false];constructor
   · rintro ((h | h | h | h) | h)
     · exact .inr (.inl (.inr (.inr h)))
     · exact .inr (.inl (.inr (.inl h)))
     · exact .inr (.inl (.inl h))
     · exact .inl h
     · exact .inr (.inr h)
   · rintro (h | (h | h | h) | h)
     · exact .inl (.inr (.inr (.inr h)))
     · exact .inl (.inr (.inr (.inl h)))
     · exact .inl (.inr (.inl h))
     · exact .inl (.inl h)
     · exact .inr h
 have:=this ts [];simpa[dR] using this
theorem Xc{ts:List T3}{e:E3}(h:e∈aX ts):e.1∈dS ts∧e.2∈dS ts:=by
 obtain⟨t,ht,hx⟩:=el.1 h;have key:∀x,x=t.a∨x=t.b∨x=t.c→x∈dS ts:=fun x hx=>el.2 ⟨t,ht,by simpa using hx⟩;simp only[an,cg,or_false] at hx;rcases hx with rfl | rfl | rfl
 · exact⟨key _ (.inl O),key _ (.inr (.inl O))⟩
 · exact⟨key _ (.inr (.inl O)),key _ (.inr (.inr O))⟩
 · exact⟨key _ (.inr (.inr O)),key _ (.inl O)⟩
def aad(ts:List T3)(e:E3):Prop:=∃x,bS ts e.1 e.2=some x∧(Cp (bS ts e.1) e.2 (vK (dS ts) e.1+1-1) x 1).1=e.2∧(Cp (bS ts e.1) e.2 (vK (dS ts) e.1+1-1) x 1).2<vK (dS ts) e.1
theorem Ry{ts:List T3}{e:E3}:aad ts e↔e∈aX ts∧oJ (oH ts e.1) e.1 e.2 ((oH ts e.1).length-1) e.2=true:=by
 rw[Rv,Rx];constructor
 · rintro⟨x,hx,h⟩
   obtain⟨j,h1,h2,h3⟩:=(aac (M:=vK (dS ts) e.1) _ x 1 (by omega)).1 h;refine⟨vV hx,j,h1,by omega,?_⟩;rw[Iv,show j=(j-1)+1 by omega,rF,hx];exact h3
 · rintro⟨he,j,h1,h2,h3⟩
   obtain⟨x,hx⟩:=Cn he;refine⟨x,hx,(aac (M:=vK (dS ts) e.1) _ x 1 (by omega)).2 ⟨j,h1,by omega,?_⟩⟩;rw[Iv,show j=(j-1)+1 by omega,rF,hx] at h3;exact h3
theorem pinned{ts:List T3}:(dR ts).any (Ie ts)=true↔∃e,aad ts e:=by
 rw[fe];constructor
 · rintro⟨p,_,h⟩
   obtain⟨s,hs,hr⟩:=fe.1 h;exact⟨(p,s),Ry.2 ⟨Xb.1 hs,hr⟩⟩
 · rintro⟨e,h⟩
   obtain⟨he,hr⟩:=Ry.1 h;exact⟨e.1,vW.2 (Xc he).1,fe.2 ⟨e.2,Xb.2 he,hr⟩⟩
/-! ### The ends of fans -/
def am3(ts:List T3)(p:P3):Nat→P3→P3
 | 0,a=>a
 | n+1,a=>match bS ts p a with
  | none=>a
  | some x=>am3 ts p n x
def Xd(ts:List T3):Prop:=∀t∈ts,rX t=false
theorem auk{t:T3}(h:rX t=false):t.a≠t.b∧t.b≠t.c∧t.c≠t.a:=by
 unfold rX at h;simp only[Bool.or_eq_false_iff,decide_eq_false_iff_not] at h;exact⟨h.1.1,h.1.2,h.2⟩
theorem aae{ts:List T3}{p:P3}:∀(i j:Nat) (a:P3),rF ts p (i+j) a=(rF ts p i a).bind (rF ts p j)
 | 0,j,a=>by simp[rF]
 | i+1,j,a=>by
  rw[show i+1+j=(i+j)+1 by omega,rF,rF];cases bS ts p a with
  | none=>rfl
  | some y=>rw[ip,ip];exact aae i j y
/-! ### As the reference says it -/
abbrev Mv:=P3 × P3
def T3.has(t:T3)(p:P3):Bool:=decide (t.a=p)||decide (t.b=p)||decide (t.c=p)
def ajc(ts:List T3)(p q:P3):Bool:=ts.any fun t=>t.has p&&t.has q
def onB(rim:List E3)(p:P3):Bool:=rim.any fun e=>decide (e.1=p)||decide (e.2=p)
def dL(t:T3):T3:=if t.c.Lt t.a∧(t.c.Lt t.b∨¬t.b.Lt t.a) then ⟨t.c,t.a,t.b⟩ else if t.b.Lt t.a then ⟨t.b,t.c,t.a⟩ else t
theorem Rz{t u:T3}(h1:t.a=u.a)(h2:t.b=u.b)(h3:t.c=u.c):t=u:=by
 cases t;cases u;simp only at h1 h2 h3;subst h1;subst h2;subst h3;rfl
instance:DecidableEq T3:=fun t u=>decidable_of_iff (t.a=u.a∧t.b=u.b∧t.c=u.c) ⟨fun h=>Rz h.1 h.2.1 h.2.2,fun h=>by rw[h];exact⟨rfl,rfl,rfl⟩⟩
def T3.nd(t:T3):Bool:=decide (t.a≠t.b)&&decide (t.b≠t.c)&&decide (t.c≠t.a)
/-! ### Corners and edges -/
theorem mR{t:T3}{p:P3}:t.has p=true↔p=t.a∨p=t.b∨p=t.c:=by
 unfold T3.has;simp only[ep,decide_eq_true_eq,or_assoc];exact or_congr ⟨Eq.symm,Eq.symm⟩ (or_congr ⟨Eq.symm,Eq.symm⟩ ⟨Eq.symm,Eq.symm⟩)
theorem Iy{ts:List T3}{p:P3}:ajc ts p q=true↔∃t∈ts,t.has p=true∧t.has q=true:=by
 unfold ajc;rw[fe];exact exists_congr fun t=>and_congr Iff.rfl (by rw[be])
/-! ### The border -/
/-! ### The ends of fans -/
/-! ### Moves -/
/-! ### Covers -/
abbrev sA(x:Nat):ai:=.int .i64 (x:Int)
structure gC(w:aj)(b:Nat)(A:Option Addr)(n cap:Nat)(xs:List Nat):Prop where
 eq:n=xs.length
 row:∀(i x:Nat),xs[i]? = some x→∃a,A=some a∧a.block<b∧w.cell? (a.add i)=some (.int .i64 (x:Int))
 le:xs.length≤cap
 cap:cap≤9223372036854775807
 len:xs.length≤17592186044416
 digs:eM 65536 xs
section
variable {w w':aj} {b:Nat} {A:Option Addr} {n cap:Nat} {xs:List Nat}
theorem gC.ext(h:gC w b A n cap xs)(hE:fQ w w'):gC w' b A n cap xs :=
 ⟨h.eq,fun i x hi=>let ⟨a,e,hb,hc⟩:=h.row i x hi;⟨a,e,hb,hE.cell hc⟩,h.le,h.cap,h.len,h.digs⟩
theorem gC.here(h:gC w b A n cap xs):gC w w.heap.size A n cap xs :=
 ⟨h.eq,fun i x hi=>by
  obtain⟨a,e,_,hc⟩:=h.row i x hi;have:=World.block_lt_of_cell? _ _ hc;rw[Dx] at this;exact⟨a,e,this,hc⟩,h.le,h.cap,h.len,h.digs⟩
theorem gC.take(h:gC w b A n cap xs)(k:Nat):gC w b A (xs.take k).length cap (xs.take k) :=
 ⟨rfl,fun i x hi=>h.row i x (by rw[d_] at hi;split at hi;exact hi;cases hi),ba (by simp;omega) h.le,h.cap,ba (by simp;omega) h.len,h.digs.take k⟩
theorem gC.get(h:gC w b A n cap xs){i:Nat}(hi:i<xs.length):∃a,A=some a∧w.cell? (a.add i)=some (.int .i64 ((xs[i]:Nat):Int))∧xs[i]<65536:=by
 obtain⟨a,e,_,hc⟩:=h.row i xs[i] (am hi);exact⟨a,e,hc,h.digs _ (gl hi)⟩
theorem gC.at{a:Addr}(h:gC w b (some a) n cap xs){i:Nat}(hi:i<xs.length):w.cell? (a.add i)=some (.int .i64 ((xs[i]:Nat):Int)):=by
 obtain⟨a',e,hc,_⟩:=h.get hi;cases e;exact hc
theorem gC.lt(h:gC w b A n cap xs){i:Nat}(hi:i<xs.length):xs[i]<65536:=h.digs _ (gl hi)
theorem gC.nil(w:aj)(b:Nat):gC w b none 0 0 []:=⟨rfl,fun i x hi=>by simp at hi,aq _,by omega,by simp,fun x hx=>by cases hx⟩
theorem gC.of_blk{g:Nat}{os:List Nat}{t:az}(h:fR w g (os.map sA) t)(hd:eM 65536 os)(hn:n=os.length)(hl:n≤17592186044416):gC w w.heap.size (some ⟨g,0,none⟩) n n os :=
 ⟨hn,fun i x hi=>⟨_,rfl,h.lt,by rw[eD,au];exact h.cell (by simp[hi])⟩,by omega,by omega,by omega,hd⟩
theorem gC.of_owns{base:Nat}{v:ai}{E:az}(h:ah6 w base E 1 v n (xs.map sA))(hn:n=xs.length)(hd:eM 65536 xs)(hl:n≤17592186044416):∃A c,v=.slice A n c∧gC w w.heap.size A n c xs∧∀a,A=some a→base≤a.block:=by
 rcases h.row with ⟨rfl,rfl,hx⟩ | ⟨g,cap,rfl,hb,h1,h2,hg,hr⟩
 · obtain rfl:xs=[]:=by simpa using hx
   exact⟨none,0,rfl,gC.nil _ _,fun _ e=>by cases e⟩
 · exact⟨_,cap,rfl,⟨hn,fun i x hi=>⟨_,rfl,hg,hr i _ (by simp[hi])⟩,by omega,h2,by omega,hd⟩,fun a e=>by cases e;exact hb⟩
end
def wO(n:Nat)(v:ai)(w:aj):Prop:=∃A cap,v=.slice A (digs 65536 n).length cap∧gC w w.heap.size A (digs 65536 n).length cap (digs 65536 n)
def aqa(n k:Nat)(v:ai)(w:aj):Prop:=∃A cap os,v=.slice A os.length cap∧gC w w.heap.size A os.length cap os∧val 65536 os=n∧os.length≤k
theorem wO.of_trim{b:Nat}{A:Option Addr}(h:gC w b A k cap xs)(hv:val 65536 xs=n):wO n (.slice A (trim xs).length cap) w:=by
 have e:trim xs=digs 65536 n:=pS (by omega) h.digs hv;refine⟨A,cap,by rw[e],?_⟩;rw[←e];have:=(h.take (trim xs).length).here;rwa [←kW] at this
theorem wO.self{b:Nat}{A:Option Addr}(h:gC w b A k cap xs)(t:gQ xs):wO (val 65536 xs) (.slice A k cap) w:=by
 have e:xs=digs 65536 (val 65536 xs):=by rw[←pS (by omega) h.digs rfl,t]
 refine⟨A,cap,by rw[h.eq,←e],?_⟩;rw[←e,←h.eq];exact h.here
theorem Vo(n:Nat):cl n (mi .i64 0)=(cl n 0).map sA:=by simp[sA]
theorem Iz{d:Nat}(hi:i<os.length):over (os.map sA) i [sA d]=(os.set i d).map sA:=by
 simp only[over,je];apply List.ext_getElem?;intro j;rcases Nat.lt_trichotomy j i with h | h | h
 · rw[cu (by simp;omega),cu (by simp;omega)]
   simp[h,lf (Nat.ne_of_gt h)]
 · subst h
   rw[cu (by simp;omega),dt (by simp;omega)];have e:j-min j os.length=0:=by omega
   simp[hi,e]
 · rw[dt (by simp;omega)]
   simp only[aw,bp,bx,je,dj,List.getElem?_map];rw[lf (by omega)]
   congr 2
   omega
theorem fR.digit{g:Nat}{t:az}(h:fR w g (os.map sA) t)(hi:i<os.length):w.cell? ⟨g,i,none⟩=some (.int .i64 ((os[i]:Nat):Int)) :=
 h.cell (by simp[hi])
theorem jM(n:Nat):val 65536 (digs 65536 n)=n:=rU (by omega) n
theorem Cq(n:Nat):gQ (digs 65536 n):=pR (by omega) n
theorem abF(n:Nat):eM 65536 (digs 65536 n):=uB (by omega) n
theorem Ja(h:m≤n):(digs 65536 m).length≤(digs 65536 n).length:=by
 refine lF (by omega) (Nat.lt_of_le_of_lt h ?_);have:=Gg (abF n);rwa [jM] at this
theorem xJ{V:Nat}(h:V<2^k):(digs 65536 V).length≤k:=by
 refine lF (by omega) (Nat.lt_of_lt_of_le h ?_);rw[show (65536:Nat)=2^16 from rfl,←Nat.pow_mul];exact Nat.pow_le_pow_right (by omega) (by omega)
section
variable {P:br} {ds:List dz} {l:List ai} {T ty:az}
variable {ops:Array Oper} {Q:Exit→Act→aj→Prop} {rest:List Oper} {d:Nat} {pos:String} {after:Array Edge} {w:aj}
end
theorem yW{os xs ys:List Nat}{i c s:Nat}(hl:os.length=i)(hv:val 65536 os+65536^i*c=val 65536 (xs.take i)+val 65536 (ys.take i))(hd:eM 65536 os)
 (hs:s=c+xs[i]?.getD 0+ys[i]?.getD 0) :
 val 65536 (os++[s%65536])+65536^(i+1)*(s / 65536)=val 65536 (xs.take (i+1))+val 65536 (ys.take (i+1))∧eM 65536 (os++[s%65536]):=by
 refine⟨?_,hd.append (wY (ji _ (by omega)) (mZ _))⟩;have ht:∀l:List Nat,val 65536 (l.take (i+1))=val 65536 (l.take i)+65536^i*l[i]?.getD 0:=fun l=>by
  rcases eu i l.length with h | h
  · rw[eF h,am h];rfl
  · rw[a_ (by omega),a_ h,bz h];simp
 rw[ht xs,ht ys,lB,hl];simp only[val,lj,jo];have e:s=s%65536+65536*(s / 65536):=by omega
 rw[ja];generalize s / 65536=q at *
 generalize s%65536=r at *
 generalize 65536^i=p at *
 generalize xs[i]?.getD 0=x at *
 generalize ys[i]?.getD 0=y at *
 subst hs;have e2:p*(c+x+y)=p*r+p*65536*q:=by rw[e];grind
 grind
theorem vX{os xs ys:List Nat}{i c s b:Nat}(hi:i<xs.length)(hl:os.length=i)(hv:val 65536 os+val 65536 (ys.take i)=val 65536 (xs.take i)+65536^i*c)(hd:eM 65536 os)
 (hs:s+ys[i]?.getD 0+c=xs[i]+65536*b) (h16:s<65536) :
 val 65536 (os++[s])+val 65536 (ys.take (i+1))=val 65536 (xs.take (i+1))+65536^(i+1)*b∧eM 65536 (os++[s]):=by
 refine⟨?_,hd.append (wY h16 (mZ _))⟩;have ht:val 65536 (ys.take (i+1))=val 65536 (ys.take i)+65536^i*ys[i]?.getD 0:=by
  rcases eu i ys.length with h | h
  · rw[eF h,am h];rfl
  · rw[a_ (by omega),a_ h,bz h];simp
 rw[ht,eF hi,lB,hl];simp only[val,lj,jo];rw[ja];generalize 65536^i=p at *
 generalize ys[i]?.getD 0=y at *
 generalize xs[i]=x at *
 have e2:p*(s+y+c)=p*x+p*65536*b:=by rw[hs];grind
 grind
theorem agN{c:Nat}(hle:ys.length≤xs.length)(hl:os.length=xs.length)(hd:eM 65536 os)(hv:val 65536 os+val 65536 (ys.take xs.length)=val 65536 (xs.take xs.length)+65536^xs.length*c)(hge:val 65536 ys≤val 65536 xs):val 65536 os=val 65536 xs-val 65536 ys:=by
 rw[fp,a_ hle] at hv;have h1:=Gg hd;rw[hl] at h1;rcases Nat.eq_zero_or_pos c with h | h
 · subst h;omega
 · have:65536^xs.length*1≤65536^xs.length*c:=Nat.mul_le_mul_left _ h
   omega
theorem adL{os:List Nat}{i d c c' s t T:Nat}(hi:i<os.length)(hs:os[i]+s+c=d+65536*c')(hT:val 65536 os+65536^i*c=T)(ht:T+65536^i*s=t) :
 val 65536 (os.set i d)+65536^(i+1)*c'=t:=by
 have h:=vQ (B:=65536) (d:=d) hi;rw[ja];generalize 65536^i=p at *
 have e:p*(os[i]+s+c)=p*d+p*65536*c':=by rw[hs];grind
 grind
theorem abG{os xs ys:List Nat}{i k c s:Nat}(hi:i<xs.length)(hk:k<ys.length)(hlo:os.length=xs.length+ys.length)(hv:val 65536 os+65536^(i+k)*c=val 65536 (xs.take i)*val 65536 ys+65536^i*(xs[i]*val 65536 (ys.take k)))
 (hs:s=os[i+k]+xs[i]*ys[k]+c):val 65536 (os.set (i+k) (s%65536))+65536^(i+(k+1))*(s / 65536)=val 65536 (xs.take i)*val 65536 ys+65536^i*(xs[i]*val 65536 (ys.take (k+1))):=by
 refine adL (s:=xs[i]*ys[k]) (i:=i+k) (by omega) (by omega) hv ?_;rw[eF hk,Nat.pow_add]
 grind
theorem agO{os xs ys:List Nat}{i c:Nat}(hi:i<xs.length)(hlo:os.length=xs.length+ys.length)(hv:val 65536 os+65536^(i+ys.length)*c=val 65536 (xs.take i)*val 65536 ys+65536^i*(xs[i]*val 65536 (ys.take ys.length)))(hz:os.drop (i+ys.length)=cl (xs.length-i) 0) :
 val 65536 (os.set (i+ys.length) c)=val 65536 (xs.take (i+1))*val 65536 ys∧(os.set (i+ys.length) c).drop (i+1+ys.length)=cl (xs.length-(i+1)) 0:=by
 obtain⟨z1,z2⟩:=oF hz (by omega);have h:=vQ (B:=65536) (d:=c) (show i+ys.length<os.length by omega);rw[z1] at h;rw[fp] at hv;refine⟨?_,?_⟩
 · rw[eF hi]
   grind
 · rw[show i+1+ys.length=i+ys.length+1 by omega,rJ,z2]
   congr 1
theorem abH{x y:Nat}(hx:x<65536)(hy:y<65536):x*y≤4294836225:=by
 have:=Nat.mul_le_mul (my hx) (my hy);omega
theorem agP{x y:Nat}(hx:x<65536)(hy:y<65536):(0:Int)≤(x:Int)*(y:Int)∧(x:Int)*(y:Int)≤4294836225:=by
 have:=abH hx hy;rw[←Int.natCast_mul];omega
theorem abI(hx:eM 65536 xs)(hk:0<k)(hlx:k-1<xs.length)(hly:k-1<ys.length)(hd:xs.drop k=ys.drop k)(h:((xs[k-1]:Nat):Int)<((ys[k-1]:Nat):Int)):val 65536 xs<val 65536 ys :=
 Fk (by omega) hx hlx hly (by rw[show k-1+1=k by omega];exact hd) (by omega)
theorem ajd(hk:0<k)(hlx:k-1<xs.length)(hly:k-1<ys.length)(hd:xs.drop k=ys.drop k)(h1:((xs[k-1]:Nat):Int)=((ys[k-1]:Nat):Int)):xs.drop (k-1)=ys.drop (k-1):=by
 rw[fc hlx,fc hly,show k-1+1=k by omega,hd,show xs[k-1]=ys[k-1] by omega]
theorem aqb(k:Nat):(65536:Nat)^k=256^(2*k):=by rw[show (65536:Nat)=256^2 from rfl,←Nat.pow_mul]
theorem Jb{os bs:List Nat}{k d:Nat}(hl:os.length=k)(hv:val 65536 os=val 256 (bs.take (2*k)))(h:2*k<bs.length)(hd:d=bs[2*k]+256*(bs[2*k+1]?.getD 0))(hb:eM 256 bs)(ho:eM 65536 os) :
 val 65536 (os++[d])=val 256 (bs.take (2*(k+1)))∧eM 65536 (os++[d]):=by
 have h1:=hb _ (gl h);have h2:bs[2*k+1]?.getD 0<256:=by
  rcases eu (2*k+1) bs.length with h | h
  · rw[am h];exact hb _ (gl h)
  · rw[bz h];decide
 refine⟨?_,ho.append (wY (by omega) (mZ _))⟩;have ht:val 256 (bs.take (2*k+1+1))=val 256 (bs.take (2*k+1))+256^(2*k+1)*bs[2*k+1]?.getD 0:=by
  rcases eu (2*k+1) bs.length with h | h
  · rw[eF h,am h];rfl
  · rw[a_ (by omega),a_ h,bz h];simp
 rw[show 2*(k+1)=2*k+1+1 by omega,ht,eF h,lB,hl,hv,aqb,ja];simp only[val,lj,jo];subst hd;generalize 256^(2*k)=p
 grind
def wb2(x:Nat):List UInt8:=[ei (x / 256),ei x]
theorem Sa(ys:List Nat)(h:eM 65536 ys):val 256 (((ys.reverse.flatMap wb2).reverse).map jc)=val 65536 ys∧eM 256 (((ys.reverse.flatMap wb2).reverse).map jc):=by
 induction ys with
 | nil=>exact⟨rfl,fun _ h=>by cases h⟩
 | cons y ys ih =>
  have hy:=h y (by simp);obtain⟨i1,i2⟩:=ih (fun x hx=>h x (by simp[hx]));have e:(((y::ys).reverse.flatMap wb2).reverse).map jc=[y%256,y / 256%256]++(((ys.reverse.flatMap wb2).reverse).map jc):=by
   simp[ay,wb2,jj]
  rw[e];refine⟨?_,?_⟩
  · rw[lB,i1]
    simp only[val,av,bv];omega
  · refine eM.append ?_ i2
    intro x hx;simp at hx;omega
theorem abJ(h:eM 65536 ys)(neg:Bool):nT (jJ (ys.reverse.flatMap wb2))=kL (Uw neg (val 65536 ys)):=by
 obtain⟨h1,h2⟩:=Sa ys h;rw[Nh,pS (by omega) h2 h1,kL,Gj,mQ];rfl
def oL(ys:List Nat)(k:Nat):List UInt8:=jJ ((ys.drop k).reverse.flatMap wb2)
theorem aaf{l m:List UInt8}(h:jJ l≠[]):jJ (l++m)=jJ l++m:=by
 induction l with
 | nil=>exact absurd rfl h
 | cons b l ih =>
  by_cases hb:b=0
  · subst hb
    have e:jJ (0::l)=jJ l:=by simp[jJ]
    have e2:jJ ((0::l)++m)=jJ (l++m):=by simp[jJ]
    rw[e] at h;rw[e,e2,ih h]
  · simp[jJ,hb]
theorem adN(hk:0<k)(hl:k-1<ys.length)(h:oL ys k≠[]):oL ys (k-1)=oL ys k++[ei (ys[k-1] / 256)]++[ei (ys[k-1]%256)]∧oL ys (k-1)≠[]:=by
 have e:oL ys (k-1)=oL ys k++[ei (ys[k-1] / 256)]++[ei (ys[k-1]%256)]:=by
  unfold oL at *
  rw[fc hl,show k-1+1=k by omega,List.reverse_cons,ay,aaf h];have:ei (ys[k-1]%256)=ei (ys[k-1]):=by
   apply nl.1;simp[jj]
  rw[this];simp[wb2]
 exact⟨e,by rw[e];simp⟩
theorem abK{ys:List Nat}(hl:ys.length-1<ys.length)(h0:0<ys[ys.length-1])(h16:ys[ys.length-1]<65536) :
 oL ys (ys.length-1)=(if 256≤ys[ys.length-1] then [ei (ys[ys.length-1] / 256)] else [])++[ei (ys[ys.length-1]%256)]∧oL ys (ys.length-1)≠[]:=by
 have e:oL ys (ys.length-1)=jJ (wb2 (ys[ys.length-1])):=by
  unfold oL;rw[fc hl,show ys.length-1+1=ys.length by omega,lv];simp
 generalize ys[ys.length-1]=x at *
 have hm:ei (x%256)=ei x:=by
  apply nl.1;simp[jj]
 have ez:∀y:Nat,y<256→(ei y=0↔y=0):=fun y hy=>by
  rw[←nl];simp only[jj,UInt8.toNat_zero];rw[kn (by omega)]
 have e2:jJ (wb2 x)=(if 256≤x then [ei (x / 256)] else [])++[ei (x%256)]:=by
  split
  · rename_i h
    have hn:¬ei (x / 256)=0:=fun e=>by have:=(ez _ (by omega)).1 e;omega
    rw[hm];simp[jJ,wb2,hn]
  · rename_i h
    have hz:ei (x / 256)=0:=(ez _ (by omega)).2 (by omega);have hn:¬ei x=0:=fun e=>by have:=(ez _ (by omega)).1 e;omega
    rw[hm];simp[jJ,wb2,hz,hn]
 exact⟨e.trans e2,by rw[e,e2];simp⟩
theorem Xe(ys:List Nat):oL ys ys.length=[]:=by unfold oL;rw[lv];rfl
theorem adO(h:eM 65536 ys)(neg:Bool):nT (oL ys 0)=kL (Uw neg (val 65536 ys)):=by
 unfold oL;rw[List.drop_zero];exact abJ h neg
theorem agQ(ys:List Nat)(k:Nat):(oL ys k).length≤2*ys.length:=by
 have h1:∀l:List UInt8,(jJ l).length≤l.length:=fun l=>by
  induction l with
  | nil=>simp[jJ]
  | cons b l ih =>
   unfold jJ at *
   rw[List.dropWhile_cons];split
   · simp;omega
   · simp
 have h2:∀l:List Nat,(l.flatMap wb2).length=2*l.length:=fun l=>by
  induction l with
  | nil=>rfl
  | cons x l ih=>rw[di,aw,ih];simp[wb2];omega
 refine ba (h1 _) ?_;rw[h2];simp;omega
theorem Cr{x:Nat}(h:x<256):IntKind.u8.wrap (x:Int)=(x:Int):=aeZ (by omega) (by omega)
theorem Sb{os:List Nat}{m V:Nat}(hv:val 65536 os+65536^os.length*m=V)(hd:eM 65536 os)(h2:m<2^(64-os.length))(h3:os.length≤64)(h0:0<m) :
 val 65536 (os++[m%65536])+65536^(os++[m%65536]).length*(m / 65536)=V∧eM 65536 (os++[m%65536])∧m / 65536<2^(64-(os++[m%65536]).length)∧(os++[m%65536]).length≤64:=by
 have hl:os.length<64:=by
  rcases eu os.length 64 with h | h
  · exact h
  · rw[show 64-os.length=0 by omega] at h2;omega
 refine⟨?_,hd.append (wY (ji _ (by omega)) (mZ _)),?_,by simp;omega⟩
 · rw[lB,aw,je,ja]
   simp only[val,lj,jo];have e:m=m%65536+65536*(m / 65536):=by omega
   generalize m / 65536=q at *
   generalize m%65536=r at *
   generalize 65536^os.length=p at *
   subst e
   grind
 · rw[aw,je]
   have e:2^(64-os.length)=2*2^(64-(os.length+1)):=by rw[←Nat.pow_succ'];congr 1;omega
   rw[e] at h2;omega
instance (a:Int):Decidable (sP a):=inferInstanceAs (Decidable (_∧_))
/-! ### What CheckOpen says -/
theorem abL{ts:List T3}(h:fH true ts=0):Xd ts∧(aX ts).Nodup:=by
 unfold fH at h;split at h
 · cases h
 · rename_i h1
   split at h
   · cases h
   · rename_i h2
     refine⟨fun t ht=>?_,?_⟩
     · cases hd:rX t with
       | false=>rfl
       | true=>exact absurd (fe.2 ⟨t,ht,hd⟩) h1
     · rw[Is] at h2
       exact Decidable.not_not.1 fun k=>h2 (decide_eq_true k)
def asD(t:T3):List E3:=[(t.a,t.b),(t.b,t.c),(t.c,t.a)]
theorem nd_of{t:T3}(h:rX t=false):t.nd=true:=by
 obtain⟨h1,h2,h3⟩:=auk h;simp[T3.nd,h1,h2,h3]
/-! ### One far move -/
theorem P3.lt_asymm{p:P3}(h:p.Lt q):¬q.Lt p:=fun k=>P3.lt_irrefl _ (P3.lt_trans h k)
theorem Sc{t:T3}(h:t.nd=true):dL ⟨t.b,t.c,t.a⟩=dL t:=by
 unfold T3.nd at h;simp only[be,decide_eq_true_eq] at h;obtain⟨⟨h1,h2⟩,h3⟩:=h;unfold dL;simp only;rcases P3.lt_tri t.a t.b with ab | ab | ab
 · rcases P3.lt_tri t.b t.c with bc | bc | bc
   · have ac:=P3.lt_trans ab bc
     simp[ab,bc,ac,P3.lt_asymm ab,P3.lt_asymm bc,P3.lt_asymm ac]
   · exact absurd bc h2
   · rcases P3.lt_tri t.a t.c with ac | ac | ac
     · simp[ab,bc,ac,P3.lt_asymm ab,P3.lt_asymm bc,P3.lt_asymm ac]
     · exact absurd ac.symm h3
     · simp[ab,bc,ac,P3.lt_asymm ab,P3.lt_asymm bc,P3.lt_asymm ac]
 · exact absurd ab h1
 · rcases P3.lt_tri t.b t.c with bc | bc | bc
   · rcases P3.lt_tri t.a t.c with ac | ac | ac
     · simp[ab,bc,ac,P3.lt_asymm ab,P3.lt_asymm bc,P3.lt_asymm ac]
     · exact absurd ac.symm h3
     · simp[ab,bc,ac,P3.lt_asymm ab,P3.lt_asymm bc,P3.lt_asymm ac]
   · exact absurd bc h2
   · have ca:=P3.lt_trans bc ab
     simp[ab,bc,ca,P3.lt_asymm ab,P3.lt_asymm bc,P3.lt_asymm ca]
theorem Ph{t:T3}:(⟨t.b,t.c,t.a⟩:T3).nd=t.nd:=by
 unfold T3.nd;simp only;cases decide (t.a≠t.b) <;> cases decide (t.b≠t.c) <;> cases decide (t.c≠t.a) <;> rfl
def adP(t u:T3):Prop:=u=t∨u=⟨t.b,t.c,t.a⟩∨u=⟨t.c,t.a,t.b⟩
theorem abM{t u:T3}(h:adP t u)(hn:t.nd=true):dL u=dL t:=by
 rcases h with rfl | rfl | rfl
 · rfl
 · exact Sc hn
 · have h2:=Sc (t:=⟨t.b,t.c,t.a⟩) (by rw[Ph];exact hn)
   exact h2.trans (Sc hn)
theorem afu{t u:T3}(h:adP t u):u.nd=t.nd:=by
 rcases h with rfl | rfl | rfl
 · rfl
 · exact Ph
 · exact (Ph (t:=⟨t.b,t.c,t.a⟩)).trans Ph
/-! ### Edges of a list in which triangles are changed -/
section
variable {p:P3} {X:E3→Prop} {old new R fine fine':List T3}
end
/-! ### The two kinds of division -/
def aje(t:T3):List (E3 × P3):=[((t.a,t.b),t.c),((t.b,t.c),t.a),((t.c,t.a),t.b)]
theorem fM{ts:List T3}{x:E3 × P3}:x∈kY ts↔∃t∈ts,x∈aje t:=el
theorem adQ{ts us:List T3}(h:ts.Perm us){x:E3 × P3}:x∈kY ts↔x∈kY us:=by
 rw[fM,fM];exact exists_congr fun t=>and_congr h.mem_iff Iff.rfl
/-! ### Images -/
section
variable {l fine fine' R:List T3} {ms:List Mv} {B B':Int} {p:P3}
end
theorem abN{ts:List T3}  : x∈dS ts↔∃t∈ts,x=t.cor 0∨x=t.cor 1∨x=t.cor 2:=by
 unfold dS;rw[el];exact exists_congr fun t=>and_congr Iff.rfl (by simp[T3.cor])
def dN(a b c:P3):P3:=(b.sub a).cross (c.sub a)
def mV(a b c d:P3):Int:=(dN a b c).dot (d.sub a)
def bH(v:P3)(k:Nat):Int:=if k=0 then v.x else if k=1 then v.y else v.z
def iZ(v:P3):Nat:=if v.x≠0 then 0 else if v.y≠0 then 1 else if v.z≠0 then 2 else 3
/-! ### Points in a plane -/
theorem afv{p1 p2 p3 q1 q2 q3 N:Int}(hN:0<N)(hp:p1+p2+p3=N)(hq:q1+q2+q3=N)(h1:0≤p1)(h2:0≤p2)(h3:0≤p3)(hn:¬(0≤q1∧0≤q2∧0≤q3)) :
 (q3<0∧(p2*q3-p3*q2)*(p3*q1-p1*q3)≤0)∨(q1<0∧(p3*q1-p1*q3)*(p1*q2-p2*q1)≤0)∨(q2<0∧(p1*q2-p2*q1)*(p2*q3-p3*q2)≤0):=by
 have nn:∀{a b:Int},0≤a→0≤b→0≤a*b:=fun ha hb=>Int.mul_nonneg ha hb;have np:∀{a b:Int},0≤a→b≤0→a*b≤0:=fun ha hb=>Int.mul_nonpos_of_nonneg_of_nonpos ha hb;have pn:∀{a b:Int},a≤0→0≤b→a*b≤0:=fun ha hb=>Int.mul_nonpos_of_nonpos_of_nonneg ha hb
 -- one that is negative,of two others one is not
 have key:∀{p1 p2 p3 q1 q2 q3:Int},0≤p1→0≤p2→0≤p3→q3<0→0≤q1→0≤q2→(p2*q3-p3*q2)*(p3*q1-p1*q3)≤0:=fun {p1 p2 p3 q1 q2 q3} h1 h2 h3 k3 k1 k2=>by
  have a:=np h2 (og k3);have b:=nn h3 k2;have c:=nn h3 k1;have d:=np h1 (og k3);exact pn (by omega) (by omega)
 have key2:∀{p1 p2 p3 q1 q2 q3:Int},0≤p1→0≤p2→0≤p3→q3<0→q2<0→0≤q1→(p2*q3-p3*q2)*(p3*q1-p1*q3)≤0∨(p1*q2-p2*q1)*(p2*q3-p3*q2)≤0:=fun {p1 p2 p3 q1 q2 q3} h1 h2 h3 k3 k2 k1=>by
  have a:=np h1 (og k3);have b:=nn h3 k1;have c:=np h1 (og k2);have d:=nn h2 k1;rcases Int.le_total (p2*q3-p3*q2) 0 with h | h
  · exact .inl (pn h (by omega))
  · exact .inr (pn (by omega) h)
 rcases (show q3<0∨0≤q3 by omega) with k3 | k3
 · rcases (show q2<0∨0≤q2 by omega) with k2 | k2
   · rcases (show q1<0∨0≤q1 by omega) with k1 | k1
     · omega
     · rcases key2 h1 h2 h3 k3 k2 k1 with h | h
       · exact .inl ⟨k3,h⟩
       · exact .inr (.inr ⟨k2,h⟩)
   · rcases (show q1<0∨0≤q1 by omega) with k1 | k1
     · rcases key2 (p1:=p2) (p2:=p3) (p3:=p1) (q1:=q2) (q2:=q3) (q3:=q1) h2 h3 h1 k1 k3 k2 with h | h
       · exact .inr (.inl ⟨k1,h⟩)
       · exact .inl ⟨k3,h⟩
     · exact .inl ⟨k3,key h1 h2 h3 k3 k1 k2⟩
 · rcases (show q2<0∨0≤q2 by omega) with k2 | k2
   · rcases (show q1<0∨0≤q1 by omega) with k1 | k1
     · rcases key2 (p1:=p3) (p2:=p1) (p3:=p2) (q1:=q3) (q2:=q1) (q3:=q2) h3 h1 h2 k2 k1 k3 with h | h
       · exact .inr (.inr ⟨k2,h⟩)
       · exact .inr (.inl ⟨k1,h⟩)
     · exact .inr (.inr ⟨k2,key (p1:=p3) (p2:=p1) (p3:=p2) (q1:=q3) (q2:=q1) (q3:=q2) h3 h1 h2 k2 k3 k1⟩)
   · rcases (show q1<0∨0≤q1 by omega) with k1 | k1
     · exact .inr (.inl ⟨k1,key (p1:=p2) (p2:=p3) (p3:=p1) (q1:=q2) (q2:=q3) (q3:=q1) h2 h3 h1 k1 k2 k3⟩)
     · exact absurd ⟨k1,k2,k3⟩ hn
theorem Xf(a b c x:P3)(k:Nat):bH (dN b c x) k+bH (dN c a x) k+bH (dN a b x) k=bH (dN a b c) k:=by
 unfold bH dN P3.cross P3.sub;split
 · simp only;grind
 · split
   · simp only;grind
   · simp only;grind
theorem aqc(a b c p q:P3)(k:Nat):bH (dN p q a) k*bH (dN a b c) k=bH (dN c a p) k*bH (dN a b q) k-bH (dN a b p) k*bH (dN c a q) k:=by
 unfold bH dN P3.cross P3.sub;split
 · simp only;grind
 · split
   · simp only;grind
   · simp only;grind
theorem adR{v:P3}(h:iZ v<3):bH v (iZ v)≠0:=by
 unfold iZ at h ⊢;split
 · assumption
 · split
   · assumption
   · split
     · assumption
     · rename_i h1 h2 h3;rw[if_neg h1,if_neg h2,if_neg h3] at h;omega
theorem am4{v w:P3}(hv:iZ v<3)(hw:bH w (iZ v)≠0)(h:v.cross w=⟨0,0,0⟩):iZ w=iZ v:=by
 have h1:=congrArg P3.x h;have h2:=congrArg P3.y h;have h3:=congrArg P3.z h;simp only[P3.cross] at h1 h2 h3;have nz:=adR hv;have z:∀{a b c d:Int},a*b-c*d=0→a=0→c≠0→d=0:=fun {a b c d} e ha hc=>by
  subst ha;rw[pd,qp,la] at e;exact (nt.1 e).resolve_left hc
 by_cases x0:v.x=0
 · by_cases y0:v.y=0
   · by_cases z0:v.z=0
     · have:iZ v=3:=by unfold iZ;rw[if_neg (by omega),if_neg (by omega),if_neg (by omega)]
       omega
     · have e:iZ v=2:=by unfold iZ;rw[if_neg (by omega),if_neg (by omega),if_pos z0]
       rw[e] at hw ⊢;have wx:w.x=0:=(nt.1 (show v.z*w.x=0 by rw[x0,pd,Int.sub_zero] at h2;exact h2)).resolve_left z0;have wy:w.y=0:=(nt.1 (show v.z*w.y=0 by rw[y0,pd,qp,la] at h1;exact h1)).resolve_left z0;unfold iZ;rw[if_neg (by omega),if_neg (by omega)];exact if_pos hw
   · have e:iZ v=1:=by unfold iZ;rw[if_neg (by omega),if_pos y0]
     rw[e] at hw ⊢;have wx:w.x=0:=(nt.1 (show v.y*w.x=0 by rw[x0,pd,qp,la] at h3;exact h3)).resolve_left y0;unfold iZ;rw[if_neg (by omega)];exact if_pos hw
 · have e:iZ v=0:=by unfold iZ;rw[if_pos x0]
   rw[e] at hw ⊢;unfold iZ;exact if_pos hw
theorem asE{n v:P3}(h:n.dot u=0)(k:n.dot v=0):n.cross (u.cross v)=⟨0,0,0⟩:=by
 simp only[P3.dot] at h k;refine P3.eq ?_ ?_ ?_ <;> (simp only[P3.cross];grind)
theorem aul{n v:P3}(hn:bH n j≠0)(h:n.dot u=0)(k:n.dot v=0)(l:n.dot x=0):(u.cross v).dot x=0:=by
 have p:=asE h k;have p1:=congrArg P3.x p;have p2:=congrArg P3.y p;have p3:=congrArg P3.z p;generalize u.cross v=w at p1 p2 p3 ⊢;simp only[P3.cross] at p1 p2 p3;simp only[P3.dot] at l ⊢;have key:bH n j*(w.x*x.x+w.y*x.y+w.z*x.z)=0:=by
  unfold bH;split
  · grind
  · split
    · grind
    · grind
 exact (nt.1 key).resolve_left hn
def Z3(u:P3):Prop:=u.x=0∧u.y=0∧u.z=0
instance (u:P3):Decidable (Z3 u):=inferInstanceAs (Decidable (_∧_∧_))
def mY(p q:P3):P3:=if q.Lt p then q else p
def oC(p q:P3):P3:=if q.Lt p then p else q
def ajf(a b c:P3):Bool:=decide (iZ (dN a b c)=3)
def aqd(p q r s:P3):Bool:=(if mY p q=oC p q then ajf (mY r s) (oC r s) (mY p q) else ajf (mY p q) (oC p q) (mY r s)) && !decide ((oC p q).Lt (mY r s)) && !decide ((oC r s).Lt (mY p q))
def uY(p q r s:P3):P3:=(q.sub p).cross (s.sub r)
def eO(p q r s:P3):Bool :=
 if iZ (uY p q r s)<3 then
  decide (mV p q r s=0)&&decide (bH (dN p q r) (iZ (uY p q r s))*bH (dN p q s) (iZ (uY p q r s))≤0)&&decide (bH (dN r s p) (iZ (uY p q r s))*bH (dN r s q) (iZ (uY p q r s))≤0)
 else aqd p q r s
theorem lt_asymm{p:P3}(h:p.Lt q):¬q.Lt p:=fun k=>P3.lt_irrefl p (P3.lt_trans h k)
theorem lt_tri(p q:P3):p.Lt q∨p=q∨q.Lt p:=by
 by_cases h:p=q
 · exact .inr (.inl h)
 · have:¬(p.x=q.x∧p.y=q.y∧p.z=q.z):=fun k=>h (P3.eq k.1 k.2.1 k.2.2)
   unfold P3.Lt;omega
theorem ajg(p q:P3):mY p q=mY q p:=by
 unfold mY;rcases lt_tri p q with h | h | h
 · rw[if_neg (lt_asymm h),if_pos h]
 · rw[h]
 · rw[if_pos h,if_neg (lt_asymm h)]
theorem ajh(p q:P3):oC p q=oC q p:=by
 unfold oC;rcases lt_tri p q with h | h | h
 · rw[if_neg (lt_asymm h),if_pos h]
 · rw[h]
 · rw[if_pos h,if_neg (lt_asymm h)]
def Lw(v:P3):P3:=⟨-v.x,-v.y,-v.z⟩
theorem am5(v:P3):iZ (Lw v)=iZ v:=by unfold iZ Lw;simp only[ne_eq,la]
theorem abO(v:P3)(k:Nat):bH (Lw v) k = -bH v k:=by
 by_cases h0:k=0
 · simp only[bH,Lw,if_pos h0]
 · by_cases h1:k=1
   · simp only[bH,Lw,if_neg h0,if_pos h1]
   · simp only[bH,Lw,if_neg h0,if_neg h1]
theorem Jc(p q r:P3):dN q p r=Lw (dN p q r):=by
 refine P3.eq ?_ ?_ ?_ <;> (simp only[dN,Lw,P3.sub,P3.cross];grind)
theorem aji(p q r s:P3):uY q p r s=Lw (uY p q r s):=by
 refine P3.eq ?_ ?_ ?_ <;> (simp only[uY,Lw,P3.sub,P3.cross];grind)
theorem Jd(p q r s:P3):mV q p r s = -mV p q r s:=by
 simp only[mV,dN,P3.sub,P3.cross,P3.dot];grind
theorem uZ(p q r s:P3):eO q p r s=eO p q r s:=by
 unfold eO;rw[aji,am5,Jd,Jc,Jc p q s,abO,abO,qd,pe (bH (dN r s q) _)];simp only[la];unfold aqd;rw[ajg q p,ajh q p]
/-! ### In the plane of a triangle -/
def wth(a b c x:P3)(k:Nat):Prop:=(0≤bH (dN a b x) k∧0≤bH (dN b c x) k∧0≤bH (dN c a x) k)∨(bH (dN a b x) k≤0∧bH (dN b c x) k≤0∧bH (dN c a x) k≤0)
instance (a b c x:P3)(k:Nat):Decidable (wth a b c x k):=by unfold wth;infer_instance
theorem adT{b c:P3}:(dN a b c).dot (x.sub a)=mV a b c x:=rfl
theorem ajj{a b c p q:P3}(hk:iZ (dN a b c)<3)(hp:mV a b c p=0)(hq:mV a b c q=0){u v:P3}(hu:(dN a b c).dot (u.sub a)=0)(hv:(dN a b c).dot (v.sub a)=0)
 (h1:bH (dN u v p) (iZ (dN a b c))≠bH (dN u v q) (iZ (dN a b c))) (h2:bH (dN u v p) (iZ (dN a b c))*bH (dN u v q) (iZ (dN a b c))≤0)
 (h3:bH (dN p q u) (iZ (dN a b c))*bH (dN p q v) (iZ (dN a b c))≤0):eO p q u v=true:=by
 have nz:=adR hk;have e:∀k,bH (uY p q u v) k=bH (dN u v p) k-bH (dN u v q) k:=fun k=>by
  unfold bH uY dN P3.cross P3.sub;split
  · simp only;grind
  · split
    · simp only;grind
    · simp only;grind
 have dpq:(dN a b c).dot (q.sub p)=0:=by
  rw[←adT] at hp hq;simp only[P3.dot,P3.sub] at hp hq ⊢
  grind
 have duv:(dN a b c).dot (v.sub u)=0:=by
  simp only[P3.dot,P3.sub] at hu hv ⊢
  grind
 have dup:(dN a b c).dot (u.sub p)=0:=by
  rw[←adT] at hp;simp only[P3.dot,P3.sub] at hp hu ⊢
  grind
 have dvp:(dN a b c).dot (v.sub p)=0:=by
  rw[←adT] at hp;simp only[P3.dot,P3.sub] at hp hv ⊢
  grind
 have w0:bH (uY p q u v) (iZ (dN a b c))≠0:=by rw[e];omega
 have ax:=am4 hk w0 (asE dpq duv);have o0:mV p q u v=0:=aul nz dpq dup dvp;unfold eO;rw[ax,if_pos hk,o0,decide_eq_true h3,decide_eq_true h2];rfl
theorem Xg{a b c p q:P3}(hk:iZ (dN a b c)<3)(hp:mV a b c p=0)(hq:mV a b c q=0)(wp:wth a b c p (iZ (dN a b c)))(wq:¬wth a b c q (iZ (dN a b c))) :
 eO p q a b=true∨eO p q b c=true∨eO p q c a=true:=by
 have nz:=adR hk;have sp:=Xf a b c p (iZ (dN a b c));have sq:=Xf a b c q (iZ (dN a b c));have da:(dN a b c).dot (a.sub a)=0:=by simp only[P3.dot,P3.sub];grind
 have db:(dN a b c).dot (b.sub a)=0:=by simp only[dN,P3.cross,P3.dot,P3.sub];grind
 have dc:(dN a b c).dot (c.sub a)=0:=by simp only[dN,P3.cross,P3.dot,P3.sub];grind
 have hA:=aqc a b c p q (iZ (dN a b c));have hB:bH (dN p q b) (iZ (dN a b c))*bH (dN a b c) (iZ (dN a b c))=bH (dN a b p) (iZ (dN a b c))*bH (dN b c q) (iZ (dN a b c))-bH (dN b c p) (iZ (dN a b c))*bH (dN a b q) (iZ (dN a b c)):=by
  generalize iZ (dN a b c)=k;unfold bH dN P3.cross P3.sub;split
  · simp only;grind
  · split
    · simp only;grind
    · simp only;grind
 have hC:bH (dN p q c) (iZ (dN a b c))*bH (dN a b c) (iZ (dN a b c))=bH (dN b c p) (iZ (dN a b c))*bH (dN c a q) (iZ (dN a b c))-bH (dN c a p) (iZ (dN a b c))*bH (dN b c q) (iZ (dN a b c)):=by
  generalize iZ (dN a b c)=k;unfold bH dN P3.cross P3.sub;split
  · simp only;grind
  · split
    · simp only;grind
    · simp only;grind
 have hit:∀{u v:P3},(dN a b c).dot (u.sub a)=0→(dN a b c).dot (v.sub a)=0→bH (dN u v p) (iZ (dN a b c))≠bH (dN u v q) (iZ (dN a b c))→bH (dN u v p) (iZ (dN a b c))*bH (dN u v q) (iZ (dN a b c))≤0→bH (dN p q u) (iZ (dN a b c))*bH (dN p q v) (iZ (dN a b c))≤0→eO p q u v=true:=fun {u v} hu hv=>ajj (u:=u) (v:=v) hk hp hq hu hv;unfold wth at wp wq;generalize hN:bH (dN a b c) (iZ (dN a b c))=N at *
 have sq0:∀{x y X Y:Int},x*N=X→y*N=Y→X*Y≤0→x*y≤0:=fun {x y X Y} h1 h2 h=>by
  have h3:x*y*(N*N)≤0:=by rw[show x*y*(N*N)=(x*N)*(y*N) by grind,h1,h2];exact h
  have h4:0<N*N:=by
   rcases Int.lt_or_gt_of_ne nz with h | h
   · exact Int.mul_pos_of_neg_of_neg h h
   · exact Int.mul_pos h h
  refine Int.le_of_not_gt fun k=>?_;have:=Int.mul_pos k h4;omega
 have mm:∀{x y:Int},0≤x→y<0→x*y≤0:=fun h k=>Int.mul_nonpos_of_nonneg_of_nonpos h (og k);have mm2:∀{x y:Int},x≤0→0<y→x*y≤0:=fun h k=>Int.mul_nonpos_of_nonpos_of_nonneg h (og k);rcases wp with ⟨w3,w1,w2⟩ | ⟨w3,w1,w2⟩
 · have hN0:0<N:=by omega
   rcases afv hN0 sp sq w1 w2 w3 (fun h=>wq (.inl ⟨h.2.2,h.1,h.2.1⟩)) with ⟨n,h⟩ | ⟨n,h⟩ | ⟨n,h⟩
   · exact .inl (hit da db (by omega) (mm w3 n) (sq0 hA hB h))
   · exact .inr (.inl (hit db dc (by omega) (mm w1 n) (sq0 hB hC h)))
   · exact .inr (.inr (hit dc da (by omega) (mm w2 n) (sq0 hC hA h)))
 · have hN0:0 < -N:=by omega
   have g:=afv (p1:=-bH (dN b c p) (iZ (dN a b c))) (p2:=-bH (dN c a p) (iZ (dN a b c))) (p3:=-bH (dN a b p) (iZ (dN a b c))) (q1:=-bH (dN b c q) (iZ (dN a b c))) (q2:=-bH (dN c a q) (iZ (dN a b c))) (q3:=-bH (dN a b q) (iZ (dN a b c))) hN0 (by omega) (by omega) (by omega) (by omega) (by omega) (fun h=>wq (.inr ⟨by omega,by omega,by omega⟩));simp only[qd] at g;rcases g with ⟨n,h⟩ | ⟨n,h⟩ | ⟨n,h⟩
   · exact .inl (hit da db (by omega) (mm2 w3 (by omega)) (sq0 hA hB h))
   · exact .inr (.inl (hit db dc (by omega) (mm2 w1 (by omega)) (sq0 hB hC h)))
   · exact .inr (.inr (hit dc da (by omega) (mm2 w2 (by omega)) (sq0 hC hA h)))
def Sd(x y z:Int):Bool:=(decide (0≤x)&&decide (0≤y)&&decide (0≤z))||(decide (x≤0)&&decide (y≤0)&&decide (z≤0))
def dG(p q:P3)(t:T3):Bool :=
 if iZ (dN t.a t.b t.c)<3 then
  if 0<mV t.a t.b t.c p*mV t.a t.b t.c q then false
  else if mV t.a t.b t.c p=0∧mV t.a t.b t.c q=0 then eO p q t.a t.b||eO p q t.b t.c||eO p q t.c t.a||decide (wth t.a t.b t.c p (iZ (dN t.a t.b t.c)))
  else Sd (mV p q t.a t.b) (mV p q t.b t.c) (mV p q t.c t.a)
 else eO p q (mY (mY t.a t.b) t.c) (oC (oC t.a t.b) t.c)
theorem am6(x y z:Int):Sd (-x) (-y) (-z)=Sd x y z:=by
 unfold Sd;have e:∀n:Int,decide (0 ≤ -n)=decide (n≤0):=fun n=>decide_eq_decide.2 (by omega);have f:∀n:Int,decide (-n≤0)=decide (0≤n):=fun n=>decide_eq_decide.2 (by omega);rw[e,e,e,f,f,f,px]
theorem Se(p q:P3)(t:T3):dG q p t=dG p q t:=by
 unfold dG;by_cases hk:iZ (dN t.a t.b t.c)<3
 · rw[if_pos hk,if_pos hk,pe (mV t.a t.b t.c q)]
   by_cases h0:0<mV t.a t.b t.c p*mV t.a t.b t.c q
   · rw[if_pos h0,if_pos h0]
   · rw[if_neg h0,if_neg h0]
     by_cases hc:mV t.a t.b t.c p=0∧mV t.a t.b t.c q=0
     · rw[if_pos hc,if_pos hc.symm,uZ,uZ p q,uZ p q]
       by_cases hx:(eO p q t.a t.b||eO p q t.b t.c||eO p q t.c t.a)=true
       · rw[hx,Bool.true_or,Bool.true_or]
       · have key:wth t.a t.b t.c p (iZ (dN t.a t.b t.c))↔wth t.a t.b t.c q (iZ (dN t.a t.b t.c)):=by
          simp only[ep,not_or] at hx;constructor
          · intro h
            refine Decidable.byContradiction fun k=>?_;rcases Xg hk hc.1 hc.2 h k with h | h | h
            · exact hx.1.1 h
            · exact hx.1.2 h
            · exact hx.2 h
          · intro h
            refine Decidable.byContradiction fun k=>?_;rcases Xg hk hc.2 hc.1 h k with h | h | h <;> rw[uZ] at h
            · exact hx.1.1 h
            · exact hx.1.2 h
            · exact hx.2 h
         rw[decide_eq_decide.2 key]
     · rw[if_neg hc,if_neg (fun k=>hc k.symm),Jd,Jd p q t.b,Jd p q t.c,am6]
 · rw[if_neg hk,if_neg hk,uZ]
theorem Sf(a b c:P3):dN b c a=dN a b c:=by
 refine P3.eq ?_ ?_ ?_ <;> (simp only[dN,P3.sub,P3.cross];grind)
theorem am7(a b c x:P3):mV b c a x=mV a b c x:=by
 unfold mV;rw[Sf];simp only[dN,P3.sub,P3.cross,P3.dot];grind
theorem ajk(a b c:P3):mY (mY b c) a=mY (mY a b) c:=by
 unfold mY;have t1:=lt_tri a b;have t2:=lt_tri b c;have t3:=lt_tri a c;by_cases h1:c.Lt b
 · by_cases h2:b.Lt a
   · rw[if_pos h1,if_pos h2,if_pos h1,if_neg (lt_asymm (P3.lt_trans h1 h2))]
   · rw[if_pos h1,if_neg h2]
     by_cases h3:c.Lt a
     · rw[if_pos h3,if_neg (lt_asymm h3)]
     · rw[if_neg h3]
       by_cases h4:a.Lt c
       · rw[if_pos h4]
       · rw[if_neg h4]
         rcases t3 with h | h | h
         · exact absurd h h4
         · exact h.symm
         · exact absurd h h3
 · rw[if_neg h1]
   by_cases h2:b.Lt a
   · rw[if_pos h2,if_neg h1,if_neg (lt_asymm h2)]
   · rw[if_neg h2]
     have h3:¬c.Lt a:=fun k=>by
      rcases t1 with h | h | h
      · exact h1 (P3.lt_trans k h)
      · exact h1 (h▸k)
      · exact h2 h
     rw[if_neg h3];by_cases h4:a.Lt b
     · rw[if_pos h4]
     · rw[if_neg h4]
       rcases t1 with h | h | h
       · exact absurd h h4
       · exact h.symm
       · exact absurd h h2
theorem ajl(a b c:P3):oC (oC b c) a=oC (oC a b) c:=by
 unfold oC;have t1:=lt_tri a b;have t3:=lt_tri a c;by_cases h1:c.Lt b
 · rw[if_pos h1]
   by_cases h2:b.Lt a
   · rw[if_neg (lt_asymm h2),if_pos h2,if_pos (P3.lt_trans h1 h2)]
   · rw[if_neg h2,if_pos h1]
     by_cases h3:a.Lt b
     · rw[if_pos h3]
     · rw[if_neg h3]
       rcases t1 with h | h | h
       · exact absurd h h3
       · exact h
       · exact absurd h h2
 · rw[if_neg h1]
   by_cases h2:b.Lt a
   · rw[if_pos h2]
     by_cases h3:c.Lt a
     · rw[if_pos h3,if_neg (lt_asymm h3)]
     · rw[if_neg h3]
       by_cases h4:a.Lt c
       · rw[if_pos h4]
       · rw[if_neg h4]
         rcases t3 with h | h | h
         · exact absurd h h4
         · exact h
         · exact absurd h h3
   · rw[if_neg h2,if_neg h1]
     by_cases h4:a.Lt c
     · rw[if_pos h4]
     · rw[if_neg h4]
       rcases t3 with h | h | h
       · exact absurd h h4
       · exact h
       · exact absurd h (fun k=>by
          rcases t1 with h | h | h
          · exact h1 (P3.lt_trans k h)
          · exact h1 (h▸k)
          · exact h2 h)
theorem ajm(x y z:Int):Sd y z x=Sd x y z:=by
 unfold Sd;cases decide (0≤x) <;> cases decide (0≤y) <;> cases decide (0≤z) <;> cases decide (x≤0) <;> cases decide (y≤0) <;> cases decide (z≤0) <;> rfl
theorem adU(p q a b c:P3):dG p q ⟨b,c,a⟩=dG p q ⟨a,b,c⟩:=by
 unfold dG;simp only[Sf,am7,ajk,ajl,ajm];have w:wth b c a p (iZ (dN a b c))↔wth a b c p (iZ (dN a b c)):=by
  unfold wth;omega
 rw[decide_eq_decide.2 w];cases eO p q a b <;> cases eO p q b c <;> cases eO p q c a <;> rfl
/-! ### Two places of a list -/
/-! ### A step -/
/-! ### The surfaces -/
def T3.mapP(f:P3→P3)(t:T3):T3:=⟨f t.a,f t.b,f t.c⟩
section
variable {f:P3→P3} {S:P3→Prop} {ts:List T3}
end
theorem Xh{ts:List T3}:(dR ts).any (Ie ts)=true↔∃e∈aX ts,∃j,1≤j∧j<vK (dS ts) e.1∧rF ts e.1 j e.2=some e.2:=by
 rw[pinned];refine exists_congr fun e=>?_;rw[Ry,Rv,Rx];refine and_congr Iff.rfl (exists_congr fun j=>?_);rw[Iv];constructor
 · rintro⟨h1,h2,h3⟩;exact⟨h1,by omega,h3⟩
 · rintro⟨h1,h2,h3⟩;exact⟨h1,by omega,h3⟩
theorem agR{ts:List T3}:fH true ts=0↔Xd ts∧(aX ts).Nodup∧¬∃e∈aX ts,∃j,1≤j∧j<vK (dS ts) e.1∧rF ts e.1 j e.2=some e.2:=by
 constructor
 · intro h
   obtain⟨h1,h2⟩:=abL h;refine⟨h1,h2,fun k=>?_⟩;have hp:=Xh.2 k;have hd:ts.any rX=false:=ju.2 fun t ht=>by rw[h1 t ht];exact fy
   have hn:=Is (es:=aX ts);rw[decide_eq_false (fun k=>k h2)] at hn;unfold fH at h;rw[hd,hn,hp] at h;simp at h
 · rintro⟨h1,h2,h3⟩
   have hp:(dR ts).any (Ie ts)=false:=by
    cases hh:(dR ts).any (Ie ts) with
    | false=>rfl
    | true=>exact absurd (Xh.1 hh) h3
   have hd:ts.any rX=false:=ju.2 fun t ht=>by rw[h1 t ht];exact fy
   have hn:=Is (es:=aX ts);rw[decide_eq_false (fun k=>k h2)] at hn;unfold fH;rw[hd,hn,hp];rfl
/-! ### An edge is divided -/
section
variable {f:P3→P3} {S:P3→Prop}
end
inductive Nw(N:P3→P3→Prop):P3→P3→Prop
 | refl (a:P3):Nw N a a
 | tail {a b c:P3} (h:Nw N a b) (s:N b c):Nw N a c
section
variable {N N':P3→P3→Prop} {a b c p q x0 y0:P3}
theorem Nw.one(h:N a b):Nw N a b:=.tail (.refl a) h
theorem Nw.trans(h:Nw N a b)(k:Nw N b c):Nw N a c:=by
 induction k with
 | refl=>exact h
 | tail _ s ih=>exact .tail ih s
def Cyc(N:P3→P3→Prop)(s:P3):Prop:=∃y,N s y∧Nw N y s
def adV(N:P3→P3→Prop):Prop:=∀s,Cyc N s→∀x y,N x y→Nw N s x
/-! ### A corner between two -/
/-! ### A corner in another's place -/
end
/-! ### The corners behind each other round a corner -/
def Nx(ts:List T3)(v x y:P3):Prop:=((v,x),y)∈kY ts
theorem Gu{ts:List T3}(hn:(aX ts).Nodup){v:P3}:Nx ts v x y↔bS ts v x=some y:=by
 constructor
 · intro h
   obtain⟨z,hz⟩:=Cn (show (v,x)∈aX ts by rw[←nD];exact dh.2 ⟨_,h,O⟩);rw[hz,Ru hn h (rD hz)]
 · exact rD
theorem adW{ts:List T3}(hn:(aX ts).Nodup){v b:P3}:Nw (Nx ts v) a b↔∃n,rF ts v n a=some b:=by
 constructor
 · intro h
   induction h with
   | refl=>exact⟨0,rfl⟩
   | tail _ s ih =>
    obtain⟨n,h⟩:=ih;exact⟨n+1,by rw[Co,h,ip];exact (Gu hn).1 s⟩
 · rintro⟨n,h⟩
   induction n generalizing b with
   | zero=>cases h;exact .refl _
   | succ n ih =>
    rw[Co] at h;obtain⟨c,hc,h⟩:=lw.1 h;exact .tail (ih hc) ((Gu hn).2 h)
theorem aoX{P:Nat→Prop}:∀n,P n→∃m,P m∧∀k,k<m→¬P k:=by
 intro n
 induction n using p_ with
 | _ n ih =>
  intro h;by_cases k:∃m,m<n∧P m
  · obtain⟨m,hm,hp⟩:=k
    exact ih m hm hp
  · exact⟨n,h,fun m hm hp=>k ⟨m,hm,hp⟩⟩
def Je(ts:List T3)(v:P3):List P3:=((aX ts).filter fun e=>decide (e.1=v)).map (·.2)
theorem Jf{ts:List T3}{v:P3}:x∈Je ts v↔(v,x)∈aX ts:=by
 unfold Je;rw[dh];constructor
 · rintro⟨e,he,rfl⟩
   obtain⟨h1,h2⟩:=dw.1 he;rw[←of_decide_eq_true h2];exact h1
 · exact fun h=>⟨(v,x),dw.2 ⟨h,decide_eq_true O⟩,O⟩
theorem adX{ts:List T3}{v:P3}(hn:(aX ts).Nodup):(Je ts v).Nodup:=by
 unfold Je;rw[List.Nodup,lk];refine (hn.sublist List.filter_sublist).imp_of_mem fun {a b} ha hb hne e=>hne ?_;have h1:=of_decide_eq_true (dw.1 ha).2;have h2:=of_decide_eq_true (dw.1 hb).2;exact oe (h1.trans h2.symm) e
theorem ajn:∀ts:List T3,(aX ts).map (·.1)=dS ts:=by
 intro ts;unfold aX dS;rw[List.map_flatMap];rfl
theorem abP(ts:List T3)(v:P3):(Je ts v).length=vK (dS ts) v:=by
 rw[←ajn];unfold Je vK;rw[bx,List.filter_map,bx];rfl
theorem full{S E:List P3}(hS:S.Nodup)(hs:∀x∈S,x∈E)(hl:E.length≤S.length):∀x∈E,x∈S:=fun x hx=>by
 refine Decidable.byContradiction fun hn=>?_;have h1:S.length≤(E.erase x).length:=Gs hS fun y hy=>by
  have hne:y≠x:=fun e=>hn (e▸hy);exact (List.mem_erase_of_ne hne).2 (hs y hy)
 rw[List.length_erase_of_mem hx] at h1;have:0<E.length:=List.length_pos_of_mem hx;omega
theorem adY{ts:List T3}{v b:P3}(h:rF ts v i a=some b):rF ts v (i+j) a=rF ts v j b:=by rw[aae,h,ip]
theorem aqe{ts:List T3}{v:P3}(h1:1≤j)(h:rF ts v j s=some s):∀n,rF ts v n s=rF ts v (n%j) s:=fun n=>by
 induction n using p_ with
 | _ n ih =>
  rcases eu n j with hl | hl
  · rw[kn hl]
  · have e:n=j+(n-j):=by omega
    rw[e,adY h,ih (n-j) (by omega),Nat.add_mod_left]
theorem abQ{ts:List T3}(hn:(aX ts).Nodup){v s:P3}{j:Nat}(hm:∀k,1≤k→k<j→rF ts v k s≠some s):∀(i k:Nat) (x:P3),i<k→k<j→rF ts v i s=some x→rF ts v k s≠some x
 | 0,k,x,hik,hk,h,h2=>by cases h;exact hm k (by omega) hk h2
 | i+1,k,x,hik,hk,h,h2=>by
  obtain⟨m,rfl⟩:∃m,k=m+1:=⟨k-1,by omega⟩
  rw[Co] at h h2;obtain⟨y,hy,hy'⟩:=lw.1 h;obtain⟨z,hz,hz'⟩:=lw.1 h2;obtain rfl:=adI hn hy' hz';exact abQ hn hm i m y (by omega) (by omega) hy hz
theorem afw{ts:List T3}{v b:P3}(hij:i≤j)(h:rF ts v j a=some b):∃y,rF ts v i a=some y:=by
 have e:j=i+(j-i):=by omega
 rw[e,aae] at h;obtain⟨y,hy,_⟩:=lw.1 h;exact⟨y,hy⟩
theorem Xi{ts:List T3}(hn:(aX ts).Nodup){v s:P3}{j:Nat}(h1:1≤j)(h:rF ts v j s=some s)(hm:∀k,1≤k→k<j→rF ts v k s≠some s) :
 ∃L:List P3,L.Nodup∧L.length=j∧(∀x∈L,x∈Je ts v)∧∀x,x∈L↔Nw (Nx ts v) s x:=by
 have get:∀i,i≤j→∃y,rF ts v i s=some y:=fun i hi=>afw hi h;refine⟨(df j).map fun i=>(rF ts v i s).getD s,?_,by rw[bx,List.length_range],fun x hx=>?_,fun x=>?_⟩
 · rw[List.Nodup,lk]
   refine (List.pairwise_lt_range (n:=j)).imp_of_mem fun {a b} ha hb hab e=>?_;have hb':=gn.1 hb;obtain⟨y,hy⟩:=get a (by omega);obtain⟨z,hz⟩:=get b (by omega);rw[hy,hz] at e;obtain rfl:y=z:=e;exact abQ hn hm a b y hab hb' hy hz
 · obtain⟨i,hi,rfl⟩:=dh.1 hx
   have hi':=gn.1 hi;obtain⟨y,hy⟩:=get i (by omega);obtain⟨z,hz⟩:=get (i+1) (by omega);rw[Co,hy,ip] at hz;rw[hy];exact Jf.2 (vV hz)
 · rw[adW hn,dh]
   constructor
   · rintro⟨i,hi,rfl⟩
     obtain⟨y,hy⟩:=get i (by have:=gn.1 hi;omega);exact⟨i,by rw[hy];rfl⟩
   · rintro⟨n,hx⟩
     rw[aqe h1 h] at hx;exact⟨n%j,gn.2 (ji _ (by omega)),by rw[hx];rfl⟩
theorem Xj{ts:List T3}(hn:(aX ts).Nodup):(¬∃e∈aX ts,∃j,1≤j∧j<vK (dS ts) e.1∧rF ts e.1 j e.2=some e.2)↔∀v,adV (Nx ts v):=by
 constructor
 · rintro hno v s ⟨y,hy,hr⟩ x z hx
   obtain⟨n,hr⟩:=(adW hn).1 hr;have h0:rF ts v (1+n) s=some s:=by rw[adY (b:=y) (by rw[rF,(Gu hn).1 hy];rfl)];exact hr
   obtain⟨j,⟨hj1,hj⟩,hm⟩:=aoX (P:=fun k=>1≤k∧rF ts v k s=some s) (1+n) ⟨by omega,h0⟩;obtain⟨L,hL1,hL2,hL3,hL4⟩:=Xi hn hj1 hj (fun k h1 h2 h3=>hm k h2 ⟨h1,h3⟩);have hge:vK (dS ts) v≤j:=by
    refine io fun hlt=>hno ⟨(v,s),vV ((Gu hn).1 hy),j,hj1,hlt,hj⟩
   exact (hL4 x).1 (full hL1 hL3 (by rw[hL2,abP];exact hge) x (Jf.2 (vV ((Gu hn).1 hx))))
 · rintro hall ⟨⟨v,s⟩,he,j0,h1,h2,h3⟩
   simp only at h2 h3;obtain⟨j,⟨hj1,hj⟩,hm⟩:=aoX (P:=fun k=>1≤k∧rF ts v k s=some s) j0 ⟨h1,h3⟩;have hjj:j≤j0:=io fun hlt=>hm j0 hlt ⟨h1,h3⟩;obtain⟨L,hL1,hL2,hL3,hL4⟩:=Xi hn hj1 hj (fun k h1 h2 h3=>hm k h2 ⟨h1,h3⟩);have hcyc:Cyc (Nx ts v) s:=by
    obtain⟨y,hy⟩:=afw (i:=1) hj1 hj;have hy':bS ts v s=some y:=by
     rw[rF] at hy;cases hb:bS ts v s with
     | none=>rw[hb] at hy;cases hy
     | some w=>rw[hb] at hy;exact hy
    refine⟨y,(Gu hn).2 hy',(adW hn).2 ⟨j-1,?_⟩⟩;have e:j=1+(j-1):=by omega
    rw[e,adY hy] at hj;exact hj
   have hle:(Je ts v).length≤L.length:=Gs (adX hn) fun x hx=>by
    obtain⟨y,hy⟩:=Cn (Jf.1 hx);exact (hL4 x).2 (hall v s hcyc x y ((Gu hn).2 hy))
   rw[abP,hL2] at hle;omega
theorem vY{ts:List T3}:fH true ts=0↔Xd ts∧(aX ts).Nodup∧∀v,adV (Nx ts v):=by
 rw[agR];constructor
 · rintro⟨h1,h2,h3⟩;exact⟨h1,h2,(Xj h2).1 h3⟩
 · rintro⟨h1,h2,h3⟩;exact⟨h1,h2,(Xj h2).2 h3⟩
/-! ### Images -/
theorem Gv{t:T3}:t.nd=true↔t.a≠t.b∧t.b≠t.c∧t.c≠t.a:=by
 unfold T3.nd;simp only[be,decide_eq_true_eq,and_assoc]
theorem aoY{t:T3}:t.nd=false↔t.a=t.b∨t.b=t.c∨t.c=t.a:=by
 cases h:t.nd with
 | true =>
  obtain⟨h1,h2,h3⟩:=Gv.1 h;exact⟨fun k=>(by cases k),fun k=>k.elim (fun k=>absurd k h1) fun k=>k.elim (fun k=>absurd k h2) fun k=>absurd k h3⟩
 | false =>
  refine⟨fun _=>?_,fun _=>rfl⟩;by_cases h1:t.a=t.b
  · exact .inl h1
  · by_cases h2:t.b=t.c
    · exact .inr (.inl h2)
    · refine .inr (.inr (Decidable.byContradiction fun h3=>?_))
      rw[Gv.2 ⟨h1,h2,h3⟩] at h;cases h
theorem kU(t:T3):adP t (dL t):=by
 unfold dL;split
 · exact .inr (.inr O)
 · split
   · exact .inr (.inl O)
   · exact .inl O
theorem agS{t u:T3}(f:P3→P3)(h:adP t u):adP (t.mapP f) (u.mapP f):=by
 rcases h with rfl | rfl | rfl
 · exact .inl O
 · exact .inr (.inl O)
 · exact .inr (.inr O)
/-! ### What holds of both -/
theorem xK{ts:List T3}{t:T3}(ht:t∈ts)(h:t.has x=true):x∈dS ts:=abN.2 ⟨t,ht,mR.1 h⟩
/-! ### One step -/
def Gw(p a x:P3):P3:=if x=p then a else x
theorem asF{p:P3}:Gw p a p=a:=if_pos rfl
theorem asG{p:P3}(h:x≠p):Gw p a x=x:=if_neg h
section
variable {p a:P3} {X:E3→Prop} {old new R us us':List T3}
end
/-! ### The corners round a corner,in a step -/
theorem Sg{u:T3}{v:P3}:((v,x),y)∈aje u↔(v=u.a∧x=u.b∧y=u.c)∨(v=u.b∧x=u.c∧y=u.a)∨(v=u.c∧x=u.a∧y=u.b):=by
 simp only[aje,an,cg,or_false,ft,and_assoc]
theorem abR{t u:T3}(h:adP t u){x:E3 × P3}:x∈aje u↔x∈aje t:=by
 obtain⟨⟨v,w⟩,y⟩:=x;rw[Sg,Sg];rcases h with rfl | rfl | rfl
 · exact Iff.rfl
 · exact⟨fun h=>h.elim (fun h=>.inr (.inl h)) fun h=>h.elim (fun h=>.inr (.inr h)) .inl,fun h=>h.elim (fun h=>.inr (.inr h)) fun h=>h.elim .inl fun h=>.inr (.inl h)⟩
 · exact⟨fun h=>h.elim (fun h=>.inr (.inr h)) fun h=>h.elim .inl fun h=>.inr (.inl h),fun h=>h.elim (fun h=>.inr (.inl h)) fun h=>h.elim (fun h=>.inr (.inr h)) .inl⟩
theorem am8{us vs:List T3}(h:us.Perm vs){v:P3}:Nx us v x y↔Nx vs v x y:=adQ h
theorem El{us:List T3}{v:P3}(h:Nx us v x y):(v,x)∈aX us:=by rw[←nD];exact dh.2 ⟨_,h,rfl⟩
def fV(t:T3):Bool:=decide (¬iZ (dN t.a t.b t.c)<3)
def mW(s t:T3):List P3:=[s.a,s.b,s.c].filter fun p=>t.has p
def sV(s t:T3):List P3:=[s.a,s.b,s.c].filter fun p=>!t.has p
def vL(s t:T3):Bool:=dG s.a s.b t||dG s.b s.c t||dG s.c s.a t
def sgE(u v:P3):Bool:=decide (bA u.x=bA v.x∧bA u.y=bA v.y∧bA u.z=bA v.z)
def nW(s t:T3):List P3→List P3→List P3→Bool
 | [_],[u,x],[v,y]=>dG u x t||dG v y s
 | [a,b],[u],[v]=>decide (mV a b u v=0)&&sgE (dN a b u) (dN a b v)
 | _,_,_=>true
def mS(s t:T3):Bool :=
 if (mW s t).length=0∨fV s=true∨fV t=true then vL s t||vL t s else nW s t (mW s t) (sV s t) (sV t s)
def sB(t:T3):T3:=⟨t.b,t.c,t.a⟩
theorem Xk(t:T3)(p:P3):(sB t).has p=t.has p:=by
 rw[Bool.eq_iff_iff,mR,mR];show p=t.b∨p=t.c∨p=t.a↔_
 constructor
 · rintro (h | h | h)
   · exact .inr (.inl h)
   · exact .inr (.inr h)
   · exact .inl h
 · rintro (h | h | h)
   · exact .inr (.inr h)
   · exact .inl h
   · exact .inr (.inl h)
theorem Sh(t:T3):fV (sB t)=fV t:=by unfold fV sB;simp only[Sf]
theorem Xl(s t:T3):vL (sB s) t=vL s t:=by
 unfold vL sB;simp only;cases dG s.a s.b t <;> cases dG s.b s.c t <;> cases dG s.c s.a t <;> rfl
theorem sC(p q:P3)(t:T3):dG p q (sB t)=dG p q t:=adU p q t.a t.b t.c
theorem Xm(s t:T3):vL s (sB t)=vL s t:=by unfold vL;rw[sC,sC,sC]
theorem aqf(u v:P3):sgE (Lw u) (Lw v)=sgE u v:=by
 have e:∀a b:Int,bA (-a)=bA (-b)↔bA a=bA b:=fun a b=>by
  unfold bA;split <;> split <;> (try split) <;> (try split) <;> (try split) <;> (try split) <;> omega
 unfold sgE Lw;simp only[e]
theorem am9(u v:P3):sgE u v=sgE v u:=decide_eq_decide.2 ⟨fun⟨h1,h2,h3⟩=>⟨h1.symm,h2.symm,h3.symm⟩,fun⟨h1,h2,h3⟩=>⟨h1.symm,h2.symm,h3.symm⟩⟩
theorem ajo(s t:T3)(b u v:List P3):nW (sB s) t b u v=nW s t b u v:=by
 unfold nW;split <;> simp only[sC]
theorem ajp(s t:T3)(b u v:List P3):nW s (sB t) b u v=nW s t b u v:=by
 unfold nW;split <;> simp only[sC]
theorem ajq(s t:T3)(x u y:P3)(V:List P3):nW s t [x] [y,u] V=nW s t [x] [u,y] V:=by
 rcases V with _ | ⟨v,_ | ⟨z,_ | ⟨_,_⟩⟩⟩
 · rfl
 · rfl
 · show (dG y u t||_)=(dG u y t||_);rw[Se]
 · rfl
theorem afx(s t:T3)(b U:List P3)(v z:P3):nW s t b U [z,v]=nW s t b U [v,z]:=by
 rcases b with _ | ⟨x,_ | ⟨y,_ | ⟨_,_⟩⟩⟩
 · rfl
 · rcases U with _ | ⟨u,_ | ⟨w,_ | ⟨_,_⟩⟩⟩
   · rfl
   · rfl
   · show (_||dG z v s)=(_||dG v z s);rw[Se v z s]
   · rfl
 · rcases U with _ | ⟨u,_ | ⟨_,_⟩⟩ <;> rfl
 · rfl
theorem adZ(s t:T3)(x y u:P3)(V:List P3):nW s t [y,x] [u] V=nW s t [x,y] [u] V:=by
 rcases V with _ | ⟨v,_ | ⟨_,_⟩⟩
 · rfl
 · show (decide (mV y x u v=0)&&sgE (dN y x u) (dN y x v))=(decide (mV x y u v=0)&&sgE (dN x y u) (dN x y v))
   rw[Jd,Jc,Jc x y v,aqf];simp only[la]
 · rfl
theorem Si(s t:T3):mW s t=(if t.has s.a then [s.a] else [])++((if t.has s.b then [s.b] else [])++if t.has s.c then [s.c] else []):=by
 unfold mW;simp only[ib,nu];cases t.has s.a <;> cases t.has s.b <;> cases t.has s.c <;> rfl
theorem Sj(s t:T3):sV s t=(if t.has s.a then [] else [s.a])++((if t.has s.b then [] else [s.b])++if t.has s.c then [] else [s.c]):=by
 unfold sV;simp only[ib,nu];cases t.has s.a <;> cases t.has s.b <;> cases t.has s.c <;> rfl
theorem Xn(s t:T3):sV s (sB t)=sV s t:=by unfold sV;simp only[Xk]
theorem agT(s t:T3):mW s (sB t)=mW s t:=by unfold mW;simp only[Xk]
theorem Lx(s t:T3):mS (sB s) t=mS s t:=by
 have hl:(mW (sB s) t).length=(mW s t).length:=by
  rw[Si,Si];show ((if t.has s.b then [s.b] else [])++((if t.has s.c then [s.c] else [])++if t.has s.a then [s.a] else [])).length=_
  cases t.has s.a <;> cases t.has s.b <;> cases t.has s.c <;> rfl
 unfold mS;rw[hl,Sh,Xl,Xm,Xn,ajo];by_cases h:(mW s t).length=0∨fV s=true∨fV t=true
 · rw[if_pos h,if_pos h]
 · rw[if_neg h,if_neg h,Si,Si,Sj,Sj s]
   show nW s t ((if t.has s.b then [s.b] else [])++((if t.has s.c then [s.c] else [])++if t.has s.a then [s.a] else [])) ((if t.has s.b then [] else [s.b])++((if t.has s.c then [] else [s.c])++if t.has s.a then [] else [s.a])) _=_
   cases t.has s.a <;> cases t.has s.b <;> cases t.has s.c
   · rfl
   · exact ajq ..
   · exact ajq ..
   · rfl
   · rfl
   · exact adZ ..
   · exact adZ ..
   · rfl
theorem Gx(s t:T3):mS s (sB t)=mS s t:=by
 unfold mS;rw[agT,Sh,Xl,Xm,Xn,ajp];by_cases h:(mW s t).length=0∨fV s=true∨fV t=true
 · rw[if_pos h,if_pos h]
 · rw[if_neg h,if_neg h,Sj (sB t),Sj t]
   show nW s t _ _ ((if s.has t.b then [] else [t.b])++((if s.has t.c then [] else [t.c])++if s.has t.a then [] else [t.a]))=_
   cases s.has t.a <;> cases s.has t.b <;> cases s.has t.c
   · rcases mW s t with _ | ⟨x,_ | ⟨y,_ | ⟨_,_⟩⟩⟩ <;> rcases sV s t with _ | ⟨u,_ | ⟨w,_ | ⟨_,_⟩⟩⟩ <;> rfl
   · exact afx ..
   · exact afx ..
   · rfl
   · rfl
   · rfl
   · rfl
   · rfl
theorem ana(a b u v:P3):mV a b v u = -mV a b u v:=by
 simp only[mV,dN,P3.sub,P3.cross,P3.dot];grind
theorem anb(s t:T3){L1 L2:List P3}(U V:List P3)(h:L1.Perm L2):nW s t L1 U V=nW t s L2 V U:=by
 have two:∀(x y:P3),nW s t [x,y] U V=nW t s [x,y] V U:=fun x y=>by
  rcases U with _ | ⟨u,_ | ⟨_,_⟩⟩ <;> rcases V with _ | ⟨v,_ | ⟨_,_⟩⟩ <;> try rfl
  show (decide (mV x y u v=0)&&sgE (dN x y u) (dN x y v))=(decide (mV x y v u=0)&&sgE (dN x y v) (dN x y u))
  rw[ana x y u v,am9];simp only[la]
 rcases L1 with _ | ⟨x,_ | ⟨y,_ | ⟨z,l⟩⟩⟩
 · obtain rfl:=h.symm.eq_nil;rfl
 · rw[pb.1 h.symm]
   rcases U with _ | ⟨u,_ | ⟨w,_ | ⟨_,_⟩⟩⟩ <;> rcases V with _ | ⟨v,_ | ⟨z,_ | ⟨_,_⟩⟩⟩ <;> try rfl
   show (dG u w t||dG v z s)=(dG v z s||dG u w t)
   rw[px]
 · have hl:=h.length_eq
   rcases L2 with _ | ⟨p,_ | ⟨q,_ | ⟨_,_⟩⟩⟩ <;> simp only[av,bv] at hl <;> try omega
   have hp:p∈[x,y]:=h.symm.subset (bm ..);rcases an.1 hp with e | e
   · subst e
     have:=pb.1 ((om p).1 h).symm;rw[this];exact two p y
   · obtain rfl:=bf.1 e
     have h2:[p,x].Perm [p,q]:=(List.Perm.swap x p []).trans h;have:=pb.1 ((om p).1 h2).symm;rw[this,two x p];rcases V with _ | ⟨v,_ | ⟨_,_⟩⟩
     · rfl
     · exact (adZ t s x p v U).symm
     · rfl
 · have hl:=h.length_eq
   rcases L2 with _ | ⟨p,_ | ⟨q,_ | ⟨r,m⟩⟩⟩ <;> simp only[av,bv] at hl <;> try omega
   rfl
theorem Xo{t:T3}(h:t.nd=true):[t.a,t.b,t.c].Nodup:=by
 obtain⟨h1,h2,h3⟩:=Gv.1 h;simp only[gt,an,cg,or_false,not_or,not_false_eq_true,List.nodup_nil,and_true];exact⟨⟨h1,h3.symm⟩,h2⟩
theorem abS{s t:T3}(hs:s.nd=true)(ht:t.nd=true):(mW s t).Perm (mW t s):=by
 refine (List.perm_ext_iff_of_nodup ((Xo hs).filter _) ((Xo ht).filter _)).2 fun p=>?_;rw[dw,dw,mR,mR];simp only[an,cg,or_false];exact and_comm
theorem agU{s t:T3}(hs:s.nd=true)(ht:t.nd=true):mS s t=mS t s:=by
 have hp:=abS hs ht;unfold mS;rw[hp.length_eq,px (vL t s),anb s t _ _ hp];have e:((mW t s).length=0∨fV s=true∨fV t=true)↔((mW t s).length=0∨fV t=true∨fV s=true):=or_congr Iff.rfl or_comm;by_cases h:(mW t s).length=0∨fV s=true∨fV t=true
 · rw[if_pos h,if_pos (e.1 h)]
 · rw[if_neg h,if_neg (fun k=>h (e.2 k))]
def T3.Lt(s t:T3):Prop:=s.a.Lt t.a∨s.a=t.a∧(s.b.Lt t.b∨s.b=t.b∧s.c.Lt t.c)
variable{t:T3}{l:List T3}
instance (s t:T3):Decidable (s.Lt t):=by unfold T3.Lt;infer_instance
theorem T3.lt_irrefl(s:T3):¬s.Lt s:=fun h=>by
 rcases h with h | ⟨_,h | ⟨_,h⟩⟩ <;> exact P3.lt_irrefl _ h
theorem T3.lt_trans{s u:T3}(h:s.Lt t)(k:t.Lt u):s.Lt u:=by
 rcases h with h | ⟨e,h | ⟨f,h⟩⟩ <;> rcases k with k | ⟨e2,k | ⟨f2,k⟩⟩
 · exact .inl (P3.lt_trans h k)
 · exact .inl (e2▸h)
 · exact .inl (e2▸h)
 · exact .inl (e▸k)
 · exact .inr ⟨e.trans e2,.inl (P3.lt_trans h k)⟩
 · exact .inr ⟨e.trans e2,.inl (f2▸h)⟩
 · exact .inl (e▸k)
 · exact .inr ⟨e.trans e2,.inl (f▸k)⟩
 · exact .inr ⟨e.trans e2,.inr ⟨f.trans f2,P3.lt_trans h k⟩⟩
theorem T3.lt_tri(s t:T3):s.Lt t∨s=t∨t.Lt s:=by
 rcases Go.Lith.lt_tri s.a t.a with h | h | h
 · exact .inl (.inl h)
 · rcases Go.Lith.lt_tri s.b t.b with k | k | k
   · exact .inl (.inr ⟨h,.inl k⟩)
   · rcases Go.Lith.lt_tri s.c t.c with l | l | l
     · exact .inl (.inr ⟨h,.inr ⟨k,l⟩⟩)
     · exact .inr (.inl (Rz h k l))
     · exact .inr (.inr (.inr ⟨h.symm,.inr ⟨k.symm,l⟩⟩))
   · exact .inr (.inr (.inr ⟨h.symm,.inl k⟩))
 · exact .inr (.inr (.inl h))
def vA(s t:T3):Prop:=¬t.Lt s
theorem Ny{s u:T3}(h:vA s t)(k:vA t u):vA s u:=fun l=>by
 rcases T3.lt_tri s t with e | e | e
 · exact k (T3.lt_trans l e)
 · exact k (e▸l)
 · exact h e
theorem ad0{s:T3}(h:vA s t)(k:vA t s):s=t:=by
 rcases T3.lt_tri s t with e | e | e
 · exact absurd e k
 · exact e
 · exact absurd e h
def agV(t:T3):List T3→List T3
 | []=>[t]
 | u::l=>if u.Lt t then u::agV t l else t::u::l
def vZ:List T3→List T3
 | []=>[]
 | t::l=>agV t (vZ l)
def cS(l:List T3):List T3:=vZ (l.map dL)
theorem Sk(t:T3):∀l:List T3,(agV t l).Perm (t::l)
 | []=>.refl _
 | u::l=>by
  rw[agV];split
  · exact ((Sk t l).cons u).trans (.swap ..)
  · exact .refl _
theorem uD:∀l:List T3,(vZ l).Perm l
 | []=>.refl _
 | t::l=>(Sk t _).trans ((uD l).cons t)
theorem Sl(t:T3):∀l:List T3,l.Pairwise vA→(agV t l).Pairwise vA
 | [],_=>kh _ _
 | u::l,h=>by
  rw[agV];obtain⟨h1,h2⟩:=bt.1 h;split
  · rename_i k
    refine bt.2 ⟨fun x hx=>?_,Sl t l h2⟩;rcases an.1 ((Sk t l).subset hx) with rfl | hx
    · exact fun k2=>T3.lt_irrefl _ (T3.lt_trans k k2)
    · exact h1 x hx
  · rename_i k
    refine bt.2 ⟨fun x hx=>?_,h⟩;rcases an.1 hx with rfl | hx
    · exact k
    · exact Ny k (h1 x hx)
theorem sD:∀l:List T3,(vZ l).Pairwise vA
 | []=>List.Pairwise.nil
 | t::l=>Sl t _ (sD l)
theorem wA:∀{l m:List T3},l.Perm m→l.Pairwise vA→m.Pairwise vA→l=m
 | [],m,h,_,_=>h.symm.eq_nil.symm
 | s::l,[],h,_,_=>by have:=h.length_eq;simp at this
 | s::l,t::m,h,h1,h2=>by
  obtain⟨a1,a2⟩:=bt.1 h1;obtain⟨b1,b2⟩:=bt.1 h2;have e:s=t:=by
   have hs:s∈t::m:=h.subset (bm ..);have ht:t∈s::l:=h.symm.subset (bm ..);rcases an.1 hs with e | hs
   · exact e
   · rcases an.1 ht with e | ht
     · exact e.symm
     · exact ad0 (a1 t ht) (b1 s hs)
  subst e;rw[wA ((om s).1 h) a2 b2]
theorem lY(l:List T3):(cS l).Perm (l.map dL):=uD _
theorem yX(l:List T3):(cS l).Pairwise vA:=sD _
theorem ajr{m:List T3}(h:m.Perm (l.map dL))(hs:m.Pairwise vA):m=cS l:=wA (h.trans (lY l).symm) hs (yX l)
theorem abT{m:List T3}(h:(l.map dL).Perm (m.map dL)):cS l=cS m:=wA ((lY l).trans (h.trans (lY m).symm)) (yX l) (yX m)
def tX(u v:P3)(t:T3):T3:=t.mapP (Gw u v)
def yY(u v:P3)(l:List T3):List T3:=(l.map (tX u v)).filter T3.nd
def yZ(l:List T3)(u v:P3):List T3:=cS (yY u v l)
def mC(u v:P3)(l:List T3):List T3:=l.filter fun t=>!decide (tX u v t=t)&&(tX u v t).nd
def kC(u v:P3)(l:List T3):List T3:=(mC u v l).map (tX u v)
def nO(u v:P3)(l:List T3):List T3:=l.filter fun t=>decide (tX u v t=t)
def nbB(l:List T3)(p q:P3):Bool:=decide (q≠p)&&ajc l p q
def nbL(l:List T3)(p:P3):List P3:=(dR l).filter (nbB l p)
def agW(p:P3):List P3→List P3
 | []=>[p]
 | q::l=>if q.Lt p then q::agW p l else p::q::l
def Ba:List P3→List P3
 | []=>[]
 | p::l=>agW p (Ba l)
def Sn(t:T3):List P3:=Ba [t.a,t.b,t.c]
def Em(t:T3)(k:Nat):Int:=min (min (bH t.a k) (bH t.b k)) (bH t.c k)
def En(t:T3)(k:Nat):Int:=max (max (bH t.a k) (bH t.b k)) (bH t.c k)
def abU(s t:T3)(k:Nat):Bool:=decide (En s k<Em t k)||decide (En t k<Em s k)
def oM(s t:T3):Bool:=!abU s t 0 && !abU s t 1 && !abU s t 2
def tC(t s:T3):Bool:=oM t s&&mS s t
def agX(s t:T3):Int:=bA ((dN s.a s.b s.c).dot (dN t.a t.b t.c))
def zW(l:List T3)(u v:P3):Bool:=nbB l u v && !onB (cN l) u
def Jg(l:List T3)(u v:P3):Bool:=decide (((nbL l u).filter (nbB l v)).length=2)
def Pi(l:List T3)(u v:P3):Bool:=decide (((kC u v l++nO u v l).map Sn).Nodup)
def So(l:List T3)(u v:P3):Bool:=!onB (cN l) v||(nbL l u).all fun p=>decide (p=v) || !onB (cN l) p||nbB l v p
def Cs(l:List T3)(u v:P3):Bool:=(mC u v l).all fun t=>!fV (tX u v t)&&decide (agX t (tX u v t)=1)
def Cu(l:List T3)(u v:P3):Bool:=(kC u v l).zipIdx.all fun x=>!(nO u v l).any (tC x.1) && !((kC u v l).take x.2).any (tC x.1)
def dC(l:List T3)(u v:P3):Bool:=zW l u v&&Jg l u v&&Pi l u v&&So l u v&&Cs l u v&&Cu l u v
theorem aah{p:P3}:nbB l p q=true↔q≠p∧ajc l p q=true:=by
 unfold nbB;rw[be,decide_eq_true_eq]
theorem Jh{p:P3}:q∈nbL l p↔nbB l p q=true:=by
 unfold nbL;rw[dw,vW];refine⟨fun h=>h.2,fun h=>⟨?_,h⟩⟩;obtain⟨t,ht,_,hq⟩:=Iy.1 (aah.1 h).2;exact xK ht hq
theorem anc{v:P3}(l:List T3):∀t∈yY u v l,t.nd=true:=fun t h=>(dw.1 h).2
theorem Sq{u v:P3}:∀l:List T3,(∀t∈l,t.nd=true)→(kC u v l++nO u v l).Perm (yY u v l)
 | [],_=>.refl _
 | t::l,h=>by
  have ih:=Sq (u:=u) (v:=v) l fun x hx=>h x (bg _ hx);have hd:=h t (bm ..);unfold kC mC nO yY at ih ⊢;simp only[ib,bj];by_cases e:tX u v t=t
  · rw[e,hd]
    simp only[decide_true,Bool.not_true,Bool.false_and,me,if_false,if_true];exact List.perm_middle.trans (ih.cons t)
  · simp only[e,decide_false,Bool.not_false,Bool.true_and,me,if_false]
    split
    · rw[bj,cn];exact ih.cons _
    · exact ih
theorem aqg(t:T3):(dL t).nd=t.nd:=(afu (kU t))
theorem abV(h:∀t∈l,t.nd=true):∀t∈cS l,t.nd=true:=fun t ht=>by
 obtain⟨s,hs,rfl⟩:=dh.1 ((lY l).mem_iff.1 ht);rw[aqg];exact h s hs
theorem ajs(l:List T3)(u v:P3):∀t∈yZ l u v,t.nd=true:=abV (anc l)
theorem nP(l:List T3):(cS l).length=l.length:=by rw[(lY l).length_eq,bx]
theorem ajt{v:P3}(h:zW l u v=true):(yZ l u v).length<l.length:=by
 have hj:=(Bool.and_eq_true_iff.1 h).1;obtain⟨hne,he⟩:=aah.1 hj;obtain⟨t,ht,h1,h2⟩:=Iy.1 he;unfold yZ;rw[nP];unfold yY;have hn:(tX u v t).nd=false:=by
  rw[aoY];rw[mR] at h1 h2;unfold tX T3.mapP Gw;simp only
  grind
 have hm:tX u v t∈l.map (tX u v):=List.mem_map_of_mem ht;have:=List.length_filter_lt_length_iff_exists (p:=T3.nd) (l:=l.map (tX u v)) |>.2 ⟨_,hm,by rw[hn];exact fy⟩
 rwa [bx] at this
theorem afy(u v:P3)(l:List T3):(yY u v l).length≤l.length:=by
 have:=List.length_filter_le T3.nd (l.map (tX u v));rwa [bx] at this
def Fc(a b:List Int):List Int:=List.zipWith (· + ·) a b
def q0:List Int:=[0,0,0,0,0,0,0,0,0,0]
def qPr(a b c d:Int):List Int:=[a*a,2*(a*b),2*(a*c),2*(a*d),b*b,2*(b*c),2*(b*d),c*c,2*(c*d),d*d]
def qOf(t:T3):List Int:=qPr (dN t.a t.b t.c).x (dN t.a t.b t.c).y (dN t.a t.b t.c).z (-((dN t.a t.b t.c).dot t.a))
def asH(q:List Int)(x y z:Int):Int:=match q with
 | [a,b,c,d,e,f,g,h,i,j]=>a*(x*x)+b*(x*y)+c*(x*z)+d*x+e*(y*y)+f*(y*z)+g*y+h*(z*z)+i*z+j
 | _=>0
def qAt(q:List Int)(p:P3):Int:=asH q p.x p.y p.z
def wP(l:List T3)(p:P3):List Int:=(l.filter fun t=>t.has p).foldl (fun s t=>Fc s (qOf t)) q0
structure lT where
 u:P3
 v:P3
 c:Int
def lT.Lt(a b:lT):Prop:=a.c<b.c∨a.c=b.c∧(a.u.Lt b.u∨a.u=b.u∧a.v.Lt b.v)
variable{c:lT}
instance (a b:lT):Decidable (a.Lt b):=by unfold lT.Lt;infer_instance
theorem lT.ext' {a b:lT}(h1:a.u=b.u)(h2:a.v=b.v)(h3:a.c=b.c):a=b:=by
 obtain⟨u,v,c⟩:=a;obtain⟨u',v',c'⟩:=b;simp only at h1 h2 h3;rw[h1,h2,h3]
theorem lT.lt_irrefl(a:lT):¬a.Lt a:=fun h=>by
 rcases h with h | ⟨_,h | ⟨_,h⟩⟩
 · omega
 · exact P3.lt_irrefl _ h
 · exact P3.lt_irrefl _ h
theorem lT.lt_trans{a b:lT}(h:a.Lt b)(k:b.Lt c):a.Lt c:=by
 rcases h with h | ⟨e,h | ⟨f,h⟩⟩ <;> rcases k with k | ⟨e2,k | ⟨f2,k⟩⟩
 · exact .inl (by omega)
 · exact .inl (by omega)
 · exact .inl (by omega)
 · exact .inl (by omega)
 · exact .inr ⟨e.trans e2,.inl (P3.lt_trans h k)⟩
 · exact .inr ⟨e.trans e2,.inl (f2▸h)⟩
 · exact .inl (by omega)
 · exact .inr ⟨e.trans e2,.inl (f▸k)⟩
 · exact .inr ⟨e.trans e2,.inr ⟨f.trans f2,P3.lt_trans h k⟩⟩
theorem lT.lt_tri(a b:lT):a.Lt b∨a=b∨b.Lt a:=by
 rcases Int.lt_trichotomy a.c b.c with h | h | h
 · exact .inl (.inl h)
 · rcases Go.Lith.lt_tri a.u b.u with k | k | k
   · exact .inl (.inr ⟨h,.inl k⟩)
   · rcases Go.Lith.lt_tri a.v b.v with l | l | l
     · exact .inl (.inr ⟨h,.inr ⟨k,l⟩⟩)
     · exact .inr (.inl (lT.ext' k l h))
     · exact .inr (.inr (.inr ⟨h.symm,.inr ⟨k.symm,l⟩⟩))
   · exact .inr (.inr (.inr ⟨h.symm,.inl k⟩))
 · exact .inr (.inr (.inl h))
def Vp:List lT→Option lT
 | []=>none
 | c::cs=>match Vp cs with
  | none=>some c
  | some d=>if d.Lt c then some d else some c
theorem Ly:∀{cs:List lT},Vp cs=none↔cs=[]
 | []=>⟨fun _=>rfl,fun _=>rfl⟩
 | c::cs=>by
  unfold Vp;constructor
  · intro h
    cases hm:Vp cs with
    | none=>rw[hm] at h;cases h
    | some d=>rw[hm] at h;simp only at h;split at h <;> cases h
  · intro h;cases h
theorem Lz:∀{cs:List lT} {c:lT},Vp cs=some c→c∈cs∧∀d∈cs,¬d.Lt c
 | [],c,h=>by cases h
 | a::cs,c,h=>by
  unfold Vp at h;cases hm:Vp cs with
  | none =>
   rw[hm] at h;cases h;rw[Ly.1 hm];exact⟨lx _,fun d hd=>by rw[bf.1 hd];exact lT.lt_irrefl _⟩
  | some d =>
   rw[hm] at h;simp only at h;obtain⟨h1,h2⟩:=Lz hm;split at h
   · rename_i k
     cases h;refine⟨bg _ h1,fun e he=>?_⟩;rcases an.1 he with rfl | he
     · exact fun k2=>lT.lt_irrefl _ (lT.lt_trans k k2)
     · exact h2 e he
   · rename_i k
     cases h;refine⟨bm ..,fun e he k2=>?_⟩;rcases an.1 he with rfl | he
     · exact lT.lt_irrefl _ k2
     · rcases lT.lt_tri d e with k3 | k3 | k3
       · exact k (lT.lt_trans k3 k2)
       · exact k (k3▸k2)
       · exact h2 e he k3
theorem anf{cs:List lT}(hc:c∈cs)(h:∀d∈cs,¬d.Lt c):Vp cs=some c:=by
 cases hm:Vp cs with
 | none=>rw[Ly.1 hm] at hc;cases hc
 | some d =>
  obtain⟨h1,h2⟩:=Lz hm;rcases lT.lt_tri c d with k | k | k
  · exact absurd k (h2 c hc)
  · rw[k]
  · exact absurd k (h d h1)
def tD(q:P3→List Int)(u v:P3):Int:=qAt (Fc (q u) (q v)) v
def aqh(l:List T3)(q:P3→List Int)(u:P3):List lT:=if onB (cN l) u then [] else (nbL l u).map fun v=>⟨u,v,tD q u v⟩
def ad1(l:List T3)(q:P3→List Int):List lT:=(dR l).flatMap (aqh l q)
def xL(l:List T3)(q:P3→List Int):Option lT:=Vp ((ad1 l q).filter fun c=>dC l c.u c.v)
def aai(q:P3→List Int)(u v:P3)(p:P3):List Int:=if p=v then Fc (q u) (q v) else q p
def toF(D:List Mv)(u v:P3):List Mv:=fI (D.map fun e=>(e.1,Gw u v e.2)) u v
def mT:Nat→Int→List T3→(P3→List Int)→List Mv→List T3 × List Mv
 | 0,_,l,_,D=>(l,D)
 | n+1,want,l,q,D=>if (l.length:Int)≤want then (l,D) else match xL l q with
  | none=>(l,D)
  | some c=>mT n want (yZ l c.u c.v) (aai q c.u c.v) (toF D c.u c.v)
def nE(D:List Mv):List Mv:=(Ba (D.map (·.1))).map fun k=>(k,(cG D k).getD k)
def qD(l:List T3)(want:Int):List T3 × List Mv :=
 if fH true (cS l)≠0 then (cS l,[]) else
 ((mT (cS l).length want (cS l) (wP (cS l)) []).1,nE (mT (cS l).length want (cS l) (wP (cS l)) []).2)
theorem afz{q:P3→List Int}  : c∈ad1 l q↔onB (cN l) c.u=false∧nbB l c.u c.v=true∧c.c=tD q c.u c.v:=by
 unfold ad1;rw[el];constructor
 · rintro⟨u,hu,hc⟩
   unfold aqh at hc;split at hc
   · cases hc
   · rename_i hb
     obtain⟨v,hv,rfl⟩:=dh.1 hc;exact⟨by simpa using hb,Jh.1 hv,O⟩
 · rintro⟨h1,h2,h3⟩
   obtain⟨t,ht,hu,_⟩:=Iy.1 (aah.1 h2).2;refine⟨c.u,vW.2 (xK ht hu),?_⟩;unfold aqh;rw[if_neg (by rw[h1];exact fy)];exact dh.2 ⟨c.v,Jh.2 h2,lT.ext' O O h3.symm⟩
theorem Sr{v:P3}(h:dC l u v=true):zW l u v=true:=by
 unfold dC at h;simp only[be] at h;exact h.1.1.1.1.1
theorem Ma{q:P3→List Int}(h:xL l q=some c):c∈ad1 l q∧dC l c.u c.v=true:=by
 have:=(Lz h).1;exact dw.1 this
theorem uE{q:P3→List Int}(h:xL l q=some c):(yZ l c.u c.v).length<l.length:=ajt (Sr (Ma h).2)
theorem Xp:∀(n m:Nat) (want:Int) (l:List T3) (q:P3→List Int) (D:List Mv),l.length≤n→l.length≤m→0≤want→mT n want l q D=mT m want l q D
 | 0,0,_,_,_,_,_,_,_=>rfl
 | 0,m+1,want,l,q,D,h1,h2,hw=>by
  have:l.length=0:=by omega
  unfold mT;rw[if_pos (by omega)]
 | n+1,0,want,l,q,D,h1,h2,hw=>by
  have:l.length=0:=by omega
  unfold mT;rw[if_pos (by omega)]
 | n+1,m+1,want,l,q,D,h1,h2,hw=>by
  unfold mT;split
  · rfl
  · cases hb:xL l q with
    | none=>rfl
    | some c =>
     have:=uE hb;exact Xp n m want _ _ _ (by omega) (by omega) hw
theorem aju{want:Int}{q:P3→List Int}{D:List Mv}(h:(l.length:Int)≤want):mT n want l q D=(l,D):=by
 cases n with
 | zero=>rfl
 | succ n=>unfold mT;rw[if_pos h]
def wC(n:Int):List ai:=[.bool (fX n),.string (kL n)]
def qC(L:List Int):List ai:=L.flatMap wC
def qV(L:List Int):ai:=.agg (qC L).toArray
theorem wC2(n:Int):(wC n).length=2:=rfl
theorem Cv(L:List Int):(qC L).length=L.length*2:=kB wC2 ..
theorem Cw{g:Nat}{T:az}{x:Int}(h:fR w g (qC L) T)(hx:L[k]? = some x):mX w ⟨g,k*2,none⟩ (wC x):=by
 have h2:=h.row (k*2);rw[qC,Ra wC2 hx] at h2;exact fun j u hj=>h2 j u (by rw[cu (ap.1 hj).1];exact hj)
theorem aaj{x:Int}(h:k<L.length):over (qC L) (k*2) (wC x)=qC (L.set k x):=by
 unfold over qC;rw[show k*2+(wC x).length=(k+1)*2 by rw[wC2];omega,←Qz wC2,←yN wC2,List.set_eq_take_append_cons_drop,if_pos h,ay,di,cq]
theorem aqi(L:List Int):∀u∈qC L,u.oneCell'=true:=fun u hu=>by
 obtain⟨x,_,h⟩:=el.1 hu;simp only[wC,an,cg,or_false] at h;rcases h with rfl | rfl <;> rfl
def Gy(k:Nat)(L:List Int):Prop:=∀x∈L,Bd k x
theorem Gy.mono(h:Gy k L)(hk:k≤m):Gy m L:=fun x hx=>(h x hx).mono hk
theorem Gy.at{x:Int}(h:Gy k L)(hx:L[i]? = some x):Bd k x:=h x (bh hx)
theorem lL{a b:List Int}(ha:a.length=10)(hb:b.length=10):(Fc a b).length=10:=by unfold Fc;rw[List.length_zipWith,ha,hb];rfl
theorem Pk{a b:List Int}(ha:Gy k a)(hb:Gy k b):Gy (k+1) (Fc a b):=fun x hx=>by
 unfold Fc at hx;obtain⟨i,hi⟩:=List.mem_iff_getElem?.1 hx;rw[List.getElem?_zipWith] at hi;cases h1:a[i]? with
 | none=>simp[h1] at hi
 | some y =>
  cases h2:b[i]? with
  | none=>simp[h1,h2] at hi
  | some z =>
   simp[h1,h2] at hi;subst hi;exact ((ha.at h1).add (hb.at h2)).mono (by omega)
section
variable {P:br} {ds:List dz} {l:List ai} {x y:Operand} {T ty:az} {ops:Array Oper} {Q:Exit→Act→aj→Prop} {rest:List Oper} {pos:String} {after:Array Edge} {w w0:aj} {is:List It}
theorem abW{cs us:List ai}(h:us.length=cs.length):over cs 0 us=us:=by unfold over;rw[List.take_zero,b_,au,gi (by omega),fa]
theorem Eo{g n:Nat}{cs:List ai}{L:List Int}{t:az}(m:Mem w0 w is)(k:Nat)(hk:is[k]? = some (bI g cs t))(hx:ev l x=.pointer (some ⟨g,0,none⟩))(hv:ev l y=qV L)(hl:L.length*2=n)(hcs:cs.length=n)(hc:dO P T n)
 (h:∀u,Mem w0 u (is.set k (bI g (qC L) t))→ar P ops Q rest (Fr l ds) u):ar P ops Q (Oper.mk none (.store T x y) ty pos after none::rest) (Fr l ds) w :=
 bP (us:=qC L) m k hk hx hv (by rw[Cv,hl];exact hc) (by rw[Cv,hl,hcs,au];exact aq _) (List.all_eq_true.2 (aqi L)) fun u hu=>h u (by rw[abW (by rw[Cv,hl,hcs])] at hu;exact hu)
theorem wQ{g:Nat}{L:List Int}{t:az}(h:fR w g (qC L) t)(hA:eU P T true)(hc:dO P T n)(hl:L.length*2=n):fZ P w T ⟨g,0,none⟩ (qV L):=h.full hA (by rw[Cv,hl];exact hc)
theorem ang{a:Addr}(h:fZ P w T a (.agg #[.bool false,.string ⟨#[]⟩])):fZ P w T a (W 0):=by rw[Zi];exact h
end
def qP(a b:List Int)(k:Nat):List Int:=(Fc a b).take k++a.drop k
theorem aqj{a b:List Int}(ha:a.length=10)(hb:b.length=10):qP a b 10=Fc a b:=by
 unfold qP;rw[a_ (by rw[lL ha hb];exact aq _),gi (by omega),fa]
theorem ajv{a b:List Int}(ha:a.length=10)(hb:b.length=10)(hk:k≤10):(qP a b k).length=10:=by
 unfold qP;rw[aw,bp,fl,lL ha hb,ha];omega
theorem asJ{a b:List Int}(ha:a.length=10)(hb:b.length=10){x:Int}(hk:k<10)(hx:a[k]? = some x):(qP a b k)[k]? = some x:=by
 unfold qP;rw[dt (by rw[bp];omega),bp,lL ha hb,gr (by omega),lh,dj,jo];exact hx
theorem aqk{a b:List Int}(ha:a.length=10)(hb:b.length=10){x y:Int}(hk:k<10)(hx:a[k]? = some x)(hy:b[k]? = some y):(qP a b k).set k (x+y)=qP a b (k+1):=by
 have h1:(Fc a b)[k]? = some (x+y):=by unfold Fc;rw[List.getElem?_zipWith,hx,hy]
 have h2:((Fc a b).take k).length=k:=by rw[bp,lL ha hb];omega
 unfold qP;rw[List.take_add_one,h1,List.set_append_right _ _ (by rw[h2];exact aq _),h2,lh,Option.toList,cq]
 congr 1
 rw[fc (by omega:k<a.length)];rfl
/-! ### The pairs,in order -/
def eI(n:Nat):Nat:=[0,0,0,0,1,1,1,2,2,3].getD n 0
def eJ(n:Nat):Nat:=[0,1,2,3,1,2,3,2,3,3].getD n 0
theorem aak{Q:Nat→Prop}(hn:n<10)(h0:Q 0)(h1:Q 1)(h2:Q 2)(h3:Q 3)(h4:Q 4)(h5:Q 5)(h6:Q 6)(h7:Q 7)(h8:Q 8)(h9:Q 9):Q n:=by
 rcases n with _ | _ | _ | _ | _ | _ | _ | _ | _ | _ | n
 all_goals first | assumption | omega
theorem ajw(hn:n<10):eI n<4:=aak (Q:=fun n=>eI n<4) hn (by decide) (by decide) (by decide) (by decide) (by decide) (by decide) (by decide) (by decide) (by decide) (by decide)
theorem ajx(hn:n<10):eJ n<4:=aak (Q:=fun n=>eJ n<4) hn (by decide) (by decide) (by decide) (by decide) (by decide) (by decide) (by decide) (by decide) (by decide) (by decide)
def Xq(p:List Int)(n:Nat):Int:=p.getD (eI n) 0*p.getD (eJ n) 0
def qF(a b c d:Int)(n:Nat):List Int:=(qPr a b c d).take n++cl (10-n) 0
theorem aql(a b c d:Int)(hn:n≤10):(qF a b c d n).length=10:=by
 unfold qF;rw[aw,bp,List.length_replicate,show (qPr a b c d).length=10 from rfl];omega
theorem ajy{a b c d:Int}(hn:n<10):((qF a b c d n).set n (Xq [a,b,c,d] n)).set n (if eI n=eJ n then Xq [a,b,c,d] n else Xq [a,b,c,d] n*2)=qF a b c d (n+1):=by
 rw[List.set_set];refine aak (Q:=fun n=>(qF a b c d n).set n (if eI n=eJ n then Xq [a,b,c,d] n else Xq [a,b,c,d] n*2)=qF a b c d (n+1)) hn ?_ ?_ ?_ ?_ ?_ ?_ ?_ ?_ ?_ ?_
 all_goals simp[qF,qPr,Xq,eI,eJ,pe]
theorem asK(a b c d:Int):qF a b c d 10=qPr a b c d:=by unfold qF qPr;rfl
theorem ao0(a b c d:Int)(hi:i<4):[a,b,c,d][i]? = some ([a,b,c,d].getD i 0):=by
 rcases i with _ | _ | _ | _ | i
 all_goals first | rfl | omega
theorem asL{a b c d:Int}(h:Gy k [a,b,c,d]):Gy (k+k+2) (qPr a b c d):=fun x hx=>by
 have ha:=h a (by simp);have hb:=h b (by simp);have hc:=h c (by simp);have hd:=h d (by simp);have two:∀{x:Int},Bd (k+k) x→Bd (k+k+2) (2*x):=fun {x} hx=>by
  have h2:Bd 2 (2:Int):=by unfold Bd;decide
  rw[Nat.add_comm];exact h2.mul hx
 simp only[qPr,an,cg,or_false] at hx;rcases hx with rfl | rfl | rfl | rfl | rfl | rfl | rfl | rfl | rfl | rfl
 · exact (ha.mul ha).mono (by omega)
 · exact two (ha.mul hb)
 · exact two (ha.mul hc)
 · exact two (ha.mul hd)
 · exact (hb.mul hb).mono (by omega)
 · exact two (hb.mul hc)
 · exact two (hb.mul hd)
 · exact (hc.mul hc).mono (by omega)
 · exact two (hc.mul hd)
 · exact (hd.mul hd).mono (by omega)
/-! ### A quadric's value -/
def atS(q x:List Int):Nat→Int
 | 0=>0
 | n+1=>atS q x n+q.getD n 0*Xq x n
theorem aal{q:List Int}(hq:q.length=10)(hn:n<10):q[n]? = some (q.getD n 0):=by
 rw[eo,am (by omega)];rfl
theorem ajz{q:List Int}(hq:q.length=10)(p:P3):atS q [p.x,p.y,p.z,1] 10=qAt q p:=by
 rcases q with _ | ⟨a,_ | ⟨b,_ | ⟨c,_ | ⟨d,_ | ⟨e,_ | ⟨f,_ | ⟨g,_ | ⟨h,_ | ⟨i,_ | ⟨j,_ | ⟨k,q⟩⟩⟩⟩⟩⟩⟩⟩⟩⟩⟩ <;> simp only[av,bv] at hq <;> try omega
 simp only[atS,Xq,eI,eJ,qAt,asH,List.getD_cons_zero,List.getD_cons_succ,List.getD_nil]
 grind
theorem ad2{p:List Int}(h:Gy k p)(hl:p.length=4)(hn:n<10):Bd (k+k) (Xq p n):=by
 have key:∀i,i<4→Bd k (p.getD i 0):=fun i hi=>by
  rw[eo,am (by omega:i<p.length)];exact h _ (gl _)
 exact (key _ (ajw hn)).mul (key _ (ajx hn))
theorem ad3{k m:Nat}{q p:List Int}(hq:Gy k q)(hl:q.length=10)(hp:Gy m p)(hpl:p.length=4):∀n,n≤10→Bd (k+m+m+n) (atS q p n)
 | 0,_=>Oz _
 | n+1,hn=>by
  have h1:=ad3 hq hl hp hpl n (by omega);have h2:=(hq.at (aal hl (by omega:n<10))).mul (ad2 hp hpl (by omega:n<10));exact (h1.add (h2.mono (by omega:k+(m+m)≤k+m+m+n))).mono (by omega)
theorem bd4{p:P3}(h:I3 p):Gy 64 [p.x,p.y,p.z,1]:=fun x hx=>by
 simp only[an,cg,or_false] at hx;rcases hx with rfl | rfl | rfl | rfl
 · exact h.x.bd
 · exact h.y.bd
 · exact h.z.bd
 · unfold Bd;decide
theorem aD:(∀P R w0 ds q s l is,V P R w0 ds none 0 [] q s l is=(q∧∀w,Mem w0 w is→Ct P R s .normal (Fz l ds) w))
 ∧ (∀P R w0 ds w1 q s l is,V P R w0 ds (some (false,w1)) 0 [] q s l is=(q∧∀w,Mem w0 w is→fQ w1 w→Ct P R s .normal (Fz l ds) w))∧(∀P R w0 ds w1 q s l is,V P R w0 ds (some (true,w1)) 0 [] q s l is=(q∧Ct P R s .normal (Fz l ds) w1))
 ∧ (∀P R w0 ds k sc q l is,V P R w0 ds none 0 (k::sc) q [] l is=(q∧∀w,Mem w0 w is→R .normal (Fz l ds) w))
 ∧ (∀P R w0 ds w1 k sc q l is,V P R w0 ds (some (false,w1)) 0 (k::sc) q [] l is=(q∧∀w,Mem w0 w is→fQ w1 w→R .normal (Fz l ds) w))∧(∀P R w0 ds w1 k sc q l is,V P R w0 ds (some (true,w1)) 0 (k::sc) q [] l is=(q∧R .normal (Fz l ds) w1))
 ∧ (∀P R w0 ds k sc q c s l is,V P R w0 ds none 0 (k::sc) q (.c c::s) l is=(q∧∀w,Mem w0 w is→c.wp P (Ct P R s) (Fz l ds) w))
 ∧ (∀P R w0 ds w1 k sc q c s l is,V P R w0 ds (some (false,w1)) 0 (k::sc) q (.c c::s) l is=(q∧∀w,Mem w0 w is→fQ w1 w→c.wp P (Ct P R s) (Fz l ds) w))∧(∀P R w0 ds w1 k sc q c s l is,V P R w0 ds (some (true,w1)) 0 (k::sc) q (.c c::s) l is=(q∧c.wp P (Ct P R s) (Fz l ds) w1))
 ∧ (∀P R w0 ds k sc q ops rest s l is,V P R w0 ds none 0 (k::sc) q (.o ops rest::s) l is=(q∧∀w,Mem w0 w is→ar P ops (Ct P R s) rest (Fz l ds) w))
 ∧ (∀P R w0 ds w1 k sc q ops rest s l is,V P R w0 ds (some (false,w1)) 0 (k::sc) q (.o ops rest::s) l is=(q∧∀w,Mem w0 w is→fQ w1 w→ar P ops (Ct P R s) rest (Fz l ds) w))∧(∀P R w0 ds w1 k sc q ops rest s l is,V P R w0 ds (some (true,w1)) 0 (k::sc) q (.o ops rest::s) l is=(q∧ar P ops (Ct P R s) rest (Fz l ds) w1))
 ∧ (∀P R w0 ds k sc q K s l is,V P R w0 ds none 0 (k::sc) q (.k K::s) l is=(q∧∀w,Mem w0 w is→K (Fz l ds) w))
 ∧ (∀P R w0 ds w1 k sc q K s l is,V P R w0 ds (some (false,w1)) 0 (k::sc) q (.k K::s) l is=(q∧∀w,Mem w0 w is→fQ w1 w→K (Fz l ds) w))∧(∀P R w0 ds w1 k sc q K s l is,V P R w0 ds (some (true,w1)) 0 (k::sc) q (.k K::s) l is=(q∧K (Fz l ds) w1))
 ∧ (∀P R w0 ds os n sc q i s l is,V P R w0 ds os (n+1) sc q (.b i::s) l is=V P R w0 ds os n sc q s l is)
 ∧ (∀P R w0 ds os n sc q ops s l is,V P R w0 ds os (n+1) sc q (.o ops []::s) l is=V P R w0 ds os n sc q s l is)
 ∧ (∀P R w0 ds os n sc q ops d op ty pos af g rest s l is,V P R w0 ds os (n+1) sc q (.o ops (⟨some d,op,ty,pos,af,g⟩::rest)::s) l is=Rn ops l g (Fw P l is [] (kpb os) op sc fun vc v sc is=>V P R w0 ds os n sc (vc∧q) (.o ops rest::s) (l.set d v) is) (V P R w0 ds os n sc q (.o ops rest::s) (l.set d undef) is))
 ∧ (∀P R w0 ds os n sc q ops op ty pos af g rest s l is,V P R w0 ds os (n+1) sc q (.o ops (⟨none,op,ty,pos,af,g⟩::rest)::s) l is=Rn ops l g (stV P l is os.isSome op sc fun vc _ sc is=>V P R w0 ds os n sc (vc∧q) (.o ops rest::s) l is) (V P R w0 ds os n sc q (.o ops rest::s) l is))
 ∧ (∀P R w0 ds os n sc q a b s l is,V P R w0 ds os (n+1) sc q (.c (.seq a b)::s) l is=V P R w0 ds os n sc q (.c a :: .c b::s) l is)
 ∧ (∀P R w0 ds os n sc q s l is,V P R w0 ds os (n+1) sc q (.c .skip::s) l is=V P R w0 ds os n sc q s l is)
 ∧ (∀P R w0 ds os n sc q i c s l is,V P R w0 ds os (n+1) sc q (.c (.block i c)::s) l is=V P R w0 ds os n sc q (.c c :: .b i::s) l is)
 ∧ (∀P R w0 ds os n sc q i s l is,V P R w0 ds os (n+1) sc q (.c (.exit i)::s) l is=Ut i s fun s=>V P R w0 ds os n sc q s l is)
 ∧ (∀P R w0 ds n sc q s l is,V P R w0 ds none (n+1) sc q (.c .ret::s) l is=(q∧∀w,Mem w0 w is→R .ret (Fz l ds) w))∧(∀P R w0 ds w1 n sc q s l is,V P R w0 ds (some (false,w1)) (n+1) sc q (.c .ret::s) l is=(q∧∀w,Mem w0 w is→fQ w1 w→R .ret (Fz l ds) w))∧(∀P R w0 ds w1 n sc q s l is,V P R w0 ds (some (true,w1)) (n+1) sc q (.c .ret::s) l is=(q∧R .ret (Fz l ds) w1))
 ∧ (∀P R w0 ds os n sc q x a b s l is,V P R w0 ds os (n+1) sc q (.c (.cond x a b)::s) l is=vvB (ev l x) fun t=>vbX t (V P R w0 ds os n sc q (.c a::s) l is) (V P R w0 ds os n sc q (.c b::s) l is))
 ∧ (∀P R w0 ds os n sc q i ops s l is,V P R w0 ds os (n+1) sc q (.c (.region i (jv ops) false)::s) l is=V P R w0 ds os n sc q (.o ops.toArray ops::s) l is)
 ∧ (∀ops l p q,Rn ops l none p q=p)∧(∀ops l j b p q,Rn (jv ops) l (some (j,b)) p q=vvG (vyv ops l j) b p q)
 ∧ (∀o ops l j,vyv (o::ops) l (j+1)=vyv ops l j)∧(∀d op ty pos af g ops l,vyv (⟨some d,op,ty,pos,af,g⟩::ops) l 0=l.getD d undef)
 ∧ (∀p q,vvG (.bool true) true p q=p)∧(∀p q,vvG (.bool false) true p q=q)∧(∀p q,vvG (.bool true) false p q=q)∧(∀p q,vvG (.bool false) false p q=p)∧(∀b p q,vvG undef b p q=q)
 ∧ (∀i s f,Ut i (.b i::s) f=f s)∧(∀i j s f,Ut i (.b j::s) f=vnE i j (f s) (Ut i s f))∧(∀i c s f,Ut i (.c c::s) f=Ut i s f)∧(∀i ops rest s f,Ut i (.o ops rest::s) f=Ut i s f)∧(∀i K s f,Ut i (.k K::s) f=Ut i s f)∧(∀i c n s f,Ut i (.r c n::s) f=Ut i s f)
 ∧ (∀P R w0 ds os n sc q c k s l is,V P R w0 ds os (n+1) (k::sc) q (.c (.loop c)::s) l is=V P R w0 ds os n sc q (.r c k::s) l is)∧(∀P R w0 ds os n sc q c k s l is,V P R w0 ds os (n+1) sc q (.r c (k+1)::s) l is=V P R w0 ds os n sc q (.c c :: .r c k::s) l is)
 ∧ (∀p q,vnE 0 0 p q=p)∧(∀n m p q,vnE (n+1) (m+1) p q=vnE n m p q)∧(∀n p q,vnE (n+1) 0 p q=q)∧(∀n p q,vnE 0 (n+1) p q=q)
 ∧ (∀k m f,rK (.int k m) f=f k m)∧(∀b f,vvB (.bool b) f=f b)∧(∀a f,vvP (.pointer (some a)) f=f a)∧(∀a n c f,vvS (.slice a n c) f=f a n c)∧(∀cs f,vvA (.agg (jv cs)) f=f cs)∧(∀cs f,vvT (.tuple (jv cs)) f=f cs)
 ∧ (∀p q,vbX true p q=p)∧(∀p q,vbX false p q=q)∧(∀n p,vnX (n+1) p=p)
 ∧ (∀x l f,Ln (x::l) 0 f=f x)∧(∀x l n f,Ln (x::l) (n+1) f=Ln l n f)
 ∧ (∀P l is os pr x sc K,Fw P l is os pr (.move x) sc K=K True (ev l x) sc is)
 ∧ (∀P l is os pr x sc K,Fw P l is os pr (.assign x) sc K=K True (ev l x) sc is)
 ∧ (∀P l is os pr x sc K,Fw P l is os pr (.nilCheck x) sc K=vvP (ev l x) fun a=>K True (.pointer (some a)) sc is)
 ∧ (∀P l is os pr c x y sc K,Fw P l is os pr (.pick c x y) sc K=vvB (ev l c) fun b=>vbX b (K True (ev l x) sc is) (K True (ev l y) sc is))
 ∧ (∀P l is os pr b T x y T' sc K,Fw P l is os pr (.binOp b T x y T') sc K=biV b (ev l x) (ev l y) sc is K)
 ∧ (∀P l is os pr T x sc K,Fw P l is os pr (.unOp .not T x) sc K=vvB (ev l x) fun b=>K True (.bool (!b)) sc is)
 ∧ (∀P l is os pr T x sc K,Fw P l is os pr (.unOp .neg T x) sc K=rK (ev l x) fun k m=>K (InR k (0-m)) (.int k (0-m)) sc is)
 ∧ (∀P l is os pr T T' x sc K,Fw P l is os pr (.convert T T' x) sc K=Bj (ikP P T) fun _=>Bj (ikP P T') fun k=>rK (ev l x) fun _ m=>K (InR k m) (.int k m) sc is)
 ∧ (∀P l is os pr x i sc K,Fw P l is os pr (.extract x i) sc K=vvT (ev l x) fun cs=>Ln cs i fun v=>K True v sc is)
 ∧ (∀P l is os pr b xs ts sc K,Fw P l is os pr (.call ⟨.builtin b,jv xs,jv ts⟩) sc K=caV P l is b xs ts sc K)
 ∧ (∀P l is x T sc K,caV P l is .len [x] [T] sc K=Bj (Im P T) fun _=>vvS (ev l x) fun _ n _=>K True (.int .i64 n) sc is)
 ∧ (∀P l is x y ts sc K,caV P l is .min [x,y] ts sc K=rK (ev l x) fun k m=>rK (ev l y) fun k' n=>K (k'=k) (.int k (if n<m then n else m)) sc is)
 ∧ (∀P l is x y ts sc K,caV P l is .max [x,y] ts sc K=rK (ev l x) fun k m=>rK (ev l y) fun k' n=>K (k'=k) (.int k (if m<n then n else m)) sc is)
 ∧ (∀x y sc is K,biV .add x y sc is K=rK x fun k m=>rK y fun k' n=>K (k'=k∧InR k (m+n)) (.int k (m+n)) sc is)
 ∧ (∀x y sc is K,biV .sub x y sc is K=rK x fun k m=>rK y fun k' n=>K (k'=k∧InR k (m-n)) (.int k (m-n)) sc is)
 ∧ (∀x y sc is K,biV .mul x y sc is K=rK x fun k m=>rK y fun k' n=>K (k'=k∧InR k (m*n)) (.int k (m*n)) sc is)
 ∧ (∀x y sc is K,biV .lss x y sc is K=rK x fun k m=>rK y fun k' n=>cV sc (m<n) (fun p=>K (k'=k∧p)) is)
 ∧ (∀x y sc is K,biV .leq x y sc is K=rK x fun k m=>rK y fun k' n=>cV sc (m≤n) (fun p=>K (k'=k∧p)) is)
 ∧ (∀x y sc is K,biV .gtr x y sc is K=rK x fun k m=>rK y fun k' n=>cV sc (n<m) (fun p=>K (k'=k∧p)) is)
 ∧ (∀x y sc is K,biV .geq x y sc is K=rK x fun k m=>rK y fun k' n=>cV sc (n≤m) (fun p=>K (k'=k∧p)) is)
 ∧ (∀x y sc is K,biV .eql x y sc is K=rK x fun k m=>rK y fun k' n=>cV sc (m=n) (fun p=>K (k'=k∧p)) is)
 ∧ (∀x y sc is K,biV .neq x y sc is K=rK x fun k m=>rK y fun k' n=>cV sc (m≠n) (fun p=>K (k'=k∧p)) is)
 ∧ (∀sc p K is [Decidable p],cV (0::sc) p K is=K True (.bool (decide p)) sc is)∧(∀sc p K is [Decidable p],cV (1::sc) p K is=K p (.bool true) sc is)∧(∀sc p K is [Decidable p],cV (2::sc) p K is=K (¬p) (.bool false) sc is)
 ∧ (∀n,InR .i64 n=(-9223372036854775808≤n∧n<9223372036854775808))∧(∀n,InR .i32 n=(-2147483648≤n∧n<2147483648))∧(∀n,InR .u64 n=(0≤n∧n<18446744073709551616))∧(∀n,InR .u32 n=(0≤n∧n<4294967296))∧(∀n,InR .u8 n=(0≤n∧n<256))
 ∧ (∀{α:Type} (hd:α→Option Oper) P is os ops K q rest l,VQ hd P is os ops K 0 [] q rest l=(q∧K rest l))∧(∀P is os ops K n sc q d op ty pos af g rest l,VQ some P is os ops K (n+1) sc q (⟨some d,op,ty,pos,af,g⟩::rest) l=Rn ops l g (Fw P l is os true op sc fun vc v sc _=>VQ some P is os ops K n sc (vc∧q) rest (l.set d v)) (VQ some P is os ops K n sc q rest (l.set d undef)))
 ∧ (∀P is os ops K n sc q d op ty pos af g rest l,VQ hdH P is os ops K (n+1) sc q ((⟨some d,op,ty,pos,af,g⟩,true)::rest) l=Rn ops l g (Fw P l is os true op sc fun vc v sc _=>VQ hdH P is os ops K n sc (vc∧q) rest (l.set d v)) (VQ hdH P is os ops K n sc q rest (l.set d undef)))
 ∧ (∀(w:Bool × aj),(some w).isSome=true)∧((none:Kw).isSome=false)∧(∀b w,kpb (some (b,w))=b)∧(kpb none=false)
 ∧ (∀{α:Type} (x:α) f,Bj (some x) f=f x)∧(∀l ds,Fz l ds=Fr l ds)
 ∧ (∀p:Prop,(True∧p)=p)∧(∀p:Prop,(p∧True)=p)
 ∧ (∀(l:List Go.Value) (t:Nat),ev l (.tmp t)=l.getD t undef)∧(∀(l:List Go.Value) (v:Go.Value),ev l (.const v)=v)∧(∀(l:List Go.Value) (f:Nat),ev l (.func f)=.func (.func f) #[] #[])∧(∀{α:Type} (x:α) (xs:List α) (n:Nat) (d:α),(x::xs).getD (n+1) d=xs.getD n d)∧(∀{α:Type} (x:α) (xs:List α) (d:α),(x::xs).getD 0 d=x)∧(∀{α:Type} (x:α) (xs:List α) (n:Nat) (a:α),(x::xs).set (n+1) a=x::xs.set n a)∧(∀{α:Type} (x:α) (xs:List α) (a:α),(x::xs).set 0 a=a::xs)
 ∧ (∀P l is os pr T x i sc K,Fw P l is os pr (.fieldAddr T x i) sc K=Bj (oA P T i) fun f=>vvP (ev l x) fun a=>vnX f.2.2 (K True (.pointer (some (a.add f.1))) sc is))
 ∧ (∀P l is os pr T x i sc K,Fw P l is os pr (.field T x i) sc K=Bj (oA P T i) fun f=>vvA (ev l x) fun cs=>vbX f.2.1 (K True (.agg ((cs.drop f.1).take f.2.2).toArray) sc is) (Ln cs f.1 fun v=>K True v sc is))
 ∧ (∀P l is os pr T x k sc K,Fw P l is os pr (.load T x) (k::sc) K=Bj (tV P T) fun z=>vvP (ev l x) fun a=>atB is os k fun g=>vbX z.1 (K (a=⟨g.1,a.off,none⟩∧Gp ((g.2.1.drop a.off).take z.2) z.2) (.agg ((g.2.1.drop a.off).take z.2).toArray) sc is) (Ln g.2.1 a.off fun v=>K (a=⟨g.1,a.off,none⟩) v sc is))
 ∧ (∀P l is os pr T ps sc K,Fw P l is os pr (.build T (jv ps)) sc K=Bj (xI P T) fun z=>blV l z.1 ps z.2 True fun q cs=>K q (.agg cs.toArray) sc is)
 ∧ (∀l pl cs q f,blV l pl [] cs q f=f q cs)∧(∀l pl i x ps cs q f,blV l pl ((i,x)::ps) cs q f=Zv pl i fun z=>vnX z.2 (blV l pl ps (over cs z.1 (ev l x).cells.toList) (Gp (ev l x).cells.toList z.2∧Gp ((cs.drop z.1).take z.2) z.2∧q) f))
 ∧ (∀x l f,Zv (x::l) 0 f=f x)∧(∀x l n f,Zv (x::l) (n+1) f=Zv l n f)
 ∧ (∀P l is os T x sc K,Fw P l is os false (.box T x) sc K=∀g,K True (.pointer (some ⟨g,0,none⟩)) sc (bI g (ev l x).cells.toList T::is))
 ∧ (∀P l is os T sc K,Fw P l is os false (.alloc T) sc K=Bj (Lo P T) fun z=>∀g,K True (.pointer (some ⟨g,0,none⟩)) sc (bI g z T::is))
 ∧ (∀P l is T x y k sc K,stV P l is false (.store T x y) (k::sc) K=Bj (tV P T) fun z=>vnX z.2 (vvP (ev l x) fun a=>atM is k fun g=>K (a=⟨g.1,a.off,none⟩∧Gp ((g.2.1.drop a.off).take z.2) z.2∧Gp (ev l y).cells.toList z.2∧Zt (ev l y).cells.toList) undef sc (is.set k (bI g.1 (over g.2.1 a.off (ev l y).cells.toList) g.2.2))))
 ∧ (∀P l is os pr T x y sc K,Fw P l is os pr (.indexAddr T x y) sc K=Bj (ixP P T) fun z=>vvX z.1 (ev l x) fun a n=>rK (ev l y) fun _ m=>K (0≤m∧m<n) (.pointer (some (a.add (m.toNat*z.2)))) sc is)
 ∧ (∀n v f,vvX (some n) v f=vvP v fun a=>f a n)∧(∀v f,vvX none v f=vvS v fun A n _=>Bj A fun a=>f a n)
 ∧ (∀bs i is,pW (true::bs) (i::is)=i::pW bs is)∧(∀bs i is,pW (false::bs) (i::is)=pW bs is)∧(∀is,pW [] is=[])
 ∧ (∀i is os f,atB (i::is) os 0 f=Bj i.bk f)∧(∀i is os k f,atB (i::is) os (k+1) f=atB is os k f)∧(∀os k f,atB [] os k f=atO os k f)∧(∀x os f,atO (x::os) 0 f=f x)∧(∀x os k f,atO (x::os) (k+1) f=atO os k f)
 ∧ (∀i is f,atM (i::is) 0 f=Bj i.bk f)∧(∀i is k f,atM (i::is) (k+1) f=atM is k f)∧(∀g cs t,(bI g cs t).bk=some (g,cs,t))
 ∧ (∀x l n,Gp (x::l) (n+1)=Gp l n)∧(Gp [] 0=True)∧(∀v l,Zt (v::l)=(v.oneCell'=true∧Zt l))∧(Zt []=True)
 ∧ (∀g n,(⟨g,0,none⟩:Addr).add n=⟨g,n,none⟩)∧(∀g o n,(⟨g,o,none⟩:Addr).add n=⟨g,o+n,none⟩)
 ∧ (∀cs o us,over cs o us=cs.take o++us++cs.drop (o+us.length))
 ∧ (∀cs,(Value.agg (jv cs)).cells.toList=cs)∧(∀k n,(mi k n).cells.toList=[.int k n])∧(∀b,(Value.bool b).cells.toList=[.bool b])∧(∀b,(Value.string b).cells.toList=[.string b])∧(∀a,(Value.pointer a).cells.toList=[.pointer a])∧(∀a n c,(Value.slice a n c).cells.toList=[.slice a n c])∧(∀a,(Value.map a).cells.toList=[.map a])∧(∀a b c,(Value.func a b c).cells.toList=[.func a b c])
 ∧ (∀k n,(mi k n).oneCell'=true)∧(∀b,(Value.bool b).oneCell'=true)∧(∀b,(Value.string b).oneCell'=true)∧(∀a,(Value.pointer a).oneCell'=true)∧(∀a n c,(Value.slice a n c).oneCell'=true)∧(∀a,(Value.map a).oneCell'=true)∧(∀a b c,(Value.func a b c).oneCell'=true)
 ∧ (∀{α:Type} (x:α) (xs:List α) (n:Nat),(x::xs).take (n+1)=x::xs.take n)∧(∀{α:Type} (xs:List α),xs.take 0=[])∧(∀{α:Type} (x:α) (xs:List α) (n:Nat),(x::xs).drop (n+1)=xs.drop n)∧(∀{α:Type} (xs:List α),xs.drop 0=xs)∧(∀{α:Type} (n:Nat),([]:List α).drop n=[])∧(∀{α:Type} (x:α) (xs ys:List α),(x::xs)++ys=x::(xs++ys))∧(∀{α:Type} (ys:List α),[]++ys=ys)∧(∀{α:Type} (ys:List α),ys++[]=ys)∧(∀{α:Type} (x:α) (xs:List α),(x::xs).length=xs.length+1)∧(∀{α:Type},([]:List α).length=0)
 ∧ (∀p:P3,(pt p).cells.toList=[.int .i64 p.x,.int .i64 p.y,.int .i64 p.z])∧(∀p f,vvA (pt p) f=f [.int .i64 p.x,.int .i64 p.y,.int .i64 p.z])
 ∧ (∀t:T3,(tr t).cells.toList=[.int .i64 t.a.x,.int .i64 t.a.y,.int .i64 t.a.z,.int .i64 t.b.x,.int .i64 t.b.y,.int .i64 t.b.z,.int .i64 t.c.x,.int .i64 t.c.y,.int .i64 t.c.z])∧(∀t f,vvA (tr t) f=f [.int .i64 t.a.x,.int .i64 t.a.y,.int .i64 t.a.z,.int .i64 t.b.x,.int .i64 t.b.y,.int .i64 t.b.z,.int .i64 t.c.x,.int .i64 t.c.y,.int .i64 t.c.z])
 ∧ (∀v:P3,(wv v).cells.toList=[.bool (fX v.x),.string (kL v.x),.bool (fX v.y),.string (kL v.y),.bool (fX v.z),.string (kL v.z)])∧(∀v f,vvA (wv v) f=f [.bool (fX v.x),.string (kL v.x),.bool (fX v.y),.string (kL v.y),.bool (fX v.z),.string (kL v.z)])
 ∧ (∀v:P3,(nv v).cells.toList=[.int .i64 v.x,.int .i64 v.y,.int .i64 v.z])∧(∀v f,vvA (nv v) f=f [.int .i64 v.x,.int .i64 v.y,.int .i64 v.z])
 ∧ (∀v:P3,(sg v).cells.toList=[.int .i64 (bA v.x),.int .i64 (bA v.y),.int .i64 (bA v.z)])∧(∀v f,vvA (sg v) f=f [.int .i64 (bA v.x),.int .i64 (bA v.y),.int .i64 (bA v.z)])
 ∧ (∀e:E3,(ed e).cells.toList=[.int .i64 e.1.x,.int .i64 e.1.y,.int .i64 e.1.z,.int .i64 e.2.x,.int .i64 e.2.y,.int .i64 e.2.z])∧(∀e f,vvA (ed e) f=f [.int .i64 e.1.x,.int .i64 e.1.y,.int .i64 e.1.z,.int .i64 e.2.x,.int .i64 e.2.y,.int .i64 e.2.z])
 ∧ (∀p,lA p=[.int .i64 p.x,.int .i64 p.y,.int .i64 p.z])∧(∀p,dF p=[.int .i64 p.x,.int .i64 p.y,.int .i64 p.z])∧(∀e,dD e=[.int .i64 e.1.x,.int .i64 e.1.y,.int .i64 e.1.z,.int .i64 e.2.x,.int .i64 e.2.y,.int .i64 e.2.z])∧(∀n,wC n=[.bool (fX n),.string (kL n)])
 ∧ (∀n,(W n).cells.toList=[.bool (fX n),.string (kL n)])∧(∀n f,vvA (W n) f=f [.bool (fX n),.string (kL n)])
 ∧ (∀q:Rat,(Q q).cells.toList=[.bool (fX q.num),.string (kL q.num),.bool (fX (q.den:Int)),.string (kL (q.den:Int))])∧(∀q f,vvA (Q q) f=f [.bool (fX q.num),.string (kL q.num),.bool (fX (q.den:Int)),.string (kL (q.den:Int))]):=by
 repeat' apply And.intro
 all_goals intros
 all_goals first | rfl | exact asB | exact true_and _ | exact and_true _ | exact kp0 | exact kp1 | exact List.drop_nil | exact fa _ | exact (eD ..).trans (by rw[au]) | exact eD ..
def Fe:List Oper→Nat→(Oper→Prop)→Prop
 | o::_,0,f=>f o
 | _::r,n+1,f=>Fe r n f
 | [],_,_=>False
def Cx:List (List Nat)→Nat→(List Nat→Prop)→Prop
 | s::_,0,f=>f s
 | _::r,n+1,f=>Cx r n f
 | [],_,f=>f []
theorem wB:∀{ss:List (List Nat)} {i:Nat} {f:List Nat→Prop},Cx ss i f→∃s,f s
 | s::_,0,_,h=>⟨s,h⟩
 | _::r,n+1,_,h=>wB (ss:=r) h
 | [],_,_,h=>⟨[],h⟩
def Xr(op:Op)(bs:List Bool):List Bool:=match op with
 | .box _ _ | .alloc _=>false::bs
 | _=>bs
def Ss:List Bool→Nat→Prop→Prop
 | false::_,0,p=>p
 | _::bs,n+1,p=>Ss bs n p
 | _,_,_=>False
def tkV(P:br)(ops:Array Oper)(l:List ai)(hs:List It)(o:Oper)(sc:List Nat)(q:Prop)(K:List Nat→Prop→List ai→Prop):Prop:=match o with
 | ⟨some d,op,_,_,_,g⟩=>Rn ops l g (Fw P l hs [] true op sc fun vc v sc _=>K sc (vc∧q) (l.set d v)) (K sc q (l.set d undef))
 | _=>False
def onV(P:br)(ops:Array Oper)(l:List ai)(is:List It)(bs:List Bool)(o:Oper)(sc:List Nat)(q:Prop)(K:List Nat→Prop→List ai→List It→List Bool→Prop):Prop:=match o with
 | ⟨some d,op,_,_,_,g⟩=>Rn ops l g (Fw P l is [] false op sc fun vc v sc is'=>K sc (vc∧q) (l.set d v) is' (Xr op bs)) (K sc q (l.set d undef) is bs)
 | ⟨none,op,_,_,_,g⟩=>Rn ops l g (Ss bs (sc.headD 0) (stV P l is false op sc fun vc _ sc is'=>K sc (vc∧q) l is' bs)) (K sc q l is bs)
def VT(P:br)(ops:Array Oper)(hs:List It)(ss:List (List Nat))(K:List ai→List It→Prop):qN→Prop→List ai→List It→List Bool→Prop
 | .nil,q,l,is,_=>q∧K l is
 | .take i t,q,l,is,bs=>Fe ops.toList i fun o=>Cx ss i fun sc=>tkV P ops l hs o sc q fun _ q l=>VT P ops hs ss K t q l is bs
 | .one i t,q,l,is,bs=>Fe ops.toList i fun o=>Cx ss i fun sc=>onV P ops l is bs o sc q fun _ q l is bs=>VT P ops hs ss K t q l is bs
 | .two i t j u,q,l,is,bs=>(Fe ops.toList i fun o=>Cx ss i fun sc=>onV P ops l is bs o sc q fun _ q l is bs=>VT P ops hs ss K t q l is bs)∧Fe ops.toList j fun o=>Cx ss j fun sc=>onV P ops l is bs o sc q fun _ q l is bs=>VT P ops hs ss K u q l is bs
 | .three i t j u k v,q,l,is,bs=>(Fe ops.toList i fun o=>Cx ss i fun sc=>onV P ops l is bs o sc q fun _ q l is bs=>VT P ops hs ss K t q l is bs)∧(Fe ops.toList j fun o=>Cx ss j fun sc=>onV P ops l is bs o sc q fun _ q l is bs=>VT P ops hs ss K u q l is bs)∧Fe ops.toList k fun o=>Cx ss k fun sc=>onV P ops l is bs o sc q fun _ q l is bs=>VT P ops hs ss K v q l is bs
theorem wD:∀{ops:List Oper} {i:Nat} {f:Oper→Prop},Fe ops i f→∃o,ops[i]? = some o∧f o
 | o::_,0,_,h=>⟨o,rfl,h⟩
 | _::r,n+1,_,h=>by rw[ic];exact wD (ops:=r) h
theorem aam:∀{bs:List Bool} {k:Nat} {p:Prop},Ss bs k p→bs[k]? = some false∧p
 | false::_,0,_,h=>⟨rfl,h⟩
 | true::_,0,_,h=>h.elim
 | false::bs,n+1,_,h=>by rw[ic];exact aam (bs:=bs) h
 | true::bs,n+1,_,h=>by rw[ic];exact aam (bs:=bs) h
 | [],0,_,h=>h.elim
 | [],_+1,_,h=>h.elim
theorem St:∀{bs:List Bool} {is:List It} {k:Nat} {i:It},bs[k]? = some false→pW bs (is.set k i)=pW bs is
 | false::bs,_::is,0,_,_=>rfl
 | true::bs,_::is,0,_,h=>by cases h
 | true::bs,j::is,k+1,i,h=>by
  rw[fx];show j::pW bs (is.set k i)=j::pW bs is
  rw[St (by simpa using h)]
 | false::bs,j::is,k+1,i,h=>by
  rw[fx];show pW bs (is.set k i)=pW bs is
  exact St (by simpa using h)
 | _,[],k,i,_=>by rw[List.set_nil]
 | [],_::_,_,_,h=>by cases h
section
variable {P:br} {w0:aj} {ds:List dz} {ops:Array Oper} {hs:List It} {K:List ai→List It→Prop} {Q:Exit→Act→aj→Prop}
theorem aqm{p:Prop}(h:n=m+1)(hp:p):vnX n p:=by subst h;exact hp
theorem aqn{l:List ai}{is:List It}{sc:List Nat}{K:KV}(h:stV P l is false op sc K):∃i',stV P l is false op sc (fun vc v sc' is'=>is'=is.set (sc.headD 0) i'∧K vc v sc' is'):=by
 unfold stV at h ⊢;split at h
 · rename_i T x y k sc
   obtain⟨z,hz,h⟩:=oX (show Bj _ _ from h);obtain⟨n,hn,h⟩:=Zw h;obtain⟨a,hx,h⟩:=Lp h;obtain⟨i,g,hi,hb,h⟩:=adC h;refine⟨bI g.1 (over g.2.1 a.off (ev l y).cells.toList) g.2.2,?_⟩;refine (show Bj (tV P T) _ from ?_);rw[hz];refine (show vnX z.2 _ from aqm hn ?_);rw[hx];refine (show atM is k _ from ?_);have key:∀{is:List It} {k:Nat} {f:Ob→Prop},is[k]? = some i→f g→atM is k f:=by
    intro is
    induction is with
    | nil=>intro k f h;cases h
    | cons j is ih =>
     intro k f h hf;cases k with
     | zero=>cases h;show Bj i.bk f;rw[hb];exact hf
     | succ k=>exact ih (by simpa using h) hf
   exact key hi ⟨O,h⟩
 · exact h.elim
theorem aqo{l:List ai}{is:List It}{os:List Ob}{sc:List Nat}{K:KV}(h:Fw P l is os false op sc K):(∃cs T,(∀g,K True (.pointer (some ⟨g,0,none⟩)) sc (bI g cs T::is))∧Bx P l is w0 ds op cs T∧∀bs,Xr op bs=false::bs)∨(Fw P l is os true op sc K∧∀bs,Xr op bs=bs):=by
 cases op
 case box T x=>exact .inl ⟨_,_,h,fun d ty pos af ops Q rest w m hk=>ah0 (by simp) fun u g e hg hB=>hk g u e (m.newB e hg hB),fun _=>rfl⟩
 case alloc T =>
  obtain⟨cs,hz,h⟩:=oX (show Bj _ _ from h);obtain⟨z,h1,h2⟩:=Zu hz;exact .inl ⟨_,_,h,fun d ty pos af ops Q rest w m hk=>Dw h1 h2 fun u g e hg hB=>hk g u e (m.newB e hg hB),fun _=>rfl⟩
 case unOp u T x=>cases u <;> exact .inr ⟨h,fun _=>rfl⟩
 all_goals exact .inr ⟨h,fun _=>rfl⟩
theorem Mb{l:List ai}{is:List It}{bs:List Bool}{o:Oper}{i:Nat}{t:qN}{sc:List Nat}{q:Prop}{G:List Nat→Prop→List ai→List It→List Bool→Prop}(hsel:pW bs is=hs)(ho:ops.toList[i]? = some o)(h:onV P ops l is bs o sc q G)
 (ih:∀sc q l is bs,pW bs is=hs→G sc q l is bs→q∧∀w,Mem w0 w is→cO P ops (fun u=>Mem w0 u hs) Q t (Fr l ds) w) :
 q∧∀w,Mem w0 w is→ar P ops (Exit.then (fun a w=>Mem w0 w hs∧cO P ops (fun u=>Mem w0 u hs) Q t a w) Q) [(ops[i]?).getD default] (Fr l ds) w:=by
 have ho':(ops[i]?).getD default=o:=by
  rw[←fv,ho];rfl
 rw[ho'];have stay:∀{bs':List Bool} {is':List It} {w:aj},pW bs' is'=hs→Mem w0 w is'→Mem w0 w hs:=fun e m=>e▸m.sel _;obtain⟨d,op,ty,pos,af,g⟩:=o;cases d with
 | some d =>
  rcases Lr (show Rn _ _ _ _ _ from h) with ⟨h,hw⟩ | ⟨h,hw⟩
  · rcases aqo (w0:=w0) (ds:=ds) h with ⟨cs,T,h,hb,hn⟩ | ⟨h,hn⟩
    · rw[hn] at h
      have e:∀g,pW (false::bs) (bI g cs T::is)=hs:=fun _=>hsel;exact⟨(ih _ _ _ _ _ (e 0) (h 0)).1.2,fun w m=>pF (hw _ _ _ _ _) (hb d ty pos af ops _ [] w m fun g u _ mu=>aM ⟨stay (e g) mu,(ih _ _ _ _ _ (e g) (h g)).2 u mu⟩)⟩
    · rcases Zy (ds:=ds) abw h with ⟨vc,v,sc',h,hy⟩ | ⟨e,_⟩
      · rw[hn] at h
        obtain⟨⟨hv,hq⟩,hk⟩:=ih _ _ _ _ _ hsel h;exact⟨hq,fun w m=>pF (hw _ _ _ _ _) (fG (hy hv w m ty) (aM ⟨stay hsel m,hk w m⟩))⟩
      · cases e
  · obtain⟨hq,hk⟩:=ih _ _ _ _ _ hsel h
    exact⟨hq,fun w m=>vT (hw _ _ _ _ _) (by rw[gL];exact aM ⟨stay hsel m,hk w m⟩)⟩
 | none =>
  rcases Lr (show Rn _ _ _ _ _ from h) with ⟨h,hw⟩ | ⟨h,hw⟩
  · obtain⟨hb,h⟩:=aam h
    obtain⟨i',h⟩:=aqn h;obtain⟨_,vc,sc',is',⟨rfl,h⟩,hy⟩:=ai3 (w0:=w0) (ds:=ds) h;have e:=(St (i:=i') (is:=is) hb).trans hsel;obtain⟨⟨hv,hq⟩,hk⟩:=ih _ _ _ _ _ e h;exact⟨hq,fun w m=>pF (hw _ _ _ _ _) (hy hv ty pos af ops _ [] w m fun u mu=>aM ⟨stay e mu,hk u mu⟩)⟩
  · obtain⟨hq,hk⟩:=ih _ _ _ _ _ hsel h
    exact⟨hq,fun w m=>vT (hw _ _ _ _ _) (aM ⟨stay hsel m,hk w m⟩)⟩
theorem Ji{ss:List (List Nat)}(hK:∀l is,K l is→∀w,Mem w0 w is→Q .normal (Fr l ds) w):∀(t:qN) (q:Prop) (l:List ai) (is:List It) (bs:List Bool),pW bs is=hs→VT P ops hs ss K t q l is bs→q∧∀w,Mem w0 w is→cO P ops (fun u=>Mem w0 u hs) Q t (Fr l ds) w
 | .nil,q,l,is,bs,_,h=>⟨h.1,fun w m=>hK _ _ h.2 w m⟩
 | .take i t,q,l,is,bs,hsel,h=>by
  obtain⟨⟨d,op,ty,pos,af,g⟩,ho,h⟩:=wD h;obtain⟨sc,h⟩:=wB h;have ho':(ops[i]?).getD default=⟨d,op,ty,pos,af,g⟩:=by
   rw[←fv,ho];rfl
  cases d with
  | none=>exact h.elim
  | some d =>
   rcases Lr (show Rn _ _ _ _ _ from h) with ⟨h,hw⟩ | ⟨h,hw⟩
   · rcases Zy (w0:=w0) (ds:=ds) abw h with ⟨vc,v,sc',h,hy⟩ | ⟨e,_⟩
     · obtain⟨⟨hv,hq⟩,hk⟩:=Ji hK t _ _ _ _ hsel h
       refine⟨hq,fun w m=>eN ho' ?_⟩;refine⟨v,.inl ⟨hw _ _ _ _ _,fun u mu=>hy hv u mu ty _ O O⟩,?_⟩;show cO P ops _ Q t ((Fr l ds).put (some d) v) w
       rw[gL];exact hk w m
     · cases e
   · obtain⟨hq,hk⟩:=Ji hK t _ _ _ _ hsel h
     refine⟨hq,fun w m=>eN ho' ?_⟩;refine⟨undef,.inr ⟨hw _ _ _ _ _,O⟩,?_⟩;show cO P ops _ Q t ((Fr l ds).put (some d) undef) w
     rw[gL];exact hk w m
 | .one i t,q,l,is,bs,hsel,h=>by
  obtain⟨o,ho,h⟩:=wD h;obtain⟨sc,h⟩:=wB h;exact Mb hsel ho h fun sc q l is bs e h=>Ji hK t q l is bs e h
 | .two i t j u,q,l,is,bs,hsel,h=>by
  obtain⟨h1,h2⟩:=h;obtain⟨o,ho,h1⟩:=wD h1;obtain⟨_,h1⟩:=wB h1;obtain⟨o2,ho2,h2⟩:=wD h2;obtain⟨_,h2⟩:=wB h2;have r1:=Mb (Q:=Q) (t:=t) hsel ho h1 fun sc q l is bs e h=>Ji hK t q l is bs e h;have r2:=Mb (Q:=Q) (t:=u) hsel ho2 h2 fun sc q l is bs e h=>Ji hK u q l is bs e h;exact⟨r1.1,fun w m=>⟨r1.2 w m,r2.2 w m⟩⟩
 | .three i t j u k v,q,l,is,bs,hsel,h=>by
  obtain⟨h1,h2,h3⟩:=h;obtain⟨o,ho,h1⟩:=wD h1;obtain⟨_,h1⟩:=wB h1;obtain⟨o2,ho2,h2⟩:=wD h2;obtain⟨_,h2⟩:=wB h2;obtain⟨o3,ho3,h3⟩:=wD h3;obtain⟨_,h3⟩:=wB h3;have r1:=Mb (Q:=Q) (t:=t) hsel ho h1 fun sc q l is bs e h=>Ji hK t q l is bs e h;have r2:=Mb (Q:=Q) (t:=u) hsel ho2 h2 fun sc q l is bs e h=>Ji hK u q l is bs e h;have r3:=Mb (Q:=Q) (t:=v) hsel ho3 h3 fun sc q l is bs e h=>Ji hK v q l is bs e h;exact⟨r1.1,fun w m=>⟨r1.2 w m,r2.2 w m,r3.2 w m⟩⟩
end
theorem zvt{P:br}{w0 w:aj}{ds:List dz}{s:List Ko}{R:Exit→Act→aj→Prop}{is:List It}{id:Nat}{l0:List ai}{l:List Oper}(bs:List Bool)(ss:List (List Nat))(t:qN)(m:Mem w0 w is)(hm:P.follows .mixedOrders=true)(hB:(Region.noSelect l.toArray&&t.ok .any l.toArray l.toArray.size (Array.replicate l.toArray.size false))=true)
 (hQ:∀c d v a w,Ct P R s (.panic c) (Act.put a d v) w→Ct P R s (.panic c) a w)
 (h:VT P l.toArray (pW bs is) ss (fun l is=>∀w,Mem w0 w is→Ct P R s .normal (Fz l ds) w) t True l0 is bs):(Code.region id l.toArray true).wp P (Ct P R s) (Fr l0 ds) w :=
 Wi m bs t hm hB hQ fun _ mu=>(Ji (fun _ _ h=>h) t True l0 is bs rfl h).2 _ mu
theorem fN{ops i i' f}(h:i=i'):Fe ops i f=Fe ops i' f:=by rw[h]
theorem fO{ss i i' f}(h:i=i'):Cx ss i f=Cx ss i' f:=by rw[h]
theorem fP{bs bs' k p}(h:bs=bs'):Ss bs k p=Ss bs' k p:=by rw[h]
theorem iU{P ops l l' hs o sc q K}(h:l=l'):tkV P ops l hs o sc q K=tkV P ops l' hs o sc q K:=by rw[h]
theorem iV{P ops l l' is bs o sc q K}(h:l=l'):onV P ops l is bs o sc q K=onV P ops l' is bs o sc q K:=by rw[h]
theorem lM{P ops hs ss K t q l l' is bs}(h:l=l'):VT P ops hs ss K t q l is bs=VT P ops hs ss K t q l' is bs:=by rw[h]
theorem aqp{b:Bool}{bs:List Bool}{p:Prop}:Ss (b::bs) (n+1) p=Ss bs n p:=by cases b <;> rfl
theorem zzu:(∀o r f,Fe (o::r) 0 f=f o)∧(∀o r n f,Fe (o::r) (n+1) f=Fe r n f)
 ∧ (∀s r f,Cx (s::r) 0 f=f s)∧(∀s r n f,Cx (s::r) (n+1) f=Cx r n f)∧(∀n f,Cx [] n f=f [])
 ∧ (∀T x bs,Xr (.box T x) bs=false::bs)∧(∀T bs,Xr (.alloc T) bs=false::bs)∧(∀x bs,Xr (.move x) bs=bs)∧(∀x bs,Xr (.assign x) bs=bs)∧(∀x bs,Xr (.nilCheck x) bs=bs)∧(∀a b c bs,Xr (.pick a b c) bs=bs)∧(∀a b c d e bs,Xr (.binOp a b c d e) bs=bs)∧(∀a b c bs,Xr (.unOp a b c) bs=bs)∧(∀a b c bs,Xr (.convert a b c) bs=bs)∧(∀a b c bs,Xr (.fieldAddr a b c) bs=bs)∧(∀a b c bs,Xr (.field a b c) bs=bs)∧(∀a b c bs,Xr (.indexAddr a b c) bs=bs)∧(∀a b bs,Xr (.build a b) bs=bs)∧(∀a b bs,Xr (.extract a b) bs=bs)∧(∀a b bs,Xr (.load a b) bs=bs)∧(∀a bs,Xr (.call a) bs=bs)
 ∧ (∀bs p,Ss (false::bs) 0 p=p)∧(∀b bs n p,Ss (b::bs) (n+1) p=Ss bs n p)∧(∀(k:Nat) sc,List.headD (k::sc) 0=k)
 ∧ (∀P ops l hs d op ty pos af g sc q K,tkV P ops l hs ⟨some d,op,ty,pos,af,g⟩ sc q K=Rn ops l g (Fw P l hs [] true op sc fun vc v sc _=>K sc (vc∧q) (l.set d v)) (K sc q (l.set d undef)))
 ∧ (∀P ops l is bs d op ty pos af g sc q K,onV P ops l is bs ⟨some d,op,ty,pos,af,g⟩ sc q K=Rn ops l g (Fw P l is [] false op sc fun vc v sc is'=>K sc (vc∧q) (l.set d v) is' (Xr op bs)) (K sc q (l.set d undef) is bs))
 ∧ (∀P ops l is bs op ty pos af g k sc q K,onV P ops l is bs ⟨none,op,ty,pos,af,g⟩ (k::sc) q K=Rn ops l g (Ss bs k (stV P l is false op (k::sc) fun vc _ sc is'=>K sc (vc∧q) l is' bs)) (K (k::sc) q l is bs))
 ∧ (∀P ops hs ss K q l is bs,VT P ops hs ss K .nil q l is bs=(q∧K l is))
 ∧ (∀P ol hs ss K i t q l is bs,VT P (jv ol) hs ss K (.take i t) q l is bs=Fe ol i fun o=>Cx ss i fun sc=>tkV P ol.toArray l hs o sc q fun _ q l=>VT P ol.toArray hs ss K t q l is bs)
 ∧ (∀P ol hs ss K i t q l is bs,VT P (jv ol) hs ss K (.one i t) q l is bs=Fe ol i fun o=>Cx ss i fun sc=>onV P ol.toArray l is bs o sc q fun _ q l is bs=>VT P ol.toArray hs ss K t q l is bs)
 ∧ (∀P ol hs ss K i t j u q l is bs,VT P (jv ol) hs ss K (.two i t j u) q l is bs=(VT P ol.toArray hs ss K (.one i t) q l is bs∧VT P ol.toArray hs ss K (.one j u) q l is bs))
 ∧ (∀P ol hs ss K i t j u k v q l is bs,VT P (jv ol) hs ss K (.three i t j u k v) q l is bs=(VT P ol.toArray hs ss K (.one i t) q l is bs∧VT P ol.toArray hs ss K (.one j u) q l is bs∧VT P ol.toArray hs ss K (.one k v) q l is bs))
 ∧ (∀p:Prop,(p∧p)=p)∧(∀p q r:Prop,((p∧r)∧(q∧r))=((p∧q)∧r)):=by
 repeat' apply And.intro
 all_goals intros
 all_goals first | rfl | exact aqp | exact and_self _ | exact propext ⟨fun h=>⟨⟨h.1.1,h.2.1⟩,h.1.2⟩,fun h=>⟨⟨h.1.1,h.2⟩,h.1.2,h.2⟩⟩
end Go.Lith
namespace Go.Proofs.YtfekpcimgncioaaGreatDoor
open Go.Proofs.Tryz
open Go.RowKit Go.Lith
set_option maxRecDepth 100000
theorem cY:tV prog 3=some (false,1):=by kernel_rfl
theorem aum:Lo prog 3=some [.int .i64 0]:=by kernel_rfl
theorem Mc:ikP prog 3=some .i64:=by kernel_rfl
theorem Jj:tV prog 4=some (false,1):=by kernel_rfl
theorem xM:ikP prog 5=some .u8:=by kernel_rfl
theorem ad4:tV prog 9=some (false,1):=by kernel_rfl
theorem kM:Im prog 22=some 3:=by kernel_rfl
theorem ao2:tV prog 23=some (false,1):=by kernel_rfl
theorem asN:ikP prog 23=some .u16:=by kernel_rfl
theorem asO:tV prog 24=some (true,2):=by kernel_rfl
theorem ao3:ixP prog 24=some (some 2,1):=by kernel_rfl
theorem Xs:tV prog 26=some (false,1):=by kernel_rfl
theorem kA:Im prog 27=some 39:=by kernel_rfl
theorem aS:tV prog 30=some (true,3):=by kernel_rfl
theorem eS:Lo prog 30=some [.int .i64 0,.int .i64 0,.int .i64 0]:=by kernel_rfl
theorem gE:oA prog 30 0=some (0,false,1):=by kernel_rfl
theorem gI:oA prog 30 1=some (1,false,1):=by kernel_rfl
theorem iX:oA prog 30 2=some (2,false,1):=by kernel_rfl
theorem xN:xI prog 30=some ([(0,1),(1,1),(2,1)],[.int .i64 0,.int .i64 0,.int .i64 0]):=by kernel_rfl
theorem vB:tV prog 36=some (true,3):=by kernel_rfl
theorem xO:Lo prog 36=some [.int .i64 0,.int .i64 0,.int .i64 0]:=by kernel_rfl
theorem eW:ixP prog 36=some (some 3,1):=by kernel_rfl
theorem tE:xI prog 36=some ([(0,1),(1,1),(2,1)],[.int .i64 0,.int .i64 0,.int .i64 0]):=by kernel_rfl
theorem ao4:tV prog 38=some (true,9):=by kernel_rfl
theorem asP:Lo prog 38=some [.int .i64 0,.int .i64 0,.int .i64 0,.int .i64 0,.int .i64 0,.int .i64 0,.int .i64 0,.int .i64 0,.int .i64 0]:=by kernel_rfl
theorem eL:tV prog 39=some (true,9):=by kernel_rfl
theorem nX:Lo prog 39=some [.int .i64 0,.int .i64 0,.int .i64 0,.int .i64 0,.int .i64 0,.int .i64 0,.int .i64 0,.int .i64 0,.int .i64 0]:=by kernel_rfl
theorem bT:ixP prog 39=some (some 3,3):=by kernel_rfl
theorem qT:xI prog 39=some ([(0,3),(3,3),(6,3)],[.int .i64 0,.int .i64 0,.int .i64 0,.int .i64 0,.int .i64 0,.int .i64 0,.int .i64 0,.int .i64 0,.int .i64 0]):=by kernel_rfl
theorem ao5:Im prog 46=some 55:=by kernel_rfl
theorem abX:Im prog 52=some 56:=by kernel_rfl
theorem asQ:xI prog 55=some ([(0,3),(3,3)],[.int .i64 0,.int .i64 0,.int .i64 0,.int .i64 0,.int .i64 0,.int .i64 0]):=by kernel_rfl
theorem Fx:tV prog 56=some (true,6):=by kernel_rfl
theorem Xt:Lo prog 56=some [.int .i64 0,.int .i64 0,.int .i64 0,.int .i64 0,.int .i64 0,.int .i64 0]:=by kernel_rfl
theorem Su:ixP prog 56=some (some 2,3):=by kernel_rfl
theorem Fy:xI prog 56=some ([(0,3),(3,3)],[.int .i64 0,.int .i64 0,.int .i64 0,.int .i64 0,.int .i64 0,.int .i64 0]):=by kernel_rfl
theorem Nz:tV prog 62=some (false,1):=by kernel_rfl
theorem ao6:Im prog 62=some 4:=by kernel_rfl
theorem kZ:Im prog 65=some 30:=by kernel_rfl
theorem ao7:ixP prog 65=some (none,3):=by kernel_rfl
theorem afA:tV prog 88=some (false,1):=by kernel_rfl
theorem asR:Lo prog 88=some [.pointer none]:=by kernel_rfl
theorem afB:tV prog 93=some (false,1):=by kernel_rfl
theorem asS:Lo prog 93=some [.map none]:=by kernel_rfl
theorem fD:tV prog 95=some (true,2):=by kernel_rfl
theorem nF:Lo prog 95=some [.bool false,.string ⟨#[]⟩]:=by kernel_rfl
theorem mU:oA prog 95 0=some (0,false,1):=by kernel_rfl
theorem zX:oA prog 95 1=some (1,false,1):=by kernel_rfl
theorem ao8:xI prog 95=some ([(0,1),(1,1)],[.bool false,.string ⟨#[]⟩]):=by kernel_rfl
theorem ajA:Lo prog 97=some [.bool false,.string ⟨#[]⟩,.bool false,.string ⟨#[]⟩,.bool false,.string ⟨#[]⟩,.bool false,.string ⟨#[]⟩,.bool false,.string ⟨#[]⟩,.bool false,.string ⟨#[]⟩,.bool false,.string ⟨#[]⟩,.bool false,.string ⟨#[]⟩,.bool false,.string ⟨#[]⟩,.bool false,.string ⟨#[]⟩]:=by kernel_rfl
theorem aan:tV prog 100=some (false,1):=by kernel_rfl
theorem aqq:Lo prog 100=some [.map none]:=by kernel_rfl
theorem aqr:Im prog 105=some 112:=by kernel_rfl
theorem aqs:tV prog 106=some (false,1):=by kernel_rfl
theorem aqt:tV prog 107=some (false,1):=by kernel_rfl
theorem ajB:oA prog 109 0=some (0,false,1):=by kernel_rfl
theorem Sv:oA prog 109 1=some (1,false,1):=by kernel_rfl
theorem Sw:oA prog 109 2=some (2,false,1):=by kernel_rfl
theorem aqu:xI prog 109=some ([(0,1),(1,1),(2,1)],[.slice none 0 0,.map none,.map none]):=by kernel_rfl
theorem ad5:tV prog 112=some (true,8):=by kernel_rfl
theorem ad6:Lo prog 112=some [.int .i64 0,.int .i64 0,.int .i64 0,.int .i64 0,.int .i64 0,.int .i64 0,.bool false,.string ⟨#[]⟩]:=by kernel_rfl
theorem Cy:oA prog 112 0=some (0,true,3):=by kernel_rfl
theorem vC:oA prog 112 1=some (3,true,3):=by kernel_rfl
theorem ad7:tV prog 139=some (true,2):=by kernel_rfl
theorem aqv:Lo prog 139=some [.int .i64 0,.slice none 0 0]:=by kernel_rfl
theorem Jk:oA prog 139 0=some (0,false,1):=by kernel_rfl
theorem sE:oA prog 139 1=some (1,false,1):=by kernel_rfl
theorem aqw:Im prog 157=some 26:=by kernel_rfl
theorem Md:ixP prog 157=some (none,1):=by kernel_rfl
theorem aqx:Im prog 212=some 215:=by kernel_rfl
theorem vD:tV prog 215=some (true,6):=by kernel_rfl
theorem Cz:Lo prog 215=some [.int .i64 0,.int .i64 0,.int .i64 0,.int .i64 0,.int .i64 0,.int .i64 0]:=by kernel_rfl
theorem Sx:oA prog 215 0=some (0,true,3):=by kernel_rfl
theorem Da:oA prog 215 1=some (3,true,3):=by kernel_rfl
theorem Me:xI prog 215=some ([(0,3),(3,3)],[.int .i64 0,.int .i64 0,.int .i64 0,.int .i64 0,.int .i64 0,.int .i64 0]):=by kernel_rfl
theorem ajC:oA prog 218 0=some (0,false,1):=by kernel_rfl
theorem Sy:oA prog 218 2=some (4,true,3):=by kernel_rfl
theorem Sz:oA prog 218 3=some (7,false,1):=by kernel_rfl
theorem ajD:oA prog 218 4=some (8,false,1):=by kernel_rfl
theorem Jl:oA prog 218 5=some (9,false,1):=by kernel_rfl
theorem Ta:oA prog 218 7=some (11,false,1):=by kernel_rfl
theorem ad8:tV prog 222=some (true,6):=by kernel_rfl
theorem ad9:Lo prog 222=some [.int .i64 0,.int .i64 0,.int .i64 0,.int .i64 0,.int .i64 0,.int .i64 0]:=by kernel_rfl
theorem kE:oA prog 222 0=some (0,true,3):=by kernel_rfl
theorem kF:oA prog 222 1=some (3,true,3):=by kernel_rfl
theorem aqy:xI prog 222=some ([(0,3),(3,3)],[.int .i64 0,.int .i64 0,.int .i64 0,.int .i64 0,.int .i64 0,.int .i64 0]):=by kernel_rfl
theorem ajE:tV prog 229=some (true,8):=by kernel_rfl
theorem aea:Lo prog 229=some [.bool false,.string ⟨#[]⟩,.bool false,.string ⟨#[]⟩,.bool false,.string ⟨#[]⟩,.bool false,.string ⟨#[]⟩]:=by kernel_rfl
theorem Mf:ixP prog 229=some (some 4,2):=by kernel_rfl
theorem ajF:xI prog 229=some ([(0,2),(2,2),(4,2),(6,2)],[.bool false,.string ⟨#[]⟩,.bool false,.string ⟨#[]⟩,.bool false,.string ⟨#[]⟩,.bool false,.string ⟨#[]⟩]):=by kernel_rfl
theorem Db:ikP prog 231=some .u64:=by kernel_rfl
theorem kG:Im prog 233=some 231:=by kernel_rfl
theorem aqz:tV prog 243=some (true,3):=by kernel_rfl
theorem aqA:Lo prog 243=some [.nilFunc,.nilFunc,.nilFunc]:=by kernel_rfl
theorem aqB:xI prog 243=some ([(0,1),(1,1),(2,1)],[.nilFunc,.nilFunc,.nilFunc]):=by kernel_rfl
theorem ajG:oA prog 245 0=some (0,false,1):=by kernel_rfl
theorem ajH:oA prog 245 1=some (1,false,1):=by kernel_rfl
theorem ajI:oA prog 245 2=some (2,false,1):=by kernel_rfl
theorem ajJ:tV prog 257=some (true,6):=by kernel_rfl
theorem Tb:Lo prog 257=some [.bool false,.string ⟨#[]⟩,.bool false,.string ⟨#[]⟩,.bool false,.string ⟨#[]⟩]:=by kernel_rfl
theorem vE:ixP prog 257=some (some 3,2):=by kernel_rfl
theorem aqC:xI prog 257=some ([(0,2),(2,2),(4,2)],[.bool false,.string ⟨#[]⟩,.bool false,.string ⟨#[]⟩,.bool false,.string ⟨#[]⟩]):=by kernel_rfl
theorem qG:oA prog 264 0=some (0,true,8):=by kernel_rfl
theorem vF:oA prog 264 1=some (8,true,24):=by kernel_rfl
theorem aqD:xI prog 264=some ([(0,8),(8,24)],[.bool false,.bool false,.bool false,.bool false,.bool false,.bool false,.bool false,.bool false,.int .i64 0,.int .i64 0,.int .i64 0,.int .i64 0,.int .i64 0,.int .i64 0,.int .i64 0,.int .i64 0,.int .i64 0,.int .i64 0,.int .i64 0,.int .i64 0,.int .i64 0,.int .i64 0,.int .i64 0,.int .i64 0,.int .i64 0,.int .i64 0,.int .i64 0,.int .i64 0,.int .i64 0,.int .i64 0,.int .i64 0,.int .i64 0]):=by kernel_rfl
theorem aqE:tV prog 266=some (true,24):=by kernel_rfl
theorem aqF:Lo prog 266=some [.bool false,.bool false,.bool false,.bool false,.bool false,.bool false,.bool false,.bool false,.bool false,.bool false,.bool false,.bool false,.bool false,.bool false,.bool false,.bool false,.bool false,.bool false,.bool false,.bool false,.bool false,.bool false,.bool false,.bool false]:=by kernel_rfl
theorem aqG:xI prog 266=some ([(0,1),(1,1),(2,1),(3,1),(4,1),(5,1),(6,1),(7,1),(8,1),(9,1),(10,1),(11,1),(12,1),(13,1),(14,1),(15,1),(16,1),(17,1),(18,1),(19,1),(20,1),(21,1),(22,1),(23,1)],[.bool false,.bool false,.bool false,.bool false,.bool false,.bool false,.bool false,.bool false,.bool false,.bool false,.bool false,.bool false,.bool false,.bool false,.bool false,.bool false,.bool false,.bool false,.bool false,.bool false,.bool false,.bool false,.bool false,.bool false]):=by kernel_rfl
theorem ajK:tV prog 273=some (true,6):=by kernel_rfl
theorem ajL:Lo prog 273=some [.bool false,.string ⟨#[]⟩,.bool false,.string ⟨#[]⟩,.bool false,.string ⟨#[]⟩]:=by kernel_rfl
theorem oY:ixP prog 273=some (some 3,2):=by kernel_rfl
theorem aqH:tV prog 280=some (true,18):=by kernel_rfl
theorem aqI:Lo prog 280=some [.int .i64 0,.int .i64 0,.int .i64 0,.int .i64 0,.int .i64 0,.int .i64 0,.int .i64 0,.int .i64 0,.int .i64 0,.int .i64 0,.int .i64 0,.int .i64 0,.int .i64 0,.int .i64 0,.int .i64 0,.int .i64 0,.int .i64 0,.int .i64 0]:=by kernel_rfl
theorem aqJ:xI prog 280=some ([(0,6),(6,6),(12,6)],[.int .i64 0,.int .i64 0,.int .i64 0,.int .i64 0,.int .i64 0,.int .i64 0,.int .i64 0,.int .i64 0,.int .i64 0,.int .i64 0,.int .i64 0,.int .i64 0,.int .i64 0,.int .i64 0,.int .i64 0,.int .i64 0,.int .i64 0,.int .i64 0]):=by kernel_rfl
theorem ajM:tV prog 333=some (true,3):=by kernel_rfl
theorem ajN:Lo prog 333=some [.int .i64 0,.int .i64 0,.int .i64 0]:=by kernel_rfl
theorem sW:ixP prog 333=some (some 3,1):=by kernel_rfl
theorem aqK:xI prog 333=some ([(0,1),(1,1),(2,1)],[.int .i64 0,.int .i64 0,.int .i64 0]):=by kernel_rfl
end Go.Proofs.YtfekpcimgncioaaGreatDoor
namespace Go.Proofs.YtfekpcimgncioaaGreatDoor
open Go.Proofs.Tryz
open Go.RowKit Go.Lith
set_option maxRecDepth 100000
attribute [local irreducible] ar wpQuiet gG bQ cO Code.wp
attribute [local congr] rC gX gY gZ iA iB lI iC iD iE iF iG iH iJ iK iL iM iN fJ fK iO iP iR iS iT lK dW dX cX dV iQ lJ fN fO fP iU iV lM
variable{q:P3}{ts ls:List T3}{N cap:Nat}{A:Option Addr}{t s:T3}{x y z:Bool}
theorem nQ{p:P3}:dT prog 38 [pt p,pt q] (.bool (decide (p.Lt q))):=by
 intro w;refine⟨bK func38 (by kernel_rfl),?_⟩;have m:=Mem.refl w
 go_enter func38,ntmps38
 apply jP 15 [1,0,0,0] m;simp only[↓aD,gE,cY,aa];intro g1 g2 u m;refine bG O ?_ ?_<;>intro hc1
 ·
  apply aJ 10 [1,0,0] m;simp only[↓aD,gE,cY,aa];refine aT O O ?_;try simp only[zD,zE]
  exact⟨_,O,m.ext,by simp only[P3.lt_x hc1]⟩
 ·
  have ex:p.x=q.x:=by omega
  apply aJ 10 [1,0,0,0] m;simp only[↓aD,gI,cY,aa];refine bG O ?_ ?_<;>intro hc2
  ·
   apply aJ 10 [1,0,0] m;simp only[↓aD,gI,cY,aa];refine aT O O ?_;try simp only[zD,zE]
   exact⟨_,O,m.ext,by simp only[P3.lt_y ex hc2]⟩
  ·
   have ey:p.y=q.y:=by omega
   apply aJ 11 [1,0,0] m;simp only[↓aD,iX,cY,aa];refine aT O O ?_;try simp only[zD,zE]
   exact⟨_,O,m.ext,by simp only[P3.lt_z ex ey]⟩
theorem ajO{a b:E3}:dT prog 78 [ed a,ed b] (.bool (ltE a b)):=by
 intro w;refine⟨bK func78 (by kernel_rfl),?_⟩;have m:=Mem.refl w
 go_enter func78,ntmps78
 apply jP 13 [1,0,0] m;simp only[↓aD,Su,aS,ad,ag,aa];intro g1 g2;refine⟨by omega,?_⟩;intro u m;refine aB (gW O O) ?_;apply aL 1 [0] m;simp only[↓aD];refine bG O ?_ ?_<;>intro hc1
 ·
  apply aJ 6 [1,0,0] m;simp only[↓aD,Su,aS,ad,ag,aa];refine⟨by omega,?_⟩;refine nV m O O (nQ (p:=a.1) (q:=b.1)) 3 [] ?_;simp only[↓aD];intro u m;refine aT O O ?_;try simp only[zD,zE]
  exact⟨_,O,m.ext,by rw[ltE,if_pos (fun h=>hc1 (by rw[h];exact⟨O,O,O⟩))]⟩
 ·
  apply aJ 7 [1,0,0] m;simp only[↓aD,Su,aS,ad,ag,aa];refine⟨by omega,?_⟩;refine nV m O O (nQ (p:=a.2) (q:=b.2)) 3 [] ?_;simp only[↓aD];intro u m;refine aT O O ?_;try simp only[zD,zE]
  exact⟨_,O,m.ext,by rw[ltE,if_neg (fun h=>h (P3.eq (Classical.not_not.1 hc1).1 (Classical.not_not.1 hc1).2.1 (Classical.not_not.1 hc1).2.2))]⟩
theorem afC(w:aj)(hT:bV w A N ts)(hN:N≤1000000000):dQ prog 76 [.slice A N cap] w (SL 56 6 ((aX ts).flatMap dD) (aX ts).length w):=by
 refine⟨bK func76 (by kernel_rfl),?_⟩;have m:=Mem.refl w
 go_enter func76,ntmps76
 apply fF 6 [0] m;simp only[↓aD];refine aB aO ?_;replace m:=m.nilO 56 6;apply aL 7 [0] m;simp only[↓aD];refine bX [3,4] [5,6,7,8,9,10,11,12,13,14,15,16,17,18,19,20,21,22,23,24,25,26,27,28,29,30,31,32,33] (fun n vs wl=>∃(k:Nat) (A3:Option Addr) (cap3:Nat),vs=[.slice A3 (aX (ts.take k)).length cap3,.int .i64 (k:Int)]∧Mem w wl [oI 56 6 A3 (aX (ts.take k)).length cap3 ((aX (ts.take k)).flatMap dD)]∧(k≤N)∧(n=N-k)) ?_ ?_
 ·
  exact⟨_,0,_,_,O,m,cv _,O⟩
 ·
  intro n vs wr hI u K1 hK1;obtain⟨k,A3,cap3,rfl,m,hk,hn⟩:=hI;simp only[zu,zF,zG];apply aJ 8 [0,0] m;simp only[↓aD,kA];refine bG O ?_ ?_<;>intro hc1
  ·
   obtain⟨t,ht,_,a,rfl,hrow⟩:=hT.get (i:=k) (by omega);apply aJ 7 [0] m;simp only[↓aD];refine aB (aF cH aP O O (by omega) (by omega) (cQ (ah _))) ?_;simp only[zz];refine aR O ((hrow.ext m.ext).lies cF aP) ?_;simp only[zz];apply kD 17 [0,0,0,0,0,0] m;simp only[↓aD,nX,eL,bT,aS,Fy,aa,ad,ag];intro g1;refine⟨by omega,?_⟩;intro u m;apply aW 3 [0,0] m;simp only[↓aD,bT,aS,Fy,ad,ag,aa];refine⟨by omega,?_⟩;refine agD O O O ?_;intro u g2 e_ h_ k_;replace m:=m.newB e_ h_ k_;simp only[zz];refine bL m 2 O O pZ Cg O (by decide) O O O (m.b 0 O).rowsO (gB O) (by have:=uC (ts.take k);rw[bp] at this;omega) (by have:=uC (ts.take k);rw[bp] at this;omega) ?_;intro A3 cap3 u m;simp only[zF,zG] at m;rw[show (aX (ts.take k)).flatMap dD++_=(aX (ts.take (k+1))).flatMap dD by rw[uO ht,ay];rfl,show (aX (ts.take k)).length+3=(aX (ts.take (k+1))).length by rw[uO ht,aw];rfl] at m;rw[show (aX (ts.take k)).length+3=(aX (ts.take (k+1))).length by rw[uO ht,aw];rfl];apply aL 8 [0] m;simp only[↓aD];refine⟨by omega,?_⟩;exact hK1 (N-(k+1)) _ _ (by omega) (by kernel_rfl) ⟨k+1,_,_,O,(m.sel [false,false,true]),by omega,O⟩
  ·
   have hkN:k=N:=by omega
   rw[hkN,show ts.take N=ts from a_ (by rw[hT.len];exact aq _)] at m ⊢;apply aJ 7 [] m;simp only[↓aD];exact aT O O ⟨_,O,m.ext,⟨_,_,_,O,O,(m.o 0 O)⟩⟩
theorem Pm{es:List E3}{e:E3}(w:aj)(hL:vJ dD 6 w A N es)(hN:N≤1000000000):dQ prog 77 [.slice A N cap,ed e] w (fun v _=>v=.int .i64 ((lV es e:Nat):Int)):=by
 refine⟨bK func77 (by kernel_rfl),?_⟩;have m:=Mem.refl w
 go_enter func77,ntmps77
 apply jP 15 [0] m;simp only[↓aD];intro g1 u m;refine bX [5,6] [7,8,9,10,11,12,13,14,15,16,17,18,19,20] (fun n vs wl=>∃(k q:Nat),vs=[.int .i64 (q:Int),.int .i64 (k:Int)]∧Mem w wl [bI g1 (dD e) 56]∧(q=lV (es.take k) e)∧(k≤N)∧(n=N-k)) ?_ ?_
 ·
  exact⟨_,0,0,O,m,O,cv _,O⟩
 ·
  intro n vs wr hI u K1 hK1;obtain⟨k,q,rfl,m,hq,hk,hn⟩:=hI;subst hq;simp only[zu,zF,zG];apply aJ 8 [0,0] m;simp only[↓aD,abX];refine bG O ?_ ?_<;>intro hc1
  ·
   obtain⟨x,hx,a,rfl,hrow⟩:=hL.get (i:=k) (by omega);apply aJ 4 [0] m;simp only[↓aD];refine mq m aC (by kernel_rfl) (aG aI (aG aI ?_));simp only[zz];refine aG (aF pZ jQ O O (by omega) (by omega) (cQ (ah _))) ?_;simp only[zz];refine ql O (fun u m=>((hrow.ext m.ext).lies Gn jQ)) ?_;simp only[zz];refine ql O (fun u m=>((m.b 0 O).full Gn jQ)) ?_;simp only[zz];refine aG (agB O O) (bC ?_);intro u m;refine gc ?_;simp only[zz];refine bG O ?_ ?_<;>intro hc2
   ·
    have hxe:x=e:=oe (P3.eq hc2.1 hc2.2.1 hc2.2.2.1) (P3.eq hc2.2.2.2.1 hc2.2.2.2.2.1 hc2.2.2.2.2.2);have hcl:lV (es.take k) e≤N:=ba apV (by rw[bp];omega);have hs:=abi (e:=e) hx;rw[if_pos hxe] at hs;apply aJ 11 [0] m;simp only[↓aD];refine⟨by omega,?_⟩;rw[show ((lV (es.take k) e:Nat):Int)+1=((lV (es.take (k+1)) e:Nat):Int) by rw[hs];rfl];exact hK1 (N-(k+1)) _ _ (by omega) (by kernel_rfl) ⟨k+1,lV (es.take (k+1)) e,O,m,O,by omega,O⟩
   ·
    have hs:lV (es.take (k+1)) e=lV (es.take k) e:=(abi (e:=e) hx).trans (by rw[if_neg (fun h=>hc2 (by rw[h];exact⟨O,O,O,O,O,O⟩))];rfl);apply aJ 7 [0] m;simp only[↓aD];refine⟨by omega,?_⟩;rw[←hs];exact hK1 (N-(k+1)) _ _ (by omega) (by kernel_rfl) ⟨k+1,lV (es.take (k+1)) e,O,m,O,by omega,O⟩
  ·
   have hkN:k=N:=by omega
   rw[hkN,show es.take N=es from a_ (by rw[hL.len];exact aq _)];apply aJ 7 [] m;simp only[↓aD];exact aT O O ⟨_,O,m.ext,O⟩
theorem anj{ps:List P3}{p:P3}(w:aj)(hL:vJ lA 3 w A N ps)(hN:N≤1000000000)(hcap:N≤cap):dQ prog 82 [.slice A N cap,pt p] w (fun v w'=>(v=.slice A N cap∧gK ps p=ps)∨SL 30 3 ((gK ps p).flatMap lA) (gK ps p).length w v w'):=by
 refine⟨afc,?_⟩;have m:=Mem.refl w;obtain rfl:ps.length=N:=hL.len
 go_enter func82,ntmps82
 apply jP 11 [0] m;simp only[↓aD];intro g1 u m;refine bX [5] [6,8,9,10,11,12,13,14,15,16,17,18,19,20,21] (fun n vs wl=>∃(k:Nat),vs=[.int .i64 (k:Int)]∧Mem w wl [bI g1 (lA p) 30]∧(Pre (fun x=>decide (x.Lt p)) ps k)∧(k≤ps.length)∧(n=ps.length-k)) ?_ ?_
 ·
  exact⟨_,0,O,m,Pre.zero,cv _,O⟩
 ·
  intro n vs wr hI u K1 hK1;obtain⟨k,rfl,m,hpre,hk,hn⟩:=hI;simp only[zu,zF,zG];apply aJ 8 [0,0] m;simp only[↓aD,kZ];refine bG O ?_ ?_<;>intro hc1
  ·
   obtain⟨x,hx,a,rfl,hrow⟩:=hL.get (i:=k) (by omega);apply aJ 3 [0] m;simp only[↓aD];refine mq m aC (by kernel_rfl) (aG aI (aG aI ?_));simp only[zz];refine aG (aF cT aA O O (by omega) (by omega) (cQ (ah _))) ?_;simp only[zz];refine ql O (fun u m=>((hrow.ext m.ext).lies aH aA)) ?_;simp only[zz];refine ql O (fun u m=>((m.b 0 O).full aH aA)) ?_;simp only[zz];refine eX O O nQ (aG aO (bC ?_));intro u m;apply aW 6 [0] m;simp only[↓aD];refine gF O ?_ ?_<;>intro hc2
   ·
    have hpos:abj ps p=k:=aoT hpre hx (by simpa using hc2);apply aJ 3 [0] m;simp only[↓aD];refine mq m aC (by kernel_rfl) (eC 7 [1] ?_);simp only[↓aD,kZ];refine⟨by omega,?_⟩;refine cZ O (aG (aF cT aA O O (by omega) (by omega) (cQ (ah _))) (cZ O ?_));simp only[zz];refine ql O (fun u m=>((hrow.ext m.ext).lies aH aA)) ?_;simp only[zz];refine cZ O (ql O (fun u m=>((m.b 0 O).full aH aA)) ?_);simp only[zz];refine cZ O (aG (cK O O) (aG (tL O) (bC ?_)));intro u m;refine gc ?_;simp only[zz];refine bG O ?_ ?_<;>intro hc3
    ·
     have hxp:x=p:=P3.eq hc3.1 hc3.2.1 hc3.2.2;apply aJ 6 [] m;simp only[↓aD];exact aT O O ⟨_,O,m.ext,.inl ⟨O,by rw[gK,hpos,hx,if_pos (by rw[hxp])]⟩⟩
    ·
     have hw:gK ps p=ps.take k++[p]++ps.drop k:=by unfold gK;rw[hpos,if_neg (by rw[hx];exact fun h=>hc3 (by cases h;exact⟨O,O,O⟩))]
     apply aJ 3 [0] m;simp only[↓aD];refine aB aO ?_;replace m:=m.nilO 30 3;apply aL 6 [0] m;simp only[↓aD];refine aB (mF cT aA O O (ah _) (by omega) (by omega)) ?_;simp only[zz];refine bL m 0 O O cT oV O (by decide) O O (by rw[kB yO,bp,gr (by omega)]) (((hL.take (by omega)).ext m.ext).cells yO (by decide)) (Rb _) (by omega) (by omega) ?_;intro A7 cap7 u m;simp only[zF,zG] at m;rw[b_,au] at m;rw[au];apply aL 6 [1,0] m;simp only[↓aD,aS];refine mJ O ?_;intro u g2 e_ h_ k_;replace m:=m.newB e_ h_ k_;simp only[zz];refine bL m 1 O O cT oV O (by decide) O O O (m.b 0 O).rowsO (gB O) (by omega) (by omega) ?_;intro A7 cap7 u m;simp only[zF,zG] at m;apply aL 7 [0] m;simp only[↓aD];refine aB (uA cT aA O O (ah _) (by omega) (by omega) O) ?_;simp only[zz];refine bL m 1 O O cT oV O (by decide) O O (by rw[kB yO,fl]) ((hL.ext m.ext).cellsD yO (by decide) hcap) (Rb _) (by omega) (by omega) ?_;intro A7 cap7 u m;simp only[zF,zG] at m;apply aL 3 [] m;simp only[↓aD];exact aT O O ⟨_,O,m.ext,.inr ⟨_,_,_,by rw[hw];simp;omega,rfl,(m.o 1 rfl).as (by rw[hw,ay,ay];rfl)⟩⟩
   ·
    have hpre2:=hpre.step hx (by simpa using hc2);apply aJ 7 [0] m;simp only[↓aD];refine⟨by omega,?_⟩;exact hK1 (ps.length-(k+1)) _ _ (by omega) (by kernel_rfl) ⟨k+1,O,m,hpre2,by omega,O⟩
  ·
   obtain rfl:k=ps.length:=by omega
   have hpos:abj ps p=ps.length:=ait hpre;have hw:gK ps p=ps.take ps.length++[p]++ps.drop ps.length:=by unfold gK;rw[hpos,if_neg (by rw[bz (aq _)];simp)]
   apply aJ 3 [0] m;simp only[↓aD];refine mq m aC (by kernel_rfl) (eC 12 [2] ?_);simp only[↓aD,kZ];refine⟨by omega,?_⟩;refine bC ?_;intro u m;apply aW 4 [0] m;simp only[↓aD];refine aB aO ?_;replace m:=m.nilO 30 3;apply aL 6 [0] m;simp only[↓aD];refine aB (mF cT aA O O (ah _) (by omega) (by omega)) ?_;simp only[zz];refine bL m 0 O O cT oV O (by decide) O O (by rw[kB yO,bp,gr (by omega)]) (((hL.take (by omega)).ext m.ext).cells yO (by decide)) (Rb _) (by omega) (by omega) ?_;intro A7 cap7 u m;simp only[zF,zG] at m;rw[b_,au] at m;rw[au];apply aL 6 [1,0] m;simp only[↓aD,aS];refine mJ O ?_;intro u g2 e_ h_ k_;replace m:=m.newB e_ h_ k_;simp only[zz];refine bL m 1 O O cT oV O (by decide) O O O (m.b 0 O).rowsO (gB O) (by omega) (by omega) ?_;intro A7 cap7 u m;simp only[zF,zG] at m;apply aL 7 [0] m;simp only[↓aD];refine aB (uA cT aA O O (ah _) (by omega) (by omega) O) ?_;simp only[zz];refine bL m 1 O O cT oV O (by decide) O O (by rw[kB yO,fl]) ((hL.ext m.ext).cellsD yO (by decide) hcap) (Rb _) (by omega) (by omega) ?_;intro A7 cap7 u m;simp only[zF,zG] at m;apply aL 3 [] m;simp only[↓aD];exact aT O O ⟨_,O,m.ext,.inr ⟨_,_,_,by rw[hw];simp,rfl,(m.o 1 rfl).as (by rw[hw,ay,ay];rfl)⟩⟩
theorem aeb{w0 w:aj}{is:List It}{A:Option Addr}{n cap:Nat}{ps:List P3}{p:P3}(m:Mem w0 w is)(k:Nat)(hi:is[k]? = some (oI 30 3 A n cap (ps.flatMap lA)))(hN:n≤1000000000) :
 Calls prog 82 [.slice A n cap,pt p].toArray w fun e w'=>∃v i,e=.returned v∧Mem w0 w' (is.set k i)∧∃A' cap' n',n'=(gK ps p).length∧v=.slice A' n' cap'∧i=oI 30 3 A' n' cap' ((gK ps p).flatMap lA):=by
 have hO:=m.o k hi;refine (anj (p:=p) w (hO.lat yO (by decide)) hN hO.le).2.mono ?_;rintro e w' ⟨v,rfl,hE,h⟩;rcases h with ⟨rfl,h⟩ | ⟨A',cap',n',rfl,rfl,hN'⟩
 · exact⟨_,oI 30 3 A n cap (ps.flatMap lA),O,by rw[adg hi];exact m.ext' hE,A,cap,n,by rw[h];exact (hO.num yO (by decide)).symm,O,by rw[h]⟩
 · exact⟨_,_,O,(m.newO hE hN').mv k hi,_,_,_,O,O,O⟩
theorem agY(w:aj)(hT:bV w A N ts)(hN:N≤100000000):dQ prog 36 [.slice A N cap] w (SL 30 3 ((dR ts).flatMap lA) (dR ts).length w):=by
 refine⟨bK func36 (by kernel_rfl),?_⟩;have m:=Mem.refl w
 go_enter func36,ntmps36
 apply fF 6 [0] m;simp only[↓aD];refine aB aO ?_;replace m:=m.nilO 30 3;apply aL 7 [0] m;simp only[↓aD];refine bX [3,4] [5,6,7,8,9,10,11,12,13,14,15,16,17,18,19,20,21,22,23] (fun n vs wl=>∃(k n3:Nat) (A3:Option Addr) (cap3:Nat),vs=[.slice A3 n3 cap3,.int .i64 (k:Int)]∧Mem w wl [oI 30 3 A3 n3 cap3 ((dR (ts.take k)).flatMap lA)]∧(n3=(dR (ts.take k)).length)∧(k≤N)∧(n=N-k)) ?_ ?_
 ·
  exact⟨_,0,0,_,_,O,m,O,cv _,O⟩
 ·
  intro n vs wr hI u K1 hK1;obtain⟨k,n3,A3,cap3,rfl,m,hn3,hk,hn⟩:=hI;simp only[zu,zF,zG];apply aJ 8 [0,0] m;simp only[↓aD,kA];refine bG O ?_ ?_<;>intro hc1
  ·
   obtain⟨t,ht,_,a,rfl,hrow⟩:=hT.get (i:=k) (by omega);have hb0:=Nl (ts.take k);have hb1:=xC (dR (ts.take k)) t.a;have hb2:=xC (gK (dR (ts.take k)) t.a) t.b;rw[bp] at hb0;apply aJ 25 [4,1,0] m;simp only[↓aD];refine⟨by omega,?_⟩;refine aB (aF cH aP O O (by omega) (by omega) (cQ (ah _))) ?_;apply aL 1 [0] m;simp only[↓aD,bT,ad,ag,aa];refine⟨by omega,?_⟩;refine aR O ((mX.cor (hrow.ext m.ext) (c:=0) (by decide)).lies aH aA) ?_;simp only[zz];refine mO m 0 afc O O (fun m=>aeb (p:=t.a) m 0 O (by omega)) ?_;rintro v i u m ⟨A3,cap3,n3,hn3,rfl,rfl⟩;simp only[zF,zG] at m;apply aL 24 [1,0] m;simp only[↓aD,ak];refine⟨by omega,?_⟩;refine aB (aF cH aP O O (by omega) (by omega) (cQ (ah _))) ?_;apply aL 1 [0] m;simp only[↓aD,bT,ad,ag,aa];refine⟨by omega,?_⟩;refine aR O ((mX.cor (hrow.ext m.ext) (c:=1) (by decide)).lies aH aA) ?_;simp only[zz];refine mO m 0 afc O O (fun m=>aeb (p:=t.b) m 0 O (by omega)) ?_;rintro v i u m ⟨A3,cap3,n3,hn3,rfl,rfl⟩;simp only[zF,zG] at m;apply aL 24 [1,0] m;simp only[↓aD,ak];refine⟨by omega,?_⟩;refine aB (aF cH aP O O (by omega) (by omega) (cQ (ah _))) ?_;apply aL 1 [0] m;simp only[↓aD,bT,ad,ag,aa];refine⟨by omega,?_⟩;refine aR O ((mX.cor (hrow.ext m.ext) (c:=2) (by decide)).lies aH aA) ?_;simp only[zz];refine mO m 0 afc O O (fun m=>aeb (p:=t.c) m 0 O (by omega)) ?_;rintro v i u m ⟨A3,cap3,n3,hn3,rfl,rfl⟩;simp only[zF,zG] at m;apply aL 23 [2,0] m;simp only[↓aD,ak];refine⟨by omega,?_⟩;exact hK1 (N-(k+1)) _ _ (by omega) (by kernel_rfl) ⟨k+1,_,_,_,O,(m.reO 0 O ((m.o 0 O).as (by rw[Ic ht]))),by rw[Ic ht];exact hn3,by omega,O⟩
  ·
   have hkN:k=N:=by omega
   rw[hkN,show ts.take N=ts from a_ (by rw[hT.len];exact aq _)] at m hn3;apply aJ 7 [] m;simp only[↓aD];exact aT O O ⟨_,O,m.ext,⟨_,_,_,hn3,O,(m.o 0 O)⟩⟩
theorem ajP{p:P3}(w:aj)(hT:vJ aN 9 w A N ts)(hN:N≤1000000000):dQ prog 201 [.slice A N cap,pt p,pt q] w (fun v _=>v=.tuple #[pt ((bS ts p q).getD p),.bool (bS ts p q).isSome]):=by
 refine⟨bK func201 (by kernel_rfl),?_⟩;have m:=Mem.refl w
 go_enter func201,ntmps201
 apply jP 13 [0] m;simp only[↓aD,eS];intro g1 g2 g3 u m;refine bX [8] [7,9,10,11,12,13,14,15,16,17,18,19,20,21,22,23,24,25,26,27,28,29,30,31,32,33,34,35,36,37,38,39,40,41,42,43,44,45,46,47] (fun n vs wl=>∃(k:Nat),vs=[.int .i64 (k:Int)]∧Mem w wl [bI g3 [.int .i64 0,.int .i64 0,.int .i64 0] 30,bI g2 (lA q) 30,bI g1 (lA p) 30]∧(bS (ts.take k) p q=none)∧(k≤N)∧(n=N-k)) ?_ ?_
 ·
  exact⟨_,0,O,m,O,cv _,O⟩
 ·
  intro n vs wr hI u K1 hK1;obtain⟨k,rfl,m,hb0,hk,hn⟩:=hI;simp only[zu,zF,zG];apply aJ 8 [0,0] m;simp only[↓aD,kA];refine bG O ?_ ?_<;>intro hc1
  ·
   obtain⟨t,ht,a,rfl,hrow⟩:=hT.get (i:=k) (by omega);apply aJ 21 [4,1,0] m;simp only[↓aD];refine⟨by omega,?_⟩;refine mq m aC (by kernel_rfl) (eC 3 [] ?_);simp only[↓aD];refine aG (aF cH aP O O (by omega) (by omega) (cQ (ah _))) (eC 1 [] ?_);simp only[↓aD,bT,ad,ag,aa];refine⟨by omega,?_⟩;refine ql O (fun u m=>((mX.cor (hrow.ext m.ext) (c:=0) (by omega)).lies aH aA)) ?_;simp only[zz];refine ql O (fun u m=>((m.b 2 O).full aH aA)) ?_;simp only[zz];refine aG (cK O O) (aG aI (dU O (fun hb=>aI) (dU O (fun hb=>aI) ?_)));simp only[zz];refine dU O (fun hb=>aI) (dU O (fun hb=>fB (m:=0) (n:=1) (r:=1) (aY hb O) O (by decide)) (dU O (fun hb=>cP (m:=1) (n:=3) (r:=1) (aY hb O) O (by decide) (by decide)) ?_));simp only[zz];refine dU O (fun hb=>aF cH aP (aY hb O) (aY hb O) (by omega) (by omega) (cQ (ah _))) (dU O (fun hb=>aK cM aA (aY hb O) (aY hb O) (by decide) (by decide) O) ?_);simp only[zz];refine eR O (fun hb u m=>aZ (aY hb O) ((mX.cor (hrow.ext m.ext) (c:=1) (by omega)).lies aH aA)) (eR O (fun hb u m=>aZ O ((m.b 1 O).full aH aA)) (dU O (fun hb=>cK (aY hb O) (aY hb O)) (aG (cC O O O) (bC ?_))));intro u m;refine gc ?_;simp only[zz];refine gF O ?_ ?_<;>intro hc3
   ·
    have hf:=Ce ((vR ht hb0).trans (aue  (Pd.1 hc3)));apply aJ 6 [0] m;simp only[↓aD,ak];refine⟨by omega,?_⟩;refine aB (cP (m:=2) (n:=3) (r:=2) O O (by decide) (by decide)) ?_;simp only[zz];refine aB (aF cH aP O O (by omega) (by omega) (cQ (ah _))) ?_;apply aL 1 [0] m;simp only[↓aD,bT,ad,ag,aa];refine⟨by omega,?_⟩;refine aR O ((mX.cor (hrow.ext m.ext) (c:=2) (by omega)).lies aH aA) ?_;simp only[zz];apply kD 4 [0] m;simp only[↓aD,aS,aa];intro u m;refine yE O ⟨_,O,((m.b 0 O).full aH aA)⟩ O ?_;try simp only[zD,zE]
    exact⟨_,O,m.ext,by rw[hf];rfl⟩
   ·
    have hq0:=adk hc3;apply aJ 19 [1,0] m;simp only[↓aD,ak];refine⟨by omega,?_⟩;refine mq m aC (by kernel_rfl) (eC 3 [] ?_);simp only[↓aD];refine aG (aF cH aP O O (by omega) (by omega) (cQ (ah _))) (eC 1 [] ?_);simp only[↓aD,bT,ad,ag,aa];refine⟨by omega,?_⟩;refine ql O (fun u m=>((mX.cor (hrow.ext m.ext) (c:=1) (by omega)).lies aH aA)) ?_;simp only[zz];refine ql O (fun u m=>((m.b 2 O).full aH aA)) ?_;simp only[zz];refine aG (cK O O) (aG aI (dU O (fun hb=>aI) (dU O (fun hb=>aI) ?_)));simp only[zz];refine dU O (fun hb=>aI) (dU O (fun hb=>fB (m:=1) (n:=1) (r:=2) (aY hb O) O (by decide)) (dU O (fun hb=>cP (m:=2) (n:=3) (r:=2) (aY hb O) O (by decide) (by decide)) ?_));simp only[zz];refine dU O (fun hb=>aF cH aP (aY hb O) (aY hb O) (by omega) (by omega) (cQ (ah _))) (dU O (fun hb=>aK cM aA (aY hb O) (aY hb O) (by decide) (by decide) O) ?_);simp only[zz];refine eR O (fun hb u m=>aZ (aY hb O) ((mX.cor (hrow.ext m.ext) (c:=2) (by omega)).lies aH aA)) (eR O (fun hb u m=>aZ O ((m.b 1 O).full aH aA)) (dU O (fun hb=>cK (aY hb O) (aY hb O)) (aG (cC O O O) (bC ?_))));intro u m;refine gc ?_;simp only[zz];refine gF O ?_ ?_<;>intro hc3
    ·
     have hf:=Ce ((vR ht hb0).trans (auf hq0 (Pd.1 hc3)));apply aJ 6 [0] m;simp only[↓aD,ak];refine⟨by omega,?_⟩;refine aB (cP (m:=3) (n:=3) (r:=0) O O (by decide) (by decide)) ?_;simp only[zz];refine aB (aF cH aP O O (by omega) (by omega) (cQ (ah _))) ?_;apply aL 1 [0] m;simp only[↓aD,bT,ad,ag,aa];refine⟨by omega,?_⟩;refine aR O ((mX.cor (hrow.ext m.ext) (c:=0) (by omega)).lies aH aA) ?_;simp only[zz];apply kD 4 [0] m;simp only[↓aD,aS,aa];intro u m;refine yE O ⟨_,O,((m.b 0 O).full aH aA)⟩ O ?_;try simp only[zD,zE]
     exact⟨_,O,m.ext,by rw[hf];rfl⟩
    ·
     have hq1:=adk hc3;apply aJ 19 [1,0] m;simp only[↓aD,ak];refine⟨by omega,?_⟩;refine mq m aC (by kernel_rfl) (eC 3 [] ?_);simp only[↓aD];refine aG (aF cH aP O O (by omega) (by omega) (cQ (ah _))) (eC 1 [] ?_);simp only[↓aD,bT,ad,ag,aa];refine⟨by omega,?_⟩;refine ql O (fun u m=>((mX.cor (hrow.ext m.ext) (c:=2) (by omega)).lies aH aA)) ?_;simp only[zz];refine ql O (fun u m=>((m.b 2 O).full aH aA)) ?_;simp only[zz];refine aG (cK O O) (aG aI (dU O (fun hb=>aI) (dU O (fun hb=>aI) ?_)));simp only[zz];refine dU O (fun hb=>aI) (dU O (fun hb=>fB (m:=2) (n:=1) (r:=3) (aY hb O) O (by decide)) (dU O (fun hb=>cP (m:=3) (n:=3) (r:=0) (aY hb O) O (by decide) (by decide)) ?_));simp only[zz];refine dU O (fun hb=>aF cH aP (aY hb O) (aY hb O) (by omega) (by omega) (cQ (ah _))) (dU O (fun hb=>aK cM aA (aY hb O) (aY hb O) (by decide) (by decide) O) ?_);simp only[zz];refine eR O (fun hb u m=>aZ (aY hb O) ((mX.cor (hrow.ext m.ext) (c:=0) (by omega)).lies aH aA)) (eR O (fun hb u m=>aZ O ((m.b 1 O).full aH aA)) (dU O (fun hb=>cK (aY hb O) (aY hb O)) (aG (cC O O O) (bC ?_))));intro u m;refine gc ?_;simp only[zz];refine gF O ?_ ?_<;>intro hc3
     ·
      have hf:=Ce ((vR ht hb0).trans (aug hq0 hq1 (Pd.1 hc3)));apply aJ 6 [0] m;simp only[↓aD,ak];refine⟨by omega,?_⟩;refine aB (cP (m:=4) (n:=3) (r:=1) O O (by decide) (by decide)) ?_;simp only[zz];refine aB (aF cH aP O O (by omega) (by omega) (cQ (ah _))) ?_;apply aL 1 [0] m;simp only[↓aD,bT,ad,ag,aa];refine⟨by omega,?_⟩;refine aR O ((mX.cor (hrow.ext m.ext) (c:=1) (by omega)).lies aH aA) ?_;simp only[zz];apply kD 4 [0] m;simp only[↓aD,aS,aa];intro u m;refine yE O ⟨_,O,((m.b 0 O).full aH aA)⟩ O ?_;try simp only[zD,zE]
      exact⟨_,O,m.ext,by rw[hf];rfl⟩
     ·
      have hq2:=adk hc3;apply aJ 22 [2,0] m;simp only[↓aD,ak];refine⟨by omega,?_⟩;exact hK1 (N-(k+1)) _ _ (by omega) (by kernel_rfl) ⟨k+1,O,m,(vR ht hb0).trans (auh hq0 hq1 hq2),by omega,O⟩
  ·
   have hkN:k=N:=by omega
   rw[hkN,show ts.take N=ts from a_ (by rw[hT.len];exact aq _)] at hb0;apply zvc 8 [2,0] m;simp only[↓aD,aS,aa];intro u m;refine yE O ⟨_,O,((m.b 0 O).full aH aA)⟩ O ?_;try simp only[zD,zE]
   exact⟨_,O,m.ext,by rw[hb0];rfl⟩
theorem agZ{p:P3}(w:aj)(hT:bV w A N ts)(hN:N≤100000000):dQ prog 135 [.slice A N cap,pt p] w (fun v _=>v=.bool (Ie ts p)):=by
 refine⟨bK func135 (by kernel_rfl),?_⟩;have m:=Mem.refl w
 go_enter func135,ntmps135
 apply jP 7 [0] m;simp only[↓aD];intro g1 u m;refine aB aO ?_;replace m:=m.nilO 39 9;apply aL 3 [0] m;simp only[↓aD];refine aB aO ?_;replace m:=m.nilO 30 3;apply aL 7 [0] m;simp only[↓aD];refine bX [5,6,7] [8,14,15,16,17,18,19,20,21,22,23,24,25,26,27,28,29,30,31,32,33,34,35,36,37,38,39,40,41,42,43,44,45,46,47,48,49] (fun n vs wl=>∃(k n5 n6 cap5 cap6:Nat) (A5 A6:Option Addr),vs=[.slice A5 n5 cap5,.slice A6 n6 cap6,.int .i64 (k:Int)]∧Mem w wl [oI 30 3 A6 n6 cap6 ((uP (ts.take k) p).flatMap lA),oI 39 9 A5 n5 cap5 ((oH (ts.take k) p).flatMap aN),bI g1 (lA p) 30]∧(n5≤k*3)∧(n6≤k*3)∧(k≤N)∧(n=N-k)) ?_ ?_
 ·
  exact⟨_,0,_,_,_,_,_,_,O,m,aq _,aq _,cv _,O⟩
 ·
  intro n vs wr hI u K1 hK1;obtain⟨k,n5,n6,cap5,cap6,A5,A6,rfl,m,hl5,hl6,hk,hn⟩:=hI;simp only[zu,zF,zG];apply aJ 8 [0,0] m;simp only[↓aD,kA];refine bG O ?_ ?_<;>intro hc1
  ·
   obtain⟨t,ht,_,a,rfl,hrow⟩:=hT.get (i:=k) (by omega);apply aJ 8 [0] m;simp only[↓aD];refine bX [5,6,8] [20,21,22,23,24,25,26,27,28,29,30,31,32,33,34,35,36,37,38,39,40,41,42,43,44,45,46,47,48,49] (fun n vs wl=>∃(c n5 n6 cap5 cap6:Nat) (A5 A6:Option Addr),vs=[.slice A5 n5 cap5,.slice A6 n6 cap6,.int .i64 (c:Int)]∧Mem w wl [oI 30 3 A6 n6 cap6 ((wL ts p k t c).flatMap lA),oI 39 9 A5 n5 cap5 ((Fq ts p k t c).flatMap aN),bI g1 (lA p) 30]∧(n5≤k*3+c)∧(n6≤k*3+c)∧(c≤3)∧(n=3-c)) ?_ ?_
   ·
    rw[←amD (t:=t),←aiv (t:=t)] at m;exact⟨_,0,_,_,_,_,_,_,O,m,hl5,hl6,cv _,O⟩
   ·
    intro n vs wr hI u K2 hK2;obtain⟨c,n5,n6,cap5,cap6,A5,A6,rfl,m,hl5,hl6,hc,hn2⟩:=hI;simp only[zu,zF,zG];apply aJ 6 [0,0] m;simp only[↓aD];refine bG O ?_ ?_<;>intro hc2
    ·
     have hc3:c<3:=by omega
     apply aJ 4 [0] m;simp only[↓aD];refine mq m aC (by kernel_rfl) (eC 3 [] ?_);simp only[↓aD];refine aG (aF cH aP O O (by omega) (by omega) (cQ (ah _))) ?_;simp only[zz];refine aG (aK cM aA O O (by omega) (by omega) (cQ (ah _))) ?_;simp only[zz];refine ql O (fun u m=>((mX.cor (hrow.ext m.ext) (c:=c) (by omega)).lies aH aA)) ?_;simp only[zz];refine ql O (fun u m=>((m.b 2 O).full aH aA)) ?_;simp only[zz];refine aG (cK O O) (bC ?_);intro u m;refine gc ?_;simp only[zz];refine bG O ?_ ?_<;>intro hc3
     ·
      have hcp:t.cor c=p:=P3.eq hc3.1 hc3.2.1 hc3.2.2;apply aJ 5 [0] m;simp only[↓aD];refine aB (aF cH aP O O (by omega) (by omega) (cQ (ah _))) ?_;simp only[zz];refine aR O ((hrow.ext m.ext).lies cF aP) ?_;simp only[zz];refine eZ O ?_;intro u g2 e_ h_ k_;replace m:=m.newB e_ h_ k_;simp only[zz];refine bL m 2 O O cH jK O (by decide) O O O (m.b 0 O).rowsO (gB O) (by omega) (by omega) ?_;intro A5 cap5 u m;simp only[zF,zG] at m;apply aL 8 [0] m;simp only[↓aD];refine⟨by omega,?_⟩;refine aB (cP O O (by omega) (aoR (k:=c+1))) ?_;simp only[zz];refine aB (aF cH aP O O (by omega) (by omega) (cQ (ah _))) ?_;simp only[zz];refine aB (aK cM aA O O (by omega) (by omega) (cQ (ah _))) ?_;simp only[zz];refine aR O ((mX.cor (hrow.ext m.ext) (c:=(c+1)%3) (by omega)).lies aH aA) ?_;simp only[zz];refine mJ O ?_;intro u g3 e_ h_ k_;replace m:=m.newB e_ h_ k_;simp only[zz];refine bL m 2 O O cT oV O (by decide) O O O (m.b 0 O).rowsO (gB O) (by omega) (by omega) ?_;intro A6 cap6 u m;simp only[zF,zG] at m;apply aL 8 [0] m;simp only[↓aD];refine⟨by omega,?_⟩;exact hK2 (3-(c+1)) _ _ (by omega) (by kernel_rfl) ⟨c+1,_,_,_,_,_,_,O,(((m.reO 3 O ((m.o 3 O).as (by rw[agr hcp,ay];rfl))).reO 2 rfl ((m.o 2 rfl).as (by rw[adj hcp,ay];rfl))).sel [false,false,true,true,true]),by omega,by omega,by omega,rfl⟩
     ·
      have hcp:¬t.cor c=p:=fun h=>hc3 (by rw[h];exact⟨O,O,O⟩);apply aJ 7 [0] m;simp only[↓aD];refine⟨by omega,?_⟩;exact hK2 (3-(c+1)) _ _ (by omega) (by kernel_rfl) ⟨c+1,_,_,_,_,_,_,O,((m.reO 1 O ((m.o 1 O).as (by rw[aiu hcp]))).reO 0 O ((m.o 0 O).as (by rw[ags hcp]))),by omega,by omega,by omega,O⟩
    ·
     obtain rfl:c=3:=by omega
     rw[amE ht,aiw ht] at m;apply aJ 7 [0] m;simp only[↓aD];refine⟨by omega,?_⟩;exact hK1 (N-(k+1)) _ _ (by omega) (by kernel_rfl) ⟨k+1,_,_,_,_,_,_,O,m,by omega,by omega,by omega,O⟩
  ·
   have hkN:k=N:=by omega
   rw[hkN,show ts.take N=ts from a_ (by rw[hT.len];exact aq _)] at m;obtain⟨M,hM⟩:∃M,M=oH ts p:=⟨_,rfl⟩
   obtain⟨S,hS⟩:∃S,S=uP ts p:=⟨_,rfl⟩
   rw[←hM,←hS] at m;have h5:M.length=n5:=(m.o 1 rfl).num ais (by decide);have h6:S.length=n6:=(m.o 0 rfl).num yO (by decide);have hle6:=(m.o 0 rfl).le;have hP:Ie ts p=S.any (fun s=>oJ M p s (M.length-1) s):=by rw[hM,hS];rfl
   clear hM hS;apply aJ 7 [0] m;simp only[↓aD];refine bX [9] [4,10,11,12,13,50,51,52,53,54,55,56,57,58,59,60,61,62,63,64,65,66,67,68,69,70,71,72,73,74,75,76,77,78,79,80,81] (fun n vs wl=>∃(k2:Nat),vs=[.int .i64 (k2:Int)]∧Mem w wl [oI 30 3 A6 n6 cap6 ((S).flatMap lA),oI 39 9 A5 n5 cap5 ((M).flatMap aN),bI g1 (lA p) 30]∧((S.take k2).any (fun s=>oJ M p s (M.length-1) s)=false)∧(k2≤n6)∧(n=n6-k2)) ?_ ?_
   ·
    exact⟨_,0,O,m,O,cv _,O⟩
   ·
    intro n vs wr hI u K3 hK3;obtain⟨k2,rfl,m,hno,hk2,hn3⟩:=hI;simp only[zu,zF,zG];apply aJ 8 [0,0] m;simp only[↓aD,kZ];refine bG O ?_ ?_<;>intro hc4
    ·
     obtain⟨sx,hsx⟩:∃sx,S[k2]? = some sx:=⟨_,am (by omega)⟩
     obtain⟨gO,rfl⟩:=(m.o 0 rfl).some (by omega);apply aJ 7 [0] m;simp only[↓aD];refine aB (aF cT aA O O (by omega) (by omega) (cQ (ah _))) ?_;simp only[zz];refine aR O (((m.o 0 O).at yO hsx).lies aH aA) ?_;simp only[zz];apply kD 8 [0,0] m;simp only[↓aD,eS,aS,aa];intro g2 u m;refine bX [11] [4,12,13,60,61,62,63,64,65,66,67,68,69,70,71,72,73,74,75,76,77,78,79,80,81] (fun n vs wl=>∃(j:Nat) (x:P3),vs=[.int .i64 (j:Int)]∧Mem w wl [bI g2 (lA x) 30,oI 30 3 (some ⟨gO,0,none⟩) n6 cap6 (S.flatMap lA),oI 39 9 A5 n5 cap5 ((M).flatMap aN),bI g1 (lA p) 30]∧(oJ M p sx (M.length-1) sx=oJ M p sx (M.length-j) x)∧(1≤j)∧(j≤n5+1)∧(n=n5+1-j)) ?_ ?_
     ·
      exact⟨_,1,sx,O,m,O,aq _,by omega,O⟩
     ·
      intro n vs wr hI u K4 hK4;obtain⟨j,x,rfl,m,hrg,hj,hj2,hn4⟩:=hI;simp only[zu,zF,zG];apply aJ 8 [0,0] m;simp only[↓aD,kA];refine bG O ?_ ?_<;>intro hc5
      ·
       obtain⟨f,hf⟩:∃f,M.length-j=f+1:=⟨M.length-j-1,by omega⟩
       rw[hf] at hrg;apply aJ 8 [3,0,0] m;simp only[↓aD,aS];refine dM m O O (ajP (p:=p) (q:=x) _ ((m.o 2 O).lat ais (by decide)) (by omega)) ?_;rintro v u m rfl;apply kD 13 [0,0] m;simp only[↓aD,eS,aS,aa];intro g3 u m;refine gF O ?_ ?_<;>intro hc6
       ·
        have hbn:bS M p x=none:=by cases hb:bS M p x with | none=>rfl | some y=>rw[hb] at hc6;cases hc6
        have hz:oJ M p sx (M.length-1) sx=false:=by rw[hrg,Wk hbn]
        have hno2:(S.take (k2+1)).any (fun s=>oJ M p s (M.length-1) s)=false:=by rw[xE hsx,hno,hz];rfl
        apply aJ 7 [0] m;simp only[↓aD];refine⟨by omega,?_⟩;exact hK3 (n6-(k2+1)) _ _ (by omega) (by kernel_rfl) ⟨k2+1,O,(m.sel [false,false,true,true,true]),hno2,by omega,O⟩
       ·
        obtain⟨y,hy⟩:∃y,bS M p x=some y:=by cases hb:bS M p x with | none=>rw[hb] at hc6;cases hc6 | some y=>exact⟨y,rfl⟩
        rw[hy] at m;simp only[dq] at m;apply zvc 7 [0,1,0] m;simp only[↓aD,aS,aa];intro u m;refine mq m aC (by kernel_rfl) (eC 3 [1] ?_);simp only[↓aD,aS];refine aG (aF cT aA O O (by omega) (by omega) (cQ (ah _))) ?_;simp only[zz];refine ql O (fun u m=>(((m.o 2 O).at yO hsx).lies aH aA)) ?_;simp only[zz];refine aG (cK O O) (bC ?_);intro u m;refine gc ?_;simp only[zz];refine bG O ?_ ?_<;>intro hc7
        ·
         have hys:y=sx:=P3.eq hc7.1 hc7.2.1 hc7.2.2;have hz:S.any (fun s=>oJ M p s (M.length-1) s)=true:=If hsx (by show oJ M p sx (M.length-1) sx=true;rw[hrg];exact abk (by rw[hy,hys]));apply aJ 5 [] m;simp only[↓aD];refine aT O O ?_;try simp only[zD,zE]
         exact⟨_,O,m.ext,by rw[hP,hz]⟩
        ·
         have hys:¬y=sx:=fun h=>hc7 (by rw[h];exact⟨O,O,O⟩);apply aJ 7 [0] m;simp only[↓aD];refine⟨by omega,?_⟩;exact hK4 (n5+1-(j+1)) _ _ (by omega) (by kernel_rfl) ⟨j+1,y,O,(m.sel [false,true,true,true,true]),by rw[hrg,Wl hy hys,show M.length-(j+1)=f by omega],by omega,by omega,O⟩
      ·
       have hz:oJ M p sx (M.length-1) sx=false:=by rw[hrg,show M.length-j=0 by omega];rfl
       have hno2:(S.take (k2+1)).any (fun s=>oJ M p s (M.length-1) s)=false:=by rw[xE hsx,hno,hz];rfl
       apply aJ 7 [0] m;simp only[↓aD];refine⟨by omega,?_⟩;exact hK3 (n6-(k2+1)) _ _ (by omega) (by kernel_rfl) ⟨k2+1,O,(m.sel [false,true,true,true]),hno2,by omega,O⟩
    ·
     have hk2:k2=S.length:=by omega
     rw[hk2,fp] at hno;apply aJ 6 [] m;simp only[↓aD];refine aT O O ?_;try simp only[zD,zE]
     exact⟨_,O,m.ext,by rw[hP,hno]⟩
theorem aun(hx:x=decide (t.b.Lt t.a))(hy:y=decide (t.c.Lt t.a))(hz:z=decide (t.c.Lt t.b))(h:(y&&(z || !x))=true):dL t=⟨t.c,t.a,t.b⟩:=by
 subst hx;subst hy;subst hz;simp only[be,decide_eq_true_eq,ep,fj,decide_eq_false_iff_not] at h;exact if_pos h
theorem asT(hx:x=decide (t.b.Lt t.a))(hy:y=decide (t.c.Lt t.a))(hz:z=decide (t.c.Lt t.b))(h:(y&&(z || !x))=false)(h1:x=true):dL t=⟨t.b,t.c,t.a⟩:=by
 subst hx;subst hy;subst hz;have h2:¬(t.c.Lt t.a∧(t.c.Lt t.b∨¬t.b.Lt t.a)):=fun k=>by
  rw[decide_eq_true k.1,Bool.true_and] at h;rcases k.2 with k2 | k2
  · rw[decide_eq_true k2] at h;cases h
  · exact k2 (of_decide_eq_true h1)
 rw[dL,if_neg h2,if_pos (of_decide_eq_true h1)]
theorem asU(hx:x=decide (t.b.Lt t.a))(hy:y=decide (t.c.Lt t.a))(hz:z=decide (t.c.Lt t.b))(h:(y&&(z || !x))=false)(h1:x=false):dL t=t:=by
 subst hx;subst hy;subst hz;have h3:=of_decide_eq_false h1;have h2:¬(t.c.Lt t.a∧(t.c.Lt t.b∨¬t.b.Lt t.a)):=fun k=>by
  rw[decide_eq_true k.1,h1] at h;simp at h
 rw[dL,if_neg h2,if_neg h3]
/-! ### How often a triangle is hit -/
theorem Mg  : dT prog 35 [tr t] (tr (dL t)):=by
 intro w;refine⟨bK func35 (by kernel_rfl),?_⟩;have m:=Mem.refl w
 go_enter func35,ntmps35
 apply jP 11 [1,1,0] m;simp only[↓aD,nX,bT,aS,ad,ag,aa];intro g1 g2;refine⟨by omega,?_⟩;intro u m;refine nV m O O (nQ (p:=t.b) (q:=t.a)) 8 [1,1,0] ?_;simp only[↓aD,bT,aS,ad,ag,aa];refine⟨by omega,?_⟩;intro u m;refine nV m O O (nQ (p:=t.c) (q:=t.a)) 8 [1,1,0] ?_;simp only[↓aD,bT,aS,ad,ag,aa];refine⟨by omega,?_⟩;intro u m;refine nV m O O (nQ (p:=t.c) (q:=t.b)) 4 [] ?_;simp only[↓aD];intro u m;cases hy:decide (t.c.Lt t.a)
 ·
  apply aW 17 [0] m;simp only[↓aD];refine dK O ?_ ?_<;>intro hc2
  ·
   have hr:=asT (t:=t) rfl rfl rfl (by rw[hy];rfl) hc2;apply zvc 12 [1,1,1,0] m;simp only[↓aD,bT,aS,qT,eL,ad,ag,aa];refine⟨by omega,?_⟩;intro u m;refine aT O ⟨_,O,((m.b 0 O).full cF aP)⟩ ?_;try simp only[zD,zE]
   exact⟨_,O,m.ext,by rw[hr];rfl⟩
  ·
   have hr:=asU (t:=t) rfl rfl rfl (by rw[hy];rfl) hc2;apply zvc 7 [1,0] m;simp only[↓aD,eL,aa];intro u m;refine aT O ⟨_,O,((m.b 0 O).full cF aP)⟩ ?_;try simp only[zD,zE]
   exact⟨_,O,m.ext,by rw[hr];rfl⟩
 ·
  apply aW 5 [0] m;simp only[↓aD];refine bB O (fun hb=>aI) (bB O (fun hb=>rT (aY hb O)) (eE O (aB (cE O O O) ?_)));apply aL 2 [0] m;simp only[↓aD];refine dK O ?_ ?_<;>intro hc1
  ·
   have hr:=aun (t:=t) rfl rfl rfl (by rw[hy];exact hc1);apply zvc 12 [1,1,1,0] m;simp only[↓aD,bT,aS,qT,eL,ad,ag,aa];refine⟨by omega,?_⟩;intro u m;refine aT O ⟨_,O,((m.b 0 O).full cF aP)⟩ ?_;try simp only[zD,zE]
   exact⟨_,O,m.ext,by rw[hr];rfl⟩
  ·
   apply aJ 6 [0] m;simp only[↓aD];refine dK O ?_ ?_<;>intro hc2
   ·
    have hr:=asT (t:=t) rfl rfl rfl (by rw[hy];exact hc1) hc2;apply zvc 12 [1,1,1,0] m;simp only[↓aD,bT,aS,qT,eL,ad,ag,aa];refine⟨by omega,?_⟩;intro u m;refine aT O ⟨_,O,((m.b 0 O).full cF aP)⟩ ?_;try simp only[zD,zE]
    exact⟨_,O,m.ext,by rw[hr];rfl⟩
   ·
    have hr:=asU (t:=t) rfl rfl rfl (by rw[hy];exact hc1) hc2;apply zvc 7 [1,0] m;simp only[↓aD,eL,aa];intro u m;refine aT O ⟨_,O,((m.b 0 O).full cF aP)⟩ ?_;try simp only[zD,zE]
    exact⟨_,O,m.ext,by rw[hr];rfl⟩
theorem aqL{p:P3}(h:¬(p.x=q.x∧p.y=q.y∧p.z=q.z)):p≠q:=fun k=>h (by rw[k];exact⟨rfl,rfl,rfl⟩)
theorem aqM{p:P3}(h:¬¬(p.x=q.x∧p.y=q.y∧p.z=q.z)):p=q:=by
 obtain⟨h1,h2,h3⟩:=Classical.not_not.1 h;exact P3.eq h1 h2 h3
theorem asV(h:s.a≠t.a):decide (s.Lt t)=decide (s.a.Lt t.a):=by unfold T3.Lt;simp[h]
theorem asW(e:s.a=t.a)(h:s.b≠t.b):decide (s.Lt t)=decide (s.b.Lt t.b):=by unfold T3.Lt;simp[h,e,P3.lt_irrefl]
theorem ao9(e:s.a=t.a)(f:s.b=t.b):decide (s.Lt t)=decide (s.c.Lt t.c):=by unfold T3.Lt;simp[e,f,P3.lt_irrefl]
theorem asX(e:s.a=t.a)(f:s.b=t.b)(h:s.c=t.c):decide (s.Lt t)=false:=by rw[ao9 e f,h];simp[P3.lt_irrefl]
def kH(ls bs:List T3):List T3:=ls.merge bs fun x y=>!decide (y.Lt x)
theorem ajQ(bs:List T3):kH [] bs=bs:=by simp[kH]
theorem abY(ls:List T3):kH ls []=ls:=by simp[kH]
theorem ajR{bs:List T3}{x y:T3}(h:y.Lt x):kH (x::ls) (y::bs)=y::kH (x::ls) bs:=by simp[kH,List.cons_merge_cons,h]
theorem ajS{bs:List T3}{x y:T3}(h:¬y.Lt x):kH (x::ls) (y::bs)=x::kH ls (y::bs):=by simp[kH,List.cons_merge_cons,h]
theorem Jm{α:Type}{l:List α}{i:Nat}{x:α}(h:l[i]? = some x):l.drop i=x::l.drop (i+1):=by
 obtain⟨h1,h2⟩:=ap.1 h;rw[fc h1,h2]
theorem abZ(ts:List T3)(k:Nat):kH (vZ (ts.take k)) (vZ (ts.drop k))=vZ ts:=by
 refine wA ?_ ?_ (sD ts)
 · refine (List.merge_perm_append ..).trans (((uD _).append (uD _)).trans ?_)
   rw[mn];exact (uD ts).symm
 · have:=List.pairwise_merge (le:=fun x y:T3=>!decide (y.Lt x)) ?_ ?_ (vZ (ts.take k)) (vZ (ts.drop k)) ((sD _).imp fun {a b} h=>by simpa[vA] using h) ((sD _).imp fun {a b} h=>by simpa[vA] using h)
   · exact this.imp fun {a b} h=>by simpa[vA] using h
   · intro a b c h1 h2
     simp only[fj,decide_eq_false_iff_not] at *
     exact Ny (s:=a) (t:=b) (u:=c) h1 h2
   · intro a b
     simp only[ep,fj,decide_eq_false_iff_not];by_cases h:b.Lt a
     · exact .inr fun k=>T3.lt_irrefl a (T3.lt_trans k h)
     · exact .inl h
theorem Oa(h:ts.length<2):vZ ts=ts:=by
 rcases ts with _ | ⟨t,_ | ⟨u,ts⟩⟩
 · rfl
 · rfl
 · simp at h;omega
theorem ajT  : dT prog 218 [tr s,tr t] (.bool (decide (s.Lt t))):=by
 intro w;refine⟨bK func218 (by kernel_rfl),?_⟩;have m:=Mem.refl w
 go_enter func218,ntmps218
 apply jP 25 [4,1,0] m;simp only[↓aD];intro g1 g2;refine⟨by omega,?_⟩;intro u m;refine mq m aC (by kernel_rfl) (eC 6 [1,0] ?_);simp only[↓aD,bT,aS,ad,ag,aa];refine⟨by omega,?_⟩;refine aG (gW O O) (bC ?_);intro u m;refine gc ?_;simp only[zz];refine bG O ?_ ?_<;>intro hc2
 ·
  have ha:=aqL hc2;apply aJ 1 [0] m;simp only[↓aD];refine mq m aC (by kernel_rfl) (eC 6 [1,0] ?_);simp only[↓aD,bT,aS,ad,ag,aa];refine⟨by omega,?_⟩;refine eX O O (nQ (p:=s.a) (q:=t.a)) (aG aO (bC ?_));intro u m;apply aW 1 [] m;simp only[↓aD];refine aT O O ?_;try simp only[zD,zE]
  exact⟨_,O,m.ext,by rw[asV ha]⟩
 ·
  have ea:=aqM hc2;apply aJ 19 [1,0] m;simp only[↓aD,ak];refine⟨by omega,?_⟩;refine mq m aC (by kernel_rfl) (eC 6 [1,0] ?_);simp only[↓aD,bT,aS,ad,ag,aa];refine⟨by omega,?_⟩;refine aG (gW O O) (bC ?_);intro u m;refine gc ?_;simp only[zz];refine bG O ?_ ?_<;>intro hc2
  ·
   have hb:=aqL hc2;apply aJ 1 [0] m;simp only[↓aD];refine mq m aC (by kernel_rfl) (eC 6 [1,0] ?_);simp only[↓aD,bT,aS,ad,ag,aa];refine⟨by omega,?_⟩;refine eX O O (nQ (p:=s.b) (q:=t.b)) (aG aO (bC ?_));intro u m;apply aW 1 [] m;simp only[↓aD];refine aT O O ?_;try simp only[zD,zE]
   exact⟨_,O,m.ext,by rw[asW ea hb]⟩
  ·
   have eb:=aqM hc2;apply aJ 19 [1,0] m;simp only[↓aD,ak];refine⟨by omega,?_⟩;refine mq m aC (by kernel_rfl) (eC 6 [1,0] ?_);simp only[↓aD,bT,aS,ad,ag,aa];refine⟨by omega,?_⟩;refine aG (gW O O) (bC ?_);intro u m;refine gc ?_;simp only[zz];refine bG O ?_ ?_<;>intro hc2
   ·
    have hc:=aqL hc2;apply aJ 1 [0] m;simp only[↓aD];refine mq m aC (by kernel_rfl) (eC 6 [1,0] ?_);simp only[↓aD,bT,aS,ad,ag,aa];refine⟨by omega,?_⟩;refine eX O O (nQ (p:=s.c) (q:=t.c)) (aG aO (bC ?_));intro u m;apply aW 1 [] m;simp only[↓aD];refine aT O O ?_;try simp only[zD,zE]
    exact⟨_,O,m.ext,by rw[ao9 ea eb]⟩
   ·
    have ec:=aqM hc2;apply aJ 21 [2] m;simp only[↓aD,ak];refine⟨by omega,?_⟩;refine aT O O ?_;try simp only[zD,zE]
    exact⟨_,O,m.ext,by rw[asX ea eb ec]⟩
theorem ajU{ms:List T3}{M cap2:Nat}{A2:Option Addr}(w:aj)(hT:bV w A N ls)(hU:bV w A2 M ms)(hcap:M≤cap2)(hN:N+M≤10000000):dQ prog 145 [.slice A N cap,.slice A2 M cap2] w (SL 39 9 ((kH ls ms).flatMap aN) (N+M) w):=by
 refine⟨bK func145 (by kernel_rfl),?_⟩;have m:=Mem.refl w;have htl:=hT.len;have hul:=hU.len
 go_enter func145,ntmps145
 apply fF 6 [0] m;simp only[↓aD];refine aB aO ?_;replace m:=m.nilO 39 9;apply aL 11 [0] m;simp only[↓aD];refine bX [5,6,7] [8,9,10,11,12,13,14,15,16,17,18,19,20,21,22,23,24,25,26,27,28,29,30,31,32,33,34,35,36,37,38,39,40,41,42,43,44,45] (fun n vs wl=>∃(i j:Nat) (xs:List T3) (A5:Option Addr) (cap5:Nat),vs=[.slice A5 (i+j) cap5,.int .i64 (j:Int),.int .i64 (i:Int)]∧Mem w wl [oI 39 9 A5 (i+j) cap5 (xs.flatMap aN)]∧(xs++kH (ls.drop i) (ms.drop j)=kH ls ms)∧(i≤N)∧(j≤M)∧(n=N-i)) ?_ ?_
 ·
  exact⟨_,0,0,[],_,_,O,m,O,cv _,cv _,O⟩
 · intro n vs wr hI u K1 hK1
   obtain⟨i,j,xs,A5,cap5,rfl,m,hI,hi,hj,hn⟩:=hI;simp only[zu,zF,zG];apply aJ 8 [0,0] m;simp only[↓aD,kA];refine bG O ?_ ?_<;>intro hc1
   ·
    obtain⟨x,hx,_,a,hA,hrow⟩:=hT.get (i:=i) (by omega);subst hA;apply aJ 5 [0] m;simp only[↓aD];refine bX [5,6] [8,15,16,17,18,19,20,21,22,23,24,25,26,27,28,29,30,31,32,33,34,35,36,37,38] (fun n vs wl=>∃(j:Nat) (xs:List T3) (A5:Option Addr) (cap5:Nat),vs=[.slice A5 (i+j) cap5,.int .i64 (j:Int)]∧Mem w wl [oI 39 9 A5 (i+j) cap5 (xs.flatMap aN)]∧(xs++kH (ls.drop i) (ms.drop j)=kH ls ms)∧(j≤M)∧(n=M-j)) ?_ ?_
    ·
     exact⟨_,j,xs,_,_,O,m,hI,hj,O⟩
    · intro n vs wr hI u K2 hK2
      obtain⟨j,xs,A5,cap5,rfl,m,hI2,hj,hn2⟩:=hI;simp only[zu,zF,zG];apply aJ 8 [0,0] m;simp only[↓aD,kA];refine bG O ?_ ?_<;>intro hc2
      ·
       obtain⟨y,hy,_,a2,hA2,hrow2⟩:=hU.get (i:=j) (by omega);subst hA2;apply aJ 3 [0] m;simp only[↓aD];refine mh m [true] [(0,true),(1,true),(2,true),(4,true),(5,true),(6,true),(3,true),(7,true),(8,false),(9,true)] aC (by kernel_rfl) (bU (fun _ _ _ _ _ h=>h)) (ol:=?_) ?hol ?_
       case hol=>simp only[zw,zQ,zR];try rfl
       intro u m;refine bF aI (bF aI ?_);simp only[zz];refine bF (aF cH aP O O (by omega) (by omega) (cQ (ah _))) (bF aI (bF aI ?_));simp only[zz];refine bF (aF cH aP O O (by omega) (by omega) (cQ (ah _))) ?_;simp only[zz];refine fU O (fun u m=>((hrow2.ext m.ext).lies cF aP)) ?_;simp only[zz];refine fU O (fun u m=>((hrow.ext m.ext).lies cF aP)) ?_;simp only[zz];refine bR (kO m O O (ajT (s:=y) (t:=x)) ?_);intro u m;refine aM ⟨m,?_⟩;refine bF aO (bW ?_);apply aW 6 [0] m;simp only[↓aD];refine dK O ?_ ?_<;>intro hc3
       ·
        have hI3:(xs++[x])++kH (ls.drop (i+1)) (ms.drop j)=kH ls ms:=by rw[←hI2,Jm hx,Jm hy,ajS (by simpa using hc3),cq];rfl
        apply aJ 5 [0] m;simp only[↓aD];refine aB (aF cH aP O O (by omega) (by omega) (cQ (ah _))) ?_;simp only[zz];refine aR O ((hrow.ext m.ext).lies cF aP) ?_;simp only[zz];refine eZ O ?_;intro u g1 e_ h_ k_;replace m:=m.newB e_ h_ k_;simp only[zz];refine bL m 1 O O cH jK O (by decide) O O O (m.b 0 O).rowsO (gB O) (by omega) (by omega) ?_;intro A5 cap5 u m;simp only[zF,zG] at m;rw[show xs.flatMap aN++_=(xs++[x]).flatMap aN by rw[ay];rfl] at m;apply aL 8 [0] m;simp only[↓aD];refine⟨by omega,?_⟩;rw[show i+j+1=i+1+j by omega] at m ⊢;exact hK1 (N-(i+1)) _ _ (by omega) (by kernel_rfl) ⟨i+1,j,xs++[x],_,_,O,(m.sel [false,true]),hI3,by omega,hj,O⟩
       ·
        have hI4:(xs++[y])++kH (ls.drop i) (ms.drop (j+1))=kH ls ms:=by rw[←hI2,Jm hx,Jm hy,ajR (by simpa using hc3),cq];rfl
        apply aJ 6 [0] m;simp only[↓aD];refine aB (aF cH aP O O (by omega) (by omega) (cQ (ah _))) ?_;simp only[zz];refine aR O ((hrow2.ext m.ext).lies cF aP) ?_;simp only[zz];refine eZ O ?_;intro u g1 e_ h_ k_;replace m:=m.newB e_ h_ k_;simp only[zz];refine bL m 1 O O cH jK O (by decide) O O O (m.b 0 O).rowsO (gB O) (by omega) (by omega) ?_;intro A5 cap5 u m;simp only[zF,zG] at m;rw[show xs.flatMap aN++_=(xs++[y]).flatMap aN by rw[ay];rfl] at m;apply aL 8 [0] m;simp only[↓aD];refine⟨by omega,?_⟩;rw[show i+j+1=i+(j+1) by omega] at m ⊢;exact hK2 (M-(j+1)) _ _ (by omega) (by kernel_rfl) ⟨j+1,xs++[y],_,_,O,(m.sel [false,true]),hI4,by omega,O⟩
      ·
       obtain rfl:j=M:=by omega
       have hI3:(xs++[x])++kH (ls.drop (i+1)) (ms.drop j)=kH ls ms:=by rw[←hI2,Jm hx,show ms.drop j=[] from gi (by omega),abY,abY,cq];rfl
       apply aJ 5 [0] m;simp only[↓aD];refine aB (aF cH aP O O (by omega) (by omega) (cQ (ah _))) ?_;simp only[zz];refine aR O ((hrow.ext m.ext).lies cF aP) ?_;simp only[zz];refine eZ O ?_;intro u g1 e_ h_ k_;replace m:=m.newB e_ h_ k_;simp only[zz];refine bL m 1 O O cH jK O (by decide) O O O (m.b 0 O).rowsO (gB O) (by omega) (by omega) ?_;intro A5 cap5 u m;simp only[zF,zG] at m;rw[show xs.flatMap aN++_=(xs++[x]).flatMap aN by rw[ay];rfl] at m;apply aL 8 [0] m;simp only[↓aD];refine⟨by omega,?_⟩;rw[show i+j+1=i+1+j by omega] at m ⊢;exact hK1 (N-(i+1)) _ _ (by omega) (by kernel_rfl) ⟨i+1,j,xs++[x],_,_,O,(m.sel [false,true]),hI3,by omega,hj,O⟩
   ·
    obtain rfl:i=N:=by omega
    have hend:xs++ms.drop j=kH ls ms:=by rw[←hI,show ls.drop i=[] from gi (by omega),ajQ]
    apply aJ 6 [0] m;simp only[↓aD];refine aB (uA cH aP O O (ah _) (by omega) (by omega) O) ?_;simp only[zz];refine bL m 0 O O cH jK O (by decide) O O (by rw[Ec,fl,hul]) ((hU.lat.ext m.ext).cellsD ais (by decide) hcap) (xB _) (by omega) (by omega) ?_;intro A5 cap5 u m;simp only[zF,zG] at m;rw[←ay,hend] at m;apply aL 3 [] m;simp only[↓aD];exact aT O O ⟨_,O,m.ext,⟨_,_,_,by omega,O,(m.o 0 O)⟩⟩
end Go.Proofs.YtfekpcimgncioaaGreatDoor
namespace Go.Lith
open Go.RowKit
section
variable {w0 w w':aj} {is:List It}
theorem Mem.plus{js:List It}(m:Mem w0 w is)(h:Mem w w' js):Mem w0 w' (js++is):=by
 have m':=m.ext' h.ext;refine⟨m'.ext,fun i hi=>?_,fun i hi b hb=>?_,gj.2 ⟨h.nd,m.nd,fun i hi j hj b h1 h2=>?_⟩⟩
 · exact (bi.1 hi).elim (h.all i) (m'.all i)
 · rcases bi.1 hi with hi | hi
   · exact ba m.ext.size (h.ge i hi b hb)
   · exact m'.ge i hi b hb
 · have k1:=h.ge i hi b h1
   have k2:=j.lt w b (m.all j hj) h2;omega
end
structure Hd where
 A:Option Addr
 n:Nat
 cap:Nat
def Hd.v(h:Hd):ai:=.slice h.A h.n h.cap
theorem bV.takeL{w:aj}{A:Option Addr}{N k:Nat}{ts:List T3}(h:bV w A N ts)(hk:k≤N):bV w A k (ts.take k) :=
 ⟨by rw[bp,h.len];exact gr hk,fun t ht=>h.it t (List.mem_of_mem_take ht),fun i t hi=>by
  rw[d_] at hi;split at hi
  · exact h.row i t hi
  · cases hi⟩
theorem bV.dropL{w:aj}{A:Option Addr}{N k cap:Nat}{ts:List T3}(h:bV w A N ts)(hk:k≤N)(hc:N≤cap):bV w (if cap=k then A else A.map (·.add (k*9))) (N-k) (ts.drop k) :=
 ⟨by rw[fl,h.len],fun t ht=>h.it t (List.mem_of_mem_drop ht),fun i t hi=>by
  rw[dj] at hi;obtain⟨a,e,hr⟩:=h.row _ t hi;have hl:=(ap.1 hi).1;rw[h.len] at hl;rw[if_neg (by omega),e];refine⟨_,O,?_⟩;rw[jR,←Nat.add_mul];exact hr⟩
end Go.Lith
namespace Go.Lith
open Go.RowKit Go.ChangeMaps Go.MapKept
def Dd(is:List It):It where
 own b:=∃i∈is,i.own b
 P w:=(∀i∈is,i.P w)∧is.Pairwise Ap
 lt w b h e:=by obtain⟨i,hi,ho⟩:=e;exact i.lt w b (h.1 i hi) ho
 st w w' h s k:=⟨fun i hi=>i.st w w' (h.1 i hi) s fun b hb=>k b ⟨i,hi,hb⟩,h.2⟩
section
variable {w0 w:aj} {a is:List It}
theorem Mem.pack(a:List It)(m:Mem w0 w (a++is)):Mem w0 w (a++[Dd is]):=by
 have h:=gj.1 m.nd;refine⟨m.ext,fun i hi=>?_,fun i hi b hb=>?_,gj.2 ⟨h.1,kh _ _,fun x hx y hy b h1 h2=>?_⟩⟩
 · rcases bi.1 hi with hi | hi
   · exact m.all i (ig _ hi)
   · obtain rfl:=bf.1 hi
     exact⟨fun i hi=>m.all i (gp _ hi),h.2.1⟩
 · rcases bi.1 hi with hi | hi
   · exact m.ge i (ig _ hi) b hb
   · obtain rfl:=bf.1 hi
     obtain⟨j,hj,hb⟩:=hb;exact m.ge j (gp _ hj) b hb
 · obtain rfl:=bf.1 hy
   obtain⟨j,hj,hb⟩:=h2;exact h.2.2 x hx j hj b h1 hb
theorem Mem.unpack(a:List It)(m:Mem w0 w (a++[Dd is])):Mem w0 w (a++is):=by
 have h:=gj.1 m.nd;have hP:(∀i∈is,i.P w)∧is.Pairwise Ap:=m.all _ (gp _ (lx _));refine⟨m.ext,fun i hi=>?_,fun i hi b hb=>?_,gj.2 ⟨h.1,hP.2,fun x hx y hy b h1 h2=>?_⟩⟩
 · rcases bi.1 hi with hi | hi
   · exact m.all i (ig _ hi)
   · exact hP.1 i hi
 · rcases bi.1 hi with hi | hi
   · exact m.ge i (ig _ hi) b hb
   · exact m.ge _ (gp _ (lx _)) b ⟨i,hi,hb⟩
 · exact h.2.2 x hx _ (lx _) b h1 ⟨y,hy,h2⟩
end
def wE(P:br)(f:FuncId)(args:List ai)(w:aj)(R:ai→aj→Prop):Prop :=
 Entr P f∧Calls P f args.toArray w fun e w'=>∃v,e=.returned v∧R v w'
theorem wE.mono{P:br}{f:FuncId}{args:List ai}{w:aj}{R R':ai→aj→Prop}(h:wE P f args w R)(hr:∀v w',R v w'→R' v w'):wE P f args w R' :=
 ⟨h.1,h.2.mono fun _ _ ⟨v,he,hR⟩=>⟨v,he,hr _ _ hR⟩⟩
section
variable {P:br} {ds:List dz} {l:List ai} {ty:az} {w:aj}
variable {ops:Array Oper} {Q:Exit→Act→aj→Prop} {rest:List Oper} {d:Nat} {pos:String} {after:Array Edge}
theorem kK{f:FuncId}{fo:Operand}{xs:Array Operand}{args:List ai}{first cap:Array ai}{a0:Array az}{R:ai→aj→Prop}(hf:ev l fo=.func (.func f) first cap)(hxs:first.toList++xs.toList.map (ev l)++cap.toList=args)(hc:wE P f args w R)
 (h:∀v u,R v u→ar P ops Q rest (Fr (l.set d v) ds) u):ar P ops Q (Oper.mk (some d) (.call { callee:=.value fo,args:=xs,argTypes:=a0 }) ty pos after none::rest) (Fr l ds) w:=by
 refine wpList_plain O fun K hK=>?_;unfold Oper.wp;rw[kJ,pM hc.1 hf hxs _ rfl];refine hc.2.mono ?_;rintro e w' ⟨v,rfl,hR⟩;show K ((Fr l ds).put (some d) v) w'
 rw[gL];exact hK _ _ (h v w' hR)
end
end Go.Lith
namespace Go.Lith
section
variable {w0 w:aj} {x y z:It} {is:List It}
theorem Mem.pack1(m:Mem w0 w (x::is)):Mem w0 w [x,Dd is]:=Mem.pack [x] m
theorem Mem.unpack2(m:Mem w0 w [x,y,Dd is]):Mem w0 w (x::y::is):=Mem.unpack [x,y] m
theorem Mem.pack3(m:Mem w0 w (x::y::z::is)):Mem w0 w [x,y,z,Dd is]:=Mem.pack [x,y,z] m
theorem Mem.pack2(m:Mem w0 w (x::y::is)):Mem w0 w [x,y,Dd is]:=Mem.pack [x,y] m
theorem Mem.pack4{z2:It}(m:Mem w0 w (x::y::z::z2::is)):Mem w0 w [x,y,z,z2,Dd is]:=Mem.pack [x,y,z,z2] m
theorem Mem.unpack4{z2:It}(m:Mem w0 w [x,y,z,z2,Dd is]):Mem w0 w (x::y::z::z2::is):=Mem.unpack [x,y,z,z2] m
theorem Mem.unpack3(m:Mem w0 w [x,y,z,Dd is]):Mem w0 w (x::y::z::is):=Mem.unpack [x,y,z] m
end
end Go.Lith
