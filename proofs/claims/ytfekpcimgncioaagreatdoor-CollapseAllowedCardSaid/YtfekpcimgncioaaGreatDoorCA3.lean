/-
 Texts of one claim, laid together: Wb, Wc, Wd, Dig, Dig2, Dig3, Cst, We, Wf, Wg, Wh, Wi, Ca, Near, Cb, Cc, Wk, Wl, Wm, Wn, Cd, Ce, Cf, Cg, Qd, Vt, Vu, Fa3, Rchk, K30, Bag, Pack, Pack2.
-/
import Derived.Test.YtfekpcimgncioaaGreatDoorCA2
open Nat renaming reduceAdd→aa,reduceMul→ag,zero_add→aq,le_refl→av,le_trans→ba,zero_le→bw,lt_or_ge→dq,min_eq_left→ii,le_of_not_lt→ik,pow_succ→iw,mod_lt→jr,add_zero→jt,mod_eq_of_lt→kg,mul_zero→ky,le_sub_one_of_lt→mf,sub_self→ov,strongRecOn→pi
open Int renaming reduceToNat→ad,toNat_natCast→ah,reduceAdd→ak,neg_eq_zero→kn,mul_eq_zero→mz,le_of_lt→nw,zero_mul→pe,mul_comm→pf,neg_mul_neg→pk,zero_sub→qe
open Go renaming Value→ai,World→aj,wpList→ar,TypeId→az,Program→bp,Deferred→dx
open List renaming getElem?_eq_getElem→am,mem_cons→an,getElem?_eq_some_iff→ap,length_append→au,length_cons→aw,take_of_length_le→ay,flatMap_append→a_,mem_of_getElem?→be,mem_singleton→bf,map_cons→bh,mem_append→bi,length_nil→bn,pairwise_cons→br,mem_cons_of_mem→bt,mem_cons_self→bu,length_take→bv,getElem?_eq_none→bz,nil_append→b_,not_mem_nil→cg,cons_append→cj,getElem?_append_left→cn,length_map→ct,replicate→cu,mem_filter→c_,getElem?_drop→di,append_assoc→dl,getElem?_take→dm,flatMap_cons→dt,getElem?_append_right→dw,mem_map→eh,any_eq_true→el,drop_eq_getElem_cons→eu,append_nil→fe,take_length→fi,mem_flatMap→fk,getElem_mem→fq,length_drop→ft,any_eq_false→fx,set_cons_succ→fy,pairwise_append→fz,mem_append_right→gl,drop_of_length_le→gp,nodup_cons→gt,filter_cons→gv,getElem?_cons_succ→gw,getD_eq_getElem?_getD→gz,mem_append_left→g_,foldl_append→iq,length_singleton→ja,range→ji,mem_range→jj,toArray→jo,pairwise_singleton→jz,pairwise_map→j_,drop_length→lg,mem_singleton_self→li,take_append_drop→lz,getElem?_set_ne→me,filter_nil→m_,perm_cons→ny,flatMap_nil→od,perm_singleton→ou
open Bool renaming and_eq_true→bg,or_eq_true→ej,not_eq_true'→ew,false_ne_true→fg,false_eq_true→nf,or_comm→pg
open Option renaming getD_some→df,bind_some→il,bind_eq_some_iff→lh
open UInt8 renaming ofNat→ei,toNat→iz,toNat_ofNat'→jf,toNat_inj→my
open Option.some renaming inj→eo
open Array renaming getElem?_toList→fu
open Prod.mk renaming injEq→gh
open Go.Value renaming int→lx
open Prod renaming ext→oq,snd→pc,fst→pw
set_option maxHeartbeats 8000000
set_option linter.unusedSimpArgs false
set_option linter.unusedVariables false
set_option linter.unusedSectionVars false
namespace Go.Lith
open Go.RowKit
variable{k n cap i m j:Nat}{x y z q s u a:P3}{w:aj}{xs os ys:List Nat}{L:List Int}{op:Op}
section
variable {K V:Type} [DecidableEq K]
def Eh(D:List (K × V))(xs:List (K × V)):List (K × V):=xs.foldl (fun D x=>fP D x.1 x.2) D
theorem aaR:∀(xs D:List (K × V)) (k:K),(xs.map (·.1)).Nodup→cL (Eh D xs) k=match cL xs k with | some v=>some v | none=>cL D k
 | [],D,k,_=>rfl
 | (a,v)::xs,D,k,h=>by
  rw[bh,gt] at h;have ih:=aaR xs (fP D a v) k h.2;show cL (Eh (fP D a v) xs) k=_
  rw[ih,mG,cL];by_cases e:a=k
  · rw[if_pos e,if_pos e]
    have:cL xs k=none:=oX.2 (e▸h.1);rw[this]
  · rw[if_neg e,if_neg e]
theorem ahX(D xs ys:List (K × V)):Eh D (xs++ys)=Eh (Eh D xs) ys:=iq ..
def wF(D:List (K × Nat))(ks:List K):List (K × Nat):=ks.foldl (fun D k=>fP D k ((cL D k).getD 0+1)) D
def vC(ks:List K)(a:K):Nat:=(ks.filter fun x=>decide (x=a)).length
theorem Dr{x a:K}{ks:List K}:vC (x::ks) a=(if x=a then 1 else 0)+vC ks a:=by
 unfold vC;by_cases h:x=a
 · rw[List.filter_cons_of_pos (by simpa using h),aw,if_pos h];omega
 · rw[List.filter_cons_of_neg (by simpa using h),if_neg h];omega
theorem ahY{a:K}{ks ls:List K}:vC (ks++ls) a=vC ks a+vC ls a:=by simp[vC]
theorem aaS:∀(ks:List K) (D:List (K × Nat)) (a:K),(cL (wF D ks) a).getD 0=(cL D a).getD 0+vC ks a
 | [],D,a=>rfl
 | k::ks,D,a=>by
  have h:=aaS ks (fP D k ((cL D k).getD 0+1)) a;show (cL (wF (fP D k ((cL D k).getD 0+1)) ks) a).getD 0=_
  rw[h,mG,Dr];by_cases e:k=a
  · subst e
    rw[if_pos rfl,if_pos rfl,df];omega
  · rw[if_neg e,if_neg e];omega
theorem ahZ(D:List (K × Nat))(ks ls:List K):wF D (ks++ls)=wF (wF D ks) ls:=iq ..
theorem uM:∀{l m:List K},l.Nodup→(∀a∈l,a∈m)→l.length≤m.length
 | [],_,_,_=>bw _
 | x::l,m,h,k=>by
  rw[gt] at h;have hx:=k x (bu ..);have h1:=uM (m:=m.erase x) h.2 fun a ha=>(List.mem_erase_of_ne (fun (e:a=x)=>h.1 (e▸ha))).2 (k a (bt _ ha));rw[List.length_erase_of_mem hx] at h1;have:=List.length_pos_of_mem hx;rw[aw];omega
end
/-! ### What lies behind an edge -/
def lS(ts:List T3):List (E3 × P3):=ts.flatMap fun t=>[((t.a,t.b),t.c),((t.b,t.c),t.a),((t.c,t.a),t.b)]
theorem rB:∀ts:List T3,(lS ts).map (·.1)=bE ts
 | []=>rfl
 | t::ts=>by
  have:=rB ts;unfold lS bE at this ⊢;rw[dt,List.map_append,this];rfl
theorem acD{ts:List T3}{t:T3}(h:ts[k]? = some t):lS (ts.take (k+1))=lS (ts.take k)++[((t.a,t.b),t.c),((t.b,t.c),t.a),((t.c,t.a),t.b)]:=by
 unfold lS;rw[cH h,a_];simp
theorem yK(p q:P3):∀ts:List T3,cE ts p q=cL (lS ts) (p,q)
 | []=>rfl
 | t::ts=>by
  have ih:=yK p q ts;have e:lS (t::ts)=((t.a,t.b),t.c)::((t.b,t.c),t.a)::((t.c,t.a),t.b)::lS ts:=rfl;rw[e,cE,cL,cL,cL,←ih,T3.fnd];by_cases h1:t.a=p∧t.b=q
  · rw[if_pos h1,if_pos (oq h1.1 h1.2)]
  · rw[if_neg h1,if_neg (fun e=>h1 ⟨congrArg pw e,congrArg pc e⟩)]
    by_cases h2:t.b=p∧t.c=q
    · rw[if_pos h2,if_pos (oq h2.1 h2.2)]
    · rw[if_neg h2,if_neg (fun e=>h2 ⟨congrArg pw e,congrArg pc e⟩)]
      by_cases h3:t.c=p∧t.a=q
      · rw[if_pos h3,if_pos (oq h3.1 h3.2)]
      · rw[if_neg h3,if_neg (fun e=>h3 ⟨congrArg pw e,congrArg pc e⟩)]
theorem Ia{ts:List T3}(h:(bE ts).Nodup)(p q:P3):cL (Eh [] (lS ts)) (p,q)=cE ts p q:=by
 rw[aaR _ _ _ (by rw[rB];exact h),yK];cases cL (lS ts) (p,q) <;> rfl
theorem yL{ts:List T3}(h:((x,y),z)∈lS ts):((y,z),x)∈lS ts:=by
 obtain⟨t,ht,hx⟩:=fk.1 h;refine fk.2 ⟨t,ht,?_⟩;simp only[an,cg,or_false,gh] at hx ⊢;rcases hx with ⟨⟨rfl,rfl⟩,rfl⟩ | ⟨⟨rfl,rfl⟩,rfl⟩ | ⟨⟨rfl,rfl⟩,rfl⟩
 · exact .inr (.inl ⟨⟨O,O⟩,O⟩)
 · exact .inr (.inr ⟨⟨O,O⟩,O⟩)
 · exact .inl ⟨⟨O,O⟩,O⟩
theorem Qj{ts:List T3}(h:(bE ts).Nodup){e:E3}(h1:(e,x)∈lS ts)(h2:(e,y)∈lS ts):x=y:=by
 have k:((lS ts).map (·.1)).Nodup:=by rw[rB];exact h
 have a:=vJ k h1;rw[vJ k h2] at a;exact (eo a).symm
theorem uN{ts:List T3}{p:P3}(h:cE ts p q=some x):((p,q),x)∈lS ts:=Bt (by rw[←yK];exact h)
theorem vM{ts:List T3}{p:P3}(h:cE ts p q=some x):(p,q)∈bE ts:=by
 rw[←rB];exact eh.2 ⟨_,uN h,O⟩
theorem Bz{ts:List T3}{p:P3}(h:(p,q)∈bE ts):∃x,cE ts p q=some x:=by
 rw[yK];cases e:cL (lS ts) (p,q) with
 | some x=>exact⟨x,rfl⟩
 | none =>
  have:=oX.1 e;rw[rB] at this;exact absurd h this
theorem acE{ts:List T3}(h:(bE ts).Nodup){p:P3}(h1:cE ts p x=some z)(h2:cE ts p y=some z):x=y :=
 Qj h (yL (yL (uN h1))) (yL (yL (uN h2)))
def rC(ts:List T3)(p:P3):Nat→P3→Option P3
 | 0,x=>some x
 | n+1,x=>(cE ts p x).bind (rC ts p n)
theorem Ca{ts:List T3}{p:P3}:∀(n:Nat) (x:P3),rC ts p (n+1) x=(rC ts p n x).bind (cE ts p)
 | 0,x=>by simp[rC]
 | n+1,x=>by
  rw[rC];cases h:cE ts p x with
  | none=>simp[rC,h]
  | some y =>
   rw[il,Ca n y,rC,h];rfl
theorem Qk{ms:List T3}{p s:P3}:∀(n:Nat) (x:P3),oA ms p s n x=true↔∃j,1≤j∧j≤n∧rC ms p j x=some s
 | 0,x=>⟨fun h=>(by cases h),fun⟨j,h1,h2,_⟩=>by omega⟩
 | n+1,x=>by
  cases h:cE ms p x with
  | none =>
   rw[Us h];refine⟨fun k=>(by cases k),fun⟨j,h1,_,h3⟩=>?_⟩;obtain⟨i,rfl⟩:∃i,j=i+1:=⟨j-1,by omega⟩
   rw[rC,h] at h3;cases h3
  | some y =>
   by_cases e:y=s
   · subst e
     rw[aaz h];exact⟨fun _=>⟨1,av _,by omega,by simp[rC,h]⟩,fun _=>rfl⟩
   · rw[Ut h e,Qk n y]
     constructor
     · rintro⟨j,h1,h2,h3⟩
       exact⟨j+1,by omega,by omega,by rw[rC,h];exact h3⟩
     · rintro⟨j,h1,h2,h3⟩
       obtain⟨i,rfl⟩:∃i,j=i+1:=⟨j-1,by omega⟩
       rw[rC,h,il] at h3;cases i with
       | zero=>exact absurd (eo h3) e
       | succ i=>exact⟨i+1,by omega,by omega,h3⟩
def Cb(nx:P3→Option P3)(s:P3):Nat→P3→Nat→P3 × Nat
 | 0,a,z=>(a,z)
 | n+1,a,z=>if a=s then (a,z) else match nx a with | none=>(a,z) | some b=>Cb nx s n b (z+1)
theorem ah0{nx:P3→Option P3}{z:Nat}:Cb nx s n s z=(s,z):=by
 cases n with
 | zero=>rfl
 | succ n=>rw[Cb,if_pos rfl]
theorem Yh{ts:List T3}{p s:P3}{M:Nat}:∀(n:Nat) (a:P3) (z:Nat),n=M+1-z→((Cb (cE ts p) s n a z).1=s∧(Cb (cE ts p) s n a z).2<M↔∃j,z≤j∧j<M∧rC ts p (j-z) a=some s)
 | 0,a,z,h=>by
  rw[Cb];refine⟨fun k=>?_,fun⟨j,h1,h2,_⟩=>?_⟩
  · have:=k.2;simp only at this;omega
  · omega
 | n+1,a,z,h=>by
  rw[Cb];by_cases e:a=s
  · rw[if_pos e]
    refine⟨fun k=>⟨z,av _,k.2,by rw[ov,rC,e]⟩,fun⟨j,h1,h2,_⟩=>⟨e,by simp only;omega⟩⟩
  · rw[if_neg e]
    cases hb:cE ts p a with
    | none =>
     refine⟨fun k=>absurd k.1 e,fun⟨j,h1,h2,h3⟩=>?_⟩;cases hj:j-z with
     | zero=>rw[hj,rC] at h3;exact absurd (eo h3) e
     | succ i=>rw[hj,rC,hb] at h3;cases h3
    | some b =>
     rw[Yh n b (z+1) (by omega)];constructor
     · rintro⟨j,h1,h2,h3⟩
       refine⟨j,by omega,h2,?_⟩;rw[show j-z=(j-(z+1))+1 by omega,rC,hb];exact h3
     · rintro⟨j,h1,h2,h3⟩
       rcases dq z j with hz | hz
       · refine⟨j,by omega,h2,?_⟩
         rw[show j-z=(j-(z+1))+1 by omega,rC,hb] at h3;exact h3
       · rw[show j-z=0 by omega,rC] at h3
         exact absurd (eo h3) e
/-! ### The triangles of a corner -/
theorem alB{t:T3}{p:P3}(h:t.fnd p q=some x):∃c,c<3∧t.cor c=p:=by
 unfold T3.fnd at h;split at h
 · rename_i h';exact⟨0,by decide,h'.1⟩
 · split at h
   · rename_i h';exact⟨1,by decide,h'.1⟩
   · split at h
     · rename_i h';exact⟨2,by decide,h'.1⟩
     · cases h
theorem acF{ts us:List T3}{p:P3}:cE (ts++us) p q=match cE ts p q with | some x=>some x | none=>cE us p q:=by
 induction ts with
 | nil=>rfl
 | cons t ts ih =>
  rw[cj,cE,cE];cases t.fnd p q with
  | some x=>rfl
  | none=>exact ih
theorem afz{t u:T3}{p:P3}(h:u∈wU p t 3):u=t∧∃c,c<3∧t.cor c=p:=by
 obtain⟨c,hc,h⟩:=fk.1 h;unfold Pr at h;split at h
 · rename_i e
   exact⟨bf.1 h,c,jj.1 hc,e⟩
 · cases h
theorem acG{t:T3}{p:P3}{c:Nat}(hc:c<3)(h:t.cor c=p):t∈wU p t 3 :=
 fk.2 ⟨c,jj.2 hc,by rw[Pr,if_pos h];exact bf.2 O⟩
theorem Ql{t:T3}{p q:P3}:∀us:List T3,(∀u∈us,u=t)→cE us p q=if us=[] then none else t.fnd p q
 | [],_=>rfl
 | u::us,h=>by
  have e:=h u (bu ..);have ih:=Ql (p:=p) (q:=q) us fun v hv=>h v (bt _ hv);rw[cE,e,if_neg (by simp)];cases hf:t.fnd p q with
  | some x=>rfl
  | none =>
   simp only;rw[ih];split
   · rfl
   · exact hf
theorem Mp(p q:P3):∀ts:List T3,cE (nZ ts p) p q=cE ts p q
 | []=>rfl
 | t::ts=>by
  have e:nZ (t::ts) p=wU p t 3++nZ ts p:=by simp[nZ]
  rw[e,acF,Mp p q ts,cE,Ql (t:=t) _ (fun u hu=>(afz hu).1)];by_cases h:wU p t 3=[]
  · rw[if_pos h]
    cases hf:t.fnd p q with
    | none=>rfl
    | some x =>
     obtain⟨c,hc,k⟩:=alB hf;have:=acG hc k;rw[h] at this;cases this
  · rw[if_neg h] <;> rfl
theorem Ib(ts:List T3)(p:P3):∀(n:Nat) (x:P3),rC (nZ ts p) p n x=rC ts p n x
 | 0,_=>rfl
 | n+1,x=>by
  rw[rC,rC,Mp];cases cE ts p x with
  | none=>rfl
  | some y=>exact Ib ts p n y
theorem Qm(p:P3):∀ts:List T3,(nZ ts p).length=vC (dT ts) p
 | []=>rfl
 | t::ts=>by
  have ih:=Qm p ts;have e:nZ (t::ts) p=wU p t 3++nZ ts p:=by simp[nZ]
  have e2:dT (t::ts)=[t.a,t.b,t.c]++dT ts:=rfl;rw[e,e2,au,ahY,ih]
  congr 1
  have r3:ji 3=[0,1,2]:=rfl;unfold wU;rw[r3];simp only[dt,od,fe,au,Pr];rw[Dr,Dr,Dr];have k:∀(c:Nat) (x:P3),t.cor c=x→(if t.cor c=p then [t] else []).length=if x=p then 1 else 0:=fun c x hx=>by
   subst hx;split <;> rfl
  rw[k 0 t.a rfl,k 1 t.b rfl,k 2 t.c rfl];rfl
theorem Vj{p:P3}{ts:List T3}:s∈uE ts p↔(p,s)∈bE ts:=by
 unfold uE bE;rw[fk,fk];refine exists_congr fun t=>and_congr Iff.rfl ?_;unfold Bn;rw[show ji 3=[0,1,2] from rfl];simp only[dt,od,fe,bi,Ps,an,cg,or_false,gh];have k:∀(c:Nat) (x y:P3),t.cor c=x→t.cor ((c+1)%3)=y→(s∈(if t.cor c=p then [t.cor ((c+1)%3)] else [])↔p=x∧s=y):=fun c x y hx hy=>by
  subst hx;subst hy;split
  · rename_i h;rw[bf];exact⟨fun e=>⟨h.symm,e⟩,fun e=>e.2⟩
  · rename_i h;exact⟨fun e=>(by cases e),fun e=>absurd e.1.symm h⟩
 rw[k 0 t.a t.b rfl rfl,k 1 t.b t.c rfl rfl,k 2 t.c t.a rfl rfl]
theorem Kx{ps:List P3}{p:P3}:x∈iL ps p↔x=p∨x∈ps:=by
 unfold iL;split
 · rename_i h
   exact⟨.inr,fun k=>k.elim (fun e=>e▸be h) id⟩
 · conv=>rhs;rw[←lz (aay ps p) ps]
   simp only[bi,bf];exact⟨fun h=>h.elim (fun h=>h.elim (fun h=>.inr (.inl h)) .inl) (fun h=>.inr (.inr h)),fun h=>h.elim (fun h=>.inl (.inr h)) (fun h=>h.elim (fun h=>.inl (.inl h)) .inr)⟩
theorem Cc{ts:List T3}:x∈dY ts↔x∈dT ts:=by
 have:∀(ts:List T3) (ps:List P3),x∈ts.foldl (fun ps t=>iL (iL (iL ps t.a) t.b) t.c) ps↔x∈ps∨x∈dT ts:=by
  intro ts
  induction ts with
  | nil=>intro ps;simp[dT]
  | cons t ts ih =>
   intro ps;rw[List.foldl_cons,ih,Kx,Kx,Kx];have e:dT (t::ts)=[t.a,t.b,t.c]++dT ts:=rfl;rw[e];simp only[bi,an,cg,or_false];constructor
   · rintro ((h | h | h | h) | h)
     · exact .inr (.inl (.inr (.inr h)))
     · exact .inr (.inl (.inr (.inl h)))
     · exact .inr (.inl (.inl h))
     · exact .inl h
     · exact .inr (.inr h)
   · rintro (h | (h | h | h) | h)
     · exact .inl (.inr (.inr (.inr h)))
     · exact .inl (.inr (.inr (.inl h)))
     · exact .inl (.inr (.inl h))
     · exact .inl (.inl h)
     · exact .inr h
 have:=this ts [];simpa[dY] using this
theorem afA{ts:List T3}{e:E3}(h:e∈bE ts):e.1∈dT ts∧e.2∈dT ts:=by
 obtain⟨t,ht,hx⟩:=fk.1 h;have key:∀x,x=t.a∨x=t.b∨x=t.c→x∈dT ts:=fun x hx=>fk.2 ⟨t,ht,by simpa using hx⟩;simp only[an,cg,or_false] at hx;rcases hx with rfl | rfl | rfl
 · exact⟨key _ (.inl O),key _ (.inr (.inl O))⟩
 · exact⟨key _ (.inr (.inl O)),key _ (.inr (.inr O))⟩
 · exact⟨key _ (.inr (.inr O)),key _ (.inl O)⟩
def Yi(ts:List T3)(e:E3):Prop:=∃x,cE ts e.1 e.2=some x∧(Cb (cE ts e.1) e.2 (vC (dT ts) e.1+1-1) x 1).1=e.2∧(Cb (cE ts e.1) e.2 (vC (dT ts) e.1+1-1) x 1).2<vC (dT ts) e.1
theorem Qn{ts:List T3}{e:E3}:Yi ts e↔e∈bE ts∧oA (nZ ts e.1) e.1 e.2 ((nZ ts e.1).length-1) e.2=true:=by
 rw[Qk,Qm];constructor
 · rintro⟨x,hx,h⟩
   obtain⟨j,h1,h2,h3⟩:=(Yh (M:=vC (dT ts) e.1) _ x 1 (by omega)).1 h;refine⟨vM hx,j,h1,by omega,?_⟩;rw[Ib,show j=(j-1)+1 by omega,rC,hx];exact h3
 · rintro⟨he,j,h1,h2,h3⟩
   obtain⟨x,hx⟩:=Bz he;refine⟨x,hx,(Yh (M:=vC (dT ts) e.1) _ x 1 (by omega)).2 ⟨j,h1,by omega,?_⟩⟩;rw[Ib,show j=(j-1)+1 by omega,rC,hx] at h3;exact h3
theorem pinned{ts:List T3}:(dY ts).any (Hn ts)=true↔∃e,Yi ts e:=by
 rw[el];constructor
 · rintro⟨p,_,h⟩
   obtain⟨s,hs,hr⟩:=el.1 h;exact⟨(p,s),Qn.2 ⟨Vj.1 hs,hr⟩⟩
 · rintro⟨e,h⟩
   obtain⟨he,hr⟩:=Qn.1 h;exact⟨e.1,Cc.2 (afA he).1,el.2 ⟨e.2,Vj.2 he,hr⟩⟩
/-! ### The ends of fans -/
def ah1(ts:List T3):Prop:=∀t∈ts,wV t=false
theorem arO{t:T3}(h:wV t=false):t.a≠t.b∧t.b≠t.c∧t.c≠t.a:=by
 unfold wV at h;simp only[Bool.or_eq_false_iff,decide_eq_false_iff_not] at h;exact⟨h.1.1,h.1.2,h.2⟩
theorem Yj{ts:List T3}{p:P3}:∀(i j:Nat) (a:P3),rC ts p (i+j) a=(rC ts p i a).bind (rC ts p j)
 | 0,j,a=>by simp[rC]
 | i+1,j,a=>by
  rw[show i+1+j=(i+j)+1 by omega,rC,rC];cases cE ts p a with
  | none=>rfl
  | some y=>rw[il,il];exact Yj i j y
/-! ### As the reference says it -/
abbrev Mv:=P3 × P3
def T3.has(t:T3)(p:P3):Bool:=decide (t.a=p)||decide (t.b=p)||decide (t.c=p)
def Tx(ts:List T3)(p q:P3):Bool:=ts.any fun t=>t.has p&&t.has q
def Fa(rim:List E3)(p:P3):Bool:=rim.any fun e=>decide (e.1=p)||decide (e.2=p)
def dU(t:T3):T3:=if t.c.Lt t.a∧(t.c.Lt t.b∨¬t.b.Lt t.a) then ⟨t.c,t.a,t.b⟩ else if t.b.Lt t.a then ⟨t.b,t.c,t.a⟩ else t
theorem Ky{t u:T3}(h1:t.a=u.a)(h2:t.b=u.b)(h3:t.c=u.c):t=u:=by
 cases t;cases u;simp only at h1 h2 h3;subst h1;subst h2;subst h3;rfl
instance:DecidableEq T3:=fun t u=>decidable_of_iff (t.a=u.a∧t.b=u.b∧t.c=u.c) ⟨fun h=>Ky h.1 h.2.1 h.2.2,fun h=>by rw[h];exact⟨rfl,rfl,rfl⟩⟩
def T3.nd(t:T3):Bool:=decide (t.a≠t.b)&&decide (t.b≠t.c)&&decide (t.c≠t.a)
/-! ### Corners and edges -/
theorem fE{t:T3}{p:P3}:t.has p=true↔p=t.a∨p=t.b∨p=t.c:=by
 unfold T3.has;simp only[ej,decide_eq_true_eq,or_assoc];exact or_congr ⟨Eq.symm,Eq.symm⟩ (or_congr ⟨Eq.symm,Eq.symm⟩ ⟨Eq.symm,Eq.symm⟩)
theorem Ic{ts:List T3}{p:P3}:Tx ts p q=true↔∃t∈ts,t.has p=true∧t.has q=true:=by
 unfold Tx;rw[el];exact exists_congr fun t=>and_congr Iff.rfl (by rw[bg])
/-! ### The border -/
/-! ### The ends of fans -/
/-! ### Moves -/
/-! ### Covers -/
abbrev rW(x:Nat):ai:=.int .i64 (x:Int)
structure gB(w:aj)(b:Nat)(A:Option Addr)(n cap:Nat)(xs:List Nat):Prop where
 eq:n=xs.length
 row:∀(i x:Nat),xs[i]? = some x→∃a,A=some a∧a.block<b∧w.cell? (a.add i)=some (.int .i64 (x:Int))
 le:xs.length≤cap
 cap:cap≤9223372036854775807
 len:xs.length≤17592186044416
 digs:eO 65536 xs
section
variable {w w':aj} {b:Nat} {A:Option Addr} {n cap:Nat} {xs:List Nat}
theorem gB.ext(h:gB w b A n cap xs)(hE:fQ w w'):gB w' b A n cap xs :=
 ⟨h.eq,fun i x hi=>let ⟨a,e,hb,hc⟩:=h.row i x hi;⟨a,e,hb,hE.cell hc⟩,h.le,h.cap,h.len,h.digs⟩
theorem gB.here(h:gB w b A n cap xs):gB w w.heap.size A n cap xs :=
 ⟨h.eq,fun i x hi=>by
  obtain⟨a,e,_,hc⟩:=h.row i x hi;have:=World.block_lt_of_cell? _ _ hc;rw[Db] at this;exact⟨a,e,this,hc⟩,h.le,h.cap,h.len,h.digs⟩
theorem gB.take(h:gB w b A n cap xs)(k:Nat):gB w b A (xs.take k).length cap (xs.take k) :=
 ⟨rfl,fun i x hi=>h.row i x (by rw[dm] at hi;split at hi;exact hi;cases hi),ba (by simp;omega) h.le,h.cap,ba (by simp;omega) h.len,h.digs.take k⟩
theorem gB.get(h:gB w b A n cap xs){i:Nat}(hi:i<xs.length):∃a,A=some a∧w.cell? (a.add i)=some (.int .i64 ((xs[i]:Nat):Int))∧xs[i]<65536:=by
 obtain⟨a,e,_,hc⟩:=h.row i xs[i] (am hi);exact⟨a,e,hc,h.digs _ (fq hi)⟩
theorem gB.at{a:Addr}(h:gB w b (some a) n cap xs){i:Nat}(hi:i<xs.length):w.cell? (a.add i)=some (.int .i64 ((xs[i]:Nat):Int)):=by
 obtain⟨a',e,hc,_⟩:=h.get hi;cases e;exact hc
theorem gB.lt(h:gB w b A n cap xs){i:Nat}(hi:i<xs.length):xs[i]<65536:=h.digs _ (fq hi)
theorem gB.nil(w:aj)(b:Nat):gB w b none 0 0 []:=⟨rfl,fun i x hi=>by simp at hi,av _,by omega,by simp,fun x hx=>by cases hx⟩
theorem gB.of_blk{g:Nat}{os:List Nat}{t:az}(h:fR w g (os.map rW) t)(hd:eO 65536 os)(hn:n=os.length)(hl:n≤17592186044416):gB w w.heap.size (some ⟨g,0,none⟩) n n os :=
 ⟨hn,fun i x hi=>⟨_,rfl,h.lt,by rw[eL,aq];exact h.cell (by simp[hi])⟩,by omega,by omega,by omega,hd⟩
theorem gB.of_owns{base:Nat}{v:ai}{E:az}(h:agU w base E 1 v n (xs.map rW))(hn:n=xs.length)(hd:eO 65536 xs)(hl:n≤17592186044416):∃A c,v=.slice A n c∧gB w w.heap.size A n c xs∧∀a,A=some a→base≤a.block:=by
 rcases h.row with ⟨rfl,rfl,hx⟩ | ⟨g,cap,rfl,hb,h1,h2,hg,hr⟩
 · obtain rfl:xs=[]:=by simpa using hx
   exact⟨none,0,rfl,gB.nil _ _,fun _ e=>by cases e⟩
 · exact⟨_,cap,rfl,⟨hn,fun i x hi=>⟨_,rfl,hg,hr i _ (by simp[hi])⟩,by omega,h2,by omega,hd⟩,fun a e=>by cases e;exact hb⟩
end
def wG(n:Nat)(v:ai)(w:aj):Prop:=∃A cap,v=.slice A (digs 65536 n).length cap∧gB w w.heap.size A (digs 65536 n).length cap (digs 65536 n)
def aoe(n k:Nat)(v:ai)(w:aj):Prop:=∃A cap os,v=.slice A os.length cap∧gB w w.heap.size A os.length cap os∧val 65536 os=n∧os.length≤k
theorem wG.of_trim{b:Nat}{A:Option Addr}(h:gB w b A k cap xs)(hv:val 65536 xs=n):wG n (.slice A (trim xs).length cap) w:=by
 have e:trim xs=digs 65536 n:=pP (by omega) h.digs hv;refine⟨A,cap,by rw[e],?_⟩;rw[←e];have:=(h.take (trim xs).length).here;rwa [←kY] at this
theorem wG.self{b:Nat}{A:Option Addr}(h:gB w b A k cap xs)(t:iS xs):wG (val 65536 xs) (.slice A k cap) w:=by
 have e:xs=digs 65536 (val 65536 xs):=by rw[←pP (by omega) h.digs rfl,t]
 refine⟨A,cap,by rw[h.eq,←e],?_⟩;rw[←e,←h.eq];exact h.here
theorem Ty(n:Nat):cu n (lx .i64 0)=(cu n 0).map rW:=by simp[rW]
theorem Ie{d:Nat}(hi:i<os.length):over (os.map rW) i [rW d]=(os.set i d).map rW:=by
 simp only[over,ja];apply List.ext_getElem?;intro j;rcases Nat.lt_trichotomy j i with h | h | h
 · rw[cn (by simp;omega),cn (by simp;omega)]
   simp[h,me (Nat.ne_of_gt h)]
 · subst h
   rw[cn (by simp;omega),dw (by simp;omega)];have e:j-min j os.length=0:=by omega
   simp[hi,e]
 · rw[dw (by simp;omega)]
   simp only[au,bv,ct,ja,di,List.getElem?_map];rw[me (by omega)]
   congr 2
   omega
theorem fR.digit{g:Nat}{t:az}(h:fR w g (os.map rW) t)(hi:i<os.length):w.cell? ⟨g,i,none⟩=some (.int .i64 ((os[i]:Nat):Int)) :=
 h.cell (by simp[hi])
theorem jT(n:Nat):val 65536 (digs 65536 n)=n:=rQ (by omega) n
theorem Cd(n:Nat):iS (digs 65536 n):=pO (by omega) n
theorem aaT(n:Nat):eO 65536 (digs 65536 n):=tS (by omega) n
theorem If(h:m≤n):(digs 65536 m).length≤(digs 65536 n).length:=by
 refine lH (by omega) (Nat.lt_of_le_of_lt h ?_);have:=Fk (aaT n);rwa [jT] at this
theorem xB{V:Nat}(h:V<2^k):(digs 65536 V).length≤k:=by
 refine lH (by omega) (Nat.lt_of_lt_of_le h ?_);rw[show (65536:Nat)=2^16 from rfl,←Nat.pow_mul];exact Nat.pow_le_pow_right (by omega) (by omega)
section
variable {P:bp} {ds:List dx} {l:List ai} {T ty:az}
variable {ops:Array Oper} {Q:Exit→Act→aj→Prop} {rest:List Oper} {d:Nat} {pos:String} {after:Array Edge} {w:aj}
end
theorem yM{os xs ys:List Nat}{i c s:Nat}(hl:os.length=i)(hv:val 65536 os+65536^i*c=val 65536 (xs.take i)+val 65536 (ys.take i))(hd:eO 65536 os)
 (hs:s=c+xs[i]?.getD 0+ys[i]?.getD 0) :
 val 65536 (os++[s%65536])+65536^(i+1)*(s / 65536)=val 65536 (xs.take (i+1))+val 65536 (ys.take (i+1))∧eO 65536 (os++[s%65536]):=by
 refine⟨?_,hd.append (wP (jr _ (by omega)) (mU _))⟩;have ht:∀l:List Nat,val 65536 (l.take (i+1))=val 65536 (l.take i)+65536^i*l[i]?.getD 0:=fun l=>by
  rcases dq i l.length with h | h
  · rw[eD h,am h];rfl
  · rw[ay (by omega),ay h,bz h];simp
 rw[ht xs,ht ys,lC,hl];simp only[val,ky,jt];have e:s=s%65536+65536*(s / 65536):=by omega
 rw[iw];generalize s / 65536=q at *
 generalize s%65536=r at *
 generalize 65536^i=p at *
 generalize xs[i]?.getD 0=x at *
 generalize ys[i]?.getD 0=y at *
 subst hs;have e2:p*(c+x+y)=p*r+p*65536*q:=by rw[e];grind
 grind
theorem vN{os xs ys:List Nat}{i c s b:Nat}(hi:i<xs.length)(hl:os.length=i)(hv:val 65536 os+val 65536 (ys.take i)=val 65536 (xs.take i)+65536^i*c)(hd:eO 65536 os)
 (hs:s+ys[i]?.getD 0+c=xs[i]+65536*b) (h16:s<65536) :
 val 65536 (os++[s])+val 65536 (ys.take (i+1))=val 65536 (xs.take (i+1))+65536^(i+1)*b∧eO 65536 (os++[s]):=by
 refine⟨?_,hd.append (wP h16 (mU _))⟩;have ht:val 65536 (ys.take (i+1))=val 65536 (ys.take i)+65536^i*ys[i]?.getD 0:=by
  rcases dq i ys.length with h | h
  · rw[eD h,am h];rfl
  · rw[ay (by omega),ay h,bz h];simp
 rw[ht,eD hi,lC,hl];simp only[val,ky,jt];rw[iw];generalize 65536^i=p at *
 generalize ys[i]?.getD 0=y at *
 generalize xs[i]=x at *
 have e2:p*(s+y+c)=p*x+p*65536*b:=by rw[hs];grind
 grind
theorem afB{c:Nat}(hle:ys.length≤xs.length)(hl:os.length=xs.length)(hd:eO 65536 os)(hv:val 65536 os+val 65536 (ys.take xs.length)=val 65536 (xs.take xs.length)+65536^xs.length*c)(hge:val 65536 ys≤val 65536 xs):val 65536 os=val 65536 xs-val 65536 ys:=by
 rw[fi,ay hle] at hv;have h1:=Fk hd;rw[hl] at h1;rcases Nat.eq_zero_or_pos c with h | h
 · subst h;omega
 · have:65536^xs.length*1≤65536^xs.length*c:=Nat.mul_le_mul_left _ h
   omega
theorem acH{os:List Nat}{i d c c' s t T:Nat}(hi:i<os.length)(hs:os[i]+s+c=d+65536*c')(hT:val 65536 os+65536^i*c=T)(ht:T+65536^i*s=t) :
 val 65536 (os.set i d)+65536^(i+1)*c'=t:=by
 have h:=vG (B:=65536) (d:=d) hi;rw[iw];generalize 65536^i=p at *
 have e:p*(os[i]+s+c)=p*d+p*65536*c':=by rw[hs];grind
 grind
theorem aaU{os xs ys:List Nat}{i k c s:Nat}(hi:i<xs.length)(hk:k<ys.length)(hlo:os.length=xs.length+ys.length)(hv:val 65536 os+65536^(i+k)*c=val 65536 (xs.take i)*val 65536 ys+65536^i*(xs[i]*val 65536 (ys.take k)))
 (hs:s=os[i+k]+xs[i]*ys[k]+c):val 65536 (os.set (i+k) (s%65536))+65536^(i+(k+1))*(s / 65536)=val 65536 (xs.take i)*val 65536 ys+65536^i*(xs[i]*val 65536 (ys.take (k+1))):=by
 refine acH (s:=xs[i]*ys[k]) (i:=i+k) (by omega) (by omega) hv ?_;rw[eD hk,Nat.pow_add]
 grind
theorem afC{os xs ys:List Nat}{i c:Nat}(hi:i<xs.length)(hlo:os.length=xs.length+ys.length)(hv:val 65536 os+65536^(i+ys.length)*c=val 65536 (xs.take i)*val 65536 ys+65536^i*(xs[i]*val 65536 (ys.take ys.length)))(hz:os.drop (i+ys.length)=cu (xs.length-i) 0) :
 val 65536 (os.set (i+ys.length) c)=val 65536 (xs.take (i+1))*val 65536 ys∧(os.set (i+ys.length) c).drop (i+1+ys.length)=cu (xs.length-(i+1)) 0:=by
 obtain⟨z1,z2⟩:=nX hz (by omega);have h:=vG (B:=65536) (d:=c) (show i+ys.length<os.length by omega);rw[z1] at h;rw[fi] at hv;refine⟨?_,?_⟩
 · rw[eD hi]
   grind
 · rw[show i+1+ys.length=i+ys.length+1 by omega,rI,z2]
   congr 1
theorem aaV{x y:Nat}(hx:x<65536)(hy:y<65536):x*y≤4294836225:=by
 have:=Nat.mul_le_mul (mf hx) (mf hy);omega
theorem afD{x y:Nat}(hx:x<65536)(hy:y<65536):(0:Int)≤(x:Int)*(y:Int)∧(x:Int)*(y:Int)≤4294836225:=by
 have:=aaV hx hy;rw[←Int.natCast_mul];omega
theorem aaW(hx:eO 65536 xs)(hk:0<k)(hlx:k-1<xs.length)(hly:k-1<ys.length)(hd:xs.drop k=ys.drop k)(h:((xs[k-1]:Nat):Int)<((ys[k-1]:Nat):Int)):val 65536 xs<val 65536 ys :=
 Eo (by omega) hx hlx hly (by rw[show k-1+1=k by omega];exact hd) (by omega)
theorem ah2(hk:0<k)(hlx:k-1<xs.length)(hly:k-1<ys.length)(hd:xs.drop k=ys.drop k)(h1:((xs[k-1]:Nat):Int)=((ys[k-1]:Nat):Int)):xs.drop (k-1)=ys.drop (k-1):=by
 rw[eu hlx,eu hly,show k-1+1=k by omega,hd,show xs[k-1]=ys[k-1] by omega]
theorem aof(k:Nat):(65536:Nat)^k=256^(2*k):=by rw[show (65536:Nat)=256^2 from rfl,←Nat.pow_mul]
theorem Ig{os bs:List Nat}{k d:Nat}(hl:os.length=k)(hv:val 65536 os=val 256 (bs.take (2*k)))(h:2*k<bs.length)(hd:d=bs[2*k]+256*(bs[2*k+1]?.getD 0))(hb:eO 256 bs)(ho:eO 65536 os) :
 val 65536 (os++[d])=val 256 (bs.take (2*(k+1)))∧eO 65536 (os++[d]):=by
 have h1:=hb _ (fq h);have h2:bs[2*k+1]?.getD 0<256:=by
  rcases dq (2*k+1) bs.length with h | h
  · rw[am h];exact hb _ (fq h)
  · rw[bz h];decide
 refine⟨?_,ho.append (wP (by omega) (mU _))⟩;have ht:val 256 (bs.take (2*k+1+1))=val 256 (bs.take (2*k+1))+256^(2*k+1)*bs[2*k+1]?.getD 0:=by
  rcases dq (2*k+1) bs.length with h | h
  · rw[eD h,am h];rfl
  · rw[ay (by omega),ay h,bz h];simp
 rw[show 2*(k+1)=2*k+1+1 by omega,ht,eD h,lC,hl,hv,aof,iw];simp only[val,ky,jt];subst hd;generalize 256^(2*k)=p
 grind
def wb2(x:Nat):List UInt8:=[ei (x / 256),ei x]
theorem Qo(ys:List Nat)(h:eO 65536 ys):val 256 (((ys.reverse.flatMap wb2).reverse).map iz)=val 65536 ys∧eO 256 (((ys.reverse.flatMap wb2).reverse).map iz):=by
 induction ys with
 | nil=>exact⟨rfl,fun _ h=>by cases h⟩
 | cons y ys ih =>
  have hy:=h y (by simp);obtain⟨i1,i2⟩:=ih (fun x hx=>h x (by simp[hx]));have e:(((y::ys).reverse.flatMap wb2).reverse).map iz=[y%256,y / 256%256]++(((ys.reverse.flatMap wb2).reverse).map iz):=by
   simp[a_,wb2,jf]
  rw[e];refine⟨?_,?_⟩
  · rw[lC,i1]
    simp only[val,aw,bn];omega
  · refine eO.append ?_ i2
    intro x hx;simp at hx;omega
theorem aaX(h:eO 65536 ys)(neg:Bool):nM (jR (ys.reverse.flatMap wb2))=kK (Tg neg (val 65536 ys)):=by
 obtain⟨h1,h2⟩:=Qo ys h;rw[Md,pP (by omega) h2 h1,kK,Fo,mN];rfl
def oD(ys:List Nat)(k:Nat):List UInt8:=jR ((ys.drop k).reverse.flatMap wb2)
theorem Yk{l m:List UInt8}(h:jR l≠[]):jR (l++m)=jR l++m:=by
 induction l with
 | nil=>exact absurd rfl h
 | cons b l ih =>
  by_cases hb:b=0
  · subst hb
    have e:jR (0::l)=jR l:=by simp[jR]
    have e2:jR ((0::l)++m)=jR (l++m):=by simp[jR]
    rw[e] at h;rw[e,e2,ih h]
  · simp[jR,hb]
theorem acI(hk:0<k)(hl:k-1<ys.length)(h:oD ys k≠[]):oD ys (k-1)=oD ys k++[ei (ys[k-1] / 256)]++[ei (ys[k-1]%256)]∧oD ys (k-1)≠[]:=by
 have e:oD ys (k-1)=oD ys k++[ei (ys[k-1] / 256)]++[ei (ys[k-1]%256)]:=by
  unfold oD at *
  rw[eu hl,show k-1+1=k by omega,List.reverse_cons,a_,Yk h];have:ei (ys[k-1]%256)=ei (ys[k-1]):=by
   apply my.1;simp[jf]
  rw[this];simp[wb2]
 exact⟨e,by rw[e];simp⟩
theorem aaY{ys:List Nat}(hl:ys.length-1<ys.length)(h0:0<ys[ys.length-1])(h16:ys[ys.length-1]<65536) :
 oD ys (ys.length-1)=(if 256≤ys[ys.length-1] then [ei (ys[ys.length-1] / 256)] else [])++[ei (ys[ys.length-1]%256)]∧oD ys (ys.length-1)≠[]:=by
 have e:oD ys (ys.length-1)=jR (wb2 (ys[ys.length-1])):=by
  unfold oD;rw[eu hl,show ys.length-1+1=ys.length by omega,lg];simp
 generalize ys[ys.length-1]=x at *
 have hm:ei (x%256)=ei x:=by
  apply my.1;simp[jf]
 have ez:∀y:Nat,y<256→(ei y=0↔y=0):=fun y hy=>by
  rw[←my];simp only[jf,UInt8.toNat_zero];rw[kg (by omega)]
 have e2:jR (wb2 x)=(if 256≤x then [ei (x / 256)] else [])++[ei (x%256)]:=by
  split
  · rename_i h
    have hn:¬ei (x / 256)=0:=fun e=>by have:=(ez _ (by omega)).1 e;omega
    rw[hm];simp[jR,wb2,hn]
  · rename_i h
    have hz:ei (x / 256)=0:=(ez _ (by omega)).2 (by omega);have hn:¬ei x=0:=fun e=>by have:=(ez _ (by omega)).1 e;omega
    rw[hm];simp[jR,wb2,hz,hn]
 exact⟨e.trans e2,by rw[e,e2];simp⟩
theorem Vk(ys:List Nat):oD ys ys.length=[]:=by unfold oD;rw[lg];rfl
theorem acJ(h:eO 65536 ys)(neg:Bool):nM (oD ys 0)=kK (Tg neg (val 65536 ys)):=by
 unfold oD;rw[List.drop_zero];exact aaX h neg
theorem afE(ys:List Nat)(k:Nat):(oD ys k).length≤2*ys.length:=by
 have h1:∀l:List UInt8,(jR l).length≤l.length:=fun l=>by
  induction l with
  | nil=>simp[jR]
  | cons b l ih =>
   unfold jR at *
   rw[List.dropWhile_cons];split
   · simp;omega
   · simp
 have h2:∀l:List Nat,(l.flatMap wb2).length=2*l.length:=fun l=>by
  induction l with
  | nil=>rfl
  | cons x l ih=>rw[dt,au,ih];simp[wb2];omega
 refine ba (h1 _) ?_;rw[h2];simp;omega
theorem Ce{x:Nat}(h:x<256):IntKind.u8.wrap (x:Int)=(x:Int):=adO (by omega) (by omega)
theorem Qp{os:List Nat}{m V:Nat}(hv:val 65536 os+65536^os.length*m=V)(hd:eO 65536 os)(h2:m<2^(64-os.length))(h3:os.length≤64)(h0:0<m) :
 val 65536 (os++[m%65536])+65536^(os++[m%65536]).length*(m / 65536)=V∧eO 65536 (os++[m%65536])∧m / 65536<2^(64-(os++[m%65536]).length)∧(os++[m%65536]).length≤64:=by
 have hl:os.length<64:=by
  rcases dq os.length 64 with h | h
  · exact h
  · rw[show 64-os.length=0 by omega] at h2;omega
 refine⟨?_,hd.append (wP (jr _ (by omega)) (mU _)),?_,by simp;omega⟩
 · rw[lC,au,ja,iw]
   simp only[val,ky,jt];have e:m=m%65536+65536*(m / 65536):=by omega
   generalize m / 65536=q at *
   generalize m%65536=r at *
   generalize 65536^os.length=p at *
   subst e
   grind
 · rw[au,ja]
   have e:2^(64-os.length)=2*2^(64-(os.length+1)):=by rw[←Nat.pow_succ'];congr 1;omega
   rw[e] at h2;omega
instance (a:Int):Decidable (rT a):=inferInstanceAs (Decidable (_∧_))
/-! ### What CheckOpen says -/
theorem aaZ{ts:List T3}(h:fW true ts=0):ah1 ts∧(bE ts).Nodup:=by
 unfold fW at h;split at h
 · cases h
 · rename_i h1
   split at h
   · cases h
   · rename_i h2
     refine⟨fun t ht=>?_,?_⟩
     · cases hd:wV t with
       | false=>rfl
       | true=>exact absurd (el.2 ⟨t,ht,hd⟩) h1
     · rw[Hz] at h2
       exact Decidable.not_not.1 fun k=>h2 (decide_eq_true k)
theorem nd_of{t:T3}(h:wV t=false):t.nd=true:=by
 obtain⟨h1,h2,h3⟩:=arO h;simp[T3.nd,h1,h2,h3]
/-! ### One far move -/
theorem P3.lt_asymm{p:P3}(h:p.Lt q):¬q.Lt p:=fun k=>P3.lt_irrefl _ (P3.lt_trans h k)
theorem Qr{t:T3}(h:t.nd=true):dU ⟨t.b,t.c,t.a⟩=dU t:=by
 unfold T3.nd at h;simp only[bg,decide_eq_true_eq] at h;obtain⟨⟨h1,h2⟩,h3⟩:=h;unfold dU;simp only;rcases P3.lt_tri t.a t.b with ab | ab | ab
 · rcases P3.lt_tri t.b t.c with bc | bc | bc
   · have ac:=P3.lt_trans ab bc
     simp[ab,bc,ac,P3.lt_asymm ab,P3.lt_asymm bc,P3.lt_asymm ac]
   · exact absurd bc h2
   · rcases P3.lt_tri t.a t.c with ac | ac | ac
     · simp[ab,bc,ac,P3.lt_asymm ab,P3.lt_asymm bc,P3.lt_asymm ac]
     · exact absurd ac.symm h3
     · simp[ab,bc,ac,P3.lt_asymm ab,P3.lt_asymm bc,P3.lt_asymm ac]
 · exact absurd ab h1
 · rcases P3.lt_tri t.b t.c with bc | bc | bc
   · rcases P3.lt_tri t.a t.c with ac | ac | ac
     · simp[ab,bc,ac,P3.lt_asymm ab,P3.lt_asymm bc,P3.lt_asymm ac]
     · exact absurd ac.symm h3
     · simp[ab,bc,ac,P3.lt_asymm ab,P3.lt_asymm bc,P3.lt_asymm ac]
   · exact absurd bc h2
   · have ca:=P3.lt_trans bc ab
     simp[ab,bc,ca,P3.lt_asymm ab,P3.lt_asymm bc,P3.lt_asymm ca]
theorem Nv{t:T3}:(⟨t.b,t.c,t.a⟩:T3).nd=t.nd:=by
 unfold T3.nd;simp only;cases decide (t.a≠t.b) <;> cases decide (t.b≠t.c) <;> cases decide (t.c≠t.a) <;> rfl
def alC(t u:T3):Prop:=u=t∨u=⟨t.b,t.c,t.a⟩∨u=⟨t.c,t.a,t.b⟩
theorem ah3{t u:T3}(h:alC t u)(hn:t.nd=true):dU u=dU t:=by
 rcases h with rfl | rfl | rfl
 · rfl
 · exact Qr hn
 · have h2:=Qr (t:=⟨t.b,t.c,t.a⟩) (by rw[Nv];exact hn)
   exact h2.trans (Qr hn)
theorem alD{t u:T3}(h:alC t u):u.nd=t.nd:=by
 rcases h with rfl | rfl | rfl
 · rfl
 · exact Nv
 · exact (Nv (t:=⟨t.b,t.c,t.a⟩)).trans Nv
/-! ### Edges of a list in which triangles are changed -/
section
variable {p:P3} {X:E3→Prop} {old new R fine fine':List T3}
end
/-! ### The two kinds of division -/
theorem ah4{t u:T3}(h:alC t u)(x:P3):u.has x=t.has x:=by
 unfold T3.has;rcases h with rfl | rfl | rfl
 · rfl
 · simp only;cases decide (t.a=x) <;> cases decide (t.b=x) <;> cases decide (t.c=x) <;> rfl
 · simp only;cases decide (t.a=x) <;> cases decide (t.b=x) <;> cases decide (t.c=x) <;> rfl
theorem aog{t:T3}{p:P3}(h:t.has p=false):p≠t.a∧p≠t.b∧p≠t.c:=by
 refine⟨fun e=>?_,fun e=>?_,fun e=>?_⟩ <;> (rw[fE.2 (by rw[e];simp)] at h;cases h)
/-! ### Images -/
section
variable {l fine fine' R:List T3} {ms:List Mv} {B B':Int} {p:P3}
end
theorem ah5{ts:List T3}  : x∈dT ts↔∃t∈ts,x=t.cor 0∨x=t.cor 1∨x=t.cor 2:=by
 unfold dT;rw[fk];exact exists_congr fun t=>and_congr Iff.rfl (by simp[T3.cor])
def dR(a b c:P3):P3:=(b.sub a).cross (c.sub a)
def mQ(a b c d:P3):Int:=(dR a b c).dot (d.sub a)
def dP(v:P3)(k:Nat):Int:=if k=0 then v.x else if k=1 then v.y else v.z
def jC(v:P3):Nat:=if v.x≠0 then 0 else if v.y≠0 then 1 else if v.z≠0 then 2 else 3
/-! ### Points in a plane -/
theorem aem{p1 p2 p3 q1 q2 q3 N:Int}(hN:0<N)(hp:p1+p2+p3=N)(hq:q1+q2+q3=N)(h1:0≤p1)(h2:0≤p2)(h3:0≤p3)(hn:¬(0≤q1∧0≤q2∧0≤q3)) :
 (q3<0∧(p2*q3-p3*q2)*(p3*q1-p1*q3)≤0)∨(q1<0∧(p3*q1-p1*q3)*(p1*q2-p2*q1)≤0)∨(q2<0∧(p1*q2-p2*q1)*(p2*q3-p3*q2)≤0):=by
 have nn:∀{a b:Int},0≤a→0≤b→0≤a*b:=fun ha hb=>Int.mul_nonneg ha hb;have np:∀{a b:Int},0≤a→b≤0→a*b≤0:=fun ha hb=>Int.mul_nonpos_of_nonneg_of_nonpos ha hb;have pn:∀{a b:Int},a≤0→0≤b→a*b≤0:=fun ha hb=>Int.mul_nonpos_of_nonpos_of_nonneg ha hb
 -- one that is negative,of two others one is not
 have key:∀{p1 p2 p3 q1 q2 q3:Int},0≤p1→0≤p2→0≤p3→q3<0→0≤q1→0≤q2→(p2*q3-p3*q2)*(p3*q1-p1*q3)≤0:=fun {p1 p2 p3 q1 q2 q3} h1 h2 h3 k3 k1 k2=>by
  have a:=np h2 (nw k3);have b:=nn h3 k2;have c:=nn h3 k1;have d:=np h1 (nw k3);exact pn (by omega) (by omega)
 have key2:∀{p1 p2 p3 q1 q2 q3:Int},0≤p1→0≤p2→0≤p3→q3<0→q2<0→0≤q1→(p2*q3-p3*q2)*(p3*q1-p1*q3)≤0∨(p1*q2-p2*q1)*(p2*q3-p3*q2)≤0:=fun {p1 p2 p3 q1 q2 q3} h1 h2 h3 k3 k2 k1=>by
  have a:=np h1 (nw k3);have b:=nn h3 k1;have c:=np h1 (nw k2);have d:=nn h2 k1;rcases Int.le_total (p2*q3-p3*q2) 0 with h | h
  · exact .inl (pn h (by omega))
  · exact .inr (pn (by omega) h)
 rcases (show q3<0∨0≤q3 by omega) with k3 | k3
 · rcases (show q2<0∨0≤q2 by omega) with k2 | k2
   · rcases (show q1<0∨0≤q1 by omega) with k1 | k1
     · omega
     · rcases key2 h1 h2 h3 k3 k2 k1 with h | h
       · exact .inl ⟨k3,h⟩
       · exact .inr (.inr ⟨k2,h⟩)
   · rcases (show q1<0∨0≤q1 by omega) with k1 | k1
     · rcases key2 (p1:=p2) (p2:=p3) (p3:=p1) (q1:=q2) (q2:=q3) (q3:=q1) h2 h3 h1 k1 k3 k2 with h | h
       · exact .inr (.inl ⟨k1,h⟩)
       · exact .inl ⟨k3,h⟩
     · exact .inl ⟨k3,key h1 h2 h3 k3 k1 k2⟩
 · rcases (show q2<0∨0≤q2 by omega) with k2 | k2
   · rcases (show q1<0∨0≤q1 by omega) with k1 | k1
     · rcases key2 (p1:=p3) (p2:=p1) (p3:=p2) (q1:=q3) (q2:=q1) (q3:=q2) h3 h1 h2 k2 k1 k3 with h | h
       · exact .inr (.inr ⟨k2,h⟩)
       · exact .inr (.inl ⟨k1,h⟩)
     · exact .inr (.inr ⟨k2,key (p1:=p3) (p2:=p1) (p3:=p2) (q1:=q3) (q2:=q1) (q3:=q2) h3 h1 h2 k2 k3 k1⟩)
   · rcases (show q1<0∨0≤q1 by omega) with k1 | k1
     · exact .inr (.inl ⟨k1,key (p1:=p2) (p2:=p3) (p3:=p1) (q1:=q2) (q2:=q3) (q3:=q1) h2 h3 h1 k1 k2 k3⟩)
     · exact absurd ⟨k1,k2,k3⟩ hn
theorem Vl(a b c x:P3)(k:Nat):dP (dR b c x) k+dP (dR c a x) k+dP (dR a b x) k=dP (dR a b c) k:=by
 unfold dP dR P3.cross P3.sub;split
 · simp only;grind
 · split
   · simp only;grind
   · simp only;grind
theorem aoh(a b c p q:P3)(k:Nat):dP (dR p q a) k*dP (dR a b c) k=dP (dR c a p) k*dP (dR a b q) k-dP (dR a b p) k*dP (dR c a q) k:=by
 unfold dP dR P3.cross P3.sub;split
 · simp only;grind
 · split
   · simp only;grind
   · simp only;grind
theorem acK{v:P3}(h:jC v<3):dP v (jC v)≠0:=by
 unfold jC at h ⊢;split
 · assumption
 · split
   · assumption
   · split
     · assumption
     · rename_i h1 h2 h3;rw[if_neg h1,if_neg h2,if_neg h3] at h;omega
theorem alE{v w:P3}(hv:jC v<3)(hw:dP w (jC v)≠0)(h:v.cross w=⟨0,0,0⟩):jC w=jC v:=by
 have h1:=congrArg P3.x h;have h2:=congrArg P3.y h;have h3:=congrArg P3.z h;simp only[P3.cross] at h1 h2 h3;have nz:=acK hv;have z:∀{a b c d:Int},a*b-c*d=0→a=0→c≠0→d=0:=fun {a b c d} e ha hc=>by
  subst ha;rw[pe,qe,kn] at e;exact (mz.1 e).resolve_left hc
 by_cases x0:v.x=0
 · by_cases y0:v.y=0
   · by_cases z0:v.z=0
     · have:jC v=3:=by unfold jC;rw[if_neg (by omega),if_neg (by omega),if_neg (by omega)]
       omega
     · have e:jC v=2:=by unfold jC;rw[if_neg (by omega),if_neg (by omega),if_pos z0]
       rw[e] at hw ⊢;have wx:w.x=0:=(mz.1 (show v.z*w.x=0 by rw[x0,pe,Int.sub_zero] at h2;exact h2)).resolve_left z0;have wy:w.y=0:=(mz.1 (show v.z*w.y=0 by rw[y0,pe,qe,kn] at h1;exact h1)).resolve_left z0;unfold jC;rw[if_neg (by omega),if_neg (by omega)];exact if_pos hw
   · have e:jC v=1:=by unfold jC;rw[if_neg (by omega),if_pos y0]
     rw[e] at hw ⊢;have wx:w.x=0:=(mz.1 (show v.y*w.x=0 by rw[x0,pe,qe,kn] at h3;exact h3)).resolve_left y0;unfold jC;rw[if_neg (by omega)];exact if_pos hw
 · have e:jC v=0:=by unfold jC;rw[if_pos x0]
   rw[e] at hw ⊢;unfold jC;exact if_pos hw
theorem aqr{n v:P3}(h:n.dot u=0)(k:n.dot v=0):n.cross (u.cross v)=⟨0,0,0⟩:=by
 simp only[P3.dot] at h k;refine P3.eq ?_ ?_ ?_ <;> (simp only[P3.cross];grind)
theorem arP{n v:P3}(hn:dP n j≠0)(h:n.dot u=0)(k:n.dot v=0)(l:n.dot x=0):(u.cross v).dot x=0:=by
 have p:=aqr h k;have p1:=congrArg P3.x p;have p2:=congrArg P3.y p;have p3:=congrArg P3.z p;generalize u.cross v=w at p1 p2 p3 ⊢;simp only[P3.cross] at p1 p2 p3;simp only[P3.dot] at l ⊢;have key:dP n j*(w.x*x.x+w.y*x.y+w.z*x.z)=0:=by
  unfold dP;split
  · grind
  · split
    · grind
    · grind
 exact (mz.1 key).resolve_left hn
def Z3(u:P3):Prop:=u.x=0∧u.y=0∧u.z=0
instance (u:P3):Decidable (Z3 u):=inferInstanceAs (Decidable (_∧_∧_))
def mT(p q:P3):P3:=if q.Lt p then q else p
def nT(p q:P3):P3:=if q.Lt p then p else q
def ah6(a b c:P3):Bool:=decide (jC (dR a b c)=3)
def aoi(p q r s:P3):Bool:=(if mT p q=nT p q then ah6 (mT r s) (nT r s) (mT p q) else ah6 (mT p q) (nT p q) (mT r s)) && !decide ((nT p q).Lt (mT r s)) && !decide ((nT r s).Lt (mT p q))
def uO(p q r s:P3):P3:=(q.sub p).cross (s.sub r)
def eQ(p q r s:P3):Bool :=
 if jC (uO p q r s)<3 then
  decide (mQ p q r s=0)&&decide (dP (dR p q r) (jC (uO p q r s))*dP (dR p q s) (jC (uO p q r s))≤0)&&decide (dP (dR r s p) (jC (uO p q r s))*dP (dR r s q) (jC (uO p q r s))≤0)
 else aoi p q r s
theorem lt_asymm{p:P3}(h:p.Lt q):¬q.Lt p:=fun k=>P3.lt_irrefl p (P3.lt_trans h k)
theorem lt_tri(p q:P3):p.Lt q∨p=q∨q.Lt p:=by
 by_cases h:p=q
 · exact .inr (.inl h)
 · have:¬(p.x=q.x∧p.y=q.y∧p.z=q.z):=fun k=>h (P3.eq k.1 k.2.1 k.2.2)
   unfold P3.Lt;omega
theorem ah7(p q:P3):mT p q=mT q p:=by
 unfold mT;rcases lt_tri p q with h | h | h
 · rw[if_neg (lt_asymm h),if_pos h]
 · rw[h]
 · rw[if_pos h,if_neg (lt_asymm h)]
theorem ah8(p q:P3):nT p q=nT q p:=by
 unfold nT;rcases lt_tri p q with h | h | h
 · rw[if_neg (lt_asymm h),if_pos h]
 · rw[h]
 · rw[if_pos h,if_neg (lt_asymm h)]
def Kz(v:P3):P3:=⟨-v.x,-v.y,-v.z⟩
theorem alF(v:P3):jC (Kz v)=jC v:=by unfold jC Kz;simp only[ne_eq,kn]
theorem aa0(v:P3)(k:Nat):dP (Kz v) k = -dP v k:=by
 by_cases h0:k=0
 · simp only[dP,Kz,if_pos h0]
 · by_cases h1:k=1
   · simp only[dP,Kz,if_neg h0,if_pos h1]
   · simp only[dP,Kz,if_neg h0,if_neg h1]
theorem Ih(p q r:P3):dR q p r=Kz (dR p q r):=by
 refine P3.eq ?_ ?_ ?_ <;> (simp only[dR,Kz,P3.sub,P3.cross];grind)
theorem ah9(p q r s:P3):uO q p r s=Kz (uO p q r s):=by
 refine P3.eq ?_ ?_ ?_ <;> (simp only[uO,Kz,P3.sub,P3.cross];grind)
theorem Ii(p q r s:P3):mQ q p r s = -mQ p q r s:=by
 simp only[mQ,dR,P3.sub,P3.cross,P3.dot];grind
theorem uP(p q r s:P3):eQ q p r s=eQ p q r s:=by
 unfold eQ;rw[ah9,alF,Ii,Ih,Ih p q s,aa0,aa0,pk,pf (dP (dR r s q) _)];simp only[kn];unfold aoi;rw[ah7 q p,ah8 q p]
/-! ### In the plane of a triangle -/
def wth(a b c x:P3)(k:Nat):Prop:=(0≤dP (dR a b x) k∧0≤dP (dR b c x) k∧0≤dP (dR c a x) k)∨(dP (dR a b x) k≤0∧dP (dR b c x) k≤0∧dP (dR c a x) k≤0)
instance (a b c x:P3)(k:Nat):Decidable (wth a b c x k):=by unfold wth;infer_instance
theorem acM{b c:P3}:(dR a b c).dot (x.sub a)=mQ a b c x:=rfl
theorem aia{a b c p q:P3}(hk:jC (dR a b c)<3)(hp:mQ a b c p=0)(hq:mQ a b c q=0){u v:P3}(hu:(dR a b c).dot (u.sub a)=0)(hv:(dR a b c).dot (v.sub a)=0)
 (h1:dP (dR u v p) (jC (dR a b c))≠dP (dR u v q) (jC (dR a b c))) (h2:dP (dR u v p) (jC (dR a b c))*dP (dR u v q) (jC (dR a b c))≤0)
 (h3:dP (dR p q u) (jC (dR a b c))*dP (dR p q v) (jC (dR a b c))≤0):eQ p q u v=true:=by
 have nz:=acK hk;have e:∀k,dP (uO p q u v) k=dP (dR u v p) k-dP (dR u v q) k:=fun k=>by
  unfold dP uO dR P3.cross P3.sub;split
  · simp only;grind
  · split
    · simp only;grind
    · simp only;grind
 have dpq:(dR a b c).dot (q.sub p)=0:=by
  rw[←acM] at hp hq;simp only[P3.dot,P3.sub] at hp hq ⊢
  grind
 have duv:(dR a b c).dot (v.sub u)=0:=by
  simp only[P3.dot,P3.sub] at hu hv ⊢
  grind
 have dup:(dR a b c).dot (u.sub p)=0:=by
  rw[←acM] at hp;simp only[P3.dot,P3.sub] at hp hu ⊢
  grind
 have dvp:(dR a b c).dot (v.sub p)=0:=by
  rw[←acM] at hp;simp only[P3.dot,P3.sub] at hp hv ⊢
  grind
 have w0:dP (uO p q u v) (jC (dR a b c))≠0:=by rw[e];omega
 have ax:=alE hk w0 (aqr dpq duv);have o0:mQ p q u v=0:=arP nz dpq dup dvp;unfold eQ;rw[ax,if_pos hk,o0,decide_eq_true h3,decide_eq_true h2];rfl
theorem Vm{a b c p q:P3}(hk:jC (dR a b c)<3)(hp:mQ a b c p=0)(hq:mQ a b c q=0)(wp:wth a b c p (jC (dR a b c)))(wq:¬wth a b c q (jC (dR a b c))) :
 eQ p q a b=true∨eQ p q b c=true∨eQ p q c a=true:=by
 have nz:=acK hk;have sp:=Vl a b c p (jC (dR a b c));have sq:=Vl a b c q (jC (dR a b c));have da:(dR a b c).dot (a.sub a)=0:=by simp only[P3.dot,P3.sub];grind
 have db:(dR a b c).dot (b.sub a)=0:=by simp only[dR,P3.cross,P3.dot,P3.sub];grind
 have dc:(dR a b c).dot (c.sub a)=0:=by simp only[dR,P3.cross,P3.dot,P3.sub];grind
 have hA:=aoh a b c p q (jC (dR a b c));have hB:dP (dR p q b) (jC (dR a b c))*dP (dR a b c) (jC (dR a b c))=dP (dR a b p) (jC (dR a b c))*dP (dR b c q) (jC (dR a b c))-dP (dR b c p) (jC (dR a b c))*dP (dR a b q) (jC (dR a b c)):=by
  generalize jC (dR a b c)=k;unfold dP dR P3.cross P3.sub;split
  · simp only;grind
  · split
    · simp only;grind
    · simp only;grind
 have hC:dP (dR p q c) (jC (dR a b c))*dP (dR a b c) (jC (dR a b c))=dP (dR b c p) (jC (dR a b c))*dP (dR c a q) (jC (dR a b c))-dP (dR c a p) (jC (dR a b c))*dP (dR b c q) (jC (dR a b c)):=by
  generalize jC (dR a b c)=k;unfold dP dR P3.cross P3.sub;split
  · simp only;grind
  · split
    · simp only;grind
    · simp only;grind
 have hit:∀{u v:P3},(dR a b c).dot (u.sub a)=0→(dR a b c).dot (v.sub a)=0→dP (dR u v p) (jC (dR a b c))≠dP (dR u v q) (jC (dR a b c))→dP (dR u v p) (jC (dR a b c))*dP (dR u v q) (jC (dR a b c))≤0→dP (dR p q u) (jC (dR a b c))*dP (dR p q v) (jC (dR a b c))≤0→eQ p q u v=true:=fun {u v} hu hv=>aia (u:=u) (v:=v) hk hp hq hu hv;unfold wth at wp wq;generalize hN:dP (dR a b c) (jC (dR a b c))=N at *
 have sq0:∀{x y X Y:Int},x*N=X→y*N=Y→X*Y≤0→x*y≤0:=fun {x y X Y} h1 h2 h=>by
  have h3:x*y*(N*N)≤0:=by rw[show x*y*(N*N)=(x*N)*(y*N) by grind,h1,h2];exact h
  have h4:0<N*N:=by
   rcases Int.lt_or_gt_of_ne nz with h | h
   · exact Int.mul_pos_of_neg_of_neg h h
   · exact Int.mul_pos h h
  refine Int.le_of_not_gt fun k=>?_;have:=Int.mul_pos k h4;omega
 have mm:∀{x y:Int},0≤x→y<0→x*y≤0:=fun h k=>Int.mul_nonpos_of_nonneg_of_nonpos h (nw k);have mm2:∀{x y:Int},x≤0→0<y→x*y≤0:=fun h k=>Int.mul_nonpos_of_nonpos_of_nonneg h (nw k);rcases wp with ⟨w3,w1,w2⟩ | ⟨w3,w1,w2⟩
 · have hN0:0<N:=by omega
   rcases aem hN0 sp sq w1 w2 w3 (fun h=>wq (.inl ⟨h.2.2,h.1,h.2.1⟩)) with ⟨n,h⟩ | ⟨n,h⟩ | ⟨n,h⟩
   · exact .inl (hit da db (by omega) (mm w3 n) (sq0 hA hB h))
   · exact .inr (.inl (hit db dc (by omega) (mm w1 n) (sq0 hB hC h)))
   · exact .inr (.inr (hit dc da (by omega) (mm w2 n) (sq0 hC hA h)))
 · have hN0:0 < -N:=by omega
   have g:=aem (p1:=-dP (dR b c p) (jC (dR a b c))) (p2:=-dP (dR c a p) (jC (dR a b c))) (p3:=-dP (dR a b p) (jC (dR a b c))) (q1:=-dP (dR b c q) (jC (dR a b c))) (q2:=-dP (dR c a q) (jC (dR a b c))) (q3:=-dP (dR a b q) (jC (dR a b c))) hN0 (by omega) (by omega) (by omega) (by omega) (by omega) (fun h=>wq (.inr ⟨by omega,by omega,by omega⟩));simp only[pk] at g;rcases g with ⟨n,h⟩ | ⟨n,h⟩ | ⟨n,h⟩
   · exact .inl (hit da db (by omega) (mm2 w3 (by omega)) (sq0 hA hB h))
   · exact .inr (.inl (hit db dc (by omega) (mm2 w1 (by omega)) (sq0 hB hC h)))
   · exact .inr (.inr (hit dc da (by omega) (mm2 w2 (by omega)) (sq0 hC hA h)))
def Qs(x y z:Int):Bool:=(decide (0≤x)&&decide (0≤y)&&decide (0≤z))||(decide (x≤0)&&decide (y≤0)&&decide (z≤0))
def dL(p q:P3)(t:T3):Bool :=
 if jC (dR t.a t.b t.c)<3 then
  if 0<mQ t.a t.b t.c p*mQ t.a t.b t.c q then false
  else if mQ t.a t.b t.c p=0∧mQ t.a t.b t.c q=0 then eQ p q t.a t.b||eQ p q t.b t.c||eQ p q t.c t.a||decide (wth t.a t.b t.c p (jC (dR t.a t.b t.c)))
  else Qs (mQ p q t.a t.b) (mQ p q t.b t.c) (mQ p q t.c t.a)
 else eQ p q (mT (mT t.a t.b) t.c) (nT (nT t.a t.b) t.c)
theorem alG(x y z:Int):Qs (-x) (-y) (-z)=Qs x y z:=by
 unfold Qs;have e:∀n:Int,decide (0 ≤ -n)=decide (n≤0):=fun n=>decide_eq_decide.2 (by omega);have f:∀n:Int,decide (-n≤0)=decide (0≤n):=fun n=>decide_eq_decide.2 (by omega);rw[e,e,e,f,f,f,pg]
theorem Qt(p q:P3)(t:T3):dL q p t=dL p q t:=by
 unfold dL;by_cases hk:jC (dR t.a t.b t.c)<3
 · rw[if_pos hk,if_pos hk,pf (mQ t.a t.b t.c q)]
   by_cases h0:0<mQ t.a t.b t.c p*mQ t.a t.b t.c q
   · rw[if_pos h0,if_pos h0]
   · rw[if_neg h0,if_neg h0]
     by_cases hc:mQ t.a t.b t.c p=0∧mQ t.a t.b t.c q=0
     · rw[if_pos hc,if_pos hc.symm,uP,uP p q,uP p q]
       by_cases hx:(eQ p q t.a t.b||eQ p q t.b t.c||eQ p q t.c t.a)=true
       · rw[hx,Bool.true_or,Bool.true_or]
       · have key:wth t.a t.b t.c p (jC (dR t.a t.b t.c))↔wth t.a t.b t.c q (jC (dR t.a t.b t.c)):=by
          simp only[ej,not_or] at hx;constructor
          · intro h
            refine Decidable.byContradiction fun k=>?_;rcases Vm hk hc.1 hc.2 h k with h | h | h
            · exact hx.1.1 h
            · exact hx.1.2 h
            · exact hx.2 h
          · intro h
            refine Decidable.byContradiction fun k=>?_;rcases Vm hk hc.2 hc.1 h k with h | h | h <;> rw[uP] at h
            · exact hx.1.1 h
            · exact hx.1.2 h
            · exact hx.2 h
         rw[decide_eq_decide.2 key]
     · rw[if_neg hc,if_neg (fun k=>hc k.symm),Ii,Ii p q t.b,Ii p q t.c,alG]
 · rw[if_neg hk,if_neg hk,uP]
theorem Qu(a b c:P3):dR b c a=dR a b c:=by
 refine P3.eq ?_ ?_ ?_ <;> (simp only[dR,P3.sub,P3.cross];grind)
theorem alH(a b c x:P3):mQ b c a x=mQ a b c x:=by
 unfold mQ;rw[Qu];simp only[dR,P3.sub,P3.cross,P3.dot];grind
theorem aib(a b c:P3):mT (mT b c) a=mT (mT a b) c:=by
 unfold mT;have t1:=lt_tri a b;have t2:=lt_tri b c;have t3:=lt_tri a c;by_cases h1:c.Lt b
 · by_cases h2:b.Lt a
   · rw[if_pos h1,if_pos h2,if_pos h1,if_neg (lt_asymm (P3.lt_trans h1 h2))]
   · rw[if_pos h1,if_neg h2]
     by_cases h3:c.Lt a
     · rw[if_pos h3,if_neg (lt_asymm h3)]
     · rw[if_neg h3]
       by_cases h4:a.Lt c
       · rw[if_pos h4]
       · rw[if_neg h4]
         rcases t3 with h | h | h
         · exact absurd h h4
         · exact h.symm
         · exact absurd h h3
 · rw[if_neg h1]
   by_cases h2:b.Lt a
   · rw[if_pos h2,if_neg h1,if_neg (lt_asymm h2)]
   · rw[if_neg h2]
     have h3:¬c.Lt a:=fun k=>by
      rcases t1 with h | h | h
      · exact h1 (P3.lt_trans k h)
      · exact h1 (h▸k)
      · exact h2 h
     rw[if_neg h3];by_cases h4:a.Lt b
     · rw[if_pos h4]
     · rw[if_neg h4]
       rcases t1 with h | h | h
       · exact absurd h h4
       · exact h.symm
       · exact absurd h h2
theorem aic(a b c:P3):nT (nT b c) a=nT (nT a b) c:=by
 unfold nT;have t1:=lt_tri a b;have t3:=lt_tri a c;by_cases h1:c.Lt b
 · rw[if_pos h1]
   by_cases h2:b.Lt a
   · rw[if_neg (lt_asymm h2),if_pos h2,if_pos (P3.lt_trans h1 h2)]
   · rw[if_neg h2,if_pos h1]
     by_cases h3:a.Lt b
     · rw[if_pos h3]
     · rw[if_neg h3]
       rcases t1 with h | h | h
       · exact absurd h h3
       · exact h
       · exact absurd h h2
 · rw[if_neg h1]
   by_cases h2:b.Lt a
   · rw[if_pos h2]
     by_cases h3:c.Lt a
     · rw[if_pos h3,if_neg (lt_asymm h3)]
     · rw[if_neg h3]
       by_cases h4:a.Lt c
       · rw[if_pos h4]
       · rw[if_neg h4]
         rcases t3 with h | h | h
         · exact absurd h h4
         · exact h
         · exact absurd h h3
   · rw[if_neg h2,if_neg h1]
     by_cases h4:a.Lt c
     · rw[if_pos h4]
     · rw[if_neg h4]
       rcases t3 with h | h | h
       · exact absurd h h4
       · exact h
       · exact absurd h (fun k=>by
          rcases t1 with h | h | h
          · exact h1 (P3.lt_trans k h)
          · exact h1 (h▸k)
          · exact h2 h)
theorem aid(x y z:Int):Qs y z x=Qs x y z:=by
 unfold Qs;cases decide (0≤x) <;> cases decide (0≤y) <;> cases decide (0≤z) <;> cases decide (x≤0) <;> cases decide (y≤0) <;> cases decide (z≤0) <;> rfl
theorem acN(p q a b c:P3):dL p q ⟨b,c,a⟩=dL p q ⟨a,b,c⟩:=by
 unfold dL;simp only[Qu,alH,aib,aic,aid];have w:wth b c a p (jC (dR a b c))↔wth a b c p (jC (dR a b c)):=by
  unfold wth;omega
 rw[decide_eq_decide.2 w];cases eQ p q a b <;> cases eQ p q b c <;> cases eQ p q c a <;> rfl
/-! ### Two places of a list -/
/-! ### A step -/
/-! ### The surfaces -/
def T3.mapP(f:P3→P3)(t:T3):T3:=⟨f t.a,f t.b,f t.c⟩
section
variable {f:P3→P3} {S:P3→Prop} {ts:List T3}
end
theorem Vn{ts:List T3}:(dY ts).any (Hn ts)=true↔∃e∈bE ts,∃j,1≤j∧j<vC (dT ts) e.1∧rC ts e.1 j e.2=some e.2:=by
 rw[pinned];refine exists_congr fun e=>?_;rw[Qn,Qk,Qm];refine and_congr Iff.rfl (exists_congr fun j=>?_);rw[Ib];constructor
 · rintro⟨h1,h2,h3⟩;exact⟨h1,by omega,h3⟩
 · rintro⟨h1,h2,h3⟩;exact⟨h1,by omega,h3⟩
theorem afF{ts:List T3}:fW true ts=0↔ah1 ts∧(bE ts).Nodup∧¬∃e∈bE ts,∃j,1≤j∧j<vC (dT ts) e.1∧rC ts e.1 j e.2=some e.2:=by
 constructor
 · intro h
   obtain⟨h1,h2⟩:=aaZ h;refine⟨h1,h2,fun k=>?_⟩;have hp:=Vn.2 k;have hd:ts.any wV=false:=fx.2 fun t ht=>by rw[h1 t ht];exact fg
   have hn:=Hz (es:=bE ts);rw[decide_eq_false (fun k=>k h2)] at hn;unfold fW at h;rw[hd,hn,hp] at h;simp at h
 · rintro⟨h1,h2,h3⟩
   have hp:(dY ts).any (Hn ts)=false:=by
    cases hh:(dY ts).any (Hn ts) with
    | false=>rfl
    | true=>exact absurd (Vn.1 hh) h3
   have hd:ts.any wV=false:=fx.2 fun t ht=>by rw[h1 t ht];exact fg
   have hn:=Hz (es:=bE ts);rw[decide_eq_false (fun k=>k h2)] at hn;unfold fW;rw[hd,hn,hp];rfl
/-! ### An edge is divided -/
section
variable {f:P3→P3} {S:P3→Prop}
end
inductive Rch(N:P3→P3→Prop):P3→P3→Prop
 | refl (a:P3):Rch N a a
 | tail {a b c:P3} (h:Rch N a b) (s:N b c):Rch N a c
section
variable {N N':P3→P3→Prop} {a b c p q x0 y0:P3}
def Cyc(N:P3→P3→Prop)(s:P3):Prop:=∃y,N s y∧Rch N y s
def aie(N:P3→P3→Prop):Prop:=∀s,Cyc N s→∀x y,N x y→Rch N s x
/-! ### A corner between two -/
/-! ### A corner in another's place -/
end
/-! ### The corners behind each other round a corner -/
def Nx(ts:List T3)(v x y:P3):Prop:=((v,x),y)∈lS ts
theorem Fy{ts:List T3}(hn:(bE ts).Nodup){v:P3}:Nx ts v x y↔cE ts v x=some y:=by
 constructor
 · intro h
   obtain⟨z,hz⟩:=Bz (show (v,x)∈bE ts by rw[←rB];exact eh.2 ⟨_,h,O⟩);rw[hz,Qj hn h (uN hz)]
 · exact uN
theorem acO{ts:List T3}(hn:(bE ts).Nodup){v b:P3}:Rch (Nx ts v) a b↔∃n,rC ts v n a=some b:=by
 constructor
 · intro h
   induction h with
   | refl=>exact⟨0,rfl⟩
   | tail _ s ih =>
    obtain⟨n,h⟩:=ih;exact⟨n+1,by rw[Ca,h,il];exact (Fy hn).1 s⟩
 · rintro⟨n,h⟩
   induction n generalizing b with
   | zero=>cases h;exact .refl _
   | succ n ih =>
    rw[Ca] at h;obtain⟨c,hc,h⟩:=lh.1 h;exact .tail (ih hc) ((Fy hn).2 h)
theorem am4{P:Nat→Prop}:∀n,P n→∃m,P m∧∀k,k<m→¬P k:=by
 intro n
 induction n using pi with
 | _ n ih =>
  intro h;by_cases k:∃m,m<n∧P m
  · obtain⟨m,hm,hp⟩:=k
    exact ih m hm hp
  · exact⟨n,h,fun m hm hp=>k ⟨m,hm,hp⟩⟩
def aa1(ts:List T3)(v:P3):List P3:=((bE ts).filter fun e=>decide (e.1=v)).map (·.2)
theorem Qv{ts:List T3}{v:P3}:x∈aa1 ts v↔(v,x)∈bE ts:=by
 unfold aa1;rw[eh];constructor
 · rintro⟨e,he,rfl⟩
   obtain⟨h1,h2⟩:=c_.1 he;rw[←of_decide_eq_true h2];exact h1
 · exact fun h=>⟨(v,x),c_.2 ⟨h,decide_eq_true O⟩,O⟩
theorem acP{ts:List T3}{v:P3}(hn:(bE ts).Nodup):(aa1 ts v).Nodup:=by
 unfold aa1;rw[List.Nodup,j_];refine (hn.sublist List.filter_sublist).imp_of_mem fun {a b} ha hb hne e=>hne ?_;have h1:=of_decide_eq_true (c_.1 ha).2;have h2:=of_decide_eq_true (c_.1 hb).2;exact oq (h1.trans h2.symm) e
theorem aif:∀ts:List T3,(bE ts).map (·.1)=dT ts:=by
 intro ts;unfold bE dT;rw[List.map_flatMap];rfl
theorem aa2(ts:List T3)(v:P3):(aa1 ts v).length=vC (dT ts) v:=by
 rw[←aif];unfold aa1 vC;rw[ct,List.filter_map,ct];rfl
theorem full{S E:List P3}(hS:S.Nodup)(hs:∀x∈S,x∈E)(hl:E.length≤S.length):∀x∈E,x∈S:=fun x hx=>by
 refine Decidable.byContradiction fun hn=>?_;have h1:S.length≤(E.erase x).length:=uM hS fun y hy=>by
  have hne:y≠x:=fun e=>hn (e▸hy);exact (List.mem_erase_of_ne hne).2 (hs y hy)
 rw[List.length_erase_of_mem hx] at h1;have:0<E.length:=List.length_pos_of_mem hx;omega
theorem acQ{ts:List T3}{v b:P3}(h:rC ts v i a=some b):rC ts v (i+j) a=rC ts v j b:=by rw[Yj,h,il]
theorem aok{ts:List T3}{v:P3}(h1:1≤j)(h:rC ts v j s=some s):∀n,rC ts v n s=rC ts v (n%j) s:=fun n=>by
 induction n using pi with
 | _ n ih =>
  rcases dq n j with hl | hl
  · rw[kg hl]
  · have e:n=j+(n-j):=by omega
    rw[e,acQ h,ih (n-j) (by omega),Nat.add_mod_left]
theorem aa3{ts:List T3}(hn:(bE ts).Nodup){v s:P3}{j:Nat}(hm:∀k,1≤k→k<j→rC ts v k s≠some s):∀(i k:Nat) (x:P3),i<k→k<j→rC ts v i s=some x→rC ts v k s≠some x
 | 0,k,x,hik,hk,h,h2=>by cases h;exact hm k (by omega) hk h2
 | i+1,k,x,hik,hk,h,h2=>by
  obtain⟨m,rfl⟩:∃m,k=m+1:=⟨k-1,by omega⟩
  rw[Ca] at h h2;obtain⟨y,hy,hy'⟩:=lh.1 h;obtain⟨z,hz,hz'⟩:=lh.1 h2;obtain rfl:=acE hn hy' hz';exact aa3 hn hm i m y (by omega) (by omega) hy hz
theorem aen{ts:List T3}{v b:P3}(hij:i≤j)(h:rC ts v j a=some b):∃y,rC ts v i a=some y:=by
 have e:j=i+(j-i):=by omega
 rw[e,Yj] at h;obtain⟨y,hy,_⟩:=lh.1 h;exact⟨y,hy⟩
theorem Vo{ts:List T3}(hn:(bE ts).Nodup){v s:P3}{j:Nat}(h1:1≤j)(h:rC ts v j s=some s)(hm:∀k,1≤k→k<j→rC ts v k s≠some s) :
 ∃L:List P3,L.Nodup∧L.length=j∧(∀x∈L,x∈aa1 ts v)∧∀x,x∈L↔Rch (Nx ts v) s x:=by
 have get:∀i,i≤j→∃y,rC ts v i s=some y:=fun i hi=>aen hi h;refine⟨(ji j).map fun i=>(rC ts v i s).getD s,?_,by rw[ct,List.length_range],fun x hx=>?_,fun x=>?_⟩
 · rw[List.Nodup,j_]
   refine (List.pairwise_lt_range (n:=j)).imp_of_mem fun {a b} ha hb hab e=>?_;have hb':=jj.1 hb;obtain⟨y,hy⟩:=get a (by omega);obtain⟨z,hz⟩:=get b (by omega);rw[hy,hz] at e;obtain rfl:y=z:=e;exact aa3 hn hm a b y hab hb' hy hz
 · obtain⟨i,hi,rfl⟩:=eh.1 hx
   have hi':=jj.1 hi;obtain⟨y,hy⟩:=get i (by omega);obtain⟨z,hz⟩:=get (i+1) (by omega);rw[Ca,hy,il] at hz;rw[hy];exact Qv.2 (vM hz)
 · rw[acO hn,eh]
   constructor
   · rintro⟨i,hi,rfl⟩
     obtain⟨y,hy⟩:=get i (by have:=jj.1 hi;omega);exact⟨i,by rw[hy];rfl⟩
   · rintro⟨n,hx⟩
     rw[aok h1 h] at hx;exact⟨n%j,jj.2 (jr _ (by omega)),by rw[hx];rfl⟩
theorem Vp{ts:List T3}(hn:(bE ts).Nodup):(¬∃e∈bE ts,∃j,1≤j∧j<vC (dT ts) e.1∧rC ts e.1 j e.2=some e.2)↔∀v,aie (Nx ts v):=by
 constructor
 · rintro hno v s ⟨y,hy,hr⟩ x z hx
   obtain⟨n,hr⟩:=(acO hn).1 hr;have h0:rC ts v (1+n) s=some s:=by rw[acQ (b:=y) (by rw[rC,(Fy hn).1 hy];rfl)];exact hr
   obtain⟨j,⟨hj1,hj⟩,hm⟩:=am4 (P:=fun k=>1≤k∧rC ts v k s=some s) (1+n) ⟨by omega,h0⟩;obtain⟨L,hL1,hL2,hL3,hL4⟩:=Vo hn hj1 hj (fun k h1 h2 h3=>hm k h2 ⟨h1,h3⟩);have hge:vC (dT ts) v≤j:=by
    refine ik fun hlt=>hno ⟨(v,s),vM ((Fy hn).1 hy),j,hj1,hlt,hj⟩
   exact (hL4 x).1 (full hL1 hL3 (by rw[hL2,aa2];exact hge) x (Qv.2 (vM ((Fy hn).1 hx))))
 · rintro hall ⟨⟨v,s⟩,he,j0,h1,h2,h3⟩
   simp only at h2 h3;obtain⟨j,⟨hj1,hj⟩,hm⟩:=am4 (P:=fun k=>1≤k∧rC ts v k s=some s) j0 ⟨h1,h3⟩;have hjj:j≤j0:=ik fun hlt=>hm j0 hlt ⟨h1,h3⟩;obtain⟨L,hL1,hL2,hL3,hL4⟩:=Vo hn hj1 hj (fun k h1 h2 h3=>hm k h2 ⟨h1,h3⟩);have hcyc:Cyc (Nx ts v) s:=by
    obtain⟨y,hy⟩:=aen (i:=1) hj1 hj;have hy':cE ts v s=some y:=by
     rw[rC] at hy;cases hb:cE ts v s with
     | none=>rw[hb] at hy;cases hy
     | some w=>rw[hb] at hy;exact hy
    refine⟨y,(Fy hn).2 hy',(acO hn).2 ⟨j-1,?_⟩⟩;have e:j=1+(j-1):=by omega
    rw[e,acQ hy] at hj;exact hj
   have hle:(aa1 ts v).length≤L.length:=uM (acP hn) fun x hx=>by
    obtain⟨y,hy⟩:=Bz (Qv.1 hx);exact (hL4 x).2 (hall v s hcyc x y ((Fy hn).2 hy))
   rw[aa2,hL2] at hle;omega
theorem aa4{ts:List T3}:fW true ts=0↔ah1 ts∧(bE ts).Nodup∧∀v,aie (Nx ts v):=by
 rw[afF];constructor
 · rintro⟨h1,h2,h3⟩;exact⟨h1,h2,(Vp h2).1 h3⟩
 · rintro⟨h1,h2,h3⟩;exact⟨h1,h2,(Vp h2).2 h3⟩
/-! ### Images -/
theorem Ga{t:T3}:t.nd=true↔t.a≠t.b∧t.b≠t.c∧t.c≠t.a:=by
 unfold T3.nd;simp only[bg,decide_eq_true_eq,and_assoc]
theorem aqs{t:T3}:t.nd=false↔t.a=t.b∨t.b=t.c∨t.c=t.a:=by
 cases h:t.nd with
 | true =>
  obtain⟨h1,h2,h3⟩:=Ga.1 h;exact⟨fun k=>(by cases k),fun k=>k.elim (fun k=>absurd k h1) fun k=>k.elim (fun k=>absurd k h2) fun k=>absurd k h3⟩
 | false =>
  refine⟨fun _=>?_,fun _=>rfl⟩;by_cases h1:t.a=t.b
  · exact .inl h1
  · by_cases h2:t.b=t.c
    · exact .inr (.inl h2)
    · refine .inr (.inr (Decidable.byContradiction fun h3=>?_))
      rw[Ga.2 ⟨h1,h2,h3⟩] at h;cases h
theorem rD(t:T3):alC t (dU t):=by
 unfold dU;split
 · exact .inr (.inr O)
 · split
   · exact .inr (.inl O)
   · exact .inl O
/-! ### What holds of both -/
theorem uQ{ts:List T3}{t:T3}(ht:t∈ts)(h:t.has x=true):x∈dT ts:=ah5.2 ⟨t,ht,fE.1 h⟩
/-! ### One step -/
def sK(p a x:P3):P3:=if x=p then a else x
theorem aqt{p:P3}:sK p a p=a:=if_pos rfl
theorem aqu{p:P3}(h:x≠p):sK p a x=x:=if_neg h
section
variable {p a:P3} {X:E3→Prop} {old new R us us':List T3}
end
/-! ### The corners round a corner,in a step -/
def fN(t:T3):Bool:=decide (¬jC (dR t.a t.b t.c)<3)
def mR(s t:T3):List P3:=[s.a,s.b,s.c].filter fun p=>t.has p
def sP(s t:T3):List P3:=[s.a,s.b,s.c].filter fun p=>!t.has p
def vD(s t:T3):Bool:=dL s.a s.b t||dL s.b s.c t||dL s.c s.a t
def sgE(u v:P3):Bool:=decide (bB u.x=bB v.x∧bB u.y=bB v.y∧bB u.z=bB v.z)
def nO(s t:T3):List P3→List P3→List P3→Bool
 | [_],[u,x],[v,y]=>dL u x t||dL v y s
 | [a,b],[u],[v]=>decide (mQ a b u v=0)&&sgE (dR a b u) (dR a b v)
 | _,_,_=>true
def mO(s t:T3):Bool :=
 if (mR s t).length=0∨fN s=true∨fN t=true then vD s t||vD t s else nO s t (mR s t) (sP s t) (sP t s)
def rX(t:T3):T3:=⟨t.b,t.c,t.a⟩
theorem Vq(t:T3)(p:P3):(rX t).has p=t.has p:=by
 rw[Bool.eq_iff_iff,fE,fE];show p=t.b∨p=t.c∨p=t.a↔_
 constructor
 · rintro (h | h | h)
   · exact .inr (.inl h)
   · exact .inr (.inr h)
   · exact .inl h
 · rintro (h | h | h)
   · exact .inr (.inr h)
   · exact .inl h
   · exact .inr (.inl h)
theorem Qw(t:T3):fN (rX t)=fN t:=by unfold fN rX;simp only[Qu]
theorem Vr(s t:T3):vD (rX s) t=vD s t:=by
 unfold vD rX;simp only;cases dL s.a s.b t <;> cases dL s.b s.c t <;> cases dL s.c s.a t <;> rfl
theorem rY(p q:P3)(t:T3):dL p q (rX t)=dL p q t:=acN p q t.a t.b t.c
theorem Vs(s t:T3):vD s (rX t)=vD s t:=by unfold vD;rw[rY,rY,rY]
theorem aol(u v:P3):sgE (Kz u) (Kz v)=sgE u v:=by
 have e:∀a b:Int,bB (-a)=bB (-b)↔bB a=bB b:=fun a b=>by
  unfold bB;split <;> split <;> (try split) <;> (try split) <;> (try split) <;> (try split) <;> omega
 unfold sgE Kz;simp only[e]
theorem alI(u v:P3):sgE u v=sgE v u:=decide_eq_decide.2 ⟨fun⟨h1,h2,h3⟩=>⟨h1.symm,h2.symm,h3.symm⟩,fun⟨h1,h2,h3⟩=>⟨h1.symm,h2.symm,h3.symm⟩⟩
theorem aig(s t:T3)(b u v:List P3):nO (rX s) t b u v=nO s t b u v:=by
 unfold nO;split <;> simp only[rY]
theorem aih(s t:T3)(b u v:List P3):nO s (rX t) b u v=nO s t b u v:=by
 unfold nO;split <;> simp only[rY]
theorem aii(s t:T3)(x u y:P3)(V:List P3):nO s t [x] [y,u] V=nO s t [x] [u,y] V:=by
 rcases V with _ | ⟨v,_ | ⟨z,_ | ⟨_,_⟩⟩⟩
 · rfl
 · rfl
 · show (dL y u t||_)=(dL u y t||_);rw[Qt]
 · rfl
theorem aeo(s t:T3)(b U:List P3)(v z:P3):nO s t b U [z,v]=nO s t b U [v,z]:=by
 rcases b with _ | ⟨x,_ | ⟨y,_ | ⟨_,_⟩⟩⟩
 · rfl
 · rcases U with _ | ⟨u,_ | ⟨w,_ | ⟨_,_⟩⟩⟩
   · rfl
   · rfl
   · show (_||dL z v s)=(_||dL v z s);rw[Qt v z s]
   · rfl
 · rcases U with _ | ⟨u,_ | ⟨_,_⟩⟩ <;> rfl
 · rfl
theorem acR(s t:T3)(x y u:P3)(V:List P3):nO s t [y,x] [u] V=nO s t [x,y] [u] V:=by
 rcases V with _ | ⟨v,_ | ⟨_,_⟩⟩
 · rfl
 · show (decide (mQ y x u v=0)&&sgE (dR y x u) (dR y x v))=(decide (mQ x y u v=0)&&sgE (dR x y u) (dR x y v))
   rw[Ii,Ih,Ih x y v,aol];simp only[kn]
 · rfl
theorem Qx(s t:T3):mR s t=(if t.has s.a then [s.a] else [])++((if t.has s.b then [s.b] else [])++if t.has s.c then [s.c] else []):=by
 unfold mR;simp only[gv,m_];cases t.has s.a <;> cases t.has s.b <;> cases t.has s.c <;> rfl
theorem Qy(s t:T3):sP s t=(if t.has s.a then [] else [s.a])++((if t.has s.b then [] else [s.b])++if t.has s.c then [] else [s.c]):=by
 unfold sP;simp only[gv,m_];cases t.has s.a <;> cases t.has s.b <;> cases t.has s.c <;> rfl
theorem Vt(s t:T3):sP s (rX t)=sP s t:=by unfold sP;simp only[Vq]
theorem afG(s t:T3):mR s (rX t)=mR s t:=by unfold mR;simp only[Vq]
theorem La(s t:T3):mO (rX s) t=mO s t:=by
 have hl:(mR (rX s) t).length=(mR s t).length:=by
  rw[Qx,Qx];show ((if t.has s.b then [s.b] else [])++((if t.has s.c then [s.c] else [])++if t.has s.a then [s.a] else [])).length=_
  cases t.has s.a <;> cases t.has s.b <;> cases t.has s.c <;> rfl
 unfold mO;rw[hl,Qw,Vr,Vs,Vt,aig];by_cases h:(mR s t).length=0∨fN s=true∨fN t=true
 · rw[if_pos h,if_pos h]
 · rw[if_neg h,if_neg h,Qx,Qx,Qy,Qy s]
   show nO s t ((if t.has s.b then [s.b] else [])++((if t.has s.c then [s.c] else [])++if t.has s.a then [s.a] else [])) ((if t.has s.b then [] else [s.b])++((if t.has s.c then [] else [s.c])++if t.has s.a then [] else [s.a])) _=_
   cases t.has s.a <;> cases t.has s.b <;> cases t.has s.c
   · rfl
   · exact aii ..
   · exact aii ..
   · rfl
   · rfl
   · exact acR ..
   · exact acR ..
   · rfl
theorem Gb(s t:T3):mO s (rX t)=mO s t:=by
 unfold mO;rw[afG,Qw,Vr,Vs,Vt,aih];by_cases h:(mR s t).length=0∨fN s=true∨fN t=true
 · rw[if_pos h,if_pos h]
 · rw[if_neg h,if_neg h,Qy (rX t),Qy t]
   show nO s t _ _ ((if s.has t.b then [] else [t.b])++((if s.has t.c then [] else [t.c])++if s.has t.a then [] else [t.a]))=_
   cases s.has t.a <;> cases s.has t.b <;> cases s.has t.c
   · rcases mR s t with _ | ⟨x,_ | ⟨y,_ | ⟨_,_⟩⟩⟩ <;> rcases sP s t with _ | ⟨u,_ | ⟨w,_ | ⟨_,_⟩⟩⟩ <;> rfl
   · exact aeo ..
   · exact aeo ..
   · rfl
   · rfl
   · rfl
   · rfl
   · rfl
theorem alJ(a b u v:P3):mQ a b v u = -mQ a b u v:=by
 simp only[mQ,dR,P3.sub,P3.cross,P3.dot];grind
theorem alK(s t:T3){L1 L2:List P3}(U V:List P3)(h:L1.Perm L2):nO s t L1 U V=nO t s L2 V U:=by
 have two:∀(x y:P3),nO s t [x,y] U V=nO t s [x,y] V U:=fun x y=>by
  rcases U with _ | ⟨u,_ | ⟨_,_⟩⟩ <;> rcases V with _ | ⟨v,_ | ⟨_,_⟩⟩ <;> try rfl
  show (decide (mQ x y u v=0)&&sgE (dR x y u) (dR x y v))=(decide (mQ x y v u=0)&&sgE (dR x y v) (dR x y u))
  rw[alJ x y u v,alI];simp only[kn]
 rcases L1 with _ | ⟨x,_ | ⟨y,_ | ⟨z,l⟩⟩⟩
 · obtain rfl:=h.symm.eq_nil;rfl
 · rw[ou.1 h.symm]
   rcases U with _ | ⟨u,_ | ⟨w,_ | ⟨_,_⟩⟩⟩ <;> rcases V with _ | ⟨v,_ | ⟨z,_ | ⟨_,_⟩⟩⟩ <;> try rfl
   show (dL u w t||dL v z s)=(dL v z s||dL u w t)
   rw[pg]
 · have hl:=h.length_eq
   rcases L2 with _ | ⟨p,_ | ⟨q,_ | ⟨_,_⟩⟩⟩ <;> simp only[aw,bn] at hl <;> try omega
   have hp:p∈[x,y]:=h.symm.subset (bu ..);rcases an.1 hp with e | e
   · subst e
     have:=ou.1 ((ny p).1 h).symm;rw[this];exact two p y
   · obtain rfl:=bf.1 e
     have h2:[p,x].Perm [p,q]:=(List.Perm.swap x p []).trans h;have:=ou.1 ((ny p).1 h2).symm;rw[this,two x p];rcases V with _ | ⟨v,_ | ⟨_,_⟩⟩
     · rfl
     · exact (acR t s x p v U).symm
     · rfl
 · have hl:=h.length_eq
   rcases L2 with _ | ⟨p,_ | ⟨q,_ | ⟨r,m⟩⟩⟩ <;> simp only[aw,bn] at hl <;> try omega
   rfl
theorem xC{t:T3}(h:t.nd=true):[t.a,t.b,t.c].Nodup:=by
 obtain⟨h1,h2,h3⟩:=Ga.1 h;simp only[gt,an,cg,or_false,not_or,not_false_eq_true,List.nodup_nil,and_true];exact⟨⟨h1,h3.symm⟩,h2⟩
theorem aa5{s t:T3}(hs:s.nd=true)(ht:t.nd=true):(mR s t).Perm (mR t s):=by
 refine (List.perm_ext_iff_of_nodup ((xC hs).filter _) ((xC ht).filter _)).2 fun p=>?_;rw[c_,c_,fE,fE];simp only[an,cg,or_false];exact and_comm
theorem afH{s t:T3}(hs:s.nd=true)(ht:t.nd=true):mO s t=mO t s:=by
 have hp:=aa5 hs ht;unfold mO;rw[hp.length_eq,pg (vD t s),alK s t _ _ hp];have e:((mR t s).length=0∨fN s=true∨fN t=true)↔((mR t s).length=0∨fN t=true∨fN s=true):=or_congr Iff.rfl or_comm;by_cases h:(mR t s).length=0∨fN s=true∨fN t=true
 · rw[if_pos h,if_pos (e.1 h)]
 · rw[if_neg h,if_neg (fun k=>h (e.2 k))]
def T3.Lt(s t:T3):Prop:=s.a.Lt t.a∨s.a=t.a∧(s.b.Lt t.b∨s.b=t.b∧s.c.Lt t.c)
variable{t:T3}{l:List T3}
instance (s t:T3):Decidable (s.Lt t):=by unfold T3.Lt;infer_instance
theorem T3.lt_irrefl(s:T3):¬s.Lt s:=fun h=>by
 rcases h with h | ⟨_,h | ⟨_,h⟩⟩ <;> exact P3.lt_irrefl _ h
theorem T3.lt_trans{s u:T3}(h:s.Lt t)(k:t.Lt u):s.Lt u:=by
 rcases h with h | ⟨e,h | ⟨f,h⟩⟩ <;> rcases k with k | ⟨e2,k | ⟨f2,k⟩⟩
 · exact .inl (P3.lt_trans h k)
 · exact .inl (e2▸h)
 · exact .inl (e2▸h)
 · exact .inl (e▸k)
 · exact .inr ⟨e.trans e2,.inl (P3.lt_trans h k)⟩
 · exact .inr ⟨e.trans e2,.inl (f2▸h)⟩
 · exact .inl (e▸k)
 · exact .inr ⟨e.trans e2,.inl (f▸k)⟩
 · exact .inr ⟨e.trans e2,.inr ⟨f.trans f2,P3.lt_trans h k⟩⟩
theorem T3.lt_tri(s t:T3):s.Lt t∨s=t∨t.Lt s:=by
 rcases Go.Lith.lt_tri s.a t.a with h | h | h
 · exact .inl (.inl h)
 · rcases Go.Lith.lt_tri s.b t.b with k | k | k
   · exact .inl (.inr ⟨h,.inl k⟩)
   · rcases Go.Lith.lt_tri s.c t.c with l | l | l
     · exact .inl (.inr ⟨h,.inr ⟨k,l⟩⟩)
     · exact .inr (.inl (Ky h k l))
     · exact .inr (.inr (.inr ⟨h.symm,.inr ⟨k.symm,l⟩⟩))
   · exact .inr (.inr (.inr ⟨h.symm,.inl k⟩))
 · exact .inr (.inr (.inl h))
def uR(s t:T3):Prop:=¬t.Lt s
theorem Mq{s u:T3}(h:uR s t)(k:uR t u):uR s u:=fun l=>by
 rcases T3.lt_tri s t with e | e | e
 · exact k (T3.lt_trans l e)
 · exact k (e▸l)
 · exact h e
theorem acS{s:T3}(h:uR s t)(k:uR t s):s=t:=by
 rcases T3.lt_tri s t with e | e | e
 · exact absurd e k
 · exact e
 · exact absurd e h
def afI(t:T3):List T3→List T3
 | []=>[t]
 | u::l=>if u.Lt t then u::afI t l else t::u::l
def vO:List T3→List T3
 | []=>[]
 | t::l=>afI t (vO l)
def eC(l:List T3):List T3:=vO (l.map dU)
theorem Qz(t:T3):∀l:List T3,(afI t l).Perm (t::l)
 | []=>.refl _
 | u::l=>by
  rw[afI];split
  · exact ((Qz t l).cons u).trans (.swap ..)
  · exact .refl _
theorem tU:∀l:List T3,(vO l).Perm l
 | []=>.refl _
 | t::l=>(Qz t _).trans ((tU l).cons t)
theorem Ra(t:T3):∀l:List T3,l.Pairwise uR→(afI t l).Pairwise uR
 | [],_=>jz _ _
 | u::l,h=>by
  rw[afI];obtain⟨h1,h2⟩:=br.1 h;split
  · rename_i k
    refine br.2 ⟨fun x hx=>?_,Ra t l h2⟩;rcases an.1 ((Qz t l).subset hx) with rfl | hx
    · exact fun k2=>T3.lt_irrefl _ (T3.lt_trans k k2)
    · exact h1 x hx
  · rename_i k
    refine br.2 ⟨fun x hx=>?_,h⟩;rcases an.1 hx with rfl | hx
    · exact k
    · exact Mq k (h1 x hx)
theorem rZ:∀l:List T3,(vO l).Pairwise uR
 | []=>List.Pairwise.nil
 | t::l=>Ra t _ (rZ l)
theorem Cf:∀{l m:List T3},l.Perm m→l.Pairwise uR→m.Pairwise uR→l=m
 | [],m,h,_,_=>h.symm.eq_nil.symm
 | s::l,[],h,_,_=>by have:=h.length_eq;simp at this
 | s::l,t::m,h,h1,h2=>by
  obtain⟨a1,a2⟩:=br.1 h1;obtain⟨b1,b2⟩:=br.1 h2;have e:s=t:=by
   have hs:s∈t::m:=h.subset (bu ..);have ht:t∈s::l:=h.symm.subset (bu ..);rcases an.1 hs with e | hs
   · exact e
   · rcases an.1 ht with e | ht
     · exact e.symm
     · exact acS (a1 t ht) (b1 s hs)
  subst e;rw[Cf ((ny s).1 h) a2 b2]
theorem uS(l:List T3):(eC l).Perm (l.map dU):=tU _
theorem Yl(l:List T3):(eC l).Pairwise uR:=rZ _
theorem aij{m:List T3}(h:m.Perm (l.map dU))(hs:m.Pairwise uR):m=eC l:=Cf (h.trans (uS l).symm) hs (Yl l)
def jV(u v:P3)(t:T3):T3:=t.mapP (sK u v)
def pE(u v:P3)(l:List T3):List T3:=(l.map (jV u v)).filter T3.nd
def oQ(l:List T3)(u v:P3):List T3:=eC (pE u v l)
def lK(u v:P3)(l:List T3):List T3:=l.filter fun t=>!decide (jV u v t=t)&&(jV u v t).nd
def jP(u v:P3)(l:List T3):List T3:=(lK u v l).map (jV u v)
def mS(u v:P3)(l:List T3):List T3:=l.filter fun t=>decide (jV u v t=t)
def Nj(l:List T3)(p q:P3):Bool:=decide (q≠p)&&Tx l p q
def nbL(l:List T3)(p:P3):List P3:=(dY l).filter (Nj l p)
def afJ(p:P3):List P3→List P3
 | []=>[p]
 | q::l=>if q.Lt p then q::afJ p l else p::q::l
def Ai:List P3→List P3
 | []=>[]
 | p::l=>afJ p (Ai l)
def pZ(t:T3):List P3:=Ai [t.a,t.b,t.c]
def Ds(t:T3)(k:Nat):Int:=min (min (dP t.a k) (dP t.b k)) (dP t.c k)
def Dt(t:T3)(k:Nat):Int:=max (max (dP t.a k) (dP t.b k)) (dP t.c k)
def aa6(s t:T3)(k:Nat):Bool:=decide (Dt s k<Ds t k)||decide (Dt t k<Ds s k)
def oE(s t:T3):Bool:=!aa6 s t 0 && !aa6 s t 1 && !aa6 s t 2
def sW(t s:T3):Bool:=oE t s&&mO s t
def Tz(s t:T3):Int:=bB ((dR s.a s.b s.c).dot (dR t.a t.b t.c))
def vP(l:List T3)(u v:P3):Bool:=Nj l u v && !Fa (bK l) u
def yN(l:List T3)(u v:P3):Bool:=decide (((nbL l u).filter (Nj l v)).length=2)
def rL(l:List T3)(u v:P3):Bool:=decide (((jP u v l++mS u v l).map pZ).Nodup)
def Gc(l:List T3)(u v:P3):Bool:=!Fa (bK l) v||(nbL l u).all fun p=>decide (p=v) || !Fa (bK l) p||Nj l v p
def uT(l:List T3)(u v:P3):Bool:=(lK u v l).all fun t=>!fN (jV u v t)&&decide (Tz t (jV u v t)=1)
def Gd(l:List T3)(u v:P3):Bool:=(jP u v l).zipIdx.all fun x=>!(mS u v l).any (sW x.1) && !((jP u v l).take x.2).any (sW x.1)
def dK(l:List T3)(u v:P3):Bool:=vP l u v&&yN l u v&&rL l u v&&Gc l u v&&uT l u v&&Gd l u v
theorem Rb{p:P3}:Nj l p q=true↔q≠p∧Tx l p q=true:=by
 unfold Nj;rw[bg,decide_eq_true_eq]
theorem vQ{p:P3}:q∈nbL l p↔Nj l p q=true:=by
 unfold nbL;rw[c_,Cc];refine⟨fun h=>h.2,fun h=>⟨?_,h⟩⟩;obtain⟨t,ht,_,hq⟩:=Ic.1 (Rb.1 h).2;exact uQ ht hq
theorem aik{v:P3}(hne:u≠v):jV u v t=t↔t.has u=false:=by
 have e:∀x,sK u v x=x↔x≠u:=fun x=>by
  unfold sK;split
  · rename_i h;subst h;exact⟨fun h=>absurd h.symm hne,fun h=>absurd O h⟩
  · rename_i h;exact⟨fun _=>h,fun _=>rfl⟩
 constructor
 · intro h
   have h1:=(e _).1 (congrArg T3.a h);have h2:=(e _).1 (congrArg T3.b h);have h3:=(e _).1 (congrArg T3.c h);unfold T3.has;simp[h1,h2,h3]
 · intro h
   obtain⟨h1,h2,h3⟩:=aog h;exact Ky ((e _).2 h1.symm) ((e _).2 h2.symm) ((e _).2 h3.symm)
theorem aon{v:P3}(hne:u≠v)(hd:t.nd=true):(jV u v t).nd=true↔¬(t.has u=true∧t.has v=true):=by
 obtain⟨h1,h2,h3⟩:=Ga.1 hd;rw[Ga,fE,fE];unfold jV T3.mapP sK;simp only
 grind
theorem aep{v:P3}(l:List T3):∀t∈pE u v l,t.nd=true:=fun t h=>(c_.1 h).2
theorem Ge{u v:P3}:∀l:List T3,(∀t∈l,t.nd=true)→(jP u v l++mS u v l).Perm (pE u v l)
 | [],_=>.refl _
 | t::l,h=>by
  have ih:=Ge (u:=u) (v:=v) l fun x hx=>h x (bt _ hx);have hd:=h t (bu ..);unfold jP lK mS pE at ih ⊢;simp only[gv,bh];by_cases e:jV u v t=t
  · rw[e,hd]
    simp only[decide_true,Bool.not_true,Bool.false_and,nf,if_false,if_true];exact List.perm_middle.trans (ih.cons t)
  · simp only[e,decide_false,Bool.not_false,Bool.true_and,nf,if_false]
    split
    · rw[bh,cj];exact ih.cons _
    · exact ih
theorem ail(t:T3):(dU t).nd=t.nd:=(alD (rD t))
theorem aim(h:∀t∈l,t.nd=true):∀t∈eC l,t.nd=true:=fun t ht=>by
 obtain⟨s,hs,rfl⟩:=eh.1 ((uS l).mem_iff.1 ht);rw[ail];exact h s hs
theorem ain(l:List T3)(u v:P3):∀t∈oQ l u v,t.nd=true:=aim (aep l)
theorem rF(l:List T3):(eC l).length=l.length:=by rw[(uS l).length_eq,ct]
theorem aio{v:P3}(h:vP l u v=true):(oQ l u v).length<l.length:=by
 have hj:=(Bool.and_eq_true_iff.1 h).1;obtain⟨hne,he⟩:=Rb.1 hj;obtain⟨t,ht,h1,h2⟩:=Ic.1 he;unfold oQ;rw[rF];unfold pE;have hn:(jV u v t).nd=false:=by
  rw[aqs];rw[fE] at h1 h2;unfold jV T3.mapP sK;simp only
  grind
 have hm:jV u v t∈l.map (jV u v):=List.mem_map_of_mem ht;have:=List.length_filter_lt_length_iff_exists (p:=T3.nd) (l:=l.map (jV u v)) |>.2 ⟨_,hm,by rw[hn];exact fg⟩
 rwa [ct] at this
theorem Ij(u v:P3)(l:List T3):(pE u v l).length≤l.length:=by
 have:=List.length_filter_le T3.nd (l.map (jV u v));rwa [ct] at this
def Ei(a b:List Int):List Int:=List.zipWith (· + ·) a b
def q0:List Int:=[0,0,0,0,0,0,0,0,0,0]
def qPr(a b c d:Int):List Int:=[a*a,2*(a*b),2*(a*c),2*(a*d),b*b,2*(b*c),2*(b*d),c*c,2*(c*d),d*d]
def qOf(t:T3):List Int:=qPr (dR t.a t.b t.c).x (dR t.a t.b t.c).y (dR t.a t.b t.c).z (-((dR t.a t.b t.c).dot t.a))
def aqv(q:List Int)(x y z:Int):Int:=match q with
 | [a,b,c,d,e,f,g,h,i,j]=>a*(x*x)+b*(x*y)+c*(x*z)+d*x+e*(y*y)+f*(y*z)+g*y+h*(z*z)+i*z+j
 | _=>0
def qAt(q:List Int)(p:P3):Int:=aqv q p.x p.y p.z
def wH(l:List T3)(p:P3):List Int:=(l.filter fun t=>t.has p).foldl (fun s t=>Ei s (qOf t)) q0
structure lT where
 u:P3
 v:P3
 c:Int
def lT.Lt(a b:lT):Prop:=a.c<b.c∨a.c=b.c∧(a.u.Lt b.u∨a.u=b.u∧a.v.Lt b.v)
variable{c:lT}
instance (a b:lT):Decidable (a.Lt b):=by unfold lT.Lt;infer_instance
theorem lT.ext' {a b:lT}(h1:a.u=b.u)(h2:a.v=b.v)(h3:a.c=b.c):a=b:=by
 obtain⟨u,v,c⟩:=a;obtain⟨u',v',c'⟩:=b;simp only at h1 h2 h3;rw[h1,h2,h3]
theorem lT.lt_irrefl(a:lT):¬a.Lt a:=fun h=>by
 rcases h with h | ⟨_,h | ⟨_,h⟩⟩
 · omega
 · exact P3.lt_irrefl _ h
 · exact P3.lt_irrefl _ h
theorem lT.lt_trans{a b:lT}(h:a.Lt b)(k:b.Lt c):a.Lt c:=by
 rcases h with h | ⟨e,h | ⟨f,h⟩⟩ <;> rcases k with k | ⟨e2,k | ⟨f2,k⟩⟩
 · exact .inl (by omega)
 · exact .inl (by omega)
 · exact .inl (by omega)
 · exact .inl (by omega)
 · exact .inr ⟨e.trans e2,.inl (P3.lt_trans h k)⟩
 · exact .inr ⟨e.trans e2,.inl (f2▸h)⟩
 · exact .inl (by omega)
 · exact .inr ⟨e.trans e2,.inl (f▸k)⟩
 · exact .inr ⟨e.trans e2,.inr ⟨f.trans f2,P3.lt_trans h k⟩⟩
theorem lT.lt_tri(a b:lT):a.Lt b∨a=b∨b.Lt a:=by
 rcases Int.lt_trichotomy a.c b.c with h | h | h
 · exact .inl (.inl h)
 · rcases Go.Lith.lt_tri a.u b.u with k | k | k
   · exact .inl (.inr ⟨h,.inl k⟩)
   · rcases Go.Lith.lt_tri a.v b.v with l | l | l
     · exact .inl (.inr ⟨h,.inr ⟨k,l⟩⟩)
     · exact .inr (.inl (lT.ext' k l h))
     · exact .inr (.inr (.inr ⟨h.symm,.inr ⟨k.symm,l⟩⟩))
   · exact .inr (.inr (.inr ⟨h.symm,.inl k⟩))
 · exact .inr (.inr (.inl h))
def Ua:List lT→Option lT
 | []=>none
 | c::cs=>match Ua cs with
  | none=>some c
  | some d=>if d.Lt c then some d else some c
theorem Lb:∀{cs:List lT},Ua cs=none↔cs=[]
 | []=>⟨fun _=>rfl,fun _=>rfl⟩
 | c::cs=>by
  unfold Ua;constructor
  · intro h
    cases hm:Ua cs with
    | none=>rw[hm] at h;cases h
    | some d=>rw[hm] at h;simp only at h;split at h <;> cases h
  · intro h;cases h
theorem Lc:∀{cs:List lT} {c:lT},Ua cs=some c→c∈cs∧∀d∈cs,¬d.Lt c
 | [],c,h=>by cases h
 | a::cs,c,h=>by
  unfold Ua at h;cases hm:Ua cs with
  | none =>
   rw[hm] at h;cases h;rw[Lb.1 hm];exact⟨li _,fun d hd=>by rw[bf.1 hd];exact lT.lt_irrefl _⟩
  | some d =>
   rw[hm] at h;simp only at h;obtain⟨h1,h2⟩:=Lc hm;split at h
   · rename_i k
     cases h;refine⟨bt _ h1,fun e he=>?_⟩;rcases an.1 he with rfl | he
     · exact fun k2=>lT.lt_irrefl _ (lT.lt_trans k k2)
     · exact h2 e he
   · rename_i k
     cases h;refine⟨bu ..,fun e he k2=>?_⟩;rcases an.1 he with rfl | he
     · exact lT.lt_irrefl _ k2
     · rcases lT.lt_tri d e with k3 | k3 | k3
       · exact k (lT.lt_trans k3 k2)
       · exact k (k3▸k2)
       · exact h2 e he k3
theorem alM{cs:List lT}(hc:c∈cs)(h:∀d∈cs,¬d.Lt c):Ua cs=some c:=by
 cases hm:Ua cs with
 | none=>rw[Lb.1 hm] at hc;cases hc
 | some d =>
  obtain⟨h1,h2⟩:=Lc hm;rcases lT.lt_tri c d with k | k | k
  · exact absurd k (h2 c hc)
  · rw[k]
  · exact absurd k (h d h1)
def sX(q:P3→List Int)(u v:P3):Int:=qAt (Ei (q u) (q v)) v
def aoo(l:List T3)(q:P3→List Int)(u:P3):List lT:=if Fa (bK l) u then [] else (nbL l u).map fun v=>⟨u,v,sX q u v⟩
def acT(l:List T3)(q:P3→List Int):List lT:=(dY l).flatMap (aoo l q)
def Fb(l:List T3)(q:P3→List Int):Option lT:=Ua ((acT l q).filter fun c=>dK l c.u c.v)
def Ym(q:P3→List Int)(u v:P3)(p:P3):List Int:=if p=v then Ei (q u) (q v) else q p
def toF(D:List Mv)(u v:P3):List Mv:=fP (D.map fun e=>(e.1,sK u v e.2)) u v
def qR:Nat→Int→List T3→(P3→List Int)→List Mv→List T3 × List Mv
 | 0,_,l,_,D=>(l,D)
 | n+1,want,l,q,D=>if (l.length:Int)≤want then (l,D) else match Fb l q with
  | none=>(l,D)
  | some c=>qR n want (oQ l c.u c.v) (Ym q c.u c.v) (toF D c.u c.v)
def mZ(D:List Mv):List Mv:=(Ai (D.map (·.1))).map fun k=>(k,(cL D k).getD k)
def Aj(l:List T3)(want:Int):List T3 × List Mv :=
 if fW true (eC l)≠0 then (eC l,[]) else
 ((qR (eC l).length want (eC l) (wH (eC l)) []).1,mZ (qR (eC l).length want (eC l) (wH (eC l)) []).2)
theorem alN{q:P3→List Int}  : c∈acT l q↔Fa (bK l) c.u=false∧Nj l c.u c.v=true∧c.c=sX q c.u c.v:=by
 unfold acT;rw[fk];constructor
 · rintro⟨u,hu,hc⟩
   unfold aoo at hc;split at hc
   · cases hc
   · rename_i hb
     obtain⟨v,hv,rfl⟩:=eh.1 hc;exact⟨by simpa using hb,vQ.1 hv,O⟩
 · rintro⟨h1,h2,h3⟩
   obtain⟨t,ht,hu,_⟩:=Ic.1 (Rb.1 h2).2;refine⟨c.u,Cc.2 (uQ ht hu),?_⟩;unfold aoo;rw[if_neg (by rw[h1];exact fg)];exact eh.2 ⟨c.v,vQ.2 h2,lT.ext' O O h3.symm⟩
theorem Rc{v:P3}(h:dK l u v=true):vP l u v=true:=by
 unfold dK at h;simp only[bg] at h;exact h.1.1.1.1.1
theorem afK{q:P3→List Int}(h:Fb l q=some c):c∈acT l q∧dK l c.u c.v=true:=by
 have:=(Lc h).1;exact c_.1 this
theorem xD{q:P3→List Int}(h:Fb l q=some c):(oQ l c.u c.v).length<l.length:=aio (Rc (afK h).2)
theorem Vu:∀(n m:Nat) (want:Int) (l:List T3) (q:P3→List Int) (D:List Mv),l.length≤n→l.length≤m→0≤want→qR n want l q D=qR m want l q D
 | 0,0,_,_,_,_,_,_,_=>rfl
 | 0,m+1,want,l,q,D,h1,h2,hw=>by
  have:l.length=0:=by omega
  unfold qR;rw[if_pos (by omega)]
 | n+1,0,want,l,q,D,h1,h2,hw=>by
  have:l.length=0:=by omega
  unfold qR;rw[if_pos (by omega)]
 | n+1,m+1,want,l,q,D,h1,h2,hw=>by
  unfold qR;split
  · rfl
  · cases hb:Fb l q with
    | none=>rfl
    | some c =>
     have:=xD hb;exact Vu n m want _ _ _ (by omega) (by omega) hw
theorem aip{want:Int}{q:P3→List Int}{D:List Mv}(h:(l.length:Int)≤want):qR n want l q D=(l,D):=by
 cases n with
 | zero=>rfl
 | succ n=>unfold qR;rw[if_pos h]
def wC(n:Int):List ai:=[.bool (fY n),.string (kK n)]
def qC(L:List Int):List ai:=L.flatMap wC
def qV(L:List Int):ai:=.agg (qC L).toArray
theorem wC2(n:Int):(wC n).length=2:=rfl
theorem Cg(L:List Int):(qC L).length=L.length*2:=kD wC2 ..
theorem Ch{g:Nat}{T:az}{x:Int}(h:fR w g (qC L) T)(hx:L[k]? = some x):mD w ⟨g,k*2,none⟩ (wC x):=by
 have h2:=h.row (k*2);rw[qC,Pp wC2 hx] at h2;exact fun j u hj=>h2 j u (by rw[cn (ap.1 hj).1];exact hj)
theorem Yn{x:Int}(h:k<L.length):over (qC L) (k*2) (wC x)=qC (L.set k x):=by
 unfold over qC;rw[show k*2+(wC x).length=(k+1)*2 by rw[wC2];omega,←Po wC2,←yB wC2,List.set_eq_take_append_cons_drop,if_pos h,a_,dt,dl]
theorem aop(L:List Int):∀u∈qC L,u.oneCell'=true:=fun u hu=>by
 obtain⟨x,_,h⟩:=fk.1 hu;simp only[wC,an,cg,or_false] at h;rcases h with rfl | rfl <;> rfl
def Gf(k:Nat)(L:List Int):Prop:=∀x∈L,Bd k x
theorem Gf.mono(h:Gf k L)(hk:k≤m):Gf m L:=fun x hx=>(h x hx).mono hk
theorem Gf.at{x:Int}(h:Gf k L)(hx:L[i]? = some x):Bd k x:=h x (be hx)
theorem lL{a b:List Int}(ha:a.length=10)(hb:b.length=10):(Ei a b).length=10:=by unfold Ei;rw[List.length_zipWith,ha,hb];rfl
theorem Nw{a b:List Int}(ha:Gf k a)(hb:Gf k b):Gf (k+1) (Ei a b):=fun x hx=>by
 unfold Ei at hx;obtain⟨i,hi⟩:=List.mem_iff_getElem?.1 hx;rw[List.getElem?_zipWith] at hi;cases h1:a[i]? with
 | none=>simp[h1] at hi
 | some y =>
  cases h2:b[i]? with
  | none=>simp[h1,h2] at hi
  | some z =>
   simp[h1,h2] at hi;subst hi;exact ((ha.at h1).add (hb.at h2)).mono (by omega)
section
variable {P:bp} {ds:List dx} {l:List ai} {x y:Operand} {T ty:az} {ops:Array Oper} {Q:Exit→Act→aj→Prop} {rest:List Oper} {pos:String} {after:Array Edge} {w w0:aj} {is:List It}
theorem aa7{cs us:List ai}(h:us.length=cs.length):over cs 0 us=us:=by unfold over;rw[List.take_zero,b_,aq,gp (by omega),fe]
theorem Du{g n:Nat}{cs:List ai}{L:List Int}{t:az}(m:Mem w0 w is)(k:Nat)(hk:is[k]? = some (bI g cs t))(hx:ev l x=.pointer (some ⟨g,0,none⟩))(hv:ev l y=qV L)(hl:L.length*2=n)(hcs:cs.length=n)(hc:dQ P T n)
 (h:∀u,Mem w0 u (is.set k (bI g (qC L) t))→ar P ops Q rest (Fr l ds) u):ar P ops Q (Oper.mk none (.store T x y) ty pos after none::rest) (Fr l ds) w :=
 bN (us:=qC L) m k hk hx hv (by rw[Cg,hl];exact hc) (by rw[Cg,hl,hcs,aq];exact av _) (List.all_eq_true.2 (aop L)) fun u hu=>h u (by rw[aa7 (by rw[Cg,hl,hcs])] at hu;exact hu)
theorem wI{g:Nat}{L:List Int}{t:az}(h:fR w g (qC L) t)(hA:fA P T true)(hc:dQ P T n)(hl:L.length*2=n):eR P w T ⟨g,0,none⟩ (qV L):=h.full hA (by rw[Cg,hl];exact hc)
theorem alO{a:Addr}(h:eR P w T a (.agg #[.bool false,.string ⟨#[]⟩])):eR P w T a (W 0):=by rw[Xn];exact h
end
def qP(a b:List Int)(k:Nat):List Int:=(Ei a b).take k++a.drop k
theorem aoq{a b:List Int}(ha:a.length=10)(hb:b.length=10):qP a b 10=Ei a b:=by
 unfold qP;rw[ay (by rw[lL ha hb];exact av _),gp (by omega),fe]
theorem aiq{a b:List Int}(ha:a.length=10)(hb:b.length=10)(hk:k≤10):(qP a b k).length=10:=by
 unfold qP;rw[au,bv,ft,lL ha hb,ha];omega
theorem aqx{a b:List Int}(ha:a.length=10)(hb:b.length=10){x:Int}(hk:k<10)(hx:a[k]? = some x):(qP a b k)[k]? = some x:=by
 unfold qP;rw[dw (by rw[bv];omega),bv,lL ha hb,ii (by omega),ov,di,jt];exact hx
theorem aor{a b:List Int}(ha:a.length=10)(hb:b.length=10){x y:Int}(hk:k<10)(hx:a[k]? = some x)(hy:b[k]? = some y):(qP a b k).set k (x+y)=qP a b (k+1):=by
 have h1:(Ei a b)[k]? = some (x+y):=by unfold Ei;rw[List.getElem?_zipWith,hx,hy]
 have h2:((Ei a b).take k).length=k:=by rw[bv,lL ha hb];omega
 unfold qP;rw[List.take_add_one,h1,List.set_append_right _ _ (by rw[h2];exact av _),h2,ov,Option.toList,dl]
 congr 1
 rw[eu (by omega:k<a.length)];rfl
/-! ### The pairs,in order -/
def eI(n:Nat):Nat:=[0,0,0,0,1,1,1,2,2,3].getD n 0
def eJ(n:Nat):Nat:=[0,1,2,3,1,2,3,2,3,3].getD n 0
theorem Yo{Q:Nat→Prop}(hn:n<10)(h0:Q 0)(h1:Q 1)(h2:Q 2)(h3:Q 3)(h4:Q 4)(h5:Q 5)(h6:Q 6)(h7:Q 7)(h8:Q 8)(h9:Q 9):Q n:=by
 rcases n with _ | _ | _ | _ | _ | _ | _ | _ | _ | _ | n
 all_goals first | assumption | omega
theorem air(hn:n<10):eI n<4:=Yo (Q:=fun n=>eI n<4) hn (by decide) (by decide) (by decide) (by decide) (by decide) (by decide) (by decide) (by decide) (by decide) (by decide)
theorem ais(hn:n<10):eJ n<4:=Yo (Q:=fun n=>eJ n<4) hn (by decide) (by decide) (by decide) (by decide) (by decide) (by decide) (by decide) (by decide) (by decide) (by decide)
def Vv(p:List Int)(n:Nat):Int:=p.getD (eI n) 0*p.getD (eJ n) 0
def qF(a b c d:Int)(n:Nat):List Int:=(qPr a b c d).take n++cu (10-n) 0
theorem aos(a b c d:Int)(hn:n≤10):(qF a b c d n).length=10:=by
 unfold qF;rw[au,bv,List.length_replicate,show (qPr a b c d).length=10 from rfl];omega
theorem ait{a b c d:Int}(hn:n<10):((qF a b c d n).set n (Vv [a,b,c,d] n)).set n (if eI n=eJ n then Vv [a,b,c,d] n else Vv [a,b,c,d] n*2)=qF a b c d (n+1):=by
 rw[List.set_set];refine Yo (Q:=fun n=>(qF a b c d n).set n (if eI n=eJ n then Vv [a,b,c,d] n else Vv [a,b,c,d] n*2)=qF a b c d (n+1)) hn ?_ ?_ ?_ ?_ ?_ ?_ ?_ ?_ ?_ ?_
 all_goals simp[qF,qPr,Vv,eI,eJ,pf]
theorem aqy(a b c d:Int):qF a b c d 10=qPr a b c d:=by unfold qF qPr;rfl
theorem am6(a b c d:Int)(hi:i<4):[a,b,c,d][i]? = some ([a,b,c,d].getD i 0):=by
 rcases i with _ | _ | _ | _ | i
 all_goals first | rfl | omega
theorem aqz{a b c d:Int}(h:Gf k [a,b,c,d]):Gf (k+k+2) (qPr a b c d):=fun x hx=>by
 have ha:=h a (by simp);have hb:=h b (by simp);have hc:=h c (by simp);have hd:=h d (by simp);have two:∀{x:Int},Bd (k+k) x→Bd (k+k+2) (2*x):=fun {x} hx=>by
  have h2:Bd 2 (2:Int):=by unfold Bd;decide
  rw[Nat.add_comm];exact h2.mul hx
 simp only[qPr,an,cg,or_false] at hx;rcases hx with rfl | rfl | rfl | rfl | rfl | rfl | rfl | rfl | rfl | rfl
 · exact (ha.mul ha).mono (by omega)
 · exact two (ha.mul hb)
 · exact two (ha.mul hc)
 · exact two (ha.mul hd)
 · exact (hb.mul hb).mono (by omega)
 · exact two (hb.mul hc)
 · exact two (hb.mul hd)
 · exact (hc.mul hc).mono (by omega)
 · exact two (hc.mul hd)
 · exact (hd.mul hd).mono (by omega)
/-! ### A quadric's value -/
def atS(q x:List Int):Nat→Int
 | 0=>0
 | n+1=>atS q x n+q.getD n 0*Vv x n
theorem Yp{q:List Int}(hq:q.length=10)(hn:n<10):q[n]? = some (q.getD n 0):=by
 rw[gz,am (by omega)];rfl
theorem aiu{q:List Int}(hq:q.length=10)(p:P3):atS q [p.x,p.y,p.z,1] 10=qAt q p:=by
 rcases q with _ | ⟨a,_ | ⟨b,_ | ⟨c,_ | ⟨d,_ | ⟨e,_ | ⟨f,_ | ⟨g,_ | ⟨h,_ | ⟨i,_ | ⟨j,_ | ⟨k,q⟩⟩⟩⟩⟩⟩⟩⟩⟩⟩⟩ <;> simp only[aw,bn] at hq <;> try omega
 simp only[atS,Vv,eI,eJ,qAt,aqv,List.getD_cons_zero,List.getD_cons_succ,List.getD_nil]
 grind
theorem acU{p:List Int}(h:Gf k p)(hl:p.length=4)(hn:n<10):Bd (k+k) (Vv p n):=by
 have key:∀i,i<4→Bd k (p.getD i 0):=fun i hi=>by
  rw[gz,am (by omega:i<p.length)];exact h _ (fq _)
 exact (key _ (air hn)).mul (key _ (ais hn))
theorem acV{k m:Nat}{q p:List Int}(hq:Gf k q)(hl:q.length=10)(hp:Gf m p)(hpl:p.length=4):∀n,n≤10→Bd (k+m+m+n) (atS q p n)
 | 0,_=>No _
 | n+1,hn=>by
  have h1:=acV hq hl hp hpl n (by omega);have h2:=(hq.at (Yp hl (by omega:n<10))).mul (acU hp hpl (by omega:n<10));exact (h1.add (h2.mono (by omega:k+(m+m)≤k+m+m+n))).mono (by omega)
theorem bd4{p:P3}(h:I3 p):Gf 64 [p.x,p.y,p.z,1]:=fun x hx=>by
 simp only[an,cg,or_false] at hx;rcases hx with rfl | rfl | rfl | rfl
 · exact h.x.bd
 · exact h.y.bd
 · exact h.z.bd
 · unfold Bd;decide
theorem aD:(∀P R w0 ds q s l is,V P R w0 ds none 0 [] q s l is=(q∧∀w,Mem w0 w is→Ct P R s .normal (Fz l ds) w))
 ∧ (∀P R w0 ds w1 q s l is,V P R w0 ds (some (false,w1)) 0 [] q s l is=(q∧∀w,Mem w0 w is→fQ w1 w→Ct P R s .normal (Fz l ds) w))∧(∀P R w0 ds w1 q s l is,V P R w0 ds (some (true,w1)) 0 [] q s l is=(q∧Ct P R s .normal (Fz l ds) w1))
 ∧ (∀P R w0 ds k sc q l is,V P R w0 ds none 0 (k::sc) q [] l is=(q∧∀w,Mem w0 w is→R .normal (Fz l ds) w))
 ∧ (∀P R w0 ds w1 k sc q l is,V P R w0 ds (some (false,w1)) 0 (k::sc) q [] l is=(q∧∀w,Mem w0 w is→fQ w1 w→R .normal (Fz l ds) w))∧(∀P R w0 ds w1 k sc q l is,V P R w0 ds (some (true,w1)) 0 (k::sc) q [] l is=(q∧R .normal (Fz l ds) w1))
 ∧ (∀P R w0 ds k sc q c s l is,V P R w0 ds none 0 (k::sc) q (.c c::s) l is=(q∧∀w,Mem w0 w is→c.wp P (Ct P R s) (Fz l ds) w))
 ∧ (∀P R w0 ds w1 k sc q c s l is,V P R w0 ds (some (false,w1)) 0 (k::sc) q (.c c::s) l is=(q∧∀w,Mem w0 w is→fQ w1 w→c.wp P (Ct P R s) (Fz l ds) w))∧(∀P R w0 ds w1 k sc q c s l is,V P R w0 ds (some (true,w1)) 0 (k::sc) q (.c c::s) l is=(q∧c.wp P (Ct P R s) (Fz l ds) w1))
 ∧ (∀P R w0 ds k sc q ops rest s l is,V P R w0 ds none 0 (k::sc) q (.o ops rest::s) l is=(q∧∀w,Mem w0 w is→ar P ops (Ct P R s) rest (Fz l ds) w))
 ∧ (∀P R w0 ds w1 k sc q ops rest s l is,V P R w0 ds (some (false,w1)) 0 (k::sc) q (.o ops rest::s) l is=(q∧∀w,Mem w0 w is→fQ w1 w→ar P ops (Ct P R s) rest (Fz l ds) w))∧(∀P R w0 ds w1 k sc q ops rest s l is,V P R w0 ds (some (true,w1)) 0 (k::sc) q (.o ops rest::s) l is=(q∧ar P ops (Ct P R s) rest (Fz l ds) w1))
 ∧ (∀P R w0 ds k sc q K s l is,V P R w0 ds none 0 (k::sc) q (.k K::s) l is=(q∧∀w,Mem w0 w is→K (Fz l ds) w))
 ∧ (∀P R w0 ds w1 k sc q K s l is,V P R w0 ds (some (false,w1)) 0 (k::sc) q (.k K::s) l is=(q∧∀w,Mem w0 w is→fQ w1 w→K (Fz l ds) w))∧(∀P R w0 ds w1 k sc q K s l is,V P R w0 ds (some (true,w1)) 0 (k::sc) q (.k K::s) l is=(q∧K (Fz l ds) w1))
 ∧ (∀P R w0 ds os n sc q i s l is,V P R w0 ds os (n+1) sc q (.b i::s) l is=V P R w0 ds os n sc q s l is)
 ∧ (∀P R w0 ds os n sc q ops s l is,V P R w0 ds os (n+1) sc q (.o ops []::s) l is=V P R w0 ds os n sc q s l is)
 ∧ (∀P R w0 ds os n sc q ops d op ty pos af g rest s l is,V P R w0 ds os (n+1) sc q (.o ops (⟨some d,op,ty,pos,af,g⟩::rest)::s) l is=Qe ops l g (Ez P l is [] (kpb os) op sc fun vc v sc is=>V P R w0 ds os n sc (vc∧q) (.o ops rest::s) (l.set d v) is) (V P R w0 ds os n sc q (.o ops rest::s) (l.set d undef) is))
 ∧ (∀P R w0 ds os n sc q ops op ty pos af g rest s l is,V P R w0 ds os (n+1) sc q (.o ops (⟨none,op,ty,pos,af,g⟩::rest)::s) l is=Qe ops l g (stV P l is os.isSome op sc fun vc _ sc is=>V P R w0 ds os n sc (vc∧q) (.o ops rest::s) l is) (V P R w0 ds os n sc q (.o ops rest::s) l is))
 ∧ (∀P R w0 ds os n sc q a b s l is,V P R w0 ds os (n+1) sc q (.c (.seq a b)::s) l is=V P R w0 ds os n sc q (.c a :: .c b::s) l is)
 ∧ (∀P R w0 ds os n sc q s l is,V P R w0 ds os (n+1) sc q (.c .skip::s) l is=V P R w0 ds os n sc q s l is)
 ∧ (∀P R w0 ds os n sc q i c s l is,V P R w0 ds os (n+1) sc q (.c (.block i c)::s) l is=V P R w0 ds os n sc q (.c c :: .b i::s) l is)
 ∧ (∀P R w0 ds os n sc q i s l is,V P R w0 ds os (n+1) sc q (.c (.exit i)::s) l is=Td i s fun s=>V P R w0 ds os n sc q s l is)
 ∧ (∀P R w0 ds n sc q s l is,V P R w0 ds none (n+1) sc q (.c .ret::s) l is=(q∧∀w,Mem w0 w is→R .ret (Fz l ds) w))∧(∀P R w0 ds w1 n sc q s l is,V P R w0 ds (some (false,w1)) (n+1) sc q (.c .ret::s) l is=(q∧∀w,Mem w0 w is→fQ w1 w→R .ret (Fz l ds) w))∧(∀P R w0 ds w1 n sc q s l is,V P R w0 ds (some (true,w1)) (n+1) sc q (.c .ret::s) l is=(q∧R .ret (Fz l ds) w1))
 ∧ (∀P R w0 ds os n sc q x a b s l is,V P R w0 ds os (n+1) sc q (.c (.cond x a b)::s) l is=vvB (ev l x) fun t=>vbX t (V P R w0 ds os n sc q (.c a::s) l is) (V P R w0 ds os n sc q (.c b::s) l is))
 ∧ (∀P R w0 ds os n sc q i ops s l is,V P R w0 ds os (n+1) sc q (.c (.region i (jo ops) false)::s) l is=V P R w0 ds os n sc q (.o ops.toArray ops::s) l is)
 ∧ (∀ops l p q,Qe ops l none p q=p)∧(∀ops l j b p q,Qe (jo ops) l (some (j,b)) p q=vvG (vyv ops l j) b p q)
 ∧ (∀o ops l j,vyv (o::ops) l (j+1)=vyv ops l j)∧(∀d op ty pos af g ops l,vyv (⟨some d,op,ty,pos,af,g⟩::ops) l 0=l.getD d undef)
 ∧ (∀p q,vvG (.bool true) true p q=p)∧(∀p q,vvG (.bool false) true p q=q)∧(∀p q,vvG (.bool true) false p q=q)∧(∀p q,vvG (.bool false) false p q=p)∧(∀b p q,vvG undef b p q=q)
 ∧ (∀i s f,Td i (.b i::s) f=f s)∧(∀i j s f,Td i (.b j::s) f=vnE i j (f s) (Td i s f))∧(∀i c s f,Td i (.c c::s) f=Td i s f)∧(∀i ops rest s f,Td i (.o ops rest::s) f=Td i s f)∧(∀i K s f,Td i (.k K::s) f=Td i s f)∧(∀i c n s f,Td i (.r c n::s) f=Td i s f)
 ∧ (∀P R w0 ds os n sc q c k s l is,V P R w0 ds os (n+1) (k::sc) q (.c (.loop c)::s) l is=V P R w0 ds os n sc q (.r c k::s) l is)∧(∀P R w0 ds os n sc q c k s l is,V P R w0 ds os (n+1) sc q (.r c (k+1)::s) l is=V P R w0 ds os n sc q (.c c :: .r c k::s) l is)
 ∧ (∀p q,vnE 0 0 p q=p)∧(∀n m p q,vnE (n+1) (m+1) p q=vnE n m p q)∧(∀n p q,vnE (n+1) 0 p q=q)∧(∀n p q,vnE 0 (n+1) p q=q)
 ∧ (∀k m f,rJ (.int k m) f=f k m)∧(∀b f,vvB (.bool b) f=f b)∧(∀a f,vvP (.pointer (some a)) f=f a)∧(∀a n c f,vvS (.slice a n c) f=f a n c)∧(∀cs f,vvA (.agg (jo cs)) f=f cs)∧(∀cs f,vvT (.tuple (jo cs)) f=f cs)
 ∧ (∀p q,vbX true p q=p)∧(∀p q,vbX false p q=q)∧(∀n p,vnX (n+1) p=p)
 ∧ (∀x l f,Kq (x::l) 0 f=f x)∧(∀x l n f,Kq (x::l) (n+1) f=Kq l n f)
 ∧ (∀P l is os pr x sc K,Ez P l is os pr (.move x) sc K=K True (ev l x) sc is)
 ∧ (∀P l is os pr x sc K,Ez P l is os pr (.assign x) sc K=K True (ev l x) sc is)
 ∧ (∀P l is os pr x sc K,Ez P l is os pr (.nilCheck x) sc K=vvP (ev l x) fun a=>K True (.pointer (some a)) sc is)
 ∧ (∀P l is os pr c x y sc K,Ez P l is os pr (.pick c x y) sc K=vvB (ev l c) fun b=>vbX b (K True (ev l x) sc is) (K True (ev l y) sc is))
 ∧ (∀P l is os pr b T x y T' sc K,Ez P l is os pr (.binOp b T x y T') sc K=biV b (ev l x) (ev l y) sc is K)
 ∧ (∀P l is os pr T x sc K,Ez P l is os pr (.unOp .not T x) sc K=vvB (ev l x) fun b=>K True (.bool (!b)) sc is)
 ∧ (∀P l is os pr T x sc K,Ez P l is os pr (.unOp .neg T x) sc K=rJ (ev l x) fun k m=>K (InR k (0-m)) (.int k (0-m)) sc is)
 ∧ (∀P l is os pr T T' x sc K,Ez P l is os pr (.convert T T' x) sc K=Au (ikP P T) fun _=>Au (ikP P T') fun k=>rJ (ev l x) fun _ m=>K (InR k m) (.int k m) sc is)
 ∧ (∀P l is os pr x i sc K,Ez P l is os pr (.extract x i) sc K=vvT (ev l x) fun cs=>Kq cs i fun v=>K True v sc is)
 ∧ (∀P l is os pr b xs ts sc K,Ez P l is os pr (.call ⟨.builtin b,jo xs,jo ts⟩) sc K=caV P l is b xs ts sc K)
 ∧ (∀P l is x T sc K,caV P l is .len [x] [T] sc K=Au (Fv P T) fun _=>vvS (ev l x) fun _ n _=>K True (.int .i64 n) sc is)
 ∧ (∀P l is x y ts sc K,caV P l is .min [x,y] ts sc K=rJ (ev l x) fun k m=>rJ (ev l y) fun k' n=>K (k'=k) (.int k (if n<m then n else m)) sc is)
 ∧ (∀P l is x y ts sc K,caV P l is .max [x,y] ts sc K=rJ (ev l x) fun k m=>rJ (ev l y) fun k' n=>K (k'=k) (.int k (if m<n then n else m)) sc is)
 ∧ (∀x y sc is K,biV .add x y sc is K=rJ x fun k m=>rJ y fun k' n=>K (k'=k∧InR k (m+n)) (.int k (m+n)) sc is)
 ∧ (∀x y sc is K,biV .sub x y sc is K=rJ x fun k m=>rJ y fun k' n=>K (k'=k∧InR k (m-n)) (.int k (m-n)) sc is)
 ∧ (∀x y sc is K,biV .mul x y sc is K=rJ x fun k m=>rJ y fun k' n=>K (k'=k∧InR k (m*n)) (.int k (m*n)) sc is)
 ∧ (∀x y sc is K,biV .lss x y sc is K=rJ x fun k m=>rJ y fun k' n=>cV sc (m<n) (fun p=>K (k'=k∧p)) is)
 ∧ (∀x y sc is K,biV .leq x y sc is K=rJ x fun k m=>rJ y fun k' n=>cV sc (m≤n) (fun p=>K (k'=k∧p)) is)
 ∧ (∀x y sc is K,biV .gtr x y sc is K=rJ x fun k m=>rJ y fun k' n=>cV sc (n<m) (fun p=>K (k'=k∧p)) is)
 ∧ (∀x y sc is K,biV .geq x y sc is K=rJ x fun k m=>rJ y fun k' n=>cV sc (n≤m) (fun p=>K (k'=k∧p)) is)
 ∧ (∀x y sc is K,biV .eql x y sc is K=rJ x fun k m=>rJ y fun k' n=>cV sc (m=n) (fun p=>K (k'=k∧p)) is)
 ∧ (∀x y sc is K,biV .neq x y sc is K=rJ x fun k m=>rJ y fun k' n=>cV sc (m≠n) (fun p=>K (k'=k∧p)) is)
 ∧ (∀sc p K is [Decidable p],cV (0::sc) p K is=K True (.bool (decide p)) sc is)∧(∀sc p K is [Decidable p],cV (1::sc) p K is=K p (.bool true) sc is)∧(∀sc p K is [Decidable p],cV (2::sc) p K is=K (¬p) (.bool false) sc is)
 ∧ (∀n,InR .i64 n=(-9223372036854775808≤n∧n<9223372036854775808))∧(∀n,InR .i32 n=(-2147483648≤n∧n<2147483648))∧(∀n,InR .u64 n=(0≤n∧n<18446744073709551616))∧(∀n,InR .u32 n=(0≤n∧n<4294967296))∧(∀n,InR .u8 n=(0≤n∧n<256))
 ∧ (∀{α:Type} (hd:α→Option Oper) P is os ops K q rest l,VQ hd P is os ops K 0 [] q rest l=(q∧K rest l))∧(∀P is os ops K n sc q d op ty pos af g rest l,VQ some P is os ops K (n+1) sc q (⟨some d,op,ty,pos,af,g⟩::rest) l=Qe ops l g (Ez P l is os true op sc fun vc v sc _=>VQ some P is os ops K n sc (vc∧q) rest (l.set d v)) (VQ some P is os ops K n sc q rest (l.set d undef)))
 ∧ (∀P is os ops K n sc q d op ty pos af g rest l,VQ hdH P is os ops K (n+1) sc q ((⟨some d,op,ty,pos,af,g⟩,true)::rest) l=Qe ops l g (Ez P l is os true op sc fun vc v sc _=>VQ hdH P is os ops K n sc (vc∧q) rest (l.set d v)) (VQ hdH P is os ops K n sc q rest (l.set d undef)))
 ∧ (∀(w:Bool × aj),(some w).isSome=true)∧((none:Kw).isSome=false)∧(∀b w,kpb (some (b,w))=b)∧(kpb none=false)
 ∧ (∀{α:Type} (x:α) f,Au (some x) f=f x)∧(∀l ds,Fz l ds=Fr l ds)
 ∧ (∀p:Prop,(True∧p)=p)∧(∀p:Prop,(p∧True)=p)
 ∧ (∀(l:List Go.Value) (t:Nat),ev l (.tmp t)=l.getD t undef)∧(∀(l:List Go.Value) (v:Go.Value),ev l (.const v)=v)∧(∀(l:List Go.Value) (f:Nat),ev l (.func f)=.func (.func f) #[] #[])∧(∀{α:Type} (x:α) (xs:List α) (n:Nat) (d:α),(x::xs).getD (n+1) d=xs.getD n d)∧(∀{α:Type} (x:α) (xs:List α) (d:α),(x::xs).getD 0 d=x)∧(∀{α:Type} (x:α) (xs:List α) (n:Nat) (a:α),(x::xs).set (n+1) a=x::xs.set n a)∧(∀{α:Type} (x:α) (xs:List α) (a:α),(x::xs).set 0 a=a::xs)
 ∧ (∀P l is os pr T x i sc K,Ez P l is os pr (.fieldAddr T x i) sc K=Au (nR P T i) fun f=>vvP (ev l x) fun a=>vnX f.2.2 (K True (.pointer (some (a.add f.1))) sc is))
 ∧ (∀P l is os pr T x i sc K,Ez P l is os pr (.field T x i) sc K=Au (nR P T i) fun f=>vvA (ev l x) fun cs=>vbX f.2.1 (K True (.agg ((cs.drop f.1).take f.2.2).toArray) sc is) (Kq cs f.1 fun v=>K True v sc is))
 ∧ (∀P l is os pr T x k sc K,Ez P l is os pr (.load T x) (k::sc) K=Au (tT P T) fun z=>vvP (ev l x) fun a=>atB is os k fun g=>vbX z.1 (K (a=⟨g.1,a.off,none⟩∧Fu ((g.2.1.drop a.off).take z.2) z.2) (.agg ((g.2.1.drop a.off).take z.2).toArray) sc is) (Kq g.2.1 a.off fun v=>K (a=⟨g.1,a.off,none⟩) v sc is))
 ∧ (∀P l is os pr T ps sc K,Ez P l is os pr (.build T (jo ps)) sc K=Au (xA P T) fun z=>blV l z.1 ps z.2 True fun q cs=>K q (.agg cs.toArray) sc is)
 ∧ (∀l pl cs q f,blV l pl [] cs q f=f q cs)∧(∀l pl i x ps cs q f,blV l pl ((i,x)::ps) cs q f=Xz pl i fun z=>vnX z.2 (blV l pl ps (over cs z.1 (ev l x).cells.toList) (Fu (ev l x).cells.toList z.2∧Fu ((cs.drop z.1).take z.2) z.2∧q) f))
 ∧ (∀x l f,Xz (x::l) 0 f=f x)∧(∀x l n f,Xz (x::l) (n+1) f=Xz l n f)
 ∧ (∀P l is os T x sc K,Ez P l is os false (.box T x) sc K=∀g,K True (.pointer (some ⟨g,0,none⟩)) sc (bI g (ev l x).cells.toList T::is))
 ∧ (∀P l is os T sc K,Ez P l is os false (.alloc T) sc K=Au (Kr P T) fun z=>∀g,K True (.pointer (some ⟨g,0,none⟩)) sc (bI g z T::is))
 ∧ (∀P l is T x y k sc K,stV P l is false (.store T x y) (k::sc) K=Au (tT P T) fun z=>vnX z.2 (vvP (ev l x) fun a=>atM is k fun g=>K (a=⟨g.1,a.off,none⟩∧Fu ((g.2.1.drop a.off).take z.2) z.2∧Fu (ev l y).cells.toList z.2∧Xx (ev l y).cells.toList) undef sc (is.set k (bI g.1 (over g.2.1 a.off (ev l y).cells.toList) g.2.2))))
 ∧ (∀P l is os pr T x y sc K,Ez P l is os pr (.indexAddr T x y) sc K=Au (ixP P T) fun z=>vvX z.1 (ev l x) fun a n=>rJ (ev l y) fun _ m=>K (0≤m∧m<n) (.pointer (some (a.add (m.toNat*z.2)))) sc is)
 ∧ (∀n v f,vvX (some n) v f=vvP v fun a=>f a n)∧(∀v f,vvX none v f=vvS v fun A n _=>Au A fun a=>f a n)
 ∧ (∀bs i is,pT (true::bs) (i::is)=i::pT bs is)∧(∀bs i is,pT (false::bs) (i::is)=pT bs is)∧(∀is,pT [] is=[])
 ∧ (∀i is os f,atB (i::is) os 0 f=Au i.bk f)∧(∀i is os k f,atB (i::is) os (k+1) f=atB is os k f)∧(∀os k f,atB [] os k f=atO os k f)∧(∀x os f,atO (x::os) 0 f=f x)∧(∀x os k f,atO (x::os) (k+1) f=atO os k f)
 ∧ (∀i is f,atM (i::is) 0 f=Au i.bk f)∧(∀i is k f,atM (i::is) (k+1) f=atM is k f)∧(∀g cs t,(bI g cs t).bk=some (g,cs,t))
 ∧ (∀x l n,Fu (x::l) (n+1)=Fu l n)∧(Fu [] 0=True)∧(∀v l,Xx (v::l)=(v.oneCell'=true∧Xx l))∧(Xx []=True)
 ∧ (∀g n,(⟨g,0,none⟩:Addr).add n=⟨g,n,none⟩)∧(∀g o n,(⟨g,o,none⟩:Addr).add n=⟨g,o+n,none⟩)
 ∧ (∀cs o us,over cs o us=cs.take o++us++cs.drop (o+us.length))
 ∧ (∀cs,(Value.agg (jo cs)).cells.toList=cs)∧(∀k n,(lx k n).cells.toList=[.int k n])∧(∀b,(Value.bool b).cells.toList=[.bool b])∧(∀b,(Value.string b).cells.toList=[.string b])∧(∀a,(Value.pointer a).cells.toList=[.pointer a])∧(∀a n c,(Value.slice a n c).cells.toList=[.slice a n c])∧(∀a,(Value.map a).cells.toList=[.map a])∧(∀a b c,(Value.func a b c).cells.toList=[.func a b c])
 ∧ (∀k n,(lx k n).oneCell'=true)∧(∀b,(Value.bool b).oneCell'=true)∧(∀b,(Value.string b).oneCell'=true)∧(∀a,(Value.pointer a).oneCell'=true)∧(∀a n c,(Value.slice a n c).oneCell'=true)∧(∀a,(Value.map a).oneCell'=true)∧(∀a b c,(Value.func a b c).oneCell'=true)
 ∧ (∀{α:Type} (x:α) (xs:List α) (n:Nat),(x::xs).take (n+1)=x::xs.take n)∧(∀{α:Type} (xs:List α),xs.take 0=[])∧(∀{α:Type} (x:α) (xs:List α) (n:Nat),(x::xs).drop (n+1)=xs.drop n)∧(∀{α:Type} (xs:List α),xs.drop 0=xs)∧(∀{α:Type} (n:Nat),([]:List α).drop n=[])∧(∀{α:Type} (x:α) (xs ys:List α),(x::xs)++ys=x::(xs++ys))∧(∀{α:Type} (ys:List α),[]++ys=ys)∧(∀{α:Type} (ys:List α),ys++[]=ys)∧(∀{α:Type} (x:α) (xs:List α),(x::xs).length=xs.length+1)∧(∀{α:Type},([]:List α).length=0)
 ∧ (∀p:P3,(pt p).cells.toList=[.int .i64 p.x,.int .i64 p.y,.int .i64 p.z])∧(∀p f,vvA (pt p) f=f [.int .i64 p.x,.int .i64 p.y,.int .i64 p.z])
 ∧ (∀t:T3,(tr t).cells.toList=[.int .i64 t.a.x,.int .i64 t.a.y,.int .i64 t.a.z,.int .i64 t.b.x,.int .i64 t.b.y,.int .i64 t.b.z,.int .i64 t.c.x,.int .i64 t.c.y,.int .i64 t.c.z])∧(∀t f,vvA (tr t) f=f [.int .i64 t.a.x,.int .i64 t.a.y,.int .i64 t.a.z,.int .i64 t.b.x,.int .i64 t.b.y,.int .i64 t.b.z,.int .i64 t.c.x,.int .i64 t.c.y,.int .i64 t.c.z])
 ∧ (∀v:P3,(wv v).cells.toList=[.bool (fY v.x),.string (kK v.x),.bool (fY v.y),.string (kK v.y),.bool (fY v.z),.string (kK v.z)])∧(∀v f,vvA (wv v) f=f [.bool (fY v.x),.string (kK v.x),.bool (fY v.y),.string (kK v.y),.bool (fY v.z),.string (kK v.z)])
 ∧ (∀v:P3,(nv v).cells.toList=[.int .i64 v.x,.int .i64 v.y,.int .i64 v.z])∧(∀v f,vvA (nv v) f=f [.int .i64 v.x,.int .i64 v.y,.int .i64 v.z])
 ∧ (∀v:P3,(sg v).cells.toList=[.int .i64 (bB v.x),.int .i64 (bB v.y),.int .i64 (bB v.z)])∧(∀v f,vvA (sg v) f=f [.int .i64 (bB v.x),.int .i64 (bB v.y),.int .i64 (bB v.z)])
 ∧ (∀e:E3,(ed e).cells.toList=[.int .i64 e.1.x,.int .i64 e.1.y,.int .i64 e.1.z,.int .i64 e.2.x,.int .i64 e.2.y,.int .i64 e.2.z])∧(∀e f,vvA (ed e) f=f [.int .i64 e.1.x,.int .i64 e.1.y,.int .i64 e.1.z,.int .i64 e.2.x,.int .i64 e.2.y,.int .i64 e.2.z])
 ∧ (∀p,lB p=[.int .i64 p.x,.int .i64 p.y,.int .i64 p.z])∧(∀p,bO p=[.int .i64 p.x,.int .i64 p.y,.int .i64 p.z])∧(∀e,cY e=[.int .i64 e.1.x,.int .i64 e.1.y,.int .i64 e.1.z,.int .i64 e.2.x,.int .i64 e.2.y,.int .i64 e.2.z])∧(∀n,wC n=[.bool (fY n),.string (kK n)])
 ∧ (∀n,(W n).cells.toList=[.bool (fY n),.string (kK n)])∧(∀n f,vvA (W n) f=f [.bool (fY n),.string (kK n)])
 ∧ (∀q:Rat,(Q q).cells.toList=[.bool (fY q.num),.string (kK q.num),.bool (fY (q.den:Int)),.string (kK (q.den:Int))])∧(∀q f,vvA (Q q) f=f [.bool (fY q.num),.string (kK q.num),.bool (fY (q.den:Int)),.string (kK (q.den:Int))]):=by
 repeat' apply And.intro
 all_goals intros
 all_goals first | rfl | exact aqp | exact true_and _ | exact and_true _ | exact kp0 | exact kp1 | exact List.drop_nil | exact fe _ | exact (eL ..).trans (by rw[aq]) | exact eL ..
def Ej:List Oper→Nat→(Oper→Prop)→Prop
 | o::_,0,f=>f o
 | _::r,n+1,f=>Ej r n f
 | [],_,_=>False
def Ci:List (List Nat)→Nat→(List Nat→Prop)→Prop
 | s::_,0,f=>f s
 | _::r,n+1,f=>Ci r n f
 | [],_,f=>f []
theorem vR:∀{ss:List (List Nat)} {i:Nat} {f:List Nat→Prop},Ci ss i f→∃s,f s
 | s::_,0,_,h=>⟨s,h⟩
 | _::r,n+1,_,h=>vR (ss:=r) h
 | [],_,_,h=>⟨[],h⟩
def Vw(op:Op)(bs:List Bool):List Bool:=match op with
 | .box _ _ | .alloc _=>false::bs
 | _=>bs
def Re:List Bool→Nat→Prop→Prop
 | false::_,0,p=>p
 | _::bs,n+1,p=>Re bs n p
 | _,_,_=>False
def tkV(P:bp)(ops:Array Oper)(l:List ai)(hs:List It)(o:Oper)(sc:List Nat)(q:Prop)(K:List Nat→Prop→List ai→Prop):Prop:=match o with
 | ⟨some d,op,_,_,_,g⟩=>Qe ops l g (Ez P l hs [] true op sc fun vc v sc _=>K sc (vc∧q) (l.set d v)) (K sc q (l.set d undef))
 | _=>False
def onV(P:bp)(ops:Array Oper)(l:List ai)(is:List It)(bs:List Bool)(o:Oper)(sc:List Nat)(q:Prop)(K:List Nat→Prop→List ai→List It→List Bool→Prop):Prop:=match o with
 | ⟨some d,op,_,_,_,g⟩=>Qe ops l g (Ez P l is [] false op sc fun vc v sc is'=>K sc (vc∧q) (l.set d v) is' (Vw op bs)) (K sc q (l.set d undef) is bs)
 | ⟨none,op,_,_,_,g⟩=>Qe ops l g (Re bs (sc.headD 0) (stV P l is false op sc fun vc _ sc is'=>K sc (vc∧q) l is' bs)) (K sc q l is bs)
def VT(P:bp)(ops:Array Oper)(hs:List It)(ss:List (List Nat))(K:List ai→List It→Prop):qJ→Prop→List ai→List It→List Bool→Prop
 | .nil,q,l,is,_=>q∧K l is
 | .take i t,q,l,is,bs=>Ej ops.toList i fun o=>Ci ss i fun sc=>tkV P ops l hs o sc q fun _ q l=>VT P ops hs ss K t q l is bs
 | .one i t,q,l,is,bs=>Ej ops.toList i fun o=>Ci ss i fun sc=>onV P ops l is bs o sc q fun _ q l is bs=>VT P ops hs ss K t q l is bs
 | .two i t j u,q,l,is,bs=>(Ej ops.toList i fun o=>Ci ss i fun sc=>onV P ops l is bs o sc q fun _ q l is bs=>VT P ops hs ss K t q l is bs)∧Ej ops.toList j fun o=>Ci ss j fun sc=>onV P ops l is bs o sc q fun _ q l is bs=>VT P ops hs ss K u q l is bs
 | .three i t j u k v,q,l,is,bs=>(Ej ops.toList i fun o=>Ci ss i fun sc=>onV P ops l is bs o sc q fun _ q l is bs=>VT P ops hs ss K t q l is bs)∧(Ej ops.toList j fun o=>Ci ss j fun sc=>onV P ops l is bs o sc q fun _ q l is bs=>VT P ops hs ss K u q l is bs)∧Ej ops.toList k fun o=>Ci ss k fun sc=>onV P ops l is bs o sc q fun _ q l is bs=>VT P ops hs ss K v q l is bs
theorem vS:∀{ops:List Oper} {i:Nat} {f:Oper→Prop},Ej ops i f→∃o,ops[i]? = some o∧f o
 | o::_,0,_,h=>⟨o,rfl,h⟩
 | _::r,n+1,_,h=>by rw[gw];exact vS (ops:=r) h
theorem Yq:∀{bs:List Bool} {k:Nat} {p:Prop},Re bs k p→bs[k]? = some false∧p
 | false::_,0,_,h=>⟨rfl,h⟩
 | true::_,0,_,h=>h.elim
 | false::bs,n+1,_,h=>by rw[gw];exact Yq (bs:=bs) h
 | true::bs,n+1,_,h=>by rw[gw];exact Yq (bs:=bs) h
 | [],0,_,h=>h.elim
 | [],_+1,_,h=>h.elim
theorem Rf:∀{bs:List Bool} {is:List It} {k:Nat} {i:It},bs[k]? = some false→pT bs (is.set k i)=pT bs is
 | false::bs,_::is,0,_,_=>rfl
 | true::bs,_::is,0,_,h=>by cases h
 | true::bs,j::is,k+1,i,h=>by
  rw[fy];show j::pT bs (is.set k i)=j::pT bs is
  rw[Rf (by simpa using h)]
 | false::bs,j::is,k+1,i,h=>by
  rw[fy];show pT bs (is.set k i)=pT bs is
  exact Rf (by simpa using h)
 | _,[],k,i,_=>by rw[List.set_nil]
 | [],_::_,_,_,h=>by cases h
section
variable {P:bp} {w0:aj} {ds:List dx} {ops:Array Oper} {hs:List It} {K:List ai→List It→Prop} {Q:Exit→Act→aj→Prop}
theorem aot{p:Prop}(h:n=m+1)(hp:p):vnX n p:=by subst h;exact hp
theorem aou{l:List ai}{is:List It}{sc:List Nat}{K:KV}(h:stV P l is false op sc K):∃i',stV P l is false op sc (fun vc v sc' is'=>is'=is.set (sc.headD 0) i'∧K vc v sc' is'):=by
 unfold stV at h ⊢;split at h
 · rename_i T x y k sc
   obtain⟨z,hz,h⟩:=oP (show Au _ _ from h);obtain⟨n,hn,h⟩:=Ya h;obtain⟨a,hx,h⟩:=Ks h;obtain⟨i,g,hi,hb,h⟩:=acy h;refine⟨bI g.1 (over g.2.1 a.off (ev l y).cells.toList) g.2.2,?_⟩;refine (show Au (tT P T) _ from ?_);rw[hz];refine (show vnX z.2 _ from aot hn ?_);rw[hx];refine (show atM is k _ from ?_);have key:∀{is:List It} {k:Nat} {f:Ob→Prop},is[k]? = some i→f g→atM is k f:=by
    intro is
    induction is with
    | nil=>intro k f h;cases h
    | cons j is ih =>
     intro k f h hf;cases k with
     | zero=>cases h;show Au i.bk f;rw[hb];exact hf
     | succ k=>exact ih (by simpa using h) hf
   exact key hi ⟨O,h⟩
 · exact h.elim
theorem aov{l:List ai}{is:List It}{os:List Ob}{sc:List Nat}{K:KV}(h:Ez P l is os false op sc K):(∃cs T,(∀g,K True (.pointer (some ⟨g,0,none⟩)) sc (bI g cs T::is))∧Bx P l is w0 ds op cs T∧∀bs,Vw op bs=false::bs)∨(Ez P l is os true op sc K∧∀bs,Vw op bs=bs):=by
 cases op
 case box T x=>exact .inl ⟨_,_,h,fun d ty pos af ops Q rest w m hk=>agO (by simp) fun u g e hg hB=>hk g u e (m.newB e hg hB),fun _=>rfl⟩
 case alloc T =>
  obtain⟨cs,hz,h⟩:=oP (show Au _ _ from h);obtain⟨z,h1,h2⟩:=Xy hz;exact .inl ⟨_,_,h,fun d ty pos af ops Q rest w m hk=>Cz h1 h2 fun u g e hg hB=>hk g u e (m.newB e hg hB),fun _=>rfl⟩
 case unOp u T x=>cases u <;> exact .inr ⟨h,fun _=>rfl⟩
 all_goals exact .inr ⟨h,fun _=>rfl⟩
theorem Ld{l:List ai}{is:List It}{bs:List Bool}{o:Oper}{i:Nat}{t:qJ}{sc:List Nat}{q:Prop}{G:List Nat→Prop→List ai→List It→List Bool→Prop}(hsel:pT bs is=hs)(ho:ops.toList[i]? = some o)(h:onV P ops l is bs o sc q G)
 (ih:∀sc q l is bs,pT bs is=hs→G sc q l is bs→q∧∀w,Mem w0 w is→cO P ops (fun u=>Mem w0 u hs) Q t (Fr l ds) w) :
 q∧∀w,Mem w0 w is→ar P ops (Exit.then (fun a w=>Mem w0 w hs∧cO P ops (fun u=>Mem w0 u hs) Q t a w) Q) [(ops[i]?).getD default] (Fr l ds) w:=by
 have ho':(ops[i]?).getD default=o:=by
  rw[←fu,ho];rfl
 rw[ho'];have stay:∀{bs':List Bool} {is':List It} {w:aj},pT bs' is'=hs→Mem w0 w is'→Mem w0 w hs:=fun e m=>e▸m.sel _;obtain⟨d,op,ty,pos,af,g⟩:=o;cases d with
 | some d =>
  rcases Kt (show Qe _ _ _ _ _ from h) with ⟨h,hw⟩ | ⟨h,hw⟩
  · rcases aov (w0:=w0) (ds:=ds) h with ⟨cs,T,h,hb,hn⟩ | ⟨h,hn⟩
    · rw[hn] at h
      have e:∀g,pT (false::bs) (bI g cs T::is)=hs:=fun _=>hsel;exact⟨(ih _ _ _ _ _ (e 0) (h 0)).1.2,fun w m=>oZ (hw _ _ _ _ _) (hb d ty pos af ops _ [] w m fun g u _ mu=>aM ⟨stay (e g) mu,(ih _ _ _ _ _ (e g) (h g)).2 u mu⟩)⟩
    · rcases Yc (ds:=ds) aaK h with ⟨vc,v,sc',h,hy⟩ | ⟨e,_⟩
      · rw[hn] at h
        obtain⟨⟨hv,hq⟩,hk⟩:=ih _ _ _ _ _ hsel h;exact⟨hq,fun w m=>oZ (hw _ _ _ _ _) (fO (hy hv w m ty) (aM ⟨stay hsel m,hk w m⟩))⟩
      · cases e
  · obtain⟨hq,hk⟩:=ih _ _ _ _ _ hsel h
    exact⟨hq,fun w m=>vK (hw _ _ _ _ _) (by rw[iN];exact aM ⟨stay hsel m,hk w m⟩)⟩
 | none =>
  rcases Kt (show Qe _ _ _ _ _ from h) with ⟨h,hw⟩ | ⟨h,hw⟩
  · obtain⟨hb,h⟩:=Yq h
    obtain⟨i',h⟩:=aou h;obtain⟨_,vc,sc',is',⟨rfl,h⟩,hy⟩:=ahS (w0:=w0) (ds:=ds) h;have e:=(Rf (i:=i') (is:=is) hb).trans hsel;obtain⟨⟨hv,hq⟩,hk⟩:=ih _ _ _ _ _ e h;exact⟨hq,fun w m=>oZ (hw _ _ _ _ _) (hy hv ty pos af ops _ [] w m fun u mu=>aM ⟨stay e mu,hk u mu⟩)⟩
  · obtain⟨hq,hk⟩:=ih _ _ _ _ _ hsel h
    exact⟨hq,fun w m=>vK (hw _ _ _ _ _) (aM ⟨stay hsel m,hk w m⟩)⟩
theorem Ik{ss:List (List Nat)}(hK:∀l is,K l is→∀w,Mem w0 w is→Q .normal (Fr l ds) w):∀(t:qJ) (q:Prop) (l:List ai) (is:List It) (bs:List Bool),pT bs is=hs→VT P ops hs ss K t q l is bs→q∧∀w,Mem w0 w is→cO P ops (fun u=>Mem w0 u hs) Q t (Fr l ds) w
 | .nil,q,l,is,bs,_,h=>⟨h.1,fun w m=>hK _ _ h.2 w m⟩
 | .take i t,q,l,is,bs,hsel,h=>by
  obtain⟨⟨d,op,ty,pos,af,g⟩,ho,h⟩:=vS h;obtain⟨sc,h⟩:=vR h;have ho':(ops[i]?).getD default=⟨d,op,ty,pos,af,g⟩:=by
   rw[←fu,ho];rfl
  cases d with
  | none=>exact h.elim
  | some d =>
   rcases Kt (show Qe _ _ _ _ _ from h) with ⟨h,hw⟩ | ⟨h,hw⟩
   · rcases Yc (w0:=w0) (ds:=ds) aaK h with ⟨vc,v,sc',h,hy⟩ | ⟨e,_⟩
     · obtain⟨⟨hv,hq⟩,hk⟩:=Ik hK t _ _ _ _ hsel h
       refine⟨hq,fun w m=>eP ho' ?_⟩;refine⟨v,.inl ⟨hw _ _ _ _ _,fun u mu=>hy hv u mu ty _ O O⟩,?_⟩;show cO P ops _ Q t ((Fr l ds).put (some d) v) w
       rw[iN];exact hk w m
     · cases e
   · obtain⟨hq,hk⟩:=Ik hK t _ _ _ _ hsel h
     refine⟨hq,fun w m=>eP ho' ?_⟩;refine⟨undef,.inr ⟨hw _ _ _ _ _,O⟩,?_⟩;show cO P ops _ Q t ((Fr l ds).put (some d) undef) w
     rw[iN];exact hk w m
 | .one i t,q,l,is,bs,hsel,h=>by
  obtain⟨o,ho,h⟩:=vS h;obtain⟨sc,h⟩:=vR h;exact Ld hsel ho h fun sc q l is bs e h=>Ik hK t q l is bs e h
 | .two i t j u,q,l,is,bs,hsel,h=>by
  obtain⟨h1,h2⟩:=h;obtain⟨o,ho,h1⟩:=vS h1;obtain⟨_,h1⟩:=vR h1;obtain⟨o2,ho2,h2⟩:=vS h2;obtain⟨_,h2⟩:=vR h2;have r1:=Ld (Q:=Q) (t:=t) hsel ho h1 fun sc q l is bs e h=>Ik hK t q l is bs e h;have r2:=Ld (Q:=Q) (t:=u) hsel ho2 h2 fun sc q l is bs e h=>Ik hK u q l is bs e h;exact⟨r1.1,fun w m=>⟨r1.2 w m,r2.2 w m⟩⟩
 | .three i t j u k v,q,l,is,bs,hsel,h=>by
  obtain⟨h1,h2,h3⟩:=h;obtain⟨o,ho,h1⟩:=vS h1;obtain⟨_,h1⟩:=vR h1;obtain⟨o2,ho2,h2⟩:=vS h2;obtain⟨_,h2⟩:=vR h2;obtain⟨o3,ho3,h3⟩:=vS h3;obtain⟨_,h3⟩:=vR h3;have r1:=Ld (Q:=Q) (t:=t) hsel ho h1 fun sc q l is bs e h=>Ik hK t q l is bs e h;have r2:=Ld (Q:=Q) (t:=u) hsel ho2 h2 fun sc q l is bs e h=>Ik hK u q l is bs e h;have r3:=Ld (Q:=Q) (t:=v) hsel ho3 h3 fun sc q l is bs e h=>Ik hK v q l is bs e h;exact⟨r1.1,fun w m=>⟨r1.2 w m,r2.2 w m,r3.2 w m⟩⟩
end
theorem zvt{P:bp}{w0 w:aj}{ds:List dx}{s:List Ko}{R:Exit→Act→aj→Prop}{is:List It}{id:Nat}{l0:List ai}{l:List Oper}(bs:List Bool)(ss:List (List Nat))(t:qJ)(m:Mem w0 w is)(hm:P.follows .mixedOrders=true)(hB:(Region.noSelect l.toArray&&t.ok .any l.toArray l.toArray.size (Array.replicate l.toArray.size false))=true)
 (hQ:∀c d v a w,Ct P R s (.panic c) (Act.put a d v) w→Ct P R s (.panic c) a w)
 (h:VT P l.toArray (pT bs is) ss (fun l is=>∀w,Mem w0 w is→Ct P R s .normal (Fz l ds) w) t True l0 is bs):(Code.region id l.toArray true).wp P (Ct P R s) (Fr l0 ds) w :=
 Uq m bs t hm hB hQ fun _ mu=>(Ik (fun _ _ h=>h) t True l0 is bs rfl h).2 _ mu
theorem eW{ops i i' f}(h:i=i'):Ej ops i f=Ej ops i' f:=by rw[h]
theorem eX{ss i i' f}(h:i=i'):Ci ss i f=Ci ss i' f:=by rw[h]
theorem eY{bs bs' k p}(h:bs=bs'):Re bs k p=Re bs' k p:=by rw[h]
theorem iD{P ops l l' hs o sc q K}(h:l=l'):tkV P ops l hs o sc q K=tkV P ops l' hs o sc q K:=by rw[h]
theorem iE{P ops l l' is bs o sc q K}(h:l=l'):onV P ops l is bs o sc q K=onV P ops l' is bs o sc q K:=by rw[h]
theorem kO{P ops hs ss K t q l l' is bs}(h:l=l'):VT P ops hs ss K t q l is bs=VT P ops hs ss K t q l' is bs:=by rw[h]
theorem aow{b:Bool}{bs:List Bool}{p:Prop}:Re (b::bs) (n+1) p=Re bs n p:=by cases b <;> rfl
theorem zzu:(∀o r f,Ej (o::r) 0 f=f o)∧(∀o r n f,Ej (o::r) (n+1) f=Ej r n f)
 ∧ (∀s r f,Ci (s::r) 0 f=f s)∧(∀s r n f,Ci (s::r) (n+1) f=Ci r n f)∧(∀n f,Ci [] n f=f [])
 ∧ (∀T x bs,Vw (.box T x) bs=false::bs)∧(∀T bs,Vw (.alloc T) bs=false::bs)∧(∀x bs,Vw (.move x) bs=bs)∧(∀x bs,Vw (.assign x) bs=bs)∧(∀x bs,Vw (.nilCheck x) bs=bs)∧(∀a b c bs,Vw (.pick a b c) bs=bs)∧(∀a b c d e bs,Vw (.binOp a b c d e) bs=bs)∧(∀a b c bs,Vw (.unOp a b c) bs=bs)∧(∀a b c bs,Vw (.convert a b c) bs=bs)∧(∀a b c bs,Vw (.fieldAddr a b c) bs=bs)∧(∀a b c bs,Vw (.field a b c) bs=bs)∧(∀a b c bs,Vw (.indexAddr a b c) bs=bs)∧(∀a b bs,Vw (.build a b) bs=bs)∧(∀a b bs,Vw (.extract a b) bs=bs)∧(∀a b bs,Vw (.load a b) bs=bs)∧(∀a bs,Vw (.call a) bs=bs)
 ∧ (∀bs p,Re (false::bs) 0 p=p)∧(∀b bs n p,Re (b::bs) (n+1) p=Re bs n p)∧(∀(k:Nat) sc,List.headD (k::sc) 0=k)
 ∧ (∀P ops l hs d op ty pos af g sc q K,tkV P ops l hs ⟨some d,op,ty,pos,af,g⟩ sc q K=Qe ops l g (Ez P l hs [] true op sc fun vc v sc _=>K sc (vc∧q) (l.set d v)) (K sc q (l.set d undef)))
 ∧ (∀P ops l is bs d op ty pos af g sc q K,onV P ops l is bs ⟨some d,op,ty,pos,af,g⟩ sc q K=Qe ops l g (Ez P l is [] false op sc fun vc v sc is'=>K sc (vc∧q) (l.set d v) is' (Vw op bs)) (K sc q (l.set d undef) is bs))
 ∧ (∀P ops l is bs op ty pos af g k sc q K,onV P ops l is bs ⟨none,op,ty,pos,af,g⟩ (k::sc) q K=Qe ops l g (Re bs k (stV P l is false op (k::sc) fun vc _ sc is'=>K sc (vc∧q) l is' bs)) (K (k::sc) q l is bs))
 ∧ (∀P ops hs ss K q l is bs,VT P ops hs ss K .nil q l is bs=(q∧K l is))
 ∧ (∀P ol hs ss K i t q l is bs,VT P (jo ol) hs ss K (.take i t) q l is bs=Ej ol i fun o=>Ci ss i fun sc=>tkV P ol.toArray l hs o sc q fun _ q l=>VT P ol.toArray hs ss K t q l is bs)
 ∧ (∀P ol hs ss K i t q l is bs,VT P (jo ol) hs ss K (.one i t) q l is bs=Ej ol i fun o=>Ci ss i fun sc=>onV P ol.toArray l is bs o sc q fun _ q l is bs=>VT P ol.toArray hs ss K t q l is bs)
 ∧ (∀P ol hs ss K i t j u q l is bs,VT P (jo ol) hs ss K (.two i t j u) q l is bs=(VT P ol.toArray hs ss K (.one i t) q l is bs∧VT P ol.toArray hs ss K (.one j u) q l is bs))
 ∧ (∀P ol hs ss K i t j u k v q l is bs,VT P (jo ol) hs ss K (.three i t j u k v) q l is bs=(VT P ol.toArray hs ss K (.one i t) q l is bs∧VT P ol.toArray hs ss K (.one j u) q l is bs∧VT P ol.toArray hs ss K (.one k v) q l is bs))
 ∧ (∀p:Prop,(p∧p)=p)∧(∀p q r:Prop,((p∧r)∧(q∧r))=((p∧q)∧r)):=by
 repeat' apply And.intro
 all_goals intros
 all_goals first | rfl | exact aow | exact and_self _ | exact propext ⟨fun h=>⟨⟨h.1.1,h.2.1⟩,h.1.2⟩,fun h=>⟨⟨h.1.1,h.2⟩,h.1.2,h.2⟩⟩
end Go.Lith
namespace Go.Proofs.YtfekpcimgncioaaGreatDoor
open Go.Proofs.Tryz
open Go.RowKit Go.Lith
set_option maxRecDepth 100000
theorem dC:tT prog 3=some (false,1):=by kernel_rfl
theorem arQ:Kr prog 3=some [.int .i64 0]:=by kernel_rfl
theorem Il:ikP prog 3=some .i64:=by kernel_rfl
theorem Im:tT prog 4=some (false,1):=by kernel_rfl
theorem yO:ikP prog 5=some .u8:=by kernel_rfl
theorem acW:tT prog 9=some (false,1):=by kernel_rfl
theorem lA:Fv prog 22=some 3:=by kernel_rfl
theorem am8:tT prog 23=some (false,1):=by kernel_rfl
theorem aiv:ikP prog 23=some .u16:=by kernel_rfl
theorem am9:ixP prog 24=some (some 2,1):=by kernel_rfl
theorem aqB:Fv prog 25=some 23:=by kernel_rfl
theorem Vx:tT prog 26=some (false,1):=by kernel_rfl
theorem iM:Fv prog 27=some 39:=by kernel_rfl
theorem aQ:tT prog 30=some (true,3):=by kernel_rfl
theorem eS:Kr prog 30=some [.int .i64 0,.int .i64 0,.int .i64 0]:=by kernel_rfl
theorem gD:nR prog 30 0=some (0,false,1):=by kernel_rfl
theorem iH:nR prog 30 1=some (1,false,1):=by kernel_rfl
theorem jA:nR prog 30 2=some (2,false,1):=by kernel_rfl
theorem vT:xA prog 30=some ([(0,1),(1,1),(2,1)],[.int .i64 0,.int .i64 0,.int .i64 0]):=by kernel_rfl
theorem uU:tT prog 36=some (true,3):=by kernel_rfl
theorem xE:Kr prog 36=some [.int .i64 0,.int .i64 0,.int .i64 0]:=by kernel_rfl
theorem fF:ixP prog 36=some (some 3,1):=by kernel_rfl
theorem sY:xA prog 36=some ([(0,1),(1,1),(2,1)],[.int .i64 0,.int .i64 0,.int .i64 0]):=by kernel_rfl
theorem ana:tT prog 38=some (true,9):=by kernel_rfl
theorem aqC:Kr prog 38=some [.int .i64 0,.int .i64 0,.int .i64 0,.int .i64 0,.int .i64 0,.int .i64 0,.int .i64 0,.int .i64 0,.int .i64 0]:=by kernel_rfl
theorem eA:tT prog 39=some (true,9):=by kernel_rfl
theorem lM:Kr prog 39=some [.int .i64 0,.int .i64 0,.int .i64 0,.int .i64 0,.int .i64 0,.int .i64 0,.int .i64 0,.int .i64 0,.int .i64 0]:=by kernel_rfl
theorem bR:ixP prog 39=some (some 3,3):=by kernel_rfl
theorem qS:xA prog 39=some ([(0,3),(3,3),(6,3)],[.int .i64 0,.int .i64 0,.int .i64 0,.int .i64 0,.int .i64 0,.int .i64 0,.int .i64 0,.int .i64 0,.int .i64 0]):=by kernel_rfl
theorem anb:Fv prog 46=some 55:=by kernel_rfl
theorem Vy:Fv prog 52=some 56:=by kernel_rfl
theorem aqD:xA prog 55=some ([(0,3),(3,3)],[.int .i64 0,.int .i64 0,.int .i64 0,.int .i64 0,.int .i64 0,.int .i64 0]):=by kernel_rfl
theorem Fc:tT prog 56=some (true,6):=by kernel_rfl
theorem Vz:Kr prog 56=some [.int .i64 0,.int .i64 0,.int .i64 0,.int .i64 0,.int .i64 0,.int .i64 0]:=by kernel_rfl
theorem Rg:ixP prog 56=some (some 2,3):=by kernel_rfl
theorem Fe:xA prog 56=some ([(0,3),(3,3)],[.int .i64 0,.int .i64 0,.int .i64 0,.int .i64 0,.int .i64 0,.int .i64 0]):=by kernel_rfl
theorem Mr:tT prog 62=some (false,1):=by kernel_rfl
theorem anc:Fv prog 62=some 4:=by kernel_rfl
theorem kC:Fv prog 65=some 30:=by kernel_rfl
theorem ane:ixP prog 65=some (none,3):=by kernel_rfl
theorem aeq:tT prog 88=some (false,1):=by kernel_rfl
theorem aqE:Kr prog 88=some [.pointer none]:=by kernel_rfl
theorem aer:tT prog 93=some (false,1):=by kernel_rfl
theorem aqF:Kr prog 93=some [.map none]:=by kernel_rfl
theorem fL:tT prog 95=some (true,2):=by kernel_rfl
theorem nA:Kr prog 95=some [.bool false,.string ⟨#[]⟩]:=by kernel_rfl
theorem mP:nR prog 95 0=some (0,false,1):=by kernel_rfl
theorem yP:nR prog 95 1=some (1,false,1):=by kernel_rfl
theorem anf:xA prog 95=some ([(0,1),(1,1)],[.bool false,.string ⟨#[]⟩]):=by kernel_rfl
theorem aiw:Kr prog 97=some [.bool false,.string ⟨#[]⟩,.bool false,.string ⟨#[]⟩,.bool false,.string ⟨#[]⟩,.bool false,.string ⟨#[]⟩,.bool false,.string ⟨#[]⟩,.bool false,.string ⟨#[]⟩,.bool false,.string ⟨#[]⟩,.bool false,.string ⟨#[]⟩,.bool false,.string ⟨#[]⟩,.bool false,.string ⟨#[]⟩]:=by kernel_rfl
theorem Yr:tT prog 100=some (false,1):=by kernel_rfl
theorem aox:Kr prog 100=some [.map none]:=by kernel_rfl
theorem aoy:Fv prog 105=some 112:=by kernel_rfl
theorem aoz:tT prog 106=some (false,1):=by kernel_rfl
theorem aoA:tT prog 107=some (false,1):=by kernel_rfl
theorem aix:nR prog 109 0=some (0,false,1):=by kernel_rfl
theorem Rh:nR prog 109 1=some (1,false,1):=by kernel_rfl
theorem Ri:nR prog 109 2=some (2,false,1):=by kernel_rfl
theorem aoB:xA prog 109=some ([(0,1),(1,1),(2,1)],[.slice none 0 0,.map none,.map none]):=by kernel_rfl
theorem acX:tT prog 112=some (true,8):=by kernel_rfl
theorem acY:Kr prog 112=some [.int .i64 0,.int .i64 0,.int .i64 0,.int .i64 0,.int .i64 0,.int .i64 0,.bool false,.string ⟨#[]⟩]:=by kernel_rfl
theorem Cj:nR prog 112 0=some (0,true,3):=by kernel_rfl
theorem uV:nR prog 112 1=some (3,true,3):=by kernel_rfl
theorem acZ:tT prog 139=some (true,2):=by kernel_rfl
theorem aoC:Kr prog 139=some [.int .i64 0,.slice none 0 0]:=by kernel_rfl
theorem Ck:nR prog 139 0=some (0,false,1):=by kernel_rfl
theorem sA:nR prog 139 1=some (1,false,1):=by kernel_rfl
theorem aoD:Fv prog 157=some 26:=by kernel_rfl
theorem Le:ixP prog 157=some (none,1):=by kernel_rfl
theorem aoE:Fv prog 212=some 215:=by kernel_rfl
theorem uW:tT prog 215=some (true,6):=by kernel_rfl
theorem Cl:Kr prog 215=some [.int .i64 0,.int .i64 0,.int .i64 0,.int .i64 0,.int .i64 0,.int .i64 0]:=by kernel_rfl
theorem Rj:nR prog 215 0=some (0,true,3):=by kernel_rfl
theorem Cm:nR prog 215 1=some (3,true,3):=by kernel_rfl
theorem Lf:xA prog 215=some ([(0,3),(3,3)],[.int .i64 0,.int .i64 0,.int .i64 0,.int .i64 0,.int .i64 0,.int .i64 0]):=by kernel_rfl
theorem aiy:nR prog 218 0=some (0,false,1):=by kernel_rfl
theorem Rk:nR prog 218 2=some (4,true,3):=by kernel_rfl
theorem Rl:nR prog 218 3=some (7,false,1):=by kernel_rfl
theorem aiz:nR prog 218 4=some (8,false,1):=by kernel_rfl
theorem Io:nR prog 218 5=some (9,false,1):=by kernel_rfl
theorem Rm:nR prog 218 7=some (11,false,1):=by kernel_rfl
theorem ac0:tT prog 222=some (true,6):=by kernel_rfl
theorem ac1:Kr prog 222=some [.int .i64 0,.int .i64 0,.int .i64 0,.int .i64 0,.int .i64 0,.int .i64 0]:=by kernel_rfl
theorem kE:nR prog 222 0=some (0,true,3):=by kernel_rfl
theorem kF:nR prog 222 1=some (3,true,3):=by kernel_rfl
theorem aoF:xA prog 222=some ([(0,3),(3,3)],[.int .i64 0,.int .i64 0,.int .i64 0,.int .i64 0,.int .i64 0,.int .i64 0]):=by kernel_rfl
theorem aiA:tT prog 229=some (true,8):=by kernel_rfl
theorem ac2:Kr prog 229=some [.bool false,.string ⟨#[]⟩,.bool false,.string ⟨#[]⟩,.bool false,.string ⟨#[]⟩,.bool false,.string ⟨#[]⟩]:=by kernel_rfl
theorem Lg:ixP prog 229=some (some 4,2):=by kernel_rfl
theorem aiB:xA prog 229=some ([(0,2),(2,2),(4,2),(6,2)],[.bool false,.string ⟨#[]⟩,.bool false,.string ⟨#[]⟩,.bool false,.string ⟨#[]⟩,.bool false,.string ⟨#[]⟩]):=by kernel_rfl
theorem Cn:ikP prog 231=some .u64:=by kernel_rfl
theorem kG:Fv prog 233=some 231:=by kernel_rfl
theorem aoG:tT prog 243=some (true,3):=by kernel_rfl
theorem aoH:Kr prog 243=some [.nilFunc,.nilFunc,.nilFunc]:=by kernel_rfl
theorem aoI:xA prog 243=some ([(0,1),(1,1),(2,1)],[.nilFunc,.nilFunc,.nilFunc]):=by kernel_rfl
theorem aiC:nR prog 245 0=some (0,false,1):=by kernel_rfl
theorem aiD:nR prog 245 1=some (1,false,1):=by kernel_rfl
theorem aiE:nR prog 245 2=some (2,false,1):=by kernel_rfl
theorem aiF:tT prog 257=some (true,6):=by kernel_rfl
theorem Rn:Kr prog 257=some [.bool false,.string ⟨#[]⟩,.bool false,.string ⟨#[]⟩,.bool false,.string ⟨#[]⟩]:=by kernel_rfl
theorem uX:ixP prog 257=some (some 3,2):=by kernel_rfl
theorem aoJ:xA prog 257=some ([(0,2),(2,2),(4,2)],[.bool false,.string ⟨#[]⟩,.bool false,.string ⟨#[]⟩,.bool false,.string ⟨#[]⟩]):=by kernel_rfl
theorem qA:nR prog 264 0=some (0,true,8):=by kernel_rfl
theorem uY:nR prog 264 1=some (8,true,24):=by kernel_rfl
theorem aoK:xA prog 264=some ([(0,8),(8,24)],[.bool false,.bool false,.bool false,.bool false,.bool false,.bool false,.bool false,.bool false,.int .i64 0,.int .i64 0,.int .i64 0,.int .i64 0,.int .i64 0,.int .i64 0,.int .i64 0,.int .i64 0,.int .i64 0,.int .i64 0,.int .i64 0,.int .i64 0,.int .i64 0,.int .i64 0,.int .i64 0,.int .i64 0,.int .i64 0,.int .i64 0,.int .i64 0,.int .i64 0,.int .i64 0,.int .i64 0,.int .i64 0,.int .i64 0]):=by kernel_rfl
theorem aoL:tT prog 266=some (true,24):=by kernel_rfl
theorem aoM:Kr prog 266=some [.bool false,.bool false,.bool false,.bool false,.bool false,.bool false,.bool false,.bool false,.bool false,.bool false,.bool false,.bool false,.bool false,.bool false,.bool false,.bool false,.bool false,.bool false,.bool false,.bool false,.bool false,.bool false,.bool false,.bool false]:=by kernel_rfl
theorem aoN:xA prog 266=some ([(0,1),(1,1),(2,1),(3,1),(4,1),(5,1),(6,1),(7,1),(8,1),(9,1),(10,1),(11,1),(12,1),(13,1),(14,1),(15,1),(16,1),(17,1),(18,1),(19,1),(20,1),(21,1),(22,1),(23,1)],[.bool false,.bool false,.bool false,.bool false,.bool false,.bool false,.bool false,.bool false,.bool false,.bool false,.bool false,.bool false,.bool false,.bool false,.bool false,.bool false,.bool false,.bool false,.bool false,.bool false,.bool false,.bool false,.bool false,.bool false]):=by kernel_rfl
theorem aiG:tT prog 273=some (true,6):=by kernel_rfl
theorem aiH:Kr prog 273=some [.bool false,.string ⟨#[]⟩,.bool false,.string ⟨#[]⟩,.bool false,.string ⟨#[]⟩]:=by kernel_rfl
theorem oR:ixP prog 273=some (some 3,2):=by kernel_rfl
theorem aoO:tT prog 280=some (true,18):=by kernel_rfl
theorem aoP:Kr prog 280=some [.int .i64 0,.int .i64 0,.int .i64 0,.int .i64 0,.int .i64 0,.int .i64 0,.int .i64 0,.int .i64 0,.int .i64 0,.int .i64 0,.int .i64 0,.int .i64 0,.int .i64 0,.int .i64 0,.int .i64 0,.int .i64 0,.int .i64 0,.int .i64 0]:=by kernel_rfl
theorem aoQ:xA prog 280=some ([(0,6),(6,6),(12,6)],[.int .i64 0,.int .i64 0,.int .i64 0,.int .i64 0,.int .i64 0,.int .i64 0,.int .i64 0,.int .i64 0,.int .i64 0,.int .i64 0,.int .i64 0,.int .i64 0,.int .i64 0,.int .i64 0,.int .i64 0,.int .i64 0,.int .i64 0,.int .i64 0]):=by kernel_rfl
theorem aiI:tT prog 333=some (true,3):=by kernel_rfl
theorem aiJ:Kr prog 333=some [.int .i64 0,.int .i64 0,.int .i64 0]:=by kernel_rfl
theorem sQ:ixP prog 333=some (some 3,1):=by kernel_rfl
theorem aoR:xA prog 333=some ([(0,1),(1,1),(2,1)],[.int .i64 0,.int .i64 0,.int .i64 0]):=by kernel_rfl
end Go.Proofs.YtfekpcimgncioaaGreatDoor
namespace Go.Proofs.YtfekpcimgncioaaGreatDoor
open Go.Proofs.Tryz
open Go.RowKit Go.Lith
set_option maxRecDepth 100000
attribute [local irreducible] ar wpQuiet fU bS cO Code.wp
attribute [local congr] pD gF gG gH gI gJ kL gK gL gM gN gQ gR gS gT gU gV gW eU eV gX gY iA iB iC kN dF dG cW dD gZ kM eW eX eY iD iE kO
variable{q:P3}{ts ls:List T3}{N cap:Nat}{A:Option Addr}{t s:T3}{x y z:Bool}
theorem nJ{p:P3}:dS prog 38 [pt p,pt q] (.bool (decide (p.Lt q))):=by
 intro w;refine⟨bJ func38 (by kernel_rfl),?_⟩;have m:=Mem.refl w
 go_enter func38,ntmps38
 apply iY 15 [1,0,0,0] m;simp only[↓aD,gD,dC,aa];intro g1 g2 u m;refine bD O ?_ ?_<;>intro hc1
 ·
  apply aK 10 [1,0,0] m;simp only[↓aD,gD,dC,aa];refine aT O O ?_;try simp only[zD,zE]
  exact⟨_,O,m.ext,by simp only[P3.lt_x hc1]⟩
 ·
  have ex:p.x=q.x:=by omega
  apply aK 10 [1,0,0,0] m;simp only[↓aD,iH,dC,aa];refine bD O ?_ ?_<;>intro hc2
  ·
   apply aK 10 [1,0,0] m;simp only[↓aD,iH,dC,aa];refine aT O O ?_;try simp only[zD,zE]
   exact⟨_,O,m.ext,by simp only[P3.lt_y ex hc2]⟩
  ·
   have ey:p.y=q.y:=by omega
   apply aK 11 [1,0,0] m;simp only[↓aD,jA,dC,aa];refine aT O O ?_;try simp only[zD,zE]
   exact⟨_,O,m.ext,by simp only[P3.lt_z ex ey]⟩
theorem aiK{a b:E3}:dS prog 78 [ed a,ed b] (.bool (ltE a b)):=by
 intro w;refine⟨bJ func78 (by kernel_rfl),?_⟩;have m:=Mem.refl w
 go_enter func78,ntmps78
 apply iY 13 [1,0,0] m;simp only[↓aD,Rg,aQ,ad,ag,aa];intro g1 g2;refine⟨by omega,?_⟩;intro u m;refine aC (fH O O) ?_;apply aL 1 [0] m;simp only[↓aD];refine bD O ?_ ?_<;>intro hc1
 ·
  apply aK 6 [1,0,0] m;simp only[↓aD,Rg,aQ,ad,ag,aa];refine⟨by omega,?_⟩;refine nF m O O (nJ (p:=a.1) (q:=b.1)) 3 [] ?_;simp only[↓aD];intro u m;refine aT O O ?_;try simp only[zD,zE]
  exact⟨_,O,m.ext,by rw[ltE,if_pos (fun h=>hc1 (by rw[h];exact⟨O,O,O⟩))]⟩
 ·
  apply aK 7 [1,0,0] m;simp only[↓aD,Rg,aQ,ad,ag,aa];refine⟨by omega,?_⟩;refine nF m O O (nJ (p:=a.2) (q:=b.2)) 3 [] ?_;simp only[↓aD];intro u m;refine aT O O ?_;try simp only[zD,zE]
  exact⟨_,O,m.ext,by rw[ltE,if_neg (fun h=>h (P3.eq (Classical.not_not.1 hc1).1 (Classical.not_not.1 hc1).2.1 (Classical.not_not.1 hc1).2.2))]⟩
theorem aes(w:aj)(hT:bU w A N ts)(hN:N≤1000000000):dA prog 76 [.slice A N cap] w (SL 56 6 ((bE ts).flatMap cY) (bE ts).length w):=by
 refine⟨bJ func76 (by kernel_rfl),?_⟩;have m:=Mem.refl w
 go_enter func76,ntmps76
 apply fI 6 [0] m;simp only[↓aD];refine aC aO ?_;replace m:=m.nilO 56 6;apply aL 7 [0] m;simp only[↓aD];refine bX [3,4] [5,6,7,8,9,10,11,12,13,14,15,16,17,18,19,20,21,22,23,24,25,26,27,28,29,30,31,32,33] (fun n vs wl=>∃(k:Nat) (A3:Option Addr) (cap3:Nat),vs=[.slice A3 (bE (ts.take k)).length cap3,.int .i64 (k:Int)]∧Mem w wl [oI 56 6 A3 (bE (ts.take k)).length cap3 ((bE (ts.take k)).flatMap cY)]∧(k≤N)∧(n=N-k)) ?_ ?_
 ·
  exact⟨_,0,_,_,O,m,bw _,O⟩
 ·
  intro n vs wr hI u K1 hK1;obtain⟨k,A3,cap3,rfl,m,hk,hn⟩:=hI;simp only[zu,zF,zG];apply aK 8 [0,0] m;simp only[↓aD,iM];refine bD O ?_ ?_<;>intro hc1
  ·
   obtain⟨t,ht,_,a,rfl,hrow⟩:=hT.get (i:=k) (by omega);apply aK 7 [0] m;simp only[↓aD];refine aC (aF cD aP O O (by omega) (by omega) (bZ (ah _))) ?_;simp only[zz];refine aS O ((hrow.ext m.ext).lies cA aP) ?_;simp only[zz];apply jS 17 [0,0,0,0,0,0] m;simp only[↓aD,lM,eA,bR,aQ,Fe,aa,ad,ag];intro g1;refine⟨by omega,?_⟩;intro u m;apply aU 3 [0,0] m;simp only[↓aD,bR,aQ,Fe,ad,ag,aa];refine⟨by omega,?_⟩;refine afq O O O ?_;intro u g2 e_ h_ k_;replace m:=m.newB e_ h_ k_;simp only[zz];refine bM m 2 O O oB Bo O (by decide) O O O (m.b 0 O).rowsO (fV O) (by have:=qW (ts.take k);rw[bv] at this;omega) (by have:=qW (ts.take k);rw[bv] at this;omega) ?_;intro A3 cap3 u m;simp only[zF,zG] at m;rw[show (bE (ts.take k)).flatMap cY++_=(bE (ts.take (k+1))).flatMap cY by rw[uD ht,a_];rfl,show (bE (ts.take k)).length+3=(bE (ts.take (k+1))).length by rw[uD ht,au];rfl] at m;rw[show (bE (ts.take k)).length+3=(bE (ts.take (k+1))).length by rw[uD ht,au];rfl];apply aL 8 [0] m;simp only[↓aD];refine⟨by omega,?_⟩;exact hK1 (N-(k+1)) _ _ (by omega) (by kernel_rfl) ⟨k+1,_,_,O,(m.sel [false,false,true]),by omega,O⟩
  ·
   have hkN:k=N:=by omega
   rw[hkN,show ts.take N=ts from ay (by rw[hT.len];exact av _)] at m ⊢;apply aK 7 [] m;simp only[↓aD];exact aT O O ⟨_,O,m.ext,⟨_,_,_,O,O,(m.o 0 O)⟩⟩
theorem Ny{es:List E3}{e:E3}(w:aj)(hL:sU cY 6 w A N es)(hN:N≤1000000000):dA prog 77 [.slice A N cap,ed e] w (fun v _=>v=.int .i64 ((lV es e:Nat):Int)):=by
 refine⟨bJ func77 (by kernel_rfl),?_⟩;have m:=Mem.refl w
 go_enter func77,ntmps77
 apply iY 15 [0] m;simp only[↓aD];intro g1 u m;refine bX [5,6] [7,8,9,10,11,12,13,14,15,16,17,18,19,20] (fun n vs wl=>∃(k q:Nat),vs=[.int .i64 (q:Int),.int .i64 (k:Int)]∧Mem w wl [bI g1 (cY e) 56]∧(q=lV (es.take k) e)∧(k≤N)∧(n=N-k)) ?_ ?_
 ·
  exact⟨_,0,0,O,m,O,bw _,O⟩
 ·
  intro n vs wr hI u K1 hK1;obtain⟨k,q,rfl,m,hq,hk,hn⟩:=hI;subst hq;simp only[zu,zF,zG];apply aK 8 [0,0] m;simp only[↓aD,Vy];refine bD O ?_ ?_<;>intro hc1
  ·
   obtain⟨x,hx,a,rfl,hrow⟩:=hL.get (i:=k) (by omega);apply aK 4 [0] m;simp only[↓aD];refine mq m aB (by kernel_rfl) (aI aH (aI aH ?_));simp only[zz];refine aI (aF oB iV O O (by omega) (by omega) (bZ (ah _))) ?_;simp only[zz];refine ql O (fun u m=>((hrow.ext m.ext).lies Ft iV)) ?_;simp only[zz];refine ql O (fun u m=>((m.b 0 O).full Ft iV)) ?_;simp only[zz];refine aI (afo O O) (bC ?_);intro u m;refine gc ?_;simp only[zz];refine bD O ?_ ?_<;>intro hc2
   ·
    have hxe:x=e:=oq (P3.eq hc2.1 hc2.2.1 hc2.2.2.1) (P3.eq hc2.2.2.2.1 hc2.2.2.2.2.1 hc2.2.2.2.2.2);have hcl:lV (es.take k) e≤N:=ba anX (by rw[bv];omega);have hs:=aax (e:=e) hx;rw[if_pos hxe] at hs;apply aK 11 [0] m;simp only[↓aD];refine⟨by omega,?_⟩;rw[show ((lV (es.take k) e:Nat):Int)+1=((lV (es.take (k+1)) e:Nat):Int) by rw[hs];rfl];exact hK1 (N-(k+1)) _ _ (by omega) (by kernel_rfl) ⟨k+1,lV (es.take (k+1)) e,O,m,O,by omega,O⟩
   ·
    have hs:lV (es.take (k+1)) e=lV (es.take k) e:=(aax (e:=e) hx).trans (by rw[if_neg (fun h=>hc2 (by rw[h];exact⟨O,O,O,O,O,O⟩))];rfl);apply aK 7 [0] m;simp only[↓aD];refine⟨by omega,?_⟩;rw[←hs];exact hK1 (N-(k+1)) _ _ (by omega) (by kernel_rfl) ⟨k+1,lV (es.take (k+1)) e,O,m,O,by omega,O⟩
  ·
   have hkN:k=N:=by omega
   rw[hkN,show es.take N=es from ay (by rw[hL.len];exact av _)];apply aK 7 [] m;simp only[↓aD];exact aT O O ⟨_,O,m.ext,O⟩
theorem alR{ps:List P3}{p:P3}(w:aj)(hL:sU lB 3 w A N ps)(hN:N≤1000000000)(hcap:N≤cap):dA prog 82 [.slice A N cap,pt p] w (fun v w'=>(v=.slice A N cap∧iL ps p=ps)∨SL 30 3 ((iL ps p).flatMap lB) (iL ps p).length w v w'):=by
 refine⟨ad2,?_⟩;have m:=Mem.refl w;obtain rfl:ps.length=N:=hL.len
 go_enter func82,ntmps82
 apply iY 11 [0] m;simp only[↓aD];intro g1 u m;refine bX [5] [6,8,9,10,11,12,13,14,15,16,17,18,19,20,21] (fun n vs wl=>∃(k:Nat),vs=[.int .i64 (k:Int)]∧Mem w wl [bI g1 (lB p) 30]∧(Pre (fun x=>decide (x.Lt p)) ps k)∧(k≤ps.length)∧(n=ps.length-k)) ?_ ?_
 ·
  exact⟨_,0,O,m,Pre.zero,bw _,O⟩
 ·
  intro n vs wr hI u K1 hK1;obtain⟨k,rfl,m,hpre,hk,hn⟩:=hI;simp only[zu,zF,zG];apply aK 8 [0,0] m;simp only[↓aD,kC];refine bD O ?_ ?_<;>intro hc1
  ·
   obtain⟨x,hx,a,rfl,hrow⟩:=hL.get (i:=k) (by omega);apply aK 3 [0] m;simp only[↓aD];refine mq m aB (by kernel_rfl) (aI aH (aI aH ?_));simp only[zz];refine aI (aF cN aA O O (by omega) (by omega) (bZ (ah _))) ?_;simp only[zz];refine ql O (fun u m=>((hrow.ext m.ext).lies aG aA)) ?_;simp only[zz];refine ql O (fun u m=>((m.b 0 O).full aG aA)) ?_;simp only[zz];refine fD O O nJ (aI aO (bC ?_));intro u m;apply aU 6 [0] m;simp only[↓aD];refine gE O ?_ ?_<;>intro hc2
   ·
    have hpos:aay ps p=k:=am0 hpre hx (by simpa using hc2);apply aK 3 [0] m;simp only[↓aD];refine mq m aB (by kernel_rfl) (dZ 7 [1] ?_);simp only[↓aD,kC];refine⟨by omega,?_⟩;refine dH O (aI (aF cN aA O O (by omega) (by omega) (bZ (ah _))) (dH O ?_));simp only[zz];refine ql O (fun u m=>((hrow.ext m.ext).lies aG aA)) ?_;simp only[zz];refine dH O (ql O (fun u m=>((m.b 0 O).full aG aA)) ?_);simp only[zz];refine dH O (aI (cB O O) (aI (rH O) (bC ?_)));intro u m;refine gc ?_;simp only[zz];refine bD O ?_ ?_<;>intro hc3
    ·
     have hxp:x=p:=P3.eq hc3.1 hc3.2.1 hc3.2.2;apply aK 6 [] m;simp only[↓aD];exact aT O O ⟨_,O,m.ext,.inl ⟨O,by rw[iL,hpos,hx,if_pos (by rw[hxp])]⟩⟩
    ·
     have hw:iL ps p=ps.take k++[p]++ps.drop k:=by unfold iL;rw[hpos,if_neg (by rw[hx];exact fun h=>hc3 (by cases h;exact⟨O,O,O⟩))]
     apply aK 3 [0] m;simp only[↓aD];refine aC aO ?_;replace m:=m.nilO 30 3;apply aL 6 [0] m;simp only[↓aD];refine aC (nG cN aA O O (ah _) (by omega) (by omega)) ?_;simp only[zz];refine bM m 0 O O cN mX O (by decide) O O (by rw[kD yC,bv,ii (by omega)]) (((hL.take (by omega)).ext m.ext).cells yC (by decide)) (Pq _) (by omega) (by omega) ?_;intro A7 cap7 u m;simp only[zF,zG] at m;rw[b_,aq] at m;rw[aq];apply aL 6 [1,0] m;simp only[↓aD,aQ];refine kW O ?_;intro u g2 e_ h_ k_;replace m:=m.newB e_ h_ k_;simp only[zz];refine bM m 1 O O cN mX O (by decide) O O O (m.b 0 O).rowsO (fV O) (by omega) (by omega) ?_;intro A7 cap7 u m;simp only[zF,zG] at m;apply aL 7 [0] m;simp only[↓aD];refine aC (tR cN aA O O (ah _) (by omega) (by omega) O) ?_;simp only[zz];refine bM m 1 O O cN mX O (by decide) O O (by rw[kD yC,ft]) ((hL.ext m.ext).cellsD yC (by decide) hcap) (Pq _) (by omega) (by omega) ?_;intro A7 cap7 u m;simp only[zF,zG] at m;apply aL 3 [] m;simp only[↓aD];exact aT O O ⟨_,O,m.ext,.inr ⟨_,_,_,by rw[hw];simp;omega,rfl,(m.o 1 rfl).as (by rw[hw,a_,a_];rfl)⟩⟩
   ·
    have hpre2:=hpre.step hx (by simpa using hc2);apply aK 7 [0] m;simp only[↓aD];refine⟨by omega,?_⟩;exact hK1 (ps.length-(k+1)) _ _ (by omega) (by kernel_rfl) ⟨k+1,O,m,hpre2,by omega,O⟩
  ·
   obtain rfl:k=ps.length:=by omega
   have hpos:aay ps p=ps.length:=ahh hpre;have hw:iL ps p=ps.take ps.length++[p]++ps.drop ps.length:=by unfold iL;rw[hpos,if_neg (by rw[bz (av _)];simp)]
   apply aK 3 [0] m;simp only[↓aD];refine mq m aB (by kernel_rfl) (dZ 12 [2] ?_);simp only[↓aD,kC];refine⟨by omega,?_⟩;refine bC ?_;intro u m;apply aU 4 [0] m;simp only[↓aD];refine aC aO ?_;replace m:=m.nilO 30 3;apply aL 6 [0] m;simp only[↓aD];refine aC (nG cN aA O O (ah _) (by omega) (by omega)) ?_;simp only[zz];refine bM m 0 O O cN mX O (by decide) O O (by rw[kD yC,bv,ii (by omega)]) (((hL.take (by omega)).ext m.ext).cells yC (by decide)) (Pq _) (by omega) (by omega) ?_;intro A7 cap7 u m;simp only[zF,zG] at m;rw[b_,aq] at m;rw[aq];apply aL 6 [1,0] m;simp only[↓aD,aQ];refine kW O ?_;intro u g2 e_ h_ k_;replace m:=m.newB e_ h_ k_;simp only[zz];refine bM m 1 O O cN mX O (by decide) O O O (m.b 0 O).rowsO (fV O) (by omega) (by omega) ?_;intro A7 cap7 u m;simp only[zF,zG] at m;apply aL 7 [0] m;simp only[↓aD];refine aC (tR cN aA O O (ah _) (by omega) (by omega) O) ?_;simp only[zz];refine bM m 1 O O cN mX O (by decide) O O (by rw[kD yC,ft]) ((hL.ext m.ext).cellsD yC (by decide) hcap) (Pq _) (by omega) (by omega) ?_;intro A7 cap7 u m;simp only[zF,zG] at m;apply aL 3 [] m;simp only[↓aD];exact aT O O ⟨_,O,m.ext,.inr ⟨_,_,_,by rw[hw];simp,rfl,(m.o 1 rfl).as (by rw[hw,a_,a_];rfl)⟩⟩
theorem ac3{w0 w:aj}{is:List It}{A:Option Addr}{n cap:Nat}{ps:List P3}{p:P3}(m:Mem w0 w is)(k:Nat)(hi:is[k]? = some (oI 30 3 A n cap (ps.flatMap lB)))(hN:n≤1000000000) :
 Calls prog 82 [.slice A n cap,pt p].toArray w fun e w'=>∃v i,e=.returned v∧Mem w0 w' (is.set k i)∧∃A' cap' n',n'=(iL ps p).length∧v=.slice A' n' cap'∧i=oI 30 3 A' n' cap' ((iL ps p).flatMap lB):=by
 have hO:=m.o k hi;refine (alR (p:=p) w (hO.lat yC (by decide)) hN hO.le).2.mono ?_;rintro e w' ⟨v,rfl,hE,h⟩;rcases h with ⟨rfl,h⟩ | ⟨A',cap',n',rfl,rfl,hN'⟩
 · exact⟨_,oI 30 3 A n cap (ps.flatMap lB),O,by rw[anY hi];exact m.ext' hE,A,cap,n,by rw[h];exact (hO.num yC (by decide)).symm,O,by rw[h]⟩
 · exact⟨_,_,O,(m.newO hE hN').mv k hi,_,_,_,O,O,O⟩
theorem afL(w:aj)(hT:bU w A N ts)(hN:N≤100000000):dA prog 36 [.slice A N cap] w (SL 30 3 ((dY ts).flatMap lB) (dY ts).length w):=by
 refine⟨bJ func36 (by kernel_rfl),?_⟩;have m:=Mem.refl w
 go_enter func36,ntmps36
 apply fI 6 [0] m;simp only[↓aD];refine aC aO ?_;replace m:=m.nilO 30 3;apply aL 7 [0] m;simp only[↓aD];refine bX [3,4] [5,6,7,8,9,10,11,12,13,14,15,16,17,18,19,20,21,22,23] (fun n vs wl=>∃(k n3:Nat) (A3:Option Addr) (cap3:Nat),vs=[.slice A3 n3 cap3,.int .i64 (k:Int)]∧Mem w wl [oI 30 3 A3 n3 cap3 ((dY (ts.take k)).flatMap lB)]∧(n3=(dY (ts.take k)).length)∧(k≤N)∧(n=N-k)) ?_ ?_
 ·
  exact⟨_,0,0,_,_,O,m,O,bw _,O⟩
 ·
  intro n vs wr hI u K1 hK1;obtain⟨k,n3,A3,cap3,rfl,m,hn3,hk,hn⟩:=hI;simp only[zu,zF,zG];apply aK 8 [0,0] m;simp only[↓aD,iM];refine bD O ?_ ?_<;>intro hc1
  ·
   obtain⟨t,ht,_,a,rfl,hrow⟩:=hT.get (i:=k) (by omega);have hb0:=Mg (ts.take k);have hb1:=wT (dY (ts.take k)) t.a;have hb2:=wT (iL (dY (ts.take k)) t.a) t.b;rw[bv] at hb0;apply aK 25 [4,1,0] m;simp only[↓aD];refine⟨by omega,?_⟩;refine aC (aF cD aP O O (by omega) (by omega) (bZ (ah _))) ?_;apply aL 1 [0] m;simp only[↓aD,bR,ad,ag,aa];refine⟨by omega,?_⟩;refine aS O ((mD.cor (hrow.ext m.ext) (c:=0) (by decide)).lies aG aA) ?_;simp only[zz];refine mL m 0 ad2 O O (fun m=>ac3 (p:=t.a) m 0 O (by omega)) ?_;rintro v i u m ⟨A3,cap3,n3,hn3,rfl,rfl⟩;simp only[zF,zG] at m;apply aL 24 [1,0] m;simp only[↓aD,ak];refine⟨by omega,?_⟩;refine aC (aF cD aP O O (by omega) (by omega) (bZ (ah _))) ?_;apply aL 1 [0] m;simp only[↓aD,bR,ad,ag,aa];refine⟨by omega,?_⟩;refine aS O ((mD.cor (hrow.ext m.ext) (c:=1) (by decide)).lies aG aA) ?_;simp only[zz];refine mL m 0 ad2 O O (fun m=>ac3 (p:=t.b) m 0 O (by omega)) ?_;rintro v i u m ⟨A3,cap3,n3,hn3,rfl,rfl⟩;simp only[zF,zG] at m;apply aL 24 [1,0] m;simp only[↓aD,ak];refine⟨by omega,?_⟩;refine aC (aF cD aP O O (by omega) (by omega) (bZ (ah _))) ?_;apply aL 1 [0] m;simp only[↓aD,bR,ad,ag,aa];refine⟨by omega,?_⟩;refine aS O ((mD.cor (hrow.ext m.ext) (c:=2) (by decide)).lies aG aA) ?_;simp only[zz];refine mL m 0 ad2 O O (fun m=>ac3 (p:=t.c) m 0 O (by omega)) ?_;rintro v i u m ⟨A3,cap3,n3,hn3,rfl,rfl⟩;simp only[zF,zG] at m;apply aL 23 [2,0] m;simp only[↓aD,ak];refine⟨by omega,?_⟩;exact hK1 (N-(k+1)) _ _ (by omega) (by kernel_rfl) ⟨k+1,_,_,_,O,(m.reO 0 O ((m.o 0 O).as (by rw[Hl ht]))),by rw[Hl ht];exact hn3,by omega,O⟩
  ·
   have hkN:k=N:=by omega
   rw[hkN,show ts.take N=ts from ay (by rw[hT.len];exact av _)] at m hn3;apply aK 7 [] m;simp only[↓aD];exact aT O O ⟨_,O,m.ext,⟨_,_,_,hn3,O,(m.o 0 O)⟩⟩
theorem aiL{p:P3}(w:aj)(hT:sU aN 9 w A N ts)(hN:N≤1000000000):dA prog 201 [.slice A N cap,pt p,pt q] w (fun v _=>v=.tuple #[pt ((cE ts p q).getD p),.bool (cE ts p q).isSome]):=by
 refine⟨bJ func201 (by kernel_rfl),?_⟩;have m:=Mem.refl w
 go_enter func201,ntmps201
 apply iY 13 [0] m;simp only[↓aD,eS];intro g1 g2 g3 u m;refine bX [8] [7,9,10,11,12,13,14,15,16,17,18,19,20,21,22,23,24,25,26,27,28,29,30,31,32,33,34,35,36,37,38,39,40,41,42,43,44,45,46,47] (fun n vs wl=>∃(k:Nat),vs=[.int .i64 (k:Int)]∧Mem w wl [bI g3 [.int .i64 0,.int .i64 0,.int .i64 0] 30,bI g2 (lB q) 30,bI g1 (lB p) 30]∧(cE (ts.take k) p q=none)∧(k≤N)∧(n=N-k)) ?_ ?_
 ·
  exact⟨_,0,O,m,O,bw _,O⟩
 ·
  intro n vs wr hI u K1 hK1;obtain⟨k,rfl,m,hb0,hk,hn⟩:=hI;simp only[zu,zF,zG];apply aK 8 [0,0] m;simp only[↓aD,iM];refine bD O ?_ ?_<;>intro hc1
  ·
   obtain⟨t,ht,a,rfl,hrow⟩:=hT.get (i:=k) (by omega);apply aK 21 [4,1,0] m;simp only[↓aD];refine⟨by omega,?_⟩;refine mq m aB (by kernel_rfl) (dZ 3 [] ?_);simp only[↓aD];refine aI (aF cD aP O O (by omega) (by omega) (bZ (ah _))) (dZ 1 [] ?_);simp only[↓aD,bR,ad,ag,aa];refine⟨by omega,?_⟩;refine ql O (fun u m=>((mD.cor (hrow.ext m.ext) (c:=0) (by omega)).lies aG aA)) ?_;simp only[zz];refine ql O (fun u m=>((m.b 2 O).full aG aA)) ?_;simp only[zz];refine aI (cB O O) (aI aH (cT O (fun hb=>aH) (cT O (fun hb=>aH) ?_)));simp only[zz];refine cT O (fun hb=>aH) (cT O (fun hb=>fC (m:=0) (n:=1) (r:=1) (aX hb O) O (by decide)) (cT O (fun hb=>cP (m:=1) (n:=3) (r:=1) (aX hb O) O (by decide) (by decide)) ?_));simp only[zz];refine cT O (fun hb=>aF cD aP (aX hb O) (aX hb O) (by omega) (by omega) (bZ (ah _))) (cT O (fun hb=>aJ cF aA (aX hb O) (aX hb O) (by decide) (by decide) O) ?_);simp only[zz];refine eF O (fun hb u m=>aY (aX hb O) ((mD.cor (hrow.ext m.ext) (c:=1) (by omega)).lies aG aA)) (eF O (fun hb u m=>aY O ((m.b 1 O).full aG aA)) (cT O (fun hb=>cB (aX hb O) (aX hb O)) (aI (bW O O O) (bC ?_))));intro u m;refine gc ?_;simp only[zz];refine gE O ?_ ?_<;>intro hc3
   ·
    have hf:=Bm ((vI ht hb0).trans (arI  (Nr.1 hc3)));apply aK 6 [0] m;simp only[↓aD,ak];refine⟨by omega,?_⟩;refine aC (cP (m:=2) (n:=3) (r:=2) O O (by decide) (by decide)) ?_;simp only[zz];refine aC (aF cD aP O O (by omega) (by omega) (bZ (ah _))) ?_;apply aL 1 [0] m;simp only[↓aD,bR,ad,ag,aa];refine⟨by omega,?_⟩;refine aS O ((mD.cor (hrow.ext m.ext) (c:=2) (by omega)).lies aG aA) ?_;simp only[zz];apply jS 4 [0] m;simp only[↓aD,aQ,aa];intro u m;refine uA O ⟨_,O,((m.b 0 O).full aG aA)⟩ O ?_;try simp only[zD,zE]
    exact⟨_,O,m.ext,by rw[hf];rfl⟩
   ·
    have hq0:=acf hc3;apply aK 19 [1,0] m;simp only[↓aD,ak];refine⟨by omega,?_⟩;refine mq m aB (by kernel_rfl) (dZ 3 [] ?_);simp only[↓aD];refine aI (aF cD aP O O (by omega) (by omega) (bZ (ah _))) (dZ 1 [] ?_);simp only[↓aD,bR,ad,ag,aa];refine⟨by omega,?_⟩;refine ql O (fun u m=>((mD.cor (hrow.ext m.ext) (c:=1) (by omega)).lies aG aA)) ?_;simp only[zz];refine ql O (fun u m=>((m.b 2 O).full aG aA)) ?_;simp only[zz];refine aI (cB O O) (aI aH (cT O (fun hb=>aH) (cT O (fun hb=>aH) ?_)));simp only[zz];refine cT O (fun hb=>aH) (cT O (fun hb=>fC (m:=1) (n:=1) (r:=2) (aX hb O) O (by decide)) (cT O (fun hb=>cP (m:=2) (n:=3) (r:=2) (aX hb O) O (by decide) (by decide)) ?_));simp only[zz];refine cT O (fun hb=>aF cD aP (aX hb O) (aX hb O) (by omega) (by omega) (bZ (ah _))) (cT O (fun hb=>aJ cF aA (aX hb O) (aX hb O) (by decide) (by decide) O) ?_);simp only[zz];refine eF O (fun hb u m=>aY (aX hb O) ((mD.cor (hrow.ext m.ext) (c:=2) (by omega)).lies aG aA)) (eF O (fun hb u m=>aY O ((m.b 1 O).full aG aA)) (cT O (fun hb=>cB (aX hb O) (aX hb O)) (aI (bW O O O) (bC ?_))));intro u m;refine gc ?_;simp only[zz];refine gE O ?_ ?_<;>intro hc3
    ·
     have hf:=Bm ((vI ht hb0).trans (arJ hq0 (Nr.1 hc3)));apply aK 6 [0] m;simp only[↓aD,ak];refine⟨by omega,?_⟩;refine aC (cP (m:=3) (n:=3) (r:=0) O O (by decide) (by decide)) ?_;simp only[zz];refine aC (aF cD aP O O (by omega) (by omega) (bZ (ah _))) ?_;apply aL 1 [0] m;simp only[↓aD,bR,ad,ag,aa];refine⟨by omega,?_⟩;refine aS O ((mD.cor (hrow.ext m.ext) (c:=0) (by omega)).lies aG aA) ?_;simp only[zz];apply jS 4 [0] m;simp only[↓aD,aQ,aa];intro u m;refine uA O ⟨_,O,((m.b 0 O).full aG aA)⟩ O ?_;try simp only[zD,zE]
     exact⟨_,O,m.ext,by rw[hf];rfl⟩
    ·
     have hq1:=acf hc3;apply aK 19 [1,0] m;simp only[↓aD,ak];refine⟨by omega,?_⟩;refine mq m aB (by kernel_rfl) (dZ 3 [] ?_);simp only[↓aD];refine aI (aF cD aP O O (by omega) (by omega) (bZ (ah _))) (dZ 1 [] ?_);simp only[↓aD,bR,ad,ag,aa];refine⟨by omega,?_⟩;refine ql O (fun u m=>((mD.cor (hrow.ext m.ext) (c:=2) (by omega)).lies aG aA)) ?_;simp only[zz];refine ql O (fun u m=>((m.b 2 O).full aG aA)) ?_;simp only[zz];refine aI (cB O O) (aI aH (cT O (fun hb=>aH) (cT O (fun hb=>aH) ?_)));simp only[zz];refine cT O (fun hb=>aH) (cT O (fun hb=>fC (m:=2) (n:=1) (r:=3) (aX hb O) O (by decide)) (cT O (fun hb=>cP (m:=3) (n:=3) (r:=0) (aX hb O) O (by decide) (by decide)) ?_));simp only[zz];refine cT O (fun hb=>aF cD aP (aX hb O) (aX hb O) (by omega) (by omega) (bZ (ah _))) (cT O (fun hb=>aJ cF aA (aX hb O) (aX hb O) (by decide) (by decide) O) ?_);simp only[zz];refine eF O (fun hb u m=>aY (aX hb O) ((mD.cor (hrow.ext m.ext) (c:=0) (by omega)).lies aG aA)) (eF O (fun hb u m=>aY O ((m.b 1 O).full aG aA)) (cT O (fun hb=>cB (aX hb O) (aX hb O)) (aI (bW O O O) (bC ?_))));intro u m;refine gc ?_;simp only[zz];refine gE O ?_ ?_<;>intro hc3
     ·
      have hf:=Bm ((vI ht hb0).trans (arK hq0 hq1 (Nr.1 hc3)));apply aK 6 [0] m;simp only[↓aD,ak];refine⟨by omega,?_⟩;refine aC (cP (m:=4) (n:=3) (r:=1) O O (by decide) (by decide)) ?_;simp only[zz];refine aC (aF cD aP O O (by omega) (by omega) (bZ (ah _))) ?_;apply aL 1 [0] m;simp only[↓aD,bR,ad,ag,aa];refine⟨by omega,?_⟩;refine aS O ((mD.cor (hrow.ext m.ext) (c:=1) (by omega)).lies aG aA) ?_;simp only[zz];apply jS 4 [0] m;simp only[↓aD,aQ,aa];intro u m;refine uA O ⟨_,O,((m.b 0 O).full aG aA)⟩ O ?_;try simp only[zD,zE]
      exact⟨_,O,m.ext,by rw[hf];rfl⟩
     ·
      have hq2:=acf hc3;apply aK 22 [2,0] m;simp only[↓aD,ak];refine⟨by omega,?_⟩;exact hK1 (N-(k+1)) _ _ (by omega) (by kernel_rfl) ⟨k+1,O,m,(vI ht hb0).trans (arL hq0 hq1 hq2),by omega,O⟩
  ·
   have hkN:k=N:=by omega
   rw[hkN,show ts.take N=ts from ay (by rw[hT.len];exact av _)] at hb0;apply Vf 8 [2,0] m;simp only[↓aD,aQ,aa];intro u m;refine uA O ⟨_,O,((m.b 0 O).full aG aA)⟩ O ?_;try simp only[zD,zE]
   exact⟨_,O,m.ext,by rw[hb0];rfl⟩
theorem afM{p:P3}(w:aj)(hT:bU w A N ts)(hN:N≤100000000):dA prog 135 [.slice A N cap,pt p] w (fun v _=>v=.bool (Hn ts p)):=by
 refine⟨bJ func135 (by kernel_rfl),?_⟩;have m:=Mem.refl w
 go_enter func135,ntmps135
 apply iY 7 [0] m;simp only[↓aD];intro g1 u m;refine aC aO ?_;replace m:=m.nilO 39 9;apply aL 3 [0] m;simp only[↓aD];refine aC aO ?_;replace m:=m.nilO 30 3;apply aL 7 [0] m;simp only[↓aD];refine bX [5,6,7] [8,14,15,16,17,18,19,20,21,22,23,24,25,26,27,28,29,30,31,32,33,34,35,36,37,38,39,40,41,42,43,44,45,46,47,48,49] (fun n vs wl=>∃(k n5 n6 cap5 cap6:Nat) (A5 A6:Option Addr),vs=[.slice A5 n5 cap5,.slice A6 n6 cap6,.int .i64 (k:Int)]∧Mem w wl [oI 30 3 A6 n6 cap6 ((uE (ts.take k) p).flatMap lB),oI 39 9 A5 n5 cap5 ((nZ (ts.take k) p).flatMap aN),bI g1 (lB p) 30]∧(n5≤k*3)∧(n6≤k*3)∧(k≤N)∧(n=N-k)) ?_ ?_
 ·
  exact⟨_,0,_,_,_,_,_,_,O,m,av _,av _,bw _,O⟩
 ·
  intro n vs wr hI u K1 hK1;obtain⟨k,n5,n6,cap5,cap6,A5,A6,rfl,m,hl5,hl6,hk,hn⟩:=hI;simp only[zu,zF,zG];apply aK 8 [0,0] m;simp only[↓aD,iM];refine bD O ?_ ?_<;>intro hc1
  ·
   obtain⟨t,ht,_,a,rfl,hrow⟩:=hT.get (i:=k) (by omega);apply aK 8 [0] m;simp only[↓aD];refine bX [5,6,8] [20,21,22,23,24,25,26,27,28,29,30,31,32,33,34,35,36,37,38,39,40,41,42,43,44,45,46,47,48,49] (fun n vs wl=>∃(c n5 n6 cap5 cap6:Nat) (A5 A6:Option Addr),vs=[.slice A5 n5 cap5,.slice A6 n6 cap6,.int .i64 (c:Int)]∧Mem w wl [oI 30 3 A6 n6 cap6 ((wD ts p k t c).flatMap lB),oI 39 9 A5 n5 cap5 ((Et ts p k t c).flatMap aN),bI g1 (lB p) 30]∧(n5≤k*3+c)∧(n6≤k*3+c)∧(c≤3)∧(n=3-c)) ?_ ?_
   ·
    rw[←alc (t:=t),←ahj (t:=t)] at m;exact⟨_,0,_,_,_,_,_,_,O,m,hl5,hl6,bw _,O⟩
   ·
    intro n vs wr hI u K2 hK2;obtain⟨c,n5,n6,cap5,cap6,A5,A6,rfl,m,hl5,hl6,hc,hn2⟩:=hI;simp only[zu,zF,zG];apply aK 6 [0,0] m;simp only[↓aD];refine bD O ?_ ?_<;>intro hc2
    ·
     have hc3:c<3:=by omega
     apply aK 4 [0] m;simp only[↓aD];refine mq m aB (by kernel_rfl) (dZ 3 [] ?_);simp only[↓aD];refine aI (aF cD aP O O (by omega) (by omega) (bZ (ah _))) ?_;simp only[zz];refine aI (aJ cF aA O O (by omega) (by omega) (bZ (ah _))) ?_;simp only[zz];refine ql O (fun u m=>((mD.cor (hrow.ext m.ext) (c:=c) (by omega)).lies aG aA)) ?_;simp only[zz];refine ql O (fun u m=>((m.b 2 O).full aG aA)) ?_;simp only[zz];refine aI (cB O O) (bC ?_);intro u m;refine gc ?_;simp only[zz];refine bD O ?_ ?_<;>intro hc3
     ·
      have hcp:t.cor c=p:=P3.eq hc3.1 hc3.2.1 hc3.2.2;apply aK 5 [0] m;simp only[↓aD];refine aC (aF cD aP O O (by omega) (by omega) (bZ (ah _))) ?_;simp only[zz];refine aS O ((hrow.ext m.ext).lies cA aP) ?_;simp only[zz];refine eZ O ?_;intro u g2 e_ h_ k_;replace m:=m.newB e_ h_ k_;simp only[zz];refine bM m 2 O O cD jK O (by decide) O O O (m.b 0 O).rowsO (fV O) (by omega) (by omega) ?_;intro A5 cap5 u m;simp only[zF,zG] at m;apply aL 8 [0] m;simp only[↓aD];refine⟨by omega,?_⟩;refine aC (cP O O (by omega) (amY (k:=c+1))) ?_;simp only[zz];refine aC (aF cD aP O O (by omega) (by omega) (bZ (ah _))) ?_;simp only[zz];refine aC (aJ cF aA O O (by omega) (by omega) (bZ (ah _))) ?_;simp only[zz];refine aS O ((mD.cor (hrow.ext m.ext) (c:=(c+1)%3) (by omega)).lies aG aA) ?_;simp only[zz];refine kW O ?_;intro u g3 e_ h_ k_;replace m:=m.newB e_ h_ k_;simp only[zz];refine bM m 2 O O cN mX O (by decide) O O O (m.b 0 O).rowsO (fV O) (by omega) (by omega) ?_;intro A6 cap6 u m;simp only[zF,zG] at m;apply aL 8 [0] m;simp only[↓aD];refine⟨by omega,?_⟩;exact hK2 (3-(c+1)) _ _ (by omega) (by kernel_rfl) ⟨c+1,_,_,_,_,_,_,O,(((m.reO 3 O ((m.o 3 O).as (by rw[afe hcp,a_];rfl))).reO 2 rfl ((m.o 2 rfl).as (by rw[ace hcp,a_];rfl))).sel [false,false,true,true,true]),by omega,by omega,by omega,rfl⟩
     ·
      have hcp:¬t.cor c=p:=fun h=>hc3 (by rw[h];exact⟨O,O,O⟩);apply aK 7 [0] m;simp only[↓aD];refine⟨by omega,?_⟩;exact hK2 (3-(c+1)) _ _ (by omega) (by kernel_rfl) ⟨c+1,_,_,_,_,_,_,O,((m.reO 1 O ((m.o 1 O).as (by rw[ahi hcp]))).reO 0 O ((m.o 0 O).as (by rw[aff hcp]))),by omega,by omega,by omega,O⟩
    ·
     obtain rfl:c=3:=by omega
     rw[ald ht,ahk ht] at m;apply aK 7 [0] m;simp only[↓aD];refine⟨by omega,?_⟩;exact hK1 (N-(k+1)) _ _ (by omega) (by kernel_rfl) ⟨k+1,_,_,_,_,_,_,O,m,by omega,by omega,by omega,O⟩
  ·
   have hkN:k=N:=by omega
   rw[hkN,show ts.take N=ts from ay (by rw[hT.len];exact av _)] at m;obtain⟨M,hM⟩:∃M,M=nZ ts p:=⟨_,rfl⟩
   obtain⟨S,hS⟩:∃S,S=uE ts p:=⟨_,rfl⟩
   rw[←hM,←hS] at m;have h5:M.length=n5:=(m.o 1 rfl).num ala (by decide);have h6:S.length=n6:=(m.o 0 rfl).num yC (by decide);have hle6:=(m.o 0 rfl).le;have hP:Hn ts p=S.any (fun s=>oA M p s (M.length-1) s):=by rw[hM,hS];rfl
   clear hM hS;apply aK 7 [0] m;simp only[↓aD];refine bX [9] [4,10,11,12,13,50,51,52,53,54,55,56,57,58,59,60,61,62,63,64,65,66,67,68,69,70,71,72,73,74,75,76,77,78,79,80,81] (fun n vs wl=>∃(k2:Nat),vs=[.int .i64 (k2:Int)]∧Mem w wl [oI 30 3 A6 n6 cap6 ((S).flatMap lB),oI 39 9 A5 n5 cap5 ((M).flatMap aN),bI g1 (lB p) 30]∧((S.take k2).any (fun s=>oA M p s (M.length-1) s)=false)∧(k2≤n6)∧(n=n6-k2)) ?_ ?_
   ·
    exact⟨_,0,O,m,O,bw _,O⟩
   ·
    intro n vs wr hI u K3 hK3;obtain⟨k2,rfl,m,hno,hk2,hn3⟩:=hI;simp only[zu,zF,zG];apply aK 8 [0,0] m;simp only[↓aD,kC];refine bD O ?_ ?_<;>intro hc4
    ·
     obtain⟨sx,hsx⟩:∃sx,S[k2]? = some sx:=⟨_,am (by omega)⟩
     obtain⟨gO,rfl⟩:=(m.o 0 rfl).some (by omega);apply aK 7 [0] m;simp only[↓aD];refine aC (aF cN aA O O (by omega) (by omega) (bZ (ah _))) ?_;simp only[zz];refine aS O (((m.o 0 O).at yC hsx).lies aG aA) ?_;simp only[zz];apply jS 8 [0,0] m;simp only[↓aD,eS,aQ,aa];intro g2 u m;refine bX [11] [4,12,13,60,61,62,63,64,65,66,67,68,69,70,71,72,73,74,75,76,77,78,79,80,81] (fun n vs wl=>∃(j:Nat) (x:P3),vs=[.int .i64 (j:Int)]∧Mem w wl [bI g2 (lB x) 30,oI 30 3 (some ⟨gO,0,none⟩) n6 cap6 (S.flatMap lB),oI 39 9 A5 n5 cap5 ((M).flatMap aN),bI g1 (lB p) 30]∧(oA M p sx (M.length-1) sx=oA M p sx (M.length-j) x)∧(1≤j)∧(j≤n5+1)∧(n=n5+1-j)) ?_ ?_
     ·
      exact⟨_,1,sx,O,m,O,av _,by omega,O⟩
     ·
      intro n vs wr hI u K4 hK4;obtain⟨j,x,rfl,m,hrg,hj,hj2,hn4⟩:=hI;simp only[zu,zF,zG];apply aK 8 [0,0] m;simp only[↓aD,iM];refine bD O ?_ ?_<;>intro hc5
      ·
       obtain⟨f,hf⟩:∃f,M.length-j=f+1:=⟨M.length-j-1,by omega⟩
       rw[hf] at hrg;apply aK 8 [3,0,0] m;simp only[↓aD,aQ];refine cQ m O O (aiL (p:=p) (q:=x) _ ((m.o 2 O).lat ala (by decide)) (by omega)) ?_;rintro v u m rfl;apply jS 13 [0,0] m;simp only[↓aD,eS,aQ,aa];intro g3 u m;refine gE O ?_ ?_<;>intro hc6
       ·
        have hbn:cE M p x=none:=by cases hb:cE M p x with | none=>rfl | some y=>rw[hb] at hc6;cases hc6
        have hz:oA M p sx (M.length-1) sx=false:=by rw[hrg,Us hbn]
        have hno2:(S.take (k2+1)).any (fun s=>oA M p s (M.length-1) s)=false:=by rw[wW hsx,hno,hz];rfl
        apply aK 7 [0] m;simp only[↓aD];refine⟨by omega,?_⟩;exact hK3 (n6-(k2+1)) _ _ (by omega) (by kernel_rfl) ⟨k2+1,O,(m.sel [false,false,true,true,true]),hno2,by omega,O⟩
       ·
        obtain⟨y,hy⟩:∃y,cE M p x=some y:=by cases hb:cE M p x with | none=>rw[hb] at hc6;cases hc6 | some y=>exact⟨y,rfl⟩
        rw[hy] at m;simp only[df] at m;apply Vf 7 [0,1,0] m;simp only[↓aD,aQ,aa];intro u m;refine mq m aB (by kernel_rfl) (dZ 3 [1] ?_);simp only[↓aD,aQ];refine aI (aF cN aA O O (by omega) (by omega) (bZ (ah _))) ?_;simp only[zz];refine ql O (fun u m=>(((m.o 2 O).at yC hsx).lies aG aA)) ?_;simp only[zz];refine aI (cB O O) (bC ?_);intro u m;refine gc ?_;simp only[zz];refine bD O ?_ ?_<;>intro hc7
        ·
         have hys:y=sx:=P3.eq hc7.1 hc7.2.1 hc7.2.2;have hz:S.any (fun s=>oA M p s (M.length-1) s)=true:=Ho hsx (by show oA M p sx (M.length-1) sx=true;rw[hrg];exact aaz (by rw[hy,hys]));apply aK 5 [] m;simp only[↓aD];refine aT O O ?_;try simp only[zD,zE]
         exact⟨_,O,m.ext,by rw[hP,hz]⟩
        ·
         have hys:¬y=sx:=fun h=>hc7 (by rw[h];exact⟨O,O,O⟩);apply aK 7 [0] m;simp only[↓aD];refine⟨by omega,?_⟩;exact hK4 (n5+1-(j+1)) _ _ (by omega) (by kernel_rfl) ⟨j+1,y,O,(m.sel [false,true,true,true,true]),by rw[hrg,Ut hy hys,show M.length-(j+1)=f by omega],by omega,by omega,O⟩
      ·
       have hz:oA M p sx (M.length-1) sx=false:=by rw[hrg,show M.length-j=0 by omega];rfl
       have hno2:(S.take (k2+1)).any (fun s=>oA M p s (M.length-1) s)=false:=by rw[wW hsx,hno,hz];rfl
       apply aK 7 [0] m;simp only[↓aD];refine⟨by omega,?_⟩;exact hK3 (n6-(k2+1)) _ _ (by omega) (by kernel_rfl) ⟨k2+1,O,(m.sel [false,true,true,true]),hno2,by omega,O⟩
    ·
     have hk2:k2=S.length:=by omega
     rw[hk2,fi] at hno;apply aK 6 [] m;simp only[↓aD];refine aT O O ?_;try simp only[zD,zE]
     exact⟨_,O,m.ext,by rw[hP,hno]⟩
theorem arR(hx:x=decide (t.b.Lt t.a))(hy:y=decide (t.c.Lt t.a))(hz:z=decide (t.c.Lt t.b))(h:(y&&(z || !x))=true):dU t=⟨t.c,t.a,t.b⟩:=by
 subst hx;subst hy;subst hz;simp only[bg,decide_eq_true_eq,ej,ew,decide_eq_false_iff_not] at h;exact if_pos h
theorem aqG(hx:x=decide (t.b.Lt t.a))(hy:y=decide (t.c.Lt t.a))(hz:z=decide (t.c.Lt t.b))(h:(y&&(z || !x))=false)(h1:x=true):dU t=⟨t.b,t.c,t.a⟩:=by
 subst hx;subst hy;subst hz;have h2:¬(t.c.Lt t.a∧(t.c.Lt t.b∨¬t.b.Lt t.a)):=fun k=>by
  rw[decide_eq_true k.1,Bool.true_and] at h;rcases k.2 with k2 | k2
  · rw[decide_eq_true k2] at h;cases h
  · exact k2 (of_decide_eq_true h1)
 rw[dU,if_neg h2,if_pos (of_decide_eq_true h1)]
theorem aqH(hx:x=decide (t.b.Lt t.a))(hy:y=decide (t.c.Lt t.a))(hz:z=decide (t.c.Lt t.b))(h:(y&&(z || !x))=false)(h1:x=false):dU t=t:=by
 subst hx;subst hy;subst hz;have h3:=of_decide_eq_false h1;have h2:¬(t.c.Lt t.a∧(t.c.Lt t.b∨¬t.b.Lt t.a)):=fun k=>by
  rw[decide_eq_true k.1,h1] at h;simp at h
 rw[dU,if_neg h2,if_neg h3]
/-! ### How often a triangle is hit -/
theorem Lh  : dS prog 35 [tr t] (tr (dU t)):=by
 intro w;refine⟨bJ func35 (by kernel_rfl),?_⟩;have m:=Mem.refl w
 go_enter func35,ntmps35
 apply iY 11 [1,1,0] m;simp only[↓aD,lM,bR,aQ,ad,ag,aa];intro g1 g2;refine⟨by omega,?_⟩;intro u m;refine nF m O O (nJ (p:=t.b) (q:=t.a)) 8 [1,1,0] ?_;simp only[↓aD,bR,aQ,ad,ag,aa];refine⟨by omega,?_⟩;intro u m;refine nF m O O (nJ (p:=t.c) (q:=t.a)) 8 [1,1,0] ?_;simp only[↓aD,bR,aQ,ad,ag,aa];refine⟨by omega,?_⟩;intro u m;refine nF m O O (nJ (p:=t.c) (q:=t.b)) 4 [] ?_;simp only[↓aD];intro u m;cases hy:decide (t.c.Lt t.a)
 ·
  apply aU 17 [0] m;simp only[↓aD];refine cR O ?_ ?_<;>intro hc2
  ·
   have hr:=aqG (t:=t) rfl rfl rfl (by rw[hy];rfl) hc2;apply Vf 12 [1,1,1,0] m;simp only[↓aD,bR,aQ,qS,eA,ad,ag,aa];refine⟨by omega,?_⟩;intro u m;refine aT O ⟨_,O,((m.b 0 O).full cA aP)⟩ ?_;try simp only[zD,zE]
   exact⟨_,O,m.ext,by rw[hr];rfl⟩
  ·
   have hr:=aqH (t:=t) rfl rfl rfl (by rw[hy];rfl) hc2;apply Vf 7 [1,0] m;simp only[↓aD,eA,aa];intro u m;refine aT O ⟨_,O,((m.b 0 O).full cA aP)⟩ ?_;try simp only[zD,zE]
   exact⟨_,O,m.ext,by rw[hr];rfl⟩
 ·
  apply aU 5 [0] m;simp only[↓aD];refine bA O (fun hb=>aH) (bA O (fun hb=>nV (aX hb O)) (eB O (aC (cC O O O) ?_)));apply aL 2 [0] m;simp only[↓aD];refine cR O ?_ ?_<;>intro hc1
  ·
   have hr:=arR (t:=t) rfl rfl rfl (by rw[hy];exact hc1);apply Vf 12 [1,1,1,0] m;simp only[↓aD,bR,aQ,qS,eA,ad,ag,aa];refine⟨by omega,?_⟩;intro u m;refine aT O ⟨_,O,((m.b 0 O).full cA aP)⟩ ?_;try simp only[zD,zE]
   exact⟨_,O,m.ext,by rw[hr];rfl⟩
  ·
   apply aK 6 [0] m;simp only[↓aD];refine cR O ?_ ?_<;>intro hc2
   ·
    have hr:=aqG (t:=t) rfl rfl rfl (by rw[hy];exact hc1) hc2;apply Vf 12 [1,1,1,0] m;simp only[↓aD,bR,aQ,qS,eA,ad,ag,aa];refine⟨by omega,?_⟩;intro u m;refine aT O ⟨_,O,((m.b 0 O).full cA aP)⟩ ?_;try simp only[zD,zE]
    exact⟨_,O,m.ext,by rw[hr];rfl⟩
   ·
    have hr:=aqH (t:=t) rfl rfl rfl (by rw[hy];exact hc1) hc2;apply Vf 7 [1,0] m;simp only[↓aD,eA,aa];intro u m;refine aT O ⟨_,O,((m.b 0 O).full cA aP)⟩ ?_;try simp only[zD,zE]
    exact⟨_,O,m.ext,by rw[hr];rfl⟩
theorem aoS{p:P3}(h:¬(p.x=q.x∧p.y=q.y∧p.z=q.z)):p≠q:=fun k=>h (by rw[k];exact⟨rfl,rfl,rfl⟩)
theorem aoT{p:P3}(h:¬¬(p.x=q.x∧p.y=q.y∧p.z=q.z)):p=q:=by
 obtain⟨h1,h2,h3⟩:=Classical.not_not.1 h;exact P3.eq h1 h2 h3
theorem aqI(h:s.a≠t.a):decide (s.Lt t)=decide (s.a.Lt t.a):=by unfold T3.Lt;simp[h]
theorem aqJ(e:s.a=t.a)(h:s.b≠t.b):decide (s.Lt t)=decide (s.b.Lt t.b):=by unfold T3.Lt;simp[h,e,P3.lt_irrefl]
theorem ang(e:s.a=t.a)(f:s.b=t.b):decide (s.Lt t)=decide (s.c.Lt t.c):=by unfold T3.Lt;simp[e,f,P3.lt_irrefl]
theorem aqK(e:s.a=t.a)(f:s.b=t.b)(h:s.c=t.c):decide (s.Lt t)=false:=by rw[ang e f,h];simp[P3.lt_irrefl]
def kH(ls bs:List T3):List T3:=ls.merge bs fun x y=>!decide (y.Lt x)
theorem aiM(bs:List T3):kH [] bs=bs:=by simp[kH]
theorem aa8(ls:List T3):kH ls []=ls:=by simp[kH]
theorem aiN{bs:List T3}{x y:T3}(h:y.Lt x):kH (x::ls) (y::bs)=y::kH (x::ls) bs:=by simp[kH,List.cons_merge_cons,h]
theorem aiO{bs:List T3}{x y:T3}(h:¬y.Lt x):kH (x::ls) (y::bs)=x::kH ls (y::bs):=by simp[kH,List.cons_merge_cons,h]
theorem Ip{α:Type}{l:List α}{i:Nat}{x:α}(h:l[i]? = some x):l.drop i=x::l.drop (i+1):=by
 obtain⟨h1,h2⟩:=ap.1 h;rw[eu h1,h2]
theorem aa9(ts:List T3)(k:Nat):kH (vO (ts.take k)) (vO (ts.drop k))=vO ts:=by
 refine Cf ?_ ?_ (rZ ts)
 · refine (List.merge_perm_append ..).trans (((tU _).append (tU _)).trans ?_)
   rw[lz];exact (tU ts).symm
 · have:=List.pairwise_merge (le:=fun x y:T3=>!decide (y.Lt x)) ?_ ?_ (vO (ts.take k)) (vO (ts.drop k)) ((rZ _).imp fun {a b} h=>by simpa[uR] using h) ((rZ _).imp fun {a b} h=>by simpa[uR] using h)
   · exact this.imp fun {a b} h=>by simpa[uR] using h
   · intro a b c h1 h2
     simp only[ew,decide_eq_false_iff_not] at *
     exact Mq (s:=a) (t:=b) (u:=c) h1 h2
   · intro a b
     simp only[ej,ew,decide_eq_false_iff_not];by_cases h:b.Lt a
     · exact .inr fun k=>T3.lt_irrefl a (T3.lt_trans k h)
     · exact .inl h
theorem Ms(h:ts.length<2):vO ts=ts:=by
 rcases ts with _ | ⟨t,_ | ⟨u,ts⟩⟩
 · rfl
 · rfl
 · simp at h;omega
theorem aiP  : dS prog 218 [tr s,tr t] (.bool (decide (s.Lt t))):=by
 intro w;refine⟨bJ func218 (by kernel_rfl),?_⟩;have m:=Mem.refl w
 go_enter func218,ntmps218
 apply iY 25 [4,1,0] m;simp only[↓aD];intro g1 g2;refine⟨by omega,?_⟩;intro u m;refine mq m aB (by kernel_rfl) (dZ 6 [1,0] ?_);simp only[↓aD,bR,aQ,ad,ag,aa];refine⟨by omega,?_⟩;refine aI (fH O O) (bC ?_);intro u m;refine gc ?_;simp only[zz];refine bD O ?_ ?_<;>intro hc2
 ·
  have ha:=aoS hc2;apply aK 1 [0] m;simp only[↓aD];refine mq m aB (by kernel_rfl) (dZ 6 [1,0] ?_);simp only[↓aD,bR,aQ,ad,ag,aa];refine⟨by omega,?_⟩;refine fD O O (nJ (p:=s.a) (q:=t.a)) (aI aO (bC ?_));intro u m;apply aU 1 [] m;simp only[↓aD];refine aT O O ?_;try simp only[zD,zE]
  exact⟨_,O,m.ext,by rw[aqI ha]⟩
 ·
  have ea:=aoT hc2;apply aK 19 [1,0] m;simp only[↓aD,ak];refine⟨by omega,?_⟩;refine mq m aB (by kernel_rfl) (dZ 6 [1,0] ?_);simp only[↓aD,bR,aQ,ad,ag,aa];refine⟨by omega,?_⟩;refine aI (fH O O) (bC ?_);intro u m;refine gc ?_;simp only[zz];refine bD O ?_ ?_<;>intro hc2
  ·
   have hb:=aoS hc2;apply aK 1 [0] m;simp only[↓aD];refine mq m aB (by kernel_rfl) (dZ 6 [1,0] ?_);simp only[↓aD,bR,aQ,ad,ag,aa];refine⟨by omega,?_⟩;refine fD O O (nJ (p:=s.b) (q:=t.b)) (aI aO (bC ?_));intro u m;apply aU 1 [] m;simp only[↓aD];refine aT O O ?_;try simp only[zD,zE]
   exact⟨_,O,m.ext,by rw[aqJ ea hb]⟩
  ·
   have eb:=aoT hc2;apply aK 19 [1,0] m;simp only[↓aD,ak];refine⟨by omega,?_⟩;refine mq m aB (by kernel_rfl) (dZ 6 [1,0] ?_);simp only[↓aD,bR,aQ,ad,ag,aa];refine⟨by omega,?_⟩;refine aI (fH O O) (bC ?_);intro u m;refine gc ?_;simp only[zz];refine bD O ?_ ?_<;>intro hc2
   ·
    have hc:=aoS hc2;apply aK 1 [0] m;simp only[↓aD];refine mq m aB (by kernel_rfl) (dZ 6 [1,0] ?_);simp only[↓aD,bR,aQ,ad,ag,aa];refine⟨by omega,?_⟩;refine fD O O (nJ (p:=s.c) (q:=t.c)) (aI aO (bC ?_));intro u m;apply aU 1 [] m;simp only[↓aD];refine aT O O ?_;try simp only[zD,zE]
    exact⟨_,O,m.ext,by rw[ang ea eb]⟩
   ·
    have ec:=aoT hc2;apply aK 21 [2] m;simp only[↓aD,ak];refine⟨by omega,?_⟩;refine aT O O ?_;try simp only[zD,zE]
    exact⟨_,O,m.ext,by rw[aqK ea eb ec]⟩
theorem aiQ{ms:List T3}{M cap2:Nat}{A2:Option Addr}(w:aj)(hT:bU w A N ls)(hU:bU w A2 M ms)(hcap:M≤cap2)(hN:N+M≤10000000):dA prog 145 [.slice A N cap,.slice A2 M cap2] w (SL 39 9 ((kH ls ms).flatMap aN) (N+M) w):=by
 refine⟨bJ func145 (by kernel_rfl),?_⟩;have m:=Mem.refl w;have htl:=hT.len;have hul:=hU.len
 go_enter func145,ntmps145
 apply fI 6 [0] m;simp only[↓aD];refine aC aO ?_;replace m:=m.nilO 39 9;apply aL 11 [0] m;simp only[↓aD];refine bX [5,6,7] [8,9,10,11,12,13,14,15,16,17,18,19,20,21,22,23,24,25,26,27,28,29,30,31,32,33,34,35,36,37,38,39,40,41,42,43,44,45] (fun n vs wl=>∃(i j:Nat) (xs:List T3) (A5:Option Addr) (cap5:Nat),vs=[.slice A5 (i+j) cap5,.int .i64 (j:Int),.int .i64 (i:Int)]∧Mem w wl [oI 39 9 A5 (i+j) cap5 (xs.flatMap aN)]∧(xs++kH (ls.drop i) (ms.drop j)=kH ls ms)∧(i≤N)∧(j≤M)∧(n=N-i)) ?_ ?_
 ·
  exact⟨_,0,0,[],_,_,O,m,O,bw _,bw _,O⟩
 · intro n vs wr hI u K1 hK1
   obtain⟨i,j,xs,A5,cap5,rfl,m,hI,hi,hj,hn⟩:=hI;simp only[zu,zF,zG];apply aK 8 [0,0] m;simp only[↓aD,iM];refine bD O ?_ ?_<;>intro hc1
   ·
    obtain⟨x,hx,_,a,hA,hrow⟩:=hT.get (i:=i) (by omega);subst hA;apply aK 5 [0] m;simp only[↓aD];refine bX [5,6] [8,15,16,17,18,19,20,21,22,23,24,25,26,27,28,29,30,31,32,33,34,35,36,37,38] (fun n vs wl=>∃(j:Nat) (xs:List T3) (A5:Option Addr) (cap5:Nat),vs=[.slice A5 (i+j) cap5,.int .i64 (j:Int)]∧Mem w wl [oI 39 9 A5 (i+j) cap5 (xs.flatMap aN)]∧(xs++kH (ls.drop i) (ms.drop j)=kH ls ms)∧(j≤M)∧(n=M-j)) ?_ ?_
    ·
     exact⟨_,j,xs,_,_,O,m,hI,hj,O⟩
    · intro n vs wr hI u K2 hK2
      obtain⟨j,xs,A5,cap5,rfl,m,hI2,hj,hn2⟩:=hI;simp only[zu,zF,zG];apply aK 8 [0,0] m;simp only[↓aD,iM];refine bD O ?_ ?_<;>intro hc2
      ·
       obtain⟨y,hy,_,a2,hA2,hrow2⟩:=hU.get (i:=j) (by omega);subst hA2;apply aK 3 [0] m;simp only[↓aD];refine mh m [true] [(0,true),(1,true),(2,true),(4,true),(5,true),(6,true),(3,true),(7,true),(8,false),(9,true)] aB (by kernel_rfl) (bQ (fun _ _ _ _ _ h=>h)) (ol:=?_) ?hol ?_
       case hol=>simp only[zw,zQ,zR];try rfl
       intro u m;refine aZ aH (aZ aH ?_);simp only[zz];refine aZ (aF cD aP O O (by omega) (by omega) (bZ (ah _))) (aZ aH (aZ aH ?_));simp only[zz];refine aZ (aF cD aP O O (by omega) (by omega) (bZ (ah _))) ?_;simp only[zz];refine eE O (fun u m=>((hrow2.ext m.ext).lies cA aP)) ?_;simp only[zz];refine eE O (fun u m=>((hrow.ext m.ext).lies cA aP)) ?_;simp only[zz];refine bL (lD m O O (aiP (s:=y) (t:=x)) ?_);intro u m;refine aM ⟨m,?_⟩;refine aZ aO (bY ?_);apply aU 6 [0] m;simp only[↓aD];refine cR O ?_ ?_<;>intro hc3
       ·
        have hI3:(xs++[x])++kH (ls.drop (i+1)) (ms.drop j)=kH ls ms:=by rw[←hI2,Ip hx,Ip hy,aiO (by simpa using hc3),dl];rfl
        apply aK 5 [0] m;simp only[↓aD];refine aC (aF cD aP O O (by omega) (by omega) (bZ (ah _))) ?_;simp only[zz];refine aS O ((hrow.ext m.ext).lies cA aP) ?_;simp only[zz];refine eZ O ?_;intro u g1 e_ h_ k_;replace m:=m.newB e_ h_ k_;simp only[zz];refine bM m 1 O O cD jK O (by decide) O O O (m.b 0 O).rowsO (fV O) (by omega) (by omega) ?_;intro A5 cap5 u m;simp only[zF,zG] at m;rw[show xs.flatMap aN++_=(xs++[x]).flatMap aN by rw[a_];rfl] at m;apply aL 8 [0] m;simp only[↓aD];refine⟨by omega,?_⟩;rw[show i+j+1=i+1+j by omega] at m ⊢;exact hK1 (N-(i+1)) _ _ (by omega) (by kernel_rfl) ⟨i+1,j,xs++[x],_,_,O,(m.sel [false,true]),hI3,by omega,hj,O⟩
       ·
        have hI4:(xs++[y])++kH (ls.drop i) (ms.drop (j+1))=kH ls ms:=by rw[←hI2,Ip hx,Ip hy,aiN (by simpa using hc3),dl];rfl
        apply aK 6 [0] m;simp only[↓aD];refine aC (aF cD aP O O (by omega) (by omega) (bZ (ah _))) ?_;simp only[zz];refine aS O ((hrow2.ext m.ext).lies cA aP) ?_;simp only[zz];refine eZ O ?_;intro u g1 e_ h_ k_;replace m:=m.newB e_ h_ k_;simp only[zz];refine bM m 1 O O cD jK O (by decide) O O O (m.b 0 O).rowsO (fV O) (by omega) (by omega) ?_;intro A5 cap5 u m;simp only[zF,zG] at m;rw[show xs.flatMap aN++_=(xs++[y]).flatMap aN by rw[a_];rfl] at m;apply aL 8 [0] m;simp only[↓aD];refine⟨by omega,?_⟩;rw[show i+j+1=i+(j+1) by omega] at m ⊢;exact hK2 (M-(j+1)) _ _ (by omega) (by kernel_rfl) ⟨j+1,xs++[y],_,_,O,(m.sel [false,true]),hI4,by omega,O⟩
      ·
       obtain rfl:j=M:=by omega
       have hI3:(xs++[x])++kH (ls.drop (i+1)) (ms.drop j)=kH ls ms:=by rw[←hI2,Ip hx,show ms.drop j=[] from gp (by omega),aa8,aa8,dl];rfl
       apply aK 5 [0] m;simp only[↓aD];refine aC (aF cD aP O O (by omega) (by omega) (bZ (ah _))) ?_;simp only[zz];refine aS O ((hrow.ext m.ext).lies cA aP) ?_;simp only[zz];refine eZ O ?_;intro u g1 e_ h_ k_;replace m:=m.newB e_ h_ k_;simp only[zz];refine bM m 1 O O cD jK O (by decide) O O O (m.b 0 O).rowsO (fV O) (by omega) (by omega) ?_;intro A5 cap5 u m;simp only[zF,zG] at m;rw[show xs.flatMap aN++_=(xs++[x]).flatMap aN by rw[a_];rfl] at m;apply aL 8 [0] m;simp only[↓aD];refine⟨by omega,?_⟩;rw[show i+j+1=i+1+j by omega] at m ⊢;exact hK1 (N-(i+1)) _ _ (by omega) (by kernel_rfl) ⟨i+1,j,xs++[x],_,_,O,(m.sel [false,true]),hI3,by omega,hj,O⟩
   ·
    obtain rfl:i=N:=by omega
    have hend:xs++ms.drop j=kH ls ms:=by rw[←hI,show ls.drop i=[] from gp (by omega),aiM]
    apply aK 6 [0] m;simp only[↓aD];refine aC (tR cD aP O O (ah _) (by omega) (by omega) O) ?_;simp only[zz];refine bM m 0 O O cD jK O (by decide) O O (by rw[Dh,ft,hul]) ((hU.lat.ext m.ext).cellsD ala (by decide) hcap) (wS _) (by omega) (by omega) ?_;intro A5 cap5 u m;simp only[zF,zG] at m;rw[←a_,hend] at m;apply aL 3 [] m;simp only[↓aD];exact aT O O ⟨_,O,m.ext,⟨_,_,_,by omega,O,(m.o 0 O)⟩⟩
end Go.Proofs.YtfekpcimgncioaaGreatDoor
namespace Go.Lith
open Go.RowKit
section
variable {w0 w w':aj} {is:List It}
theorem Mem.plus{js:List It}(m:Mem w0 w is)(h:Mem w w' js):Mem w0 w' (js++is):=by
 have m':=m.ext' h.ext;refine⟨m'.ext,fun i hi=>?_,fun i hi b hb=>?_,fz.2 ⟨h.nd,m.nd,fun i hi j hj b h1 h2=>?_⟩⟩
 · exact (bi.1 hi).elim (h.all i) (m'.all i)
 · rcases bi.1 hi with hi | hi
   · exact ba m.ext.size (h.ge i hi b hb)
   · exact m'.ge i hi b hb
 · have k1:=h.ge i hi b h1
   have k2:=j.lt w b (m.all j hj) h2;omega
end
structure Hd where
 A:Option Addr
 n:Nat
 cap:Nat
def Hd.v(h:Hd):ai:=.slice h.A h.n h.cap
theorem bU.takeL{w:aj}{A:Option Addr}{N k:Nat}{ts:List T3}(h:bU w A N ts)(hk:k≤N):bU w A k (ts.take k) :=
 ⟨by rw[bv,h.len];exact ii hk,fun t ht=>h.it t (List.mem_of_mem_take ht),fun i t hi=>by
  rw[dm] at hi;split at hi
  · exact h.row i t hi
  · cases hi⟩
theorem bU.dropL{w:aj}{A:Option Addr}{N k cap:Nat}{ts:List T3}(h:bU w A N ts)(hk:k≤N)(hc:N≤cap):bU w (if cap=k then A else A.map (·.add (k*9))) (N-k) (ts.drop k) :=
 ⟨by rw[ft,h.len],fun t ht=>h.it t (List.mem_of_mem_drop ht),fun i t hi=>by
  rw[di] at hi;obtain⟨a,e,hr⟩:=h.row _ t hi;have hl:=(ap.1 hi).1;rw[h.len] at hl;rw[if_neg (by omega),e];refine⟨_,O,?_⟩;rw[jW,←Nat.add_mul];exact hr⟩
end Go.Lith
namespace Go.Lith
open Go.RowKit Go.ChangeMaps Go.MapKept
def Co(is:List It):It where
 own b:=∃i∈is,i.own b
 P w:=(∀i∈is,i.P w)∧is.Pairwise Ap
 lt w b h e:=by obtain⟨i,hi,ho⟩:=e;exact i.lt w b (h.1 i hi) ho
 st w w' h s k:=⟨fun i hi=>i.st w w' (h.1 i hi) s fun b hb=>k b ⟨i,hi,hb⟩,h.2⟩
section
variable {w0 w:aj} {a is:List It}
theorem Mem.pack(a:List It)(m:Mem w0 w (a++is)):Mem w0 w (a++[Co is]):=by
 have h:=fz.1 m.nd;refine⟨m.ext,fun i hi=>?_,fun i hi b hb=>?_,fz.2 ⟨h.1,jz _ _,fun x hx y hy b h1 h2=>?_⟩⟩
 · rcases bi.1 hi with hi | hi
   · exact m.all i (g_ _ hi)
   · obtain rfl:=bf.1 hi
     exact⟨fun i hi=>m.all i (gl _ hi),h.2.1⟩
 · rcases bi.1 hi with hi | hi
   · exact m.ge i (g_ _ hi) b hb
   · obtain rfl:=bf.1 hi
     obtain⟨j,hj,hb⟩:=hb;exact m.ge j (gl _ hj) b hb
 · obtain rfl:=bf.1 hy
   obtain⟨j,hj,hb⟩:=h2;exact h.2.2 x hx j hj b h1 hb
theorem Mem.unpack(a:List It)(m:Mem w0 w (a++[Co is])):Mem w0 w (a++is):=by
 have h:=fz.1 m.nd;have hP:(∀i∈is,i.P w)∧is.Pairwise Ap:=m.all _ (gl _ (li _));refine⟨m.ext,fun i hi=>?_,fun i hi b hb=>?_,fz.2 ⟨h.1,hP.2,fun x hx y hy b h1 h2=>?_⟩⟩
 · rcases bi.1 hi with hi | hi
   · exact m.all i (g_ _ hi)
   · exact hP.1 i hi
 · rcases bi.1 hi with hi | hi
   · exact m.ge i (g_ _ hi) b hb
   · exact m.ge _ (gl _ (li _)) b ⟨i,hi,hb⟩
 · exact h.2.2 x hx _ (li _) b h1 ⟨y,hy,h2⟩
end
def vU(P:bp)(f:FuncId)(args:List ai)(w:aj)(R:ai→aj→Prop):Prop :=
 Entr P f∧Calls P f args.toArray w fun e w'=>∃v,e=.returned v∧R v w'
theorem vU.mono{P:bp}{f:FuncId}{args:List ai}{w:aj}{R R':ai→aj→Prop}(h:vU P f args w R)(hr:∀v w',R v w'→R' v w'):vU P f args w R' :=
 ⟨h.1,h.2.mono fun _ _ ⟨v,he,hR⟩=>⟨v,he,hr _ _ hR⟩⟩
section
variable {P:bp} {ds:List dx} {l:List ai} {ty:az} {w:aj}
variable {ops:Array Oper} {Q:Exit→Act→aj→Prop} {rest:List Oper} {d:Nat} {pos:String} {after:Array Edge}
theorem kJ{f:FuncId}{fo:Operand}{xs:Array Operand}{args:List ai}{first cap:Array ai}{a0:Array az}{R:ai→aj→Prop}(hf:ev l fo=.func (.func f) first cap)(hxs:first.toList++xs.toList.map (ev l)++cap.toList=args)(hc:vU P f args w R)
 (h:∀v u,R v u→ar P ops Q rest (Fr (l.set d v) ds) u):ar P ops Q (Oper.mk (some d) (.call { callee:=.value fo,args:=xs,argTypes:=a0 }) ty pos after none::rest) (Fr l ds) w:=by
 refine wpList_plain O fun K hK=>?_;unfold Oper.wp;rw[kI,pJ hc.1 hf hxs _ rfl];refine hc.2.mono ?_;rintro e w' ⟨v,rfl,hR⟩;show K ((Fr l ds).put (some d) v) w'
 rw[iN];exact hK _ _ (h v w' hR)
end
end Go.Lith
namespace Go.Lith
section
variable {w0 w:aj} {x y z:It} {is:List It}
theorem Mem.pack1(m:Mem w0 w (x::is)):Mem w0 w [x,Co is]:=Mem.pack [x] m
theorem Mem.unpack2(m:Mem w0 w [x,y,Co is]):Mem w0 w (x::y::is):=Mem.unpack [x,y] m
theorem Mem.pack3(m:Mem w0 w (x::y::z::is)):Mem w0 w [x,y,z,Co is]:=Mem.pack [x,y,z] m
theorem Mem.pack2(m:Mem w0 w (x::y::is)):Mem w0 w [x,y,Co is]:=Mem.pack [x,y] m
theorem Mem.pack4{z2:It}(m:Mem w0 w (x::y::z::z2::is)):Mem w0 w [x,y,z,z2,Co is]:=Mem.pack [x,y,z,z2] m
theorem Mem.unpack4{z2:It}(m:Mem w0 w [x,y,z,z2,Co is]):Mem w0 w (x::y::z::z2::is):=Mem.unpack [x,y,z,z2] m
theorem Mem.unpack3(m:Mem w0 w [x,y,z,Co is]):Mem w0 w (x::y::z::is):=Mem.unpack [x,y,z] m
end
end Go.Lith
