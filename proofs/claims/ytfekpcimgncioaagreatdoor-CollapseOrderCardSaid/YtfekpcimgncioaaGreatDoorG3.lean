/-
 Texts of one claim, laid together: Wb, Wc, Wd, Dig, Dig2, Dig3, Cst, We, Wf, Wg, Wh, Wi, Ca, Near, Cb, Cc, Wk, Wl, Wm, Wn, Cd, Ce, Cf, Cg, Qd, Vt, Vu, Fa3, Rchk, K30, Bag, Pack, Pack2, K31, Wo, Ch.
-/
import Derived.Test.YtfekpcimgncioaaGreatDoorG2
open Nat renaming reduceAdd→aa,reduceMul→ah,le_refl→ao,zero_add→ar,zero_le→cq,min_eq_left→ib,le_of_not_lt→ir,sub_self→lc,strongRecOn→py
open Int renaming reduceToNat→ad,toNat_natCast→ag,reduceAdd→am
open Go renaming Value→ai,World→aj,wpList→au,TypeId→av,Program→bv,Deferred→dw
open List renaming getElem?_eq_getElem→ak,mem_cons→an,getElem?_eq_some_iff→ap,flatMap_append→aw,length_cons→ay,mem_singleton→az,length_append→a_,length_map→bf,mem_cons_of_mem→bg,mem_cons_self→bh,take_of_length_le→bi,mem_of_getElem?→bj,mem_append→br,nil_append→bt,pairwise_cons→bu,length_take→bw,flatMap_cons→b_,not_mem_nil→cl,map_append→ct,mem_map→cw,range→c_,append_assoc→da,mem_filter→dh,mem_flatMap→dl,getElem?_drop→dm,getD_eq_getElem?_getD→ej,append_nil→eo,any_eq_true→ew,filter_cons→fc,mem_range→fe,mem_map_of_mem→fj,drop_eq_getElem_cons→fl,length_drop→fm,set_cons_succ→fy,nodup_cons→f_,drop_of_length_le→gh,foldl_append→gl,mem_append_right→gn,pairwise_append→gr,mem_append_left→ig,getElem?_cons_succ→iz,mem_singleton_self→ji,pairwise_map→jn,nodup_nil→jo,toArray→jp,pairwise_singleton→kh,filter_cons_of_pos→lq,filter_cons_of_neg→lu,flatMap_nil→lv,filter_nil→mi,take_append_drop→mn,length_erase_of_mem→nj,length_pos_of_mem→n_,any_eq_false→ob,mem_erase_of_ne→ot
open Bool renaming and_eq_true→ba,false_ne_true→fz,or_eq_true→gg,not_eq_true'→gi
open Option renaming getD_some→dx,bind_some→iu,bind_eq_some_iff→lw
open Option.some renaming inj→ep
open Prod.mk renaming injEq→fk
open Array renaming getElem?_toList→fx
open List.Pairwise renaming nil→ki
open Prod renaming ext→nz,fst→pq,snd→pv
set_option maxHeartbeats 8000000
set_option linter.unusedSimpArgs false
set_option linter.unusedVariables false
set_option linter.unusedSectionVars false
namespace Go.Lith
open Go.RowKit
variable{k n i j:Nat}{x y z q s u:P3}{a L:List Int}{f:P3→P3}{op:Op}
section
variable {K V:Type} [DecidableEq K]
def Fv(D:List (K × V))(xs:List (K × V)):List (K × V):=xs.foldl (fun D x=>fJ D x.1 x.2) D
theorem abI:∀(xs D:List (K × V)) (k:K),(xs.map (·.1)).Nodup→cD (Fv D xs) k=match cD xs k with | some v=>some v | none=>cD D k
 | [],D,k,_=>rfl
 | (a,v)::xs,D,k,h=>by
  rw[List.map_cons,f_] at h;have ih:=abI xs (fJ D a v) k h.2;show cD (Fv (fJ D a v) xs) k=_
  rw[ih,kN,cD];by_cases e:a=k
  · rw[if_pos e,if_pos e]
    have:cD xs k=none:=kO.2 (e▸h.1);rw[this]
  · rw[if_neg e,if_neg e]
theorem aiN(D xs ys:List (K × V)):Fv D (xs++ys)=Fv (Fv D xs) ys:=gl ..
def xH(D:List (K × Nat))(ks:List K):List (K × Nat):=ks.foldl (fun D k=>fJ D k ((cD D k).getD 0+1)) D
def wB(ks:List K)(a:K):Nat:=(ks.filter fun x=>decide (x=a)).length
theorem Fh{x a:K}{ks:List K}:wB (x::ks) a=(if x=a then 1 else 0)+wB ks a:=by
 unfold wB;by_cases h:x=a
 · rw[lq (by simpa using h),ay,if_pos h];omega
 · rw[lu (by simpa using h),if_neg h];omega
theorem aiO{a:K}{ks ls:List K}:wB (ks++ls) a=wB ks a+wB ls a:=by simp[wB]
theorem abJ:∀(ks:List K) (D:List (K × Nat)) (a:K),(cD (xH D ks) a).getD 0=(cD D a).getD 0+wB ks a
 | [],D,a=>rfl
 | k::ks,D,a=>by
  have h:=abJ ks (fJ D k ((cD D k).getD 0+1)) a;show (cD (xH (fJ D k ((cD D k).getD 0+1)) ks) a).getD 0=_
  rw[h,kN,Fh];by_cases e:k=a
  · subst e
    rw[if_pos rfl,if_pos rfl,dx];omega
  · rw[if_neg e,if_neg e];omega
theorem aiP(D:List (K × Nat))(ks ls:List K):xH D (ks++ls)=xH (xH D ks) ls:=gl ..
theorem mZ:∀{l m:List K},l.Nodup→(∀a∈l,a∈m)→l.length≤m.length
 | [],_,_,_=>cq _
 | x::l,m,h,k=>by
  rw[f_] at h;have hx:=k x (bh ..);have h1:=mZ (m:=m.erase x) h.2 fun a ha=>(ot (fun (e:a=x)=>h.1 (e▸ha))).2 (k a (bg _ ha));rw[nj hx] at h1;have:=n_ hx;rw[ay];omega
end
/-! ### What lies behind an edge -/
def kS(ts:List T3):List (E3 × P3):=ts.flatMap fun t=>[((t.a,t.b),t.c),((t.b,t.c),t.a),((t.c,t.a),t.b)]
theorem nA:∀ts:List T3,(kS ts).map (·.1)=aQ ts
 | []=>rfl
 | t::ts=>by
  have:=nA ts;unfold kS aQ at this ⊢;rw[b_,ct,this];rfl
theorem adw{ts:List T3}{t:T3}(h:ts[k]? = some t):kS (ts.take (k+1))=kS (ts.take k)++[((t.a,t.b),t.c),((t.b,t.c),t.a),((t.c,t.a),t.b)]:=by
 unfold kS;rw[bY h,aw];simp
theorem Ai(p q:P3):∀ts:List T3,bR ts p q=cD (kS ts) (p,q)
 | []=>rfl
 | t::ts=>by
  have ih:=Ai p q ts;have e:kS (t::ts)=((t.a,t.b),t.c)::((t.b,t.c),t.a)::((t.c,t.a),t.b)::kS ts:=rfl;rw[e,bR,cD,cD,cD,←ih,T3.fnd];by_cases h1:t.a=p∧t.b=q
  · rw[if_pos h1,if_pos (nz h1.1 h1.2)]
  · rw[if_neg h1,if_neg (fun e=>h1 ⟨congrArg pq e,congrArg pv e⟩)]
    by_cases h2:t.b=p∧t.c=q
    · rw[if_pos h2,if_pos (nz h2.1 h2.2)]
    · rw[if_neg h2,if_neg (fun e=>h2 ⟨congrArg pq e,congrArg pv e⟩)]
      by_cases h3:t.c=p∧t.a=q
      · rw[if_pos h3,if_pos (nz h3.1 h3.2)]
      · rw[if_neg h3,if_neg (fun e=>h3 ⟨congrArg pq e,congrArg pv e⟩)]
theorem Ji{ts:List T3}(h:(aQ ts).Nodup)(p q:P3):cD (Fv [] (kS ts)) (p,q)=bR ts p q:=by
 rw[abI _ _ _ (by rw[nA];exact h),Ai];cases cD (kS ts) (p,q) <;> rfl
theorem vI{ts:List T3}(h:((x,y),z)∈kS ts):((y,z),x)∈kS ts:=by
 obtain⟨t,ht,hx⟩:=dl.1 h;refine dl.2 ⟨t,ht,?_⟩;simp only[an,cl,or_false,fk] at hx ⊢;rcases hx with ⟨⟨rfl,rfl⟩,rfl⟩ | ⟨⟨rfl,rfl⟩,rfl⟩ | ⟨⟨rfl,rfl⟩,rfl⟩
 · exact .inr (.inl ⟨⟨rfl,rfl⟩,rfl⟩)
 · exact .inr (.inr ⟨⟨rfl,rfl⟩,rfl⟩)
 · exact .inl ⟨⟨rfl,rfl⟩,rfl⟩
theorem vJ{ts:List T3}(h:(aQ ts).Nodup){e:E3}(h1:(e,x)∈kS ts)(h2:(e,y)∈kS ts):x=y:=by
 have k:((kS ts).map (·.1)).Nodup:=by rw[nA];exact h
 have a:=pE k h1;rw[pE k h2] at a;exact (ep a).symm
theorem rF{ts:List T3}{p:P3}(h:bR ts p q=some x):((p,q),x)∈kS ts:=sD (by rw[←Ai];exact h)
theorem wL{ts:List T3}{p:P3}(h:bR ts p q=some x):(p,q)∈aQ ts:=by
 rw[←nA];exact cw.2 ⟨_,rF h,rfl⟩
theorem Dj{ts:List T3}{p:P3}(h:(p,q)∈aQ ts):∃x,bR ts p q=some x:=by
 rw[Ai];cases e:cD (kS ts) (p,q) with
 | some x=>exact⟨x,rfl⟩
 | none =>
  have:=kO.1 e;rw[nA] at this;exact absurd h this
theorem adx{ts:List T3}(h:(aQ ts).Nodup){p:P3}(h1:bR ts p x=some z)(h2:bR ts p y=some z):x=y :=
 vJ h (vI (vI (rF h1))) (vI (vI (rF h2)))
def rG(ts:List T3)(p:P3):Nat→P3→Option P3
 | 0,x=>some x
 | n+1,x=>(bR ts p x).bind (rG ts p n)
theorem Dk{ts:List T3}{p:P3}:∀(n:Nat) (x:P3),rG ts p (n+1) x=(rG ts p n x).bind (bR ts p)
 | 0,x=>by simp[rG]
 | n+1,x=>by
  rw[rG];cases h:bR ts p x with
  | none=>simp[rG,h]
  | some y =>
   rw[iu,Dk n y,rG,h];rfl
theorem Sf{ms:List T3}{p s:P3}:∀(n:Nat) (x:P3),oF ms p s n x=true↔∃j,1≤j∧j≤n∧rG ms p j x=some s
 | 0,x=>⟨fun h=>(by cases h),fun⟨j,h1,h2,_⟩=>by omega⟩
 | n+1,x=>by
  cases h:bR ms p x with
  | none =>
   rw[Wj h];refine⟨fun k=>(by cases k),fun⟨j,h1,_,h3⟩=>?_⟩;obtain⟨i,rfl⟩:∃i,j=i+1:=⟨j-1,by omega⟩
   rw[rG,h] at h3;cases h3
  | some y =>
   by_cases e:y=s
   · subst e
     rw[abr h];exact⟨fun _=>⟨1,ao _,by omega,by simp[rG,h]⟩,fun _=>rfl⟩
   · rw[Wk h e,Sf n y]
     constructor
     · rintro⟨j,h1,h2,h3⟩
       exact⟨j+1,by omega,by omega,by rw[rG,h];exact h3⟩
     · rintro⟨j,h1,h2,h3⟩
       obtain⟨i,rfl⟩:∃i,j=i+1:=⟨j-1,by omega⟩
       rw[rG,h,iu] at h3;cases i with
       | zero=>exact absurd (ep h3) e
       | succ i=>exact⟨i+1,by omega,by omega,h3⟩
def Dl(nx:P3→Option P3)(s:P3):Nat→P3→Nat→P3 × Nat
 | 0,a,z=>(a,z)
 | n+1,a,z=>if a=s then (a,z) else match nx a with | none=>(a,z) | some b=>Dl nx s n b (z+1)
theorem aiQ{nx:P3→Option P3}{z:Nat}:Dl nx s n s z=(s,z):=by
 cases n with
 | zero=>rfl
 | succ n=>rw[Dl,if_pos rfl]
theorem aad{ts:List T3}{p s:P3}{M:Nat}:∀(n:Nat) (a:P3) (z:Nat),n=M+1-z→((Dl (bR ts p) s n a z).1=s∧(Dl (bR ts p) s n a z).2<M↔∃j,z≤j∧j<M∧rG ts p (j-z) a=some s)
 | 0,a,z,h=>by
  rw[Dl];refine⟨fun k=>?_,fun⟨j,h1,h2,_⟩=>?_⟩
  · have:=k.2;simp only at this;omega
  · omega
 | n+1,a,z,h=>by
  rw[Dl];by_cases e:a=s
  · rw[if_pos e]
    refine⟨fun k=>⟨z,ao _,k.2,by rw[lc,rG,e]⟩,fun⟨j,h1,h2,_⟩=>⟨e,by simp only;omega⟩⟩
  · rw[if_neg e]
    cases hb:bR ts p a with
    | none =>
     refine⟨fun k=>absurd k.1 e,fun⟨j,h1,h2,h3⟩=>?_⟩;cases hj:j-z with
     | zero=>rw[hj,rG] at h3;exact absurd (ep h3) e
     | succ i=>rw[hj,rG,hb] at h3;cases h3
    | some b =>
     rw[aad n b (z+1) (by omega)];constructor
     · rintro⟨j,h1,h2,h3⟩
       refine⟨j,by omega,h2,?_⟩;rw[show j-z=(j-(z+1))+1 by omega,rG,hb];exact h3
     · rintro⟨j,h1,h2,h3⟩
       rcases Nat.lt_or_ge z j with hz | hz
       · refine⟨j,by omega,h2,?_⟩
         rw[show j-z=(j-(z+1))+1 by omega,rG,hb] at h3;exact h3
       · rw[show j-z=0 by omega,rG] at h3
         exact absurd (ep h3) e
/-! ### The triangles of a corner -/
theorem amj{t:T3}{p:P3}(h:t.fnd p q=some x):∃c,c<3∧t.cor c=p:=by
 unfold T3.fnd at h;split at h
 · rename_i h';exact⟨0,by decide,h'.1⟩
 · split at h
   · rename_i h';exact⟨1,by decide,h'.1⟩
   · split at h
     · rename_i h';exact⟨2,by decide,h'.1⟩
     · cases h
theorem ady{ts us:List T3}{p:P3}:bR (ts++us) p q=match bR ts p q with | some x=>some x | none=>bR us p q:=by
 induction ts with
 | nil=>rfl
 | cons t ts ih =>
  rw[List.cons_append,bR,bR];cases t.fnd p q with
  | some x=>rfl
  | none=>exact ih
theorem agz{t u:T3}{p:P3}(h:u∈xW p t 3):u=t∧∃c,c<3∧t.cor c=p:=by
 obtain⟨c,hc,h⟩:=dl.1 h;unfold Rq at h;split at h
 · rename_i e
   exact⟨az.1 h,c,fe.1 hc,e⟩
 · cases h
theorem adz{t:T3}{p:P3}{c:Nat}(hc:c<3)(h:t.cor c=p):t∈xW p t 3 :=
 dl.2 ⟨c,fe.2 hc,by rw[Rq,if_pos h];exact az.2 rfl⟩
theorem Sg{t:T3}{p q:P3}:∀us:List T3,(∀u∈us,u=t)→bR us p q=if us=[] then none else t.fnd p q
 | [],_=>rfl
 | u::us,h=>by
  have e:=h u (bh ..);have ih:=Sg (p:=p) (q:=q) us fun v hv=>h v (bg _ hv);rw[bR,e,if_neg (by simp)];cases hf:t.fnd p q with
  | some x=>rfl
  | none =>
   simp only;rw[ih];split
   · rfl
   · exact hf
theorem Of(p q:P3):∀ts:List T3,bR (oE ts p) p q=bR ts p q
 | []=>rfl
 | t::ts=>by
  have e:oE (t::ts) p=xW p t 3++oE ts p:=by simp[oE]
  rw[e,ady,Of p q ts,bR,Sg (t:=t) _ (fun u hu=>(agz hu).1)];by_cases h:xW p t 3=[]
  · rw[if_pos h]
    cases hf:t.fnd p q with
    | none=>rfl
    | some x =>
     obtain⟨c,hc,k⟩:=amj hf;have:=adz hc k;rw[h] at this;cases this
  · rw[if_neg h] <;> rfl
theorem Jj(ts:List T3)(p:P3):∀(n:Nat) (x:P3),rG (oE ts p) p n x=rG ts p n x
 | 0,_=>rfl
 | n+1,x=>by
  rw[rG,rG,Of];cases bR ts p x with
  | none=>rfl
  | some y=>exact Jj ts p n y
theorem Sh(p:P3):∀ts:List T3,(oE ts p).length=wB (cA ts) p
 | []=>rfl
 | t::ts=>by
  have ih:=Sh p ts;have e:oE (t::ts) p=xW p t 3++oE ts p:=by simp[oE]
  have e2:cA (t::ts)=[t.a,t.b,t.c]++cA ts:=rfl;rw[e,e2,a_,aiO,ih]
  congr 1
  have r3:c_ 3=[0,1,2]:=rfl;unfold xW;rw[r3];simp only[b_,lv,eo,a_,Rq];rw[Fh,Fh,Fh];have k:∀(c:Nat) (x:P3),t.cor c=x→(if t.cor c=p then [t] else []).length=if x=p then 1 else 0:=fun c x hx=>by
   subst hx;split <;> rfl
  rw[k 0 t.a rfl,k 1 t.b rfl,k 2 t.c rfl];rfl
theorem Xa{p:P3}{ts:List T3}:s∈vA ts p↔(p,s)∈aQ ts:=by
 unfold vA aQ;rw[dl,dl];refine exists_congr fun t=>and_congr Iff.rfl ?_;unfold Db;rw[show c_ 3=[0,1,2] from rfl];simp only[b_,lv,eo,br,Rr,an,cl,or_false,fk];have k:∀(c:Nat) (x y:P3),t.cor c=x→t.cor ((c+1)%3)=y→(s∈(if t.cor c=p then [t.cor ((c+1)%3)] else [])↔p=x∧s=y):=fun c x y hx hy=>by
  subst hx;subst hy;split
  · rename_i h;rw[az];exact⟨fun e=>⟨h.symm,e⟩,fun e=>e.2⟩
  · rename_i h;exact⟨fun e=>(by cases e),fun e=>absurd e.1.symm h⟩
 rw[k 0 t.a t.b rfl rfl,k 1 t.b t.c rfl rfl,k 2 t.c t.a rfl rfl]
theorem Mc{ps:List P3}{p:P3}:x∈iD ps p↔x=p∨x∈ps:=by
 unfold iD;split
 · rename_i h
   exact⟨.inr,fun k=>k.elim (fun e=>e▸bj h) id⟩
 · conv=>rhs;rw[←mn (abq ps p) ps]
   simp only[br,az];exact⟨fun h=>h.elim (fun h=>h.elim (fun h=>.inr (.inl h)) .inl) (fun h=>.inr (.inr h)),fun h=>h.elim (fun h=>.inl (.inr h)) (fun h=>h.elim (fun h=>.inl (.inl h)) .inr)⟩
theorem iU{ts:List T3}:x∈bM ts↔x∈cA ts:=by
 have:∀(ts:List T3) (ps:List P3),x∈ts.foldl (fun ps t=>iD (iD (iD ps t.a) t.b) t.c) ps↔x∈ps∨x∈cA ts:=by
  intro ts
  induction ts with
  | nil=>intro ps;simp[cA]
  | cons t ts ih =>
   intro ps;rw[List.foldl_cons,ih,Mc,Mc,Mc];have e:cA (t::ts)=[t.a,t.b,t.c]++cA ts:=rfl;rw[e];simp only[br,an,cl,or_false];constructor
   · rintro ((h | h | h | h) | h)
     · exact .inr (.inl (.inr (.inr h)))
     · exact .inr (.inl (.inr (.inl h)))
     · exact .inr (.inl (.inl h))
     · exact .inl h
     · exact .inr (.inr h)
   · rintro (h | (h | h | h) | h)
     · exact .inl (.inr (.inr (.inr h)))
     · exact .inl (.inr (.inr (.inl h)))
     · exact .inl (.inr (.inl h))
     · exact .inl (.inl h)
     · exact .inr h
 have:=this ts [];simpa[bM] using this
theorem xZ{ts:List T3}{e:E3}(h:e∈aQ ts):e.1∈cA ts∧e.2∈cA ts:=by
 obtain⟨t,ht,hx⟩:=dl.1 h;have key:∀x,x=t.a∨x=t.b∨x=t.c→x∈cA ts:=fun x hx=>dl.2 ⟨t,ht,by simpa using hx⟩;simp only[an,cl,or_false] at hx;rcases hx with rfl | rfl | rfl
 · exact⟨key _ (.inl rfl),key _ (.inr (.inl rfl))⟩
 · exact⟨key _ (.inr (.inl rfl)),key _ (.inr (.inr rfl))⟩
 · exact⟨key _ (.inr (.inr rfl)),key _ (.inl rfl)⟩
def aae(ts:List T3)(e:E3):Prop:=∃x,bR ts e.1 e.2=some x∧(Dl (bR ts e.1) e.2 (wB (cA ts) e.1+1-1) x 1).1=e.2∧(Dl (bR ts e.1) e.2 (wB (cA ts) e.1+1-1) x 1).2<wB (cA ts) e.1
theorem Si{ts:List T3}{e:E3}:aae ts e↔e∈aQ ts∧oF (oE ts e.1) e.1 e.2 ((oE ts e.1).length-1) e.2=true:=by
 rw[Sf,Sh];constructor
 · rintro⟨x,hx,h⟩
   obtain⟨j,h1,h2,h3⟩:=(aad (M:=wB (cA ts) e.1) _ x 1 (by omega)).1 h;refine⟨wL hx,j,h1,by omega,?_⟩;rw[Jj,show j=(j-1)+1 by omega,rG,hx];exact h3
 · rintro⟨he,j,h1,h2,h3⟩
   obtain⟨x,hx⟩:=Dj he;refine⟨x,hx,(aad (M:=wB (cA ts) e.1) _ x 1 (by omega)).2 ⟨j,h1,by omega,?_⟩⟩;rw[Jj,show j=(j-1)+1 by omega,rG,hx] at h3;exact h3
theorem pinned{ts:List T3}:(bM ts).any (Dd ts)=true↔∃e,aae ts e:=by
 rw[ew];constructor
 · rintro⟨p,_,h⟩
   obtain⟨s,hs,hr⟩:=ew.1 h;exact⟨(p,s),Si.2 ⟨Xa.1 hs,hr⟩⟩
 · rintro⟨e,h⟩
   obtain⟨he,hr⟩:=Si.1 h;exact⟨e.1,iU.2 (xZ he).1,ew.2 ⟨e.2,Xa.2 he,hr⟩⟩
/-! ### The ends of fans -/
def amk(ts:List T3)(p:P3):Nat→P3→P3
 | 0,a=>a
 | n+1,a=>match bR ts p a with
  | none=>a
  | some x=>amk ts p n x
def tG(ts:List T3):Prop:=∀t∈ts,oG t=false
theorem apm{t:T3}(h:oG t=false):t.a≠t.b∧t.b≠t.c∧t.c≠t.a:=by
 unfold oG at h;simp only[Bool.or_eq_false_iff,decide_eq_false_iff_not] at h;exact⟨h.1.1,h.1.2,h.2⟩
theorem aaf{ts:List T3}{p:P3}:∀(i j:Nat) (a:P3),rG ts p (i+j) a=(rG ts p i a).bind (rG ts p j)
 | 0,j,a=>by simp[rG]
 | i+1,j,a=>by
  rw[show i+1+j=(i+j)+1 by omega,rG,rG];cases bR ts p a with
  | none=>rfl
  | some y=>rw[iu,iu];exact aaf i j y
/-! ### As the reference says it -/
abbrev Mv:=P3 × P3
def yA:List Mv→P3→P3
 | [],p=>p
 | m::ms,p=>if m.1=p then m.2 else yA ms p
def T3.has(t:T3)(p:P3):Bool:=decide (t.a=p)||decide (t.b=p)||decide (t.c=p)
def apn(ts:List T3)(p:P3):Bool:=ts.any fun t=>t.has p
def mN(ts:List T3)(p q:P3):Bool:=ts.any fun t=>t.has p&&t.has q
def Uv(rim:List E3)(p:P3):Bool:=rim.any fun e=>decide (e.1=p)||decide (e.2=p)
def dR(t:T3):T3:=if t.c.Lt t.a∧(t.c.Lt t.b∨¬t.b.Lt t.a) then ⟨t.c,t.a,t.b⟩ else if t.b.Lt t.a then ⟨t.b,t.c,t.a⟩ else t
theorem Md{t u:T3}(h1:t.a=u.a)(h2:t.b=u.b)(h3:t.c=u.c):t=u:=by
 cases t;cases u;simp only at h1 h2 h3;subst h1;subst h2;subst h3;rfl
instance:DecidableEq T3:=fun t u=>decidable_of_iff (t.a=u.a∧t.b=u.b∧t.c=u.c) ⟨fun h=>Md h.1 h.2.1 h.2.2,fun h=>by rw[h];exact⟨rfl,rfl,rfl⟩⟩
def T3.img(ms:List Mv)(t:T3):T3:=⟨yA ms t.a,yA ms t.b,yA ms t.c⟩
def T3.nd(t:T3):Bool:=decide (t.a≠t.b)&&decide (t.b≠t.c)&&decide (t.c≠t.a)
/-! ### Corners and edges -/
theorem jQ{t:T3}{p:P3}:t.has p=true↔p=t.a∨p=t.b∨p=t.c:=by
 unfold T3.has;simp only[gg,decide_eq_true_eq,or_assoc];exact or_congr ⟨Eq.symm,Eq.symm⟩ (or_congr ⟨Eq.symm,Eq.symm⟩ ⟨Eq.symm,Eq.symm⟩)
theorem aiR{ts:List T3}{p:P3}:apn ts p=true↔p∈cA ts:=by
 unfold apn cA;rw[ew,dl];exact exists_congr fun t=>and_congr Iff.rfl (by rw[jQ];simp)
theorem kU{ts:List T3}{p:P3}:mN ts p q=true↔∃t∈ts,t.has p=true∧t.has q=true:=by
 unfold mN;rw[ew];exact exists_congr fun t=>and_congr Iff.rfl (by rw[ba])
theorem jB{ts:List T3}{p:P3}(h:mN ts p q=true):mN ts q p=true:=by
 obtain⟨t,ht,h1,h2⟩:=kU.1 h;exact kU.2 ⟨t,ht,h2,h1⟩
theorem Xb{ts:List T3}{p:P3}:mN ts p p=true↔p∈cA ts:=by
 rw[kU,←aiR,apn,ew];exact exists_congr fun t=>and_congr Iff.rfl ⟨fun h=>h.1,fun h=>⟨h,h⟩⟩
theorem agA{ts:List T3}{p:P3}(h:mN ts p q=true):mN ts p p=true:=by
 obtain⟨t,ht,h1,_⟩:=kU.1 h;exact kU.2 ⟨t,ht,h1,h1⟩
theorem adA{ts:List T3}{e:E3}(h:e∈aQ ts):mN ts e.1 e.2=true:=by
 obtain⟨t,ht,hx⟩:=dl.1 h;refine kU.2 ⟨t,ht,?_,?_⟩ <;> rw[jQ] <;> (simp only[an,cl,or_false] at hx;rcases hx with rfl | rfl | rfl <;> simp)
theorem adB{ts:List T3}{p:P3}(h:mN ts p q=true)(hne:p≠q):(p,q)∈aQ ts∨(q,p)∈aQ ts:=by
 obtain⟨t,ht,h1,h2⟩:=kU.1 h;have key:∀e,e=(t.a,t.b)∨e=(t.b,t.c)∨e=(t.c,t.a)→e∈aQ ts:=fun e he=>dl.2 ⟨t,ht,by simpa using he⟩;rcases jQ.1 h1 with rfl | rfl | rfl <;> rcases jQ.1 h2 with rfl | rfl | rfl
 · exact absurd rfl hne
 · exact .inl (key _ (.inl rfl))
 · exact .inr (key _ (.inr (.inr rfl)))
 · exact .inr (key _ (.inl rfl))
 · exact absurd rfl hne
 · exact .inl (key _ (.inr (.inl rfl)))
 · exact .inl (key _ (.inr (.inr rfl)))
 · exact .inr (key _ (.inr (.inl rfl)))
 · exact absurd rfl hne
/-! ### The border -/
/-! ### The ends of fans -/
theorem oP.nodup{es:List E3}(h:oP es):es.Nodup:=List.Pairwise.imp (fun {a b} (k:Le a b) (e:a=b)=>Le.irrefl b (e▸k)) h
/-! ### Moves -/
theorem ae5(p:P3):∀ms:List Mv,yA ms p=(cD ms p).getD p
 | []=>rfl
 | m::ms=>by
  rw[yA,cD];split
  · rfl
  · exact ae5 p ms
/-! ### Covers -/
def arU(ms:List Mv)(ts:List T3):List T3:=(ts.filter fun t=>(t.img ms).nd).map fun t=>dR (t.img ms)
abbrev adC(x:Nat):ai:=.int .i64 (x:Int)
section
variable {w w':aj} {b:Nat} {A:Option Addr} {n cap:Nat} {xs:List Nat}
end
section
variable {P:bv} {ds:List dw} {l:List ai} {T ty:av}
variable {ops:Array Oper} {Q:Exit→Act→aj→Prop} {rest:List Oper} {d:Nat} {pos:String} {after:Array Edge} {w:aj}
end
instance (a:Int):Decidable (rN a):=inferInstanceAs (Decidable (_∧_))
/-! ### What CheckOpen says -/
theorem Jk{ts:List T3}(h:dC true ts=0):tG ts∧(aQ ts).Nodup:=by
 unfold dC at h;split at h
 · cases h
 · rename_i h1
   split at h
   · cases h
   · rename_i h2
     refine⟨fun t ht=>?_,?_⟩
     · cases hd:oG t with
       | false=>rfl
       | true=>exact absurd (ew.2 ⟨t,ht,hd⟩) h1
     · rw[Jh] at h2
       exact Decidable.not_not.1 fun k=>h2 (decide_eq_true k)
def arV(t:T3):List E3:=[(t.a,t.b),(t.b,t.c),(t.c,t.a)]
theorem nd_of{t:T3}(h:oG t=false):t.nd=true:=by
 obtain⟨h1,h2,h3⟩:=apm h;simp[T3.nd,h1,h2,h3]
/-! ### One far move -/
theorem P3.lt_asymm{p:P3}(h:p.Lt q):¬q.Lt p:=fun k=>P3.lt_irrefl _ (P3.lt_trans h k)
theorem Sj{t:T3}(h:t.nd=true):dR ⟨t.b,t.c,t.a⟩=dR t:=by
 unfold T3.nd at h;simp only[ba,decide_eq_true_eq] at h;obtain⟨⟨h1,h2⟩,h3⟩:=h;unfold dR;simp only;rcases P3.lt_tri t.a t.b with ab | ab | ab
 · rcases P3.lt_tri t.b t.c with bc | bc | bc
   · have ac:=P3.lt_trans ab bc
     simp[ab,bc,ac,P3.lt_asymm ab,P3.lt_asymm bc,P3.lt_asymm ac]
   · exact absurd bc h2
   · rcases P3.lt_tri t.a t.c with ac | ac | ac
     · simp[ab,bc,ac,P3.lt_asymm ab,P3.lt_asymm bc,P3.lt_asymm ac]
     · exact absurd ac.symm h3
     · simp[ab,bc,ac,P3.lt_asymm ab,P3.lt_asymm bc,P3.lt_asymm ac]
 · exact absurd ab h1
 · rcases P3.lt_tri t.b t.c with bc | bc | bc
   · rcases P3.lt_tri t.a t.c with ac | ac | ac
     · simp[ab,bc,ac,P3.lt_asymm ab,P3.lt_asymm bc,P3.lt_asymm ac]
     · exact absurd ac.symm h3
     · simp[ab,bc,ac,P3.lt_asymm ab,P3.lt_asymm bc,P3.lt_asymm ac]
   · exact absurd bc h2
   · have ca:=P3.lt_trans bc ab
     simp[ab,bc,ca,P3.lt_asymm ab,P3.lt_asymm bc,P3.lt_asymm ca]
theorem Pt{t:T3}:(⟨t.b,t.c,t.a⟩:T3).nd=t.nd:=by
 unfold T3.nd;simp only;cases decide (t.a≠t.b) <;> cases decide (t.b≠t.c) <;> cases decide (t.c≠t.a) <;> rfl
def Hh(t u:T3):Prop:=u=t∨u=⟨t.b,t.c,t.a⟩∨u=⟨t.c,t.a,t.b⟩
theorem vK{t u:T3}(h:Hh t u)(hn:t.nd=true):dR u=dR t:=by
 rcases h with rfl | rfl | rfl
 · rfl
 · exact Sj hn
 · have h2:=Sj (t:=⟨t.b,t.c,t.a⟩) (by rw[Pt];exact hn)
   exact h2.trans (Sj hn)
theorem aag{t u:T3}(h:Hh t u):u.nd=t.nd:=by
 rcases h with rfl | rfl | rfl
 · rfl
 · exact Pt
 · exact (Pt (t:=⟨t.b,t.c,t.a⟩)).trans Pt
/-! ### Edges of a list in which triangles are changed -/
def wM(ts:List T3)(e:E3):Prop:=e∈aQ ts∧(e.2,e.1)∉aQ ts
theorem Dn{ts:List T3}{e:E3}:e∈aY ts↔wM ts e:=Hf
theorem wN{ts us:List T3}(h:∀e,wM ts e↔wM us e):aY ts=aY us :=
 Oe (rP ts) (rP us) fun e=>Dn.trans ((h e).trans Dn.symm)
section
variable {p:P3} {X:E3→Prop} {old new R fine fine':List T3}
end
/-! ### The two kinds of division -/
theorem abK{t u:T3}(h:Hh t u)(x:P3):u.has x=t.has x:=by
 unfold T3.has;rcases h with rfl | rfl | rfl
 · rfl
 · simp only;cases decide (t.a=x) <;> cases decide (t.b=x) <;> cases decide (t.c=x) <;> rfl
 · simp only;cases decide (t.a=x) <;> cases decide (t.b=x) <;> cases decide (t.c=x) <;> rfl
def aiS(t:T3):List (E3 × P3):=[((t.a,t.b),t.c),((t.b,t.c),t.a),((t.c,t.a),t.b)]
theorem dP{ts:List T3}{x:E3 × P3}:x∈kS ts↔∃t∈ts,x∈aiS t:=dl
theorem adD{ts us:List T3}(h:ts.Perm us){x:E3 × P3}:x∈kS ts↔x∈kS us:=by
 rw[dP,dP];exact exists_congr fun t=>and_congr h.mem_iff Iff.rfl
/-! ### Images -/
section
variable {l fine fine' R:List T3} {ms:List Mv} {B B':Int} {p:P3}
end
theorem Do{ts:List T3}  : x∈cA ts↔∃t∈ts,x=t.cor 0∨x=t.cor 1∨x=t.cor 2:=by
 unfold cA;rw[dl];exact exists_congr fun t=>and_congr Iff.rfl (by simp[T3.cor])
def tH(a b c:P3):P3:=(b.sub a).cross (c.sub a)
def Ig(a b c d:P3):Int:=(tH a b c).dot (d.sub a)
def cO(v:P3)(k:Nat):Int:=if k=0 then v.x else if k=1 then v.y else v.z
def Pu(v:P3):Nat:=if v.x≠0 then 0 else if v.y≠0 then 1 else if v.z≠0 then 2 else 3
/-! ### Points in a plane -/
def Z3(u:P3):Prop:=u.x=0∧u.y=0∧u.z=0
instance (u:P3):Decidable (Z3 u):=inferInstanceAs (Decidable (_∧_∧_))
def wO(p q:P3):P3:=if q.Lt p then q else p
def Cg(p q:P3):P3:=if q.Lt p then p else q
def aiT(a b c:P3):Bool:=decide (Pu (tH a b c)=3)
def arW(p q r s:P3):Bool:=(if wO p q=Cg p q then aiT (wO r s) (Cg r s) (wO p q) else aiT (wO p q) (Cg p q) (wO r s)) && !decide ((Cg p q).Lt (wO r s)) && !decide ((Cg r s).Lt (wO p q))
def Hi(p q r s:P3):P3:=(q.sub p).cross (s.sub r)
def lJ(p q r s:P3):Bool :=
 if Pu (Hi p q r s)<3 then
  decide (Ig p q r s=0)&&decide (cO (tH p q r) (Pu (Hi p q r s))*cO (tH p q s) (Pu (Hi p q r s))≤0)&&decide (cO (tH r s p) (Pu (Hi p q r s))*cO (tH r s q) (Pu (Hi p q r s))≤0)
 else arW p q r s
theorem lt_tri(p q:P3):p.Lt q∨p=q∨q.Lt p:=by
 by_cases h:p=q
 · exact .inr (.inl h)
 · have:¬(p.x=q.x∧p.y=q.y∧p.z=q.z):=fun k=>h (P3.eq k.1 k.2.1 k.2.2)
   unfold P3.Lt;omega
/-! ### In the plane of a triangle -/
def wth(a b c x:P3)(k:Nat):Prop:=(0≤cO (tH a b x) k∧0≤cO (tH b c x) k∧0≤cO (tH c a x) k)∨(cO (tH a b x) k≤0∧cO (tH b c x) k≤0∧cO (tH c a x) k≤0)
instance (a b c x:P3)(k:Nat):Decidable (wth a b c x k):=by unfold wth;infer_instance
def arX(x y z:Int):Bool:=(decide (0≤x)&&decide (0≤y)&&decide (0≤z))||(decide (x≤0)&&decide (y≤0)&&decide (z≤0))
def jR(p q:P3)(t:T3):Bool :=
 if Pu (tH t.a t.b t.c)<3 then
  if 0<Ig t.a t.b t.c p*Ig t.a t.b t.c q then false
  else if Ig t.a t.b t.c p=0∧Ig t.a t.b t.c q=0 then lJ p q t.a t.b||lJ p q t.b t.c||lJ p q t.c t.a||decide (wth t.a t.b t.c p (Pu (tH t.a t.b t.c)))
  else arX (Ig p q t.a t.b) (Ig p q t.b t.c) (Ig p q t.c t.a)
 else lJ p q (wO (wO t.a t.b) t.c) (Cg (Cg t.a t.b) t.c)
/-! ### Two places of a list -/
/-! ### A step -/
/-! ### The surfaces -/
def T3.mapP(f:P3→P3)(t:T3):T3:=⟨f t.a,f t.b,f t.c⟩
section
variable {f:P3→P3} {S:P3→Prop} {ts:List T3}
end
theorem Xc{ts:List T3}:(bM ts).any (Dd ts)=true↔∃e∈aQ ts,∃j,1≤j∧j<wB (cA ts) e.1∧rG ts e.1 j e.2=some e.2:=by
 rw[pinned];refine exists_congr fun e=>?_;rw[Si,Sf,Sh];refine and_congr Iff.rfl (exists_congr fun j=>?_);rw[Jj];constructor
 · rintro⟨h1,h2,h3⟩;exact⟨h1,by omega,h3⟩
 · rintro⟨h1,h2,h3⟩;exact⟨h1,by omega,h3⟩
theorem agB{ts:List T3}:dC true ts=0↔tG ts∧(aQ ts).Nodup∧¬∃e∈aQ ts,∃j,1≤j∧j<wB (cA ts) e.1∧rG ts e.1 j e.2=some e.2:=by
 constructor
 · intro h
   obtain⟨h1,h2⟩:=Jk h;refine⟨h1,h2,fun k=>?_⟩;have hp:=Xc.2 k;have hd:ts.any oG=false:=ob.2 fun t ht=>by rw[h1 t ht];exact fz
   have hn:=Jh (es:=aQ ts);rw[decide_eq_false (fun k=>k h2)] at hn;unfold dC at h;rw[hd,hn,hp] at h;simp at h
 · rintro⟨h1,h2,h3⟩
   have hp:(bM ts).any (Dd ts)=false:=by
    cases hh:(bM ts).any (Dd ts) with
    | false=>rfl
    | true=>exact absurd (Xc.1 hh) h3
   have hd:ts.any oG=false:=ob.2 fun t ht=>by rw[h1 t ht];exact fz
   have hn:=Jh (es:=aQ ts);rw[decide_eq_false (fun k=>k h2)] at hn;unfold dC;rw[hd,hn,hp];rfl
/-! ### An edge is divided -/
section
variable {f:P3→P3} {S:P3→Prop}
end
inductive nX(N:P3→P3→Prop):P3→P3→Prop
 | refl (a:P3):nX N a a
 | tail {a b c:P3} (h:nX N a b) (s:N b c):nX N a c
section
variable {N N':P3→P3→Prop} {a b c p q x0 y0:P3}
theorem nX.one(h:N a b):nX N a b:=.tail (.refl a) h
theorem nX.trans(h:nX N a b)(k:nX N b c):nX N a c:=by
 induction k with
 | refl=>exact h
 | tail _ s ih=>exact .tail ih s
theorem nX.head(h:nX N a b):a=b∨∃c,N a c∧nX N c b:=by
 induction h with
 | refl=>exact .inl rfl
 | tail _ s ih =>
  rcases ih with rfl | ⟨d,hd,k⟩
  · exact .inr ⟨_,s,.refl _⟩
  · exact .inr ⟨d,hd,.tail k s⟩
def Cyc(N:P3→P3→Prop)(s:P3):Prop:=∃y,N s y∧nX N y s
def nY(N:P3→P3→Prop):Prop:=∀s,Cyc N s→∀x y,N x y→nX N s x
def Pc(N:P3→P3→Prop)(a z:P3):Prop:=nX N a z∧∀y,¬N z y
/-! ### A corner between two -/
structure Ins(p x0 y0:P3)(N N':P3→P3→Prop):Prop where
 no:∀x y,N x y→x≠p∧y≠p
 was:N x0 y0
 iff:∀x y,N' x y↔(N x y∧¬(x=x0∧y=y0))∨(x=x0∧y=p)∨(x=p∧y=y0)
theorem Ins.up(h:Ins p x0 y0 N N')(k:nX N a b):nX N' a b:=by
 induction k with
 | refl=>exact .refl _
 | @tail b c _ s ih =>
  by_cases e:b=x0∧c=y0
  · obtain⟨rfl,rfl⟩:=e
    exact .tail (.tail ih ((h.iff _ _).2 (.inr (.inl ⟨rfl,rfl⟩)))) ((h.iff _ _).2 (.inr (.inr ⟨rfl,rfl⟩)))
  · exact .tail ih ((h.iff _ _).2 (.inl ⟨s,e⟩))
theorem Ins.down(h:Ins p x0 y0 N N')(ha:a≠p)(k:nX N' a b):(b≠p∧nX N a b)∨(b=p∧nX N a x0):=by
 obtain⟨n1,n2⟩:=h.no _ _ h.was
 induction k with
 | refl=>exact .inl ⟨ha,.refl _⟩
 | @tail b c _ s ih =>
  rcases (h.iff _ _).1 s with ⟨s,_⟩ | ⟨rfl,rfl⟩ | ⟨rfl,rfl⟩
  · rcases ih with ⟨_,ih⟩ | ⟨e,_⟩
    · exact .inl ⟨(h.no _ _ s).2,.tail ih s⟩
    · exact absurd e (h.no _ _ s).1
  · rcases ih with ⟨_,ih⟩ | ⟨e,_⟩
    · exact .inr ⟨rfl,ih⟩
    · exact absurd e n1
  · rcases ih with ⟨e,_⟩ | ⟨_,ih⟩
    · exact absurd rfl e
    · exact .inl ⟨n2,.tail ih h.was⟩
theorem Ins.fan(h:Ins p x0 y0 N N'){z:P3}(hz:z≠p)(k:Pc N a z):Pc N' a z :=
 ⟨h.up k.1,fun y hy=>by
  rcases (h.iff _ _).1 hy with ⟨s,_⟩ | ⟨rfl,rfl⟩ | ⟨e,_⟩
  · exact k.2 _ s
  · exact k.2 _ h.was
  · exact hz e⟩
/-! ### A corner in another's place -/
def ren(q p x:P3):P3:=if x=q then p else x
theorem an8:ren q p q=p:=if_pos rfl
theorem ae7{x:P3}(h:x≠q):ren q p x=x:=if_neg h
theorem aah{x y:P3}(hx:x≠p)(hy:y≠p)(h:ren q p x=ren q p y):x=y:=by
 unfold ren at h;by_cases e1:x=q <;> by_cases e2:y=q
 · rw[e1,e2]
 · rw[if_pos e1,if_neg e2] at h;exact absurd h.symm hy
 · rw[if_neg e1,if_pos e2] at h;exact absurd h hx
 · rwa [if_neg e1,if_neg e2] at h
structure Ren(q p:P3)(N N':P3→P3→Prop):Prop where
 no:∀x y,N x y→x≠p∧y≠p
 iff:∀x y,N' x y↔∃u v,N u v∧x=ren q p u∧y=ren q p v
theorem Ren.up(h:Ren q p N N')(k:nX N a b):nX N' (ren q p a) (ren q p b):=by
 induction k with
 | refl=>exact .refl _
 | tail _ s ih=>exact .tail ih ((h.iff _ _).2 ⟨_,_,s,rfl,rfl⟩)
theorem Ren.down(h:Ren q p N N')(ha:a≠p)(k:nX N' (ren q p a) b):∃c,c≠p∧b=ren q p c∧nX N a c:=by
 induction k with
 | refl=>exact⟨a,ha,rfl,.refl _⟩
 | tail _ s ih =>
  obtain⟨c,hc,rfl,r⟩:=ih;obtain⟨u,v,hs,e,rfl⟩:=(h.iff _ _).1 s;obtain rfl:=aah hc (h.no _ _ hs).1 e;exact⟨v,(h.no _ _ hs).2,rfl,.tail r hs⟩
theorem Ren.nopin(h:Ren q p N N')(hN:nY N):nY N':=by
 rintro s ⟨y,hy,hr⟩ x' y' hx;obtain⟨u,v,hs,rfl,rfl⟩:=(h.iff _ _).1 hy;obtain⟨n1,n2⟩:=h.no _ _ hs;obtain⟨c,hc,e,r⟩:=h.down n2 hr;obtain rfl:=aah n1 hc e;obtain⟨u2,v2,hs2,rfl,rfl⟩:=(h.iff _ _).1 hx;exact h.up (hN _ ⟨_,hs,r⟩ _ _ hs2)
theorem Ren.fan(h:Ren q p N N'){z:P3}(ha:a≠q)(hzq:z≠q)(hz:z≠p)(k:Pc N a z):Pc N' a z:=by
 have r:=h.up k.1;rw[ae7 ha,ae7 hzq] at r;refine⟨r,fun y hy=>?_⟩;obtain⟨u,v,hs,e,rfl⟩:=(h.iff _ _).1 hy;by_cases eu:u=q
 · rw[eu,an8] at e;exact hz e
 · rw[ae7 eu] at e;exact k.2 _ (e▸hs)
theorem adE(h:∀x y,N' x y↔N x y)(hN:nY N):nY N':=by
 have:N'=N:=funext fun x=>funext fun y=>propext (h x y);rwa [this]
theorem aiU(h:∀x y,N' x y↔N x y){z:P3}(k:Pc N a z):Pc N' a z:=by
 have:N'=N:=funext fun x=>funext fun y=>propext (h x y);rwa [this]
end
/-! ### The corners behind each other round a corner -/
def Nx(ts:List T3)(v x y:P3):Prop:=((v,x),y)∈kS ts
theorem Hj{ts:List T3}(hn:(aQ ts).Nodup){v:P3}:Nx ts v x y↔bR ts v x=some y:=by
 constructor
 · intro h
   obtain⟨z,hz⟩:=Dj (show (v,x)∈aQ ts by rw[←nA];exact cw.2 ⟨_,h,rfl⟩);rw[hz,vJ hn h (rF hz)]
 · exact rF
theorem adF{ts:List T3}(hn:(aQ ts).Nodup){v a b:P3}:nX (Nx ts v) a b↔∃n,rG ts v n a=some b:=by
 constructor
 · intro h
   induction h with
   | refl=>exact⟨0,rfl⟩
   | tail _ s ih =>
    obtain⟨n,h⟩:=ih;exact⟨n+1,by rw[Dk,h,iu];exact (Hj hn).1 s⟩
 · rintro⟨n,h⟩
   induction n generalizing b with
   | zero=>cases h;exact .refl _
   | succ n ih =>
    rw[Dk] at h;obtain⟨c,hc,h⟩:=lw.1 h;exact .tail (ih hc) ((Hj hn).2 h)
theorem an9{P:Nat→Prop}:∀n,P n→∃m,P m∧∀k,k<m→¬P k:=by
 intro n
 induction n using py with
 | _ n ih =>
  intro h;by_cases k:∃m,m<n∧P m
  · obtain⟨m,hm,hp⟩:=k
    exact ih m hm hp
  · exact⟨n,h,fun m hm hp=>k ⟨m,hm,hp⟩⟩
def Jl(ts:List T3)(v:P3):List P3:=((aQ ts).filter fun e=>decide (e.1=v)).map (·.2)
theorem Jm{ts:List T3}{v:P3}:x∈Jl ts v↔(v,x)∈aQ ts:=by
 unfold Jl;rw[cw];constructor
 · rintro⟨e,he,rfl⟩
   obtain⟨h1,h2⟩:=dh.1 he;rw[←of_decide_eq_true h2];exact h1
 · exact fun h=>⟨(v,x),dh.2 ⟨h,decide_eq_true rfl⟩,rfl⟩
theorem adG{ts:List T3}{v:P3}(hn:(aQ ts).Nodup):(Jl ts v).Nodup:=by
 unfold Jl;rw[List.Nodup,jn];refine (hn.sublist List.filter_sublist).imp_of_mem fun {a b} ha hb hne e=>hne ?_;have h1:=of_decide_eq_true (dh.1 ha).2;have h2:=of_decide_eq_true (dh.1 hb).2;exact nz (h1.trans h2.symm) e
theorem aiV:∀ts:List T3,(aQ ts).map (·.1)=cA ts:=by
 intro ts;unfold aQ cA;rw[List.map_flatMap];rfl
theorem abL(ts:List T3)(v:P3):(Jl ts v).length=wB (cA ts) v:=by
 rw[←aiV];unfold Jl wB;rw[bf,List.filter_map,bf];rfl
theorem full{S E:List P3}(hS:S.Nodup)(hs:∀x∈S,x∈E)(hl:E.length≤S.length):∀x∈E,x∈S:=fun x hx=>by
 refine Decidable.byContradiction fun hn=>?_;have h1:S.length≤(E.erase x).length:=mZ hS fun y hy=>by
  have hne:y≠x:=fun e=>hn (e▸hy);exact (ot hne).2 (hs y hy)
 rw[nj hx] at h1;have:0<E.length:=n_ hx;omega
theorem adH{ts:List T3}{v a b:P3}(h:rG ts v i a=some b):rG ts v (i+j) a=rG ts v j b:=by rw[aaf,h,iu]
theorem apo{ts:List T3}{v:P3}(h1:1≤j)(h:rG ts v j s=some s):∀n,rG ts v n s=rG ts v (n%j) s:=fun n=>by
 induction n using py with
 | _ n ih =>
  rcases Nat.lt_or_ge n j with hl | hl
  · rw[Nat.mod_eq_of_lt hl]
  · have e:n=j+(n-j):=by omega
    rw[e,adH h,ih (n-j) (by omega),Nat.add_mod_left]
theorem abM{ts:List T3}(hn:(aQ ts).Nodup){v s:P3}{j:Nat}(hm:∀k,1≤k→k<j→rG ts v k s≠some s):∀(i k:Nat) (x:P3),i<k→k<j→rG ts v i s=some x→rG ts v k s≠some x
 | 0,k,x,hik,hk,h,h2=>by cases h;exact hm k (by omega) hk h2
 | i+1,k,x,hik,hk,h,h2=>by
  obtain⟨m,rfl⟩:∃m,k=m+1:=⟨k-1,by omega⟩
  rw[Dk] at h h2;obtain⟨y,hy,hy'⟩:=lw.1 h;obtain⟨z,hz,hz'⟩:=lw.1 h2;obtain rfl:=adx hn hy' hz';exact abM hn hm i m y (by omega) (by omega) hy hz
theorem ae8{ts:List T3}{v a b:P3}(hij:i≤j)(h:rG ts v j a=some b):∃y,rG ts v i a=some y:=by
 have e:j=i+(j-i):=by omega
 rw[e,aaf] at h;obtain⟨y,hy,_⟩:=lw.1 h;exact⟨y,hy⟩
theorem Xd{ts:List T3}(hn:(aQ ts).Nodup){v s:P3}{j:Nat}(h1:1≤j)(h:rG ts v j s=some s)(hm:∀k,1≤k→k<j→rG ts v k s≠some s) :
 ∃L:List P3,L.Nodup∧L.length=j∧(∀x∈L,x∈Jl ts v)∧∀x,x∈L↔nX (Nx ts v) s x:=by
 have get:∀i,i≤j→∃y,rG ts v i s=some y:=fun i hi=>ae8 hi h;refine⟨(c_ j).map fun i=>(rG ts v i s).getD s,?_,by rw[bf,List.length_range],fun x hx=>?_,fun x=>?_⟩
 · rw[List.Nodup,jn]
   refine (List.pairwise_lt_range (n:=j)).imp_of_mem fun {a b} ha hb hab e=>?_;have hb':=fe.1 hb;obtain⟨y,hy⟩:=get a (by omega);obtain⟨z,hz⟩:=get b (by omega);rw[hy,hz] at e;obtain rfl:y=z:=e;exact abM hn hm a b y hab hb' hy hz
 · obtain⟨i,hi,rfl⟩:=cw.1 hx
   have hi':=fe.1 hi;obtain⟨y,hy⟩:=get i (by omega);obtain⟨z,hz⟩:=get (i+1) (by omega);rw[Dk,hy,iu] at hz;rw[hy];exact Jm.2 (wL hz)
 · rw[adF hn,cw]
   constructor
   · rintro⟨i,hi,rfl⟩
     obtain⟨y,hy⟩:=get i (by have:=fe.1 hi;omega);exact⟨i,by rw[hy];rfl⟩
   · rintro⟨n,hx⟩
     rw[apo h1 h] at hx;exact⟨n%j,fe.2 (Nat.mod_lt _ (by omega)),by rw[hx];rfl⟩
theorem Xe{ts:List T3}(hn:(aQ ts).Nodup):(¬∃e∈aQ ts,∃j,1≤j∧j<wB (cA ts) e.1∧rG ts e.1 j e.2=some e.2)↔∀v,nY (Nx ts v):=by
 constructor
 · rintro hno v s ⟨y,hy,hr⟩ x z hx
   obtain⟨n,hr⟩:=(adF hn).1 hr;have h0:rG ts v (1+n) s=some s:=by rw[adH (b:=y) (by rw[rG,(Hj hn).1 hy];rfl)];exact hr
   obtain⟨j,⟨hj1,hj⟩,hm⟩:=an9 (P:=fun k=>1≤k∧rG ts v k s=some s) (1+n) ⟨by omega,h0⟩;obtain⟨L,hL1,hL2,hL3,hL4⟩:=Xd hn hj1 hj (fun k h1 h2 h3=>hm k h2 ⟨h1,h3⟩);have hge:wB (cA ts) v≤j:=by
    refine ir fun hlt=>hno ⟨(v,s),wL ((Hj hn).1 hy),j,hj1,hlt,hj⟩
   exact (hL4 x).1 (full hL1 hL3 (by rw[hL2,abL];exact hge) x (Jm.2 (wL ((Hj hn).1 hx))))
 · rintro hall ⟨⟨v,s⟩,he,j0,h1,h2,h3⟩
   simp only at h2 h3;obtain⟨j,⟨hj1,hj⟩,hm⟩:=an9 (P:=fun k=>1≤k∧rG ts v k s=some s) j0 ⟨h1,h3⟩;have hjj:j≤j0:=ir fun hlt=>hm j0 hlt ⟨h1,h3⟩;obtain⟨L,hL1,hL2,hL3,hL4⟩:=Xd hn hj1 hj (fun k h1 h2 h3=>hm k h2 ⟨h1,h3⟩);have hcyc:Cyc (Nx ts v) s:=by
    obtain⟨y,hy⟩:=ae8 (i:=1) hj1 hj;have hy':bR ts v s=some y:=by
     rw[rG] at hy;cases hb:bR ts v s with
     | none=>rw[hb] at hy;cases hy
     | some w=>rw[hb] at hy;exact hy
    refine⟨y,(Hj hn).2 hy',(adF hn).2 ⟨j-1,?_⟩⟩;have e:j=1+(j-1):=by omega
    rw[e,adH hy] at hj;exact hj
   have hle:(Jl ts v).length≤L.length:=mZ (adG hn) fun x hx=>by
    obtain⟨y,hy⟩:=Dj (Jm.1 hx);exact (hL4 x).2 (hall v s hcyc x y ((Hj hn).2 hy))
   rw[abL,hL2] at hle;omega
theorem nB{ts:List T3}:dC true ts=0↔tG ts∧(aQ ts).Nodup∧∀v,nY (Nx ts v):=by
 rw[agB];constructor
 · rintro⟨h1,h2,h3⟩;exact⟨h1,h2,(Xe h2).1 h3⟩
 · rintro⟨h1,h2,h3⟩;exact⟨h1,h2,(Xe h2).2 h3⟩
/-! ### Images -/
theorem rH{t:T3}:t.nd=true↔t.a≠t.b∧t.b≠t.c∧t.c≠t.a:=by
 unfold T3.nd;simp only[ba,decide_eq_true_eq,and_assoc]
theorem aiW{t:T3}:t.nd=false↔t.a=t.b∨t.b=t.c∨t.c=t.a:=by
 cases h:t.nd with
 | true =>
  obtain⟨h1,h2,h3⟩:=rH.1 h;exact⟨fun k=>(by cases k),fun k=>k.elim (fun k=>absurd k h1) fun k=>k.elim (fun k=>absurd k h2) fun k=>absurd k h3⟩
 | false =>
  refine⟨fun _=>?_,fun _=>rfl⟩;by_cases h1:t.a=t.b
  · exact .inl h1
  · by_cases h2:t.b=t.c
    · exact .inr (.inl h2)
    · refine .inr (.inr (Decidable.byContradiction fun h3=>?_))
      rw[rH.2 ⟨h1,h2,h3⟩] at h;cases h
theorem aml{t:T3}(h:t.nd=false):(t.mapP f).nd=false:=by
 rw[aiW] at h ⊢;unfold T3.mapP;rcases h with h | h | h
 · exact .inl (by simp only[h])
 · exact .inr (.inl (by simp only[h]))
 · exact .inr (.inr (by simp only[h]))
theorem jC(t:T3):Hh t (dR t):=by
 unfold dR;split
 · exact .inr (.inr rfl)
 · split
   · exact .inr (.inl rfl)
   · exact .inl rfl
theorem Xf{t u:T3}(f:P3→P3)(h:Hh t u):Hh (t.mapP f) (u.mapP f):=by
 rcases h with rfl | rfl | rfl
 · exact .inl rfl
 · exact .inr (.inl rfl)
 · exact .inr (.inr rfl)
def hF(f:P3→P3)(t:T3):List T3:=if (t.mapP f).nd then [dR (t.mapP f)] else []
def wD(f:P3→P3)(us:List T3):List T3:=us.flatMap (hF f)
theorem amm(ms:List Mv):∀us:List T3,arU ms us=wD (yA ms) us
 | []=>rfl
 | t::us=>by
  have ih:=amm ms us;unfold arU wD at ih ⊢;rw[b_,←ih];show _=(if (t.img ms).nd then [dR (t.img ms)] else [])++_
  cases h:(t.img ms).nd with
  | true=>rw[lq (p:=fun t:T3=>(t.img ms).nd) h];rfl
  | false=>rw[lu (by simp[h])];rfl
theorem aai{t u:T3}(h:Hh t u):hF f u=hF f t:=by
 have k:=Xf f h;unfold hF;rw[aag k];cases hn:(t.mapP f).nd with
 | true=>rw[vK k hn]
 | false=>rfl
theorem amn(f g:P3→P3)(t:T3):hF (fun x=>f (g x)) t=(hF g t).flatMap (hF f):=by
 have e:t.mapP (fun x=>f (g x))=(t.mapP g).mapP f:=rfl;cases h:(t.mapP g).nd with
 | true =>
  have:hF g t=[dR (t.mapP g)]:=if_pos h;rw[this,b_,lv,eo,aai (jC _)];unfold hF;rw[e]
 | false =>
  have k:hF g t=[]:=if_neg (by rw[h];exact fz);rw[k,lv];unfold hF;rw[e,aml h];rfl
theorem Xg(f g:P3→P3):∀us:List T3,wD (fun x=>f (g x)) us=(wD g us).flatMap (hF f)
 | []=>rfl
 | t::us=>by
  have ih:=Xg f g us;unfold wD at ih ⊢;rw[b_,b_,aw,ih,amn]
theorem Sk{g:P3→P3}{us:List T3}(h:∀x∈cA us,f x=g x):wD f us=wD g us:=by
 unfold wD;have key:∀t∈us,hF f t=hF g t:=fun t ht=>by
  have e:t.mapP f=t.mapP g:=Md (h _ (Do.2 ⟨t,ht,.inl rfl⟩)) (h _ (Do.2 ⟨t,ht,.inr (.inl rfl)⟩)) (h _ (Do.2 ⟨t,ht,.inr (.inr rfl)⟩));unfold hF;rw[e]
 clear h
 induction us with
 | nil=>rfl
 | cons t us ih=>rw[b_,b_,key t (bh ..),ih fun u hu=>key u (bg _ hu)]
theorem amo{us:List T3}(hd:tG us)(h:∀x∈cA us,f x=x):wD f us=us.map dR:=by
 rw[Sk (g:=fun x=>x) h];clear h
 induction us with
 | nil=>rfl
 | cons t us ih =>
  have e:hF (fun x=>x) t=[dR t]:=by
   unfold hF;have:t.mapP (fun x=>x)=t:=rfl;rw[this,nd_of (hd t (bh ..))];rfl
  unfold wD at ih ⊢;rw[b_,e,ih fun u hu=>hd u (bg _ hu)];rfl
/-! ### What holds of both -/
theorem qA{ts:List T3}{t:T3}(ht:t∈ts)(h:t.has x=true):x∈cA ts:=Do.2 ⟨t,ht,jQ.1 h⟩
/-! ### One step -/
def jW(p a x:P3):P3:=if x=p then a else x
theorem lB{p a:P3}:jW p a p=a:=if_pos rfl
theorem gN{p a:P3}(h:x≠p):jW p a x=x:=if_neg h
section
variable {p a:P3} {X:E3→Prop} {old new R us us':List T3}
end
/-! ### The corners round a corner,in a step -/
theorem Hk{u:T3}{v:P3}:((v,x),y)∈aiS u↔(v=u.a∧x=u.b∧y=u.c)∨(v=u.b∧x=u.c∧y=u.a)∨(v=u.c∧x=u.a∧y=u.b):=by
 simp only[aiS,an,cl,or_false,fk,and_assoc]
theorem abN{t u:T3}(h:Hh t u){x:E3 × P3}:x∈aiS u↔x∈aiS t:=by
 obtain⟨⟨v,w⟩,y⟩:=x;rw[Hk,Hk];rcases h with rfl | rfl | rfl
 · exact Iff.rfl
 · exact⟨fun h=>h.elim (fun h=>.inr (.inl h)) fun h=>h.elim (fun h=>.inr (.inr h)) .inl,fun h=>h.elim (fun h=>.inr (.inr h)) fun h=>h.elim .inl fun h=>.inr (.inl h)⟩
 · exact⟨fun h=>h.elim (fun h=>.inr (.inr h)) fun h=>h.elim .inl fun h=>.inr (.inl h),fun h=>h.elim (fun h=>.inr (.inl h)) fun h=>h.elim (fun h=>.inr (.inr h)) .inl⟩
theorem amp{us vs:List T3}(h:us.Perm vs){v:P3}:Nx us v x y↔Nx vs v x y:=adD h
theorem qB{us:List T3}{v:P3}(h:Nx us v x y):(v,x)∈aQ us:=by rw[←nA];exact cw.2 ⟨_,h,rfl⟩
def nT(t:T3):Bool:=decide (¬Pu (tH t.a t.b t.c)<3)
def vL(s t:T3):List P3:=[s.a,s.b,s.c].filter fun p=>t.has p
def Aj(s t:T3):List P3:=[s.a,s.b,s.c].filter fun p=>!t.has p
def aaj(s t:T3):Bool:=jR s.a s.b t||jR s.b s.c t||jR s.c s.a t
def sgE(u v:P3):Bool:=decide (bS u.x=bS v.x∧bS u.y=bS v.y∧bS u.z=bS v.z)
def ae9(s t:T3):List P3→List P3→List P3→Bool
 | [_],[u,x],[v,y]=>jR u x t||jR v y s
 | [a,b],[u],[v]=>decide (Ig a b u v=0)&&sgE (tH a b u) (tH a b v)
 | _,_,_=>true
def Xh(s t:T3):Bool :=
 if (vL s t).length=0∨nT s=true∨nT t=true then aaj s t||aaj t s else ae9 s t (vL s t) (Aj s t) (Aj t s)
theorem app(s t:T3):vL s t=(if t.has s.a then [s.a] else [])++((if t.has s.b then [s.b] else [])++if t.has s.c then [s.c] else []):=by
 unfold vL;simp only[fc,mi];cases t.has s.a <;> cases t.has s.b <;> cases t.has s.c <;> rfl
theorem apq(s t:T3):Aj s t=(if t.has s.a then [] else [s.a])++((if t.has s.b then [] else [s.b])++if t.has s.c then [] else [s.c]):=by
 unfold Aj;simp only[fc,mi];cases t.has s.a <;> cases t.has s.b <;> cases t.has s.c <;> rfl
theorem Xi{t:T3}(h:t.nd=true):[t.a,t.b,t.c].Nodup:=by
 obtain⟨h1,h2,h3⟩:=rH.1 h;simp only[f_,an,cl,or_false,not_or,not_false_eq_true,jo,and_true];exact⟨⟨h1,h3.symm⟩,h2⟩
theorem aiX{s t:T3}(hs:s.nd=true)(ht:t.nd=true):(vL s t).Perm (vL t s):=by
 refine (List.perm_ext_iff_of_nodup ((Xi hs).filter _) ((Xi ht).filter _)).2 fun p=>?_;rw[dh,dh,jQ,jQ];simp only[an,cl,or_false];exact and_comm
def T3.Lt(s t:T3):Prop:=s.a.Lt t.a∨s.a=t.a∧(s.b.Lt t.b∨s.b=t.b∧s.c.Lt t.c)
variable{t:T3}{l:List T3}
instance (s t:T3):Decidable (s.Lt t):=by unfold T3.Lt;infer_instance
theorem T3.lt_irrefl(s:T3):¬s.Lt s:=fun h=>by
 rcases h with h | ⟨_,h | ⟨_,h⟩⟩ <;> exact P3.lt_irrefl _ h
theorem T3.lt_trans{s u:T3}(h:s.Lt t)(k:t.Lt u):s.Lt u:=by
 rcases h with h | ⟨e,h | ⟨f,h⟩⟩ <;> rcases k with k | ⟨e2,k | ⟨f2,k⟩⟩
 · exact .inl (P3.lt_trans h k)
 · exact .inl (e2▸h)
 · exact .inl (e2▸h)
 · exact .inl (e▸k)
 · exact .inr ⟨e.trans e2,.inl (P3.lt_trans h k)⟩
 · exact .inr ⟨e.trans e2,.inl (f2▸h)⟩
 · exact .inl (e▸k)
 · exact .inr ⟨e.trans e2,.inl (f▸k)⟩
 · exact .inr ⟨e.trans e2,.inr ⟨f.trans f2,P3.lt_trans h k⟩⟩
theorem T3.lt_tri(s t:T3):s.Lt t∨s=t∨t.Lt s:=by
 rcases Go.Lith.lt_tri s.a t.a with h | h | h
 · exact .inl (.inl h)
 · rcases Go.Lith.lt_tri s.b t.b with k | k | k
   · exact .inl (.inr ⟨h,.inl k⟩)
   · rcases Go.Lith.lt_tri s.c t.c with l | l | l
     · exact .inl (.inr ⟨h,.inr ⟨k,l⟩⟩)
     · exact .inr (.inl (Md h k l))
     · exact .inr (.inr (.inr ⟨h.symm,.inr ⟨k.symm,l⟩⟩))
   · exact .inr (.inr (.inr ⟨h.symm,.inl k⟩))
 · exact .inr (.inr (.inl h))
def vM(s t:T3):Prop:=¬t.Lt s
theorem Og{s u:T3}(h:vM s t)(k:vM t u):vM s u:=fun l=>by
 rcases T3.lt_tri s t with e | e | e
 · exact k (T3.lt_trans l e)
 · exact k (e▸l)
 · exact h e
theorem adI{s:T3}(h:vM s t)(k:vM t s):s=t:=by
 rcases T3.lt_tri s t with e | e | e
 · exact absurd e k
 · exact e
 · exact absurd e h
def agC(t:T3):List T3→List T3
 | []=>[t]
 | u::l=>if u.Lt t then u::agC t l else t::u::l
def wP:List T3→List T3
 | []=>[]
 | t::l=>agC t (wP l)
def bK(l:List T3):List T3:=wP (l.map dR)
theorem Sl(t:T3):∀l:List T3,(agC t l).Perm (t::l)
 | []=>.refl _
 | u::l=>by
  rw[agC];split
  · exact ((Sl t l).cons u).trans (.swap ..)
  · exact .refl _
theorem uN:∀l:List T3,(wP l).Perm l
 | []=>.refl _
 | t::l=>(Sl t _).trans ((uN l).cons t)
theorem Sn(t:T3):∀l:List T3,l.Pairwise vM→(agC t l).Pairwise vM
 | [],_=>kh _ _
 | u::l,h=>by
  rw[agC];obtain⟨h1,h2⟩:=bu.1 h;split
  · rename_i k
    refine bu.2 ⟨fun x hx=>?_,Sn t l h2⟩;rcases an.1 ((Sl t l).subset hx) with rfl | hx
    · exact fun k2=>T3.lt_irrefl _ (T3.lt_trans k k2)
    · exact h1 x hx
  · rename_i k
    refine bu.2 ⟨fun x hx=>?_,h⟩;rcases an.1 hx with rfl | hx
    · exact k
    · exact Og k (h1 x hx)
theorem sF:∀l:List T3,(wP l).Pairwise vM
 | []=>ki
 | t::l=>Sn t _ (sF l)
theorem wQ:∀{l m:List T3},l.Perm m→l.Pairwise vM→m.Pairwise vM→l=m
 | [],m,h,_,_=>h.symm.eq_nil.symm
 | s::l,[],h,_,_=>by have:=h.length_eq;simp at this
 | s::l,t::m,h,h1,h2=>by
  obtain⟨a1,a2⟩:=bu.1 h1;obtain⟨b1,b2⟩:=bu.1 h2;have e:s=t:=by
   have hs:s∈t::m:=h.subset (bh ..);have ht:t∈s::l:=h.symm.subset (bh ..);rcases an.1 hs with e | hs
   · exact e
   · rcases an.1 ht with e | ht
     · exact e.symm
     · exact adI (a1 t ht) (b1 s hs)
  subst e;rw[wQ ((List.perm_cons s).1 h) a2 b2]
theorem jY(l:List T3):(bK l).Perm (l.map dR):=uN _
theorem Ak(l:List T3):(bK l).Pairwise vM:=sF _
theorem aiY{m:List T3}(h:m.Perm (l.map dR))(hs:m.Pairwise vM):m=bK l:=wQ (h.trans (jY l).symm) hs (Ak l)
theorem wR{m:List T3}(h:(l.map dR).Perm (m.map dR)):bK l=bK m:=wQ ((jY l).trans (h.trans (jY m).symm)) (Ak l) (Ak m)
def oL(u v:P3)(t:T3):T3:=t.mapP (jW u v)
def sU(u v:P3)(l:List T3):List T3:=(l.map (oL u v)).filter T3.nd
def eZ(l:List T3)(u v:P3):List T3:=bK (sU u v l)
def mO(u v:P3)(l:List T3):List T3:=l.filter fun t=>!decide (oL u v t=t)&&(oL u v t).nd
def mP(u v:P3)(l:List T3):List T3:=(mO u v l).map (oL u v)
def qQ(u v:P3)(l:List T3):List T3:=l.filter fun t=>decide (oL u v t=t)
def Me(l:List T3)(p q:P3):Bool:=decide (q≠p)&&mN l p q
def nbL(l:List T3)(p:P3):List P3:=(bM l).filter (Me l p)
def agD(p:P3):List P3→List P3
 | []=>[p]
 | q::l=>if q.Lt p then q::agD p l else p::q::l
def yB:List P3→List P3
 | []=>[]
 | p::l=>agD p (yB l)
def So(t:T3):List P3:=yB [t.a,t.b,t.c]
def Hl(t:T3)(k:Nat):Int:=min (min (cO t.a k) (cO t.b k)) (cO t.c k)
def Hm(t:T3)(k:Nat):Int:=max (max (cO t.a k) (cO t.b k)) (cO t.c k)
def agE(s t:T3)(k:Nat):Bool:=decide (Hm s k<Hl t k)||decide (Hm t k<Hl s k)
def Oh(s t:T3):Bool:=!agE s t 0 && !agE s t 1 && !agE s t 2
def wS(t s:T3):Bool:=Oh t s&&Xh s t
def aiZ(s t:T3):Int:=bS ((tH s.a s.b s.c).dot (tH t.a t.b t.c))
def uD(l:List T3)(u v:P3):Bool:=Me l u v && !Uv (aY l) u
def Fi(l:List T3)(u v:P3):Bool:=decide (((nbL l u).filter (Me l v)).length=2)
def Pv(l:List T3)(u v:P3):Bool:=decide (((mP u v l++qQ u v l).map So).Nodup)
def Hn(l:List T3)(u v:P3):Bool:=!Uv (aY l) v||(nbL l u).all fun p=>decide (p=v) || !Uv (aY l) p||Me l v p
def Dp(l:List T3)(u v:P3):Bool:=(mO u v l).all fun t=>!nT (oL u v t)&&decide (aiZ t (oL u v t)=1)
def aak(l:List T3)(u v:P3):Bool:=(mP u v l).zipIdx.all fun x=>!(qQ u v l).any (wS x.1) && !((mP u v l).take x.2).any (wS x.1)
def cZ(l:List T3)(u v:P3):Bool:=uD l u v&&Fi l u v&&Pv l u v&&Hn l u v&&Dp l u v&&aak l u v
theorem Dr{p:P3}:Me l p q=true↔q≠p∧mN l p q=true:=by
 unfold Me;rw[ba,decide_eq_true_eq]
theorem An{p:P3}:q∈nbL l p↔Me l p q=true:=by
 unfold nbL;rw[dh,iU];refine⟨fun h=>h.2,fun h=>⟨?_,h⟩⟩;obtain⟨t,ht,_,hq⟩:=kU.1 (Dr.1 h).2;exact qA ht hq
theorem apr{v:P3}(hne:u≠v)(hd:t.nd=true):(oL u v t).nd=true↔¬(t.has u=true∧t.has v=true):=by
 obtain⟨h1,h2,h3⟩:=rH.1 hd;rw[rH,jQ,jQ];unfold oL T3.mapP jW;simp only
 grind
theorem afb{v:P3}(l:List T3):∀t∈sU u v l,t.nd=true:=fun t h=>(dh.1 h).2
theorem ai0(t:T3):(dR t).nd=t.nd:=(aag (jC t))
theorem Sq(h:∀t∈l,t.nd=true):∀t∈bK l,t.nd=true:=fun t ht=>by
 obtain⟨s,hs,rfl⟩:=cw.1 ((jY l).mem_iff.1 ht);rw[ai0];exact h s hs
theorem adJ(l:List T3)(u v:P3):∀t∈eZ l u v,t.nd=true:=Sq (afb l)
theorem eH(l:List T3):(bK l).length=l.length:=by rw[(jY l).length_eq,bf]
theorem ai1{v:P3}(h:uD l u v=true):(eZ l u v).length<l.length:=by
 have hj:=(Bool.and_eq_true_iff.1 h).1;obtain⟨hne,he⟩:=Dr.1 hj;obtain⟨t,ht,h1,h2⟩:=kU.1 he;unfold eZ;rw[eH];unfold sU;have hn:(oL u v t).nd=false:=by
  rw[aiW];rw[jQ] at h1 h2;unfold oL T3.mapP jW;simp only
  grind
 have hm:oL u v t∈l.map (oL u v):=fj ht;have:=List.length_filter_lt_length_iff_exists (p:=T3.nd) (l:=l.map (oL u v)) |>.2 ⟨_,hm,by rw[hn];exact fz⟩
 rwa [bf] at this
theorem afc(u v:P3)(l:List T3):(sU u v l).length≤l.length:=by
 have:=List.length_filter_le T3.nd (l.map (oL u v));rwa [bf] at this
def Fw(a b:List Int):List Int:=List.zipWith (· + ·) a b
def q0:List Int:=[0,0,0,0,0,0,0,0,0,0]
def qPr(a b c d:Int):List Int:=[a*a,2*(a*b),2*(a*c),2*(a*d),b*b,2*(b*c),2*(b*d),c*c,2*(c*d),d*d]
def qOf(t:T3):List Int:=qPr (tH t.a t.b t.c).x (tH t.a t.b t.c).y (tH t.a t.b t.c).z (-((tH t.a t.b t.c).dot t.a))
def arY(q:List Int)(x y z:Int):Int:=match q with
 | [a,b,c,d,e,f,g,h,i,j]=>a*(x*x)+b*(x*y)+c*(x*z)+d*x+e*(y*y)+f*(y*z)+g*y+h*(z*z)+i*z+j
 | _=>0
def qAt(q:List Int)(p:P3):Int:=arY q p.x p.y p.z
def sV(l:List T3)(p:P3):List Int:=(l.filter fun t=>t.has p).foldl (fun s t=>Fw s (qOf t)) q0
structure lU where
 u:P3
 v:P3
 c:Int
def lU.Lt(a b:lU):Prop:=a.c<b.c∨a.c=b.c∧(a.u.Lt b.u∨a.u=b.u∧a.v.Lt b.v)
variable{c:lU}
instance (a b:lU):Decidable (a.Lt b):=by unfold lU.Lt;infer_instance
theorem lU.ext' {a b:lU}(h1:a.u=b.u)(h2:a.v=b.v)(h3:a.c=b.c):a=b:=by
 obtain⟨u,v,c⟩:=a;obtain⟨u',v',c'⟩:=b;simp only at h1 h2 h3;rw[h1,h2,h3]
theorem lU.lt_irrefl(a:lU):¬a.Lt a:=fun h=>by
 rcases h with h | ⟨_,h | ⟨_,h⟩⟩
 · omega
 · exact P3.lt_irrefl _ h
 · exact P3.lt_irrefl _ h
theorem lU.lt_trans{a b:lU}(h:a.Lt b)(k:b.Lt c):a.Lt c:=by
 rcases h with h | ⟨e,h | ⟨f,h⟩⟩ <;> rcases k with k | ⟨e2,k | ⟨f2,k⟩⟩
 · exact .inl (by omega)
 · exact .inl (by omega)
 · exact .inl (by omega)
 · exact .inl (by omega)
 · exact .inr ⟨e.trans e2,.inl (P3.lt_trans h k)⟩
 · exact .inr ⟨e.trans e2,.inl (f2▸h)⟩
 · exact .inl (by omega)
 · exact .inr ⟨e.trans e2,.inl (f▸k)⟩
 · exact .inr ⟨e.trans e2,.inr ⟨f.trans f2,P3.lt_trans h k⟩⟩
theorem lU.lt_tri(a b:lU):a.Lt b∨a=b∨b.Lt a:=by
 rcases Int.lt_trichotomy a.c b.c with h | h | h
 · exact .inl (.inl h)
 · rcases Go.Lith.lt_tri a.u b.u with k | k | k
   · exact .inl (.inr ⟨h,.inl k⟩)
   · rcases Go.Lith.lt_tri a.v b.v with l | l | l
     · exact .inl (.inr ⟨h,.inr ⟨k,l⟩⟩)
     · exact .inr (.inl (lU.ext' k l h))
     · exact .inr (.inr (.inr ⟨h.symm,.inr ⟨k.symm,l⟩⟩))
   · exact .inr (.inr (.inr ⟨h.symm,.inl k⟩))
 · exact .inr (.inr (.inl h))
def Vp:List lU→Option lU
 | []=>none
 | c::cs=>match Vp cs with
  | none=>some c
  | some d=>if d.Lt c then some d else some c
theorem Mf:∀{cs:List lU},Vp cs=none↔cs=[]
 | []=>⟨fun _=>rfl,fun _=>rfl⟩
 | c::cs=>by
  unfold Vp;constructor
  · intro h
    cases hm:Vp cs with
    | none=>rw[hm] at h;cases h
    | some d=>rw[hm] at h;simp only at h;split at h <;> cases h
  · intro h;cases h
theorem Mg:∀{cs:List lU} {c:lU},Vp cs=some c→c∈cs∧∀d∈cs,¬d.Lt c
 | [],c,h=>by cases h
 | a::cs,c,h=>by
  unfold Vp at h;cases hm:Vp cs with
  | none =>
   rw[hm] at h;cases h;rw[Mf.1 hm];exact⟨ji _,fun d hd=>by rw[az.1 hd];exact lU.lt_irrefl _⟩
  | some d =>
   rw[hm] at h;simp only at h;obtain⟨h1,h2⟩:=Mg hm;split at h
   · rename_i k
     cases h;refine⟨bg _ h1,fun e he=>?_⟩;rcases an.1 he with rfl | he
     · exact fun k2=>lU.lt_irrefl _ (lU.lt_trans k k2)
     · exact h2 e he
   · rename_i k
     cases h;refine⟨bh ..,fun e he k2=>?_⟩;rcases an.1 he with rfl | he
     · exact lU.lt_irrefl _ k2
     · rcases lU.lt_tri d e with k3 | k3 | k3
       · exact k (lU.lt_trans k3 k2)
       · exact k (k3▸k2)
       · exact h2 e he k3
theorem amr{cs:List lU}(hc:c∈cs)(h:∀d∈cs,¬d.Lt c):Vp cs=some c:=by
 cases hm:Vp cs with
 | none=>rw[Mf.1 hm] at hc;cases hc
 | some d =>
  obtain⟨h1,h2⟩:=Mg hm;rcases lU.lt_tri c d with k | k | k
  · exact absurd k (h2 c hc)
  · rw[k]
  · exact absurd k (h d h1)
def tI(q:P3→List Int)(u v:P3):Int:=qAt (Fw (q u) (q v)) v
def aps(l:List T3)(q:P3→List Int)(u:P3):List lU:=if Uv (aY l) u then [] else (nbL l u).map fun v=>⟨u,v,tI q u v⟩
def adK(l:List T3)(q:P3→List Int):List lU:=(bM l).flatMap (aps l q)
def oM(l:List T3)(q:P3→List Int):Option lU:=Vp ((adK l q).filter fun c=>cZ l c.u c.v)
def By(q:P3→List Int)(u v:P3)(p:P3):List Int:=if p=v then Fw (q u) (q v) else q p
def Lf(D:List Mv)(u v:P3):List Mv:=fJ (D.map fun e=>(e.1,jW u v e.2)) u v
def eU:Nat→Int→List T3→(P3→List Int)→List Mv→List T3 × List Mv
 | 0,_,l,_,D=>(l,D)
 | n+1,want,l,q,D=>if (l.length:Int)≤want then (l,D) else match oM l q with
  | none=>(l,D)
  | some c=>eU n want (eZ l c.u c.v) (By q c.u c.v) (Lf D c.u c.v)
def iF(D:List Mv):List Mv:=(yB (D.map (·.1))).map fun k=>(k,(cD D k).getD k)
def eL(l:List T3)(want:Int):List T3 × List Mv :=
 if dC true (bK l)≠0 then (bK l,[]) else
 ((eU (bK l).length want (bK l) (sV (bK l)) []).1,iF (eU (bK l).length want (bK l) (sV (bK l)) []).2)
theorem Pw{q:P3→List Int}  : c∈adK l q↔Uv (aY l) c.u=false∧Me l c.u c.v=true∧c.c=tI q c.u c.v:=by
 unfold adK;rw[dl];constructor
 · rintro⟨u,hu,hc⟩
   unfold aps at hc;split at hc
   · cases hc
   · rename_i hb
     obtain⟨v,hv,rfl⟩:=cw.1 hc;exact⟨by simpa using hb,An.1 hv,rfl⟩
 · rintro⟨h1,h2,h3⟩
   obtain⟨t,ht,hu,_⟩:=kU.1 (Dr.1 h2).2;refine⟨c.u,iU.2 (qA ht hu),?_⟩;unfold aps;rw[if_neg (by rw[h1];exact fz)];exact cw.2 ⟨c.v,An.2 h2,lU.ext' rfl rfl h3.symm⟩
theorem Sr{v:P3}(h:cZ l u v=true):uD l u v=true:=by
 unfold cZ at h;simp only[ba] at h;exact h.1.1.1.1.1
theorem yC{q:P3→List Int}(h:oM l q=some c):c∈adK l q∧cZ l c.u c.v=true:=by
 have:=(Mg h).1;exact dh.1 this
theorem lK{q:P3→List Int}(h:oM l q=some c):(eZ l c.u c.v).length<l.length:=ai1 (Sr (yC h).2)
theorem Xj:∀(n m:Nat) (want:Int) (l:List T3) (q:P3→List Int) (D:List Mv),l.length≤n→l.length≤m→0≤want→eU n want l q D=eU m want l q D
 | 0,0,_,_,_,_,_,_,_=>rfl
 | 0,m+1,want,l,q,D,h1,h2,hw=>by
  have:l.length=0:=by omega
  unfold eU;rw[if_pos (by omega)]
 | n+1,0,want,l,q,D,h1,h2,hw=>by
  have:l.length=0:=by omega
  unfold eU;rw[if_pos (by omega)]
 | n+1,m+1,want,l,q,D,h1,h2,hw=>by
  unfold eU;split
  · rfl
  · cases hb:oM l q with
    | none=>rfl
    | some c =>
     have:=lK hb;exact Xj n m want _ _ _ (by omega) (by omega) hw
theorem ai2{want:Int}{q:P3→List Int}{D:List Mv}(h:(l.length:Int)≤want):eU n want l q D=(l,D):=by
 cases n with
 | zero=>rfl
 | succ n=>unfold eU;rw[if_pos h]
def wC(n:Int):List ai:=[.bool (gW n),.string (kX n)]
def qC(L:List Int):List ai:=L.flatMap wC
def qV(L:List Int):ai:=.agg (qC L).toArray
theorem wC2(n:Int):(wC n).length=2:=rfl
theorem Ds(L:List Int):(qC L).length=L.length*2:=jV wC2 ..
theorem Dt{w:aj}{g:Nat}{T:av}{x:Int}(h:gT w g (qC L) T)(hx:L[k]? = some x):mT w ⟨g,k*2,none⟩ (wC x):=by
 have h2:=h.row (k*2);rw[qC,Rn wC2 hx] at h2;exact fun j u hj=>h2 j u (by rw[List.getElem?_append_left (ap.1 hj).1];exact hj)
theorem aal{x:Int}(h:k<L.length):over (qC L) (k*2) (wC x)=qC (L.set k x):=by
 unfold over qC;rw[show k*2+(wC x).length=(k+1)*2 by rw[wC2];omega,←Rm wC2,←Aa wC2,List.set_eq_take_append_cons_drop,if_pos h,aw,b_,da]
theorem apt(L:List Int):∀u∈qC L,u.oneCell'=true:=fun u hu=>by
 obtain⟨x,_,h⟩:=dl.1 hu;simp only[wC,an,cl,or_false] at h;rcases h with rfl | rfl <;> rfl
def Ho(k:Nat)(L:List Int):Prop:=∀x∈L,Bd k x
theorem Ho.mono{m:Nat}(h:Ho k L)(hk:k≤m):Ho m L:=fun x hx=>(h x hx).mono hk
theorem Ho.at{x:Int}(h:Ho k L)(hx:L[i]? = some x):Bd k x:=h x (bj hx)
theorem lL{b:List Int}(ha:a.length=10)(hb:b.length=10):(Fw a b).length=10:=by unfold Fw;rw[List.length_zipWith,ha,hb];rfl
theorem Px{b:List Int}(ha:Ho k a)(hb:Ho k b):Ho (k+1) (Fw a b):=fun x hx=>by
 unfold Fw at hx;obtain⟨i,hi⟩:=List.mem_iff_getElem?.1 hx;rw[List.getElem?_zipWith] at hi;cases h1:a[i]? with
 | none=>simp[h1] at hi
 | some y =>
  cases h2:b[i]? with
  | none=>simp[h1,h2] at hi
  | some z =>
   simp[h1,h2] at hi;subst hi;exact ((ha.at h1).add (hb.at h2)).mono (by omega)
section
variable {P:bv} {ds:List dw} {l:List ai} {x y:Operand} {T ty:av} {ops:Array Oper} {Q:Exit→Act→aj→Prop} {rest:List Oper} {pos:String} {after:Array Edge} {w w0:aj} {is:List It}
theorem abO{cs us:List ai}(h:us.length=cs.length):over cs 0 us=us:=by unfold over;rw[List.take_zero,bt,ar,gh (by omega),eo]
theorem Fj{g n:Nat}{cs:List ai}{L:List Int}{t:av}(m:Mem w0 w is)(k:Nat)(hk:is[k]? = some (bI g cs t))(hx:ev l x=.pointer (some ⟨g,0,none⟩))(hv:ev l y=qV L)(hl:L.length*2=n)(hcs:cs.length=n)(hc:dH P T n)
 (h:∀u,Mem w0 u (is.set k (bI g (qC L) t))→au P ops Q rest (Fr l ds) u):au P ops Q (Oper.mk none (.store T x y) ty pos after none::rest) (Fr l ds) w :=
 cU (us:=qC L) m k hk hx hv (by rw[Ds,hl];exact hc) (by rw[Ds,hl,hcs,ar];exact ao _) (List.all_eq_true.2 (apt L)) fun u hu=>h u (by rw[abO (by rw[Ds,hl,hcs])] at hu;exact hu)
theorem xI{g:Nat}{L:List Int}{t:av}(h:gT w g (qC L) t)(hA:eX P T true)(hc:dH P T n)(hl:L.length*2=n):eQ P w T ⟨g,0,none⟩ (qV L):=h.full hA (by rw[Ds,hl];exact hc)
theorem ams{a:Addr}(h:eQ P w T a (.agg #[.bool false,.string ⟨#[]⟩])):eQ P w T a (W 0):=by rw[Zh];exact h
end
def qP(a b:List Int)(k:Nat):List Int:=(Fw a b).take k++a.drop k
theorem apu{b:List Int}(ha:a.length=10)(hb:b.length=10):qP a b 10=Fw a b:=by
 unfold qP;rw[bi (by rw[lL ha hb];exact ao _),gh (by omega),eo]
theorem ai3{b:List Int}(ha:a.length=10)(hb:b.length=10)(hk:k≤10):(qP a b k).length=10:=by
 unfold qP;rw[a_,bw,fm,lL ha hb,ha];omega
theorem ar0{b:List Int}(ha:a.length=10)(hb:b.length=10){x:Int}(hk:k<10)(hx:a[k]? = some x):(qP a b k)[k]? = some x:=by
 unfold qP;rw[List.getElem?_append_right (by rw[bw];omega),bw,lL ha hb,ib (by omega),lc,dm,Nat.add_zero];exact hx
theorem apv{b:List Int}(ha:a.length=10)(hb:b.length=10){x y:Int}(hk:k<10)(hx:a[k]? = some x)(hy:b[k]? = some y):(qP a b k).set k (x+y)=qP a b (k+1):=by
 have h1:(Fw a b)[k]? = some (x+y):=by unfold Fw;rw[List.getElem?_zipWith,hx,hy]
 have h2:((Fw a b).take k).length=k:=by rw[bw,lL ha hb];omega
 unfold qP;rw[List.take_add_one,h1,List.set_append_right _ _ (by rw[h2];exact ao _),h2,lc,Option.toList,da]
 congr 1
 rw[fl (by omega:k<a.length)];rfl
/-! ### The pairs,in order -/
def eI(n:Nat):Nat:=[0,0,0,0,1,1,1,2,2,3].getD n 0
def eJ(n:Nat):Nat:=[0,1,2,3,1,2,3,2,3,3].getD n 0
theorem aam{Q:Nat→Prop}(hn:n<10)(h0:Q 0)(h1:Q 1)(h2:Q 2)(h3:Q 3)(h4:Q 4)(h5:Q 5)(h6:Q 6)(h7:Q 7)(h8:Q 8)(h9:Q 9):Q n:=by
 rcases n with _ | _ | _ | _ | _ | _ | _ | _ | _ | _ | n
 all_goals first | assumption | omega
theorem ai4(hn:n<10):eI n<4:=aam (Q:=fun n=>eI n<4) hn (by decide) (by decide) (by decide) (by decide) (by decide) (by decide) (by decide) (by decide) (by decide) (by decide)
theorem ai5(hn:n<10):eJ n<4:=aam (Q:=fun n=>eJ n<4) hn (by decide) (by decide) (by decide) (by decide) (by decide) (by decide) (by decide) (by decide) (by decide) (by decide)
def Xk(p:List Int)(n:Nat):Int:=p.getD (eI n) 0*p.getD (eJ n) 0
def qF(a b c d:Int)(n:Nat):List Int:=(qPr a b c d).take n++List.replicate (10-n) 0
theorem apw(a b c d:Int)(hn:n≤10):(qF a b c d n).length=10:=by
 unfold qF;rw[a_,bw,List.length_replicate,show (qPr a b c d).length=10 from rfl];omega
theorem ai6{a b c d:Int}(hn:n<10):((qF a b c d n).set n (Xk [a,b,c,d] n)).set n (if eI n=eJ n then Xk [a,b,c,d] n else Xk [a,b,c,d] n*2)=qF a b c d (n+1):=by
 rw[List.set_set];refine aam (Q:=fun n=>(qF a b c d n).set n (if eI n=eJ n then Xk [a,b,c,d] n else Xk [a,b,c,d] n*2)=qF a b c d (n+1)) hn ?_ ?_ ?_ ?_ ?_ ?_ ?_ ?_ ?_ ?_
 all_goals simp[qF,qPr,Xk,eI,eJ,Int.mul_comm]
theorem ar1(a b c d:Int):qF a b c d 10=qPr a b c d:=by unfold qF qPr;rfl
theorem aoa(a b c d:Int)(hi:i<4):[a,b,c,d][i]? = some ([a,b,c,d].getD i 0):=by
 rcases i with _ | _ | _ | _ | i
 all_goals first | rfl | omega
theorem ar2{a b c d:Int}(h:Ho k [a,b,c,d]):Ho (k+k+2) (qPr a b c d):=fun x hx=>by
 have ha:=h a (by simp);have hb:=h b (by simp);have hc:=h c (by simp);have hd:=h d (by simp);have two:∀{x:Int},Bd (k+k) x→Bd (k+k+2) (2*x):=fun {x} hx=>by
  have h2:Bd 2 (2:Int):=by unfold Bd;decide
  rw[Nat.add_comm];exact h2.mul hx
 simp only[qPr,an,cl,or_false] at hx;rcases hx with rfl | rfl | rfl | rfl | rfl | rfl | rfl | rfl | rfl | rfl
 · exact (ha.mul ha).mono (by omega)
 · exact two (ha.mul hb)
 · exact two (ha.mul hc)
 · exact two (ha.mul hd)
 · exact (hb.mul hb).mono (by omega)
 · exact two (hb.mul hc)
 · exact two (hb.mul hd)
 · exact (hc.mul hc).mono (by omega)
 · exact two (hc.mul hd)
 · exact (hd.mul hd).mono (by omega)
/-! ### A quadric's value -/
def atS(q x:List Int):Nat→Int
 | 0=>0
 | n+1=>atS q x n+q.getD n 0*Xk x n
theorem aan{q:List Int}(hq:q.length=10)(hn:n<10):q[n]? = some (q.getD n 0):=by
 rw[ej,ak (by omega)];rfl
theorem ai7{q:List Int}(hq:q.length=10)(p:P3):atS q [p.x,p.y,p.z,1] 10=qAt q p:=by
 rcases q with _ | ⟨a,_ | ⟨b,_ | ⟨c,_ | ⟨d,_ | ⟨e,_ | ⟨f,_ | ⟨g,_ | ⟨h,_ | ⟨i,_ | ⟨j,_ | ⟨k,q⟩⟩⟩⟩⟩⟩⟩⟩⟩⟩⟩ <;> simp only[ay,List.length_nil] at hq <;> try omega
 simp only[atS,Xk,eI,eJ,qAt,arY,List.getD_cons_zero,List.getD_cons_succ,List.getD_nil]
 grind
theorem adL{p:List Int}(h:Ho k p)(hl:p.length=4)(hn:n<10):Bd (k+k) (Xk p n):=by
 have key:∀i,i<4→Bd k (p.getD i 0):=fun i hi=>by
  rw[ej,ak (by omega:i<p.length)];exact h _ (List.getElem_mem _)
 exact (key _ (ai4 hn)).mul (key _ (ai5 hn))
theorem adM{k m:Nat}{q p:List Int}(hq:Ho k q)(hl:q.length=10)(hp:Ho m p)(hpl:p.length=4):∀n,n≤10→Bd (k+m+m+n) (atS q p n)
 | 0,_=>Pm _
 | n+1,hn=>by
  have h1:=adM hq hl hp hpl n (by omega);have h2:=(hq.at (aan hl (by omega:n<10))).mul (adL hp hpl (by omega:n<10));exact (h1.add (h2.mono (by omega:k+(m+m)≤k+m+m+n))).mono (by omega)
theorem bd4{p:P3}(h:I3 p):Ho 64 [p.x,p.y,p.z,1]:=fun x hx=>by
 simp only[an,cl,or_false] at hx;rcases hx with rfl | rfl | rfl | rfl
 · exact h.x.bd
 · exact h.y.bd
 · exact h.z.bd
 · unfold Bd;decide
theorem aC:(∀P R w0 ds q s l is,V P R w0 ds none 0 [] q s l is=(q∧∀w,Mem w0 w is→Ct P R s .normal (Fz l ds) w))
 ∧ (∀P R w0 ds w1 q s l is,V P R w0 ds (some (false,w1)) 0 [] q s l is=(q∧∀w,Mem w0 w is→gJ w1 w→Ct P R s .normal (Fz l ds) w))∧(∀P R w0 ds w1 q s l is,V P R w0 ds (some (true,w1)) 0 [] q s l is=(q∧Ct P R s .normal (Fz l ds) w1))
 ∧ (∀P R w0 ds k sc q l is,V P R w0 ds none 0 (k::sc) q [] l is=(q∧∀w,Mem w0 w is→R .normal (Fz l ds) w))
 ∧ (∀P R w0 ds w1 k sc q l is,V P R w0 ds (some (false,w1)) 0 (k::sc) q [] l is=(q∧∀w,Mem w0 w is→gJ w1 w→R .normal (Fz l ds) w))∧(∀P R w0 ds w1 k sc q l is,V P R w0 ds (some (true,w1)) 0 (k::sc) q [] l is=(q∧R .normal (Fz l ds) w1))
 ∧ (∀P R w0 ds k sc q c s l is,V P R w0 ds none 0 (k::sc) q (.c c::s) l is=(q∧∀w,Mem w0 w is→c.wp P (Ct P R s) (Fz l ds) w))
 ∧ (∀P R w0 ds w1 k sc q c s l is,V P R w0 ds (some (false,w1)) 0 (k::sc) q (.c c::s) l is=(q∧∀w,Mem w0 w is→gJ w1 w→c.wp P (Ct P R s) (Fz l ds) w))∧(∀P R w0 ds w1 k sc q c s l is,V P R w0 ds (some (true,w1)) 0 (k::sc) q (.c c::s) l is=(q∧c.wp P (Ct P R s) (Fz l ds) w1))
 ∧ (∀P R w0 ds k sc q ops rest s l is,V P R w0 ds none 0 (k::sc) q (.o ops rest::s) l is=(q∧∀w,Mem w0 w is→au P ops (Ct P R s) rest (Fz l ds) w))
 ∧ (∀P R w0 ds w1 k sc q ops rest s l is,V P R w0 ds (some (false,w1)) 0 (k::sc) q (.o ops rest::s) l is=(q∧∀w,Mem w0 w is→gJ w1 w→au P ops (Ct P R s) rest (Fz l ds) w))∧(∀P R w0 ds w1 k sc q ops rest s l is,V P R w0 ds (some (true,w1)) 0 (k::sc) q (.o ops rest::s) l is=(q∧au P ops (Ct P R s) rest (Fz l ds) w1))
 ∧ (∀P R w0 ds k sc q K s l is,V P R w0 ds none 0 (k::sc) q (.k K::s) l is=(q∧∀w,Mem w0 w is→K (Fz l ds) w))
 ∧ (∀P R w0 ds w1 k sc q K s l is,V P R w0 ds (some (false,w1)) 0 (k::sc) q (.k K::s) l is=(q∧∀w,Mem w0 w is→gJ w1 w→K (Fz l ds) w))∧(∀P R w0 ds w1 k sc q K s l is,V P R w0 ds (some (true,w1)) 0 (k::sc) q (.k K::s) l is=(q∧K (Fz l ds) w1))
 ∧ (∀P R w0 ds os n sc q i s l is,V P R w0 ds os (n+1) sc q (.b i::s) l is=V P R w0 ds os n sc q s l is)
 ∧ (∀P R w0 ds os n sc q ops s l is,V P R w0 ds os (n+1) sc q (.o ops []::s) l is=V P R w0 ds os n sc q s l is)
 ∧ (∀P R w0 ds os n sc q ops d op ty pos af g rest s l is,V P R w0 ds os (n+1) sc q (.o ops (⟨some d,op,ty,pos,af,g⟩::rest)::s) l is=Rz ops l g (Gq P l is [] (kpb os) op sc fun vc v sc is=>V P R w0 ds os n sc (vc∧q) (.o ops rest::s) (l.set d v) is) (V P R w0 ds os n sc q (.o ops rest::s) (l.set d undef) is))
 ∧ (∀P R w0 ds os n sc q ops op ty pos af g rest s l is,V P R w0 ds os (n+1) sc q (.o ops (⟨none,op,ty,pos,af,g⟩::rest)::s) l is=Rz ops l g (stV P l is os.isSome op sc fun vc _ sc is=>V P R w0 ds os n sc (vc∧q) (.o ops rest::s) l is) (V P R w0 ds os n sc q (.o ops rest::s) l is))
 ∧ (∀P R w0 ds os n sc q a b s l is,V P R w0 ds os (n+1) sc q (.c (.seq a b)::s) l is=V P R w0 ds os n sc q (.c a :: .c b::s) l is)
 ∧ (∀P R w0 ds os n sc q s l is,V P R w0 ds os (n+1) sc q (.c .skip::s) l is=V P R w0 ds os n sc q s l is)
 ∧ (∀P R w0 ds os n sc q i c s l is,V P R w0 ds os (n+1) sc q (.c (.block i c)::s) l is=V P R w0 ds os n sc q (.c c :: .b i::s) l is)
 ∧ (∀P R w0 ds os n sc q i s l is,V P R w0 ds os (n+1) sc q (.c (.exit i)::s) l is=Uu i s fun s=>V P R w0 ds os n sc q s l is)
 ∧ (∀P R w0 ds n sc q s l is,V P R w0 ds none (n+1) sc q (.c .ret::s) l is=(q∧∀w,Mem w0 w is→R .ret (Fz l ds) w))∧(∀P R w0 ds w1 n sc q s l is,V P R w0 ds (some (false,w1)) (n+1) sc q (.c .ret::s) l is=(q∧∀w,Mem w0 w is→gJ w1 w→R .ret (Fz l ds) w))∧(∀P R w0 ds w1 n sc q s l is,V P R w0 ds (some (true,w1)) (n+1) sc q (.c .ret::s) l is=(q∧R .ret (Fz l ds) w1))
 ∧ (∀P R w0 ds os n sc q x a b s l is,V P R w0 ds os (n+1) sc q (.c (.cond x a b)::s) l is=vvB (ev l x) fun t=>vbX t (V P R w0 ds os n sc q (.c a::s) l is) (V P R w0 ds os n sc q (.c b::s) l is))
 ∧ (∀P R w0 ds os n sc q i ops s l is,V P R w0 ds os (n+1) sc q (.c (.region i (jp ops) false)::s) l is=V P R w0 ds os n sc q (.o ops.toArray ops::s) l is)
 ∧ (∀ops l p q,Rz ops l none p q=p)∧(∀ops l j b p q,Rz (jp ops) l (some (j,b)) p q=vvG (vyv ops l j) b p q)
 ∧ (∀o ops l j,vyv (o::ops) l (j+1)=vyv ops l j)∧(∀d op ty pos af g ops l,vyv (⟨some d,op,ty,pos,af,g⟩::ops) l 0=l.getD d undef)
 ∧ (∀p q,vvG (.bool true) true p q=p)∧(∀p q,vvG (.bool false) true p q=q)∧(∀p q,vvG (.bool true) false p q=q)∧(∀p q,vvG (.bool false) false p q=p)∧(∀b p q,vvG undef b p q=q)
 ∧ (∀i s f,Uu i (.b i::s) f=f s)∧(∀i j s f,Uu i (.b j::s) f=vnE i j (f s) (Uu i s f))∧(∀i c s f,Uu i (.c c::s) f=Uu i s f)∧(∀i ops rest s f,Uu i (.o ops rest::s) f=Uu i s f)∧(∀i K s f,Uu i (.k K::s) f=Uu i s f)∧(∀i c n s f,Uu i (.r c n::s) f=Uu i s f)
 ∧ (∀P R w0 ds os n sc q c k s l is,V P R w0 ds os (n+1) (k::sc) q (.c (.loop c)::s) l is=V P R w0 ds os n sc q (.r c k::s) l is)∧(∀P R w0 ds os n sc q c k s l is,V P R w0 ds os (n+1) sc q (.r c (k+1)::s) l is=V P R w0 ds os n sc q (.c c :: .r c k::s) l is)
 ∧ (∀p q,vnE 0 0 p q=p)∧(∀n m p q,vnE (n+1) (m+1) p q=vnE n m p q)∧(∀n p q,vnE (n+1) 0 p q=q)∧(∀n p q,vnE 0 (n+1) p q=q)
 ∧ (∀k m f,rO (.int k m) f=f k m)∧(∀b f,vvB (.bool b) f=f b)∧(∀a f,vvP (.pointer (some a)) f=f a)∧(∀a n c f,vvS (.slice a n c) f=f a n c)∧(∀cs f,vvA (.agg (jp cs)) f=f cs)∧(∀cs f,vvT (.tuple (jp cs)) f=f cs)
 ∧ (∀p q,vbX true p q=p)∧(∀p q,vbX false p q=q)∧(∀n p,vnX (n+1) p=p)
 ∧ (∀x l f,Lx (x::l) 0 f=f x)∧(∀x l n f,Lx (x::l) (n+1) f=Lx l n f)
 ∧ (∀P l is os pr x sc K,Gq P l is os pr (.move x) sc K=K True (ev l x) sc is)
 ∧ (∀P l is os pr x sc K,Gq P l is os pr (.assign x) sc K=K True (ev l x) sc is)
 ∧ (∀P l is os pr x sc K,Gq P l is os pr (.nilCheck x) sc K=vvP (ev l x) fun a=>K True (.pointer (some a)) sc is)
 ∧ (∀P l is os pr c x y sc K,Gq P l is os pr (.pick c x y) sc K=vvB (ev l c) fun b=>vbX b (K True (ev l x) sc is) (K True (ev l y) sc is))
 ∧ (∀P l is os pr b T x y T' sc K,Gq P l is os pr (.binOp b T x y T') sc K=biV b (ev l x) (ev l y) sc is K)
 ∧ (∀P l is os pr T x sc K,Gq P l is os pr (.unOp .not T x) sc K=vvB (ev l x) fun b=>K True (.bool (!b)) sc is)
 ∧ (∀P l is os pr T x sc K,Gq P l is os pr (.unOp .neg T x) sc K=rO (ev l x) fun k m=>K (InR k (0-m)) (.int k (0-m)) sc is)
 ∧ (∀P l is os pr T T' x sc K,Gq P l is os pr (.convert T T' x) sc K=Cf (ikP P T) fun _=>Cf (ikP P T') fun k=>rO (ev l x) fun _ m=>K (InR k m) (.int k m) sc is)
 ∧ (∀P l is os pr x i sc K,Gq P l is os pr (.extract x i) sc K=vvT (ev l x) fun cs=>Lx cs i fun v=>K True v sc is)
 ∧ (∀P l is os pr b xs ts sc K,Gq P l is os pr (.call ⟨.builtin b,jp xs,jp ts⟩) sc K=caV P l is b xs ts sc K)
 ∧ (∀P l is x T sc K,caV P l is .len [x] [T] sc K=Cf (Jd P T) fun _=>vvS (ev l x) fun _ n _=>K True (.int .i64 n) sc is)
 ∧ (∀P l is x y ts sc K,caV P l is .min [x,y] ts sc K=rO (ev l x) fun k m=>rO (ev l y) fun k' n=>K (k'=k) (.int k (if n<m then n else m)) sc is)
 ∧ (∀P l is x y ts sc K,caV P l is .max [x,y] ts sc K=rO (ev l x) fun k m=>rO (ev l y) fun k' n=>K (k'=k) (.int k (if m<n then n else m)) sc is)
 ∧ (∀x y sc is K,biV .add x y sc is K=rO x fun k m=>rO y fun k' n=>K (k'=k∧InR k (m+n)) (.int k (m+n)) sc is)
 ∧ (∀x y sc is K,biV .sub x y sc is K=rO x fun k m=>rO y fun k' n=>K (k'=k∧InR k (m-n)) (.int k (m-n)) sc is)
 ∧ (∀x y sc is K,biV .mul x y sc is K=rO x fun k m=>rO y fun k' n=>K (k'=k∧InR k (m*n)) (.int k (m*n)) sc is)
 ∧ (∀x y sc is K,biV .lss x y sc is K=rO x fun k m=>rO y fun k' n=>cV sc (m<n) (fun p=>K (k'=k∧p)) is)
 ∧ (∀x y sc is K,biV .leq x y sc is K=rO x fun k m=>rO y fun k' n=>cV sc (m≤n) (fun p=>K (k'=k∧p)) is)
 ∧ (∀x y sc is K,biV .gtr x y sc is K=rO x fun k m=>rO y fun k' n=>cV sc (n<m) (fun p=>K (k'=k∧p)) is)
 ∧ (∀x y sc is K,biV .geq x y sc is K=rO x fun k m=>rO y fun k' n=>cV sc (n≤m) (fun p=>K (k'=k∧p)) is)
 ∧ (∀x y sc is K,biV .eql x y sc is K=rO x fun k m=>rO y fun k' n=>cV sc (m=n) (fun p=>K (k'=k∧p)) is)
 ∧ (∀x y sc is K,biV .neq x y sc is K=rO x fun k m=>rO y fun k' n=>cV sc (m≠n) (fun p=>K (k'=k∧p)) is)
 ∧ (∀sc p K is [Decidable p],cV (0::sc) p K is=K True (.bool (decide p)) sc is)∧(∀sc p K is [Decidable p],cV (1::sc) p K is=K p (.bool true) sc is)∧(∀sc p K is [Decidable p],cV (2::sc) p K is=K (¬p) (.bool false) sc is)
 ∧ (∀n,InR .i64 n=(-9223372036854775808≤n∧n<9223372036854775808))∧(∀n,InR .i32 n=(-2147483648≤n∧n<2147483648))∧(∀n,InR .u64 n=(0≤n∧n<18446744073709551616))∧(∀n,InR .u32 n=(0≤n∧n<4294967296))∧(∀n,InR .u8 n=(0≤n∧n<256))
 ∧ (∀{α:Type} (hd:α→Option Oper) P is os ops K q rest l,VQ hd P is os ops K 0 [] q rest l=(q∧K rest l))∧(∀P is os ops K n sc q d op ty pos af g rest l,VQ some P is os ops K (n+1) sc q (⟨some d,op,ty,pos,af,g⟩::rest) l=Rz ops l g (Gq P l is os true op sc fun vc v sc _=>VQ some P is os ops K n sc (vc∧q) rest (l.set d v)) (VQ some P is os ops K n sc q rest (l.set d undef)))
 ∧ (∀P is os ops K n sc q d op ty pos af g rest l,VQ hdH P is os ops K (n+1) sc q ((⟨some d,op,ty,pos,af,g⟩,true)::rest) l=Rz ops l g (Gq P l is os true op sc fun vc v sc _=>VQ hdH P is os ops K n sc (vc∧q) rest (l.set d v)) (VQ hdH P is os ops K n sc q rest (l.set d undef)))
 ∧ (∀(w:Bool × aj),(some w).isSome=true)∧((none:Kw).isSome=false)∧(∀b w,kpb (some (b,w))=b)∧(kpb none=false)
 ∧ (∀{α:Type} (x:α) f,Cf (some x) f=f x)∧(∀l ds,Fz l ds=Fr l ds)
 ∧ (∀p:Prop,(True∧p)=p)∧(∀p:Prop,(p∧True)=p)
 ∧ (∀(l:List Go.Value) (t:Nat),ev l (.tmp t)=l.getD t undef)∧(∀(l:List Go.Value) (v:Go.Value),ev l (.const v)=v)∧(∀(l:List Go.Value) (f:Nat),ev l (.func f)=.func (.func f) #[] #[])∧(∀{α:Type} (x:α) (xs:List α) (n:Nat) (d:α),(x::xs).getD (n+1) d=xs.getD n d)∧(∀{α:Type} (x:α) (xs:List α) (d:α),(x::xs).getD 0 d=x)∧(∀{α:Type} (x:α) (xs:List α) (n:Nat) (a:α),(x::xs).set (n+1) a=x::xs.set n a)∧(∀{α:Type} (x:α) (xs:List α) (a:α),(x::xs).set 0 a=a::xs)
 ∧ (∀P l is os pr T x i sc K,Gq P l is os pr (.fieldAddr T x i) sc K=Cf (mX P T i) fun f=>vvP (ev l x) fun a=>vnX f.2.2 (K True (.pointer (some (a.add f.1))) sc is))
 ∧ (∀P l is os pr T x i sc K,Gq P l is os pr (.field T x i) sc K=Cf (mX P T i) fun f=>vvA (ev l x) fun cs=>vbX f.2.1 (K True (.agg ((cs.drop f.1).take f.2.2).toArray) sc is) (Lx cs f.1 fun v=>K True v sc is))
 ∧ (∀P l is os pr T x k sc K,Gq P l is os pr (.load T x) (k::sc) K=Cf (uB P T) fun z=>vvP (ev l x) fun a=>atB is os k fun g=>vbX z.1 (K (a=⟨g.1,a.off,none⟩∧Hc ((g.2.1.drop a.off).take z.2) z.2) (.agg ((g.2.1.drop a.off).take z.2).toArray) sc is) (Lx g.2.1 a.off fun v=>K (a=⟨g.1,a.off,none⟩) v sc is))
 ∧ (∀P l is os pr T ps sc K,Gq P l is os pr (.build T (jp ps)) sc K=Cf (Bu P T) fun z=>blV l z.1 ps z.2 True fun q cs=>K q (.agg cs.toArray) sc is)
 ∧ (∀l pl cs q f,blV l pl [] cs q f=f q cs)∧(∀l pl i x ps cs q f,blV l pl ((i,x)::ps) cs q f=Zw pl i fun z=>vnX z.2 (blV l pl ps (over cs z.1 (ev l x).cells.toList) (Hc (ev l x).cells.toList z.2∧Hc ((cs.drop z.1).take z.2) z.2∧q) f))
 ∧ (∀x l f,Zw (x::l) 0 f=f x)∧(∀x l n f,Zw (x::l) (n+1) f=Zw l n f)
 ∧ (∀P l is os T x sc K,Gq P l is os false (.box T x) sc K=∀g,K True (.pointer (some ⟨g,0,none⟩)) sc (bI g (ev l x).cells.toList T::is))
 ∧ (∀P l is os T sc K,Gq P l is os false (.alloc T) sc K=Cf (Ly P T) fun z=>∀g,K True (.pointer (some ⟨g,0,none⟩)) sc (bI g z T::is))
 ∧ (∀P l is T x y k sc K,stV P l is false (.store T x y) (k::sc) K=Cf (uB P T) fun z=>vnX z.2 (vvP (ev l x) fun a=>atM is k fun g=>K (a=⟨g.1,a.off,none⟩∧Hc ((g.2.1.drop a.off).take z.2) z.2∧Hc (ev l y).cells.toList z.2∧Zu (ev l y).cells.toList) undef sc (is.set k (bI g.1 (over g.2.1 a.off (ev l y).cells.toList) g.2.2))))
 ∧ (∀P l is os pr T x y sc K,Gq P l is os pr (.indexAddr T x y) sc K=Cf (ixP P T) fun z=>vvX z.1 (ev l x) fun a n=>rO (ev l y) fun _ m=>K (0≤m∧m<n) (.pointer (some (a.add (m.toNat*z.2)))) sc is)
 ∧ (∀n v f,vvX (some n) v f=vvP v fun a=>f a n)∧(∀v f,vvX none v f=vvS v fun A n _=>Cf A fun a=>f a n)
 ∧ (∀bs i is,pV (true::bs) (i::is)=i::pV bs is)∧(∀bs i is,pV (false::bs) (i::is)=pV bs is)∧(∀is,pV [] is=[])
 ∧ (∀i is os f,atB (i::is) os 0 f=Cf i.bk f)∧(∀i is os k f,atB (i::is) os (k+1) f=atB is os k f)∧(∀os k f,atB [] os k f=atO os k f)∧(∀x os f,atO (x::os) 0 f=f x)∧(∀x os k f,atO (x::os) (k+1) f=atO os k f)
 ∧ (∀i is f,atM (i::is) 0 f=Cf i.bk f)∧(∀i is k f,atM (i::is) (k+1) f=atM is k f)∧(∀g cs t,(bI g cs t).bk=some (g,cs,t))
 ∧ (∀x l n,Hc (x::l) (n+1)=Hc l n)∧(Hc [] 0=True)∧(∀v l,Zu (v::l)=(v.oneCell'=true∧Zu l))∧(Zu []=True)
 ∧ (∀g n,(⟨g,0,none⟩:Addr).add n=⟨g,n,none⟩)∧(∀g o n,(⟨g,o,none⟩:Addr).add n=⟨g,o+n,none⟩)
 ∧ (∀cs o us,over cs o us=cs.take o++us++cs.drop (o+us.length))
 ∧ (∀cs,(Value.agg (jp cs)).cells.toList=cs)∧(∀k n,(Value.int k n).cells.toList=[.int k n])∧(∀b,(Value.bool b).cells.toList=[.bool b])∧(∀b,(Value.string b).cells.toList=[.string b])∧(∀a,(Value.pointer a).cells.toList=[.pointer a])∧(∀a n c,(Value.slice a n c).cells.toList=[.slice a n c])∧(∀a,(Value.map a).cells.toList=[.map a])∧(∀a b c,(Value.func a b c).cells.toList=[.func a b c])
 ∧ (∀k n,(Value.int k n).oneCell'=true)∧(∀b,(Value.bool b).oneCell'=true)∧(∀b,(Value.string b).oneCell'=true)∧(∀a,(Value.pointer a).oneCell'=true)∧(∀a n c,(Value.slice a n c).oneCell'=true)∧(∀a,(Value.map a).oneCell'=true)∧(∀a b c,(Value.func a b c).oneCell'=true)
 ∧ (∀{α:Type} (x:α) (xs:List α) (n:Nat),(x::xs).take (n+1)=x::xs.take n)∧(∀{α:Type} (xs:List α),xs.take 0=[])∧(∀{α:Type} (x:α) (xs:List α) (n:Nat),(x::xs).drop (n+1)=xs.drop n)∧(∀{α:Type} (xs:List α),xs.drop 0=xs)∧(∀{α:Type} (n:Nat),([]:List α).drop n=[])∧(∀{α:Type} (x:α) (xs ys:List α),(x::xs)++ys=x::(xs++ys))∧(∀{α:Type} (ys:List α),[]++ys=ys)∧(∀{α:Type} (ys:List α),ys++[]=ys)∧(∀{α:Type} (x:α) (xs:List α),(x::xs).length=xs.length+1)∧(∀{α:Type},([]:List α).length=0)
 ∧ (∀p:P3,(pt p).cells.toList=[.int .i64 p.x,.int .i64 p.y,.int .i64 p.z])∧(∀p f,vvA (pt p) f=f [.int .i64 p.x,.int .i64 p.y,.int .i64 p.z])
 ∧ (∀t:T3,(tr t).cells.toList=[.int .i64 t.a.x,.int .i64 t.a.y,.int .i64 t.a.z,.int .i64 t.b.x,.int .i64 t.b.y,.int .i64 t.b.z,.int .i64 t.c.x,.int .i64 t.c.y,.int .i64 t.c.z])∧(∀t f,vvA (tr t) f=f [.int .i64 t.a.x,.int .i64 t.a.y,.int .i64 t.a.z,.int .i64 t.b.x,.int .i64 t.b.y,.int .i64 t.b.z,.int .i64 t.c.x,.int .i64 t.c.y,.int .i64 t.c.z])
 ∧ (∀v:P3,(wv v).cells.toList=[.bool (gW v.x),.string (kX v.x),.bool (gW v.y),.string (kX v.y),.bool (gW v.z),.string (kX v.z)])∧(∀v f,vvA (wv v) f=f [.bool (gW v.x),.string (kX v.x),.bool (gW v.y),.string (kX v.y),.bool (gW v.z),.string (kX v.z)])
 ∧ (∀v:P3,(nv v).cells.toList=[.int .i64 v.x,.int .i64 v.y,.int .i64 v.z])∧(∀v f,vvA (nv v) f=f [.int .i64 v.x,.int .i64 v.y,.int .i64 v.z])
 ∧ (∀v:P3,(sg v).cells.toList=[.int .i64 (bS v.x),.int .i64 (bS v.y),.int .i64 (bS v.z)])∧(∀v f,vvA (sg v) f=f [.int .i64 (bS v.x),.int .i64 (bS v.y),.int .i64 (bS v.z)])
 ∧ (∀e:E3,(ed e).cells.toList=[.int .i64 e.1.x,.int .i64 e.1.y,.int .i64 e.1.z,.int .i64 e.2.x,.int .i64 e.2.y,.int .i64 e.2.z])∧(∀e f,vvA (ed e) f=f [.int .i64 e.1.x,.int .i64 e.1.y,.int .i64 e.1.z,.int .i64 e.2.x,.int .i64 e.2.y,.int .i64 e.2.z])
 ∧ (∀p,qS p=[.int .i64 p.x,.int .i64 p.y,.int .i64 p.z])∧(∀p,dU p=[.int .i64 p.x,.int .i64 p.y,.int .i64 p.z])∧(∀e,bO e=[.int .i64 e.1.x,.int .i64 e.1.y,.int .i64 e.1.z,.int .i64 e.2.x,.int .i64 e.2.y,.int .i64 e.2.z])∧(∀n,wC n=[.bool (gW n),.string (kX n)])
 ∧ (∀n,(W n).cells.toList=[.bool (gW n),.string (kX n)])∧(∀n f,vvA (W n) f=f [.bool (gW n),.string (kX n)])
 ∧ (∀q:Rat,(Q q).cells.toList=[.bool (gW q.num),.string (kX q.num),.bool (gW (q.den:Int)),.string (kX (q.den:Int))])∧(∀q f,vvA (Q q) f=f [.bool (gW q.num),.string (kX q.num),.bool (gW (q.den:Int)),.string (kX (q.den:Int))]):=by
 repeat' apply And.intro
 all_goals intros
 all_goals first | rfl | exact arS | exact true_and _ | exact and_true _ | exact kp0 | exact kp1 | exact List.drop_nil | exact eo _ | exact (dV ..).trans (by rw[ar]) | exact dV ..
def Fx:List Oper→Nat→(Oper→Prop)→Prop
 | o::_,0,f=>f o
 | _::r,n+1,f=>Fx r n f
 | [],_,_=>False
def Du:List (List Nat)→Nat→(List Nat→Prop)→Prop
 | s::_,0,f=>f s
 | _::r,n+1,f=>Du r n f
 | [],_,f=>f []
theorem wT:∀{ss:List (List Nat)} {i:Nat} {f:List Nat→Prop},Du ss i f→∃s,f s
 | s::_,0,_,h=>⟨s,h⟩
 | _::r,n+1,_,h=>wT (ss:=r) h
 | [],_,_,h=>⟨[],h⟩
def Xl(op:Op)(bs:List Bool):List Bool:=match op with
 | .box _ _ | .alloc _=>false::bs
 | _=>bs
def Ss:List Bool→Nat→Prop→Prop
 | false::_,0,p=>p
 | _::bs,n+1,p=>Ss bs n p
 | _,_,_=>False
def tkV(P:bv)(ops:Array Oper)(l:List ai)(hs:List It)(o:Oper)(sc:List Nat)(q:Prop)(K:List Nat→Prop→List ai→Prop):Prop:=match o with
 | ⟨some d,op,_,_,_,g⟩=>Rz ops l g (Gq P l hs [] true op sc fun vc v sc _=>K sc (vc∧q) (l.set d v)) (K sc q (l.set d undef))
 | _=>False
def onV(P:bv)(ops:Array Oper)(l:List ai)(is:List It)(bs:List Bool)(o:Oper)(sc:List Nat)(q:Prop)(K:List Nat→Prop→List ai→List It→List Bool→Prop):Prop:=match o with
 | ⟨some d,op,_,_,_,g⟩=>Rz ops l g (Gq P l is [] false op sc fun vc v sc is'=>K sc (vc∧q) (l.set d v) is' (Xl op bs)) (K sc q (l.set d undef) is bs)
 | ⟨none,op,_,_,_,g⟩=>Rz ops l g (Ss bs (sc.headD 0) (stV P l is false op sc fun vc _ sc is'=>K sc (vc∧q) l is' bs)) (K sc q l is bs)
def VT(P:bv)(ops:Array Oper)(hs:List It)(ss:List (List Nat))(K:List ai→List It→Prop):qN→Prop→List ai→List It→List Bool→Prop
 | .nil,q,l,is,_=>q∧K l is
 | .take i t,q,l,is,bs=>Fx ops.toList i fun o=>Du ss i fun sc=>tkV P ops l hs o sc q fun _ q l=>VT P ops hs ss K t q l is bs
 | .one i t,q,l,is,bs=>Fx ops.toList i fun o=>Du ss i fun sc=>onV P ops l is bs o sc q fun _ q l is bs=>VT P ops hs ss K t q l is bs
 | .two i t j u,q,l,is,bs=>(Fx ops.toList i fun o=>Du ss i fun sc=>onV P ops l is bs o sc q fun _ q l is bs=>VT P ops hs ss K t q l is bs)∧Fx ops.toList j fun o=>Du ss j fun sc=>onV P ops l is bs o sc q fun _ q l is bs=>VT P ops hs ss K u q l is bs
 | .three i t j u k v,q,l,is,bs=>(Fx ops.toList i fun o=>Du ss i fun sc=>onV P ops l is bs o sc q fun _ q l is bs=>VT P ops hs ss K t q l is bs)∧(Fx ops.toList j fun o=>Du ss j fun sc=>onV P ops l is bs o sc q fun _ q l is bs=>VT P ops hs ss K u q l is bs)∧Fx ops.toList k fun o=>Du ss k fun sc=>onV P ops l is bs o sc q fun _ q l is bs=>VT P ops hs ss K v q l is bs
theorem wU:∀{ops:List Oper} {i:Nat} {f:Oper→Prop},Fx ops i f→∃o,ops[i]? = some o∧f o
 | o::_,0,_,h=>⟨o,rfl,h⟩
 | _::r,n+1,_,h=>by rw[iz];exact wU (ops:=r) h
theorem aao:∀{bs:List Bool} {k:Nat} {p:Prop},Ss bs k p→bs[k]? = some false∧p
 | false::_,0,_,h=>⟨rfl,h⟩
 | true::_,0,_,h=>h.elim
 | false::bs,n+1,_,h=>by rw[iz];exact aao (bs:=bs) h
 | true::bs,n+1,_,h=>by rw[iz];exact aao (bs:=bs) h
 | [],0,_,h=>h.elim
 | [],_+1,_,h=>h.elim
theorem St:∀{bs:List Bool} {is:List It} {k:Nat} {i:It},bs[k]? = some false→pV bs (is.set k i)=pV bs is
 | false::bs,_::is,0,_,_=>rfl
 | true::bs,_::is,0,_,h=>by cases h
 | true::bs,j::is,k+1,i,h=>by
  rw[fy];show j::pV bs (is.set k i)=j::pV bs is
  rw[St (by simpa using h)]
 | false::bs,j::is,k+1,i,h=>by
  rw[fy];show pV bs (is.set k i)=pV bs is
  exact St (by simpa using h)
 | _,[],k,i,_=>by rw[List.set_nil]
 | [],_::_,_,_,h=>by cases h
section
variable {P:bv} {w0:aj} {ds:List dw} {ops:Array Oper} {hs:List It} {K:List ai→List It→Prop} {Q:Exit→Act→aj→Prop}
theorem apx{m:Nat}{p:Prop}(h:n=m+1)(hp:p):vnX n p:=by subst h;exact hp
theorem apy{l:List ai}{is:List It}{sc:List Nat}{K:KV}(h:stV P l is false op sc K):∃i',stV P l is false op sc (fun vc v sc' is'=>is'=is.set (sc.headD 0) i'∧K vc v sc' is'):=by
 unfold stV at h ⊢;split at h
 · rename_i T x y k sc
   obtain⟨z,hz,h⟩:=oY (show Cf _ _ from h);obtain⟨n,hn,h⟩:=Zx h;obtain⟨a,hx,h⟩:=Lz h;obtain⟨i,g,hi,hb,h⟩:=ads h;refine⟨bI g.1 (over g.2.1 a.off (ev l y).cells.toList) g.2.2,?_⟩;refine (show Cf (uB P T) _ from ?_);rw[hz];refine (show vnX z.2 _ from apx hn ?_);rw[hx];refine (show atM is k _ from ?_);have key:∀{is:List It} {k:Nat} {f:Ob→Prop},is[k]? = some i→f g→atM is k f:=by
    intro is
    induction is with
    | nil=>intro k f h;cases h
    | cons j is ih =>
     intro k f h hf;cases k with
     | zero=>cases h;show Cf i.bk f;rw[hb];exact hf
     | succ k=>exact ih (by simpa using h) hf
   exact key hi ⟨rfl,h⟩
 · exact h.elim
theorem apz{l:List ai}{is:List It}{os:List Ob}{sc:List Nat}{K:KV}(h:Gq P l is os false op sc K):(∃cs T,(∀g,K True (.pointer (some ⟨g,0,none⟩)) sc (bI g cs T::is))∧Bx P l is w0 ds op cs T∧∀bs,Xl op bs=false::bs)∨(Gq P l is os true op sc K∧∀bs,Xl op bs=bs):=by
 cases op
 case box T x=>exact .inl ⟨_,_,h,fun d ty pos af ops Q rest w m hk=>ahE (by simp) fun u g e hg hB=>hk g u e (m.newB e hg hB),fun _=>rfl⟩
 case alloc T =>
  obtain⟨cs,hz,h⟩:=oY (show Cf _ _ from h);obtain⟨z,h1,h2⟩:=Zv hz;exact .inl ⟨_,_,h,fun d ty pos af ops Q rest w m hk=>Eu h1 h2 fun u g e hg hB=>hk g u e (m.newB e hg hB),fun _=>rfl⟩
 case unOp u T x=>cases u <;> exact .inr ⟨h,fun _=>rfl⟩
 all_goals exact .inr ⟨h,fun _=>rfl⟩
theorem Mh{l:List ai}{is:List It}{bs:List Bool}{o:Oper}{i:Nat}{t:qN}{sc:List Nat}{q:Prop}{G:List Nat→Prop→List ai→List It→List Bool→Prop}(hsel:pV bs is=hs)(ho:ops.toList[i]? = some o)(h:onV P ops l is bs o sc q G)
 (ih:∀sc q l is bs,pV bs is=hs→G sc q l is bs→q∧∀w,Mem w0 w is→cG P ops (fun u=>Mem w0 u hs) Q t (Fr l ds) w) :
 q∧∀w,Mem w0 w is→au P ops (Exit.then (fun a w=>Mem w0 w hs∧cG P ops (fun u=>Mem w0 u hs) Q t a w) Q) [(ops[i]?).getD default] (Fr l ds) w:=by
 have ho':(ops[i]?).getD default=o:=by
  rw[←fx,ho];rfl
 rw[ho'];have stay:∀{bs':List Bool} {is':List It} {w:aj},pV bs' is'=hs→Mem w0 w is'→Mem w0 w hs:=fun e m=>e▸m.sel _;obtain⟨d,op,ty,pos,af,g⟩:=o;cases d with
 | some d =>
  rcases Ma (show Rz _ _ _ _ _ from h) with ⟨h,hw⟩ | ⟨h,hw⟩
  · rcases apz (w0:=w0) (ds:=ds) h with ⟨cs,T,h,hb,hn⟩ | ⟨h,hn⟩
    · rw[hn] at h
      have e:∀g,pV (false::bs) (bI g cs T::is)=hs:=fun _=>hsel;exact⟨(ih _ _ _ _ _ (e 0) (h 0)).1.2,fun w m=>pG (hw _ _ _ _ _) (hb d ty pos af ops _ [] w m fun g u _ mu=>aN ⟨stay (e g) mu,(ih _ _ _ _ _ (e g) (h g)).2 u mu⟩)⟩
    · rcases Zz (ds:=ds) abB h with ⟨vc,v,sc',h,hy⟩ | ⟨e,_⟩
      · rw[hn] at h
        obtain⟨⟨hv,hq⟩,hk⟩:=ih _ _ _ _ _ hsel h;exact⟨hq,fun w m=>pG (hw _ _ _ _ _) (gK (hy hv w m ty) (aN ⟨stay hsel m,hk w m⟩))⟩
      · cases e
  · obtain⟨hq,hk⟩:=ih _ _ _ _ _ hsel h
    exact⟨hq,fun w m=>wK (hw _ _ _ _ _) (by rw[iE];exact aN ⟨stay hsel m,hk w m⟩)⟩
 | none =>
  rcases Ma (show Rz _ _ _ _ _ from h) with ⟨h,hw⟩ | ⟨h,hw⟩
  · obtain⟨hb,h⟩:=aao h
    obtain⟨i',h⟩:=apy h;obtain⟨_,vc,sc',is',⟨rfl,h⟩,hy⟩:=aiI (w0:=w0) (ds:=ds) h;have e:=(St (i:=i') (is:=is) hb).trans hsel;obtain⟨⟨hv,hq⟩,hk⟩:=ih _ _ _ _ _ e h;exact⟨hq,fun w m=>pG (hw _ _ _ _ _) (hy hv ty pos af ops _ [] w m fun u mu=>aN ⟨stay e mu,hk u mu⟩)⟩
  · obtain⟨hq,hk⟩:=ih _ _ _ _ _ hsel h
    exact⟨hq,fun w m=>wK (hw _ _ _ _ _) (aN ⟨stay hsel m,hk w m⟩)⟩
theorem Jn{ss:List (List Nat)}(hK:∀l is,K l is→∀w,Mem w0 w is→Q .normal (Fr l ds) w):∀(t:qN) (q:Prop) (l:List ai) (is:List It) (bs:List Bool),pV bs is=hs→VT P ops hs ss K t q l is bs→q∧∀w,Mem w0 w is→cG P ops (fun u=>Mem w0 u hs) Q t (Fr l ds) w
 | .nil,q,l,is,bs,_,h=>⟨h.1,fun w m=>hK _ _ h.2 w m⟩
 | .take i t,q,l,is,bs,hsel,h=>by
  obtain⟨⟨d,op,ty,pos,af,g⟩,ho,h⟩:=wU h;obtain⟨sc,h⟩:=wT h;have ho':(ops[i]?).getD default=⟨d,op,ty,pos,af,g⟩:=by
   rw[←fx,ho];rfl
  cases d with
  | none=>exact h.elim
  | some d =>
   rcases Ma (show Rz _ _ _ _ _ from h) with ⟨h,hw⟩ | ⟨h,hw⟩
   · rcases Zz (w0:=w0) (ds:=ds) abB h with ⟨vc,v,sc',h,hy⟩ | ⟨e,_⟩
     · obtain⟨⟨hv,hq⟩,hk⟩:=Jn hK t _ _ _ _ hsel h
       refine⟨hq,fun w m=>eM ho' ?_⟩;refine⟨v,.inl ⟨hw _ _ _ _ _,fun u mu=>hy hv u mu ty _ rfl rfl⟩,?_⟩;show cG P ops _ Q t ((Fr l ds).put (some d) v) w
       rw[iE];exact hk w m
     · cases e
   · obtain⟨hq,hk⟩:=Jn hK t _ _ _ _ hsel h
     refine⟨hq,fun w m=>eM ho' ?_⟩;refine⟨undef,.inr ⟨hw _ _ _ _ _,rfl⟩,?_⟩;show cG P ops _ Q t ((Fr l ds).put (some d) undef) w
     rw[iE];exact hk w m
 | .one i t,q,l,is,bs,hsel,h=>by
  obtain⟨o,ho,h⟩:=wU h;obtain⟨sc,h⟩:=wT h;exact Mh hsel ho h fun sc q l is bs e h=>Jn hK t q l is bs e h
 | .two i t j u,q,l,is,bs,hsel,h=>by
  obtain⟨h1,h2⟩:=h;obtain⟨o,ho,h1⟩:=wU h1;obtain⟨_,h1⟩:=wT h1;obtain⟨o2,ho2,h2⟩:=wU h2;obtain⟨_,h2⟩:=wT h2;have r1:=Mh (Q:=Q) (t:=t) hsel ho h1 fun sc q l is bs e h=>Jn hK t q l is bs e h;have r2:=Mh (Q:=Q) (t:=u) hsel ho2 h2 fun sc q l is bs e h=>Jn hK u q l is bs e h;exact⟨r1.1,fun w m=>⟨r1.2 w m,r2.2 w m⟩⟩
 | .three i t j u k v,q,l,is,bs,hsel,h=>by
  obtain⟨h1,h2,h3⟩:=h;obtain⟨o,ho,h1⟩:=wU h1;obtain⟨_,h1⟩:=wT h1;obtain⟨o2,ho2,h2⟩:=wU h2;obtain⟨_,h2⟩:=wT h2;obtain⟨o3,ho3,h3⟩:=wU h3;obtain⟨_,h3⟩:=wT h3;have r1:=Mh (Q:=Q) (t:=t) hsel ho h1 fun sc q l is bs e h=>Jn hK t q l is bs e h;have r2:=Mh (Q:=Q) (t:=u) hsel ho2 h2 fun sc q l is bs e h=>Jn hK u q l is bs e h;have r3:=Mh (Q:=Q) (t:=v) hsel ho3 h3 fun sc q l is bs e h=>Jn hK v q l is bs e h;exact⟨r1.1,fun w m=>⟨r1.2 w m,r2.2 w m,r3.2 w m⟩⟩
end
theorem zvt{P:bv}{w0 w:aj}{ds:List dw}{s:List Ko}{R:Exit→Act→aj→Prop}{is:List It}{id:Nat}{l0:List ai}{l:List Oper}(bs:List Bool)(ss:List (List Nat))(t:qN)(m:Mem w0 w is)(hm:P.follows .mixedOrders=true)(hB:(Region.noSelect l.toArray&&t.ok .any l.toArray l.toArray.size (Array.replicate l.toArray.size false))=true)
 (hQ:∀c d v a w,Ct P R s (.panic c) (Act.put a d v) w→Ct P R s (.panic c) a w)
 (h:VT P l.toArray (pV bs is) ss (fun l is=>∀w,Mem w0 w is→Ct P R s .normal (Fz l ds) w) t True l0 is bs):(Code.region id l.toArray true).wp P (Ct P R s) (Fr l0 ds) w :=
 Wh m bs t hm hB hQ fun _ mu=>(Jn (fun _ _ h=>h) t True l0 is bs rfl h).2 _ mu
theorem dZ{ops i i' f}(h:i=i'):Fx ops i f=Fx ops i' f:=by rw[h]
theorem eA{ss i i' f}(h:i=i'):Du ss i f=Du ss i' f:=by rw[h]
theorem eB{bs bs' k p}(h:bs=bs'):Ss bs k p=Ss bs' k p:=by rw[h]
theorem gH{P ops l l' hs o sc q K}(h:l=l'):tkV P ops l hs o sc q K=tkV P ops l' hs o sc q K:=by rw[h]
theorem gI{P ops l l' is bs o sc q K}(h:l=l'):onV P ops l is bs o sc q K=onV P ops l' is bs o sc q K:=by rw[h]
theorem jD{P ops hs ss K t q l l' is bs}(h:l=l'):VT P ops hs ss K t q l is bs=VT P ops hs ss K t q l' is bs:=by rw[h]
theorem apA{b:Bool}{bs:List Bool}{p:Prop}:Ss (b::bs) (n+1) p=Ss bs n p:=by cases b <;> rfl
theorem zzu:(∀o r f,Fx (o::r) 0 f=f o)∧(∀o r n f,Fx (o::r) (n+1) f=Fx r n f)
 ∧ (∀s r f,Du (s::r) 0 f=f s)∧(∀s r n f,Du (s::r) (n+1) f=Du r n f)∧(∀n f,Du [] n f=f [])
 ∧ (∀T x bs,Xl (.box T x) bs=false::bs)∧(∀T bs,Xl (.alloc T) bs=false::bs)∧(∀x bs,Xl (.move x) bs=bs)∧(∀x bs,Xl (.assign x) bs=bs)∧(∀x bs,Xl (.nilCheck x) bs=bs)∧(∀a b c bs,Xl (.pick a b c) bs=bs)∧(∀a b c d e bs,Xl (.binOp a b c d e) bs=bs)∧(∀a b c bs,Xl (.unOp a b c) bs=bs)∧(∀a b c bs,Xl (.convert a b c) bs=bs)∧(∀a b c bs,Xl (.fieldAddr a b c) bs=bs)∧(∀a b c bs,Xl (.field a b c) bs=bs)∧(∀a b c bs,Xl (.indexAddr a b c) bs=bs)∧(∀a b bs,Xl (.build a b) bs=bs)∧(∀a b bs,Xl (.extract a b) bs=bs)∧(∀a b bs,Xl (.load a b) bs=bs)∧(∀a bs,Xl (.call a) bs=bs)
 ∧ (∀bs p,Ss (false::bs) 0 p=p)∧(∀b bs n p,Ss (b::bs) (n+1) p=Ss bs n p)∧(∀(k:Nat) sc,List.headD (k::sc) 0=k)
 ∧ (∀P ops l hs d op ty pos af g sc q K,tkV P ops l hs ⟨some d,op,ty,pos,af,g⟩ sc q K=Rz ops l g (Gq P l hs [] true op sc fun vc v sc _=>K sc (vc∧q) (l.set d v)) (K sc q (l.set d undef)))
 ∧ (∀P ops l is bs d op ty pos af g sc q K,onV P ops l is bs ⟨some d,op,ty,pos,af,g⟩ sc q K=Rz ops l g (Gq P l is [] false op sc fun vc v sc is'=>K sc (vc∧q) (l.set d v) is' (Xl op bs)) (K sc q (l.set d undef) is bs))
 ∧ (∀P ops l is bs op ty pos af g k sc q K,onV P ops l is bs ⟨none,op,ty,pos,af,g⟩ (k::sc) q K=Rz ops l g (Ss bs k (stV P l is false op (k::sc) fun vc _ sc is'=>K sc (vc∧q) l is' bs)) (K (k::sc) q l is bs))
 ∧ (∀P ops hs ss K q l is bs,VT P ops hs ss K .nil q l is bs=(q∧K l is))
 ∧ (∀P ol hs ss K i t q l is bs,VT P (jp ol) hs ss K (.take i t) q l is bs=Fx ol i fun o=>Du ss i fun sc=>tkV P ol.toArray l hs o sc q fun _ q l=>VT P ol.toArray hs ss K t q l is bs)
 ∧ (∀P ol hs ss K i t q l is bs,VT P (jp ol) hs ss K (.one i t) q l is bs=Fx ol i fun o=>Du ss i fun sc=>onV P ol.toArray l is bs o sc q fun _ q l is bs=>VT P ol.toArray hs ss K t q l is bs)
 ∧ (∀P ol hs ss K i t j u q l is bs,VT P (jp ol) hs ss K (.two i t j u) q l is bs=(VT P ol.toArray hs ss K (.one i t) q l is bs∧VT P ol.toArray hs ss K (.one j u) q l is bs))
 ∧ (∀P ol hs ss K i t j u k v q l is bs,VT P (jp ol) hs ss K (.three i t j u k v) q l is bs=(VT P ol.toArray hs ss K (.one i t) q l is bs∧VT P ol.toArray hs ss K (.one j u) q l is bs∧VT P ol.toArray hs ss K (.one k v) q l is bs))
 ∧ (∀p:Prop,(p∧p)=p)∧(∀p q r:Prop,((p∧r)∧(q∧r))=((p∧q)∧r)):=by
 repeat' apply And.intro
 all_goals intros
 all_goals first | rfl | exact apA | exact and_self _ | exact propext ⟨fun h=>⟨⟨h.1.1,h.2.1⟩,h.1.2⟩,fun h=>⟨⟨h.1.1,h.2⟩,h.1.2,h.2⟩⟩
end Go.Lith
namespace Go.Proofs.YtfekpcimgncioaaGreatDoor
open Go.Proofs.Tryz
open Go.RowKit Go.Lith
set_option maxRecDepth 100000
theorem eR:uB prog 3=some (false,1):=by kernel_rfl
theorem atu:Ly prog 3=some [.int .i64 0]:=by kernel_rfl
theorem uE:ikP prog 3=some .i64:=by kernel_rfl
theorem adN:uB prog 4=some (false,1):=by kernel_rfl
theorem sW:ikP prog 5=some .u8:=by kernel_rfl
theorem amt:uB prog 9=some (false,1):=by kernel_rfl
theorem Oi:Jd prog 22=some 3:=by kernel_rfl
theorem aoe:uB prog 23=some (false,1):=by kernel_rfl
theorem Su:ikP prog 23=some .u16:=by kernel_rfl
theorem aof:uB prog 24=some (true,2):=by kernel_rfl
theorem aog:ixP prog 24=some (some 2,1):=by kernel_rfl
theorem Xm:uB prog 26=some (false,1):=by kernel_rfl
theorem eV:Jd prog 27=some 39:=by kernel_rfl
theorem aU:uB prog 30=some (true,3):=by kernel_rfl
theorem gM:Ly prog 30=some [.int .i64 0,.int .i64 0,.int .i64 0]:=by kernel_rfl
theorem kH:mX prog 30 0=some (0,false,1):=by kernel_rfl
theorem kI:mX prog 30 1=some (1,false,1):=by kernel_rfl
theorem lE:mX prog 30 2=some (2,false,1):=by kernel_rfl
theorem yD:Bu prog 30=some ([(0,1),(1,1),(2,1)],[.int .i64 0,.int .i64 0,.int .i64 0]):=by kernel_rfl
theorem Dv:uB prog 36=some (true,3):=by kernel_rfl
theorem Oj:Ly prog 36=some [.int .i64 0,.int .i64 0,.int .i64 0]:=by kernel_rfl
theorem jE:ixP prog 36=some (some 3,1):=by kernel_rfl
theorem yE:Bu prog 36=some ([(0,1),(1,1),(2,1)],[.int .i64 0,.int .i64 0,.int .i64 0]):=by kernel_rfl
theorem aoh:uB prog 38=some (true,9):=by kernel_rfl
theorem ar4:Ly prog 38=some [.int .i64 0,.int .i64 0,.int .i64 0,.int .i64 0,.int .i64 0,.int .i64 0,.int .i64 0,.int .i64 0,.int .i64 0]:=by kernel_rfl
theorem gX:uB prog 39=some (true,9):=by kernel_rfl
theorem nC:Ly prog 39=some [.int .i64 0,.int .i64 0,.int .i64 0,.int .i64 0,.int .i64 0,.int .i64 0,.int .i64 0,.int .i64 0,.int .i64 0]:=by kernel_rfl
theorem dD:ixP prog 39=some (some 3,3):=by kernel_rfl
theorem tJ:Bu prog 39=some ([(0,3),(3,3),(6,3)],[.int .i64 0,.int .i64 0,.int .i64 0,.int .i64 0,.int .i64 0,.int .i64 0,.int .i64 0,.int .i64 0,.int .i64 0]):=by kernel_rfl
theorem Xn:Jd prog 46=some 55:=by kernel_rfl
theorem Bp:Jd prog 52=some 56:=by kernel_rfl
theorem Fk:mX prog 55 0=some (0,true,3):=by kernel_rfl
theorem afd:mX prog 55 1=some (3,true,3):=by kernel_rfl
theorem ar5:Bu prog 55=some ([(0,3),(3,3)],[.int .i64 0,.int .i64 0,.int .i64 0,.int .i64 0,.int .i64 0,.int .i64 0]):=by kernel_rfl
theorem wV:uB prog 56=some (true,6):=by kernel_rfl
theorem Sv:Ly prog 56=some [.int .i64 0,.int .i64 0,.int .i64 0,.int .i64 0,.int .i64 0,.int .i64 0]:=by kernel_rfl
theorem Gr:ixP prog 56=some (some 2,3):=by kernel_rfl
theorem Dw:Bu prog 56=some ([(0,3),(3,3)],[.int .i64 0,.int .i64 0,.int .i64 0,.int .i64 0,.int .i64 0,.int .i64 0]):=by kernel_rfl
theorem Ol:uB prog 62=some (false,1):=by kernel_rfl
theorem ai8:Jd prog 62=some 4:=by kernel_rfl
theorem lC:Jd prog 65=some 30:=by kernel_rfl
theorem aoi:ixP prog 65=some (none,3):=by kernel_rfl
theorem afe:uB prog 88=some (false,1):=by kernel_rfl
theorem ar6:Ly prog 88=some [.pointer none]:=by kernel_rfl
theorem aff:uB prog 93=some (false,1):=by kernel_rfl
theorem ar7:Ly prog 93=some [.map none]:=by kernel_rfl
theorem jZ:uB prog 95=some (true,2):=by kernel_rfl
theorem vN:Ly prog 95=some [.bool false,.string ⟨#[]⟩]:=by kernel_rfl
theorem Aq:mX prog 95 0=some (0,false,1):=by kernel_rfl
theorem Py:mX prog 95 1=some (1,false,1):=by kernel_rfl
theorem ai9:Ly prog 97=some [.bool false,.string ⟨#[]⟩,.bool false,.string ⟨#[]⟩,.bool false,.string ⟨#[]⟩,.bool false,.string ⟨#[]⟩,.bool false,.string ⟨#[]⟩,.bool false,.string ⟨#[]⟩,.bool false,.string ⟨#[]⟩,.bool false,.string ⟨#[]⟩,.bool false,.string ⟨#[]⟩,.bool false,.string ⟨#[]⟩]:=by kernel_rfl
theorem aap:uB prog 100=some (false,1):=by kernel_rfl
theorem apB:Ly prog 100=some [.map none]:=by kernel_rfl
theorem apC:Jd prog 105=some 112:=by kernel_rfl
theorem apD:uB prog 106=some (false,1):=by kernel_rfl
theorem apE:uB prog 107=some (false,1):=by kernel_rfl
theorem aja:mX prog 109 0=some (0,false,1):=by kernel_rfl
theorem Sw:mX prog 109 1=some (1,false,1):=by kernel_rfl
theorem Sx:mX prog 109 2=some (2,false,1):=by kernel_rfl
theorem apF:Bu prog 109=some ([(0,1),(1,1),(2,1)],[.slice none 0 0,.map none,.map none]):=by kernel_rfl
theorem adO:uB prog 112=some (true,8):=by kernel_rfl
theorem adP:Ly prog 112=some [.int .i64 0,.int .i64 0,.int .i64 0,.int .i64 0,.int .i64 0,.int .i64 0,.bool false,.string ⟨#[]⟩]:=by kernel_rfl
theorem Dx:mX prog 112 0=some (0,true,3):=by kernel_rfl
theorem vO:mX prog 112 1=some (3,true,3):=by kernel_rfl
theorem adQ:uB prog 139=some (true,2):=by kernel_rfl
theorem apG:Ly prog 139=some [.int .i64 0,.slice none 0 0]:=by kernel_rfl
theorem Jo:mX prog 139 0=some (0,false,1):=by kernel_rfl
theorem sG:mX prog 139 1=some (1,false,1):=by kernel_rfl
theorem apH:Jd prog 157=some 26:=by kernel_rfl
theorem Mi:ixP prog 157=some (none,1):=by kernel_rfl
theorem apI:Jd prog 212=some 215:=by kernel_rfl
theorem vP:uB prog 215=some (true,6):=by kernel_rfl
theorem Dy:Ly prog 215=some [.int .i64 0,.int .i64 0,.int .i64 0,.int .i64 0,.int .i64 0,.int .i64 0]:=by kernel_rfl
theorem Sy:mX prog 215 0=some (0,true,3):=by kernel_rfl
theorem Dz:mX prog 215 1=some (3,true,3):=by kernel_rfl
theorem Mj:Bu prog 215=some ([(0,3),(3,3)],[.int .i64 0,.int .i64 0,.int .i64 0,.int .i64 0,.int .i64 0,.int .i64 0]):=by kernel_rfl
theorem ajb:mX prog 218 0=some (0,false,1):=by kernel_rfl
theorem Sz:mX prog 218 2=some (4,true,3):=by kernel_rfl
theorem Ta:mX prog 218 3=some (7,false,1):=by kernel_rfl
theorem ajc:mX prog 218 4=some (8,false,1):=by kernel_rfl
theorem Jp:mX prog 218 5=some (9,false,1):=by kernel_rfl
theorem Tb:mX prog 218 7=some (11,false,1):=by kernel_rfl
theorem adR:uB prog 222=some (true,6):=by kernel_rfl
theorem adS:Ly prog 222=some [.int .i64 0,.int .i64 0,.int .i64 0,.int .i64 0,.int .i64 0,.int .i64 0]:=by kernel_rfl
theorem kA:mX prog 222 0=some (0,true,3):=by kernel_rfl
theorem kB:mX prog 222 1=some (3,true,3):=by kernel_rfl
theorem apJ:Bu prog 222=some ([(0,3),(3,3)],[.int .i64 0,.int .i64 0,.int .i64 0,.int .i64 0,.int .i64 0,.int .i64 0]):=by kernel_rfl
theorem ajd:uB prog 229=some (true,8):=by kernel_rfl
theorem adT:Ly prog 229=some [.bool false,.string ⟨#[]⟩,.bool false,.string ⟨#[]⟩,.bool false,.string ⟨#[]⟩,.bool false,.string ⟨#[]⟩]:=by kernel_rfl
theorem Mk:ixP prog 229=some (some 4,2):=by kernel_rfl
theorem aje:Bu prog 229=some ([(0,2),(2,2),(4,2),(6,2)],[.bool false,.string ⟨#[]⟩,.bool false,.string ⟨#[]⟩,.bool false,.string ⟨#[]⟩,.bool false,.string ⟨#[]⟩]):=by kernel_rfl
theorem Ea:ikP prog 231=some .u64:=by kernel_rfl
theorem kC:Jd prog 233=some 231:=by kernel_rfl
theorem apK:uB prog 243=some (true,3):=by kernel_rfl
theorem apL:Ly prog 243=some [.nilFunc,.nilFunc,.nilFunc]:=by kernel_rfl
theorem apM:Bu prog 243=some ([(0,1),(1,1),(2,1)],[.nilFunc,.nilFunc,.nilFunc]):=by kernel_rfl
theorem ajf:mX prog 245 0=some (0,false,1):=by kernel_rfl
theorem ajg:mX prog 245 1=some (1,false,1):=by kernel_rfl
theorem ajh:mX prog 245 2=some (2,false,1):=by kernel_rfl
theorem apN:uB prog 257=some (true,6):=by kernel_rfl
theorem aji:Ly prog 257=some [.bool false,.string ⟨#[]⟩,.bool false,.string ⟨#[]⟩,.bool false,.string ⟨#[]⟩]:=by kernel_rfl
theorem aaq:ixP prog 257=some (some 3,2):=by kernel_rfl
theorem qD:mX prog 264 0=some (0,true,8):=by kernel_rfl
theorem vQ:mX prog 264 1=some (8,true,24):=by kernel_rfl
theorem apO:Bu prog 264=some ([(0,8),(8,24)],[.bool false,.bool false,.bool false,.bool false,.bool false,.bool false,.bool false,.bool false,.int .i64 0,.int .i64 0,.int .i64 0,.int .i64 0,.int .i64 0,.int .i64 0,.int .i64 0,.int .i64 0,.int .i64 0,.int .i64 0,.int .i64 0,.int .i64 0,.int .i64 0,.int .i64 0,.int .i64 0,.int .i64 0,.int .i64 0,.int .i64 0,.int .i64 0,.int .i64 0,.int .i64 0,.int .i64 0,.int .i64 0,.int .i64 0]):=by kernel_rfl
theorem apP:uB prog 266=some (true,24):=by kernel_rfl
theorem apQ:Ly prog 266=some [.bool false,.bool false,.bool false,.bool false,.bool false,.bool false,.bool false,.bool false,.bool false,.bool false,.bool false,.bool false,.bool false,.bool false,.bool false,.bool false,.bool false,.bool false,.bool false,.bool false,.bool false,.bool false,.bool false,.bool false]:=by kernel_rfl
theorem apR:Bu prog 266=some ([(0,1),(1,1),(2,1),(3,1),(4,1),(5,1),(6,1),(7,1),(8,1),(9,1),(10,1),(11,1),(12,1),(13,1),(14,1),(15,1),(16,1),(17,1),(18,1),(19,1),(20,1),(21,1),(22,1),(23,1)],[.bool false,.bool false,.bool false,.bool false,.bool false,.bool false,.bool false,.bool false,.bool false,.bool false,.bool false,.bool false,.bool false,.bool false,.bool false,.bool false,.bool false,.bool false,.bool false,.bool false,.bool false,.bool false,.bool false,.bool false]):=by kernel_rfl
theorem ajj:uB prog 273=some (true,6):=by kernel_rfl
theorem ajk:Ly prog 273=some [.bool false,.string ⟨#[]⟩,.bool false,.string ⟨#[]⟩,.bool false,.string ⟨#[]⟩]:=by kernel_rfl
theorem oZ:ixP prog 273=some (some 3,2):=by kernel_rfl
theorem apS:uB prog 280=some (true,18):=by kernel_rfl
theorem apT:Ly prog 280=some [.int .i64 0,.int .i64 0,.int .i64 0,.int .i64 0,.int .i64 0,.int .i64 0,.int .i64 0,.int .i64 0,.int .i64 0,.int .i64 0,.int .i64 0,.int .i64 0,.int .i64 0,.int .i64 0,.int .i64 0,.int .i64 0,.int .i64 0,.int .i64 0]:=by kernel_rfl
theorem apU:Bu prog 280=some ([(0,6),(6,6),(12,6)],[.int .i64 0,.int .i64 0,.int .i64 0,.int .i64 0,.int .i64 0,.int .i64 0,.int .i64 0,.int .i64 0,.int .i64 0,.int .i64 0,.int .i64 0,.int .i64 0,.int .i64 0,.int .i64 0,.int .i64 0,.int .i64 0,.int .i64 0,.int .i64 0]):=by kernel_rfl
theorem ajl:uB prog 333=some (true,3):=by kernel_rfl
theorem ajm:Ly prog 333=some [.int .i64 0,.int .i64 0,.int .i64 0]:=by kernel_rfl
theorem sX:ixP prog 333=some (some 3,1):=by kernel_rfl
theorem apV:Bu prog 333=some ([(0,1),(1,1),(2,1)],[.int .i64 0,.int .i64 0,.int .i64 0]):=by kernel_rfl
end Go.Proofs.YtfekpcimgncioaaGreatDoor
namespace Go.Proofs.YtfekpcimgncioaaGreatDoor
open Go.Proofs.Tryz
open Go.RowKit Go.Lith
set_option maxRecDepth 100000
attribute [local irreducible] au wpQuiet fA bF cG Code.wp
attribute [local congr] nO fK fM fN fO fP iY fQ fR fS fT fU fV fW fX fY fZ gA dX dY gB gC gE gF gG jA cQ cR cE cP gD iZ dZ eA eB gH gI jD
variable{q:P3}{ts ls:List T3}{N cap:Nat}{A:Option Addr}{t s:T3}{x y z:Bool}
theorem rQ{p:P3}:fF prog 38 [pt p,pt q] (.bool (decide (p.Lt q))):=by
 intro w;refine⟨bP func38 (by kernel_rfl),?_⟩;have m:=Mem.refl w
 go_enter func38,ntmps38
 apply mR 15 [1,0,0,0] m;simp only[↓aC,kH,eR,aa];intro g1 g2 u m;refine bA rfl ?_ ?_<;>intro hc1
 ·
  apply aK 10 [1,0,0] m;simp only[↓aC,kH,eR,aa];refine aT rfl rfl ?_;try simp only[zD,zE]
  exact⟨_,rfl,m.ext,by simp only[P3.lt_x hc1]⟩
 ·
  have ex:p.x=q.x:=by omega
  apply aK 10 [1,0,0,0] m;simp only[↓aC,kI,eR,aa];refine bA rfl ?_ ?_<;>intro hc2
  ·
   apply aK 10 [1,0,0] m;simp only[↓aC,kI,eR,aa];refine aT rfl rfl ?_;try simp only[zD,zE]
   exact⟨_,rfl,m.ext,by simp only[P3.lt_y ex hc2]⟩
  ·
   have ey:p.y=q.y:=by omega
   apply aK 11 [1,0,0] m;simp only[↓aC,lE,eR,aa];refine aT rfl rfl ?_;try simp only[zD,zE]
   exact⟨_,rfl,m.ext,by simp only[P3.lt_z ex ey]⟩
theorem ajn{a b:E3}:fF prog 78 [ed a,ed b] (.bool (ltE a b)):=by
 intro w;refine⟨bP func78 (by kernel_rfl),?_⟩;have m:=Mem.refl w
 go_enter func78,ntmps78
 apply mR 13 [1,0,0] m;simp only[↓aC,Gr,aU,ad,ah,aa];intro g1 g2;refine⟨by omega,?_⟩;intro u m;refine aB (iN rfl rfl) ?_;apply aL 1 [0] m;simp only[↓aC];refine bA rfl ?_ ?_<;>intro hc1
 ·
  apply aK 6 [1,0,0] m;simp only[↓aC,Gr,aU,ad,ah,aa];refine⟨by omega,?_⟩;refine wA m rfl rfl (rQ (p:=a.1) (q:=b.1)) 3 [] ?_;simp only[↓aC];intro u m;refine aT rfl rfl ?_;try simp only[zD,zE]
  exact⟨_,rfl,m.ext,by rw[ltE,if_pos (fun h=>hc1 (by rw[h];exact⟨rfl,rfl,rfl⟩))]⟩
 ·
  apply aK 7 [1,0,0] m;simp only[↓aC,Gr,aU,ad,ah,aa];refine⟨by omega,?_⟩;refine wA m rfl rfl (rQ (p:=a.2) (q:=b.2)) 3 [] ?_;simp only[↓aC];intro u m;refine aT rfl rfl ?_;try simp only[zD,zE]
  exact⟨_,rfl,m.ext,by rw[ltE,if_neg (fun h=>h (P3.eq (Classical.not_not.1 hc1).1 (Classical.not_not.1 hc1).2.1 (Classical.not_not.1 hc1).2.2))]⟩
theorem Pz(w:aj)(hT:bQ w A N ts)(hN:N≤1000000000):dK prog 76 [.slice A N cap] w (SL 56 6 ((aQ ts).flatMap bO) (aQ ts).length w):=by
 refine⟨bP func76 (by kernel_rfl),?_⟩;have m:=Mem.refl w
 go_enter func76,ntmps76
 apply fG 6 [0] m;simp only[↓aC];refine aB aP ?_;replace m:=m.nilO 56 6;apply aL 7 [0] m;simp only[↓aC];refine bX [3,4] [5,6,7,8,9,10,11,12,13,14,15,16,17,18,19,20,21,22,23,24,25,26,27,28,29,30,31,32,33] (fun n vs wl=>∃(k:Nat) (A3:Option Addr) (cap3:Nat),vs=[.slice A3 (aQ (ts.take k)).length cap3,.int .i64 (k:Int)]∧Mem w wl [oI 56 6 A3 (aQ (ts.take k)).length cap3 ((aQ (ts.take k)).flatMap bO)]∧(k≤N)∧(n=N-k)) ?_ ?_
 ·
  exact⟨_,0,_,_,rfl,m,cq _,rfl⟩
 ·
  intro n vs wr hI u K1 hK1;obtain⟨k,A3,cap3,rfl,m,hk,hn⟩:=hI;simp only[zu,zF,zG];apply aK 8 [0,0] m;simp only[↓aC,eV];refine bA rfl ?_ ?_<;>intro hc1
  ·
   obtain⟨t,ht,_,a,rfl,hrow⟩:=hT.get (i:=k) (by omega);apply aK 7 [0] m;simp only[↓aC];refine aB (aF bL aO rfl rfl (by omega) (by omega) (cH (ag _))) ?_;simp only[zz];refine aR rfl ((hrow.ext m.ext).lies cK aO) ?_;simp only[zz];apply kP 17 [0,0,0,0,0,0] m;simp only[↓aC,nC,gX,dD,aU,Dw,aa,ad,ah];intro g1;refine⟨by omega,?_⟩;intro u m;apply aW 3 [0,0] m;simp only[↓aC,dD,aU,Dw,ad,ah,aa];refine⟨by omega,?_⟩;refine agq rfl rfl rfl ?_;intro u g2 e_ h_ k_;replace m:=m.newB e_ h_ k_;simp only[zz];refine bW m 2 rfl rfl lT Ad rfl (by decide) rfl rfl rfl (m.b 0 rfl).rowsO (jX rfl) (by have:=mH (ts.take k);rw[bw] at this;omega) (by have:=mH (ts.take k);rw[bw] at this;omega) ?_;intro A3 cap3 u m;simp only[zF,zG] at m;rw[show (aQ (ts.take k)).flatMap bO++_=(aQ (ts.take (k+1))).flatMap bO by rw[uZ ht,aw];rfl,show (aQ (ts.take k)).length+3=(aQ (ts.take (k+1))).length by rw[uZ ht,a_];rfl] at m;rw[show (aQ (ts.take k)).length+3=(aQ (ts.take (k+1))).length by rw[uZ ht,a_];rfl];apply aL 8 [0] m;simp only[↓aC];refine⟨by omega,?_⟩;exact hK1 (N-(k+1)) _ _ (by omega) (by kernel_rfl) ⟨k+1,_,_,rfl,(m.sel [false,false,true]),by omega,rfl⟩
  ·
   have hkN:k=N:=by omega
   rw[hkN,show ts.take N=ts from bi (by rw[hT.len];exact ao _)] at m ⊢;apply aK 7 [] m;simp only[↓aC];exact aT rfl rfl ⟨_,rfl,m.ext,⟨_,_,_,rfl,rfl,(m.o 0 rfl)⟩⟩
theorem wW{es:List E3}{e:E3}(w:aj)(hL:vY bO 6 w A N es)(hN:N≤1000000000):dK prog 77 [.slice A N cap,ed e] w (fun v _=>v=.int .i64 ((iC es e:Nat):Int)):=by
 refine⟨bP func77 (by kernel_rfl),?_⟩;have m:=Mem.refl w
 go_enter func77,ntmps77
 apply mR 15 [0] m;simp only[↓aC];intro g1 u m;refine bX [5,6] [7,8,9,10,11,12,13,14,15,16,17,18,19,20] (fun n vs wl=>∃(k q:Nat),vs=[.int .i64 (q:Int),.int .i64 (k:Int)]∧Mem w wl [bI g1 (bO e) 56]∧(q=iC (es.take k) e)∧(k≤N)∧(n=N-k)) ?_ ?_
 ·
  exact⟨_,0,0,rfl,m,rfl,cq _,rfl⟩
 ·
  intro n vs wr hI u K1 hK1;obtain⟨k,q,rfl,m,hq,hk,hn⟩:=hI;subst hq;simp only[zu,zF,zG];apply aK 8 [0,0] m;simp only[↓aC,Bp];refine bA rfl ?_ ?_<;>intro hc1
  ·
   obtain⟨x,hx,a,rfl,hrow⟩:=hL.get (i:=k) (by omega);apply aK 4 [0] m;simp only[↓aC];refine mq m aD (by kernel_rfl) (aI aG (aI aG ?_));simp only[zz];refine aI (aF lT eP rfl rfl (by omega) (by omega) (cH (ag _))) ?_;simp only[zz];refine ql rfl (fun u m=>((hrow.ext m.ext).lies vD eP)) ?_;simp only[zz];refine ql rfl (fun u m=>((m.b 0 rfl).full vD eP)) ?_;simp only[zz];refine aI (agn rfl rfl) (bE ?_);intro u m;refine gc ?_;simp only[zz];refine bA rfl ?_ ?_<;>intro hc2
   ·
    have hxe:x=e:=nz (P3.eq hc2.1 hc2.2.1 hc2.2.2.1) (P3.eq hc2.2.2.2.1 hc2.2.2.2.2.1 hc2.2.2.2.2.2);have hcl:iC (es.take k) e≤N:=Nat.le_trans ao9 (by rw[bw];omega);have hs:=abp (e:=e) hx;rw[if_pos hxe] at hs;apply aK 11 [0] m;simp only[↓aC];refine⟨by omega,?_⟩;rw[show ((iC (es.take k) e:Nat):Int)+1=((iC (es.take (k+1)) e:Nat):Int) by rw[hs];rfl];exact hK1 (N-(k+1)) _ _ (by omega) (by kernel_rfl) ⟨k+1,iC (es.take (k+1)) e,rfl,m,rfl,by omega,rfl⟩
   ·
    have hs:iC (es.take (k+1)) e=iC (es.take k) e:=(abp (e:=e) hx).trans (by rw[if_neg (fun h=>hc2 (by rw[h];exact⟨rfl,rfl,rfl,rfl,rfl,rfl⟩))];rfl);apply aK 7 [0] m;simp only[↓aC];refine⟨by omega,?_⟩;rw[←hs];exact hK1 (N-(k+1)) _ _ (by omega) (by kernel_rfl) ⟨k+1,iC (es.take (k+1)) e,rfl,m,rfl,by omega,rfl⟩
  ·
   have hkN:k=N:=by omega
   rw[hkN,show es.take N=es from bi (by rw[hL.len];exact ao _)];apply aK 7 [] m;simp only[↓aC];exact aT rfl rfl ⟨_,rfl,m.ext,rfl⟩
theorem amu{ps:List P3}{p:P3}(w:aj)(hL:vY qS 3 w A N ps)(hN:N≤1000000000)(hcap:N≤cap):dK prog 82 [.slice A N cap,pt p] w (fun v w'=>(v=.slice A N cap∧iD ps p=ps)∨SL 30 3 ((iD ps p).flatMap qS) (iD ps p).length w v w'):=by
 refine⟨aeM,?_⟩;have m:=Mem.refl w;obtain rfl:ps.length=N:=hL.len
 go_enter func82,ntmps82
 apply mR 11 [0] m;simp only[↓aC];intro g1 u m;refine bX [5] [6,8,9,10,11,12,13,14,15,16,17,18,19,20,21] (fun n vs wl=>∃(k:Nat),vs=[.int .i64 (k:Int)]∧Mem w wl [bI g1 (qS p) 30]∧(Pre (fun x=>decide (x.Lt p)) ps k)∧(k≤ps.length)∧(n=ps.length-k)) ?_ ?_
 ·
  exact⟨_,0,rfl,m,Pre.zero,cq _,rfl⟩
 ·
  intro n vs wr hI u K1 hK1;obtain⟨k,rfl,m,hpre,hk,hn⟩:=hI;simp only[zu,zF,zG];apply aK 8 [0,0] m;simp only[↓aC,lC];refine bA rfl ?_ ?_<;>intro hc1
  ·
   obtain⟨x,hx,a,rfl,hrow⟩:=hL.get (i:=k) (by omega);apply aK 3 [0] m;simp only[↓aC];refine mq m aD (by kernel_rfl) (aI aG (aI aG ?_));simp only[zz];refine aI (aF eK aA rfl rfl (by omega) (by omega) (cH (ag _))) ?_;simp only[zz];refine ql rfl (fun u m=>((hrow.ext m.ext).lies aH aA)) ?_;simp only[zz];refine ql rfl (fun u m=>((m.b 0 rfl).full aH aA)) ?_;simp only[zz];refine jJ rfl rfl rQ (aI aP (bE ?_));intro u m;apply aW 6 [0] m;simp only[↓aC];refine iK rfl ?_ ?_<;>intro hc2
   ·
    have hpos:abq ps p=k:=an4 hpre hx (by simpa using hc2);apply aK 3 [0] m;simp only[↓aC];refine mq m aD (by kernel_rfl) (eT 7 [1] ?_);simp only[↓aC,lC];refine⟨by omega,?_⟩;refine bU rfl (aI (aF eK aA rfl rfl (by omega) (by omega) (cH (ag _))) (bU rfl ?_));simp only[zz];refine ql rfl (fun u m=>((hrow.ext m.ext).lies aH aA)) ?_;simp only[zz];refine bU rfl (ql rfl (fun u m=>((m.b 0 rfl).full aH aA)) ?_);simp only[zz];refine bU rfl (aI (bZ rfl rfl) (aI (rL rfl) (bE ?_)));intro u m;refine gc ?_;simp only[zz];refine bA rfl ?_ ?_<;>intro hc3
    ·
     have hxp:x=p:=P3.eq hc3.1 hc3.2.1 hc3.2.2;apply aK 6 [] m;simp only[↓aC];exact aT rfl rfl ⟨_,rfl,m.ext,.inl ⟨rfl,by rw[iD,hpos,hx,if_pos (by rw[hxp])]⟩⟩
    ·
     have hw:iD ps p=ps.take k++[p]++ps.drop k:=by unfold iD;rw[hpos,if_neg (by rw[hx];exact fun h=>hc3 (by cases h;exact⟨rfl,rfl,rfl⟩))]
     apply aK 3 [0] m;simp only[↓aC];refine aB aP ?_;replace m:=m.nilO 30 3;apply aL 6 [0] m;simp only[↓aC];refine aB (kL eK aA rfl rfl (ag _) (by omega) (by omega)) ?_;simp only[zz];refine bW m 0 rfl rfl eK qY rfl (by decide) rfl rfl (by rw[jV Ld,bw,ib (by omega)]) (((hL.take (by omega)).ext m.ext).cells Ld (by decide)) (Ro _) (by omega) (by omega) ?_;intro A7 cap7 u m;simp only[zF,zG] at m;rw[bt,ar] at m;rw[ar];apply aL 6 [1,0] m;simp only[↓aC,aU];refine pD rfl ?_;intro u g2 e_ h_ k_;replace m:=m.newB e_ h_ k_;simp only[zz];refine bW m 1 rfl rfl eK qY rfl (by decide) rfl rfl rfl (m.b 0 rfl).rowsO (jX rfl) (by omega) (by omega) ?_;intro A7 cap7 u m;simp only[zF,zG] at m;apply aL 7 [0] m;simp only[↓aC];refine aB (uJ eK aA rfl rfl (ag _) (by omega) (by omega) rfl) ?_;simp only[zz];refine bW m 1 rfl rfl eK qY rfl (by decide) rfl rfl (by rw[jV Ld,fm]) ((hL.ext m.ext).cellsD Ld (by decide) hcap) (Ro _) (by omega) (by omega) ?_;intro A7 cap7 u m;simp only[zF,zG] at m;apply aL 3 [] m;simp only[↓aC];exact aT rfl rfl ⟨_,rfl,m.ext,.inr ⟨_,_,_,by rw[hw];simp;omega,rfl,(m.o 1 rfl).as (by rw[hw,aw,aw];rfl)⟩⟩
   ·
    have hpre2:=hpre.step hx (by simpa using hc2);apply aK 7 [0] m;simp only[↓aC];refine⟨by omega,?_⟩;exact hK1 (ps.length-(k+1)) _ _ (by omega) (by kernel_rfl) ⟨k+1,rfl,m,hpre2,by omega,rfl⟩
  ·
   obtain rfl:k=ps.length:=by omega
   have hpos:abq ps p=ps.length:=ah4 hpre;have hw:iD ps p=ps.take ps.length++[p]++ps.drop ps.length:=by unfold iD;rw[hpos,if_neg (by rw[List.getElem?_eq_none (ao _)];simp)]
   apply aK 3 [0] m;simp only[↓aC];refine mq m aD (by kernel_rfl) (eT 12 [2] ?_);simp only[↓aC,lC];refine⟨by omega,?_⟩;refine bE ?_;intro u m;apply aW 4 [0] m;simp only[↓aC];refine aB aP ?_;replace m:=m.nilO 30 3;apply aL 6 [0] m;simp only[↓aC];refine aB (kL eK aA rfl rfl (ag _) (by omega) (by omega)) ?_;simp only[zz];refine bW m 0 rfl rfl eK qY rfl (by decide) rfl rfl (by rw[jV Ld,bw,ib (by omega)]) (((hL.take (by omega)).ext m.ext).cells Ld (by decide)) (Ro _) (by omega) (by omega) ?_;intro A7 cap7 u m;simp only[zF,zG] at m;rw[bt,ar] at m;rw[ar];apply aL 6 [1,0] m;simp only[↓aC,aU];refine pD rfl ?_;intro u g2 e_ h_ k_;replace m:=m.newB e_ h_ k_;simp only[zz];refine bW m 1 rfl rfl eK qY rfl (by decide) rfl rfl rfl (m.b 0 rfl).rowsO (jX rfl) (by omega) (by omega) ?_;intro A7 cap7 u m;simp only[zF,zG] at m;apply aL 7 [0] m;simp only[↓aC];refine aB (uJ eK aA rfl rfl (ag _) (by omega) (by omega) rfl) ?_;simp only[zz];refine bW m 1 rfl rfl eK qY rfl (by decide) rfl rfl (by rw[jV Ld,fm]) ((hL.ext m.ext).cellsD Ld (by decide) hcap) (Ro _) (by omega) (by omega) ?_;intro A7 cap7 u m;simp only[zF,zG] at m;apply aL 3 [] m;simp only[↓aC];exact aT rfl rfl ⟨_,rfl,m.ext,.inr ⟨_,_,_,by rw[hw];simp,rfl,(m.o 1 rfl).as (by rw[hw,aw,aw];rfl)⟩⟩
theorem adU{w0 w:aj}{is:List It}{A:Option Addr}{n cap:Nat}{ps:List P3}{p:P3}(m:Mem w0 w is)(k:Nat)(hi:is[k]? = some (oI 30 3 A n cap (ps.flatMap qS)))(hN:n≤1000000000) :
 Calls prog 82 [.slice A n cap,pt p].toArray w fun e w'=>∃v i,e=.returned v∧Mem w0 w' (is.set k i)∧∃A' cap' n',n'=(iD ps p).length∧v=.slice A' n' cap'∧i=oI 30 3 A' n' cap' ((iD ps p).flatMap qS):=by
 have hO:=m.o k hi;refine (amu (p:=p) w (hO.lat Ld (by decide)) hN hO.le).2.mono ?_;rintro e w' ⟨v,rfl,hE,h⟩;rcases h with ⟨rfl,h⟩ | ⟨A',cap',n',rfl,rfl,hN'⟩
 · exact⟨_,oI 30 3 A n cap (ps.flatMap qS),rfl,by rw[ac5 hi];exact m.ext' hE,A,cap,n,by rw[h];exact (hO.num Ld (by decide)).symm,rfl,by rw[h]⟩
 · exact⟨_,_,rfl,(m.newO hE hN').mv k hi,_,_,_,rfl,rfl,rfl⟩
theorem yF(w:aj)(hT:bQ w A N ts)(hN:N≤100000000):dK prog 36 [.slice A N cap] w (SL 30 3 ((bM ts).flatMap qS) (bM ts).length w):=by
 refine⟨bP func36 (by kernel_rfl),?_⟩;have m:=Mem.refl w
 go_enter func36,ntmps36
 apply fG 6 [0] m;simp only[↓aC];refine aB aP ?_;replace m:=m.nilO 30 3;apply aL 7 [0] m;simp only[↓aC];refine bX [3,4] [5,6,7,8,9,10,11,12,13,14,15,16,17,18,19,20,21,22,23] (fun n vs wl=>∃(k n3:Nat) (A3:Option Addr) (cap3:Nat),vs=[.slice A3 n3 cap3,.int .i64 (k:Int)]∧Mem w wl [oI 30 3 A3 n3 cap3 ((bM (ts.take k)).flatMap qS)]∧(n3=(bM (ts.take k)).length)∧(k≤N)∧(n=N-k)) ?_ ?_
 ·
  exact⟨_,0,0,_,_,rfl,m,rfl,cq _,rfl⟩
 ·
  intro n vs wr hI u K1 hK1;obtain⟨k,n3,A3,cap3,rfl,m,hn3,hk,hn⟩:=hI;simp only[zu,zF,zG];apply aK 8 [0,0] m;simp only[↓aC,eV];refine bA rfl ?_ ?_<;>intro hc1
  ·
   obtain⟨t,ht,_,a,rfl,hrow⟩:=hT.get (i:=k) (by omega);have hb0:=rZ (ts.take k);have hb1:=xV (bM (ts.take k)) t.a;have hb2:=xV (iD (bM (ts.take k)) t.a) t.b;rw[bw] at hb0;apply aK 25 [4,1,0] m;simp only[↓aC];refine⟨by omega,?_⟩;refine aB (aF bL aO rfl rfl (by omega) (by omega) (cH (ag _))) ?_;apply aL 1 [0] m;simp only[↓aC,dD,ad,ah,aa];refine⟨by omega,?_⟩;refine aR rfl ((mT.cor (hrow.ext m.ext) (c:=0) (by decide)).lies aH aA) ?_;simp only[zz];refine mM m 0 aeM rfl rfl (fun m=>adU (p:=t.a) m 0 rfl (by omega)) ?_;rintro v i u m ⟨A3,cap3,n3,hn3,rfl,rfl⟩;simp only[zF,zG] at m;apply aL 24 [1,0] m;simp only[↓aC,am];refine⟨by omega,?_⟩;refine aB (aF bL aO rfl rfl (by omega) (by omega) (cH (ag _))) ?_;apply aL 1 [0] m;simp only[↓aC,dD,ad,ah,aa];refine⟨by omega,?_⟩;refine aR rfl ((mT.cor (hrow.ext m.ext) (c:=1) (by decide)).lies aH aA) ?_;simp only[zz];refine mM m 0 aeM rfl rfl (fun m=>adU (p:=t.b) m 0 rfl (by omega)) ?_;rintro v i u m ⟨A3,cap3,n3,hn3,rfl,rfl⟩;simp only[zF,zG] at m;apply aL 24 [1,0] m;simp only[↓aC,am];refine⟨by omega,?_⟩;refine aB (aF bL aO rfl rfl (by omega) (by omega) (cH (ag _))) ?_;apply aL 1 [0] m;simp only[↓aC,dD,ad,ah,aa];refine⟨by omega,?_⟩;refine aR rfl ((mT.cor (hrow.ext m.ext) (c:=2) (by decide)).lies aH aA) ?_;simp only[zz];refine mM m 0 aeM rfl rfl (fun m=>adU (p:=t.c) m 0 rfl (by omega)) ?_;rintro v i u m ⟨A3,cap3,n3,hn3,rfl,rfl⟩;simp only[zF,zG] at m;apply aL 23 [2,0] m;simp only[↓aC,am];refine⟨by omega,?_⟩;exact hK1 (N-(k+1)) _ _ (by omega) (by kernel_rfl) ⟨k+1,_,_,_,rfl,(m.reO 0 rfl ((m.o 0 rfl).as (by rw[Iv ht]))),by rw[Iv ht];exact hn3,by omega,rfl⟩
  ·
   have hkN:k=N:=by omega
   rw[hkN,show ts.take N=ts from bi (by rw[hT.len];exact ao _)] at m hn3;apply aK 7 [] m;simp only[↓aC];exact aT rfl rfl ⟨_,rfl,m.ext,⟨_,_,_,hn3,rfl,(m.o 0 rfl)⟩⟩
theorem ajo{p:P3}(w:aj)(hT:vY aM 9 w A N ts)(hN:N≤1000000000):dK prog 201 [.slice A N cap,pt p,pt q] w (fun v _=>v=.tuple #[pt ((bR ts p q).getD p),.bool (bR ts p q).isSome]):=by
 refine⟨bP func201 (by kernel_rfl),?_⟩;have m:=Mem.refl w
 go_enter func201,ntmps201
 apply mR 13 [0] m;simp only[↓aC,gM];intro g1 g2 g3 u m;refine bX [8] [7,9,10,11,12,13,14,15,16,17,18,19,20,21,22,23,24,25,26,27,28,29,30,31,32,33,34,35,36,37,38,39,40,41,42,43,44,45,46,47] (fun n vs wl=>∃(k:Nat),vs=[.int .i64 (k:Int)]∧Mem w wl [bI g3 [.int .i64 0,.int .i64 0,.int .i64 0] 30,bI g2 (qS q) 30,bI g1 (qS p) 30]∧(bR (ts.take k) p q=none)∧(k≤N)∧(n=N-k)) ?_ ?_
 ·
  exact⟨_,0,rfl,m,rfl,cq _,rfl⟩
 ·
  intro n vs wr hI u K1 hK1;obtain⟨k,rfl,m,hb0,hk,hn⟩:=hI;simp only[zu,zF,zG];apply aK 8 [0,0] m;simp only[↓aC,eV];refine bA rfl ?_ ?_<;>intro hc1
  ·
   obtain⟨t,ht,a,rfl,hrow⟩:=hT.get (i:=k) (by omega);apply aK 21 [4,1,0] m;simp only[↓aC];refine⟨by omega,?_⟩;refine mq m aD (by kernel_rfl) (eT 3 [] ?_);simp only[↓aC];refine aI (aF bL aO rfl rfl (by omega) (by omega) (cH (ag _))) (eT 1 [] ?_);simp only[↓aC,dD,ad,ah,aa];refine⟨by omega,?_⟩;refine ql rfl (fun u m=>((mT.cor (hrow.ext m.ext) (c:=0) (by omega)).lies aH aA)) ?_;simp only[zz];refine ql rfl (fun u m=>((m.b 2 rfl).full aH aA)) ?_;simp only[zz];refine aI (bZ rfl rfl) (aI aG (dL rfl (fun hb=>aG) (dL rfl (fun hb=>aG) ?_)));simp only[zz];refine dL rfl (fun hb=>aG) (dL rfl (fun hb=>eS (m:=0) (n:=1) (r:=1) (bB hb rfl) rfl (by decide)) (dL rfl (fun hb=>cL (m:=1) (n:=3) (r:=1) (bB hb rfl) rfl (by decide) (by decide)) ?_));simp only[zz];refine dL rfl (fun hb=>aF bL aO (bB hb rfl) (bB hb rfl) (by omega) (by omega) (cH (ag _))) (dL rfl (fun hb=>aJ cT aA (bB hb rfl) (bB hb rfl) (by decide) (by decide) rfl) ?_);simp only[zz];refine fE rfl (fun hb u m=>aZ (bB hb rfl) ((mT.cor (hrow.ext m.ext) (c:=1) (by omega)).lies aH aA)) (fE rfl (fun hb u m=>aZ rfl ((m.b 1 rfl).full aH aA)) (dL rfl (fun hb=>bZ (bB hb rfl) (bB hb rfl)) (aI (fC rfl rfl rfl) (bE ?_))));intro u m;refine gc ?_;simp only[zz];refine iK rfl ?_ ?_<;>intro hc3
   ·
    have hf:=Da ((wI ht hb0).trans (atn  (Pq.1 hc3)));apply aK 6 [0] m;simp only[↓aC,am];refine⟨by omega,?_⟩;refine aB (cL (m:=2) (n:=3) (r:=2) rfl rfl (by decide) (by decide)) ?_;simp only[zz];refine aB (aF bL aO rfl rfl (by omega) (by omega) (cH (ag _))) ?_;apply aL 1 [0] m;simp only[↓aC,dD,ad,ah,aa];refine⟨by omega,?_⟩;refine aR rfl ((mT.cor (hrow.ext m.ext) (c:=2) (by omega)).lies aH aA) ?_;simp only[zz];apply kP 4 [0] m;simp only[↓aC,aU,aa];intro u m;refine Ck rfl ⟨_,rfl,((m.b 0 rfl).full aH aA)⟩ rfl ?_;try simp only[zD,zE]
    exact⟨_,rfl,m.ext,by rw[hf];rfl⟩
   ·
    have hq0:=ac9 hc3;apply aK 19 [1,0] m;simp only[↓aC,am];refine⟨by omega,?_⟩;refine mq m aD (by kernel_rfl) (eT 3 [] ?_);simp only[↓aC];refine aI (aF bL aO rfl rfl (by omega) (by omega) (cH (ag _))) (eT 1 [] ?_);simp only[↓aC,dD,ad,ah,aa];refine⟨by omega,?_⟩;refine ql rfl (fun u m=>((mT.cor (hrow.ext m.ext) (c:=1) (by omega)).lies aH aA)) ?_;simp only[zz];refine ql rfl (fun u m=>((m.b 2 rfl).full aH aA)) ?_;simp only[zz];refine aI (bZ rfl rfl) (aI aG (dL rfl (fun hb=>aG) (dL rfl (fun hb=>aG) ?_)));simp only[zz];refine dL rfl (fun hb=>aG) (dL rfl (fun hb=>eS (m:=1) (n:=1) (r:=2) (bB hb rfl) rfl (by decide)) (dL rfl (fun hb=>cL (m:=2) (n:=3) (r:=2) (bB hb rfl) rfl (by decide) (by decide)) ?_));simp only[zz];refine dL rfl (fun hb=>aF bL aO (bB hb rfl) (bB hb rfl) (by omega) (by omega) (cH (ag _))) (dL rfl (fun hb=>aJ cT aA (bB hb rfl) (bB hb rfl) (by decide) (by decide) rfl) ?_);simp only[zz];refine fE rfl (fun hb u m=>aZ (bB hb rfl) ((mT.cor (hrow.ext m.ext) (c:=2) (by omega)).lies aH aA)) (fE rfl (fun hb u m=>aZ rfl ((m.b 1 rfl).full aH aA)) (dL rfl (fun hb=>bZ (bB hb rfl) (bB hb rfl)) (aI (fC rfl rfl rfl) (bE ?_))));intro u m;refine gc ?_;simp only[zz];refine iK rfl ?_ ?_<;>intro hc3
    ·
     have hf:=Da ((wI ht hb0).trans (ato hq0 (Pq.1 hc3)));apply aK 6 [0] m;simp only[↓aC,am];refine⟨by omega,?_⟩;refine aB (cL (m:=3) (n:=3) (r:=0) rfl rfl (by decide) (by decide)) ?_;simp only[zz];refine aB (aF bL aO rfl rfl (by omega) (by omega) (cH (ag _))) ?_;apply aL 1 [0] m;simp only[↓aC,dD,ad,ah,aa];refine⟨by omega,?_⟩;refine aR rfl ((mT.cor (hrow.ext m.ext) (c:=0) (by omega)).lies aH aA) ?_;simp only[zz];apply kP 4 [0] m;simp only[↓aC,aU,aa];intro u m;refine Ck rfl ⟨_,rfl,((m.b 0 rfl).full aH aA)⟩ rfl ?_;try simp only[zD,zE]
     exact⟨_,rfl,m.ext,by rw[hf];rfl⟩
    ·
     have hq1:=ac9 hc3;apply aK 19 [1,0] m;simp only[↓aC,am];refine⟨by omega,?_⟩;refine mq m aD (by kernel_rfl) (eT 3 [] ?_);simp only[↓aC];refine aI (aF bL aO rfl rfl (by omega) (by omega) (cH (ag _))) (eT 1 [] ?_);simp only[↓aC,dD,ad,ah,aa];refine⟨by omega,?_⟩;refine ql rfl (fun u m=>((mT.cor (hrow.ext m.ext) (c:=2) (by omega)).lies aH aA)) ?_;simp only[zz];refine ql rfl (fun u m=>((m.b 2 rfl).full aH aA)) ?_;simp only[zz];refine aI (bZ rfl rfl) (aI aG (dL rfl (fun hb=>aG) (dL rfl (fun hb=>aG) ?_)));simp only[zz];refine dL rfl (fun hb=>aG) (dL rfl (fun hb=>eS (m:=2) (n:=1) (r:=3) (bB hb rfl) rfl (by decide)) (dL rfl (fun hb=>cL (m:=3) (n:=3) (r:=0) (bB hb rfl) rfl (by decide) (by decide)) ?_));simp only[zz];refine dL rfl (fun hb=>aF bL aO (bB hb rfl) (bB hb rfl) (by omega) (by omega) (cH (ag _))) (dL rfl (fun hb=>aJ cT aA (bB hb rfl) (bB hb rfl) (by decide) (by decide) rfl) ?_);simp only[zz];refine fE rfl (fun hb u m=>aZ (bB hb rfl) ((mT.cor (hrow.ext m.ext) (c:=0) (by omega)).lies aH aA)) (fE rfl (fun hb u m=>aZ rfl ((m.b 1 rfl).full aH aA)) (dL rfl (fun hb=>bZ (bB hb rfl) (bB hb rfl)) (aI (fC rfl rfl rfl) (bE ?_))));intro u m;refine gc ?_;simp only[zz];refine iK rfl ?_ ?_<;>intro hc3
     ·
      have hf:=Da ((wI ht hb0).trans (atp hq0 hq1 (Pq.1 hc3)));apply aK 6 [0] m;simp only[↓aC,am];refine⟨by omega,?_⟩;refine aB (cL (m:=4) (n:=3) (r:=1) rfl rfl (by decide) (by decide)) ?_;simp only[zz];refine aB (aF bL aO rfl rfl (by omega) (by omega) (cH (ag _))) ?_;apply aL 1 [0] m;simp only[↓aC,dD,ad,ah,aa];refine⟨by omega,?_⟩;refine aR rfl ((mT.cor (hrow.ext m.ext) (c:=1) (by omega)).lies aH aA) ?_;simp only[zz];apply kP 4 [0] m;simp only[↓aC,aU,aa];intro u m;refine Ck rfl ⟨_,rfl,((m.b 0 rfl).full aH aA)⟩ rfl ?_;try simp only[zD,zE]
      exact⟨_,rfl,m.ext,by rw[hf];rfl⟩
     ·
      have hq2:=ac9 hc3;apply aK 22 [2,0] m;simp only[↓aC,am];refine⟨by omega,?_⟩;exact hK1 (N-(k+1)) _ _ (by omega) (by kernel_rfl) ⟨k+1,rfl,m,(wI ht hb0).trans (atq hq0 hq1 hq2),by omega,rfl⟩
  ·
   have hkN:k=N:=by omega
   rw[hkN,show ts.take N=ts from bi (by rw[hT.len];exact ao _)] at hb0;apply zvc 8 [2,0] m;simp only[↓aC,aU,aa];intro u m;refine Ck rfl ⟨_,rfl,((m.b 0 rfl).full aH aA)⟩ rfl ?_;try simp only[zD,zE]
   exact⟨_,rfl,m.ext,by rw[hb0];rfl⟩
theorem Xo{p:P3}(w:aj)(hT:bQ w A N ts)(hN:N≤100000000):dK prog 135 [.slice A N cap,pt p] w (fun v _=>v=.bool (Dd ts p)):=by
 refine⟨bP func135 (by kernel_rfl),?_⟩;have m:=Mem.refl w
 go_enter func135,ntmps135
 apply mR 7 [0] m;simp only[↓aC];intro g1 u m;refine aB aP ?_;replace m:=m.nilO 39 9;apply aL 3 [0] m;simp only[↓aC];refine aB aP ?_;replace m:=m.nilO 30 3;apply aL 7 [0] m;simp only[↓aC];refine bX [5,6,7] [8,14,15,16,17,18,19,20,21,22,23,24,25,26,27,28,29,30,31,32,33,34,35,36,37,38,39,40,41,42,43,44,45,46,47,48,49] (fun n vs wl=>∃(k n5 n6 cap5 cap6:Nat) (A5 A6:Option Addr),vs=[.slice A5 n5 cap5,.slice A6 n6 cap6,.int .i64 (k:Int)]∧Mem w wl [oI 30 3 A6 n6 cap6 ((vA (ts.take k) p).flatMap qS),oI 39 9 A5 n5 cap5 ((oE (ts.take k) p).flatMap aM),bI g1 (qS p) 30]∧(n5≤k*3)∧(n6≤k*3)∧(k≤N)∧(n=N-k)) ?_ ?_
 ·
  exact⟨_,0,_,_,_,_,_,_,rfl,m,ao _,ao _,cq _,rfl⟩
 ·
  intro n vs wr hI u K1 hK1;obtain⟨k,n5,n6,cap5,cap6,A5,A6,rfl,m,hl5,hl6,hk,hn⟩:=hI;simp only[zu,zF,zG];apply aK 8 [0,0] m;simp only[↓aC,eV];refine bA rfl ?_ ?_<;>intro hc1
  ·
   obtain⟨t,ht,_,a,rfl,hrow⟩:=hT.get (i:=k) (by omega);apply aK 8 [0] m;simp only[↓aC];refine bX [5,6,8] [20,21,22,23,24,25,26,27,28,29,30,31,32,33,34,35,36,37,38,39,40,41,42,43,44,45,46,47,48,49] (fun n vs wl=>∃(c n5 n6 cap5 cap6:Nat) (A5 A6:Option Addr),vs=[.slice A5 n5 cap5,.slice A6 n6 cap6,.int .i64 (c:Int)]∧Mem w wl [oI 30 3 A6 n6 cap6 ((xF ts p k t c).flatMap qS),oI 39 9 A5 n5 cap5 ((Gk ts p k t c).flatMap aM),bI g1 (qS p) 30]∧(n5≤k*3+c)∧(n6≤k*3+c)∧(c≤3)∧(n=3-c)) ?_ ?_
   ·
    rw[←alR (t:=t),←ah6 (t:=t)] at m;exact⟨_,0,_,_,_,_,_,_,rfl,m,hl5,hl6,cq _,rfl⟩
   ·
    intro n vs wr hI u K2 hK2;obtain⟨c,n5,n6,cap5,cap6,A5,A6,rfl,m,hl5,hl6,hc,hn2⟩:=hI;simp only[zu,zF,zG];apply aK 6 [0,0] m;simp only[↓aC];refine bA rfl ?_ ?_<;>intro hc2
    ·
     have hc3:c<3:=by omega
     apply aK 4 [0] m;simp only[↓aC];refine mq m aD (by kernel_rfl) (eT 3 [] ?_);simp only[↓aC];refine aI (aF bL aO rfl rfl (by omega) (by omega) (cH (ag _))) ?_;simp only[zz];refine aI (aJ cT aA rfl rfl (by omega) (by omega) (cH (ag _))) ?_;simp only[zz];refine ql rfl (fun u m=>((mT.cor (hrow.ext m.ext) (c:=c) (by omega)).lies aH aA)) ?_;simp only[zz];refine ql rfl (fun u m=>((m.b 2 rfl).full aH aA)) ?_;simp only[zz];refine aI (bZ rfl rfl) (bE ?_);intro u m;refine gc ?_;simp only[zz];refine bA rfl ?_ ?_<;>intro hc3
     ·
      have hcp:t.cor c=p:=P3.eq hc3.1 hc3.2.1 hc3.2.2;apply aK 5 [0] m;simp only[↓aC];refine aB (aF bL aO rfl rfl (by omega) (by omega) (cH (ag _))) ?_;simp only[zz];refine aR rfl ((hrow.ext m.ext).lies cK aO) ?_;simp only[zz];refine eF rfl ?_;intro u g2 e_ h_ k_;replace m:=m.newB e_ h_ k_;simp only[zz];refine bW m 2 rfl rfl bL gR rfl (by decide) rfl rfl rfl (m.b 0 rfl).rowsO (jX rfl) (by omega) (by omega) ?_;intro A5 cap5 u m;simp only[zF,zG] at m;apply aL 8 [0] m;simp only[↓aC];refine⟨by omega,?_⟩;refine aB (cL rfl rfl (by omega) (an2 (k:=c+1))) ?_;simp only[zz];refine aB (aF bL aO rfl rfl (by omega) (by omega) (cH (ag _))) ?_;simp only[zz];refine aB (aJ cT aA rfl rfl (by omega) (by omega) (cH (ag _))) ?_;simp only[zz];refine aR rfl ((mT.cor (hrow.ext m.ext) (c:=(c+1)%3) (by omega)).lies aH aA) ?_;simp only[zz];refine pD rfl ?_;intro u g3 e_ h_ k_;replace m:=m.newB e_ h_ k_;simp only[zz];refine bW m 2 rfl rfl eK qY rfl (by decide) rfl rfl rfl (m.b 0 rfl).rowsO (jX rfl) (by omega) (by omega) ?_;intro A6 cap6 u m;simp only[zF,zG] at m;apply aL 8 [0] m;simp only[↓aC];refine⟨by omega,?_⟩;exact hK2 (3-(c+1)) _ _ (by omega) (by kernel_rfl) ⟨c+1,_,_,_,_,_,_,rfl,(((m.reO 3 rfl ((m.o 3 rfl).as (by rw[agb hcp,aw];rfl))).reO 2 rfl ((m.o 2 rfl).as (by rw[ac8 hcp,aw];rfl))).sel [false,false,true,true,true]),by omega,by omega,by omega,rfl⟩
     ·
      have hcp:¬t.cor c=p:=fun h=>hc3 (by rw[h];exact⟨rfl,rfl,rfl⟩);apply aK 7 [0] m;simp only[↓aC];refine⟨by omega,?_⟩;exact hK2 (3-(c+1)) _ _ (by omega) (by kernel_rfl) ⟨c+1,_,_,_,_,_,_,rfl,((m.reO 1 rfl ((m.o 1 rfl).as (by rw[ah5 hcp]))).reO 0 rfl ((m.o 0 rfl).as (by rw[agc hcp]))),by omega,by omega,by omega,rfl⟩
    ·
     obtain rfl:c=3:=by omega
     rw[alS ht,ah7 ht] at m;apply aK 7 [0] m;simp only[↓aC];refine⟨by omega,?_⟩;exact hK1 (N-(k+1)) _ _ (by omega) (by kernel_rfl) ⟨k+1,_,_,_,_,_,_,rfl,m,by omega,by omega,by omega,rfl⟩
  ·
   have hkN:k=N:=by omega
   rw[hkN,show ts.take N=ts from bi (by rw[hT.len];exact ao _)] at m;obtain⟨M,hM⟩:∃M,M=oE ts p:=⟨_,rfl⟩
   obtain⟨S,hS⟩:∃S,S=vA ts p:=⟨_,rfl⟩
   rw[←hM,←hS] at m;have h5:M.length=n5:=(m.o 1 rfl).num ac4 (by decide);have h6:S.length=n6:=(m.o 0 rfl).num Ld (by decide);have hle6:=(m.o 0 rfl).le;have hP:Dd ts p=S.any (fun s=>oF M p s (M.length-1) s):=by rw[hM,hS];rfl
   clear hM hS;apply aK 7 [0] m;simp only[↓aC];refine bX [9] [4,10,11,12,13,50,51,52,53,54,55,56,57,58,59,60,61,62,63,64,65,66,67,68,69,70,71,72,73,74,75,76,77,78,79,80,81] (fun n vs wl=>∃(k2:Nat),vs=[.int .i64 (k2:Int)]∧Mem w wl [oI 30 3 A6 n6 cap6 ((S).flatMap qS),oI 39 9 A5 n5 cap5 ((M).flatMap aM),bI g1 (qS p) 30]∧((S.take k2).any (fun s=>oF M p s (M.length-1) s)=false)∧(k2≤n6)∧(n=n6-k2)) ?_ ?_
   ·
    exact⟨_,0,rfl,m,rfl,cq _,rfl⟩
   ·
    intro n vs wr hI u K3 hK3;obtain⟨k2,rfl,m,hno,hk2,hn3⟩:=hI;simp only[zu,zF,zG];apply aK 8 [0,0] m;simp only[↓aC,lC];refine bA rfl ?_ ?_<;>intro hc4
    ·
     obtain⟨sx,hsx⟩:∃sx,S[k2]? = some sx:=⟨_,ak (by omega)⟩
     obtain⟨gO,rfl⟩:=(m.o 0 rfl).some (by omega);apply aK 7 [0] m;simp only[↓aC];refine aB (aF eK aA rfl rfl (by omega) (by omega) (cH (ag _))) ?_;simp only[zz];refine aR rfl (((m.o 0 rfl).at Ld hsx).lies aH aA) ?_;simp only[zz];apply kP 8 [0,0] m;simp only[↓aC,gM,aU,aa];intro g2 u m;refine bX [11] [4,12,13,60,61,62,63,64,65,66,67,68,69,70,71,72,73,74,75,76,77,78,79,80,81] (fun n vs wl=>∃(j:Nat) (x:P3),vs=[.int .i64 (j:Int)]∧Mem w wl [bI g2 (qS x) 30,oI 30 3 (some ⟨gO,0,none⟩) n6 cap6 (S.flatMap qS),oI 39 9 A5 n5 cap5 ((M).flatMap aM),bI g1 (qS p) 30]∧(oF M p sx (M.length-1) sx=oF M p sx (M.length-j) x)∧(1≤j)∧(j≤n5+1)∧(n=n5+1-j)) ?_ ?_
     ·
      exact⟨_,1,sx,rfl,m,rfl,ao _,by omega,rfl⟩
     ·
      intro n vs wr hI u K4 hK4;obtain⟨j,x,rfl,m,hrg,hj,hj2,hn4⟩:=hI;simp only[zu,zF,zG];apply aK 8 [0,0] m;simp only[↓aC,eV];refine bA rfl ?_ ?_<;>intro hc5
      ·
       obtain⟨f,hf⟩:∃f,M.length-j=f+1:=⟨M.length-j-1,by omega⟩
       rw[hf] at hrg;apply aK 8 [3,0,0] m;simp only[↓aC,aU];refine cM m rfl rfl (ajo (p:=p) (q:=x) _ ((m.o 2 rfl).lat ac4 (by decide)) (by omega)) ?_;rintro v u m rfl;apply kP 13 [0,0] m;simp only[↓aC,gM,aU,aa];intro g3 u m;refine iK rfl ?_ ?_<;>intro hc6
       ·
        have hbn:bR M p x=none:=by cases hb:bR M p x with | none=>rfl | some y=>rw[hb] at hc6;cases hc6
        have hz:oF M p sx (M.length-1) sx=false:=by rw[hrg,Wj hbn]
        have hno2:(S.take (k2+1)).any (fun s=>oF M p s (M.length-1) s)=false:=by rw[pX hsx,hno,hz];rfl
        apply aK 7 [0] m;simp only[↓aC];refine⟨by omega,?_⟩;exact hK3 (n6-(k2+1)) _ _ (by omega) (by kernel_rfl) ⟨k2+1,rfl,(m.sel [false,false,true,true,true]),hno2,by omega,rfl⟩
       ·
        obtain⟨y,hy⟩:∃y,bR M p x=some y:=by cases hb:bR M p x with | none=>rw[hb] at hc6;cases hc6 | some y=>exact⟨y,rfl⟩
        rw[hy] at m;simp only[dx] at m;apply zvc 7 [0,1,0] m;simp only[↓aC,aU,aa];intro u m;refine mq m aD (by kernel_rfl) (eT 3 [1] ?_);simp only[↓aC,aU];refine aI (aF eK aA rfl rfl (by omega) (by omega) (cH (ag _))) ?_;simp only[zz];refine ql rfl (fun u m=>(((m.o 2 rfl).at Ld hsx).lies aH aA)) ?_;simp only[zz];refine aI (bZ rfl rfl) (bE ?_);intro u m;refine gc ?_;simp only[zz];refine bA rfl ?_ ?_<;>intro hc7
        ·
         have hys:y=sx:=P3.eq hc7.1 hc7.2.1 hc7.2.2;have hz:S.any (fun s=>oF M p s (M.length-1) s)=true:=wJ hsx (by show oF M p sx (M.length-1) sx=true;rw[hrg];exact abr (by rw[hy,hys]));apply aK 5 [] m;simp only[↓aC];refine aT rfl rfl ?_;try simp only[zD,zE]
         exact⟨_,rfl,m.ext,by rw[hP,hz]⟩
        ·
         have hys:¬y=sx:=fun h=>hc7 (by rw[h];exact⟨rfl,rfl,rfl⟩);apply aK 7 [0] m;simp only[↓aC];refine⟨by omega,?_⟩;exact hK4 (n5+1-(j+1)) _ _ (by omega) (by kernel_rfl) ⟨j+1,y,rfl,(m.sel [false,true,true,true,true]),by rw[hrg,Wk hy hys,show M.length-(j+1)=f by omega],by omega,by omega,rfl⟩
      ·
       have hz:oF M p sx (M.length-1) sx=false:=by rw[hrg,show M.length-j=0 by omega];rfl
       have hno2:(S.take (k2+1)).any (fun s=>oF M p s (M.length-1) s)=false:=by rw[pX hsx,hno,hz];rfl
       apply aK 7 [0] m;simp only[↓aC];refine⟨by omega,?_⟩;exact hK3 (n6-(k2+1)) _ _ (by omega) (by kernel_rfl) ⟨k2+1,rfl,(m.sel [false,true,true,true]),hno2,by omega,rfl⟩
    ·
     have hk2:k2=S.length:=by omega
     rw[hk2,List.take_length] at hno;apply aK 6 [] m;simp only[↓aC];refine aT rfl rfl ?_;try simp only[zD,zE]
     exact⟨_,rfl,m.ext,by rw[hP,hno]⟩
theorem atv(hx:x=decide (t.b.Lt t.a))(hy:y=decide (t.c.Lt t.a))(hz:z=decide (t.c.Lt t.b))(h:(y&&(z || !x))=true):dR t=⟨t.c,t.a,t.b⟩:=by
 subst hx;subst hy;subst hz;simp only[ba,decide_eq_true_eq,gg,gi,decide_eq_false_iff_not] at h;exact if_pos h
theorem ar8(hx:x=decide (t.b.Lt t.a))(hy:y=decide (t.c.Lt t.a))(hz:z=decide (t.c.Lt t.b))(h:(y&&(z || !x))=false)(h1:x=true):dR t=⟨t.b,t.c,t.a⟩:=by
 subst hx;subst hy;subst hz;have h2:¬(t.c.Lt t.a∧(t.c.Lt t.b∨¬t.b.Lt t.a)):=fun k=>by
  rw[decide_eq_true k.1,Bool.true_and] at h;rcases k.2 with k2 | k2
  · rw[decide_eq_true k2] at h;cases h
  · exact k2 (of_decide_eq_true h1)
 rw[dR,if_neg h2,if_pos (of_decide_eq_true h1)]
theorem ar9(hx:x=decide (t.b.Lt t.a))(hy:y=decide (t.c.Lt t.a))(hz:z=decide (t.c.Lt t.b))(h:(y&&(z || !x))=false)(h1:x=false):dR t=t:=by
 subst hx;subst hy;subst hz;have h3:=of_decide_eq_false h1;have h2:¬(t.c.Lt t.a∧(t.c.Lt t.b∨¬t.b.Lt t.a)):=fun k=>by
  rw[decide_eq_true k.1,h1] at h;simp at h
 rw[dR,if_neg h2,if_neg h3]
/-! ### How often a triangle is hit -/
theorem Xp  : fF prog 35 [tr t] (tr (dR t)):=by
 intro w;refine⟨bP func35 (by kernel_rfl),?_⟩;have m:=Mem.refl w
 go_enter func35,ntmps35
 apply mR 11 [1,1,0] m;simp only[↓aC,nC,dD,aU,ad,ah,aa];intro g1 g2;refine⟨by omega,?_⟩;intro u m;refine wA m rfl rfl (rQ (p:=t.b) (q:=t.a)) 8 [1,1,0] ?_;simp only[↓aC,dD,aU,ad,ah,aa];refine⟨by omega,?_⟩;intro u m;refine wA m rfl rfl (rQ (p:=t.c) (q:=t.a)) 8 [1,1,0] ?_;simp only[↓aC,dD,aU,ad,ah,aa];refine⟨by omega,?_⟩;intro u m;refine wA m rfl rfl (rQ (p:=t.c) (q:=t.b)) 4 [] ?_;simp only[↓aC];intro u m;cases hy:decide (t.c.Lt t.a)
 ·
  apply aW 17 [0] m;simp only[↓aC];refine eG rfl ?_ ?_<;>intro hc2
  ·
   have hr:=ar8 (t:=t) rfl rfl rfl (by rw[hy];rfl) hc2;apply zvc 12 [1,1,1,0] m;simp only[↓aC,dD,aU,tJ,gX,ad,ah,aa];refine⟨by omega,?_⟩;intro u m;refine aT rfl ⟨_,rfl,((m.b 0 rfl).full cK aO)⟩ ?_;try simp only[zD,zE]
   exact⟨_,rfl,m.ext,by rw[hr];rfl⟩
  ·
   have hr:=ar9 (t:=t) rfl rfl rfl (by rw[hy];rfl) hc2;apply zvc 7 [1,0] m;simp only[↓aC,gX,aa];intro u m;refine aT rfl ⟨_,rfl,((m.b 0 rfl).full cK aO)⟩ ?_;try simp only[zD,zE]
   exact⟨_,rfl,m.ext,by rw[hr];rfl⟩
 ·
  apply aW 5 [0] m;simp only[↓aC];refine dG rfl (fun hb=>aG) (dG rfl (fun hb=>pL (bB hb rfl)) (cN rfl (aB (eD rfl rfl rfl) ?_)));apply aL 2 [0] m;simp only[↓aC];refine eG rfl ?_ ?_<;>intro hc1
  ·
   have hr:=atv (t:=t) rfl rfl rfl (by rw[hy];exact hc1);apply zvc 12 [1,1,1,0] m;simp only[↓aC,dD,aU,tJ,gX,ad,ah,aa];refine⟨by omega,?_⟩;intro u m;refine aT rfl ⟨_,rfl,((m.b 0 rfl).full cK aO)⟩ ?_;try simp only[zD,zE]
   exact⟨_,rfl,m.ext,by rw[hr];rfl⟩
  ·
   apply aK 6 [0] m;simp only[↓aC];refine eG rfl ?_ ?_<;>intro hc2
   ·
    have hr:=ar8 (t:=t) rfl rfl rfl (by rw[hy];exact hc1) hc2;apply zvc 12 [1,1,1,0] m;simp only[↓aC,dD,aU,tJ,gX,ad,ah,aa];refine⟨by omega,?_⟩;intro u m;refine aT rfl ⟨_,rfl,((m.b 0 rfl).full cK aO)⟩ ?_;try simp only[zD,zE]
    exact⟨_,rfl,m.ext,by rw[hr];rfl⟩
   ·
    have hr:=ar9 (t:=t) rfl rfl rfl (by rw[hy];exact hc1) hc2;apply zvc 7 [1,0] m;simp only[↓aC,gX,aa];intro u m;refine aT rfl ⟨_,rfl,((m.b 0 rfl).full cK aO)⟩ ?_;try simp only[zD,zE]
    exact⟨_,rfl,m.ext,by rw[hr];rfl⟩
theorem apW{p:P3}(h:¬(p.x=q.x∧p.y=q.y∧p.z=q.z)):p≠q:=fun k=>h (by rw[k];exact⟨rfl,rfl,rfl⟩)
theorem apX{p:P3}(h:¬¬(p.x=q.x∧p.y=q.y∧p.z=q.z)):p=q:=by
 obtain⟨h1,h2,h3⟩:=Classical.not_not.1 h;exact P3.eq h1 h2 h3
theorem asa(h:s.a≠t.a):decide (s.Lt t)=decide (s.a.Lt t.a):=by unfold T3.Lt;simp[h]
theorem asb(e:s.a=t.a)(h:s.b≠t.b):decide (s.Lt t)=decide (s.b.Lt t.b):=by unfold T3.Lt;simp[h,e,P3.lt_irrefl]
theorem aoj(e:s.a=t.a)(f:s.b=t.b):decide (s.Lt t)=decide (s.c.Lt t.c):=by unfold T3.Lt;simp[e,f,P3.lt_irrefl]
theorem asc(e:s.a=t.a)(f:s.b=t.b)(h:s.c=t.c):decide (s.Lt t)=false:=by rw[aoj e f,h];simp[P3.lt_irrefl]
def kD(ls bs:List T3):List T3:=ls.merge bs fun x y=>!decide (y.Lt x)
theorem ajp(bs:List T3):kD [] bs=bs:=by simp[kD]
theorem abP(ls:List T3):kD ls []=ls:=by simp[kD]
theorem ajq{bs:List T3}{x y:T3}(h:y.Lt x):kD (x::ls) (y::bs)=y::kD (x::ls) bs:=by simp[kD,List.cons_merge_cons,h]
theorem ajr{bs:List T3}{x y:T3}(h:¬y.Lt x):kD (x::ls) (y::bs)=x::kD ls (y::bs):=by simp[kD,List.cons_merge_cons,h]
theorem Jq{α:Type}{l:List α}{i:Nat}{x:α}(h:l[i]? = some x):l.drop i=x::l.drop (i+1):=by
 obtain⟨h1,h2⟩:=ap.1 h;rw[fl h1,h2]
theorem abQ(ts:List T3)(k:Nat):kD (wP (ts.take k)) (wP (ts.drop k))=wP ts:=by
 refine wQ ?_ ?_ (sF ts)
 · refine (List.merge_perm_append ..).trans (((uN _).append (uN _)).trans ?_)
   rw[mn];exact (uN ts).symm
 · have:=List.pairwise_merge (le:=fun x y:T3=>!decide (y.Lt x)) ?_ ?_ (wP (ts.take k)) (wP (ts.drop k)) ((sF _).imp fun {a b} h=>by simpa[vM] using h) ((sF _).imp fun {a b} h=>by simpa[vM] using h)
   · exact this.imp fun {a b} h=>by simpa[vM] using h
   · intro a b c h1 h2
     simp only[gi,decide_eq_false_iff_not] at *
     exact Og (s:=a) (t:=b) (u:=c) h1 h2
   · intro a b
     simp only[gg,gi,decide_eq_false_iff_not];by_cases h:b.Lt a
     · exact .inr fun k=>T3.lt_irrefl a (T3.lt_trans k h)
     · exact .inl h
theorem Om(h:ts.length<2):wP ts=ts:=by
 rcases ts with _ | ⟨t,_ | ⟨u,ts⟩⟩
 · rfl
 · rfl
 · simp at h;omega
theorem ajs  : fF prog 218 [tr s,tr t] (.bool (decide (s.Lt t))):=by
 intro w;refine⟨bP func218 (by kernel_rfl),?_⟩;have m:=Mem.refl w
 go_enter func218,ntmps218
 apply mR 25 [4,1,0] m;simp only[↓aC];intro g1 g2;refine⟨by omega,?_⟩;intro u m;refine mq m aD (by kernel_rfl) (eT 6 [1,0] ?_);simp only[↓aC,dD,aU,ad,ah,aa];refine⟨by omega,?_⟩;refine aI (iN rfl rfl) (bE ?_);intro u m;refine gc ?_;simp only[zz];refine bA rfl ?_ ?_<;>intro hc2
 ·
  have ha:=apW hc2;apply aK 1 [0] m;simp only[↓aC];refine mq m aD (by kernel_rfl) (eT 6 [1,0] ?_);simp only[↓aC,dD,aU,ad,ah,aa];refine⟨by omega,?_⟩;refine jJ rfl rfl (rQ (p:=s.a) (q:=t.a)) (aI aP (bE ?_));intro u m;apply aW 1 [] m;simp only[↓aC];refine aT rfl rfl ?_;try simp only[zD,zE]
  exact⟨_,rfl,m.ext,by rw[asa ha]⟩
 ·
  have ea:=apX hc2;apply aK 19 [1,0] m;simp only[↓aC,am];refine⟨by omega,?_⟩;refine mq m aD (by kernel_rfl) (eT 6 [1,0] ?_);simp only[↓aC,dD,aU,ad,ah,aa];refine⟨by omega,?_⟩;refine aI (iN rfl rfl) (bE ?_);intro u m;refine gc ?_;simp only[zz];refine bA rfl ?_ ?_<;>intro hc2
  ·
   have hb:=apW hc2;apply aK 1 [0] m;simp only[↓aC];refine mq m aD (by kernel_rfl) (eT 6 [1,0] ?_);simp only[↓aC,dD,aU,ad,ah,aa];refine⟨by omega,?_⟩;refine jJ rfl rfl (rQ (p:=s.b) (q:=t.b)) (aI aP (bE ?_));intro u m;apply aW 1 [] m;simp only[↓aC];refine aT rfl rfl ?_;try simp only[zD,zE]
   exact⟨_,rfl,m.ext,by rw[asb ea hb]⟩
  ·
   have eb:=apX hc2;apply aK 19 [1,0] m;simp only[↓aC,am];refine⟨by omega,?_⟩;refine mq m aD (by kernel_rfl) (eT 6 [1,0] ?_);simp only[↓aC,dD,aU,ad,ah,aa];refine⟨by omega,?_⟩;refine aI (iN rfl rfl) (bE ?_);intro u m;refine gc ?_;simp only[zz];refine bA rfl ?_ ?_<;>intro hc2
   ·
    have hc:=apW hc2;apply aK 1 [0] m;simp only[↓aC];refine mq m aD (by kernel_rfl) (eT 6 [1,0] ?_);simp only[↓aC,dD,aU,ad,ah,aa];refine⟨by omega,?_⟩;refine jJ rfl rfl (rQ (p:=s.c) (q:=t.c)) (aI aP (bE ?_));intro u m;apply aW 1 [] m;simp only[↓aC];refine aT rfl rfl ?_;try simp only[zD,zE]
    exact⟨_,rfl,m.ext,by rw[aoj ea eb]⟩
   ·
    have ec:=apX hc2;apply aK 21 [2] m;simp only[↓aC,am];refine⟨by omega,?_⟩;refine aT rfl rfl ?_;try simp only[zD,zE]
    exact⟨_,rfl,m.ext,by rw[asc ea eb ec]⟩
theorem ajt{ms:List T3}{M cap2:Nat}{A2:Option Addr}(w:aj)(hT:bQ w A N ls)(hU:bQ w A2 M ms)(hcap:M≤cap2)(hN:N+M≤10000000):dK prog 145 [.slice A N cap,.slice A2 M cap2] w (SL 39 9 ((kD ls ms).flatMap aM) (N+M) w):=by
 refine⟨bP func145 (by kernel_rfl),?_⟩;have m:=Mem.refl w;have htl:=hT.len;have hul:=hU.len
 go_enter func145,ntmps145
 apply fG 6 [0] m;simp only[↓aC];refine aB aP ?_;replace m:=m.nilO 39 9;apply aL 11 [0] m;simp only[↓aC];refine bX [5,6,7] [8,9,10,11,12,13,14,15,16,17,18,19,20,21,22,23,24,25,26,27,28,29,30,31,32,33,34,35,36,37,38,39,40,41,42,43,44,45] (fun n vs wl=>∃(i j:Nat) (xs:List T3) (A5:Option Addr) (cap5:Nat),vs=[.slice A5 (i+j) cap5,.int .i64 (j:Int),.int .i64 (i:Int)]∧Mem w wl [oI 39 9 A5 (i+j) cap5 (xs.flatMap aM)]∧(xs++kD (ls.drop i) (ms.drop j)=kD ls ms)∧(i≤N)∧(j≤M)∧(n=N-i)) ?_ ?_
 ·
  exact⟨_,0,0,[],_,_,rfl,m,rfl,cq _,cq _,rfl⟩
 · intro n vs wr hI u K1 hK1
   obtain⟨i,j,xs,A5,cap5,rfl,m,hI,hi,hj,hn⟩:=hI;simp only[zu,zF,zG];apply aK 8 [0,0] m;simp only[↓aC,eV];refine bA rfl ?_ ?_<;>intro hc1
   ·
    obtain⟨x,hx,_,a,hA,hrow⟩:=hT.get (i:=i) (by omega);subst hA;apply aK 5 [0] m;simp only[↓aC];refine bX [5,6] [8,15,16,17,18,19,20,21,22,23,24,25,26,27,28,29,30,31,32,33,34,35,36,37,38] (fun n vs wl=>∃(j:Nat) (xs:List T3) (A5:Option Addr) (cap5:Nat),vs=[.slice A5 (i+j) cap5,.int .i64 (j:Int)]∧Mem w wl [oI 39 9 A5 (i+j) cap5 (xs.flatMap aM)]∧(xs++kD (ls.drop i) (ms.drop j)=kD ls ms)∧(j≤M)∧(n=M-j)) ?_ ?_
    ·
     exact⟨_,j,xs,_,_,rfl,m,hI,hj,rfl⟩
    · intro n vs wr hI u K2 hK2
      obtain⟨j,xs,A5,cap5,rfl,m,hI2,hj,hn2⟩:=hI;simp only[zu,zF,zG];apply aK 8 [0,0] m;simp only[↓aC,eV];refine bA rfl ?_ ?_<;>intro hc2
      ·
       obtain⟨y,hy,_,a2,hA2,hrow2⟩:=hU.get (i:=j) (by omega);subst hA2;apply aK 3 [0] m;simp only[↓aC];refine mh m [true] [(0,true),(1,true),(2,true),(4,true),(5,true),(6,true),(3,true),(7,true),(8,false),(9,true)] aD (by kernel_rfl) (bT (fun _ _ _ _ _ h=>h)) (ol:=?_) ?hol ?_
       case hol=>simp only[zw,zQ,zR];try rfl
       intro u m;refine aS aG (aS aG ?_);simp only[zz];refine aS (aF bL aO rfl rfl (by omega) (by omega) (cH (ag _))) (aS aG (aS aG ?_));simp only[zz];refine aS (aF bL aO rfl rfl (by omega) (by omega) (cH (ag _))) ?_;simp only[zz];refine dF rfl (fun u m=>((hrow2.ext m.ext).lies cK aO)) ?_;simp only[zz];refine dF rfl (fun u m=>((hrow.ext m.ext).lies cK aO)) ?_;simp only[zz];refine cF (kY m rfl rfl (ajs (s:=y) (t:=x)) ?_);intro u m;refine aN ⟨m,?_⟩;refine aS aP (bV ?_);apply aW 6 [0] m;simp only[↓aC];refine eG rfl ?_ ?_<;>intro hc3
       ·
        have hI3:(xs++[x])++kD (ls.drop (i+1)) (ms.drop j)=kD ls ms:=by rw[←hI2,Jq hx,Jq hy,ajr (by simpa using hc3),da];rfl
        apply aK 5 [0] m;simp only[↓aC];refine aB (aF bL aO rfl rfl (by omega) (by omega) (cH (ag _))) ?_;simp only[zz];refine aR rfl ((hrow.ext m.ext).lies cK aO) ?_;simp only[zz];refine eF rfl ?_;intro u g1 e_ h_ k_;replace m:=m.newB e_ h_ k_;simp only[zz];refine bW m 1 rfl rfl bL gR rfl (by decide) rfl rfl rfl (m.b 0 rfl).rowsO (jX rfl) (by omega) (by omega) ?_;intro A5 cap5 u m;simp only[zF,zG] at m;rw[show xs.flatMap aM++_=(xs++[x]).flatMap aM by rw[aw];rfl] at m;apply aL 8 [0] m;simp only[↓aC];refine⟨by omega,?_⟩;rw[show i+j+1=i+1+j by omega] at m ⊢;exact hK1 (N-(i+1)) _ _ (by omega) (by kernel_rfl) ⟨i+1,j,xs++[x],_,_,rfl,(m.sel [false,true]),hI3,by omega,hj,rfl⟩
       ·
        have hI4:(xs++[y])++kD (ls.drop i) (ms.drop (j+1))=kD ls ms:=by rw[←hI2,Jq hx,Jq hy,ajq (by simpa using hc3),da];rfl
        apply aK 6 [0] m;simp only[↓aC];refine aB (aF bL aO rfl rfl (by omega) (by omega) (cH (ag _))) ?_;simp only[zz];refine aR rfl ((hrow2.ext m.ext).lies cK aO) ?_;simp only[zz];refine eF rfl ?_;intro u g1 e_ h_ k_;replace m:=m.newB e_ h_ k_;simp only[zz];refine bW m 1 rfl rfl bL gR rfl (by decide) rfl rfl rfl (m.b 0 rfl).rowsO (jX rfl) (by omega) (by omega) ?_;intro A5 cap5 u m;simp only[zF,zG] at m;rw[show xs.flatMap aM++_=(xs++[y]).flatMap aM by rw[aw];rfl] at m;apply aL 8 [0] m;simp only[↓aC];refine⟨by omega,?_⟩;rw[show i+j+1=i+(j+1) by omega] at m ⊢;exact hK2 (M-(j+1)) _ _ (by omega) (by kernel_rfl) ⟨j+1,xs++[y],_,_,rfl,(m.sel [false,true]),hI4,by omega,rfl⟩
      ·
       obtain rfl:j=M:=by omega
       have hI3:(xs++[x])++kD (ls.drop (i+1)) (ms.drop j)=kD ls ms:=by rw[←hI2,Jq hx,show ms.drop j=[] from gh (by omega),abP,abP,da];rfl
       apply aK 5 [0] m;simp only[↓aC];refine aB (aF bL aO rfl rfl (by omega) (by omega) (cH (ag _))) ?_;simp only[zz];refine aR rfl ((hrow.ext m.ext).lies cK aO) ?_;simp only[zz];refine eF rfl ?_;intro u g1 e_ h_ k_;replace m:=m.newB e_ h_ k_;simp only[zz];refine bW m 1 rfl rfl bL gR rfl (by decide) rfl rfl rfl (m.b 0 rfl).rowsO (jX rfl) (by omega) (by omega) ?_;intro A5 cap5 u m;simp only[zF,zG] at m;rw[show xs.flatMap aM++_=(xs++[x]).flatMap aM by rw[aw];rfl] at m;apply aL 8 [0] m;simp only[↓aC];refine⟨by omega,?_⟩;rw[show i+j+1=i+1+j by omega] at m ⊢;exact hK1 (N-(i+1)) _ _ (by omega) (by kernel_rfl) ⟨i+1,j,xs++[x],_,_,rfl,(m.sel [false,true]),hI3,by omega,hj,rfl⟩
   ·
    obtain rfl:i=N:=by omega
    have hend:xs++ms.drop j=kD ls ms:=by rw[←hI,show ls.drop i=[] from gh (by omega),ajp]
    apply aK 6 [0] m;simp only[↓aC];refine aB (uJ bL aO rfl rfl (ag _) (by omega) (by omega) rfl) ?_;simp only[zz];refine bW m 0 rfl rfl bL gR rfl (by decide) rfl rfl (by rw[Ez,fm,hul]) ((hU.lat.ext m.ext).cellsD ac4 (by decide) hcap) (pU _) (by omega) (by omega) ?_;intro A5 cap5 u m;simp only[zF,zG] at m;rw[←aw,hend] at m;apply aL 3 [] m;simp only[↓aC];exact aT rfl rfl ⟨_,rfl,m.ext,⟨_,_,_,by omega,rfl,(m.o 0 rfl)⟩⟩
end Go.Proofs.YtfekpcimgncioaaGreatDoor
namespace Go.Lith
open Go.RowKit
section
variable {w0 w w':aj} {is:List It}
theorem Mem.plus{js:List It}(m:Mem w0 w is)(h:Mem w w' js):Mem w0 w' (js++is):=by
 have m':=m.ext' h.ext;refine⟨m'.ext,fun i hi=>?_,fun i hi b hb=>?_,gr.2 ⟨h.nd,m.nd,fun i hi j hj b h1 h2=>?_⟩⟩
 · exact (br.1 hi).elim (h.all i) (m'.all i)
 · rcases br.1 hi with hi | hi
   · exact Nat.le_trans m.ext.size (h.ge i hi b hb)
   · exact m'.ge i hi b hb
 · have k1:=h.ge i hi b h1
   have k2:=j.lt w b (m.all j hj) h2;omega
end
structure Hd where
 A:Option Addr
 n:Nat
 cap:Nat
def Hd.v(h:Hd):ai:=.slice h.A h.n h.cap
theorem bQ.takeL{w:aj}{A:Option Addr}{N k:Nat}{ts:List T3}(h:bQ w A N ts)(hk:k≤N):bQ w A k (ts.take k) :=
 ⟨by rw[bw,h.len];exact ib hk,fun t ht=>h.it t (List.mem_of_mem_take ht),fun i t hi=>by
  rw[List.getElem?_take] at hi;split at hi
  · exact h.row i t hi
  · cases hi⟩
theorem bQ.dropL{w:aj}{A:Option Addr}{N k cap:Nat}{ts:List T3}(h:bQ w A N ts)(hk:k≤N)(hc:N≤cap):bQ w (if cap=k then A else A.map (·.add (k*9))) (N-k) (ts.drop k) :=
 ⟨by rw[fm,h.len],fun t ht=>h.it t (List.mem_of_mem_drop ht),fun i t hi=>by
  rw[dm] at hi;obtain⟨a,e,hr⟩:=h.row _ t hi;have hl:=(ap.1 hi).1;rw[h.len] at hl;rw[if_neg (by omega),e];refine⟨_,rfl,?_⟩;rw[jK,←Nat.add_mul];exact hr⟩
end Go.Lith
namespace Go.Lith
open Go.RowKit Go.ChangeMaps Go.MapKept
def Eb(is:List It):It where
 own b:=∃i∈is,i.own b
 P w:=(∀i∈is,i.P w)∧is.Pairwise Ap
 lt w b h e:=by obtain⟨i,hi,ho⟩:=e;exact i.lt w b (h.1 i hi) ho
 st w w' h s k:=⟨fun i hi=>i.st w w' (h.1 i hi) s fun b hb=>k b ⟨i,hi,hb⟩,h.2⟩
section
variable {w0 w:aj} {a is:List It}
theorem Mem.pack(a:List It)(m:Mem w0 w (a++is)):Mem w0 w (a++[Eb is]):=by
 have h:=gr.1 m.nd;refine⟨m.ext,fun i hi=>?_,fun i hi b hb=>?_,gr.2 ⟨h.1,kh _ _,fun x hx y hy b h1 h2=>?_⟩⟩
 · rcases br.1 hi with hi | hi
   · exact m.all i (ig _ hi)
   · obtain rfl:=az.1 hi
     exact⟨fun i hi=>m.all i (gn _ hi),h.2.1⟩
 · rcases br.1 hi with hi | hi
   · exact m.ge i (ig _ hi) b hb
   · obtain rfl:=az.1 hi
     obtain⟨j,hj,hb⟩:=hb;exact m.ge j (gn _ hj) b hb
 · obtain rfl:=az.1 hy
   obtain⟨j,hj,hb⟩:=h2;exact h.2.2 x hx j hj b h1 hb
theorem Mem.unpack(a:List It)(m:Mem w0 w (a++[Eb is])):Mem w0 w (a++is):=by
 have h:=gr.1 m.nd;have hP:(∀i∈is,i.P w)∧is.Pairwise Ap:=m.all _ (gn _ (ji _));refine⟨m.ext,fun i hi=>?_,fun i hi b hb=>?_,gr.2 ⟨h.1,hP.2,fun x hx y hy b h1 h2=>?_⟩⟩
 · rcases br.1 hi with hi | hi
   · exact m.all i (ig _ hi)
   · exact hP.1 i hi
 · rcases br.1 hi with hi | hi
   · exact m.ge i (ig _ hi) b hb
   · exact m.ge _ (gn _ (ji _)) b ⟨i,hi,hb⟩
 · exact h.2.2 x hx _ (ji _) b h1 ⟨y,hy,h2⟩
end
def wX(P:bv)(f:FuncId)(args:List ai)(w:aj)(R:ai→aj→Prop):Prop :=
 Entr P f∧Calls P f args.toArray w fun e w'=>∃v,e=.returned v∧R v w'
theorem wX.mono{P:bv}{f:FuncId}{args:List ai}{w:aj}{R R':ai→aj→Prop}(h:wX P f args w R)(hr:∀v w',R v w'→R' v w'):wX P f args w R' :=
 ⟨h.1,h.2.mono fun _ _ ⟨v,he,hR⟩=>⟨v,he,hr _ _ hR⟩⟩
section
variable {P:bv} {ds:List dw} {l:List ai} {ty:av} {w:aj}
variable {ops:Array Oper} {Q:Exit→Act→aj→Prop} {rest:List Oper} {d:Nat} {pos:String} {after:Array Edge}
theorem kJ{f:FuncId}{fo:Operand}{xs:Array Operand}{args:List ai}{first cap:Array ai}{a0:Array av}{R:ai→aj→Prop}(hf:ev l fo=.func (.func f) first cap)(hxs:first.toList++xs.toList.map (ev l)++cap.toList=args)(hc:wX P f args w R)
 (h:∀v u,R v u→au P ops Q rest (Fr (l.set d v) ds) u):au P ops Q (Oper.mk (some d) (.call { callee:=.value fo,args:=xs,argTypes:=a0 }) ty pos after none::rest) (Fr l ds) w:=by
 refine wpList_plain rfl fun K hK=>?_;unfold Oper.wp;rw[kF,pM hc.1 hf hxs _ rfl];refine hc.2.mono ?_;rintro e w' ⟨v,rfl,hR⟩;show K ((Fr l ds).put (some d) v) w'
 rw[iE];exact hK _ _ (h v w' hR)
end
end Go.Lith
namespace Go.Lith
section
variable {w0 w:aj} {x y z:It} {is:List It}
theorem Mem.pack1(m:Mem w0 w (x::is)):Mem w0 w [x,Eb is]:=Mem.pack [x] m
theorem Mem.unpack2(m:Mem w0 w [x,y,Eb is]):Mem w0 w (x::y::is):=Mem.unpack [x,y] m
theorem Mem.pack3(m:Mem w0 w (x::y::z::is)):Mem w0 w [x,y,z,Eb is]:=Mem.pack [x,y,z] m
theorem Mem.pack2(m:Mem w0 w (x::y::is)):Mem w0 w [x,y,Eb is]:=Mem.pack [x,y] m
theorem Mem.pack4{z2:It}(m:Mem w0 w (x::y::z::z2::is)):Mem w0 w [x,y,z,z2,Eb is]:=Mem.pack [x,y,z,z2] m
theorem Mem.unpack4{z2:It}(m:Mem w0 w [x,y,z,z2,Eb is]):Mem w0 w (x::y::z::z2::is):=Mem.unpack [x,y,z,z2] m
theorem Mem.unpack3(m:Mem w0 w [x,y,z,Eb is]):Mem w0 w (x::y::z::is):=Mem.unpack [x,y,z] m
end
end Go.Lith
namespace Go.Proofs.YtfekpcimgncioaaGreatDoor
open Go.Proofs.Tryz
open Go.RowKit Go.Lith
set_option maxRecDepth 100000
attribute [local irreducible] au wpQuiet fA bF cG Code.wp
attribute [local congr] nO fK fM fN fO fP iY fQ fR fS fT fU fV fW fX fY fZ gA dX dY gB gC gE gF gG jA cQ cR cE cP gD iZ dZ eA eB gH gI jD
variable{ts:List T3}{N cap:Nat}
def abR(A:Option Addr)(N cap:Nat)(ts:List T3)(w:aj)(v:ai)(w':aj):Prop:=(v=.slice A N cap∧N<2)∨SL 39 9 ((wP ts).flatMap aM) N w v w'
theorem apY{t:T3}(h:IT t):IT (dR t):=by
 unfold dR;split
 · exact⟨h.c,h.a,h.b⟩
 · split
   · exact⟨h.b,h.c,h.a⟩
   · exact h
theorem amv(h:∀t∈ts,IT t):∀t∈wP ts,IT t:=fun t ht=>h t ((uN ts).mem_iff.1 ht)
theorem abR.view{A:Option Addr}{w w':aj}{v:ai}(h:abR A N cap ts w v w')(hT:bQ w' A N ts)(hc:N≤cap):∃B c,v=.slice B N c∧bQ w' B N (wP ts)∧N≤c:=by
 rcases h with ⟨rfl,h⟩ | ⟨B,c,n,rfl,rfl,hO⟩
 · exact⟨_,_,rfl,by rw[Om (by rw[hT.len];exact h)];exact hT,hc⟩
 · exact⟨B,c,rfl,hO.tris (amv hT.it),hO.le⟩
theorem aju{A:Option Addr}(w:aj)(ih:∀{us:List T3} {M c:Nat} {B:Option Addr} (u:aj),bQ u B M us→M≤c→M<N→dK prog 85 [.slice B M c] u (abR B M c us u))(hT:bQ w A N ts)(hcap:N≤cap)(hN:N≤10000000):dK prog 85 [.slice A N cap] w (abR A N cap ts w):=by
 refine⟨bP func85 (by kernel_rfl),?_⟩;have m:=Mem.refl w;have htl:=hT.len
 go_enter func85,ntmps85
 apply fG 11 [0,0] m;simp only[↓aC,eV];refine bA rfl ?_ ?_<;>intro hc1
 ·
  apply aK 6 [] m;simp only[↓aC];exact aT rfl rfl ⟨_,rfl,m.ext,.inl ⟨rfl,by omega⟩⟩
 ·
  apply aK 5 [0] m;simp only[↓aC,eV];refine aB (mB rfl rfl (by omega) (show IntKind.i64.wrap ((N:Int).tdiv 2)=((N / 2:Nat):Int) from (show IntKind.i64.wrap ((N / 2:Nat):Int)=((N / 2:Nat):Int) from bG (by omega) (by omega)))) ?_;apply aL 3 [0] m;simp only[↓aC];refine mh m [] [(0,true),(1,true),(2,true),(4,true),(5,true),(6,true),(3,false),(7,false),(8,false),(9,true)] aD (by kernel_rfl) (bT (fun _ _ _ _ _ h=>h)) (ol:=?_) ?hol ?_
  case hol=>simp only[zw,zQ,zR];try rfl
  intro u m;refine aS aG (aS aG ?_);simp only[zz];refine aS (kL bL aO rfl rfl (show _=N / 2 by omega) (by omega) (by omega)) (aS aG (aS aG ?_));simp only[zz];refine aS (uJ bL aO rfl rfl (show _=N / 2 by omega) (by omega) (by omega) rfl) (cF ?_);simp only[zz];refine bC rfl rfl (ih _ ((hT.ext m.ext).takeL (k:=N / 2) (by omega)) (by omega) (by omega)) ?_;rintro v u e hR;replace m:=m.ext' e;obtain⟨A5,c5,rfl,hT5,hc5⟩:=hR.view ((hT.ext m.ext).takeL (k:=N / 2) (by omega)) (by omega);clear e;refine aN ⟨m,?_⟩;refine cF ?_;simp only[zz];refine bC rfl rfl (ih _ ((hT.ext m.ext).dropL (k:=N / 2) (cap:=cap) (by omega) hcap) (by omega) (by omega)) ?_;rintro v u e hR6;replace m:=m.ext' e;replace hT5:=hT5.ext e;obtain⟨A6,c6,rfl,hT6,hc6⟩:=hR6.view ((hT.ext m.ext).dropL (k:=N / 2) (cap:=cap) (by omega) hcap) (by omega);clear e;refine aN ⟨m,?_⟩;refine cF ?_;simp only[zz];refine bC rfl rfl (ajt _ hT5 hT6 hc6 (by omega)) ?_;rintro v u e_ ⟨A7,cap7,n7,hn7,rfl,h_⟩;replace m:=m.newO e_ h_;refine aN ⟨m.sel [false],?_⟩;refine aS aP (bV ?_);apply aW 1 [] m;simp only[↓aC];exact aT rfl rfl ⟨_,rfl,m.ext,.inr ⟨A7,cap7,n7,by omega,rfl,by rw[←abQ ts (N / 2)];exact (m.o 0 rfl)⟩⟩
theorem afg:∀(n:Nat) {ts:List T3} {N cap:Nat} {A:Option Addr} (w:aj),bQ w A N ts→N≤cap→N≤10000000→N<n→dK prog 85 [.slice A N cap] w (abR A N cap ts w)
 | 0,_,_,_,_,_,_,_,_,h=>absurd h (Nat.not_lt_zero _)
 | n+1,_,N,_,_,w,hT,hc,hN,h=>aju w (fun u hU hcu hM=>afg n u hU hcu (by omega) (by omega)) hT hc hN
theorem apZ{w0 w:aj}{A:Option Addr}{N cap:Nat}{xs:List T3}(m:Mem w0 w [oI 39 9 A N cap (xs.flatMap aM)])(hi:∀t∈xs,IT t)(hN:N≤10000000) :
 wX prog 85 [.slice A N cap] w fun v w'=>∃B c,v=.slice B N c∧Mem w0 w' [oI 39 9 B N c ((wP xs).flatMap aM)]:=by
 have hO:=m.o 0 rfl;have hD:=afg (N+1) w (hO.tris hi) hO.le hN (Nat.lt_succ_self N);refine⟨hD.1,hD.2.mono ?_⟩;rintro e w' ⟨v,rfl,hE,⟨rfl,h⟩ | ⟨B,c,n,rfl,rfl,hN2⟩⟩
 · exact⟨_,rfl,A,cap,rfl,by rw[Om (by rw[(hO.tris hi).len];exact h)];exact m.ext' hE⟩
 · exact⟨_,rfl,B,c,rfl,(m.newO hE hN2).sel [true,false]⟩
theorem Tc{A:Option Addr}(w:aj)(hT:bQ w A N ts)(hN:N≤10000000):dK prog 40 [.slice A N cap] w (SL 39 9 ((bK ts).flatMap aM) ts.length w):=by
 refine⟨bP func40 (by kernel_rfl),?_⟩;have m:=Mem.refl w;have htl:=hT.len
 go_enter func40,ntmps40
 apply fG 6 [0] m;simp only[↓aC];refine aB aP ?_;replace m:=m.nilO 39 9;apply aL 7 [0] m;simp only[↓aC];refine bX [3,4] [5,6,7,8,9,10,11,12,13,14,15,16,17,18] (fun n vs wl=>∃(k:Nat) (A1:Option Addr) (cap1:Nat),vs=[.slice A1 k cap1,.int .i64 (k:Int)]∧Mem w wl [oI 39 9 A1 k cap1 (((ts.take k).map dR).flatMap aM)]∧(k≤N)∧(n=N-k)) ?_ ?_
 ·
  exact⟨_,0,_,_,rfl,m,cq _,rfl⟩
 · intro n vs wr hI u K1 hK1
   obtain⟨k,A1,cap1,rfl,m,hk,hn⟩:=hI;simp only[zu,zF,zG];apply aK 8 [0,0] m;simp only[↓aC,eV];refine bA rfl ?_ ?_<;>intro hc1
   ·
    obtain⟨t,ht,_,a,hA,hrow⟩:=hT.get (i:=k) (by omega);subst hA;apply aK 7 [0] m;simp only[↓aC];refine aB (aF bL aO rfl rfl (by omega) (by omega) (cH (ag _))) ?_;simp only[zz];refine aR rfl ((hrow.ext m.ext).lies cK aO) ?_;simp only[zz];refine kY m rfl rfl (Xp (t:=t)) ?_;intro u m;simp only[zz];refine eF rfl ?_;intro u g1 e_ h_ k_;replace m:=m.newB e_ h_ k_;simp only[zz];refine bW m 1 rfl rfl bL gR rfl (by decide) rfl rfl rfl (m.b 0 rfl).rowsO (jX rfl) (by omega) (by omega) ?_;intro A1 cap1 u m;simp only[zF,zG] at m;rw[show ((ts.take k).map dR).flatMap aM++_=((ts.take (k+1)).map dR).flatMap aM by rw[bY ht,ct,aw];rfl] at m;apply aL 8 [0] m;simp only[↓aC];refine⟨by omega,?_⟩;exact hK1 (N-(k+1)) _ _ (by omega) (by kernel_rfl) ⟨k+1,_,_,rfl,(m.sel [false,true]),by omega,rfl⟩
   ·
    obtain rfl:k=N:=by omega
    rw[show ts.take k=ts from bi (by omega)] at m;apply aK 4 [0] m;simp only[↓aC];refine kJ rfl rfl (apZ m (fun t ht=>by obtain⟨s,hs,rfl⟩:=cw.1 ht;exact apY (hT.it s hs)) (by omega)) ?_;rintro v u ⟨A4,cap4,rfl,m⟩;apply aL 3 [] m;simp only[↓aC];exact aT rfl rfl ⟨_,rfl,m.ext,⟨_,_,_,htl.symm,rfl,(m.o 0 rfl)⟩⟩
end Go.Proofs.YtfekpcimgncioaaGreatDoor
namespace Go.Lith
open Go.RowKit
variable{t:T3}{x y a c:P3}{ts:List T3}
theorem abS{u:T3}(h:Hh t u):oG u=oG t:=by
 have k:=aag h;have e:∀s:T3,oG s = !s.nd:=fun s=>by
  cases hd:s.nd with
  | true =>
   obtain⟨h1,h2,h3⟩:=rH.1 hd;simp[oG,h1,h2,h3]
  | false =>
   rcases aiW.1 hd with h | h | h <;> simp[oG,h]
 rw[e,e,k]
theorem asd{f:P3→P3}(h:(t.mapP f).nd=false):hF f t=[]:=if_neg (by rw[h];exact fz)
theorem ap0{f:P3→P3}(h:(t.mapP f).nd=true):hF f t=[dR (t.mapP f)]:=if_pos h
/-! ### Corners in order -/
theorem afh{p:P3}:∀{ps:List P3},rD ps→(ps.dropWhile fun x=>decide (x.Lt p)).head? ≠ some p→∀x∈ps.dropWhile fun x=>decide (x.Lt p),p.Lt x
 | [],_,_,x,h=>by cases h
 | y::ys,hs,hp,x,h=>by
  obtain⟨h1,h2⟩:=bu.1 hs;rw[List.dropWhile_cons] at h hp;split at h
  · rename_i hy
    rw[if_pos hy] at hp;exact afh h2 hp x h
  · rename_i hy
    rw[if_neg hy] at hp;have hy':p.Lt y:=by
     rcases lt_tri y p with k | k | k
     · exact absurd (decide_eq_true k) hy
     · rw[k] at hp;exact absurd rfl hp
     · exact k
    rcases an.1 h with rfl | h
    · exact hy'
    · exact P3.lt_trans hy' (h1 x h)
theorem As{ps:List P3}{p:P3}(hs:rD ps):rD (iD ps p):=by
 unfold iD;split
 · exact hs
 · rename_i hp
   have hd:(ps.drop (abq ps p))=ps.dropWhile fun x=>decide (x.Lt p):=aac ps;have ht:(ps.take (abq ps p))=ps.takeWhile fun x=>decide (x.Lt p):=aab ps;have h0:=hs;rw[rD,←List.takeWhile_append_dropWhile (p:=fun x=>decide (x.Lt p)) (l:=ps)] at h0;obtain⟨h1,h2,h3⟩:=gr.1 h0;have hg:=afh (p:=p) hs (by rw[←hd,List.head?_drop];exact hp);have hl:∀x∈ps.takeWhile fun x=>decide (x.Lt p),x.Lt p:=fun x hx=>of_decide_eq_true (adv (p:=fun x:P3=>decide (x.Lt p)) hx);rw[hd,ht];refine gr.2 ⟨gr.2 ⟨h1,kh _ _,fun x hx y hy=>?_⟩,h2,fun x hx y hy=>?_⟩
   · rw[az.1 hy];exact hl x hx
   · rcases br.1 hx with hx | hx
     · exact h3 x hx y hy
     · rw[az.1 hx];exact hg y hy
theorem qG(ts:List T3):rD (bM ts):=by
 have:∀(ts:List T3) (ps:List P3),rD ps→rD (ts.foldl (fun ps t=>iD (iD (iD ps t.a) t.b) t.c) ps):=by
  intro ts
  induction ts with
  | nil=>exact fun ps h=>h
  | cons t ts ih=>exact fun ps h=>ih _ (As (As (As h)))
 exact this ts [] ki
/-! ### Lists turned,mapped,chosen from -/
theorem Td{l:List T3}{p:P3}:Nx (bK l) p x y↔Nx l p x y:=by
 rw[amp (jY l)];constructor
 · intro h
   obtain⟨t,ht,hx⟩:=dP.1 h;obtain⟨s,hs,rfl⟩:=cw.1 ht;exact dP.2 ⟨s,hs,(abN (jC s)).1 hx⟩
 · intro h
   obtain⟨s,hs,hx⟩:=dP.1 h;exact dP.2 ⟨dR s,fj hs,(abN (jC s)).2 hx⟩
theorem lF{b:P3}:(a,b)∈aQ ts↔∃y,Nx ts a b y:=by
 constructor
 · intro h
   rw[←nA] at h;obtain⟨⟨e,y⟩,hx,he⟩:=cw.1 h;simp only at he;subst he;exact⟨y,hx⟩
 · rintro⟨y,h⟩
   exact qB h
theorem agF(t:T3):(arV (dR t)).Perm (arV t):=by
 rcases jC t with h | h | h
 · rw[h]
 · rw[h];exact List.perm_append_comm (l₁:=[(t.b,t.c),(t.c,t.a)]) (l₂:=[(t.a,t.b)])
 · rw[h];exact List.perm_append_comm (l₁:=[(t.c,t.a)]) (l₂:=[(t.a,t.b),(t.b,t.c)])
theorem Js:∀l:List T3,(aQ (l.map dR)).Perm (aQ l)
 | []=>.refl _
 | t::l=>(agF t).append (Js l)
theorem nD(l:List T3):(aQ (bK l)).Perm (aQ l):=((jY l).flatMap_right _).trans (Js l)
theorem adV{f:P3→P3}{p:P3}:Nx (ts.map (T3.mapP f)) p x y↔∃p' x' y',Nx ts p' x' y'∧f p'=p∧f x'=x∧f y'=y:=by
 constructor
 · intro h
   obtain⟨t,ht,hx⟩:=dP.1 h;obtain⟨s,hs,rfl⟩:=cw.1 ht;rcases Hk.1 hx with ⟨rfl,rfl,rfl⟩ | ⟨rfl,rfl,rfl⟩ | ⟨rfl,rfl,rfl⟩
   · exact⟨s.a,s.b,s.c,dP.2 ⟨s,hs,Hk.2 (.inl ⟨rfl,rfl,rfl⟩)⟩,rfl,rfl,rfl⟩
   · exact⟨s.b,s.c,s.a,dP.2 ⟨s,hs,Hk.2 (.inr (.inl ⟨rfl,rfl,rfl⟩))⟩,rfl,rfl,rfl⟩
   · exact⟨s.c,s.a,s.b,dP.2 ⟨s,hs,Hk.2 (.inr (.inr ⟨rfl,rfl,rfl⟩))⟩,rfl,rfl,rfl⟩
 · rintro⟨p',x',y',h,rfl,rfl,rfl⟩
   obtain⟨s,hs,hx⟩:=dP.1 h;refine dP.2 ⟨s.mapP f,fj hs,Hk.2 ?_⟩;rcases Hk.1 hx with ⟨rfl,rfl,rfl⟩ | ⟨rfl,rfl,rfl⟩ | ⟨rfl,rfl,rfl⟩
   · exact .inl ⟨rfl,rfl,rfl⟩
   · exact .inr (.inl ⟨rfl,rfl,rfl⟩)
   · exact .inr (.inr ⟨rfl,rfl,rfl⟩)
theorem ap1{p:P3}:Nx (ts.filter T3.nd) p x y↔Nx ts p x y∧p≠x∧x≠y∧y≠p:=by
 constructor
 · intro h
   obtain⟨t,ht,hx⟩:=dP.1 h;obtain⟨h1,h2⟩:=dh.1 ht;obtain⟨k1,k2,k3⟩:=rH.1 h2;refine⟨dP.2 ⟨t,h1,hx⟩,?_⟩;rcases Hk.1 hx with ⟨rfl,rfl,rfl⟩ | ⟨rfl,rfl,rfl⟩ | ⟨rfl,rfl,rfl⟩
   · exact⟨k1,k2,k3⟩
   · exact⟨k2,k3,k1⟩
   · exact⟨k3,k1,k2⟩
 · rintro⟨h,k1,k2,k3⟩
   obtain⟨t,ht,hx⟩:=dP.1 h;refine dP.2 ⟨t,dh.2 ⟨ht,rH.2 ?_⟩,hx⟩;rcases Hk.1 hx with ⟨rfl,rfl,rfl⟩ | ⟨rfl,rfl,rfl⟩ | ⟨rfl,rfl,rfl⟩
   · exact⟨k1,k2,k3⟩
   · exact⟨k3,k1,k2⟩
   · exact⟨k2,k3,k1⟩
theorem Hp{us:List T3}{u v p:P3}:Nx (eZ us u v) p x y↔(∃p' x' y',Nx us p' x' y'∧jW u v p'=p∧jW u v x'=x∧jW u v y'=y)∧p≠x∧x≠y∧y≠p:=by
 unfold eZ sU;rw[Td,ap1];exact and_congr_left fun _=>adV (f:=jW u v)
theorem mS{b:P3}(h:Nx ts a b c):Nx ts b c a:=vI h
theorem jI(dg:tG ts){b:P3}(h:Nx ts a b c):a≠b∧b≠c∧c≠a:=by
 obtain⟨t,ht,hx⟩:=dP.1 h;obtain⟨k1,k2,k3⟩:=apm (dg t ht);rcases Hk.1 hx with ⟨rfl,rfl,rfl⟩ | ⟨rfl,rfl,rfl⟩ | ⟨rfl,rfl,rfl⟩
 · exact⟨k1,k2,k3⟩
 · exact⟨k2,k3,k1⟩
 · exact⟨k3,k1,k2⟩
theorem gV{b:P3}(h:Nx ts a b c):mN ts a b=true:=adA (qB h)
theorem oN{b:P3}(h:Nx ts a b c):mN ts a c=true:=jB (gV (mS (mS h)))
theorem Jt{b:P3}(h:mN ts a b=true)(hne:a≠b):(∃y,Nx ts a b y)∨∃y,Nx ts b a y:=(adB h hne).imp lF.1 lF.1
/-! ### Closed sets in place of rings -/
def Te(N:P3→P3→Prop):Prop:=∀S:P3→Prop,(∃x,S x)→(∀x,S x→(∃y,N x y)∧∀y,N x y→S y)→∀x y,N x y→S x
theorem nX.back{N:P3→P3→Prop}(fn:∀x y z,N x y→N x z→y=z){s:P3}(hc:Cyc N s)(h:nX N s x):nX N x s:=by
 induction h with
 | refl=>exact .refl _
 | @tail b c _ k ih =>
  rcases ih.head with rfl | ⟨d,hd,r⟩
  · obtain⟨y,hy,r⟩:=hc
    rw[fn _ _ _ k hy];exact r
  · rw[fn _ _ _ k hd];exact r
theorem Te.ring{N:P3→P3→Prop}(fn:∀x y z,N x y→N x z→y=z)(h:Te N):nY N:=fun s hc=>h (nX N s) ⟨s,.refl _⟩ fun x hx=>⟨by
 rcases (hx.back fn hc).head with rfl | ⟨d,hd,_⟩
 · exact hc.imp fun _ h=>h.1
 · exact⟨d,hd⟩,fun _ hy=>.tail hx hy⟩
theorem afi{N:P3→P3→Prop}{E:List P3}(hE:∀x y,N x y→x∈E){S:P3→Prop}(hS:∃x,S x)(hc:∀x,S x→(∃y,N x y)∧∀y,N x y→S y):∃s,S s∧Cyc N s:=by
 refine Classical.byContradiction fun hno=>?_;obtain⟨x0,h0⟩:=hS
 -- longer and longer lists of different points,each reached from all before
 have key:∀n,∃L:List P3,L.length=n∧L.Nodup∧(∀x∈L,x∈E)∧∃a,S a∧∀x∈L,∃y,N x y∧S x∧nX N y a:=by
  intro n
  induction n with
  | zero=>exact⟨[],rfl,jo,fun x h=>(by cases h),x0,h0,fun x h=>(by cases h)⟩
  | succ n ih =>
   obtain⟨L,h1,h2,h3,a,ha,h4⟩:=ih;obtain⟨⟨b,hb⟩,hcl⟩:=hc a ha;have hn:a∉L:=fun hm=>by
    obtain⟨y,hy,_,hr⟩:=h4 a hm;exact hno ⟨a,ha,y,hy,hr⟩
   refine⟨a::L,by simp[h1],f_.2 ⟨hn,h2⟩,fun x hx=>?_,b,hcl b hb,fun x hx=>?_⟩
   · rcases an.1 hx with rfl | hx
     · exact hE _ _ hb
     · exact h3 x hx
   · rcases an.1 hx with rfl | hx
     · exact⟨b,hb,ha,.refl _⟩
     · obtain⟨y,hy,hs,hr⟩:=h4 x hx
       exact⟨y,hy,hs,.tail hr hb⟩
 obtain⟨L,h1,h2,h3,_⟩:=key (E.length+1);have:=mZ h2 h3;omega
theorem nY.sets{N:P3→P3→Prop}{E:List P3}(hE:∀x y,N x y→x∈E)(h:nY N):Te N:=fun S hS hc=>by
 obtain⟨s,hs,hy⟩:=afi hE hS hc;have key:∀x,nX N s x→S x:=fun x hx=>by
  induction hx with
  | refl=>exact hs
  | tail _ k ih=>exact (hc _ ih).2 _ k
 exact fun x y hxy=>key x (h s hy x y hxy)
/-! ### A path in a corner's place -/
structure Pth(u c1 c2:P3)(A P N N':P3→P3→Prop):Prop where
 n:∀x y,N x y↔A x y∨(x=c1∧y=u)∨(x=u∧y=c2)
 n':∀x y,N' x y↔A x y∨P x y
 a:∀x y,A x y→x≠u∧y≠u∧x≠c1∧y≠c2
 p:∀x y,P x y→nX P c1 x∧nX P y c2
 pc:nX P c1 c2
 i:∀x y,P x y→(x=c1∨((∀z,¬A x z)∧∀z,¬A z x))∧(y=c2∨((∀z,¬A y z)∧∀z,¬A z y))
 pe:∀y,¬P c2 y
 pu:∀x y,P x y→x≠u∧y≠u
 n1:c1≠u
 n2:c2≠u
 n3:c1≠c2
section
variable {u c1 c2:P3} {A P N N':P3→P3→Prop}
theorem Pth.nopin(h:Pth u c1 c2 A P N N')(hN:Te N):Te N':=by
 rintro S' ⟨x0,hx0⟩ hcl;have up:∀a b,nX P a b→S' a→S' b:=fun a b r ha=>by
  induction r with
  | refl=>exact ha
  | tail _ k ih=>exact (hcl _ ih).2 _ ((h.n' _ _).2 (.inr k))
 have all:=hN (fun x=>(x=u∧S' c2)∨(x≠u∧S' x∧(x=c1∨∃y,A x y))) (by
  obtain⟨⟨y,hy⟩,_⟩:=hcl x0 hx0;rcases (h.n' _ _).1 hy with k | k
  · exact⟨x0,.inr ⟨(h.a _ _ k).1,hx0,.inr ⟨y,k⟩⟩⟩
  · exact⟨u,.inl ⟨rfl,up _ _ (h.p _ _ k).2 ((hcl _ hx0).2 _ hy)⟩⟩) (fun x hx=>by
  rcases hx with ⟨rfl,h2⟩ | ⟨hu,hs,rfl | ⟨y0,hA⟩⟩
  · refine⟨⟨c2,(h.n _ _).2 (.inr (.inr ⟨rfl,rfl⟩))⟩,fun y hy=>?_⟩
    rcases (h.n _ _).1 hy with k | ⟨e,_⟩ | ⟨_,rfl⟩
    · exact absurd rfl (h.a _ _ k).1
    · exact absurd e.symm h.n1
    · obtain⟨z,hz⟩:=(hcl _ h2).1
      rcases (h.n' _ _).1 hz with k | k
      · exact .inr ⟨h.n2,h2,.inr ⟨z,k⟩⟩
      · exact absurd k (h.pe z)
  · refine⟨⟨u,(h.n _ _).2 (.inr (.inl ⟨rfl,rfl⟩))⟩,fun y hy=>?_⟩
    rcases (h.n _ _).1 hy with k | ⟨_,rfl⟩ | ⟨e,_⟩
    · exact absurd rfl (h.a _ _ k).2.2.1
    · exact .inl ⟨rfl,up _ _ h.pc hs⟩
    · exact absurd e h.n1
  · refine⟨⟨y0,(h.n _ _).2 (.inl hA)⟩,fun y hy=>?_⟩
    rcases (h.n _ _).1 hy with k | ⟨e,_⟩ | ⟨e,_⟩
    · have hy':=(hcl _ hs).2 y ((h.n' _ _).2 (.inl k))
      refine .inr ⟨(h.a _ _ k).2.1,hy',?_⟩;obtain⟨z,hz⟩:=(hcl _ hy').1;rcases (h.n' _ _).1 hz with q | q
      · exact .inr ⟨z,q⟩
      · rcases (h.i _ _ q).1 with e | ⟨_,e⟩
        · exact .inl e
        · exact absurd k (e x)
    · exact absurd e (h.a _ _ hA).2.2.1
    · exact absurd e hu)
 intro x y hxy;rcases (h.n' _ _).1 hxy with k | k
 · rcases all x y ((h.n _ _).2 (.inl k)) with ⟨e,_⟩ | ⟨_,hs,_⟩
   · exact absurd e (h.a _ _ k).1
   · exact hs
 · rcases all c1 u ((h.n _ _).2 (.inr (.inl ⟨rfl,rfl⟩))) with ⟨e,_⟩ | ⟨_,hs,_⟩
   · exact absurd e h.n1
   · exact up _ _ (h.p _ _ k).1 hs
theorem Pth.fan(h:Pth u c1 c2 A P N N'){a z:P3}(hu:a≠u)(ha:∀y,P a y→a=c1)(k:Pc N' a z):Pc N a z:=by
 have s1:nX N c1 c2:=.tail (.one ((h.n _ _).2 (.inr (.inl ⟨rfl,rfl⟩)))) ((h.n _ _).2 (.inr (.inr ⟨rfl,rfl⟩)));have key:∀b,nX N' a b→b≠u∧(nX N a b∨(nX N a c1∧∃x,P x b)):=fun b r=>by
  induction r with
  | refl=>exact⟨hu,.inl (.refl _)⟩
  | @tail b c _ s ih =>
   rcases (h.n' _ _).1 s with k | k
   · refine⟨(h.a _ _ k).2.1,.inl ?_⟩
     rcases ih.2 with r | ⟨r,x,hx⟩
     · exact .tail r ((h.n _ _).2 (.inl k))
     · rcases (h.i _ _ hx).2 with rfl | ⟨e,_⟩
       · exact .tail (r.trans s1) ((h.n _ _).2 (.inl k))
       · exact absurd k (e c)
   · refine⟨(h.pu _ _ k).2,.inr ⟨?_,b,k⟩⟩
     rcases ih.2 with r | ⟨r,_⟩
     · rcases (h.i _ _ k).1 with rfl | ⟨_,e⟩
       · exact r
       · cases r with
         | refl=>rw[←ha _ k];exact .refl _
         | @tail w _ r s =>
          rcases (h.n _ _).1 s with q | ⟨_,q⟩ | ⟨_,q⟩
          · exact absurd q (e w)
          · exact absurd q (h.pu _ _ k).1
          · rw[q] at k;exact absurd k (h.pe c)
     · exact r
 obtain⟨hz,hr⟩:=key z k.1;refine⟨?_,fun y hy=>?_⟩
 · rcases hr with r | ⟨r,x,hx⟩
   · exact r
   · rcases (h.p _ _ hx).2.head with e | ⟨w,hw,_⟩
     · rw[e];exact r.trans s1
     · exact absurd ((h.n' _ _).2 (.inr hw)) (k.2 w)
 · rcases (h.n _ _).1 hy with q | ⟨rfl,_⟩ | ⟨e,_⟩
   · exact k.2 y ((h.n' _ _).2 (.inl q))
   · rcases h.pc.head with e | ⟨w,hw,_⟩
     · exact h.n3 e
     · exact k.2 w ((h.n' _ _).2 (.inr hw))
   · exact hz e
theorem Ins.nopin_out{p x0 y0:P3}(h:Ins p x0 y0 N N')(hN:nY N'):nY N:=by
 rintro s ⟨y,hy,hr⟩ x' y' hx;obtain⟨n1,n2⟩:=h.no _ _ hy;have hc:Cyc N' s:=by
  by_cases e:s=x0∧y=y0
  · obtain⟨rfl,rfl⟩:=e
    exact⟨p,(h.iff _ _).2 (.inr (.inl ⟨rfl,rfl⟩)),(nX.one ((h.iff _ _).2 (.inr (.inr ⟨rfl,rfl⟩)))).trans (h.up hr)⟩
  · exact⟨y,(h.iff _ _).2 (.inl ⟨hy,e⟩),h.up hr⟩
 obtain⟨n3,_⟩:=h.no _ _ hx;have hs:∃w,N' x' w:=by
  by_cases e:x'=x0∧y'=y0
  · exact⟨p,(h.iff _ _).2 (.inr (.inl ⟨e.1,rfl⟩))⟩
  · exact⟨y',(h.iff _ _).2 (.inl ⟨hx,e⟩)⟩
 obtain⟨w,hw⟩:=hs;rcases h.down n1 (hN s hc x' w hw) with ⟨_,r⟩ | ⟨e,_⟩
 · exact r
 · exact absurd e n3
end
end Go.Lith
