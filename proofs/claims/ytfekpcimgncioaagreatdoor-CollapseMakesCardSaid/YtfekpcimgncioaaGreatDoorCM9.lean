/-
 Texts of one claim, laid together: Trav, K27, K28, Maps2, K29, K34, K50, K51, Open5, K35, K52, Join.
-/
import Derived.OpenVars
import Derived.OpenShut
import Derived.WalkKit
import Derived.ProofKit
import Derived.Test.YtfekpcimgncioaaGreatDoorCM8
open Nat renaming reduceAdd→aa,reduceMul→ag,zero_add→ar,le_refl→av,zero_le→br,lt_succ_self→el
open Int renaming reduceToNat→ad,toNat_natCast→ai,reduceAdd→ak
open Go renaming Value→ah,World→aj,TypeId→an,wpList→au,MapEntry→b_
open List renaming mem_cons→ao,getElem?_eq_some_iff→aq,length_append→aw,length_cons→ay,take_of_length_le→a_,flatMap_append→ba,mem_singleton→bf,map_cons→bi,mem_of_getElem?→bj,mem_append→bt,length_nil→bu,not_mem_nil→bz,nil_append→cd,cons_append→ci,length_take→cj,map_nil→ck,map_append→cl,mem_iff_getElem?→cv,mem_map→df,append_assoc→dh,length_map→dz,mem_map_of_mem→eu,take_length→ew,getElem?_map→fj,map_toArray→fk,filter_append→fu,mem_append_right→fv,mem_append_left→gm,map_congr_left→il,nodup_append→jm,nodup_nil→jv,map_eq_append_iff→ld,map_eq_cons_iff→lv,perm_cons→mz
open Bool renaming and_eq_true→be,or_eq_true→dm,or_eq_false_iff→fz,not_false→gp
open Go.Value renaming bool→bw,okWide→lw
open Option.some renaming inj→dq,injEq→fx
open Option renaming map_some→fa
open Prod.mk renaming injEq→fp
open Array renaming eraseIdxIfInBounds→ke,toList_push→mw
open List.Nodup renaming length_le_of_subset→ky
open List.Perm renaming append_left→lj,refl→mx
set_option maxHeartbeats 8000000
set_option linter.unusedSimpArgs false
set_option linter.unusedVariables false
set_option linter.unusedSectionVars false
namespace Go.Lith
open Go.RowKit Go.ChangeMaps Go.MapKept
section
variable {K V:Type} [DecidableEq K] {P:Program} {T M E ty:an} {ek:K→ah} {ev:V→ah} {w w0:aj} {g c:Nat} {es:Array b_} {D:List (K × V)} {is:List It}
def sK(ek:K→ah)(ev:V→ah)(D:List (K × V))(es:Array b_)(seen:Array Nat)(dn rs:List (K × V)):Prop :=
 (dn++rs).Perm D∧∃dE rE:List b_,(∀e∈dE,e.born∈seen.toList)∧(∀e∈rE,e.born∉seen.toList)∧(dE++rE).Perm es.toList∧dE.map Sb=dn.map (fun x=>(ek x.1,ev x.2))∧rE.map Sb=rs.map (fun x=>(ek x.1,ev x.2))
def wR(ek:K→ah)(ev:V→ah)(D:List (K × V))(es:Array b_)(seen:Array Nat)(dn:List (K × V))(k:K)(v:V)(rs:List (K × V)):Prop :=
 sK ek ev D es seen (dn++[(k,v)]) rs∧∃(e:b_) (s:Array Nat),e∈es.toList∧Sb e=(ek k,ev v)∧seen=s.push e.born
theorem sK.start(hD:bL ek ev D es c):sK ek ev D es #[] [] D:=⟨mx _,[],es.toList,fun _ h=>(by cases h),fun _ _ h=>(by cases h),mx _,rfl,hD.cells⟩
theorem sK.done{seen:Array Nat}{dn:List (K × V)}(h:sK ek ev D es seen dn []):dn.Perm D:=by simpa using h.1
def alI(ek:K→ah)(ev:V→ah)(D:List (K × V))(es:Array b_)(dn rs:List (K × V))(b:Bool)(seen':Array Nat):Prop :=
 (b=false∧rs=[])∨(b=true∧∃k v rs',rs.Perm ((k,v)::rs')∧wR ek ev D es seen' dn k v rs')
theorem afO{r:Nat}{seen:Array Nat}{dn rs:List (K × V)}(hI:rG w r g c seen c)(hM:iX w g es c)(hD:bL ek ev D es c)(hT:sK ek ev D es seen dn rs) :
 ∃b kv vv seen' w1,(w1=w∨w1=w.drew)∧(Instr.next (.pointer (some ⟨r,0,none⟩)) false ty).run P w=.ok (Du b kv vv) (setBlock w1 r (.mapIter (some g) c seen' c))∧alI ek ev D es dn rs b seen':=by
 obtain⟨hp,dE,rE,h1,h1',h2,h3,h4⟩:=hT;have hnd:((dE++rE).map (·.born)).Nodup:=(h2.map (·.born)).nodup_iff.2 hD.nd;have hleft:∀e,e∈(leftOf es seen).toList↔e∈rE:=fun e=>by
  unfold leftOf;simp only[Array.toList_filter,List.mem_filter,Bool.not_eq_true',Array.contains_eq_mem,decide_eq_false_iff_not];rw[←Array.mem_toList_iff (xs:=seen),←h2.mem_iff,bt];constructor
  · rintro⟨h | h,hn⟩
    · exact absurd (h1 e h) hn
    · exact h
  · intro h
    exact⟨.inr h,h1' e h⟩
 rcases run_next_at (P:=P) w ty r g c c seen es c hI hM hD.born (av _) with ⟨h0,hr⟩ | ⟨e,he,w1,hw1,hr⟩
 · refine⟨false,default,default,seen,w,.inl rfl,?_,.inl ⟨rfl,?_⟩⟩
   · rw[hr]
     have:setBlock w r (.mapIter (some g) c seen c)=w:=by
      unfold setBlock;have hlt:=(Array.getElem?_eq_some_iff.1 hI).1;have:w.heap.setIfInBounds r (.mapIter (some g) c seen c)=w.heap:=by
       apply Array.ext_getElem?;intro i;rw[Array.getElem?_setIfInBounds];split
       · rename_i e;subst e;exact hI.symm
       · rfl
      rw[this]
     rw[this];rfl
   · cases rs with
     | nil=>rfl
     | cons x rs =>
      cases rE with
      | nil=>simp at h4
      | cons e rE =>
       have:=(hleft e).2 (List.mem_cons_self ..);rw[Array.eq_empty_of_size_eq_zero h0] at this;simp at this
 · obtain⟨s,t,rfl⟩:=List.append_of_mem ((hleft e).1 he)
   rw[cl,bi] at h4;obtain⟨rs1,rs2,rfl,e1,e2⟩:=ld.1 h4.symm;obtain⟨x,rs3,rfl,e3,e4⟩:=lv.1 e2;obtain⟨k,v⟩:=x;have hmid:(dE++[e]++(s++t)).Perm (dE++(s++e::t)):=by
    simp only[dh,ci,cd];exact lj _ List.perm_middle.symm
   have hnd':((dE++[e]++(s++t)).map (·.born)).Nodup:=(hmid.map _).nodup_iff.2 hnd;rw[cl,jm] at hnd';refine⟨true,e.key,e.val,seen.push e.born,w1,hw1,hr,.inr ⟨rfl,k,v,rs1++rs3,List.perm_middle,⟨?_,dE++[e],s++t,?_,?_,?_,?_,?_⟩,e,seen,h2.mem_iff.1 (by simp),by rw[←e3],rfl⟩⟩
   · refine List.Perm.trans ?_ hp
     simp only[dh,ci,cd];exact lj _ List.perm_middle.symm
   · intro x hx
     rw[mw];rcases bt.1 hx with hx | hx
     · exact gm _ (h1 x hx)
     · rw[bf.1 hx];exact fv _ (bf.2 rfl)
   · intro x hx hm
     rw[mw] at hm;rcases bt.1 hm with hm | hm
     · refine h1' x ?_ hm
       rcases bt.1 hx with h | h
       · exact gm _ h
       · exact fv _ (List.mem_cons_of_mem _ h)
     · refine hnd'.2.2 e.born (df.2 ⟨e,by simp,rfl⟩) x.born (df.2 ⟨x,hx,rfl⟩) (bf.1 hm).symm
   · exact hmid.trans h2
   · simp only[cl,h3,bi,ck]
     rw[←e3]
   · simp[e1,e4]
theorem ac0{r:Nat}{seen:Array Nat}{dn rs:List (K × V)}{k:K}{v:V}(hI:rG w r g c seen c)(hM:iX w g es c)(hD:bL ek ev D es c)(hT:wR ek ev D es seen dn k v rs) :
 (Instr.entry (.pointer (some ⟨r,0,none⟩))).run P w=.ok (.tuple #[ek k,ev v]) w:=by
 obtain⟨_,e,s,hm,he,rfl⟩:=hT;have:=run_entry_at (P:=P) w r g c _ es c e hI hM hm hD.nd;rw[this];simp only[Sb,fp] at he;rw[he.1,he.2]
theorem ajz(w:aj)(kt:rY P T ek){a b:K}(h:ek a=ek b):a=b:=by
 have h1:=kt.eq a b w;have h2:=kt.eq a a w;rw[←h,h2] at h1
 injection h1 with h1
 simpa using h1.symm
theorem Ks{α:Type}:∀{l:List α} {p:Nat} {x:α},l[p]? = some x→l.Perm (x::l.eraseIdx p)
 | [],_,_,h=>by simp at h
 | y::l,0,x,h=>by simp at h;subst h;exact .refl _
 | y::l,p+1,x,h=>by
  have:=Ks (l:=l) (p:=p) (by simpa using h);exact (this.cons y).trans (.swap ..)
theorem Kt{α:Type}:∀{l:List α} {p:Nat} {x y:α},l[p]? = some x→(l.set p y).Perm (y::l.eraseIdx p)
 | [],_,_,_,h=>by simp at h
 | z::l,0,x,y,h=>.refl _
 | z::l,p+1,x,y,h=>by
  have:=Kt (l:=l) (p:=p) (y:=y) (x:=x) (by simpa using h);exact (this.cons z).trans (.swap ..)
theorem Rq{D:List (K × V)}(hn:(D.map (·.1)).Nodup){p q:Nat}{k:K}{v u:V}(hp:D[p]? = some (k,v))(hq:D[q]? = some (k,u)):p=q:=by
 have h1:(D.map (·.1))[p]? = some k:=by simp[hp]
 have h2:(D.map (·.1))[q]? = some k:=by simp[hq]
 obtain⟨a1,a2⟩:=aq.1 h1;obtain⟨b1,b2⟩:=aq.1 h2;exact (List.getElem_inj hn).1 (a2.trans b2.symm)
theorem wR.at(kt:rY P T ek)(w:aj){seen:Array Nat}{dn rs:List (K × V)}{k:K}{v:V}(hD:bL ek ev D es c)(hn:(D.map (·.1)).Nodup)(hT:wR ek ev D es seen dn k v rs) :
 ∃(p:Nat) (e:b_) (dE rE:List b_),qD D k 0=some (p,v)∧D[p]? = some (k,v)∧es.toList[p]? = some e∧(dn++rs).Perm (D.eraseIdx p)∧(dE++rE).Perm (es.toList.eraseIdx p)∧e.born∈seen.toList ∧
  (∀e∈dE,e.born∈seen.toList)∧(∀e∈rE,e.born∉seen.toList)∧dE.map Sb=dn.map (fun x=>(ek x.1,ev x.2))∧rE.map Sb=rs.map (fun x=>(ek x.1,ev x.2)):=by
 obtain⟨⟨hp,dE,rE,h1,h1',h2,h3,h4⟩,_⟩:=hT;have hmem:(k,v)∈D:=hp.mem_iff.1 (by simp);have hg:=uT hn hmem;cases hf:qD D k 0 with
 | none=>rw[(qM D k 0 hf).1] at hg;cases hg
 | some q =>
  obtain⟨j,v'⟩:=q;obtain⟨p,rfl,hpp,h0,_,_⟩:=mO D k 0 j v' hf;rw[ar] at hf ⊢;obtain rfl:v'=v:=by rw[h0] at hg;exact dq hg
  rw[cl,bi,ck] at h3;obtain⟨d1,d2,rfl,e1,e2⟩:=ld.1 h3;obtain⟨e,d3,rfl,e3,e4⟩:=lv.1 e2;obtain rfl:d3=[]:=by simpa using e4
  have hm:e∈es.toList:=h2.mem_iff.1 (by simp);obtain⟨q,hq⟩:=cv.1 hm;have hqD:∃u,D[q]? = some (k,u):=by
   have h5:=congrArg (fun L=>L[q]?) hD.cells;simp only[fj,hq,fa,e3] at h5;cases h6:D[q]? with
   | none=>rw[h6] at h5;cases h5
   | some x =>
    rw[h6] at h5;simp only[fa,fx,fp] at h5;obtain⟨a,u⟩:=x;obtain rfl:k=a:=ajz w kt h5.1;exact⟨u,rfl⟩
  obtain⟨u,hu⟩:=hqD;obtain rfl:=Rq hn hpp hu;refine⟨p,e,d1,rE,rfl,hpp,hq,?_,?_,h1 e (by simp),fun x hx=>h1 x (gm _ hx),h1',e1,h4⟩
  · have:((k,v')::(dn++rs)).Perm ((k,v')::D.eraseIdx p):=by
     refine (?_:List.Perm _ _).trans (hp.trans (Ks hpp));rw[dh];exact List.perm_middle.symm
    exact (mz _).1 this
  · have:(e::(d1++rE)).Perm (e::es.toList.eraseIdx p):=by
     refine (?_:List.Perm _ _).trans (h2.trans (Ks hq));rw[dh];exact List.perm_middle.symm
    exact (mz _).1 this
theorem abd{T2:an}{seen:Array Nat}{dn rs:List (K × V)}{k:K}{v:V}(hu:P.underlying M=some (.map T E))(kt:rY P T ek)(hM:iX w g es c)(hD:bL ek ev D es c)(hn:(D.map (·.1)).Nodup)(hT:wR ek ev D es seen dn k v rs) :
 ∃es',(Builtin.delete_ #[M,T2] ty #[.map (some g),ek k]).run P w=.ok (.tuple #[]) (setBlock w g (.map es' c))∧bL ek ev (Aq D k) es' c∧sK ek ev (Aq D k) es' seen dn rs:=by
 unfold iX at hM;obtain⟨p,e,dE,rE,hf,hp,he,hd,hE,_,h1,h1',h3,h4⟩:=hT.at kt w hD hn;obtain⟨p',e0,_,_,_,hm⟩:=mO D k 0 p v hf;rw[ar] at e0;subst e0;refine⟨es.eraseIdxIfInBounds p,?_,hm▸hD.erase p,hm▸hd,dE,rE,h1,h1',?_,h3,h4⟩
 · simp[Builtin.delete_,run_underlying hu,getObj,Sem.run,hM,kt.chk,tQ kt k w hD,hf,run_setObj_map _ hM,setBlock]
 · have e2:(es.eraseIdxIfInBounds p).toList=es.toList.eraseIdx p:=by
    by_cases h:p<es.size
    · simp[ke,h]
    · simp only[ke,h,dite_false]
      exact (List.eraseIdx_of_length_le (by simpa using Nat.le_of_not_lt h)).symm
   rw[e2];exact hE
theorem abe{seen:Array Nat}{dn rs:List (K × V)}{k:K}{v:V}(hu:P.underlying M=some (.map T E))(kt:rY P T ek)(hM:iX w g es c)(hD:bL ek ev D es c)(hn:(D.map (·.1)).Nodup)(hT:wR ek ev D es seen dn k v rs)(u:V) :
 ∃es',(Instr.mapUpdate M (.map (some g)) (ek k) (ev u)).run P w=.ok () (setBlock w g (.map es' c))∧bL ek ev (fG D k u) es' c∧sK ek ev (fG D k u) es' seen (dn++[(k,u)]) rs:=by
 unfold iX at hM;obtain⟨p,e,dE,rE,hf,hp,he,hd,hE,hb,h1,h1',h3,h4⟩:=hT.at kt w hD hn;obtain⟨p',e0,_,_,hm,_⟩:=mO D k 0 p v hf;rw[ar] at e0;subst e0;have hk:e.key=ek k:=by
  have h2:=congrArg (fun L=>L[p]?) hD.cells;simp only[fj,hp,he,fa,Sb,fx,fp] at h2;exact h2.1
 have hes:es[p]? = some e:=by rw[←Array.getElem?_toList];exact he
 have hk':((es[p]?).map (·.key)).getD (ek k)=ek k:=by rw[hes];exact hk
 refine⟨es.modify p fun e=>{ e with key:=ek k,val:=ev u },?_,hm u▸hD.set hp u,hm u▸?_,dE++[{ e with key:=ek k,val:=ev u }],rE,?_,h1',?_,?_,h4⟩
 · simp only[Instr.mapUpdate,Sem.run_bind,run_underlying hu,Result.andThen,getObj,Sem.run,hM,Sem.run_pure,kt.chk,tQ kt k w hD,hf,fa,hk',Instr.keyThatStays,kt.bits,if_true]
   exact run_setObj_map _ hM
 · rw[dh]
   refine List.perm_middle.trans (((hd.cons (k,u))).trans (Kt hp).symm)
 · intro x hx
   rcases bt.1 hx with hx | hx
   · exact h1 x hx
   · rw[bf.1 hx];exact hb
 · have e2:(es.modify p fun e=>{ e with key:=ek k,val:=ev u }).toList=es.toList.set p { e with key:=ek k,val:=ev u }:=by
    rw[Array.toList_modify];apply List.ext_getElem?;intro j;rw[List.getElem?_modify,List.getElem?_set];by_cases h:p=j
    · subst h
      have:=(aq.1 he).1;rw[he];simp[this];simpa using this
    · simp[h]
   rw[e2,dh];exact List.perm_middle.trans ((hE.cons _).trans (Kt he).symm)
 · simp[h3,Sb]
theorem wR.stay{seen:Array Nat}{dn rs:List (K × V)}{k:K}{v:V}(hT:wR ek ev D es seen dn k v rs):sK ek ev D es seen (dn++[(k,v)]) rs:=hT.1
variable {ds:List Deferred} {l:List ah} {x y z:Operand} {ops:Array Oper} {Q:Exit→Act→aj→Prop} {rest:List Oper} {d:Nat} {pos:String} {after:Array Edge}
theorem ajA{r:Nat}{seen:Array Nat}{dn rs:List (K × V)}(m:Mem w0 w is)(k:Nat)(hk:is[k]? = some (iI r g c seen))(hx:Go.Lith.ev l x=.pointer (some ⟨r,0,none⟩))(hM:iX w g es c)(hD:bL ek ev D es c)(hT:sK ek ev D es seen dn rs)
 (h:∀b kv vv seen' u,Mem w0 u (is.set k (iI r g c seen'))→alI ek ev D es dn rs b seen'→au P ops Q rest (Fr (l.set d (Du b kv vv)) ds) u) :
 au P ops Q (Oper.mk (some d) (.next x false) ty pos after none::rest) (Fr l ds) w:=by
 have hI:=m.r k hk;obtain⟨b,kv,vv,seen',w1,hw1,hr,hN⟩:=afO (P:=P) (ty:=ty) hI hM hD hT;refine lY (w':=setBlock w1 r (.mapIter (some g) c seen' c)) (v:=Du b kv vv) (fun o ho hty=>by simp[execOp,ho,cJ,hx,hty,hr]) (h b kv vv seen' _ ?_ hN);have e1:w1.heap=w.heap∧w1.os=w.os∧w1.tape=w.tape∧w1.output=w.output:=by rcases hw1 with rfl | rfl <;> exact⟨rfl,rfl,rfl,rfl⟩
 refine m.put k hk e1.2.1 e1.2.2.1 e1.2.2.2 (by simp[setBlock,e1.1]) (fun b' _ hne=>?_) ?_ (.inl fun _ h=>h)
 · have:b'≠r:=fun e=>hne (by rw[e];rfl)
   simp only[setBlock,e1.1];exact Array.getElem?_setIfInBounds_ne (Ne.symm this)
 · exact jM (w:=w1) (o:=.mapIter (some g) c seen c) (by rw[e1.1];exact hI)
theorem abf{r:Nat}{seen:Array Nat}{dn rs:List (K × V)}{k:K}{v:V}(hx:Go.Lith.ev l x=.pointer (some ⟨r,0,none⟩))(hI:rG w r g c seen c)(hM:iX w g es c)(hD:bL ek ev D es c)(hT:wR ek ev D es seen dn k v rs) :
 yR P l (.entry x) ty (.tuple #[ek k,ev v]) w:=fun o ho _=>by
 have:=ac0 (P:=P) hI hM hD hT;simp[execOp,ho,cJ,hx,this]
theorem ajB{a:K}{va:V}{T2:an}{seen:Array Nat}{dn rs:List (K × V)}(m:Mem w0 w is)(k:Nat)(hk:is[k]? = some (mI g es c))(hu:P.underlying M=some (.map T E))(kt:rY P T ek)(hx:Go.Lith.ev l x=.map (some g))(hy:Go.Lith.ev l y=ek a)(hD:bL ek ev D es c)
 (hn:(D.map (·.1)).Nodup) (hT:wR ek ev D es seen dn a va rs) {a0:Array an} (ha:a0 = #[M,T2])
 (h:∀es' u,Mem w0 u (is.set k (mI g es' c))→bL ek ev (Aq D a) es' c→sK ek ev (Aq D a) es' seen dn rs→au P ops Q rest (Fr l ds) u):au P ops Q (Oper.mk none (.call { callee:=.builtin .delete,args:=#[x,y],argTypes:=a0 }) ty pos after none::rest) (Fr l ds) w:=by
 subst ha;have hM:=m.p k hk;have hC:=fun es' c'=>pO (w:=w) (g:=g) (.map es' c');refine ak0 fun o ho=>?_;obtain⟨es',hr,hD',hT'⟩:=abd (T2:=T2) (ty:=o.type) hu kt hM hD hn hT;exact⟨.tuple #[],setBlock w g (.map es' c),by simp[execOp,ho,resolve,invoke,builtin,cJ,hx,hy,hr],h es' _ (m.put k hk (hC es' c).os (hC es' c).tape (hC es' c).output (by rw[(hC es' c).size];exact av _) (fun b _ hne=>(hC es' c).block b fun e=>hne (by rw[e];rfl)) (jM hM) (.inl fun _ h=>h)) hD' hT'⟩
theorem ajC{v va:V}{a:K}{seen:Array Nat}{dn rs:List (K × V)}(m:Mem w0 w is)(k:Nat)(hk:is[k]? = some (mI g es c))(hu:P.underlying M=some (.map T E))(kt:rY P T ek)(hx:Go.Lith.ev l x=.map (some g))(hy:Go.Lith.ev l y=ek a)(hz:Go.Lith.ev l z=ev v)(hD:bL ek ev D es c)
 (hn:(D.map (·.1)).Nodup) (hT:wR ek ev D es seen dn a va rs)
 (h:∀es' u,Mem w0 u (is.set k (mI g es' c))→bL ek ev (fG D a v) es' c→sK ek ev (fG D a v) es' seen (dn++[(a,v)]) rs→au P ops Q rest (Fr l ds) u):au P ops Q (Oper.mk none (.mapUpdate M x y z) ty pos after none::rest) (Fr l ds) w:=by
 have hM:=m.p k hk;obtain⟨es',hr,hD',hT'⟩:=abe hu kt hM hD hn hT v;have hC:=pO (w:=w) (g:=g) (.map es' c);refine Fu (w':=setBlock w g (.map es' c)) (fun o ho=>by simp[execOp,ho,cJ,hx,hy,hz,hr]) (h es' _ ?_ hD' hT');exact m.put k hk hC.os hC.tape hC.output (by rw[hC.size];exact av _) (fun b _ hne=>hC.block b fun e=>hne (by rw[e];rfl)) (jM hM) (.inl fun _ h=>h)
end
end Go.Lith
namespace Go.Proofs.YtfekpcimgncioaaGreatDoor
open Go.Proofs.Tryz
open Go.RowKit Go.Lith
set_option maxRecDepth 100000
attribute [local irreducible] au wpQuiet fR bO cO Code.wp
attribute [local congr] pL fX fY fZ gA gB kI gC gD gE gF gG gH gI gJ gK gL gM eS eT gN gQ gS gT gU kK dC dD cR dB gR kJ eV eW eX gW gX kL
theorem ajD:rY prog 56 ed:=by
 refine rY.agg (cs:=fun p=>#[.int .i64 p.1.x,.int .i64 p.1.y,.int .i64 p.1.z,.int .i64 p.2.x,.int .i64 p.2.y,.int .i64 p.2.z]) (fun _=>rfl) Dp (fun e p=>?_) (fun p q=>?_) (fun p=>?_)
 · refine vR.array (d:=9999) Dp aA fun i hi=>?_
   obtain rfl | rfl:=(by omega:i=0∨i=1)
   · refine⟨_,cQ aG aA rfl,?_⟩
     refine vR.struct (d:=9998) fJ fun f hf=>?_;simp only[ao,bz,or_false] at hf;rcases hf with rfl | rfl | rfl
     · exact⟨_,cW bE rfl,vR.int (d:=9997) iW⟩
     · exact⟨_,cW bE rfl,vR.int (d:=9997) iW⟩
     · exact⟨_,cW bE rfl,vR.int (d:=9997) iW⟩
   · refine⟨_,cQ aG aA rfl,?_⟩
     refine vR.struct (d:=9998) fJ fun f hf=>?_;simp only[ao,bz,or_false] at hf;rcases hf with rfl | rfl | rfl
     · exact⟨_,cW bE rfl,vR.int (d:=9997) iW⟩
     · exact⟨_,cW bE rfl,vR.int (d:=9997) iW⟩
     · exact⟨_,cW bE rfl,vR.int (d:=9997) iW⟩
 · exact (agv _).iff ⟨fun h=>Prod.ext (P3.eq h.1 h.2.1 h.2.2.1) (P3.eq h.2.2.2.1 h.2.2.2.2.1 h.2.2.2.2.2),fun h=>by subst h;simp only[and_self]⟩
 · simp[ed,Instr.sameBits]
theorem asP:nY prog 95 (W 0):=by rw[Wh];exact xA
theorem aei:nY prog 97 (qV q0):=by rw[←zqV];exact ajW
def pX(D:List (E3 × Int))(Q:P3→List Int):Prop:=∀k v,cI D k=some v→v=sG Q k.1 k.2
theorem pX.put{D:List (E3 × Int)}{Q:P3→List Int}(h:pX D Q)(p q:P3):pX (fG D (p,q) (sG Q p q)) Q:=fun k v hv=>by
 rw[lW] at hv;split at hv
 · rename_i e;cases e;cases hv;rfl
 · exact h k v hv
structure QOK(Dq:List (P3 × List Int))(Q:P3→List Int)(B:Nat):Prop where
 get:∀x,(cI Dq x).getD q0=Q x
 len:∀x,(Q x).length=10
 bd:∀x,Fc B (Q x)
theorem aqy{w0 w:aj}{R0:It}{g60 g61 q60 q61 c60 c61 B:Nat}{es60 es61:Array b_}{Dc:List (E3 × Int)}{Dq:List (P3 × List Int)}{Q:P3→List Int}{p q:P3}[I3 p][I3 q](m:Mem w0 w [bI g60 [.map (some q60)] 100,bI g61 [.map (some q61)] 93,mI q60 es60 c60,mI q61 es61 c61,R0])(hD60:bL ed W Dc es60 c60)(hD61:bL pt qV Dq es61 c61)(hC:pX Dc Q)(hnC:(Dc.map (·.1)).Nodup)(hQ:QOK Dq Q B)(hB:B≤800000):yQ prog 59 [pt p,pt q,.pointer (some ⟨g60,0,none⟩),.pointer (some ⟨g61,0,none⟩)] w fun v w'=>∃(es:Array b_) (c:Nat) (D:List (E3 × Int)),v=W (sG Q p q)∧Mem w0 w' [bI g60 [.map (some q60)] 100,bI g61 [.map (some q61)] 93,mI q60 es c,mI q61 es61 c61,R0]∧bL ed W D es c∧pX D Q∧(D.map (·.1)).Nodup:=by
 refine⟨arj,?_⟩;obtain rfl:(fun x=>(cI Dq x).getD q0)=Q:=funext hQ.get;have hlp:((cI Dq p).getD q0).length=10:=hQ.len p;have hlq:((cI Dq q).getD q0).length=10:=hQ.len q;have hbp:Fc B ((cI Dq p).getD q0):=hQ.bd p;have hbq:Fc B ((cI Dq q).getD q0):=hQ.bd q
 go_enter func59,ntmps59
 refine eC 12 [3,2,1,0] m ?_;simp only[↓aD,↓eQ,mR,Xf,aO,Dz,aa];intro g71 g72 g73;intro u m;refine fF (Ts (ek:=ed) (en:=W) (k:=(p,q)) (v0:=0) underlying100 asP ajD rfl rfl (m.p 5 rfl) hD60) ?_;simp only[zz];refine aS 13 [0,0] m ?_;simp only[↓aD,↓eQ,mR,fC,aa];intro g74;intro u m;refine cN rfl (fun hc1=>?_) (fun hc1=>?_)
 · skip
   refine aW 1 [0] m ?_;simp only[↓aD];intro u m;refine dA m 9 aB (by kernel_rfl) ?_;simp only[zy];refine ql rfl (fun u m=>((m.b 5 rfl).lies1 ago rfl)) ?_;simp only[zz];refine ql rfl (fun u m=>((m.b 3 rfl).full aG aA)) ?_;simp only[zz];refine jY (fun u m=>dZ (ek:=pt) (en:=qV) (k:=p) (v0:=q0) No aei fT rfl rfl (m.p 7 rfl) hD61) ?_;simp only[zz];refine ql rfl (fun u m=>((m.b 5 rfl).lies1 ago rfl)) ?_;simp only[zz];refine ql rfl (fun u m=>((m.b 2 rfl).full aG aA)) ?_;simp only[zz];refine jY (fun u m=>dZ (ek:=pt) (en:=qV) (k:=q) (v0:=q0) No aei fT rfl rfl (m.p 7 rfl) hD61) ?_;simp only[zz];refine eR rfl rfl (acT hlp hlq hbp hbq (by omega)) ?_;simp only[zz];refine ql rfl (fun u m=>((m.b 2 rfl).full aG aA)) ?_;simp only[zz];refine eR rfl rfl (asN (Ms hbp hbq) (kW hlp hlq) (by omega)) (bD ?_);clear m;intro u m;simp only[zz];refine bR m 0 rfl rfl rfl aP (iS rfl) rfl ?_;clear m;intro u m;simp only[zy,zx,cA,zF,zG,aa] at m;refine aK (cP 6 [4,3,2,0,0] m ?_);simp only[↓aD,↓eQ,Xf,aO,Dz,fC,aa];intro u m;refine mY (ek:=ed) (en:=W) (a:=(p,q)) (v:=(sG (fun x=>(cI Dq x).getD q0) p q)) m 6 rfl underlying100 ajD rfl rfl rfl hD60 ?_;clear m;intro es60 c60 u m hD';clear hD60;have hD60:=hD';clear hD';simp only[zF,zG] at m;refine aS 7 [0,1] m ?_;simp only[↓aD,↓eQ,fC,aa];intro u m;exact aR rfl ⟨_,rfl,((m.b 1 rfl).full cL aP)⟩ (⟨_,rfl,_,_,_,rfl,m.sel [false,false,false,false,true,true,true,true,true],hD60,hC.put p q,tP hnC _ _⟩)
 · skip
   obtain⟨y,hy⟩:∃y,cI Dc (p,q)=some y:=Option.isSome_iff_exists.1 (by simpa using hc1);obtain rfl:=hC _ _ hy;simp only[hy,Option.getD_some] at m;refine aW 7 [0,1] m ?_;simp only[↓aD,↓eQ,fC,aa];intro u m;exact aR rfl ⟨_,rfl,((m.b 1 rfl).full cL aP)⟩ (⟨_,rfl,_,_,_,rfl,m.sel [false,false,false,false,true,true,true,true,true],hD60,hC,hnC⟩)
theorem ajE{K V:Type}[DecidableEq K]{ek:K→ah}{ev:V→ah}{D dn rs:List (K × V)}{es:Array b_}{b:Bool}{sn:Array Nat}(hb:b=false)(h:alI ek ev D es dn rs b sn):rs=[]:=by
 rcases h with ⟨_,h⟩ | ⟨h,_⟩
 · exact h
 · rw[h] at hb;cases hb
theorem ajF{K V:Type}[DecidableEq K]{ek:K→ah}{ev:V→ah}{D dn rs:List (K × V)}{es:Array b_}{b:Bool}{sn:Array Nat}(hb:b=true)(h:alI ek ev D es dn rs b sn):∃k v rs',rs.Perm ((k,v)::rs')∧wR ek ev D es sn dn k v rs':=by
 rcases h with ⟨h,_⟩ | ⟨_,h⟩
 · rw[h] at hb;cases hb
 · exact h
theorem afP(a b:P3):decide (a.x=b.x∧a.y=b.y∧a.z=b.z)=decide (a=b):=decide_eq_decide.2 ⟨fun h=>P3.eq h.1 h.2.1 h.2.2,fun h=>by rw[h];exact⟨rfl,rfl,rfl⟩⟩
def ajG(v:P3)(k:E3):Bool:=decide (k.1=v)||decide (k.2=v)
theorem ajH{k:E3}{x:Int}{cc:lE}{g16:Nat}(w:aj)(hB16:fK w g16 (sD cc) 112):dJ prog 67 [ed k,W x,.pointer (some ⟨g16,0,none⟩)] w (fun v _=>v=.bool (ajG cc.v k)):=by
 refine⟨ars,?_⟩;have m:=Mem.refl w
 go_enter func67,ntmps67
 refine eC 11 [1,0] m ?_;simp only[↓aD,↓eQ,Px,aO,uE,ad,ag,aa];intro g1 g2;refine⟨by omega,?_⟩;intro u m;refine aQ rfl ((hB16.ext m.ext).lies aG aA rfl rfl) ?_;simp only[zz,zy,ar,aa,ag,ad];refine aC (bW rfl rfl) (aS 1 [0] m ?_);simp only[↓aD];intro u m;refine bC rfl (fun hb=>aI Dp aA rfl rfl (by decide) (by decide) rfl) ?_;simp only[zz];refine bS rfl (fun hb=>aU (aV hb rfl) ((m.b 1 rfl).lies aG aA rfl rfl)) ?_;simp only[zz,zy,ar,aa,ag,ad];refine bC rfl (fun hb=>aT (c:=2) wZ rfl aA rfl rfl) ?_;simp only[zz];refine bS rfl (fun hb=>aU (aV hb rfl) ((hB16.ext m.ext).lies aG aA rfl rfl)) ?_;simp only[zz,zy,ar,aa,ag,ad];refine bC rfl (fun hb=>bW (aV hb rfl) (aV hb rfl)) (aC (cF rfl rfl rfl) ?_);refine aS 3 [] m ?_;simp only[↓aD];intro u m;refine aR rfl rfl ?_;try simp only[zD,zE]
 exact⟨_,rfl,m.ext,by rw[afP,afP];rfl⟩
theorem ajI{w0 w:aj}{R0:It}{g16 q60 c60:Nat}{es60:Array b_}{D0:List (E3 × Int)}{cc:lE}(m:Mem w0 w [mI q60 es60 c60,bI g16 (sD cc) 112,R0])(hD60:bL ed W D0 es60 c60)(hn0:(D0.map (·.1)).Nodup):yQ prog 66 [.map (some q60),.func (.func 67) #[] #[.pointer (some ⟨g16,0,none⟩)]] w fun v w'=>∃(es:Array b_) (D:List (E3 × Int)),v=.tuple #[]∧Mem w0 w' [mI q60 es c60,bI g16 (sD cc) 112,R0]∧bL ed W D es c60∧(D.map (·.1)).Nodup∧∀k v,cI D k=some v→cI D0 k=some v∧ajG cc.v k=false:=by
 refine⟨arq,?_⟩
 go_enter func66,ntmps66
 refine eC 3 [0] m ?_;simp only[↓aD];intro u m;refine vJ m underlying100 rfl (m.p 0 rfl) ?_;clear m;intro r1 u m;refine aS 2 [0] m ?_;simp only[↓aD];intro u m;refine cE [] [4,5,8,9,10,11,12,13,14,15,16,17,18] (fun n vs wl=>∃(D dn rs:List (E3 × Int)) (sn:Array Nat) (es:Array b_),vs=[]∧Mem w0 wl [iI r1 q60 c60 sn,mI q60 es c60,bI g16 (sD cc) 112,R0]∧(bL ed W D es c60)∧((D.map (·.1)).Nodup)∧(sK ed W D es sn dn rs)∧(∀x∈dn,ajG cc.v x.1=false)∧(∀k v,cI D k=some v→cI D0 k=some v)∧(n=rs.length)) ?_ ?_
 · skip
   apply Exists.intro;simp only[zQ,zR,zD,zE];exact⟨D0,[],D0,#[],es60,trivial,m,hD60,hn0,sK.start hD60,(fun x h=>(by cases h)),(fun _ _ h=>h),rfl⟩
 · intro n vs wr hI u K1 hK1
   clear m;obtain⟨D,dn,rs,sn,es60,rfl,m,hD60,hnD,hT,hb0,hs0,hn⟩:=hI;simp only[zu,zF,zG];refine aW 2 [0] m ?_;simp only[↓aD];intro u m;refine ajA m 0 rfl rfl (m.p 1 rfl) hD60 hT ?_;clear m;intro bb kk vv sn u m hN;simp only[zF,zG] at m;refine aC (pP rfl) (aS 2 [0] m ?_);simp only[↓aD];intro u m;refine cN rfl (fun hc1=>?_) (fun hc1=>?_)
   · skip
     obtain⟨kp,kb,rs2,hp,hT2⟩:=ajF hc1 hN;refine aW 4 [0] m ?_;simp only[↓aD];intro u m;refine fF (abf rfl (m.r 0 rfl) (m.p 1 rfl) hD60 hT2) ?_;simp only[zz];refine aS 12 [1,0,1,0,0] m ?_;simp only[↓aD,↓eQ,Up,mR,Dy,fC,aa];intro g72 g73;intro u m;refine cU m rfl rfl (ajH (k:=kp) (x:=kb) _ (m.b 4 rfl)) ?_;clear m;rintro v u m rfl;refine aS 1 [0] m ?_;simp only[↓aD];intro u m;refine cN rfl (fun hc2=>?_) (fun hc2=>?_)
     · skip
       refine aW 3 [1,0] m ?_;simp only[↓aD,↓eQ,Dy];intro u m;refine ajB (ek:=ed) (ev:=W) (a:=kp) m 3 rfl underlying100 ajD rfl rfl hD60 hnD hT2 rfl ?_;clear m;intro es60 u m hD' hT';clear hD60;have hD60:=hD';clear hD';simp only[zF,zG] at m;refine aS 2 [0] m ?_;simp only[↓aD];intro u m;refine hK1 rs2.length _ _ ?_ ?_ ?_
       · rw[hn,hp.length_eq];exact el _
       · simp only[zz,zv]
       · simp only[zQ,zR,zD,zE]
         exact⟨Aq D kp,dn,rs2,_,_,trivial,(m.sel [false,false,true,true,true,true]),hD60,abQ hnD kp,hT',hb0,(fun k v h=>hs0 k v (by rw[Tq _ _ hnD] at h;split at h;cases h;exact h)),rfl⟩
     · skip
       refine aW 2 [0] m ?_;simp only[↓aD];intro u m;refine hK1 rs2.length _ _ ?_ ?_ ?_
       · rw[hn,hp.length_eq];exact el _
       · simp only[zz,zv]
       · simp only[zQ,zR,zD,zE]
         exact⟨D,dn++[(kp,kb)],rs2,_,_,trivial,(m.sel [false,false,true,true,true,true]),hD60,hnD,hT2.stay,(fun x hx=>(bt.1 hx).elim (hb0 x) fun h=>(by rw[bf.1 h];exact hc2)),hs0,rfl⟩
   · skip
     obtain rfl:=ajE hc1 hN;refine aW 1 [0] m ?_;simp only[↓aD];intro u m;exact Sx rfl (⟨_,rfl,_,D,rfl,m.sel [false,true,true,true],hD60,hnD,fun k v h=>⟨hs0 k v h,hb0 (k,v) (hT.done.mem_iff.2 (As h))⟩⟩)
end Go.Proofs.YtfekpcimgncioaaGreatDoor
namespace Go.Proofs.YtfekpcimgncioaaGreatDoor
open Go.Proofs.Tryz
open Go.RowKit Go.Lith
set_option maxRecDepth 100000
attribute [local irreducible] au wpQuiet fR bO cO Code.wp
theorem alK{B:Nat}{Q:P3→List Int}(hl:∀x,(Q x).length=10)(hb:∀x,Fc B (Q x))(hB:B≤800000)(u:P3){v:P3}(hv:I3 v):Bd 900000 (sG Q u v):=by
 unfold sG;rw[←ahC (kW (hl u) (hl v))];exact (acg (Ms (hb u) (hb v)) (kW (hl u) (hl v)) (bd4 hv) rfl 10 (av _)).mono (by omega)
theorem QOK.upd{Dq:List (P3 × List Int)}{Q:P3→List Int}{B:Nat}(h:QOK Dq Q B)(u v:P3):QOK (fG Dq v (Di (Q u) (Q v))) (Xa Q u v) (B+1) where
 get x:=by
  rw[lW];unfold Xa;by_cases e:v=x
  · rw[if_pos e,if_pos e.symm];rfl
  · rw[if_neg e,if_neg fun k=>e k.symm];exact h.get x
 len x:=by
  unfold Xa;split
  · exact kW (h.len u) (h.len v)
  · exact h.len x
 bd x:=by
  unfold Xa;split
  · exact Ms (h.bd u) (h.bd v)
  · exact (h.bd x).mono (Nat.le_succ B)
theorem QOK.mono{Dq:List (P3 × List Int)}{Q:P3→List Int}{B C:Nat}(h:QOK Dq Q B)(hB:B≤C):QOK Dq Q C:=⟨h.get,h.len,fun x=>(h.bd x).mono hB⟩
theorem pX.upd{D D1:List (E3 × Int)}{Q:P3→List Int}{u v:P3}(h:pX D Q)(h1:∀k x,cI D1 k=some x→cI D k=some x∧ajG v k=false):pX D1 (Xa Q u v):=fun k x hx=>by
 obtain⟨h2,h3⟩:=h1 k x hx;rw[h k x h2];simp only[ajG,fz,decide_eq_false_iff_not] at h3;unfold sG Xa;rw[if_neg h3.1,if_neg h3.2]
theorem pX.nil(Q:P3→List Int):pX [] Q:=fun _ _ h=>by cases h
/-! ### The quadrics of the corners -/
def Im(l:List T3)(S:List P3)(Dq:List (P3 × List Int)):Prop:=∀x,(cI Dq x).getD q0=if x∈S then vM l x else q0
theorem Im.nil(l:List T3):Im l [] []:=fun _=>rfl
theorem Im.put{l:List T3}{ps:List P3}{k:Nat}{p:P3}{Dq:List (P3 × List Int)}(h:Im l (ps.take k) Dq)(hp:ps[k]? = some p):Im l (ps.take (k+1)) (fG Dq p (vM l p)):=fun x=>by
 rw[lW,bX hp];by_cases e:p=x
 · subst e
   rw[if_pos rfl,if_pos (fv _ (bf.2 rfl))];rfl
 · rw[if_neg e,h x]
   have:x∈ps.take k++[p]↔x∈ps.take k:=by
    rw[bt,bf];exact⟨fun h=>h.resolve_right fun k=>e k.symm,.inl⟩
   simp only[this]
theorem ajJ{l:List T3}{p:P3}(h:p∉dK l):vM l p=q0:=by
 unfold vM;rw[List.filter_eq_nil_iff.2 fun t ht hp=>h (tZ ht hp)];rfl
theorem Im.ok{l:List T3}{ps:List P3}{Dq:List (P3 × List Int)}(h:Im l ps Dq)(hps:∀a,a∈ps↔a∈dK l)(hI:∀t∈l,IT t):QOK Dq (vM l) (602+l.length) where
 get x:=by
  rw[h x];split
  · rfl
  · rename_i e;rw[ajJ fun k=>e ((hps x).2 k)]
 len x:=by have:=yH (ts:=l) (p:=x) l.length (av _);rwa [ew] at this
 bd x:=by have:=Yl (p:=x) hI l.length (av _);rwa [ew] at this
theorem Ni{l:List T3}(hI:∀t∈l,IT t){p:P3}(h:p∈dK l):I3 p:=by
 obtain⟨t,ht,hp⟩:=List.mem_flatMap.1 (show p∈l.flatMap fun t=>[t.a,t.b,t.c] from h);have:=hI t ht;simp only[ao,bz,or_false] at hp;rcases hp with rfl | rfl | rfl
 · exact this.a
 · exact this.b
 · exact this.c
theorem ac1{l:List T3}{p q:P3}(h:Mg l p q=true):p∈dK l∧q∈dK l:=by
 simp only[Mg,be,Se,List.any_eq_true] at h;obtain⟨_,t,ht,h⟩:=h;exact⟨tZ ht h.1,tZ ht h.2⟩
/-! ### Candidates -/
def Dn(l:List T3)(Q:P3→List Int)(S:List P3)(cs:List lE):Prop:=∀d,d∈cs↔d.u∈S∧Dw (bF l) d.u=false∧Mg l d.u d.v=true∧d.c=sG Q d.u d.v
def ac2(l:List T3)(Q:P3→List Int)(S:List P3)(p:P3)(S2:List P3)(cs:List lE):Prop:=∀d,d∈cs↔(d.u∈S∧Dw (bF l) d.u=false∧Mg l d.u d.v=true∧d.c=sG Q d.u d.v)∨(d.u=p∧d.v∈S2∧d.c=sG Q d.u d.v)
theorem Dn.nil(l:List T3)(Q:P3→List Int):Dn l Q [] []:=fun d=>by simp
theorem Dn.skip{l:List T3}{Q:P3→List Int}{S:List P3}{cs:List lE}{p:P3}(h:Dn l Q S cs)(hb:Dw (bF l) p=true):Dn l Q (S++[p]) cs:=fun d=>by
 rw[h d];constructor
 · rintro⟨h1,h2⟩;exact⟨gm _ h1,h2⟩
 · rintro⟨h1,h2,h3⟩
   rcases bt.1 h1 with h1 | h1
   · exact⟨h1,h2,h3⟩
   · rw[bf.1 h1,hb] at h2;cases h2
theorem Dn.start{l:List T3}{Q:P3→List Int}{S:List P3}{cs:List lE}(h:Dn l Q S cs)(p:P3):ac2 l Q S p [] cs:=fun d=>by rw[h d];simp
theorem ac2.put{l:List T3}{Q:P3→List Int}{S S2:List P3}{cs:List lE}{p q:P3}(h:ac2 l Q S p S2 cs):ac2 l Q S p (S2++[q]) (cs++[⟨p,q,sG Q p q⟩]):=fun d=>by
 rw[bt,h d,bt,bf,bf];constructor
 · rintro ((h1 | ⟨h1,h2,h3⟩) | rfl)
   · exact .inl h1
   · exact .inr ⟨h1,.inl h2,h3⟩
   · exact .inr ⟨rfl,.inr rfl,rfl⟩
 · rintro (h1 | ⟨h1,h2 | h2,h3⟩)
   · exact .inl (.inl h1)
   · exact .inl (.inr ⟨h1,h2,h3⟩)
   · refine .inr ?_
     obtain⟨du,dv,dc⟩:=d;simp only at h1 h2 h3;subst h1;subst h2;subst h3;rfl
theorem ac2.done{l:List T3}{Q:P3→List Int}{S S2:List P3}{cs:List lE}{p:P3}(h:ac2 l Q S p S2 cs)(hb:Dw (bF l) p=false)(hS:∀x,x∈S2↔Mg l p x=true):Dn l Q (S++[p]) cs:=fun d=>by
 rw[h d,bt,bf];constructor
 · rintro (⟨h1,h2⟩ | ⟨h1,h2,h3⟩)
   · exact⟨.inl h1,h2⟩
   · rw[hS] at h2;subst h1;exact⟨.inr rfl,hb,h2,h3⟩
 · rintro⟨h1 | h1,h2,h3,h4⟩
   · exact .inl ⟨h1,h2,h3,h4⟩
   · refine .inr ⟨h1,?_,h4⟩;rw[hS,←h1];exact h3
theorem Dn.all{l:List T3}{Q:P3→List Int}{S:List P3}{cs:List lE}(h:Dn l Q S cs)(hS:∀x,x∈S↔x∈dK l)(d:lE):d∈cs↔d∈ace l Q:=by
 rw[h d,akK,hS];exact⟨fun h=>h.2,fun h=>⟨(ac1 h.2.1).1,h⟩⟩
/-! ### The moves -/
def Bu(S:List P3)(u v:P3)(D:List Mv):List Mv:=D.map fun e=>(e.1,if e.1∈S then rU u v e.2 else e.2)
theorem abg(u v:P3)(D:List Mv):Bu [] u v D=D:=by simp[Bu]
theorem Dd(S:List P3)(u v:P3)(D:List Mv):(Bu S u v D).map (·.1)=D.map (·.1):=by simp[Bu,Function.comp_def]
theorem ajK{S:List P3}{u v:P3}{D:List Mv}(h:∀e∈D,e.1∈S):fG (Bu S u v D) u v=toF D u v:=by
 unfold Bu toF;rw[il fun e he=>by rw[if_pos (h e he)]]
theorem abh{K V:Type}[DecidableEq K]:∀{D:List (K × V)} {k:K} {x:V},(D.map (·.1)).Nodup→k∈D.map (·.1)→fG D k x=D.map fun e=>(e.1,if e.1=k then x else e.2)
 | [],_,_,_,h=>by cases h
 | e::D,k,x,hn,h=>by
  rw[bi,List.nodup_cons] at hn;by_cases hk:e.1=k
  · subst hk
    have:∀f∈D,((f.1,if f.1=e.1 then x else f.2):K × V)=f:=fun f hf=>by
     rw[if_neg fun k:f.1=e.1=>hn.1 (by rw[←k];exact eu (f:=fun x:K × V=>x.1) hf)]
    simp only[fG,bi,if_pos];rw[il this,List.map_id']
  · have h2:k∈D.map (·.1):=by
     rcases ao.1 h with h | h
     · exact absurd h.symm hk
     · exact h
    simp only[fG,bi,if_neg hk];rw[abh hn.2 h2]
theorem ajL{S:List P3}{u v k x:P3}{D:List Mv}(hn:(D.map (·.1)).Nodup)(hk:(k,x)∈Bu S u v D)(hS:k∉S)(hx:x=u):fG (Bu S u v D) k v=Bu (S++[k]) u v D:=by
 have hk1:k∈(Bu S u v D).map (·.1):=eu (f:=(·.1)) hk;rw[abh (by rw[Dd];exact hn) hk1];unfold Bu at hk ⊢;obtain⟨e,he,h⟩:=df.1 hk;cases h;rw[if_neg hS] at hx;rw[List.map_map];refine il fun f hf=>?_;simp only[Function.comp_apply];by_cases hfe:f.1=e.1
 · have:f=e:=by
    obtain⟨i,hi⟩:=cv.1 hf;obtain⟨j,hj⟩:=cv.1 he;have h1:i=j:=Rq hn (k:=e.1) (v:=f.2) (u:=e.2) (by rw[hi,←hfe]) hj;rw[h1,hj] at hi;exact (dq hi).symm
   subst this;rw[if_pos rfl,if_pos (fv S (bf.2 rfl))];unfold rU;rw[if_pos hx]
 · rw[if_neg hfe]
   have:f.1∈S++[e.1]↔f.1∈S:=by simp[hfe]
   simp only[this]
theorem afQ{S:List P3}{u v k x:P3}{D:List Mv}(hn:(D.map (·.1)).Nodup)(hk:(k,x)∈Bu S u v D)(hS:k∉S)(hx:x≠u):Bu S u v D=Bu (S++[k]) u v D:=by
 unfold Bu at hk ⊢;obtain⟨e,he,h⟩:=df.1 hk;cases h;rw[if_neg hS] at hx;refine il fun f hf=>?_;by_cases hfe:f.1=e.1
 · have:f=e:=by
    obtain⟨i,hi⟩:=cv.1 hf;obtain⟨j,hj⟩:=cv.1 he;have h1:i=j:=Rq hn (k:=e.1) (v:=f.2) (u:=e.2) (by rw[hi,←hfe]) hj;rw[h1,hj] at hi;exact (dq hi).symm
   subst this;rw[if_neg hS,if_pos (fv S (bf.2 rfl))];unfold rU;rw[if_neg hx]
 · have:f.1∈S++[e.1]↔f.1∈S:=by simp[hfe]
   simp only[this]
theorem ajM{V:Type}{ek:P3→ah}{ev:V→ah}{D dn rs:List (P3 × V)}{es:Array b_}{sn:Array Nat}{k:P3}{x:V}(hn:(D.map (·.1)).Nodup)(h:wR ek ev D es sn dn k x rs):k∉dn.map (·.1)∧(k,x)∈D:=by
 have hp:=h.1.1;refine⟨fun hk=>?_,hp.mem_iff.1 (by simp)⟩;have h1:=(hp.map (·.1)).nodup_iff.2 hn;simp only[cl,bi,ck,dh] at h1;exact (jm.1 h1).2.2 k hk k (by simp) rfl
theorem aqz{D:List Mv}(hn:(D.map (·.1)).Nodup)(u v:P3):((toF D u v).map (·.1)).Nodup:=by
 unfold toF;exact tP (by rw[List.map_map];exact hn) u v
theorem afR{l:List T3}{want:Int}{Q:P3→List Int}{D:List Mv}{c:lE}(hw:0≤want)(h:¬(l.length:Int)≤want)(hb:Dx l Q=some c) :
 qG l.length want l Q D=qG (nJ l c.u c.v).length want (nJ l c.u c.v) (Xa Q c.u c.v) (toF D c.u c.v):=by
 have h1:=wI hb;obtain⟨n,hn⟩:∃n,l.length=n+1:=⟨l.length-1,by omega⟩
 rw[hn]
 conv=>lhs;unfold qG
 rw[if_neg h,hb];exact Uj n _ want _ _ _ (by omega) (av _) hw
theorem abi{l:List T3}{want:Int}{Q:P3→List Int}{D:List Mv}(h:(l.length:Int)≤want∨Dx l Q=none):qG l.length want l Q D=(l,D):=by
 rcases h with h | h
 · exact ahx h
 · cases hl:l.length with
   | zero=>rfl
   | succ n =>
    unfold qG;split
    · rfl
    · rw[h]
theorem aqA{w0 w:aj}{K R0:It}{g50 g90 ga gf N cap ca cf:Nat}{A:Option Addr}{ea ef:Array b_}{D:List (P3 × Hd)}{F:List (P3 × Bool)}{ts:List T3}{cs:List lE}{n1 c1:Nat}{A1:Option Addr}{Q:P3→List Int}{B:Nat}(m:Mem w0 w [oI 112 8 A1 n1 c1 (cs.flatMap sD),bI g50 [.pointer (some ⟨g90,0,none⟩)] 88,K,oI 39 9 A N cap (ts.flatMap aN),R0])(hK:∀u,K.P u→If 109 u g90 ga gf A N cap ea ef ca cf D ts)(hD:Rj ea ef ca cf D F ts)(hnd:∀t∈ts,t.nd=true)(hIT:∀t∈ts,IT t)(hN:ts.length≤1000000)(hl:∀x,(Q x).length=10)(hb:∀x,Fc B (Q x))(hB:B≤800000)(hC:Dn ts Q (D.map (·.1)) cs)(hn1:n1≤100000000) :
 yQ prog 63 [.slice A1 n1 c1,.func (.func 64) #[] #[],.func (.func 65) #[] #[.pointer (some ⟨g50,0,none⟩)]] w fun v w'=>∃(c:lE) (b:Bool),v=.tuple #[Yp c,.bool b]∧Mem w0 w' [bI g50 [.pointer (some ⟨g90,0,none⟩)] 88,K,oI 39 9 A N cap (ts.flatMap aN),R0]∧((b=false∧Dx ts Q=none)∨(b=true∧Dx ts Q=some c∧I3 c.u∧I3 c.v)):=by
 have hall:=hC.all (fun x=>hD.k x);have hI:∀c∈cs,I3 c.u∧I3 c.v:=fun c hc=>by
  have:=ac1 ((hC c).1 hc).2.2.1;exact⟨Ni hIT this.1,Ni hIT this.2⟩
 refine (aqx m hK hD hnd hIT hN hI (fun c hc=>by rw[((hC c).1 hc).2.2.2];exact alK hl hb hB c.u (hI c hc).2) hn1).mono ?_;rintro v w' ⟨h1,⟨rfl,h2⟩ | ⟨c,ys,j,rfl,hys,hso,hc,ha,hq⟩⟩
 · exact⟨⟨⟨0,0,0⟩,⟨0,0,0⟩,0⟩,false,by simp only[Yp,sD,Jf];rfl,h1,.inl ⟨rfl,acP hall h2⟩⟩
 · refine⟨c,true,rfl,h1,.inr ⟨rfl,acO (fun d=>by rw[hys.mem_iff];exact hall d) hso hc ha hq,hI c (hys.mem_iff.1 (bj hc))⟩⟩
end Go.Proofs.YtfekpcimgncioaaGreatDoor
namespace Go.Proofs.YtfekpcimgncioaaGreatDoor
open Go.Proofs.Tryz
open Go.RowKit Go.Lith
set_option maxRecDepth 100000
attribute [local irreducible] au wpQuiet fR bO cO Code.wp
attribute [local congr] pL fX fY fZ gA gB kI gC gD gE gF gG gH gI gJ gK gL gM eS eT gN gQ gS gT gU kK dC dD cR dB gR kJ eV eW eX gW gX kL
theorem ac3{ts:List T3}{N cap:Nat}{A:Option Addr}(w:aj)(hT:bP w A N ts)(hN:N≤300000):dJ prog 57 [.slice A N cap] w (OR 30 3 (fun xs=>∃ps:List P3,xs=ps.flatMap bN∧tR ps∧∀a,a∈ps↔a∈dK ts) w):=by
 refine⟨arh,?_⟩;have m:=Mem.refl w
 go_enter func57,ntmps57
 refine eC 6 [0] m ?_;simp only[↓aD];intro u m;refine lO m ?_;clear m;intro q8 u m;have hD8:=bL.nil (K:=P3) (V:=Bool) pt bw;refine aS 10 [0] m ?_;simp only[↓aD,iU];intro u m;refine cE [11] [5,7,12,13,14,15,16,17,18,19,20,21,22,23] (fun n vs wl=>∃(k:Nat) (es:Array b_) (c:Nat),vs=[.int .i64 (k:Int)]∧Mem w wl [mI q8 es c]∧(bL pt bw (Av [] (dK (ts.take k))) es c)∧(k≤N)∧(n=N-k)) ?_ ?_
 ·
  apply Exists.intro;simp only[zQ,zR,zD,zE];exact⟨0,_,_,rfl,m,hD8,br _,rfl⟩
 ·
  intro n vs wr hI u K1 hK1;clear m;obtain⟨k,es,c,rfl,m,hD8,hk,hn⟩:=hI;simp only[zu,zF,zG];refine aW 5 [0,0] m ?_;simp only[↓aD];intro u m;refine bG rfl (fun hc1=>?_) (fun hc1=>?_)
  ·
   obtain⟨t,ht,_,a,rfl,hrow⟩:=hT.get (i:=k) (by omega);refine aW 5 [0] m ?_;simp only[↓aD];intro u m;refine aC (aF cC aL rfl rfl (by omega) (by omega) (bZ (ai _))) ?_;simp only[zz];refine aQ rfl (((hrow.ext m.ext)).lies bV aL) ?_;simp only[zz];refine aS 22 [0,0,4,1,0] m ?_;simp only[↓aD,kX,dQ,aa];intro g2;refine⟨by omega,?_⟩;intro u m;refine aC (sU rfl rfl) (aS 6 [0,0,0] m ?_);simp only[↓aD,eY,aO,aa];intro g3;intro u m;refine lZ m 2 abu rfl rfl (fun m=>acx (p:=t.a) m 2 rfl hD8) ?_;clear m;rintro v i u m ⟨rfl,es',c',rfl,hD'⟩;simp only[zF,zG] at m;simp only[zz];clear hD8;have hD8:=hD';clear hD';refine aS 18 [1,0] m ?_;simp only[↓aD,ak];refine⟨by omega,?_⟩;intro u m;refine aC (sV rfl rfl) (aS 6 [0,0,0] m ?_);simp only[↓aD,eY,aO,aa];intro g4;intro u m;refine lZ m 3 abu rfl rfl (fun m=>acx (p:=t.b) m 3 rfl hD8) ?_;clear m;rintro v i u m ⟨rfl,es',c',rfl,hD'⟩;simp only[zF,zG] at m;simp only[zz];clear hD8;have hD8:=hD';clear hD';refine aS 18 [1,0] m ?_;simp only[↓aD,ak];refine⟨by omega,?_⟩;intro u m;refine aC (sW rfl rfl) (aS 6 [0,0,0] m ?_);simp only[↓aD,eY,aO,aa];intro g5;intro u m;refine lZ m 4 abu rfl rfl (fun m=>acx (p:=t.c) m 4 rfl hD8) ?_;clear m;rintro v i u m ⟨rfl,es',c',rfl,hD'⟩;simp only[zF,zG] at m;simp only[zz];clear hD8;have hD8:=hD';clear hD';refine aS 19 [2,0] m ?_;simp only[↓aD,ak];refine⟨by omega,?_⟩;intro u m;refine hK1 (N-(k+1)) _ _ ?_ ?_ ?_
   · omega
   · simp only[zz,zv]
   ·
    simp only[zQ,zR,zD,zE];exact⟨k+1,_,_,rfl,(m.sel [false,false,false,false,true]),by rw[abW ht];exact hD8,by omega,rfl⟩
  ·
   have hkN:k=N:=by omega
   rw[hkN,show ts.take N=ts from a_ (by rw[hT.len];exact av _)] at hD8;refine aW 4 [0] m ?_;simp only[↓aD];intro u m;refine bJ rfl rfl (afc _ (m.p 0 rfl) hD8 (by have h1:=Gu (dK ts) [];have h2:=pR ts;have h3:=hT.len;simp only[bu] at h1;omega)) ?_;rintro v u e ⟨A9,n9,cap9,_,rfl,hN,ps,rfl,hps,hso⟩;replace m:=m.newO e hN;clear e hN;refine aS 3 [] m ?_;simp only[↓aD];intro u m;refine aR rfl rfl ?_;try simp only[zD,zE]
   exact⟨_,rfl,m.ext,_,_,_,_,rfl,(m.o 0 rfl),ps,rfl,aeP (hps.nodup_iff.2 (Lj _ _ .nil)) hso,fun a=>by rw[hps.mem_iff,Tt];simp⟩
theorem wS{l:List T3}(h:∀t∈l,IT t):∀t∈dW l,IT t:=fun t ht=>by
 obtain⟨s,hs,rfl⟩:=Va.1 ht;have:=h s hs;unfold dM;split
 · exact⟨this.c,this.a,this.b⟩
 · split
   · exact⟨this.b,this.c,this.a⟩
   · exact this
theorem Vm{ks:List P3}{a:P3}:a∈(fQ [] ks).map (·.1)↔a∈ks:=by rw[tU];simp
theorem afS{ps:List P3}{l:List T3}(h:tR ps)(hm:∀a,a∈ps↔a∈dK l):ps.length≤3*l.length:=by
 have hn:ps.Nodup:=List.Pairwise.imp (fun {a b} (h:P3.Lt a b) (e:a=b)=>P3.lt_irrefl b (by rw[e] at h;exact h)) h;have h1:=ky hn (l₂:=dK l) fun x hx=>(hm x).1 hx;rw[pR] at h1;omega
theorem Dn.perm{l:List T3}{Q:P3→List Int}{dn D:List (P3 × Hd)}{cs:List lE}(h:Dn l Q (dn.map (·.1)) cs)(hp:dn.Perm D):Dn l Q (D.map (·.1)) cs:=fun d=>by rw[h d,(hp.map (·.1)).mem_iff]
theorem amt{D:List Mv}{k:Nat}{p:P3}(h:(yO (D.map (·.1)))[k]? = some p):(mP D)[k]? = some (p,(cI D p).getD ⟨0,0,0⟩):=by
 have hm:p∈D.map (·.1):=(oJ _).mem_iff.1 (bj h);obtain⟨y,hy⟩:∃y,cI D p=some y:=by
  cases hg:cI D p with
  | some y=>exact⟨y,rfl⟩
  | none=>exact absurd hm (oQ.1 hg)
 unfold mP;rw[fj,h,hy];simp[hy]
theorem Vn{ea ef:Array b_}{ca cf:Nat}{D:List (P3 × Hd)}{F:List (P3 × Bool)}{l:List T3}(h:Rj ea ef ca cf D F l):D.length≤3*l.length:=by
 have h1:=ky h.nk (l₂:=dK l) fun x hx=>(h.k x).1 hx;rw[dz,pR] at h1;omega
theorem alL(D:List Mv)(u v:P3):(toF D u v).length≤D.length+1:=by
 have:=uU (D.map fun e=>(e.1,rU u v e.2)) u v;rwa [dz] at this
theorem tG{ts:List T3}{want:Int}{l:List T3}{D:List Mv}(h0:fM true (dW ts)=0)(h:qG (dW ts).length want (dW ts) (vM (dW ts)) []=(l,D)):yP ts want=(l,mP D):=by
 unfold yP;rw[if_neg (by rw[h0];simp),h]
theorem ac4{ts:List T3}{want:Int}(h:¬fM true (dW ts)=0):yP ts want=(dW ts,[]):=by unfold yP;rw[if_pos h]
theorem ac5{ts:List T3}{N cap:Nat}{A:Option Addr}{want:Int}(w:aj)(hT0:bP w A N ts)(hN:N≤2000)(hw:0≤want):dJ prog 24 [.slice A N cap,.int .i64 want] w (fun v w'=>∃A1 n1 c1 A2 n2 c2,v=.tuple #[.slice A1 n1 c1,.slice A2 n2 c2]∧n1=(yP ts want).1.length∧n2=(yP ts want).2.length∧Mem w w' [oI 55 6 A2 n2 c2 ((yP ts want).2.flatMap cT),oI 39 9 A1 n1 c1 ((yP ts want).1.flatMap aN)]):=by
 refine⟨aqY,?_⟩;have m:=Mem.refl w;have htl:=hT0.len;have hcl:=Jt ts;have hit:∀t∈dW ts,IT t:=wS hT0.it;have hN2:(dW ts).length≤2000:=by omega
 go_enter func24,ntmps24
 refine eC 8 [0] m ?_;simp only[↓aD];intro u m;refine bJ rfl rfl (aaF _ (hT0.ext m.ext) (by omega)) ?_;rintro v u e ⟨A1,cap1,n1,hn1,rfl,hN⟩;replace m:=m.newO e hN;clear e hN;obtain rfl:n1=(dW ts).length:=by rw[hcl];exact hn1
 refine aS 6 [0] m ?_;simp only[↓aD];intro u m;refine cU m rfl rfl (xV _ ((m.o 0 rfl).tris hit) (by omega)) ?_;clear m;rintro v u m rfl;refine aS 2 [0,0] m ?_;simp only[↓aD];intro u m;refine bG rfl (fun hc1=>?_) (fun hc1=>?_)
 · skip
   refine aW 6 [] m ?_;simp only[↓aD];intro u m;replace m:=m.nilO 55 6;refine cP 1 [] m ?_;simp only[↓aD];intro u m;refine wU rfl rfl rfl ?_;try simp only[zD,zE]
   exact⟨_,rfl,m.ext,_,_,_,_,_,_,rfl,by rw[ac4 hc1],by rw[ac4 hc1];rfl,by rw[ac4 hc1];exact m.sel [true,true]⟩
 · skip
   have hc0:fM true (dW ts)=0:=by omega
   have hnd:=Rm hc0;refine aW 3 [0] m ?_;simp only[↓aD];intro u m;refine lO m ?_;clear m;intro q61 u m;have hD61:=bL.nil (K:=P3) (V:=List Int) pt qV;refine aS 7 [0,0] m ?_;simp only[↓aD,↓eQ,ar8,adN,aa];intro g2;intro u m;refine bJ rfl rfl (ac3 _ ((m.o 2 rfl).tris hit) (by omega)) ?_;rintro v u e ⟨A3,n3,cap3,_,rfl,hN,ps,rfl,hso,hmem⟩;replace m:=m.newO e hN;clear e hN;obtain rfl:ps.length=n3:=by have:=(m.o 0 rfl).own.1;rw[ag3] at this;omega
   have hpl:ps.length≤10000000:=by have h1:=afS hso hmem;omega
   refine aS 4 [0] m ?_;simp only[↓aD,mQ];intro u m;refine cE [33] [8,34,35,36,37,38,39,40,41,42] (fun n vs wl=>∃(k:Nat) (es:Array b_) (c:Nat) (Dq:List (P3 × List Int)),vs=[.int .i64 (k:Int)]∧Mem w wl [oI 30 3 A3 ps.length cap3 (ps.flatMap bN),bI g2 [.map (some q61)] 93,mI q61 es c,oI 39 9 A1 (dW ts).length cap1 ((dW ts).flatMap aN)]∧(bL pt qV Dq es c)∧(Im (dW ts) (ps.take k) Dq)∧(k≤ps.length)∧(n=ps.length-k)) ?_ ?_
   · skip
     apply Exists.intro;simp only[zQ,zR,zD,zE];exact⟨0,_,_,[],rfl,m,hD61,Im.nil _,br _,rfl⟩
   · intro n vs wr hI u K1 hK1
     clear m;obtain⟨k,es61,c61,Dq,rfl,m,hD61,hq1,hk,hn⟩:=hI;simp only[zu,zF,zG];refine aW 5 [0,0] m ?_;simp only[↓aD];intro u m;refine bG rfl (fun hc2=>?_) (fun hc2=>?_)
     · skip
       obtain⟨p,hp,a3,hA3,hr3⟩:=((m.o 0 rfl).lat (enc:=bN) (fun _=>rfl) (by decide)).get (i:=k) (by omega);subst hA3;refine jF 5 [0] m ?_;simp only[↓aD];rintro u m rfl;refine aC (aF cX aA rfl rfl (by omega) (by omega) (bZ (ai _))) ?_;simp only[zz];refine aQ rfl (show fL _ _ _ _ (pt p) from hr3.lies aG aA) ?_;simp only[zz];refine aS 3 [0,0] m ?_;simp only[↓aD,↓eQ,eY,aO,aa];intro g3;intro u m;refine mh m [true,true,true,false,true] [(2,true),(0,true),(1,true),(3,true),(4,false),(5,false)] aB (by kernel_rfl) (bT (fun _ _ _ _ _ h=>h)) (ol:=?_) ?hol ?_
       case hol=>simp only[zw,zQ,zR];try rfl
       clear m;intro u m;refine Oi 4 [2,0,0] ?_;simp only[↓aD,↓eQ,adN,aO];refine bK (cU m rfl rfl (aqt (p:=p) _ ((m.o 4 rfl).tris hit) (by omega)) ?_);clear m;rintro v u m rfl;refine aK (⟨m.sel [true,true,true,false,true],?_⟩);refine bK ?_;simp only[zz];refine mY (ek:=pt) (en:=qV) (a:=p) (v:=(vM (dW ts) p)) m 3 rfl No fT rfl rfl rfl hD61 ?_;clear m;intro es61 c61 u m hD';clear hD61;have hD61:=hD';clear hD';simp only[zF,zG] at m;refine aK (⟨m.sel [true,true,true,false,true],?_⟩);refine cK (cP 5 [0] m ?_);simp only[↓aD];refine⟨by omega,?_⟩;intro u m;refine hK1 (ps.length-(k+1)) _ _ ?_ ?_ ?_
       · omega
       · simp only[zz,zv]
       · simp only[zQ,zR,zD,zE]
         exact⟨k+1,_,_,_,rfl,(m.sel [false,true,true,true,true]),hD61,hq1.put hp,by omega,rfl⟩
     · skip
       obtain rfl:k=ps.length:=by omega
       rw[a_ (av _)] at hq1;have hQ:=hq1.ok hmem hit;refine aW 3 [0] m ?_;simp only[↓aD];intro u m;refine lO m ?_;clear m;intro q62 u m;have hD62:=bL.nil (K:=P3) (V:=P3) pt pt;refine aS 4 [0] m ?_;simp only[↓aD];intro u m;refine lO m ?_;clear m;intro q60 u m;have hD60:=bL.nil (K:=E3) (V:=Int) ed W;refine aS 5 [0,0] m ?_;simp only[↓aD,↓eQ,aph,Xf,aa];intro g5;intro u m;refine aC fO ?_;simp only[zz,fk,bi,ck];refine aS 4 [0] m ?_;simp only[↓aD];intro u m;refine cE [0] [12,13,14,15,16,17,18,19,46,47,48,49,50,51,52,53,54,55,56,57,58,59,60,61,62,63,64,65,66,67,68,69,70,71,72,73,74,75,76,77,78,79,80,81,82,83,84,85,86,87,88,89,90,91,92,93,94,95,96,97,98,99,100,101,102,103,104,105,106,107,108,109,110,111,112,113,114,115,116,117,118,119,120,121,122,123,124,125,126,127,128,129,130,131,132,133] (fun n vs wl=>∃(l:List T3) (Q:P3→List Int) (A1:Option Addr) (cap1:Nat) (es60 es61 es62:Array b_) (c60 c61 c62:Nat) (Dc:List (E3 × Int)) (Dq:List (P3 × List Int)) (Dm:List Mv),vs=[.slice A1 l.length cap1]∧Mem w wl [bI g5 [.map (some q60)] 100,mI q60 es60 c60,mI q62 es62 c62,bI g2 [.map (some q61)] 93,mI q61 es61 c61,oI 39 9 A1 l.length cap1 (l.flatMap aN)]∧(bL ed W Dc es60 c60)∧(pX Dc Q)∧((Dc.map (·.1)).Nodup)∧(bL pt qV Dq es61 c61)∧(bL pt pt Dm es62 c62)∧(QOK Dq Q (602+2*(dW ts).length-l.length))∧(∀t∈l,IT t)∧(∀t∈l,t.nd=true)∧((Dm.map (·.1)).Nodup)∧(qG (dW ts).length want (dW ts) (vM (dW ts)) []=qG l.length want l Q Dm)∧(l.length+Dm.length≤(dW ts).length)∧(n=l.length)) ?_ ?_
       · skip
         apply Exists.intro;simp only[zQ,zR,zD,zE];exact⟨(dW ts),(vM (dW ts)),_,_,_,_,_,_,_,_,[],_,[],rfl,(m.sel [true,true,true,false,true,true,true]),hD60,pX.nil _,jv,hD61,hD62,hQ.mono (by omega),hit,hnd,jv,rfl,(by simp),rfl⟩
       · intro n vs wr hI u K2 hK2
         clear m;obtain⟨l,Q,A1,cap1,es60,es61,es62,c60,c61,c62,Dc,Dq,Dm,rfl,m,hD60,hC,hnC,hD61,hD62,hQ,hit,hnd,hnM,hS,hle,hn⟩:=hI;simp only[zu,zF,zG];refine aW 8 [0,0] m ?_;simp only[↓aD,iU];intro u m;refine bG rfl (fun hc3=>?_) (fun hc3=>?_)
         · skip
           refine aW 5 [0] m ?_;simp only[↓aD];intro u m;refine bJ rfl rfl (ai5 _ ((m.o 5 rfl).tris hit) hnd (by omega)) ?_;rintro v u e ⟨g90,ga,gf,ea,ef,ca,cf,D,F,K,rfl,hM,hK,hSD⟩;replace m:=m.plus hM;clear hM e;simp only[ci,cd] at m;refine aS 7 [0] m ?_;simp only[↓aD,↓eQ,ar7,adM,aa];intro g6;intro u m;replace m:=m.nilO 112 8;refine cP 6 [1,0] m ?_;simp only[↓aD,↓eQ,adM,Py,aa];intro u m;refine aQ rfl (((hK _ (m.get 2 rfl)).b).lies1 ade rfl) ?_;simp only[zz];refine vJ m underlying106 rfl ((hK _ (m.get 2 rfl)).a) ?_;clear m;intro r1 u m;refine aS 2 [0] m ?_;simp only[↓aD];intro u m;refine cE [13] [14,15,57,58,59,60,61,62,63,64,65,66,67,68,69,70,71,72,73,74,75,76,77,78,79,80,81,82,83,84] (fun n vs wl=>∃(dn rs:List (P3 × Hd)) (sn:Array Nat) (cs:List lE) (A9:Option Addr) (cap9:Nat) (es60:Array b_) (c60:Nat) (Dc:List (E3 × Int)),vs=[.slice A9 cs.length cap9]∧Mem w wl [iI r1 ga ca sn,oI 112 8 A9 cs.length cap9 (cs.flatMap sD),bI g6 [.pointer (some ⟨g90,0,none⟩)] 88,K,bI g5 [.map (some q60)] 100,mI q60 es60 c60,mI q62 es62 c62,bI g2 [.map (some q61)] 93,mI q61 es61 c61,oI 39 9 A1 l.length cap1 (l.flatMap aN)]∧(bL ed W Dc es60 c60)∧(pX Dc Q)∧((Dc.map (·.1)).Nodup)∧(nQ pt Hd.v D ea sn dn rs)∧(Dn l Q (dn.map (·.1)) cs)∧(cs.length≤dn.length*6000)∧(n=rs.length)) ?_ ?_
           · skip
             apply Exists.intro;simp only[zQ,zR,zD,zE];exact⟨[],D,#[],[],_,_,_,_,_,rfl,m,hD60,hC,hnC,(nQ.start hSD.a),(Dn.nil _ _),(br _),rfl⟩
           · intro n vs wr hI u K3 hK3
             clear m;obtain⟨dn,rs,sn,cs,A9,cap9,es60,c60,Dc,rfl,m,hD60,hC,hnC,hT,hCs,hcl3,hn3⟩:=hI;simp only[zu,zF,zG];refine aW 2 [0] m ?_;simp only[↓aD];intro u m;refine Lh m 0 rfl rfl ((hK _ (m.get 3 rfl)).a) hSD.a hT ?_;clear m;intro bb kk vv sn u m hN;simp only[zF,zG] at m;refine aC (pP rfl) (aS 2 [0] m ?_);simp only[↓aD];intro u m;refine cN rfl (fun hc4=>?_) (fun hc4=>?_)
             · skip
               obtain⟨kp,kb,rs2,hp2,hT2⟩:=Gs hc4 hN;have hkp:kp∈D.map (·.1):=eu (f:=(·.1)) (hT2.1.mem_iff.1 (by simp):(kp,kb)∈D);have hTl:=hT2.len;have hkeys:=Vn hSD;rw[aw,ay,bu] at hTl;refine aW 4 [0] m ?_;simp only[↓aD];intro u m;refine fF (sT rfl (m.r 0 rfl) ((hK _ (m.get 3 rfl)).a) hSD.a hT2) ?_;simp only[zz];refine aS 6 [0,0] m ?_;simp only[↓aD,↓eQ,eY,aO,aa];intro g8;intro u m;refine mq m aB (by kernel_rfl) (eM 3 [3] ?_);simp only[↓aD,↓eQ,adM,Pz,aa];refine ql rfl (fun u m=>(((hK _ (m.get 4 rfl)).b).lies1 sQ rfl)) ?_;simp only[zz];refine ql rfl (fun u m=>((m.b 0 rfl).full aG aA)) ?_;simp only[zz];refine jY (fun u m=>dZ (ek:=pt) (en:=bw) (k:=kp) (v0:=false) nE oB fT rfl rfl ((hK _ (m.get 4 rfl)).f) hSD.f) ?_;simp only[zz];refine bD ?_;clear m;intro u m;refine gc (cN rfl (fun hc5=>?_) (fun hc5=>?_))
               · skip
                 rw[hSD.b] at hc5;refine aW 1 [0] m ?_;simp only[↓aD];intro u m;refine hK3 rs2.length _ _ ?_ ?_ ?_
                 · rw[hn3,hp2.length_eq];exact el _
                 · simp only[zz,zv]
                 · simp only[zQ,zR,zD,zE]
                   exact⟨dn++[(kp,kb)],rs2,_,cs,_,_,_,_,_,rfl,(m.sel [false,true,true,true,true,true,true,true,true,true,true]),hD60,hC,hnC,hT2,(by rw[cl];exact hCs.skip hc5),(by rw[aw];simp only[ay,bu];omega),rfl⟩
               · skip
                 rw[hSD.b] at hc5;refine aW 5 [3,0,0] m ?_;simp only[↓aD,↓eQ,adM,aO];intro u m;refine bJ rfl rfl (Xt (p:=kp) _ ((hK _ (m.get 4 rfl)).b) ((hK _ (m.get 4 rfl)).a) hSD.a ((hK _ (m.get 4 rfl)).t) (by omega)) ?_;rintro v u e ⟨qx,esx,cx,rfl,hM,hDx⟩;replace m:=m.plus hM;clear hM e;simp only[ci,cd] at m;simp only[zz];refine vJ m nE rfl (m.p 0 rfl) ?_;clear m;intro r2 u m;refine aS 2 [0] m ?_;simp only[↓aD];intro u m;refine cE [13] [15,71,72,73,74,75,76,77,78,79,80,81,82,83,84] (fun n vs wl=>∃(dn2 rs2:List (P3 × Bool)) (sn2:Array Nat) (cs:List lE) (A9:Option Addr) (cap9:Nat) (es60:Array b_) (c60:Nat) (Dc:List (E3 × Int)),vs=[.slice A9 cs.length cap9]∧Mem w wl [iI r2 qx cx sn2,mI qx esx cx,bI g8 [.int .i64 kp.x,.int .i64 kp.y,.int .i64 kp.z] 30,iI r1 ga ca sn,oI 112 8 A9 cs.length cap9 (cs.flatMap sD),bI g6 [.pointer (some ⟨g90,0,none⟩)] 88,K,bI g5 [.map (some q60)] 100,mI q60 es60 c60,mI q62 es62 c62,bI g2 [.map (some q61)] 93,mI q61 es61 c61,oI 39 9 A1 l.length cap1 (l.flatMap aN)]∧(bL ed W Dc es60 c60)∧(pX Dc Q)∧((Dc.map (·.1)).Nodup)∧(nQ pt bw (fQ [] (nB l kp)) esx sn2 dn2 rs2)∧(ac2 l Q (dn.map (·.1)) kp (dn2.map (·.1)) cs)∧(cs.length≤dn.length*6000+dn2.length)∧(n=rs2.length)) ?_ ?_
                 · skip
                   apply Exists.intro;simp only[zQ,zR,zD,zE];exact⟨[],_,#[],cs,_,_,_,_,_,rfl,m,hD60,hC,hnC,(nQ.start hDx),(hCs.start kp),(by simp only[bu];omega),rfl⟩
                 · intro n vs wr hI u K4 hK4
                   clear m;obtain⟨dn2,rs3,sn2,cs,A9,cap9,es60,c60,Dc,rfl,m,hD60,hC,hnC,hT3,hCi,hcl4,hn4⟩:=hI;simp only[zu,zF,zG];refine aW 2 [0] m ?_;simp only[↓aD];intro u m;refine Lh m 0 rfl rfl (m.p 1 rfl) hDx hT3 ?_;clear m;intro bb kk vv sn u m hN;simp only[zF,zG] at m;refine aC (pP rfl) (aS 2 [0] m ?_);simp only[↓aD];intro u m;refine cN rfl (fun hc6=>?_) (fun hc6=>?_)
                   · skip
                     obtain⟨kq,kv,rs4,hp4,hT4⟩:=Gs hc6 hN;have hnb:Mg l kp kq=true:=rP.1 (Vm.1 (eu (f:=(·.1)) (hT4.1.mem_iff.1 (by simp):(kq,kv)∈fQ [] (nB l kp))));have hT4l:=hT4.len;have hal:=oR (nB l kp) [];have hbl:=Rl l kp;rw[aw,ay,bu] at hT4l;rw[bu] at hal;refine aW 4 [0] m ?_;simp only[↓aD];intro u m;refine fF (sT rfl (m.r 0 rfl) (m.p 1 rfl) hDx hT4) ?_;simp only[zz];refine aS 4 [0] m ?_;simp only[↓aD,↓eQ,eY,aO,aa];intro g10;intro u m;replace m:=m.pull 12 rfl;simp only[dS,dT,zF,zG] at m;replace m:=m.pull 10 rfl;simp only[dS,dT,zF,zG] at m;replace m:=m.pull 12 rfl;simp only[dS,dT,zF,zG] at m;replace m:=m.pull 11 rfl;simp only[dS,dT,zF,zG] at m;refine gc (mh m [true,true,false,true,true,true,true,true,true,false,true,true,true,true] [(0,true),(3,true),(1,true),(2,true),(4,true),(5,true),(6,false),(7,true),(8,false),(9,false),(10,true)] aB (by kernel_rfl) (bT (fun _ _ _ _ _ h=>h)) (ol:=?_) ?hol ?_)
                     case hol=>simp only[zw,zQ,zR];try rfl
                     clear m;intro u m;refine Oi 6 [6,3,6,3] ?_;simp only[↓aD,↓eQ,aO];refine bK ?_;replace m:=m.pack4;refine mF rfl rfl ((haveI:=Ni hit ((hSD.k kp).1 hkp);haveI:=Ni hit (ac1 hnb).2;aqy (p:=kp) (q:=kq) m hD60 hD61 hC hnC hQ (by omega))) ?_;clear m;rintro v u ⟨es60,c60,Dc,rfl,m,hD60,hC,hnC⟩;simp only[zz];replace m:=m.unpack4;refine aK (⟨m.sel [true,true,false,true,true,true,true,true,true,false,true,true,true,true],?_⟩);refine bB (Gc rfl rfl rfl) (bK ?_);simp only[zz];refine acq rfl ?_;intro u g11 e hg hB;replace m:=m.newB e hg hB;clear e hg hB;refine aK (⟨m.sel [false,true,true,false,true,true,true,true,true,true,false,true,true,true,true],?_⟩);refine bK ?_;simp only[zz];refine bQ m 10 rfl rfl underlying105 ajX rfl (by decide) rfl rfl rfl (m.b 0 rfl).rowsO (fW rfl) (by omega) (by omega) ?_;clear m;intro A9 cap9 u m;simp only[zF,zG] at m;rw[show cs.flatMap sD++_=(cs++[⟨kp,kq,sG Q kp kq⟩]:List lE).flatMap sD by rw[ba];rfl] at m;have hll:cs.length+1=(cs++[⟨kp,kq,sG Q kp kq⟩]:List lE).length:=by simp
                     rw[hll] at m;rw[hll];refine aK (⟨m.sel [false,true,true,false,true,true,true,true,true,true,false,true,true,true,true],?_⟩);refine bB aM (cK ?_);simp only[zz];replace m:=m.pull 14 rfl;simp only[dS,dT,zF,zG] at m;replace m:=m.pull 5 rfl;simp only[dS,dT,zF,zG] at m;replace m:=m.pull 4 rfl;simp only[dS,dT,zF,zG] at m;replace m:=m.pull 14 rfl;simp only[dS,dT,zF,zG] at m;replace m:=m.pull 6 rfl;simp only[dS,dT,zF,zG] at m;replace m:=m.pull 6 rfl;simp only[dS,dT,zF,zG] at m;replace m:=m.pull 14 rfl;simp only[dS,dT,zF,zG] at m;replace m:=m.pull 14 rfl;simp only[dS,dT,zF,zG] at m;replace m:=m.pull 14 rfl;simp only[dS,dT,zF,zG] at m;replace m:=m.pull 14 rfl;simp only[dS,dT,zF,zG] at m;replace m:=m.pull 14 rfl;simp only[dS,dT,zF,zG] at m;replace m:=m.pull 14 rfl;simp only[dS,dT,zF,zG] at m;replace m:=m.pull 14 rfl;simp only[dS,dT,zF,zG] at m;replace m:=m.pull 14 rfl;simp only[dS,dT,zF,zG] at m;refine cP 1 [0] m ?_;simp only[↓aD];intro u m;refine hK4 rs4.length _ _ ?_ ?_ ?_
                     · rw[hn4,hp4.length_eq];exact el _
                     · simp only[zz,zv]
                     · simp only[zQ,zR,zD,zE]
                       exact⟨dn2++[(kq,kv)],rs4,_,(cs++[lE.mk kp kq (sG Q kp kq)]),_,_,_,_,_,rfl,(m.sel [false,true,true,true,true,true,true,true,true,true,true,true,true,true,false]),hD60,hC,hnC,hT4,(by rw[cl];exact hCi.put),(by rw[aw,aw];simp only[ay,bu];omega),rfl⟩
                   · skip
                     obtain rfl:=Gr hc6 hN;have hT3l:=hT3.len;have hal:=oR (nB l kp) [];have hbl:=Rl l kp;rw[bu] at hal hT3l;replace hCi:=hCi.done hc5 (fun x=>by rw[←rP];exact ((hT3.done.map (·.1)).mem_iff).trans Vm);refine aW 2 [0] m ?_;simp only[↓aD];intro u m;refine hK3 rs2.length _ _ ?_ ?_ ?_
                     · rw[hn3,hp2.length_eq];exact el _
                     · simp only[zz,zv]
                     · simp only[zQ,zR,zD,zE]
                       exact⟨dn++[(kp,kb)],rs2,_,cs,_,_,_,_,_,rfl,(m.sel [false,false,false,true,true,true,true,true,true,true,true,true,true]),hD60,hC,hnC,hT2,(by rw[cl];exact hCi),(by rw[aw];simp only[ay,bu] at hal ⊢;omega),rfl⟩
             · skip
               obtain rfl:=Gr hc4 hN;have hTl:=hT.len;have hkeys:=Vn hSD;rw[bu] at hTl;have hdn:=hT.done;replace hCs:=hCs.perm hdn;refine aW 4 [0] m ?_;simp only[↓aD];intro u m;refine aC fO ?_;simp only[zz,fk,bi,ck];replace m:=m.pull 9 rfl;simp only[dS,dT,zF,zG] at m;replace m:=m.pull 4 rfl;simp only[dS,dT,zF,zG] at m;replace m:=m.pull 4 rfl;simp only[dS,dT,zF,zG] at m;replace m:=m.pull 4 rfl;simp only[dS,dT,zF,zG] at m;replace m:=m.pack4;refine mF rfl rfl (aqA m hK hSD hnd hit (by omega) hQ.len hQ.bd (by omega) hCs (by omega)) ?_;clear m;rintro v u ⟨c,bb,rfl,m,hbest⟩;simp only[zz];replace m:=m.unpack3;refine aS 1 [0] m ?_;simp only[↓aD];intro u m;refine aC (eZ (v:=Yp c) rfl rfl) ?_;simp only[zz];refine aC (eZ (v:=.bool bb) rfl rfl) ?_;simp only[zz];refine aS 2 [0] m ?_;simp only[↓aD,↓eQ,acj,aci,aa];intro g8;intro u m;refine cP 8 [0] m ?_;simp only[↓aD];intro u m;refine cN rfl (fun hc7=>?_) (fun hc7=>?_)
               · skip
                 have hend:=abi (l:=l) (want:=want) (Q:=Q) (D:=Dm) (.inr (hbest.resolve_right (fun h=>by rw[h.1] at hc7;cases hc7)).2);refine aW 5 [] m ?_;simp only[↓aD];intro u m;replace m:=m.nilO 55 6;refine cP 4 [0] m ?_;simp only[↓aD];intro u m;refine bJ rfl rfl (ajm (q:=q62) _) ?_;rintro v u e ⟨g9,rfl,hg,hB⟩;replace m:=m.newB e hg hB;clear e hg hB;simp only[zz];refine bJ rfl rfl (aa6 _ agc (Ma (m.p 9 rfl) hD62 (m.b 0 rfl)) (fun xs h=>by rw[h.length_eq,dz];exact av _) (by omega)) ?_;rintro v u e ⟨xs,ys,⟨A22,cap22,n22,hn22,rfl,hN⟩,hxs,hys,hso⟩;replace m:=m.newO e hN;clear e hN;obtain rfl:n22=Dm.length:=by rw[hn22,hxs.length_eq,dz]
                 obtain rfl:ys=yO (Dm.map (·.1)):=Re hnM (hys.trans hxs) hso;refine aS 4 [0] m ?_;simp only[↓aD,mQ];intro u m;refine cE [20,138] [22,139,140,141,142,143,144,145,146,147,148,149,150] (fun n vs wl=>∃(k:Nat) (A20:Option Addr) (cap20:Nat),vs=[.slice A20 k cap20,.int .i64 (k:Int)]∧Mem w wl [oI 30 3 A22 Dm.length cap22 ((yO (Dm.map (·.1))).flatMap bN),oI 55 6 A20 k cap20 (((mP Dm).take k).flatMap cT),oI 39 9 A1 l.length cap1 (l.flatMap aN),mI q62 es62 c62]∧(k≤Dm.length)∧(n=Dm.length-k)) ?_ ?_
                 · skip
                   apply Exists.intro;simp only[zQ,zR,zD,zE];exact⟨0,_,_,rfl,(m.sel [true,false,true,false,false,false,true,false,false,false,true,false,false]),br _,rfl⟩
                 · intro n vs wr hI u K5 hK5
                   clear m;obtain⟨k,A20,cap20,rfl,m,hk,hn6⟩:=hI;simp only[zu,zF,zG];refine aW 5 [0,0] m ?_;simp only[↓aD];intro u m;refine bG rfl (fun hc10=>?_) (fun hc10=>?_)
                   · skip
                     obtain⟨k9,hk9,a9,hA9,hr9⟩:=((m.o 0 rfl).lat (enc:=bN) (fun _=>rfl) (by decide)).get (i:=k) (by omega);subst hA9;have hmv:=amt hk9;refine jF 5 [0] m ?_;simp only[↓aD];rintro u m rfl;refine aC (aF cX aA rfl rfl (by omega) (by omega) (bZ (ai _))) ?_;simp only[zz];refine aQ rfl (show fL _ _ _ _ (pt k9) from hr9.lies aG aA) ?_;simp only[zz];refine aS 3 [0,0] m ?_;simp only[↓aD,↓eQ,eY,aO,aa];intro g10;intro u m;refine mh m [true,true,false,true,true] [(0,true),(2,true),(1,true),(3,true),(4,false),(5,true),(6,false),(7,false),(8,true)] aB (by kernel_rfl) (bT (fun _ _ _ _ _ h=>h)) (ol:=?_) ?hol ?_
                     case hol=>simp only[zw,zQ,zR];try rfl
                     clear m;intro u m;refine Oi 4 [0,0] ?_;simp only[↓aD,↓eQ,aO];refine bK (fF (dZ (ek:=pt) (en:=pt) (k:=k9) (v0:=⟨0,0,0⟩) Np iL fT rfl rfl (m.p 4 rfl) hD62) ?_);simp only[zz];refine aK (⟨m.sel [true,true,false,true,true],?_⟩);refine bB (zY rfl rfl) (bK ?_);simp only[zz];refine Kd rfl ?_;intro u g11 e hg hB;replace m:=m.newB e hg hB;clear e hg hB;refine aK (⟨m.sel [false,true,true,false,true,true],?_⟩);refine bK ?_;simp only[zz];refine bQ m 3 rfl rfl underlying46 agl rfl (by decide) rfl rfl rfl (m.b 0 rfl).rowsO (fW rfl) (by omega) (by omega) ?_;clear m;intro A20 cap20 u m;simp only[zF,zG] at m;rw[show ((mP Dm).take k).flatMap cT++_=((mP Dm).take (k+1)).flatMap cT by rw[bX hmv,ba];rfl] at m;refine aK (⟨m.sel [false,true,true,false,true,true],?_⟩);refine bB aM (cK ?_);refine cP 5 [0] m ?_;simp only[↓aD];refine⟨by omega,?_⟩;intro u m;refine hK5 (Dm.length-(k+1)) _ _ ?_ ?_ ?_
                     · omega
                     · simp only[zz,zv]
                     · simp only[zQ,zR,zD,zE]
                       exact⟨k+1,_,_,rfl,(m.sel [false,false,true,true,true,true]),by omega,rfl⟩
                   · skip
                     obtain rfl:k=Dm.length:=by omega
                     rw[show (mP Dm).take Dm.length=mP Dm from a_ (by rw[Cy];exact av _)] at m;refine aW 9 [] m ?_;simp only[↓aD];intro u m;refine wU rfl rfl rfl ?_;try simp only[zD,zE]
                     exact⟨_,rfl,m.ext,_,_,_,_,_,_,rfl,by rw[tG hc0 (hS.trans hend)],by rw[tG hc0 (hS.trans hend)];exact (Cy _).symm,by rw[tG hc0 (hS.trans hend)];exact m.sel [false,true,true,false]⟩
               · skip
                 obtain⟨rfl,hbs,hbI⟩:=hbest.resolve_left (fun h=>by rw[h.1] at hc7;cases hc7);have hlu:((cI Dq c.u).getD q0).length=10:=by rw[hQ.get];exact hQ.len _
                 have hbu:Fc (602+2*(dW ts).length-l.length) ((cI Dq c.u).getD q0):=by rw[hQ.get];exact hQ.bd _
                 have hlv:((cI Dq c.v).getD q0).length=10:=by rw[hQ.get];exact hQ.len _
                 have hbv:Fc (602+2*(dW ts).length-l.length) ((cI Dq c.v).getD q0):=by rw[hQ.get];exact hQ.bd _
                 refine aW 8 [0,0,0] m ?_;simp only[↓aD,↓eQ,Bj,aO,uE,aa];intro u m;refine bJ rfl rfl ((haveI:=hbI.1;haveI:=hbI.2;xX (p:=c.u) (q:=c.v) _ ((m.o 3 rfl).tris hit) (by omega))) ?_;rintro v u e ⟨A21,cap21,n21,hn21,rfl,hN⟩;replace m:=m.newO e hN;clear e hN;subst hn21;refine aC aM ?_;simp only[zz];replace m:=(m.pull 0 rfl).mv 3 rfl;simp only[dS,dT,zF,zG] at m;refine aS 2 [0] m ?_;simp only[↓aD];intro u m;refine dA m 12 aB (by kernel_rfl) ?_;simp only[zy];refine eM 6 [8,0,8,0] ?_;simp only[↓aD,↓eQ,adN,uE,aO,Bj,aa];refine jY (fun u m=>dZ (ek:=pt) (en:=qV) (k:=c.u) (v0:=q0) No aei fT rfl rfl (m.p 9 rfl) hD61) ?_;simp only[zz];refine eM 3 [8,0] ?_;simp only[↓aD,↓eQ,adN,uE,aO,aa];refine jY (fun u m=>dZ (ek:=pt) (en:=qV) (k:=c.v) (v0:=q0) No aei fT rfl rfl (m.p 9 rfl) hD61) ?_;simp only[zz];refine eR rfl rfl (acT hlu hlv hbu hbv (by omega)) (bD ?_);clear m;intro u m;simp only[zz];refine mY (ek:=pt) (en:=qV) (a:=c.v) (v:=(Di ((cI Dq c.u).getD q0) ((cI Dq c.v).getD q0))) m 9 rfl No fT rfl rfl rfl hD61 ?_;clear m;intro es61 c61 u m hD';clear hD61;have hD61:=hD';clear hD';simp only[zF,zG] at m;rw[hQ.get,hQ.get] at hD61;refine aK (cP 3 [5,0] m ?_);simp only[↓aD,↓eQ,Xf];intro u m;refine aC fO ?_;simp only[zz,fk,bi,ck];replace m:=m.pull 0 rfl;simp only[dS,dT,zF,zG] at m;replace m:=m.pull 6 rfl;simp only[dS,dT,zF,zG] at m;replace m:=m.pack2;refine mF rfl rfl (ajI m hD60 hnC) ?_;clear m;rintro v u ⟨es60,Dc2,rfl,m,hD60,hnC2,hdel⟩;simp only[zz];replace m:=m.unpack2;refine aS 5 [0] m ?_;simp only[↓aD];intro u m;refine vJ m Np rfl (m.p 7 rfl) ?_;clear m;intro r3 u m;refine aS 2 [0] m ?_;simp only[↓aD];intro u m;refine cE [] [18,19,116,117,118,119,120,121,122,123,124,125,126,127,128] (fun n vs wl=>∃(dn rs:List Mv) (sn:Array Nat) (es62:Array b_),vs=[]∧Mem w wl [iI r3 q62 c62 sn,mI q60 es60 c60,bI g8 (sD c) 112,oI 39 9 A21 (nJ l c.u c.v).length cap21 ((nJ l c.u c.v).flatMap aN),bI g5 [.map (some q60)] 100,mI q62 es62 c62,bI g2 [.map (some q61)] 93,mI q61 es61 c61]∧(bL pt pt (Bu (dn.map (·.1)) c.u c.v Dm) es62 c62)∧(sK pt pt (Bu (dn.map (·.1)) c.u c.v Dm) es62 sn dn rs)∧(n=rs.length)) ?_ ?_
                 · skip
                   apply Exists.intro;simp only[zQ,zR,zD,zE];exact⟨[],Dm,#[],_,trivial,(m.sel [true,true,true,false,false,true,false,true,true,true,true]),(by rw[ck,abg];exact hD62),(by rw[ck,abg];exact sK.start hD62),rfl⟩
                 · intro n vs wr hI u K6 hK6
                   clear m;obtain⟨dn,rs,sn,es62,rfl,m,hD62,hT5,hn5⟩:=hI;simp only[zu,zF,zG];refine aW 2 [0] m ?_;simp only[↓aD];intro u m;refine ajA m 0 rfl rfl (m.p 5 rfl) hD62 hT5 ?_;clear m;intro bb kk vv sn u m hN;simp only[zF,zG] at m;refine aC (pP rfl) (aS 2 [0] m ?_);simp only[↓aD];intro u m;refine cN rfl (fun hc8=>?_) (fun hc8=>?_)
                   · skip
                     obtain⟨kp,kb,rs2,hp2,hT6⟩:=ajF hc8 hN;obtain⟨hnew,hmm⟩:=ajM (by rw[Dd];exact hnM) hT6;refine aW 4 [0] m ?_;simp only[↓aD];intro u m;refine fF (abf rfl (m.r 0 rfl) (m.p 5 rfl) hD62 hT6) ?_;simp only[zz];refine aS 5 [1] m ?_;simp only[↓aD,↓eQ,eY,aO,aa];intro g10 g11;intro u m;refine cP 7 [0,0,4,0] m ?_;simp only[↓aD,↓eQ,aO,Bj,aa];intro u m;refine aC (bW rfl rfl) (aS 1 [0] m ?_);simp only[↓aD];intro u m;refine cN rfl (fun hc9=>?_) (fun hc9=>?_)
                     · skip
                       rw[afP,decide_eq_true_eq] at hc9;have hup:=ajL hnM hmm hnew hc9;refine aW 5 [1,4,0] m ?_;simp only[↓aD,↓eQ,aO,uE,aa];intro u m;refine ajC (ek:=pt) (ev:=pt) (a:=kp) (v:=c.v) m 7 rfl Np fT rfl rfl rfl hD62 (by rw[Dd];exact hnM) hT6 ?_;clear m;intro es62 u m hD' hT';clear hD62;have hD62:=hD';clear hD';simp only[zF,zG] at m;refine aS 2 [0] m ?_;simp only[↓aD];intro u m;rw[hup] at hD62 hT';refine hK6 rs2.length _ _ ?_ ?_ ?_
                       · rw[hn5,hp2.length_eq];exact el _
                       · simp only[zz,zv]
                       · simp only[zQ,zR,zD,zE]
                         exact⟨dn++[(kp,c.v)],rs2,_,_,trivial,(m.sel [false,false,true,true,true,true,true,true,true,true]),(by rw[cl];exact hD62),(by rw[cl];exact hT'),rfl⟩
                     · skip
                       rw[afP,decide_eq_false_iff_not] at hc9;have hup:=afQ (v:=c.v) hnM hmm hnew hc9;refine aW 2 [0] m ?_;simp only[↓aD];intro u m;have hT7:=hT6.stay;rw[hup] at hD62 hT7;refine hK6 rs2.length _ _ ?_ ?_ ?_
                       · rw[hn5,hp2.length_eq];exact el _
                       · simp only[zz,zv]
                       · simp only[zQ,zR,zD,zE]
                         exact⟨dn++[(kp,kb)],rs2,_,_,trivial,(m.sel [false,false,true,true,true,true,true,true,true,true]),(by rw[cl];exact hD62),(by rw[cl];exact hT7),rfl⟩
                   · skip
                     obtain rfl:=ajE hc8 hN;have hdn:=hT5.done;have hall:∀e∈Dm,e.1∈dn.map (·.1):=fun e he=>(hdn.map (·.1)).mem_iff.2 (by rw[Dd];exact eu he);refine aW 7 [2,2,0] m ?_;simp only[↓aD,↓eQ,Bj,aO,uE,aa];intro u m;refine mY (ek:=pt) (en:=pt) (a:=c.u) (v:=c.v) m 5 rfl Np fT rfl rfl rfl hD62 ?_;clear m;intro es62 c62 u m hD';clear hD62;have hD62:=hD';clear hD';simp only[zF,zG] at m;rw[ajK hall] at hD62;refine aS 1 [] m ?_;simp only[↓aD];intro u m;replace m:=m.pull 3 rfl;simp only[dS,dT,zF,zG] at m;replace m:=m.pull 7 rfl;simp only[dS,dT,zF,zG] at m;replace m:=m.pull 7 rfl;simp only[dS,dT,zF,zG] at m;replace m:=m.pull 7 rfl;simp only[dS,dT,zF,zG] at m;replace m:=m.pull 5 rfl;simp only[dS,dT,zF,zG] at m;replace m:=m.pull 7 rfl;simp only[dS,dT,zF,zG] at m;refine cP 1 [0] m ?_;simp only[↓aD];intro u m;refine hK2 ((nJ l c.u c.v).length) _ _ ?_ ?_ ?_
                     · have:=wI hbs;omega
                     · simp only[zz,zv]
                     · simp only[zQ,zR,zD,zE]
                       exact⟨(nJ l c.u c.v),(Xa Q c.u c.v),_,_,_,_,_,_,_,_,_,_,(toF Dm c.u c.v),rfl,(m.sel [true,true,true,true,true,true,false,false]),hD60,(hC.upd hdel),hnC2,hD61,hD62,((hQ.upd c.u c.v).mono (by have:=wI hbs;omega)),(wS (Cx hbI.2 hit)),(ahv l c.u c.v),(aqz hnM _ _),(hS.trans (afR hw (by omega) hbs)),(by have:=wI hbs;have:=alL Dm c.u c.v;omega),rfl⟩
         · skip
           have hend:=abi (l:=l) (want:=want) (Q:=Q) (D:=Dm) (.inl (by omega));refine aW 5 [] m ?_;simp only[↓aD];intro u m;replace m:=m.nilO 55 6;refine cP 4 [0] m ?_;simp only[↓aD];intro u m;refine bJ rfl rfl (ajm (q:=q62) _) ?_;rintro v u e ⟨g6,rfl,hg,hB⟩;replace m:=m.newB e hg hB;clear e hg hB;simp only[zz];refine bJ rfl rfl (aa6 _ agc (Ma (m.p 4 rfl) hD62 (m.b 0 rfl)) (fun xs h=>by rw[h.length_eq,dz];exact av _) (by omega)) ?_;rintro v u e ⟨xs,ys,⟨A22,cap22,n22,hn22,rfl,hN⟩,hxs,hys,hso⟩;replace m:=m.newO e hN;clear e hN;obtain rfl:n22=Dm.length:=by rw[hn22,hxs.length_eq,dz]
           obtain rfl:ys=yO (Dm.map (·.1)):=Re hnM (hys.trans hxs) hso;refine aS 4 [0] m ?_;simp only[↓aD,mQ];intro u m;refine cE [20,138] [22,139,140,141,142,143,144,145,146,147,148,149,150] (fun n vs wl=>∃(k:Nat) (A20:Option Addr) (cap20:Nat),vs=[.slice A20 k cap20,.int .i64 (k:Int)]∧Mem w wl [oI 30 3 A22 Dm.length cap22 ((yO (Dm.map (·.1))).flatMap bN),oI 55 6 A20 k cap20 (((mP Dm).take k).flatMap cT),mI q62 es62 c62,oI 39 9 A1 l.length cap1 (l.flatMap aN)]∧(k≤Dm.length)∧(n=Dm.length-k)) ?_ ?_
           · skip
             apply Exists.intro;simp only[zQ,zR,zD,zE];exact⟨0,_,_,rfl,(m.sel [true,false,true,false,false,true,false,false,true]),br _,rfl⟩
           · intro n vs wr hI u K7 hK7
             clear m;obtain⟨k,A20,cap20,rfl,m,hk,hn6⟩:=hI;simp only[zu,zF,zG];refine aW 5 [0,0] m ?_;simp only[↓aD];intro u m;refine bG rfl (fun hc10=>?_) (fun hc10=>?_)
             · skip
               obtain⟨k9,hk9,a9,hA9,hr9⟩:=((m.o 0 rfl).lat (enc:=bN) (fun _=>rfl) (by decide)).get (i:=k) (by omega);subst hA9;have hmv:=amt hk9;refine jF 5 [0] m ?_;simp only[↓aD];rintro u m rfl;refine aC (aF cX aA rfl rfl (by omega) (by omega) (bZ (ai _))) ?_;simp only[zz];refine aQ rfl (show fL _ _ _ _ (pt k9) from hr9.lies aG aA) ?_;simp only[zz];refine aS 3 [0,0] m ?_;simp only[↓aD,↓eQ,eY,aO,aa];intro g7;intro u m;refine mh m [true,true,false,true,true] [(0,true),(2,true),(1,true),(3,true),(4,false),(5,true),(6,false),(7,false),(8,true)] aB (by kernel_rfl) (bT (fun _ _ _ _ _ h=>h)) (ol:=?_) ?hol ?_
               case hol=>simp only[zw,zQ,zR];try rfl
               clear m;intro u m;refine Oi 4 [0,0] ?_;simp only[↓aD,↓eQ,aO];refine bK (fF (dZ (ek:=pt) (en:=pt) (k:=k9) (v0:=⟨0,0,0⟩) Np iL fT rfl rfl (m.p 3 rfl) hD62) ?_);simp only[zz];refine aK (⟨m.sel [true,true,false,true,true],?_⟩);refine bB (zY rfl rfl) (bK ?_);simp only[zz];refine Kd rfl ?_;intro u g8 e hg hB;replace m:=m.newB e hg hB;clear e hg hB;refine aK (⟨m.sel [false,true,true,false,true,true],?_⟩);refine bK ?_;simp only[zz];refine bQ m 3 rfl rfl underlying46 agl rfl (by decide) rfl rfl rfl (m.b 0 rfl).rowsO (fW rfl) (by omega) (by omega) ?_;clear m;intro A20 cap20 u m;simp only[zF,zG] at m;rw[show ((mP Dm).take k).flatMap cT++_=((mP Dm).take (k+1)).flatMap cT by rw[bX hmv,ba];rfl] at m;refine aK (⟨m.sel [false,true,true,false,true,true],?_⟩);refine bB aM (cK ?_);refine cP 5 [0] m ?_;simp only[↓aD];refine⟨by omega,?_⟩;intro u m;refine hK7 (Dm.length-(k+1)) _ _ ?_ ?_ ?_
               · omega
               · simp only[zz,zv]
               · simp only[zQ,zR,zD,zE]
                 exact⟨k+1,_,_,rfl,(m.sel [false,false,true,true,true,true]),by omega,rfl⟩
             · skip
               obtain rfl:k=Dm.length:=by omega
               rw[show (mP Dm).take Dm.length=mP Dm from a_ (by rw[Cy];exact av _)] at m;refine aW 9 [] m ?_;simp only[↓aD];intro u m;refine wU rfl rfl rfl ?_;try simp only[zD,zE]
               exact⟨_,rfl,m.ext,_,_,_,_,_,_,rfl,by rw[tG hc0 (hS.trans hend)],by rw[tG hc0 (hS.trans hend)];exact (Cy _).symm,by rw[tG hc0 (hS.trans hend)];exact m.sel [false,true,false,true]⟩
theorem yI{P:Program}{f:FuncId}{args:List ah}{w:aj}{v v':ah}(h:dJ P f args w fun u _=>u=v)(e:v=v'):dJ P f args w fun u _=>u=v':=e▸h
theorem Rr{p:P3}(h:(-1000≤p.x∧p.x≤1000)∧(-1000≤p.y∧p.y≤1000)∧(-1000≤p.z∧p.z≤1000)):I3 p:=⟨by unfold yL;omega,by unfold yL;omega,by unfold yL;omega⟩
instance sx3:I3 (⟨10,0,0⟩:P3):=Rr (by decide)
instance sy3:I3 (⟨0,10,0⟩:P3):=Rr (by decide)
instance sz3:I3 (⟨-10,0,0⟩:P3):=Rr (by decide)
instance sa3:I3 (⟨0,0,0⟩:P3):=Rr (by decide)
instance sb3:I3 (⟨9,0,0⟩:P3):=Rr (by decide)
instance sc3:I3 (⟨0,9,0⟩:P3):=Rr (by decide)
instance sd3:I3 (⟨0,0,9⟩:P3):=Rr (by decide)
theorem Nj:∀t∈Dl,IT t:=wS aji
def s1T:List T3:=[⟨⟨0,0,0⟩,⟨0,9,0⟩,⟨9,0,0⟩⟩,⟨⟨0,0,0⟩,⟨9,0,0⟩,⟨0,0,9⟩⟩,⟨⟨9,0,0⟩,⟨0,9,0⟩,⟨0,0,9⟩⟩,⟨⟨0,9,0⟩,⟨0,0,0⟩,⟨0,0,9⟩⟩]
def s2T:List T3:=[⟨⟨0,0,0⟩,⟨9,0,0⟩,⟨0,9,0⟩⟩]
theorem asS:∀t∈s1T,IT t:=fun t ht=>by
 simp only[s1T,ao,bz,or_false] at ht;rcases ht with rfl | rfl | rfl | rfl
 · exact⟨sa3,sc3,sb3⟩
 · exact⟨sa3,sb3,sd3⟩
 · exact⟨sb3,sc3,sd3⟩
 · exact⟨sc3,sa3,sd3⟩
theorem asT:∀t∈s2T,IT t:=fun t ht=>by
 simp only[s2T,ao,bz,or_false] at ht;subst ht;exact⟨sa3,sb3,sc3⟩
theorem aqB:Ij Dl ⟨10,0,0⟩ ⟨0,10,0⟩=true:=by rw[Ij,afF,alo];decide
theorem aqC:Ij Dl ⟨10,0,0⟩ ⟨-10,0,0⟩=false:=by rw[Ij,alp,Bool.and_false]
theorem att:Ij s1T ⟨0,0,0⟩ ⟨9,0,0⟩=false:=by kernel_rfl
theorem atu:(nJ s2T ⟨0,0,0⟩ ⟨9,0,0⟩).length=0:=by kernel_rfl
theorem aqD:(yP Dl 7).1.length=6:=congrArg Prod.fst aa0
theorem aqE:(yP Dl 7).2=[(⟨-10,0,0⟩,⟨0,-10,0⟩)]:=congrArg Prod.snd aa0
theorem ajN  : dL prog 14 [] (.bool true):=by
 intro w;refine⟨aqQ,?_⟩;have m:=Mem.refl w
 go_enter func14,ntmps14
 refine eC 6 [0] m ?_;simp only[↓aD];intro u m;refine bJ rfl rfl (aqq _) ?_;rintro v u e ⟨A1,cap1,n1,rfl,rfl,hN⟩;replace m:=m.newO e hN;clear e hN;refine aS 13 [0,0] m ?_;simp only[↓aD,Bi,eY,aO,aa];intro g1;intro u m;refine go (cU m rfl rfl (yI (Db (ts:=Dl) (p:=⟨10,0,0⟩) (q:=⟨0,10,0⟩) _ ((m.o 1 rfl).tris Nj) (by decide)) (by rw[aqB])) ?_);clear m;rintro v u m rfl;refine aS 4 [0,0] m ?_;simp only[↓aD,aO,Bi,aa];intro u m;refine dN rfl (cU m rfl rfl (yI (Db (ts:=Dl) (p:=⟨10,0,0⟩) (q:=⟨-10,0,0⟩) _ ((m.o 1 rfl).tris Nj) (by decide)) (by rw[aqC])) ?_);clear m;rintro v u m rfl;refine aS 6 [0,0] m ?_;simp only[↓aD,aO,Bi,Bool.not_true,gp,aa];intro u m;refine dN rfl (bJ rfl rfl (xX (ts:=Dl) (p:=⟨10,0,0⟩) (q:=⟨0,10,0⟩) _ ((m.o 1 rfl).tris Nj) (by decide)) ?_);rintro v u e ⟨A2,cap2,n2,hn2,rfl,hN⟩;replace m:=m.newO e hN;clear e hN;obtain rfl:n2=6:=by rw[hn2];exact alq
 refine aS 1 [0] m ?_;simp only[↓aD,iU];intro u m;refine dN rfl (aC (Is rfl rfl rfl) ?_);refine aS 12 [0] m ?_;simp only[↓aD,Bi,eY,aO,aa];intro g2;intro u m;refine cP 8 [0,0] m ?_;simp only[↓aD,eY,aO,Bi,aa];intro g3 g4;intro u m;refine cP 11 [0,3,1] m ?_;simp only[↓aD,Bi,eY,aO,aa];intro g5;intro u m;refine cP 5 [2,3,2,0] m ?_;simp only[↓aD,aO,rL,aa];intro u m;refine cP 5 [2,1,0] m ?_;simp only[↓aD,rL,aO,aa];intro u m;refine cP 4 [1,3,0,0] m ?_;simp only[↓aD,aO,rL,aa];intro u m;refine ae6 rfl rfl rfl rfl ?_;intro u g6 e hg hB;replace m:=m.newB e hg hB;clear e hg hB;simp only[zz];replace m:=m.own 0 rfl (n:=4) (c:=9) rfl (iS rfl);simp only[zG] at m;refine aS 2 [4,3,0] m ?_;simp only[↓aD,aO];intro u m;refine cU m rfl rfl (yI (Db (ts:=s1T) (p:=⟨0,0,0⟩) (q:=⟨9,0,0⟩) _ (((m.o 0 rfl).as (show _=s1T.flatMap aN from rfl)).tris asS) (by decide)) (by rw[att])) ?_;clear m;rintro v u m rfl;refine aS 6 [4,3,2,0] m ?_;simp only[↓aD,aO,rL,Bool.not_true,gp,aa];intro u m;refine dN rfl (fH rfl ?_);intro u g7 e hg hB;replace m:=m.newB e hg hB;clear e hg hB;simp only[zz];replace m:=m.own 0 rfl (n:=1) (c:=9) rfl (iS rfl);simp only[zG] at m;refine aS 2 [5,4,0] m ?_;simp only[↓aD,aO];intro u m;refine dN rfl (bJ rfl rfl (xX (ts:=s2T) (p:=⟨0,0,0⟩) (q:=⟨9,0,0⟩) _ (((m.o 0 rfl).as (show _=s2T.flatMap aN from rfl)).tris asT) (by decide)) ?_);rintro v u e ⟨A5,cap5,n5,hn5,rfl,hN⟩;replace m:=m.newO e hN;clear e hN;obtain rfl:n5=0:=by rw[hn5];exact atu
 refine aS 1 [0] m ?_;simp only[↓aD,iU];intro u m;refine dN rfl (aC (Is rfl rfl rfl) ?_);refine aS 6 [0] m ?_;simp only[↓aD];intro u m;refine bJ rfl rfl (ac5 (ts:=Dl) (want:=7) _ ((m.o 9 rfl).tris Nj) (by decide) (by decide)) ?_;rintro v u e ⟨A7,n7,c7,A8,n8,c8,rfl,hn7,hn8,hM⟩;replace m:=m.plus hM;clear hM e;simp only[ci,cd] at m;obtain rfl:n7=6:=hn7.trans aqD;rw[aqE] at hn8 m;obtain rfl:n8=1:=hn8;refine aS 15 [0] m ?_;simp only[↓aD,iU];intro u m;refine dN rfl (aC (Is rfl rfl rfl) ?_);refine aS 6 [] m ?_;simp only[↓aD,Bi,ar6,aa];intro u m;refine go (dN rfl (Kd rfl ?_));intro u g8 e hg hB;replace m:=m.newB e hg hB;clear e hg hB;simp only[zz];replace m:=m.own 0 rfl (n:=1) (c:=6) rfl (iS rfl);simp only[zG] at m;refine dN rfl (cU m rfl rfl (yI (aje (xs:=[(⟨-10,0,0⟩,⟨0,-10,0⟩)]) (ys:=[(⟨-10,0,0⟩,⟨0,-10,0⟩)]) _ ((m.o 1 rfl).lat Mf (by decide)) (((m.o 0 rfl).as (show _=([(⟨-10,0,0⟩,⟨0,-10,0⟩)]:List E3).flatMap cT from rfl)).lat Mf (by decide)) (by decide)) (by rw[decide_eq_true rfl])) ?_);clear m;rintro v u m rfl;refine aS 4 [] m ?_;simp only[↓aD];intro u m;exact aR rfl rfl (⟨_,rfl,m.ext,rfl⟩)
def cmN(ts:List T3)(p q:P3)(k:Nat):Nat:=(((iD ts p).take k).filter fun x=>decide (x∈iD ts q)).length
theorem atv{ts:List T3}{p q x:P3}{k:Nat}(h:(iD ts p)[k]? = some x)(hx:decide (x∈iD ts q)=true):cmN ts p q (k+1)=cmN ts p q k+1:=by unfold cmN;rw[bX h,fu,aw];simp[of_decide_eq_true hx]
theorem atw{ts:List T3}{p q x:P3}{k:Nat}(h:(iD ts p)[k]? = some x)(hx:decide (x∈iD ts q)=false):cmN ts p q (k+1)=cmN ts p q k:=by unfold cmN;rw[bX h,fu,aw];simp[of_decide_eq_false hx]
theorem ajO(ts:List T3)(p q:P3):cmN ts p q (iD ts p).length=((iD ts p).filter fun x=>decide (x∈iD ts q)).length:=by unfold cmN;rw[ew]
theorem asU(ts:List T3)(p q:P3)(k:Nat):cmN ts p q k≤k:=by unfold cmN;exact Nat.le_trans (List.length_filter_le _ _) (by rw[cj];omega)
theorem atx{l:List T3}{u v:P3}(h:v∉iD l u):vC l u v=false:=by unfold vC;rw[decide_eq_false h];rfl
theorem aty{l:List T3}{u v:P3}(h:Dw (bF l) u=true):vC l u v=false:=by unfold vC;rw[h];simp
theorem atz{l:List T3}{u v:P3}(h:¬cmN l u v (iD l u).length=2):vC l u v=false:=by rw[ajO] at h;unfold vC;rw[decide_eq_false h];simp
theorem atA{l:List T3}{u v:P3}(h:(qR (nJ l u v)||Mi l u v)=true):vC l u v=false:=by
 unfold vC;rcases dm _ _ |>.mp h with h | h <;> rw[h] <;> simp
theorem atC{l:List T3}{u v:P3}(h1:v∈iD l u)(h2:Dw (bF l) u=false)(h3:cmN l u v (iD l u).length=2)(h4:(qR (nJ l u v)||Mi l u v)=false):vC l u v=aaJ l (nJ l u v) u v:=by
 rw[ajO] at h3;rw[fz] at h4;unfold vC;rw[decide_eq_true h1,h2,decide_eq_true h3,h4.1,h4.2];rfl
theorem afT{ts:List T3}{N cap:Nat}{A:Option Addr}{p q:P3}[I3 p][hq3:I3 q](w:aj)(hT:bP w A N ts)(hN:N≤1000000):dJ prog 52 [.slice A N cap,pt p,pt q] w (fun v _=>v=.bool (vC ts p q)):=by
 refine⟨arb,?_⟩;have m:=Mem.refl w;have htl:=hT.len;have hnp:=Ih ts p;have hnq:=Ih ts q;have hci:∀t∈nJ ts p q,IT t:=wS (Cx hq3 hT.it);have hcl:=Cp p q ts;have hcl2:=Hs (p:=p) (q:=q) ts
 go_enter func52,ntmps52
 refine eC 10 [1,0] m ?_;simp only[↓aD,aO];intro g1 g2;intro u m;refine bJ rfl rfl (Yi (p:=p) _ (hT.ext m.ext) (by omega)) ?_;rintro v u e ⟨A7,c7,n7,hn7,rfl,hN⟩;replace m:=m.newO e hN;clear e hN;subst hn7;refine aS 4 [] m ?_;simp only[↓aD];intro u m;by_cases hv:q∈iD ts p
 · skip
   refine gc ?_;refine mh m [true,true,true] [(0,true),(1,true),(2,false),(3,true),(4,true),(5,true),(7,true),(6,false),(8,false),(9,true)] aB (by kernel_rfl) (bT (fun _ _ _ _ _ h=>h)) (ol:=?_) ?hol ?_
   case hol=>simp only[zw,zQ,zR];try rfl
   clear m;intro u m;refine Oi 2 [1] ?_;simp only[↓aD,aO];refine bK (cU m rfl rfl (yI (pW (p:=q) _ ((m.o 0 rfl).lat (enc:=bN) (fun _=>rfl) (by decide)) (by omega)) (by rw[decide_eq_true hv])) ?_);clear m;rintro v u m rfl;refine aK (⟨m,?_⟩);refine bB (nM rfl) (bB aH (jP rfl (bB aH ?_)));simp only[zz];refine jP rfl (eN rfl (fun u m=>((m.b 2 rfl).full aG aA)) ?_);simp only[zz];refine bK (dN rfl (bJ rfl rfl (aed _ (hT.ext m.ext) (by omega)) ?_));rintro v u e ⟨bs,⟨A3,c3,n3,hn3,rfl,hN⟩,hbs,hbl⟩;replace m:=m.newO e hN;clear e hN;subst hn3;refine aK (⟨m.sel [false,true,true,true],?_⟩);refine bK (dN rfl ?_);simp only[zz];refine cU m rfl rfl (pW (p:=p) _ ((m.o 0 rfl).lat (enc:=bN) (fun _=>rfl) (by decide)) (by omega)) ?_;clear m;rintro v u m rfl;refine aK (⟨m.sel [false,true,true,true],?_⟩);refine bB (Cb rfl) (cK (gc ?_));simp only[zz];refine cN rfl (fun hc1=>?_) (fun hc1=>?_)
   · skip
     rw[aee hbs] at hc1;refine aW 5 [] m ?_;simp only[↓aD];intro u m;refine aR rfl rfl ?_;try simp only[zD,zE]
     exact⟨_,rfl,m.ext,by rw[aty hc1]⟩
   · skip
     rw[aee hbs] at hc1;refine aW 5 [2,0] m ?_;simp only[↓aD,aO];intro u m;refine bJ rfl rfl (Yi (p:=q) _ (hT.ext m.ext) (by omega)) ?_;rintro v u e ⟨A8,c8,n8,hn8,rfl,hN⟩;replace m:=m.newO e hN;clear e hN;subst hn8;refine aS 12 [0] m ?_;simp only[↓aD];intro u m;refine cE [9,10] [30,31,32,33,34,35,36,37,38,39,40,41,42,43] (fun n vs wl=>∃(k:Nat),vs=[.int .i64 ((cmN ts p q k:Nat):Int),.int .i64 (k:Int)]∧Mem w wl [oI 30 3 A8 (iD ts q).length c8 ((iD ts q).flatMap bN),oI 30 3 A7 (iD ts p).length c7 ((iD ts p).flatMap bN),bI g2 [.int .i64 q.x,.int .i64 q.y,.int .i64 q.z] 30,bI g1 [.int .i64 p.x,.int .i64 p.y,.int .i64 p.z] 30]∧(k≤(iD ts p).length)∧(n=(iD ts p).length-k)) ?_ ?_
     · skip
       apply Exists.intro;simp only[zQ,zR,zD,zE];exact⟨0,rfl,(m.sel [true,false,true,true,true]),br _,rfl⟩
     · intro n vs wr hI u K1 hK1
       clear m;obtain⟨k,rfl,m,hk,hn⟩:=hI;have hcle:=asU ts p q k;simp only[zu,zF,zG];refine aW 8 [0,0] m ?_;simp only[↓aD,mQ];intro u m;refine bG rfl (fun hc2=>?_) (fun hc2=>?_)
       · skip
         have hkl:k<(iD ts p).length:=by omega
         obtain⟨x,hx⟩:∃x,(iD ts p)[k]? = some x:=⟨_,List.getElem?_eq_getElem hkl⟩
         obtain⟨g7,rfl⟩:=(m.o 1 rfl).some (by omega);refine jF 8 [0] m ?_;simp only[↓aD];rintro u m rfl;refine aC (aF cX aA rfl rfl (by omega) (by omega) (bZ (ai _))) ?_;simp only[zz];refine aQ rfl (show fL _ _ _ _ (pt x) from (((m.o 1 rfl).lat (enc:=bN) (fun _=>rfl) (by decide)).at hx).lies aG aA) ?_;simp only[zz];refine cU m rfl rfl (pW (p:=x) _ ((m.o 0 rfl).lat (enc:=bN) (fun _=>rfl) (by decide)) (by omega)) ?_;clear m;rintro v u m rfl;refine aS 1 [0] m ?_;simp only[↓aD];intro u m;refine cN rfl (fun hc3=>?_) (fun hc3=>?_)
         · skip
           have hcm:=atv hx hc3;refine aW 11 [0] m ?_;simp only[↓aD];refine⟨by omega,?_⟩;intro u m;rw[show ((cmN ts p q k:Nat):Int)+1=((cmN ts p q (k+1):Nat):Int) by rw[hcm];rfl];refine hK1 ((iD ts p).length-(k+1)) _ _ ?_ ?_ ?_
           · omega
           · simp only[zz,zv]
           · simp only[zQ,zR,zD,zE]
             exact⟨k+1,rfl,m,by omega,rfl⟩
         · skip
           have hcm:=atw hx hc3;refine aW 7 [0] m ?_;simp only[↓aD];refine⟨by omega,?_⟩;intro u m;rw[←hcm];refine hK1 ((iD ts p).length-(k+1)) _ _ ?_ ?_ ?_
           · omega
           · simp only[zz,zv]
           · simp only[zQ,zR,zD,zE]
             exact⟨k+1,rfl,m,by omega,rfl⟩
       · skip
         obtain rfl:k=(iD ts p).length:=by omega
         refine aW 7 [0,0] m ?_;simp only[↓aD];intro u m;refine bG rfl (fun hc4=>?_) (fun hc4=>?_)
         · skip
           have hne:¬cmN ts p q (iD ts p).length=2:=by omega
           refine aW 5 [] m ?_;simp only[↓aD];intro u m;refine aR rfl rfl ?_;try simp only[zD,zE]
           exact⟨_,rfl,m.ext,by rw[atz hne]⟩
         · skip
           have h2:cmN ts p q (iD ts p).length=2:=by omega
           refine aW 6 [3,2,0] m ?_;simp only[↓aD,aO];intro u m;refine bJ rfl rfl (Lv (p:=p) (q:=q) _ (hT.ext m.ext) (by omega)) ?_;rintro v u e ⟨A11,c11,n11,hn11,rfl,hN⟩;replace m:=m.newO e hN;clear e hN;subst hn11;refine aS 5 [0] m ?_;simp only[↓aD];intro u m;refine cU m rfl rfl (ai8 _ ((m.o 0 rfl).tris hci) (by omega)) ?_;clear m;rintro v u m rfl;refine aS 7 [4,3,0] m ?_;simp only[↓aD,aO];intro u m;refine cU m rfl rfl (ai9 (p:=p) (q:=q) _ (hT.ext m.ext) (by omega)) ?_;clear m;rintro v u m rfl;refine aS 7 [0] m ?_;simp only[↓aD];intro u m;refine bC rfl (fun hb=>aH) (aC (cF rfl rfl rfl) ?_);refine aS 1 [0] m ?_;simp only[↓aD];intro u m;refine cN rfl (fun hc5=>?_) (fun hc5=>?_)
           · skip
             refine aW 5 [] m ?_;simp only[↓aD];intro u m;refine aR rfl rfl ?_;try simp only[zD,zE]
             exact⟨_,rfl,m.ext,by rw[atA hc5]⟩
           · skip
             refine aW 7 [4,3,0] m ?_;simp only[↓aD,aO];intro u m;refine cU m rfl rfl (afE (p:=p) (q:=q) _ (hT.ext m.ext) ((m.o 0 rfl).tris hci) (by omega) (by omega)) ?_;clear m;rintro v u m rfl;refine aS 3 [] m ?_;simp only[↓aD];intro u m;refine aR rfl rfl ?_;try simp only[zD,zE]
             exact⟨_,rfl,m.ext,by rw[atC hv hc1 h2 hc5]⟩
 · skip
   refine gc ?_;refine mh m [true,true,true] [(0,true),(1,true),(2,false),(3,true),(4,true),(5,true),(7,true),(6,false),(8,false),(9,true)] aB (by kernel_rfl) (bT (fun _ _ _ _ _ h=>h)) (ol:=?_) ?hol ?_
   case hol=>simp only[zw,zQ,zR];try rfl
   clear m;intro u m;refine Oi 2 [1] ?_;simp only[↓aD,aO];refine bK (cU m rfl rfl (yI (pW (p:=q) _ ((m.o 0 rfl).lat (enc:=bN) (fun _=>rfl) (by decide)) (by omega)) (by rw[decide_eq_false hv])) ?_);clear m;rintro v u m rfl;refine aK (⟨m,?_⟩);refine bB (nM rfl) (bB aH (ac9 rfl ?_));simp only[zz];refine ac9 rfl (bK (Mk rfl (aK ?_)));refine⟨m,?_⟩;refine bK (Mk rfl (aK ?_));refine⟨m,?_⟩;refine bB (sM rfl) ?_;simp only[zz];refine cK (cP 6 [] m ?_);simp only[↓aD];intro u m;refine aR rfl rfl ?_;try simp only[zD,zE]
   exact⟨_,rfl,m.ext,by rw[atx hv]⟩
theorem atD{l:List T3}{p q:P3}{b:Bool}(hb:b=decide (p=q))(h:(decide (fM true l≠0)||b)=true):Ij l p q=false:=by
 subst hb;unfold Ij;rcases dm _ _ |>.mp h with h | h
 · rw[decide_eq_false (of_decide_eq_true h)];simp
 · rw[of_decide_eq_true h];simp
theorem atE{l:List T3}{p q:P3}{b:Bool}(hb:b=decide (p=q))(h:(decide (fM true l≠0)||b)=false):Ij l p q=vC l p q:=by
 subst hb;rw[fz] at h;have h1:fM true l=0:=Classical.not_not.1 (of_decide_eq_false h.1);have h2:p≠q:=of_decide_eq_false h.2;unfold Ij;rw[decide_eq_true h2,decide_eq_true h1,Xs h1 h2];rfl
theorem Yq{ts:List T3}{N cap:Nat}{A:Option Addr}{p q:P3}[I3 p][hq3:I3 q](w:aj)(hT:bP w A N ts)(hN:N≤1000000):dJ prog 18 [.slice A N cap,pt p,pt q] w (fun v _=>v=.bool (Ij ts p q)):=by
 refine⟨aqS,?_⟩;have m:=Mem.refl w;have htl:=hT.len
 go_enter func18,ntmps18
 refine eC 10 [0] m ?_;simp only[↓aD];intro g1 g2;intro u m;refine cU m rfl rfl (Xo _ (hT.ext m.ext) (by omega)) ?_;clear m;rintro v u m rfl;refine aS 2 [0,0] m ?_;simp only[↓aD];intro u m;refine bS rfl (fun hb=>aU rfl ((m.b 1 rfl).full aG aA)) (bS rfl (fun hb=>aU rfl ((m.b 0 rfl).full aG aA)) (bC rfl (fun hb=>bW (aV hb rfl) (aV hb rfl)) (aC (cF rfl rfl rfl) ?_)));refine aS 1 [0] m ?_;simp only[↓aD];intro u m;refine cN rfl (fun hc1=>?_) (fun hc1=>?_)
 · skip
   rw[afP] at hc1;have hal:=atD rfl hc1;refine aW 5 [] m ?_;simp only[↓aD];intro u m;refine aR rfl rfl ?_;try simp only[zD,zE]
   exact⟨_,rfl,m.ext,by rw[hal]⟩
 · skip
   rw[afP] at hc1;have hal:=atE rfl hc1;refine aW 6 [1,0,0] m ?_;simp only[↓aD,aO];intro u m;refine cU m rfl rfl (afT (p:=p) (q:=q) _ (hT.ext m.ext) hN) ?_;clear m;rintro v u m rfl;refine aS 3 [] m ?_;simp only[↓aD];intro u m;refine aR rfl rfl ?_;try simp only[zD,zE]
   exact⟨_,rfl,m.ext,by rw[hal]⟩
end Go.Proofs.YtfekpcimgncioaaGreatDoor
namespace Go.Lith
open Go.RowKit Go.ChangeShapes
variable {H:Type} {enc:an × ah→H} {P:Program} {w:aj} {base:Nat} {spare:Nat→Bool} {held:Bool}
theorem abk{v:ah}{A:Option Addr}{len cap:Nat}(h:v.cells.toList=[.slice A len cap])(hv:∀cs,v≠.agg cs):v=.slice A len cap:=by
 cases v <;> first | (exact absurd rfl (hv _)) | (simp[Value.cells] at h;done) | (simpa[Value.cells] using h)
theorem six{α:Type}:∀{l:List α},l.length=6→∃a b c d e f,l=[a,b,c,d,e,f]
 | [a,b,c,d,e,f],_=>⟨a,b,c,d,e,f,rfl⟩
theorem alM{r:Reach}{b0 n:Nat}{t:an}{v:ah}{d:DataW H}{p:List MemPlace}(ha:eP P t true)(hi:pN P n t=true)(hc:P.cellsOf t=6)(hv:lw P w r b0 t v)(h:DataW.Trod enc P w base spare held t v d p):∃a b c d e f:Int,Iw a∧Iw b∧Iw c∧Iw d∧Iw e∧Iw f∧v=.agg #[.int .i64 a,.int .i64 b,.int .i64 c,.int .i64 d,.int .i64 e,.int .i64 f]:=by
 obtain⟨zs,h1,rfl,h2⟩:=aeJ ha hi hc hv h;obtain⟨a,b,c,d,e,f,rfl⟩:=six h1;exact⟨a,b,c,d,e,f,⟨h2 _ (by simp)⟩,⟨h2 _ (by simp)⟩,⟨h2 _ (by simp)⟩,⟨h2 _ (by simp)⟩,⟨h2 _ (by simp)⟩,⟨h2 _ (by simp)⟩,rfl⟩
theorem abl{r:Reach}{b0 n:Nat}{t e:an}{v:ah}{d:DataW H}{p:List MemPlace}(hu:P.underlying t=some (.slice e))(hi:pN P n e=true)(hc:P.cellsOf e=9)(hv:lw P w r b0 t v)(h:DataW.Trod enc P w base spare held t v d p) :
 ∃(A:Option Addr) (len cap:Nat) (ts:List T3),v=.slice A len cap∧bP w A len ts:=by
 obtain⟨fuel,hf⟩:=h;obtain⟨A,len,cap,ts,e,_,_,_,h1⟩:=aeL hu hi hc hf;refine⟨A,len,cap,ts,abk e fun cs hcs=>?_,h1⟩;unfold lw at hv;rw[hu] at hv;subst hcs;simp[Cell.okWide,Cell.ok,hu] at hv
end Go.Lith
namespace Go.Proofs.YtfekpcimgncioaaGreatDoor
open Go.Proofs.Tryz
open Go.RowKit Go.Lith
set_option maxRecDepth 100000
attribute [local irreducible] au wpQuiet fR bO cO Code.wp
attribute [local congr] pL fX fY fZ gA gB kI gC gD gE gF gG gH gI gJ gK gL gM eS eT gN gQ gS gT gU kK dC dD cR dB gR kJ eV eW eX gW gX kL
theorem Ku{us:List T3}:∀t∈us.map t3m,IT t:=fun t ht=>by
 obtain⟨u,_,rfl⟩:=df.1 ht;exact inferInstance
theorem Mj{us:List T3}{N cap:Nat}{A:Option Addr}{p q:P3}[hp:I3 p][hq:I3 q](w:aj)(hT:bP w A N us):dJ prog 4 [.slice A N cap,ed (p,q)] w (fun v _=>v=.bool true):=by
 refine⟨as3,?_⟩;have m:=Mem.refl w;have htl:=hT.len
 go_enter func4,ntmps4
 refine eC 7 [0] m ?_;simp only[↓aD];intro g1;intro u m;refine mW m rfl rfl ajN 4 [0] ?_;simp only[↓aD];intro u m;refine aC aM ?_;replace m:=m.nilO 39 9;refine aS 7 [0] m ?_;simp only[↓aD];intro u m;refine cE [6,7] [11,12,13,14,15,16,17,18,19,20,21,22,23,24,25,26,27,28] (fun n vs wl=>∃(k:Nat) (A6:Option Addr) (cap6:Nat),vs=[.slice A6 k cap6,.int .i64 (k:Int)]∧Mem w wl [oI 39 9 A6 k cap6 (((us.take k).map t3m).flatMap aN),bI g1 [.int .i64 p.x,.int .i64 p.y,.int .i64 p.z,.int .i64 q.x,.int .i64 q.y,.int .i64 q.z] 37]∧(k≤N∧k≤20)∧(n=N-k)) ?_ ?_
 · skip
   apply Exists.intro;simp only[zQ,zR,zD,zE];exact⟨0,_,_,rfl,m,⟨br _,br _⟩,rfl⟩
 · intro n vs wr hI u K1 hK1
   clear m;obtain⟨k,A6,cap6,rfl,m,hk,hn⟩:=hI;simp only[zu,zF,zG];refine aW 8 [0,0] m ?_;simp only[↓aD,ar4];intro u m;refine cS rfl (fun hb=>aH) (cS rfl (fun hb=>rA (aV hb rfl) rfl) (aC (bU rfl rfl rfl) ?_));refine aS 1 [0] m ?_;simp only[↓aD];intro u m;refine cN rfl (fun hc1=>?_) (fun hc1=>?_)
   · skip
     have hk2:k<N∧k<20:=by simp only[be,decide_eq_true_eq] at hc1;omega
     obtain⟨t,ht,hit,a,hA,hrow⟩:=hT.get (i:=k) (by omega);subst hA;refine aW 7 [0] m ?_;simp only[↓aD];intro u m;refine aC (aF underlying35 Yy rfl rfl (by omega) (by omega) (bZ (ai _))) ?_;simp only[zz];refine aQ rfl (show fL _ _ _ _ (tr t) from (hrow.ext m.ext).lies aoA Yy) ?_;simp only[zz];refine lJ m rfl rfl (aqm (t:=t)) ?_;clear m;intro u m;simp only[zz];refine fH rfl ?_;intro u g2 e hg hB;replace m:=m.newB e hg hB;clear e hg hB;simp only[zz];refine bQ m 1 rfl rfl cC kA rfl (by decide) rfl rfl rfl (m.b 0 rfl).rowsO (fW rfl) (by omega) (by omega) ?_;clear m;intro A6 cap6 u m;simp only[zF,zG] at m;rw[show ((us.take k).map t3m).flatMap aN++_=((us.take (k+1)).map t3m).flatMap aN by rw[bX ht,cl,ba];rfl] at m;refine aS 8 [0] m ?_;simp only[↓aD];refine⟨by omega,?_⟩;intro u m;refine hK1 (N-(k+1)) _ _ ?_ ?_ ?_
     · omega
     · simp only[zz,zv]
     · simp only[zQ,zR,zD,zE]
       exact⟨k+1,_,_,rfl,(m.sel [false,true,true]),by omega,rfl⟩
   · skip
     have hkl:((us.take k).map t3m).length=k:=by rw[dz,cj];omega
     refine aW 5 [1,0] m ?_;simp only[↓aD,alX,Hj,ad,ag,aa];refine⟨by omega,?_⟩;intro u m;refine mW m rfl rfl (Ii (p:=p)) 7 [0,2,0] ?_;simp only[↓aD,eY,aO,alX,Hj,aa,ad,ag];intro g2;refine⟨by omega,?_⟩;intro u m;refine mW m rfl rfl (Ii (p:=q)) 4 [0,0] ?_;simp only[↓aD,eY,aO,aa];intro g3;intro u m;refine mh m [true,true,true,true] [(0,true),(1,true),(2,true),(6,true),(3,true),(4,true),(7,true),(8,true),(5,false),(9,false),(10,false),(11,true),(12,true),(13,true),(17,true),(14,true),(15,true),(18,true),(19,true),(16,false),(20,false),(21,true),(22,true),(23,true)] aB (by kernel_rfl) (bT (fun _ _ _ _ _ h=>h)) (ol:=?_) ?hol ?_
     case hol=>simp only[zw,zQ,zR];try rfl
     clear m;intro u m;refine bB aH (bB aH (jP rfl (bB aH (jP rfl (bB aH ?_)))));simp only[zz];refine jP rfl (eN rfl (fun u m=>((m.b 1 rfl).full aG aA)) ?_);simp only[zz];refine jP rfl (eN rfl (fun u m=>((m.b 0 rfl).full aG aA)) ?_);simp only[zz];refine jP rfl (eN rfl (fun u m=>((m.b 1 rfl).full aG aA)) ?_);simp only[zz];refine jP rfl (eN rfl (fun u m=>((m.b 0 rfl).full aG aA)) ?_);simp only[zz];refine bK (dN rfl (bJ rfl rfl (xX (ts:=((us.take k).map t3m)) (p:=Ng p) (q:=Ng q) _ ((m.o 2 rfl).tris Ku) (by omega)) ?_));rintro v u e ⟨A12,cap12,n12,hn12,rfl,hN⟩;replace m:=m.newO e hN;clear e hN;subst hn12;refine aK (⟨m.sel [false,true,true,true,true],?_⟩);refine bK (dN rfl ?_);simp only[zz];refine bJ rfl rfl (Lv (ts:=((us.take k).map t3m)) (p:=Ng p) (q:=Ng q) _ ((m.o 3 rfl).tris Ku) (by omega)) ?_;rintro v u e ⟨A13,cap13,n13,hn13,rfl,hN⟩;replace m:=m.newO e hN;clear e hN;subst hn13;refine aK (⟨m.sel [false,false,true,true,true,true],?_⟩);refine bK (dN rfl ?_);simp only[zz];refine cU m rfl rfl (yI (alv (xs:=(nJ ((us.take k).map t3m) (Ng p) (Ng q))) (ys:=(nJ ((us.take k).map t3m) (Ng p) (Ng q))) _ ((m.o 1 rfl).tris (wS (Cx inferInstance Ku))) ((m.o 0 rfl).tris (wS (Cx inferInstance Ku))) (by have h1:=Hs (p:=Ng p) (q:=Ng q) ((us.take k).map t3m);have h2:=Cp (Ng p) (Ng q) ((us.take k).map t3m);omega)) (by rw[decide_eq_true rfl])) ?_;clear m;rintro v u m rfl;refine aK (⟨m.sel [false,false,true,true,true,true],?_⟩);refine bB (sM rfl) (bB aH (jP rfl (bB aH ?_)));simp only[zz];refine jP rfl (bB aH (jP rfl ?_));simp only[zz];refine eN rfl (fun u m=>((m.b 1 rfl).full aG aA)) ?_;simp only[zz];refine jP rfl (eN rfl (fun u m=>((m.b 0 rfl).full aG aA)) ?_);simp only[zz];refine jP rfl (eN rfl (fun u m=>((m.b 1 rfl).full aG aA)) ?_);simp only[zz];refine jP rfl (eN rfl (fun u m=>((m.b 0 rfl).full aG aA)) ?_);simp only[zz];refine bK (dN rfl (cU m rfl rfl (Db (ts:=((us.take k).map t3m)) (p:=Ng p) (q:=Ng q) _ ((m.o 4 rfl).tris Ku) (by omega)) ?_));clear m;rintro v u m rfl;refine aK (⟨m.sel [false,false,true,true,true,true],?_⟩);refine bK (dN rfl ?_);simp only[zz];refine cU m rfl rfl (Yq (ts:=((us.take k).map t3m)) (p:=Ng p) (q:=Ng q) _ ((m.o 4 rfl).tris Ku) (by omega)) ?_;clear m;rintro v u m rfl;refine aK (⟨m.sel [false,false,true,true,true,true],?_⟩);refine jP rfl (bB (abr Yx rfl rfl) (bB (sM rfl) (bB aM ?_)));simp only[zz];refine cK (lK 1 [] m ?_);simp only[↓aD];rintro u m rfl;refine aR rfl rfl ?_;try simp only[zD,zE]
     exact⟨_,rfl,m.ext,by simp⟩
end Go.Proofs.YtfekpcimgncioaaGreatDoor
namespace Go.Lith
open Go.RowKit Go.ChangeShapes
variable {H:Type} {enc:an × ah→H} {P:Program}
theorem Mc(hl:laidOutB P=true){W W':aj}(hb:fN W W'){sp:Nat→Bool} :
 ∀{ts:List an} {vs:List ah} {ds:List (DataW H)} {ps:List MemPlace},(ts.all fun t=>P.readableRec t&&decide (t<P.types.size))=true→DataW.TrodAll enc P W 0 (fun _=>true) true ts vs ds ps→(∀p∈ps,sp p.block=true)→DataW.TrodAll enc P W' 0 sp true ts vs ds ps
 | [],[],[],_,_,h,_=>h
 | [],[],_::_,_,_,h,_=>h.elim
 | [],_::_,_,_,_,h,_=>h.elim
 | _::_,[],_,_,_,h,_=>h.elim
 | _::_,_::_,[],_,_,h,_=>h.elim
 | t::ts,v::vs,d::ds,ps,hv,h,hs=>by
  obtain⟨p,q,⟨n,h1⟩,h2,e⟩:=h;subst e;simp only[List.all_cons,be,decide_eq_true_eq] at hv;have hlt:=DataW.trod_lt n _ _ _ h1;exact⟨p,q,⟨n,DataW.trod_stays (kids_book hl hv.1.1) (book_sized hv.1.1) (fun h=>by cases h) ⟨hv.1.2,book_self t⟩ h1 (fun x hx=>Below.same hb (hlt x hx)) (fun x hx=>hs x (by simp[hx]))⟩,
   Mc hl hb (by simpa using hv.2) h2 (fun x hx=>hs x (by simp[hx])),rfl⟩
theorem abm{f:Func}{s:ChangeSpec}{apart fresh handsOn again:Bool}{W W':aj}{args:Array ah}{t:an}{ds gs:List (DataW H)}{before:List MemPlace}
 (hl:laidOutB P=true) (hps:(f.params.toList.all fun t=>P.readableRec t&&decide (t<P.types.size))=true) (hv:s.vars=[]) (hr:f.resultTypes = #[t]) (hu:P.underlying t=some .bool)
 (hW:DataW.Whole enc P f.params.toList s.vars apart W args.toList ds gs before) (hfn:(s.fn H (ds++gs)).results=[.lit (.bool true)]∧(s.fn H (ds++gs)).args=ds∧(s.fn H (ds++gs)).vars=[]) (hb:fN W W') :
 s.post enc P f apart fresh handsOn again W args (.bool true) W':=by
 have hW0:=hW;obtain⟨p,q,hA,hV,rfl,hz,hn⟩:=hW0;rw[hv] at hV;obtain⟨rfl,rfl⟩:=trodVars_none hV;have hargs:∀sp:Nat→Bool,(∀x∈p++[],sp x.block=true)→DataW.TrodAll enc P W' 0 sp true f.params.toList args.toList (s.fn H (ds++[])).args p:=fun sp hsp=>by
  rw[hfn.2.1];exact Mc hl hb hps hA (fun x hx=>hsp x (by simp[hx]))
 have hvars:∀sp:Nat→Bool,DataW.TrodVars enc P W' sp s.vars (s.fn H (ds++[])).vars []:=fun sp=>by
  rw[hv,hfn.2.2];exact rfl
 have hres:∀(b:Nat) (sp:Nat→Bool) (hd:Bool),DataW.TrodAll enc P W' b sp hd f.resultTypes.toList ((bw true).resultList f.resultTypes.size) (s.fn H (ds++[])).results []:=fun b sp hd=>by
  rw[hr,hfn.1];exact trodAll_cons_mk (shut_bool hu true) trodAll_mk0
 have hok:∀(j:Nat) (t:an) (r:ah),f.resultTypes[j]? = some t→((bw true).resultList f.resultTypes.size)[j]? = some r→lw P W' .any 0 t r:=ok_one hr rfl (okWide_bool_mk hu _);have hlt:∀x∈p++[],x.block<W.heap.size:=hW.lt;have hold:∀x∈p++[],(fun b=>decide (b<W.heap.size)) x.block=true:=fun x hx=>by simpa using hlt x hx
 refine⟨ds,[],p++[],[],p,[],hW,hres _ _ _,hargs _ hold,hvars _,Below.frame hb _,fun _=>?_⟩;refine⟨hok,_,_,([]++p)++[],⟨[]++p,[],trodAll_append (hargs _ (fun _ _=>rfl)) (hres _ _ _),hvars _,rfl,?_,?_⟩,?_⟩
 · intro b off hp
   have h1:MemPlace.cell b off∈p++[]:=by simpa using hp
   rw[Below.frozen hb (p:=⟨b,off,none⟩) (hlt _ h1)];exact hz b off h1
 · intro ha
   simpa using hn ha
 · intro x hp _
   simpa using hp
end Go.Lith
