/-
 Texts of one claim, laid together: Tch1, K12, K13, K14, K15, K17, Tail, K18, Nest, Nest2, K19, Cn, Co, K20, K21, K22.
-/
import Derived.Test.YtfekpcimgncioaaGreatDoorWX7
open Nat renaming reduceAdd→aa,reduceMul→ah,zero_add→ap,le_refl→av,le_trans→aw,zero_le→bw,lt_or_ge→dz
open Int renaming reduceToNat→ag,toNat_natCast→ai,reduceAdd→an,lt_trichotomy→py
open Go renaming wp_region_lit→aj,Value→ak,World→am,wpList→au,TypeId→ay,MapEntry→cg,wpQuiet→cq
open List renaming mem_cons→ao,getElem?_eq_some_iff→ax,length_cons→az,length_append→a_,flatMap_append→be,take_of_length_le→bf,mem_singleton→bg,map_cons→bi,mem_cons_self→bj,mem_cons_of_mem→bm,mem_of_getElem?→bn,pairwise_cons→bq,mem_append→br,not_mem_nil→bt,nil_append→bv,length_take→bx,length_nil→b_,cons_append→cn,mem_map→cu,map_append→cz,mem_filter→c_,map_nil→db,mem_flatMap→df,all_eq_true→dt,any_eq_true→d_,toList_toArray→ec,mem_iff_getElem?→ej,filter_cons→ep,map_toArray→fb,append_nil→fe,getElem?_map→fj,length_filter_le→fu,filter_append→fx,size_toArray→gz,append_toArray→jb,push_toArray→jk,length_set→kd,nodup_nil→ku,filter_nil→mb,getElem_inj→om,getElem?_zip_eq_some→oq
open Go.Value renaming bool→ba
open Bool renaming and_eq_true→bh,eq_iff_iff→ii,not_eq_true'→ij,or_eq_true→im,and_false→lx,or_eq_false_iff→mg,false_and→mz,and_self→ns,true_and→nt,and_true→nw,or_true→qm
open Go.Exit renaming inBlock→bu
open Option renaming getD_some→de,isSome_iff_exists→di
open Array renaming replicate→fy,replicate_succ→iv,replicate_zero→iw
set_option maxHeartbeats 8000000
set_option linter.unusedSimpArgs false
set_option linter.unusedVariables false
set_option linter.unusedSectionVars false
namespace Go.Proofs.YtfekpcimgncioaaGreatDoor
open Go.Proofs.Tryz
open Go.RowKit Go.Lith
set_option maxRecDepth 100000
attribute [local irreducible] au cq eF bJ cD Code.wp
attribute [local congr] oG fS fT fU fV fW jR fX fY fZ gA gB gC gD gE gF gG gH eM eN gI gJ gL gM gN jT cW cX cA cU gK jS eO eP eQ gQ gR jU
variable{u c d q s:P3}{a:Int}
def abd(u:P3):Int:=if u.x≠0 then 0 else if u.y≠0 then 1 else if u.z≠0 then 2 else -1
theorem Ks{n:Int}:¬bR n=0↔n≠0:=not_congr iT
theorem Ge{n:Int}(h:¬¬bR n=0):¬n≠0:=fun k=>h (Ks.2 k)
theorem alY(h:¬Z3 u):abd u=(Ij u:Int):=by
 unfold abd Ij;unfold Z3 at h
 repeat' split
 all_goals first | rfl | (exfalso;omega)
theorem alZ(h:Z3 u):abd u = -1:=by
 obtain⟨h1,h2,h3⟩:=h;simp[abd,h1,h2,h3]
class N4(p:P3):Prop where
 x : -549755813888<p.x∧p.x<549755813888
 y : -549755813888<p.y∧p.y<549755813888
 z : -549755813888<p.z∧p.z<549755813888
theorem N3.cross{v:P3}(hu:N3 u)(hv:N3 v):N4 (u.cross v):=by
 have h1:=Ci hu.y hv.z;have h2:=Ci hu.z hv.y;have h3:=Ci hu.z hv.x;have h4:=Ci hu.x hv.z;have h5:=Ci hu.x hv.y;have h6:=Ci hu.y hv.x;exact⟨by simp only[P3.cross];omega,by simp only[P3.cross];omega,by simp only[P3.cross];omega⟩
theorem qT{b:Int}(ha : -549755813888<a∧a<549755813888)(hb:b.natAbs<524288) : -288230376151711744<a*b∧a*b<288230376151711744:=by
 have h:(a*b).natAbs≤549755813887*524287:=by rw[Int.natAbs_mul];exact Nat.mul_le_mul (by omega) (by omega)
 omega
theorem agu  : gS prog 304 [sg u] (.int .i64 (abd u)):=by
 intro w;refine⟨bO func304 (by kernel_rfl),?_⟩;have m:=Mem.refl w
 go_enter func304,ntmps304
 apply nM 26 [0,4,1,0] m;simp only[↓aD,akC];intro g1;refine⟨by omega,?_⟩;intro u m;refine aB (kC O O) ?_;apply aM 8 [0,0] m;simp only[↓aD];refine bK O ?_ ?_<;>intro hc2
 ·
  apply aL 6 [] m;simp only[↓aD];refine aY O O ?_;try simp only[zD,zE]
  exact⟨_,O,m.ext,by rw[abd,if_pos (Ks.1 hc2)]⟩
 ·
  have hq0:=hc2;apply aL 19 [1,0] m;simp only[↓aD,an];refine⟨by omega,?_⟩;refine aB (kD O O) ?_;apply aM 8 [0,0] m;simp only[↓aD];refine bK O ?_ ?_<;>intro hc2
  ·
   apply aL 6 [] m;simp only[↓aD];refine aY O O ?_;try simp only[zD,zE]
   exact⟨_,O,m.ext,by rw[abd,if_neg (Ge hq0),if_pos (Ks.1 hc2)]⟩
  ·
   have hq1:=hc2;apply aL 19 [1,0] m;simp only[↓aD,an];refine⟨by omega,?_⟩;refine aB (kE O O) ?_;apply aM 8 [0,0] m;simp only[↓aD];refine bK O ?_ ?_<;>intro hc2
   ·
    apply aL 6 [] m;simp only[↓aD];refine aY O O ?_;try simp only[zD,zE]
    exact⟨_,O,m.ext,by rw[abd,if_neg (Ge hq0),if_neg (Ge hq1),if_pos (Ks.1 hc2)]⟩
   ·
    have hq2:=hc2;apply aL 19 [2] m;simp only[↓aD,an];refine⟨by omega,?_⟩;refine aY O O ?_;try simp only[zD,zE]
    exact⟨_,O,m.ext,by rw[abd,if_neg (Ge hq0),if_neg (Ge hq1),if_neg (Ge hq2)]⟩
theorem abe{v:P3}(hu:N4 u)(hv:N3 v):gS prog 308 [nv u,nv v] (.int .i64 (u.dot v)):=by
 intro w;refine⟨bO func308 (by kernel_rfl),?_⟩;have m:=Mem.refl w
 go_enter func308,ntmps308
 apply nM 12 [1,0,0] m;simp only[↓aD,uR,eW,ag,ah,aa];intro g1 g2;refine⟨by omega,?_⟩;intro u m;refine aB (sD O O (bH (by have h1:=qT hu.x hv.x;have h2:=qT hu.y hv.y;have h3:=qT hu.z hv.z;omega) (by have h1:=qT hu.x hv.x;have h2:=qT hu.y hv.y;have h3:=qT hu.z hv.z;omega))) ?_;apply aM 4 [1,0,0] m;simp only[↓aD,uR,eW,ag,ah,aa];refine⟨by omega,?_⟩;refine aB (sD O O (bH (by have h1:=qT hu.x hv.x;have h2:=qT hu.y hv.y;have h3:=qT hu.z hv.z;omega) (by have h1:=qT hu.x hv.x;have h2:=qT hu.y hv.y;have h3:=qT hu.z hv.z;omega))) (aB (fH rfl rfl (bH (by have h1:=qT hu.x hv.x;have h2:=qT hu.y hv.y;have h3:=qT hu.z hv.z;omega) (by have h1:=qT hu.x hv.x;have h2:=qT hu.y hv.y;have h3:=qT hu.z hv.z;omega))) ?_);apply aM 4 [1,0,0] m;simp only[↓aD,uR,eW,ag,ah,aa];refine⟨by omega,?_⟩;refine aB (sD O O (bH (by have h1:=qT hu.x hv.x;have h2:=qT hu.y hv.y;have h3:=qT hu.z hv.z;omega) (by have h1:=qT hu.x hv.x;have h2:=qT hu.y hv.y;have h3:=qT hu.z hv.z;omega))) (aB (fH rfl rfl (bH (by have h1:=qT hu.x hv.x;have h2:=qT hu.y hv.y;have h3:=qT hu.z hv.z;omega) (by have h1:=qT hu.x hv.x;have h2:=qT hu.y hv.y;have h3:=qT hu.z hv.z;omega))) ?_);apply aM 3 [] m;simp only[↓aD];exact aY O O ⟨_,O,m.ext,O⟩
theorem wP{a b:P3}[I3 a][I3 b][I3 c][I3 d]:gS prog 243 [pt a,pt b,pt c,pt d] (.int .i64 (bR (((b.sub a).cross (c.sub a)).dot (d.sub a)))):=by
 intro w;refine⟨bO func243 (by kernel_rfl),?_⟩;have m:=Mem.refl w
 go_enter func243,ntmps243
 apply nM 15 [3,2,1,0,0] m;simp only[↓aD,aS];intro g1 g2 g3 g4 u m;refine Xv O O O O ?_;intro u g5 e_ h_ k_;replace m:=m.newB e_ h_ k_;simp only[zz];refine dH m O O (Yv _ (m.b 0 O)) ?_;rintro v u m ⟨bo,rfl,hsm⟩;apply aM 1 [0] m;simp only[↓aD];refine lV O ?_ ?_<;>intro hc1
 ·
  obtain⟨_,_,_,_⟩:=hsm hc1;apply aL 1 [0] m;simp only[↓aD];refine mq m aF (by kernel_rfl) (ql O (fun u m=>((m.b 4 O).full aH aA)) ?_);simp only[zz];refine ql O (fun u m=>((m.b 3 O).full aH aA)) ?_;simp only[zz];refine kR O O rW ?_;simp only[zz];refine ql O (fun u m=>((m.b 4 O).full aH aA)) ?_;simp only[zz];refine ql O (fun u m=>((m.b 2 O).full aH aA)) ?_;simp only[zz];refine kR O O rW ?_;simp only[zz];refine kR O O (Hf inferInstance inferInstance) ?_;simp only[zz];refine ql O (fun u m=>((m.b 4 O).full aH aA)) ?_;simp only[zz];refine ql O (fun u m=>((m.b 1 O).full aH aA)) ?_;simp only[zz];refine kR O O rW ?_;simp only[zz];refine kR O O (abe (N3.cross inferInstance inferInstance) inferInstance) ?_;simp only[zz];refine kR O O aa0 (aK aJ (bN ?_));intro u m;apply bF 1 [] m;simp only[↓aD];exact aY O O ⟨_,O,m.ext,O⟩
 ·
  apply aL 2 [0] m;simp only[↓aD];refine mq m aF (by kernel_rfl) (ql O (fun u m=>((m.b 4 O).full aH aA)) ?_);simp only[zz];refine ql O (fun u m=>((m.b 3 O).full aH aA)) ?_;simp only[zz];refine kR O O mO ?_;simp only[zz];refine ql O (fun u m=>((m.b 4 O).full aH aA)) ?_;simp only[zz];refine ql O (fun u m=>((m.b 2 O).full aH aA)) ?_;simp only[zz];refine kR O O mO ?_;simp only[zz];refine kR O O (Bl Bv.of Bv.of) ?_;simp only[zz];refine ql O (fun u m=>((m.b 4 O).full aH aA)) ?_;simp only[zz];refine ql O (fun u m=>((m.b 1 O).full aH aA)) ?_;simp only[zz];refine kR O O mO ?_;simp only[zz];refine kR O O (Eo Bv.of Bv.of) ?_;simp only[zz];refine kR O O (Na Bw.up) (aK aJ (bN ?_));intro u m;apply bF 1 [] m;simp only[↓aD];exact aY O O ⟨_,O,m.ext,O⟩
theorem yZ{p:P3}:gS prog 305 [pt p,pt q] (.tuple #[pt (xF p q),pt (Cn p q)]):=by
 intro w;refine⟨bO func305 (by kernel_rfl),?_⟩;have m:=Mem.refl w
 go_enter func305,ntmps305
 apply nM 12 [2,3,0] m;simp only[↓aD,dN,aS];intro g1 g2 g3 g4 u m;refine wQ m O O tL.pure 1 [0] ?_;simp only[↓aD];intro u m;refine bK O ?_ ?_<;>intro hc1
 ·
  apply aL 1 [0] m;simp only[↓aD];refine zvt [false,false,true,true] [[0],[1],[1],[0]] (.take 0 (.take 1 (.one 2 (.one 3 .nil)))) m aF (by kernel_rfl) (cB (fun _ _ _ _ _ h=>h)) ?_;simp only[↓aD,↓zzu,aS,aa];intro u m;apply bF 1 [] m;simp only[↓aD];refine nP O ⟨_,O,((m.b 1 O).full aH aA)⟩ ⟨_,O,((m.b 0 O).full aH aA)⟩ ?_;try simp only[zD,zE]
  exact⟨_,O,m.ext,by rw[xF,Cn,if_pos hc1,if_pos hc1];rfl⟩
 ·
  apply aL 2 [0] m;simp only[↓aD];refine zvt [false,false,true,true] [[1],[0],[1],[0]] (.take 0 (.take 1 (.one 2 (.one 3 .nil)))) m aF (by kernel_rfl) (cB (fun _ _ _ _ _ h=>h)) ?_;simp only[↓aD,↓zzu,aS,aa];intro u m;apply bF 1 [] m;simp only[↓aD];refine nP O ⟨_,O,((m.b 1 O).full aH aA)⟩ ⟨_,O,((m.b 0 O).full aH aA)⟩ ?_;try simp only[zD,zE]
  exact⟨_,O,m.ext,by rw[xF,Cn,if_neg hc1,if_neg hc1];rfl⟩
instance (a b c:Int):Decidable (Ou a b c):=inferInstanceAs (Decidable (_∨_))
instance {p q:P3}[I3 p][I3 q]:I3 (xF p q):=by unfold xF;split <;> assumption
instance {p q:P3}[I3 p][I3 q]:I3 (Cn p q):=by unfold Cn;split <;> assumption
theorem aoF{b c:Int}:(decide (0≤(if c<(if b<a then b else a) then c else if b<a then b else a))||decide ((if (if a<b then b else a)<c then c else if a<b then b else a)≤0))=decide (Ou a b c):=by
 unfold Ou;rw[←Bool.decide_or]
 congr 1
 apply propext;constructor
 ·
  intro h
  repeat' split at h
  all_goals omega
 ·
  intro h
  repeat' split
  all_goals omega
theorem aoG{b c:Int}:gS prog 307 [.agg #[.int .i64 a,.int .i64 b,.int .i64 c]] (.bool (decide (Ou a b c))):=by
 intro w;refine⟨bO func307 (by kernel_rfl),?_⟩;have m:=Mem.refl w
 go_enter func307,ntmps307
 apply nM 13 [0,0,0,0] m;simp only[↓aD,nA,eW,ag,ah,aa];intro g1;refine⟨by omega,?_⟩;intro u m;refine aB (arG O O O O) ?_;apply aM 2 [0,0] m;simp only[↓aD];refine eL O (fun hb=>aN xA cN O O (by decide) (by decide) O) ?_;simp only[zz];refine fG O (fun hb=>aZ (aX hb O) ((m.b 0 O).lies1 bT O)) (eL O (fun hb=>aN xA cN O O (by decide) (by decide) O) ?_);simp only[zz];refine fG O (fun hb=>aZ (aX hb O) ((m.b 0 O).lies1 bT O)) (eL O (fun hb=>aN xA cN O O (by decide) (by decide) O) ?_);simp only[zz];refine fG O (fun hb=>aZ (aX hb O) ((m.b 0 O).lies1 bT O)) (eL O (fun hb=>arH (aX hb O) (aX hb O) (aX hb O) O) (eL O (fun hb=>Ws (aX hb O) O) (aB (eG O O O) ?_)));apply aM 3 [] m;simp only[↓aD];refine aY O O ?_;try simp only[zD,zE]
 exact⟨_,O,m.ext,by rw[←aoF]⟩
theorem agv{t:T3}(w:am):dR prog 303 [tr t] w (fun v w'=>∃g,v=.func (.func 337) #[] #[.pointer (some ⟨g,0,none⟩)]∧w.heap.size≤g∧fE w' g (aP t) 39):=by
 refine⟨bO func303 (by kernel_rfl),?_⟩;have m:=Mem.refl w
 go_enter func303,ntmps303
 apply nM 7 [0] m;simp only[↓aD];intro g1 u m;refine aB eS ?_;simp only[zz,fb,bi,db];apply aM 3 [] m;simp only[↓aD];exact aY O O ⟨_,O,m.ext,_,O,m.ge _ bj _ O,(m.b 0 O)⟩
theorem Ov(n:Nat)(hn:1≤n)(Bs n₀:Nat)(t:T3)(w:am)(hB:fE w Bs (aP t) 39):SeqStopsK Fence.wide n prog 337 #[.pointer (some ⟨Bs,0,none⟩)] (fun x:Nat=>apB t x) (oB n₀ Bs) (fun ys=>ys=[0,1,2]) (fun pre=>∀k∈pre,k<3) 3 w:=fun l J Jx W hW hJ hJx hY h0 =>
 aih n hn l Bs n₀ t J Jx (fun s W h=>hJ s W _ none h ⟨rfl,rfl,rfl,av _,fun _ _ _=>rfl⟩ (fun r e=>by cases e)) hY W ((hW.block Bs hB.lt).trans hB) h0
theorem Ev{l:List ak}{ty:ay}{x y:Operand}{v:P3}{k:Nat}(hk:k<3)(hx:ev l x=sg v)(hy:ev l y=.int .i64 (k:Int)):iO prog l (.index 36 x y) ty (.int .i64 (bR (qA v k))):=by
 have h:k=0∨k=1∨k=2:=by omega
 rcases h with rfl | rfl | rfl
 · exact kC hx hy
 · exact kD hx hy
 · exact kE hx hy
theorem agw(n:Int) : -1≤bR n∧bR n≤1:=by
 unfold bR;split
 · omega
 · split <;> omega
theorem Yz(m n:Int):IntKind.i64.wrap (bR m*bR n)=bR m*bR n:=by
 have h1:=agw m;have h2:=agw n;have h3:bR m = -1∨bR m=0∨bR m=1:=by omega
 rcases h3 with h | h | h <;> rw[h] <;> exact bH (by omega) (by omega)
theorem ac0{a b:P3}[I3 a][I3 b][I3 c][I3 d]{g50 k:Nat}(w:am)(hB50:fE w g50 [.int .i64 (k:Int)] 3)(hk:k<3):dR prog 338 [pt a,pt b,pt c,pt d,.pointer (some ⟨g50,0,none⟩)] w (fun v _=>v=.bool (decide (bR (qA (uV a b c) k)*bR (qA (uV a b d) k)≤0))):=by
 refine⟨bO func338 (by kernel_rfl),?_⟩;have m:=Mem.refl w
 go_enter func338,ntmps338
 apply nM 9 [0] m;simp only[↓aD];intro g1 g2 g3 g4 u m;refine mq m aF (by kernel_rfl) (iB 4 [3,2,3,1] ?_);simp only[↓aD,aS];refine kR O O (tN (a:=a) (b:=b) (c:=a) (d:=c)) ?_;simp only[zz];refine ql O (fun u m=>((hB50.ext m.ext).lies1 bT O)) ?_;simp only[zz];refine aK ((Ev (v:=uV a b c) hk O O)) (iB 4 [3,2,3,0] ?_);simp only[↓aD,aS];refine kR O O (tN (a:=a) (b:=b) (c:=a) (d:=d)) ?_;simp only[zz];refine ql O (fun u m=>((hB50.ext m.ext).lies1 bT O)) ?_;simp only[zz];refine aK ((Ev (v:=uV a b d) hk O O)) (aK (sD O O (Yz _ _)) (aK (Ws O O) (aK aJ ?_)));simp only[zz];refine bN ?_;intro u m;apply bF 1 [] m;simp only[↓aD];exact aY O O ⟨_,O,m.ext,O⟩
section
variable {P:Program} {ops:Array Oper} {Q:Exit→Act→am→Prop} {rest:List Oper} {d j:Nat} {ty:ay} {pos:String} {after:Array Edge} {v:ak} {b:Bool} {ds:List Deferred} {l:List ak} {w w0:am} {is:List It}
variable {f:FuncId} {fo:Operand} {xs:Array Operand} {args:List ak} {first cap:Array ak} {a0:Array ay}
theorem agx(m:Mem w0 w is)(hw:yielded ops l.toArray j=some b)(hf:b=true→ev l fo=.func (.func f) first cap)(hxs:b=true→first.toList++xs.toList.map (ev l)++cap.toList=args)(hc:b=true→dR P f args w fun x _=>x=v)
 (h:∀u,Mem w0 u is→au P ops Q rest (Fr (l.set d (Ps b v)) ds) u):au P ops Q (Oper.mk (some d) (.call { callee:=.value fo,args:=xs,argTypes:=a0 }) ty pos after (some (j,true))::rest) (Fr l ds) w:=by
 cases b with
 | false=>simp only[De] at h;exact kX hw (h w m)
 | true=>simp only[lN] at h;exact eY hw (dH m (hf rfl) (hxs rfl) (hc rfl) fun x u m e=>by subst e;exact h u m)
end
theorem Ew(h:¬Z3 u):Ij u=Py u∧Py u<3:=by
 unfold Ij Py;unfold Z3 at h;by_cases h1:u.x=0 <;> by_cases h2:u.y=0 <;> by_cases h3:u.z=0 <;> simp[h1,h2,h3] at h ⊢
theorem apD(h:Z3 u):¬Py u<3:=by
 obtain⟨h1,h2,h3⟩:=h;simp[Py,h1,h2,h3]
theorem al0{b:Int}:bR a*bR b≤0↔a*b≤0:=by
 unfold bR;rcases py a 0 with ha | ha | ha <;> rcases py b 0 with hb | hb | hb
 · have:=Int.mul_pos_of_neg_of_neg ha hb
   simp[ha,hb];omega
 · simp[hb]
 · have:=Int.mul_neg_of_neg_of_pos ha hb
   have:¬b<0:=by omega
   simp[ha,hb,this];omega
 · simp[ha]
 · simp[ha]
 · simp[ha]
 · have:=Int.mul_neg_of_pos_of_neg ha hb
   have:¬a<0:=by omega
   simp[ha,hb,this];omega
 · simp[hb]
 · have:=Int.mul_pos ha hb
   have:¬a<0:=by omega
   have:¬b<0:=by omega
   simp[*]
def uX(p q r s:P3):T3:=if xF p q=Cn p q then ⟨xF r s,Cn r s,xF p q⟩ else ⟨xF p q,Cn p q,xF r s⟩
theorem Za{p:P3}(hp:I3 p)(hq:I3 q):I3 (xF p q)∧I3 (Cn p q):=by
 unfold xF Cn;split
 · exact⟨hq,hp⟩
 · exact⟨hp,hq⟩
instance {p q r s:P3}[hp:I3 p][hq:I3 q][hr:I3 r][hs:I3 s]:IT (uX p q r s):=by
 unfold uX;split
 · exact⟨(Za hr hs).1,(Za hr hs).2,(Za hp hq).1⟩
 · exact⟨(Za hp hq).1,(Za hp hq).2,(Za hr hs).1⟩
theorem arI{p r:P3}(h:(xF p q).x=(Cn p q).x∧(xF p q).y=(Cn p q).y∧(xF p q).z=(Cn p q).z):uX p q r s=⟨xF r s,Cn r s,xF p q⟩:=if_pos (P3.eq h.1 h.2.1 h.2.2)
theorem arJ{p r:P3}(h:¬((xF p q).x=(Cn p q).x∧(xF p q).y=(Cn p q).y∧(xF p q).z=(Cn p q).z)):uX p q r s=⟨xF p q,Cn p q,xF r s⟩:=if_neg fun e=>h (by rw[e];exact⟨rfl,rfl,rfl⟩)
theorem apE(u:P3):Py u≤3:=by
 unfold Py;split
 · omega
 · split
   · omega
   · split <;> omega
theorem atx{p r:P3}(h:Z3 (Hu p q r s)):(oO (uX p q r s) && !decide ((Cn p q).Lt (xF r s)) && !decide ((Cn r s).Lt (xF p q)))=mA p q r s:=by
 unfold mA;rw[if_neg (apD h)];unfold asR
 congr 2
 unfold uX oO akl;split
 · refine decide_eq_decide.2 ?_
   have:=apE (uV (xF r s) (Cn r s) (xF p q));simp only;omega
 · refine decide_eq_decide.2 ?_
   have:=apE (uV (xF p q) (Cn p q) (xF r s));simp only;omega
theorem aoH{p r:P3}(h:¬Z3 (Hu p q r s)):(decide (bR (Iq p q r s)=0)&&decide (bR (qA (uV p q r) (Py (Hu p q r s)))*bR (qA (uV p q s) (Py (Hu p q r s)))≤0)&&decide (bR (qA (uV r s p) (Py (Hu p q r s)))*bR (qA (uV r s q) (Py (Hu p q r s)))≤0))=mA p q r s:=by
 unfold mA;rw[if_pos (Ew h).2];simp only[al0,iT]
theorem Qp{p r:P3}[I3 p][I3 q][I3 r][I3 s]:gS prog 306 [pt p,pt q,pt r,pt s] (.bool (mA p q r s)):=by
 intro w;refine⟨bO func306 (by kernel_rfl),?_⟩;have m:=Mem.refl w
 go_enter func306,ntmps306
 apply nM 13 [3,2,1] m;simp only[↓aD,aS];intro g1 g2 g3 g4 u m;apply bF 1 [0,0] m;simp only[↓aD,aS];refine oP m O O (tN (a:=p) (b:=q) (c:=r) (d:=s)) ?_;intro u m;simp only[zz];refine wQ m O O (agu (u:=Hu p q r s)) 5 [0] ?_;simp only[↓aD,at3,eW,aa];intro g5 u m;by_cases hf:Z3 (Hu p q r s)
 ·
  rw[alZ hf] at m;apply bF 10 [0,2,4,3,0] m;simp only[↓aD,eW,aS];refine⟨by omega,?_⟩;refine wQ m O O (yZ (p:=p) (q:=q)) 10 [4,3,2,1,0] ?_;simp only[↓aD,aS,aa];intro u m;refine wQ m O O (yZ (p:=r) (q:=s)) 12 [2,1,4,3,2] ?_;simp only[↓aD,aS,xK,aa];intro u m;apply zvn 8 [0,5,4,0] m;simp only[↓aD,nB,iG,aS,aa];intro g6 u m;refine aB (bS O O) ?_;apply aM 1 [0] m;simp only[↓aD];refine lY m 0 [] [62,63,64,65] (fun vs i=>vs=[]∧i=bI g6 [.int .i64 (uX p q r s).a.x,.int .i64 (uX p q r s).a.y,.int .i64 (uX p q r s).a.z,.int .i64 (uX p q r s).b.x,.int .i64 (uX p q r s).b.y,.int .i64 (uX p q r s).b.z,.int .i64 (uX p q r s).c.x,.int .i64 (uX p q r s).c.y,.int .i64 (uX p q r s).c.z] 39) ?_ ?_
  · intro K1 hK1
    refine bK O ?_ ?_<;>intro hc2
    ·
     apply Wi 6 [3,2,5,0] m;simp only[↓aD,aS,xK,iG,aa];intro u m;apply bF 1 [0] m;simp only[↓aD];exact hK1 _ _ _ (by kernel_rfl) m ⟨O,by rw[arI hc2] <;> rfl⟩
    ·
     apply aL 1 [0] m;simp only[↓aD];exact hK1 _ _ _ (by kernel_rfl) m ⟨O,by rw[arJ hc2] <;> rfl⟩
  · intro vs i wr m hI u
    obtain⟨rfl,rfl⟩:=hI;simp only[zF,zG] at m;simp only[zu,zF,zG];apply bF 3 [0,0] m;simp only[↓aD,iG];refine wQ m O O (aa3 (t:=uX p q r s)) 1 [0] ?_;simp only[↓aD];intro u m;refine fO O (fun hb=>aZ O ((m.b 4 O).full aH aA)) (fO O (fun hb=>aZ O ((m.b 3 O).full aH aA)) (afn m O O (fun hb=>by simp only[ec,bi,db,zA,zB,zC,zD,zE,hb,lN];rfl) (fun hb=>(tL (p:=Cn p q) (q:=xF r s)).pure) ?_));intro u m;refine dW O (fun hb=>mH (aX hb O)) (aB (cE O O O) ?_);apply aM 1 [0] m;simp only[↓aD];refine fO O (fun hb=>aZ O ((m.b 2 O).full aH aA)) (fO O (fun hb=>aZ O ((m.b 5 O).full aH aA)) (afn m O O (fun hb=>by simp only[ec,bi,db,zA,zB,zC,zD,zE,hb,lN];rfl) (fun hb=>(tL (p:=Cn r s) (q:=xF p q)).pure) ?_));intro u m;refine dW O (fun hb=>mH (aX hb O)) (aB (cE O O O) ?_);apply aM 3 [] m;simp only[↓aD];refine aY O O ?_;try simp only[zD,zE]
    exact⟨_,O,m.ext,by rw[Ig,atx hf]⟩
 ·
  rw[alY hf,(Ew hf).1] at m;apply bF 7 [0,1,0] m;simp only[↓aD,eW];refine⟨by omega,?_⟩;refine aB eS ?_;simp only[zz,fb,bi,db];apply aM 8 [4,3,2,1,0] m;simp only[↓aD,aS];refine wQ m O O (wP (a:=p) (b:=q) (c:=r) (d:=s)) 2 [0,0] ?_;simp only[↓aD];intro u m;refine dW O (fun hb=>aC) ?_;simp only[zz];refine fO O (fun hb=>aZ O ((m.b 4 O).full aH aA)) (fO O (fun hb=>aZ O ((m.b 3 O).full aH aA)) (fO O (fun hb=>aZ O ((m.b 2 O).full aH aA)) (fO O (fun hb=>aZ O ((m.b 1 O).full aH aA)) (agx m O (fun hb=>aX hb O) (fun hb=>by simp only[ec,bi,db,zA,zB,zC,zD,zE,hb,lN];rfl) (fun hb=>ac0 (a:=p) (b:=q) (c:=r) (d:=s) (k:=Py (Hu p q r s)) _ (m.b 0 rfl) (Ew hf).2) ?_))));intro u m;refine aB (cE O O O) ?_;apply aM 1 [0] m;simp only[↓aD];refine dW O (fun hb=>aC) ?_;simp only[zz];refine fO O (fun hb=>aZ O ((m.b 2 O).full aH aA)) (fO O (fun hb=>aZ O ((m.b 1 O).full aH aA)) (fO O (fun hb=>aZ O ((m.b 4 O).full aH aA)) (fO O (fun hb=>aZ O ((m.b 3 O).full aH aA)) (agx m O (fun hb=>aX hb O) (fun hb=>by simp only[ec,bi,db,zA,zB,zC,zD,zE,hb,lN];rfl) (fun hb=>ac0 (a:=r) (b:=s) (c:=p) (d:=q) (k:=Py (Hu p q r s)) _ (m.b 0 rfl) (Ew hf).2) ?_))));intro u m;refine aB (cE O O O) ?_;apply aM 3 [] m;simp only[↓aD];refine aY O O ?_;try simp only[zD,zE]
  exact⟨_,O,m.ext,by rw[←aoH hf];rfl⟩
end Go.Proofs.YtfekpcimgncioaaGreatDoor
namespace Go.Proofs.YtfekpcimgncioaaGreatDoor
open Go.Proofs.Tryz
open Go.RowKit Go.Lith
set_option maxRecDepth 100000
attribute [local irreducible] au cq eF bJ cD Code.wp
variable{q:P3}{t:T3}{k:Nat}
instance {t:T3}{k:Nat}[h:IT t]:I3 (t.cor k):=by
 unfold T3.cor;split
 · exact h.a
 · split
   · exact h.b
   · exact h.c
def al3:List Nat→Int
 | []=>0
 | [_]=>1
 | [_,_]=>2
 | _=>3
def l3(f:Nat→Int):List Nat→List ak
 | []=>[.int .i64 0,.int .i64 0,.int .i64 0]
 | [a]=>[.int .i64 (f a),.int .i64 0,.int .i64 0]
 | [a,b]=>[.int .i64 (f a),.int .i64 (f b),.int .i64 0]
 | a::b::c::_=>[.int .i64 (f a),.int .i64 (f b),.int .i64 (f c)]
theorem abf(u:P3):Ij u<3:=by
 unfold Ij
 repeat' split
 all_goals omega
def Uy(p q:P3)(t:T3):Prop:=Iq t.a t.b t.c p=0∧Iq t.a t.b t.c q=0
instance (p q:P3)(t:T3):Decidable (Uy p q t):=inferInstanceAs (Decidable (_∧_))
def Ex(p:P3)(t:T3)(k:Nat):P3:=uV (t.cor k) (t.cor ((k+1)%3)) p
def yB(p q:P3)(t:T3)(k:Nat):Int:=if Uy p q t then bR (qA (Ex p t k) (Ij t.normal)) else bR (Iq p q (t.cor k) (t.cor ((k+1)%3)))
theorem Kt{p:P3}(h:Uy p q t):yB p q t k=bR (qA (Ex p t k) (Ij t.normal)):=if_pos h
theorem Ku{p:P3}(h:¬Uy p q t):yB p q t k=bR (Iq p q (t.cor k) (t.cor ((k+1)%3))):=if_neg h
theorem Bu{p:P3}(h:(decide (bR (Iq t.a t.b t.c p)≠0)||decide (bR (Iq t.a t.b t.c q)≠0))=false):Uy p q t:=by
 simp only[mg,decide_eq_false_iff_not,ne_eq,Decidable.not_not,iT] at h;exact h
theorem Nk{p:P3}(h:(decide (bR (Iq t.a t.b t.c p)≠0)||decide (bR (Iq t.a t.b t.c q)≠0))=true):¬Uy p q t:=by
 simp only[iT,im,decide_eq_true_eq,ne_eq] at h;exact fun k=>h.elim (· k.1) (· k.2)
theorem ac1{a b c:Int}:Ou (bR a) (bR b) (bR c)↔Ou a b c:=by
 simp only[Ou,abK,ajd]
theorem Uz{a b:Int}:0<bR a*bR b↔0<a*b:=by
 have:=al0 (a:=a) (b:=b);omega
theorem aoI{p:P3}(hf:t.flat):mA p q (xF (xF t.a t.b) t.c) (Cn (Cn t.a t.b) t.c)=kI p q t:=by
 unfold kI;rw[show uV t.a t.b t.c=t.normal from rfl];rw[if_neg (apD hf)]
theorem arK{p:P3}(hf:¬t.flat)(h:0<bR (Iq t.a t.b t.c p)*bR (Iq t.a t.b t.c q)):false=kI p q t:=by
 unfold kI;rw[show uV t.a t.b t.c=t.normal from rfl];rw[if_pos (Ew hf).2,if_pos (Uz.1 h)]
theorem aty{p:P3}(hf:¬t.flat)(h:Uy p q t)(hk:k<3)(ho:mA p q (t.cor k) (t.cor ((k+1)%3))=true):true=kI p q t:=by
 unfold kI;rw[show uV t.a t.b t.c=t.normal from rfl];rw[if_pos (Ew hf).2,if_neg (by rw[h.1];simp),if_pos (show Iq t.a t.b t.c p=0∧Iq t.a t.b t.c q=0 from h)];have e:k=0∨k=1∨k=2:=by omega
 rcases e with rfl | rfl | rfl
 · rw[show mA p q t.a t.b=true from ho];rfl
 · rw[show mA p q t.b t.c=true from ho,qm];rfl
 · rw[show mA p q t.c t.a=true from ho,qm];rfl
theorem arL{p:P3}(hf:¬t.flat)(hg:¬0<bR (Iq t.a t.b t.c p)*bR (Iq t.a t.b t.c q))(h0:Uy p q t→∀k∈[0,1,2],mA p q (t.cor k) (t.cor ((k+1)%3))=false):decide (Ou (yB p q t 0) (yB p q t 1) (yB p q t 2))=kI p q t:=by
 unfold kI;rw[show uV t.a t.b t.c=t.normal from rfl];rw[if_pos (Ew hf).2,if_neg (fun h=>hg (Uz.2 h))];rw[ii,decide_eq_true_eq];by_cases h:Uy p q t
 · rw[if_pos (show Iq t.a t.b t.c p=0∧Iq t.a t.b t.c q=0 from h),show mA p q t.a t.b=false from h0 h 0 (by decide),show mA p q t.b t.c=false from h0 h 1 (by decide),show mA p q t.c t.a=false from h0 h 2 (by decide),Kt h,Kt h,Kt h,ac1]
   simp only[Bool.false_or,Bool.or_false,decide_eq_true_eq];rw[(Ew hf).1];exact Iff.rfl
 · rw[if_neg (show ¬(Iq t.a t.b t.c p=0∧Iq t.a t.b t.c q=0) from h),Ku h,Ku h,Ku h,ac1]
   unfold asS;simp only[im,bh,decide_eq_true_eq,and_assoc];exact Iff.rfl
theorem abg{p:P3}[I3 p][I3 q][IT t]:gS prog 242 [pt p,pt q,tr t] (.bool (kI p q t)):=by
 intro w;refine⟨bO func242 (by kernel_rfl),?_⟩;have m:=Mem.refl w;refine (callsIn_wide (n:=4)).1 (callsIn_of_wp_marks func242 O trivial ?_ O);simp only[ntmps242,gz,az,b_,aa,Nat.reduceSub,iv,iw,jk,jb,bv,cn];refine wpIn_wide.2 ?_;refine aT fun K1 k1=>aj (Rn m O ?_);intro g1 u m;simp only[zz];refine Rn m O ?_;intro g2 u m;simp only[zz];refine Rn m O ?_;intro g3 u m;simp only[zz];refine lA m jE O ?_;intro g4 u m;refine aI (k1 _ _ ?_);try clear k1 K1
 refine aT fun K2 k2=>aj (aB (aN dA aA O O (by decide) (by decide) O) ?_);simp only[zz];refine aQ O ((m.b 1 O).lies aH aA O O) ?_;simp only[zz,zy,ap,aa,ah,ag];refine aB (aN dA aA O O (by decide) (by decide) O) ?_;simp only[zz];refine aQ O ((m.b 1 O).lies aH aA O O) ?_;simp only[zz,zy,ap,aa,ah,ag];refine aB (aN dA aA O O (by decide) (by decide) O) ?_;simp only[zz];refine aQ O ((m.b 1 O).lies aH aA O O) ?_;simp only[zz,zy,ap,aa,ah,ag];refine aB (aN dA aA O O (by decide) (by decide) O) ?_;simp only[zz];refine aQ O ((m.b 1 O).lies aH aA O O) ?_;simp only[zz,zy,ap,aa,ah,ag];refine oP m O O (tN (a:=t.a) (b:=t.b) (c:=t.a) (d:=t.c)) ?_;intro u m;simp only[zz];refine oP m O O (agu (u:=t.normal)) ?_;intro u m;simp only[zz];refine lA m mS O ?_;intro g5 u m;simp only[zz];refine fK m 0 O O O cN (jO O) ⟨O,O⟩ ?_;intro u m;simp only[zz,zy,zx,bQ,aa] at m;refine aI (k2 _ _ ?_);try clear k2 K2
 refine aT fun K3 k3=>aT fun K4 k4=>?_;by_cases hf:t.flat
 ·
  rw[alZ hf] at m;refine aj (aQ O ((m.b 0 O).lies1 bT O) ?_);simp only[zz];refine aB (sG O O (by omega)) (aI (k4 _ _ ?_));try clear k4 K4
  refine wV O (aT fun K5 k5=>aj (aB (aN dA aA O O (by decide) (by decide) O) ?_));simp only[zz];refine aQ O ((m.b 2 O).lies aH aA O O) ?_;simp only[zz,zy,ap,aa,ah,ag];refine aB (aN dA aA O O (by decide) (by decide) O) ?_;simp only[zz];refine aQ O ((m.b 2 O).lies aH aA O O) ?_;simp only[zz,zy,ap,aa,ah,ag];refine oP m O O (yZ (p:=t.a) (q:=t.b)) ?_;intro u m;refine aB aC (aB (dD O O) (aB (dD O O) ?_));simp only[zz];refine lA m eC O ?_;intro g6 u m;simp only[zz];refine lA m eC O ?_;intro g7 u m;simp only[zz];refine cL m 1 O O O aA (jO O) O ?_;intro u m;simp only[zy,zx,bQ,zF,zG,aa] at m;refine cL m 0 O O O aA (jO O) O ?_;intro u m;simp only[zy,zx,bQ,zF,zG,aa] at m;refine aI (k5 _ _ ?_);try clear k5 K5
  refine aT fun K6 k6=>aj (aQ O ((m.b 1 O).full aH aA) ?_);simp only[zz];refine aB (aN dA aA O O (by decide) (by decide) O) ?_;simp only[zz];refine aQ O ((m.b 4 O).lies aH aA O O) ?_;simp only[zz,zy,ap,aa,ah,ag];refine oP m O O (yZ (p:=xF t.a t.b) (q:=t.c)) ?_;intro u m;refine aB aC (aB (dD O O) (aB (dD O O) ?_));simp only[zz];refine lA m eC O ?_;intro g8 u m;simp only[zz];refine lA m eC O ?_;intro g9 u m;simp only[zz];refine cL m 1 O O O aA (jO O) O ?_;intro u m;simp only[zy,zx,bQ,zF,zG,aa] at m;refine cL m 0 O O O aA (jO O) O ?_;intro u m;simp only[zy,zx,bQ,zF,zG,aa] at m;refine aI (k6 _ _ ?_);try clear k6 K6
  refine aT fun K7 k7=>aj (aQ O ((m.b 2 O).full aH aA) ?_);simp only[zz];refine aB (aN dA aA O O (by decide) (by decide) O) ?_;simp only[zz];refine aQ O ((m.b 6 O).lies aH aA O O) ?_;simp only[zz,zy,ap,aa,ah,ag];refine oP m O O (yZ (p:=Cn t.a t.b) (q:=t.c)) ?_;intro u m;refine aB aC (aB (dD O O) (aB (dD O O) ?_));simp only[zz];refine lA m eC O ?_;intro g10 u m;simp only[zz];refine lA m eC O ?_;intro g11 u m;simp only[zz];refine cL m 1 O O O aA (jO O) O ?_;intro u m;simp only[zy,zx,bQ,zF,zG,aa] at m;refine cL m 0 O O O aA (jO O) O ?_;intro u m;simp only[zy,zx,bQ,zF,zG,aa] at m;refine aI (k7 _ _ ?_);try clear k7 K7
  refine aT fun K8 k8=>aj (aQ O ((m.b 10 O).full aH aA) ?_);simp only[zz];refine aQ O ((m.b 9 O).full aH aA) ?_;simp only[zz];refine aQ O ((m.b 3 O).full aH aA) ?_;simp only[zz];refine aQ O ((m.b 0 O).full aH aA) ?_;simp only[zz];refine oP m O O (Qp (p:=p) (q:=q) (r:=xF (xF t.a t.b) t.c) (s:=Cn (Cn t.a t.b) t.c)) ?_;intro u m;simp only[zz];refine fK m 7 O O O tG (jO O) ⟨O,O⟩ ?_;intro u m;simp only[zz,zy,zx,bQ,aa] at m;refine aI (k8 _ _ ?_);try clear k8 K8
  refine wp_ret ?_;try simp only[bu,Exit.then,if_true]
  refine apC ?_;refine aY O ⟨_,O,((m.b 7 O).lies1 Jp O)⟩ ?_;try simp only[zD,zE]
  exact⟨_,O,m.ext,by rw[aoI hf]⟩
 ·
  rw[alY hf] at m;refine aj (aQ O ((m.b 0 O).lies1 bT O) ?_);simp only[zz];refine aB (Hi O O (by omega)) (aI (k4 _ _ ?_));try clear k4 K4
  refine Zk O (wp_skip (k3 _ _ ?_));try clear k3 K3
  refine aT fun K9 k9=>?_;simp only[zz];refine pO 18 [0,1,2,3,4,5,6,7,8,9,10,11,12,13,14,15] [⟨16,14,3,[.int .i64 0]⟩,⟨17,15,3,[.int .i64 0]⟩] aF (by kernel_rfl) (al2 ⟨_,_,_,O,by kernel_rfl,_,mS,O⟩ ⟨_,_,_,O,by kernel_rfl,_,mS,O⟩) (ol:=?_) ?hol ?_
  case hol=>simp only[zw,zQ,zR];try rfl
  intro u e_;replace m:=m.ext' e_;refine jF (aN dA aA O O (by decide) (by decide) O) ?_;simp only[zz];refine nU O (fun u e=>(((m.ext' e).b 2 O).lies aH aA O O)) ?_;simp only[zz,zy,ap,aa,ah,ag];refine jF (aN dA aA O O (by decide) (by decide) O) ?_;simp only[zz];refine nU O (fun u e=>(((m.ext' e).b 2 O).lies aH aA O O)) ?_;simp only[zz,zy,ap,aa,ah,ag];refine jF (aN dA aA O O (by decide) (by decide) O) ?_;simp only[zz];refine nU O (fun u e=>(((m.ext' e).b 2 O).lies aH aA O O)) ?_;simp only[zz,zy,ap,aa,ah,ag];refine nU O (fun u e=>(((m.ext' e).b 4 O).full aH aA)) ?_;simp only[zz];refine vD O O (wP (a:=t.a) (b:=t.b) (c:=t.c) (d:=p)) (jF (aN dA aA O O (by decide) (by decide) O) ?_);simp only[zz];refine nU O (fun u e=>(((m.ext' e).b 2 O).lies aH aA O O)) ?_;simp only[zz,zy,ap,aa,ah,ag];refine jF (aN dA aA O O (by decide) (by decide) O) ?_;simp only[zz];refine nU O (fun u e=>(((m.ext' e).b 2 O).lies aH aA O O)) ?_;simp only[zz,zy,ap,aa,ah,ag];refine jF (aN dA aA O O (by decide) (by decide) O) ?_;simp only[zz];refine nU O (fun u e=>(((m.ext' e).b 2 O).lies aH aA O O)) ?_;simp only[zz,zy,ap,aa,ah,ag];refine nU O (fun u e=>(((m.ext' e).b 3 O).full aH aA)) ?_;simp only[zz];refine vD O O (wP (a:=t.a) (b:=t.b) (c:=t.c) (d:=q)) (afl ?_);simp only[zz];refine mf2 m (by decide) ?_;intro g6 g7 u m;simp only[zJ,zK,zF,zG];refine fK m 1 O O O cN (jO O) ⟨O,O⟩ ?_;intro u m;simp only[zz,zy,zx,bQ,aa] at m;refine fK m 0 O O O cN (jO O) ⟨O,O⟩ ?_;intro u m;simp only[zz,zy,zx,bQ,aa] at m;refine aI (k9 _ _ ?_);try clear k9 K9
  refine aT fun K10 k10=>aT fun K11 k11=>aj (aQ O ((m.b 1 O).lies1 bT O) ?_);simp only[zz];refine aQ O ((m.b 0 O).lies1 bT O) ?_;simp only[zz];refine aB (sD O O (Yz _ _)) (aB (Nr O O) (aI (k11 _ _ ?_)));try clear k11 K11
  simp only[zz];refine bK O ?_ ?_<;>intro hc2
  ·
   refine aT fun K12 k12=>aj (fK m 3 O O O tG (jO O) ⟨O,O⟩ ?_);intro u m;simp only[zz,zy,zx,bQ,aa] at m;refine aI (k12 _ _ ?_);try clear k12 K12
   refine wp_ret ?_;try simp only[bu,Exit.then,if_true]
   refine apC ?_;refine aY O ⟨_,O,((m.b 3 O).lies1 Jp O)⟩ ?_;try simp only[zD,zE]
   exact⟨_,O,m.ext,by rw[←arK hf hc2]⟩
  ·
   refine wp_skip (k10 _ _ ?_);try clear k10 K10
   refine aT fun K13 k13=>aj (lA m anj O ?_);intro g8 u m;refine aI (k13 _ _ ?_);try clear k13 K13
   refine aT fun K14 k14=>aj ?_;simp only[zz];refine lA m mS O ?_;intro g9 u m;simp only[zz];refine fK m 0 O O O cN (jO O) ⟨O,O⟩ ?_;intro u m;simp only[zz,zy,zx,bQ,aa] at m;refine aI (k14 _ _ ?_);try clear k14 K14
   refine aT fun K15 k15=>aT fun K16 k16=>aj (aQ O ((m.b 6 O).full dK aR) ?_);simp only[zz];refine bB O O (agv (t:=t) _) ?_;rintro v u e_ ⟨g10,rfl,h_,k_⟩;replace m:=m.newB e_ h_ k_;refine aI (k16 _ _ ?_);try clear k16 K16
   refine wp_block ?_;simp only[zz];refine acU (v1:=fun x=>pt (t.cor x)) (v2:=fun x=>pt (t.cor ((x+1)%3))) (c1:=fun x=>[.int .i64 (t.cor x).x,.int .i64 (t.cor x).y,.int .i64 (t.cor x).z]) (c2:=fun x=>[.int .i64 (t.cor ((x+1)%3)).x,.int .i64 (t.cor ((x+1)%3)).y,.int .i64 (t.cor ((x+1)%3)).z]) (T1:=30) (T2:=30) (d1:=18) (d2:=19) (csB:=aP t) (tB:=39) O ajG (Ov 3 (by omega) g10 0 t _ (m.b 0 O)) (fun pre=>[bI g10 (aP t) 39,bI g9 [.int .i64 (al3 pre)] 3,bI g8 (l3 (yB p q t) pre) 36,bI g7 [.int .i64 (bR (Iq t.a t.b t.c q))] 3,bI g6 [.int .i64 (bR (Iq t.a t.b t.c p))] 3,bI g5 [.int .i64 (Ij t.normal:Int)] 3,bI g4 [.bool false] 4,bI g3 [.int .i64 t.a.x,.int .i64 t.a.y,.int .i64 t.a.z,.int .i64 t.b.x,.int .i64 t.b.y,.int .i64 t.b.z,.int .i64 t.c.x,.int .i64 t.c.y,.int .i64 t.c.z] 39,bI g2 [.int .i64 (q).x,.int .i64 (q).y,.int .i64 (q).z] 30,bI g1 [.int .i64 (p).x,.int .i64 (p).y,.int .i64 (p).z] 30]) (fun _=>[bI g4 [.bool true] 4]) (fun pre=>Uy p q t→∀k∈pre,mA p q (t.cor k) (t.cor ((k+1)%3))=false) (fun pre=>Uy p q t∧∃k∈pre,mA p q (t.cor k) (t.cor ((k+1)%3))=true) (fun _ i hi=>by simp only[ao,bt,or_false] at hi;rcases hi with rfl | rfl | rfl | rfl | rfl | rfl | rfl | rfl | rfl | rfl <;> exact⟨_,_,_,rfl⟩) (fun _ i hi=>by simp only[ao,bt,or_false] at hi;subst hi ;exact⟨_,_,_,rfl⟩) (fun _=>rfl) (fun _=>bn (i:=0) rfl) m (fun _ k hk=>by cases hk) ?_ ?_ ?_ ?_
   ·
    intro r pre x W K m hK;simp only[zF,zG];refine oV fun K17 k17=>bV (Kr m eC O ?_);intro g11 u m;simp only[zz];refine Et m 0 O O O aA (jO O) O ?_;intro u m;simp only[zy,zx,bQ,zF,zG,aa] at m;refine aI (k17 _ _ ?_);try clear k17 K17
    refine bV (Kr m eC O ?_);intro g12 u m;simp only[zz];refine Et m 0 O O O aA (jO O) O ?_;intro u m;simp only[zy,zx,bQ,zF,zG,aa] at m;exact aI (hK _ _ _ m)
   ·
    intro r pre x g11 g12 W Q' _ hJ hN m hn hr;rcases pre with _ | ⟨a,_ | ⟨b,_ | ⟨c,l⟩⟩⟩
    ·
     simp only[al3,l3] at m;simp only[zF,zG];refine qN (oV fun K18 k18=>qN (oV fun K19 k19=>bV (aQ O ((m.b 6 O).lies1 bT O) ?_)));simp only[zz];refine aB (uT O O) (aB aC ?_);simp only[zz];refine fG O (fun hb=>aZ O ((m.b 5 O).lies1 bT O)) (eL O (fun hb=>uT (aX hb O) O) (aB (eG O O O) (aB aJ (aI (k19 _ _ ?_)))));try clear k19 K19
     simp only[zz];refine Br O ?_ ?_<;>intro hc3
     ·
      refine yX m 7 aF (by kernel_rfl) ?_;simp only[zy];refine Gl O (fun u m=>((m.b 3 O).lies1 bT O)) ?_;simp only[zz];refine Gl O (fun u m=>((m.b 11 O).full aH aA)) ?_;simp only[zz];refine Gl O (fun u m=>((m.b 10 O).full aH aA)) ?_;simp only[zz];refine Gl O (fun u m=>((m.b 1 O).full aH aA)) ?_;simp only[zz];refine Gl O (fun u m=>((m.b 0 O).full aH aA)) ?_;simp only[zz];refine aig O O (wP (a:=p) (b:=q) (c:=t.cor x) (d:=t.cor ((x+1)%3))) (aK (aN xA cN O O (by decide) (by decide) O) (bN ?_));intro u m;simp only[zz];refine jN m 4 O O O cN (jO O) ⟨O,O⟩ ?_;intro u m;simp only[zz,zy,zx,bQ,aa] at m;refine aI (k18 _ _ ?_);try clear k18 K18
      refine bV (aQ O ((m.b 3 O).lies1 bT O) ?_);simp only[zz];refine aB (fH (m:=0) (n:=1) (r:=1) O O (by decide)) ?_;simp only[zz];refine jN m 3 O O O cN (jO O) ⟨O,O⟩ ?_;intro u m;simp only[zz,zy,zx,bQ,aa] at m;refine aI ?_
      first
      | (have hI:=Nk hc3;rw[show bR (((q.sub p).cross ((t.cor x).sub p)).dot ((t.cor ((x+1)%3)).sub p))=yB p q t x from (Ku hI).symm] at m;exact hn _ _ ⟨m.toMem.sel [false,false,true,true,true,true,true,true,true,true,true,true],m.rx⟩ (fun k=>absurd k hI))
      | (have hI := Bu hc3;rw[show bR (qA (Ex p t x) (Ij t.normal))=yB p q t x from (Kt hI).symm] at m;exact hn _ _ ⟨m.toMem.sel [false, false, true, true, true, true, true, true, true, true, true, true], m.rx⟩ (fun hi k hk => by
       rcases br.1 hk with hk | hk
       · exact hJ hi k hk
       · rw[bg.1 hk];exact hc4))
     ·
      refine oV fun K20 k20=>bV (aQ O ((m.b 11 O).full aH aA) ?_);simp only[zz];refine aQ O ((m.b 10 O).full aH aA) ?_;simp only[zz];refine aQ O ((m.b 1 O).full aH aA) ?_;simp only[zz];refine aQ O ((m.b 0 O).full aH aA) ?_;simp only[zz];refine Qm m O O (Qp (p:=p) (q:=q) (r:=t.cor x) (s:=t.cor ((x+1)%3))) ?_;intro u m;refine aB aJ (aI (k20 _ _ ?_));try clear k20 K20
      simp only[zz];refine Br O ?_ ?_<;>intro hc4
      ·
       refine oV fun K21 k21=>bV (jN m 8 O O O tG (jO O) ⟨O,O⟩ ?_);intro u m;simp only[zz,zy,zx,bQ,aa] at m;refine aI (k21 _ _ ?_);try clear k21 K21
       refine Ql ?_;exact hr _ _ ⟨m.toMem.sel [false,false,false,false,false,false,false,false,true],m.rx⟩ ⟨Bu hc3,x,by simp,hc4⟩
      ·
       refine yX m 9 aF (by kernel_rfl) ?_;simp only[zy];refine Gl O (fun u m=>((m.b 3 O).lies1 bT O)) ?_;simp only[zz];refine Gl O (fun u m=>((m.b 1 O).full aH aA)) ?_;simp only[zz];refine Gl O (fun u m=>((m.b 0 O).full aH aA)) ?_;simp only[zz];refine Gl O (fun u m=>((m.b 1 O).full aH aA)) ?_;simp only[zz];refine Gl O (fun u m=>((m.b 11 O).full aH aA)) ?_;simp only[zz];refine aig O O (tN (a:=t.cor x) (b:=t.cor ((x+1)%3)) (c:=t.cor x) (d:=p)) ?_;simp only[zz];refine Gl O (fun u m=>((m.b 7 O).lies1 bT O)) ?_;simp only[zz];refine aK ((Ev (v:=Ex p t x) (abf _) O O)) (aK (aN xA cN O O (by decide) (by decide) O) (bN ?_));intro u m;simp only[zz];refine jN m 4 O O O cN (jO O) ⟨O,O⟩ ?_;intro u m;simp only[zz,zy,zx,bQ,aa] at m;refine aI (k18 _ _ ?_);try clear k18 K18
       refine bV (aQ O ((m.b 3 O).lies1 bT O) ?_);simp only[zz];refine aB (fH (m:=0) (n:=1) (r:=1) O O (by decide)) ?_;simp only[zz];refine jN m 3 O O O cN (jO O) ⟨O,O⟩ ?_;intro u m;simp only[zz,zy,zx,bQ,aa] at m;refine aI ?_
       first
       | (have hI:=Nk hc3;rw[show bR (((q.sub p).cross ((t.cor x).sub p)).dot ((t.cor ((x+1)%3)).sub p))=yB p q t x from (Ku hI).symm] at m;exact hn _ _ ⟨m.toMem.sel [false,false,true,true,true,true,true,true,true,true,true,true],m.rx⟩ (fun k=>absurd k hI))
       | (have hI := Bu hc3;rw[show bR (qA (Ex p t x) (Ij t.normal))=yB p q t x from (Kt hI).symm] at m;exact hn _ _ ⟨m.toMem.sel [false, false, true, true, true, true, true, true, true, true, true, true], m.rx⟩ (fun hi k hk => by
        rcases br.1 hk with hk | hk
        · exact hJ hi k hk
        · rw[bg.1 hk];exact hc4))
    ·
     simp only[al3,l3] at m;simp only[zF,zG];refine qN (oV fun K22 k22=>qN (oV fun K23 k23=>bV (aQ O ((m.b 6 O).lies1 bT O) ?_)));simp only[zz];refine aB (uT O O) (aB aC ?_);simp only[zz];refine fG O (fun hb=>aZ O ((m.b 5 O).lies1 bT O)) (eL O (fun hb=>uT (aX hb O) O) (aB (eG O O O) (aB aJ (aI (k23 _ _ ?_)))));try clear k23 K23
     simp only[zz];refine Br O ?_ ?_<;>intro hc3
     ·
      refine yX m 7 aF (by kernel_rfl) ?_;simp only[zy];refine Gl O (fun u m=>((m.b 3 O).lies1 bT O)) ?_;simp only[zz];refine Gl O (fun u m=>((m.b 11 O).full aH aA)) ?_;simp only[zz];refine Gl O (fun u m=>((m.b 10 O).full aH aA)) ?_;simp only[zz];refine Gl O (fun u m=>((m.b 1 O).full aH aA)) ?_;simp only[zz];refine Gl O (fun u m=>((m.b 0 O).full aH aA)) ?_;simp only[zz];refine aig O O (wP (a:=p) (b:=q) (c:=t.cor x) (d:=t.cor ((x+1)%3))) (aK (aN xA cN O O (by decide) (by decide) O) (bN ?_));intro u m;simp only[zz];refine jN m 4 O O O cN (jO O) ⟨O,O⟩ ?_;intro u m;simp only[zz,zy,zx,bQ,aa] at m;refine aI (k22 _ _ ?_);try clear k22 K22
      refine bV (aQ O ((m.b 3 O).lies1 bT O) ?_);simp only[zz];refine aB (fH (m:=1) (n:=1) (r:=2) O O (by decide)) ?_;simp only[zz];refine jN m 3 O O O cN (jO O) ⟨O,O⟩ ?_;intro u m;simp only[zz,zy,zx,bQ,aa] at m;refine aI ?_
      first
      | (have hI:=Nk hc3;rw[show bR (((q.sub p).cross ((t.cor x).sub p)).dot ((t.cor ((x+1)%3)).sub p))=yB p q t x from (Ku hI).symm] at m;exact hn _ _ ⟨m.toMem.sel [false,false,true,true,true,true,true,true,true,true,true,true],m.rx⟩ (fun k=>absurd k hI))
      | (have hI := Bu hc3;rw[show bR (qA (Ex p t x) (Ij t.normal))=yB p q t x from (Kt hI).symm] at m;exact hn _ _ ⟨m.toMem.sel [false, false, true, true, true, true, true, true, true, true, true, true], m.rx⟩ (fun hi k hk => by
       rcases br.1 hk with hk | hk
       · exact hJ hi k hk
       · rw[bg.1 hk];exact hc4))
     ·
      refine oV fun K24 k24=>bV (aQ O ((m.b 11 O).full aH aA) ?_);simp only[zz];refine aQ O ((m.b 10 O).full aH aA) ?_;simp only[zz];refine aQ O ((m.b 1 O).full aH aA) ?_;simp only[zz];refine aQ O ((m.b 0 O).full aH aA) ?_;simp only[zz];refine Qm m O O (Qp (p:=p) (q:=q) (r:=t.cor x) (s:=t.cor ((x+1)%3))) ?_;intro u m;refine aB aJ (aI (k24 _ _ ?_));try clear k24 K24
      simp only[zz];refine Br O ?_ ?_<;>intro hc4
      ·
       refine oV fun K25 k25=>bV (jN m 8 O O O tG (jO O) ⟨O,O⟩ ?_);intro u m;simp only[zz,zy,zx,bQ,aa] at m;refine aI (k25 _ _ ?_);try clear k25 K25
       refine Ql ?_;exact hr _ _ ⟨m.toMem.sel [false,false,false,false,false,false,false,false,true],m.rx⟩ ⟨Bu hc3,x,by simp,hc4⟩
      ·
       refine yX m 9 aF (by kernel_rfl) ?_;simp only[zy];refine Gl O (fun u m=>((m.b 3 O).lies1 bT O)) ?_;simp only[zz];refine Gl O (fun u m=>((m.b 1 O).full aH aA)) ?_;simp only[zz];refine Gl O (fun u m=>((m.b 0 O).full aH aA)) ?_;simp only[zz];refine Gl O (fun u m=>((m.b 1 O).full aH aA)) ?_;simp only[zz];refine Gl O (fun u m=>((m.b 11 O).full aH aA)) ?_;simp only[zz];refine aig O O (tN (a:=t.cor x) (b:=t.cor ((x+1)%3)) (c:=t.cor x) (d:=p)) ?_;simp only[zz];refine Gl O (fun u m=>((m.b 7 O).lies1 bT O)) ?_;simp only[zz];refine aK ((Ev (v:=Ex p t x) (abf _) O O)) (aK (aN xA cN O O (by decide) (by decide) O) (bN ?_));intro u m;simp only[zz];refine jN m 4 O O O cN (jO O) ⟨O,O⟩ ?_;intro u m;simp only[zz,zy,zx,bQ,aa] at m;refine aI (k22 _ _ ?_);try clear k22 K22
       refine bV (aQ O ((m.b 3 O).lies1 bT O) ?_);simp only[zz];refine aB (fH (m:=1) (n:=1) (r:=2) O O (by decide)) ?_;simp only[zz];refine jN m 3 O O O cN (jO O) ⟨O,O⟩ ?_;intro u m;simp only[zz,zy,zx,bQ,aa] at m;refine aI ?_
       first
       | (have hI:=Nk hc3;rw[show bR (((q.sub p).cross ((t.cor x).sub p)).dot ((t.cor ((x+1)%3)).sub p))=yB p q t x from (Ku hI).symm] at m;exact hn _ _ ⟨m.toMem.sel [false,false,true,true,true,true,true,true,true,true,true,true],m.rx⟩ (fun k=>absurd k hI))
       | (have hI := Bu hc3;rw[show bR (qA (Ex p t x) (Ij t.normal))=yB p q t x from (Kt hI).symm] at m;exact hn _ _ ⟨m.toMem.sel [false, false, true, true, true, true, true, true, true, true, true, true], m.rx⟩ (fun hi k hk => by
        rcases br.1 hk with hk | hk
        · exact hJ hi k hk
        · rw[bg.1 hk];exact hc4))
    ·
     simp only[al3,l3] at m;simp only[zF,zG];refine qN (oV fun K26 k26=>qN (oV fun K27 k27=>bV (aQ O ((m.b 6 O).lies1 bT O) ?_)));simp only[zz];refine aB (uT O O) (aB aC ?_);simp only[zz];refine fG O (fun hb=>aZ O ((m.b 5 O).lies1 bT O)) (eL O (fun hb=>uT (aX hb O) O) (aB (eG O O O) (aB aJ (aI (k27 _ _ ?_)))));try clear k27 K27
     simp only[zz];refine Br O ?_ ?_<;>intro hc3
     ·
      refine yX m 7 aF (by kernel_rfl) ?_;simp only[zy];refine Gl O (fun u m=>((m.b 3 O).lies1 bT O)) ?_;simp only[zz];refine Gl O (fun u m=>((m.b 11 O).full aH aA)) ?_;simp only[zz];refine Gl O (fun u m=>((m.b 10 O).full aH aA)) ?_;simp only[zz];refine Gl O (fun u m=>((m.b 1 O).full aH aA)) ?_;simp only[zz];refine Gl O (fun u m=>((m.b 0 O).full aH aA)) ?_;simp only[zz];refine aig O O (wP (a:=p) (b:=q) (c:=t.cor x) (d:=t.cor ((x+1)%3))) (aK (aN xA cN O O (by decide) (by decide) O) (bN ?_));intro u m;simp only[zz];refine jN m 4 O O O cN (jO O) ⟨O,O⟩ ?_;intro u m;simp only[zz,zy,zx,bQ,aa] at m;refine aI (k26 _ _ ?_);try clear k26 K26
      refine bV (aQ O ((m.b 3 O).lies1 bT O) ?_);simp only[zz];refine aB (fH (m:=2) (n:=1) (r:=3) O O (by decide)) ?_;simp only[zz];refine jN m 3 O O O cN (jO O) ⟨O,O⟩ ?_;intro u m;simp only[zz,zy,zx,bQ,aa] at m;refine aI ?_
      first
      | (have hI:=Nk hc3;rw[show bR (((q.sub p).cross ((t.cor x).sub p)).dot ((t.cor ((x+1)%3)).sub p))=yB p q t x from (Ku hI).symm] at m;exact hn _ _ ⟨m.toMem.sel [false,false,true,true,true,true,true,true,true,true,true,true],m.rx⟩ (fun k=>absurd k hI))
      | (have hI := Bu hc3;rw[show bR (qA (Ex p t x) (Ij t.normal))=yB p q t x from (Kt hI).symm] at m;exact hn _ _ ⟨m.toMem.sel [false, false, true, true, true, true, true, true, true, true, true, true], m.rx⟩ (fun hi k hk => by
       rcases br.1 hk with hk | hk
       · exact hJ hi k hk
       · rw[bg.1 hk];exact hc4))
     ·
      refine oV fun K28 k28=>bV (aQ O ((m.b 11 O).full aH aA) ?_);simp only[zz];refine aQ O ((m.b 10 O).full aH aA) ?_;simp only[zz];refine aQ O ((m.b 1 O).full aH aA) ?_;simp only[zz];refine aQ O ((m.b 0 O).full aH aA) ?_;simp only[zz];refine Qm m O O (Qp (p:=p) (q:=q) (r:=t.cor x) (s:=t.cor ((x+1)%3))) ?_;intro u m;refine aB aJ (aI (k28 _ _ ?_));try clear k28 K28
      simp only[zz];refine Br O ?_ ?_<;>intro hc4
      ·
       refine oV fun K29 k29=>bV (jN m 8 O O O tG (jO O) ⟨O,O⟩ ?_);intro u m;simp only[zz,zy,zx,bQ,aa] at m;refine aI (k29 _ _ ?_);try clear k29 K29
       refine Ql ?_;exact hr _ _ ⟨m.toMem.sel [false,false,false,false,false,false,false,false,true],m.rx⟩ ⟨Bu hc3,x,by simp,hc4⟩
      ·
       refine yX m 9 aF (by kernel_rfl) ?_;simp only[zy];refine Gl O (fun u m=>((m.b 3 O).lies1 bT O)) ?_;simp only[zz];refine Gl O (fun u m=>((m.b 1 O).full aH aA)) ?_;simp only[zz];refine Gl O (fun u m=>((m.b 0 O).full aH aA)) ?_;simp only[zz];refine Gl O (fun u m=>((m.b 1 O).full aH aA)) ?_;simp only[zz];refine Gl O (fun u m=>((m.b 11 O).full aH aA)) ?_;simp only[zz];refine aig O O (tN (a:=t.cor x) (b:=t.cor ((x+1)%3)) (c:=t.cor x) (d:=p)) ?_;simp only[zz];refine Gl O (fun u m=>((m.b 7 O).lies1 bT O)) ?_;simp only[zz];refine aK ((Ev (v:=Ex p t x) (abf _) O O)) (aK (aN xA cN O O (by decide) (by decide) O) (bN ?_));intro u m;simp only[zz];refine jN m 4 O O O cN (jO O) ⟨O,O⟩ ?_;intro u m;simp only[zz,zy,zx,bQ,aa] at m;refine aI (k26 _ _ ?_);try clear k26 K26
       refine bV (aQ O ((m.b 3 O).lies1 bT O) ?_);simp only[zz];refine aB (fH (m:=2) (n:=1) (r:=3) O O (by decide)) ?_;simp only[zz];refine jN m 3 O O O cN (jO O) ⟨O,O⟩ ?_;intro u m;simp only[zz,zy,zx,bQ,aa] at m;refine aI ?_
       first
       | (have hI:=Nk hc3;rw[show bR (((q.sub p).cross ((t.cor x).sub p)).dot ((t.cor ((x+1)%3)).sub p))=yB p q t x from (Ku hI).symm] at m;exact hn _ _ ⟨m.toMem.sel [false,false,true,true,true,true,true,true,true,true,true,true],m.rx⟩ (fun k=>absurd k hI))
       | (have hI := Bu hc3;rw[show bR (qA (Ex p t x) (Ij t.normal))=yB p q t x from (Kt hI).symm] at m;exact hn _ _ ⟨m.toMem.sel [false, false, true, true, true, true, true, true, true, true, true, true], m.rx⟩ (fun hi k hk => by
        rcases br.1 hk with hk | hk
        · exact hJ hi k hk
        · rw[bg.1 hk];exact hc4))
    · exact absurd hN (by simp)
   rotate_left
   · rintro D pre u hS ⟨hI,k,hk,ho⟩ m
     try simp only[bu,Exit.then]
     refine adC (Def.mk (m.get 0 O)) ?_;replace m:=m.putD (o':=.deferred none) 0 O;exact aY O ⟨_,O,(m.b 1 O).lies1 Jp O⟩ ⟨_,O,m.ext,by rw[←aty hf hI (hS k hk) ho]⟩
   rintro D xs u rfl hj m;simp only[al3,l3] at m;refine k15 _ _ ?_;try clear k15 K15
   refine aT fun K30 k30=>aj (aQ O ((m.b 3 O).full adR yL) ?_);simp only[zz];refine oP m O O (aoG (a:=yB p q t 0) (b:=yB p q t 1) (c:=yB p q t 2)) ?_;intro u m;simp only[zz];refine fK m 7 O O O tG (jO O) ⟨O,O⟩ ?_;intro u m;simp only[zz,zy,zx,bQ,aa] at m;refine aI (k30 _ _ ?_);try clear k30 K30
   refine wp_ret ?_;try simp only[bu,Exit.then,if_true]
   refine adC (Def.mk (m.get 0 O)) ?_;replace m:=m.putD (o':=.deferred none) 0 O;simp only[zF,zG] at m;refine aY O ⟨_,O,((m.b 7 O).lies1 Jp O)⟩ ?_;try simp only[zD,zE]
   exact⟨_,O,m.ext,by rw[arL hf hc2 hj]⟩
end Go.Proofs.YtfekpcimgncioaaGreatDoor
namespace Go.Proofs.YtfekpcimgncioaaGreatDoor
open Go.Proofs.Tryz
open Go.RowKit Go.Lith
set_option maxRecDepth 100000
attribute [local irreducible] au cq eF bJ cD Code.wp
attribute [local congr] oG fS fT fU fV fW jR fX fY fZ gA gB gC gD gE gF gG gH eM eN gI gJ gL gM gN jT cW cX cA cU gK jS eO eP eQ gQ gR jU
variable{s t:T3}{k g50 g51 N cap:Nat}{x:P3}{ms rs:List T3}
theorem aoJ(hk:k<3)(h:kI (s.cor k) (s.cor ((k+1)%3)) t=true):true=aaI s t:=by
 have e:k=0∨k=1∨k=2:=by omega
 unfold aaI;rcases e with rfl | rfl | rfl
 · rw[show kI s.a s.b t=true from h];rfl
 · rw[show kI s.b s.c t=true from h,qm];rfl
 · rw[show kI s.c s.a t=true from h,qm]
theorem al4(h:∀k∈[0,1,2],kI (s.cor k) (s.cor ((k+1)%3)) t=false):false=aaI s t:=by
 unfold aaI;rw[show kI s.a s.b t=false from h 0 (by decide),show kI s.b s.c t=false from h 1 (by decide),show kI s.c s.a t=false from h 2 (by decide)];rfl
theorem ac2{l:List ak}{ty:ay}{x y:Operand}(hk:k<3)(hx:ev l x=tr t)(hy:ev l y=.int .i64 (k:Int)):iO prog l (.index 39 x y) ty (pt (t.cor k)):=by
 have h:k=0∨k=1∨k=2:=by omega
 rcases h with rfl | rfl | rfl
 · exact kF hx hy
 · exact kG hx hy
 · exact kH hx hy
def al5(t:T3):List P3:=[t.a,t.b,t.c]
theorem al6(hk:k<3):(al5 t)[k]? = some (t.cor k):=by
 have h:k=0∨k=1∨k=2:=by omega
 rcases h with rfl | rfl | rfl <;> rfl
def Ik(s t:T3)(k:Nat):List P3:=((al5 s).take k).filter fun x=>t.has x
def Il(s t:T3)(k:Nat):List P3:=((al5 s).take k).filter fun x=>!t.has x
theorem Kv(hk:k<3):Ik s t (k+1)=Ik s t k++if t.has (s.cor k) then [s.cor k] else []:=by
 unfold Ik;rw[cC (al6 hk),fx,ep,mb]
theorem Kx(hk:k<3):Il s t (k+1)=Il s t k++if t.has (s.cor k) then [] else [s.cor k]:=by
 unfold Il;rw[cC (al6 hk),fx,ep,mb];cases t.has (s.cor k) <;> rfl
theorem agy(s t:T3)(k:Nat):(Ik s t k).length≤3:=aw (fu _ _) (by rw[bx];exact Nat.min_le_right ..)
theorem agz(s t:T3)(k:Nat):(Il s t k).length≤3:=aw (fu _ _) (by rw[bx];exact Nat.min_le_right ..)
theorem apF   : ((decide (x.x=t.a.x∧x.y=t.a.y∧x.z=t.a.z)||decide (x.x=t.b.x∧x.y=t.b.y∧x.z=t.b.z))||decide (x.x=t.c.x∧x.y=t.c.y∧x.z=t.c.z))=t.has x:=by
 have e:∀p q:P3,(p.x=q.x∧p.y=q.y∧p.z=q.z)↔p=q:=fun p q=>⟨fun h=>P3.eq h.1 h.2.1 h.2.2,fun h=>by rw[h];exact⟨O,O,O⟩⟩
 rw[ii,iJ];simp only[im,decide_eq_true_eq,e,or_assoc]
theorem Va(s t:T3):(wJ s t).length+(Bg s t).length=3:=by
 rw[aqr,aqs];cases t.has s.a <;> cases t.has s.b <;> cases t.has s.c <;> rfl
theorem nd_of(h:oO t=false):t.nd=true:=by
 have hf:Py (uV t.a t.b t.c)<3:=by
  unfold oO at h;rw[decide_eq_false_iff_not,Decidable.not_not] at h;exact h
 have hz:∀p q r:P3,p=q∨q=r∨r=p→uV p q r=⟨0,0,0⟩:=fun p q r hh=>by
  rcases hh with rfl | rfl | rfl <;> (refine P3.eq ?_ ?_ ?_ <;> (simp only[uV,P3.sub,P3.cross];grind))
 have hn:¬(t.a=t.b∨t.b=t.c∨t.c=t.a):=fun hh=>by
  rw[hz _ _ _ hh] at hf;exact absurd hf (by decide)
 rw[uP];exact⟨fun e=>hn (.inl e),fun e=>hn (.inr (.inl e)),fun e=>hn (.inr (.inr e))⟩
theorem aeV{s t:T3}(hs:oO s=false)(ht:oO t=false)(h0:(wJ s t).length≠0) :
 (∃x u v y z,wJ s t=[x]∧Bg s t=[u,v]∧Bg t s=[y,z])∨(∃x y u v,wJ s t=[x,y]∧Bg s t=[u]∧Bg t s=[v])∨(wJ s t).length=3:=by
 have h1:=Va s t;have h2:=Va t s;have h3:=(akp (nd_of hs) (nd_of ht)).length_eq;generalize wJ s t=L at *
 generalize Bg s t=U at *
 generalize Bg t s=V at *
 rw[←h3] at h2;rcases L with _ | ⟨x,_ | ⟨y,_ | ⟨z,_ | ⟨z',L⟩⟩⟩⟩
 · exact absurd O h0
 · rcases U with _ | ⟨u,_ | ⟨v,_ | ⟨_,_⟩⟩⟩ <;> simp only[az,b_] at h1 <;> try omega
   rcases V with _ | ⟨y,_ | ⟨z,_ | ⟨_,_⟩⟩⟩ <;> simp only[az,b_] at h2 <;> try omega
   exact .inl ⟨x,u,v,y,z,O,O,O⟩
 · rcases U with _ | ⟨u,_ | ⟨_,_⟩⟩ <;> simp only[az,b_] at h1 <;> try omega
   rcases V with _ | ⟨v,_ | ⟨_,_⟩⟩ <;> simp only[az,b_] at h2 <;> try omega
   exact .inr (.inl ⟨x,y,u,v,O,O,O⟩)
 · exact .inr (.inr O)
 · simp only[az] at h1;omega
theorem arM{n:Nat}(hn:n=(wJ s t).length)(h:(decide ((n:Int)=0)||oO s||oO t)=true):(aaI s t||aaI t s)=Yl s t:=by
 unfold Yl;rw[if_pos];rw[im,im,decide_eq_true_eq] at h;rcases h with (h | h) | h
 · exact .inl (by omega)
 · exact .inr (.inl h)
 · exact .inr (.inr h)
theorem arN{n:Nat}(hn:n=(wJ s t).length)(h:(decide ((n:Int)=0)||oO s||oO t)=false):((wJ s t).length≠0∧oO s=false∧oO t=false)∧Yl s t=afT s t (wJ s t) (Bg s t) (Bg t s):=by
 rw[mg,mg,decide_eq_false_iff_not] at h;refine⟨⟨fun e=>h.1.1 (by omega),h.1.2,h.2⟩,?_⟩;unfold Yl;rw[if_neg];rintro (k | k | k)
 · exact h.1.1 (by omega)
 · rw[h.1.2] at k;cases k
 · rw[h.2] at k;cases k
theorem al7[h:IT s](hx:x∈al5 s):I3 x:=by
 simp only[al5,ao,bt,or_false] at hx;rcases hx with rfl | rfl | rfl
 · exact h.a
 · exact h.b
 · exact h.c
theorem al8[IT s]{L:List P3}{i:Nat}(h:wJ s t=L)(hx:L[i]? = some x):I3 x:=al7 (c_.1 (h▸bn hx:x∈wJ s t)).1
theorem Nl[IT s]{L:List P3}{i:Nat}(h:Bg s t=L)(hx:L[i]? = some x):I3 x:=al7 (c_.1 (h▸bn hx:x∈Bg s t)).1
theorem arO{xa xb ua va:P3}:(decide (bR (((xb.sub xa).cross (ua.sub xa)).dot (va.sub xa))=0)&&decide (bR ((xb.sub xa).cross (ua.sub xa)).x=bR ((xb.sub xa).cross (va.sub xa)).x∧bR ((xb.sub xa).cross (ua.sub xa)).y=bR ((xb.sub xa).cross (va.sub xa)).y∧bR ((xb.sub xa).cross (ua.sub xa)).z=bR ((xb.sub xa).cross (va.sub xa)).z))=afT s t [xa,xb] [ua] [va]:=by
 rw[decide_eq_decide.2 (iT (n:=((xb.sub xa).cross (ua.sub xa)).dot (va.sub xa)))];rfl
theorem arP(h:(wJ s t).length=3):afT s t (wJ s t) (Bg s t) (Bg t s)=true:=by
 generalize wJ s t=L at h;rcases L with _ | ⟨x,_ | ⟨y,_ | ⟨z,L⟩⟩⟩ <;> simp only[az,b_] at h <;> try omega
 rfl
theorem Zb[IT s][IT t]:gS prog 241 [tr s,tr t] (.bool (aaI s t)):=by
 intro w;refine⟨bO func241 (by kernel_rfl),?_⟩;have m:=Mem.refl w;refine (callsIn_wide (n:=4)).1 (callsIn_of_wp_marks func241 O trivial ?_ O);simp only[ntmps241,gz,az,b_,aa,Nat.reduceSub,iv,iw,jk,jb,bv,cn];refine wpIn_wide.2 ?_;refine aT fun K1 k1=>aj (Rn m O ?_);intro g1 u m;simp only[zz];refine Rn m O ?_;intro g2 u m;simp only[zz];refine lA m jE O ?_;intro g3 u m;refine aI (k1 _ _ ?_);try clear k1 K1
 refine aT fun K2 k2=>aT fun K3 k3=>aj ?_;simp only[zz];refine aQ O ((m.b 2 O).full dK aR) ?_;simp only[zz];refine bB O O (agv (t:=s) _) ?_;rintro v u e_ ⟨g4,rfl,h_,k_⟩;replace m:=m.newB e_ h_ k_;refine aI (k3 _ _ ?_);try clear k3 K3
 refine wp_block ?_;simp only[zz];refine acU (v1:=fun x=>pt (s.cor x)) (v2:=fun x=>pt (s.cor ((x+1)%3))) (c1:=fun x=>[.int .i64 (s.cor x).x,.int .i64 (s.cor x).y,.int .i64 (s.cor x).z]) (c2:=fun x=>[.int .i64 (s.cor ((x+1)%3)).x,.int .i64 (s.cor ((x+1)%3)).y,.int .i64 (s.cor ((x+1)%3)).z]) (T1:=30) (T2:=30) (d1:=5) (d2:=6) (csB:=aP s) (tB:=39) O ajG (Ov 3 (by omega) g4 0 s _ (m.b 0 O)) (fun _=>[bI g4 (aP s) 39,bI g3 [.bool false] 4,bI g2 [.int .i64 t.a.x,.int .i64 t.a.y,.int .i64 t.a.z,.int .i64 t.b.x,.int .i64 t.b.y,.int .i64 t.b.z,.int .i64 t.c.x,.int .i64 t.c.y,.int .i64 t.c.z] 39,bI g1 [.int .i64 s.a.x,.int .i64 s.a.y,.int .i64 s.a.z,.int .i64 s.b.x,.int .i64 s.b.y,.int .i64 s.b.z,.int .i64 s.c.x,.int .i64 s.c.y,.int .i64 s.c.z] 39]) (fun _=>[bI g3 [.bool true] 4]) (fun pre=>∀k∈pre,kI (s.cor k) (s.cor ((k+1)%3)) t=false) (fun pre=>∃k∈pre,kI (s.cor k) (s.cor ((k+1)%3)) t=true) (fun _ i hi=>by simp only[ao,bt,or_false] at hi;rcases hi with rfl | rfl | rfl | rfl <;> exact⟨_,_,_,rfl⟩) (fun _ i hi=>by simp only[ao,bt,or_false] at hi;subst hi ;exact⟨_,_,_,rfl⟩) (fun _=>rfl) (fun _=>bn (i:=0) rfl) m (fun k hk=>by cases hk) ?_ ?_ ?_ ?_
 ·
  intro r pre x W K m hK;simp only[zF,zG];refine oV fun K4 k4=>bV (Kr m eC O ?_);intro g5 u m;simp only[zz];refine Et m 0 O O O aA (jO O) O ?_;intro u m;simp only[zy,zx,bQ,zF,zG,aa] at m;refine aI (k4 _ _ ?_);try clear k4 K4
  refine bV (Kr m eC O ?_);intro g6 u m;simp only[zz];refine Et m 0 O O O aA (jO O) O ?_;intro u m;simp only[zy,zx,bQ,zF,zG,aa] at m;exact aI (hK _ _ _ m)
 ·
  intro r pre x g5 g6 W Q' _ hJ hN m hn hr
  ·
   simp only[zF,zG];refine qN (oV fun K5 k5=>bV (aQ O ((m.b 1 O).full aH aA) ?_));simp only[zz];refine aQ O ((m.b 0 O).full aH aA) ?_;simp only[zz];refine aQ O ((m.b 4 O).full dK aR) ?_;simp only[zz];refine Qm m O O (abg (p:=s.cor x) (q:=s.cor ((x+1)%3)) (t:=t)) ?_;intro u m;refine aI (k5 _ _ ?_);try clear k5 K5
   simp only[zz];refine Br O ?_ ?_<;>intro hc1
   ·
    refine oV fun K6 k6=>bV (jN m 3 O O O tG (jO O) ⟨O,O⟩ ?_);intro u m;simp only[zz,zy,zx,bQ,aa] at m;refine aI (k6 _ _ ?_);try clear k6 K6
    refine Ql ?_;exact hr _ _ ⟨m.toMem.sel [false,false,false,true],m.rx⟩ ⟨x,by simp,hc1⟩
   ·
    refine alQ ?_;exact hn _ _ ⟨m.toMem.sel [false,false,true,true,true,true],m.rx⟩ (fun k hk=>by
     rcases br.1 hk with hk | hk
     · exact hJ k hk
     · rw[bg.1 hk];exact hc1)
 rotate_left
 · rintro D pre u hS ⟨k,hk,ho⟩ m
   try simp only[bu,Exit.then]
   refine adC (Def.mk (m.get 0 O)) ?_;replace m:=m.putD (o':=.deferred none) 0 O;exact aY O ⟨_,O,(m.b 1 O).lies1 Jp O⟩ ⟨_,O,m.ext,by rw[←aoJ (hS k hk) ho]⟩
 rintro D xs u rfl hj m;refine k2 _ _ ?_;try clear k2 K2
 refine aT fun K7 k7=>aj (fK m 2 O O O tG (jO O) ⟨O,O⟩ ?_);intro u m;simp only[zz,zy,zx,bQ,aa] at m;refine aI (k7 _ _ ?_);try clear k7 K7
 refine wp_ret ?_;try simp only[bu,Exit.then,if_true]
 refine adC (Def.mk (m.get 0 O)) ?_;replace m:=m.putD (o':=.deferred none) 0 O;simp only[zF,zG] at m;refine aY O ⟨_,O,((m.b 2 O).lies1 Jp O)⟩ ?_;try simp only[zD,zE]
 exact⟨_,O,m.ext,by rw[←al4 hj]⟩
theorem ac3(w:am):dR prog 240 [tr s,tr t] w (fun v w'=>∃A4 n4 c4 A5 n5 c5,v=.tuple #[.slice A4 n4 c4,.slice A5 n5 c5]∧n4=(wJ s t).length∧n5=(Bg s t).length∧Mem w w' [oI 30 3 A5 n5 c5 ((Bg s t).flatMap qO),oI 30 3 A4 n4 c4 ((wJ s t).flatMap qO)]):=by
 refine⟨bO func240 (by kernel_rfl),?_⟩;have m:=Mem.refl w
 go_enter func240,ntmps240
 apply nM 4 [0] m;simp only[↓aD];intro g1 g2 u m;refine aB aJ ?_;replace m:=m.nilO 30 3;refine aB aJ ?_;replace m:=m.nilO 30 3;apply aM 8 [3,0] m;simp only[↓aD,iG];refine cP [4,5,9] [7,10,11,12,13,14,15,16,17,18,19,20,21,22,23,24,25,26,27,28,29,30,31,32,33,34,35,36] (fun n vs wl=>∃(k:Nat) (A4 A5:Option Addr) (cap4 cap5:Nat),vs=[.slice A4 (Ik s t k).length cap4,.slice A5 (Il s t k).length cap5,.int .i64 (k:Int)]∧Mem w wl [oI 30 3 A5 (Il s t k).length cap5 ((Il s t k).flatMap qO),oI 30 3 A4 (Ik s t k).length cap4 ((Ik s t k).flatMap qO),bI g2 [.int .i64 t.a.x,.int .i64 t.a.y,.int .i64 t.a.z,.int .i64 t.b.x,.int .i64 t.b.y,.int .i64 t.b.z,.int .i64 t.c.x,.int .i64 t.c.y,.int .i64 t.c.z] 39]∧(k≤3)∧(n=3-k)) ?_ ?_
 ·
  exact⟨_,0,_,_,_,_,O,(m.sel [true,true,true,false]),by omega,O⟩
 · intro n vs wr hI u K1 hK1
   obtain⟨k,A4,A5,cap4,cap5,rfl,m,hk,hn⟩:=hI;simp only[zu,zF,zG];apply aL 5 [0,0] m;simp only[↓aD];refine bK O ?_ ?_<;>intro hc1
   ·
    have hk3:k<3:=by omega
    apply aL 5 [0] m;simp only[↓aD];refine aB ((ac2 (t:=s) hk3 O O)) ?_;apply iH 8 [0,0,3,0] m;simp only[↓aD,dN,aS,dJ,aa,ag,ah];intro g3;refine⟨by omega,?_⟩;intro u m;refine aB (bS O O) ?_;apply aM 1 [0] m;simp only[↓aD];refine fG O (fun hb=>aZ O ((m.b 0 O).full aH aA)) (eL O (fun hb=>aN dA aA O O (by decide) (by decide) O) ?_);simp only[zz];refine fG O (fun hb=>aZ (aX hb O) ((m.b 3 O).lies aH aA O O)) ?_;simp only[zz,zy,ap,aa,ah,ag];refine eL O (fun hb=>bS (aX hb O) (aX hb O)) (aB (eG O O O) ?_);apply aM 1 [0] m;simp only[↓aD];refine fG O (fun hb=>aZ O ((m.b 0 O).full aH aA)) (eL O (fun hb=>aN dA aA O O (by decide) (by decide) O) ?_);simp only[zz];refine fG O (fun hb=>aZ (aX hb O) ((m.b 3 O).lies aH aA O O)) ?_;simp only[zz,zy,ap,aa,ah,ag];refine eL O (fun hb=>bS (aX hb O) (aX hb O)) (aB (eG O O O) ?_);apply aM 1 [0] m;simp only[↓aD];refine lV O ?_ ?_<;>intro hc2
    ·
     rw[apF] at hc2;apply aL 3 [0,0] m;simp only[↓aD,aS];refine sO O ?_;intro u g4 e_ h_ k_;replace m:=m.newB e_ h_ k_;simp only[zz];refine cS m 3 O O gW uJ O (by decide) O O O (m.b 0 O).rowsO (nQ O) (by have:=agy s t k;omega) (by have:=agy s t k;omega) ?_;intro A4 cap4 u m;simp only[zF,zG] at m;rw[show (Ik s t k).flatMap qO++_=(Ik s t (k+1)).flatMap qO by rw[Kv hk3,hc2,be];rfl,show (Ik s t k).length+1=(Ik s t (k+1)).length by rw[Kv hk3,hc2,a_];rfl] at m;rw[show (Ik s t k).length+1=(Ik s t (k+1)).length by rw[Kv hk3,hc2,a_];rfl];apply aM 7 [0] m;simp only[↓aD];refine⟨by omega,?_⟩;have he:Il s t (k+1)=Il s t k:=by rw[Kx hk3,hc2,if_pos rfl,fe]
     rw[←he] at m ⊢;exact hK1 (3-(k+1)) _ _ (by omega) (by kernel_rfl) ⟨k+1,_,_,_,_,O,(m.sel [false,false,true,true,true]),by omega,O⟩
    ·
     rw[apF] at hc2;apply aL 3 [0,0] m;simp only[↓aD,aS];refine sO O ?_;intro u g4 e_ h_ k_;replace m:=m.newB e_ h_ k_;simp only[zz];refine cS m 2 O O gW uJ O (by decide) O O O (m.b 0 O).rowsO (nQ O) (by have:=agz s t k;omega) (by have:=agz s t k;omega) ?_;intro A5 cap5 u m;simp only[zF,zG] at m;rw[show (Il s t k).flatMap qO++_=(Il s t (k+1)).flatMap qO by rw[Kx hk3,hc2,be];rfl,show (Il s t k).length+1=(Il s t (k+1)).length by rw[Kx hk3,hc2,a_];rfl] at m;rw[show (Il s t k).length+1=(Il s t (k+1)).length by rw[Kx hk3,hc2,a_];rfl];apply aM 7 [0] m;simp only[↓aD];refine⟨by omega,?_⟩;have he:Ik s t (k+1)=Ik s t k:=by rw[Kv hk3,hc2,if_neg Bool.false_ne_true,fe]
     rw[←he] at m ⊢;exact hK1 (3-(k+1)) _ _ (by omega) (by kernel_rfl) ⟨k+1,_,_,_,_,O,(m.sel [false,false,true,true,true]),by omega,O⟩
   ·
    obtain rfl:k=3:=by omega
    apply aL 9 [] m;simp only[↓aD];exact nP O O O ⟨_,O,m.ext,_,_,_,_,_,_,O,O,O,m.sel [true,true,false]⟩
theorem arQ[IT s][IT t]:gS prog 176 [tr s,tr t] (.bool (Yl s t)):=by
 intro w;refine⟨bO func176 (by kernel_rfl),?_⟩;have m:=Mem.refl w
 go_enter func176,ntmps176
 apply nM 9 [1] m;simp only[↓aD,iG];intro g1 g2 u m;apply bF 1 [0,0] m;simp only[↓aD,iG];refine bB O O (ac3 (s:=s) (t:=t) _) ?_;rintro v u e_ ⟨A5,n5,c5,A6,n6,c6,rfl,hn5,hn6,hM⟩;replace m:=m.plus hM;clear hM;simp only[cn,bv] at m;apply aM 10 [2,3,0] m;simp only[↓aD,iG];refine bB O O (ac3 (s:=t) (t:=s) _) ?_;rintro v u e_ ⟨A7,n7,c7,A8,n8,c8,rfl,hn7,hn8,hM⟩;replace m:=m.plus hM;clear hM;simp only[cn,bv] at m;apply aM 13 [0,0] m;simp only[↓aD,wK];refine fG O (fun hb=>aZ O ((m.b 5 O).full dK aR)) (aac m O O (fun hb=>by simp only[ec,bi,db,zA,zB,zC,zD,zE,hb,lN];rfl) (fun hb=>aa3 (t:=s)) ?_);intro u m;refine aB (eG O O O) ?_;apply aM 1 [0] m;simp only[↓aD];refine fG O (fun hb=>aZ O ((m.b 4 O).full dK aR)) (aac m O O (fun hb=>by simp only[ec,bi,db,zA,zB,zC,zD,zE,hb,lN];rfl) (fun hb=>aa3 (t:=t)) ?_);intro u m;refine aB (eG O O O) ?_;apply aM 1 [0] m;simp only[↓aD];refine lV O ?_ ?_<;>intro hc1
 ·
  rw[Ig,Ig] at hc1;apply aL 4 [5,4,0] m;simp only[↓aD,iG];refine wQ m O O (Zb (s:=s) (t:=t)) 1 [0] ?_;simp only[↓aD];intro u m;refine fG O (fun hb=>aZ O ((m.b 4 O).full dK aR)) (fG O (fun hb=>aZ O ((m.b 5 O).full dK aR)) (aac m O O (fun hb=>by simp only[ec,bi,db,zA,zB,zC,zD,zE,hb,lN];rfl) (fun hb=>Zb (s:=t) (t:=s)) ?_));intro u m;refine aB (eG O O O) ?_;apply aM 3 [] m;simp only[↓aD];refine aY O O ?_;try simp only[zD,zE]
  exact⟨_,O,m.ext,by rw[arM hn5 hc1]⟩
 ·
  rw[Ig,Ig] at hc1;obtain⟨⟨hz,hf1,hf2⟩,hme⟩:=arN hn5 hc1;apply aL 3 [] m;simp only[↓aD];rcases aeV hf1 hf2 hz with ⟨xa,ua,ub,va,vb,h1,h2,h3⟩ | ⟨xa,xb,ua,va,h1,h2,h3⟩ | h1
  ·
   rw[h1] at hn5;rw[h2] at hn6;rw[h3] at hn8;have i1:I3 ua:=Nl (i:=0) h2 rfl;have i2:I3 ub:=Nl (i:=1) h2 rfl;have i3:I3 va:=Nl (i:=0) h3 rfl;have i4:I3 vb:=Nl (i:=1) h3 rfl;simp only[az,b_] at hn5 hn6 hn8;subst hn5;subst hn6;subst hn8;rw[h1,h2,h3] at m;obtain⟨g5,rfl⟩:=(m.o 3 rfl).some (by decide);obtain⟨g6,rfl⟩:=(m.o 2 rfl).some (by decide);obtain⟨g8,rfl⟩:=(m.o 0 rfl).some (by decide);apply bF 12 [1,0] m;simp only[↓aD,wK];refine⟨by omega,?_⟩;refine mq m aF (by kernel_rfl) (aK aC ?_);simp only[zz];refine aK (aG gW aA O O (by decide) (by omega) O) ?_;simp only[zz];refine ql O (fun u m=>(((m.o 2 O).at (enc:=qO) (i:=0) Lg O).lies aH aA)) ?_;simp only[zz];refine aK aC ?_;simp only[zz];refine aK (aG gW aA O O (by decide) (by omega) O) ?_;simp only[zz];refine ql O (fun u m=>(((m.o 2 O).at (enc:=qO) (i:=1) Lg O).lies aH aA)) ?_;simp only[zz];refine ql O (fun u m=>((m.b 4 O).full dK aR)) ?_;simp only[zz];refine kR O O (abg (p:=ua) (q:=ub) (t:=t)) (aK aC (cY O (fun hb=>aC) ?_));simp only[zz];refine cY O (fun hb=>aG gW aA (aX hb O) O (by decide) (by omega) O) ?_;simp only[zz];refine fQ O (fun hb u m=>aZ (aX hb O) (((m.o 0 O).at (enc:=qO) (i:=0) Lg O).lies aH aA)) (cY O (fun hb=>aC) ?_);simp only[zz];refine cY O (fun hb=>aG gW aA (aX hb O) O (by decide) (by omega) O) ?_;simp only[zz];refine fQ O (fun hb u m=>aZ (aX hb O) (((m.o 0 O).at (enc:=qO) (i:=1) Lg O).lies aH aA)) (fQ O (fun hb u m=>aZ O ((m.b 5 O).full dK aR)) (afo O O (fun hb=>by simp only[ec,bi,db,zA,zB,zC,zD,zE,hb,lN];rfl) (fun hb=>abg (p:=va) (q:=vb) (t:=s)) (aK (eG rfl rfl rfl) (aK aJ (bN ?_)))));intro u m;apply bF 1 [] m;simp only[↓aD];refine aY O O ?_;try simp only[zD,zE]
   exact⟨_,O,m.ext,by rw[hme,h1,h2,h3];rfl⟩
  ·
   rw[h1] at hn5;rw[h2] at hn6;rw[h3] at hn8;have i1:I3 xa:=al8 (i:=0) h1 rfl;have i2:I3 xb:=al8 (i:=1) h1 rfl;have i3:I3 ua:=Nl (i:=0) h2 rfl;have i4:I3 va:=Nl (i:=0) h3 rfl;simp only[az,b_] at hn5 hn6 hn8;subst hn5;subst hn6;subst hn8;rw[h1,h2,h3] at m;obtain⟨g5,rfl⟩:=(m.o 3 rfl).some (by decide);obtain⟨g6,rfl⟩:=(m.o 2 rfl).some (by decide);obtain⟨g8,rfl⟩:=(m.o 0 rfl).some (by decide);apply bF 18 [2,1,0] m;simp only[↓aD,wK];refine⟨by omega,?_⟩;apply asr m (T1:=30) (T2:=30)
   · skip
     refine Xh m [true,true,true,true,true,true] (.take 0 (.take 1 (.take 2 (.take 3 (.take 4 (.take 5 (.two 6 (.one 7 (.one 8 (.one 9 .nil))) 7 (.one 6 (.one 8 (.one 9 .nil)))))))))) aF (by kernel_rfl) (fun _ _ _ _ _ h=>by cases h.1) ?_;intro u m;refine fD (by simp only[zw];rfl) (cF aC (bY (fD (by simp only[zw];rfl) ?_)));simp only[zz];refine cF (aG gW aA O O (by decide) (by omega) O) (bY (fD (by simp only[zw];rfl) ?_));simp only[zz];refine nT O (fun u m=>(((m.o 3 O).at (enc:=qO) (i:=0) Lg O).lies aH aA)) ?_;simp only[zz];refine bY (fD (by simp only[zw];rfl) (cF aC (bY (fD (by simp only[zw];rfl) ?_))));simp only[zz];refine cF (aG gW aA O O (by decide) (by omega) O) (bY (fD (by simp only[zw];rfl) ?_));simp only[zz];refine nT O (fun u m=>(((m.o 3 O).at (enc:=qO) (i:=1) Lg O).lies aH aA)) ?_;simp only[zz];refine bY ?_;refine abI (by simp only[zw];rfl) (by simp only[zw];rfl) ?_ ?_
     ·
      refine lA m eC O ?_;intro g3 u m;refine aI ⟨m.sel [false,true,true,true,true,true,true],?_⟩;refine oM (by simp only[zw];rfl) ?_;simp only[zz];refine lA m eC O ?_;intro g4 u m;refine aI ⟨m.sel [false,false,true,true,true,true,true,true],?_⟩;refine oM (by simp only[zw];rfl) ?_;simp only[zz];refine cL m 1 O O O aA (jO O) O ?_;intro u m;simp only[zy,zx,bQ,zF,zG,aa] at m;refine aI ⟨m.sel [false,false,true,true,true,true,true,true],?_⟩;refine oM (by simp only[zw];rfl) ?_;refine cL m 0 O O O aA (jO O) O ?_;intro u m;simp only[zy,zx,bQ,zF,zG,aa] at m;refine aI ⟨m.sel [false,false,true,true,true,true,true,true],?_⟩;exact Gs ⟨O,g3,g4,O,m⟩
     ·
      refine lA m eC O ?_;intro g3 u m;refine aI ⟨m.sel [false,true,true,true,true,true,true],?_⟩;refine oM (by simp only[zw];rfl) ?_;simp only[zz];refine lA m eC O ?_;intro g4 u m;refine aI ⟨m.sel [false,false,true,true,true,true,true,true],?_⟩;refine oM (by simp only[zw];rfl) ?_;simp only[zz];refine cL m 0 O O O aA (jO O) O ?_;intro u m;simp only[zy,zx,bQ,zF,zG,aa] at m;refine aI ⟨m.sel [false,false,true,true,true,true,true,true],?_⟩;refine oM (by simp only[zw];rfl) ?_;refine cL m 1 O O O aA (jO O) O ?_;intro u m;simp only[zy,zx,bQ,zF,zG,aa] at m;refine aI ⟨m.sel [false,false,true,true,true,true,true,true],?_⟩;exact Gs ⟨O,g4,g3,O,m.s01⟩
   intro g3 g4 u m;try dsimp only
   apply bF 1 [0] m;simp only[↓aD];refine mq m aF (by kernel_rfl) (iB 3 [1,0] ?_);simp only[↓aD,aS];refine aK (aG gW aA O O (by decide) (by omega) O) ?_;simp only[zz];refine ql O (fun u m=>(((m.o 4 O).at (enc:=qO) (i:=0) Lg O).lies aH aA)) ?_;simp only[zz];refine aK aC ?_;simp only[zz];refine aK (aG gW aA O O (by decide) (by omega) O) ?_;simp only[zz];refine ql O (fun u m=>(((m.o 2 O).at (enc:=qO) (i:=0) Lg O).lies aH aA)) ?_;simp only[zz];refine kR O O (wP (a:=xa) (b:=xb) (c:=ua) (d:=va)) (aK (Qt O O) (aK aC ?_));simp only[zz];refine dM O (fun hb u m=>aZ O ((m.b 1 O).full aH aA)) (dM O (fun hb u m=>aZ O ((m.b 0 O).full aH aA)) (dM O (fun hb u m=>aZ O ((m.b 1 O).full aH aA)) (bP O (fun hb=>aC) ?_)));simp only[zz];refine bP O (fun hb=>aG gW aA (aX hb O) O (by decide) (by omega) O) ?_;simp only[zz];refine dM O (fun hb u m=>aZ (aX hb O) (((m.o 4 O).at (enc:=qO) (i:=0) Lg O).lies aH aA)) (aad O O (fun hb=>by simp only[ec,bi,db,zA,zB,zC,zD,zE,hb,lN];rfl) (fun hb=>tN (a:=xa) (b:=xb) (c:=xa) (d:=ua)) ?_);simp only[zz];refine dM O (fun hb u m=>aZ O ((m.b 1 O).full aH aA)) (dM O (fun hb u m=>aZ O ((m.b 0 O).full aH aA)) (dM O (fun hb u m=>aZ O ((m.b 1 O).full aH aA)) (bP O (fun hb=>aC) ?_)));simp only[zz];refine bP O (fun hb=>aG gW aA (aX hb O) O (by decide) (by omega) O) ?_;simp only[zz];refine dM O (fun hb u m=>aZ (aX hb O) (((m.o 2 O).at (enc:=qO) (i:=0) Lg O).lies aH aA)) (aad O O (fun hb=>by simp only[ec,bi,db,zA,zB,zC,zD,zE,hb,lN];rfl) (fun hb=>tN (a:=xa) (b:=xb) (c:=xa) (d:=va)) (bP rfl (fun hb=>Xu (aX hb rfl) (aX hb rfl)) (aK (cE rfl rfl rfl) (aK aJ ?_))));simp only[zz];refine bN ?_;intro u m;apply bF 1 [] m;simp only[↓aD];refine aY O O ?_;try simp only[zD,zE]
   exact⟨_,O,m.ext,by rw[hme,h1,h2,h3];exact congrArg ba arO⟩
  ·
   rw[h1] at hn5;subst hn5;apply bF 24 [2,2] m;simp only[↓aD,wK];refine⟨by omega,?_⟩;refine aY O O ?_;try simp only[zD,zE]
   exact⟨_,O,m.ext,by rw[hme,arP h1]⟩
theorem al9{r:T3}[IT t][IT r](w:am)(hB50:fE w g50 [.int .i64 (Hx t 0),.int .i64 (Hx t 1),.int .i64 (Hx t 2),.int .i64 (Hy t 0),.int .i64 (Hy t 1),.int .i64 (Hy t 2)] 222)(hB51:fE w g51 (aP t) 39):dR prog 174 [tr r,.pointer (some ⟨g50,0,none⟩),.pointer (some ⟨g51,0,none⟩)] w (fun v _=>v=.bool (xG t r)):=by
 refine⟨bO func174 (by kernel_rfl),?_⟩;have m:=Mem.refl w
 go_enter func174,ntmps174
 apply nM 6 [0] m;simp only[↓aD];intro g1 u m;refine mq m aF (by kernel_rfl) (ql O (fun u m=>((hB50.ext m.ext).full afy Xp)) ?_);simp only[zz];refine ql O (fun u m=>((m.b 0 O).full dK aR)) ?_;simp only[zz];refine kR O O (acJ (t:=r)) ?_;simp only[zz];refine kR O O (arw (t:=t) (r:=r)) (aK aC ?_);simp only[zz];refine dM O (fun hb u m=>aZ O ((m.b 0 O).full dK aR)) (dM O (fun hb u m=>aZ O ((hB51.ext m.ext).full dK aR)) (aad O O (fun hb=>by simp only[ec,bi,db,zA,zB,zC,zD,zE,hb,lN];rfl) (fun hb=>arQ (s:=r) (t:=t)) (aK (cE rfl rfl rfl) (aK aJ (bN ?_)))));intro u m;apply bF 1 [] m;simp only[↓aD];exact aY O O ⟨_,O,m.ext,O⟩
theorem ama{ts:List T3}{A:Option Addr}[IT t](w:am)(hB50:fE w g50 [.int .i64 (Hx t 0),.int .i64 (Hx t 1),.int .i64 (Hx t 2),.int .i64 (Hy t 0),.int .i64 (Hy t 1),.int .i64 (Hy t 2)] 222)(hB51:fE w g51 (aP t) 39)(hT:cJ w A N ts)(hN:N≤10000000):dR prog 244 [.slice A N cap,.func (.func 174) #[] #[.pointer (some ⟨g50,0,none⟩),.pointer (some ⟨g51,0,none⟩)]] w (fun v _=>∃k:Int,v=.int .i64 k∧decide (0≤k)=ts.any (xG t)):=by
 refine⟨bO func244 (by kernel_rfl),?_⟩;have m:=Mem.refl w;have htl:=hT.len
 go_enter func244,ntmps244
 apply iE 12 [0] m;simp only[↓aD,mC];refine cP [8] [4,5,9,10,11,12,13,14,15,16,17,18] (fun n vs wl=>∃(k:Nat),vs=[.int .i64 (k:Int)]∧Mem w wl []∧(∀(j:Nat) (r:T3),j<k→ts[j]? = some r→xG t r=false)∧(k≤N)∧(n=N-k)) ?_ ?_
 ·
  exact⟨_,0,O,m,(fun j r h=>by omega),bw _,O⟩
 · intro n vs wr hI u K1 hK1
   obtain⟨k,rfl,m,hq0,hk,hn⟩:=hI;simp only[zu,zF,zG];apply aL 5 [0,0] m;simp only[↓aD];refine bK O ?_ ?_<;>intro hc1
   ·
    obtain⟨r,hr,hri,a,rfl,hrow⟩:=hT.get (i:=k) (by omega);apply aL 13 [0] m;simp only[↓aD];refine aB (aG bZ aR O O (by omega) (by omega) (bX (ai _))) ?_;simp only[zz];refine aQ O ((hrow.ext m.ext).lies dK aR) ?_;simp only[zz];refine dH m O O (al9 (t:=t) (r:=r) _ (hB50.ext m.ext) (hB51.ext m.ext)) ?_;rintro v u m rfl;apply aM 1 [0] m;simp only[↓aD];refine dC O ?_ ?_<;>intro hc2
    ·
     apply aL 6 [] m;simp only[↓aD];exact aY O O ⟨_,O,m.ext,k,O,by rw[decide_eq_true (by omega:(0:Int)≤k)];exact (d_.2 ⟨r,bn hr,hc2⟩).symm⟩
    ·
     apply aL 6 [0] m;simp only[↓aD];refine⟨by omega,?_⟩;exact hK1 (N-(k+1)) _ _ (by omega) (by kernel_rfl) ⟨k+1, rfl, m, (fun j r2 hj h1 => by
      rcases dz j k with h | h
      · exact hq0 j r2 h h1
      · obtain rfl:j=k:=by omega
        rw[hr] at h1;cases h1;exact hc2),by omega,O⟩
   ·
    obtain rfl:k=N:=by omega
    apply aL 6 [] m;simp only[↓aD];exact aY rfl rfl ⟨_,rfl,m.ext,-1,rfl,(by rw[show ts.any (xG t)=false from List.any_eq_false.2 fun r hr=>by obtain⟨j,hj⟩:=ej.1 hr;rw[hq0 j r (by have:=(ax.1 hj).1;omega) hj];decide];rfl)⟩
theorem Ey{ts:List T3}{A:Option Addr}[IT t](w:am)(hB50:fE w g50 [.int .i64 (Hx t 0),.int .i64 (Hx t 1),.int .i64 (Hx t 2),.int .i64 (Hy t 0),.int .i64 (Hy t 1),.int .i64 (Hy t 2)] 222)(hB51:fE w g51 (aP t) 39)(hT:cJ w A N ts)(hN:N≤10000000):dR prog 177 [.slice A N cap,.func (.func 174) #[] #[.pointer (some ⟨g50,0,none⟩),.pointer (some ⟨g51,0,none⟩)]] w (fun v _=>v=.bool (ts.any (xG t))):=by
 refine⟨bO func177 (by kernel_rfl),?_⟩;have m:=Mem.refl w
 go_enter func177,ntmps177
 apply iE 8 [0] m;simp only[↓aD];refine dH m O O (ama (t:=t) _ (hB50.ext m.ext) (hB51.ext m.ext) (hT.ext m.ext) hN) ?_;rintro v u m ⟨kk,rfl,hkk⟩;apply aM 4 [0] m;simp only[↓aD];refine aY O O ?_;try simp only[zD,zE]
 exact⟨_,O,m.ext,by rw[←hkk]⟩
def Wp(ms rs:List T3)(t:T3)(k:Nat):Bool:=!rs.any (xG t) && !(ms.take k).any (xG t)
def aii(ms rs:List T3):Bool:=ms.zipIdx.all fun x=>Wp ms rs x.1 x.2
theorem agA(ht:ms[k]? = some t)(h:Wp ms rs t k=false):aii ms rs=false:=by
 unfold aii;rw[List.all_eq_false];exact⟨(t,k),List.mk_mem_zipIdx_iff_getElem?.2 ht,by rw[h];decide⟩
theorem amb(h:∀(k:Nat) (t:T3),ms[k]? = some t→Wp ms rs t k=true):aii ms rs=true:=by
 unfold aii;rw[dt];rintro⟨t,k⟩ hx;exact h k t (List.mk_mem_zipIdx_iff_getElem?.1 hx)
theorem arR(h:rs.any (xG t)=true):Wp ms rs t k=false:=by unfold Wp;rw[h];rfl
theorem arS(h:(ms.take k).any (xG t)=true):Wp ms rs t k=false:=by unfold Wp;rw[h,Bool.not_true,lx]
theorem arT(h1:rs.any (xG t)=false)(h2:(ms.take k).any (xG t)=false):Wp ms rs t k=true:=by unfold Wp;rw[h1,h2];rfl
theorem amc{g90 g91 ga gf gx gy cx cy cf nm cm no co nr cr:Nat}{A Am Ao Ar:Option Addr}{ex ey ef:Array cg}{X Y F:List (P3 × Bool)}{ts:List T3}{p q:P3}(w:am)(hB91:fE w g91 [.pointer (some ⟨g90,0,none⟩),.int .i64 p.x,.int .i64 p.y,.int .i64 p.z,.int .i64 q.x,.int .i64 q.y,.int .i64 q.z,.map (some gx),.map (some gy),.slice Am nm cm,.slice Ao no co,.slice Ar nr cr] 218)(hB90:fE w g90 [.slice A N cap,.map (some ga),.map (some gf)] 109)(hTm:cJ w Am nm ms)(hTr:cJ w Ar nr rs)(hcm:nm≤cm)(hN:nm+nr≤10000000):dR prog 105 [.pointer (some ⟨g91,0,none⟩)] w (fun v _=>v=.bool (aii ms rs)):=by
 refine⟨bO func105 (by kernel_rfl),?_⟩;have m:=Mem.refl w;have htm:=hTm.len
 go_enter func105,ntmps105
 apply iE 10 [0] m;simp only[↓aD,Kf,aa];refine aQ O ((hB91.ext m.ext).lies1 nW O) ?_;simp only[zz];apply aM 4 [0] m;simp only[↓aD,mC];refine cP [12] [2,3,4,5,6,13,14,15,16,17,18,19,20,21,22,23,24,25,26,27,28,29,30,31,32,33,34,35,36] (fun n vs wl=>∃(k:Nat),vs=[.int .i64 (k:Int)]∧Mem w wl []∧(∀(j:Nat) (t:T3),j<k→ms[j]? = some t→Wp ms rs t j=true)∧(k≤nm)∧(n=nm-k)) ?_ ?_
 ·
  exact⟨_,0,O,m,(fun j t h=>by omega),bw _,O⟩
 · intro n vs wr hI u K1 hK1
   obtain⟨k,rfl,m,hu0,hk,hn⟩:=hI;simp only[zu,zF,zG];apply aL 5 [0,0] m;simp only[↓aD];refine bK O ?_ ?_<;>intro hc1
   ·
    obtain⟨t,ht,hti,a,rfl,hrow⟩:=hTm.get (i:=k) (by omega);apply aL 6 [0] m;simp only[↓aD];refine aB (aG bZ aR O O (by omega) (by omega) (bX (ai _))) ?_;simp only[zz];refine aQ O ((hrow.ext m.ext).lies dK aR) ?_;simp only[zz];apply iH 7 [0,0,0] m;simp only[↓aD,nB,iG,aa];intro g1 u m;refine wQ m O O (acJ (t:=t)) 5 [0,0] ?_;simp only[↓aD,aev,aeu,aa];intro g2 u m;refine aB eS ?_;simp only[zz,fb,bi,db];apply aM 3 [] m;simp only[↓aD];rcases Bool.eq_false_or_eq_true (rs.any (xG t)) with hq | hq
    ·
     apply bF 4 [0] m;simp only[↓aD,Ty,aa];refine aQ O ((hB91.ext m.ext).lies1 nW O) ?_;simp only[zz];apply aM 1 [0] m;simp only[↓aD];refine dH m O O (Ey (ts:=rs) (t:=t) _ (m.b 0 O) (m.b 1 O) (hTr.ext m.ext) (by omega)) ?_;rintro v u m rfl;simp only[zz];rw[hq];apply aM 17 [] m;simp only[↓aD];refine aY O O ?_;try simp only[zD,zE]
     exact⟨_,O,m.ext,by rw[agA ht (arR hq)]⟩
    ·
     apply bF 4 [0] m;simp only[↓aD,Ty,aa];refine aQ O ((hB91.ext m.ext).lies1 nW O) ?_;simp only[zz];apply aM 1 [0] m;simp only[↓aD];refine dH m O O (Ey (ts:=rs) (t:=t) _ (m.b 0 O) (m.b 1 O) (hTr.ext m.ext) (by omega)) ?_;rintro v u m rfl;simp only[zz];rw[hq];apply aM 4 [0] m;simp only[↓aD,Kf,aa];refine eY O (aQ O ((hB91.ext m.ext).lies1 nW O) ?_);simp only[zz];apply aM 1 [0] m;simp only[↓aD];refine eY O (aB (nC bZ aR O O (ai _) (by omega) (by omega)) ?_);apply aM 1 [0] m;simp only[↓aD];refine eY O (dH m O O (Ey (ts:=ms.take k) (t:=t) _ (m.b 0 O) (m.b 1 O) ((hTm.take (k:=k) (by omega)).ext m.ext) (by omega)) ?_);rintro v u m rfl;apply aM 2 [0] m;simp only[↓aD];refine dC O ?_ ?_<;>intro hc2
     ·
      apply aL 5 [] m;simp only[↓aD];refine aY O O ?_;try simp only[zD,zE]
      exact⟨_,O,m.ext,by rw[agA ht (arS hc2)]⟩
     ·
      apply aL 6 [0] m;simp only[↓aD];refine⟨by omega,?_⟩;exact hK1 (nm-(k+1)) _ _ (by omega) (by kernel_rfl) ⟨k+1, rfl, (m.sel [false, false]), (fun j t2 hj h1 => by
       rcases dz j k with h | h
       · exact hu0 j t2 h h1
       · obtain rfl:j=k:=by omega
         rw[ht] at h1;cases h1;exact arT hq hc2),by omega,O⟩
   ·
    apply aL 6 [] m;simp only[↓aD];refine aY O O ?_;try simp only[zD,zE]
    exact⟨_,O,m.ext,by rw[amb fun j t h1=>hu0 j t (by have:=(ax.1 h1).1;omega) h1]⟩
end Go.Proofs.YtfekpcimgncioaaGreatDoor
namespace Go.Lith
open Go.RowKit
section
variable {P:Program} {ops:Array Oper} {Q:Exit→Act→am→Prop} {md:Region.Mode} {S:am→Prop} {tl:List Nat}
def Im(P:Program)(md:Region.Mode)(ops:Array Oper)(Q:Exit→Act→am→Prop)(S:am→Prop)(tl:List Nat):Nat→Array Bool→Act→am→Prop
 | 0,listed,a,w=>Region.ready md ops listed=[]∧Q .normal a w
 | fuel+1,listed,a,w =>
  (Region.ready md ops listed=[]→Q .normal a w) ∧
  ∀i∈Region.ready md ops listed,wpOp P ops Q i (fun a' w'=>(i∉tl→S w→S w')∧Im P md ops Q S tl fuel (listed.setIfInBounds i true) a' w') a w
theorem Vb:∀(fuel:Nat) (listed:Array Bool) (a:Act) (w:am),Im P md ops Q S tl fuel listed a w→wpAny P md ops Q fuel listed a w
 | 0,_,_,_,h=>h
 | fuel+1,_,_,_,h=>⟨h.1,fun i hi=>wpOp_mono (fun a' w' h'=>Vb fuel _ a' w' h'.2) (h.2 i hi)⟩
def aeW(md:Region.Mode)(ops:Array Oper)(listed:Array Bool):Prop:=∀j oj,ops[j]? = some oj→listed.getD j false=true→∀e∈oj.after,Region.binds md e=true→listed.getD e.on false=true
def Vc(md:Region.Mode)(ops:Array Oper):Nat→Nat→Nat→Bool
 | 0,_,_=>false
 | f+1,j,i=>match ops[j]? with
  | none=>false
  | some o=>o.after.any fun e=>Region.binds md e&&(e.on == i||Vc md ops f e.on i)
theorem Ky{listed:Array Bool}(D:aeW md ops listed){i:Nat}:∀(f j:Nat),(∀oj,ops[j]? = some oj→∀e∈oj.after,Region.binds md e=true→listed.getD e.on false=true)→Vc md ops f j i=true→listed.getD i false=true
 | 0,_,_,h=>by cases h
 | f+1,j,hj,h=>by
  unfold Vc at h;split at h
  · cases h
  · rename_i o ho
    rw[Array.any_eq_true] at h;obtain⟨k,hk,hh⟩:=h;rw[bh,im,beq_iff_eq] at hh;have hl:=hj o ho _ (Array.getElem_mem hk) hh.1;rcases hh.2 with e | hn
    · rw[←e];exact hl
    · exact Ky D f _ (fun oj hoj e he hb=>D _ oj hoj hl e he hb) hn
theorem aeW.set{listed:Array Bool}(D:aeW md ops listed){i:Nat}(hi:i∈Region.ready md ops listed):aeW md ops (listed.setIfInBounds i true):=fun j oj hoj hl e he hb=>by
 obtain⟨h0,o,ho,hall⟩:=mem_ready.1 hi;by_cases e':i=j
 · subst e'
   rw[ho] at hoj;cases hoj;exact getD_set_true (hall e he hb)
 · rw[getD_set_ne false e'] at hl
   exact getD_set_true (D j oj hoj hl e he hb)
theorem Kz{S':am→Prop}{i:Nat}{oi:Oper}{v:ak}(hi:ops[i]? = some oi)(hsel:∀(j:Nat) (o:Oper) cs b,ops[j]? = some o→o.op≠.select cs b)
 (hQ:∀c a w,Q (.panic c) (a.put oi.dst v) w→Q (.panic c) a w) (hk:(∀w,S' w)∨((∀w,S w→S' w)∧∀j∈tl,∃f,Vc md ops f j i=true)) :
 ∀(fuel:Nat) (listed:Array Bool) (a:Act) (w:am),
  (∀j oj,ops[j]? = some oj→j≠i→listed.getD j true=false→(∀e∈oj.after,Region.binds md e=true→e.on≠i)→oi.apart ops oj=true) →
  i∈Region.ready md ops listed→aeW md ops listed→YieldsIf P ops S' oi v a→(S w∨∀w,S' w) →
  Im P md ops Q S tl fuel (listed.setIfInBounds i true) (a.put oi.dst v) w→Im P md ops Q S tl (fuel+1) listed a w:=by
 intro fuel;have hS':∀w,(S w∨∀w,S' w)→S' w:=fun w h=>by
  rcases h with h | h
  · rcases hk with k | k
    · exact k w
    · exact k.1 w h
  · exact h w
 induction fuel with
 | zero =>
  intro listed a w _ hr D hy hS H;refine⟨fun h=>(by rw[h] at hr;cases hr),fun j hj=>?_⟩;by_cases hji:j=i
  · subst hji;exact hy.wpOp hi (hS' w hS) ⟨fun _ h=>h,H⟩
  · have:=ready_mono hj hji
    rw[H.1] at this;cases this
 | succ fuel ih =>
  intro listed a w hfree hr D hy hS H;refine⟨fun h=>(by rw[h] at hr;cases hr),fun j hj=>?_⟩;by_cases hji:j=i
  · subst hji;exact hy.wpOp hi (hS' w hS) ⟨fun _ h=>h,H⟩
  · have h1:=H.2 j (ready_mono hj hji)
    obtain⟨hjun,oj,hoj,hall⟩:=mem_ready.1 hj;have hiun:listed.getD i false=true→False:=fun h1=>by
     have h0:=(mem_ready.1 hr).1;rcases dz i listed.size with h' | h'
     · simp[h'] at h0 h1;rw[h0] at h1;cases h1
     · simp[Array.getElem?_eq_none h'] at h1
    have hnot:∀e∈oj.after,Region.binds md e=true→e.on≠i:=fun e he hb heq=>hiun (heq▸hall e he hb);have h2:=wpOp_putIf hoj (hfree j oj hoj hji hjun hnot) (fun cs b=>hsel i oi cs b hi) (fun cs b=>hsel j oj cs b hoj) hQ hy h1;have hfree':∀k ok,ops[k]? = some ok→k≠i→(listed.setIfInBounds j true).getD k true=false →
     (∀e∈ok.after,Region.binds md e=true→e.on≠i)→oi.apart ops ok=true:=fun k ok hk hki hun hno=>by
     refine hfree k ok hk hki ?_ hno;by_cases hjk:j=k
     · subst hjk;exact hjun
     · rw[getD_set_ne true hjk] at hun;exact hun
    have hstay:∀w',(j∉tl→S w→S w')→(S w'∨∀w,S' w):=fun w' h=>by
     rcases hk with k | k
     · exact .inr k
     · rcases hS with hS | hS
       · refine .inl (h (fun hm=>?_) hS)
         obtain⟨f,hf⟩:=k.2 j hm;exact hiun (Ky D f j (fun oj' hoj' e he hb=>by rw[hoj] at hoj';cases hoj';exact hall e he hb) hf)
       · exact .inr hS
    refine wpOp_mono (fun a' w' h3=>⟨h3.2.1,ih (listed.setIfInBounds j true) a' w' hfree' (ready_mono hr (Ne.symm hji)) (D.set hj) h3.1 (hstay w' h3.2.1) ?_⟩) h2;rw[Array.setIfInBounds_comm _ _ hji];exact h3.2.2
theorem Vd{rs:List Nat}{fuel:Nat}{listed:Array Bool}{a:Act}{w:am}(hr:Region.ready md ops listed=rs)(hne:rs≠[])
 (h:∀i∈rs,wpOp P ops Q i (fun a' w'=>(i∉tl→S w→S w')∧Im P md ops Q S tl fuel (listed.setIfInBounds i true) a' w') a w):Im P md ops Q S tl (fuel+1) listed a w :=
 ⟨fun h0=>absurd (hr▸h0) hne,hr▸h⟩
inductive yC where
 | nil:yC
 | take:Nat→yC→yC
 | move:Nat→yC→yC
 | one:Nat→yC→yC
 | two:Nat→yC→Nat→yC→yC
def yC.ok(md:Region.Mode)(ops:Array Oper)(tl:List Nat):yC→Nat→Array Bool→Bool→Bool
 | .nil,f,listed,_=>f == 0&&(Region.ready md ops listed).isEmpty
 | .take i t,f,listed,b=>decide (0<f)&&(ops[i]?).isSome&&Region.free md ops listed i&&(Region.ready md ops listed).contains i&&b&&tl.all (fun j=>Vc md ops 6 j i)&&t.ok md ops tl (f-1) (listed.setIfInBounds i true) b
 | .move i t,f,listed,b=>decide (0<f)&&(ops[i]?).isSome&&Region.free md ops listed i&&(Region.ready md ops listed).contains i&&t.ok md ops tl (f-1) (listed.setIfInBounds i true) b
 | .one i t,f,listed,b=>decide (0<f)&&(ops[i]?).isSome&&decide (Region.ready md ops listed=[i])&&t.ok md ops tl (f-1) (listed.setIfInBounds i true) (b && !tl.contains i)
 | .two i t j u,f,listed,b=>decide (0<f)&&(ops[i]?).isSome&&(ops[j]?).isSome&&decide (Region.ready md ops listed=[i,j])&&t.ok md ops tl (f-1) (listed.setIfInBounds i true) (b && !tl.contains i)&&u.ok md ops tl (f-1) (listed.setIfInBounds j true) (b && !tl.contains j)
def jK(P:Program)(ops:Array Oper)(S:am→Prop)(tl:List Nat)(Q:Exit→Act→am→Prop):yC→Act→am→Prop
 | .nil,a,w=>Q .normal a w
 | .take i t,a,w=>bJ P ops S (fun _ a w=>jK P ops S tl Q t a w) [((ops[i]?).getD default,true)] a w
 | .move i t,a,w=>bJ P ops (fun _=>True) (fun _ a w=>jK P ops S tl Q t a w) [((ops[i]?).getD default,true)] a w
 | .one i t,a,w=>au P ops (Exit.then (fun a w=>(i∉tl→S w)∧jK P ops S tl Q t a w) Q) [(ops[i]?).getD default] a w
 | .two i t j u,a,w=>au P ops (Exit.then (fun a w=>(i∉tl→S w)∧jK P ops S tl Q t a w) Q) [(ops[i]?).getD default] a w∧au P ops (Exit.then (fun a w=>(j∉tl→S w)∧jK P ops S tl Q u a w) Q) [(ops[j]?).getD default] a w
theorem mD{Q:Exit→Act→am→Prop}(hs:Region.noSelect ops=true)(hQ:∀c d v a w,Q (.panic c) (Act.put a d v) w→Q (.panic c) a w):∀(t:yC) (f:Nat) (listed:Array Bool) (b:Bool) (a:Act) (w:am),
 t.ok md ops tl f listed b=true→aeW md ops listed→(b=true→S w)→jK P ops S tl Q t a w→Im P md ops Q S tl f listed a w
 | .nil,f,listed,b,a,w,hB,_,_,h=>by
  simp only[yC.ok,bh,beq_iff_eq] at hB;obtain⟨rfl,h2⟩:=hB;exact⟨by simpa using h2,h⟩
 | .take i t,f,listed,b,a,w,hB,D,hS,h=>by
  simp only[yC.ok,bh,decide_eq_true_eq] at hB;obtain⟨⟨⟨⟨⟨⟨h0,h1⟩,h2⟩,h3⟩,hb⟩,hn⟩,h4⟩:=hB;obtain⟨o,ho⟩:=di.1 h1;simp only[jK,bJ,ho,de] at h;obtain⟨v,hy,hr⟩:=h;obtain⟨f,rfl⟩:∃g,f=g+1:=⟨f-1,by omega⟩
  have hrd:i∈Region.ready md ops listed:=by simpa using h3
  refine Kz (S':=S) ho (Region.noSelect_spec hs) (fun c a w=>hQ c _ v a w) (.inr ⟨fun _ h=>h,fun j hj=>⟨6,dt.1 hn j hj⟩⟩) f listed a w (Region.free_spec ho h2) hrd D hy (.inl (hS hb)) ?_;exact mD hs hQ t f _ b _ _ h4 (D.set hrd) hS hr
 | .move i t,f,listed,b,a,w,hB,D,hS,h=>by
  simp only[yC.ok,bh,decide_eq_true_eq] at hB;obtain⟨⟨⟨⟨h0,h1⟩,h2⟩,h3⟩,h4⟩:=hB;obtain⟨o,ho⟩:=di.1 h1;simp only[jK,bJ,ho,de] at h;obtain⟨v,hy,hr⟩:=h;obtain⟨f,rfl⟩:∃g,f=g+1:=⟨f-1,by omega⟩
  have hrd:i∈Region.ready md ops listed:=by simpa using h3
  refine Kz (S':=fun _=>True) ho (Region.noSelect_spec hs) (fun c a w=>hQ c _ v a w) (.inl fun _=>trivial) f listed a w (Region.free_spec ho h2) hrd D hy (.inr fun _=>trivial) ?_;exact mD hs hQ t f _ b _ _ h4 (D.set hrd) hS hr
 | .one i t,f,listed,b,a,w,hB,D,hS,h=>by
  simp only[yC.ok,bh,decide_eq_true_eq] at hB;obtain⟨⟨⟨h0,h1⟩,h2⟩,h4⟩:=hB;obtain⟨o,ho⟩:=di.1 h1;obtain⟨f,rfl⟩:∃g,f=g+1:=⟨f-1,by omega⟩
  refine Vd h2 (by simp) fun j hj=>?_;obtain rfl:j=i:=by simpa using hj
  simp only[jK,ho,de] at h;refine wpOp_mono (fun a' w' hh=>⟨fun hn _=>hh.1 hn,mD hs hQ t f _ _ a' w' h4 (D.set (by rw[h2];exact bg.2 O)) (fun hb=>hh.1 ?_) hh.2⟩) (kB ho h);simp only[bh,ij,List.contains_eq_mem,decide_eq_false_iff_not] at hb;exact hb.2
 | .two i t j u,f,listed,b,a,w,hB,D,hS,h=>by
  simp only[yC.ok,bh,decide_eq_true_eq] at hB;obtain⟨⟨⟨⟨⟨h0,h1⟩,h1'⟩,h2⟩,h4⟩,h5⟩:=hB;obtain⟨o,ho⟩:=di.1 h1;obtain⟨o',ho'⟩:=di.1 h1';obtain⟨f,rfl⟩:∃g,f=g+1:=⟨f-1,by omega⟩
  simp only[jK,ho,ho',de] at h;have hb2:∀{k:Nat},(b && !tl.contains k)=true→k∉tl:=fun {k} hb=>by
   simp only[bh,ij,List.contains_eq_mem,decide_eq_false_iff_not] at hb;exact hb.2
  refine Vd h2 (by simp) fun k hk=>?_;have hk':k=i∨k=j:=by simpa using hk
  rcases hk' with rfl | rfl
  · exact wpOp_mono (fun a' w' hh=>⟨fun hn _=>hh.1 hn,mD hs hQ t f _ _ a' w' h4 (D.set (by rw[h2];simp)) (fun hb=>hh.1 (hb2 hb)) hh.2⟩) (kB ho h.1)
  · exact wpOp_mono (fun a' w' hh=>⟨fun hn _=>hh.1 hn,mD hs hQ u f _ _ a' w' h5 (D.set (by rw[h2];simp)) (fun hb=>hh.1 (hb2 hb)) hh.2⟩) (kB ho' h.2)
theorem arU(md:Region.Mode)(ops:Array Oper)(n:Nat):aeW md ops (fy n false):=fun j oj _ hl=>by
 rcases dz j n with h | h
 · simp[h] at hl
 · simp[Nat.not_lt.2 h] at hl
variable {w w0:am} {is:List It} {a:Act} {ds:List Deferred} {l:List ak}
theorem apG{id:Nat}{ol:List Oper}(m:Mem w0 w is)(bs:List Bool)(tl:List Nat)(t:yC)(hm:P.follows .mixedOrders=true)(hB:(Region.noSelect ol.toArray&&t.ok .any ol.toArray tl ol.toArray.size (fy ol.toArray.size false) true)=true)
 (hQ:∀c d v a w,Q (.panic c) (Act.put a d v) w→Q (.panic c) a w)
 (h:∀u,Mem w0 u is→jK P ol.toArray (fun u=>Mem w0 u (rG bs is)) tl Q t a u):(Code.region id ol.toArray true).wp P Q a w:=by
 simp only[bh] at hB;have m':=m.ext' (dY.refl w).drawn;exact wp_region_any hm (Vb _ _ _ _ (mD (S:=fun u=>Mem w0 u (rG bs is)) hB.1 hQ t _ _ true _ _ hB.2 (arU _ _ _) (fun _=>m'.sel bs) (h _ m')))
variable {o o':Oper} {i j:Nat} {t u:yC}
theorem agB(h:Q .normal a w):jK P ops S tl Q .nil a w:=h
theorem jX(ho:(ops[i]?).getD default=o)(h:bJ P ops S (fun _ a w=>jK P ops S tl Q t a w) [(o,true)] a w):jK P ops S tl Q (.take i t) a w:=by subst ho;exact h
theorem Io(ho:(ops[i]?).getD default=o)(h:bJ P ops (fun _=>True) (fun _ a w=>jK P ops S tl Q t a w) [(o,true)] a w):jK P ops S tl Q (.move i t) a w:=by subst ho;exact h
theorem uY(ho:(ops[i]?).getD default=o)(h:au P ops (Exit.then (fun a w=>(i∉tl→S w)∧jK P ops S tl Q t a w) Q) [o] a w):jK P ops S tl Q (.one i t) a w:=by subst ho;exact h
theorem apH(ho:(ops[i]?).getD default=o)(ho':(ops[j]?).getD default=o')(h:au P ops (Exit.then (fun a w=>(i∉tl→S w)∧jK P ops S tl Q t a w) Q) [o] a w)(h':au P ops (Exit.then (fun a w=>(j∉tl→S w)∧jK P ops S tl Q u a w) Q) [o'] a w):jK P ops S tl Q (.two i t j u) a w:=by
 subst ho;subst ho';exact⟨h,h'⟩
end
end Go.Lith
namespace Go.Proofs.YtfekpcimgncioaaGreatDoor
open Go.Proofs.Tryz
open Go.RowKit Go.Lith
set_option maxRecDepth 100000
attribute [local irreducible] au cq eF bJ cD Code.wp
attribute [local congr] oG fS fT fU fV fW jR fX fY fZ gA gB gC gD gE gF gG gH eM eN gI gJ gL gM gN jT cW cX cA cU gK jS eO eP eQ gQ gR jU
variable{u:P3}{ts:List T3}{k:Nat}{t:T3}
theorem atz{v:P3}(h:ts[k]? = some t)(e:pI u v t=t):sC u v (ts.take (k+1))=sC u v (ts.take k)++[t]∧nJ u v (ts.take (k+1))=nJ u v (ts.take k):=by
 rw[cC h];unfold sC nJ;simp[e]
theorem amd{v:P3}(h:ts[k]? = some t)(e:¬pI u v t=t)(hn:(pI u v t).nd=true):nJ u v (ts.take (k+1))=nJ u v (ts.take k)++[t]∧sC u v (ts.take (k+1))=sC u v (ts.take k):=by
 rw[cC h];unfold sC nJ;simp[e,hn]
theorem atA{v:P3}(h:ts[k]? = some t)(e:¬pI u v t=t)(hn:(pI u v t).nd=false):nJ u v (ts.take (k+1))=nJ u v (ts.take k)∧sC u v (ts.take (k+1))=sC u v (ts.take k):=by
 rw[cC h];unfold sC nJ;simp[e,hn]
theorem agC{v:P3}{l m:List T3}(h:nJ u v l=nJ u v m):nK u v l=nK u v m:=by unfold nK;rw[h]
theorem aeX{v:P3}(h:nJ u v (ts.take (k+1))=nJ u v (ts.take k)++[t]):nK u v (ts.take (k+1))=nK u v (ts.take k)++[pI u v t]:=by unfold nK;rw[h,cz];rfl
theorem ame(u v:P3)(l:List T3):(sC u v l).length≤l.length:=fu ..
theorem aeY(u v:P3)(l:List T3):(nJ u v l).length≤l.length:=fu ..
theorem abh(u v:P3)(l:List T3):(nK u v l).length=(nJ u v l).length:=List.length_map ..
theorem amf{s:T3}:(s.a.x=t.a.x∧s.a.y=t.a.y∧s.a.z=t.a.z∧s.b.x=t.b.x∧s.b.y=t.b.y∧s.b.z=t.b.z∧s.c.x=t.c.x∧s.c.y=t.c.y∧s.c.z=t.c.z)↔s=t :=
 ⟨fun⟨h1,h2,h3,h4,h5,h6,h7,h8,h9⟩=>Mg (P3.eq h1 h2 h3) (P3.eq h4 h5 h6) (P3.eq h7 h8 h9),fun h=>by rw[h];simp only[and_self]⟩
theorem arV{g90 ga gf N cap ca:Nat}{A:Option Addr}{ea:Array cg}{D:List (P3 × Hd)}{p q:P3}[I3 p][I3 q](w:am)(hB90:fE w g90 [.slice A N cap,.map (some ga),.map (some gf)] 109)(hMa:iN w ga ea ca)(hDa:bA pt Hd.v D ea ca)(hS:∀p,cJ w (qS D p).A (qS D p).n (ts.filter fun t=>t.has p)∧(qS D p).n≤(qS D p).cap)(hT:cJ w A N ts)(hN:ts.length≤10000000):dR prog 99 [.pointer (some ⟨g90,0,none⟩),pt p,pt q] w (fun v w'=>∃g91 gx ex cx gy ey cy Am nm cm Ao no co Ar nr cr,v=.pointer (some ⟨g91,0,none⟩)∧Mem w w' [bI g91 [.pointer (some ⟨g90,0,none⟩),.int .i64 p.x,.int .i64 p.y,.int .i64 p.z,.int .i64 q.x,.int .i64 q.y,.int .i64 q.z,.map (some gx),.map (some gy),.slice Am nm cm,.slice Ao no co,.slice Ar nr cr] 218,oI 39 9 Ar nr cr ((sC p q ts).flatMap aP),oI 39 9 Ao no co ((nJ p q ts).flatMap aP),oI 39 9 Am nm cm ((nK p q ts).flatMap aP),mI gy ey cy,mI gx ex cx]∧bA pt ba (dX [] (oK ts p)) ex cx∧bA pt ba (dX [] (oK ts q)) ey cy∧nm=(nK p q ts).length∧no=(nJ p q ts).length∧nr=(sC p q ts).length):=by
 refine⟨bO func99 (by kernel_rfl),?_⟩;have m:=Mem.refl w;have htl:=hT.len
 go_enter func99,ntmps99
 apply nM 7 [0] m;simp only[↓aD];intro g1 g2 u m;refine mh m [true,true] [(0,true),(3,true),(6,true),(1,true),(2,true),(4,true),(7,true),(5,false),(8,false),(9,true),(10,false),(11,true)] aF (by kernel_rfl) (cB (fun _ _ _ _ _ h=>h)) (ol:=?_) ?hol ?_
 case hol=>simp only[zw,zQ,zR];try rfl
 intro u m;refine Oc 7 [1,0,1,0] ?_;simp only[↓aD,aS];refine cG (bB O O (aa7 (p:=p) _ (hB90.ext m.ext) (hMa.ext m.ext) hDa (fun z=>⟨((hS z).1).ext m.ext,(hS z).2⟩) hN) ?_);rintro v u e_ ⟨qx,esx,cx,rfl,hM,hDx⟩;replace m:=m.plus hM;clear hM;simp only[cn,bv] at m;refine aI ⟨m.sel [false,true,true],?_⟩;refine cG ?_;simp only[zz];refine bB O O (aa7 (p:=q) _ (hB90.ext m.ext) (hMa.ext m.ext) hDa (fun z=>⟨((hS z).1).ext m.ext,(hS z).2⟩) hN) ?_;rintro v u e_ ⟨qy,esy,cy,rfl,hM,hDy⟩;replace m:=m.plus hM;clear hM;simp only[cn,bv] at m;refine aI ⟨m.sel [false,false,true,true],?_⟩;refine cF (Ck O O O O O) (cG ?_);simp only[zz];refine Rn m O ?_;intro g3 u m;refine aI ⟨m.sel [false,false,false,true,true],?_⟩;refine cF aJ (bY ?_);simp only[zz];replace m:=m.nilO 39 9;replace m:=m.nilO 39 9;replace m:=m.nilO 39 9;replace m:=m.pull 3 O;simp only[dO,dP,zF,zG] at m;apply bF 6 [0] m;simp only[↓aD,akH,aa];refine aQ O ((hB90.ext m.ext).lies1 nW O) ?_;simp only[zz];apply aM 4 [0] m;simp only[↓aD,mC];refine cP [28] [9,10,11,29,30,31,32,33,34,35,36,37,38,39,40,41,42,43,44,45,46,47,48,49,50,51,52,53,54,55,56,57,58,59,60,61,62,63,64,65,66,67,68,69,70,71,72,73,74,75] (fun n vs wl=>∃(k:Nat) (A5 A6 A7:Option Addr) (cap5 cap6 cap7:Nat),vs=[.int .i64 (k:Int)]∧Mem w wl [bI g3 [.pointer (some ⟨g90,0,none⟩),.int .i64 p.x,.int .i64 p.y,.int .i64 p.z,.int .i64 q.x,.int .i64 q.y,.int .i64 q.z,.map (some qx),.map (some qy),.slice A5 (nK p q (ts.take k)).length cap5,.slice A6 (nJ p q (ts.take k)).length cap6,.slice A7 (sC p q (ts.take k)).length cap7] 218,oI 39 9 A7 (sC p q (ts.take k)).length cap7 ((sC p q (ts.take k)).flatMap aP),oI 39 9 A6 (nJ p q (ts.take k)).length cap6 ((nJ p q (ts.take k)).flatMap aP),oI 39 9 A5 (nK p q (ts.take k)).length cap5 ((nK p q (ts.take k)).flatMap aP),mI qy esy cy,mI qx esx cx,bI g2 [.int .i64 q.x,.int .i64 q.y,.int .i64 q.z] 30,bI g1 [.int .i64 p.x,.int .i64 p.y,.int .i64 p.z] 30]∧(k≤N)∧(n=N-k)) ?_ ?_
 ·
  exact⟨_,0,_,_,_,_,_,_,O,m,bw _,O⟩
 · intro n vs wr hI u K1 hK1
   obtain⟨k,A5,A6,A7,cap5,cap6,cap7,rfl,m,hk,hn⟩:=hI;simp only[zu,zF,zG];apply aL 5 [0,0] m;simp only[↓aD];refine bK O ?_ ?_<;>intro hc1
   ·
    obtain⟨t,ht,hti,a,hA,hrow⟩:=hT.get (i:=k) (by omega);subst hA;have hle1:=ame p q (ts.take k);have hle2:=aeY p q (ts.take k);have hle3:=abh p q (ts.take k);rw[bx] at hle1 hle2;apply aL 5 [0] m;simp only[↓aD];refine aB (aG bZ aR O O (by omega) (by omega) (bX (ai _))) ?_;simp only[zz];refine aQ O ((hrow.ext m.ext).lies dK aR) ?_;simp only[zz];apply iH 8 [0,0,8,7,0] m;simp only[↓aD,nB,iG,aS,aa];intro g4 u m;refine wQ m O O (agi (t:=t) (p:=p) (q:=q)) 12 [0,0,1,0] ?_;simp only[↓aD,nB,iG,aa];intro g5 u m;refine aB (ahk O O) ?_;apply aM 2 [0] m;simp only[↓aD];refine bK O ?_ ?_<;>intro hc2
    ·
     refine apG m [true,true,true,false,true,true,true,true,true,true] [10] (.take 0 (.take 1 (.take 2 (.take 3 (.take 4 (.take 5 (.one 6 (.one 7 (.take 8 (.take 9 (.one 10 .nil))))))))))) aF (by kernel_rfl) (cB (fun _ _ _ _ _ h=>h)) ?_;intro u m;refine jX (by simp only[zw];rfl) (cF aC (bY (jX (by simp only[zw];rfl) (cF aC (bY (jX (by simp only[zw];rfl) (cF (eV rfl) (bY (jX (by simp only[zw];rfl) (cF (bD (c:=0) oQ rfl iU rfl rfl) ?_))))))))));simp only[zz];refine bY (jX (by simp only[zw];rfl) (nT rfl (fun u m=>((m.b 2 rfl).lies1 nW rfl)) ?_));simp only[zz];refine bY (jX (by simp only[zw];rfl) (nT rfl (fun u m=>((m.b 1 rfl).full dK aR)) ?_));simp only[zz];refine bY (uY (by simp only[zw];rfl) ?_);refine nG O ?_;intro u g6 e_ h_ k_;replace m:=m.newB e_ h_ k_;refine aI ⟨fun _=>m.sel [false,true,true,true,false,true,true,true,true,true,true],?_⟩;refine uY (by simp only[zw];rfl) ?_;simp only[zz];refine cS m 4 O O bZ kS O (by decide) O O O (m.b 0 O).rowsO (nQ O) (by have:=hle1;omega) (by have:=hle1;omega) ?_;intro A7 cap7 u m;simp only[zF,zG] at m;refine aI ⟨fun _=>m.sel [false,true,true,true,false,true,true,true,true,true,true],?_⟩;refine jX (by simp only[zw];rfl) (cF (eV rfl) (bY (jX (by simp only[zw];rfl) (cF (bD (c:=0) oQ rfl iU rfl rfl) (bY (uY (by simp only[zw];rfl) ?_))))));simp only[zz];refine fK (off:=11) m 3 O O O iU (jO O) ⟨O,O⟩ ?_;intro u m;simp only[zz,zy,zx,bQ,aa] at m;refine aI ⟨fun h=>absurd (by decide) h,?_⟩;refine agB ?_;apply bF 6 [0] m;simp only[↓aD];refine⟨by omega,?_⟩;have hcs:=atz (u:=p) (v:=q) ht (amf.1 hc2);have hcm:=agC hcs.2;rw[show ((sC p q (ts.take k))).flatMap aP++_=(sC p q (ts.take (k+1))).flatMap aP by rw[hcs.1,be];rfl,show ((sC p q (ts.take k))).length+1=(sC p q (ts.take (k+1))).length by rw[hcs.1,a_];rfl] at m;rw[←hcs.2,←hcm] at m;exact hK1 (N-(k+1)) _ _ (by omega) (by kernel_rfl) ⟨k+1,_,_,_,_,_,_,O,(m.sel [false,false,false,true,true,true,true,true,true,true,true]),by omega,O⟩
    ·
     apply aL 5 [0] m;simp only[↓aD];refine dC O ?_ ?_<;>intro hc3
     ·
      refine apG m [true,true,true,true,false,false,true,true,true,true] [18,21] (.take 0 (.move 1 (.take 2 (.take 3 (.take 4 (.take 5 (.take 6 (.take 9 (.take 10 (.take 11 (.take 12 (.take 13 (.two 7 (.two 8 (.one 14 (.one 15 (.take 16 (.take 17 (.one 18 (.move 19 (.move 20 (.one 21 .nil)))))))) 14 (.one 8 (.one 15 (.take 16 (.take 17 (.one 18 (.move 19 (.move 20 (.one 21 .nil))))))))) 14 (.one 7 (.one 8 (.one 15 (.take 16 (.take 17 (.one 18 (.move 19 (.move 20 (.one 21 .nil)))))))))))))))))))))) aF (by kernel_rfl) (cB (fun _ _ _ _ _ h=>h)) ?_;intro u m;refine jX (by simp only[zw];rfl) (cF aC (bY (Io (by simp only[zw];rfl) (cF aC (bY (jX (by simp only[zw];rfl) (cF aC (bY (jX (by simp only[zw];rfl) (cF (eV rfl) ?_))))))))));simp only[zz];refine bY (jX (by simp only[zw];rfl) (cF (bD (c:=0) oQ rfl iU rfl rfl) (bY (jX (by simp only[zw];rfl) ?_))));simp only[zz];refine nT O (fun u m=>((m.b 2 O).lies1 nW O)) ?_;simp only[zz];refine bY (jX (by simp only[zw];rfl) (nT rfl (fun u m=>((m.b 0 rfl).full dK aR)) ?_));simp only[zz];refine bY (jX (by simp only[zw];rfl) (cF aC (bY (jX (by simp only[zw];rfl) (cF (eV rfl) (bY (jX (by simp only[zw];rfl) (cF (bD (c:=0) oQ rfl iU rfl rfl) (bY (jX (by simp only[zw];rfl) ?_))))))))));simp only[zz];refine nT O (fun u m=>((m.b 2 O).lies1 nW O)) ?_;simp only[zz];refine bY (jX (by simp only[zw];rfl) (nT rfl (fun u m=>((m.b 1 rfl).full dK aR)) ?_));simp only[zz];refine bY ?_;refine apH (by simp only[zw];rfl) (by simp only[zw];rfl) ?_ ?_
      ·
       refine nG O ?_;intro u g6 e_ h_ k_;replace m:=m.newB e_ h_ k_;refine aI ⟨fun _=>m.sel [false,true,true,true,true,false,false,true,true,true,true],?_⟩;simp only[zz];refine apH (by simp only[zw];rfl) (by simp only[zw];rfl) ?_ ?_
       ·
        refine cS m 6 O O bZ kS O (by decide) O O O (m.b 0 O).rowsO (nQ O) (by have:=hle3;omega) (by have:=hle3;omega) ?_;intro A5 cap5 u m;simp only[zF,zG] at m;refine aI ⟨fun _=>m.sel [false,true,true,true,true,false,false,true,true,true,true],?_⟩;refine uY (by simp only[zw];rfl) ?_;simp only[zz];refine nG O ?_;intro u g7 e_ h_ k_;replace m:=m.newB e_ h_ k_;refine aI ⟨fun _=>m.sel [false,false,true,true,true,true,false,false,true,true,true,true],?_⟩;refine uY (by simp only[zw];rfl) ?_;simp only[zz];refine cS m 6 O O bZ kS O (by decide) O O O (m.b 0 O).rowsO (nQ O) (by have:=hle2;omega) (by have:=hle2;omega) ?_;intro A6 cap6 u m;simp only[zF,zG] at m;refine aI ⟨fun _=>m.sel [false,false,true,true,true,true,false,false,true,true,true,true],?_⟩;refine jX (by simp only[zw];rfl) (cF (eV rfl) (bY (jX (by simp only[zw];rfl) (cF (bD (c:=0) oQ rfl iU rfl rfl) (bY (uY (by simp only[zw];rfl) ?_))))));simp only[zz];refine fK (off:=9) m 4 O O O iU (jO O) ⟨O,O⟩ ?_;intro u m;simp only[zz,zy,zx,bQ,aa] at m;refine aI ⟨fun h=>absurd (by decide) h,?_⟩;refine Io (by simp only[zw];rfl) (cF (eV rfl) (bY (Io (by simp only[zw];rfl) (cF (bD (c:=0) oQ rfl iU rfl rfl) (bY (uY (by simp only[zw];rfl) ?_))))));simp only[zz];refine fK (off:=10) m 4 O O O iU (jO O) ⟨O,O⟩ ?_;intro u m;simp only[zz,zy,zx,bQ,aa] at m;refine aI ⟨fun h=>absurd (by decide) h,?_⟩;refine agB ?_;apply bF 6 [0] m;simp only[↓aD];refine⟨by omega,?_⟩;have hcs:=amd (u:=p) (v:=q) ht (fun e=>hc2 (amf.2 e)) hc3;have hcm:=aeX hcs.1;rw[show ((nJ p q (ts.take k))).flatMap aP++_=(nJ p q (ts.take (k+1))).flatMap aP by rw[hcs.1,be];rfl,show ((nJ p q (ts.take k))).length+1=(nJ p q (ts.take (k+1))).length by rw[hcs.1,a_];rfl] at m;rw[show ((nK p q (ts.take k))).flatMap aP++_=(nK p q (ts.take (k+1))).flatMap aP by rw[hcm,be];rfl,show ((nK p q (ts.take k))).length+1=(nK p q (ts.take (k+1))).length by rw[hcm,a_];rfl] at m;rw[←hcs.2] at m;exact hK1 (N-(k+1)) _ _ (by omega) (by kernel_rfl) ⟨k+1,_,_,_,_,_,_,O,(m.sel [false,false,false,false,true,true,true,true,true,true,true,true]),by omega,O⟩
       ·
        refine nG O ?_;intro u g7 e_ h_ k_;replace m:=m.newB e_ h_ k_;refine aI ⟨fun _=>m.sel [false,false,true,true,true,true,false,false,true,true,true,true],?_⟩;refine uY (by simp only[zw];rfl) ?_;simp only[zz];refine cS m 7 O O bZ kS O (by decide) O O O (m.b 1 O).rowsO (nQ O) (by have:=hle3;omega) (by have:=hle3;omega) ?_;intro A5 cap5 u m;simp only[zF,zG] at m;refine aI ⟨fun _=>m.sel [false,false,true,true,true,true,false,false,true,true,true,true],?_⟩;refine uY (by simp only[zw];rfl) ?_;simp only[zz];refine cS m 6 O O bZ kS O (by decide) O O O (m.b 0 O).rowsO (nQ O) (by have:=hle2;omega) (by have:=hle2;omega) ?_;intro A6 cap6 u m;simp only[zF,zG] at m;refine aI ⟨fun _=>m.sel [false,false,true,true,true,true,false,false,true,true,true,true],?_⟩;refine jX (by simp only[zw];rfl) (cF (eV rfl) (bY (jX (by simp only[zw];rfl) (cF (bD (c:=0) oQ rfl iU rfl rfl) (bY (uY (by simp only[zw];rfl) ?_))))));simp only[zz];refine fK (off:=9) m 4 O O O iU (jO O) ⟨O,O⟩ ?_;intro u m;simp only[zz,zy,zx,bQ,aa] at m;refine aI ⟨fun h=>absurd (by decide) h,?_⟩;refine Io (by simp only[zw];rfl) (cF (eV rfl) (bY (Io (by simp only[zw];rfl) (cF (bD (c:=0) oQ rfl iU rfl rfl) (bY (uY (by simp only[zw];rfl) ?_))))));simp only[zz];refine fK (off:=10) m 4 O O O iU (jO O) ⟨O,O⟩ ?_;intro u m;simp only[zz,zy,zx,bQ,aa] at m;refine aI ⟨fun h=>absurd (by decide) h,?_⟩;refine agB ?_;apply bF 6 [0] m;simp only[↓aD];refine⟨by omega,?_⟩;have hcs:=amd (u:=p) (v:=q) ht (fun e=>hc2 (amf.2 e)) hc3;have hcm:=aeX hcs.1;rw[show ((nJ p q (ts.take k))).flatMap aP++_=(nJ p q (ts.take (k+1))).flatMap aP by rw[hcs.1,be];rfl,show ((nJ p q (ts.take k))).length+1=(nJ p q (ts.take (k+1))).length by rw[hcs.1,a_];rfl] at m;rw[show ((nK p q (ts.take k))).flatMap aP++_=(nK p q (ts.take (k+1))).flatMap aP by rw[hcm,be];rfl,show ((nK p q (ts.take k))).length+1=(nK p q (ts.take (k+1))).length by rw[hcm,a_];rfl] at m;rw[←hcs.2] at m;exact hK1 (N-(k+1)) _ _ (by omega) (by kernel_rfl) ⟨k+1,_,_,_,_,_,_,O,(m.sel [false,false,false,false,true,true,true,true,true,true,true,true]),by omega,O⟩
      ·
       refine nG O ?_;intro u g6 e_ h_ k_;replace m:=m.newB e_ h_ k_;refine aI ⟨fun _=>m.sel [false,true,true,true,true,false,false,true,true,true,true],?_⟩;refine uY (by simp only[zw];rfl) ?_;simp only[zz];refine nG O ?_;intro u g7 e_ h_ k_;replace m:=m.newB e_ h_ k_;refine aI ⟨fun _=>m.sel [false,false,true,true,true,true,false,false,true,true,true,true],?_⟩;refine uY (by simp only[zw];rfl) ?_;simp only[zz];refine cS m 7 O O bZ kS O (by decide) O O O (m.b 0 O).rowsO (nQ O) (by have:=hle3;omega) (by have:=hle3;omega) ?_;intro A5 cap5 u m;simp only[zF,zG] at m;refine aI ⟨fun _=>m.sel [false,false,true,true,true,true,false,false,true,true,true,true],?_⟩;refine uY (by simp only[zw];rfl) ?_;simp only[zz];refine cS m 6 O O bZ kS O (by decide) O O O (m.b 1 O).rowsO (nQ O) (by have:=hle2;omega) (by have:=hle2;omega) ?_;intro A6 cap6 u m;simp only[zF,zG] at m;refine aI ⟨fun _=>m.sel [false,false,true,true,true,true,false,false,true,true,true,true],?_⟩;refine jX (by simp only[zw];rfl) (cF (eV rfl) (bY (jX (by simp only[zw];rfl) (cF (bD (c:=0) oQ rfl iU rfl rfl) (bY (uY (by simp only[zw];rfl) ?_))))));simp only[zz];refine fK (off:=9) m 4 O O O iU (jO O) ⟨O,O⟩ ?_;intro u m;simp only[zz,zy,zx,bQ,aa] at m;refine aI ⟨fun h=>absurd (by decide) h,?_⟩;refine Io (by simp only[zw];rfl) (cF (eV rfl) (bY (Io (by simp only[zw];rfl) (cF (bD (c:=0) oQ rfl iU rfl rfl) (bY (uY (by simp only[zw];rfl) ?_))))));simp only[zz];refine fK (off:=10) m 4 O O O iU (jO O) ⟨O,O⟩ ?_;intro u m;simp only[zz,zy,zx,bQ,aa] at m;refine aI ⟨fun h=>absurd (by decide) h,?_⟩;refine agB ?_;apply bF 6 [0] m;simp only[↓aD];refine⟨by omega,?_⟩;have hcs:=amd (u:=p) (v:=q) ht (fun e=>hc2 (amf.2 e)) hc3;have hcm:=aeX hcs.1;rw[show ((nJ p q (ts.take k))).flatMap aP++_=(nJ p q (ts.take (k+1))).flatMap aP by rw[hcs.1,be];rfl,show ((nJ p q (ts.take k))).length+1=(nJ p q (ts.take (k+1))).length by rw[hcs.1,a_];rfl] at m;rw[show ((nK p q (ts.take k))).flatMap aP++_=(nK p q (ts.take (k+1))).flatMap aP by rw[hcm,be];rfl,show ((nK p q (ts.take k))).length+1=(nK p q (ts.take (k+1))).length by rw[hcm,a_];rfl] at m;rw[←hcs.2] at m;exact hK1 (N-(k+1)) _ _ (by omega) (by kernel_rfl) ⟨k+1,_,_,_,_,_,_,O,(m.sel [false,false,false,false,true,true,true,true,true,true,true,true]),by omega,O⟩
     ·
      apply aL 7 [0] m;simp only[↓aD];refine⟨by omega,?_⟩;have hcs:=atA (u:=p) (v:=q) ht (fun e=>hc2 (amf.2 e)) hc3;have hcm:=agC hcs.1;rw[←hcs.1,←hcs.2,←hcm] at m;exact hK1 (N-(k+1)) _ _ (by omega) (by kernel_rfl) ⟨k+1,_,_,_,_,_,_,O,(m.sel [false,false,true,true,true,true,true,true,true,true]),by omega,O⟩
   ·
    obtain rfl:k=N:=by omega
    rw[show ts.take k=ts from bf (by omega)] at m;apply aL 7 [] m;simp only[↓aD];exact aY O O ⟨_,O,m.ext,_,_,_,_,_,_,_,_,_,_,_,_,_,_,_,_,O,m.sel [true,true,true,true,true,true,false,false],hDx,hDy,O,O,O⟩
end Go.Proofs.YtfekpcimgncioaaGreatDoor
namespace Go.Lith
open Go.RowKit
def Ip(js:List It):It where
 own b:=∃j∈js,j.own b
 P w:=(∀j∈js,j.P w)∧js.Pairwise Ap
 lt w b h hb:=by
  obtain⟨j,hj,hb⟩:=hb;exact j.lt w b (h.1 j hj) hb
 st w w' h hs k:=⟨fun j hj=>j.st w w' (h.1 j hj) hs fun b hb=>k b ⟨j,hj,hb⟩,h.2⟩
section
variable {w0 w:am} {is js:List It}
theorem Mem.bagNil(m:Mem w0 w is):Mem w0 w (Ip []::is) :=
 ⟨m.ext,fun i hi=>by
  rcases ao.1 hi with rfl | hi
  · exact⟨fun j hj=>(by cases hj),List.Pairwise.nil⟩
  · exact m.all i hi,fun i hi b hb=>by
  rcases ao.1 hi with rfl | hi
  · obtain⟨j,hj,_⟩:=hb;cases hj
  · exact m.ge i hi b hb,bq.2 ⟨fun i _ b ⟨j,hj,_⟩=>(by cases hj),m.nd⟩⟩
theorem Mem.bagPull(m:Mem w0 w (Ip js::is))(i:Nat){j:It}(hj:js[i]? = some j):Mem w0 w (j::Ip (js.eraseIdx i)::is):=by
 have hp:=Ls js i j hj;obtain⟨h1,h2⟩:=bq.1 m.nd;have P:=m.all _ (bj ..);have hjm:=bn hj;have hsub:∀x∈js.eraseIdx i,x∈js:=fun x hx=>hp.mem_iff.1 (bm _ hx);have hpw:=bq.1 ((hp.pairwise_iff (fun {a b} (h:Ap a b)=>h.symm)).2 P.2);refine⟨m.ext,fun x hx=>?_,fun x hx b hb=>?_,bq.2 ⟨fun x hx b hb hxb=>?_,bq.2 ⟨fun x hx b ⟨y,hy,hb⟩=>h1 x hx b ⟨y,hsub y hy,hb⟩,h2⟩⟩⟩
 · rcases ao.1 hx with rfl | hx
   · exact P.1 x hjm
   · rcases ao.1 hx with rfl | hx
     · exact⟨fun y hy=>P.1 y (hsub y hy),hpw.2⟩
     · exact m.all x (bm _ hx)
 · rcases ao.1 hx with rfl | hx
   · exact m.ge _ (bj ..) b ⟨x,hjm,hb⟩
   · rcases ao.1 hx with rfl | hx
     · obtain⟨y,hy,hb⟩:=hb
       exact m.ge _ (bj ..) b ⟨y,hsub y hy,hb⟩
     · exact m.ge x (bm _ hx) b hb
 · rcases ao.1 hx with rfl | hx
   · obtain⟨y,hy,hyb⟩:=hxb
     exact hpw.1 y hy b hb hyb
   · exact h1 x hx b ⟨j,hjm,hb⟩ hxb
theorem Mem.bagPush{j:It}(m:Mem w0 w (j::Ip js::is)):Mem w0 w (Ip (j::js)::is):=by
 obtain⟨h1,h2⟩:=bq.1 m.nd;obtain⟨h3,h4⟩:=bq.1 h2;have P:=m.all (Ip js) (bm _ (bj ..));have Pj:=m.all j (bj ..);refine⟨m.ext,fun x hx=>?_,fun x hx b hb=>?_,bq.2 ⟨fun x hx b ⟨y,hy,hb⟩ hxb=>?_,h4⟩⟩
 · rcases ao.1 hx with rfl | hx
   · refine⟨fun y hy=>?_,bq.2 ⟨fun y hy b hb hyb=>h1 _ (bj ..) b hb ⟨y,hy,hyb⟩,P.2⟩⟩
     rcases ao.1 hy with rfl | hy
     · exact Pj
     · exact P.1 y hy
   · exact m.all x (bm _ (bm _ hx))
 · rcases ao.1 hx with rfl | hx
   · obtain⟨y,hy,hb⟩:=hb
     rcases ao.1 hy with rfl | hy
     · exact m.ge y (bj ..) b hb
     · exact m.ge (Ip js) (bm _ (bj ..)) b ⟨y,hy,hb⟩
   · exact m.ge x (bm _ (bm _ hx)) b hb
 · rcases ao.1 hy with rfl | hy
   · exact h1 x (bm _ hx) b hb hxb
   · exact h3 x hx b ⟨y,hy,hb⟩ hxb
end
end Go.Lith
namespace Go.Lith
open Go.RowKit Go.ChangeMaps
variable{t:T3}{c:P3}
section
variable {w0 w:am} {is js ks:List It}
theorem Mem.bagPerm(m:Mem w0 w (Ip js::is))(h:js.Perm ks):Mem w0 w (Ip ks::is):=by
 obtain⟨h1,h2⟩:=bq.1 m.nd;have P:=m.all _ (bj ..);refine⟨m.ext,fun x hx=>?_,fun x hx b hb=>?_,bq.2 ⟨fun x hx b ⟨y,hy,hb⟩ hxb=>?_,h2⟩⟩
 · rcases ao.1 hx with rfl | hx
   · exact⟨fun j hj=>P.1 j (h.mem_iff.2 hj),(h.pairwise_iff (fun {a b} (h:Ap a b)=>h.symm)).1 P.2⟩
   · exact m.all x (bm _ hx)
 · rcases ao.1 hx with rfl | hx
   · obtain⟨y,hy,hb⟩:=hb
     exact m.ge _ (bj ..) b ⟨y,h.mem_iff.2 hy,hb⟩
   · exact m.ge x (bm _ hx) b hb
 · exact h1 x hx b ⟨y,h.mem_iff.2 hy,hb⟩ hxb
theorem ac4{K V:Type}[DecidableEq K]{k:K}{v:V}{e:K × V}:∀{D:List (K × V)},(D.map (·.1)).Nodup→e∈fI D k v→e=(k,v)∨(e∈D∧e.1≠k)
 | [],_,h=>.inl (bg.1 h)
 | x::D,hn,h=>by
  obtain⟨n1,n2⟩:=List.nodup_cons.1 hn;unfold fI at h;split at h
  · rename_i hk
    rcases ao.1 h with h | h
    · exact .inl h
    · exact .inr ⟨bm _ h,fun e'=>n1 (cu.2 ⟨e,h,e'.trans hk.symm⟩)⟩
  · rename_i hk
    rcases ao.1 h with h | h
    · exact .inr ⟨h▸bj ..,h▸hk⟩
    · rcases ac4 n2 h with h | h
      · exact .inl h
      · exact .inr ⟨bm _ h.1,h.2⟩
variable {E:ay} {fs:P3→List T3} {D:List (P3 × Hd)}
def sI(E:ay)(fs:P3→List T3)(e:P3 × Hd):It:=oI E 9 e.2.A (fs e.1).length e.2.cap ((fs e.1).flatMap aP)
structure Nm(D:List (P3 × Hd))(fs:P3→List T3):Prop where
 nk:(D.map (·.1)).Nodup
 len:∀e∈D,e.2.n=(fs e.1).length
 no:∀p,p∉D.map (·.1)→fs p=[]
 yes:∀p,p∈D.map (·.1)→fs p≠[]
theorem Nm.nil:Nm [] fun _=>[]:=⟨ku,fun _ h=>(by cases h),fun _ _=>rfl,fun _ h=>(by cases h)⟩
theorem Nm.iff(S:Nm D fs){p:P3}:p∈D.map (·.1)↔fs p≠[]:=⟨S.yes p,fun h=>Classical.byContradiction fun k=>h (S.no p k)⟩
theorem Nm.take(S:Nm D fs)(m:Mem w0 w (Ip (D.map (sI E fs))::is))(p:P3) :
 ∃rest,Mem w0 w (oI E 9 (qS D p).A (qS D p).n (qS D p).cap ((fs p).flatMap aP)::Ip rest::is)∧(qS D p).n=(fs p).length ∧
  ∀(h':Hd) (fs':P3→List T3),(∀q,q≠p→fs' q=fs q)→h'.n=(fs' p).length→fs' p≠[]→(sI E fs' (p,h')::rest).Perm ((fI D p h').map (sI E fs'))∧Nm (fI D p h') fs':=by
 have hS:∀(h':Hd) (fs':P3→List T3),(∀q,q≠p→fs' q=fs q)→h'.n=(fs' p).length→fs' p≠[]→Nm (fI D p h') fs':=fun h' fs' hq hl hy =>
  ⟨sP S.nk p h',fun e he=>by
   rcases ac4 S.nk he with rfl | ⟨he,hk⟩
   · exact hl
   · rw[hq _ hk];exact S.len e he,fun q hqn=>by
   rw[vL] at hqn;have h1:q∉D.map (·.1)∧q≠p:=by
    split at hqn
    · rename_i hp;exact⟨hqn,fun e=>hqn (e▸hp)⟩
    · exact⟨fun h=>hqn (List.mem_append_left _ h),fun e=>hqn (List.mem_append_right _ (by rw[e];exact bg.2 O))⟩
   rw[hq _ h1.2];exact S.no q h1.1,fun q hqn=>by
   by_cases hqp:q=p
   · rw[hqp];exact hy
   · rw[hq _ hqp]
     refine S.yes q ?_;rw[vL] at hqn;split at hqn
     · exact hqn
     · exact (br.1 hqn).elim id fun h=>absurd (bg.1 h) hqp⟩
 have hsame:∀{fs':P3→List T3} {L:List (P3 × Hd)},(∀q,q≠p→fs' q=fs q)→(∀e∈L,e.1≠p)→L.map (sI E fs')=L.map (sI E fs):=fun {fs' L} hq hL =>
  List.map_congr_left fun e he=>by unfold sI;rw[hq _ (hL e he)]
 cases hf:pB D p 0 with
 | none =>
  obtain⟨h0,h1,_⟩:=nX D p 0 hf;have hnp:=lD.1 h0;have e0:qS D p=⟨none,0,0⟩:=by unfold qS;rw[h0];rfl
  refine⟨D.map (sI E fs),?_,?_,fun h' fs' hq hl hy=>⟨?_,hS h' fs' hq hl hy⟩⟩
  · rw[e0,S.no p hnp];exact m.nilO E 9
  · rw[e0,S.no p hnp];rfl
  · rw[h1,cz,hsame hq fun e he k=>hnp (cu.2 ⟨e,he,k⟩)]
    exact (List.perm_append_singleton _ _).symm
 | some q =>
  obtain⟨j,h⟩:=q;obtain⟨i,_,hi,h0,h1,_⟩:=lL D p 0 j h hf;have e0:qS D p=h:=by unfold qS;rw[h0];rfl
  have hm:(p,h)∈D:=bn hi;have hl0:=S.len _ hm;have hne:∀e∈D.eraseIdx i,e.1≠p:=fun e he k=>by
   obtain⟨q,hq⟩:=ej.1 he;rw[List.getElem?_eraseIdx] at hq;have key:∀{q:Nat},D[q]? = some e→q=i:=fun {q} hq=>by
    have a1:(D.map (·.1))[q]? = some p:=by rw[fj,hq,←k];rfl
    have a2:(D.map (·.1))[i]? = some p:=by rw[fj,hi];rfl
    obtain⟨b1,b2⟩:=ax.1 a1;obtain⟨c1,c2⟩:=ax.1 a2;exact (om S.nk).1 (b2.trans c2.symm)
   split at hq
   · have:=key hq;omega
   · have:=key hq;omega
  refine⟨(D.map (sI E fs)).eraseIdx i,?_,?_,fun h' fs' hq hl hy=>⟨?_,hS h' fs' hq hl hy⟩⟩
  · rw[e0,show h.n=(fs p).length from hl0]
    exact m.bagPull i (j:=sI E fs (p,h)) (by rw[fj,hi];rfl)
  · rw[e0];exact hl0
  · rw[h1,←map_eraseIdx,←hsame hq hne]
    have hp:∀{l:List (P3 × Hd)} {i:Nat} {x y:P3 × Hd},l[i]? = some x→(l.set i y).Perm (y::l.eraseIdx i):=fun {l}=>by
     induction l with
     | nil=>intro i x y h;simp at h
     | cons z l ih =>
      intro i x y h;cases i with
      | zero=>exact .refl _
      | succ i=>exact ((ih (i:=i) (x:=x) (y:=y) (by simpa using h)).cons z).trans (.swap ..)
    exact ((hp (y:=(p,h')) hi).map (sI E fs')).symm
theorem Nm.trisP(S:Nm D fs)(hB:(Ip (D.map (sI E fs))).P w)(hI:∀p,∀t∈fs p,IT t)(p:P3):cJ w (qS D p).A (qS D p).n (fs p)∧(qS D p).n≤(qS D p).cap:=by
 unfold qS;cases hg:bL D p with
 | none =>
  rw[S.no p (lD.1 hg)];exact⟨cJ.nil _ _,av _⟩
 | some h =>
  have hm:=rM hg;have hP:=hB.1 _ (cu.2 ⟨(p,h),hm,rfl⟩);have ho:Ow { w with heap:=#[] } w [] E 9 h.A (fs p).length h.cap ((fs p).flatMap aP):=⟨hP,fun _ _ h=>(by cases h),fun _ h=>(by cases h)⟩
  have hl:=S.len _ hm;simp only[de];rw[show h.n=(fs p).length from hl];exact⟨ho.tris (hI p),ho.le⟩
end
def Vm(l:List T3)(t:T3)(cs:List P3)(p:P3):List T3:=l.filter (fun t=>t.has p)++if p∈cs then [t] else []
theorem aoK(l:List T3)(t:T3):Vm l t []=fun p=>l.filter fun t=>t.has p:=by
 funext p
 unfold Vm;simp
theorem arW{l:List T3}{cs:List P3}{q:P3}(h:q≠c):Vm l t (cs++[c]) q=Vm l t cs q:=by
 unfold Vm;simp[h]
theorem arX{l:List T3}{cs:List P3}(h:c∉cs):Vm l t (cs++[c]) c=Vm l t cs c++[t]:=by
 unfold Vm;simp[h]
theorem aoL{l:List T3}{k:Nat}(ht:l[k]? = some t):Vm (l.take k) t [t.a,t.b,t.c]=fun p=>(l.take (k+1)).filter fun t=>t.has p:=by
 funext p
 unfold Vm;rw[cC ht,fx]
 congr 1
 by_cases h:t.has p=true
 · have:=iJ.1 h
   simp[h,this]
 · have h':¬(p=t.a∨p=t.b∨p=t.c):=fun k=>h (iJ.2 k)
   simp[h,h']
end Go.Lith
namespace Go.Proofs.YtfekpcimgncioaaGreatDoor
open Go.Proofs.Tryz
open Go.RowKit Go.Lith
set_option maxRecDepth 100000
attribute [local irreducible] au cq eF bJ cD Code.wp
attribute [local congr] oG fS fT fU fV fW jR fX fY fZ gA gB gC gD gE gF gG gH eM eN gI gJ gL gM gN jT cW cX cA cU gK jS eO eP eQ gQ gR jU
variable{cap j:Nat}{ts:List T3}{t:T3}
structure La(T:ay)(w:am)(g90 ga gf:Nat)(A:Option Addr)(N cap:Nat)(ea ef:Array cg)(ca cf:Nat)(D:List (P3 × Hd))(ts:List T3):Prop where
 b:fE w g90 [.slice A N cap,.map (some ga),.map (some gf)] T
 a:iN w ga ea ca
 f:iN w gf ef cf
 t:∀p,cJ w (qS D p).A (qS D p).n (ts.filter fun t=>t.has p)∧(qS D p).n≤(qS D p).cap
theorem La.ext{T:ay}{w w':am}{g90 ga gf:Nat}{A:Option Addr}{N:Nat}{ea ef:Array cg}{ca cf:Nat}{D:List (P3 × Hd)}(h:La T w g90 ga gf A N cap ea ef ca cf D ts)(e:dY w w'):La T w' g90 ga gf A N cap ea ef ca cf D ts :=
 ⟨h.b.ext e,h.a.ext e,h.f.ext e,fun p=>⟨(h.t p).1.ext e,(h.t p).2⟩⟩
structure Ve(ea ef:Array cg)(ca cf:Nat)(D:List (P3 × Hd))(F:List (P3 × Bool))(ts:List T3):Prop where
 a:bA pt Hd.v D ea ca
 f:bA pt ba F ef cf
 nk:(D.map (·.1)).Nodup
 k:∀p,p∈D.map (·.1)↔p∈bG ts
 b:∀p,(bL F p).getD false=wH (aO ts) p
def aij(es:List E3):List P3:=es.flatMap fun e=>[e.1,e.2]
theorem amg{es:List E3}{p:P3}:decide (p∈aij es)=wH es p:=by
 rw[ii,decide_eq_true_eq];unfold aij wH;rw[df,d_];constructor
 · rintro⟨e,he,hp⟩
   refine⟨e,he,?_⟩;simp only[ao,bt,or_false] at hp;rcases hp with rfl | rfl <;> simp
 · rintro⟨e,he,hp⟩
   refine⟨e,he,?_⟩;simp only[im,decide_eq_true_eq] at hp;rcases hp with rfl | rfl <;> simp
theorem aik{es:List E3}{k:Nat}{e:E3}(h:es[k]? = some e):aij (es.take (k+1))=aij (es.take k)++[e.1]++[e.2]:=by
 rw[cC h];unfold aij;rw[be,List.append_assoc];rfl
def Gm(t:T3):List P3:=[t.a,t.b,t.c]
theorem agD(hj:j<3):(Gm t)[j]? = some (t.cor j):=by
 have h:j=0∨j=1∨j=2:=by omega
 rcases h with rfl | rfl | rfl <;> rfl
theorem Zc(hj:j<3):(Gm t).take (j+1)=(Gm t).take j++[t.cor j]:=cC (agD hj)
theorem amh(hn:t.nd=true)(hj:j<3):t.cor j∉(Gm t).take j:=fun h=>by
 have hd:(Gm t).Nodup:=Ux hn;obtain⟨i,hi⟩:=ej.1 h;rw[List.getElem?_take] at hi;split at hi
 · rename_i hij
   obtain⟨a1,a2⟩:=ax.1 hi;obtain⟨b1,b2⟩:=ax.1 (agD (t:=t) hj);have:=(om hd).1 (a2.trans b2.symm);omega
 · cases hi
theorem arY{p:P3}:(ts.filter fun t=>t.has p)≠[]↔p∈bG ts:=by
 constructor
 · intro h
   obtain⟨t,ht⟩:=List.exists_mem_of_ne_nil _ h;obtain⟨h1,h2⟩:=c_.1 ht;exact rS h1 h2
 · intro h e
   obtain⟨t,ht,hp⟩:=df.1 (show p∈ts.flatMap fun t=>[t.a,t.b,t.c] from h);have:t∈ts.filter fun t=>t.has p:=c_.2 ⟨ht,iJ.2 (by simpa using hp)⟩;rw[e] at this;cases this
theorem Lb{is:List It}{w:am}(h:(En is).P w)(k:Nat){i:It}(hi:is[k]? = some i):i.P w:=h.1 i (bn hi)
theorem aoM(l:List T3)(t:T3)(cs:List P3)(p:P3){k:Nat}(h:l.length≤k):(Vm l t cs p).length≤k+1:=by
 have:=fu (fun t=>T3.has t p) l;unfold Vm;rw[a_];split <;> simp <;> omega
theorem arZ{A:Option Addr}{N:Nat}(w:am)(hT:cJ w A N ts)(hnd:∀t∈ts,t.nd=true)(hN:ts.length≤1000000):dR prog 50 [.slice A N cap] w (fun v w'=>∃g90 ga gf ea ef ca cf D F K,v=.pointer (some ⟨g90,0,none⟩)∧Mem w w' [K]∧(∀u,K.P u→La 109 u g90 ga gf A N cap ea ef ca cf D ts)∧Ve ea ef ca cf D F ts):=by
 refine⟨bO func50 (by kernel_rfl),?_⟩;have m:=Mem.refl w;have htl:=hT.len;have hbl:(aO ts).length≤10000000:=by have h1:=yJ (all:=aU ts) (aU ts) [];have h2:=nF ts;simp only[b_] at h1;unfold aO;omega
 go_enter func50,ntmps50
 apply iE 7 [0] m;simp only[↓aD];refine iV m ?_;intro qa u m;have hDa:=bA.nil (K:=P3) (V:=Hd) pt Hd.v;simp only[zz];refine iV m ?_;intro qf u m;have hDf:=bA.nil (K:=P3) (V:=Bool) pt ba;apply iH 4 [] m;simp only[↓aD,aqI,aa];intro g3 u m;replace m:=m.bagNil;apply bF 8 [0] m;simp only[↓aD,mC];refine cP [17] [5,7,18,19,20,21,22,23,24,25,26,27,28,29,30,31,32,33,34,35,36,37] (fun n vs wl=>∃(k:Nat) (ea:Array cg) (ca:Nat) (D:List (P3 × Hd)),vs=[.int .i64 (k:Int)]∧Mem w wl [Ip (D.map (sI 39 (fun p=>(ts.take k).filter fun t=>t.has p))),bI g3 [.slice A N cap,.map (some qa),.map (some qf)] 109,mI qf #[] 0,mI qa ea ca]∧(bA pt Hd.v D ea ca)∧(Nm D (fun p=>(ts.take k).filter fun t=>t.has p))∧(k≤N)∧(n=N-k)) ?_ ?_
 ·
  exact⟨_,0,_,_,[],O,m,hDa,Nm.nil,bw _,O⟩
 · intro n vs wr hI u K1 hK1
   obtain⟨k,esa,ca,D,rfl,m,hDa,hS1,hk,hn⟩:=hI;simp only[zu,zF,zG];apply aL 5 [0,0] m;simp only[↓aD];refine bK O ?_ ?_<;>intro hc1
   ·
    obtain⟨t,ht,hti,a,hA,hrow⟩:=hT.get (i:=k) (by omega);subst hA;apply aL 5 [0] m;simp only[↓aD];refine aB (aG bZ aR O O (by omega) (by omega) (bX (ai _))) ?_;simp only[zz];refine aQ O ((hrow.ext m.ext).lies dK aR) ?_;simp only[zz];apply iH 9 [0,0,0] m;simp only[↓aD,nB,iG,aa];intro g4 u m;refine cP [22] [7,23,24,25,26,27,28,29,30,31,32,33,34,35,36] (fun n vs wl=>∃(j:Nat) (ea:Array cg) (ca:Nat) (D:List (P3 × Hd)),vs=[.int .i64 (j:Int)]∧Mem w wl [bI g4 [.int .i64 t.a.x,.int .i64 t.a.y,.int .i64 t.a.z,.int .i64 t.b.x,.int .i64 t.b.y,.int .i64 t.b.z,.int .i64 t.c.x,.int .i64 t.c.y,.int .i64 t.c.z] 39,Ip (D.map (sI 39 (Vm (ts.take k) t ((Gm t).take j)))),bI g3 [.slice (some a) N cap,.map (some qa),.map (some qf)] 109,mI qf #[] 0,mI qa ea ca]∧(bA pt Hd.v D ea ca)∧(Nm D (Vm (ts.take k) t ((Gm t).take j)))∧(j≤3)∧(n=3-j)) ?_ ?_
    · rw[←aoK (ts.take k) t] at m hS1
      exact⟨_,0,_,_,D,O,m,hDa,hS1,bw _,O⟩
    · intro n vs wr hI u K2 hK2
      obtain⟨j,esa,ca,D,rfl,m,hDa,hS2,hj,hn2⟩:=hI;simp only[zu,zF,zG];apply aL 5 [0,0] m;simp only[↓aD];refine bK O ?_ ?_<;>intro hc2
      ·
       have hj3:j<3:=by omega
       apply aL 5 [0] m;simp only[↓aD];refine aB ((ac2 (t:=t) hj3 O O)) ?_;apply iH 3 [0] m;simp only[↓aD,dN,aS,aa];intro g5 u m;replace m:=m.pull 2 O;simp only[dO,dP,zF,zG] at m;obtain⟨rest,m9,hn9,hS9⟩:=hS2.take m (t.cor j);replace m:=m9;clear m9;have hl9:((Vm (ts.take k) t ((Gm t).take j)) (t.cor j)).length≤k+1:=aoM _ _ _ _ (by rw[bx];omega);rw[←hn9] at hl9;refine gc (mh m [false,true,true,true,true,true,false] [(0,true),(1,true),(2,true),(3,true),(4,true),(5,true),(6,false),(7,false),(8,true),(10,true),(9,false),(11,false)] aF (by kernel_rfl) (cB (fun _ _ _ _ _ h=>h)) (ol:=?_) ?hol ?_)
       case hol=>simp only[zw,zQ,zR];try rfl
       intro u m;refine Oc 6 [3,1,2] ?_;simp only[↓aD,Tn,aqG,aS,iG,aa];refine cG (nG O ?_);intro u g6 e_ h_ k_;replace m:=m.newB e_ h_ k_;refine aI ⟨m.sel [false,false,true,true,true,true,true,false],?_⟩;refine cG ?_;simp only[zz];refine Bi (ek:=pt) (en:=Hd.v) (a:=t.cor j) (v0:=⟨none,0,0⟩) m 7 O underlying106 afv eK O O hDa ?_;intro esa ca bs u m hD' hS;simp only[zF,zG] at m;refine aI ⟨m.sel [false,false,true,true,true,true,true,false],?_⟩;refine cF (dD O O) (cF (dD O O) (cG ?_));simp only[zz];refine cS m 1 O O bZ kS O (by decide) O O O (m.b 0 O).rowsO (nQ O) (by omega) (by omega) ?_;intro A9 cap9 u m;simp only[zF,zG] at m;refine aI ⟨m.sel [false,false,true,true,true,true,true,false],?_⟩;refine cG ?_;simp only[zz];refine rV (ek:=pt) (en:=Hd.v) (a:=t.cor j) (v:=(⟨A9,(qS D (t.cor j)).n+1,cap9⟩:Hd)) m 7 O O O O hS ?_;intro esa u m hDa;simp only[zF,zG] at m;refine aI ⟨m.sel [false,false,true,true,true,true,true,false],?_⟩;refine bY ?_;replace m:=m.pull 2 O;simp only[dO,dP,zF,zG] at m;replace m:=m.pull 2 O;simp only[dO,dP,zF,zG] at m;have hfs:(Vm (ts.take k) t ((Gm t).take (j+1))) (t.cor j)=(Vm (ts.take k) t ((Gm t).take j)) (t.cor j)++[t]:=by rw[Zc hj3];exact arX (amh (hnd t (bn ht)) hj3)
       obtain⟨hp9,hS3⟩:=hS9 ⟨A9,(qS D (t.cor j)).n+1,cap9⟩ (Vm (ts.take k) t ((Gm t).take (j+1))) (fun q hq=>by rw[Zc hj3];exact arW hq) (by rw[hfs,a_,hn9];rfl) (by rw[hfs];simp);rw[show ((Vm (ts.take k) t ((Gm t).take j)) (t.cor j)).flatMap aP++_=((Vm (ts.take k) t ((Gm t).take (j+1))) (t.cor j)).flatMap aP by rw[hfs,be];rfl,show (qS D (t.cor j)).n+1=((Vm (ts.take k) t ((Gm t).take (j+1))) (t.cor j)).length by rw[hfs,a_,hn9];rfl] at m;replace m:=(Mem.bagPush (j:=sI 39 (Vm (ts.take k) t ((Gm t).take (j+1))) (t.cor j,⟨A9,(qS D (t.cor j)).n+1,cap9⟩)) m).bagPerm hp9;replace m:=m.pull 3 O;simp only[dO,dP,zF,zG] at m;apply bF 5 [0] m;simp only[↓aD];refine⟨by omega,?_⟩;exact hK2 (3-(j+1)) _ _ (by omega) (by kernel_rfl) ⟨j+1,_,_,_,O,(m.sel [true,true,false,false,true,true,true]),hDa,hS3,by omega,O⟩
      ·
       obtain rfl:j=3:=by omega
       rw[show (Gm t).take 3=[t.a,t.b,t.c] from rfl,aoL ht] at m hS2;apply aL 6 [0] m;simp only[↓aD];refine⟨by omega,?_⟩;exact hK1 (N-(k+1)) _ _ (by omega) (by kernel_rfl) ⟨k+1,_,_,D,O,(m.sel [false,true,true,true,true]),hDa,hS2,by omega,O⟩
   ·
    obtain rfl:N=k:=by omega
    rw[show ts.take N=ts from bf (by omega)] at m hS1;apply aL 5 [0] m;simp only[↓aD];refine bB O O (Mx _ (hT.ext m.ext) (by omega)) ?_;rintro v u e_ ⟨A4,c4,n4,hn4,rfl,h_⟩;replace m:=m.newO e_ h_;subst hn4;apply aM 4 [0] m;simp only[↓aD,Ee];refine cP [41] [9,42,43,44,45,46,47,48,49,50,51,52,53,54,55,56,57,58,59,60,61] (fun n vs wl=>∃(i:Nat) (ef:Array cg) (cf:Nat),vs=[.int .i64 (i:Int)]∧Mem w wl [oI 56 6 A4 (aO ts).length c4 ((aO ts).flatMap bM),Ip (D.map (sI 39 (fun p=>ts.filter fun t=>t.has p))),bI g3 [.slice A N cap,.map (some qa),.map (some qf)] 109,mI qf ef cf,mI qa esa ca]∧(bA pt ba (dX [] (aij ((aO ts).take i))) ef cf)∧(i≤(aO ts).length)∧(n=(aO ts).length-i)) ?_ ?_
    ·
     exact⟨_,0,_,_,O,m,hDf,bw _,O⟩
    · intro n vs wr hI u K3 hK3
      obtain⟨i,esf,cf,rfl,m,hDf,hi,hn3⟩:=hI;simp only[zu,zF,zG];apply aL 5 [0,0] m;simp only[↓aD];refine bK O ?_ ?_<;>intro hc3
      ·
       obtain⟨e,he,ae,hA4,hr5⟩:=((m.o 0 rfl).lat (enc:=bM) (fun _=>rfl) (by decide)).get (i:=i) (by omega);subst hA4;apply aL 5 [0] m;simp only[↓aD];refine aB (aG mL eH O O (by omega) (by omega) (bX (ai _))) ?_;simp only[zz];refine aQ O (show nO _ _ _ _ (.agg #[.int .i64 e.1.x,.int .i64 e.1.y,.int .i64 e.1.z,.int .i64 e.2.x,.int .i64 e.2.y,.int .i64 e.2.z]) from hr5.lies sJ eH) ?_;simp only[zz];apply iH 3 [0,0] m;simp only[↓aD,Om,yU,aa];intro g4 u m;refine mh m [true,true,true,true,false,true] [(0,true),(1,true),(2,true),(4,true),(6,true),(7,true),(8,true),(10,true),(3,true),(5,true),(9,true),(11,true),(12,false),(13,true),(14,false),(15,false),(16,true),(17,false)] aF (by kernel_rfl) (cB (fun _ _ _ _ _ h=>h)) (ol:=?_) ?hol ?_
       case hol=>simp only[zw,zQ,zR];try rfl
       intro u m;refine Oc 12 [3,0,3,0] ?_;simp only[↓aD,To,xM,aqH,aS,aa,ag,ah];refine⟨by omega,?_⟩;refine cG (Bi (ek:=pt) (en:=ba) (a:=e.1) (v0:=false) m 4 O iM jE eK O O hDf ?_);intro esf cf bs u m hD' hS;simp only[zF,zG] at m;refine aI ⟨m.sel [true,true,true,true,false,true],?_⟩;refine cF (dD O O) (cG ?_);simp only[zz];refine rV (ek:=pt) (en:=ba) (a:=e.1) (v:=true) m 4 O O O O hS ?_;intro esf u m hDf;simp only[zF,zG] at m;rw[←jV] at hDf;refine aI ⟨m.sel [true,true,true,true,false,true],?_⟩;refine cG (Bi (ek:=pt) (en:=ba) (a:=e.2) (v0:=false) m 4 O iM jE eK O O hDf ?_);intro esf cf bs u m hD' hS;simp only[zF,zG] at m;refine aI ⟨m.sel [true,true,true,true,false,true],?_⟩;refine cF (dD O O) (cG ?_);simp only[zz];refine rV (ek:=pt) (en:=ba) (a:=e.2) (v:=true) m 4 O O O O hS ?_;intro esf u m hDf;simp only[zF,zG] at m;rw[←jV] at hDf;refine aI ⟨m.sel [true,true,true,true,false,true],?_⟩;refine bY ?_;apply bF 5 [0] m;simp only[↓aD];refine⟨by omega,?_⟩;exact hK3 ((aO ts).length-(i+1)) _ _ (by omega) (by kernel_rfl) ⟨i+1,_,_,O,(m.sel [false,true,true,true,true,true]),by rw[aik he];exact hDf,by omega,O⟩
      ·
       obtain rfl:i=(aO ts).length:=by omega
       rw[show (aO ts).take (aO ts).length=aO ts from bf (av _)] at hDf;apply aL 7 [] m;simp only[↓aD];exact aY O O ⟨_,O,m.ext,_,_,_,_,_,_,_,D,_,En [_,_,_,_],O,Mem.pack [] (m.sel [false,true,true,true,true]),(fun u hP=>⟨by have h:=Lb hP 1 O;exact h,by have h:=Lb hP 3 O;exact h,by have h:=Lb hP 2 O;exact h,fun p=>hS1.trisP (Lb hP 0 O) (fun p t ht=>hT.it t (c_.1 ht).1) p⟩),⟨hDa,hDf,hS1.nk,fun p=>by rw[hS1.iff];exact arY,fun p=>by rw[lZ];exact amg⟩⟩
end Go.Proofs.YtfekpcimgncioaaGreatDoor
namespace Go.Lith
open Go.RowKit
/-! ### Boxes -/
/-! ### What clear says -/
/-! ### The corners of a triangle,in order -/
/-! ### The same conditions -/
end Go.Lith
namespace Go.Proofs.YtfekpcimgncioaaGreatDoor
open Go.Proofs.Tryz
open Go.RowKit Go.Lith
set_option maxRecDepth 100000
attribute [local irreducible] au cq eF bJ cD Code.wp
attribute [local congr] oG fS fT fU fV fW jR fX fY fZ gA gB gC gD gE gF gG gH eM eN gI gJ gL gM gN jT cW cX cA cU gK jS eO eP eQ gQ gR jU
section
variable {ts:List T3} {p q:P3} {F:List (P3 × Bool)}
theorem ail(hF:∀z,(bL F z).getD false=wH (aO ts) z):((bL (dX [] (oK ts p)) q).getD false && !(bL F p).getD false)=vH ts p q:=by
 rw[hF,lZ];unfold vH
 congr 1
 rw[ii,decide_eq_true_eq,uE]
theorem aim:decide (If (dX [] (oK ts q)) (dX [] (oK ts p))=2)=Fy ts p q:=by
 unfold Fy
 congr 2
 unfold If;have hp:((dX [] (oK ts p)).map (·.1)).Perm (nbL ts p):=by
  refine (List.perm_ext_iff_of_nodup (pY _ [] ku) ?_).2 fun x=>?_
  · exact (tO ts).sublist (List.filter_sublist ..)
  · rw[rP,Bh,uE];simp
 have e:(fun k=>(bL (dX [] (oK ts q)) k).getD false)=Mm ts q:=funext fun k=>by
  rw[lZ,ii,decide_eq_true_eq,uE]
 rw[e];exact (hp.filter _).length_eq
theorem ami(hF:∀z,(bL F z).getD false=wH (aO ts) z):aa8 (dX [] (oK ts p)) (dX [] (oK ts q)) F q=Hz ts p q:=by
 unfold aa8 Hz;rw[hF]
 congr 1
 rw[ii,dt,dt];have key:∀k,(!ah6 F (dX [] (oK ts q)) q k)=(decide (k=q) || !wH (aO ts) k||Mm ts q k):=fun k=>by
  unfold ah6;have e1:decide (¬(k.x=q.x∧k.y=q.y∧k.z=q.z)) = !decide (k=q):=by
   rw[←decide_not];exact decide_eq_decide.2 ⟨fun h e=>h (by rw[e];exact⟨O,O,O⟩),fun h e=>h (P3.eq e.1 e.2.1 e.2.2)⟩
  have e2:(bL (dX [] (oK ts q)) k).getD false=Mm ts q k:=by rw[lZ,ii,decide_eq_true_eq,uE]
  rw[e1,e2,hF];cases decide (k=q) <;> cases wH (aO ts) k <;> cases Mm ts q k <;> rfl
 constructor
 · intro h k hk
   rw[←key];exact h k ((rP _ _ _).2 (.inr (uE.2 (Bh.1 hk))))
 · intro h k hk
   rw[key];exact h k (Bh.2 (uE.1 (((rP _ _ _).1 hk).elim (fun h=>(by cases h)) id)))
theorem aeZ:aeQ (nJ p q ts) (nK p q ts)=Dz ts p q:=by
 unfold aeQ Dz nK;rw[List.zip_map_right,List.all_map];rw[ii,dt,dt];constructor
 · intro h t ht
   obtain⟨i,hi⟩:=ej.1 ht;exact h (t,t) (bn (i:=i) (by rw[oq];exact⟨hi,hi⟩))
 · rintro h ⟨x,y⟩ hx
   obtain⟨i,hi⟩:=ej.1 hx;rw[oq] at hi;obtain rfl:x=y:=Option.some.inj (hi.1.symm.trans hi.2);exact h x (bn hi.1)
theorem Vf(ts:List T3)(p:P3):(oK ts p).length≤3*ts.length:=by
 have h1:=fu (fun t=>T3.has t p) ts;unfold oK;rw[List.length_flatMap];have h2:∀L:List T3,(L.map fun t=>(nbT p t).length).sum≤3*L.length:=fun L=>by
  induction L with
  | nil=>exact av _
  | cons t L ih =>
   have:(nbT p t).length≤3:=by
    unfold nbT nbK;rw[a_,a_];split <;> split <;> split <;> simp
   simp only[bi,List.sum_cons,az];omega
 exact aw (h2 _) (by omega)
theorem amj:aii (nK p q ts) (sC p q ts)=aaK ts p q:=rfl
theorem atC(hnd:∀t∈ts,t.nd=true):∀t∈nK p q ts++sC p q ts,t.nd=true:=fun t ht=>by
 rcases br.1 ht with h | h
 · obtain⟨s,hs,rfl⟩:=cu.1 h
   have:=(c_.1 hs).2;rw[bh] at this;exact this.2
 · exact hnd t (c_.1 h).1
theorem Zd[I3 q](hI:∀t∈ts,IT t):(∀t∈nK p q ts,IT t)∧(∀t∈nJ p q ts,IT t)∧∀t∈sC p q ts,IT t :=
 ⟨fun t ht=>by
  obtain⟨s,hs,rfl⟩:=cu.1 ht;have:=hI s (c_.1 hs).1;exact⟨Nc inferInstance this.a,Nc inferInstance this.b,Nc inferInstance this.c⟩,fun t ht=>hI t (c_.1 ht).1,fun t ht=>hI t (c_.1 ht).1⟩
theorem ar0(p q:P3)(ts:List T3):(nK p q ts).length+(sC p q ts).length≤ts.length+ts.length:=by
 have h1:=ame p q ts;have h2:=aeY p q ts;have h3:=abh p q ts;omega
end
theorem ain{g90 ga gf N cap ca cf:Nat}{A:Option Addr}{ea ef:Array cg}{D:List (P3 × Hd)}{F:List (P3 × Bool)}{ts:List T3}{p q:P3}[I3 p][I3 q](w:am)(hS:La 109 w g90 ga gf A N cap ea ef ca cf D ts)(hD:Ve ea ef ca cf D F ts)(hT:cJ w A N ts)(hnd:∀t∈ts,t.nd=true)(hN:ts.length≤1000000):dR prog 51 [.pointer (some ⟨g90,0,none⟩),pt p,pt q] w (fun v _=>v=.bool (dT ts p q)):=by
 refine⟨bO func51 (by kernel_rfl),?_⟩;have m:=Mem.refl w;have hxl:(dX [] (oK ts p)).length≤100000000:=by have h1:=qM (oK ts p) [];have h2:=Vf ts p;simp only[b_] at h1;omega
 have hlen:=ar0 p q ts;have hlen1:=aeY p q ts;have hlen2:=abh p q ts
 go_enter func51,ntmps51
 apply nM 11 [1,0,0] m;simp only[↓aD,aS];intro g8 g9 u m;refine bB O O (arV (p:=p) (q:=q) _ (hS.b.ext m.ext) (hS.a.ext m.ext) hD.a (fun z=>⟨(hS.t z).1.ext m.ext,(hS.t z).2⟩) (hT.ext m.ext) (by omega)) ?_;rintro v u e_ ⟨g7,qx,esx,cx,qy,esy,cy,A5,n5,cap5,A6,n6,cap6,A7,n7,cap7,rfl,hM,hDx,hDy,hn5,hn6,hn7⟩;replace m:=m.plus hM;clear hM;simp only[cn,bv] at m;apply aM 6 [0] m;simp only[↓aD];refine aB eS ?_;simp only[zz,fb,bi,db];apply aM 1 [0] m;simp only[↓aD];refine aB eS ?_;simp only[zz,fb,bi,db];apply aM 1 [0] m;simp only[↓aD];refine aB eS ?_;simp only[zz,fb,bi,db];apply aM 1 [0] m;simp only[↓aD];refine aB eS ?_;simp only[zz,fb,bi,db];apply aM 1 [0] m;simp only[↓aD];refine aB eS ?_;simp only[zz,fb,bi,db];apply aM 1 [0] m;simp only[↓aD];refine aB eS ?_;simp only[zz,fb,bi,db];refine ad1 O O O O O O ?_;intro u g10 e_ h_ k_;replace m:=m.newB e_ h_ k_;apply aM 24 [7,1,0,0] m;simp only[↓aD,aqL,Mt,Yr,ag,ah,aa];refine⟨by omega,?_⟩;refine dH m O O (ah3 (ts:=ts) (X:=dX [] (oK ts p)) (Y:=dX [] (oK ts q)) (F:=F) (ex:=esx) (ey:=esy) (ef:=ef) (cx:=cx) (cy:=cy) (cf:=cf) _ (m.b 1 O) (hS.b.ext m.ext) (m.p 6 O) hDx (hS.f.ext m.ext) hD.f) ?_;rintro v u m rfl;simp only[zz];rw[ail hD.b];apply aM 2 [0] m;simp only[↓aD];refine dC O ?_ ?_<;>intro hc2
 ·
  have f0:vH ts p q=false:=by simpa using hc2
  apply aL 5 [] m;simp only[↓aD];refine aY O O ?_;try simp only[zD,zE]
  exact⟨_,O,m.ext,by rw[show dT ts p q=false by unfold dT;simp only[f0,mz,lx,ns,nt,nw]]⟩
 ·
  have f0:vH ts p q=true:=by simpa using hc2
  apply aL 25 [1,0,0] m;simp only[↓aD,Mt,Yr,an,ag,ah,aa];refine⟨by omega,?_⟩;refine dH m O O (ah5 (ts:=ts) (X:=dX [] (oK ts p)) (Y:=dX [] (oK ts q)) (F:=F) (ex:=esx) (ey:=esy) (ef:=ef) (cx:=cx) (cy:=cy) (cf:=cf) _ (m.b 1 O) (hS.b.ext m.ext) (m.p 6 O) hDx (m.p 5 O) hDy hxl) ?_;rintro v u m rfl;simp only[zz];rw[aim];apply aM 2 [0] m;simp only[↓aD];refine dC O ?_ ?_<;>intro hc2
  ·
   have f1:Fy ts p q=false:=by simpa using hc2
   apply aL 5 [] m;simp only[↓aD];refine aY O O ?_;try simp only[zD,zE]
   exact⟨_,O,m.ext,by rw[show dT ts p q=false by unfold dT;simp only[f0,f1,mz,lx,ns,nt,nw]]⟩
  ·
   have f1:Fy ts p q=true:=by simpa using hc2
   apply aL 25 [1,0,0] m;simp only[↓aD,Mt,Yr,an,ag,ah,aa];refine⟨by omega,?_⟩;refine dH m O O (aif (ts:=ts) (X:=dX [] (oK ts p)) (Y:=dX [] (oK ts q)) (F:=F) (ex:=esx) (ey:=esy) (ef:=ef) (cx:=cx) (cy:=cy) (cf:=cf) (ms:=nK p q ts) (rs:=sC p q ts) _ (m.b 1 O) (hS.b.ext m.ext) ((m.o 4 O).tris (Zd (p:=p) (q:=q) hT.it).1) ((m.o 2 O).tris (Zd (p:=p) (q:=q) hT.it).2.2) (atC hnd) (by omega)) ?_;rintro v u m rfl;simp only[zz];rw[show decide ((nK p q ts++sC p q ts).map Th).Nodup=Pz ts p q from rfl];apply aM 2 [0] m;simp only[↓aD];refine dC O ?_ ?_<;>intro hc2
   ·
    have f2:Pz ts p q=false:=by simpa using hc2
    apply aL 5 [] m;simp only[↓aD];refine aY O O ?_;try simp only[zD,zE]
    exact⟨_,O,m.ext,by rw[show dT ts p q=false by unfold dT;simp only[f0,f1,f2,mz,lx,ns,nt,nw]]⟩
   ·
    have f2:Pz ts p q=true:=by simpa using hc2
    apply aL 25 [1,0,0] m;simp only[↓aD,Mt,Yr,an,ag,ah,aa];refine⟨by omega,?_⟩;refine dH m O O (alI (ts:=ts) (X:=dX [] (oK ts p)) (Y:=dX [] (oK ts q)) (F:=F) (ex:=esx) (ey:=esy) (ef:=ef) (cx:=cx) (cy:=cy) (cf:=cf) _ (m.b 1 O) (hS.b.ext m.ext) (m.p 6 O) hDx (m.p 5 O) hDy (hS.f.ext m.ext) hD.f) ?_;rintro v u m rfl;simp only[zz];rw[ami hD.b];apply aM 2 [0] m;simp only[↓aD];refine dC O ?_ ?_<;>intro hc2
    ·
     have f3:Hz ts p q=false:=by simpa using hc2
     apply aL 5 [] m;simp only[↓aD];refine aY O O ?_;try simp only[zD,zE]
     exact⟨_,O,m.ext,by rw[show dT ts p q=false by unfold dT;simp only[f0,f1,f2,f3,mz,lx,ns,nt,nw]]⟩
    ·
     have f3:Hz ts p q=true:=by simpa using hc2
     apply aL 25 [1,0,0] m;simp only[↓aD,Mt,Yr,an,ag,ah,aa];refine⟨by omega,?_⟩;refine dH m O O (aeR (ts:=ts) (X:=dX [] (oK ts p)) (Y:=dX [] (oK ts q)) (F:=F) (ex:=esx) (ey:=esy) (ef:=ef) (cx:=cx) (cy:=cy) (cf:=cf) (ms:=nK p q ts) (os:=nJ p q ts) _ (m.b 1 O) (hS.b.ext m.ext) ((m.o 4 O).tris (Zd (p:=p) (q:=q) hT.it).1) ((m.o 3 O).tris (Zd (p:=p) (q:=q) hT.it).2.1) (by omega) (by omega)) ?_;rintro v u m rfl;simp only[zz];rw[aeZ];apply aM 2 [0] m;simp only[↓aD];refine dC O ?_ ?_<;>intro hc2
     ·
      have f4:Dz ts p q=false:=by simpa using hc2
      apply aL 5 [] m;simp only[↓aD];refine aY O O ?_;try simp only[zD,zE]
      exact⟨_,O,m.ext,by rw[show dT ts p q=false by unfold dT;simp only[f0,f1,f2,f3,f4,mz,lx,ns,nt,nw]]⟩
     ·
      have f4:Dz ts p q=true:=by simpa using hc2
      apply aL 25 [1,0,0] m;simp only[↓aD,Mt,Yr,an,ag,ah,aa];refine⟨by omega,?_⟩;refine dH m O O (amc (ts:=ts) (X:=dX [] (oK ts p)) (Y:=dX [] (oK ts q)) (F:=F) (ex:=esx) (ey:=esy) (ef:=ef) (cx:=cx) (cy:=cy) (cf:=cf) (ms:=nK p q ts) (rs:=sC p q ts) _ (m.b 1 O) (hS.b.ext m.ext) ((m.o 4 O).tris (Zd (p:=p) (q:=q) hT.it).1) ((m.o 2 O).tris (Zd (p:=p) (q:=q) hT.it).2.2) (m.o 4 O).le (by omega)) ?_;rintro v u m rfl;simp only[zz];rw[amj];apply aM 2 [0] m;simp only[↓aD];refine dC O ?_ ?_<;>intro hc2
      ·
       have f5:aaK ts p q=false:=by simpa using hc2
       apply aL 5 [] m;simp only[↓aD];refine aY O O ?_;try simp only[zD,zE]
       exact⟨_,O,m.ext,by rw[show dT ts p q=false by unfold dT;simp only[f0,f1,f2,f3,f4,f5,mz,lx,ns,nt,nw]]⟩
      ·
       have f5:aaK ts p q=true:=by simpa using hc2
       apply aL 19 [2] m;simp only[↓aD,an];refine⟨by omega,?_⟩;refine aY O O ?_;try simp only[zD,zE]
       exact⟨_,O,m.ext,by rw[show dT ts p q=true by unfold dT;simp only[f0,f1,f2,f3,f4,f5,mz,lx,ns,nt,nw]]⟩
theorem amk{ts:List T3}(h:cQ true ts=0):∀t∈ts,t.nd=true:=fun t ht=>Go.Lith.nd_of ((yP h).1 t ht)
theorem ae0{a b:List Int}{k:Nat}(ha:a.length=10)(hb:b.length=10)(hA:Ia k a)(hB:Ia k b)(hk:k≤900000):gS prog 61 [qV a,qV b] (qV (Gi a b)):=by
 intro w;refine⟨bO func61 (by kernel_rfl),?_⟩;have m:=Mem.refl w
 go_enter func61,ntmps61
 apply nM 12 [0] m;simp only[↓aD,akG];intro g1 g2 g3 u m;refine cP [6] [5,7,8,9,10,11,12,13,14,15,16,17,18] (fun n vs wl=>∃(i:Nat),vs=[.int .i64 (i:Int)]∧Mem w wl [bI g3 [.bool false,.string ⟨#[]⟩,.bool false,.string ⟨#[]⟩,.bool false,.string ⟨#[]⟩,.bool false,.string ⟨#[]⟩,.bool false,.string ⟨#[]⟩,.bool false,.string ⟨#[]⟩,.bool false,.string ⟨#[]⟩,.bool false,.string ⟨#[]⟩,.bool false,.string ⟨#[]⟩,.bool false,.string ⟨#[]⟩] 97,bI g2 (qC b) 97,bI g1 (qC (qP a b i)) 97]∧(i≤10)∧(n=10-i)) ?_ ?_
 ·
  exact⟨_,0,O,m,bw _,O⟩
 · intro n vs wr hI u K1 hK1
   obtain⟨i,rfl,m,hi,hn⟩:=hI;simp only[zu,zF,zG];apply aL 5 [0,0] m;simp only[↓aD];refine bK O ?_ ?_<;>intro hc1
   ·
    have hi:i<10:=by omega
    obtain⟨x,hx0⟩:∃x,a[i]? = some x:=⟨_,aaO ha hi⟩
    obtain⟨y,hy⟩:∃y,b[i]? = some y:=⟨_,aaO hb hi⟩
    have hx:=asV ha hb hi hx0;apply aL 8 [0] m;simp only[↓aD];refine eB m 9 aF (by kernel_rfl) ?_;simp only[zy];refine aK aC (aK aC ?_);simp only[zz];refine aK (aN Ny aW O O (by omega) (by omega) (mR (ai _))) ?_;simp only[zz];refine ql O (fun u m=>(show nO _ _ _ _ (W x) from (Ec (m.b 2 O) hx).lies dU aW)) ?_;simp only[zz];refine aK aC ?_;simp only[zz];refine aK (aN Ny aW O O (by omega) (by omega) (mR (ai _))) ?_;simp only[zz];refine ql O (fun u m=>(show nO _ _ _ _ (W y) from (Ec (m.b 1 O) hy).lies dU aW)) ?_;simp only[zz];refine kR O O (Uf ((hA.at hx0).mono (by omega)) ((hB.at hy).mono (by omega))) ?_;simp only[zz];refine aK (aN Ny aW O O (by omega) (by omega) (mR (ai _))) (bN ?_);intro u m;simp only[zz];refine cL m 2 O O O aW (by have h1:=Eb (qP a b i);have h2:=akw ha hb (show i≤10 by omega);simp only[az,b_];omega) rfl ?_;intro u m;simp only[zF,zG] at m;rw[show bQ (qC (qP a b i)) (i*2) [.bool (fM (x+y)),.string (kA (x+y))]=qC (qP a b (i+1)) from (aaM (x:=x+y) (by rw[akw ha hb (by omega)];omega)).trans (by rw[aqy ha hb hi hx0 hy])] at m;refine aI ?_;apply bF 5 [0] m;simp only[↓aD];refine⟨by omega,?_⟩;exact hK1 (10-(i+1)) _ _ (by omega) (by kernel_rfl) ⟨i+1,O,m,by omega,O⟩
   ·
    obtain rfl:i=10:=by omega
    rw[aqx ha hb] at m;apply aL 3 [0] m;simp only[↓aD];refine aQ O (xW (m.b 2 O) Ax lG (by simp only[mB ha hb])) ?_;simp only[zz];refine Ga (n:=20) m 0 O O O (by rw[mB ha hb]) O lG ?_;intro u m;simp only[zF,zG] at m;apply aM 2 [] m;simp only[↓aD];exact aY O ⟨_,O,(xW (m.b 0 O) Ax lG (by simp only[mB ha hb]))⟩ ⟨_,O,m.ext,O⟩
theorem auf{t:T3}[IT t]:gS prog 182 [tr t] (qV [t.normal.x,t.normal.y,t.normal.z,0-t.normal.x*t.a.x-t.normal.y*t.a.y-t.normal.z*t.a.z]):=by
 intro w;refine⟨bO func182 (by kernel_rfl),?_⟩;have m:=Mem.refl w
 go_enter func182,ntmps182
 apply nM 8 [1,0] m;simp only[↓aD,aew,iG];intro g1 g2 u m;refine wQ m O O (Uk (t:=t)) 14 [0,0,0,0,0] ?_;simp only[↓aD,akP,aqR,aaR,jC,akL,aew,akK,aa,ag,ah];intro g3 g4;refine⟨by omega,?_⟩;intro u m;apply bF 31 [3,3,3,4,1,0] m;simp only[↓aD,dJ,jI,eW,jJ,kJ,Ch,ag,ah,aa];refine⟨by omega,?_⟩;refine aB (kC O O) ?_;apply aM 3 [0] m;simp only[↓aD];refine eB m 10 aF (by kernel_rfl) ?_;simp only[zy];refine iB 1 [] ?_;simp only[↓aD,Mw,ag,ah,aa];refine⟨by omega,?_⟩;refine ql O (fun u m=>(anS ((m.b 0 O).lies dU aW O O))) ?_;simp only[zz];refine iB 4 [1] ?_;simp only[↓aD,aaR,jC,ag,ah,aa];refine⟨by omega,?_⟩;refine kR O O (qG Iw.h) ?_;simp only[zz];refine kR O O (uD Bw.up Bw.up) ?_;simp only[zz];refine kR O O (He Bw.up Bw.up) (iB 1 [] ?_);simp only[↓aD,Mw,ag,ah,aa];refine⟨by omega,?_⟩;refine bN ?_;intro u m;refine cL m 0 O O O aW (jO O) O ?_;intro u m;simp only[zy,zx,bQ,zF,zG,aa] at m;refine aI ?_;apply bF 18 [1,0] m;simp only[↓aD,an];refine⟨by omega,?_⟩;refine aB (kD O O) ?_;apply aM 3 [0] m;simp only[↓aD];refine eB m 10 aF (by kernel_rfl) ?_;simp only[zy];refine iB 6 [0,1] ?_;simp only[↓aD,Mw,jC,aaR,ag,ah,aa];refine⟨by omega,?_⟩;refine kR O O (qG Iw.h) ?_;simp only[zz];refine kR O O (uD Bw.up Bw.up) ?_;simp only[zz];refine kR O O (He Bw.up Bw.up) (iB 1 [] ?_);simp only[↓aD,Mw,ag,ah,aa];refine⟨by omega,?_⟩;refine bN ?_;intro u m;refine cL m 0 O O O aW (jO O) O ?_;intro u m;simp only[zy,zx,bQ,zF,zG,aa] at m;refine aI ?_;apply bF 18 [1,0] m;simp only[↓aD,an];refine⟨by omega,?_⟩;refine aB (kE O O) ?_;apply aM 3 [0] m;simp only[↓aD];refine eB m 10 aF (by kernel_rfl) ?_;simp only[zy];refine iB 6 [0,1] ?_;simp only[↓aD,Mw,jC,aaR,ag,ah,aa];refine⟨by omega,?_⟩;refine kR O O (qG Iw.h) ?_;simp only[zz];refine kR O O (uD Bw.up Bw.up) ?_;simp only[zz];refine kR O O (He Bw.up Bw.up) (iB 1 [] ?_);simp only[↓aD,Mw,ag,ah,aa];refine⟨by omega,?_⟩;refine bN ?_;intro u m;refine cL m 0 O O O aW (jO O) O ?_;intro u m;simp only[zy,zx,bQ,zF,zG,aa] at m;refine aI ?_;apply zvn 19 [2,0,2] m;simp only[↓aD,akK,an,aa];refine⟨by omega,?_⟩;intro u m;exact aY O ⟨_,O,((m.b 2 O).full afz Lv)⟩ ⟨_,O,m.ext,O⟩
def atD(f:FuncId)(caps:Array ak)(w0:am)(is:List It)(k:Nat)(J:Nat→It):Prop :=
 ∀n u,n<10→Mem w0 u (is.set k (J n))→xN prog f ([.int .i64 (n:Int),.int .i64 (eI n:Int),.int .i64 (eJ n:Int)]++caps.toList) u fun _ w'=>Mem w0 w' (is.set k (J (n+1)))
theorem aml{w0 w:am}{is:List It}{f:FuncId}{caps:Array ak}{J:Nat→It}(m:Mem w0 w is)(k:Nat)(hk:is[k]? = some (J 0))(hc:atD f caps w0 is k J):Calls prog 119 [.func (.func f) #[] caps].toArray w fun e w'=>∃v i,e=.returned v∧Mem w0 w' (is.set k i)∧(v=.tuple #[]∧i=J 10):=by
 replace m:=(show Mem w0 w (is.set k (J 0)) by rw[Sf hk];exact m)
 go_enter func119,ntmps119
 apply iE 49 [5,1,5,1,0] m;simp only[↓aD];refine⟨by omega,?_⟩;refine lS O O (hc 0 _ (by decide) m) ?_;rintro v u m;apply aM 29 [1,0] m;simp only[↓aD,an];refine⟨by omega,?_⟩;refine lS O O (hc 1 _ (by decide) m) ?_;rintro v u m;apply aM 29 [1,0] m;simp only[↓aD,an];refine⟨by omega,?_⟩;refine lS O O (hc 2 _ (by decide) m) ?_;rintro v u m;apply aM 29 [1,0] m;simp only[↓aD,an];refine⟨by omega,?_⟩;refine lS O O (hc 3 _ (by decide) m) ?_;rintro v u m;apply aM 65 [2,1,4,1,0] m;simp only[↓aD,an];refine⟨by omega,?_⟩;refine lS O O (hc 4 _ (by decide) m) ?_;rintro v u m;apply aM 29 [1,0] m;simp only[↓aD,an];refine⟨by omega,?_⟩;refine lS O O (hc 5 _ (by decide) m) ?_;rintro v u m;apply aM 29 [1,0] m;simp only[↓aD,an];refine⟨by omega,?_⟩;refine lS O O (hc 6 _ (by decide) m) ?_;rintro v u m;apply aM 65 [2,1,3,1,0] m;simp only[↓aD,an];refine⟨by omega,?_⟩;refine lS O O (hc 7 _ (by decide) m) ?_;rintro v u m;apply aM 29 [1,0] m;simp only[↓aD,an];refine⟨by omega,?_⟩;refine lS O O (hc 8 _ (by decide) m) ?_;rintro v u m;apply aM 65 [2,1,2,1,0] m;simp only[↓aD,an];refine⟨by omega,?_⟩;refine lS O O (hc 9 _ (by decide) m) ?_;rintro v u m;apply aM 34 [2,2,0] m;simp only[↓aD,an];refine⟨by omega,?_⟩;exact Qw O ⟨_,J 10,O,m,O,O⟩
theorem atE{w0 w:am}{K:It}{g3 g4 g5 n:Nat}{a b c d:Int}{k:Nat}(m:Mem w0 w [bI g3 (qC (qF a b c d n)) 97,bI g5 (wC 2) 95,bI g4 (qC [a,b,c,d]) 229,K])(hn:n<10)(hp:Ia k [a,b,c,d])(hk:k≤400000):xN prog 183 [.int .i64 (n:Int),.int .i64 (eI n:Int),.int .i64 (eJ n:Int),.pointer (some ⟨g4,0,none⟩),.pointer (some ⟨g3,0,none⟩),.pointer (some ⟨g5,0,none⟩)] w fun _ w'=>Mem w0 w' [bI g3 (qC (qF a b c d (n+1))) 97,bI g5 (wC 2) 95,bI g4 (qC [a,b,c,d]) 229,K]:=by
 refine⟨bO func183 (by kernel_rfl),?_⟩;have hi:=akx hn;have hj:=aky hn;have hx:=api a b c d hi;have hy:=api a b c d hj;have hlq:=aqz a b c d (show n≤10 by omega);have hpr:=aep hp rfl hn;have h2b:Bd 2 (2:Int):=by unfold Bd;decide
 go_enter func183,ntmps183
 apply iE 1 [0] m;simp only[↓aD];refine eB m 9 aF (by kernel_rfl) ?_;simp only[zy];refine aK aC (aK aC ?_);simp only[zz];refine aK (aN underlying229 aW O O (by omega) (by omega) (mR (ai _))) ?_;simp only[zz];refine ql O (fun u m=>(show nO _ _ _ _ (W ([a,b,c,d].getD (eI n) 0)) from (Ec (m.b 2 O) hx).lies dU aW)) ?_;simp only[zz];refine aK aC ?_;simp only[zz];refine aK (aN underlying229 aW O O (by omega) (by omega) (mR (ai _))) ?_;simp only[zz];refine ql O (fun u m=>(show nO _ _ _ _ (W ([a,b,c,d].getD (eJ n) 0)) from (Ec (m.b 2 O) hy).lies dU aW)) ?_;simp only[zz];refine kR O O (uD ((hp.at hx).mono (by omega)) ((hp.at hy).mono (by omega))) ?_;simp only[zz];refine aK (aN Ny aW O O (by omega) (by omega) (mR (ai _))) (bN ?_);intro u m;simp only[zz];refine cL m 0 O O O aW (by have h1:=Eb (qF a b c d n);have h2:=hlq;simp only[az,b_];omega) rfl ?_;intro u m;simp only[zF,zG] at m;rw[show bQ (qC (qF a b c d n)) (n*2) [.bool (fM ([a,b,c,d].getD (eI n) 0*[a,b,c,d].getD (eJ n) 0)),.string (kA ([a,b,c,d].getD (eI n) 0*[a,b,c,d].getD (eJ n) 0))]=qC ((qF a b c d n).set n (Yp [a,b,c,d] n)) from aaM (by omega)] at m;refine aI ?_;apply bF 6 [0,0] m;simp only[↓aD];refine bK O ?_ ?_<;>intro hc1
 ·
  have hq:((qF a b c d n).set n (Yp [a,b,c,d] n))[n]? = some (Yp [a,b,c,d] n):=by rw[List.getElem?_set_self (by omega)]
  have hst:=akz (a:=a) (b:=b) (c:=c) (d:=d) hn;rw[if_neg (by omega)] at hst;refine eB m 7 aF (by kernel_rfl) ?_;simp only[zy];refine aK aC (aK aC ?_);simp only[zz];refine aK (aN Ny aW O O (by omega) (by omega) (mR (ai _))) ?_;simp only[zz];refine ql O (fun u m=>(show nO _ _ _ _ (W (Yp [a,b,c,d] n)) from (Ec (m.b 0 O) hq).lies dU aW)) ?_;simp only[zz];refine ql O (fun u m=>(show nO _ _ _ _ (W 2) from (m.b 1 O).lies dU aW O O)) ?_;simp only[zz];refine kR O O (uD (hpr.mono (by omega)) (h2b.mono (by omega))) ?_;simp only[zz];refine aK (aN Ny aW O O (by omega) (by omega) (mR (ai _))) (bN ?_);intro u m;simp only[zz];refine cL m 0 O O O aW (by have h1:=Eb ((qF a b c d n).set n (Yp [a,b,c,d] n));have h2:=(kd:((qF a b c d n).set n (Yp [a,b,c,d] n)).length=_);simp only[az,b_];omega) rfl ?_;intro u m;simp only[zF,zG] at m;rw[show bQ (qC ((qF a b c d n).set n (Yp [a,b,c,d] n))) (n*2) [.bool (fM (Yp [a,b,c,d] n*2)),.string (kA (Yp [a,b,c,d] n*2))]=qC (((qF a b c d n).set n (Yp [a,b,c,d] n)).set n (Yp [a,b,c,d] n*2)) from aaM (by rw[kd];omega)] at m;refine aI ?_;exact Qw O ⟨_,O,by rw[hst] at m;exact m⟩
 ·
  have hst:=akz (a:=a) (b:=b) (c:=c) (d:=d) hn;rw[if_pos (by omega),List.set_set] at hst;apply aL 1 [0] m;simp only[↓aD];exact Qw O ⟨_,O,by rw[hst] at m;exact m⟩
end Go.Proofs.YtfekpcimgncioaaGreatDoor
