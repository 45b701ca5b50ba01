/-
 Texts of one claim, laid together: K14, K44, K15, K45, K46, K11, Kt, K16, K17, Tail, K18, Nest, Nest2, K19.
-/
import Derived.Test.YtfekpcimgncioaaGreatDoorCM6
open Nat renaming reduceAdd→aa,reduceMul→ag,zero_add→ar,zero_le→br,lt_or_ge→dl
open Int renaming reduceToNat→ad,toNat_natCast→ai,reduceAdd→ak
open Go renaming World→aj,TypeId→an,wp_region_lit→ap,wpList→au,MapEntry→b_,wpQuiet→cg
open List renaming mem_cons→ao,getElem?_eq_some_iff→aq,length_append→aw,length_cons→ay,take_of_length_le→a_,flatMap_append→ba,mem_singleton→bf,map_cons→bi,mem_of_getElem?→bj,pairwise_cons→bm,mem_cons_of_mem→bp,mem_cons_self→bq,mem_append→bt,length_nil→bu,not_mem_nil→bz,nil_append→cd,cons_append→ci,length_take→cj,map_nil→ck,map_append→cl,mem_filter→ct,mem_iff_getElem?→cv,toList_toArray→cz,mem_map→df,any_eq_true→dt,all_eq_true→dw,getElem?_take→eh,mem_flatMap→e_,append_nil→fb,length_filter_le→fc,getElem?_map→fj,filter_append→fu,size_toArray→fy,nodup_cons→gd,filter_cons→gg,append_toArray→gz,push_toArray→io,pairwise_map→jo,nodup_nil→jv,getElem_inj→lx,filter_nil→mf
open Bool renaming and_eq_true→be,or_eq_true→dm,not_eq_true'→ei,eq_iff_iff→ep,false_ne_true→et,or_eq_false_iff→fz,false_or→jh,or_true→oq
open Go.Value renaming bool→bw
open Go.Exit renaming inBlock→cq
open Option renaming getD_some→cu,isSome_iff_exists→di
open Array renaming replicate→fl,replicate_succ→gj,replicate_zero→gl
set_option maxHeartbeats 8000000
set_option linter.unusedSimpArgs false
set_option linter.unusedVariables false
set_option linter.unusedSectionVars false
namespace Go.Proofs.YtfekpcimgncioaaGreatDoor
open Go.Proofs.Tryz
open Go.RowKit Go.Lith
set_option maxRecDepth 100000
attribute [local irreducible] au cg fR bO cO Code.wp
instance {t:T3}{k:Nat}[h:IT t]:I3 (t.cor k):=by
 unfold T3.cor;split
 · exact h.a
 · split
   · exact h.b
   · exact h.c
def aiJ:List Nat→Int
 | []=>0
 | [_]=>1
 | [_,_]=>2
 | _=>3
def l3(f:Nat→Int):List Nat→List Value
 | []=>[.int .i64 0,.int .i64 0,.int .i64 0]
 | [a]=>[.int .i64 (f a),.int .i64 0,.int .i64 0]
 | [a,b]=>[.int .i64 (f a),.int .i64 (f b),.int .i64 0]
 | a::b::c::_=>[.int .i64 (f a),.int .i64 (f b),.int .i64 (f c)]
theorem Xz(u:P3):Fi u<3:=by
 unfold Fi
 repeat' split
 all_goals omega
def Qz(p q:P3)(t:T3):Prop:=mG t.a t.b t.c p=0∧mG t.a t.b t.c q=0
instance (p q:P3)(t:T3):Decidable (Qz p q t):=inferInstanceAs (Decidable (_∧_))
def Br(p:P3)(t:T3)(k:Nat):P3:=dG (t.cor k) (t.cor ((k+1)%3)) p
def vP(p q:P3)(t:T3)(k:Nat):Int:=if Qz p q t then aY (dF (Br p t k) (Fi t.normal)) else aY (mG p q (t.cor k) (t.cor ((k+1)%3)))
theorem Ia{p q:P3}{t:T3}{k:Nat}(h:Qz p q t):vP p q t k=aY (dF (Br p t k) (Fi t.normal)):=if_pos h
theorem Ib{p q:P3}{t:T3}{k:Nat}(h:¬Qz p q t):vP p q t k=aY (mG p q (t.cor k) (t.cor ((k+1)%3))):=if_neg h
theorem yG{p q:P3}{t:T3}(h:(decide (aY (mG t.a t.b t.c p)≠0)||decide (aY (mG t.a t.b t.c q)≠0))=false):Qz p q t:=by
 simp only[fz,decide_eq_false_iff_not,ne_eq,Decidable.not_not,cD] at h;exact h
theorem Kn{p q:P3}{t:T3}(h:(decide (aY (mG t.a t.b t.c p)≠0)||decide (aY (mG t.a t.b t.c q)≠0))=true):¬Qz p q t:=by
 simp only[cD,dm,decide_eq_true_eq,ne_eq] at h;exact fun k=>h.elim (· k.1) (· k.2)
theorem aaS{a b c:Int}:Lw (aY a) (aY b) (aY c)↔Lw a b c:=by
 simp only[Lw,Gl,Oe]
theorem uJ{a b:Int}:0<aY a*aY b↔0<a*b:=by
 have:=aiE (a:=a) (b:=b);omega
theorem alb{p q:P3}{t:T3}(hf:t.flat):eF p q (mK (mK t.a t.b) t.c) (nL (nL t.a t.b) t.c)=cZ p q t:=by
 unfold cZ;rw[show dG t.a t.b t.c=t.normal from rfl];rw[if_neg (aiD hf)]
theorem ap2{p q:P3}{t:T3}(hf:¬t.flat)(h:0<aY (mG t.a t.b t.c p)*aY (mG t.a t.b t.c q)):false=cZ p q t:=by
 unfold cZ;rw[show dG t.a t.b t.c=t.normal from rfl];rw[if_pos (yE hf).2,if_pos (uJ.1 h)]
theorem asu{p q:P3}{t:T3}{k:Nat}(hf:¬t.flat)(h:Qz p q t)(hk:k<3)(ho:eF p q (t.cor k) (t.cor ((k+1)%3))=true):true=cZ p q t:=by
 unfold cZ;rw[show dG t.a t.b t.c=t.normal from rfl];rw[if_pos (yE hf).2,if_neg (by rw[h.1];simp),if_pos (show mG t.a t.b t.c p=0∧mG t.a t.b t.c q=0 from h)];have e:k=0∨k=1∨k=2:=by omega
 rcases e with rfl | rfl | rfl
 · rw[show eF p q t.a t.b=true from ho];rfl
 · rw[show eF p q t.b t.c=true from ho,oq];rfl
 · rw[show eF p q t.c t.a=true from ho,oq];rfl
theorem ap3{p q:P3}{t:T3}(hf:¬t.flat)(hg:¬0<aY (mG t.a t.b t.c p)*aY (mG t.a t.b t.c q))(h0:Qz p q t→∀k∈[0,1,2],eF p q (t.cor k) (t.cor ((k+1)%3))=false):decide (Lw (vP p q t 0) (vP p q t 1) (vP p q t 2))=cZ p q t:=by
 unfold cZ;rw[show dG t.a t.b t.c=t.normal from rfl];rw[if_pos (yE hf).2,if_neg (fun h=>hg (uJ.2 h))];rw[ep,decide_eq_true_eq];by_cases h:Qz p q t
 · rw[if_pos (show mG t.a t.b t.c p=0∧mG t.a t.b t.c q=0 from h),show eF p q t.a t.b=false from h0 h 0 (by decide),show eF p q t.b t.c=false from h0 h 1 (by decide),show eF p q t.c t.a=false from h0 h 2 (by decide),Ia h,Ia h,Ia h,aaS]
   simp only[jh,Bool.or_false,decide_eq_true_eq];rw[(yE hf).1];exact Iff.rfl
 · rw[if_neg (show ¬(mG t.a t.b t.c p=0∧mG t.a t.b t.c q=0) from h),Ib h,Ib h,Ib h,aaS]
   unfold Pi;simp only[dm,be,decide_eq_true_eq,and_assoc];exact Iff.rfl
theorem Ya{p q:P3}{t:T3}[I3 p][I3 q][IT t]:dL prog 242 [pt p,pt q,tr t] (.bool (cZ p q t)):=by
 intro w;refine⟨an1,?_⟩;have m:=Mem.refl w;refine (callsIn_wide (n:=4)).1 (callsIn_of_wp_marks func242 rfl trivial ?_ rfl);simp only[ntmps242,fy,ay,bu,aa,Nat.reduceSub,gj,gl,io,gz,cd,ci];refine wpIn_wide.2 ?_;refine bA fun K1 k1=>ap (Tn m rfl ?_);clear m;intro g1 u m;simp only[zz];refine Tn m rfl ?_;clear m;intro g2 u m;simp only[zz];refine Tn m rfl ?_;clear m;intro g3 u m;simp only[zz];refine nI m oB rfl ?_;clear m;intro g4 u m;refine aK (k1 _ _ ?_);try clear k1 K1
 refine bA fun K2 k2=>ap (aC (aI cH aA rfl rfl (by decide) (by decide) rfl) ?_);simp only[zz];refine aQ rfl ((m.b 1 rfl).lies aG aA rfl rfl) ?_;simp only[zz,zy,ar,aa,ag,ad];refine aC (aI cH aA rfl rfl (by decide) (by decide) rfl) ?_;simp only[zz];refine aQ rfl ((m.b 1 rfl).lies aG aA rfl rfl) ?_;simp only[zz,zy,ar,aa,ag,ad];refine aC (aI cH aA rfl rfl (by decide) (by decide) rfl) ?_;simp only[zz];refine aQ rfl ((m.b 1 rfl).lies aG aA rfl rfl) ?_;simp only[zz,zy,ar,aa,ag,ad];refine aC (aI cH aA rfl rfl (by decide) (by decide) rfl) ?_;simp only[zz];refine aQ rfl ((m.b 1 rfl).lies aG aA rfl rfl) ?_;simp only[zz,zy,ar,aa,ag,ad];refine lJ m rfl rfl (qX (a:=t.a) (b:=t.b) (c:=t.a) (d:=t.c)) ?_;clear m;intro u m;simp only[zz];refine lJ m rfl rfl (ad2 (u:=t.normal)) ?_;clear m;intro u m;simp only[zz];refine nI m lH rfl ?_;clear m;intro g5 u m;simp only[zz];refine eK m 0 rfl rfl rfl aX (iS rfl) ⟨rfl,rfl⟩ ?_;clear m;intro u m;simp only[zz,zy,zx,cA,aa] at m;refine aK (k2 _ _ ?_);try clear k2 K2
 refine bA fun K3 k3=>bA fun K4 k4=>?_;by_cases hf:t.flat
 · skip
   rw[aiC hf] at m;refine ap (aQ rfl ((m.b 0 rfl).lies1 bE rfl) ?_);simp only[zz];refine aC (qH rfl rfl (by omega)) (aK (k4 _ _ ?_));try clear k4 K4
   refine yZ rfl (bA fun K5 k5=>ap (aC (aI cH aA rfl rfl (by decide) (by decide) rfl) ?_));simp only[zz];refine aQ rfl ((m.b 2 rfl).lies aG aA rfl rfl) ?_;simp only[zz,zy,ar,aa,ag,ad];refine aC (aI cH aA rfl rfl (by decide) (by decide) rfl) ?_;simp only[zz];refine aQ rfl ((m.b 2 rfl).lies aG aA rfl rfl) ?_;simp only[zz,zy,ar,aa,ag,ad];refine lJ m rfl rfl (wN (p:=t.a) (q:=t.b)) ?_;clear m;intro u m;refine aC aH (aC (eZ rfl rfl) (aC (eZ rfl rfl) ?_));simp only[zz];refine nI m iL rfl ?_;clear m;intro g6 u m;simp only[zz];refine nI m iL rfl ?_;clear m;intro g7 u m;simp only[zz];refine bR m 1 rfl rfl rfl aA (iS rfl) rfl ?_;clear m;intro u m;simp only[zy,zx,cA,zF,zG,aa] at m;refine bR m 0 rfl rfl rfl aA (iS rfl) rfl ?_;clear m;intro u m;simp only[zy,zx,cA,zF,zG,aa] at m;refine aK (k5 _ _ ?_);try clear k5 K5
   refine bA fun K6 k6=>ap (aQ rfl ((m.b 1 rfl).full aG aA) ?_);simp only[zz];refine aC (aI cH aA rfl rfl (by decide) (by decide) rfl) ?_;simp only[zz];refine aQ rfl ((m.b 4 rfl).lies aG aA rfl rfl) ?_;simp only[zz,zy,ar,aa,ag,ad];refine lJ m rfl rfl (wN (p:=mK t.a t.b) (q:=t.c)) ?_;clear m;intro u m;refine aC aH (aC (eZ rfl rfl) (aC (eZ rfl rfl) ?_));simp only[zz];refine nI m iL rfl ?_;clear m;intro g8 u m;simp only[zz];refine nI m iL rfl ?_;clear m;intro g9 u m;simp only[zz];refine bR m 1 rfl rfl rfl aA (iS rfl) rfl ?_;clear m;intro u m;simp only[zy,zx,cA,zF,zG,aa] at m;refine bR m 0 rfl rfl rfl aA (iS rfl) rfl ?_;clear m;intro u m;simp only[zy,zx,cA,zF,zG,aa] at m;refine aK (k6 _ _ ?_);try clear k6 K6
   refine bA fun K7 k7=>ap (aQ rfl ((m.b 2 rfl).full aG aA) ?_);simp only[zz];refine aC (aI cH aA rfl rfl (by decide) (by decide) rfl) ?_;simp only[zz];refine aQ rfl ((m.b 6 rfl).lies aG aA rfl rfl) ?_;simp only[zz,zy,ar,aa,ag,ad];refine lJ m rfl rfl (wN (p:=nL t.a t.b) (q:=t.c)) ?_;clear m;intro u m;refine aC aH (aC (eZ rfl rfl) (aC (eZ rfl rfl) ?_));simp only[zz];refine nI m iL rfl ?_;clear m;intro g10 u m;simp only[zz];refine nI m iL rfl ?_;clear m;intro g11 u m;simp only[zz];refine bR m 1 rfl rfl rfl aA (iS rfl) rfl ?_;clear m;intro u m;simp only[zy,zx,cA,zF,zG,aa] at m;refine bR m 0 rfl rfl rfl aA (iS rfl) rfl ?_;clear m;intro u m;simp only[zy,zx,cA,zF,zG,aa] at m;refine aK (k7 _ _ ?_);try clear k7 K7
   refine bA fun K8 k8=>ap (aQ rfl ((m.b 10 rfl).full aG aA) ?_);simp only[zz];refine aQ rfl ((m.b 9 rfl).full aG aA) ?_;simp only[zz];refine aQ rfl ((m.b 3 rfl).full aG aA) ?_;simp only[zz];refine aQ rfl ((m.b 0 rfl).full aG aA) ?_;simp only[zz];refine lJ m rfl rfl (Nc (p:=p) (q:=q) (r:=mK (mK t.a t.b) t.c) (s:=nL (nL t.a t.b) t.c)) ?_;clear m;intro u m;simp only[zz];refine eK m 7 rfl rfl rfl sP (iS rfl) ⟨rfl,rfl⟩ ?_;clear m;intro u m;simp only[zz,zy,zx,cA,aa] at m;refine aK (k8 _ _ ?_);try clear k8 K8
   refine wp_ret ?_;try simp only[cq,Exit.then,if_true]
   refine ame ?_;refine aR rfl ⟨_,rfl,((m.b 7 rfl).lies1 Kx rfl)⟩ ?_;try simp only[zD,zE]
   exact⟨_,rfl,m.ext,by rw[alb hf]⟩
 · skip
   rw[aiB hf] at m;refine ap (aQ rfl ((m.b 0 rfl).lies1 bE rfl) ?_);simp only[zz];refine aC (Ei rfl rfl (by omega)) (aK (k4 _ _ ?_));try clear k4 K4
   refine aej rfl (wp_skip (k3 _ _ ?_));try clear k3 K3
   refine bA fun K9 k9=>?_;simp only[zz];refine eD 18 [0,1,2,3,4,5,6,7,8,9,10,11,12,13,14,15] [⟨16,14,3,[.int .i64 0]⟩,⟨17,15,3,[.int .i64 0]⟩] aB (by kernel_rfl) (al2 ⟨_,_,_,rfl,by kernel_rfl,_,lH,rfl⟩ ⟨_,_,_,rfl,by kernel_rfl,_,lH,rfl⟩) (ol:=?_) ?hol ?_
   case hol=>simp only[zw,zQ,zR];try rfl
   intro u e;replace m:=m.ext' e;clear e;refine iR (aI cH aA rfl rfl (by decide) (by decide) rfl) ?_;simp only[zz];refine eB rfl (fun u e=>(((m.ext' e).b 2 rfl).lies aG aA rfl rfl)) ?_;simp only[zz,zy,ar,aa,ag,ad];refine iR (aI cH aA rfl rfl (by decide) (by decide) rfl) ?_;simp only[zz];refine eB rfl (fun u e=>(((m.ext' e).b 2 rfl).lies aG aA rfl rfl)) ?_;simp only[zz,zy,ar,aa,ag,ad];refine iR (aI cH aA rfl rfl (by decide) (by decide) rfl) ?_;simp only[zz];refine eB rfl (fun u e=>(((m.ext' e).b 2 rfl).lies aG aA rfl rfl)) ?_;simp only[zz,zy,ar,aa,ag,ad];refine eB rfl (fun u e=>(((m.ext' e).b 4 rfl).full aG aA)) ?_;simp only[zz];refine eO rfl rfl (uI (a:=t.a) (b:=t.b) (c:=t.c) (d:=p)) (iR (aI cH aA rfl rfl (by decide) (by decide) rfl) ?_);simp only[zz];refine eB rfl (fun u e=>(((m.ext' e).b 2 rfl).lies aG aA rfl rfl)) ?_;simp only[zz,zy,ar,aa,ag,ad];refine iR (aI cH aA rfl rfl (by decide) (by decide) rfl) ?_;simp only[zz];refine eB rfl (fun u e=>(((m.ext' e).b 2 rfl).lies aG aA rfl rfl)) ?_;simp only[zz,zy,ar,aa,ag,ad];refine iR (aI cH aA rfl rfl (by decide) (by decide) rfl) ?_;simp only[zz];refine eB rfl (fun u e=>(((m.ext' e).b 2 rfl).lies aG aA rfl rfl)) ?_;simp only[zz,zy,ar,aa,ag,ad];refine eB rfl (fun u e=>(((m.ext' e).b 3 rfl).full aG aA)) ?_;simp only[zz];refine eO rfl rfl (uI (a:=t.a) (b:=t.b) (c:=t.c) (d:=q)) (yM ?_);simp only[zz];refine mf2 m (by decide) ?_;clear m;intro g6 g7 u m;simp only[zJ,zK,zF,zG];refine eK m 1 rfl rfl rfl aX (iS rfl) ⟨rfl,rfl⟩ ?_;clear m;intro u m;simp only[zz,zy,zx,cA,aa] at m;refine eK m 0 rfl rfl rfl aX (iS rfl) ⟨rfl,rfl⟩ ?_;clear m;intro u m;simp only[zz,zy,zx,cA,aa] at m;refine aK (k9 _ _ ?_);try clear k9 K9
   refine bA fun K10 k10=>bA fun K11 k11=>ap (aQ rfl ((m.b 1 rfl).lies1 bE rfl) ?_);simp only[zz];refine aQ rfl ((m.b 0 rfl).lies1 bE rfl) ?_;simp only[zz];refine aC (lB rfl rfl (wO _ _)) (aC (Yr rfl rfl) (aK (k11 _ _ ?_)));try clear k11 K11
   simp only[zz];refine bG rfl (fun hc2=>?_) (fun hc2=>?_)
   · skip
     refine bA fun K12 k12=>ap (eK m 3 rfl rfl rfl sP (iS rfl) ⟨rfl,rfl⟩ ?_);clear m;intro u m;simp only[zz,zy,zx,cA,aa] at m;refine aK (k12 _ _ ?_);try clear k12 K12
     refine wp_ret ?_;try simp only[cq,Exit.then,if_true]
     refine ame ?_;refine aR rfl ⟨_,rfl,((m.b 3 rfl).lies1 Kx rfl)⟩ ?_;try simp only[zD,zE]
     exact⟨_,rfl,m.ext,by rw[←ap2 hf hc2]⟩
   · skip
     refine wp_skip (k10 _ _ ?_);try clear k10 K10
     refine bA fun K13 k13=>ap (nI m Cc rfl ?_);clear m;intro g8 u m;refine aK (k13 _ _ ?_);try clear k13 K13
     refine bA fun K14 k14=>ap ?_;simp only[zz];refine nI m lH rfl ?_;clear m;intro g9 u m;simp only[zz];refine eK m 0 rfl rfl rfl aX (iS rfl) ⟨rfl,rfl⟩ ?_;clear m;intro u m;simp only[zz,zy,zx,cA,aa] at m;refine aK (k14 _ _ ?_);try clear k14 K14
     refine bA fun K15 k15=>bA fun K16 k16=>ap (aQ rfl ((m.b 6 rfl).full bV aL) ?_);simp only[zz];refine bJ rfl rfl (ad3 (t:=t) _) ?_;rintro v u e ⟨g10,rfl,hg,hB⟩;replace m:=m.newB e hg hB;clear e hg hB;refine aK (k16 _ _ ?_);try clear k16 K16
     refine wp_block ?_;simp only[zz];refine aaR (v1:=fun x=>pt (t.cor x)) (v2:=fun x=>pt (t.cor ((x+1)%3))) (c1:=fun x=>[.int .i64 (t.cor x).x,.int .i64 (t.cor x).y,.int .i64 (t.cor x).z]) (c2:=fun x=>[.int .i64 (t.cor ((x+1)%3)).x,.int .i64 (t.cor ((x+1)%3)).y,.int .i64 (t.cor ((x+1)%3)).z]) (T1:=30) (T2:=30) (d1:=18) (d2:=19) (csB:=aN t) (tB:=39) rfl agi (Ly 3 (by omega) g10 0 t _ (m.b 0 rfl)) (fun pre=>[bI g10 (aN t) 39,bI g9 [.int .i64 (aiJ pre)] 3,bI g8 (l3 (vP p q t) pre) 36,bI g7 [.int .i64 (aY (mG t.a t.b t.c q))] 3,bI g6 [.int .i64 (aY (mG t.a t.b t.c p))] 3,bI g5 [.int .i64 (Fi t.normal:Int)] 3,bI g4 [.bool false] 4,bI g3 [.int .i64 t.a.x,.int .i64 t.a.y,.int .i64 t.a.z,.int .i64 t.b.x,.int .i64 t.b.y,.int .i64 t.b.z,.int .i64 t.c.x,.int .i64 t.c.y,.int .i64 t.c.z] 39,bI g2 [.int .i64 (q).x,.int .i64 (q).y,.int .i64 (q).z] 30,bI g1 [.int .i64 (p).x,.int .i64 (p).y,.int .i64 (p).z] 30]) (fun _=>[bI g4 [.bool true] 4]) (fun pre=>Qz p q t→∀k∈pre,eF p q (t.cor k) (t.cor ((k+1)%3))=false) (fun pre=>Qz p q t∧∃k∈pre,eF p q (t.cor k) (t.cor ((k+1)%3))=true) (fun _ i hi=>by simp only[ao,bz,or_false] at hi;rcases hi with rfl | rfl | rfl | rfl | rfl | rfl | rfl | rfl | rfl | rfl <;> exact⟨_,_,_,rfl⟩) (fun _ i hi=>by simp only[ao,bz,or_false] at hi;subst hi ;exact⟨_,_,_,rfl⟩) (fun _=>rfl) (fun _=>bj (i:=0) rfl) m (fun _ k hk=>by cases hk) ?_ ?_ ?_ ?_
     · skip
       intro r pre x W K m hK;simp only[zF,zG];refine nK fun K17 k17=>cB (Hx m iL rfl ?_);clear m;intro g11 u m;simp only[zz];refine Bp m 0 rfl rfl rfl aA (iS rfl) rfl ?_;clear m;intro u m;simp only[zy,zx,cA,zF,zG,aa] at m;refine aK (k17 _ _ ?_);try clear k17 K17
       refine cB (Hx m iL rfl ?_);clear m;intro g12 u m;simp only[zz];refine Bp m 0 rfl rfl rfl aA (iS rfl) rfl ?_;clear m;intro u m;simp only[zy,zx,cA,zF,zG,aa] at m;exact aK (hK _ _ _ m)
     · skip
       intro r pre x g11 g12 W Q' _ hJ hN m hn hr;rcases pre with _ | ⟨a,_ | ⟨b,_ | ⟨c,l⟩⟩⟩
       · skip
         simp only[aiJ,l3] at m;simp only[zF,zG];refine oS (nK fun K18 k18=>oS (nK fun K19 k19=>cB (aQ rfl ((m.b 6 rfl).lies1 bE rfl) ?_)));simp only[zz];refine aC (qA rfl rfl) (aC aH ?_);simp only[zz];refine bS rfl (fun hb=>aU rfl ((m.b 5 rfl).lies1 bE rfl)) (bC rfl (fun hb=>qA (aV hb rfl) rfl) (aC (cF rfl rfl rfl) (aC aM (aK (k19 _ _ ?_)))));try clear k19 K19
         simp only[zz];refine yC rfl (fun hc3=>?_) (fun hc3=>?_)
         · skip
           refine wL m 7 aB (by kernel_rfl) ?_;simp only[zy];refine Dk rfl (fun u m=>((m.b 3 rfl).lies1 bE rfl)) ?_;simp only[zz];refine Dk rfl (fun u m=>((m.b 11 rfl).full aG aA)) ?_;simp only[zz];refine Dk rfl (fun u m=>((m.b 10 rfl).full aG aA)) ?_;simp only[zz];refine Dk rfl (fun u m=>((m.b 1 rfl).full aG aA)) ?_;simp only[zz];refine Dk rfl (fun u m=>((m.b 0 rfl).full aG aA)) ?_;simp only[zz];refine afu rfl rfl (uI (a:=p) (b:=q) (c:=t.cor x) (d:=t.cor ((x+1)%3))) (aJ (aI tM aX rfl rfl (by decide) (by decide) rfl) (bD ?_));clear m;intro u m;simp only[zz];refine iV m 4 rfl rfl rfl aX (iS rfl) ⟨rfl,rfl⟩ ?_;clear m;intro u m;simp only[zz,zy,zx,cA,aa] at m;refine aK (k18 _ _ ?_);try clear k18 K18
           refine cB (aQ rfl ((m.b 3 rfl).lies1 bE rfl) ?_);simp only[zz];refine aC (jL (m:=0) (n:=1) (r:=1) rfl rfl (by decide)) ?_;simp only[zz];refine iV m 3 rfl rfl rfl aX (iS rfl) ⟨rfl,rfl⟩ ?_;clear m;intro u m;simp only[zz,zy,zx,cA,aa] at m;refine aK ?_
           first
           | (have hI:=Kn hc3;rw[show aY (((q.sub p).cross ((t.cor x).sub p)).dot ((t.cor ((x+1)%3)).sub p))=vP p q t x from (Ib hI).symm] at m;exact hn _ _ ⟨m.toMem.sel [false,false,true,true,true,true,true,true,true,true,true,true],m.rx⟩ (fun k=>absurd k hI))
           | (have hI := yG hc3;rw[show aY (dF (Br p t x) (Fi t.normal))=vP p q t x from (Ia hI).symm] at m;exact hn _ _ ⟨m.toMem.sel [false, false, true, true, true, true, true, true, true, true, true, true], m.rx⟩ (fun hi k hk => by
            rcases bt.1 hk with hk | hk
            · exact hJ hi k hk
            · rw[bf.1 hk];exact hc4))
         · skip
           refine nK fun K20 k20=>cB (aQ rfl ((m.b 11 rfl).full aG aA) ?_);simp only[zz];refine aQ rfl ((m.b 10 rfl).full aG aA) ?_;simp only[zz];refine aQ rfl ((m.b 1 rfl).full aG aA) ?_;simp only[zz];refine aQ rfl ((m.b 0 rfl).full aG aA) ?_;simp only[zz];refine Mz m rfl rfl (Nc (p:=p) (q:=q) (r:=t.cor x) (s:=t.cor ((x+1)%3))) ?_;clear m;intro u m;refine aC aM (aK (k20 _ _ ?_));try clear k20 K20
           simp only[zz];refine yC rfl (fun hc4=>?_) (fun hc4=>?_)
           · skip
             refine nK fun K21 k21=>cB (iV m 8 rfl rfl rfl sP (iS rfl) ⟨rfl,rfl⟩ ?_);clear m;intro u m;simp only[zz,zy,zx,cA,aa] at m;refine aK (k21 _ _ ?_);try clear k21 K21
             refine My ?_;exact hr _ _ ⟨m.toMem.sel [false,false,false,false,false,false,false,false,true],m.rx⟩ ⟨yG hc3,x,by simp,hc4⟩
           · skip
             refine wL m 9 aB (by kernel_rfl) ?_;simp only[zy];refine Dk rfl (fun u m=>((m.b 3 rfl).lies1 bE rfl)) ?_;simp only[zz];refine Dk rfl (fun u m=>((m.b 1 rfl).full aG aA)) ?_;simp only[zz];refine Dk rfl (fun u m=>((m.b 0 rfl).full aG aA)) ?_;simp only[zz];refine Dk rfl (fun u m=>((m.b 1 rfl).full aG aA)) ?_;simp only[zz];refine Dk rfl (fun u m=>((m.b 11 rfl).full aG aA)) ?_;simp only[zz];refine afu rfl rfl (qX (a:=t.cor x) (b:=t.cor ((x+1)%3)) (c:=t.cor x) (d:=p)) ?_;simp only[zz];refine Dk rfl (fun u m=>((m.b 7 rfl).lies1 bE rfl)) ?_;simp only[zz];refine aJ ((lS (v:=Br p t x) (Xz _) rfl rfl)) (aJ (aI tM aX rfl rfl (by decide) (by decide) rfl) (bD ?_));clear m;intro u m;simp only[zz];refine iV m 4 rfl rfl rfl aX (iS rfl) ⟨rfl,rfl⟩ ?_;clear m;intro u m;simp only[zz,zy,zx,cA,aa] at m;refine aK (k18 _ _ ?_);try clear k18 K18
             refine cB (aQ rfl ((m.b 3 rfl).lies1 bE rfl) ?_);simp only[zz];refine aC (jL (m:=0) (n:=1) (r:=1) rfl rfl (by decide)) ?_;simp only[zz];refine iV m 3 rfl rfl rfl aX (iS rfl) ⟨rfl,rfl⟩ ?_;clear m;intro u m;simp only[zz,zy,zx,cA,aa] at m;refine aK ?_
             first
             | (have hI:=Kn hc3;rw[show aY (((q.sub p).cross ((t.cor x).sub p)).dot ((t.cor ((x+1)%3)).sub p))=vP p q t x from (Ib hI).symm] at m;exact hn _ _ ⟨m.toMem.sel [false,false,true,true,true,true,true,true,true,true,true,true],m.rx⟩ (fun k=>absurd k hI))
             | (have hI := yG hc3;rw[show aY (dF (Br p t x) (Fi t.normal))=vP p q t x from (Ia hI).symm] at m;exact hn _ _ ⟨m.toMem.sel [false, false, true, true, true, true, true, true, true, true, true, true], m.rx⟩ (fun hi k hk => by
              rcases bt.1 hk with hk | hk
              · exact hJ hi k hk
              · rw[bf.1 hk];exact hc4))
       · skip
         simp only[aiJ,l3] at m;simp only[zF,zG];refine oS (nK fun K22 k22=>oS (nK fun K23 k23=>cB (aQ rfl ((m.b 6 rfl).lies1 bE rfl) ?_)));simp only[zz];refine aC (qA rfl rfl) (aC aH ?_);simp only[zz];refine bS rfl (fun hb=>aU rfl ((m.b 5 rfl).lies1 bE rfl)) (bC rfl (fun hb=>qA (aV hb rfl) rfl) (aC (cF rfl rfl rfl) (aC aM (aK (k23 _ _ ?_)))));try clear k23 K23
         simp only[zz];refine yC rfl (fun hc3=>?_) (fun hc3=>?_)
         · skip
           refine wL m 7 aB (by kernel_rfl) ?_;simp only[zy];refine Dk rfl (fun u m=>((m.b 3 rfl).lies1 bE rfl)) ?_;simp only[zz];refine Dk rfl (fun u m=>((m.b 11 rfl).full aG aA)) ?_;simp only[zz];refine Dk rfl (fun u m=>((m.b 10 rfl).full aG aA)) ?_;simp only[zz];refine Dk rfl (fun u m=>((m.b 1 rfl).full aG aA)) ?_;simp only[zz];refine Dk rfl (fun u m=>((m.b 0 rfl).full aG aA)) ?_;simp only[zz];refine afu rfl rfl (uI (a:=p) (b:=q) (c:=t.cor x) (d:=t.cor ((x+1)%3))) (aJ (aI tM aX rfl rfl (by decide) (by decide) rfl) (bD ?_));clear m;intro u m;simp only[zz];refine iV m 4 rfl rfl rfl aX (iS rfl) ⟨rfl,rfl⟩ ?_;clear m;intro u m;simp only[zz,zy,zx,cA,aa] at m;refine aK (k22 _ _ ?_);try clear k22 K22
           refine cB (aQ rfl ((m.b 3 rfl).lies1 bE rfl) ?_);simp only[zz];refine aC (jL (m:=1) (n:=1) (r:=2) rfl rfl (by decide)) ?_;simp only[zz];refine iV m 3 rfl rfl rfl aX (iS rfl) ⟨rfl,rfl⟩ ?_;clear m;intro u m;simp only[zz,zy,zx,cA,aa] at m;refine aK ?_
           first
           | (have hI:=Kn hc3;rw[show aY (((q.sub p).cross ((t.cor x).sub p)).dot ((t.cor ((x+1)%3)).sub p))=vP p q t x from (Ib hI).symm] at m;exact hn _ _ ⟨m.toMem.sel [false,false,true,true,true,true,true,true,true,true,true,true],m.rx⟩ (fun k=>absurd k hI))
           | (have hI := yG hc3;rw[show aY (dF (Br p t x) (Fi t.normal))=vP p q t x from (Ia hI).symm] at m;exact hn _ _ ⟨m.toMem.sel [false, false, true, true, true, true, true, true, true, true, true, true], m.rx⟩ (fun hi k hk => by
            rcases bt.1 hk with hk | hk
            · exact hJ hi k hk
            · rw[bf.1 hk];exact hc4))
         · skip
           refine nK fun K24 k24=>cB (aQ rfl ((m.b 11 rfl).full aG aA) ?_);simp only[zz];refine aQ rfl ((m.b 10 rfl).full aG aA) ?_;simp only[zz];refine aQ rfl ((m.b 1 rfl).full aG aA) ?_;simp only[zz];refine aQ rfl ((m.b 0 rfl).full aG aA) ?_;simp only[zz];refine Mz m rfl rfl (Nc (p:=p) (q:=q) (r:=t.cor x) (s:=t.cor ((x+1)%3))) ?_;clear m;intro u m;refine aC aM (aK (k24 _ _ ?_));try clear k24 K24
           simp only[zz];refine yC rfl (fun hc4=>?_) (fun hc4=>?_)
           · skip
             refine nK fun K25 k25=>cB (iV m 8 rfl rfl rfl sP (iS rfl) ⟨rfl,rfl⟩ ?_);clear m;intro u m;simp only[zz,zy,zx,cA,aa] at m;refine aK (k25 _ _ ?_);try clear k25 K25
             refine My ?_;exact hr _ _ ⟨m.toMem.sel [false,false,false,false,false,false,false,false,true],m.rx⟩ ⟨yG hc3,x,by simp,hc4⟩
           · skip
             refine wL m 9 aB (by kernel_rfl) ?_;simp only[zy];refine Dk rfl (fun u m=>((m.b 3 rfl).lies1 bE rfl)) ?_;simp only[zz];refine Dk rfl (fun u m=>((m.b 1 rfl).full aG aA)) ?_;simp only[zz];refine Dk rfl (fun u m=>((m.b 0 rfl).full aG aA)) ?_;simp only[zz];refine Dk rfl (fun u m=>((m.b 1 rfl).full aG aA)) ?_;simp only[zz];refine Dk rfl (fun u m=>((m.b 11 rfl).full aG aA)) ?_;simp only[zz];refine afu rfl rfl (qX (a:=t.cor x) (b:=t.cor ((x+1)%3)) (c:=t.cor x) (d:=p)) ?_;simp only[zz];refine Dk rfl (fun u m=>((m.b 7 rfl).lies1 bE rfl)) ?_;simp only[zz];refine aJ ((lS (v:=Br p t x) (Xz _) rfl rfl)) (aJ (aI tM aX rfl rfl (by decide) (by decide) rfl) (bD ?_));clear m;intro u m;simp only[zz];refine iV m 4 rfl rfl rfl aX (iS rfl) ⟨rfl,rfl⟩ ?_;clear m;intro u m;simp only[zz,zy,zx,cA,aa] at m;refine aK (k22 _ _ ?_);try clear k22 K22
             refine cB (aQ rfl ((m.b 3 rfl).lies1 bE rfl) ?_);simp only[zz];refine aC (jL (m:=1) (n:=1) (r:=2) rfl rfl (by decide)) ?_;simp only[zz];refine iV m 3 rfl rfl rfl aX (iS rfl) ⟨rfl,rfl⟩ ?_;clear m;intro u m;simp only[zz,zy,zx,cA,aa] at m;refine aK ?_
             first
             | (have hI:=Kn hc3;rw[show aY (((q.sub p).cross ((t.cor x).sub p)).dot ((t.cor ((x+1)%3)).sub p))=vP p q t x from (Ib hI).symm] at m;exact hn _ _ ⟨m.toMem.sel [false,false,true,true,true,true,true,true,true,true,true,true],m.rx⟩ (fun k=>absurd k hI))
             | (have hI := yG hc3;rw[show aY (dF (Br p t x) (Fi t.normal))=vP p q t x from (Ia hI).symm] at m;exact hn _ _ ⟨m.toMem.sel [false, false, true, true, true, true, true, true, true, true, true, true], m.rx⟩ (fun hi k hk => by
              rcases bt.1 hk with hk | hk
              · exact hJ hi k hk
              · rw[bf.1 hk];exact hc4))
       · skip
         simp only[aiJ,l3] at m;simp only[zF,zG];refine oS (nK fun K26 k26=>oS (nK fun K27 k27=>cB (aQ rfl ((m.b 6 rfl).lies1 bE rfl) ?_)));simp only[zz];refine aC (qA rfl rfl) (aC aH ?_);simp only[zz];refine bS rfl (fun hb=>aU rfl ((m.b 5 rfl).lies1 bE rfl)) (bC rfl (fun hb=>qA (aV hb rfl) rfl) (aC (cF rfl rfl rfl) (aC aM (aK (k27 _ _ ?_)))));try clear k27 K27
         simp only[zz];refine yC rfl (fun hc3=>?_) (fun hc3=>?_)
         · skip
           refine wL m 7 aB (by kernel_rfl) ?_;simp only[zy];refine Dk rfl (fun u m=>((m.b 3 rfl).lies1 bE rfl)) ?_;simp only[zz];refine Dk rfl (fun u m=>((m.b 11 rfl).full aG aA)) ?_;simp only[zz];refine Dk rfl (fun u m=>((m.b 10 rfl).full aG aA)) ?_;simp only[zz];refine Dk rfl (fun u m=>((m.b 1 rfl).full aG aA)) ?_;simp only[zz];refine Dk rfl (fun u m=>((m.b 0 rfl).full aG aA)) ?_;simp only[zz];refine afu rfl rfl (uI (a:=p) (b:=q) (c:=t.cor x) (d:=t.cor ((x+1)%3))) (aJ (aI tM aX rfl rfl (by decide) (by decide) rfl) (bD ?_));clear m;intro u m;simp only[zz];refine iV m 4 rfl rfl rfl aX (iS rfl) ⟨rfl,rfl⟩ ?_;clear m;intro u m;simp only[zz,zy,zx,cA,aa] at m;refine aK (k26 _ _ ?_);try clear k26 K26
           refine cB (aQ rfl ((m.b 3 rfl).lies1 bE rfl) ?_);simp only[zz];refine aC (jL (m:=2) (n:=1) (r:=3) rfl rfl (by decide)) ?_;simp only[zz];refine iV m 3 rfl rfl rfl aX (iS rfl) ⟨rfl,rfl⟩ ?_;clear m;intro u m;simp only[zz,zy,zx,cA,aa] at m;refine aK ?_
           first
           | (have hI:=Kn hc3;rw[show aY (((q.sub p).cross ((t.cor x).sub p)).dot ((t.cor ((x+1)%3)).sub p))=vP p q t x from (Ib hI).symm] at m;exact hn _ _ ⟨m.toMem.sel [false,false,true,true,true,true,true,true,true,true,true,true],m.rx⟩ (fun k=>absurd k hI))
           | (have hI := yG hc3;rw[show aY (dF (Br p t x) (Fi t.normal))=vP p q t x from (Ia hI).symm] at m;exact hn _ _ ⟨m.toMem.sel [false, false, true, true, true, true, true, true, true, true, true, true], m.rx⟩ (fun hi k hk => by
            rcases bt.1 hk with hk | hk
            · exact hJ hi k hk
            · rw[bf.1 hk];exact hc4))
         · skip
           refine nK fun K28 k28=>cB (aQ rfl ((m.b 11 rfl).full aG aA) ?_);simp only[zz];refine aQ rfl ((m.b 10 rfl).full aG aA) ?_;simp only[zz];refine aQ rfl ((m.b 1 rfl).full aG aA) ?_;simp only[zz];refine aQ rfl ((m.b 0 rfl).full aG aA) ?_;simp only[zz];refine Mz m rfl rfl (Nc (p:=p) (q:=q) (r:=t.cor x) (s:=t.cor ((x+1)%3))) ?_;clear m;intro u m;refine aC aM (aK (k28 _ _ ?_));try clear k28 K28
           simp only[zz];refine yC rfl (fun hc4=>?_) (fun hc4=>?_)
           · skip
             refine nK fun K29 k29=>cB (iV m 8 rfl rfl rfl sP (iS rfl) ⟨rfl,rfl⟩ ?_);clear m;intro u m;simp only[zz,zy,zx,cA,aa] at m;refine aK (k29 _ _ ?_);try clear k29 K29
             refine My ?_;exact hr _ _ ⟨m.toMem.sel [false,false,false,false,false,false,false,false,true],m.rx⟩ ⟨yG hc3,x,by simp,hc4⟩
           · skip
             refine wL m 9 aB (by kernel_rfl) ?_;simp only[zy];refine Dk rfl (fun u m=>((m.b 3 rfl).lies1 bE rfl)) ?_;simp only[zz];refine Dk rfl (fun u m=>((m.b 1 rfl).full aG aA)) ?_;simp only[zz];refine Dk rfl (fun u m=>((m.b 0 rfl).full aG aA)) ?_;simp only[zz];refine Dk rfl (fun u m=>((m.b 1 rfl).full aG aA)) ?_;simp only[zz];refine Dk rfl (fun u m=>((m.b 11 rfl).full aG aA)) ?_;simp only[zz];refine afu rfl rfl (qX (a:=t.cor x) (b:=t.cor ((x+1)%3)) (c:=t.cor x) (d:=p)) ?_;simp only[zz];refine Dk rfl (fun u m=>((m.b 7 rfl).lies1 bE rfl)) ?_;simp only[zz];refine aJ ((lS (v:=Br p t x) (Xz _) rfl rfl)) (aJ (aI tM aX rfl rfl (by decide) (by decide) rfl) (bD ?_));clear m;intro u m;simp only[zz];refine iV m 4 rfl rfl rfl aX (iS rfl) ⟨rfl,rfl⟩ ?_;clear m;intro u m;simp only[zz,zy,zx,cA,aa] at m;refine aK (k26 _ _ ?_);try clear k26 K26
             refine cB (aQ rfl ((m.b 3 rfl).lies1 bE rfl) ?_);simp only[zz];refine aC (jL (m:=2) (n:=1) (r:=3) rfl rfl (by decide)) ?_;simp only[zz];refine iV m 3 rfl rfl rfl aX (iS rfl) ⟨rfl,rfl⟩ ?_;clear m;intro u m;simp only[zz,zy,zx,cA,aa] at m;refine aK ?_
             first
             | (have hI:=Kn hc3;rw[show aY (((q.sub p).cross ((t.cor x).sub p)).dot ((t.cor ((x+1)%3)).sub p))=vP p q t x from (Ib hI).symm] at m;exact hn _ _ ⟨m.toMem.sel [false,false,true,true,true,true,true,true,true,true,true,true],m.rx⟩ (fun k=>absurd k hI))
             | (have hI := yG hc3;rw[show aY (dF (Br p t x) (Fi t.normal))=vP p q t x from (Ia hI).symm] at m;exact hn _ _ ⟨m.toMem.sel [false, false, true, true, true, true, true, true, true, true, true, true], m.rx⟩ (fun hi k hk => by
              rcases bt.1 hk with hk | hk
              · exact hJ hi k hk
              · rw[bf.1 hk];exact hc4))
       · exact absurd hN (by simp)
     rotate_left
     · rintro D pre u hS ⟨hI,k,hk,ho⟩ m
       try simp only[cq,Exit.then]
       refine abH (Def.mk (m.get 0 rfl)) ?_;replace m:=m.putD (o':=.deferred none) 0 rfl;exact aR rfl ⟨_,rfl,(m.b 1 rfl).lies1 Kx rfl⟩ (⟨_,rfl,m.ext,by rw[←asu hf hI (hS k hk) ho]⟩)
     rintro D xs u rfl hj m;simp only[aiJ,l3] at m;refine k15 _ _ ?_;try clear k15 K15
     refine bA fun K30 k30=>ap (aQ rfl ((m.b 3 rfl).full vF jE) ?_);simp only[zz];refine lJ m rfl rfl (ala (a:=vP p q t 0) (b:=vP p q t 1) (c:=vP p q t 2)) ?_;clear m;intro u m;simp only[zz];refine eK m 7 rfl rfl rfl sP (iS rfl) ⟨rfl,rfl⟩ ?_;clear m;intro u m;simp only[zz,zy,zx,cA,aa] at m;refine aK (k30 _ _ ?_);try clear k30 K30
     refine wp_ret ?_;try simp only[cq,Exit.then,if_true]
     refine abH (Def.mk (m.get 0 rfl)) ?_;replace m:=m.putD (o':=.deferred none) 0 rfl;simp only[zF,zG] at m;refine aR rfl ⟨_,rfl,((m.b 7 rfl).lies1 Kx rfl)⟩ ?_;try simp only[zD,zE]
     exact⟨_,rfl,m.ext,by rw[ap3 hf hc2 hj]⟩
end Go.Proofs.YtfekpcimgncioaaGreatDoor
namespace Go.Proofs.YtfekpcimgncioaaGreatDoor
open Go.Proofs.Tryz
open Go.RowKit Go.Lith
set_option maxRecDepth 100000
attribute [local irreducible] au cg fR bO cO Code.wp
attribute [local congr] pL fX fY fZ gA gB kI gC gD gE gF gG gH gI gJ gK gL gM eS eT gN gQ gS gT gU kK dC dD cR dB gR kJ eV eW eX gW gX kL
theorem amf{a b c p:P3}{k:Nat}:(((decide (aY (dF (dG a b p) k)≥0)&&decide (aY (dF (dG b c p) k)≥0))&&decide (aY (dF (dG c a p) k)≥0))||((decide (aY (dF (dG a b p) k)≤0)&&decide (aY (dF (dG b c p) k)≤0))&&decide (aY (dF (dG c a p) k)≤0)))=decide (wth a b c p k):=by
 unfold wth;rw[ep];simp only[dm,be,decide_eq_true_eq,ge_iff_le,Gl,Oe,and_assoc];exact decide_eq_true_iff.symm
theorem amg{x y z:Int}:(((decide (aY x≥0)&&decide (aY y≥0))&&decide (aY z≥0))||((decide (aY x≤0)&&decide (aY y≤0))&&decide (aY z≤0)))=Pi x y z:=by
 unfold Pi;rw[ep];simp only[dm,be,decide_eq_true_eq,ge_iff_le,Gl,Oe]
theorem atm{w:aj}{g:Nat}{T:an}{a b c:P3}(hB:fK w g [.int .i64 a.x,.int .i64 a.y,.int .i64 a.z,.int .i64 b.x,.int .i64 b.y,.int .i64 b.z,.int .i64 c.x,.int .i64 c.y,.int .i64 c.z] T):Dg bN 3 w (some ⟨g,0,none⟩) 3 [a,b,c] :=
 ⟨rfl,fun i x hi=>⟨_,rfl,by
  rw[gZ,ar]
  match i,hi with
  | 0,h=>cases h;exact mB.pre (ys:=kN b++kN c) (hB.row 0)
  | 1,h=>cases h;exact mB.pre (ys:=kN c) (hB.row 3)
  | 2,h=>cases h;exact hB.row 6⟩⟩
theorem alc{p q r:P3}{g cap:Nat}(w:aj)(hL:Dg bN 3 w (some ⟨g,0,none⟩) 3 [p,q,r]):dJ prog 203 [.slice (some ⟨g,0,none⟩) 3 cap] w fun v _=>v=.tuple #[pt (mK (mK p q) r),pt (nL (nL p q) r)]:=Vd (x:=p) (xs:=[q,r]) w hL (by decide)
theorem asv{p q:P3}{t:T3}(h:fE t=true):cZ p q t=eF p q (mK (mK t.a t.b) t.c) (nL (nL t.a t.b) t.c):=by
 unfold cZ;rw[if_neg (of_decide_eq_true h)]
theorem nfl{t:T3}(h:fE t=false):iN (dG t.a t.b t.c)<3:=Classical.not_not.1 (of_decide_eq_false h)
theorem asw{p q:P3}{t:T3}(h:fE t=false)(hg:0<aY (mG t.a t.b t.c p)*aY (mG t.a t.b t.c q)):cZ p q t=false:=by
 unfold cZ;rw[if_pos (nfl h),if_pos (uJ.1 hg)]
theorem ad8{p q:P3}{t:T3}(h:fE t=false)(hg:¬0<aY (mG t.a t.b t.c p)*aY (mG t.a t.b t.c q))(hp:(decide (aY (mG t.a t.b t.c p)=0)&&decide (aY (mG t.a t.b t.c q)=0))=true):cZ p q t=(((eF p q t.a t.b||eF p q t.b t.c)||eF p q t.c t.a)||decide (wth t.a t.b t.c p (iN (dG t.a t.b t.c)))):=by
 simp only[be,decide_eq_true_eq,cD] at hp;unfold cZ;rw[if_pos (nfl h),if_neg (fun k=>hg (uJ.2 k)),if_pos hp]
theorem amh{p q:P3}{t:T3}(h:fE t=false)(hg:¬0<aY (mG t.a t.b t.c p)*aY (mG t.a t.b t.c q))(hp:(decide (aY (mG t.a t.b t.c p)=0)&&decide (aY (mG t.a t.b t.c q)=0))=false):cZ p q t=Pi (mG p q t.a t.b) (mG p q t.b t.c) (mG p q t.c t.a):=by
 have hp':¬(mG t.a t.b t.c p=0∧mG t.a t.b t.c q=0):=fun k=>by
  rw[decide_eq_true (cD.2 k.1),decide_eq_true (cD.2 k.2)] at hp;cases hp
 unfold cZ;rw[if_pos (nfl h),if_neg (fun k=>hg (uJ.2 k)),if_neg hp']
theorem aaT{p:P3}{t:T3}[I3 p][IT t](hk:iN (dG t.a t.b t.c)<3):dL prog 205 [pt p,tr t] (.bool (decide (wth t.a t.b t.c p (iN (dG t.a t.b t.c))))):=by
 intro w;refine⟨anF,?_⟩;have m:=Mem.refl w
 go_enter func205,ntmps205
 refine eC 14 [0,0,0,0] m ?_;simp only[↓aD,bM,aO,ad,ag,aa];intro g1 g2;refine⟨by omega,?_⟩;intro u m;refine lJ m rfl rfl (gY (a:=t.a) (b:=t.b) (c:=t.c)) ?_;clear m;intro u m;simp only[zz];refine mW m rfl rfl (Ve (v:=dG t.a t.b t.c)) 9 [0,0,1,0] ?_;simp only[↓aD,bM,aO,ad,ag,aa];refine⟨by omega,?_⟩;intro u m;refine mW m rfl rfl (gY (a:=t.a) (b:=t.b) (c:=p)) 1 [0] ?_;simp only[↓aD];intro u m;refine aC ((lS (v:=dG t.a t.b p) hk rfl rfl)) (aS 9 [0,0,1,0] m ?_);simp only[↓aD,bM,aO,ad,ag,aa];refine⟨by omega,?_⟩;intro u m;refine mW m rfl rfl (gY (a:=t.b) (b:=t.c) (c:=p)) 1 [0] ?_;simp only[↓aD];intro u m;refine aC ((lS (v:=dG t.b t.c p) hk rfl rfl)) (aS 9 [0,0,1,0] m ?_);simp only[↓aD,bM,aO,ad,ag,aa];refine⟨by omega,?_⟩;intro u m;refine mW m rfl rfl (gY (a:=t.c) (b:=t.a) (c:=p)) 1 [0] ?_;simp only[↓aD];intro u m;refine aC ((lS (v:=dG t.c t.a p) hk rfl rfl)) (aS 3 [] m ?_);simp only[↓aD];intro u m;cases hA:((decide (aY (dF (dG t.a t.b p) (iN (dG t.a t.b t.c)))≥0)&&decide (aY (dF (dG t.b t.c p) (iN (dG t.a t.b t.c)))≥0))&&decide (aY (dF (dG t.c t.a p) (iN (dG t.a t.b t.c)))≥0))
 · skip
   refine cP 4 [0,0] m ?_;simp only[↓aD];intro u m;refine cS rfl (fun hb=>aH) (cS rfl (fun hb=>Ft (aV hb rfl) rfl) (aC (bU rfl rfl rfl) ?_));refine aS 1 [0] m ?_;simp only[↓aD];intro u m;refine cS rfl (fun hb=>aH) (cS rfl (fun hb=>Ft (aV hb rfl) rfl) (aC (bU rfl rfl rfl) ?_));simp only[zz];rw[hA];refine aC aH (aS 3 [0,0] m ?_);simp only[↓aD];intro u m;refine cS rfl (fun hb=>aH) (cS rfl (fun hb=>Do (aV hb rfl) rfl) (dN rfl (aC (bU rfl rfl rfl) ?_)));refine aS 1 [0] m ?_;simp only[↓aD];intro u m;refine cS rfl (fun hb=>aH) (cS rfl (fun hb=>Do (aV hb rfl) rfl) (dN rfl (aC (bU rfl rfl rfl) ?_)));refine aS 4 [] m ?_;simp only[↓aD];intro u m;refine aR rfl rfl ?_;try simp only[zD,zE]
   exact⟨_,rfl,m.ext,by rw[←amf,hA,jh]⟩
 · skip
   refine cP 4 [0,0] m ?_;simp only[↓aD];intro u m;refine cS rfl (fun hb=>aH) (cS rfl (fun hb=>Ft (aV hb rfl) rfl) (aC (bU rfl rfl rfl) ?_));refine aS 1 [0] m ?_;simp only[↓aD];intro u m;refine cS rfl (fun hb=>aH) (cS rfl (fun hb=>Ft (aV hb rfl) rfl) (aC (bU rfl rfl rfl) ?_));simp only[zz];rw[hA];refine aC aH (aS 14 [] m ?_);simp only[↓aD];intro u m;refine aR rfl rfl ?_;try simp only[zD,zE]
   exact⟨_,rfl,m.ext,by rw[←amf,hA,Bool.true_or]⟩
theorem mV{p q:P3}{t:T3}[I3 p][I3 q][IT t]:dL prog 139 [pt p,pt q,tr t] (.bool (cZ p q t)):=by
 intro w;refine⟨am3,?_⟩;have m:=Mem.refl w
 go_enter func139,ntmps139
 refine eC 5 [] m ?_;simp only[↓aD];intro g1 g2 g3;intro u m;refine cP 5 [0,0] m ?_;simp only[↓aD,dQ];intro u m;refine mW m rfl rfl (Ho (t:=t)) 7 [0] ?_;simp only[↓aD];intro u m;refine cN rfl (fun hc1=>?_) (fun hc1=>?_)
 · skip
   rw[tA] at hc1;refine aW 8 [0,0,0,0] m ?_;simp only[↓aD,bM,aO,ad,ag,aa];refine⟨by omega,?_⟩;intro u m;refine ae8 rfl rfl rfl ?_;intro u g4 e hg hB;replace m:=m.newB e hg hB;clear e hg hB;simp only[zz];refine cU m rfl rfl (alc (p:=t.a) (q:=t.b) (r:=t.c) _ (atm (m.b 0 rfl))) ?_;clear m;rintro v u m rfl;refine aS 7 [1,0] m ?_;simp only[↓aD,eY,aO,aa];intro g5 g6;intro u m;refine cP 7 [5,4,1,0,0] m ?_;simp only[↓aD,aO];intro u m;refine mW m rfl rfl ((haveI hm:=Hz (p:=t.a) (q:=t.b) inferInstance inferInstance;haveI:=(Hz hm.1 (inferInstance:I3 t.c)).1;haveI:=(Hz hm.2 (inferInstance:I3 t.c)).2;yF (p:=p) (q:=q) (r:=mK (mK t.a t.b) t.c) (s:=nL (nL t.a t.b) t.c))) 3 [] ?_;simp only[↓aD];intro u m;refine aR rfl rfl ?_;try simp only[zD,zE]
   exact⟨_,rfl,m.ext,by rw[asv hc1]⟩
 · skip
   rw[tA] at hc1;refine aW 10 [0,0,0,2,0] m ?_;simp only[↓aD,bM,aO,ad,ag,aa];refine⟨by omega,?_⟩;intro u m;refine mW m rfl rfl (mU (a:=t.a) (b:=t.b) (c:=t.c) (d:=p)) 11 [0,0,0,1] ?_;simp only[↓aD,bM,aO,ad,ag,aa];refine⟨by omega,?_⟩;intro u m;refine go (mW m rfl rfl (mU (a:=t.a) (b:=t.b) (c:=t.c) (d:=q)) 7 [0] ?_);simp only[↓aD];intro u m;refine aC (lB rfl rfl (wO _ _)) (aS 2 [0,0] m ?_);simp only[↓aD];intro u m;refine bG rfl (fun hc2=>?_) (fun hc2=>?_)
   · skip
     refine aW 5 [] m ?_;simp only[↓aD];intro u m;refine aR rfl rfl ?_;try simp only[zD,zE]
     exact⟨_,rfl,m.ext,by rw[asw hc1 hc2]⟩
   · skip
     refine aW 7 [0,0] m ?_;simp only[↓aD];intro u m;refine cS rfl (fun hb=>aH) (cS rfl (fun hb=>Sw (aV hb rfl) rfl) (aC (bU rfl rfl rfl) ?_));refine aS 1 [0] m ?_;simp only[↓aD];intro u m;refine cN rfl (fun hc3=>?_) (fun hc3=>?_)
     · skip
       refine aW 19 [4,1,0] m ?_;simp only[↓aD];refine⟨by omega,?_⟩;intro u m;refine mq m aB (by kernel_rfl) (eM 7 [2,1,0] ?_);simp only[↓aD,aO,bM,ad,ag,aa,ak];refine⟨by omega,?_⟩;refine aJ (eG (m:=1) (n:=3) (r:=1) rfl rfl (by decide) (by decide)) (eM 2 [0] ?_);simp only[↓aD,bM,aO,ad,ag,aa];refine⟨by omega,?_⟩;refine eR rfl rfl (yF (p:=p) (q:=q) (r:=t.a) (s:=t.b)) (aJ aM (bD ?_));clear m;intro u m;refine cP 4 [0] m ?_;simp only[↓aD];intro u m;refine cN rfl (fun hc5=>?_) (fun hc5=>?_)
       · skip
         have h0:=hc5;refine aW 5 [] m ?_;simp only[↓aD];intro u m;refine aR rfl rfl ?_;try simp only[zD,zE]
         exact⟨_,rfl,m.ext,by rw[ad8 hc1 hc2 hc3];simp[*]⟩
       · skip
         have h0:=hc5;refine aW 19 [1,0] m ?_;simp only[↓aD,ak];refine⟨by omega,?_⟩;intro u m;refine mq m aB (by kernel_rfl) (eM 7 [2,1,0] ?_);simp only[↓aD,aO,bM,ad,ag,aa,ak];refine⟨by omega,?_⟩;refine aJ (eG (m:=2) (n:=3) (r:=2) rfl rfl (by decide) (by decide)) (eM 2 [0] ?_);simp only[↓aD,bM,aO,ad,ag,aa];refine⟨by omega,?_⟩;refine eR rfl rfl (yF (p:=p) (q:=q) (r:=t.b) (s:=t.c)) (aJ aM (bD ?_));clear m;intro u m;refine cP 4 [0] m ?_;simp only[↓aD];intro u m;refine cN rfl (fun hc5=>?_) (fun hc5=>?_)
         · skip
           have h1:=hc5;refine aW 5 [] m ?_;simp only[↓aD];intro u m;refine aR rfl rfl ?_;try simp only[zD,zE]
           exact⟨_,rfl,m.ext,by rw[ad8 hc1 hc2 hc3];simp[*]⟩
         · skip
           have h1:=hc5;refine aW 19 [1,0] m ?_;simp only[↓aD,ak];refine⟨by omega,?_⟩;intro u m;refine mq m aB (by kernel_rfl) (eM 7 [2,1,0] ?_);simp only[↓aD,aO,bM,ad,ag,aa,ak];refine⟨by omega,?_⟩;refine aJ (eG (m:=3) (n:=3) (r:=0) rfl rfl (by decide) (by decide)) (eM 2 [0] ?_);simp only[↓aD,bM,aO,ad,ag,aa];refine⟨by omega,?_⟩;refine eR rfl rfl (yF (p:=p) (q:=q) (r:=t.c) (s:=t.a)) (aJ aM (bD ?_));clear m;intro u m;refine cP 4 [0] m ?_;simp only[↓aD];intro u m;refine cN rfl (fun hc5=>?_) (fun hc5=>?_)
           · skip
             have h2:=hc5;refine aW 5 [] m ?_;simp only[↓aD];intro u m;refine aR rfl rfl ?_;try simp only[zD,zE]
             exact⟨_,rfl,m.ext,by rw[ad8 hc1 hc2 hc3];simp[*]⟩
           · skip
             have h2:=hc5;refine aW 20 [2,2,0,0] m ?_;simp only[↓aD,aO,dQ,ak];refine⟨by omega,?_⟩;intro u m;refine mW m rfl rfl (aaT (p:=p) (t:=t) (nfl hc1)) 3 [] ?_;simp only[↓aD];intro u m;refine aR rfl rfl ?_;try simp only[zD,zE]
             exact⟨_,rfl,m.ext,by rw[ad8 hc1 hc2 hc3,h0,h1,h2];rfl⟩
     · skip
       refine aW 9 [2,1,0,0,0] m ?_;simp only[↓aD,aO,bM,ad,ag,aa];refine⟨by omega,?_⟩;intro u m;refine mW m rfl rfl (mU (a:=p) (b:=q) (c:=t.a) (d:=t.b)) 10 [2,1,0,0,0] ?_;simp only[↓aD,aO,bM,ad,ag,aa];refine⟨by omega,?_⟩;intro u m;refine mW m rfl rfl (mU (a:=p) (b:=q) (c:=t.b) (d:=t.c)) 10 [2,1,0,0,0] ?_;simp only[↓aD,aO,bM,ad,ag,aa];refine⟨by omega,?_⟩;intro u m;refine mW m rfl rfl (mU (a:=p) (b:=q) (c:=t.c) (d:=t.a)) 3 [] ?_;simp only[↓aD];intro u m;cases hA:((decide (aY (mG p q t.a t.b)≥0)&&decide (aY (mG p q t.b t.c)≥0))&&decide (aY (mG p q t.c t.a)≥0))
       · skip
         refine cP 4 [0,0] m ?_;simp only[↓aD];intro u m;refine cS rfl (fun hb=>aH) (cS rfl (fun hb=>Ft (aV hb rfl) rfl) (aC (bU rfl rfl rfl) ?_));refine aS 1 [0] m ?_;simp only[↓aD];intro u m;refine cS rfl (fun hb=>aH) (cS rfl (fun hb=>Ft (aV hb rfl) rfl) (aC (bU rfl rfl rfl) ?_));simp only[zz];rw[hA];refine aC aH (aS 3 [0,0] m ?_);simp only[↓aD];intro u m;refine cS rfl (fun hb=>aH) (cS rfl (fun hb=>Do (aV hb rfl) rfl) (dN rfl (aC (bU rfl rfl rfl) ?_)));refine aS 1 [0] m ?_;simp only[↓aD];intro u m;refine cS rfl (fun hb=>aH) (cS rfl (fun hb=>Do (aV hb rfl) rfl) (dN rfl (aC (bU rfl rfl rfl) ?_)));refine aS 4 [] m ?_;simp only[↓aD];intro u m;refine aR rfl rfl ?_;try simp only[zD,zE]
         exact⟨_,rfl,m.ext,by rw[amh hc1 hc2 hc3,←amg,hA,jh]⟩
       · skip
         refine cP 4 [0,0] m ?_;simp only[↓aD];intro u m;refine cS rfl (fun hb=>aH) (cS rfl (fun hb=>Ft (aV hb rfl) rfl) (aC (bU rfl rfl rfl) ?_));refine aS 1 [0] m ?_;simp only[↓aD];intro u m;refine cS rfl (fun hb=>aH) (cS rfl (fun hb=>Ft (aV hb rfl) rfl) (aC (bU rfl rfl rfl) ?_));simp only[zz];rw[hA];refine aC aH (aS 14 [] m ?_);simp only[↓aD];intro u m;refine aR rfl rfl ?_;try simp only[zD,zE]
         exact⟨_,rfl,m.ext,by rw[amh hc1 hc2 hc3,←amg,hA,Bool.true_or]⟩
theorem ald{s t:T3}{k:Nat}(hk:k<3)(h:cZ (s.cor k) (s.cor ((k+1)%3)) t=true):true=uL s t:=by
 have e:k=0∨k=1∨k=2:=by omega
 unfold uL;rcases e with rfl | rfl | rfl
 · rw[show cZ s.a s.b t=true from h];rfl
 · rw[show cZ s.b s.c t=true from h,oq];rfl
 · rw[show cZ s.c s.a t=true from h,oq]
theorem aiK{s t:T3}(h:∀k∈[0,1,2],cZ (s.cor k) (s.cor ((k+1)%3)) t=false):false=uL s t:=by
 unfold uL;rw[show cZ s.a s.b t=false from h 0 (by decide),show cZ s.b s.c t=false from h 1 (by decide),show cZ s.c s.a t=false from h 2 (by decide)];rfl
theorem aaU{l:List Value}{ty:an}{x y:Operand}{t:T3}{k:Nat}(hk:k<3)(hx:ev l x=tr t)(hy:ev l y=.int .i64 (k:Int)):iG prog l (.index 39 x y) ty (pt (t.cor k)):=by
 have h:k=0∨k=1∨k=2:=by omega
 rcases h with rfl | rfl | rfl
 · exact sU hx hy
 · exact sV hx hy
 · exact sW hx hy
def aiL(t:T3):List P3:=[t.a,t.b,t.c]
theorem aiM{t:T3}{k:Nat}(hk:k<3):(aiL t)[k]? = some (t.cor k):=by
 have h:k=0∨k=1∨k=2:=by omega
 rcases h with rfl | rfl | rfl <;> rfl
def rQ(s t:T3)(k:Nat):List P3:=((aiL s).take k).filter fun x=>t.has x
def rR(s t:T3)(k:Nat):List P3:=((aiL s).take k).filter fun x=>!t.has x
theorem rS{s t:T3}{k:Nat}(hk:k<3):rQ s t (k+1)=rQ s t k++if t.has (s.cor k) then [s.cor k] else []:=by
 unfold rQ;rw[bX (aiM hk),fu,gg,mf]
theorem rT{s t:T3}{k:Nat}(hk:k<3):rR s t (k+1)=rR s t k++if t.has (s.cor k) then [] else [s.cor k]:=by
 unfold rR;rw[bX (aiM hk),fu,gg,mf];cases t.has (s.cor k) <;> rfl
theorem Nd(s t:T3)(k:Nat):(rQ s t k).length≤3:=Nat.le_trans (fc _ _) (by rw[cj];exact Nat.min_le_right ..)
theorem Nf(s t:T3)(k:Nat):(rR s t k).length≤3:=Nat.le_trans (fc _ _) (by rw[cj];exact Nat.min_le_right ..)
theorem ami{t:T3}{x:P3}:((decide (x.x=t.a.x∧x.y=t.a.y∧x.z=t.a.z)||decide (x.x=t.b.x∧x.y=t.b.y∧x.z=t.b.z))||decide (x.x=t.c.x∧x.y=t.c.y∧x.z=t.c.z))=t.has x:=by
 have e:∀p q:P3,(p.x=q.x∧p.y=q.y∧p.z=q.z)↔p=q:=fun p q=>⟨fun h=>P3.eq h.1 h.2.1 h.2.2,fun h=>by rw[h];exact⟨rfl,rfl,rfl⟩⟩
 rw[ep,eU];simp only[dm,decide_eq_true_eq,e,or_assoc]
theorem Ra(s t:T3):(mH s t).length+(sA s t).length=3:=by
 rw[Pp,Pq];cases t.has s.a <;> cases t.has s.b <;> cases t.has s.c <;> rfl
theorem nd_of{t:T3}(h:fE t=false):t.nd=true:=by
 have hf:iN (dG t.a t.b t.c)<3:=by
  unfold fE at h;rw[decide_eq_false_iff_not,Decidable.not_not] at h;exact h
 have hz:∀p q r:P3,p=q∨q=r∨r=p→dG p q r=⟨0,0,0⟩:=fun p q r hh=>by
  rcases hh with rfl | rfl | rfl <;> (refine P3.eq ?_ ?_ ?_ <;> (simp only[dG,P3.sub,P3.cross];grind))
 have hn:¬(t.a=t.b∨t.b=t.c∨t.c=t.a):=fun hh=>by
  rw[hz _ _ _ hh] at hf;exact absurd hf (by decide)
 rw[Ex];exact⟨fun e=>hn (.inl e),fun e=>hn (.inr (.inl e)),fun e=>hn (.inr (.inr e))⟩
theorem Rb{s t:T3}(hs:fE s=false)(ht:fE t=false)(h0:(mH s t).length≠0) :
 (∃x u v y z,mH s t=[x]∧sA s t=[u,v]∧sA t s=[y,z])∨(∃x y u v,mH s t=[x,y]∧sA s t=[u]∧sA t s=[v])∨(mH s t).length=3:=by
 have h1:=Ra s t;have h2:=Ra t s;have h3:=(aas (nd_of hs) (nd_of ht)).length_eq;generalize mH s t=L at *
 generalize sA s t=U at *
 generalize sA t s=V at *
 rw[←h3] at h2;rcases L with _ | ⟨x,_ | ⟨y,_ | ⟨z,_ | ⟨z',L⟩⟩⟩⟩
 · exact absurd rfl h0
 · rcases U with _ | ⟨u,_ | ⟨v,_ | ⟨_,_⟩⟩⟩ <;> simp only[ay,bu] at h1 <;> try omega
   rcases V with _ | ⟨y,_ | ⟨z,_ | ⟨_,_⟩⟩⟩ <;> simp only[ay,bu] at h2 <;> try omega
   exact .inl ⟨x,u,v,y,z,rfl,rfl,rfl⟩
 · rcases U with _ | ⟨u,_ | ⟨_,_⟩⟩ <;> simp only[ay,bu] at h1 <;> try omega
   rcases V with _ | ⟨v,_ | ⟨_,_⟩⟩ <;> simp only[ay,bu] at h2 <;> try omega
   exact .inr (.inl ⟨x,y,u,v,rfl,rfl,rfl⟩)
 · exact .inr (.inr rfl)
 · simp only[ay] at h1;omega
theorem aiN{s t:T3}{n:Nat}(hn:n=(mH s t).length)(h:(decide ((n:Int)=0)||fE s||fE t)=true):(uL s t||uL t s)=mD s t:=by
 unfold mD;rw[if_pos];rw[dm,dm,decide_eq_true_eq] at h;rcases h with (h | h) | h
 · exact .inl (by omega)
 · exact .inr (.inl h)
 · exact .inr (.inr h)
theorem aiO{s t:T3}{n:Nat}(hn:n=(mH s t).length)(h:(decide ((n:Int)=0)||fE s||fE t)=false):((mH s t).length≠0∧fE s=false∧fE t=false)∧mD s t=nD s t (mH s t) (sA s t) (sA t s):=by
 rw[fz,fz,decide_eq_false_iff_not] at h;refine⟨⟨fun e=>h.1.1 (by omega),h.1.2,h.2⟩,?_⟩;unfold mD;rw[if_neg];rintro (k | k | k)
 · exact h.1.1 (by omega)
 · rw[h.1.2] at k;cases k
 · rw[h.2] at k;cases k
theorem aiP{s:T3}[h:IT s]{x:P3}(hx:x∈aiL s):I3 x:=by
 simp only[aiL,ao,bz,or_false] at hx;rcases hx with rfl | rfl | rfl
 · exact h.a
 · exact h.b
 · exact h.c
theorem Yb{s t:T3}[IT s]{L:List P3}{i:Nat}{x:P3}(h:mH s t=L)(hx:L[i]? = some x):I3 x:=aiP (ct.1 (h▸bj hx:x∈mH s t)).1
theorem sC{s t:T3}[IT s]{L:List P3}{i:Nat}{x:P3}(h:sA s t=L)(hx:L[i]? = some x):I3 x:=aiP (ct.1 (h▸bj hx:x∈sA s t)).1
theorem aiQ{s t:T3}{xa xb ua va:P3}:(decide (aY (((xb.sub xa).cross (ua.sub xa)).dot (va.sub xa))=0)&&decide (aY ((xb.sub xa).cross (ua.sub xa)).x=aY ((xb.sub xa).cross (va.sub xa)).x∧aY ((xb.sub xa).cross (ua.sub xa)).y=aY ((xb.sub xa).cross (va.sub xa)).y∧aY ((xb.sub xa).cross (ua.sub xa)).z=aY ((xb.sub xa).cross (va.sub xa)).z))=nD s t [xa,xb] [ua] [va]:=by
 rw[decide_eq_decide.2 (cD (n:=((xb.sub xa).cross (ua.sub xa)).dot (va.sub xa)))];rfl
theorem aiR{s t:T3}(h:(mH s t).length=3):nD s t (mH s t) (sA s t) (sA t s)=true:=by
 generalize mH s t=L at h;rcases L with _ | ⟨x,_ | ⟨y,_ | ⟨z,L⟩⟩⟩ <;> simp only[ay,bu] at h <;> try omega
 rfl
theorem Vf{s t:T3}[IT s][IT t]:dL prog 241 [tr s,tr t] (.bool (uL s t)):=by
 intro w;refine⟨an0,?_⟩;have m:=Mem.refl w;refine (callsIn_wide (n:=4)).1 (callsIn_of_wp_marks func241 rfl trivial ?_ rfl);simp only[ntmps241,fy,ay,bu,aa,Nat.reduceSub,gj,gl,io,gz,cd,ci];refine wpIn_wide.2 ?_;refine bA fun K1 k1=>ap (Tn m rfl ?_);clear m;intro g1 u m;simp only[zz];refine Tn m rfl ?_;clear m;intro g2 u m;simp only[zz];refine nI m oB rfl ?_;clear m;intro g3 u m;refine aK (k1 _ _ ?_);try clear k1 K1
 refine bA fun K2 k2=>bA fun K3 k3=>ap ?_;simp only[zz];refine aQ rfl ((m.b 2 rfl).full bV aL) ?_;simp only[zz];refine bJ rfl rfl (ad3 (t:=s) _) ?_;rintro v u e ⟨g4,rfl,hg,hB⟩;replace m:=m.newB e hg hB;clear e hg hB;refine aK (k3 _ _ ?_);try clear k3 K3
 refine wp_block ?_;simp only[zz];refine aaR (v1:=fun x=>pt (s.cor x)) (v2:=fun x=>pt (s.cor ((x+1)%3))) (c1:=fun x=>[.int .i64 (s.cor x).x,.int .i64 (s.cor x).y,.int .i64 (s.cor x).z]) (c2:=fun x=>[.int .i64 (s.cor ((x+1)%3)).x,.int .i64 (s.cor ((x+1)%3)).y,.int .i64 (s.cor ((x+1)%3)).z]) (T1:=30) (T2:=30) (d1:=5) (d2:=6) (csB:=aN s) (tB:=39) rfl agi (Ly 3 (by omega) g4 0 s _ (m.b 0 rfl)) (fun _=>[bI g4 (aN s) 39,bI g3 [.bool false] 4,bI g2 [.int .i64 t.a.x,.int .i64 t.a.y,.int .i64 t.a.z,.int .i64 t.b.x,.int .i64 t.b.y,.int .i64 t.b.z,.int .i64 t.c.x,.int .i64 t.c.y,.int .i64 t.c.z] 39,bI g1 [.int .i64 s.a.x,.int .i64 s.a.y,.int .i64 s.a.z,.int .i64 s.b.x,.int .i64 s.b.y,.int .i64 s.b.z,.int .i64 s.c.x,.int .i64 s.c.y,.int .i64 s.c.z] 39]) (fun _=>[bI g3 [.bool true] 4]) (fun pre=>∀k∈pre,cZ (s.cor k) (s.cor ((k+1)%3)) t=false) (fun pre=>∃k∈pre,cZ (s.cor k) (s.cor ((k+1)%3)) t=true) (fun _ i hi=>by simp only[ao,bz,or_false] at hi;rcases hi with rfl | rfl | rfl | rfl <;> exact⟨_,_,_,rfl⟩) (fun _ i hi=>by simp only[ao,bz,or_false] at hi;subst hi ;exact⟨_,_,_,rfl⟩) (fun _=>rfl) (fun _=>bj (i:=0) rfl) m (fun k hk=>by cases hk) ?_ ?_ ?_ ?_
 · skip
   intro r pre x W K m hK;simp only[zF,zG];refine nK fun K4 k4=>cB (Hx m iL rfl ?_);clear m;intro g5 u m;simp only[zz];refine Bp m 0 rfl rfl rfl aA (iS rfl) rfl ?_;clear m;intro u m;simp only[zy,zx,cA,zF,zG,aa] at m;refine aK (k4 _ _ ?_);try clear k4 K4
   refine cB (Hx m iL rfl ?_);clear m;intro g6 u m;simp only[zz];refine Bp m 0 rfl rfl rfl aA (iS rfl) rfl ?_;clear m;intro u m;simp only[zy,zx,cA,zF,zG,aa] at m;exact aK (hK _ _ _ m)
 · skip
   intro r pre x g5 g6 W Q' _ hJ hN m hn hr
   · skip
     simp only[zF,zG];refine oS (nK fun K5 k5=>cB (aQ rfl ((m.b 1 rfl).full aG aA) ?_));simp only[zz];refine aQ rfl ((m.b 0 rfl).full aG aA) ?_;simp only[zz];refine aQ rfl ((m.b 4 rfl).full bV aL) ?_;simp only[zz];refine Mz m rfl rfl (Ya (p:=s.cor x) (q:=s.cor ((x+1)%3)) (t:=t)) ?_;clear m;intro u m;refine aK (k5 _ _ ?_);try clear k5 K5
     simp only[zz];refine yC rfl (fun hc1=>?_) (fun hc1=>?_)
     · skip
       refine nK fun K6 k6=>cB (iV m 3 rfl rfl rfl sP (iS rfl) ⟨rfl,rfl⟩ ?_);clear m;intro u m;simp only[zz,zy,zx,cA,aa] at m;refine aK (k6 _ _ ?_);try clear k6 K6
       refine My ?_;exact hr _ _ ⟨m.toMem.sel [false,false,false,true],m.rx⟩ ⟨x,by simp,hc1⟩
     · skip
       refine aiz ?_;exact hn _ _ ⟨m.toMem.sel [false,false,true,true,true,true],m.rx⟩ (fun k hk=>by
        rcases bt.1 hk with hk | hk
        · exact hJ k hk
        · rw[bf.1 hk];exact hc1)
 rotate_left
 · rintro D pre u hS ⟨k,hk,ho⟩ m
   try simp only[cq,Exit.then]
   refine abH (Def.mk (m.get 0 rfl)) ?_;replace m:=m.putD (o':=.deferred none) 0 rfl;exact aR rfl ⟨_,rfl,(m.b 1 rfl).lies1 Kx rfl⟩ (⟨_,rfl,m.ext,by rw[←ald (hS k hk) ho]⟩)
 rintro D xs u rfl hj m;refine k2 _ _ ?_;try clear k2 K2
 refine bA fun K7 k7=>ap (eK m 2 rfl rfl rfl sP (iS rfl) ⟨rfl,rfl⟩ ?_);clear m;intro u m;simp only[zz,zy,zx,cA,aa] at m;refine aK (k7 _ _ ?_);try clear k7 K7
 refine wp_ret ?_;try simp only[cq,Exit.then,if_true]
 refine abH (Def.mk (m.get 0 rfl)) ?_;replace m:=m.putD (o':=.deferred none) 0 rfl;simp only[zF,zG] at m;refine aR rfl ⟨_,rfl,((m.b 2 rfl).lies1 Kx rfl)⟩ ?_;try simp only[zD,zE]
 exact⟨_,rfl,m.ext,by rw[←aiK hj]⟩
theorem aaV{s t:T3}(w:aj):dJ prog 240 [tr s,tr t] w (fun v w'=>∃A4 n4 c4 A5 n5 c5,v=.tuple #[.slice A4 n4 c4,.slice A5 n5 c5]∧n4=(mH s t).length∧n5=(sA s t).length∧Mem w w' [oI 30 3 A5 n5 c5 ((sA s t).flatMap kN),oI 30 3 A4 n4 c4 ((mH s t).flatMap kN)]):=by
 refine⟨anZ,?_⟩;have m:=Mem.refl w
 go_enter func240,ntmps240
 refine eC 4 [0] m ?_;simp only[↓aD];intro g1 g2;intro u m;refine aC aM ?_;replace m:=m.nilO 30 3;refine aC aM ?_;replace m:=m.nilO 30 3;refine aS 8 [3,0] m ?_;simp only[↓aD,dQ];intro u m;refine cE [4,5,9] [7,10,11,12,13,14,15,16,17,18,19,20,21,22,23,24,25,26,27,28,29,30,31,32,33,34,35,36] (fun n vs wl=>∃(k:Nat) (A4 A5:Option Addr) (cap4 cap5:Nat),vs=[.slice A4 (rQ s t k).length cap4,.slice A5 (rR s t k).length cap5,.int .i64 (k:Int)]∧Mem w wl [oI 30 3 A5 (rR s t k).length cap5 ((rR s t k).flatMap kN),oI 30 3 A4 (rQ s t k).length cap4 ((rQ s t k).flatMap kN),bI g2 [.int .i64 t.a.x,.int .i64 t.a.y,.int .i64 t.a.z,.int .i64 t.b.x,.int .i64 t.b.y,.int .i64 t.b.z,.int .i64 t.c.x,.int .i64 t.c.y,.int .i64 t.c.z] 39]∧(k≤3)∧(n=3-k)) ?_ ?_
 · skip
   apply Exists.intro;simp only[zQ,zR,zD,zE];exact⟨0,_,_,_,_,rfl,(m.sel [true,true,true,false]),by omega,rfl⟩
 · intro n vs wr hI u K1 hK1
   clear m;obtain⟨k,A4,A5,cap4,cap5,rfl,m,hk,hn⟩:=hI;simp only[zu,zF,zG];refine aW 5 [0,0] m ?_;simp only[↓aD];intro u m;refine bG rfl (fun hc1=>?_) (fun hc1=>?_)
   · skip
     have hk3:k<3:=by omega
     refine aW 5 [0] m ?_;simp only[↓aD];intro u m;refine aC ((aaU (t:=s) hk3 rfl rfl)) (aS 8 [0,0,3,0] m ?_);simp only[↓aD,eY,aO,bM,aa,ad,ag];intro g3;refine⟨by omega,?_⟩;intro u m;refine aC (bW rfl rfl) (aS 1 [0] m ?_);simp only[↓aD];intro u m;refine bS rfl (fun hb=>aU rfl ((m.b 0 rfl).full aG aA)) (bC rfl (fun hb=>aI cH aA rfl rfl (by decide) (by decide) rfl) ?_);simp only[zz];refine bS rfl (fun hb=>aU (aV hb rfl) ((m.b 3 rfl).lies aG aA rfl rfl)) ?_;simp only[zz,zy,ar,aa,ag,ad];refine bC rfl (fun hb=>bW (aV hb rfl) (aV hb rfl)) (aC (cF rfl rfl rfl) ?_);refine aS 1 [0] m ?_;simp only[↓aD];intro u m;refine bS rfl (fun hb=>aU rfl ((m.b 0 rfl).full aG aA)) (bC rfl (fun hb=>aI cH aA rfl rfl (by decide) (by decide) rfl) ?_);simp only[zz];refine bS rfl (fun hb=>aU (aV hb rfl) ((m.b 3 rfl).lies aG aA rfl rfl)) ?_;simp only[zz,zy,ar,aa,ag,ad];refine bC rfl (fun hb=>bW (aV hb rfl) (aV hb rfl)) (aC (cF rfl rfl rfl) ?_);refine aS 1 [0] m ?_;simp only[↓aD];intro u m;refine jZ rfl (fun hc2=>?_) (fun hc2=>?_)
     · skip
       rw[ami] at hc2;refine aW 3 [0,0] m ?_;simp only[↓aD,aO];intro u m;refine kY rfl ?_;intro u g4 e hg hB;replace m:=m.newB e hg hB;clear e hg hB;simp only[zz];refine bQ m 3 rfl rfl cX nG rfl (by decide) rfl rfl rfl (m.b 0 rfl).rowsO (fW rfl) (by have:=Nd s t k;omega) (by have:=Nd s t k;omega) ?_;clear m;intro A4 cap4 u m;simp only[zF,zG] at m;rw[show (rQ s t k).flatMap kN++_=(rQ s t (k+1)).flatMap kN by rw[rS hk3,hc2,ba];rfl,show (rQ s t k).length+1=(rQ s t (k+1)).length by rw[rS hk3,hc2,aw];rfl] at m;rw[show (rQ s t k).length+1=(rQ s t (k+1)).length by rw[rS hk3,hc2,aw];rfl];refine aS 7 [0] m ?_;simp only[↓aD];refine⟨by omega,?_⟩;intro u m;have he:rR s t (k+1)=rR s t k:=by rw[rT hk3,hc2,if_pos rfl,fb]
       rw[←he] at m ⊢;refine hK1 (3-(k+1)) _ _ ?_ ?_ ?_
       · omega
       · simp only[zz,zv]
       · simp only[zQ,zR,zD,zE]
         exact⟨k+1,_,_,_,_,rfl,(m.sel [false,false,true,true,true]),by omega,rfl⟩
     · skip
       rw[ami] at hc2;refine aW 3 [0,0] m ?_;simp only[↓aD,aO];intro u m;refine kY rfl ?_;intro u g4 e hg hB;replace m:=m.newB e hg hB;clear e hg hB;simp only[zz];refine bQ m 2 rfl rfl cX nG rfl (by decide) rfl rfl rfl (m.b 0 rfl).rowsO (fW rfl) (by have:=Nf s t k;omega) (by have:=Nf s t k;omega) ?_;clear m;intro A5 cap5 u m;simp only[zF,zG] at m;rw[show (rR s t k).flatMap kN++_=(rR s t (k+1)).flatMap kN by rw[rT hk3,hc2,ba];rfl,show (rR s t k).length+1=(rR s t (k+1)).length by rw[rT hk3,hc2,aw];rfl] at m;rw[show (rR s t k).length+1=(rR s t (k+1)).length by rw[rT hk3,hc2,aw];rfl];refine aS 7 [0] m ?_;simp only[↓aD];refine⟨by omega,?_⟩;intro u m;have he:rQ s t (k+1)=rQ s t k:=by rw[rS hk3,hc2,if_neg et,fb]
       rw[←he] at m ⊢;refine hK1 (3-(k+1)) _ _ ?_ ?_ ?_
       · omega
       · simp only[zz,zv]
       · simp only[zQ,zR,zD,zE]
         exact⟨k+1,_,_,_,_,rfl,(m.sel [false,false,true,true,true]),by omega,rfl⟩
   · skip
     obtain rfl:k=3:=by omega
     refine aW 9 [] m ?_;simp only[↓aD];intro u m;exact wU rfl rfl rfl (⟨_,rfl,m.ext,_,_,_,_,_,_,rfl,rfl,rfl,m.sel [true,true,false]⟩)
theorem ap4{s t:T3}[IT s][IT t]:dL prog 176 [tr s,tr t] (.bool (mD s t)):=by
 intro w;refine⟨ank,?_⟩;have m:=Mem.refl w
 go_enter func176,ntmps176
 refine eC 9 [1] m ?_;simp only[↓aD,dQ];intro g1 g2;intro u m;refine cP 1 [0,0] m ?_;simp only[↓aD,dQ];intro u m;refine bJ rfl rfl (aaV (s:=s) (t:=t) _) ?_;rintro v u e ⟨A5,n5,c5,A6,n6,c6,rfl,hn5,hn6,hM⟩;replace m:=m.plus hM;clear hM e;simp only[ci,cd] at m;refine aS 10 [2,3,0] m ?_;simp only[↓aD,dQ];intro u m;refine bJ rfl rfl (aaV (s:=t) (t:=s) _) ?_;rintro v u e ⟨A7,n7,c7,A8,n8,c8,rfl,hn7,hn8,hM⟩;replace m:=m.plus hM;clear hM e;simp only[ci,cd] at m;refine aS 13 [0,0] m ?_;simp only[↓aD,mQ];intro u m;refine bS rfl (fun hb=>aU rfl ((m.b 5 rfl).full bV aL)) (xI m rfl rfl (fun hb=>by simp only[cz,bi,ck,zA,zB,zC,zD,zE,hb,iT];rfl) (fun hb=>Xk (t:=s)) ?_);clear m;intro u m;refine aC (cF rfl rfl rfl) (aS 1 [0] m ?_);simp only[↓aD];intro u m;refine bS rfl (fun hb=>aU rfl ((m.b 4 rfl).full bV aL)) (xI m rfl rfl (fun hb=>by simp only[cz,bi,ck,zA,zB,zC,zD,zE,hb,iT];rfl) (fun hb=>Xk (t:=t)) ?_);clear m;intro u m;refine aC (cF rfl rfl rfl) (aS 1 [0] m ?_);simp only[↓aD];intro u m;refine jZ rfl (fun hc1=>?_) (fun hc1=>?_)
 · skip
   rw[Fh,Fh] at hc1;refine aW 4 [5,4,0] m ?_;simp only[↓aD,dQ];intro u m;refine mW m rfl rfl (Vf (s:=s) (t:=t)) 1 [0] ?_;simp only[↓aD];intro u m;refine bS rfl (fun hb=>aU rfl ((m.b 4 rfl).full bV aL)) (bS rfl (fun hb=>aU rfl ((m.b 5 rfl).full bV aL)) (xI m rfl rfl (fun hb=>by simp only[cz,bi,ck,zA,zB,zC,zD,zE,hb,iT];rfl) (fun hb=>Vf (s:=t) (t:=s)) ?_));clear m;intro u m;refine aC (cF rfl rfl rfl) (aS 3 [] m ?_);simp only[↓aD];intro u m;refine aR rfl rfl ?_;try simp only[zD,zE]
   exact⟨_,rfl,m.ext,by rw[aiN hn5 hc1]⟩
 · skip
   rw[Fh,Fh] at hc1;obtain⟨⟨hz,hf1,hf2⟩,hme⟩:=aiO hn5 hc1;refine aW 3 [] m ?_;simp only[↓aD];intro u m;rcases Rb hf1 hf2 hz with ⟨xa,ua,ub,va,vb,h1,h2,h3⟩ | ⟨xa,xb,ua,va,h1,h2,h3⟩ | h1
   · skip
     rw[h1] at hn5;rw[h2] at hn6;rw[h3] at hn8;have i1:I3 ua:=sC (i:=0) h2 rfl;have i2:I3 ub:=sC (i:=1) h2 rfl;have i3:I3 va:=sC (i:=0) h3 rfl;have i4:I3 vb:=sC (i:=1) h3 rfl;simp only[ay,bu] at hn5 hn6 hn8;subst hn5;subst hn6;subst hn8;rw[h1,h2,h3] at m;obtain⟨g5,rfl⟩:=(m.o 3 rfl).some (by decide);obtain⟨g6,rfl⟩:=(m.o 2 rfl).some (by decide);obtain⟨g8,rfl⟩:=(m.o 0 rfl).some (by decide);refine lK 12 [1,0] m ?_;simp only[↓aD,mQ];refine⟨by omega,?_⟩;rintro u m rfl;refine mq m aB (by kernel_rfl) (aJ aH ?_);simp only[zz];refine aJ (aF cX aA rfl rfl (by decide) (by omega) rfl) ?_;simp only[zz];refine ql rfl (fun u m=>(((m.o 2 rfl).at (enc:=kN) (i:=0) xK rfl).lies aG aA)) ?_;simp only[zz];refine aJ aH ?_;simp only[zz];refine aJ (aF cX aA rfl rfl (by decide) (by omega) rfl) ?_;simp only[zz];refine ql rfl (fun u m=>(((m.o 2 rfl).at (enc:=kN) (i:=1) xK rfl).lies aG aA)) ?_;simp only[zz];refine ql rfl (fun u m=>((m.b 4 rfl).full bV aL)) ?_;simp only[zz];refine eR rfl rfl (Ya (p:=ua) (q:=ub) (t:=t)) (aJ aH (iC rfl (fun hb=>aH) ?_));simp only[zz];refine iC rfl (fun hb=>aF cX aA (aV hb rfl) rfl (by decide) (by omega) rfl) ?_;simp only[zz];refine pM rfl (fun hb u m=>aU (aV hb rfl) (((m.o 0 rfl).at (enc:=kN) (i:=0) xK rfl).lies aG aA)) (iC rfl (fun hb=>aH) ?_);simp only[zz];refine iC rfl (fun hb=>aF cX aA (aV hb rfl) rfl (by decide) (by omega) rfl) ?_;simp only[zz];refine pM rfl (fun hb u m=>aU (aV hb rfl) (((m.o 0 rfl).at (enc:=kN) (i:=1) xK rfl).lies aG aA)) (pM rfl (fun hb u m=>aU rfl ((m.b 5 rfl).full bV aL)) (adC rfl rfl (fun hb=>by simp only[cz,bi,ck,zA,zB,zC,zD,zE,hb,iT];rfl) (fun hb=>Ya (p:=va) (q:=vb) (t:=s)) (aJ (cF rfl rfl rfl) (aJ aM (bD ?_)))));clear m;intro u m;refine lK 1 [] m ?_;simp only[↓aD];rintro u m rfl;refine aR rfl rfl ?_;try simp only[zD,zE]
     exact⟨_,rfl,m.ext,by rw[hme,h1,h2,h3];rfl⟩
   · skip
     rw[h1] at hn5;rw[h2] at hn6;rw[h3] at hn8;have i1:I3 xa:=Yb (i:=0) h1 rfl;have i2:I3 xb:=Yb (i:=1) h1 rfl;have i3:I3 ua:=sC (i:=0) h2 rfl;have i4:I3 va:=sC (i:=0) h3 rfl;simp only[ay,bu] at hn5 hn6 hn8;subst hn5;subst hn6;subst hn8;rw[h1,h2,h3] at m;obtain⟨g5,rfl⟩:=(m.o 3 rfl).some (by decide);obtain⟨g6,rfl⟩:=(m.o 2 rfl).some (by decide);obtain⟨g8,rfl⟩:=(m.o 0 rfl).some (by decide);refine lK 18 [2,1,0] m ?_;simp only[↓aD,mQ];refine⟨by omega,?_⟩;rintro u m rfl;apply arK m (T1:=30) (T2:=30)
     · skip
       refine Zt m [true,true,true,true,true,true] (.take 0 (.take 1 (.take 2 (.take 3 (.take 4 (.take 5 (.two 6 (.one 7 (.one 8 (.one 9 .nil))) 7 (.one 6 (.one 8 (.one 9 .nil)))))))))) aB (by kernel_rfl) (fun _ _ _ _ _ h=>by cases h.1) ?_;intro u m;refine iQ (by simp only[zw];rfl) (bB aH (cK (iQ (by simp only[zw];rfl) ?_)));simp only[zz];refine bB (aF cX aA rfl rfl (by decide) (by omega) rfl) (cK (iQ (by simp only[zw];rfl) ?_));simp only[zz];refine eN rfl (fun u m=>(((m.o 3 rfl).at (enc:=kN) (i:=0) xK rfl).lies aG aA)) ?_;simp only[zz];refine cK (iQ (by simp only[zw];rfl) (bB aH (cK (iQ (by simp only[zw];rfl) ?_))));simp only[zz];refine bB (aF cX aA rfl rfl (by decide) (by omega) rfl) (cK (iQ (by simp only[zw];rfl) ?_));simp only[zz];refine eN rfl (fun u m=>(((m.o 3 rfl).at (enc:=kN) (i:=1) xK rfl).lies aG aA)) ?_;simp only[zz];refine cK ?_;refine adr (by simp only[zw];rfl) (by simp only[zw];rfl) ?_ ?_
       · skip
         refine nI m iL rfl ?_;clear m;intro g3 u m;refine aK (⟨m.sel [false,true,true,true,true,true,true],?_⟩);refine qB (by simp only[zw];rfl) ?_;simp only[zz];refine nI m iL rfl ?_;clear m;intro g4 u m;refine aK (⟨m.sel [false,false,true,true,true,true,true,true],?_⟩);refine qB (by simp only[zw];rfl) ?_;simp only[zz];refine bR m 1 rfl rfl rfl aA (iS rfl) rfl ?_;clear m;intro u m;simp only[zy,zx,cA,zF,zG,aa] at m;refine aK (⟨m.sel [false,false,true,true,true,true,true,true],?_⟩);refine qB (by simp only[zw];rfl) ?_;refine bR m 0 rfl rfl rfl aA (iS rfl) rfl ?_;clear m;intro u m;simp only[zy,zx,cA,zF,zG,aa] at m;refine aK (⟨m.sel [false,false,true,true,true,true,true,true],?_⟩);exact Lb (⟨rfl,g3,g4,rfl,m⟩)
       · skip
         refine nI m iL rfl ?_;clear m;intro g3 u m;refine aK (⟨m.sel [false,true,true,true,true,true,true],?_⟩);refine qB (by simp only[zw];rfl) ?_;simp only[zz];refine nI m iL rfl ?_;clear m;intro g4 u m;refine aK (⟨m.sel [false,false,true,true,true,true,true,true],?_⟩);refine qB (by simp only[zw];rfl) ?_;simp only[zz];refine bR m 0 rfl rfl rfl aA (iS rfl) rfl ?_;clear m;intro u m;simp only[zy,zx,cA,zF,zG,aa] at m;refine aK (⟨m.sel [false,false,true,true,true,true,true,true],?_⟩);refine qB (by simp only[zw];rfl) ?_;refine bR m 1 rfl rfl rfl aA (iS rfl) rfl ?_;clear m;intro u m;simp only[zy,zx,cA,zF,zG,aa] at m;refine aK (⟨m.sel [false,false,true,true,true,true,true,true],?_⟩);exact Lb (⟨rfl,g4,g3,rfl,m.s01⟩)
     intro g3 g4 u m;try dsimp only
     refine lK 1 [0] m ?_;simp only[↓aD];rintro u m rfl;refine mq m aB (by kernel_rfl) (eM 3 [1,0] ?_);simp only[↓aD,aO];refine aJ (aF cX aA rfl rfl (by decide) (by omega) rfl) ?_;simp only[zz];refine ql rfl (fun u m=>(((m.o 4 rfl).at (enc:=kN) (i:=0) xK rfl).lies aG aA)) ?_;simp only[zz];refine aJ aH ?_;simp only[zz];refine aJ (aF cX aA rfl rfl (by decide) (by omega) rfl) ?_;simp only[zz];refine ql rfl (fun u m=>(((m.o 2 rfl).at (enc:=kN) (i:=0) xK rfl).lies aG aA)) ?_;simp only[zz];refine eR rfl rfl (uI (a:=xa) (b:=xb) (c:=ua) (d:=va)) (aJ (Sw rfl rfl) (aJ aH ?_));simp only[zz];refine dX rfl (fun hb u m=>aU rfl ((m.b 1 rfl).full aG aA)) (dX rfl (fun hb u m=>aU rfl ((m.b 0 rfl).full aG aA)) (dX rfl (fun hb u m=>aU rfl ((m.b 1 rfl).full aG aA)) (cM rfl (fun hb=>aH) ?_)));simp only[zz];refine cM rfl (fun hb=>aF cX aA (aV hb rfl) rfl (by decide) (by omega) rfl) ?_;simp only[zz];refine dX rfl (fun hb u m=>aU (aV hb rfl) (((m.o 4 rfl).at (enc:=kN) (i:=0) xK rfl).lies aG aA)) (Gq rfl rfl (fun hb=>by simp only[cz,bi,ck,zA,zB,zC,zD,zE,hb,iT];rfl) (fun hb=>qX (a:=xa) (b:=xb) (c:=xa) (d:=ua)) ?_);simp only[zz];refine dX rfl (fun hb u m=>aU rfl ((m.b 1 rfl).full aG aA)) (dX rfl (fun hb u m=>aU rfl ((m.b 0 rfl).full aG aA)) (dX rfl (fun hb u m=>aU rfl ((m.b 1 rfl).full aG aA)) (cM rfl (fun hb=>aH) ?_)));simp only[zz];refine cM rfl (fun hb=>aF cX aA (aV hb rfl) rfl (by decide) (by omega) rfl) ?_;simp only[zz];refine dX rfl (fun hb u m=>aU (aV hb rfl) (((m.o 2 rfl).at (enc:=kN) (i:=0) xK rfl).lies aG aA)) (Gq rfl rfl (fun hb=>by simp only[cz,bi,ck,zA,zB,zC,zD,zE,hb,iT];rfl) (fun hb=>qX (a:=xa) (b:=xb) (c:=xa) (d:=va)) (cM rfl (fun hb=>Cg (aV hb rfl) (aV hb rfl)) (aJ (bU rfl rfl rfl) (aJ aM ?_))));simp only[zz];refine bD ?_;clear m;intro u m;refine lK 1 [] m ?_;simp only[↓aD];rintro u m rfl;refine aR rfl rfl ?_;try simp only[zD,zE]
     exact⟨_,rfl,m.ext,by rw[hme,h1,h2,h3];exact congrArg bw aiQ⟩
   · skip
     rw[h1] at hn5;subst hn5;refine lK 24 [2,2] m ?_;simp only[↓aD,mQ];refine⟨by omega,?_⟩;rintro u m rfl;refine aR rfl rfl ?_;try simp only[zD,zE]
     exact⟨_,rfl,m.ext,by rw[hme,aiR h1]⟩
theorem Yc{w:aj}{g:Nat}{t:T3}{T:an}{j:Nat}(h:fK w g (aN t) T)(hj:j<3):mB w ⟨g,j*3,none⟩ (bN (t.cor j)):=by
 rcases j with _ | _ | _ | j
 · exact (h.row 0).take 3
 · exact (h.row 3).take 3
 · exact (h.row 6).take 3
 · omega
theorem ale{t:T3}{p:P3}:dL prog 202 [pt p,tr t] (.bool (t.has p)):=by
 intro w;refine⟨anC,?_⟩;have m:=Mem.refl w
 go_enter func202,ntmps202
 refine eC 11 [1,0,0] m ?_;simp only[↓aD,aO,bM,ad,ag,aa];intro g1 g2;refine⟨by omega,?_⟩;intro u m;refine aC (bW rfl rfl) (aS 1 [0] m ?_);simp only[↓aD];intro u m;refine bS rfl (fun hb=>aU rfl ((m.b 1 rfl).full aG aA)) (bC rfl (fun hb=>aI cH aA rfl rfl (by decide) (by decide) rfl) ?_);simp only[zz];refine bS rfl (fun hb=>aU (aV hb rfl) ((m.b 0 rfl).lies aG aA rfl rfl)) ?_;simp only[zz,zy,ar,aa,ag,ad];refine bC rfl (fun hb=>bW (aV hb rfl) (aV hb rfl)) (aC (cF rfl rfl rfl) ?_);refine aS 1 [0] m ?_;simp only[↓aD];intro u m;refine bS rfl (fun hb=>aU rfl ((m.b 1 rfl).full aG aA)) (bC rfl (fun hb=>aI cH aA rfl rfl (by decide) (by decide) rfl) ?_);simp only[zz];refine bS rfl (fun hb=>aU (aV hb rfl) ((m.b 0 rfl).lies aG aA rfl rfl)) ?_;simp only[zz,zy,ar,aa,ag,ad];refine bC rfl (fun hb=>bW (aV hb rfl) (aV hb rfl)) (aC (cF rfl rfl rfl) ?_);refine aS 3 [] m ?_;simp only[↓aD];intro u m;refine aR rfl rfl ?_;try simp only[zD,zE]
 exact⟨_,rfl,m.ext,by rw[ain]⟩
theorem Rc{s t:T3}(w:aj):dJ prog 136 [tr s,tr t] w (fun v w'=>∃A4 n4 c4 A5 n5 c5,v=.tuple #[.slice A4 n4 c4,.slice A5 n5 c5]∧n4=(mH s t).length∧n5=(sA s t).length∧Mem w w' [oI 30 3 A5 n5 c5 ((sA s t).flatMap kN),oI 30 3 A4 n4 c4 ((mH s t).flatMap kN)]):=by
 refine⟨am0,?_⟩;have m:=Mem.refl w
 go_enter func136,ntmps136
 refine eC 9 [0] m ?_;simp only[↓aD];intro g1 g2;intro u m;refine aC aM ?_;replace m:=m.nilO 30 3;refine aS 3 [0] m ?_;simp only[↓aD];intro u m;refine aC aM ?_;replace m:=m.nilO 30 3;refine aS 7 [0] m ?_;simp only[↓aD];intro u m;refine cE [6,7,8] [9,10,11,12,13,14,15,16,17,18,19,20,21,22,23,24,25,26,27,28,29,30,31] (fun n vs wl=>∃(k:Nat) (A4 A5:Option Addr) (cap4 cap5:Nat),vs=[.slice A4 (rQ s t k).length cap4,.slice A5 (rR s t k).length cap5,.int .i64 (k:Int)]∧Mem w wl [oI 30 3 A5 (rR s t k).length cap5 ((rR s t k).flatMap kN),oI 30 3 A4 (rQ s t k).length cap4 ((rQ s t k).flatMap kN),bI g2 [.int .i64 t.a.x,.int .i64 t.a.y,.int .i64 t.a.z,.int .i64 t.b.x,.int .i64 t.b.y,.int .i64 t.b.z,.int .i64 t.c.x,.int .i64 t.c.y,.int .i64 t.c.z] 39,bI g1 [.int .i64 s.a.x,.int .i64 s.a.y,.int .i64 s.a.z,.int .i64 s.b.x,.int .i64 s.b.y,.int .i64 s.b.z,.int .i64 s.c.x,.int .i64 s.c.y,.int .i64 s.c.z] 39]∧(k≤3)∧(n=3-k)) ?_ ?_
 · skip
   apply Exists.intro;simp only[zQ,zR,zD,zE];exact⟨0,_,_,_,_,rfl,m,by omega,rfl⟩
 · intro n vs wr hI u K1 hK1
   clear m;obtain⟨k,A4,A5,cap4,cap5,rfl,m,hk,hn⟩:=hI;simp only[zu,zF,zG];refine aW 6 [0,0] m ?_;simp only[↓aD];intro u m;refine bG rfl (fun hc1=>?_) (fun hc1=>?_)
   · skip
     have hk3:k<3:=by omega
     refine aW 4 [0] m ?_;simp only[↓aD];intro u m;refine mq m aB (by kernel_rfl) (aJ aH ?_);simp only[zz];refine aJ (aI cH aA rfl rfl (by omega) (by omega) (mN (ai _))) ?_;simp only[zz];refine ql rfl (fun u m=>(show fL _ _ _ _ (pt (s.cor k)) from (Yc (m.b 3 rfl) hk3).lies aG aA)) ?_;simp only[zz];refine ql rfl (fun u m=>((m.b 2 rfl).full bV aL)) ?_;simp only[zz];refine eR rfl rfl (ale (t:=t) (p:=s.cor k)) (aJ aM (bD ?_));clear m;intro u m;refine cP 4 [0] m ?_;simp only[↓aD];intro u m;refine cN rfl (fun hc2=>?_) (fun hc2=>?_)
     · skip
       refine aW 3 [0] m ?_;simp only[↓aD];intro u m;refine aC (aI cH aA rfl rfl (by omega) (by omega) (mN (ai _))) ?_;simp only[zz];refine aQ rfl (show fL _ _ _ _ (pt (s.cor k)) from (Yc (m.b 3 rfl) hk3).lies aG aA) ?_;simp only[zz];refine kY rfl ?_;intro u g3 e hg hB;replace m:=m.newB e hg hB;clear e hg hB;simp only[zz];refine bQ m 2 rfl rfl cX nG rfl (by decide) rfl rfl rfl (m.b 0 rfl).rowsO (fW rfl) (by have:=Nd s t k;omega) (by have:=Nd s t k;omega) ?_;clear m;intro A4 cap4 u m;simp only[zF,zG] at m;rw[show (rQ s t k).flatMap kN++_=(rQ s t (k+1)).flatMap kN by rw[rS hk3,hc2,ba];rfl,show (rQ s t k).length+1=(rQ s t (k+1)).length by rw[rS hk3,hc2,aw];rfl] at m;rw[show (rQ s t k).length+1=(rQ s t (k+1)).length by rw[rS hk3,hc2,aw];rfl];refine aS 8 [0] m ?_;simp only[↓aD];refine⟨by omega,?_⟩;intro u m;have he:rR s t (k+1)=rR s t k:=by rw[rT hk3,hc2,if_pos rfl,fb]
       rw[←he] at m ⊢;refine hK1 (3-(k+1)) _ _ ?_ ?_ ?_
       · omega
       · simp only[zz,zv]
       · simp only[zQ,zR,zD,zE]
         exact⟨k+1,_,_,_,_,rfl,(m.sel [false,true,true,true,true]),by omega,rfl⟩
     · skip
       refine aW 3 [0] m ?_;simp only[↓aD];intro u m;refine aC (aI cH aA rfl rfl (by omega) (by omega) (mN (ai _))) ?_;simp only[zz];refine aQ rfl (show fL _ _ _ _ (pt (s.cor k)) from (Yc (m.b 3 rfl) hk3).lies aG aA) ?_;simp only[zz];refine kY rfl ?_;intro u g3 e hg hB;replace m:=m.newB e hg hB;clear e hg hB;simp only[zz];refine bQ m 1 rfl rfl cX nG rfl (by decide) rfl rfl rfl (m.b 0 rfl).rowsO (fW rfl) (by have:=Nf s t k;omega) (by have:=Nf s t k;omega) ?_;clear m;intro A5 cap5 u m;simp only[zF,zG] at m;rw[show (rR s t k).flatMap kN++_=(rR s t (k+1)).flatMap kN by rw[rT hk3,hc2,ba];rfl,show (rR s t k).length+1=(rR s t (k+1)).length by rw[rT hk3,hc2,aw];rfl] at m;rw[show (rR s t k).length+1=(rR s t (k+1)).length by rw[rT hk3,hc2,aw];rfl];refine aS 8 [0] m ?_;simp only[↓aD];refine⟨by omega,?_⟩;intro u m;have he:rQ s t (k+1)=rQ s t k:=by rw[rS hk3,hc2,if_neg et,fb]
       rw[←he] at m ⊢;refine hK1 (3-(k+1)) _ _ ?_ ?_ ?_
       · omega
       · simp only[zz,zv]
       · simp only[zQ,zR,zD,zE]
         exact⟨k+1,_,_,_,_,rfl,(m.sel [false,true,true,true,true]),by omega,rfl⟩
   · skip
     obtain rfl:k=3:=by omega
     refine aW 9 [] m ?_;simp only[↓aD];intro u m;exact wU rfl rfl rfl (⟨_,rfl,m.ext,_,_,_,_,_,_,rfl,rfl,rfl,m.sel [true,true,false,false]⟩)
theorem aaW{s t:T3}[IT s][IT t]:dL prog 138 [tr s,tr t] (.bool (uL s t||uL t s)):=by
 intro w;refine⟨am2,?_⟩;have m:=Mem.refl w
 go_enter func138,ntmps138
 refine eC 25 [4,1,0] m ?_;simp only[↓aD];intro g1 g2;refine⟨by omega,?_⟩;intro u m;refine mq m aB (by kernel_rfl) (eM 5 [1] ?_);simp only[↓aD,bM,aO,ad,ag,aa,ak];refine⟨by omega,?_⟩;refine aJ (eG (m:=1) (n:=3) (r:=1) rfl rfl (by decide) (by decide)) (eM 3 [1,0] ?_);simp only[↓aD,bM,aO,dQ,ad,ag,aa];refine⟨by omega,?_⟩;refine eR rfl rfl (mV (p:=s.a) (q:=s.b) (t:=t)) (aJ aM (bD ?_));clear m;intro u m;refine cP 1 [0] m ?_;simp only[↓aD];intro u m;refine mq m aB (by kernel_rfl) (eM 5 [0] ?_);simp only[↓aD,bM,aO,ad,ag,aa,ak];refine⟨by omega,?_⟩;refine aJ (eG (m:=1) (n:=3) (r:=1) rfl rfl (by decide) (by decide)) (eM 3 [0,1] ?_);simp only[↓aD,bM,aO,dQ,ad,ag,aa];refine⟨by omega,?_⟩;refine eR rfl rfl (mV (p:=t.a) (q:=t.b) (t:=s)) (aJ aM (bD ?_));clear m;intro u m;refine cP 4 [0] m ?_;simp only[↓aD];intro u m;refine bC rfl (fun hb=>aH) (aC (cF rfl rfl rfl) ?_);refine aS 1 [0] m ?_;simp only[↓aD];intro u m;refine cN rfl (fun hc2=>?_) (fun hc2=>?_)
 · skip
   have h0:=hc2;refine aW 5 [] m ?_;simp only[↓aD];intro u m;refine aR rfl rfl ?_;try simp only[zD,zE]
   exact⟨_,rfl,m.ext,by unfold uL;rcases dm _ _ |>.mp h0 with h | h <;> simp[h]⟩
 · skip
   have h0:=hc2;refine jF 19 [1,0] m ?_;simp only[↓aD,ak];refine⟨by omega,?_⟩;rintro u m rfl;refine mq m aB (by kernel_rfl) (eM 5 [1] ?_);simp only[↓aD,bM,aO,ad,ag,aa,ak];refine⟨by omega,?_⟩;refine aJ (eG (m:=2) (n:=3) (r:=2) rfl rfl (by decide) (by decide)) (eM 3 [1,0] ?_);simp only[↓aD,bM,aO,dQ,ad,ag,aa];refine⟨by omega,?_⟩;refine eR rfl rfl (mV (p:=s.b) (q:=s.c) (t:=t)) (aJ aM (bD ?_));clear m;intro u m;refine lK 1 [0] m ?_;simp only[↓aD];rintro u m rfl;refine mq m aB (by kernel_rfl) (eM 5 [0] ?_);simp only[↓aD,bM,aO,ad,ag,aa,ak];refine⟨by omega,?_⟩;refine aJ (eG (m:=2) (n:=3) (r:=2) rfl rfl (by decide) (by decide)) (eM 3 [0,1] ?_);simp only[↓aD,bM,aO,dQ,ad,ag,aa];refine⟨by omega,?_⟩;refine eR rfl rfl (mV (p:=t.b) (q:=t.c) (t:=s)) (aJ aM (bD ?_));clear m;intro u m;refine lK 4 [0] m ?_;simp only[↓aD];rintro u m rfl;refine bC rfl (fun hb=>aH) (aC (cF rfl rfl rfl) ?_);refine Df 1 [0] m ?_;simp only[↓aD];rintro u m rfl;refine cN rfl (fun hc2=>?_) (fun hc2=>?_)
   · skip
     have h1:=hc2;refine jF 5 [] m ?_;simp only[↓aD];rintro u m rfl;refine aR rfl rfl ?_;try simp only[zD,zE]
     exact⟨_,rfl,m.ext,by unfold uL;rcases dm _ _ |>.mp h1 with h | h <;> simp[h]⟩
   · skip
     have h1:=hc2;refine jF 19 [1,0] m ?_;simp only[↓aD,ak];refine⟨by omega,?_⟩;rintro u m rfl;refine mq m aB (by kernel_rfl) (eM 5 [1] ?_);simp only[↓aD,bM,aO,ad,ag,aa,ak];refine⟨by omega,?_⟩;refine aJ (eG (m:=3) (n:=3) (r:=0) rfl rfl (by decide) (by decide)) (eM 3 [1,0] ?_);simp only[↓aD,bM,aO,dQ,ad,ag,aa];refine⟨by omega,?_⟩;refine eR rfl rfl (mV (p:=s.c) (q:=s.a) (t:=t)) (aJ aM (bD ?_));clear m;intro u m;refine lK 1 [0] m ?_;simp only[↓aD];rintro u m rfl;refine mq m aB (by kernel_rfl) (eM 5 [0] ?_);simp only[↓aD,bM,aO,ad,ag,aa,ak];refine⟨by omega,?_⟩;refine aJ (eG (m:=3) (n:=3) (r:=0) rfl rfl (by decide) (by decide)) (eM 3 [0,1] ?_);simp only[↓aD,bM,aO,dQ,ad,ag,aa];refine⟨by omega,?_⟩;refine eR rfl rfl (mV (p:=t.c) (q:=t.a) (t:=s)) (aJ aM (bD ?_));clear m;intro u m;refine lK 4 [0] m ?_;simp only[↓aD];rintro u m rfl;refine bC rfl (fun hb=>aH) (aC (cF rfl rfl rfl) ?_);refine Df 1 [0] m ?_;simp only[↓aD];rintro u m rfl;refine cN rfl (fun hc2=>?_) (fun hc2=>?_)
     · skip
       have h2:=hc2;refine jF 5 [] m ?_;simp only[↓aD];rintro u m rfl;refine aR rfl rfl ?_;try simp only[zD,zE]
       exact⟨_,rfl,m.ext,by unfold uL;rcases dm _ _ |>.mp h2 with h | h <;> simp[h]⟩
     · skip
       have h2:=hc2;refine jF 21 [2] m ?_;simp only[↓aD,ak];refine⟨by omega,?_⟩;rintro u m rfl;refine aR rfl rfl ?_;try simp only[zD,zE]
       exact⟨_,rfl,m.ext,by rw[fz] at h0 h1 h2;unfold uL;rw[h0.1,h0.2,h1.1,h1.2,h2.1,h2.2];rfl⟩
theorem afw{s t:T3}[IT s][IT t]:dL prog 81 [tr s,tr t] (.bool (mD s t)):=by
 intro w;refine⟨arC,?_⟩;have m:=Mem.refl w
 go_enter func81,ntmps81
 refine eC 6 [] m ?_;simp only[↓aD];intro g1 g2;intro u m;refine cP 4 [1,0,0] m ?_;simp only[↓aD,dQ];intro u m;refine bJ rfl rfl (Rc (s:=s) (t:=t) _) ?_;rintro v u e ⟨A5,n5,c5,A6,n6,c6,rfl,hn5,hn6,hM⟩;replace m:=m.plus hM;clear hM e;simp only[ci,cd] at m;refine aS 10 [2,3,0] m ?_;simp only[↓aD,dQ];intro u m;refine bJ rfl rfl (Rc (s:=t) (t:=s) _) ?_;rintro v u e ⟨A7,n7,c7,A8,n8,c8,rfl,hn7,hn8,hM⟩;replace m:=m.plus hM;clear hM e;simp only[ci,cd] at m;refine aS 9 [5,0] m ?_;simp only[↓aD,dQ];intro u m;refine mW m rfl rfl (Ho (t:=s)) 5 [4,0] ?_;simp only[↓aD,dQ];intro u m;refine mW m rfl rfl (Ho (t:=t)) 9 [0,0] ?_;simp only[↓aD,mQ];intro u m;refine bC rfl (fun hb=>aH) (aC (cF rfl rfl rfl) ?_);refine aS 1 [0] m ?_;simp only[↓aD];intro u m;refine bC rfl (fun hb=>aH) (aC (cF rfl rfl rfl) ?_);refine aS 1 [0] m ?_;simp only[↓aD];intro u m;refine cN rfl (fun hc1=>?_) (fun hc1=>?_)
 · skip
   rw[tA,tA] at hc1;refine aW 4 [5,4,0] m ?_;simp only[↓aD,dQ];intro u m;refine mW m rfl rfl (aaW (s:=s) (t:=t)) 3 [] ?_;simp only[↓aD];intro u m;refine aR rfl rfl ?_;try simp only[zD,zE]
   exact⟨_,rfl,m.ext,by rw[aiN hn5 hc1]⟩
 · skip
   rw[tA,tA] at hc1;obtain⟨⟨hz,hf1,hf2⟩,hme⟩:=aiO hn5 hc1;refine aW 3 [] m ?_;simp only[↓aD];intro u m;rcases Rb hf1 hf2 hz with ⟨xa,ua,ub,va,vb,h1,h2,h3⟩ | ⟨xa,xb,ua,va,h1,h2,h3⟩ | h1
   · skip
     rw[h1] at hn5;rw[h2] at hn6;rw[h3] at hn8;have i1:I3 ua:=sC (i:=0) h2 rfl;have i2:I3 ub:=sC (i:=1) h2 rfl;have i3:I3 va:=sC (i:=0) h3 rfl;have i4:I3 vb:=sC (i:=1) h3 rfl;simp only[ay,bu] at hn5 hn6 hn8;subst hn5;subst hn6;subst hn8;rw[h1,h2,h3] at m;obtain⟨g5,rfl⟩:=(m.o 3 rfl).some (by decide);obtain⟨g6,rfl⟩:=(m.o 2 rfl).some (by decide);obtain⟨g8,rfl⟩:=(m.o 0 rfl).some (by decide);refine lK 12 [1,0] m ?_;simp only[↓aD,mQ];refine⟨by omega,?_⟩;rintro u m rfl;refine mq m aB (by kernel_rfl) (aJ aH ?_);simp only[zz];refine aJ (aF cX aA rfl rfl (by decide) (by omega) rfl) ?_;simp only[zz];refine ql rfl (fun u m=>(((m.o 2 rfl).at (enc:=kN) (i:=0) xK rfl).lies aG aA)) ?_;simp only[zz];refine aJ aH ?_;simp only[zz];refine aJ (aF cX aA rfl rfl (by decide) (by omega) rfl) ?_;simp only[zz];refine ql rfl (fun u m=>(((m.o 2 rfl).at (enc:=kN) (i:=1) xK rfl).lies aG aA)) ?_;simp only[zz];refine ql rfl (fun u m=>((m.b 4 rfl).full bV aL)) ?_;simp only[zz];refine eR rfl rfl (mV (p:=ua) (q:=ub) (t:=t)) (aJ aM (bD ?_));clear m;intro u m;refine lK 1 [0] m ?_;simp only[↓aD];rintro u m rfl;refine mq m aB (by kernel_rfl) (aJ aH ?_);simp only[zz];refine aJ (aF cX aA rfl rfl (by decide) (by omega) rfl) ?_;simp only[zz];refine ql rfl (fun u m=>(((m.o 0 rfl).at (enc:=kN) (i:=0) xK rfl).lies aG aA)) ?_;simp only[zz];refine aJ aH ?_;simp only[zz];refine aJ (aF cX aA rfl rfl (by decide) (by omega) rfl) ?_;simp only[zz];refine ql rfl (fun u m=>(((m.o 0 rfl).at (enc:=kN) (i:=1) xK rfl).lies aG aA)) ?_;simp only[zz];refine ql rfl (fun u m=>((m.b 5 rfl).full bV aL)) ?_;simp only[zz];refine eR rfl rfl (mV (p:=va) (q:=vb) (t:=s)) (aJ aM (bD ?_));clear m;intro u m;refine lK 4 [0] m ?_;simp only[↓aD];rintro u m rfl;refine bC rfl (fun hb=>aH) (aC (cF rfl rfl rfl) ?_);refine Df 3 [] m ?_;simp only[↓aD];rintro u m rfl;refine aR rfl rfl ?_;try simp only[zD,zE]
     exact⟨_,rfl,m.ext,by rw[hme,h1,h2,h3];rfl⟩
   · skip
     rw[h1] at hn5;rw[h2] at hn6;rw[h3] at hn8;have i1:I3 xa:=Yb (i:=0) h1 rfl;have i2:I3 xb:=Yb (i:=1) h1 rfl;have i3:I3 ua:=sC (i:=0) h2 rfl;have i4:I3 va:=sC (i:=0) h3 rfl;simp only[ay,bu] at hn5 hn6 hn8;subst hn5;subst hn6;subst hn8;rw[h1,h2,h3] at m;obtain⟨g5,rfl⟩:=(m.o 3 rfl).some (by decide);obtain⟨g6,rfl⟩:=(m.o 2 rfl).some (by decide);obtain⟨g8,rfl⟩:=(m.o 0 rfl).some (by decide);refine lK 18 [2,1,0] m ?_;simp only[↓aD,mQ];refine⟨by omega,?_⟩;rintro u m rfl;refine eD 11 [0,1,2,3,4,5,6,7,8,9] [⟨10,13,36,[.int .i64 0,.int .i64 0,.int .i64 0]⟩] aB (by kernel_rfl) (al1 ⟨_,_,_,rfl,by kernel_rfl,_,Cc,rfl⟩) (ol:=?_) ?hol ?_
     case hol=>simp only[zw,zQ,zR];try rfl
     intro u e;replace m:=m.ext' e;clear e;refine iR aH ?_;simp only[zz];refine iR (aF cX aA rfl rfl (by decide) (by omega) rfl) ?_;simp only[zz];refine eB rfl (fun u e=>((((m.ext' e).o 3 rfl).at (enc:=kN) (i:=0) xK rfl).lies aG aA)) ?_;simp only[zz];refine iR aH ?_;simp only[zz];refine iR (aF cX aA rfl rfl (by decide) (by omega) rfl) ?_;simp only[zz];refine eB rfl (fun u e=>((((m.ext' e).o 3 rfl).at (enc:=kN) (i:=1) xK rfl).lies aG aA)) ?_;simp only[zz];refine iR aH ?_;simp only[zz];refine iR (aF cX aA rfl rfl (by decide) (by omega) rfl) ?_;simp only[zz];refine eB rfl (fun u e=>((((m.ext' e).o 2 rfl).at (enc:=kN) (i:=0) xK rfl).lies aG aA)) ?_;simp only[zz];refine eO rfl rfl (gY (a:=xa) (b:=xb) (c:=ua)) (yM ?_);simp only[zz];refine mf1 m ?_;clear m;intro g3 u m;simp only[zJ,zK,zF,zG];refine bR m 0 rfl rfl rfl jE (iS rfl) rfl ?_;clear m;intro u m;simp only[zy,zx,cA,zF,zG,aa] at m;refine aK (lK 1 [0] m ?_);simp only[↓aD];rintro u m rfl;refine eD 11 [0,1,2,3,4,5,6,7,8,9] [⟨10,14,36,[.int .i64 0,.int .i64 0,.int .i64 0]⟩] aB (by kernel_rfl) (al1 ⟨_,_,_,rfl,by kernel_rfl,_,Cc,rfl⟩) (ol:=?_) ?hol ?_
     case hol=>simp only[zw,zQ,zR];try rfl
     intro u e;replace m:=m.ext' e;clear e;refine iR aH ?_;simp only[zz];refine iR (aF cX aA rfl rfl (by decide) (by omega) rfl) ?_;simp only[zz];refine eB rfl (fun u e=>((((m.ext' e).o 4 rfl).at (enc:=kN) (i:=0) xK rfl).lies aG aA)) ?_;simp only[zz];refine iR aH ?_;simp only[zz];refine iR (aF cX aA rfl rfl (by decide) (by omega) rfl) ?_;simp only[zz];refine eB rfl (fun u e=>((((m.ext' e).o 4 rfl).at (enc:=kN) (i:=1) xK rfl).lies aG aA)) ?_;simp only[zz];refine iR aH ?_;simp only[zz];refine iR (aF cX aA rfl rfl (by decide) (by omega) rfl) ?_;simp only[zz];refine eB rfl (fun u e=>((((m.ext' e).o 1 rfl).at (enc:=kN) (i:=0) xK rfl).lies aG aA)) ?_;simp only[zz];refine eO rfl rfl (gY (a:=xa) (b:=xb) (c:=va)) (yM ?_);simp only[zz];refine mf1 m ?_;clear m;intro g4 u m;simp only[zJ,zK,zF,zG];refine bR m 0 rfl rfl rfl jE (iS rfl) rfl ?_;clear m;intro u m;simp only[zy,zx,cA,zF,zG,aa] at m;refine aK (lK 1 [0] m ?_);simp only[↓aD];rintro u m rfl;refine mq m aB (by kernel_rfl) (aJ aH ?_);simp only[zz];refine aJ (aF cX aA rfl rfl (by decide) (by omega) rfl) ?_;simp only[zz];refine ql rfl (fun u m=>(((m.o 5 rfl).at (enc:=kN) (i:=0) xK rfl).lies aG aA)) ?_;simp only[zz];refine aJ aH ?_;simp only[zz];refine aJ (aF cX aA rfl rfl (by decide) (by omega) rfl) ?_;simp only[zz];refine ql rfl (fun u m=>(((m.o 5 rfl).at (enc:=kN) (i:=1) xK rfl).lies aG aA)) ?_;simp only[zz];refine aJ aH ?_;simp only[zz];refine aJ (aF cX aA rfl rfl (by decide) (by omega) rfl) ?_;simp only[zz];refine ql rfl (fun u m=>(((m.o 4 rfl).at (enc:=kN) (i:=0) xK rfl).lies aG aA)) ?_;simp only[zz];refine aJ aH ?_;simp only[zz];refine aJ (aF cX aA rfl rfl (by decide) (by omega) rfl) ?_;simp only[zz];refine ql rfl (fun u m=>(((m.o 2 rfl).at (enc:=kN) (i:=0) xK rfl).lies aG aA)) ?_;simp only[zz];refine eR rfl rfl (mU (a:=xa) (b:=xb) (c:=ua) (d:=va)) (aJ (Sw rfl rfl) (aJ aH ?_));simp only[zz];refine dX rfl (fun hb u m=>aU rfl ((m.b 1 rfl).full vF jE)) (dX rfl (fun hb u m=>aU rfl ((m.b 0 rfl).full vF jE)) (cM rfl (fun hb=>Cg (aV hb rfl) (aV hb rfl)) (aJ (bU rfl rfl rfl) (aJ aM (bD ?_)))));clear m;intro u m;refine lK 1 [] m ?_;simp only[↓aD];rintro u m rfl;refine aR rfl rfl ?_;try simp only[zD,zE]
     exact⟨_,rfl,m.ext,by rw[hme,h1,h2,h3];exact congrArg bw aiQ⟩
   · skip
     rw[h1] at hn5;subst hn5;refine lK 24 [2,2] m ?_;simp only[↓aD,mQ];refine⟨by omega,?_⟩;rintro u m rfl;refine aR rfl rfl ?_;try simp only[zD,zE]
     exact⟨_,rfl,m.ext,by rw[hme,aiR h1]⟩
theorem afx{w:aj}{A:Option Addr}{N:Nat}{ts:List T3}(h:bP w A N ts)(hA:A.isNone=true):ts=[]:=by
 cases A with
 | some a=>cases hA
 | none =>
  cases ts with
  | nil=>rfl
  | cons t ts =>
   obtain⟨a,e,_⟩:=h.row 0 t rfl;cases e
theorem aiS{ts:List T3}{N cap:Nat}{A:Option Addr}(w:aj)(hT:bP w A N ts)(hN:N≤10000000):dJ prog 169 [.slice A N cap] w (SL 39 9 (ts.flatMap aN) ts.length w):=by
 refine⟨anc,?_⟩;have m:=Mem.refl w;have htl:=hT.len
 go_enter func169,ntmps169
 refine eC 8 [0] m ?_;simp only[↓aD];intro u m;refine aC (Yu cC rfl rfl) (aS 1 [0] m ?_);simp only[↓aD];intro u m;refine cN rfl (fun hc1=>?_) (fun hc1=>?_)
 · skip
   obtain rfl:=afx hT hc1;refine aW 5 [] m ?_;simp only[↓aD];intro u m;exact aR rfl rfl (⟨_,rfl,m.ext,⟨none,0,0,rfl,rfl,Ow.nil _ _ _ _⟩⟩)
 · skip
   refine aW 3 [0] m ?_;simp only[↓aD];intro u m;refine Yv cC (c:=9) (by kernel_rfl)  ?_;intro u g1 e hg hB;replace m:=m.newB e hg hB;clear e hg hB;simp only[zz];replace m:=m.own 0 rfl (n:=0) (c:=9) rfl (iS rfl);simp only[zG] at m;refine aS 1 [0] m ?_;simp only[↓aD];intro u m;refine bQ m 0 rfl rfl cC kA rfl (by decide) rfl rfl (by rw[Gm,hT.len]) (bP.cells (hT.ext m.ext)) (Of _) (by omega) (by omega) ?_;clear m;intro A5 cap5 u m;simp only[zF,zG] at m;simp only[ar,cd] at m ⊢;refine aS 3 [] m ?_;simp only[↓aD];intro u m;exact aR rfl rfl (⟨_,rfl,m.ext,⟨_,_,_,htl.symm,rfl,(m.o 0 rfl)⟩⟩)
end Go.Proofs.YtfekpcimgncioaaGreatDoor
namespace Go.Lith
open Go.RowKit
theorem Re{l ys:List P3}(hn:l.Nodup)(h:ys.Perm l)(hs:ys.Pairwise fun a b=>¬b.Lt a):ys=yO l:=by
 have h1:ys.Pairwise P3.Lt:=(hs.and (h.nodup_iff.2 hn)).imp fun {a b} k=>by
  rcases P3.lt_tri a b with e | e | e
  · exact e
  · exact absurd e k.2
  · exact absurd e k.1
 exact xN P3.lt_irrefl (fun _ _ _=>P3.lt_trans) h1 (sY hn) fun p=>by rw[h.mem_iff,(oJ l).mem_iff]
def kT(t:T3):T3:=match pS t with
 | [a,b,c]=>⟨a,b,c⟩
 | _=>t
theorem Ye(t:T3):pS t=[(kT t).a,(kT t).b,(kT t).c]:=by
 have h:(pS t).length=3:=(oJ _).length_eq;unfold kT;generalize pS t=L at h;rcases L with _ | ⟨a,_ | ⟨b,_ | ⟨c,_ | ⟨d,L⟩⟩⟩⟩ <;> simp only[ay,bu] at h <;> first | omega | rfl
theorem aiT{s t:T3}:kT s=kT t↔pS s=pS t:=by
 rw[Ye s,Ye t];constructor
 · intro h;rw[h]
 · intro h
   simp only[List.cons.injEq,and_true] at h;obtain⟨a,b,c⟩:=h;cases hs:kT s;cases ht:kT t;simp only[hs,ht] at a b c;rw[a,b,c]
theorem aaX{l:List T3}:(l.map kT).Nodup↔(l.map pS).Nodup:=by
 unfold List.Nodup;rw[jo,jo];exact⟨fun h=>h.imp fun k e=>k (aiT.2 e),fun h=>h.imp fun k e=>k (aiT.1 e)⟩
theorem Rf{t:T3}(h:t.nd=true):[t.a,t.b,t.c].Nodup:=by
 obtain⟨h1,h2,h3⟩:=(Ex (t:=t)).1 h;simp only[gd,ao,bz,or_false,not_or,not_false_eq_true,jv,and_true];exact⟨⟨h1,fun e=>h3 e.symm⟩,h2⟩
theorem ap5{L:List T3}{k:Nat}{t:T3}(ht:L[k]? = some t)(h:kT t∈(L.take k).map kT):decide ((L.map pS).Nodup)=false:=by
 rw[decide_eq_false_iff_not,←aaX];intro hn;obtain⟨s,hs,e⟩:=df.1 h;obtain⟨j,hj⟩:=cv.1 hs;rw[eh] at hj;split at hj
 · rename_i hjk
   have h1:(L.map kT)[j]? = some (kT t):=by rw[fj,hj];exact congrArg some e
   have h2:(L.map kT)[k]? = some (kT t):=by rw[fj,ht];rfl
   obtain⟨a1,a2⟩:=aq.1 h1;obtain⟨b1,b2⟩:=aq.1 h2;have:=(lx hn).1 (a2.trans b2.symm);omega
 · cases hj
theorem alf{L:List T3}{k:Nat}{t:T3}(ht:L[k]? = some t)(hn:((L.take k).map kT).Nodup)(h:kT t∉(L.take k).map kT):((L.take (k+1)).map kT).Nodup:=by
 rw[bX ht,cl];exact List.nodup_append.2 ⟨hn,by simp,fun a ha b hb e=>h (by rw[bf.1 hb] at e;exact e▸ha)⟩
end Go.Lith
namespace Go.Proofs.YtfekpcimgncioaaGreatDoor
open Go.Proofs.Tryz
open Go.RowKit Go.Lith
set_option maxRecDepth 100000
attribute [local irreducible] au cg fR bO cO Code.wp
attribute [local congr] pL fX fY fZ gA gB kI gC gD gE gF gG gH gI gJ gK gL gM eS eT gN gQ gS gT gU kK dC dD cR dB gR kJ eV eW eX gW gX kL
theorem aiU{w:aj}{A:Option Addr}{N:Nat}{ps:List P3}(h:Dg bN 3 w A N ps)(hA:A.isNone=true):ps=[]:=by
 cases A with
 | some a=>cases hA
 | none =>
  cases ps with
  | nil=>rfl
  | cons t ts =>
   obtain⟨a,e,_⟩:=h.row 0 t rfl;cases e
theorem atn{w:aj}{g:Nat}{t:T3}{T:an}(h:fK w g (aN t) T):Dg bN 3 w (some ⟨g,0,none⟩) 3 [t.a,t.b,t.c]:=⟨rfl,fun i x hx=>by
 refine⟨⟨g,0,none⟩,rfl,?_⟩;rcases i with _ | _ | _ | i <;> simp at hx <;> subst hx
 · exact (h.row 0).take 3
 · exact (h.row 3).take 3
 · exact (h.row 6).take 3⟩
theorem aiV{ps:List P3}{N cap:Nat}{A:Option Addr}(w:aj)(hT:Dg bN 3 w A N ps)(hN:N≤10000000):dJ prog 170 [.slice A N cap] w (SL 30 3 (ps.flatMap bN) ps.length w):=by
 refine⟨ane,?_⟩;have m:=Mem.refl w;have htl:=hT.len
 go_enter func170,ntmps170
 refine eC 8 [0] m ?_;simp only[↓aD];intro u m;refine aC (Yu cX rfl rfl) (aS 1 [0] m ?_);simp only[↓aD];intro u m;refine cN rfl (fun hc1=>?_) (fun hc1=>?_)
 · skip
   obtain rfl:=aiU hT hc1;refine aW 5 [] m ?_;simp only[↓aD];intro u m;exact aR rfl rfl (⟨_,rfl,m.ext,⟨none,0,0,rfl,rfl,Ow.nil _ _ _ _⟩⟩)
 · skip
   refine aW 3 [0] m ?_;simp only[↓aD];intro u m;refine Yv cX (c:=3) (by kernel_rfl)  ?_;intro u g1 e hg hB;replace m:=m.newB e hg hB;clear e hg hB;simp only[zz];replace m:=m.own 0 rfl (n:=0) (c:=3) rfl (iS rfl);simp only[zG] at m;refine aS 1 [0] m ?_;simp only[↓aD];intro u m;refine bQ m 0 rfl rfl cX nG rfl (by decide) rfl rfl (by rw[show (ps.flatMap kN).length=ps.length*3 from ag3,hT.len]) ((hT.ext m.ext).cells xK (by decide)) (Oo _) (by omega) (by omega) ?_;clear m;intro A5 cap5 u m;simp only[zF,zG] at m;simp only[ar,cd] at m ⊢;refine aS 3 [] m ?_;simp only[↓aD];intro u m;exact aR rfl rfl (⟨_,rfl,m.ext,⟨_,_,_,htl.symm,rfl,(m.o 0 rfl)⟩⟩)
theorem ad9{w0 w:aj}{is:List It}{A:Option Addr}{n cap:Nat}{xs:List P3}(m:Mem w0 w is)(k:Nat)(hi:is[k]? = some (oI 30 3 A n cap (xs.flatMap bN)))(hsz:n<4611686018427387904) :
 Calls prog 128 [.slice A n cap,.func (.func 70) #[] #[]].toArray w fun e w'=>∃v i,e=.returned v∧Mem w0 w' (is.set k i)∧(v=.tuple #[]∧∃ys:List P3,i=oI 30 3 A n cap (ys.flatMap bN)∧ys.Perm xs∧ys.Pairwise fun a b=>¬b.Lt a) :=
 (Au (enc:=bN) Tryz.sort128 (fun w=>oZ aG w) (fun w=>eH aA w) (fun _=>rfl) (by decide) Li pZ aab (fun x y=>Qu) m k hi hsz).mono (by
  rintro e w' ⟨v,i,h1,h2,h3,ys,h4,h5,h6⟩;exact⟨v,i,h1,h2,h3,ys,h4,h5,h6.imp fun h=>by simpa[Go.Proofs.ltOf,lP] using h⟩)
theorem amj:rY prog 38 tr:=by
 refine rY.agg (cs:=fun p=>#[.int .i64 p.a.x,.int .i64 p.a.y,.int .i64 p.a.z,.int .i64 p.b.x,.int .i64 p.b.y,.int .i64 p.b.z,.int .i64 p.c.x,.int .i64 p.c.y,.int .i64 p.c.z]) (fun _=>rfl) underlying38 (fun e p=>?_) (fun p q=>?_) (fun p=>?_)
 · refine vR.array (d:=9999) underlying38 aA fun i hi=>?_
   obtain rfl | rfl | rfl:=(by omega:i=0∨i=1∨i=2)
   · refine⟨_,cQ aG aA rfl,?_⟩
     refine vR.struct (d:=9998) fJ fun f hf=>?_;simp only[ao,bz,or_false] at hf;rcases hf with rfl | rfl | rfl
     · exact⟨_,cW bE rfl,vR.int (d:=9997) iW⟩
     · exact⟨_,cW bE rfl,vR.int (d:=9997) iW⟩
     · exact⟨_,cW bE rfl,vR.int (d:=9997) iW⟩
   · refine⟨_,cQ aG aA rfl,?_⟩
     refine vR.struct (d:=9998) fJ fun f hf=>?_;simp only[ao,bz,or_false] at hf;rcases hf with rfl | rfl | rfl
     · exact⟨_,cW bE rfl,vR.int (d:=9997) iW⟩
     · exact⟨_,cW bE rfl,vR.int (d:=9997) iW⟩
     · exact⟨_,cW bE rfl,vR.int (d:=9997) iW⟩
   · refine⟨_,cQ aG aA rfl,?_⟩
     refine vR.struct (d:=9998) fJ fun f hf=>?_;simp only[ao,bz,or_false] at hf;rcases hf with rfl | rfl | rfl
     · exact⟨_,cW bE rfl,vR.int (d:=9997) iW⟩
     · exact⟨_,cW bE rfl,vR.int (d:=9997) iW⟩
     · exact⟨_,cW bE rfl,vR.int (d:=9997) iW⟩
 · exact (aoD _).iff ⟨fun h=>Ev (P3.eq h.1 h.2.1 h.2.2.1) (P3.eq h.2.2.2.1 h.2.2.2.2.1 h.2.2.2.2.2.1) (P3.eq h.2.2.2.2.2.2.1 h.2.2.2.2.2.2.2.1 h.2.2.2.2.2.2.2.2),fun h=>by subst h;simp only[and_self]⟩
 · simp[tr,Instr.sameBits]
theorem afy{g90 g91 ga gf gx gy N cap cx cy cf nm cm no co nr cr:Nat}{A Am Ao Ar:Option Addr}{ex ey ef:Array b_}{X Y F:List (P3 × Bool)}{ts:List T3}{p q:P3}{ms rs:List T3}(w:aj)(hB91:fK w g91 [.pointer (some ⟨g90,0,none⟩),.int .i64 p.x,.int .i64 p.y,.int .i64 p.z,.int .i64 q.x,.int .i64 q.y,.int .i64 q.z,.map (some gx),.map (some gy),.slice Am nm cm,.slice Ao no co,.slice Ar nr cr] 218)(hB90:fK w g90 [.slice A N cap,.map (some ga),.map (some gf)] 109)(hTm:bP w Am nm ms)(hTr:bP w Ar nr rs)(hnd:∀t∈ms++rs,t.nd=true)(hN:nm+nr≤10000000):dJ prog 102 [.pointer (some ⟨g91,0,none⟩)] w (fun v _=>v=.bool (decide (((ms++rs).map pS).Nodup))):=by
 refine⟨amB,?_⟩;have m:=Mem.refl w;have htm:=hTm.len;have htr:=hTr.len;have hit:∀t∈ms++rs,IT t:=fun t ht=>(bt.1 ht).elim (hTm.it t) (hTr.it t)
 go_enter func102,ntmps102
 refine eC 6 [0] m ?_;simp only[↓aD];intro u m;refine lO m ?_;clear m;intro q8 u m;have hD8:=bL.nil (K:=T3) (V:=Bool) tr bw;refine aS 4 [0] m ?_;simp only[↓aD];intro u m;refine mh m [true] [(0,true),(1,true),(2,true),(5,true),(6,true),(7,true),(11,true),(3,true),(8,true),(4,false),(9,false),(10,true)] aB (by kernel_rfl) (bT (fun _ _ _ _ _ h=>h)) (ol:=?_) ?hol ?_
 case hol=>simp only[zw,zQ,zR];try rfl
 clear m;intro u m;refine Oi 7 [] ?_;simp only[↓aD,Hk,Qg,aa];refine eN rfl (fun u m=>((hB91.ext m.ext).lies1 rV rfl)) ?_;simp only[zz];refine eN rfl (fun u m=>((hB91.ext m.ext).lies1 rV rfl)) ?_;simp only[zz];refine bK (bJ rfl rfl (aiS (ts:=ms) _ (hTm.ext m.ext) (by omega)) ?_);rintro v u e ⟨A5,cap5,n5,hn5,rfl,hN⟩;replace m:=m.newO e hN;clear e hN;refine aK (⟨m.sel [false,true],?_⟩);refine bK ?_;simp only[zz];refine bQ m 0 rfl rfl cC kA rfl (by decide) rfl rfl (by rw[Gm,hTr.len]) (bP.cells (hTr.ext m.ext)) (Of _) (by omega) (by omega) ?_;clear m;intro A5 cap5 u m;simp only[zF,zG] at m;rw[←ba] at m;refine aK (⟨m.sel [false,true],?_⟩);refine bB (Ip rfl cC rfl) (cK ?_);refine cP 1 [0] m ?_;simp only[↓aD];intro u m;refine cE [20] [2,5,6,7,21,22,23,24,25,26,27,28,29,30,31,32,33,34,35,36,37] (fun n vs wl=>∃(k:Nat) (es:Array b_) (c:Nat),vs=[.int .i64 (k:Int)]∧Mem w wl [oI 39 9 A5 (n5+nr) cap5 ((ms++rs).flatMap aN),mI q8 es c]∧(bL tr bw (fQ [] (((ms++rs).take k).map kT)) es c)∧((((ms++rs).take k).map kT).Nodup)∧(k≤n5+nr)∧(n=n5+nr-k)) ?_ ?_
 · skip
   apply Exists.intro;simp only[zQ,zR,zD,zE];exact⟨0,_,_,rfl,m,hD8,jv,br _,rfl⟩
 · intro n vs wr hI u K1 hK1
   clear m;obtain⟨k,es8,c8,rfl,m,hD8,hu,hk,hn⟩:=hI;simp only[zu,zF,zG];refine aW 5 [0,0] m ?_;simp only[↓aD];intro u m;refine bG rfl (fun hc1=>?_) (fun hc1=>?_)
   · skip
     obtain⟨t,ht,hti,a,hA5,hr5⟩:=((m.o 0 rfl).tris hit).get (i:=k) (by omega);subst hA5;refine jF 5 [0] m ?_;simp only[↓aD];rintro u m rfl;refine aC (aF cC aL rfl rfl (by omega) (by omega) (bZ (ai _))) ?_;simp only[zz];refine aQ rfl (hr5.lies bV aL) ?_;simp only[zz];refine aS 5 [0,0] m ?_;simp only[↓aD,kX,dQ,aa];intro g2;intro u m;refine aC (ait cH aA rfl) (aS 5 [0] m ?_);simp only[↓aD,reduceIte,Nat.reduceEqDiff,ag,aa];intro u m;refine bJ rfl rfl (aiV (ps:=[t.a,t.b,t.c]) _ (atn (m.b 0 rfl)) (by decide)) ?_;rintro v u e ⟨A6,cap6,n6,hn6,rfl,hN⟩;replace m:=m.newO e hN;clear e hN;obtain rfl:n6=3:=hn6;refine aS 5 [0] m ?_;simp only[↓aD];intro u m;refine lZ m 0 abv rfl rfl (fun m=>ad9 m 0 rfl (by decide)) ?_;clear m;rintro v i u m ⟨rfl,ys,rfl,hys,hso⟩;simp only[zF,zG] at m;simp only[zz];obtain rfl:ys=[(kT t).a,(kT t).b,(kT t).c]:=by rw[←Ye];exact Re (Rf (hnd t (bj ht))) hys hso
     obtain⟨g6,rfl⟩:=(m.o 0 rfl).some (by decide);refine aS 4 [0] m ?_;simp only[↓aD];intro u m;refine aC (afo underlying38 rfl (by decide)) ?_;simp only[zz];refine aQ rfl (show fL _ _ _ _ (tr (kT t)) from (m.o 0 rfl).rows.lies aoz agj) ?_;simp only[zz];refine aS 8 [0,0,0] m ?_;simp only[↓aD,ar5,alY,aa];intro g3;intro u m;refine fF (dZ (ek:=tr) (en:=bw) (k:=kT t) (v0:=false) underlying219 oB amj rfl rfl (m.p 4 rfl) hD8) ?_;simp only[zz];refine aS 1 [0] m ?_;simp only[↓aD];intro u m;refine cN rfl (fun hc2=>?_) (fun hc2=>?_)
     · skip
       rw[rH,decide_eq_true_eq] at hc2;refine aW 5 [] m ?_;simp only[↓aD];intro u m;refine aR rfl rfl ?_;try simp only[zD,zE]
       exact⟨_,rfl,m.ext,by rw[ap5 ht hc2]⟩
     · skip
       rw[rH,decide_eq_false_iff_not] at hc2;refine aW 4 [0,0] m ?_;simp only[↓aD,alY];intro u m;refine mY (ek:=tr) (en:=bw) (a:=kT t) (v:=true) m 4 rfl underlying219 amj rfl rfl rfl hD8 ?_;clear m;intro es8 c8 u m hD';clear hD8;have hD8:=hD';clear hD';simp only[zF,zG] at m;rw[←lX] at hD8;refine aS 6 [0] m ?_;simp only[↓aD];refine⟨by omega,?_⟩;intro u m;refine hK1 (n5+nr-(k+1)) _ _ ?_ ?_ ?_
       · omega
       · simp only[zz,zv]
       · simp only[zQ,zR,zD,zE]
         exact⟨k+1,_,_,rfl,(m.sel [false,false,false,true,true]),by rw[bX ht,cl];exact hD8,alf ht hu hc2,by omega,rfl⟩
   · skip
     obtain rfl:k=n5+nr:=by omega
     rw[show (ms++rs).take (n5+nr)=(ms++rs) from a_ (by rw[aw];omega)] at hu;refine aW 6 [] m ?_;simp only[↓aD];intro u m;refine aR rfl rfl ?_;try simp only[zD,zE]
     exact⟨_,rfl,m.ext,by rw[decide_eq_true (aaX.1 hu)]⟩
theorem aiW{g50 g51:Nat}{t r:T3}[IT t][IT r](w:aj)(hB50:fK w g50 [.int .i64 (Cn t 0),.int .i64 (Cn t 1),.int .i64 (Cn t 2),.int .i64 (Co t 0),.int .i64 (Co t 1),.int .i64 (Co t 2)] 222)(hB51:fK w g51 (aN t) 39):dJ prog 174 [tr r,.pointer (some ⟨g50,0,none⟩),.pointer (some ⟨g51,0,none⟩)] w (fun v _=>v=.bool (sF t r)):=by
 refine⟨ani,?_⟩;have m:=Mem.refl w
 go_enter func174,ntmps174
 refine eC 6 [0] m ?_;simp only[↓aD];intro g1;intro u m;refine mq m aB (by kernel_rfl) (ql rfl (fun u m=>((hB50.ext m.ext).full adf Sz)) ?_);simp only[zz];refine ql rfl (fun u m=>((m.b 0 rfl).full bV aL)) ?_;simp only[zz];refine eR rfl rfl (aaN (t:=r)) ?_;simp only[zz];refine eR rfl rfl (apY (t:=t) (r:=r)) (aJ aH ?_);simp only[zz];refine dX rfl (fun hb u m=>aU rfl ((m.b 0 rfl).full bV aL)) (dX rfl (fun hb u m=>aU rfl ((hB51.ext m.ext).full bV aL)) (Gq rfl rfl (fun hb=>by simp only[cz,bi,ck,zA,zB,zC,zD,zE,hb,iT];rfl) (fun hb=>ap4 (s:=r) (t:=t)) (aJ (bU rfl rfl rfl) (aJ aM (bD ?_)))));clear m;intro u m;refine cP 1 [] m ?_;simp only[↓aD];intro u m;exact aR rfl rfl (⟨_,rfl,m.ext,rfl⟩)
theorem aiX{ts:List T3}{N cap:Nat}{A:Option Addr}{g50 g51:Nat}{t:T3}[IT t](w:aj)(hB50:fK w g50 [.int .i64 (Cn t 0),.int .i64 (Cn t 1),.int .i64 (Cn t 2),.int .i64 (Co t 0),.int .i64 (Co t 1),.int .i64 (Co t 2)] 222)(hB51:fK w g51 (aN t) 39)(hT:bP w A N ts)(hN:N≤10000000):dJ prog 244 [.slice A N cap,.func (.func 174) #[] #[.pointer (some ⟨g50,0,none⟩),.pointer (some ⟨g51,0,none⟩)]] w (fun v _=>∃k:Int,v=.int .i64 k∧decide (0≤k)=ts.any (sF t)):=by
 refine⟨an3,?_⟩;have m:=Mem.refl w;have htl:=hT.len
 go_enter func244,ntmps244
 refine eC 12 [0] m ?_;simp only[↓aD,iU];intro u m;refine cE [8] [4,5,9,10,11,12,13,14,15,16,17,18] (fun n vs wl=>∃(k:Nat),vs=[.int .i64 (k:Int)]∧Mem w wl []∧(∀(j:Nat) (r:T3),j<k→ts[j]? = some r→sF t r=false)∧(k≤N)∧(n=N-k)) ?_ ?_
 · skip
   apply Exists.intro;simp only[zQ,zR,zD,zE];exact⟨0,rfl,m,(fun j r h=>by omega),br _,rfl⟩
 · intro n vs wr hI u K1 hK1
   clear m;obtain⟨k,rfl,m,hq0,hk,hn⟩:=hI;simp only[zu,zF,zG];refine aW 5 [0,0] m ?_;simp only[↓aD];intro u m;refine bG rfl (fun hc1=>?_) (fun hc1=>?_)
   · skip
     obtain⟨r,hr,hri,a,rfl,hrow⟩:=hT.get (i:=k) (by omega);refine aW 13 [0] m ?_;simp only[↓aD];intro u m;refine aC (aF cC aL rfl rfl (by omega) (by omega) (bZ (ai _))) ?_;simp only[zz];refine aQ rfl ((hrow.ext m.ext).lies bV aL) ?_;simp only[zz];refine cU m rfl rfl (aiW (t:=t) (r:=r) _ (hB50.ext m.ext) (hB51.ext m.ext)) ?_;clear m;rintro v u m rfl;refine aS 1 [0] m ?_;simp only[↓aD];intro u m;refine cN rfl (fun hc2=>?_) (fun hc2=>?_)
     · skip
       refine aW 6 [] m ?_;simp only[↓aD];intro u m;refine aR rfl rfl ?_;try simp only[zD,zE]
       exact⟨_,rfl,m.ext,k,rfl,by rw[decide_eq_true (by omega:(0:Int)≤k)];exact (dt.2 ⟨r,bj hr,hc2⟩).symm⟩
     · skip
       refine aW 6 [0] m ?_;simp only[↓aD];refine⟨by omega,?_⟩;intro u m;refine hK1 (N-(k+1)) _ _ ?_ ?_ ?_
       · omega
       · simp only[zz,zv]
       · simp only[zQ,zR,zD,zE]
         exact⟨k+1, rfl, m, (fun j r2 hj h1 => by
          rcases dl j k with h | h
          · exact hq0 j r2 h h1
          · obtain rfl:j=k:=by omega
            rw[hr] at h1;cases h1;exact hc2),by omega,rfl⟩
   · skip
     obtain rfl:k=N:=by omega
     refine aW 6 [] m ?_;simp only[↓aD];intro u m;refine aR rfl rfl ?_;try simp only[zD,zE]
     exact⟨_,rfl,m.ext,-1,rfl,(by rw[show ts.any (sF t)=false from List.any_eq_false.2 fun r hr=>by obtain⟨j,hj⟩:=cv.1 hr;rw[hq0 j r (by have:=(aq.1 hj).1;omega) hj];decide];rfl)⟩
theorem Bt{ts:List T3}{N cap:Nat}{A:Option Addr}{g50 g51:Nat}{t:T3}[IT t](w:aj)(hB50:fK w g50 [.int .i64 (Cn t 0),.int .i64 (Cn t 1),.int .i64 (Cn t 2),.int .i64 (Co t 0),.int .i64 (Co t 1),.int .i64 (Co t 2)] 222)(hB51:fK w g51 (aN t) 39)(hT:bP w A N ts)(hN:N≤10000000):dJ prog 177 [.slice A N cap,.func (.func 174) #[] #[.pointer (some ⟨g50,0,none⟩),.pointer (some ⟨g51,0,none⟩)]] w (fun v _=>v=.bool (ts.any (sF t))):=by
 refine⟨anl,?_⟩;have m:=Mem.refl w
 go_enter func177,ntmps177
 refine eC 8 [0] m ?_;simp only[↓aD];intro u m;refine cU m rfl rfl (aiX (t:=t) _ (hB50.ext m.ext) (hB51.ext m.ext) (hT.ext m.ext) hN) ?_;clear m;rintro v u m ⟨kk,rfl,hkk⟩;refine aS 4 [0] m ?_;simp only[↓aD];intro u m;refine aR rfl rfl ?_;try simp only[zD,zE]
 exact⟨_,rfl,m.ext,by rw[←hkk]⟩
def Su(ms rs:List T3)(t:T3)(k:Nat):Bool:=!rs.any (sF t) && !(ms.take k).any (sF t)
def afz(ms rs:List T3):Bool:=ms.zipIdx.all fun x=>Su ms rs x.1 x.2
theorem aea{ms rs:List T3}{k:Nat}{t:T3}(ht:ms[k]? = some t)(h:Su ms rs t k=false):afz ms rs=false:=by
 unfold afz;rw[List.all_eq_false];exact⟨(t,k),List.mk_mem_zipIdx_iff_getElem?.2 ht,by rw[h];decide⟩
theorem aiY{ms rs:List T3}(h:∀(k:Nat) (t:T3),ms[k]? = some t→Su ms rs t k=true):afz ms rs=true:=by
 unfold afz;rw[dw];rintro⟨t,k⟩ hx;exact h k t (List.mk_mem_zipIdx_iff_getElem?.1 hx)
theorem ap6{ms rs:List T3}{t:T3}{k:Nat}(h:rs.any (sF t)=true):Su ms rs t k=false:=by unfold Su;rw[h];rfl
theorem ap7{ms rs:List T3}{t:T3}{k:Nat}(h:(ms.take k).any (sF t)=true):Su ms rs t k=false:=by unfold Su;rw[h,Bool.not_true,Bool.and_false]
theorem ap8{ms rs:List T3}{t:T3}{k:Nat}(h1:rs.any (sF t)=false)(h2:(ms.take k).any (sF t)=false):Su ms rs t k=true:=by unfold Su;rw[h1,h2];rfl
theorem aiZ{g90 g91 ga gf gx gy N cap cx cy cf nm cm no co nr cr:Nat}{A Am Ao Ar:Option Addr}{ex ey ef:Array b_}{X Y F:List (P3 × Bool)}{ts:List T3}{p q:P3}{ms rs:List T3}(w:aj)(hB91:fK w g91 [.pointer (some ⟨g90,0,none⟩),.int .i64 p.x,.int .i64 p.y,.int .i64 p.z,.int .i64 q.x,.int .i64 q.y,.int .i64 q.z,.map (some gx),.map (some gy),.slice Am nm cm,.slice Ao no co,.slice Ar nr cr] 218)(hB90:fK w g90 [.slice A N cap,.map (some ga),.map (some gf)] 109)(hTm:bP w Am nm ms)(hTr:bP w Ar nr rs)(hcm:nm≤cm)(hN:nm+nr≤10000000):dJ prog 105 [.pointer (some ⟨g91,0,none⟩)] w (fun v _=>v=.bool (afz ms rs)):=by
 refine⟨amE,?_⟩;have m:=Mem.refl w;have htm:=hTm.len
 go_enter func105,ntmps105
 refine eC 10 [0] m ?_;simp only[↓aD,Hk,aa];intro u m;refine aQ rfl ((hB91.ext m.ext).lies1 rV rfl) ?_;simp only[zz];refine aS 4 [0] m ?_;simp only[↓aD,iU];intro u m;refine cE [12] [2,3,4,5,6,13,14,15,16,17,18,19,20,21,22,23,24,25,26,27,28,29,30,31,32,33,34,35,36] (fun n vs wl=>∃(k:Nat),vs=[.int .i64 (k:Int)]∧Mem w wl []∧(∀(j:Nat) (t:T3),j<k→ms[j]? = some t→Su ms rs t j=true)∧(k≤nm)∧(n=nm-k)) ?_ ?_
 · skip
   apply Exists.intro;simp only[zQ,zR,zD,zE];exact⟨0,rfl,m,(fun j t h=>by omega),br _,rfl⟩
 · intro n vs wr hI u K1 hK1
   clear m;obtain⟨k,rfl,m,hu0,hk,hn⟩:=hI;simp only[zu,zF,zG];refine aW 5 [0,0] m ?_;simp only[↓aD];intro u m;refine bG rfl (fun hc1=>?_) (fun hc1=>?_)
   · skip
     obtain⟨t,ht,hti,a,rfl,hrow⟩:=hTm.get (i:=k) (by omega);refine aW 6 [0] m ?_;simp only[↓aD];intro u m;refine aC (aF cC aL rfl rfl (by omega) (by omega) (bZ (ai _))) ?_;simp only[zz];refine aQ rfl ((hrow.ext m.ext).lies bV aL) ?_;simp only[zz];refine aS 7 [0,0,0] m ?_;simp only[↓aD,kX,dQ,aa];intro g1;intro u m;refine mW m rfl rfl (aaN (t:=t)) 5 [0,0] ?_;simp only[↓aD,acl,ack,aa];intro g2;intro u m;refine aC fO ?_;simp only[zz,List.map_toArray,bi,ck];refine aS 3 [] m ?_;simp only[↓aD];intro u m;rcases Bool.eq_false_or_eq_true (rs.any (sF t)) with hq | hq
     · skip
       refine cP 4 [0] m ?_;simp only[↓aD,Qg,aa];intro u m;refine aQ rfl ((hB91.ext m.ext).lies1 rV rfl) ?_;simp only[zz];refine aS 1 [0] m ?_;simp only[↓aD];intro u m;refine cU m rfl rfl (Bt (ts:=rs) (t:=t) _ (m.b 0 rfl) (m.b 1 rfl) (hTr.ext m.ext) (by omega)) ?_;clear m;rintro v u m rfl;simp only[zz];rw[hq];refine aS 17 [] m ?_;simp only[↓aD];intro u m;refine aR rfl rfl ?_;try simp only[zD,zE]
       exact⟨_,rfl,m.ext,by rw[aea ht (ap6 hq)]⟩
     · skip
       refine cP 4 [0] m ?_;simp only[↓aD,Qg,aa];intro u m;refine aQ rfl ((hB91.ext m.ext).lies1 rV rfl) ?_;simp only[zz];refine aS 1 [0] m ?_;simp only[↓aD];intro u m;refine cU m rfl rfl (Bt (ts:=rs) (t:=t) _ (m.b 0 rfl) (m.b 1 rfl) (hTr.ext m.ext) (by omega)) ?_;clear m;rintro v u m rfl;simp only[zz];rw[hq];refine aS 4 [0] m ?_;simp only[↓aD,Hk,aa];intro u m;refine dN rfl (aQ rfl ((hB91.ext m.ext).lies1 rV rfl) ?_);simp only[zz];refine aS 1 [0] m ?_;simp only[↓aD];intro u m;refine dN rfl (aC (oL cC aL rfl rfl (ai _) (by omega) (by omega)) ?_);refine aS 1 [0] m ?_;simp only[↓aD];intro u m;refine dN rfl (cU m rfl rfl (Bt (ts:=ms.take k) (t:=t) _ (m.b 0 rfl) (m.b 1 rfl) ((hTm.take (k:=k) (by omega)).ext m.ext) (by omega)) ?_);clear m;rintro v u m rfl;refine aS 2 [0] m ?_;simp only[↓aD];intro u m;refine cN rfl (fun hc2=>?_) (fun hc2=>?_)
       · skip
         refine aW 5 [] m ?_;simp only[↓aD];intro u m;refine aR rfl rfl ?_;try simp only[zD,zE]
         exact⟨_,rfl,m.ext,by rw[aea ht (ap7 hc2)]⟩
       · skip
         refine aW 6 [0] m ?_;simp only[↓aD];refine⟨by omega,?_⟩;intro u m;refine hK1 (nm-(k+1)) _ _ ?_ ?_ ?_
         · omega
         · simp only[zz,zv]
         · simp only[zQ,zR,zD,zE]
           exact⟨k+1, rfl, (m.sel [false, false]), (fun j t2 hj h1 => by
            rcases dl j k with h | h
            · exact hu0 j t2 h h1
            · obtain rfl:j=k:=by omega
              rw[ht] at h1;cases h1;exact ap8 hq hc2),by omega,rfl⟩
   · skip
     refine aW 6 [] m ?_;simp only[↓aD];intro u m;refine aR rfl rfl ?_;try simp only[zD,zE]
     exact⟨_,rfl,m.ext,by rw[aiY fun j t h1=>hu0 j t (by have:=(aq.1 h1).1;omega) h1]⟩
end Go.Proofs.YtfekpcimgncioaaGreatDoor
namespace Go.Lith
open Go.RowKit
section
variable {P:Program} {ops:Array Oper} {Q:Exit→Act→aj→Prop} {md:Region.Mode} {S:aj→Prop} {tl:List Nat}
def Fl(P:Program)(md:Region.Mode)(ops:Array Oper)(Q:Exit→Act→aj→Prop)(S:aj→Prop)(tl:List Nat):Nat→Array Bool→Act→aj→Prop
 | 0,listed,a,w=>Region.ready md ops listed=[]∧Q .normal a w
 | fuel+1,listed,a,w =>
  (Region.ready md ops listed=[]→Q .normal a w) ∧
  ∀i∈Region.ready md ops listed,wpOp P ops Q i (fun a' w'=>(i∉tl→S w→S w')∧Fl P md ops Q S tl fuel (listed.setIfInBounds i true) a' w') a w
theorem Rg:∀(fuel:Nat) (listed:Array Bool) (a:Act) (w:aj),Fl P md ops Q S tl fuel listed a w→wpAny P md ops Q fuel listed a w
 | 0,_,_,_,h=>h
 | fuel+1,_,_,_,h=>⟨h.1,fun i hi=>wpOp_mono (fun a' w' h'=>Rg fuel _ a' w' h'.2) (h.2 i hi)⟩
def acJ(md:Region.Mode)(ops:Array Oper)(listed:Array Bool):Prop:=∀j oj,ops[j]? = some oj→listed.getD j false=true→∀e∈oj.after,Region.binds md e=true→listed.getD e.on false=true
def Rh(md:Region.Mode)(ops:Array Oper):Nat→Nat→Nat→Bool
 | 0,_,_=>false
 | f+1,j,i=>match ops[j]? with
  | none=>false
  | some o=>o.after.any fun e=>Region.binds md e&&(e.on == i||Rh md ops f e.on i)
theorem Ic{listed:Array Bool}(D:acJ md ops listed){i:Nat}:∀(f j:Nat),(∀oj,ops[j]? = some oj→∀e∈oj.after,Region.binds md e=true→listed.getD e.on false=true)→Rh md ops f j i=true→listed.getD i false=true
 | 0,_,_,h=>by cases h
 | f+1,j,hj,h=>by
  unfold Rh at h;split at h
  · cases h
  · rename_i o ho
    rw[Array.any_eq_true] at h;obtain⟨k,hk,hh⟩:=h;rw[be,dm,beq_iff_eq] at hh;have hl:=hj o ho _ (Array.getElem_mem hk) hh.1;rcases hh.2 with e | hn
    · rw[←e];exact hl
    · exact Ic D f _ (fun oj hoj e he hb=>D _ oj hoj hl e he hb) hn
theorem acJ.set{listed:Array Bool}(D:acJ md ops listed){i:Nat}(hi:i∈Region.ready md ops listed):acJ md ops (listed.setIfInBounds i true):=fun j oj hoj hl e he hb=>by
 obtain⟨h0,o,ho,hall⟩:=mem_ready.1 hi;by_cases e':i=j
 · subst e'
   rw[ho] at hoj;cases hoj;exact getD_set_true (hall e he hb)
 · rw[getD_set_ne false e'] at hl
   exact getD_set_true (D j oj hoj hl e he hb)
theorem Ie{S':aj→Prop}{i:Nat}{oi:Oper}{v:Value}(hi:ops[i]? = some oi)(hsel:∀(j:Nat) (o:Oper) cs b,ops[j]? = some o→o.op≠.select cs b)
 (hQ:∀c a w,Q (.panic c) (a.put oi.dst v) w→Q (.panic c) a w) (hk:(∀w,S' w)∨((∀w,S w→S' w)∧∀j∈tl,∃f,Rh md ops f j i=true)) :
 ∀(fuel:Nat) (listed:Array Bool) (a:Act) (w:aj),
  (∀j oj,ops[j]? = some oj→j≠i→listed.getD j true=false→(∀e∈oj.after,Region.binds md e=true→e.on≠i)→oi.apart ops oj=true) →
  i∈Region.ready md ops listed→acJ md ops listed→YieldsIf P ops S' oi v a→(S w∨∀w,S' w) →
  Fl P md ops Q S tl fuel (listed.setIfInBounds i true) (a.put oi.dst v) w→Fl P md ops Q S tl (fuel+1) listed a w:=by
 intro fuel;have hS':∀w,(S w∨∀w,S' w)→S' w:=fun w h=>by
  rcases h with h | h
  · rcases hk with k | k
    · exact k w
    · exact k.1 w h
  · exact h w
 induction fuel with
 | zero =>
  intro listed a w _ hr D hy hS H;refine⟨fun h=>(by rw[h] at hr;cases hr),fun j hj=>?_⟩;by_cases hji:j=i
  · subst hji;exact hy.wpOp hi (hS' w hS) ⟨fun _ h=>h,H⟩
  · have:=ready_mono hj hji
    rw[H.1] at this;cases this
 | succ fuel ih =>
  intro listed a w hfree hr D hy hS H;refine⟨fun h=>(by rw[h] at hr;cases hr),fun j hj=>?_⟩;by_cases hji:j=i
  · subst hji;exact hy.wpOp hi (hS' w hS) ⟨fun _ h=>h,H⟩
  · have h1:=H.2 j (ready_mono hj hji)
    obtain⟨hjun,oj,hoj,hall⟩:=mem_ready.1 hj;have hiun:listed.getD i false=true→False:=fun h1=>by
     have h0:=(mem_ready.1 hr).1;rcases dl i listed.size with h' | h'
     · simp[h'] at h0 h1;rw[h0] at h1;cases h1
     · simp[Array.getElem?_eq_none h'] at h1
    have hnot:∀e∈oj.after,Region.binds md e=true→e.on≠i:=fun e he hb heq=>hiun (heq▸hall e he hb);have h2:=wpOp_putIf hoj (hfree j oj hoj hji hjun hnot) (fun cs b=>hsel i oi cs b hi) (fun cs b=>hsel j oj cs b hoj) hQ hy h1;have hfree':∀k ok,ops[k]? = some ok→k≠i→(listed.setIfInBounds j true).getD k true=false →
     (∀e∈ok.after,Region.binds md e=true→e.on≠i)→oi.apart ops ok=true:=fun k ok hk hki hun hno=>by
     refine hfree k ok hk hki ?_ hno;by_cases hjk:j=k
     · subst hjk;exact hjun
     · rw[getD_set_ne true hjk] at hun;exact hun
    have hstay:∀w',(j∉tl→S w→S w')→(S w'∨∀w,S' w):=fun w' h=>by
     rcases hk with k | k
     · exact .inr k
     · rcases hS with hS | hS
       · refine .inl (h (fun hm=>?_) hS)
         obtain⟨f,hf⟩:=k.2 j hm;exact hiun (Ic D f j (fun oj' hoj' e he hb=>by rw[hoj] at hoj';cases hoj';exact hall e he hb) hf)
       · exact .inr hS
    refine wpOp_mono (fun a' w' h3=>⟨h3.2.1,ih (listed.setIfInBounds j true) a' w' hfree' (ready_mono hr (Ne.symm hji)) (D.set hj) h3.1 (hstay w' h3.2.1) ?_⟩) h2;rw[Array.setIfInBounds_comm _ _ hji];exact h3.2.2
theorem Ri{rs:List Nat}{fuel:Nat}{listed:Array Bool}{a:Act}{w:aj}(hr:Region.ready md ops listed=rs)(hne:rs≠[])
 (h:∀i∈rs,wpOp P ops Q i (fun a' w'=>(i∉tl→S w→S w')∧Fl P md ops Q S tl fuel (listed.setIfInBounds i true) a' w') a w):Fl P md ops Q S tl (fuel+1) listed a w :=
 ⟨fun h0=>absurd (hr▸h0) hne,hr▸h⟩
inductive vQ where
 | nil:vQ
 | take:Nat→vQ→vQ
 | move:Nat→vQ→vQ
 | one:Nat→vQ→vQ
 | two:Nat→vQ→Nat→vQ→vQ
def vQ.ok(md:Region.Mode)(ops:Array Oper)(tl:List Nat):vQ→Nat→Array Bool→Bool→Bool
 | .nil,f,listed,_=>f == 0&&(Region.ready md ops listed).isEmpty
 | .take i t,f,listed,b=>decide (0<f)&&(ops[i]?).isSome&&Region.free md ops listed i&&(Region.ready md ops listed).contains i&&b&&tl.all (fun j=>Rh md ops 6 j i)&&t.ok md ops tl (f-1) (listed.setIfInBounds i true) b
 | .move i t,f,listed,b=>decide (0<f)&&(ops[i]?).isSome&&Region.free md ops listed i&&(Region.ready md ops listed).contains i&&t.ok md ops tl (f-1) (listed.setIfInBounds i true) b
 | .one i t,f,listed,b=>decide (0<f)&&(ops[i]?).isSome&&decide (Region.ready md ops listed=[i])&&t.ok md ops tl (f-1) (listed.setIfInBounds i true) (b && !tl.contains i)
 | .two i t j u,f,listed,b=>decide (0<f)&&(ops[i]?).isSome&&(ops[j]?).isSome&&decide (Region.ready md ops listed=[i,j])&&t.ok md ops tl (f-1) (listed.setIfInBounds i true) (b && !tl.contains i)&&u.ok md ops tl (f-1) (listed.setIfInBounds j true) (b && !tl.contains j)
def iM(P:Program)(ops:Array Oper)(S:aj→Prop)(tl:List Nat)(Q:Exit→Act→aj→Prop):vQ→Act→aj→Prop
 | .nil,a,w=>Q .normal a w
 | .take i t,a,w=>bO P ops S (fun _ a w=>iM P ops S tl Q t a w) [((ops[i]?).getD default,true)] a w
 | .move i t,a,w=>bO P ops (fun _=>True) (fun _ a w=>iM P ops S tl Q t a w) [((ops[i]?).getD default,true)] a w
 | .one i t,a,w=>au P ops (Exit.then (fun a w=>(i∉tl→S w)∧iM P ops S tl Q t a w) Q) [(ops[i]?).getD default] a w
 | .two i t j u,a,w=>au P ops (Exit.then (fun a w=>(i∉tl→S w)∧iM P ops S tl Q t a w) Q) [(ops[i]?).getD default] a w∧au P ops (Exit.then (fun a w=>(j∉tl→S w)∧iM P ops S tl Q u a w) Q) [(ops[j]?).getD default] a w
theorem kZ{Q:Exit→Act→aj→Prop}(hs:Region.noSelect ops=true)(hQ:∀c d v a w,Q (.panic c) (Act.put a d v) w→Q (.panic c) a w):∀(t:vQ) (f:Nat) (listed:Array Bool) (b:Bool) (a:Act) (w:aj),
 t.ok md ops tl f listed b=true→acJ md ops listed→(b=true→S w)→iM P ops S tl Q t a w→Fl P md ops Q S tl f listed a w
 | .nil,f,listed,b,a,w,hB,_,_,h=>by
  simp only[vQ.ok,be,beq_iff_eq] at hB;obtain⟨rfl,h2⟩:=hB;exact⟨by simpa using h2,h⟩
 | .take i t,f,listed,b,a,w,hB,D,hS,h=>by
  simp only[vQ.ok,be,decide_eq_true_eq] at hB;obtain⟨⟨⟨⟨⟨⟨h0,h1⟩,h2⟩,h3⟩,hb⟩,hn⟩,h4⟩:=hB;obtain⟨o,ho⟩:=di.1 h1;simp only[iM,bO,ho,cu] at h;obtain⟨v,hy,hr⟩:=h;obtain⟨f,rfl⟩:∃g,f=g+1:=⟨f-1,by omega⟩
  have hrd:i∈Region.ready md ops listed:=by simpa using h3
  refine Ie (S':=S) ho (Region.noSelect_spec hs) (fun c a w=>hQ c _ v a w) (.inr ⟨fun _ h=>h,fun j hj=>⟨6,dw.1 hn j hj⟩⟩) f listed a w (Region.free_spec ho h2) hrd D hy (.inl (hS hb)) ?_;exact kZ hs hQ t f _ b _ _ h4 (D.set hrd) hS hr
 | .move i t,f,listed,b,a,w,hB,D,hS,h=>by
  simp only[vQ.ok,be,decide_eq_true_eq] at hB;obtain⟨⟨⟨⟨h0,h1⟩,h2⟩,h3⟩,h4⟩:=hB;obtain⟨o,ho⟩:=di.1 h1;simp only[iM,bO,ho,cu] at h;obtain⟨v,hy,hr⟩:=h;obtain⟨f,rfl⟩:∃g,f=g+1:=⟨f-1,by omega⟩
  have hrd:i∈Region.ready md ops listed:=by simpa using h3
  refine Ie (S':=fun _=>True) ho (Region.noSelect_spec hs) (fun c a w=>hQ c _ v a w) (.inl fun _=>trivial) f listed a w (Region.free_spec ho h2) hrd D hy (.inr fun _=>trivial) ?_;exact kZ hs hQ t f _ b _ _ h4 (D.set hrd) hS hr
 | .one i t,f,listed,b,a,w,hB,D,hS,h=>by
  simp only[vQ.ok,be,decide_eq_true_eq] at hB;obtain⟨⟨⟨h0,h1⟩,h2⟩,h4⟩:=hB;obtain⟨o,ho⟩:=di.1 h1;obtain⟨f,rfl⟩:∃g,f=g+1:=⟨f-1,by omega⟩
  refine Ri h2 (by simp) fun j hj=>?_;obtain rfl:j=i:=by simpa using hj
  simp only[iM,ho,cu] at h;refine wpOp_mono (fun a' w' hh=>⟨fun hn _=>hh.1 hn,kZ hs hQ t f _ _ a' w' h4 (D.set (by rw[h2];exact bf.2 rfl)) (fun hb=>hh.1 ?_) hh.2⟩) (jH ho h);simp only[be,ei,List.contains_eq_mem,decide_eq_false_iff_not] at hb;exact hb.2
 | .two i t j u,f,listed,b,a,w,hB,D,hS,h=>by
  simp only[vQ.ok,be,decide_eq_true_eq] at hB;obtain⟨⟨⟨⟨⟨h0,h1⟩,h1'⟩,h2⟩,h4⟩,h5⟩:=hB;obtain⟨o,ho⟩:=di.1 h1;obtain⟨o',ho'⟩:=di.1 h1';obtain⟨f,rfl⟩:∃g,f=g+1:=⟨f-1,by omega⟩
  simp only[iM,ho,ho',cu] at h;have hb2:∀{k:Nat},(b && !tl.contains k)=true→k∉tl:=fun {k} hb=>by
   simp only[be,ei,List.contains_eq_mem,decide_eq_false_iff_not] at hb;exact hb.2
  refine Ri h2 (by simp) fun k hk=>?_;have hk':k=i∨k=j:=by simpa using hk
  rcases hk' with rfl | rfl
  · exact wpOp_mono (fun a' w' hh=>⟨fun hn _=>hh.1 hn,kZ hs hQ t f _ _ a' w' h4 (D.set (by rw[h2];simp)) (fun hb=>hh.1 (hb2 hb)) hh.2⟩) (jH ho h.1)
  · exact wpOp_mono (fun a' w' hh=>⟨fun hn _=>hh.1 hn,kZ hs hQ u f _ _ a' w' h5 (D.set (by rw[h2];simp)) (fun hb=>hh.1 (hb2 hb)) hh.2⟩) (jH ho' h.2)
theorem ap9(md:Region.Mode)(ops:Array Oper)(n:Nat):acJ md ops (fl n false):=fun j oj _ hl=>by
 rcases dl j n with h | h
 · simp[h] at hl
 · simp[Nat.not_lt.2 h] at hl
variable {w w0:aj} {is:List It} {a:Act} {ds:List Deferred} {l:List Value}
theorem amk{id:Nat}{ol:List Oper}(m:Mem w0 w is)(bs:List Bool)(tl:List Nat)(t:vQ)(hm:P.follows .mixedOrders=true)(hB:(Region.noSelect ol.toArray&&t.ok .any ol.toArray tl ol.toArray.size (fl ol.toArray.size false) true)=true)
 (hQ:∀c d v a w,Q (.panic c) (Act.put a d v) w→Q (.panic c) a w)
 (h:∀u,Mem w0 u is→iM P ol.toArray (fun u=>Mem w0 u (pJ bs is)) tl Q t a u):(Code.region id ol.toArray true).wp P Q a w:=by
 simp only[be] at hB;have m':=m.ext' (fN.refl w).drawn;exact wp_region_any hm (Rg _ _ _ _ (kZ (S:=fun u=>Mem w0 u (pJ bs is)) hB.1 hQ t _ _ true _ _ hB.2 (ap9 _ _ _) (fun _=>m'.sel bs) (h _ m')))
variable {o o':Oper} {i j:Nat} {t u:vQ}
theorem aeb(h:Q .normal a w):iM P ops S tl Q .nil a w:=h
theorem jD(ho:(ops[i]?).getD default=o)(h:bO P ops S (fun _ a w=>iM P ops S tl Q t a w) [(o,true)] a w):iM P ops S tl Q (.take i t) a w:=by subst ho;exact h
theorem Fm(ho:(ops[i]?).getD default=o)(h:bO P ops (fun _=>True) (fun _ a w=>iM P ops S tl Q t a w) [(o,true)] a w):iM P ops S tl Q (.move i t) a w:=by subst ho;exact h
theorem sJ(ho:(ops[i]?).getD default=o)(h:au P ops (Exit.then (fun a w=>(i∉tl→S w)∧iM P ops S tl Q t a w) Q) [o] a w):iM P ops S tl Q (.one i t) a w:=by subst ho;exact h
theorem aml(ho:(ops[i]?).getD default=o)(ho':(ops[j]?).getD default=o')(h:au P ops (Exit.then (fun a w=>(i∉tl→S w)∧iM P ops S tl Q t a w) Q) [o] a w)(h':au P ops (Exit.then (fun a w=>(j∉tl→S w)∧iM P ops S tl Q u a w) Q) [o'] a w):iM P ops S tl Q (.two i t j u) a w:=by
 subst ho;subst ho';exact⟨h,h'⟩
end
end Go.Lith
namespace Go.Proofs.YtfekpcimgncioaaGreatDoor
open Go.Proofs.Tryz
open Go.RowKit Go.Lith
set_option maxRecDepth 100000
attribute [local irreducible] au cg fR bO cO Code.wp
attribute [local congr] pL fX fY fZ gA gB kI gC gD gE gF gG gH gI gJ gK gL gM eS eT gN gQ gS gT gU kK dC dD cR dB gR kJ eV eW eX gW gX kL
theorem asx{u v:P3}{ts:List T3}{k:Nat}{t:T3}(h:ts[k]? = some t)(e:jG u v t=t):mJ u v (ts.take (k+1))=mJ u v (ts.take k)++[t]∧kV u v (ts.take (k+1))=kV u v (ts.take k):=by
 rw[bX h];unfold mJ kV;simp[e]
theorem ai0{u v:P3}{ts:List T3}{k:Nat}{t:T3}(h:ts[k]? = some t)(e:¬jG u v t=t)(hn:(jG u v t).nd=true):kV u v (ts.take (k+1))=kV u v (ts.take k)++[t]∧mJ u v (ts.take (k+1))=mJ u v (ts.take k):=by
 rw[bX h];unfold mJ kV;simp[e,hn]
theorem asy{u v:P3}{ts:List T3}{k:Nat}{t:T3}(h:ts[k]? = some t)(e:¬jG u v t=t)(hn:(jG u v t).nd=false):kV u v (ts.take (k+1))=kV u v (ts.take k)∧mJ u v (ts.take (k+1))=mJ u v (ts.take k):=by
 rw[bX h];unfold mJ kV;simp[e,hn]
theorem aec{u v:P3}{l m:List T3}(h:kV u v l=kV u v m):iY u v l=iY u v m:=by unfold iY;rw[h]
theorem acK{u v:P3}{ts:List T3}{k:Nat}{t:T3}(h:kV u v (ts.take (k+1))=kV u v (ts.take k)++[t]):iY u v (ts.take (k+1))=iY u v (ts.take k)++[jG u v t]:=by unfold iY;rw[h,cl];rfl
theorem ai1(u v:P3)(l:List T3):(mJ u v l).length≤l.length:=fc ..
theorem acL(u v:P3)(l:List T3):(kV u v l).length≤l.length:=fc ..
theorem Yf(u v:P3)(l:List T3):(iY u v l).length=(kV u v l).length:=List.length_map ..
theorem ai2{s t:T3}:(s.a.x=t.a.x∧s.a.y=t.a.y∧s.a.z=t.a.z∧s.b.x=t.b.x∧s.b.y=t.b.y∧s.b.z=t.b.z∧s.c.x=t.c.x∧s.c.y=t.c.y∧s.c.z=t.c.z)↔s=t :=
 ⟨fun⟨h1,h2,h3,h4,h5,h6,h7,h8,h9⟩=>Ev (P3.eq h1 h2 h3) (P3.eq h4 h5 h6) (P3.eq h7 h8 h9),fun h=>by rw[h];simp only[and_self]⟩
theorem aqa{g90 ga gf N cap ca:Nat}{A:Option Addr}{ea:Array b_}{D:List (P3 × Hd)}{ts:List T3}{p q:P3}[I3 p][I3 q](w:aj)(hB90:fK w g90 [.slice A N cap,.map (some ga),.map (some gf)] 109)(hMa:iX w ga ea ca)(hDa:bL pt Hd.v D ea ca)(hS:∀p,bP w (oV D p).A (oV D p).n (ts.filter fun t=>t.has p)∧(oV D p).n≤(oV D p).cap)(hT:bP w A N ts)(hN:ts.length≤10000000):dJ prog 99 [.pointer (some ⟨g90,0,none⟩),pt p,pt q] w (fun v w'=>∃g91 gx ex cx gy ey cy Am nm cm Ao no co Ar nr cr,v=.pointer (some ⟨g91,0,none⟩)∧Mem w w' [bI g91 [.pointer (some ⟨g90,0,none⟩),.int .i64 p.x,.int .i64 p.y,.int .i64 p.z,.int .i64 q.x,.int .i64 q.y,.int .i64 q.z,.map (some gx),.map (some gy),.slice Am nm cm,.slice Ao no co,.slice Ar nr cr] 218,oI 39 9 Ar nr cr ((mJ p q ts).flatMap aN),oI 39 9 Ao no co ((kV p q ts).flatMap aN),oI 39 9 Am nm cm ((iY p q ts).flatMap aN),mI gy ey cy,mI gx ex cx]∧bL pt bw (fQ [] (nB ts p)) ex cx∧bL pt bw (fQ [] (nB ts q)) ey cy∧nm=(iY p q ts).length∧no=(kV p q ts).length∧nr=(mJ p q ts).length):=by
 refine⟨arG,?_⟩;have m:=Mem.refl w;have htl:=hT.len
 go_enter func99,ntmps99
 refine eC 7 [0] m ?_;simp only[↓aD];intro g1 g2;intro u m;refine mh m [true,true] [(0,true),(3,true),(6,true),(1,true),(2,true),(4,true),(7,true),(5,false),(8,false),(9,true),(10,false),(11,true)] aB (by kernel_rfl) (bT (fun _ _ _ _ _ h=>h)) (ol:=?_) ?hol ?_
 case hol=>simp only[zw,zQ,zR];try rfl
 clear m;intro u m;refine Oi 7 [1,0,1,0] ?_;simp only[↓aD,aO];refine bK (bJ rfl rfl (Xt (p:=p) _ (hB90.ext m.ext) (hMa.ext m.ext) hDa (fun z=>⟨((hS z).1).ext m.ext,(hS z).2⟩) hN) ?_);rintro v u e ⟨qx,esx,cx,rfl,hM,hDx⟩;replace m:=m.plus hM;clear hM e;simp only[ci,cd] at m;refine aK (⟨m.sel [false,true,true],?_⟩);refine bK ?_;simp only[zz];refine bJ rfl rfl (Xt (p:=q) _ (hB90.ext m.ext) (hMa.ext m.ext) hDa (fun z=>⟨((hS z).1).ext m.ext,(hS z).2⟩) hN) ?_;rintro v u e ⟨qy,esy,cy,rfl,hM,hDy⟩;replace m:=m.plus hM;clear hM e;simp only[ci,cd] at m;refine aK (⟨m.sel [false,false,true,true],?_⟩);refine bB (yS rfl rfl rfl rfl rfl) (bK ?_);simp only[zz];refine Tn m rfl ?_;clear m;intro g3 u m;refine aK (⟨m.sel [false,false,false,true,true],?_⟩);refine bB aM (cK ?_);simp only[zz];replace m:=m.nilO 39 9;replace m:=m.nilO 39 9;replace m:=m.nilO 39 9;replace m:=m.pull 3 rfl;simp only[dS,dT,zF,zG] at m;refine cP 6 [0] m ?_;simp only[↓aD,ahF,aa];intro u m;refine aQ rfl ((hB90.ext m.ext).lies1 rV rfl) ?_;simp only[zz];refine aS 4 [0] m ?_;simp only[↓aD,iU];intro u m;refine cE [28] [9,10,11,29,30,31,32,33,34,35,36,37,38,39,40,41,42,43,44,45,46,47,48,49,50,51,52,53,54,55,56,57,58,59,60,61,62,63,64,65,66,67,68,69,70,71,72,73,74,75] (fun n vs wl=>∃(k:Nat) (A5 A6 A7:Option Addr) (cap5 cap6 cap7:Nat),vs=[.int .i64 (k:Int)]∧Mem w wl [bI g3 [.pointer (some ⟨g90,0,none⟩),.int .i64 p.x,.int .i64 p.y,.int .i64 p.z,.int .i64 q.x,.int .i64 q.y,.int .i64 q.z,.map (some qx),.map (some qy),.slice A5 (iY p q (ts.take k)).length cap5,.slice A6 (kV p q (ts.take k)).length cap6,.slice A7 (mJ p q (ts.take k)).length cap7] 218,oI 39 9 A7 (mJ p q (ts.take k)).length cap7 ((mJ p q (ts.take k)).flatMap aN),oI 39 9 A6 (kV p q (ts.take k)).length cap6 ((kV p q (ts.take k)).flatMap aN),oI 39 9 A5 (iY p q (ts.take k)).length cap5 ((iY p q (ts.take k)).flatMap aN),mI qy esy cy,mI qx esx cx,bI g2 [.int .i64 q.x,.int .i64 q.y,.int .i64 q.z] 30,bI g1 [.int .i64 p.x,.int .i64 p.y,.int .i64 p.z] 30]∧(k≤N)∧(n=N-k)) ?_ ?_
 · skip
   apply Exists.intro;simp only[zQ,zR,zD,zE];exact⟨0,_,_,_,_,_,_,rfl,m,br _,rfl⟩
 · intro n vs wr hI u K1 hK1
   clear m;obtain⟨k,A5,A6,A7,cap5,cap6,cap7,rfl,m,hk,hn⟩:=hI;simp only[zu,zF,zG];refine aW 5 [0,0] m ?_;simp only[↓aD];intro u m;refine bG rfl (fun hc1=>?_) (fun hc1=>?_)
   · skip
     obtain⟨t,ht,hti,a,hA,hrow⟩:=hT.get (i:=k) (by omega);subst hA;have hle1:=ai1 p q (ts.take k);have hle2:=acL p q (ts.take k);have hle3:=Yf p q (ts.take k);rw[cj] at hle1 hle2;refine aW 5 [0] m ?_;simp only[↓aD];intro u m;refine aC (aF cC aL rfl rfl (by omega) (by omega) (bZ (ai _))) ?_;simp only[zz];refine aQ rfl ((hrow.ext m.ext).lies bV aL) ?_;simp only[zz];refine aS 8 [0,0,8,7,0] m ?_;simp only[↓aD,kX,dQ,aO,aa];intro g4;intro u m;refine mW m rfl rfl (adU (t:=t) (p:=p) (q:=q)) 12 [0,0,1,0] ?_;simp only[↓aD,kX,dQ,aa];intro g5;intro u m;refine aC (Tc rfl rfl) (aS 2 [0] m ?_);simp only[↓aD];intro u m;refine bG rfl (fun hc2=>?_) (fun hc2=>?_)
     · skip
       refine amk m [true,true,true,false,true,true,true,true,true,true] [10] (.take 0 (.take 1 (.take 2 (.take 3 (.take 4 (.take 5 (.one 6 (.one 7 (.take 8 (.take 9 (.one 10 .nil))))))))))) aB (by kernel_rfl) (bT (fun _ _ _ _ _ h=>h)) ?_;clear m;intro u m;refine jD (by simp only[zw];rfl) (bB aH (cK (jD (by simp only[zw];rfl) (bB aH (cK (jD (by simp only[zw];rfl) (bB (eL rfl) (cK (jD (by simp only[zw];rfl) (bB (aT (c:=0) nF rfl fV rfl rfl) ?_))))))))));simp only[zz];refine cK (jD (by simp only[zw];rfl) (eN rfl (fun u m=>((m.b 2 rfl).lies1 rV rfl)) ?_));simp only[zz];refine cK (jD (by simp only[zw];rfl) (eN rfl (fun u m=>((m.b 1 rfl).full bV aL)) ?_));simp only[zz];refine cK (sJ (by simp only[zw];rfl) ?_);refine fH rfl ?_;intro u g6 e hg hB;replace m:=m.newB e hg hB;clear e hg hB;refine aK (⟨fun _=>m.sel [false,true,true,true,false,true,true,true,true,true,true],?_⟩);refine sJ (by simp only[zw];rfl) ?_;simp only[zz];refine bQ m 4 rfl rfl cC kA rfl (by decide) rfl rfl rfl (m.b 0 rfl).rowsO (fW rfl) (by have:=hle1;omega) (by have:=hle1;omega) ?_;clear m;intro A7 cap7 u m;simp only[zF,zG] at m;refine aK (⟨fun _=>m.sel [false,true,true,true,false,true,true,true,true,true,true],?_⟩);refine jD (by simp only[zw];rfl) (bB (eL rfl) (cK (jD (by simp only[zw];rfl) (bB (aT (c:=0) nF rfl fV rfl rfl) (cK (sJ (by simp only[zw];rfl) ?_))))));simp only[zz];refine eK (off:=11) m 3 rfl rfl rfl fV (iS rfl) ⟨rfl,rfl⟩ ?_;clear m;intro u m;simp only[zz,zy,zx,cA,aa] at m;refine aK (⟨fun h=>absurd (by decide) h,?_⟩);refine aeb (cP 6 [0] m ?_);simp only[↓aD];refine⟨by omega,?_⟩;intro u m;have hcs:=asx (u:=p) (v:=q) ht (ai2.1 hc2);have hcm:=aec hcs.2;rw[show ((mJ p q (ts.take k))).flatMap aN++_=(mJ p q (ts.take (k+1))).flatMap aN by rw[hcs.1,ba];rfl,show ((mJ p q (ts.take k))).length+1=(mJ p q (ts.take (k+1))).length by rw[hcs.1,aw];rfl] at m;rw[←hcs.2,←hcm] at m;refine hK1 (N-(k+1)) _ _ ?_ ?_ ?_
       · omega
       · simp only[zz,zv]
       · simp only[zQ,zR,zD,zE]
         exact⟨k+1,_,_,_,_,_,_,rfl,(m.sel [false,false,false,true,true,true,true,true,true,true,true]),by omega,rfl⟩
     · skip
       refine aW 5 [0] m ?_;simp only[↓aD];intro u m;refine cN rfl (fun hc3=>?_) (fun hc3=>?_)
       · skip
         refine amk m [true,true,true,true,false,false,true,true,true,true] [18,21] (.take 0 (.move 1 (.take 2 (.take 3 (.take 4 (.take 5 (.take 6 (.take 9 (.take 10 (.take 11 (.take 12 (.take 13 (.two 7 (.two 8 (.one 14 (.one 15 (.take 16 (.take 17 (.one 18 (.move 19 (.move 20 (.one 21 .nil)))))))) 14 (.one 8 (.one 15 (.take 16 (.take 17 (.one 18 (.move 19 (.move 20 (.one 21 .nil))))))))) 14 (.one 7 (.one 8 (.one 15 (.take 16 (.take 17 (.one 18 (.move 19 (.move 20 (.one 21 .nil)))))))))))))))))))))) aB (by kernel_rfl) (bT (fun _ _ _ _ _ h=>h)) ?_;clear m;intro u m;refine jD (by simp only[zw];rfl) (bB aH (cK (Fm (by simp only[zw];rfl) (bB aH (cK (jD (by simp only[zw];rfl) (bB aH (cK (jD (by simp only[zw];rfl) (bB (eL rfl) ?_))))))))));simp only[zz];refine cK (jD (by simp only[zw];rfl) (bB (aT (c:=0) nF rfl fV rfl rfl) (cK (jD (by simp only[zw];rfl) ?_))));simp only[zz];refine eN rfl (fun u m=>((m.b 2 rfl).lies1 rV rfl)) ?_;simp only[zz];refine cK (jD (by simp only[zw];rfl) (eN rfl (fun u m=>((m.b 0 rfl).full bV aL)) ?_));simp only[zz];refine cK (jD (by simp only[zw];rfl) (bB aH (cK (jD (by simp only[zw];rfl) (bB (eL rfl) (cK (jD (by simp only[zw];rfl) (bB (aT (c:=0) nF rfl fV rfl rfl) (cK (jD (by simp only[zw];rfl) ?_))))))))));simp only[zz];refine eN rfl (fun u m=>((m.b 2 rfl).lies1 rV rfl)) ?_;simp only[zz];refine cK (jD (by simp only[zw];rfl) (eN rfl (fun u m=>((m.b 1 rfl).full bV aL)) ?_));simp only[zz];refine cK ?_;refine aml (by simp only[zw];rfl) (by simp only[zw];rfl) ?_ ?_
         · skip
           refine fH rfl ?_;intro u g6 e hg hB;replace m:=m.newB e hg hB;clear e hg hB;refine aK (⟨fun _=>m.sel [false,true,true,true,true,false,false,true,true,true,true],?_⟩);simp only[zz];refine aml (by simp only[zw];rfl) (by simp only[zw];rfl) ?_ ?_
           · skip
             refine bQ m 6 rfl rfl cC kA rfl (by decide) rfl rfl rfl (m.b 0 rfl).rowsO (fW rfl) (by have:=hle3;omega) (by have:=hle3;omega) ?_;clear m;intro A5 cap5 u m;simp only[zF,zG] at m;refine aK (⟨fun _=>m.sel [false,true,true,true,true,false,false,true,true,true,true],?_⟩);refine sJ (by simp only[zw];rfl) ?_;simp only[zz];refine fH rfl ?_;intro u g7 e hg hB;replace m:=m.newB e hg hB;clear e hg hB;refine aK (⟨fun _=>m.sel [false,false,true,true,true,true,false,false,true,true,true,true],?_⟩);refine sJ (by simp only[zw];rfl) ?_;simp only[zz];refine bQ m 6 rfl rfl cC kA rfl (by decide) rfl rfl rfl (m.b 0 rfl).rowsO (fW rfl) (by have:=hle2;omega) (by have:=hle2;omega) ?_;clear m;intro A6 cap6 u m;simp only[zF,zG] at m;refine aK (⟨fun _=>m.sel [false,false,true,true,true,true,false,false,true,true,true,true],?_⟩);refine jD (by simp only[zw];rfl) (bB (eL rfl) (cK (jD (by simp only[zw];rfl) (bB (aT (c:=0) nF rfl fV rfl rfl) (cK (sJ (by simp only[zw];rfl) ?_))))));simp only[zz];refine eK (off:=9) m 4 rfl rfl rfl fV (iS rfl) ⟨rfl,rfl⟩ ?_;clear m;intro u m;simp only[zz,zy,zx,cA,aa] at m;refine aK (⟨fun h=>absurd (by decide) h,?_⟩);refine Fm (by simp only[zw];rfl) (bB (eL rfl) (cK (Fm (by simp only[zw];rfl) (bB (aT (c:=0) nF rfl fV rfl rfl) (cK (sJ (by simp only[zw];rfl) ?_))))));simp only[zz];refine eK (off:=10) m 4 rfl rfl rfl fV (iS rfl) ⟨rfl,rfl⟩ ?_;clear m;intro u m;simp only[zz,zy,zx,cA,aa] at m;refine aK (⟨fun h=>absurd (by decide) h,?_⟩);refine aeb (cP 6 [0] m ?_);simp only[↓aD];refine⟨by omega,?_⟩;intro u m;have hcs:=ai0 (u:=p) (v:=q) ht (fun e=>hc2 (ai2.2 e)) hc3;have hcm:=acK hcs.1;rw[show ((kV p q (ts.take k))).flatMap aN++_=(kV p q (ts.take (k+1))).flatMap aN by rw[hcs.1,ba];rfl,show ((kV p q (ts.take k))).length+1=(kV p q (ts.take (k+1))).length by rw[hcs.1,aw];rfl] at m;rw[show ((iY p q (ts.take k))).flatMap aN++_=(iY p q (ts.take (k+1))).flatMap aN by rw[hcm,ba];rfl,show ((iY p q (ts.take k))).length+1=(iY p q (ts.take (k+1))).length by rw[hcm,aw];rfl] at m;rw[←hcs.2] at m;refine hK1 (N-(k+1)) _ _ ?_ ?_ ?_
             · omega
             · simp only[zz,zv]
             · simp only[zQ,zR,zD,zE]
               exact⟨k+1,_,_,_,_,_,_,rfl,(m.sel [false,false,false,false,true,true,true,true,true,true,true,true]),by omega,rfl⟩
           · skip
             refine fH rfl ?_;intro u g7 e hg hB;replace m:=m.newB e hg hB;clear e hg hB;refine aK (⟨fun _=>m.sel [false,false,true,true,true,true,false,false,true,true,true,true],?_⟩);refine sJ (by simp only[zw];rfl) ?_;simp only[zz];refine bQ m 7 rfl rfl cC kA rfl (by decide) rfl rfl rfl (m.b 1 rfl).rowsO (fW rfl) (by have:=hle3;omega) (by have:=hle3;omega) ?_;clear m;intro A5 cap5 u m;simp only[zF,zG] at m;refine aK (⟨fun _=>m.sel [false,false,true,true,true,true,false,false,true,true,true,true],?_⟩);refine sJ (by simp only[zw];rfl) ?_;simp only[zz];refine bQ m 6 rfl rfl cC kA rfl (by decide) rfl rfl rfl (m.b 0 rfl).rowsO (fW rfl) (by have:=hle2;omega) (by have:=hle2;omega) ?_;clear m;intro A6 cap6 u m;simp only[zF,zG] at m;refine aK (⟨fun _=>m.sel [false,false,true,true,true,true,false,false,true,true,true,true],?_⟩);refine jD (by simp only[zw];rfl) (bB (eL rfl) (cK (jD (by simp only[zw];rfl) (bB (aT (c:=0) nF rfl fV rfl rfl) (cK (sJ (by simp only[zw];rfl) ?_))))));simp only[zz];refine eK (off:=9) m 4 rfl rfl rfl fV (iS rfl) ⟨rfl,rfl⟩ ?_;clear m;intro u m;simp only[zz,zy,zx,cA,aa] at m;refine aK (⟨fun h=>absurd (by decide) h,?_⟩);refine Fm (by simp only[zw];rfl) (bB (eL rfl) (cK (Fm (by simp only[zw];rfl) (bB (aT (c:=0) nF rfl fV rfl rfl) (cK (sJ (by simp only[zw];rfl) ?_))))));simp only[zz];refine eK (off:=10) m 4 rfl rfl rfl fV (iS rfl) ⟨rfl,rfl⟩ ?_;clear m;intro u m;simp only[zz,zy,zx,cA,aa] at m;refine aK (⟨fun h=>absurd (by decide) h,?_⟩);refine aeb (cP 6 [0] m ?_);simp only[↓aD];refine⟨by omega,?_⟩;intro u m;have hcs:=ai0 (u:=p) (v:=q) ht (fun e=>hc2 (ai2.2 e)) hc3;have hcm:=acK hcs.1;rw[show ((kV p q (ts.take k))).flatMap aN++_=(kV p q (ts.take (k+1))).flatMap aN by rw[hcs.1,ba];rfl,show ((kV p q (ts.take k))).length+1=(kV p q (ts.take (k+1))).length by rw[hcs.1,aw];rfl] at m;rw[show ((iY p q (ts.take k))).flatMap aN++_=(iY p q (ts.take (k+1))).flatMap aN by rw[hcm,ba];rfl,show ((iY p q (ts.take k))).length+1=(iY p q (ts.take (k+1))).length by rw[hcm,aw];rfl] at m;rw[←hcs.2] at m;refine hK1 (N-(k+1)) _ _ ?_ ?_ ?_
             · omega
             · simp only[zz,zv]
             · simp only[zQ,zR,zD,zE]
               exact⟨k+1,_,_,_,_,_,_,rfl,(m.sel [false,false,false,false,true,true,true,true,true,true,true,true]),by omega,rfl⟩
         · skip
           refine fH rfl ?_;intro u g6 e hg hB;replace m:=m.newB e hg hB;clear e hg hB;refine aK (⟨fun _=>m.sel [false,true,true,true,true,false,false,true,true,true,true],?_⟩);refine sJ (by simp only[zw];rfl) ?_;simp only[zz];refine fH rfl ?_;intro u g7 e hg hB;replace m:=m.newB e hg hB;clear e hg hB;refine aK (⟨fun _=>m.sel [false,false,true,true,true,true,false,false,true,true,true,true],?_⟩);refine sJ (by simp only[zw];rfl) ?_;simp only[zz];refine bQ m 7 rfl rfl cC kA rfl (by decide) rfl rfl rfl (m.b 0 rfl).rowsO (fW rfl) (by have:=hle3;omega) (by have:=hle3;omega) ?_;clear m;intro A5 cap5 u m;simp only[zF,zG] at m;refine aK (⟨fun _=>m.sel [false,false,true,true,true,true,false,false,true,true,true,true],?_⟩);refine sJ (by simp only[zw];rfl) ?_;simp only[zz];refine bQ m 6 rfl rfl cC kA rfl (by decide) rfl rfl rfl (m.b 1 rfl).rowsO (fW rfl) (by have:=hle2;omega) (by have:=hle2;omega) ?_;clear m;intro A6 cap6 u m;simp only[zF,zG] at m;refine aK (⟨fun _=>m.sel [false,false,true,true,true,true,false,false,true,true,true,true],?_⟩);refine jD (by simp only[zw];rfl) (bB (eL rfl) (cK (jD (by simp only[zw];rfl) (bB (aT (c:=0) nF rfl fV rfl rfl) (cK (sJ (by simp only[zw];rfl) ?_))))));simp only[zz];refine eK (off:=9) m 4 rfl rfl rfl fV (iS rfl) ⟨rfl,rfl⟩ ?_;clear m;intro u m;simp only[zz,zy,zx,cA,aa] at m;refine aK (⟨fun h=>absurd (by decide) h,?_⟩);refine Fm (by simp only[zw];rfl) (bB (eL rfl) (cK (Fm (by simp only[zw];rfl) (bB (aT (c:=0) nF rfl fV rfl rfl) (cK (sJ (by simp only[zw];rfl) ?_))))));simp only[zz];refine eK (off:=10) m 4 rfl rfl rfl fV (iS rfl) ⟨rfl,rfl⟩ ?_;clear m;intro u m;simp only[zz,zy,zx,cA,aa] at m;refine aK (⟨fun h=>absurd (by decide) h,?_⟩);refine aeb (cP 6 [0] m ?_);simp only[↓aD];refine⟨by omega,?_⟩;intro u m;have hcs:=ai0 (u:=p) (v:=q) ht (fun e=>hc2 (ai2.2 e)) hc3;have hcm:=acK hcs.1;rw[show ((kV p q (ts.take k))).flatMap aN++_=(kV p q (ts.take (k+1))).flatMap aN by rw[hcs.1,ba];rfl,show ((kV p q (ts.take k))).length+1=(kV p q (ts.take (k+1))).length by rw[hcs.1,aw];rfl] at m;rw[show ((iY p q (ts.take k))).flatMap aN++_=(iY p q (ts.take (k+1))).flatMap aN by rw[hcm,ba];rfl,show ((iY p q (ts.take k))).length+1=(iY p q (ts.take (k+1))).length by rw[hcm,aw];rfl] at m;rw[←hcs.2] at m;refine hK1 (N-(k+1)) _ _ ?_ ?_ ?_
           · omega
           · simp only[zz,zv]
           · simp only[zQ,zR,zD,zE]
             exact⟨k+1,_,_,_,_,_,_,rfl,(m.sel [false,false,false,false,true,true,true,true,true,true,true,true]),by omega,rfl⟩
       · skip
         refine aW 7 [0] m ?_;simp only[↓aD];refine⟨by omega,?_⟩;intro u m;have hcs:=asy (u:=p) (v:=q) ht (fun e=>hc2 (ai2.2 e)) hc3;have hcm:=aec hcs.1;rw[←hcs.1,←hcs.2,←hcm] at m;refine hK1 (N-(k+1)) _ _ ?_ ?_ ?_
         · omega
         · simp only[zz,zv]
         · simp only[zQ,zR,zD,zE]
           exact⟨k+1,_,_,_,_,_,_,rfl,(m.sel [false,false,true,true,true,true,true,true,true,true]),by omega,rfl⟩
   · skip
     obtain rfl:k=N:=by omega
     rw[show ts.take k=ts from a_ (by omega)] at m;refine aW 7 [] m ?_;simp only[↓aD];intro u m;exact aR rfl rfl (⟨_,rfl,m.ext,_,_,_,_,_,_,_,_,_,_,_,_,_,_,_,_,rfl,m.sel [true,true,true,true,true,true,false,false],hDx,hDy,rfl,rfl,rfl⟩)
end Go.Proofs.YtfekpcimgncioaaGreatDoor
namespace Go.Lith
open Go.RowKit
def Fo(js:List It):It where
 own b:=∃j∈js,j.own b
 P w:=(∀j∈js,j.P w)∧js.Pairwise Ap
 lt w b h hb:=by
  obtain⟨j,hj,hb⟩:=hb;exact j.lt w b (h.1 j hj) hb
 st w w' h hs k:=⟨fun j hj=>j.st w w' (h.1 j hj) hs fun b hb=>k b ⟨j,hj,hb⟩,h.2⟩
section
variable {w0 w:aj} {is js:List It}
theorem Mem.bagNil(m:Mem w0 w is):Mem w0 w (Fo []::is) :=
 ⟨m.ext,fun i hi=>by
  rcases ao.1 hi with rfl | hi
  · exact⟨fun j hj=>(by cases hj),List.Pairwise.nil⟩
  · exact m.all i hi,fun i hi b hb=>by
  rcases ao.1 hi with rfl | hi
  · obtain⟨j,hj,_⟩:=hb;cases hj
  · exact m.ge i hi b hb,bm.2 ⟨fun i _ b ⟨j,hj,_⟩=>(by cases hj),m.nd⟩⟩
theorem Mem.bagPull(m:Mem w0 w (Fo js::is))(i:Nat){j:It}(hj:js[i]? = some j):Mem w0 w (j::Fo (js.eraseIdx i)::is):=by
 have hp:=Jm js i j hj;obtain⟨h1,h2⟩:=bm.1 m.nd;have P:=m.all _ (bq ..);have hjm:=bj hj;have hsub:∀x∈js.eraseIdx i,x∈js:=fun x hx=>hp.mem_iff.1 (bp _ hx);have hpw:=bm.1 ((hp.pairwise_iff (fun {a b} (h:Ap a b)=>h.symm)).2 P.2);refine⟨m.ext,fun x hx=>?_,fun x hx b hb=>?_,bm.2 ⟨fun x hx b hb hxb=>?_,bm.2 ⟨fun x hx b ⟨y,hy,hb⟩=>h1 x hx b ⟨y,hsub y hy,hb⟩,h2⟩⟩⟩
 · rcases ao.1 hx with rfl | hx
   · exact P.1 x hjm
   · rcases ao.1 hx with rfl | hx
     · exact⟨fun y hy=>P.1 y (hsub y hy),hpw.2⟩
     · exact m.all x (bp _ hx)
 · rcases ao.1 hx with rfl | hx
   · exact m.ge _ (bq ..) b ⟨x,hjm,hb⟩
   · rcases ao.1 hx with rfl | hx
     · obtain⟨y,hy,hb⟩:=hb
       exact m.ge _ (bq ..) b ⟨y,hsub y hy,hb⟩
     · exact m.ge x (bp _ hx) b hb
 · rcases ao.1 hx with rfl | hx
   · obtain⟨y,hy,hyb⟩:=hxb
     exact hpw.1 y hy b hb hyb
   · exact h1 x hx b ⟨j,hjm,hb⟩ hxb
theorem Mem.bagPush{j:It}(m:Mem w0 w (j::Fo js::is)):Mem w0 w (Fo (j::js)::is):=by
 obtain⟨h1,h2⟩:=bm.1 m.nd;obtain⟨h3,h4⟩:=bm.1 h2;have P:=m.all (Fo js) (bp _ (bq ..));have Pj:=m.all j (bq ..);refine⟨m.ext,fun x hx=>?_,fun x hx b hb=>?_,bm.2 ⟨fun x hx b ⟨y,hy,hb⟩ hxb=>?_,h4⟩⟩
 · rcases ao.1 hx with rfl | hx
   · refine⟨fun y hy=>?_,bm.2 ⟨fun y hy b hb hyb=>h1 _ (bq ..) b hb ⟨y,hy,hyb⟩,P.2⟩⟩
     rcases ao.1 hy with rfl | hy
     · exact Pj
     · exact P.1 y hy
   · exact m.all x (bp _ (bp _ hx))
 · rcases ao.1 hx with rfl | hx
   · obtain⟨y,hy,hb⟩:=hb
     rcases ao.1 hy with rfl | hy
     · exact m.ge y (bq ..) b hb
     · exact m.ge (Fo js) (bp _ (bq ..)) b ⟨y,hy,hb⟩
   · exact m.ge x (bp _ (bp _ hx)) b hb
 · rcases ao.1 hy with rfl | hy
   · exact h1 x (bp _ hx) b hb hxb
   · exact h3 x hx b ⟨y,hy,hb⟩ hxb
end
end Go.Lith
namespace Go.Lith
open Go.RowKit Go.ChangeMaps
section
variable {w0 w:aj} {is js ks:List It}
theorem Mem.bagPerm(m:Mem w0 w (Fo js::is))(h:js.Perm ks):Mem w0 w (Fo ks::is):=by
 obtain⟨h1,h2⟩:=bm.1 m.nd;have P:=m.all _ (bq ..);refine⟨m.ext,fun x hx=>?_,fun x hx b hb=>?_,bm.2 ⟨fun x hx b ⟨y,hy,hb⟩ hxb=>?_,h2⟩⟩
 · rcases ao.1 hx with rfl | hx
   · exact⟨fun j hj=>P.1 j (h.mem_iff.2 hj),(h.pairwise_iff (fun {a b} (h:Ap a b)=>h.symm)).1 P.2⟩
   · exact m.all x (bp _ hx)
 · rcases ao.1 hx with rfl | hx
   · obtain⟨y,hy,hb⟩:=hb
     exact m.ge _ (bq ..) b ⟨y,h.mem_iff.2 hy,hb⟩
   · exact m.ge x (bp _ hx) b hb
 · exact h1 x hx b ⟨y,h.mem_iff.2 hy,hb⟩ hxb
theorem aaY{K V:Type}[DecidableEq K]{k:K}{v:V}{e:K × V}:∀{D:List (K × V)},(D.map (·.1)).Nodup→e∈fG D k v→e=(k,v)∨(e∈D∧e.1≠k)
 | [],_,h=>.inl (bf.1 h)
 | x::D,hn,h=>by
  obtain⟨n1,n2⟩:=gd.1 hn;unfold fG at h;split at h
  · rename_i hk
    rcases ao.1 h with h | h
    · exact .inl h
    · exact .inr ⟨bp _ h,fun e'=>n1 (df.2 ⟨e,h,e'.trans hk.symm⟩)⟩
  · rename_i hk
    rcases ao.1 h with h | h
    · exact .inr ⟨h▸bq ..,h▸hk⟩
    · rcases aaY n2 h with h | h
      · exact .inl h
      · exact .inr ⟨bp _ h.1,h.2⟩
variable {E:an} {fs:P3→List T3} {D:List (P3 × Hd)}
def sI(E:an)(fs:P3→List T3)(e:P3 × Hd):It:=oI E 9 e.2.A (fs e.1).length e.2.cap ((fs e.1).flatMap aN)
structure Kq(D:List (P3 × Hd))(fs:P3→List T3):Prop where
 nk:(D.map (·.1)).Nodup
 len:∀e∈D,e.2.n=(fs e.1).length
 no:∀p,p∉D.map (·.1)→fs p=[]
 yes:∀p,p∈D.map (·.1)→fs p≠[]
theorem Kq.nil:Kq [] fun _=>[]:=⟨jv,fun _ h=>(by cases h),fun _ _=>rfl,fun _ h=>(by cases h)⟩
theorem Kq.iff(S:Kq D fs){p:P3}:p∈D.map (·.1)↔fs p≠[]:=⟨S.yes p,fun h=>Classical.byContradiction fun k=>h (S.no p k)⟩
theorem Kq.take(S:Kq D fs)(m:Mem w0 w (Fo (D.map (sI E fs))::is))(p:P3) :
 ∃rest,Mem w0 w (oI E 9 (oV D p).A (oV D p).n (oV D p).cap ((fs p).flatMap aN)::Fo rest::is)∧(oV D p).n=(fs p).length ∧
  ∀(h':Hd) (fs':P3→List T3),(∀q,q≠p→fs' q=fs q)→h'.n=(fs' p).length→fs' p≠[]→(sI E fs' (p,h')::rest).Perm ((fG D p h').map (sI E fs'))∧Kq (fG D p h') fs':=by
 have hS:∀(h':Hd) (fs':P3→List T3),(∀q,q≠p→fs' q=fs q)→h'.n=(fs' p).length→fs' p≠[]→Kq (fG D p h') fs':=fun h' fs' hq hl hy =>
  ⟨tP S.nk p h',fun e he=>by
   rcases aaY S.nk he with rfl | ⟨he,hk⟩
   · exact hl
   · rw[hq _ hk];exact S.len e he,fun q hqn=>by
   rw[wB] at hqn;have h1:q∉D.map (·.1)∧q≠p:=by
    split at hqn
    · rename_i hp;exact⟨hqn,fun e=>hqn (e▸hp)⟩
    · exact⟨fun h=>hqn (List.mem_append_left _ h),fun e=>hqn (List.mem_append_right _ (by rw[e];exact bf.2 rfl))⟩
   rw[hq _ h1.2];exact S.no q h1.1,fun q hqn=>by
   by_cases hqp:q=p
   · rw[hqp];exact hy
   · rw[hq _ hqp]
     refine S.yes q ?_;rw[wB] at hqn;split at hqn
     · exact hqn
     · exact (bt.1 hqn).elim id fun h=>absurd (bf.1 h) hqp⟩
 have hsame:∀{fs':P3→List T3} {L:List (P3 × Hd)},(∀q,q≠p→fs' q=fs q)→(∀e∈L,e.1≠p)→L.map (sI E fs')=L.map (sI E fs):=fun {fs' L} hq hL =>
  List.map_congr_left fun e he=>by unfold sI;rw[hq _ (hL e he)]
 cases hf:qD D p 0 with
 | none =>
  obtain⟨h0,h1,_⟩:=qM D p 0 hf;have hnp:=oQ.1 h0;have e0:oV D p=⟨none,0,0⟩:=by unfold oV;rw[h0];rfl
  refine⟨D.map (sI E fs),?_,?_,fun h' fs' hq hl hy=>⟨?_,hS h' fs' hq hl hy⟩⟩
  · rw[e0,S.no p hnp];exact m.nilO E 9
  · rw[e0,S.no p hnp];rfl
  · rw[h1,cl,hsame hq fun e he k=>hnp (df.2 ⟨e,he,k⟩)]
    exact (List.perm_append_singleton _ _).symm
 | some q =>
  obtain⟨j,h⟩:=q;obtain⟨i,_,hi,h0,h1,_⟩:=mO D p 0 j h hf;have e0:oV D p=h:=by unfold oV;rw[h0];rfl
  have hm:(p,h)∈D:=bj hi;have hl0:=S.len _ hm;have hne:∀e∈D.eraseIdx i,e.1≠p:=fun e he k=>by
   obtain⟨q,hq⟩:=cv.1 he;rw[List.getElem?_eraseIdx] at hq;have key:∀{q:Nat},D[q]? = some e→q=i:=fun {q} hq=>by
    have a1:(D.map (·.1))[q]? = some p:=by rw[fj,hq,←k];rfl
    have a2:(D.map (·.1))[i]? = some p:=by rw[fj,hi];rfl
    obtain⟨b1,b2⟩:=aq.1 a1;obtain⟨c1,c2⟩:=aq.1 a2;exact (lx S.nk).1 (b2.trans c2.symm)
   split at hq
   · have:=key hq;omega
   · have:=key hq;omega
  refine⟨(D.map (sI E fs)).eraseIdx i,?_,?_,fun h' fs' hq hl hy=>⟨?_,hS h' fs' hq hl hy⟩⟩
  · rw[e0,show h.n=(fs p).length from hl0]
    exact m.bagPull i (j:=sI E fs (p,h)) (by rw[fj,hi];rfl)
  · rw[e0];exact hl0
  · rw[h1,←map_eraseIdx,←hsame hq hne]
    have hp:∀{l:List (P3 × Hd)} {i:Nat} {x y:P3 × Hd},l[i]? = some x→(l.set i y).Perm (y::l.eraseIdx i):=fun {l}=>by
     induction l with
     | nil=>intro i x y h;simp at h
     | cons z l ih =>
      intro i x y h;cases i with
      | zero=>exact .refl _
      | succ i=>exact ((ih (i:=i) (x:=x) (y:=y) (by simpa using h)).cons z).trans (.swap ..)
    exact ((hp (y:=(p,h')) hi).map (sI E fs')).symm
theorem Kq.trisP(S:Kq D fs)(hB:(Fo (D.map (sI E fs))).P w)(hI:∀p,∀t∈fs p,IT t)(p:P3):bP w (oV D p).A (oV D p).n (fs p)∧(oV D p).n≤(oV D p).cap:=by
 unfold oV;cases hg:cI D p with
 | none =>
  rw[S.no p (oQ.1 hg)];exact⟨bP.nil _ _,Nat.le_refl _⟩
 | some h =>
  have hm:=As hg;have hP:=hB.1 _ (df.2 ⟨(p,h),hm,rfl⟩);have ho:Ow { w with heap:=#[] } w [] E 9 h.A (fs p).length h.cap ((fs p).flatMap aN):=⟨hP,fun _ _ h=>(by cases h),fun _ h=>(by cases h)⟩
  have hl:=S.len _ hm;simp only[cu];rw[show h.n=(fs p).length from hl];exact⟨ho.tris (hI p),ho.le⟩
end
def Ru(l:List T3)(t:T3)(cs:List P3)(p:P3):List T3:=l.filter (fun t=>t.has p)++if p∈cs then [t] else []
theorem alg(l:List T3)(t:T3):Ru l t []=fun p=>l.filter fun t=>t.has p:=by
 funext p
 unfold Ru;simp
theorem aqb{l:List T3}{t:T3}{cs:List P3}{c q:P3}(h:q≠c):Ru l t (cs++[c]) q=Ru l t cs q:=by
 unfold Ru;simp[h]
theorem aqc{l:List T3}{t:T3}{cs:List P3}{c:P3}(h:c∉cs):Ru l t (cs++[c]) c=Ru l t cs c++[t]:=by
 unfold Ru;simp[h]
theorem alh{l:List T3}{k:Nat}{t:T3}(ht:l[k]? = some t):Ru (l.take k) t [t.a,t.b,t.c]=fun p=>(l.take (k+1)).filter fun t=>t.has p:=by
 funext p
 unfold Ru;rw[bX ht,fu]
 congr 1
 by_cases h:t.has p=true
 · have:=eU.1 h
   simp[h,this]
 · have h':¬(p=t.a∨p=t.b∨p=t.c):=fun k=>h (eU.2 k)
   simp[h,h']
end Go.Lith
namespace Go.Proofs.YtfekpcimgncioaaGreatDoor
open Go.Proofs.Tryz
open Go.RowKit Go.Lith
set_option maxRecDepth 100000
attribute [local irreducible] au cg fR bO cO Code.wp
attribute [local congr] pL fX fY fZ gA gB kI gC gD gE gF gG gH gI gJ gK gL gM eS eT gN gQ gS gT gU kK dC dD cR dB gR kJ eV eW eX gW gX kL
structure If(T:an)(w:aj)(g90 ga gf:Nat)(A:Option Addr)(N cap:Nat)(ea ef:Array b_)(ca cf:Nat)(D:List (P3 × Hd))(ts:List T3):Prop where
 b:fK w g90 [.slice A N cap,.map (some ga),.map (some gf)] T
 a:iX w ga ea ca
 f:iX w gf ef cf
 t:∀p,bP w (oV D p).A (oV D p).n (ts.filter fun t=>t.has p)∧(oV D p).n≤(oV D p).cap
theorem If.ext{T:an}{w w':aj}{g90 ga gf:Nat}{A:Option Addr}{N cap:Nat}{ea ef:Array b_}{ca cf:Nat}{D:List (P3 × Hd)}{ts:List T3}(h:If T w g90 ga gf A N cap ea ef ca cf D ts)(e:fN w w'):If T w' g90 ga gf A N cap ea ef ca cf D ts :=
 ⟨h.b.ext e,h.a.ext e,h.f.ext e,fun p=>⟨(h.t p).1.ext e,(h.t p).2⟩⟩
structure Rj(ea ef:Array b_)(ca cf:Nat)(D:List (P3 × Hd))(F:List (P3 × Bool))(ts:List T3):Prop where
 a:bL pt Hd.v D ea ca
 f:bL pt bw F ef cf
 nk:(D.map (·.1)).Nodup
 k:∀p,p∈D.map (·.1)↔p∈dK ts
 b:∀p,(cI F p).getD false=Dw (bF ts) p
def afA(es:List E3):List P3:=es.flatMap fun e=>[e.1,e.2]
theorem ai3{es:List E3}{p:P3}:decide (p∈afA es)=Dw es p:=by
 rw[ep,decide_eq_true_eq];unfold afA Dw;rw[e_,dt];constructor
 · rintro⟨e,he,hp⟩
   refine⟨e,he,?_⟩;simp only[ao,bz,or_false] at hp;rcases hp with rfl | rfl <;> simp
 · rintro⟨e,he,hp⟩
   refine⟨e,he,?_⟩;simp only[dm,decide_eq_true_eq] at hp;rcases hp with rfl | rfl <;> simp
theorem afB{es:List E3}{k:Nat}{e:E3}(h:es[k]? = some e):afA (es.take (k+1))=afA (es.take k)++[e.1]++[e.2]:=by
 rw[bX h];unfold afA;rw[ba,List.append_assoc];rfl
def wP(t:T3):List P3:=[t.a,t.b,t.c]
theorem Yg{t:T3}{j:Nat}(hj:j<3):(wP t)[j]? = some (t.cor j):=by
 have h:j=0∨j=1∨j=2:=by omega
 rcases h with rfl | rfl | rfl <;> rfl
theorem Vg{t:T3}{j:Nat}(hj:j<3):(wP t).take (j+1)=(wP t).take j++[t.cor j]:=bX (Yg hj)
theorem ai4{t:T3}{j:Nat}(hn:t.nd=true)(hj:j<3):t.cor j∉(wP t).take j:=fun h=>by
 have hd:(wP t).Nodup:=Rf hn;obtain⟨i,hi⟩:=cv.1 h;rw[eh] at hi;split at hi
 · rename_i hij
   obtain⟨a1,a2⟩:=aq.1 hi;obtain⟨b1,b2⟩:=aq.1 (Yg (t:=t) hj);have:=(lx hd).1 (a2.trans b2.symm);omega
 · cases hi
theorem aqd{ts:List T3}{p:P3}:(ts.filter fun t=>t.has p)≠[]↔p∈dK ts:=by
 constructor
 · intro h
   obtain⟨t,ht⟩:=List.exists_mem_of_ne_nil _ h;obtain⟨h1,h2⟩:=ct.1 ht;exact tZ h1 h2
 · intro h e
   obtain⟨t,ht,hp⟩:=e_.1 (show p∈ts.flatMap fun t=>[t.a,t.b,t.c] from h);have:t∈ts.filter fun t=>t.has p:=ct.2 ⟨ht,eU.2 (by simpa using hp)⟩;rw[e] at this;cases this
theorem Ig{is:List It}{w:aj}(h:(Ef is).P w)(k:Nat){i:It}(hi:is[k]? = some i):i.P w:=h.1 i (bj hi)
theorem ali(l:List T3)(t:T3)(cs:List P3)(p:P3){k:Nat}(h:l.length≤k):(Ru l t cs p).length≤k+1:=by
 have:=fc (fun t=>T3.has t p) l;unfold Ru;rw[aw];split <;> simp <;> omega
theorem ai5{A:Option Addr}{N cap:Nat}{ts:List T3}(w:aj)(hT:bP w A N ts)(hnd:∀t∈ts,t.nd=true)(hN:ts.length≤1000000):dJ prog 50 [.slice A N cap] w (fun v w'=>∃g90 ga gf ea ef ca cf D F K,v=.pointer (some ⟨g90,0,none⟩)∧Mem w w' [K]∧(∀u,K.P u→If 109 u g90 ga gf A N cap ea ef ca cf D ts)∧Rj ea ef ca cf D F ts):=by
 refine⟨aq9,?_⟩;have m:=Mem.refl w;have htl:=hT.len;have hbl:(bF ts).length≤10000000:=by have h1:=Gw (all:=aZ ts) (aZ ts) [];have h2:=qL ts;simp only[bu] at h1;unfold bF;omega
 go_enter func50,ntmps50
 refine eC 7 [0] m ?_;simp only[↓aD];intro u m;refine lO m ?_;clear m;intro qa u m;have hDa:=bL.nil (K:=P3) (V:=Hd) pt Hd.v;simp only[zz];refine lO m ?_;clear m;intro qf u m;have hDf:=bL.nil (K:=P3) (V:=Bool) pt bw;refine aS 4 [] m ?_;simp only[↓aD,apl,aa];intro g3;intro u m;replace m:=m.bagNil;refine cP 8 [0] m ?_;simp only[↓aD,iU];intro u m;refine cE [17] [5,7,18,19,20,21,22,23,24,25,26,27,28,29,30,31,32,33,34,35,36,37] (fun n vs wl=>∃(k:Nat) (ea:Array b_) (ca:Nat) (D:List (P3 × Hd)),vs=[.int .i64 (k:Int)]∧Mem w wl [Fo (D.map (sI 39 (fun p=>(ts.take k).filter fun t=>t.has p))),bI g3 [.slice A N cap,.map (some qa),.map (some qf)] 109,mI qf #[] 0,mI qa ea ca]∧(bL pt Hd.v D ea ca)∧(Kq D (fun p=>(ts.take k).filter fun t=>t.has p))∧(k≤N)∧(n=N-k)) ?_ ?_
 · skip
   apply Exists.intro;simp only[zQ,zR,zD,zE];exact⟨0,_,_,[],rfl,m,hDa,Kq.nil,br _,rfl⟩
 · intro n vs wr hI u K1 hK1
   clear m;obtain⟨k,esa,ca,D,rfl,m,hDa,hS1,hk,hn⟩:=hI;simp only[zu,zF,zG];refine aW 5 [0,0] m ?_;simp only[↓aD];intro u m;refine bG rfl (fun hc1=>?_) (fun hc1=>?_)
   · skip
     obtain⟨t,ht,hti,a,hA,hrow⟩:=hT.get (i:=k) (by omega);subst hA;refine aW 5 [0] m ?_;simp only[↓aD];intro u m;refine aC (aF cC aL rfl rfl (by omega) (by omega) (bZ (ai _))) ?_;simp only[zz];refine aQ rfl ((hrow.ext m.ext).lies bV aL) ?_;simp only[zz];refine aS 9 [0,0,0] m ?_;simp only[↓aD,kX,dQ,aa];intro g4;intro u m;refine cE [22] [7,23,24,25,26,27,28,29,30,31,32,33,34,35,36] (fun n vs wl=>∃(j:Nat) (ea:Array b_) (ca:Nat) (D:List (P3 × Hd)),vs=[.int .i64 (j:Int)]∧Mem w wl [bI g4 [.int .i64 t.a.x,.int .i64 t.a.y,.int .i64 t.a.z,.int .i64 t.b.x,.int .i64 t.b.y,.int .i64 t.b.z,.int .i64 t.c.x,.int .i64 t.c.y,.int .i64 t.c.z] 39,Fo (D.map (sI 39 (Ru (ts.take k) t ((wP t).take j)))),bI g3 [.slice (some a) N cap,.map (some qa),.map (some qf)] 109,mI qf #[] 0,mI qa ea ca]∧(bL pt Hd.v D ea ca)∧(Kq D (Ru (ts.take k) t ((wP t).take j)))∧(j≤3)∧(n=3-j)) ?_ ?_
     · rw[←alg (ts.take k) t] at m hS1
       apply Exists.intro;simp only[zQ,zR,zD,zE];exact⟨0,_,_,D,rfl,m,hDa,hS1,br _,rfl⟩
     · intro n vs wr hI u K2 hK2
       clear m;obtain⟨j,esa,ca,D,rfl,m,hDa,hS2,hj,hn2⟩:=hI;simp only[zu,zF,zG];refine aW 5 [0,0] m ?_;simp only[↓aD];intro u m;refine bG rfl (fun hc2=>?_) (fun hc2=>?_)
       · skip
         have hj3:j<3:=by omega
         refine aW 5 [0] m ?_;simp only[↓aD];intro u m;refine aC ((aaU (t:=t) hj3 rfl rfl)) (aS 3 [0] m ?_);simp only[↓aD,eY,aO,aa];intro g5;intro u m;replace m:=m.pull 2 rfl;simp only[dS,dT,zF,zG] at m;obtain⟨rest,m9,hn9,hS9⟩:=hS2.take m (t.cor j);replace m:=m9;clear m9;have hl9:((Ru (ts.take k) t ((wP t).take j)) (t.cor j)).length≤k+1:=ali _ _ _ _ (by rw[cj];omega);rw[←hn9] at hl9;refine gc (mh m [false,true,true,true,true,true,false] [(0,true),(1,true),(2,true),(3,true),(4,true),(5,true),(6,false),(7,false),(8,true),(10,true),(9,false),(11,false)] aB (by kernel_rfl) (bT (fun _ _ _ _ _ h=>h)) (ol:=?_) ?hol ?_)
         case hol=>simp only[zw,zQ,zR];try rfl
         clear m;intro u m;refine Oi 6 [3,1,2] ?_;simp only[↓aD,Py,apj,aO,dQ,aa];refine bK (fH rfl ?_);intro u g6 e hg hB;replace m:=m.newB e hg hB;clear e hg hB;refine aK (⟨m.sel [false,false,true,true,true,true,true,false],?_⟩);refine bK ?_;simp only[zz];refine xU (ek:=pt) (en:=Hd.v) (a:=t.cor j) (v0:=⟨none,0,0⟩) m 7 rfl underlying106 adb fT rfl rfl hDa ?_;clear m;intro esa ca bs u m hD' hS;simp only[zF,zG] at m;refine aK (⟨m.sel [false,false,true,true,true,true,true,false],?_⟩);refine bB (eZ rfl rfl) (bB (eZ rfl rfl) (bK ?_));simp only[zz];refine bQ m 1 rfl rfl cC kA rfl (by decide) rfl rfl rfl (m.b 0 rfl).rowsO (fW rfl) (by omega) (by omega) ?_;clear m;intro A9 cap9 u m;simp only[zF,zG] at m;refine aK (⟨m.sel [false,false,true,true,true,true,true,false],?_⟩);refine bK ?_;simp only[zz];refine pV (ek:=pt) (en:=Hd.v) (a:=t.cor j) (v:=(⟨A9,(oV D (t.cor j)).n+1,cap9⟩:Hd)) m 7 rfl rfl rfl rfl hS ?_;clear m hD' hS;intro esa u m hD';clear hDa;have hDa:=hD';clear hD';simp only[zF,zG] at m;refine aK (⟨m.sel [false,false,true,true,true,true,true,false],?_⟩);refine cK ?_;replace m:=m.pull 2 rfl;simp only[dS,dT,zF,zG] at m;replace m:=m.pull 2 rfl;simp only[dS,dT,zF,zG] at m;have hfs:(Ru (ts.take k) t ((wP t).take (j+1))) (t.cor j)=(Ru (ts.take k) t ((wP t).take j)) (t.cor j)++[t]:=by rw[Vg hj3];exact aqc (ai4 (hnd t (bj ht)) hj3)
         obtain⟨hp9,hS3⟩:=hS9 ⟨A9,(oV D (t.cor j)).n+1,cap9⟩ (Ru (ts.take k) t ((wP t).take (j+1))) (fun q hq=>by rw[Vg hj3];exact aqb hq) (by rw[hfs,aw,hn9];rfl) (by rw[hfs];simp);rw[show ((Ru (ts.take k) t ((wP t).take j)) (t.cor j)).flatMap aN++_=((Ru (ts.take k) t ((wP t).take (j+1))) (t.cor j)).flatMap aN by rw[hfs,ba];rfl,show (oV D (t.cor j)).n+1=((Ru (ts.take k) t ((wP t).take (j+1))) (t.cor j)).length by rw[hfs,aw,hn9];rfl] at m;replace m:=(Mem.bagPush (j:=sI 39 (Ru (ts.take k) t ((wP t).take (j+1))) (t.cor j,⟨A9,(oV D (t.cor j)).n+1,cap9⟩)) m).bagPerm hp9;replace m:=m.pull 3 rfl;simp only[dS,dT,zF,zG] at m;refine cP 5 [0] m ?_;simp only[↓aD];refine⟨by omega,?_⟩;intro u m;refine hK2 (3-(j+1)) _ _ ?_ ?_ ?_
         · omega
         · simp only[zz,zv]
         · simp only[zQ,zR,zD,zE]
           exact⟨j+1,_,_,_,rfl,(m.sel [true,true,false,false,true,true,true]),hDa,hS3,by omega,rfl⟩
       · skip
         obtain rfl:j=3:=by omega
         rw[show (wP t).take 3=[t.a,t.b,t.c] from rfl,alh ht] at m hS2;refine aW 6 [0] m ?_;simp only[↓aD];refine⟨by omega,?_⟩;intro u m;refine hK1 (N-(k+1)) _ _ ?_ ?_ ?_
         · omega
         · simp only[zz,zv]
         · simp only[zQ,zR,zD,zE]
           exact⟨k+1,_,_,D,rfl,(m.sel [false,true,true,true,true]),hDa,hS2,by omega,rfl⟩
   · skip
     obtain rfl:N=k:=by omega
     rw[show ts.take N=ts from a_ (by omega)] at m hS1;refine aW 5 [0] m ?_;simp only[↓aD];intro u m;refine bJ rfl rfl (afh _ (hT.ext m.ext) (by omega)) ?_;rintro v u e ⟨A4,c4,n4,hn4,rfl,hN⟩;replace m:=m.newO e hN;clear e hN;subst hn4;refine aS 4 [0] m ?_;simp only[↓aD,Uo];intro u m;refine cE [41] [9,42,43,44,45,46,47,48,49,50,51,52,53,54,55,56,57,58,59,60,61] (fun n vs wl=>∃(i:Nat) (ef:Array b_) (cf:Nat),vs=[.int .i64 (i:Int)]∧Mem w wl [oI 56 6 A4 (bF ts).length c4 ((bF ts).flatMap cT),Fo (D.map (sI 39 (fun p=>ts.filter fun t=>t.has p))),bI g3 [.slice A N cap,.map (some qa),.map (some qf)] 109,mI qf ef cf,mI qa esa ca]∧(bL pt bw (fQ [] (afA ((bF ts).take i))) ef cf)∧(i≤(bF ts).length)∧(n=(bF ts).length-i)) ?_ ?_
     · skip
       apply Exists.intro;simp only[zQ,zR,zD,zE];exact⟨0,_,_,rfl,m,hDf,br _,rfl⟩
     · intro n vs wr hI u K3 hK3
       clear m;obtain⟨i,esf,cf,rfl,m,hDf,hi,hn3⟩:=hI;simp only[zu,zF,zG];refine aW 5 [0,0] m ?_;simp only[↓aD];intro u m;refine bG rfl (fun hc3=>?_) (fun hc3=>?_)
       · skip
         obtain⟨e,he,ae,hA4,hr5⟩:=((m.o 0 rfl).lat (enc:=cT) (fun _=>rfl) (by decide)).get (i:=i) (by omega);subst hA4;refine jF 5 [0] m ?_;simp only[↓aD];rintro u m rfl;refine aC (aF nV iH rfl rfl (by omega) (by omega) (bZ (ai _))) ?_;simp only[zz];refine aQ rfl (show fL _ _ _ _ (.agg #[.int .i64 e.1.x,.int .i64 e.1.y,.int .i64 e.1.z,.int .i64 e.2.x,.int .i64 e.2.y,.int .i64 e.2.z]) from hr5.lies Ej iH) ?_;simp only[zz];refine aS 3 [0,0] m ?_;simp only[↓aD,Up,Dy,aa];intro g4;intro u m;refine mh m [true,true,true,true,false,true] [(0,true),(1,true),(2,true),(4,true),(6,true),(7,true),(8,true),(10,true),(3,true),(5,true),(9,true),(11,true),(12,false),(13,true),(14,false),(15,false),(16,true),(17,false)] aB (by kernel_rfl) (bT (fun _ _ _ _ _ h=>h)) (ol:=?_) ?hol ?_
         case hol=>simp only[zw,zQ,zR];try rfl
         clear m;intro u m;refine Oi 12 [3,0,3,0] ?_;simp only[↓aD,Pz,Px,apk,aO,aa,ad,ag];refine⟨by omega,?_⟩;refine bK (xU (ek:=pt) (en:=bw) (a:=e.1) (v0:=false) m 4 rfl nE oB fT rfl rfl hDf ?_);clear m;intro esf cf bs u m hD' hS;simp only[zF,zG] at m;refine aK (⟨m.sel [true,true,true,true,false,true],?_⟩);refine bB (eZ rfl rfl) (bK ?_);simp only[zz];refine pV (ek:=pt) (en:=bw) (a:=e.1) (v:=true) m 4 rfl rfl rfl rfl hS ?_;clear m hD' hS;intro esf u m hD';clear hDf;have hDf:=hD';clear hD';simp only[zF,zG] at m;rw[←lX] at hDf;refine aK (⟨m.sel [true,true,true,true,false,true],?_⟩);refine bK (xU (ek:=pt) (en:=bw) (a:=e.2) (v0:=false) m 4 rfl nE oB fT rfl rfl hDf ?_);clear m;intro esf cf bs u m hD' hS;simp only[zF,zG] at m;refine aK (⟨m.sel [true,true,true,true,false,true],?_⟩);refine bB (eZ rfl rfl) (bK ?_);simp only[zz];refine pV (ek:=pt) (en:=bw) (a:=e.2) (v:=true) m 4 rfl rfl rfl rfl hS ?_;clear m hD' hS;intro esf u m hD';clear hDf;have hDf:=hD';clear hD';simp only[zF,zG] at m;rw[←lX] at hDf;refine aK (⟨m.sel [true,true,true,true,false,true],?_⟩);refine cK (cP 5 [0] m ?_);simp only[↓aD];refine⟨by omega,?_⟩;intro u m;refine hK3 ((bF ts).length-(i+1)) _ _ ?_ ?_ ?_
         · omega
         · simp only[zz,zv]
         · simp only[zQ,zR,zD,zE]
           exact⟨i+1,_,_,rfl,(m.sel [false,true,true,true,true,true]),by rw[afB he];exact hDf,by omega,rfl⟩
       · skip
         obtain rfl:i=(bF ts).length:=by omega
         rw[show (bF ts).take (bF ts).length=bF ts from a_ (Nat.le_refl _)] at hDf;refine aW 7 [] m ?_;simp only[↓aD];intro u m;refine aR rfl rfl ?_;try simp only[zD,zE]
         exact⟨_,rfl,m.ext,_,_,_,_,_,_,_,D,_,Ef [_,_,_,_],rfl,Mem.pack [] (m.sel [false,true,true,true,true]),(fun u hP=>⟨by have h:=Ig hP 1 rfl;exact h,by have h:=Ig hP 3 rfl;exact h,by have h:=Ig hP 2 rfl;exact h,fun p=>hS1.trisP (Ig hP 0 rfl) (fun p t ht=>hT.it t (ct.1 ht).1) p⟩),⟨hDa,hDf,hS1.nk,fun p=>by rw[hS1.iff];exact aqd,fun p=>by rw[rH];exact ai3⟩⟩
end Go.Proofs.YtfekpcimgncioaaGreatDoor
