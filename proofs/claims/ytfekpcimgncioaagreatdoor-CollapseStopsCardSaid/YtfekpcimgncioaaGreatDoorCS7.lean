/-
 Texts of one claim, laid together: K15, K17, Tail, K18, Nest, Nest2, K19, K20, K21, K22, K23, Mono, K24, K25, Trav.
-/
import Derived.RunT
import Derived.Test.YtfekpcimgncioaaGreatDoorCS6
open Nat renaming reduceAdd→aa,reduceMul→ad,le_refl→ap,zero_add→aq,le_trans→az,zero_le→cd,lt_or_ge→eo
open Int renaming reduceToNat→ab,toNat_natCast→ag,reduceAdd→ai
open Go renaming Value→ac,World→ah,TypeId→aj,wp_region_lit→am,wpList→ao,Program→bc,MapEntry→bx
open List renaming mem_cons→ak,getElem?_eq_getElem→an,getElem?_eq_some_iff→ar,length_cons→au,flatMap_append→av,length_append→aw,mem_singleton→ay,mem_of_getElem?→ba,take_of_length_le→be,mem_append→bg,pairwise_cons→bj,mem_cons_of_mem→bm,map_cons→bn,mem_cons_self→bp,length_take→br,length_nil→bt,nil_append→bv,not_mem_nil→bw,cons_append→b_,map_append→cl,append_assoc→cq,map_nil→c_,mem_filter→di,mem_map→dj,length_set→dl,mem_iff_getElem?→dm,toList_toArray→dt,getElem?_map→dw,any_eq_true→dx,mem_flatMap→dz,length_filter_le→ep,all_eq_true→ew,append_nil→e_,map_toArray→fb,mem_append_right→fj,getD_eq_getElem?_getD→fz,mem_append_left→f_,filter_append→gj,filter_cons→gn,nodup_nil→jw,map_eq_append_iff→kd,map_eq_cons_iff→k_,getElem_inj→ld,getElem?_zip_eq_some→lf,filter_nil→li,perm_cons→nn
open Go.Value renaming bool→bf
open Bool renaming and_eq_true→bh,not_eq_true'→fm,or_eq_true→fu,and_false→gw,eq_iff_iff→ia,false_ne_true→iq,false_and→jc,or_eq_false_iff→jj,true_and→jn,and_self→kf,and_true→kg
open Go.Exit renaming inBlock→cj
open Option renaming getD_some→cv,isSome_iff_exists→df,map_some→d_
open Array renaming replicate→fc,eraseIdxIfInBounds→jm,toList_push→lp
open Prod.mk renaming injEq→ff
open Option.some renaming injEq→fp,inj→fw
open List.Perm renaming append_left→ki,refl→lq
set_option maxHeartbeats 8000000
set_option linter.unusedSimpArgs false
set_option linter.unusedVariables false
set_option linter.unusedSectionVars false
namespace Go.Proofs.YtfekpcimgncioaaGreatDoor
open Go.Proofs.Tryz
open Go.RowKit Go.Lith
set_option maxRecDepth 100000
attribute [local irreducible] ao wpQuiet eZ bE bX Code.wp
attribute [local congr] nO fF fG fH fI fJ jH fK fL fM fN fO fP fQ fR fS fT fU dX dY fV fW fY fZ gA jJ cO cP cA cN fX jI dZ eA eB gB gC jK
theorem ah3{s t:T3}{k:Nat}(hk:k<3)(h:iN (s.cor k) (s.cor ((k+1)%3)) t=true):true=Ro s t:=by
 have e:k=0∨k=1∨k=2:=by omega
 unfold Ro;rcases e with rfl | rfl | rfl
 · rw[show iN s.a s.b t=true from h];rfl
 · rw[show iN s.b s.c t=true from h,Bool.or_true];rfl
 · rw[show iN s.c s.a t=true from h,Bool.or_true]
theorem afJ{s t:T3}(h:∀k∈[0,1,2],iN (s.cor k) (s.cor ((k+1)%3)) t=false):false=Ro s t:=by
 unfold Ro;rw[show iN s.a s.b t=false from h 0 (by decide),show iN s.b s.c t=false from h 1 (by decide),show iN s.c s.a t=false from h 2 (by decide)];rfl
theorem Wd{l:List ac}{ty:aj}{x y:Operand}{t:T3}{k:Nat}(hk:k<3)(hx:ev l x=tr t)(hy:ev l y=.int .i64 (k:Int)):gI prog l (.index 39 x y) ty (pt (t.cor k)):=by
 have h:k=0∨k=1∨k=2:=by omega
 rcases h with rfl | rfl | rfl
 · exact qG hx hy
 · exact qH hx hy
 · exact qI hx hy
def afK(t:T3):List P3:=[t.a,t.b,t.c]
theorem afL{t:T3}{k:Nat}(hk:k<3):(afK t)[k]? = some (t.cor k):=by
 have h:k=0∨k=1∨k=2:=by omega
 rcases h with rfl | rfl | rfl <;> rfl
def Br(s t:T3)(k:Nat):List P3:=((afK s).take k).filter fun x=>t.has x
def Bt(s t:T3)(k:Nat):List P3:=((afK s).take k).filter fun x=>!t.has x
theorem Dp{s t:T3}{k:Nat}(hk:k<3):Br s t (k+1)=Br s t k++if t.has (s.cor k) then [s.cor k] else []:=by
 unfold Br;rw[cC (afL hk),gj,gn,li]
theorem Dr{s t:T3}{k:Nat}(hk:k<3):Bt s t (k+1)=Bt s t k++if t.has (s.cor k) then [] else [s.cor k]:=by
 unfold Bt;rw[cC (afL hk),gj,gn,li];cases t.has (s.cor k) <;> rfl
theorem abf(s t:T3)(k:Nat):(Br s t k).length≤3:=az (ep _ _) (by rw[br];exact Nat.min_le_right ..)
theorem abg(s t:T3)(k:Nat):(Bt s t k).length≤3:=az (ep _ _) (by rw[br];exact Nat.min_le_right ..)
theorem aiV{t:T3}{x:P3}:((decide (x.x=t.a.x∧x.y=t.a.y∧x.z=t.a.z)||decide (x.x=t.b.x∧x.y=t.b.y∧x.z=t.b.z))||decide (x.x=t.c.x∧x.y=t.c.y∧x.z=t.c.z))=t.has x:=by
 have e:∀p q:P3,(p.x=q.x∧p.y=q.y∧p.z=q.z)↔p=q:=fun p q=>⟨fun h=>P3.eq h.1 h.2.1 h.2.2,fun h=>by rw[h];exact⟨rfl,rfl,rfl⟩⟩
 rw[ia,nP];simp only[fu,decide_eq_true_eq,e,or_assoc]
theorem Ln(s t:T3):(rQ s t).length+(uQ s t).length=3:=by
 rw[ak5,ak6];cases t.has s.a <;> cases t.has s.b <;> cases t.has s.c <;> rfl
theorem nd_of{t:T3}(h:lL t=false):t.nd=true:=by
 have hf:Hu (pR t.a t.b t.c)<3:=by
  unfold lL at h;rw[decide_eq_false_iff_not,Decidable.not_not] at h;exact h
 have hz:∀p q r:P3,p=q∨q=r∨r=p→pR p q r=⟨0,0,0⟩:=fun p q r hh=>by
  rcases hh with rfl | rfl | rfl <;> (refine P3.eq ?_ ?_ ?_ <;> (simp only[pR,P3.sub,P3.cross];grind))
 have hn:¬(t.a=t.b∨t.b=t.c∨t.c=t.a):=fun hh=>by
  rw[hz _ _ _ hh] at hf;exact absurd hf (by decide)
 rw[Kf];exact⟨fun e=>hn (.inl e),fun e=>hn (.inr (.inl e)),fun e=>hn (.inr (.inr e))⟩
theorem Zy{s t:T3}(hs:lL s=false)(ht:lL t=false)(h0:(rQ s t).length≠0) :
 (∃x u v y z,rQ s t=[x]∧uQ s t=[u,v]∧uQ t s=[y,z])∨(∃x y u v,rQ s t=[x,y]∧uQ s t=[u]∧uQ t s=[v])∨(rQ s t).length=3:=by
 have h1:=Ln s t;have h2:=Ln t s;have h3:=(aem (nd_of hs) (nd_of ht)).length_eq;generalize rQ s t=L at *
 generalize uQ s t=U at *
 generalize uQ t s=V at *
 rw[←h3] at h2;rcases L with _ | ⟨x,_ | ⟨y,_ | ⟨z,_ | ⟨z',L⟩⟩⟩⟩
 · exact absurd rfl h0
 · rcases U with _ | ⟨u,_ | ⟨v,_ | ⟨_,_⟩⟩⟩ <;> simp only[au,bt] at h1 <;> try omega
   rcases V with _ | ⟨y,_ | ⟨z,_ | ⟨_,_⟩⟩⟩ <;> simp only[au,bt] at h2 <;> try omega
   exact .inl ⟨x,u,v,y,z,rfl,rfl,rfl⟩
 · rcases U with _ | ⟨u,_ | ⟨_,_⟩⟩ <;> simp only[au,bt] at h1 <;> try omega
   rcases V with _ | ⟨v,_ | ⟨_,_⟩⟩ <;> simp only[au,bt] at h2 <;> try omega
   exact .inr (.inl ⟨x,y,u,v,rfl,rfl,rfl⟩)
 · exact .inr (.inr rfl)
 · simp only[au] at h1;omega
theorem amn{s t:T3}{n:Nat}(hn:n=(rQ s t).length)(h:(decide ((n:Int)=0)||lL s||lL t)=true):(Ro s t||Ro t s)=Oq s t:=by
 unfold Oq;rw[if_pos];rw[fu,fu,decide_eq_true_eq] at h;rcases h with (h | h) | h
 · exact .inl (by omega)
 · exact .inr (.inl h)
 · exact .inr (.inr h)
theorem amo{s t:T3}{n:Nat}(hn:n=(rQ s t).length)(h:(decide ((n:Int)=0)||lL s||lL t)=false):((rQ s t).length≠0∧lL s=false∧lL t=false)∧Oq s t=aaU s t (rQ s t) (uQ s t) (uQ t s):=by
 rw[jj,jj,decide_eq_false_iff_not] at h;refine⟨⟨fun e=>h.1.1 (by omega),h.1.2,h.2⟩,?_⟩;unfold Oq;rw[if_neg];rintro (k | k | k)
 · exact h.1.1 (by omega)
 · rw[h.1.2] at k;cases k
 · rw[h.2] at k;cases k
theorem afM{s:T3}[h:IT s]{x:P3}(hx:x∈afK s):I3 x:=by
 simp only[afK,ak,bw,or_false] at hx;rcases hx with rfl | rfl | rfl
 · exact h.a
 · exact h.b
 · exact h.c
theorem afN{s t:T3}[IT s]{L:List P3}{i:Nat}{x:P3}(h:rQ s t=L)(hx:L[i]? = some x):I3 x:=afM (di.1 (h▸ba hx:x∈rQ s t)).1
theorem Fs{s t:T3}[IT s]{L:List P3}{i:Nat}{x:P3}(h:uQ s t=L)(hx:L[i]? = some x):I3 x:=afM (di.1 (h▸ba hx:x∈uQ s t)).1
theorem amp{s t:T3}{xa xb ua va:P3}:(decide (bG (((xb.sub xa).cross (ua.sub xa)).dot (va.sub xa))=0)&&decide (bG ((xb.sub xa).cross (ua.sub xa)).x=bG ((xb.sub xa).cross (va.sub xa)).x∧bG ((xb.sub xa).cross (ua.sub xa)).y=bG ((xb.sub xa).cross (va.sub xa)).y∧bG ((xb.sub xa).cross (ua.sub xa)).z=bG ((xb.sub xa).cross (va.sub xa)).z))=aaU s t [xa,xb] [ua] [va]:=by
 rw[decide_eq_decide.2 (fD (n:=((xb.sub xa).cross (ua.sub xa)).dot (va.sub xa)))];rfl
theorem amq{s t:T3}(h:(rQ s t).length=3):aaU s t (rQ s t) (uQ s t) (uQ t s)=true:=by
 generalize rQ s t=L at h;rcases L with _ | ⟨x,_ | ⟨y,_ | ⟨z,L⟩⟩⟩ <;> simp only[au,bt] at h <;> try omega
 rfl
theorem Pk{s t:T3}[IT s][IT t]:eM prog 241 [tr s,tr t] (.bool (Ro s t)):=by
 intro w;refine⟨akq,?_⟩;have m:=Mem.refl w;refine (callsIn_wide (n:=4)).1 (callsIn_of_wp_marks func241 rfl trivial ?_ rfl);simp only[ntmps241,List.size_toArray,au,bt,aa,Nat.reduceSub,Array.replicate_succ,Array.replicate_zero,List.push_toArray,List.append_toArray,bv,b_];refine wpIn_wide.2 ?_;refine aV fun K1 k1=>am (Nu m rfl ?_);clear m;intro g1 u m;simp only[zz];refine Nu m rfl ?_;clear m;intro g2 u m;simp only[zz];refine kO m mE rfl ?_;clear m;intro g3 u m;refine aL (k1 _ _ ?_);try clear k1 K1
 refine aV fun K2 k2=>aV fun K3 k3=>am ?_;simp only[zz];refine aO rfl ((m.b 2 rfl).full cF aN) ?_;simp only[zz];refine bJ rfl rfl (abc (t:=s) _) ?_;rintro v u e ⟨g4,rfl,hg,hB⟩;replace m:=m.newB e hg hB;clear e hg hB;refine aL (k3 _ _ ?_);try clear k3 K3
 refine wp_block ?_;simp only[zz];refine Vv (v1:=fun x=>pt (s.cor x)) (v2:=fun x=>pt (s.cor ((x+1)%3))) (c1:=fun x=>[.int .i64 (s.cor x).x,.int .i64 (s.cor x).y,.int .i64 (s.cor x).z]) (c2:=fun x=>[.int .i64 (s.cor ((x+1)%3)).x,.int .i64 (s.cor ((x+1)%3)).y,.int .i64 (s.cor ((x+1)%3)).z]) (T1:=30) (T2:=30) (d1:=5) (d2:=6) (csB:=aK s) (tB:=39) rfl adJ (Hb 3 (by omega) g4 0 s _ (m.b 0 rfl)) (fun _=>[bI g4 (aK s) 39,bI g3 [.bool false] 4,bI g2 [.int .i64 t.a.x,.int .i64 t.a.y,.int .i64 t.a.z,.int .i64 t.b.x,.int .i64 t.b.y,.int .i64 t.b.z,.int .i64 t.c.x,.int .i64 t.c.y,.int .i64 t.c.z] 39,bI g1 [.int .i64 s.a.x,.int .i64 s.a.y,.int .i64 s.a.z,.int .i64 s.b.x,.int .i64 s.b.y,.int .i64 s.b.z,.int .i64 s.c.x,.int .i64 s.c.y,.int .i64 s.c.z] 39]) (fun _=>[bI g3 [.bool true] 4]) (fun pre=>∀k∈pre,iN (s.cor k) (s.cor ((k+1)%3)) t=false) (fun pre=>∃k∈pre,iN (s.cor k) (s.cor ((k+1)%3)) t=true) (fun _ i hi=>by simp only[ak,bw,or_false] at hi;rcases hi with rfl | rfl | rfl | rfl <;> exact⟨_,_,_,rfl⟩) (fun _ i hi=>by simp only[ak,bw,or_false] at hi;subst hi ;exact⟨_,_,_,rfl⟩) (fun _=>rfl) (fun _=>ba (i:=0) rfl) m (fun k hk=>by cases hk) ?_ ?_ ?_ ?_
 · skip
   intro r pre x W K m hK;simp only[zF,zG];refine lR fun K4 k4=>bL (Dk m gN rfl ?_);clear m;intro g5 u m;simp only[zz];refine xO m 0 rfl rfl rfl aA (jE rfl) rfl ?_;clear m;intro u m;simp only[zy,zx,over,zF,zG,aa] at m;refine aL (k4 _ _ ?_);try clear k4 K4
   refine bL (Dk m gN rfl ?_);clear m;intro g6 u m;simp only[zz];refine xO m 0 rfl rfl rfl aA (jE rfl) rfl ?_;clear m;intro u m;simp only[zy,zx,over,zF,zG,aa] at m;exact aL (hK _ _ _ m)
 · skip
   intro r pre x g5 g6 W Q' _ hJ hN m hn hr
   · skip
     simp only[zF,zG];refine mV (lR fun K5 k5=>bL (aO rfl ((m.b 1 rfl).full aG aA) ?_));simp only[zz];refine aO rfl ((m.b 0 rfl).full aG aA) ?_;simp only[zz];refine aO rfl ((m.b 4 rfl).full cF aN) ?_;simp only[zz];refine Ib m rfl rfl (Sy (p:=s.cor x) (q:=s.cor ((x+1)%3)) (t:=t)) ?_;clear m;intro u m;refine aL (k5 _ _ ?_);try clear k5 K5
     simp only[zz];refine vA rfl (fun hc1=>?_) (fun hc1=>?_)
     · skip
       refine lR fun K6 k6=>bL (gV m 3 rfl rfl rfl dM (jE rfl) ⟨rfl,rfl⟩ ?_);clear m;intro u m;simp only[zz,zy,zx,over,aa] at m;refine aL (k6 _ _ ?_);try clear k6 K6
       refine Ia ?_;exact hr _ _ ⟨m.toMem.sel [false,false,false,true],m.rx⟩ ⟨x,by simp,hc1⟩
     · skip
       refine afx ?_;exact hn _ _ ⟨m.toMem.sel [false,false,true,true,true,true],m.rx⟩ (fun k hk=>by
        rcases bg.1 hk with hk | hk
        · exact hJ k hk
        · rw[ay.1 hk];exact hc1)
 rotate_left
 · rintro D pre u hS ⟨k,hk,ho⟩ m
   try simp only[cj,Exit.then]
   refine Xj (Wy.mk (m.get 0 rfl)) ?_;replace m:=m.putD (o':=.deferred none) 0 rfl;exact aQ rfl ⟨_,rfl,(m.b 1 rfl).lies1 mN rfl⟩ (⟨_,rfl,m.ext,by rw[←ah3 (hS k hk) ho]⟩)
 rintro D xs u rfl hj m;refine k2 _ _ ?_;try clear k2 K2
 refine aV fun K7 k7=>am (cK m 2 rfl rfl rfl dM (jE rfl) ⟨rfl,rfl⟩ ?_);clear m;intro u m;simp only[zz,zy,zx,over,aa] at m;refine aL (k7 _ _ ?_);try clear k7 K7
 refine wp_ret ?_;try simp only[cj,Exit.then,if_true]
 refine Xj (Wy.mk (m.get 0 rfl)) ?_;replace m:=m.putD (o':=.deferred none) 0 rfl;simp only[zF,zG] at m;refine aQ rfl ⟨_,rfl,((m.b 2 rfl).lies1 mN rfl)⟩ ?_;try simp only[zD,zE]
 exact⟨_,rfl,m.ext,by rw[←afJ hj]⟩
theorem We{s t:T3}(w:ah):dF prog 240 [tr s,tr t] w (fun v w'=>∃A4 n4 c4 A5 n5 c5,v=.tuple #[.slice A4 n4 c4,.slice A5 n5 c5]∧n4=(rQ s t).length∧n5=(uQ s t).length∧Mem w w' [oI 30 3 A5 n5 c5 ((uQ s t).flatMap oN),oI 30 3 A4 n4 c4 ((rQ s t).flatMap oN)]):=by
 refine⟨akp,?_⟩;have m:=Mem.refl w
 go_enter func240,ntmps240
 refine eS 4 [0] m ?_;simp only[↓aD];intro g1 g2;intro u m;refine aB aM ?_;replace m:=m.nilO 30 3;refine aB aM ?_;replace m:=m.nilO 30 3;refine aP 8 [3,0] m ?_;simp only[↓aD,gZ];intro u m;refine bW [4,5,9] [7,10,11,12,13,14,15,16,17,18,19,20,21,22,23,24,25,26,27,28,29,30,31,32,33,34,35,36] (fun n vs wl=>∃(k:Nat) (A4 A5:Option Addr) (cap4 cap5:Nat),vs=[.slice A4 (Br s t k).length cap4,.slice A5 (Bt s t k).length cap5,.int .i64 (k:Int)]∧Mem w wl [oI 30 3 A5 (Bt s t k).length cap5 ((Bt s t k).flatMap oN),oI 30 3 A4 (Br s t k).length cap4 ((Br s t k).flatMap oN),bI g2 [.int .i64 t.a.x,.int .i64 t.a.y,.int .i64 t.a.z,.int .i64 t.b.x,.int .i64 t.b.y,.int .i64 t.b.z,.int .i64 t.c.x,.int .i64 t.c.y,.int .i64 t.c.z] 39]∧(k≤3)∧(n=3-k)) ?_ ?_
 · skip
   apply Exists.intro;simp only[zQ,zR,zD,zE];exact⟨0,_,_,_,_,rfl,(m.sel [true,true,true,false]),by omega,rfl⟩
 · intro n vs wr hI u K1 hK1
   clear m;obtain⟨k,A4,A5,cap4,cap5,rfl,m,hk,hn⟩:=hI;simp only[zu,zF,zG];refine aS 5 [0,0] m ?_;simp only[↓aD];intro u m;refine bC rfl (fun hc1=>?_) (fun hc1=>?_)
   · skip
     have hk3:k<3:=by omega
     refine aS 5 [0] m ?_;simp only[↓aD];intro u m;refine aB ((Wd (t:=s) hk3 rfl rfl)) (aP 8 [0,0,3,0] m ?_);simp only[↓aD,eU,aR,dB,aa,ab,ad];intro g3;refine⟨by omega,?_⟩;intro u m;refine aB (cG rfl rfl) (aP 1 [0] m ?_);simp only[↓aD];intro u m;refine eV rfl (fun hb=>aW rfl ((m.b 0 rfl).full aG aA)) (dG rfl (fun hb=>aJ dC aA rfl rfl (by decide) (by decide) rfl) ?_);simp only[zz];refine eV rfl (fun hb=>aW (bD hb rfl) ((m.b 3 rfl).lies aG aA rfl rfl)) ?_;simp only[zz,zy,aq,aa,ad,ab];refine dG rfl (fun hb=>cG (bD hb rfl) (bD hb rfl)) (aB (dW rfl rfl rfl) ?_);refine aP 1 [0] m ?_;simp only[↓aD];intro u m;refine eV rfl (fun hb=>aW rfl ((m.b 0 rfl).full aG aA)) (dG rfl (fun hb=>aJ dC aA rfl rfl (by decide) (by decide) rfl) ?_);simp only[zz];refine eV rfl (fun hb=>aW (bD hb rfl) ((m.b 3 rfl).lies aG aA rfl rfl)) ?_;simp only[zz,zy,aq,aa,ad,ab];refine dG rfl (fun hb=>cG (bD hb rfl) (bD hb rfl)) (aB (dW rfl rfl rfl) ?_);refine aP 1 [0] m ?_;simp only[↓aD];intro u m;refine gR rfl (fun hc2=>?_) (fun hc2=>?_)
     · skip
       rw[aiV] at hc2;refine aS 3 [0,0] m ?_;simp only[↓aD,aR];intro u m;refine mO rfl ?_;intro u g4 e hg hB;replace m:=m.newB e hg hB;clear e hg hB;simp only[zz];refine bR m 3 rfl rfl dS oD rfl (by decide) rfl rfl rfl (m.b 0 rfl).rowsO (jM rfl) (by have:=abf s t k;omega) (by have:=abf s t k;omega) ?_;clear m;intro A4 cap4 u m;simp only[zF,zG] at m;rw[show (Br s t k).flatMap oN++_=(Br s t (k+1)).flatMap oN by rw[Dp hk3,hc2,av];rfl,show (Br s t k).length+1=(Br s t (k+1)).length by rw[Dp hk3,hc2,aw];rfl] at m;rw[show (Br s t k).length+1=(Br s t (k+1)).length by rw[Dp hk3,hc2,aw];rfl];refine aP 7 [0] m ?_;simp only[↓aD];refine⟨by omega,?_⟩;intro u m;have he:Bt s t (k+1)=Bt s t k:=by rw[Dr hk3,hc2,if_pos rfl,e_]
       rw[←he] at m ⊢;refine hK1 (3-(k+1)) _ _ ?_ ?_ ?_
       · omega
       · simp only[zz,zv]
       · simp only[zQ,zR,zD,zE]
         exact⟨k+1,_,_,_,_,rfl,(m.sel [false,false,true,true,true]),by omega,rfl⟩
     · skip
       rw[aiV] at hc2;refine aS 3 [0,0] m ?_;simp only[↓aD,aR];intro u m;refine mO rfl ?_;intro u g4 e hg hB;replace m:=m.newB e hg hB;clear e hg hB;simp only[zz];refine bR m 2 rfl rfl dS oD rfl (by decide) rfl rfl rfl (m.b 0 rfl).rowsO (jM rfl) (by have:=abg s t k;omega) (by have:=abg s t k;omega) ?_;clear m;intro A5 cap5 u m;simp only[zF,zG] at m;rw[show (Bt s t k).flatMap oN++_=(Bt s t (k+1)).flatMap oN by rw[Dr hk3,hc2,av];rfl,show (Bt s t k).length+1=(Bt s t (k+1)).length by rw[Dr hk3,hc2,aw];rfl] at m;rw[show (Bt s t k).length+1=(Bt s t (k+1)).length by rw[Dr hk3,hc2,aw];rfl];refine aP 7 [0] m ?_;simp only[↓aD];refine⟨by omega,?_⟩;intro u m;have he:Br s t (k+1)=Br s t k:=by rw[Dp hk3,hc2,if_neg iq,e_]
       rw[←he] at m ⊢;refine hK1 (3-(k+1)) _ _ ?_ ?_ ?_
       · omega
       · simp only[zz,zv]
       · simp only[zQ,zR,zD,zE]
         exact⟨k+1,_,_,_,_,rfl,(m.sel [false,false,true,true,true]),by omega,rfl⟩
   · skip
     obtain rfl:k=3:=by omega
     refine aS 9 [] m ?_;simp only[↓aD];intro u m;exact vW rfl rfl rfl (⟨_,rfl,m.ext,_,_,_,_,_,_,rfl,rfl,rfl,m.sel [true,true,false]⟩)
theorem amr{s t:T3}[IT s][IT t]:eM prog 176 [tr s,tr t] (.bool (Oq s t)):=by
 intro w;refine⟨aj0,?_⟩;have m:=Mem.refl w
 go_enter func176,ntmps176
 refine eS 9 [1] m ?_;simp only[↓aD,gZ];intro g1 g2;intro u m;refine cR 1 [0,0] m ?_;simp only[↓aD,gZ];intro u m;refine bJ rfl rfl (We (s:=s) (t:=t) _) ?_;rintro v u e ⟨A5,n5,c5,A6,n6,c6,rfl,hn5,hn6,hM⟩;replace m:=m.plus hM;clear hM e;simp only[b_,bv] at m;refine aP 10 [2,3,0] m ?_;simp only[↓aD,gZ];intro u m;refine bJ rfl rfl (We (s:=t) (t:=s) _) ?_;rintro v u e ⟨A7,n7,c7,A8,n8,c8,rfl,hn7,hn8,hM⟩;replace m:=m.plus hM;clear hM e;simp only[b_,bv] at m;refine aP 13 [0,0] m ?_;simp only[↓aD,kX];intro u m;refine eV rfl (fun hb=>aW rfl ((m.b 5 rfl).full cF aN)) (Qo m rfl rfl (fun hb=>by simp only[dt,bn,c_,zA,zB,zC,zD,zE,hb,kG];rfl) (fun hb=>Sr (t:=s)) ?_);clear m;intro u m;refine aB (dW rfl rfl rfl) (aP 1 [0] m ?_);simp only[↓aD];intro u m;refine eV rfl (fun hb=>aW rfl ((m.b 4 rfl).full cF aN)) (Qo m rfl rfl (fun hb=>by simp only[dt,bn,c_,zA,zB,zC,zD,zE,hb,kG];rfl) (fun hb=>Sr (t:=t)) ?_);clear m;intro u m;refine aB (dW rfl rfl rfl) (aP 1 [0] m ?_);simp only[↓aD];intro u m;refine gR rfl (fun hc1=>?_) (fun hc1=>?_)
 · skip
   rw[Bo,Bo] at hc1;refine aS 4 [5,4,0] m ?_;simp only[↓aD,gZ];intro u m;refine vJ m rfl rfl (Pk (s:=s) (t:=t)) 1 [0] ?_;simp only[↓aD];intro u m;refine eV rfl (fun hb=>aW rfl ((m.b 4 rfl).full cF aN)) (eV rfl (fun hb=>aW rfl ((m.b 5 rfl).full cF aN)) (Qo m rfl rfl (fun hb=>by simp only[dt,bn,c_,zA,zB,zC,zD,zE,hb,kG];rfl) (fun hb=>Pk (s:=t) (t:=s)) ?_));clear m;intro u m;refine aB (dW rfl rfl rfl) (aP 3 [] m ?_);simp only[↓aD];intro u m;refine aQ rfl rfl ?_;try simp only[zD,zE]
   exact⟨_,rfl,m.ext,by rw[amn hn5 hc1]⟩
 · skip
   rw[Bo,Bo] at hc1;obtain⟨⟨hz,hf1,hf2⟩,hme⟩:=amo hn5 hc1;refine aS 3 [] m ?_;simp only[↓aD];intro u m;rcases Zy hf1 hf2 hz with ⟨xa,ua,ub,va,vb,h1,h2,h3⟩ | ⟨xa,xb,ua,va,h1,h2,h3⟩ | h1
   · skip
     rw[h1] at hn5;rw[h2] at hn6;rw[h3] at hn8;have i1:I3 ua:=Fs (i:=0) h2 rfl;have i2:I3 ub:=Fs (i:=1) h2 rfl;have i3:I3 va:=Fs (i:=0) h3 rfl;have i4:I3 vb:=Fs (i:=1) h3 rfl;simp only[au,bt] at hn5 hn6 hn8;subst hn5;subst hn6;subst hn8;rw[h1,h2,h3] at m;obtain⟨g5,rfl⟩:=(m.o 3 rfl).some (by decide);obtain⟨g6,rfl⟩:=(m.o 2 rfl).some (by decide);obtain⟨g8,rfl⟩:=(m.o 0 rfl).some (by decide);refine tO 12 [1,0] m ?_;simp only[↓aD,kX];refine⟨by omega,?_⟩;rintro u m rfl;refine mq m aC (by kernel_rfl) (aH aI ?_);simp only[zz];refine aH (aF dS aA rfl rfl (by decide) (by omega) rfl) ?_;simp only[zz];refine ql rfl (fun u m=>(((m.o 2 rfl).at (enc:=oN) (i:=0) Hg rfl).lies aG aA)) ?_;simp only[zz];refine aH aI ?_;simp only[zz];refine aH (aF dS aA rfl rfl (by decide) (by omega) rfl) ?_;simp only[zz];refine ql rfl (fun u m=>(((m.o 2 rfl).at (enc:=oN) (i:=1) Hg rfl).lies aG aA)) ?_;simp only[zz];refine ql rfl (fun u m=>((m.b 4 rfl).full cF aN)) ?_;simp only[zz];refine iF rfl rfl (Sy (p:=ua) (q:=ub) (t:=t)) (aH aI (gF rfl (fun hb=>aI) ?_));simp only[zz];refine gF rfl (fun hb=>aF dS aA (bD hb rfl) rfl (by decide) (by omega) rfl) ?_;simp only[zz];refine nJ rfl (fun hb u m=>aW (bD hb rfl) (((m.o 0 rfl).at (enc:=oN) (i:=0) Hg rfl).lies aG aA)) (gF rfl (fun hb=>aI) ?_);simp only[zz];refine gF rfl (fun hb=>aF dS aA (bD hb rfl) rfl (by decide) (by omega) rfl) ?_;simp only[zz];refine nJ rfl (fun hb u m=>aW (bD hb rfl) (((m.o 0 rfl).at (enc:=oN) (i:=1) Hg rfl).lies aG aA)) (nJ rfl (fun hb u m=>aW rfl ((m.b 5 rfl).full cF aN)) (aaB rfl rfl (fun hb=>by simp only[dt,bn,c_,zA,zB,zC,zD,zE,hb,kG];rfl) (fun hb=>Sy (p:=va) (q:=vb) (t:=s)) (aH (dW rfl rfl rfl) (aH aM (aY ?_)))));clear m;intro u m;refine tO 1 [] m ?_;simp only[↓aD];rintro u m rfl;refine aQ rfl rfl ?_;try simp only[zD,zE]
     exact⟨_,rfl,m.ext,by rw[hme,h1,h2,h3];rfl⟩
   · skip
     rw[h1] at hn5;rw[h2] at hn6;rw[h3] at hn8;have i1:I3 xa:=afN (i:=0) h1 rfl;have i2:I3 xb:=afN (i:=1) h1 rfl;have i3:I3 ua:=Fs (i:=0) h2 rfl;have i4:I3 va:=Fs (i:=0) h3 rfl;simp only[au,bt] at hn5 hn6 hn8;subst hn5;subst hn6;subst hn8;rw[h1,h2,h3] at m;obtain⟨g5,rfl⟩:=(m.o 3 rfl).some (by decide);obtain⟨g6,rfl⟩:=(m.o 2 rfl).some (by decide);obtain⟨g8,rfl⟩:=(m.o 0 rfl).some (by decide);refine tO 18 [2,1,0] m ?_;simp only[↓aD,kX];refine⟨by omega,?_⟩;rintro u m rfl;apply am3 m (T1:=30) (T2:=30)
     · skip
       refine Nv m [true,true,true,true,true,true] (.take 0 (.take 1 (.take 2 (.take 3 (.take 4 (.take 5 (.two 6 (.one 7 (.one 8 (.one 9 .nil))) 7 (.one 6 (.one 8 (.one 9 .nil)))))))))) aC (by kernel_rfl) (fun _ _ _ _ _ h=>by cases h.1) ?_;intro u m;refine dO (by simp only[zw];rfl) (aU aI (bM (dO (by simp only[zw];rfl) ?_)));simp only[zz];refine aU (aF dS aA rfl rfl (by decide) (by omega) rfl) (bM (dO (by simp only[zw];rfl) ?_));simp only[zz];refine eN rfl (fun u m=>(((m.o 3 rfl).at (enc:=oN) (i:=0) Hg rfl).lies aG aA)) ?_;simp only[zz];refine bM (dO (by simp only[zw];rfl) (aU aI (bM (dO (by simp only[zw];rfl) ?_))));simp only[zz];refine aU (aF dS aA rfl rfl (by decide) (by omega) rfl) (bM (dO (by simp only[zw];rfl) ?_));simp only[zz];refine eN rfl (fun u m=>(((m.o 3 rfl).at (enc:=oN) (i:=1) Hg rfl).lies aG aA)) ?_;simp only[zz];refine bM ?_;refine Ty (by simp only[zw];rfl) (by simp only[zw];rfl) ?_ ?_
       · skip
         refine kO m gN rfl ?_;clear m;intro g3 u m;refine aL (⟨m.sel [false,true,true,true,true,true,true],?_⟩);refine lJ (by simp only[zw];rfl) ?_;simp only[zz];refine kO m gN rfl ?_;clear m;intro g4 u m;refine aL (⟨m.sel [false,false,true,true,true,true,true,true],?_⟩);refine lJ (by simp only[zw];rfl) ?_;simp only[zz];refine cD m 1 rfl rfl rfl aA (jE rfl) rfl ?_;clear m;intro u m;simp only[zy,zx,over,zF,zG,aa] at m;refine aL (⟨m.sel [false,false,true,true,true,true,true,true],?_⟩);refine lJ (by simp only[zw];rfl) ?_;refine cD m 0 rfl rfl rfl aA (jE rfl) rfl ?_;clear m;intro u m;simp only[zy,zx,over,zF,zG,aa] at m;refine aL (⟨m.sel [false,false,true,true,true,true,true,true],?_⟩);exact Ab (⟨rfl,g3,g4,rfl,m⟩)
       · skip
         refine kO m gN rfl ?_;clear m;intro g3 u m;refine aL (⟨m.sel [false,true,true,true,true,true,true],?_⟩);refine lJ (by simp only[zw];rfl) ?_;simp only[zz];refine kO m gN rfl ?_;clear m;intro g4 u m;refine aL (⟨m.sel [false,false,true,true,true,true,true,true],?_⟩);refine lJ (by simp only[zw];rfl) ?_;simp only[zz];refine cD m 0 rfl rfl rfl aA (jE rfl) rfl ?_;clear m;intro u m;simp only[zy,zx,over,zF,zG,aa] at m;refine aL (⟨m.sel [false,false,true,true,true,true,true,true],?_⟩);refine lJ (by simp only[zw];rfl) ?_;refine cD m 1 rfl rfl rfl aA (jE rfl) rfl ?_;clear m;intro u m;simp only[zy,zx,over,zF,zG,aa] at m;refine aL (⟨m.sel [false,false,true,true,true,true,true,true],?_⟩);exact Ab (⟨rfl,g4,g3,rfl,m.s01⟩)
     intro g3 g4 u m;try dsimp only
     refine tO 1 [0] m ?_;simp only[↓aD];rintro u m rfl;refine mq m aC (by kernel_rfl) (eC 3 [1,0] ?_);simp only[↓aD,aR];refine aH (aF dS aA rfl rfl (by decide) (by omega) rfl) ?_;simp only[zz];refine ql rfl (fun u m=>(((m.o 4 rfl).at (enc:=oN) (i:=0) Hg rfl).lies aG aA)) ?_;simp only[zz];refine aH aI ?_;simp only[zz];refine aH (aF dS aA rfl rfl (by decide) (by omega) rfl) ?_;simp only[zz];refine ql rfl (fun u m=>(((m.o 2 rfl).at (enc:=oN) (i:=0) Hg rfl).lies aG aA)) ?_;simp only[zz];refine iF rfl rfl (rX (a:=xa) (b:=xb) (c:=ua) (d:=va)) (aH (tC rfl rfl) (aH aI ?_));simp only[zz];refine eH rfl (fun hb u m=>aW rfl ((m.b 1 rfl).full aG aA)) (eH rfl (fun hb u m=>aW rfl ((m.b 0 rfl).full aG aA)) (eH rfl (fun hb u m=>aW rfl ((m.b 1 rfl).full aG aA)) (cX rfl (fun hb=>aI) ?_)));simp only[zz];refine cX rfl (fun hb=>aF dS aA (bD hb rfl) rfl (by decide) (by omega) rfl) ?_;simp only[zz];refine eH rfl (fun hb u m=>aW (bD hb rfl) (((m.o 4 rfl).at (enc:=oN) (i:=0) Hg rfl).lies aG aA)) (Qp rfl rfl (fun hb=>by simp only[dt,bn,c_,zA,zB,zC,zD,zE,hb,kG];rfl) (fun hb=>oQ (a:=xa) (b:=xb) (c:=xa) (d:=ua)) ?_);simp only[zz];refine eH rfl (fun hb u m=>aW rfl ((m.b 1 rfl).full aG aA)) (eH rfl (fun hb u m=>aW rfl ((m.b 0 rfl).full aG aA)) (eH rfl (fun hb u m=>aW rfl ((m.b 1 rfl).full aG aA)) (cX rfl (fun hb=>aI) ?_)));simp only[zz];refine cX rfl (fun hb=>aF dS aA (bD hb rfl) rfl (by decide) (by omega) rfl) ?_;simp only[zz];refine eH rfl (fun hb u m=>aW (bD hb rfl) (((m.o 2 rfl).at (enc:=oN) (i:=0) Hg rfl).lies aG aA)) (Qp rfl rfl (fun hb=>by simp only[dt,bn,c_,zA,zB,zC,zD,zE,hb,kG];rfl) (fun hb=>oQ (a:=xa) (b:=xb) (c:=xa) (d:=va)) (cX rfl (fun hb=>Oe (bD hb rfl) (bD hb rfl)) (aH (eO rfl rfl rfl) (aH aM ?_))));simp only[zz];refine aY ?_;clear m;intro u m;refine tO 1 [] m ?_;simp only[↓aD];rintro u m rfl;refine aQ rfl rfl ?_;try simp only[zD,zE]
     exact⟨_,rfl,m.ext,by rw[hme,h1,h2,h3];exact congrArg bf amp⟩
   · skip
     rw[h1] at hn5;subst hn5;refine tO 24 [2,2] m ?_;simp only[↓aD,kX];refine⟨by omega,?_⟩;rintro u m rfl;refine aQ rfl rfl ?_;try simp only[zD,zE]
     exact⟨_,rfl,m.ext,by rw[hme,amq h1]⟩
theorem afO{g50 g51:Nat}{t r:T3}[IT t][IT r](w:ah)(hB50:fA w g50 [.int .i64 (Bh t 0),.int .i64 (Bh t 1),.int .i64 (Bh t 2),.int .i64 (Bi t 0),.int .i64 (Bi t 1),.int .i64 (Bi t 2)] 222)(hB51:fA w g51 (aK t) 39):dF prog 174 [tr r,.pointer (some ⟨g50,0,none⟩),.pointer (some ⟨g51,0,none⟩)] w (fun v _=>v=.bool (sH t r)):=by
 refine⟨ajY,?_⟩;have m:=Mem.refl w
 go_enter func174,ntmps174
 refine eS 6 [0] m ?_;simp only[↓aD];intro g1;intro u m;refine mq m aC (by kernel_rfl) (ql rfl (fun u m=>((hB50.ext m.ext).full aaG Nz)) ?_);simp only[zz];refine ql rfl (fun u m=>((m.b 0 rfl).full cF aN)) ?_;simp only[zz];refine iF rfl rfl (Vr (t:=r)) ?_;simp only[zz];refine iF rfl rfl (amb (t:=t) (r:=r)) (aH aI ?_);simp only[zz];refine eH rfl (fun hb u m=>aW rfl ((m.b 0 rfl).full cF aN)) (eH rfl (fun hb u m=>aW rfl ((hB51.ext m.ext).full cF aN)) (Qp rfl rfl (fun hb=>by simp only[dt,bn,c_,zA,zB,zC,zD,zE,hb,kG];rfl) (fun hb=>amr (s:=r) (t:=t)) (aH (eO rfl rfl rfl) (aH aM (aY ?_)))));clear m;intro u m;refine cR 1 [] m ?_;simp only[↓aD];intro u m;exact aQ rfl rfl (⟨_,rfl,m.ext,rfl⟩)
theorem afP{ts:List T3}{N cap:Nat}{A:Option Addr}{g50 g51:Nat}{t:T3}[IT t](w:ah)(hB50:fA w g50 [.int .i64 (Bh t 0),.int .i64 (Bh t 1),.int .i64 (Bh t 2),.int .i64 (Bi t 0),.int .i64 (Bi t 1),.int .i64 (Bi t 2)] 222)(hB51:fA w g51 (aK t) 39)(hT:bK w A N ts)(hN:N≤10000000):dF prog 244 [.slice A N cap,.func (.func 174) #[] #[.pointer (some ⟨g50,0,none⟩),.pointer (some ⟨g51,0,none⟩)]] w (fun v _=>∃k:Int,v=.int .i64 k∧decide (0≤k)=ts.any (sH t)):=by
 refine⟨akt,?_⟩;have m:=Mem.refl w;have htl:=hT.len
 go_enter func244,ntmps244
 refine eS 12 [0] m ?_;simp only[↓aD,iS];intro u m;refine bW [8] [4,5,9,10,11,12,13,14,15,16,17,18] (fun n vs wl=>∃(k:Nat),vs=[.int .i64 (k:Int)]∧Mem w wl []∧(∀(j:Nat) (r:T3),j<k→ts[j]? = some r→sH t r=false)∧(k≤N)∧(n=N-k)) ?_ ?_
 · skip
   apply Exists.intro;simp only[zQ,zR,zD,zE];exact⟨0,rfl,m,(fun j r h=>by omega),cd _,rfl⟩
 · intro n vs wr hI u K1 hK1
   clear m;obtain⟨k,rfl,m,hq0,hk,hn⟩:=hI;simp only[zu,zF,zG];refine aS 5 [0,0] m ?_;simp only[↓aD];intro u m;refine bC rfl (fun hc1=>?_) (fun hc1=>?_)
   · skip
     obtain⟨r,hr,hri,a,rfl,hrow⟩:=hT.get (i:=k) (by omega);refine aS 13 [0] m ?_;simp only[↓aD];intro u m;refine aB (aF bT aN rfl rfl (by omega) (by omega) (cI (ag _))) ?_;simp only[zz];refine aO rfl ((hrow.ext m.ext).lies cF aN) ?_;simp only[zz];refine cW m rfl rfl (afO (t:=t) (r:=r) _ (hB50.ext m.ext) (hB51.ext m.ext)) ?_;clear m;rintro v u m rfl;refine aP 1 [0] m ?_;simp only[↓aD];intro u m;refine dQ rfl (fun hc2=>?_) (fun hc2=>?_)
     · skip
       refine aS 6 [] m ?_;simp only[↓aD];intro u m;refine aQ rfl rfl ?_;try simp only[zD,zE]
       exact⟨_,rfl,m.ext,k,rfl,by rw[decide_eq_true (by omega:(0:Int)≤k)];exact (dx.2 ⟨r,ba hr,hc2⟩).symm⟩
     · skip
       refine aS 6 [0] m ?_;simp only[↓aD];refine⟨by omega,?_⟩;intro u m;refine hK1 (N-(k+1)) _ _ ?_ ?_ ?_
       · omega
       · simp only[zz,zv]
       · simp only[zQ,zR,zD,zE]
         exact⟨k+1, rfl, m, (fun j r2 hj h1 => by
          rcases eo j k with h | h
          · exact hq0 j r2 h h1
          · obtain rfl:j=k:=by omega
            rw[hr] at h1;cases h1;exact hc2),by omega,rfl⟩
   · skip
     obtain rfl:k=N:=by omega
     refine aS 6 [] m ?_;simp only[↓aD];intro u m;refine aQ rfl rfl ?_;try simp only[zD,zE]
     exact⟨_,rfl,m.ext,-1,rfl,(by rw[show ts.any (sH t)=false from List.any_eq_false.2 fun r hr=>by obtain⟨j,hj⟩:=dm.1 hr;rw[hq0 j r (by have:=(ar.1 hj).1;omega) hj];decide];rfl)⟩
theorem xT{ts:List T3}{N cap:Nat}{A:Option Addr}{g50 g51:Nat}{t:T3}[IT t](w:ah)(hB50:fA w g50 [.int .i64 (Bh t 0),.int .i64 (Bh t 1),.int .i64 (Bh t 2),.int .i64 (Bi t 0),.int .i64 (Bi t 1),.int .i64 (Bi t 2)] 222)(hB51:fA w g51 (aK t) 39)(hT:bK w A N ts)(hN:N≤10000000):dF prog 177 [.slice A N cap,.func (.func 174) #[] #[.pointer (some ⟨g50,0,none⟩),.pointer (some ⟨g51,0,none⟩)]] w (fun v _=>v=.bool (ts.any (sH t))):=by
 refine⟨aj1,?_⟩;have m:=Mem.refl w
 go_enter func177,ntmps177
 refine eS 8 [0] m ?_;simp only[↓aD];intro u m;refine cW m rfl rfl (afP (t:=t) _ (hB50.ext m.ext) (hB51.ext m.ext) (hT.ext m.ext) hN) ?_;clear m;rintro v u m ⟨kk,rfl,hkk⟩;refine aP 4 [0] m ?_;simp only[↓aD];intro u m;refine aQ rfl rfl ?_;try simp only[zD,zE]
 exact⟨_,rfl,m.ext,by rw[←hkk]⟩
def Nh(ms rs:List T3)(t:T3)(k:Nat):Bool:=!rs.any (sH t) && !(ms.take k).any (sH t)
def acJ(ms rs:List T3):Bool:=ms.zipIdx.all fun x=>Nh ms rs x.1 x.2
theorem abh{ms rs:List T3}{k:Nat}{t:T3}(ht:ms[k]? = some t)(h:Nh ms rs t k=false):acJ ms rs=false:=by
 unfold acJ;rw[List.all_eq_false];exact⟨(t,k),List.mk_mem_zipIdx_iff_getElem?.2 ht,by rw[h];decide⟩
theorem afQ{ms rs:List T3}(h:∀(k:Nat) (t:T3),ms[k]? = some t→Nh ms rs t k=true):acJ ms rs=true:=by
 unfold acJ;rw[ew];rintro⟨t,k⟩ hx;exact h k t (List.mk_mem_zipIdx_iff_getElem?.1 hx)
theorem ams{ms rs:List T3}{t:T3}{k:Nat}(h:rs.any (sH t)=true):Nh ms rs t k=false:=by unfold Nh;rw[h];rfl
theorem amt{ms rs:List T3}{t:T3}{k:Nat}(h:(ms.take k).any (sH t)=true):Nh ms rs t k=false:=by unfold Nh;rw[h,Bool.not_true,gw]
theorem amu{ms rs:List T3}{t:T3}{k:Nat}(h1:rs.any (sH t)=false)(h2:(ms.take k).any (sH t)=false):Nh ms rs t k=true:=by unfold Nh;rw[h1,h2];rfl
theorem afR{g90 g91 ga gf gx gy N cap cx cy cf nm cm no co nr cr:Nat}{A Am Ao Ar:Option Addr}{ex ey ef:Array bx}{X Y F:List (P3 × Bool)}{ts:List T3}{p q:P3}{ms rs:List T3}(w:ah)(hB91:fA w g91 [.pointer (some ⟨g90,0,none⟩),.int .i64 p.x,.int .i64 p.y,.int .i64 p.z,.int .i64 q.x,.int .i64 q.y,.int .i64 q.z,.map (some gx),.map (some gy),.slice Am nm cm,.slice Ao no co,.slice Ar nr cr] 218)(hB90:fA w g90 [.slice A N cap,.map (some ga),.map (some gf)] 109)(hTm:bK w Am nm ms)(hTr:bK w Ar nr rs)(hcm:nm≤cm)(hN:nm+nr≤10000000):dF prog 105 [.pointer (some ⟨g91,0,none⟩)] w (fun v _=>v=.bool (acJ ms rs)):=by
 refine⟨ajt,?_⟩;have m:=Mem.refl w;have htm:=hTm.len
 go_enter func105,ntmps105
 refine eS 10 [0] m ?_;simp only[↓aD,Df,aa];intro u m;refine aO rfl ((hB91.ext m.ext).lies1 pH rfl) ?_;simp only[zz];refine aP 4 [0] m ?_;simp only[↓aD,iS];intro u m;refine bW [12] [2,3,4,5,6,13,14,15,16,17,18,19,20,21,22,23,24,25,26,27,28,29,30,31,32,33,34,35,36] (fun n vs wl=>∃(k:Nat),vs=[.int .i64 (k:Int)]∧Mem w wl []∧(∀(j:Nat) (t:T3),j<k→ms[j]? = some t→Nh ms rs t j=true)∧(k≤nm)∧(n=nm-k)) ?_ ?_
 · skip
   apply Exists.intro;simp only[zQ,zR,zD,zE];exact⟨0,rfl,m,(fun j t h=>by omega),cd _,rfl⟩
 · intro n vs wr hI u K1 hK1
   clear m;obtain⟨k,rfl,m,hu0,hk,hn⟩:=hI;simp only[zu,zF,zG];refine aS 5 [0,0] m ?_;simp only[↓aD];intro u m;refine bC rfl (fun hc1=>?_) (fun hc1=>?_)
   · skip
     obtain⟨t,ht,hti,a,rfl,hrow⟩:=hTm.get (i:=k) (by omega);refine aS 6 [0] m ?_;simp only[↓aD];intro u m;refine aB (aF bT aN rfl rfl (by omega) (by omega) (cI (ag _))) ?_;simp only[zz];refine aO rfl ((hrow.ext m.ext).lies cF aN) ?_;simp only[zz];refine aP 7 [0,0,0] m ?_;simp only[↓aD,mU,gZ,aa];intro g1;intro u m;refine vJ m rfl rfl (Vr (t:=t)) 5 [0,0] ?_;simp only[↓aD,Zb,Za,aa];intro g2;intro u m;refine aB eX ?_;simp only[zz,fb,bn,c_];refine aP 3 [] m ?_;simp only[↓aD];intro u m;rcases Bool.eq_false_or_eq_true (rs.any (sH t)) with hq | hq
     · skip
       refine cR 4 [0] m ?_;simp only[↓aD,Kv,aa];intro u m;refine aO rfl ((hB91.ext m.ext).lies1 pH rfl) ?_;simp only[zz];refine aP 1 [0] m ?_;simp only[↓aD];intro u m;refine cW m rfl rfl (xT (ts:=rs) (t:=t) _ (m.b 0 rfl) (m.b 1 rfl) (hTr.ext m.ext) (by omega)) ?_;clear m;rintro v u m rfl;simp only[zz];rw[hq];refine aP 17 [] m ?_;simp only[↓aD];intro u m;refine aQ rfl rfl ?_;try simp only[zD,zE]
       exact⟨_,rfl,m.ext,by rw[abh ht (ams hq)]⟩
     · skip
       refine cR 4 [0] m ?_;simp only[↓aD,Kv,aa];intro u m;refine aO rfl ((hB91.ext m.ext).lies1 pH rfl) ?_;simp only[zz];refine aP 1 [0] m ?_;simp only[↓aD];intro u m;refine cW m rfl rfl (xT (ts:=rs) (t:=t) _ (m.b 0 rfl) (m.b 1 rfl) (hTr.ext m.ext) (by omega)) ?_;clear m;rintro v u m rfl;simp only[zz];rw[hq];refine aP 4 [0] m ?_;simp only[↓aD,Df,aa];intro u m;refine eD rfl (aO rfl ((hB91.ext m.ext).lies1 pH rfl) ?_);simp only[zz];refine aP 1 [0] m ?_;simp only[↓aD];intro u m;refine eD rfl (aB (lB bT aN rfl rfl (ag _) (by omega) (by omega)) ?_);refine aP 1 [0] m ?_;simp only[↓aD];intro u m;refine eD rfl (cW m rfl rfl (xT (ts:=ms.take k) (t:=t) _ (m.b 0 rfl) (m.b 1 rfl) ((hTm.take (k:=k) (by omega)).ext m.ext) (by omega)) ?_);clear m;rintro v u m rfl;refine aP 2 [0] m ?_;simp only[↓aD];intro u m;refine dQ rfl (fun hc2=>?_) (fun hc2=>?_)
       · skip
         refine aS 5 [] m ?_;simp only[↓aD];intro u m;refine aQ rfl rfl ?_;try simp only[zD,zE]
         exact⟨_,rfl,m.ext,by rw[abh ht (amt hc2)]⟩
       · skip
         refine aS 6 [0] m ?_;simp only[↓aD];refine⟨by omega,?_⟩;intro u m;refine hK1 (nm-(k+1)) _ _ ?_ ?_ ?_
         · omega
         · simp only[zz,zv]
         · simp only[zQ,zR,zD,zE]
           exact⟨k+1, rfl, (m.sel [false, false]), (fun j t2 hj h1 => by
            rcases eo j k with h | h
            · exact hu0 j t2 h h1
            · obtain rfl:j=k:=by omega
              rw[ht] at h1;cases h1;exact amu hq hc2),by omega,rfl⟩
   · skip
     refine aS 6 [] m ?_;simp only[↓aD];intro u m;refine aQ rfl rfl ?_;try simp only[zD,zE]
     exact⟨_,rfl,m.ext,by rw[afQ fun j t h1=>hu0 j t (by have:=(ar.1 h1).1;omega) h1]⟩
end Go.Proofs.YtfekpcimgncioaaGreatDoor
namespace Go.Lith
open Go.RowKit
section
variable {P:bc} {ops:Array Oper} {Q:Exit→Act→ah→Prop} {md:Region.Mode} {S:ah→Prop} {tl:List Nat}
def Bu(P:bc)(md:Region.Mode)(ops:Array Oper)(Q:Exit→Act→ah→Prop)(S:ah→Prop)(tl:List Nat):Nat→Array Bool→Act→ah→Prop
 | 0,listed,a,w=>Region.ready md ops listed=[]∧Q .normal a w
 | fuel+1,listed,a,w =>
  (Region.ready md ops listed=[]→Q .normal a w) ∧
  ∀i∈Region.ready md ops listed,wpOp P ops Q i (fun a' w'=>(i∉tl→S w→S w')∧Bu P md ops Q S tl fuel (listed.setIfInBounds i true) a' w') a w
theorem Lo:∀(fuel:Nat) (listed:Array Bool) (a:Act) (w:ah),Bu P md ops Q S tl fuel listed a w→wpAny P md ops Q fuel listed a w
 | 0,_,_,_,h=>h
 | fuel+1,_,_,_,h=>⟨h.1,fun i hi=>wpOp_mono (fun a' w' h'=>Lo fuel _ a' w' h'.2) (h.2 i hi)⟩
def Zz(md:Region.Mode)(ops:Array Oper)(listed:Array Bool):Prop:=∀j oj,ops[j]? = some oj→listed.getD j false=true→∀e∈oj.after,Region.binds md e=true→listed.getD e.on false=true
def Lp(md:Region.Mode)(ops:Array Oper):Nat→Nat→Nat→Bool
 | 0,_,_=>false
 | f+1,j,i=>match ops[j]? with
  | none=>false
  | some o=>o.after.any fun e=>Region.binds md e&&(e.on == i||Lp md ops f e.on i)
theorem Ds{listed:Array Bool}(D:Zz md ops listed){i:Nat}:∀(f j:Nat),(∀oj,ops[j]? = some oj→∀e∈oj.after,Region.binds md e=true→listed.getD e.on false=true)→Lp md ops f j i=true→listed.getD i false=true
 | 0,_,_,h=>by cases h
 | f+1,j,hj,h=>by
  unfold Lp at h;split at h
  · cases h
  · rename_i o ho
    rw[Array.any_eq_true] at h;obtain⟨k,hk,hh⟩:=h;rw[bh,fu,beq_iff_eq] at hh;have hl:=hj o ho _ (Array.getElem_mem hk) hh.1;rcases hh.2 with e | hn
    · rw[←e];exact hl
    · exact Ds D f _ (fun oj hoj e he hb=>D _ oj hoj hl e he hb) hn
theorem Zz.set{listed:Array Bool}(D:Zz md ops listed){i:Nat}(hi:i∈Region.ready md ops listed):Zz md ops (listed.setIfInBounds i true):=fun j oj hoj hl e he hb=>by
 obtain⟨h0,o,ho,hall⟩:=mem_ready.1 hi;by_cases e':i=j
 · subst e'
   rw[ho] at hoj;cases hoj;exact getD_set_true (hall e he hb)
 · rw[getD_set_ne false e'] at hl
   exact getD_set_true (D j oj hoj hl e he hb)
theorem Dt{S':ah→Prop}{i:Nat}{oi:Oper}{v:ac}(hi:ops[i]? = some oi)(hsel:∀(j:Nat) (o:Oper) cs b,ops[j]? = some o→o.op≠.select cs b)
 (hQ:∀c a w,Q (.panic c) (a.put oi.dst v) w→Q (.panic c) a w) (hk:(∀w,S' w)∨((∀w,S w→S' w)∧∀j∈tl,∃f,Lp md ops f j i=true)) :
 ∀(fuel:Nat) (listed:Array Bool) (a:Act) (w:ah),
  (∀j oj,ops[j]? = some oj→j≠i→listed.getD j true=false→(∀e∈oj.after,Region.binds md e=true→e.on≠i)→oi.apart ops oj=true) →
  i∈Region.ready md ops listed→Zz md ops listed→YieldsIf P ops S' oi v a→(S w∨∀w,S' w) →
  Bu P md ops Q S tl fuel (listed.setIfInBounds i true) (a.put oi.dst v) w→Bu P md ops Q S tl (fuel+1) listed a w:=by
 intro fuel;have hS':∀w,(S w∨∀w,S' w)→S' w:=fun w h=>by
  rcases h with h | h
  · rcases hk with k | k
    · exact k w
    · exact k.1 w h
  · exact h w
 induction fuel with
 | zero =>
  intro listed a w _ hr D hy hS H;refine⟨fun h=>(by rw[h] at hr;cases hr),fun j hj=>?_⟩;by_cases hji:j=i
  · subst hji;exact hy.wpOp hi (hS' w hS) ⟨fun _ h=>h,H⟩
  · have:=ready_mono hj hji
    rw[H.1] at this;cases this
 | succ fuel ih =>
  intro listed a w hfree hr D hy hS H;refine⟨fun h=>(by rw[h] at hr;cases hr),fun j hj=>?_⟩;by_cases hji:j=i
  · subst hji;exact hy.wpOp hi (hS' w hS) ⟨fun _ h=>h,H⟩
  · have h1:=H.2 j (ready_mono hj hji)
    obtain⟨hjun,oj,hoj,hall⟩:=mem_ready.1 hj;have hiun:listed.getD i false=true→False:=fun h1=>by
     have h0:=(mem_ready.1 hr).1;rcases eo i listed.size with h' | h'
     · simp[h'] at h0 h1;rw[h0] at h1;cases h1
     · simp[Array.getElem?_eq_none h'] at h1
    have hnot:∀e∈oj.after,Region.binds md e=true→e.on≠i:=fun e he hb heq=>hiun (heq▸hall e he hb);have h2:=wpOp_putIf hoj (hfree j oj hoj hji hjun hnot) (fun cs b=>hsel i oi cs b hi) (fun cs b=>hsel j oj cs b hoj) hQ hy h1;have hfree':∀k ok,ops[k]? = some ok→k≠i→(listed.setIfInBounds j true).getD k true=false →
     (∀e∈ok.after,Region.binds md e=true→e.on≠i)→oi.apart ops ok=true:=fun k ok hk hki hun hno=>by
     refine hfree k ok hk hki ?_ hno;by_cases hjk:j=k
     · subst hjk;exact hjun
     · rw[getD_set_ne true hjk] at hun;exact hun
    have hstay:∀w',(j∉tl→S w→S w')→(S w'∨∀w,S' w):=fun w' h=>by
     rcases hk with k | k
     · exact .inr k
     · rcases hS with hS | hS
       · refine .inl (h (fun hm=>?_) hS)
         obtain⟨f,hf⟩:=k.2 j hm;exact hiun (Ds D f j (fun oj' hoj' e he hb=>by rw[hoj] at hoj';cases hoj';exact hall e he hb) hf)
       · exact .inr hS
    refine wpOp_mono (fun a' w' h3=>⟨h3.2.1,ih (listed.setIfInBounds j true) a' w' hfree' (ready_mono hr (Ne.symm hji)) (D.set hj) h3.1 (hstay w' h3.2.1) ?_⟩) h2;rw[Array.setIfInBounds_comm _ _ hji];exact h3.2.2
theorem Lr{rs:List Nat}{fuel:Nat}{listed:Array Bool}{a:Act}{w:ah}(hr:Region.ready md ops listed=rs)(hne:rs≠[])
 (h:∀i∈rs,wpOp P ops Q i (fun a' w'=>(i∉tl→S w→S w')∧Bu P md ops Q S tl fuel (listed.setIfInBounds i true) a' w') a w):Bu P md ops Q S tl (fuel+1) listed a w :=
 ⟨fun h0=>absurd (hr▸h0) hne,hr▸h⟩
inductive sZ where
 | nil:sZ
 | take:Nat→sZ→sZ
 | move:Nat→sZ→sZ
 | one:Nat→sZ→sZ
 | two:Nat→sZ→Nat→sZ→sZ
def sZ.ok(md:Region.Mode)(ops:Array Oper)(tl:List Nat):sZ→Nat→Array Bool→Bool→Bool
 | .nil,f,listed,_=>f == 0&&(Region.ready md ops listed).isEmpty
 | .take i t,f,listed,b=>decide (0<f)&&(ops[i]?).isSome&&Region.free md ops listed i&&(Region.ready md ops listed).contains i&&b&&tl.all (fun j=>Lp md ops 6 j i)&&t.ok md ops tl (f-1) (listed.setIfInBounds i true) b
 | .move i t,f,listed,b=>decide (0<f)&&(ops[i]?).isSome&&Region.free md ops listed i&&(Region.ready md ops listed).contains i&&t.ok md ops tl (f-1) (listed.setIfInBounds i true) b
 | .one i t,f,listed,b=>decide (0<f)&&(ops[i]?).isSome&&decide (Region.ready md ops listed=[i])&&t.ok md ops tl (f-1) (listed.setIfInBounds i true) (b && !tl.contains i)
 | .two i t j u,f,listed,b=>decide (0<f)&&(ops[i]?).isSome&&(ops[j]?).isSome&&decide (Region.ready md ops listed=[i,j])&&t.ok md ops tl (f-1) (listed.setIfInBounds i true) (b && !tl.contains i)&&u.ok md ops tl (f-1) (listed.setIfInBounds j true) (b && !tl.contains j)
def gQ(P:bc)(ops:Array Oper)(S:ah→Prop)(tl:List Nat)(Q:Exit→Act→ah→Prop):sZ→Act→ah→Prop
 | .nil,a,w=>Q .normal a w
 | .take i t,a,w=>bE P ops S (fun _ a w=>gQ P ops S tl Q t a w) [((ops[i]?).getD default,true)] a w
 | .move i t,a,w=>bE P ops (fun _=>True) (fun _ a w=>gQ P ops S tl Q t a w) [((ops[i]?).getD default,true)] a w
 | .one i t,a,w=>ao P ops (Exit.then (fun a w=>(i∉tl→S w)∧gQ P ops S tl Q t a w) Q) [(ops[i]?).getD default] a w
 | .two i t j u,a,w=>ao P ops (Exit.then (fun a w=>(i∉tl→S w)∧gQ P ops S tl Q t a w) Q) [(ops[i]?).getD default] a w∧ao P ops (Exit.then (fun a w=>(j∉tl→S w)∧gQ P ops S tl Q u a w) Q) [(ops[j]?).getD default] a w
theorem jV{Q:Exit→Act→ah→Prop}(hs:Region.noSelect ops=true)(hQ:∀c d v a w,Q (.panic c) (Act.put a d v) w→Q (.panic c) a w):∀(t:sZ) (f:Nat) (listed:Array Bool) (b:Bool) (a:Act) (w:ah),
 t.ok md ops tl f listed b=true→Zz md ops listed→(b=true→S w)→gQ P ops S tl Q t a w→Bu P md ops Q S tl f listed a w
 | .nil,f,listed,b,a,w,hB,_,_,h=>by
  simp only[sZ.ok,bh,beq_iff_eq] at hB;obtain⟨rfl,h2⟩:=hB;exact⟨by simpa using h2,h⟩
 | .take i t,f,listed,b,a,w,hB,D,hS,h=>by
  simp only[sZ.ok,bh,decide_eq_true_eq] at hB;obtain⟨⟨⟨⟨⟨⟨h0,h1⟩,h2⟩,h3⟩,hb⟩,hn⟩,h4⟩:=hB;obtain⟨o,ho⟩:=df.1 h1;simp only[gQ,bE,ho,cv] at h;obtain⟨v,hy,hr⟩:=h;obtain⟨f,rfl⟩:∃g,f=g+1:=⟨f-1,by omega⟩
  have hrd:i∈Region.ready md ops listed:=by simpa using h3
  refine Dt (S':=S) ho (Region.noSelect_spec hs) (fun c a w=>hQ c _ v a w) (.inr ⟨fun _ h=>h,fun j hj=>⟨6,ew.1 hn j hj⟩⟩) f listed a w (Region.free_spec ho h2) hrd D hy (.inl (hS hb)) ?_;exact jV hs hQ t f _ b _ _ h4 (D.set hrd) hS hr
 | .move i t,f,listed,b,a,w,hB,D,hS,h=>by
  simp only[sZ.ok,bh,decide_eq_true_eq] at hB;obtain⟨⟨⟨⟨h0,h1⟩,h2⟩,h3⟩,h4⟩:=hB;obtain⟨o,ho⟩:=df.1 h1;simp only[gQ,bE,ho,cv] at h;obtain⟨v,hy,hr⟩:=h;obtain⟨f,rfl⟩:∃g,f=g+1:=⟨f-1,by omega⟩
  have hrd:i∈Region.ready md ops listed:=by simpa using h3
  refine Dt (S':=fun _=>True) ho (Region.noSelect_spec hs) (fun c a w=>hQ c _ v a w) (.inl fun _=>trivial) f listed a w (Region.free_spec ho h2) hrd D hy (.inr fun _=>trivial) ?_;exact jV hs hQ t f _ b _ _ h4 (D.set hrd) hS hr
 | .one i t,f,listed,b,a,w,hB,D,hS,h=>by
  simp only[sZ.ok,bh,decide_eq_true_eq] at hB;obtain⟨⟨⟨h0,h1⟩,h2⟩,h4⟩:=hB;obtain⟨o,ho⟩:=df.1 h1;obtain⟨f,rfl⟩:∃g,f=g+1:=⟨f-1,by omega⟩
  refine Lr h2 (by simp) fun j hj=>?_;obtain rfl:j=i:=by simpa using hj
  simp only[gQ,ho,cv] at h;refine wpOp_mono (fun a' w' hh=>⟨fun hn _=>hh.1 hn,jV hs hQ t f _ _ a' w' h4 (D.set (by rw[h2];exact ay.2 rfl)) (fun hb=>hh.1 ?_) hh.2⟩) (iE ho h);simp only[bh,fm,List.contains_eq_mem,decide_eq_false_iff_not] at hb;exact hb.2
 | .two i t j u,f,listed,b,a,w,hB,D,hS,h=>by
  simp only[sZ.ok,bh,decide_eq_true_eq] at hB;obtain⟨⟨⟨⟨⟨h0,h1⟩,h1'⟩,h2⟩,h4⟩,h5⟩:=hB;obtain⟨o,ho⟩:=df.1 h1;obtain⟨o',ho'⟩:=df.1 h1';obtain⟨f,rfl⟩:∃g,f=g+1:=⟨f-1,by omega⟩
  simp only[gQ,ho,ho',cv] at h;have hb2:∀{k:Nat},(b && !tl.contains k)=true→k∉tl:=fun {k} hb=>by
   simp only[bh,fm,List.contains_eq_mem,decide_eq_false_iff_not] at hb;exact hb.2
  refine Lr h2 (by simp) fun k hk=>?_;have hk':k=i∨k=j:=by simpa using hk
  rcases hk' with rfl | rfl
  · exact wpOp_mono (fun a' w' hh=>⟨fun hn _=>hh.1 hn,jV hs hQ t f _ _ a' w' h4 (D.set (by rw[h2];simp)) (fun hb=>hh.1 (hb2 hb)) hh.2⟩) (iE ho h.1)
  · exact wpOp_mono (fun a' w' hh=>⟨fun hn _=>hh.1 hn,jV hs hQ u f _ _ a' w' h5 (D.set (by rw[h2];simp)) (fun hb=>hh.1 (hb2 hb)) hh.2⟩) (iE ho' h.2)
theorem amv(md:Region.Mode)(ops:Array Oper)(n:Nat):Zz md ops (fc n false):=fun j oj _ hl=>by
 rcases eo j n with h | h
 · simp[h] at hl
 · simp[Nat.not_lt.2 h] at hl
variable {w w0:ah} {is:List It} {a:Act} {ds:List Deferred} {l:List ac}
theorem aiW{id:Nat}{ol:List Oper}(m:Mem w0 w is)(bs:List Bool)(tl:List Nat)(t:sZ)(hm:P.follows .mixedOrders=true)(hB:(Region.noSelect ol.toArray&&t.ok .any ol.toArray tl ol.toArray.size (fc ol.toArray.size false) true)=true)
 (hQ:∀c d v a w,Q (.panic c) (Act.put a d v) w→Q (.panic c) a w)
 (h:∀u,Mem w0 u is→gQ P ol.toArray (fun u=>Mem w0 u (nI bs is)) tl Q t a u):(Code.region id ol.toArray true).wp P Q a w:=by
 simp only[bh] at hB;have m':=m.ext' (eW.refl w).drawn;exact wp_region_any hm (Lo _ _ _ _ (jV (S:=fun u=>Mem w0 u (nI bs is)) hB.1 hQ t _ _ true _ _ hB.2 (amv _ _ _) (fun _=>m'.sel bs) (h _ m')))
variable {o o':Oper} {i j:Nat} {t u:sZ}
theorem abi(h:Q .normal a w):gQ P ops S tl Q .nil a w:=h
theorem iB(ho:(ops[i]?).getD default=o)(h:bE P ops S (fun _ a w=>gQ P ops S tl Q t a w) [(o,true)] a w):gQ P ops S tl Q (.take i t) a w:=by subst ho;exact h
theorem By(ho:(ops[i]?).getD default=o)(h:bE P ops (fun _=>True) (fun _ a w=>gQ P ops S tl Q t a w) [(o,true)] a w):gQ P ops S tl Q (.move i t) a w:=by subst ho;exact h
theorem pV(ho:(ops[i]?).getD default=o)(h:ao P ops (Exit.then (fun a w=>(i∉tl→S w)∧gQ P ops S tl Q t a w) Q) [o] a w):gQ P ops S tl Q (.one i t) a w:=by subst ho;exact h
theorem aiX(ho:(ops[i]?).getD default=o)(ho':(ops[j]?).getD default=o')(h:ao P ops (Exit.then (fun a w=>(i∉tl→S w)∧gQ P ops S tl Q t a w) Q) [o] a w)(h':ao P ops (Exit.then (fun a w=>(j∉tl→S w)∧gQ P ops S tl Q u a w) Q) [o'] a w):gQ P ops S tl Q (.two i t j u) a w:=by
 subst ho;subst ho';exact⟨h,h'⟩
end
end Go.Lith
namespace Go.Proofs.YtfekpcimgncioaaGreatDoor
open Go.Proofs.Tryz
open Go.RowKit Go.Lith
set_option maxRecDepth 100000
attribute [local irreducible] ao wpQuiet eZ bE bX Code.wp
attribute [local congr] nO fF fG fH fI fJ jH fK fL fM fN fO fP fQ fR fS fT fU dX dY fV fW fY fZ gA jJ cO cP cA cN fX jI dZ eA eB gB gC jK
theorem aoG{u v:P3}{ts:List T3}{k:Nat}{t:T3}(h:ts[k]? = some t)(e:rS u v t=t):nY u v (ts.take (k+1))=nY u v (ts.take k)++[t]∧kQ u v (ts.take (k+1))=kQ u v (ts.take k):=by
 rw[cC h];unfold nY kQ;simp[e]
theorem afS{u v:P3}{ts:List T3}{k:Nat}{t:T3}(h:ts[k]? = some t)(e:¬rS u v t=t)(hn:(rS u v t).nd=true):kQ u v (ts.take (k+1))=kQ u v (ts.take k)++[t]∧nY u v (ts.take (k+1))=nY u v (ts.take k):=by
 rw[cC h];unfold nY kQ;simp[e,hn]
theorem aoH{u v:P3}{ts:List T3}{k:Nat}{t:T3}(h:ts[k]? = some t)(e:¬rS u v t=t)(hn:(rS u v t).nd=false):kQ u v (ts.take (k+1))=kQ u v (ts.take k)∧nY u v (ts.take (k+1))=nY u v (ts.take k):=by
 rw[cC h];unfold nY kQ;simp[e,hn]
theorem abj{u v:P3}{l m:List T3}(h:kQ u v l=kQ u v m):kR u v l=kR u v m:=by unfold kR;rw[h]
theorem aaa{u v:P3}{ts:List T3}{k:Nat}{t:T3}(h:kQ u v (ts.take (k+1))=kQ u v (ts.take k)++[t]):kR u v (ts.take (k+1))=kR u v (ts.take k)++[rS u v t]:=by unfold kR;rw[h,cl];rfl
theorem afT(u v:P3)(l:List T3):(nY u v l).length≤l.length:=ep ..
theorem aab(u v:P3)(l:List T3):(kQ u v l).length≤l.length:=ep ..
theorem Sz(u v:P3)(l:List T3):(kR u v l).length=(kQ u v l).length:=List.length_map ..
theorem afU{s t:T3}:(s.a.x=t.a.x∧s.a.y=t.a.y∧s.a.z=t.a.z∧s.b.x=t.b.x∧s.b.y=t.b.y∧s.b.z=t.b.z∧s.c.x=t.c.x∧s.c.y=t.c.y∧s.c.z=t.c.z)↔s=t :=
 ⟨fun⟨h1,h2,h3,h4,h5,h6,h7,h8,h9⟩=>Rm (P3.eq h1 h2 h3) (P3.eq h4 h5 h6) (P3.eq h7 h8 h9),fun h=>by rw[h];simp only[and_self]⟩
theorem amw{g90 ga gf N cap ca:Nat}{A:Option Addr}{ea:Array bx}{D:List (P3 × Hd)}{ts:List T3}{p q:P3}[I3 p][I3 q](w:ah)(hB90:fA w g90 [.slice A N cap,.map (some ga),.map (some gf)] 109)(hMa:gW w ga ea ca)(hDa:bB pt Hd.v D ea ca)(hS:∀p,bK w (mX D p).A (mX D p).n (ts.filter fun t=>t.has p)∧(mX D p).n≤(mX D p).cap)(hT:bK w A N ts)(hN:ts.length≤10000000):dF prog 99 [.pointer (some ⟨g90,0,none⟩),pt p,pt q] w (fun v w'=>∃g91 gx ex cx gy ey cy Am nm cm Ao no co Ar nr cr,v=.pointer (some ⟨g91,0,none⟩)∧Mem w w' [bI g91 [.pointer (some ⟨g90,0,none⟩),.int .i64 p.x,.int .i64 p.y,.int .i64 p.z,.int .i64 q.x,.int .i64 q.y,.int .i64 q.z,.map (some gx),.map (some gy),.slice Am nm cm,.slice Ao no co,.slice Ar nr cr] 218,oI 39 9 Ar nr cr ((nY p q ts).flatMap aK),oI 39 9 Ao no co ((kQ p q ts).flatMap aK),oI 39 9 Am nm cm ((kR p q ts).flatMap aK),mI gy ey cy,mI gx ex cx]∧bB pt bf (eY [] (lI ts p)) ex cx∧bB pt bf (eY [] (lI ts q)) ey cy∧nm=(kR p q ts).length∧no=(kQ p q ts).length∧nr=(nY p q ts).length):=by
 refine⟨anS,?_⟩;have m:=Mem.refl w;have htl:=hT.len
 go_enter func99,ntmps99
 refine eS 7 [0] m ?_;simp only[↓aD];intro g1 g2;intro u m;refine mh m [true,true] [(0,true),(3,true),(6,true),(1,true),(2,true),(4,true),(7,true),(5,false),(8,false),(9,true),(10,false),(11,true)] aC (by kernel_rfl) (bQ (fun _ _ _ _ _ h=>h)) (ol:=?_) ?hol ?_
 case hol=>simp only[zw,zQ,zR];try rfl
 clear m;intro u m;refine Mz 7 [1,0,1,0] ?_;simp only[↓aD,aR];refine bV (bJ rfl rfl (Sn (p:=p) _ (hB90.ext m.ext) (hMa.ext m.ext) hDa (fun z=>⟨((hS z).1).ext m.ext,(hS z).2⟩) hN) ?_);rintro v u e ⟨qx,esx,cx,rfl,hM,hDx⟩;replace m:=m.plus hM;clear hM e;simp only[b_,bv] at m;refine aL (⟨m.sel [false,true,true],?_⟩);refine bV ?_;simp only[zz];refine bJ rfl rfl (Sn (p:=q) _ (hB90.ext m.ext) (hMa.ext m.ext) hDa (fun z=>⟨((hS z).1).ext m.ext,(hS z).2⟩) hN) ?_;rintro v u e ⟨qy,esy,cy,rfl,hM,hDy⟩;replace m:=m.plus hM;clear hM e;simp only[b_,bv] at m;refine aL (⟨m.sel [false,false,true,true],?_⟩);refine aU (vO rfl rfl rfl rfl rfl) (bV ?_);simp only[zz];refine Nu m rfl ?_;clear m;intro g3 u m;refine aL (⟨m.sel [false,false,false,true,true],?_⟩);refine aU aM (bM ?_);simp only[zz];replace m:=m.nilO 39 9;replace m:=m.nilO 39 9;replace m:=m.nilO 39 9;replace m:=m.pull 3 rfl;simp only[cY,cZ,zF,zG] at m;refine cR 6 [0] m ?_;simp only[↓aD,aey,aa];intro u m;refine aO rfl ((hB90.ext m.ext).lies1 pH rfl) ?_;simp only[zz];refine aP 4 [0] m ?_;simp only[↓aD,iS];intro u m;refine bW [28] [9,10,11,29,30,31,32,33,34,35,36,37,38,39,40,41,42,43,44,45,46,47,48,49,50,51,52,53,54,55,56,57,58,59,60,61,62,63,64,65,66,67,68,69,70,71,72,73,74,75] (fun n vs wl=>∃(k:Nat) (A5 A6 A7:Option Addr) (cap5 cap6 cap7:Nat),vs=[.int .i64 (k:Int)]∧Mem w wl [bI g3 [.pointer (some ⟨g90,0,none⟩),.int .i64 p.x,.int .i64 p.y,.int .i64 p.z,.int .i64 q.x,.int .i64 q.y,.int .i64 q.z,.map (some qx),.map (some qy),.slice A5 (kR p q (ts.take k)).length cap5,.slice A6 (kQ p q (ts.take k)).length cap6,.slice A7 (nY p q (ts.take k)).length cap7] 218,oI 39 9 A7 (nY p q (ts.take k)).length cap7 ((nY p q (ts.take k)).flatMap aK),oI 39 9 A6 (kQ p q (ts.take k)).length cap6 ((kQ p q (ts.take k)).flatMap aK),oI 39 9 A5 (kR p q (ts.take k)).length cap5 ((kR p q (ts.take k)).flatMap aK),mI qy esy cy,mI qx esx cx,bI g2 [.int .i64 q.x,.int .i64 q.y,.int .i64 q.z] 30,bI g1 [.int .i64 p.x,.int .i64 p.y,.int .i64 p.z] 30]∧(k≤N)∧(n=N-k)) ?_ ?_
 · skip
   apply Exists.intro;simp only[zQ,zR,zD,zE];exact⟨0,_,_,_,_,_,_,rfl,m,cd _,rfl⟩
 · intro n vs wr hI u K1 hK1
   clear m;obtain⟨k,A5,A6,A7,cap5,cap6,cap7,rfl,m,hk,hn⟩:=hI;simp only[zu,zF,zG];refine aS 5 [0,0] m ?_;simp only[↓aD];intro u m;refine bC rfl (fun hc1=>?_) (fun hc1=>?_)
   · skip
     obtain⟨t,ht,hti,a,hA,hrow⟩:=hT.get (i:=k) (by omega);subst hA;have hle1:=afT p q (ts.take k);have hle2:=aab p q (ts.take k);have hle3:=Sz p q (ts.take k);rw[br] at hle1 hle2;refine aS 5 [0] m ?_;simp only[↓aD];intro u m;refine aB (aF bT aN rfl rfl (by omega) (by omega) (cI (ag _))) ?_;simp only[zz];refine aO rfl ((hrow.ext m.ext).lies cF aN) ?_;simp only[zz];refine aP 8 [0,0,8,7,0] m ?_;simp only[↓aD,mU,gZ,aR,aa];intro g4;intro u m;refine vJ m rfl rfl (aa5 (t:=t) (p:=p) (q:=q)) 12 [0,0,1,0] ?_;simp only[↓aD,mU,gZ,aa];intro g5;intro u m;refine aB (abT rfl rfl) (aP 2 [0] m ?_);simp only[↓aD];intro u m;refine bC rfl (fun hc2=>?_) (fun hc2=>?_)
     · skip
       refine aiW m [true,true,true,false,true,true,true,true,true,true] [10] (.take 0 (.take 1 (.take 2 (.take 3 (.take 4 (.take 5 (.one 6 (.one 7 (.take 8 (.take 9 (.one 10 .nil))))))))))) aC (by kernel_rfl) (bQ (fun _ _ _ _ _ h=>h)) ?_;clear m;intro u m;refine iB (by simp only[zw];rfl) (aU aI (bM (iB (by simp only[zw];rfl) (aU aI (bM (iB (by simp only[zw];rfl) (aU (cJ rfl) (bM (iB (by simp only[zw];rfl) (aU (aZ (c:=0) lO rfl fE rfl rfl) ?_))))))))));simp only[zz];refine bM (iB (by simp only[zw];rfl) (eN rfl (fun u m=>((m.b 2 rfl).lies1 pH rfl)) ?_));simp only[zz];refine bM (iB (by simp only[zw];rfl) (eN rfl (fun u m=>((m.b 1 rfl).full cF aN)) ?_));simp only[zz];refine bM (pV (by simp only[zw];rfl) ?_);refine eF rfl ?_;intro u g6 e hg hB;replace m:=m.newB e hg hB;clear e hg hB;refine aL (⟨fun _=>m.sel [false,true,true,true,false,true,true,true,true,true,true],?_⟩);refine pV (by simp only[zw];rfl) ?_;simp only[zz];refine bR m 4 rfl rfl bT iA rfl (by decide) rfl rfl rfl (m.b 0 rfl).rowsO (jM rfl) (by have:=hle1;omega) (by have:=hle1;omega) ?_;clear m;intro A7 cap7 u m;simp only[zF,zG] at m;refine aL (⟨fun _=>m.sel [false,true,true,true,false,true,true,true,true,true,true],?_⟩);refine iB (by simp only[zw];rfl) (aU (cJ rfl) (bM (iB (by simp only[zw];rfl) (aU (aZ (c:=0) lO rfl fE rfl rfl) (bM (pV (by simp only[zw];rfl) ?_))))));simp only[zz];refine cK (off:=11) m 3 rfl rfl rfl fE (jE rfl) ⟨rfl,rfl⟩ ?_;clear m;intro u m;simp only[zz,zy,zx,over,aa] at m;refine aL (⟨fun h=>absurd (by decide) h,?_⟩);refine abi (cR 6 [0] m ?_);simp only[↓aD];refine⟨by omega,?_⟩;intro u m;have hcs:=aoG (u:=p) (v:=q) ht (afU.1 hc2);have hcm:=abj hcs.2;rw[show ((nY p q (ts.take k))).flatMap aK++_=(nY p q (ts.take (k+1))).flatMap aK by rw[hcs.1,av];rfl,show ((nY p q (ts.take k))).length+1=(nY p q (ts.take (k+1))).length by rw[hcs.1,aw];rfl] at m;rw[←hcs.2,←hcm] at m;refine hK1 (N-(k+1)) _ _ ?_ ?_ ?_
       · omega
       · simp only[zz,zv]
       · simp only[zQ,zR,zD,zE]
         exact⟨k+1,_,_,_,_,_,_,rfl,(m.sel [false,false,false,true,true,true,true,true,true,true,true]),by omega,rfl⟩
     · skip
       refine aS 5 [0] m ?_;simp only[↓aD];intro u m;refine dQ rfl (fun hc3=>?_) (fun hc3=>?_)
       · skip
         refine aiW m [true,true,true,true,false,false,true,true,true,true] [18,21] (.take 0 (.move 1 (.take 2 (.take 3 (.take 4 (.take 5 (.take 6 (.take 9 (.take 10 (.take 11 (.take 12 (.take 13 (.two 7 (.two 8 (.one 14 (.one 15 (.take 16 (.take 17 (.one 18 (.move 19 (.move 20 (.one 21 .nil)))))))) 14 (.one 8 (.one 15 (.take 16 (.take 17 (.one 18 (.move 19 (.move 20 (.one 21 .nil))))))))) 14 (.one 7 (.one 8 (.one 15 (.take 16 (.take 17 (.one 18 (.move 19 (.move 20 (.one 21 .nil)))))))))))))))))))))) aC (by kernel_rfl) (bQ (fun _ _ _ _ _ h=>h)) ?_;clear m;intro u m;refine iB (by simp only[zw];rfl) (aU aI (bM (By (by simp only[zw];rfl) (aU aI (bM (iB (by simp only[zw];rfl) (aU aI (bM (iB (by simp only[zw];rfl) (aU (cJ rfl) ?_))))))))));simp only[zz];refine bM (iB (by simp only[zw];rfl) (aU (aZ (c:=0) lO rfl fE rfl rfl) (bM (iB (by simp only[zw];rfl) ?_))));simp only[zz];refine eN rfl (fun u m=>((m.b 2 rfl).lies1 pH rfl)) ?_;simp only[zz];refine bM (iB (by simp only[zw];rfl) (eN rfl (fun u m=>((m.b 0 rfl).full cF aN)) ?_));simp only[zz];refine bM (iB (by simp only[zw];rfl) (aU aI (bM (iB (by simp only[zw];rfl) (aU (cJ rfl) (bM (iB (by simp only[zw];rfl) (aU (aZ (c:=0) lO rfl fE rfl rfl) (bM (iB (by simp only[zw];rfl) ?_))))))))));simp only[zz];refine eN rfl (fun u m=>((m.b 2 rfl).lies1 pH rfl)) ?_;simp only[zz];refine bM (iB (by simp only[zw];rfl) (eN rfl (fun u m=>((m.b 1 rfl).full cF aN)) ?_));simp only[zz];refine bM ?_;refine aiX (by simp only[zw];rfl) (by simp only[zw];rfl) ?_ ?_
         · skip
           refine eF rfl ?_;intro u g6 e hg hB;replace m:=m.newB e hg hB;clear e hg hB;refine aL (⟨fun _=>m.sel [false,true,true,true,true,false,false,true,true,true,true],?_⟩);simp only[zz];refine aiX (by simp only[zw];rfl) (by simp only[zw];rfl) ?_ ?_
           · skip
             refine bR m 6 rfl rfl bT iA rfl (by decide) rfl rfl rfl (m.b 0 rfl).rowsO (jM rfl) (by have:=hle3;omega) (by have:=hle3;omega) ?_;clear m;intro A5 cap5 u m;simp only[zF,zG] at m;refine aL (⟨fun _=>m.sel [false,true,true,true,true,false,false,true,true,true,true],?_⟩);refine pV (by simp only[zw];rfl) ?_;simp only[zz];refine eF rfl ?_;intro u g7 e hg hB;replace m:=m.newB e hg hB;clear e hg hB;refine aL (⟨fun _=>m.sel [false,false,true,true,true,true,false,false,true,true,true,true],?_⟩);refine pV (by simp only[zw];rfl) ?_;simp only[zz];refine bR m 6 rfl rfl bT iA rfl (by decide) rfl rfl rfl (m.b 0 rfl).rowsO (jM rfl) (by have:=hle2;omega) (by have:=hle2;omega) ?_;clear m;intro A6 cap6 u m;simp only[zF,zG] at m;refine aL (⟨fun _=>m.sel [false,false,true,true,true,true,false,false,true,true,true,true],?_⟩);refine iB (by simp only[zw];rfl) (aU (cJ rfl) (bM (iB (by simp only[zw];rfl) (aU (aZ (c:=0) lO rfl fE rfl rfl) (bM (pV (by simp only[zw];rfl) ?_))))));simp only[zz];refine cK (off:=9) m 4 rfl rfl rfl fE (jE rfl) ⟨rfl,rfl⟩ ?_;clear m;intro u m;simp only[zz,zy,zx,over,aa] at m;refine aL (⟨fun h=>absurd (by decide) h,?_⟩);refine By (by simp only[zw];rfl) (aU (cJ rfl) (bM (By (by simp only[zw];rfl) (aU (aZ (c:=0) lO rfl fE rfl rfl) (bM (pV (by simp only[zw];rfl) ?_))))));simp only[zz];refine cK (off:=10) m 4 rfl rfl rfl fE (jE rfl) ⟨rfl,rfl⟩ ?_;clear m;intro u m;simp only[zz,zy,zx,over,aa] at m;refine aL (⟨fun h=>absurd (by decide) h,?_⟩);refine abi (cR 6 [0] m ?_);simp only[↓aD];refine⟨by omega,?_⟩;intro u m;have hcs:=afS (u:=p) (v:=q) ht (fun e=>hc2 (afU.2 e)) hc3;have hcm:=aaa hcs.1;rw[show ((kQ p q (ts.take k))).flatMap aK++_=(kQ p q (ts.take (k+1))).flatMap aK by rw[hcs.1,av];rfl,show ((kQ p q (ts.take k))).length+1=(kQ p q (ts.take (k+1))).length by rw[hcs.1,aw];rfl] at m;rw[show ((kR p q (ts.take k))).flatMap aK++_=(kR p q (ts.take (k+1))).flatMap aK by rw[hcm,av];rfl,show ((kR p q (ts.take k))).length+1=(kR p q (ts.take (k+1))).length by rw[hcm,aw];rfl] at m;rw[←hcs.2] at m;refine hK1 (N-(k+1)) _ _ ?_ ?_ ?_
             · omega
             · simp only[zz,zv]
             · simp only[zQ,zR,zD,zE]
               exact⟨k+1,_,_,_,_,_,_,rfl,(m.sel [false,false,false,false,true,true,true,true,true,true,true,true]),by omega,rfl⟩
           · skip
             refine eF rfl ?_;intro u g7 e hg hB;replace m:=m.newB e hg hB;clear e hg hB;refine aL (⟨fun _=>m.sel [false,false,true,true,true,true,false,false,true,true,true,true],?_⟩);refine pV (by simp only[zw];rfl) ?_;simp only[zz];refine bR m 7 rfl rfl bT iA rfl (by decide) rfl rfl rfl (m.b 1 rfl).rowsO (jM rfl) (by have:=hle3;omega) (by have:=hle3;omega) ?_;clear m;intro A5 cap5 u m;simp only[zF,zG] at m;refine aL (⟨fun _=>m.sel [false,false,true,true,true,true,false,false,true,true,true,true],?_⟩);refine pV (by simp only[zw];rfl) ?_;simp only[zz];refine bR m 6 rfl rfl bT iA rfl (by decide) rfl rfl rfl (m.b 0 rfl).rowsO (jM rfl) (by have:=hle2;omega) (by have:=hle2;omega) ?_;clear m;intro A6 cap6 u m;simp only[zF,zG] at m;refine aL (⟨fun _=>m.sel [false,false,true,true,true,true,false,false,true,true,true,true],?_⟩);refine iB (by simp only[zw];rfl) (aU (cJ rfl) (bM (iB (by simp only[zw];rfl) (aU (aZ (c:=0) lO rfl fE rfl rfl) (bM (pV (by simp only[zw];rfl) ?_))))));simp only[zz];refine cK (off:=9) m 4 rfl rfl rfl fE (jE rfl) ⟨rfl,rfl⟩ ?_;clear m;intro u m;simp only[zz,zy,zx,over,aa] at m;refine aL (⟨fun h=>absurd (by decide) h,?_⟩);refine By (by simp only[zw];rfl) (aU (cJ rfl) (bM (By (by simp only[zw];rfl) (aU (aZ (c:=0) lO rfl fE rfl rfl) (bM (pV (by simp only[zw];rfl) ?_))))));simp only[zz];refine cK (off:=10) m 4 rfl rfl rfl fE (jE rfl) ⟨rfl,rfl⟩ ?_;clear m;intro u m;simp only[zz,zy,zx,over,aa] at m;refine aL (⟨fun h=>absurd (by decide) h,?_⟩);refine abi (cR 6 [0] m ?_);simp only[↓aD];refine⟨by omega,?_⟩;intro u m;have hcs:=afS (u:=p) (v:=q) ht (fun e=>hc2 (afU.2 e)) hc3;have hcm:=aaa hcs.1;rw[show ((kQ p q (ts.take k))).flatMap aK++_=(kQ p q (ts.take (k+1))).flatMap aK by rw[hcs.1,av];rfl,show ((kQ p q (ts.take k))).length+1=(kQ p q (ts.take (k+1))).length by rw[hcs.1,aw];rfl] at m;rw[show ((kR p q (ts.take k))).flatMap aK++_=(kR p q (ts.take (k+1))).flatMap aK by rw[hcm,av];rfl,show ((kR p q (ts.take k))).length+1=(kR p q (ts.take (k+1))).length by rw[hcm,aw];rfl] at m;rw[←hcs.2] at m;refine hK1 (N-(k+1)) _ _ ?_ ?_ ?_
             · omega
             · simp only[zz,zv]
             · simp only[zQ,zR,zD,zE]
               exact⟨k+1,_,_,_,_,_,_,rfl,(m.sel [false,false,false,false,true,true,true,true,true,true,true,true]),by omega,rfl⟩
         · skip
           refine eF rfl ?_;intro u g6 e hg hB;replace m:=m.newB e hg hB;clear e hg hB;refine aL (⟨fun _=>m.sel [false,true,true,true,true,false,false,true,true,true,true],?_⟩);refine pV (by simp only[zw];rfl) ?_;simp only[zz];refine eF rfl ?_;intro u g7 e hg hB;replace m:=m.newB e hg hB;clear e hg hB;refine aL (⟨fun _=>m.sel [false,false,true,true,true,true,false,false,true,true,true,true],?_⟩);refine pV (by simp only[zw];rfl) ?_;simp only[zz];refine bR m 7 rfl rfl bT iA rfl (by decide) rfl rfl rfl (m.b 0 rfl).rowsO (jM rfl) (by have:=hle3;omega) (by have:=hle3;omega) ?_;clear m;intro A5 cap5 u m;simp only[zF,zG] at m;refine aL (⟨fun _=>m.sel [false,false,true,true,true,true,false,false,true,true,true,true],?_⟩);refine pV (by simp only[zw];rfl) ?_;simp only[zz];refine bR m 6 rfl rfl bT iA rfl (by decide) rfl rfl rfl (m.b 1 rfl).rowsO (jM rfl) (by have:=hle2;omega) (by have:=hle2;omega) ?_;clear m;intro A6 cap6 u m;simp only[zF,zG] at m;refine aL (⟨fun _=>m.sel [false,false,true,true,true,true,false,false,true,true,true,true],?_⟩);refine iB (by simp only[zw];rfl) (aU (cJ rfl) (bM (iB (by simp only[zw];rfl) (aU (aZ (c:=0) lO rfl fE rfl rfl) (bM (pV (by simp only[zw];rfl) ?_))))));simp only[zz];refine cK (off:=9) m 4 rfl rfl rfl fE (jE rfl) ⟨rfl,rfl⟩ ?_;clear m;intro u m;simp only[zz,zy,zx,over,aa] at m;refine aL (⟨fun h=>absurd (by decide) h,?_⟩);refine By (by simp only[zw];rfl) (aU (cJ rfl) (bM (By (by simp only[zw];rfl) (aU (aZ (c:=0) lO rfl fE rfl rfl) (bM (pV (by simp only[zw];rfl) ?_))))));simp only[zz];refine cK (off:=10) m 4 rfl rfl rfl fE (jE rfl) ⟨rfl,rfl⟩ ?_;clear m;intro u m;simp only[zz,zy,zx,over,aa] at m;refine aL (⟨fun h=>absurd (by decide) h,?_⟩);refine abi (cR 6 [0] m ?_);simp only[↓aD];refine⟨by omega,?_⟩;intro u m;have hcs:=afS (u:=p) (v:=q) ht (fun e=>hc2 (afU.2 e)) hc3;have hcm:=aaa hcs.1;rw[show ((kQ p q (ts.take k))).flatMap aK++_=(kQ p q (ts.take (k+1))).flatMap aK by rw[hcs.1,av];rfl,show ((kQ p q (ts.take k))).length+1=(kQ p q (ts.take (k+1))).length by rw[hcs.1,aw];rfl] at m;rw[show ((kR p q (ts.take k))).flatMap aK++_=(kR p q (ts.take (k+1))).flatMap aK by rw[hcm,av];rfl,show ((kR p q (ts.take k))).length+1=(kR p q (ts.take (k+1))).length by rw[hcm,aw];rfl] at m;rw[←hcs.2] at m;refine hK1 (N-(k+1)) _ _ ?_ ?_ ?_
           · omega
           · simp only[zz,zv]
           · simp only[zQ,zR,zD,zE]
             exact⟨k+1,_,_,_,_,_,_,rfl,(m.sel [false,false,false,false,true,true,true,true,true,true,true,true]),by omega,rfl⟩
       · skip
         refine aS 7 [0] m ?_;simp only[↓aD];refine⟨by omega,?_⟩;intro u m;have hcs:=aoH (u:=p) (v:=q) ht (fun e=>hc2 (afU.2 e)) hc3;have hcm:=abj hcs.1;rw[←hcs.1,←hcs.2,←hcm] at m;refine hK1 (N-(k+1)) _ _ ?_ ?_ ?_
         · omega
         · simp only[zz,zv]
         · simp only[zQ,zR,zD,zE]
           exact⟨k+1,_,_,_,_,_,_,rfl,(m.sel [false,false,true,true,true,true,true,true,true,true]),by omega,rfl⟩
   · skip
     obtain rfl:k=N:=by omega
     rw[show ts.take k=ts from be (by omega)] at m;refine aS 7 [] m ?_;simp only[↓aD];intro u m;exact aQ rfl rfl (⟨_,rfl,m.ext,_,_,_,_,_,_,_,_,_,_,_,_,_,_,_,_,rfl,m.sel [true,true,true,true,true,true,false,false],hDx,hDy,rfl,rfl,rfl⟩)
end Go.Proofs.YtfekpcimgncioaaGreatDoor
namespace Go.Lith
open Go.RowKit
def Bz(js:List It):It where
 own b:=∃j∈js,j.own b
 P w:=(∀j∈js,j.P w)∧js.Pairwise Ap
 lt w b h hb:=by
  obtain⟨j,hj,hb⟩:=hb;exact j.lt w b (h.1 j hj) hb
 st w w' h hs k:=⟨fun j hj=>j.st w w' (h.1 j hj) hs fun b hb=>k b ⟨j,hj,hb⟩,h.2⟩
section
variable {w0 w:ah} {is js:List It}
theorem Mem.bagNil(m:Mem w0 w is):Mem w0 w (Bz []::is) :=
 ⟨m.ext,fun i hi=>by
  rcases ak.1 hi with rfl | hi
  · exact⟨fun j hj=>(by cases hj),List.Pairwise.nil⟩
  · exact m.all i hi,fun i hi b hb=>by
  rcases ak.1 hi with rfl | hi
  · obtain⟨j,hj,_⟩:=hb;cases hj
  · exact m.ge i hi b hb,bj.2 ⟨fun i _ b ⟨j,hj,_⟩=>(by cases hj),m.nd⟩⟩
theorem Mem.bagPull(m:Mem w0 w (Bz js::is))(i:Nat){j:It}(hj:js[i]? = some j):Mem w0 w (j::Bz (js.eraseIdx i)::is):=by
 have hp:=Ej js i j hj;obtain⟨h1,h2⟩:=bj.1 m.nd;have P:=m.all _ (bp ..);have hjm:=ba hj;have hsub:∀x∈js.eraseIdx i,x∈js:=fun x hx=>hp.mem_iff.1 (bm _ hx);have hpw:=bj.1 ((hp.pairwise_iff (fun {a b} (h:Ap a b)=>h.symm)).2 P.2);refine⟨m.ext,fun x hx=>?_,fun x hx b hb=>?_,bj.2 ⟨fun x hx b hb hxb=>?_,bj.2 ⟨fun x hx b ⟨y,hy,hb⟩=>h1 x hx b ⟨y,hsub y hy,hb⟩,h2⟩⟩⟩
 · rcases ak.1 hx with rfl | hx
   · exact P.1 x hjm
   · rcases ak.1 hx with rfl | hx
     · exact⟨fun y hy=>P.1 y (hsub y hy),hpw.2⟩
     · exact m.all x (bm _ hx)
 · rcases ak.1 hx with rfl | hx
   · exact m.ge _ (bp ..) b ⟨x,hjm,hb⟩
   · rcases ak.1 hx with rfl | hx
     · obtain⟨y,hy,hb⟩:=hb
       exact m.ge _ (bp ..) b ⟨y,hsub y hy,hb⟩
     · exact m.ge x (bm _ hx) b hb
 · rcases ak.1 hx with rfl | hx
   · obtain⟨y,hy,hyb⟩:=hxb
     exact hpw.1 y hy b hb hyb
   · exact h1 x hx b ⟨j,hjm,hb⟩ hxb
theorem Mem.bagPush{j:It}(m:Mem w0 w (j::Bz js::is)):Mem w0 w (Bz (j::js)::is):=by
 obtain⟨h1,h2⟩:=bj.1 m.nd;obtain⟨h3,h4⟩:=bj.1 h2;have P:=m.all (Bz js) (bm _ (bp ..));have Pj:=m.all j (bp ..);refine⟨m.ext,fun x hx=>?_,fun x hx b hb=>?_,bj.2 ⟨fun x hx b ⟨y,hy,hb⟩ hxb=>?_,h4⟩⟩
 · rcases ak.1 hx with rfl | hx
   · refine⟨fun y hy=>?_,bj.2 ⟨fun y hy b hb hyb=>h1 _ (bp ..) b hb ⟨y,hy,hyb⟩,P.2⟩⟩
     rcases ak.1 hy with rfl | hy
     · exact Pj
     · exact P.1 y hy
   · exact m.all x (bm _ (bm _ hx))
 · rcases ak.1 hx with rfl | hx
   · obtain⟨y,hy,hb⟩:=hb
     rcases ak.1 hy with rfl | hy
     · exact m.ge y (bp ..) b hb
     · exact m.ge (Bz js) (bm _ (bp ..)) b ⟨y,hy,hb⟩
   · exact m.ge x (bm _ (bm _ hx)) b hb
 · rcases ak.1 hy with rfl | hy
   · exact h1 x (bm _ hx) b hb hxb
   · exact h3 x hx b ⟨y,hy,hb⟩ hxb
end
end Go.Lith
namespace Go.Lith
open Go.RowKit Go.ChangeMaps
section
variable {w0 w:ah} {is js ks:List It}
theorem Mem.bagPerm(m:Mem w0 w (Bz js::is))(h:js.Perm ks):Mem w0 w (Bz ks::is):=by
 obtain⟨h1,h2⟩:=bj.1 m.nd;have P:=m.all _ (bp ..);refine⟨m.ext,fun x hx=>?_,fun x hx b hb=>?_,bj.2 ⟨fun x hx b ⟨y,hy,hb⟩ hxb=>?_,h2⟩⟩
 · rcases ak.1 hx with rfl | hx
   · exact⟨fun j hj=>P.1 j (h.mem_iff.2 hj),(h.pairwise_iff (fun {a b} (h:Ap a b)=>h.symm)).1 P.2⟩
   · exact m.all x (bm _ hx)
 · rcases ak.1 hx with rfl | hx
   · obtain⟨y,hy,hb⟩:=hb
     exact m.ge _ (bp ..) b ⟨y,h.mem_iff.2 hy,hb⟩
   · exact m.ge x (bm _ hx) b hb
 · exact h1 x hx b ⟨y,h.mem_iff.2 hy,hb⟩ hxb
theorem Wf{K V:Type}[DecidableEq K]{k:K}{v:V}{e:K × V}:∀{D:List (K × V)},(D.map (·.1)).Nodup→e∈eP D k v→e=(k,v)∨(e∈D∧e.1≠k)
 | [],_,h=>.inl (ay.1 h)
 | x::D,hn,h=>by
  obtain⟨n1,n2⟩:=List.nodup_cons.1 hn;unfold eP at h;split at h
  · rename_i hk
    rcases ak.1 h with h | h
    · exact .inl h
    · exact .inr ⟨bm _ h,fun e'=>n1 (dj.2 ⟨e,h,e'.trans hk.symm⟩)⟩
  · rename_i hk
    rcases ak.1 h with h | h
    · exact .inr ⟨h▸bp ..,h▸hk⟩
    · rcases Wf n2 h with h | h
      · exact .inl h
      · exact .inr ⟨bm _ h.1,h.2⟩
variable {E:aj} {fs:P3→List T3} {D:List (P3 × Hd)}
def sI(E:aj)(fs:P3→List T3)(e:P3 × Hd):It:=oI E 9 e.2.A (fs e.1).length e.2.cap ((fs e.1).flatMap aK)
structure Ft(D:List (P3 × Hd))(fs:P3→List T3):Prop where
 nk:(D.map (·.1)).Nodup
 len:∀e∈D,e.2.n=(fs e.1).length
 no:∀p,p∉D.map (·.1)→fs p=[]
 yes:∀p,p∈D.map (·.1)→fs p≠[]
theorem Ft.nil:Ft [] fun _=>[]:=⟨jw,fun _ h=>(by cases h),fun _ _=>rfl,fun _ h=>(by cases h)⟩
theorem Ft.iff(S:Ft D fs){p:P3}:p∈D.map (·.1)↔fs p≠[]:=⟨S.yes p,fun h=>Classical.byContradiction fun k=>h (S.no p k)⟩
theorem Ft.take(S:Ft D fs)(m:Mem w0 w (Bz (D.map (sI E fs))::is))(p:P3) :
 ∃rest,Mem w0 w (oI E 9 (mX D p).A (mX D p).n (mX D p).cap ((fs p).flatMap aK)::Bz rest::is)∧(mX D p).n=(fs p).length ∧
  ∀(h':Hd) (fs':P3→List T3),(∀q,q≠p→fs' q=fs q)→h'.n=(fs' p).length→fs' p≠[]→(sI E fs' (p,h')::rest).Perm ((eP D p h').map (sI E fs'))∧Ft (eP D p h') fs':=by
 have hS:∀(h':Hd) (fs':P3→List T3),(∀q,q≠p→fs' q=fs q)→h'.n=(fs' p).length→fs' p≠[]→Ft (eP D p h') fs':=fun h' fs' hq hl hy =>
  ⟨rL S.nk p h',fun e he=>by
   rcases Wf S.nk he with rfl | ⟨he,hk⟩
   · exact hl
   · rw[hq _ hk];exact S.len e he,fun q hqn=>by
   rw[tN] at hqn;have h1:q∉D.map (·.1)∧q≠p:=by
    split at hqn
    · rename_i hp;exact⟨hqn,fun e=>hqn (e▸hp)⟩
    · exact⟨fun h=>hqn (f_ _ h),fun e=>hqn (fj _ (by rw[e];exact ay.2 rfl))⟩
   rw[hq _ h1.2];exact S.no q h1.1,fun q hqn=>by
   by_cases hqp:q=p
   · rw[hqp];exact hy
   · rw[hq _ hqp]
     refine S.yes q ?_;rw[tN] at hqn;split at hqn
     · exact hqn
     · exact (bg.1 hqn).elim id fun h=>absurd (ay.1 h) hqp⟩
 have hsame:∀{fs':P3→List T3} {L:List (P3 × Hd)},(∀q,q≠p→fs' q=fs q)→(∀e∈L,e.1≠p)→L.map (sI E fs')=L.map (sI E fs):=fun {fs' L} hq hL =>
  List.map_congr_left fun e he=>by unfold sI;rw[hq _ (hL e he)]
 cases hf:oA D p 0 with
 | none =>
  obtain⟨h0,h1,_⟩:=oG D p 0 hf;have hnp:=mP.1 h0;have e0:mX D p=⟨none,0,0⟩:=by unfold mX;rw[h0];rfl
  refine⟨D.map (sI E fs),?_,?_,fun h' fs' hq hl hy=>⟨?_,hS h' fs' hq hl hy⟩⟩
  · rw[e0,S.no p hnp];exact m.nilO E 9
  · rw[e0,S.no p hnp];rfl
  · rw[h1,cl,hsame hq fun e he k=>hnp (dj.2 ⟨e,he,k⟩)]
    exact (List.perm_append_singleton _ _).symm
 | some q =>
  obtain⟨j,h⟩:=q;obtain⟨i,_,hi,h0,h1,_⟩:=kV D p 0 j h hf;have e0:mX D p=h:=by unfold mX;rw[h0];rfl
  have hm:(p,h)∈D:=ba hi;have hl0:=S.len _ hm;have hne:∀e∈D.eraseIdx i,e.1≠p:=fun e he k=>by
   obtain⟨q,hq⟩:=dm.1 he;rw[List.getElem?_eraseIdx] at hq;have key:∀{q:Nat},D[q]? = some e→q=i:=fun {q} hq=>by
    have a1:(D.map (·.1))[q]? = some p:=by rw[dw,hq,←k];rfl
    have a2:(D.map (·.1))[i]? = some p:=by rw[dw,hi];rfl
    obtain⟨b1,b2⟩:=ar.1 a1;obtain⟨c1,c2⟩:=ar.1 a2;exact (ld S.nk).1 (b2.trans c2.symm)
   split at hq
   · have:=key hq;omega
   · have:=key hq;omega
  refine⟨(D.map (sI E fs)).eraseIdx i,?_,?_,fun h' fs' hq hl hy=>⟨?_,hS h' fs' hq hl hy⟩⟩
  · rw[e0,show h.n=(fs p).length from hl0]
    exact m.bagPull i (j:=sI E fs (p,h)) (by rw[dw,hi];rfl)
  · rw[e0];exact hl0
  · rw[h1,←map_eraseIdx,←hsame hq hne]
    have hp:∀{l:List (P3 × Hd)} {i:Nat} {x y:P3 × Hd},l[i]? = some x→(l.set i y).Perm (y::l.eraseIdx i):=fun {l}=>by
     induction l with
     | nil=>intro i x y h;simp at h
     | cons z l ih =>
      intro i x y h;cases i with
      | zero=>exact .refl _
      | succ i=>exact ((ih (i:=i) (x:=x) (y:=y) (by simpa using h)).cons z).trans (.swap ..)
    exact ((hp (y:=(p,h')) hi).map (sI E fs')).symm
theorem Ft.trisP(S:Ft D fs)(hB:(Bz (D.map (sI E fs))).P w)(hI:∀p,∀t∈fs p,IT t)(p:P3):bK w (mX D p).A (mX D p).n (fs p)∧(mX D p).n≤(mX D p).cap:=by
 unfold mX;cases hg:bU D p with
 | none =>
  rw[S.no p (mP.1 hg)];exact⟨bK.nil _ _,ap _⟩
 | some h =>
  have hm:=wS hg;have hP:=hB.1 _ (dj.2 ⟨(p,h),hm,rfl⟩);have ho:Ow { w with heap:=#[] } w [] E 9 h.A (fs p).length h.cap ((fs p).flatMap aK):=⟨hP,fun _ _ h=>(by cases h),fun _ h=>(by cases h)⟩
  have hl:=S.len _ hm;simp only[cv];rw[show h.n=(fs p).length from hl];exact⟨ho.tris (hI p),ho.le⟩
end
def Mh(l:List T3)(t:T3)(cs:List P3)(p:P3):List T3:=l.filter (fun t=>t.has p)++if p∈cs then [t] else []
theorem ah4(l:List T3)(t:T3):Mh l t []=fun p=>l.filter fun t=>t.has p:=by
 funext p
 unfold Mh;simp
theorem amx{l:List T3}{t:T3}{cs:List P3}{c q:P3}(h:q≠c):Mh l t (cs++[c]) q=Mh l t cs q:=by
 unfold Mh;simp[h]
theorem amy{l:List T3}{t:T3}{cs:List P3}{c:P3}(h:c∉cs):Mh l t (cs++[c]) c=Mh l t cs c++[t]:=by
 unfold Mh;simp[h]
theorem ah5{l:List T3}{k:Nat}{t:T3}(ht:l[k]? = some t):Mh (l.take k) t [t.a,t.b,t.c]=fun p=>(l.take (k+1)).filter fun t=>t.has p:=by
 funext p
 unfold Mh;rw[cC ht,gj]
 congr 1
 by_cases h:t.has p=true
 · have:=nP.1 h
   simp[h,this]
 · have h':¬(p=t.a∨p=t.b∨p=t.c):=fun k=>h (nP.2 k)
   simp[h,h']
end Go.Lith
namespace Go.Proofs.YtfekpcimgncioaaGreatDoor
open Go.Proofs.Tryz
open Go.RowKit Go.Lith
set_option maxRecDepth 100000
attribute [local irreducible] ao wpQuiet eZ bE bX Code.wp
attribute [local congr] nO fF fG fH fI fJ jH fK fL fM fN fO fP fQ fR fS fT fU dX dY fV fW fY fZ gA jJ cO cP cA cN fX jI dZ eA eB gB gC jK
structure Du(T:aj)(w:ah)(g90 ga gf:Nat)(A:Option Addr)(N cap:Nat)(ea ef:Array bx)(ca cf:Nat)(D:List (P3 × Hd))(ts:List T3):Prop where
 b:fA w g90 [.slice A N cap,.map (some ga),.map (some gf)] T
 a:gW w ga ea ca
 f:gW w gf ef cf
 t:∀p,bK w (mX D p).A (mX D p).n (ts.filter fun t=>t.has p)∧(mX D p).n≤(mX D p).cap
theorem Du.ext{T:aj}{w w':ah}{g90 ga gf:Nat}{A:Option Addr}{N cap:Nat}{ea ef:Array bx}{ca cf:Nat}{D:List (P3 × Hd)}{ts:List T3}(h:Du T w g90 ga gf A N cap ea ef ca cf D ts)(e:eW w w'):Du T w' g90 ga gf A N cap ea ef ca cf D ts :=
 ⟨h.b.ext e,h.a.ext e,h.f.ext e,fun p=>⟨(h.t p).1.ext e,(h.t p).2⟩⟩
structure Ls(ea ef:Array bx)(ca cf:Nat)(D:List (P3 × Hd))(F:List (P3 × Bool))(ts:List T3):Prop where
 a:bB pt Hd.v D ea ca
 f:bB pt bf F ef cf
 nk:(D.map (·.1)).Nodup
 k:∀p,p∈D.map (·.1)↔p∈dL ts
 b:∀p,(bU F p).getD false=Xb (bY ts) p
def acK(es:List E3):List P3:=es.flatMap fun e=>[e.1,e.2]
theorem afV{es:List E3}{p:P3}:decide (p∈acK es)=Xb es p:=by
 rw[ia,decide_eq_true_eq];unfold acK Xb;rw[dz,dx];constructor
 · rintro⟨e,he,hp⟩
   refine⟨e,he,?_⟩;simp only[ak,bw,or_false] at hp;rcases hp with rfl | rfl <;> simp
 · rintro⟨e,he,hp⟩
   refine⟨e,he,?_⟩;simp only[fu,decide_eq_true_eq] at hp;rcases hp with rfl | rfl <;> simp
theorem acL{es:List E3}{k:Nat}{e:E3}(h:es[k]? = some e):acK (es.take (k+1))=acK (es.take k)++[e.1]++[e.2]:=by
 rw[cC h];unfold acK;rw[av,cq];rfl
def yZ(t:T3):List P3:=[t.a,t.b,t.c]
theorem abk{t:T3}{j:Nat}(hj:j<3):(yZ t)[j]? = some (t.cor j):=by
 have h:j=0∨j=1∨j=2:=by omega
 rcases h with rfl | rfl | rfl <;> rfl
theorem Pm{t:T3}{j:Nat}(hj:j<3):(yZ t).take (j+1)=(yZ t).take j++[t.cor j]:=cC (abk hj)
theorem afW{t:T3}{j:Nat}(hn:t.nd=true)(hj:j<3):t.cor j∉(yZ t).take j:=fun h=>by
 have hd:(yZ t).Nodup:=Lk hn;obtain⟨i,hi⟩:=dm.1 h;rw[List.getElem?_take] at hi;split at hi
 · rename_i hij
   obtain⟨a1,a2⟩:=ar.1 hi;obtain⟨b1,b2⟩:=ar.1 (abk (t:=t) hj);have:=(ld hd).1 (a2.trans b2.symm);omega
 · cases hi
theorem amz{ts:List T3}{p:P3}:(ts.filter fun t=>t.has p)≠[]↔p∈dL ts:=by
 constructor
 · intro h
   obtain⟨t,ht⟩:=List.exists_mem_of_ne_nil _ h;obtain⟨h1,h2⟩:=di.1 ht;exact tP h1 h2
 · intro h e
   obtain⟨t,ht,hp⟩:=dz.1 (show p∈ts.flatMap fun t=>[t.a,t.b,t.c] from h);have:t∈ts.filter fun t=>t.has p:=di.2 ⟨ht,nP.2 (by simpa using hp)⟩;rw[e] at this;cases this
theorem Dv{is:List It}{w:ah}(h:(xK is).P w)(k:Nat){i:It}(hi:is[k]? = some i):i.P w:=h.1 i (ba hi)
theorem ah6(l:List T3)(t:T3)(cs:List P3)(p:P3){k:Nat}(h:l.length≤k):(Mh l t cs p).length≤k+1:=by
 have:=ep (fun t=>T3.has t p) l;unfold Mh;rw[aw];split <;> simp <;> omega
theorem afX{A:Option Addr}{N cap:Nat}{ts:List T3}(w:ah)(hT:bK w A N ts)(hnd:∀t∈ts,t.nd=true)(hN:ts.length≤1000000):dF prog 50 [.slice A N cap] w (fun v w'=>∃g90 ga gf ea ef ca cf D F K,v=.pointer (some ⟨g90,0,none⟩)∧Mem w w' [K]∧(∀u,K.P u→Du 109 u g90 ga gf A N cap ea ef ca cf D ts)∧Ls ea ef ca cf D F ts):=by
 refine⟨ano,?_⟩;have m:=Mem.refl w;have htl:=hT.len;have hbl:(bY ts).length≤10000000:=by have h1:=Jk (all:=bA ts) (bA ts) [];have h2:=qS ts;simp only[bt] at h1;unfold bY;omega
 go_enter func50,ntmps50
 refine eS 7 [0] m ?_;simp only[↓aD];intro u m;refine kH m ?_;clear m;intro qa u m;have hDa:=bB.nil (K:=P3) (V:=Hd) pt Hd.v;simp only[zz];refine kH m ?_;clear m;intro qf u m;have hDf:=bB.nil (K:=P3) (V:=Bool) pt bf;refine aP 4 [] m ?_;simp only[↓aD,aln,aa];intro g3;intro u m;replace m:=m.bagNil;refine cR 8 [0] m ?_;simp only[↓aD,iS];intro u m;refine bW [17] [5,7,18,19,20,21,22,23,24,25,26,27,28,29,30,31,32,33,34,35,36,37] (fun n vs wl=>∃(k:Nat) (ea:Array bx) (ca:Nat) (D:List (P3 × Hd)),vs=[.int .i64 (k:Int)]∧Mem w wl [Bz (D.map (sI 39 (fun p=>(ts.take k).filter fun t=>t.has p))),bI g3 [.slice A N cap,.map (some qa),.map (some qf)] 109,mI qf #[] 0,mI qa ea ca]∧(bB pt Hd.v D ea ca)∧(Ft D (fun p=>(ts.take k).filter fun t=>t.has p))∧(k≤N)∧(n=N-k)) ?_ ?_
 · skip
   apply Exists.intro;simp only[zQ,zR,zD,zE];exact⟨0,_,_,[],rfl,m,hDa,Ft.nil,cd _,rfl⟩
 · intro n vs wr hI u K1 hK1
   clear m;obtain⟨k,esa,ca,D,rfl,m,hDa,hS1,hk,hn⟩:=hI;simp only[zu,zF,zG];refine aS 5 [0,0] m ?_;simp only[↓aD];intro u m;refine bC rfl (fun hc1=>?_) (fun hc1=>?_)
   · skip
     obtain⟨t,ht,hti,a,hA,hrow⟩:=hT.get (i:=k) (by omega);subst hA;refine aS 5 [0] m ?_;simp only[↓aD];intro u m;refine aB (aF bT aN rfl rfl (by omega) (by omega) (cI (ag _))) ?_;simp only[zz];refine aO rfl ((hrow.ext m.ext).lies cF aN) ?_;simp only[zz];refine aP 9 [0,0,0] m ?_;simp only[↓aD,mU,gZ,aa];intro g4;intro u m;refine bW [22] [7,23,24,25,26,27,28,29,30,31,32,33,34,35,36] (fun n vs wl=>∃(j:Nat) (ea:Array bx) (ca:Nat) (D:List (P3 × Hd)),vs=[.int .i64 (j:Int)]∧Mem w wl [bI g4 [.int .i64 t.a.x,.int .i64 t.a.y,.int .i64 t.a.z,.int .i64 t.b.x,.int .i64 t.b.y,.int .i64 t.b.z,.int .i64 t.c.x,.int .i64 t.c.y,.int .i64 t.c.z] 39,Bz (D.map (sI 39 (Mh (ts.take k) t ((yZ t).take j)))),bI g3 [.slice (some a) N cap,.map (some qa),.map (some qf)] 109,mI qf #[] 0,mI qa ea ca]∧(bB pt Hd.v D ea ca)∧(Ft D (Mh (ts.take k) t ((yZ t).take j)))∧(j≤3)∧(n=3-j)) ?_ ?_
     · rw[←ah4 (ts.take k) t] at m hS1
       apply Exists.intro;simp only[zQ,zR,zD,zE];exact⟨0,_,_,D,rfl,m,hDa,hS1,cd _,rfl⟩
     · intro n vs wr hI u K2 hK2
       clear m;obtain⟨j,esa,ca,D,rfl,m,hDa,hS2,hj,hn2⟩:=hI;simp only[zu,zF,zG];refine aS 5 [0,0] m ?_;simp only[↓aD];intro u m;refine bC rfl (fun hc2=>?_) (fun hc2=>?_)
       · skip
         have hj3:j<3:=by omega
         refine aS 5 [0] m ?_;simp only[↓aD];intro u m;refine aB ((Wd (t:=t) hj3 rfl rfl)) (aP 3 [0] m ?_);simp only[↓aD,eU,aR,aa];intro g5;intro u m;replace m:=m.pull 2 rfl;simp only[cY,cZ,zF,zG] at m;obtain⟨rest,m9,hn9,hS9⟩:=hS2.take m (t.cor j);replace m:=m9;clear m9;have hl9:((Mh (ts.take k) t ((yZ t).take j)) (t.cor j)).length≤k+1:=ah6 _ _ _ _ (by rw[br];omega);rw[←hn9] at hl9;refine gc (mh m [false,true,true,true,true,true,false] [(0,true),(1,true),(2,true),(3,true),(4,true),(5,true),(6,false),(7,false),(8,true),(10,true),(9,false),(11,false)] aC (by kernel_rfl) (bQ (fun _ _ _ _ _ h=>h)) (ol:=?_) ?hol ?_)
         case hol=>simp only[zw,zQ,zR];try rfl
         clear m;intro u m;refine Mz 6 [3,1,2] ?_;simp only[↓aD,Kq,alk,aR,gZ,aa];refine bV (eF rfl ?_);intro u g6 e hg hB;replace m:=m.newB e hg hB;clear e hg hB;refine aL (⟨m.sel [false,false,true,true,true,true,true,false],?_⟩);refine bV ?_;simp only[zz];refine uW (ek:=pt) (en:=Hd.v) (a:=t.cor j) (v0:=⟨none,0,0⟩) m 7 rfl underlying106 aaE fB rfl rfl hDa ?_;clear m;intro esa ca bs u m hD' hS;simp only[zF,zG] at m;refine aL (⟨m.sel [false,false,true,true,true,true,true,false],?_⟩);refine aU (eE rfl rfl) (aU (eE rfl rfl) (bV ?_));simp only[zz];refine bR m 1 rfl rfl bT iA rfl (by decide) rfl rfl rfl (m.b 0 rfl).rowsO (jM rfl) (by omega) (by omega) ?_;clear m;intro A9 cap9 u m;simp only[zF,zG] at m;refine aL (⟨m.sel [false,false,true,true,true,true,true,false],?_⟩);refine bV ?_;simp only[zz];refine nR (ek:=pt) (en:=Hd.v) (a:=t.cor j) (v:=(⟨A9,(mX D (t.cor j)).n+1,cap9⟩:Hd)) m 7 rfl rfl rfl rfl hS ?_;clear m hD' hS;intro esa u m hD';clear hDa;have hDa:=hD';clear hD';simp only[zF,zG] at m;refine aL (⟨m.sel [false,false,true,true,true,true,true,false],?_⟩);refine bM ?_;replace m:=m.pull 2 rfl;simp only[cY,cZ,zF,zG] at m;replace m:=m.pull 2 rfl;simp only[cY,cZ,zF,zG] at m;have hfs:(Mh (ts.take k) t ((yZ t).take (j+1))) (t.cor j)=(Mh (ts.take k) t ((yZ t).take j)) (t.cor j)++[t]:=by rw[Pm hj3];exact amy (afW (hnd t (ba ht)) hj3)
         obtain⟨hp9,hS3⟩:=hS9 ⟨A9,(mX D (t.cor j)).n+1,cap9⟩ (Mh (ts.take k) t ((yZ t).take (j+1))) (fun q hq=>by rw[Pm hj3];exact amx hq) (by rw[hfs,aw,hn9];rfl) (by rw[hfs];simp);rw[show ((Mh (ts.take k) t ((yZ t).take j)) (t.cor j)).flatMap aK++_=((Mh (ts.take k) t ((yZ t).take (j+1))) (t.cor j)).flatMap aK by rw[hfs,av];rfl,show (mX D (t.cor j)).n+1=((Mh (ts.take k) t ((yZ t).take (j+1))) (t.cor j)).length by rw[hfs,aw,hn9];rfl] at m;replace m:=(Mem.bagPush (j:=sI 39 (Mh (ts.take k) t ((yZ t).take (j+1))) (t.cor j,⟨A9,(mX D (t.cor j)).n+1,cap9⟩)) m).bagPerm hp9;replace m:=m.pull 3 rfl;simp only[cY,cZ,zF,zG] at m;refine cR 5 [0] m ?_;simp only[↓aD];refine⟨by omega,?_⟩;intro u m;refine hK2 (3-(j+1)) _ _ ?_ ?_ ?_
         · omega
         · simp only[zz,zv]
         · simp only[zQ,zR,zD,zE]
           exact⟨j+1,_,_,_,rfl,(m.sel [true,true,false,false,true,true,true]),hDa,hS3,by omega,rfl⟩
       · skip
         obtain rfl:j=3:=by omega
         rw[show (yZ t).take 3=[t.a,t.b,t.c] from rfl,ah5 ht] at m hS2;refine aS 6 [0] m ?_;simp only[↓aD];refine⟨by omega,?_⟩;intro u m;refine hK1 (N-(k+1)) _ _ ?_ ?_ ?_
         · omega
         · simp only[zz,zv]
         · simp only[zQ,zR,zD,zE]
           exact⟨k+1,_,_,D,rfl,(m.sel [false,true,true,true,true]),hDa,hS2,by omega,rfl⟩
   · skip
     obtain rfl:N=k:=by omega
     rw[show ts.take N=ts from be (by omega)] at m hS1;refine aS 5 [0] m ?_;simp only[↓aD];intro u m;refine bJ rfl rfl (acu _ (hT.ext m.ext) (by omega)) ?_;rintro v u e ⟨A4,c4,n4,hn4,rfl,hN⟩;replace m:=m.newO e hN;clear e hN;subst hn4;refine aP 4 [0] m ?_;simp only[↓aD,Ve];intro u m;refine bW [41] [9,42,43,44,45,46,47,48,49,50,51,52,53,54,55,56,57,58,59,60,61] (fun n vs wl=>∃(i:Nat) (ef:Array bx) (cf:Nat),vs=[.int .i64 (i:Int)]∧Mem w wl [oI 56 6 A4 (bY ts).length c4 ((bY ts).flatMap cM),Bz (D.map (sI 39 (fun p=>ts.filter fun t=>t.has p))),bI g3 [.slice A N cap,.map (some qa),.map (some qf)] 109,mI qf ef cf,mI qa esa ca]∧(bB pt bf (eY [] (acK ((bY ts).take i))) ef cf)∧(i≤(bY ts).length)∧(n=(bY ts).length-i)) ?_ ?_
     · skip
       apply Exists.intro;simp only[zQ,zR,zD,zE];exact⟨0,_,_,rfl,m,hDf,cd _,rfl⟩
     · intro n vs wr hI u K3 hK3
       clear m;obtain⟨i,esf,cf,rfl,m,hDf,hi,hn3⟩:=hI;simp only[zu,zF,zG];refine aS 5 [0,0] m ?_;simp only[↓aD];intro u m;refine bC rfl (fun hc3=>?_) (fun hc3=>?_)
       · skip
         obtain⟨e,he,ae,hA4,hr5⟩:=((m.o 0 rfl).lat (enc:=cM) (fun _=>rfl) (by decide)).get (i:=i) (by omega);subst hA4;refine lF 5 [0] m ?_;simp only[↓aD];rintro u m rfl;refine aB (aF nL iC rfl rfl (by omega) (by omega) (cI (ag _))) ?_;simp only[zz];refine aO rfl (show gM _ _ _ _ (.agg #[.int .i64 e.1.x,.int .i64 e.1.y,.int .i64 e.1.z,.int .i64 e.2.x,.int .i64 e.2.y,.int .i64 e.2.z]) from hr5.lies Ba iC) ?_;simp only[zz];refine aP 3 [0,0] m ?_;simp only[↓aD,Pa,An,aa];intro g4;intro u m;refine mh m [true,true,true,true,false,true] [(0,true),(1,true),(2,true),(4,true),(6,true),(7,true),(8,true),(10,true),(3,true),(5,true),(9,true),(11,true),(12,false),(13,true),(14,false),(15,false),(16,true),(17,false)] aC (by kernel_rfl) (bQ (fun _ _ _ _ _ h=>h)) (ol:=?_) ?hol ?_
         case hol=>simp only[zw,zQ,zR];try rfl
         clear m;intro u m;refine Mz 12 [3,0,3,0] ?_;simp only[↓aD,Kr,Kn,alm,aR,aa,ab,ad];refine⟨by omega,?_⟩;refine bV (uW (ek:=pt) (en:=bf) (a:=e.1) (v0:=false) m 4 rfl lN mE fB rfl rfl hDf ?_);clear m;intro esf cf bs u m hD' hS;simp only[zF,zG] at m;refine aL (⟨m.sel [true,true,true,true,false,true],?_⟩);refine aU (eE rfl rfl) (bV ?_);simp only[zz];refine nR (ek:=pt) (en:=bf) (a:=e.1) (v:=true) m 4 rfl rfl rfl rfl hS ?_;clear m hD' hS;intro esf u m hD';clear hDf;have hDf:=hD';clear hD';simp only[zF,zG] at m;rw[←kM] at hDf;refine aL (⟨m.sel [true,true,true,true,false,true],?_⟩);refine bV (uW (ek:=pt) (en:=bf) (a:=e.2) (v0:=false) m 4 rfl lN mE fB rfl rfl hDf ?_);clear m;intro esf cf bs u m hD' hS;simp only[zF,zG] at m;refine aL (⟨m.sel [true,true,true,true,false,true],?_⟩);refine aU (eE rfl rfl) (bV ?_);simp only[zz];refine nR (ek:=pt) (en:=bf) (a:=e.2) (v:=true) m 4 rfl rfl rfl rfl hS ?_;clear m hD' hS;intro esf u m hD';clear hDf;have hDf:=hD';clear hD';simp only[zF,zG] at m;rw[←kM] at hDf;refine aL (⟨m.sel [true,true,true,true,false,true],?_⟩);refine bM (cR 5 [0] m ?_);simp only[↓aD];refine⟨by omega,?_⟩;intro u m;refine hK3 ((bY ts).length-(i+1)) _ _ ?_ ?_ ?_
         · omega
         · simp only[zz,zv]
         · simp only[zQ,zR,zD,zE]
           exact⟨i+1,_,_,rfl,(m.sel [false,true,true,true,true,true]),by rw[acL he];exact hDf,by omega,rfl⟩
       · skip
         obtain rfl:i=(bY ts).length:=by omega
         rw[show (bY ts).take (bY ts).length=bY ts from be (ap _)] at hDf;refine aS 7 [] m ?_;simp only[↓aD];intro u m;refine aQ rfl rfl ?_;try simp only[zD,zE]
         exact⟨_,rfl,m.ext,_,_,_,_,_,_,_,D,_,xK [_,_,_,_],rfl,Mem.pack [] (m.sel [false,true,true,true,true]),(fun u hP=>⟨by have h:=Dv hP 1 rfl;exact h,by have h:=Dv hP 3 rfl;exact h,by have h:=Dv hP 2 rfl;exact h,fun p=>hS1.trisP (Dv hP 0 rfl) (fun p t ht=>hT.it t (di.1 ht).1) p⟩),⟨hDa,hDf,hS1.nk,fun p=>by rw[hS1.iff];exact amz,fun p=>by rw[pA];exact afV⟩⟩
section
variable {ts:List T3} {p q:P3} {F:List (P3 × Bool)}
theorem acM(hF:∀z,(bU F z).getD false=Xb (bY ts) z):((bU (eY [] (lI ts p)) q).getD false && !(bU F p).getD false)=sJ ts p q:=by
 rw[hF,pA];unfold sJ
 congr 1
 rw[ia,decide_eq_true_eq,pF]
theorem acN:decide (Bn (eY [] (lI ts q)) (eY [] (lI ts p))=2)=Db ts p q:=by
 unfold Db
 congr 2
 unfold Bn;have hp:((eY [] (lI ts p)).map (·.1)).Perm (nbL ts p):=by
  refine (List.perm_ext_iff_of_nodup (Be _ [] jw) ?_).2 fun x=>?_
  · exact (Nd ts).sublist (List.filter_sublist ..)
  · rw[rP,Dd,pF];simp
 have e:(fun k=>(bU (eY [] (lI ts q)) k).getD false)=Rq ts q:=funext fun k=>by
  rw[pA,ia,decide_eq_true_eq,pF]
 rw[e];exact (hp.filter _).length_eq
theorem afY(hF:∀z,(bU F z).getD false=Xb (bY ts) z):Ss (eY [] (lI ts p)) (eY [] (lI ts q)) F q=Kj ts p q:=by
 unfold Ss Kj;rw[hF]
 congr 1
 rw[ia,ew,ew];have key:∀k,(!acD F (eY [] (lI ts q)) q k)=(decide (k=q) || !Xb (bY ts) k||Rq ts q k):=fun k=>by
  unfold acD;have e1:decide (¬(k.x=q.x∧k.y=q.y∧k.z=q.z)) = !decide (k=q):=by
   rw[←decide_not];exact decide_eq_decide.2 ⟨fun h e=>h (by rw[e];exact⟨rfl,rfl,rfl⟩),fun h e=>h (P3.eq e.1 e.2.1 e.2.2)⟩
  have e2:(bU (eY [] (lI ts q)) k).getD false=Rq ts q k:=by rw[pA,ia,decide_eq_true_eq,pF]
  rw[e1,e2,hF];cases decide (k=q) <;> cases Xb (bY ts) k <;> cases Rq ts q k <;> rfl
 constructor
 · intro h k hk
   rw[←key];exact h k ((rP _ _ _).2 (.inr (pF.2 (Dd.1 hk))))
 · intro h k hk
   rw[key];exact h k (Dd.2 (pF.1 (((rP _ _ _).1 hk).elim (fun h=>(by cases h)) id)))
theorem aac:Zv (kQ p q ts) (kR p q ts)=wZ ts p q:=by
 unfold Zv wZ kR;rw[List.zip_map_right,List.all_map];rw[ia,ew,ew];constructor
 · intro h t ht
   obtain⟨i,hi⟩:=dm.1 ht;exact h (t,t) (ba (i:=i) (by rw[lf];exact⟨hi,hi⟩))
 · rintro h ⟨x,y⟩ hx
   obtain⟨i,hi⟩:=dm.1 hx;rw[lf] at hi;obtain rfl:x=y:=fw (hi.1.symm.trans hi.2);exact h x (ba hi.1)
theorem Lu(ts:List T3)(p:P3):(lI ts p).length≤3*ts.length:=by
 have h1:=ep (fun t=>T3.has t p) ts;unfold lI;rw[List.length_flatMap];have h2:∀L:List T3,(L.map fun t=>(nbT p t).length).sum≤3*L.length:=fun L=>by
  induction L with
  | nil=>exact ap _
  | cons t L ih =>
   have:(nbT p t).length≤3:=by
    unfold nbT Vq;rw[aw,aw];split <;> split <;> split <;> simp
   simp only[bn,List.sum_cons,au];omega
 exact az (h2 _) (by omega)
theorem afZ:acJ (kR p q ts) (nY p q ts)=Rr ts p q:=rfl
theorem aoI(hnd:∀t∈ts,t.nd=true):∀t∈kR p q ts++nY p q ts,t.nd=true:=fun t ht=>by
 rcases bg.1 ht with h | h
 · obtain⟨s,hs,rfl⟩:=dj.1 h
   have:=(di.1 hs).2;rw[bh] at this;exact this.2
 · exact hnd t (di.1 h).1
theorem Pn[I3 q](hI:∀t∈ts,IT t):(∀t∈kR p q ts,IT t)∧(∀t∈kQ p q ts,IT t)∧∀t∈nY p q ts,IT t :=
 ⟨fun t ht=>by
  obtain⟨s,hs,rfl⟩:=dj.1 ht;have:=hI s (di.1 hs).1;exact⟨Fk inferInstance this.a,Fk inferInstance this.b,Fk inferInstance this.c⟩,fun t ht=>hI t (di.1 ht).1,fun t ht=>hI t (di.1 ht).1⟩
theorem amA(p q:P3)(ts:List T3):(kR p q ts).length+(nY p q ts).length≤ts.length+ts.length:=by
 have h1:=afT p q ts;have h2:=aab p q ts;have h3:=Sz p q ts;omega
end
theorem Po{g90 ga gf N cap ca cf:Nat}{A:Option Addr}{ea ef:Array bx}{D:List (P3 × Hd)}{F:List (P3 × Bool)}{ts:List T3}{p q:P3}[I3 p][I3 q](w:ah)(hS:Du 109 w g90 ga gf A N cap ea ef ca cf D ts)(hD:Ls ea ef ca cf D F ts)(hT:bK w A N ts)(hnd:∀t∈ts,t.nd=true)(hN:ts.length≤1000000):dF prog 51 [.pointer (some ⟨g90,0,none⟩),pt p,pt q] w (fun v _=>v=.bool (cE ts p q)):=by
 refine⟨anp,?_⟩;have m:=Mem.refl w;have hxl:(eY [] (lI ts p)).length≤100000000:=by have h1:=mS (lI ts p) [];have h2:=Lu ts p;simp only[bt] at h1;omega
 have hlen:=amA p q ts;have hlen1:=aab p q ts;have hlen2:=Sz p q ts
 go_enter func51,ntmps51
 refine eS 11 [1,0,0] m ?_;simp only[↓aD,aR];intro g8 g9;intro u m;refine bJ rfl rfl (amw (p:=p) (q:=q) _ (hS.b.ext m.ext) (hS.a.ext m.ext) hD.a (fun z=>⟨(hS.t z).1.ext m.ext,(hS.t z).2⟩) (hT.ext m.ext) (by omega)) ?_;rintro v u e ⟨g7,qx,esx,cx,qy,esy,cy,A5,n5,cap5,A6,n6,cap6,A7,n7,cap7,rfl,hM,hDx,hDy,hn5,hn6,hn7⟩;replace m:=m.plus hM;clear hM e;simp only[b_,bv] at m;refine aP 6 [0] m ?_;simp only[↓aD];intro u m;refine aB eX ?_;simp only[zz,fb,bn,c_];refine aP 1 [0] m ?_;simp only[↓aD];intro u m;refine aB eX ?_;simp only[zz,fb,bn,c_];refine aP 1 [0] m ?_;simp only[↓aD];intro u m;refine aB eX ?_;simp only[zz,fb,bn,c_];refine aP 1 [0] m ?_;simp only[↓aD];intro u m;refine aB eX ?_;simp only[zz,fb,bn,c_];refine aP 1 [0] m ?_;simp only[↓aD];intro u m;refine aB eX ?_;simp only[zz,fb,bn,c_];refine aP 1 [0] m ?_;simp only[↓aD];intro u m;refine aB eX ?_;simp only[zz,fb,bn,c_];refine Yc rfl rfl rfl rfl rfl rfl ?_;intro u g10 e hg hB;replace m:=m.newB e hg hB;clear e hg hB;refine aP 24 [7,1,0,0] m ?_;simp only[↓aD,alp,Fb,Oz,ab,ad,aa];refine⟨by omega,?_⟩;intro u m;refine cW m rfl rfl (acA (ts:=ts) (X:=eY [] (lI ts p)) (Y:=eY [] (lI ts q)) (F:=F) (ex:=esx) (ey:=esy) (ef:=ef) (cx:=cx) (cy:=cy) (cf:=cf) _ (m.b 1 rfl) (hS.b.ext m.ext) (m.p 6 rfl) hDx (hS.f.ext m.ext) hD.f) ?_;clear m;rintro v u m rfl;simp only[zz];rw[acM hD.b];refine aP 2 [0] m ?_;simp only[↓aD];intro u m;refine dQ rfl (fun hc2=>?_) (fun hc2=>?_)
 · skip
   have f0:sJ ts p q=false:=by simpa using hc2
   refine aS 5 [] m ?_;simp only[↓aD];intro u m;refine aQ rfl rfl ?_;try simp only[zD,zE]
   exact⟨_,rfl,m.ext,by rw[show cE ts p q=false by unfold cE;simp only[f0,jc,gw,kf,jn,kg]]⟩
 · skip
   have f0:sJ ts p q=true:=by simpa using hc2
   refine aS 25 [1,0,0] m ?_;simp only[↓aD,Fb,Oz,ai,ab,ad,aa];refine⟨by omega,?_⟩;intro u m;refine cW m rfl rfl (acC (ts:=ts) (X:=eY [] (lI ts p)) (Y:=eY [] (lI ts q)) (F:=F) (ex:=esx) (ey:=esy) (ef:=ef) (cx:=cx) (cy:=cy) (cf:=cf) _ (m.b 1 rfl) (hS.b.ext m.ext) (m.p 6 rfl) hDx (m.p 5 rfl) hDy hxl) ?_;clear m;rintro v u m rfl;simp only[zz];rw[acN];refine aP 2 [0] m ?_;simp only[↓aD];intro u m;refine dQ rfl (fun hc2=>?_) (fun hc2=>?_)
   · skip
     have f1:Db ts p q=false:=by simpa using hc2
     refine aS 5 [] m ?_;simp only[↓aD];intro u m;refine aQ rfl rfl ?_;try simp only[zD,zE]
     exact⟨_,rfl,m.ext,by rw[show cE ts p q=false by unfold cE;simp only[f0,f1,jc,gw,kf,jn,kg]]⟩
   · skip
     have f1:Db ts p q=true:=by simpa using hc2
     refine aS 25 [1,0,0] m ?_;simp only[↓aD,Fb,Oz,ai,ab,ad,aa];refine⟨by omega,?_⟩;intro u m;refine cW m rfl rfl (acG (ts:=ts) (X:=eY [] (lI ts p)) (Y:=eY [] (lI ts q)) (F:=F) (ex:=esx) (ey:=esy) (ef:=ef) (cx:=cx) (cy:=cy) (cf:=cf) (ms:=kR p q ts) (rs:=nY p q ts) _ (m.b 1 rfl) (hS.b.ext m.ext) ((m.o 4 rfl).tris (Pn (p:=p) (q:=q) hT.it).1) ((m.o 2 rfl).tris (Pn (p:=p) (q:=q) hT.it).2.2) (aoI hnd) (by omega)) ?_;clear m;rintro v u m rfl;simp only[zz];rw[show decide ((kR p q ts++nY p q ts).map Ki).Nodup=Hv ts p q from rfl];refine aP 2 [0] m ?_;simp only[↓aD];intro u m;refine dQ rfl (fun hc2=>?_) (fun hc2=>?_)
     · skip
       have f2:Hv ts p q=false:=by simpa using hc2
       refine aS 5 [] m ?_;simp only[↓aD];intro u m;refine aQ rfl rfl ?_;try simp only[zD,zE]
       exact⟨_,rfl,m.ext,by rw[show cE ts p q=false by unfold cE;simp only[f0,f1,f2,jc,gw,kf,jn,kg]]⟩
     · skip
       have f2:Hv ts p q=true:=by simpa using hc2
       refine aS 25 [1,0,0] m ?_;simp only[↓aD,Fb,Oz,ai,ab,ad,aa];refine⟨by omega,?_⟩;intro u m;refine cW m rfl rfl (afp (ts:=ts) (X:=eY [] (lI ts p)) (Y:=eY [] (lI ts q)) (F:=F) (ex:=esx) (ey:=esy) (ef:=ef) (cx:=cx) (cy:=cy) (cf:=cf) _ (m.b 1 rfl) (hS.b.ext m.ext) (m.p 6 rfl) hDx (m.p 5 rfl) hDy (hS.f.ext m.ext) hD.f) ?_;clear m;rintro v u m rfl;simp only[zz];rw[afY hD.b];refine aP 2 [0] m ?_;simp only[↓aD];intro u m;refine dQ rfl (fun hc2=>?_) (fun hc2=>?_)
       · skip
         have f3:Kj ts p q=false:=by simpa using hc2
         refine aS 5 [] m ?_;simp only[↓aD];intro u m;refine aQ rfl rfl ?_;try simp only[zD,zE]
         exact⟨_,rfl,m.ext,by rw[show cE ts p q=false by unfold cE;simp only[f0,f1,f2,f3,jc,gw,kf,jn,kg]]⟩
       · skip
         have f3:Kj ts p q=true:=by simpa using hc2
         refine aS 25 [1,0,0] m ?_;simp only[↓aD,Fb,Oz,ai,ab,ad,aa];refine⟨by omega,?_⟩;intro u m;refine cW m rfl rfl (Zw (ts:=ts) (X:=eY [] (lI ts p)) (Y:=eY [] (lI ts q)) (F:=F) (ex:=esx) (ey:=esy) (ef:=ef) (cx:=cx) (cy:=cy) (cf:=cf) (ms:=kR p q ts) (os:=kQ p q ts) _ (m.b 1 rfl) (hS.b.ext m.ext) ((m.o 4 rfl).tris (Pn (p:=p) (q:=q) hT.it).1) ((m.o 3 rfl).tris (Pn (p:=p) (q:=q) hT.it).2.1) (by omega) (by omega)) ?_;clear m;rintro v u m rfl;simp only[zz];rw[aac];refine aP 2 [0] m ?_;simp only[↓aD];intro u m;refine dQ rfl (fun hc2=>?_) (fun hc2=>?_)
         · skip
           have f4:wZ ts p q=false:=by simpa using hc2
           refine aS 5 [] m ?_;simp only[↓aD];intro u m;refine aQ rfl rfl ?_;try simp only[zD,zE]
           exact⟨_,rfl,m.ext,by rw[show cE ts p q=false by unfold cE;simp only[f0,f1,f2,f3,f4,jc,gw,kf,jn,kg]]⟩
         · skip
           have f4:wZ ts p q=true:=by simpa using hc2
           refine aS 25 [1,0,0] m ?_;simp only[↓aD,Fb,Oz,ai,ab,ad,aa];refine⟨by omega,?_⟩;intro u m;refine cW m rfl rfl (afR (ts:=ts) (X:=eY [] (lI ts p)) (Y:=eY [] (lI ts q)) (F:=F) (ex:=esx) (ey:=esy) (ef:=ef) (cx:=cx) (cy:=cy) (cf:=cf) (ms:=kR p q ts) (rs:=nY p q ts) _ (m.b 1 rfl) (hS.b.ext m.ext) ((m.o 4 rfl).tris (Pn (p:=p) (q:=q) hT.it).1) ((m.o 2 rfl).tris (Pn (p:=p) (q:=q) hT.it).2.2) (m.o 4 rfl).le (by omega)) ?_;clear m;rintro v u m rfl;simp only[zz];rw[afZ];refine aP 2 [0] m ?_;simp only[↓aD];intro u m;refine dQ rfl (fun hc2=>?_) (fun hc2=>?_)
           · skip
             have f5:Rr ts p q=false:=by simpa using hc2
             refine aS 5 [] m ?_;simp only[↓aD];intro u m;refine aQ rfl rfl ?_;try simp only[zD,zE]
             exact⟨_,rfl,m.ext,by rw[show cE ts p q=false by unfold cE;simp only[f0,f1,f2,f3,f4,f5,jc,gw,kf,jn,kg]]⟩
           · skip
             have f5:Rr ts p q=true:=by simpa using hc2
             refine aS 19 [2] m ?_;simp only[↓aD,ai];refine⟨by omega,?_⟩;intro u m;refine aQ rfl rfl ?_;try simp only[zD,zE]
             exact⟨_,rfl,m.ext,by rw[show cE ts p q=true by unfold cE;simp only[f0,f1,f2,f3,f4,f5,jc,gw,kf,jn,kg]]⟩
theorem af0{P:bc}{l:List ac}{op:Op}{ty:aj}{b c:Bool}(h:gI P l op ty (.bool b))(e:b=c):gI P l op ty (.bool c):=e▸h
def Lv(ts:List T3)(p q:P3):Bool:=decide (p≠q)&&decide (iH true ts=0)&&cE ts p q
theorem Lw{ts:List T3}(h:iH true ts=0):∀t∈ts,t.nd=true:=fun t ht=>Go.Lith.nd_of ((aej h).1 t ht)
theorem aoJ{p q:P3}:(p.x=q.x∧p.y=q.y∧p.z=q.z)↔p=q:=⟨fun h=>P3.eq h.1 h.2.1 h.2.2,fun h=>by rw[h];exact⟨rfl,rfl,rfl⟩⟩
theorem aiY{p q:P3}(h:p≠q):decide (¬(p.x=q.x∧p.y=q.y∧p.z=q.z))=true:=decide_eq_true fun k=>h (aoJ.1 k)
theorem aoK{p q:P3}(h:p=q):decide (¬(p.x=q.x∧p.y=q.y∧p.z=q.z))=false:=decide_eq_false fun k=>k (aoJ.2 h)
theorem tW{ts:List T3}{N cap:Nat}{A:Option Addr}{p q:P3}[I3 p][I3 q](w:ah)(hT:bK w A N ts)(hN:N≤300000):dF prog 17 [.slice A N cap,pt p,pt q] w (fun v _=>v=.bool (Lv ts p q)):=by
 refine⟨am8,?_⟩;have m:=Mem.refl w;have htl:=hT.len
 go_enter func17,ntmps17
 refine eS 7 [] m ?_;simp only[↓aD];intro g1 g2;intro u m;rcases (show p=q∨(p≠q∧iH true ts≠0)∨(p≠q∧iH true ts=0) by by_cases h1:p=q <;> by_cases h2:iH true ts=0 <;> simp[h1,h2]) with hpq | ⟨hpq,hck⟩ | ⟨hpq,hck⟩
 · skip
   refine gc ?_;refine mh m [true,true] [(0,true),(1,true),(2,true),(3,true),(4,true),(5,false),(6,true),(7,true),(8,true),(9,true),(11,true),(12,true),(10,false),(13,false),(14,true),(15,true)] aC (by kernel_rfl) (bQ (fun _ _ _ _ _ h=>h)) (ol:=?_) ?hol ?_
   case hol=>simp only[zw,zQ,zR];try rfl
   clear m;intro u m;refine eN rfl (fun u m=>((m.b 1 rfl).full aG aA)) ?_;simp only[zz];refine eN rfl (fun u m=>((m.b 0 rfl).full aG aA)) ?_;simp only[zz];refine aU ((af0 (gL rfl rfl) (aoK hpq))) (aU aI (qA rfl (bV (oK rfl ?_))));simp only[zz];refine aL (⟨m,?_⟩);refine qA rfl (aU (xX rfl) (aU aI (qA rfl ?_)));simp only[zz];refine qA rfl (qA rfl (bV (oK rfl (aL ?_))));refine⟨m,?_⟩;refine bV (oK rfl ?_);simp only[zz];refine aL (⟨m,?_⟩);refine aU (xX rfl) (aU aM (bM ?_));refine cR 1 [] m ?_;simp only[↓aD];intro u m;refine aQ rfl rfl ?_;try simp only[zD,zE]
   exact⟨_,rfl,m.ext,by rw[Lv,decide_eq_false (fun h=>h hpq)];rfl⟩
 · skip
   refine gc ?_;refine mh m [true,true] [(0,true),(1,true),(2,true),(3,true),(4,true),(5,false),(6,true),(7,true),(8,true),(9,true),(11,true),(12,true),(10,false),(13,false),(14,true),(15,true)] aC (by kernel_rfl) (bQ (fun _ _ _ _ _ h=>h)) (ol:=?_) ?hol ?_
   case hol=>simp only[zw,zQ,zR];try rfl
   clear m;intro u m;refine eN rfl (fun u m=>((m.b 1 rfl).full aG aA)) ?_;simp only[zz];refine eN rfl (fun u m=>((m.b 0 rfl).full aG aA)) ?_;simp only[zz];refine aU ((af0 (gL rfl rfl) (aiY hpq))) (aU aI (iR rfl (aU aI (bV (eD rfl ?_)))));simp only[zz];refine cW m rfl rfl (uX _ (hT.ext m.ext) (by omega)) ?_;clear m;rintro v u m rfl;refine aL (⟨m,?_⟩);refine iR rfl (aU (Px rfl rfl hck) (aU (pY rfl) (aU aI ?_)));simp only[zz];refine qA rfl (qA rfl (qA rfl (bV (oK rfl ?_))));simp only[zz];refine aL (⟨m,?_⟩);refine bV (oK rfl (aL ?_));refine⟨m,?_⟩;refine aU (xX rfl) (aU aM (bM ?_));refine cR 1 [] m ?_;simp only[↓aD];intro u m;refine aQ rfl rfl ?_;try simp only[zD,zE]
   exact⟨_,rfl,m.ext,by rw[Lv,decide_eq_false hck,gw];rfl⟩
 · skip
   refine gc ?_;refine mh m [true,true] [(0,true),(1,true),(2,true),(3,true),(4,true),(5,false),(6,true),(7,true),(8,true),(9,true),(11,true),(12,true),(10,false),(13,false),(14,true),(15,true)] aC (by kernel_rfl) (bQ (fun _ _ _ _ _ h=>h)) (ol:=?_) ?hol ?_
   case hol=>simp only[zw,zQ,zR];try rfl
   clear m;intro u m;refine eN rfl (fun u m=>((m.b 1 rfl).full aG aA)) ?_;simp only[zz];refine eN rfl (fun u m=>((m.b 0 rfl).full aG aA)) ?_;simp only[zz];refine aU ((af0 (gL rfl rfl) (aiY hpq))) (aU aI (iR rfl (aU aI (bV (eD rfl ?_)))));simp only[zz];refine cW m rfl rfl (uX _ (hT.ext m.ext) (by omega)) ?_;clear m;rintro v u m rfl;refine aL (⟨m,?_⟩);refine iR rfl (aU (vZ rfl rfl hck) (aU (pY rfl) (aU aI ?_)));simp only[zz];refine iR rfl (aU aI (iR rfl ?_));simp only[zz];refine eN rfl (fun u m=>((m.b 1 rfl).full aG aA)) ?_;simp only[zz];refine iR rfl (eN rfl (fun u m=>((m.b 0 rfl).full aG aA)) ?_);simp only[zz];refine bV (eD rfl (bJ rfl rfl (afX _ (hT.ext m.ext) (Lw hck) (by omega)) ?_));rintro v u e ⟨g90,ga,gf,ea,ef,ca,cf,D,F,K9,rfl,hM,hS9,hD9⟩;replace m:=m.plus hM;clear hM e;simp only[b_,bv] at m;refine aL (⟨m.sel [false,true,true],?_⟩);refine bV (eD rfl ?_);simp only[zz];refine cW m rfl rfl (Po (p:=p) (q:=q) _ (hS9 _ (m.get 0 rfl)) hD9 (hT.ext m.ext) (Lw hck) (by omega)) ?_;clear m;rintro v u m rfl;refine aL (⟨m.sel [false,true,true],?_⟩);refine aU (pY rfl) (aU aM (bM ?_));refine cR 1 [] m ?_;simp only[↓aD];intro u m;refine aQ rfl rfl ?_;try simp only[zD,zE]
   exact⟨_,rfl,m.ext,by rw[Lv,decide_eq_true hpq,decide_eq_true hck];rfl⟩
theorem aad{a b:List Int}{k:Nat}(ha:a.length=10)(hb:b.length=10)(hA:Bj k a)(hB:Bj k b)(hk:k≤900000):eM prog 61 [qV a,qV b] (qV (yV a b)):=by
 intro w;refine⟨anx,?_⟩;have m:=Mem.refl w
 go_enter func61,ntmps61
 refine eS 12 [0] m ?_;simp only[↓aD,aex];intro g1 g2 g3;intro u m;refine bW [6] [5,7,8,9,10,11,12,13,14,15,16,17,18] (fun n vs wl=>∃(i:Nat),vs=[.int .i64 (i:Int)]∧Mem w wl [bI g3 [.bool false,.string ⟨#[]⟩,.bool false,.string ⟨#[]⟩,.bool false,.string ⟨#[]⟩,.bool false,.string ⟨#[]⟩,.bool false,.string ⟨#[]⟩,.bool false,.string ⟨#[]⟩,.bool false,.string ⟨#[]⟩,.bool false,.string ⟨#[]⟩,.bool false,.string ⟨#[]⟩,.bool false,.string ⟨#[]⟩] 97,bI g2 (qC b) 97,bI g1 (qC (qP a b i)) 97]∧(i≤10)∧(n=10-i)) ?_ ?_
 · skip
   apply Exists.intro;simp only[zQ,zR,zD,zE];exact⟨0,rfl,m,cd _,rfl⟩
 · intro n vs wr hI u K1 hK1
   clear m;obtain⟨i,rfl,m,hi,hn⟩:=hI;simp only[zu,zF,zG];refine aS 5 [0,0] m ?_;simp only[↓aD];intro u m;refine bC rfl (fun hc1=>?_) (fun hc1=>?_)
   · skip
     have hi:i<10:=by omega
     obtain⟨x,hx0⟩:∃x,a[i]? = some x:=⟨_,Rx ha hi⟩
     obtain⟨y,hy⟩:∃y,b[i]? = some y:=⟨_,Rx hb hi⟩
     have hx:=an9 ha hb hi hx0;refine aS 8 [0] m ?_;simp only[↓aD];intro u m;refine cL m 9 aC (by kernel_rfl) ?_;simp only[zy];refine aH aI (aH aI ?_);simp only[zz];refine aH (aJ Gf aT rfl rfl (by omega) (by omega) (nG (ag _))) ?_;simp only[zz];refine ql rfl (fun u m=>(show gM _ _ _ _ (W x) from (xC (m.b 2 rfl) hx).lies dP aT)) ?_;simp only[zz];refine aH aI ?_;simp only[zz];refine aH (aJ Gf aT rfl rfl (by omega) (by omega) (nG (ag _))) ?_;simp only[zz];refine ql rfl (fun u m=>(show gM _ _ _ _ (W y) from (xC (m.b 1 rfl) hy).lies dP aT)) ?_;simp only[zz];refine iF rfl rfl (Pf ((hA.at hx0).mono (by omega)) ((hB.at hy).mono (by omega))) ?_;simp only[zz];refine aH (aJ Gf aT rfl rfl (by omega) (by omega) (nG (ag _))) (aY ?_);clear m;intro u m;simp only[zz];refine cD m 2 rfl rfl rfl aT (by have h1:=xB (qP a b i);have h2:=aes ha hb (show i≤10 by omega);simp only[au,bt];omega) rfl ?_;clear m;intro u m;simp only[zF,zG] at m;rw[show over (qC (qP a b i)) (i*2) [.bool (fC (x+y)),.string (jL (x+y))]=qC (qP a b (i+1)) from (Rv (x:=x+y) (by rw[aes ha hb (by omega)];omega)).trans (by rw[alc ha hb hi hx0 hy])] at m;refine aL (cR 5 [0] m ?_);simp only[↓aD];refine⟨by omega,?_⟩;intro u m;refine hK1 (10-(i+1)) _ _ ?_ ?_ ?_
     · omega
     · simp only[zz,zv]
     · simp only[zQ,zR,zD,zE]
       exact⟨i+1,rfl,m,by omega,rfl⟩
   · skip
     obtain rfl:i=10:=by omega
     rw[alb ha hb] at m;refine aS 3 [0] m ?_;simp only[↓aD];intro u m;refine aO rfl (sW (m.b 2 rfl) uL jG (by simp only[jT ha hb])) ?_;simp only[zz];refine yJ (n:=20) m 0 rfl rfl rfl (by rw[jT ha hb]) rfl jG ?_;clear m;intro u m;simp only[zF,zG] at m;refine aP 2 [] m ?_;simp only[↓aD];intro u m;exact aQ rfl ⟨_,rfl,(sW (m.b 0 rfl) uL jG (by simp only[jT ha hb]))⟩ (⟨_,rfl,m.ext,rfl⟩)
theorem apk{t:T3}[IT t]:eM prog 182 [tr t] (qV [t.normal.x,t.normal.y,t.normal.z,0-t.normal.x*t.a.x-t.normal.y*t.a.y-t.normal.z*t.a.z]):=by
 intro w;refine⟨aj2,?_⟩;have m:=Mem.refl w
 go_enter func182,ntmps182
 refine eS 8 [1,0] m ?_;simp only[↓aD,Zc,gZ];intro g1 g2;intro u m;refine vJ m rfl rfl (Li (t:=t)) 14 [0,0,0,0,0] ?_;simp only[↓aD,aeG,alv,Sa,iT,aeC,Zc,aeB,aa,ab,ad];intro g3 g4;refine⟨by omega,?_⟩;intro u m;refine cR 31 [3,3,3,4,1,0] m ?_;simp only[↓aD,dB,iZ,dR,jA,jP,tR,ab,ad,aa];refine⟨by omega,?_⟩;intro u m;refine aB (iJ rfl rfl) (aP 3 [0] m ?_);simp only[↓aD];intro u m;refine cL m 10 aC (by kernel_rfl) ?_;simp only[zy];refine eC 1 [] ?_;simp only[↓aD,Fe,ab,ad,aa];refine⟨by omega,?_⟩;refine ql rfl (fun u m=>(ahq ((m.b 0 rfl).lies dP aT rfl rfl))) ?_;simp only[zz];refine eC 4 [1] ?_;simp only[↓aD,Sa,iT,ab,ad,aa];refine⟨by omega,?_⟩;refine iF rfl rfl (nS Iw.h) ?_;simp only[zz];refine iF rfl rfl (pT Bw.up Bw.up) ?_;simp only[zz];refine iF rfl rfl (As Bw.up Bw.up) (eC 1 [] ?_);simp only[↓aD,Fe,ab,ad,aa];refine⟨by omega,?_⟩;refine aY ?_;clear m;intro u m;refine cD m 0 rfl rfl rfl aT (jE rfl) rfl ?_;clear m;intro u m;simp only[zy,zx,over,zF,zG,aa] at m;refine aL (cR 18 [1,0] m ?_);simp only[↓aD,ai];refine⟨by omega,?_⟩;intro u m;refine aB (iK rfl rfl) (aP 3 [0] m ?_);simp only[↓aD];intro u m;refine cL m 10 aC (by kernel_rfl) ?_;simp only[zy];refine eC 6 [0,1] ?_;simp only[↓aD,Fe,iT,Sa,ab,ad,aa];refine⟨by omega,?_⟩;refine iF rfl rfl (nS Iw.h) ?_;simp only[zz];refine iF rfl rfl (pT Bw.up Bw.up) ?_;simp only[zz];refine iF rfl rfl (As Bw.up Bw.up) (eC 1 [] ?_);simp only[↓aD,Fe,ab,ad,aa];refine⟨by omega,?_⟩;refine aY ?_;clear m;intro u m;refine cD m 0 rfl rfl rfl aT (jE rfl) rfl ?_;clear m;intro u m;simp only[zy,zx,over,zF,zG,aa] at m;refine aL (cR 18 [1,0] m ?_);simp only[↓aD,ai];refine⟨by omega,?_⟩;intro u m;refine aB (iL rfl rfl) (aP 3 [0] m ?_);simp only[↓aD];intro u m;refine cL m 10 aC (by kernel_rfl) ?_;simp only[zy];refine eC 6 [0,1] ?_;simp only[↓aD,Fe,iT,Sa,ab,ad,aa];refine⟨by omega,?_⟩;refine iF rfl rfl (nS Iw.h) ?_;simp only[zz];refine iF rfl rfl (pT Bw.up Bw.up) ?_;simp only[zz];refine iF rfl rfl (As Bw.up Bw.up) (eC 1 [] ?_);simp only[↓aD,Fe,ab,ad,aa];refine⟨by omega,?_⟩;refine aY ?_;clear m;intro u m;refine cD m 0 rfl rfl rfl aT (jE rfl) rfl ?_;clear m;intro u m;simp only[zy,zx,over,zF,zG,aa] at m;refine aL (cR 19 [2,0,2] m ?_);simp only[↓aD,aeB,ai,aa];refine⟨by omega,?_⟩;intro u m;exact aQ rfl ⟨_,rfl,((m.b 2 rfl).full aaH El)⟩ (⟨_,rfl,m.ext,rfl⟩)
def aoL(f:FuncId)(caps:Array ac)(w0:ah)(is:List It)(k:Nat)(J:Nat→It):Prop :=
 ∀n u,n<10→Mem w0 u (is.set k (J n))→sN prog f ([.int .i64 (n:Int),.int .i64 (eI n:Int),.int .i64 (eJ n:Int)]++caps.toList) u fun _ w'=>Mem w0 w' (is.set k (J (n+1)))
theorem af1{w0 w:ah}{is:List It}{f:FuncId}{caps:Array ac}{J:Nat→It}(m:Mem w0 w is)(k:Nat)(hk:is[k]? = some (J 0))(hc:aoL f caps w0 is k J):Calls prog 119 [.func (.func f) #[] caps].toArray w fun e w'=>∃v i,e=.returned v∧Mem w0 w' (is.set k i)∧(v=.tuple #[]∧i=J 10):=by
 replace m:=(show Mem w0 w (is.set k (J 0)) by rw[Jv hk];exact m)
 go_enter func119,ntmps119
 refine eS 49 [5,1,5,1,0] m ?_;simp only[↓aD];refine⟨by omega,?_⟩;intro u m;refine jB rfl rfl (hc 0 _ (by decide) m) ?_;clear m;rintro v u m;refine aP 29 [1,0] m ?_;simp only[↓aD,ai];refine⟨by omega,?_⟩;intro u m;refine jB rfl rfl (hc 1 _ (by decide) m) ?_;clear m;rintro v u m;refine aP 29 [1,0] m ?_;simp only[↓aD,ai];refine⟨by omega,?_⟩;intro u m;refine jB rfl rfl (hc 2 _ (by decide) m) ?_;clear m;rintro v u m;refine aP 29 [1,0] m ?_;simp only[↓aD,ai];refine⟨by omega,?_⟩;intro u m;refine jB rfl rfl (hc 3 _ (by decide) m) ?_;clear m;rintro v u m;refine aP 65 [2,1,4,1,0] m ?_;simp only[↓aD,ai];refine⟨by omega,?_⟩;intro u m;refine jB rfl rfl (hc 4 _ (by decide) m) ?_;clear m;rintro v u m;refine aP 29 [1,0] m ?_;simp only[↓aD,ai];refine⟨by omega,?_⟩;intro u m;refine jB rfl rfl (hc 5 _ (by decide) m) ?_;clear m;rintro v u m;refine aP 29 [1,0] m ?_;simp only[↓aD,ai];refine⟨by omega,?_⟩;intro u m;refine jB rfl rfl (hc 6 _ (by decide) m) ?_;clear m;rintro v u m;refine aP 65 [2,1,3,1,0] m ?_;simp only[↓aD,ai];refine⟨by omega,?_⟩;intro u m;refine jB rfl rfl (hc 7 _ (by decide) m) ?_;clear m;rintro v u m;refine aP 29 [1,0] m ?_;simp only[↓aD,ai];refine⟨by omega,?_⟩;intro u m;refine jB rfl rfl (hc 8 _ (by decide) m) ?_;clear m;rintro v u m;refine aP 65 [2,1,2,1,0] m ?_;simp only[↓aD,ai];refine⟨by omega,?_⟩;intro u m;refine jB rfl rfl (hc 9 _ (by decide) m) ?_;clear m;rintro v u m;refine aP 34 [2,2,0] m ?_;simp only[↓aD,ai];refine⟨by omega,?_⟩;intro u m;exact zY rfl (⟨_,J 10,rfl,m,rfl,rfl⟩)
theorem aoM{w0 w:ah}{K:It}{g3 g4 g5 n:Nat}{a b c d:Int}{k:Nat}(m:Mem w0 w [bI g3 (qC (qF a b c d n)) 97,bI g5 (wC 2) 95,bI g4 (qC [a,b,c,d]) 229,K])(hn:n<10)(hp:Bj k [a,b,c,d])(hk:k≤400000):sN prog 183 [.int .i64 (n:Int),.int .i64 (eI n:Int),.int .i64 (eJ n:Int),.pointer (some ⟨g4,0,none⟩),.pointer (some ⟨g3,0,none⟩),.pointer (some ⟨g5,0,none⟩)] w fun _ w'=>Mem w0 w' [bI g3 (qC (qF a b c d (n+1))) 97,bI g5 (wC 2) 95,bI g4 (qC [a,b,c,d]) 229,K]:=by
 refine⟨aj3,?_⟩;have hi:=aet hn;have hj:=aeu hn;have hx:=aix a b c d hi;have hy:=aix a b c d hj;have hlq:=ald a b c d (show n≤10 by omega);have hpr:=Yu hp rfl hn;have h2b:Bd 2 (2:Int):=by unfold Bd;decide
 go_enter func183,ntmps183
 refine eS 1 [0] m ?_;simp only[↓aD];intro u m;refine cL m 9 aC (by kernel_rfl) ?_;simp only[zy];refine aH aI (aH aI ?_);simp only[zz];refine aH (aJ underlying229 aT rfl rfl (by omega) (by omega) (nG (ag _))) ?_;simp only[zz];refine ql rfl (fun u m=>(show gM _ _ _ _ (W ([a,b,c,d].getD (eI n) 0)) from (xC (m.b 2 rfl) hx).lies dP aT)) ?_;simp only[zz];refine aH aI ?_;simp only[zz];refine aH (aJ underlying229 aT rfl rfl (by omega) (by omega) (nG (ag _))) ?_;simp only[zz];refine ql rfl (fun u m=>(show gM _ _ _ _ (W ([a,b,c,d].getD (eJ n) 0)) from (xC (m.b 2 rfl) hy).lies dP aT)) ?_;simp only[zz];refine iF rfl rfl (pT ((hp.at hx).mono (by omega)) ((hp.at hy).mono (by omega))) ?_;simp only[zz];refine aH (aJ Gf aT rfl rfl (by omega) (by omega) (nG (ag _))) (aY ?_);clear m;intro u m;simp only[zz];refine cD m 0 rfl rfl rfl aT (by have h1:=xB (qF a b c d n);have h2:=hlq;simp only[au,bt];omega) rfl ?_;clear m;intro u m;simp only[zF,zG] at m;rw[show over (qC (qF a b c d n)) (n*2) [.bool (fC ([a,b,c,d].getD (eI n) 0*[a,b,c,d].getD (eJ n) 0)),.string (jL ([a,b,c,d].getD (eI n) 0*[a,b,c,d].getD (eJ n) 0))]=qC ((qF a b c d n).set n (Ox [a,b,c,d] n)) from Rv (by omega)] at m;refine aL (cR 6 [0,0] m ?_);simp only[↓aD];intro u m;refine bC rfl (fun hc1=>?_) (fun hc1=>?_)
 · skip
   have hq:((qF a b c d n).set n (Ox [a,b,c,d] n))[n]? = some (Ox [a,b,c,d] n):=by rw[List.getElem?_set_self (by omega)]
   have hst:=aev (a:=a) (b:=b) (c:=c) (d:=d) hn;rw[if_neg (by omega)] at hst;refine cL m 7 aC (by kernel_rfl) ?_;simp only[zy];refine aH aI (aH aI ?_);simp only[zz];refine aH (aJ Gf aT rfl rfl (by omega) (by omega) (nG (ag _))) ?_;simp only[zz];refine ql rfl (fun u m=>(show gM _ _ _ _ (W (Ox [a,b,c,d] n)) from (xC (m.b 0 rfl) hq).lies dP aT)) ?_;simp only[zz];refine ql rfl (fun u m=>(show gM _ _ _ _ (W 2) from (m.b 1 rfl).lies dP aT rfl rfl)) ?_;simp only[zz];refine iF rfl rfl (pT (hpr.mono (by omega)) (h2b.mono (by omega))) ?_;simp only[zz];refine aH (aJ Gf aT rfl rfl (by omega) (by omega) (nG (ag _))) (aY ?_);clear m;intro u m;simp only[zz];refine cD m 0 rfl rfl rfl aT (by have h1:=xB ((qF a b c d n).set n (Ox [a,b,c,d] n));have h2:=(dl:((qF a b c d n).set n (Ox [a,b,c,d] n)).length=_);simp only[au,bt];omega) rfl ?_;clear m;intro u m;simp only[zF,zG] at m;rw[show over (qC ((qF a b c d n).set n (Ox [a,b,c,d] n))) (n*2) [.bool (fC (Ox [a,b,c,d] n*2)),.string (jL (Ox [a,b,c,d] n*2))]=qC (((qF a b c d n).set n (Ox [a,b,c,d] n)).set n (Ox [a,b,c,d] n*2)) from Rv (by rw[dl];omega)] at m;refine aL ?_;exact zY rfl (⟨_,rfl,by rw[hst] at m;exact m⟩)
 · skip
   have hst:=aev (a:=a) (b:=b) (c:=c) (d:=d) hn;rw[if_pos (by omega),List.set_set] at hst;refine aS 1 [0] m ?_;simp only[↓aD];intro u m;exact zY rfl (⟨_,rfl,by rw[hst] at m;exact m⟩)
theorem zw0:[bf false,Value.string ⟨#[]⟩]=wC 0:=by unfold wC;rw[Eg];rfl
theorem zq0:([.bool false,.string ⟨#[]⟩,.bool false,.string ⟨#[]⟩,.bool false,.string ⟨#[]⟩,.bool false,.string ⟨#[]⟩,.bool false,.string ⟨#[]⟩,.bool false,.string ⟨#[]⟩,.bool false,.string ⟨#[]⟩,.bool false,.string ⟨#[]⟩,.bool false,.string ⟨#[]⟩,.bool false,.string ⟨#[]⟩]:List ac)=qC q0:=by unfold qC q0;simp only[List.flatMap_cons,List.flatMap_nil,←zw0];rfl
theorem zqV:(Value.agg #[.bool false,.string ⟨#[]⟩,.bool false,.string ⟨#[]⟩,.bool false,.string ⟨#[]⟩,.bool false,.string ⟨#[]⟩,.bool false,.string ⟨#[]⟩,.bool false,.string ⟨#[]⟩,.bool false,.string ⟨#[]⟩,.bool false,.string ⟨#[]⟩,.bool false,.string ⟨#[]⟩,.bool false,.string ⟨#[]⟩])=qV q0:=by unfold qV;rw[←zq0]
theorem abl{n:Int}(h1:fC n=false)(h2:jL n=⟨#[]⟩):n=0:=amY (by rw[Qk];unfold W;rw[h1,h2])
theorem apl(t:T3):0-t.normal.x*t.a.x-t.normal.y*t.a.y-t.normal.z*t.a.z = -((pR t.a t.b t.c).dot t.a):=by
 show 0-(pR t.a t.b t.c).x*t.a.x-(pR t.a t.b t.c).y*t.a.y-(pR t.a t.b t.c).z*t.a.z=_
 generalize pR t.a t.b t.c=n;unfold P3.dot
 grind
theorem aae(t:T3):qPr t.normal.x t.normal.y t.normal.z (0-t.normal.x*t.a.x-t.normal.y*t.a.y-t.normal.z*t.a.z)=qOf t:=by rw[apl];rfl
theorem aiZ{t:T3}[IT t]:Bj 300 [t.normal.x,t.normal.y,t.normal.z,0-t.normal.x*t.a.x-t.normal.y*t.a.y-t.normal.z*t.a.z]:=fun x hx=>by
 simp only[ak,bw,or_false] at hx;rcases hx with rfl | rfl | rfl | rfl
 · exact (Bw.up:Bd 300 t.normal.x)
 · exact (Bw.up:Bd 300 t.normal.y)
 · exact (Bw.up:Bd 300 t.normal.z)
 · exact (Bw.up:Bd 300 (0-t.normal.x*t.a.x-t.normal.y*t.a.y-t.normal.z*t.a.z))
theorem af2{t:T3}[IT t]:Bj 602 (qOf t):=by rw[←aae];exact aob aiZ
theorem sO(t:T3):(qOf t).length=10:=rfl
theorem aoN:Bj 1 q0:=fun x hx=>by
 simp only[q0,ak,bw,or_false] at hx;rcases hx with rfl | rfl | rfl | rfl | rfl | rfl | rfl | rfl | rfl | rfl <;> (unfold Bd;decide)
theorem Dw{ts:List T3}{k:Nat}{t:T3}{p:P3}(h:ts[k]? = some t):rY (ts.take (k+1)) p=if t.has p then yV (rY (ts.take k) p) (qOf t) else rY (ts.take k) p:=by
 unfold rY;rw[cC h,gj,List.foldl_append];cases hh:t.has p <;> simp[hh]
theorem vD{ts:List T3}{p:P3}:∀k,k≤ts.length→(rY (ts.take k) p).length=10
 | 0,_=>rfl
 | k+1,hk=>by
  rw[Dw (an (by omega))];split
  · exact jT (vD k (by omega)) (sO _)
  · exact vD k (by omega)
theorem Ta{ts:List T3}{p:P3}(hI:∀t∈ts,IT t):∀k,k≤ts.length→Bj (602+k) (rY (ts.take k) p)
 | 0,_=>aoN.mono (by omega)
 | k+1,hk=>by
  rw[Dw (an (by omega))];split
  · haveI:=hI _ (List.getElem_mem (by omega:k<ts.length))
    exact Hw (Ta hI k (by omega)) (af2.mono (by show 602≤602+k;omega))
  · exact (Ta hI k (by omega)).mono (by omega)
theorem aoO{t:T3}[IT t]:eM prog 117 [tr t] (qV (qOf t)):=by
 intro w;refine⟨ajz,?_⟩;have m:=Mem.refl w
 go_enter func117,ntmps117
 refine eS 12 [2,0] m ?_;simp only[↓aD,aex,gZ];intro g1 g2 g3;intro u m;refine vJ m rfl rfl (apk (t:=t)) 1 [0] ?_;simp only[↓aD,Zc];intro g4;intro u m;refine yJ (n:=8) m 0 rfl rfl rfl rfl rfl El ?_;clear m;intro u m;simp only[zF,zG] at m;refine aP 4 [0] m ?_;simp only[↓aD];intro u m;refine aO rfl (sW (m.b 0 rfl) aaH El rfl) ?_;simp only[zz];refine aP 1 [0] m ?_;simp only[↓aD,aeC,aa];intro u m;refine aB (Ya rfl rfl) (aP 1 [0] m ?_);simp only[↓aD];intro u m;refine bC rfl (fun hc1=>?_) (fun hc1=>?_)
 · skip
   refine aS 1 [] m ?_;simp only[↓aD];intro u m;rw[zq0] at m;refine cR 1 [0] m ?_;simp only[↓aD];intro u m;refine aO rfl (sW (m.b 1 rfl) uL jG (by first | rw[sO] | rfl)) ?_;simp only[zz];refine yJ (n:=20) m 2 rfl rfl rfl rfl rfl jG ?_;clear m;intro u m;simp only[zF,zG] at m;refine aP 2 [] m ?_;simp only[↓aD];intro u m;refine aQ rfl ⟨_,rfl,(sW (m.b 2 rfl) uL jG (by first | rw[sO] | rfl))⟩ ?_;try simp only[zD,zE]
   exact⟨_,rfl,m.ext,by rw[←aae,abl hc1.2.2.2.2.2.2.1 hc1.2.2.2.2.2.2.2,abl hc1.1 hc1.2.1,abl hc1.2.2.1 hc1.2.2.2.1,abl hc1.2.2.2.2.1 hc1.2.2.2.2.2.1];rfl⟩
 · skip
   refine aS 3 [0] m ?_;simp only[↓aD];intro u m;refine vJ m rfl rfl (nS (n:=2) (by constructor <;> decide)) 4 [0] ?_;simp only[↓aD,rT,iT,aa];intro g5;intro u m;rw[zq0] at m;refine cR 1 [0] m ?_;simp only[↓aD];intro u m;refine aB eX ?_;simp only[zz,fb,bn,c_];replace m:=m.pull 1 rfl;simp only[cY,cZ,zF,zG] at m;replace m:=m.pull 1 rfl;simp only[cY,cZ,zF,zG] at m;replace m:=m.pull 2 rfl;simp only[cY,cZ,zF,zG] at m;replace m:=m.pack3;refine kP m 0 adC rfl rfl (fun m=>af1 (J:=fun n=>bI g3 (qC (qF t.normal.x t.normal.y t.normal.z (0-t.normal.x*t.a.x-t.normal.y*t.a.y-t.normal.z*t.a.z) n)) 97) m 0 rfl (fun n u hn mu=>aoM (k:=300) mu hn aiZ (by decide))) ?_;clear m;rintro v i u m ⟨rfl,rfl⟩;simp only[zF,zG] at m;simp only[zz];replace m:=m.unpack3;rw[aoa,aae] at m;refine aP 3 [0] m ?_;simp only[↓aD];intro u m;refine aO rfl (sW (m.b 0 rfl) uL jG (by first | rw[sO] | rfl)) ?_;simp only[zz];refine yJ (n:=20) m 3 rfl rfl rfl (by rw[sO]) rfl jG ?_;clear m;intro u m;simp only[zF,zG] at m;refine aP 2 [] m ?_;simp only[↓aD];intro u m;exact aQ rfl ⟨_,rfl,(sW (m.b 3 rfl) uL jG (by first | rw[sO] | rfl))⟩ (⟨_,rfl,m.ext,rfl⟩)
theorem aoP{w0 w:ah}{K:It}{g1 g4 g5 n:Nat}{q x:List Int}{k:Nat}(m:Mem w0 w [bI g5 (wC (atS q x n)) 95,bI g4 (qC x) 168,bI g1 (qC q) 97,K])(hn:n<10)(hq:Bj k q)(hl:q.length=10)(hx:Bj 64 x)(hxl:x.length=4)(hk:k≤900000):sN prog 120 [.int .i64 (n:Int),.int .i64 (eI n:Int),.int .i64 (eJ n:Int),.pointer (some ⟨g5,0,none⟩),.pointer (some ⟨g1,0,none⟩),.pointer (some ⟨g4,0,none⟩)] w fun _ w'=>Mem w0 w' [bI g5 (wC (atS q x (n+1))) 95,bI g4 (qC x) 168,bI g1 (qC q) 97,K]:=by
 refine⟨ajB,?_⟩;have hi:=aet hn;have hj:=aeu hn;have hx1:x[eI n]? = some (x.getD (eI n) 0):=by rw[fz,an (by omega:eI n<x.length)];rfl
 have hx2:x[eJ n]? = some (x.getD (eJ n) 0):=by rw[fz,an (by omega:eJ n<x.length)];rfl
 have hq1:=Rx hl hn;have hp1:Bd 128 (x.getD (eI n) 0*x.getD (eJ n) 0):=Yu hx hxl hn;have hs1:=Yv hq hl hx hxl n (by omega);have hm1:=(hq.at hq1).mul hp1
 go_enter func120,ntmps120
 refine g0 ?_;refine cL m 13 aC (by kernel_rfl) ?_;simp only[zy];refine ql rfl (fun u m=>(show gM _ _ _ _ (W (atS q x n)) from (m.b 0 rfl).lies dP aT rfl rfl)) ?_;simp only[zz];refine aH aI ?_;simp only[zz];refine aH (aJ Gf aT rfl rfl (by omega) (by omega) (nG (ag _))) ?_;simp only[zz];refine ql rfl (fun u m=>(show gM _ _ _ _ (W (q.getD n 0)) from (xC (m.b 2 rfl) hq1).lies dP aT)) ?_;simp only[zz];refine aH aI ?_;simp only[zz];refine aH (aJ underlying168 aT rfl rfl (by omega) (by omega) (nG (ag _))) ?_;simp only[zz];refine ql rfl (fun u m=>(show gM _ _ _ _ (W (x.getD (eI n) 0)) from (xC (m.b 1 rfl) hx1).lies dP aT)) ?_;simp only[zz];refine aH aI ?_;simp only[zz];refine aH (aJ underlying168 aT rfl rfl (by omega) (by omega) (nG (ag _))) ?_;simp only[zz];refine ql rfl (fun u m=>(show gM _ _ _ _ (W (x.getD (eJ n) 0)) from (xC (m.b 1 rfl) hx2).lies dP aT)) ?_;simp only[zz];refine iF rfl rfl (pT ((hx.at hx1).mono (by omega)) ((hx.at hx2).mono (by omega))) ?_;simp only[zz];refine iF rfl rfl (pT ((hq.at hq1).mono (by omega)) (hp1.mono (by omega))) ?_;simp only[zz];refine iF rfl rfl (Pf (hs1.mono (by omega)) (hm1.mono (by omega))) (aY ?_);clear m;intro u m;simp only[zz];refine cD m 0 rfl rfl rfl aT (by simp[wC]) rfl ?_;clear m;intro u m;simp only[zF,zG] at m;rw[Vc (by rfl)] at m;exact aL (zY rfl (⟨_,rfl,m⟩))
theorem aoQ{q:List Int}{p:P3}{k:Nat}[I3 p](hq:Bj k q)(hl:q.length=10)(hk:k≤900000):eM prog 60 [qV q,pt p] (W (qAt q p)):=by
 intro w;refine⟨anw,?_⟩;have m:=Mem.refl w
 go_enter func60,ntmps60
 refine eS 7 [0] m ?_;simp only[↓aD,rT];intro g1 g2 g3;intro u m;refine vF 12 [0,1,2,3,4,5,6,7,8,9,10] [⟨11,5,168,[.bool false,.string ⟨#[]⟩,.bool false,.string ⟨#[]⟩,.bool false,.string ⟨#[]⟩,.bool false,.string ⟨#[]⟩]⟩] aC (by kernel_rfl) (al1 ⟨_,_,_,rfl,by kernel_rfl,_,Uf,rfl⟩) (ol:=?_) ?hol ?_
 case hol=>simp only[zw,zQ,zR];try rfl
 intro u e;replace m:=m.ext' e;clear e;refine Ac (aZ (c:=0) rK rfl aX rfl rfl) ?_;simp only[zz];refine rF rfl (fun u e=>(((m.ext' e).b 1 rfl).lies1 bN rfl)) ?_;simp only[zz];refine yA rfl rfl (nS Iw.h) (Ac (aZ (c:=0) rK rfl aX rfl rfl) ?_);simp only[zz];refine rF rfl (fun u e=>(((m.ext' e).b 1 rfl).lies1 bN rfl)) ?_;simp only[zz];refine yA rfl rfl (nS Iw.h) (Ac (aZ (c:=0) rK rfl aX rfl rfl) ?_);simp only[zz];refine rF rfl (fun u e=>(((m.ext' e).b 1 rfl).lies1 bN rfl)) ?_;simp only[zz];refine yA rfl rfl (nS Iw.h) ?_;simp only[zz];refine yA rfl rfl (nS (n:=1) (by constructor <;> decide)) (Ac (yR rfl rfl rfl rfl) (aio ?_));simp only[zz];refine mf1 m ?_;clear m;intro g4 u m;simp only[zJ,zK,zF,zG];refine cD m 0 rfl rfl rfl abM (jE rfl) rfl ?_;clear m;intro u m;simp only[zy,zx,over,zF,zG,aa] at m;refine aL (cR 5 [] m ?_);simp only[↓aD,rT];intro g5;intro u m;rw[zw0] at m;refine cR 1 [0] m ?_;simp only[↓aD];intro u m;refine aB eX ?_;simp only[zz,fb,bn,c_];replace m:=m.pull 4 rfl;simp only[cY,cZ,zF,zG] at m;replace m:=m.pull 2 rfl;simp only[cY,cZ,zF,zG] at m;replace m:=m.pull 2 rfl;simp only[cY,cZ,zF,zG] at m;replace m:=m.pack3;refine kP m 0 adC rfl rfl (fun m=>af1 (J:=fun n=>bI g5 (wC (atS q [p.x,p.y,p.z,1] n)) 95) m 0 rfl (fun n u hn mu=>aoP mu hn hq hl (bd4 inferInstance) rfl hk)) ?_;clear m;rintro v i u m ⟨rfl,rfl⟩;simp only[zF,zG] at m;simp only[zz];replace m:=m.unpack3;rw[aew hl] at m;refine aP 7 [0,3] m ?_;simp only[↓aD,iT,aa];intro u m;exact aQ rfl ⟨_,rfl,((m.b 3 rfl).full dP aT)⟩ (⟨_,rfl,m.ext,rfl⟩)
theorem ai0{t:T3}{x:P3}:(decide (t.a.x=x.x∧t.a.y=x.y∧t.a.z=x.z)||decide (t.b.x=x.x∧t.b.y=x.y∧t.b.z=x.z)||decide (t.c.x=x.x∧t.c.y=x.y∧t.c.z=x.z))=t.has x:=by
 have e:∀p q:P3,(p.x=q.x∧p.y=q.y∧p.z=q.z)↔q=p:=fun p q=>⟨fun h=>(P3.eq h.1 h.2.1 h.2.2).symm,fun h=>by rw[h];exact⟨rfl,rfl,rfl⟩⟩
 rw[ia,nP];simp only[fu,decide_eq_true_eq,e,or_assoc]
theorem amB{ts:List T3}{N cap:Nat}{A:Option Addr}{p:P3}(w:ah)(hT:bK w A N ts)(hN:N≤800000):dF prog 58 [.slice A N cap,pt p] w (fun v _=>v=qV (rY ts p)):=by
 refine⟨anu,?_⟩;have m:=Mem.refl w;have htl:=hT.len
 go_enter func58,ntmps58
 refine eS 17 [0] m ?_;simp only[↓aD,aex,iS];intro g1 g2 g3;intro u m;refine bW [10] [7,11,12,13,14,15,16,17,18,19,20,21,22,23,24,25,26,27,28,29,30,31,32,33,34] (fun n vs wl=>∃(k:Nat),vs=[.int .i64 (k:Int)]∧Mem w wl [bI g3 (qC (rY (ts.take k) p)) 97,bI g2 [.bool false,.string ⟨#[]⟩,.bool false,.string ⟨#[]⟩,.bool false,.string ⟨#[]⟩,.bool false,.string ⟨#[]⟩,.bool false,.string ⟨#[]⟩,.bool false,.string ⟨#[]⟩,.bool false,.string ⟨#[]⟩,.bool false,.string ⟨#[]⟩,.bool false,.string ⟨#[]⟩,.bool false,.string ⟨#[]⟩] 97,bI g1 [.int .i64 p.x,.int .i64 p.y,.int .i64 p.z] 30]∧(k≤N)∧(n=N-k)) ?_ ?_
 · rw[show ([.bool false,.string ⟨#[]⟩,.bool false,.string ⟨#[]⟩,.bool false,.string ⟨#[]⟩,.bool false,.string ⟨#[]⟩,.bool false,.string ⟨#[]⟩,.bool false,.string ⟨#[]⟩,.bool false,.string ⟨#[]⟩,.bool false,.string ⟨#[]⟩,.bool false,.string ⟨#[]⟩,.bool false,.string ⟨#[]⟩]:List ac)=qC (rY (ts.take 0) p) from zq0] at m
   apply Exists.intro;simp only[zQ,zR,zD,zE];exact⟨0,rfl,m,cd _,rfl⟩
 · intro n vs wr hI u K1 hK1
   clear m;obtain⟨k,rfl,m,hk,hn⟩:=hI;simp only[zu,zF,zG];refine aS 5 [0,0] m ?_;simp only[↓aD];intro u m;refine bC rfl (fun hc1=>?_) (fun hc1=>?_)
   · skip
     obtain⟨t,ht,hti,a,rfl,hrow⟩:=hT.get (i:=k) (by omega);have hql:=vD (ts:=ts) (p:=p) k (by omega);have hqb:=Ta (p:=p) hT.it k (by omega);refine aS 5 [0] m ?_;simp only[↓aD];intro u m;refine aB (aF bT aN rfl rfl (by omega) (by omega) (cI (ag _))) ?_;simp only[zz];refine aO rfl ((hrow.ext m.ext).lies cF aN) ?_;simp only[zz];refine aP 8 [0,0,3,0] m ?_;simp only[↓aD,mU,gZ,dB,aR,aa,ab,ad];intro g4;refine⟨by omega,?_⟩;intro u m;refine aB (cG rfl rfl) (aP 1 [0] m ?_);simp only[↓aD];intro u m;refine dG rfl (fun hb=>aJ dC aA rfl rfl (by decide) (by decide) rfl) ?_;simp only[zz];refine eV rfl (fun hb=>aW (bD hb rfl) ((m.b 0 rfl).lies aG aA rfl rfl)) ?_;simp only[zz,zy,aq,aa,ad,ab];refine eV rfl (fun hb=>aW rfl ((m.b 3 rfl).full aG aA)) (dG rfl (fun hb=>cG (bD hb rfl) (bD hb rfl)) (aB (dW rfl rfl rfl) ?_));refine aP 1 [0] m ?_;simp only[↓aD];intro u m;refine dG rfl (fun hb=>aJ dC aA rfl rfl (by decide) (by decide) rfl) ?_;simp only[zz];refine eV rfl (fun hb=>aW (bD hb rfl) ((m.b 0 rfl).lies aG aA rfl rfl)) ?_;simp only[zz,zy,aq,aa,ad,ab];refine eV rfl (fun hb=>aW rfl ((m.b 3 rfl).full aG aA)) (dG rfl (fun hb=>cG (bD hb rfl) (bD hb rfl)) (aB (dW rfl rfl rfl) ?_));refine aP 1 [0] m ?_;simp only[↓aD];intro u m;refine dQ rfl (fun hc2=>?_) (fun hc2=>?_)
     · skip
       rw[ai0] at hc2;have hst:=Dw (p:=p) ht;rw[if_pos hc2] at hst;refine cL m 4 aC (by kernel_rfl) ?_;simp only[zy];refine ql rfl (fun u m=>(sW (m.b 1 rfl) uL jG (by first | rw[hqN] | rw[vD _ (by omega)]))) ?_;simp only[zz];refine ql rfl (fun u m=>((m.b 0 rfl).full cF aN)) ?_;simp only[zz];refine iF rfl rfl (aoO (t:=t)) ?_;simp only[zz];refine iF rfl rfl (aad hql (sO t) hqb (af2.mono (by omega)) (by omega)) (aY ?_);clear m;intro u m;simp only[zz];refine yJ (n:=20) m 1 rfl rfl rfl (by rw[jT hql (sO t)]) (by rw[xB,hql]) jG ?_;clear m;intro u m;simp only[zF,zG] at m;refine aL (cR 5 [0] m ?_);simp only[↓aD];refine⟨by omega,?_⟩;intro u m;rw[←hst] at m;refine hK1 (N-(k+1)) _ _ ?_ ?_ ?_
       · omega
       · simp only[zz,zv]
       · simp only[zQ,zR,zD,zE]
         exact⟨k+1,rfl,(m.sel [false,true,true,true]),by omega,rfl⟩
     · skip
       rw[ai0] at hc2;have hst:=Dw (p:=p) ht;rw[if_neg (by rw[hc2];exact iq)] at hst;refine aS 6 [0] m ?_;simp only[↓aD];refine⟨by omega,?_⟩;intro u m;rw[←hst] at m;refine hK1 (N-(k+1)) _ _ ?_ ?_ ?_
       · omega
       · simp only[zz,zv]
       · simp only[zQ,zR,zD,zE]
         exact⟨k+1,rfl,(m.sel [false,true,true,true]),by omega,rfl⟩
   · skip
     obtain rfl:N=k:=by omega
     rw[show ts.take N=ts from be (by omega)] at m;have hqN:(rY ts p).length=10:=by have:=vD (ts:=ts) (p:=p) N (by omega);rwa [be (by omega)] at this
     refine aS 3 [0] m ?_;simp only[↓aD];intro u m;refine aO rfl (sW (m.b 0 rfl) uL jG (by first | rw[hqN] | rw[vD _ (by omega)])) ?_;simp only[zz];refine yJ (n:=20) m 1 rfl rfl rfl (by rw[hqN]) rfl jG ?_;clear m;intro u m;simp only[zF,zG] at m;refine aP 2 [] m ?_;simp only[↓aD];intro u m;exact aQ rfl ⟨_,rfl,(sW (m.b 1 rfl) uL jG (by rw[hqN]))⟩ (⟨_,rfl,m.ext,rfl⟩)
end Go.Proofs.YtfekpcimgncioaaGreatDoor
set_option linter.unusedSectionVars false
namespace Go.Lith
open Go
theorem aaf{P:bc}{w:ah}{at_:Addr}{u:aj}{k:Addr}{v:ac}{b:Bool}{r:ah × List Addr}(h:w.viewStore P at_ u k v b=.ok r):r.1.drawn=w.drawn:=by
 unfold World.viewStore at h;simp only[bind,Except.bind,pure,Except.pure,throw] at h
 repeat' split at h
 all_goals first | (cases h;done) | (cases h;rfl) | skip
theorem acO{P:bc}{w:ah}{x:Addr}{v:ac}{b:Bool}{r:ah × List Addr}(h:w.farStore P x v b=.ok r):r.1.drawn=w.drawn:=by
 unfold World.farStore at h;split at h
 · split at h
   · rename_i hv
     cases h;exact aaf hv
   · cases h
 · cases h
theorem Tb(w:ah)(x:Addr)(n:Nat):(w.freeze x n).drawn=w.drawn:=by
 unfold World.freeze;split <;> rfl
theorem acP{α:Type}(s:Ask α):∀w:ah,w.drawn≤(w.ask s).2.drawn:=by
 induction s with
 | done a=>intro w;exact ap _
 | ask what range k ih =>
  intro w;simp only[World.ask];split
  · exact ih _ w
  · exact az (Nat.le_succ _) (ih _ { w with drawn:=w.drawn+1 })
theorem acQ(w:ah)(c:Sys):w.drawn≤(w.sys c).2.drawn:=by
 have h:=acP (Kernel.perform c w.os) w;unfold World.sys;split
 · exact ap _
 · rename_i e
   rw[e] at h;exact h
def okR{α:Type}(d:Nat):Result α→Prop
 | .ok _ w=>d≤w.drawn
 | .halt _ w=>d≤w.drawn
theorem okR.mono{α:Type}{d e:Nat}(h:e≤d):∀{r:Result α},okR d r→okR e r
 | .ok _ _,k=>az h k
 | .halt _ _,k=>az h k
theorem Ig{P:bc}{α:Type}(s:Sem α):∀w:ah,okR w.drawn (s.run P w):=by
 induction s with
 | pure _=>intro w;exact ap _
 | load m x k ih =>
  intro w;simp only[Sem.run];split
  · exact ih _ _
  · split
    · exact ih _ _
    · exact ap _
 | store m x v k ih =>
  intro w;have key:okR w.drawn (match w.cell? x with
   | some _=>if w.frozen? x then Result.halt (.unsupported (.unsafePointer "a write to bytes that a string shares")) w else k.run P (w.setCell x v)
   | none=>match w.farStore P x v (m == Mode.atomic) with
    | .ok (w,_)=>k.run P w
    | .error h=>.halt h w):=by
   split
   · split
     · exact ap _
     · exact ih (w.setCell x v)
   · split
     · rename_i hf
       exact okR.mono (Nat.le_of_eq (acO hf).symm) (ih _)
     · exact ap _
  cases v <;> simp only[Sem.run] <;> first | exact ap _ | exact key
 | new o k ih=>intro w;exact ih _ { w with heap:=w.heap.push o }
 | shape r k ih=>intro w;exact ih _ _
 | freeze x n k ih=>intro w;exact okR.mono (Nat.le_of_eq (Tb w x n).symm) (ih _)
 | frozen x k ih=>intro w;exact ih _ _
 | getObj r k ih =>
  intro w;simp only[Sem.run];split
  · exact ap _
  · exact ih _ _
  · exact ap _
 | setObj r o k ih =>
  intro w;simp only[Sem.run];split
  · exact ap _
  · exact ih { w with heap:=w.heap.setIfInBounds r o }
  · exact ap _
 | choose q k ih =>
  intro w;simp only[Sem.run];split
  · exact ih _ _
  · exact okR.mono (Nat.le_succ _) (ih _ { w with drawn:=w.drawn+1 })
 | sys c k ih=>intro w;exact okR.mono (acQ w c) (ih _ _)
 | program k ih=>intro w;exact ih _ _
 | mark m k ih=>intro w;exact ih _
 | halt x=>intro w;exact ap _
theorem Wg{P:bc}{α:Type}{s:Sem α}{w:ah}{es:Array Event}{r:Result α}{es':Array Event}(h:s.runT P w es=(r,es')):okR w.drawn r:=by
 have:=Sem.runT_fst P s w es;rw[h] at this;rw[show r=s.run P w from this];exact Ig s w
theorem gG{P:bc}{α:Type}{s:Sem α}{w:ah}{r:Result α}(h:s.run P w=r):okR w.drawn r:=h▸Ig s w
theorem mB{P:bc}{α:Type}{s:Sem α}{w:ah}{es:Array Event}{r:Result α}(h:(s.runT P w es).1=r):okR w.drawn r:=by
 rw[Sem.runT_fst] at h;exact gG h
def Tc(d:Nat):GStep→Prop
 | .go _ w _ | .comm _ _ _ _ w _ | .spawn _ _ w _ | .count _ w _ | .timer _ _ w _ | .alone _ _ w _ | .newcoro _ _ _ w _ | .coroswitch _ _ _ w _ | .collect _ w _ | .watch _ w _=>d≤w.drawn
 | .ended _ _ _=>True
theorem tX{d:Nat}{es:Array Event}{g:GStep}(h:Tc d g):Tc d (g.after es):=by cases g <;> exact h
theorem ah7{α:Type}{d:Nat}{x:GStep}{f:α→GStep}(h1:Tc d x)(h2:∀a,Tc d (f a)):∀o:Option α,Tc d (o.elim x f)
 | none=>h1
 | some a=>h2 a
section
variable {P:bc} {d:Nat} {w:ah} (hw:d≤w.drawn)
include hw
theorem aag(fd:Nat)(t:ByteArray)(o:Outcome):Tc d (endWith w fd t o):=by
 unfold endWith;dsimp only
 repeat' split
 all_goals trivial
theorem Lx(fr:Frame)(cs:List Frame)(dy:Option Dying)(m:String):Tc d (endFatal P fr cs dy m w):=by
 unfold endFatal;dsimp only;split
 · rename_i h
   exact az hw (gG h)
 · trivial
 · trivial
theorem Hc(fr:Frame)(v:ac):Tc d (endPrinting P fr v w):=by
 unfold endPrinting;dsimp only;split
 · exact hw
 · trivial
theorem Fu(main:Bool)(fr:Frame)(cs:List Frame)(dy:Option Dying)(v:ac):Tc d (doReturn P main fr cs dy v w):=by
 unfold doReturn
 repeat' (first | exact hw | trivial | split)
theorem Wh(fr:Frame)(cs:List Frame)(dy:Option Dying)(g:Nat):Tc d (early P fr cs dy g w):=by
 have n:∀w:ah,d≤w.drawn→Tc d (match w.heap[g]? with
  | some (.pending c elem)=>GStep.go { frame:=fr,callers:=cs,status:=.running,dying:=dy } { w with heap:=w.heap.setIfInBounds g (.cells c elem) }
  | _=>.ended (.stuck "early: the variable does not wait" (fr.pos P)) w):=fun w hw=>by
  split
  · exact hw
  · trivial
 unfold early;dsimp only
 repeat' (first | exact n _ hw | exact hw | trivial | exact az hw (gG (r:=.ok _ _) (by assumption)) | (rename_i w1 h1 x1 c1 e1 h2;exact az hw (gG h1)) | split)
theorem Ly(b:Bool)(fr:Frame)(cs:List Frame)(dy:Option Dying)(s:Sem Next):Tc d (stepG.apply P b fr cs dy s w):=by
 unfold stepG.apply;dsimp only;have hr:okR w.drawn (if b=true then s.runT P w #[] else (s.run P w,#[])).1:=by
  split
  · rw[Sem.runT_fst];exact Ig s w
  · exact Ig s w
 generalize (if b=true then s.runT P w #[] else (s.run P w,#[]))=r at hr;obtain⟨r,es⟩:=r;refine tX ?_;cases r with
 | ok n u =>
  have hu:d≤u.drawn:=az hw hr;cases n
  all_goals dsimp only
  all_goals repeat' (first | exact hu | trivial | exact throw_ok hu _ _ | split)
 | halt x u =>
  have hu:d≤u.drawn:=az hw hr;cases x
  all_goals dsimp only
  all_goals repeat' (first | exact hu | trivial | exact throw_ok hu _ _ | exact Lx hu _ _ _ _ | exact Wh hu _ _ _ _ | (rename_i e;cases e;done) | (rename_i e;cases e;exact hu) | (rename_i e;cases e;exact Lx hu _ _ _ _) | (rename_i e;cases e;exact Wh hu _ _ _ _) | split)
theorem ah8(b:Bool)(fr:Frame)(cs:List Frame)(dy:Option Dying):Tc d (stepG.oper P b fr cs dy w):=by
 unfold stepG.oper
 repeat' (first | trivial | exact Ly hw _ _ _ _ _ | split)
theorem ah9(main b:Bool)(fr:Frame)(cs:List Frame)(dy:Option Dying):Tc d (stepG.exec P main b fr cs dy w):=by
 unfold stepG.exec;dsimp only
 repeat' (first | exact hw | trivial | exact Ly hw _ _ _ _ _ | exact ah8 hw _ _ _ _ | (with_reducible refine tX ?_) | exact az hw (mB (r:=.ok _ _) (by assumption)) | exact az hw (mB (r:=.halt _ _) (by assumption)) | exact az hw (gG (r:=.ok _ _) (by assumption)) | exact Fu (az hw (mB (r:=.ok _ _) (by assumption))) _ _ _ _ _ | exact Ly (az hw (mB (r:=.ok _ _) (by assumption))) _ _ _ _ _ | refine ah7 ?_ (fun _=>?_) _ | split)
theorem Wi(fr:Frame)(cs:List Frame)(dy:Option Dying)(x:Deferred):Tc d (callDeferred P fr cs dy x w):=by
 unfold callDeferred;dsimp only
 repeat' (first | exact hw | trivial | (with_reducible refine tX ?_) | exact az hw (mB (r:=.ok _ _) (by assumption)) | exact az hw (mB (r:=.halt _ _) (by assumption)) | exact throw_ok (az hw (mB (r:=.halt _ _) (by assumption))) _ _ | exact Lx (az hw (mB (r:=.halt _ _) (by assumption))) _ _ _ _ | split)
theorem acS(main:Bool)(fr:Frame)(cs:List Frame)(dy:Option Dying):Tc d (unwind P main fr cs dy w):=by
 unfold unwind;dsimp only
 repeat' (first | exact hw | trivial | (with_reducible refine tX ?_) | exact Wi hw _ _ _ _ | exact Fu hw _ _ _ _ _ | exact Hc hw _ _ | exact az hw (mB (r:=.ok _ _) (by assumption)) | exact az hw (gG (r:=.ok _ _) (by assumption)) | exact Fu (az hw (mB (r:=.ok _ _) (by assumption))) _ _ _ _ _ | split)
theorem aah(fr:Frame)(x:Dying)(f:Fatal):Tc d (writeOn P fr x f w):=by
 unfold writeOn;dsimp only
 repeat' (first | exact hw | trivial | exact az hw (Wg (r:=.ok _ _) (by assumption)) | exact az hw (Wg (r:=.halt _ _) (by assumption)) | split)
theorem amC(fr:Frame)(x:Dying):Tc d (die P fr x w):=by
 unfold die;dsimp only
 repeat' (first | exact hw | trivial | (with_reducible refine tX ?_) | exact aah hw _ _ _ | exact aag hw _ _ _ | exact az hw (mB (r:=.ok _ _) (by assumption)) | exact az hw (gG (r:=.ok _ _) (by assumption)) | exact Hc (az hw (mB (r:=.halt _ _) (by assumption))) _ _ | split)
theorem af3(main:Bool)(g:Goroutine)(b:Bool):Tc d (stepG P main g w b):=by
 unfold stepG;dsimp only
 repeat' (first | exact amC hw _ _ | exact ah9 hw _ _ _ _ _ | exact acS hw _ _ _ _ | split)
end
def okS(d:Nat):Stepped→Prop
 | .next m=>d≤m.world.drawn
 | _=>True
section
variable {P:bc} {d:Nat} {w:ah} (hw:d≤w.drawn)
include hw
theorem aai{rest:Rest}{cases:Array CommCase}{u:ah}(h:waitingAt rest cases w=some u):d≤u.drawn:=by
 unfold waitingAt at h;split at h
 · split at h
   · cases h;exact hw
   · cases h
 · cases h;exact hw
theorem aia(rest:Rest)(gs:Array Goroutine)(i:Nat)(g:Goroutine)(cases:Array CommCase)(bl:Bool)(sh:CommShape):okS d (communicate P rest gs i g cases bl sh w).1:=by
 unfold communicate;dsimp only
 repeat' (first | exact hw | trivial | exact aai hw (by assumption) | split)
 all_goals dsimp only[okS]
 all_goals first | exact az hw (gG (r:=.ok _ _) (by assumption)) | exact az (az hw (gG (r:=.ok _ _) (by assumption))) (gG (r:=.ok _ _) (by assumption)) | exact az (az hw (gG (r:=.ok _ _) (by assumption))) (gG (r:=.halt _ _) (by assumption))
theorem abm(gs:Array Goroutine)(rest:Rest):okS d (look P gs rest w):=by
 unfold look;dsimp only
 repeat' (first | exact hw | trivial | split)
 all_goals dsimp only[okS]
 all_goals exact az hw (gG (r:=.ok _ _) (by assumption))
end
theorem af4{P:bc}(m:Machine)(k:Nat):okS m.world.drawn (serve P m k):=by
 unfold serve;dsimp only
 repeat' (first | exact ap _ | trivial | split)
theorem Pp(m:Machine)(k:Nat)(t:Timer)(a b:Nat):m.world.drawn≤(retime m k t a b).2.world.drawn:=by
 unfold retime;dsimp only;split
 · unfold drain
   split <;> exact ap _
 · exact ap _
theorem Wj{m m':Machine}{v:ac}{var:Addr}{f:Nat→Timer→ac × Machine}(hf:∀k t,m.world.drawn≤(f k t).2.world.drawn){m0:Machine}(h:timerOp.named m0 var f=.ok (v,m')):m.world.drawn≤m'.world.drawn:=by
 unfold timerOp.named at h;split at h
 · rename_i k _
   have:=hf k (m0.rest.timers.getD k default);cases hh:f k (m0.rest.timers.getD k default) with
   | mk a b =>
    rw[hh] at h this;cases h;exact this
 · cases h
theorem aaj{m m':Machine}{op:TimerOp}{v:ac}(h:timerOp m op=.ok (v,m')):m.world.drawn≤m'.world.drawn:=by
 unfold timerOp at h;cases op with
 | new t =>
  dsimp only at h
  repeat' (first | (cases h;done) | (cases h;exact ap _) | split at h)
 | stop var=>exact Wj (fun k t=>Pp m k t _ _) h
 | reset var when period =>
  dsimp only at h;split at h
  · rename_i m1 hm
    have h1:m.world.drawn≤m1.world.drawn:=by
     unfold timerOp.opened at hm
     repeat' (first | (cases hm;done) | (cases hm;exact ap _) | split at hm)
    exact Wj (fun k t=>az h1 (Pp m1 k t _ _)) h
  · cases h
 | deadline ctx read write when=>cases h;exact ap _
theorem amD(P:bc)(m:Machine)(i:Nat)(b:Bool):okS m.world.drawn (runT P m i b).1:=by
 unfold runT;dsimp only;have h:=af3 (P:=P) (ap m.world.drawn) (i == 0) (m.gs.swapAt! i { (default:Goroutine) with status:=.finished }).1 b;generalize stepG P (i == 0) (m.gs.swapAt! i { (default:Goroutine) with status:=.finished }).1 m.world b=s at h;cases s
 all_goals dsimp only
 all_goals repeat' (first | exact h | trivial | exact aia h _ _ _ _ _ _ _ | exact abm h _ _ | split)
 all_goals exact az h (aaj (by assumption))
def okM(d:Nat):Move→Prop
 | .goroutine m _=>d≤m.world.drawn
 | .machine s _=>okS d s
theorem okS.mono{d e:Nat}(h:e≤d):∀{s:Stepped},okS d s→okS e s
 | .next _,k=>az h k
 | .ended _ _,_=>trivial
theorem Td{P:bc}{d:Nat}(rs:List Nat)(m:Machine)(hw:d≤m.world.drawn):okM d (match (choose (.sched rs.length)).run P m.world with
 | .halt _ w=>.machine (.ended (.stuck "sched" "") w)
 | .ok k world =>
  if rs.length≤1 then .goroutine { m with world } (rs.getD k 0) else
  match (choose (.extern "sched.slice" 65536)).run P world with
  | .halt _ w=>.machine (.ended (.stuck "sched.slice" "") w)
  | .ok n world=>.goroutine { m with world,rest:={ m.rest with slice:=if n=0 then none else some (rs.getD k 0,n) } } (rs.getD k 0)):=by
 repeat' (first | trivial | split)
 all_goals dsimp only[okM]
 all_goals first | exact az hw (gG (r:=.ok _ _) (by assumption)) | exact az (az hw (gG (r:=.ok _ _) (by assumption))) (gG (r:=.ok _ _) (by assumption))
theorem Lz{P:bc}{d:Nat}{m:Machine}(hw:d≤m.world.drawn):okM d (askOn P m):=by
 unfold askOn;dsimp only;split
 · trivial
 · rename_i k w1 h1
   have hw1:d≤w1.drawn:=az hw (gG h1);split
   · exact okS.mono hw1 (af4 { m with world:=w1 } _)
   · split
     · split
       · exact hw1
       · split
         · exact hw1
         · split <;> trivial
     · split
       · exact Td _ { m with world:=w1 } hw1
       · split
         · trivial
         · rename_i w2 h2
           exact Td _ { m with world:=w2 } (az hw1 (gG h2))
         · rename_i w2 h2
           exact az hw1 (gG h2)
         · rename_i w2 h2
           exact Td _ (({ m with world:=w2 }:Machine).advanceTo _) (az hw1 (gG h2))
theorem af5{P:bc}{d:Nat}{m:Machine}(hw:d≤m.world.drawn):okM d (ask P m):=by
 unfold ask;split
 · split
   · trivial
   · rename_i w1 h1
     have hw1:d≤w1.drawn:=az hw (gG h1);have hl:=abm (P:=P) hw1 m.gs m.rest;split
     · rename_i m2 h2
       rw[h2] at hl;exact Lz hl
     · rename_i e he
       cases hq:look P m.gs m.rest w1 with
       | next m2=>exact absurd hq (he m2)
       | ended o w2=>trivial
   · rename_i w1 h1 _
     exact Lz (m:={ m with world:=w1 }) (show d≤w1.drawn from az hw (gG (r:=.ok _ _) (by assumption)))
 · exact Lz hw
theorem aib{P:bc}{m:Machine}:okM m.world.drawn (move P m):=by
 unfold move;split
 · split
   · exact ap _
   · trivial
 · split
   · split
     · exact ap _
     · exact af5 (m:={ m with rest:={ m.rest with slice:=none } }) (ap _)
   · exact af5 (ap _)
theorem aic{P:bc}{m m':Machine}(h:step P m=.next m'):m.world.drawn≤m'.world.drawn:=by
 have h1:=aib (P:=P) (m:=m);have h2:okS m.world.drawn (step P m):=by
  unfold step stepT;split
  · rename_i m1 i hm
    rw[hm] at h1;exact okS.mono h1 (amD P m1 i _)
  · rename_i s ops hm
    rw[hm] at h1;exact h1
 rw[h] at h2;exact h2
theorem Wk{P:bc}{m m':Machine}(h:Steps P m m'):m.world.drawn≤m'.world.drawn:=by
 obtain⟨n,hn⟩:=h
 induction n generalizing m with
 | zero=>cases hn;exact ap _
 | succ n ih =>
  simp only[runN] at hn;split at hn
  · rename_i m1 h1
    exact az (aic h1) (ih hn)
  · rename_i e he
    cases hq:step P m with
    | next m2=>exact absurd hq (he m2)
    | ended o w2=>rw[hq] at hn;cases hn
theorem Wl{P:bc}{f:FuncId}{args:Array ac}{w:ah}{R:Ending→ah→Prop}(hR:∀w',¬R .outgrown w')(h:Calls P f args w R):Calls P f args w fun e w'=>R e w'∧w.drawn≤w'.drawn:=fun cs=>by
 obtain⟨e,w',fr,hr,hc,hf,hl⟩:=h cs;refine⟨e,w',fr,⟨hr,?_⟩,hc,hf,hl⟩;cases e with
 | returned v=>exact Wk hc
 | panicked c=>exact Wk hc
 | outgrown=>exact absurd hr (hR w')
theorem eM.g{P:bc}{f:FuncId}{args:List ac}{v:ac}(h:eM P f args v):pQ P f args v:=fun w =>
 ⟨(h w).1,(Wl (fun _ ⟨_,e,_⟩=>(by cases e)) (h w).2).mono fun _ _ ⟨⟨u,he,hX,hv⟩,hd⟩=>⟨u,he,⟨hX,hd⟩,hv⟩⟩
end Go.Lith
namespace Go.Proofs.YtfekpcimgncioaaGreatDoor
open Go.Proofs.Tryz
open Go.RowKit Go.Lith
set_option maxRecDepth 100000
attribute [local irreducible] ao wpQuiet eZ bE bX Code.wp
attribute [local congr] nO fF fG fH fI fJ jH fK fL fM fN fO fP fQ fR fS fT fU dX dY fV fW fY fZ gA jJ cO cP cA cN fX jI dZ eA eB gB gC jK
def pM(c:jW):List ac:=[.int .i64 c.u.x,.int .i64 c.u.y,.int .i64 c.u.z,.int .i64 c.v.x,.int .i64 c.v.y,.int .i64 c.v.z,.bool (fC c.c),.string (jL c.c)]
def Te(c:jW):ac:=.agg (pM c).toArray
theorem dU:(∀c,pM c=[.int .i64 c.u.x,.int .i64 c.u.y,.int .i64 c.u.z,.int .i64 c.v.x,.int .i64 c.v.y,.int .i64 c.v.z,.bool (fC c.c),.string (jL c.c)])∧(∀c,(Te c).cells.toList=[.int .i64 c.u.x,.int .i64 c.u.y,.int .i64 c.u.z,.int .i64 c.v.x,.int .i64 c.v.y,.int .i64 c.v.z,.bool (fC c.c),.string (jL c.c)])∧(∀c f,Yi (Te c) f=f [.int .i64 c.u.x,.int .i64 c.u.y,.int .i64 c.u.z,.int .i64 c.v.x,.int .i64 c.v.y,.int .i64 c.v.z,.bool (fC c.c),.string (jL c.c)]):=⟨fun _=>rfl,fun _=>rfl,fun _ _=>rfl⟩
theorem aid(c:jW):∀v∈pM c,v.oneCell'=true:=fun v h=>by
 simp only[pM,ak,bw,or_false] at h;rcases h with rfl | rfl | rfl | rfl | rfl | rfl | rfl | rfl <;> rfl
def af6(a b:jW):Int:=if bG (a.c-b.c)=0 then if nX a.u b.u=0 then nX a.v b.v else nX a.u b.u else bG (a.c-b.c)
theorem Dx(a b:jW):(af6 a b<0)↔a.Lt b:=by
 unfold af6 jW.Lt;have h0:bG (a.c-b.c)=0↔a.c=b.c:=by rw[fD];omega
 have h1:bG (a.c-b.c)<0↔a.c<b.c:=by
  have:=Ua (n:=a.c-b.c);omega
 by_cases h:a.c=b.c
 · rw[if_pos (h0.2 h)]
   by_cases g:a.u=b.u
   · rw[if_pos (lH.2 g),kI]
     simp[h,g,P3.lt_irrefl]
   · rw[if_neg fun k=>g (lH.1 k),kI]
     simp[h,g]
 · rw[if_neg fun k=>h (h0.1 k),h1]
   simp[h]
abbrev af7:Type:={ c:jW // Bd 900000 c.c }
instance:Inhabited af7:=⟨⟨⟨⟨0,0,0⟩,⟨0,0,0⟩,0⟩,Hp _⟩⟩
theorem af8:Go.Sort.SWO (Go.Proofs.ltOf fun a b:af7=>af6 a.1 b.1) where
 irrefl a:=by simp only[Go.Proofs.ltOf,decide_eq_false_iff_not,Dx];exact jW.lt_irrefl a.1
 trans x y z h1 h2:=by
  simp only[Go.Proofs.ltOf,decide_eq_true_eq,Dx] at *
  exact jW.lt_trans h1 h2
 ntrans x y z h1 h2:=by
  simp only[Go.Proofs.ltOf,decide_eq_false_iff_not,Dx] at *
  intro h;rcases jW.lt_tri y.1 x.1 with k | k | k
  · exact h2 (jW.lt_trans k h)
  · exact h2 (by rw[k];exact h)
  · exact h1 k
theorem aie{p q:jW}(hp:Bd 900000 p.c)(hq:Bd 900000 q.c):pQ prog 64 [Te p,Te q] (.int .i64 (af6 p q)):=by
 intro w;refine⟨anB,?_⟩;have m:=gH.refl w
 go_enter func64,ntmps64
 refine aV fun K1 k1=>am (mD m rfl ?_);clear m;intro g1 u m;simp only[zz];refine mD m rfl ?_;clear m;intro g2 u m;refine aB aM (aL (k1 _ _ ?_));try clear k1 K1
 refine aV fun K2 k2=>?_;simp only[zz];refine Jg m 15 aC (by kernel_rfl) ?_;simp only[zy];refine aH (aZ (c:=1) uK rfl aT rfl rfl) ?_;simp only[zz];refine Me rfl (fun u m=>((m.b 1 rfl).lies dP aT rfl rfl)) ?_;simp only[zz,zy,aq,aa,ad,ab];refine aH (aZ (c:=1) uK rfl aT rfl rfl) ?_;simp only[zz];refine Me rfl (fun u m=>((m.b 0 rfl).lies dP aT rfl rfl)) ?_;simp only[zz,zy,aq,aa,ad,ab];refine Ck rfl rfl ((aoz (a:=p.c) (b:=q.c) hp hq).g) (aH (aZ (c:=2) uK rfl aA rfl rfl) ?_);simp only[zz];refine Me rfl (fun u m=>((m.b 1 rfl).lies aG aA rfl rfl)) ?_;simp only[zz,zy,aq,aa,ad,ab];refine aH (aZ (c:=2) uK rfl aA rfl rfl) ?_;simp only[zz];refine Me rfl (fun u m=>((m.b 0 rfl).lies aG aA rfl rfl)) ?_;simp only[zz,zy,aq,aa,ad,ab];refine Ck rfl rfl (Lf (p:=p.u) (q:=q.u)) (aH (aZ (c:=2) uK rfl aA rfl rfl) ?_);simp only[zz];refine Me rfl (fun u m=>((m.b 1 rfl).lies aG aA rfl rfl)) ?_;simp only[zz,zy,aq,aa,ad,ab];refine aH (aZ (c:=2) uK rfl aA rfl rfl) ?_;simp only[zz];refine Me rfl (fun u m=>((m.b 0 rfl).lies aG aA rfl rfl)) ?_;simp only[zz,zy,aq,aa,ad,ab];refine Ck rfl rfl (Lf (p:=p.v) (q:=q.v)) (aY ?_);clear m;intro u m;simp only[zz];refine Vl m lM (z:=.int .i64 0) (by kernel_rfl) rfl rfl rfl rfl rfl rfl rfl ?_;clear m;intro g3 u m;simp only[zz];refine Sg m rfl rfl (afb _ (m.b 0 rfl)) ?_;clear m;intro u m;refine aB aM (aL (k2 _ _ ?_));try clear k2 K2
 refine wp_ret ?_;simp only[zz];try simp only[cj,Exit.then,if_true]
 refine aQ rfl rfl ?_;try simp only[zD,zE]
 exact⟨_,rfl,m.ext,rfl⟩
theorem aif{w0 w:ah}{is:List It}{A:Option Addr}{n cap:Nat}{xs:List jW}(hb:∀c∈xs,Bd 900000 c.c)(m:Mem w0 w is)(k:Nat)(hi:is[k]? = some (oI 112 8 A n cap (xs.flatMap pM)))(hsz:n<4611686018427387904) :
 Calls prog 123 [.slice A n cap,.func (.func 64) #[] #[]].toArray w fun e w'=>∃v i,e=.returned v∧Mem w0 w' (is.set k i)∧(v=.tuple #[]∧∃ys:List jW,i=oI 112 8 A n cap (ys.flatMap pM)∧ys.Perm xs∧ys.Pairwise fun a b=>¬b.Lt a):=by
 have e0:(xs.attachWith (fun c=>Bd 900000 c.c) hb).map (·.1)=xs:=List.attachWith_map_subtype_val ..;have e1:∀L:List af7,L.flatMap (fun c=>pM c.1)=(L.map (·.1)).flatMap pM:=fun L=>by rw[List.flatMap_map]
 have hi':is[k]? = some (oI 112 8 A n cap ((xs.attachWith (fun c=>Bd 900000 c.c) hb).flatMap fun c=>pM c.1)):=by rw[e1,e0];exact hi
 refine (wT (α:=af7) (enc:=fun c=>pM c.1) Tryz.sort123 (fun w=>nB Cq w) (fun w=>dH oE w) (fun _=>rfl) (by decide) (fun x=>aid x.1) (fun a b=>af6 a.1 b.1) af8 (fun x y=>aie x.2 y.2) m k hi' hsz).mono ?_;rintro e w' ⟨v,i,h1,h2,h3,ys,h4,h5,h6⟩;refine⟨v,i,h1,h2,h3,ys.map (·.1),by rw[h4,e1],?_,?_⟩
 · have:=h5.map (fun c:af7=>c.1)
   rwa [e0] at this
 · rw[List.pairwise_map]
   exact h6.imp fun h=>by simpa[Go.Proofs.ltOf,Dx] using h
theorem amE{g50 g90 ga gf N cap ca cf:Nat}{A:Option Addr}{ea ef:Array bx}{D:List (P3 × Hd)}{F:List (P3 × Bool)}{ts:List T3}{c:jW}[I3 c.u][I3 c.v](w:ah)(hB50:fA w g50 [.pointer (some ⟨g90,0,none⟩)] 88)(hS:Du 109 w g90 ga gf A N cap ea ef ca cf D ts)(hT:bK w A N ts)(hD:Ls ea ef ca cf D F ts)(hnd:∀t∈ts,t.nd=true)(hN:ts.length≤1000000):dF prog 65 [Te c,.pointer (some ⟨g50,0,none⟩)] w (fun v _=>v=.bool (cE ts c.u c.v)):=by
 refine⟨anC,?_⟩;have m:=Mem.refl w
 go_enter func65,ntmps65
 refine eS 7 [0] m ?_;simp only[↓aD,↓dU];intro g1;intro u m;refine aO rfl ((hB50.ext m.ext).lies1 Qv rfl) ?_;simp only[zz];refine aP 4 [0,0,0] m ?_;simp only[↓aD,↓dU,xF,aR,rU,aa];intro u m;refine cW m rfl rfl (Po (p:=c.u) (q:=c.v) _ (hS.ext m.ext) hD (hT.ext m.ext) hnd hN) ?_;clear m;rintro v u m rfl;refine aP 3 [] m ?_;simp only[↓aD];intro u m;exact aQ rfl rfl (⟨_,rfl,m.ext,rfl⟩)
theorem af9{g50 g90 ga gf N cap ca cf:Nat}{A:Option Addr}{ea ef:Array bx}{D:List (P3 × Hd)}{F:List (P3 × Bool)}{ts:List T3}{cs:List jW}{n1 c1:Nat}{A1:Option Addr}(w:ah)(hB50:fA w g50 [.pointer (some ⟨g90,0,none⟩)] 88)(hS:Du 109 w g90 ga gf A N cap ea ef ca cf D ts)(hT:bK w A N ts)(hD:Ls ea ef ca cf D F ts)(hnd:∀t∈ts,t.nd=true)(hN:ts.length≤1000000)(hL:vH pM 8 w A1 n1 cs)(hI:∀c∈cs,I3 c.u∧I3 c.v)(hn1:n1≤100000000):dF prog 124 [.slice A1 n1 c1,.func (.func 65) #[] #[.pointer (some ⟨g50,0,none⟩)]] w (fun v _=>∃k:Int,v=.int .i64 k∧((k<0∧∀c∈cs,cE ts c.u c.v=false)∨∃(j:Nat) (c:jW),k=j∧j<n1∧cs[j]? = some c∧cE ts c.u c.v=true∧∀(i:Nat) (d:jW),i<j→cs[i]? = some d→cE ts d.u d.v=false)):=by
 refine⟨ajF,?_⟩;have m:=Mem.refl w;have hcl:=hL.len
 go_enter func124,ntmps124
 refine eS 12 [0] m ?_;simp only[↓aD,alj];intro u m;refine bW [8] [4,5,9,10,11,12,13,14,15,16,17,18] (fun n vs wl=>∃(k:Nat),vs=[.int .i64 (k:Int)]∧Mem w wl []∧(∀(j:Nat) (d:jW),j<k→cs[j]? = some d→cE ts d.u d.v=false)∧(k≤n1)∧(n=n1-k)) ?_ ?_
 · skip
   apply Exists.intro;simp only[zQ,zR,zD,zE];exact⟨0,rfl,m,(fun j r h=>by omega),cd _,rfl⟩
 · intro n vs wr hI u K1 hK1
   clear m;obtain⟨k,rfl,m,hq0,hk,hn2⟩:=hI;simp only[zu,zF,zG];refine aS 5 [0,0] m ?_;simp only[↓aD];intro u m;refine bC rfl (fun hc1=>?_) (fun hc1=>?_)
   · skip
     obtain⟨c,hc,a1,rfl,hrow⟩:=hL.get (i:=k) (by omega);refine aS 13 [0] m ?_;simp only[↓aD];intro u m;refine aB (aF underlying105 oE rfl rfl (by omega) (by omega) (cI (ag _))) ?_;simp only[zz];refine aO rfl ((hrow.ext m.ext).lies Cq oE) ?_;simp only[zz];refine cW m rfl rfl ((haveI:=(hI c (ba hc)).1;haveI:=(hI c (ba hc)).2;amE (c:=c) _ (hB50.ext m.ext) (hS.ext m.ext) (hT.ext m.ext) hD hnd hN)) ?_;clear m;rintro v u m rfl;refine aP 1 [0] m ?_;simp only[↓aD];intro u m;refine dQ rfl (fun hc2=>?_) (fun hc2=>?_)
     · skip
       refine aS 6 [] m ?_;simp only[↓aD];intro u m;refine aQ rfl rfl ?_;try simp only[zD,zE]
       exact⟨_,rfl,m.ext,k,rfl,.inr ⟨k,c,rfl,by omega,hc,hc2,fun i d hi hd=>hq0 i d hi hd⟩⟩
     · skip
       refine aS 6 [0] m ?_;simp only[↓aD];refine⟨by omega,?_⟩;intro u m;refine hK1 (n1-(k+1)) _ _ ?_ ?_ ?_
       · omega
       · simp only[zz,zv]
       · simp only[zQ,zR,zD,zE]
         exact⟨k+1, rfl, m, (fun j r2 hj h1 => by
          rcases eo j k with h | h
          · exact hq0 j r2 h h1
          · obtain rfl:j=k:=by omega
            rw[hc] at h1;cases h1;exact hc2),by omega,rfl⟩
   · skip
     obtain rfl:n1=k:=by omega
     refine aS 6 [] m ?_;simp only[↓aD];intro u m;refine aQ rfl rfl ?_;try simp only[zD,zE]
     exact⟨_,rfl,m.ext,-1,rfl,.inl ⟨by decide,fun c hc=>by obtain⟨j,hj⟩:=dm.1 hc;exact hq0 j c (by have:=(ar.1 hj).1;omega) hj⟩⟩
theorem amF{w0 w:ah}{K R0:It}{g50 g90 ga gf N cap ca cf:Nat}{A:Option Addr}{ea ef:Array bx}{D:List (P3 × Hd)}{F:List (P3 × Bool)}{ts:List T3}{cs:List jW}{n1 c1:Nat}{A1:Option Addr}(m:Mem w0 w [oI 112 8 A1 n1 c1 (cs.flatMap pM),bI g50 [.pointer (some ⟨g90,0,none⟩)] 88,K,oI 39 9 A N cap (ts.flatMap aK),R0])(hK:∀u,K.P u→Du 109 u g90 ga gf A N cap ea ef ca cf D ts)(hD:Ls ea ef ca cf D F ts)(hnd:∀t∈ts,t.nd=true)(hIT:∀t∈ts,IT t)(hN:ts.length≤1000000)(hI:∀c∈cs,I3 c.u∧I3 c.v)(hb:∀c∈cs,Bd 900000 c.c)(hn1:n1≤100000000):sN prog 63 [.slice A1 n1 c1,.func (.func 64) #[] #[],.func (.func 65) #[] #[.pointer (some ⟨g50,0,none⟩)]] w fun v w'=>Mem w0 w' [bI g50 [.pointer (some ⟨g90,0,none⟩)] 88,K,oI 39 9 A N cap (ts.flatMap aK),R0]∧((v=.tuple #[.agg #[.int .i64 0,.int .i64 0,.int .i64 0,.int .i64 0,.int .i64 0,.int .i64 0,.bool false,.string ⟨#[]⟩],.bool false]∧∀c∈cs,cE ts c.u c.v=false)∨∃(c:jW) (ys:List jW) (j:Nat),v=.tuple #[Te c,.bool true]∧ys.Perm cs∧(ys.Pairwise fun a b=>¬b.Lt a)∧ys[j]? = some c∧cE ts c.u c.v=true∧∀(i:Nat) (d:jW),i<j→ys[i]? = some d→cE ts d.u d.v=false):=by
 refine⟨anA,?_⟩
 go_enter func63,ntmps63
 refine eS 9 [0] m ?_;simp only[↓aD,↓dU,Yy];intro g51;intro u m;refine kP m 1 ajE rfl rfl (fun m=>aif hb m 1 rfl (by omega)) ?_;clear m;rintro v i u m ⟨rfl,ys,rfl,hys,hso⟩;simp only[zF,zG] at m;refine aP 5 [0] m ?_;simp only[↓aD];intro u m;refine cW m rfl rfl (af9 _ (m.b 2 rfl) (hK _ (m.get 3 rfl)) ((m.o 4 rfl).tris hIT) hD hnd hN ((m.o 1 rfl).lat (enc:=pM) (fun _=>rfl) (by decide)) (fun c hc=>hI c (hys.mem_iff.1 hc)) hn1) ?_;clear m;rintro v u m ⟨kk,rfl,hkk⟩;refine aP 8 [0,0] m ?_;simp only[↓aD];intro u m;refine bC rfl (fun hc1=>?_) (fun hc1=>?_)
 · skip
   refine aS 11 [0,1] m ?_;simp only[↓aD,↓dU,Yy,Yx,aa];intro g52;intro u m;refine vW rfl ⟨_,rfl,((m.b 1 rfl).full Cq oE)⟩ rfl ?_;try simp only[zD,zE]
   exact⟨_,rfl,m.sel [false,false,false,true,true,true,true],.inl ⟨rfl,fun c hc=>(hkk.resolve_right (fun⟨j,c2,e,_⟩=>by omega)).2 c (hys.mem_iff.2 hc)⟩⟩
 · skip
   obtain⟨j,c,rfl,hj,hc,ha,hb4⟩:=hkk.resolve_left (fun h=>hc1 h.1);obtain⟨c9,hc9,a1,hA1,hr5⟩:=((m.o 1 rfl).lat (enc:=pM) (fun _=>rfl) (by decide)).get (i:=j) (by omega);obtain rfl:c9=c:=fw (hc9.symm.trans hc);subst hA1;refine lF 5 [0] m ?_;simp only[↓aD];rintro u m rfl;refine aB (aF underlying105 oE rfl rfl (by omega) (by omega) (cI (ag _))) ?_;simp only[zz];refine aO rfl (show gM _ _ _ _ (.agg #[.int .i64 c9.u.x,.int .i64 c9.u.y,.int .i64 c9.u.z,.int .i64 c9.v.x,.int .i64 c9.v.y,.int .i64 c9.v.z,.bool (fC c9.c),.string (jL c9.c)]) from hr5.lies Cq oE) ?_;simp only[zz];refine aP 4 [0] m ?_;simp only[↓aD,↓dU,Yx,aa];intro u m;exact vW rfl ⟨_,rfl,((m.b 0 rfl).full Cq oE)⟩ rfl (⟨_,rfl,m.sel [false,false,true,true,true,true],.inr ⟨c9,ys,j,rfl,hys,hso,hc,ha,hb4⟩⟩)
end Go.Proofs.YtfekpcimgncioaaGreatDoor
namespace Go.Lith
open Go.RowKit Go.ChangeMaps Go.MapKept
section
variable {K V:Type} [DecidableEq K] {P:bc} {T M E ty:aj} {ek:K→ac} {ev:V→ac} {w w0:ah} {g c:Nat} {es:Array bx} {D:List (K × V)} {is:List It}
def pW(ek:K→ac)(ev:V→ac)(D:List (K × V))(es:Array bx)(seen:Array Nat)(dn rs:List (K × V)):Prop :=
 (dn++rs).Perm D∧∃dE rE:List bx,(∀e∈dE,e.born∈seen.toList)∧(∀e∈rE,e.born∉seen.toList)∧(dE++rE).Perm es.toList∧dE.map My=dn.map (fun x=>(ek x.1,ev x.2))∧rE.map My=rs.map (fun x=>(ek x.1,ev x.2))
def tY(ek:K→ac)(ev:V→ac)(D:List (K × V))(es:Array bx)(seen:Array Nat)(dn:List (K × V))(k:K)(v:V)(rs:List (K × V)):Prop :=
 pW ek ev D es seen (dn++[(k,v)]) rs∧∃(e:bx) (s:Array Nat),e∈es.toList∧My e=(ek k,ev v)∧seen=s.push e.born
theorem pW.start(hD:bB ek ev D es c):pW ek ev D es #[] [] D:=⟨lq _,[],es.toList,fun _ h=>(by cases h),fun _ _ h=>(by cases h),lq _,rfl,hD.cells⟩
theorem pW.done{seen:Array Nat}{dn:List (K × V)}(h:pW ek ev D es seen dn []):dn.Perm D:=by simpa using h.1
def aig(ek:K→ac)(ev:V→ac)(D:List (K × V))(es:Array bx)(dn rs:List (K × V))(b:Bool)(seen':Array Nat):Prop :=
 (b=false∧rs=[])∨(b=true∧∃k v rs',rs.Perm ((k,v)::rs')∧tY ek ev D es seen' dn k v rs')
theorem acU{r:Nat}{seen:Array Nat}{dn rs:List (K × V)}(hI:oY w r g c seen c)(hM:gW w g es c)(hD:bB ek ev D es c)(hT:pW ek ev D es seen dn rs) :
 ∃b kv vv seen' w1,(w1=w∨w1=w.drew)∧(Instr.next (.pointer (some ⟨r,0,none⟩)) false ty).run P w=.ok (Aj b kv vv) (setBlock w1 r (.mapIter (some g) c seen' c))∧aig ek ev D es dn rs b seen':=by
 obtain⟨hp,dE,rE,h1,h1',h2,h3,h4⟩:=hT;have hnd:((dE++rE).map (·.born)).Nodup:=(h2.map (·.born)).nodup_iff.2 hD.nd;have hleft:∀e,e∈(leftOf es seen).toList↔e∈rE:=fun e=>by
  unfold leftOf;simp only[Array.toList_filter,di,fm,Array.contains_eq_mem,decide_eq_false_iff_not];rw[←Array.mem_toList_iff (xs:=seen),←h2.mem_iff,bg];constructor
  · rintro⟨h | h,hn⟩
    · exact absurd (h1 e h) hn
    · exact h
  · intro h
    exact⟨.inr h,h1' e h⟩
 rcases run_next_at (P:=P) w ty r g c c seen es c hI hM hD.born (ap _) with ⟨h0,hr⟩ | ⟨e,he,w1,hw1,hr⟩
 · refine⟨false,default,default,seen,w,.inl rfl,?_,.inl ⟨rfl,?_⟩⟩
   · rw[hr]
     have:setBlock w r (.mapIter (some g) c seen c)=w:=by
      unfold setBlock;have hlt:=(Array.getElem?_eq_some_iff.1 hI).1;have:w.heap.setIfInBounds r (.mapIter (some g) c seen c)=w.heap:=by
       apply Array.ext_getElem?;intro i;rw[Array.getElem?_setIfInBounds];split
       · rename_i e;subst e;exact hI.symm
       · rfl
      rw[this]
     rw[this];rfl
   · cases rs with
     | nil=>rfl
     | cons x rs =>
      cases rE with
      | nil=>simp at h4
      | cons e rE =>
       have:=(hleft e).2 (bp ..);rw[Array.eq_empty_of_size_eq_zero h0] at this;simp at this
 · obtain⟨s,t,rfl⟩:=List.append_of_mem ((hleft e).1 he)
   rw[cl,bn] at h4;obtain⟨rs1,rs2,rfl,e1,e2⟩:=kd.1 h4.symm;obtain⟨x,rs3,rfl,e3,e4⟩:=k_.1 e2;obtain⟨k,v⟩:=x;have hmid:(dE++[e]++(s++t)).Perm (dE++(s++e::t)):=by
    simp only[cq,b_,bv];exact ki _ List.perm_middle.symm
   have hnd':((dE++[e]++(s++t)).map (·.born)).Nodup:=(hmid.map _).nodup_iff.2 hnd;rw[cl,List.nodup_append] at hnd';refine⟨true,e.key,e.val,seen.push e.born,w1,hw1,hr,.inr ⟨rfl,k,v,rs1++rs3,List.perm_middle,⟨?_,dE++[e],s++t,?_,?_,?_,?_,?_⟩,e,seen,h2.mem_iff.1 (by simp),by rw[←e3],rfl⟩⟩
   · refine List.Perm.trans ?_ hp
     simp only[cq,b_,bv];exact ki _ List.perm_middle.symm
   · intro x hx
     rw[lp];rcases bg.1 hx with hx | hx
     · exact f_ _ (h1 x hx)
     · rw[ay.1 hx];exact fj _ (ay.2 rfl)
   · intro x hx hm
     rw[lp] at hm;rcases bg.1 hm with hm | hm
     · refine h1' x ?_ hm
       rcases bg.1 hx with h | h
       · exact f_ _ h
       · exact fj _ (bm _ h)
     · refine hnd'.2.2 e.born (dj.2 ⟨e,by simp,rfl⟩) x.born (dj.2 ⟨x,hx,rfl⟩) (ay.1 hm).symm
   · exact hmid.trans h2
   · simp only[cl,h3,bn,c_]
     rw[←e3]
   · simp[e1,e4]
theorem aak{r:Nat}{seen:Array Nat}{dn rs:List (K × V)}{k:K}{v:V}(hI:oY w r g c seen c)(hM:gW w g es c)(hD:bB ek ev D es c)(hT:tY ek ev D es seen dn k v rs) :
 (Instr.entry (.pointer (some ⟨r,0,none⟩))).run P w=.ok (.tuple #[ek k,ev v]) w:=by
 obtain⟨_,e,s,hm,he,rfl⟩:=hT;have:=run_entry_at (P:=P) w r g c _ es c e hI hM hm hD.nd;rw[this];simp only[My,ff] at he;rw[he.1,he.2]
theorem aga(w:ah)(kt:pI P T ek){a b:K}(h:ek a=ek b):a=b:=by
 have h1:=kt.eq a b w;have h2:=kt.eq a a w;rw[←h,h2] at h1
 injection h1 with h1
 simpa using h1.symm
theorem Fv{α:Type}:∀{l:List α} {p:Nat} {x:α},l[p]? = some x→l.Perm (x::l.eraseIdx p)
 | [],_,_,h=>by simp at h
 | y::l,0,x,h=>by simp at h;subst h;exact .refl _
 | y::l,p+1,x,h=>by
  have:=Fv (l:=l) (p:=p) (by simpa using h);exact (this.cons y).trans (.swap ..)
theorem Fw{α:Type}:∀{l:List α} {p:Nat} {x y:α},l[p]? = some x→(l.set p y).Perm (y::l.eraseIdx p)
 | [],_,_,_,h=>by simp at h
 | z::l,0,x,y,h=>.refl _
 | z::l,p+1,x,y,h=>by
  have:=Fw (l:=l) (p:=p) (y:=y) (x:=x) (by simpa using h);exact (this.cons z).trans (.swap ..)
theorem Ma{D:List (K × V)}(hn:(D.map (·.1)).Nodup){p q:Nat}{k:K}{v u:V}(hp:D[p]? = some (k,v))(hq:D[q]? = some (k,u)):p=q:=by
 have h1:(D.map (·.1))[p]? = some k:=by simp[hp]
 have h2:(D.map (·.1))[q]? = some k:=by simp[hq]
 obtain⟨a1,a2⟩:=ar.1 h1;obtain⟨b1,b2⟩:=ar.1 h2;exact (ld hn).1 (a2.trans b2.symm)
theorem tY.at(kt:pI P T ek)(w:ah){seen:Array Nat}{dn rs:List (K × V)}{k:K}{v:V}(hD:bB ek ev D es c)(hn:(D.map (·.1)).Nodup)(hT:tY ek ev D es seen dn k v rs) :
 ∃(p:Nat) (e:bx) (dE rE:List bx),oA D k 0=some (p,v)∧D[p]? = some (k,v)∧es.toList[p]? = some e∧(dn++rs).Perm (D.eraseIdx p)∧(dE++rE).Perm (es.toList.eraseIdx p)∧e.born∈seen.toList ∧
  (∀e∈dE,e.born∈seen.toList)∧(∀e∈rE,e.born∉seen.toList)∧dE.map My=dn.map (fun x=>(ek x.1,ev x.2))∧rE.map My=rs.map (fun x=>(ek x.1,ev x.2)):=by
 obtain⟨⟨hp,dE,rE,h1,h1',h2,h3,h4⟩,_⟩:=hT;have hmem:(k,v)∈D:=hp.mem_iff.1 (by simp);have hg:=Gg hn hmem;cases hf:oA D k 0 with
 | none=>rw[(oG D k 0 hf).1] at hg;cases hg
 | some q =>
  obtain⟨j,v'⟩:=q;obtain⟨p,rfl,hpp,h0,_,_⟩:=kV D k 0 j v' hf;rw[aq] at hf ⊢;obtain rfl:v'=v:=by rw[h0] at hg;exact fw hg
  rw[cl,bn,c_] at h3;obtain⟨d1,d2,rfl,e1,e2⟩:=kd.1 h3;obtain⟨e,d3,rfl,e3,e4⟩:=k_.1 e2;obtain rfl:d3=[]:=by simpa using e4
  have hm:e∈es.toList:=h2.mem_iff.1 (by simp);obtain⟨q,hq⟩:=dm.1 hm;have hqD:∃u,D[q]? = some (k,u):=by
   have h5:=congrArg (fun L=>L[q]?) hD.cells;simp only[dw,hq,d_,e3] at h5;cases h6:D[q]? with
   | none=>rw[h6] at h5;cases h5
   | some x =>
    rw[h6] at h5;simp only[d_,fp,ff] at h5;obtain⟨a,u⟩:=x;obtain rfl:k=a:=aga w kt h5.1;exact⟨u,rfl⟩
  obtain⟨u,hu⟩:=hqD;obtain rfl:=Ma hn hpp hu;refine⟨p,e,d1,rE,rfl,hpp,hq,?_,?_,h1 e (by simp),fun x hx=>h1 x (f_ _ hx),h1',e1,h4⟩
  · have:((k,v')::(dn++rs)).Perm ((k,v')::D.eraseIdx p):=by
     refine (?_:List.Perm _ _).trans (hp.trans (Fv hpp));rw[cq];exact List.perm_middle.symm
    exact (nn _).1 this
  · have:(e::(d1++rE)).Perm (e::es.toList.eraseIdx p):=by
     refine (?_:List.Perm _ _).trans (h2.trans (Fv hq));rw[cq];exact List.perm_middle.symm
    exact (nn _).1 this
theorem Wm{T2:aj}{seen:Array Nat}{dn rs:List (K × V)}{k:K}{v:V}(hu:P.underlying M=some (.map T E))(kt:pI P T ek)(hM:gW w g es c)(hD:bB ek ev D es c)(hn:(D.map (·.1)).Nodup)(hT:tY ek ev D es seen dn k v rs) :
 ∃es',(Builtin.delete_ #[M,T2] ty #[.map (some g),ek k]).run P w=.ok (.tuple #[]) (setBlock w g (.map es' c))∧bB ek ev (wR D k) es' c∧pW ek ev (wR D k) es' seen dn rs:=by
 unfold gW at hM;obtain⟨p,e,dE,rE,hf,hp,he,hd,hE,_,h1,h1',h3,h4⟩:=hT.at kt w hD hn;obtain⟨p',e0,_,_,_,hm⟩:=kV D k 0 p v hf;rw[aq] at e0;subst e0;refine⟨es.eraseIdxIfInBounds p,?_,hm▸hD.erase p,hm▸hd,dE,rE,h1,h1',?_,h3,h4⟩
 · simp[Builtin.delete_,run_underlying hu,getObj,Sem.run,hM,kt.chk,rM kt k w hD,hf,run_setObj_map _ hM,setBlock]
 · have e2:(es.eraseIdxIfInBounds p).toList=es.toList.eraseIdx p:=by
    by_cases h:p<es.size
    · simp[jm,h]
    · simp only[jm,h,dite_false]
      exact (List.eraseIdx_of_length_le (by simpa using Nat.le_of_not_lt h)).symm
   rw[e2];exact hE
theorem Wn{seen:Array Nat}{dn rs:List (K × V)}{k:K}{v:V}(hu:P.underlying M=some (.map T E))(kt:pI P T ek)(hM:gW w g es c)(hD:bB ek ev D es c)(hn:(D.map (·.1)).Nodup)(hT:tY ek ev D es seen dn k v rs)(u:V) :
 ∃es',(Instr.mapUpdate M (.map (some g)) (ek k) (ev u)).run P w=.ok () (setBlock w g (.map es' c))∧bB ek ev (eP D k u) es' c∧pW ek ev (eP D k u) es' seen (dn++[(k,u)]) rs:=by
 unfold gW at hM;obtain⟨p,e,dE,rE,hf,hp,he,hd,hE,hb,h1,h1',h3,h4⟩:=hT.at kt w hD hn;obtain⟨p',e0,_,_,hm,_⟩:=kV D k 0 p v hf;rw[aq] at e0;subst e0;have hk:e.key=ek k:=by
  have h2:=congrArg (fun L=>L[p]?) hD.cells;simp only[dw,hp,he,d_,My,fp,ff] at h2;exact h2.1
 have hes:es[p]? = some e:=by rw[←Array.getElem?_toList];exact he
 have hk':((es[p]?).map (·.key)).getD (ek k)=ek k:=by rw[hes];exact hk
 refine⟨es.modify p fun e=>{ e with key:=ek k,val:=ev u },?_,hm u▸hD.set hp u,hm u▸?_,dE++[{ e with key:=ek k,val:=ev u }],rE,?_,h1',?_,?_,h4⟩
 · simp only[Instr.mapUpdate,Sem.run_bind,run_underlying hu,Result.andThen,getObj,Sem.run,hM,Sem.run_pure,kt.chk,rM kt k w hD,hf,d_,hk',Instr.keyThatStays,kt.bits,if_true]
   exact run_setObj_map _ hM
 · rw[cq]
   refine List.perm_middle.trans (((hd.cons (k,u))).trans (Fw hp).symm)
 · intro x hx
   rcases bg.1 hx with hx | hx
   · exact h1 x hx
   · rw[ay.1 hx];exact hb
 · have e2:(es.modify p fun e=>{ e with key:=ek k,val:=ev u }).toList=es.toList.set p { e with key:=ek k,val:=ev u }:=by
    rw[Array.toList_modify];apply List.ext_getElem?;intro j;rw[List.getElem?_modify,List.getElem?_set];by_cases h:p=j
    · subst h
      have:=(ar.1 he).1;rw[he];simp[this];simpa using this
    · simp[h]
   rw[e2,cq];exact List.perm_middle.trans ((hE.cons _).trans (Fw he).symm)
 · simp[h3,My]
theorem tY.stay{seen:Array Nat}{dn rs:List (K × V)}{k:K}{v:V}(hT:tY ek ev D es seen dn k v rs):pW ek ev D es seen (dn++[(k,v)]) rs:=hT.1
variable {ds:List Deferred} {l:List ac} {x y z:Operand} {ops:Array Oper} {Q:Exit→Act→ah→Prop} {rest:List Oper} {d:Nat} {pos:String} {after:Array Edge}
theorem agb{r:Nat}{seen:Array Nat}{dn rs:List (K × V)}(m:Mem w0 w is)(k:Nat)(hk:is[k]? = some (iI r g c seen))(hx:Go.Lith.ev l x=.pointer (some ⟨r,0,none⟩))(hM:gW w g es c)(hD:bB ek ev D es c)(hT:pW ek ev D es seen dn rs)
 (h:∀b kv vv seen' u,Mem w0 u (is.set k (iI r g c seen'))→aig ek ev D es dn rs b seen'→ao P ops Q rest (Fr (l.set d (Aj b kv vv)) ds) u) :
 ao P ops Q (Oper.mk (some d) (.next x false) ty pos after none::rest) (Fr l ds) w:=by
 have hI:=m.r k hk;obtain⟨b,kv,vv,seen',w1,hw1,hr,hN⟩:=acU (P:=P) (ty:=ty) hI hM hD hT;refine kN (w':=setBlock w1 r (.mapIter (some g) c seen' c)) (v:=Aj b kv vv) (fun o ho hty=>by simp[execOp,ho,bS,hx,hty,hr]) (h b kv vv seen' _ ?_ hN);have e1:w1.heap=w.heap∧w1.os=w.os∧w1.tape=w.tape∧w1.output=w.output:=by rcases hw1 with rfl | rfl <;> exact⟨rfl,rfl,rfl,rfl⟩
 refine m.put k hk e1.2.1 e1.2.2.1 e1.2.2.2 (by simp[setBlock,e1.1]) (fun b' _ hne=>?_) ?_ (.inl fun _ h=>h)
 · have:b'≠r:=fun e=>hne (by rw[e];rfl)
   simp only[setBlock,e1.1];exact Array.getElem?_setIfInBounds_ne (Ne.symm this)
 · exact iP (w:=w1) (o:=.mapIter (some g) c seen c) (by rw[e1.1];exact hI)
theorem Wo{r:Nat}{seen:Array Nat}{dn rs:List (K × V)}{k:K}{v:V}(hx:Go.Lith.ev l x=.pointer (some ⟨r,0,none⟩))(hI:oY w r g c seen c)(hM:gW w g es c)(hD:bB ek ev D es c)(hT:tY ek ev D es seen dn k v rs) :
 vL P l (.entry x) ty (.tuple #[ek k,ev v]) w:=fun o ho _=>by
 have:=aak (P:=P) hI hM hD hT;simp[execOp,ho,bS,hx,this]
theorem agc{a:K}{va:V}{T2:aj}{seen:Array Nat}{dn rs:List (K × V)}(m:Mem w0 w is)(k:Nat)(hk:is[k]? = some (mI g es c))(hu:P.underlying M=some (.map T E))(kt:pI P T ek)(hx:Go.Lith.ev l x=.map (some g))(hy:Go.Lith.ev l y=ek a)(hD:bB ek ev D es c)
 (hn:(D.map (·.1)).Nodup) (hT:tY ek ev D es seen dn a va rs) {a0:Array aj} (ha:a0 = #[M,T2])
 (h:∀es' u,Mem w0 u (is.set k (mI g es' c))→bB ek ev (wR D a) es' c→pW ek ev (wR D a) es' seen dn rs→ao P ops Q rest (Fr l ds) u):ao P ops Q (Oper.mk none (.call { callee:=.builtin .delete,args:=#[x,y],argTypes:=a0 }) ty pos after none::rest) (Fr l ds) w:=by
 subst ha;have hM:=m.p k hk;have hC:=fun es' c'=>nM (w:=w) (g:=g) (.map es' c');refine ahM fun o ho=>?_;obtain⟨es',hr,hD',hT'⟩:=Wm (T2:=T2) (ty:=o.type) hu kt hM hD hn hT;exact⟨.tuple #[],setBlock w g (.map es' c),by simp[execOp,ho,resolve,invoke,builtin,bS,hx,hy,hr],h es' _ (m.put k hk (hC es' c).os (hC es' c).tape (hC es' c).output (by rw[(hC es' c).size];exact ap _) (fun b _ hne=>(hC es' c).block b fun e=>hne (by rw[e];rfl)) (iP hM) (.inl fun _ h=>h)) hD' hT'⟩
theorem agd{v va:V}{a:K}{seen:Array Nat}{dn rs:List (K × V)}(m:Mem w0 w is)(k:Nat)(hk:is[k]? = some (mI g es c))(hu:P.underlying M=some (.map T E))(kt:pI P T ek)(hx:Go.Lith.ev l x=.map (some g))(hy:Go.Lith.ev l y=ek a)(hz:Go.Lith.ev l z=ev v)(hD:bB ek ev D es c)
 (hn:(D.map (·.1)).Nodup) (hT:tY ek ev D es seen dn a va rs)
 (h:∀es' u,Mem w0 u (is.set k (mI g es' c))→bB ek ev (eP D a v) es' c→pW ek ev (eP D a v) es' seen (dn++[(a,v)]) rs→ao P ops Q rest (Fr l ds) u):ao P ops Q (Oper.mk none (.mapUpdate M x y z) ty pos after none::rest) (Fr l ds) w:=by
 have hM:=m.p k hk;obtain⟨es',hr,hD',hT'⟩:=Wn hu kt hM hD hn hT v;have hC:=nM (w:=w) (g:=g) (.map es' c);refine Cd (w':=setBlock w g (.map es' c)) (fun o ho=>by simp[execOp,ho,bS,hx,hy,hz,hr]) (h es' _ ?_ hD' hT');exact m.put k hk hC.os hC.tape hC.output (by rw[hC.size];exact ap _) (fun b _ hne=>hC.block b fun e=>hne (by rw[e];rfl)) (iP hM) (.inl fun _ h=>h)
end
end Go.Lith
