/-
 Texts of one claim, laid together: RayB, Cmp, SortPt, Maps1, Surf2, Maps2, Ifc, RayO, Sh, Scene, RayK, Lat, Bag.
-/
import Derived.Shelf.SlLaysF0
import Derived.Test.YtimjandkmfcmiaaGreatDoorProg
import Derived.Stop.Asserts
import Derived.Test.YtimjandkmfcmiaaGreatDoorTA5
open Go renaming wp_region_lit→aa,Value→aj,wp_skip→ar,wp_block→av,World→aw,wp_ret→bc,TypeId→be,wpList→bh,run_underlying→bt,wp_exit→bw,Program→cj,wpQuiet→ck,execOp→cm,wp_loop_rounds→cz,Deferred→dp
open Nat renaming reduceAdd→ab,reduceMul→ag,zero_add→ah,le_trans→ak,le_refl→bi,zero_le→cd,min_eq_left→co,add_mul→e_,lt_succ_self→mc
open Go.Exit renaming inBlock→ac,«then»→af
open Int renaming reduceToNat→ae,toNat_natCast→an,mul_eq_zero→mi
open Rat renaming divInt→am
open List renaming getElem?_eq_getElem→ao,length_take→bl,mem_cons→bn,take_of_length_le→bp,getElem?_eq_some_iff→bq,map_append→br,getElem?_append_left→bv,mem_singleton→b_,mem_of_getElem?→cc,getElem?_append_right→cq,mem_cons_self→cu,getElem?_drop→cx,take_length→c_,getElem?_map→db,length_map→dj,flatMap_cons→dv,mem_append→dx,pairwise_cons→ej,length_nil→eu,mem_map→ew,mem_flatMap→fa,mem_of_mem_take→fd,not_mem_nil→ga,foldl_append→gg,mem_or_eq_of_mem_set→gt,mem_of_mem_drop→ia,getElem?_set→ie,pairwise_append→la,foldl→lq
open Go.Value renaming bool→fi
open Option renaming bind_some→ip
set_option maxHeartbeats 8000000
set_option linter.unusedSimpArgs false
set_option linter.unusedVariables false
set_option linter.unusedSectionVars false
namespace Go.Proofs.YtimjandkmfcmiaaGreatDoor
open Go.Proofs.Tryz
open Go.RowKit Go.Lith
set_option maxRecDepth 100000
attribute [local irreducible] bh ck eY eO eJ Code.wp
def abf:Option (Rat × Rat)→Go.Value
 | none=>.tuple #[Q 0,Q 0,.bool false]
 | some (p,q)=>.tuple #[Q p,Q q,.bool true]
def Ey:Option Rat→List Go.Value
 | none=>[.bool false,.string ⟨#[]⟩,.bool false,.string ⟨#[]⟩]
 | some q=>[.bool (cY (q).num),.string (dQ (q).num),.bool (cY ((q).den:Int)),.string (dQ ((q).den:Int))]
theorem Za(o:Option Rat):∃c0 c1 c2 c3,Ey o=[c0,c1,c2,c3]:=by
 cases o <;> exact⟨_,_,_,_,rfl⟩
theorem Kn{r:gJ}{d:Int}(hok:r.ok)(h:d≠0):r.w*d≠0:=fun e=>by
 rcases mi.1 e with e | e
 ·
  have:=hok.1;omega
 · exact h e
theorem Ko{r:gJ}{lo hi:P3}{k:Nat}{st:Rat × Option Rat}(hk:k<3)(h:Ae r lo hi k=some st)(ho:mN ((r.to lo).at k) ((r.to hi).at k) (r.d.at k)):oK r lo hi=none:=by
 have h1:Ae r lo hi (k+1)=none:=by rw[Ae,h,ip,axR,if_pos ho]
 have up:∀j,Ae r lo hi (k+1+j)=none:=by
  intro j
  induction j with
  | zero=>exact h1
  | succ j ih=>rw[←Nat.add_assoc,Ae,ih];rfl
 have h3:Ae r lo hi 3=none:=by have:=up (3-(k+1));rwa [show k+1+(3-(k+1))=3 by omega] at this
 unfold oK;rw[h3];split <;> rfl
theorem Zb{r:gJ}{lo hi:P3}{k:Nat}{st:Rat × Option Rat}(h:Ae r lo hi k=some st)(ho:¬mN ((r.to lo).at k) ((r.to hi).at k) (r.d.at k))(hd:r.d.at k=0):Ae r lo hi (k+1)=some st:=by
 rw[Ae,h,ip,axR,if_neg ho,if_pos hd]
theorem Zd{r:gJ}{lo hi:P3}{k:Nat}{st:Rat × Option Rat}(h:Ae r lo hi k=some st)(ho:¬mN ((r.to lo).at k) ((r.to hi).at k) (r.d.at k))(hd:¬r.d.at k=0) :
 Ae r lo hi (k+1)=some (Av st.1 (Gp r ((r.to lo).at k) ((r.to hi).at k) (r.d.at k)),some (sF st.2 (Es r ((r.to lo).at k) ((r.to hi).at k) (r.d.at k)))):=by
 rw[Ae,h,ip,axR,if_neg ho,if_neg hd]
def BqO(o:Option Rat):Prop:=∀q,o=some q→Bq 400000 q
theorem kC{q:Rat}(h:Bq 400000 q):BqO (some q):=fun p e=>by cases e;exact h
theorem Cc{r:gJ}{n d:Int}[IR r](hn:Bd 129 n)(hd:Bd 64 d)(h:d≠0)(hok:r.ok):Bq 400000 (am n (r.w*d)) :=
 haveI:Bw 129 n:=⟨hn⟩
 haveI:Bw 64 d:=⟨hd⟩
 (Bq.mk' (a:=129) (b:=200) Bw.up Bw.up (fun e=>by
  rcases mi.1 e with e | e
  · have:=hok.1;omega
  · exact h e)).mono (by decide)
theorem adK{p q:Rat}(hp:Bq 400000 p)(hq:Bq 400000 q):Bq 400000 (Av p q):=by
 unfold Av;split
 · exact hq
 · exact hp
theorem adL{o:Option Rat}{q:Rat}(ho:BqO o)(hq:Bq 400000 q):Bq 400000 (sF o q):=by
 unfold sF;split
 · exact hq
 ·
  split
  · exact hq
  · exact ho _ rfl
theorem Ze{r:gJ}{lo hi:P3}{k:Nat}{st:Rat × Option Rat}(h:Ae r lo hi k=some st)(hd:∃j,j<k∧¬r.d.at j=0):st.2.isSome=true:=by
 induction k generalizing st with
 | zero=>obtain⟨j,hj,_⟩:=hd;omega
 | succ k ih =>
  rw[Ae] at h;obtain⟨s,hs,e⟩:=Option.bind_eq_some_iff.1 h;unfold axR at e;split at e
  · cases e
  ·
   split at e
   ·
    rename_i h0;cases e;obtain⟨j,hj,hn⟩:=hd;refine ih hs ⟨j,?_,hn⟩;rcases Nat.lt_or_ge j k with h | h
    · exact h
    ·
     have:j=k:=by omega
     subst this;exact absurd h0 hn
   · cases e;rfl
theorem abg{r:gJ}{lo hi:P3}{st:Rat × Option Rat}(hok:r.ok)(h:Ae r lo hi 3=some st):∃q,st.2=some q:=by
 refine Option.isSome_iff_exists.1 (Ze h ?_);by_cases hx:r.d.x=0
 ·
  by_cases hy:r.d.y=0
  · exact⟨2,by decide,fun hz=>hok.2 ⟨hx,hy,hz⟩⟩
  · exact⟨1,by decide,hy⟩
 · exact⟨0,by decide,hx⟩
theorem abh{r:gJ}{lo hi:P3}{p q:Rat}(hok:r.ok)(h:Ae r lo hi 3=some (p,some q)):oK r lo hi=if q<p then none else some (p,q):=by
 rw[oK,if_pos hok,h,ip]
theorem agr(n f d:Int):f<n∨(¬f<n∧d=0∧0<n)∨(¬f<n∧d=0∧¬0<n∧f<0)∨(¬f<n∧d=0∧¬0<n∧¬f<0)∨(¬f<n∧d<0)∨(¬f<n∧0<d):=by omega
theorem k3{k:Nat}(h:k<3):k=0∨k=1∨k=2:=by omega
instance {b k:Nat}{v:P3}[h:Bv b v]:Bw b (v.at k):=⟨by unfold P3.at;split;exact h.x;exact h.y;exact h.z⟩
instance {k:Nat}{v:P3}[h:I3 v]:Iw (v.at k):=⟨by unfold P3.at;split;exact h.x;exact h.y;exact h.z⟩
theorem at3(v:P3){k:Nat}(h:k<3):(#[Go.Value.int .i64 v.x,.int .i64 v.y,.int .i64 v.z]:Array Go.Value)[((k:Nat):Int).toNat*1]? = some (.int .i64 (v.at k)):=by
 rcases k3 h with rfl | rfl | rfl <;> rfl
theorem Rz{w:aw}{g k:Nat}{v:P3}(hB:gG w g [.bool (cY (v).x),.string (dQ (v).x),.bool (cY (v).y),.string (dQ (v).y),.bool (cY (v).z),.string (dQ (v).z)] 108)(h:k<3):sJ prog w 35 ⟨g,k*2,none⟩ (W (v.at k)):=by
 rcases k3 h with rfl | rfl | rfl
 · exact hB.lies (i:=0) aT aH rfl rfl
 · exact hB.lies (i:=2) aT aH rfl rfl
 · exact hB.lies (i:=4) aT aH rfl rfl
theorem Zf{r:gJ}{lo hi:P3}[IR r][I3 lo][I3 hi]:eB prog 45 [kK r,pt lo,pt hi] (abf (oK r lo hi)):=by
 intro w;refine⟨aeJ,?_⟩;have m:=cK.refl w
 go_enter func45,ntmps45
 refine aF fun K1 k1=>aa (cQ m rfl ?_);clear m;intro g1 u m;simp only[zz];refine cQ m rfl ?_;clear m;intro g2 u m;simp only[zz];refine cQ m rfl ?_;clear m;intro g3 u m;simp only[zz];refine bE m cF rfl ?_;clear m;intro g4 u m;simp only[zz];refine bE m cF rfl ?_;clear m;intro g5 u m;refine aA aD (aC (k1 _ _ ?_));refine aF fun K2 k2=>aF fun K3 k3=>?_;simp only[zz];rcases Decidable.em r.ok with hok | hok
 ·
  refine aa (aI rfl ((m.b 4 rfl).full fR dG) ?_);simp only[zz];refine aX m rfl rfl (Ev hok) ?_;clear m;intro u m;refine aA (fM rfl) (aC (k3 _ _ ?_));refine eZ rfl (ar (k2 _ _ ?_));refine aF fun K4 k4=>?_;simp only[zz];refine eP 12 [0,1,2,3,4,5,6,7,8,9] [⟨10,9,108,[.bool false,.string ⟨#[]⟩,.bool false,.string ⟨#[]⟩,.bool false,.string ⟨#[]⟩]⟩,⟨11,10,35,[.bool false,.string ⟨#[]⟩]⟩] aP (by kernel_rfl) (al2 ⟨_,_,_,rfl,by kernel_rfl,_,kB,rfl⟩ ⟨_,_,_,rfl,by kernel_rfl,_,cL,rfl⟩) (ol:=?_) ?hol ?_
  case hol=>simp only[zw,zQ,zR];try rfl
  intro u e;replace m:=m.ext' e;clear e;refine jE (aG (c:=0) gE rfl aM rfl rfl) ?_;simp only[zz];refine eU rfl (fun u e=>(((m.ext' e).b 4 rfl).lies1 aV rfl)) ?_;simp only[zz];refine jE (aG (c:=0) gE rfl aM rfl rfl) ?_;simp only[zz];refine eU rfl (fun u e=>(((m.ext' e).b 4 rfl).lies1 aV rfl)) ?_;simp only[zz];refine jE (aG (c:=0) gE rfl aM rfl rfl) ?_;simp only[zz];refine eU rfl (fun u e=>(((m.ext' e).b 4 rfl).lies1 aV rfl)) ?_;simp only[zz];refine eR rfl rfl aa9 (jE (aG (c:=0) gE rfl aM rfl rfl) ?_);simp only[zz];refine eU rfl (fun u e=>(((m.ext' e).b 4 rfl).lies1 aV rfl)) ?_;simp only[zz];refine eR rfl rfl (mE Iw.h) (qZ ?_);simp only[zz];refine mf2 m (by decide) ?_;clear m;intro g6 g7 u m;simp only[zJ,zK,zF,zG];refine aN m 1 rfl rfl rfl cC (bZ rfl) rfl ?_;clear m;intro u m;simp only[zy,zx,aW,zF,zG,ab] at m;refine aN m 0 rfl rfl rfl aH (bZ rfl) rfl ?_;clear m;intro u m;simp only[zy,zx,aW,zF,zG,ab] at m;refine aC (k4 _ _ ?_);refine aF fun K5 k5=>?_;refine eP 14 [0,1,2,3,4,5,6,7,8,9,10,11] [⟨12,11,108,[.bool false,.string ⟨#[]⟩,.bool false,.string ⟨#[]⟩,.bool false,.string ⟨#[]⟩]⟩,⟨13,12,108,[.bool false,.string ⟨#[]⟩,.bool false,.string ⟨#[]⟩,.bool false,.string ⟨#[]⟩]⟩] aP (by kernel_rfl) (al2 ⟨_,_,_,rfl,by kernel_rfl,_,kB,rfl⟩ ⟨_,_,_,rfl,by kernel_rfl,_,kB,rfl⟩) (ol:=?_) ?hol ?_
  case hol=>simp only[zw,zQ,zR];try rfl
  intro u e;replace m:=m.ext' e;clear e;refine eU rfl (fun u e=>(((m.ext' e).b 5 rfl).full bG aL)) ?_;simp only[zz];refine eR rfl rfl rB ?_;simp only[zz];refine eU rfl (fun u e=>(((m.ext' e).b 0 rfl).full aT aH)) ?_;simp only[zz];refine eR rfl rfl (vK Bv.of ⟨Bw.up⟩) ?_;simp only[zz];refine eU rfl (fun u e=>(((m.ext' e).b 1 rfl).full fN cC)) ?_;simp only[zz];refine eR rfl rfl (rC Bv.of Bv.of) ?_;simp only[zz];refine eU rfl (fun u e=>(((m.ext' e).b 4 rfl).full bG aL)) ?_;simp only[zz];refine eR rfl rfl rB ?_;simp only[zz];refine eU rfl (fun u e=>(((m.ext' e).b 0 rfl).full aT aH)) ?_;simp only[zz];refine eR rfl rfl (vK Bv.of ⟨Bw.up⟩) ?_;simp only[zz];refine eU rfl (fun u e=>(((m.ext' e).b 1 rfl).full fN cC)) ?_;simp only[zz];refine eR rfl rfl (rC Bv.of Bv.of) (qZ ?_);simp only[zz];refine mf2 m (by decide) ?_;clear m;intro g8 g9 u m;simp only[zJ,zK,zF,zG];refine aN m 1 rfl rfl rfl cC (bZ rfl) rfl ?_;clear m;intro u m;simp only[zy,zx,aW,zF,zG,ab] at m;refine aN m 0 rfl rfl rfl cC (bZ rfl) rfl ?_;clear m;intro u m;simp only[zy,zx,aW,zF,zG,ab] at m;refine aC (k5 _ _ ?_);refine aF fun K6 k6=>aa (aX m rfl rfl gQ ?_);clear m;intro u m;simp only[zz];refine aN m 5 rfl rfl rfl aK (bZ rfl) rfl ?_;clear m;intro u m;simp only[zy,zx,aW,zF,zG,ab] at m;refine aA aD (aC (k6 _ _ ?_));refine aF fun K7 k7=>aF fun K8 k8=>aa (aA (aG (c:=2) gE rfl cZ rfl rfl) ?_);simp only[zz];refine aI rfl ((m.b 8 rfl).lies oF cZ rfl rfl) ?_;simp only[zz,zy,ah,ab,ag,ae];refine aA aB (aC (k8 _ _ ?_));refine av ?_;simp only[zz];try simp only[ah,ab,ag,ae]
  refine dI [13,51] [8,14,15,16,17,18,19,20,52,53,54,55,56,57,58,59,60,61,62,63,64,65,66,67,68,69,70,71,72,73,74,75,76,77,78,79,80,81,82,83,84,85,86,87,88,89,90,91,92,93,94,95,96,97,98,99,100,101,102,103,104,105,106,107,108,109,110,111,112] (fun n vs wl=>∃(k:Nat) (p:Rat) (o:Option Rat) (bb:Bool),vs=[.bool bb,.int .i64 (k:Int)]∧cK w wl [bI g9 [.bool (cY ((r.to hi)).x),.string (dQ ((r.to hi)).x),.bool (cY ((r.to hi)).y),.string (dQ ((r.to hi)).y),.bool (cY ((r.to hi)).z),.string (dQ ((r.to hi)).z)] 108,bI g8 [.bool (cY ((r.to lo)).x),.string (dQ ((r.to lo)).x),.bool (cY ((r.to lo)).y),.string (dQ ((r.to lo)).y),.bool (cY ((r.to lo)).z),.string (dQ ((r.to lo)).z)] 108,bI g7 [.bool (cY r.w),.string (dQ r.w)] 35,bI g6 [.bool (cY (r.s).x),.string (dQ (r.s).x),.bool (cY (r.s).y),.string (dQ (r.s).y),.bool (cY (r.s).z),.string (dQ (r.s).z)] 108,bI g5 (Ey o) 37,bI g4 [.bool (cY (p).num),.string (dQ (p).num),.bool (cY ((p).den:Int)),.string (dQ ((p).den:Int))] 37,bI g3 [.int .i64 hi.x,.int .i64 hi.y,.int .i64 hi.z] 56,bI g2 [.int .i64 lo.x,.int .i64 lo.y,.int .i64 lo.z] 56,bI g1 [.int .i64 r.s.x,.int .i64 r.s.y,.int .i64 r.s.z,.int .i64 r.w,.int .i64 r.d.x,.int .i64 r.d.y,.int .i64 r.d.z] 25]∧(Ae r lo hi k=some (p,o))∧(bb=o.isSome)∧(Bq 400000 p)∧(BqO o)∧(k≤3)∧(n=3-k)) ?_ ?_
  ·
   apply Exists.intro;simp only[zQ,zR,zD,zE];exact⟨0,0,none,false,rfl,m,rfl,rfl,⟨jT _,yM.mono (by decide)⟩,(fun q h=>by cases h),cd _,rfl⟩
  ·
   intro n vs wr hI u;clear m;obtain⟨k,p,o,bb,rfl,m,ha,hbb,hbp,hbo,hk,hn⟩:=hI;simp only[zu,zF,zG];refine aF fun K9 k9=>aa (aA (dZ rfl rfl) (aC (k9 _ _ ?_)));refine aF fun K10 k10=>?_;simp only[zz];refine cW rfl (fun hc2=>?_) (fun hc2=>?_)
   ·
    have hk3:k<3:=by omega
    let kN:Nat:=k+1
    let kM:Nat:=2-k
    have hlt:kM<n:=by show 2-k<n;omega
    refine ar (k10 _ _ ?_);refine aF fun K11 k11=>av (aF fun K12 k12=>aa (aA aB (aA (mH fF aV aM rfl rfl (Int.natCast_nonneg _) (by omega) (at3 r.d hk3)) (aA aD (aA aD ?_)))));simp only[zz];refine aC (k12 _ _ ?_);refine aF fun K13 k13=>?_;apply afK m (T1:=35) (T2:=35)
    ·
     refine lG m [true,true,true,true,true,true,true,true,true] (.take 0 (.take 1 (.take 2 (.take 3 (.take 4 (.take 5 (.two 6 (.one 7 (.one 8 (.one 9 .nil))) 7 (.one 6 (.one 8 (.one 9 .nil)))))))))) aP (by kernel_rfl) (fun _ _ _ _ _ h=>by cases h.1) ?_;intro u m;refine aY (by simp only[zw];rfl) (bA aB (bB (aY (by simp only[zw];rfl) ?_)));simp only[zz];refine bA (aJ fE aH rfl rfl (by omega) (by omega) (tW (an _))) (bB (aY (by simp only[zw];rfl) ?_));simp only[zz];refine cO rfl (fun u m=>(Rz (m.b 1 rfl) hk3)) ?_;simp only[zz];refine bB (aY (by simp only[zw];rfl) (bA aB (bB (aY (by simp only[zw];rfl) ?_))));simp only[zz];refine bA (aJ fE aH rfl rfl (by omega) (by omega) (tW (an _))) (bB (aY (by simp only[zw];rfl) ?_));simp only[zz];refine cO rfl (fun u m=>(Rz (m.b 0 rfl) hk3)) ?_;simp only[zz];refine bB ?_;refine iM (by simp only[zw];rfl) (by simp only[zw];rfl) ?_ ?_
     ·
      refine bE m cL rfl ?_;clear m;intro g10 u m;refine aC (⟨m.sel [false,true,true,true,true,true,true,true,true,true],?_⟩);refine bQ (by simp only[zw];rfl) ?_;simp only[zz];refine bE m cL rfl ?_;clear m;intro g11 u m;refine aC (⟨m.sel [false,false,true,true,true,true,true,true,true,true,true],?_⟩);refine bQ (by simp only[zw];rfl) ?_;simp only[zz];refine aN m 1 rfl rfl rfl aH (bZ rfl) rfl ?_;clear m;intro u m;simp only[zy,zx,aW,zF,zG,ab] at m;refine aC (⟨m.sel [false,false,true,true,true,true,true,true,true,true,true],?_⟩);refine bQ (by simp only[zw];rfl) ?_;refine aN m 0 rfl rfl rfl aH (bZ rfl) rfl ?_;clear m;intro u m;simp only[zy,zx,aW,zF,zG,ab] at m;refine aC (⟨m.sel [false,false,true,true,true,true,true,true,true,true,true],?_⟩);exact eV (⟨rfl,g10,g11,rfl,m⟩)
     ·
      refine bE m cL rfl ?_;clear m;intro g10 u m;refine aC (⟨m.sel [false,true,true,true,true,true,true,true,true,true],?_⟩);refine bQ (by simp only[zw];rfl) ?_;simp only[zz];refine bE m cL rfl ?_;clear m;intro g11 u m;refine aC (⟨m.sel [false,false,true,true,true,true,true,true,true,true,true],?_⟩);refine bQ (by simp only[zw];rfl) ?_;simp only[zz];refine aN m 0 rfl rfl rfl aH (bZ rfl) rfl ?_;clear m;intro u m;simp only[zy,zx,aW,zF,zG,ab] at m;refine aC (⟨m.sel [false,false,true,true,true,true,true,true,true,true,true],?_⟩);refine bQ (by simp only[zw];rfl) ?_;refine aN m 1 rfl rfl rfl aH (bZ rfl) rfl ?_;clear m;intro u m;simp only[zy,zx,aW,zF,zG,ab] at m;refine aC (⟨m.sel [false,false,true,true,true,true,true,true,true,true,true],?_⟩);exact eV (⟨rfl,g11,g10,rfl,m.s01⟩)
    intro g10 g11 u m;try dsimp only
    refine k13 _ _ ?_;refine aF fun K14 k14=>av (aF fun K15 k15=>aF fun K16 k16=>?_);rcases agr ((r.to lo).at k) ((r.to hi).at k) (r.d.at k) with ho | ho | ho | ho | ho | ho
    ·
     have hbx:=Ko (k:=k) hk3 ha (show mN ((r.to lo).at k) ((r.to hi).at k) (r.d.at k) by unfold mN;omega);obtain⟨c0,c1,c2,c3,hl4⟩:=Za o;rw[hl4] at m;refine aa (aI rfl ((m.b 1 rfl).full aT aH) ?_);simp only[zz];refine aI rfl ((m.b 0 rfl).full aT aH) ?_;simp only[zz];refine aX m rfl rfl (Ed (a:=(r.to lo).at k) (b:=(r.to hi).at k) Bw.up Bw.up) ?_;clear m;intro u m;refine aA (lN rfl rfl (by rw[nV];omega)) (aA aD (aC (k16 _ _ ?_)));refine bX rfl (ar (k15 _ _ ?_));refine bX rfl (aF fun K17 k17=>aa ?_);simp only[zz];refine aX m rfl rfl gQ ?_;clear m;intro u m;simp only[zz];refine aX m rfl rfl gQ ?_;clear m;intro u m;simp only[zz];refine aN m 7 rfl rfl rfl aK (bZ rfl) rfl ?_;clear m;intro u m;simp only[zy,zx,aW,zF,zG,ab] at m;refine aN m 6 rfl rfl rfl aK (bZ rfl) rfl ?_;clear m;intro u m;simp only[zy,zx,aW,zF,zG,ab] at m;refine aA aD (aC (k17 _ _ ?_));refine bc ?_;simp only[zz];try simp only[ac,af,if_true]
     refine pX rfl ⟨_,rfl,((m.b 7 rfl).full bF aK)⟩ ⟨_,rfl,((m.b 6 rfl).full bF aK)⟩ rfl ?_;try simp only[zD,zE]
     exact⟨_,rfl,m.ext,by rw[hbx];rfl⟩
    ·
     have hbx:=Ko (k:=k) hk3 ha (show mN ((r.to lo).at k) ((r.to hi).at k) (r.d.at k) by unfold mN;omega);obtain⟨c0,c1,c2,c3,hl4⟩:=Za o;rw[hl4] at m;refine aa (aI rfl ((m.b 1 rfl).full aT aH) ?_);simp only[zz];refine aI rfl ((m.b 0 rfl).full aT aH) ?_;simp only[zz];refine aX m rfl rfl (Ed (a:=(r.to lo).at k) (b:=(r.to hi).at k) Bw.up Bw.up) ?_;clear m;intro u m;refine aA (kE rfl rfl (by rw[nV];omega)) (aA aD (aC (k16 _ _ ?_)));refine eZ rfl (aa (aA aB ?_));simp only[zz];refine aA (pL rfl rfl (by omega)) (aA aB (aR rfl ?_));simp only[zz];refine aI rfl ((m.b 1 rfl).full aT aH) ?_;simp only[zz];refine aR rfl (aX m rfl rfl (mD (a:=(r.to lo).at k) Bw.up) ?_);clear m;intro u m;refine aR rfl (aA (lN rfl rfl (by rw[nV];omega)) (aR rfl (aA aB (bK rfl ?_))));simp only[zz];refine bK rfl (bK rfl (aR rfl (aA (cT rfl) (aA (cT rfl) ?_))));simp only[zz];refine aA aD (aC (k15 _ _ ?_));refine bX rfl (aF fun K18 k18=>aa ?_);simp only[zz];refine aX m rfl rfl gQ ?_;clear m;intro u m;simp only[zz];refine aX m rfl rfl gQ ?_;clear m;intro u m;simp only[zz];refine aN m 7 rfl rfl rfl aK (bZ rfl) rfl ?_;clear m;intro u m;simp only[zy,zx,aW,zF,zG,ab] at m;refine aN m 6 rfl rfl rfl aK (bZ rfl) rfl ?_;clear m;intro u m;simp only[zy,zx,aW,zF,zG,ab] at m;refine aA aD (aC (k18 _ _ ?_));refine bc ?_;simp only[zz];try simp only[ac,af,if_true]
     refine pX rfl ⟨_,rfl,((m.b 7 rfl).full bF aK)⟩ ⟨_,rfl,((m.b 6 rfl).full bF aK)⟩ rfl ?_;try simp only[zD,zE]
     exact⟨_,rfl,m.ext,by rw[hbx];rfl⟩
    ·
     have hbx:=Ko (k:=k) hk3 ha (show mN ((r.to lo).at k) ((r.to hi).at k) (r.d.at k) by unfold mN;omega);obtain⟨c0,c1,c2,c3,hl4⟩:=Za o;rw[hl4] at m;refine aa (aI rfl ((m.b 1 rfl).full aT aH) ?_);simp only[zz];refine aI rfl ((m.b 0 rfl).full aT aH) ?_;simp only[zz];refine aX m rfl rfl (Ed (a:=(r.to lo).at k) (b:=(r.to hi).at k) Bw.up Bw.up) ?_;clear m;intro u m;refine aA (kE rfl rfl (by rw[nV];omega)) (aA aD (aC (k16 _ _ ?_)));refine eZ rfl (aa (aA aB ?_));simp only[zz];refine aA (pL rfl rfl (by omega)) (aA aB (aR rfl ?_));simp only[zz];refine aI rfl ((m.b 1 rfl).full aT aH) ?_;simp only[zz];refine aR rfl (aX m rfl rfl (mD (a:=(r.to lo).at k) Bw.up) ?_);clear m;intro u m;refine aR rfl (aA (kE rfl rfl (by rw[nV];omega)) (aR rfl (aA aB (aR rfl ?_))));simp only[zz];refine aI rfl ((m.b 0 rfl).full aT aH) ?_;simp only[zz];refine aR rfl (aX m rfl rfl (mD (a:=(r.to hi).at k) Bw.up) ?_);clear m;intro u m;refine aR rfl (aA (cD rfl rfl (by rw[nG (by omega)];decide)) (aR rfl (aA (cV rfl) (aA (cT rfl) ?_))));simp only[zz];refine aA aD (aC (k15 _ _ ?_));refine bX rfl (aF fun K19 k19=>aa ?_);simp only[zz];refine aX m rfl rfl gQ ?_;clear m;intro u m;simp only[zz];refine aX m rfl rfl gQ ?_;clear m;intro u m;simp only[zz];refine aN m 7 rfl rfl rfl aK (bZ rfl) rfl ?_;clear m;intro u m;simp only[zy,zx,aW,zF,zG,ab] at m;refine aN m 6 rfl rfl rfl aK (bZ rfl) rfl ?_;clear m;intro u m;simp only[zy,zx,aW,zF,zG,ab] at m;refine aA aD (aC (k19 _ _ ?_));refine bc ?_;simp only[zz];try simp only[ac,af,if_true]
     refine pX rfl ⟨_,rfl,((m.b 7 rfl).full bF aK)⟩ ⟨_,rfl,((m.b 6 rfl).full bF aK)⟩ rfl ?_;try simp only[zD,zE]
     exact⟨_,rfl,m.ext,by rw[hbx];rfl⟩
    ·
     have hgo:=Zb (k:=k) ha (show ¬mN ((r.to lo).at k) ((r.to hi).at k) (r.d.at k) by unfold mN;omega) (show r.d.at k=0 by omega)
     let pE:Rat:=p
     let oE:Option Rat:=o
     refine aa (aI rfl ((m.b 1 rfl).full aT aH) ?_);simp only[zz];refine aI rfl ((m.b 0 rfl).full aT aH) ?_;simp only[zz];refine aX m rfl rfl (Ed (a:=(r.to lo).at k) (b:=(r.to hi).at k) Bw.up Bw.up) ?_;clear m;intro u m;refine aA (kE rfl rfl (by rw[nV];omega)) (aA aD (aC (k16 _ _ ?_)));refine eZ rfl (aa (aA aB ?_));simp only[zz];refine aA (pL rfl rfl (by omega)) (aA aB (aR rfl ?_));simp only[zz];refine aI rfl ((m.b 1 rfl).full aT aH) ?_;simp only[zz];refine aR rfl (aX m rfl rfl (mD (a:=(r.to lo).at k) Bw.up) ?_);clear m;intro u m;refine aR rfl (aA (kE rfl rfl (by rw[nV];omega)) (aR rfl (aA aB (aR rfl ?_))));simp only[zz];refine aI rfl ((m.b 0 rfl).full aT aH) ?_;simp only[zz];refine aR rfl (aX m rfl rfl (mD (a:=(r.to hi).at k) Bw.up) ?_);clear m;intro u m;refine aR rfl (aA (fD rfl rfl (by have:=Xt (n:=(r.to hi).at k);omega)) (aR rfl (aA (cV rfl) (aA (cT rfl) ?_))));simp only[zz];refine aA aD (aC (k15 _ _ ?_));refine eZ rfl (aF fun K20 k20=>aa (aA aB (aA (pL rfl rfl (by omega)) (aA aD ?_))));simp only[zz];refine aC (k20 _ _ ?_);refine bX rfl (bw (k11 _ _ ?_));refine aa (aA (aZ rfl rfl (aO (by omega) (by omega))) (aA aB (aC ?_)));simp only[zz];simp only[ac,af];refine⟨kM,_,?_,rfl,?_,?_⟩
     · exact hlt
     · simp only[zz,zv]
     ·
      simp only[zQ,zR,zD,zE];exact⟨kN,pE,oE,_,rfl,(m.sel [false,false,true,true,true,true,true,true,true,true,true]),by first | exact hgo | (rw[hmx,hmn] at hgo;exact hgo),by first | rfl | exact hbb,by first | exact hbF | exact hbp,by first | exact hbo | exact kC hbT,by show k+1≤3;omega,by show 2-k=3-(k+1);omega⟩
    ·
     have hoff:¬mN ((r.to lo).at k) ((r.to hi).at k) (r.d.at k):=by unfold mN;omega
     have hgo:=Zd (k:=k) ha hoff (show ¬r.d.at k=0 by omega);rw[show Gp r ((r.to lo).at k) ((r.to hi).at k) (r.d.at k)=am ((r.to hi).at k) (r.w*(r.d.at k)) from if_pos (show  r.d.at k<0 by omega),show Es r ((r.to lo).at k) ((r.to hi).at k) (r.d.at k)=am ((r.to lo).at k) (r.w*(r.d.at k)) from if_pos (show  r.d.at k<0 by omega)] at hgo;dsimp only at hgo;have hbF:Bq 400000 (am ((r.to hi).at k) (r.w*(r.d.at k))):=Cc Bw.h Bw.h (by omega) hok;have hbT:Bq 400000 (am ((r.to lo).at k) (r.w*(r.d.at k))):=Cc Bw.h Bw.h (by omega) hok;refine aa (aI rfl ((m.b 1 rfl).full aT aH) ?_);simp only[zz];refine aI rfl ((m.b 0 rfl).full aT aH) ?_;simp only[zz];refine aX m rfl rfl (Ed (a:=(r.to lo).at k) (b:=(r.to hi).at k) Bw.up Bw.up) ?_;clear m;intro u m;refine aA (kE rfl rfl (by rw[nV];omega)) (aA aD (aC (k16 _ _ ?_)));refine eZ rfl (aa (aA aB ?_));simp only[zz];refine aA (mU rfl rfl (by omega)) (aA aB (bO rfl (bO rfl ?_)));simp only[zz];refine bO rfl (bO rfl (dY rfl (dY rfl ?_)));simp only[zz];refine dY rfl (bO rfl (aA (cV rfl) (aA aD ?_)));simp only[zz];refine aC (k15 _ _ ?_);refine eZ rfl (aF fun K21 k21=>aa (aA aB (aA (mU rfl rfl (by omega)) (aA aD (aC (k21 _ _ ?_))))));refine eZ rfl (aF fun K22 k22=>aa (aA aB ?_));simp only[zz];refine aA (cD rfl rfl (by omega)) (aA aD (aC (k22 _ _ ?_)));refine bX rfl (aa ?_);simp only[zz];refine aI rfl ((m.b 0 rfl).full aT aH) ?_;simp only[zz];refine aI rfl ((m.b 1 rfl).full aT aH) ?_;simp only[zz];refine aN m 1 rfl rfl rfl aH (bZ rfl) rfl ?_;clear m;intro u m;simp only[zy,zx,aW,zF,zG,ab] at m;refine aN m 0 rfl rfl rfl aH (bZ rfl) rfl ?_;clear m;intro u m;simp only[zy,zx,aW,zF,zG,ab] at m;refine aC (k14 _ _ ?_);refine aF fun K23 k23=>?_;refine eP 5 [0,1,2,3] [⟨4,18,35,[.bool false,.string ⟨#[]⟩]⟩] aP (by kernel_rfl) (al1 ⟨_,_,_,rfl,by kernel_rfl,_,cL,rfl⟩) (ol:=?_) ?hol ?_
     case hol=>simp only[zw,zQ,zR];try rfl
     intro u e;replace m:=m.ext' e;clear e;refine eU rfl (fun u e=>(((m.ext' e).b 4 rfl).full aT aH)) ?_;simp only[zz];refine jE aB ?_;simp only[zz];refine eR rfl rfl (mE Iw.h) ?_;simp only[zz];refine eR rfl rfl (kY (a:=r.w) (b:=r.d.at k) Bw.up Bw.up) (qZ ?_);simp only[zz];refine mf1 m ?_;clear m;intro g12 u m;simp only[zJ,zK,zF,zG];refine aN m 0 rfl rfl rfl aH (bZ rfl) rfl ?_;clear m;intro u m;simp only[zy,zx,aW,zF,zG,ab] at m;refine aC (k23 _ _ ?_);refine aF fun K24 k24=>?_;refine eP 8 [0,1,2,3,4,5] [⟨6,19,37,[.bool false,.string ⟨#[]⟩,.bool false,.string ⟨#[]⟩]⟩,⟨7,20,37,[.bool false,.string ⟨#[]⟩,.bool false,.string ⟨#[]⟩]⟩] aP (by kernel_rfl) (al2 ⟨_,_,_,rfl,by kernel_rfl,_,cF,rfl⟩ ⟨_,_,_,rfl,by kernel_rfl,_,cF,rfl⟩) (ol:=?_) ?hol ?_
     case hol=>simp only[zw,zQ,zR];try rfl
     intro u e;replace m:=m.ext' e;clear e;refine eU rfl (fun u e=>(((m.ext' e).b 2 rfl).full aT aH)) ?_;simp only[zz];refine eU rfl (fun u e=>(((m.ext' e).b 0 rfl).full aT aH)) ?_;simp only[zz];refine eR rfl rfl (nI (n:=((r.to hi).at k)) (d:=r.w*(r.d.at k)) Bw.up Bw.up (Kn hok (by omega))) ?_;simp only[zz];refine eU rfl (fun u e=>(((m.ext' e).b 1 rfl).full aT aH)) ?_;simp only[zz];refine eU rfl (fun u e=>(((m.ext' e).b 0 rfl).full aT aH)) ?_;simp only[zz];refine eR rfl rfl (nI (n:=((r.to lo).at k)) (d:=r.w*(r.d.at k)) Bw.up Bw.up (Kn hok (by omega))) (qZ ?_);simp only[zz];refine mf2 m (by decide) ?_;clear m;intro g13 g14 u m;simp only[zJ,zK,zF,zG];refine aN m 1 rfl rfl rfl aK (bZ rfl) rfl ?_;clear m;intro u m;simp only[zy,zx,aW,zF,zG,ab] at m;refine aN m 0 rfl rfl rfl aK (bZ rfl) rfl ?_;clear m;intro u m;simp only[zy,zx,aW,zF,zG,ab] at m;refine aC (k24 _ _ ?_);refine aF fun K25 k25=>aF fun K26 k26=>aa (aI rfl ((m.b 1 rfl).full bF aK) ?_);simp only[zz];refine aI rfl ((m.b 10 rfl).full bF aK) ?_;simp only[zz];refine aX m rfl rfl (kU (p:=am ((r.to hi).at k) (r.w*(r.d.at k))) (q:=p) hbF hbp) ?_;clear m;intro u m;refine aA (gW rfl rfl) (aC (k26 _ _ ?_));simp only[zz];refine cW rfl (fun hc7=>?_) (fun hc7=>?_)
     ·
      have hmx:Av p (am ((r.to hi).at k) (r.w*(r.d.at k)))=am ((r.to hi).at k) (r.w*(r.d.at k)):=if_pos (nS.1 hc7)
      let pE:Rat:=am ((r.to hi).at k) (r.w*(r.d.at k))
      refine aa (aI rfl ((m.b 1 rfl).full bF aK) ?_);simp only[zz];refine aN m 10 rfl rfl rfl aK (bZ rfl) rfl ?_;clear m;intro u m;simp only[zy,zx,aW,zF,zG,ab] at m;refine aC (k25 _ _ ?_);refine aF fun K27 k27=>?_;rcases o with _ | q
      ·
       obtain rfl:bb=false:=hbb;simp only[Ey] at m;have hmn:sF none (am ((r.to lo).at k) (r.w*(r.d.at k)))=am ((r.to lo).at k) (r.w*(r.d.at k)):=rfl
       let oE:Option Rat:=some (am ((r.to lo).at k) (r.w*(r.d.at k)))
       refine aa (aA aB (aA (fM rfl) (aA aB (bK rfl ?_))));simp only[zz];refine bK rfl (bK rfl (bK rfl (aA (cT rfl) ?_)));simp only[zz];refine aC (k27 _ _ ?_);refine bX rfl (aa (aI rfl ((m.b 0 rfl).full bF aK) ?_));simp only[zz];refine aN m 9 rfl rfl rfl aK (bZ rfl) rfl ?_;clear m;intro u m;simp only[zy,zx,aW,zF,zG,ab] at m;refine aA aD (aC (k11 _ _ ?_));refine aa ?_;simp only[zz];refine aA (aZ rfl rfl (aO (by omega) (by omega))) (aA aB (aC ?_));simp only[zz];simp only[ac,af];refine⟨kM,_,?_,rfl,?_,?_⟩
       · exact hlt
       · simp only[zz,zv]
       ·
        simp only[zQ,zR,zD,zE];exact⟨kN,pE,oE,_,rfl,(m.sel [false,false,false,false,false,true,true,true,true,true,true,true,true,true]),by first | exact hgo | (rw[hmx,hmn] at hgo;exact hgo),by first | rfl | exact hbb,by first | exact hbF | exact hbp,by first | exact hbo | exact kC hbT,by show k+1≤3;omega,by show 2-k=3-(k+1);omega⟩
      ·
       obtain rfl:bb=true:=hbb;simp only[Ey] at m;refine aa (aA aB (aA (fM rfl) (aA aB (aR rfl ?_))));simp only[zz];refine aI rfl ((m.b 0 rfl).full bF aK) ?_;simp only[zz];refine aR rfl (aI rfl ((m.b 9 rfl).full bF aK) ?_);simp only[zz];refine aR rfl (aX m rfl rfl (kU (p:=am ((r.to lo).at k) (r.w*(r.d.at k))) (q:=q) hbT (hbo q rfl)) ?_);clear m;intro u m;refine aR rfl (aA (dZ rfl rfl) (aA (cV rfl) (aC (k27 _ _ ?_))));simp only[zz];refine cW rfl (fun hc8=>?_) (fun hc8=>?_)
       ·
        have hmn:sF (some q) (am ((r.to lo).at k) (r.w*(r.d.at k)))=am ((r.to lo).at k) (r.w*(r.d.at k)):=if_pos (gP.1 hc8)
        let oE:Option Rat:=some (am ((r.to lo).at k) (r.w*(r.d.at k)))
        refine aa (aI rfl ((m.b 0 rfl).full bF aK) ?_);simp only[zz];refine aN m 9 rfl rfl rfl aK (bZ rfl) rfl ?_;clear m;intro u m;simp only[zy,zx,aW,zF,zG,ab] at m;refine aA aD (aC (k11 _ _ ?_));refine aa ?_;simp only[zz];refine aA (aZ rfl rfl (aO (by omega) (by omega))) (aA aB (aC ?_));simp only[zz];simp only[ac,af];refine⟨kM,_,?_,rfl,?_,?_⟩
        · exact hlt
        · simp only[zz,zv]
        ·
         simp only[zQ,zR,zD,zE];exact⟨kN,pE,oE,_,rfl,(m.sel [false,false,false,false,false,true,true,true,true,true,true,true,true,true]),by first | exact hgo | (rw[hmx,hmn] at hgo;exact hgo),by first | rfl | exact hbb,by first | exact hbF | exact hbp,by first | exact hbo | exact kC hbT,by show k+1≤3;omega,by show 2-k=3-(k+1);omega⟩
       ·
        have hmn:sF (some q) (am ((r.to lo).at k) (r.w*(r.d.at k)))=q:=if_neg (mt gP.2 hc8)
        let oE:Option Rat:=some q
        refine ar (k11 _ _ ?_);refine aa (aA (aZ rfl rfl (aO (by omega) (by omega))) (aA aB (aC ?_)));simp only[zz];simp only[ac,af];refine⟨kM,_,?_,rfl,?_,?_⟩
        · exact hlt
        · simp only[zz,zv]
        ·
         simp only[zQ,zR,zD,zE];exact⟨kN,pE,oE,_,rfl,(m.sel [false,false,false,false,false,true,true,true,true,true,true,true,true,true]),by first | exact hgo | (rw[hmx,hmn] at hgo;exact hgo),by first | rfl | exact hbb,by first | exact hbF | exact hbp,by first | exact hbo | exact kC hbT,by show k+1≤3;omega,by show 2-k=3-(k+1);omega⟩
     ·
      have hmx:Av p (am ((r.to hi).at k) (r.w*(r.d.at k)))=p:=if_neg (mt nS.2 hc7)
      let pE:Rat:=p
      refine ar (k25 _ _ ?_);refine aF fun K28 k28=>?_;rcases o with _ | q
      ·
       obtain rfl:bb=false:=hbb;simp only[Ey] at m;have hmn:sF none (am ((r.to lo).at k) (r.w*(r.d.at k)))=am ((r.to lo).at k) (r.w*(r.d.at k)):=rfl
       let oE:Option Rat:=some (am ((r.to lo).at k) (r.w*(r.d.at k)))
       refine aa (aA aB (aA (fM rfl) (aA aB (bK rfl ?_))));simp only[zz];refine bK rfl (bK rfl (bK rfl (aA (cT rfl) ?_)));simp only[zz];refine aC (k28 _ _ ?_);refine bX rfl (aa (aI rfl ((m.b 0 rfl).full bF aK) ?_));simp only[zz];refine aN m 9 rfl rfl rfl aK (bZ rfl) rfl ?_;clear m;intro u m;simp only[zy,zx,aW,zF,zG,ab] at m;refine aA aD (aC (k11 _ _ ?_));refine aa ?_;simp only[zz];refine aA (aZ rfl rfl (aO (by omega) (by omega))) (aA aB (aC ?_));simp only[zz];simp only[ac,af];refine⟨kM,_,?_,rfl,?_,?_⟩
       · exact hlt
       · simp only[zz,zv]
       ·
        simp only[zQ,zR,zD,zE];exact⟨kN,pE,oE,_,rfl,(m.sel [false,false,false,false,false,true,true,true,true,true,true,true,true,true]),by first | exact hgo | (rw[hmx,hmn] at hgo;exact hgo),by first | rfl | exact hbb,by first | exact hbF | exact hbp,by first | exact hbo | exact kC hbT,by show k+1≤3;omega,by show 2-k=3-(k+1);omega⟩
      ·
       obtain rfl:bb=true:=hbb;simp only[Ey] at m;refine aa (aA aB (aA (fM rfl) (aA aB (aR rfl ?_))));simp only[zz];refine aI rfl ((m.b 0 rfl).full bF aK) ?_;simp only[zz];refine aR rfl (aI rfl ((m.b 9 rfl).full bF aK) ?_);simp only[zz];refine aR rfl (aX m rfl rfl (kU (p:=am ((r.to lo).at k) (r.w*(r.d.at k))) (q:=q) hbT (hbo q rfl)) ?_);clear m;intro u m;refine aR rfl (aA (dZ rfl rfl) (aA (cV rfl) (aC (k28 _ _ ?_))));simp only[zz];refine cW rfl (fun hc8=>?_) (fun hc8=>?_)
       ·
        have hmn:sF (some q) (am ((r.to lo).at k) (r.w*(r.d.at k)))=am ((r.to lo).at k) (r.w*(r.d.at k)):=if_pos (gP.1 hc8)
        let oE:Option Rat:=some (am ((r.to lo).at k) (r.w*(r.d.at k)))
        refine aa (aI rfl ((m.b 0 rfl).full bF aK) ?_);simp only[zz];refine aN m 9 rfl rfl rfl aK (bZ rfl) rfl ?_;clear m;intro u m;simp only[zy,zx,aW,zF,zG,ab] at m;refine aA aD (aC (k11 _ _ ?_));refine aa ?_;simp only[zz];refine aA (aZ rfl rfl (aO (by omega) (by omega))) (aA aB (aC ?_));simp only[zz];simp only[ac,af];refine⟨kM,_,?_,rfl,?_,?_⟩
        · exact hlt
        · simp only[zz,zv]
        ·
         simp only[zQ,zR,zD,zE];exact⟨kN,pE,oE,_,rfl,(m.sel [false,false,false,false,false,true,true,true,true,true,true,true,true,true]),by first | exact hgo | (rw[hmx,hmn] at hgo;exact hgo),by first | rfl | exact hbb,by first | exact hbF | exact hbp,by first | exact hbo | exact kC hbT,by show k+1≤3;omega,by show 2-k=3-(k+1);omega⟩
       ·
        have hmn:sF (some q) (am ((r.to lo).at k) (r.w*(r.d.at k)))=q:=if_neg (mt gP.2 hc8)
        let oE:Option Rat:=some q
        refine ar (k11 _ _ ?_);refine aa (aA (aZ rfl rfl (aO (by omega) (by omega))) (aA aB (aC ?_)));simp only[zz];simp only[ac,af];refine⟨kM,_,?_,rfl,?_,?_⟩
        · exact hlt
        · simp only[zz,zv]
        ·
         simp only[zQ,zR,zD,zE];exact⟨kN,pE,oE,_,rfl,(m.sel [false,false,false,false,false,true,true,true,true,true,true,true,true,true]),by first | exact hgo | (rw[hmx,hmn] at hgo;exact hgo),by first | rfl | exact hbb,by first | exact hbF | exact hbp,by first | exact hbo | exact kC hbT,by show k+1≤3;omega,by show 2-k=3-(k+1);omega⟩
    ·
     have hoff:¬mN ((r.to lo).at k) ((r.to hi).at k) (r.d.at k):=by unfold mN;omega
     have hgo:=Zd (k:=k) ha hoff (show ¬r.d.at k=0 by omega);rw[show Gp r ((r.to lo).at k) ((r.to hi).at k) (r.d.at k)=am ((r.to lo).at k) (r.w*(r.d.at k)) from if_neg (show ¬r.d.at k<0 by omega),show Es r ((r.to lo).at k) ((r.to hi).at k) (r.d.at k)=am ((r.to hi).at k) (r.w*(r.d.at k)) from if_neg (show ¬r.d.at k<0 by omega)] at hgo;dsimp only at hgo;have hbF:Bq 400000 (am ((r.to lo).at k) (r.w*(r.d.at k))):=Cc Bw.h Bw.h (by omega) hok;have hbT:Bq 400000 (am ((r.to hi).at k) (r.w*(r.d.at k))):=Cc Bw.h Bw.h (by omega) hok;refine aa (aI rfl ((m.b 1 rfl).full aT aH) ?_);simp only[zz];refine aI rfl ((m.b 0 rfl).full aT aH) ?_;simp only[zz];refine aX m rfl rfl (Ed (a:=(r.to lo).at k) (b:=(r.to hi).at k) Bw.up Bw.up) ?_;clear m;intro u m;refine aA (kE rfl rfl (by rw[nV];omega)) (aA aD (aC (k16 _ _ ?_)));refine eZ rfl (aa (aA aB ?_));simp only[zz];refine aA (mU rfl rfl (by omega)) (aA aB (bO rfl (bO rfl ?_)));simp only[zz];refine bO rfl (bO rfl (dY rfl (dY rfl ?_)));simp only[zz];refine dY rfl (bO rfl (aA (cV rfl) (aA aD ?_)));simp only[zz];refine aC (k15 _ _ ?_);refine eZ rfl (aF fun K29 k29=>aa (aA aB (aA (mU rfl rfl (by omega)) (aA aD (aC (k29 _ _ ?_))))));refine eZ rfl (aF fun K30 k30=>aa (aA aB ?_));simp only[zz];refine aA (fD rfl rfl (by omega)) (aA aD (aC (k30 _ _ ?_)));refine eZ rfl (ar (k14 _ _ ?_));refine aF fun K31 k31=>?_;simp only[zz];refine eP 5 [0,1,2,3] [⟨4,18,35,[.bool false,.string ⟨#[]⟩]⟩] aP (by kernel_rfl) (al1 ⟨_,_,_,rfl,by kernel_rfl,_,cL,rfl⟩) (ol:=?_) ?hol ?_
     case hol=>simp only[zw,zQ,zR];try rfl
     intro u e;replace m:=m.ext' e;clear e;refine eU rfl (fun u e=>(((m.ext' e).b 4 rfl).full aT aH)) ?_;simp only[zz];refine jE aB ?_;simp only[zz];refine eR rfl rfl (mE Iw.h) ?_;simp only[zz];refine eR rfl rfl (kY (a:=r.w) (b:=r.d.at k) Bw.up Bw.up) (qZ ?_);simp only[zz];refine mf1 m ?_;clear m;intro g12 u m;simp only[zJ,zK,zF,zG];refine aN m 0 rfl rfl rfl aH (bZ rfl) rfl ?_;clear m;intro u m;simp only[zy,zx,aW,zF,zG,ab] at m;refine aC (k31 _ _ ?_);refine aF fun K32 k32=>?_;refine eP 8 [0,1,2,3,4,5] [⟨6,19,37,[.bool false,.string ⟨#[]⟩,.bool false,.string ⟨#[]⟩]⟩,⟨7,20,37,[.bool false,.string ⟨#[]⟩,.bool false,.string ⟨#[]⟩]⟩] aP (by kernel_rfl) (al2 ⟨_,_,_,rfl,by kernel_rfl,_,cF,rfl⟩ ⟨_,_,_,rfl,by kernel_rfl,_,cF,rfl⟩) (ol:=?_) ?hol ?_
     case hol=>simp only[zw,zQ,zR];try rfl
     intro u e;replace m:=m.ext' e;clear e;refine eU rfl (fun u e=>(((m.ext' e).b 2 rfl).full aT aH)) ?_;simp only[zz];refine eU rfl (fun u e=>(((m.ext' e).b 0 rfl).full aT aH)) ?_;simp only[zz];refine eR rfl rfl (nI (n:=((r.to lo).at k)) (d:=r.w*(r.d.at k)) Bw.up Bw.up (Kn hok (by omega))) ?_;simp only[zz];refine eU rfl (fun u e=>(((m.ext' e).b 1 rfl).full aT aH)) ?_;simp only[zz];refine eU rfl (fun u e=>(((m.ext' e).b 0 rfl).full aT aH)) ?_;simp only[zz];refine eR rfl rfl (nI (n:=((r.to hi).at k)) (d:=r.w*(r.d.at k)) Bw.up Bw.up (Kn hok (by omega))) (qZ ?_);simp only[zz];refine mf2 m (by decide) ?_;clear m;intro g13 g14 u m;simp only[zJ,zK,zF,zG];refine aN m 1 rfl rfl rfl aK (bZ rfl) rfl ?_;clear m;intro u m;simp only[zy,zx,aW,zF,zG,ab] at m;refine aN m 0 rfl rfl rfl aK (bZ rfl) rfl ?_;clear m;intro u m;simp only[zy,zx,aW,zF,zG,ab] at m;refine aC (k32 _ _ ?_);refine aF fun K33 k33=>aF fun K34 k34=>aa (aI rfl ((m.b 1 rfl).full bF aK) ?_);simp only[zz];refine aI rfl ((m.b 10 rfl).full bF aK) ?_;simp only[zz];refine aX m rfl rfl (kU (p:=am ((r.to lo).at k) (r.w*(r.d.at k))) (q:=p) hbF hbp) ?_;clear m;intro u m;refine aA (gW rfl rfl) (aC (k34 _ _ ?_));simp only[zz];refine cW rfl (fun hc7=>?_) (fun hc7=>?_)
     ·
      have hmx:Av p (am ((r.to lo).at k) (r.w*(r.d.at k)))=am ((r.to lo).at k) (r.w*(r.d.at k)):=if_pos (nS.1 hc7)
      let pE:Rat:=am ((r.to lo).at k) (r.w*(r.d.at k))
      refine aa (aI rfl ((m.b 1 rfl).full bF aK) ?_);simp only[zz];refine aN m 10 rfl rfl rfl aK (bZ rfl) rfl ?_;clear m;intro u m;simp only[zy,zx,aW,zF,zG,ab] at m;refine aC (k33 _ _ ?_);refine aF fun K35 k35=>?_;rcases o with _ | q
      ·
       obtain rfl:bb=false:=hbb;simp only[Ey] at m;have hmn:sF none (am ((r.to hi).at k) (r.w*(r.d.at k)))=am ((r.to hi).at k) (r.w*(r.d.at k)):=rfl
       let oE:Option Rat:=some (am ((r.to hi).at k) (r.w*(r.d.at k)))
       refine aa (aA aB (aA (fM rfl) (aA aB (bK rfl ?_))));simp only[zz];refine bK rfl (bK rfl (bK rfl (aA (cT rfl) ?_)));simp only[zz];refine aC (k35 _ _ ?_);refine bX rfl (aa (aI rfl ((m.b 0 rfl).full bF aK) ?_));simp only[zz];refine aN m 9 rfl rfl rfl aK (bZ rfl) rfl ?_;clear m;intro u m;simp only[zy,zx,aW,zF,zG,ab] at m;refine aA aD (aC (k11 _ _ ?_));refine aa ?_;simp only[zz];refine aA (aZ rfl rfl (aO (by omega) (by omega))) (aA aB (aC ?_));simp only[zz];simp only[ac,af];refine⟨kM,_,?_,rfl,?_,?_⟩
       · exact hlt
       · simp only[zz,zv]
       ·
        simp only[zQ,zR,zD,zE];exact⟨kN,pE,oE,_,rfl,(m.sel [false,false,false,false,false,true,true,true,true,true,true,true,true,true]),by first | exact hgo | (rw[hmx,hmn] at hgo;exact hgo),by first | rfl | exact hbb,by first | exact hbF | exact hbp,by first | exact hbo | exact kC hbT,by show k+1≤3;omega,by show 2-k=3-(k+1);omega⟩
      ·
       obtain rfl:bb=true:=hbb;simp only[Ey] at m;refine aa (aA aB (aA (fM rfl) (aA aB (aR rfl ?_))));simp only[zz];refine aI rfl ((m.b 0 rfl).full bF aK) ?_;simp only[zz];refine aR rfl (aI rfl ((m.b 9 rfl).full bF aK) ?_);simp only[zz];refine aR rfl (aX m rfl rfl (kU (p:=am ((r.to hi).at k) (r.w*(r.d.at k))) (q:=q) hbT (hbo q rfl)) ?_);clear m;intro u m;refine aR rfl (aA (dZ rfl rfl) (aA (cV rfl) (aC (k35 _ _ ?_))));simp only[zz];refine cW rfl (fun hc8=>?_) (fun hc8=>?_)
       ·
        have hmn:sF (some q) (am ((r.to hi).at k) (r.w*(r.d.at k)))=am ((r.to hi).at k) (r.w*(r.d.at k)):=if_pos (gP.1 hc8)
        let oE:Option Rat:=some (am ((r.to hi).at k) (r.w*(r.d.at k)))
        refine aa (aI rfl ((m.b 0 rfl).full bF aK) ?_);simp only[zz];refine aN m 9 rfl rfl rfl aK (bZ rfl) rfl ?_;clear m;intro u m;simp only[zy,zx,aW,zF,zG,ab] at m;refine aA aD (aC (k11 _ _ ?_));refine aa ?_;simp only[zz];refine aA (aZ rfl rfl (aO (by omega) (by omega))) (aA aB (aC ?_));simp only[zz];simp only[ac,af];refine⟨kM,_,?_,rfl,?_,?_⟩
        · exact hlt
        · simp only[zz,zv]
        ·
         simp only[zQ,zR,zD,zE];exact⟨kN,pE,oE,_,rfl,(m.sel [false,false,false,false,false,true,true,true,true,true,true,true,true,true]),by first | exact hgo | (rw[hmx,hmn] at hgo;exact hgo),by first | rfl | exact hbb,by first | exact hbF | exact hbp,by first | exact hbo | exact kC hbT,by show k+1≤3;omega,by show 2-k=3-(k+1);omega⟩
       ·
        have hmn:sF (some q) (am ((r.to hi).at k) (r.w*(r.d.at k)))=q:=if_neg (mt gP.2 hc8)
        let oE:Option Rat:=some q
        refine ar (k11 _ _ ?_);refine aa (aA (aZ rfl rfl (aO (by omega) (by omega))) (aA aB (aC ?_)));simp only[zz];simp only[ac,af];refine⟨kM,_,?_,rfl,?_,?_⟩
        · exact hlt
        · simp only[zz,zv]
        ·
         simp only[zQ,zR,zD,zE];exact⟨kN,pE,oE,_,rfl,(m.sel [false,false,false,false,false,true,true,true,true,true,true,true,true,true]),by first | exact hgo | (rw[hmx,hmn] at hgo;exact hgo),by first | rfl | exact hbb,by first | exact hbF | exact hbp,by first | exact hbo | exact kC hbT,by show k+1≤3;omega,by show 2-k=3-(k+1);omega⟩
     ·
      have hmx:Av p (am ((r.to lo).at k) (r.w*(r.d.at k)))=p:=if_neg (mt nS.2 hc7)
      let pE:Rat:=p
      refine ar (k33 _ _ ?_);refine aF fun K36 k36=>?_;rcases o with _ | q
      ·
       obtain rfl:bb=false:=hbb;simp only[Ey] at m;have hmn:sF none (am ((r.to hi).at k) (r.w*(r.d.at k)))=am ((r.to hi).at k) (r.w*(r.d.at k)):=rfl
       let oE:Option Rat:=some (am ((r.to hi).at k) (r.w*(r.d.at k)))
       refine aa (aA aB (aA (fM rfl) (aA aB (bK rfl ?_))));simp only[zz];refine bK rfl (bK rfl (bK rfl (aA (cT rfl) ?_)));simp only[zz];refine aC (k36 _ _ ?_);refine bX rfl (aa (aI rfl ((m.b 0 rfl).full bF aK) ?_));simp only[zz];refine aN m 9 rfl rfl rfl aK (bZ rfl) rfl ?_;clear m;intro u m;simp only[zy,zx,aW,zF,zG,ab] at m;refine aA aD (aC (k11 _ _ ?_));refine aa ?_;simp only[zz];refine aA (aZ rfl rfl (aO (by omega) (by omega))) (aA aB (aC ?_));simp only[zz];simp only[ac,af];refine⟨kM,_,?_,rfl,?_,?_⟩
       · exact hlt
       · simp only[zz,zv]
       ·
        simp only[zQ,zR,zD,zE];exact⟨kN,pE,oE,_,rfl,(m.sel [false,false,false,false,false,true,true,true,true,true,true,true,true,true]),by first | exact hgo | (rw[hmx,hmn] at hgo;exact hgo),by first | rfl | exact hbb,by first | exact hbF | exact hbp,by first | exact hbo | exact kC hbT,by show k+1≤3;omega,by show 2-k=3-(k+1);omega⟩
      ·
       obtain rfl:bb=true:=hbb;simp only[Ey] at m;refine aa (aA aB (aA (fM rfl) (aA aB (aR rfl ?_))));simp only[zz];refine aI rfl ((m.b 0 rfl).full bF aK) ?_;simp only[zz];refine aR rfl (aI rfl ((m.b 9 rfl).full bF aK) ?_);simp only[zz];refine aR rfl (aX m rfl rfl (kU (p:=am ((r.to hi).at k) (r.w*(r.d.at k))) (q:=q) hbT (hbo q rfl)) ?_);clear m;intro u m;refine aR rfl (aA (dZ rfl rfl) (aA (cV rfl) (aC (k36 _ _ ?_))));simp only[zz];refine cW rfl (fun hc8=>?_) (fun hc8=>?_)
       ·
        have hmn:sF (some q) (am ((r.to hi).at k) (r.w*(r.d.at k)))=am ((r.to hi).at k) (r.w*(r.d.at k)):=if_pos (gP.1 hc8)
        let oE:Option Rat:=some (am ((r.to hi).at k) (r.w*(r.d.at k)))
        refine aa (aI rfl ((m.b 0 rfl).full bF aK) ?_);simp only[zz];refine aN m 9 rfl rfl rfl aK (bZ rfl) rfl ?_;clear m;intro u m;simp only[zy,zx,aW,zF,zG,ab] at m;refine aA aD (aC (k11 _ _ ?_));refine aa ?_;simp only[zz];refine aA (aZ rfl rfl (aO (by omega) (by omega))) (aA aB (aC ?_));simp only[zz];simp only[ac,af];refine⟨kM,_,?_,rfl,?_,?_⟩
        · exact hlt
        · simp only[zz,zv]
        ·
         simp only[zQ,zR,zD,zE];exact⟨kN,pE,oE,_,rfl,(m.sel [false,false,false,false,false,true,true,true,true,true,true,true,true,true]),by first | exact hgo | (rw[hmx,hmn] at hgo;exact hgo),by first | rfl | exact hbb,by first | exact hbF | exact hbp,by first | exact hbo | exact kC hbT,by show k+1≤3;omega,by show 2-k=3-(k+1);omega⟩
       ·
        have hmn:sF (some q) (am ((r.to hi).at k) (r.w*(r.d.at k)))=q:=if_neg (mt gP.2 hc8)
        let oE:Option Rat:=some q
        refine ar (k11 _ _ ?_);refine aa (aA (aZ rfl rfl (aO (by omega) (by omega))) (aA aB (aC ?_)));simp only[zz];simp only[ac,af];refine⟨kM,_,?_,rfl,?_,?_⟩
        · exact hlt
        · simp only[zz,zv]
        ·
         simp only[zQ,zR,zD,zE];exact⟨kN,pE,oE,_,rfl,(m.sel [false,false,false,false,false,true,true,true,true,true,true,true,true,true]),by first | exact hgo | (rw[hmx,hmn] at hgo;exact hgo),by first | rfl | exact hbb,by first | exact hbF | exact hbp,by first | exact hbo | exact kC hbT,by show k+1≤3;omega,by show 2-k=3-(k+1);omega⟩
   ·
    obtain rfl:k=3:=by omega
    obtain⟨q,hq⟩:=abg hok ha;have hq:o=some q:=hq;subst hq;simp only[Ey] at m;have hbx:=abh hok ha;refine bw (k7 _ _ ?_);refine aF fun K37 k37=>aF fun K38 k38=>aa (aI rfl ((m.b 5 rfl).full bF aK) ?_);simp only[zz];refine aI rfl ((m.b 4 rfl).full bF aK) ?_;simp only[zz];refine aX m rfl rfl (kU (p:=p) (q:=q) hbp (hbo q rfl)) ?_;clear m;intro u m;refine aA (gW rfl rfl) (aC (k38 _ _ ?_));simp only[zz];refine cW rfl (fun hc9=>?_) (fun hc9=>?_)
    ·
     rw[if_pos (nS.1 hc9)] at hbx;refine aF fun K39 k39=>aa (aX m rfl rfl gQ ?_);clear m;intro u m;simp only[zz];refine aX m rfl rfl gQ ?_;clear m;intro u m;simp only[zz];refine aN m 5 rfl rfl rfl aK (bZ rfl) rfl ?_;clear m;intro u m;simp only[zy,zx,aW,zF,zG,ab] at m;refine aN m 4 rfl rfl rfl aK (bZ rfl) rfl ?_;clear m;intro u m;simp only[zy,zx,aW,zF,zG,ab] at m;refine aA aD (aC (k39 _ _ ?_));refine bc ?_;simp only[zz];try simp only[ac,af,if_true]
     refine pX rfl ⟨_,rfl,((m.b 5 rfl).full bF aK)⟩ ⟨_,rfl,((m.b 4 rfl).full bF aK)⟩ rfl ?_;try simp only[zD,zE]
     exact⟨_,rfl,m.ext,by rw[hbx];rfl⟩
    ·
     rw[if_neg (mt nS.2 hc9)] at hbx;refine ar (k37 _ _ ?_);refine aF fun K40 k40=>?_;refine lG m [true,true,true,true,false,false,true,true,true] (.two 0 (.two 1 (.one 2 (.one 3 (.take 4 .nil))) 2 (.one 1 (.one 3 (.take 4 .nil)))) 1 (.one 0 (.one 2 (.one 3 (.take 4 .nil))))) aP (by kernel_rfl) (dJ (fun _ _ _ _ _ h=>h)) ?_;clear m;intro u m;refine iM (by simp only[zw];rfl) (by simp only[zw];rfl) ?_ ?_
     ·
      refine aI rfl ((m.b 5 rfl).full bF aK) ?_;simp only[zz];refine aC (⟨m.sel [true,true,true,true,false,false,true,true,true],?_⟩);refine iM (by simp only[zw];rfl) (by simp only[zw];rfl) ?_ ?_
      ·
       refine aI rfl ((m.b 4 rfl).full bF aK) ?_;simp only[zz];refine aC (⟨m.sel [true,true,true,true,false,false,true,true,true],?_⟩);refine bQ (by simp only[zw];rfl) ?_;refine aN m 5 rfl rfl rfl aK (bZ rfl) rfl ?_;clear m;intro u m;simp only[zy,zx,aW,zF,zG,ab] at m;refine aC (⟨m.sel [true,true,true,true,false,false,true,true,true],?_⟩);refine bQ (by simp only[zw];rfl) ?_;refine aN m 4 rfl rfl rfl aK (bZ rfl) rfl ?_;clear m;intro u m;simp only[zy,zx,aW,zF,zG,ab] at m;refine aC (⟨m.sel [true,true,true,true,false,false,true,true,true],?_⟩);refine aY (by simp only[zw];rfl) (bA aD (bB (eV (k40 _ _ ?_))));refine bc ?_;simp only[zz];try simp only[ac,af,if_true]
       refine pX rfl ⟨_,rfl,((m.b 5 rfl).full bF aK)⟩ ⟨_,rfl,((m.b 4 rfl).full bF aK)⟩ rfl ?_;try simp only[zD,zE]
       exact⟨_,rfl,m.ext,by rw[hbx];rfl⟩
      ·
       refine aN m 5 rfl rfl rfl aK (bZ rfl) rfl ?_;clear m;intro u m;simp only[zy,zx,aW,zF,zG,ab] at m;refine aC (⟨m.sel [true,true,true,true,false,false,true,true,true],?_⟩);refine bQ (by simp only[zw];rfl) ?_;refine aI rfl ((m.b 4 rfl).full bF aK) ?_;simp only[zz];refine aC (⟨m.sel [true,true,true,true,false,false,true,true,true],?_⟩);refine bQ (by simp only[zw];rfl) ?_;refine aN m 4 rfl rfl rfl aK (bZ rfl) rfl ?_;clear m;intro u m;simp only[zy,zx,aW,zF,zG,ab] at m;refine aC (⟨m.sel [true,true,true,true,false,false,true,true,true],?_⟩);refine aY (by simp only[zw];rfl) (bA aD (bB (eV (k40 _ _ ?_))));refine bc ?_;simp only[zz];try simp only[ac,af,if_true]
       refine pX rfl ⟨_,rfl,((m.b 5 rfl).full bF aK)⟩ ⟨_,rfl,((m.b 4 rfl).full bF aK)⟩ rfl ?_;try simp only[zD,zE]
       exact⟨_,rfl,m.ext,by rw[hbx];rfl⟩
     ·
      refine aI rfl ((m.b 4 rfl).full bF aK) ?_;simp only[zz];refine aC (⟨m.sel [true,true,true,true,false,false,true,true,true],?_⟩);refine bQ (by simp only[zw];rfl) ?_;refine aI rfl ((m.b 5 rfl).full bF aK) ?_;simp only[zz];refine aC (⟨m.sel [true,true,true,true,false,false,true,true,true],?_⟩);refine bQ (by simp only[zw];rfl) ?_;refine aN m 5 rfl rfl rfl aK (bZ rfl) rfl ?_;clear m;intro u m;simp only[zy,zx,aW,zF,zG,ab] at m;refine aC (⟨m.sel [true,true,true,true,false,false,true,true,true],?_⟩);refine bQ (by simp only[zw];rfl) ?_;refine aN m 4 rfl rfl rfl aK (bZ rfl) rfl ?_;clear m;intro u m;simp only[zy,zx,aW,zF,zG,ab] at m;refine aC (⟨m.sel [true,true,true,true,false,false,true,true,true],?_⟩);refine aY (by simp only[zw];rfl) (bA aD (bB (eV (k40 _ _ ?_))));refine bc ?_;simp only[zz];try simp only[ac,af,if_true]
      refine pX rfl ⟨_,rfl,((m.b 5 rfl).full bF aK)⟩ ⟨_,rfl,((m.b 4 rfl).full bF aK)⟩ rfl ?_;try simp only[zD,zE]
      exact⟨_,rfl,m.ext,by rw[hbx];rfl⟩
 ·
  have hbx:oK r lo hi=none:=if_neg hok;refine aa (aI rfl ((m.b 4 rfl).full fR dG) ?_);simp only[zz];refine aX m rfl rfl (Ew hok) ?_;clear m;intro u m;refine aA (fM rfl) (aC (k3 _ _ ?_));refine bX rfl (aF fun K41 k41=>aa ?_);simp only[zz];refine aX m rfl rfl gQ ?_;clear m;intro u m;simp only[zz];refine aX m rfl rfl gQ ?_;clear m;intro u m;simp only[zz];refine aN m 1 rfl rfl rfl aK (bZ rfl) rfl ?_;clear m;intro u m;simp only[zy,zx,aW,zF,zG,ab] at m;refine aN m 0 rfl rfl rfl aK (bZ rfl) rfl ?_;clear m;intro u m;simp only[zy,zx,aW,zF,zG,ab] at m;refine aA aD (aC (k41 _ _ ?_));refine bc ?_;simp only[zz];try simp only[ac,af,if_true]
  refine pX rfl ⟨_,rfl,((m.b 1 rfl).full bF aK)⟩ ⟨_,rfl,((m.b 0 rfl).full bF aK)⟩ rfl ?_;try simp only[zD,zE]
  exact⟨_,rfl,m.ext,by rw[hbx];rfl⟩
end Go.Proofs.YtimjandkmfcmiaaGreatDoor
namespace Go.Proofs.YtimjandkmfcmiaaGreatDoor
open Go.Proofs.Tryz
open Go.RowKit Go.Lith
set_option maxRecDepth 100000
attribute [local irreducible] bh ck eY eO eJ Code.wp
theorem ab6{p:P3}:yQ prog 150 [pt p] (.int .i64 p.x):=by
 intro w;refine⟨Vz,?_⟩;have m:=kX.refl w
 go_enter func150,ntmps150
 refine aF fun K1 k1=>aa (xF m rfl ?_);clear m;intro g1 u m;refine aA aD (aC (k1 _ _ ?_));refine aF fun K2 k2=>aa (aA (aG (c:=0) Aq rfl aM rfl rfl) ?_);simp only[zz];refine aI rfl ((m.b 0 rfl).lies1 aV rfl) ?_;simp only[zz];refine aA aD (aC (k2 _ _ ?_));refine bc ?_;simp only[zz];try simp only[ac,af,if_true]
 refine bY rfl rfl ?_;try simp only[zD,zE]
 exact⟨_,rfl,m.ext,rfl⟩
theorem ab7{p:P3}:yQ prog 151 [pt p] (.int .i64 p.y):=by
 intro w;refine⟨Wa,?_⟩;have m:=kX.refl w
 go_enter func151,ntmps151
 refine aF fun K1 k1=>aa (xF m rfl ?_);clear m;intro g1 u m;refine aA aD (aC (k1 _ _ ?_));refine aF fun K2 k2=>aa (aA (aG (c:=0) Aq rfl aM rfl rfl) ?_);simp only[zz];refine aI rfl ((m.b 0 rfl).lies1 aV rfl) ?_;simp only[zz];refine aA aD (aC (k2 _ _ ?_));refine bc ?_;simp only[zz];try simp only[ac,af,if_true]
 refine bY rfl rfl ?_;try simp only[zD,zE]
 exact⟨_,rfl,m.ext,rfl⟩
theorem ab8{p:P3}:yQ prog 152 [pt p] (.int .i64 p.z):=by
 intro w;refine⟨Wb,?_⟩;have m:=kX.refl w
 go_enter func152,ntmps152
 refine aF fun K1 k1=>aa (xF m rfl ?_);clear m;intro g1 u m;refine aA aD (aC (k1 _ _ ?_));refine aF fun K2 k2=>aa (aA (aG (c:=0) Aq rfl aM rfl rfl) ?_);simp only[zz];refine aI rfl ((m.b 0 rfl).lies1 aV rfl) ?_;simp only[zz];refine aA aD (aC (k2 _ _ ?_));refine bc ?_;simp only[zz];try simp only[ac,af,if_true]
 refine bY rfl rfl ?_;try simp only[zD,zE]
 exact⟨_,rfl,m.ext,rfl⟩
theorem abi  : yQ prog 137 [] (.agg #[.func (.func 150) #[] #[],.func (.func 151) #[] #[],.func (.func 152) #[] #[]]):=by
 intro w;refine⟨Vy,?_⟩;have m:=kX.refl w
 go_enter func137,ntmps137
 refine aF fun K1 k1=>aa (aaU m Dl rfl ?_);clear m;intro g1 u m;refine aC (k1 _ _ ?_);refine aF fun K2 k2=>aa (aA (rN rfl rfl rfl) ?_);simp only[zz];refine Ya m 0 rfl rfl rfl vS (bZ rfl) rfl ?_;clear m;intro u m;simp only[zy,zx,aW,zF,zG,ab] at m;refine aC (k2 _ _ ?_);refine bc ?_;try simp only[ac,af,if_true]
 refine bY rfl ⟨_,rfl,((m.b 0 rfl).full Rc vS)⟩ ?_;try simp only[zD,zE]
 exact⟨_,rfl,m.ext,rfl⟩
theorem Sa{p q:P3}:yQ prog 130 [pt p,pt q] (.bool (decide (p.Lt q))):=by
 intro w;refine⟨acK,?_⟩;have m:=kX.refl w
 go_enter func130,ntmps130
 refine aF fun K1 k1=>aa (xF m rfl ?_);clear m;intro g1 u m;simp only[zz];refine xF m rfl ?_;clear m;intro g2 u m;refine aA aD (aC (k1 _ _ ?_));refine aF fun K2 k2=>aF fun K3 k3=>aa ?_;simp only[zz];refine Kc m rfl rfl abi ?_;clear m;intro u m;refine aA aB (aC (k3 _ _ ?_));refine av (cz 4 (dT (aF fun K4 k4=>aa (aA (cD (m:=0) (n:=3) rfl rfl (by decide)) (aC (k4 _ _ ?_))))));refine aF fun K5 k5=>bX rfl (ar (k5 _ _ ?_));refine aF fun K6 k6=>av (aF fun K7 k7=>aa (aA (wO rfl rfl) ?_));simp only[zz];refine aA aD (aC (k7 _ _ ?_));refine aF fun K8 k8=>?_;simp only[zz];refine Gmq m aP (by kernel_rfl) (aQ aB ?_);simp only[zz];refine Gql rfl (fun u m=>((m.b 1 rfl).full bG aL)) ?_;simp only[zz];refine Ub rfl rfl ab6 (aQ aB ?_);simp only[zz];refine Gql rfl (fun u m=>((m.b 0 rfl).full bG aL)) ?_;simp only[zz];refine Ub rfl rfl ab6 (aQ aD (aQ aD (eD ?_)));clear m;intro u m;refine k8 _ _ ?_;refine aF fun K9 k9=>aa (aA aB ?_);simp only[zz];refine aA aB (aA (nZ rfl rfl) (aC (k9 _ _ ?_)));simp only[zz];refine cW rfl (fun hc2=>?_) (fun hc2=>?_)
 ·
  refine aF fun K10 k10=>aa (aA aB (aA aB (aA (dZ rfl rfl) (aA aD ?_))));simp only[zz];refine aC (k10 _ _ ?_);refine bc ?_;try simp only[ac,af,if_true]
  refine bY rfl rfl ?_;try simp only[zD,zE]
  exact⟨_,rfl,m.ext,by simp only[P3.lt_x hc2]⟩
 ·
  have ex:p.x=q.x:=by omega
  refine ar (k6 _ _ ?_);refine aa (aA (aZ (m:=0) (n:=1) (r:=1) rfl rfl (by decide)) (aA aB (aC (bD (aF fun K11 k11=>aa (aA (cD (m:=1) (n:=3) rfl rfl (by decide)) (aC (k11 _ _ ?_))))))));refine aF fun K12 k12=>bX rfl (ar (k12 _ _ ?_));refine aF fun K13 k13=>av (aF fun K14 k14=>aa (aA (wP rfl rfl) ?_));simp only[zz];refine aA aD (aC (k14 _ _ ?_));refine aF fun K15 k15=>?_;simp only[zz];refine Gmq m aP (by kernel_rfl) (aQ aB ?_);simp only[zz];refine Gql rfl (fun u m=>((m.b 1 rfl).full bG aL)) ?_;simp only[zz];refine Ub rfl rfl ab7 (aQ aB ?_);simp only[zz];refine Gql rfl (fun u m=>((m.b 0 rfl).full bG aL)) ?_;simp only[zz];refine Ub rfl rfl ab7 (aQ aD (aQ aD (eD ?_)));clear m;intro u m;refine k15 _ _ ?_;refine aF fun K16 k16=>aa (aA aB ?_);simp only[zz];refine aA aB (aA (nZ rfl rfl) (aC (k16 _ _ ?_)));simp only[zz];refine cW rfl (fun hc2=>?_) (fun hc2=>?_)
  ·
   refine aF fun K17 k17=>aa (aA aB (aA aB (aA (dZ rfl rfl) (aA aD ?_))));simp only[zz];refine aC (k17 _ _ ?_);refine bc ?_;try simp only[ac,af,if_true]
   refine bY rfl rfl ?_;try simp only[zD,zE]
   exact⟨_,rfl,m.ext,by simp only[P3.lt_y ex hc2]⟩
  ·
   have ey:p.y=q.y:=by omega
   refine ar (k13 _ _ ?_);refine aa (aA (aZ (m:=1) (n:=1) (r:=2) rfl rfl (by decide)) (aA aB (aC (bD (aF fun K18 k18=>aa (aA (cD (m:=2) (n:=3) rfl rfl (by decide)) (aC (k18 _ _ ?_))))))));refine aF fun K19 k19=>bX rfl (ar (k19 _ _ ?_));refine aF fun K20 k20=>av (aF fun K21 k21=>aa (aA (wQ rfl rfl) ?_));simp only[zz];refine aA aD (aC (k21 _ _ ?_));refine aF fun K22 k22=>?_;simp only[zz];refine Gmq m aP (by kernel_rfl) (aQ aB ?_);simp only[zz];refine Gql rfl (fun u m=>((m.b 1 rfl).full bG aL)) ?_;simp only[zz];refine Ub rfl rfl ab8 (aQ aB ?_);simp only[zz];refine Gql rfl (fun u m=>((m.b 0 rfl).full bG aL)) ?_;simp only[zz];refine Ub rfl rfl ab8 (aQ aD (aQ aD (eD ?_)));clear m;intro u m;refine k22 _ _ ?_;refine aF fun K23 k23=>aa (aA aB ?_);simp only[zz];refine aA aB (aA (nZ rfl rfl) (aC (k23 _ _ ?_)));simp only[zz];refine cW rfl (fun hc2=>?_) (fun hc2=>?_)
   ·
    refine aF fun K24 k24=>aa (aA aB (aA aB (aA (dZ rfl rfl) (aA aD ?_))));simp only[zz];refine aC (k24 _ _ ?_);refine bc ?_;try simp only[ac,af,if_true]
    refine bY rfl rfl ?_;try simp only[zD,zE]
    exact⟨_,rfl,m.ext,by simp only[P3.lt_z ex ey]⟩
   ·
    have ez:p.z=q.z:=by omega
    refine ar (k20 _ _ ?_);refine aa (aA (aZ (m:=2) (n:=1) (r:=3) rfl rfl (by decide)) (aA aB (aC (bD (aF fun K25 k25=>aa (aA (fD (m:=3) (n:=3) rfl rfl (by decide)) (aC (k25 _ _ ?_))))))));refine aF fun K26 k26=>eZ rfl (bw (k2 _ _ ?_));refine aF fun K27 k27=>aa (aA aD ?_);simp only[zz];refine aC (k27 _ _ ?_);refine bc ?_;try simp only[ac,af,if_true]
    refine bY rfl rfl ?_;try simp only[zD,zE]
    exact⟨_,rfl,m.ext,by rw[decide_eq_false (fun h=>by unfold P3.Lt at h;omega)]⟩
theorem abj{p q:P3}:yQ prog 102 [pt p,pt q] (.int .i64 (Ke p q)):=by
 intro w;refine⟨acl,?_⟩;have m:=kX.refl w
 go_enter func102,ntmps102
 refine aF fun K1 k1=>aa (xF m rfl ?_);clear m;intro g1 u m;simp only[zz];refine xF m rfl ?_;clear m;intro g2 u m;refine aA aD (aC (k1 _ _ ?_));refine aF fun K2 k2=>av (aF fun K3 k3=>aa ?_);simp only[zz];refine aI rfl ((m.b 1 rfl).full bG aL) ?_;simp only[zz];refine aI rfl ((m.b 0 rfl).full bG aL) ?_;simp only[zz];refine Kc m rfl rfl Sa ?_;clear m;intro u m;refine aA aD (aC (k3 _ _ ?_));simp only[zz];refine cW rfl (fun hc1=>?_) (fun hc1=>?_)
 ·
  refine aF fun K4 k4=>aa (aA aD (aC (k4 _ _ ?_)));refine bc ?_;simp only[zz];try simp only[ac,af,if_true]
  refine bY rfl rfl ?_;try simp only[zD,zE]
  exact⟨_,rfl,m.ext,by simp[Ke,hc1]⟩
 ·
  refine aF fun K5 k5=>aa (aI rfl ((m.b 0 rfl).full bG aL) ?_);simp only[zz];refine aI rfl ((m.b 1 rfl).full bG aL) ?_;simp only[zz];refine Kc m rfl rfl Sa ?_;clear m;intro u m;refine aA aD (aC (k5 _ _ ?_));simp only[zz];refine cW rfl (fun hc2=>?_) (fun hc2=>?_)
  ·
   refine aF fun K6 k6=>aa (aA aD (aC (k6 _ _ ?_)));refine bc ?_;simp only[zz];try simp only[ac,af,if_true]
   refine bY rfl rfl ?_;try simp only[zD,zE]
   exact⟨_,rfl,m.ext,by simp[Ke,hc1,hc2]⟩
  ·
   refine ar (k2 _ _ ?_);refine aF fun K7 k7=>aa (aA aD (aC (k7 _ _ ?_)));refine bc ?_;simp only[zz];try simp only[ac,af,if_true]
   refine bY rfl rfl ?_;try simp only[zD,zE]
   exact⟨_,rfl,m.ext,by simp[Ke,hc1,hc2]⟩
end Go.Proofs.YtimjandkmfcmiaaGreatDoor
namespace Go.Proofs
open Go.Shelf
def Tryz.sort129_ren:Go.Shelf.Ren:=⟨fun | 6=>129 | 15=>147 | 14=>146 | 28=>168 | 29=>149 | 20=>160 | 21=>161 | 22=>162 | 23=>163 | 24=>164 | 25=>165 | 26=>166 | 27=>167 | 46=>178 | 47=>179 | 48=>180 | 49=>181 | 50=>182 | 57=>185 | n=>n,fun | 22=>26 | 24=>56 | 25=>149 | 3=>3 | 39=>103 | 0=>0 | 53=>212 | 55=>101 | 4=>4 | 46=>206 | 45=>205 | 50=>126 | 5=>5 | 9=>9 | 66=>225 | 70=>229 | 76=>231 | 77=>184 | n=>n,fun | n=>n⟩
theorem Tryz.sort129:Go.Proofs.SlLaysF0.n6 Tryz.prog Tryz.sort129_ren:={
 mixed:=by kernel_rfl
 f6:=⟨Tryz.f129.name,by decide,Tryz.func129.trans (congrArg some (by kernel_rfl))⟩
 f14:=⟨Tryz.f146.name,by decide,Tryz.func146.trans (congrArg some (by kernel_rfl))⟩
 f15:=Tryz.func147.trans (congrArg some (by kernel_rfl))
 f20:=⟨Tryz.f160.name,by decide,Tryz.func160.trans (congrArg some (by kernel_rfl))⟩
 f21:=⟨Tryz.f161.name,by decide,Tryz.func161.trans (congrArg some (by kernel_rfl))⟩
 f22:=⟨Tryz.f162.name,by decide,Tryz.func162.trans (congrArg some (by kernel_rfl))⟩
 f23:=⟨Tryz.f163.name,by decide,Tryz.func163.trans (congrArg some (by kernel_rfl))⟩
 f24:=⟨Tryz.f164.name,by decide,Tryz.func164.trans (congrArg some (by kernel_rfl))⟩
 f25:=⟨Tryz.f165.name,by decide,Tryz.func165.trans (congrArg some (by kernel_rfl))⟩
 f26:=⟨Tryz.f166.name,by decide,Tryz.func166.trans (congrArg some (by kernel_rfl))⟩
 f27:=⟨Tryz.f167.name,by decide,Tryz.func167.trans (congrArg some (by kernel_rfl))⟩
 f28:=Tryz.func168.trans (congrArg some (by kernel_rfl))
 f29:=Tryz.func149.trans (congrArg some (by kernel_rfl))
 f46:=⟨Tryz.f178.name,by decide,Tryz.func178.trans (congrArg some (by kernel_rfl))⟩
 f47:=Tryz.func179.trans (congrArg some (by kernel_rfl))
 f48:=Tryz.func180.trans (congrArg some (by kernel_rfl))
 f49:=⟨Tryz.f181.name,by decide,Tryz.func181.trans (congrArg some (by kernel_rfl))⟩
 f50:=⟨Tryz.f182.name,by decide,Tryz.func182.trans (congrArg some (by kernel_rfl))⟩
 f57:=⟨Tryz.f185.name,by decide,Tryz.func185.trans (congrArg some (by kernel_rfl))⟩
 t0:=Tryz.underlying0
 a0:=Tryz.isAgg0
 z0:=Tryz.sizeOf0
 v0:=Tryz.zeroValue0
 t3:=Tryz.underlying3
 a3:=Tryz.isAgg3
 z3:=Tryz.sizeOf3
 v3:=Tryz.zeroValue3
 t4:=Tryz.underlying4
 a4:=Tryz.isAgg4
 z4:=Tryz.sizeOf4
 v4:=Tryz.zeroValue4
 t5:=Tryz.underlying5
 a5:=Tryz.isAgg5
 z5:=Tryz.sizeOf5
 v5:=Tryz.zeroValue5
 t9:=Tryz.underlying9
 a9:=Tryz.isAgg9
 z9:=Tryz.sizeOf9
 v9:=Tryz.zeroValue9
 t22:=Tryz.underlying26
 a22:=Tryz.isAgg26
 z22:=Tryz.sizeOf26
 v22:=Tryz.zeroValue26
 t25:=Tryz.underlying149
 a25:=Tryz.isAgg149
 z25:=Tryz.sizeOf149
 v25:=Tryz.zeroValue149
 t39:=Tryz.underlying103
 a39:=Tryz.isAgg103
 z39:=Tryz.sizeOf103
 v39:=Tryz.zeroValue103
 t45:=Tryz.underlying205
 a45:=Tryz.isAgg205
 z45:=Tryz.sizeOf205
 v45:=Tryz.zeroValue205
 t46:=Tryz.underlying206
 a46:=Tryz.isAgg206
 z46:=Tryz.sizeOf206
 v46:=Tryz.zeroValue206
 t50:=Tryz.underlying126
 a50:=Tryz.isAgg126
 z50:=Tryz.sizeOf126
 v50:=Tryz.zeroValue126
 t53:=Tryz.underlying212
 a53:=Tryz.isAgg212
 z53:=Tryz.sizeOf212
 v53:=Tryz.zeroValue212
 t55:=Tryz.underlying101
 a55:=Tryz.isAgg101
 z55:=Tryz.sizeOf101
 v55:=Tryz.zeroValue101
 t66:=Tryz.underlying225
 a66:=Tryz.isAgg225
 z66:=Tryz.sizeOf225
 v66:=Tryz.zeroValue225
 t70:=Tryz.underlying229
 a70:=Tryz.isAgg229
 z70:=Tryz.sizeOf229
 v70:=Tryz.zeroValue229
 t76:=Tryz.underlying231
 a76:=Tryz.isAgg231
 z76:=Tryz.sizeOf231
 v76:=Tryz.zeroValue231
 t77:=Tryz.underlying184
 a77:=Tryz.isAgg184
 z77:=Tryz.sizeOf184
 v77:=Tryz.zeroValue184 }
end Go.Proofs
namespace Go.Proofs.YtimjandkmfcmiaaGreatDoor
open Go.Proofs.Tryz
open Go.RowKit Go.Lith
set_option maxRecDepth 100000
attribute [local irreducible] bh ck eY eO eJ Code.wp
theorem ab9:Gl prog 56 pt:=by
 refine Gl.agg (cs:=fun p=>#[.int .i64 p.x,.int .i64 p.y,.int .i64 p.z]) (fun _=>rfl) bP (fun e p=>?_) (fun p q=>?_) (fun p=>?_)
 ·
  refine CkR.struct (d:=9999) bP fun f hf=>?_;simp only[bn,ga,or_false] at hf;rcases hf with rfl | rfl | rfl <;> exact⟨_,jB aV rfl,CkR.int (d:=9998) jR⟩
 · exact (adi 9998).iff ⟨fun h=>P3.eq h.1 h.2.1 h.2.2,fun h=>by subst h;exact⟨rfl,rfl,rfl⟩⟩
 · simp[pt,Instr.sameBits]
theorem Qd{w0 w:aw}{is:List It}{g c:Nat}{es:Array MapEntry}{D:List (P3 × Bool)}{p:P3}(m:cK w0 w is)(k:Nat)(hk:is[k]? = some (mI g es c))(hD1:lH pt fi D es c):Calls prog 100 [.map (some g),pt p].toArray w fun e w'=>∃v i,e=.returned v∧cK w0 w' (is.set k i)∧(v=.bool (!(vH D p).getD false)∧∃es' c',i=mI g es' c'∧lH pt fi (pA D p true) es' c'):=by
 go_enter func100,ntmps100
 refine aF fun K1 k1=>aa (cQ m rfl ?_);clear m;intro g1 u m;refine aA aD (aC (k1 _ _ ?_));refine aF fun K2 k2=>aF fun K3 k3=>aa (aA aB ?_);simp only[zz];refine aI rfl ((m.b 0 rfl).full bG aL) ?_;simp only[zz];refine uT (Yc (ek:=pt) (en:=fi) (k:=p) (v0:=false) underlying146 ac8 ab9 rfl rfl (m.p (k+1) hk) hD1) ?_;simp only[zz];refine aC (k3 _ _ ?_);refine Rt rfl (fun hc1=>?_) (fun hc1=>?_)
 ·
  refine aF fun K4 k4=>aa (aA aD (aC (k4 _ _ ?_)));refine bc ?_;simp only[zz];try simp only[ac,af,if_true]
  refine bY rfl rfl ?_;try simp only[zD,zE]
  exact⟨_,mI g es c,rfl,by rw[Yd hk];exact m.tl,by rw[hc1];rfl,es,c,rfl,by rw[Hq (by cases hq:vH D p with | none=>rw[hq] at hc1;cases hc1 | some x=>rw[hq] at hc1;exact congrArg some hc1)];exact hD1⟩
 ·
  refine ar (k2 _ _ ?_);refine aF fun K5 k5=>aa (aA aB ?_);simp only[zz];refine aI rfl ((m.b 0 rfl).full bG aL) ?_;simp only[zz];refine aaX (ek:=pt) (en:=fi) (a:=p) (v:=true) m (k+1) hk underlying146 ab9 rfl rfl rfl hD1 ?_;clear m;intro es1 c1 u m hD';clear hD1;have hD1:=hD';clear hD';simp only[zF,zG] at m;refine aC (k5 _ _ ?_);refine aF fun K6 k6=>aa (aA aD (aC (k6 _ _ ?_)));refine bc ?_;simp only[zz];try simp only[ac,af,if_true]
  refine bY rfl rfl ?_;try simp only[zD,zE]
  exact⟨_,_,rfl,m.tl,by rw[hc1];rfl,_,_,rfl,hD1⟩
theorem abk{w0 w:aw}{is:List It}{A:Option Addr}{n cap:Nat}{xs:List P3}(m:cK w0 w is)(k:Nat)(hi:is[k]? = some (oI 56 3 A n cap (xs.flatMap jI)))(hsz:n<4611686018427387904) :
 Calls prog 129 [.slice A n cap,.func (.func 102) #[] #[]].toArray w fun e w'=>∃v i,e=.returned v∧cK w0 w' (is.set k i)∧(v=.tuple #[]∧∃ys:List P3,i=oI 56 3 A n cap (ys.flatMap jI)∧ys.Perm xs∧ys.Pairwise fun a b=>ltOf Ke b a=false) :=
 Yf (enc:=jI) Tryz.sort129 (fun w=>xQ bG w) (fun w=>gB aL w) (fun _=>rfl) (by decide) Mt Ke Yg (fun x y=>abj) m k hi hsz
theorem Uq{g c:Nat}{es:Array MapEntry}{D:List (P3 × Bool)}(w:aw)(hM:sE w g es c)(hD:lH pt fi D es c)(hl:D.length≤1000000):gZ prog 101 [.map (some g),.func (.func 102) #[] #[]] w (OR 56 3 (fun xs=>∃ps:List P3,xs=ps.flatMap jI∧ps.Perm (D.map (·.1))∧ps.Pairwise fun a b=>¬b.Lt a) w):=by
 refine⟨ack,?_⟩;have m:=cK.refl w
 go_enter func101,ntmps101
 refine aF fun K1 k1=>aa (aA aD (aC (k1 _ _ ?_)));refine aF fun K2 k2=>aa (aA aD ?_);replace m:=m.nilO 56 3;refine aC (k2 _ _ ?_);refine aF fun K3 k3=>aF fun K4 k4=>aa (aA aB ?_);simp only[zz];refine adF m underlying146 rfl (hM.ext m.ext) ?_;clear m;intro r1 u m;refine aC (k4 _ _ ?_);refine av ?_;simp only[zz];try simp only[ah,ab,ag,ae]
 refine dI [5] [6,9,10,11,12,13,14,15,16] (fun n vs wl=>∃(dn rs:List (P3 × Bool)) (A1:Option Addr) (n1 cap1:Nat) (sn:Array Nat),vs=[.slice A1 n1 cap1]∧cK w wl [iI r1 g c sn,oI 56 3 A1 n1 cap1 ((dn.map (·.1)).flatMap jI)]∧(yR pt fi D es sn dn rs)∧(n1=dn.length)∧(n=rs.length)) ?_ ?_
 ·
  apply Exists.intro;simp only[zQ,zR,zD,zE];exact⟨[],D,none,0,0,#[],rfl,m,yR.start hD,rfl,rfl⟩
 ·
  intro n vs wr hI u;clear m;obtain⟨dn,rs,A1,n1,cap1,sn,rfl,m,hT,hn1,hn⟩:=hI;have hlen:=hT.len;simp only[zu,zF,zG];refine aF fun K5 k5=>aa (afP m 0 rfl rfl (hM.ext m.ext) hD hT ?_);clear m;intro bb kk vv sn u m hN;simp only[zF,zG] at m;refine aA (aaY rfl) (aC (k5 _ _ ?_));refine aF fun K6 k6=>?_;simp only[zz];refine Rt rfl (fun hc1=>?_) (fun hc1=>?_)
  ·
   obtain⟨kp,kb,rs2,hp,hT2⟩:=afR hc1 hN;refine ar (k6 _ _ ?_);refine av (aF fun K7 k7=>aa (uT (aaZ rfl (m.r 0 rfl) (hM.ext m.ext) hD hT2) ?_));simp only[zz];refine aA (aU rfl rfl) ?_;simp only[zz];refine bE m eL rfl ?_;clear m;intro g2 u m;simp only[zz];refine aN m 0 rfl rfl rfl aL (bZ rfl) rfl ?_;clear m;intro u m;simp only[zy,zx,aW,zF,zG,ab] at m;refine aC (k7 _ _ ?_);refine aa (aA aB ?_);simp only[zz];refine aI rfl ((m.b 0 rfl).full bG aL) ?_;simp only[zz];refine Tx rfl ?_;intro u g3 e hg hB;replace m:=m.newB e hg hB;clear e hg hB;simp only[zz];refine eM m 3 rfl rfl oA ada rfl (by decide) rfl rfl rfl (m.b 0 rfl).rowsO (lY rfl) (by omega) (by omega) ?_;clear m;intro A1 cap1 u m;simp only[zF,zG] at m;refine aA aD (aC ?_);simp only[zz];simp only[ac,af];refine⟨rs2.length,_,?_,rfl,?_,?_⟩
   · rw[hn,hp.length_eq];exact mc _
   · simp only[zz,zv]
   ·
    simp only[zQ,zR,zD,zE];exact⟨dn++[(kp,kb)],rs2,_,_,_,_,rfl,((m.reO 3 rfl ((m.o 3 rfl).as (by simp[jI]))).sel [false,false,true,true]),hT2,by simp[hn1],rfl⟩
  ·
   obtain rfl:=afQ hc1 hN;refine bw (k3 _ _ ?_);refine aF fun K8 k8=>aa (aA aB (aA aB ?_));simp only[zz];refine Kg m 1 acJ rfl rfl (fun m=>abk m 1 rfl (by omega)) ?_;clear m;rintro v i u m ⟨rfl,ys,rfl,hys,hso⟩;simp only[zF,zG] at m;refine aC (k8 _ _ ?_);refine aF fun K9 k9=>aa (aA aB (aA aD (aC (k9 _ _ ?_))));refine bc ?_;simp only[zz];try simp only[ac,af,if_true]
   refine bY rfl rfl ?_;try simp only[zD,zE]
   exact⟨_,rfl,m.ext,_,_,_,_,rfl,(m.o 1 rfl),_,rfl,hys.trans (hT.done.map _),hso.imp fun h=>by simpa[ltOf,yS] using h⟩
end Go.Proofs.YtimjandkmfcmiaaGreatDoor
namespace Go.Lith
open Go.RowKit
def T3.cor(t:T3)(c:Nat):P3:=if c=0 then t.a else if c=1 then t.b else t.c
def T3.setC(t:T3)(c:Nat)(p:P3):T3:=if c=0 then ⟨p,t.b,t.c⟩ else if c=1 then ⟨t.a,p,t.c⟩ else ⟨t.a,t.b,p⟩
theorem agh{t:T3}{c:Nat}{p:P3}(hc:c<3):aW (cX t) (c*3) [.int .i64 p.x,.int .i64 p.y,.int .i64 p.z]=cX (t.setC c p):=by
 have:c=0∨c=1∨c=2:=by omega
 rcases this with rfl | rfl | rfl <;> rfl
section
variable {w0 w:aw} {S:List (Option Nat)} {E:be} {n cap:Nat} {A:Option Addr} {ts:List T3}
theorem qN.cor{a:Addr}{t:T3}{c:Nat}(h:qN w a (cX t))(hc:c<3):qN w (a.add (c*3)) [.int .i64 (t.cor c).x,.int .i64 (t.cor c).y,.int .i64 (t.cor c).z]:=by
 have:=(h.sub (c*3)).take 3;have e:c=0∨c=1∨c=2:=by omega
 rcases e with rfl | rfl | rfl <;> exact this
theorem abl{a b:Nat}:(if (b:Int)<(a:Int) then (b:Int) else (a:Int))=((min a b:Nat):Int):=by
 split <;> omega
end
end Go.Lith
namespace Go.Proofs.YtimjandkmfcmiaaGreatDoor
open Go.Proofs.Tryz
open Go.RowKit Go.Lith
set_option maxRecDepth 100000
attribute [local irreducible] bh ck eY eO eJ Code.wp
theorem Qe{ts:List T3}{N cap:Nat}{A:Option Addr}(w:aw)(hT:dX w A N ts)(hN:N≤300000):gZ prog 61 [.slice A N cap] w (OR 56 3 (fun xs=>∃ps:List P3,xs=ps.flatMap jI∧Yi ps∧∀a,a∈ps↔a∈fK ts) w):=by
 refine⟨aeZ,?_⟩;have m:=cK.refl w
 go_enter func61,ntmps61
 refine aF fun K1 k1=>aa (aA aD (aC (k1 _ _ ?_)));refine aF fun K2 k2=>aa ?_;simp only[zz];refine Yb m ?_;clear m;intro q8 u m;have hD8:=lH.nil (K:=P3) (V:=Bool) pt fi;refine aA aD (aC (k2 _ _ ?_));refine aF fun K3 k3=>aF fun K4 k4=>aa (aA aB (aA (bR rfl iW rfl) ?_));simp only[zz];refine aA aB (aC (k4 _ _ ?_));refine av ?_;simp only[zz];try simp only[ah,ab,ag,ae]
 refine dI [11] [5,7,12,13,14,15,16,17,18,19,20,21,22,23] (fun n vs wl=>∃(k:Nat) (es:Array MapEntry) (c:Nat),vs=[.int .i64 (k:Int)]∧cK w wl [mI q8 es c]∧(lH pt fi (vI [] (fK (ts.take k))) es c)∧(k≤N)∧(n=N-k)) ?_ ?_
 ·
  apply Exists.intro;simp only[zQ,zR,zD,zE];exact⟨0,_,_,rfl,m,hD8,cd _,rfl⟩
 ·
  intro n vs wr hI u;clear m;obtain⟨k,es,c,rfl,m,hD8,hk,hn⟩:=hI;simp only[zu,zF,zG];refine aF fun K5 k5=>aa (aA (dZ rfl rfl) (aC (k5 _ _ ?_)));refine aF fun K6 k6=>?_;simp only[zz];refine cW rfl (fun hc1=>?_) (fun hc1=>?_)
  ·
   obtain⟨t,ht,_,a,rfl,hrow⟩:=hT.get (i:=k) (by omega);refine ar (k6 _ _ ?_);refine aF fun K7 k7=>av (aF fun K8 k8=>aa (aA (aS iW eW rfl rfl (by omega) (by omega) (sR (an _))) ?_));simp only[zz];refine aI rfl (((hrow.ext m.ext)).lies mW eW) ?_;simp only[zz];refine bE m Cj rfl ?_;clear m;intro g2 u m;simp only[zz];refine aN m 0 rfl rfl rfl eW (bZ rfl) rfl ?_;clear m;intro u m;simp only[zy,zx,aW,zF,zG,ab] at m;refine aC (k8 _ _ ?_);refine aF fun K9 k9=>aa (aI rfl ((m.b 0 rfl).full mW eW) ?_);simp only[zz];refine aA aB (aC (k9 _ _ ?_));refine av (cz 4 (dT (aF fun K10 k10=>aa (aA (cD (m:=0) (n:=3) rfl rfl (by decide)) (aC (k10 _ _ ?_))))));refine aF fun K11 k11=>bX rfl (ar (k11 _ _ ?_));refine aF fun K12 k12=>av (aF fun K13 k13=>aa (aA (yJ rfl rfl) ?_));simp only[zz];refine bE m eL rfl ?_;clear m;intro g3 u m;simp only[zz];refine aN m 0 rfl rfl rfl aL (bZ rfl) rfl ?_;clear m;intro u m;simp only[zy,zx,aW,zF,zG,ab] at m;refine aC (k13 _ _ ?_);refine aa (aA aB ?_);simp only[zz];refine aI rfl ((m.b 0 rfl).full bG aL) ?_;simp only[zz];refine Kg m 2 Om rfl rfl (fun m=>Qd (p:=t.a) m 2 rfl hD8) ?_;clear m;rintro v i u m ⟨rfl,es',c',rfl,hD'⟩;simp only[zF,zG] at m;simp only[zz];clear hD8;have hD8:=hD';clear hD';refine aC (k12 _ _ ?_);refine aa (aA (aZ (m:=0) (n:=1) (r:=1) rfl rfl (by decide)) (aA aB (aC (bD (aF fun K14 k14=>aa (aA (cD (m:=1) (n:=3) rfl rfl (by decide)) (aC (k14 _ _ ?_))))))));refine aF fun K15 k15=>bX rfl (ar (k15 _ _ ?_));refine aF fun K16 k16=>av (aF fun K17 k17=>aa (aA (yK rfl rfl) ?_));simp only[zz];refine bE m eL rfl ?_;clear m;intro g4 u m;simp only[zz];refine aN m 0 rfl rfl rfl aL (bZ rfl) rfl ?_;clear m;intro u m;simp only[zy,zx,aW,zF,zG,ab] at m;refine aC (k17 _ _ ?_);refine aa (aA aB ?_);simp only[zz];refine aI rfl ((m.b 0 rfl).full bG aL) ?_;simp only[zz];refine Kg m 3 Om rfl rfl (fun m=>Qd (p:=t.b) m 3 rfl hD8) ?_;clear m;rintro v i u m ⟨rfl,es',c',rfl,hD'⟩;simp only[zF,zG] at m;simp only[zz];clear hD8;have hD8:=hD';clear hD';refine aC (k16 _ _ ?_);refine aa (aA (aZ (m:=1) (n:=1) (r:=2) rfl rfl (by decide)) (aA aB (aC (bD (aF fun K18 k18=>aa (aA (cD (m:=2) (n:=3) rfl rfl (by decide)) (aC (k18 _ _ ?_))))))));refine aF fun K19 k19=>bX rfl (ar (k19 _ _ ?_));refine aF fun K20 k20=>av (aF fun K21 k21=>aa (aA (yL rfl rfl) ?_));simp only[zz];refine bE m eL rfl ?_;clear m;intro g5 u m;simp only[zz];refine aN m 0 rfl rfl rfl aL (bZ rfl) rfl ?_;clear m;intro u m;simp only[zy,zx,aW,zF,zG,ab] at m;refine aC (k21 _ _ ?_);refine aa (aA aB ?_);simp only[zz];refine aI rfl ((m.b 0 rfl).full bG aL) ?_;simp only[zz];refine Kg m 4 Om rfl rfl (fun m=>Qd (p:=t.c) m 4 rfl hD8) ?_;clear m;rintro v i u m ⟨rfl,es',c',rfl,hD'⟩;simp only[zF,zG] at m;simp only[zz];clear hD8;have hD8:=hD';clear hD';refine aC (k20 _ _ ?_);refine aa (aA (aZ (m:=2) (n:=1) (r:=3) rfl rfl (by decide)) (aA aB (aC (bD (aF fun K22 k22=>aa (aA (fD (m:=3) (n:=3) rfl rfl (by decide)) (aC (k22 _ _ ?_))))))));refine aF fun K23 k23=>eZ rfl (bw (k7 _ _ ?_));refine aa ?_;simp only[zz];refine aA (aZ rfl rfl (aO (by omega) (by omega))) (aA aB (aC ?_));simp only[zz];simp only[ac,af];refine⟨N-(k+1),_,?_,rfl,?_,?_⟩
   · omega
   · simp only[zz,zv]
   ·
    simp only[zQ,zR,zD,zE];exact⟨k+1,_,_,rfl,(m.sel [false,false,false,false,true]),by rw[Pw ht];exact hD8,by omega,rfl⟩
  ·
   have hkN:k=N:=by omega
   rw[hkN,show ts.take N=ts from bp (by rw[hT.len];exact bi _)] at hD8;refine bw (k3 _ _ ?_);refine aF fun K24 k24=>aa (aA aB ?_);simp only[zz];refine bT rfl rfl (Uq _ (m.p 0 rfl) hD8 (by have h1:=yT (fK ts) [];have h2:=Kk ts;have h3:=hT.len;simp only[eu] at h1;omega)) ?_;rintro v u e ⟨A9,n9,cap9,_,rfl,hN,ps,rfl,hps,hso⟩;replace m:=m.newO e hN;clear e hN;refine aA aD (aC (k24 _ _ ?_));refine bc ?_;simp only[zz];try simp only[ac,af,if_true]
   refine bY rfl rfl ?_;try simp only[zD,zE]
   exact⟨_,rfl,m.ext,_,_,_,_,rfl,(m.o 0 rfl),ps,rfl,Ui (hps.nodup_iff.2 (By _ _ .nil)) hso,fun a=>by rw[hps.mem_iff,Hr];simp⟩
theorem afZ{ts:List T3}{N cap:Nat}{A:Option Addr}(w:aw)(hT:dX w A N ts)(hN:N≤300000):gZ prog 41 [.slice A N cap] w (fun v _=>v=.tuple #[pt (wG (fK ts)),pt (wH (fK ts)),.bool (decide ((0:Int)<(N:Int)))]):=by
 refine⟨aeF,?_⟩;have m:=cK.refl w
 go_enter func41,ntmps41
 refine aF fun K1 k1=>aa (bE m eL rfl ?_);clear m;intro g1 u m;simp only[zz];refine bE m eL rfl ?_;clear m;intro g2 u m;refine aA aD (aC (k1 _ _ ?_));refine aF fun K2 k2=>aF fun K3 k3=>aa (aA aB ?_);simp only[zz];refine bT rfl rfl (Qe _ (hT.ext m.ext) hN) ?_;rintro v u e ⟨A8,n8,cap8,_,rfl,hN,ps,rfl,hso,hmem⟩;replace m:=m.newO e hN;clear e hN;obtain rfl:ps.length=n8:=by have:=(m.o 0 rfl).own.1;rw[adI] at this;omega
 refine aA (bR rfl oA rfl) (aA aB (aC (k3 _ _ ?_)));refine av ?_;simp only[zz];try simp only[ah,ab,ag,ae]
 refine dI [10] [5,6,11,12,13,14,15,16,17,18,19,20,21,22,23,24,25,26,27,28,29,30,31,32,33,34,35,36,37,38,39,40,41,42,43,44,45,46,47,48,49,50,51] (fun n vs wl=>∃(k:Nat),vs=[.int .i64 (k:Int)]∧cK w wl [oI 56 3 A8 ps.length cap8 (ps.flatMap jI),bI g2 [.int .i64 (wH (ps.take k)).x,.int .i64 (wH (ps.take k)).y,.int .i64 (wH (ps.take k)).z] 56,bI g1 [.int .i64 (wG (ps.take k)).x,.int .i64 (wG (ps.take k)).y,.int .i64 (wG (ps.take k)).z] 56]∧(k≤ps.length)∧(n=ps.length-k)) ?_ ?_
 ·
  apply Exists.intro;simp only[zQ,zR,zD,zE];exact⟨0,rfl,m,cd _,rfl⟩
 ·
  intro n vs wr hI u;clear m;obtain⟨k,rfl,m,hk,hn⟩:=hI;simp only[zu,zF,zG];refine aF fun K4 k4=>aa (aA (dZ rfl rfl) (aC (k4 _ _ ?_)));refine aF fun K5 k5=>?_;simp only[zz];refine cW rfl (fun hc1=>?_) (fun hc1=>?_)
  ·
   have hle8:ps.length≤9223372036854775807:=ak (m.o 0 rfl).le (m.o 0 rfl).max;obtain⟨p,hp⟩:∃p,ps[k]? = some p:=⟨_,ao (by omega)⟩
   obtain⟨gO,rfl⟩:=(m.o 0 rfl).some (by omega);refine ar (k5 _ _ ?_);refine aF fun K6 k6=>av (aF fun K7 k7=>aa (aA aB ?_));simp only[zz];refine aA (aS oA aL rfl rfl (by omega) (by omega) (sR (an _))) ?_;simp only[zz];refine aI rfl (((m.o 0 rfl).pt hp).lies bG aL) ?_;simp only[zz];refine bE m eL rfl ?_;clear m;intro g3 u m;refine aA aD ?_;simp only[zz];refine aN m 0 rfl rfl rfl aL (bZ rfl) rfl ?_;clear m;intro u m;simp only[zy,zx,aW,zF,zG,ab] at m;refine aC (k7 _ _ ?_);refine aF fun K8 k8=>aF fun K9 k9=>aa (aA aB (aA (mF rfl rfl) (aC (k9 _ _ ?_))));simp only[zz];refine cW rfl (fun hc2=>?_) (fun hc2=>?_)
   ·
    refine mh m [true,true,false,false] [(0,true),(1,true),(2,false),(3,false)] aP (by kernel_rfl) (dJ (fun _ _ _ _ _ h=>h)) (ol:=?_) ?hol ?_
    case hol=>simp only[zw,zQ,zR];try rfl
    clear m;intro u m;refine cO rfl (fun u m=>((m.b 0 rfl).full bG aL)) ?_;simp only[zz];refine cO rfl (fun u m=>((m.b 0 rfl).full bG aL)) ?_;simp only[zz];refine dM (aN m 3 rfl rfl rfl aL (bZ rfl) rfl ?_);clear m;intro u m;simp only[zy,zx,aW,zF,zG,ab] at m;refine aC (⟨m.sel [true,true,false,false],?_⟩);refine dM (aN m 2 rfl rfl rfl aL (bZ rfl) rfl ?_);clear m;intro u m;simp only[zy,zx,aW,zF,zG,ab] at m;refine aC (⟨m.sel [true,true,false,false],?_⟩);refine bB (k8 _ _ ?_);refine aF fun K10 k10=>aa (aA (aG (c:=0) bP rfl aM rfl rfl) ?_);simp only[zz];refine aI rfl ((m.b 3 rfl).lies1 aV rfl) ?_;simp only[zz];refine aA (aG (c:=0) bP rfl aM rfl rfl) ?_;simp only[zz];refine aI rfl ((m.b 0 rfl).lies1 aV rfl) ?_;simp only[zz];refine aA (oT rfl rfl rfl) (aA (aG (c:=0) bP rfl aM rfl rfl) ?_);simp only[zz];refine aI rfl ((m.b 3 rfl).lies1 aV rfl) ?_;simp only[zz];refine aA (aG (c:=0) bP rfl aM rfl rfl) ?_;simp only[zz];refine aI rfl ((m.b 0 rfl).lies1 aV rfl) ?_;simp only[zz];refine aA (oT rfl rfl rfl) (aA (aG (c:=0) bP rfl aM rfl rfl) ?_);simp only[zz];refine aI rfl ((m.b 3 rfl).lies1 aV rfl) ?_;simp only[zz];refine aA (aG (c:=0) bP rfl aM rfl rfl) ?_;simp only[zz];refine aI rfl ((m.b 0 rfl).lies1 aV rfl) ?_;simp only[zz];refine aA (oT rfl rfl rfl) (aA (bV rfl rfl rfl) ?_);simp only[zz];refine aN m 3 rfl rfl rfl aL (bZ rfl) rfl ?_;clear m;intro u m;simp only[zy,zx,aW,zF,zG,ab] at m;refine aC (k10 _ _ ?_);refine aa (aA (aG (c:=0) bP rfl aM rfl rfl) ?_);simp only[zz];refine aI rfl ((m.b 2 rfl).lies1 aV rfl) ?_;simp only[zz];refine aA (aG (c:=0) bP rfl aM rfl rfl) ?_;simp only[zz];refine aI rfl ((m.b 0 rfl).lies1 aV rfl) ?_;simp only[zz];refine aA (kL rfl rfl rfl) (aA (aG (c:=0) bP rfl aM rfl rfl) ?_);simp only[zz];refine aI rfl ((m.b 2 rfl).lies1 aV rfl) ?_;simp only[zz];refine aA (aG (c:=0) bP rfl aM rfl rfl) ?_;simp only[zz];refine aI rfl ((m.b 0 rfl).lies1 aV rfl) ?_;simp only[zz];refine aA (kL rfl rfl rfl) (aA (aG (c:=0) bP rfl aM rfl rfl) ?_);simp only[zz];refine aI rfl ((m.b 2 rfl).lies1 aV rfl) ?_;simp only[zz];refine aA (aG (c:=0) bP rfl aM rfl rfl) ?_;simp only[zz];refine aI rfl ((m.b 0 rfl).lies1 aV rfl) ?_;simp only[zz];refine aA (kL rfl rfl rfl) (aA (bV rfl rfl rfl) ?_);simp only[zz];refine aN m 2 rfl rfl rfl aL (bZ rfl) rfl ?_;clear m;intro u m;simp only[zy,zx,aW,zF,zG,ab] at m;refine aC (k6 _ _ ?_);refine aa (aA (aZ rfl rfl (aO (by omega) (by omega))) (aA aB (aC ?_)));simp only[zz];simp only[ac,af];refine⟨ps.length-(k+1),_,?_,rfl,?_,?_⟩
    · omega
    · simp only[zz,zv]
    ·
     simp only[zQ,zR,zD,zE];exact⟨k+1,rfl,(((m.re 3 rfl (by rw[Yx (by omega) hp];exact (m.b 3 rfl))).re 2 rfl (by rw[Yy (by omega) hp];exact (m.b 2 rfl))).sel [false,true,true,true]),by omega,rfl⟩
   ·
    have hk0:0<k:=by omega
    refine ar (k8 _ _ ?_);refine aF fun K11 k11=>aa (aA (aG (c:=0) bP rfl aM rfl rfl) ?_);simp only[zz];refine aI rfl ((m.b 3 rfl).lies1 aV rfl) ?_;simp only[zz];refine aA (aG (c:=0) bP rfl aM rfl rfl) ?_;simp only[zz];refine aI rfl ((m.b 0 rfl).lies1 aV rfl) ?_;simp only[zz];refine aA (oT rfl rfl rfl) (aA (aG (c:=0) bP rfl aM rfl rfl) ?_);simp only[zz];refine aI rfl ((m.b 3 rfl).lies1 aV rfl) ?_;simp only[zz];refine aA (aG (c:=0) bP rfl aM rfl rfl) ?_;simp only[zz];refine aI rfl ((m.b 0 rfl).lies1 aV rfl) ?_;simp only[zz];refine aA (oT rfl rfl rfl) (aA (aG (c:=0) bP rfl aM rfl rfl) ?_);simp only[zz];refine aI rfl ((m.b 3 rfl).lies1 aV rfl) ?_;simp only[zz];refine aA (aG (c:=0) bP rfl aM rfl rfl) ?_;simp only[zz];refine aI rfl ((m.b 0 rfl).lies1 aV rfl) ?_;simp only[zz];refine aA (oT rfl rfl rfl) (aA (bV rfl rfl rfl) ?_);simp only[zz];refine aN m 3 rfl rfl rfl aL (bZ rfl) rfl ?_;clear m;intro u m;simp only[zy,zx,aW,zF,zG,ab] at m;refine aC (k11 _ _ ?_);refine aa (aA (aG (c:=0) bP rfl aM rfl rfl) ?_);simp only[zz];refine aI rfl ((m.b 2 rfl).lies1 aV rfl) ?_;simp only[zz];refine aA (aG (c:=0) bP rfl aM rfl rfl) ?_;simp only[zz];refine aI rfl ((m.b 0 rfl).lies1 aV rfl) ?_;simp only[zz];refine aA (kL rfl rfl rfl) (aA (aG (c:=0) bP rfl aM rfl rfl) ?_);simp only[zz];refine aI rfl ((m.b 2 rfl).lies1 aV rfl) ?_;simp only[zz];refine aA (aG (c:=0) bP rfl aM rfl rfl) ?_;simp only[zz];refine aI rfl ((m.b 0 rfl).lies1 aV rfl) ?_;simp only[zz];refine aA (kL rfl rfl rfl) (aA (aG (c:=0) bP rfl aM rfl rfl) ?_);simp only[zz];refine aI rfl ((m.b 2 rfl).lies1 aV rfl) ?_;simp only[zz];refine aA (aG (c:=0) bP rfl aM rfl rfl) ?_;simp only[zz];refine aI rfl ((m.b 0 rfl).lies1 aV rfl) ?_;simp only[zz];refine aA (kL rfl rfl rfl) (aA (bV rfl rfl rfl) ?_);simp only[zz];refine aN m 2 rfl rfl rfl aL (bZ rfl) rfl ?_;clear m;intro u m;simp only[zy,zx,aW,zF,zG,ab] at m;refine aC (k6 _ _ ?_);refine aa (aA (aZ rfl rfl (aO (by omega) (by omega))) (aA aB (aC ?_)));simp only[zz];simp only[ac,af];refine⟨ps.length-(k+1),_,?_,rfl,?_,?_⟩
    · omega
    · simp only[zz,zv]
    ·
     simp only[zQ,zR,zD,zE];exact⟨k+1,rfl,(((m.re 3 rfl (by rw[Yv hp hk0];exact (m.b 3 rfl))).re 2 rfl (by rw[Yw hp hk0];exact (m.b 2 rfl))).sel [false,true,true,true]),by omega,rfl⟩
  ·
   have hkN:k=ps.length:=by omega
   rw[hkN,c_] at m;refine bw (k2 _ _ ?_);refine aF fun K12 k12=>?_;refine lG m [true,false,false] (.take 2 (.take 3 (.take 4 (.two 0 (.two 1 (.one 5 (.one 6 (.take 7 .nil))) 5 (.one 1 (.one 6 (.take 7 .nil)))) 1 (.one 0 (.one 5 (.one 6 (.take 7 .nil)))))))) aP (by kernel_rfl) (dJ (fun _ _ _ _ _ h=>h)) ?_;clear m;intro u m;refine aY (by simp only[zw];rfl) (bA aB (bB (aY (by simp only[zw];rfl) (bA (bR rfl iW rfl) (bB (aY (by simp only[zw];rfl) (bA (gW rfl rfl) (bB ?_))))))));simp only[zz];refine iM (by simp only[zw];rfl) (by simp only[zw];rfl) ?_ ?_
   ·
    refine aI rfl ((m.b 2 rfl).full bG aL) ?_;simp only[zz];refine aC (⟨m.sel [true,false,false],?_⟩);refine iM (by simp only[zw];rfl) (by simp only[zw];rfl) ?_ ?_
    ·
     refine aI rfl ((m.b 1 rfl).full bG aL) ?_;simp only[zz];refine aC (⟨m.sel [true,false,false],?_⟩);refine bQ (by simp only[zw];rfl) ?_;refine aN m 2 rfl rfl rfl aL (bZ rfl) rfl ?_;clear m;intro u m;simp only[zy,zx,aW,zF,zG,ab] at m;refine aC (⟨m.sel [true,false,false],?_⟩);refine bQ (by simp only[zw];rfl) ?_;refine aN m 1 rfl rfl rfl aL (bZ rfl) rfl ?_;clear m;intro u m;simp only[zy,zx,aW,zF,zG,ab] at m;refine aC (⟨m.sel [true,false,false],?_⟩);refine aY (by simp only[zw];rfl) (bA aD (bB (eV (k12 _ _ ?_))));refine bc ?_;simp only[zz];try simp only[ac,af,if_true]
     refine pX rfl ⟨_,rfl,((m.b 2 rfl).full bG aL)⟩ ⟨_,rfl,((m.b 1 rfl).full bG aL)⟩ rfl ?_;try simp only[zD,zE]
     exact⟨_,rfl,m.ext,by rw[Ki hmem,Kj hmem];rfl⟩
    ·
     refine aN m 2 rfl rfl rfl aL (bZ rfl) rfl ?_;clear m;intro u m;simp only[zy,zx,aW,zF,zG,ab] at m;refine aC (⟨m.sel [true,false,false],?_⟩);refine bQ (by simp only[zw];rfl) ?_;refine aI rfl ((m.b 1 rfl).full bG aL) ?_;simp only[zz];refine aC (⟨m.sel [true,false,false],?_⟩);refine bQ (by simp only[zw];rfl) ?_;refine aN m 1 rfl rfl rfl aL (bZ rfl) rfl ?_;clear m;intro u m;simp only[zy,zx,aW,zF,zG,ab] at m;refine aC (⟨m.sel [true,false,false],?_⟩);refine aY (by simp only[zw];rfl) (bA aD (bB (eV (k12 _ _ ?_))));refine bc ?_;simp only[zz];try simp only[ac,af,if_true]
     refine pX rfl ⟨_,rfl,((m.b 2 rfl).full bG aL)⟩ ⟨_,rfl,((m.b 1 rfl).full bG aL)⟩ rfl ?_;try simp only[zD,zE]
     exact⟨_,rfl,m.ext,by rw[Ki hmem,Kj hmem];rfl⟩
   ·
    refine aI rfl ((m.b 1 rfl).full bG aL) ?_;simp only[zz];refine aC (⟨m.sel [true,false,false],?_⟩);refine bQ (by simp only[zw];rfl) ?_;refine aI rfl ((m.b 2 rfl).full bG aL) ?_;simp only[zz];refine aC (⟨m.sel [true,false,false],?_⟩);refine bQ (by simp only[zw];rfl) ?_;refine aN m 2 rfl rfl rfl aL (bZ rfl) rfl ?_;clear m;intro u m;simp only[zy,zx,aW,zF,zG,ab] at m;refine aC (⟨m.sel [true,false,false],?_⟩);refine bQ (by simp only[zw];rfl) ?_;refine aN m 1 rfl rfl rfl aL (bZ rfl) rfl ?_;clear m;intro u m;simp only[zy,zx,aW,zF,zG,ab] at m;refine aC (⟨m.sel [true,false,false],?_⟩);refine aY (by simp only[zw];rfl) (bA aD (bB (eV (k12 _ _ ?_))));refine bc ?_;simp only[zz];try simp only[ac,af,if_true]
    refine pX rfl ⟨_,rfl,((m.b 2 rfl).full bG aL)⟩ ⟨_,rfl,((m.b 1 rfl).full bG aL)⟩ rfl ?_;try simp only[zD,zE]
    exact⟨_,rfl,m.ext,by rw[Ki hmem,Kj hmem];rfl⟩
theorem adM{ts:List T3}{N cap:Nat}{A:Option Addr}(w:aw)(hT:dX w A N ts)(hN:N≤300000):gZ prog 47 [.slice A N cap] w (fun v _=>v=.tuple #[pt (wG (fK ts)),pt (wH (fK ts)),.bool (decide ((0:Int)<(N:Int)))]):=by
 refine⟨aeL,?_⟩;have m:=cK.refl w
 go_enter func47,ntmps47
 refine aF fun K1 k1=>aa (bE m eL rfl ?_);clear m;intro g1 u m;simp only[zz];refine bE m eL rfl ?_;clear m;intro g2 u m;refine aA aD (aC (k1 _ _ ?_));refine aF fun K2 k2=>aF fun K3 k3=>aa (aA aB (aA (bR rfl iW rfl) ?_));simp only[zz];refine aA (mF rfl rfl) (aC (k3 _ _ ?_));simp only[zz];refine cW rfl (fun hc1=>?_) (fun hc1=>?_)
 ·
  refine aF fun K4 k4=>aa (aA gM (aA gM ?_));simp only[zz];refine aN m 1 rfl rfl rfl aL (bZ rfl) rfl ?_;clear m;intro u m;simp only[zy,zx,aW,zF,zG,ab] at m;refine aN m 0 rfl rfl rfl aL (bZ rfl) rfl ?_;clear m;intro u m;simp only[zy,zx,aW,zF,zG,ab] at m;refine aA aD (aC (k4 _ _ ?_));refine bc ?_;simp only[zz];try simp only[ac,af,if_true]
  refine pX rfl ⟨_,rfl,((m.b 1 rfl).full bG aL)⟩ ⟨_,rfl,((m.b 0 rfl).full bG aL)⟩ rfl ?_;try simp only[zD,zE]
  exact⟨_,rfl,m.ext,by have hn0:N=0:=(by omega);obtain rfl:=hT.empty hn0;subst hn0;rfl⟩
 ·
  refine ar (k2 _ _ ?_);refine aF fun K5 k5=>?_;obtain⟨t0,ht0,_,a,rfl,hrow⟩:=hT.get (i:=0) (by omega);refine aa (aA aB ?_);simp only[zz];refine aA (aS iW eW rfl rfl (by decide) (by omega) rfl) (aA (aJ iC aL rfl rfl (by decide) (by decide) rfl) ?_);simp only[zz];refine aI rfl ((qN.cor ((hrow.ext m.ext)) (c:=0) (by decide)).lies bG aL) ?_;simp only[zz];refine bE m eL rfl ?_;clear m;intro g3 u m;simp only[zz];refine aN m 0 rfl rfl rfl aL (bZ rfl) rfl ?_;clear m;intro u m;simp only[zy,zx,aW,zF,zG,ab] at m;refine aC (k5 _ _ ?_);refine aF fun K6 k6=>aa (aA aB ?_);simp only[zz];refine aA (aS iW eW rfl rfl (by decide) (by omega) rfl) (aA (aJ iC aL rfl rfl (by decide) (by decide) rfl) ?_);simp only[zz];refine aI rfl ((qN.cor ((hrow.ext m.ext)) (c:=0) (by decide)).lies bG aL) ?_;simp only[zz];refine bE m eL rfl ?_;clear m;intro g4 u m;simp only[zz];refine aN m 0 rfl rfl rfl aL (bZ rfl) rfl ?_;clear m;intro u m;simp only[zy,zx,aW,zF,zG,ab] at m;refine aC (k6 _ _ ?_);refine aF fun K7 k7=>aF fun K8 k8=>aa (aA aD (aC (k8 _ _ ?_)));refine av ?_;simp only[zz];try simp only[ah,ab,ag,ae]
  refine dI [7] [8,9,23,24,25,26,27,28,29,30,31,32,33,34,35,36,37,38,39,40,41,42,43,44,45,46,47,48,49,50,51,52,53,54,55,56,57,58,59,60,61,62,63,64,65,66,67,68,69,70] (fun n vs wl=>∃(k:Nat),vs=[.int .i64 (k:Int)]∧cK w wl [bI g4 [.int .i64 (lq mM t0.a (fK (ts.take k))).x,.int .i64 (lq mM t0.a (fK (ts.take k))).y,.int .i64 (lq mM t0.a (fK (ts.take k))).z] 56,bI g3 [.int .i64 (lq mL t0.a (fK (ts.take k))).x,.int .i64 (lq mL t0.a (fK (ts.take k))).y,.int .i64 (lq mL t0.a (fK (ts.take k))).z] 56,bI g2 [.int .i64 0,.int .i64 0,.int .i64 0] 56,bI g1 [.int .i64 0,.int .i64 0,.int .i64 0] 56]∧(k≤N)∧(n=N-k)) ?_ ?_
  ·
   apply Exists.intro;simp only[zQ,zR,zD,zE];exact⟨0,rfl,m,cd _,rfl⟩
  ·
   intro n vs wr hI u;clear m;obtain⟨k,rfl,m,hk,hn⟩:=hI;simp only[zu,zF,zG];refine aF fun K9 k9=>aF fun K10 k10=>aa (aA aB (aA aB (aA (bR rfl iW rfl) (aA (dZ rfl rfl) ?_))));simp only[zz];refine aC (k10 _ _ ?_);refine cW rfl (fun hc2=>?_) (fun hc2=>?_)
   ·
    obtain⟨t,ht,_,_⟩:=hT.get (i:=k) (by omega);have hrow:=hT.at ht;refine ar (k9 _ _ ?_);refine aF fun K11 k11=>av (aF fun K12 k12=>aa (aA aD (aC (k12 _ _ ?_))));refine av (cz 4 (dT (aF fun K13 k13=>aF fun K14 k14=>aa (aA aB (aA (cD (m:=0) (n:=3) rfl rfl (by decide)) (aC (k14 _ _ ?_)))))));refine bX rfl (ar (k13 _ _ ?_));refine aF fun K15 k15=>av (aF fun K16 k16=>aa (aA aB ?_));simp only[zz];refine aA aB (aA aB ?_);simp only[zz];refine aA (aS iW eW rfl rfl (by omega) (by omega) (sR (an _))) (aA (aJ iC aL rfl rfl (by decide) (by decide) rfl) ?_);simp only[zz];refine aI rfl ((qN.cor ((hrow.ext m.ext)) (c:=0) (by decide)).lies bG aL) ?_;simp only[zz];refine bE m eL rfl ?_;clear m;intro g5 u m;simp only[zz];refine aN m 0 rfl rfl rfl aL (bZ rfl) rfl ?_;clear m;intro u m;simp only[zy,zx,aW,zF,zG,ab] at m;refine aC (k16 _ _ ?_);refine aF fun K17 k17=>aa (aA (aG (c:=0) bP rfl aM rfl rfl) ?_);simp only[zz];refine aI rfl ((m.b 2 rfl).lies1 aV rfl) ?_;simp only[zz];refine aA (aG (c:=0) bP rfl aM rfl rfl) ?_;simp only[zz];refine aI rfl ((m.b 0 rfl).lies1 aV rfl) ?_;simp only[zz];refine aA (oT rfl rfl rfl) (aA (aG (c:=0) bP rfl aM rfl rfl) ?_);simp only[zz];refine aI rfl ((m.b 2 rfl).lies1 aV rfl) ?_;simp only[zz];refine aA (aG (c:=0) bP rfl aM rfl rfl) ?_;simp only[zz];refine aI rfl ((m.b 0 rfl).lies1 aV rfl) ?_;simp only[zz];refine aA (oT rfl rfl rfl) (aA (aG (c:=0) bP rfl aM rfl rfl) ?_);simp only[zz];refine aI rfl ((m.b 2 rfl).lies1 aV rfl) ?_;simp only[zz];refine aA (aG (c:=0) bP rfl aM rfl rfl) ?_;simp only[zz];refine aI rfl ((m.b 0 rfl).lies1 aV rfl) ?_;simp only[zz];refine aA (oT rfl rfl rfl) (aA (bV rfl rfl rfl) ?_);simp only[zz];refine aN m 2 rfl rfl rfl aL (bZ rfl) rfl ?_;clear m;intro u m;simp only[zy,zx,aW,zF,zG,ab] at m;refine aC (k17 _ _ ?_);refine aa (aA (aG (c:=0) bP rfl aM rfl rfl) ?_);simp only[zz];refine aI rfl ((m.b 1 rfl).lies1 aV rfl) ?_;simp only[zz];refine aA (aG (c:=0) bP rfl aM rfl rfl) ?_;simp only[zz];refine aI rfl ((m.b 0 rfl).lies1 aV rfl) ?_;simp only[zz];refine aA (kL rfl rfl rfl) (aA (aG (c:=0) bP rfl aM rfl rfl) ?_);simp only[zz];refine aI rfl ((m.b 1 rfl).lies1 aV rfl) ?_;simp only[zz];refine aA (aG (c:=0) bP rfl aM rfl rfl) ?_;simp only[zz];refine aI rfl ((m.b 0 rfl).lies1 aV rfl) ?_;simp only[zz];refine aA (kL rfl rfl rfl) (aA (aG (c:=0) bP rfl aM rfl rfl) ?_);simp only[zz];refine aI rfl ((m.b 1 rfl).lies1 aV rfl) ?_;simp only[zz];refine aA (aG (c:=0) bP rfl aM rfl rfl) ?_;simp only[zz];refine aI rfl ((m.b 0 rfl).lies1 aV rfl) ?_;simp only[zz];refine aA (kL rfl rfl rfl) (aA (bV rfl rfl rfl) ?_);simp only[zz];refine aN m 1 rfl rfl rfl aL (bZ rfl) rfl ?_;clear m;intro u m;simp only[zy,zx,aW,zF,zG,ab] at m;refine aC (k15 _ _ ?_);refine aa (aA aB (aA (aZ (m:=0) (n:=1) (r:=1) rfl rfl (by decide)) (aA aD (aC (bD (aF fun K18 k18=>aF fun K19 k19=>aa (aA aB ?_)))))));simp only[zz];refine aA (cD (m:=1) (n:=3) rfl rfl (by decide)) (aC (k19 _ _ ?_));refine bX rfl (ar (k18 _ _ ?_));refine aF fun K20 k20=>av (aF fun K21 k21=>aa (aA aB (aA aB (aA aB ?_))));simp only[zz];refine aA (aS iW eW rfl rfl (by omega) (by omega) (sR (an _))) (aA (aJ iC aL rfl rfl (by decide) (by decide) rfl) ?_);simp only[zz];refine aI rfl ((qN.cor ((hrow.ext m.ext)) (c:=1) (by decide)).lies bG aL) ?_;simp only[zz];refine bE m eL rfl ?_;clear m;intro g6 u m;simp only[zz];refine aN m 0 rfl rfl rfl aL (bZ rfl) rfl ?_;clear m;intro u m;simp only[zy,zx,aW,zF,zG,ab] at m;refine aC (k21 _ _ ?_);refine aF fun K22 k22=>aa (aA (aG (c:=0) bP rfl aM rfl rfl) ?_);simp only[zz];refine aI rfl ((m.b 3 rfl).lies1 aV rfl) ?_;simp only[zz];refine aA (aG (c:=0) bP rfl aM rfl rfl) ?_;simp only[zz];refine aI rfl ((m.b 0 rfl).lies1 aV rfl) ?_;simp only[zz];refine aA (oT rfl rfl rfl) (aA (aG (c:=0) bP rfl aM rfl rfl) ?_);simp only[zz];refine aI rfl ((m.b 3 rfl).lies1 aV rfl) ?_;simp only[zz];refine aA (aG (c:=0) bP rfl aM rfl rfl) ?_;simp only[zz];refine aI rfl ((m.b 0 rfl).lies1 aV rfl) ?_;simp only[zz];refine aA (oT rfl rfl rfl) (aA (aG (c:=0) bP rfl aM rfl rfl) ?_);simp only[zz];refine aI rfl ((m.b 3 rfl).lies1 aV rfl) ?_;simp only[zz];refine aA (aG (c:=0) bP rfl aM rfl rfl) ?_;simp only[zz];refine aI rfl ((m.b 0 rfl).lies1 aV rfl) ?_;simp only[zz];refine aA (oT rfl rfl rfl) (aA (bV rfl rfl rfl) ?_);simp only[zz];refine aN m 3 rfl rfl rfl aL (bZ rfl) rfl ?_;clear m;intro u m;simp only[zy,zx,aW,zF,zG,ab] at m;refine aC (k22 _ _ ?_);refine aa (aA (aG (c:=0) bP rfl aM rfl rfl) ?_);simp only[zz];refine aI rfl ((m.b 2 rfl).lies1 aV rfl) ?_;simp only[zz];refine aA (aG (c:=0) bP rfl aM rfl rfl) ?_;simp only[zz];refine aI rfl ((m.b 0 rfl).lies1 aV rfl) ?_;simp only[zz];refine aA (kL rfl rfl rfl) (aA (aG (c:=0) bP rfl aM rfl rfl) ?_);simp only[zz];refine aI rfl ((m.b 2 rfl).lies1 aV rfl) ?_;simp only[zz];refine aA (aG (c:=0) bP rfl aM rfl rfl) ?_;simp only[zz];refine aI rfl ((m.b 0 rfl).lies1 aV rfl) ?_;simp only[zz];refine aA (kL rfl rfl rfl) (aA (aG (c:=0) bP rfl aM rfl rfl) ?_);simp only[zz];refine aI rfl ((m.b 2 rfl).lies1 aV rfl) ?_;simp only[zz];refine aA (aG (c:=0) bP rfl aM rfl rfl) ?_;simp only[zz];refine aI rfl ((m.b 0 rfl).lies1 aV rfl) ?_;simp only[zz];refine aA (kL rfl rfl rfl) (aA (bV rfl rfl rfl) ?_);simp only[zz];refine aN m 2 rfl rfl rfl aL (bZ rfl) rfl ?_;clear m;intro u m;simp only[zy,zx,aW,zF,zG,ab] at m;refine aC (k20 _ _ ?_);refine aa (aA aB (aA (aZ (m:=1) (n:=1) (r:=2) rfl rfl (by decide)) (aA aD (aC (bD (aF fun K23 k23=>aF fun K24 k24=>aa (aA aB ?_)))))));simp only[zz];refine aA (cD (m:=2) (n:=3) rfl rfl (by decide)) (aC (k24 _ _ ?_));refine bX rfl (ar (k23 _ _ ?_));refine aF fun K25 k25=>av (aF fun K26 k26=>aa (aA aB (aA aB (aA aB ?_))));simp only[zz];refine aA (aS iW eW rfl rfl (by omega) (by omega) (sR (an _))) (aA (aJ iC aL rfl rfl (by decide) (by decide) rfl) ?_);simp only[zz];refine aI rfl ((qN.cor ((hrow.ext m.ext)) (c:=2) (by decide)).lies bG aL) ?_;simp only[zz];refine bE m eL rfl ?_;clear m;intro g7 u m;simp only[zz];refine aN m 0 rfl rfl rfl aL (bZ rfl) rfl ?_;clear m;intro u m;simp only[zy,zx,aW,zF,zG,ab] at m;refine aC (k26 _ _ ?_);refine aF fun K27 k27=>aa (aA (aG (c:=0) bP rfl aM rfl rfl) ?_);simp only[zz];refine aI rfl ((m.b 4 rfl).lies1 aV rfl) ?_;simp only[zz];refine aA (aG (c:=0) bP rfl aM rfl rfl) ?_;simp only[zz];refine aI rfl ((m.b 0 rfl).lies1 aV rfl) ?_;simp only[zz];refine aA (oT rfl rfl rfl) (aA (aG (c:=0) bP rfl aM rfl rfl) ?_);simp only[zz];refine aI rfl ((m.b 4 rfl).lies1 aV rfl) ?_;simp only[zz];refine aA (aG (c:=0) bP rfl aM rfl rfl) ?_;simp only[zz];refine aI rfl ((m.b 0 rfl).lies1 aV rfl) ?_;simp only[zz];refine aA (oT rfl rfl rfl) (aA (aG (c:=0) bP rfl aM rfl rfl) ?_);simp only[zz];refine aI rfl ((m.b 4 rfl).lies1 aV rfl) ?_;simp only[zz];refine aA (aG (c:=0) bP rfl aM rfl rfl) ?_;simp only[zz];refine aI rfl ((m.b 0 rfl).lies1 aV rfl) ?_;simp only[zz];refine aA (oT rfl rfl rfl) (aA (bV rfl rfl rfl) ?_);simp only[zz];refine aN m 4 rfl rfl rfl aL (bZ rfl) rfl ?_;clear m;intro u m;simp only[zy,zx,aW,zF,zG,ab] at m;refine aC (k27 _ _ ?_);refine aa (aA (aG (c:=0) bP rfl aM rfl rfl) ?_);simp only[zz];refine aI rfl ((m.b 3 rfl).lies1 aV rfl) ?_;simp only[zz];refine aA (aG (c:=0) bP rfl aM rfl rfl) ?_;simp only[zz];refine aI rfl ((m.b 0 rfl).lies1 aV rfl) ?_;simp only[zz];refine aA (kL rfl rfl rfl) (aA (aG (c:=0) bP rfl aM rfl rfl) ?_);simp only[zz];refine aI rfl ((m.b 3 rfl).lies1 aV rfl) ?_;simp only[zz];refine aA (aG (c:=0) bP rfl aM rfl rfl) ?_;simp only[zz];refine aI rfl ((m.b 0 rfl).lies1 aV rfl) ?_;simp only[zz];refine aA (kL rfl rfl rfl) (aA (aG (c:=0) bP rfl aM rfl rfl) ?_);simp only[zz];refine aI rfl ((m.b 3 rfl).lies1 aV rfl) ?_;simp only[zz];refine aA (aG (c:=0) bP rfl aM rfl rfl) ?_;simp only[zz];refine aI rfl ((m.b 0 rfl).lies1 aV rfl) ?_;simp only[zz];refine aA (kL rfl rfl rfl) (aA (bV rfl rfl rfl) ?_);simp only[zz];refine aN m 3 rfl rfl rfl aL (bZ rfl) rfl ?_;clear m;intro u m;simp only[zy,zx,aW,zF,zG,ab] at m;refine aC (k25 _ _ ?_);refine aa (aA aB (aA (aZ (m:=2) (n:=1) (r:=3) rfl rfl (by decide)) (aA aD (aC (bD (aF fun K28 k28=>aF fun K29 k29=>aa (aA aB ?_)))))));simp only[zz];refine aA (fD (m:=3) (n:=3) rfl rfl (by decide)) (aC (k29 _ _ ?_));refine eZ rfl (bw (k11 _ _ ?_));refine aa (aA aB ?_);simp only[zz];refine aA (aZ rfl rfl (aO (by omega) (by omega))) (aA aD (aC ?_));simp only[zz];simp only[ac,af];refine⟨N-(k+1),_,?_,rfl,?_,?_⟩
    · omega
    · simp only[zz,zv]
    ·
     simp only[zQ,zR,zD,zE];exact⟨k+1,rfl,(((m.re 4 rfl (by rw[xK ht,gg];exact (m.b 4 rfl))).re 3 rfl (by rw[xK ht,gg];exact (m.b 3 rfl))).sel [false,false,false,true,true,true,true]),by omega,rfl⟩
   ·
    have hkN:k=N:=by omega
    rw[hkN,show ts.take N=ts from bp (by rw[hT.len];exact bi _)] at m;refine bw (k7 _ _ ?_);refine aF fun K30 k30=>?_;refine mh m [true,true,false,false] [(0,true),(1,true),(2,false),(3,false),(4,true)] aP (by kernel_rfl) (dJ (fun _ _ _ _ _ h=>h)) (ol:=?_) ?hol ?_
    case hol=>simp only[zw,zQ,zR];try rfl
    clear m;intro u m;refine cO rfl (fun u m=>((m.b 1 rfl).full bG aL)) ?_;simp only[zz];refine cO rfl (fun u m=>((m.b 0 rfl).full bG aL)) ?_;simp only[zz];refine dM (aN m 3 rfl rfl rfl aL (bZ rfl) rfl ?_);clear m;intro u m;simp only[zy,zx,aW,zF,zG,ab] at m;refine aC (⟨m.sel [true,true,false,false],?_⟩);refine dM (aN m 2 rfl rfl rfl aL (bZ rfl) rfl ?_);clear m;intro u m;simp only[zy,zx,aW,zF,zG,ab] at m;refine aC (⟨m.sel [true,true,false,false],?_⟩);refine bA aD (bB (k30 _ _ ?_));refine bc ?_;simp only[zz];try simp only[ac,af,if_true]
    refine pX rfl ⟨_,rfl,((m.b 3 rfl).full bG aL)⟩ ⟨_,rfl,((m.b 2 rfl).full bG aL)⟩ rfl ?_;try simp only[zD,zE]
    exact⟨_,rfl,m.ext,by rw[←aa5 ht0,←aa6 ht0,decide_eq_true (show (0:Int)<(N:Int) by omega)];rfl⟩
end Go.Proofs.YtimjandkmfcmiaaGreatDoor
namespace Go.Lith
open Go.RowKit
section
variable {P:cj} {ds:List dp} {l:List aj} {x y:Operand} {T T' U t ty:be} {v z:aj}
theorem sZ(h:P.concrete T=true)(hx:ev l x=v):iG P l (.makeInterface T x) ty (.iface T v):=fun w o ho _=>by
 simp[cm,ho,dV,hx,show (Instr.makeInterface T v).run P w=.ok (.iface T v) w from run_makeInterface (h:=h) ..]
theorem Nl(h:P.concrete U=true)(w:aw):(Instr.typeAssert (.iface U v) T U true).run P w=.ok (.tuple #[v,.bool true]) w:=by
 unfold Program.concrete at h;cases hd:P.underlying U with
 | none=>simp[hd] at h
 | some d=>cases d <;> first | (simp[hd] at h;done) | simp[Instr.typeAssert,bt hd]
theorem Nm(h:P.concrete U=true)(hz:mB P U z)(hne:t≠U)(w:aw):(Instr.typeAssert (.iface t v) T U true).run P w=.ok (.tuple #[z,.bool false]) w:=by
 unfold Program.concrete at h;obtain⟨i,hi,hz⟩:=hz;cases hd:P.underlying U with
 | none=>simp[hd] at h
 | some d=>cases d <;> first | (simp[hd] at h;done) | simp[Instr.typeAssert,bt hd,hne,zeroValue,typeInfo,hi,hz]
theorem Aw(h:P.concrete U=true)(hx:ev l x=.iface U v):iG P l (.typeAssert x T U true) ty (.tuple #[v,.bool true]):=fun w o ho _=>by
 simp[cm,ho,dV,hx,Nl h]
theorem Ax(h:P.concrete U=true)(hz:mB P U z)(hne:(t == U)=false)(hx:ev l x=.iface t v):iG P l (.typeAssert x T U true) ty (.tuple #[z,.bool false]):=fun w o ho _=>by
 simp[cm,ho,dV,hx,Nm h hz (by simpa using hne)]
theorem Ur{ms:Array (String × be)}(hi:P.underlying T=some (.interface ms))(w:aw):(binOp .eql T .nilIface .nilIface).run P w=.ok (.bool true) w:=by
 have h:∀d:Nat,(Op.equalIn (d+1) T .nilIface .nilIface).run P w=.ok true w:=fun d=>by simp[Op.equalIn,bt hi]
 simp only[binOp];simp[Op.equal,Op.maxDepth,h 9999]
theorem Us{ms:Array (String × be)}(hi:P.underlying T=some (.interface ms))(w:aw):(binOp .eql T (.iface t v) .nilIface).run P w=.ok (.bool false) w:=by
 have h:∀d:Nat,(Op.equalIn (d+1) T (.iface t v) .nilIface).run P w=.ok false w:=fun d=>by simp[Op.equalIn,bt hi]
 simp only[binOp];simp[Op.equal,Op.maxDepth,h 9999]
theorem abm{ms:Array (String × be)}(hi:P.underlying T=some (.interface ms))(hx:ev l x=.nilIface):iG P l (.binOp .eql T x (.const .nilIface) T') ty (.bool true):=fun w o ho _=>by
 simp[cm,ho,dV,hx,bS,eqGuard,Ur hi]
theorem Kp{ms:Array (String × be)}(hi:P.underlying T=some (.interface ms))(hx:ev l x=.iface t v):iG P l (.binOp .eql T x (.const .nilIface) T') ty (.bool false):=fun w o ho _=>by
 simp[cm,ho,dV,hx,bS,eqGuard,Us hi]
end
section
variable {P:cj} {ds:List dp} {l:List aj} {ty:be} {v u:aj}
variable {ops:Array Oper} {Q:Exit→Act→aw→Prop} {rest:List Oper} {d:Nat} {pos:String} {after:Array Edge} {w w0:aw} {is:List It}
theorem pR{f:FuncId}{fo:Operand}{name:String}{args:List aj}{a0:Array be}(m:cK w0 w is)(hx:ev l fo=u)(hm:∀w:aw,(invoke (.fn (.method name) #[]) #[u]).run P w=.ok (.enter f args.toArray) w)(hc:eB P f args v)
 (h:∀u,cK w0 u is→bh P ops Q rest (Fr (l.set d v) ds) u):bh P ops Q (Oper.mk (some d) (.call { callee:=.invoke fo name,args:=#[],argTypes:=a0 }) ty pos after none::rest) (Fr l ds) w:=by
 refine wpList_plain rfl fun K hK=>?_;unfold Oper.wp;have e:∀o:Oper,o.op=.call { callee:=.invoke fo name,args:=#[],argTypes:=a0 }→(cm (Fr l).eval o).run P w=.ok (.enter f args.toArray) w:=fun o ho=>by
  have hm:=hm w;simp[cm,ho,resolve,dV,hx,hm]
 rw[jS,e _ rfl];refine (hc w).2.mono ?_;rintro e w' ⟨v,rfl,hE,rfl⟩;show K ((Fr l ds).put (some d) v) w'
 rw[jM];exact hK _ _ (h w' (m.ext' hE))
end
section
variable {P:cj} {w0:aw} {is:List It} {l:List aj} {ty:be} {u:aj}
variable {ops:Array Oper} {Q:Act→Prop} {rest:List Oper} {d:Nat} {pos:String} {after:Array Edge} {v:aj} {ds:List dp}
end
section
variable {P:cj} {l:List aj} {x y z:Operand} {ty:be} {k:IntKind} {m n q r:Int}
theorem adN{a0:Array be}(hx:ev l x=.int k m)(hy:ev l y=.int k n)(hz:ev l z=.int k q)(hr:(if q<(if n<m then n else m) then q else if n<m then n else m)=r):iG P l (.call { callee:=.builtin .min,args:=#[x,y,z],argTypes:=a0 }) ty (.int k r):=fun w o ho _=>by
 subst hr;simp[cm,ho,resolve,invoke,builtin,Builtin.min_,Builtin.min2,dV,hx,hy,hz]
theorem adO{a0:Array be}(hx:ev l x=.int k m)(hy:ev l y=.int k n)(hz:ev l z=.int k q)(hr:(if (if m<n then n else m)<q then q else if m<n then n else m)=r):iG P l (.call { callee:=.builtin .max,args:=#[x,y,z],argTypes:=a0 }) ty (.int k r):=fun w o ho _=>by
 subst hr;simp[cm,ho,resolve,invoke,builtin,Builtin.max_,Builtin.max2,dV,hx,hy,hz]
end
theorem yY{P:cj}{Q:Exit→Act→aw→Prop}{l:List aj}{ds:List dp}{c1 c2:Code}{w:aw}{x:Operand}{p:Prop}[Decidable p](hx:ev l x=.bool (!decide p))(ht:¬p→c1.wp P Q (Fr l ds) w)(hf:p→c2.wp P Q (Fr l ds) w):(Code.cond x c1 c2).wp P Q (Fr l ds) w :=
 cW (p:=¬p) (by rw[hx,decide_not]) ht (fun h=>hf (Decidable.not_not.1 h))
end Go.Lith
namespace Go.Lith
open Go.RowKit
theorem Sb(bs:List Int)(ls:List (List T3)):((cG bs ls).map (·.1)).Pairwise (· < ·)∧∀x∈cG bs ls,x.1<ls.length:=by
 have H:∀k,k≤ls.length→((cG bs (ls.take k)).map (·.1)).Pairwise (· < ·)∧∀x∈cG bs (ls.take k),x.1<k:=by
  intro k
  induction k with
  | zero=>exact fun _=>⟨.nil,fun x h=>by simp[cG] at h⟩
  | succ k ih =>
   intro hk;obtain⟨h1,h2⟩:=ih (by omega);obtain⟨l,hl⟩:∃l,ls[k]? = some l:=⟨_,ao (by omega)⟩
   rw[oL hl];split
   · refine⟨?_,fun x hx=>?_⟩
     · rw[br,la]
       refine⟨h1,List.pairwise_singleton ..,fun a ha b hb=>?_⟩;obtain⟨x,hx,rfl⟩:=ew.1 ha;rw[b_.1 hb];exact h2 x hx
     · rcases dx.1 hx with hx | hx
       · have:=h2 x hx;omega
       · rw[b_.1 hx];exact mc k
   · rw[List.append_nil]
     exact⟨h1,fun x hx=>by have:=h2 x hx;omega⟩
 have h:=H ls.length (bi _);rwa [c_] at h
theorem Ib{r:gJ}{h:Option (Rat × Nat)}{x:Nat × Kd}:∀y∈pG r h x,y.1=x.1:=by
 intro y hy;unfold pG at hy;split at hy
 · cases hy
 · split at hy
   · rw[b_.1 hy]
   · split at hy
     · rw[b_.1 hy]
     · cases hy
theorem Sc{r:gJ}{h:Option (Rat × Nat)}:∀{xs:List (Nat × Kd)},(xs.map (·.1)).Pairwise (· < ·)→((dB r h xs).map (·.1)).Pairwise (· < ·)
 | [],_=>.nil
 | x::xs,hp=>by
  have hp:=ej.1 hp;unfold dB;rw[dv,br,la];refine⟨?_,Sc hp.2,fun a ha b hb=>?_⟩
  · have:=Hz (r:=r) (h:=h) (x:=x)
    match hk:pG r h x,this with
    | [],_=>exact .nil
    | [y],_=>exact List.pairwise_singleton ..
  · obtain⟨y,hy,rfl⟩:=ew.1 ha
    obtain⟨z,hz,rfl⟩:=ew.1 hb;obtain⟨u,hu,hz⟩:=fa.1 hz;rw[Ib y hy,Ib z hz];exact hp.1 _ (List.mem_map_of_mem hu)
theorem adP(r:gJ)(xs:List (List T3))(bs:List Int):(iO r xs bs).opn.Pairwise (· < ·)∧∀i∈(iO r xs bs).opn,0≤i∧i<xs.length:=by
 unfold iO;split
 · have u1:=Sc (r:=r) (h:=bH r (bU bs xs)) (Sb bs xs).1
   unfold Na;split
   · refine⟨?_,fun i hi=>?_⟩
     · have e:(dB r (bH r (bU bs xs)) (cG bs xs)).map (fun x=>(x.1:Int))=((dB r (bH r (bU bs xs)) (cG bs xs)).map (·.1)).map (fun k:Nat=>(k:Int)):=by rw[List.map_map];rfl
       show ((dB r (bH r (bU bs xs)) (cG bs xs)).map (fun x=>(x.1:Int))).Pairwise (· < ·)
       rw[e,List.pairwise_map];exact u1.imp fun h=>by omega
     · obtain⟨x,hx,rfl⟩:=ew.1 hi
       obtain⟨kd,hm,_⟩:=Ng.1 (show (x.1,x.2)∈_ from hx);have:=(Sb bs xs).2 _ hm;simp only at this;omega
   · split
     · exact⟨.nil,fun i hi=>by cases hi⟩
     · exact⟨.nil,fun i hi=>by cases hi⟩
 · exact⟨.nil,fun i hi=>by cases hi⟩
end Go.Lith
namespace Go.Lith
open Go.RowKit
def P3.sh(p v:P3):P3:=⟨p.x+v.x,p.y+v.y,p.z+v.z⟩
def T3.sh(v:P3)(t:T3):T3:=⟨t.a.sh v,t.b.sh v,t.c.sh v⟩
end Go.Lith
namespace Go.Lith
open Go.RowKit
def iP(n:Nat):Nat→List T3→List (List T3)
 | 0,_=>[]
 | k+1,l=>if l=[] then [] else l.take n::iP n k (l.drop n)
theorem Ez{n:Nat}:∀{k:Nat} {l x:List T3},x∈iP n k l→∀t∈x,t∈l
 | 0,_,_,h=>by cases h
 | k+1,l,x,h=>by
  unfold iP at h;split at h
  · cases h
  · rcases bn.1 h with rfl | h
    · exact fun t ht=>fd ht
    · exact fun t ht=>ia (Ez h t ht)
theorem Ay{n:Nat}:∀{k:Nat} {l:List T3},(iP n k l).length≤k
 | 0,_=>bi _
 | k+1,l=>by
  unfold iP;split
  · exact cd _
  · exact Nat.succ_le_succ Ay
theorem Fa{n:Nat}:∀{k:Nat} {l x:List T3},x∈iP n k l→x.length≤n
 | 0,_,_,h=>by cases h
 | k+1,l,x,h=>by
  unfold iP at h;split at h
  · cases h
  · rcases bn.1 h with rfl | h
    · rw[bl];exact Nat.min_le_left _ _
    · exact Fa h
theorem Nn{n k:Nat}{l:List T3}(h:l≠[]):iP n (k+1) l=l.take n::iP n k (l.drop n):=if_neg h
theorem Qf{n k:Nat}:iP n k []=[]:=by cases k <;> rfl
def nA(zs:List Int)(i:Nat):Int:=if zs=[] then 0 else if ((zs[(i*i+i)%zs.length]?).getD 0).tmod 50 < -1 then -1 else ((zs[(i*i+i)%zs.length]?).getD 0).tmod 50
def jJ(n:Nat)(zs:List Int):List Int:=(List.range n).map (nA zs)
theorem Sd(zs:List Int)(i:Nat) : -1≤nA zs i∧nA zs i≤49:=by
 unfold nA;split
 · omega
 · have:=Mu (n:=(zs[(i*i+i)%zs.length]?).getD 0) (m:=50) (by decide)
   split <;> omega
theorem Se{n i:Nat}{zs:List Int}(h:i<n):(jJ n zs)[i]? = some (nA zs i):=by
 unfold jJ;rw[db,List.getElem?_range h];rfl
theorem Kq{n i:Nat}{zs:List Int}(h:i<n):gY (jJ n zs) i=nA zs i:=by rw[gY,Se h];rfl
theorem adQ(n:Nat)(zs:List Int):∀z∈jJ n zs,-1≤z∧z≤49:=fun z hz=>by
 obtain⟨i,_,rfl⟩:=ew.1 hz;exact Sd zs i
def wI(ss:List P3)(b:Int)(i:Nat):P3:=let v:=(ss[i%ss.length]?).getD ⟨0,0,0⟩;⟨v.x.tmod (b.tdiv 2+1),v.y.tmod (b.tdiv 2+1),v.z.tmod (b.tdiv 2+1)⟩
def kQ(ss:List P3)(b:Int)(i:Nat)(l:List T3):List T3:=if b<0 then [] else if 0<b∧ss≠[] then l.map (T3.sh (wI ss b i)) else l
theorem Sf{ss:List P3}{b:Int}{i:Nat}(h0:0<b)(h1:b≤49):(-b≤(wI ss b i).x∧(wI ss b i).x≤b)∧(-b≤(wI ss b i).y∧(wI ss b i).y≤b)∧(-b≤(wI ss b i).z∧(wI ss b i).z≤b):=by
 have e:b.tdiv 2=b / 2:=Int.tdiv_eq_ediv_of_nonneg (by omega);have h2:0<b.tdiv 2+1:=by omega
 have h3:b.tdiv 2≤b:=by omega
 have k:=fun n:Int=>Mu (n:=n) (m:=b.tdiv 2+1) h2;unfold wI;generalize (ss[i%ss.length]?).getD ⟨0,0,0⟩=v;have k1:=k v.x;have k2:=k v.y;have k3:=k v.z;simp only;omega
def dN(ss:List P3)(bs:List Int)(fine:List (List T3)):List (List T3):=fine.mapIdx fun i l=>kQ ss (gY bs i) i l
theorem tA(ss:List P3)(bs:List Int)(fine:List (List T3)):(dN ss bs fine).length=fine.length:=by simp[dN]
theorem tC{ss:List P3}{bs:List Int}{fine:List (List T3)}{i:Nat}{l:List T3}(h:fine[i]? = some l):(dN ss bs fine)[i]? = some (kQ ss (gY bs i) i l):=by
 simp[dN,h]
end Go.Lith
namespace Go.Proofs.YtimjandkmfcmiaaGreatDoor
open Go.Proofs.Tryz
open Go.RowKit Go.Lith
set_option maxRecDepth 100000
attribute [local irreducible] bh ck eY eO eJ Code.wp
def kdV(i:Nat):Kd→Go.Value
 | .no=>.nilIface
 | .ex=>.iface 69 (.agg #[.int .i64 (i:Int)])
 | .unk=>.iface 83 (.agg #[.int .i64 (i:Int)])
 | .near lo hi=>.iface 88 (.agg #[.int .i64 (i:Int),.int .i64 lo.x,.int .i64 lo.y,.int .i64 lo.z,.int .i64 hi.x,.int .i64 hi.y,.int .i64 hi.z])
def Qg:Kd→Prop
 | .near lo hi=>I3 lo∧I3 hi
 | _=>True
theorem Kr{ps:List P3}(h:ps≠[])(hi:∀p∈ps,I3 p):I3 (wG ps)∧I3 (wH ps):=by
 cases ps with
 | nil=>exact absurd rfl h
 | cons p ps =>
  obtain⟨_,⟨a,ha,ea⟩,⟨b,hb,eb⟩,⟨c,hc,ec⟩⟩:=Cv ps p;obtain⟨_,⟨d,hd,ed⟩,⟨e,he,ee⟩,⟨f,hf,ef⟩⟩:=Cw ps p;exact⟨⟨(show (wG (p::ps)).x=a.x from ea)▸(hi a ha).x,(show (wG (p::ps)).y=b.y from eb)▸(hi b hb).y,(show (wG (p::ps)).z=c.z from ec)▸(hi c hc).z⟩,
   ⟨(show (wH (p::ps)).x=d.x from ed)▸(hi d hd).x,(show (wH (p::ps)).y=e.y from ee)▸(hi e he).y,(show (wH (p::ps)).z=f.z from ef)▸(hi f hf).z⟩⟩
theorem Sg{l:List T3}{b:Int}(hl:∀t∈l,IT t)(h0:b<9223372036854775808):Qg (sG l b):=by
 unfold sG
 repeat' split
 all_goals try trivial
 rename_i h1 h2 h3 hf;have h3:pF l≠[]:=by
  cases l with
  | nil=>exact absurd rfl h3
  | cons t l=>simp[pF]
 have hi:∀p∈pF l,I3 p:=fun p hp=>by
  obtain⟨t,ht,hp⟩:=fa.1 hp;have:=hl t ht;simp only[bn,ga,or_false] at hp;rcases hp with rfl | rfl | rfl
  · exact this.a
  · exact this.b
  · exact this.c
 obtain⟨k1,k2⟩:=Kr h3 hi;unfold lI at hf;obtain⟨⟨a1,a2⟩,⟨a3,a4⟩,a5,a6⟩:=k1;obtain⟨⟨b1,b2⟩,⟨b3,b4⟩,b5,b6⟩:=k2;refine⟨⟨⟨?_,?_⟩,⟨?_,?_⟩,⟨?_,?_⟩⟩,⟨⟨?_,?_⟩,⟨?_,?_⟩,⟨?_,?_⟩⟩⟩ <;> (simp only[P3.sub,P3.pls,P3.all];omega)
theorem abn(l:List T3):pF l=fK l:=rfl
theorem No{l:List T3}(h:fK l=[]):l=[]:=by
 cases l with
 | nil=>rfl
 | cons t l=>simp[fK] at h
theorem Sh{l:List T3}(hl:∀t∈l,IT t):∀p∈fK l,I3 p:=fun p hp=>by
 obtain⟨t,ht,hp⟩:=fa.1 hp;have:=hl t ht;simp only[bn,ga,or_false] at hp;rcases hp with rfl | rfl | rfl
 · exact this.a
 · exact this.b
 · exact this.c
theorem adR(i:Int)(w:aw):(invoke (.fn (.method "lithophane/trace.number") #[]) #[.iface 83 (.agg #[.int .i64 i])]).run prog w=.ok (.enter 202 [.int .i64 i].toArray) w:=by kernel_rfl
theorem adS(i a b c d e f:Int)(w:aw):(invoke (.fn (.method "lithophane/trace.number") #[]) #[.iface 88 (.agg #[.int .i64 i,.int .i64 a,.int .i64 b,.int .i64 c,.int .i64 d,.int .i64 e,.int .i64 f])]).run prog w=.ok (.enter 202 [.int .i64 i].toArray) w:=by kernel_rfl
theorem pS{i:Nat}{kd:Kd}(h:kd.other=true)(w:aw):(invoke (.fn (.method "lithophane/trace.number") #[]) #[kdV i kd]).run prog w=.ok (.enter 202 [.int .i64 (i:Int)].toArray) w:=by
 cases kd with
 | no=>cases h
 | ex=>cases h
 | unk=>exact adR i w
 | near lo hi=>exact adS i _ _ _ _ _ _ w
theorem lJ{i:Int}:eB prog 202 [.int .i64 i] (.int .i64 i):=by
 intro w;refine⟨ac7,?_⟩;have m:=cK.refl w
 go_enter func202,ntmps202
 refine aF fun K1 k1=>aa (aA aD (aC (k1 _ _ ?_)));refine aF fun K2 k2=>aa (aA aB (aA aD (aC (k2 _ _ ?_))));refine bc ?_;simp only[zz];try simp only[ac,af,if_true]
 refine bY rfl rfl ?_;try simp only[zD,zE]
 exact⟨_,rfl,m.ext,rfl⟩
theorem Ks  : eB prog 25 [] (Q 0):=by
 intro w;refine⟨aep,?_⟩;have m:=cK.refl w
 go_enter func25,ntmps25
 refine aF fun K1 k1=>aa (bE m cF rfl ?_);clear m;intro g1 u m;refine aC (k1 _ _ ?_);refine aF fun K2 k2=>?_;simp only[zz];haveI:Iw (1:Int):=⟨⟨by decide,by decide⟩⟩
 refine aa (aX m rfl rfl (mE (n:=1) Iw.h) ?_);clear m;intro u m;refine aA (Jg rfl) ?_;simp only[zz];refine aN m 0 rfl rfl rfl aK (bZ rfl) rfl ?_;clear m;intro u m;simp only[zy,zx,aW,zF,zG,ab] at m;refine aC (k2 _ _ ?_);refine bc ?_;try simp only[ac,af,if_true]
 refine bY rfl ⟨_,rfl,((m.b 0 rfl).full bF aK)⟩ ?_;try simp only[zD,zE]
 exact⟨_,rfl,m.ext,rfl⟩
theorem adT{lo hi:P3}{bd:Int}[I3 lo][I3 hi](h0:0<bd)(h1:bd<9223372036854775808):eB prog 42 [pt lo,pt hi,.int .i64 bd] (.bool (decide (lI lo hi bd))):=by
 intro w;refine⟨aeG,?_⟩;have m:=cK.refl w
 go_enter func42,ntmps42
 refine aF fun K1 k1=>aa (cQ m rfl ?_);clear m;intro g1 u m;simp only[zz];refine cQ m rfl ?_;clear m;intro g2 u m;refine aA aD (aC (k1 _ _ ?_));refine aF fun K2 k2=>aa (aA (aG (c:=0) bP rfl aM rfl rfl) ?_);simp only[zz];refine aI rfl ((m.b 1 rfl).lies1 aV rfl) ?_;simp only[zz];refine aA (aG (c:=0) bP rfl aM rfl rfl) ?_;simp only[zz];refine aI rfl ((m.b 1 rfl).lies1 aV rfl) ?_;simp only[zz];refine aA (aG (c:=0) bP rfl aM rfl rfl) ?_;simp only[zz];refine aI rfl ((m.b 1 rfl).lies1 aV rfl) ?_;simp only[zz];refine aA (adN rfl rfl rfl rfl) (aA aB ?_);simp only[zz];refine aA (aZ rfl rfl (aO (by omega) (by omega))) (aA (lD rfl rfl) (aA aB (iU rfl (fun hb=>aG (c:=0) bP rfl aM rfl rfl) ?_)));simp only[zz];refine rS rfl (fun hb=>lM (jU hb rfl) ((m.b 0 rfl).lies1 aV rfl)) (iU rfl (fun hb=>aG (c:=0) bP rfl aM rfl rfl) ?_);simp only[zz];refine rS rfl (fun hb=>lM (jU hb rfl) ((m.b 0 rfl).lies1 aV rfl)) (iU rfl (fun hb=>aG (c:=0) bP rfl aM rfl rfl) ?_);simp only[zz];refine rS rfl (fun hb=>lM (jU hb rfl) ((m.b 0 rfl).lies1 aV rfl)) (iU rfl (fun hb=>adO (jU hb rfl) (jU hb rfl) (jU hb rfl) rfl) (iU rfl (fun hb=>aB) ?_));simp only[zz];refine iU rfl (fun hb=>eH rfl (jU hb rfl) (aO (by omega) (by omega))) (iU rfl (fun hb=>Bm (jU hb rfl) (jU hb rfl)) (aA (lK rfl rfl rfl) (aA aD ?_)));simp only[zz];refine aC (k2 _ _ ?_);refine bc ?_;try simp only[ac,af,if_true]
 refine bY rfl rfl ?_;try simp only[zD,zE]
 exact⟨_,rfl,m.ext,kZ (by rw[←Bool.decide_and];exact decide_eq_decide.2 (by unfold lI;omega))⟩
theorem adU{i N cap M bcap:Nat}{A B:Option Addr}{l:List T3}{bs:List Int}(w:aw)(hi:i<4611686018427387904)(hT:dX w A N l)(hN:N≤300000)(hb:dH w B M bs):gZ prog 26 [.int .i64 (i:Int),.slice A N cap,.slice B M bcap] w (fun v _=>v=kdV i (sG l (gY bs i))):=by
 refine⟨aeq,?_⟩;have m:=cK.refl w
 go_enter func26,ntmps26
 refine aF fun K1 k1=>aa (aA aD (aC (k1 _ _ ?_)));refine aF fun K2 k2=>aa (aA aD (aC (k2 _ _ ?_)));refine aF fun K3 k3=>aF fun K4 k4=>aa (aA aB (aA aB ?_));simp only[zz];refine aA (bR rfl bM rfl) (aA (dZ rfl rfl) (aC (k4 _ _ ?_)));simp only[zz];refine cW rfl (fun hc1=>?_) (fun hc1=>?_)
 ·
  obtain⟨z,hz,_,a,rfl,hcell⟩:=hb.get (i:=i) (by omega);have ez:gY bs i=z:=by rw[gY,hz];rfl
  have hz64:z<9223372036854775808:=(hb.it z (cc hz)).2;refine aa (aA aB (aA aB ?_));simp only[zz];refine aA (aS bM aM rfl rfl (by omega) (by omega) (fH (an _))) ?_;simp only[zz];refine aI rfl (Lith.lies1 (m.ext.cell hcell) aV) ?_;simp only[zz];refine aA aD (aC (k3 _ _ ?_));refine aF fun K5 k5=>av (aF fun K6 k6=>aa (aA aB (aA (dZ rfl rfl) (aA aD ?_))));simp only[zz];refine aC (k6 _ _ ?_);refine cW rfl (fun hc2=>?_) (fun hc2=>?_)
  ·
   refine aF fun K7 k7=>aa (aA aB (aA (tQ rfl) (aA (sZ (by kernel_rfl) rfl) (aA aD ?_))));simp only[zz];refine aC (k7 _ _ ?_);refine bc ?_;try simp only[ac,af,if_true]
   refine bY rfl rfl ?_;try simp only[zD,zE]
   exact⟨_,rfl,m.ext,by rw[ez,sG,if_pos (by omega)];rfl⟩
  ·
   refine aF fun K8 k8=>aa (aA aB (aA (mF rfl rfl) (aA aD (aC (k8 _ _ ?_)))));simp only[zz];refine cW rfl (fun hc3=>?_) (fun hc3=>?_)
   ·
    refine aF fun K9 k9=>aa (aA aB (aA (Ji rfl) (aA (sZ (by kernel_rfl) rfl) (aA aD ?_))));simp only[zz];refine aC (k9 _ _ ?_);refine bc ?_;try simp only[ac,af,if_true]
    refine bY rfl rfl ?_;try simp only[zD,zE]
    exact⟨_,rfl,m.ext,by rw[ez,sG,if_neg (by omega),if_pos (by omega)];rfl⟩
   ·
    refine ar (k5 _ _ ?_);refine aF fun K10 k10=>aa (aA aB ?_);simp only[zz];refine fJ m rfl rfl (afZ _ (hT.ext m.ext) hN) ?_;clear m;rintro v u m rfl;refine aA aB (aA (aU rfl rfl) (aA (aU rfl rfl) ?_));simp only[zz];refine aA (aU rfl rfl) ?_;simp only[zz];refine bE m eL rfl ?_;clear m;intro g1 u m;simp only[zz];refine bE m eL rfl ?_;clear m;intro g2 u m;simp only[zz];refine aN m 1 rfl rfl rfl aL (bZ rfl) rfl ?_;clear m;intro u m;simp only[zy,zx,aW,zF,zG,ab] at m;refine aN m 0 rfl rfl rfl aL (bZ rfl) rfl ?_;clear m;intro u m;simp only[zy,zx,aW,zF,zG,ab] at m;refine aA aD (aC (k10 _ _ ?_));refine aF fun K11 k11=>av (aF fun K12 k12=>aa (aA aB (aA (fM rfl) (aA aD ?_))));simp only[zz];refine aC (k12 _ _ ?_);refine yY rfl (fun hc4=>?_) (fun hc4=>?_)
    ·
     have hl:l=[]:=hT.empty (by omega);refine aF fun K13 k13=>aa (aA aD (aC (k13 _ _ ?_)));refine bc ?_;simp only[zz];try simp only[ac,af,if_true]
     refine bY rfl rfl ?_;try simp only[zD,zE]
     exact⟨_,rfl,m.ext,by rw[ez,sG,if_neg (by omega),if_neg (by omega),if_pos hl];rfl⟩
    ·
     have hl:l≠[]:=fun e=>by have:=hT.len;rw[e] at this;simp only[eu] at this;omega
     have hi3:=Kr (ps:=fK l) (fun e=>hl (No e)) (Sh hT.it);haveI:=hi3.1;haveI:=hi3.2;have hb0:0<z:=by omega
     refine aF fun K14 k14=>aa (aI rfl ((m.b 1 rfl).full bG aL) ?_);simp only[zz];refine aI rfl ((m.b 0 rfl).full bG aL) ?_;simp only[zz];refine aA aB ?_;simp only[zz];refine aX m rfl rfl (adT hb0 hz64) ?_;clear m;intro u m;refine aA (fM rfl) (aA aD (aC (k14 _ _ ?_)));simp only[zz];refine yY rfl (fun hc5=>?_) (fun hc5=>?_)
     ·
      have hf:¬lI (wG (fK l)) (wH (fK l)) z:=hc5;refine aF fun K15 k15=>aa (aA aB (aA (tQ rfl) (aA (sZ (by kernel_rfl) rfl) (aA aD ?_))));simp only[zz];refine aC (k15 _ _ ?_);refine bc ?_;try simp only[ac,af,if_true]
      refine bY rfl rfl ?_;try simp only[zD,zE]
      exact⟨_,rfl,m.ext,by rw[ez,sG,if_neg (by omega),if_neg (by omega),if_neg hl,abn,if_neg hf];rfl⟩
     ·
      have hf:lI (wG (fK l)) (wH (fK l)) z:=hc5;have hf2:=hf;unfold lI at hf2;obtain⟨⟨⟨a1,a2⟩,⟨a3,a4⟩,a5,a6⟩,⟨⟨b1,b2⟩,⟨b3,b4⟩,b5,b6⟩⟩:=hi3;refine ar (k11 _ _ ?_);refine aF fun K16 k16=>aa (aA (aG (c:=0) bP rfl aM rfl rfl) ?_);simp only[zz];refine aI rfl ((m.b 1 rfl).lies1 aV rfl) ?_;simp only[zz];refine aA aB ?_;simp only[zz];refine aA (eH rfl rfl (aO (by omega) (by omega))) (aA (aG (c:=0) bP rfl aM rfl rfl) ?_);simp only[zz];refine aI rfl ((m.b 1 rfl).lies1 aV rfl) ?_;simp only[zz];refine aA aB ?_;simp only[zz];refine aA (eH rfl rfl (aO (by omega) (by omega))) (aA (aG (c:=0) bP rfl aM rfl rfl) ?_);simp only[zz];refine aI rfl ((m.b 1 rfl).lies1 aV rfl) ?_;simp only[zz];refine aA aB ?_;simp only[zz];refine aA (eH rfl rfl (aO (by omega) (by omega))) (aA (bV rfl rfl rfl) ?_);simp only[zz];refine aN m 1 rfl rfl rfl aL (bZ rfl) rfl ?_;clear m;intro u m;simp only[zy,zx,aW,zF,zG,ab] at m;refine aC (k16 _ _ ?_);refine aF fun K17 k17=>aa (aA (aG (c:=0) bP rfl aM rfl rfl) ?_);simp only[zz];refine aI rfl ((m.b 0 rfl).lies1 aV rfl) ?_;simp only[zz];refine aA aB ?_;simp only[zz];refine aA (aZ rfl rfl (aO (by omega) (by omega))) (aA (aG (c:=0) bP rfl aM rfl rfl) ?_);simp only[zz];refine aI rfl ((m.b 0 rfl).lies1 aV rfl) ?_;simp only[zz];refine aA aB ?_;simp only[zz];refine aA (aZ rfl rfl (aO (by omega) (by omega))) (aA (aG (c:=0) bP rfl aM rfl rfl) ?_);simp only[zz];refine aI rfl ((m.b 0 rfl).lies1 aV rfl) ?_;simp only[zz];refine aA aB ?_;simp only[zz];refine aA (aZ rfl rfl (aO (by omega) (by omega))) (aA (bV rfl rfl rfl) ?_);simp only[zz];refine aN m 0 rfl rfl rfl aL (bZ rfl) rfl ?_;clear m;intro u m;simp only[zy,zx,aW,zF,zG,ab] at m;refine aC (k17 _ _ ?_);refine aF fun K18 k18=>aa (aA aB ?_);simp only[zz];refine aI rfl ((m.b 1 rfl).full bG aL) ?_;simp only[zz];refine aI rfl ((m.b 0 rfl).full bG aL) ?_;simp only[zz];refine aA (Ai rfl rfl rfl) (aA (sZ (by kernel_rfl) rfl) (aA aD (aC (k18 _ _ ?_))));refine bc ?_;simp only[zz];try simp only[ac,af,if_true]
      refine bY rfl rfl ?_;try simp only[zD,zE]
      exact⟨_,rfl,m.ext,by rw[ez,sG,if_neg (by omega),if_neg (by omega),if_neg hl,abn,if_pos hf];rfl⟩
 ·
  have ez:gY bs i = -1:=by rw[gY,List.getElem?_eq_none (by rw[hb.len];omega)];rfl
  refine ar (k3 _ _ ?_);refine aF fun K19 k19=>av (aF fun K20 k20=>aa (aA aB (aA (cD (m:=(-1)) (n:=0) rfl rfl (by decide)) (aA aD (aC (k20 _ _ ?_))))));refine bX rfl (aF fun K21 k21=>aa (aA aB ?_));simp only[zz];refine aA (tQ rfl) (aA (sZ (by kernel_rfl) rfl) (aA aD (aC (k21 _ _ ?_))));refine bc ?_;simp only[zz];try simp only[ac,af,if_true]
  refine bY rfl rfl ?_;try simp only[zD,zE]
  exact⟨_,rfl,m.ext,by rw[ez,sG,if_pos (by decide)];rfl⟩
theorem abo{r:gJ}{i:Nat}{kd:Kd}[IR r](ho:kd.other=true)(hk:Qg kd):eB prog 28 [kK r,kdV i kd] (.tuple #[Q ((jO r kd).getD 0),.bool (jO r kd).isSome]):=by
 intro w;refine⟨aes,?_⟩;have m:=cK.refl w
 go_enter func28,ntmps28
 refine aF fun K1 k1=>aa (cQ m rfl ?_);clear m;intro g1 u m;simp only[zz];refine bE m cF rfl ?_;clear m;intro g2 u m;refine aA aD (aC (k1 _ _ ?_));refine aF fun K2 k2=>aF fun K3 k3=>aa (aA aB (aC (k3 _ _ ?_)));refine av (aF fun K4 k4=>?_);simp only[zz];cases kd
 ·
  cases ho
 ·
  cases ho
 ·
  refine aa (aA (Aw (by kernel_rfl) rfl) (aA (aU rfl rfl) (aA (aU rfl rfl) (aC (k4 _ _ ?_)))));refine bX rfl (aF fun K5 k5=>aa ?_);simp only[zz];refine bE m Jc rfl ?_;clear m;intro g3 u m;simp only[zz];refine aN m 0 rfl rfl rfl Wd (bZ rfl) rfl ?_;clear m;intro u m;simp only[zy,zx,aW,zF,zG,ab] at m;refine aC (k5 _ _ ?_);refine aF fun K6 k6=>aa (aX m rfl rfl Ks ?_);clear m;intro u m;simp only[zz];refine aN m 1 rfl rfl rfl aK (bZ rfl) rfl ?_;clear m;intro u m;simp only[zy,zx,aW,zF,zG,ab] at m;refine aA aD (aC (k6 _ _ ?_));refine bc ?_;simp only[zz];try simp only[ac,af,if_true]
  refine kD rfl ⟨_,rfl,((m.b 1 rfl).full bF aK)⟩ rfl ?_;try simp only[zD,zE]
  exact⟨_,rfl,m.ext,rfl⟩
 ·
  rename_i lo hi;obtain⟨hk1,hk2⟩:=hk;haveI:=hk1;haveI:=hk2;refine aa (aA (Ax (by kernel_rfl) Jc (by decide) rfl) (aA (aU rfl rfl) (aA (aU rfl rfl) (aC (k4 _ _ ?_)))));refine eZ rfl (aF fun K7 k7=>aa (aA (Aw (by kernel_rfl) rfl) ?_));simp only[zz];refine aA (aU rfl rfl) (aA (aU rfl rfl) (aC (k7 _ _ ?_)));refine bX rfl (aF fun K8 k8=>aa ?_);simp only[zz];refine bE m Rb rfl ?_;clear m;intro g3 u m;simp only[zz];refine aN m 0 rfl rfl rfl We (bZ rfl) rfl ?_;clear m;intro u m;simp only[zy,zx,aW,zF,zG,ab] at m;refine aC (k8 _ _ ?_);refine aF fun K9 k9=>?_;have hbv:(∃p q,oK r lo hi=some (p,q))∨oK r lo hi=none:=by cases oK r lo hi with | none=>exact .inr rfl | some x=>exact .inl ⟨x.1,x.2,rfl⟩
  refine aa (aI rfl ((m.b 2 rfl).full fR dG) ?_);simp only[zz];refine aA (aG (c:=2) underlying88 rfl aL rfl rfl) ?_;simp only[zz];refine aI rfl ((m.b 0 rfl).lies bG aL rfl rfl) ?_;simp only[zz,zy,ah,ab,ag,ae];refine aA (aG (c:=2) underlying88 rfl aL rfl rfl) ?_;simp only[zz];refine aI rfl ((m.b 0 rfl).lies bG aL rfl rfl) ?_;simp only[zz,zy,ah,ab,ag,ae];refine aX m rfl rfl Zf ?_;clear m;intro u m;refine aA aB ?_;simp only[zz];rw[show abf (oK r lo hi)=.tuple #[Q ((oK r lo hi).getD (0,0)).1,Q ((oK r lo hi).getD (0,0)).2,.bool (oK r lo hi).isSome] by cases oK r lo hi <;> rfl];refine aA (aU rfl rfl) (aA (aU rfl rfl) (aA (aU rfl rfl) ?_));simp only[zz];refine bE m cF rfl ?_;clear m;intro g4 u m;simp only[zz];refine bE m cF rfl ?_;clear m;intro g5 u m;simp only[zz];refine aN m 1 rfl rfl rfl aK (bZ rfl) rfl ?_;clear m;intro u m;simp only[zy,zx,aW,zF,zG,ab] at m;refine aN m 0 rfl rfl rfl aK (bZ rfl) rfl ?_;clear m;intro u m;simp only[zy,zx,aW,zF,zG,ab] at m;refine aA aD (aC (k9 _ _ ?_));refine aF fun K10 k10=>aa ?_;simp only[zz];refine aI rfl ((m.b 1 rfl).full bF aK) ?_;simp only[zz];refine aA aB ?_;simp only[zz];refine aN m 3 rfl rfl rfl aK (bZ rfl) rfl ?_;clear m;intro u m;simp only[zy,zx,aW,zF,zG,ab] at m;refine aA aD (aC (k10 _ _ ?_));refine bc ?_;simp only[zz];try simp only[ac,af,if_true]
  refine kD rfl ⟨_,rfl,((m.b 3 rfl).full bF aK)⟩ rfl ?_;try simp only[zD,zE]
  exact⟨_,rfl,m.ext,by rw[jO];rcases hbv with ⟨p,q,e⟩ | e <;> (rw[e];rfl)⟩
end Go.Proofs.YtimjandkmfcmiaaGreatDoor
namespace Go.Lith
open Go.RowKit
section
variable {α:Type} {enc:α→List aj} {c:Nat} {w w':aw} {A:Option Addr} {n:Nat} {xs:List α}
structure Ut(enc:α→List aj)(c:Nat)(w:aw)(A:Option Addr)(n:Nat)(xs:List α):Prop where
 len:xs.length=n
 row:∀i x,xs[i]? = some x→∃a,A=some a∧qN w (a.add (i*c)) (enc x)
theorem Ut.ext(h:Ut enc c w A n xs)(hE:dU w w'):Ut enc c w' A n xs:=⟨h.len,fun i x hi=>let ⟨a,e,hr⟩:=h.row i x hi;⟨a,e,hr.ext hE⟩⟩
theorem Ut.get(h:Ut enc c w A n xs){i:Nat}(hi:i<n):∃x,xs[i]? = some x∧∃a,A=some a∧qN w (a.add (i*c)) (enc x):=by
 have hl:i<xs.length:=by rw[h.len];exact hi
 exact⟨xs[i],ao hl,h.row i _ (ao hl)⟩
theorem Fb(hc:∀x,(enc x).length=c):∀(xs:List α) (k:Nat),(xs.drop k).flatMap enc=(xs.flatMap enc).drop (k*c)
 | xs,0=>by simp
 | [],k+1=>by simp
 | x::xs,k+1=>by
  rw[List.drop_succ_cons,dv,Fb hc xs k,List.drop_append,hc,List.drop_of_length_le (l:=enc x) (by rw[hc,e_];omega),e_,Nat.one_mul,Nat.add_sub_cancel,List.nil_append]
theorem Zg(hc:∀x,(enc x).length=c){xs:List α}{i:Nat}{x:α}(h:xs[i]? = some x):(xs.flatMap enc).drop (i*c)=enc x++(xs.drop (i+1)).flatMap enc:=by
 rw[←Fb hc,List.drop_eq_getElem_cons (bq.1 h).1,dv,(bq.1 h).2]
theorem Ow.at{w0:aw}{S:List (Option Nat)}{E:be}{cap g i:Nat}{x:α}(hc:∀x,(enc x).length=c)(h:Ow w0 w S E c (Option.some ⟨g,0,none⟩) n cap (xs.flatMap enc))(hx:xs[i]? = Option.some x):qN w ((⟨g,0,none⟩:Addr).add (i*c)) (enc x):=by
 intro j u hj;have hj':j<(enc x).length:=(bq.1 hj).1;rw[jL];refine h.rows _ _ ?_;rw[←cx,Zg hc hx,bv hj'];exact hj
end
theorem Uu{α:Type}{ps:List α}{k:Nat}{p:α}(h:ps[k]? = some p):ps.take (k+1)=ps.take k++[p]:=by
 rw[List.take_add_one,h];rfl
def Qh(p:P3):List aj:=[.int .i64 p.x,.int .i64 p.y,.int .i64 p.z]
end Go.Lith
namespace Go.Lith
open Go.RowKit
def uO(w:aw)(A:Option Addr)(xs:List aj):Prop:=∀j u,xs[j]? = some u→∃a,A=some a∧w.cell? (a.add j)=some u
theorem uO.ext{w w':aw}{A:Option Addr}{xs:List aj}(h:uO w A xs)(hE:dU w w'):uO w' A xs:=fun j u hj=>let ⟨a,e,hc⟩:=h j u hj;⟨a,e,hE.cell hc⟩
abbrev Kt:=List (Option Addr × List aj)
def pW(L:Kt):It where
 own b:=∃e∈L,e.2≠[]∧Bt e.1=some b
 P w:=∀e∈L,uO w e.1 e.2
 lt w b h hb:=by
  obtain⟨⟨A,xs⟩,he,hne,hb⟩:=hb
  match xs,hne with
  | u::us,_ =>
   obtain⟨a,ha,hc⟩:=h _ he 0 u rfl;simp only at ha hb;rw[ha] at hb;cases hb;exact World.block_lt_of_cell? _ _ hc
 st w w' h _ k:=fun e he j u hj=>by
  obtain⟨a,ha,hc⟩:=h e he j u hj;have hb:w'.heap[(a.add j).block]? = w.heap[(a.add j).block]?:=k _ ⟨e,he,fun e0=>(by rw[e0] at hj;cases hj),by rw[ha];show some a.block=_;congr 1;unfold Addr.add;split <;> rfl⟩;exact⟨a,ha,(World.cell?_of_block hb).trans hc⟩
section
variable {w0 w w':aw} {is:List It}
theorem cK.l(m:cK w0 w is)(k:Nat){L:Kt}(hk:is[k]? = some (pW L)):(pW L).P w:=m.get k hk
theorem cK.oR(m:cK w0 w is)(k:Nat){E:be}{c n cap:Nat}{A:Option Addr}{xs:List aj}(hk:is[k]? = some (oI E c A n cap xs)):cK w0 w (is.set k (pW [(A,xs)])) :=
 m.put k hk rfl rfl rfl (bi _) (fun _ _ _=>rfl) (fun e he=>by rw[b_.1 he];exact (m.o k hk).row) (.inl fun b ⟨e,he,_,hb⟩=>by rw[b_.1 he] at hb;exact hb)
theorem cK.join{L1 L2:Kt}(m:cK w0 w (pW L1::is))(k:Nat)(hk:is[k]? = some (pW L2)):cK w0 w (is.set k (pW (L1++L2))):=by
 obtain⟨h1,h2⟩:=ej.1 m.nd;have P1:(pW L1).P w:=m.all _ (cu ..);have P2:(pW L2).P w:=m.tl.get k hk;have g1:=m.ge _ (cu ..);have g2:=m.tl.ge _ (cc hk);refine⟨m.ext,fun i hi=>?_,fun i hi=>?_,Pp is k h2 hk fun x hx ha b hb h3=>?_⟩
 · rcases gt hi with hi | rfl
   · exact m.tl.all i hi
   · exact fun e he=>(dx.1 he).elim (P1 e) (P2 e)
 · rcases gt hi with hi | rfl
   · exact m.tl.ge i hi
   · rintro b ⟨e,he,hb⟩
     exact (dx.1 he).elim (fun h=>g1 b ⟨e,h,hb⟩) (fun h=>g2 b ⟨e,h,hb⟩)
 · obtain⟨e,he,hb⟩:=hb
   rcases dx.1 he with he | he
   · exact h1 x hx b ⟨e,he,hb⟩ h3
   · exact ha b ⟨e,he,hb⟩ h3
theorem cK.plus{js:List It}(m:cK w0 w is)(h:cK w w' js):cK w0 w' (js++is):=by
 have m':=m.ext' h.ext;refine⟨m'.ext,fun i hi=>?_,fun i hi b hb=>?_,la.2 ⟨h.nd,m.nd,fun i hi j hj b h1 h2=>?_⟩⟩
 · exact (dx.1 hi).elim (h.all i) (m'.all i)
 · rcases dx.1 hi with hi | hi
   · exact ak m.ext.size (h.ge i hi b hb)
   · exact m'.ge i hi b hb
 · have k1:=h.ge i hi b h1
   have k2:=j.lt w b (m.all j hj) h2;omega
end
theorem uO.tris{w:aw}{A:Option Addr}{ts:List T3}(h:uO w A (ts.flatMap cX))(hi:∀t∈ts,IT t):dX w A ts.length ts:=by
 refine⟨rfl,hi,fun i t ht=>?_⟩;have hr:∀j u,(cX t)[j]? = some u→(ts.flatMap cX)[i*9+j]? = some u:=fun j u hj=>by
  rw[←cx,qK ts i t ht,bv (bq.1 hj).1];exact hj
 obtain⟨a,e,_⟩:=h _ _ (hr 0 _ rfl);refine⟨a,e,fun j u hj=>?_⟩;obtain⟨a',e',hc⟩:=h _ _ (hr j u hj);rw[e] at e';cases e';rw[jL];exact hc
structure Hd where
 A:Option Addr
 n:Nat
 cap:Nat
def Hd.v(h:Hd):aj:=.slice h.A h.n h.cap
theorem Zh(hs:List Hd):∀u∈hs.map Hd.v,u.oneCell'=true:=fun u hu=>by
 obtain⟨h,_,rfl⟩:=ew.1 hu;rfl
theorem Si{hs:List Hd}{i:Nat}{h:Hd}(hi:i<hs.length):aW (hs.map Hd.v) i [h.v]=(hs.set i h).map Hd.v:=by
 apply List.ext_getElem?;intro j;unfold aW;rw[db,ie,List.append_assoc];rcases Nat.lt_trichotomy j i with hj | hj | hj
 · rw[bv (by rw[bl,dj];omega),List.getElem?_take_of_lt hj,db,if_neg (by omega)]
 · subst hj
   rw[cq (by rw[bl];omega),bl,dj,co (by omega),Nat.sub_self,if_pos rfl,if_pos hi];rfl
 · rw[cq (by rw[bl,dj];omega),bl,dj,co (by omega),if_neg (by omega),cq (by simp;omega),cx,db]
   congr 2
   simp;omega
structure fZ(w:aw)(A:Option Addr)(N:Nat)(xs:List (List T3)):Prop where
 len:xs.length=N
 row:∀i l,xs[i]? = some l→∃a,∃h:Hd,A=some a∧w.cell? (a.add i)=some h.v∧dX w h.A h.n l∧h.n≤h.cap
theorem fZ.ext{w w':aw}{A:Option Addr}{N:Nat}{xs:List (List T3)}(h:fZ w A N xs)(hE:dU w w'):fZ w' A N xs :=
 ⟨h.len,fun i l hi=>let ⟨a,hd,e,hc,ht,hl⟩:=h.row i l hi;⟨a,hd,e,hE.cell hc,ht.ext hE,hl⟩⟩
theorem fZ.get{w:aw}{A:Option Addr}{N i:Nat}{xs:List (List T3)}(h:fZ w A N xs)(hi:i<N):∃l,xs[i]? = some l∧∃a B n c,A=some a∧w.cell? (a.add i)=some (.slice B n c)∧dX w B n l∧n≤c:=by
 have hl:i<xs.length:=by rw[h.len];exact hi
 obtain⟨a,hd,e,hc,ht,hle⟩:=h.row i _ (ao hl);exact⟨xs[i],ao hl,a,hd.A,hd.n,hd.cap,e,hc,ht,hle⟩
def pT(L:Kt)(h:Hd)(l:List T3):Prop:=h.n≤h.cap∧∀w,(pW L).P w→dX w h.A h.n l
structure Ic(L:Kt)(hs:List Hd)(xs:List (List T3)):Prop where
 len:hs.length=xs.length
 at_:∀(i:Nat) (h:Hd) (l:List T3),hs[i]? = some h→xs[i]? = some l→pT L h l
theorem pT.mono{L L':Kt}{h:Hd}{l:List T3}(s:pT L h l)(hL:∀e∈L,e∈L'):pT L' h l:=⟨s.1,fun w hw=>s.2 w fun e he=>hw e (hL e he)⟩
theorem pT.nil(L:Kt):pT L ⟨none,0,0⟩ []:=⟨bi _,fun w _=>dX.nil w none⟩
theorem pT.one{A:Option Addr}{ts:List T3}{cap:Nat}(hi:∀t∈ts,IT t)(hc:ts.length≤cap):pT [(A,ts.flatMap cX)] ⟨A,ts.length,cap⟩ ts :=
 ⟨hc,fun w hw=>uO.tris (hw _ (b_.2 rfl)) hi⟩
theorem dX.takeL{w:aw}{A:Option Addr}{N k:Nat}{ts:List T3}(h:dX w A N ts)(hk:k≤N):dX w A k (ts.take k) :=
 ⟨by rw[bl,h.len];exact co hk,fun t ht=>h.it t (fd ht),fun i t hi=>by
  rw[List.getElem?_take] at hi;split at hi
  · exact h.row i t hi
  · cases hi⟩
theorem dX.dropL{w:aw}{A:Option Addr}{N k cap:Nat}{ts:List T3}(h:dX w A N ts)(hk:k≤N)(hc:N≤cap):dX w (if cap=k then A else A.map (·.add (k*9))) (N-k) (ts.drop k) :=
 ⟨by rw[List.length_drop,h.len],fun t ht=>h.it t (ia ht),fun i t hi=>by
  rw[cx] at hi;obtain⟨a,e,hr⟩:=h.row _ t hi;have hl:=(bq.1 hi).1;rw[h.len] at hl;rw[if_neg (by omega),e];refine⟨_,rfl,?_⟩;rw[jL,←e_];exact hr⟩
theorem pT.take{L:Kt}{A:Option Addr}{N k cap:Nat}{ts:List T3}(s:pT L ⟨A,N,cap⟩ ts)(hk:k≤N):pT L ⟨A,k,cap⟩ (ts.take k):=⟨ak hk s.1,fun w hw=>(s.2 w hw).takeL hk⟩
theorem pT.drop{L:Kt}{A:Option Addr}{N k cap:Nat}{ts:List T3}(s:pT L ⟨A,N,cap⟩ ts)(hk:k≤N):pT L ⟨if cap=k then A else A.map (·.add (k*9)),N-k,cap-k⟩ (ts.drop k):=⟨Nat.sub_le_sub_right s.1 k,fun w hw=>(s.2 w hw).dropL hk s.1⟩
theorem Ic.nil(L:Kt):Ic L [] []:=⟨rfl,fun i h l hi=>by cases hi⟩
theorem Ic.mono{L L':Kt}{hs:List Hd}{xs:List (List T3)}(c:Ic L hs xs)(hL:∀e∈L,e∈L'):Ic L' hs xs:=⟨c.len,fun i h l h1 h2=>(c.at_ i h l h1 h2).mono hL⟩
theorem Ic.snoc{L:Kt}{hs:List Hd}{xs:List (List T3)}{h:Hd}{l:List T3}(c:Ic L hs xs)(s:pT L h l):Ic L (hs++[h]) (xs++[l]):=by
 refine⟨by simp[c.len],fun i h' l' h1 h2=>?_⟩;rcases Nat.lt_or_ge i hs.length with hi | hi
 · rw[bv hi] at h1
   rw[bv (by rw[←c.len];exact hi)] at h2;exact c.at_ i h' l' h1 h2
 · rw[cq hi] at h1
   rw[cq (by rw[←c.len];exact hi),←c.len] at h2;cases hd:i-hs.length with
   | zero=>rw[hd] at h1 h2;cases h1;cases h2;exact s
   | succ j=>rw[hd] at h1;cases h1
theorem Ic.set{L:Kt}{hs:List Hd}{xs:List (List T3)}{h:Hd}{l:List T3}{k:Nat}(c:Ic L hs xs)(s:pT L h l):Ic L (hs.set k h) (xs.set k l):=by
 refine⟨by simp[c.len],fun i h' l' h1 h2=>?_⟩;rw[ie] at h1 h2;by_cases hk:k=i
 · rw[if_pos hk] at h1 h2
   have hl:=c.len;split at h1
   · rw[if_pos (by omega)] at h2
     cases h1;cases h2;exact s
   · cases h1
 · rw[if_neg hk] at h1 h2
   exact c.at_ i h' l' h1 h2
theorem Ic.lists{L:Kt}{hs:List Hd}{xs:List (List T3)}(c:Ic L hs xs){w:aw}{A:Option Addr}{N:Nat}(hN:hs.length=N)(hr:uO w A (hs.map Hd.v))(hL:(pW L).P w):fZ w A N xs:=by
 refine⟨by rw[←c.len];exact hN,fun i l hi=>?_⟩;have hl:=(bq.1 hi).1;rw[←c.len] at hl;have h1:hs[i]? = some hs[i]:=ao hl;obtain⟨a,e,hc⟩:=hr i hs[i].v (by rw[db,h1];rfl);have s:=c.at_ i _ l h1 hi;exact⟨a,hs[i],e,hc,s.2 w hL,s.1⟩
theorem cK.lists{w0 w:aw}{is:List It}(m:cK w0 w is){L:Kt}{hs:List Hd}{xs:List (List T3)}(c:Ic L hs xs)(k j:Nat){E:be}{A:Option Addr}{n cap:Nat}(hk:is[k]? = some (oI E 1 A n cap (hs.map Hd.v)))(hj:is[j]? = some (pW L)):fZ w A n xs:=by
 have ho:=m.o k hk;refine c.lists ?_ ho.row (m.l j hj);have:=ho.own.1;rw[dj,Nat.mul_one] at this;exact this
end Go.Lith
