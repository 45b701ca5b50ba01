/-
 Texts of one claim, laid together: RayY2, RayS, Surf1, Surf3, Surf1b, RayC, Chk, RayX.
-/
import Derived.Test.YtimjandkmfcmiaaGreatDoorTA8
open Go renaming wp_region_lit→aa,wp_skip→ar,wp_block→av,World→aw,wp_ret→bc,wpList→bh,wp_exit→bw,wpQuiet→ck
open Nat renaming reduceAdd→ab,reduceMul→ag,zero_add→ah,le_trans→ak,le_refl→bi,zero_le→cd,lt_or_ge→cn,min_eq_left→co,mod_lt→ft
open Go.Exit renaming inBlock→ac,«then»→af
open Int renaming reduceToNat→ae,toNat_natCast→an,natCast_nonneg→jl
open Rat renaming divInt→am
open List renaming getElem?_eq_getElem→ao,length_append→bg,getElem?_eq_none→bj,replicate→bk,take_of_length_le→bp,map_append→br,eq_nil_of_length_eq_zero→bz,mem_singleton→b_,mem_of_getElem?→cc,length_cons→ci,flatMap_append→cr,mem_cons_self→cu,take_length→c_,getElem?_map→db,length_map→dj,append_nil→du,nil_append→dy,cons_append→ep,append_assoc→et,length_nil→eu,mem_map→ew,getElem?_set_ne→fl,drop_of_length_le→fq,mem_append_left→ic,length_pos_iff→jb,flatten_cons→lx,length_set→mg
open Bool renaming and_eq_true→bu
open Option renaming getD_some→dt,eq_none_or_eq_some→kh,isSome_some→ko
open Go.Value renaming int→gi
open Option.some renaming inj→jo
set_option maxHeartbeats 8000000
set_option linter.unusedSimpArgs false
set_option linter.unusedVariables false
set_option linter.unusedSectionVars false
namespace Go.Proofs.YtimjandkmfcmiaaGreatDoor
open Go.Proofs.Tryz
open Go.RowKit Go.Lith
abbrev gU:=@underlying163
set_option maxRecDepth 100000
attribute [local irreducible] bh ck eY eO eJ Code.wp
theorem Nd{l:List T3}{b:Int}(h:b=0):sG l b=.ex:=by subst h;rfl
theorem ad4{l:List T3}{b:Int}(h:b≠0):(sG l b).isEx=false:=by
 unfold sG
 repeat' split
 all_goals first | rfl | exact absurd (by assumption) h
theorem Oa{bs:List Int}{xs:List (List T3)}{k:Nat}{x:Nat × Kd}(h:x∈cG bs (xs.take k)):x∈cG bs xs:=by
 unfold cG at h ⊢;obtain⟨ys,e⟩:∃ys,xs=xs.take k++ys:=⟨_,(List.take_append_drop k xs).symm⟩
 rw[e,List.zipIdx_append,cr];exact ic _ h
theorem rI{r:gJ}{h:Option (Rat × Nat)}{bs:List Int}{xs:List (List T3)}{l:List T3}{k:Nat}(hl:xs[k]? = some l):dB r h (cG bs (xs.take (k+1)))=dB r h (cG bs (xs.take k))++pG r h (k,sG l (gY bs k)):=by
 rw[oL hl];unfold dB;rw[cr]
 congr 1
 cases sG l (gY bs k) <;> first | rfl | exact du _
theorem aac{w:aw}{B:Option Addr}{M:Nat}{bs:List Int}(h:dH w B M bs)(i:Nat):Iw (gY bs i):=by
 unfold gY;cases e:bs[i]? with
 | none=>exact⟨⟨by decide,by decide⟩⟩
 | some z=>exact⟨h.it z (cc e)⟩
theorem Fp{r:gJ}{bs:List Int}{xs:List (List T3)}(hok:r.ok)(h:bH r (bU bs xs)=none)(ho:dB r (bH r (bU bs xs)) (cG bs xs)=[]):iO r xs bs=⟨2,0,0,false,[]⟩:=by
 rw[iO,if_pos hok,ho,h];rfl
theorem Ld{r:gJ}{bs:List Int}{xs:List (List T3)}{x:Rat × Nat}(hok:r.ok)(h:bH r (bU bs xs)=some x)(ho:dB r (bH r (bU bs xs)) (cG bs xs)=[]):iO r xs bs=⟨1,x.1,x.1,false,[]⟩:=by
 rw[iO,if_pos hok,ho,h];rfl
theorem tG{r:gJ}{bs:List Int}{xs:List (List T3)}(hok:r.ok)(ho:dB r (bH r (bU bs xs)) (cG bs xs)≠[]) :
 iO r xs bs=⟨3,tJ (dB r (bH r (bU bs xs)) (cG bs xs)),mZ (bH r (bU bs xs)),(bH r (bU bs xs)).isSome,(dB r (bH r (bU bs xs)) (cG bs xs)).map fun x=>(x.1:Int)⟩:=by
 rw[iO,if_pos hok];exact if_pos ho
theorem Qu{r:gJ}[IR r]{N cap M bcap:Nat}{A B:Option Addr}{xs:List (List T3)}{bs:List Int}(w:aw)(hS:fZ w A N xs)(hb:dH w B M bs)(hN:N≤1000000)(hT:xs.flatten.length≤1099511627776)(hL:∀l∈xs,l.length≤300000):gZ prog 16 [kK r,.slice A N cap,.slice B M bcap] w (Zi (iO r xs bs) w):=by
 refine⟨aei,?_⟩;have m:=cK.refl w;have hIT:∀t∈bU bs xs,IT t:=fun t ht=>by obtain⟨i,l,hi,_,hl⟩:=Nf.1 ht;obtain⟨_,_,_,_,hq,_⟩:=hS.row i l hi;exact hq.it t hl
 have hko:∀x∈cG bs xs,Qg x.2:=fun x hx=>by obtain⟨l,hl,e,_⟩:=Eu.1 (show (x.1,x.2)∈_ from hx);obtain⟨_,_,_,_,hq,_⟩:=hS.row _ l hl;rw[e];exact Sg hq.it (Ku hb)
 have hsl:=hS.len
 go_enter func16,ntmps16
 refine aF fun K1 k1=>aa (cQ m rfl ?_);clear m;intro g1 u m;simp only[zz];refine bE m rL rfl ?_;clear m;intro g2 u m;refine aC (k1 _ _ ?_);refine aF fun K2 k2=>aa ?_;simp only[zz];refine aX m rfl rfl lC ?_;clear m;intro u m;simp only[zz];refine bE m cF rfl ?_;clear m;intro g3 u m;simp only[zz];refine aN m 0 rfl rfl rfl aK (bZ rfl) rfl ?_;clear m;intro u m;simp only[zy,zx,aW,zF,zG,ab] at m;refine aC (k2 _ _ ?_);refine aF fun K3 k3=>aa (aI rfl ((m.b 0 rfl).full bF aK) ?_);simp only[zz];refine aI rfl ((m.b 0 rfl).full bF aK) ?_;simp only[zz];refine aA (lV rfl rfl rfl) ?_;simp only[zz];refine bE m rL rfl ?_;clear m;intro g4 u m;simp only[zz];refine aN m 0 rfl rfl rfl eI (bZ rfl) rfl ?_;clear m;intro u m;simp only[zy,zx,aW,zF,zG,ab] at m;refine aC (k3 _ _ ?_);refine aF fun K4 k4=>?_;rcases Decidable.em r.ok with hok | hok
 ·
  refine aa (aI rfl ((m.b 3 rfl).full fR dG) ?_);simp only[zz];refine aX m rfl rfl (vM hok) ?_;clear m;intro u m;refine aA aD (aC (k4 _ _ ?_));refine aF fun K5 k5=>aF fun K6 k6=>aa (aA aB (aA (fM rfl) ?_));simp only[zz];refine aC (k6 _ _ ?_);refine eZ rfl (ar (k5 _ _ ?_));refine aF fun K7 k7=>aa (aA aD ?_);replace m:=m.nilO 58 9;refine aC (k7 _ _ ?_);refine aF fun K8 k8=>aF fun K9 k9=>aa (aA aD (aC (k9 _ _ ?_)));refine av ?_;simp only[zz];try simp only[ah,ab,ag,ae]
  refine dI [10,11] [27,28,29,30,31,32,33,34,35,36,37,38,39,40,41,42] (fun n vs wl=>∃(k n1 cap1:Nat) (A1:Option Addr),vs=[.slice A1 n1 cap1,.int .i64 (k:Int)]∧cK w wl [oI 58 9 A1 n1 cap1 ((bU bs (xs.take k)).flatMap cX),bI g4 [.int .i64 2,.bool (cY ((0:Rat)).num),.string (dQ ((0:Rat)).num),.bool (cY (((0:Rat)).den:Int)),.string (dQ (((0:Rat)).den:Int)),.bool (cY ((0:Rat)).num),.string (dQ ((0:Rat)).num),.bool (cY (((0:Rat)).den:Int)),.string (dQ (((0:Rat)).den:Int)),.bool false,.slice none 0 0] 39,bI g3 [.bool (cY ((0:Rat)).num),.string (dQ ((0:Rat)).num),.bool (cY (((0:Rat)).den:Int)),.string (dQ (((0:Rat)).den:Int))] 37,bI g2 [.int .i64 0,.bool false,.string ⟨#[]⟩,.bool false,.string ⟨#[]⟩,.bool false,.string ⟨#[]⟩,.bool false,.string ⟨#[]⟩,.bool false,.slice none 0 0] 39,bI g1 [.int .i64 r.s.x,.int .i64 r.s.y,.int .i64 r.s.z,.int .i64 r.w,.int .i64 r.d.x,.int .i64 r.d.y,.int .i64 r.d.z] 25]∧(n1=(bU bs (xs.take k)).length)∧(k≤N)∧(n=N-k)) ?_ ?_
  ·
   apply Exists.intro;simp only[zQ,zR,zD,zE];exact⟨0,_,_,_,rfl,m,rfl,cd _,rfl⟩
  ·
   intro n vs wr hI u;clear m;obtain⟨k,n1,cap1,A1,rfl,m,hn1,hk,hn⟩:=hI;simp only[zu,zF,zG];refine aF fun K10 k10=>aF fun K11 k11=>aa (aA aB (aA aB (aA (bR rfl kW rfl) (aA (dZ rfl rfl) ?_))));simp only[zz];refine aC (k11 _ _ ?_);refine cW rfl (fun hc2=>?_) (fun hc2=>?_)
   ·
    obtain⟨l,hl,a,Bl,nl,cl,rfl,hcell,hTl,hle⟩:=hS.get (i:=k) (by omega);refine ar (k10 _ _ ?_);refine aF fun K12 k12=>av (aF fun K13 k13=>aa (aA aB (aA aB ?_)));simp only[zz];refine fJ m rfl rfl (Fh (i:=k) _ (hb.ext m.ext)) ?_;clear m;rintro v u m rfl;refine aA (mF rfl rfl) (aC (k13 _ _ ?_));simp only[zz];refine cW rfl (fun hc3=>?_) (fun hc3=>?_)
    ·
     have hs1:bU bs (xs.take (k+1))=bU bs (xs.take k)++l:=by rw[qL hl,Nd hc3];rfl
     have hsl1:=yZ (bs:=bs) (ls:=xs) k;have hsl2:=Az hl;have hsl3:=hTl.len;refine aa (aA aB (aA aB (aA aB ?_)));simp only[zz];refine aA (aS kW nM rfl rfl (by omega) (by omega) (fH (an _))) ?_;simp only[zz];refine aI rfl (Lith.lies1 (m.ext.cell hcell) Jb) ?_;simp only[zz];refine eM m 0 rfl rfl iW rX rfl (by decide) rfl rfl (by rw[Ct,hTl.len]) (dX.cells (hTl.ext m.ext)) (oZ _) (by omega) (by omega) ?_;clear m;intro A1 cap1 u m;simp only[zF,zG] at m;refine aA aD (aC (k12 _ _ ?_));refine aa (aA aB ?_);simp only[zz];refine aA (aZ rfl rfl (aO (by omega) (by omega))) (aA aD (aC ?_));simp only[zz];simp only[ac,af];refine⟨N-(k+1),_,?_,rfl,?_,?_⟩
     · omega
     · simp only[zz,zv]
     ·
      simp only[zQ,zR,zD,zE];exact⟨k+1,_,_,_,rfl,(m.reO 0 rfl (by rw[hs1,cr];exact (m.o 0 rfl))),by rw[hs1,bg,hn1,hTl.len],by omega,rfl⟩
    ·
     have hs1:bU bs (xs.take (k+1))=bU bs (xs.take k):=by rw[qL hl,ad4 hc3];exact du _
     refine ar (k12 _ _ ?_);refine aa (aA aB ?_);simp only[zz];refine aA (aZ rfl rfl (aO (by omega) (by omega))) (aA aD (aC ?_));simp only[zz];simp only[ac,af];refine⟨N-(k+1),_,?_,rfl,?_,?_⟩
     · omega
     · simp only[zz,zv]
     ·
      simp only[zQ,zR,zD,zE];exact⟨k+1,_,_,_,rfl,(m.reO 0 rfl (by rw[hs1];exact (m.o 0 rfl))),by rw[hs1];exact hn1,by omega,rfl⟩
   ·
    have hkN:xs.take k=xs:=bp (by omega);rw[hkN] at m hn1;have hsl1:=yZ (bs:=bs) (ls:=xs) xs.length;rw[c_] at hsl1;refine bw (k8 _ _ ?_);refine aF fun K14 k14=>aa (aI rfl ((m.b 4 rfl).full fR dG) ?_);simp only[zz];refine aA aB ?_;simp only[zz];refine fJ m rfl rfl (Qt (ts:=bU bs xs) _ ((m.o 0 rfl).tris hIT) (by omega)) ?_;clear m;rintro v u m ⟨hk9,rfl⟩;refine aA aB (aA (aU rfl rfl) (aA (aU rfl rfl) ?_));simp only[zz];refine bE m rM rfl ?_;clear m;intro g5 u m;simp only[zz];refine aN m 0 rfl rfl rfl kA (bZ rfl) rfl ?_;clear m;intro u m;simp only[zy,zx,aW,zF,zG,ab] at m;refine aA aD (aC (k14 _ _ ?_));refine aF fun K15 k15=>aF fun K16 k16=>?_;simp only[zz];replace m:=m.nilO 3 1;refine aa (aA aD (aC (k16 _ _ ?_)));refine av ?_;simp only[zz];try simp only[ah,ab,ag,ae]
    refine dI [14] [15,16,17,49,50,51,52,53,54,55,56,57,58,59,60,61,62,63,64,65,66,67,68,69,70,71,72,73,74,75,76,77,78,79,80,81,82,83,84,85,86,87,88,89,90,91,92,93,94,95,96,97,98,99,100] (fun n vs wl=>∃(k n3 cap3:Nat) (A3:Option Addr),vs=[.int .i64 (k:Int)]∧cK w wl [oI 3 1 A3 n3 cap3 (fO (dB r (bH r (bU bs xs)) (cG bs (xs.take k)))),bI g5 [.bool (cY (mZ (bH r (bU bs xs))).num),.string (dQ (mZ (bH r (bU bs xs))).num),.bool (cY ((mZ (bH r (bU bs xs))).den:Int)),.string (dQ ((mZ (bH r (bU bs xs))).den:Int)),.int .i64 hk9] 43,bI g4 [.int .i64 2,.bool (cY (tJ (dB r (bH r (bU bs xs)) (cG bs (xs.take k)))).num),.string (dQ (tJ (dB r (bH r (bU bs xs)) (cG bs (xs.take k)))).num),.bool (cY ((tJ (dB r (bH r (bU bs xs)) (cG bs (xs.take k)))).den:Int)),.string (dQ ((tJ (dB r (bH r (bU bs xs)) (cG bs (xs.take k)))).den:Int)),.bool (cY ((0:Rat)).num),.string (dQ ((0:Rat)).num),.bool (cY (((0:Rat)).den:Int)),.string (dQ (((0:Rat)).den:Int)),.bool false,.slice A3 n3 cap3] 39,bI g3 [.bool (cY ((0:Rat)).num),.string (dQ ((0:Rat)).num),.bool (cY (((0:Rat)).den:Int)),.string (dQ (((0:Rat)).den:Int))] 37,bI g2 [.int .i64 0,.bool false,.string ⟨#[]⟩,.bool false,.string ⟨#[]⟩,.bool false,.string ⟨#[]⟩,.bool false,.string ⟨#[]⟩,.bool false,.slice none 0 0] 39,bI g1 [.int .i64 r.s.x,.int .i64 r.s.y,.int .i64 r.s.z,.int .i64 r.w,.int .i64 r.d.x,.int .i64 r.d.y,.int .i64 r.d.z] 25]∧(n3=(dB r (bH r (bU bs xs)) (cG bs (xs.take k))).length)∧(k≤N)∧(n=N-k)) ?_ ?_
    ·
     apply Exists.intro;simp only[zQ,zR,zD,zE];exact⟨0,0,0,none,rfl,(m.sel [true,true,false,true,true,true,true]),rfl,cd _,rfl⟩
    ·
     intro n vs wr hI u;clear m;obtain⟨k,n3,cap3,A3,rfl,m,hn3,hk,hn⟩:=hI;simp only[zu,zF,zG];refine aF fun K17 k17=>aF fun K18 k18=>aa (aA aB (aA aB (aA (bR rfl kW rfl) (aA (dZ rfl rfl) ?_))));simp only[zz];refine aC (k18 _ _ ?_);refine cW rfl (fun hc4=>?_) (fun hc4=>?_)
     ·
      obtain⟨l,hl,a,Bl,nl,cl,rfl,hcell,hTl,hle⟩:=hS.get (i:=k) (by omega);haveI:=aac hb k;refine ar (k17 _ _ ?_);refine aF fun K19 k19=>av (aF fun K20 k20=>aa (aA aB (aA aB ?_)));simp only[zz];refine fJ m rfl rfl (Fh (i:=k) _ (hb.ext m.ext)) ?_;clear m;rintro v u m rfl;refine aA aD (aC (k20 _ _ ?_));refine aF fun K21 k21=>aF fun K22 k22=>aa (aA aB (aA (mF rfl rfl) ?_));simp only[zz];refine aC (k22 _ _ ?_);refine cW rfl (fun hc5=>?_) (fun hc5=>?_)
      ·
       have ho4:pG r (bH r (bU bs xs)) (k,sG l (gY bs k))=[]:=by rw[Nd hc5];rfl
       have hon:dB r (bH r (bU bs xs)) (cG bs (xs.take (k+1)))=dB r (bH r (bU bs xs)) (cG bs (xs.take k)):=by rw[rI hl,ho4,du]
       refine bw (k19 _ _ ?_);refine aa (aA aB ?_);simp only[zz];refine aA (aZ rfl rfl (aO (by omega) (by omega))) (aA aD (aC ?_));simp only[zz];simp only[ac,af];refine⟨N-(k+1),_,?_,rfl,?_,?_⟩
       · omega
       · simp only[zz,zv]
       ·
        simp only[zQ,zR,zD,zE];exact⟨k+1,_,_,_,rfl,((m.re 2 rfl (by rw[hon];exact (m.b 2 rfl))).reO 0 rfl (by rw[hon];exact (m.o 0 rfl))),by rw[hon];exact hn3,by omega,rfl⟩
      ·
       have hc6:gY bs k≠0:=hc5;refine ar (k21 _ _ ?_);refine aF fun K23 k23=>?_;apply Ce m (T1:=37)
       ·
        refine lG m [true,true,true,true,true,true] (.take 0 (.take 1 (.take 2 (.take 3 (.take 4 (.take 5 (.two 6 (.take 7 (.take 8 (.take 9 (.one 10 (.one 11 (.take 12 .nil)))))) 10 (.one 6 (.take 7 (.take 8 (.take 9 (.one 11 (.take 12 .nil))))))))))))) aP (by kernel_rfl) (fun _ _ _ _ _ h=>by cases h.1) ?_;intro u m;refine aY (by simp only[zw];rfl) (cO rfl (fun u m=>((m.b 5 rfl).full fR dG)) ?_);simp only[zz];refine bB (aY (by simp only[zw];rfl) (bA aB (bB (aY (by simp only[zw];rfl) (bA aB (bB (aY (by simp only[zw];rfl) ?_)))))));simp only[zz];refine bA (aS kW nM rfl rfl (by omega) (by omega) (fH (an _))) (bB (aY (by simp only[zw];rfl) ?_));simp only[zz];refine cO rfl (fun u m=>(Lith.lies1 (m.ext.cell hcell) Jb)) ?_;simp only[zz];refine bB (aY (by simp only[zw];rfl) (bA aB (bB ?_)));simp only[zz];refine iM (by simp only[zw];rfl) (by simp only[zw];rfl) ?_ ?_
        ·
         refine fJ m rfl rfl (Nz (r:=r) (l:=l) (b:=gY bs k) _ (hTl.ext m.ext) (by rw[←hTl.len];exact hL l (cc hl)) hc6) ?_;clear m;rintro v u m rfl;refine aC (⟨m,?_⟩);refine aY (by simp only[zw];rfl) (bA aB (bB (aY (by simp only[zw];rfl) (bA (aU rfl rfl) (bB (aY (by simp only[zw];rfl) (bA (aU rfl rfl) ?_)))))));simp only[zz];refine bB (bQ (by simp only[zw];rfl) ?_);refine bE m cF rfl ?_;clear m;intro g6 u m;refine aC (⟨m.sel [false,true,true,true,true,true,true],?_⟩);refine bQ (by simp only[zw];rfl) ?_;simp only[zz];refine aN m 0 rfl rfl rfl aK (bZ rfl) rfl ?_;clear m;intro u m;simp only[zy,zx,aW,zF,zG,ab] at m;refine aC (⟨m.sel [false,true,true,true,true,true,true],?_⟩);refine aY (by simp only[zw];rfl) (bA aD (bB (eV ?_)));exact⟨rfl,g6,rfl,m⟩
        ·
         refine bE m cF rfl ?_;clear m;intro g6 u m;refine aC (⟨m.sel [false,true,true,true,true,true,true],?_⟩);refine bQ (by simp only[zw];rfl) ?_;simp only[zz];refine fJ m rfl rfl (Nz (r:=r) (l:=l) (b:=gY bs k) _ (hTl.ext m.ext) (by rw[←hTl.len];exact hL l (cc hl)) hc6) ?_;clear m;rintro v u m rfl;refine aC (⟨m.sel [false,true,true,true,true,true,true],?_⟩);refine aY (by simp only[zw];rfl) (bA aB (bB (aY (by simp only[zw];rfl) (bA (aU rfl rfl) (bB (aY (by simp only[zw];rfl) (bA (aU rfl rfl) ?_)))))));simp only[zz];refine bB (bQ (by simp only[zw];rfl) ?_);refine aN m 0 rfl rfl rfl aK (bZ rfl) rfl ?_;clear m;intro u m;simp only[zy,zx,aW,zF,zG,ab] at m;refine aC (⟨m.sel [false,true,true,true,true,true,true],?_⟩);refine aY (by simp only[zw];rfl) (bA aD (bB (eV ?_)));exact⟨rfl,g6,rfl,m⟩
       intro g6 u m;try dsimp only
       refine k23 _ _ ?_;refine aF fun K24 k24=>aF fun K25 k25=>?_;rcases aca r (bH r (bU bs xs)) (k,sG l (gY bs k)) with ⟨hq,ho4⟩ | ⟨q,hq,hh,ho4⟩ | ⟨q,t,kk,hq,hh,ho4⟩
       ·
        have hq:jO r (sG l (gY bs k))=none:=hq;have hon:dB r (bH r (bU bs xs)) (cG bs (xs.take (k+1)))=dB r (bH r (bU bs xs)) (cG bs (xs.take k)):=by rw[rI hl,ho4,du]
        rw[hq];simp only[Option.isSome_none,Option.getD_none];refine aa (aA aB (aA (fM rfl) (aA aB (bK rfl ?_))));simp only[zz];refine bK rfl (dY rfl (dY rfl (dY rfl ?_)));simp only[zz];refine dY rfl (dY rfl (bK rfl (aA (cT rfl) ?_)));simp only[zz];refine aC (k25 _ _ ?_);refine bX rfl (bw (k19 _ _ ?_));refine aa (aA aB ?_);simp only[zz];refine aA (aZ rfl rfl (aO (by omega) (by omega))) (aA aD (aC ?_));simp only[zz];simp only[ac,af];refine⟨N-(k+1),_,?_,rfl,?_,?_⟩
        · omega
        · simp only[zz,zv]
        ·
         simp only[zQ,zR,zD,zE];exact⟨k+1,_,_,_,rfl,(((m.re 3 rfl (by rw[hon];exact (m.b 3 rfl))).reO 1 rfl (by rw[hon];exact (m.o 1 rfl))).sel [false,true,true,true,true,true,true]),by rw[hon];exact hn3,by omega,rfl⟩
       ·
        have hq:jO r (sG l (gY bs k))=some q:=hq;have hon:dB r (bH r (bU bs xs)) (cG bs (xs.take (k+1)))=dB r (bH r (bU bs xs)) (cG bs (xs.take k))++[(k,q)]:=by rw[rI hl,ho4]
        have hbq:=tD (r:=r) (Sg hTl.it (Ku hb)) hq;rw[hq];rw[hq] at m;simp only[ko,dt] at m ⊢;refine aa (aA aB (aA (fM rfl) (aA aB (aR rfl ?_))));simp only[zz];refine aA (xR aB (show (Value.bool (bH r (bU bs xs)).isSome)=.bool false by rw[hh];rfl)) (aR rfl (aA aB (bO rfl (bO rfl ?_))));simp only[zz];refine bO rfl (bO rfl (bO rfl (aR rfl (aA (cV rfl) ?_))));simp only[zz];refine aA (cV rfl) (aC (k25 _ _ ?_));refine eZ rfl (ar (k24 _ _ ?_));refine aF fun K26 k26=>aF fun K27 k27=>?_;simp only[zz];have hlen2:(dB r (bH r (bU bs xs)) (cG bs (xs.take k))).length≤k:=by
         have h1:=mO (r:=r) (h:=bH r (bU bs xs)) (cG bs (xs.take k));have h2:=rF (bs:=bs) (ls:=xs) k;omega
        rcases Decidable.em (dB r (bH r (bU bs xs)) (cG bs (xs.take k))=[]) with hoe | hoe
        ·
         have hlo:tJ (dB r (bH r (bU bs xs)) (cG bs (xs.take (k+1))))=q:=by rw[hon,hoe];rfl
         refine aa (aA (aG (c:=0) dF rfl bW rfl rfl) ?_);simp only[zz];refine aI rfl ((m.b 3 rfl).lies1 fQ rfl) ?_;simp only[zz];refine aA (bR rfl bM rfl) (aA (pL rfl rfl (by rw[hn3,hoe];rfl)) (aA aB (bK rfl ?_)));simp only[zz];refine bK rfl (bK rfl (bK rfl (bK rfl ?_)));simp only[zz];refine aA (cT rfl) (aC (k27 _ _ ?_));refine bX rfl (aa ?_);simp only[zz];refine aI rfl ((m.b 0 rfl).full bF aK) ?_;simp only[zz];refine aA (aG (c:=3) dF rfl aK rfl rfl) ?_;simp only[zz];refine aN (off:=1) m 3 rfl rfl rfl aK (bZ rfl) rfl ?_;clear m;intro u m;simp only[zy,zx,aW,zF,zG,ab] at m;refine aC (k26 _ _ ?_);refine aa (aA (aG (c:=0) dF rfl bW rfl rfl) ?_);simp only[zz];refine aI rfl ((m.b 3 rfl).lies1 fQ rfl) ?_;simp only[zz];refine aA aB ?_;simp only[zz];refine cN bM (z:=.int .i64 0) (by kernel_rfl) rfl rfl rfl ?_;intro u g7 e hg hB;replace m:=m.newB e hg hB;clear e hg hB;simp only[zz];refine eM m 2 rfl rfl bM iF rfl (by decide) rfl rfl rfl (m.b 0 rfl).rowsO (lY rfl) (by omega) (by omega) ?_;clear m;intro A3 cap3 u m;simp only[zF,zG] at m;refine aA (aG (c:=0) dF rfl bW rfl rfl) ?_;simp only[zz];refine dL (off:=10) m 4 rfl rfl rfl bW (bZ rfl) ⟨rfl,rfl⟩ ?_;clear m;intro u m;simp only[zz,zy,zx,aW,ab] at m;refine aC (k19 _ _ ?_);refine aa (aA aB ?_);simp only[zz];refine aA (aZ rfl rfl (aO (by omega) (by omega))) (aA aD (aC ?_));simp only[zz];simp only[ac,af];refine⟨N-(k+1),_,?_,rfl,?_,?_⟩
         · omega
         · simp only[zz,zv]
         ·
          simp only[zQ,zR,zD,zE];exact⟨k+1,_,_,_,rfl,(((m.re 4 rfl (by rw[hlo];exact (m.b 4 rfl))).reO 2 rfl (by rw[hon];exact (m.o 2 rfl).as (by rw[fO,fO,br];rfl))).sel [false,false,true,true,true,true,true,true]),by rw[hon,bg,hn3];rfl,by omega,rfl⟩
        ·
         have hbo:=Sj (r:=r) (h:=bH r (bU bs xs)) (xs:=cG bs (xs.take k)) (fun x hx=>hko x (Oa hx));have hlp:=jb.2 hoe;refine aa (aA (aG (c:=0) dF rfl bW rfl rfl) ?_);simp only[zz];refine aI rfl ((m.b 3 rfl).lies1 fQ rfl) ?_;simp only[zz];refine aA (bR rfl bM rfl) (aA (mU rfl rfl (by omega)) (aA aB (aR rfl ?_)));simp only[zz];refine aI rfl ((m.b 0 rfl).full bF aK) ?_;simp only[zz];refine aR rfl (aA (aG (c:=3) dF rfl aK rfl rfl) (aR rfl ?_));simp only[zz];refine aI rfl ((m.b 3 rfl).lies bF aK rfl rfl) ?_;simp only[zz,zy,ah,ab,ag,ae];refine aR rfl (aX m rfl rfl (kJ (p:=q) (q:=tJ (dB r (bH r (bU bs xs)) (cG bs (xs.take k)))) hbq hbo) ?_);clear m;intro u m;refine aR rfl (aA (dZ rfl rfl) (aA (cV rfl) (aC (k27 _ _ ?_))));simp only[zz];refine cW rfl (fun hc7=>?_) (fun hc7=>?_)
         ·
          have hlo:tJ (dB r (bH r (bU bs xs)) (cG bs (xs.take (k+1))))=q:=by rw[hon,pH hoe];exact if_pos (gP.1 hc7)
          refine aa (aI rfl ((m.b 0 rfl).full bF aK) ?_);simp only[zz];refine aA (aG (c:=3) dF rfl aK rfl rfl) ?_;simp only[zz];refine aN (off:=1) m 3 rfl rfl rfl aK (bZ rfl) rfl ?_;clear m;intro u m;simp only[zy,zx,aW,zF,zG,ab] at m;refine aC (k26 _ _ ?_);refine aa (aA (aG (c:=0) dF rfl bW rfl rfl) ?_);simp only[zz];refine aI rfl ((m.b 3 rfl).lies1 fQ rfl) ?_;simp only[zz];refine aA aB ?_;simp only[zz];refine cN bM (z:=.int .i64 0) (by kernel_rfl) rfl rfl rfl ?_;intro u g7 e hg hB;replace m:=m.newB e hg hB;clear e hg hB;simp only[zz];refine eM m 2 rfl rfl bM iF rfl (by decide) rfl rfl rfl (m.b 0 rfl).rowsO (lY rfl) (by omega) (by omega) ?_;clear m;intro A3 cap3 u m;simp only[zF,zG] at m;refine aA (aG (c:=0) dF rfl bW rfl rfl) ?_;simp only[zz];refine dL (off:=10) m 4 rfl rfl rfl bW (bZ rfl) ⟨rfl,rfl⟩ ?_;clear m;intro u m;simp only[zz,zy,zx,aW,ab] at m;refine aC (k19 _ _ ?_);refine aa (aA aB ?_);simp only[zz];refine aA (aZ rfl rfl (aO (by omega) (by omega))) (aA aD (aC ?_));simp only[zz];simp only[ac,af];refine⟨N-(k+1),_,?_,rfl,?_,?_⟩
          · omega
          · simp only[zz,zv]
          ·
           simp only[zQ,zR,zD,zE];exact⟨k+1,_,_,_,rfl,(((m.re 4 rfl (by rw[hlo];exact (m.b 4 rfl))).reO 2 rfl (by rw[hon];exact (m.o 2 rfl).as (by rw[fO,fO,br];rfl))).sel [false,false,true,true,true,true,true,true]),by rw[hon,bg,hn3];rfl,by omega,rfl⟩
         ·
          have hlo:tJ (dB r (bH r (bU bs xs)) (cG bs (xs.take (k+1))))=tJ (dB r (bH r (bU bs xs)) (cG bs (xs.take k))):=by rw[hon,pH hoe];exact if_neg (mt gP.2 hc7)
          refine ar (k26 _ _ ?_);refine aa (aA (aG (c:=0) dF rfl bW rfl rfl) ?_);simp only[zz];refine aI rfl ((m.b 3 rfl).lies1 fQ rfl) ?_;simp only[zz];refine aA aB ?_;simp only[zz];refine cN bM (z:=.int .i64 0) (by kernel_rfl) rfl rfl rfl ?_;intro u g7 e hg hB;replace m:=m.newB e hg hB;clear e hg hB;simp only[zz];refine eM m 2 rfl rfl bM iF rfl (by decide) rfl rfl rfl (m.b 0 rfl).rowsO (lY rfl) (by omega) (by omega) ?_;clear m;intro A3 cap3 u m;simp only[zF,zG] at m;refine aA (aG (c:=0) dF rfl bW rfl rfl) ?_;simp only[zz];refine dL (off:=10) m 4 rfl rfl rfl bW (bZ rfl) ⟨rfl,rfl⟩ ?_;clear m;intro u m;simp only[zz,zy,zx,aW,ab] at m;refine aC (k19 _ _ ?_);refine aa (aA aB ?_);simp only[zz];refine aA (aZ rfl rfl (aO (by omega) (by omega))) (aA aD (aC ?_));simp only[zz];simp only[ac,af];refine⟨N-(k+1),_,?_,rfl,?_,?_⟩
          · omega
          · simp only[zz,zv]
          ·
           simp only[zQ,zR,zD,zE];exact⟨k+1,_,_,_,rfl,(((m.re 4 rfl (by rw[hlo];exact (m.b 4 rfl))).reO 2 rfl (by rw[hon];exact (m.o 2 rfl).as (by rw[fO,fO,br];rfl))).sel [false,false,true,true,true,true,true,true]),by rw[hon,bg,hn3];rfl,by omega,rfl⟩
       ·
        have hq:jO r (sG l (gY bs k))=some q:=hq;have htt:mZ (bH r (bU bs xs))=t:=by rw[hh];rfl
        have hbq:=tD (r:=r) (Sg hTl.it (Ku hb)) hq;rw[hq];rw[hq] at m;simp only[ko,dt] at m ⊢;refine aa (aA aB (aA (fM rfl) (aA aB (aR rfl ?_))));simp only[zz];refine aA (xR aB (show (Value.bool (bH r (bU bs xs)).isSome)=.bool true by rw[hh];rfl)) (aR rfl (aA aB (aR rfl ?_)));simp only[zz];refine aI rfl ((m.b 0 rfl).full bF aK) ?_;simp only[zz];refine aR rfl (aA (aG (c:=3) sL rfl aK rfl rfl) (aR rfl ?_));simp only[zz];refine aI rfl ((m.b 2 rfl).lies bF aK rfl rfl) ?_;simp only[zz,zy,ah,ab,ag,ae];refine aR rfl (aX m rfl rfl (kJ (p:=q) (q:=mZ (bH r (bU bs xs))) hbq (Ex hIT)) ?_);clear m;intro u m;refine aR rfl (aA (lD rfl rfl) (aR rfl (aA (cT rfl) (aA (cV rfl) ?_))));simp only[zz];refine aC (k25 _ _ ?_);refine cW rfl (fun hc6=>?_) (fun hc6=>?_)
        ·
         rw[htt] at hc6;have hnl:¬q<t:=fun h=>by have:=gP.2 h;omega
         rw[if_neg hnl] at ho4;have hon:dB r (bH r (bU bs xs)) (cG bs (xs.take (k+1)))=dB r (bH r (bU bs xs)) (cG bs (xs.take k)):=by rw[rI hl,ho4,du]
         refine bw (k19 _ _ ?_);refine aa (aA aB ?_);simp only[zz];refine aA (aZ rfl rfl (aO (by omega) (by omega))) (aA aD (aC ?_));simp only[zz];simp only[ac,af];refine⟨N-(k+1),_,?_,rfl,?_,?_⟩
         · omega
         · simp only[zz,zv]
         ·
          simp only[zQ,zR,zD,zE];exact⟨k+1,_,_,_,rfl,(((m.re 3 rfl (by rw[hon];exact (m.b 3 rfl))).reO 1 rfl (by rw[hon];exact (m.o 1 rfl))).sel [false,true,true,true,true,true,true]),by rw[hon];exact hn3,by omega,rfl⟩
        ·
         rw[htt] at hc6;have hnl:q<t:=gP.1 (by omega);rw[if_pos hnl] at ho4;have hon:dB r (bH r (bU bs xs)) (cG bs (xs.take (k+1)))=dB r (bH r (bU bs xs)) (cG bs (xs.take k))++[(k,q)]:=by rw[rI hl,ho4]
         refine ar (k24 _ _ ?_);refine aF fun K28 k28=>aF fun K29 k29=>?_;have hlen2:(dB r (bH r (bU bs xs)) (cG bs (xs.take k))).length≤k:=by
          have h1:=mO (r:=r) (h:=bH r (bU bs xs)) (cG bs (xs.take k));have h2:=rF (bs:=bs) (ls:=xs) k;omega
         rcases Decidable.em (dB r (bH r (bU bs xs)) (cG bs (xs.take k))=[]) with hoe | hoe
         ·
          have hlo:tJ (dB r (bH r (bU bs xs)) (cG bs (xs.take (k+1))))=q:=by rw[hon,hoe];rfl
          refine aa (aA (aG (c:=0) dF rfl bW rfl rfl) ?_);simp only[zz];refine aI rfl ((m.b 3 rfl).lies1 fQ rfl) ?_;simp only[zz];refine aA (bR rfl bM rfl) (aA (pL rfl rfl (by rw[hn3,hoe];rfl)) (aA aB (bK rfl ?_)));simp only[zz];refine bK rfl (bK rfl (bK rfl (bK rfl ?_)));simp only[zz];refine aA (cT rfl) (aC (k29 _ _ ?_));refine bX rfl (aa ?_);simp only[zz];refine aI rfl ((m.b 0 rfl).full bF aK) ?_;simp only[zz];refine aA (aG (c:=3) dF rfl aK rfl rfl) ?_;simp only[zz];refine aN (off:=1) m 3 rfl rfl rfl aK (bZ rfl) rfl ?_;clear m;intro u m;simp only[zy,zx,aW,zF,zG,ab] at m;refine aC (k28 _ _ ?_);refine aa (aA (aG (c:=0) dF rfl bW rfl rfl) ?_);simp only[zz];refine aI rfl ((m.b 3 rfl).lies1 fQ rfl) ?_;simp only[zz];refine aA aB ?_;simp only[zz];refine cN bM (z:=.int .i64 0) (by kernel_rfl) rfl rfl rfl ?_;intro u g7 e hg hB;replace m:=m.newB e hg hB;clear e hg hB;simp only[zz];refine eM m 2 rfl rfl bM iF rfl (by decide) rfl rfl rfl (m.b 0 rfl).rowsO (lY rfl) (by omega) (by omega) ?_;clear m;intro A3 cap3 u m;simp only[zF,zG] at m;refine aA (aG (c:=0) dF rfl bW rfl rfl) ?_;simp only[zz];refine dL (off:=10) m 4 rfl rfl rfl bW (bZ rfl) ⟨rfl,rfl⟩ ?_;clear m;intro u m;simp only[zz,zy,zx,aW,ab] at m;refine aC (k19 _ _ ?_);refine aa (aA aB ?_);simp only[zz];refine aA (aZ rfl rfl (aO (by omega) (by omega))) (aA aD (aC ?_));simp only[zz];simp only[ac,af];refine⟨N-(k+1),_,?_,rfl,?_,?_⟩
          · omega
          · simp only[zz,zv]
          ·
           simp only[zQ,zR,zD,zE];exact⟨k+1,_,_,_,rfl,(((m.re 4 rfl (by rw[hlo];exact (m.b 4 rfl))).reO 2 rfl (by rw[hon];exact (m.o 2 rfl).as (by rw[fO,fO,br];rfl))).sel [false,false,true,true,true,true,true,true]),by rw[hon,bg,hn3];rfl,by omega,rfl⟩
         ·
          have hbo:=Sj (r:=r) (h:=bH r (bU bs xs)) (xs:=cG bs (xs.take k)) (fun x hx=>hko x (Oa hx));have hlp:=jb.2 hoe;refine aa (aA (aG (c:=0) dF rfl bW rfl rfl) ?_);simp only[zz];refine aI rfl ((m.b 3 rfl).lies1 fQ rfl) ?_;simp only[zz];refine aA (bR rfl bM rfl) (aA (mU rfl rfl (by omega)) (aA aB (aR rfl ?_)));simp only[zz];refine aI rfl ((m.b 0 rfl).full bF aK) ?_;simp only[zz];refine aR rfl (aA (aG (c:=3) dF rfl aK rfl rfl) (aR rfl ?_));simp only[zz];refine aI rfl ((m.b 3 rfl).lies bF aK rfl rfl) ?_;simp only[zz,zy,ah,ab,ag,ae];refine aR rfl (aX m rfl rfl (kJ (p:=q) (q:=tJ (dB r (bH r (bU bs xs)) (cG bs (xs.take k)))) hbq hbo) ?_);clear m;intro u m;refine aR rfl (aA (dZ rfl rfl) (aA (cV rfl) (aC (k29 _ _ ?_))));simp only[zz];refine cW rfl (fun hc7=>?_) (fun hc7=>?_)
          ·
           have hlo:tJ (dB r (bH r (bU bs xs)) (cG bs (xs.take (k+1))))=q:=by rw[hon,pH hoe];exact if_pos (gP.1 hc7)
           refine aa (aI rfl ((m.b 0 rfl).full bF aK) ?_);simp only[zz];refine aA (aG (c:=3) dF rfl aK rfl rfl) ?_;simp only[zz];refine aN (off:=1) m 3 rfl rfl rfl aK (bZ rfl) rfl ?_;clear m;intro u m;simp only[zy,zx,aW,zF,zG,ab] at m;refine aC (k28 _ _ ?_);refine aa (aA (aG (c:=0) dF rfl bW rfl rfl) ?_);simp only[zz];refine aI rfl ((m.b 3 rfl).lies1 fQ rfl) ?_;simp only[zz];refine aA aB ?_;simp only[zz];refine cN bM (z:=.int .i64 0) (by kernel_rfl) rfl rfl rfl ?_;intro u g7 e hg hB;replace m:=m.newB e hg hB;clear e hg hB;simp only[zz];refine eM m 2 rfl rfl bM iF rfl (by decide) rfl rfl rfl (m.b 0 rfl).rowsO (lY rfl) (by omega) (by omega) ?_;clear m;intro A3 cap3 u m;simp only[zF,zG] at m;refine aA (aG (c:=0) dF rfl bW rfl rfl) ?_;simp only[zz];refine dL (off:=10) m 4 rfl rfl rfl bW (bZ rfl) ⟨rfl,rfl⟩ ?_;clear m;intro u m;simp only[zz,zy,zx,aW,ab] at m;refine aC (k19 _ _ ?_);refine aa (aA aB ?_);simp only[zz];refine aA (aZ rfl rfl (aO (by omega) (by omega))) (aA aD (aC ?_));simp only[zz];simp only[ac,af];refine⟨N-(k+1),_,?_,rfl,?_,?_⟩
           · omega
           · simp only[zz,zv]
           ·
            simp only[zQ,zR,zD,zE];exact⟨k+1,_,_,_,rfl,(((m.re 4 rfl (by rw[hlo];exact (m.b 4 rfl))).reO 2 rfl (by rw[hon];exact (m.o 2 rfl).as (by rw[fO,fO,br];rfl))).sel [false,false,true,true,true,true,true,true]),by rw[hon,bg,hn3];rfl,by omega,rfl⟩
          ·
           have hlo:tJ (dB r (bH r (bU bs xs)) (cG bs (xs.take (k+1))))=tJ (dB r (bH r (bU bs xs)) (cG bs (xs.take k))):=by rw[hon,pH hoe];exact if_neg (mt gP.2 hc7)
           refine ar (k28 _ _ ?_);refine aa (aA (aG (c:=0) dF rfl bW rfl rfl) ?_);simp only[zz];refine aI rfl ((m.b 3 rfl).lies1 fQ rfl) ?_;simp only[zz];refine aA aB ?_;simp only[zz];refine cN bM (z:=.int .i64 0) (by kernel_rfl) rfl rfl rfl ?_;intro u g7 e hg hB;replace m:=m.newB e hg hB;clear e hg hB;simp only[zz];refine eM m 2 rfl rfl bM iF rfl (by decide) rfl rfl rfl (m.b 0 rfl).rowsO (lY rfl) (by omega) (by omega) ?_;clear m;intro A3 cap3 u m;simp only[zF,zG] at m;refine aA (aG (c:=0) dF rfl bW rfl rfl) ?_;simp only[zz];refine dL (off:=10) m 4 rfl rfl rfl bW (bZ rfl) ⟨rfl,rfl⟩ ?_;clear m;intro u m;simp only[zz,zy,zx,aW,ab] at m;refine aC (k19 _ _ ?_);refine aa (aA aB ?_);simp only[zz];refine aA (aZ rfl rfl (aO (by omega) (by omega))) (aA aD (aC ?_));simp only[zz];simp only[ac,af];refine⟨N-(k+1),_,?_,rfl,?_,?_⟩
           · omega
           · simp only[zz,zv]
           ·
            simp only[zQ,zR,zD,zE];exact⟨k+1,_,_,_,rfl,(((m.re 4 rfl (by rw[hlo];exact (m.b 4 rfl))).reO 2 rfl (by rw[hon];exact (m.o 2 rfl).as (by rw[fO,fO,br];rfl))).sel [false,false,true,true,true,true,true,true]),by rw[hon,bg,hn3];rfl,by omega,rfl⟩
     ·
      have hkN:xs.take k=xs:=bp (by omega);rw[hkN] at m hn3;refine bw (k15 _ _ ?_);refine aF fun K30 k30=>aF fun K31 k31=>?_;rcases Decidable.em (dB r (bH r (bU bs xs)) (cG bs xs)=[]) with hoe | hoe
      ·
       have hn0:n3=0:=by rw[hn3,hoe];rfl
       refine aa (aA (aG (c:=0) dF rfl bW rfl rfl) ?_);simp only[zz];refine aI rfl ((m.b 2 rfl).lies1 fQ rfl) ?_;simp only[zz];refine aA (bR rfl bM rfl) (aA (kE rfl rfl (by omega)) (aC (k31 _ _ ?_)));refine eZ rfl (ar (k30 _ _ ?_));refine aF fun K32 k32=>aF fun K33 k33=>?_;simp only[zz];rcases kh (bH r (bU bs xs)) with hh | ⟨⟨t,kk⟩,hh⟩
       ·
        rw[show (bH r (bU bs xs)).isSome=false by rw[hh];rfl];refine aa (aA aB (aC (k33 _ _ ?_)));refine eZ rfl (ar (k32 _ _ ?_));refine aF fun K34 k34=>aa ?_;simp only[zz];refine aI rfl ((m.b 2 rfl).full jX eI) ?_;simp only[zz];refine aN m 4 rfl rfl rfl eI (bZ rfl) rfl ?_;clear m;intro u m;simp only[zy,zx,aW,zF,zG,ab] at m;refine aC (k34 _ _ ?_);refine bc ?_;try simp only[ac,af,if_true]
        refine bY rfl ⟨_,rfl,((m.b 4 rfl).full jX eI)⟩ ?_;try simp only[zD,zE]
        exact⟨_,rfl,m.ext,A3,n3,cap3,by rw[Fp hok hh hoe,hoe];rfl,by rw[Fp hok hh hoe,hn0];rfl,by rw[Fp hok hh hoe];exact (m.o 0 rfl).as (by rw[hoe];rfl)⟩
       ·
        rw[show (bH r (bU bs xs)).isSome=true by rw[hh];rfl];rw[show mZ (bH r (bU bs xs))=t by rw[hh];rfl] at m;refine aa (aA aB (aC (k33 _ _ ?_)));refine bX rfl (aF fun K35 k35=>aa (aA (aG (c:=0) dF rfl aM rfl rfl) ?_));simp only[zz];refine dL m 2 rfl rfl rfl aM (bZ rfl) ⟨rfl,rfl⟩ ?_;clear m;intro u m;simp only[zz,zy,zx,aW,ab] at m;refine aC (k35 _ _ ?_);refine aF fun K36 k36=>aa (aA (aG (c:=3) sL rfl aK rfl rfl) ?_);simp only[zz];refine aI rfl ((m.b 1 rfl).lies bF aK rfl rfl) ?_;simp only[zz,zy,ah,ab,ag,ae];refine aA (aG (c:=3) dF rfl aK rfl rfl) ?_;simp only[zz];refine aN (off:=1) m 2 rfl rfl rfl aK (bZ rfl) rfl ?_;clear m;intro u m;simp only[zy,zx,aW,zF,zG,ab] at m;refine aC (k36 _ _ ?_);refine aa (aA (aG (c:=3) sL rfl aK rfl rfl) ?_);simp only[zz];refine aI rfl ((m.b 1 rfl).lies bF aK rfl rfl) ?_;simp only[zz,zy,ah,ab,ag,ae];refine aA (aG (c:=3) dF rfl aK rfl rfl) ?_;simp only[zz];refine aN (off:=5) m 2 rfl rfl rfl aK (bZ rfl) rfl ?_;clear m;intro u m;simp only[zy,zx,aW,zF,zG,ab] at m;refine aC (k32 _ _ ?_);refine aF fun K37 k37=>aa (aI rfl ((m.b 2 rfl).full jX eI) ?_);simp only[zz];refine aN m 4 rfl rfl rfl eI (bZ rfl) rfl ?_;clear m;intro u m;simp only[zy,zx,aW,zF,zG,ab] at m;refine aC (k37 _ _ ?_);refine bc ?_;try simp only[ac,af,if_true]
        refine bY rfl ⟨_,rfl,((m.b 4 rfl).full jX eI)⟩ ?_;try simp only[zD,zE]
        exact⟨_,rfl,m.ext,A3,n3,cap3,by rw[Ld hok hh hoe];rfl,by rw[Ld hok hh hoe,hn0];rfl,by rw[Ld hok hh hoe];exact (m.o 0 rfl).as (by rw[hoe];rfl)⟩
      ·
       have hlp:=jb.2 hoe;refine aa (aA (aG (c:=0) dF rfl bW rfl rfl) ?_);simp only[zz];refine aI rfl ((m.b 2 rfl).lies1 fQ rfl) ?_;simp only[zz];refine aA (bR rfl bM rfl) (aA (lN rfl rfl (by omega)) (aC (k31 _ _ ?_)));refine bX rfl (aF fun K38 k38=>aa (aA (aG (c:=0) dF rfl aM rfl rfl) ?_));simp only[zz];refine dL m 2 rfl rfl rfl aM (bZ rfl) ⟨rfl,rfl⟩ ?_;clear m;intro u m;simp only[zz,zy,zx,aW,ab] at m;refine aC (k38 _ _ ?_);refine aF fun K39 k39=>aa (aA aB (aA (aG (c:=0) dF rfl fA rfl rfl) ?_));simp only[zz];refine dL (off:=9) m 2 rfl rfl rfl fA (bZ rfl) ⟨rfl,rfl⟩ ?_;clear m;intro u m;simp only[zz,zy,zx,aW,ab] at m;refine aC (k39 _ _ ?_);refine aF fun K40 k40=>aF fun K41 k41=>?_;rcases kh (bH r (bU bs xs)) with hh | ⟨⟨t,kk⟩,hh⟩
       ·
        rw[show (bH r (bU bs xs)).isSome=false by rw[hh];rfl];refine aa (aA aB (aC (k41 _ _ ?_)));refine eZ rfl (ar (k40 _ _ ?_));refine aF fun K42 k42=>aa ?_;simp only[zz];refine aI rfl ((m.b 2 rfl).full jX eI) ?_;simp only[zz];refine aN m 4 rfl rfl rfl eI (bZ rfl) rfl ?_;clear m;intro u m;simp only[zy,zx,aW,zF,zG,ab] at m;refine aC (k42 _ _ ?_);refine bc ?_;try simp only[ac,af,if_true]
        refine bY rfl ⟨_,rfl,((m.b 4 rfl).full jX eI)⟩ ?_;try simp only[zD,zE]
        exact⟨_,rfl,m.ext,A3,n3,cap3,by rw[tG hok hoe,hh];rfl,by rw[tG hok hoe,hn3];exact (dj ..).symm,by rw[tG hok hoe];exact (m.o 0 rfl).as (by rw[fO,List.map_map];rfl)⟩
       ·
        rw[show (bH r (bU bs xs)).isSome=true by rw[hh];rfl];refine aa (aA aB (aC (k41 _ _ ?_)));refine bX rfl (aa (aA (aG (c:=3) sL rfl aK rfl rfl) ?_));simp only[zz];refine aI rfl ((m.b 1 rfl).lies bF aK rfl rfl) ?_;simp only[zz,zy,ah,ab,ag,ae];refine aA (aG (c:=3) dF rfl aK rfl rfl) ?_;simp only[zz];refine aN (off:=5) m 2 rfl rfl rfl aK (bZ rfl) rfl ?_;clear m;intro u m;simp only[zy,zx,aW,zF,zG,ab] at m;refine aC (k40 _ _ ?_);refine aF fun K43 k43=>aa (aI rfl ((m.b 2 rfl).full jX eI) ?_);simp only[zz];refine aN m 4 rfl rfl rfl eI (bZ rfl) rfl ?_;clear m;intro u m;simp only[zy,zx,aW,zF,zG,ab] at m;refine aC (k43 _ _ ?_);refine bc ?_;try simp only[ac,af,if_true]
        refine bY rfl ⟨_,rfl,((m.b 4 rfl).full jX eI)⟩ ?_;try simp only[zD,zE]
        exact⟨_,rfl,m.ext,A3,n3,cap3,by rw[tG hok hoe];rfl,by rw[tG hok hoe,hn3];exact (dj ..).symm,by rw[tG hok hoe];exact (m.o 0 rfl).as (by rw[fO,List.map_map];rfl)⟩
 ·
  refine aa (aI rfl ((m.b 3 rfl).full fR dG) ?_);simp only[zz];refine aX m rfl rfl (vN hok) ?_;clear m;intro u m;refine aA aD (aC (k4 _ _ ?_));refine aF fun K44 k44=>aF fun K45 k45=>aa (aA aB (aA (fM rfl) ?_));simp only[zz];refine aC (k45 _ _ ?_);refine bX rfl (aF fun K46 k46=>aa (aI rfl ((m.b 0 rfl).full jX eI) ?_));simp only[zz];refine aN m 2 rfl rfl rfl eI (bZ rfl) rfl ?_;clear m;intro u m;simp only[zy,zx,aW,zF,zG,ab] at m;refine aC (k46 _ _ ?_);refine bc ?_;try simp only[ac,af,if_true]
  refine bY rfl ⟨_,rfl,((m.b 2 rfl).full jX eI)⟩ ?_;try simp only[zD,zE]
  exact⟨_,rfl,m.ext,none,0,0,by rw[iO,if_neg hok];rfl,by rw[iO,if_neg hok];rfl,by rw[iO,if_neg hok];exact Ow.nil _ _ _ _⟩
end Go.Proofs.YtimjandkmfcmiaaGreatDoor
namespace Go.Proofs.YtimjandkmfcmiaaGreatDoor
open Go.Proofs.Tryz
open Go.RowKit Go.Lith
set_option maxRecDepth 100000
attribute [local irreducible] bh ck eY eO eJ Code.wp
def uR(a:pQ):Fe:=⟨fun v u=>∃A n c,v=rD a A n c∧dH u A n a.opn,fun _ _ _ ⟨A,n,c,e,h⟩ hE=>⟨A,n,c,e,h.ext hE⟩⟩
theorem pV{a:pQ}{w w':aw}{v:Go.Value}(h:Zi a w v w')(hi:∀z∈a.opn,kO z):∃A n c,v=rD a A n c∧dH w' A n a.opn:=by
 obtain⟨A,n,cap,e,_,hO⟩:=h;exact⟨A,n,cap,e,Aa hO hi⟩
theorem wE{r:gJ}{xs:List (List T3)}{bs:List Int}(h:xs.length≤1000000):∀z∈(iO r xs bs).opn,kO z:=fun z hz=>by
 have:=(adP r xs bs).2 z hz;exact⟨by omega,by omega⟩
def gF(x z:Int):T3:=⟨⟨x,x,z⟩,⟨4+x,x,z⟩,⟨x,4+x,z⟩⟩
theorem rU{x z:Int}(hx:0≤x∧x≤100)(hz:0≤z∧z≤100):∀t∈[gF x z],IT t:=fun t ht=>by
 rw[b_.1 ht];refine⟨⟨⟨?_,?_⟩,⟨?_,?_⟩,⟨?_,?_⟩⟩,⟨⟨?_,?_⟩,⟨?_,?_⟩,⟨?_,?_⟩⟩,⟨⟨?_,?_⟩,⟨?_,?_⟩,⟨?_,?_⟩⟩⟩ <;> (simp only[gF];omega)
def R0:gJ:=⟨⟨1,1,0⟩,1,⟨0,0,2⟩⟩
instance:IR R0:=⟨⟨⟨by decide,by decide⟩,⟨by decide,by decide⟩,⟨by decide,by decide⟩⟩,⟨by decide,by decide⟩,⟨⟨by decide,by decide⟩,⟨by decide,by decide⟩,⟨by decide,by decide⟩⟩⟩
theorem Le:∀z∈([]:List Int),kO z:=fun z h=>by cases h
theorem wT{n:Int}(h:0≤n∧n≤1):∀z∈[n],kO z:=fun z hz=>by rw[b_.1 hz];exact⟨by omega,by omega⟩
theorem acd{n m:Int}(h:0≤n∧n≤1)(k:0≤m∧m≤1):∀z∈[n,m],kO z:=fun z hz=>by
 simp only[List.mem_cons,List.not_mem_nil,or_false] at hz;rcases hz with rfl | rfl
 · exact⟨by omega,by omega⟩
 · exact⟨by omega,by omega⟩
def Ij(n d:Int):Go.Value:=.agg #[.bool (cY n),.string (dQ n),.bool (cY d),.string (dQ d)]
theorem af6:iO R0 [[gF 0 9]] [0]=(⟨1,(am 9 2),(am 9 2),false,[]⟩:pQ):=by kernel_rfl
theorem af7:iO R0 [[gF 0 9]] [1]=(⟨3,(am 4 1),(am 0 1),false,[0]⟩:pQ):=by kernel_rfl
theorem af8:iO R0 [[gF 0 9],[gF 0 5]] [0,1]=(⟨3,(am 2 1),(am 9 2),true,[1]⟩:pQ):=by kernel_rfl
theorem af9:iO R0 [[gF 0 9],[gF 0 20]] [0,1]=(⟨1,(am 9 2),(am 9 2),false,[]⟩:pQ):=by kernel_rfl
theorem aga:iO R0 [[gF 0 9],[]] [0]=(⟨3,(am 0 1),(am 9 2),true,[1]⟩:pQ):=by kernel_rfl
theorem agb:iO R0 [[gF 9 9]] [1]=(⟨2,(am 0 1),(am 0 1),false,[]⟩:pQ):=by kernel_rfl
theorem abG:Ij 9 2=Q (am 9 2):=by kernel_rfl
theorem abH:Ij 0 1=Q (am 0 1):=by kernel_rfl
theorem abI:Ij 4 1=Q (am 4 1):=by kernel_rfl
theorem abJ:Ij 2 1=Q (am 2 1):=by kernel_rfl
theorem uI{a:pQ}{A A2:Option Addr}{N N2 cap cap2:Nat}(w:aw)(h1:dH w A N a.opn)(h2:dH w A2 N2 a.opn)(hN:N≤1000000):gZ prog 14 [rD a A N cap,rD a A2 N2 cap2] w (fun v _=>v=.bool true):=by
 refine⟨aeg,?_⟩;have m:=cK.refl w;have e1:=h1.len;have e2:=h2.len
 go_enter func14,ntmps14
 refine aF fun K1 k1=>aa (cQ m rfl ?_);clear m;intro g1 u m;simp only[zz];refine cQ m rfl ?_;clear m;intro g2 u m;refine aA aD (aC (k1 _ _ ?_));refine aF fun K2 k2=>aF fun K3 k3=>aa (aA (aG (c:=0) dF rfl aM rfl rfl) ?_);simp only[zz];refine aI rfl ((m.b 1 rfl).lies1 aV rfl) ?_;simp only[zz];refine aA (aG (c:=0) dF rfl aM rfl rfl) ?_;simp only[zz];refine aI rfl ((m.b 0 rfl).lies1 aV rfl) ?_;simp only[zz];refine aA (rV rfl rfl (fun h=>h rfl)) (aA aB (aR rfl (aA (aG (c:=3) dF rfl aK rfl rfl) (aR rfl ?_))));simp only[zz];refine aI rfl ((m.b 1 rfl).lies bF aK rfl rfl) ?_;simp only[zz,zy,ah,ab,ag,ae];refine aR rfl (aA (aG (c:=3) dF rfl aK rfl rfl) (aR rfl ?_));simp only[zz];refine aI rfl ((m.b 0 rfl).lies bF aK rfl rfl) ?_;simp only[zz,zy,ah,ab,ag,ae];refine aR rfl (aA (xR (Gv rfl rfl) (kZ (decide_eq_false (fun h=>h ⟨rfl,rfl,rfl,rfl⟩)))) (aA (cV rfl) (aA aB (aR rfl (aA (aG (c:=3) dF rfl aK rfl rfl) ?_)))));simp only[zz];refine aR rfl (aI rfl ((m.b 1 rfl).lies bF aK rfl rfl) ?_);simp only[zz,zy,ah,ab,ag,ae];refine aR rfl (aA (aG (c:=3) dF rfl aK rfl rfl) (aR rfl ?_));simp only[zz];refine aI rfl ((m.b 0 rfl).lies bF aK rfl rfl) ?_;simp only[zz,zy,ah,ab,ag,ae];refine aR rfl (aA (xR (Gv rfl rfl) (kZ (decide_eq_false (fun h=>h ⟨rfl,rfl,rfl,rfl⟩)))) (aA (cV rfl) (aA aB (aR rfl (aA (aG (c:=0) dF rfl fA rfl rfl) ?_)))));simp only[zz];refine aR rfl (aI rfl ((m.b 1 rfl).lies1 jP rfl) ?_);simp only[zz];refine aR rfl (aA (aG (c:=0) dF rfl fA rfl rfl) (aR rfl ?_));simp only[zz];refine aI rfl ((m.b 0 rfl).lies1 jP rfl) ?_;simp only[zz];refine aR rfl (aA (xR (Dj Fw rfl rfl) (kZ (by simp))) (aA (cV rfl) (aA aB (aR rfl (aA (aG (c:=0) dF rfl bW rfl rfl) ?_)))));simp only[zz];refine aR rfl (aI rfl ((m.b 1 rfl).lies1 fQ rfl) ?_);simp only[zz];refine aR rfl (aA (bR rfl bM rfl) (aR rfl (aA (aG (c:=0) dF rfl bW rfl rfl) (aR rfl ?_))));simp only[zz];refine aI rfl ((m.b 0 rfl).lies1 fQ rfl) ?_;simp only[zz];refine aR rfl (aA (bR rfl bM rfl) (aR rfl (aA (rV rfl rfl (by omega)) (aA (cV rfl) (aC (k3 _ _ ?_))))));refine eZ rfl (ar (k2 _ _ ?_));refine aF fun K4 k4=>aF fun K5 k5=>aa (aA aD ?_);simp only[zz];refine aC (k5 _ _ ?_);refine av ?_;try simp only[ah,ab,ag,ae]
 refine dI [5] [4,41,42,43,44,45,46,47,48,49,50,51,52,53,54,55,56,57,58] (fun n vs wl=>∃(k:Nat),vs=[.int .i64 (k:Int)]∧cK w wl [bI g2 [.int .i64 a.kind,.bool (cY (a.lo).num),.string (dQ (a.lo).num),.bool (cY ((a.lo).den:Int)),.string (dQ ((a.lo).den:Int)),.bool (cY (a.hi).num),.string (dQ (a.hi).num),.bool (cY ((a.hi).den:Int)),.string (dQ ((a.hi).den:Int)),.bool a.sure,.slice A2 N2 cap2] 39,bI g1 [.int .i64 a.kind,.bool (cY (a.lo).num),.string (dQ (a.lo).num),.bool (cY ((a.lo).den:Int)),.string (dQ ((a.lo).den:Int)),.bool (cY (a.hi).num),.string (dQ (a.hi).num),.bool (cY ((a.hi).den:Int)),.string (dQ ((a.hi).den:Int)),.bool a.sure,.slice A N cap] 39]∧(k≤N)∧(n=N-k)) ?_ ?_
 ·
  apply Exists.intro;simp only[zQ,zR,zD,zE];exact⟨0,rfl,m,cd _,rfl⟩
 ·
  intro n vs wr hI u;clear m;obtain⟨k,rfl,m,hk,hn1⟩:=hI;simp only[zu,zF,zG];refine aF fun K6 k6=>aF fun K7 k7=>aa (aA aB (aA (aG (c:=0) dF rfl bW rfl rfl) ?_));simp only[zz];refine aI rfl ((m.b 1 rfl).lies1 fQ rfl) ?_;simp only[zz];refine aA (bR rfl bM rfl) (aA (dZ rfl rfl) (aC (k7 _ _ ?_)));simp only[zz];refine cW rfl (fun hc2=>?_) (fun hc2=>?_)
  ·
   obtain⟨z,hz,_,p,rfl,hc⟩:=h1.get (i:=k) (by omega);obtain⟨z2,hz2,_,p2,rfl,hd⟩:=h2.get (i:=k) (by omega);obtain rfl:z2=z:=by rw[hz] at hz2;exact (jo hz2).symm
   refine ar (k6 _ _ ?_);refine aF fun K8 k8=>av (aF fun K9 k9=>mq m aP (by kernel_rfl) (aQ (aG (c:=0) dF rfl bW rfl rfl) ?_));simp only[zz];refine ql rfl (fun u m=>((m.b 1 rfl).lies1 fQ rfl)) ?_;simp only[zz];refine aQ aB ?_;simp only[zz];refine aQ (aS bM aM rfl rfl (by omega) (by omega) (fH (an _))) ?_;simp only[zz];refine ql rfl (fun u m=>(Lith.lies1 (m.ext.cell hc) aV)) ?_;simp only[zz];refine aQ (aG (c:=0) dF rfl bW rfl rfl) ?_;simp only[zz];refine ql rfl (fun u m=>((m.b 0 rfl).lies1 fQ rfl)) ?_;simp only[zz];refine aQ aB ?_;simp only[zz];refine aQ (aS bM aM rfl rfl (by omega) (by omega) (fH (an _))) ?_;simp only[zz];refine ql rfl (fun u m=>(Lith.lies1 (m.ext.cell hd) aV)) ?_;simp only[zz];refine aQ (rV rfl rfl (fun h=>h rfl)) (eD ?_);clear m;intro u m;refine k9 _ _ (eZ rfl (ar (k8 _ _ ?_)));refine aa (aA aB ?_);simp only[zz];refine aA (aZ rfl rfl (aO (by omega) (by omega))) (aA aD (aC ?_));simp only[zz];simp only[ac,af];refine⟨N-(k+1),_,?_,rfl,?_,?_⟩
   · omega
   · simp only[zz,zv]
   ·
    simp only[zQ,zR,zD,zE];exact⟨k+1,rfl,m,by omega,rfl⟩
  ·
   refine bw (k4 _ _ ?_);refine aF fun K10 k10=>aa (aA aD (aC (k10 _ _ ?_)));refine bc ?_;simp only[zz];try simp only[ac,af,if_true]
   refine bY rfl rfl ?_;try simp only[zD,zE]
   exact⟨_,rfl,m.ext,rfl⟩
theorem ad5{n d:Int}[Iw n][Iw d]:eB prog 22 [.int .i64 n,.int .i64 d] (Ij n d):=by
 intro w;refine⟨aem,?_⟩;have m:=cK.refl w
 go_enter func22,ntmps22
 refine aF fun K1 k1=>aa (bE m cF rfl ?_);clear m;intro g1 u m;refine aC (k1 _ _ ?_);refine aF fun K2 k2=>aa (aA aB ?_);simp only[zz];refine aX m rfl rfl (eA Iw.h) ?_;clear m;intro u m;refine aA aB ?_;simp only[zz];refine aX m rfl rfl (eA Iw.h) ?_;clear m;intro u m;refine aA (gS rfl rfl) ?_;simp only[zz];refine aN m 0 rfl rfl rfl aK (bZ rfl) rfl ?_;clear m;intro u m;simp only[zy,zx,aW,zF,zG,ab] at m;refine aC (k2 _ _ ?_);refine bc ?_;try simp only[ac,af,if_true]
 refine bY rfl ⟨_,rfl,((m.b 0 rfl).full bF aK)⟩ ?_;try simp only[zD,zE]
 exact⟨_,rfl,m.ext,rfl⟩
theorem Lf{n d:Int}[Iw n][Iw d]{q:Rat}(h:Ij n d=Q q):eB prog 22 [.int .i64 n,.int .i64 d] (Q q):=h▸ad5
theorem aad:eB prog 22 [.int .i64 9,.int .i64 2] (Q (am 9 2)) :=
 haveI:Iw (9:Int):=⟨⟨by decide,by decide⟩⟩
 haveI:Iw (2:Int):=⟨⟨by decide,by decide⟩⟩
 Lf abG
theorem aae:eB prog 22 [.int .i64 0,.int .i64 1] (Q (am 0 1)) :=
 haveI:Iw (0:Int):=⟨⟨by decide,by decide⟩⟩
 haveI:Iw (1:Int):=⟨⟨by decide,by decide⟩⟩
 Lf abH
theorem aaf:eB prog 22 [.int .i64 4,.int .i64 1] (Q (am 4 1)) :=
 haveI:Iw (4:Int):=⟨⟨by decide,by decide⟩⟩
 haveI:Iw (1:Int):=⟨⟨by decide,by decide⟩⟩
 Lf abI
theorem aag:eB prog 22 [.int .i64 2,.int .i64 1] (Q (am 2 1)) :=
 haveI:Iw (2:Int):=⟨⟨by decide,by decide⟩⟩
 haveI:Iw (1:Int):=⟨⟨by decide,by decide⟩⟩
 Lf abJ
theorem Ad{x z:Int}(w:aw)(hx:0≤x∧x≤100)(hz:0≤z∧z≤100):gZ prog 23 [.int .i64 x,.int .i64 z] w (fun v w'=>∃g,v=.slice (some ⟨g,0,none⟩) 1 1∧w.heap.size≤g∧gG w' g (cX (gF x z)) 58):=by
 refine⟨aen,?_⟩;have m:=cK.refl w
 go_enter func23,ntmps23
 refine aF fun K1 k1=>aa (aA aD (aC (k1 _ _ ?_)));refine aF fun K2 k2=>aa (aA aB (aA aB (aA aB ?_)));simp only[zz];refine aA (bV rfl rfl rfl) (aA aB ?_);simp only[zz];refine aA (aZ rfl rfl (aO (by omega) (by omega))) (aA aB (aA aB (aA (bV rfl rfl rfl) ?_)));simp only[zz];refine aA aB (aA aB ?_);simp only[zz];refine aA (aZ rfl rfl (aO (by omega) (by omega))) (aA aB (aA (bV rfl rfl rfl) (aA (oG rfl rfl rfl) ?_)));simp only[zz];refine Hl rfl ?_;intro u g1 e hg hB;replace m:=m.newB e hg hB;clear e hg hB;refine aA aD (aC (k2 _ _ ?_));refine bc ?_;simp only[zz];try simp only[ac,af,if_true]
 refine bY rfl rfl ?_;try simp only[zD,zE]
 exact⟨_,rfl,m.ext,_,rfl,m.ge _ cu _ rfl,(m.b 0 rfl)⟩
theorem aah  : eB prog 11 [] (.bool true):=by
 intro w;refine⟨aed,?_⟩;have m:=cK.refl w
 go_enter func11,ntmps11
 refine aF fun K1 k1=>aa (aA aD (aC (k1 _ _ ?_)));refine aF fun K2 k2=>aa (aA (dA rfl rfl rfl) (aA (wV rfl rfl rfl rfl) ?_));simp only[zz];refine bE m Ra rfl ?_;clear m;intro g1 u m;simp only[zz];refine aN m 0 rfl rfl rfl dG (bZ rfl) rfl ?_;clear m;intro u m;simp only[zy,zx,aW,zF,zG,ab] at m;refine aC (k2 _ _ ?_);refine aF fun K3 k3=>aa (bT rfl rfl (Ad (x:=0) (z:=9) _ (by decide) (by decide)) ?_);rintro v u e ⟨g2,rfl,hg,hB⟩;replace m:=m.newB e hg hB;clear e hg hB;refine aA aD (aC (k3 _ _ ?_));refine aF fun K4 k4=>aa ?_;simp only[zz];refine aX m rfl rfl aad ?_;clear m;intro u m;simp only[zz];refine bE m cF rfl ?_;clear m;intro g3 u m;simp only[zz];refine aN m 0 rfl rfl rfl aK (bZ rfl) rfl ?_;clear m;intro u m;simp only[zy,zx,aW,zF,zG,ab] at m;refine aC (k4 _ _ ?_);refine aF fun K5 k5=>aa (aX m rfl rfl aae ?_);clear m;intro u m;simp only[zz];refine bE m cF rfl ?_;clear m;intro g4 u m;simp only[zz];refine aN m 0 rfl rfl rfl aK (bZ rfl) rfl ?_;clear m;intro u m;simp only[zy,zx,aW,zF,zG,ab] at m;refine aC (k5 _ _ ?_);refine aF fun K6 k6=>aa (aI rfl ((m.b 1 rfl).full bF aK) ?_);simp only[zz];refine aI rfl ((m.b 1 rfl).full bF aK) ?_;simp only[zz];refine aA (lV rfl rfl rfl) ?_;simp only[zz];refine bE m rL rfl ?_;clear m;intro g5 u m;simp only[zz];refine aN m 0 rfl rfl rfl eI (bZ rfl) rfl ?_;clear m;intro u m;simp only[zy,zx,aW,zF,zG,ab] at m;refine aC (k6 _ _ ?_);refine aF fun K7 k7=>?_;refine zZ m [qG (kK R0),qG (.slice (some ⟨g2,0,none⟩) 1 1),pU ([[gF 0 9]]),rG ([0]),uR ((⟨1,(am 9 2),(am 9 2),false,[]⟩:pQ)),uR ((⟨1,(am 9 2),(am 9 2),false,[]⟩:pQ)),qG (.bool true),qG (.bool true)] [20,21,22,23,24,25,26,6] [[],[],[1],[],[0,2,3],[],[4,5],[6]] aP (by kernel_rfl) ?_ ?_
 ·
  intro i hi
  match i,hi with
  | 0,_ =>
   clear m hi;intro g ww Q' c hp hK;simp only[zz,bC,bJ] at hK ⊢;have m:=cK.refl ww;refine dC (by simp only[zw];rfl) ?_;refine aI rfl ((c.b 4 rfl).full fR dG) ?_;simp only[zz];exact aC (hK _ _ m.ext rfl)
  | 1,_ =>
   clear m hi;intro g ww Q' c hp hK;simp only[zz,bC,bJ] at hK ⊢;have m:=cK.refl ww;refine dC (by simp only[zw];rfl) ?_;refine aA aB (aC ?_);simp only[zz];exact hK _ _ m.ext rfl
  | 2,_ =>
   clear m hi;intro g ww Q' c hp hK;simp only[zz,bC,bJ] at hK ⊢;obtain q1:g 21=.slice (some ⟨g2,0,none⟩) 1 1:=hp 1 (by decide);simp only[q1] at hK ⊢;have m:=cK.refl ww;refine dC (by simp only[zw];rfl) ?_;refine cN kW (z:=.slice none 0 0) (by kernel_rfl) rfl rfl rfl ?_;intro u g6 e hg hB;replace m:=m.newB e hg hB;clear e hg hB;refine aC ?_;simp only[zz];exact hK _ _ m.ext (⟨_,_,_,rfl,Bb (m.b 0 rfl) ((dX.of_cells (ts:=[gF 0 9]) (c.b 3 rfl) rfl rfl (rU (by decide) (by decide))).ext m.ext) (bi _)⟩)
  | 3,_ =>
   clear m hi;intro g ww Q' c hp hK;simp only[zz,bC,bJ] at hK ⊢;have m:=cK.refl ww;refine dC (by simp only[zw];rfl) ?_;refine cN bM (z:=.int .i64 0) (by kernel_rfl) rfl rfl rfl ?_;intro u g6 e hg hB;replace m:=m.newB e hg hB;clear e hg hB;refine aC ?_;simp only[zz];exact hK _ _ m.ext (⟨_,_,_,rfl,nX (zs:=[0]) (m.b 0 rfl) rfl (wT (by decide))⟩)
  | 4,_ =>
   clear m hi;intro g ww Q' c hp hK;simp only[zz,bC,bJ] at hK ⊢;obtain q0:g 20=kK R0:=hp 0 (by decide);obtain⟨A2,N2,c2,q2,h2⟩:∃A n c,g 22=.slice A n c∧fZ ww A n ([[gF 0 9]]):=hp 2 (by decide);obtain⟨A3,N3,c3,q3,h3⟩:∃A n c,g 23=.slice A n c∧dH ww A n ([0]):=hp 3 (by decide);simp only[q0,q2,q3] at hK ⊢;have m:=cK.refl ww;refine dC (by simp only[zw];rfl) ?_;refine fJ m rfl rfl (zX (r:=R0) (xs:=[[gF 0 9]]) (bs:=[0]) _ h2 h3 (by rw[←h2.len];decide) (by decide) (by decide)) ?_;clear m;rintro v u m hR;refine aC ?_;simp only[zz];rw[af6] at hR;exact hK _ _ m.ext (pV hR Le)
  | 5,_ =>
   clear m hi;intro g ww Q' c hp hK;simp only[zz,bC,bJ] at hK ⊢;have m:=cK.refl ww;refine dC (by simp only[zw];rfl) ?_;refine aI rfl ((c.b 0 rfl).full jX eI) ?_;simp only[zz];exact aC (hK _ _ m.ext (⟨none,0,0,rfl,Ff _⟩))
  | 6,_ =>
   clear m hi;intro g ww Q' c hp hK;simp only[zz,bC,bJ] at hK ⊢;obtain⟨A4,N4,c4,q4,h4⟩:∃A n c,g 24=rD ((⟨1,(am 9 2),(am 9 2),false,[]⟩:pQ)) A n c∧dH ww A n ((⟨1,(am 9 2),(am 9 2),false,[]⟩:pQ)).opn:=hp 4 (by decide);obtain⟨A5,N5,c5,q5,h5⟩:∃A n c,g 25=rD ((⟨1,(am 9 2),(am 9 2),false,[]⟩:pQ)) A n c∧dH ww A n ((⟨1,(am 9 2),(am 9 2),false,[]⟩:pQ)).opn:=hp 5 (by decide);simp only[q4,q5] at hK ⊢;have m:=cK.refl ww;refine dC (by simp only[zw];rfl) ?_;refine fJ m rfl rfl (uI _ h4 h5 (by have:=h4.len;simp at this;omega)) ?_;clear m;rintro v u m rfl;refine aC ?_;simp only[zz];exact hK _ _ m.ext rfl
  | 7,_ =>
   clear m hi;intro g ww Q' c hp hK;simp only[zz,bC,bJ] at hK ⊢;obtain q6:g 26=.bool true:=hp 6 (by decide);simp only[q6] at hK ⊢;have m:=cK.refl ww;refine dC (by simp only[zw];rfl) ?_;refine aA aD (aC ?_);simp only[zz];exact hK _ _ m.ext rfl
  | i+8,h=>exact absurd h (by simp)
 clear m;intro g ww m hp;simp only[bC,bJ,zF,zG];obtain q7:g 6=.bool true:=hp 7 (by decide);simp only[q7];clear hp;refine k7 _ _ ?_;refine aF fun K8 k8=>?_;refine zZ m [qG (kK R0),qG (.slice (some ⟨g2,0,none⟩) 1 1),pU ([[gF 0 9]]),rG ([1]),uR ((⟨3,(am 4 1),(am 0 1),false,[0]⟩:pQ)),qG (Q (am 4 1)),qG (Q (am 0 1)),rG ([0]),uR ((⟨3,(am 4 1),(am 0 1),false,[0]⟩:pQ)),qG (.bool true),qG (.bool true)] [27,28,29,30,31,32,33,34,35,36,7] [[],[],[1],[],[0,2,3],[],[],[],[5,6,7],[4,8],[9]] aP (by kernel_rfl) ?_ ?_
 ·
  intro i hi
  match i,hi with
  | 0,_ =>
   clear m hi;intro g ww Q' c hp hK;simp only[zz,bC,bJ] at hK ⊢;have m:=cK.refl ww;refine dC (by simp only[zw];rfl) ?_;refine aI rfl ((c.b 4 rfl).full fR dG) ?_;simp only[zz];exact aC (hK _ _ m.ext rfl)
  | 1,_ =>
   clear m hi;intro g ww Q' c hp hK;simp only[zz,bC,bJ] at hK ⊢;have m:=cK.refl ww;refine dC (by simp only[zw];rfl) ?_;refine aA aB (aC ?_);simp only[zz];exact hK _ _ m.ext rfl
  | 2,_ =>
   clear m hi;intro g ww Q' c hp hK;simp only[zz,bC,bJ] at hK ⊢;obtain q1:g 28=.slice (some ⟨g2,0,none⟩) 1 1:=hp 1 (by decide);simp only[q1] at hK ⊢;have m:=cK.refl ww;refine dC (by simp only[zw];rfl) ?_;refine cN kW (z:=.slice none 0 0) (by kernel_rfl) rfl rfl rfl ?_;intro u g6 e hg hB;replace m:=m.newB e hg hB;clear e hg hB;refine aC ?_;simp only[zz];exact hK _ _ m.ext (⟨_,_,_,rfl,Bb (m.b 0 rfl) ((dX.of_cells (ts:=[gF 0 9]) (c.b 3 rfl) rfl rfl (rU (by decide) (by decide))).ext m.ext) (bi _)⟩)
  | 3,_ =>
   clear m hi;intro g ww Q' c hp hK;simp only[zz,bC,bJ] at hK ⊢;have m:=cK.refl ww;refine dC (by simp only[zw];rfl) ?_;refine cN bM (z:=.int .i64 0) (by kernel_rfl) rfl rfl rfl ?_;intro u g6 e hg hB;replace m:=m.newB e hg hB;clear e hg hB;refine aC ?_;simp only[zz];exact hK _ _ m.ext (⟨_,_,_,rfl,nX (zs:=[1]) (m.b 0 rfl) rfl (wT (by decide))⟩)
  | 4,_ =>
   clear m hi;intro g ww Q' c hp hK;simp only[zz,bC,bJ] at hK ⊢;obtain q0:g 27=kK R0:=hp 0 (by decide);obtain⟨A2,N2,c2,q2,h2⟩:∃A n c,g 29=.slice A n c∧fZ ww A n ([[gF 0 9]]):=hp 2 (by decide);obtain⟨A3,N3,c3,q3,h3⟩:∃A n c,g 30=.slice A n c∧dH ww A n ([1]):=hp 3 (by decide);simp only[q0,q2,q3] at hK ⊢;have m:=cK.refl ww;refine dC (by simp only[zw];rfl) ?_;refine fJ m rfl rfl (zX (r:=R0) (xs:=[[gF 0 9]]) (bs:=[1]) _ h2 h3 (by rw[←h2.len];decide) (by decide) (by decide)) ?_;clear m;rintro v u m hR;refine aC ?_;simp only[zz];rw[af7] at hR;exact hK _ _ m.ext (pV hR (wT (by decide)))
  | 5,_ =>
   clear m hi;intro g ww Q' c hp hK;simp only[zz,bC,bJ] at hK ⊢;have m:=cK.refl ww;refine dC (by simp only[zw];rfl) ?_;refine aX m rfl rfl aaf ?_;clear m;intro u m;refine aC ?_;simp only[zz];exact hK _ _ m.ext rfl
  | 6,_ =>
   clear m hi;intro g ww Q' c hp hK;simp only[zz,bC,bJ] at hK ⊢;have m:=cK.refl ww;refine dC (by simp only[zw];rfl) ?_;refine aI rfl ((c.b 1 rfl).full bF aK) ?_;simp only[zz];exact aC (hK _ _ m.ext rfl)
  | 7,_ =>
   clear m hi;intro g ww Q' c hp hK;simp only[zz,bC,bJ] at hK ⊢;have m:=cK.refl ww;refine dC (by simp only[zw];rfl) ?_;refine cN bM (z:=.int .i64 0) (by kernel_rfl) rfl rfl rfl ?_;intro u g6 e hg hB;replace m:=m.newB e hg hB;clear e hg hB;refine aC ?_;simp only[zz];exact hK _ _ m.ext (⟨_,_,_,rfl,nX (zs:=[0]) (m.b 0 rfl) rfl (wT (by decide))⟩)
  | 8,_ =>
   clear m hi;intro g ww Q' c hp hK;simp only[zz,bC,bJ] at hK ⊢;obtain q5:g 32=Q (am 4 1):=hp 5 (by decide);obtain q6:g 33=Q (am 0 1):=hp 6 (by decide);obtain⟨A7,N7,c7,q7,h7⟩:∃A n c,g 34=.slice A n c∧dH ww A n ([0]):=hp 7 (by decide);simp only[q5,q6,q7] at hK ⊢;have m:=cK.refl ww;refine dC (by simp only[zw];rfl) ?_;refine aA (wW rfl rfl rfl rfl) (aC ?_);simp only[zz];exact hK _ _ m.ext (⟨_,_,_,rfl,h7.ext m.ext⟩)
  | 9,_ =>
   clear m hi;intro g ww Q' c hp hK;simp only[zz,bC,bJ] at hK ⊢;obtain⟨A4,N4,c4,q4,h4⟩:∃A n c,g 31=rD ((⟨3,(am 4 1),(am 0 1),false,[0]⟩:pQ)) A n c∧dH ww A n ((⟨3,(am 4 1),(am 0 1),false,[0]⟩:pQ)).opn:=hp 4 (by decide);obtain⟨A8,N8,c8,q8,h8⟩:∃A n c,g 35=rD ((⟨3,(am 4 1),(am 0 1),false,[0]⟩:pQ)) A n c∧dH ww A n ((⟨3,(am 4 1),(am 0 1),false,[0]⟩:pQ)).opn:=hp 8 (by decide);simp only[q4,q8] at hK ⊢;have m:=cK.refl ww;refine dC (by simp only[zw];rfl) ?_;refine fJ m rfl rfl (uI _ h4 h8 (by have:=h4.len;simp at this;omega)) ?_;clear m;rintro v u m rfl;refine aC ?_;simp only[zz];exact hK _ _ m.ext rfl
  | 10,_ =>
   clear m hi;intro g ww Q' c hp hK;simp only[zz,bC,bJ] at hK ⊢;obtain q9:g 36=.bool true:=hp 9 (by decide);simp only[q9] at hK ⊢;have m:=cK.refl ww;refine dC (by simp only[zw];rfl) ?_;refine aA aD (aC ?_);simp only[zz];exact hK _ _ m.ext rfl
  | i+11,h=>exact absurd h (by simp)
 clear m;intro g ww m hp;simp only[bC,bJ,zF,zG];obtain q10:g 7=.bool true:=hp 10 (by decide);simp only[q10];clear hp;refine k8 _ _ ?_;refine aF fun K9 k9=>?_;refine zZ m [qG (kK R0),qG (.slice (some ⟨g2,0,none⟩) 1 1),Zs ([gF 0 5]),pU ([[gF 0 9],[gF 0 5]]),rG ([0,1]),uR ((⟨3,(am 2 1),(am 9 2),true,[1]⟩:pQ)),qG (Q (am 2 1)),qG (Q (am 9 2)),rG ([1]),uR ((⟨3,(am 2 1),(am 9 2),true,[1]⟩:pQ)),qG (.bool true),qG (.bool true)] [37,38,39,40,41,42,43,44,45,46,47,8] [[],[],[],[1,2],[],[0,3,4],[],[],[],[6,7,8],[5,9],[10]] aP (by kernel_rfl) ?_ ?_
 ·
  intro i hi
  match i,hi with
  | 0,_ =>
   clear m hi;intro g ww Q' c hp hK;simp only[zz,bC,bJ] at hK ⊢;have m:=cK.refl ww;refine dC (by simp only[zw];rfl) ?_;refine aI rfl ((c.b 4 rfl).full fR dG) ?_;simp only[zz];exact aC (hK _ _ m.ext rfl)
  | 1,_ =>
   clear m hi;intro g ww Q' c hp hK;simp only[zz,bC,bJ] at hK ⊢;have m:=cK.refl ww;refine dC (by simp only[zw];rfl) ?_;refine aA aB (aC ?_);simp only[zz];exact hK _ _ m.ext rfl
  | 2,_ =>
   clear m hi;intro g ww Q' c hp hK;simp only[zz,bC,bJ] at hK ⊢;have m:=cK.refl ww;refine dC (by simp only[zw];rfl) ?_;refine bT rfl rfl (Ad (x:=0) (z:=5) _ (by decide) (by decide)) ?_;rintro v u e ⟨g6,rfl,hg,hB⟩;replace m:=m.newB e hg hB;clear e hg hB;refine aC ?_;simp only[zz];exact hK _ _ m.ext (⟨_,_,_,rfl,dX.of_cells (m.b 0 rfl) rfl rfl (rU (by decide) (by decide)),bi _⟩)
  | 3,_ =>
   clear m hi;intro g ww Q' c hp hK;simp only[zz,bC,bJ] at hK ⊢;obtain q1:g 38=.slice (some ⟨g2,0,none⟩) 1 1:=hp 1 (by decide);obtain⟨A2,N2,c2,q2,h2,k2⟩:∃A n c,g 39=.slice A n c∧dX ww A n ([gF 0 5])∧n≤c:=hp 2 (by decide);simp only[q1,q2] at hK ⊢;have m:=cK.refl ww;refine dC (by simp only[zw];rfl) ?_;refine qQ kW (z:=.slice none 0 0) (by kernel_rfl) rfl rfl rfl rfl rfl ?_;intro u g6 e hg hB;replace m:=m.newB e hg hB;clear e hg hB;refine aC ?_;simp only[zz];exact hK _ _ m.ext (⟨_,_,_,rfl,Be (m.b 0 rfl) ((dX.of_cells (ts:=[gF 0 9]) (c.b 3 rfl) rfl rfl (rU (by decide) (by decide))).ext m.ext) (bi _) (h2.ext m.ext) k2⟩)
  | 4,_ =>
   clear m hi;intro g ww Q' c hp hK;simp only[zz,bC,bJ] at hK ⊢;have m:=cK.refl ww;refine dC (by simp only[zw];rfl) ?_;refine qQ bM (z:=.int .i64 0) (by kernel_rfl) rfl rfl rfl rfl rfl ?_;intro u g6 e hg hB;replace m:=m.newB e hg hB;clear e hg hB;refine aC ?_;simp only[zz];exact hK _ _ m.ext (⟨_,_,_,rfl,nX (zs:=[0,1]) (m.b 0 rfl) rfl (acd (by decide) (by decide))⟩)
  | 5,_ =>
   clear m hi;intro g ww Q' c hp hK;simp only[zz,bC,bJ] at hK ⊢;obtain q0:g 37=kK R0:=hp 0 (by decide);obtain⟨A3,N3,c3,q3,h3⟩:∃A n c,g 40=.slice A n c∧fZ ww A n ([[gF 0 9],[gF 0 5]]):=hp 3 (by decide);obtain⟨A4,N4,c4,q4,h4⟩:∃A n c,g 41=.slice A n c∧dH ww A n ([0,1]):=hp 4 (by decide);simp only[q0,q3,q4] at hK ⊢;have m:=cK.refl ww;refine dC (by simp only[zw];rfl) ?_;refine fJ m rfl rfl (zX (r:=R0) (xs:=[[gF 0 9],[gF 0 5]]) (bs:=[0,1]) _ h3 h4 (by rw[←h3.len];decide) (by decide) (by decide)) ?_;clear m;rintro v u m hR;refine aC ?_;simp only[zz];rw[af8] at hR;exact hK _ _ m.ext (pV hR (wT (by decide)))
  | 6,_ =>
   clear m hi;intro g ww Q' c hp hK;simp only[zz,bC,bJ] at hK ⊢;have m:=cK.refl ww;refine dC (by simp only[zw];rfl) ?_;refine aX m rfl rfl aag ?_;clear m;intro u m;refine aC ?_;simp only[zz];exact hK _ _ m.ext rfl
  | 7,_ =>
   clear m hi;intro g ww Q' c hp hK;simp only[zz,bC,bJ] at hK ⊢;have m:=cK.refl ww;refine dC (by simp only[zw];rfl) ?_;refine aI rfl ((c.b 2 rfl).full bF aK) ?_;simp only[zz];exact aC (hK _ _ m.ext rfl)
  | 8,_ =>
   clear m hi;intro g ww Q' c hp hK;simp only[zz,bC,bJ] at hK ⊢;have m:=cK.refl ww;refine dC (by simp only[zw];rfl) ?_;refine cN bM (z:=.int .i64 0) (by kernel_rfl) rfl rfl rfl ?_;intro u g6 e hg hB;replace m:=m.newB e hg hB;clear e hg hB;refine aC ?_;simp only[zz];exact hK _ _ m.ext (⟨_,_,_,rfl,nX (zs:=[1]) (m.b 0 rfl) rfl (wT (by decide))⟩)
  | 9,_ =>
   clear m hi;intro g ww Q' c hp hK;simp only[zz,bC,bJ] at hK ⊢;obtain q6:g 43=Q (am 2 1):=hp 6 (by decide);obtain q7:g 44=Q (am 9 2):=hp 7 (by decide);obtain⟨A8,N8,c8,q8,h8⟩:∃A n c,g 45=.slice A n c∧dH ww A n ([1]):=hp 8 (by decide);simp only[q6,q7,q8] at hK ⊢;have m:=cK.refl ww;refine dC (by simp only[zw];rfl) ?_;refine aA (oW rfl rfl rfl rfl rfl) (aC ?_);simp only[zz];exact hK _ _ m.ext (⟨_,_,_,rfl,h8.ext m.ext⟩)
  | 10,_ =>
   clear m hi;intro g ww Q' c hp hK;simp only[zz,bC,bJ] at hK ⊢;obtain⟨A5,N5,c5,q5,h5⟩:∃A n c,g 42=rD ((⟨3,(am 2 1),(am 9 2),true,[1]⟩:pQ)) A n c∧dH ww A n ((⟨3,(am 2 1),(am 9 2),true,[1]⟩:pQ)).opn:=hp 5 (by decide);obtain⟨A9,N9,c9,q9,h9⟩:∃A n c,g 46=rD ((⟨3,(am 2 1),(am 9 2),true,[1]⟩:pQ)) A n c∧dH ww A n ((⟨3,(am 2 1),(am 9 2),true,[1]⟩:pQ)).opn:=hp 9 (by decide);simp only[q5,q9] at hK ⊢;have m:=cK.refl ww;refine dC (by simp only[zw];rfl) ?_;refine fJ m rfl rfl (uI _ h5 h9 (by have:=h5.len;simp at this;omega)) ?_;clear m;rintro v u m rfl;refine aC ?_;simp only[zz];exact hK _ _ m.ext rfl
  | 11,_ =>
   clear m hi;intro g ww Q' c hp hK;simp only[zz,bC,bJ] at hK ⊢;obtain q10:g 47=.bool true:=hp 10 (by decide);simp only[q10] at hK ⊢;have m:=cK.refl ww;refine dC (by simp only[zw];rfl) ?_;refine aA aD (aC ?_);simp only[zz];exact hK _ _ m.ext rfl
  | i+12,h=>exact absurd h (by simp)
 clear m;intro g ww m hp;simp only[bC,bJ,zF,zG];obtain q11:g 8=.bool true:=hp 11 (by decide);simp only[q11];clear hp;refine k9 _ _ ?_;refine aF fun K10 k10=>?_;refine zZ m [qG (kK R0),qG (.slice (some ⟨g2,0,none⟩) 1 1),Zs ([gF 0 20]),pU ([[gF 0 9],[gF 0 20]]),rG ([0,1]),uR ((⟨1,(am 9 2),(am 9 2),false,[]⟩:pQ)),uR ((⟨1,(am 9 2),(am 9 2),false,[]⟩:pQ)),qG (.bool true),qG (.bool true)] [48,49,50,51,52,53,54,55,9] [[],[],[],[1,2],[],[0,3,4],[],[5,6],[7]] aP (by kernel_rfl) ?_ ?_
 ·
  intro i hi
  match i,hi with
  | 0,_ =>
   clear m hi;intro g ww Q' c hp hK;simp only[zz,bC,bJ] at hK ⊢;have m:=cK.refl ww;refine dC (by simp only[zw];rfl) ?_;refine aI rfl ((c.b 4 rfl).full fR dG) ?_;simp only[zz];exact aC (hK _ _ m.ext rfl)
  | 1,_ =>
   clear m hi;intro g ww Q' c hp hK;simp only[zz,bC,bJ] at hK ⊢;have m:=cK.refl ww;refine dC (by simp only[zw];rfl) ?_;refine aA aB (aC ?_);simp only[zz];exact hK _ _ m.ext rfl
  | 2,_ =>
   clear m hi;intro g ww Q' c hp hK;simp only[zz,bC,bJ] at hK ⊢;have m:=cK.refl ww;refine dC (by simp only[zw];rfl) ?_;refine bT rfl rfl (Ad (x:=0) (z:=20) _ (by decide) (by decide)) ?_;rintro v u e ⟨g6,rfl,hg,hB⟩;replace m:=m.newB e hg hB;clear e hg hB;refine aC ?_;simp only[zz];exact hK _ _ m.ext (⟨_,_,_,rfl,dX.of_cells (m.b 0 rfl) rfl rfl (rU (by decide) (by decide)),bi _⟩)
  | 3,_ =>
   clear m hi;intro g ww Q' c hp hK;simp only[zz,bC,bJ] at hK ⊢;obtain q1:g 49=.slice (some ⟨g2,0,none⟩) 1 1:=hp 1 (by decide);obtain⟨A2,N2,c2,q2,h2,k2⟩:∃A n c,g 50=.slice A n c∧dX ww A n ([gF 0 20])∧n≤c:=hp 2 (by decide);simp only[q1,q2] at hK ⊢;have m:=cK.refl ww;refine dC (by simp only[zw];rfl) ?_;refine qQ kW (z:=.slice none 0 0) (by kernel_rfl) rfl rfl rfl rfl rfl ?_;intro u g6 e hg hB;replace m:=m.newB e hg hB;clear e hg hB;refine aC ?_;simp only[zz];exact hK _ _ m.ext (⟨_,_,_,rfl,Be (m.b 0 rfl) ((dX.of_cells (ts:=[gF 0 9]) (c.b 3 rfl) rfl rfl (rU (by decide) (by decide))).ext m.ext) (bi _) (h2.ext m.ext) k2⟩)
  | 4,_ =>
   clear m hi;intro g ww Q' c hp hK;simp only[zz,bC,bJ] at hK ⊢;have m:=cK.refl ww;refine dC (by simp only[zw];rfl) ?_;refine qQ bM (z:=.int .i64 0) (by kernel_rfl) rfl rfl rfl rfl rfl ?_;intro u g6 e hg hB;replace m:=m.newB e hg hB;clear e hg hB;refine aC ?_;simp only[zz];exact hK _ _ m.ext (⟨_,_,_,rfl,nX (zs:=[0,1]) (m.b 0 rfl) rfl (acd (by decide) (by decide))⟩)
  | 5,_ =>
   clear m hi;intro g ww Q' c hp hK;simp only[zz,bC,bJ] at hK ⊢;obtain q0:g 48=kK R0:=hp 0 (by decide);obtain⟨A3,N3,c3,q3,h3⟩:∃A n c,g 51=.slice A n c∧fZ ww A n ([[gF 0 9],[gF 0 20]]):=hp 3 (by decide);obtain⟨A4,N4,c4,q4,h4⟩:∃A n c,g 52=.slice A n c∧dH ww A n ([0,1]):=hp 4 (by decide);simp only[q0,q3,q4] at hK ⊢;have m:=cK.refl ww;refine dC (by simp only[zw];rfl) ?_;refine fJ m rfl rfl (zX (r:=R0) (xs:=[[gF 0 9],[gF 0 20]]) (bs:=[0,1]) _ h3 h4 (by rw[←h3.len];decide) (by decide) (by decide)) ?_;clear m;rintro v u m hR;refine aC ?_;simp only[zz];rw[af9] at hR;exact hK _ _ m.ext (pV hR Le)
  | 6,_ =>
   clear m hi;intro g ww Q' c hp hK;simp only[zz,bC,bJ] at hK ⊢;have m:=cK.refl ww;refine dC (by simp only[zw];rfl) ?_;refine aI rfl ((c.b 0 rfl).full jX eI) ?_;simp only[zz];exact aC (hK _ _ m.ext (⟨none,0,0,rfl,Ff _⟩))
  | 7,_ =>
   clear m hi;intro g ww Q' c hp hK;simp only[zz,bC,bJ] at hK ⊢;obtain⟨A5,N5,c5,q5,h5⟩:∃A n c,g 53=rD ((⟨1,(am 9 2),(am 9 2),false,[]⟩:pQ)) A n c∧dH ww A n ((⟨1,(am 9 2),(am 9 2),false,[]⟩:pQ)).opn:=hp 5 (by decide);obtain⟨A6,N6,c6,q6,h6⟩:∃A n c,g 54=rD ((⟨1,(am 9 2),(am 9 2),false,[]⟩:pQ)) A n c∧dH ww A n ((⟨1,(am 9 2),(am 9 2),false,[]⟩:pQ)).opn:=hp 6 (by decide);simp only[q5,q6] at hK ⊢;have m:=cK.refl ww;refine dC (by simp only[zw];rfl) ?_;refine fJ m rfl rfl (uI _ h5 h6 (by have:=h5.len;simp at this;omega)) ?_;clear m;rintro v u m rfl;refine aC ?_;simp only[zz];exact hK _ _ m.ext rfl
  | 8,_ =>
   clear m hi;intro g ww Q' c hp hK;simp only[zz,bC,bJ] at hK ⊢;obtain q7:g 55=.bool true:=hp 7 (by decide);simp only[q7] at hK ⊢;have m:=cK.refl ww;refine dC (by simp only[zw];rfl) ?_;refine aA aD (aC ?_);simp only[zz];exact hK _ _ m.ext rfl
  | i+9,h=>exact absurd h (by simp)
 clear m;intro g ww m hp;simp only[bC,bJ,zF,zG];obtain q8:g 9=.bool true:=hp 8 (by decide);simp only[q8];clear hp;refine k10 _ _ ?_;refine aF fun K11 k11=>?_;refine zZ m [qG (kK R0),qG (.slice (some ⟨g2,0,none⟩) 1 1),pU ([[gF 0 9],[]]),rG ([0]),uR ((⟨3,(am 0 1),(am 9 2),true,[1]⟩:pQ)),qG (Q (am 0 1)),qG (Q (am 9 2)),rG ([1]),uR ((⟨3,(am 0 1),(am 9 2),true,[1]⟩:pQ)),qG (.bool true),qG (.bool true)] [56,57,58,59,60,61,62,63,64,65,10] [[],[],[1],[],[0,2,3],[],[],[],[5,6,7],[4,8],[9]] aP (by kernel_rfl) ?_ ?_
 ·
  intro i hi
  match i,hi with
  | 0,_ =>
   clear m hi;intro g ww Q' c hp hK;simp only[zz,bC,bJ] at hK ⊢;have m:=cK.refl ww;refine dC (by simp only[zw];rfl) ?_;refine aI rfl ((c.b 4 rfl).full fR dG) ?_;simp only[zz];exact aC (hK _ _ m.ext rfl)
  | 1,_ =>
   clear m hi;intro g ww Q' c hp hK;simp only[zz,bC,bJ] at hK ⊢;have m:=cK.refl ww;refine dC (by simp only[zw];rfl) ?_;refine aA aB (aC ?_);simp only[zz];exact hK _ _ m.ext rfl
  | 2,_ =>
   clear m hi;intro g ww Q' c hp hK;simp only[zz,bC,bJ] at hK ⊢;obtain q1:g 57=.slice (some ⟨g2,0,none⟩) 1 1:=hp 1 (by decide);simp only[q1] at hK ⊢;have m:=cK.refl ww;refine dC (by simp only[zw];rfl) ?_;refine qQ kW (z:=.slice none 0 0) (by kernel_rfl) rfl rfl rfl rfl rfl ?_;intro u g6 e hg hB;replace m:=m.newB e hg hB;clear e hg hB;refine aC ?_;simp only[zz];exact hK _ _ m.ext (⟨_,_,_,rfl,Be (m.b 0 rfl) ((dX.of_cells (ts:=[gF 0 9]) (c.b 3 rfl) rfl rfl (rU (by decide) (by decide))).ext m.ext) (bi _) (dX.nil _ _) (bi _)⟩)
  | 3,_ =>
   clear m hi;intro g ww Q' c hp hK;simp only[zz,bC,bJ] at hK ⊢;have m:=cK.refl ww;refine dC (by simp only[zw];rfl) ?_;refine cN bM (z:=.int .i64 0) (by kernel_rfl) rfl rfl rfl ?_;intro u g6 e hg hB;replace m:=m.newB e hg hB;clear e hg hB;refine aC ?_;simp only[zz];exact hK _ _ m.ext (⟨_,_,_,rfl,nX (zs:=[0]) (m.b 0 rfl) rfl (wT (by decide))⟩)
  | 4,_ =>
   clear m hi;intro g ww Q' c hp hK;simp only[zz,bC,bJ] at hK ⊢;obtain q0:g 56=kK R0:=hp 0 (by decide);obtain⟨A2,N2,c2,q2,h2⟩:∃A n c,g 58=.slice A n c∧fZ ww A n ([[gF 0 9],[]]):=hp 2 (by decide);obtain⟨A3,N3,c3,q3,h3⟩:∃A n c,g 59=.slice A n c∧dH ww A n ([0]):=hp 3 (by decide);simp only[q0,q2,q3] at hK ⊢;have m:=cK.refl ww;refine dC (by simp only[zw];rfl) ?_;refine fJ m rfl rfl (zX (r:=R0) (xs:=[[gF 0 9],[]]) (bs:=[0]) _ h2 h3 (by rw[←h2.len];decide) (by decide) (by decide)) ?_;clear m;rintro v u m hR;refine aC ?_;simp only[zz];rw[aga] at hR;exact hK _ _ m.ext (pV hR (wT (by decide)))
  | 5,_ =>
   clear m hi;intro g ww Q' c hp hK;simp only[zz,bC,bJ] at hK ⊢;have m:=cK.refl ww;refine dC (by simp only[zw];rfl) ?_;refine aI rfl ((c.b 1 rfl).full bF aK) ?_;simp only[zz];exact aC (hK _ _ m.ext rfl)
  | 6,_ =>
   clear m hi;intro g ww Q' c hp hK;simp only[zz,bC,bJ] at hK ⊢;have m:=cK.refl ww;refine dC (by simp only[zw];rfl) ?_;refine aI rfl ((c.b 2 rfl).full bF aK) ?_;simp only[zz];exact aC (hK _ _ m.ext rfl)
  | 7,_ =>
   clear m hi;intro g ww Q' c hp hK;simp only[zz,bC,bJ] at hK ⊢;have m:=cK.refl ww;refine dC (by simp only[zw];rfl) ?_;refine cN bM (z:=.int .i64 0) (by kernel_rfl) rfl rfl rfl ?_;intro u g6 e hg hB;replace m:=m.newB e hg hB;clear e hg hB;refine aC ?_;simp only[zz];exact hK _ _ m.ext (⟨_,_,_,rfl,nX (zs:=[1]) (m.b 0 rfl) rfl (wT (by decide))⟩)
  | 8,_ =>
   clear m hi;intro g ww Q' c hp hK;simp only[zz,bC,bJ] at hK ⊢;obtain q5:g 61=Q (am 0 1):=hp 5 (by decide);obtain q6:g 62=Q (am 9 2):=hp 6 (by decide);obtain⟨A7,N7,c7,q7,h7⟩:∃A n c,g 63=.slice A n c∧dH ww A n ([1]):=hp 7 (by decide);simp only[q5,q6,q7] at hK ⊢;have m:=cK.refl ww;refine dC (by simp only[zw];rfl) ?_;refine aA (oW rfl rfl rfl rfl rfl) (aC ?_);simp only[zz];exact hK _ _ m.ext (⟨_,_,_,rfl,h7.ext m.ext⟩)
  | 9,_ =>
   clear m hi;intro g ww Q' c hp hK;simp only[zz,bC,bJ] at hK ⊢;obtain⟨A4,N4,c4,q4,h4⟩:∃A n c,g 60=rD ((⟨3,(am 0 1),(am 9 2),true,[1]⟩:pQ)) A n c∧dH ww A n ((⟨3,(am 0 1),(am 9 2),true,[1]⟩:pQ)).opn:=hp 4 (by decide);obtain⟨A8,N8,c8,q8,h8⟩:∃A n c,g 64=rD ((⟨3,(am 0 1),(am 9 2),true,[1]⟩:pQ)) A n c∧dH ww A n ((⟨3,(am 0 1),(am 9 2),true,[1]⟩:pQ)).opn:=hp 8 (by decide);simp only[q4,q8] at hK ⊢;have m:=cK.refl ww;refine dC (by simp only[zw];rfl) ?_;refine fJ m rfl rfl (uI _ h4 h8 (by have:=h4.len;simp at this;omega)) ?_;clear m;rintro v u m rfl;refine aC ?_;simp only[zz];exact hK _ _ m.ext rfl
  | 10,_ =>
   clear m hi;intro g ww Q' c hp hK;simp only[zz,bC,bJ] at hK ⊢;obtain q9:g 65=.bool true:=hp 9 (by decide);simp only[q9] at hK ⊢;have m:=cK.refl ww;refine dC (by simp only[zw];rfl) ?_;refine aA aD (aC ?_);simp only[zz];exact hK _ _ m.ext rfl
  | i+11,h=>exact absurd h (by simp)
 clear m;intro g ww m hp;simp only[bC,bJ,zF,zG];obtain q10:g 10=.bool true:=hp 10 (by decide);simp only[q10];clear hp;refine k11 _ _ ?_;refine aF fun K12 k12=>?_;refine zZ m [qG (kK R0),Zs ([gF 9 9]),pU ([[gF 9 9]]),rG ([1]),uR ((⟨2,(am 0 1),(am 0 1),false,[]⟩:pQ)),qG (Q (am 0 1)),qG (Q (am 0 1)),uR ((⟨2,(am 0 1),(am 0 1),false,[]⟩:pQ)),qG (.bool true),qG (.bool true)] [66,67,68,69,70,71,72,73,74,11] [[],[],[1],[],[0,2,3],[],[],[5,6],[4,7],[8]] aP (by kernel_rfl) ?_ ?_
 ·
  intro i hi
  match i,hi with
  | 0,_ =>
   clear m hi;intro g ww Q' c hp hK;simp only[zz,bC,bJ] at hK ⊢;have m:=cK.refl ww;refine dC (by simp only[zw];rfl) ?_;refine aI rfl ((c.b 4 rfl).full fR dG) ?_;simp only[zz];exact aC (hK _ _ m.ext rfl)
  | 1,_ =>
   clear m hi;intro g ww Q' c hp hK;simp only[zz,bC,bJ] at hK ⊢;have m:=cK.refl ww;refine dC (by simp only[zw];rfl) ?_;refine bT rfl rfl (Ad (x:=9) (z:=9) _ (by decide) (by decide)) ?_;rintro v u e ⟨g6,rfl,hg,hB⟩;replace m:=m.newB e hg hB;clear e hg hB;refine aC ?_;simp only[zz];exact hK _ _ m.ext (⟨_,_,_,rfl,dX.of_cells (m.b 0 rfl) rfl rfl (rU (by decide) (by decide)),bi _⟩)
  | 2,_ =>
   clear m hi;intro g ww Q' c hp hK;simp only[zz,bC,bJ] at hK ⊢;obtain⟨A1,N1,c1,q1,h1,k1⟩:∃A n c,g 67=.slice A n c∧dX ww A n ([gF 9 9])∧n≤c:=hp 1 (by decide);simp only[q1] at hK ⊢;have m:=cK.refl ww;refine dC (by simp only[zw];rfl) ?_;refine cN kW (z:=.slice none 0 0) (by kernel_rfl) rfl rfl rfl ?_;intro u g6 e hg hB;replace m:=m.newB e hg hB;clear e hg hB;refine aC ?_;simp only[zz];exact hK _ _ m.ext (⟨_,_,_,rfl,Bb (m.b 0 rfl) (h1.ext m.ext) k1⟩)
  | 3,_ =>
   clear m hi;intro g ww Q' c hp hK;simp only[zz,bC,bJ] at hK ⊢;have m:=cK.refl ww;refine dC (by simp only[zw];rfl) ?_;refine cN bM (z:=.int .i64 0) (by kernel_rfl) rfl rfl rfl ?_;intro u g6 e hg hB;replace m:=m.newB e hg hB;clear e hg hB;refine aC ?_;simp only[zz];exact hK _ _ m.ext (⟨_,_,_,rfl,nX (zs:=[1]) (m.b 0 rfl) rfl (wT (by decide))⟩)
  | 4,_ =>
   clear m hi;intro g ww Q' c hp hK;simp only[zz,bC,bJ] at hK ⊢;obtain q0:g 66=kK R0:=hp 0 (by decide);obtain⟨A2,N2,c2,q2,h2⟩:∃A n c,g 68=.slice A n c∧fZ ww A n ([[gF 9 9]]):=hp 2 (by decide);obtain⟨A3,N3,c3,q3,h3⟩:∃A n c,g 69=.slice A n c∧dH ww A n ([1]):=hp 3 (by decide);simp only[q0,q2,q3] at hK ⊢;have m:=cK.refl ww;refine dC (by simp only[zw];rfl) ?_;refine fJ m rfl rfl (zX (r:=R0) (xs:=[[gF 9 9]]) (bs:=[1]) _ h2 h3 (by rw[←h2.len];decide) (by decide) (by decide)) ?_;clear m;rintro v u m hR;refine aC ?_;simp only[zz];rw[agb] at hR;exact hK _ _ m.ext (pV hR Le)
  | 5,_ =>
   clear m hi;intro g ww Q' c hp hK;simp only[zz,bC,bJ] at hK ⊢;have m:=cK.refl ww;refine dC (by simp only[zw];rfl) ?_;refine aI rfl ((c.b 1 rfl).full bF aK) ?_;simp only[zz];exact aC (hK _ _ m.ext rfl)
  | 6,_ =>
   clear m hi;intro g ww Q' c hp hK;simp only[zz,bC,bJ] at hK ⊢;have m:=cK.refl ww;refine dC (by simp only[zw];rfl) ?_;refine aI rfl ((c.b 1 rfl).full bF aK) ?_;simp only[zz];exact aC (hK _ _ m.ext rfl)
  | 7,_ =>
   clear m hi;intro g ww Q' c hp hK;simp only[zz,bC,bJ] at hK ⊢;obtain q5:g 71=Q (am 0 1):=hp 5 (by decide);obtain q6:g 72=Q (am 0 1):=hp 6 (by decide);simp only[q5,q6] at hK ⊢;have m:=cK.refl ww;refine dC (by simp only[zw];rfl) ?_;refine aA (lV rfl rfl rfl) (aC ?_);simp only[zz];exact hK _ _ m.ext (⟨none,0,0,rfl,Ff _⟩)
  | 8,_ =>
   clear m hi;intro g ww Q' c hp hK;simp only[zz,bC,bJ] at hK ⊢;obtain⟨A4,N4,c4,q4,h4⟩:∃A n c,g 70=rD ((⟨2,(am 0 1),(am 0 1),false,[]⟩:pQ)) A n c∧dH ww A n ((⟨2,(am 0 1),(am 0 1),false,[]⟩:pQ)).opn:=hp 4 (by decide);obtain⟨A7,N7,c7,q7,h7⟩:∃A n c,g 73=rD ((⟨2,(am 0 1),(am 0 1),false,[]⟩:pQ)) A n c∧dH ww A n ((⟨2,(am 0 1),(am 0 1),false,[]⟩:pQ)).opn:=hp 7 (by decide);simp only[q4,q7] at hK ⊢;have m:=cK.refl ww;refine dC (by simp only[zw];rfl) ?_;refine fJ m rfl rfl (uI _ h4 h7 (by have:=h4.len;simp at this;omega)) ?_;clear m;rintro v u m rfl;refine aC ?_;simp only[zz];exact hK _ _ m.ext rfl
  | 9,_ =>
   clear m hi;intro g ww Q' c hp hK;simp only[zz,bC,bJ] at hK ⊢;obtain q8:g 74=.bool true:=hp 8 (by decide);simp only[q8] at hK ⊢;have m:=cK.refl ww;refine dC (by simp only[zw];rfl) ?_;refine aA aD (aC ?_);simp only[zz];exact hK _ _ m.ext rfl
  | i+10,h=>exact absurd h (by simp)
 clear m;intro g ww m hp;simp only[bC,bJ,zF,zG];obtain q9:g 11=.bool true:=hp 9 (by decide);simp only[q9];clear hp;refine k12 _ _ ?_;refine aF fun K13 k13=>aa (aA aB (aA aB (aR rfl (aA aB (aA (cT rfl) ?_)))));simp only[zz];refine aA aB (aR rfl (aA aB (aA (cT rfl) (aA aB ?_))));simp only[zz];refine aR rfl (aA aB (aA (cT rfl) (aA aB (aR rfl (aA aB ?_)))));simp only[zz];refine aA (cT rfl) (aA aB (aR rfl (aA aB (aA (cT rfl) ?_))));simp only[zz];refine aA aD (aC (k13 _ _ ?_));refine bc ?_;simp only[zz];try simp only[ac,af,if_true]
 refine bY rfl rfl ?_;try simp only[zD,zE]
 exact⟨_,rfl,m.ext,rfl⟩
end Go.Proofs.YtimjandkmfcmiaaGreatDoor
namespace Go.Proofs.YtimjandkmfcmiaaGreatDoor
open Go.Proofs.Tryz
open Go.RowKit Go.Lith
set_option maxRecDepth 100000
attribute [local irreducible] bh ck eY eO eJ Code.wp
theorem Sr{n k:Int}[Iw n](h0:0<k)(h1:k<4611686018427387904):eB prog 91 [.int .i64 n,.int .i64 k] (.int .i64 (n%k)):=by
 intro w;refine⟨afr,?_⟩;have m:=cK.refl w;have hb:=Mu (n:=n) h0
 go_enter func91,ntmps91
 refine aF fun K1 k1=>aa (aA aD (aC (k1 _ _ ?_)));refine aF fun K2 k2=>aa (aA aB (aA aB ?_));simp only[zz];refine aA (fL rfl rfl (by omega) rfl) (aA aB ?_);simp only[zz];refine aA (aZ rfl rfl (aO (by omega) (by omega))) (aA aB ?_);simp only[zz];refine aA (fL rfl rfl (by omega) (Ru h0)) (aA aD (aC (k2 _ _ ?_)));refine bc ?_;simp only[zz];try simp only[ac,af,if_true]
 refine bY rfl rfl ?_;try simp only[zD,zE]
 exact⟨_,rfl,m.ext,rfl⟩
theorem Ss{n k:Int}[Iw n](h0:0<k)(h1:k<4611686018427387904):eB prog 21 [.int .i64 n,.int .i64 k] (.int .i64 (n%k)):=by
 intro w;refine⟨ael,?_⟩;have m:=cK.refl w;have hb:=Mu (n:=n) h0
 go_enter func21,ntmps21
 refine aF fun K1 k1=>aa (aA aD (aC (k1 _ _ ?_)));refine aF fun K2 k2=>aa (aA aB (aA aB ?_));simp only[zz];refine aA (fL rfl rfl (by omega) rfl) (aA aB ?_);simp only[zz];refine aA (aZ rfl rfl (aO (by omega) (by omega))) (aA aB ?_);simp only[zz];refine aA (fL rfl rfl (by omega) (Ru h0)) (aA aD (aC (k2 _ _ ?_)));refine bc ?_;simp only[zz];try simp only[ac,af,if_true]
 refine bY rfl rfl ?_;try simp only[zD,zE]
 exact⟨_,rfl,m.ext,rfl⟩
theorem Lg{x y N cap:Nat}{A:Option Addr}{zs:List Int}(w:aw)(hZ:dH w A N zs)(hx:x≤6)(hy:y≤6):gZ prog 92 [.int .i64 (x:Int),.int .i64 (y:Int),.int .i64 10,.slice A N cap] w (fun v _=>v=pt (pC 10 zs x y)):=by
 refine⟨afs,?_⟩;have m:=cK.refl w
 go_enter func92,ntmps92
 refine aF fun K1 k1=>aa (bE m eL rfl ?_);clear m;intro g1 u m;refine aC (k1 _ _ ?_);refine aF fun K2 k2=>aa (aA aD (aC (k2 _ _ ?_)));refine aF fun K3 k3=>aF fun K4 k4=>aa (aA aB (aA (bR rfl bM rfl) ?_));simp only[zz];refine aA (gW rfl rfl) (aC (k4 _ _ ?_));simp only[zz];refine cW rfl (fun hc1=>?_) (fun hc1=>?_)
 ·
  have hi:(y*7+x)%N<N:=ft _ (by omega);obtain⟨z,hz,hzI,a,rfl,hcell⟩:=hZ.get hi;have hz6:=Cu (n:=z) (m:=64) (by decide);refine aa (aA aB (aA aB ?_));simp only[zz];refine aA (fC rfl rfl (aO (by omega) (by omega))) (aA aB ?_);simp only[zz];refine aA (aZ rfl rfl (aO (by omega) (by omega))) (aA aB (aA (bR rfl bM rfl) ?_));simp only[zz];refine aA (fL rfl rfl (by omega) (Yl (k:=y*7+x))) (aA (aS bM aM rfl rfl (jl _) (Int.ofNat_lt.2 hi) (fH (an _))) ?_);simp only[zz];refine aI rfl (lies1 (m.ext.cell hcell) aV) ?_;simp only[zz];refine aX m rfl rfl (Sr (n:=z) (k:=64) (by decide) (by decide)) ?_;clear m;intro u m;refine aA aD (aC (k3 _ _ ?_));refine aF fun K5 k5=>aa (aA aB (aA aB ?_));simp only[zz];refine aA (fC rfl rfl (aO (by omega) (by omega))) (aA aB (aA aB ?_));simp only[zz];refine aA (fC rfl rfl (aO (by omega) (by omega))) (aA aB ?_);simp only[zz];refine aA (aZ rfl rfl (aO (by omega) (by omega))) (aA (bV rfl rfl rfl) ?_);simp only[zz];refine aN m 0 rfl rfl rfl aL (bZ rfl) rfl ?_;clear m;intro u m;simp only[zy,zx,aW,zF,zG,ab] at m;refine aC (k5 _ _ ?_);refine bc ?_;try simp only[ac,af,if_true]
  refine bY rfl ⟨_,rfl,((m.b 0 rfl).full bG aL)⟩ ?_;try simp only[zD,zE]
  exact⟨_,rfl,m.ext,by simp only[pt,pC,Yn hZ.len hz]⟩
 ·
  refine ar (k3 _ _ ?_);refine aF fun K6 k6=>aa (aA aB (aA aB ?_));simp only[zz];refine aA (fC rfl rfl (aO (by omega) (by omega))) (aA aB (aA aB ?_));simp only[zz];refine aA (fC rfl rfl (aO (by omega) (by omega))) (aA aB (aA (aZ (m:=100) (n:=0) (r:=100) rfl rfl (by decide)) (aA (bV rfl rfl rfl) ?_)));simp only[zz];refine aN m 0 rfl rfl rfl aL (bZ rfl) rfl ?_;clear m;intro u m;simp only[zy,zx,aW,zF,zG,ab] at m;refine aC (k6 _ _ ?_);refine bc ?_;try simp only[ac,af,if_true]
  refine bY rfl ⟨_,rfl,((m.b 0 rfl).full bG aL)⟩ ?_;try simp only[zD,zE]
  exact⟨_,rfl,m.ext,by simp[pt,pC,aa1 hZ.len hc1]⟩
theorem xL{a b c d:P3}(w:aw):gZ prog 93 [pt a,pt b,pt c,pt d] w (TS 58 (uN a b c d) w):=by
 refine⟨aft,?_⟩;have m:=cK.refl w
 go_enter func93,ntmps93
 refine aF fun K1 k1=>aa (cQ m rfl ?_);clear m;intro g1 u m;simp only[zz];refine cQ m rfl ?_;clear m;intro g2 u m;simp only[zz];refine cQ m rfl ?_;clear m;intro g3 u m;simp only[zz];refine cQ m rfl ?_;clear m;intro g4 u m;refine aA aD (aC (k1 _ _ ?_));refine aF fun K2 k2=>aa ?_;simp only[zz];refine aI rfl ((m.b 3 rfl).full bG aL) ?_;simp only[zz];refine aI rfl ((m.b 2 rfl).full bG aL) ?_;simp only[zz];refine aI rfl ((m.b 1 rfl).full bG aL) ?_;simp only[zz];refine aA (oG rfl rfl rfl) ?_;simp only[zz];refine aI rfl ((m.b 3 rfl).full bG aL) ?_;simp only[zz];refine aI rfl ((m.b 1 rfl).full bG aL) ?_;simp only[zz];refine aI rfl ((m.b 0 rfl).full bG aL) ?_;simp only[zz];refine aA (oG rfl rfl rfl) ?_;simp only[zz];refine Hm rfl rfl ?_;intro u g5 e hg hB;replace m:=m.newB e hg hB;clear e hg hB;refine aA aD (aC (k2 _ _ ?_));refine bc ?_;simp only[zz];try simp only[ac,af,if_true]
 refine bY rfl rfl ?_;try simp only[zD,zE]
 exact⟨_,rfl,m.ext,⟨_,_,_,rfl,rfl,m.bo 0 rfl rfl (bZ rfl)⟩⟩
theorem abK{n0:Int}[Iw n0]{N cap:Nat}{A:Option Addr}{zs:List Int}(w:aw)(hZ:dH w A N zs):gZ prog 54 [.int .i64 n0,.int .i64 10,.slice A N cap] w (TS 58 (En 10 zs (1+n0%6).toNat) w):=by
 refine⟨aeS,?_⟩;have m:=cK.refl w;have hb:=Cu (n:=n0) (m:=6) (by decide);obtain⟨q,hq⟩:∃q:Nat,q=(1+n0%6).toNat:=⟨_,rfl⟩
 rw[←hq];have hq2:1+n0%6=(q:Int):=by omega
 go_enter func54,ntmps54
 refine aF fun K1 k1=>aa (aA aD (aC (k1 _ _ ?_)));refine aF fun K2 k2=>aa (aA aB ?_);simp only[zz];refine aX m rfl rfl (Sr (n:=n0) (k:=6) (by decide) (by decide)) ?_;clear m;intro u m;simp only[zz];refine aA (aZ rfl rfl (aO (by omega) (by omega))) (aA aD (aC ?_));simp only[zz];rw[hq2];refine k2 _ _ ?_;refine aF fun K3 k3=>aa (aA aD ?_);replace m:=m.nilO 58 9;refine aC (k3 _ _ ?_);refine aF fun K4 k4=>aF fun K5 k5=>aa (aA aD (aC (k5 _ _ ?_)));refine av ?_;simp only[zz];try simp only[ah,ab,ag,ae]
 refine dI [7,8] [9,10,11,12,13,17,18,19,20,21,22,23,24,25,26,27,28,29,30,31,32,33,34,35,36,37,38,39,40,41,42,43,44,45,46,47,48,49,50,51,52,53,54,55,56,57] (fun n vs wl=>∃(A1:Option Addr) (cap1 y:Nat),vs=[.slice A1 (gH 10 zs q y 0).length cap1,.int .i64 (y:Int)]∧cK w wl [oI 58 9 A1 (gH 10 zs q y 0).length cap1 ((gH 10 zs q y 0).flatMap cX)]∧(y≤q)∧(n=q-y)) ?_ ?_
 ·
  apply Exists.intro;simp only[zQ,zR,zD,zE];exact⟨none,0,0,rfl,m,cd _,rfl⟩
 ·
  intro n vs wr hI u;clear m;obtain⟨A1,cap1,y,rfl,m,hy,hn⟩:=hI;simp only[zu,zF,zG];refine aF fun K6 k6=>aF fun K7 k7=>aa (aA aB (aA aB (aA (dZ rfl rfl) (aC (k7 _ _ ?_)))));simp only[zz];refine cW rfl (fun hc1=>?_) (fun hc1=>?_)
  ·
   refine ar (k6 _ _ ?_);refine aF fun K8 k8=>av (aF fun K9 k9=>aa (aA aD (aC (k9 _ _ ?_))));refine av ?_;simp only[zz];try simp only[ah,ab,ag,ae]
   refine dI [7,9] [10,11,12,13,22,23,24,25,26,27,28,29,30,31,32,33,34,35,36,37,38,39,40,41,42,43,44,45,46,47,48,49,50,51,52,53,54,55,56,57] (fun n vs wl=>∃(A1:Option Addr) (cap1 x:Nat),vs=[.slice A1 (gH 10 zs q y x).length cap1,.int .i64 (x:Int)]∧cK w wl [oI 58 9 A1 (gH 10 zs q y x).length cap1 ((gH 10 zs q y x).flatMap cX)]∧(x≤q)∧(n=q-x)) ?_ ?_
   ·
    apply Exists.intro;simp only[zQ,zR,zD,zE];exact⟨_,_,0,rfl,m,cd _,rfl⟩
   ·
    intro n vs wr hI u;clear m;obtain⟨A1,cap1,x,rfl,m,hx,hn2⟩:=hI;simp only[zu,zF,zG];refine aF fun K10 k10=>aF fun K11 k11=>aa (aA aB (aA aB (aA (dZ rfl rfl) (aC (k11 _ _ ?_)))));simp only[zz];refine cW rfl (fun hc2=>?_) (fun hc2=>?_)
    ·
     refine ar (k10 _ _ ?_);refine aF fun K12 k12=>av (aF fun K13 k13=>aa (aA aB (aA aB (aA aB (aA aB ?_)))));simp only[zz];refine fJ m rfl rfl (Lg (x:=x) (y:=y) _ (hZ.ext m.ext) (by omega) (by omega)) ?_;clear m;rintro v u m rfl;simp only[zz];refine bE m eL rfl ?_;clear m;intro g1 u m;simp only[zz];refine aN m 0 rfl rfl rfl aL (bZ rfl) rfl ?_;clear m;intro u m;simp only[zy,zx,aW,zF,zG,ab] at m;refine aC (k13 _ _ ?_);refine aF fun K14 k14=>aa (aA aB ?_);simp only[zz];refine aA (aZ rfl rfl (aO (by omega) (by omega))) (aA aB (aA aB (aA aB ?_)));simp only[zz];refine fJ m rfl rfl (Lg (x:=x+1) (y:=y) _ (hZ.ext m.ext) (by omega) (by omega)) ?_;clear m;rintro v u m rfl;simp only[zz];refine bE m eL rfl ?_;clear m;intro g2 u m;simp only[zz];refine aN m 0 rfl rfl rfl aL (bZ rfl) rfl ?_;clear m;intro u m;simp only[zy,zx,aW,zF,zG,ab] at m;refine aC (k14 _ _ ?_);refine aF fun K15 k15=>aa (aA aB ?_);simp only[zz];refine aA (aZ rfl rfl (aO (by omega) (by omega))) (aA aB ?_);simp only[zz];refine aA (aZ rfl rfl (aO (by omega) (by omega))) (aA aB (aA aB ?_));simp only[zz];refine fJ m rfl rfl (Lg (x:=x+1) (y:=y+1) _ (hZ.ext m.ext) (by omega) (by omega)) ?_;clear m;rintro v u m rfl;simp only[zz];refine bE m eL rfl ?_;clear m;intro g3 u m;simp only[zz];refine aN m 0 rfl rfl rfl aL (bZ rfl) rfl ?_;clear m;intro u m;simp only[zy,zx,aW,zF,zG,ab] at m;refine aC (k15 _ _ ?_);refine aF fun K16 k16=>aa (aA aB (aA aB ?_));simp only[zz];refine aA (aZ rfl rfl (aO (by omega) (by omega))) (aA aB (aA aB ?_));simp only[zz];refine fJ m rfl rfl (Lg (x:=x) (y:=y+1) _ (hZ.ext m.ext) (by omega) (by omega)) ?_;clear m;rintro v u m rfl;simp only[zz];refine bE m eL rfl ?_;clear m;intro g4 u m;simp only[zz];refine aN m 0 rfl rfl rfl aL (bZ rfl) rfl ?_;clear m;intro u m;simp only[zy,zx,aW,zF,zG,ab] at m;refine aC (k16 _ _ ?_);refine aa (aA aB ?_);simp only[zz];refine aI rfl ((m.b 3 rfl).full bG aL) ?_;simp only[zz];refine aI rfl ((m.b 2 rfl).full bG aL) ?_;simp only[zz];refine aI rfl ((m.b 1 rfl).full bG aL) ?_;simp only[zz];refine aI rfl ((m.b 0 rfl).full bG aL) ?_;simp only[zz];refine bT rfl rfl (xL (a:=pC 10 zs x y) (b:=pC 10 zs (x+1) y) (c:=pC 10 zs (x+1) (y+1)) (d:=pC 10 zs x (y+1)) _) ?_;rintro v u e ⟨A2,cap2,_,rfl,rfl,hN⟩;replace m:=m.newO e hN;clear e hN;simp only[zz];refine eM m 5 rfl rfl iW rX rfl (by decide) rfl rfl (m.o 0 rfl).own.1 (m.o 0 rfl).row (oZ _) (by have:=Ca (s:=10) (zs:=zs) (n:=q) (y:=y) (x:=x) (by omega) (by omega) (by omega);show _+2≤_;omega) (by have:=Ca (s:=10) (zs:=zs) (n:=q) (y:=y) (x:=x) (by omega) (by omega) (by omega);show (_+2)*72≤_;omega) ?_;clear m;intro A1 cap1 u m;simp only[zF,zG] at m;rw[Yo,Yp] at m;rw[Yp];refine aA aD (aC (k12 _ _ ?_));refine aa (aA aB ?_);simp only[zz];refine aA (aZ rfl rfl (aO (by omega) (by omega))) (aA aD (aC ?_));simp only[zz];simp only[ac,af];refine⟨q-(x+1),_,?_,rfl,?_,?_⟩
     · omega
     · simp only[zz,zv]
     ·
      simp only[zQ,zR,zD,zE];exact⟨_,_,x+1,rfl,(m.sel [false,false,false,false,false,true]),by omega,rfl⟩
    ·
     have hxq:x=q:=by omega
     rw[hxq,Kh] at m ⊢;refine bw (k8 _ _ ?_);refine aa (aA aB ?_);simp only[zz];refine aA (aZ rfl rfl (aO (by omega) (by omega))) (aA aD (aC ?_));simp only[zz];simp only[ac,af];refine⟨q-(y+1),_,?_,rfl,?_,?_⟩
     · omega
     · simp only[zz,zv]
     ·
      simp only[zQ,zR,zD,zE];exact⟨_,_,y+1,rfl,m,by omega,rfl⟩
  ·
   have hyq:y=q:=by omega
   rw[hyq,yU] at m ⊢;refine bw (k4 _ _ ?_);refine aF fun K17 k17=>aa (aA aB (aA aD (aC (k17 _ _ ?_))));refine bc ?_;simp only[zz];try simp only[ac,af,if_true]
   refine bY rfl rfl ?_;try simp only[zD,zE]
   exact⟨_,rfl,m.ext,⟨_,_,_,rfl,rfl,(m.o 0 rfl)⟩⟩
end Go.Proofs.YtimjandkmfcmiaaGreatDoor
namespace Go.Proofs.YtimjandkmfcmiaaGreatDoor
open Go.Proofs.Tryz
open Go.RowKit Go.Lith
set_option maxRecDepth 100000
attribute [local irreducible] bh ck eY eO eJ Code.wp
end Go.Proofs.YtimjandkmfcmiaaGreatDoor
namespace Go.Proofs.YtimjandkmfcmiaaGreatDoor
open Go.Proofs.Tryz
open Go.RowKit Go.Lith
set_option maxRecDepth 100000
attribute [local irreducible] bh ck eY eO eJ Code.wp
theorem ad6{p:P3}(w:aw)(hp:Sm 100 p):gZ prog 90 [pt p,.int .i64 8] w (TS 58 (vJ p 8) w):=by
 refine⟨afq,?_⟩;have m:=cK.refl w;have hp1:=hp.1;have hp2:=hp.2.1;have hp3:=hp.2.2
 go_enter func90,ntmps90
 refine aF fun K1 k1=>aa (cQ m rfl ?_);clear m;intro g1 u m;refine aA aD (aC (k1 _ _ ?_));refine aF fun K2 k2=>aa ?_;simp only[zz];refine bE m Wh rfl ?_;clear m;intro g2 u m;refine aC (k2 _ _ ?_);refine aF fun K3 k3=>aF fun K4 k4=>aa (aA aD (aC (k4 _ _ ?_)));refine av (wp_loop_rounds 9 (dT (aF fun K5 k5=>aF fun K6 k6=>aa (aA aB (aA (cD (m:=0) (n:=8) rfl rfl (by decide)) ?_)))));simp only[zz];refine aC (k6 _ _ ?_);refine bX rfl (ar (k5 _ _ ?_));refine aF fun K7 k7=>av (aa (aA aB (aA (aG (c:=0) bP rfl aM rfl rfl) ?_)));simp only[zz];refine aI rfl ((m.b 1 rfl).lies1 aV rfl) ?_;simp only[zz];refine aA aB (aA (fL (m:=0) (n:=2) (r:=0) rfl rfl (by decide) (by decide)) (aA aB (aA (fC (m:=0) (n:=8) (r:=0) rfl rfl (by decide)) ?_)));simp only[zz];refine aA (aZ rfl rfl (aO (by omega) (by omega))) (aA (aG (c:=0) bP rfl aM rfl rfl) ?_);simp only[zz];refine aI rfl ((m.b 1 rfl).lies1 aV rfl) ?_;simp only[zz];refine aA aB (aA (jA (m:=0) (n:=2) (r:=0) rfl rfl (by decide) (by decide)) (aA (fL (m:=0) (n:=2) (r:=0) rfl rfl (by decide) (by decide)) (aA aB ?_)));simp only[zz];refine aA (fC (m:=0) (n:=8) (r:=0) rfl rfl (by decide)) ?_;simp only[zz];refine aA (aZ rfl rfl (aO (by omega) (by omega))) (aA (aG (c:=0) bP rfl aM rfl rfl) ?_);simp only[zz];refine aI rfl ((m.b 1 rfl).lies1 aV rfl) ?_;simp only[zz];refine aA aB (aA (jA (m:=0) (n:=4) (r:=0) rfl rfl (by decide) (by decide)) (aA aB (aA (fC (m:=0) (n:=8) (r:=0) rfl rfl (by decide)) ?_)));simp only[zz];refine aA (aZ rfl rfl (aO (by omega) (by omega))) (aA (bV rfl rfl rfl) (aA (aJ gU aL rfl rfl (by decide) (by decide) rfl) ?_));simp only[zz];refine aN m 0 rfl rfl rfl aL (bZ rfl) rfl ?_;clear m;intro u m;simp only[zy,zx,aW,zF,zG,ab] at m;refine aC (k7 _ _ ?_);refine aa (aA aB (aA (aZ (m:=0) (n:=1) (r:=1) rfl rfl (by decide)) (aA aD (aC (bD (aF fun K8 k8=>aF fun K9 k9=>aa (aA aB ?_)))))));simp only[zz];refine aA (cD (m:=1) (n:=8) rfl rfl (by decide)) (aC (k9 _ _ ?_));refine bX rfl (ar (k8 _ _ ?_));refine aF fun K10 k10=>av (aa (aA aB (aA (aG (c:=0) bP rfl aM rfl rfl) ?_)));simp only[zz];refine aI rfl ((m.b 1 rfl).lies1 aV rfl) ?_;simp only[zz];refine aA aB (aA (fL (m:=1) (n:=2) (r:=1) rfl rfl (by decide) (by decide)) (aA aB (aA (fC (m:=1) (n:=8) (r:=8) rfl rfl (by decide)) ?_)));simp only[zz];refine aA (aZ rfl rfl (aO (by omega) (by omega))) (aA (aG (c:=0) bP rfl aM rfl rfl) ?_);simp only[zz];refine aI rfl ((m.b 1 rfl).lies1 aV rfl) ?_;simp only[zz];refine aA aB (aA (jA (m:=1) (n:=2) (r:=0) rfl rfl (by decide) (by decide)) (aA (fL (m:=0) (n:=2) (r:=0) rfl rfl (by decide) (by decide)) (aA aB ?_)));simp only[zz];refine aA (fC (m:=0) (n:=8) (r:=0) rfl rfl (by decide)) ?_;simp only[zz];refine aA (aZ rfl rfl (aO (by omega) (by omega))) (aA (aG (c:=0) bP rfl aM rfl rfl) ?_);simp only[zz];refine aI rfl ((m.b 1 rfl).lies1 aV rfl) ?_;simp only[zz];refine aA aB (aA (jA (m:=1) (n:=4) (r:=0) rfl rfl (by decide) (by decide)) (aA aB (aA (fC (m:=0) (n:=8) (r:=0) rfl rfl (by decide)) ?_)));simp only[zz];refine aA (aZ rfl rfl (aO (by omega) (by omega))) (aA (bV rfl rfl rfl) (aA (aJ gU aL rfl rfl (by decide) (by decide) rfl) ?_));simp only[zz];refine aN m 0 rfl rfl rfl aL (bZ rfl) rfl ?_;clear m;intro u m;simp only[zy,zx,aW,zF,zG,ab] at m;refine aC (k10 _ _ ?_);refine aa (aA aB (aA (aZ (m:=1) (n:=1) (r:=2) rfl rfl (by decide)) (aA aD (aC (bD (aF fun K11 k11=>aF fun K12 k12=>aa (aA aB ?_)))))));simp only[zz];refine aA (cD (m:=2) (n:=8) rfl rfl (by decide)) (aC (k12 _ _ ?_));refine bX rfl (ar (k11 _ _ ?_));refine aF fun K13 k13=>av (aa (aA aB (aA (aG (c:=0) bP rfl aM rfl rfl) ?_)));simp only[zz];refine aI rfl ((m.b 1 rfl).lies1 aV rfl) ?_;simp only[zz];refine aA aB (aA (fL (m:=2) (n:=2) (r:=0) rfl rfl (by decide) (by decide)) (aA aB (aA (fC (m:=0) (n:=8) (r:=0) rfl rfl (by decide)) ?_)));simp only[zz];refine aA (aZ rfl rfl (aO (by omega) (by omega))) (aA (aG (c:=0) bP rfl aM rfl rfl) ?_);simp only[zz];refine aI rfl ((m.b 1 rfl).lies1 aV rfl) ?_;simp only[zz];refine aA aB (aA (jA (m:=2) (n:=2) (r:=1) rfl rfl (by decide) (by decide)) (aA (fL (m:=1) (n:=2) (r:=1) rfl rfl (by decide) (by decide)) (aA aB ?_)));simp only[zz];refine aA (fC (m:=1) (n:=8) (r:=8) rfl rfl (by decide)) ?_;simp only[zz];refine aA (aZ rfl rfl (aO (by omega) (by omega))) (aA (aG (c:=0) bP rfl aM rfl rfl) ?_);simp only[zz];refine aI rfl ((m.b 1 rfl).lies1 aV rfl) ?_;simp only[zz];refine aA aB (aA (jA (m:=2) (n:=4) (r:=0) rfl rfl (by decide) (by decide)) (aA aB (aA (fC (m:=0) (n:=8) (r:=0) rfl rfl (by decide)) ?_)));simp only[zz];refine aA (aZ rfl rfl (aO (by omega) (by omega))) (aA (bV rfl rfl rfl) (aA (aJ gU aL rfl rfl (by decide) (by decide) rfl) ?_));simp only[zz];refine aN m 0 rfl rfl rfl aL (bZ rfl) rfl ?_;clear m;intro u m;simp only[zy,zx,aW,zF,zG,ab] at m;refine aC (k13 _ _ ?_);refine aa (aA aB (aA (aZ (m:=2) (n:=1) (r:=3) rfl rfl (by decide)) (aA aD (aC (bD (aF fun K14 k14=>aF fun K15 k15=>aa (aA aB ?_)))))));simp only[zz];refine aA (cD (m:=3) (n:=8) rfl rfl (by decide)) (aC (k15 _ _ ?_));refine bX rfl (ar (k14 _ _ ?_));refine aF fun K16 k16=>av (aa (aA aB (aA (aG (c:=0) bP rfl aM rfl rfl) ?_)));simp only[zz];refine aI rfl ((m.b 1 rfl).lies1 aV rfl) ?_;simp only[zz];refine aA aB (aA (fL (m:=3) (n:=2) (r:=1) rfl rfl (by decide) (by decide)) (aA aB (aA (fC (m:=1) (n:=8) (r:=8) rfl rfl (by decide)) ?_)));simp only[zz];refine aA (aZ rfl rfl (aO (by omega) (by omega))) (aA (aG (c:=0) bP rfl aM rfl rfl) ?_);simp only[zz];refine aI rfl ((m.b 1 rfl).lies1 aV rfl) ?_;simp only[zz];refine aA aB (aA (jA (m:=3) (n:=2) (r:=1) rfl rfl (by decide) (by decide)) (aA (fL (m:=1) (n:=2) (r:=1) rfl rfl (by decide) (by decide)) (aA aB ?_)));simp only[zz];refine aA (fC (m:=1) (n:=8) (r:=8) rfl rfl (by decide)) ?_;simp only[zz];refine aA (aZ rfl rfl (aO (by omega) (by omega))) (aA (aG (c:=0) bP rfl aM rfl rfl) ?_);simp only[zz];refine aI rfl ((m.b 1 rfl).lies1 aV rfl) ?_;simp only[zz];refine aA aB (aA (jA (m:=3) (n:=4) (r:=0) rfl rfl (by decide) (by decide)) (aA aB (aA (fC (m:=0) (n:=8) (r:=0) rfl rfl (by decide)) ?_)));simp only[zz];refine aA (aZ rfl rfl (aO (by omega) (by omega))) (aA (bV rfl rfl rfl) (aA (aJ gU aL rfl rfl (by decide) (by decide) rfl) ?_));simp only[zz];refine aN m 0 rfl rfl rfl aL (bZ rfl) rfl ?_;clear m;intro u m;simp only[zy,zx,aW,zF,zG,ab] at m;refine aC (k16 _ _ ?_);refine aa (aA aB (aA (aZ (m:=3) (n:=1) (r:=4) rfl rfl (by decide)) (aA aD (aC (bD (aF fun K17 k17=>aF fun K18 k18=>aa (aA aB ?_)))))));simp only[zz];refine aA (cD (m:=4) (n:=8) rfl rfl (by decide)) (aC (k18 _ _ ?_));refine bX rfl (ar (k17 _ _ ?_));refine aF fun K19 k19=>av (aa (aA aB (aA (aG (c:=0) bP rfl aM rfl rfl) ?_)));simp only[zz];refine aI rfl ((m.b 1 rfl).lies1 aV rfl) ?_;simp only[zz];refine aA aB (aA (fL (m:=4) (n:=2) (r:=0) rfl rfl (by decide) (by decide)) (aA aB (aA (fC (m:=0) (n:=8) (r:=0) rfl rfl (by decide)) ?_)));simp only[zz];refine aA (aZ rfl rfl (aO (by omega) (by omega))) (aA (aG (c:=0) bP rfl aM rfl rfl) ?_);simp only[zz];refine aI rfl ((m.b 1 rfl).lies1 aV rfl) ?_;simp only[zz];refine aA aB (aA (jA (m:=4) (n:=2) (r:=2) rfl rfl (by decide) (by decide)) (aA (fL (m:=2) (n:=2) (r:=0) rfl rfl (by decide) (by decide)) (aA aB ?_)));simp only[zz];refine aA (fC (m:=0) (n:=8) (r:=0) rfl rfl (by decide)) ?_;simp only[zz];refine aA (aZ rfl rfl (aO (by omega) (by omega))) (aA (aG (c:=0) bP rfl aM rfl rfl) ?_);simp only[zz];refine aI rfl ((m.b 1 rfl).lies1 aV rfl) ?_;simp only[zz];refine aA aB (aA (jA (m:=4) (n:=4) (r:=1) rfl rfl (by decide) (by decide)) (aA aB (aA (fC (m:=1) (n:=8) (r:=8) rfl rfl (by decide)) ?_)));simp only[zz];refine aA (aZ rfl rfl (aO (by omega) (by omega))) (aA (bV rfl rfl rfl) (aA (aJ gU aL rfl rfl (by decide) (by decide) rfl) ?_));simp only[zz];refine aN m 0 rfl rfl rfl aL (bZ rfl) rfl ?_;clear m;intro u m;simp only[zy,zx,aW,zF,zG,ab] at m;refine aC (k19 _ _ ?_);refine aa (aA aB (aA (aZ (m:=4) (n:=1) (r:=5) rfl rfl (by decide)) (aA aD (aC (bD (aF fun K20 k20=>aF fun K21 k21=>aa (aA aB ?_)))))));simp only[zz];refine aA (cD (m:=5) (n:=8) rfl rfl (by decide)) (aC (k21 _ _ ?_));refine bX rfl (ar (k20 _ _ ?_));refine aF fun K22 k22=>av (aa (aA aB (aA (aG (c:=0) bP rfl aM rfl rfl) ?_)));simp only[zz];refine aI rfl ((m.b 1 rfl).lies1 aV rfl) ?_;simp only[zz];refine aA aB (aA (fL (m:=5) (n:=2) (r:=1) rfl rfl (by decide) (by decide)) (aA aB (aA (fC (m:=1) (n:=8) (r:=8) rfl rfl (by decide)) ?_)));simp only[zz];refine aA (aZ rfl rfl (aO (by omega) (by omega))) (aA (aG (c:=0) bP rfl aM rfl rfl) ?_);simp only[zz];refine aI rfl ((m.b 1 rfl).lies1 aV rfl) ?_;simp only[zz];refine aA aB (aA (jA (m:=5) (n:=2) (r:=2) rfl rfl (by decide) (by decide)) (aA (fL (m:=2) (n:=2) (r:=0) rfl rfl (by decide) (by decide)) (aA aB ?_)));simp only[zz];refine aA (fC (m:=0) (n:=8) (r:=0) rfl rfl (by decide)) ?_;simp only[zz];refine aA (aZ rfl rfl (aO (by omega) (by omega))) (aA (aG (c:=0) bP rfl aM rfl rfl) ?_);simp only[zz];refine aI rfl ((m.b 1 rfl).lies1 aV rfl) ?_;simp only[zz];refine aA aB (aA (jA (m:=5) (n:=4) (r:=1) rfl rfl (by decide) (by decide)) (aA aB (aA (fC (m:=1) (n:=8) (r:=8) rfl rfl (by decide)) ?_)));simp only[zz];refine aA (aZ rfl rfl (aO (by omega) (by omega))) (aA (bV rfl rfl rfl) (aA (aJ gU aL rfl rfl (by decide) (by decide) rfl) ?_));simp only[zz];refine aN m 0 rfl rfl rfl aL (bZ rfl) rfl ?_;clear m;intro u m;simp only[zy,zx,aW,zF,zG,ab] at m;refine aC (k22 _ _ ?_);refine aa (aA aB (aA (aZ (m:=5) (n:=1) (r:=6) rfl rfl (by decide)) (aA aD (aC (bD (aF fun K23 k23=>aF fun K24 k24=>aa (aA aB ?_)))))));simp only[zz];refine aA (cD (m:=6) (n:=8) rfl rfl (by decide)) (aC (k24 _ _ ?_));refine bX rfl (ar (k23 _ _ ?_));refine aF fun K25 k25=>av (aa (aA aB (aA (aG (c:=0) bP rfl aM rfl rfl) ?_)));simp only[zz];refine aI rfl ((m.b 1 rfl).lies1 aV rfl) ?_;simp only[zz];refine aA aB (aA (fL (m:=6) (n:=2) (r:=0) rfl rfl (by decide) (by decide)) (aA aB (aA (fC (m:=0) (n:=8) (r:=0) rfl rfl (by decide)) ?_)));simp only[zz];refine aA (aZ rfl rfl (aO (by omega) (by omega))) (aA (aG (c:=0) bP rfl aM rfl rfl) ?_);simp only[zz];refine aI rfl ((m.b 1 rfl).lies1 aV rfl) ?_;simp only[zz];refine aA aB (aA (jA (m:=6) (n:=2) (r:=3) rfl rfl (by decide) (by decide)) (aA (fL (m:=3) (n:=2) (r:=1) rfl rfl (by decide) (by decide)) (aA aB ?_)));simp only[zz];refine aA (fC (m:=1) (n:=8) (r:=8) rfl rfl (by decide)) ?_;simp only[zz];refine aA (aZ rfl rfl (aO (by omega) (by omega))) (aA (aG (c:=0) bP rfl aM rfl rfl) ?_);simp only[zz];refine aI rfl ((m.b 1 rfl).lies1 aV rfl) ?_;simp only[zz];refine aA aB (aA (jA (m:=6) (n:=4) (r:=1) rfl rfl (by decide) (by decide)) (aA aB (aA (fC (m:=1) (n:=8) (r:=8) rfl rfl (by decide)) ?_)));simp only[zz];refine aA (aZ rfl rfl (aO (by omega) (by omega))) (aA (bV rfl rfl rfl) (aA (aJ gU aL rfl rfl (by decide) (by decide) rfl) ?_));simp only[zz];refine aN m 0 rfl rfl rfl aL (bZ rfl) rfl ?_;clear m;intro u m;simp only[zy,zx,aW,zF,zG,ab] at m;refine aC (k25 _ _ ?_);refine aa (aA aB (aA (aZ (m:=6) (n:=1) (r:=7) rfl rfl (by decide)) (aA aD (aC (bD (aF fun K26 k26=>aF fun K27 k27=>aa (aA aB ?_)))))));simp only[zz];refine aA (cD (m:=7) (n:=8) rfl rfl (by decide)) (aC (k27 _ _ ?_));refine bX rfl (ar (k26 _ _ ?_));refine aF fun K28 k28=>av (aa (aA aB (aA (aG (c:=0) bP rfl aM rfl rfl) ?_)));simp only[zz];refine aI rfl ((m.b 1 rfl).lies1 aV rfl) ?_;simp only[zz];refine aA aB (aA (fL (m:=7) (n:=2) (r:=1) rfl rfl (by decide) (by decide)) (aA aB (aA (fC (m:=1) (n:=8) (r:=8) rfl rfl (by decide)) ?_)));simp only[zz];refine aA (aZ rfl rfl (aO (by omega) (by omega))) (aA (aG (c:=0) bP rfl aM rfl rfl) ?_);simp only[zz];refine aI rfl ((m.b 1 rfl).lies1 aV rfl) ?_;simp only[zz];refine aA aB (aA (jA (m:=7) (n:=2) (r:=3) rfl rfl (by decide) (by decide)) (aA (fL (m:=3) (n:=2) (r:=1) rfl rfl (by decide) (by decide)) (aA aB ?_)));simp only[zz];refine aA (fC (m:=1) (n:=8) (r:=8) rfl rfl (by decide)) ?_;simp only[zz];refine aA (aZ rfl rfl (aO (by omega) (by omega))) (aA (aG (c:=0) bP rfl aM rfl rfl) ?_);simp only[zz];refine aI rfl ((m.b 1 rfl).lies1 aV rfl) ?_;simp only[zz];refine aA aB (aA (jA (m:=7) (n:=4) (r:=1) rfl rfl (by decide) (by decide)) (aA aB (aA (fC (m:=1) (n:=8) (r:=8) rfl rfl (by decide)) ?_)));simp only[zz];refine aA (aZ rfl rfl (aO (by omega) (by omega))) (aA (bV rfl rfl rfl) (aA (aJ gU aL rfl rfl (by decide) (by decide) rfl) ?_));simp only[zz];refine aN m 0 rfl rfl rfl aL (bZ rfl) rfl ?_;clear m;intro u m;simp only[zy,zx,aW,zF,zG,ab] at m;refine aC (k28 _ _ ?_);refine aa (aA aB (aA (aZ (m:=7) (n:=1) (r:=8) rfl rfl (by decide)) (aA aD (aC (bD (aF fun K29 k29=>aF fun K30 k30=>aa (aA aB ?_)))))));simp only[zz];refine aA (fD (m:=8) (n:=8) rfl rfl (by decide)) (aC (k30 _ _ ?_));refine eZ rfl (bw (k3 _ _ ?_));refine aF fun K31 k31=>?_;simp only[zz];change cK w _ [bI g2 [.int .i64 (eC p 8 0).x,.int .i64 (eC p 8 0).y,.int .i64 (eC p 8 0).z,.int .i64 (eC p 8 1).x,.int .i64 (eC p 8 1).y,.int .i64 (eC p 8 1).z,.int .i64 (eC p 8 2).x,.int .i64 (eC p 8 2).y,.int .i64 (eC p 8 2).z,.int .i64 (eC p 8 3).x,.int .i64 (eC p 8 3).y,.int .i64 (eC p 8 3).z,.int .i64 (eC p 8 4).x,.int .i64 (eC p 8 4).y,.int .i64 (eC p 8 4).z,.int .i64 (eC p 8 5).x,.int .i64 (eC p 8 5).y,.int .i64 (eC p 8 5).z,.int .i64 (eC p 8 6).x,.int .i64 (eC p 8 6).y,.int .i64 (eC p 8 6).z,.int .i64 (eC p 8 7).x,.int .i64 (eC p 8 7).y,.int .i64 (eC p 8 7).z] _,_] at m;refine aa (aA (aJ gU aL rfl rfl (by decide) (by decide) rfl) ?_);simp only[zz];refine aI rfl ((m.b 0 rfl).lies bG aL rfl rfl) ?_;simp only[zz,zy,ah,ab,ag,ae];refine aA (aJ gU aL rfl rfl (by decide) (by decide) rfl) ?_;simp only[zz];refine aI rfl ((m.b 0 rfl).lies bG aL rfl rfl) ?_;simp only[zz,zy,ah,ab,ag,ae];refine aA (aJ gU aL rfl rfl (by decide) (by decide) rfl) ?_;simp only[zz];refine aI rfl ((m.b 0 rfl).lies bG aL rfl rfl) ?_;simp only[zz,zy,ah,ab,ag,ae];refine aA (aJ gU aL rfl rfl (by decide) (by decide) rfl) ?_;simp only[zz];refine aI rfl ((m.b 0 rfl).lies bG aL rfl rfl) ?_;simp only[zz,zy,ah,ab,ag,ae];refine bT rfl rfl (xL (a:=eC p 8 0) (b:=eC p 8 2) (c:=eC p 8 3) (d:=eC p 8 1) _) ?_;rintro v u e ⟨A1,cap1,_,rfl,rfl,hN⟩;replace m:=m.newO e hN;clear e hN;refine aA aD (aC (k31 _ _ ?_));refine aF fun K32 k32=>aa (aA aB (aA (aJ gU aL rfl rfl (by decide) (by decide) rfl) ?_));simp only[zz];refine aI rfl ((m.b 1 rfl).lies bG aL rfl rfl) ?_;simp only[zz,zy,ah,ab,ag,ae];refine aA (aJ gU aL rfl rfl (by decide) (by decide) rfl) ?_;simp only[zz];refine aI rfl ((m.b 1 rfl).lies bG aL rfl rfl) ?_;simp only[zz,zy,ah,ab,ag,ae];refine aA (aJ gU aL rfl rfl (by decide) (by decide) rfl) ?_;simp only[zz];refine aI rfl ((m.b 1 rfl).lies bG aL rfl rfl) ?_;simp only[zz,zy,ah,ab,ag,ae];refine aA (aJ gU aL rfl rfl (by decide) (by decide) rfl) ?_;simp only[zz];refine aI rfl ((m.b 1 rfl).lies bG aL rfl rfl) ?_;simp only[zz,zy,ah,ab,ag,ae];refine bT rfl rfl (xL (a:=eC p 8 4) (b:=eC p 8 5) (c:=eC p 8 7) (d:=eC p 8 6) _) ?_;rintro v u e ⟨A2,cap2,_,rfl,rfl,hN⟩;replace m:=m.newO e hN;clear e hN;simp only[zz];refine eM m 1 rfl rfl iW rX rfl (by decide) rfl rfl (m.o 0 rfl).own.1 (m.o 0 rfl).row (oZ _) (bZ rfl) (bZ rfl) ?_;clear m;intro A1 cap1 u m;simp only[zF,zG] at m;refine aA aD (aC (k32 _ _ ?_));refine aF fun K33 k33=>aa (aA aB (aA (aJ gU aL rfl rfl (by decide) (by decide) rfl) ?_));simp only[zz];refine aI rfl ((m.b 2 rfl).lies bG aL rfl rfl) ?_;simp only[zz,zy,ah,ab,ag,ae];refine aA (aJ gU aL rfl rfl (by decide) (by decide) rfl) ?_;simp only[zz];refine aI rfl ((m.b 2 rfl).lies bG aL rfl rfl) ?_;simp only[zz,zy,ah,ab,ag,ae];refine aA (aJ gU aL rfl rfl (by decide) (by decide) rfl) ?_;simp only[zz];refine aI rfl ((m.b 2 rfl).lies bG aL rfl rfl) ?_;simp only[zz,zy,ah,ab,ag,ae];refine aA (aJ gU aL rfl rfl (by decide) (by decide) rfl) ?_;simp only[zz];refine aI rfl ((m.b 2 rfl).lies bG aL rfl rfl) ?_;simp only[zz,zy,ah,ab,ag,ae];refine bT rfl rfl (xL (a:=eC p 8 0) (b:=eC p 8 1) (c:=eC p 8 5) (d:=eC p 8 4) _) ?_;rintro v u e ⟨A3,cap3,_,rfl,rfl,hN⟩;replace m:=m.newO e hN;clear e hN;simp only[zz];refine eM m 2 rfl rfl iW rX rfl (by decide) rfl rfl (m.o 0 rfl).own.1 (m.o 0 rfl).row (oZ _) (bZ rfl) (bZ rfl) ?_;clear m;intro A1 cap1 u m;simp only[zF,zG] at m;refine aA aD (aC (k33 _ _ ?_));refine aF fun K34 k34=>aa (aA aB (aA (aJ gU aL rfl rfl (by decide) (by decide) rfl) ?_));simp only[zz];refine aI rfl ((m.b 3 rfl).lies bG aL rfl rfl) ?_;simp only[zz,zy,ah,ab,ag,ae];refine aA (aJ gU aL rfl rfl (by decide) (by decide) rfl) ?_;simp only[zz];refine aI rfl ((m.b 3 rfl).lies bG aL rfl rfl) ?_;simp only[zz,zy,ah,ab,ag,ae];refine aA (aJ gU aL rfl rfl (by decide) (by decide) rfl) ?_;simp only[zz];refine aI rfl ((m.b 3 rfl).lies bG aL rfl rfl) ?_;simp only[zz,zy,ah,ab,ag,ae];refine aA (aJ gU aL rfl rfl (by decide) (by decide) rfl) ?_;simp only[zz];refine aI rfl ((m.b 3 rfl).lies bG aL rfl rfl) ?_;simp only[zz,zy,ah,ab,ag,ae];refine bT rfl rfl (xL (a:=eC p 8 2) (b:=eC p 8 6) (c:=eC p 8 7) (d:=eC p 8 3) _) ?_;rintro v u e ⟨A4,cap4,_,rfl,rfl,hN⟩;replace m:=m.newO e hN;clear e hN;simp only[zz];refine eM m 3 rfl rfl iW rX rfl (by decide) rfl rfl (m.o 0 rfl).own.1 (m.o 0 rfl).row (oZ _) (bZ rfl) (bZ rfl) ?_;clear m;intro A1 cap1 u m;simp only[zF,zG] at m;refine aA aD (aC (k34 _ _ ?_));refine aF fun K35 k35=>aa (aA aB (aA (aJ gU aL rfl rfl (by decide) (by decide) rfl) ?_));simp only[zz];refine aI rfl ((m.b 4 rfl).lies bG aL rfl rfl) ?_;simp only[zz,zy,ah,ab,ag,ae];refine aA (aJ gU aL rfl rfl (by decide) (by decide) rfl) ?_;simp only[zz];refine aI rfl ((m.b 4 rfl).lies bG aL rfl rfl) ?_;simp only[zz,zy,ah,ab,ag,ae];refine aA (aJ gU aL rfl rfl (by decide) (by decide) rfl) ?_;simp only[zz];refine aI rfl ((m.b 4 rfl).lies bG aL rfl rfl) ?_;simp only[zz,zy,ah,ab,ag,ae];refine aA (aJ gU aL rfl rfl (by decide) (by decide) rfl) ?_;simp only[zz];refine aI rfl ((m.b 4 rfl).lies bG aL rfl rfl) ?_;simp only[zz,zy,ah,ab,ag,ae];refine bT rfl rfl (xL (a:=eC p 8 0) (b:=eC p 8 4) (c:=eC p 8 6) (d:=eC p 8 2) _) ?_;rintro v u e ⟨A5,cap5,_,rfl,rfl,hN⟩;replace m:=m.newO e hN;clear e hN;simp only[zz];refine eM m 4 rfl rfl iW rX rfl (by decide) rfl rfl (m.o 0 rfl).own.1 (m.o 0 rfl).row (oZ _) (bZ rfl) (bZ rfl) ?_;clear m;intro A1 cap1 u m;simp only[zF,zG] at m;refine aA aD (aC (k35 _ _ ?_));refine aF fun K36 k36=>aa (aA aB (aA (aJ gU aL rfl rfl (by decide) (by decide) rfl) ?_));simp only[zz];refine aI rfl ((m.b 5 rfl).lies bG aL rfl rfl) ?_;simp only[zz,zy,ah,ab,ag,ae];refine aA (aJ gU aL rfl rfl (by decide) (by decide) rfl) ?_;simp only[zz];refine aI rfl ((m.b 5 rfl).lies bG aL rfl rfl) ?_;simp only[zz,zy,ah,ab,ag,ae];refine aA (aJ gU aL rfl rfl (by decide) (by decide) rfl) ?_;simp only[zz];refine aI rfl ((m.b 5 rfl).lies bG aL rfl rfl) ?_;simp only[zz,zy,ah,ab,ag,ae];refine aA (aJ gU aL rfl rfl (by decide) (by decide) rfl) ?_;simp only[zz];refine aI rfl ((m.b 5 rfl).lies bG aL rfl rfl) ?_;simp only[zz,zy,ah,ab,ag,ae];refine bT rfl rfl (xL (a:=eC p 8 1) (b:=eC p 8 3) (c:=eC p 8 7) (d:=eC p 8 5) _) ?_;rintro v u e ⟨A6,cap6,_,rfl,rfl,hN⟩;replace m:=m.newO e hN;clear e hN;simp only[zz];refine eM m 5 rfl rfl iW rX rfl (by decide) rfl rfl (m.o 0 rfl).own.1 (m.o 0 rfl).row (oZ _) (bZ rfl) (bZ rfl) ?_;clear m;intro A1 cap1 u m;simp only[zF,zG] at m;refine aA aD (aC (k36 _ _ ?_));refine bc ?_;simp only[zz];try simp only[ac,af,if_true]
 refine bY rfl rfl ?_;try simp only[zD,zE]
 exact⟨_,rfl,m.ext,⟨_,_,_,rfl,rfl,((m.o 5 rfl)).as (by simp only[vJ,cr])⟩⟩
theorem aai{b:Nat}(w:aw)(hb:b<134217728):gZ prog 53 [.int .i64 (b:Int),.int .i64 8,.agg #[.int .i64 4,.int .i64 5,.int .i64 6]] w (TS 58 (Yk b) w):=by
 refine⟨aeR,?_⟩;have m:=cK.refl w;have hb0:=hb
 go_enter func53,ntmps53
 refine aF fun K1 k1=>aa (cQ m rfl ?_);clear m;intro g1 u m;refine aA aD (aC (k1 _ _ ?_));refine aF fun K2 k2=>aa (aA aD ?_);replace m:=m.nilO 58 9;refine aC (k2 _ _ ?_);refine aF fun K3 k3=>aF fun K4 k4=>aa (aA aD ?_);simp only[zz];refine aC (k4 _ _ ?_);refine av ?_;try simp only[ah,ab,ag,ae]
 refine dI [7,8] [9,10,11,12,13,14,15,16,17,18,19,20,21,22,23,24,25,26,27,28,29,30,31,32,33,34,35,36,37,38,39,40,41,42,43,44,45,46,47,48,49,50,51,52,53,54,55,56,57,58,59,60,61,62,63,64,65,66,67,68,69,70,71,72,73,74,75,76,77,78,79,80,81,82,83,84,85,86,87,88,89,90,91,92,93,94,95,96,97,98,99,100,101,102,103,104,105,106,107,108,109,110,111,112,113,114,115,116,117,118,119,120,121,122,123,124,125,126,127,128,129,130,131,132,133,134,135,136,137,138,139] (fun n vs wl=>∃(A1:Option Addr) (cap1 k:Nat),vs=[.slice A1 (jG b k 0).length cap1,.int .i64 (k:Int)]∧cK w wl [oI 58 9 A1 (jG b k 0).length cap1 ((jG b k 0).flatMap cX),bI g1 [.int .i64 4,.int .i64 5,.int .i64 6] 56]∧(k≤27)∧(n=27-k)) ?_ ?_
 ·
  apply Exists.intro;simp only[zQ,zR,zD,zE];exact⟨none,0,0,rfl,m,cd _,rfl⟩
 ·
  intro n vs wr hI u;clear m;obtain⟨A1,cap1,k,rfl,m,hk,hn⟩:=hI;simp only[zu,zF,zG];refine aF fun K5 k5=>aF fun K6 k6=>aa (aA aB (aA (dZ rfl rfl) (aC (k6 _ _ ?_))));simp only[zz];refine cW rfl (fun hc1=>?_) (fun hc1=>?_)
  ·
   refine ar (k5 _ _ ?_);refine aF fun K7 k7=>av (aF fun K8 k8=>aa (aA aB ?_));simp only[zz];refine aA (fL rfl rfl (by omega) (Yl (k:=k) (c:=3))) (aA aD (aC (k8 _ _ ?_)));refine aF fun K9 k9=>aa (aA aB ?_);simp only[zz];refine aA (jA rfl rfl (by omega) (Mh (n:=3) (by omega))) ?_;simp only[zz];refine aA (fL rfl rfl (by omega) (Yl (k:=k / 3) (c:=3))) (aA aD (aC (k9 _ _ ?_)));refine aF fun K10 k10=>aa (aA aB ?_);simp only[zz];refine aA (jA rfl rfl (by omega) (Mh (n:=9) (by omega))) (aA aD (aC (k10 _ _ ?_)));refine aF fun K11 k11=>aF fun K12 k12=>aa (aA aB (aA aB ?_));simp only[zz];refine aA (eT underlying103 jR rfl (fX (by omega) (by omega))) ?_;simp only[zz];refine aA (mG rfl rfl (by omega) (afS (by omega) (by omega))) (aA (sI rfl rfl (afT (Ym hb))) (aA (mF rfl rfl) (aC (k12 _ _ ?_))));simp only[zz];refine cW rfl (fun hc2=>?_) (fun hc2=>?_)
   ·
    have hv:Ci b k=false:=by unfold Ci;exact decide_eq_false (by have:=hc2;simp only[an] at this;omega)
    rw[Uk hv] at m ⊢;refine bw (k7 _ _ ?_);refine aa (aA aB ?_);simp only[zz];refine aA (aZ rfl rfl (aO (by omega) (by omega))) (aA aD (aC ?_));simp only[zz];simp only[ac,af];refine⟨27-(k+1),_,?_,rfl,?_,?_⟩
    · omega
    · simp only[zz,zv]
    ·
     simp only[zQ,zR,zD,zE];exact⟨_,_,k+1,rfl,m,by omega,rfl⟩
   ·
    have hv:Ci b k=true:=by unfold Ci;exact decide_eq_true (by have:=hc2;simp only[an] at this;omega)
    refine ar (k11 _ _ ?_);refine aF fun K13 k13=>aa (aA (aG (c:=0) bP rfl aM rfl rfl) ?_);simp only[zz];refine aI rfl ((m.b 1 rfl).lies1 aV rfl) ?_;simp only[zz];refine aA aB (aA aB ?_);simp only[zz];refine aA (fC rfl rfl (aO (by omega) (by omega))) ?_;simp only[zz];refine aA (aZ rfl rfl (aO (by omega) (by omega))) (aA (aG (c:=0) bP rfl aM rfl rfl) ?_);simp only[zz];refine aI rfl ((m.b 1 rfl).lies1 aV rfl) ?_;simp only[zz];refine aA aB (aA aB ?_);simp only[zz];refine aA (fC rfl rfl (aO (by omega) (by omega))) ?_;simp only[zz];refine aA (aZ rfl rfl (aO (by omega) (by omega))) (aA (aG (c:=0) bP rfl aM rfl rfl) ?_);simp only[zz];refine aI rfl ((m.b 1 rfl).lies1 aV rfl) ?_;simp only[zz];refine aA aB (aA aB ?_);simp only[zz];refine aA (fC rfl rfl (aO (by omega) (by omega))) ?_;simp only[zz];refine aA (aZ rfl rfl (aO (by omega) (by omega))) (aA (bV rfl rfl rfl) ?_);simp only[zz];refine bE m eL rfl ?_;clear m;intro g2 u m;simp only[zz];refine aN m 0 rfl rfl rfl aL (bZ rfl) rfl ?_;clear m;intro u m;simp only[zy,zx,aW,zF,zG,ab] at m;refine aC (k13 _ _ ?_);refine aF fun K14 k14=>aa (aI rfl ((m.b 0 rfl).full bG aL) ?_);simp only[zz];refine aA aB ?_;simp only[zz];refine bT rfl rfl (ad6 (p:=vP k) _ (ab3 (by omega))) ?_;rintro v u e ⟨A2,cap2,_,rfl,rfl,hN⟩;replace m:=m.newO e hN;clear e hN;obtain⟨gc,rfl⟩:=(m.o 0 rfl).some (by rw[qF];decide);rw[qF] at m ⊢;refine aA aD (aC (k14 _ _ ?_));refine aF fun K15 k15=>aa (aA (dA rfl rfl rfl) (aA (dA rfl rfl rfl) ?_));simp only[zz];refine aA (dA rfl rfl rfl) (aA (dA rfl rfl rfl) (aA (dA rfl rfl rfl) (aA (dA rfl rfl rfl) ?_)));simp only[zz];refine aA (sO rfl rfl rfl rfl rfl rfl) ?_;simp only[zz];refine bE m Lp rfl ?_;clear m;intro g3 u m;simp only[zz];refine aN m 0 rfl rfl rfl Sx (bZ rfl) rfl ?_;clear m;intro u m;simp only[zy,zx,aW,zF,zG,ab] at m;refine aC (k15 _ _ ?_);refine aF fun K16 k16=>aa (aA aD (aC (k16 _ _ ?_)));refine av ?_;simp only[zz];try simp only[ah,ab,ag,ae]
    refine dI [7,15] [16,17,18,19,66,67,68,69,70,71,72,73,74,75,76,77,78,79,80,81,82,83,84,85,86,87,88,89,90,91,92,93,94,95,96,97,98,99,100,101,102,103,104,105,106,107,108,109,110,111,112,113,114,115,116,117,118,119,120,121,122,123,124,125,126,127,128,129,130,131,132,133,134,135,136,137,138,139] (fun n vs wl=>∃(A1:Option Addr) (cap1 f:Nat),vs=[.slice A1 (jG b k f).length cap1,.int .i64 (f:Int)]∧cK w wl [bI g3 wB 134,oI 58 9 (some ⟨gc,0,none⟩) 12 cap2 ((vJ (vP k) 8).flatMap cX),oI 58 9 A1 (jG b k f).length cap1 ((jG b k f).flatMap cX),bI g1 [.int .i64 4,.int .i64 5,.int .i64 6] 56]∧(f≤6)∧(n=6-f)) ?_ ?_
    ·
     apply Exists.intro;simp only[zQ,zR,zD,zE];exact⟨_,_,0,rfl,(m.sel [true,true,false,true,true]),cd _,rfl⟩
    ·
     intro n vs wr hI u;clear m;obtain⟨A1,cap1,f,rfl,m,hf6,hn2⟩:=hI;simp only[zu,zF,zG];refine aF fun K17 k17=>aF fun K18 k18=>aa (aA aB (aA (dZ rfl rfl) (aC (k18 _ _ ?_))));simp only[zz];refine cW rfl (fun hc3=>?_) (fun hc3=>?_)
     ·
      have hf:f<6:=by omega
      have hs:=afX f;obtain⟨t,u0,ht,hu,hpr⟩:=Yu (n:=k) hf;refine ar (k17 _ _ ?_);refine aF fun K19 k19=>av (aF fun K20 k20=>aa (aA aB (aA aB ?_)));simp only[zz];refine aA (aJ underlying134 cZ rfl rfl (by omega) (by omega) (tW (an _))) (aA (aJ fF aM rfl rfl (by decide) (by decide) rfl) ?_);simp only[zz];refine aI rfl ((m.b 0 rfl).lies1 (i:=f*3) aV (afU hf)) ?_;simp only[zz];refine aA (aZ rfl rfl (aO (by omega) (by omega))) (aA aD (aC (k20 _ _ ?_)));refine aF fun K21 k21=>aa (aA aB (aA aB ?_));simp only[zz];refine aA (aJ underlying134 cZ rfl rfl (by omega) (by omega) (tW (an _))) (aA (aJ fF aM rfl rfl (by decide) (by decide) rfl) ?_);simp only[zz];refine aI rfl ((m.b 0 rfl).lies1 (i:=f*3+1) aV (afV hf)) ?_;simp only[zz];refine aA (aZ rfl rfl (aO (by omega) (by omega))) (aA aD (aC (k21 _ _ ?_)));refine aF fun K22 k22=>aa (aA aB (aA aB ?_));simp only[zz];refine aA (aJ underlying134 cZ rfl rfl (by omega) (by omega) (tW (an _))) (aA (aJ fF aM rfl rfl (by decide) (by decide) rfl) ?_);simp only[zz];refine aI rfl ((m.b 0 rfl).lies1 (i:=f*3+2) aV (afW hf)) ?_;simp only[zz];refine aA (aZ rfl rfl (aO (by omega) (by omega))) (aA aD (aC (k22 _ _ ?_)));refine aF fun K23 k23=>aa (aA aB (aA (lD rfl rfl) ?_));simp only[zz];refine aA aB (iU rfl (fun hb=>aB) (iU rfl (fun hb=>dZ (jU hb rfl) rfl) (aA (lK rfl rfl rfl) ?_)));simp only[zz];refine aA aB (iU rfl (fun hb=>aB) (iU rfl (fun hb=>lD (jU hb rfl) rfl) (aA (lK rfl rfl rfl) ?_)));simp only[zz];refine aA aB (iU rfl (fun hb=>aB) (iU rfl (fun hb=>dZ (jU hb rfl) rfl) (aA (lK rfl rfl rfl) ?_)));simp only[zz];refine aA aB (iU rfl (fun hb=>aB) (iU rfl (fun hb=>lD (jU hb rfl) rfl) (aA (lK rfl rfl rfl) ?_)));simp only[zz];refine aA aB (iU rfl (fun hb=>aB) (iU rfl (fun hb=>dZ (jU hb rfl) rfl) (aA (lK rfl rfl rfl) ?_)));simp only[zz];refine aA aD (aC (k23 _ _ ?_));refine aF fun K24 k24=>aa (aA aB (aA (fM rfl) (aA aB ?_)));simp only[zz];refine jF rfl (fun hb=>aB) (jF rfl (fun hb=>aB) ?_);simp only[zz];refine jF rfl (fun hb=>fC (jU hb rfl) rfl (aO (by omega) (by omega))) (jF rfl (fun hb=>aB) ?_);simp only[zz];refine jF rfl (fun hb=>aZ (jU hb rfl) (jU hb rfl) (aO (by omega) (by omega))) ?_;simp only[zz];refine jF rfl (fun hb=>fC (jU hb rfl) rfl (aO (by omega) (by omega))) (jF rfl (fun hb=>aB) ?_);simp only[zz];refine jF rfl (fun hb=>aZ (jU hb rfl) (jU hb rfl) (aO (by omega) (by omega))) (jF rfl (fun hb=>eT underlying103 jR (jU hb rfl) (fX (by have h:=vin hb;omega) (by have h:=vin hb;omega))) ?_);simp only[zz];refine jF rfl (fun hb=>mG (jU hb rfl) (jU hb rfl) (by have h:=vin hb;omega) (afS (by have h:=vin hb;omega) (by have h:=vin hb;omega))) (jF rfl (fun hb=>sI (jU hb rfl) rfl (afT (Ym hb0))) (jF rfl (fun hb=>mF (jU hb rfl) rfl) (aA (pB rfl rfl rfl) ?_)));simp only[zz];refine aC (k24 _ _ ?_);refine pK rfl (fun hc4=>?_) (fun hc4=>?_)
      ·
       have hvf:=(My (b:=b) (n:=k) (f:=f)).symm.trans hc4;refine mh m [true,true,false,true] [(0,true),(1,true),(2,true),(3,true),(4,true),(6,true),(7,true),(8,true),(9,true),(10,true),(5,true),(11,true),(12,false),(13,false),(14,true)] aP (by kernel_rfl) (dJ (fun _ _ _ _ _ h=>h)) (ol:=?_) ?hol ?_
       case hol=>simp only[zw,zQ,zR];try rfl
       clear m;intro u m;refine bA aB (bA aB (bA aB ?_));simp only[zz];refine bA (fC rfl rfl (aO (by omega) (by omega))) ?_;simp only[zz];refine bA (aS iW eW rfl rfl (by omega) (by omega) (sR (show _=2*f by omega))) (bA aB (bA aB ?_));simp only[zz];refine bA (fC rfl rfl (aO (by omega) (by omega))) ?_;simp only[zz];refine bA (aZ rfl rfl (aO (by omega) (by omega))) ?_;simp only[zz];refine bA (aS iW eW rfl rfl (by omega) (by omega) (sR (show _=2*f+1 by omega))) ?_;simp only[zz];refine cO rfl (fun u m=>(((m.o 1 rfl).tri ht).lies mW eW)) ?_;simp only[zz];refine cO rfl (fun u m=>(((m.o 1 rfl).tri hu).lies mW eW)) ?_;simp only[zz];refine dM (Hm rfl rfl ?_);intro u g4 e hg hB;replace m:=m.newB e hg hB;clear e hg hB;refine aC (⟨m.sel [false,true,true,false,true],?_⟩);refine dM ?_;simp only[zz];refine eM m 3 rfl rfl iW rX rfl (by decide) rfl rfl rfl (m.b 0 rfl).rowsO (lY rfl) (by have:=Hv (b:=b) (n:=k) (f:=f) (by omega) (by omega);omega) (by have:=Hv (b:=b) (n:=k) (f:=f) (by omega) (by omega);omega) ?_;clear m;intro A1 cap1 u m;simp only[zF,zG] at m;rw[Un hpr hvf,Rx hf hvf] at m;rw[Rx hf hvf];refine aC (⟨m.sel [false,true,true,false,true],?_⟩);refine bA aD (bB (k19 _ _ ?_));refine aa (aA aB ?_);simp only[zz];refine aA (aZ rfl rfl (aO (by omega) (by omega))) (aA aD (aC ?_));simp only[zz];simp only[ac,af];refine⟨6-(f+1),_,?_,rfl,?_,?_⟩
       · omega
       · simp only[zz,zv]
       ·
        simp only[zQ,zR,zD,zE];exact⟨_,_,f+1,rfl,(m.sel [false,true,true,true,true]),by omega,rfl⟩
      ·
       have hvf:=(My (b:=b) (n:=k) (f:=f)).symm.trans hc4;rw[←Pv hvf] at m ⊢;refine ar (k19 _ _ ?_);refine aa (aA aB ?_);simp only[zz];refine aA (aZ rfl rfl (aO (by omega) (by omega))) (aA aD (aC ?_));simp only[zz];simp only[ac,af];refine⟨6-(f+1),_,?_,rfl,?_,?_⟩
       · omega
       · simp only[zz,zv]
       ·
        simp only[zQ,zR,zD,zE];exact⟨_,_,f+1,rfl,m,by omega,rfl⟩
     ·
      have hfq:f=6:=by omega
      rw[hfq,Pu hv] at m ⊢;refine bw (k7 _ _ ?_);refine aa (aA aB ?_);simp only[zz];refine aA (aZ rfl rfl (aO (by omega) (by omega))) (aA aD (aC ?_));simp only[zz];simp only[ac,af];refine⟨27-(k+1),_,?_,rfl,?_,?_⟩
      · omega
      · simp only[zz,zv]
      ·
       simp only[zQ,zR,zD,zE];exact⟨_,_,k+1,rfl,(m.sel [false,false,true,true]),by omega,rfl⟩
  ·
   have hkq:k=27:=by omega
   rw[hkq,Pt] at m ⊢;refine bw (k3 _ _ ?_);refine aF fun K25 k25=>aa (aA aB (aA aD (aC (k25 _ _ ?_))));refine bc ?_;simp only[zz];try simp only[ac,af,if_true]
   refine bY rfl rfl ?_;try simp only[zD,zE]
   exact⟨_,rfl,m.ext,⟨_,_,_,rfl,rfl,(m.o 0 rfl)⟩⟩
theorem ad7{kind bits:Int}[Iw kind][Iw bits]{N cap:Nat}{A:Option Addr}{zs:List Int}(w:aw)(hZ:dH w A N zs):gZ prog 35 [.int .i64 kind,.int .i64 bits,.slice A N cap] w (TS 58 (pD kind bits zs) w):=by
 refine⟨aez,?_⟩;have m:=cK.refl w;have hbb:=Cu (n:=bits) (m:=134217728) (by decide);haveI:Iw (kind.tdiv 3):=⟨(Mz (Iw.h (n:=kind))).2⟩
 go_enter func35,ntmps35
 refine aF fun K1 k1=>aa (aA aD (aC (k1 _ _ ?_)));refine aF fun K2 k2=>aF fun K3 k3=>aa (aA aB ?_);simp only[zz];refine aX m rfl rfl (Ss (n:=kind) (k:=3) (by decide) (by decide)) ?_;clear m;intro u m;refine aA (mF rfl rfl) (aC (k3 _ _ ?_));simp only[zz];refine cW rfl (fun hc1=>?_) (fun hc1=>?_)
 ·
  refine aF fun K4 k4=>aa (aA aB ?_);simp only[zz];refine aX m rfl rfl (Ss (n:=bits) (k:=134217728) (by decide) (by decide)) ?_;clear m;intro u m;refine aA (bV rfl rfl rfl) ?_;simp only[zz];rw[show bits%134217728=(((bits%134217728).toNat:Nat):Int) by omega];refine bT rfl rfl (aai (b:=(bits%134217728).toNat) _ (by omega)) ?_;rintro v u e ⟨A1,cap1,_,rfl,rfl,hN⟩;replace m:=m.newO e hN;clear e hN;refine aA aD (aC (k4 _ _ ?_));refine bc ?_;simp only[zz];try simp only[ac,af,if_true]
  refine bY rfl rfl ?_;try simp only[zD,zE]
  exact⟨_,rfl,m.ext,by rw[pD,if_pos hc1];exact⟨_,_,_,rfl,rfl,(m.o 0 rfl)⟩⟩
 ·
  refine ar (k2 _ _ ?_);refine aF fun K5 k5=>aa (aA aB ?_);simp only[zz];refine aA (jA rfl rfl (by omega) (Mz (Iw.h (n:=kind))).1) (aA aB ?_);simp only[zz];refine bT rfl rfl (abK (n0:=kind.tdiv 3) _ (hZ.ext m.ext)) ?_;rintro v u e ⟨A1,cap1,_,rfl,rfl,hN⟩;replace m:=m.newO e hN;clear e hN;refine aA aD (aC (k5 _ _ ?_));refine bc ?_;simp only[zz];try simp only[ac,af,if_true]
  refine bY rfl rfl ?_;try simp only[zD,zE]
  exact⟨_,rfl,m.ext,by rw[pD,if_neg hc1];exact⟨_,_,_,rfl,rfl,(m.o 0 rfl)⟩⟩
end Go.Proofs.YtimjandkmfcmiaaGreatDoor
namespace Go.Proofs.YtimjandkmfcmiaaGreatDoor
open Go.Proofs.Tryz
open Go.RowKit Go.Lith
set_option maxRecDepth 100000
attribute [local irreducible] bh ck eY eO eJ Code.wp
theorem uJ{n:Int}(h:kO n):IntKind.i64.wrap n=n:=aO h.1 h.2
theorem Ik{n:Nat}{T:List T3}{i:Nat}{l:List T3}{P:T3→Prop}(h:∀t∈T,P t)(hl:(iP n 30 T)[i]? = some l):∀t∈l,P t:=fun t ht=>h t (Ez (cc hl) t ht)
def bsC(zs:List Int)(i n:Nat):List Go.Value:=(List.range i).map (fun j=>.int .i64 (nA zs j))++bk (n-i) (.int .i64 0)
theorem aaj{zs:List Int}{i n:Nat}(h:i<n):aW (bsC zs i n) i [.int .i64 (nA zs i)]=bsC zs (i+1) n:=by
 unfold aW bsC;rw[List.take_append_of_le_length (by simp),bp (by simp),List.range_succ,br,et,et]
 congr 1
 rw[List.drop_append];simp only[dj,List.length_range,ci,eu,List.map_cons,List.map_nil,ep,dy]
 congr 1
 rw[fq (by simp),dy,show i+(0+1)-i=1 by omega,List.drop_replicate]
 congr 1
theorem abL{zs:List Int}{i n:Nat}(h:i≤n):(bsC zs i n).length=n:=by
 simp[bsC];omega
theorem abM{zs:List Int}{n:Nat}:bsC zs n n=(jJ n zs).map (gi .i64 ·):=by
 simp[bsC,jJ]
theorem aak{n:Nat}:bsC [] 0 n=(jJ n []).map (gi .i64 ·):=by
 symm
 show (jJ n []).map _=[]++bk (n-0) _
 rw[dy,Nat.sub_zero];refine List.eq_replicate_iff.2 ⟨by simp[jJ],fun b hb=>?_⟩;obtain⟨z,hz,rfl⟩:=ew.1 hb;obtain⟨i,_,rfl⟩:=ew.1 hz;rfl
theorem Vf{α:Type}(ts:List α)(m:Nat):ts.take (min m ts.length)=ts.take m:=by
 rcases Nat.le_total m ts.length with h | h
 · rw[co h]
 · rw[Nat.min_eq_right h,c_,bp h]
theorem Vg{α:Type}(ts:List α)(m:Nat):ts.drop (min m ts.length)=ts.drop m:=by
 rcases Nat.le_total m ts.length with h | h
 · rw[co h]
 · rw[Nat.min_eq_right h,List.drop_length,fq h]
theorem Vh{L:Kt}{A:Option Addr}{N cap m:Nat}{ts:List T3}(s:pT L ⟨A,N,cap⟩ ts)(hN:N=ts.length):pT L ⟨A,min m N,cap⟩ (ts.take m):=by
 have:=s.take (k:=min m N) (Nat.min_le_right _ _);subst hN;rwa [Vf] at this
theorem Vi{L:Kt}{A:Option Addr}{N cap m:Nat}{ts:List T3}(s:pT L ⟨A,N,cap⟩ ts)(hN:N=ts.length):pT L ⟨if cap=min m N then A else A.map (·.add (min m N*9)),N-min m N,cap-min m N⟩ (ts.drop m):=by
 have:=s.drop (k:=min m N) (Nat.min_le_right _ _);subst hN;rwa [Vg] at this
theorem aal{A:Option Addr}{ts:List T3}{n cap:Nat}(hn:n=ts.length)(hi:∀t∈ts,IT t)(hc:n≤cap):pT [(A,ts.flatMap cX)] ⟨A,n,cap⟩ ts:=by
 subst hn;exact pT.one hi hc
theorem abN(i n:Nat):((i:Int)*(i:Int)+(i:Int)).tmod (n:Int)=(((i*i+i)%n:Nat):Int):=rfl
theorem ace{t:T3}{v:P3}{b:Int}(h:Rv 200 t)(hv:(-b≤v.x∧v.x≤b)∧(-b≤v.y∧v.y≤b)∧(-b≤v.z∧v.z≤b))(hb:b≤49):IT (t.sh v):=by
 obtain⟨⟨a1,a2,a3⟩,⟨b1,b2,b3⟩,⟨c1,c2,c3⟩⟩:=h;refine⟨⟨⟨?_,?_⟩,⟨?_,?_⟩,⟨?_,?_⟩⟩,⟨⟨?_,?_⟩,⟨?_,?_⟩,⟨?_,?_⟩⟩,⟨⟨?_,?_⟩,⟨?_,?_⟩,⟨?_,?_⟩⟩⟩ <;> (simp only[T3.sh,P3.sh];omega)
theorem abO{n k:Nat}{l:List T3}:(iP n k l).flatten.length≤k*n:=by
 induction k generalizing l with
 | zero=>simp[iP]
 | succ k ih =>
  unfold iP;split
  · simp
  ·
   rw[lx,bg,List.length_take,Nat.succ_mul];have:=ih (l:=l.drop n);omega
theorem abP{ts:List T3}{N cap:Nat}{A:Option Addr}{v:P3}(w:aw)(hT:dX w A N ts)(hI:∀t∈ts,IT (t.sh v))(hN:N≤100000):gZ prog 24 [.slice A N cap,pt v] w (TS 58 (ts.map (T3.sh v)) w):=by
 refine⟨aeo,?_⟩;have m:=cK.refl w;have htl:=hT.len
 go_enter func24,ntmps24
 refine aF fun K1 k1=>aa (cQ m rfl ?_);clear m;intro g1 u m;refine aA aD (aC (k1 _ _ ?_));refine aF fun K2 k2=>aa (aA aD ?_);replace m:=m.nilO 58 9;refine aC (k2 _ _ ?_);refine aF fun K3 k3=>aF fun K4 k4=>aa (aA aD ?_);simp only[zz];refine aC (k4 _ _ ?_);refine av ?_;try simp only[ah,ab,ag,ae]
 refine dI [5,6] [7,8,9,10,11,12,13,14,15,16,17,18,19,20,21,22,23,24,25,26,27,28,29,30,31,32,33,34,35,36,37,38,39,40,41,42,43,44,45,46,47,48,49,50] (fun n vs wl=>∃(k cap5:Nat) (A5:Option Addr),vs=[.slice A5 k cap5,.int .i64 (k:Int)]∧cK w wl [oI 58 9 A5 k cap5 (((ts.take k).map (T3.sh v)).flatMap cX),bI g1 [.int .i64 v.x,.int .i64 v.y,.int .i64 v.z] 56]∧(k≤N)∧(n=N-k)) ?_ ?_
 ·
  apply Exists.intro;simp only[zQ,zR,zD,zE];exact⟨0,_,_,rfl,m,cd _,rfl⟩
 ·
  intro n vs wr hI u;clear m;obtain⟨k,cap5,A5,rfl,m,hk,hn⟩:=hI;simp only[zu,zF,zG];refine aF fun K5 k5=>aF fun K6 k6=>aa (aA aB (aA aB (aA (bR rfl iW rfl) (aA (dZ rfl rfl) ?_))));simp only[zz];refine aC (k6 _ _ ?_);refine cW rfl (fun hc1=>?_) (fun hc1=>?_)
  ·
   obtain⟨t,ht,_,a,rfl,hrow⟩:=hT.get (i:=k) (by omega);have hIt:=hI t (cc ht);refine ar (k5 _ _ ?_);refine aF fun K7 k7=>av (aF fun K8 k8=>aa (aA aB (aA aB ?_)));simp only[zz];refine aA (aS iW eW rfl rfl (by omega) (by omega) (sR (an _))) ?_;simp only[zz];refine aI rfl ((hrow.ext m.ext).lies mW eW) ?_;simp only[zz];refine bE m Cj rfl ?_;clear m;intro g2 u m;simp only[zz];refine aN m 0 rfl rfl rfl eW (bZ rfl) rfl ?_;clear m;intro u m;simp only[zy,zx,aW,zF,zG,ab] at m;refine aC (k8 _ _ ?_);refine aF fun K9 k9=>aF fun K10 k10=>aa (aA aD (aC (k10 _ _ ?_)));refine av (wp_loop_rounds 4 (dT (aF fun K11 k11=>aF fun K12 k12=>aa (aA aB (aA (cD (m:=0) (n:=3) rfl rfl (by decide)) (aC (k12 _ _ ?_)))))));refine bX rfl (ar (k11 _ _ ?_));refine aF fun K13 k13=>av ?_;simp only[zz];refine dO m 24 aP (by kernel_rfl) ?_;simp only[zy];refine aQ aB (aQ aB (aQ (aJ iC aL rfl rfl (by decide) (by decide) rfl) (aQ (aG (c:=0) bP rfl aM rfl rfl) ?_)));simp only[zz];refine ql rfl (fun u m=>((m.b 0 rfl).lies1 aV rfl)) ?_;simp only[zz];refine aQ (aG (c:=0) bP rfl aM rfl rfl) ?_;simp only[zz];refine ql rfl (fun u m=>((m.b 2 rfl).lies1 aV rfl)) ?_;simp only[zz];refine aQ (aZ rfl rfl (uJ (n:=t.a.x+v.x) hIt.a.x)) (aQ aB (aQ (aJ iC aL rfl rfl (by decide) (by decide) rfl) (aQ (aG (c:=0) bP rfl aM rfl rfl) ?_)));simp only[zz];refine ql rfl (fun u m=>((m.b 0 rfl).lies1 aV rfl)) ?_;simp only[zz];refine aQ (aG (c:=0) bP rfl aM rfl rfl) ?_;simp only[zz];refine ql rfl (fun u m=>((m.b 2 rfl).lies1 aV rfl)) ?_;simp only[zz];refine aQ (aZ rfl rfl (uJ (n:=t.a.y+v.y) hIt.a.y)) (aQ aB (aQ (aJ iC aL rfl rfl (by decide) (by decide) rfl) (aQ (aG (c:=0) bP rfl aM rfl rfl) ?_)));simp only[zz];refine ql rfl (fun u m=>((m.b 0 rfl).lies1 aV rfl)) ?_;simp only[zz];refine aQ (aG (c:=0) bP rfl aM rfl rfl) ?_;simp only[zz];refine ql rfl (fun u m=>((m.b 2 rfl).lies1 aV rfl)) ?_;simp only[zz];refine aQ (aZ rfl rfl (uJ (n:=t.a.z+v.z) hIt.a.z)) (aQ (bV rfl rfl rfl) (aQ (aJ iC aL rfl rfl (by decide) (by decide) rfl) (eD ?_)));clear m;intro u m;simp only[zz];refine aN m 0 rfl rfl rfl aL (bZ rfl) rfl ?_;clear m;intro u m;simp only[zy,zx,aW,zF,zG,ab] at m;refine aC (k13 _ _ ?_);refine aa (aA aB (aA (aZ (m:=0) (n:=1) (r:=1) rfl rfl (by decide)) (aA aD (aC (bD (aF fun K14 k14=>aF fun K15 k15=>aa (aA aB ?_)))))));simp only[zz];refine aA (cD (m:=1) (n:=3) rfl rfl (by decide)) (aC (k15 _ _ ?_));refine bX rfl (ar (k14 _ _ ?_));refine aF fun K16 k16=>av ?_;simp only[zz];refine dO m 24 aP (by kernel_rfl) ?_;simp only[zy];refine aQ aB (aQ aB (aQ (aJ iC aL rfl rfl (by decide) (by decide) rfl) (aQ (aG (c:=0) bP rfl aM rfl rfl) ?_)));simp only[zz];refine ql rfl (fun u m=>((m.b 0 rfl).lies1 aV rfl)) ?_;simp only[zz];refine aQ (aG (c:=0) bP rfl aM rfl rfl) ?_;simp only[zz];refine ql rfl (fun u m=>((m.b 2 rfl).lies1 aV rfl)) ?_;simp only[zz];refine aQ (aZ rfl rfl (uJ (n:=t.b.x+v.x) hIt.b.x)) (aQ aB (aQ (aJ iC aL rfl rfl (by decide) (by decide) rfl) (aQ (aG (c:=0) bP rfl aM rfl rfl) ?_)));simp only[zz];refine ql rfl (fun u m=>((m.b 0 rfl).lies1 aV rfl)) ?_;simp only[zz];refine aQ (aG (c:=0) bP rfl aM rfl rfl) ?_;simp only[zz];refine ql rfl (fun u m=>((m.b 2 rfl).lies1 aV rfl)) ?_;simp only[zz];refine aQ (aZ rfl rfl (uJ (n:=t.b.y+v.y) hIt.b.y)) (aQ aB (aQ (aJ iC aL rfl rfl (by decide) (by decide) rfl) (aQ (aG (c:=0) bP rfl aM rfl rfl) ?_)));simp only[zz];refine ql rfl (fun u m=>((m.b 0 rfl).lies1 aV rfl)) ?_;simp only[zz];refine aQ (aG (c:=0) bP rfl aM rfl rfl) ?_;simp only[zz];refine ql rfl (fun u m=>((m.b 2 rfl).lies1 aV rfl)) ?_;simp only[zz];refine aQ (aZ rfl rfl (uJ (n:=t.b.z+v.z) hIt.b.z)) (aQ (bV rfl rfl rfl) (aQ (aJ iC aL rfl rfl (by decide) (by decide) rfl) (eD ?_)));clear m;intro u m;simp only[zz];refine aN m 0 rfl rfl rfl aL (bZ rfl) rfl ?_;clear m;intro u m;simp only[zy,zx,aW,zF,zG,ab] at m;refine aC (k16 _ _ ?_);refine aa (aA aB (aA (aZ (m:=1) (n:=1) (r:=2) rfl rfl (by decide)) (aA aD (aC (bD (aF fun K17 k17=>aF fun K18 k18=>aa (aA aB ?_)))))));simp only[zz];refine aA (cD (m:=2) (n:=3) rfl rfl (by decide)) (aC (k18 _ _ ?_));refine bX rfl (ar (k17 _ _ ?_));refine aF fun K19 k19=>av ?_;simp only[zz];refine dO m 24 aP (by kernel_rfl) ?_;simp only[zy];refine aQ aB (aQ aB (aQ (aJ iC aL rfl rfl (by decide) (by decide) rfl) (aQ (aG (c:=0) bP rfl aM rfl rfl) ?_)));simp only[zz];refine ql rfl (fun u m=>((m.b 0 rfl).lies1 aV rfl)) ?_;simp only[zz];refine aQ (aG (c:=0) bP rfl aM rfl rfl) ?_;simp only[zz];refine ql rfl (fun u m=>((m.b 2 rfl).lies1 aV rfl)) ?_;simp only[zz];refine aQ (aZ rfl rfl (uJ (n:=t.c.x+v.x) hIt.c.x)) (aQ aB (aQ (aJ iC aL rfl rfl (by decide) (by decide) rfl) (aQ (aG (c:=0) bP rfl aM rfl rfl) ?_)));simp only[zz];refine ql rfl (fun u m=>((m.b 0 rfl).lies1 aV rfl)) ?_;simp only[zz];refine aQ (aG (c:=0) bP rfl aM rfl rfl) ?_;simp only[zz];refine ql rfl (fun u m=>((m.b 2 rfl).lies1 aV rfl)) ?_;simp only[zz];refine aQ (aZ rfl rfl (uJ (n:=t.c.y+v.y) hIt.c.y)) (aQ aB (aQ (aJ iC aL rfl rfl (by decide) (by decide) rfl) (aQ (aG (c:=0) bP rfl aM rfl rfl) ?_)));simp only[zz];refine ql rfl (fun u m=>((m.b 0 rfl).lies1 aV rfl)) ?_;simp only[zz];refine aQ (aG (c:=0) bP rfl aM rfl rfl) ?_;simp only[zz];refine ql rfl (fun u m=>((m.b 2 rfl).lies1 aV rfl)) ?_;simp only[zz];refine aQ (aZ rfl rfl (uJ (n:=t.c.z+v.z) hIt.c.z)) (aQ (bV rfl rfl rfl) (aQ (aJ iC aL rfl rfl (by decide) (by decide) rfl) (eD ?_)));clear m;intro u m;simp only[zz];refine aN m 0 rfl rfl rfl aL (bZ rfl) rfl ?_;clear m;intro u m;simp only[zy,zx,aW,zF,zG,ab] at m;refine aC (k19 _ _ ?_);refine aa (aA aB (aA (aZ (m:=2) (n:=1) (r:=3) rfl rfl (by decide)) (aA aD (aC (bD (aF fun K20 k20=>aF fun K21 k21=>aa (aA aB ?_)))))));simp only[zz];refine aA (fD (m:=3) (n:=3) rfl rfl (by decide)) (aC (k21 _ _ ?_));refine eZ rfl (bw (k9 _ _ ?_));refine aa (aA aB ?_);simp only[zz];refine aI rfl ((m.b 0 rfl).full mW eW) ?_;simp only[zz];refine Hl rfl ?_;intro u g3 e hg hB;replace m:=m.newB e hg hB;clear e hg hB;simp only[zz];refine eM m 2 rfl rfl iW rX rfl (by decide) rfl rfl rfl (m.b 0 rfl).rowsO (lY rfl) (by omega) (by omega) ?_;clear m;intro A5 cap5 u m;simp only[zF,zG] at m;refine aA aD (aC (k7 _ _ ?_));refine aa (aA aB ?_);simp only[zz];refine aA (aZ rfl rfl (aO (by omega) (by omega))) (aA aD (aC ?_));simp only[zz];simp only[ac,af];refine⟨N-(k+1),_,?_,rfl,?_,?_⟩
   · omega
   · simp only[zz,zv]
   ·
    simp only[zQ,zR,zD,zE];exact⟨k+1,_,_,rfl,((m.reO 2 rfl ((m.o 2 rfl).as (by rw[Uu ht,br,cr];rfl))).sel [false,false,true,true]),by omega,rfl⟩
  ·
   obtain rfl:k=N:=by omega
   rw[show ts.take k=ts from bp (by omega)] at m;refine bw (k3 _ _ ?_);refine aF fun K22 k22=>aa (aA aB (aA aD (aC (k22 _ _ ?_))));refine bc ?_;simp only[zz];try simp only[ac,af,if_true]
   refine bY rfl rfl ?_;try simp only[zD,zE]
   exact⟨_,rfl,m.ext,⟨_,_,_,by rw[dj];exact htl.symm,rfl,(m.o 0 rfl)⟩⟩
theorem Qv{kind bits:Int}[Iw kind][Iw bits]{q:Nat}{r:gJ}[IR r]{HA ZA PA:Option Addr}{HN Hc ZN Zc PN Pc:Nat}{hz zs:List Int}{ss:List P3}(w:aw)(hH:dH w HA HN hz)(hZ:dH w ZA ZN zs)(hP:Ut Qh 3 w PA PN ss)(hq:q<256):gZ prog 19 [.agg #[.int .i64 kind,.int .i64 bits,.slice HA HN Hc,.int .u8 (q:Int),.slice ZA ZN Zc,.int .i64 r.s.x,.int .i64 r.s.y,.int .i64 r.s.z,.int .i64 r.w,.int .i64 r.d.x,.int .i64 r.d.y,.int .i64 r.d.z,.slice PA PN Pc]] w (fun v w'=>∃A n cap hs L,v=.slice A n cap∧n=hs.length∧cK w w' [oI 48 1 A n cap (hs.map Hd.v),pW L]∧Ic L hs (iP (1+q%12) 30 (pD kind bits hz))):=by
 refine⟨aej,?_⟩;have m:=cK.refl w
 go_enter func19,ntmps19
 refine aF fun K1 k1=>aa (cQ m rfl ?_);clear m;intro g1 u m;refine aA aD (aC (k1 _ _ ?_));refine aF fun K2 k2=>aa (aA (aG (c:=0) nK rfl aM rfl rfl) ?_);simp only[zz];refine aI rfl ((m.b 0 rfl).lies1 aV rfl) ?_;simp only[zz];refine aA (aG (c:=0) nK rfl aM rfl rfl) ?_;simp only[zz];refine aI rfl ((m.b 0 rfl).lies1 aV rfl) ?_;simp only[zz];refine aA (aG (c:=0) nK rfl bW rfl rfl) ?_;simp only[zz];refine aI rfl ((m.b 0 rfl).lies1 fQ rfl) ?_;simp only[zz];refine bT rfl rfl (ad7 (kind:=kind) (bits:=bits) _ (hH.ext m.ext)) ?_;rintro v u e ⟨A1,cap1,_,rfl,rfl,hN⟩;replace m:=m.newO e hN;clear e hN;refine aA aD (aC (k2 _ _ ?_));refine aF fun K3 k3=>?_;simp only[zz];have hle1:=(m.o 0 rfl).le;have hle2:=(m.o 0 rfl).max;replace m:=m.oR 0 rfl;simp only[zF,zG] at m;refine aa (aA (aG (c:=0) nK rfl aaw rfl rfl) ?_);simp only[zz];refine aI rfl ((m.b 1 rfl).lies1 afA rfl) ?_;simp only[zz];refine aA (fL rfl rfl (by omega) (show (q:Int).tmod 12=((q%12:Nat):Int) from rfl)) (aA (eT jR nL rfl (aO (by omega) (by omega))) (aA (aZ rfl rfl (show IntKind.i64.wrap (1+((q%12:Nat):Int))=((1+q%12:Nat):Int) by rw[aO (by omega) (by omega)];omega)) (aA aD ?_)));simp only[zz];refine aC (k3 _ _ ?_);refine aF fun K4 k4=>aa (aA aD ?_);replace m:=m.nilO 48 1;refine aC (k4 _ _ ?_);refine aF fun K5 k5=>av ?_;simp only[zz];try simp only[ah,ab,ag,ae]
 refine dI [3,5] [6,19,20,21,22,23,24,25,26,27,28,29,30,31,32,33,34,35,36,37,38,39] (fun n vs wl=>∃(LA A5:Option Addr) (Ln Lc n5 cap5:Nat) (hs:List Hd) (xs:List (List T3)) (rest:List T3),vs=[.slice LA Ln Lc,.slice A5 n5 cap5]∧cK w wl [oI 48 1 A5 n5 cap5 (hs.map Hd.v),pW [(A1,(pD kind bits hz).flatMap cX)],bI g1 [.int .i64 kind,.int .i64 bits,.slice HA HN Hc,.int .u8 (q:Int),.slice ZA ZN Zc,.int .i64 r.s.x,.int .i64 r.s.y,.int .i64 r.s.z,.int .i64 r.w,.int .i64 r.d.x,.int .i64 r.d.y,.int .i64 r.d.z,.slice PA PN Pc] 28]∧(Ic [(A1,(pD kind bits hz).flatMap cX)] hs xs)∧(pT [(A1,(pD kind bits hz).flatMap cX)] ⟨LA,Ln,Lc⟩ rest)∧(Ln=rest.length∧Ln≤9223372036854775807)∧(iP (1+q%12) 30 (pD kind bits hz)=xs++iP (1+q%12) (30-xs.length) rest)∧(xs.length≤30)∧(n5=hs.length)∧(n=30-xs.length)) ?_ ?_
 ·
  apply Exists.intro;simp only[zQ,zR,zD,zE];exact⟨_,_,_,_,_,_,[],[],pD kind bits hz,rfl,m,Ic.nil _,pT.one (fun t ht=>(Ep t ht).it (by decide)) hle1,⟨rfl,by omega⟩,rfl,cd _,rfl,rfl⟩
 ·
  intro n vs wr hI u;clear m;obtain⟨LA,A5,Ln,Lc,n5,cap5,hs,xs,rest,rfl,m,hcov,hsay,hrl,hch,hxl,hn5,hn⟩:=hI;simp only[zu,zF,zG];refine aF fun K6 k6=>aF fun K7 k7=>aa (aA aB (aA (bR rfl iW rfl) (aA (gW rfl rfl) (aA aB ?_))));simp only[zz];refine iU rfl (fun hb=>aB) (iU rfl (fun hb=>bR rfl kW (jU hb rfl)) (iU rfl (fun hb=>dZ (jU hb rfl) rfl) (aA (lK rfl rfl rfl) ?_)));simp only[zz];refine aC (k7 _ _ ?_);refine Rt rfl (fun hc1=>?_) (fun hc1=>?_)
  ·
   simp only[bu,decide_eq_true_eq] at hc1;have hlc:Ln≤Lc:=hsay.1;have hcl:=hcov.len;have hne:rest≠[]:=fun e=>by rw[e] at hrl;simp only[eu] at hrl;omega
   have hs1:=Vh (m:=1+q%12) hsay hrl.1;have hs2:=Vi (m:=1+q%12) hsay hrl.1;refine ar (k6 _ _ ?_);refine av (aF fun K8 k8=>aa (aA aB (aA aB (aA (bR rfl iW rfl) (aA (oT rfl rfl (abl (a:=1+q%12) (b:=Ln))) ?_)))));simp only[zz];refine aA aD (aC (k8 _ _ ?_));refine aF fun K9 k9=>aa (aA aB (aA aB (aA aB ?_)));simp only[zz];refine aA (oB iW eW rfl rfl (an _) (by omega) (by omega)) ?_;simp only[zz];refine cN kW (z:=.slice none 0 0) (by kernel_rfl) rfl rfl rfl ?_;intro u g2 e hg hB;replace m:=m.newB e hg hB;clear e hg hB;simp only[zz];refine eM m 1 rfl rfl kW Oq rfl (by decide) rfl rfl rfl (m.b 0 rfl).rowsO (lY rfl) (by omega) (by omega) ?_;clear m;intro A5 cap5 u m;simp only[zF,zG] at m;refine aA aD (aC (k9 _ _ ?_));refine aa (aA aB (aA aB ?_));simp only[zz];refine aA (oC iW eW rfl rfl (an _) (by omega) (by omega) rfl) (aA aD (aC ?_));simp only[zz];simp only[ac,af];refine⟨30-(xs.length+1),_,?_,rfl,?_,?_⟩
   · omega
   · simp only[zz,zv]
   ·
    simp only[zQ,zR,zD,zE];exact⟨_,_,_,_,_,_,hs++[⟨LA,min (1+q%12) Ln,Lc⟩],xs++[rest.take (1+q%12)],rest.drop (1+q%12),rfl,((m.reO 1 rfl ((m.o 1 rfl).as (by rw[br];rfl))).sel [false,true,true,true]),hcov.snoc hs1,hs2,⟨by rw[List.length_drop,←hrl.1];omega,by omega⟩,by rw[hch,et,show 30-xs.length=(30-(xs++[rest.take (1+q%12)]).length)+1 by (rw[bg];simp only[ci,eu];omega),Nn hne];rfl,by rw[bg];simp only[ci,eu];omega,by rw[bg,hn5];rfl,by rw[bg];rfl⟩
  ·
   simp only[Bool.and_eq_false_iff,decide_eq_false_iff_not] at hc1;have hcl:=hcov.len;have hfin:iP (1+q%12) 30 (pD kind bits hz)=xs:=by
    rcases hc1 with h | h
    · rw[hch,bz (l:=rest) (by omega),Qf,du]
    · rw[hch,show 30-xs.length=0 by omega];exact du _
   refine bw (k5 _ _ ?_);refine aF fun K10 k10=>aa (aA aB (aA aD (aC (k10 _ _ ?_))));refine bc ?_;simp only[zz];try simp only[ac,af,if_true]
   refine bY rfl rfl ?_;try simp only[zD,zE]
   exact⟨_,rfl,m.ext,_,_,_,hs,_,rfl,hn5,m.sel [true,true,false],by rw[hfin];exact hcov⟩
theorem Ob{kind bits:Int}[Iw kind][Iw bits]{q:Nat}{r:gJ}[IR r]{HA ZA PA:Option Addr}{HN Hc ZN Zc PN Pc:Nat}{hz zs:List Int}{ss:List P3}{n0:Nat}(w:aw)(hH:dH w HA HN hz)(hZ:dH w ZA ZN zs)(hP:Ut Qh 3 w PA PN ss)(hq:q<256)(hn0:n0≤30):gZ prog 13 [.agg #[.int .i64 kind,.int .i64 bits,.slice HA HN Hc,.int .u8 (q:Int),.slice ZA ZN Zc,.int .i64 r.s.x,.int .i64 r.s.y,.int .i64 r.s.z,.int .i64 r.w,.int .i64 r.d.x,.int .i64 r.d.y,.int .i64 r.d.z,.slice PA PN Pc],.int .i64 (n0:Int)] w (fun v w'=>∃A cap,v=.slice A n0 cap∧Ow w w' [] 3 1 A n0 cap ((jJ n0 zs).map (gi .i64 ·))):=by
 refine⟨aef,?_⟩;have m:=cK.refl w
 go_enter func13,ntmps13
 refine aF fun K1 k1=>aa (cQ m rfl ?_);clear m;intro g1 u m;refine aA aD (aC (k1 _ _ ?_));refine aF fun K2 k2=>aa (aA aB ?_);simp only[zz];refine lU bM iF rfl rfl rfl (an _) (an _) (by omega) (by omega) (by omega) (by omega) ?_;intro u g2 e hg hB;replace m:=m.newB e hg hB;clear e hg hB;refine aA aD (aC (k2 _ _ ?_));refine aF fun K3 k3=>aF fun K4 k4=>aa (aA aD (aC (k4 _ _ ?_)));refine av ?_;simp only[zz];try simp only[ah,ab,ag,ae]
 refine dI [6] [9,10,11,12,13,14,15,16,17,18,19,20,21,22,23,24,25,26,27,28,29,30,31,32,33,34,35,36,37] (fun n vs wl=>∃(i:Nat),vs=[.int .i64 (i:Int)]∧cK w wl [bI g2 (bsC zs i n0) 3,bI g1 [.int .i64 kind,.int .i64 bits,.slice HA HN Hc,.int .u8 (q:Int),.slice ZA ZN Zc,.int .i64 r.s.x,.int .i64 r.s.y,.int .i64 r.s.z,.int .i64 r.w,.int .i64 r.d.x,.int .i64 r.d.y,.int .i64 r.d.z,.slice PA PN Pc] 28]∧(i≤n0)∧(zs=[]→i=0)∧(n=n0-i)) ?_ ?_
 ·
  apply Exists.intro;simp only[zQ,zR,zD,zE];exact⟨0,rfl,m,cd _,fun _=>rfl,rfl⟩
 ·
  intro n vs wr hI u;clear m;obtain⟨i,rfl,m,hi,hzi,hn⟩:=hI;simp only[zu,zF,zG];refine aF fun K5 k5=>aF fun K6 k6=>aa (aA aB (aA aB (aA (dZ rfl rfl) (aA aB ?_))));simp only[zz];refine iU rfl (fun hb=>aG (c:=0) nK rfl bW rfl rfl) ?_;simp only[zz];refine rS rfl (fun hb=>lM (jU hb rfl) ((m.b 1 rfl).lies1 fQ rfl)) (iU rfl (fun hb=>bR rfl bM (jU hb rfl)) (iU rfl (fun hb=>gW (jU hb rfl) rfl) (aA (lK rfl rfl rfl) (aC (k6 _ _ ?_)))));simp only[zz];refine Rt rfl (fun hc1=>?_) (fun hc1=>?_)
  ·
   simp only[bu,decide_eq_true_eq] at hc1;have hlen:=hZ.len;have hii:(0:Int)≤(i:Int)*(i:Int)∧(i:Int)*(i:Int)≤900:=by
    have:i*i≤30*30:=Nat.mul_le_mul (by omega) (by omega);exact⟨by exact_mod_cast cd _,by exact_mod_cast this⟩
   have hmod:(i*i+i)%ZN<ZN:=ft _ (by omega);obtain⟨z,hz,hz64,a,rfl,hcell⟩:=hZ.get (i:=(i*i+i)%ZN) hmod;have hzne:zs≠[]:=fun e=>by rw[e] at hlen;simp only[eu] at hlen;omega
   refine ar (k5 _ _ ?_);refine aF fun K7 k7=>av ?_;refine dO m 18 aP (by kernel_rfl) ?_;simp only[zy];refine aQ aB (aQ aB (aQ (aG (c:=0) nK rfl bW rfl rfl) ?_));simp only[zz];refine ql rfl (fun u m=>((m.b 1 rfl).lies1 fQ rfl)) ?_;simp only[zz];refine aQ aB (aQ aB (aQ (fC rfl rfl (aO (by omega) (by omega))) (aQ aB ?_)));simp only[zz];refine aQ (aZ rfl rfl (aO (by omega) (by omega))) (aQ (aG (c:=0) nK rfl bW rfl rfl) ?_);simp only[zz];refine ql rfl (fun u m=>((m.b 1 rfl).lies1 fQ rfl)) ?_;simp only[zz];refine aQ (bR rfl bM rfl) ?_;simp only[zz];refine aQ (fL rfl rfl (by omega) (abN i ZN)) ?_;simp only[zz];refine aQ (aS bM aM rfl rfl (jl _) (by omega) (fH (an _))) ?_;simp only[zz];refine ql rfl (fun u m=>(Lith.lies1 (m.ext.cell hcell) aV)) ?_;simp only[zz];refine aQ (fL rfl rfl (by omega) rfl) (aQ (kL rfl rfl rfl) ?_);simp only[zz];refine aQ (aS bM aM rfl rfl (by omega) (by omega) (fS (an _))) (eD ?_);clear m;intro u m;simp only[zz];refine dL m 0 rfl rfl rfl aM (by rw[abL (by omega)];show i+1≤n0;omega) ⟨rfl,rfl⟩ ?_;clear m;intro u m;simp only[zz] at m;rw[show (if z.tmod 50 < -1 then -1 else z.tmod 50)=nA zs i by rw[nA,if_neg hzne,hlen,hz];rfl,aaj (by omega)] at m;refine aC (k7 _ _ ?_);refine aa (aA aB ?_);simp only[zz];refine aA (aZ rfl rfl (aO (by omega) (by omega))) (aA aD (aC ?_));simp only[zz];simp only[ac,af];refine⟨n0-(i+1),_,?_,rfl,?_,?_⟩
   · omega
   · simp only[zz,zv]
   ·
    simp only[zQ,zR,zD,zE];exact⟨i+1,rfl,m,by omega,fun e=>absurd e hzne,rfl⟩
  ·
   simp only[Bool.and_eq_false_iff,decide_eq_false_iff_not] at hc1;have hlen:=hZ.len;have hend:bsC zs i n0=((jJ n0 zs).map (gi .i64 ·)):=by
    rcases hc1 with h | h
    ·
     obtain rfl:i=n0:=by omega
     exact abM
    ·
     have e:zs=[]:=bz (by omega);rw[hzi e,e];exact aak
   rw[hend] at m;refine bw (k3 _ _ ?_);refine aF fun K8 k8=>aa (aA aB (aA aD (aC (k8 _ _ ?_))));refine bc ?_;simp only[zz];try simp only[ac,af,if_true]
   refine bY rfl rfl ?_;try simp only[zD,zE]
   exact⟨_,rfl,m.ext,_,_,rfl,m.bo 0 rfl (by simp[jJ]) (by simp only[maxLen];omega)⟩
theorem sh4(ss:List P3)(z:Int):z<0∨z=0∨(0<z∧ss=[])∨(0<z∧ss≠[]):=by
 by_cases h:ss=[]
 ·
  by_cases hz:0<z
  · exact .inr (.inr (.inl ⟨hz,h⟩))
  · omega
 ·
  by_cases hz:0<z
  · exact .inr (.inr (.inr ⟨hz,h⟩))
  · omega
theorem abQ{kind bits:Int}[Iw kind][Iw bits]{q:Nat}{r:gJ}[IR r]{HA ZA PA:Option Addr}{HN Hc ZN Zc PN Pc:Nat}{hz zs:List Int}{ss:List P3}(w:aw)(hH:dH w HA HN hz)(hZ:dH w ZA ZN zs)(hP:Ut Qh 3 w PA PN ss)(hq:q<256):gZ prog 12 [.agg #[.int .i64 kind,.int .i64 bits,.slice HA HN Hc,.int .u8 (q:Int),.slice ZA ZN Zc,.int .i64 r.s.x,.int .i64 r.s.y,.int .i64 r.s.z,.int .i64 r.w,.int .i64 r.d.x,.int .i64 r.d.y,.int .i64 r.d.z,.slice PA PN Pc]] w (fun v w'=>∃A n cap hs L,v=.slice A n cap∧n=hs.length∧cK w w' [oI 48 1 A n cap (hs.map Hd.v),pW L]∧Ic L hs (dN ss (jJ (iP (1+q%12) 30 (pD kind bits hz)).length zs) (iP (1+q%12) 30 (pD kind bits hz)))):=by
 refine⟨aee,?_⟩;have m:=cK.refl w
 go_enter func12,ntmps12
 refine aF fun K1 k1=>aa (cQ m rfl ?_);clear m;intro g1 u m;refine aA aD (aC (k1 _ _ ?_));refine aF fun K2 k2=>aa ?_;simp only[zz];refine aI rfl ((m.b 0 rfl).full Iz xW) ?_;simp only[zz];refine bT rfl rfl (Qv (kind:=kind) (bits:=bits) (r:=r) _ (hH.ext m.ext) (hZ.ext m.ext) (hP.ext m.ext) hq) ?_;rintro v u e ⟨A7,n7,cap7,hs,L,rfl,hn7,hM,hcov⟩;replace m:=m.plus hM;clear hM e;simp only[ep,dy] at m;obtain⟨F,hF⟩:∃F,F=iP (1+q%12) 30 (pD kind bits hz):=⟨_,rfl⟩
 rw[←hF] at hcov;have hfl:F.length≤30:=by rw[hF];exact Ay
 have hsm:∀(i:Nat) (l:List T3),F[i]? = some l→∀t∈l,Rv 200 t:=fun i l hl=>by rw[hF] at hl;exact Ik Ep hl
 have hf12:F.flatten.length≤360:=by rw[hF];exact ak abO (by omega)
 have hcl:=hcov.len;refine aA aD (aC (k2 _ _ ?_));refine aF fun K3 k3=>?_;simp only[zz];have e7:n7=F.length:=by omega
 subst e7;refine aa (aI rfl ((m.b 2 rfl).full Iz xW) ?_);simp only[zz];refine aA aB (aA (bR rfl kW rfl) ?_);simp only[zz];refine bT rfl rfl (Ob (kind:=kind) (bits:=bits) (r:=r) (zs:=zs) (n0:=F.length) _ (hH.ext m.ext) (hZ.ext m.ext) (hP.ext m.ext) hq hfl) ?_;rintro v u e ⟨A8,cap8,rfl,hN⟩;replace m:=m.newO e hN;clear e hN;refine aA aD (aC (k3 _ _ ?_));refine aF fun K4 k4=>aF fun K5 k5=>aa (aA aD (aC (k5 _ _ ?_)));refine av ?_;simp only[zz];try simp only[ah,ab,ag,ae]
 refine dI [5] [6,7,14,15,16,17,18,19,20,21,22,23,24,25,26,27,28,29,30,31,32,33,34,35,36,37,38,39,40,41,42,43,44,45,46,47,48,49,50,51,52,53,54,55,56,57,58,59,60,61,62,63,64,65,66,67,68,69,70,71,72,73,74] (fun n vs wl=>∃(i:Nat) (hs:List Hd) (L:Kt) (xs:List (List T3)),vs=[.int .i64 (i:Int)]∧cK w wl [oI 3 1 A8 F.length cap8 ((jJ F.length zs).map (gi .i64 ·)),oI 48 1 A7 F.length cap7 (hs.map Hd.v),pW L,bI g1 [.int .i64 kind,.int .i64 bits,.slice HA HN Hc,.int .u8 (q:Int),.slice ZA ZN Zc,.int .i64 r.s.x,.int .i64 r.s.y,.int .i64 r.s.z,.int .i64 r.w,.int .i64 r.d.x,.int .i64 r.d.y,.int .i64 r.d.z,.slice PA PN Pc] 28]∧(Ic L hs xs)∧(hs.length=F.length)∧(∀j,j<i→xs[j]? = (dN ss (jJ F.length zs) F)[j]?)∧(∀j,i≤j→xs[j]? = F[j]?)∧(i≤F.length)∧(n=F.length-i)) ?_ ?_
 ·
  apply Exists.intro;simp only[zQ,zR,zD,zE];exact⟨0,_,_,_,rfl,m,hcov,hcl,fun j h=>absurd h (Nat.not_lt_zero _),fun j _=>rfl,cd _,rfl⟩
 ·
  intro n vs wr hI u;clear m;obtain⟨i,hs,L,xs,rfl,m,hcov,hhl,hlo,hhi,hi,hn⟩:=hI;have hcl:=hcov.len;simp only[zu,zF,zG];refine aF fun K6 k6=>aF fun K7 k7=>aa (aA aB (aA aB (aA (bR rfl kW rfl) (aA (dZ rfl rfl) ?_))));simp only[zz];refine aC (k7 _ _ ?_);refine cW rfl (fun hc1=>?_) (fun hc1=>?_)
  ·
   obtain⟨g7,rfl⟩:=(m.o 1 rfl).some (by omega);obtain⟨g8,rfl⟩:=(m.o 0 rfl).some (by omega);obtain⟨⟨HB,Hn,Hcp⟩,hh⟩:∃h,hs[i]? = some h:=⟨_,ao (by omega)⟩
   obtain⟨l,hl⟩:∃l,F[i]? = some l:=⟨_,ao (by omega)⟩
   have hh2:(hs.map Hd.v)[i]? = some (.slice HB Hn Hcp):=by rw[db,hh];rfl
   have hbz:(((jJ F.length zs).map (gi .i64 ·)))[i]? = some (.int .i64 (nA zs i)):=by rw[db,Se (by omega)];rfl
   have hzb:=Sd zs i;have hx0:xs[i]? = some l:=by rw[hhi i (bi _)];exact hl
   have hsml:=hsm i l hl;refine ar (k6 _ _ ?_);refine aF fun K8 k8=>av (aF fun K9 k9=>aF fun K10 k10=>?_);rcases sh4 ss (nA zs i) with hz0 | hz0 | ⟨hz0,hss⟩ | ⟨hz0,hss⟩
   ·
    have hsa:kQ ss (nA zs i) i l=[]:=if_pos hz0;have hnew:kQ ss (gY (jJ F.length zs) i) i l=[]:=by rw[Kq (by omega)];exact hsa
    have hlo2:∀j,j<i+1→(xs.set i [])[j]? = (dN ss (jJ F.length zs) F)[j]?:=fun j hj=>by
     rcases cn j i with h | h
     · rw[fl (by omega)];exact hlo j h
     ·
      obtain rfl:j=i:=by omega
      rw[tC hl,hnew];rw[List.getElem?_set_self (by omega)]
    have hhi2:∀j,i+1≤j→(xs.set i [])[j]? = F[j]?:=fun j hj=>by rw[fl (by omega)];exact hhi j (by omega)
    refine aa (aA aB (aA aB ?_));simp only[zz];refine aA (aS bM aM rfl rfl (by omega) (by omega) (fH (an _))) ?_;simp only[zz];refine aI rfl (Lith.lies1 ((m.o 0 rfl).rows i _ hbz) aV) ?_;simp only[zz];refine aA (cD rfl rfl (by omega)) (aC (k10 _ _ ?_));refine bX rfl (aa (aA aB (aA aB ?_)));simp only[zz];refine aA (aS kW nM rfl rfl (by omega) (by omega) (fS (an _))) ?_;simp only[zz];refine Rs m 1 rfl rfl rfl nM (by simp;omega) rfl ?_;clear m;intro u m;simp only[zF,zG] at m;simp only[zz] at m;rw[show ([.slice none 0 0]:List Go.Value)=[Hd.v ⟨none,0,0⟩] from rfl,Si (by omega)] at m;refine aC (k9 _ _ ?_);refine aF fun K11 k11=>aa (aA aB (aA aB ?_));simp only[zz];refine aA (aS bM aM rfl rfl (by omega) (by omega) (fH (an _))) ?_;simp only[zz];refine aI rfl (Lith.lies1 ((m.o 0 rfl).rows i _ hbz) aV) ?_;simp only[zz];refine aA (kE rfl rfl (by omega)) (aA aB (bO rfl (bO rfl ?_)));simp only[zz];refine bO rfl (bO rfl (aA (cV rfl) (aC (k11 _ _ ?_))));refine eZ rfl (ar (k8 _ _ ?_));refine aa (aA aB ?_);simp only[zz];refine aA (aZ rfl rfl (aO (by omega) (by omega))) (aA aD (aC ?_));simp only[zz];simp only[ac,af];refine⟨F.length-(i+1),_,?_,rfl,?_,?_⟩
    · omega
    · simp only[zz,zv]
    ·
     simp only[zQ,zR,zD,zE];exact⟨i+1,hs.set i ⟨none,0,0⟩,L,xs.set i [],rfl,m,hcov.set (pT.nil _),by rw[mg];exact hhl,hlo2,hhi2,by omega,rfl⟩
   ·
    have hsa:kQ ss (nA zs i) i l=l:=by rw[kQ,if_neg (by omega),if_neg (by omega)]
    have hnew:kQ ss (gY (jJ F.length zs) i) i l=l:=by rw[Kq (by omega)];exact hsa
    have hlo2:∀j,j<i+1→(xs)[j]? = (dN ss (jJ F.length zs) F)[j]?:=fun j hj=>by
     rcases cn j i with h | h
     · exact hlo j h
     ·
      obtain rfl:j=i:=by omega
      rw[tC hl,hnew];exact hx0
    have hhi2:∀j,i+1≤j→(xs)[j]? = F[j]?:=fun j hj=>by exact hhi j (by omega)
    refine aa (aA aB (aA aB ?_));simp only[zz];refine aA (aS bM aM rfl rfl (by omega) (by omega) (fH (an _))) ?_;simp only[zz];refine aI rfl (Lith.lies1 ((m.o 0 rfl).rows i _ hbz) aV) ?_;simp only[zz];refine aA (fD rfl rfl (by omega)) (aC (k10 _ _ ?_));refine eZ rfl (ar (k9 _ _ ?_));refine aF fun K12 k12=>aa (aA aB (aA aB ?_));simp only[zz];refine aA (aS bM aM rfl rfl (by omega) (by omega) (fH (an _))) ?_;simp only[zz];refine aI rfl (Lith.lies1 ((m.o 0 rfl).rows i _ hbz) aV) ?_;simp only[zz];refine aA (kE rfl rfl (by omega)) (aA aB (bO rfl (bO rfl ?_)));simp only[zz];refine bO rfl (bO rfl (aA (cV rfl) (aC (k12 _ _ ?_))));refine eZ rfl (ar (k8 _ _ ?_));refine aa (aA aB ?_);simp only[zz];refine aA (aZ rfl rfl (aO (by omega) (by omega))) (aA aD (aC ?_));simp only[zz];simp only[ac,af];refine⟨F.length-(i+1),_,?_,rfl,?_,?_⟩
    · omega
    · simp only[zz,zv]
    ·
     simp only[zQ,zR,zD,zE];exact⟨i+1,hs,L,xs,rfl,m,hcov,hhl,hlo2,hhi2,by omega,rfl⟩
   ·
    have hPN:PN=0:=by rw[←hP.len,hss];rfl
    have hsa:kQ ss (nA zs i) i l=l:=by rw[kQ,if_neg (by omega),if_neg (fun h=>h.2 hss)]
    have hnew:kQ ss (gY (jJ F.length zs) i) i l=l:=by rw[Kq (by omega)];exact hsa
    have hlo2:∀j,j<i+1→(xs)[j]? = (dN ss (jJ F.length zs) F)[j]?:=fun j hj=>by
     rcases cn j i with h | h
     · exact hlo j h
     ·
      obtain rfl:j=i:=by omega
      rw[tC hl,hnew];exact hx0
    have hhi2:∀j,i+1≤j→(xs)[j]? = F[j]?:=fun j hj=>by exact hhi j (by omega)
    refine aa (aA aB (aA aB ?_));simp only[zz];refine aA (aS bM aM rfl rfl (by omega) (by omega) (fH (an _))) ?_;simp only[zz];refine aI rfl (Lith.lies1 ((m.o 0 rfl).rows i _ hbz) aV) ?_;simp only[zz];refine aA (fD rfl rfl (by omega)) (aC (k10 _ _ ?_));refine eZ rfl (ar (k9 _ _ ?_));refine aF fun K13 k13=>aa (aA aB (aA aB ?_));simp only[zz];refine aA (aS bM aM rfl rfl (by omega) (by omega) (fH (an _))) ?_;simp only[zz];refine aI rfl (Lith.lies1 ((m.o 0 rfl).rows i _ hbz) aV) ?_;simp only[zz];refine aA (lN rfl rfl (by omega)) (aA aB (aR rfl (aA (aG (c:=0) nK rfl xV rfl rfl) (aR rfl ?_))));simp only[zz];refine aI rfl ((m.b 3 rfl).lies1 Iy rfl) ?_;simp only[zz];refine aR rfl (aA (bR rfl oA rfl) (aR rfl ?_));simp only[zz];refine aA (kE rfl rfl (by omega)) (aA (cT rfl) (aC (k13 _ _ ?_)));refine eZ rfl (ar (k8 _ _ ?_));refine aa (aA aB ?_);simp only[zz];refine aA (aZ rfl rfl (aO (by omega) (by omega))) (aA aD (aC ?_));simp only[zz];simp only[ac,af];refine⟨F.length-(i+1),_,?_,rfl,?_,?_⟩
    · omega
    · simp only[zz,zv]
    ·
     simp only[zQ,zR,zD,zE];exact⟨i+1,hs,L,xs,rfl,m,hcov,hhl,hlo2,hhi2,by omega,rfl⟩
   ·
    have hPN:0<PN:=by rw[←hP.len];exact jb.2 hss
    have hsa:kQ ss (nA zs i) i l=l.map (T3.sh (wI ss (nA zs i) i)):=by rw[kQ,if_neg (by omega),if_pos ⟨hz0,hss⟩]
    have hnew:kQ ss (gY (jJ F.length zs) i) i l=l.map (T3.sh (wI ss (nA zs i) i)):=by rw[Kq (by omega)];exact hsa
    have hlo2:∀j,j<i+1→(xs.set i (l.map (T3.sh (wI ss (nA zs i) i))))[j]? = (dN ss (jJ F.length zs) F)[j]?:=fun j hj=>by
     rcases cn j i with h | h
     · rw[fl (by omega)];exact hlo j h
     ·
      obtain rfl:j=i:=by omega
      rw[tC hl,hnew];rw[List.getElem?_set_self (by omega)]
    have hhi2:∀j,i+1≤j→(xs.set i (l.map (T3.sh (wI ss (nA zs i) i))))[j]? = F[j]?:=fun j hj=>by rw[fl (by omega)];exact hhi j (by omega)
    have hmod:i%PN<PN:=ft _ hPN;obtain⟨p,hp,a,rfl,hrow⟩:=hP.get hmod;have hsv:wI ss (nA zs i) i=⟨p.x.tmod ((nA zs i).tdiv 2+1),p.y.tmod ((nA zs i).tdiv 2+1),p.z.tmod ((nA zs i).tdiv 2+1)⟩:=by rw[wI,hP.len,hp];rfl
    have hti:(nA zs i).tdiv 2=nA zs i / 2:=Int.tdiv_eq_ediv_of_nonneg (by omega);have hll:l.length≤360:=by have:=Az hl;omega
    refine aa (aA aB (aA aB ?_));simp only[zz];refine aA (aS bM aM rfl rfl (by omega) (by omega) (fH (an _))) ?_;simp only[zz];refine aI rfl (Lith.lies1 ((m.o 0 rfl).rows i _ hbz) aV) ?_;simp only[zz];refine aA (fD rfl rfl (by omega)) (aC (k10 _ _ ?_));refine eZ rfl (ar (k9 _ _ ?_));refine aF fun K14 k14=>aa (aA aB (aA aB ?_));simp only[zz];refine aA (aS bM aM rfl rfl (by omega) (by omega) (fH (an _))) ?_;simp only[zz];refine aI rfl (Lith.lies1 ((m.o 0 rfl).rows i _ hbz) aV) ?_;simp only[zz];refine aA (lN rfl rfl (by omega)) (aA aB (aR rfl (aA (aG (c:=0) nK rfl xV rfl rfl) (aR rfl ?_))));simp only[zz];refine aI rfl ((m.b 3 rfl).lies1 Iy rfl) ?_;simp only[zz];refine aR rfl (aA (bR rfl oA rfl) (aR rfl ?_));simp only[zz];refine aA (lN rfl rfl (by omega)) (aA (cT rfl) (aC (k14 _ _ ?_)));refine bX rfl (aF fun K15 k15=>?_);simp only[zz];refine eP 10 [0,1,2,3,4,5,6,7,8] [⟨9,6,56,[.int .i64 0,.int .i64 0,.int .i64 0]⟩] aP (by kernel_rfl) (al1 ⟨_,_,_,rfl,by kernel_rfl,_,eL,rfl⟩) (ol:=?_) ?hol ?_
    case hol=>simp only[zw,zQ,zR];try rfl
    intro u e;replace m:=m.ext' e;clear e;refine jE (aG (c:=0) nK rfl xV rfl rfl) ?_;simp only[zz];refine eU rfl (fun u e=>(((m.ext' e).b 3 rfl).lies1 Iy rfl)) ?_;simp only[zz];refine jE aB (jE (aG (c:=0) nK rfl xV rfl rfl) ?_);simp only[zz];refine eU rfl (fun u e=>(((m.ext' e).b 3 rfl).lies1 Iy rfl)) ?_;simp only[zz];refine jE (bR rfl oA rfl) ?_;simp only[zz];refine jE (fL rfl rfl (by omega) (show ((i:Int)).tmod (PN:Int)=((i%PN:Nat):Int) from rfl)) ?_;simp only[zz];refine jE (aS oA aL rfl rfl (jl _) (by omega) (sR (an _))) ?_;simp only[zz];refine eU rfl (fun u e=>(((hrow.ext (m.ext' e).ext)).lies bG aL)) ?_;simp only[zz];refine qZ (mf1 m ?_);clear m;intro g2 u m;simp only[zJ,zK,zF,zG];refine aN m 0 rfl rfl rfl aL (bZ rfl) rfl ?_;clear m;intro u m;simp only[zy,zx,aW,zF,zG,ab] at m;refine aC (k15 _ _ ?_);refine aF fun K16 k16=>aa (aA aB (aA aB ?_));simp only[zz];refine aA (aS bM aM rfl rfl (by omega) (by omega) (fH (an _))) ?_;simp only[zz];refine aI rfl (Lith.lies1 ((m.o 1 rfl).rows i _ hbz) aV) ?_;simp only[zz];refine aA (jA rfl rfl (by omega) (aO (by omega) (by omega))) (aA (aZ rfl rfl (aO (by omega) (by omega))) (aA aD (aC (k16 _ _ ?_))));simp only[zz];refine mh m [true,true,false,true,true] [(0,true),(1,true),(2,true),(3,true),(4,true),(6,true),(8,true),(10,true),(12,true),(14,true),(16,true),(7,true),(9,true),(11,true),(13,true),(15,true),(17,true),(18,true),(5,false),(19,false),(20,true),(21,false)] aP (by kernel_rfl) (dJ (fun _ _ _ _ _ h=>h)) (ol:=?_) ?hol ?_
    case hol=>simp only[zw,zQ,zR];try rfl
    clear m;intro u m;refine bA aB (bA aB (bA aB (bA aB ?_)));simp only[zz];refine bA (aS kW nM rfl rfl (by omega) (by omega) (fH (an _))) (bA (aG (c:=0) bP rfl aM rfl rfl) (bA aB (bA (aG (c:=0) bP rfl aM rfl rfl) ?_)));simp only[zz];refine bA aB (bA (aG (c:=0) bP rfl aM rfl rfl) (bA aB ?_));simp only[zz];refine cO rfl (fun u m=>((m.b 0 rfl).lies1 aV rfl)) ?_;simp only[zz];refine bA (fL rfl rfl (by omega) rfl) ?_;simp only[zz];refine cO rfl (fun u m=>((m.b 0 rfl).lies1 aV rfl)) ?_;simp only[zz];refine bA (fL rfl rfl (by omega) rfl) ?_;simp only[zz];refine cO rfl (fun u m=>((m.b 0 rfl).lies1 aV rfl)) ?_;simp only[zz];refine bA (fL rfl rfl (by omega) rfl) (bA (bV rfl rfl rfl) (dM ?_));simp only[zz];refine aI rfl (Lith.lies1 ((m.o 2 rfl).rows i _ hh2) Jb) ?_;simp only[zz];refine aC (⟨m.sel [true,true,false,true,true],?_⟩);refine dM (bT rfl rfl (abP (v:=⟨p.x.tmod ((nA zs i).tdiv 2+1),p.y.tmod ((nA zs i).tdiv 2+1),p.z.tmod ((nA zs i).tdiv 2+1)⟩) _ ((hcov.at_ i _ l hh hx0).2 _ (m.l 3 rfl)) (fun t ht=>by rw[←hsv];exact ace (hsml t ht) (Sf hz0 hzb.2) hzb.2) (by have:=((hcov.at_ i _ l hh hx0).2 _ (m.l 3 rfl)).len;simp only at this;omega)) ?_);rintro v u e ⟨A6,cap6,n6,hn6,rfl,hN⟩;replace m:=m.newO e hN;clear e hN;rw[←hsv] at m hn6;have hle6:=(m.o 0 rfl).le;refine aC (⟨m.sel [false,true,true,false,true,true],?_⟩);simp only[zz];refine bA (aS kW nM rfl rfl (by omega) (by omega) (fS (an _))) (dM ?_);simp only[zz];refine Rs m 3 rfl rfl rfl nM (by simp;omega) rfl ?_;clear m;intro u m;simp only[zF,zG] at m;simp only[zz] at m;rw[show ([.slice A6 n6 cap6]:List Go.Value)=[Hd.v ⟨A6,n6,cap6⟩] from rfl,Si (by omega)] at m;refine aC (⟨m.sel [false,true,true,false,true,true],?_⟩);refine bB ?_;replace m:=m.oR 0 rfl;simp only[zF,zG] at m;replace m:=m.join 3 rfl;simp only[zF,zG] at m;refine k8 _ _ (aa (aA aB ?_));simp only[zz];refine aA (aZ rfl rfl (aO (by omega) (by omega))) (aA aD (aC ?_));simp only[zz];simp only[ac,af];refine⟨F.length-(i+1),_,?_,rfl,?_,?_⟩
    · omega
    · simp only[zz,zv]
    ·
     simp only[zQ,zR,zD,zE];exact⟨i+1,hs.set i ⟨A6,n6,cap6⟩,[(A6,(l.map (T3.sh (wI ss (nA zs i) i))).flatMap cX)]++L,xs.set i (l.map (T3.sh (wI ss (nA zs i) i))),rfl,(m.sel [false,true,true,true,true]),(hcov.mono (fun e he=>List.mem_append_right _ he)).set ((aal hn6 (fun t ht=>by obtain⟨u,hu,rfl⟩:=ew.1 ht;exact ace (hsml u hu) (Sf hz0 hzb.2) hzb.2) hle6).mono (fun e he=>ic _ he)),by rw[mg];exact hhl,hlo2,hhi2,by omega,rfl⟩
  ·
   have hxe:xs=dN ss (jJ F.length zs) F:=by
    apply List.ext_getElem?;intro j;rcases cn j i with h | h
    · exact hlo j h
    · rw[bj (by omega),bj (by rw[tA];omega)]
   refine bw (k4 _ _ ?_);refine aF fun K17 k17=>aa (aA aB (aA aD (aC (k17 _ _ ?_))));refine bc ?_;simp only[zz];try simp only[ac,af,if_true]
   refine bY rfl rfl ?_;try simp only[zD,zE]
   exact⟨_,rfl,m.ext,_,_,_,hs,L,rfl,hhl.symm,m.sel [false,true,true,false],by rw[←hF,←hxe];exact hcov⟩
end Go.Proofs.YtimjandkmfcmiaaGreatDoor
namespace Go.Lith
open Go.RowKit
/-! ### Points put into a sorted list -/
section
variable {α:Type} {p:α→Bool} {l:List α} {k:Nat}
end
/-! ### The border -/
/-! ### Pinched corners -/
end Go.Lith
namespace Go.Proofs.YtimjandkmfcmiaaGreatDoor
open Go.Proofs.Tryz
open Go.RowKit Go.Lith
set_option maxRecDepth 100000
attribute [local irreducible] bh ck eY eO eJ Code.wp
theorem Fq{m:Nat}:∀{xs:List (List T3)},(∀l∈xs,l.length≤m)→xs.flatten.length≤xs.length*m
 | [],_=>cd _
 | l::xs,h=>by
  rw[lx,bg,ci,Nat.succ_mul];have h1:=h l (cu ..);have h2:=Fq (xs:=xs) fun y hy=>h y (List.mem_cons_of_mem _ hy);omega
theorem Oc{ss:List P3}{b:Int}{i:Nat}{l:List T3}:(kQ ss b i l).length≤l.length:=by
 unfold kQ;split
 · exact cd _
 ·
  split
  · rw[dj];exact bi _
  · exact bi _
theorem Vj{ss:List P3}{bs:List Int}{F:List (List T3)}{x:List T3}(h:x∈dN ss bs F):∃i l,F[i]? = some l∧x=kQ ss (gY bs i) i l:=by
 obtain⟨i,hi⟩:=List.mem_iff_getElem?.1 h;have hlt:=(List.getElem?_eq_some_iff.1 hi).1;rw[tA] at hlt;have hl:F[i]? = some F[i]:=ao hlt;rw[tC hl] at hi;exact⟨i,_,hl,(jo hi).symm⟩
structure abR(F:List (List T3)):Prop where
 len:F.length≤30
 each:∀l∈F,l.length≤12
 sm:∀(i:Nat) (l:List T3),F[i]? = some l→∀t∈l,Rv 200 t
theorem Od{kind bits:Int}{hz:List Int}{q:Nat}:abR (iP (1+q%12) 30 (pD kind bits hz)) :=
 ⟨Ay,fun l hl=>ak (Fa hl) (by omega),fun i l hl=>Ik Ep hl⟩
theorem abR.shown{F:List (List T3)}(f:abR F)(ss:List P3)(bs:List Int):(dN ss bs F).length≤30∧(∀l∈dN ss bs F,l.length≤300000)∧(dN ss bs F).flatten.length≤360:=by
 have h1:∀l∈dN ss bs F,l.length≤12:=fun x hx=>by
  obtain⟨i,l,hl,rfl⟩:=Vj hx;exact ak Oc (f.each l (cc hl))
 have h2:=Fq h1;rw[tA] at h2 ⊢;have h3:=f.len;exact⟨h3,fun l hl=>ak (h1 l hl) (by decide),by omega⟩
theorem Lh{n:Nat}{zs:List Int}:∀z∈jJ n zs,kO z:=fun z hz=>by
 have:=adQ n zs z hz;exact⟨by omega,by omega⟩
end Go.Proofs.YtimjandkmfcmiaaGreatDoor
