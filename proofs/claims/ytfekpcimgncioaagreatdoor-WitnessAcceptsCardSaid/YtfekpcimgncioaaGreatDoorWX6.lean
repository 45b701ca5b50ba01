/-
 Texts of one claim, laid together: W7, W8, W9, Ref1, Ref2, Ref3, Ref4, Ref5, Ref6, Ref7, Geo1, Exact, W10, Pack2, W11, Ref8, Exact2, Meas1, RefG1, V3, Surf1, Surf3, Surf1b, V4, Wj, V6, K1, K2.
-/
import Derived.Test.YtfekpcimgncioaaGreatDoorWX5
open Nat renaming reduceAdd→aa,reduceMul→ah,zero_add→ap,le_trans→aw,zero_le→bw,lt_or_ge→dz,add_sub_cancel→eh,lt_succ_self→et,eq_zero_or_pos→ff,not_lt_zero→ma
open Int renaming reduceToNat→ag,toNat_natCast→ai,reduceAdd→an,reduceMul→fg
open Go renaming wp_region_lit→aj,World→am,wpList→au,MapEntry→cg,wpQuiet→cq,wp_block→gh,wp_skip→g_,wp_ret→ik
open List renaming mem_cons→ao,getElem?_eq_getElem→ar,getElem?_eq_some_iff→ax,length_cons→az,length_append→a_,flatMap_append→be,take_of_length_le→bf,mem_singleton→bg,map_cons→bi,mem_of_getElem?→bn,mem_append→br,not_mem_nil→bt,nil_append→bv,length_nil→b_,cons_append→cn,mem_map→cu,map_append→cz,map_nil→db,drop_eq_getElem_cons→el,take_length→fa,map_toArray→fb,mem_append_left→gd,set_cons_succ→gl,foldl_append→iu,set_cons_zero→iz,getD_cons_zero→i_,getD_cons_succ→ja,length_set→kd
open Go.Value renaming bool→ba
open Go.Exit renaming inBlock→bu
open Bool renaming false_ne_true→ei
open Option.some renaming inj→fh
set_option maxHeartbeats 8000000
set_option linter.unusedSimpArgs false
set_option linter.unusedVariables false
set_option linter.unusedSectionVars false
namespace Go.Proofs.YtfekpcimgncioaaGreatDoor
open Go.Proofs.Tryz
open Go.RowKit Go.Lith
variable{fs gs f c:List T3}{N cap N2 cap2 g1 q7 c7 k:Nat}{A2:Option Addr}{H R J:Value}{K:Type}{sn:Array Nat}{w:am}{x y z:Bool}{ms:List Mv}{t:T3}
abbrev Ug:=@underlying73
set_option maxRecDepth 100000
attribute [local irreducible] au cq eF bJ cD Code.wp
attribute [local congr] oG fS fT fU fV fW jR fX fY fZ gA gB gC gD gE gF gG gH eM eN gI gJ gL gM gN jT cW cX cA cU gK jS eO eP eQ gQ gR jU
theorem aeH{A:Option Addr}{M:Value}(w:am)(hB1:fE w g1 [.slice A N cap,.slice A2 N2 cap2,H,R,M,J] 148)(hT:cJ w A N fs)(hT2:cJ w A2 N2 gs)(hN:N≤10000000)(hN2:N2≤10000000):dR prog 89 [.pointer (some ⟨g1,0,none⟩)] w (fun v _=>v=.int .i64 (if cQ true fs≠0 then cQ true fs else cQ true gs)):=by
 refine⟨bO func89 (by kernel_rfl),?_⟩;have m:=Mem.refl w
 go_enter func89,ntmps89
 apply iE 10 [0] m;simp only[↓aD,yV,aa];refine aQ O ((hB1.ext m.ext).lies1 nW O) ?_;simp only[zz];refine dH m O O (Bj _ (hT.ext m.ext) hN) ?_;rintro v u m rfl;apply aM 7 [0,0] m;simp only[↓aD];refine bK O ?_ ?_<;>intro hc1
 ·
  apply aL 6 [] m;simp only[↓aD];refine aY O O ?_;try simp only[zD,zE]
  exact⟨_,O,m.ext,by rw[if_pos hc1]⟩
 ·
  apply aL 6 [0] m;simp only[↓aD,wM,aa];refine aQ O ((hB1.ext m.ext).lies1 nW O) ?_;simp only[zz];refine dH m O O (Bj _ (hT2.ext m.ext) hN2) ?_;rintro v u m rfl;apply aM 3 [] m;simp only[↓aD];refine aY O O ?_;try simp only[zD,zE]
  exact⟨_,O,m.ext,by rw[if_neg (fun h=>hc1 h)]⟩
def Pe(f c:List T3):Int:=if aO f≠aO c then 30 else if uM f c (aO f)=true∨Dw f c (aO f)=false then 30 else 0
theorem ath(h:¬aO f=aO c):Pe f c=30:=if_pos h
theorem apu(h:uM f c (aO f)=true∨Dw f c (aO f)=false):Pe f c=30:=by
 unfold Pe;rw[if_pos h];split <;> rfl
theorem ati(h1:aO f=aO c)(h2:uM f c (aO f)=false)(h3:Dw f c (aO f)=true):Pe f c=0:=by
 rw[Pe,if_neg (fun k=>k h1),if_neg];rintro (k | k)
 · rw[h2] at k;cases k
 · rw[h3] at k;cases k
theorem ahT{V:Type}[DecidableEq K]:∀{xs:List (K × V)},(xs.map (·.1)).Nodup→qQ [] xs=xs:=by
 intro xs;have key:∀(ys D:List (K × V)),((D++ys).map (·.1)).Nodup→qQ D ys=D++ys:=by
  intro ys
  induction ys with
  | nil=>intro D _;rw[List.append_nil];rfl
  | cons y ys ih =>
   intro D h;have hy:y.1∉D.map (·.1):=by
    rw[cz,List.nodup_append] at h;exact fun k=>h.2.2 _ k _ (by simp) O
   have e:fI D y.1 y.2=D++[y]:=by
    have hm:pB D y.1 0=none:=by
     cases hf:pB D y.1 0 with
     | none=>rfl
     | some q =>
      obtain⟨p,_,hp,_⟩:=lL D y.1 0 q.1 q.2 hf;exact absurd (cu.2 ⟨_,bn hp,O⟩) hy
    exact (nX D y.1 0 hm).2.1 y.2
   show qQ (fI D y.1 y.2) ys=_
   rw[e,ih (D++[y]) (by simpa using h)];simp
 exact key xs []
theorem agb(f c:List T3)(rim:List E3):Dw f c rim=decide (Hb f rim=Hb c rim):=by
 rw[Bool.eq_iff_iff,decide_eq_true_eq];unfold Dw Hb;rw[List.all_eq_true,List.map_inj_left];exact⟨fun h e he=>by rw[of_decide_eq_true (h e he)],fun h e he=>decide_eq_true (congrArg Prod.snd (h e he))⟩
theorem alj{es:Array cg}{dn:List (E3 × Bool)}(h:lP ed ba (dX [] (oR c)) es sn dn [])(hno:∀y∈dn,aef f (aO f) y.1=false):uM f c (aO f)=false:=by
 cases hj:uM f c (aO f) with
 | false=>rfl
 | true =>
  obtain⟨e,he,hn⟩:=Yc.1 hj;have h1:e∈(dX [] (oR c)).map (·.1):=(rP _ _ _).2 (.inr he);obtain⟨y,hy,rfl⟩:=cu.1 h1;rw[hno y (h.done.mem_iff.2 hy)] at hn;cases hn
theorem alk{es:Array cg}{dn rs:List (E3 × Bool)}(h:lP ed ba (dX [] (oR c)) es sn dn rs){y:E3 × Bool}(hy:y∈dn)(hn:aef f (aO f) y.1=true):uM f c (aO f)=true:=by
 have h1:y.1∈(dX [] (oR c)).map (·.1):=cu.2 ⟨y,h.1.mem_iff.1 (gd _ hy),rfl⟩;exact Yc.2 ⟨y.1,((rP _ _ _).1 h1).resolve_left (by simp),hn⟩
theorem ahU{w0:am}{K:It}{A:Option Addr}{M:Value}(m:Mem w0 w [bI g1 [.slice A N cap,.slice A2 N2 cap2,H,R,M,J] 148,K])(hT:cJ w0 A N fs)(hT2:cJ w0 A2 N2 gs)(hN:N≤10000000)(hN2:N2≤10000000)(hf:cQ true fs=0)(hg:cQ true gs=0):xN prog 90 [.pointer (some ⟨g1,0,none⟩)] w fun v w'=>∃A4 c4,v=.int .i64 (Pe fs gs)∧Mem w0 w' [oI 56 6 A4 (aO fs).length c4 ((aO fs).flatMap bM),bI g1 [.slice A N cap,.slice A2 N2 cap2,H,.slice A4 (aO fs).length c4,M,J] 148,K]:=by
 refine⟨bO func90 (by kernel_rfl),?_⟩;have hbl:(aO fs).length≤30000000:=by have h1:=yJ (all:=aU fs) (aU fs) [];have h2:=nF fs;have h3:=hT.len;simp only[b_] at h1;unfold aO;omega
 have hbn:(aO fs).Nodup:=(pD fs).nodup
 go_enter func90,ntmps90
 apply iE 11 [0,0] m;simp only[↓aD,yV,Tm,aa];refine bB O O (Mx _ (hT.ext m.ext) hN) ?_;rintro v u e_ ⟨A4,c4,n4,hn4,rfl,h_⟩;replace m:=m.newO e_ h_;subst hn4;apply iH 6 [1,0] m;simp only[↓aD,Eg,acx,aa];intro u m;refine mh m [true,true,true] [(0,true),(1,true),(2,true),(4,true),(5,true),(6,true),(3,true),(7,true),(8,false),(9,false),(10,true)] aF (by kernel_rfl) (cB (fun _ _ _ _ _ h=>h)) (ol:=?_) ?hol ?_
 case hol=>simp only[zw,zQ,zR];try rfl
 intro u m;refine Oc 8 [1,1] ?_;simp only[↓aD,Eg,wM,acx,Tm,aa];refine cG (bB O O (Mx _ (hT2.ext m.ext) hN2) ?_);rintro v u e_ ⟨A5,c5,n5,hn5,rfl,h_⟩;replace m:=m.newO e_ h_;subst hn5;refine aI ⟨m.sel [false,true,true,true],?_⟩;refine cG ?_;simp only[zz];refine dH m O O (ahQ _ ((m.o 1 O).lat Cj (by decide)) ((m.o 0 O).lat Cj (by decide)) (by omega)) ?_;rintro v u m rfl;refine aI ⟨m.sel [false,true,true,true],?_⟩;refine cF (mH O) (bY (gc ?_));simp only[zz];refine dC O ?_ ?_<;>intro hc1
 ·
  have hne:¬aO fs=aO gs:=by simpa using hc1
  apply aL 5 [] m;simp only[↓aD];refine aY O O ?_;try simp only[zD,zE]
  exact⟨_,O,_,_,by rw[ath hne],m.sel [false,true,true,true]⟩
 ·
  have hbe:aO fs=aO gs:=by simpa using hc1
  apply aL 3 [0] m;simp only[↓aD];refine iV m ?_;intro q9 u m;have hD9:=bA.nil (K:=P3) (V:=Bool) pt ba;apply aM 13 [3,0] m;simp only[↓aD,Eg,acx,Ee,aa];refine cP [33] [5,34,35,36,37,38,39,40,41,42,43] (fun n vs wl=>∃(k:Nat) (es:Array cg) (c:Nat),vs=[.int .i64 (k:Int)]∧Mem w0 wl [mI q9 es c,oI 56 6 A4 (aO fs).length c4 ((aO fs).flatMap bM),bI g1 [.slice A N cap,.slice A2 N2 cap2,H,.slice A4 (aO fs).length c4,M,J] 148,K]∧(bA pt ba (dX [] (Sx ((aO fs).take k))) es c)∧(k≤(aO fs).length)∧(n=(aO fs).length-k)) ?_ ?_
  ·
   exact⟨_,0,_,_,O,(m.sel [true,false,true,true,true]),hD9,bw _,O⟩
  ·
   intro n vs wr hI u K1 hK1;obtain⟨k,es9,c9,rfl,m,hD9,hk,hn⟩:=hI;simp only[zu,zF,zG];apply aL 5 [0,0] m;simp only[↓aD];refine bK O ?_ ?_<;>intro hc2
   ·
    obtain⟨e,he⟩:∃e,(aO fs)[k]? = some e:=⟨_,ar (by omega)⟩
    obtain⟨gO,rfl⟩:=(m.o 1 rfl).some (by omega);apply aL 5 [0] m;simp only[↓aD];refine aB (aG mL eH O O (by omega) (by omega) (bX (ai _))) ?_;simp only[zz];refine aQ O (((m.o 1 O).at Cj he).lies sJ eH) ?_;simp only[zz];apply iH 3 [0,0] m;simp only[↓aD,Om,yU,aa];intro g3 u m;refine mh m [true,false,true,true,true] [(0,true),(1,true),(3,true),(4,true),(2,true),(5,true),(6,false),(7,false)] aF (by kernel_rfl) (cB (fun _ _ _ _ _ h=>h)) (ol:=?_) ?hol ?_
    case hol=>simp only[zw,zQ,zR];try rfl
    intro u m;refine Oc 6 [0,0] ?_;simp only[↓aD,xM,aS,ag,ah,aa];refine⟨by omega,?_⟩;refine cG (eR (ek:=pt) (en:=ba) (a:=e.1) (v:=true) m 1 O iM eK O O O hD9 ?_);intro es9 c9 u m hD9;simp only[zF,zG] at m;rw[←jV] at hD9;refine aI ⟨m.sel [true,false,true,true,true],?_⟩;refine cG (eR (ek:=pt) (en:=ba) (a:=e.2) (v:=true) m 1 O iM eK O O O hD9 ?_);intro es9 c9 u m hD9;simp only[zF,zG] at m;rw[←jV] at hD9;refine aI ⟨m.sel [true,false,true,true,true],?_⟩;refine bY ?_;apply bF 5 [0] m;simp only[↓aD];refine⟨by omega,?_⟩;exact hK1 ((aO fs).length-(k+1)) _ _ (by omega) (by kernel_rfl) ⟨k+1,_,_,O,(m.sel [false,true,true,true,true]),by rw[aci he];simpa[List.append_assoc] using hD9,by omega,rfl⟩
   ·
    obtain rfl:k=(aO fs).length:=by omega
    rw[fa] at hD9;apply aL 3 [0] m;simp only[↓aD];refine mh m [true,true,true,true] [(0,true),(1,true),(2,true),(4,true),(5,true),(6,true),(9,true),(10,true),(11,true),(13,true),(14,true),(15,true),(3,true),(7,true),(12,true),(16,true),(8,false),(17,false),(18,false),(19,true)] aF (by kernel_rfl) (cB (fun _ _ _ _ _ h=>h)) (ol:=?_) ?hol ?_
    case hol=>simp only[zw,zQ,zR];try rfl
    intro u m;refine Oc 16 [2,2,2,2] ?_;simp only[↓aD,yV,Eg,wM,Tm,acx,aa];refine cG (bB O O (alc (rim:=(aO fs)) _ (hT.ext m.ext) hN ((m.o 1 O).lat Cj (by decide)) (by omega) (yP hf).1 (yP hf).2 (fun e he=>(wE.1 he).2)) ?_);rintro v u e_ ⟨g10,es10,c10,rfl,hM,hD10⟩;replace m:=m.plus hM;clear hM;simp only[cn,bv] at m;refine aI ⟨m.sel [false,true,true,true,true],?_⟩;refine cG ?_;simp only[zz];refine bB O O (alc (rim:=(aO fs)) _ (hT2.ext m.ext) hN2 ((m.o 2 O).lat Cj (by decide)) (by omega) (yP hg).1 (yP hg).2 (fun e he=>(wE.1 (hbe▸he)).2)) ?_;rintro v u e_ ⟨g11,es11,c11,rfl,hM,hD11⟩;replace m:=m.plus hM;clear hM;simp only[cn,bv] at m;rw[ahT (by rw[Fw];exact hbn)] at hD10 hD11;refine aI ⟨m.sel [false,false,true,true,true,true],?_⟩;refine cG ?_;simp only[zz];refine dH m O O (aob _ (m.p 1 O) hD10 (m.p 0 O) hD11 (by rw[Fw,Fw]) (by rw[Fw];exact hbn)) ?_;rintro v u m rfl;refine aI ⟨m.sel [false,false,true,true,true,true],?_⟩;refine cF (mH O) (bY (gc ?_));simp only[zz];refine dC O ?_ ?_<;>intro hc3
    ·
     have hfan:Dw fs gs (aO fs)=false:=by rw[agb];simpa using hc3
     apply aL 5 [] m;simp only[↓aD];refine aY O O ?_;try simp only[zD,zE]
     exact⟨_,O,_,_,by rw[apu (.inr hfan)],m.sel [false,false,false,true,true,true]⟩
    ·
     have hfan:Dw fs gs (aO fs)=true:=by rw[agb];simpa using hc3
     apply aL 7 [4,0] m;simp only[↓aD,yV,Tm,aa];refine bB O O (Uc _ (hT.ext m.ext) hN) ?_;rintro v u e_ ⟨g12,es12,c12,rfl,hM,hD12⟩;replace m:=m.plus hM;clear hM;simp only[cn,bv] at m;apply aM 9 [5,0] m;simp only[↓aD,wM,Tm,aa];refine bB O O (Uc _ (hT2.ext m.ext) hN2) ?_;rintro v u e_ ⟨g13,es13,c13,rfl,hM,hD13⟩;replace m:=m.plus hM;clear hM;simp only[cn,bv] at m;simp only[zz];refine sQ m tA O (m.p 0 O) ?_;intro r1 u m;apply aM 2 [0] m;simp only[↓aD];refine cP [] [2,7,75,76,77,78,79,80,81,82,83,84,85,86,87,88,89,90,91,92,93,94] (fun n vs wl=>∃(dn rs:List (E3 × Bool)) (sn:Array Nat),vs=[]∧Mem w0 wl [iI r1 g13 c13 sn,mI g13 es13 c13,mI g12 es12 c12,mI q9 es9 c9,oI 56 6 A4 (aO fs).length c4 ((aO fs).flatMap bM),bI g1 [.slice A N cap,.slice A2 N2 cap2,H,.slice A4 (aO fs).length c4,M,J] 148,K]∧(lP ed ba (dX [] (oR gs)) es13 sn dn rs)∧(∀y∈dn,aef fs (aO fs) y.1=false)∧(n=rs.length)) ?_ ?_
     ·
      exact⟨_,[],_,#[],rfl,(m.sel [true,true,true,false,false,true,true,true,true]),lP.start hD13,fun _ h=>(by cases h),rfl⟩
     ·
      intro n vs wr hI u K2 hK2;obtain⟨dn,rs,sn,rfl,m,hT9,hno,hn⟩:=hI;simp only[zu,zF,zG];apply aL 2 [0] m;simp only[↓aD];refine Dr m 0 O O (m.p 1 O) hD13 hT9 ?_;intro bb kk vv sn u m hN;simp only[zF,zG] at m;refine aB (nL O) ?_;apply aM 2 [0] m;simp only[↓aD];refine dC O ?_ ?_<;>intro hc4
      ·
       obtain⟨kp,kb,rs2,hp,hT8⟩:=Cd hc4 hN;apply aL 4 [0] m;simp only[↓aD];refine eD (pQ O (m.r 0 O) (m.p 1 O) hD13 hT8) ?_;simp only[zz];apply iH 9 [0,0,0] m;simp only[↓aD,Om,yU,xM,aS,aa,ag,ah];intro g4;refine⟨by omega,?_⟩;intro u m;refine eD (cR (ek:=pt) (en:=ba) (k:=kp.1) (v0:=false) iM jE eK O O (m.p 4 O) hD9) ?_;simp only[zz];apply aM 1 [0] m;simp only[↓aD];refine dW O (fun hb=>aC) (dW O (fun hb=>aN Nw aA O O (by decide) (by decide) O) ?_);simp only[zz];refine fO O (fun hb=>aZ (aX hb O) ((m.b 0 O).lies aH aA O O)) ?_;simp only[zz,zy,ap,aa,ah,ag];refine fO O (fun hb=>cR (ek:=pt) (en:=ba) (k:=kp.2) (v0:=false) iM jE eK (aX hb O) (aX hb O) (m.p 4 O) hD9) ?_;simp only[zz];refine aB (cE O O O) ?_;apply aM 1 [0] m;simp only[↓aD];refine dW O (fun hb=>aC) ?_;simp only[zz];refine fO O (fun hb=>aZ O ((m.b 0 O).full sJ eH)) (fO O (fun hb=>cR (ek:=ed) (en:=ba) (k:=kp) (v0:=false) tA jE pK (aX hb O) (aX hb O) (m.p 3 O) hD12) ?_);simp only[zz];refine dW O (fun hb=>mH (aX hb O)) (aB (cE O O O) ?_);apply aM 1 [0] m;simp only[↓aD];refine dC O ?_ ?_<;>intro hc5
       ·
        have hnw:aef fs (aO fs) kp=true:=by rw[Pw,Pw,Fv] at hc5;exact hc5
        have hj:=alk hT8 (y:=(kp,kb)) (by simp) hnw;apply aL 5 [] m;simp only[↓aD];refine aY O O ?_;try simp only[zD,zE]
        exact⟨_,O,_,_,by rw[apu (.inl hj)],m.sel [false,false,false,false,false,true,true,true]⟩
       ·
        have hnw:aef fs (aO fs) kp=false:=by rw[Pw,Pw,Fv] at hc5;exact hc5
        apply aL 2 [0] m;simp only[↓aD];exact hK2 rs2.length _ _ (by rw[hn,hp.length_eq];exact et _) (by kernel_rfl) ⟨dn++[(kp,kb)],rs2,_,rfl,(m.sel [false,true,true,true,true,true,true,true]),hT8,fun y hy=>(br.1 hy).elim (hno y) fun hy=>by obtain rfl:=bg.1 hy;exact hnw,O⟩
      ·
       obtain rfl:=Cc hc4 hN;apply aL 6 [] m;simp only[↓aD];refine aY O O ?_;try simp only[zD,zE]
       exact⟨_,O,_,_,by rw[ati hbe (alj hT9 hno) hfan],m.sel [false,false,false,false,true,true,true]⟩
theorem Uh{V:Type}[DecidableEq K](xs:List (K × V))(x:K × V):qQ [] (xs++[x])=fI (qQ [] xs) x.1 x.2:=ace [] xs [x]
theorem at6(h:((!x || !y) || !z)=false):(x&&y&&z)=true:=by revert h;cases x <;> cases y <;> cases z <;> decide
theorem at7(h:((!x || !y) || !z)=true):(x&&y&&z)=false:=by revert h;cases x <;> cases y <;> cases z <;> decide
theorem aua{l:Bool}(h:(((!l || !x) || !y) || !z)=false):(l&&x&&y&&z)=true:=by revert h;cases l <;> cases x <;> cases y <;> cases z <;> decide
theorem aub{l:Bool}(h:(((!l || !x) || !y) || !z)=true):(l&&x&&y&&z)=false:=by revert h;cases l <;> cases x <;> cases y <;> cases z <;> decide
theorem Ki{rim:List E3}{i:Nat}{m:Mv}(hm:ms[i]? = some m)(h:xD f c ms rim i m=false):uN f c ms rim=false:=by
 cases hh:uN f c ms rim with
 | false=>rfl
 | true=>rw[Bc.1 hh i m hm] at h;cases h
theorem aeI{a:Addr}{e:E3}(h:mE w a (bM e)):mE w a [.int .i64 e.1.x,.int .i64 e.1.y,.int .i64 e.1.z,.int .i64 e.2.x,.int .i64 e.2.y,.int .i64 e.2.z]:=h
theorem arh{w0:am}{K:It}{N3 cap3 c4:Nat}{A A3 A4:Option Addr}{es7:Array cg}(m:Mem w0 w [oI 56 6 A4 (aO fs).length c4 ((aO fs).flatMap bM),bI g1 [.slice A N cap,.slice A2 N2 cap2,.slice A3 N3 cap3,.slice A4 (aO fs).length c4,.map (some q7),J] 148,mI q7 es7 c7,K])(hT:cJ w0 A N fs)(hT2:cJ w0 A2 N2 gs)(hL3:Aq bM 6 w0 A3 N3 ms)(hN:N≤300000)(hN2:N2≤300000)(hN3:N3≤10000000)(hD7:bA pt pt (qQ [] ([]:List Mv)) es7 c7):xN prog 91 [.pointer (some ⟨g1,0,none⟩)] w fun v w'=>∃es7 c7,v=.int .i64 (if uN fs gs ms (aO fs)=true then 0 else 31)∧Mem w0 w' [oI 56 6 A4 (aO fs).length c4 ((aO fs).flatMap bM),bI g1 [.slice A N cap,.slice A2 N2 cap2,.slice A3 N3 cap3,.slice A4 (aO fs).length c4,.map (some q7),J] 148,mI q7 es7 c7,K]∧(uN fs gs ms (aO fs)=true→bA pt pt (qQ [] ms) es7 c7):=by
 refine⟨bO func91 (by kernel_rfl),?_⟩;have hbl:(aO fs).length≤30000000:=by have h1:=yJ (all:=aU fs) (aU fs) [];have h2:=nF fs;have h3:=hT.len;simp only[b_] at h1;unfold aO;omega
 have el3:=hL3.len
 go_enter func91,ntmps91
 apply iE 10 [1,0] m;simp only[↓aD,yV,Tm,aa];refine bB O O (Ib _ (hT.ext m.ext) hN) ?_;rintro v u e_ ⟨A8,n8,cap8,_,rfl,h_,ps,rfl,hso,hmem⟩;replace m:=m.newO e_ h_;apply aM 3 [0] m;simp only[↓aD];refine mh m [true,true,true,true,true] [(0,true),(2,true),(4,true),(5,true),(6,true),(7,true),(1,false),(3,false),(8,false),(9,false),(10,true),(11,true),(12,true)] aF (by kernel_rfl) (cB (fun _ _ _ _ _ h=>h)) (ol:=?_) ?hol ?_
 case hol=>simp only[zw,zQ,zR];try rfl
 intro u m;refine Oc 6 [2] ?_;simp only[↓aD,wM,Tm,aa];refine cG (bB O O (alb _ ((m.o 0 O).lat Lg (by decide)) (aw (m.o 0 O).le (m.o 0 O).max)) ?_);rintro v u e_ ⟨q9,es9,c9,rfl,hM,hD9⟩;replace m:=m.plus hM;clear hM;simp only[cn,bv] at m;refine aI ⟨m.sel [false,true,true,true,true,true],?_⟩;refine cG ?_;simp only[zz];refine bB O O (alb _ ((m.o 1 O).lat Lg (by decide)) (aw (m.o 1 O).le (m.o 1 O).max)) ?_;rintro v u e_ ⟨q10,es10,c10,rfl,hM,hD10⟩;replace m:=m.plus hM;clear hM;simp only[cn,bv] at m;refine aI ⟨m.sel [false,false,true,true,true,true,true],?_⟩;refine cG ?_;simp only[zz];refine bB O O (Ib _ (hT2.ext m.ext) hN2) ?_;rintro v u e_ ⟨A11,n11,cap11,_,rfl,h_,qs,rfl,hso2,hmem2⟩;replace m:=m.newO e_ h_;refine aI ⟨m.sel [false,false,false,true,true,true,true,true],?_⟩;refine cG ?_;simp only[zz];refine bB O O (alb _ ((m.o 0 O).lat Lg (by decide)) (aw (m.o 0 O).le (m.o 0 O).max)) ?_;rintro v u e_ ⟨q12,es12,c12,rfl,hM,hD12⟩;replace m:=m.plus hM;clear hM;simp only[cn,bv] at m;refine aI ⟨m.sel [false,false,false,false,true,true,true,true,true],?_⟩;refine Oc 3 [] ?_;simp only[↓aD];refine bY ?_;apply bF 11 [6,0] m;simp only[↓aD,Eg,acx,Ee,aa];refine cP [33] [8,34,35,36,37,38,39,40,41,42,43] (fun n vs wl=>∃(k:Nat) (es:Array cg) (cc:Nat),vs=[.int .i64 (k:Int)]∧Mem w0 wl [mI q12 es12 c12,mI q10 es10 c10,mI q9 es cc,oI 56 6 A4 (aO fs).length c4 ((aO fs).flatMap bM),bI g1 [.slice A N cap,.slice A2 N2 cap2,.slice A3 N3 cap3,.slice A4 (aO fs).length c4,.map (some q7),J] 148,mI q7 es7 c7,K]∧(bA pt ba ((Sx ((aO fs).take k)).foldl sB (dX [] ps)) es cc)∧(k≤(aO fs).length)∧(n=(aO fs).length-k)) ?_ ?_
 ·
  exact⟨_,0,_,_,O,(m.sel [true,false,true,true,false,true,true,true,true]),hD9,bw _,O⟩
 ·
  intro n vs wr hI u K1 hK1;obtain⟨k,es9,c9,rfl,m,hD9,hk,hn⟩:=hI;simp only[zu,zF,zG];apply aL 5 [0,0] m;simp only[↓aD];refine bK O ?_ ?_<;>intro hc1
  ·
   obtain⟨e,he⟩:∃e,(aO fs)[k]? = some e:=⟨_,ar (by omega)⟩
   obtain⟨gO,rfl⟩:=(m.o 3 rfl).some (by omega);apply aL 5 [0] m;simp only[↓aD];refine aB (aG mL eH O O (by omega) (by omega) (bX (ai _))) ?_;simp only[zz];refine aQ O (((m.o 3 O).at Cj he).lies sJ eH) ?_;simp only[zz];apply iH 8 [0,0] m;simp only[↓aD,Om,yU,xM,aS,aa,ag,ah];intro g2;refine⟨by omega,?_⟩;intro u m;refine go (Ub (ek:=pt) (en:=ba) (a:=e.1) m 3 O iM eK O O hD9 O ?_);intro es9 c9 u m hD9;simp only[zF,zG] at m;apply aM 5 [0,0] m;simp only[↓aD,xM,aS,ag,ah,aa];refine⟨by omega,?_⟩;refine Ub (ek:=pt) (en:=ba) (a:=e.2) m 3 O iM eK O O hD9 O ?_;intro es9 c9 u m hD9;simp only[zF,zG] at m;apply aM 6 [0] m;simp only[↓aD];refine⟨by omega,?_⟩;exact hK1 ((aO fs).length-(k+1)) _ _ (by omega) (by kernel_rfl) ⟨k+1,_,_,O,(m.sel [false,true,true,true,true,true,true,true]),by rw[aci he,iu];exact hD9,by omega,O⟩
  ·
   obtain rfl:k=(aO fs).length:=by omega
   rw[fa] at hD9;apply aL 12 [4,0] m;simp only[↓aD,Ke,afZ,Ys,aa];refine cP [49] [10,50,51,52,53,54,55,56] (fun n vs wl=>∃(k:Nat) (es:Array cg) (cc:Nat),vs=[.int .i64 (k:Int)]∧Mem w0 wl [mI q12 es cc,mI q10 es10 c10,mI q9 es9 c9,oI 56 6 A4 (aO fs).length c4 ((aO fs).flatMap bM),bI g1 [.slice A N cap,.slice A2 N2 cap2,.slice A3 N3 cap3,.slice A4 (aO fs).length c4,.map (some q7),J] 148,mI q7 es7 c7,K]∧(bA pt ba (((ms.take k).map (·.1)).foldl sB (dX [] qs)) es cc)∧(k≤N3)∧(n=N3-k)) ?_ ?_
   ·
    exact⟨_,0,_,_,O,m,hD12,bw _,O⟩
   ·
    intro n vs wr hI u K2 hK2;obtain⟨k,es12,c12,rfl,m,hD12,hk,hn⟩:=hI;simp only[zu,zF,zG];apply aL 5 [0,0] m;simp only[↓aD];refine bK O ?_ ?_<;>intro hc2
    ·
     obtain⟨mv,hmv,a3,rfl,hrow3⟩:=hL3.get (i:=k) (by omega);apply aL 5 [0] m;simp only[↓aD];refine aB (aG Dl rK O O (by omega) (by omega) (bX (ai _))) ?_;simp only[zz];refine aQ O ((aeI (hrow3.ext m.ext)).lies adS rK) ?_;simp only[zz];apply iH 7 [0,0] m;simp only[↓aD,akE,akD,xL,aS,aa];intro g2 u m;refine go (Ub (ek:=pt) (en:=ba) (a:=mv.1) m 1 O iM eK O O hD12 O ?_);intro es12 c12 u m hD12;simp only[zF,zG] at m;apply aM 6 [0] m;simp only[↓aD];refine⟨by omega,?_⟩;exact hK2 (N3-(k+1)) _ _ (by omega) (by kernel_rfl) ⟨k+1,_,_,O,(m.sel [false,true,true,true,true,true,true,true]),by rw[cC hmv,cz,iu];exact hD12,by omega,O⟩
    ·
     have hkN:k=N3:=by omega
     rw[bf (by omega)] at hD12;apply aL 12 [4,0] m;simp only[↓aD,Ke,afZ,Ys,aa];refine cP [62] [2,11,12,63,64,65,66,67,68,69,70,71,72,73,74,75,76,77,78,79,80,81,82,83,84,85,86,87,88,89,90,91,92,93,94,95,96,97,98,99,100,101,102,103,104,105,106,107,108,109,110,111,112,113] (fun n vs wl=>∃(k:Nat) (es:Array cg) (cc:Nat),vs=[.int .i64 (k:Int)]∧Mem w0 wl [mI q12 es12 c12,mI q10 es10 c10,mI q9 es9 c9,oI 56 6 A4 (aO fs).length c4 ((aO fs).flatMap bM),bI g1 [.slice A N cap,.slice A2 N2 cap2,.slice A3 N3 cap3,.slice A4 (aO fs).length c4,.map (some q7),J] 148,mI q7 es cc,K]∧(bA pt pt (qQ [] (ms.take k)) es cc)∧(∀i mv,i<k→ms[i]? = some mv→xD fs gs ms (aO fs) i mv=true)∧(k≤N3)∧(n=N3-k)) ?_ ?_
     ·
      exact⟨_,0,_,_,O,m,hD7,fun _ _ h=>absurd h (ma _),bw _,O⟩
     ·
      intro n vs wr hI u K3 hK3;obtain⟨k,es7,c7,rfl,m,hD7,hok,hk,hn⟩:=hI;simp only[zu,zF,zG];apply aL 5 [0,0] m;simp only[↓aD];refine bK O ?_ ?_<;>intro hc3
      ·
       obtain⟨mv,hmv,a3,rfl,hrow3⟩:=hL3.get (i:=k) (by omega);apply aL 6 [0] m;simp only[↓aD];refine aB (aG Dl rK O O (by omega) (by omega) (bX (ai _))) ?_;simp only[zz];refine aQ O ((aeI (hrow3.ext m.ext)).lies adS rK) ?_;simp only[zz];apply iH 6 [0] m;simp only[↓aD,akE,akD,aa];intro g2 u m;rcases ff k with hk0 | hk0
       ·
        refine gc (mq m aF (by kernel_rfl) ?_);refine iB 21 [2,0] ?_;simp only[↓aD,xL,aS,aa];refine⟨by omega,?_⟩;refine nS O (jZ (fun u m=>cR (ek:=pt) (en:=ba) (k:=mv.1) (v0:=false) iM jE eK O O (m.p 3 O) hD9) ?_);simp only[zz];refine nS O (aK (mH O) (aK (Ff O) (aK aC (cY O (fun hb=>aC) ?_))));simp only[zz];refine cY O (fun hb=>bD (c:=2) Ry O aA O O) ?_;simp only[zz];refine fQ O (fun hb u m=>aZ (aX hb O) ((m.b 0 O).lies aH aA O O)) ?_;simp only[zz,zy,ap,aa,ah,ag];refine fQ O (fun hb u m=>cR (ek:=pt) (en:=ba) (k:=mv.2) (v0:=false) iM jE eK (aX hb O) (aX hb O) (m.p 2 O) hD10) ?_;simp only[zz];refine cY O (fun hb=>mH (aX hb O)) (aK (eG O O O) (aK aC (cY O (fun hb=>aC) ?_)));simp only[zz];refine cY O (fun hb=>bD (c:=2) Ry O aA O O) ?_;simp only[zz];refine fQ O (fun hb u m=>aZ (aX hb O) ((m.b 0 O).lies aH aA O O)) ?_;simp only[zz,zy,ap,aa,ah,ag];refine fQ O (fun hb u m=>cR (ek:=pt) (en:=ba) (k:=mv.2) (v0:=false) iM jE eK (aX hb O) (aX hb O) (m.p 1 O) hD12) ?_;simp only[zz];refine cY O (fun hb=>mH (aX hb O)) (aK (eG O O O) (bN ?_));intro u m;refine gc ?_;simp only[zz];refine dC O ?_ ?_<;>intro hc4
        ·
         have hmr:xD fs gs ms (aO fs) k mv=false:=by rw[Fx (rim:=(aO fs)) hmem hmem2,hk0];exact at7 hc4
         apply aL 5 [] m;simp only[↓aD];refine aY O O ?_;try simp only[zD,zE]
         exact⟨_,O,_,_,by rw[if_neg (by rw[Ki hmv hmr];exact ei)],m.sel [false,false,false,false,true,true,true,true],fun h=>by rw[Ki hmv hmr] at h;cases h⟩
        ·
         have hmr:xD fs gs ms (aO fs) k mv=true:=by rw[Fx (rim:=(aO fs)) hmem hmem2,hk0];exact at6 hc4
         have hok2:∀i mv,i<k+1→ms[i]? = some mv→xD fs gs ms (aO fs) i mv=true:=fun i mw hi hmw=>by
          rcases dz i k with h | h
          · exact hok i mw h hmw
          ·
           obtain rfl:i=k:=by omega
           obtain rfl:=fh (hmv.symm.trans hmw);exact hmr
         apply aL 1 [0] m;simp only[↓aD];refine mh m [true,true,true,true,true,true,false,true] [(0,true),(1,true),(2,true),(4,true),(6,true),(3,true),(5,true),(7,true),(8,false)] aF (by kernel_rfl) (cB (fun _ _ _ _ _ h=>h)) (ol:=?_) ?hol ?_
         case hol=>simp only[zw,zQ,zR];try rfl
         intro u m;refine Oc 8 [5,0,0] ?_;simp only[↓aD,acy,xL,Qe,app,aS,aa];refine cG (eR (ek:=pt) (en:=pt) (a:=mv.1) (v:=mv.2) m 6 O Dn eK O O O hD7 ?_);intro es7 c7 u m hD7;simp only[zF,zG] at m;refine aI ⟨m.sel [true,true,true,true,true,true,false,true],?_⟩;refine bY ?_;apply bF 5 [0] m;simp only[↓aD];refine⟨by omega,?_⟩;exact hK3 (N3-(k+1)) _ _ (by omega) (by kernel_rfl) ⟨k+1,_,_,O,(m.sel [false,true,true,true,true,true,true,true]),by rw[cC hmv,Uh];exact hD7,hok2,by omega,O⟩
       ·
        obtain⟨j,rfl⟩:∃j,k=j+1:=⟨k-1,by omega⟩
        obtain⟨mw,hmw,a4,ha4,hrow4⟩:=hL3.get (i:=j) (by omega);cases ha4;refine gc (mq m aF (by kernel_rfl) ?_);refine iB 9 [1,5] ?_;simp only[↓aD,Ke,afZ,aa];refine⟨by omega,?_⟩;refine nS O (aK (aG Dl rK O O (by omega) (by omega) (bX (show Int.toNat (((j+1:Nat):Int)-1)=j by omega))) ?_);refine iB 1 [] ?_;simp only[↓aD,xL,aa];refine nS O (ql O (fun u m=>((((aeI (hrow4.ext m.ext)).sub 0).take 3).lies aH aA)) ?_);simp only[zz];refine iB 2 [0] ?_;simp only[↓aD,xL,aS,aa];refine nS O (kR O O tL.pure (nS O (aK (mH O) (aK (Fe O) (aK aC ?_)))));simp only[zz];refine cY O (fun hb=>aC) (cY O (fun hb=>bD (c:=2) Ry O aA O O) ?_);simp only[zz];refine fQ O (fun hb u m=>aZ (aX hb O) ((m.b 0 O).lies aH aA O O)) ?_;simp only[zz,zy,ap,aa,ah,ag];refine fQ O (fun hb u m=>cR (ek:=pt) (en:=ba) (k:=mv.1) (v0:=false) iM jE eK (aX hb O) (aX hb O) (m.p 3 O) hD9) ?_;simp only[zz];refine cY O (fun hb=>mH (aX hb O)) (aK (eG O O O) (aK aC (cY O (fun hb=>aC) ?_)));simp only[zz];refine cY O (fun hb=>bD (c:=2) Ry O aA O O) ?_;simp only[zz];refine fQ O (fun hb u m=>aZ (aX hb O) ((m.b 0 O).lies aH aA O O)) ?_;simp only[zz,zy,ap,aa,ah,ag];refine fQ O (fun hb u m=>cR (ek:=pt) (en:=ba) (k:=mv.2) (v0:=false) iM jE eK (aX hb O) (aX hb O) (m.p 2 O) hD10) ?_;simp only[zz];refine cY O (fun hb=>mH (aX hb O)) (aK (eG O O O) (aK aC (cY O (fun hb=>aC) ?_)));simp only[zz];refine cY O (fun hb=>bD (c:=2) Ry O aA O O) ?_;simp only[zz];refine fQ O (fun hb u m=>aZ (aX hb O) ((m.b 0 O).lies aH aA O O)) ?_;simp only[zz,zy,ap,aa,ah,ag];refine fQ O (fun hb u m=>cR (ek:=pt) (en:=ba) (k:=mv.2) (v0:=false) iM jE eK (aX hb O) (aX hb O) (m.p 1 O) hD12) ?_;simp only[zz];refine cY O (fun hb=>mH (aX hb O)) (aK (eG O O O) (bN ?_));intro u m;refine gc ?_;simp only[zz];refine dC O ?_ ?_<;>intro hc4
        ·
         have hmr:xD fs gs ms (aO fs) (j+1) mv=false:=by rw[Fx (rim:=(aO fs)) hmem hmem2,eh,hmw];exact aub hc4
         apply aL 5 [] m;simp only[↓aD];refine aY O O ?_;try simp only[zD,zE]
         exact⟨_,O,_,_,by rw[if_neg (by rw[Ki hmv hmr];exact ei)],m.sel [false,false,false,false,true,true,true,true],fun h=>by rw[Ki hmv hmr] at h;cases h⟩
        ·
         have hmr:xD fs gs ms (aO fs) (j+1) mv=true:=by rw[Fx (rim:=(aO fs)) hmem hmem2,eh,hmw];exact aua hc4
         have hok2:∀i mv,i<j+1+1→ms[i]? = some mv→xD fs gs ms (aO fs) i mv=true:=fun i mw hi hmw=>by
          rcases dz i (j+1) with h | h
          · exact hok i mw h hmw
          ·
           obtain rfl:i=j+1:=by omega
           obtain rfl:=fh (hmv.symm.trans hmw);exact hmr
         apply aL 1 [0] m;simp only[↓aD];refine mh m [true,true,true,true,true,true,false,true] [(0,true),(1,true),(2,true),(4,true),(6,true),(3,true),(5,true),(7,true),(8,false)] aF (by kernel_rfl) (cB (fun _ _ _ _ _ h=>h)) (ol:=?_) ?hol ?_
         case hol=>simp only[zw,zQ,zR];try rfl
         intro u m;refine Oc 8 [5,0,0] ?_;simp only[↓aD,acy,xL,Qe,app,aS,aa];refine cG (eR (ek:=pt) (en:=pt) (a:=mv.1) (v:=mv.2) m 6 O Dn eK O O O hD7 ?_);intro es7 c7 u m hD7;simp only[zF,zG] at m;refine aI ⟨m.sel [true,true,true,true,true,true,false,true],?_⟩;refine bY ?_;apply bF 5 [0] m;simp only[↓aD];refine⟨by omega,?_⟩;exact hK3 (N3-(j+1+1)) _ _ (by omega) (by kernel_rfl) ⟨j+1+1,_,_,O,(m.sel [false,true,true,true,true,true,true,true]),by rw[cC hmv,Uh];exact hD7,hok2,by omega,O⟩
      ·
       have hkN:k=N3:=by omega
       rw[bf (by omega)] at hD7;have hall:uN fs gs ms (aO fs)=true:=Bc.2 fun i mv hm=>hok i mv (by have:=(ax.1 hm).1;omega) hm;apply aL 6 [] m;simp only[↓aD];refine aY O O ?_;try simp only[zD,zE]
       exact⟨_,O,_,_,by rw[if_pos hall],m.sel [false,false,false,true,true,true,true],fun _=>hD7⟩
theorem alm:rN prog 39 tr:=by
 refine rN.agg (cs:=fun p=>#[.int .i64 p.a.x,.int .i64 p.a.y,.int .i64 p.a.z,.int .i64 p.b.x,.int .i64 p.b.y,.int .i64 p.b.z,.int .i64 p.c.x,.int .i64 p.c.y,.int .i64 p.c.z]) (fun _=>rfl) dA (fun e p=>?_) (fun p q=>?_) (fun p=>?_)
 ·
  refine sR.array (d:=9999) dA aA fun i hi=>?_;obtain rfl | rfl | rfl:=(by omega:i=0∨i=1∨i=2)
  ·
   refine⟨_,cZ aH aA O,?_⟩;refine sR.struct (d:=9998) oN fun f hf=>?_;simp only[ao,bt,or_false] at hf;rcases hf with rfl | rfl | rfl
   · exact⟨_,bU bT O,sR.int (d:=9997) iY⟩
   · exact⟨_,bU bT O,sR.int (d:=9997) iY⟩
   · exact⟨_,bU bT O,sR.int (d:=9997) iY⟩
  ·
   refine⟨_,cZ aH aA O,?_⟩;refine sR.struct (d:=9998) oN fun f hf=>?_;simp only[ao,bt,or_false] at hf;rcases hf with rfl | rfl | rfl
   · exact⟨_,bU bT O,sR.int (d:=9997) iY⟩
   · exact⟨_,bU bT O,sR.int (d:=9997) iY⟩
   · exact⟨_,bU bT O,sR.int (d:=9997) iY⟩
  ·
   refine⟨_,cZ aH aA O,?_⟩;refine sR.struct (d:=9998) oN fun f hf=>?_;simp only[ao,bt,or_false] at hf;rcases hf with rfl | rfl | rfl
   · exact⟨_,bU bT O,sR.int (d:=9997) iY⟩
   · exact⟨_,bU bT O,sR.int (d:=9997) iY⟩
   · exact⟨_,bU bT O,sR.int (d:=9997) iY⟩
 · exact (ajT _).iff ⟨fun h=>Mg (P3.eq h.1 h.2.1 h.2.2.1) (P3.eq h.2.2.2.1 h.2.2.2.2.1 h.2.2.2.2.2.1) (P3.eq h.2.2.2.2.2.2.1 h.2.2.2.2.2.2.2.1 h.2.2.2.2.2.2.2.2),fun h=>by subst h;simp only[and_self]⟩
 · simp[tr,Instr.sameBits]
def Nb{K:Type}[DecidableEq K](D:List (K × Bool))(ks:List K):List (K × Bool):=ks.foldl (fun D k=>fI D k false) D
theorem ahV[DecidableEq K](D:List (K × Bool))(ks:List K)(k:K):Nb D (ks++[k])=fI (Nb D ks) k false:=by unfold Nb;rw[iu];rfl
theorem Ui{K:Type}[DecidableEq K]:∀(ks:List K) (D:List (K × Bool)) (a:K),bL (Nb D ks) a=if a∈ks then some false else bL D a
 | [],D,a=>by simp[Nb]
 | k::ks,D,a=>by
  show bL (Nb (fI D k false) ks) a=_
  rw[Ui ks,kO];by_cases h1:a∈ks
  · rw[if_pos h1,if_pos (List.mem_cons_of_mem _ h1)]
  ·
   rw[if_neg h1];by_cases h2:k=a
   · rw[if_pos h2,if_pos (by rw[h2];exact List.mem_cons_self ..)]
   · rw[if_neg h2,if_neg (fun h=>(ao.1 h).elim (fun e=>h2 e.symm) h1)]
theorem Ic{K:Type}[DecidableEq K]:∀(ks:List K) (D:List (K × Bool)),(D.map (·.1)).Nodup→((Nb D ks).map (·.1)).Nodup
 | [],_,h=>h
 | k::ks,D,h=>Ic ks _ (sP h k false)
theorem acF[DecidableEq K](ks hs:List K)(a:K):(bL (Nb (dX [] ks) hs) a).getD false=decide (a∈ks∧a∉hs):=by
 rw[Ui];by_cases h:a∈hs
 · rw[if_pos h,decide_eq_false (fun k=>k.2 h)];rfl
 · rw[if_neg h,lZ,decide_eq_decide];exact⟨fun k=>⟨k,h⟩,And.left⟩
theorem aln{i:Nat}(ht:f[i]? = some t)(h:¬okP f c ms i t):uO f c ms=false:=by
 cases hh:uO f c ms with
 | false=>rfl
 | true=>exact absurd ((Mk.1 hh).1 i t ht) h
theorem apv{x:T3}:((decide (¬(x.a.x=x.b.x∧x.a.y=x.b.y∧x.a.z=x.b.z))&&decide (¬(x.b.x=x.c.x∧x.b.y=x.c.y∧x.b.z=x.c.z)))&&decide (¬(x.c.x=x.a.x∧x.c.y=x.a.y∧x.c.z=x.a.z)))=x.nd:=by
 simp only[T3.nd,nV,ne_eq]
theorem apw(hn:(t.img ms).nd=true){b:Bool}(h:(!(bL (Nb (dX [] (c.map eX)) (rQ ms (f.take k))) (eX (t.img ms))).getD false)=b):okP f c ms k t↔b=false:=by
 rw[acF] at h;rw[okP,hn,if_pos rfl,←h];simp
theorem apx(hn:(t.img ms).nd=false){b:Bool}(h:((!(bL (dX [] (oR c)) ((t.img ms).a,(t.img ms).b)).getD false)||(!(bL (dX [] (oR c)) ((t.img ms).b,(t.img ms).c)).getD false))=b):okP f c ms k t↔b=false:=by
 rw[Fv,Fv] at h;rw[okP,hn,if_neg ei,←h];simp
theorem aog{es:Array cg}{dn:List (T3 × Bool)}(h:lP tr ba (Nb (dX [] (c.map eX)) (rQ ms f)) es sn dn [])(hno:∀y∈dn,y.2=false)(hok:∀j t,f[j]? = some t→okP f c ms j t):uO f c ms=true:=by
 refine Mk.2 ⟨hok,fun u hu=>?_⟩;have hn:=Ic (rQ ms f) _ (pY (c.map eX) [] (by simp));have hg:=Ui (rQ ms f) (dX [] (c.map eX)) (eX u);refine Decidable.byContradiction fun hx=>?_;rw[if_neg hx,Jy,if_pos (cu.2 ⟨u,hu,rfl⟩)] at hg;have:=hno _ (h.done.mem_iff.2 (rM hg));cases this
theorem alo{es:Array cg}{dn rs:List (T3 × Bool)}(h:lP tr ba (Nb (dX [] (c.map eX)) (rQ ms f)) es sn dn rs){y:T3}(hy:(y,true)∈dn):uO f c ms=false:=by
 cases hh:uO f c ms with
 | false=>rfl
 | true =>
  have hn:=Ic (rQ ms f) _ (pY (c.map eX) [] (by simp));have hg:=lH hn (h.1.mem_iff.1 (gd _ hy));have hg2:=acF (c.map eX) (rQ ms f) y;rw[hg] at hg2;obtain⟨h1,h2⟩:=of_decide_eq_true hg2.symm;obtain⟨u,hu,rfl⟩:=cu.1 h1;exact absurd ((Mk.1 hh).2 u hu) h2
theorem ari(h:f[k]? = some t)(hn:(t.img ms).nd=true):rQ ms (f.take (k+1))=rQ ms (f.take k)++[eX (t.img ms)]:=by rw[Kb h,hn];rfl
theorem arj(h:f[k]? = some t)(hn:(t.img ms).nd=false):rQ ms (f.take (k+1))=rQ ms (f.take k):=by rw[Kb h,hn];simp
theorem agc(ht:f[k]? = some t)(h:okP f c ms k t)(hok:∀i t,i<k→f[i]? = some t→okP f c ms i t):∀i t,i<k+1→f[i]? = some t→okP f c ms i t:=fun i u hi hu=>by
 rcases dz i k with h1 | h1
 · exact hok i u h1 hu
 ·
  obtain rfl:i=k:=by omega
  obtain rfl:=fh (ht.symm.trans hu);exact h
theorem Uj{F G H R J:Value}{g1 q c:Nat}{es:Array cg}{D:List (P3 × P3)}{p:P3}{ms:List Mv}(w:am)(hB1:fE w g1 [F,G,H,R,.map (some q),J] 148)(hM:iN w q es c)(hD:bA pt pt D es c)(hi:∀p,(bL D p).getD p=mU ms p) :
 dR prog 155 [.pointer (some ⟨g1,0,none⟩),pt p] w (fun v _=>v=pt (mU ms p)):=(aoc w hB1 hM hD).mono fun v w' _ h=>by rw[h,hi]
theorem aoh{A:Option Addr}{es7:Array cg}{D:List (P3 × P3)}(w:am)(hB1:fE w g1 [.slice A N cap,.slice A2 N2 cap2,H,R,.map (some q7),J] 148)(hT:cJ w A N fs)(hT2:cJ w A2 N2 gs)(hN:N≤300000)(hN2:N2≤300000)(hMq:iN w q7 es7 c7)(hD:bA pt pt D es7 c7)(himg:∀p,(bL D p).getD p=mU ms p):dR prog 92 [.pointer (some ⟨g1,0,none⟩)] w (fun v _=>v=.int .i64 (if uO fs gs ms=true then 0 else 32)):=by
 refine⟨bO func92 (by kernel_rfl),?_⟩;have m:=Mem.refl w
 go_enter func92,ntmps92
 apply iE 6 [0] m;simp only[↓aD];refine iV m ?_;intro q8 u m;have hD8:=bA.nil (K:=T3) (V:=Bool) tr ba;apply aM 8 [0] m;simp only[↓aD,wM,aa];refine aQ O ((hB1.ext m.ext).lies1 nW O) ?_;simp only[zz];apply aM 4 [0] m;simp only[↓aD,mC];refine cP [18] [5,19,20,21,22,23,24,25] (fun n vs wl=>∃(k:Nat) (es:Array cg) (cc:Nat),vs=[.int .i64 (k:Int)]∧Mem w wl [mI q8 es cc]∧(bA tr ba (dX [] ((gs.take k).map eX)) es cc)∧(k≤N2)∧(n=N2-k)) ?_ ?_
 ·
  exact⟨_,0,_,_,O,m,hD8,bw _,O⟩
 ·
  intro n vs wr hI u K1 hK1;obtain⟨k,es8,c8,rfl,m,hD8,hk,hn⟩:=hI;simp only[zu,zF,zG];apply aL 5 [0,0] m;simp only[↓aD];refine bK O ?_ ?_<;>intro hc1
  ·
   obtain⟨t,ht,_,a,rfl,hrow⟩:=hT2.get (i:=k) (by omega);apply aL 5 [0] m;simp only[↓aD];refine aB (aG bZ aR O O (by omega) (by omega) (bX (ai _))) ?_;simp only[zz];refine aQ O ((hrow.ext m.ext).lies dK aR) ?_;simp only[zz];apply iH 6 [0,0] m;simp only[↓aD,nB,iG,aa];intro g3 u m;refine go (oP m O O (My (t:=t)) ?_);intro u m;simp only[zz];refine eR (ek:=tr) (en:=ba) (a:=eX t) (v:=true) m 1 O underlying199 alm O O O hD8 ?_;intro es8 c8 u m hD8;simp only[zF,zG] at m;apply aM 6 [0] m;simp only[↓aD];refine⟨by omega,?_⟩;exact hK1 (N2-(k+1)) _ _ (by omega) (by kernel_rfl) ⟨k+1,_,_,O,(m.sel [false,true]),by rw[cC ht,cz,bi,db,jV];exact hD8,by omega,O⟩
  ·
   have hkN:k=N2:=by omega
   rw[bf (by rw[hT2.len];omega)] at hD8;apply aL 6 [0] m;simp only[↓aD,wM,aa];refine aQ O ((hB1.ext m.ext).lies1 nW O) ?_;simp only[zz];refine bB O O (Uc _ (hT2.ext m.ext) (by omega)) ?_;rintro v u e_ ⟨g9,es9,c9,rfl,hM,hD9⟩;replace m:=m.plus hM;clear hM;simp only[cn,bv] at m;apply aM 8 [0] m;simp only[↓aD,yV,aa];refine aQ O ((hB1.ext m.ext).lies1 nW O) ?_;simp only[zz];apply aM 4 [0] m;simp only[↓aD,mC];refine cP [36] [2,8,9,37,38,39,40,41,42,43,44,45,46,47,48,49,50,51,52,53,54,55,56,57,58,59,60,61,62,63,64,65,66,67,68,69,70,71,72,73,74,75,76,77,78,79,80,81,82,83,84,85,86,87,88,89,90,91,92,93,94,95,96,97,98] (fun n vs wl=>∃(k:Nat) (es:Array cg) (cc:Nat),vs=[.int .i64 (k:Int)]∧Mem w wl [mI g9 es9 c9,mI q8 es cc]∧(bA tr ba (Nb (dX [] (gs.map eX)) (rQ ms (fs.take k))) es cc)∧(∀i t,i<k→fs[i]? = some t→okP fs gs ms i t)∧(k≤N)∧(n=N-k)) ?_ ?_
   ·
    exact⟨_,0,_,_,O,m,hD8,fun _ _ h=>absurd h (ma _),bw _,O⟩
   ·
    intro n vs wr hI u K2 hK2;obtain⟨k,es8,c8,rfl,m,hD8,hok,hk,hn⟩:=hI;simp only[zu,zF,zG];apply aL 5 [0,0] m;simp only[↓aD];refine bK O ?_ ?_<;>intro hc2
    ·
     obtain⟨t,ht,_,a,rfl,hrow⟩:=hT.get (i:=k) (by omega);apply aL 5 [0] m;simp only[↓aD];refine aB (aG bZ aR O O (by omega) (by omega) (bX (ai _))) ?_;simp only[zz];refine aQ O ((hrow.ext m.ext).lies dK aR) ?_;simp only[zz];apply iH 4 [0,0] m;simp only[↓aD,nB,iG,aa];intro g3 u m;refine pO 14 [0,1,2,3,4,5,6,7,8,9,10,11,12] [⟨13,9,39,[.int .i64 0,.int .i64 0,.int .i64 0,.int .i64 0,.int .i64 0,.int .i64 0,.int .i64 0,.int .i64 0,.int .i64 0]⟩] aF (by kernel_rfl) (al1 ⟨_,_,_,O,by kernel_rfl,_,afw,O⟩) (ol:=?_) ?hol ?_
     case hol=>simp only[zw,zQ,zR];try rfl
     intro u e_;replace m:=m.ext' e_;refine jF aC (jF (aN dA aA O O (by decide) (by decide) O) ?_);simp only[zz];refine nU O (fun u e=>(((m.ext' e).b 0 O).lies aH aA O O)) ?_;simp only[zz,zy,ap,aa,ah,ag];refine Pq O O (fun u e=>Uj (p:=t.a) _ (hB1.ext (m.ext' e).ext) (hMq.ext (m.ext' e).ext) hD himg) (jF aC (jF (aN dA aA O O (by decide) (by decide) O) ?_));simp only[zz];refine nU O (fun u e=>(((m.ext' e).b 0 O).lies aH aA O O)) ?_;simp only[zz,zy,ap,aa,ah,ag];refine Pq O O (fun u e=>Uj (p:=t.b) _ (hB1.ext (m.ext' e).ext) (hMq.ext (m.ext' e).ext) hD himg) (jF aC (jF (aN dA aA O O (by decide) (by decide) O) ?_));simp only[zz];refine nU O (fun u e=>(((m.ext' e).b 0 O).lies aH aA O O)) ?_;simp only[zz,zy,ap,aa,ah,ag];refine Pq O O (fun u e=>Uj (p:=t.c) _ (hB1.ext (m.ext' e).ext) (hMq.ext (m.ext' e).ext) hD himg) (jF (eU O O O) (afl ?_));simp only[zz];refine mf1 m ?_;intro g4 u m;simp only[zJ,zK,zF,zG];refine cL m 0 O O O aR (jO O) O ?_;intro u m;simp only[zy,zx,bQ,zF,zG,aa] at m;refine aI ?_;apply bF 7 [0,0,0] m;simp only[↓aD,dJ,aS,ag,ah,aa];refine⟨by omega,?_⟩;refine aB (fR O O) ?_;apply aM 1 [0] m;simp only[↓aD];refine dW O (fun hb=>aN dA aA O O (by decide) (by decide) O) ?_;simp only[zz];refine fO O (fun hb=>aZ (aX hb O) ((m.b 0 O).lies aH aA O O)) ?_;simp only[zz,zy,ap,aa,ah,ag];refine dW O (fun hb=>aN dA aA O O (by decide) (by decide) O) ?_;simp only[zz];refine fO O (fun hb=>aZ (aX hb O) ((m.b 0 O).lies aH aA O O)) ?_;simp only[zz,zy,ap,aa,ah,ag];refine dW O (fun hb=>fR (aX hb O) (aX hb O)) (aB (cE O O O) ?_);apply aM 1 [0] m;simp only[↓aD];refine dW O (fun hb=>aN dA aA O O (by decide) (by decide) O) ?_;simp only[zz];refine fO O (fun hb=>aZ (aX hb O) ((m.b 0 O).lies aH aA O O)) ?_;simp only[zz,zy,ap,aa,ah,ag];refine dW O (fun hb=>aN dA aA O O (by decide) (by decide) O) ?_;simp only[zz];refine fO O (fun hb=>aZ (aX hb O) ((m.b 0 O).lies aH aA O O)) ?_;simp only[zz,zy,ap,aa,ah,ag];refine dW O (fun hb=>fR (aX hb O) (aX hb O)) (aB (cE O O O) ?_);apply aM 1 [0] m;simp only[↓aD];refine dC O ?_ ?_<;>intro hc3
     ·
      have hn:(t.img ms).nd=true:=apv.symm.trans hc3;apply aL 3 [0,0] m;simp only[↓aD,iG];refine wQ m O O (My (t:=t.img ms)) 7 [0,0,0] ?_;simp only[↓aD,iG,aa];intro u m;refine eD (cR (ek:=tr) (en:=ba) (k:=eX (t.img ms)) (v0:=false) underlying199 jE alm O O (m.p 3 O) hD8) ?_;simp only[zz];apply aM 2 [0] m;simp only[↓aD];refine dC O ?_ ?_<;>intro hc4
      ·
       have hnk:=aln ht (mt (apw hn hc4).1 (by decide));apply aL 5 [] m;simp only[↓aD];refine aY O O ?_;try simp only[zD,zE]
       exact⟨_,O,m.ext,by rw[if_neg (by rw[hnk];exact ei)]⟩
      ·
       have hk2:=agc ht ((apw hn hc4).2 rfl) hok;apply aL 5 [0,0] m;simp only[↓aD,iG];refine eR (ek:=tr) (en:=ba) (a:=eX (t.img ms)) (v:=false) m 3 O underlying199 alm O O O hD8 ?_;intro es8 c8 u m hD8;simp only[zF,zG] at m;apply aM 6 [0] m;simp only[↓aD];refine⟨by omega,?_⟩;exact hK2 (N-(k+1)) _ _ (by omega) (by kernel_rfl) ⟨k+1,_,_,O,(m.sel [false,false,true,true]),by rw[ari ht hn,ahV];exact hD8,hk2,by omega,O⟩
     ·
      have hn:(t.img ms).nd=false:=apv.symm.trans hc3;apply aL 9 [0,0] m;simp only[↓aD,dJ,aS,pJ,ag,ah,aa];refine⟨by omega,?_⟩;refine go (eD (cR (ek:=ed) (en:=ba) (k:=((t.img ms).a,(t.img ms).b)) (v0:=false) tA jE pK O O (m.p 2 O) hD9) ?_);simp only[zz];apply aM 2 [0] m;simp only[↓aD];refine eL O (fun hb=>aC) (eL O (fun hb=>aN dA aA O O (by decide) (by decide) O) ?_);simp only[zz];refine fG O (fun hb=>aZ (aX hb O) ((m.b 0 O).lies aH aA O O)) ?_;simp only[zz,zy,ap,aa,ah,ag];refine eL O (fun hb=>aN dA aA O O (by decide) (by decide) O) ?_;simp only[zz];refine fG O (fun hb=>aZ (aX hb O) ((m.b 0 O).lies aH aA O O)) ?_;simp only[zz,zy,ap,aa,ah,ag];refine eL O (fun hb=>Sb (as8 hb O O) (as8 hb O O)) ?_;simp only[zz];refine fG O (fun hb=>cR (ek:=ed) (en:=ba) (k:=((t.img ms).b,(t.img ms).c)) (v0:=false) tA jE pK (aX hb O) (aX hb O) (m.p 2 O) hD9) ?_;simp only[zz];refine eL O (fun hb=>mH (aX hb O)) (aB (eG O O O) ?_);apply aM 1 [0] m;simp only[↓aD];refine dC O ?_ ?_<;>intro hc5
      ·
       have hnk:=aln ht (mt (apx hn hc5).1 (by decide));apply aL 5 [] m;simp only[↓aD];refine aY O O ?_;try simp only[zD,zE]
       exact⟨_,O,m.ext,by rw[if_neg (by rw[hnk];exact ei)]⟩
      ·
       have hk2:=agc ht ((apx hn hc5).2 rfl) hok;apply aL 6 [0] m;simp only[↓aD];refine⟨by omega,?_⟩;exact hK2 (N-(k+1)) _ _ (by omega) (by kernel_rfl) ⟨k+1,_,_,O,(m.sel [false,false,true,true]),by rw[arj ht hn];exact hD8,hk2,by omega,O⟩
    ·
     have hkN:k=N:=by omega
     rw[bf (by rw[hT.len];omega)] at hD8;have hall:∀i t,fs[i]? = some t→okP fs gs ms i t:=fun i t ht=>hok i t (by have:=(ax.1 ht).1;rw[hT.len] at this;omega) ht;apply aL 5 [0] m;simp only[↓aD];refine sQ m underlying199 O (m.p 1 O) ?_;intro r1 u m;apply aM 2 [0] m;simp only[↓aD];refine cP [] [2,11,101,102,103,104,105] (fun n vs wl=>∃(dn rs:List (T3 × Bool)) (sn:Array Nat),vs=[]∧Mem w wl [iI r1 q8 c8 sn,mI q8 es8 c8]∧(lP tr ba (Nb (dX [] (gs.map eX)) (rQ ms fs)) es8 sn dn rs)∧(∀y∈dn,y.2=false)∧(n=rs.length)) ?_ ?_
     ·
      exact⟨_,[],_,#[],rfl,(m.sel [true,false,true]),lP.start hD8,fun _ h=>(by cases h),rfl⟩
     ·
      intro n vs wr hI u K3 hK3;obtain⟨dn,rs,sn,rfl,m,hT9,hno,hn⟩:=hI;simp only[zu,zF,zG];apply aL 2 [0] m;simp only[↓aD];refine Dr m 0 O O (m.p 1 O) hD8 hT9 ?_;intro bb kk vv sn u m hN;simp only[zF,zG] at m;refine aB (nL O) ?_;apply aM 2 [0] m;simp only[↓aD];refine dC O ?_ ?_<;>intro hc6
      ·
       obtain⟨kp,kb,rs2,hp,hT10⟩:=Cd hc6 hN;apply aL 4 [0] m;simp only[↓aD];refine eD (pQ O (m.r 0 O) (m.p 1 O) hD8 hT10) ?_;simp only[zz];apply aM 7 [0] m;simp only[↓aD];refine dC O ?_ ?_<;>intro hc7
       ·
        have hnk:=alo hT10 (y:=kp) (by rw[←hc7];simp);apply aL 5 [] m;simp only[↓aD];refine aY O O ?_;try simp only[zD,zE]
        exact⟨_,O,m.ext,by rw[if_neg (by rw[hnk];exact ei)]⟩
       ·
        skip
        apply aL 2 [0] m;simp only[↓aD];exact hK3 rs2.length _ _ (by rw[hn,hp.length_eq];exact et _) (by kernel_rfl) ⟨dn++[(kp,kb)],rs2,_,rfl,m,hT10,fun y hy=>(br.1 hy).elim (hno y) fun hy=>by obtain rfl:=bg.1 hy;exact hc7,O⟩
      ·
       obtain rfl:=Cc hc6 hN;apply aL 6 [] m;simp only[↓aD];refine aY O O ?_;try simp only[zD,zE]
       exact⟨_,O,m.ext,by rw[if_pos (aog hT9 hno hall)]⟩
end Go.Proofs.YtfekpcimgncioaaGreatDoor
namespace Go.Proofs.YtfekpcimgncioaaGreatDoor
open Go.Proofs.Tryz
open Go.RowKit Go.Lith
set_option maxRecDepth 100000
attribute [local irreducible] au cq eF Code.wp
end Go.Proofs.YtfekpcimgncioaaGreatDoor
namespace Go.Proofs.YtfekpcimgncioaaGreatDoor
open Go.Proofs.Tryz
open Go.RowKit Go.Lith
set_option maxRecDepth 100000
attribute [local irreducible] au cq eF bJ cD Code.wp
attribute [local congr] oG fS fT fU fV fW jR fX fY fZ gA gB gC gD gE gF gG gH eM eN gI gJ gL gM gN jT cW cX cA cU gK jS eO eP eQ gQ gR jU
end Go.Proofs.YtfekpcimgncioaaGreatDoor
namespace Go.Proofs.YtfekpcimgncioaaGreatDoor
open Go.Proofs.Tryz
open Go.RowKit Go.Lith
set_option maxRecDepth 100000
attribute [local irreducible] au cq eF Code.wp
end Go.Proofs.YtfekpcimgncioaaGreatDoor
namespace Go.Proofs.YtfekpcimgncioaaGreatDoor
open Go.Proofs.Tryz
open Go.RowKit Go.Lith
set_option maxRecDepth 100000
attribute [local irreducible] au cq eF bJ cD Code.wp
attribute [local congr] oG fS fT fU fV fW jR fX fY fZ gA gB gC gD gE gF gG gH eM eN gI gJ gL gM gN jT cW cX cA cU gK jS eO eP eQ gQ gR jU
variable{q u:P3}{ms:List Mv}{y0:Int}
theorem atj{p:P3}:gS prog 276 [pt p] (.int .i64 p.x):=by
 intro w;refine⟨ajD,?_⟩;have m:=Mem.refl w
 go_enter func276,ntmps276
 apply nM 12 [0] m;simp only[↓aD,akM,eW,aa];intro g1 u m;exact aY O O ⟨_,O,m.ext,O⟩
theorem atk{p:P3}:gS prog 277 [pt p] (.int .i64 p.y):=by
 intro w;refine⟨ajE,?_⟩;have m:=Mem.refl w
 go_enter func277,ntmps277
 apply nM 12 [0] m;simp only[↓aD,akN,eW,aa];intro g1 u m;exact aY O O ⟨_,O,m.ext,O⟩
theorem atl{p:P3}:gS prog 278 [pt p] (.int .i64 p.z):=by
 intro w;refine⟨ajF,?_⟩;have m:=Mem.refl w
 go_enter func278,ntmps278
 apply nM 12 [0] m;simp only[↓aD,akO,eW,aa];intro g1 u m;exact aY O O ⟨_,O,m.ext,O⟩
theorem ark  : gS prog 195 [] (.agg #[.func (.func 276) #[] #[],.func (.func 277) #[] #[],.func (.func 278) #[] #[]]):=by
 intro w;refine⟨ajC,?_⟩;have m:=Mem.refl w
 go_enter func195,ntmps195
 apply nM 10 [0] m;simp only[↓aD,aqP,aqQ,aqO,aa];intro g1 u m;exact aY O ⟨_,O,((m.b 0 O).full afA Lw)⟩ ⟨_,O,m.ext,O⟩
theorem alp  : gS prog 336 [.int .i64 0] (.tuple #[.int .i64 1,.int .i64 2]):=by
 intro w;refine⟨adQ,?_⟩;have m:=Mem.refl w
 go_enter func336,ntmps336
 apply iE 9 [0] m;simp only[↓aD,an];refine⟨by omega,?_⟩;refine aB (dL (m:=1) (n:=3) (r:=1) O O (by decide) (by decide)) ?_;apply aM 2 [0] m;simp only[↓aD,an];refine⟨by omega,?_⟩;refine aB (dL (m:=2) (n:=3) (r:=2) O O (by decide) (by decide)) ?_;apply aM 4 [] m;simp only[↓aD];exact nP O O O ⟨_,O,m.ext,O⟩
theorem alq  : gS prog 336 [.int .i64 1] (.tuple #[.int .i64 2,.int .i64 0]):=by
 intro w;refine⟨adQ,?_⟩;have m:=Mem.refl w
 go_enter func336,ntmps336
 apply iE 9 [0] m;simp only[↓aD,an];refine⟨by omega,?_⟩;refine aB (dL (m:=2) (n:=3) (r:=2) O O (by decide) (by decide)) ?_;apply aM 2 [0] m;simp only[↓aD,an];refine⟨by omega,?_⟩;refine aB (dL (m:=3) (n:=3) (r:=0) O O (by decide) (by decide)) ?_;apply aM 4 [] m;simp only[↓aD];exact nP O O O ⟨_,O,m.ext,O⟩
theorem alr  : gS prog 336 [.int .i64 2] (.tuple #[.int .i64 0,.int .i64 1]):=by
 intro w;refine⟨adQ,?_⟩;have m:=Mem.refl w
 go_enter func336,ntmps336
 apply iE 9 [0] m;simp only[↓aD,an];refine⟨by omega,?_⟩;refine aB (dL (m:=3) (n:=3) (r:=0) O O (by decide) (by decide)) ?_;apply aM 2 [0] m;simp only[↓aD,an];refine⟨by omega,?_⟩;refine aB (dL (m:=4) (n:=3) (r:=1) O O (by decide) (by decide)) ?_;apply aM 4 [] m;simp only[↓aD];exact nP O O O ⟨_,O,m.ext,O⟩
theorem mO{p:P3}[I3 p][I3 q]:gS prog 223 [pt p,pt q] (wv (q.sub p)):=by
 intro w;refine⟨bO func223 (by kernel_rfl),?_⟩;have m:=Mem.refl w
 go_enter func223,ntmps223
 apply nM 13 [0] m;simp only[↓aD,aey];intro g1 g2 g3 g4 u m;refine wQ m O O ark 17 [4,1,0] ?_;simp only[↓aD];refine⟨by omega,?_⟩;intro u m;refine aB (Gw O O) ?_;apply aM 3 [0] m;simp only[↓aD];refine eB m 11 aF (by kernel_rfl) ?_;simp only[zy];refine iB 3 [2] ?_;simp only[↓aD,aS];refine kR O O atj ?_;simp only[zz];refine kR O O (qG Iw.h) (aK aC ?_);simp only[zz];refine ql O (fun u m=>((m.b 3 O).full aH aA)) ?_;simp only[zz];refine kR O O atj ?_;simp only[zz];refine kR O O (qG Iw.h) ?_;simp only[zz];refine kR O O (He Bw.up Bw.up) (iB 1 [] ?_);simp only[↓aD,qD,ag,ah,aa];refine⟨by omega,?_⟩;refine bN ?_;intro u m;refine cL m 0 O O O aW (jO O) O ?_;intro u m;simp only[zy,zx,bQ,zF,zG,aa] at m;refine aI ?_;apply bF 18 [1,0] m;simp only[↓aD,an];refine⟨by omega,?_⟩;refine aB (Gx O O) ?_;apply aM 3 [0] m;simp only[↓aD];refine eB m 11 aF (by kernel_rfl) ?_;simp only[zy];refine iB 3 [2] ?_;simp only[↓aD,aS];refine kR O O atk ?_;simp only[zz];refine kR O O (qG Iw.h) (aK aC ?_);simp only[zz];refine ql O (fun u m=>((m.b 3 O).full aH aA)) ?_;simp only[zz];refine kR O O atk ?_;simp only[zz];refine kR O O (qG Iw.h) ?_;simp only[zz];refine kR O O (He Bw.up Bw.up) (iB 1 [] ?_);simp only[↓aD,qD,ag,ah,aa];refine⟨by omega,?_⟩;refine bN ?_;intro u m;refine cL m 0 O O O aW (jO O) O ?_;intro u m;simp only[zy,zx,bQ,zF,zG,aa] at m;refine aI ?_;apply bF 18 [1,0] m;simp only[↓aD,an];refine⟨by omega,?_⟩;refine aB (Gy O O) ?_;apply aM 3 [0] m;simp only[↓aD];refine eB m 11 aF (by kernel_rfl) ?_;simp only[zy];refine iB 3 [2] ?_;simp only[↓aD,aS];refine kR O O atl ?_;simp only[zz];refine kR O O (qG Iw.h) (aK aC ?_);simp only[zz];refine ql O (fun u m=>((m.b 3 O).full aH aA)) ?_;simp only[zz];refine kR O O atl ?_;simp only[zz];refine kR O O (qG Iw.h) ?_;simp only[zz];refine kR O O (He Bw.up Bw.up) (iB 1 [] ?_);simp only[↓aD,qD,ag,ah,aa];refine⟨by omega,?_⟩;refine bN ?_;intro u m;refine cL m 0 O O O aW (jO O) O ?_;intro u m;simp only[zy,zx,bQ,zF,zG,aa] at m;refine aI ?_;apply zvn 19 [2,0,1] m;simp only[↓aD,aex,an,aa];refine⟨by omega,?_⟩;intro u m;exact aY O ⟨_,O,((m.b 1 O).full afB Xr)⟩ ⟨_,O,m.ext,O⟩
theorem Bl{v:P3}(hu:Bv 400000 u)(hv:Bv 400000 v):gS prog 302 [wv u,wv v] (wv (u.cross v)):=by
 intro w;refine⟨bO func302 (by kernel_rfl),?_⟩;have m:=Mem.refl w
 go_enter func302,ntmps302
 apply nM 35 [4,1,0] m;simp only[↓aD,aey];intro g1 g2 g3 g4;refine⟨by omega,?_⟩;intro u m;refine wQ m O O alp 6 [0] ?_;simp only[↓aD];intro u m;refine eB m 17 aF (by kernel_rfl) ?_;simp only[zy];refine iB 7 [3,2] ?_;simp only[↓aD,qD,jC,ag,ah,aa];refine⟨by omega,?_⟩;refine kR O O (uD Bw.up Bw.up) (iB 6 [3,2] ?_);simp only[↓aD,qD,jC,ag,ah,aa];refine⟨by omega,?_⟩;refine kR O O (uD Bw.up Bw.up) ?_;simp only[zz];refine kR O O (He Bw.up Bw.up) (iB 1 [] ?_);simp only[↓aD,qD,ag,ah,aa];refine⟨by omega,?_⟩;refine bN ?_;intro u m;refine cL m 0 O O O aW (jO O) O ?_;intro u m;simp only[zy,zx,bQ,zF,zG,aa] at m;refine aI ?_;apply bF 23 [1,0] m;simp only[↓aD,an];refine⟨by omega,?_⟩;refine wQ m O O alq 6 [0] ?_;simp only[↓aD];intro u m;refine eB m 17 aF (by kernel_rfl) ?_;simp only[zy];refine iB 7 [3,2] ?_;simp only[↓aD,qD,jC,ag,ah,aa];refine⟨by omega,?_⟩;refine kR O O (uD Bw.up Bw.up) (iB 6 [3,2] ?_);simp only[↓aD,qD,jC,ag,ah,aa];refine⟨by omega,?_⟩;refine kR O O (uD Bw.up Bw.up) ?_;simp only[zz];refine kR O O (He Bw.up Bw.up) (iB 1 [] ?_);simp only[↓aD,qD,ag,ah,aa];refine⟨by omega,?_⟩;refine bN ?_;intro u m;refine cL m 0 O O O aW (jO O) O ?_;intro u m;simp only[zy,zx,bQ,zF,zG,aa] at m;refine aI ?_;apply bF 23 [1,0] m;simp only[↓aD,an];refine⟨by omega,?_⟩;refine wQ m O O alr 6 [0] ?_;simp only[↓aD];intro u m;refine eB m 17 aF (by kernel_rfl) ?_;simp only[zy];refine iB 7 [3,2] ?_;simp only[↓aD,qD,jC,ag,ah,aa];refine⟨by omega,?_⟩;refine kR O O (uD Bw.up Bw.up) (iB 6 [3,2] ?_);simp only[↓aD,qD,jC,ag,ah,aa];refine⟨by omega,?_⟩;refine kR O O (uD Bw.up Bw.up) ?_;simp only[zz];refine kR O O (He Bw.up Bw.up) (iB 1 [] ?_);simp only[↓aD,qD,ag,ah,aa];refine⟨by omega,?_⟩;refine bN ?_;intro u m;refine cL m 0 O O O aW (jO O) O ?_;intro u m;simp only[zy,zx,bQ,zF,zG,aa] at m;refine aI ?_;apply zvn 19 [2,0,1] m;simp only[↓aD,aex,an,aa];refine⟨by omega,?_⟩;intro u m;exact aY O ⟨_,O,((m.b 1 O).full afB Xr)⟩ ⟨_,O,m.ext,O⟩
theorem arl{b:Int}(hb:Bd 1000000 b):gS prog 121 [.agg #[.bool false,.string ⟨#[]⟩],W b] (W (0+b)):=by
 rw[←Zx];exact Uf (Ph _) hb
theorem Eo{v:P3}(hu:Bv 400000 u)(hv:Bv 400000 v):gS prog 224 [wv u,wv v] (W (u.dot v)):=by
 intro w;refine⟨bO func224 (by kernel_rfl),?_⟩;have m:=Mem.refl w
 go_enter func224,ntmps224
 apply nM 32 [4,1,0] m;simp only[↓aD,sF];intro g1 g2 g3 g4;refine⟨by omega,?_⟩;intro u m;refine eB m 9 aF (by kernel_rfl) ?_;simp only[zy];refine iB 7 [0,3,2] ?_;simp only[↓aD,jC,qD,ag,ah,aa];refine⟨by omega,?_⟩;refine kR O O (uD Bw.up Bw.up) ?_;simp only[zz];refine kR O O (arl Bw.up) (bN ?_);intro u m;simp only[zz];refine cL m 0 O O O aW (jO O) O ?_;intro u m;simp only[zy,zx,bQ,zF,zG,aa] at m;refine aI ?_;apply bF 20 [1,0] m;simp only[↓aD,an];refine⟨by omega,?_⟩;refine eB m 9 aF (by kernel_rfl) ?_;simp only[zy];refine iB 7 [0,3,2] ?_;simp only[↓aD,jC,qD,ag,ah,aa];refine⟨by omega,?_⟩;refine kR O O (uD Bw.up Bw.up) ?_;simp only[zz];refine kR O O (Uf Bw.up Bw.up) (bN ?_);intro u m;simp only[zz];refine cL m 0 O O O aW (jO O) O ?_;intro u m;simp only[zy,zx,bQ,zF,zG,aa] at m;refine aI ?_;apply bF 20 [1,0] m;simp only[↓aD,an];refine⟨by omega,?_⟩;refine eB m 9 aF (by kernel_rfl) ?_;simp only[zy];refine iB 7 [0,3,2] ?_;simp only[↓aD,jC,qD,ag,ah,aa];refine⟨by omega,?_⟩;refine kR O O (uD Bw.up Bw.up) ?_;simp only[zz];refine kR O O (Uf Bw.up Bw.up) (bN ?_);intro u m;simp only[zz];refine cL m 0 O O O aW (jO O) O ?_;intro u m;simp only[zy,zx,bQ,zF,zG,aa] at m;refine aI ?_;apply zvn 19 [2,0,1] m;simp only[↓aD,jC,an,aa];refine⟨by omega,?_⟩;intro u m;refine aY O ⟨_,O,((m.b 1 O).full dU aW)⟩ ?_;try simp only[zD,zE]
 exact⟨_,O,m.ext,by rw[←P3.dot0];rfl⟩
theorem Uk{t:T3}[IT t]:gS prog 239 [tr t] (wv t.normal):=by
 intro w;refine⟨bO func239 (by kernel_rfl),?_⟩;have m:=Mem.refl w
 go_enter func239,ntmps239
 apply nM 6 [0] m;simp only[↓aD,akP];intro g1 g2 u m;refine eB m 11 aF (by kernel_rfl) ?_;simp only[zy];refine iB 4 [1,1] ?_;simp only[↓aD,dJ,aS,ag,ah,aa];refine⟨by omega,?_⟩;refine kR O O mO (iB 4 [1,1] ?_);simp only[↓aD,dJ,aS,ag,ah,aa];refine⟨by omega,?_⟩;refine kR O O mO ?_;simp only[zz];refine kR O O (Bl Bv.of Bv.of) (bN ?_);intro u m;simp only[zz];refine cL m 0 O O O Xq (jO O) O ?_;intro u m;simp only[zy,zx,bQ,zF,zG,aa] at m;refine aI ?_;apply bF 1 [] m;simp only[↓aD];exact aY O ⟨_,O,((m.b 0 O).full anp Xq)⟩ ⟨_,O,m.ext,O⟩
theorem aoi{p:P3}[I3 p][I3 q]:gS prog 156 [pt p,pt q] (W ((q.sub p).dot (q.sub p))):=by
 intro w;refine⟨bO func156 (by kernel_rfl),?_⟩;have m:=Mem.refl w
 go_enter func156,ntmps156
 apply nM 10 [2,1,0] m;simp only[↓aD,sF,aS];intro g1 g2 g3 u m;refine wQ m O O mO 7 [0,0,0,0] ?_;simp only[↓aD,aey,aex,aa];intro g4 u m;refine wQ m O O (Eo Bv.of Bv.of) 3 [1] ?_;simp only[↓aD,jC,aa];intro u m;exact aY O ⟨_,O,((m.b 1 O).full dU aW)⟩ ⟨_,O,m.ext,O⟩
theorem pS{X:Nat}(w:am)(hX64:X<18446744073709551616):dR prog 255 [.int .u64 X] w (fun v _=>∃n:Int,v=.int .i64 n∧0≤n∧n≤64∧(n≤18→X<262144)):=by
 refine⟨bO func255 (by kernel_rfl),?_⟩;have m:=Mem.refl w
 go_enter func255,ntmps255
 apply iE 10 [0,0] m;simp only[↓aD];refine bK O ?_ ?_<;>intro hc1
 ·
  apply aL 3 [0] m;simp only[↓aD];refine aB (oW O O (by omega) Zr) ?_;apply aM 11 [0,0] m;simp only[↓aD];refine bK O ?_ ?_<;>intro hc2
  ·
   apply aL 3 [0] m;simp only[↓aD];refine aB (oW O O (by omega) ajb) ?_;apply aM 13 [0,0] m;simp only[↓aD,an];refine⟨by omega,?_⟩;refine bK O ?_ ?_<;>intro hc3
   ·
    apply aL 3 [0] m;simp only[↓aD];refine aB (oW O O (by omega) afm) ?_;apply aM 12 [0] m;simp only[↓aD,Ek,Gk,an];refine⟨by omega,?_⟩;refine Db tZ (by kernel_rfl) O (by omega) ?_;intro b hb8 hb2;simp only[Co,tP,wT,ja,i_,gl,iz];apply aM 5 [] m;simp only[↓aD,Gk,acw];refine⟨by omega,?_⟩;exact aY O O ⟨_,O,m.ext,_,O,by omega,by omega,by omega⟩
   ·
    apply aL 6 [0] m;simp only[↓aD,Ek,Gk];refine⟨by omega,?_⟩;refine Db tZ (by kernel_rfl) O (by omega) ?_;intro b hb8 hb2;simp only[Co,tP,wT,ja,i_,gl,iz];apply aM 5 [] m;simp only[↓aD,Gk,acw];refine⟨by omega,?_⟩;exact aY O O ⟨_,O,m.ext,_,O,by omega,by omega,by omega⟩
  ·
   apply aL 7 [0,0] m;simp only[↓aD];refine bK O ?_ ?_<;>intro hc3
   ·
    apply aL 3 [0] m;simp only[↓aD];refine aB (oW O O (by omega) afm) ?_;apply aM 12 [0] m;simp only[↓aD,Ek,Gk,an];refine⟨by omega,?_⟩;refine Db tZ (by kernel_rfl) O (by omega) ?_;intro b hb8 hb2;simp only[Co,tP,wT,ja,i_,gl,iz];apply aM 5 [] m;simp only[↓aD,Gk,acw];refine⟨by omega,?_⟩;exact aY O O ⟨_,O,m.ext,_,O,by omega,by omega,by omega⟩
   ·
    apply aL 6 [0] m;simp only[↓aD,Ek,Gk];refine⟨by omega,?_⟩;refine Db tZ (by kernel_rfl) O (by omega) ?_;intro b hb8 hb2;simp only[Co,tP,wT,ja,i_,gl,iz];apply aM 5 [] m;simp only[↓aD,Gk,acw];refine⟨by omega,?_⟩;exact aY O O ⟨_,O,m.ext,_,O,by omega,by omega,by omega⟩
 ·
  apply aL 7 [0,0] m;simp only[↓aD];refine bK O ?_ ?_<;>intro hc2
  ·
   apply aL 3 [0] m;simp only[↓aD];refine aB (oW O O (by omega) ajb) ?_;apply aM 13 [0,0] m;simp only[↓aD,an];refine⟨by omega,?_⟩;refine bK O ?_ ?_<;>intro hc3
   ·
    apply aL 3 [0] m;simp only[↓aD];refine aB (oW O O (by omega) afm) ?_;apply aM 12 [0] m;simp only[↓aD,Ek,Gk,an];refine⟨by omega,?_⟩;refine Db tZ (by kernel_rfl) O (by omega) ?_;intro b hb8 hb2;simp only[Co,tP,wT,ja,i_,gl,iz];apply aM 5 [] m;simp only[↓aD,Gk,acw];refine⟨by omega,?_⟩;exact aY O O ⟨_,O,m.ext,_,O,by omega,by omega,by omega⟩
   ·
    apply aL 6 [0] m;simp only[↓aD,Ek,Gk];refine⟨by omega,?_⟩;refine Db tZ (by kernel_rfl) O (by omega) ?_;intro b hb8 hb2;simp only[Co,tP,wT,ja,i_,gl,iz];apply aM 5 [] m;simp only[↓aD,Gk,acw];refine⟨by omega,?_⟩;exact aY O O ⟨_,O,m.ext,_,O,by omega,by omega,by omega⟩
  ·
   apply aL 7 [0,0] m;simp only[↓aD];refine bK O ?_ ?_<;>intro hc3
   ·
    apply aL 3 [0] m;simp only[↓aD];refine aB (oW O O (by omega) afm) ?_;apply aM 12 [0] m;simp only[↓aD,Ek,Gk,an];refine⟨by omega,?_⟩;refine Db tZ (by kernel_rfl) O (by omega) ?_;intro b hb8 hb2;simp only[Co,tP,wT,ja,i_,gl,iz];apply aM 5 [] m;simp only[↓aD,Gk,acw];refine⟨by omega,?_⟩;exact aY O O ⟨_,O,m.ext,_,O,by omega,by omega,by omega⟩
   ·
    apply aL 6 [0] m;simp only[↓aD,Ek,Gk];refine⟨by omega,?_⟩;refine Db tZ (by kernel_rfl) O (by omega) ?_;intro b hb8 hb2;simp only[Co,tP,wT,ja,i_,gl,iz];apply aM 5 [] m;simp only[↓aD,Gk,acw];refine⟨by omega,?_⟩;exact aY O O ⟨_,O,m.ext,_,O,by omega,by omega,by omega⟩
theorem rW{p:P3}[hp:S3 p][hq:S3 q]:gS prog 299 [pt p,pt q] (nv (q.sub p)):=by
 intro w;refine⟨bO func299 (by kernel_rfl),?_⟩;have m:=Mem.refl w;have:=hp.x;have:=hp.y;have:=hp.z;have:=hq.x;have:=hq.y;have:=hq.z
 go_enter func299,ntmps299
 apply nM 27 [1,2,1,2,1,2,0] m;simp only[↓aD,akR,jI,eW,jJ,kJ,aqZ,akQ,aa];intro g1 g2 g3;refine⟨by omega,?_⟩;intro u m;exact aY O ⟨_,O,((m.b 0 O).full afC Xs)⟩ ⟨_,O,m.ext,O⟩
theorem Hf{v:P3}(hu:N3 u)(hv:N3 v):gS prog 300 [nv u,nv v] (nv (u.cross v)):=by
 intro w;refine⟨bO func300 (by kernel_rfl),?_⟩;have m:=Mem.refl w
 go_enter func300,ntmps300
 apply nM 35 [4,1,0] m;simp only[↓aD,akR];intro g1 g2 g3 g4;refine⟨by omega,?_⟩;intro u m;refine wQ m O O alp 6 [0] ?_;simp only[↓aD];intro u m;refine eB m 17 aF (by kernel_rfl) ?_;simp only[zy];refine iB 7 [3,2] ?_;simp only[↓aD,uR,eW,ag,ah,aa];refine⟨by omega,?_⟩;refine aK (sD O O (Xf (Ci hu.y hv.z))) (iB 6 [3,2] ?_);simp only[↓aD,uR,eW,ag,ah,aa];refine⟨by omega,?_⟩;refine aK (sD O O (Xf (Ci hu.z hv.y))) (aK (mG O O (ap5 (Ci hu.y hv.z) (Ci hu.z hv.y))) ?_);refine iB 1 [] ?_;simp only[↓aD,uR,ag,ah,aa];refine⟨by omega,?_⟩;refine bN ?_;intro u m;refine fK m 0 O O O cN (jO O) ⟨O,O⟩ ?_;intro u m;simp only[zz,zy,zx,bQ,aa] at m;refine aI ?_;apply bF 23 [1,0] m;simp only[↓aD,an];refine⟨by omega,?_⟩;refine wQ m O O alq 6 [0] ?_;simp only[↓aD];intro u m;refine eB m 17 aF (by kernel_rfl) ?_;simp only[zy];refine iB 7 [3,2] ?_;simp only[↓aD,uR,eW,ag,ah,aa];refine⟨by omega,?_⟩;refine aK (sD O O (Xf (Ci hu.z hv.x))) (iB 6 [3,2] ?_);simp only[↓aD,uR,eW,ag,ah,aa];refine⟨by omega,?_⟩;refine aK (sD O O (Xf (Ci hu.x hv.z))) (aK (mG O O (ap5 (Ci hu.z hv.x) (Ci hu.x hv.z))) ?_);refine iB 1 [] ?_;simp only[↓aD,uR,ag,ah,aa];refine⟨by omega,?_⟩;refine bN ?_;intro u m;refine fK m 0 O O O cN (jO O) ⟨O,O⟩ ?_;intro u m;simp only[zz,zy,zx,bQ,aa] at m;refine aI ?_;apply bF 23 [1,0] m;simp only[↓aD,an];refine⟨by omega,?_⟩;refine wQ m O O alr 6 [0] ?_;simp only[↓aD];intro u m;refine eB m 17 aF (by kernel_rfl) ?_;simp only[zy];refine iB 7 [3,2] ?_;simp only[↓aD,uR,eW,ag,ah,aa];refine⟨by omega,?_⟩;refine aK (sD O O (Xf (Ci hu.x hv.y))) (iB 6 [3,2] ?_);simp only[↓aD,uR,eW,ag,ah,aa];refine⟨by omega,?_⟩;refine aK (sD O O (Xf (Ci hu.y hv.x))) (aK (mG O O (ap5 (Ci hu.x hv.y) (Ci hu.y hv.x))) ?_);refine iB 1 [] ?_;simp only[↓aD,uR,ag,ah,aa];refine⟨by omega,?_⟩;refine bN ?_;intro u m;refine fK m 0 O O O cN (jO O) ⟨O,O⟩ ?_;intro u m;simp only[zz,zy,zx,bQ,aa] at m;refine aI ?_;apply zvn 19 [2,0,1] m;simp only[↓aD,akQ,an,aa];refine⟨by omega,?_⟩;intro u m;exact aY O ⟨_,O,((m.b 1 O).full afC Xs)⟩ ⟨_,O,m.ext,O⟩
theorem aa0{n:Int}:gS prog 301 [.int .i64 n] (.int .i64 (bR n)):=by
 intro w;refine⟨bO func301 (by kernel_rfl),?_⟩;have m:=Mem.refl w
 go_enter func301,ntmps301
 apply iE 12 [0,0] m;simp only[↓aD];refine bK O ?_ ?_<;>intro hc1
 ·
  apply aL 5 [] m;simp only[↓aD];refine aY O O ?_;try simp only[zD,zE]
  exact⟨_,O,m.ext,by rw[Xa (by assumption)]⟩
 ·
  apply aL 6 [0,0] m;simp only[↓aD];refine bK O ?_ ?_<;>intro hc2
  ·
   apply aL 5 [] m;simp only[↓aD];refine aY O O ?_;try simp only[zD,zE]
   exact⟨_,O,m.ext,by rw[Xb (by assumption)]⟩
  ·
   apply aL 7 [] m;simp only[↓aD];refine aY O O ?_;try simp only[zD,zE]
   exact⟨_,O,m.ext,by rw[show n=0 by omega];rfl⟩
theorem aoj(m n:Int):(if m<n then n else m)=max m n:=by split <;> omega
theorem aok{w:am}{a:Addr}{e:E3}(h:mE w a (bM e)):mE w a [.int .i64 e.1.x,.int .i64 e.1.y,.int .i64 e.1.z,.int .i64 e.2.x,.int .i64 e.2.y,.int .i64 e.2.z]:=h
theorem agd(p q:P3):(q.sub p).dot (q.sub p)=((rR p q:Nat):Int):=by unfold rR;have:=ajf (q.sub p);omega
theorem Ul{p:P3}[I3 p][I3 q]:Bd 200 ((rR p q:Nat):Int):=by rw[←agd];exact (Bw.up:Bd 200 ((q.sub p).dot (q.sub p)))
theorem arm(n:Nat):fB n≤n:=by
 obtain⟨h,_⟩:=vZ n;rcases ff (fB n) with e | e
 · omega
 · exact aw (Nat.le_mul_of_pos_left _ e) h
theorem aa1{n:Nat}(h:Bd 200 ((n:Nat):Int)):Bd 200 ((fB n:Nat):Int):=by
 have h1:(n:Int).natAbs<2^200:=h;show (fB n:Int).natAbs<2^200
 have:=arm n;omega
theorem als{p:P3}(h:fB (rR p q)*fB (rR p q)=rR p q):((fB (rR p q):Nat):Int)=wR p q:=by rw[wR,if_pos h,Int.add_zero]
theorem aol{p:P3}(h:¬fB (rR p q)*fB (rR p q)=rR p q):((fB (rR p q):Nat):Int)+1=wR p q:=by rw[wR,if_neg h]
theorem aom{p:P3}[I3 p][I3 q]:Bd 250 (wR p q):=by
 have h:(fB (rR p q):Int).natAbs<2^200:=aa1 Ul;show (wR p q).natAbs<2^250
 have h2:(2:Nat)^200+1≤2^250:=by decide
 unfold wR;split <;> omega
theorem apy{r d:Nat}:(¬(fM ((r:Int)*(r:Int))=fM (d:Int)∧kA ((r:Int)*(r:Int))=kA (d:Int)))↔¬r*r=d:=by
 rw[ajg];refine not_congr ⟨fun h=>?_,fun h=>by rw[←h];simp⟩;exact Int.ofNat_inj.1 (by rw[←h];simp)
theorem alt{k:Nat}{mv:Mv}{y:Int}(hm:ms[k]? = some mv)(h:pH ms y0=pH (ms.drop k) y)(hi:pV (wR mv.1 mv.2)):pH ms y0=pH (ms.drop (k+1)) (max y (wR mv.1 mv.2)):=by
 rw[h,el (ax.1 hm).1,(ax.1 hm).2,pH,if_pos hi]
theorem aon{k:Nat}{mv:Mv}{y:Int}(hm:ms[k]? = some mv)(h:pH ms y0=pH (ms.drop k) y)(hi:¬pV (wR mv.1 mv.2)):pH ms y0=none:=by
 rw[h,el (ax.1 hm).1,(ax.1 hm).2,pH,if_neg hi]
theorem ahW{w0 w:am}{K:It}{N3 cap3:Nat}{A3:Option Addr}{F G R M:Value}{g1:Nat}(m:Mem w0 w [bI g1 [F,G,.slice A3 N3 cap3,R,M,.int .i64 y0] 148,K])(hL3:Aq bM 6 w0 A3 N3 ms)(hN3:N3≤10000000)(hI:∀mv∈ms,I3 mv.1∧I3 mv.2):xN prog 93 [.pointer (some ⟨g1,0,none⟩)] w fun v w'=>∃y,v=.int .i64 (if (pH ms y0).isSome=true then 0 else 3)∧Mem w0 w' [bI g1 [F,G,.slice A3 N3 cap3,R,M,.int .i64 y] 148,K]∧∀n,pH ms y0=some n→n=y:=by
 refine⟨bO func93 (by kernel_rfl),?_⟩
 go_enter func93,ntmps93
 apply iE 15 [0,0] m;simp only[↓aD,Ke,afZ,Ys,aa];refine cP [15] [2,4,5,6,7,8,9,16,17,18,19,20,21,22,23,24,25,26,27,28,29,30,31,32,33,34,35,36,37,38,39,40,41,42,43,44,45,46,47,48,49,50,51,52,53] (fun n vs wl=>∃(k:Nat) (y:Int),vs=[.int .i64 (k:Int)]∧Mem w0 wl [bI g1 [F,G,.slice A3 N3 cap3,R,M,.int .i64 y] 148,K]∧(pH ms y0=pH (ms.drop k) y)∧(k≤N3)∧(n=N3-k)) ?_ ?_
 ·
  exact⟨_,0,_,O,m,O,bw _,O⟩
 ·
  intro n vs wr hI u K1 hK1;obtain⟨k,y,rfl,m,hme,hk,hn⟩:=hI;simp only[zu,zF,zG];apply aL 5 [0,0] m;simp only[↓aD];refine bK O ?_ ?_<;>intro hc1
  ·
   obtain⟨mv,hmv,a3,rfl,hrow3⟩:=hL3.get (i:=k) (by omega);haveI:=(hI mv (bn hmv)).1;haveI:=(hI mv (bn hmv)).2;apply aL 5 [0] m;simp only[↓aD];refine aB (aG Dl rK O O (by omega) (by omega) (bX (ai _))) ?_;simp only[zz];refine aQ O ((aok (hrow3.ext m.ext)).lies adS rK) ?_;simp only[zz];apply iH 9 [0,0,0,0] m;simp only[↓aD,akE,akD,xL,aS,Qe,aa];intro g2 u m;refine wQ m O O (aoi (p:=mv.1) (q:=mv.2)) 3 [0] ?_;simp only[↓aD,sF,jC,aa];intro g3 u m;rw[agd] at m;apply bF 3 [0,0] m;simp only[↓aD,jC];refine wQ m O O (are (a:=((rR mv.1 mv.2:Nat):Int)) (Ul.mono (by decide)) (by omega)) 7 [0] ?_;simp only[↓aD,sF,jC,aa];intro g4 u m;rw[Int.natAbs_natCast] at m;apply bF 2 [0] m;simp only[↓aD];refine mq m aF (by kernel_rfl) (ql O (fun u m=>((m.b 0 O).full dU aW)) ?_);simp only[zz];refine ql O (fun u m=>((m.b 0 O).full dU aW)) ?_;simp only[zz];refine kR O O (uD (a:=((fB (rR mv.1 mv.2):Nat):Int)) (b:=((fB (rR mv.1 mv.2):Nat):Int)) ((aa1 Ul).mono (by decide)) ((aa1 Ul).mono (by decide))) ?_;simp only[zz];refine ql O (fun u m=>((m.b 1 O).full dU aW)) ?_;simp only[zz];refine aK (ahn O O) (bN ?_);intro u m;refine gc ?_;simp only[zz];refine lY m 0 [] [34,35,36] (fun vs i=>vs=[]∧i=bI g4 [.bool (fM (wR mv.1 mv.2)),.string (kA (wR mv.1 mv.2))] 95) ?_ ?_
   ·
    intro K2 hK2;refine bK O ?_ ?_<;>intro hc2
    ·
     have hsq:=apy.1 hc2;refine eB m 3 aF (by kernel_rfl) ?_;simp only[zy];refine ql O (fun u m=>((m.b 0 O).full dU aW)) ?_;simp only[zz];refine kR O O (qG (n:=1) (show pV 1 by unfold pV;decide)) ?_;simp only[zz];refine kR O O (Uf (a:=((fB (rR mv.1 mv.2):Nat):Int)) (b:=1) ((aa1 Ul).mono (by decide)) Bw.up) (bN ?_);intro u m;simp only[zz];refine cL m 0 O O O aW (jO O) O ?_;intro u m;simp only[zy,zx,bQ,zF,zG,aa] at m;refine aI (gk ?_);rw[aol hsq] at m;exact hK2 _ _ _ (by kernel_rfl) m ⟨O,O⟩
    ·
     have hsq:=Classical.not_not.1 (mt apy.2 hc2);apply aL 1 [0] m;simp only[↓aD];rw[als hsq] at m;exact hK2 _ _ _ (by kernel_rfl) m ⟨O,O⟩
   ·
    intro vs i wr m hI u;obtain⟨rfl,rfl⟩:=hI;simp only[zF,zG] at m;simp only[zu,zF,zG];apply bF 3 [0,0] m;simp only[↓aD,jC];refine wQ m O O (arf (a:=wR mv.1 mv.2) (aom.mono (by decide))) 12 [0] ?_;simp only[↓aD];intro u m;refine dC O ?_ ?_<;>intro hc3
    ·
     have hc3:¬pV (wR mv.1 mv.2):=by simpa using hc3
     have hno:=aon hmv hme hc3;apply aL 5 [] m;simp only[↓aD];refine aY O O ?_;try simp only[zD,zE]
     exact⟨_,O,_,by rw[hno];rfl,m.sel [false,false,false,true,true],fun n h=>by rw[hno] at h;cases h⟩
    ·
     have hc3:pV (wR mv.1 mv.2):=by simpa using hc3
     have hme2:=alt hmv hme hc3;apply aL 1 [] m;simp only[↓aD];rw[ahz,if_pos hc3];apply bF 7 [3,0] m;simp only[↓aD,Tp,eW,aa];refine aB (wU O O (aoj _ _)) ?_;apply iH 9 [3,0] m;simp only[↓aD,Tp,eW,aa];refine⟨by omega,?_⟩;intro u m;exact hK1 (N3-(k+1)) _ _ (by omega) (by kernel_rfl) ⟨k+1,_,O,(m.sel [false,false,false,true,true]),hme2,by omega,O⟩
  ·
   have hkN:k=N3:=by omega
   rw[List.drop_of_length_le (by rw[hL3.len];omega)] at hme;apply aL 6 [] m;simp only[↓aD];refine aY O O ?_;try simp only[zD,zE]
   exact⟨_,O,_,by rw[hme];rfl,m.sel [true,true],fun n h=>by rw[hme] at h;cases h;rfl⟩
end Go.Proofs.YtfekpcimgncioaaGreatDoor
namespace Go.Lith
section
variable {w0 w:am} {x y z:It} {is:List It}
theorem Mem.pack1(m:Mem w0 w (x::is)):Mem w0 w [x,En is]:=Mem.pack [x] m
theorem Mem.unpack2(m:Mem w0 w [x,y,En is]):Mem w0 w (x::y::is):=Mem.unpack [x,y] m
theorem Mem.pack3(m:Mem w0 w (x::y::z::is)):Mem w0 w [x,y,z,En is]:=Mem.pack [x,y,z] m
theorem Mem.pack2(m:Mem w0 w (x::y::is)):Mem w0 w [x,y,En is]:=Mem.pack [x,y] m
theorem Mem.pack4{z2:It}(m:Mem w0 w (x::y::z::z2::is)):Mem w0 w [x,y,z,z2,En is]:=Mem.pack [x,y,z,z2] m
theorem Mem.unpack4{z2:It}(m:Mem w0 w [x,y,z,z2,En is]):Mem w0 w (x::y::z::z2::is):=Mem.unpack [x,y,z,z2] m
theorem Mem.unpack3(m:Mem w0 w [x,y,z,En is]):Mem w0 w (x::y::z::is):=Mem.unpack [x,y,z] m
end
end Go.Lith
namespace Go.Proofs.YtfekpcimgncioaaGreatDoor
open Go.Proofs.Tryz
open Go.RowKit Go.Lith
set_option maxRecDepth 100000
attribute [local irreducible] au cq eF bJ cD Code.wp
attribute [local congr] oG fS fT fU fV fW jR fX fY fZ gA gB gC gD gE gF gG gH eM eN gI gJ gL gM gN jT cW cX cA cU gK jS eO eP eQ gQ gR jU
section
variable {fs gs:List T3} {ms:List Mv}
theorem atm(h:(if cQ true fs≠0 then cQ true fs else cQ true gs)≠0):oS fs gs ms=(0,if cQ true fs≠0 then cQ true fs else cQ true gs):=by
 unfold oS;by_cases h1:cQ true fs≠0
 · rw[if_pos h1,if_pos h1]
 ·
  rw[if_neg h1] at h;rw[if_neg h1,if_neg h1,if_pos h]
theorem atn(h:¬(if cQ true fs≠0 then cQ true fs else cQ true gs)≠0):cQ true fs=0∧cQ true gs=0:=by
 by_cases h1:cQ true fs≠0
 · rw[if_pos h1] at h;exact absurd h1 h
 · rw[if_neg h1] at h;exact⟨Classical.not_not.1 h1,Classical.not_not.1 h⟩
theorem ato(hf:cQ true fs=0)(hg:cQ true gs=0)(h:Pe fs gs≠0):oS fs gs ms=(0,Pe fs gs):=by
 rw[oS,if_neg (fun k=>k hf),if_neg (fun k=>k hg)];unfold Pe at h ⊢;split
 · rfl
 ·
  rename_i h1;rw[if_neg h1] at h;split
  · rfl
  · rename_i h2;rw[if_neg h2] at h;exact absurd O h
theorem atp(h:¬Pe fs gs≠0):aO fs=aO gs∧¬(uM fs gs (aO fs)=true∨Dw fs gs (aO fs)=false):=by
 unfold Pe at h;split at h
 · exact absurd (by decide) h
 ·
  rename_i h1;split at h
  · exact absurd (by decide) h
  · rename_i h2;exact⟨Classical.not_not.1 h1,h2⟩
theorem aa2(hf:cQ true fs=0)(hg:cQ true gs=0)(hb:¬Pe fs gs≠0):oS fs gs ms=if uN fs gs ms (aO fs)=false then ((0:Int),(31:Int)) else if uO fs gs ms=false then ((0:Int),(32:Int)) else match pH ms 0 with
 | some n=>(n,(0:Int))
 | none=>((0:Int),(3:Int)):=by
 obtain⟨h1,h2⟩:=atp hb;rw[oS,if_neg (fun k=>k hf),if_neg (fun k=>k hg),if_neg (fun k=>k h1),if_neg h2];cases pH ms 0 <;> rfl
theorem alu{b:Bool}{n:Int}(h:(if b=true then 0 else n)≠0):b=false:=by cases b with | false=>rfl | true=>exact absurd rfl h
theorem alv{b:Bool}{n:Int}(hn:n≠0)(h:¬(if b=true then 0 else n)≠0):b=true:=by cases b with | true=>rfl | false=>exact absurd hn h
end
theorem Ep{fs gs:List T3}{ms:List Mv}{N cap N2 cap2 N3 cap3:Nat}{A A2 A3:Option Addr}(w:am)(hT:cJ w A N fs)(hT2:cJ w A2 N2 gs)(hL3:Aq bM 6 w A3 N3 ms)(hN:N≤300000)(hN2:N2≤300000)(hN3:N3≤10000000)(hI:∀mv∈ms,I3 mv.1∧I3 mv.2):dR prog 44 [.slice A N cap,.slice A2 N2 cap2,.slice A3 N3 cap3] w (fun v _=>v=.tuple #[.int .i64 (oS fs gs ms).1,.int .i64 (oS fs gs ms).2]):=by
 refine⟨bO func44 (by kernel_rfl),?_⟩;have m:=Mem.refl w
 go_enter func44,ntmps44
 apply iE 10 [0] m;simp only[↓aD];refine iV m ?_;intro q7 u m;have hD7:=bA.nil (K:=P3) (V:=P3) pt pt;apply iH 8 [0] m;simp only[↓aD,aqJ,aa];intro g2 u m;refine aB eS ?_;simp only[zz,fb,bi,db];apply aM 2 [0] m;simp only[↓aD,Tt,aa];refine aB eS ?_;simp only[zz,fb,bi,db];apply aM 2 [0] m;simp only[↓aD,Tt,aa];refine aB eS ?_;simp only[zz,fb,bi,db];apply aM 2 [0] m;simp only[↓aD,Tt,aa];refine aB eS ?_;simp only[zz,fb,bi,db];apply aM 2 [0] m;simp only[↓aD,Tt,aa];refine aB eS ?_;simp only[zz,fb,bi,db];apply aM 1 [0] m;simp only[↓aD,Tt,aa];refine ad0 O O O O O ?_;intro u g3 e_ h_ k_;replace m:=m.newB e_ h_ k_;apply iH 26 [6,1,0,0,0,0] m;simp only[↓aD,aqK,Tu,Tr,Ts,Eh,Tq,ag,ah,aa];intro g4;refine⟨by omega,?_⟩;intro u m;refine dH m O O (aeH _ (m.b 2 O) (hT.ext m.ext) (hT2.ext m.ext) (by omega) (by omega)) ?_;rintro v u m rfl;apply aM 7 [0,0] m;simp only[↓aD];refine bK O ?_ ?_<;>intro hc2
 ·
  apply aL 7 [] m;simp only[↓aD];refine nP O O O ?_;try simp only[zD,zE]
  exact⟨_,O,m.ext,by rw[atm hc2]⟩
 ·
  obtain⟨hf,hg⟩:=atn hc2;apply Wi 27 [1,1,0,0,0] m;simp only[↓aD,Tu,Tr,Ts,Eh,Tq,an,ag,ah,aa];intro g5;refine⟨by omega,?_⟩;intro u m;replace m:=m.pull 3 O;simp only[dO,dP,zF,zG] at m;replace m:=m.pack1;refine lS O O (ahU m hT hT2 (by omega) (by omega) hf hg) ?_;rintro v u ⟨A4,c4,rfl,m⟩;simp only[zz];replace m:=m.unpack2;apply aM 7 [0,0] m;simp only[↓aD];refine bK O ?_ ?_<;>intro hc2
  ·
   apply aL 7 [] m;simp only[↓aD];refine nP O O O ?_;try simp only[zD,zE]
   exact⟨_,O,m.ext,by rw[ato hf hg hc2]⟩
  ·
   have hb:=hc2;apply Wi 27 [1,4,0,0,0] m;simp only[↓aD,Tu,Tr,Ts,Eh,Tq,an,ag,ah,aa];intro g6;refine⟨by omega,?_⟩;intro u m;replace m:=m.pull 6 O;simp only[dO,dP,zF,zG] at m;replace m:=m.pull 3 O;simp only[dO,dP,zF,zG] at m;replace m:=m.pull 3 O;simp only[dO,dP,zF,zG] at m;replace m:=m.pack3;refine lS O O (arh m hT hT2 hL3 hN hN2 hN3 hD7) ?_;rintro v u ⟨es7,c7,rfl,m,hD7i⟩;simp only[zz];replace m:=m.unpack3;apply aM 7 [0,0] m;simp only[↓aD];refine bK O ?_ ?_<;>intro hc2
   ·
    have hmv:=alu hc2;apply aL 7 [] m;simp only[↓aD];refine nP O O O ?_;try simp only[zD,zE]
    exact⟨_,O,m.ext,by rw[aa2 hf hg hb,hmv];rfl⟩
   ·
    have hmv:=alv (by decide) hc2;have hD7:=hD7i hmv;have himg:=anK (ack hmv);apply Wi 27 [1,6,0,0,0] m;simp only[↓aD,Tu,Tr,Ts,Eh,Tq,an,ag,ah,aa];intro g7;refine⟨by omega,?_⟩;intro u m;refine dH m O O (aoh (ms:=ms) _ (m.b 2 O) (hT.ext m.ext) (hT2.ext m.ext) hN hN2 (m.p 3 O) hD7 himg) ?_;rintro v u m rfl;apply aM 7 [0,0] m;simp only[↓aD];refine bK O ?_ ?_<;>intro hc2
    ·
     have hcv:=alu hc2;apply aL 7 [] m;simp only[↓aD];refine nP O O O ?_;try simp only[zD,zE]
     exact⟨_,O,m.ext,by rw[aa2 hf hg hb,hmv,hcv];rfl⟩
    ·
     have hcv:=alv (by decide) hc2;apply Wi 27 [1,7,0,0,0] m;simp only[↓aD,Tu,Tr,Ts,Eh,Tq,an,ag,ah,aa];intro g8;refine⟨by omega,?_⟩;intro u m;replace m:=m.pull 3 O;simp only[dO,dP,zF,zG] at m;replace m:=m.pack1;refine lS O O (ahW m hL3 hN3 hI) ?_;rintro v u ⟨y,rfl,m,hme⟩;apply aM 7 [0,0] m;simp only[↓aD];refine bK O ?_ ?_<;>intro hc2
     ·
      have hm0:pH ms 0=none:=Option.not_isSome_iff_eq_none.1 (by rw[alu hc2];exact ei);apply aL 7 [] m;simp only[↓aD];refine nP O O O ?_;try simp only[zD,zE]
      exact⟨_,O,m.ext,by rw[aa2 hf hg hb,hmv,hcv,hm0];rfl⟩
     ·
      have hm0:=alv (by decide) hc2;obtain⟨q,hq⟩:=Option.isSome_iff_exists.1 hm0;obtain rfl:=hme q hq;apply aL 24 [2,0] m;simp only[↓aD,Tp,eW,an,aa];refine⟨by omega,?_⟩;refine nP O O O ?_;try simp only[zD,zE]
      exact⟨_,O,m.ext,by rw[aa2 hf hg hb,hmv,hcv,hq];rfl⟩
end Go.Proofs.YtfekpcimgncioaaGreatDoor
namespace Go.Proofs.YtfekpcimgncioaaGreatDoor
open Go.Proofs.Tryz
open Go.RowKit Go.Lith
set_option maxRecDepth 100000
attribute [local irreducible] au cq eF Code.wp
end Go.Proofs.YtfekpcimgncioaaGreatDoor
namespace Go.Proofs.YtfekpcimgncioaaGreatDoor
open Go.Proofs.Tryz
open Go.RowKit Go.Lith
set_option maxRecDepth 100000
attribute [local irreducible] au cq eF bJ cD Code.wp
attribute [local congr] oG fS fT fU fV fW jR fX fY fZ gA gB gC gD gE gF gG gH eM eN gI gJ gL gM gN jT cW cX cA cU gK jS eO eP eQ gQ gR jU
variable{a c d:P3}
theorem Yv{b:P3}[I3 a][I3 b][I3 c][I3 d]{g0:Nat}(w:am)(hB0:fE w g0 [.int .i64 a.x,.int .i64 a.y,.int .i64 a.z,.int .i64 b.x,.int .i64 b.y,.int .i64 b.z,.int .i64 c.x,.int .i64 c.y,.int .i64 c.z,.int .i64 d.x,.int .i64 d.y,.int .i64 d.z] 30):dR prog 298 [.slice (some ⟨g0,0,none⟩) 4 4] w (fun v _=>∃bo:Bool,v=.bool bo∧(bo=true→S3 a∧S3 b∧S3 c∧S3 d)):=by
 refine⟨bO func298 (by kernel_rfl),?_⟩;have m:=Mem.refl w
 go_enter func298,ntmps298
 apply iE 25 [5,1,0] m;simp only[↓aD,wK];refine⟨by omega,?_⟩;refine aB (aG gW aA O O (by decide) (by decide) O) ?_;simp only[zz];refine aQ O ((hB0.ext m.ext).lies aH aA O O) ?_;simp only[zz,zy,ap,aa,ah,ag];apply iH 28 [0,0,0,0,4,1,0] m;simp only[↓aD,dN,aS,jI,eW,jJ,kJ,Ch,aa];intro g1;refine⟨by omega,?_⟩;intro u m;refine aB (kC O O) ?_;apply aM 6 [0] m;simp only[↓aD];refine aB (vT O O) (aB (wU O O O) (aB (lT nH iY O (Ca Iw.h)) ?_));simp only[zz];refine dH m O O (pS (X:=(a.x).natAbs) _ (by have:=(Iw.h:pV a.x).natAbs;omega)) ?_;rintro v u m ⟨n,rfl,hn0,hn1,hax⟩;apply aM 2 [0,0] m;simp only[↓aD];refine bK O ?_ ?_<;>intro hc3
 ·
  apply aL 5 [] m;simp only[↓aD];exact aY rfl rfl ⟨_,rfl,m.ext,false,rfl,fun h=>by cases h⟩
 ·
  replace hax:=hax (by omega);clear hc3 hn0 hn1;apply aL 18 [1,0] m;simp only[↓aD,an];refine⟨by omega,?_⟩;refine aB (kD O O) ?_;apply aM 6 [0] m;simp only[↓aD];refine aB (vT O O) (aB (wU O O O) (aB (lT nH iY O (Ca Iw.h)) ?_));simp only[zz];refine dH m O O (pS (X:=(a.y).natAbs) _ (by have:=(Iw.h:pV a.y).natAbs;omega)) ?_;rintro v u m ⟨n,rfl,hn0,hn1,hay⟩;apply aM 2 [0,0] m;simp only[↓aD];refine bK O ?_ ?_<;>intro hc3
  ·
   apply aL 5 [] m;simp only[↓aD];exact aY rfl rfl ⟨_,rfl,m.ext,false,rfl,fun h=>by cases h⟩
  ·
   replace hay:=hay (by omega);clear hc3 hn0 hn1;apply aL 18 [1,0] m;simp only[↓aD,an];refine⟨by omega,?_⟩;refine aB (kE O O) ?_;apply aM 6 [0] m;simp only[↓aD];refine aB (vT O O) (aB (wU O O O) (aB (lT nH iY O (Ca Iw.h)) ?_));simp only[zz];refine dH m O O (pS (X:=(a.z).natAbs) _ (by have:=(Iw.h:pV a.z).natAbs;omega)) ?_;rintro v u m ⟨n,rfl,hn0,hn1,haz⟩;apply aM 2 [0,0] m;simp only[↓aD];refine bK O ?_ ?_<;>intro hc3
   ·
    apply aL 5 [] m;simp only[↓aD];exact aY rfl rfl ⟨_,rfl,m.ext,false,rfl,fun h=>by cases h⟩
   ·
    replace haz:=haz (by omega);clear hc3 hn0 hn1;apply aL 31 [2,1,0] m;simp only[↓aD,an];refine⟨by omega,?_⟩;refine aB (aG gW aA O O (by decide) (by decide) O) ?_;simp only[zz];refine aQ O ((hB0.ext m.ext).lies aH aA O O) ?_;simp only[zz,zy,ap,aa,ah,ag];apply iH 28 [0,0,0,0,4,1,0] m;simp only[↓aD,dN,aS,jI,eW,jJ,kJ,Ch,aa];intro g2;refine⟨by omega,?_⟩;intro u m;refine aB (kC O O) ?_;apply aM 6 [0] m;simp only[↓aD];refine aB (vT O O) (aB (wU O O O) (aB (lT nH iY O (Ca Iw.h)) ?_));simp only[zz];refine dH m O O (pS (X:=(b.x).natAbs) _ (by have:=(Iw.h:pV b.x).natAbs;omega)) ?_;rintro v u m ⟨n,rfl,hn0,hn1,hbx⟩;apply aM 2 [0,0] m;simp only[↓aD];refine bK O ?_ ?_<;>intro hc3
    ·
     apply aL 5 [] m;simp only[↓aD];exact aY rfl rfl ⟨_,rfl,m.ext,false,rfl,fun h=>by cases h⟩
    ·
     replace hbx:=hbx (by omega);clear hc3 hn0 hn1;apply aL 18 [1,0] m;simp only[↓aD,an];refine⟨by omega,?_⟩;refine aB (kD O O) ?_;apply aM 6 [0] m;simp only[↓aD];refine aB (vT O O) (aB (wU O O O) (aB (lT nH iY O (Ca Iw.h)) ?_));simp only[zz];refine dH m O O (pS (X:=(b.y).natAbs) _ (by have:=(Iw.h:pV b.y).natAbs;omega)) ?_;rintro v u m ⟨n,rfl,hn0,hn1,hby⟩;apply aM 2 [0,0] m;simp only[↓aD];refine bK O ?_ ?_<;>intro hc3
     ·
      apply aL 5 [] m;simp only[↓aD];exact aY rfl rfl ⟨_,rfl,m.ext,false,rfl,fun h=>by cases h⟩
     ·
      replace hby:=hby (by omega);clear hc3 hn0 hn1;apply aL 18 [1,0] m;simp only[↓aD,an];refine⟨by omega,?_⟩;refine aB (kE O O) ?_;apply aM 6 [0] m;simp only[↓aD];refine aB (vT O O) (aB (wU O O O) (aB (lT nH iY O (Ca Iw.h)) ?_));simp only[zz];refine dH m O O (pS (X:=(b.z).natAbs) _ (by have:=(Iw.h:pV b.z).natAbs;omega)) ?_;rintro v u m ⟨n,rfl,hn0,hn1,hbz⟩;apply aM 2 [0,0] m;simp only[↓aD];refine bK O ?_ ?_<;>intro hc3
      ·
       apply aL 5 [] m;simp only[↓aD];exact aY rfl rfl ⟨_,rfl,m.ext,false,rfl,fun h=>by cases h⟩
      ·
       replace hbz:=hbz (by omega);clear hc3 hn0 hn1;apply aL 31 [2,1,0] m;simp only[↓aD,an];refine⟨by omega,?_⟩;refine aB (aG gW aA O O (by decide) (by decide) O) ?_;simp only[zz];refine aQ O ((hB0.ext m.ext).lies aH aA O O) ?_;simp only[zz,zy,ap,aa,ah,ag];apply iH 28 [0,0,0,0,4,1,0] m;simp only[↓aD,dN,aS,jI,eW,jJ,kJ,Ch,aa];intro g3;refine⟨by omega,?_⟩;intro u m;refine aB (kC O O) ?_;apply aM 6 [0] m;simp only[↓aD];refine aB (vT O O) (aB (wU O O O) (aB (lT nH iY O (Ca Iw.h)) ?_));simp only[zz];refine dH m O O (pS (X:=(c.x).natAbs) _ (by have:=(Iw.h:pV c.x).natAbs;omega)) ?_;rintro v u m ⟨n,rfl,hn0,hn1,hcx⟩;apply aM 2 [0,0] m;simp only[↓aD];refine bK O ?_ ?_<;>intro hc3
       ·
        apply aL 5 [] m;simp only[↓aD];exact aY rfl rfl ⟨_,rfl,m.ext,false,rfl,fun h=>by cases h⟩
       ·
        replace hcx:=hcx (by omega);clear hc3 hn0 hn1;apply aL 18 [1,0] m;simp only[↓aD,an];refine⟨by omega,?_⟩;refine aB (kD O O) ?_;apply aM 6 [0] m;simp only[↓aD];refine aB (vT O O) (aB (wU O O O) (aB (lT nH iY O (Ca Iw.h)) ?_));simp only[zz];refine dH m O O (pS (X:=(c.y).natAbs) _ (by have:=(Iw.h:pV c.y).natAbs;omega)) ?_;rintro v u m ⟨n,rfl,hn0,hn1,hcy⟩;apply aM 2 [0,0] m;simp only[↓aD];refine bK O ?_ ?_<;>intro hc3
        ·
         apply aL 5 [] m;simp only[↓aD];exact aY rfl rfl ⟨_,rfl,m.ext,false,rfl,fun h=>by cases h⟩
        ·
         replace hcy:=hcy (by omega);clear hc3 hn0 hn1;apply aL 18 [1,0] m;simp only[↓aD,an];refine⟨by omega,?_⟩;refine aB (kE O O) ?_;apply aM 6 [0] m;simp only[↓aD];refine aB (vT O O) (aB (wU O O O) (aB (lT nH iY O (Ca Iw.h)) ?_));simp only[zz];refine dH m O O (pS (X:=(c.z).natAbs) _ (by have:=(Iw.h:pV c.z).natAbs;omega)) ?_;rintro v u m ⟨n,rfl,hn0,hn1,hcz⟩;apply aM 2 [0,0] m;simp only[↓aD];refine bK O ?_ ?_<;>intro hc3
         ·
          apply aL 5 [] m;simp only[↓aD];exact aY rfl rfl ⟨_,rfl,m.ext,false,rfl,fun h=>by cases h⟩
         ·
          replace hcz:=hcz (by omega);clear hc3 hn0 hn1;apply aL 31 [2,1,0] m;simp only[↓aD,an];refine⟨by omega,?_⟩;refine aB (aG gW aA O O (by decide) (by decide) O) ?_;simp only[zz];refine aQ O ((hB0.ext m.ext).lies aH aA O O) ?_;simp only[zz,zy,ap,aa,ah,ag];apply iH 28 [0,0,0,0,4,1,0] m;simp only[↓aD,dN,aS,jI,eW,jJ,kJ,Ch,aa];intro g4;refine⟨by omega,?_⟩;intro u m;refine aB (kC O O) ?_;apply aM 6 [0] m;simp only[↓aD];refine aB (vT O O) (aB (wU O O O) (aB (lT nH iY O (Ca Iw.h)) ?_));simp only[zz];refine dH m O O (pS (X:=(d.x).natAbs) _ (by have:=(Iw.h:pV d.x).natAbs;omega)) ?_;rintro v u m ⟨n,rfl,hn0,hn1,hdx⟩;apply aM 2 [0,0] m;simp only[↓aD];refine bK O ?_ ?_<;>intro hc3
          ·
           apply aL 5 [] m;simp only[↓aD];exact aY rfl rfl ⟨_,rfl,m.ext,false,rfl,fun h=>by cases h⟩
          ·
           replace hdx:=hdx (by omega);clear hc3 hn0 hn1;apply aL 18 [1,0] m;simp only[↓aD,an];refine⟨by omega,?_⟩;refine aB (kD O O) ?_;apply aM 6 [0] m;simp only[↓aD];refine aB (vT O O) (aB (wU O O O) (aB (lT nH iY O (Ca Iw.h)) ?_));simp only[zz];refine dH m O O (pS (X:=(d.y).natAbs) _ (by have:=(Iw.h:pV d.y).natAbs;omega)) ?_;rintro v u m ⟨n,rfl,hn0,hn1,hdy⟩;apply aM 2 [0,0] m;simp only[↓aD];refine bK O ?_ ?_<;>intro hc3
           ·
            apply aL 5 [] m;simp only[↓aD];exact aY rfl rfl ⟨_,rfl,m.ext,false,rfl,fun h=>by cases h⟩
           ·
            replace hdy:=hdy (by omega);clear hc3 hn0 hn1;apply aL 18 [1,0] m;simp only[↓aD,an];refine⟨by omega,?_⟩;refine aB (kE O O) ?_;apply aM 6 [0] m;simp only[↓aD];refine aB (vT O O) (aB (wU O O O) (aB (lT nH iY O (Ca Iw.h)) ?_));simp only[zz];refine dH m O O (pS (X:=(d.z).natAbs) _ (by have:=(Iw.h:pV d.z).natAbs;omega)) ?_;rintro v u m ⟨n,rfl,hn0,hn1,hdz⟩;apply aM 2 [0,0] m;simp only[↓aD];refine bK O ?_ ?_<;>intro hc3
            ·
             apply aL 5 [] m;simp only[↓aD];exact aY rfl rfl ⟨_,rfl,m.ext,false,rfl,fun h=>by cases h⟩
            ·
             replace hdz:=hdz (by omega);clear hc3 hn0 hn1;apply aL 32 [2,2] m;simp only[↓aD,an];refine⟨by omega,?_⟩;exact aY O O ⟨_,O,m.ext,true,O,fun _=>⟨⟨hax,hay,haz⟩,⟨hbx,hby,hbz⟩,⟨hcx,hcy,hcz⟩,⟨hdx,hdy,hdz⟩⟩⟩
theorem tN{b:P3}[I3 a][I3 b][I3 c][I3 d]:gS prog 238 [pt a,pt b,pt c,pt d] (sg ((b.sub a).cross (d.sub c))):=by
 intro w;refine⟨bO func238 (by kernel_rfl),?_⟩;have m:=Mem.refl w
 go_enter func238,ntmps238
 apply nM 19 [5,4,3,2] m;simp only[↓aD,as1,aS];intro g1 g2 g3 g4 g5 g6 u m;refine go (Xv O O O O ?_);intro u g7 e_ h_ k_;replace m:=m.newB e_ h_ k_;simp only[zz];refine dH m O O (Yv _ (m.b 0 O)) ?_;rintro v u m ⟨bo,rfl,hsm⟩;apply aM 1 [0] m;simp only[↓aD];refine lV O ?_ ?_<;>intro hc1
 ·
  obtain⟨_,_,_,_⟩:=hsm hc1;apply aL 2 [0] m;simp only[↓aD];refine mq m aF (by kernel_rfl) (ql O (fun u m=>((m.b 6 O).full aH aA)) ?_);simp only[zz];refine ql O (fun u m=>((m.b 5 O).full aH aA)) ?_;simp only[zz];refine kR O O rW ?_;simp only[zz];refine ql O (fun u m=>((m.b 4 O).full aH aA)) ?_;simp only[zz];refine ql O (fun u m=>((m.b 3 O).full aH aA)) ?_;simp only[zz];refine kR O O rW ?_;simp only[zz];refine kR O O (Hf inferInstance inferInstance) (aK aC (bN ?_));intro u m;apply bF 15 [4,1,0] m;simp only[↓aD];refine⟨by omega,?_⟩;refine aB (We O O) ?_;apply aM 6 [0] m;simp only[↓aD];refine wQ m O O aa0 21 [1,1,0] ?_;simp only[↓aD,nA,eW,ag,ah,aa,an];refine⟨by omega,?_⟩;intro u m;refine aB (Wf O O) ?_;apply aM 6 [0] m;simp only[↓aD];refine wQ m O O aa0 21 [1,1,0] ?_;simp only[↓aD,nA,eW,ag,ah,aa,an];refine⟨by omega,?_⟩;intro u m;refine aB (Wg O O) ?_;apply aM 6 [0] m;simp only[↓aD];refine wQ m O O aa0 22 [1,2,1,2] ?_;simp only[↓aD,nA,eW,akC,ag,ah,aa,an];refine⟨by omega,?_⟩;intro u m;exact aY O ⟨_,O,((m.b 2 O).full adR yL)⟩ ⟨_,O,m.ext,O⟩
 ·
  apply aL 3 [0] m;simp only[↓aD];refine mq m aF (by kernel_rfl) (ql O (fun u m=>((m.b 6 O).full aH aA)) ?_);simp only[zz];refine ql O (fun u m=>((m.b 5 O).full aH aA)) ?_;simp only[zz];refine kR O O mO ?_;simp only[zz];refine ql O (fun u m=>((m.b 4 O).full aH aA)) ?_;simp only[zz];refine ql O (fun u m=>((m.b 3 O).full aH aA)) ?_;simp only[zz];refine kR O O mO ?_;simp only[zz];refine kR O O (Bl Bv.of Bv.of) (aK aC (bN ?_));intro u m;apply bF 15 [4,1,0] m;simp only[↓aD];refine⟨by omega,?_⟩;refine aB (Vy O O) ?_;apply iH 7 [0,0,0] m;simp only[↓aD,sF,jC,aa];intro g8 u m;refine wQ m O O (Na Bw.up) 21 [2,1,0] ?_;simp only[↓aD,nA,eW,ag,ah,aa,an];refine⟨by omega,?_⟩;intro u m;refine aB (Vz O O) ?_;apply iH 7 [0,0,0] m;simp only[↓aD,sF,jC,aa];intro g9 u m;refine wQ m O O (Na Bw.up) 21 [3,1,0] ?_;simp only[↓aD,nA,eW,ag,ah,aa,an];refine⟨by omega,?_⟩;intro u m;refine aB (Wa O O) ?_;apply iH 7 [0,0,0] m;simp only[↓aD,sF,jC,aa];intro g10 u m;refine wQ m O O (Na Bw.up) 22 [4,2,4,5] ?_;simp only[↓aD,nA,eW,akC,ag,ah,aa,an];refine⟨by omega,?_⟩;intro u m;exact aY O ⟨_,O,((m.b 5 O).full adR yL)⟩ ⟨_,O,m.ext,O⟩
theorem aa3{t:T3}[IT t]:gS prog 171 [tr t] (.bool (decide (bR t.normal.x=0∧bR t.normal.y=0∧bR t.normal.z=0))):=by
 intro w;refine⟨bO func171 (by kernel_rfl),?_⟩;have m:=Mem.refl w
 go_enter func171,ntmps171
 apply nM 15 [0,0,0,0,0] m;simp only[↓aD,dJ,aS,ag,ah,aa];intro g1;refine⟨by omega,?_⟩;intro u m;refine wQ m O O (tN (a:=t.a) (b:=t.b) (c:=t.a) (d:=t.c)) 1 [0] ?_;simp only[↓aD,Ch,aa];intro u m;refine aB (Xu O O) ?_;apply aM 3 [] m;simp only[↓aD];exact aY O O ⟨_,O,m.ext,O⟩
end Go.Proofs.YtfekpcimgncioaaGreatDoor
namespace Go.Proofs.YtfekpcimgncioaaGreatDoor
open Go.Proofs.Tryz
open Go.RowKit Go.Lith
set_option maxRecDepth 100000
attribute [local irreducible] au cq eF bJ cD Code.wp
end Go.Proofs.YtfekpcimgncioaaGreatDoor
namespace Go.Proofs.YtfekpcimgncioaaGreatDoor
open Go.Proofs.Tryz
open Go.RowKit Go.Lith
set_option maxRecDepth 100000
attribute [local irreducible] au cq eF bJ cD Code.wp
attribute [local congr] oG fS fT fU fV fW jR fX fY fZ gA gB gC gD gE gF gG gH eM eN gI gJ gL gM gN jT cW cX cA cU gK jS eO eP eQ gQ gR jU
variable{cap:Nat}
section
variable {fs gs:List T3} {ms:List Mv}
end
theorem age{n k:Int}[Iw n](h0:0<k)(h1:k<4611686018427387904):gS prog 220 [.int .i64 n,.int .i64 k] (.int .i64 (n%k)):=by
 intro w;refine⟨bO func220 (by kernel_rfl),?_⟩;have m:=Mem.refl w;have hb:=ajl (n:=n) h0
 go_enter func220,ntmps220
 apply iE 8 [0] m;simp only[↓aD];refine aB (dL O O (by omega) O) ?_;apply aM 3 [0] m;simp only[↓aD];refine⟨by omega,?_⟩;refine aB (dL O O (by omega) (afp h0)) ?_;apply aM 3 [] m;simp only[↓aD];exact aY O O ⟨_,O,m.ext,O⟩
theorem xO{n k:Int}[Iw n](h0:0<k)(h1:k<4611686018427387904):gS prog 43 [.int .i64 n,.int .i64 k] (.int .i64 (n%k)):=by
 intro w;refine⟨bO func43 (by kernel_rfl),?_⟩;have m:=Mem.refl w;have hb:=ajl (n:=n) h0
 go_enter func43,ntmps43
 apply iE 8 [0] m;simp only[↓aD];refine aB (dL O O (by omega) O) ?_;apply aM 3 [0] m;simp only[↓aD];refine⟨by omega,?_⟩;refine aB (dL O O (by omega) (afp h0)) ?_;apply aM 3 [] m;simp only[↓aD];exact aY O O ⟨_,O,m.ext,O⟩
theorem aa4{x y N:Nat}{A:Option Addr}{zs:List Int}(w:am)(hZ:uG w A N zs)(hx:x≤6)(hy:y≤6):dR prog 221 [.int .i64 (x:Int),.int .i64 (y:Int),.int .i64 10,.slice A N cap] w (fun v _=>v=pt (tU 10 zs x y)):=by
 refine⟨bO func221 (by kernel_rfl),?_⟩;have m:=Mem.refl w
 go_enter func221,ntmps221
 apply nM 15 [0,0] m;simp only[↓aD,dN,apm];intro g1 u m;refine bK O ?_ ?_<;>intro hc1
 ·
  have hi:(y*7+x)%N<N:=Nat.mod_lt _ (by omega);obtain⟨z,hz,hzI,a,rfl,hcell⟩:=hZ.get hi;have hz6:=tF (n:=z) (m:=64) (by decide);apply aL 8 [0] m;simp only[↓aD,apm];refine⟨by omega,?_⟩;refine aB (dL O O (by omega) (Xl (k:=y*7+x))) (aB (aG Cg cN O O (Int.natCast_nonneg _) (Int.ofNat_lt.2 hi) (rB (ai _))) ?_);simp only[zz];refine aQ O (lies1 (m.ext.cell hcell) bT) ?_;simp only[zz];refine wQ m O O (age (n:=z) (k:=64) (by decide) (by decide)) 16 [0] ?_;simp only[↓aD,xJ,aS,aa];refine⟨by omega,?_⟩;intro u m;refine aY O ⟨_,O,((m.b 0 O).full aH aA)⟩ ?_;try simp only[zD,zE]
  exact⟨_,O,m.ext,by simp only[pt,tU,ajn hZ.len hz]⟩
 ·
  apply Wi 15 [0] m;simp only[↓aD,xJ,aS,an,aa];refine⟨by omega,?_⟩;intro u m;refine aY O ⟨_,O,((m.b 0 O).full aH aA)⟩ ?_;try simp only[zD,zE]
  exact⟨_,O,m.ext,by simp[pt,tU,anb hZ.len hc1]⟩
theorem Ie{a b c d:P3}(w:am):dR prog 222 [pt a,pt b,pt c,pt d] w (TS 39 (Cb a b c d) w):=by
 refine⟨bO func222 (by kernel_rfl),?_⟩;have m:=Mem.refl w
 go_enter func222,ntmps222
 apply nM 18 [3,2,1,3,1,0,0] m;simp only[↓aD,aS,xK,aa];intro g1 g2 g3 g4 u m;refine Fs O O ?_;intro u g5 e_ h_ k_;replace m:=m.newB e_ h_ k_;apply aM 3 [] m;simp only[↓aD];exact aY O O ⟨_,O,m.ext,⟨_,_,_,O,O,m.bo 0 O O (jO O)⟩⟩
theorem aoo{n0:Int}[Iw n0]{N:Nat}{A:Option Addr}{zs:List Int}(w:am)(hZ:uG w A N zs):dR prog 147 [.int .i64 n0,.int .i64 10,.slice A N cap] w (TS 39 (Lp 10 zs (1+n0%6).toNat) w):=by
 refine⟨bO func147 (by kernel_rfl),?_⟩;have m:=Mem.refl w;have hb:=tF (n:=n0) (m:=6) (by decide);obtain⟨q,hq⟩:∃q:Nat,q=(1+n0%6).toNat:=⟨_,rfl⟩
 rw[←hq];have hq2:1+n0%6=(q:Int):=by omega
 go_enter func147,ntmps147
 apply iE 7 [0] m;simp only[↓aD];refine wQ m O O (age (n:=n0) (k:=6) (by decide) (by decide)) 3 [] ?_;simp only[↓aD];refine⟨by omega,?_⟩;intro u m;rw[hq2];apply bF 2 [0] m;simp only[↓aD];refine aB aJ ?_;replace m:=m.nilO 39 9;apply aM 7 [0] m;simp only[↓aD];refine cP [7,8] [9,10,11,12,13,17,18,19,20,21,22,23,24,25,26,27,28,29,30,31,32,33,34,35,36,37,38,39,40,41,42,43,44,45,46,47,48,49,50,51,52,53,54,55,56,57] (fun n vs wl=>∃(A1:Option Addr) (cap1 y:Nat),vs=[.slice A1 (gT 10 zs q y 0).length cap1,.int .i64 (y:Int)]∧Mem w wl [oI 39 9 A1 (gT 10 zs q y 0).length cap1 ((gT 10 zs q y 0).flatMap aP)]∧(y≤q)∧(n=q-y)) ?_ ?_
 ·
  exact⟨_,none,0,0,O,m,bw _,O⟩
 ·
  intro n vs wr hI u K1 hK1;obtain⟨A1,cap1,y,rfl,m,hy,hn⟩:=hI;simp only[zu,zF,zG];apply aL 7 [0,0] m;simp only[↓aD];refine bK O ?_ ?_<;>intro hc1
  ·
   apply aL 8 [0] m;simp only[↓aD];refine cP [7,9] [10,11,12,13,22,23,24,25,26,27,28,29,30,31,32,33,34,35,36,37,38,39,40,41,42,43,44,45,46,47,48,49,50,51,52,53,54,55,56,57] (fun n vs wl=>∃(A1:Option Addr) (cap1 x:Nat),vs=[.slice A1 (gT 10 zs q y x).length cap1,.int .i64 (x:Int)]∧Mem w wl [oI 39 9 A1 (gT 10 zs q y x).length cap1 ((gT 10 zs q y x).flatMap aP)]∧(x≤q)∧(n=q-x)) ?_ ?_
   ·
    exact⟨_,_,_,0,O,m,bw _,O⟩
   ·
    intro n vs wr hI u K2 hK2;obtain⟨A1,cap1,x,rfl,m,hx,hn2⟩:=hI;simp only[zu,zF,zG];apply aL 7 [0,0] m;simp only[↓aD];refine bK O ?_ ?_<;>intro hc2
    ·
     apply aL 9 [0] m;simp only[↓aD];refine dH m O O (aa4 (x:=x) (y:=y) _ (hZ.ext m.ext) (by omega) (by omega)) ?_;rintro v u m rfl;apply iH 10 [0,0] m;simp only[↓aD,dN,aS,aa];intro g1;refine⟨by omega,?_⟩;intro u m;refine dH m O O (aa4 (x:=x+1) (y:=y) _ (hZ.ext m.ext) (by omega) (by omega)) ?_;rintro v u m rfl;apply iH 11 [0,0] m;simp only[↓aD,dN,aS,aa];intro g2;refine⟨by omega,?_⟩;intro u m;refine dH m O O (aa4 (x:=x+1) (y:=y+1) _ (hZ.ext m.ext) (by omega) (by omega)) ?_;rintro v u m rfl;apply iH 10 [0,0] m;simp only[↓aD,dN,aS,aa];intro g3;refine⟨by omega,?_⟩;intro u m;refine dH m O O (aa4 (x:=x) (y:=y+1) _ (hZ.ext m.ext) (by omega) (by omega)) ?_;rintro v u m rfl;apply iH 9 [0,3,2,1,0,0] m;simp only[↓aD,dN,aS,aa];intro g4 u m;refine bB O O (Ie (a:=tU 10 zs x y) (b:=tU 10 zs (x+1) y) (c:=tU 10 zs (x+1) (y+1)) (d:=tU 10 zs x (y+1)) _) ?_;rintro v u e_ ⟨A2,cap2,_,rfl,rfl,h_⟩;replace m:=m.newO e_ h_;simp only[zz];refine cS m 5 O O bZ kS O (by decide) O O (m.o 0 O).own.1 (m.o 0 O).row (rF _) (by have:=Dh (s:=10) (zs:=zs) (n:=q) (y:=y) (x:=x) (by omega) (by omega) (by omega);show _+2≤_;omega) (by have:=Dh (s:=10) (zs:=zs) (n:=q) (y:=y) (x:=x) (by omega) (by omega) (by omega);show (_+2)*72≤_;omega) ?_;intro A1 cap1 u m;simp only[zF,zG] at m;rw[ajo,ajp] at m;rw[ajp];apply aM 8 [0] m;simp only[↓aD];refine⟨by omega,?_⟩;exact hK2 (q-(x+1)) _ _ (by omega) (by kernel_rfl) ⟨_,_,x+1,O,(m.sel [false,false,false,false,false,true]),by omega,O⟩
    ·
     have hxq:x=q:=by omega
     rw[hxq,aae] at m ⊢;apply aL 7 [0] m;simp only[↓aD];refine⟨by omega,?_⟩;exact hK1 (q-(y+1)) _ _ (by omega) (by kernel_rfl) ⟨_,_,y+1,O,m,by omega,O⟩
  ·
   have hyq:y=q:=by omega
   rw[hyq,An] at m ⊢;apply aL 7 [] m;simp only[↓aD];exact aY O O ⟨_,O,m.ext,⟨_,_,_,O,O,(m.o 0 O)⟩⟩
end Go.Proofs.YtfekpcimgncioaaGreatDoor
namespace Go.Proofs.YtfekpcimgncioaaGreatDoor
open Go.Proofs.Tryz
open Go.RowKit Go.Lith
set_option maxRecDepth 100000
attribute [local irreducible] au cq eF bJ cD Code.wp
end Go.Proofs.YtfekpcimgncioaaGreatDoor
namespace Go.Proofs.YtfekpcimgncioaaGreatDoor
open Go.Proofs.Tryz
open Go.RowKit Go.Lith
set_option maxRecDepth 100000
attribute [local irreducible] au cq eF bJ cD Code.wp
attribute [local congr] oG fS fT fU fV fW jR fX fY fZ gA gB gC gD gE gF gG gH eM eN gI gJ gL gM gN jT cW cX cA cU gK jS eO eP eQ gQ gR jU
variable{cap N:Nat}
theorem acG{w0 w:am}{S:List (Option Nat)}{E:TypeId}{g n k:Nat}{t:T3}{ts:List T3}(h:Ow w0 w S E 9 (some ⟨g,0,none⟩) n cap (ts.flatMap aP))(ht:ts[k]? = some t):mE w ⟨g,k*9,none⟩ (aP t):=by
 have:=h.tri ht;rw[gV,ap] at this;exact this
theorem arn{p:P3}(w:am)(hp:Sm 100 p):dR prog 219 [pt p,.int .i64 8] w (TS 39 (Dg p 8) w):=by
 refine⟨bO func219 (by kernel_rfl),?_⟩;have m:=Mem.refl w;have hp1:=hp.1;have hp2:=hp.2.1;have hp3:=hp.2.2
 go_enter func219,ntmps219
 apply nM 8 [] m;simp only[↓aD,aqY];intro g1 g2 u m;apply bF 24 [9,1,1,0] m;simp only[↓aD,jI,eW,aa];refine⟨by omega,?_⟩;refine aB (dL (m:=0) (n:=2) (r:=0) O O (by decide) (by decide)) ?_;apply aM 6 [1,0] m;simp only[↓aD,jJ,eW,fg,aa];refine⟨by omega,?_⟩;refine aB (mV (m:=0) (n:=2) (r:=0) O O (by decide) (by decide)) (aB (dL (m:=0) (n:=2) (r:=0) O O (by decide) (by decide)) ?_);apply aM 6 [1,0] m;simp only[↓aD,kJ,eW,fg,aa];refine⟨by omega,?_⟩;refine aB (mV (m:=0) (n:=4) (r:=0) O O (by decide) (by decide)) ?_;apply iH 15 [0] m;simp only[↓aD,xJ,rU,aS,fg,aa,ag,ah,an];refine⟨by omega,?_⟩;intro u m;apply bF 14 [1,1,0] m;simp only[↓aD,jI,eW,aa];refine⟨by omega,?_⟩;refine aB (dL (m:=1) (n:=2) (r:=1) O O (by decide) (by decide)) ?_;apply aM 6 [1,0] m;simp only[↓aD,jJ,eW,fg,aa];refine⟨by omega,?_⟩;refine aB (mV (m:=1) (n:=2) (r:=0) O O (by decide) (by decide)) (aB (dL (m:=0) (n:=2) (r:=0) O O (by decide) (by decide)) ?_);apply aM 6 [1,0] m;simp only[↓aD,kJ,eW,fg,aa];refine⟨by omega,?_⟩;refine aB (mV (m:=1) (n:=4) (r:=0) O O (by decide) (by decide)) ?_;apply iH 15 [0] m;simp only[↓aD,xJ,rU,aS,fg,aa,ag,ah,an];refine⟨by omega,?_⟩;intro u m;apply bF 14 [1,1,0] m;simp only[↓aD,jI,eW,aa];refine⟨by omega,?_⟩;refine aB (dL (m:=2) (n:=2) (r:=0) O O (by decide) (by decide)) ?_;apply aM 6 [1,0] m;simp only[↓aD,jJ,eW,fg,aa];refine⟨by omega,?_⟩;refine aB (mV (m:=2) (n:=2) (r:=1) O O (by decide) (by decide)) (aB (dL (m:=1) (n:=2) (r:=1) O O (by decide) (by decide)) ?_);apply aM 6 [1,0] m;simp only[↓aD,kJ,eW,fg,aa];refine⟨by omega,?_⟩;refine aB (mV (m:=2) (n:=4) (r:=0) O O (by decide) (by decide)) ?_;apply iH 15 [0] m;simp only[↓aD,xJ,rU,aS,fg,aa,ag,ah,an];refine⟨by omega,?_⟩;intro u m;apply bF 14 [1,1,0] m;simp only[↓aD,jI,eW,aa];refine⟨by omega,?_⟩;refine aB (dL (m:=3) (n:=2) (r:=1) O O (by decide) (by decide)) ?_;apply aM 6 [1,0] m;simp only[↓aD,jJ,eW,fg,aa];refine⟨by omega,?_⟩;refine aB (mV (m:=3) (n:=2) (r:=1) O O (by decide) (by decide)) (aB (dL (m:=1) (n:=2) (r:=1) O O (by decide) (by decide)) ?_);apply aM 6 [1,0] m;simp only[↓aD,kJ,eW,fg,aa];refine⟨by omega,?_⟩;refine aB (mV (m:=3) (n:=4) (r:=0) O O (by decide) (by decide)) ?_;apply iH 15 [0] m;simp only[↓aD,xJ,rU,aS,fg,aa,ag,ah,an];refine⟨by omega,?_⟩;intro u m;apply bF 14 [1,1,0] m;simp only[↓aD,jI,eW,aa];refine⟨by omega,?_⟩;refine aB (dL (m:=4) (n:=2) (r:=0) O O (by decide) (by decide)) ?_;apply aM 6 [1,0] m;simp only[↓aD,jJ,eW,fg,aa];refine⟨by omega,?_⟩;refine aB (mV (m:=4) (n:=2) (r:=2) O O (by decide) (by decide)) (aB (dL (m:=2) (n:=2) (r:=0) O O (by decide) (by decide)) ?_);apply aM 6 [1,0] m;simp only[↓aD,kJ,eW,fg,aa];refine⟨by omega,?_⟩;refine aB (mV (m:=4) (n:=4) (r:=1) O O (by decide) (by decide)) ?_;apply iH 15 [0] m;simp only[↓aD,xJ,rU,aS,fg,aa,ag,ah,an];refine⟨by omega,?_⟩;intro u m;apply bF 14 [1,1,0] m;simp only[↓aD,jI,eW,aa];refine⟨by omega,?_⟩;refine aB (dL (m:=5) (n:=2) (r:=1) O O (by decide) (by decide)) ?_;apply aM 6 [1,0] m;simp only[↓aD,jJ,eW,fg,aa];refine⟨by omega,?_⟩;refine aB (mV (m:=5) (n:=2) (r:=2) O O (by decide) (by decide)) (aB (dL (m:=2) (n:=2) (r:=0) O O (by decide) (by decide)) ?_);apply aM 6 [1,0] m;simp only[↓aD,kJ,eW,fg,aa];refine⟨by omega,?_⟩;refine aB (mV (m:=5) (n:=4) (r:=1) O O (by decide) (by decide)) ?_;apply iH 15 [0] m;simp only[↓aD,xJ,rU,aS,fg,aa,ag,ah,an];refine⟨by omega,?_⟩;intro u m;apply bF 14 [1,1,0] m;simp only[↓aD,jI,eW,aa];refine⟨by omega,?_⟩;refine aB (dL (m:=6) (n:=2) (r:=0) O O (by decide) (by decide)) ?_;apply aM 6 [1,0] m;simp only[↓aD,jJ,eW,fg,aa];refine⟨by omega,?_⟩;refine aB (mV (m:=6) (n:=2) (r:=3) O O (by decide) (by decide)) (aB (dL (m:=3) (n:=2) (r:=1) O O (by decide) (by decide)) ?_);apply aM 6 [1,0] m;simp only[↓aD,kJ,eW,fg,aa];refine⟨by omega,?_⟩;refine aB (mV (m:=6) (n:=4) (r:=1) O O (by decide) (by decide)) ?_;apply iH 15 [0] m;simp only[↓aD,xJ,rU,aS,fg,aa,ag,ah,an];refine⟨by omega,?_⟩;intro u m;apply bF 14 [1,1,0] m;simp only[↓aD,jI,eW,aa];refine⟨by omega,?_⟩;refine aB (dL (m:=7) (n:=2) (r:=1) O O (by decide) (by decide)) ?_;apply aM 6 [1,0] m;simp only[↓aD,jJ,eW,fg,aa];refine⟨by omega,?_⟩;refine aB (mV (m:=7) (n:=2) (r:=3) O O (by decide) (by decide)) (aB (dL (m:=3) (n:=2) (r:=1) O O (by decide) (by decide)) ?_);apply aM 6 [1,0] m;simp only[↓aD,kJ,eW,fg,aa];refine⟨by omega,?_⟩;refine aB (mV (m:=7) (n:=4) (r:=1) O O (by decide) (by decide)) ?_;apply iH 15 [0] m;simp only[↓aD,xJ,rU,aS,fg,aa,ag,ah,an];refine⟨by omega,?_⟩;intro u m;apply bF 8 [2] m;simp only[↓aD];refine⟨by omega,?_⟩;change Mem w _ [bI g2 [.int .i64 (dB p 8 0).x,.int .i64 (dB p 8 0).y,.int .i64 (dB p 8 0).z,.int .i64 (dB p 8 1).x,.int .i64 (dB p 8 1).y,.int .i64 (dB p 8 1).z,.int .i64 (dB p 8 2).x,.int .i64 (dB p 8 2).y,.int .i64 (dB p 8 2).z,.int .i64 (dB p 8 3).x,.int .i64 (dB p 8 3).y,.int .i64 (dB p 8 3).z,.int .i64 (dB p 8 4).x,.int .i64 (dB p 8 4).y,.int .i64 (dB p 8 4).z,.int .i64 (dB p 8 5).x,.int .i64 (dB p 8 5).y,.int .i64 (dB p 8 5).z,.int .i64 (dB p 8 6).x,.int .i64 (dB p 8 6).y,.int .i64 (dB p 8 6).z,.int .i64 (dB p 8 7).x,.int .i64 (dB p 8 7).y,.int .i64 (dB p 8 7).z] _,_] at m;apply bF 9 [0,0,0,0,0] m;simp only[↓aD,rU,aS,ag,ah,aa];refine⟨by omega,?_⟩;refine bB O O (Ie (a:=dB p 8 0) (b:=dB p 8 2) (c:=dB p 8 3) (d:=dB p 8 1) _) ?_;rintro v u e_ ⟨A1,cap1,_,rfl,rfl,h_⟩;replace m:=m.newO e_ h_;apply aM 13 [1,1,1,1,0] m;simp only[↓aD,rU,aS,ag,ah,aa];refine⟨by omega,?_⟩;refine bB O O (Ie (a:=dB p 8 4) (b:=dB p 8 5) (c:=dB p 8 7) (d:=dB p 8 6) _) ?_;rintro v u e_ ⟨A2,cap2,_,rfl,rfl,h_⟩;replace m:=m.newO e_ h_;simp only[zz];refine cS m 1 O O bZ kS O (by decide) O O (m.o 0 O).own.1 (m.o 0 O).row (rF _) (jO O) (jO O) ?_;intro A1 cap1 u m;simp only[zF,zG] at m;apply aM 13 [2,2,2,2,0] m;simp only[↓aD,rU,aS,ag,ah,aa];refine⟨by omega,?_⟩;refine bB O O (Ie (a:=dB p 8 0) (b:=dB p 8 1) (c:=dB p 8 5) (d:=dB p 8 4) _) ?_;rintro v u e_ ⟨A3,cap3,_,rfl,rfl,h_⟩;replace m:=m.newO e_ h_;simp only[zz];refine cS m 2 O O bZ kS O (by decide) O O (m.o 0 O).own.1 (m.o 0 O).row (rF _) (jO O) (jO O) ?_;intro A1 cap1 u m;simp only[zF,zG] at m;apply aM 13 [3,3,3,3,0] m;simp only[↓aD,rU,aS,ag,ah,aa];refine⟨by omega,?_⟩;refine bB O O (Ie (a:=dB p 8 2) (b:=dB p 8 6) (c:=dB p 8 7) (d:=dB p 8 3) _) ?_;rintro v u e_ ⟨A4,cap4,_,rfl,rfl,h_⟩;replace m:=m.newO e_ h_;simp only[zz];refine cS m 3 O O bZ kS O (by decide) O O (m.o 0 O).own.1 (m.o 0 O).row (rF _) (jO O) (jO O) ?_;intro A1 cap1 u m;simp only[zF,zG] at m;apply aM 13 [4,4,4,4,0] m;simp only[↓aD,rU,aS,ag,ah,aa];refine⟨by omega,?_⟩;refine bB O O (Ie (a:=dB p 8 0) (b:=dB p 8 4) (c:=dB p 8 6) (d:=dB p 8 2) _) ?_;rintro v u e_ ⟨A5,cap5,_,rfl,rfl,h_⟩;replace m:=m.newO e_ h_;simp only[zz];refine cS m 4 O O bZ kS O (by decide) O O (m.o 0 O).own.1 (m.o 0 O).row (rF _) (jO O) (jO O) ?_;intro A1 cap1 u m;simp only[zF,zG] at m;apply aM 13 [5,5,5,5,0] m;simp only[↓aD,rU,aS,ag,ah,aa];refine⟨by omega,?_⟩;refine bB O O (Ie (a:=dB p 8 1) (b:=dB p 8 3) (c:=dB p 8 7) (d:=dB p 8 5) _) ?_;rintro v u e_ ⟨A6,cap6,_,rfl,rfl,h_⟩;replace m:=m.newO e_ h_;simp only[zz];refine cS m 5 O O bZ kS O (by decide) O O (m.o 0 O).own.1 (m.o 0 O).row (rF _) (jO O) (jO O) ?_;intro A1 cap1 u m;simp only[zF,zG] at m;apply aM 3 [] m;simp only[↓aD];exact aY O O ⟨_,O,m.ext,⟨_,_,_,O,O,((m.o 5 O)).as (by simp only[Dg,be])⟩⟩
theorem alw{b:Nat}(w:am)(hb:b<134217728):dR prog 146 [.int .i64 (b:Int),.int .i64 8,.agg #[.int .i64 4,.int .i64 5,.int .i64 6]] w (TS 39 (ag5 b) w):=by
 refine⟨bO func146 (by kernel_rfl),?_⟩;have m:=Mem.refl w;have hb0:=hb
 go_enter func146,ntmps146
 apply nM 7 [0] m;simp only[↓aD];intro g1 u m;refine aB aJ ?_;replace m:=m.nilO 39 9;apply aM 7 [0] m;simp only[↓aD];refine cP [7,8] [9,10,11,12,13,14,15,16,17,18,19,20,21,22,23,24,25,26,27,28,29,30,31,32,33,34,35,36,37,38,39,40,41,42,43,44,45,46,47,48,49,50,51,52,53,54,55,56,57,58,59,60,61,62,63,64,65,66,67,68,69,70,71,72,73,74,75,76,77,78,79,80,81,82,83,84,85,86,87,88,89,90,91,92,93,94,95,96,97,98,99,100,101,102,103,104,105,106,107,108,109,110,111,112,113,114,115,116,117,118,119,120,121,122,123,124,125,126,127,128,129,130,131,132,133,134,135,136,137,138,139] (fun n vs wl=>∃(A1:Option Addr) (cap1 k:Nat),vs=[.slice A1 (jM b k 0).length cap1,.int .i64 (k:Int)]∧Mem w wl [oI 39 9 A1 (jM b k 0).length cap1 ((jM b k 0).flatMap aP),bI g1 [.int .i64 4,.int .i64 5,.int .i64 6] 30]∧(k≤27)∧(n=27-k)) ?_ ?_
 ·
  exact⟨_,none,0,0,O,m,bw _,O⟩
 ·
  intro n vs wr hI u K1 hK1;obtain⟨A1,cap1,k,rfl,m,hk,hn⟩:=hI;simp only[zu,zF,zG];apply aL 6 [0,0] m;simp only[↓aD];refine bK O ?_ ?_<;>intro hc1
  ·
   apply aL 6 [0] m;simp only[↓aD];refine aB (dL O O (by omega) (Xl (k:=k) (c:=3))) ?_;apply aM 5 [0] m;simp only[↓aD];refine aB (mV O O (by omega) (acl (n:=3) (by omega))) ?_;simp only[zz];refine aB (dL O O (by omega) (Xl (k:=k / 3) (c:=3))) ?_;apply aM 5 [0] m;simp only[↓aD];refine aB (mV O O (by omega) (acl (n:=9) (by omega))) ?_;apply aM 7 [0] m;simp only[↓aD];refine aB (lT akB iY O (kQ (by omega) (by omega))) ?_;simp only[zz];refine aB (oW O O (by omega) (ast (by omega) (by omega))) (aB (yD O O (asu (ajm hb))) ?_);apply aM 2 [0,0] m;simp only[↓aD];refine bK O ?_ ?_<;>intro hc2
   ·
    have hv:Pb b k=false:=by unfold Pb;exact decide_eq_false (by have:=hc2;simp only[ai] at this;omega)
    rw[ag6 hv] at m ⊢;apply aL 6 [0] m;simp only[↓aD];refine⟨by omega,?_⟩;exact hK1 (27-(k+1)) _ _ (by omega) (by kernel_rfl) ⟨_,_,k+1,O,m,by omega,O⟩
   ·
    have hv:Pb b k=true:=by unfold Pb;exact decide_eq_true (by have:=hc2;simp only[ai] at this;omega)
    apply aL 14 [1,1] m;simp only[↓aD,jI,eW,jJ,aa];refine⟨by omega,?_⟩;apply zvn 9 [1] m;simp only[↓aD,kJ,eW,xJ,dN,aa];intro g2;refine⟨by omega,?_⟩;intro u m;apply zvn 6 [0,0,0] m;simp only[↓aD,aS,aa];intro u m;refine bB O O (arn (p:=vP k) _ (apb (by omega))) ?_;rintro v u e_ ⟨A2,cap2,_,rfl,rfl,h_⟩;replace m:=m.newO e_ h_;obtain⟨gc,rfl⟩:=(m.o 0 rfl).some (by rw[vE];decide);rw[vE] at m ⊢;apply aM 6 [] m;simp only[↓aD,Ch,aa];apply bF 3 [] m;simp only[↓aD,Ch,aa];apply bF 2 [] m;simp only[↓aD,Ch,aqU,aa];apply zvn 2 [0] m;simp only[↓aD,aqT,aqS,aa];intro g3 u m;apply bF 6 [0] m;simp only[↓aD];refine cP [7,15] [16,17,18,19,66,67,68,69,70,71,72,73,74,75,76,77,78,79,80,81,82,83,84,85,86,87,88,89,90,91,92,93,94,95,96,97,98,99,100,101,102,103,104,105,106,107,108,109,110,111,112,113,114,115,116,117,118,119,120,121,122,123,124,125,126,127,128,129,130,131,132,133,134,135,136,137,138,139] (fun n vs wl=>∃(A1:Option Addr) (cap1 f:Nat),vs=[.slice A1 (jM b k f).length cap1,.int .i64 (f:Int)]∧Mem w wl [bI g3 Fm 270,oI 39 9 (some ⟨gc,0,none⟩) 12 cap2 ((Dg (vP k) 8).flatMap aP),oI 39 9 A1 (jM b k f).length cap1 ((jM b k f).flatMap aP),bI g1 [.int .i64 4,.int .i64 5,.int .i64 6] 30]∧(f≤6)∧(n=6-f)) ?_ ?_
    ·
     exact⟨_,_,_,0,O,(m.sel [true,true,false,true,true]),bw _,O⟩
    ·
     intro n vs wr hI u K2 hK2;obtain⟨A1,cap1,f,rfl,m,hf6,hn2⟩:=hI;simp only[zu,zF,zG];apply aL 6 [0,0] m;simp only[↓aD];refine bK O ?_ ?_<;>intro hc3
     ·
      have hf:f<6:=by omega
      have hs:=asy f;obtain⟨t,u0,ht,hu,hpr⟩:=aju (n:=k) hf;apply aL 7 [0] m;simp only[↓aD];refine aB (aN underlying270 yL O O (by omega) (by omega) (mR (ai _))) ?_;apply aM 1 [0] m;simp only[↓aD,nA,ag,ah,aa];refine⟨by omega,?_⟩;refine aQ O ((m.b 0 O).lies1 (i:=f*3) bT (asv hf)) ?_;simp only[zz];apply aM 7 [0] m;simp only[↓aD];refine⟨by omega,?_⟩;refine aB (aN underlying270 yL O O (by omega) (by omega) (mR (ai _))) ?_;apply aM 1 [0] m;simp only[↓aD,nA,ag,ah,aa];refine⟨by omega,?_⟩;refine aQ O ((m.b 0 O).lies1 (i:=f*3+1) bT (asw hf)) ?_;simp only[zz];apply aM 7 [0] m;simp only[↓aD];refine⟨by omega,?_⟩;refine aB (aN underlying270 yL O O (by omega) (by omega) (mR (ai _))) ?_;apply aM 1 [0] m;simp only[↓aD,nA,ag,ah,aa];refine⟨by omega,?_⟩;refine aQ O ((m.b 0 O).lies1 (i:=f*3+2) bT (asx hf)) ?_;simp only[zz];apply aM 8 [0,0] m;simp only[↓aD];refine⟨by omega,?_⟩;refine dW O (fun hb=>aC) (dW O (fun hb=>tQ (aX hb O) O) (aB (cE O O O) ?_));apply aM 1 [0] m;simp only[↓aD];refine dW O (fun hb=>aC) (dW O (fun hb=>Qs (aX hb O) O) (aB (cE O O O) ?_));apply aM 1 [0] m;simp only[↓aD];refine dW O (fun hb=>aC) (dW O (fun hb=>tQ (aX hb O) O) (aB (cE O O O) ?_));apply aM 1 [0] m;simp only[↓aD];refine dW O (fun hb=>aC) (dW O (fun hb=>Qs (aX hb O) O) (aB (cE O O O) ?_));apply aM 1 [0] m;simp only[↓aD];refine dW O (fun hb=>aC) (dW O (fun hb=>tQ (aX hb O) O) (aB (cE O O O) ?_));apply aM 7 [0] m;simp only[↓aD];refine eL O (fun hb=>aC) (eL O (fun hb=>aC) ?_);simp only[zz];refine eL O (fun hb=>sD (aX hb O) O (bH (by omega) (by omega))) (eL O (fun hb=>aC) ?_);simp only[zz];refine eL O (fun hb=>fH (aX hb O) (aX hb O) (bH (by omega) (by omega))) ?_;simp only[zz];refine eL O (fun hb=>sD (aX hb O) O (bH (by omega) (by omega))) (eL O (fun hb=>aC) ?_);simp only[zz];refine eL O (fun hb=>fH (aX hb O) (aX hb O) (bH (by omega) (by omega))) (eL O (fun hb=>lT akB iY (aX hb O) (kQ (by have h:=vin hb;omega) (by have h:=vin hb;omega))) ?_);simp only[zz];refine eL O (fun hb=>oW (aX hb O) (aX hb O) (by have h:=vin hb;omega) (ast (by have h:=vin hb;omega) (by have h:=vin hb;omega))) (eL rfl (fun hb=>yD (aX hb rfl) rfl (asu (ajm hb0))) (eL rfl (fun hb=>Qt (aX hb rfl) rfl) (aB (eG rfl rfl rfl) ?_)));simp only[zz];apply aM 1 [0] m;simp only[↓aD];refine lV O ?_ ?_<;>intro hc4
      ·
       have hvf:=(abO (b:=b) (n:=k) (f:=f)).symm.trans hc4;refine mh m [true,true,false,true] [(0,true),(1,true),(2,true),(3,true),(4,true),(6,true),(7,true),(8,true),(9,true),(10,true),(5,true),(11,true),(12,false),(13,false),(14,true)] aF (by kernel_rfl) (cB (fun _ _ _ _ _ h=>h)) (ol:=?_) ?hol ?_
       case hol=>simp only[zw,zQ,zR];try rfl
       intro u m;refine Oc 4 [] ?_;simp only[↓aD];refine⟨by omega,?_⟩;refine cF (aG bZ aR O O (by omega) (by omega) (mR (show _=2*f by omega))) (Oc 4 [] ?_);simp only[↓aD];refine⟨by omega,?_⟩;refine cF (aG bZ aR O O (by omega) (by omega) (mR (show _=2*f+1 by omega))) ?_;simp only[zz];refine nT O (fun u m=>((acG (m.o 1 O) ht).lies dK aR)) ?_;simp only[zz];refine nT O (fun u m=>((acG (m.o 1 O) hu).lies dK aR)) ?_;simp only[zz];refine cG (Fs O O ?_);intro u g4 e_ h_ k_;replace m:=m.newB e_ h_ k_;refine aI ⟨m.sel [false,true,true,false,true],?_⟩;refine cG ?_;simp only[zz];refine cS m 3 O O bZ kS O (by decide) O O O (m.b 0 O).rowsO (nQ O) (by have:=Lr (b:=b) (n:=k) (f:=f) (by omega) (by omega);omega) (by have:=Lr (b:=b) (n:=k) (f:=f) (by omega) (by omega);omega) ?_;intro A1 cap1 u m;simp only[zF,zG] at m;rw[aha hpr hvf,afr hf hvf] at m;rw[afr hf hvf];refine aI ⟨m.sel [false,true,true,false,true],?_⟩;refine cF aJ (bY ?_);apply bF 6 [0] m;simp only[↓aD];refine⟨by omega,?_⟩;exact hK2 (6-(f+1)) _ _ (by omega) (by kernel_rfl) ⟨_,_,f+1,O,(m.sel [false,true,true,true,true]),by omega,O⟩
      ·
       have hvf:=(abO (b:=b) (n:=k) (f:=f)).symm.trans hc4;rw[←adJ hvf] at m ⊢;apply aL 7 [0] m;simp only[↓aD];refine⟨by omega,?_⟩;exact hK2 (6-(f+1)) _ _ (by omega) (by kernel_rfl) ⟨_,_,f+1,O,m,by omega,O⟩
     ·
      have hfq:f=6:=by omega
      rw[hfq,adI hv] at m ⊢;apply aL 7 [0] m;simp only[↓aD];refine⟨by omega,?_⟩;exact hK1 (27-(k+1)) _ _ (by omega) (by kernel_rfl) ⟨_,_,k+1,O,(m.sel [false,false,true,true]),by omega,O⟩
  ·
   have hkq:k=27:=by omega
   rw[hkq,Rp] at m ⊢;apply aL 7 [] m;simp only[↓aD];exact aY O O ⟨_,O,m.ext,⟨_,_,_,O,O,(m.o 0 O)⟩⟩
theorem aro{kind bits:Int}[Iw kind][Iw bits]{A:Option Addr}{zs:List Int}(w:am)(hZ:uG w A N zs):dR prog 87 [.int .i64 kind,.int .i64 bits,.slice A N cap] w (TS 39 (wZ kind bits zs) w):=by
 refine⟨bO func87 (by kernel_rfl),?_⟩;have m:=Mem.refl w;have hbb:=tF (n:=bits) (m:=134217728) (by decide);haveI:Iw (kind.tdiv 3):=⟨(abP (Iw.h (n:=kind))).2⟩
 go_enter func87,ntmps87
 apply iE 8 [0] m;simp only[↓aD];refine wQ m O O (xO (n:=kind) (k:=3) (by decide) (by decide)) 2 [0,0] ?_;simp only[↓aD];intro u m;refine bK O ?_ ?_<;>intro hc1
 ·
  apply aL 3 [0] m;simp only[↓aD];refine wQ m O O (xO (n:=bits) (k:=134217728) (by decide) (by decide)) 1 [0] ?_;simp only[↓aD,xJ,aa];intro u m;rw[show bits%134217728=(((bits%134217728).toNat:Nat):Int) by omega];refine bB O O (alw (b:=(bits%134217728).toNat) _ (by omega)) ?_;rintro v u e_ ⟨A1,cap1,_,rfl,rfl,h_⟩;replace m:=m.newO e_ h_;apply aM 3 [] m;simp only[↓aD];refine aY O O ?_;try simp only[zD,zE]
  exact⟨_,O,m.ext,by rw[wZ,if_pos hc1];exact⟨_,_,_,O,O,(m.o 0 O)⟩⟩
 ·
  apply aL 4 [0] m;simp only[↓aD];refine aB (mV O O (by omega) (abP (Iw.h (n:=kind))).1) ?_;apply aM 1 [0] m;simp only[↓aD];refine bB O O (aoo (n0:=kind.tdiv 3) _ (hZ.ext m.ext)) ?_;rintro v u e_ ⟨A1,cap1,_,rfl,rfl,h_⟩;replace m:=m.newO e_ h_;apply aM 3 [] m;simp only[↓aD];refine aY O O ?_;try simp only[zD,zE]
  exact⟨_,O,m.ext,by rw[wZ,if_neg hc1];exact⟨_,_,_,O,O,(m.o 0 O)⟩⟩
theorem arp{i:Nat}{L:Int}(h:((decide ((i:Int)<(N:Int))&&decide ((i:Int)<12))&&decide (0<L))=true):i<N∧i<12∧0<L:=by
 simp only[Bool.and_eq_true,decide_eq_true_eq] at h;omega
theorem auc{x y z:Bool}(h:((x&&y) && !z)=true):x=true∧y=true∧z=false:=by revert h;cases x <;> cases y <;> cases z <;> decide
theorem ahX{ts:List T3}{qs:List Q4}{NQ capQ:Nat}{A AQ:Option Addr}(w:am)(hT:cJ w A N ts)(hN:N≤100000)(hQ:Aq q4C 4 w AQ NQ qs)(hI:∀q∈qs,IQ q):dR prog 88 [.slice A N cap,.slice AQ NQ capQ] w (fun v w'=>∃us ms A7 c7 A8 c8 i,v=.tuple #[.slice A7 us.length c7,.slice A8 ms.length c8]∧Mem w w' [oI 55 6 A8 ms.length c8 (ms.flatMap bM),oI 39 9 A7 us.length c7 (us.flatMap aP)]∧i≤12∧Ml (aO ts) ts i us ms):=by
 refine⟨bO func88 (by kernel_rfl),?_⟩;have m:=Mem.refl w;obtain rfl:ts.length=N:=hT.len;have hbl:(aO ts).length≤1000000:=by have h1:=yJ (all:=aU ts) (aU ts) [];have h2:=nF ts;simp only[b_] at h1;unfold aO;omega
 go_enter func88,ntmps88
 apply iE 8 [0] m;simp only[↓aD];refine bB O O (akU _ (hT.ext m.ext) (by omega)) ?_;rintro v u e_ ⟨A6,c6,n6,hn6,rfl,h_⟩;replace m:=m.newO e_ h_;subst hn6;apply aM 4 [0] m;simp only[↓aD];refine Je bZ (c:=9) (by kernel_rfl)  ?_;intro u g1 e_ h_ k_;replace m:=m.newB e_ h_ k_;simp only[zz];replace m:=m.own 0 O (n:=0) (c:=9) O (jO O);simp only[zG] at m;apply aM 1 [0] m;simp only[↓aD];refine cS m 0 O O bZ kS O (by decide) O O (by rw[Ji,hT.len]) (cJ.cells (hT.ext m.ext)) (rF _) (by omega) (by omega) ?_;intro A7 cap7 u m;simp only[zF,zG] at m;rw[bv,ap] at m;rw[ap];apply aM 4 [0] m;simp only[↓aD];refine aB aJ ?_;replace m:=m.nilO 55 6;apply aM 7 [0] m;simp only[↓aD];refine cP [7,8,9] [10,11,12,13,14,15,16,17,18,19,20,21,27,28,29,30,31,32,33,34,35,36,37,38,39,40,41,42,43,44,45,46,47,48,49,50,51,52,53,54,55,56,57,58,59,60,61,62,63,64,65,66,67,68,69,70,71,72,73,74,75,76,77,78,79,80,81,82,83,84,85,86,87,88,89,90,91,92,93,94,95,96,97,98,99,100,101,102,103,104,105,106,107,108,109,110,111,112,113,114,115,116,117,118,119,120,121,122,123,124,125,126,127,128,129,130,131,132,133,134,135,136,137,138,139,140,141,142,143,144,145,146,147,148,149,150,151,152,153,154,155,156,157,158,159,160,161,162,163,164,165,166,167,168,169,170,171,172,173,174,175,176,177,178,179,180,181,182,183,184,185,186,187,188,189,190,191,192,193,194,195,196,197,198,199,200] (fun n vs wl=>∃(us:List T3) (ms:List Mv) (A7:Option Addr) (c7:Nat) (A8:Option Addr) (c8 i:Nat),vs=[.slice A7 us.length c7,.slice A8 ms.length c8,.int .i64 (i:Int)]∧Mem w wl [oI 55 6 A8 ms.length c8 (ms.flatMap bM),oI 39 9 A7 us.length c7 (us.flatMap aP),oI 56 6 A6 (aO ts).length c6 ((aO ts).flatMap bM)]∧(Ml (aO ts) ts i us ms)∧(i≤12)∧(n=12-i)) ?_ ?_
 ·
  exact⟨_,_,[],_,_,_,_,0,O,m,Ml.nil,bw _,O⟩
 ·
  intro n vs wr hI u K1 hK1;obtain⟨us,ms,A7,c7,A8,c8,i,rfl,m,hdv,hi,hn⟩:=hI;simp only[zu,zF,zG];apply aL 8 [0,0] m;simp only[↓aD,as4];refine dW O (fun hb=>aC) (dW O (fun hb=>tQ (aX hb O) O) (aB (cE O O O) ?_));apply aM 1 [0] m;simp only[↓aD];refine dW O (fun hb=>aC) (dW O (fun hb=>jD O bZ (aX hb O)) (dW O (fun hb=>Nr (aX hb O) O) (aB (cE O O O) ?_)));simp only[zz];apply aM 1 [0] m;simp only[↓aD];refine dC O ?_ ?_<;>intro hc1
  ·
   obtain⟨hi1,hi2,hi3⟩:=arp hc1;obtain⟨q,hq,aq,rfl,hrow⟩:=hQ.get (i:=i) (by omega);obtain⟨hqa,hqb,hqc,hqd⟩:=hI q (bn hq);haveI:Iw q.a:=⟨hqa⟩
   haveI:Iw q.b:=⟨hqb⟩
   haveI:Iw q.c:=⟨hqc⟩
   haveI:Iw q.d:=⟨hqd⟩
   haveI:Iw (q.b.tdiv 40):=⟨(akg hqb).2⟩
   have hlen:=hdv.len;have hpos:0<us.length:=by omega
   obtain⟨gO,rfl⟩:=(m.o 1 rfl).some hpos;obtain⟨k,hk,hkl⟩:=afs (q:=q.a) hpos;obtain⟨c,hc,hc3⟩:∃c:Nat,q.d%3=(c:Int)∧c<3:=afs (N:=3) (by decide);obtain⟨t,htk⟩:=ap7 hkl;have hb1:=tF (n:=q.b) (m:=40) (by decide);have hb3:=tF (n:=q.c) (m:=300) (by decide);apply aL 7 [0] m;simp only[↓aD];refine aB (aG Ug vK O O (by omega) (by omega) (bX (ai _))) ?_;apply aM 1 [0] m;simp only[↓aD,aet,ag,ah,aa];refine⟨by omega,?_⟩;refine aQ O (lies1 ((hrow.ext m.ext) 0 _ O) bT) ?_;simp only[zz];apply aM 2 [0] m;simp only[↓aD,mC];refine wQ m O O (xO (n:=q.a) (k:=(us.length:Int)) (by omega) (by omega)) 2 [] ?_;simp only[↓aD];intro u m;rw[hk];apply bF 4 [0] m;simp only[↓aD];refine aB (aG bZ aR O O (by omega) (by omega) (bX (ai _))) ?_;simp only[zz];refine aQ O (((m.o 1 O).tri htk).lies dK aR) ?_;simp only[zz];apply iH 2 [0] m;simp only[↓aD,nB,iG,aa];intro g2 u m;apply bF 2 [0] m;simp only[↓aD];refine pO 26 [0,1,2,3,4,5,6,7,8,9,10,11,12,13,14,15,16,17,18,19,20,21,22,23,24] [⟨25,12,30,[.int .i64 0,.int .i64 0,.int .i64 0]⟩] aF (by kernel_rfl) (al1 ⟨_,_,_,O,by kernel_rfl,_,eC,O⟩) (ol:=?_) ?hol ?_
   case hol=>simp only[zw,zQ,zR];try rfl
   intro u e_;replace m:=m.ext' e_;refine jF aC ?_;simp only[zz];refine jF (sD O O (bH (by omega) (by omega))) ?_;simp only[zz];refine jF (fH O O (bH (by omega) (by omega))) (jF aC (jF aC ?_));simp only[zz];refine jF (aG Ug vK O O (by omega) (by omega) (bX (ai _))) (jF (aN underlying191 cN O O (by decide) (by decide) O) ?_);simp only[zz];refine nU O (fun u e=>(lies1 ((hrow.ext (m.ext' e).ext) 1 _ O) bT)) ?_;simp only[zz];refine vD O O (xO (n:=q.b) (k:=40) (by decide) (by decide)) ?_;simp only[zz];refine jF (fH O O (bH (by omega) (by omega))) (jF aC (jF aC ?_));simp only[zz];refine jF (aG Ug vK O O (by omega) (by omega) (bX (ai _))) (jF (aN underlying191 cN O O (by decide) (by decide) O) ?_);simp only[zz];refine nU O (fun u e=>(lies1 ((hrow.ext (m.ext' e).ext) 1 _ O) bT)) ?_;simp only[zz];refine jF (mV O O (by omega) (akg (Iw.h (n:=q.b))).1) ?_;simp only[zz];refine vD O O (xO (n:=q.b.tdiv 40) (k:=200) (by decide) (by decide)) (jF aC (jF aC ?_));simp only[zz];refine jF (aG Ug vK O O (by omega) (by omega) (bX (ai _))) (jF (aN underlying191 cN O O (by decide) (by decide) O) ?_);simp only[zz];refine nU O (fun u e=>(lies1 ((hrow.ext (m.ext' e).ext) 2 _ O) bT)) ?_;simp only[zz];refine vD O O (xO (n:=q.c) (k:=300) (by decide) (by decide)) ?_;simp only[zz];refine jF (mG O O (bH (by omega) (by omega))) (jF (Lx O O O) (afl ?_));simp only[zz];refine mf1 m ?_;intro g3 u m;simp only[zJ,zK,zF,zG];refine cL m 0 O O O aA (jO O) O ?_;intro u m;simp only[zy,zx,bQ,zF,zG,aa] at m;refine aI ?_;obtain⟨p,hpe⟩:∃p,p=aqo i q:=⟨_,rfl⟩
   rw[show 100+50*(i:Int)+q.b%40=p.x by rw[hpe];rfl,show q.b.tdiv 40%200=p.y by rw[hpe];rfl,show q.c%300-50=p.z by rw[hpe];rfl] at m;have hpp:Yg i p:=by rw[hpe];exact anL i q
   clear hpe;apply bF 4 [0] m;simp only[↓aD];refine aB (aG Ug vK O O (by omega) (by omega) (bX (ai _))) ?_;apply aM 1 [0] m;simp only[↓aD,aet,ag,ah,aa];refine⟨by omega,?_⟩;refine aQ O (lies1 ((hrow.ext m.ext) 3 _ O) bT) ?_;simp only[zz];refine wQ m O O (xO (n:=q.d) (k:=3) (by decide) (by decide)) 2 [] ?_;simp only[↓aD];intro u m;rw[hc];apply bF 3 [0] m;simp only[↓aD];refine aB (aN dA aA O O (by omega) (by omega) (bX (ai _))) ?_;simp only[zz];refine aQ O ((mE.cor (c:=c) (show mE _ _ (aP t) from ((m.b 1 O)).row 0) (by omega)).lies aH aA) ?_;simp only[zz];apply iH 5 [0] m;simp only[↓aD,dN,aS,aa];intro g4 u m;apply bF 2 [0] m;simp only[↓aD];refine⟨by omega,?_⟩;refine aB (dL O O (by omega) (Xl (k:=c+1))) ?_;simp only[zz];refine aB (aN dA aA O O (by omega) (by omega) (bX (ai _))) ?_;simp only[zz];refine aQ O ((mE.cor (c:=(c+1)%3) (show mE _ _ (aP t) from ((m.b 2 O)).row 0) (by omega)).lies aH aA) ?_;simp only[zz];apply iH 5 [0] m;simp only[↓aD,dN,aS,aa];intro g5 u m;apply bF 2 [0] m;simp only[↓aD];refine⟨by omega,?_⟩;refine aB (dL O O (by omega) (Xl (k:=c+2))) ?_;simp only[zz];refine aB (aN dA aA O O (by omega) (by omega) (bX (ai _))) ?_;simp only[zz];refine aQ O ((mE.cor (c:=(c+2)%3) (show mE _ _ (aP t) from ((m.b 3 O)).row 0) (by omega)).lies aH aA) ?_;simp only[zz];apply iH 5 [0] m;simp only[↓aD,dN,aS,aa];intro g6 u m;apply bF 3 [1,2,0] m;simp only[↓aD,aS];refine dH m O O (aq1 (p:=(t.cor ((c+1)%3))) (q:=(t.cor c)) _ ((m.o 6 O).lat ap8 (by decide)) (by omega)) ?_;rintro v u m rfl;apply aM 6 [2,0] m;simp only[↓aD,aS];refine dH m O O (ak1 (p:=(t.cor c)) _ ((m.o 7 O).lat Cj (by decide)) (by omega)) ?_;rintro v u m rfl;apply aM 1 [0] m;simp only[↓aD];refine dW O (fun hb=>aC) ?_;simp only[zz];refine fO O (fun hb=>aZ O ((m.b 1 O).full aH aA)) (an0 m O O (fun hb=>by simp only[List.toList_toArray,bi,db,zA,zB,zC,zD,zE,hb,lN];rfl) (fun hb=>ak1 (p:=(t.cor ((c+1)%3))) _ ((m.o 7 rfl).lat Cj (by decide)) (by omega)) ?_);intro u m;refine aB (cE O O O) ?_;apply aM 7 [0] m;simp only[↓aD];refine aB (aG Ug vK O O (by omega) (by omega) (bX (ai _))) ?_;apply aM 1 [0] m;simp only[↓aD,aet,ag,ah,aa];refine⟨by omega,?_⟩;refine aQ O (lies1 ((hrow.ext m.ext) 3 _ O) bT) ?_;simp only[zz];refine aB (dL O O (by omega) O) ?_;apply aM 2 [0,0] m;simp only[↓aD];refine dW O (fun hb=>aC) (dW O (fun hb=>Qs (aX hb O) O) (aB (cE O O O) ?_));apply aM 1 [0] m;simp only[↓aD];refine dW O (fun hb=>aC) (dW O (fun hb=>mH (aX hb O)) (aB (cE O O O) ?_));apply aM 1 [0] m;simp only[↓aD];refine dC O ?_ ?_<;>intro hc2
   ·
    obtain⟨h2a,h2b,h2c⟩:=auc hc2;obtain⟨hop,hbn⟩ | ⟨j,o,x,hop,hto,hfx,hbx⟩:=ahI us (t.cor ((c+1)%3)) (t.cor c)
    · rw[hop] at h2b;simp at h2b
    rw[hop];have hjl:=(ax.1 hto).1;have hnb:¬(wH (aO ts) (t.cor c)=true∧wH (aO ts) (t.cor ((c+1)%3))=true):=fun h=>by have h3:=hc2;rw[h.1,h.2] at h3;simp at h3
    apply aL 4 [0] m;simp only[↓aD];refine aB (aG bZ aR O O (by omega) (by omega) (bX (ai _))) ?_;simp only[zz];refine aQ O (((m.o 6 O).tri hto).lies dK aR) ?_;simp only[zz];apply iH 2 [0] m;simp only[↓aD,nB,iG,aa];intro g7 u m;apply zvn 6 [0] m;simp only[↓aD,dJ,aS,dN,ag,ah,aa];intro g8;refine⟨by omega,?_⟩;intro u m;apply zvn 10 [0,4] m;simp only[↓aD,aS,aa];intro u m;apply bF 11 [1,0] m;simp only[↓aD];refine⟨by omega,?_⟩;refine mq m aF (by kernel_rfl) (iB 4 [1,4] ?_);simp only[↓aD,dJ,aS,ag,ah,aa];refine⟨by omega,?_⟩;refine aK (fR O O) (aK aC (bP O (fun hb=>aC) (bP O (fun hb=>aN dA aA O (aX hb O) (by decide) (by decide) O) ?_)));simp only[zz];refine dM O (fun hb u m=>aZ (aX hb O) ((m.b 1 O).lies aH aA O O)) ?_;simp only[zz,zy,ap,aa,ah,ag];refine dM O (fun hb u m=>aZ O ((m.b 3 O).full aH aA)) (bP O (fun hb=>fR (aX hb O) (aX hb O)) (aK (cE O O O) (bN ?_)));intro u m;refine gc ?_;simp only[zz];refine lY m 0 [] [147,148,149] (fun vs i=>vs=[]∧i=bI g8 [.int .i64 (lI (o.cor 0) (o.cor 0) (t.cor c) (t.cor ((c+1)%3))).x,.int .i64 (lI (o.cor 0) (o.cor 0) (t.cor c) (t.cor ((c+1)%3))).y,.int .i64 (lI (o.cor 0) (o.cor 0) (t.cor c) (t.cor ((c+1)%3))).z] 30) ?_ ?_
    ·
     intro K2 hK2;refine dC O ?_ ?_<;>intro hc4
     ·
      apply Wi 6 [1,0] m;simp only[↓aD,dJ,aS,ag,ah,aa];refine⟨by omega,?_⟩;intro u m;refine gk ?_;exact hK2 _ _ _ (by kernel_rfl) m ⟨O,by rw[akh (e:=(o.cor 0)) (x:=o.cor 0) hc4] <;> rfl⟩
     ·
      apply aL 1 [0] m;simp only[↓aD];exact hK2 _ _ _ (by kernel_rfl) m ⟨O,by rw[aki (e:=(o.cor 0)) (x:=o.cor 0) hc4] <;> rfl⟩
    ·
     intro vs i wr m hI u;obtain⟨rfl,rfl⟩:=hI;simp only[zF,zG] at m;simp only[zu,zF,zG];apply bF 15 [1] m;simp only[↓aD,an];refine⟨by omega,?_⟩;apply bF 3 [0] m;simp only[↓aD];refine mq m aF (by kernel_rfl) (iB 4 [1,4] ?_);simp only[↓aD,dJ,aS,ag,ah,aa];refine⟨by omega,?_⟩;refine aK (fR O O) (aK aC (bP O (fun hb=>aC) (bP O (fun hb=>aN dA aA O (aX hb O) (by decide) (by decide) O) ?_)));simp only[zz];refine dM O (fun hb u m=>aZ (aX hb O) ((m.b 1 O).lies aH aA O O)) ?_;simp only[zz,zy,ap,aa,ah,ag];refine dM O (fun hb u m=>aZ O ((m.b 3 O).full aH aA)) (bP O (fun hb=>fR (aX hb O) (aX hb O)) (aK (cE O O O) (bN ?_)));intro u m;refine gc ?_;simp only[zz];refine lY m 0 [] [147,148,149] (fun vs i=>vs=[]∧i=bI g8 [.int .i64 (lI (lI (o.cor 0) (o.cor 0) (t.cor c) (t.cor ((c+1)%3))) (o.cor 1) (t.cor c) (t.cor ((c+1)%3))).x,.int .i64 (lI (lI (o.cor 0) (o.cor 0) (t.cor c) (t.cor ((c+1)%3))) (o.cor 1) (t.cor c) (t.cor ((c+1)%3))).y,.int .i64 (lI (lI (o.cor 0) (o.cor 0) (t.cor c) (t.cor ((c+1)%3))) (o.cor 1) (t.cor c) (t.cor ((c+1)%3))).z] 30) ?_ ?_
     ·
      intro K3 hK3;refine dC O ?_ ?_<;>intro hc4
      ·
       apply Wi 6 [1,0] m;simp only[↓aD,dJ,aS,ag,ah,aa];refine⟨by omega,?_⟩;intro u m;refine gk ?_;exact hK3 _ _ _ (by kernel_rfl) m ⟨O,by rw[akh (e:=(lI (o.cor 0) (o.cor 0) (t.cor c) (t.cor ((c+1)%3)))) (x:=o.cor 1) hc4] <;> rfl⟩
      ·
       apply aL 1 [0] m;simp only[↓aD];exact hK3 _ _ _ (by kernel_rfl) m ⟨O,by rw[aki (e:=(lI (o.cor 0) (o.cor 0) (t.cor c) (t.cor ((c+1)%3)))) (x:=o.cor 1) hc4] <;> rfl⟩
     ·
      intro vs i wr m hI u;obtain⟨rfl,rfl⟩:=hI;simp only[zF,zG] at m;simp only[zu,zF,zG];apply bF 15 [1] m;simp only[↓aD,an];refine⟨by omega,?_⟩;apply bF 3 [0] m;simp only[↓aD];refine mq m aF (by kernel_rfl) (iB 4 [1,4] ?_);simp only[↓aD,dJ,aS,ag,ah,aa];refine⟨by omega,?_⟩;refine aK (fR O O) (aK aC (bP O (fun hb=>aC) (bP O (fun hb=>aN dA aA O (aX hb O) (by decide) (by decide) O) ?_)));simp only[zz];refine dM O (fun hb u m=>aZ (aX hb O) ((m.b 1 O).lies aH aA O O)) ?_;simp only[zz,zy,ap,aa,ah,ag];refine dM O (fun hb u m=>aZ O ((m.b 3 O).full aH aA)) (bP O (fun hb=>fR (aX hb O) (aX hb O)) (aK (cE O O O) (bN ?_)));intro u m;refine gc ?_;simp only[zz];refine lY m 0 [] [147,148,149] (fun vs i=>vs=[]∧i=bI g8 [.int .i64 (lI (lI (lI (o.cor 0) (o.cor 0) (t.cor c) (t.cor ((c+1)%3))) (o.cor 1) (t.cor c) (t.cor ((c+1)%3))) (o.cor 2) (t.cor c) (t.cor ((c+1)%3))).x,.int .i64 (lI (lI (lI (o.cor 0) (o.cor 0) (t.cor c) (t.cor ((c+1)%3))) (o.cor 1) (t.cor c) (t.cor ((c+1)%3))) (o.cor 2) (t.cor c) (t.cor ((c+1)%3))).y,.int .i64 (lI (lI (lI (o.cor 0) (o.cor 0) (t.cor c) (t.cor ((c+1)%3))) (o.cor 1) (t.cor c) (t.cor ((c+1)%3))) (o.cor 2) (t.cor c) (t.cor ((c+1)%3))).z] 30) ?_ ?_
      ·
       intro K4 hK4;refine dC O ?_ ?_<;>intro hc4
       ·
        apply Wi 6 [1,0] m;simp only[↓aD,dJ,aS,ag,ah,aa];refine⟨by omega,?_⟩;intro u m;refine gk ?_;exact hK4 _ _ _ (by kernel_rfl) m ⟨O,by rw[akh (e:=(lI (lI (o.cor 0) (o.cor 0) (t.cor c) (t.cor ((c+1)%3))) (o.cor 1) (t.cor c) (t.cor ((c+1)%3)))) (x:=o.cor 2) hc4] <;> rfl⟩
       ·
        apply aL 1 [0] m;simp only[↓aD];exact hK4 _ _ _ (by kernel_rfl) m ⟨O,by rw[aki (e:=(lI (lI (o.cor 0) (o.cor 0) (t.cor c) (t.cor ((c+1)%3))) (o.cor 1) (t.cor c) (t.cor ((c+1)%3)))) (x:=o.cor 2) hc4] <;> rfl⟩
      ·
       intro vs i wr m hI u;obtain⟨rfl,rfl⟩:=hI;simp only[zF,zG] at m;simp only[zu,zF,zG];apply bF 15 [2] m;simp only[↓aD,an];refine⟨by omega,?_⟩;apply bF 8 [4,5,2] m;simp only[↓aD,aS,xK,aa];refine go (aB (aG bZ aR O O (by omega) (by omega) (mR (ai _))) ?_);simp only[zz];refine aab m 8 O O O aR (by simp only[az,b_,ap,aa,ag,ah];omega) rfl ?_;intro u m;simp only[zF,zG] at m;try simp only[ap] at m
       rw[show bQ (us.flatMap aP) (k*9) [.int .i64 (t.cor c).x,.int .i64 (t.cor c).y,.int .i64 (t.cor c).z,.int .i64 p.x,.int .i64 p.y,.int .i64 p.z,.int .i64 (t.cor ((c+2)%3)).x,.int .i64 (t.cor ((c+2)%3)).y,.int .i64 (t.cor ((c+2)%3)).z]=(us.set k (⟨(t.cor c),p,(t.cor ((c+2)%3))⟩:T3)).flatMap aP from Rr (u:=(⟨(t.cor c),p,(t.cor ((c+2)%3))⟩:T3)) htk] at m;apply aM 9 [3,5,0] m;simp only[↓aD,aS,xK,aa];refine go (aB (aG bZ aR O O (by omega) (by omega) (mR (ai _))) ?_);simp only[zz];refine aab m 8 O O O aR (by simp only[az,b_,ap,aa,ag,ah];omega) rfl ?_;intro u m;simp only[zF,zG] at m;try simp only[ap] at m
       rw[show bQ ((us.set k (⟨(t.cor c),p,(t.cor ((c+2)%3))⟩:T3)).flatMap aP) (j*9) [.int .i64 (t.cor ((c+1)%3)).x,.int .i64 (t.cor ((c+1)%3)).y,.int .i64 (t.cor ((c+1)%3)).z,.int .i64 p.x,.int .i64 p.y,.int .i64 p.z,.int .i64 (lI (lI (lI (o.cor 0) (o.cor 0) (t.cor c) (t.cor ((c+1)%3))) (o.cor 1) (t.cor c) (t.cor ((c+1)%3))) (o.cor 2) (t.cor c) (t.cor ((c+1)%3))).x,.int .i64 (lI (lI (lI (o.cor 0) (o.cor 0) (t.cor c) (t.cor ((c+1)%3))) (o.cor 1) (t.cor c) (t.cor ((c+1)%3))) (o.cor 2) (t.cor c) (t.cor ((c+1)%3))).y,.int .i64 (lI (lI (lI (o.cor 0) (o.cor 0) (t.cor c) (t.cor ((c+1)%3))) (o.cor 1) (t.cor c) (t.cor ((c+1)%3))) (o.cor 2) (t.cor c) (t.cor ((c+1)%3))).z]=((us.set k (⟨(t.cor c),p,(t.cor ((c+2)%3))⟩:T3)).set j (⟨(t.cor ((c+1)%3)),p,(Hs o (t.cor c) (t.cor ((c+1)%3)))⟩:T3)).flatMap aP from Rr (u:=(⟨(t.cor ((c+1)%3)),p,(Hs o (t.cor c) (t.cor ((c+1)%3)))⟩:T3)) (ar (by simp only[kd];omega))] at m;apply aM 7 [5,3,2] m;simp only[↓aD,aS,xK,aa];apply bF 4 [5,4,0] m;simp only[↓aD,aS,xK,aa];refine go (Fs O O ?_);intro u g9 e_ h_ k_;replace m:=m.newB e_ h_ k_;simp only[zz];refine cS m 9 O O bZ kS O (by decide) O O O (m.b 0 O).rowsO (nQ O) (by omega) (by omega) ?_;intro A7 cap7 u m;simp only[zF,zG] at m;rw[show (((us.set k (⟨(t.cor c),p,(t.cor ((c+2)%3))⟩:T3)).set j (⟨(t.cor ((c+1)%3)),p,(Hs o (t.cor c) (t.cor ((c+1)%3)))⟩:T3)).flatMap aP)++_=(((us.set k (⟨(t.cor c),p,(t.cor ((c+2)%3))⟩:T3)).set j (⟨(t.cor ((c+1)%3)),p,(Hs o (t.cor c) (t.cor ((c+1)%3)))⟩:T3))++[(⟨p,(t.cor ((c+1)%3)),(t.cor ((c+2)%3))⟩:T3),(⟨p,(t.cor c),(Hs o (t.cor c) (t.cor ((c+1)%3)))⟩:T3)]).flatMap aP by rw[be];rfl] at m;rw[show us.length+2=(((us.set k (⟨(t.cor c),p,(t.cor ((c+2)%3))⟩:T3)).set j (⟨(t.cor ((c+1)%3)),p,(Hs o (t.cor c) (t.cor ((c+1)%3)))⟩:T3))++[(⟨p,(t.cor ((c+1)%3)),(t.cor ((c+2)%3))⟩:T3),(⟨p,(t.cor c),(Hs o (t.cor c) (t.cor ((c+1)%3)))⟩:T3)]).length by simp only[a_,kd,az,b_]] at m;rw[show us.length+2=(((us.set k (⟨(t.cor c),p,(t.cor ((c+2)%3))⟩:T3)).set j (⟨(t.cor ((c+1)%3)),p,(Hs o (t.cor c) (t.cor ((c+1)%3)))⟩:T3))++[(⟨p,(t.cor ((c+1)%3)),(t.cor ((c+2)%3))⟩:T3),(⟨p,(t.cor c),(Hs o (t.cor c) (t.cor ((c+1)%3)))⟩:T3)]).length by simp only[a_,kd,az,b_]];apply aM 2 [0] m;simp only[↓aD];refine mh m [true,true,true,true,true,true,true,true,false,true,true] [(0,true),(2,true),(1,true),(3,true),(4,false),(5,true),(6,false),(7,false),(8,true)] aF (by kernel_rfl) (cB (fun _ _ _ _ _ h=>h)) (ol:=?_) ?hol ?_
       case hol=>simp only[zw,zQ,zR];try rfl
       intro u m;refine Oc 4 [6,5] ?_;simp only[↓aD,aS];refine cG (dH m O O (acA (p:=(t.cor c)) _ ((m.o 8 O).lat Cj (by decide)) (by omega)) ?_);rintro v u m rfl;refine aI ⟨m.sel [true,true,true,true,true,true,true,true,false,true,true],?_⟩;refine cF (rL O O) (cG ?_);simp only[zz];refine sN O ?_;intro u g10 e_ h_ k_;replace m:=m.newB e_ h_ k_;refine aI ⟨m.sel [false,true,true,true,true,true,true,true,true,false,true,true],?_⟩;refine cG ?_;simp only[zz];refine cS m 9 O O Dl aai O (by decide) O O O (m.b 0 O).rowsO (nQ O) (by omega) (by omega) ?_;intro A8 cap8 u m;simp only[zF,zG] at m;rw[show ms.flatMap bM++_=(ms++[(p,mU ms (t.cor c))]).flatMap bM by rw[be];rfl] at m;rw[show ms.length+1=(ms++[(p,mU ms (t.cor c))]).length by simp] at m;rw[show ms.length+1=(ms++[(p,mU ms (t.cor c))]).length by simp];refine aI ⟨m.sel [false,true,true,true,true,true,true,true,true,false,true,true],?_⟩;refine cF aJ (bY ?_);apply bF 6 [0] m;simp only[↓aD];refine⟨by omega,?_⟩;exact hK1 (12-(i+1)) _ _ (by omega) (by kernel_rfl) ⟨(((us.set k (⟨(t.cor c),p,(t.cor ((c+2)%3))⟩:T3)).set j (⟨(t.cor ((c+1)%3)),p,(Hs o (t.cor c) (t.cor ((c+1)%3)))⟩:T3))++[(⟨p,(t.cor ((c+1)%3)),(t.cor ((c+2)%3))⟩:T3),(⟨p,(t.cor c),(Hs o (t.cor c) (t.cor ((c+1)%3)))⟩:T3)]),(ms++[(p,mU ms (t.cor c))]),_,_,_,_,i+1,O,(m.sel [false,false,false,false,false,false,false,false,false,true,true,true]),.step hdv (.edge k j t o x c _ htk hc3 hto hfx hnb hpp),by omega,O⟩
   ·
    apply aL 8 [2,1,3] m;simp only[↓aD,aS,xK,aa];refine go (aB (aG bZ aR O O (by omega) (by omega) (mR (ai _))) ?_);simp only[zz];refine aab m 6 O O O aR (by simp only[az,b_,ap,aa,ag,ah];omega) rfl ?_;intro u m;simp only[zF,zG] at m;try simp only[ap] at m
    rw[show bQ (us.flatMap aP) (k*9) [.int .i64 (t.cor c).x,.int .i64 (t.cor c).y,.int .i64 (t.cor c).z,.int .i64 (t.cor ((c+1)%3)).x,.int .i64 (t.cor ((c+1)%3)).y,.int .i64 (t.cor ((c+1)%3)).z,.int .i64 p.x,.int .i64 p.y,.int .i64 p.z]=(us.set k (⟨(t.cor c),(t.cor ((c+1)%3)),p⟩:T3)).flatMap aP from Rr (u:=(⟨(t.cor c),(t.cor ((c+1)%3)),p⟩:T3)) htk] at m;apply aM 7 [1,0,3] m;simp only[↓aD,aS,xK,aa];apply bF 4 [0,2,3] m;simp only[↓aD,aS,xK,aa];refine go (Fs O O ?_);intro u g7 e_ h_ k_;replace m:=m.newB e_ h_ k_;simp only[zz];refine cS m 7 O O bZ kS O (by decide) O O O (m.b 0 O).rowsO (nQ O) (by omega) (by omega) ?_;intro A7 cap7 u m;simp only[zF,zG] at m;rw[show ((us.set k (⟨(t.cor c),(t.cor ((c+1)%3)),p⟩:T3)).flatMap aP)++_=((us.set k (⟨(t.cor c),(t.cor ((c+1)%3)),p⟩:T3))++[(⟨(t.cor ((c+1)%3)),(t.cor ((c+2)%3)),p⟩:T3),(⟨(t.cor ((c+2)%3)),(t.cor c),p⟩:T3)]).flatMap aP by rw[be];rfl] at m;rw[show us.length+2=((us.set k (⟨(t.cor c),(t.cor ((c+1)%3)),p⟩:T3))++[(⟨(t.cor ((c+1)%3)),(t.cor ((c+2)%3)),p⟩:T3),(⟨(t.cor ((c+2)%3)),(t.cor c),p⟩:T3)]).length by simp only[a_,kd,az,b_]] at m;rw[show us.length+2=((us.set k (⟨(t.cor c),(t.cor ((c+1)%3)),p⟩:T3))++[(⟨(t.cor ((c+1)%3)),(t.cor ((c+2)%3)),p⟩:T3),(⟨(t.cor ((c+2)%3)),(t.cor c),p⟩:T3)]).length by simp only[a_,kd,az,b_]];apply aM 2 [0] m;simp only[↓aD];refine mh m [true,true,true,true,true,true,false,true,true] [(0,true),(2,true),(1,true),(3,true),(4,false),(5,true),(6,false),(7,false),(8,true)] aF (by kernel_rfl) (cB (fun _ _ _ _ _ h=>h)) (ol:=?_) ?hol ?_
    case hol=>simp only[zw,zQ,zR];try rfl
    intro u m;refine Oc 4 [4,3] ?_;simp only[↓aD,aS];refine cG (dH m O O (acA (p:=(t.cor c)) _ ((m.o 6 O).lat Cj (by decide)) (by omega)) ?_);rintro v u m rfl;refine aI ⟨m.sel [true,true,true,true,true,true,false,true,true],?_⟩;refine cF (rL O O) (cG ?_);simp only[zz];refine sN O ?_;intro u g8 e_ h_ k_;replace m:=m.newB e_ h_ k_;refine aI ⟨m.sel [false,true,true,true,true,true,true,false,true,true],?_⟩;refine cG ?_;simp only[zz];refine cS m 7 O O Dl aai O (by decide) O O O (m.b 0 O).rowsO (nQ O) (by omega) (by omega) ?_;intro A8 cap8 u m;simp only[zF,zG] at m;rw[show ms.flatMap bM++_=(ms++[(p,mU ms (t.cor c))]).flatMap bM by rw[be];rfl] at m;rw[show ms.length+1=(ms++[(p,mU ms (t.cor c))]).length by simp] at m;rw[show ms.length+1=(ms++[(p,mU ms (t.cor c))]).length by simp];refine aI ⟨m.sel [false,true,true,true,true,true,true,false,true,true],?_⟩;refine cF aJ (bY ?_);apply bF 6 [0] m;simp only[↓aD];refine⟨by omega,?_⟩;exact hK1 (12-(i+1)) _ _ (by omega) (by kernel_rfl) ⟨((us.set k (⟨(t.cor c),(t.cor ((c+1)%3)),p⟩:T3))++[(⟨(t.cor ((c+1)%3)),(t.cor ((c+2)%3)),p⟩:T3),(⟨(t.cor ((c+2)%3)),(t.cor c),p⟩:T3)]),(ms++[(p,mU ms (t.cor c))]),_,_,_,_,i+1,O,(m.sel [false,false,false,false,false,false,false,true,true,true]),.step hdv (.tri k t c _ htk hc3 hpp),by omega,O⟩
  ·
   apply aL 9 [] m;simp only[↓aD];exact nP O O O ⟨_,O,m.ext,us,ms,_,_,_,_,i,O,m.sel [true,true,false],hi,hdv⟩
end Go.Proofs.YtfekpcimgncioaaGreatDoor
namespace Go.Lith
open Go.RowKit
def Um(e:P3):List T3:=[⟨⟨0,0,0⟩,⟨0,30,0⟩,e⟩,⟨⟨0,30,0⟩,⟨30,0,0⟩,e⟩,⟨⟨30,0,0⟩,⟨0,0,0⟩,e⟩,⟨⟨0,0,0⟩,⟨30,0,0⟩,⟨0,0,30⟩⟩,⟨⟨30,0,0⟩,⟨0,30,0⟩,⟨0,0,30⟩⟩,⟨⟨0,30,0⟩,⟨0,0,0⟩,⟨0,0,30⟩⟩]
def Un:List T3:=[⟨⟨0,0,0⟩,⟨0,30,0⟩,⟨30,0,0⟩⟩,⟨⟨0,0,0⟩,⟨30,0,0⟩,⟨0,0,30⟩⟩,⟨⟨30,0,0⟩,⟨0,30,0⟩,⟨0,0,30⟩⟩,⟨⟨0,30,0⟩,⟨0,0,0⟩,⟨0,0,30⟩⟩]
theorem atq:oS (Um ⟨3,4,1⟩) Un [(⟨3,4,1⟩,⟨0,0,0⟩)]=(6,0):=by decide +kernel
theorem atr:oS (Um ⟨3,4,1⟩) Un [(⟨3,4,1⟩,⟨0,0,30⟩)]=(0,32):=by decide +kernel
theorem ats:oS (Um ⟨3,4,1⟩) Un []=(0,32):=by decide +kernel
theorem att:oS (Um ⟨3,4,1⟩) Un [(⟨0,0,30⟩,⟨0,0,0⟩)]=(0,32):=by decide +kernel
theorem agf:I3 ⟨0,0,0⟩:=⟨by decide,by decide,by decide⟩
theorem agh:I3 ⟨0,0,30⟩:=⟨by decide,by decide,by decide⟩
theorem ahY:I3 ⟨3,4,1⟩:=⟨by decide,by decide,by decide⟩
theorem Qi(e:P3)[h:I3 e]:∀t∈Um e,IT t:=fun t ht=>by
 have a:I3 ⟨0,0,0⟩:=agf;have b:I3 ⟨30,0,0⟩:=⟨by decide,by decide,by decide⟩
 have c:I3 ⟨0,30,0⟩:=⟨by decide,by decide,by decide⟩
 have d:I3 ⟨0,0,30⟩:=agh;simp only[Um,ao,bt,or_false] at ht;rcases ht with rfl | rfl | rfl | rfl | rfl | rfl
 · exact⟨a,c,h⟩
 · exact⟨c,b,h⟩
 · exact⟨b,a,h⟩
 · exact⟨a,b,d⟩
 · exact⟨b,c,d⟩
 · exact⟨c,a,d⟩
theorem Qj:∀t∈Un,IT t:=fun t ht=>by
 have a:I3 ⟨0,0,0⟩:=agf;have b:I3 ⟨30,0,0⟩:=⟨by decide,by decide,by decide⟩
 have c:I3 ⟨0,30,0⟩:=⟨by decide,by decide,by decide⟩
 have d:I3 ⟨0,0,30⟩:=agh;simp only[Un,ao,bt,or_false] at ht;rcases ht with rfl | rfl | rfl | rfl
 · exact⟨a,c,b⟩
 · exact⟨a,b,d⟩
 · exact⟨b,c,d⟩
 · exact⟨c,a,d⟩
structure Srf(l us:List T3)(ms:List Mv):Prop where
 ll:l.length≤400
 ul:us.length≤424
 ml:ms.length≤12
 lm:∀x∈bG l,Mid x
 um:∀x∈bG us,Mid x
 mm:∀m∈ms,Mid m.1∧Mid m.2
theorem Ml.srf{rim:List E3}{kind bits:Int}{zs:List Int}{us:List T3}{i:Nat}{ms:List Mv}(h:Ml rim (wZ kind bits zs) i us ms)(hi:i≤12):Srf (wZ kind bits zs) us ms:=by
 obtain⟨h1,h2⟩:=h.len;obtain⟨h3,h4⟩:=h.pts;have hl:=abR (kind:=kind) (bits:=bits) (zs:=zs);have hm:=akk (abQ (kind:=kind) (bits:=bits) (zs:=zs));exact⟨hl,by omega,by omega,hm,fun x hx=>(h3 x hx).mid hm (by omega),fun m hm2=>⟨(h4 m hm2).1.mid hm (by omega),(h4 m hm2).2.mid hm (by omega)⟩⟩
theorem Uo{ts:List T3}(h:∀x∈bG ts,Mid x):∀t∈ts,IT t:=asQ fun x hx=>(h x hx).i3
end Go.Lith
namespace Go.Proofs.YtfekpcimgncioaaGreatDoor
open Go.Proofs.Tryz
open Go.RowKit Go.Lith
set_option maxRecDepth 100000
attribute [local irreducible] au cq eF bJ cD Code.wp
attribute [local congr] oG fS fT fU fV fW jR fX fY fZ gA gB gC gD gE gF gG gH eM eN gI gJ gL gM gN jT cW cX cA cU gK jS eO eP eQ gQ gR jU
theorem aop{e:P3}(w:am):dR prog 86 [pt e] w (fun v w'=>∃A1 c1 A2 c2,v=.tuple #[.slice A1 6 c1,.slice A2 4 c2]∧Mem w w' [oI 39 9 A1 6 c1 ((Um e).flatMap aP),oI 39 9 A2 4 c2 (Un.flatMap aP)]):=by
 refine⟨bO func86 (by kernel_rfl),?_⟩;have m:=Mem.refl w
 go_enter func86,ntmps86
 refine aT fun K1 k1=>aj (Rn m O ?_);intro g1 u m;refine aB aJ (aB aJ (aI (k1 _ _ ?_)));refine aT fun K2 k2=>aj (aB abX ?_);simp only[zz];refine lA m eC O ?_;intro g2 u m;simp only[zz];refine cL m 0 O O O aA (jO O) O ?_;intro u m;simp only[zy,zx,bQ,zF,zG,aa] at m;refine aI (k2 _ _ ?_);refine aT fun K3 k3=>aj (aB (aal O) ?_);simp only[zz];refine lA m eC O ?_;intro g3 u m;simp only[zz];refine cL m 0 O O O aA (jO O) O ?_;intro u m;simp only[zy,zx,bQ,zF,zG,aa] at m;refine aI (k3 _ _ ?_);refine aT fun K4 k4=>aj (aB (aam O) ?_);simp only[zz];refine lA m eC O ?_;intro g4 u m;simp only[zz];refine cL m 0 O O O aA (jO O) O ?_;intro u m;simp only[zy,zx,bQ,zF,zG,aa] at m;refine aI (k4 _ _ ?_);refine aT fun K5 k5=>aj (aB (aan O) ?_);simp only[zz];refine lA m eC O ?_;intro g5 u m;simp only[zz];refine cL m 0 O O O aA (jO O) O ?_;intro u m;simp only[zy,zx,bQ,zF,zG,aa] at m;refine aI (k5 _ _ ?_);refine aT fun K6 k6=>aj (aQ O ((m.b 3 O).full aH aA) ?_);simp only[zz];refine aQ O ((m.b 1 O).full aH aA) ?_;simp only[zz];refine aQ O ((m.b 2 O).full aH aA) ?_;simp only[zz];refine aB (eU O O O) ?_;simp only[zz];refine aQ O ((m.b 3 O).full aH aA) ?_;simp only[zz];refine aQ O ((m.b 2 O).full aH aA) ?_;simp only[zz];refine aQ O ((m.b 0 O).full aH aA) ?_;simp only[zz];refine aB (eU O O O) ?_;simp only[zz];refine aQ O ((m.b 2 O).full aH aA) ?_;simp only[zz];refine aQ O ((m.b 1 O).full aH aA) ?_;simp only[zz];refine aQ O ((m.b 0 O).full aH aA) ?_;simp only[zz];refine aB (eU O O O) ?_;simp only[zz];refine aQ O ((m.b 1 O).full aH aA) ?_;simp only[zz];refine aQ O ((m.b 3 O).full aH aA) ?_;simp only[zz];refine aQ O ((m.b 0 O).full aH aA) ?_;simp only[zz];refine aB (eU O O O) ?_;simp only[zz];refine aho O O O O ?_;intro u g6 e_ h_ k_;replace m:=m.newB e_ h_ k_;simp only[zz];replace m:=m.own 0 O (n:=4) (c:=9) O (jO O);simp only[zG] at m;refine aB aJ (aI (k6 _ _ ?_));refine aT fun K7 k7=>aj ?_;simp only[zz];refine aQ O ((m.b 4 O).full aH aA) ?_;simp only[zz];refine aQ O ((m.b 2 O).full aH aA) ?_;simp only[zz];refine aQ O ((m.b 5 O).full aH aA) ?_;simp only[zz];refine aB (eU O O O) ?_;simp only[zz];refine aQ O ((m.b 2 O).full aH aA) ?_;simp only[zz];refine aQ O ((m.b 3 O).full aH aA) ?_;simp only[zz];refine aQ O ((m.b 5 O).full aH aA) ?_;simp only[zz];refine aB (eU O O O) ?_;simp only[zz];refine aQ O ((m.b 3 O).full aH aA) ?_;simp only[zz];refine aQ O ((m.b 4 O).full aH aA) ?_;simp only[zz];refine aQ O ((m.b 5 O).full aH aA) ?_;simp only[zz];refine aB (eU O O O) ?_;simp only[zz];refine aQ O ((m.b 4 O).full aH aA) ?_;simp only[zz];refine aQ O ((m.b 3 O).full aH aA) ?_;simp only[zz];refine aQ O ((m.b 1 O).full aH aA) ?_;simp only[zz];refine aB (eU O O O) ?_;simp only[zz];refine aQ O ((m.b 3 O).full aH aA) ?_;simp only[zz];refine aQ O ((m.b 2 O).full aH aA) ?_;simp only[zz];refine aQ O ((m.b 1 O).full aH aA) ?_;simp only[zz];refine aB (eU O O O) ?_;simp only[zz];refine aQ O ((m.b 2 O).full aH aA) ?_;simp only[zz];refine aQ O ((m.b 4 O).full aH aA) ?_;simp only[zz];refine aQ O ((m.b 1 O).full aH aA) ?_;simp only[zz];refine aB (eU O O O) ?_;simp only[zz];refine ahp O O O O O O ?_;intro u g7 e_ h_ k_;replace m:=m.newB e_ h_ k_;simp only[zz];replace m:=m.own 0 O (n:=6) (c:=9) O (jO O);simp only[zG] at m;refine aB aC (aB aJ (aB aJ (aI (k7 _ _ ?_))));refine ik ?_;simp only[zz];try simp only[bu,Exit.then,if_true]
 refine nP O O O ?_;try simp only[zD,zE]
 exact⟨_,O,m.ext,_,_,_,_,O,m.sel [true,true,false,false,false,false,false]⟩
theorem alx  : gS prog 41 [] (.bool true):=by
 intro w;refine⟨bO func41 (by kernel_rfl),?_⟩;have m:=Mem.refl w
 go_enter func41,ntmps41
 apply nM 13 [0,0,0] m;simp only[↓aD,xJ,dN,aS,aa];intro g1 u m;refine bB O O (aop (e:=(⟨3,4,1⟩:P3)) _) ?_;rintro v u e_ ⟨A2,c2,A1,c1,rfl,hM⟩;replace m:=m.plus hM;clear hM;simp only[cn,bv] at m;apply iH 18 [0,3] m;simp only[↓aD,xJ,dN,aS,akF,aa];intro g2 u m;refine go (sN O ?_);intro u g3 e_ h_ k_;replace m:=m.newB e_ h_ k_;simp only[zz];replace m:=m.own 0 O (n:=1) (c:=6) O (jO O);simp only[zG] at m;refine dH m O O (Ep (fs:=Um ⟨3,4,1⟩) (gs:=Un) (ms:=[((⟨3,4,1⟩:P3),(⟨0,0,0⟩:P3))]) _ ((m.o 2 O).tris (haveI:=ahY;Qi _)) ((m.o 3 rfl).tris Qj) (((m.o 0 rfl)).lat Cj (by decide)) (by decide) (by decide) (by decide) (fun mv h=>by obtain rfl:=bg.1 h;exact⟨ahY,agf⟩)) ?_;rintro v u m rfl;simp only[zz];rw[atq];dsimp only;apply aM 13 [4,1,0] m;simp only[↓aD,aS,akF,aa];refine sN O ?_;intro u g4 e_ h_ k_;replace m:=m.newB e_ h_ k_;simp only[zz];replace m:=m.own 0 O (n:=1) (c:=6) O (jO O);simp only[zG] at m;refine dH m O O (Ep (fs:=Um ⟨3,4,1⟩) (gs:=Un) (ms:=[((⟨3,4,1⟩:P3),(⟨0,0,30⟩:P3))]) _ ((m.o 3 O).tris (haveI:=ahY;Qi _)) ((m.o 4 rfl).tris Qj) (((m.o 0 rfl)).lat Cj (by decide)) (by decide) (by decide) (by decide) (fun mv h=>by obtain rfl:=bg.1 h;exact⟨ahY,agh⟩)) ?_;rintro v u m rfl;simp only[zz];rw[atr];dsimp only;apply aM 10 [0] m;simp only[↓aD];refine dH m O O (Ep (fs:=Um ⟨3,4,1⟩) (gs:=Un) (ms:=[]) _ ((m.o 3 O).tris (haveI:=ahY;Qi _)) ((m.o 4 rfl).tris Qj) (Aq.nil _ _) (by decide) (by decide) (by decide) (fun mv h=>by cases h)) ?_;rintro v u m rfl;simp only[zz];rw[ats];dsimp only;apply aM 12 [2,0] m;simp only[↓aD,aS,akF,aa];refine sN O ?_;intro u g5 e_ h_ k_;replace m:=m.newB e_ h_ k_;simp only[zz];replace m:=m.own 0 O (n:=1) (c:=6) O (jO O);simp only[zG] at m;refine dH m O O (Ep (fs:=Um ⟨3,4,1⟩) (gs:=Un) (ms:=[((⟨0,0,30⟩:P3),(⟨0,0,0⟩:P3))]) _ ((m.o 4 O).tris (haveI:=ahY;Qi _)) ((m.o 5 rfl).tris Qj) (((m.o 0 rfl)).lat Cj (by decide)) (by decide) (by decide) (by decide) (fun mv h=>by obtain rfl:=bg.1 h;exact⟨agh,agf⟩)) ?_;rintro v u m rfl;simp only[zz];rw[att];dsimp only;apply aM 29 [1,1,1,1,1] m;simp only[↓aD];exact aY O O ⟨_,O,m.ext,O⟩
theorem arq{kind bits:Int}[Iw kind][Iw bits]{HN Hc DN Dc:Nat}{HA DA:Option Addr}{zs:List Int}{qs:List Q4}(w:am)(hZ:uG w HA HN zs)(hQ:Aq q4C 4 w DA DN qs)(hI:∀q∈qs,IQ q):dR prog 42 [.agg #[.int .i64 kind,.int .i64 bits,.slice HA HN Hc,.slice DA DN Dc]] w (fun v w'=>∃us ms A7 c7 A8 c8 A5 c5 i,v=.tuple #[.slice A7 us.length c7,.slice A5 (wZ kind bits zs).length c5,.slice A8 ms.length c8]∧Mem w w' [oI 55 6 A8 ms.length c8 (ms.flatMap bM),oI 39 9 A7 us.length c7 (us.flatMap aP),oI 39 9 A5 (wZ kind bits zs).length c5 ((wZ kind bits zs).flatMap aP)]∧i≤12∧Ml (aO (wZ kind bits zs)) (wZ kind bits zs) i us ms):=by
 refine⟨bO func42 (by kernel_rfl),?_⟩;have m:=Mem.refl w;have hl:=abR (kind:=kind) (bits:=bits) (zs:=zs)
 go_enter func42,ntmps42
 apply nM 15 [0,0,0,0] m;simp only[↓aD,anU,eW,anV,anW,as0,aa];intro g1 u m;refine bB O O (aro (kind:=kind) (bits:=bits) _ (hZ.ext m.ext)) ?_;rintro v u e_ ⟨A5,cap5,_,rfl,rfl,h_⟩;replace m:=m.newO e_ h_;apply aM 7 [1,0] m;simp only[↓aD,anX,as3,aa];refine bB O O (ahX _ ((m.o 0 O).tris (Uo (akk abQ))) (by omega) (hQ.ext m.ext) hI) ?_;rintro v u e_ ⟨us,ms,A7,c7,A8,c8,i,rfl,hM,hi,hdv⟩;replace m:=m.plus hM;clear hM;simp only[cn,bv] at m;apply aM 16 [] m;simp only[↓aD];exact atW O O O O ⟨_,O,m.ext,us,ms,_,_,_,_,_,_,i,O,m.sel [true,true,true,false],hi,hdv⟩
end Go.Proofs.YtfekpcimgncioaaGreatDoor
namespace Go.Proofs.YtfekpcimgncioaaGreatDoor
open Go.Proofs.Tryz
open Go.RowKit Go.Lith
set_option maxRecDepth 100000
attribute [local irreducible] au cq eF bJ cD Code.wp
variable{q:P3}
theorem aly{x y z:Int}{g1:Nat}(w:am)(hB1:fE w g1 [.int .i64 x,.int .i64 y,.int .i64 z] 3):ak2 prog 125 [.slice (some ⟨g1,0,none⟩) 3 3] w (.int .i64 (if x=0 then if y=0 then z else y else x)):=by
 refine⟨ajA,?_⟩;have m:=jB.refl w
 go_enter func125,ntmps125
 refine aT fun K1 k1=>aj (aB aJ (aI (k1 _ _ ?_)));try clear k1 K1
 refine aT fun K2 k2=>aj (aB aJ (aI (k2 _ _ ?_)));try clear k2 K2
 refine aT fun K3 k3=>aT fun K4 k4=>aj (aB aC (aB (jD O Cg O) ?_));simp only[zz];refine aB aC (aI (k4 _ _ ?_));try clear k4 K4
 refine gh (wp_loop_rounds 4 (Cy (aT fun K5 k5=>aj (aB (sG (m:=0) (n:=3) O O (by decide)) (aI (k5 _ _ ?_))))));try clear k5 K5
 refine aT fun K6 k6=>wV O (g_ (k6 _ _ ?_));try clear k6 K6
 refine aT fun K7 k7=>gh (aT fun K8 k8=>aj ?_);simp only[zz];refine aB (aG Cg cN O O (by decide) (by omega) O) ?_;simp only[zz];refine aQ O ((hB1.ext m.ext.ext).lies1 bT O) ?_;simp only[zz];refine aB aJ (aI (k8 _ _ ?_));try clear k8 K8
 refine aT fun K9 k9=>aj (aB aC (aB aC (aB (uT O O) ?_)));simp only[zz];refine aI (k9 _ _ ?_);try clear k9 K9
 refine bK O ?_ ?_<;>intro hc2
 ·
  refine aT fun K10 k10=>aj (aB aC (aB aJ (aI (k10 _ _ ?_))));try clear k10 K10
  refine ik ?_;simp only[zz];try simp only[bu,Exit.then,if_true]
  refine aY O O ?_;try simp only[zD,zE]
  exact⟨_,O,m.ext,by rw[if_neg hc2]⟩
 ·
  have hx:x=0:=by omega
  refine g_ (k7 _ _ ?_);try clear k7 K7
  refine aj (aB (fH (m:=0) (n:=1) (r:=1) O O (by decide)) (aB aC (aI (mK (aT fun K11 k11=>aj (aB (sG (m:=1) (n:=3) O O (by decide)) (aI (k11 _ _ ?_))))))));try clear k11 K11
  refine aT fun K12 k12=>wV O (g_ (k12 _ _ ?_));try clear k12 K12
  refine aT fun K13 k13=>gh (aT fun K14 k14=>aj ?_);simp only[zz];refine aB (aG Cg cN O O (by decide) (by omega) O) ?_;simp only[zz];refine aQ O ((hB1.ext m.ext.ext).lies1 bT O) ?_;simp only[zz];refine aB aJ (aI (k14 _ _ ?_));try clear k14 K14
  refine aT fun K15 k15=>aj (aB aC (aB aC (aB (uT O O) ?_)));simp only[zz];refine aI (k15 _ _ ?_);try clear k15 K15
  refine bK O ?_ ?_<;>intro hc2
  ·
   refine aT fun K16 k16=>aj (aB aC (aB aJ (aI (k16 _ _ ?_))));try clear k16 K16
   refine ik ?_;simp only[zz];try simp only[bu,Exit.then,if_true]
   refine aY O O ?_;try simp only[zD,zE]
   exact⟨_,O,m.ext,by rw[if_pos hx,if_neg hc2]⟩
  ·
   have hy:y=0:=by omega
   refine g_ (k13 _ _ ?_);try clear k13 K13
   refine aj (aB (fH (m:=1) (n:=1) (r:=2) O O (by decide)) (aB aC (aI (mK (aT fun K17 k17=>aj (aB (sG (m:=2) (n:=3) O O (by decide)) (aI (k17 _ _ ?_))))))));try clear k17 K17
   refine aT fun K18 k18=>wV O (g_ (k18 _ _ ?_));try clear k18 K18
   refine aT fun K19 k19=>gh (aT fun K20 k20=>aj ?_);simp only[zz];refine aB (aG Cg cN O O (by decide) (by omega) O) ?_;simp only[zz];refine aQ O ((hB1.ext m.ext.ext).lies1 bT O) ?_;simp only[zz];refine aB aJ (aI (k20 _ _ ?_));try clear k20 K20
   refine aT fun K21 k21=>aj (aB aC (aB aC (aB (uT O O) ?_)));simp only[zz];refine aI (k21 _ _ ?_);try clear k21 K21
   refine bK O ?_ ?_<;>intro hc2
   ·
    refine aT fun K22 k22=>aj (aB aC (aB aJ (aI (k22 _ _ ?_))));try clear k22 K22
    refine ik ?_;simp only[zz];try simp only[bu,Exit.then,if_true]
    refine aY O O ?_;try simp only[zD,zE]
    exact⟨_,O,m.ext,by rw[if_pos hx,if_pos hy]⟩
   ·
    have hz:z=0:=by omega
    refine g_ (k19 _ _ ?_);try clear k19 K19
    refine aj (aB (fH (m:=2) (n:=1) (r:=3) O O (by decide)) (aB aC (aI (mK (aT fun K23 k23=>aj (aB (Hi (m:=3) (n:=3) O O (by decide)) (aI (k23 _ _ ?_))))))));try clear k23 K23
    refine aT fun K24 k24=>Zk O (wp_exit (k3 _ _ ?_));try clear k3 K3
    refine aT fun K25 k25=>aj (aB aC ?_);simp only[zz];refine aB aJ (aI (k25 _ _ ?_));try clear k25 K25
    refine ik ?_;simp only[zz];try simp only[bu,Exit.then,if_true]
    refine aY O O ?_;try simp only[zD,zE]
    exact⟨_,O,m.ext,by rw[if_pos hx,if_pos hy,hz]⟩
def aeJ(s t:T3):Int:=if sA s.a t.a=0 then if sA s.b t.b=0 then sA s.c t.c else sA s.b t.b else sA s.a t.a
theorem Kj(s t:T3):(aeJ s t<0)↔s.Lt t:=by
 unfold aeJ T3.Lt;split
 · rename_i h
   have h':=oJ.1 h;have n1:¬s.a.Lt t.a:=fun k=>P3.lt_irrefl _ (h'▸k);split
   · rename_i g
     have g':=oJ.1 g;have n2:¬s.b.Lt t.b:=fun k=>P3.lt_irrefl _ (g'▸k);rw[mY];simp[h',g',P3.lt_irrefl]
   · rename_i g
     have g':¬s.b=t.b:=fun e=>g (oJ.2 e);rw[mY];simp[h',g',P3.lt_irrefl]
 · rename_i h
   have h':¬s.a=t.a:=fun e=>h (oJ.2 e);rw[mY];simp[h']
instance:Inhabited T3:=⟨⟨⟨0,0,0⟩,⟨0,0,0⟩,⟨0,0,0⟩⟩⟩
theorem alz:Go.Sort.SWO (Go.Proofs.ltOf aeJ) where
 irrefl a:=by simp only[Go.Proofs.ltOf,decide_eq_false_iff_not,Kj];exact T3.lt_irrefl a
 trans x y z h1 h2:=by
  simp only[Go.Proofs.ltOf,decide_eq_true_eq,Kj] at *
  exact T3.lt_trans h1 h2
 ntrans x y z h1 h2:=by
  simp only[Go.Proofs.ltOf,decide_eq_false_iff_not,Kj] at *
  intro h;rcases T3.lt_tri y x with k | k | k
  · exact absurd (T3.lt_trans k h) (by first | exact h2 | exact h1)
  · subst k;first | exact h2 h | exact h1 h
  · first | exact h1 k | exact h2 k
theorem aa5(t:T3):∀v∈aP t,v.oneCell'=true:=fun v h=>by
 simp only[aP,ao,bt,or_false] at h;rcases h with rfl | rfl | rfl | rfl | rfl | rfl | rfl | rfl | rfl <;> rfl
theorem aoq{p q:T3}:uU prog 113 [tr p,tr q] (.int .i64 (aeJ p q)):=by
 intro w;refine⟨bO func113 (by kernel_rfl),?_⟩;have m:=jB.refl w
 go_enter func113,ntmps113
 refine aT fun K1 k1=>aj (pW m O ?_);intro g1 u m;simp only[zz];refine pW m O ?_;intro g2 u m;refine aB aJ (aI (k1 _ _ ?_));try clear k1 K1
 refine aT fun K2 k2=>?_;simp only[zz];refine Ro m 15 aF (by kernel_rfl) ?_;simp only[zy];refine aK (aN dA aA O O (by decide) (by decide) O) ?_;simp only[zz];refine Vk O (fun u m=>((m.b 1 O).lies aH aA O O)) ?_;simp only[zz,zy,ap,aa,ah,ag];refine aK (aN dA aA O O (by decide) (by decide) O) ?_;simp only[zz];refine Vk O (fun u m=>((m.b 0 O).lies aH aA O O)) ?_;simp only[zz,zy,ap,aa,ah,ag];refine Jj O O (Gb (p:=p.a) (q:=q.a)) (aK (aN dA aA O O (by decide) (by decide) O) ?_);simp only[zz];refine Vk O (fun u m=>((m.b 1 O).lies aH aA O O)) ?_;simp only[zz,zy,ap,aa,ah,ag];refine aK (aN dA aA O O (by decide) (by decide) O) ?_;simp only[zz];refine Vk O (fun u m=>((m.b 0 O).lies aH aA O O)) ?_;simp only[zz,zy,ap,aa,ah,ag];refine Jj O O (Gb (p:=p.b) (q:=q.b)) (aK (aN dA aA O O (by decide) (by decide) O) ?_);simp only[zz];refine Vk O (fun u m=>((m.b 1 O).lies aH aA O O)) ?_;simp only[zz,zy,ap,aa,ah,ag];refine aK (aN dA aA O O (by decide) (by decide) O) ?_;simp only[zz];refine Vk O (fun u m=>((m.b 0 O).lies aH aA O O)) ?_;simp only[zz,zy,ap,aa,ah,ag];refine Jj O O (Gb (p:=p.c) (q:=q.c)) (bN ?_);intro u m;simp only[zz];refine acB m Cg (z:=.int .i64 0) (by kernel_rfl) O O O O O O O ?_;intro g3 u m;simp only[zz];refine aaV m O O (aly _ (m.b 0 O)) ?_;intro u m;refine aB aJ (aI (k2 _ _ ?_));try clear k2 K2
 refine ik ?_;simp only[zz];try simp only[bu,Exit.then,if_true]
 refine aY O O ?_;try simp only[zD,zE]
 exact⟨_,O,m.ext,O⟩
theorem ars{p:P3}(h:p.x=q.x∧p.y=q.y∧p.z=q.z):(0:Int)=sA p q:=(oJ.2 (P3.eq h.1 h.2.1 h.2.2)).symm
theorem art{p:P3}(h:p.Lt q):(-1:Int)=sA p q:=(if_pos h).symm
theorem aru{p:P3}(h1:¬(p.x=q.x∧p.y=q.y∧p.z=q.z))(h2:¬p.Lt q):(1:Int)=sA p q:=by
 unfold sA;rcases P3.lt_tri p q with h | h | h
 · exact absurd h h2
 · exact absurd (by rw[h];exact⟨O,O,O⟩) h1
 · rw[if_neg h2,if_pos h]
theorem Up{p:P3}:uU prog 70 [pt p,pt q] (.int .i64 (sA p q)):=by
 intro w;refine⟨bO func70 (by kernel_rfl),?_⟩;have m:=jB.refl w
 go_enter func70,ntmps70
 refine aT fun K1 k1=>aj (pW m O ?_);intro g1 u m;simp only[zz];refine pW m O ?_;intro g2 u m;refine aB aJ (aI (k1 _ _ ?_));try clear k1 K1
 refine aT fun K2 k2=>gh (aT fun K3 k3=>aj ?_);simp only[zz];refine aQ O ((m.b 1 O).full aH aA) ?_;simp only[zz];refine aQ O ((m.b 0 O).full aH aA) ?_;simp only[zz];refine aB (bS O O) (aB aJ (aI (k3 _ _ ?_)));try clear k3 K3
 simp only[zz];refine bK O ?_ ?_<;>intro hc1
 ·
  refine aT fun K4 k4=>aj (aB aJ (aI (k4 _ _ ?_)));try clear k4 K4
  refine ik ?_;simp only[zz];try simp only[bu,Exit.then,if_true]
  refine aY O O ?_;try simp only[zD,zE]
  exact⟨_,O,m.ext,by rw[←ars hc1]⟩
 ·
  refine aT fun K5 k5=>aj (aQ O ((m.b 1 O).full aH aA) ?_);simp only[zz];refine aQ O ((m.b 0 O).full aH aA) ?_;simp only[zz];refine Pr m O O (tL (p:=p) (q:=q)) ?_;intro u m;refine aB aJ (aI (k5 _ _ ?_));try clear k5 K5
  simp only[zz];refine bK O ?_ ?_<;>intro hc2
  ·
   refine aT fun K6 k6=>aj (aB aJ (aI (k6 _ _ ?_)));try clear k6 K6
   refine ik ?_;simp only[zz];try simp only[bu,Exit.then,if_true]
   refine aY O O ?_;try simp only[zD,zE]
   exact⟨_,O,m.ext,by rw[←art hc2]⟩
  ·
   refine g_ (k2 _ _ ?_);try clear k2 K2
   refine aT fun K7 k7=>aj (aB aJ (aI (k7 _ _ ?_)));try clear k7 K7
   refine ik ?_;simp only[zz];try simp only[bu,Exit.then,if_true]
   refine aY O O ?_;try simp only[zD,zE]
   exact⟨_,O,m.ext,by rw[←aru hc1 hc2]⟩
end Go.Proofs.YtfekpcimgncioaaGreatDoor
namespace Go.Proofs.YtfekpcimgncioaaGreatDoor
open Go.Proofs.Tryz
open Go.RowKit Go.Lith
set_option maxRecDepth 100000
attribute [local irreducible] au cq eF bJ cD Code.wp
attribute [local congr] oG fS fT fU fV fW jR fX fY fZ gA gB gC gD gE gF gG gH eM eN gI gJ gL gM gN jT cW cX cA cU gK jS eO eP eQ gQ gR jU
theorem ahZ{w0 w:am}{is:List It}{A:Option Addr}{n cap:Nat}{xs:List T3}(m:Mem w0 w is)(k:Nat)(hi:is[k]? = some (oI 39 9 A n cap (xs.flatMap aP)))(hsz:n<4611686018427387904) :
 Calls prog 112 [.slice A n cap,.func (.func 113) #[] #[]].toArray w fun e w'=>∃v i,e=.returned v∧Mem w0 w' (is.set k i)∧(v=.tuple #[]∧∃ys:List T3,i=oI 39 9 A n cap (ys.flatMap aP)∧ys.Perm xs∧ys.Pairwise fun a b=>ltOf aeJ b a=false) :=
 Ds (enc:=aP) Tryz.sort112 (fun w=>qU dK w) (fun w=>fA aR w) (fun _=>rfl) (by decide) aa5 aeJ alz (fun x y=>aoq) m k hi hsz
theorem aeK{ts ys:List T3}(h:ys.Perm (ts.map eX))(hs:ys.Pairwise fun a b=>Go.Proofs.ltOf aeJ b a=false):ys=dG ts :=
 akq h (hs.imp fun {a b} h k=>by
  have:=(Kj b a).2 k;simp[Go.Proofs.ltOf] at h;omega)
theorem acH{ts:List T3}{N cap:Nat}{A:Option Addr}(w:am)(hT:cJ w A N ts)(hN:N≤10000000):dR prog 55 [.slice A N cap] w (SL 39 9 ((dG ts).flatMap aP) ts.length w):=by
 refine⟨bO func55 (by kernel_rfl),?_⟩;have m:=Mem.refl w;have htl:=hT.len
 go_enter func55,ntmps55
 apply iE 6 [0] m;simp only[↓aD];refine aB aJ ?_;replace m:=m.nilO 39 9;apply aM 9 [0] m;simp only[↓aD,mC];refine cP [3,8] [5,9,10,11,12,13,14,15,16,17] (fun n vs wl=>∃(k:Nat) (A1:Option Addr) (cap1:Nat),vs=[.slice A1 k cap1,.int .i64 (k:Int)]∧Mem w wl [oI 39 9 A1 k cap1 (((ts.take k).map eX).flatMap aP)]∧(k≤N)∧(n=N-k)) ?_ ?_
 ·
  exact⟨_,0,_,_,O,m,bw _,O⟩
 · intro n vs wr hI u K1 hK1
   obtain⟨k,A1,cap1,rfl,m,hk,hn⟩:=hI;simp only[zu,zF,zG];apply aL 5 [0,0] m;simp only[↓aD];refine bK O ?_ ?_<;>intro hc1
   ·
    obtain⟨t,ht,_,a,rfl,hrow⟩:=hT.get (i:=k) (by omega);apply aL 5 [0] m;simp only[↓aD];refine aB (aG bZ aR O O (by omega) (by omega) (bX (ai _))) ?_;simp only[zz];refine aQ O ((hrow.ext m.ext).lies dK aR) ?_;simp only[zz];apply iH 6 [0,0,0] m;simp only[↓aD,nB,iG,aa];intro g1 u m;refine oP m O O My ?_;intro u m;simp only[zz];refine nG O ?_;intro u g2 e_ h_ k_;replace m:=m.newB e_ h_ k_;simp only[zz];refine cS m 2 O O bZ kS O (by decide) O O O (m.b 0 O).rowsO (nQ O) (by omega) (by omega) ?_;intro A1 cap1 u m;simp only[zF,zG] at m;rw[show ((ts.take k).map eX).flatMap aP++_=((ts.take (k+1)).map eX).flatMap aP by rw[cC ht,cz,be];rfl] at m;apply aM 7 [0] m;simp only[↓aD];refine⟨by omega,?_⟩;exact hK1 (N-(k+1)) _ _ (by omega) (by kernel_rfl) ⟨k+1,_,_,O,(m.sel [false,false,true]),by omega,O⟩
   ·
    obtain rfl:k=N:=by omega
    rw[show ts.take k=ts from bf (by omega)] at m;apply aL 4 [0] m;simp only[↓aD];refine nI m 0 (bO func112 (by kernel_rfl)) O O (fun m=>ahZ m 0 O (by omega)) ?_;rintro v i u m ⟨rfl,ys,rfl,hys,hso⟩;simp only[zF,zG] at m;simp only[zz];obtain rfl:=aeK hys hso;apply aM 7 [] m;simp only[↓aD];exact aY O O ⟨_,O,m.ext,⟨_,_,_,htl.symm,O,(m.o 0 O)⟩⟩
end Go.Proofs.YtfekpcimgncioaaGreatDoor
