/-
 Texts of one claim, laid together: RayA, RayR, Meas1, RefG1, Flow, RayQ, Cst, Ref8.
-/
import Derived.Test.YtimjandkmfcmiaaGreatDoorTA6
open Go renaming wp_region_lit→aa,Value→aj,wp_skip→ar,wp_block→av,World→aw,wp_ret→bc,wpList→bh,wp_exit→bw,wpQuiet→ck,wp_loop_rounds→cz
open Nat renaming reduceAdd→ab,reduceMul→ag,zero_add→ah,le_refl→bi,zero_le→cd,lt_or_ge→cn,pow_le_pow_right→eh,add_sub_cancel→fe
open Go.Exit renaming inBlock→ac,«then»→af
open Int renaming reduceToNat→ae,toNat_natCast→an
open Rat renaming divInt→am,le_trans→gh,le_refl→gn,not_lt→ij,intCast_le_intCast→im,le_of_lt→iy,intCast_pos→kn,intCast_neg→li,divInt_eq_div→lw,le_antisymm→mj,intCast_mul→ml
open List renaming getElem?_eq_getElem→ao,getD_cons_succ→ap,getD_cons_zero→aq,set_cons_succ→a_,set_cons_zero→ba,length_append→bg,length_take→bl,mem_cons→bn,take_of_length_le→bp,map_append→br,mem_of_getElem?→cc,mem_cons_self→cu,mem_cons_of_mem→cw,take_length→c_,getElem?_map→db,map_cons→dh,length_map→dj,append_nil→du,mem_of_mem_take→fd,drop_zero→fg,all_eq_true→g_,mem_append_left→ic,map_nil→iw,getD_eq_getElem?_getD→ka
open Bool renaming and_eq_true→bu
open Array renaming getElem?_eq_some_iff→cy,getElem?_eq_getElem→de,getD_eq_getD_getElem?→dm
open Option renaming getD_some→dt,bind_some→ip,bind_eq_some_iff→jf,isSome_some→ko
open Go.Value renaming int→gi
set_option maxHeartbeats 8000000
set_option linter.unusedSimpArgs false
set_option linter.unusedVariables false
set_option linter.unusedSectionVars false
namespace Go.Proofs.YtimjandkmfcmiaaGreatDoor
open Go.Proofs.Tryz
open Go.RowKit Go.Lith
abbrev kW:=@underlying29
abbrev Ie:=@underlying63
set_option maxRecDepth 100000
attribute [local irreducible] bh ck eY eO eJ Code.wp
def rD(a:pQ)(A:Option Addr)(n cap:Nat):Go.Value:=.agg #[.int .i64 a.kind,.bool (cY (a.lo).num),.string (dQ (a.lo).num),.bool (cY ((a.lo).den:Int)),.string (dQ ((a.lo).den:Int)),.bool (cY (a.hi).num),.string (dQ (a.hi).num),.bool (cY ((a.hi).den:Int)),.string (dQ ((a.hi).den:Int)),.bool a.sure,.slice A n cap]
def Zi(a:pQ)(w:aw)(v:Go.Value)(w':aw):Prop:=∃A n cap,v=rD a A n cap∧n=a.opn.length∧Ow w w' [] 3 1 A n cap (a.opn.map (gi .i64 ·))
def Np(xs:List (Nat × Kd)):List Go.Value:=xs.map fun x=>kdV x.1 x.2
def vL:List (Nat × Rat)→Int
 | []=>2
 | _::_=>3
def fO(o:List (Nat × Rat)):List Go.Value:=o.map fun x=>.int .i64 (x.1:Int)
theorem Ku{w:aw}{B:Option Addr}{M:Nat}{bs:List Int}{i:Nat}(hb:dH w B M bs):gY bs i<9223372036854775808:=by
 unfold gY;cases h:bs[i]? with
 | none=>decide
 | some z=>exact (hb.it z (cc h)).2
theorem yZ{bs:List Int}{ls:List (List T3)}(k:Nat):(bU bs (ls.take k)).length≤(ls.take k).flatten.length:=by
 have h1:(ls.take k).flatten=(ls.take k).zipIdx.flatMap fun x=>x.1:=by
  conv=>lhs;rw[←List.zipIdx_map_fst 0 (ls.take k)]
  rw[List.flatMap_def]
 rw[h1];refine Ni fun x _=>?_;split
 · exact bi _
 · exact cd _
theorem Az{ls:List (List T3)}{k:Nat}{l:List T3}(h:ls[k]? = some l):(ls.take k).flatten.length+l.length≤ls.flatten.length:=by
 have e:ls.flatten=(ls.take (k+1)).flatten++(ls.drop (k+1)).flatten:=by rw[←List.flatten_append,List.take_append_drop]
 rw[e,oJ h,List.flatten_append,bg,bg];simp
theorem rF{bs:List Int}{ls:List (List T3)}:∀k,(cG bs (ls.take k)).length≤k:=by
 intro k
 induction k with
 | zero=>simp[cG]
 | succ k ih =>
  cases h:ls[k]? with
  | none =>
   have:ls.take (k+1)=ls.take k:=by rw[bp (by have:=List.getElem?_eq_none_iff.1 h;omega),bp (by have:=List.getElem?_eq_none_iff.1 h;omega)]
   rw[this];omega
  | some l =>
   rw[oL h,bg];split <;> (simp;omega)
theorem mO{r:gJ}{h:Option (Rat × Nat)}:∀(xs:List (Nat × Kd)),(dB r h xs).length≤xs.length
 | []=>bi _
 | x::xs=>by
  have h1:=mO (r:=r) (h:=h) xs;have h2:=Hz (r:=r) (h:=h) (x:=x);unfold dB at h1 ⊢;rw[List.flatMap_cons,bg,List.length_cons];omega
theorem aca(r:gJ)(h:Option (Rat × Nat))(x:Nat × Kd):(jO r x.2=none∧pG r h x=[])∨(∃q,jO r x.2=some q∧h=none∧pG r h x=[(x.1,q)]) ∨
 ∃q t k,jO r x.2=some q∧h=some (t,k)∧pG r h x=if q<t then [(x.1,q)] else []:=by
 cases e:jO r x.2 with
 | none=>exact .inl ⟨rfl,by simp only[pG,e]⟩
 | some q =>
  cases h with
  | none=>exact .inr (.inl ⟨q,rfl,rfl,by simp only[pG,e]⟩)
  | some y=>exact .inr (.inr ⟨q,y.1,y.2,rfl,rfl,by simp only[pG,e]⟩)
theorem kd5(l:List T3)(z:Int):sG l z=.no∨sG l z=.ex∨sG l z=.unk∨∃lo hi,sG l z=.near lo hi:=by
 cases sG l z with
 | no=>exact .inl rfl
 | ex=>exact .inr (.inl rfl)
 | unk=>exact .inr (.inr (.inl rfl))
 | near lo hi=>exact .inr (.inr (.inr ⟨lo,hi,rfl⟩))
theorem zW{o:List (Nat × Rat)}(h:o≠[]):vL o=3:=by
 cases o with
 | nil=>exact absurd rfl h
 | cons=>rfl
theorem gR{o:List (Nat × Rat)}{x:Nat × Rat}:vL (o++[x])=3:=zW (by simp)
theorem ok3(r:gJ):r.w≤0∨(0<r.w∧r.d.x=0∧r.d.y=0∧r.d.z=0)∨r.ok:=by
 by_cases h:r.w≤0
 · exact .inl h
 ·
  by_cases hd:r.d.x=0∧r.d.y=0∧r.d.z=0
  · exact .inr (.inl ⟨by omega,hd⟩)
  · exact .inr (.inr ⟨by omega,hd⟩)
theorem Zj(o:List (Nat × Rat)):Na none o=⟨vL o,tJ o,0,false,o.map fun x=>(x.1:Int)⟩:=by
 cases o <;> rfl
theorem Zk{t:Rat}{k:Nat}{o:List (Nat × Rat)}(h:o≠[]):Na (some (t,k)) o=⟨3,tJ o,t,true,o.map fun x=>(x.1:Int)⟩:=if_pos h
theorem adV{r:gJ}{lo hi:P3}[IR r][I3 lo][I3 hi](hok:r.ok):∀(k:Nat) (st:Rat × Option Rat),Ae r lo hi k=some st→Bq 400000 st.1∧BqO st.2:=by
 have hv:∀(p:P3) [I3 p] (k:Nat),Bd 129 ((r.to p).at k):=fun p _ k=>by
  have h:Bv 129 (r.to p):=inferInstance;unfold P3.at;split
  · exact h.x
  · exact h.y
  · exact h.z
 have hd:∀k:Nat,Bd 64 (r.d.at k):=fun k=>by
  have h:I3 r.d:=inferInstance;unfold P3.at;split
  · exact h.x.bd
  · exact h.y.bd
  · exact h.z.bd
 intro k
 induction k with
 | zero=>intro st e;cases e;exact⟨⟨jT _,yM.mono (by decide)⟩,fun q h=>by cases h⟩
 | succ k ih =>
  intro st e;rw[Ae] at e;obtain⟨s,hs,e⟩:=jf.1 e;obtain⟨h1,h2⟩:=ih s hs;unfold axR at e;split at e
  · cases e
  ·
   split at e
   · cases e;exact⟨h1,h2⟩
   ·
    rename_i hne;cases e;have hF:Bq 400000 (Gp r ((r.to lo).at k) ((r.to hi).at k) (r.d.at k)):=by
     unfold Gp;split
     · exact Cc (hv hi k) (hd k) hne hok
     · exact Cc (hv lo k) (hd k) hne hok
    have hT:Bq 400000 (Es r ((r.to lo).at k) ((r.to hi).at k) (r.d.at k)):=by
     unfold Es;split
     · exact Cc (hv lo k) (hd k) hne hok
     · exact Cc (hv hi k) (hd k) hne hok
    exact⟨adK h1 hF,kC (adL h2 hT)⟩
theorem adW{r:gJ}{lo hi:P3}{p q:Rat}[IR r][I3 lo][I3 hi](h:oK r lo hi=some (p,q)):Bq 400000 p∧Bq 400000 q:=by
 unfold oK at h;split at h
 ·
  rename_i hok;obtain⟨s,hs,e⟩:=jf.1 h;obtain⟨h1,h2⟩:=adV hok 3 s hs;split at e
  · cases e
  ·
   rename_i x hx;split at e
   · cases e
   · cases e;exact⟨h1,h2 _ hx⟩
 · cases h
theorem tD{r:gJ}{kd:Kd}{q:Rat}[IR r](hk:Qg kd)(h:jO r kd=some q):Bq 400000 q:=by
 cases kd with
 | no=>cases h
 | ex=>cases h
 | unk=>cases h;exact⟨jT _,yM.mono (by decide)⟩
 | near lo hi =>
  obtain⟨h1,h2⟩:=hk;rw[jO] at h;obtain⟨x,hx,rfl⟩:=Option.map_eq_some_iff.1 h;exact (adW (p:=x.1) (q:=x.2) hx).1
theorem Sj{r:gJ}{h:Option (Rat × Nat)}{xs:List (Nat × Kd)}[IR r](hk:∀x∈xs,Qg x.2):Bq 400000 (tJ (dB r h xs)):=by
 by_cases ho:dB r h xs=[]
 · rw[ho];exact⟨jT _,yM.mono (by decide)⟩
 ·
  obtain⟨x,hx,e⟩:=aa8 ho;rw[e];obtain⟨kd,hm,hb,_⟩:=Ng.1 (show (x.1,x.2)∈_ from hx);exact tD (hk _ hm) hb
theorem Sk:Bq 400000 (0:Rat):=⟨jT _,yM.mono (by decide)⟩
theorem Zl:fI prog 65 1:=eS (by kernel_rfl)
theorem adX:iS prog 65 false:=fP _ underlying65 rfl
theorem Zm:(prog.info? 65).map (fun i=>(i.size,i.bytes,i.zero))=some (1,16,some .nilIface):=by kernel_rfl
theorem zX{r:gJ}[IR r]{N cap M bcap:Nat}{A B:Option Addr}{xs:List (List T3)}{bs:List Int}(w:aw)(hS:fZ w A N xs)(hb:dH w B M bs)(hN:N≤1000000)(hT:xs.flatten.length≤1099511627776)(hL:∀l∈xs,l.length≤300000):gZ prog 15 [kK r,.slice A N cap,.slice B M bcap] w (Zi (iO r xs bs) w):=by
 refine⟨aeh,?_⟩;have m:=cK.refl w;have hIT:∀t∈bU bs xs,IT t:=fun t ht=>by obtain⟨i,l,hi,_,hl⟩:=Nf.1 ht;obtain⟨_,_,_,_,hq,_⟩:=hS.row i l hi;exact hq.it t hl
 have hko:∀x∈cG bs xs,Qg x.2:=fun x hx=>by obtain⟨l,hl,e,_⟩:=Eu.1 (show (x.1,x.2)∈_ from hx);obtain⟨_,_,_,_,hq,_⟩:=hS.row _ l hl;rw[e];exact Sg hq.it (Ku hb)
 have hsl:=hS.len
 go_enter func15,ntmps15
 refine aF fun K1 k1=>aa (cQ m rfl ?_);clear m;intro g1 u m;simp only[zz];refine bE m rL rfl ?_;clear m;intro g2 u m;refine aC (k1 _ _ ?_);refine aF fun K2 k2=>aa ?_;simp only[zz];refine aX m rfl rfl Ks ?_;clear m;intro u m;simp only[zz];refine aX m rfl rfl Ks ?_;clear m;intro u m;refine aA (lV rfl rfl rfl) ?_;simp only[zz];refine bE m rL rfl ?_;clear m;intro g3 u m;simp only[zz];refine aN m 0 rfl rfl rfl eI (bZ rfl) rfl ?_;clear m;intro u m;simp only[zy,zx,aW,zF,zG,ab] at m;refine aC (k2 _ _ ?_);refine aF fun K3 k3=>aF fun K4 k4=>?_;rcases ok3 r with hw | ⟨hw,hd⟩ | hok
 ·
  have hno:¬r.ok:=fun h=>by have:=h.1;omega
  refine aa (aA (aG (c:=0) gE rfl aM rfl rfl) ?_);simp only[zz];refine aI rfl ((m.b 2 rfl).lies1 aV rfl) ?_;simp only[zz];refine aA (Oj rfl rfl (by omega)) (aA aB (bK rfl (bK rfl ?_)));simp only[zz];refine bK rfl (bK rfl (aA (cT rfl) (aC (k4 _ _ ?_))));refine bX rfl (aF fun K5 k5=>aa ?_);simp only[zz];refine aI rfl ((m.b 0 rfl).full jX eI) ?_;simp only[zz];refine aN m 1 rfl rfl rfl eI (bZ rfl) rfl ?_;clear m;intro u m;simp only[zy,zx,aW,zF,zG,ab] at m;refine aC (k5 _ _ ?_);refine bc ?_;try simp only[ac,af,if_true]
  refine bY rfl ⟨_,rfl,((m.b 1 rfl).full jX eI)⟩ ?_;try simp only[zD,zE]
  exact⟨_,rfl,m.ext,_,_,_,by rw[iO,if_neg hno];rfl,by rw[iO,if_neg hno];rfl,by rw[iO,if_neg hno];exact Ow.nil _ _ _ _⟩
 ·
  have hno:¬r.ok:=fun h=>h.2 hd;refine aa (aA (aG (c:=0) gE rfl aM rfl rfl) ?_);simp only[zz];refine aI rfl ((m.b 2 rfl).lies1 aV rfl) ?_;simp only[zz];refine aA (Dh rfl rfl (by omega)) (aA aB (aR rfl (aA (aG (c:=2) gE rfl cZ rfl rfl) (aR rfl ?_))));simp only[zz];refine aI rfl ((m.b 2 rfl).lies oF cZ rfl rfl) ?_;simp only[zz,zy,ah,ab,ag,ae];refine aR rfl (aA oV (aR rfl (aA (xR (vT rfl rfl) (kZ (decide_eq_true hd))) (aA (cV rfl) (aC (k4 _ _ ?_))))));refine bX rfl (aF fun K6 k6=>aa ?_);simp only[zz];refine aI rfl ((m.b 0 rfl).full jX eI) ?_;simp only[zz];refine aN m 1 rfl rfl rfl eI (bZ rfl) rfl ?_;clear m;intro u m;simp only[zy,zx,aW,zF,zG,ab] at m;refine aC (k6 _ _ ?_);refine bc ?_;try simp only[ac,af,if_true]
  refine bY rfl ⟨_,rfl,((m.b 1 rfl).full jX eI)⟩ ?_;try simp only[zD,zE]
  exact⟨_,rfl,m.ext,_,_,_,by rw[iO,if_neg hno];rfl,by rw[iO,if_neg hno];rfl,by rw[iO,if_neg hno];exact Ow.nil _ _ _ _⟩
 ·
  have hw:=hok.1;refine aa (aA (aG (c:=0) gE rfl aM rfl rfl) ?_);simp only[zz];refine aI rfl ((m.b 2 rfl).lies1 aV rfl) ?_;simp only[zz];refine aA (Dh rfl rfl (by omega)) (aA aB (aR rfl (aA (aG (c:=2) gE rfl cZ rfl rfl) (aR rfl ?_))));simp only[zz];refine aI rfl ((m.b 2 rfl).lies oF cZ rfl rfl) ?_;simp only[zz,zy,ah,ab,ag,ae];refine aR rfl (aA oV (aR rfl (aA (xR (vT rfl rfl) (kZ (decide_eq_false hok.2))) (aA (cV rfl) (aC (k4 _ _ ?_))))));refine eZ rfl (ar (k3 _ _ ?_));refine aF fun K7 k7=>aa (aA aD ?_);simp only[zz];replace m:=m.nilO 58 9;refine aC (k7 _ _ ?_);refine aF fun K8 k8=>aa (aA aD ?_);replace m:=m.nilO 65 1;refine aC (k8 _ _ ?_);refine aF fun K9 k9=>aF fun K10 k10=>aa (aA aB (aA (bR rfl kW rfl) (aA aB ?_)));simp only[zz];refine aC (k10 _ _ ?_);refine av ?_;try simp only[ah,ab,ag,ae]
  refine dI [8,9,36] [10,11,12,13,14,37,38,39,40,41,42,43,44,45,46,47,48,49,50,51,52,53,54,55,56] (fun n vs wl=>∃(k n1 n2 cap1 cap2:Nat) (A1 A2:Option Addr),vs=[.slice A1 n1 cap1,.slice A2 n2 cap2,.int .i64 (k:Int)]∧cK w wl [oI 65 1 A2 n2 cap2 (Np (cG bs (xs.take k))),oI 58 9 A1 n1 cap1 ((bU bs (xs.take k)).flatMap cX),bI g3 [.int .i64 2,.bool (cY ((0:Rat)).num),.string (dQ ((0:Rat)).num),.bool (cY (((0:Rat)).den:Int)),.string (dQ (((0:Rat)).den:Int)),.bool (cY ((0:Rat)).num),.string (dQ ((0:Rat)).num),.bool (cY (((0:Rat)).den:Int)),.string (dQ (((0:Rat)).den:Int)),.bool false,.slice none 0 0] 39,bI g2 [.int .i64 0,.bool false,.string ⟨#[]⟩,.bool false,.string ⟨#[]⟩,.bool false,.string ⟨#[]⟩,.bool false,.string ⟨#[]⟩,.bool false,.slice none 0 0] 39,bI g1 [.int .i64 r.s.x,.int .i64 r.s.y,.int .i64 r.s.z,.int .i64 r.w,.int .i64 r.d.x,.int .i64 r.d.y,.int .i64 r.d.z] 25]∧(n1=(bU bs (xs.take k)).length)∧(n2=(cG bs (xs.take k)).length)∧(k≤N)∧(n=N-k)) ?_ ?_
  ·
   apply Exists.intro;simp only[zQ,zR,zD,zE];exact⟨0,_,_,_,_,_,_,rfl,m,rfl,rfl,cd _,rfl⟩
  ·
   intro n vs wr hI u;clear m;obtain⟨k,n1,n2,cap1,cap2,A1,A2,rfl,m,hn1,hn2,hk,hn⟩:=hI;simp only[zu,zF,zG];refine aF fun K11 k11=>aa (aA (dZ rfl rfl) (aC (k11 _ _ ?_)));refine aF fun K12 k12=>?_;simp only[zz];refine cW rfl (fun hc2=>?_) (fun hc2=>?_)
   ·
    obtain⟨l,hl,a,Bl,nl,cl,rfl,hcell,hTl,hle⟩:=hS.get (i:=k) (by omega);refine ar (k12 _ _ ?_);refine aF fun K13 k13=>av (aF fun K14 k14=>aa (aA aB ?_));simp only[zz];refine aA (aS kW nM rfl rfl (by omega) (by omega) (fH (an _))) ?_;simp only[zz];refine aI rfl (Lith.lies1 (m.ext.cell hcell) Jb) ?_;simp only[zz];refine aA aD (aA aD (aC (k14 _ _ ?_)));refine aF fun K15 k15=>aa (aA aB (aA aB ?_));simp only[zz];refine aA aB ?_;simp only[zz];refine fJ m rfl rfl (adU (i:=k) (l:=l) (bs:=bs) _ (by omega) (hTl.ext m.ext) (by rw[←hTl.len];exact hL l (cc hl)) (hb.ext m.ext)) ?_;clear m;rintro v u m rfl;refine aC (k15 _ _ ?_);refine av (aF fun K16 k16=>?_);simp only[zz];rcases kd5 l (gY bs k) with hkd | hkd | hkd | ⟨lo,hi,hkd⟩
    ·
     rw[hkd];have hs1:bU bs (xs.take (k+1))=bU bs (xs.take k):=by rw[qL hl,hkd];exact du _
     have hr1:cG bs (xs.take (k+1))=cG bs (xs.take k):=by rw[oL hl,hkd];exact du _
     refine aa (aA (abm underlying65 rfl) (aC (k16 _ _ ?_)));refine bX rfl (aa (aA aD (aC (k13 _ _ ?_))));refine aa ?_;simp only[zz];refine aA (aZ rfl rfl (aO (by omega) (by omega))) (aA aB (aC ?_));simp only[zz];simp only[ac,af];refine⟨N-(k+1),_,?_,rfl,?_,?_⟩
     · omega
     · simp only[zz,zv]
     ·
      simp only[zQ,zR,zD,zE];exact⟨k+1,_,_,_,_,_,_,rfl,((m.reO 1 rfl (by rw[hs1];exact (m.o 1 rfl))).reO 0 rfl (by rw[hr1];exact (m.o 0 rfl))),by rw[hs1];exact hn1,by rw[hr1];exact hn2,by omega,rfl⟩
    ·
     rw[hkd];have hs1:bU bs (xs.take (k+1))=bU bs (xs.take k)++l:=by rw[qL hl,hkd];rfl
     have hr1:cG bs (xs.take (k+1))=cG bs (xs.take k):=by rw[oL hl,hkd];exact du _
     refine aa (aA (Kp underlying65 rfl) (aC (k16 _ _ ?_)));refine eZ rfl (aF fun K17 k17=>aa (aA (Aw (by kernel_rfl) rfl) (aA (aU rfl rfl) (aA (aU rfl rfl) ?_))));simp only[zz];refine aC (k17 _ _ ?_);refine bX rfl (aF fun K18 k18=>aa (bE m Ck rfl ?_));clear m;intro g4 u m;simp only[zz];refine aN m 0 rfl rfl rfl Wc (bZ rfl) rfl ?_;clear m;intro u m;simp only[zy,zx,aW,zF,zG,ab] at m;refine aC (k18 _ _ ?_);have hsl1:=yZ (bs:=bs) (ls:=xs) k;have hsl2:=Az hl;have hsl3:=hTl.len;refine aa (aA aB (aA aB ?_));simp only[zz];refine eM m 2 rfl rfl iW rX rfl (by decide) rfl rfl (by rw[Ct,hTl.len]) (dX.cells (hTl.ext m.ext)) (oZ _) (by omega) (by omega) ?_;clear m;intro A1 cap1 u m;simp only[zF,zG] at m;refine aA aD (aC (k13 _ _ ?_));refine aa ?_;simp only[zz];refine aA (aZ rfl rfl (aO (by omega) (by omega))) (aA aB (aC ?_));simp only[zz];simp only[ac,af];refine⟨N-(k+1),_,?_,rfl,?_,?_⟩
     · omega
     · simp only[zz,zv]
     ·
      simp only[zQ,zR,zD,zE];exact⟨k+1,_,_,_,_,_,_,rfl,(((m.reO 2 rfl (by rw[hs1,List.flatMap_append];exact (m.o 2 rfl))).reO 1 rfl (by rw[hr1];exact (m.o 1 rfl))).sel [false,true,true,true,true,true]),by rw[hs1,bg,hn1,hTl.len],by rw[hr1];exact hn2,by omega,rfl⟩
    ·
     rw[hkd];have hs1:bU bs (xs.take (k+1))=bU bs (xs.take k):=by rw[qL hl,hkd];exact du _
     have hr1:cG bs (xs.take (k+1))=cG bs (xs.take k)++[(k,.unk)]:=by rw[oL hl,hkd];rfl
     refine aa (aA (Kp underlying65 rfl) (aC (k16 _ _ ?_)));refine eZ rfl (aF fun K19 k19=>aa (aA (Ax (by kernel_rfl) Ck (by decide) rfl) (aA (aU rfl rfl) (aA (aU rfl rfl) ?_))));simp only[zz];refine aC (k19 _ _ ?_);refine eZ rfl (aF fun K20 k20=>aa (aA aD (aC (k20 _ _ ?_))));simp only[zz];have hrl:=rF (bs:=bs) (ls:=xs) k;refine aa (aA aB (aA aB ?_));simp only[zz];refine cN Ie (z:=.nilIface) (by kernel_rfl) rfl rfl rfl ?_;intro u g4 e hg hB;replace m:=m.newB e hg hB;clear e hg hB;simp only[zz];refine eM m 1 rfl rfl Ie Zm rfl (by decide) rfl rfl rfl (m.b 0 rfl).rowsO (lY rfl) (by omega) (by omega) ?_;clear m;intro A2 cap2 u m;simp only[zF,zG] at m;refine aA aD (aC (k13 _ _ ?_));refine aa ?_;simp only[zz];refine aA (aZ rfl rfl (aO (by omega) (by omega))) (aA aB (aC ?_));simp only[zz];simp only[ac,af];refine⟨N-(k+1),_,?_,rfl,?_,?_⟩
     · omega
     · simp only[zz,zv]
     ·
      simp only[zQ,zR,zD,zE];exact⟨k+1,_,_,_,_,_,_,rfl,(((m.reO 2 rfl (by rw[hs1];exact (m.o 2 rfl))).reO 1 rfl (by rw[hr1];exact (m.o 1 rfl).as (by rw[Np,Np,br];rfl))).sel [false,true,true,true,true,true]),by rw[hs1];exact hn1,by rw[hr1,bg,hn2];rfl,by omega,rfl⟩
    ·
     rw[hkd];have hs1:bU bs (xs.take (k+1))=bU bs (xs.take k):=by rw[qL hl,hkd];exact du _
     have hr1:cG bs (xs.take (k+1))=cG bs (xs.take k)++[(k,.near lo hi)]:=by rw[oL hl,hkd];rfl
     refine aa (aA (Kp underlying65 rfl) (aC (k16 _ _ ?_)));refine eZ rfl (aF fun K21 k21=>aa (aA (Ax (by kernel_rfl) Ck (by decide) rfl) (aA (aU rfl rfl) (aA (aU rfl rfl) ?_))));simp only[zz];refine aC (k21 _ _ ?_);refine eZ rfl (aF fun K22 k22=>aa (aA aD (aC (k22 _ _ ?_))));simp only[zz];have hrl:=rF (bs:=bs) (ls:=xs) k;refine aa (aA aB (aA aB ?_));simp only[zz];refine cN Ie (z:=.nilIface) (by kernel_rfl) rfl rfl rfl ?_;intro u g4 e hg hB;replace m:=m.newB e hg hB;clear e hg hB;simp only[zz];refine eM m 1 rfl rfl Ie Zm rfl (by decide) rfl rfl rfl (m.b 0 rfl).rowsO (lY rfl) (by omega) (by omega) ?_;clear m;intro A2 cap2 u m;simp only[zF,zG] at m;refine aA aD (aC (k13 _ _ ?_));refine aa ?_;simp only[zz];refine aA (aZ rfl rfl (aO (by omega) (by omega))) (aA aB (aC ?_));simp only[zz];simp only[ac,af];refine⟨N-(k+1),_,?_,rfl,?_,?_⟩
     · omega
     · simp only[zz,zv]
     ·
      simp only[zQ,zR,zD,zE];exact⟨k+1,_,_,_,_,_,_,rfl,(((m.reO 2 rfl (by rw[hs1];exact (m.o 2 rfl))).reO 1 rfl (by rw[hr1];exact (m.o 1 rfl).as (by rw[Np,Np,br];rfl))).sel [false,true,true,true,true,true]),by rw[hs1];exact hn1,by rw[hr1,bg,hn2];rfl,by omega,rfl⟩
   ·
    have hkN:xs.take k=xs:=bp (by omega);rw[hkN] at m hn1 hn2;have hrl:=rF (bs:=bs) (ls:=xs) xs.length;rw[c_] at hrl;have hsl1:=yZ (bs:=bs) (ls:=xs) xs.length;rw[c_] at hsl1;refine bw (k9 _ _ ?_);refine aF fun K23 k23=>aa (aI rfl ((m.b 4 rfl).full fR dG) ?_);simp only[zz];refine aA aB ?_;simp only[zz];refine fJ m rfl rfl (Pz (ts:=bU bs xs) _ ((m.o 1 rfl).tris hIT) (by omega)) ?_;clear m;rintro v u m rfl;refine aA aB (aA (aU rfl rfl) (aA (aU rfl rfl) ?_));simp only[zz];refine bE m rM rfl ?_;clear m;intro g4 u m;simp only[zz];refine aN m 0 rfl rfl rfl kA (bZ rfl) rfl ?_;clear m;intro u m;simp only[zy,zx,aW,zF,zG,ab] at m;refine aA aD (aC (k23 _ _ ?_));refine aF fun K24 k24=>aF fun K25 k25=>?_;simp only[zz];replace m:=m.nilO 3 1;have hn3:=rF (bs:=bs) (ls:=xs) xs.length;rw[c_] at hn3;refine aa (aA aB (aA (bR rfl Ie rfl) (aA aB (aC (k25 _ _ ?_)))));refine av ?_;simp only[zz];try simp only[ah,ab,ag,ae]
    refine dI [65] [18,19,20,66,67,68,69,70,71,72,73,74,75,76,77,78,79,80,81,82,83,84,85,86,87,88,89,90,91,92,93,94,95,96,97,98,99,100,101,102,103,104,105,106,107] (fun n vs wl=>∃(k n3 cap3:Nat) (A3:Option Addr),vs=[.int .i64 (k:Int)]∧cK w wl [oI 3 1 A3 n3 cap3 (fO (dB r (bH r (bU bs xs)) ((cG bs xs).take k))),bI g4 [.bool (cY (mZ (bH r (bU bs xs))).num),.string (dQ (mZ (bH r (bU bs xs))).num),.bool (cY ((mZ (bH r (bU bs xs))).den:Int)),.string (dQ ((mZ (bH r (bU bs xs))).den:Int)),.int .i64 (adE (bH r (bU bs xs)):Int)] 43,oI 65 1 A2 n2 cap2 (Np (cG bs xs)),oI 58 9 A1 n1 cap1 ((bU bs xs).flatMap cX),bI g3 [.int .i64 (vL (dB r (bH r (bU bs xs)) ((cG bs xs).take k))),.bool (cY (tJ (dB r (bH r (bU bs xs)) ((cG bs xs).take k))).num),.string (dQ (tJ (dB r (bH r (bU bs xs)) ((cG bs xs).take k))).num),.bool (cY ((tJ (dB r (bH r (bU bs xs)) ((cG bs xs).take k))).den:Int)),.string (dQ ((tJ (dB r (bH r (bU bs xs)) ((cG bs xs).take k))).den:Int)),.bool (cY ((0:Rat)).num),.string (dQ ((0:Rat)).num),.bool (cY (((0:Rat)).den:Int)),.string (dQ (((0:Rat)).den:Int)),.bool false,.slice A3 n3 cap3] 39,bI g2 [.int .i64 0,.bool false,.string ⟨#[]⟩,.bool false,.string ⟨#[]⟩,.bool false,.string ⟨#[]⟩,.bool false,.string ⟨#[]⟩,.bool false,.slice none 0 0] 39,bI g1 [.int .i64 r.s.x,.int .i64 r.s.y,.int .i64 r.s.z,.int .i64 r.w,.int .i64 r.d.x,.int .i64 r.d.y,.int .i64 r.d.z] 25]∧(n3=(dB r (bH r (bU bs xs)) ((cG bs xs).take k)).length)∧(k≤n2)∧(n=n2-k)) ?_ ?_
    ·
     apply Exists.intro;simp only[zQ,zR,zD,zE];exact⟨0,0,0,none,rfl,m,rfl,cd _,rfl⟩
    ·
     intro n vs wr hI u;clear m;obtain⟨k,n3,cap3,A3,rfl,m,hn3,hk,hn⟩:=hI;simp only[zu,zF,zG];refine aF fun K26 k26=>aa (aA (dZ rfl rfl) (aC (k26 _ _ ?_)));refine aF fun K27 k27=>?_;simp only[zz];refine cW rfl (fun hc5=>?_) (fun hc5=>?_)
     ·
      obtain⟨gO,rfl⟩:=(m.o 2 rfl).some (by omega);obtain⟨⟨i,kd⟩,hx⟩:∃x,(cG bs xs)[k]? = some x:=⟨_,ao (by omega)⟩
      have hx2:(Np (cG bs xs))[k]? = some (kdV i kd):=by rw[Np,db,hx];rfl
      have hot:kd.other=true:=(Eu.1 (cc hx)).choose_spec.2.2;have hkd:Qg kd:=hko _ (cc hx);refine ar (k27 _ _ ?_);refine aF fun K28 k28=>av (aF fun K29 k29=>aa (aA (aS Ie Zl rfl rfl (by omega) (by omega) (fH (an _))) ?_));simp only[zz];refine aI rfl (Lith.lies1 ((m.o 2 rfl).rows k _ hx2) adX) ?_;simp only[zz];refine aA aD (aC (k29 _ _ ?_));refine aF fun K30 k30=>aa ?_;simp only[zz];refine aI rfl ((m.b 6 rfl).full fR dG) ?_;simp only[zz];refine aA aB ?_;simp only[zz];refine aX m rfl rfl (abo (r:=r) (i:=i) (kd:=kd) hot hkd) ?_;clear m;intro u m;refine aA aB (aA (aU rfl rfl) (aA (aU rfl rfl) ?_));simp only[zz];refine bE m cF rfl ?_;clear m;intro g5 u m;simp only[zz];refine aN m 0 rfl rfl rfl aK (bZ rfl) rfl ?_;clear m;intro u m;simp only[zy,zx,aW,zF,zG,ab] at m;refine aA aD (aC (k30 _ _ ?_));refine aF fun K31 k31=>aF fun K32 k32=>?_;simp only[zz];rcases aca r (bH r (bU bs xs)) (i,kd) with ⟨hq,ho4⟩ | ⟨q,hq,hh,ho4⟩ | ⟨q,t,kk,hq,hh,ho4⟩
      ·
       have hq:jO r kd=none:=hq;have hon:dB r (bH r (bU bs xs)) ((cG bs xs).take (k+1))=dB r (bH r (bU bs xs)) ((cG bs xs).take k):=by rw[wC hx,ho4,du]
       rw[hq];simp only[Option.isSome_none,Option.getD_none];refine aa (aA aB (aA (fM rfl) (aA aB (bK rfl ?_))));simp only[zz];refine bK rfl (dY rfl (dY rfl (dY rfl ?_)));simp only[zz];refine dY rfl (dY rfl (bK rfl (aA (cT rfl) ?_)));simp only[zz];refine aC (k32 _ _ ?_);refine bX rfl (bw (k28 _ _ ?_));refine aa (aA (aZ rfl rfl (aO (by omega) (by omega))) (aA aB (aC ?_)));simp only[zz];simp only[ac,af];refine⟨n2-(k+1),_,?_,rfl,?_,?_⟩
       · omega
       · simp only[zz,zv]
       ·
        simp only[zQ,zR,zD,zE];exact⟨k+1,_,_,_,rfl,(((m.re 5 rfl (by rw[hon];exact (m.b 5 rfl))).reO 1 rfl (by rw[hon];exact (m.o 1 rfl))).sel [false,true,true,true,true,true,true,true]),by rw[hon];exact hn3,by omega,rfl⟩
      ·
       have hq:jO r kd=some q:=hq;have hon:dB r (bH r (bU bs xs)) ((cG bs xs).take (k+1))=dB r (bH r (bU bs xs)) ((cG bs xs).take k)++[(i,q)]:=by rw[wC hx,ho4]
       rw[hq];rw[hq] at m;simp only[ko,dt] at m ⊢;refine aa (aA aB (aA (fM rfl) (aA aB (aR rfl ?_))));simp only[zz];refine aA (xR aB (show (Value.bool (bH r (bU bs xs)).isSome)=.bool false by rw[hh];rfl)) (aR rfl (aA aB (bO rfl (bO rfl ?_))));simp only[zz];refine bO rfl (bO rfl (bO rfl (aR rfl (aA (cV rfl) ?_))));simp only[zz];refine aA (cV rfl) (aC (k32 _ _ ?_));refine eZ rfl (ar (k31 _ _ ?_));refine aF fun K33 k33=>aF fun K34 k34=>?_;simp only[zz];rcases Decidable.em (dB r (bH r (bU bs xs)) ((cG bs xs).take k)=[]) with hoe | hoe
       ·
        have hlo:tJ (dB r (bH r (bU bs xs)) ((cG bs xs).take (k+1)))=q:=by rw[hon,hoe];rfl
        rw[show vL (dB r (bH r (bU bs xs)) ((cG bs xs).take k))=2 by rw[hoe];rfl] at m;refine aa (aA (aG (c:=0) dF rfl aM rfl rfl) ?_);simp only[zz];refine aI rfl ((m.b 5 rfl).lies1 aV rfl) ?_;simp only[zz];refine aA (wU rfl rfl (by decide)) (aA aB (bK rfl (bK rfl ?_)));simp only[zz];refine bK rfl (bK rfl (bK rfl (aA (cT rfl) ?_)));simp only[zz];refine aC (k34 _ _ ?_);refine bX rfl (aa (aI rfl ((m.b 0 rfl).full bF aK) ?_));simp only[zz];refine aA (aG (c:=3) dF rfl aK rfl rfl) ?_;simp only[zz];refine aN (off:=1) m 5 rfl rfl rfl aK (bZ rfl) rfl ?_;clear m;intro u m;simp only[zy,zx,aW,zF,zG,ab] at m;refine aC (k33 _ _ ?_);refine aF fun K35 k35=>aa (aA (aG (c:=0) dF rfl aM rfl rfl) ?_);simp only[zz];refine dL m 5 rfl rfl rfl aM (bZ rfl) ⟨rfl,rfl⟩ ?_;clear m;intro u m;simp only[zz,zy,zx,aW,ab] at m;refine aC (k35 _ _ ?_);have hol:=mO (r:=r) (h:=bH r (bU bs xs)) ((cG bs xs).take k);rw[bl] at hol;refine lG m [true,false,true,true,true,false,true,true] (.take 0 (.take 2 (.two 1 (.one 3 (.one 4 (.one 5 (.take 6 (.one 7 .nil))))) 3 (.two 1 (.one 4 (.one 5 (.take 6 (.one 7 .nil)))) 4 (.one 1 (.one 5 (.take 6 (.one 7 .nil)))))))) aP (by kernel_rfl) (dJ (fun _ _ _ _ _ h=>h)) ?_;clear m;intro u m;refine aY (by simp only[zw];rfl) (bA (aG (c:=0) dF rfl bW rfl rfl) (bB (aY (by simp only[zw];rfl) (bA aB (bB ?_)))));simp only[zz];refine iM (by simp only[zw];rfl) (by simp only[zw];rfl) ?_ ?_
        ·
         refine aI rfl ((m.b 5 rfl).lies1 fQ rfl) ?_;simp only[zz];refine aC (⟨m.sel [true,false,true,true,true,false,true,true],?_⟩);refine bQ (by simp only[zw];rfl) ?_;refine pR m rfl (pS hot) lJ ?_;clear m;intro u m;refine aC (⟨m.sel [true,false,true,true,true,false,true,true],?_⟩);refine bQ (by simp only[zw];rfl) ?_;simp only[zz];refine cN bM (z:=.int .i64 0) (by kernel_rfl) rfl rfl rfl ?_;intro u g6 e hg hB;replace m:=m.newB e hg hB;clear e hg hB;refine aC (⟨m.sel [false,true,false,true,true,true,false,true,true],?_⟩);refine bQ (by simp only[zw];rfl) ?_;simp only[zz];refine eM m 2 rfl rfl bM iF rfl (by decide) rfl rfl rfl (m.b 0 rfl).rowsO (lY rfl) (by omega) (by omega) ?_;clear m;intro A3 cap3 u m;simp only[zF,zG] at m;refine aC (⟨m.sel [false,true,false,true,true,true,false,true,true],?_⟩);refine aY (by simp only[zw];rfl) (bA (aG (c:=0) dF rfl bW rfl rfl) (bB (bQ (by simp only[zw];rfl) ?_)));simp only[zz];refine dL (off:=10) m 6 rfl rfl rfl bW (bZ rfl) ⟨rfl,rfl⟩ ?_;clear m;intro u m;simp only[zz,zy,zx,aW,ab] at m;refine aC (⟨m.sel [false,true,false,true,true,true,false,true,true],?_⟩);refine eV (k28 _ _ ?_);refine aa (aA (aZ rfl rfl (aO (by omega) (by omega))) (aA aB (aC ?_)));simp only[zz];simp only[ac,af];refine⟨n2-(k+1),_,?_,rfl,?_,?_⟩
         · omega
         · simp only[zz,zv]
         ·
          simp only[zQ,zR,zD,zE];exact⟨k+1,_,_,_,rfl,(((m.re 6 rfl (by rw[hlo,hon,gR];exact (m.b 6 rfl))).reO 2 rfl (by rw[hon];exact (m.o 2 rfl).as (by rw[fO,fO,br];rfl))).sel [false,false,true,true,true,true,true,true,true]),by rw[hon,bg,hn3];rfl,by omega,rfl⟩
        ·
         refine pR m rfl (pS hot) lJ ?_;clear m;intro u m;refine aC (⟨m.sel [true,false,true,true,true,false,true,true],?_⟩);simp only[zz];refine iM (by simp only[zw];rfl) (by simp only[zw];rfl) ?_ ?_
         ·
          refine aI rfl ((m.b 5 rfl).lies1 fQ rfl) ?_;simp only[zz];refine aC (⟨m.sel [true,false,true,true,true,false,true,true],?_⟩);refine bQ (by simp only[zw];rfl) ?_;refine cN bM (z:=.int .i64 0) (by kernel_rfl) rfl rfl rfl ?_;intro u g6 e hg hB;replace m:=m.newB e hg hB;clear e hg hB;refine aC (⟨m.sel [false,true,false,true,true,true,false,true,true],?_⟩);refine bQ (by simp only[zw];rfl) ?_;simp only[zz];refine eM m 2 rfl rfl bM iF rfl (by decide) rfl rfl rfl (m.b 0 rfl).rowsO (lY rfl) (by omega) (by omega) ?_;clear m;intro A3 cap3 u m;simp only[zF,zG] at m;refine aC (⟨m.sel [false,true,false,true,true,true,false,true,true],?_⟩);refine aY (by simp only[zw];rfl) (bA (aG (c:=0) dF rfl bW rfl rfl) (bB (bQ (by simp only[zw];rfl) ?_)));simp only[zz];refine dL (off:=10) m 6 rfl rfl rfl bW (bZ rfl) ⟨rfl,rfl⟩ ?_;clear m;intro u m;simp only[zz,zy,zx,aW,ab] at m;refine aC (⟨m.sel [false,true,false,true,true,true,false,true,true],?_⟩);refine eV (k28 _ _ ?_);refine aa (aA (aZ rfl rfl (aO (by omega) (by omega))) (aA aB (aC ?_)));simp only[zz];simp only[ac,af];refine⟨n2-(k+1),_,?_,rfl,?_,?_⟩
          · omega
          · simp only[zz,zv]
          ·
           simp only[zQ,zR,zD,zE];exact⟨k+1,_,_,_,rfl,(((m.re 6 rfl (by rw[hlo,hon,gR];exact (m.b 6 rfl))).reO 2 rfl (by rw[hon];exact (m.o 2 rfl).as (by rw[fO,fO,br];rfl))).sel [false,false,true,true,true,true,true,true,true]),by rw[hon,bg,hn3];rfl,by omega,rfl⟩
         ·
          refine cN bM (z:=.int .i64 0) (by kernel_rfl) rfl rfl rfl ?_;intro u g6 e hg hB;replace m:=m.newB e hg hB;clear e hg hB;refine aC (⟨m.sel [false,true,false,true,true,true,false,true,true],?_⟩);refine bQ (by simp only[zw];rfl) ?_;simp only[zz];refine aI rfl ((m.b 6 rfl).lies1 fQ rfl) ?_;simp only[zz];refine aC (⟨m.sel [false,true,false,true,true,true,false,true,true],?_⟩);refine bQ (by simp only[zw];rfl) ?_;refine eM m 2 rfl rfl bM iF rfl (by decide) rfl rfl rfl (m.b 0 rfl).rowsO (lY rfl) (by omega) (by omega) ?_;clear m;intro A3 cap3 u m;simp only[zF,zG] at m;refine aC (⟨m.sel [false,true,false,true,true,true,false,true,true],?_⟩);refine aY (by simp only[zw];rfl) (bA (aG (c:=0) dF rfl bW rfl rfl) (bB (bQ (by simp only[zw];rfl) ?_)));simp only[zz];refine dL (off:=10) m 6 rfl rfl rfl bW (bZ rfl) ⟨rfl,rfl⟩ ?_;clear m;intro u m;simp only[zz,zy,zx,aW,ab] at m;refine aC (⟨m.sel [false,true,false,true,true,true,false,true,true],?_⟩);refine eV (k28 _ _ ?_);refine aa (aA (aZ rfl rfl (aO (by omega) (by omega))) (aA aB (aC ?_)));simp only[zz];simp only[ac,af];refine⟨n2-(k+1),_,?_,rfl,?_,?_⟩
          · omega
          · simp only[zz,zv]
          ·
           simp only[zQ,zR,zD,zE];exact⟨k+1,_,_,_,rfl,(((m.re 6 rfl (by rw[hlo,hon,gR];exact (m.b 6 rfl))).reO 2 rfl (by rw[hon];exact (m.o 2 rfl).as (by rw[fO,fO,br];rfl))).sel [false,false,true,true,true,true,true,true,true]),by rw[hon,bg,hn3];rfl,by omega,rfl⟩
       ·
        have hbo:=Sj (r:=r) (h:=bH r (bU bs xs)) (xs:=(cG bs xs).take k) (fun x hx=>hko x (fd hx));rw[show vL (dB r (bH r (bU bs xs)) ((cG bs xs).take k))=3 from zW hoe] at m;refine aa (aA (aG (c:=0) dF rfl aM rfl rfl) ?_);simp only[zz];refine aI rfl ((m.b 5 rfl).lies1 aV rfl) ?_;simp only[zz];refine aA (rV rfl rfl (by decide)) (aA aB (aR rfl ?_));simp only[zz];refine aI rfl ((m.b 0 rfl).full bF aK) ?_;simp only[zz];refine aR rfl (aA (aG (c:=3) dF rfl aK rfl rfl) (aR rfl ?_));simp only[zz];refine aI rfl ((m.b 5 rfl).lies bF aK rfl rfl) ?_;simp only[zz,zy,ah,ab,ag,ae];refine aR rfl (aX m rfl rfl (kU (p:=q) (q:=tJ (dB r (bH r (bU bs xs)) ((cG bs xs).take k))) (tD hkd hq) hbo) ?_);clear m;intro u m;refine aR rfl (aA (dZ rfl rfl) (aA (cV rfl) (aC (k34 _ _ ?_))));simp only[zz];refine cW rfl (fun hc7=>?_) (fun hc7=>?_)
        ·
         have hlo:tJ (dB r (bH r (bU bs xs)) ((cG bs xs).take (k+1)))=q:=by rw[hon,pH hoe];exact if_pos (gP.1 hc7)
         refine aa (aI rfl ((m.b 0 rfl).full bF aK) ?_);simp only[zz];refine aA (aG (c:=3) dF rfl aK rfl rfl) ?_;simp only[zz];refine aN (off:=1) m 5 rfl rfl rfl aK (bZ rfl) rfl ?_;clear m;intro u m;simp only[zy,zx,aW,zF,zG,ab] at m;refine aC (k33 _ _ ?_);refine aF fun K36 k36=>aa (aA (aG (c:=0) dF rfl aM rfl rfl) ?_);simp only[zz];refine dL m 5 rfl rfl rfl aM (bZ rfl) ⟨rfl,rfl⟩ ?_;clear m;intro u m;simp only[zz,zy,zx,aW,ab] at m;refine aC (k36 _ _ ?_);have hol:=mO (r:=r) (h:=bH r (bU bs xs)) ((cG bs xs).take k);rw[bl] at hol;refine lG m [true,false,true,true,true,false,true,true] (.take 0 (.take 2 (.two 1 (.one 3 (.one 4 (.one 5 (.take 6 (.one 7 .nil))))) 3 (.two 1 (.one 4 (.one 5 (.take 6 (.one 7 .nil)))) 4 (.one 1 (.one 5 (.take 6 (.one 7 .nil)))))))) aP (by kernel_rfl) (dJ (fun _ _ _ _ _ h=>h)) ?_;clear m;intro u m;refine aY (by simp only[zw];rfl) (bA (aG (c:=0) dF rfl bW rfl rfl) (bB (aY (by simp only[zw];rfl) (bA aB (bB ?_)))));simp only[zz];refine iM (by simp only[zw];rfl) (by simp only[zw];rfl) ?_ ?_
         ·
          refine aI rfl ((m.b 5 rfl).lies1 fQ rfl) ?_;simp only[zz];refine aC (⟨m.sel [true,false,true,true,true,false,true,true],?_⟩);refine bQ (by simp only[zw];rfl) ?_;refine pR m rfl (pS hot) lJ ?_;clear m;intro u m;refine aC (⟨m.sel [true,false,true,true,true,false,true,true],?_⟩);refine bQ (by simp only[zw];rfl) ?_;simp only[zz];refine cN bM (z:=.int .i64 0) (by kernel_rfl) rfl rfl rfl ?_;intro u g6 e hg hB;replace m:=m.newB e hg hB;clear e hg hB;refine aC (⟨m.sel [false,true,false,true,true,true,false,true,true],?_⟩);refine bQ (by simp only[zw];rfl) ?_;simp only[zz];refine eM m 2 rfl rfl bM iF rfl (by decide) rfl rfl rfl (m.b 0 rfl).rowsO (lY rfl) (by omega) (by omega) ?_;clear m;intro A3 cap3 u m;simp only[zF,zG] at m;refine aC (⟨m.sel [false,true,false,true,true,true,false,true,true],?_⟩);refine aY (by simp only[zw];rfl) (bA (aG (c:=0) dF rfl bW rfl rfl) (bB (bQ (by simp only[zw];rfl) ?_)));simp only[zz];refine dL (off:=10) m 6 rfl rfl rfl bW (bZ rfl) ⟨rfl,rfl⟩ ?_;clear m;intro u m;simp only[zz,zy,zx,aW,ab] at m;refine aC (⟨m.sel [false,true,false,true,true,true,false,true,true],?_⟩);refine eV (k28 _ _ ?_);refine aa (aA (aZ rfl rfl (aO (by omega) (by omega))) (aA aB (aC ?_)));simp only[zz];simp only[ac,af];refine⟨n2-(k+1),_,?_,rfl,?_,?_⟩
          · omega
          · simp only[zz,zv]
          ·
           simp only[zQ,zR,zD,zE];exact⟨k+1,_,_,_,rfl,(((m.re 6 rfl (by rw[hlo,hon,gR];exact (m.b 6 rfl))).reO 2 rfl (by rw[hon];exact (m.o 2 rfl).as (by rw[fO,fO,br];rfl))).sel [false,false,true,true,true,true,true,true,true]),by rw[hon,bg,hn3];rfl,by omega,rfl⟩
         ·
          refine pR m rfl (pS hot) lJ ?_;clear m;intro u m;refine aC (⟨m.sel [true,false,true,true,true,false,true,true],?_⟩);simp only[zz];refine iM (by simp only[zw];rfl) (by simp only[zw];rfl) ?_ ?_
          ·
           refine aI rfl ((m.b 5 rfl).lies1 fQ rfl) ?_;simp only[zz];refine aC (⟨m.sel [true,false,true,true,true,false,true,true],?_⟩);refine bQ (by simp only[zw];rfl) ?_;refine cN bM (z:=.int .i64 0) (by kernel_rfl) rfl rfl rfl ?_;intro u g6 e hg hB;replace m:=m.newB e hg hB;clear e hg hB;refine aC (⟨m.sel [false,true,false,true,true,true,false,true,true],?_⟩);refine bQ (by simp only[zw];rfl) ?_;simp only[zz];refine eM m 2 rfl rfl bM iF rfl (by decide) rfl rfl rfl (m.b 0 rfl).rowsO (lY rfl) (by omega) (by omega) ?_;clear m;intro A3 cap3 u m;simp only[zF,zG] at m;refine aC (⟨m.sel [false,true,false,true,true,true,false,true,true],?_⟩);refine aY (by simp only[zw];rfl) (bA (aG (c:=0) dF rfl bW rfl rfl) (bB (bQ (by simp only[zw];rfl) ?_)));simp only[zz];refine dL (off:=10) m 6 rfl rfl rfl bW (bZ rfl) ⟨rfl,rfl⟩ ?_;clear m;intro u m;simp only[zz,zy,zx,aW,ab] at m;refine aC (⟨m.sel [false,true,false,true,true,true,false,true,true],?_⟩);refine eV (k28 _ _ ?_);refine aa (aA (aZ rfl rfl (aO (by omega) (by omega))) (aA aB (aC ?_)));simp only[zz];simp only[ac,af];refine⟨n2-(k+1),_,?_,rfl,?_,?_⟩
           · omega
           · simp only[zz,zv]
           ·
            simp only[zQ,zR,zD,zE];exact⟨k+1,_,_,_,rfl,(((m.re 6 rfl (by rw[hlo,hon,gR];exact (m.b 6 rfl))).reO 2 rfl (by rw[hon];exact (m.o 2 rfl).as (by rw[fO,fO,br];rfl))).sel [false,false,true,true,true,true,true,true,true]),by rw[hon,bg,hn3];rfl,by omega,rfl⟩
          ·
           refine cN bM (z:=.int .i64 0) (by kernel_rfl) rfl rfl rfl ?_;intro u g6 e hg hB;replace m:=m.newB e hg hB;clear e hg hB;refine aC (⟨m.sel [false,true,false,true,true,true,false,true,true],?_⟩);refine bQ (by simp only[zw];rfl) ?_;simp only[zz];refine aI rfl ((m.b 6 rfl).lies1 fQ rfl) ?_;simp only[zz];refine aC (⟨m.sel [false,true,false,true,true,true,false,true,true],?_⟩);refine bQ (by simp only[zw];rfl) ?_;refine eM m 2 rfl rfl bM iF rfl (by decide) rfl rfl rfl (m.b 0 rfl).rowsO (lY rfl) (by omega) (by omega) ?_;clear m;intro A3 cap3 u m;simp only[zF,zG] at m;refine aC (⟨m.sel [false,true,false,true,true,true,false,true,true],?_⟩);refine aY (by simp only[zw];rfl) (bA (aG (c:=0) dF rfl bW rfl rfl) (bB (bQ (by simp only[zw];rfl) ?_)));simp only[zz];refine dL (off:=10) m 6 rfl rfl rfl bW (bZ rfl) ⟨rfl,rfl⟩ ?_;clear m;intro u m;simp only[zz,zy,zx,aW,ab] at m;refine aC (⟨m.sel [false,true,false,true,true,true,false,true,true],?_⟩);refine eV (k28 _ _ ?_);refine aa (aA (aZ rfl rfl (aO (by omega) (by omega))) (aA aB (aC ?_)));simp only[zz];simp only[ac,af];refine⟨n2-(k+1),_,?_,rfl,?_,?_⟩
           · omega
           · simp only[zz,zv]
           ·
            simp only[zQ,zR,zD,zE];exact⟨k+1,_,_,_,rfl,(((m.re 6 rfl (by rw[hlo,hon,gR];exact (m.b 6 rfl))).reO 2 rfl (by rw[hon];exact (m.o 2 rfl).as (by rw[fO,fO,br];rfl))).sel [false,false,true,true,true,true,true,true,true]),by rw[hon,bg,hn3];rfl,by omega,rfl⟩
        ·
         have hlo:tJ (dB r (bH r (bU bs xs)) ((cG bs xs).take (k+1)))=tJ (dB r (bH r (bU bs xs)) ((cG bs xs).take k)):=by rw[hon,pH hoe];exact if_neg (mt gP.2 hc7)
         refine ar (k33 _ _ ?_);refine aF fun K37 k37=>aa (aA (aG (c:=0) dF rfl aM rfl rfl) ?_);simp only[zz];refine dL m 5 rfl rfl rfl aM (bZ rfl) ⟨rfl,rfl⟩ ?_;clear m;intro u m;simp only[zz,zy,zx,aW,ab] at m;refine aC (k37 _ _ ?_);have hol:=mO (r:=r) (h:=bH r (bU bs xs)) ((cG bs xs).take k);rw[bl] at hol;refine lG m [true,false,true,true,true,false,true,true] (.take 0 (.take 2 (.two 1 (.one 3 (.one 4 (.one 5 (.take 6 (.one 7 .nil))))) 3 (.two 1 (.one 4 (.one 5 (.take 6 (.one 7 .nil)))) 4 (.one 1 (.one 5 (.take 6 (.one 7 .nil)))))))) aP (by kernel_rfl) (dJ (fun _ _ _ _ _ h=>h)) ?_;clear m;intro u m;refine aY (by simp only[zw];rfl) (bA (aG (c:=0) dF rfl bW rfl rfl) (bB (aY (by simp only[zw];rfl) (bA aB (bB ?_)))));simp only[zz];refine iM (by simp only[zw];rfl) (by simp only[zw];rfl) ?_ ?_
         ·
          refine aI rfl ((m.b 5 rfl).lies1 fQ rfl) ?_;simp only[zz];refine aC (⟨m.sel [true,false,true,true,true,false,true,true],?_⟩);refine bQ (by simp only[zw];rfl) ?_;refine pR m rfl (pS hot) lJ ?_;clear m;intro u m;refine aC (⟨m.sel [true,false,true,true,true,false,true,true],?_⟩);refine bQ (by simp only[zw];rfl) ?_;simp only[zz];refine cN bM (z:=.int .i64 0) (by kernel_rfl) rfl rfl rfl ?_;intro u g6 e hg hB;replace m:=m.newB e hg hB;clear e hg hB;refine aC (⟨m.sel [false,true,false,true,true,true,false,true,true],?_⟩);refine bQ (by simp only[zw];rfl) ?_;simp only[zz];refine eM m 2 rfl rfl bM iF rfl (by decide) rfl rfl rfl (m.b 0 rfl).rowsO (lY rfl) (by omega) (by omega) ?_;clear m;intro A3 cap3 u m;simp only[zF,zG] at m;refine aC (⟨m.sel [false,true,false,true,true,true,false,true,true],?_⟩);refine aY (by simp only[zw];rfl) (bA (aG (c:=0) dF rfl bW rfl rfl) (bB (bQ (by simp only[zw];rfl) ?_)));simp only[zz];refine dL (off:=10) m 6 rfl rfl rfl bW (bZ rfl) ⟨rfl,rfl⟩ ?_;clear m;intro u m;simp only[zz,zy,zx,aW,ab] at m;refine aC (⟨m.sel [false,true,false,true,true,true,false,true,true],?_⟩);refine eV (k28 _ _ ?_);refine aa (aA (aZ rfl rfl (aO (by omega) (by omega))) (aA aB (aC ?_)));simp only[zz];simp only[ac,af];refine⟨n2-(k+1),_,?_,rfl,?_,?_⟩
          · omega
          · simp only[zz,zv]
          ·
           simp only[zQ,zR,zD,zE];exact⟨k+1,_,_,_,rfl,(((m.re 6 rfl (by rw[hlo,hon,gR];exact (m.b 6 rfl))).reO 2 rfl (by rw[hon];exact (m.o 2 rfl).as (by rw[fO,fO,br];rfl))).sel [false,false,true,true,true,true,true,true,true]),by rw[hon,bg,hn3];rfl,by omega,rfl⟩
         ·
          refine pR m rfl (pS hot) lJ ?_;clear m;intro u m;refine aC (⟨m.sel [true,false,true,true,true,false,true,true],?_⟩);simp only[zz];refine iM (by simp only[zw];rfl) (by simp only[zw];rfl) ?_ ?_
          ·
           refine aI rfl ((m.b 5 rfl).lies1 fQ rfl) ?_;simp only[zz];refine aC (⟨m.sel [true,false,true,true,true,false,true,true],?_⟩);refine bQ (by simp only[zw];rfl) ?_;refine cN bM (z:=.int .i64 0) (by kernel_rfl) rfl rfl rfl ?_;intro u g6 e hg hB;replace m:=m.newB e hg hB;clear e hg hB;refine aC (⟨m.sel [false,true,false,true,true,true,false,true,true],?_⟩);refine bQ (by simp only[zw];rfl) ?_;simp only[zz];refine eM m 2 rfl rfl bM iF rfl (by decide) rfl rfl rfl (m.b 0 rfl).rowsO (lY rfl) (by omega) (by omega) ?_;clear m;intro A3 cap3 u m;simp only[zF,zG] at m;refine aC (⟨m.sel [false,true,false,true,true,true,false,true,true],?_⟩);refine aY (by simp only[zw];rfl) (bA (aG (c:=0) dF rfl bW rfl rfl) (bB (bQ (by simp only[zw];rfl) ?_)));simp only[zz];refine dL (off:=10) m 6 rfl rfl rfl bW (bZ rfl) ⟨rfl,rfl⟩ ?_;clear m;intro u m;simp only[zz,zy,zx,aW,ab] at m;refine aC (⟨m.sel [false,true,false,true,true,true,false,true,true],?_⟩);refine eV (k28 _ _ ?_);refine aa (aA (aZ rfl rfl (aO (by omega) (by omega))) (aA aB (aC ?_)));simp only[zz];simp only[ac,af];refine⟨n2-(k+1),_,?_,rfl,?_,?_⟩
           · omega
           · simp only[zz,zv]
           ·
            simp only[zQ,zR,zD,zE];exact⟨k+1,_,_,_,rfl,(((m.re 6 rfl (by rw[hlo,hon,gR];exact (m.b 6 rfl))).reO 2 rfl (by rw[hon];exact (m.o 2 rfl).as (by rw[fO,fO,br];rfl))).sel [false,false,true,true,true,true,true,true,true]),by rw[hon,bg,hn3];rfl,by omega,rfl⟩
          ·
           refine cN bM (z:=.int .i64 0) (by kernel_rfl) rfl rfl rfl ?_;intro u g6 e hg hB;replace m:=m.newB e hg hB;clear e hg hB;refine aC (⟨m.sel [false,true,false,true,true,true,false,true,true],?_⟩);refine bQ (by simp only[zw];rfl) ?_;simp only[zz];refine aI rfl ((m.b 6 rfl).lies1 fQ rfl) ?_;simp only[zz];refine aC (⟨m.sel [false,true,false,true,true,true,false,true,true],?_⟩);refine bQ (by simp only[zw];rfl) ?_;refine eM m 2 rfl rfl bM iF rfl (by decide) rfl rfl rfl (m.b 0 rfl).rowsO (lY rfl) (by omega) (by omega) ?_;clear m;intro A3 cap3 u m;simp only[zF,zG] at m;refine aC (⟨m.sel [false,true,false,true,true,true,false,true,true],?_⟩);refine aY (by simp only[zw];rfl) (bA (aG (c:=0) dF rfl bW rfl rfl) (bB (bQ (by simp only[zw];rfl) ?_)));simp only[zz];refine dL (off:=10) m 6 rfl rfl rfl bW (bZ rfl) ⟨rfl,rfl⟩ ?_;clear m;intro u m;simp only[zz,zy,zx,aW,ab] at m;refine aC (⟨m.sel [false,true,false,true,true,true,false,true,true],?_⟩);refine eV (k28 _ _ ?_);refine aa (aA (aZ rfl rfl (aO (by omega) (by omega))) (aA aB (aC ?_)));simp only[zz];simp only[ac,af];refine⟨n2-(k+1),_,?_,rfl,?_,?_⟩
           · omega
           · simp only[zz,zv]
           ·
            simp only[zQ,zR,zD,zE];exact⟨k+1,_,_,_,rfl,(((m.re 6 rfl (by rw[hlo,hon,gR];exact (m.b 6 rfl))).reO 2 rfl (by rw[hon];exact (m.o 2 rfl).as (by rw[fO,fO,br];rfl))).sel [false,false,true,true,true,true,true,true,true]),by rw[hon,bg,hn3];rfl,by omega,rfl⟩
      ·
       have hq:jO r kd=some q:=hq;have hbt:=Ex (r:=r) hIT;have htt:mZ (bH r (bU bs xs))=t:=by rw[hh];rfl
       rw[hq];rw[hq] at m;simp only[ko,dt] at m ⊢;refine aa (aA aB (aA (fM rfl) (aA aB (aR rfl ?_))));simp only[zz];refine aA (xR aB (show (Value.bool (bH r (bU bs xs)).isSome)=.bool true by rw[hh];rfl)) (aR rfl (aA aB (aR rfl ?_)));simp only[zz];refine aI rfl ((m.b 0 rfl).full bF aK) ?_;simp only[zz];refine aR rfl (aA (aG (c:=3) sL rfl aK rfl rfl) (aR rfl ?_));simp only[zz];refine aI rfl ((m.b 2 rfl).lies bF aK rfl rfl) ?_;simp only[zz,zy,ah,ab,ag,ae];refine aR rfl (aX m rfl rfl (kU (p:=q) (q:=mZ (bH r (bU bs xs))) (tD hkd hq) hbt) ?_);clear m;intro u m;refine aR rfl (aA (lD rfl rfl) (aR rfl (aA (cT rfl) (aA (cV rfl) ?_))));simp only[zz];refine aC (k32 _ _ ?_);refine cW rfl (fun hc6=>?_) (fun hc6=>?_)
       ·
        rw[htt] at hc6;have hnl:¬q<t:=fun h=>by have:=gP.2 h;omega
        rw[if_neg hnl] at ho4;have hon:dB r (bH r (bU bs xs)) ((cG bs xs).take (k+1))=dB r (bH r (bU bs xs)) ((cG bs xs).take k):=by rw[wC hx,ho4,du]
        refine bw (k28 _ _ ?_);refine aa (aA (aZ rfl rfl (aO (by omega) (by omega))) (aA aB (aC ?_)));simp only[zz];simp only[ac,af];refine⟨n2-(k+1),_,?_,rfl,?_,?_⟩
        · omega
        · simp only[zz,zv]
        ·
         simp only[zQ,zR,zD,zE];exact⟨k+1,_,_,_,rfl,(((m.re 5 rfl (by rw[hon];exact (m.b 5 rfl))).reO 1 rfl (by rw[hon];exact (m.o 1 rfl))).sel [false,true,true,true,true,true,true,true]),by rw[hon];exact hn3,by omega,rfl⟩
       ·
        rw[htt] at hc6;have hnl:q<t:=gP.1 (by omega);rw[if_pos hnl] at ho4;have hon:dB r (bH r (bU bs xs)) ((cG bs xs).take (k+1))=dB r (bH r (bU bs xs)) ((cG bs xs).take k)++[(i,q)]:=by rw[wC hx,ho4]
        refine ar (k31 _ _ ?_);refine aF fun K38 k38=>aF fun K39 k39=>?_;rcases Decidable.em (dB r (bH r (bU bs xs)) ((cG bs xs).take k)=[]) with hoe | hoe
        ·
         have hlo:tJ (dB r (bH r (bU bs xs)) ((cG bs xs).take (k+1)))=q:=by rw[hon,hoe];rfl
         rw[show vL (dB r (bH r (bU bs xs)) ((cG bs xs).take k))=2 by rw[hoe];rfl] at m;refine aa (aA (aG (c:=0) dF rfl aM rfl rfl) ?_);simp only[zz];refine aI rfl ((m.b 5 rfl).lies1 aV rfl) ?_;simp only[zz];refine aA (wU rfl rfl (by decide)) (aA aB (bK rfl (bK rfl ?_)));simp only[zz];refine bK rfl (bK rfl (bK rfl (aA (cT rfl) ?_)));simp only[zz];refine aC (k39 _ _ ?_);refine bX rfl (aa (aI rfl ((m.b 0 rfl).full bF aK) ?_));simp only[zz];refine aA (aG (c:=3) dF rfl aK rfl rfl) ?_;simp only[zz];refine aN (off:=1) m 5 rfl rfl rfl aK (bZ rfl) rfl ?_;clear m;intro u m;simp only[zy,zx,aW,zF,zG,ab] at m;refine aC (k38 _ _ ?_);refine aF fun K40 k40=>aa (aA (aG (c:=0) dF rfl aM rfl rfl) ?_);simp only[zz];refine dL m 5 rfl rfl rfl aM (bZ rfl) ⟨rfl,rfl⟩ ?_;clear m;intro u m;simp only[zz,zy,zx,aW,ab] at m;refine aC (k40 _ _ ?_);have hol:=mO (r:=r) (h:=bH r (bU bs xs)) ((cG bs xs).take k);rw[bl] at hol;refine lG m [true,false,true,true,true,false,true,true] (.take 0 (.take 2 (.two 1 (.one 3 (.one 4 (.one 5 (.take 6 (.one 7 .nil))))) 3 (.two 1 (.one 4 (.one 5 (.take 6 (.one 7 .nil)))) 4 (.one 1 (.one 5 (.take 6 (.one 7 .nil)))))))) aP (by kernel_rfl) (dJ (fun _ _ _ _ _ h=>h)) ?_;clear m;intro u m;refine aY (by simp only[zw];rfl) (bA (aG (c:=0) dF rfl bW rfl rfl) (bB (aY (by simp only[zw];rfl) (bA aB (bB ?_)))));simp only[zz];refine iM (by simp only[zw];rfl) (by simp only[zw];rfl) ?_ ?_
         ·
          refine aI rfl ((m.b 5 rfl).lies1 fQ rfl) ?_;simp only[zz];refine aC (⟨m.sel [true,false,true,true,true,false,true,true],?_⟩);refine bQ (by simp only[zw];rfl) ?_;refine pR m rfl (pS hot) lJ ?_;clear m;intro u m;refine aC (⟨m.sel [true,false,true,true,true,false,true,true],?_⟩);refine bQ (by simp only[zw];rfl) ?_;simp only[zz];refine cN bM (z:=.int .i64 0) (by kernel_rfl) rfl rfl rfl ?_;intro u g6 e hg hB;replace m:=m.newB e hg hB;clear e hg hB;refine aC (⟨m.sel [false,true,false,true,true,true,false,true,true],?_⟩);refine bQ (by simp only[zw];rfl) ?_;simp only[zz];refine eM m 2 rfl rfl bM iF rfl (by decide) rfl rfl rfl (m.b 0 rfl).rowsO (lY rfl) (by omega) (by omega) ?_;clear m;intro A3 cap3 u m;simp only[zF,zG] at m;refine aC (⟨m.sel [false,true,false,true,true,true,false,true,true],?_⟩);refine aY (by simp only[zw];rfl) (bA (aG (c:=0) dF rfl bW rfl rfl) (bB (bQ (by simp only[zw];rfl) ?_)));simp only[zz];refine dL (off:=10) m 6 rfl rfl rfl bW (bZ rfl) ⟨rfl,rfl⟩ ?_;clear m;intro u m;simp only[zz,zy,zx,aW,ab] at m;refine aC (⟨m.sel [false,true,false,true,true,true,false,true,true],?_⟩);refine eV (k28 _ _ ?_);refine aa (aA (aZ rfl rfl (aO (by omega) (by omega))) (aA aB (aC ?_)));simp only[zz];simp only[ac,af];refine⟨n2-(k+1),_,?_,rfl,?_,?_⟩
          · omega
          · simp only[zz,zv]
          ·
           simp only[zQ,zR,zD,zE];exact⟨k+1,_,_,_,rfl,(((m.re 6 rfl (by rw[hlo,hon,gR];exact (m.b 6 rfl))).reO 2 rfl (by rw[hon];exact (m.o 2 rfl).as (by rw[fO,fO,br];rfl))).sel [false,false,true,true,true,true,true,true,true]),by rw[hon,bg,hn3];rfl,by omega,rfl⟩
         ·
          refine pR m rfl (pS hot) lJ ?_;clear m;intro u m;refine aC (⟨m.sel [true,false,true,true,true,false,true,true],?_⟩);simp only[zz];refine iM (by simp only[zw];rfl) (by simp only[zw];rfl) ?_ ?_
          ·
           refine aI rfl ((m.b 5 rfl).lies1 fQ rfl) ?_;simp only[zz];refine aC (⟨m.sel [true,false,true,true,true,false,true,true],?_⟩);refine bQ (by simp only[zw];rfl) ?_;refine cN bM (z:=.int .i64 0) (by kernel_rfl) rfl rfl rfl ?_;intro u g6 e hg hB;replace m:=m.newB e hg hB;clear e hg hB;refine aC (⟨m.sel [false,true,false,true,true,true,false,true,true],?_⟩);refine bQ (by simp only[zw];rfl) ?_;simp only[zz];refine eM m 2 rfl rfl bM iF rfl (by decide) rfl rfl rfl (m.b 0 rfl).rowsO (lY rfl) (by omega) (by omega) ?_;clear m;intro A3 cap3 u m;simp only[zF,zG] at m;refine aC (⟨m.sel [false,true,false,true,true,true,false,true,true],?_⟩);refine aY (by simp only[zw];rfl) (bA (aG (c:=0) dF rfl bW rfl rfl) (bB (bQ (by simp only[zw];rfl) ?_)));simp only[zz];refine dL (off:=10) m 6 rfl rfl rfl bW (bZ rfl) ⟨rfl,rfl⟩ ?_;clear m;intro u m;simp only[zz,zy,zx,aW,ab] at m;refine aC (⟨m.sel [false,true,false,true,true,true,false,true,true],?_⟩);refine eV (k28 _ _ ?_);refine aa (aA (aZ rfl rfl (aO (by omega) (by omega))) (aA aB (aC ?_)));simp only[zz];simp only[ac,af];refine⟨n2-(k+1),_,?_,rfl,?_,?_⟩
           · omega
           · simp only[zz,zv]
           ·
            simp only[zQ,zR,zD,zE];exact⟨k+1,_,_,_,rfl,(((m.re 6 rfl (by rw[hlo,hon,gR];exact (m.b 6 rfl))).reO 2 rfl (by rw[hon];exact (m.o 2 rfl).as (by rw[fO,fO,br];rfl))).sel [false,false,true,true,true,true,true,true,true]),by rw[hon,bg,hn3];rfl,by omega,rfl⟩
          ·
           refine cN bM (z:=.int .i64 0) (by kernel_rfl) rfl rfl rfl ?_;intro u g6 e hg hB;replace m:=m.newB e hg hB;clear e hg hB;refine aC (⟨m.sel [false,true,false,true,true,true,false,true,true],?_⟩);refine bQ (by simp only[zw];rfl) ?_;simp only[zz];refine aI rfl ((m.b 6 rfl).lies1 fQ rfl) ?_;simp only[zz];refine aC (⟨m.sel [false,true,false,true,true,true,false,true,true],?_⟩);refine bQ (by simp only[zw];rfl) ?_;refine eM m 2 rfl rfl bM iF rfl (by decide) rfl rfl rfl (m.b 0 rfl).rowsO (lY rfl) (by omega) (by omega) ?_;clear m;intro A3 cap3 u m;simp only[zF,zG] at m;refine aC (⟨m.sel [false,true,false,true,true,true,false,true,true],?_⟩);refine aY (by simp only[zw];rfl) (bA (aG (c:=0) dF rfl bW rfl rfl) (bB (bQ (by simp only[zw];rfl) ?_)));simp only[zz];refine dL (off:=10) m 6 rfl rfl rfl bW (bZ rfl) ⟨rfl,rfl⟩ ?_;clear m;intro u m;simp only[zz,zy,zx,aW,ab] at m;refine aC (⟨m.sel [false,true,false,true,true,true,false,true,true],?_⟩);refine eV (k28 _ _ ?_);refine aa (aA (aZ rfl rfl (aO (by omega) (by omega))) (aA aB (aC ?_)));simp only[zz];simp only[ac,af];refine⟨n2-(k+1),_,?_,rfl,?_,?_⟩
           · omega
           · simp only[zz,zv]
           ·
            simp only[zQ,zR,zD,zE];exact⟨k+1,_,_,_,rfl,(((m.re 6 rfl (by rw[hlo,hon,gR];exact (m.b 6 rfl))).reO 2 rfl (by rw[hon];exact (m.o 2 rfl).as (by rw[fO,fO,br];rfl))).sel [false,false,true,true,true,true,true,true,true]),by rw[hon,bg,hn3];rfl,by omega,rfl⟩
        ·
         have hbo:=Sj (r:=r) (h:=bH r (bU bs xs)) (xs:=(cG bs xs).take k) (fun x hx=>hko x (fd hx));rw[show vL (dB r (bH r (bU bs xs)) ((cG bs xs).take k))=3 from zW hoe] at m;refine aa (aA (aG (c:=0) dF rfl aM rfl rfl) ?_);simp only[zz];refine aI rfl ((m.b 5 rfl).lies1 aV rfl) ?_;simp only[zz];refine aA (rV rfl rfl (by decide)) (aA aB (aR rfl ?_));simp only[zz];refine aI rfl ((m.b 0 rfl).full bF aK) ?_;simp only[zz];refine aR rfl (aA (aG (c:=3) dF rfl aK rfl rfl) (aR rfl ?_));simp only[zz];refine aI rfl ((m.b 5 rfl).lies bF aK rfl rfl) ?_;simp only[zz,zy,ah,ab,ag,ae];refine aR rfl (aX m rfl rfl (kU (p:=q) (q:=tJ (dB r (bH r (bU bs xs)) ((cG bs xs).take k))) (tD hkd hq) hbo) ?_);clear m;intro u m;refine aR rfl (aA (dZ rfl rfl) (aA (cV rfl) (aC (k39 _ _ ?_))));simp only[zz];refine cW rfl (fun hc7=>?_) (fun hc7=>?_)
         ·
          have hlo:tJ (dB r (bH r (bU bs xs)) ((cG bs xs).take (k+1)))=q:=by rw[hon,pH hoe];exact if_pos (gP.1 hc7)
          refine aa (aI rfl ((m.b 0 rfl).full bF aK) ?_);simp only[zz];refine aA (aG (c:=3) dF rfl aK rfl rfl) ?_;simp only[zz];refine aN (off:=1) m 5 rfl rfl rfl aK (bZ rfl) rfl ?_;clear m;intro u m;simp only[zy,zx,aW,zF,zG,ab] at m;refine aC (k38 _ _ ?_);refine aF fun K41 k41=>aa (aA (aG (c:=0) dF rfl aM rfl rfl) ?_);simp only[zz];refine dL m 5 rfl rfl rfl aM (bZ rfl) ⟨rfl,rfl⟩ ?_;clear m;intro u m;simp only[zz,zy,zx,aW,ab] at m;refine aC (k41 _ _ ?_);have hol:=mO (r:=r) (h:=bH r (bU bs xs)) ((cG bs xs).take k);rw[bl] at hol;refine lG m [true,false,true,true,true,false,true,true] (.take 0 (.take 2 (.two 1 (.one 3 (.one 4 (.one 5 (.take 6 (.one 7 .nil))))) 3 (.two 1 (.one 4 (.one 5 (.take 6 (.one 7 .nil)))) 4 (.one 1 (.one 5 (.take 6 (.one 7 .nil)))))))) aP (by kernel_rfl) (dJ (fun _ _ _ _ _ h=>h)) ?_;clear m;intro u m;refine aY (by simp only[zw];rfl) (bA (aG (c:=0) dF rfl bW rfl rfl) (bB (aY (by simp only[zw];rfl) (bA aB (bB ?_)))));simp only[zz];refine iM (by simp only[zw];rfl) (by simp only[zw];rfl) ?_ ?_
          ·
           refine aI rfl ((m.b 5 rfl).lies1 fQ rfl) ?_;simp only[zz];refine aC (⟨m.sel [true,false,true,true,true,false,true,true],?_⟩);refine bQ (by simp only[zw];rfl) ?_;refine pR m rfl (pS hot) lJ ?_;clear m;intro u m;refine aC (⟨m.sel [true,false,true,true,true,false,true,true],?_⟩);refine bQ (by simp only[zw];rfl) ?_;simp only[zz];refine cN bM (z:=.int .i64 0) (by kernel_rfl) rfl rfl rfl ?_;intro u g6 e hg hB;replace m:=m.newB e hg hB;clear e hg hB;refine aC (⟨m.sel [false,true,false,true,true,true,false,true,true],?_⟩);refine bQ (by simp only[zw];rfl) ?_;simp only[zz];refine eM m 2 rfl rfl bM iF rfl (by decide) rfl rfl rfl (m.b 0 rfl).rowsO (lY rfl) (by omega) (by omega) ?_;clear m;intro A3 cap3 u m;simp only[zF,zG] at m;refine aC (⟨m.sel [false,true,false,true,true,true,false,true,true],?_⟩);refine aY (by simp only[zw];rfl) (bA (aG (c:=0) dF rfl bW rfl rfl) (bB (bQ (by simp only[zw];rfl) ?_)));simp only[zz];refine dL (off:=10) m 6 rfl rfl rfl bW (bZ rfl) ⟨rfl,rfl⟩ ?_;clear m;intro u m;simp only[zz,zy,zx,aW,ab] at m;refine aC (⟨m.sel [false,true,false,true,true,true,false,true,true],?_⟩);refine eV (k28 _ _ ?_);refine aa (aA (aZ rfl rfl (aO (by omega) (by omega))) (aA aB (aC ?_)));simp only[zz];simp only[ac,af];refine⟨n2-(k+1),_,?_,rfl,?_,?_⟩
           · omega
           · simp only[zz,zv]
           ·
            simp only[zQ,zR,zD,zE];exact⟨k+1,_,_,_,rfl,(((m.re 6 rfl (by rw[hlo,hon,gR];exact (m.b 6 rfl))).reO 2 rfl (by rw[hon];exact (m.o 2 rfl).as (by rw[fO,fO,br];rfl))).sel [false,false,true,true,true,true,true,true,true]),by rw[hon,bg,hn3];rfl,by omega,rfl⟩
          ·
           refine pR m rfl (pS hot) lJ ?_;clear m;intro u m;refine aC (⟨m.sel [true,false,true,true,true,false,true,true],?_⟩);simp only[zz];refine iM (by simp only[zw];rfl) (by simp only[zw];rfl) ?_ ?_
           ·
            refine aI rfl ((m.b 5 rfl).lies1 fQ rfl) ?_;simp only[zz];refine aC (⟨m.sel [true,false,true,true,true,false,true,true],?_⟩);refine bQ (by simp only[zw];rfl) ?_;refine cN bM (z:=.int .i64 0) (by kernel_rfl) rfl rfl rfl ?_;intro u g6 e hg hB;replace m:=m.newB e hg hB;clear e hg hB;refine aC (⟨m.sel [false,true,false,true,true,true,false,true,true],?_⟩);refine bQ (by simp only[zw];rfl) ?_;simp only[zz];refine eM m 2 rfl rfl bM iF rfl (by decide) rfl rfl rfl (m.b 0 rfl).rowsO (lY rfl) (by omega) (by omega) ?_;clear m;intro A3 cap3 u m;simp only[zF,zG] at m;refine aC (⟨m.sel [false,true,false,true,true,true,false,true,true],?_⟩);refine aY (by simp only[zw];rfl) (bA (aG (c:=0) dF rfl bW rfl rfl) (bB (bQ (by simp only[zw];rfl) ?_)));simp only[zz];refine dL (off:=10) m 6 rfl rfl rfl bW (bZ rfl) ⟨rfl,rfl⟩ ?_;clear m;intro u m;simp only[zz,zy,zx,aW,ab] at m;refine aC (⟨m.sel [false,true,false,true,true,true,false,true,true],?_⟩);refine eV (k28 _ _ ?_);refine aa (aA (aZ rfl rfl (aO (by omega) (by omega))) (aA aB (aC ?_)));simp only[zz];simp only[ac,af];refine⟨n2-(k+1),_,?_,rfl,?_,?_⟩
            · omega
            · simp only[zz,zv]
            ·
             simp only[zQ,zR,zD,zE];exact⟨k+1,_,_,_,rfl,(((m.re 6 rfl (by rw[hlo,hon,gR];exact (m.b 6 rfl))).reO 2 rfl (by rw[hon];exact (m.o 2 rfl).as (by rw[fO,fO,br];rfl))).sel [false,false,true,true,true,true,true,true,true]),by rw[hon,bg,hn3];rfl,by omega,rfl⟩
           ·
            refine cN bM (z:=.int .i64 0) (by kernel_rfl) rfl rfl rfl ?_;intro u g6 e hg hB;replace m:=m.newB e hg hB;clear e hg hB;refine aC (⟨m.sel [false,true,false,true,true,true,false,true,true],?_⟩);refine bQ (by simp only[zw];rfl) ?_;simp only[zz];refine aI rfl ((m.b 6 rfl).lies1 fQ rfl) ?_;simp only[zz];refine aC (⟨m.sel [false,true,false,true,true,true,false,true,true],?_⟩);refine bQ (by simp only[zw];rfl) ?_;refine eM m 2 rfl rfl bM iF rfl (by decide) rfl rfl rfl (m.b 0 rfl).rowsO (lY rfl) (by omega) (by omega) ?_;clear m;intro A3 cap3 u m;simp only[zF,zG] at m;refine aC (⟨m.sel [false,true,false,true,true,true,false,true,true],?_⟩);refine aY (by simp only[zw];rfl) (bA (aG (c:=0) dF rfl bW rfl rfl) (bB (bQ (by simp only[zw];rfl) ?_)));simp only[zz];refine dL (off:=10) m 6 rfl rfl rfl bW (bZ rfl) ⟨rfl,rfl⟩ ?_;clear m;intro u m;simp only[zz,zy,zx,aW,ab] at m;refine aC (⟨m.sel [false,true,false,true,true,true,false,true,true],?_⟩);refine eV (k28 _ _ ?_);refine aa (aA (aZ rfl rfl (aO (by omega) (by omega))) (aA aB (aC ?_)));simp only[zz];simp only[ac,af];refine⟨n2-(k+1),_,?_,rfl,?_,?_⟩
            · omega
            · simp only[zz,zv]
            ·
             simp only[zQ,zR,zD,zE];exact⟨k+1,_,_,_,rfl,(((m.re 6 rfl (by rw[hlo,hon,gR];exact (m.b 6 rfl))).reO 2 rfl (by rw[hon];exact (m.o 2 rfl).as (by rw[fO,fO,br];rfl))).sel [false,false,true,true,true,true,true,true,true]),by rw[hon,bg,hn3];rfl,by omega,rfl⟩
         ·
          have hlo:tJ (dB r (bH r (bU bs xs)) ((cG bs xs).take (k+1)))=tJ (dB r (bH r (bU bs xs)) ((cG bs xs).take k)):=by rw[hon,pH hoe];exact if_neg (mt gP.2 hc7)
          refine ar (k38 _ _ ?_);refine aF fun K42 k42=>aa (aA (aG (c:=0) dF rfl aM rfl rfl) ?_);simp only[zz];refine dL m 5 rfl rfl rfl aM (bZ rfl) ⟨rfl,rfl⟩ ?_;clear m;intro u m;simp only[zz,zy,zx,aW,ab] at m;refine aC (k42 _ _ ?_);have hol:=mO (r:=r) (h:=bH r (bU bs xs)) ((cG bs xs).take k);rw[bl] at hol;refine lG m [true,false,true,true,true,false,true,true] (.take 0 (.take 2 (.two 1 (.one 3 (.one 4 (.one 5 (.take 6 (.one 7 .nil))))) 3 (.two 1 (.one 4 (.one 5 (.take 6 (.one 7 .nil)))) 4 (.one 1 (.one 5 (.take 6 (.one 7 .nil)))))))) aP (by kernel_rfl) (dJ (fun _ _ _ _ _ h=>h)) ?_;clear m;intro u m;refine aY (by simp only[zw];rfl) (bA (aG (c:=0) dF rfl bW rfl rfl) (bB (aY (by simp only[zw];rfl) (bA aB (bB ?_)))));simp only[zz];refine iM (by simp only[zw];rfl) (by simp only[zw];rfl) ?_ ?_
          ·
           refine aI rfl ((m.b 5 rfl).lies1 fQ rfl) ?_;simp only[zz];refine aC (⟨m.sel [true,false,true,true,true,false,true,true],?_⟩);refine bQ (by simp only[zw];rfl) ?_;refine pR m rfl (pS hot) lJ ?_;clear m;intro u m;refine aC (⟨m.sel [true,false,true,true,true,false,true,true],?_⟩);refine bQ (by simp only[zw];rfl) ?_;simp only[zz];refine cN bM (z:=.int .i64 0) (by kernel_rfl) rfl rfl rfl ?_;intro u g6 e hg hB;replace m:=m.newB e hg hB;clear e hg hB;refine aC (⟨m.sel [false,true,false,true,true,true,false,true,true],?_⟩);refine bQ (by simp only[zw];rfl) ?_;simp only[zz];refine eM m 2 rfl rfl bM iF rfl (by decide) rfl rfl rfl (m.b 0 rfl).rowsO (lY rfl) (by omega) (by omega) ?_;clear m;intro A3 cap3 u m;simp only[zF,zG] at m;refine aC (⟨m.sel [false,true,false,true,true,true,false,true,true],?_⟩);refine aY (by simp only[zw];rfl) (bA (aG (c:=0) dF rfl bW rfl rfl) (bB (bQ (by simp only[zw];rfl) ?_)));simp only[zz];refine dL (off:=10) m 6 rfl rfl rfl bW (bZ rfl) ⟨rfl,rfl⟩ ?_;clear m;intro u m;simp only[zz,zy,zx,aW,ab] at m;refine aC (⟨m.sel [false,true,false,true,true,true,false,true,true],?_⟩);refine eV (k28 _ _ ?_);refine aa (aA (aZ rfl rfl (aO (by omega) (by omega))) (aA aB (aC ?_)));simp only[zz];simp only[ac,af];refine⟨n2-(k+1),_,?_,rfl,?_,?_⟩
           · omega
           · simp only[zz,zv]
           ·
            simp only[zQ,zR,zD,zE];exact⟨k+1,_,_,_,rfl,(((m.re 6 rfl (by rw[hlo,hon,gR];exact (m.b 6 rfl))).reO 2 rfl (by rw[hon];exact (m.o 2 rfl).as (by rw[fO,fO,br];rfl))).sel [false,false,true,true,true,true,true,true,true]),by rw[hon,bg,hn3];rfl,by omega,rfl⟩
          ·
           refine pR m rfl (pS hot) lJ ?_;clear m;intro u m;refine aC (⟨m.sel [true,false,true,true,true,false,true,true],?_⟩);simp only[zz];refine iM (by simp only[zw];rfl) (by simp only[zw];rfl) ?_ ?_
           ·
            refine aI rfl ((m.b 5 rfl).lies1 fQ rfl) ?_;simp only[zz];refine aC (⟨m.sel [true,false,true,true,true,false,true,true],?_⟩);refine bQ (by simp only[zw];rfl) ?_;refine cN bM (z:=.int .i64 0) (by kernel_rfl) rfl rfl rfl ?_;intro u g6 e hg hB;replace m:=m.newB e hg hB;clear e hg hB;refine aC (⟨m.sel [false,true,false,true,true,true,false,true,true],?_⟩);refine bQ (by simp only[zw];rfl) ?_;simp only[zz];refine eM m 2 rfl rfl bM iF rfl (by decide) rfl rfl rfl (m.b 0 rfl).rowsO (lY rfl) (by omega) (by omega) ?_;clear m;intro A3 cap3 u m;simp only[zF,zG] at m;refine aC (⟨m.sel [false,true,false,true,true,true,false,true,true],?_⟩);refine aY (by simp only[zw];rfl) (bA (aG (c:=0) dF rfl bW rfl rfl) (bB (bQ (by simp only[zw];rfl) ?_)));simp only[zz];refine dL (off:=10) m 6 rfl rfl rfl bW (bZ rfl) ⟨rfl,rfl⟩ ?_;clear m;intro u m;simp only[zz,zy,zx,aW,ab] at m;refine aC (⟨m.sel [false,true,false,true,true,true,false,true,true],?_⟩);refine eV (k28 _ _ ?_);refine aa (aA (aZ rfl rfl (aO (by omega) (by omega))) (aA aB (aC ?_)));simp only[zz];simp only[ac,af];refine⟨n2-(k+1),_,?_,rfl,?_,?_⟩
            · omega
            · simp only[zz,zv]
            ·
             simp only[zQ,zR,zD,zE];exact⟨k+1,_,_,_,rfl,(((m.re 6 rfl (by rw[hlo,hon,gR];exact (m.b 6 rfl))).reO 2 rfl (by rw[hon];exact (m.o 2 rfl).as (by rw[fO,fO,br];rfl))).sel [false,false,true,true,true,true,true,true,true]),by rw[hon,bg,hn3];rfl,by omega,rfl⟩
           ·
            refine cN bM (z:=.int .i64 0) (by kernel_rfl) rfl rfl rfl ?_;intro u g6 e hg hB;replace m:=m.newB e hg hB;clear e hg hB;refine aC (⟨m.sel [false,true,false,true,true,true,false,true,true],?_⟩);refine bQ (by simp only[zw];rfl) ?_;simp only[zz];refine aI rfl ((m.b 6 rfl).lies1 fQ rfl) ?_;simp only[zz];refine aC (⟨m.sel [false,true,false,true,true,true,false,true,true],?_⟩);refine bQ (by simp only[zw];rfl) ?_;refine eM m 2 rfl rfl bM iF rfl (by decide) rfl rfl rfl (m.b 0 rfl).rowsO (lY rfl) (by omega) (by omega) ?_;clear m;intro A3 cap3 u m;simp only[zF,zG] at m;refine aC (⟨m.sel [false,true,false,true,true,true,false,true,true],?_⟩);refine aY (by simp only[zw];rfl) (bA (aG (c:=0) dF rfl bW rfl rfl) (bB (bQ (by simp only[zw];rfl) ?_)));simp only[zz];refine dL (off:=10) m 6 rfl rfl rfl bW (bZ rfl) ⟨rfl,rfl⟩ ?_;clear m;intro u m;simp only[zz,zy,zx,aW,ab] at m;refine aC (⟨m.sel [false,true,false,true,true,true,false,true,true],?_⟩);refine eV (k28 _ _ ?_);refine aa (aA (aZ rfl rfl (aO (by omega) (by omega))) (aA aB (aC ?_)));simp only[zz];simp only[ac,af];refine⟨n2-(k+1),_,?_,rfl,?_,?_⟩
            · omega
            · simp only[zz,zv]
            ·
             simp only[zQ,zR,zD,zE];exact⟨k+1,_,_,_,rfl,(((m.re 6 rfl (by rw[hlo,hon,gR];exact (m.b 6 rfl))).reO 2 rfl (by rw[hon];exact (m.o 2 rfl).as (by rw[fO,fO,br];rfl))).sel [false,false,true,true,true,true,true,true,true]),by rw[hon,bg,hn3];rfl,by omega,rfl⟩
     ·
      have hkN:(cG bs xs).take k=cG bs xs:=bp (by omega);rw[hkN] at m hn3;refine bw (k24 _ _ ?_);refine aF fun K43 k43=>av (aF fun K44 k44=>?_);rcases Option.eq_none_or_eq_some (bH r (bU bs xs)) with hh | ⟨⟨t,kk⟩,hh⟩
      ·
       rw[show (bH r (bU bs xs)).isSome=false by rw[hh];rfl];have ha:Na (bH r (bU bs xs)) (dB r (bH r (bU bs xs)) (cG bs xs))=⟨vL (dB r (bH r (bU bs xs)) (cG bs xs)),tJ (dB r (bH r (bU bs xs)) (cG bs xs)),0,false,(dB r (bH r (bU bs xs)) (cG bs xs)).map fun x=>(x.1:Int)⟩:=by
        conv=>lhs;arg 1;rw[hh]
        exact Zj _
       refine aa (aA aB (aA (fM rfl) (aA aD (aC (k44 _ _ ?_)))));refine bX rfl (ar (k43 _ _ ?_));refine aF fun K45 k45=>aa ?_;simp only[zz];refine aI rfl ((m.b 4 rfl).full jX eI) ?_;simp only[zz];refine aN m 5 rfl rfl rfl eI (bZ rfl) rfl ?_;clear m;intro u m;simp only[zy,zx,aW,zF,zG,ab] at m;refine aC (k45 _ _ ?_);refine bc ?_;try simp only[ac,af,if_true]
       refine bY rfl ⟨_,rfl,((m.b 5 rfl).full jX eI)⟩ ?_;try simp only[zD,zE]
       exact⟨_,rfl,m.ext,A3,n3,cap3,by rw[iO,if_pos hok,ha];rfl,by rw[iO,if_pos hok,ha,hn3];exact (dj ..).symm,by rw[iO,if_pos hok,ha];exact (m.o 0 rfl).as (by rw[fO,List.map_map];rfl)⟩
      ·
       rw[show (bH r (bU bs xs)).isSome=true by rw[hh];rfl];rw[show mZ (bH r (bU bs xs))=t by rw[hh];rfl] at m;refine aa (aA aB (aA (fM rfl) (aA aD (aC (k44 _ _ ?_)))));refine eZ rfl (aF fun K46 k46=>?_);simp only[zz];rcases Decidable.em (dB r (bH r (bU bs xs)) (cG bs xs)=[]) with hoe | hoe
       ·
        have ha:Na (bH r (bU bs xs)) (dB r (bH r (bU bs xs)) (cG bs xs))=⟨1,t,t,false,[]⟩:=by
         rw[hoe]
         conv=>lhs;arg 1;rw[hh]
         rfl
        rw[show vL (dB r (bH r (bU bs xs)) (cG bs xs))=2 by rw[hoe];rfl] at m;refine aa (aA (aG (c:=0) dF rfl aM rfl rfl) ?_);simp only[zz];refine aI rfl ((m.b 4 rfl).lies1 aV rfl) ?_;simp only[zz];refine aA (mU rfl rfl (by decide)) (aA aD (aC (k46 _ _ ?_)));refine eZ rfl ?_;simp only[zz];refine mh m [true,true,true,true,false,true,true] [(0,true),(2,true),(4,true),(1,true),(3,true),(5,false),(6,true),(7,false),(8,true),(9,false)] aP (by kernel_rfl) (dJ (fun _ _ _ _ _ h=>h)) (ol:=?_) ?hol ?_
        case hol=>simp only[zw,zQ,zR];try rfl
        clear m;intro u m;refine bA (aG (c:=3) sL rfl aK rfl rfl) (bA (aG (c:=3) sL rfl aK rfl rfl) (bA (aG (c:=0) dF rfl aM rfl rfl) ?_));simp only[zz];refine cO rfl (fun u m=>((m.b 1 rfl).lies bF aK rfl rfl)) ?_;simp only[zz,zy,ah,ab,ag,ae];refine cO rfl (fun u m=>((m.b 1 rfl).lies bF aK rfl rfl)) ?_;simp only[zz,zy,ah,ab,ag,ae];refine dM (dL m 4 rfl rfl rfl aM (bZ rfl) ⟨rfl,rfl⟩ ?_);clear m;intro u m;simp only[zz,zy,zx,aW,ab] at m;refine aC (⟨m.sel [true,true,true,true,false,true,true],?_⟩);refine bA (aG (c:=3) dF rfl aK rfl rfl) (dM ?_);simp only[zz];refine aN (off:=1) m 4 rfl rfl rfl aK (bZ rfl) rfl ?_;clear m;intro u m;simp only[zy,zx,aW,zF,zG,ab] at m;refine aC (⟨m.sel [true,true,true,true,false,true,true],?_⟩);refine bA (aG (c:=3) dF rfl aK rfl rfl) (dM ?_);simp only[zz];refine aN (off:=5) m 4 rfl rfl rfl aK (bZ rfl) rfl ?_;clear m;intro u m;simp only[zy,zx,aW,zF,zG,ab] at m;refine aC (⟨m.sel [true,true,true,true,false,true,true],?_⟩);refine bB (k43 _ _ ?_);refine aF fun K47 k47=>aa (aI rfl ((m.b 4 rfl).full jX eI) ?_);simp only[zz];refine aN m 5 rfl rfl rfl eI (bZ rfl) rfl ?_;clear m;intro u m;simp only[zy,zx,aW,zF,zG,ab] at m;refine aC (k47 _ _ ?_);refine bc ?_;try simp only[ac,af,if_true]
        refine bY rfl ⟨_,rfl,((m.b 5 rfl).full jX eI)⟩ ?_;try simp only[zD,zE]
        exact⟨_,rfl,m.ext,A3,n3,cap3,by rw[iO,if_pos hok,ha];rfl,by rw[iO,if_pos hok,ha,hn3,hoe];rfl,by rw[iO,if_pos hok,ha];exact (m.o 0 rfl).as (by rw[hoe];rfl)⟩
       ·
        have ha:Na (bH r (bU bs xs)) (dB r (bH r (bU bs xs)) (cG bs xs))=⟨3,tJ (dB r (bH r (bU bs xs)) (cG bs xs)),t,true,(dB r (bH r (bU bs xs)) (cG bs xs)).map fun x=>(x.1:Int)⟩:=by
         conv=>lhs;arg 1;rw[hh]
         exact Zk hoe
        rw[show vL (dB r (bH r (bU bs xs)) (cG bs xs))=3 from zW hoe] at m;refine aa (aA (aG (c:=0) dF rfl aM rfl rfl) ?_);simp only[zz];refine aI rfl ((m.b 4 rfl).lies1 aV rfl) ?_;simp only[zz];refine aA (pL rfl rfl (by decide)) (aA aD (aC (k46 _ _ ?_)));refine bX rfl (aa (aA (aG (c:=3) sL rfl aK rfl rfl) ?_));simp only[zz];refine aI rfl ((m.b 1 rfl).lies bF aK rfl rfl) ?_;simp only[zz,zy,ah,ab,ag,ae];refine aA (aG (c:=3) dF rfl aK rfl rfl) ?_;simp only[zz];refine aN (off:=5) m 4 rfl rfl rfl aK (bZ rfl) rfl ?_;clear m;intro u m;simp only[zy,zx,aW,zF,zG,ab] at m;refine aA (aG (c:=0) dF rfl fA rfl rfl) ?_;simp only[zz];refine dL (off:=9) m 4 rfl rfl rfl fA (bZ rfl) ⟨rfl,rfl⟩ ?_;clear m;intro u m;simp only[zz,zy,zx,aW,ab] at m;refine aC (k43 _ _ ?_);refine aF fun K48 k48=>aa (aI rfl ((m.b 4 rfl).full jX eI) ?_);simp only[zz];refine aN m 5 rfl rfl rfl eI (bZ rfl) rfl ?_;clear m;intro u m;simp only[zy,zx,aW,zF,zG,ab] at m;refine aC (k48 _ _ ?_);refine bc ?_;try simp only[ac,af,if_true]
        refine bY rfl ⟨_,rfl,((m.b 5 rfl).full jX eI)⟩ ?_;try simp only[zD,zE]
        exact⟨_,rfl,m.ext,A3,n3,cap3,by rw[iO,if_pos hok,ha];rfl,by rw[iO,if_pos hok,ha,hn3];exact (dj ..).symm,by rw[iO,if_pos hok,ha];exact (m.o 0 rfl).as (by rw[fO,List.map_map];rfl)⟩
end Go.Proofs.YtimjandkmfcmiaaGreatDoor
namespace Go.Lith
open Go.RowKit
theorem af1{n D:Int}{t:Rat}(hD:0<D):(n:Rat)≤t*(D:Rat)↔am n D≤t:=by
 rw[lw,←ij,←ij,Rat.lt_div_iff (kn.2 hD)]
theorem af2{n D:Int}{t:Rat}(hD:0<D):t*(D:Rat)≤(n:Rat)↔t≤am n D:=by
 rw[lw,←ij,←ij,Rat.div_lt_iff (kn.2 hD)]
theorem axq{n D:Int}{t:Rat}:t*((-D:Int):Rat)≤((-n:Int):Rat)↔(n:Rat)≤t*(D:Rat):=by
 rw[li,li,Rat.mul_neg];exact Rat.neg_le_neg_iff
theorem ags{n D:Int}{t:Rat}:((-n:Int):Rat)≤t*((-D:Int):Rat)↔t*(D:Rat)≤(n:Rat):=by
 rw[li,li,Rat.mul_neg];exact Rat.neg_le_neg_iff
theorem agt{n D:Int}{t:Rat}(hD:D<0):(n:Rat)≤t*(D:Rat)↔t≤am n D:=by
 rw[←axq,af2 (by omega),Rat.neg_divInt_neg]
theorem agu{n D:Int}{t:Rat}(hD:D<0):t*(D:Rat)≤(n:Rat)↔am n D≤t:=by
 rw[←ags,af1 (by omega),Rat.neg_divInt_neg]
def Kv(r:gJ)(n f d:Int)(t:Rat):Prop:=(n:Rat)≤t*((r.w*d:Int):Rat)∧t*((r.w*d:Int):Rat)≤(f:Rat)
theorem Zn{r:gJ}{n f d:Int}{t:Rat}(h:mN n f d):¬Kv r n f d t:=by
 rintro⟨h1,h2⟩;rcases h with h | ⟨rfl,h⟩
 · have:=im.1 (gh h1 h2)
   omega
 · rw[Int.mul_zero,show ((0:Int):Rat)=0 from rfl,Rat.mul_zero] at h1 h2
   have h1:=im.1 (show (n:Rat)≤((0:Int):Rat) from h1);have h2:=im.1 (show ((0:Int):Rat)≤(f:Rat) from h2);omega
theorem Uv{r:gJ}{n f:Int}{t:Rat}(h:¬mN n f 0):Kv r n f 0 t:=by
 unfold mN at h;unfold Kv;rw[Int.mul_zero,show ((0:Int):Rat)=0 from rfl,Rat.mul_zero];exact⟨(im (a:=n) (b:=0)).2 (by omega),(im (a:=0) (b:=f)).2 (by omega)⟩
theorem Zo{r:gJ}{n f d:Int}{t:Rat}(hw:0<r.w)(hd:d≠0):Kv r n f d t↔Gp r n f d≤t∧t≤Es r n f d:=by
 unfold Kv Gp Es;by_cases h:d<0
 · have hD:r.w*d<0:=Int.mul_neg_of_pos_of_neg hw h
   rw[if_pos h,if_pos h,agt hD,agu hD];exact And.comm
 · have hD:0<r.w*d:=Int.mul_pos hw (by omega)
   rw[if_neg h,if_neg h,af1 hD,af2 hD]
theorem abp{p q t:Rat}:Av p q≤t↔p≤t∧q≤t:=by
 unfold Av;split
 · rename_i h
   exact⟨fun k=>⟨gh (iy h) k,k⟩,fun k=>k.2⟩
 · rename_i h
   exact⟨fun k=>⟨k,gh (ij.1 h) k⟩,fun k=>k.1⟩
theorem Sl{o:Option Rat}{q t:Rat}:t≤sF o q↔(∀p,o=some p→t≤p)∧t≤q:=by
 unfold sF;cases o with
 | none=>exact⟨fun k=>⟨fun p e=>(by cases e),k⟩,fun k=>k.2⟩
 | some p =>
  simp only;split
  · rename_i h
    exact⟨fun k=>⟨fun p' e=>by cases e;exact gh k (iy h),k⟩,fun k=>k.2⟩
  · rename_i h
    exact⟨fun k=>⟨fun p' e=>by cases e;exact k,gh k (ij.1 h)⟩,fun k=>k.1 p rfl⟩
def pI(r:gJ)(lo hi:P3)(k:Nat)(t:Rat):Prop:=0≤t∧∀j,j<k→Kv r ((r.to lo).at j) ((r.to hi).at j) (r.d.at j) t
theorem uF{r:gJ}{lo hi:P3}{k:Nat}{t:Rat}:pI r lo hi (k+1) t↔pI r lo hi k t∧Kv r ((r.to lo).at k) ((r.to hi).at k) (r.d.at k) t :=
 ⟨fun h=>⟨⟨h.1,fun j hj=>h.2 j (by omega)⟩,h.2 k (by omega)⟩,fun h=>⟨h.1.1,fun j hj=>by
  rcases cn j k with h' | h'
  · exact h.1.2 j h'
  · obtain rfl:j=k:=by omega
    exact h.2⟩⟩
def Nq(r:gJ)(lo hi:P3)(k:Nat):List Rat:=if r.d.at k=0 then [] else [am ((r.to lo).at k) (r.w*r.d.at k),am ((r.to hi).at k) (r.w*r.d.at k)]
def iV(r:gJ)(lo hi:P3):Nat→List Rat
 | 0=>[0]
 | k+1=>iV r lo hi k++Nq r lo hi k
theorem Zp{r:gJ}{lo hi:P3}(hw:0<r.w):∀k,(Ae r lo hi k=none→∀t,¬pI r lo hi k t) ∧
 ∀st,Ae r lo hi k=some st→(∀t,pI r lo hi k t↔st.1≤t∧∀q,st.2=some q→t≤q)∧st.1∈iV r lo hi k∧∀q,st.2=some q→q∈iV r lo hi k
 | 0=>⟨fun h=>(by cases h),fun st h=>by
  cases h;exact⟨fun t=>⟨fun h=>⟨h.1,fun q e=>by cases e⟩,fun h=>⟨h.1,fun j hj=>by omega⟩⟩,List.mem_singleton.2 rfl,fun q e=>by cases e⟩⟩
 | k+1=>by
  obtain⟨i1,i2⟩:=Zp (r:=r) (lo:=lo) (hi:=hi) hw k;rw[Ae];cases hs:Ae r lo hi k with
  | none=>exact⟨fun _ t h=>i1 hs t (uF.1 h).1,fun st h=>by cases h⟩
  | some s =>
   obtain⟨j1,j2,j3⟩:=i2 s hs;rw[ip,axR];by_cases ho:mN ((r.to lo).at k) ((r.to hi).at k) (r.d.at k)
   · rw[if_pos ho]
     exact⟨fun _ t h=>Zn ho (uF.1 h).2,fun st h=>by cases h⟩
   · rw[if_neg ho]
     by_cases hd:r.d.at k=0
     · rw[if_pos hd]
       refine⟨fun h=>(by cases h),fun st h=>?_⟩;cases h;refine⟨fun t=>?_,ic _ j2,fun q e=>ic _ (j3 q e)⟩;rw[uF,j1];rw[hd] at ho ⊢;exact⟨fun h=>h.1,fun h=>⟨h,Uv ho⟩⟩
     · rw[if_neg hd]
       refine⟨fun h=>(by cases h),fun st h=>?_⟩;cases h;have c1:∀x,x=am ((r.to lo).at k) (r.w*r.d.at k)∨x=am ((r.to hi).at k) (r.w*r.d.at k)→x∈iV r lo hi (k+1):=fun x hx=>by
        refine List.mem_append_right _ ?_;rw[Nq,if_neg hd];rcases hx with rfl | rfl <;> simp
       have c2:Gp r ((r.to lo).at k) ((r.to hi).at k) (r.d.at k)∈iV r lo hi (k+1):=c1 _ (by unfold Gp;split;exact .inr rfl;exact .inl rfl);have c3:Es r ((r.to lo).at k) ((r.to hi).at k) (r.d.at k)∈iV r lo hi (k+1):=c1 _ (by unfold Es;split;exact .inl rfl;exact .inr rfl);refine⟨fun t=>?_,?_,fun q e=>?_⟩
       · rw[uF,j1,Zo hw hd]
         show _↔Av _ _≤t∧∀q,some (sF _ _)=some q→t≤q
         rw[abp];constructor
         · rintro⟨⟨h1,h2⟩,h3,h4⟩
           exact⟨⟨h1,h3⟩,fun q e=>by cases e;exact Sl.2 ⟨h2,h4⟩⟩
         · rintro⟨⟨h1,h3⟩,h2⟩
           have:=Sl.1 (h2 _ rfl);exact⟨⟨h1,this.1⟩,h3,this.2⟩
       · show Av _ _∈_
         unfold Av;split
         · exact c2
         · exact ic _ j2
       · have e:some (sF s.2 (Es r ((r.to lo).at k) ((r.to hi).at k) (r.d.at k)))=some q:=e
         cases e;unfold sF;split
         · exact c3
         · rename_i p hp
           split
           · exact c3
           · exact ic _ (j3 _ hp)
theorem adY{r:gJ}{lo hi:P3}(hok:r.ok):(oK r lo hi=none→∀t,¬pI r lo hi 3 t) ∧
 ∀p q,oK r lo hi=some (p,q)→(∀t,pI r lo hi 3 t↔p≤t∧t≤q)∧p≤q∧p∈iV r lo hi 3∧q∈iV r lo hi 3:=by
 obtain⟨i1,i2⟩:=Zp (r:=r) (lo:=lo) (hi:=hi) hok.1 3;unfold oK;rw[if_pos hok];cases hs:Ae r lo hi 3 with
 | none=>exact⟨fun _=>i1 hs,fun p q h=>by cases h⟩
 | some s =>
  obtain⟨j1,j2,j3⟩:=i2 s hs;rw[ip];obtain⟨p,o⟩:=s;cases o with
  | none =>
   exfalso;have hall:∀j,j<3→r.d.at j=0:=by
    have key:∀k st,Ae r lo hi k=some st→st.2=none→∀j,j<k→r.d.at j=0:=by
     intro k
     induction k with
     | zero=>intro st _ _ j hj;omega
     | succ k ih =>
      intro st h hn j hj;rw[Ae] at h;obtain⟨s,hs,e⟩:=jf.1 h;unfold axR at e;split at e
      · cases e
      · split at e
        · rename_i h0
          cases e;rcases cn j k with h' | h'
          · exact ih _ hs hn j h'
          · obtain rfl:j=k:=by omega
            exact h0
        · cases e;cases hn
    exact key 3 _ hs rfl
   exact hok.2 ⟨hall 0 (by decide),hall 1 (by decide),hall 2 (by decide)⟩
  | some q =>
   simp only;have k1:∀t,pI r lo hi 3 t↔p≤t∧t≤q:=fun t=>by
    rw[j1];exact⟨fun h=>⟨h.1,h.2 q rfl⟩,fun h=>⟨h.1,fun q' e=>by cases e;exact h.2⟩⟩
   by_cases hqp:q<p
   · rw[if_pos hqp]
     exact⟨fun _ t h=>Rat.not_le.2 hqp (gh ((k1 t).1 h).1 ((k1 t).1 h).2),fun p' q' h=>by cases h⟩
   · rw[if_neg hqp]
     refine⟨fun h=>(by cases h),fun p' q' h=>?_⟩;cases h;exact⟨k1,ij.1 hqp,j2,j3 q rfl⟩
noncomputable def uP(I:Rat→Prop)(s:Option (Rat × Rat))(t:Rat):Option (Rat × Rat) :=
 open Classical in if I t then match s with
  | none=>some (t,t)
  | some (p,q)=>some (if t<p then t else p,if q<t then t else q)
 else s
def Fc(I:Rat→Prop)(L:List Rat)(s:Option (Rat × Rat)):Prop:=(s=none→∀t∈L,¬I t)∧∀p q,s=some (p,q)→(p∈L∧I p)∧(q∈L∧I q)∧∀t∈L,I t→p≤t∧t≤q
theorem Uw{I:Rat→Prop}{L:List Rat}{s:Option (Rat × Rat)}(h:Fc I L s)(t:Rat):Fc I (L++[t]) (uP I s t):=by
 obtain⟨i1,i2⟩:=h;have mem:∀x,x∈L++[t]↔x∈L∨x=t:=fun x=>by simp
 unfold uP;split
 · rename_i hI
   cases hs:s with
   | none =>
    refine⟨fun h=>(by cases h),fun p q h=>?_⟩;cases h;refine⟨⟨by simp,hI⟩,⟨by simp,hI⟩,fun x hx hIx=>?_⟩;rcases (mem x).1 hx with hx | rfl
    · exact absurd hIx (i1 hs x hx)
    · exact⟨gn,gn⟩
   | some s' =>
    obtain⟨p,q⟩:=s';obtain⟨⟨a1,a2⟩,⟨b1,b2⟩,c⟩:=i2 p q hs;have hpq:=(c p a1 a2).2;refine⟨fun h=>(by cases h),fun p' q' h=>?_⟩;cases h;refine⟨?_,?_,fun x hx hIx=>?_⟩
    · split
      · exact⟨by simp,hI⟩
      · exact⟨(mem _).2 (.inl a1),a2⟩
    · split
      · exact⟨by simp,hI⟩
      · exact⟨(mem _).2 (.inl b1),b2⟩
    · rcases (mem x).1 hx with hx | rfl
      · obtain⟨k1,k2⟩:=c x hx hIx
        constructor
        · split
          · rename_i h;exact gh (iy h) k1
          · exact k1
        · split
          · rename_i h;exact gh k2 (iy h)
          · exact k2
      · constructor
        · split
          · exact gn
          · rename_i h;exact ij.1 h
        · split
          · exact gn
          · rename_i h;exact ij.1 h
 · rename_i hI
   refine⟨fun h x hx hIx=>?_,fun p q h=>?_⟩
   · rcases (mem x).1 hx with hx | rfl
     · exact i1 h x hx hIx
     · exact hI hIx
   · obtain⟨⟨a1,a2⟩,⟨b1,b2⟩,c⟩:=i2 p q h
     refine⟨⟨(mem _).2 (.inl a1),a2⟩,⟨(mem _).2 (.inl b1),b2⟩,fun x hx hIx=>?_⟩;rcases (mem x).1 hx with hx | rfl
     · exact c x hx hIx
     · exact absurd hIx hI
theorem If{I:Rat→Prop}:∀(L M:List Rat) (s:Option (Rat × Rat)),Fc I M s→Fc I (M++L) (L.foldl (uP I) s)
 | [],M,s,h=>by rw[du];exact h
 | t::L,M,s,h=>by
  have:=If L (M++[t]) (uP I s t) (Uw h t);rwa [List.append_assoc] at this
theorem abq{I:Rat→Prop}(L:List Rat):Fc I L (L.foldl (uP I) none):=If L [] none ⟨fun _ t h=>(by cases h),fun p q h=>by cases h⟩
theorem Zq{r:gJ}{lo hi:P3}(hok:r.ok):(iV r lo hi 3).foldl (uP (pI r lo hi 3)) none=oK r lo hi:=by
 obtain⟨f1,f2⟩:=abq (I:=pI r lo hi 3) (iV r lo hi 3);obtain⟨g1,g2⟩:=adY (lo:=lo) (hi:=hi) hok;cases hf:(iV r lo hi 3).foldl (uP (pI r lo hi 3)) none with
 | none =>
  cases hb:oK r lo hi with
  | none=>rfl
  | some y =>
   obtain⟨p,q⟩:=y;obtain⟨k1,k2,k3,_⟩:=g2 p q hb;exact absurd ((k1 p).2 ⟨gn,k2⟩) (f1 hf p k3)
 | some x =>
  obtain⟨p,q⟩:=x;obtain⟨⟨a1,a2⟩,⟨b1,b2⟩,c⟩:=f2 p q hf;cases hb:oK r lo hi with
  | none=>exact absurd a2 (g1 hb p)
  | some y =>
   obtain⟨p',q'⟩:=y;obtain⟨k1,k2,k3,k4⟩:=g2 p' q' hb;have e1:=c p' k3 ((k1 p').2 ⟨gn,k2⟩);have e2:=c q' k4 ((k1 q').2 ⟨k2,gn⟩);have e3:=(k1 p).1 a2;have e4:=(k1 q).1 b2;rw[mj e1.1 e3.1,mj e4.2 e2.2]
theorem af3{W s d:Int}(hW:0<W)(t:Rat):(am s W+t*(d:Rat))*(W:Rat)=(s:Rat)+t*((W*d:Int):Rat):=by
 have hne:(W:Rat)≠0:=fun e=>by
  have:=kn.2 hW;rw[e] at this;exact absurd this (by decide)
 rw[lw,Rat.add_mul,Rat.div_mul_cancel hne,ml]
 grind
theorem abr{W s l d:Int}(hW:0<W){t:Rat}:(l:Rat)≤am s W+t*(d:Rat)↔((l*W-s:Int):Rat)≤t*((W*d:Int):Rat):=by
 have hp:=kn.2 hW;have e:=af3 (s:=s) (d:=d) hW t;rw[Rat.intCast_sub,ml l W];constructor
 · intro h
   have:=Rat.mul_le_mul_of_nonneg_right h (iy hp);rw[e] at this
   grind
 · intro h
   refine Rat.le_of_mul_le_mul_right (c:=(W:Rat)) ?_ hp;rw[e]
   grind
theorem abt{W s l d:Int}(hW:0<W){t:Rat}:am s W+t*(d:Rat)≤(l:Rat)↔t*((W*d:Int):Rat)≤((l*W-s:Int):Rat):=by
 have hp:=kn.2 hW;have e:=af3 (s:=s) (d:=d) hW t;rw[Rat.intCast_sub,ml l W];constructor
 · intro h
   have:=Rat.mul_le_mul_of_nonneg_right h (iy hp);rw[e] at this
   grind
 · intro h
   refine Rat.le_of_mul_le_mul_right (c:=(W:Rat)) ?_ hp;rw[e]
   grind
theorem within_iff{r:gJ}{lo hi:P3}(hw:0<r.w)(k:Nat)(t:Rat):Kv r ((r.to lo).at k) ((r.to hi).at k) (r.d.at k) t↔((lo.at k:Int):Rat)≤am (r.s.at k) r.w+t*((r.d.at k:Int):Rat)∧am (r.s.at k) r.w+t*((r.d.at k:Int):Rat)≤((hi.at k:Int):Rat):=by
 have e:∀p:P3,(r.to p).at k=p.at k*r.w-r.s.at k:=fun p=>by unfold P3.at;split <;> rfl
 rw[Kv,e,e,abr hw,abt hw]
def nW(r:gJ)(ts:List T3)(b:Option Rat):Prop:=(b=none→∀t∈ts,¬jK r t)∧∀q,b=some q→(∃t∈ts,jK r t∧gC r t=q)∧∀t∈ts,jK r t→q≤gC r t
theorem Zr(r:gJ):nW r [] none:=⟨fun _ t h=>(by cases h),fun q h=>by cases h⟩
theorem abu{r:gJ}{t:T3}{ts:List T3}{b:Option Rat}(h:nW r ts b)(hh:¬jK r t):nW r (t::ts) b:=by
 refine⟨fun e u hu hu'=>?_,fun q e=>?_⟩
 · rcases bn.1 hu with rfl | hu
   · exact hh hu'
   · exact h.1 e u hu hu'
 · obtain⟨⟨u,hu,k⟩,hl⟩:=h.2 q e
   refine⟨⟨u,cw _ hu,k⟩,fun v hv hv'=>?_⟩;rcases bn.1 hv with rfl | hv
   · exact absurd hv' hh
   · exact hl v hv hv'
theorem Nr{r:gJ}{t:T3}{ts:List T3}{b:Option Rat}(h:nW r ts b)(hh:jK r t)(hq:∀q,b=some q→gC r t≤q):nW r (t::ts) (some (gC r t)):=by
 refine⟨fun e=>(by cases e),fun q e=>?_⟩;cases e;refine⟨⟨t,cu ..,hh,rfl⟩,fun v hv hv'=>?_⟩;rcases bn.1 hv with rfl | hv
 · exact gn
 · cases hb:b with
   | none=>exact absurd hv' (h.1 hb v hv)
   | some q=>exact gh (hq q hb) ((h.2 q hb).2 v hv hv')
theorem Ux{r:gJ}{t:T3}{ts:List T3}{q:Rat}(h:nW r ts (some q))(hq:¬gC r t≤q):nW r (t::ts) (some q):=by
 refine⟨fun e=>(by cases e),fun p e=>?_⟩;cases e;obtain⟨⟨u,hu,k⟩,hl⟩:=h.2 q rfl;refine⟨⟨u,cw _ hu,k⟩,fun v hv hv'=>?_⟩;rcases bn.1 hv with rfl | hv
 · exact iy (Rat.not_le.1 hq)
 · exact hl v hv hv'
theorem Qi{r:gJ}{ts:List T3}{b:Option Rat}(h:nW r ts b):b.isSome=(bH r ts).isSome∧b.getD 0=mZ (bH r ts):=by
 cases hf:bH r ts with
 | none =>
  cases b with
  | none=>exact⟨rfl,rfl⟩
  | some q =>
   obtain⟨⟨t,ht,hh,_⟩,_⟩:=h.2 q rfl;obtain⟨p,k,e,_⟩:=Hy ht hh;rw[hf] at e;cases e
 | some x =>
  obtain⟨t,ht,hh,hc⟩:=Nc (q:=x.1) (k:=x.2) hf;cases b with
  | none=>exact absurd hh (h.1 rfl t ht)
  | some q =>
   obtain⟨⟨u,hu,hu',hq⟩,hl⟩:=h.2 q rfl;obtain⟨p,k,e,hp⟩:=Hy hu hu';rw[hf] at e;cases e;have h1:=hl t ht hh;rw[hc] at h1;rw[hq] at hp;exact⟨rfl,mj h1 hp⟩
end Go.Lith
namespace Go.Proofs.YtimjandkmfcmiaaGreatDoor
open Go.Proofs.Tryz
open Go.RowKit Go.Lith
set_option maxRecDepth 100000
attribute [local irreducible] bh ck eY eO eJ Code.wp
instance:Iw 1:=⟨by unfold kO;decide⟩
end Go.Proofs.YtimjandkmfcmiaaGreatDoor
namespace Go.Proofs.YtimjandkmfcmiaaGreatDoor
open Go.Proofs.Tryz
open Go.RowKit Go.Lith
set_option maxRecDepth 100000
attribute [local irreducible] bh ck eY eO eJ Code.wp
theorem zY{p q:P3}[I3 p][I3 q]:eB prog 112 [pt p,pt q] (wv (q.sub p)):=by
 intro w;refine⟨acw,?_⟩;have m:=cK.refl w
 go_enter func112,ntmps112
 refine aF fun K1 k1=>aa (cQ m rfl ?_);clear m;intro g1 u m;simp only[zz];refine cQ m rfl ?_;clear m;intro g2 u m;simp only[zz];refine bE m iT rfl ?_;clear m;intro g3 u m;refine aC (k1 _ _ ?_);refine aF fun K2 k2=>?_;simp only[zz];refine eP 8 [0,1,2,3,4,5,6] [⟨7,5,35,[.bool false,.string ⟨#[]⟩]⟩] aP (by kernel_rfl) (al1 ⟨_,_,_,rfl,by kernel_rfl,_,cL,rfl⟩) (ol:=?_) ?hol ?_
 case hol=>simp only[zw,zQ,zR];try rfl
 intro u e;replace m:=m.ext' e;clear e;refine jE (aG (c:=0) bP rfl aM rfl rfl) ?_;simp only[zz];refine eU rfl (fun u e=>(((m.ext' e).b 1 rfl).lies1 aV rfl)) ?_;simp only[zz];refine eR rfl rfl (eA Iw.h) (jE (aG (c:=0) bP rfl aM rfl rfl) ?_);simp only[zz];refine eU rfl (fun u e=>(((m.ext' e).b 2 rfl).lies1 aV rfl)) ?_;simp only[zz];refine eR rfl rfl (eA Iw.h) ?_;simp only[zz];refine eR rfl rfl (mY Bw.up Bw.up) (qZ ?_);simp only[zz];refine mf1 m ?_;clear m;intro g4 u m;simp only[zJ,zK,zF,zG];refine aN m 0 rfl rfl rfl aH (bZ rfl) rfl ?_;clear m;intro u m;simp only[zy,zx,aW,zF,zG,ab] at m;refine aC (k2 _ _ ?_);refine aF fun K3 k3=>?_;refine eP 8 [0,1,2,3,4,5,6] [⟨7,6,35,[.bool false,.string ⟨#[]⟩]⟩] aP (by kernel_rfl) (al1 ⟨_,_,_,rfl,by kernel_rfl,_,cL,rfl⟩) (ol:=?_) ?hol ?_
 case hol=>simp only[zw,zQ,zR];try rfl
 intro u e;replace m:=m.ext' e;clear e;refine jE (aG (c:=0) bP rfl aM rfl rfl) ?_;simp only[zz];refine eU rfl (fun u e=>(((m.ext' e).b 2 rfl).lies1 aV rfl)) ?_;simp only[zz];refine eR rfl rfl (eA Iw.h) (jE (aG (c:=0) bP rfl aM rfl rfl) ?_);simp only[zz];refine eU rfl (fun u e=>(((m.ext' e).b 3 rfl).lies1 aV rfl)) ?_;simp only[zz];refine eR rfl rfl (eA Iw.h) ?_;simp only[zz];refine eR rfl rfl (mY Bw.up Bw.up) (qZ ?_);simp only[zz];refine mf1 m ?_;clear m;intro g5 u m;simp only[zJ,zK,zF,zG];refine aN m 0 rfl rfl rfl aH (bZ rfl) rfl ?_;clear m;intro u m;simp only[zy,zx,aW,zF,zG,ab] at m;refine aC (k3 _ _ ?_);refine aF fun K4 k4=>?_;refine eP 8 [0,1,2,3,4,5,6] [⟨7,7,35,[.bool false,.string ⟨#[]⟩]⟩] aP (by kernel_rfl) (al1 ⟨_,_,_,rfl,by kernel_rfl,_,cL,rfl⟩) (ol:=?_) ?hol ?_
 case hol=>simp only[zw,zQ,zR];try rfl
 intro u e;replace m:=m.ext' e;clear e;refine jE (aG (c:=0) bP rfl aM rfl rfl) ?_;simp only[zz];refine eU rfl (fun u e=>(((m.ext' e).b 3 rfl).lies1 aV rfl)) ?_;simp only[zz];refine eR rfl rfl (eA Iw.h) (jE (aG (c:=0) bP rfl aM rfl rfl) ?_);simp only[zz];refine eU rfl (fun u e=>(((m.ext' e).b 4 rfl).lies1 aV rfl)) ?_;simp only[zz];refine eR rfl rfl (eA Iw.h) ?_;simp only[zz];refine eR rfl rfl (mY Bw.up Bw.up) (qZ ?_);simp only[zz];refine mf1 m ?_;clear m;intro g6 u m;simp only[zJ,zK,zF,zG];refine aN m 0 rfl rfl rfl aH (bZ rfl) rfl ?_;clear m;intro u m;simp only[zy,zx,aW,zF,zG,ab] at m;refine aC (k4 _ _ ?_);refine aF fun K5 k5=>aa (aI rfl ((m.b 2 rfl).full aT aH) ?_);simp only[zz];refine aI rfl ((m.b 1 rfl).full aT aH) ?_;simp only[zz];refine aI rfl ((m.b 0 rfl).full aT aH) ?_;simp only[zz];refine aA (lQ rfl rfl rfl) ?_;simp only[zz];refine aN m 3 rfl rfl rfl cM (bZ rfl) rfl ?_;clear m;intro u m;simp only[zy,zx,aW,zF,zG,ab] at m;refine aC (k5 _ _ ?_);refine bc ?_;try simp only[ac,af,if_true]
 refine bY rfl ⟨_,rfl,((m.b 3 rfl).full fB cM)⟩ ?_;try simp only[zD,zE]
 exact⟨_,rfl,m.ext,rfl⟩
theorem Ba{a b c d:Int}(ha:Bd 400000 a)(hb:Bd 400000 b)(hc:Bd 400000 c)(hd:Bd 400000 d):eB prog 141 [W a,W b,W c,W d] (W (a*b-c*d)):=by
 intro w;refine⟨acS,?_⟩;have m:=cK.refl w;haveI:Bw 400000 a:=⟨ha⟩;haveI:Bw 400000 b:=⟨hb⟩;haveI:Bw 400000 c:=⟨hc⟩;haveI:Bw 400000 d:=⟨hd⟩
 go_enter func141,ntmps141
 refine aF fun K1 k1=>aa (cQ m rfl ?_);clear m;intro g1 u m;simp only[zz];refine cQ m rfl ?_;clear m;intro g2 u m;simp only[zz];refine cQ m rfl ?_;clear m;intro g3 u m;simp only[zz];refine cQ m rfl ?_;clear m;intro g4 u m;simp only[zz];refine bE m cL rfl ?_;clear m;intro g5 u m;refine aC (k1 _ _ ?_);refine aF fun K2 k2=>?_;simp only[zz];refine dO m 7 aP (by kernel_rfl) ?_;simp only[zy];refine ql rfl (fun u m=>((m.b 4 rfl).full aT aH)) ?_;simp only[zz];refine ql rfl (fun u m=>((m.b 3 rfl).full aT aH)) ?_;simp only[zz];refine gV rfl rfl (gI Bw.up Bw.up) ?_;simp only[zz];refine ql rfl (fun u m=>((m.b 2 rfl).full aT aH)) ?_;simp only[zz];refine ql rfl (fun u m=>((m.b 1 rfl).full aT aH)) ?_;simp only[zz];refine gV rfl rfl (gI Bw.up Bw.up) ?_;simp only[zz];refine gV rfl rfl (mY Bw.up Bw.up) (eD ?_);clear m;intro u m;simp only[zz];refine aN m 0 rfl rfl rfl aH (bZ rfl) rfl ?_;clear m;intro u m;simp only[zy,zx,aW,zF,zG,ab] at m;refine aC (k2 _ _ ?_);refine bc ?_;try simp only[ac,af,if_true]
 refine bY rfl ⟨_,rfl,((m.b 0 rfl).full aT aH)⟩ ?_;try simp only[zD,zE]
 exact⟨_,rfl,m.ext,rfl⟩
theorem Ns{u v:P3}(hu:Bv 400000 u)(hv:Bv 400000 v):eB prog 111 [wv u,wv v] (wv (u.cross v)):=by
 intro w;refine⟨acv,?_⟩;have m:=cK.refl w
 go_enter func111,ntmps111
 refine aF fun K1 k1=>aa (cQ m rfl ?_);clear m;intro g1 u m;simp only[zz];refine cQ m rfl ?_;clear m;intro g2 u m;simp only[zz];refine bE m iT rfl ?_;clear m;intro g3 u m;refine aC (k1 _ _ ?_);refine aF fun K2 k2=>?_;simp only[zz];refine dO m 28 aP (by kernel_rfl) ?_;simp only[zy];refine aQ (aJ eG aH rfl rfl (by decide) (by decide) rfl) ?_;simp only[zz];refine ql rfl (fun u m=>((m.b 2 rfl).lies aT aH rfl rfl)) ?_;simp only[zz,zy,ah,ab,ag,ae];refine aQ (aJ eG aH rfl rfl (by decide) (by decide) rfl) ?_;simp only[zz];refine ql rfl (fun u m=>((m.b 1 rfl).lies aT aH rfl rfl)) ?_;simp only[zz,zy,ah,ab,ag,ae];refine aQ (aJ eG aH rfl rfl (by decide) (by decide) rfl) ?_;simp only[zz];refine ql rfl (fun u m=>((m.b 2 rfl).lies aT aH rfl rfl)) ?_;simp only[zz,zy,ah,ab,ag,ae];refine aQ (aJ eG aH rfl rfl (by decide) (by decide) rfl) ?_;simp only[zz];refine ql rfl (fun u m=>((m.b 1 rfl).lies aT aH rfl rfl)) ?_;simp only[zz,zy,ah,ab,ag,ae];refine gV rfl rfl (Ba Bw.up Bw.up Bw.up Bw.up) (aQ (aJ eG aH rfl rfl (by decide) (by decide) rfl) ?_);simp only[zz];refine ql rfl (fun u m=>((m.b 2 rfl).lies aT aH rfl rfl)) ?_;simp only[zz,zy,ah,ab,ag,ae];refine aQ (aJ eG aH rfl rfl (by decide) (by decide) rfl) ?_;simp only[zz];refine ql rfl (fun u m=>((m.b 1 rfl).lies aT aH rfl rfl)) ?_;simp only[zz,zy,ah,ab,ag,ae];refine aQ (aJ eG aH rfl rfl (by decide) (by decide) rfl) ?_;simp only[zz];refine ql rfl (fun u m=>((m.b 2 rfl).lies aT aH rfl rfl)) ?_;simp only[zz,zy,ah,ab,ag,ae];refine aQ (aJ eG aH rfl rfl (by decide) (by decide) rfl) ?_;simp only[zz];refine ql rfl (fun u m=>((m.b 1 rfl).lies aT aH rfl rfl)) ?_;simp only[zz,zy,ah,ab,ag,ae];refine gV rfl rfl (Ba Bw.up Bw.up Bw.up Bw.up) (aQ (aJ eG aH rfl rfl (by decide) (by decide) rfl) ?_);simp only[zz];refine ql rfl (fun u m=>((m.b 2 rfl).lies aT aH rfl rfl)) ?_;simp only[zz,zy,ah,ab,ag,ae];refine aQ (aJ eG aH rfl rfl (by decide) (by decide) rfl) ?_;simp only[zz];refine ql rfl (fun u m=>((m.b 1 rfl).lies aT aH rfl rfl)) ?_;simp only[zz,zy,ah,ab,ag,ae];refine aQ (aJ eG aH rfl rfl (by decide) (by decide) rfl) ?_;simp only[zz];refine ql rfl (fun u m=>((m.b 2 rfl).lies aT aH rfl rfl)) ?_;simp only[zz,zy,ah,ab,ag,ae];refine aQ (aJ eG aH rfl rfl (by decide) (by decide) rfl) ?_;simp only[zz];refine ql rfl (fun u m=>((m.b 1 rfl).lies aT aH rfl rfl)) ?_;simp only[zz,zy,ah,ab,ag,ae];refine gV rfl rfl (Ba Bw.up Bw.up Bw.up Bw.up) (aQ (lQ rfl rfl rfl) (eD ?_));clear m;intro u m;simp only[zz];refine aN m 0 rfl rfl rfl cM (bZ rfl) rfl ?_;clear m;intro u m;simp only[zy,zx,aW,zF,zG,ab] at m;refine aC (k2 _ _ ?_);refine bc ?_;try simp only[ac,af,if_true]
 refine bY rfl ⟨_,rfl,((m.b 0 rfl).full fB cM)⟩ ?_;try simp only[zD,zE]
 exact⟨_,rfl,m.ext,rfl⟩
theorem Uy{t:T3}[IT t]:eB prog 78 [tr t] (wv t.normal):=by
 intro w;refine⟨aff,?_⟩;have m:=cK.refl w
 go_enter func78,ntmps78
 refine aF fun K1 k1=>aa (cQ m rfl ?_);clear m;intro g1 u m;simp only[zz];refine bE m iT rfl ?_;clear m;intro g2 u m;refine aC (k1 _ _ ?_);refine aF fun K2 k2=>?_;simp only[zz];refine dO m 11 aP (by kernel_rfl) ?_;simp only[zy];refine aQ (aJ iC aL rfl rfl (by decide) (by decide) rfl) ?_;simp only[zz];refine ql rfl (fun u m=>((m.b 1 rfl).lies bG aL rfl rfl)) ?_;simp only[zz,zy,ah,ab,ag,ae];refine aQ (aJ iC aL rfl rfl (by decide) (by decide) rfl) ?_;simp only[zz];refine ql rfl (fun u m=>((m.b 1 rfl).lies bG aL rfl rfl)) ?_;simp only[zz,zy,ah,ab,ag,ae];refine gV rfl rfl zY (aQ (aJ iC aL rfl rfl (by decide) (by decide) rfl) ?_);simp only[zz];refine ql rfl (fun u m=>((m.b 1 rfl).lies bG aL rfl rfl)) ?_;simp only[zz,zy,ah,ab,ag,ae];refine aQ (aJ iC aL rfl rfl (by decide) (by decide) rfl) ?_;simp only[zz];refine ql rfl (fun u m=>((m.b 1 rfl).lies bG aL rfl rfl)) ?_;simp only[zz,zy,ah,ab,ag,ae];refine gV rfl rfl zY ?_;simp only[zz];refine gV rfl rfl (Ns Bv.of Bv.of) (eD ?_);clear m;intro u m;simp only[zz];refine aN m 0 rfl rfl rfl cM (bZ rfl) rfl ?_;clear m;intro u m;simp only[zy,zx,aW,zF,zG,ab] at m;refine aC (k2 _ _ ?_);refine bc ?_;try simp only[ac,af,if_true]
 refine bY rfl ⟨_,rfl,((m.b 0 rfl).full fB cM)⟩ ?_;try simp only[zD,zE]
 exact⟨_,rfl,m.ext,rfl⟩
theorem Qj{u v:P3}(hu:Bv 400000 u)(hv:Bv 400000 v):eB prog 79 [wv u,wv v] (W (u.dot v)):=by
 intro w;refine⟨afg,?_⟩;have m:=cK.refl w
 go_enter func79,ntmps79
 refine aF fun K1 k1=>aa (cQ m rfl ?_);clear m;intro g1 u m;simp only[zz];refine cQ m rfl ?_;clear m;intro g2 u m;simp only[zz];refine bE m cL rfl ?_;clear m;intro g3 u m;refine aC (k1 _ _ ?_);refine aF fun K2 k2=>aa (aA (aJ eG aH rfl rfl (by decide) (by decide) rfl) ?_);simp only[zz];refine aI rfl ((m.b 2 rfl).lies aT aH rfl rfl) ?_;simp only[zz,zy,ah,ab,ag,ae];refine aA (aJ eG aH rfl rfl (by decide) (by decide) rfl) ?_;simp only[zz];refine aI rfl ((m.b 1 rfl).lies aT aH rfl rfl) ?_;simp only[zz,zy,ah,ab,ag,ae];refine aX m rfl rfl (gI Bw.up Bw.up) ?_;clear m;intro u m;simp only[zz];refine bE m cL rfl ?_;clear m;intro g4 u m;simp only[zz];refine aN m 0 rfl rfl rfl aH (bZ rfl) rfl ?_;clear m;intro u m;simp only[zy,zx,aW,zF,zG,ab] at m;refine aC (k2 _ _ ?_);refine aF fun K3 k3=>?_;refine dO m 7 aP (by kernel_rfl) ?_;simp only[zy];refine ql rfl (fun u m=>((m.b 0 rfl).full aT aH)) ?_;simp only[zz];refine aQ (aJ eG aH rfl rfl (by decide) (by decide) rfl) ?_;simp only[zz];refine ql rfl (fun u m=>((m.b 3 rfl).lies aT aH rfl rfl)) ?_;simp only[zz,zy,ah,ab,ag,ae];refine aQ (aJ eG aH rfl rfl (by decide) (by decide) rfl) ?_;simp only[zz];refine ql rfl (fun u m=>((m.b 2 rfl).lies aT aH rfl rfl)) ?_;simp only[zz,zy,ah,ab,ag,ae];refine gV rfl rfl (gI Bw.up Bw.up) ?_;simp only[zz];refine gV rfl rfl (sB Bw.up Bw.up) (eD ?_);clear m;intro u m;simp only[zz];refine aN m 0 rfl rfl rfl aH (bZ rfl) rfl ?_;clear m;intro u m;simp only[zy,zx,aW,zF,zG,ab] at m;refine aC (k3 _ _ ?_);refine aF fun K4 k4=>?_;refine dO m 7 aP (by kernel_rfl) ?_;simp only[zy];refine ql rfl (fun u m=>((m.b 0 rfl).full aT aH)) ?_;simp only[zz];refine aQ (aJ eG aH rfl rfl (by decide) (by decide) rfl) ?_;simp only[zz];refine ql rfl (fun u m=>((m.b 3 rfl).lies aT aH rfl rfl)) ?_;simp only[zz,zy,ah,ab,ag,ae];refine aQ (aJ eG aH rfl rfl (by decide) (by decide) rfl) ?_;simp only[zz];refine ql rfl (fun u m=>((m.b 2 rfl).lies aT aH rfl rfl)) ?_;simp only[zz,zy,ah,ab,ag,ae];refine gV rfl rfl (gI Bw.up Bw.up) ?_;simp only[zz];refine gV rfl rfl (sB Bw.up Bw.up) (eD ?_);clear m;intro u m;simp only[zz];refine aN m 1 rfl rfl rfl aH (bZ rfl) rfl ?_;clear m;intro u m;simp only[zy,zx,aW,zF,zG,ab] at m;refine aC (k4 _ _ ?_);refine bc ?_;try simp only[ac,af,if_true]
 refine bY rfl ⟨_,rfl,((m.b 1 rfl).full aT aH)⟩ ?_;try simp only[zD,zE]
 exact⟨_,rfl,m.ext,rfl⟩
theorem lC  : eB prog 29 [] (Q 0):=by
 intro w;refine⟨aet,?_⟩;have m:=cK.refl w;haveI:Iw 0:=⟨by unfold kO;decide⟩
 go_enter func29,ntmps29
 refine aF fun K1 k1=>aa (bE m cF rfl ?_);clear m;intro g1 u m;refine aC (k1 _ _ ?_);refine aF fun K2 k2=>aa ?_;simp only[zz];refine aX m rfl rfl (eA Iw.h) ?_;clear m;intro u m;simp only[zz];refine aX m rfl rfl (eA Iw.h) ?_;clear m;intro u m;refine aA (gS rfl rfl) ?_;simp only[zz];refine aN m 0 rfl rfl rfl aK (bZ rfl) rfl ?_;clear m;intro u m;simp only[zy,zx,aW,zF,zG,ab] at m;refine aC (k2 _ _ ?_);refine bc ?_;try simp only[ac,af,if_true]
 refine bY rfl ⟨_,rfl,((m.b 0 rfl).full bF aK)⟩ ?_;try simp only[zD,zE]
 exact⟨_,rfl,m.ext,rfl⟩
theorem abv{u v:P3}(hu:Bv 400000 u)(hv:Bv 400000 v):eB prog 140 [wv u,wv v,.int .i64 1,.int .i64 2] (W (u.y*v.z-u.z*v.y)):=by
 intro w;refine⟨Oo,?_⟩;have m:=cK.refl w
 go_enter func140,ntmps140
 refine aF fun K1 k1=>aa (cQ m rfl ?_);clear m;intro g1 u m;simp only[zz];refine cQ m rfl ?_;clear m;intro g2 u m;simp only[zz];refine bE m cL rfl ?_;clear m;intro g3 u m;refine aC (k1 _ _ ?_);refine aF fun K2 k2=>?_;simp only[zz];refine dO m 15 aP (by kernel_rfl) ?_;simp only[zy];refine aQ aB (aQ (aJ eG aH rfl rfl (by decide) (by decide) rfl) ?_);simp only[zz];refine ql rfl (fun u m=>((m.b 2 rfl).lies aT aH rfl rfl)) ?_;simp only[zz,zy,ah,ab,ag,ae];refine aQ aB (aQ (aJ eG aH rfl rfl (by decide) (by decide) rfl) ?_);simp only[zz];refine ql rfl (fun u m=>((m.b 1 rfl).lies aT aH rfl rfl)) ?_;simp only[zz,zy,ah,ab,ag,ae];refine gV rfl rfl (gI Bw.up Bw.up) (aQ aB (aQ (aJ eG aH rfl rfl (by decide) (by decide) rfl) ?_));simp only[zz];refine ql rfl (fun u m=>((m.b 2 rfl).lies aT aH rfl rfl)) ?_;simp only[zz,zy,ah,ab,ag,ae];refine aQ aB (aQ (aJ eG aH rfl rfl (by decide) (by decide) rfl) ?_);simp only[zz];refine ql rfl (fun u m=>((m.b 1 rfl).lies aT aH rfl rfl)) ?_;simp only[zz,zy,ah,ab,ag,ae];refine gV rfl rfl (gI Bw.up Bw.up) ?_;simp only[zz];refine gV rfl rfl (mY Bw.up Bw.up) (eD ?_);clear m;intro u m;simp only[zz];refine aN m 0 rfl rfl rfl aH (bZ rfl) rfl ?_;clear m;intro u m;simp only[zy,zx,aW,zF,zG,ab] at m;refine aC (k2 _ _ ?_);refine bc ?_;try simp only[ac,af,if_true]
 refine bY rfl ⟨_,rfl,((m.b 0 rfl).full aT aH)⟩ ?_;try simp only[zD,zE]
 exact⟨_,rfl,m.ext,rfl⟩
theorem abw{u v:P3}(hu:Bv 400000 u)(hv:Bv 400000 v):eB prog 140 [wv u,wv v,.int .i64 2,.int .i64 0] (W (u.z*v.x-u.x*v.z)):=by
 intro w;refine⟨Oo,?_⟩;have m:=cK.refl w
 go_enter func140,ntmps140
 refine aF fun K1 k1=>aa (cQ m rfl ?_);clear m;intro g1 u m;simp only[zz];refine cQ m rfl ?_;clear m;intro g2 u m;simp only[zz];refine bE m cL rfl ?_;clear m;intro g3 u m;refine aC (k1 _ _ ?_);refine aF fun K2 k2=>?_;simp only[zz];refine dO m 15 aP (by kernel_rfl) ?_;simp only[zy];refine aQ aB (aQ (aJ eG aH rfl rfl (by decide) (by decide) rfl) ?_);simp only[zz];refine ql rfl (fun u m=>((m.b 2 rfl).lies aT aH rfl rfl)) ?_;simp only[zz,zy,ah,ab,ag,ae];refine aQ aB (aQ (aJ eG aH rfl rfl (by decide) (by decide) rfl) ?_);simp only[zz];refine ql rfl (fun u m=>((m.b 1 rfl).lies aT aH rfl rfl)) ?_;simp only[zz,zy,ah,ab,ag,ae];refine gV rfl rfl (gI Bw.up Bw.up) (aQ aB (aQ (aJ eG aH rfl rfl (by decide) (by decide) rfl) ?_));simp only[zz];refine ql rfl (fun u m=>((m.b 2 rfl).lies aT aH rfl rfl)) ?_;simp only[zz,zy,ah,ab,ag,ae];refine aQ aB (aQ (aJ eG aH rfl rfl (by decide) (by decide) rfl) ?_);simp only[zz];refine ql rfl (fun u m=>((m.b 1 rfl).lies aT aH rfl rfl)) ?_;simp only[zz,zy,ah,ab,ag,ae];refine gV rfl rfl (gI Bw.up Bw.up) ?_;simp only[zz];refine gV rfl rfl (mY Bw.up Bw.up) (eD ?_);clear m;intro u m;simp only[zz];refine aN m 0 rfl rfl rfl aH (bZ rfl) rfl ?_;clear m;intro u m;simp only[zy,zx,aW,zF,zG,ab] at m;refine aC (k2 _ _ ?_);refine bc ?_;try simp only[ac,af,if_true]
 refine bY rfl ⟨_,rfl,((m.b 0 rfl).full aT aH)⟩ ?_;try simp only[zD,zE]
 exact⟨_,rfl,m.ext,rfl⟩
theorem abx{u v:P3}(hu:Bv 400000 u)(hv:Bv 400000 v):eB prog 140 [wv u,wv v,.int .i64 0,.int .i64 1] (W (u.x*v.y-u.y*v.x)):=by
 intro w;refine⟨Oo,?_⟩;have m:=cK.refl w
 go_enter func140,ntmps140
 refine aF fun K1 k1=>aa (cQ m rfl ?_);clear m;intro g1 u m;simp only[zz];refine cQ m rfl ?_;clear m;intro g2 u m;simp only[zz];refine bE m cL rfl ?_;clear m;intro g3 u m;refine aC (k1 _ _ ?_);refine aF fun K2 k2=>?_;simp only[zz];refine dO m 15 aP (by kernel_rfl) ?_;simp only[zy];refine aQ aB (aQ (aJ eG aH rfl rfl (by decide) (by decide) rfl) ?_);simp only[zz];refine ql rfl (fun u m=>((m.b 2 rfl).lies aT aH rfl rfl)) ?_;simp only[zz,zy,ah,ab,ag,ae];refine aQ aB (aQ (aJ eG aH rfl rfl (by decide) (by decide) rfl) ?_);simp only[zz];refine ql rfl (fun u m=>((m.b 1 rfl).lies aT aH rfl rfl)) ?_;simp only[zz,zy,ah,ab,ag,ae];refine gV rfl rfl (gI Bw.up Bw.up) (aQ aB (aQ (aJ eG aH rfl rfl (by decide) (by decide) rfl) ?_));simp only[zz];refine ql rfl (fun u m=>((m.b 2 rfl).lies aT aH rfl rfl)) ?_;simp only[zz,zy,ah,ab,ag,ae];refine aQ aB (aQ (aJ eG aH rfl rfl (by decide) (by decide) rfl) ?_);simp only[zz];refine ql rfl (fun u m=>((m.b 1 rfl).lies aT aH rfl rfl)) ?_;simp only[zz,zy,ah,ab,ag,ae];refine gV rfl rfl (gI Bw.up Bw.up) ?_;simp only[zz];refine gV rfl rfl (mY Bw.up Bw.up) (eD ?_);clear m;intro u m;simp only[zz];refine aN m 0 rfl rfl rfl aH (bZ rfl) rfl ?_;clear m;intro u m;simp only[zy,zx,aW,zF,zG,ab] at m;refine aC (k2 _ _ ?_);refine bc ?_;try simp only[ac,af,if_true]
 refine bY rfl ⟨_,rfl,((m.b 0 rfl).full aT aH)⟩ ?_;try simp only[zD,zE]
 exact⟨_,rfl,m.ext,rfl⟩
theorem Nt{u v:P3}(hu:Bv 400000 u)(hv:Bv 400000 v):eB prog 110 [wv u,wv v] (wv (u.cross v)):=by
 intro w;refine⟨acu,?_⟩;have m:=cK.refl w
 go_enter func110,ntmps110
 refine aF fun K1 k1=>aa (cQ m rfl ?_);clear m;intro g1 u m;simp only[zz];refine cQ m rfl ?_;clear m;intro g2 u m;simp only[zz];refine bE m iT rfl ?_;clear m;intro g3 u m;refine aC (k1 _ _ ?_);refine aF fun K2 k2=>?_;simp only[zz];refine dO m 10 aP (by kernel_rfl) ?_;simp only[zy];refine ql rfl (fun u m=>((m.b 2 rfl).full fB cM)) ?_;simp only[zz];refine ql rfl (fun u m=>((m.b 1 rfl).full fB cM)) ?_;simp only[zz];refine gV rfl rfl (abv hu hv) ?_;simp only[zz];refine ql rfl (fun u m=>((m.b 2 rfl).full fB cM)) ?_;simp only[zz];refine ql rfl (fun u m=>((m.b 1 rfl).full fB cM)) ?_;simp only[zz];refine gV rfl rfl (abw hu hv) ?_;simp only[zz];refine ql rfl (fun u m=>((m.b 2 rfl).full fB cM)) ?_;simp only[zz];refine ql rfl (fun u m=>((m.b 1 rfl).full fB cM)) ?_;simp only[zz];refine gV rfl rfl (abx hu hv) (aQ (lQ rfl rfl rfl) (eD ?_));clear m;intro u m;simp only[zz];refine aN m 0 rfl rfl rfl cM (bZ rfl) rfl ?_;clear m;intro u m;simp only[zy,zx,aW,zF,zG,ab] at m;refine aC (k2 _ _ ?_);refine bc ?_;try simp only[ac,af,if_true]
 refine bY rfl ⟨_,rfl,((m.b 0 rfl).full fB cM)⟩ ?_;try simp only[zD,zE]
 exact⟨_,rfl,m.ext,rfl⟩
end Go.Proofs.YtimjandkmfcmiaaGreatDoor
namespace Go.Lith
open Go.RowKit
structure Fe where
 R:aj→aw→Prop
 st:∀v u u',R v u→dU u u'→R v u'
def af4:Fe:=⟨fun _ _=>True,fun _ _ _ h _=>h⟩
def qG(x:aj):Fe:=⟨fun v _=>v=x,fun _ _ _ h _=>h⟩
def fSl(f:aw→Option Addr→Nat→Nat→Prop)(h:∀u u' A n c,f u A n c→dU u u'→f u' A n c):Fe :=
 ⟨fun v u=>∃A n c,v=.slice A n c∧f u A n c,fun v u u' ⟨A,n,c,e,hf⟩ hE=>⟨A,n,c,e,h u u' A n c hf hE⟩⟩
def Zs(ts:List T3):Fe:=fSl (fun u A n c=>dX u A n ts∧n≤c) fun _ _ _ _ _ h hE=>⟨h.1.ext hE,h.2⟩
def rG(zs:List Int):Fe:=fSl (fun u A n _=>dH u A n zs) fun _ _ _ _ _ h hE=>h.ext hE
def pU(xs:List (List T3)):Fe:=fSl (fun u A n _=>fZ u A n xs) fun _ _ _ _ _ h hE=>h.ext hE
def sH(L:List Fe)(i:Nat):Fe:=L.getD i af4
def Sn(ops:Array Oper)(D:List Nat)(pre:List (List Nat)):Bool :=
 decide (D.length=ops.size)&&decide D.Nodup&&(List.range ops.size).all fun i=>match ops[i]? with
  | none=>false
  | some o=>o.after.all (fun e=>!Region.binds .any e||decide (e.on<i))&&(pre.getD i []).all fun j=>decide (j<ops.size)&&o.after.any fun e=>Region.binds .any e&&e.on == j
section
variable {P:Program} {Q:Exit→Act→aw→Prop} {l:List Oper} {ds:List Deferred} {l0:List aj}
theorem Nu:∀(D:List Nat) (l0:List aj) (u:Nat→aj) (d:Nat) (v:aj),D.Nodup→d∈D→(nY l0 D u).set d v=nY l0 D (fun t=>if t=d then v else u t)
 | [],_,_,_,_,_,h=>by cases h
 | t::D,l0,u,d,v,hn,h=>by
  have hn:=List.nodup_cons.1 hn;rw[bC,bC];by_cases e:t=d
  · subst e
    rw[if_pos rfl];have key:∀(D:List Nat) (l:List aj) (u u':Nat→aj) (v:aj),t∉D→(∀s∈D,u' s=u s)→(nY l D u).set t v=nY (l.set t v) D u':=by
     intro D
     induction D with
     | nil=>intro l u u' v _ _;rfl
     | cons s D ih =>
      intro l u u' v hs he;rw[bC,bC,he s (cu ..),ih (l.set s (u s)) u u' v (fun h=>hs (cw _ h)) (fun s hs=>he s (cw _ hs)),List.set_comm _ _ (fun e=>hs (by rw[e];exact cu ..))]
    rw[key D _ u (fun s=>if s=t then v else u s) v hn.1 (fun s hs=>if_neg (fun (e:s=t)=>hn.1 (e▸hs))),List.set_set]
  · rw[if_neg e]
    exact Nu D (l0.set t (u t)) u d v hn.2 (by rcases bn.1 h with e' | h;exact absurd e'.symm e;exact h)
theorem Zt{l:Array Bool}{i:Nat}(hi:l.getD i true=false):l.toList.count false=(l.setIfInBounds i true).toList.count false+1:=by
 have hlt:i<l.size:=by
  rcases cn i l.size with h | h
  · exact h
  · rw[dm,Array.getElem?_eq_none h] at hi
    cases hi
 have hv:l[i]=false:=by
  rw[dm,de hlt] at hi;exact hi
 rw[Array.toList_setIfInBounds,List.count_set (by simpa using hlt)];have hpos:0<l.toList.count false:=List.count_pos_iff.2 (by rw[←hv];simp);have e:(l.toList[i]'(by simpa using hlt) == false)=true:=by simp[hv]
 rw[if_pos e,if_neg (by decide)];omega
theorem Qk{D:List Nat}{pre:List (List Nat)}{L:List Fe}{C:aw→Prop}(hC:∀u u',C u→dU u u'→C u')(hB:Sn l.toArray D pre=true)
 (step:∀i,i<D.length→∀(u:Nat→aj) (w:aw) (Q':Exit→Act→aw→Prop),C w→(∀j∈pre.getD i [],(sH L j).R (u (D.getD j 0)) w) →
  (∀v w',dU w w'→(sH L i).R v w'→Q' .normal (Fr ((nY l0 D u).set (D.getD i 0) v) ds) w')→bh P l.toArray Q' [(l.toArray[i]?).getD default] (Fr (nY l0 D u) ds) w)
 (post:∀(u:Nat→aj) (w:aw),C w→(∀i,i<D.length→(sH L i).R (u (D.getD i 0)) w)→Q .normal (Fr (nY l0 D u) ds) w) :
 ∀(fuel:Nat) (listed:Array Bool) (u:Nat→aj) (w:aw),listed.size=l.toArray.size→listed.toList.count false=fuel→C w→(∀i,i<D.length→listed.getD i true=true→(sH L i).R (u (D.getD i 0)) w) →
  wpAny P .any l.toArray Q fuel listed (Fr (nY l0 D u) ds) w:=by
 simp only[Sn,bu,decide_eq_true_eq,g_,List.mem_range] at hB;obtain⟨⟨hlen,hnd⟩,hops⟩:=hB;have hall:∀(listed:Array Bool),listed.size=l.toArray.size→Region.ready .any l.toArray listed=[]→∀i,i<D.length→listed.getD i true=true:=by
  intro listed hs hr i
  induction i using Nat.strongRecOn with
  | ind i ih =>
   intro hi;cases hg:listed.getD i true with
   | true=>rfl
   | false =>
    exfalso;have hm:i∈Region.ready .any l.toArray listed:=by
     refine mem_ready.2 ⟨hg,?_⟩;have:=hops i (by omega);cases ho:l.toArray[i]? with
     | none=>rw[ho] at this;cases this
     | some o =>
      refine⟨o,rfl,fun e he hb=>?_⟩;rw[ho] at this;simp only[bu] at this;have h1:=Array.all_eq_true_iff_forall_mem.1 this.1 e he;rw[hb] at h1;have h2:e.on<i:=by simpa using h1
      have h3:=ih e.on h2 (by omega);have h4:e.on<listed.size:=by omega
      rw[dm,de h4] at h3 ⊢;exact h3
    rw[hr] at hm;cases hm
 intro fuel
 induction fuel with
 | zero =>
  intro listed u w hs hc hw hR;have hn:∀i,i<D.length→listed.getD i true=true:=fun i hi=>by
   have hlt:i<listed.size:=by omega
   rw[dm,de hlt];show listed[i]=true
   cases h:listed[i] with
   | true=>rfl
   | false =>
    have:false∈listed.toList:=by rw[←h];simp
    have:=List.count_pos_iff.2 this;omega
  refine⟨List.eq_nil_iff_forall_not_mem.2 fun i hi=>?_,post u w hw fun i hi=>hR i hi (hn i hi)⟩;obtain⟨h1,o,ho,_⟩:=mem_ready.1 hi;have:=hn i (by rw[hlen];exact (cy.1 ho).1);rw[h1] at this;cases this
 | succ fuel ih =>
  intro listed u w hs hc hw hR;refine⟨fun hr=>post u w hw fun i hi=>hR i hi (hall listed hs hr i hi),fun i hi=>?_⟩;obtain⟨h1,o,ho,h2⟩:=mem_ready.1 hi;have hin:i<l.toArray.size:=(cy.1 ho).1;have hiD:i<D.length:=by omega
  refine lB ho ?_;have hst:=step i hiD u w (af (wpAny P .any l.toArray Q fuel (listed.setIfInBounds i true)) Q) hw (fun j hj=>?_) (fun v w' hE hv=>?_)
  · rw[ho] at hst
    exact hst
  · have:=hops i hin
    rw[ho] at this;simp only[bu,g_] at this;have h3:=this.2 j hj;obtain⟨hj1,h3⟩:=h3;rw[←Array.any_toList,List.any_eq_true] at h3;obtain⟨e,he,h4⟩:=h3;have he:e∈o.after:=by simpa using he
    simp only[bu,beq_iff_eq] at h4;obtain⟨hb,rfl⟩:=h4;have h5:=h2 e he hb;have hjn:e.on<l.toArray.size:=by simpa using hj1
    have h6:e.on<listed.size:=by omega
    refine hR e.on (by omega) ?_;rw[dm,de h6] at h5 ⊢;exact h5
  · show wpAny P .any l.toArray Q fuel (listed.setIfInBounds i true) _ w'
    have hmem:D.getD i 0∈D:=by
     rw[ka,ao hiD];exact List.getElem_mem hiD
    rw[Nu D l0 u _ v hnd hmem];refine ih _ _ _ (by simpa using hs) ?_ (hC w w' hw hE) fun j hj hjl=>?_
    · have:=Zt h1
      omega
    · by_cases e:j=i
      · subst e
        show (sH L j).R (if D.getD j 0=D.getD j 0 then v else _) w'
        rw[if_pos rfl];exact hv
      · have hne:D.getD j 0≠D.getD i 0:=fun h=>e (by
         rw[ka,ka,ao hj,ao hiD] at h;exact (List.getElem_inj hnd).1 h)
        show (sH L j).R (if D.getD j 0=D.getD i 0 then v else u (D.getD j 0)) w'
        rw[if_neg hne];refine (sH L j).st _ _ _ (hR j hj ?_) hE;have hjs:j<listed.size:=by omega
        rw[dm,Array.getElem?_setIfInBounds_ne (Ne.symm e)] at hjl;rw[dm];exact hjl
theorem zZ{w0 w:aw}{is:List It}{id:Nat}(m:cK w0 w is)(L:List Fe)(D:List Nat)(pre:List (List Nat))(hm:P.follows .mixedOrders=true)(hB:Sn l.toArray D pre=true)
 (step:∀i,i<D.length→∀(u:Nat→aj) (w:aw) (Q':Exit→Act→aw→Prop),cK w0 w is→(∀j∈pre.getD i [],(sH L j).R (u (D.getD j 0)) w) →
  (∀v w',dU w w'→(sH L i).R v w'→Q' .normal (Fr ((nY l0 D u).set (D.getD i 0) v) ds) w')→bh P l.toArray Q' [(l.toArray[i]?).getD default] (Fr (nY l0 D u) ds) w)
 (post:∀(u:Nat→aj) (w:aw),cK w0 w is→(∀i,i<D.length→(sH L i).R (u (D.getD i 0)) w)→Q .normal (Fr (nY l0 D u) ds) w):(Code.region id l.toArray true).wp P Q (Fr l0 ds) w:=by
 refine wp_region_any hm ?_;have h:=Qk (L:=L) (fun _ _ h hE=>cK.ext' h hE) hB step post l.toArray.size (Array.replicate l.toArray.size false) (l0.getD · undef) { w with drawn:=w.drawn+1 } (by simp) (by simp) (m.ext' (dU.refl w).drawn) (fun i hi h=>by
  have hlen:D.length=l.toArray.size:=by
   simp only[Sn,bu,decide_eq_true_eq] at hB;exact hB.1.1
  rw[dm,de (by rw[hlen] at hi;simpa using hi)] at h;simp at h)
 rw[Gq] at h;exact h
theorem dC{ops:Array Oper}{i:Nat}{o:Oper}{a:Act}{w:aw}(ho:(ops[i]?).getD default=o)(h:bh P ops Q [o] a w):bh P ops Q [(ops[i]?).getD default] a w:=ho▸h
end
theorem nX{w:aw}{g:Nat}{t:TypeId}{cs:List aj}{zs:List Int}(hB:gG w g cs t)(hc:cs=zs.map (gi .i64 ·))(hi:∀z∈zs,kO z):dH w (some ⟨g,0,none⟩) zs.length zs:=by
 subst hc;refine⟨rfl,hi,fun i z hz=>⟨_,rfl,?_⟩⟩;have:=hB.row 0 i (.int .i64 z) (by rw[fg,db,hz];rfl);exact this
theorem Ff(w:aw):dH w none 0 []:=⟨rfl,fun _ h=>(by cases h),fun _ _ h=>(by cases h)⟩
theorem Aa{w0 w:aw}{S:List (Option Nat)}{E:TypeId}{A:Option Addr}{n cap:Nat}{zs:List Int}(h:Ow w0 w S E 1 A n cap (zs.map (gi .i64 ·)))(hi:∀z∈zs,kO z):dH w A n zs:=by
 have hl:=h.own.1;rw[dj,Nat.mul_one] at hl;exact⟨hl,hi,fun i z hz=>h.row i _ (by rw[db,hz];rfl)⟩
theorem Bb{w:aw}{g n c:Nat}{t:TypeId}{A:Option Addr}{l:List T3}(hB:gG w g [.slice A n c] t)(h:dX w A n l)(hc:n≤c):fZ w (some ⟨g,0,none⟩) 1 [l]:=by
 refine⟨rfl,fun i x hx=>?_⟩
 match i,hx with
 | 0,hx=>cases hx;exact⟨_,⟨A,n,c⟩,rfl,hB.row 0 0 _ rfl,h,hc⟩
theorem Be{w:aw}{g n c n' c':Nat}{t:TypeId}{A A':Option Addr}{l l':List T3}(hB:gG w g [.slice A n c,.slice A' n' c'] t)(h:dX w A n l)(hc:n≤c)(h':dX w A' n' l')(hc':n'≤c'):fZ w (some ⟨g,0,none⟩) 2 [l,l']:=by
 refine⟨rfl,fun i x hx=>?_⟩
 match i,hx with
 | 0,hx=>cases hx;exact⟨_,⟨A,n,c⟩,rfl,hB.row 0 0 _ rfl,h,hc⟩
 | 1,hx=>cases hx;exact⟨_,⟨A',n',c'⟩,rfl,hB.row 0 1 _ rfl,h',hc'⟩
end Go.Lith
namespace Go.Proofs.YtimjandkmfcmiaaGreatDoor
open Go.Proofs.Tryz
open Go.RowKit Go.Lith
set_option maxRecDepth 100000
attribute [local irreducible] bh ck eY eO eJ Code.wp
theorem af5(r:gJ)(p:P3):r.to p=⟨r.w*p.x-r.s.x,r.w*p.y-r.s.y,r.w*p.z-r.s.z⟩:=by
 simp only[gJ.to,P3.scl,P3.sub,Int.mul_comm]
def Kw(n:Int)(v:P3)(f:Int):Int:=if dS n≠0 then dS n else if f*dS v.x≠0 then f*dS v.x else if f*dS v.y≠0 then f*dS v.y else f*dS v.z
theorem Kx{f n:Int}(hf:f=1∨f = -1):IntKind.i64.wrap (f*dS n)=f*dS n:=by
 rcases aa7 n with h | h | h <;> rcases hf with rfl | rfl <;> (rw[h];decide)
theorem adZ(n:Int)(v:P3):Kw n v 1=vE n v:=by
 unfold Kw vE;simp only[Int.one_mul]
 repeat' split
 all_goals first | rfl | (rename_i h;exact Decidable.not_not.1 h)
theorem Ql(n:Int):dS (0-n) = -1*dS n:=by
 unfold dS
 repeat' split
 all_goals omega
theorem ad0(n:Int)(v:P3):Kw n v (-1)=vE n (P3.sub ⟨0,0,0⟩ v):=by
 unfold Kw vE;simp only[P3.sub,Ql]
 repeat' split
 all_goals first | rfl | (rename_i h;exact Decidable.not_not.1 h)
theorem Nv{r:gJ}[IR r]:eB prog 75 [kK r] (wv r.d):=by
 intro w;refine⟨afc,?_⟩;have m:=cK.refl w
 go_enter func75,ntmps75
 refine aF fun K1 k1=>aa (cQ m rfl ?_);clear m;intro g1 u m;simp only[zz];refine bE m iT rfl ?_;clear m;intro g2 u m;refine aC (k1 _ _ ?_);refine aF fun K2 k2=>?_;simp only[zz];refine dO m 13 aP (by kernel_rfl) ?_;simp only[zy];refine aQ (aG (c:=2) gE rfl cZ rfl rfl) (aQ (aJ fF aM rfl rfl (by decide) (by decide) rfl) ?_);simp only[zz];refine ql rfl (fun u m=>((m.b 1 rfl).lies1 aV rfl)) ?_;simp only[zz];refine gV rfl rfl (eA Iw.h) (aQ (aG (c:=2) gE rfl cZ rfl rfl) (aQ (aJ fF aM rfl rfl (by decide) (by decide) rfl) ?_));simp only[zz];refine ql rfl (fun u m=>((m.b 1 rfl).lies1 aV rfl)) ?_;simp only[zz];refine gV rfl rfl (eA Iw.h) (aQ (aG (c:=2) gE rfl cZ rfl rfl) (aQ (aJ fF aM rfl rfl (by decide) (by decide) rfl) ?_));simp only[zz];refine ql rfl (fun u m=>((m.b 1 rfl).lies1 aV rfl)) ?_;simp only[zz];refine gV rfl rfl (eA Iw.h) (aQ (lQ rfl rfl rfl) (eD ?_));clear m;intro u m;simp only[zz];refine aN m 0 rfl rfl rfl cM (bZ rfl) rfl ?_;clear m;intro u m;simp only[zy,zx,aW,zF,zG,ae,ag,ah,ab] at m;refine aC (k2 _ _ ?_);refine bc ?_;try simp only[ac,af,if_true]
 refine bY rfl ⟨_,rfl,((m.b 0 rfl).full fB cM)⟩ ?_;try simp only[zD,zE]
 exact⟨_,rfl,m.ext,rfl⟩
theorem tE{r:gJ}{p:P3}[IR r][I3 p]:eB prog 76 [kK r,pt p] (wv (r.to p)):=by
 intro w;refine⟨afd,?_⟩;have m:=cK.refl w
 go_enter func76,ntmps76
 refine aF fun K1 k1=>aa (cQ m rfl ?_);clear m;intro g1 u m;simp only[zz];refine cQ m rfl ?_;clear m;intro g2 u m;simp only[zz];refine bE m iT rfl ?_;clear m;intro g3 u m;refine aC (k1 _ _ ?_);refine aF fun K2 k2=>aa (aA (aG (c:=0) gE rfl aM rfl rfl) ?_);simp only[zz];refine aI rfl ((m.b 2 rfl).lies1 aV rfl) ?_;simp only[zz];refine aX m rfl rfl (eA Iw.h) ?_;clear m;intro u m;simp only[zz];refine bE m cL rfl ?_;clear m;intro g4 u m;simp only[zz];refine aN m 0 rfl rfl rfl aH (bZ rfl) rfl ?_;clear m;intro u m;simp only[zy,zx,aW,zF,zG,ae,ag,ah,ab] at m;refine aC (k2 _ _ ?_);refine aF fun K3 k3=>aa (aA (aG (c:=0) bP rfl aM rfl rfl) ?_);simp only[zz];refine aI rfl ((m.b 2 rfl).lies1 aV rfl) ?_;simp only[zz];refine aA (aG (c:=0) bP rfl aM rfl rfl) ?_;simp only[zz];refine aI rfl ((m.b 2 rfl).lies1 aV rfl) ?_;simp only[zz];refine aA (aG (c:=0) bP rfl aM rfl rfl) ?_;simp only[zz];refine aI rfl ((m.b 2 rfl).lies1 aV rfl) ?_;simp only[zz];refine aA (dA rfl rfl rfl) ?_;simp only[zz];refine bE m lP rfl ?_;clear m;intro g5 u m;simp only[zz];refine aN m 0 rfl rfl rfl cZ (bZ rfl) rfl ?_;clear m;intro u m;simp only[zy,zx,aW,zF,zG,ae,ag,ah,ab] at m;refine aC (k3 _ _ ?_);refine aF fun K4 k4=>aa (aA (aG (c:=0) gE rfl aM rfl rfl) ?_);simp only[zz];refine aI rfl ((m.b 4 rfl).lies1 aV rfl) ?_;simp only[zz];refine aA (aG (c:=0) gE rfl aM rfl rfl) ?_;simp only[zz];refine aI rfl ((m.b 4 rfl).lies1 aV rfl) ?_;simp only[zz];refine aA (aG (c:=0) gE rfl aM rfl rfl) ?_;simp only[zz];refine aI rfl ((m.b 4 rfl).lies1 aV rfl) ?_;simp only[zz];refine aA (dA rfl rfl rfl) ?_;simp only[zz];refine bE m lP rfl ?_;clear m;intro g6 u m;simp only[zz];refine aN m 0 rfl rfl rfl cZ (bZ rfl) rfl ?_;clear m;intro u m;simp only[zy,zx,aW,zF,zG,ae,ag,ah,ab] at m;refine aC (k4 _ _ ?_);refine aF fun K5 k5=>aa (bE m iT rfl ?_);clear m;intro g7 u m;refine aC (k5 _ _ ?_);refine aF fun K6 k6=>aF fun K7 k7=>aa (aA aD (aC (k7 _ _ ?_)));refine av (cz 4 (dT (aF fun K8 k8=>aF fun K9 k9=>aa (aA aB (aA (cD (m:=0) (n:=3) rfl rfl (by decide)) ?_)))));simp only[zz];refine aC (k9 _ _ ?_);refine bX rfl (ar (k8 _ _ ?_));refine aF fun K10 k10=>av ?_;refine dO m 13 aP (by kernel_rfl) ?_;simp only[zy];refine aQ aB ?_;simp only[zz];refine ql rfl (fun u m=>((m.b 3 rfl).full aT aH)) ?_;simp only[zz];refine aQ aB (aQ (aJ fF aM rfl rfl (by decide) (by decide) rfl) ?_);simp only[zz];refine ql rfl (fun u m=>((m.b 2 rfl).lies1 aV rfl)) ?_;simp only[zz];refine gV rfl rfl (eA Iw.h) ?_;simp only[zz];refine gV rfl rfl (gI Bw.up Bw.up) (aQ aB (aQ (aJ fF aM rfl rfl (by decide) (by decide) rfl) ?_));simp only[zz];refine ql rfl (fun u m=>((m.b 1 rfl).lies1 aV rfl)) ?_;simp only[zz];refine gV rfl rfl (eA Iw.h) ?_;simp only[zz];refine gV rfl rfl (mY Bw.up Bw.up) (aQ (aJ eG aH rfl rfl (by decide) (by decide) rfl) (eD ?_));clear m;intro u m;simp only[zz];refine aN m 0 rfl rfl rfl aH (bZ rfl) rfl ?_;clear m;intro u m;simp only[zy,zx,aW,zF,zG,ae,ag,ah,ab] at m;refine aC (k10 _ _ ?_);refine aa (aA aB (aA (aZ (m:=0) (n:=1) (r:=1) rfl rfl (by decide)) (aA aD (aC (bD (aF fun K11 k11=>aF fun K12 k12=>aa (aA aB ?_)))))));simp only[zz];refine aA (cD (m:=1) (n:=3) rfl rfl (by decide)) (aC (k12 _ _ ?_));refine bX rfl (ar (k11 _ _ ?_));refine aF fun K13 k13=>av ?_;simp only[zz];refine dO m 13 aP (by kernel_rfl) ?_;simp only[zy];refine aQ aB ?_;simp only[zz];refine ql rfl (fun u m=>((m.b 3 rfl).full aT aH)) ?_;simp only[zz];refine aQ aB (aQ (aJ fF aM rfl rfl (by decide) (by decide) rfl) ?_);simp only[zz];refine ql rfl (fun u m=>((m.b 2 rfl).lies1 aV rfl)) ?_;simp only[zz];refine gV rfl rfl (eA Iw.h) ?_;simp only[zz];refine gV rfl rfl (gI Bw.up Bw.up) (aQ aB (aQ (aJ fF aM rfl rfl (by decide) (by decide) rfl) ?_));simp only[zz];refine ql rfl (fun u m=>((m.b 1 rfl).lies1 aV rfl)) ?_;simp only[zz];refine gV rfl rfl (eA Iw.h) ?_;simp only[zz];refine gV rfl rfl (mY Bw.up Bw.up) (aQ (aJ eG aH rfl rfl (by decide) (by decide) rfl) (eD ?_));clear m;intro u m;simp only[zz];refine aN m 0 rfl rfl rfl aH (bZ rfl) rfl ?_;clear m;intro u m;simp only[zy,zx,aW,zF,zG,ae,ag,ah,ab] at m;refine aC (k13 _ _ ?_);refine aa (aA aB (aA (aZ (m:=1) (n:=1) (r:=2) rfl rfl (by decide)) (aA aD (aC (bD (aF fun K14 k14=>aF fun K15 k15=>aa (aA aB ?_)))))));simp only[zz];refine aA (cD (m:=2) (n:=3) rfl rfl (by decide)) (aC (k15 _ _ ?_));refine bX rfl (ar (k14 _ _ ?_));refine aF fun K16 k16=>av ?_;simp only[zz];refine dO m 13 aP (by kernel_rfl) ?_;simp only[zy];refine aQ aB ?_;simp only[zz];refine ql rfl (fun u m=>((m.b 3 rfl).full aT aH)) ?_;simp only[zz];refine aQ aB (aQ (aJ fF aM rfl rfl (by decide) (by decide) rfl) ?_);simp only[zz];refine ql rfl (fun u m=>((m.b 2 rfl).lies1 aV rfl)) ?_;simp only[zz];refine gV rfl rfl (eA Iw.h) ?_;simp only[zz];refine gV rfl rfl (gI Bw.up Bw.up) (aQ aB (aQ (aJ fF aM rfl rfl (by decide) (by decide) rfl) ?_));simp only[zz];refine ql rfl (fun u m=>((m.b 1 rfl).lies1 aV rfl)) ?_;simp only[zz];refine gV rfl rfl (eA Iw.h) ?_;simp only[zz];refine gV rfl rfl (mY Bw.up Bw.up) (aQ (aJ eG aH rfl rfl (by decide) (by decide) rfl) (eD ?_));clear m;intro u m;simp only[zz];refine aN m 0 rfl rfl rfl aH (bZ rfl) rfl ?_;clear m;intro u m;simp only[zy,zx,aW,zF,zG,ae,ag,ah,ab] at m;refine aC (k16 _ _ ?_);refine aa (aA aB (aA (aZ (m:=2) (n:=1) (r:=3) rfl rfl (by decide)) (aA aD (aC (bD (aF fun K17 k17=>aF fun K18 k18=>aa (aA aB ?_)))))));simp only[zz];refine aA (fD (m:=3) (n:=3) rfl rfl (by decide)) (aC (k18 _ _ ?_));refine eZ rfl (bw (k6 _ _ ?_));refine aF fun K19 k19=>aa ?_;simp only[zz];refine aI rfl ((m.b 0 rfl).full fB cM) ?_;simp only[zz];refine aN m 4 rfl rfl rfl cM (bZ rfl) rfl ?_;clear m;intro u m;simp only[zy,zx,aW,zF,zG,ae,ag,ah,ab] at m;refine aC (k19 _ _ ?_);refine bc ?_;try simp only[ac,af,if_true]
 refine bY rfl ⟨_,rfl,((m.b 4 rfl).full fB cM)⟩ ?_;try simp only[zD,zE]
 exact⟨_,rfl,m.ext,by rw[af5];rfl⟩
theorem Ig{n:Int}{v:P3}{f:Int}(hn:Bd 400000 n)(hv:Bv 400000 v)(hf:f=1∨f = -1):eB prog 80 [W n,wv v,.int .i64 f] (.int .i64 (Kw n v f)):=by
 intro w;refine⟨afh,?_⟩;have m:=cK.refl w
 go_enter func80,ntmps80
 refine aF fun K1 k1=>aa (cQ m rfl ?_);clear m;intro g1 u m;simp only[zz];refine cQ m rfl ?_;clear m;intro g2 u m;refine aA aD (aC (k1 _ _ ?_));refine aF fun K2 k2=>aa ?_;simp only[zz];refine aI rfl ((m.b 1 rfl).full aT aH) ?_;simp only[zz];refine aX m rfl rfl (mQ (a:=n) (hn.mono (by decide))) ?_;clear m;intro u m;refine aA aD (aC (k2 _ _ ?_));refine aF fun K3 k3=>aF fun K4 k4=>aa (aA aD (aC (k4 _ _ ?_)));refine av (cz 4 (dT (aF fun K5 k5=>aF fun K6 k6=>aa (aA aB ?_))));simp only[zz];refine aA (cD (m:=0) (n:=3) rfl rfl (by decide)) (aA aB (aR rfl (aA aB (aR rfl (aA (mF rfl rfl) ?_)))));simp only[zz];refine aA (cT rfl) (aC (k6 _ _ ?_));simp only[zz];refine cW rfl (fun hc1=>?_) (fun hc1=>?_)
 ·
  have e0:=hc1;refine ar (k5 _ _ ?_);refine aF fun K7 k7=>av (aa (aA aB (aA aB (aA (aJ eG aH rfl rfl (by decide) (by decide) rfl) ?_))));simp only[zz];refine aI rfl ((m.b 0 rfl).lies aT aH rfl rfl) ?_;simp only[zz,zy,ah,ab,ag,ae];refine aX m rfl rfl (mQ (a:=v.x) (hv.x.mono (by decide))) ?_;clear m;intro u m;refine aA (fC rfl rfl (Kx hf)) (aA aD (aC (k7 _ _ ?_)));refine aa (aA aB ?_);simp only[zz];refine aA (aZ (m:=0) (n:=1) (r:=1) rfl rfl (by decide)) (aA aD (aC (bD (aF fun K8 k8=>aF fun K9 k9=>aa (aA aB (aA (cD (m:=1) (n:=3) rfl rfl (by decide)) ?_))))));simp only[zz];refine aA aB (aR rfl (aA aB (aR rfl (aA (mF rfl rfl) (aA (cT rfl) ?_)))));simp only[zz];refine aC (k9 _ _ ?_);refine cW rfl (fun hc1=>?_) (fun hc1=>?_)
  ·
   have e1:=hc1;refine ar (k8 _ _ ?_);refine aF fun K10 k10=>av (aa (aA aB (aA aB (aA (aJ eG aH rfl rfl (by decide) (by decide) rfl) ?_))));simp only[zz];refine aI rfl ((m.b 0 rfl).lies aT aH rfl rfl) ?_;simp only[zz,zy,ah,ab,ag,ae];refine aX m rfl rfl (mQ (a:=v.y) (hv.y.mono (by decide))) ?_;clear m;intro u m;refine aA (fC rfl rfl (Kx hf)) (aA aD (aC (k10 _ _ ?_)));refine aa (aA aB ?_);simp only[zz];refine aA (aZ (m:=1) (n:=1) (r:=2) rfl rfl (by decide)) (aA aD (aC (bD (aF fun K11 k11=>aF fun K12 k12=>aa (aA aB (aA (cD (m:=2) (n:=3) rfl rfl (by decide)) ?_))))));simp only[zz];refine aA aB (aR rfl (aA aB (aR rfl (aA (mF rfl rfl) (aA (cT rfl) ?_)))));simp only[zz];refine aC (k12 _ _ ?_);refine cW rfl (fun hc1=>?_) (fun hc1=>?_)
   ·
    have e2:=hc1;refine ar (k11 _ _ ?_);refine aF fun K13 k13=>av (aa (aA aB (aA aB (aA (aJ eG aH rfl rfl (by decide) (by decide) rfl) ?_))));simp only[zz];refine aI rfl ((m.b 0 rfl).lies aT aH rfl rfl) ?_;simp only[zz,zy,ah,ab,ag,ae];refine aX m rfl rfl (mQ (a:=v.z) (hv.z.mono (by decide))) ?_;clear m;intro u m;refine aA (fC rfl rfl (Kx hf)) (aA aD (aC (k13 _ _ ?_)));refine aa (aA aB ?_);simp only[zz];refine aA (aZ (m:=2) (n:=1) (r:=3) rfl rfl (by decide)) (aA aD (aC (bD (aF fun K14 k14=>aF fun K15 k15=>aa (aA aB (aA (fD (m:=3) (n:=3) rfl rfl (by decide)) ?_))))));simp only[zz];refine aA aB (bO rfl (bO rfl (aA (cV rfl) ?_)));simp only[zz];refine aC (k15 _ _ ?_);refine eZ rfl (bw (k3 _ _ ?_));refine aF fun K16 k16=>aa (aA aB (aA aD (aC (k16 _ _ ?_))));refine bc ?_;simp only[zz];try simp only[ac,af,if_true]
    refine bY rfl rfl ?_;try simp only[zD,zE]
    exact⟨_,rfl,m.ext,by rw[Kw,if_neg (fun h=>h e0),if_neg (fun h=>h e1),if_neg (fun h=>h e2)]⟩
   ·
    refine bw (k3 _ _ ?_);refine aF fun K17 k17=>aa (aA aB (aA aD (aC (k17 _ _ ?_))));refine bc ?_;simp only[zz];try simp only[ac,af,if_true]
    refine bY rfl rfl ?_;try simp only[zD,zE]
    exact⟨_,rfl,m.ext,by rw[Kw,if_neg (fun h=>h e0),if_neg (fun h=>h e1),if_pos hc1]⟩
  ·
   refine bw (k3 _ _ ?_);refine aF fun K18 k18=>aa (aA aB (aA aD (aC (k18 _ _ ?_))));refine bc ?_;simp only[zz];try simp only[ac,af,if_true]
   refine bY rfl rfl ?_;try simp only[zD,zE]
   exact⟨_,rfl,m.ext,by rw[Kw,if_neg (fun h=>h e0),if_pos hc1]⟩
 ·
  refine bw (k3 _ _ ?_);refine aF fun K19 k19=>aa (aA aB (aA aD (aC (k19 _ _ ?_))));refine bc ?_;simp only[zz];try simp only[ac,af,if_true]
  refine bY rfl rfl ?_;try simp only[zD,zE]
  exact⟨_,rfl,m.ext,by rw[Kw,if_pos hc1]⟩
theorem wD{d p q:P3}(hd:Bv 200 d)(hp:Bv 200 p)(hq:Bv 200 q):eB prog 77 [wv d,wv p,wv q] (.int .i64 (vF d p q)):=by
 intro w;refine⟨afe,?_⟩;have m:=cK.refl w
 go_enter func77,ntmps77
 refine aF fun K1 k1=>aa (cQ m rfl ?_);clear m;intro g1 u m;simp only[zz];refine cQ m rfl ?_;clear m;intro g2 u m;simp only[zz];refine cQ m rfl ?_;clear m;intro g3 u m;refine aA aD (aC (k1 _ _ ?_));refine aF fun K2 k2=>aa ?_;simp only[zz];refine bE m iT rfl ?_;clear m;intro g4 u m;refine aC (k2 _ _ ?_);refine aF fun K3 k3=>aF fun K4 k4=>aa (aA aD (aC (k4 _ _ ?_)));refine av (cz 4 (dT (aF fun K5 k5=>aF fun K6 k6=>aa (aA aB (aA (cD (m:=0) (n:=3) rfl rfl (by decide)) ?_)))));simp only[zz];refine aC (k6 _ _ ?_);refine bX rfl (ar (k5 _ _ ?_));refine aF fun K7 k7=>av ?_;refine dO m 9 aP (by kernel_rfl) ?_;simp only[zy];refine aQ aB (aQ aB (aQ (aJ eG aH rfl rfl (by decide) (by decide) rfl) ?_));simp only[zz];refine ql rfl (fun u m=>((m.b 1 rfl).lies aT aH rfl rfl)) ?_;simp only[zz,zy,ah,ab,ag,ae];refine aQ aB (aQ (aJ eG aH rfl rfl (by decide) (by decide) rfl) ?_);simp only[zz];refine ql rfl (fun u m=>((m.b 2 rfl).lies aT aH rfl rfl)) ?_;simp only[zz,zy,ah,ab,ag,ae];refine gV rfl rfl (mY Bw.up Bw.up) (aQ (aJ eG aH rfl rfl (by decide) (by decide) rfl) (eD ?_));clear m;intro u m;simp only[zz];refine aN m 0 rfl rfl rfl aH (bZ rfl) rfl ?_;clear m;intro u m;simp only[zy,zx,aW,zF,zG,ae,ag,ah,ab] at m;refine aC (k7 _ _ ?_);refine aa (aA aB (aA (aZ (m:=0) (n:=1) (r:=1) rfl rfl (by decide)) (aA aD (aC (bD (aF fun K8 k8=>aF fun K9 k9=>aa (aA aB ?_)))))));simp only[zz];refine aA (cD (m:=1) (n:=3) rfl rfl (by decide)) (aC (k9 _ _ ?_));refine bX rfl (ar (k8 _ _ ?_));refine aF fun K10 k10=>av ?_;simp only[zz];refine dO m 9 aP (by kernel_rfl) ?_;simp only[zy];refine aQ aB (aQ aB (aQ (aJ eG aH rfl rfl (by decide) (by decide) rfl) ?_));simp only[zz];refine ql rfl (fun u m=>((m.b 1 rfl).lies aT aH rfl rfl)) ?_;simp only[zz,zy,ah,ab,ag,ae];refine aQ aB (aQ (aJ eG aH rfl rfl (by decide) (by decide) rfl) ?_);simp only[zz];refine ql rfl (fun u m=>((m.b 2 rfl).lies aT aH rfl rfl)) ?_;simp only[zz,zy,ah,ab,ag,ae];refine gV rfl rfl (mY Bw.up Bw.up) (aQ (aJ eG aH rfl rfl (by decide) (by decide) rfl) (eD ?_));clear m;intro u m;simp only[zz];refine aN m 0 rfl rfl rfl aH (bZ rfl) rfl ?_;clear m;intro u m;simp only[zy,zx,aW,zF,zG,ae,ag,ah,ab] at m;refine aC (k10 _ _ ?_);refine aa (aA aB (aA (aZ (m:=1) (n:=1) (r:=2) rfl rfl (by decide)) (aA aD (aC (bD (aF fun K11 k11=>aF fun K12 k12=>aa (aA aB ?_)))))));simp only[zz];refine aA (cD (m:=2) (n:=3) rfl rfl (by decide)) (aC (k12 _ _ ?_));refine bX rfl (ar (k11 _ _ ?_));refine aF fun K13 k13=>av ?_;simp only[zz];refine dO m 9 aP (by kernel_rfl) ?_;simp only[zy];refine aQ aB (aQ aB (aQ (aJ eG aH rfl rfl (by decide) (by decide) rfl) ?_));simp only[zz];refine ql rfl (fun u m=>((m.b 1 rfl).lies aT aH rfl rfl)) ?_;simp only[zz,zy,ah,ab,ag,ae];refine aQ aB (aQ (aJ eG aH rfl rfl (by decide) (by decide) rfl) ?_);simp only[zz];refine ql rfl (fun u m=>((m.b 2 rfl).lies aT aH rfl rfl)) ?_;simp only[zz,zy,ah,ab,ag,ae];refine gV rfl rfl (mY Bw.up Bw.up) (aQ (aJ eG aH rfl rfl (by decide) (by decide) rfl) (eD ?_));clear m;intro u m;simp only[zz];refine aN m 0 rfl rfl rfl aH (bZ rfl) rfl ?_;clear m;intro u m;simp only[zy,zx,aW,zF,zG,ae,ag,ah,ab] at m;refine aC (k13 _ _ ?_);refine aa (aA aB (aA (aZ (m:=2) (n:=1) (r:=3) rfl rfl (by decide)) (aA aD (aC (bD (aF fun K14 k14=>aF fun K15 k15=>aa (aA aB ?_)))))));simp only[zz];refine aA (fD (m:=3) (n:=3) rfl rfl (by decide)) (aC (k15 _ _ ?_));refine eZ rfl (bw (k3 _ _ ?_));refine aF fun K16 k16=>?_;simp only[zz];refine mq m aP (by kernel_rfl) (ql rfl (fun u m=>((m.b 3 rfl).full fB cM)) ?_);simp only[zz];refine ql rfl (fun u m=>((m.b 2 rfl).full fB cM)) ?_;simp only[zz];refine ql rfl (fun u m=>((m.b 1 rfl).full fB cM)) ?_;simp only[zz];refine gV rfl rfl (Nt Bv.of Bv.of) ?_;simp only[zz];refine gV rfl rfl (Qj Bv.of Bv.of) ?_;simp only[zz];refine ql rfl (fun u m=>((m.b 3 rfl).full fB cM)) ?_;simp only[zz];refine ql rfl (fun u m=>((m.b 0 rfl).full fB cM)) ?_;simp only[zz];refine gV rfl rfl (Nt (u:=d) (v:=q.sub p) Bv.of Bv.of) ?_;simp only[zz];refine gV rfl rfl (Ig (n:=d.dot (p.cross q)) (v:=d.cross (q.sub p)) (f:=1) Bw.up Bv.of (.inl rfl)) (aQ aD (eD ?_));clear m;intro u m;refine k16 _ _ (bc ?_);simp only[zz];try simp only[ac,af,if_true]
 refine bY rfl rfl ?_;try simp only[zD,zE]
 exact⟨_,rfl,m.ext,by rw[adZ];rfl⟩
end Go.Proofs.YtimjandkmfcmiaaGreatDoor
namespace Go.Lith
open Go.RowKit
instance (a:Int):Decidable (kO a):=inferInstanceAs (Decidable (_∧_))
def Qm(a:Int):Int:=if kO a then a else 0
theorem aby{a:Int}{X:Nat}(h:X=a.natAbs)(hl:4<(digs 65536 X).length):¬kO a:=fun k=>by
 have h1:X<65536^4:=by have:=k.natAbs;rw[←h] at this;omega
 have h2:=fG (B:=65536) (by omega) h1;omega
theorem Zu{X j:Nat}(hl:(digs 65536 X).length≤4)(hd:dR 65536 (digs 65536 X))(hj:j<(digs 65536 X).length):val 65536 ((digs 65536 X).drop (j+1))<281474976710656:=by
 have h1:=jY (hd.drop (j+1));have h2:((digs 65536 X).drop (j+1)).length≤3:=by rw[List.length_drop];omega
 have h3:65536^((digs 65536 X).drop (j+1)).length≤65536^3:=eh (by omega) h2;omega
theorem ad1{X:Nat}(hl:(digs 65536 X).length≤4)(h:X<65536^(digs 65536 X).length):X<18446744073709551616:=by
 have h3:65536^(digs 65536 X).length≤65536^4:=eh (by omega) hl;omega
theorem Uz{a:Int}{X:Nat}(h:X=a.natAbs):(cY a=true∧X≤9223372036854775808∧kO a∧a = -(X:Int))∨(cY a=true∧9223372036854775808<X∧¬kO a) ∨
 (cY a=false∧9223372036854775808≤X∧¬kO a)∨(cY a=false∧X<9223372036854775808∧kO a∧a=(X:Int)):=by
 unfold kO cY;rcases Int.lt_or_le a 0 with h0 | h0
 · rw[decide_eq_true h0]
   rcases cn 9223372036854775808 X with h1 | h1
   · exact .inr (.inl ⟨rfl,h1,by omega⟩)
   · exact .inl ⟨rfl,h1,by omega,by omega⟩
 · rw[decide_eq_false (by omega)]
   rcases cn X 9223372036854775808 with h1 | h1
   · exact .inr (.inr (.inr ⟨rfl,h1,by omega,by omega⟩))
   · exact .inr (.inr (.inl ⟨rfl,h1,by omega⟩))
theorem Qn{a:Int}(h:¬kO a):Value.tuple #[.int .i64 0,.bool false]=.tuple #[.int .i64 (Qm a),.bool (decide (kO a))]:=by rw[Qm,if_neg h,decide_eq_false h]
theorem So{a n:Int}(h:kO a)(e:n=a):Value.tuple #[.int .i64 n,.bool true]=.tuple #[.int .i64 (Qm a),.bool (decide (kO a))]:=by rw[Qm,if_pos h,decide_eq_true h,e]
theorem Zv{X:Nat}(h:X≤9223372036854775808):IntKind.i64.wrap (IntKind.u64.wrap (0-(X:Int))) = -(X:Int):=by
 rw[kH];simp[IntKind.wrap,IntKind.bits,IntKind.signed];split <;> omega
theorem Zw{v x V:Nat}(h:v=x+65536*V):((V:Int)*65536+(x:Int))=(v:Int):=by subst h;rw[Int.natCast_add,Int.natCast_mul];omega
end Go.Lith
namespace Go.Proofs.YtimjandkmfcmiaaGreatDoor
open Go.Proofs.Tryz
open Go.RowKit Go.Lith
set_option maxRecDepth 100000
attribute [local irreducible] bh ck eY Code.wp
theorem Ky{a:Int}(ha:Bd 1000000 a):eB prog 85 [W a] (.tuple #[.int .i64 (Qm a),.bool (decide (kO a))]):=by
 intro w;refine⟨afl,?_⟩;have hX:=dU.refl w;have hla:(digs 65536 a.natAbs).length≤1000000:=lF ha;obtain⟨X,hXa⟩:∃X,X=a.natAbs:=⟨_,rfl⟩
 rw[←hXa] at hla;have hXd:X<65536^(digs 65536 X).length:=by have:=jY (rO X);rwa [dD] at this
 have hdd:=rO X
 go_enter func85,ntmps85
 refine aF (fun K1 hK1=>?_);refine aa ?_;refine gX (by simp only[cU,bS,cA,ap,aq];rfl) ?_;intro w1 g1 hE hg1 hB1;have hG1:=Nat.le_trans hX.size hg1;replace hX:=hX.trans hE;clear hE hg1;simp only[cU,bS,cA,ap,aq,a_,ba];refine aA aD ?_;simp only[cU,bS,cA,ap,aq,a_,ba];refine aA aD ?_;simp only[cU,bS,cA,ap,aq,a_,ba];refine aC (hK1 _ _ ?_);refine aF (fun K2 hK2=>?_);refine aa (aI rfl (hB1.lies aT aH rfl rfl) ?_);simp only[cU,bS,cA,ap,aq,a_,ba];refine bT rfl rfl (lT _ (fU ha)) ?_;rintro v w2 hE ⟨A4,c4,rfl,hD4⟩;replace hB1:=hB1.ext hE;(try replace hD4:=hD4.ext hE);replace hX:=hX.trans hE;clear hE;rw[fT,←hXa] at hD4 ⊢;simp only[cU,bS,cA,ap,aq,a_,ba];refine aA aD ?_;simp only[cU,bS,cA,ap,aq,a_,ba];refine aC (hK2 _ _ ?_);refine aF (fun K3 hK3=>?_);refine aF (fun K4 hK4=>?_);refine aa (aA aB ?_);simp only[cU,bS,cA,ap,aq,a_,ba];refine aA (bR rfl bM rfl) ?_;simp only[cU,bS,cA,ap,aq,a_,ba];refine aA (gW rfl rfl) ?_;simp only[cU,bS,cA,ap,aq,a_,ba];refine aC (hK4 _ _ ?_);refine cW rfl (fun hc1=>?_) (fun hc1=>?_)
 ·
  have hbig:¬kO a:=aby hXa (by omega);refine aF (fun K5 hK5=>?_);refine aa (aA aD ?_);simp only[cU,bS,cA,ap,aq,a_,ba];refine aA aD ?_;simp only[cU,bS,cA,ap,aq,a_,ba];refine aC (hK5 _ _ ?_);refine bc ?_;try simp only[ac,af]
  refine kD rfl rfl rfl ?_;try simp only[ap,aq]
  exact⟨_,rfl,hX,Qn hbig⟩
 ·
  have hl4:(digs 65536 X).length≤4:=by omega
  refine ar ?_;refine hK3 _ _ (aF (fun K6 hK6=>?_));refine aa (aA aD ?_);simp only[cU,bS,cA,ap,aq,a_,ba];refine aC (hK6 _ _ ?_);refine aF (fun K7 hK7=>?_);refine aF (fun K8 hK8=>?_);refine aa (aA aB ?_);simp only[cU,bS,cA,ap,aq,a_,ba];refine aA (bR rfl bM rfl) ?_;simp only[cU,bS,cA,ap,aq,a_,ba];refine aA (eH rfl rfl (aO (by omega) (by omega))) ?_;simp only[cU,bS,cA,ap,aq,a_,ba];refine aA aD ?_;simp only[cU,bS,cA,ap,aq,a_,ba];refine aC (hK8 _ _ ?_);refine av (dI [5,6] [15,16,17,18,19,20,21,22,23,24,25,26] (fun n vs wl=>∃(k:Nat),vs=[.int .u64 ((val 65536 ((digs 65536 X).drop k):Nat):Int),.int .i64 ((k:Int)-1)]∧(dU w wl)∧(gG wl g1 [.bool (cY a),.string (dQ a)] 35)∧(dP wl wl.heap.size A4 (digs 65536 X).length c4 (digs 65536 X))∧(k≤(digs 65536 X).length)∧(n=k)) ?_ ?_)
  ·
   rw[show (0:Int)=((val 65536 ((digs 65536 X).drop (digs 65536 X).length):Nat):Int) by rw[List.drop_length];rfl];apply Exists.intro;simp only[dh,iw,ap,aq];exact⟨(digs 65536 X).length,rfl,hX,hB1,hD4.here,bi _,rfl⟩
  ·
   intro n vs wr hI u;obtain⟨k,rfl,hX,hB1,hD4,hk,hn⟩:=hI;simp only[zu,a_,ba];refine aF (fun K9 hK9=>?_);refine aF (fun K10 hK10=>?_);refine aa (aA aB ?_);simp only[cU,bS,cA,ap,aq,a_,ba];refine aA (lD rfl rfl) ?_;simp only[cU,bS,cA,ap,aq,a_,ba];refine aC (hK10 _ _ ?_);refine cW rfl (fun hc2=>?_) (fun hc2=>?_)
   ·
    obtain⟨j,rfl⟩:∃j,k=j+1:=⟨k-1,by omega⟩
    rw[show (((j+1:Nat):Int)-1)=(j:Int) by omega];obtain⟨p,rfl,hca,hlt⟩:=hD4.get (show j<(digs 65536 X).length by omega);have hvp:=kI (B:=65536) (xs:=digs 65536 X) (k:=j+1) (by omega) (by simp only[fe];omega);simp only[fe] at hvp;have hvl:=Zu (j:=j) hl4 hdd (by omega);obtain⟨V,hV⟩:∃V,V=val 65536 ((digs 65536 X).drop (j+1)):=⟨_,rfl⟩
    obtain⟨x,hx⟩:∃x,x=(digs 65536 X)[j]:=⟨_,rfl⟩
    rw[←hV,←hx] at hvp;rw[←hV] at hvl;rw[←hV];rw[←hx] at hca hlt;refine ar (hK9 _ _ ?_);refine aF (fun K11 hK11=>?_);refine av (aa ?_);refine aA aB ?_;simp only[cU,bS,cA,ap,aq,a_,ba];refine aA (fC rfl rfl (fX (by omega) (by omega))) ?_;simp only[cU,bS,cA,ap,aq,a_,ba];refine aA aB ?_;simp only[cU,bS,cA,ap,aq,a_,ba];refine aA aB ?_;simp only[cU,bS,cA,ap,aq,a_,ba];refine aA (aS bM aM rfl rfl (by omega) (by omega) (fH (an _))) ?_;simp only[cU,bS,cA,ap,aq,a_,ba];refine aI rfl (lies1 hca aV) ?_;simp only[cU,bS,cA,ap,aq,a_,ba];refine aA (eT iB jR rfl (fX (by omega) (by omega))) ?_;simp only[cU,bS,cA,ap,aq,a_,ba];refine aA (aZ rfl rfl (fX (by omega) (by omega))) ?_;simp only[cU,bS,cA,ap,aq,a_,ba];refine aA aD ?_;simp only[cU,bS,cA,ap,aq,a_,ba];refine aC (hK11 _ _ ?_);refine aa (aA aB ?_);simp only[cU,bS,cA,ap,aq,a_,ba];refine aA (eH rfl rfl (aO (by omega) (by omega))) ?_;simp only[cU,bS,cA,ap,aq,a_,ba];refine aA aD ?_;simp only[cU,bS,cA,ap,aq,a_,ba];refine aC ?_;rw[show ((V:Int)*65536+(x:Int))=((val 65536 ((digs 65536 X).drop j):Nat):Int) by exact Zw hvp];simp only[ac,af];refine⟨j,_,?_,rfl,?_,?_⟩
    · omega
    · simp only[zu,dh,iw,ap,aq,a_,ba]
    ·
     simp only[dh,iw,ap,aq];exact⟨j,rfl,hX,hB1,hD4.here,by omega,rfl⟩
   ·
    obtain rfl:k=0:=by omega
    have hX64:=ad1 hl4 hXd;refine bw (hK7 _ _ ?_);refine aF (fun K12 hK12=>?_);refine aF (fun K13 hK13=>?_);simp only[fg,dD];rcases Uz hXa with ⟨h1,h2,h3,h4⟩ | ⟨h1,h2,h3⟩ | ⟨h1,h2,h3⟩ | ⟨h1,h2,h3,h4⟩
    ·
     rw[h1] at hB1;refine aa (aA (aG (c:=0) iK rfl fA rfl rfl) ?_);simp only[cU,bS,cA,ap,aq,a_,ba];refine aI rfl (hB1.lies1 jP rfl) ?_;simp only[cU,bS,cA,ap,aq,a_,ba];refine aA aB ?_;simp only[cU,bS,cA,ap,aq,a_,ba];refine aR rfl (aA aB ?_);simp only[cU,bS,cA,ap,aq,a_,ba];refine aR rfl (aA (Oj rfl rfl (by omega)) ?_);simp only[cU,bS,cA,ap,aq,a_,ba];refine aA (cT rfl) ?_;simp only[cU,bS,cA,ap,aq,a_,ba];refine aC (hK13 _ _ ?_);refine bX rfl (aF (fun K14 hK14=>?_));refine aa (aA aB ?_);simp only[cU,bS,cA,ap,aq,a_,ba];refine aA (qO rfl rfl) ?_;simp only[cU,bS,cA,ap,aq,a_,ba];refine aA (eT jR iB rfl (Zv h2)) ?_;simp only[cU,bS,cA,ap,aq,a_,ba];refine aA aD ?_;simp only[cU,bS,cA,ap,aq,a_,ba];refine aA aD ?_;simp only[cU,bS,cA,ap,aq,a_,ba];refine aC (hK14 _ _ ?_);refine bc ?_;try simp only[ac,af]
     refine kD rfl rfl rfl ?_;try simp only[ap,aq]
     exact⟨_,rfl,hX,So h3 h4.symm⟩
    ·
     rw[h1] at hB1;refine aa (aA (aG (c:=0) iK rfl fA rfl rfl) ?_);simp only[cU,bS,cA,ap,aq,a_,ba];refine aI rfl (hB1.lies1 jP rfl) ?_;simp only[cU,bS,cA,ap,aq,a_,ba];refine aA aB ?_;simp only[cU,bS,cA,ap,aq,a_,ba];refine aR rfl (aA aB ?_);simp only[cU,bS,cA,ap,aq,a_,ba];refine aR rfl (aA (Dh rfl rfl (by omega)) ?_);simp only[cU,bS,cA,ap,aq,a_,ba];refine aA (cT rfl) ?_;simp only[cU,bS,cA,ap,aq,a_,ba];refine aC (hK13 _ _ ?_);refine eZ rfl (ar ?_);refine hK12 _ _ (aF (fun K15 hK15=>?_));refine aF (fun K16 hK16=>?_);refine aa (aA aB ?_);simp only[cU,bS,cA,ap,aq,a_,ba];refine aA (Vr rfl rfl (by omega)) ?_;simp only[cU,bS,cA,ap,aq,a_,ba];refine aC (hK16 _ _ ?_);refine bX rfl (aF (fun K17 hK17=>?_));refine aa (aA aD ?_);simp only[cU,bS,cA,ap,aq,a_,ba];refine aA aD ?_;simp only[cU,bS,cA,ap,aq,a_,ba];refine aC (hK17 _ _ ?_);refine bc ?_;try simp only[ac,af]
     refine kD rfl rfl rfl ?_;try simp only[ap,aq]
     exact⟨_,rfl,hX,Qn h3⟩
    ·
     rw[h1] at hB1;refine aa (aA (aG (c:=0) iK rfl fA rfl rfl) ?_);simp only[cU,bS,cA,ap,aq,a_,ba];refine aI rfl (hB1.lies1 jP rfl) ?_;simp only[cU,bS,cA,ap,aq,a_,ba];refine aA aB ?_;simp only[cU,bS,cA,ap,aq,a_,ba];refine bO rfl ?_;simp only[cU,bS,cA,ap,aq,a_,ba];refine bO rfl ?_;simp only[cU,bS,cA,ap,aq,a_,ba];refine aA (cV rfl) ?_;simp only[cU,bS,cA,ap,aq,a_,ba];refine aC (hK13 _ _ ?_);refine eZ rfl (ar ?_);refine hK12 _ _ (aF (fun K18 hK18=>?_));refine aF (fun K19 hK19=>?_);refine aa (aA aB ?_);simp only[cU,bS,cA,ap,aq,a_,ba];refine aA (Vr rfl rfl (by omega)) ?_;simp only[cU,bS,cA,ap,aq,a_,ba];refine aC (hK19 _ _ ?_);refine bX rfl (aF (fun K20 hK20=>?_));refine aa (aA aD ?_);simp only[cU,bS,cA,ap,aq,a_,ba];refine aA aD ?_;simp only[cU,bS,cA,ap,aq,a_,ba];refine aC (hK20 _ _ ?_);refine bc ?_;try simp only[ac,af]
     refine kD rfl rfl rfl ?_;try simp only[ap,aq]
     exact⟨_,rfl,hX,Qn h3⟩
    ·
     rw[h1] at hB1;refine aa (aA (aG (c:=0) iK rfl fA rfl rfl) ?_);simp only[cU,bS,cA,ap,aq,a_,ba];refine aI rfl (hB1.lies1 jP rfl) ?_;simp only[cU,bS,cA,ap,aq,a_,ba];refine aA aB ?_;simp only[cU,bS,cA,ap,aq,a_,ba];refine bO rfl ?_;simp only[cU,bS,cA,ap,aq,a_,ba];refine bO rfl ?_;simp only[cU,bS,cA,ap,aq,a_,ba];refine aA (cV rfl) ?_;simp only[cU,bS,cA,ap,aq,a_,ba];refine aC (hK13 _ _ ?_);refine eZ rfl (ar ?_);refine hK12 _ _ (aF (fun K21 hK21=>?_));refine aF (fun K22 hK22=>?_);refine aa (aA aB ?_);simp only[cU,bS,cA,ap,aq,a_,ba];refine aA (acg rfl rfl (by omega)) ?_;simp only[cU,bS,cA,ap,aq,a_,ba];refine aC (hK22 _ _ ?_);refine eZ rfl (ar ?_);refine hK21 _ _ (aF (fun K23 hK23=>?_));refine aa (aA aB ?_);simp only[cU,bS,cA,ap,aq,a_,ba];refine aA (eT jR iB rfl (aO (by omega) (by omega))) ?_;simp only[cU,bS,cA,ap,aq,a_,ba];refine aA aD ?_;simp only[cU,bS,cA,ap,aq,a_,ba];refine aA aD ?_;simp only[cU,bS,cA,ap,aq,a_,ba];refine aC (hK23 _ _ ?_);refine bc ?_;try simp only[ac,af]
     refine kD rfl rfl rfl ?_;try simp only[ap,aq]
     exact⟨_,rfl,hX,So h3 h4.symm⟩
end Go.Proofs.YtimjandkmfcmiaaGreatDoor
