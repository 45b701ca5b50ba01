/-
 Texts of one claim, laid together: Seq, K26, Near2, Ifc, Tch1, K12, K13, K14, K15, K17, Tail, K18, Nest, Nest2, K19, K20.
-/
import Derived.Stop.Asserts
import Derived.Test.YtfekpcimgncioaaGreatDoorCA6
open Nat renaming reduceAdd→aa,reduceMul→ag,zero_add→aq,le_refl→av,le_trans→ba,zero_le→bw,lt_or_ge→dq,reduceSub→ke
open Int renaming reduceToNat→ad,toNat_natCast→ah,reduceAdd→ak,lt_trichotomy→o_
open Go renaming Value→ai,World→aj,wp_region_lit→ao,wpList→ar,TypeId→az,Program→bp,Operand→bx,MapEntry→ck,wpQuiet→cl,Deferred→dx,wp_ret→jb,wp_block→jm
open List renaming mem_cons→an,getElem?_eq_some_iff→ap,length_append→au,length_cons→aw,take_of_length_le→ay,flatMap_append→a_,mem_of_getElem?→be,mem_singleton→bf,map_cons→bh,mem_append→bi,length_nil→bn,pairwise_cons→br,mem_cons_of_mem→bt,mem_cons_self→bu,length_take→bv,nil_append→b_,not_mem_nil→cg,cons_append→cj,map_nil→cq,length_map→ct,map_append→cv,mem_filter→c_,mem_iff_getElem?→dh,toList_toArray→dj,mem_map→eh,any_eq_true→el,all_eq_true→ep,getElem?_map→fb,append_nil→fe,mem_flatMap→fk,length_filter_le→fm,map_toArray→f_,size_toArray→gi,filter_append→gj,filter_cons→gv,append_toArray→ip,push_toArray→i_,nodup_nil→kj,getElem_inj→mn,getElem?_zip_eq_some→mo,filter_nil→m_
open Bool renaming and_eq_true→bg,or_eq_true→ej,not_eq_true'→ew,eq_iff_iff→ff,or_eq_false_iff→gq,and_false→iv,false_and→jn,true_and→jv,and_true→kf,and_self→ly,or_true→ph
open Go.Value renaming bool→bj
open Go.Exit renaming inBlock→cw
open Option renaming getD_some→df,isSome_iff_exists→ee
open Array renaming replicate→gd,replicate_succ→ia,replicate_zero→ib,getElem?_setIfInBounds_ne→ir
set_option maxHeartbeats 8000000
set_option linter.unusedSimpArgs false
set_option linter.unusedVariables false
set_option linter.unusedSectionVars false
namespace Go.Lith
open Go.RowKit Go.ChangeMaps Go.MapKept
variable{w:aj}
theorem abw{u:aj}(e:fQ w u):w.grownBy u none:=⟨e.os,e.tape,e.output,e.size,fun k hk _=>Below.block e k hk⟩
section
variable {K V:Type} [DecidableEq K] {P:bp} {T M E ty:az} {ek:K→ai} {en:V→ai} {w:aj} {g c r:Nat} {es:Array ck} {D:List (K × V)}
variable {ds:List dx} {l:List ai} {x:bx} {ops:Array Oper} {Q:Exit→Act→aj→Prop} {rest:List Oper} {d:Nat} {pos:String} {after:Array Edge}
theorem amr{seen:Array Nat}{dn rs:List (K × V)}(hx:ev l x=.pointer (some ⟨r,0,none⟩))(hI:rU w r g c seen c)(hM:jO w g es c)(hD:bT ek en D es c)(hT:oC ek en D es seen dn rs)
 (h:∀b kv vv seen' u,w.grownBy u (some r)→jO u g es c→rU u r g c seen' c→Nxt ek en D es dn rs b kv vv seen'→ar P ops Q rest (Fr (l.set d (Ey b kv vv)) ds) u) :
 ar P ops Q (Oper.mk (some d) (.next x false) ty pos after none::rest) (Fr l ds) w:=by
 obtain⟨b,kv,vv,seen',w1,hw1,hr,hN⟩:=Vb (P:=P) (ty:=ty) (s:=0) hI hM hD hT;have e1:w1.heap=w.heap∧w1.os=w.os∧w1.tape=w.tape∧w1.output=w.output:=by rcases hw1 with rfl | rfl <;> exact⟨rfl,rfl,rfl,rfl⟩
 have hgr:g≠r:=fun e=>by
  subst e;have h1:w.heap[g]? = some (.map es c):=hM;rw[show w.heap[g]? = _ from hI] at h1;cases h1
 refine mJ (w':=setBlock w1 r (.mapIter (some g) c seen' c)) (v:=Ey b kv vv) (fun o ho hty=>by simp[execOp,ho,cK,hx,hty,hr]) (h b kv vv seen' _ ⟨e1.2.1,e1.2.2.1,e1.2.2.2,by simp[setBlock,e1.1],fun k _ hk=>?_⟩ ?_ ?_ hN)
 · simp only[setBlock,e1.1]
   exact ir fun e=>hk (by rw[e])
 · show (setBlock w1 r _).heap[g]? = _
   simp only[setBlock,e1.1];rw[ir (Ne.symm hgr)];exact hM
 · exact kB (w:=w1) (o:=.mapIter (some g) c seen c) (by rw[e1.1];exact hI)
end
def ams(is:List It):Prop:=∀i∈is,(∃g cs t,i=bI g cs t)∨∃E c A n cap xs,i=oI E c A n cap xs
theorem apt{β:Type}(B:Nat)(E:az)(c:Nat)(A:Option Addr)(n cap:Nat)(xs:List ai):OwnFrom B fun (_:β) W=>(oI E c A n cap xs).P W:=fun s X Y row hs hg hr=>by
 refine⟨hs.1,?_⟩;rcases hs.2 with h | ⟨g,cap,cur,h1,h2,h3,h4⟩
 · exact .inl h
 · exact .inr ⟨g,cap,cur,h1,h2,by
    rw[grownBy_keeps_cells hg (fun r e=>(hr r e).2) h3 rfl];exact h3,h4⟩
theorem abx{β:Type}{B:Nat}(F:β→List It)(hF:∀s,ams (F s))(h:w.heap.size≤B):OwnFrom B fun s W=>Mem w W (F s):=fun s W W' row hs hg hr=>by
 refine⟨aeG (β:=Unit) h () W W' row hs.ext hg hr,fun i hi=>?_,hs.ge,hs.nd⟩;rcases hF s i hi with ⟨g,cs,t,rfl⟩ | ⟨E,c,A,n,cap,xs,rfl⟩
 · exact Oh (β:=Unit) B (fun _=>g) (fun _=>cs) t () W W' row (hs.all _ hi) hg hr
 · exact apt (β:=Unit) B E c A n cap xs () W W' row (hs.all _ hi) hg hr
theorem Mem.addC{w0:aj}{is:List It}{D:Nat}{x:Option (List dx)}(m:Mem w0 w is)(hA:ams is)(h:w.heap[D]? = some (.deferred x))(hge:w0.heap.size≤D):Mem w0 w (Go.Proofs.YtfekpcimgncioaaGreatDoor.dI D (.deferred x)::is):=by
 refine⟨m.ext,fun i hi=>?_,fun i hi b hb=>?_,br.2 ⟨fun j hj b h1 h2=>?_,m.nd⟩⟩
 · rcases an.1 hi with rfl | hi
   · exact h
   · exact m.all i hi
 · rcases an.1 hi with rfl | hi
   · cases hb;exact hge
   · exact m.ge i hi b hb
 · cases h1
   rcases hA j hj with ⟨g,cs,t,rfl⟩ | ⟨E,c,A,n,cap,xs,rfl⟩
   · cases h2
     have hB:w.heap[D]? = some (.cells cs.toArray t (0,0)):=m.all _ hj;rw[h] at hB;cases hB
   · have hP:=m.all _ hj
     rcases hP.2 with ⟨e,_⟩ | ⟨g,cap',cur,e,_,hg,_⟩
     · cases e;cases h2
     · cases e
       cases h2;rw[h] at hg;cases hg
theorem RX.wr{W u u':aj}{A:Option Addr}{w0:aj}{S:List (Option Nat)}{E:az}{c n cap:Nat}{xs:List ai}(h:RX W u)(hO:Ow w0 u S E c A n cap xs)(e:Wr u u' A):RX W u' :=
 ⟨e.os.trans h.os,e.tape.trans h.tape,e.output.trans h.output,h.ko.trans ⟨e.size,fun k o hk ho=>(e.block k (Array.getElem?_eq_some_iff.1 hk).1 fun hkA=>by
  rcases hO.cases with ⟨rfl,_⟩ | ⟨g,cur,rfl,_,hg,_⟩
  · cases hkA
  · cases hkA
    rw[hg] at hk;cases hk;cases ho).trans hk⟩⟩
section
variable {P:bp} {Q:Exit→Act→aj→Prop} {W w0 w:aj} {is:List It} {ops:Array Oper} {rest:List Oper} {d:Nat} {ty T:az} {pos:String} {after:Array Edge} {x y:bx} {l:List ai} {ds:List dx}
theorem ajC{E:az}{c n cap b nm mcap:Nat}{A B:Option Addr}{z:ai}{xs news:List ai}{a0:Array az}(m:lP W w0 w is)(k:Nat)(hk:is[k]? = some (oI E c A n cap xs))(ha:a0 = #[T,T])(hu:P.underlying T=some (.slice E))(hi:(P.info? E).map (fun i=>(i.size,i.bytes,i.zero))=some (c,b,some z))(hz:z.cells.size=c)(hc:0<c)
 (hs:ev l x=.slice A n cap) (hx:ev l y=.slice B nm mcap) (hl:news.length=nm*c) (hrow:∀j u,news[j]? = some u→∃a,B=some a∧w.cell? (a.add j)=some u) (h1:∀u∈news,u.oneCell'=true) (h63:n+nm≤9223372036854775807) (hbytes:(n+nm)*b≤140737488355328)
 (h:∀A' cap' u,lP W w0 u (is.set k (oI E c A' (n+nm) cap' (xs++news)))→ar P ops Q rest (Fr (l.set d (.slice A' (n+nm) cap')) ds) u) :
 ar P ops Q (Oper.mk (some d) (.call { callee:=.builtin .append,args:=#[x,y],argTypes:=a0 }) ty pos after none::rest) (Fr l ds) w :=
 Uo ha hu hi hz hc m.ext hs (m.o k hk) hx hl hrow h1 h63 hbytes fun A' cap' u hO hW hF=>h A' cap' u ⟨m.put k hk hW.os hW.tape hW.output hW.size (fun b hb hne=>hW.block b hb hne) (by
  refine⟨hO.own.1,?_⟩;rcases hO.cases with ⟨rfl,e1,rfl,_⟩ | ⟨g,cur,rfl,_,h2,h3⟩
  · exact .inl ⟨by rw[e1],e1⟩
  · exact .inr ⟨g,cap',cur,O,bw _,h2,h3⟩) (by
  rcases hF with rfl | hF
  · exact .inl fun _ h=>h
  · exact .inr fun b hb=>by
     have e:Me A'=some b:=hb;rw[hF] at e;cases e;exact av _),m.rx.wr (m.o k hk) hW⟩
theorem aby{W u:aj}(h:RX W u):KeepsWalks W u:=⟨h.ko.size,fun k o hk ho=>h.ko.same k o hk (by cases o <;> first | rfl | cases ho)⟩
theorem ajD{α σ:Type}{L:List ai}{go:bx}{gf Bs N q1 d1:Nat}{assign body:Code}{S:List α→Prop}{v1:α→ai}{c1:α→List ai}{T1:az}
 (hf:ev L go=.func (.func gf) #[] #[.pointer (some ⟨Bs,0,none⟩)]) (he:Lith.Entr P gf) (hseq:SeqStopsK Fence.wide 3 P gf #[.pointer (some ⟨Bs,0,none⟩)] (fun x=>#[v1 x]) KeepsWalks S (fun _=>True) N w)
 (F:σ→List It) (R:List α→σ→Prop) (hF:∀s,ams (F s)) (hdet:∀W s s' pre pre',R pre s→R pre' s'→Mem w0 W (F s)→Mem w0 W (F s')→R pre s') {s0:σ} (m:Mem w0 w (F s0)) (hR:R [] s0)
 (hassign:∀(r:Nat) (pre:List α) (x:α) (s:σ) (W:aj) (K:Act→aj→Prop),R pre s→lP W w0 W (F s)→(∀g u,lP W w0 u (bI g (c1 x) T1::F s)→K (Fr ((L.set q1 (v1 x)).set d1 (.pointer (some ⟨g,0,none⟩)))) u) →
  assign.wpIn (Fence.wide.inRound r) 2 P (Exit.then K (fun _ _ _=>False)) (Fr (L.set q1 (v1 x))) W)
 (hbody:∀(r:Nat) (pre:List α) (x:α) (g:Nat) (s:σ) (W:aj) (Q':Exit→Act→aj→Prop) [Fi Q'],pre.length<N→R pre s→lP W w0 W (bI g (c1 x) T1::F s) →
  (∀a u s',lP W w0 u (F s')→R (pre++[x]) s'→Q' .normal a u)→body.wpIn (Fence.wide.inRound r) 2 P Q' (Fr ((L.set q1 (v1 x)).set d1 (.pointer (some ⟨g,0,none⟩)))) W)
 (hdone:∀(D:Nat) (xs:List α) (s:σ) (u:aj),S xs→R xs s→Mem w0 u (Go.Proofs.YtfekpcimgncioaaGreatDoor.dI D (.deferred (some []))::F s)→Q .normal (Fr L [{ target:=.collected D,args:=#[] }]) u) :
 (Code.rangeFunc go #[q1] assign body).wp P Q (Fr L) w:=by
 refine (wpIn_wide (n:=4)).1 ?_;have hsz:=m.ext.size;have own:OwnFrom w.heap.size fun (pre:List α) W=>∃s,R pre s∧Mem w0 W (F s):=fun pre X Y row ⟨s,hs,hm⟩ hg hr=>⟨s,hs,abx (β:=Unit) (fun _=>F s) (fun _=>hF s) hsz () X Y row hm hg hr⟩
 have Xx:∀(g:Nat) (x:α) (s:σ),ams (bI g (c1 x) T1::F s):=fun g x s i hi=>by
  rcases an.1 hi with rfl | hi
  · exact .inl ⟨_,_,_,O⟩
  · exact hF s i hi
 refine wpIn_rangeFunc_ownH (F:=Fence.wide) O (by omega) (gf:=gf) (lb:=#[.pointer (some ⟨Bs,0,none⟩)]) (by rw[cK];exact hf) trivial (fun args u=>tD he) hseq KeepsWalks.trans
  (fun W l o o' _ ho _ hw=>KeepsWalks.putObj o' ho hw) (Below.refl _ _) (fun _=>rfl)
  (fun pre W=>∃s,R pre s∧Mem w0 W (F s)) (fun _ _ _=>False)
  own (fun _ _ _ _ _ h _ _=>h) ⟨s0,hR,m⟩
  (fun x a' W=>∃g s pre,a'=Fr ((L.set q1 (v1 x)).set d1 (.pointer (some ⟨g,0,none⟩)))∧R pre s∧Mem w0 W (bI g (c1 x) T1::F s))
  (fun x a' _ X Y row hs hg hr=>by
   obtain⟨g,s,pre,e,h1,h2⟩:=hs;exact⟨g,s,pre,e,h1,abx (β:=Unit) (fun _=>bI g (c1 x) T1::F s) (fun _=>Xx g x s) hsz () X Y row h2 hg hr⟩)
  ?_ ?_ ?_ ?_
 · rintro r pre x W K ⟨s,hs,hm⟩ hK
   have e:((#[q1].zip #[v1 x]).foldl (fun t (y:Tmp × ai)=>t.setIfInBounds y.1 y.2) (Fr L).tmps)=(L.set q1 (v1 x)).toArray:=by simp
   have:=hassign r pre x s W K hs (lP.start hm) (fun g u hu=>hK _ _ (hu.rx.ko.from _) (aby hu.rx) ⟨s,hs,hu.toMem.tl⟩ ⟨g,s,pre,rfl,hs,hu.toMem⟩);simp only at this ⊢;rw[e];exact this
 · rintro r pre x a' W _ _ ⟨s,hs,hm⟩ ⟨g,s',pre',rfl,hs',hm'⟩ hN
   have hd:=hdet W s s' pre pre' hs hs' hm hm'.tl;refine hbody r pre x g s' W _ hN hd (lP.start hm') (fun a u s2 hu h2=>?_);exact⟨hu.rx.ko.from _,aby hu.rx,s2,h2,hu.toMem⟩
 · rintro D xs W hD hS ⟨s,hs,hm⟩ hd
   exact hdone D xs s W hS hs (Lith.Mem.addC hm (hF s) hd (ba hsz hD))
 · rintro D c pre W hD hsp h hd
   exact h.elim
end
end Go.Lith
namespace Go.Proofs.YtfekpcimgncioaaGreatDoor
open Go.Proofs.Tryz
open Go.RowKit Go.Lith
set_option maxRecDepth 100000
attribute [local irreducible] ar cl fU bS cO Code.wp
attribute [local congr] pD gF gG gH gI gJ kL gK gL gM gN gQ gR gS gT gU gV gW eU eV gX gY iA iB iC kN dF dG cW dD gZ kM eW eX eY iD iE kO
variable{N gf Bs:Nat}
theorem ajE{dp:Nat}(l Bs g c:Nat){es:Array ck}{D:List (P3 × P3)}(J Jx:List P3→aj→Prop)(W:aj)(hJ:AbidesFrom W.heap.size J)
 (hY:∀pre x W1,J pre W1→pre.length<D.length→YieldAt Fence.wide (dp-1) prog l #[pt x] W1 fun e W'=>(e=.returned (.bool true)∧J (pre++[x]) W'∧KeepsWalks W1 W')∨(e=.returned (.bool false)∧Jx (pre++[x]) W'))
 (hM:jO W g es c) (hD:bT pt pt D es c) (hB:fR W Bs [.map (some g)] 99) (h0:J [] W) :
 CallsIn Fence.wide dp prog 129 #[.func (.yield l) #[] #[],.pointer (some ⟨Bs,0,none⟩)] W fun e W'=>(∃v,e=.returned v)∧((∃xs:List P3,xs.Perm (D.map (·.1))∧J xs W')∨(∃pre,True∧Jx pre W')):=by
 refine callsIn_of_wp func129 O trivial ?_ O;simp only[ntmps129,gi,aw,bn,aa,ke,ia,ib,i_,ip,b_,cj];refine wpIn_wide.2 ?_;refine bG fun K1 k1=>ao (aS O (hB.lies1 an3 O) ?_);simp only[zz];refine aeb Pw O hM fun w1 r e1 hr hI=>aM (k1 _ _ ?_);have hJ1:J [] w1:=hJ [] W w1 none h0 (abw e1) (fun _ h=>by cases h);have hM1:=hM.ext e1;clear h0 k1 K1;refine jm ?_;simp only[zz];refine adP [] [3,6,7,8,9,10,11,12,13] (fun n vs wl=>∃(dn rs:List (P3 × P3)) (sn:Array Nat),vs=[]∧jO wl g es c∧rU wl r g c sn c∧oC pt pt D es sn dn rs∧J (dn.map (·.1)) wl∧n=rs.length) ?_ ?_
 · apply Exists.intro
   simp only[zQ,zR,zD,zE];exact⟨[],D,#[],trivial,hM1,hI,oC.start hD,hJ1,O⟩
 · intro n vs wr hL u
   obtain⟨dn,rs,sn,rfl,hMw,hIw,hT,hJw,hn⟩:=hL;have hlen:=hT.len;simp only[zu,zF,zG];refine bG fun K5 k5=>ao (amr O hIw hMw hD hT fun bb kk vv sn2 u1 hg1 hM2 hI2 hN=>?_);refine aC (pX O) (aM (k5 _ _ ?_));have hJ2:J (dn.map (·.1)) u1:=hJ _ _ _ _ hJw hg1 (fun r' e=>by cases e;exact⟨hr,_,hIw,O⟩);clear k5 K5;refine bG fun K6 k6=>?_;simp only[zz];refine cR O ?_ ?_<;>intro hc1
   · obtain⟨kp,kb,rs2,hp,hT2⟩:=Hx hc1 hN
     refine wp_skip (k6 _ _ ?_);clear k6 K6;refine jm (bG fun K7 k7=>ao (fO (tM O hI2 hM2 hD hT2) ?_));simp only[zz];refine aC (fG O O) ?_;have m:=Mem.refl u1;simp only[zz];refine mK m iZ O ?_;clear m;intro g2 u2 m;simp only[zz];refine bN m 0 O O O aA (iK O) O ?_;clear m;intro u3 m;simp only[zy,zx,over,zF,zG,aa] at m;refine aM (k7 _ _ ?_);clear k7 K7;have hJ3:J (dn.map (·.1)) u3:=hJ _ _ _ _ hJ2 (abw m.ext) (fun _ h=>by cases h);have hM3:=hM2.ext m.ext;have hI3:=hI2.ext m.ext;have hB3:=m.b 0 rfl;obtain⟨fn,tmps,asn,body,hy,hR⟩:=hY (dn.map (·.1)) kp u3 hJ3 (by have:=hp.length_eq;rw[ct];simp only[aw] at this;omega);refine bG fun K8 k8=>(wpIn_wide (n:=dp)).1 (wpIn_region_lit (wJ (aH _) ?_));simp only[zz];refine wJ (aY O (hB3.full aG aA)) ?_;simp only[zz];refine Og (args:=[pt kp]) O O hy hR ?_;rintro e w4 (⟨rfl,hJ4,hk4⟩ | ⟨rfl,hJ4⟩)
     · refine⟨_,O,wJ (nV O _) (k8 _ _ ?_)⟩
       simp only[zz];refine aeX O (wp_skip ?_);simp only[cw,Exit.then];refine⟨rs2.length,_,?_,O,?_,?_⟩
       · rw[hn,hp.length_eq];exact Nat.lt_succ_self _
       · simp only[zz,zv]
       · simp only[zQ,zR,zD,zE]
         exact⟨dn++[(kp,kb)],rs2,_,trivial,hk4.same g _ hM3 O,hk4.same r _ hI3 O,hT2,by rw[cv];exact hJ4,O⟩
     · refine⟨_,O,wJ (nV O _) (k8 _ _ ?_)⟩
       simp only[zz];refine Ax O (jb ?_);simp only[cw,Exit.then];exact aqd O ⟨⟨_,O⟩,.inr ⟨_,trivial,hJ4⟩⟩
   · obtain rfl:=Hw hc1 hN
     refine wp_exit ?_;simp only[cw,Exit.then,if_true];exact Ep O ⟨⟨_,O⟩,.inl ⟨dn.map (·.1),hT.done.map _,hJ2⟩⟩
theorem My{w:aj}{Bs g c:Nat}{es:Array ck}{D:List (P3 × P3)}(hM:jO w g es c)(hD:bT pt pt D es c)(hB:fR w Bs [.map (some g)] 99) :
 SeqStopsK Fence.wide 3 prog 129 #[.pointer (some ⟨Bs,0,none⟩)] (fun x:P3=>#[pt x]) KeepsWalks (fun xs=>xs.Perm (D.map (·.1))) (fun _=>True) D.length w:=fun l J Jx W hW hJ _ hY h0 =>
 ajE l Bs g c J Jx W hJ hY ((hW.block g hM.lt).trans hM) hD ((hW.block Bs hB.lt).trans hB) h0
structure SlS where
 A:Option Addr
 n:Nat
 cap:Nat
 xs:List ai
theorem amt{w0 W:aj}{g:Nat}{s s':SlS}{pre pre':List P3}(h:s.n=pre.length∧s.xs=pre.flatMap lB)(h':s'.n=pre'.length∧s'.xs=pre'.flatMap lB)(m:Mem w0 W [bI g [.slice s.A s.n s.cap] 65,oI 30 3 s.A s.n s.cap s.xs])(m':Mem w0 W [bI g [.slice s'.A s'.n s'.cap] 65,oI 30 3 s'.A s'.n s'.cap s'.xs]):s'.n=pre.length∧s'.xs=pre.flatMap lB:=by
 obtain⟨A,n,cap,xs⟩:=s;obtain⟨A',n',cap',xs'⟩:=s';dsimp only at h h' m m' ⊢;have e:W.heap[g]? = _:=m.b 0 rfl;rw[show W.heap[g]? = _ from m'.b 0 rfl] at e;simp only[Option.some.injEq,Obj.cells.injEq,List.toArray_inj,List.cons.injEq,Value.slice.injEq,and_true] at e;obtain⟨rfl,rfl,rfl⟩:=e;refine⟨h.1,?_⟩;rcases (m.o 1 rfl).cases with ⟨rfl,_,_,hx⟩ | ⟨g1,cur,rfl,_,hg,_,_,_,hx⟩
 · rcases (m'.o 1 rfl).cases with ⟨_,_,_,hx'⟩ | ⟨g2,cur',e,_⟩
   · rw[hx',←h.2,hx]
   · cases e
 · rcases (m'.o 1 rfl).cases with ⟨e,_⟩ | ⟨g2,cur',e,_,hg',_,_,_,hx'⟩
   · cases e
   · cases e
     rw[hg] at hg';cases hg';rw[←hx',hx,h.2]
theorem ajF{q:Nat}(w:aj):dA prog 69 [.map (some q)] w (fun v w'=>∃g,v=.func (.func 129) #[] #[.pointer (some ⟨g,0,none⟩)]∧w.heap.size≤g∧fR w' g [.map (some q)] 99):=by
 refine⟨bJ func69 (by kernel_rfl),?_⟩;have m:=Mem.refl w
 go_enter func69,ntmps69
 apply iY 7 [0] m;simp only[↓aD];intro g1 u m;refine aC fX ?_;simp only[zz,f_,bh,cq];apply aL 3 [] m;simp only[↓aD];exact aT O O ⟨_,O,m.ext,g1,O,m.ge _ bu g1 O,(m.b 0 O)⟩
theorem Gm{α:Type}{n:Nat}{P:bp}{g:Nat}{lb:Array ai}{encs:α→Array ai}{Kp:aj→aj→Prop}{S Sp:List α→Prop}{w u:aj}(h:SeqStopsK Fence.wide n P g lb encs Kp S Sp N w)(e:fQ w u):SeqStopsK Fence.wide n P g lb encs Kp S Sp N u:=fun l J Jx W hW=>h l J Jx W (Below.trans e (Below.mono hW (Below.size e)))
theorem abz{S:List P3→Prop}(w:aj)(he:Entr prog gf)(hseq:SeqStopsK Fence.wide 3 prog gf #[.pointer (some ⟨Bs,0,none⟩)] (fun x:P3=>#[pt x]) KeepsWalks S (fun _=>True) N w)(hN:N≤10000000):dA prog 193 [.slice none 0 0,.func (.func gf) #[] #[.pointer (some ⟨Bs,0,none⟩)]] w (fun v w'=>∃xs:List P3,SL 30 3 (xs.flatMap lB) xs.length w v w'∧S xs):=by
 refine⟨bJ func193 (by kernel_rfl),?_⟩;have m:=Mem.refl w;refine (callsIn_wide (n:=4)).1 (callsIn_of_wp_marks func193 O trivial ?_ O);simp only[ntmps193,gi,aw,bn,aa,ke,ia,ib,i_,ip,b_,cj];refine wpIn_wide.2 ?_;refine bG fun K1 k1=>ao (aqg m O O ?_);intro g1 u m;refine aC aO (aM (k1 _ _ ?_));try clear k1 K1
 refine bG fun K2 k2=>bG fun K3 k3=>?_;simp only[zz];replace m:=m.nilO 30 3;refine ao (aC aH (aM (k3 _ _ ?_)));try clear k3 K3
 refine jm ?_;simp only[zz];replace m:=m.s01;refine ajD (L:=_) (v1:=fun x=>pt x) (c1:=lB) (T1:=30) (d1:=5) O he (Gm hseq m.ext) (fun s:SlS=>[bI g1 [.slice s.A s.n s.cap] 65,oI 30 3 s.A s.n s.cap s.xs]) (fun pre s=>s.n=pre.length∧s.xs=pre.flatMap lB) (fun s i hi=>?_) (fun W s s2 pre pre2 h h2 m1 m2=>amt h h2 m1 m2) (s0:=⟨none,0,0,[]⟩) m ⟨O,O⟩ ?_ ?_ ?_
 · simp only[an,cg,or_false] at hi;rcases hi with rfl | rfl;exact .inl ⟨_,_,_,O⟩;exact .inr ⟨_,_,_,_,_,_,O⟩
 ·
  intro r pre x s W K hs m hK;try dsimp only at m hK ⊢
  simp only[zF,zG];refine cG (Jd m iZ O ?_);intro g2 u m;simp only[zz];refine Cs m 0 O O O aA (iK O) O ?_;intro u m;simp only[zy,zx,over,zF,zG,aa] at m;exact aM (hK _ _ m)
 ·
  rintro r pre x g5 ⟨A1,n1,cap1,xs1⟩ W Q' _ hNp ⟨hn1,hx1⟩ m hn;dsimp only at m hn hn1 hx1 ⊢;subst hx1
  ·
   simp only[zF,zG];refine pB (cG (aS O ((m.b 1 O).lies1 ahz O) ?_));simp only[zz];refine aS O ((m.b 0 O).full aG aA) ?_;simp only[zz];refine kW O ?_;intro u g6 e_ h_ k_;replace m:lP _ _ _ _:=⟨m.toMem.newB e_ h_ k_,m.rx.ext e_⟩
   simp only[zz];refine ajC m 3 O O cN mX O (by decide) O O O (m.b 0 O).rowsO (fV O) (by omega) (by omega) ?_;intro A1 cap1 u m;simp only[zF,zG] at m;rw[show pre.flatMap lB++_=(pre++[x]).flatMap lB by rw[a_];rfl] at m;simp only[zz];refine jM m 2 O O O ahy (iK O) ⟨O,O⟩ ?_;intro u m;simp only[zz,zy,zx,over,aa] at m;exact aM (hn _ _ ⟨A1,n1+1,cap1,(pre++[x]).flatMap lB⟩ ⟨m.toMem.sel [false,false,true,true],m.rx⟩ ⟨by simp[hn1],O⟩)
 rintro D xs ⟨A1,n1,cap1,xs1⟩ u hS ⟨hn1,hx1⟩ m;dsimp only at m hn1 hx1;subst hx1;refine k2 _ _ ?_;try clear k2 K2
 refine bG fun K4 k4=>ao (aS O ((m.b 1 O).lies1 ahz O) ?_);simp only[zz];refine aC aO (aM (k4 _ _ ?_));try clear k4 K4
 refine jb ?_;simp only[zz];try simp only[cw,Exit.then,if_true]
 refine ab8 (Def.mk (m.get 0 O)) ?_;replace m:=m.putD (o':=.deferred none) 0 O;simp only[zF,zG] at m;refine aT O O ?_;try simp only[zD,zE]
 exact⟨_,O,m.ext,xs,⟨A1,cap1,n1,hn1,O,(m.o 2 O)⟩,hS⟩
theorem adp{S:List P3→Prop}(w:aj)(he:Entr prog gf)(hseq:SeqStopsK Fence.wide 3 prog gf #[.pointer (some ⟨Bs,0,none⟩)] (fun x:P3=>#[pt x]) KeepsWalks S (fun _=>True) N w)(hN:N≤10000000):dA prog 127 [.func (.func gf) #[] #[.pointer (some ⟨Bs,0,none⟩)]] w (fun v w'=>∃xs:List P3,SL 30 3 (xs.flatMap lB) xs.length w v w'∧S xs):=by
 refine⟨bJ func127 (by kernel_rfl),?_⟩;have m:=Mem.refl w
 go_enter func127,ntmps127
 apply fI 7 [0] m;simp only[↓aD];refine bH O O (abz _ he (Gm hseq m.ext) hN) ?_;rintro v u e_ ⟨xs,⟨A5,cap5,n5,hn5,rfl,h_⟩,hS⟩;replace m:=m.newO e_ h_;apply aL 3 [] m;simp only[↓aD];exact aT O O ⟨_,O,m.ext,xs,⟨_,_,_,hn5,O,(m.o 0 O)⟩,hS⟩
theorem abA{S:List P3→Prop}(w:aj)(he:Entr prog gf)(hseq:SeqStopsK Fence.wide 3 prog gf #[.pointer (some ⟨Bs,0,none⟩)] (fun x:P3=>#[pt x]) KeepsWalks S (fun _=>True) N w)(hS:∀xs,S xs→xs.length≤N)(hN:N≤10000000):dA prog 68 [.func (.func gf) #[] #[.pointer (some ⟨Bs,0,none⟩)],.func (.func 70) #[] #[]] w (fun v w'=>∃xs ys:List P3,SL 30 3 (ys.flatMap bO) xs.length w v w'∧S xs∧ys.Perm xs∧ys.Pairwise fun a b=>¬b.Lt a):=by
 refine⟨bJ func68 (by kernel_rfl),?_⟩;have m:=Mem.refl w
 go_enter func68,ntmps68
 apply fI 7 [0] m;simp only[↓aD];refine bH O O (adp _ he (Gm hseq m.ext) hN) ?_;rintro v u e_ ⟨xs,⟨A5,cap5,n5,hn5,rfl,h_⟩,hSx⟩;replace m:=m.newO e_ h_;apply aL 6 [0] m;simp only[↓aD];refine mL m 0 ach O O (fun m=>aeE m 0 O (by have:=hS xs hSx;omega)) ?_;rintro v i u m ⟨rfl,ys,rfl,hys,hso⟩;simp only[zF,zG] at m;apply aL 7 [] m;simp only[↓aD];exact aT O O ⟨_,O,m.ext,xs,ys,⟨_,_,_,hn5,O,(m.o 0 O)⟩,hSx,hys,hso⟩
end Go.Proofs.YtfekpcimgncioaaGreatDoor
namespace Go.Lith
open Go.RowKit
def Gn(u:P3):Nat:=if u.x≠0 then 0 else if u.y≠0 then 1 else 2
def Mz(a b c:Int):Prop:=(0≤a∧0≤b∧0≤c)∨(a≤0∧b≤0∧c≤0)
/-! ### Corners -/
section
variable {P:bp} {ds:List dx} {l:List ai} {x y:bx} {T T' U t ty:az} {v z:ai}
end
section
variable {P:bp} {ds:List dx} {l:List ai} {ty:az} {v u:ai}
variable {ops:Array Oper} {Q:Exit→Act→aj→Prop} {rest:List Oper} {d:Nat} {pos:String} {after:Array Edge} {w w0:aj} {is:List It}
end
section
variable {P:bp} {w0:aj} {is:List It} {l:List ai} {ty:az} {u:ai}
variable {ops:Array Oper} {Q:Act→Prop} {rest:List Oper} {d:Nat} {pos:String} {after:Array Edge} {v:ai} {ds:List dx}
end
section
variable {P:bp} {l:List ai} {x y z:bx} {ty:az} {k:IntKind} {m n q r:Int}
theorem Gp{a0:Array az}(hx:ev l x=.int k m)(hy:ev l y=.int k n)(hz:ev l z=.int k q)(hr:(if q<(if n<m then n else m) then q else if n<m then n else m)=r):iR P l (.call { callee:=.builtin .min,args:=#[x,y,z],argTypes:=a0 }) ty (.int k r):=fun w o ho _=>by
 subst hr;simp[execOp,ho,resolve,invoke,builtin,Builtin.min_,Builtin.min2,cK,hx,hy,hz]
theorem Gq{a0:Array az}(hx:ev l x=.int k m)(hy:ev l y=.int k n)(hz:ev l z=.int k q)(hr:(if (if m<n then n else m)<q then q else if m<n then n else m)=r):iR P l (.call { callee:=.builtin .max,args:=#[x,y,z],argTypes:=a0 }) ty (.int k r):=fun w o ho _=>by
 subst hr;simp[execOp,ho,resolve,invoke,builtin,Builtin.max_,Builtin.max2,cK,hx,hy,hz]
end
end Go.Lith
namespace Go.Proofs.YtfekpcimgncioaaGreatDoor
open Go.Proofs.Tryz
open Go.RowKit Go.Lith
set_option maxRecDepth 100000
attribute [local irreducible] ar cl fU bS cO Code.wp
attribute [local congr] pD gF gG gH gI gJ kL gK gL gM gN gQ gR gS gT gU gV gW eU eV gX gY iA iB iC kN dF dG cW dD gZ kM eW eX eY iD iE kO
variable{u c d q s:P3}{a:Int}
def Zp(u:P3):Int:=if u.x≠0 then 0 else if u.y≠0 then 1 else if u.z≠0 then 2 else -1
theorem Je{n:Int}:¬bB n=0↔n≠0:=not_congr cI
theorem Ea{n:Int}(h:¬¬bB n=0):¬n≠0:=fun k=>h (Je.2 k)
theorem ajG(h:¬Z3 u):Zp u=(Gn u:Int):=by
 unfold Zp Gn;unfold Z3 at h
 repeat' split
 all_goals first | rfl | (exfalso;omega)
theorem ajH(h:Z3 u):Zp u = -1:=by
 obtain⟨h1,h2,h3⟩:=h;simp[Zp,h1,h2,h3]
class N4(p:P3):Prop where
 x : -549755813888<p.x∧p.x<549755813888
 y : -549755813888<p.y∧p.y<549755813888
 z : -549755813888<p.z∧p.z<549755813888
theorem N3.cross{v:P3}(hu:N3 u)(hv:N3 v):N4 (u.cross v):=by
 have h1:=An hu.y hv.z;have h2:=An hu.z hv.y;have h3:=An hu.z hv.x;have h4:=An hu.x hv.z;have h5:=An hu.x hv.y;have h6:=An hu.y hv.x;exact⟨by simp only[P3.cross];omega,by simp only[P3.cross];omega,by simp only[P3.cross];omega⟩
theorem pG{b:Int}(ha : -549755813888<a∧a<549755813888)(hb:b.natAbs<524288) : -288230376151711744<a*b∧a*b<288230376151711744:=by
 have h:(a*b).natAbs≤549755813887*524287:=by rw[Int.natAbs_mul];exact Nat.mul_le_mul (by omega) (by omega)
 omega
theorem aeI  : dS prog 304 [sg u] (.int .i64 (Zp u)):=by
 intro w;refine⟨bJ func304 (by kernel_rfl),?_⟩;have m:=Mem.refl w
 go_enter func304,ntmps304
 apply iY 26 [0,4,1,0] m;simp only[↓aD,uU];intro g1;refine⟨by omega,?_⟩;intro u m;refine aC (jY O O) ?_;apply aL 8 [0,0] m;simp only[↓aD];refine bD O ?_ ?_<;>intro hc2
 ·
  apply aK 6 [] m;simp only[↓aD];refine aT O O ?_;try simp only[zD,zE]
  exact⟨_,O,m.ext,by rw[Zp,if_pos (Je.1 hc2)]⟩
 ·
  have hq0:=hc2;apply aK 19 [1,0] m;simp only[↓aD,ak];refine⟨by omega,?_⟩;refine aC (jZ O O) ?_;apply aL 8 [0,0] m;simp only[↓aD];refine bD O ?_ ?_<;>intro hc2
  ·
   apply aK 6 [] m;simp only[↓aD];refine aT O O ?_;try simp only[zD,zE]
   exact⟨_,O,m.ext,by rw[Zp,if_neg (Ea hq0),if_pos (Je.1 hc2)]⟩
  ·
   have hq1:=hc2;apply aK 19 [1,0] m;simp only[↓aD,ak];refine⟨by omega,?_⟩;refine aC (kA O O) ?_;apply aL 8 [0,0] m;simp only[↓aD];refine bD O ?_ ?_<;>intro hc2
   ·
    apply aK 6 [] m;simp only[↓aD];refine aT O O ?_;try simp only[zD,zE]
    exact⟨_,O,m.ext,by rw[Zp,if_neg (Ea hq0),if_neg (Ea hq1),if_pos (Je.1 hc2)]⟩
   ·
    have hq2:=hc2;apply aK 19 [2] m;simp only[↓aD,ak];refine⟨by omega,?_⟩;refine aT O O ?_;try simp only[zD,zE]
    exact⟨_,O,m.ext,by rw[Zp,if_neg (Ea hq0),if_neg (Ea hq1),if_neg (Ea hq2)]⟩
theorem Zq{v:P3}(hu:N4 u)(hv:N3 v):dS prog 308 [nv u,nv v] (.int .i64 (u.dot v)):=by
 intro w;refine⟨bJ func308 (by kernel_rfl),?_⟩;have m:=Mem.refl w
 go_enter func308,ntmps308
 apply iY 12 [1,0,0] m;simp only[↓aD,sQ,dC,ad,ag,aa];intro g1 g2;refine⟨by omega,?_⟩;intro u m;refine aC (lE O O (bP (by have h1:=pG hu.x hv.x;have h2:=pG hu.y hv.y;have h3:=pG hu.z hv.z;omega) (by have h1:=pG hu.x hv.x;have h2:=pG hu.y hv.y;have h3:=pG hu.z hv.z;omega))) ?_;apply aL 4 [1,0,0] m;simp only[↓aD,sQ,dC,ad,ag,aa];refine⟨by omega,?_⟩;refine aC (lE O O (bP (by have h1:=pG hu.x hv.x;have h2:=pG hu.y hv.y;have h3:=pG hu.z hv.z;omega) (by have h1:=pG hu.x hv.x;have h2:=pG hu.y hv.y;have h3:=pG hu.z hv.z;omega))) (aC (fC rfl rfl (bP (by have h1:=pG hu.x hv.x;have h2:=pG hu.y hv.y;have h3:=pG hu.z hv.z;omega) (by have h1:=pG hu.x hv.x;have h2:=pG hu.y hv.y;have h3:=pG hu.z hv.z;omega))) ?_);apply aL 4 [1,0,0] m;simp only[↓aD,sQ,dC,ad,ag,aa];refine⟨by omega,?_⟩;refine aC (lE O O (bP (by have h1:=pG hu.x hv.x;have h2:=pG hu.y hv.y;have h3:=pG hu.z hv.z;omega) (by have h1:=pG hu.x hv.x;have h2:=pG hu.y hv.y;have h3:=pG hu.z hv.z;omega))) (aC (fC rfl rfl (bP (by have h1:=pG hu.x hv.x;have h2:=pG hu.y hv.y;have h3:=pG hu.z hv.z;omega) (by have h1:=pG hu.x hv.x;have h2:=pG hu.y hv.y;have h3:=pG hu.z hv.z;omega))) ?_);apply aL 3 [] m;simp only[↓aD];exact aT O O ⟨_,O,m.ext,O⟩
theorem uZ{a b:P3}[I3 a][I3 b][I3 c][I3 d]:dS prog 243 [pt a,pt b,pt c,pt d] (.int .i64 (bB (((b.sub a).cross (c.sub a)).dot (d.sub a)))):=by
 intro w;refine⟨bJ func243 (by kernel_rfl),?_⟩;have m:=Mem.refl w
 go_enter func243,ntmps243
 apply iY 15 [3,2,1,0,0] m;simp only[↓aD,aQ];intro g1 g2 g3 g4 u m;refine Do O O O O ?_;intro u g5 e_ h_ k_;replace m:=m.newB e_ h_ k_;simp only[zz];refine cQ m O O (Wl _ (m.b 0 O)) ?_;rintro v u m ⟨bo,rfl,hsm⟩;apply aL 1 [0] m;simp only[↓aD];refine gE O ?_ ?_<;>intro hc1
 ·
  obtain⟨_,_,_,_⟩:=hsm hc1;apply aK 1 [0] m;simp only[↓aD];refine mq m aB (by kernel_rfl) (ql O (fun u m=>((m.b 4 O).full aG aA)) ?_);simp only[zz];refine ql O (fun u m=>((m.b 3 O).full aG aA)) ?_;simp only[zz];refine fD O O qG ?_;simp only[zz];refine ql O (fun u m=>((m.b 4 O).full aG aA)) ?_;simp only[zz];refine ql O (fun u m=>((m.b 2 O).full aG aA)) ?_;simp only[zz];refine fD O O qG ?_;simp only[zz];refine fD O O (Fh inferInstance inferInstance) ?_;simp only[zz];refine ql O (fun u m=>((m.b 4 O).full aG aA)) ?_;simp only[zz];refine ql O (fun u m=>((m.b 1 O).full aG aA)) ?_;simp only[zz];refine fD O O qG ?_;simp only[zz];refine fD O O (Zq (N3.cross inferInstance inferInstance) inferInstance) ?_;simp only[zz];refine fD O O Zj (aI aO (bC ?_));intro u m;apply aU 1 [] m;simp only[↓aD];exact aT O O ⟨_,O,m.ext,O⟩
 ·
  apply aK 2 [0] m;simp only[↓aD];refine mq m aB (by kernel_rfl) (ql O (fun u m=>((m.b 4 O).full aG aA)) ?_);simp only[zz];refine ql O (fun u m=>((m.b 3 O).full aG aA)) ?_;simp only[zz];refine fD O O nC ?_;simp only[zz];refine ql O (fun u m=>((m.b 4 O).full aG aA)) ?_;simp only[zz];refine ql O (fun u m=>((m.b 2 O).full aG aA)) ?_;simp only[zz];refine fD O O nC ?_;simp only[zz];refine fD O O (yY Bv.of Bv.of) ?_;simp only[zz];refine ql O (fun u m=>((m.b 4 O).full aG aA)) ?_;simp only[zz];refine ql O (fun u m=>((m.b 1 O).full aG aA)) ?_;simp only[zz];refine fD O O nC ?_;simp only[zz];refine fD O O (Mw Bv.of Bv.of) ?_;simp only[zz];refine fD O O (Lp Bw.up) (aI aO (bC ?_));intro u m;apply aU 1 [] m;simp only[↓aD];exact aT O O ⟨_,O,m.ext,O⟩
theorem xK{p:P3}:dS prog 305 [pt p,pt q] (.tuple #[pt (mT p q),pt (nT p q)]):=by
 intro w;refine⟨bJ func305 (by kernel_rfl),?_⟩;have m:=Mem.refl w
 go_enter func305,ntmps305
 apply iY 12 [2,3,0] m;simp only[↓aD,eS,aQ];intro g1 g2 g3 g4 u m;refine nF m O O tP.pure 1 [0] ?_;simp only[↓aD];intro u m;refine bD O ?_ ?_<;>intro hc1
 ·
  apply aK 1 [0] m;simp only[↓aD];refine zvt [false,false,true,true] [[0],[1],[1],[0]] (.take 0 (.take 1 (.one 2 (.one 3 .nil)))) m aB (by kernel_rfl) (bQ (fun _ _ _ _ _ h=>h)) ?_;simp only[↓aD,↓zzu,aQ,aa];intro u m;apply aU 1 [] m;simp only[↓aD];refine uA O ⟨_,O,((m.b 1 O).full aG aA)⟩ ⟨_,O,((m.b 0 O).full aG aA)⟩ ?_;try simp only[zD,zE]
  exact⟨_,O,m.ext,by rw[mT,nT,if_pos hc1,if_pos hc1];rfl⟩
 ·
  apply aK 2 [0] m;simp only[↓aD];refine zvt [false,false,true,true] [[1],[0],[1],[0]] (.take 0 (.take 1 (.one 2 (.one 3 .nil)))) m aB (by kernel_rfl) (bQ (fun _ _ _ _ _ h=>h)) ?_;simp only[↓aD,↓zzu,aQ,aa];intro u m;apply aU 1 [] m;simp only[↓aD];refine uA O ⟨_,O,((m.b 1 O).full aG aA)⟩ ⟨_,O,((m.b 0 O).full aG aA)⟩ ?_;try simp only[zD,zE]
  exact⟨_,O,m.ext,by rw[mT,nT,if_neg hc1,if_neg hc1];rfl⟩
instance (a b c:Int):Decidable (Mz a b c):=inferInstanceAs (Decidable (_∨_))
instance {p q:P3}[I3 p][I3 q]:I3 (mT p q):=by unfold mT;split <;> assumption
instance {p q:P3}[I3 p][I3 q]:I3 (nT p q):=by unfold nT;split <;> assumption
theorem amu{b c:Int}:(decide (0≤(if c<(if b<a then b else a) then c else if b<a then b else a))||decide ((if (if a<b then b else a)<c then c else if a<b then b else a)≤0))=decide (Mz a b c):=by
 unfold Mz;rw[←Bool.decide_or]
 congr 1
 apply propext;constructor
 ·
  intro h
  repeat' split at h
  all_goals omega
 ·
  intro h
  repeat' split
  all_goals omega
theorem amv{b c:Int}:dS prog 307 [.agg #[.int .i64 a,.int .i64 b,.int .i64 c]] (.bool (decide (Mz a b c))):=by
 intro w;refine⟨bJ func307 (by kernel_rfl),?_⟩;have m:=Mem.refl w
 go_enter func307,ntmps307
 apply iY 13 [0,0,0,0] m;simp only[↓aD,fF,dC,ad,ag,aa];intro g1;refine⟨by omega,?_⟩;intro u m;refine aC (Gp O O O O) ?_;apply aL 2 [0,0] m;simp only[↓aD];refine bA O (fun hb=>aJ qO aV O O (by decide) (by decide) O) ?_;simp only[zz];refine bV O (fun hb=>aY (aX hb O) ((m.b 0 O).lies1 bF O)) (bA O (fun hb=>aJ qO aV O O (by decide) (by decide) O) ?_);simp only[zz];refine bV O (fun hb=>aY (aX hb O) ((m.b 0 O).lies1 bF O)) (bA O (fun hb=>aJ qO aV O O (by decide) (by decide) O) ?_);simp only[zz];refine bV O (fun hb=>aY (aX hb O) ((m.b 0 O).lies1 bF O)) (bA O (fun hb=>Gq (aX hb O) (aX hb O) (aX hb O) O) (bA O (fun hb=>En (aX hb O) O) (aC (cC O O O) ?_)));apply aL 3 [] m;simp only[↓aD];refine aT O O ?_;try simp only[zD,zE]
 exact⟨_,O,m.ext,by rw[←amu]⟩
theorem aeJ{t:T3}(w:aj):dA prog 303 [tr t] w (fun v w'=>∃g,v=.func (.func 337) #[] #[.pointer (some ⟨g,0,none⟩)]∧w.heap.size≤g∧fR w' g (aN t) 39):=by
 refine⟨bJ func303 (by kernel_rfl),?_⟩;have m:=Mem.refl w
 go_enter func303,ntmps303
 apply iY 7 [0] m;simp only[↓aD];intro g1 u m;refine aC fX ?_;simp only[zz,f_,bh,cq];apply aL 3 [] m;simp only[↓aD];exact aT O O ⟨_,O,m.ext,_,O,m.ge _ bu _ O,(m.b 0 O)⟩
theorem Na(n:Nat)(hn:1≤n)(Bs n₀:Nat)(t:T3)(w:aj)(hB:fR w Bs (aN t) 39):SeqStopsK Fence.wide n prog 337 #[.pointer (some ⟨Bs,0,none⟩)] (fun x:Nat=>anq t x) (nB n₀ Bs) (fun ys=>ys=[0,1,2]) (fun pre=>∀k∈pre,k<3) 3 w:=fun l J Jx W hW hJ hJx hY h0 =>
 agi n hn l Bs n₀ t J Jx (fun s W h=>hJ s W _ none h ⟨rfl,rfl,rfl,av _,fun _ _ _=>rfl⟩ (fun r e=>by cases e)) hY W ((hW.block Bs hB.lt).trans hB) h0
theorem mC{l:List ai}{ty:az}{x y:bx}{v:P3}{k:Nat}(hk:k<3)(hx:ev l x=sg v)(hy:ev l y=.int .i64 (k:Int)):iR prog l (.index 36 x y) ty (.int .i64 (bB (dP v k))):=by
 have h:k=0∨k=1∨k=2:=by omega
 rcases h with rfl | rfl | rfl
 · exact jY hx hy
 · exact jZ hx hy
 · exact kA hx hy
theorem aeK(n:Int) : -1≤bB n∧bB n≤1:=by
 unfold bB;split
 · omega
 · split <;> omega
theorem xL(m n:Int):IntKind.i64.wrap (bB m*bB n)=bB m*bB n:=by
 have h1:=aeK m;have h2:=aeK n;have h3:bB m = -1∨bB m=0∨bB m=1:=by omega
 rcases h3 with h | h | h <;> rw[h] <;> exact bP (by omega) (by omega)
theorem abB{a b:P3}[I3 a][I3 b][I3 c][I3 d]{g50 k:Nat}(w:aj)(hB50:fR w g50 [.int .i64 (k:Int)] 3)(hk:k<3):dA prog 338 [pt a,pt b,pt c,pt d,.pointer (some ⟨g50,0,none⟩)] w (fun v _=>v=.bool (decide (bB (dP (dR a b c) k)*bB (dP (dR a b d) k)≤0))):=by
 refine⟨bJ func338 (by kernel_rfl),?_⟩;have m:=Mem.refl w
 go_enter func338,ntmps338
 apply iY 9 [0] m;simp only[↓aD];intro g1 g2 g3 g4 u m;refine mq m aB (by kernel_rfl) (dZ 4 [3,2,3,1] ?_);simp only[↓aD,aQ];refine fD O O (rM (a:=a) (b:=b) (c:=a) (d:=c)) ?_;simp only[zz];refine ql O (fun u m=>((hB50.ext m.ext).lies1 bF O)) ?_;simp only[zz];refine aI ((mC (v:=dR a b c) hk O O)) (dZ 4 [3,2,3,0] ?_);simp only[↓aD,aQ];refine fD O O (rM (a:=a) (b:=b) (c:=a) (d:=d)) ?_;simp only[zz];refine ql O (fun u m=>((hB50.ext m.ext).lies1 bF O)) ?_;simp only[zz];refine aI ((mC (v:=dR a b d) hk O O)) (aI (lE O O (xL _ _)) (aI (En O O) (aI aO ?_)));simp only[zz];refine bC ?_;intro u m;apply aU 1 [] m;simp only[↓aD];exact aT O O ⟨_,O,m.ext,O⟩
section
variable {P:bp} {ops:Array Oper} {Q:Exit→Act→aj→Prop} {rest:List Oper} {d j:Nat} {ty:az} {pos:String} {after:Array Edge} {v:ai} {b:Bool} {ds:List dx} {l:List ai} {w w0:aj} {is:List It}
variable {f:FuncId} {fo:bx} {xs:Array bx} {args:List ai} {first cap:Array ai} {a0:Array az}
theorem aeL(m:Mem w0 w is)(hw:yielded ops l.toArray j=some b)(hf:b=true→ev l fo=.func (.func f) first cap)(hxs:b=true→first.toList++xs.toList.map (ev l)++cap.toList=args)(hc:b=true→dA P f args w fun x _=>x=v)
 (h:∀u,Mem w0 u is→ar P ops Q rest (Fr (l.set d (Pm b v)) ds) u):ar P ops Q (Oper.mk (some d) (.call { callee:=.value fo,args:=xs,argTypes:=a0 }) ty pos after (some (j,true))::rest) (Fr l ds) w:=by
 cases b with
 | false=>simp only[Bk] at h;exact pH hw (h w m)
 | true=>simp only[jI] at h;exact eB hw (cQ m (hf rfl) (hxs rfl) (hc rfl) fun x u m e=>by subst e;exact h u m)
end
theorem zY(h:¬Z3 u):Gn u=jC u∧jC u<3:=by
 unfold Gn jC;unfold Z3 at h;by_cases h1:u.x=0 <;> by_cases h2:u.y=0 <;> by_cases h3:u.z=0 <;> simp[h1,h2,h3] at h ⊢
theorem ajI(h:Z3 u):¬jC u<3:=by
 obtain⟨h1,h2,h3⟩:=h;simp[jC,h1,h2,h3]
theorem ajJ{b:Int}:bB a*bB b≤0↔a*b≤0:=by
 unfold bB;rcases o_ a 0 with ha | ha | ha <;> rcases o_ b 0 with hb | hb | hb
 · have:=Int.mul_pos_of_neg_of_neg ha hb
   simp[ha,hb];omega
 · simp[hb]
 · have:=Int.mul_neg_of_neg_of_pos ha hb
   have:¬b<0:=by omega
   simp[ha,hb,this];omega
 · simp[ha]
 · simp[ha]
 · simp[ha]
 · have:=Int.mul_neg_of_pos_of_neg ha hb
   have:¬a<0:=by omega
   simp[ha,hb,this];omega
 · simp[hb]
 · have:=Int.mul_pos ha hb
   have:¬a<0:=by omega
   have:¬b<0:=by omega
   simp[*]
def lU(p q r s:P3):T3:=if mT p q=nT p q then ⟨mT r s,nT r s,mT p q⟩ else ⟨mT p q,nT p q,mT r s⟩
theorem Jf{p:P3}(hp:I3 p)(hq:I3 q):I3 (mT p q)∧I3 (nT p q):=by
 unfold mT nT;split
 · exact⟨hq,hp⟩
 · exact⟨hp,hq⟩
instance {p q r s:P3}[hp:I3 p][hq:I3 q][hr:I3 r][hs:I3 s]:IT (lU p q r s):=by
 unfold lU;split
 · exact⟨(Jf hr hs).1,(Jf hr hs).2,(Jf hp hq).1⟩
 · exact⟨(Jf hp hq).1,(Jf hp hq).2,(Jf hr hs).1⟩
theorem ajK{p r:P3}(h:(mT p q).x=(nT p q).x∧(mT p q).y=(nT p q).y∧(mT p q).z=(nT p q).z):lU p q r s=⟨mT r s,nT r s,mT p q⟩:=if_pos (P3.eq h.1 h.2.1 h.2.2)
theorem ajL{p r:P3}(h:¬((mT p q).x=(nT p q).x∧(mT p q).y=(nT p q).y∧(mT p q).z=(nT p q).z)):lU p q r s=⟨mT p q,nT p q,mT r s⟩:=if_neg fun e=>h (by rw[e];exact⟨rfl,rfl,rfl⟩)
theorem ans(u:P3):jC u≤3:=by
 unfold jC;split
 · omega
 · split
   · omega
   · split <;> omega
theorem ant{p r:P3}(h:Z3 (uO p q r s)):(fN (lU p q r s) && !decide ((nT p q).Lt (mT r s)) && !decide ((nT r s).Lt (mT p q)))=eQ p q r s:=by
 unfold eQ;rw[if_neg (ajI h)];unfold aoi
 congr 2
 unfold lU fN ah6;split
 · refine decide_eq_decide.2 ?_
   have:=ans (dR (mT r s) (nT r s) (mT p q));simp only;omega
 · refine decide_eq_decide.2 ?_
   have:=ans (dR (mT p q) (nT p q) (mT r s));simp only;omega
theorem aeM{p r:P3}(h:¬Z3 (uO p q r s)):(decide (bB (mQ p q r s)=0)&&decide (bB (dP (dR p q r) (jC (uO p q r s)))*bB (dP (dR p q s) (jC (uO p q r s)))≤0)&&decide (bB (dP (dR r s p) (jC (uO p q r s)))*bB (dP (dR r s q) (jC (uO p q r s)))≤0))=eQ p q r s:=by
 unfold eQ;rw[if_pos (zY h).2];simp only[ajJ,cI]
theorem Oi{p r:P3}[I3 p][I3 q][I3 r][I3 s]:dS prog 306 [pt p,pt q,pt r,pt s] (.bool (eQ p q r s)):=by
 intro w;refine⟨bJ func306 (by kernel_rfl),?_⟩;have m:=Mem.refl w
 go_enter func306,ntmps306
 apply iY 13 [3,2,1] m;simp only[↓aD,aQ];intro g1 g2 g3 g4 u m;apply aU 1 [0,0] m;simp only[↓aD,aQ];refine lD m O O (rM (a:=p) (b:=q) (c:=r) (d:=s)) ?_;intro u m;simp only[zz];refine nF m O O (aeI (u:=uO p q r s)) 5 [0] ?_;simp only[↓aD,arQ,dC,aa];intro g5 u m;by_cases hf:Z3 (uO p q r s)
 ·
  rw[ajH hf] at m;apply aU 10 [0,2,4,3,0] m;simp only[↓aD,dC,aQ];refine⟨by omega,?_⟩;refine nF m O O (xK (p:=p) (q:=q)) 10 [4,3,2,1,0] ?_;simp only[↓aD,aQ,aa];intro u m;refine nF m O O (xK (p:=r) (q:=s)) 12 [2,1,4,3,2] ?_;simp only[↓aD,aQ,qS,aa];intro u m;apply Nu 8 [0,5,4,0] m;simp only[↓aD,lM,eA,aQ,aa];intro g6 u m;refine aC (cB O O) ?_;apply aL 1 [0] m;simp only[↓aD];refine iP m 0 [] [62,63,64,65] (fun vs i=>vs=[]∧i=bI g6 [.int .i64 (lU p q r s).a.x,.int .i64 (lU p q r s).a.y,.int .i64 (lU p q r s).a.z,.int .i64 (lU p q r s).b.x,.int .i64 (lU p q r s).b.y,.int .i64 (lU p q r s).b.z,.int .i64 (lU p q r s).c.x,.int .i64 (lU p q r s).c.y,.int .i64 (lU p q r s).c.z] 39) ?_ ?_
  · intro K1 hK1
    refine bD O ?_ ?_<;>intro hc2
    ·
     apply Vf 6 [3,2,5,0] m;simp only[↓aD,aQ,qS,eA,aa];intro u m;apply aU 1 [0] m;simp only[↓aD];exact hK1 _ _ _ (by kernel_rfl) m ⟨O,by rw[ajK hc2] <;> rfl⟩
    ·
     apply aK 1 [0] m;simp only[↓aD];exact hK1 _ _ _ (by kernel_rfl) m ⟨O,by rw[ajL hc2] <;> rfl⟩
  · intro vs i wr m hI u
    obtain⟨rfl,rfl⟩:=hI;simp only[zF,zG] at m;simp only[zu,zF,zG];apply aU 3 [0,0] m;simp only[↓aD,eA];refine nF m O O (Zk (t:=lU p q r s)) 1 [0] ?_;simp only[↓aD];intro u m;refine iF O (fun hb=>aY O ((m.b 4 O).full aG aA)) (iF O (fun hb=>aY O ((m.b 3 O).full aG aA)) (adZ m O O (fun hb=>by simp only[dj,bh,cq,zA,zB,zC,zD,zE,hb,jI];rfl) (fun hb=>(tP (p:=nT p q) (q:=mT r s)).pure) ?_));intro u m;refine cS O (fun hb=>nV (aX hb O)) (aC (bW O O O) ?_);apply aL 1 [0] m;simp only[↓aD];refine iF O (fun hb=>aY O ((m.b 2 O).full aG aA)) (iF O (fun hb=>aY O ((m.b 5 O).full aG aA)) (adZ m O O (fun hb=>by simp only[dj,bh,cq,zA,zB,zC,zD,zE,hb,jI];rfl) (fun hb=>(tP (p:=nT r s) (q:=mT p q)).pure) ?_));intro u m;refine cS O (fun hb=>nV (aX hb O)) (aC (bW O O O) ?_);apply aL 3 [] m;simp only[↓aD];refine aT O O ?_;try simp only[zD,zE]
    exact⟨_,O,m.ext,by rw[Gl,ant hf]⟩
 ·
  rw[ajG hf,(zY hf).1] at m;apply aU 7 [0,1,0] m;simp only[↓aD,dC];refine⟨by omega,?_⟩;refine aC fX ?_;simp only[zz,f_,bh,cq];apply aL 8 [4,3,2,1,0] m;simp only[↓aD,aQ];refine nF m O O (uZ (a:=p) (b:=q) (c:=r) (d:=s)) 2 [0,0] ?_;simp only[↓aD];intro u m;refine cS O (fun hb=>aH) ?_;simp only[zz];refine iF O (fun hb=>aY O ((m.b 4 O).full aG aA)) (iF O (fun hb=>aY O ((m.b 3 O).full aG aA)) (iF O (fun hb=>aY O ((m.b 2 O).full aG aA)) (iF O (fun hb=>aY O ((m.b 1 O).full aG aA)) (aeL m O (fun hb=>aX hb O) (fun hb=>by simp only[dj,bh,cq,zA,zB,zC,zD,zE,hb,jI];rfl) (fun hb=>abB (a:=p) (b:=q) (c:=r) (d:=s) (k:=jC (uO p q r s)) _ (m.b 0 rfl) (zY hf).2) ?_))));intro u m;refine aC (bW O O O) ?_;apply aL 1 [0] m;simp only[↓aD];refine cS O (fun hb=>aH) ?_;simp only[zz];refine iF O (fun hb=>aY O ((m.b 2 O).full aG aA)) (iF O (fun hb=>aY O ((m.b 1 O).full aG aA)) (iF O (fun hb=>aY O ((m.b 4 O).full aG aA)) (iF O (fun hb=>aY O ((m.b 3 O).full aG aA)) (aeL m O (fun hb=>aX hb O) (fun hb=>by simp only[dj,bh,cq,zA,zB,zC,zD,zE,hb,jI];rfl) (fun hb=>abB (a:=r) (b:=s) (c:=p) (d:=q) (k:=jC (uO p q r s)) _ (m.b 0 rfl) (zY hf).2) ?_))));intro u m;refine aC (bW O O O) ?_;apply aL 3 [] m;simp only[↓aD];refine aT O O ?_;try simp only[zD,zE]
  exact⟨_,O,m.ext,by rw[←aeM hf];rfl⟩
end Go.Proofs.YtfekpcimgncioaaGreatDoor
namespace Go.Proofs.YtfekpcimgncioaaGreatDoor
open Go.Proofs.Tryz
open Go.RowKit Go.Lith
set_option maxRecDepth 100000
attribute [local irreducible] ar cl fU bS cO Code.wp
variable{q:P3}{t:T3}{k:Nat}
instance {t:T3}{k:Nat}[h:IT t]:I3 (t.cor k):=by
 unfold T3.cor;split
 · exact h.a
 · split
   · exact h.b
   · exact h.c
def ajM:List Nat→Int
 | []=>0
 | [_]=>1
 | [_,_]=>2
 | _=>3
def l3(f:Nat→Int):List Nat→List ai
 | []=>[.int .i64 0,.int .i64 0,.int .i64 0]
 | [a]=>[.int .i64 (f a),.int .i64 0,.int .i64 0]
 | [a,b]=>[.int .i64 (f a),.int .i64 (f b),.int .i64 0]
 | a::b::c::_=>[.int .i64 (f a),.int .i64 (f b),.int .i64 (f c)]
theorem Zr(u:P3):Gn u<3:=by
 unfold Gn
 repeat' split
 all_goals omega
def Sg(p q:P3)(t:T3):Prop:=mQ t.a t.b t.c p=0∧mQ t.a t.b t.c q=0
instance (p q:P3)(t:T3):Decidable (Sg p q t):=inferInstanceAs (Decidable (_∧_))
def Cv(p:P3)(t:T3)(k:Nat):P3:=dR (t.cor k) (t.cor ((k+1)%3)) p
def wK(p q:P3)(t:T3)(k:Nat):Int:=if Sg p q t then bB (dP (Cv p t k) (Gn t.normal)) else bB (mQ p q (t.cor k) (t.cor ((k+1)%3)))
theorem Jg{p:P3}(h:Sg p q t):wK p q t k=bB (dP (Cv p t k) (Gn t.normal)):=if_pos h
theorem Jh{p:P3}(h:¬Sg p q t):wK p q t k=bB (mQ p q (t.cor k) (t.cor ((k+1)%3))):=if_neg h
theorem zZ{p:P3}(h:(decide (bB (mQ t.a t.b t.c p)≠0)||decide (bB (mQ t.a t.b t.c q)≠0))=false):Sg p q t:=by
 simp only[gq,decide_eq_false_iff_not,ne_eq,Decidable.not_not,cI] at h;exact h
theorem Lu{p:P3}(h:(decide (bB (mQ t.a t.b t.c p)≠0)||decide (bB (mQ t.a t.b t.c q)≠0))=true):¬Sg p q t:=by
 simp only[cI,ej,decide_eq_true_eq,ne_eq] at h;exact fun k=>h.elim (· k.1) (· k.2)
theorem abC{a b c:Int}:Mz (bB a) (bB b) (bB c)↔Mz a b c:=by
 simp only[Mz,Hi,Pi]
theorem vA{a b:Int}:0<bB a*bB b↔0<a*b:=by
 have:=ajJ (a:=a) (b:=b);omega
theorem amw{p:P3}(hf:t.flat):eQ p q (mT (mT t.a t.b) t.c) (nT (nT t.a t.b) t.c)=dL p q t:=by
 unfold dL;rw[show dR t.a t.b t.c=t.normal from rfl];rw[if_neg (ajI hf)]
theorem apu{p:P3}(hf:¬t.flat)(h:0<bB (mQ t.a t.b t.c p)*bB (mQ t.a t.b t.c q)):false=dL p q t:=by
 unfold dL;rw[show dR t.a t.b t.c=t.normal from rfl];rw[if_pos (zY hf).2,if_pos (vA.1 h)]
theorem aq0{p:P3}(hf:¬t.flat)(h:Sg p q t)(hk:k<3)(ho:eQ p q (t.cor k) (t.cor ((k+1)%3))=true):true=dL p q t:=by
 unfold dL;rw[show dR t.a t.b t.c=t.normal from rfl];rw[if_pos (zY hf).2,if_neg (by rw[h.1];simp),if_pos (show mQ t.a t.b t.c p=0∧mQ t.a t.b t.c q=0 from h)];have e:k=0∨k=1∨k=2:=by omega
 rcases e with rfl | rfl | rfl
 · rw[show eQ p q t.a t.b=true from ho];rfl
 · rw[show eQ p q t.b t.c=true from ho,ph];rfl
 · rw[show eQ p q t.c t.a=true from ho,ph];rfl
theorem apv{p:P3}(hf:¬t.flat)(hg:¬0<bB (mQ t.a t.b t.c p)*bB (mQ t.a t.b t.c q))(h0:Sg p q t→∀k∈[0,1,2],eQ p q (t.cor k) (t.cor ((k+1)%3))=false):decide (Mz (wK p q t 0) (wK p q t 1) (wK p q t 2))=dL p q t:=by
 unfold dL;rw[show dR t.a t.b t.c=t.normal from rfl];rw[if_pos (zY hf).2,if_neg (fun h=>hg (vA.2 h))];rw[ff,decide_eq_true_eq];by_cases h:Sg p q t
 · rw[if_pos (show mQ t.a t.b t.c p=0∧mQ t.a t.b t.c q=0 from h),show eQ p q t.a t.b=false from h0 h 0 (by decide),show eQ p q t.b t.c=false from h0 h 1 (by decide),show eQ p q t.c t.a=false from h0 h 2 (by decide),Jg h,Jg h,Jg h,abC]
   simp only[Bool.false_or,Bool.or_false,decide_eq_true_eq];rw[(zY hf).1];exact Iff.rfl
 · rw[if_neg (show ¬(mQ t.a t.b t.c p=0∧mQ t.a t.b t.c q=0) from h),Jh h,Jh h,Jh h,abC]
   unfold Qs;simp only[ej,bg,decide_eq_true_eq,and_assoc];exact Iff.rfl
theorem Zs{p:P3}[I3 p][I3 q][IT t]:dS prog 242 [pt p,pt q,tr t] (.bool (dL p q t)):=by
 intro w;refine⟨bJ func242 (by kernel_rfl),?_⟩;have m:=Mem.refl w;refine (callsIn_wide (n:=4)).1 (callsIn_of_wp_marks func242 O trivial ?_ O);simp only[ntmps242,gi,aw,bn,aa,ke,ia,ib,i_,ip,b_,cj];refine wpIn_wide.2 ?_;refine bG fun K1 k1=>ao (Up m O ?_);intro g1 u m;simp only[zz];refine Up m O ?_;intro g2 u m;simp only[zz];refine Up m O ?_;intro g3 u m;simp only[zz];refine mK m oN O ?_;intro g4 u m;refine aM (k1 _ _ ?_);try clear k1 K1
 refine bG fun K2 k2=>ao (aC (aJ cF aA O O (by decide) (by decide) O) ?_);simp only[zz];refine aS O ((m.b 1 O).lies aG aA O O) ?_;simp only[zz,zy,aq,aa,ag,ad];refine aC (aJ cF aA O O (by decide) (by decide) O) ?_;simp only[zz];refine aS O ((m.b 1 O).lies aG aA O O) ?_;simp only[zz,zy,aq,aa,ag,ad];refine aC (aJ cF aA O O (by decide) (by decide) O) ?_;simp only[zz];refine aS O ((m.b 1 O).lies aG aA O O) ?_;simp only[zz,zy,aq,aa,ag,ad];refine aC (aJ cF aA O O (by decide) (by decide) O) ?_;simp only[zz];refine aS O ((m.b 1 O).lies aG aA O O) ?_;simp only[zz,zy,aq,aa,ag,ad];refine lD m O O (rM (a:=t.a) (b:=t.b) (c:=t.a) (d:=t.c)) ?_;intro u m;simp only[zz];refine lD m O O (aeI (u:=t.normal)) ?_;intro u m;simp only[zz];refine mK m lW O ?_;intro g5 u m;simp only[zz];refine dB m 0 O O O aV (iK O) ⟨O,O⟩ ?_;intro u m;simp only[zz,zy,zx,over,aa] at m;refine aM (k2 _ _ ?_);try clear k2 K2
 refine bG fun K3 k3=>bG fun K4 k4=>?_;by_cases hf:t.flat
 ·
  rw[ajH hf] at m;refine ao (aS O ((m.b 0 O).lies1 bF O) ?_);simp only[zz];refine aC (qT O O (by omega)) (aM (k4 _ _ ?_));try clear k4 K4
  refine Ax O (bG fun K5 k5=>ao (aC (aJ cF aA O O (by decide) (by decide) O) ?_));simp only[zz];refine aS O ((m.b 2 O).lies aG aA O O) ?_;simp only[zz,zy,aq,aa,ag,ad];refine aC (aJ cF aA O O (by decide) (by decide) O) ?_;simp only[zz];refine aS O ((m.b 2 O).lies aG aA O O) ?_;simp only[zz,zy,aq,aa,ag,ad];refine lD m O O (xK (p:=t.a) (q:=t.b)) ?_;intro u m;refine aC aH (aC (fG O O) (aC (fG O O) ?_));simp only[zz];refine mK m iZ O ?_;intro g6 u m;simp only[zz];refine mK m iZ O ?_;intro g7 u m;simp only[zz];refine bN m 1 O O O aA (iK O) O ?_;intro u m;simp only[zy,zx,over,zF,zG,aa] at m;refine bN m 0 O O O aA (iK O) O ?_;intro u m;simp only[zy,zx,over,zF,zG,aa] at m;refine aM (k5 _ _ ?_);try clear k5 K5
  refine bG fun K6 k6=>ao (aS O ((m.b 1 O).full aG aA) ?_);simp only[zz];refine aC (aJ cF aA O O (by decide) (by decide) O) ?_;simp only[zz];refine aS O ((m.b 4 O).lies aG aA O O) ?_;simp only[zz,zy,aq,aa,ag,ad];refine lD m O O (xK (p:=mT t.a t.b) (q:=t.c)) ?_;intro u m;refine aC aH (aC (fG O O) (aC (fG O O) ?_));simp only[zz];refine mK m iZ O ?_;intro g8 u m;simp only[zz];refine mK m iZ O ?_;intro g9 u m;simp only[zz];refine bN m 1 O O O aA (iK O) O ?_;intro u m;simp only[zy,zx,over,zF,zG,aa] at m;refine bN m 0 O O O aA (iK O) O ?_;intro u m;simp only[zy,zx,over,zF,zG,aa] at m;refine aM (k6 _ _ ?_);try clear k6 K6
  refine bG fun K7 k7=>ao (aS O ((m.b 2 O).full aG aA) ?_);simp only[zz];refine aC (aJ cF aA O O (by decide) (by decide) O) ?_;simp only[zz];refine aS O ((m.b 6 O).lies aG aA O O) ?_;simp only[zz,zy,aq,aa,ag,ad];refine lD m O O (xK (p:=nT t.a t.b) (q:=t.c)) ?_;intro u m;refine aC aH (aC (fG O O) (aC (fG O O) ?_));simp only[zz];refine mK m iZ O ?_;intro g10 u m;simp only[zz];refine mK m iZ O ?_;intro g11 u m;simp only[zz];refine bN m 1 O O O aA (iK O) O ?_;intro u m;simp only[zy,zx,over,zF,zG,aa] at m;refine bN m 0 O O O aA (iK O) O ?_;intro u m;simp only[zy,zx,over,zF,zG,aa] at m;refine aM (k7 _ _ ?_);try clear k7 K7
  refine bG fun K8 k8=>ao (aS O ((m.b 10 O).full aG aA) ?_);simp only[zz];refine aS O ((m.b 9 O).full aG aA) ?_;simp only[zz];refine aS O ((m.b 3 O).full aG aA) ?_;simp only[zz];refine aS O ((m.b 0 O).full aG aA) ?_;simp only[zz];refine lD m O O (Oi (p:=p) (q:=q) (r:=mT (mT t.a t.b) t.c) (s:=nT (nT t.a t.b) t.c)) ?_;intro u m;simp only[zz];refine dB m 7 O O O eM (iK O) ⟨O,O⟩ ?_;intro u m;simp only[zz,zy,zx,over,aa] at m;refine aM (k8 _ _ ?_);try clear k8 K8
  refine jb ?_;try simp only[cw,Exit.then,if_true]
  refine anr ?_;refine aT O ⟨_,O,((m.b 7 O).lies1 oV O)⟩ ?_;try simp only[zD,zE]
  exact⟨_,O,m.ext,by rw[amw hf]⟩
 ·
  rw[ajG hf] at m;refine ao (aS O ((m.b 0 O).lies1 bF O) ?_);simp only[zz];refine aC (Fj O O (by omega)) (aM (k4 _ _ ?_));try clear k4 K4
  refine aeX O (wp_skip (k3 _ _ ?_));try clear k3 K3
  refine bG fun K9 k9=>?_;simp only[zz];refine eN 18 [0,1,2,3,4,5,6,7,8,9,10,11,12,13,14,15] [⟨16,14,3,[.int .i64 0]⟩,⟨17,15,3,[.int .i64 0]⟩] aB (by kernel_rfl) (al2 ⟨_,_,_,O,by kernel_rfl,_,lW,O⟩ ⟨_,_,_,O,by kernel_rfl,_,lW,O⟩) (ol:=?_) ?hol ?_
  case hol=>simp only[zw,zQ,zR];try rfl
  intro u e_;replace m:=m.ext' e_;refine jH (aJ cF aA O O (by decide) (by decide) O) ?_;simp only[zz];refine eK O (fun u e=>(((m.ext' e).b 2 O).lies aG aA O O)) ?_;simp only[zz,zy,aq,aa,ag,ad];refine jH (aJ cF aA O O (by decide) (by decide) O) ?_;simp only[zz];refine eK O (fun u e=>(((m.ext' e).b 2 O).lies aG aA O O)) ?_;simp only[zz,zy,aq,aa,ag,ad];refine jH (aJ cF aA O O (by decide) (by decide) O) ?_;simp only[zz];refine eK O (fun u e=>(((m.ext' e).b 2 O).lies aG aA O O)) ?_;simp only[zz,zy,aq,aa,ag,ad];refine eK O (fun u e=>(((m.ext' e).b 4 O).full aG aA)) ?_;simp only[zz];refine eT O O (uZ (a:=t.a) (b:=t.b) (c:=t.c) (d:=p)) (jH (aJ cF aA O O (by decide) (by decide) O) ?_);simp only[zz];refine eK O (fun u e=>(((m.ext' e).b 2 O).lies aG aA O O)) ?_;simp only[zz,zy,aq,aa,ag,ad];refine jH (aJ cF aA O O (by decide) (by decide) O) ?_;simp only[zz];refine eK O (fun u e=>(((m.ext' e).b 2 O).lies aG aA O O)) ?_;simp only[zz,zy,aq,aa,ag,ad];refine jH (aJ cF aA O O (by decide) (by decide) O) ?_;simp only[zz];refine eK O (fun u e=>(((m.ext' e).b 2 O).lies aG aA O O)) ?_;simp only[zz,zy,aq,aa,ag,ad];refine eK O (fun u e=>(((m.ext' e).b 3 O).full aG aA)) ?_;simp only[zz];refine eT O O (uZ (a:=t.a) (b:=t.b) (c:=t.c) (d:=q)) (Ae ?_);simp only[zz];refine mf2 m (by decide) ?_;intro g6 g7 u m;simp only[zJ,zK,zF,zG];refine dB m 1 O O O aV (iK O) ⟨O,O⟩ ?_;intro u m;simp only[zz,zy,zx,over,aa] at m;refine dB m 0 O O O aV (iK O) ⟨O,O⟩ ?_;intro u m;simp only[zz,zy,zx,over,aa] at m;refine aM (k9 _ _ ?_);try clear k9 K9
  refine bG fun K10 k10=>bG fun K11 k11=>ao (aS O ((m.b 1 O).lies1 bF O) ?_);simp only[zz];refine aS O ((m.b 0 O).lies1 bF O) ?_;simp only[zz];refine aC (lE O O (xL _ _)) (aC (aag O O) (aM (k11 _ _ ?_)));try clear k11 K11
  simp only[zz];refine bD O ?_ ?_<;>intro hc2
  ·
   refine bG fun K12 k12=>ao (dB m 3 O O O eM (iK O) ⟨O,O⟩ ?_);intro u m;simp only[zz,zy,zx,over,aa] at m;refine aM (k12 _ _ ?_);try clear k12 K12
   refine jb ?_;try simp only[cw,Exit.then,if_true]
   refine anr ?_;refine aT O ⟨_,O,((m.b 3 O).lies1 oV O)⟩ ?_;try simp only[zD,zE]
   exact⟨_,O,m.ext,by rw[←apu hf hc2]⟩
  ·
   refine wp_skip (k10 _ _ ?_);try clear k10 K10
   refine bG fun K13 k13=>ao (mK m Di O ?_);intro g8 u m;refine aM (k13 _ _ ?_);try clear k13 K13
   refine bG fun K14 k14=>ao ?_;simp only[zz];refine mK m lW O ?_;intro g9 u m;simp only[zz];refine dB m 0 O O O aV (iK O) ⟨O,O⟩ ?_;intro u m;simp only[zz,zy,zx,over,aa] at m;refine aM (k14 _ _ ?_);try clear k14 K14
   refine bG fun K15 k15=>bG fun K16 k16=>ao (aS O ((m.b 6 O).full cA aP) ?_);simp only[zz];refine bH O O (aeJ (t:=t) _) ?_;rintro v u e_ ⟨g10,rfl,h_,k_⟩;replace m:=m.newB e_ h_ k_;refine aM (k16 _ _ ?_);try clear k16 K16
   refine jm ?_;simp only[zz];refine abv (v1:=fun x=>pt (t.cor x)) (v2:=fun x=>pt (t.cor ((x+1)%3))) (c1:=fun x=>[.int .i64 (t.cor x).x,.int .i64 (t.cor x).y,.int .i64 (t.cor x).z]) (c2:=fun x=>[.int .i64 (t.cor ((x+1)%3)).x,.int .i64 (t.cor ((x+1)%3)).y,.int .i64 (t.cor ((x+1)%3)).z]) (T1:=30) (T2:=30) (d1:=18) (d2:=19) (csB:=aN t) (tB:=39) O ahs (Na 3 (by omega) g10 0 t _ (m.b 0 O)) (fun pre=>[bI g10 (aN t) 39,bI g9 [.int .i64 (ajM pre)] 3,bI g8 (l3 (wK p q t) pre) 36,bI g7 [.int .i64 (bB (mQ t.a t.b t.c q))] 3,bI g6 [.int .i64 (bB (mQ t.a t.b t.c p))] 3,bI g5 [.int .i64 (Gn t.normal:Int)] 3,bI g4 [.bool false] 4,bI g3 [.int .i64 t.a.x,.int .i64 t.a.y,.int .i64 t.a.z,.int .i64 t.b.x,.int .i64 t.b.y,.int .i64 t.b.z,.int .i64 t.c.x,.int .i64 t.c.y,.int .i64 t.c.z] 39,bI g2 [.int .i64 (q).x,.int .i64 (q).y,.int .i64 (q).z] 30,bI g1 [.int .i64 (p).x,.int .i64 (p).y,.int .i64 (p).z] 30]) (fun _=>[bI g4 [.bool true] 4]) (fun pre=>Sg p q t→∀k∈pre,eQ p q (t.cor k) (t.cor ((k+1)%3))=false) (fun pre=>Sg p q t∧∃k∈pre,eQ p q (t.cor k) (t.cor ((k+1)%3))=true) (fun _ i hi=>by simp only[an,cg,or_false] at hi;rcases hi with rfl | rfl | rfl | rfl | rfl | rfl | rfl | rfl | rfl | rfl <;> exact⟨_,_,_,rfl⟩) (fun _ i hi=>by simp only[an,cg,or_false] at hi;subst hi ;exact⟨_,_,_,rfl⟩) (fun _=>rfl) (fun _=>be (i:=0) rfl) m (fun _ k hk=>by cases hk) ?_ ?_ ?_ ?_
   ·
    intro r pre x W K m hK;simp only[zF,zG];refine nS fun K17 k17=>cG (Jd m iZ O ?_);intro g11 u m;simp only[zz];refine Cs m 0 O O O aA (iK O) O ?_;intro u m;simp only[zy,zx,over,zF,zG,aa] at m;refine aM (k17 _ _ ?_);try clear k17 K17
    refine cG (Jd m iZ O ?_);intro g12 u m;simp only[zz];refine Cs m 0 O O O aA (iK O) O ?_;intro u m;simp only[zy,zx,over,zF,zG,aa] at m;exact aM (hK _ _ _ m)
   ·
    intro r pre x g11 g12 W Q' _ hJ hN m hn hr;rcases pre with _ | ⟨a,_ | ⟨b,_ | ⟨c,l⟩⟩⟩
    ·
     simp only[ajM,l3] at m;simp only[zF,zG];refine pB (nS fun K18 k18=>pB (nS fun K19 k19=>cG (aS O ((m.b 6 O).lies1 bF O) ?_)));simp only[zz];refine aC (qM O O) (aC aH ?_);simp only[zz];refine bV O (fun hb=>aY O ((m.b 5 O).lies1 bF O)) (bA O (fun hb=>qM (aX hb O) O) (aC (cC O O O) (aC aO (aM (k19 _ _ ?_)))));try clear k19 K19
     simp only[zz];refine zW O ?_ ?_<;>intro hc3
     ·
      refine xI m 7 aB (by kernel_rfl) ?_;simp only[zy];refine El O (fun u m=>((m.b 3 O).lies1 bF O)) ?_;simp only[zz];refine El O (fun u m=>((m.b 11 O).full aG aA)) ?_;simp only[zz];refine El O (fun u m=>((m.b 10 O).full aG aA)) ?_;simp only[zz];refine El O (fun u m=>((m.b 1 O).full aG aA)) ?_;simp only[zz];refine El O (fun u m=>((m.b 0 O).full aG aA)) ?_;simp only[zz];refine agh O O (uZ (a:=p) (b:=q) (c:=t.cor x) (d:=t.cor ((x+1)%3))) (aI (aJ qO aV O O (by decide) (by decide) O) (bC ?_));intro u m;simp only[zz];refine jM m 4 O O O aV (iK O) ⟨O,O⟩ ?_;intro u m;simp only[zz,zy,zx,over,aa] at m;refine aM (k18 _ _ ?_);try clear k18 K18
      refine cG (aS O ((m.b 3 O).lies1 bF O) ?_);simp only[zz];refine aC (fC (m:=0) (n:=1) (r:=1) O O (by decide)) ?_;simp only[zz];refine jM m 3 O O O aV (iK O) ⟨O,O⟩ ?_;intro u m;simp only[zz,zy,zx,over,aa] at m;refine aM ?_
      first
      | (have hI:=Lu hc3;rw[show bB (((q.sub p).cross ((t.cor x).sub p)).dot ((t.cor ((x+1)%3)).sub p))=wK p q t x from (Jh hI).symm] at m;exact hn _ _ ⟨m.toMem.sel [false,false,true,true,true,true,true,true,true,true,true,true],m.rx⟩ (fun k=>absurd k hI))
      | (have hI := zZ hc3;rw[show bB (dP (Cv p t x) (Gn t.normal))=wK p q t x from (Jg hI).symm] at m;exact hn _ _ ⟨m.toMem.sel [false, false, true, true, true, true, true, true, true, true, true, true], m.rx⟩ (fun hi k hk => by
       rcases bi.1 hk with hk | hk
       · exact hJ hi k hk
       · rw[bf.1 hk];exact hc4))
     ·
      refine nS fun K20 k20=>cG (aS O ((m.b 11 O).full aG aA) ?_);simp only[zz];refine aS O ((m.b 10 O).full aG aA) ?_;simp only[zz];refine aS O ((m.b 1 O).full aG aA) ?_;simp only[zz];refine aS O ((m.b 0 O).full aG aA) ?_;simp only[zz];refine Of m O O (Oi (p:=p) (q:=q) (r:=t.cor x) (s:=t.cor ((x+1)%3))) ?_;intro u m;refine aC aO (aM (k20 _ _ ?_));try clear k20 K20
      simp only[zz];refine zW O ?_ ?_<;>intro hc4
      ·
       refine nS fun K21 k21=>cG (jM m 8 O O O eM (iK O) ⟨O,O⟩ ?_);intro u m;simp only[zz,zy,zx,over,aa] at m;refine aM (k21 _ _ ?_);try clear k21 K21
       refine Oe ?_;exact hr _ _ ⟨m.toMem.sel [false,false,false,false,false,false,false,false,true],m.rx⟩ ⟨zZ hc3,x,by simp,hc4⟩
      ·
       refine xI m 9 aB (by kernel_rfl) ?_;simp only[zy];refine El O (fun u m=>((m.b 3 O).lies1 bF O)) ?_;simp only[zz];refine El O (fun u m=>((m.b 1 O).full aG aA)) ?_;simp only[zz];refine El O (fun u m=>((m.b 0 O).full aG aA)) ?_;simp only[zz];refine El O (fun u m=>((m.b 1 O).full aG aA)) ?_;simp only[zz];refine El O (fun u m=>((m.b 11 O).full aG aA)) ?_;simp only[zz];refine agh O O (rM (a:=t.cor x) (b:=t.cor ((x+1)%3)) (c:=t.cor x) (d:=p)) ?_;simp only[zz];refine El O (fun u m=>((m.b 7 O).lies1 bF O)) ?_;simp only[zz];refine aI ((mC (v:=Cv p t x) (Zr _) O O)) (aI (aJ qO aV O O (by decide) (by decide) O) (bC ?_));intro u m;simp only[zz];refine jM m 4 O O O aV (iK O) ⟨O,O⟩ ?_;intro u m;simp only[zz,zy,zx,over,aa] at m;refine aM (k18 _ _ ?_);try clear k18 K18
       refine cG (aS O ((m.b 3 O).lies1 bF O) ?_);simp only[zz];refine aC (fC (m:=0) (n:=1) (r:=1) O O (by decide)) ?_;simp only[zz];refine jM m 3 O O O aV (iK O) ⟨O,O⟩ ?_;intro u m;simp only[zz,zy,zx,over,aa] at m;refine aM ?_
       first
       | (have hI:=Lu hc3;rw[show bB (((q.sub p).cross ((t.cor x).sub p)).dot ((t.cor ((x+1)%3)).sub p))=wK p q t x from (Jh hI).symm] at m;exact hn _ _ ⟨m.toMem.sel [false,false,true,true,true,true,true,true,true,true,true,true],m.rx⟩ (fun k=>absurd k hI))
       | (have hI := zZ hc3;rw[show bB (dP (Cv p t x) (Gn t.normal))=wK p q t x from (Jg hI).symm] at m;exact hn _ _ ⟨m.toMem.sel [false, false, true, true, true, true, true, true, true, true, true, true], m.rx⟩ (fun hi k hk => by
        rcases bi.1 hk with hk | hk
        · exact hJ hi k hk
        · rw[bf.1 hk];exact hc4))
    ·
     simp only[ajM,l3] at m;simp only[zF,zG];refine pB (nS fun K22 k22=>pB (nS fun K23 k23=>cG (aS O ((m.b 6 O).lies1 bF O) ?_)));simp only[zz];refine aC (qM O O) (aC aH ?_);simp only[zz];refine bV O (fun hb=>aY O ((m.b 5 O).lies1 bF O)) (bA O (fun hb=>qM (aX hb O) O) (aC (cC O O O) (aC aO (aM (k23 _ _ ?_)))));try clear k23 K23
     simp only[zz];refine zW O ?_ ?_<;>intro hc3
     ·
      refine xI m 7 aB (by kernel_rfl) ?_;simp only[zy];refine El O (fun u m=>((m.b 3 O).lies1 bF O)) ?_;simp only[zz];refine El O (fun u m=>((m.b 11 O).full aG aA)) ?_;simp only[zz];refine El O (fun u m=>((m.b 10 O).full aG aA)) ?_;simp only[zz];refine El O (fun u m=>((m.b 1 O).full aG aA)) ?_;simp only[zz];refine El O (fun u m=>((m.b 0 O).full aG aA)) ?_;simp only[zz];refine agh O O (uZ (a:=p) (b:=q) (c:=t.cor x) (d:=t.cor ((x+1)%3))) (aI (aJ qO aV O O (by decide) (by decide) O) (bC ?_));intro u m;simp only[zz];refine jM m 4 O O O aV (iK O) ⟨O,O⟩ ?_;intro u m;simp only[zz,zy,zx,over,aa] at m;refine aM (k22 _ _ ?_);try clear k22 K22
      refine cG (aS O ((m.b 3 O).lies1 bF O) ?_);simp only[zz];refine aC (fC (m:=1) (n:=1) (r:=2) O O (by decide)) ?_;simp only[zz];refine jM m 3 O O O aV (iK O) ⟨O,O⟩ ?_;intro u m;simp only[zz,zy,zx,over,aa] at m;refine aM ?_
      first
      | (have hI:=Lu hc3;rw[show bB (((q.sub p).cross ((t.cor x).sub p)).dot ((t.cor ((x+1)%3)).sub p))=wK p q t x from (Jh hI).symm] at m;exact hn _ _ ⟨m.toMem.sel [false,false,true,true,true,true,true,true,true,true,true,true],m.rx⟩ (fun k=>absurd k hI))
      | (have hI := zZ hc3;rw[show bB (dP (Cv p t x) (Gn t.normal))=wK p q t x from (Jg hI).symm] at m;exact hn _ _ ⟨m.toMem.sel [false, false, true, true, true, true, true, true, true, true, true, true], m.rx⟩ (fun hi k hk => by
       rcases bi.1 hk with hk | hk
       · exact hJ hi k hk
       · rw[bf.1 hk];exact hc4))
     ·
      refine nS fun K24 k24=>cG (aS O ((m.b 11 O).full aG aA) ?_);simp only[zz];refine aS O ((m.b 10 O).full aG aA) ?_;simp only[zz];refine aS O ((m.b 1 O).full aG aA) ?_;simp only[zz];refine aS O ((m.b 0 O).full aG aA) ?_;simp only[zz];refine Of m O O (Oi (p:=p) (q:=q) (r:=t.cor x) (s:=t.cor ((x+1)%3))) ?_;intro u m;refine aC aO (aM (k24 _ _ ?_));try clear k24 K24
      simp only[zz];refine zW O ?_ ?_<;>intro hc4
      ·
       refine nS fun K25 k25=>cG (jM m 8 O O O eM (iK O) ⟨O,O⟩ ?_);intro u m;simp only[zz,zy,zx,over,aa] at m;refine aM (k25 _ _ ?_);try clear k25 K25
       refine Oe ?_;exact hr _ _ ⟨m.toMem.sel [false,false,false,false,false,false,false,false,true],m.rx⟩ ⟨zZ hc3,x,by simp,hc4⟩
      ·
       refine xI m 9 aB (by kernel_rfl) ?_;simp only[zy];refine El O (fun u m=>((m.b 3 O).lies1 bF O)) ?_;simp only[zz];refine El O (fun u m=>((m.b 1 O).full aG aA)) ?_;simp only[zz];refine El O (fun u m=>((m.b 0 O).full aG aA)) ?_;simp only[zz];refine El O (fun u m=>((m.b 1 O).full aG aA)) ?_;simp only[zz];refine El O (fun u m=>((m.b 11 O).full aG aA)) ?_;simp only[zz];refine agh O O (rM (a:=t.cor x) (b:=t.cor ((x+1)%3)) (c:=t.cor x) (d:=p)) ?_;simp only[zz];refine El O (fun u m=>((m.b 7 O).lies1 bF O)) ?_;simp only[zz];refine aI ((mC (v:=Cv p t x) (Zr _) O O)) (aI (aJ qO aV O O (by decide) (by decide) O) (bC ?_));intro u m;simp only[zz];refine jM m 4 O O O aV (iK O) ⟨O,O⟩ ?_;intro u m;simp only[zz,zy,zx,over,aa] at m;refine aM (k22 _ _ ?_);try clear k22 K22
       refine cG (aS O ((m.b 3 O).lies1 bF O) ?_);simp only[zz];refine aC (fC (m:=1) (n:=1) (r:=2) O O (by decide)) ?_;simp only[zz];refine jM m 3 O O O aV (iK O) ⟨O,O⟩ ?_;intro u m;simp only[zz,zy,zx,over,aa] at m;refine aM ?_
       first
       | (have hI:=Lu hc3;rw[show bB (((q.sub p).cross ((t.cor x).sub p)).dot ((t.cor ((x+1)%3)).sub p))=wK p q t x from (Jh hI).symm] at m;exact hn _ _ ⟨m.toMem.sel [false,false,true,true,true,true,true,true,true,true,true,true],m.rx⟩ (fun k=>absurd k hI))
       | (have hI := zZ hc3;rw[show bB (dP (Cv p t x) (Gn t.normal))=wK p q t x from (Jg hI).symm] at m;exact hn _ _ ⟨m.toMem.sel [false, false, true, true, true, true, true, true, true, true, true, true], m.rx⟩ (fun hi k hk => by
        rcases bi.1 hk with hk | hk
        · exact hJ hi k hk
        · rw[bf.1 hk];exact hc4))
    ·
     simp only[ajM,l3] at m;simp only[zF,zG];refine pB (nS fun K26 k26=>pB (nS fun K27 k27=>cG (aS O ((m.b 6 O).lies1 bF O) ?_)));simp only[zz];refine aC (qM O O) (aC aH ?_);simp only[zz];refine bV O (fun hb=>aY O ((m.b 5 O).lies1 bF O)) (bA O (fun hb=>qM (aX hb O) O) (aC (cC O O O) (aC aO (aM (k27 _ _ ?_)))));try clear k27 K27
     simp only[zz];refine zW O ?_ ?_<;>intro hc3
     ·
      refine xI m 7 aB (by kernel_rfl) ?_;simp only[zy];refine El O (fun u m=>((m.b 3 O).lies1 bF O)) ?_;simp only[zz];refine El O (fun u m=>((m.b 11 O).full aG aA)) ?_;simp only[zz];refine El O (fun u m=>((m.b 10 O).full aG aA)) ?_;simp only[zz];refine El O (fun u m=>((m.b 1 O).full aG aA)) ?_;simp only[zz];refine El O (fun u m=>((m.b 0 O).full aG aA)) ?_;simp only[zz];refine agh O O (uZ (a:=p) (b:=q) (c:=t.cor x) (d:=t.cor ((x+1)%3))) (aI (aJ qO aV O O (by decide) (by decide) O) (bC ?_));intro u m;simp only[zz];refine jM m 4 O O O aV (iK O) ⟨O,O⟩ ?_;intro u m;simp only[zz,zy,zx,over,aa] at m;refine aM (k26 _ _ ?_);try clear k26 K26
      refine cG (aS O ((m.b 3 O).lies1 bF O) ?_);simp only[zz];refine aC (fC (m:=2) (n:=1) (r:=3) O O (by decide)) ?_;simp only[zz];refine jM m 3 O O O aV (iK O) ⟨O,O⟩ ?_;intro u m;simp only[zz,zy,zx,over,aa] at m;refine aM ?_
      first
      | (have hI:=Lu hc3;rw[show bB (((q.sub p).cross ((t.cor x).sub p)).dot ((t.cor ((x+1)%3)).sub p))=wK p q t x from (Jh hI).symm] at m;exact hn _ _ ⟨m.toMem.sel [false,false,true,true,true,true,true,true,true,true,true,true],m.rx⟩ (fun k=>absurd k hI))
      | (have hI := zZ hc3;rw[show bB (dP (Cv p t x) (Gn t.normal))=wK p q t x from (Jg hI).symm] at m;exact hn _ _ ⟨m.toMem.sel [false, false, true, true, true, true, true, true, true, true, true, true], m.rx⟩ (fun hi k hk => by
       rcases bi.1 hk with hk | hk
       · exact hJ hi k hk
       · rw[bf.1 hk];exact hc4))
     ·
      refine nS fun K28 k28=>cG (aS O ((m.b 11 O).full aG aA) ?_);simp only[zz];refine aS O ((m.b 10 O).full aG aA) ?_;simp only[zz];refine aS O ((m.b 1 O).full aG aA) ?_;simp only[zz];refine aS O ((m.b 0 O).full aG aA) ?_;simp only[zz];refine Of m O O (Oi (p:=p) (q:=q) (r:=t.cor x) (s:=t.cor ((x+1)%3))) ?_;intro u m;refine aC aO (aM (k28 _ _ ?_));try clear k28 K28
      simp only[zz];refine zW O ?_ ?_<;>intro hc4
      ·
       refine nS fun K29 k29=>cG (jM m 8 O O O eM (iK O) ⟨O,O⟩ ?_);intro u m;simp only[zz,zy,zx,over,aa] at m;refine aM (k29 _ _ ?_);try clear k29 K29
       refine Oe ?_;exact hr _ _ ⟨m.toMem.sel [false,false,false,false,false,false,false,false,true],m.rx⟩ ⟨zZ hc3,x,by simp,hc4⟩
      ·
       refine xI m 9 aB (by kernel_rfl) ?_;simp only[zy];refine El O (fun u m=>((m.b 3 O).lies1 bF O)) ?_;simp only[zz];refine El O (fun u m=>((m.b 1 O).full aG aA)) ?_;simp only[zz];refine El O (fun u m=>((m.b 0 O).full aG aA)) ?_;simp only[zz];refine El O (fun u m=>((m.b 1 O).full aG aA)) ?_;simp only[zz];refine El O (fun u m=>((m.b 11 O).full aG aA)) ?_;simp only[zz];refine agh O O (rM (a:=t.cor x) (b:=t.cor ((x+1)%3)) (c:=t.cor x) (d:=p)) ?_;simp only[zz];refine El O (fun u m=>((m.b 7 O).lies1 bF O)) ?_;simp only[zz];refine aI ((mC (v:=Cv p t x) (Zr _) O O)) (aI (aJ qO aV O O (by decide) (by decide) O) (bC ?_));intro u m;simp only[zz];refine jM m 4 O O O aV (iK O) ⟨O,O⟩ ?_;intro u m;simp only[zz,zy,zx,over,aa] at m;refine aM (k26 _ _ ?_);try clear k26 K26
       refine cG (aS O ((m.b 3 O).lies1 bF O) ?_);simp only[zz];refine aC (fC (m:=2) (n:=1) (r:=3) O O (by decide)) ?_;simp only[zz];refine jM m 3 O O O aV (iK O) ⟨O,O⟩ ?_;intro u m;simp only[zz,zy,zx,over,aa] at m;refine aM ?_
       first
       | (have hI:=Lu hc3;rw[show bB (((q.sub p).cross ((t.cor x).sub p)).dot ((t.cor ((x+1)%3)).sub p))=wK p q t x from (Jh hI).symm] at m;exact hn _ _ ⟨m.toMem.sel [false,false,true,true,true,true,true,true,true,true,true,true],m.rx⟩ (fun k=>absurd k hI))
       | (have hI := zZ hc3;rw[show bB (dP (Cv p t x) (Gn t.normal))=wK p q t x from (Jg hI).symm] at m;exact hn _ _ ⟨m.toMem.sel [false, false, true, true, true, true, true, true, true, true, true, true], m.rx⟩ (fun hi k hk => by
        rcases bi.1 hk with hk | hk
        · exact hJ hi k hk
        · rw[bf.1 hk];exact hc4))
    · exact absurd hN (by simp)
   rotate_left
   · rintro D pre u hS ⟨hI,k,hk,ho⟩ m
     try simp only[cw,Exit.then]
     refine ab8 (Def.mk (m.get 0 O)) ?_;replace m:=m.putD (o':=.deferred none) 0 O;exact aT O ⟨_,O,(m.b 1 O).lies1 oV O⟩ ⟨_,O,m.ext,by rw[←aq0 hf hI (hS k hk) ho]⟩
   rintro D xs u rfl hj m;simp only[ajM,l3] at m;refine k15 _ _ ?_;try clear k15 K15
   refine bG fun K30 k30=>ao (aS O ((m.b 3 O).full uG jJ) ?_);simp only[zz];refine lD m O O (amv (a:=wK p q t 0) (b:=wK p q t 1) (c:=wK p q t 2)) ?_;intro u m;simp only[zz];refine dB m 7 O O O eM (iK O) ⟨O,O⟩ ?_;intro u m;simp only[zz,zy,zx,over,aa] at m;refine aM (k30 _ _ ?_);try clear k30 K30
   refine jb ?_;try simp only[cw,Exit.then,if_true]
   refine ab8 (Def.mk (m.get 0 O)) ?_;replace m:=m.putD (o':=.deferred none) 0 O;simp only[zF,zG] at m;refine aT O ⟨_,O,((m.b 7 O).lies1 oV O)⟩ ?_;try simp only[zD,zE]
   exact⟨_,O,m.ext,by rw[apv hf hc2 hj]⟩
end Go.Proofs.YtfekpcimgncioaaGreatDoor
namespace Go.Proofs.YtfekpcimgncioaaGreatDoor
open Go.Proofs.Tryz
open Go.RowKit Go.Lith
set_option maxRecDepth 100000
attribute [local irreducible] ar cl fU bS cO Code.wp
attribute [local congr] pD gF gG gH gI gJ kL gK gL gM gN gQ gR gS gT gU gV gW eU eV gX gY iA iB iC kN dF dG cW dD gZ kM eW eX eY iD iE kO
variable{s t:T3}{k g50 g51 N cap:Nat}{x:P3}{ms rs:List T3}
theorem amx(hk:k<3)(h:dL (s.cor k) (s.cor ((k+1)%3)) t=true):true=vD s t:=by
 have e:k=0∨k=1∨k=2:=by omega
 unfold vD;rcases e with rfl | rfl | rfl
 · rw[show dL s.a s.b t=true from h];rfl
 · rw[show dL s.b s.c t=true from h,ph];rfl
 · rw[show dL s.c s.a t=true from h,ph]
theorem ajN(h:∀k∈[0,1,2],dL (s.cor k) (s.cor ((k+1)%3)) t=false):false=vD s t:=by
 unfold vD;rw[show dL s.a s.b t=false from h 0 (by decide),show dL s.b s.c t=false from h 1 (by decide),show dL s.c s.a t=false from h 2 (by decide)];rfl
theorem abD{l:List ai}{ty:az}{x y:bx}(hk:k<3)(hx:ev l x=tr t)(hy:ev l y=.int .i64 (k:Int)):iR prog l (.index 39 x y) ty (pt (t.cor k)):=by
 have h:k=0∨k=1∨k=2:=by omega
 rcases h with rfl | rfl | rfl
 · exact tJ hx hy
 · exact tK hx hy
 · exact tL hx hy
def ajO(t:T3):List P3:=[t.a,t.b,t.c]
theorem ajP(hk:k<3):(ajO t)[k]? = some (t.cor k):=by
 have h:k=0∨k=1∨k=2:=by omega
 rcases h with rfl | rfl | rfl <;> rfl
def sD(s t:T3)(k:Nat):List P3:=((ajO s).take k).filter fun x=>t.has x
def sE(s t:T3)(k:Nat):List P3:=((ajO s).take k).filter fun x=>!t.has x
theorem sF(hk:k<3):sD s t (k+1)=sD s t k++if t.has (s.cor k) then [s.cor k] else []:=by
 unfold sD;rw[cH (ajP hk),gj,gv,m_]
theorem sG(hk:k<3):sE s t (k+1)=sE s t k++if t.has (s.cor k) then [] else [s.cor k]:=by
 unfold sE;rw[cH (ajP hk),gj,gv,m_];cases t.has (s.cor k) <;> rfl
theorem Oj(s t:T3)(k:Nat):(sD s t k).length≤3:=ba (fm _ _) (by rw[bv];exact Nat.min_le_right ..)
theorem Ol(s t:T3)(k:Nat):(sE s t k).length≤3:=ba (fm _ _) (by rw[bv];exact Nat.min_le_right ..)
theorem anu   : ((decide (x.x=t.a.x∧x.y=t.a.y∧x.z=t.a.z)||decide (x.x=t.b.x∧x.y=t.b.y∧x.z=t.b.z))||decide (x.x=t.c.x∧x.y=t.c.y∧x.z=t.c.z))=t.has x:=by
 have e:∀p q:P3,(p.x=q.x∧p.y=q.y∧p.z=q.z)↔p=q:=fun p q=>⟨fun h=>P3.eq h.1 h.2.1 h.2.2,fun h=>by rw[h];exact⟨O,O,O⟩⟩
 rw[ff,fE];simp only[ej,decide_eq_true_eq,e,or_assoc]
theorem Sh(s t:T3):(mR s t).length+(sP s t).length=3:=by
 rw[Qx,Qy];cases t.has s.a <;> cases t.has s.b <;> cases t.has s.c <;> rfl
theorem nd_of(h:fN t=false):t.nd=true:=by
 have hf:jC (dR t.a t.b t.c)<3:=by
  unfold fN at h;rw[decide_eq_false_iff_not,Decidable.not_not] at h;exact h
 have hz:∀p q r:P3,p=q∨q=r∨r=p→dR p q r=⟨0,0,0⟩:=fun p q r hh=>by
  rcases hh with rfl | rfl | rfl <;> (refine P3.eq ?_ ?_ ?_ <;> (simp only[dR,P3.sub,P3.cross];grind))
 have hn:¬(t.a=t.b∨t.b=t.c∨t.c=t.a):=fun hh=>by
  rw[hz _ _ _ hh] at hf;exact absurd hf (by decide)
 rw[Ga];exact⟨fun e=>hn (.inl e),fun e=>hn (.inr (.inl e)),fun e=>hn (.inr (.inr e))⟩
theorem Si{s t:T3}(hs:fN s=false)(ht:fN t=false)(h0:(mR s t).length≠0) :
 (∃x u v y z,mR s t=[x]∧sP s t=[u,v]∧sP t s=[y,z])∨(∃x y u v,mR s t=[x,y]∧sP s t=[u]∧sP t s=[v])∨(mR s t).length=3:=by
 have h1:=Sh s t;have h2:=Sh t s;have h3:=(aa5 (nd_of hs) (nd_of ht)).length_eq;generalize mR s t=L at *
 generalize sP s t=U at *
 generalize sP t s=V at *
 rw[←h3] at h2;rcases L with _ | ⟨x,_ | ⟨y,_ | ⟨z,_ | ⟨z',L⟩⟩⟩⟩
 · exact absurd O h0
 · rcases U with _ | ⟨u,_ | ⟨v,_ | ⟨_,_⟩⟩⟩ <;> simp only[aw,bn] at h1 <;> try omega
   rcases V with _ | ⟨y,_ | ⟨z,_ | ⟨_,_⟩⟩⟩ <;> simp only[aw,bn] at h2 <;> try omega
   exact .inl ⟨x,u,v,y,z,O,O,O⟩
 · rcases U with _ | ⟨u,_ | ⟨_,_⟩⟩ <;> simp only[aw,bn] at h1 <;> try omega
   rcases V with _ | ⟨v,_ | ⟨_,_⟩⟩ <;> simp only[aw,bn] at h2 <;> try omega
   exact .inr (.inl ⟨x,y,u,v,O,O,O⟩)
 · exact .inr (.inr O)
 · simp only[aw] at h1;omega
theorem ajQ{n:Nat}(hn:n=(mR s t).length)(h:(decide ((n:Int)=0)||fN s||fN t)=true):(vD s t||vD t s)=mO s t:=by
 unfold mO;rw[if_pos];rw[ej,ej,decide_eq_true_eq] at h;rcases h with (h | h) | h
 · exact .inl (by omega)
 · exact .inr (.inl h)
 · exact .inr (.inr h)
theorem ajR{n:Nat}(hn:n=(mR s t).length)(h:(decide ((n:Int)=0)||fN s||fN t)=false):((mR s t).length≠0∧fN s=false∧fN t=false)∧mO s t=nO s t (mR s t) (sP s t) (sP t s):=by
 rw[gq,gq,decide_eq_false_iff_not] at h;refine⟨⟨fun e=>h.1.1 (by omega),h.1.2,h.2⟩,?_⟩;unfold mO;rw[if_neg];rintro (k | k | k)
 · exact h.1.1 (by omega)
 · rw[h.1.2] at k;cases k
 · rw[h.2] at k;cases k
theorem ajS[h:IT s](hx:x∈ajO s):I3 x:=by
 simp only[ajO,an,cg,or_false] at hx;rcases hx with rfl | rfl | rfl
 · exact h.a
 · exact h.b
 · exact h.c
theorem Zt[IT s]{L:List P3}{i:Nat}(h:mR s t=L)(hx:L[i]? = some x):I3 x:=ajS (c_.1 (h▸be hx:x∈mR s t)).1
theorem sR[IT s]{L:List P3}{i:Nat}(h:sP s t=L)(hx:L[i]? = some x):I3 x:=ajS (c_.1 (h▸be hx:x∈sP s t)).1
theorem ajT{xa xb ua va:P3}:(decide (bB (((xb.sub xa).cross (ua.sub xa)).dot (va.sub xa))=0)&&decide (bB ((xb.sub xa).cross (ua.sub xa)).x=bB ((xb.sub xa).cross (va.sub xa)).x∧bB ((xb.sub xa).cross (ua.sub xa)).y=bB ((xb.sub xa).cross (va.sub xa)).y∧bB ((xb.sub xa).cross (ua.sub xa)).z=bB ((xb.sub xa).cross (va.sub xa)).z))=nO s t [xa,xb] [ua] [va]:=by
 rw[decide_eq_decide.2 (cI (n:=((xb.sub xa).cross (ua.sub xa)).dot (va.sub xa)))];rfl
theorem ajU(h:(mR s t).length=3):nO s t (mR s t) (sP s t) (sP t s)=true:=by
 generalize mR s t=L at h;rcases L with _ | ⟨x,_ | ⟨y,_ | ⟨z,L⟩⟩⟩ <;> simp only[aw,bn] at h <;> try omega
 rfl
theorem Wm[IT s][IT t]:dS prog 241 [tr s,tr t] (.bool (vD s t)):=by
 intro w;refine⟨bJ func241 (by kernel_rfl),?_⟩;have m:=Mem.refl w;refine (callsIn_wide (n:=4)).1 (callsIn_of_wp_marks func241 O trivial ?_ O);simp only[ntmps241,gi,aw,bn,aa,ke,ia,ib,i_,ip,b_,cj];refine wpIn_wide.2 ?_;refine bG fun K1 k1=>ao (Up m O ?_);intro g1 u m;simp only[zz];refine Up m O ?_;intro g2 u m;simp only[zz];refine mK m oN O ?_;intro g3 u m;refine aM (k1 _ _ ?_);try clear k1 K1
 refine bG fun K2 k2=>bG fun K3 k3=>ao ?_;simp only[zz];refine aS O ((m.b 2 O).full cA aP) ?_;simp only[zz];refine bH O O (aeJ (t:=s) _) ?_;rintro v u e_ ⟨g4,rfl,h_,k_⟩;replace m:=m.newB e_ h_ k_;refine aM (k3 _ _ ?_);try clear k3 K3
 refine jm ?_;simp only[zz];refine abv (v1:=fun x=>pt (s.cor x)) (v2:=fun x=>pt (s.cor ((x+1)%3))) (c1:=fun x=>[.int .i64 (s.cor x).x,.int .i64 (s.cor x).y,.int .i64 (s.cor x).z]) (c2:=fun x=>[.int .i64 (s.cor ((x+1)%3)).x,.int .i64 (s.cor ((x+1)%3)).y,.int .i64 (s.cor ((x+1)%3)).z]) (T1:=30) (T2:=30) (d1:=5) (d2:=6) (csB:=aN s) (tB:=39) O ahs (Na 3 (by omega) g4 0 s _ (m.b 0 O)) (fun _=>[bI g4 (aN s) 39,bI g3 [.bool false] 4,bI g2 [.int .i64 t.a.x,.int .i64 t.a.y,.int .i64 t.a.z,.int .i64 t.b.x,.int .i64 t.b.y,.int .i64 t.b.z,.int .i64 t.c.x,.int .i64 t.c.y,.int .i64 t.c.z] 39,bI g1 [.int .i64 s.a.x,.int .i64 s.a.y,.int .i64 s.a.z,.int .i64 s.b.x,.int .i64 s.b.y,.int .i64 s.b.z,.int .i64 s.c.x,.int .i64 s.c.y,.int .i64 s.c.z] 39]) (fun _=>[bI g3 [.bool true] 4]) (fun pre=>∀k∈pre,dL (s.cor k) (s.cor ((k+1)%3)) t=false) (fun pre=>∃k∈pre,dL (s.cor k) (s.cor ((k+1)%3)) t=true) (fun _ i hi=>by simp only[an,cg,or_false] at hi;rcases hi with rfl | rfl | rfl | rfl <;> exact⟨_,_,_,rfl⟩) (fun _ i hi=>by simp only[an,cg,or_false] at hi;subst hi ;exact⟨_,_,_,rfl⟩) (fun _=>rfl) (fun _=>be (i:=0) rfl) m (fun k hk=>by cases hk) ?_ ?_ ?_ ?_
 ·
  intro r pre x W K m hK;simp only[zF,zG];refine nS fun K4 k4=>cG (Jd m iZ O ?_);intro g5 u m;simp only[zz];refine Cs m 0 O O O aA (iK O) O ?_;intro u m;simp only[zy,zx,over,zF,zG,aa] at m;refine aM (k4 _ _ ?_);try clear k4 K4
  refine cG (Jd m iZ O ?_);intro g6 u m;simp only[zz];refine Cs m 0 O O O aA (iK O) O ?_;intro u m;simp only[zy,zx,over,zF,zG,aa] at m;exact aM (hK _ _ _ m)
 ·
  intro r pre x g5 g6 W Q' _ hJ hN m hn hr
  ·
   simp only[zF,zG];refine pB (nS fun K5 k5=>cG (aS O ((m.b 1 O).full aG aA) ?_));simp only[zz];refine aS O ((m.b 0 O).full aG aA) ?_;simp only[zz];refine aS O ((m.b 4 O).full cA aP) ?_;simp only[zz];refine Of m O O (Zs (p:=s.cor x) (q:=s.cor ((x+1)%3)) (t:=t)) ?_;intro u m;refine aM (k5 _ _ ?_);try clear k5 K5
   simp only[zz];refine zW O ?_ ?_<;>intro hc1
   ·
    refine nS fun K6 k6=>cG (jM m 3 O O O eM (iK O) ⟨O,O⟩ ?_);intro u m;simp only[zz,zy,zx,over,aa] at m;refine aM (k6 _ _ ?_);try clear k6 K6
    refine Oe ?_;exact hr _ _ ⟨m.toMem.sel [false,false,false,true],m.rx⟩ ⟨x,by simp,hc1⟩
   ·
    refine ajy ?_;exact hn _ _ ⟨m.toMem.sel [false,false,true,true,true,true],m.rx⟩ (fun k hk=>by
     rcases bi.1 hk with hk | hk
     · exact hJ k hk
     · rw[bf.1 hk];exact hc1)
 rotate_left
 · rintro D pre u hS ⟨k,hk,ho⟩ m
   try simp only[cw,Exit.then]
   refine ab8 (Def.mk (m.get 0 O)) ?_;replace m:=m.putD (o':=.deferred none) 0 O;exact aT O ⟨_,O,(m.b 1 O).lies1 oV O⟩ ⟨_,O,m.ext,by rw[←amx (hS k hk) ho]⟩
 rintro D xs u rfl hj m;refine k2 _ _ ?_;try clear k2 K2
 refine bG fun K7 k7=>ao (dB m 2 O O O eM (iK O) ⟨O,O⟩ ?_);intro u m;simp only[zz,zy,zx,over,aa] at m;refine aM (k7 _ _ ?_);try clear k7 K7
 refine jb ?_;try simp only[cw,Exit.then,if_true]
 refine ab8 (Def.mk (m.get 0 O)) ?_;replace m:=m.putD (o':=.deferred none) 0 O;simp only[zF,zG] at m;refine aT O ⟨_,O,((m.b 2 O).lies1 oV O)⟩ ?_;try simp only[zD,zE]
 exact⟨_,O,m.ext,by rw[←ajN hj]⟩
theorem abE(w:aj):dA prog 240 [tr s,tr t] w (fun v w'=>∃A4 n4 c4 A5 n5 c5,v=.tuple #[.slice A4 n4 c4,.slice A5 n5 c5]∧n4=(mR s t).length∧n5=(sP s t).length∧Mem w w' [oI 30 3 A5 n5 c5 ((sP s t).flatMap lB),oI 30 3 A4 n4 c4 ((mR s t).flatMap lB)]):=by
 refine⟨bJ func240 (by kernel_rfl),?_⟩;have m:=Mem.refl w
 go_enter func240,ntmps240
 apply iY 4 [0] m;simp only[↓aD];intro g1 g2 u m;refine aC aO ?_;replace m:=m.nilO 30 3;refine aC aO ?_;replace m:=m.nilO 30 3;apply aL 8 [3,0] m;simp only[↓aD,eA];refine bX [4,5,9] [7,10,11,12,13,14,15,16,17,18,19,20,21,22,23,24,25,26,27,28,29,30,31,32,33,34,35,36] (fun n vs wl=>∃(k:Nat) (A4 A5:Option Addr) (cap4 cap5:Nat),vs=[.slice A4 (sD s t k).length cap4,.slice A5 (sE s t k).length cap5,.int .i64 (k:Int)]∧Mem w wl [oI 30 3 A5 (sE s t k).length cap5 ((sE s t k).flatMap lB),oI 30 3 A4 (sD s t k).length cap4 ((sD s t k).flatMap lB),bI g2 [.int .i64 t.a.x,.int .i64 t.a.y,.int .i64 t.a.z,.int .i64 t.b.x,.int .i64 t.b.y,.int .i64 t.b.z,.int .i64 t.c.x,.int .i64 t.c.y,.int .i64 t.c.z] 39]∧(k≤3)∧(n=3-k)) ?_ ?_
 ·
  exact⟨_,0,_,_,_,_,O,(m.sel [true,true,true,false]),by omega,O⟩
 · intro n vs wr hI u K1 hK1
   obtain⟨k,A4,A5,cap4,cap5,rfl,m,hk,hn⟩:=hI;simp only[zu,zF,zG];apply aK 5 [0,0] m;simp only[↓aD];refine bD O ?_ ?_<;>intro hc1
   ·
    have hk3:k<3:=by omega
    apply aK 5 [0] m;simp only[↓aD];refine aC ((abD (t:=s) hk3 O O)) ?_;apply jS 8 [0,0,3,0] m;simp only[↓aD,eS,aQ,bR,aa,ad,ag];intro g3;refine⟨by omega,?_⟩;intro u m;refine aC (cB O O) ?_;apply aL 1 [0] m;simp only[↓aD];refine bV O (fun hb=>aY O ((m.b 0 O).full aG aA)) (bA O (fun hb=>aJ cF aA O O (by decide) (by decide) O) ?_);simp only[zz];refine bV O (fun hb=>aY (aX hb O) ((m.b 3 O).lies aG aA O O)) ?_;simp only[zz,zy,aq,aa,ag,ad];refine bA O (fun hb=>cB (aX hb O) (aX hb O)) (aC (cC O O O) ?_);apply aL 1 [0] m;simp only[↓aD];refine bV O (fun hb=>aY O ((m.b 0 O).full aG aA)) (bA O (fun hb=>aJ cF aA O O (by decide) (by decide) O) ?_);simp only[zz];refine bV O (fun hb=>aY (aX hb O) ((m.b 3 O).lies aG aA O O)) ?_;simp only[zz,zy,aq,aa,ag,ad];refine bA O (fun hb=>cB (aX hb O) (aX hb O)) (aC (cC O O O) ?_);apply aL 1 [0] m;simp only[↓aD];refine gE O ?_ ?_<;>intro hc2
    ·
     rw[anu] at hc2;apply aK 3 [0,0] m;simp only[↓aD,aQ];refine kW O ?_;intro u g4 e_ h_ k_;replace m:=m.newB e_ h_ k_;simp only[zz];refine bM m 3 O O cN mX O (by decide) O O O (m.b 0 O).rowsO (fV O) (by have:=Oj s t k;omega) (by have:=Oj s t k;omega) ?_;intro A4 cap4 u m;simp only[zF,zG] at m;rw[show (sD s t k).flatMap lB++_=(sD s t (k+1)).flatMap lB by rw[sF hk3,hc2,a_];rfl,show (sD s t k).length+1=(sD s t (k+1)).length by rw[sF hk3,hc2,au];rfl] at m;rw[show (sD s t k).length+1=(sD s t (k+1)).length by rw[sF hk3,hc2,au];rfl];apply aL 7 [0] m;simp only[↓aD];refine⟨by omega,?_⟩;have he:sE s t (k+1)=sE s t k:=by rw[sG hk3,hc2,if_pos rfl,fe]
     rw[←he] at m ⊢;exact hK1 (3-(k+1)) _ _ (by omega) (by kernel_rfl) ⟨k+1,_,_,_,_,O,(m.sel [false,false,true,true,true]),by omega,O⟩
    ·
     rw[anu] at hc2;apply aK 3 [0,0] m;simp only[↓aD,aQ];refine kW O ?_;intro u g4 e_ h_ k_;replace m:=m.newB e_ h_ k_;simp only[zz];refine bM m 2 O O cN mX O (by decide) O O O (m.b 0 O).rowsO (fV O) (by have:=Ol s t k;omega) (by have:=Ol s t k;omega) ?_;intro A5 cap5 u m;simp only[zF,zG] at m;rw[show (sE s t k).flatMap lB++_=(sE s t (k+1)).flatMap lB by rw[sG hk3,hc2,a_];rfl,show (sE s t k).length+1=(sE s t (k+1)).length by rw[sG hk3,hc2,au];rfl] at m;rw[show (sE s t k).length+1=(sE s t (k+1)).length by rw[sG hk3,hc2,au];rfl];apply aL 7 [0] m;simp only[↓aD];refine⟨by omega,?_⟩;have he:sD s t (k+1)=sD s t k:=by rw[sF hk3,hc2,if_neg Bool.false_ne_true,fe]
     rw[←he] at m ⊢;exact hK1 (3-(k+1)) _ _ (by omega) (by kernel_rfl) ⟨k+1,_,_,_,_,O,(m.sel [false,false,true,true,true]),by omega,O⟩
   ·
    obtain rfl:k=3:=by omega
    apply aK 9 [] m;simp only[↓aD];exact uA O O O ⟨_,O,m.ext,_,_,_,_,_,_,O,O,O,m.sel [true,true,false]⟩
theorem apw[IT s][IT t]:dS prog 176 [tr s,tr t] (.bool (mO s t)):=by
 intro w;refine⟨bJ func176 (by kernel_rfl),?_⟩;have m:=Mem.refl w
 go_enter func176,ntmps176
 apply iY 9 [1] m;simp only[↓aD,eA];intro g1 g2 u m;apply aU 1 [0,0] m;simp only[↓aD,eA];refine bH O O (abE (s:=s) (t:=t) _) ?_;rintro v u e_ ⟨A5,n5,c5,A6,n6,c6,rfl,hn5,hn6,hM⟩;replace m:=m.plus hM;clear hM;simp only[cj,b_] at m;apply aL 10 [2,3,0] m;simp only[↓aD,eA];refine bH O O (abE (s:=t) (t:=s) _) ?_;rintro v u e_ ⟨A7,n7,c7,A8,n8,c8,rfl,hn7,hn8,hM⟩;replace m:=m.plus hM;clear hM;simp only[cj,b_] at m;apply aL 13 [0,0] m;simp only[↓aD,kC];refine bV O (fun hb=>aY O ((m.b 5 O).full cA aP)) (xZ m O O (fun hb=>by simp only[dj,bh,cq,zA,zB,zC,zD,zE,hb,jI];rfl) (fun hb=>Zk (t:=s)) ?_);intro u m;refine aC (cC O O O) ?_;apply aL 1 [0] m;simp only[↓aD];refine bV O (fun hb=>aY O ((m.b 4 O).full cA aP)) (xZ m O O (fun hb=>by simp only[dj,bh,cq,zA,zB,zC,zD,zE,hb,jI];rfl) (fun hb=>Zk (t:=t)) ?_);intro u m;refine aC (cC O O O) ?_;apply aL 1 [0] m;simp only[↓aD];refine gE O ?_ ?_<;>intro hc1
 ·
  rw[Gl,Gl] at hc1;apply aK 4 [5,4,0] m;simp only[↓aD,eA];refine nF m O O (Wm (s:=s) (t:=t)) 1 [0] ?_;simp only[↓aD];intro u m;refine bV O (fun hb=>aY O ((m.b 4 O).full cA aP)) (bV O (fun hb=>aY O ((m.b 5 O).full cA aP)) (xZ m O O (fun hb=>by simp only[dj,bh,cq,zA,zB,zC,zD,zE,hb,jI];rfl) (fun hb=>Wm (s:=t) (t:=s)) ?_));intro u m;refine aC (cC O O O) ?_;apply aL 3 [] m;simp only[↓aD];refine aT O O ?_;try simp only[zD,zE]
  exact⟨_,O,m.ext,by rw[ajQ hn5 hc1]⟩
 ·
  rw[Gl,Gl] at hc1;obtain⟨⟨hz,hf1,hf2⟩,hme⟩:=ajR hn5 hc1;apply aK 3 [] m;simp only[↓aD];rcases Si hf1 hf2 hz with ⟨xa,ua,ub,va,vb,h1,h2,h3⟩ | ⟨xa,xb,ua,va,h1,h2,h3⟩ | h1
  ·
   rw[h1] at hn5;rw[h2] at hn6;rw[h3] at hn8;have i1:I3 ua:=sR (i:=0) h2 rfl;have i2:I3 ub:=sR (i:=1) h2 rfl;have i3:I3 va:=sR (i:=0) h3 rfl;have i4:I3 vb:=sR (i:=1) h3 rfl;simp only[aw,bn] at hn5 hn6 hn8;subst hn5;subst hn6;subst hn8;rw[h1,h2,h3] at m;obtain⟨g5,rfl⟩:=(m.o 3 rfl).some (by decide);obtain⟨g6,rfl⟩:=(m.o 2 rfl).some (by decide);obtain⟨g8,rfl⟩:=(m.o 0 rfl).some (by decide);apply aU 12 [1,0] m;simp only[↓aD,kC];refine⟨by omega,?_⟩;refine mq m aB (by kernel_rfl) (aI aH ?_);simp only[zz];refine aI (aF cN aA O O (by decide) (by omega) O) ?_;simp only[zz];refine ql O (fun u m=>(((m.o 2 O).at (enc:=lB) (i:=0) yC O).lies aG aA)) ?_;simp only[zz];refine aI aH ?_;simp only[zz];refine aI (aF cN aA O O (by decide) (by omega) O) ?_;simp only[zz];refine ql O (fun u m=>(((m.o 2 O).at (enc:=lB) (i:=1) yC O).lies aG aA)) ?_;simp only[zz];refine ql O (fun u m=>((m.b 4 O).full cA aP)) ?_;simp only[zz];refine fD O O (Zs (p:=ua) (q:=ub) (t:=t)) (aI aH (iO O (fun hb=>aH) ?_));simp only[zz];refine iO O (fun hb=>aF cN aA (aX hb O) O (by decide) (by omega) O) ?_;simp only[zz];refine pU O (fun hb u m=>aY (aX hb O) (((m.o 0 O).at (enc:=lB) (i:=0) yC O).lies aG aA)) (iO O (fun hb=>aH) ?_);simp only[zz];refine iO O (fun hb=>aF cN aA (aX hb O) O (by decide) (by omega) O) ?_;simp only[zz];refine pU O (fun hb u m=>aY (aX hb O) (((m.o 0 O).at (enc:=lB) (i:=1) yC O).lies aG aA)) (pU O (fun hb u m=>aY O ((m.b 5 O).full cA aP)) (ad0 O O (fun hb=>by simp only[dj,bh,cq,zA,zB,zC,zD,zE,hb,jI];rfl) (fun hb=>Zs (p:=va) (q:=vb) (t:=s)) (aI (cC rfl rfl rfl) (aI aO (bC ?_)))));intro u m;apply aU 1 [] m;simp only[↓aD];refine aT O O ?_;try simp only[zD,zE]
   exact⟨_,O,m.ext,by rw[hme,h1,h2,h3];rfl⟩
  ·
   rw[h1] at hn5;rw[h2] at hn6;rw[h3] at hn8;have i1:I3 xa:=Zt (i:=0) h1 rfl;have i2:I3 xb:=Zt (i:=1) h1 rfl;have i3:I3 ua:=sR (i:=0) h2 rfl;have i4:I3 va:=sR (i:=0) h3 rfl;simp only[aw,bn] at hn5 hn6 hn8;subst hn5;subst hn6;subst hn8;rw[h1,h2,h3] at m;obtain⟨g5,rfl⟩:=(m.o 3 rfl).some (by decide);obtain⟨g6,rfl⟩:=(m.o 2 rfl).some (by decide);obtain⟨g8,rfl⟩:=(m.o 0 rfl).some (by decide);apply aU 18 [2,1,0] m;simp only[↓aD,kC];refine⟨by omega,?_⟩;apply aqh m (T1:=30) (T2:=30)
   · skip
     refine Uq m [true,true,true,true,true,true] (.take 0 (.take 1 (.take 2 (.take 3 (.take 4 (.take 5 (.two 6 (.one 7 (.one 8 (.one 9 .nil))) 7 (.one 6 (.one 8 (.one 9 .nil)))))))))) aB (by kernel_rfl) (fun _ _ _ _ _ h=>by cases h.1) ?_;intro u m;refine eP (by simp only[zw];rfl) (aZ aH (bY (eP (by simp only[zw];rfl) ?_)));simp only[zz];refine aZ (aF cN aA O O (by decide) (by omega) O) (bY (eP (by simp only[zw];rfl) ?_));simp only[zz];refine eE O (fun u m=>(((m.o 3 O).at (enc:=lB) (i:=0) yC O).lies aG aA)) ?_;simp only[zz];refine bY (eP (by simp only[zw];rfl) (aZ aH (bY (eP (by simp only[zw];rfl) ?_))));simp only[zz];refine aZ (aF cN aA O O (by decide) (by omega) O) (bY (eP (by simp only[zw];rfl) ?_));simp only[zz];refine eE O (fun u m=>(((m.o 3 O).at (enc:=lB) (i:=1) yC O).lies aG aA)) ?_;simp only[zz];refine bY ?_;refine aav (by simp only[zw];rfl) (by simp only[zw];rfl) ?_ ?_
     ·
      refine mK m iZ O ?_;intro g3 u m;refine aM ⟨m.sel [false,true,true,true,true,true,true],?_⟩;refine nN (by simp only[zw];rfl) ?_;simp only[zz];refine mK m iZ O ?_;intro g4 u m;refine aM ⟨m.sel [false,false,true,true,true,true,true,true],?_⟩;refine nN (by simp only[zw];rfl) ?_;simp only[zz];refine bN m 1 O O O aA (iK O) O ?_;intro u m;simp only[zy,zx,over,zF,zG,aa] at m;refine aM ⟨m.sel [false,false,true,true,true,true,true,true],?_⟩;refine nN (by simp only[zw];rfl) ?_;refine bN m 0 O O O aA (iK O) O ?_;intro u m;simp only[zy,zx,over,zF,zG,aa] at m;refine aM ⟨m.sel [false,false,true,true,true,true,true,true],?_⟩;exact Es ⟨O,g3,g4,O,m⟩
     ·
      refine mK m iZ O ?_;intro g3 u m;refine aM ⟨m.sel [false,true,true,true,true,true,true],?_⟩;refine nN (by simp only[zw];rfl) ?_;simp only[zz];refine mK m iZ O ?_;intro g4 u m;refine aM ⟨m.sel [false,false,true,true,true,true,true,true],?_⟩;refine nN (by simp only[zw];rfl) ?_;simp only[zz];refine bN m 0 O O O aA (iK O) O ?_;intro u m;simp only[zy,zx,over,zF,zG,aa] at m;refine aM ⟨m.sel [false,false,true,true,true,true,true,true],?_⟩;refine nN (by simp only[zw];rfl) ?_;refine bN m 1 O O O aA (iK O) O ?_;intro u m;simp only[zy,zx,over,zF,zG,aa] at m;refine aM ⟨m.sel [false,false,true,true,true,true,true,true],?_⟩;exact Es ⟨O,g4,g3,O,m.s01⟩
   intro g3 g4 u m;try dsimp only
   apply aU 1 [0] m;simp only[↓aD];refine mq m aB (by kernel_rfl) (dZ 3 [1,0] ?_);simp only[↓aD,aQ];refine aI (aF cN aA O O (by decide) (by omega) O) ?_;simp only[zz];refine ql O (fun u m=>(((m.o 4 O).at (enc:=lB) (i:=0) yC O).lies aG aA)) ?_;simp only[zz];refine aI aH ?_;simp only[zz];refine aI (aF cN aA O O (by decide) (by omega) O) ?_;simp only[zz];refine ql O (fun u m=>(((m.o 2 O).at (enc:=lB) (i:=0) yC O).lies aG aA)) ?_;simp only[zz];refine fD O O (uZ (a:=xa) (b:=xb) (c:=ua) (d:=va)) (aI (rP O O) (aI aH ?_));simp only[zz];refine eF O (fun hb u m=>aY O ((m.b 1 O).full aG aA)) (eF O (fun hb u m=>aY O ((m.b 0 O).full aG aA)) (eF O (fun hb u m=>aY O ((m.b 1 O).full aG aA)) (cT O (fun hb=>aH) ?_)));simp only[zz];refine cT O (fun hb=>aF cN aA (aX hb O) O (by decide) (by omega) O) ?_;simp only[zz];refine eF O (fun hb u m=>aY (aX hb O) (((m.o 4 O).at (enc:=lB) (i:=0) yC O).lies aG aA)) (Hk O O (fun hb=>by simp only[dj,bh,cq,zA,zB,zC,zD,zE,hb,jI];rfl) (fun hb=>rM (a:=xa) (b:=xb) (c:=xa) (d:=ua)) ?_);simp only[zz];refine eF O (fun hb u m=>aY O ((m.b 1 O).full aG aA)) (eF O (fun hb u m=>aY O ((m.b 0 O).full aG aA)) (eF O (fun hb u m=>aY O ((m.b 1 O).full aG aA)) (cT O (fun hb=>aH) ?_)));simp only[zz];refine cT O (fun hb=>aF cN aA (aX hb O) O (by decide) (by omega) O) ?_;simp only[zz];refine eF O (fun hb u m=>aY (aX hb O) (((m.o 2 O).at (enc:=lB) (i:=0) yC O).lies aG aA)) (Hk O O (fun hb=>by simp only[dj,bh,cq,zA,zB,zC,zD,zE,hb,jI];rfl) (fun hb=>rM (a:=xa) (b:=xb) (c:=xa) (d:=va)) (cT rfl (fun hb=>Dn (aX hb rfl) (aX hb rfl)) (aI (bW rfl rfl rfl) (aI aO ?_))));simp only[zz];refine bC ?_;intro u m;apply aU 1 [] m;simp only[↓aD];refine aT O O ?_;try simp only[zD,zE]
   exact⟨_,O,m.ext,by rw[hme,h1,h2,h3];exact congrArg bj ajT⟩
  ·
   rw[h1] at hn5;subst hn5;apply aU 24 [2,2] m;simp only[↓aD,kC];refine⟨by omega,?_⟩;refine aT O O ?_;try simp only[zD,zE]
   exact⟨_,O,m.ext,by rw[hme,ajU h1]⟩
theorem ajV{r:T3}[IT t][IT r](w:aj)(hB50:fR w g50 [.int .i64 (Ds t 0),.int .i64 (Ds t 1),.int .i64 (Ds t 2),.int .i64 (Dt t 0),.int .i64 (Dt t 1),.int .i64 (Dt t 2)] 222)(hB51:fR w g51 (aN t) 39):dA prog 174 [tr r,.pointer (some ⟨g50,0,none⟩),.pointer (some ⟨g51,0,none⟩)] w (fun v _=>v=.bool (sW t r)):=by
 refine⟨bJ func174 (by kernel_rfl),?_⟩;have m:=Mem.refl w
 go_enter func174,ntmps174
 apply iY 6 [0] m;simp only[↓aD];intro g1 u m;refine mq m aB (by kernel_rfl) (ql O (fun u m=>((hB50.ext m.ext).full ad6 Uv)) ?_);simp only[zz];refine ql O (fun u m=>((m.b 0 O).full cA aP)) ?_;simp only[zz];refine fD O O (abq (t:=r)) ?_;simp only[zz];refine fD O O (apo (t:=t) (r:=r)) (aI aH ?_);simp only[zz];refine eF O (fun hb u m=>aY O ((m.b 0 O).full cA aP)) (eF O (fun hb u m=>aY O ((hB51.ext m.ext).full cA aP)) (Hk O O (fun hb=>by simp only[dj,bh,cq,zA,zB,zC,zD,zE,hb,jI];rfl) (fun hb=>apw (s:=r) (t:=t)) (aI (bW rfl rfl rfl) (aI aO (bC ?_)))));intro u m;apply aU 1 [] m;simp only[↓aD];exact aT O O ⟨_,O,m.ext,O⟩
theorem ajW{ts:List T3}{A:Option Addr}[IT t](w:aj)(hB50:fR w g50 [.int .i64 (Ds t 0),.int .i64 (Ds t 1),.int .i64 (Ds t 2),.int .i64 (Dt t 0),.int .i64 (Dt t 1),.int .i64 (Dt t 2)] 222)(hB51:fR w g51 (aN t) 39)(hT:bU w A N ts)(hN:N≤10000000):dA prog 244 [.slice A N cap,.func (.func 174) #[] #[.pointer (some ⟨g50,0,none⟩),.pointer (some ⟨g51,0,none⟩)]] w (fun v _=>∃k:Int,v=.int .i64 k∧decide (0≤k)=ts.any (sW t)):=by
 refine⟨bJ func244 (by kernel_rfl),?_⟩;have m:=Mem.refl w;have htl:=hT.len
 go_enter func244,ntmps244
 apply fI 12 [0] m;simp only[↓aD,iM];refine bX [8] [4,5,9,10,11,12,13,14,15,16,17,18] (fun n vs wl=>∃(k:Nat),vs=[.int .i64 (k:Int)]∧Mem w wl []∧(∀(j:Nat) (r:T3),j<k→ts[j]? = some r→sW t r=false)∧(k≤N)∧(n=N-k)) ?_ ?_
 ·
  exact⟨_,0,O,m,(fun j r h=>by omega),bw _,O⟩
 · intro n vs wr hI u K1 hK1
   obtain⟨k,rfl,m,hq0,hk,hn⟩:=hI;simp only[zu,zF,zG];apply aK 5 [0,0] m;simp only[↓aD];refine bD O ?_ ?_<;>intro hc1
   ·
    obtain⟨r,hr,hri,a,rfl,hrow⟩:=hT.get (i:=k) (by omega);apply aK 13 [0] m;simp only[↓aD];refine aC (aF cD aP O O (by omega) (by omega) (bZ (ah _))) ?_;simp only[zz];refine aS O ((hrow.ext m.ext).lies cA aP) ?_;simp only[zz];refine cQ m O O (ajV (t:=t) (r:=r) _ (hB50.ext m.ext) (hB51.ext m.ext)) ?_;rintro v u m rfl;apply aL 1 [0] m;simp only[↓aD];refine cR O ?_ ?_<;>intro hc2
    ·
     apply aK 6 [] m;simp only[↓aD];exact aT O O ⟨_,O,m.ext,k,O,by rw[decide_eq_true (by omega:(0:Int)≤k)];exact (el.2 ⟨r,be hr,hc2⟩).symm⟩
    ·
     apply aK 6 [0] m;simp only[↓aD];refine⟨by omega,?_⟩;exact hK1 (N-(k+1)) _ _ (by omega) (by kernel_rfl) ⟨k+1, rfl, m, (fun j r2 hj h1 => by
      rcases dq j k with h | h
      · exact hq0 j r2 h h1
      · obtain rfl:j=k:=by omega
        rw[hr] at h1;cases h1;exact hc2),by omega,O⟩
   ·
    obtain rfl:k=N:=by omega
    apply aK 6 [] m;simp only[↓aD];exact aT rfl rfl ⟨_,rfl,m.ext,-1,rfl,(by rw[show ts.any (sW t)=false from List.any_eq_false.2 fun r hr=>by obtain⟨j,hj⟩:=dh.1 hr;rw[hq0 j r (by have:=(ap.1 hj).1;omega) hj];decide];rfl)⟩
theorem Cw{ts:List T3}{A:Option Addr}[IT t](w:aj)(hB50:fR w g50 [.int .i64 (Ds t 0),.int .i64 (Ds t 1),.int .i64 (Ds t 2),.int .i64 (Dt t 0),.int .i64 (Dt t 1),.int .i64 (Dt t 2)] 222)(hB51:fR w g51 (aN t) 39)(hT:bU w A N ts)(hN:N≤10000000):dA prog 177 [.slice A N cap,.func (.func 174) #[] #[.pointer (some ⟨g50,0,none⟩),.pointer (some ⟨g51,0,none⟩)]] w (fun v _=>v=.bool (ts.any (sW t))):=by
 refine⟨bJ func177 (by kernel_rfl),?_⟩;have m:=Mem.refl w
 go_enter func177,ntmps177
 apply fI 8 [0] m;simp only[↓aD];refine cQ m O O (ajW (t:=t) _ (hB50.ext m.ext) (hB51.ext m.ext) (hT.ext m.ext) hN) ?_;rintro v u m ⟨kk,rfl,hkk⟩;apply aL 4 [0] m;simp only[↓aD];refine aT O O ?_;try simp only[zD,zE]
 exact⟨_,O,m.ext,by rw[←hkk]⟩
def Ud(ms rs:List T3)(t:T3)(k:Nat):Bool:=!rs.any (sW t) && !(ms.take k).any (sW t)
def agj(ms rs:List T3):Bool:=ms.zipIdx.all fun x=>Ud ms rs x.1 x.2
theorem aeN(ht:ms[k]? = some t)(h:Ud ms rs t k=false):agj ms rs=false:=by
 unfold agj;rw[List.all_eq_false];exact⟨(t,k),List.mk_mem_zipIdx_iff_getElem?.2 ht,by rw[h];decide⟩
theorem ajX(h:∀(k:Nat) (t:T3),ms[k]? = some t→Ud ms rs t k=true):agj ms rs=true:=by
 unfold agj;rw[ep];rintro⟨t,k⟩ hx;exact h k t (List.mk_mem_zipIdx_iff_getElem?.1 hx)
theorem apx(h:rs.any (sW t)=true):Ud ms rs t k=false:=by unfold Ud;rw[h];rfl
theorem apy(h:(ms.take k).any (sW t)=true):Ud ms rs t k=false:=by unfold Ud;rw[h,Bool.not_true,iv]
theorem apz(h1:rs.any (sW t)=false)(h2:(ms.take k).any (sW t)=false):Ud ms rs t k=true:=by unfold Ud;rw[h1,h2];rfl
theorem ajY{g90 g91 ga gf gx gy cx cy cf nm cm no co nr cr:Nat}{A Am Ao Ar:Option Addr}{ex ey ef:Array ck}{X Y F:List (P3 × Bool)}{ts:List T3}{p q:P3}(w:aj)(hB91:fR w g91 [.pointer (some ⟨g90,0,none⟩),.int .i64 p.x,.int .i64 p.y,.int .i64 p.z,.int .i64 q.x,.int .i64 q.y,.int .i64 q.z,.map (some gx),.map (some gy),.slice Am nm cm,.slice Ao no co,.slice Ar nr cr] 218)(hB90:fR w g90 [.slice A N cap,.map (some ga),.map (some gf)] 109)(hTm:bU w Am nm ms)(hTr:bU w Ar nr rs)(hcm:nm≤cm)(hN:nm+nr≤10000000):dA prog 105 [.pointer (some ⟨g91,0,none⟩)] w (fun v _=>v=.bool (agj ms rs)):=by
 refine⟨bJ func105 (by kernel_rfl),?_⟩;have m:=Mem.refl w;have htm:=hTm.len
 go_enter func105,ntmps105
 apply fI 10 [0] m;simp only[↓aD,Io,aa];refine aS O ((hB91.ext m.ext).lies1 sL O) ?_;simp only[zz];apply aL 4 [0] m;simp only[↓aD,iM];refine bX [12] [2,3,4,5,6,13,14,15,16,17,18,19,20,21,22,23,24,25,26,27,28,29,30,31,32,33,34,35,36] (fun n vs wl=>∃(k:Nat),vs=[.int .i64 (k:Int)]∧Mem w wl []∧(∀(j:Nat) (t:T3),j<k→ms[j]? = some t→Ud ms rs t j=true)∧(k≤nm)∧(n=nm-k)) ?_ ?_
 ·
  exact⟨_,0,O,m,(fun j t h=>by omega),bw _,O⟩
 · intro n vs wr hI u K1 hK1
   obtain⟨k,rfl,m,hu0,hk,hn⟩:=hI;simp only[zu,zF,zG];apply aK 5 [0,0] m;simp only[↓aD];refine bD O ?_ ?_<;>intro hc1
   ·
    obtain⟨t,ht,hti,a,rfl,hrow⟩:=hTm.get (i:=k) (by omega);apply aK 6 [0] m;simp only[↓aD];refine aC (aF cD aP O O (by omega) (by omega) (bZ (ah _))) ?_;simp only[zz];refine aS O ((hrow.ext m.ext).lies cA aP) ?_;simp only[zz];apply jS 7 [0,0,0] m;simp only[↓aD,lM,eA,aa];intro g1 u m;refine nF m O O (abq (t:=t)) 5 [0,0] ?_;simp only[↓aD,ac1,ac0,aa];intro g2 u m;refine aC fX ?_;simp only[zz,f_,bh,cq];apply aL 3 [] m;simp only[↓aD];rcases Bool.eq_false_or_eq_true (rs.any (sW t)) with hq | hq
    ·
     apply aU 4 [0] m;simp only[↓aD,Rm,aa];refine aS O ((hB91.ext m.ext).lies1 sL O) ?_;simp only[zz];apply aL 1 [0] m;simp only[↓aD];refine cQ m O O (Cw (ts:=rs) (t:=t) _ (m.b 0 O) (m.b 1 O) (hTr.ext m.ext) (by omega)) ?_;rintro v u m rfl;simp only[zz];rw[hq];apply aL 17 [] m;simp only[↓aD];refine aT O O ?_;try simp only[zD,zE]
     exact⟨_,O,m.ext,by rw[aeN ht (apx hq)]⟩
    ·
     apply aU 4 [0] m;simp only[↓aD,Rm,aa];refine aS O ((hB91.ext m.ext).lies1 sL O) ?_;simp only[zz];apply aL 1 [0] m;simp only[↓aD];refine cQ m O O (Cw (ts:=rs) (t:=t) _ (m.b 0 O) (m.b 1 O) (hTr.ext m.ext) (by omega)) ?_;rintro v u m rfl;simp only[zz];rw[hq];apply aL 4 [0] m;simp only[↓aD,Io,aa];refine eB O (aS O ((hB91.ext m.ext).lies1 sL O) ?_);simp only[zz];apply aL 1 [0] m;simp only[↓aD];refine eB O (aC (nG cD aP O O (ah _) (by omega) (by omega)) ?_);apply aL 1 [0] m;simp only[↓aD];refine eB O (cQ m O O (Cw (ts:=ms.take k) (t:=t) _ (m.b 0 O) (m.b 1 O) ((hTm.take (k:=k) (by omega)).ext m.ext) (by omega)) ?_);rintro v u m rfl;apply aL 2 [0] m;simp only[↓aD];refine cR O ?_ ?_<;>intro hc2
     ·
      apply aK 5 [] m;simp only[↓aD];refine aT O O ?_;try simp only[zD,zE]
      exact⟨_,O,m.ext,by rw[aeN ht (apy hc2)]⟩
     ·
      apply aK 6 [0] m;simp only[↓aD];refine⟨by omega,?_⟩;exact hK1 (nm-(k+1)) _ _ (by omega) (by kernel_rfl) ⟨k+1, rfl, (m.sel [false, false]), (fun j t2 hj h1 => by
       rcases dq j k with h | h
       · exact hu0 j t2 h h1
       · obtain rfl:j=k:=by omega
         rw[ht] at h1;cases h1;exact apz hq hc2),by omega,O⟩
   ·
    apply aK 6 [] m;simp only[↓aD];refine aT O O ?_;try simp only[zD,zE]
    exact⟨_,O,m.ext,by rw[ajX fun j t h1=>hu0 j t (by have:=(ap.1 h1).1;omega) h1]⟩
end Go.Proofs.YtfekpcimgncioaaGreatDoor
namespace Go.Lith
open Go.RowKit
section
variable {P:bp} {ops:Array Oper} {Q:Exit→Act→aj→Prop} {md:Region.Mode} {S:aj→Prop} {tl:List Nat}
def Gr(P:bp)(md:Region.Mode)(ops:Array Oper)(Q:Exit→Act→aj→Prop)(S:aj→Prop)(tl:List Nat):Nat→Array Bool→Act→aj→Prop
 | 0,listed,a,w=>Region.ready md ops listed=[]∧Q .normal a w
 | fuel+1,listed,a,w =>
  (Region.ready md ops listed=[]→Q .normal a w) ∧
  ∀i∈Region.ready md ops listed,wpOp P ops Q i (fun a' w'=>(i∉tl→S w→S w')∧Gr P md ops Q S tl fuel (listed.setIfInBounds i true) a' w') a w
theorem Sj:∀(fuel:Nat) (listed:Array Bool) (a:Act) (w:aj),Gr P md ops Q S tl fuel listed a w→wpAny P md ops Q fuel listed a w
 | 0,_,_,_,h=>h
 | fuel+1,_,_,_,h=>⟨h.1,fun i hi=>wpOp_mono (fun a' w' h'=>Sj fuel _ a' w' h'.2) (h.2 i hi)⟩
def adq(md:Region.Mode)(ops:Array Oper)(listed:Array Bool):Prop:=∀j oj,ops[j]? = some oj→listed.getD j false=true→∀e∈oj.after,Region.binds md e=true→listed.getD e.on false=true
def Sk(md:Region.Mode)(ops:Array Oper):Nat→Nat→Nat→Bool
 | 0,_,_=>false
 | f+1,j,i=>match ops[j]? with
  | none=>false
  | some o=>o.after.any fun e=>Region.binds md e&&(e.on == i||Sk md ops f e.on i)
theorem Ji{listed:Array Bool}(D:adq md ops listed){i:Nat}:∀(f j:Nat),(∀oj,ops[j]? = some oj→∀e∈oj.after,Region.binds md e=true→listed.getD e.on false=true)→Sk md ops f j i=true→listed.getD i false=true
 | 0,_,_,h=>by cases h
 | f+1,j,hj,h=>by
  unfold Sk at h;split at h
  · cases h
  · rename_i o ho
    rw[Array.any_eq_true] at h;obtain⟨k,hk,hh⟩:=h;rw[bg,ej,beq_iff_eq] at hh;have hl:=hj o ho _ (Array.getElem_mem hk) hh.1;rcases hh.2 with e | hn
    · rw[←e];exact hl
    · exact Ji D f _ (fun oj hoj e he hb=>D _ oj hoj hl e he hb) hn
theorem adq.set{listed:Array Bool}(D:adq md ops listed){i:Nat}(hi:i∈Region.ready md ops listed):adq md ops (listed.setIfInBounds i true):=fun j oj hoj hl e he hb=>by
 obtain⟨h0,o,ho,hall⟩:=mem_ready.1 hi;by_cases e':i=j
 · subst e'
   rw[ho] at hoj;cases hoj;exact getD_set_true (hall e he hb)
 · rw[getD_set_ne false e'] at hl
   exact getD_set_true (D j oj hoj hl e he hb)
theorem Jj{S':aj→Prop}{i:Nat}{oi:Oper}{v:ai}(hi:ops[i]? = some oi)(hsel:∀(j:Nat) (o:Oper) cs b,ops[j]? = some o→o.op≠.select cs b)
 (hQ:∀c a w,Q (.panic c) (a.put oi.dst v) w→Q (.panic c) a w) (hk:(∀w,S' w)∨((∀w,S w→S' w)∧∀j∈tl,∃f,Sk md ops f j i=true)) :
 ∀(fuel:Nat) (listed:Array Bool) (a:Act) (w:aj),
  (∀j oj,ops[j]? = some oj→j≠i→listed.getD j true=false→(∀e∈oj.after,Region.binds md e=true→e.on≠i)→oi.apart ops oj=true) →
  i∈Region.ready md ops listed→adq md ops listed→YieldsIf P ops S' oi v a→(S w∨∀w,S' w) →
  Gr P md ops Q S tl fuel (listed.setIfInBounds i true) (a.put oi.dst v) w→Gr P md ops Q S tl (fuel+1) listed a w:=by
 intro fuel;have hS':∀w,(S w∨∀w,S' w)→S' w:=fun w h=>by
  rcases h with h | h
  · rcases hk with k | k
    · exact k w
    · exact k.1 w h
  · exact h w
 induction fuel with
 | zero =>
  intro listed a w _ hr D hy hS H;refine⟨fun h=>(by rw[h] at hr;cases hr),fun j hj=>?_⟩;by_cases hji:j=i
  · subst hji;exact hy.wpOp hi (hS' w hS) ⟨fun _ h=>h,H⟩
  · have:=ready_mono hj hji
    rw[H.1] at this;cases this
 | succ fuel ih =>
  intro listed a w hfree hr D hy hS H;refine⟨fun h=>(by rw[h] at hr;cases hr),fun j hj=>?_⟩;by_cases hji:j=i
  · subst hji;exact hy.wpOp hi (hS' w hS) ⟨fun _ h=>h,H⟩
  · have h1:=H.2 j (ready_mono hj hji)
    obtain⟨hjun,oj,hoj,hall⟩:=mem_ready.1 hj;have hiun:listed.getD i false=true→False:=fun h1=>by
     have h0:=(mem_ready.1 hr).1;rcases dq i listed.size with h' | h'
     · simp[h'] at h0 h1;rw[h0] at h1;cases h1
     · simp[Array.getElem?_eq_none h'] at h1
    have hnot:∀e∈oj.after,Region.binds md e=true→e.on≠i:=fun e he hb heq=>hiun (heq▸hall e he hb);have h2:=wpOp_putIf hoj (hfree j oj hoj hji hjun hnot) (fun cs b=>hsel i oi cs b hi) (fun cs b=>hsel j oj cs b hoj) hQ hy h1;have hfree':∀k ok,ops[k]? = some ok→k≠i→(listed.setIfInBounds j true).getD k true=false →
     (∀e∈ok.after,Region.binds md e=true→e.on≠i)→oi.apart ops ok=true:=fun k ok hk hki hun hno=>by
     refine hfree k ok hk hki ?_ hno;by_cases hjk:j=k
     · subst hjk;exact hjun
     · rw[getD_set_ne true hjk] at hun;exact hun
    have hstay:∀w',(j∉tl→S w→S w')→(S w'∨∀w,S' w):=fun w' h=>by
     rcases hk with k | k
     · exact .inr k
     · rcases hS with hS | hS
       · refine .inl (h (fun hm=>?_) hS)
         obtain⟨f,hf⟩:=k.2 j hm;exact hiun (Ji D f j (fun oj' hoj' e he hb=>by rw[hoj] at hoj';cases hoj';exact hall e he hb) hf)
       · exact .inr hS
    refine wpOp_mono (fun a' w' h3=>⟨h3.2.1,ih (listed.setIfInBounds j true) a' w' hfree' (ready_mono hr (Ne.symm hji)) (D.set hj) h3.1 (hstay w' h3.2.1) ?_⟩) h2;rw[Array.setIfInBounds_comm _ _ hji];exact h3.2.2
theorem Sl{rs:List Nat}{fuel:Nat}{listed:Array Bool}{a:Act}{w:aj}(hr:Region.ready md ops listed=rs)(hne:rs≠[])
 (h:∀i∈rs,wpOp P ops Q i (fun a' w'=>(i∉tl→S w→S w')∧Gr P md ops Q S tl fuel (listed.setIfInBounds i true) a' w') a w):Gr P md ops Q S tl (fuel+1) listed a w :=
 ⟨fun h0=>absurd (hr▸h0) hne,hr▸h⟩
inductive wL where
 | nil:wL
 | take:Nat→wL→wL
 | move:Nat→wL→wL
 | one:Nat→wL→wL
 | two:Nat→wL→Nat→wL→wL
def wL.ok(md:Region.Mode)(ops:Array Oper)(tl:List Nat):wL→Nat→Array Bool→Bool→Bool
 | .nil,f,listed,_=>f == 0&&(Region.ready md ops listed).isEmpty
 | .take i t,f,listed,b=>decide (0<f)&&(ops[i]?).isSome&&Region.free md ops listed i&&(Region.ready md ops listed).contains i&&b&&tl.all (fun j=>Sk md ops 6 j i)&&t.ok md ops tl (f-1) (listed.setIfInBounds i true) b
 | .move i t,f,listed,b=>decide (0<f)&&(ops[i]?).isSome&&Region.free md ops listed i&&(Region.ready md ops listed).contains i&&t.ok md ops tl (f-1) (listed.setIfInBounds i true) b
 | .one i t,f,listed,b=>decide (0<f)&&(ops[i]?).isSome&&decide (Region.ready md ops listed=[i])&&t.ok md ops tl (f-1) (listed.setIfInBounds i true) (b && !tl.contains i)
 | .two i t j u,f,listed,b=>decide (0<f)&&(ops[i]?).isSome&&(ops[j]?).isSome&&decide (Region.ready md ops listed=[i,j])&&t.ok md ops tl (f-1) (listed.setIfInBounds i true) (b && !tl.contains i)&&u.ok md ops tl (f-1) (listed.setIfInBounds j true) (b && !tl.contains j)
def jB(P:bp)(ops:Array Oper)(S:aj→Prop)(tl:List Nat)(Q:Exit→Act→aj→Prop):wL→Act→aj→Prop
 | .nil,a,w=>Q .normal a w
 | .take i t,a,w=>bS P ops S (fun _ a w=>jB P ops S tl Q t a w) [((ops[i]?).getD default,true)] a w
 | .move i t,a,w=>bS P ops (fun _=>True) (fun _ a w=>jB P ops S tl Q t a w) [((ops[i]?).getD default,true)] a w
 | .one i t,a,w=>ar P ops (Exit.then (fun a w=>(i∉tl→S w)∧jB P ops S tl Q t a w) Q) [(ops[i]?).getD default] a w
 | .two i t j u,a,w=>ar P ops (Exit.then (fun a w=>(i∉tl→S w)∧jB P ops S tl Q t a w) Q) [(ops[i]?).getD default] a w∧ar P ops (Exit.then (fun a w=>(j∉tl→S w)∧jB P ops S tl Q u a w) Q) [(ops[j]?).getD default] a w
theorem lO{Q:Exit→Act→aj→Prop}(hs:Region.noSelect ops=true)(hQ:∀c d v a w,Q (.panic c) (Act.put a d v) w→Q (.panic c) a w):∀(t:wL) (f:Nat) (listed:Array Bool) (b:Bool) (a:Act) (w:aj),
 t.ok md ops tl f listed b=true→adq md ops listed→(b=true→S w)→jB P ops S tl Q t a w→Gr P md ops Q S tl f listed a w
 | .nil,f,listed,b,a,w,hB,_,_,h=>by
  simp only[wL.ok,bg,beq_iff_eq] at hB;obtain⟨rfl,h2⟩:=hB;exact⟨by simpa using h2,h⟩
 | .take i t,f,listed,b,a,w,hB,D,hS,h=>by
  simp only[wL.ok,bg,decide_eq_true_eq] at hB;obtain⟨⟨⟨⟨⟨⟨h0,h1⟩,h2⟩,h3⟩,hb⟩,hn⟩,h4⟩:=hB;obtain⟨o,ho⟩:=ee.1 h1;simp only[jB,bS,ho,df] at h;obtain⟨v,hy,hr⟩:=h;obtain⟨f,rfl⟩:∃g,f=g+1:=⟨f-1,by omega⟩
  have hrd:i∈Region.ready md ops listed:=by simpa using h3
  refine Jj (S':=S) ho (Region.noSelect_spec hs) (fun c a w=>hQ c _ v a w) (.inr ⟨fun _ h=>h,fun j hj=>⟨6,ep.1 hn j hj⟩⟩) f listed a w (Region.free_spec ho h2) hrd D hy (.inl (hS hb)) ?_;exact lO hs hQ t f _ b _ _ h4 (D.set hrd) hS hr
 | .move i t,f,listed,b,a,w,hB,D,hS,h=>by
  simp only[wL.ok,bg,decide_eq_true_eq] at hB;obtain⟨⟨⟨⟨h0,h1⟩,h2⟩,h3⟩,h4⟩:=hB;obtain⟨o,ho⟩:=ee.1 h1;simp only[jB,bS,ho,df] at h;obtain⟨v,hy,hr⟩:=h;obtain⟨f,rfl⟩:∃g,f=g+1:=⟨f-1,by omega⟩
  have hrd:i∈Region.ready md ops listed:=by simpa using h3
  refine Jj (S':=fun _=>True) ho (Region.noSelect_spec hs) (fun c a w=>hQ c _ v a w) (.inl fun _=>trivial) f listed a w (Region.free_spec ho h2) hrd D hy (.inr fun _=>trivial) ?_;exact lO hs hQ t f _ b _ _ h4 (D.set hrd) hS hr
 | .one i t,f,listed,b,a,w,hB,D,hS,h=>by
  simp only[wL.ok,bg,decide_eq_true_eq] at hB;obtain⟨⟨⟨h0,h1⟩,h2⟩,h4⟩:=hB;obtain⟨o,ho⟩:=ee.1 h1;obtain⟨f,rfl⟩:∃g,f=g+1:=⟨f-1,by omega⟩
  refine Sl h2 (by simp) fun j hj=>?_;obtain rfl:j=i:=by simpa using hj
  simp only[jB,ho,df] at h;refine wpOp_mono (fun a' w' hh=>⟨fun hn _=>hh.1 hn,lO hs hQ t f _ _ a' w' h4 (D.set (by rw[h2];exact bf.2 O)) (fun hb=>hh.1 ?_) hh.2⟩) (jX ho h);simp only[bg,ew,List.contains_eq_mem,decide_eq_false_iff_not] at hb;exact hb.2
 | .two i t j u,f,listed,b,a,w,hB,D,hS,h=>by
  simp only[wL.ok,bg,decide_eq_true_eq] at hB;obtain⟨⟨⟨⟨⟨h0,h1⟩,h1'⟩,h2⟩,h4⟩,h5⟩:=hB;obtain⟨o,ho⟩:=ee.1 h1;obtain⟨o',ho'⟩:=ee.1 h1';obtain⟨f,rfl⟩:∃g,f=g+1:=⟨f-1,by omega⟩
  simp only[jB,ho,ho',df] at h;have hb2:∀{k:Nat},(b && !tl.contains k)=true→k∉tl:=fun {k} hb=>by
   simp only[bg,ew,List.contains_eq_mem,decide_eq_false_iff_not] at hb;exact hb.2
  refine Sl h2 (by simp) fun k hk=>?_;have hk':k=i∨k=j:=by simpa using hk
  rcases hk' with rfl | rfl
  · exact wpOp_mono (fun a' w' hh=>⟨fun hn _=>hh.1 hn,lO hs hQ t f _ _ a' w' h4 (D.set (by rw[h2];simp)) (fun hb=>hh.1 (hb2 hb)) hh.2⟩) (jX ho h.1)
  · exact wpOp_mono (fun a' w' hh=>⟨fun hn _=>hh.1 hn,lO hs hQ u f _ _ a' w' h5 (D.set (by rw[h2];simp)) (fun hb=>hh.1 (hb2 hb)) hh.2⟩) (jX ho' h.2)
theorem apA(md:Region.Mode)(ops:Array Oper)(n:Nat):adq md ops (gd n false):=fun j oj _ hl=>by
 rcases dq j n with h | h
 · simp[h] at hl
 · simp[Nat.not_lt.2 h] at hl
variable {w w0:aj} {is:List It} {a:Act} {ds:List dx} {l:List ai}
theorem anv{id:Nat}{ol:List Oper}(m:Mem w0 w is)(bs:List Bool)(tl:List Nat)(t:wL)(hm:P.follows .mixedOrders=true)(hB:(Region.noSelect ol.toArray&&t.ok .any ol.toArray tl ol.toArray.size (gd ol.toArray.size false) true)=true)
 (hQ:∀c d v a w,Q (.panic c) (Act.put a d v) w→Q (.panic c) a w)
 (h:∀u,Mem w0 u is→jB P ol.toArray (fun u=>Mem w0 u (pT bs is)) tl Q t a u):(Code.region id ol.toArray true).wp P Q a w:=by
 simp only[bg] at hB;have m':=m.ext' (fQ.refl w).drawn;exact wp_region_any hm (Sj _ _ _ _ (lO (S:=fun u=>Mem w0 u (pT bs is)) hB.1 hQ t _ _ true _ _ hB.2 (apA _ _ _) (fun _=>m'.sel bs) (h _ m')))
variable {o o':Oper} {i j:Nat} {t u:wL}
theorem aeO(h:Q .normal a w):jB P ops S tl Q .nil a w:=h
theorem jU(ho:(ops[i]?).getD default=o)(h:bS P ops S (fun _ a w=>jB P ops S tl Q t a w) [(o,true)] a w):jB P ops S tl Q (.take i t) a w:=by subst ho;exact h
theorem Gs(ho:(ops[i]?).getD default=o)(h:bS P ops (fun _=>True) (fun _ a w=>jB P ops S tl Q t a w) [(o,true)] a w):jB P ops S tl Q (.move i t) a w:=by subst ho;exact h
theorem tA(ho:(ops[i]?).getD default=o)(h:ar P ops (Exit.then (fun a w=>(i∉tl→S w)∧jB P ops S tl Q t a w) Q) [o] a w):jB P ops S tl Q (.one i t) a w:=by subst ho;exact h
theorem anw(ho:(ops[i]?).getD default=o)(ho':(ops[j]?).getD default=o')(h:ar P ops (Exit.then (fun a w=>(i∉tl→S w)∧jB P ops S tl Q t a w) Q) [o] a w)(h':ar P ops (Exit.then (fun a w=>(j∉tl→S w)∧jB P ops S tl Q u a w) Q) [o'] a w):jB P ops S tl Q (.two i t j u) a w:=by
 subst ho;subst ho';exact⟨h,h'⟩
end
end Go.Lith
namespace Go.Proofs.YtfekpcimgncioaaGreatDoor
open Go.Proofs.Tryz
open Go.RowKit Go.Lith
set_option maxRecDepth 100000
attribute [local irreducible] ar cl fU bS cO Code.wp
attribute [local congr] pD gF gG gH gI gJ kL gK gL gM gN gQ gR gS gT gU gV gW eU eV gX gY iA iB iC kN dF dG cW dD gZ kM eW eX eY iD iE kO
variable{u:P3}{ts:List T3}{k:Nat}{t:T3}
theorem aq1{v:P3}(h:ts[k]? = some t)(e:jV u v t=t):mS u v (ts.take (k+1))=mS u v (ts.take k)++[t]∧lK u v (ts.take (k+1))=lK u v (ts.take k):=by
 rw[cH h];unfold mS lK;simp[e]
theorem ajZ{v:P3}(h:ts[k]? = some t)(e:¬jV u v t=t)(hn:(jV u v t).nd=true):lK u v (ts.take (k+1))=lK u v (ts.take k)++[t]∧mS u v (ts.take (k+1))=mS u v (ts.take k):=by
 rw[cH h];unfold mS lK;simp[e,hn]
theorem aq2{v:P3}(h:ts[k]? = some t)(e:¬jV u v t=t)(hn:(jV u v t).nd=false):lK u v (ts.take (k+1))=lK u v (ts.take k)∧mS u v (ts.take (k+1))=mS u v (ts.take k):=by
 rw[cH h];unfold mS lK;simp[e,hn]
theorem aeP{v:P3}{l m:List T3}(h:lK u v l=lK u v m):jP u v l=jP u v m:=by unfold jP;rw[h]
theorem adr{v:P3}(h:lK u v (ts.take (k+1))=lK u v (ts.take k)++[t]):jP u v (ts.take (k+1))=jP u v (ts.take k)++[jV u v t]:=by unfold jP;rw[h,cv];rfl
theorem aj0(u v:P3)(l:List T3):(mS u v l).length≤l.length:=fm ..
theorem ads(u v:P3)(l:List T3):(lK u v l).length≤l.length:=fm ..
theorem Zu(u v:P3)(l:List T3):(jP u v l).length=(lK u v l).length:=ct ..
theorem aj1{s:T3}:(s.a.x=t.a.x∧s.a.y=t.a.y∧s.a.z=t.a.z∧s.b.x=t.b.x∧s.b.y=t.b.y∧s.b.z=t.b.z∧s.c.x=t.c.x∧s.c.y=t.c.y∧s.c.z=t.c.z)↔s=t :=
 ⟨fun⟨h1,h2,h3,h4,h5,h6,h7,h8,h9⟩=>Ky (P3.eq h1 h2 h3) (P3.eq h4 h5 h6) (P3.eq h7 h8 h9),fun h=>by rw[h];simp only[and_self]⟩
theorem apB{g90 ga gf N cap ca:Nat}{A:Option Addr}{ea:Array ck}{D:List (P3 × Hd)}{p q:P3}[I3 p][I3 q](w:aj)(hB90:fR w g90 [.slice A N cap,.map (some ga),.map (some gf)] 109)(hMa:jO w ga ea ca)(hDa:bT pt Hd.v D ea ca)(hS:∀p,bU w (pF D p).A (pF D p).n (ts.filter fun t=>t.has p)∧(pF D p).n≤(pF D p).cap)(hT:bU w A N ts)(hN:ts.length≤10000000):dA prog 99 [.pointer (some ⟨g90,0,none⟩),pt p,pt q] w (fun v w'=>∃g91 gx ex cx gy ey cy Am nm cm Ao no co Ar nr cr,v=.pointer (some ⟨g91,0,none⟩)∧Mem w w' [bI g91 [.pointer (some ⟨g90,0,none⟩),.int .i64 p.x,.int .i64 p.y,.int .i64 p.z,.int .i64 q.x,.int .i64 q.y,.int .i64 q.z,.map (some gx),.map (some gy),.slice Am nm cm,.slice Ao no co,.slice Ar nr cr] 218,oI 39 9 Ar nr cr ((mS p q ts).flatMap aN),oI 39 9 Ao no co ((lK p q ts).flatMap aN),oI 39 9 Am nm cm ((jP p q ts).flatMap aN),mI gy ey cy,mI gx ex cx]∧bT pt bj (fZ [] (nL ts p)) ex cx∧bT pt bj (fZ [] (nL ts q)) ey cy∧nm=(jP p q ts).length∧no=(lK p q ts).length∧nr=(mS p q ts).length):=by
 refine⟨bJ func99 (by kernel_rfl),?_⟩;have m:=Mem.refl w;have htl:=hT.len
 go_enter func99,ntmps99
 apply iY 7 [0] m;simp only[↓aD];intro g1 g2 u m;refine mh m [true,true] [(0,true),(3,true),(6,true),(1,true),(2,true),(4,true),(7,true),(5,false),(8,false),(9,true),(10,false),(11,true)] aB (by kernel_rfl) (bQ (fun _ _ _ _ _ h=>h)) (ol:=?_) ?hol ?_
 case hol=>simp only[zw,zQ,zR];try rfl
 intro u m;refine Hv 7 [1,0,1,0] ?_;simp only[↓aD,aQ];refine bL (bH O O (Zf (p:=p) _ (hB90.ext m.ext) (hMa.ext m.ext) hDa (fun z=>⟨((hS z).1).ext m.ext,(hS z).2⟩) hN) ?_);rintro v u e_ ⟨qx,esx,cx,rfl,hM,hDx⟩;replace m:=m.plus hM;clear hM;simp only[cj,b_] at m;refine aM ⟨m.sel [false,true,true],?_⟩;refine bL ?_;simp only[zz];refine bH O O (Zf (p:=q) _ (hB90.ext m.ext) (hMa.ext m.ext) hDa (fun z=>⟨((hS z).1).ext m.ext,(hS z).2⟩) hN) ?_;rintro v u e_ ⟨qy,esy,cy,rfl,hM,hDy⟩;replace m:=m.plus hM;clear hM;simp only[cj,b_] at m;refine aM ⟨m.sel [false,false,true,true],?_⟩;refine aZ (Aq O O O O O) (bL ?_);simp only[zz];refine Up m O ?_;intro g3 u m;refine aM ⟨m.sel [false,false,false,true,true],?_⟩;refine aZ aO (bY ?_);simp only[zz];replace m:=m.nilO 39 9;replace m:=m.nilO 39 9;replace m:=m.nilO 39 9;replace m:=m.pull 3 O;simp only[dW,dX,zF,zG] at m;apply aU 6 [0] m;simp only[↓aD,aix,aa];refine aS O ((hB90.ext m.ext).lies1 sL O) ?_;simp only[zz];apply aL 4 [0] m;simp only[↓aD,iM];refine bX [28] [9,10,11,29,30,31,32,33,34,35,36,37,38,39,40,41,42,43,44,45,46,47,48,49,50,51,52,53,54,55,56,57,58,59,60,61,62,63,64,65,66,67,68,69,70,71,72,73,74,75] (fun n vs wl=>∃(k:Nat) (A5 A6 A7:Option Addr) (cap5 cap6 cap7:Nat),vs=[.int .i64 (k:Int)]∧Mem w wl [bI g3 [.pointer (some ⟨g90,0,none⟩),.int .i64 p.x,.int .i64 p.y,.int .i64 p.z,.int .i64 q.x,.int .i64 q.y,.int .i64 q.z,.map (some qx),.map (some qy),.slice A5 (jP p q (ts.take k)).length cap5,.slice A6 (lK p q (ts.take k)).length cap6,.slice A7 (mS p q (ts.take k)).length cap7] 218,oI 39 9 A7 (mS p q (ts.take k)).length cap7 ((mS p q (ts.take k)).flatMap aN),oI 39 9 A6 (lK p q (ts.take k)).length cap6 ((lK p q (ts.take k)).flatMap aN),oI 39 9 A5 (jP p q (ts.take k)).length cap5 ((jP p q (ts.take k)).flatMap aN),mI qy esy cy,mI qx esx cx,bI g2 [.int .i64 q.x,.int .i64 q.y,.int .i64 q.z] 30,bI g1 [.int .i64 p.x,.int .i64 p.y,.int .i64 p.z] 30]∧(k≤N)∧(n=N-k)) ?_ ?_
 ·
  exact⟨_,0,_,_,_,_,_,_,O,m,bw _,O⟩
 · intro n vs wr hI u K1 hK1
   obtain⟨k,A5,A6,A7,cap5,cap6,cap7,rfl,m,hk,hn⟩:=hI;simp only[zu,zF,zG];apply aK 5 [0,0] m;simp only[↓aD];refine bD O ?_ ?_<;>intro hc1
   ·
    obtain⟨t,ht,hti,a,hA,hrow⟩:=hT.get (i:=k) (by omega);subst hA;have hle1:=aj0 p q (ts.take k);have hle2:=ads p q (ts.take k);have hle3:=Zu p q (ts.take k);rw[bv] at hle1 hle2;apply aK 5 [0] m;simp only[↓aD];refine aC (aF cD aP O O (by omega) (by omega) (bZ (ah _))) ?_;simp only[zz];refine aS O ((hrow.ext m.ext).lies cA aP) ?_;simp only[zz];apply jS 8 [0,0,8,7,0] m;simp only[↓aD,lM,eA,aQ,aa];intro g4 u m;refine nF m O O (aeB (t:=t) (p:=p) (q:=q)) 12 [0,0,1,0] ?_;simp only[↓aD,lM,eA,aa];intro g5 u m;refine aC (Uy O O) ?_;apply aL 2 [0] m;simp only[↓aD];refine bD O ?_ ?_<;>intro hc2
    ·
     refine anv m [true,true,true,false,true,true,true,true,true,true] [10] (.take 0 (.take 1 (.take 2 (.take 3 (.take 4 (.take 5 (.one 6 (.one 7 (.take 8 (.take 9 (.one 10 .nil))))))))))) aB (by kernel_rfl) (bQ (fun _ _ _ _ _ h=>h)) ?_;intro u m;refine jU (by simp only[zw];rfl) (aZ aH (bY (jU (by simp only[zw];rfl) (aZ aH (bY (jU (by simp only[zw];rfl) (aZ (dJ rfl) (bY (jU (by simp only[zw];rfl) (aZ (aW (c:=0) nQ rfl iG rfl rfl) ?_))))))))));simp only[zz];refine bY (jU (by simp only[zw];rfl) (eE rfl (fun u m=>((m.b 2 rfl).lies1 sL rfl)) ?_));simp only[zz];refine bY (jU (by simp only[zw];rfl) (eE rfl (fun u m=>((m.b 1 rfl).full cA aP)) ?_));simp only[zz];refine bY (tA (by simp only[zw];rfl) ?_);refine eZ O ?_;intro u g6 e_ h_ k_;replace m:=m.newB e_ h_ k_;refine aM ⟨fun _=>m.sel [false,true,true,true,false,true,true,true,true,true,true],?_⟩;refine tA (by simp only[zw];rfl) ?_;simp only[zz];refine bM m 4 O O cD jK O (by decide) O O O (m.b 0 O).rowsO (fV O) (by have:=hle1;omega) (by have:=hle1;omega) ?_;intro A7 cap7 u m;simp only[zF,zG] at m;refine aM ⟨fun _=>m.sel [false,true,true,true,false,true,true,true,true,true,true],?_⟩;refine jU (by simp only[zw];rfl) (aZ (dJ rfl) (bY (jU (by simp only[zw];rfl) (aZ (aW (c:=0) nQ rfl iG rfl rfl) (bY (tA (by simp only[zw];rfl) ?_))))));simp only[zz];refine dB (off:=11) m 3 O O O iG (iK O) ⟨O,O⟩ ?_;intro u m;simp only[zz,zy,zx,over,aa] at m;refine aM ⟨fun h=>absurd (by decide) h,?_⟩;refine aeO ?_;apply aU 6 [0] m;simp only[↓aD];refine⟨by omega,?_⟩;have hcs:=aq1 (u:=p) (v:=q) ht (aj1.1 hc2);have hcm:=aeP hcs.2;rw[show ((mS p q (ts.take k))).flatMap aN++_=(mS p q (ts.take (k+1))).flatMap aN by rw[hcs.1,a_];rfl,show ((mS p q (ts.take k))).length+1=(mS p q (ts.take (k+1))).length by rw[hcs.1,au];rfl] at m;rw[←hcs.2,←hcm] at m;exact hK1 (N-(k+1)) _ _ (by omega) (by kernel_rfl) ⟨k+1,_,_,_,_,_,_,O,(m.sel [false,false,false,true,true,true,true,true,true,true,true]),by omega,O⟩
    ·
     apply aK 5 [0] m;simp only[↓aD];refine cR O ?_ ?_<;>intro hc3
     ·
      refine anv m [true,true,true,true,false,false,true,true,true,true] [18,21] (.take 0 (.move 1 (.take 2 (.take 3 (.take 4 (.take 5 (.take 6 (.take 9 (.take 10 (.take 11 (.take 12 (.take 13 (.two 7 (.two 8 (.one 14 (.one 15 (.take 16 (.take 17 (.one 18 (.move 19 (.move 20 (.one 21 .nil)))))))) 14 (.one 8 (.one 15 (.take 16 (.take 17 (.one 18 (.move 19 (.move 20 (.one 21 .nil))))))))) 14 (.one 7 (.one 8 (.one 15 (.take 16 (.take 17 (.one 18 (.move 19 (.move 20 (.one 21 .nil)))))))))))))))))))))) aB (by kernel_rfl) (bQ (fun _ _ _ _ _ h=>h)) ?_;intro u m;refine jU (by simp only[zw];rfl) (aZ aH (bY (Gs (by simp only[zw];rfl) (aZ aH (bY (jU (by simp only[zw];rfl) (aZ aH (bY (jU (by simp only[zw];rfl) (aZ (dJ rfl) ?_))))))))));simp only[zz];refine bY (jU (by simp only[zw];rfl) (aZ (aW (c:=0) nQ rfl iG rfl rfl) (bY (jU (by simp only[zw];rfl) ?_))));simp only[zz];refine eE O (fun u m=>((m.b 2 O).lies1 sL O)) ?_;simp only[zz];refine bY (jU (by simp only[zw];rfl) (eE rfl (fun u m=>((m.b 0 rfl).full cA aP)) ?_));simp only[zz];refine bY (jU (by simp only[zw];rfl) (aZ aH (bY (jU (by simp only[zw];rfl) (aZ (dJ rfl) (bY (jU (by simp only[zw];rfl) (aZ (aW (c:=0) nQ rfl iG rfl rfl) (bY (jU (by simp only[zw];rfl) ?_))))))))));simp only[zz];refine eE O (fun u m=>((m.b 2 O).lies1 sL O)) ?_;simp only[zz];refine bY (jU (by simp only[zw];rfl) (eE rfl (fun u m=>((m.b 1 rfl).full cA aP)) ?_));simp only[zz];refine bY ?_;refine anw (by simp only[zw];rfl) (by simp only[zw];rfl) ?_ ?_
      ·
       refine eZ O ?_;intro u g6 e_ h_ k_;replace m:=m.newB e_ h_ k_;refine aM ⟨fun _=>m.sel [false,true,true,true,true,false,false,true,true,true,true],?_⟩;simp only[zz];refine anw (by simp only[zw];rfl) (by simp only[zw];rfl) ?_ ?_
       ·
        refine bM m 6 O O cD jK O (by decide) O O O (m.b 0 O).rowsO (fV O) (by have:=hle3;omega) (by have:=hle3;omega) ?_;intro A5 cap5 u m;simp only[zF,zG] at m;refine aM ⟨fun _=>m.sel [false,true,true,true,true,false,false,true,true,true,true],?_⟩;refine tA (by simp only[zw];rfl) ?_;simp only[zz];refine eZ O ?_;intro u g7 e_ h_ k_;replace m:=m.newB e_ h_ k_;refine aM ⟨fun _=>m.sel [false,false,true,true,true,true,false,false,true,true,true,true],?_⟩;refine tA (by simp only[zw];rfl) ?_;simp only[zz];refine bM m 6 O O cD jK O (by decide) O O O (m.b 0 O).rowsO (fV O) (by have:=hle2;omega) (by have:=hle2;omega) ?_;intro A6 cap6 u m;simp only[zF,zG] at m;refine aM ⟨fun _=>m.sel [false,false,true,true,true,true,false,false,true,true,true,true],?_⟩;refine jU (by simp only[zw];rfl) (aZ (dJ rfl) (bY (jU (by simp only[zw];rfl) (aZ (aW (c:=0) nQ rfl iG rfl rfl) (bY (tA (by simp only[zw];rfl) ?_))))));simp only[zz];refine dB (off:=9) m 4 O O O iG (iK O) ⟨O,O⟩ ?_;intro u m;simp only[zz,zy,zx,over,aa] at m;refine aM ⟨fun h=>absurd (by decide) h,?_⟩;refine Gs (by simp only[zw];rfl) (aZ (dJ rfl) (bY (Gs (by simp only[zw];rfl) (aZ (aW (c:=0) nQ rfl iG rfl rfl) (bY (tA (by simp only[zw];rfl) ?_))))));simp only[zz];refine dB (off:=10) m 4 O O O iG (iK O) ⟨O,O⟩ ?_;intro u m;simp only[zz,zy,zx,over,aa] at m;refine aM ⟨fun h=>absurd (by decide) h,?_⟩;refine aeO ?_;apply aU 6 [0] m;simp only[↓aD];refine⟨by omega,?_⟩;have hcs:=ajZ (u:=p) (v:=q) ht (fun e=>hc2 (aj1.2 e)) hc3;have hcm:=adr hcs.1;rw[show ((lK p q (ts.take k))).flatMap aN++_=(lK p q (ts.take (k+1))).flatMap aN by rw[hcs.1,a_];rfl,show ((lK p q (ts.take k))).length+1=(lK p q (ts.take (k+1))).length by rw[hcs.1,au];rfl] at m;rw[show ((jP p q (ts.take k))).flatMap aN++_=(jP p q (ts.take (k+1))).flatMap aN by rw[hcm,a_];rfl,show ((jP p q (ts.take k))).length+1=(jP p q (ts.take (k+1))).length by rw[hcm,au];rfl] at m;rw[←hcs.2] at m;exact hK1 (N-(k+1)) _ _ (by omega) (by kernel_rfl) ⟨k+1,_,_,_,_,_,_,O,(m.sel [false,false,false,false,true,true,true,true,true,true,true,true]),by omega,O⟩
       ·
        refine eZ O ?_;intro u g7 e_ h_ k_;replace m:=m.newB e_ h_ k_;refine aM ⟨fun _=>m.sel [false,false,true,true,true,true,false,false,true,true,true,true],?_⟩;refine tA (by simp only[zw];rfl) ?_;simp only[zz];refine bM m 7 O O cD jK O (by decide) O O O (m.b 1 O).rowsO (fV O) (by have:=hle3;omega) (by have:=hle3;omega) ?_;intro A5 cap5 u m;simp only[zF,zG] at m;refine aM ⟨fun _=>m.sel [false,false,true,true,true,true,false,false,true,true,true,true],?_⟩;refine tA (by simp only[zw];rfl) ?_;simp only[zz];refine bM m 6 O O cD jK O (by decide) O O O (m.b 0 O).rowsO (fV O) (by have:=hle2;omega) (by have:=hle2;omega) ?_;intro A6 cap6 u m;simp only[zF,zG] at m;refine aM ⟨fun _=>m.sel [false,false,true,true,true,true,false,false,true,true,true,true],?_⟩;refine jU (by simp only[zw];rfl) (aZ (dJ rfl) (bY (jU (by simp only[zw];rfl) (aZ (aW (c:=0) nQ rfl iG rfl rfl) (bY (tA (by simp only[zw];rfl) ?_))))));simp only[zz];refine dB (off:=9) m 4 O O O iG (iK O) ⟨O,O⟩ ?_;intro u m;simp only[zz,zy,zx,over,aa] at m;refine aM ⟨fun h=>absurd (by decide) h,?_⟩;refine Gs (by simp only[zw];rfl) (aZ (dJ rfl) (bY (Gs (by simp only[zw];rfl) (aZ (aW (c:=0) nQ rfl iG rfl rfl) (bY (tA (by simp only[zw];rfl) ?_))))));simp only[zz];refine dB (off:=10) m 4 O O O iG (iK O) ⟨O,O⟩ ?_;intro u m;simp only[zz,zy,zx,over,aa] at m;refine aM ⟨fun h=>absurd (by decide) h,?_⟩;refine aeO ?_;apply aU 6 [0] m;simp only[↓aD];refine⟨by omega,?_⟩;have hcs:=ajZ (u:=p) (v:=q) ht (fun e=>hc2 (aj1.2 e)) hc3;have hcm:=adr hcs.1;rw[show ((lK p q (ts.take k))).flatMap aN++_=(lK p q (ts.take (k+1))).flatMap aN by rw[hcs.1,a_];rfl,show ((lK p q (ts.take k))).length+1=(lK p q (ts.take (k+1))).length by rw[hcs.1,au];rfl] at m;rw[show ((jP p q (ts.take k))).flatMap aN++_=(jP p q (ts.take (k+1))).flatMap aN by rw[hcm,a_];rfl,show ((jP p q (ts.take k))).length+1=(jP p q (ts.take (k+1))).length by rw[hcm,au];rfl] at m;rw[←hcs.2] at m;exact hK1 (N-(k+1)) _ _ (by omega) (by kernel_rfl) ⟨k+1,_,_,_,_,_,_,O,(m.sel [false,false,false,false,true,true,true,true,true,true,true,true]),by omega,O⟩
      ·
       refine eZ O ?_;intro u g6 e_ h_ k_;replace m:=m.newB e_ h_ k_;refine aM ⟨fun _=>m.sel [false,true,true,true,true,false,false,true,true,true,true],?_⟩;refine tA (by simp only[zw];rfl) ?_;simp only[zz];refine eZ O ?_;intro u g7 e_ h_ k_;replace m:=m.newB e_ h_ k_;refine aM ⟨fun _=>m.sel [false,false,true,true,true,true,false,false,true,true,true,true],?_⟩;refine tA (by simp only[zw];rfl) ?_;simp only[zz];refine bM m 7 O O cD jK O (by decide) O O O (m.b 0 O).rowsO (fV O) (by have:=hle3;omega) (by have:=hle3;omega) ?_;intro A5 cap5 u m;simp only[zF,zG] at m;refine aM ⟨fun _=>m.sel [false,false,true,true,true,true,false,false,true,true,true,true],?_⟩;refine tA (by simp only[zw];rfl) ?_;simp only[zz];refine bM m 6 O O cD jK O (by decide) O O O (m.b 1 O).rowsO (fV O) (by have:=hle2;omega) (by have:=hle2;omega) ?_;intro A6 cap6 u m;simp only[zF,zG] at m;refine aM ⟨fun _=>m.sel [false,false,true,true,true,true,false,false,true,true,true,true],?_⟩;refine jU (by simp only[zw];rfl) (aZ (dJ rfl) (bY (jU (by simp only[zw];rfl) (aZ (aW (c:=0) nQ rfl iG rfl rfl) (bY (tA (by simp only[zw];rfl) ?_))))));simp only[zz];refine dB (off:=9) m 4 O O O iG (iK O) ⟨O,O⟩ ?_;intro u m;simp only[zz,zy,zx,over,aa] at m;refine aM ⟨fun h=>absurd (by decide) h,?_⟩;refine Gs (by simp only[zw];rfl) (aZ (dJ rfl) (bY (Gs (by simp only[zw];rfl) (aZ (aW (c:=0) nQ rfl iG rfl rfl) (bY (tA (by simp only[zw];rfl) ?_))))));simp only[zz];refine dB (off:=10) m 4 O O O iG (iK O) ⟨O,O⟩ ?_;intro u m;simp only[zz,zy,zx,over,aa] at m;refine aM ⟨fun h=>absurd (by decide) h,?_⟩;refine aeO ?_;apply aU 6 [0] m;simp only[↓aD];refine⟨by omega,?_⟩;have hcs:=ajZ (u:=p) (v:=q) ht (fun e=>hc2 (aj1.2 e)) hc3;have hcm:=adr hcs.1;rw[show ((lK p q (ts.take k))).flatMap aN++_=(lK p q (ts.take (k+1))).flatMap aN by rw[hcs.1,a_];rfl,show ((lK p q (ts.take k))).length+1=(lK p q (ts.take (k+1))).length by rw[hcs.1,au];rfl] at m;rw[show ((jP p q (ts.take k))).flatMap aN++_=(jP p q (ts.take (k+1))).flatMap aN by rw[hcm,a_];rfl,show ((jP p q (ts.take k))).length+1=(jP p q (ts.take (k+1))).length by rw[hcm,au];rfl] at m;rw[←hcs.2] at m;exact hK1 (N-(k+1)) _ _ (by omega) (by kernel_rfl) ⟨k+1,_,_,_,_,_,_,O,(m.sel [false,false,false,false,true,true,true,true,true,true,true,true]),by omega,O⟩
     ·
      apply aK 7 [0] m;simp only[↓aD];refine⟨by omega,?_⟩;have hcs:=aq2 (u:=p) (v:=q) ht (fun e=>hc2 (aj1.2 e)) hc3;have hcm:=aeP hcs.1;rw[←hcs.1,←hcs.2,←hcm] at m;exact hK1 (N-(k+1)) _ _ (by omega) (by kernel_rfl) ⟨k+1,_,_,_,_,_,_,O,(m.sel [false,false,true,true,true,true,true,true,true,true]),by omega,O⟩
   ·
    obtain rfl:k=N:=by omega
    rw[show ts.take k=ts from ay (by omega)] at m;apply aK 7 [] m;simp only[↓aD];exact aT O O ⟨_,O,m.ext,_,_,_,_,_,_,_,_,_,_,_,_,_,_,_,_,O,m.sel [true,true,true,true,true,true,false,false],hDx,hDy,O,O,O⟩
end Go.Proofs.YtfekpcimgncioaaGreatDoor
namespace Go.Lith
open Go.RowKit
def Gu(js:List It):It where
 own b:=∃j∈js,j.own b
 P w:=(∀j∈js,j.P w)∧js.Pairwise Ap
 lt w b h hb:=by
  obtain⟨j,hj,hb⟩:=hb;exact j.lt w b (h.1 j hj) hb
 st w w' h hs k:=⟨fun j hj=>j.st w w' (h.1 j hj) hs fun b hb=>k b ⟨j,hj,hb⟩,h.2⟩
section
variable {w0 w:aj} {is js:List It}
theorem Mem.bagNil(m:Mem w0 w is):Mem w0 w (Gu []::is) :=
 ⟨m.ext,fun i hi=>by
  rcases an.1 hi with rfl | hi
  · exact⟨fun j hj=>(by cases hj),List.Pairwise.nil⟩
  · exact m.all i hi,fun i hi b hb=>by
  rcases an.1 hi with rfl | hi
  · obtain⟨j,hj,_⟩:=hb;cases hj
  · exact m.ge i hi b hb,br.2 ⟨fun i _ b ⟨j,hj,_⟩=>(by cases hj),m.nd⟩⟩
theorem Mem.bagPull(m:Mem w0 w (Gu js::is))(i:Nat){j:It}(hj:js[i]? = some j):Mem w0 w (j::Gu (js.eraseIdx i)::is):=by
 have hp:=Kf js i j hj;obtain⟨h1,h2⟩:=br.1 m.nd;have P:=m.all _ (bu ..);have hjm:=be hj;have hsub:∀x∈js.eraseIdx i,x∈js:=fun x hx=>hp.mem_iff.1 (bt _ hx);have hpw:=br.1 ((hp.pairwise_iff (fun {a b} (h:Ap a b)=>h.symm)).2 P.2);refine⟨m.ext,fun x hx=>?_,fun x hx b hb=>?_,br.2 ⟨fun x hx b hb hxb=>?_,br.2 ⟨fun x hx b ⟨y,hy,hb⟩=>h1 x hx b ⟨y,hsub y hy,hb⟩,h2⟩⟩⟩
 · rcases an.1 hx with rfl | hx
   · exact P.1 x hjm
   · rcases an.1 hx with rfl | hx
     · exact⟨fun y hy=>P.1 y (hsub y hy),hpw.2⟩
     · exact m.all x (bt _ hx)
 · rcases an.1 hx with rfl | hx
   · exact m.ge _ (bu ..) b ⟨x,hjm,hb⟩
   · rcases an.1 hx with rfl | hx
     · obtain⟨y,hy,hb⟩:=hb
       exact m.ge _ (bu ..) b ⟨y,hsub y hy,hb⟩
     · exact m.ge x (bt _ hx) b hb
 · rcases an.1 hx with rfl | hx
   · obtain⟨y,hy,hyb⟩:=hxb
     exact hpw.1 y hy b hb hyb
   · exact h1 x hx b ⟨j,hjm,hb⟩ hxb
theorem Mem.bagPush{j:It}(m:Mem w0 w (j::Gu js::is)):Mem w0 w (Gu (j::js)::is):=by
 obtain⟨h1,h2⟩:=br.1 m.nd;obtain⟨h3,h4⟩:=br.1 h2;have P:=m.all (Gu js) (bt _ (bu ..));have Pj:=m.all j (bu ..);refine⟨m.ext,fun x hx=>?_,fun x hx b hb=>?_,br.2 ⟨fun x hx b ⟨y,hy,hb⟩ hxb=>?_,h4⟩⟩
 · rcases an.1 hx with rfl | hx
   · refine⟨fun y hy=>?_,br.2 ⟨fun y hy b hb hyb=>h1 _ (bu ..) b hb ⟨y,hy,hyb⟩,P.2⟩⟩
     rcases an.1 hy with rfl | hy
     · exact Pj
     · exact P.1 y hy
   · exact m.all x (bt _ (bt _ hx))
 · rcases an.1 hx with rfl | hx
   · obtain⟨y,hy,hb⟩:=hb
     rcases an.1 hy with rfl | hy
     · exact m.ge y (bu ..) b hb
     · exact m.ge (Gu js) (bt _ (bu ..)) b ⟨y,hy,hb⟩
   · exact m.ge x (bt _ (bt _ hx)) b hb
 · rcases an.1 hy with rfl | hy
   · exact h1 x (bt _ hx) b hb hxb
   · exact h3 x hx b ⟨y,hy,hb⟩ hxb
end
end Go.Lith
namespace Go.Lith
open Go.RowKit Go.ChangeMaps
variable{t:T3}{c:P3}
section
variable {w0 w:aj} {is js ks:List It}
theorem Mem.bagPerm(m:Mem w0 w (Gu js::is))(h:js.Perm ks):Mem w0 w (Gu ks::is):=by
 obtain⟨h1,h2⟩:=br.1 m.nd;have P:=m.all _ (bu ..);refine⟨m.ext,fun x hx=>?_,fun x hx b hb=>?_,br.2 ⟨fun x hx b ⟨y,hy,hb⟩ hxb=>?_,h2⟩⟩
 · rcases an.1 hx with rfl | hx
   · exact⟨fun j hj=>P.1 j (h.mem_iff.2 hj),(h.pairwise_iff (fun {a b} (h:Ap a b)=>h.symm)).1 P.2⟩
   · exact m.all x (bt _ hx)
 · rcases an.1 hx with rfl | hx
   · obtain⟨y,hy,hb⟩:=hb
     exact m.ge _ (bu ..) b ⟨y,h.mem_iff.2 hy,hb⟩
   · exact m.ge x (bt _ hx) b hb
 · exact h1 x hx b ⟨y,h.mem_iff.2 hy,hb⟩ hxb
theorem abF{K V:Type}[DecidableEq K]{k:K}{v:V}{e:K × V}:∀{D:List (K × V)},(D.map (·.1)).Nodup→e∈fP D k v→e=(k,v)∨(e∈D∧e.1≠k)
 | [],_,h=>.inl (bf.1 h)
 | x::D,hn,h=>by
  obtain⟨n1,n2⟩:=List.nodup_cons.1 hn;unfold fP at h;split at h
  · rename_i hk
    rcases an.1 h with h | h
    · exact .inl h
    · exact .inr ⟨bt _ h,fun e'=>n1 (eh.2 ⟨e,h,e'.trans hk.symm⟩)⟩
  · rename_i hk
    rcases an.1 h with h | h
    · exact .inr ⟨h▸bu ..,h▸hk⟩
    · rcases abF n2 h with h | h
      · exact .inl h
      · exact .inr ⟨bt _ h.1,h.2⟩
variable {E:az} {fs:P3→List T3} {D:List (P3 × Hd)}
def sI(E:az)(fs:P3→List T3)(e:P3 × Hd):It:=oI E 9 e.2.A (fs e.1).length e.2.cap ((fs e.1).flatMap aN)
structure Lv(D:List (P3 × Hd))(fs:P3→List T3):Prop where
 nk:(D.map (·.1)).Nodup
 len:∀e∈D,e.2.n=(fs e.1).length
 no:∀p,p∉D.map (·.1)→fs p=[]
 yes:∀p,p∈D.map (·.1)→fs p≠[]
theorem Lv.nil:Lv [] fun _=>[]:=⟨kj,fun _ h=>(by cases h),fun _ _=>rfl,fun _ h=>(by cases h)⟩
theorem Lv.iff(S:Lv D fs){p:P3}:p∈D.map (·.1)↔fs p≠[]:=⟨S.yes p,fun h=>Classical.byContradiction fun k=>h (S.no p k)⟩
theorem Lv.take(S:Lv D fs)(m:Mem w0 w (Gu (D.map (sI E fs))::is))(p:P3) :
 ∃rest,Mem w0 w (oI E 9 (pF D p).A (pF D p).n (pF D p).cap ((fs p).flatMap aN)::Gu rest::is)∧(pF D p).n=(fs p).length ∧
  ∀(h':Hd) (fs':P3→List T3),(∀q,q≠p→fs' q=fs q)→h'.n=(fs' p).length→fs' p≠[]→(sI E fs' (p,h')::rest).Perm ((fP D p h').map (sI E fs'))∧Lv (fP D p h') fs':=by
 have hS:∀(h':Hd) (fs':P3→List T3),(∀q,q≠p→fs' q=fs q)→h'.n=(fs' p).length→fs' p≠[]→Lv (fP D p h') fs':=fun h' fs' hq hl hy =>
  ⟨uH S.nk p h',fun e he=>by
   rcases abF S.nk he with rfl | ⟨he,hk⟩
   · exact hl
   · rw[hq _ hk];exact S.len e he,fun q hqn=>by
   rw[wZ] at hqn;have h1:q∉D.map (·.1)∧q≠p:=by
    split at hqn
    · rename_i hp;exact⟨hqn,fun e=>hqn (e▸hp)⟩
    · exact⟨fun h=>hqn (List.mem_append_left _ h),fun e=>hqn (List.mem_append_right _ (by rw[e];exact bf.2 O))⟩
   rw[hq _ h1.2];exact S.no q h1.1,fun q hqn=>by
   by_cases hqp:q=p
   · rw[hqp];exact hy
   · rw[hq _ hqp]
     refine S.yes q ?_;rw[wZ] at hqn;split at hqn
     · exact hqn
     · exact (bi.1 hqn).elim id fun h=>absurd (bf.1 h) hqp⟩
 have hsame:∀{fs':P3→List T3} {L:List (P3 × Hd)},(∀q,q≠p→fs' q=fs q)→(∀e∈L,e.1≠p)→L.map (sI E fs')=L.map (sI E fs):=fun {fs' L} hq hL =>
  List.map_congr_left fun e he=>by unfold sI;rw[hq _ (hL e he)]
 cases hf:qQ D p 0 with
 | none =>
  obtain⟨h0,h1,_⟩:=qZ D p 0 hf;have hnp:=oX.1 h0;have e0:pF D p=⟨none,0,0⟩:=by unfold pF;rw[h0];rfl
  refine⟨D.map (sI E fs),?_,?_,fun h' fs' hq hl hy=>⟨?_,hS h' fs' hq hl hy⟩⟩
  · rw[e0,S.no p hnp];exact m.nilO E 9
  · rw[e0,S.no p hnp];rfl
  · rw[h1,cv,hsame hq fun e he k=>hnp (eh.2 ⟨e,he,k⟩)]
    exact (List.perm_append_singleton _ _).symm
 | some q =>
  obtain⟨j,h⟩:=q;obtain⟨i,_,hi,h0,h1,_⟩:=mY D p 0 j h hf;have e0:pF D p=h:=by unfold pF;rw[h0];rfl
  have hm:(p,h)∈D:=be hi;have hl0:=S.len _ hm;have hne:∀e∈D.eraseIdx i,e.1≠p:=fun e he k=>by
   obtain⟨q,hq⟩:=dh.1 he;rw[List.getElem?_eraseIdx] at hq;have key:∀{q:Nat},D[q]? = some e→q=i:=fun {q} hq=>by
    have a1:(D.map (·.1))[q]? = some p:=by rw[fb,hq,←k];rfl
    have a2:(D.map (·.1))[i]? = some p:=by rw[fb,hi];rfl
    obtain⟨b1,b2⟩:=ap.1 a1;obtain⟨c1,c2⟩:=ap.1 a2;exact (mn S.nk).1 (b2.trans c2.symm)
   split at hq
   · have:=key hq;omega
   · have:=key hq;omega
  refine⟨(D.map (sI E fs)).eraseIdx i,?_,?_,fun h' fs' hq hl hy=>⟨?_,hS h' fs' hq hl hy⟩⟩
  · rw[e0,show h.n=(fs p).length from hl0]
    exact m.bagPull i (j:=sI E fs (p,h)) (by rw[fb,hi];rfl)
  · rw[e0];exact hl0
  · rw[h1,←map_eraseIdx,←hsame hq hne]
    have hp:∀{l:List (P3 × Hd)} {i:Nat} {x y:P3 × Hd},l[i]? = some x→(l.set i y).Perm (y::l.eraseIdx i):=fun {l}=>by
     induction l with
     | nil=>intro i x y h;simp at h
     | cons z l ih =>
      intro i x y h;cases i with
      | zero=>exact .refl _
      | succ i=>exact ((ih (i:=i) (x:=x) (y:=y) (by simpa using h)).cons z).trans (.swap ..)
    exact ((hp (y:=(p,h')) hi).map (sI E fs')).symm
theorem Lv.trisP(S:Lv D fs)(hB:(Gu (D.map (sI E fs))).P w)(hI:∀p,∀t∈fs p,IT t)(p:P3):bU w (pF D p).A (pF D p).n (fs p)∧(pF D p).n≤(pF D p).cap:=by
 unfold pF;cases hg:cL D p with
 | none =>
  rw[S.no p (oX.1 hg)];exact⟨bU.nil _ _,av _⟩
 | some h =>
  have hm:=Bt hg;have hP:=hB.1 _ (eh.2 ⟨(p,h),hm,rfl⟩);have ho:Ow { w with heap:=#[] } w [] E 9 h.A (fs p).length h.cap ((fs p).flatMap aN):=⟨hP,fun _ _ h=>(by cases h),fun _ h=>(by cases h)⟩
  have hl:=S.len _ hm;simp only[df];rw[show h.n=(fs p).length from hl];exact⟨ho.tris (hI p),ho.le⟩
end
def Te(l:List T3)(t:T3)(cs:List P3)(p:P3):List T3:=l.filter (fun t=>t.has p)++if p∈cs then [t] else []
theorem amy(l:List T3)(t:T3):Te l t []=fun p=>l.filter fun t=>t.has p:=by
 funext p
 unfold Te;simp
theorem apC{l:List T3}{cs:List P3}{q:P3}(h:q≠c):Te l t (cs++[c]) q=Te l t cs q:=by
 unfold Te;simp[h]
theorem apD{l:List T3}{cs:List P3}(h:c∉cs):Te l t (cs++[c]) c=Te l t cs c++[t]:=by
 unfold Te;simp[h]
theorem amz{l:List T3}{k:Nat}(ht:l[k]? = some t):Te (l.take k) t [t.a,t.b,t.c]=fun p=>(l.take (k+1)).filter fun t=>t.has p:=by
 funext p
 unfold Te;rw[cH ht,gj]
 congr 1
 by_cases h:t.has p=true
 · have:=fE.1 h
   simp[h,this]
 · have h':¬(p=t.a∨p=t.b∨p=t.c):=fun k=>h (fE.2 k)
   simp[h,h']
end Go.Lith
namespace Go.Proofs.YtfekpcimgncioaaGreatDoor
open Go.Proofs.Tryz
open Go.RowKit Go.Lith
set_option maxRecDepth 100000
attribute [local irreducible] ar cl fU bS cO Code.wp
attribute [local congr] pD gF gG gH gI gJ kL gK gL gM gN gQ gR gS gT gU gV gW eU eV gX gY iA iB iC kN dF dG cW dD gZ kM eW eX eY iD iE kO
variable{g90 ga gf N cap ca cf j:Nat}{ts:List T3}{t:T3}
structure Jk(T:az)(w:aj)(g90 ga gf:Nat)(A:Option Addr)(N cap:Nat)(ea ef:Array ck)(ca cf:Nat)(D:List (P3 × Hd))(ts:List T3):Prop where
 b:fR w g90 [.slice A N cap,.map (some ga),.map (some gf)] T
 a:jO w ga ea ca
 f:jO w gf ef cf
 t:∀p,bU w (pF D p).A (pF D p).n (ts.filter fun t=>t.has p)∧(pF D p).n≤(pF D p).cap
theorem Jk.ext{T:az}{w w':aj}{A:Option Addr}{ea ef:Array ck}{D:List (P3 × Hd)}(h:Jk T w g90 ga gf A N cap ea ef ca cf D ts)(e:fQ w w'):Jk T w' g90 ga gf A N cap ea ef ca cf D ts :=
 ⟨h.b.ext e,h.a.ext e,h.f.ext e,fun p=>⟨(h.t p).1.ext e,(h.t p).2⟩⟩
structure Sn(ea ef:Array ck)(ca cf:Nat)(D:List (P3 × Hd))(F:List (P3 × Bool))(ts:List T3):Prop where
 a:bT pt Hd.v D ea ca
 f:bT pt bj F ef cf
 nk:(D.map (·.1)).Nodup
 k:∀p,p∈D.map (·.1)↔p∈dT ts
 b:∀p,(cL F p).getD false=Fa (bK ts) p
def agk(es:List E3):List P3:=es.flatMap fun e=>[e.1,e.2]
theorem aj2{es:List E3}{p:P3}:decide (p∈agk es)=Fa es p:=by
 rw[ff,decide_eq_true_eq];unfold agk Fa;rw[fk,el];constructor
 · rintro⟨e,he,hp⟩
   refine⟨e,he,?_⟩;simp only[an,cg,or_false] at hp;rcases hp with rfl | rfl <;> simp
 · rintro⟨e,he,hp⟩
   refine⟨e,he,?_⟩;simp only[ej,decide_eq_true_eq] at hp;rcases hp with rfl | rfl <;> simp
theorem agl{es:List E3}{k:Nat}{e:E3}(h:es[k]? = some e):agk (es.take (k+1))=agk (es.take k)++[e.1]++[e.2]:=by
 rw[cH h];unfold agk;rw[a_,List.append_assoc];rfl
def xM(t:T3):List P3:=[t.a,t.b,t.c]
theorem Zv(hj:j<3):(xM t)[j]? = some (t.cor j):=by
 have h:j=0∨j=1∨j=2:=by omega
 rcases h with rfl | rfl | rfl <;> rfl
theorem Wn(hj:j<3):(xM t).take (j+1)=(xM t).take j++[t.cor j]:=cH (Zv hj)
theorem aj3(hn:t.nd=true)(hj:j<3):t.cor j∉(xM t).take j:=fun h=>by
 have hd:(xM t).Nodup:=Sf hn;obtain⟨i,hi⟩:=dh.1 h;rw[List.getElem?_take] at hi;split at hi
 · rename_i hij
   obtain⟨a1,a2⟩:=ap.1 hi;obtain⟨b1,b2⟩:=ap.1 (Zv (t:=t) hj);have:=(mn hd).1 (a2.trans b2.symm);omega
 · cases hi
theorem apE{p:P3}:(ts.filter fun t=>t.has p)≠[]↔p∈dT ts:=by
 constructor
 · intro h
   obtain⟨t,ht⟩:=List.exists_mem_of_ne_nil _ h;obtain⟨h1,h2⟩:=c_.1 ht;exact uQ h1 h2
 · intro h e
   obtain⟨t,ht,hp⟩:=fk.1 (show p∈ts.flatMap fun t=>[t.a,t.b,t.c] from h);have:t∈ts.filter fun t=>t.has p:=c_.2 ⟨ht,fE.2 (by simpa using hp)⟩;rw[e] at this;cases this
theorem Jl{is:List It}{w:aj}(h:(Co is).P w)(k:Nat){i:It}(hi:is[k]? = some i):i.P w:=h.1 i (be hi)
theorem amA(l:List T3)(t:T3)(cs:List P3)(p:P3){k:Nat}(h:l.length≤k):(Te l t cs p).length≤k+1:=by
 have:=fm (fun t=>T3.has t p) l;unfold Te;rw[au];split <;> simp <;> omega
theorem aj4{A:Option Addr}(w:aj)(hT:bU w A N ts)(hnd:∀t∈ts,t.nd=true)(hN:ts.length≤1000000):dA prog 50 [.slice A N cap] w (fun v w'=>∃g90 ga gf ea ef ca cf D F K,v=.pointer (some ⟨g90,0,none⟩)∧Mem w w' [K]∧(∀u,K.P u→Jk 109 u g90 ga gf A N cap ea ef ca cf D ts)∧Sn ea ef ca cf D F ts):=by
 refine⟨bJ func50 (by kernel_rfl),?_⟩;have m:=Mem.refl w;have htl:=hT.len;have hbl:(bK ts).length≤10000000:=by have h1:=Hm (all:=bE ts) (bE ts) [];have h2:=qW ts;simp only[bn] at h1;unfold bK;omega
 go_enter func50,ntmps50
 apply fI 7 [0] m;simp only[↓aD];refine lZ m ?_;intro qa u m;have hDa:=bT.nil (K:=P3) (V:=Hd) pt Hd.v;simp only[zz];refine lZ m ?_;intro qf u m;have hDf:=bT.nil (K:=P3) (V:=Bool) pt bj;apply jS 4 [] m;simp only[↓aD,aoB,aa];intro g3 u m;replace m:=m.bagNil;apply aU 8 [0] m;simp only[↓aD,iM];refine bX [17] [5,7,18,19,20,21,22,23,24,25,26,27,28,29,30,31,32,33,34,35,36,37] (fun n vs wl=>∃(k:Nat) (ea:Array ck) (ca:Nat) (D:List (P3 × Hd)),vs=[.int .i64 (k:Int)]∧Mem w wl [Gu (D.map (sI 39 (fun p=>(ts.take k).filter fun t=>t.has p))),bI g3 [.slice A N cap,.map (some qa),.map (some qf)] 109,mI qf #[] 0,mI qa ea ca]∧(bT pt Hd.v D ea ca)∧(Lv D (fun p=>(ts.take k).filter fun t=>t.has p))∧(k≤N)∧(n=N-k)) ?_ ?_
 ·
  exact⟨_,0,_,_,[],O,m,hDa,Lv.nil,bw _,O⟩
 · intro n vs wr hI u K1 hK1
   obtain⟨k,esa,ca,D,rfl,m,hDa,hS1,hk,hn⟩:=hI;simp only[zu,zF,zG];apply aK 5 [0,0] m;simp only[↓aD];refine bD O ?_ ?_<;>intro hc1
   ·
    obtain⟨t,ht,hti,a,hA,hrow⟩:=hT.get (i:=k) (by omega);subst hA;apply aK 5 [0] m;simp only[↓aD];refine aC (aF cD aP O O (by omega) (by omega) (bZ (ah _))) ?_;simp only[zz];refine aS O ((hrow.ext m.ext).lies cA aP) ?_;simp only[zz];apply jS 9 [0,0,0] m;simp only[↓aD,lM,eA,aa];intro g4 u m;refine bX [22] [7,23,24,25,26,27,28,29,30,31,32,33,34,35,36] (fun n vs wl=>∃(j:Nat) (ea:Array ck) (ca:Nat) (D:List (P3 × Hd)),vs=[.int .i64 (j:Int)]∧Mem w wl [bI g4 [.int .i64 t.a.x,.int .i64 t.a.y,.int .i64 t.a.z,.int .i64 t.b.x,.int .i64 t.b.y,.int .i64 t.b.z,.int .i64 t.c.x,.int .i64 t.c.y,.int .i64 t.c.z] 39,Gu (D.map (sI 39 (Te (ts.take k) t ((xM t).take j)))),bI g3 [.slice (some a) N cap,.map (some qa),.map (some qf)] 109,mI qf #[] 0,mI qa ea ca]∧(bT pt Hd.v D ea ca)∧(Lv D (Te (ts.take k) t ((xM t).take j)))∧(j≤3)∧(n=3-j)) ?_ ?_
    · rw[←amy (ts.take k) t] at m hS1
      exact⟨_,0,_,_,D,O,m,hDa,hS1,bw _,O⟩
    · intro n vs wr hI u K2 hK2
      obtain⟨j,esa,ca,D,rfl,m,hDa,hS2,hj,hn2⟩:=hI;simp only[zu,zF,zG];apply aK 5 [0,0] m;simp only[↓aD];refine bD O ?_ ?_<;>intro hc2
      ·
       have hj3:j<3:=by omega
       apply aK 5 [0] m;simp only[↓aD];refine aC ((abD (t:=t) hj3 O O)) ?_;apply jS 3 [0] m;simp only[↓aD,eS,aQ,aa];intro g5 u m;replace m:=m.pull 2 O;simp only[dW,dX,zF,zG] at m;obtain⟨rest,m9,hn9,hS9⟩:=hS2.take m (t.cor j);replace m:=m9;clear m9;have hl9:((Te (ts.take k) t ((xM t).take j)) (t.cor j)).length≤k+1:=amA _ _ _ _ (by rw[bv];omega);rw[←hn9] at hl9;refine gc (mh m [false,true,true,true,true,true,false] [(0,true),(1,true),(2,true),(3,true),(4,true),(5,true),(6,false),(7,false),(8,true),(10,true),(9,false),(11,false)] aB (by kernel_rfl) (bQ (fun _ _ _ _ _ h=>h)) (ol:=?_) ?hol ?_)
       case hol=>simp only[zw,zQ,zR];try rfl
       intro u m;refine Hv 6 [3,1,2] ?_;simp only[↓aD,Rh,aoz,aQ,eA,aa];refine bL (eZ O ?_);intro u g6 e_ h_ k_;replace m:=m.newB e_ h_ k_;refine aM ⟨m.sel [false,false,true,true,true,true,true,false],?_⟩;refine bL ?_;simp only[zz];refine yU (ek:=pt) (en:=Hd.v) (a:=t.cor j) (v0:=⟨none,0,0⟩) m 7 O underlying106 ad3 gC O O hDa ?_;intro esa ca bs u m hD' hS;simp only[zF,zG] at m;refine aM ⟨m.sel [false,false,true,true,true,true,true,false],?_⟩;refine aZ (fG O O) (aZ (fG O O) (bL ?_));simp only[zz];refine bM m 1 O O cD jK O (by decide) O O O (m.b 0 O).rowsO (fV O) (by omega) (by omega) ?_;intro A9 cap9 u m;simp only[zF,zG] at m;refine aM ⟨m.sel [false,false,true,true,true,true,true,false],?_⟩;refine bL ?_;simp only[zz];refine qB (ek:=pt) (en:=Hd.v) (a:=t.cor j) (v:=(⟨A9,(pF D (t.cor j)).n+1,cap9⟩:Hd)) m 7 O O O O hS ?_;intro esa u m hDa;simp only[zF,zG] at m;refine aM ⟨m.sel [false,false,true,true,true,true,true,false],?_⟩;refine bY ?_;replace m:=m.pull 2 O;simp only[dW,dX,zF,zG] at m;replace m:=m.pull 2 O;simp only[dW,dX,zF,zG] at m;have hfs:(Te (ts.take k) t ((xM t).take (j+1))) (t.cor j)=(Te (ts.take k) t ((xM t).take j)) (t.cor j)++[t]:=by rw[Wn hj3];exact apD (aj3 (hnd t (be ht)) hj3)
       obtain⟨hp9,hS3⟩:=hS9 ⟨A9,(pF D (t.cor j)).n+1,cap9⟩ (Te (ts.take k) t ((xM t).take (j+1))) (fun q hq=>by rw[Wn hj3];exact apC hq) (by rw[hfs,au,hn9];rfl) (by rw[hfs];simp);rw[show ((Te (ts.take k) t ((xM t).take j)) (t.cor j)).flatMap aN++_=((Te (ts.take k) t ((xM t).take (j+1))) (t.cor j)).flatMap aN by rw[hfs,a_];rfl,show (pF D (t.cor j)).n+1=((Te (ts.take k) t ((xM t).take (j+1))) (t.cor j)).length by rw[hfs,au,hn9];rfl] at m;replace m:=(Mem.bagPush (j:=sI 39 (Te (ts.take k) t ((xM t).take (j+1))) (t.cor j,⟨A9,(pF D (t.cor j)).n+1,cap9⟩)) m).bagPerm hp9;replace m:=m.pull 3 O;simp only[dW,dX,zF,zG] at m;apply aU 5 [0] m;simp only[↓aD];refine⟨by omega,?_⟩;exact hK2 (3-(j+1)) _ _ (by omega) (by kernel_rfl) ⟨j+1,_,_,_,O,(m.sel [true,true,false,false,true,true,true]),hDa,hS3,by omega,O⟩
      ·
       obtain rfl:j=3:=by omega
       rw[show (xM t).take 3=[t.a,t.b,t.c] from rfl,amz ht] at m hS2;apply aK 6 [0] m;simp only[↓aD];refine⟨by omega,?_⟩;exact hK1 (N-(k+1)) _ _ (by omega) (by kernel_rfl) ⟨k+1,_,_,D,O,(m.sel [false,true,true,true,true]),hDa,hS2,by omega,O⟩
   ·
    obtain rfl:N=k:=by omega
    rw[show ts.take N=ts from ay (by omega)] at m hS1;apply aK 5 [0] m;simp only[↓aD];refine bH O O (af2 _ (hT.ext m.ext) (by omega)) ?_;rintro v u e_ ⟨A4,c4,n4,hn4,rfl,h_⟩;replace m:=m.newO e_ h_;subst hn4;apply aL 4 [0] m;simp only[↓aD,Vy];refine bX [41] [9,42,43,44,45,46,47,48,49,50,51,52,53,54,55,56,57,58,59,60,61] (fun n vs wl=>∃(i:Nat) (ef:Array ck) (cf:Nat),vs=[.int .i64 (i:Int)]∧Mem w wl [oI 56 6 A4 (bK ts).length c4 ((bK ts).flatMap cY),Gu (D.map (sI 39 (fun p=>ts.filter fun t=>t.has p))),bI g3 [.slice A N cap,.map (some qa),.map (some qf)] 109,mI qf ef cf,mI qa esa ca]∧(bT pt bj (fZ [] (agk ((bK ts).take i))) ef cf)∧(i≤(bK ts).length)∧(n=(bK ts).length-i)) ?_ ?_
    ·
     exact⟨_,0,_,_,O,m,hDf,bw _,O⟩
    · intro n vs wr hI u K3 hK3
      obtain⟨i,esf,cf,rfl,m,hDf,hi,hn3⟩:=hI;simp only[zu,zF,zG];apply aK 5 [0,0] m;simp only[↓aD];refine bD O ?_ ?_<;>intro hc3
      ·
       obtain⟨e,he,ae,hA4,hr5⟩:=((m.o 0 rfl).lat (enc:=cY) (fun _=>rfl) (by decide)).get (i:=i) (by omega);subst hA4;apply aK 5 [0] m;simp only[↓aD];refine aC (aF oB iV O O (by omega) (by omega) (bZ (ah _))) ?_;simp only[zz];refine aS O (show eR _ _ _ _ (.agg #[.int .i64 e.1.x,.int .i64 e.1.y,.int .i64 e.1.z,.int .i64 e.2.x,.int .i64 e.2.y,.int .i64 e.2.z]) from hr5.lies Ft iV) ?_;simp only[zz];apply jS 3 [0,0] m;simp only[↓aD,Vz,Fc,aa];intro g4 u m;refine mh m [true,true,true,true,false,true] [(0,true),(1,true),(2,true),(4,true),(6,true),(7,true),(8,true),(10,true),(3,true),(5,true),(9,true),(11,true),(12,false),(13,true),(14,false),(15,false),(16,true),(17,false)] aB (by kernel_rfl) (bQ (fun _ _ _ _ _ h=>h)) (ol:=?_) ?hol ?_
       case hol=>simp only[zw,zQ,zR];try rfl
       intro u m;refine Hv 12 [3,0,3,0] ?_;simp only[↓aD,Ri,Rg,aoA,aQ,aa,ad,ag];refine⟨by omega,?_⟩;refine bL (yU (ek:=pt) (en:=bj) (a:=e.1) (v0:=false) m 4 O nP oN gC O O hDf ?_);intro esf cf bs u m hD' hS;simp only[zF,zG] at m;refine aM ⟨m.sel [true,true,true,true,false,true],?_⟩;refine aZ (fG O O) (bL ?_);simp only[zz];refine qB (ek:=pt) (en:=bj) (a:=e.1) (v:=true) m 4 O O O O hS ?_;intro esf u m hDf;simp only[zF,zG] at m;rw[←mH] at hDf;refine aM ⟨m.sel [true,true,true,true,false,true],?_⟩;refine bL (yU (ek:=pt) (en:=bj) (a:=e.2) (v0:=false) m 4 O nP oN gC O O hDf ?_);intro esf cf bs u m hD' hS;simp only[zF,zG] at m;refine aM ⟨m.sel [true,true,true,true,false,true],?_⟩;refine aZ (fG O O) (bL ?_);simp only[zz];refine qB (ek:=pt) (en:=bj) (a:=e.2) (v:=true) m 4 O O O O hS ?_;intro esf u m hDf;simp only[zF,zG] at m;rw[←mH] at hDf;refine aM ⟨m.sel [true,true,true,true,false,true],?_⟩;refine bY ?_;apply aU 5 [0] m;simp only[↓aD];refine⟨by omega,?_⟩;exact hK3 ((bK ts).length-(i+1)) _ _ (by omega) (by kernel_rfl) ⟨i+1,_,_,O,(m.sel [false,true,true,true,true,true]),by rw[agl he];exact hDf,by omega,O⟩
      ·
       obtain rfl:i=(bK ts).length:=by omega
       rw[show (bK ts).take (bK ts).length=bK ts from ay (av _)] at hDf;apply aK 7 [] m;simp only[↓aD];exact aT O O ⟨_,O,m.ext,_,_,_,_,_,_,_,D,_,Co [_,_,_,_],O,Mem.pack [] (m.sel [false,true,true,true,true]),(fun u hP=>⟨by have h:=Jl hP 1 O;exact h,by have h:=Jl hP 3 O;exact h,by have h:=Jl hP 2 O;exact h,fun p=>hS1.trisP (Jl hP 0 O) (fun p t ht=>hT.it t (c_.1 ht).1) p⟩),⟨hDa,hDf,hS1.nk,fun p=>by rw[hS1.iff];exact apE,fun p=>by rw[rV];exact aj2⟩⟩
section
variable {ts:List T3} {p q:P3} {F:List (P3 × Bool)}
theorem agm(hF:∀z,(cL F z).getD false=Fa (bK ts) z):((cL (fZ [] (nL ts p)) q).getD false && !(cL F p).getD false)=vP ts p q:=by
 rw[hF,rV];unfold vP
 congr 1
 rw[ff,decide_eq_true_eq,sC]
theorem agn:decide (Gk (fZ [] (nL ts q)) (fZ [] (nL ts p))=2)=yN ts p q:=by
 unfold yN
 congr 2
 unfold Gk;have hp:((fZ [] (nL ts p)).map (·.1)).Perm (nbL ts p):=by
  refine (List.perm_ext_iff_of_nodup (Fw _ [] kj) ?_).2 fun x=>?_
  · exact (Ff ts).sublist (List.filter_sublist ..)
  · rw[uL,vQ,sC];simp
 have e:(fun k=>(cL (fZ [] (nL ts q)) k).getD false)=Nj ts q:=funext fun k=>by
  rw[rV,ff,decide_eq_true_eq,sC]
 rw[e];exact (hp.filter _).length_eq
theorem aj5(hF:∀z,(cL F z).getD false=Fa (bK ts) z):Zm (fZ [] (nL ts p)) (fZ [] (nL ts q)) F q=Gc ts p q:=by
 unfold Zm Gc;rw[hF]
 congr 1
 rw[ff,ep,ep];have key:∀k,(!agc F (fZ [] (nL ts q)) q k)=(decide (k=q) || !Fa (bK ts) k||Nj ts q k):=fun k=>by
  unfold agc;have e1:decide (¬(k.x=q.x∧k.y=q.y∧k.z=q.z)) = !decide (k=q):=by
   rw[←decide_not];exact decide_eq_decide.2 ⟨fun h e=>h (by rw[e];exact⟨O,O,O⟩),fun h e=>h (P3.eq e.1 e.2.1 e.2.2)⟩
  have e2:(cL (fZ [] (nL ts q)) k).getD false=Nj ts q k:=by rw[rV,ff,decide_eq_true_eq,sC]
  rw[e1,e2,hF];cases decide (k=q) <;> cases Fa (bK ts) k <;> cases Nj ts q k <;> rfl
 constructor
 · intro h k hk
   rw[←key];exact h k ((uL _ _ _).2 (.inr (sC.2 (vQ.1 hk))))
 · intro h k hk
   rw[key];exact h k (vQ.2 (sC.1 (((uL _ _ _).1 hk).elim (fun h=>(by cases h)) id)))
theorem adt:adn (lK p q ts) (jP p q ts)=uT ts p q:=by
 unfold adn uT jP;rw[List.zip_map_right,List.all_map];rw[ff,ep,ep];constructor
 · intro h t ht
   obtain⟨i,hi⟩:=dh.1 ht;exact h (t,t) (be (i:=i) (by rw[mo];exact⟨hi,hi⟩))
 · rintro h ⟨x,y⟩ hx
   obtain⟨i,hi⟩:=dh.1 hx;rw[mo] at hi;obtain rfl:x=y:=Option.some.inj (hi.1.symm.trans hi.2);exact h x (be hi.1)
theorem So(ts:List T3)(p:P3):(nL ts p).length≤3*ts.length:=by
 have h1:=fm (fun t=>T3.has t p) ts;unfold nL;rw[List.length_flatMap];have h2:∀L:List T3,(L.map fun t=>(nbT p t).length).sum≤3*L.length:=fun L=>by
  induction L with
  | nil=>exact av _
  | cons t L ih =>
   have:(nbT p t).length≤3:=by
    unfold nbT nbK;rw[au,au];split <;> split <;> split <;> simp
   simp only[bh,List.sum_cons,aw];omega
 exact ba (h2 _) (by omega)
theorem aj6:agj (jP p q ts) (mS p q ts)=Gd ts p q:=rfl
theorem aq3(hnd:∀t∈ts,t.nd=true):∀t∈jP p q ts++mS p q ts,t.nd=true:=fun t ht=>by
 rcases bi.1 ht with h | h
 · obtain⟨s,hs,rfl⟩:=eh.1 h
   have:=(c_.1 hs).2;rw[bg] at this;exact this.2
 · exact hnd t (c_.1 h).1
theorem Wo[I3 q](hI:∀t∈ts,IT t):(∀t∈jP p q ts,IT t)∧(∀t∈lK p q ts,IT t)∧∀t∈mS p q ts,IT t :=
 ⟨fun t ht=>by
  obtain⟨s,hs,rfl⟩:=eh.1 ht;have:=hI s (c_.1 hs).1;exact⟨yW inferInstance this.a,yW inferInstance this.b,yW inferInstance this.c⟩,fun t ht=>hI t (c_.1 ht).1,fun t ht=>hI t (c_.1 ht).1⟩
theorem apF(p q:P3)(ts:List T3):(jP p q ts).length+(mS p q ts).length≤ts.length+ts.length:=by
 have h1:=aj0 p q ts;have h2:=ads p q ts;have h3:=Zu p q ts;omega
end
theorem Wp{A:Option Addr}{ea ef:Array ck}{D:List (P3 × Hd)}{F:List (P3 × Bool)}{p q:P3}[I3 p][I3 q](w:aj)(hS:Jk 109 w g90 ga gf A N cap ea ef ca cf D ts)(hD:Sn ea ef ca cf D F ts)(hT:bU w A N ts)(hnd:∀t∈ts,t.nd=true)(hN:ts.length≤1000000):dA prog 51 [.pointer (some ⟨g90,0,none⟩),pt p,pt q] w (fun v _=>v=.bool (dK ts p q)):=by
 refine⟨bJ func51 (by kernel_rfl),?_⟩;have m:=Mem.refl w;have hxl:(fZ [] (nL ts p)).length≤100000000:=by have h1:=pA (nL ts p) [];have h2:=So ts p;simp only[bn] at h1;omega
 have hlen:=apF p q ts;have hlen1:=ads p q ts;have hlen2:=Zu p q ts
 go_enter func51,ntmps51
 apply iY 11 [1,0,0] m;simp only[↓aD,aQ];intro g8 g9 u m;refine bH O O (apB (p:=p) (q:=q) _ (hS.b.ext m.ext) (hS.a.ext m.ext) hD.a (fun z=>⟨(hS.t z).1.ext m.ext,(hS.t z).2⟩) (hT.ext m.ext) (by omega)) ?_;rintro v u e_ ⟨g7,qx,esx,cx,qy,esy,cy,A5,n5,cap5,A6,n6,cap6,A7,n7,cap7,rfl,hM,hDx,hDy,hn5,hn6,hn7⟩;replace m:=m.plus hM;clear hM;simp only[cj,b_] at m;apply aL 6 [0] m;simp only[↓aD];refine aC fX ?_;simp only[zz,f_,bh,cq];apply aL 1 [0] m;simp only[↓aD];refine aC fX ?_;simp only[zz,f_,bh,cq];apply aL 1 [0] m;simp only[↓aD];refine aC fX ?_;simp only[zz,f_,bh,cq];apply aL 1 [0] m;simp only[↓aD];refine aC fX ?_;simp only[zz,f_,bh,cq];apply aL 1 [0] m;simp only[↓aD];refine aC fX ?_;simp only[zz,f_,bh,cq];apply aL 1 [0] m;simp only[↓aD];refine aC fX ?_;simp only[zz,f_,bh,cq];refine acr O O O O O O ?_;intro u g10 e_ h_ k_;replace m:=m.newB e_ h_ k_;apply aL 24 [7,1,0,0] m;simp only[↓aD,aoD,Le,Vx,ad,ag,aa];refine⟨by omega,?_⟩;refine cQ m O O (af9 (ts:=ts) (X:=fZ [] (nL ts p)) (Y:=fZ [] (nL ts q)) (F:=F) (ex:=esx) (ey:=esy) (ef:=ef) (cx:=cx) (cy:=cy) (cf:=cf) _ (m.b 1 O) (hS.b.ext m.ext) (m.p 6 O) hDx (hS.f.ext m.ext) hD.f) ?_;rintro v u m rfl;simp only[zz];rw[agm hD.b];apply aL 2 [0] m;simp only[↓aD];refine cR O ?_ ?_<;>intro hc2
 ·
  have f0:vP ts p q=false:=by simpa using hc2
  apply aK 5 [] m;simp only[↓aD];refine aT O O ?_;try simp only[zD,zE]
  exact⟨_,O,m.ext,by rw[show dK ts p q=false by unfold dK;simp only[f0,jn,iv,ly,jv,kf]]⟩
 ·
  have f0:vP ts p q=true:=by simpa using hc2
  apply aK 25 [1,0,0] m;simp only[↓aD,Le,Vx,ak,ad,ag,aa];refine⟨by omega,?_⟩;refine cQ m O O (agb (ts:=ts) (X:=fZ [] (nL ts p)) (Y:=fZ [] (nL ts q)) (F:=F) (ex:=esx) (ey:=esy) (ef:=ef) (cx:=cx) (cy:=cy) (cf:=cf) _ (m.b 1 O) (hS.b.ext m.ext) (m.p 6 O) hDx (m.p 5 O) hDy hxl) ?_;rintro v u m rfl;simp only[zz];rw[agn];apply aL 2 [0] m;simp only[↓aD];refine cR O ?_ ?_<;>intro hc2
  ·
   have f1:yN ts p q=false:=by simpa using hc2
   apply aK 5 [] m;simp only[↓aD];refine aT O O ?_;try simp only[zD,zE]
   exact⟨_,O,m.ext,by rw[show dK ts p q=false by unfold dK;simp only[f0,f1,jn,iv,ly,jv,kf]]⟩
  ·
   have f1:yN ts p q=true:=by simpa using hc2
   apply aK 25 [1,0,0] m;simp only[↓aD,Le,Vx,ak,ad,ag,aa];refine⟨by omega,?_⟩;refine cQ m O O (agf (ts:=ts) (X:=fZ [] (nL ts p)) (Y:=fZ [] (nL ts q)) (F:=F) (ex:=esx) (ey:=esy) (ef:=ef) (cx:=cx) (cy:=cy) (cf:=cf) (ms:=jP p q ts) (rs:=mS p q ts) _ (m.b 1 O) (hS.b.ext m.ext) ((m.o 4 O).tris (Wo (p:=p) (q:=q) hT.it).1) ((m.o 2 O).tris (Wo (p:=p) (q:=q) hT.it).2.2) (aq3 hnd) (by omega)) ?_;rintro v u m rfl;simp only[zz];rw[show decide ((jP p q ts++mS p q ts).map pZ).Nodup=rL ts p q from rfl];apply aL 2 [0] m;simp only[↓aD];refine cR O ?_ ?_<;>intro hc2
   ·
    have f2:rL ts p q=false:=by simpa using hc2
    apply aK 5 [] m;simp only[↓aD];refine aT O O ?_;try simp only[zD,zE]
    exact⟨_,O,m.ext,by rw[show dK ts p q=false by unfold dK;simp only[f0,f1,f2,jn,iv,ly,jv,kf]]⟩
   ·
    have f2:rL ts p q=true:=by simpa using hc2
    apply aK 25 [1,0,0] m;simp only[↓aD,Le,Vx,ak,ad,ag,aa];refine⟨by omega,?_⟩;refine cQ m O O (ajq (ts:=ts) (X:=fZ [] (nL ts p)) (Y:=fZ [] (nL ts q)) (F:=F) (ex:=esx) (ey:=esy) (ef:=ef) (cx:=cx) (cy:=cy) (cf:=cf) _ (m.b 1 O) (hS.b.ext m.ext) (m.p 6 O) hDx (m.p 5 O) hDy (hS.f.ext m.ext) hD.f) ?_;rintro v u m rfl;simp only[zz];rw[aj5 hD.b];apply aL 2 [0] m;simp only[↓aD];refine cR O ?_ ?_<;>intro hc2
    ·
     have f3:Gc ts p q=false:=by simpa using hc2
     apply aK 5 [] m;simp only[↓aD];refine aT O O ?_;try simp only[zD,zE]
     exact⟨_,O,m.ext,by rw[show dK ts p q=false by unfold dK;simp only[f0,f1,f2,f3,jn,iv,ly,jv,kf]]⟩
    ·
     have f3:Gc ts p q=true:=by simpa using hc2
     apply aK 25 [1,0,0] m;simp only[↓aD,Le,Vx,ak,ad,ag,aa];refine⟨by omega,?_⟩;refine cQ m O O (ado (ts:=ts) (X:=fZ [] (nL ts p)) (Y:=fZ [] (nL ts q)) (F:=F) (ex:=esx) (ey:=esy) (ef:=ef) (cx:=cx) (cy:=cy) (cf:=cf) (ms:=jP p q ts) (os:=lK p q ts) _ (m.b 1 O) (hS.b.ext m.ext) ((m.o 4 O).tris (Wo (p:=p) (q:=q) hT.it).1) ((m.o 3 O).tris (Wo (p:=p) (q:=q) hT.it).2.1) (by omega) (by omega)) ?_;rintro v u m rfl;simp only[zz];rw[adt];apply aL 2 [0] m;simp only[↓aD];refine cR O ?_ ?_<;>intro hc2
     ·
      have f4:uT ts p q=false:=by simpa using hc2
      apply aK 5 [] m;simp only[↓aD];refine aT O O ?_;try simp only[zD,zE]
      exact⟨_,O,m.ext,by rw[show dK ts p q=false by unfold dK;simp only[f0,f1,f2,f3,f4,jn,iv,ly,jv,kf]]⟩
     ·
      have f4:uT ts p q=true:=by simpa using hc2
      apply aK 25 [1,0,0] m;simp only[↓aD,Le,Vx,ak,ad,ag,aa];refine⟨by omega,?_⟩;refine cQ m O O (ajY (ts:=ts) (X:=fZ [] (nL ts p)) (Y:=fZ [] (nL ts q)) (F:=F) (ex:=esx) (ey:=esy) (ef:=ef) (cx:=cx) (cy:=cy) (cf:=cf) (ms:=jP p q ts) (rs:=mS p q ts) _ (m.b 1 O) (hS.b.ext m.ext) ((m.o 4 O).tris (Wo (p:=p) (q:=q) hT.it).1) ((m.o 2 O).tris (Wo (p:=p) (q:=q) hT.it).2.2) (m.o 4 O).le (by omega)) ?_;rintro v u m rfl;simp only[zz];rw[aj6];apply aL 2 [0] m;simp only[↓aD];refine cR O ?_ ?_<;>intro hc2
      ·
       have f5:Gd ts p q=false:=by simpa using hc2
       apply aK 5 [] m;simp only[↓aD];refine aT O O ?_;try simp only[zD,zE]
       exact⟨_,O,m.ext,by rw[show dK ts p q=false by unfold dK;simp only[f0,f1,f2,f3,f4,f5,jn,iv,ly,jv,kf]]⟩
      ·
       have f5:Gd ts p q=true:=by simpa using hc2
       apply aK 19 [2] m;simp only[↓aD,ak];refine⟨by omega,?_⟩;refine aT O O ?_;try simp only[zD,zE]
       exact⟨_,O,m.ext,by rw[show dK ts p q=true by unfold dK;simp only[f0,f1,f2,f3,f4,f5,jn,iv,ly,jv,kf]]⟩
end Go.Proofs.YtfekpcimgncioaaGreatDoor
