/-
 Texts of one claim, laid together: K27, K28, Maps2, K29, K61, K62, Meas1, RefG1, RefF, K41, K36, K42, K43, K44, K45, K63, K34, Open5, K35, K65, Open7, K66, Join.
-/
import Derived.OpenVars
import Derived.OpenShut
import Derived.WalkKit
import Derived.ProofKit
import Derived.Test.YtfekpcimgncioaaGreatDoorCS7
open Nat renaming reduceAdd→aa,reduceMul→ad,le_refl→ap,zero_add→aq,zero_le→cd,lt_succ_self→dq
open Int renaming reduceToNat→ab,toNat_natCast→ag,reduceAdd→ai,tmod_eq_emod_of_nonneg→gv
open Go renaming Value→ac,World→ah,TypeId→aj,wpList→ao,MapEntry→bx,wpQuiet→bz
open List renaming mem_cons→ak,length_cons→au,flatMap_append→av,length_append→aw,mem_singleton→ay,mem_of_getElem?→ba,take_of_length_le→be,mem_append→bg,map_cons→bn,length_nil→bt,nil_append→bv,not_mem_nil→bw,cons_append→b_,map_append→cl,length_map→ct,map_nil→c_,length_set→dl,mem_iff_getElem?→dm,map_toArray→fb,mem_map_of_mem→fe,mem_append_right→fj,take_length→fy,map_congr_left→ij,mem_of_mem_take→jh,nodup_nil→jw
open Go.Value renaming bool→bf,okWide→lu,cells→nw
open Bool renaming and_eq_true→bh,not_false→ei,and_false→gw
open Option.some renaming inj→fw
set_option maxHeartbeats 8000000
set_option linter.unusedSimpArgs false
set_option linter.unusedVariables false
set_option linter.unusedSectionVars false
namespace Go.Proofs.YtfekpcimgncioaaGreatDoor
open Go.Proofs.Tryz
open Go.RowKit Go.Lith
set_option maxRecDepth 100000
attribute [local irreducible] ao bz eZ bE bX Code.wp
attribute [local congr] nO fF fG fH fI fJ jH fK fL fM fN fO fP fQ fR fS fT fU dX dY fV fW fY fZ gA jJ cO cP cA cN fX jI dZ eA eB gB gC jK
theorem age:pI prog 56 ed:=by
 refine pI.agg (cs:=fun p=>#[.int .i64 p.1.x,.int .i64 p.1.y,.int .i64 p.1.z,.int .i64 p.2.x,.int .i64 p.2.y,.int .i64 p.2.z]) (fun _=>rfl) Ge (fun e p=>?_) (fun p q=>?_) (fun p=>?_)
 · refine tA.array (d:=9999) Ge aA fun i hi=>?_
   obtain rfl | rfl:=(by omega:i=0∨i=1)
   · refine⟨_,bZ aG aA rfl,?_⟩
     refine tA.struct (d:=9998) rK fun f hf=>?_;simp only[ak,bw,or_false] at hf;rcases hf with rfl | rfl | rfl
     · exact⟨_,cB bN rfl,tA.int (d:=9997) jN⟩
     · exact⟨_,cB bN rfl,tA.int (d:=9997) jN⟩
     · exact⟨_,cB bN rfl,tA.int (d:=9997) jN⟩
   · refine⟨_,bZ aG aA rfl,?_⟩
     refine tA.struct (d:=9998) rK fun f hf=>?_;simp only[ak,bw,or_false] at hf;rcases hf with rfl | rfl | rfl
     · exact⟨_,cB bN rfl,tA.int (d:=9997) jN⟩
     · exact⟨_,cB bN rfl,tA.int (d:=9997) jN⟩
     · exact⟨_,cB bN rfl,tA.int (d:=9997) jN⟩
 · exact (adX _).iff ⟨fun h=>Prod.ext (P3.eq h.1 h.2.1 h.2.2.1) (P3.eq h.2.2.2.1 h.2.2.2.2.1 h.2.2.2.2.2),fun h=>by subst h;simp only[and_self]⟩
 · simp[ed,Instr.sameBits]
theorem aoS:mC prog 95 (W 0):=by rw[Qk];exact Qw
theorem abn:mC prog 97 (qV q0):=by rw[←zqV];exact ag0
def nU(D:List (E3 × Int))(Q:P3→List Int):Prop:=∀k v,bU D k=some v→v=pC Q k.1 k.2
theorem nU.put{D:List (E3 × Int)}{Q:P3→List Int}(h:nU D Q)(p q:P3):nU (eP D (p,q) (pC Q p q)) Q:=fun k v hv=>by
 rw[kL] at hv;split at hv
 · rename_i e;cases e;cases hv;rfl
 · exact h k v hv
structure QOK(Dq:List (P3 × List Int))(Q:P3→List Int)(B:Nat):Prop where
 get:∀x,(bU Dq x).getD q0=Q x
 len:∀x,(Q x).length=10
 bd:∀x,Bj B (Q x)
theorem amG{w0 w:ah}{R0:It}{g60 g61 q60 q61 c60 c61 B:Nat}{es60 es61:Array bx}{Dc:List (E3 × Int)}{Dq:List (P3 × List Int)}{Q:P3→List Int}{p q:P3}[I3 p][I3 q](m:Mem w0 w [bI g60 [.map (some q60)] 100,bI g61 [.map (some q61)] 93,mI q60 es60 c60,mI q61 es61 c61,R0])(hD60:bB ed W Dc es60 c60)(hD61:bB pt qV Dq es61 c61)(hC:nU Dc Q)(hnC:(Dc.map (·.1)).Nodup)(hQ:QOK Dq Q B)(hB:B≤800000):sN prog 59 [pt p,pt q,.pointer (some ⟨g60,0,none⟩),.pointer (some ⟨g61,0,none⟩)] w fun v w'=>∃(es:Array bx) (c:Nat) (D:List (E3 × Int)),v=W (pC Q p q)∧Mem w0 w' [bI g60 [.map (some q60)] 100,bI g61 [.map (some q61)] 93,mI q60 es c,mI q61 es61 c61,R0]∧bB ed W D es c∧nU D Q∧(D.map (·.1)).Nodup:=by
 refine⟨anv,?_⟩;obtain rfl:(fun x=>(bU Dq x).getD q0)=Q:=funext hQ.get;have hlp:((bU Dq p).getD q0).length=10:=hQ.len p;have hlq:((bU Dq q).getD q0).length=10:=hQ.len q;have hbp:Bj B ((bU Dq p).getD q0):=hQ.bd p;have hbq:Bj B ((bU Dq q).getD q0):=hQ.bd q
 go_enter func59,ntmps59
 refine eS 12 [3,2,1,0] m ?_;simp only[↓aD,↓dU,rT,Rz,aR,Aq,aa];intro g71 g72 g73;intro u m;refine eQ (Oi (ek:=ed) (en:=W) (k:=(p,q)) (v0:=0) underlying100 aoS age rfl rfl (m.p 5 rfl) hD60) ?_;simp only[zz];refine aP 13 [0,0] m ?_;simp only[↓aD,↓dU,rT,iT,aa];intro g74;intro u m;refine dQ rfl (fun hc1=>?_) (fun hc1=>?_)
 · skip
   refine aS 1 [0] m ?_;simp only[↓aD];intro u m;refine cL m 9 aC (by kernel_rfl) ?_;simp only[zy];refine ql rfl (fun u m=>((m.b 5 rfl).lies1 adR rfl)) ?_;simp only[zz];refine ql rfl (fun u m=>((m.b 3 rfl).full aG aA)) ?_;simp only[zz];refine jC (fun u m=>dK (ek:=pt) (en:=qV) (k:=p) (v0:=q0) Jp abn fB rfl rfl (m.p 7 rfl) hD61) ?_;simp only[zz];refine ql rfl (fun u m=>((m.b 5 rfl).lies1 adR rfl)) ?_;simp only[zz];refine ql rfl (fun u m=>((m.b 2 rfl).full aG aA)) ?_;simp only[zz];refine jC (fun u m=>dK (ek:=pt) (en:=qV) (k:=q) (v0:=q0) Jp abn fB rfl rfl (m.p 7 rfl) hD61) ?_;simp only[zz];refine iF rfl rfl (aad hlp hlq hbp hbq (by omega)) ?_;simp only[zz];refine ql rfl (fun u m=>((m.b 2 rfl).full aG aA)) ?_;simp only[zz];refine iF rfl rfl (aoQ (Hw hbp hbq) (jT hlp hlq) (by omega)) (aY ?_);clear m;intro u m;simp only[zz];refine cD m 0 rfl rfl rfl aT (jE rfl) rfl ?_;clear m;intro u m;simp only[zy,zx,over,zF,zG,aa] at m;refine aL (cR 6 [4,3,2,0,0] m ?_);simp only[↓aD,↓dU,Rz,aR,Aq,iT,aa];intro u m;refine lE (ek:=ed) (en:=W) (a:=(p,q)) (v:=(pC (fun x=>(bU Dq x).getD q0) p q)) m 6 rfl underlying100 age rfl rfl rfl hD60 ?_;clear m;intro es60 c60 u m hD';clear hD60;have hD60:=hD';clear hD';simp only[zF,zG] at m;refine aP 7 [0,1] m ?_;simp only[↓aD,↓dU,iT,aa];intro u m;exact aQ rfl ⟨_,rfl,((m.b 1 rfl).full dP aT)⟩ (⟨_,rfl,_,_,_,rfl,m.sel [false,false,false,false,true,true,true,true,true],hD60,hC.put p q,rL hnC _ _⟩)
 · skip
   obtain⟨y,hy⟩:∃y,bU Dc (p,q)=some y:=Option.isSome_iff_exists.1 (by simpa using hc1);obtain rfl:=hC _ _ hy;simp only[hy,Option.getD_some] at m;refine aS 7 [0,1] m ?_;simp only[↓aD,↓dU,iT,aa];intro u m;exact aQ rfl ⟨_,rfl,((m.b 1 rfl).full dP aT)⟩ (⟨_,rfl,_,_,_,rfl,m.sel [false,false,false,false,true,true,true,true,true],hD60,hC,hnC⟩)
theorem agf{K V:Type}[DecidableEq K]{ek:K→ac}{ev:V→ac}{D dn rs:List (K × V)}{es:Array bx}{b:Bool}{sn:Array Nat}(hb:b=false)(h:aig ek ev D es dn rs b sn):rs=[]:=by
 rcases h with ⟨_,h⟩ | ⟨h,_⟩
 · exact h
 · rw[h] at hb;cases hb
theorem agh{K V:Type}[DecidableEq K]{ek:K→ac}{ev:V→ac}{D dn rs:List (K × V)}{es:Array bx}{b:Bool}{sn:Array Nat}(hb:b=true)(h:aig ek ev D es dn rs b sn):∃k v rs',rs.Perm ((k,v)::rs')∧tY ek ev D es sn dn k v rs':=by
 rcases h with ⟨h,_⟩ | ⟨_,h⟩
 · rw[h] at hb;cases hb
 · exact h
theorem aii(a b:P3):decide (a.x=b.x∧a.y=b.y∧a.z=b.z)=decide (a=b):=decide_eq_decide.2 ⟨fun h=>P3.eq h.1 h.2.1 h.2.2,fun h=>by rw[h];exact⟨rfl,rfl,rfl⟩⟩
def agi(v:P3)(k:E3):Bool:=decide (k.1=v)||decide (k.2=v)
theorem agj{k:E3}{x:Int}{cc:jW}{g16:Nat}(w:ah)(hB16:fA w g16 (pM cc) 112):dF prog 67 [ed k,W x,.pointer (some ⟨g16,0,none⟩)] w (fun v _=>v=.bool (agi cc.v k)):=by
 refine⟨anE,?_⟩;have m:=Mem.refl w
 go_enter func67,ntmps67
 refine eS 11 [1,0] m ?_;simp only[↓aD,↓dU,Kn,aR,rU,ab,ad,aa];intro g1 g2;refine⟨by omega,?_⟩;intro u m;refine aO rfl ((hB16.ext m.ext).lies aG aA rfl rfl) ?_;simp only[zz,zy,aq,aa,ad,ab];refine aB (cG rfl rfl) (aP 1 [0] m ?_);simp only[↓aD];intro u m;refine dG rfl (fun hb=>aJ Ge aA rfl rfl (by decide) (by decide) rfl) ?_;simp only[zz];refine eV rfl (fun hb=>aW (bD hb rfl) ((m.b 1 rfl).lies aG aA rfl rfl)) ?_;simp only[zz,zy,aq,aa,ad,ab];refine dG rfl (fun hb=>aZ (c:=2) uK rfl aA rfl rfl) ?_;simp only[zz];refine eV rfl (fun hb=>aW (bD hb rfl) ((hB16.ext m.ext).lies aG aA rfl rfl)) ?_;simp only[zz,zy,aq,aa,ad,ab];refine dG rfl (fun hb=>cG (bD hb rfl) (bD hb rfl)) (aB (dW rfl rfl rfl) ?_);refine aP 3 [] m ?_;simp only[↓aD];intro u m;refine aQ rfl rfl ?_;try simp only[zD,zE]
 exact⟨_,rfl,m.ext,by rw[aii,aii];rfl⟩
theorem agk{w0 w:ah}{R0:It}{g16 q60 c60:Nat}{es60:Array bx}{D0:List (E3 × Int)}{cc:jW}(m:Mem w0 w [mI q60 es60 c60,bI g16 (pM cc) 112,R0])(hD60:bB ed W D0 es60 c60)(hn0:(D0.map (·.1)).Nodup):sN prog 66 [.map (some q60),.func (.func 67) #[] #[.pointer (some ⟨g16,0,none⟩)]] w fun v w'=>∃(es:Array bx) (D:List (E3 × Int)),v=.tuple #[]∧Mem w0 w' [mI q60 es c60,bI g16 (pM cc) 112,R0]∧bB ed W D es c60∧(D.map (·.1)).Nodup∧∀k v,bU D k=some v→bU D0 k=some v∧agi cc.v k=false:=by
 refine⟨anD,?_⟩
 go_enter func66,ntmps66
 refine eS 3 [0] m ?_;simp only[↓aD];intro u m;refine sU m underlying100 rfl (m.p 0 rfl) ?_;clear m;intro r1 u m;refine aP 2 [0] m ?_;simp only[↓aD];intro u m;refine bW [] [4,5,8,9,10,11,12,13,14,15,16,17,18] (fun n vs wl=>∃(D dn rs:List (E3 × Int)) (sn:Array Nat) (es:Array bx),vs=[]∧Mem w0 wl [iI r1 q60 c60 sn,mI q60 es c60,bI g16 (pM cc) 112,R0]∧(bB ed W D es c60)∧((D.map (·.1)).Nodup)∧(pW ed W D es sn dn rs)∧(∀x∈dn,agi cc.v x.1=false)∧(∀k v,bU D k=some v→bU D0 k=some v)∧(n=rs.length)) ?_ ?_
 · skip
   apply Exists.intro;simp only[zQ,zR,zD,zE];exact⟨D0,[],D0,#[],es60,trivial,m,hD60,hn0,pW.start hD60,(fun x h=>(by cases h)),(fun _ _ h=>h),rfl⟩
 · intro n vs wr hI u K1 hK1
   clear m;obtain⟨D,dn,rs,sn,es60,rfl,m,hD60,hnD,hT,hb0,hs0,hn⟩:=hI;simp only[zu,zF,zG];refine aS 2 [0] m ?_;simp only[↓aD];intro u m;refine agb m 0 rfl rfl (m.p 1 rfl) hD60 hT ?_;clear m;intro bb kk vv sn u m hN;simp only[zF,zG] at m;refine aB (nN rfl) (aP 2 [0] m ?_);simp only[↓aD];intro u m;refine dQ rfl (fun hc1=>?_) (fun hc1=>?_)
   · skip
     obtain⟨kp,kb,rs2,hp,hT2⟩:=agh hc1 hN;refine aS 4 [0] m ?_;simp only[↓aD];intro u m;refine eQ (Wo rfl (m.r 0 rfl) (m.p 1 rfl) hD60 hT2) ?_;simp only[zz];refine aP 12 [1,0,1,0,0] m ?_;simp only[↓aD,↓dU,Pa,rT,An,iT,aa];intro g72 g73;intro u m;refine cW m rfl rfl (agj (k:=kp) (x:=kb) _ (m.b 4 rfl)) ?_;clear m;rintro v u m rfl;refine aP 1 [0] m ?_;simp only[↓aD];intro u m;refine dQ rfl (fun hc2=>?_) (fun hc2=>?_)
     · skip
       refine aS 3 [1,0] m ?_;simp only[↓aD,↓dU,An];intro u m;refine agc (ek:=ed) (ev:=W) (a:=kp) m 3 rfl underlying100 age rfl rfl hD60 hnD hT2 rfl ?_;clear m;intro es60 u m hD' hT';clear hD60;have hD60:=hD';clear hD';simp only[zF,zG] at m;refine aP 2 [0] m ?_;simp only[↓aD];intro u m;refine hK1 rs2.length _ _ ?_ ?_ ?_
       · rw[hn,hp.length_eq];exact dq _
       · simp only[zz,zv]
       · simp only[zQ,zR,zD,zE]
         exact⟨wR D kp,dn,rs2,_,_,trivial,(m.sel [false,false,true,true,true,true]),hD60,Yf hnD kp,hT',hb0,(fun k v h=>hs0 k v (by rw[Og _ _ hnD] at h;split at h;cases h;exact h)),rfl⟩
     · skip
       refine aS 2 [0] m ?_;simp only[↓aD];intro u m;refine hK1 rs2.length _ _ ?_ ?_ ?_
       · rw[hn,hp.length_eq];exact dq _
       · simp only[zz,zv]
       · simp only[zQ,zR,zD,zE]
         exact⟨D,dn++[(kp,kb)],rs2,_,_,trivial,(m.sel [false,false,true,true,true,true]),hD60,hnD,hT2.stay,(fun x hx=>(bg.1 hx).elim (hb0 x) fun h=>(by rw[ay.1 h];exact hc2)),hs0,rfl⟩
   · skip
     obtain rfl:=agf hc1 hN;refine aS 1 [0] m ?_;simp only[↓aD];intro u m;exact zY rfl (⟨_,rfl,_,D,rfl,m.sel [false,true,true,true],hD60,hnD,fun k v h=>⟨hs0 k v h,hb0 (k,v) (hT.done.mem_iff.2 (wS h))⟩⟩)
end Go.Proofs.YtfekpcimgncioaaGreatDoor
namespace Go.Proofs.YtfekpcimgncioaaGreatDoor
open Go.Proofs.Tryz
open Go.RowKit Go.Lith
set_option maxRecDepth 100000
attribute [local irreducible] ao bz eZ bE bX Code.wp
theorem aij{B:Nat}{Q:P3→List Int}(hl:∀x,(Q x).length=10)(hb:∀x,Bj B (Q x))(hB:B≤800000)(u:P3){v:P3}(hv:I3 v):Bd 900000 (pC Q u v):=by
 unfold pC;rw[←aew (jT (hl u) (hl v))];exact (Yv (Hw (hb u) (hb v)) (jT (hl u) (hl v)) (bd4 hv) rfl 10 (ap _)).mono (by omega)
theorem QOK.upd{Dq:List (P3 × List Int)}{Q:P3→List Int}{B:Nat}(h:QOK Dq Q B)(u v:P3):QOK (eP Dq v (yV (Q u) (Q v))) (Rt Q u v) (B+1) where
 get x:=by
  rw[kL];unfold Rt;by_cases e:v=x
  · rw[if_pos e,if_pos e.symm];rfl
  · rw[if_neg e,if_neg fun k=>e k.symm];exact h.get x
 len x:=by
  unfold Rt;split
  · exact jT (h.len u) (h.len v)
  · exact h.len x
 bd x:=by
  unfold Rt;split
  · exact Hw (h.bd u) (h.bd v)
  · exact (h.bd x).mono (Nat.le_succ B)
theorem QOK.mono{Dq:List (P3 × List Int)}{Q:P3→List Int}{B C:Nat}(h:QOK Dq Q B)(hB:B≤C):QOK Dq Q C:=⟨h.get,h.len,fun x=>(h.bd x).mono hB⟩
theorem nU.upd{D D1:List (E3 × Int)}{Q:P3→List Int}{u v:P3}(h:nU D Q)(h1:∀k x,bU D1 k=some x→bU D k=some x∧agi v k=false):nU D1 (Rt Q u v):=fun k x hx=>by
 obtain⟨h2,h3⟩:=h1 k x hx;rw[h k x h2];simp only[agi,Bool.or_eq_false_iff,decide_eq_false_iff_not] at h3;unfold pC Rt;rw[if_neg h3.1,if_neg h3.2]
theorem nU.nil(Q:P3→List Int):nU [] Q:=fun _ _ h=>by cases h
/-! ### The quadrics of the corners -/
def Dy(l:List T3)(S:List P3)(Dq:List (P3 × List Int)):Prop:=∀x,(bU Dq x).getD q0=if x∈S then rY l x else q0
theorem Dy.nil(l:List T3):Dy l [] []:=fun _=>rfl
theorem Dy.put{l:List T3}{ps:List P3}{k:Nat}{p:P3}{Dq:List (P3 × List Int)}(h:Dy l (ps.take k) Dq)(hp:ps[k]? = some p):Dy l (ps.take (k+1)) (eP Dq p (rY l p)):=fun x=>by
 rw[kL,cC hp];by_cases e:p=x
 · subst e
   rw[if_pos rfl,if_pos (fj _ (ay.2 rfl))];rfl
 · rw[if_neg e,h x]
   have:x∈ps.take k++[p]↔x∈ps.take k:=by
    rw[bg,ay];exact⟨fun h=>h.resolve_right fun k=>e k.symm,.inl⟩
   simp only[this]
theorem agl{l:List T3}{p:P3}(h:p∉dL l):rY l p=q0:=by
 unfold rY;rw[List.filter_eq_nil_iff.2 fun t ht hp=>h (tP ht hp)];rfl
theorem Dy.ok{l:List T3}{ps:List P3}{Dq:List (P3 × List Int)}(h:Dy l ps Dq)(hps:∀a,a∈ps↔a∈dL l)(hI:∀t∈l,IT t):QOK Dq (rY l) (602+l.length) where
 get x:=by
  rw[h x];split
  · rfl
  · rename_i e;rw[agl fun k=>e ((hps x).2 k)]
 len x:=by have:=vD (ts:=l) (p:=x) l.length (ap _);rwa [fy] at this
 bd x:=by have:=Ta (p:=x) hI l.length (ap _);rwa [fy] at this
theorem Dz{l:List T3}(hI:∀t∈l,IT t){p:P3}(h:p∈dL l):I3 p:=by
 obtain⟨t,ht,hp⟩:=List.mem_flatMap.1 (show p∈l.flatMap fun t=>[t.a,t.b,t.c] from h);have:=hI t ht;simp only[ak,bw,or_false] at hp;rcases hp with rfl | rfl | rfl
 · exact this.a
 · exact this.b
 · exact this.c
theorem Tf{l:List T3}{p q:P3}(h:Rq l p q=true):p∈dL l∧q∈dL l:=by
 simp only[Rq,bh,aei,List.any_eq_true] at h;obtain⟨_,t,ht,h⟩:=h;exact⟨tP ht h.1,tP ht h.2⟩
/-! ### Candidates -/
def zW(l:List T3)(Q:P3→List Int)(S:List P3)(cs:List jW):Prop:=∀d,d∈cs↔d.u∈S∧Xb (bY l) d.u=false∧Rq l d.u d.v=true∧d.c=pC Q d.u d.v
def aal(l:List T3)(Q:P3→List Int)(S:List P3)(p:P3)(S2:List P3)(cs:List jW):Prop:=∀d,d∈cs↔(d.u∈S∧Xb (bY l) d.u=false∧Rq l d.u d.v=true∧d.c=pC Q d.u d.v)∨(d.u=p∧d.v∈S2∧d.c=pC Q d.u d.v)
theorem zW.nil(l:List T3)(Q:P3→List Int):zW l Q [] []:=fun d=>by simp
theorem zW.skip{l:List T3}{Q:P3→List Int}{S:List P3}{cs:List jW}{p:P3}(h:zW l Q S cs)(hb:Xb (bY l) p=true):zW l Q (S++[p]) cs:=fun d=>by
 rw[h d];constructor
 · rintro⟨h1,h2⟩;exact⟨List.mem_append_left _ h1,h2⟩
 · rintro⟨h1,h2,h3⟩
   rcases bg.1 h1 with h1 | h1
   · exact⟨h1,h2,h3⟩
   · rw[ay.1 h1,hb] at h2;cases h2
theorem zW.start{l:List T3}{Q:P3→List Int}{S:List P3}{cs:List jW}(h:zW l Q S cs)(p:P3):aal l Q S p [] cs:=fun d=>by rw[h d];simp
theorem aal.put{l:List T3}{Q:P3→List Int}{S S2:List P3}{cs:List jW}{p q:P3}(h:aal l Q S p S2 cs):aal l Q S p (S2++[q]) (cs++[⟨p,q,pC Q p q⟩]):=fun d=>by
 rw[bg,h d,bg,ay,ay];constructor
 · rintro ((h1 | ⟨h1,h2,h3⟩) | rfl)
   · exact .inl h1
   · exact .inr ⟨h1,.inl h2,h3⟩
   · exact .inr ⟨rfl,.inr rfl,rfl⟩
 · rintro (h1 | ⟨h1,h2 | h2,h3⟩)
   · exact .inl (.inl h1)
   · exact .inl (.inr ⟨h1,h2,h3⟩)
   · refine .inr ?_
     obtain⟨du,dv,dc⟩:=d;simp only at h1 h2 h3;subst h1;subst h2;subst h3;rfl
theorem aal.done{l:List T3}{Q:P3→List Int}{S S2:List P3}{cs:List jW}{p:P3}(h:aal l Q S p S2 cs)(hb:Xb (bY l) p=false)(hS:∀x,x∈S2↔Rq l p x=true):zW l Q (S++[p]) cs:=fun d=>by
 rw[h d,bg,ay];constructor
 · rintro (⟨h1,h2⟩ | ⟨h1,h2,h3⟩)
   · exact⟨.inl h1,h2⟩
   · rw[hS] at h2;subst h1;exact⟨.inr rfl,hb,h2,h3⟩
 · rintro⟨h1 | h1,h2,h3,h4⟩
   · exact .inl ⟨h1,h2,h3,h4⟩
   · refine .inr ⟨h1,?_,h4⟩;rw[hS,←h1];exact h3
theorem zW.all{l:List T3}{Q:P3→List Int}{S:List P3}{cs:List jW}(h:zW l Q S cs)(hS:∀x,x∈S↔x∈dL l)(d:jW):d∈cs↔d∈Vb l Q:=by
 rw[h d,Ru,hS];exact⟨fun h=>h.2,fun h=>⟨(Tf h.2.1).1,h⟩⟩
/-! ### The moves -/
def xU(S:List P3)(u v:P3)(D:List Mv):List Mv:=D.map fun e=>(e.1,if e.1∈S then Bg u v e.2 else e.2)
theorem Wp(u v:P3)(D:List Mv):xU [] u v D=D:=by simp[xU]
theorem yP(S:List P3)(u v:P3)(D:List Mv):(xU S u v D).map (·.1)=D.map (·.1):=by simp[xU,Function.comp_def]
theorem agm{S:List P3}{u v:P3}{D:List Mv}(h:∀e∈D,e.1∈S):eP (xU S u v D) u v=toF D u v:=by
 unfold xU toF;rw[ij fun e he=>by rw[if_pos (h e he)]]
theorem Wq{K V:Type}[DecidableEq K]:∀{D:List (K × V)} {k:K} {x:V},(D.map (·.1)).Nodup→k∈D.map (·.1)→eP D k x=D.map fun e=>(e.1,if e.1=k then x else e.2)
 | [],_,_,_,h=>by cases h
 | e::D,k,x,hn,h=>by
  rw[bn,List.nodup_cons] at hn;by_cases hk:e.1=k
  · subst hk
    have:∀f∈D,((f.1,if f.1=e.1 then x else f.2):K × V)=f:=fun f hf=>by
     rw[if_neg fun k:f.1=e.1=>hn.1 (by rw[←k];exact fe (f:=fun x:K × V=>x.1) hf)]
    simp only[eP,bn,if_pos];rw[ij this,List.map_id']
  · have h2:k∈D.map (·.1):=by
     rcases ak.1 h with h | h
     · exact absurd h.symm hk
     · exact h
    simp only[eP,bn,if_neg hk];rw[Wq hn.2 h2]
theorem agn{S:List P3}{u v k x:P3}{D:List Mv}(hn:(D.map (·.1)).Nodup)(hk:(k,x)∈xU S u v D)(hS:k∉S)(hx:x=u):eP (xU S u v D) k v=xU (S++[k]) u v D:=by
 have hk1:k∈(xU S u v D).map (·.1):=fe (f:=(·.1)) hk;rw[Wq (by rw[yP];exact hn) hk1];unfold xU at hk ⊢;obtain⟨e,he,h⟩:=List.mem_map.1 hk;cases h;rw[if_neg hS] at hx;rw[List.map_map];refine ij fun f hf=>?_;simp only[Function.comp_apply];by_cases hfe:f.1=e.1
 · have:f=e:=by
    obtain⟨i,hi⟩:=dm.1 hf;obtain⟨j,hj⟩:=dm.1 he;have h1:i=j:=Ma hn (k:=e.1) (v:=f.2) (u:=e.2) (by rw[hi,←hfe]) hj;rw[h1,hj] at hi;exact (fw hi).symm
   subst this;rw[if_pos rfl,if_pos (fj S (ay.2 rfl))];unfold Bg;rw[if_pos hx]
 · rw[if_neg hfe]
   have:f.1∈S++[e.1]↔f.1∈S:=by simp[hfe]
   simp only[this]
theorem acV{S:List P3}{u v k x:P3}{D:List Mv}(hn:(D.map (·.1)).Nodup)(hk:(k,x)∈xU S u v D)(hS:k∉S)(hx:x≠u):xU S u v D=xU (S++[k]) u v D:=by
 unfold xU at hk ⊢;obtain⟨e,he,h⟩:=List.mem_map.1 hk;cases h;rw[if_neg hS] at hx;refine ij fun f hf=>?_;by_cases hfe:f.1=e.1
 · have:f=e:=by
    obtain⟨i,hi⟩:=dm.1 hf;obtain⟨j,hj⟩:=dm.1 he;have h1:i=j:=Ma hn (k:=e.1) (v:=f.2) (u:=e.2) (by rw[hi,←hfe]) hj;rw[h1,hj] at hi;exact (fw hi).symm
   subst this;rw[if_neg hS,if_pos (fj S (ay.2 rfl))];unfold Bg;rw[if_neg hx]
 · have:f.1∈S++[e.1]↔f.1∈S:=by simp[hfe]
   simp only[this]
theorem ago{V:Type}{ek:P3→ac}{ev:V→ac}{D dn rs:List (P3 × V)}{es:Array bx}{sn:Array Nat}{k:P3}{x:V}(hn:(D.map (·.1)).Nodup)(h:tY ek ev D es sn dn k x rs):k∉dn.map (·.1)∧(k,x)∈D:=by
 have hp:=h.1.1;refine⟨fun hk=>?_,hp.mem_iff.1 (by simp)⟩;have h1:=(hp.map (·.1)).nodup_iff.2 hn;simp only[cl,bn,c_,List.append_assoc] at h1;exact (List.nodup_append.1 h1).2.2 k hk k (by simp) rfl
theorem amH{D:List Mv}(hn:(D.map (·.1)).Nodup)(u v:P3):((toF D u v).map (·.1)).Nodup:=by
 unfold toF;exact rL (by rw[List.map_map];exact hn) u v
theorem acW{l:List T3}{want:Int}{Q:P3→List Int}{D:List Mv}{c:jW}(hw:0≤want)(h:¬(l.length:Int)≤want)(hb:sK l Q=some c) :
 kJ l.length want l Q D=kJ (yU l c.u c.v).length want (yU l c.u c.v) (Rt Q c.u c.v) (toF D c.u c.v):=by
 have h1:=oH hb;obtain⟨n,hn⟩:∃n,l.length=n+1:=⟨l.length-1,by omega⟩
 rw[hn]
 conv=>lhs;unfold kJ
 rw[if_neg h,hb];exact Ov n _ want _ _ _ (by omega) (ap _) hw
theorem Ws{l:List T3}{want:Int}{Q:P3→List Int}{D:List Mv}(h:(l.length:Int)≤want∨sK l Q=none):kJ l.length want l Q D=(l,D):=by
 rcases h with h | h
 · exact aer h
 · cases hl:l.length with
   | zero=>rfl
   | succ n =>
    unfold kJ;split
    · rfl
    · rw[h]
theorem amI{w0 w:ah}{K R0:It}{g50 g90 ga gf N cap ca cf:Nat}{A:Option Addr}{ea ef:Array bx}{D:List (P3 × Hd)}{F:List (P3 × Bool)}{ts:List T3}{cs:List jW}{n1 c1:Nat}{A1:Option Addr}{Q:P3→List Int}{B:Nat}(m:Mem w0 w [oI 112 8 A1 n1 c1 (cs.flatMap pM),bI g50 [.pointer (some ⟨g90,0,none⟩)] 88,K,oI 39 9 A N cap (ts.flatMap aK),R0])(hK:∀u,K.P u→Du 109 u g90 ga gf A N cap ea ef ca cf D ts)(hD:Ls ea ef ca cf D F ts)(hnd:∀t∈ts,t.nd=true)(hIT:∀t∈ts,IT t)(hN:ts.length≤1000000)(hl:∀x,(Q x).length=10)(hb:∀x,Bj B (Q x))(hB:B≤800000)(hC:zW ts Q (D.map (·.1)) cs)(hn1:n1≤100000000) :
 sN prog 63 [.slice A1 n1 c1,.func (.func 64) #[] #[],.func (.func 65) #[] #[.pointer (some ⟨g50,0,none⟩)]] w fun v w'=>∃(c:jW) (b:Bool),v=.tuple #[Te c,.bool b]∧Mem w0 w' [bI g50 [.pointer (some ⟨g90,0,none⟩)] 88,K,oI 39 9 A N cap (ts.flatMap aK),R0]∧((b=false∧sK ts Q=none)∨(b=true∧sK ts Q=some c∧I3 c.u∧I3 c.v)):=by
 have hall:=hC.all (fun x=>hD.k x);have hI:∀c∈cs,I3 c.u∧I3 c.v:=fun c hc=>by
  have:=Tf ((hC c).1 hc).2.2.1;exact⟨Dz hIT this.1,Dz hIT this.2⟩
 refine (amF m hK hD hnd hIT hN hI (fun c hc=>by rw[((hC c).1 hc).2.2.2];exact aij hl hb hB c.u (hI c hc).2) hn1).mono ?_;rintro v w' ⟨h1,⟨rfl,h2⟩ | ⟨c,ys,j,rfl,hys,hso,hc,ha,hq⟩⟩
 · exact⟨⟨⟨0,0,0⟩,⟨0,0,0⟩,0⟩,false,by simp only[Te,pM,Eg];rfl,h1,.inl ⟨rfl,Zg hall h2⟩⟩
 · refine⟨c,true,rfl,h1,.inr ⟨rfl,Zf (fun d=>by rw[hys.mem_iff];exact hall d) hso hc ha hq,hI c (hys.mem_iff.1 (ba hc))⟩⟩
end Go.Proofs.YtfekpcimgncioaaGreatDoor
namespace Go.Proofs.YtfekpcimgncioaaGreatDoor
open Go.Proofs.Tryz
open Go.RowKit Go.Lith
set_option maxRecDepth 100000
attribute [local irreducible] ao bz eZ bE bX Code.wp
attribute [local congr] nO fF fG fH fI fJ jH fK fL fM fN fO fP fQ fR fS fT fU dX dY fV fW fY fZ gA jJ cO cP cA cN fX jI dZ eA eB gB gC jK
theorem aam{ts:List T3}{N cap:Nat}{A:Option Addr}(w:ah)(hT:bK w A N ts)(hN:N≤300000):dF prog 57 [.slice A N cap] w (OR 30 3 (fun xs=>∃ps:List P3,xs=ps.flatMap dN∧rN ps∧∀a,a∈ps↔a∈dL ts) w):=by
 refine⟨ant,?_⟩;have m:=Mem.refl w
 go_enter func57,ntmps57
 refine eS 6 [0] m ?_;simp only[↓aD];intro u m;refine kH m ?_;clear m;intro q8 u m;have hD8:=bB.nil (K:=P3) (V:=Bool) pt bf;refine aP 10 [0] m ?_;simp only[↓aD,iS];intro u m;refine bW [11] [5,7,12,13,14,15,16,17,18,19,20,21,22,23] (fun n vs wl=>∃(k:Nat) (es:Array bx) (c:Nat),vs=[.int .i64 (k:Int)]∧Mem w wl [mI q8 es c]∧(bB pt bf (wU [] (dL (ts.take k))) es c)∧(k≤N)∧(n=N-k)) ?_ ?_
 ·
  apply Exists.intro;simp only[zQ,zR,zD,zE];exact⟨0,_,_,rfl,m,hD8,cd _,rfl⟩
 ·
  intro n vs wr hI u K1 hK1;clear m;obtain⟨k,es,c,rfl,m,hD8,hk,hn⟩:=hI;simp only[zu,zF,zG];refine aS 5 [0,0] m ?_;simp only[↓aD];intro u m;refine bC rfl (fun hc1=>?_) (fun hc1=>?_)
  ·
   obtain⟨t,ht,_,a,rfl,hrow⟩:=hT.get (i:=k) (by omega);refine aS 5 [0] m ?_;simp only[↓aD];intro u m;refine aB (aF bT aN rfl rfl (by omega) (by omega) (cI (ag _))) ?_;simp only[zz];refine aO rfl (((hrow.ext m.ext)).lies cF aN) ?_;simp only[zz];refine aP 22 [0,0,4,1,0] m ?_;simp only[↓aD,mU,gZ,aa];intro g2;refine⟨by omega,?_⟩;intro u m;refine aB (qG rfl rfl) (aP 6 [0,0,0] m ?_);simp only[↓aD,eU,aR,aa];intro g3;intro u m;refine kP m 2 Xs rfl rfl (fun m=>Zj (p:=t.a) m 2 rfl hD8) ?_;clear m;rintro v i u m ⟨rfl,es',c',rfl,hD'⟩;simp only[zF,zG] at m;simp only[zz];clear hD8;have hD8:=hD';clear hD';refine aP 18 [1,0] m ?_;simp only[↓aD,ai];refine⟨by omega,?_⟩;intro u m;refine aB (qH rfl rfl) (aP 6 [0,0,0] m ?_);simp only[↓aD,eU,aR,aa];intro g4;intro u m;refine kP m 3 Xs rfl rfl (fun m=>Zj (p:=t.b) m 3 rfl hD8) ?_;clear m;rintro v i u m ⟨rfl,es',c',rfl,hD'⟩;simp only[zF,zG] at m;simp only[zz];clear hD8;have hD8:=hD';clear hD';refine aP 18 [1,0] m ?_;simp only[↓aD,ai];refine⟨by omega,?_⟩;intro u m;refine aB (qI rfl rfl) (aP 6 [0,0,0] m ?_);simp only[↓aD,eU,aR,aa];intro g5;intro u m;refine kP m 4 Xs rfl rfl (fun m=>Zj (p:=t.c) m 4 rfl hD8) ?_;clear m;rintro v i u m ⟨rfl,es',c',rfl,hD'⟩;simp only[zF,zG] at m;simp only[zz];clear hD8;have hD8:=hD';clear hD';refine aP 19 [2,0] m ?_;simp only[↓aD,ai];refine⟨by omega,?_⟩;intro u m;refine hK1 (N-(k+1)) _ _ ?_ ?_ ?_
   · omega
   · simp only[zz,zv]
   ·
    simp only[zQ,zR,zD,zE];exact⟨k+1,_,_,rfl,(m.sel [false,false,false,false,true]),by rw[Yl ht];exact hD8,by omega,rfl⟩
  ·
   have hkN:k=N:=by omega
   rw[hkN,show ts.take N=ts from be (by rw[hT.len];exact ap _)] at hD8;refine aS 4 [0] m ?_;simp only[↓aD];intro u m;refine bJ rfl rfl (aco _ (m.p 0 rfl) hD8 (by have h1:=Cy (dL ts) [];have h2:=qL ts;have h3:=hT.len;simp only[bt] at h1;omega)) ?_;rintro v u e ⟨A9,n9,cap9,_,rfl,hN,ps,rfl,hps,hso⟩;replace m:=m.newO e hN;clear e hN;refine aP 3 [] m ?_;simp only[↓aD];intro u m;refine aQ rfl rfl ?_;try simp only[zD,zE]
   exact⟨_,rfl,m.ext,_,_,_,_,rfl,(m.o 0 rfl),ps,rfl,ab4 (hps.nodup_iff.2 (Gl _ _ .nil)) hso,fun a=>by rw[hps.mem_iff,Om];simp⟩
theorem pG{l:List T3}(h:∀t∈l,IT t):∀t∈dA l,IT t:=fun t ht=>by
 obtain⟨s,hs,rfl⟩:=acg.1 ht;have:=h s hs;unfold mW;split
 · exact⟨this.c,this.a,this.b⟩
 · split
   · exact⟨this.b,this.c,this.a⟩
   · exact this
theorem Pq{ks:List P3}{a:P3}:a∈(eY [] ks).map (·.1)↔a∈ks:=by rw[rP];simp
theorem acX{ps:List P3}{l:List T3}(h:rN ps)(hm:∀a,a∈ps↔a∈dL l):ps.length≤3*l.length:=by
 have hn:ps.Nodup:=List.Pairwise.imp (fun {a b} (h:P3.Lt a b) (e:a=b)=>P3.lt_irrefl b (by rw[e] at h;exact h)) h;have h1:=List.Nodup.length_le_of_subset hn (l₂:=dL l) fun x hx=>(hm x).1 hx;rw[qL] at h1;omega
theorem zW.perm{l:List T3}{Q:P3→List Int}{dn D:List (P3 × Hd)}{cs:List jW}(h:zW l Q (dn.map (·.1)) cs)(hp:dn.Perm D):zW l Q (D.map (·.1)) cs:=fun d=>by rw[h d,(hp.map (·.1)).mem_iff]
theorem ai1{D:List Mv}{k:Nat}{p:P3}(h:(vK (D.map (·.1)))[k]? = some p):(kW D)[k]? = some (p,(bU D p).getD ⟨0,0,0⟩):=by
 have hm:p∈D.map (·.1):=(oJ _).mem_iff.1 (ba h);obtain⟨y,hy⟩:∃y,bU D p=some y:=by
  cases hg:bU D p with
  | some y=>exact⟨y,rfl⟩
  | none=>exact absurd hm (mP.1 hg)
 unfold kW;rw[List.getElem?_map,h,hy];simp[hy]
theorem Pr{ea ef:Array bx}{ca cf:Nat}{D:List (P3 × Hd)}{F:List (P3 × Bool)}{l:List T3}(h:Ls ea ef ca cf D F l):D.length≤3*l.length:=by
 have h1:=List.Nodup.length_le_of_subset h.nk (l₂:=dL l) fun x hx=>(h.k x).1 hx;rw[ct,qL] at h1;omega
theorem aik(D:List Mv)(u v:P3):(toF D u v).length≤D.length+1:=by
 have:=sE (D.map fun e=>(e.1,Bg u v e.2)) u v;rwa [ct] at this
theorem qW{ts:List T3}{want:Int}{l:List T3}{D:List Mv}(h0:iH true (dA ts)=0)(h:kJ (dA ts).length want (dA ts) (rY (dA ts)) []=(l,D)):mT ts want=(l,kW D):=by
 unfold mT;rw[if_neg (by rw[h0];simp),h]
theorem aan{ts:List T3}{want:Int}(h:¬iH true (dA ts)=0):mT ts want=(dA ts,[]):=by unfold mT;rw[if_pos h]
theorem Mb{ts:List T3}{N cap:Nat}{A:Option Addr}{want:Int}(w:ah)(hT0:bK w A N ts)(hN:N≤2000)(hw:0≤want):dF prog 24 [.slice A N cap,.int .i64 want] w (fun v w'=>∃A1 n1 c1 A2 n2 c2,v=.tuple #[.slice A1 n1 c1,.slice A2 n2 c2]∧n1=(mT ts want).1.length∧n2=(mT ts want).2.length∧Mem w w' [oI 55 6 A2 n2 c2 ((mT ts want).2.flatMap cM),oI 39 9 A1 n1 c1 ((mT ts want).1.flatMap aK)]):=by
 refine⟨ana,?_⟩;have m:=Mem.refl w;have htl:=hT0.len;have hcl:=lG ts;have hit:∀t∈dA ts,IT t:=pG hT0.it;have hN2:(dA ts).length≤2000:=by omega
 go_enter func24,ntmps24
 refine eS 8 [0] m ?_;simp only[↓aD];intro u m;refine bJ rfl rfl (Vp _ (hT0.ext m.ext) (by omega)) ?_;rintro v u e ⟨A1,cap1,n1,hn1,rfl,hN⟩;replace m:=m.newO e hN;clear e hN;obtain rfl:n1=(dA ts).length:=by rw[hcl];exact hn1
 refine aP 6 [0] m ?_;simp only[↓aD];intro u m;refine cW m rfl rfl (uX _ ((m.o 0 rfl).tris hit) (by omega)) ?_;clear m;rintro v u m rfl;refine aP 2 [0,0] m ?_;simp only[↓aD];intro u m;refine bC rfl (fun hc1=>?_) (fun hc1=>?_)
 · skip
   refine aS 6 [] m ?_;simp only[↓aD];intro u m;replace m:=m.nilO 55 6;refine cR 1 [] m ?_;simp only[↓aD];intro u m;refine vW rfl rfl rfl ?_;try simp only[zD,zE]
   exact⟨_,rfl,m.ext,_,_,_,_,_,_,rfl,by rw[aan hc1],by rw[aan hc1];rfl,by rw[aan hc1];exact m.sel [true,true]⟩
 · skip
   have hc0:iH true (dA ts)=0:=by omega
   have hnd:=Lw hc0;refine aS 3 [0] m ?_;simp only[↓aD];intro u m;refine kH m ?_;clear m;intro q61 u m;have hD61:=bB.nil (K:=P3) (V:=List Int) pt qV;refine aP 7 [0,0] m ?_;simp only[↓aD,↓dU,aoi,aaX,aa];intro g2;intro u m;refine bJ rfl rfl (aam _ ((m.o 2 rfl).tris hit) (by omega)) ?_;rintro v u e ⟨A3,n3,cap3,_,rfl,hN,ps,rfl,hso,hmem⟩;replace m:=m.newO e hN;clear e hN;obtain rfl:ps.length=n3:=by have:=(m.o 0 rfl).own.1;rw[aea] at this;omega
   have hpl:ps.length≤10000000:=by have h1:=acX hso hmem;omega
   refine aP 4 [0] m ?_;simp only[↓aD,kX];intro u m;refine bW [33] [8,34,35,36,37,38,39,40,41,42] (fun n vs wl=>∃(k:Nat) (es:Array bx) (c:Nat) (Dq:List (P3 × List Int)),vs=[.int .i64 (k:Int)]∧Mem w wl [oI 30 3 A3 ps.length cap3 (ps.flatMap dN),bI g2 [.map (some q61)] 93,mI q61 es c,oI 39 9 A1 (dA ts).length cap1 ((dA ts).flatMap aK)]∧(bB pt qV Dq es c)∧(Dy (dA ts) (ps.take k) Dq)∧(k≤ps.length)∧(n=ps.length-k)) ?_ ?_
   · skip
     apply Exists.intro;simp only[zQ,zR,zD,zE];exact⟨0,_,_,[],rfl,m,hD61,Dy.nil _,cd _,rfl⟩
   · intro n vs wr hI u K1 hK1
     clear m;obtain⟨k,es61,c61,Dq,rfl,m,hD61,hq1,hk,hn⟩:=hI;simp only[zu,zF,zG];refine aS 5 [0,0] m ?_;simp only[↓aD];intro u m;refine bC rfl (fun hc2=>?_) (fun hc2=>?_)
     · skip
       obtain⟨p,hp,a3,hA3,hr3⟩:=((m.o 0 rfl).lat (enc:=dN) (fun _=>rfl) (by decide)).get (i:=k) (by omega);subst hA3;refine lF 5 [0] m ?_;simp only[↓aD];rintro u m rfl;refine aB (aF dS aA rfl rfl (by omega) (by omega) (cI (ag _))) ?_;simp only[zz];refine aO rfl (show gM _ _ _ _ (pt p) from hr3.lies aG aA) ?_;simp only[zz];refine aP 3 [0,0] m ?_;simp only[↓aD,↓dU,eU,aR,aa];intro g3;intro u m;refine mh m [true,true,true,false,true] [(2,true),(0,true),(1,true),(3,true),(4,false),(5,false)] aC (by kernel_rfl) (bQ (fun _ _ _ _ _ h=>h)) (ol:=?_) ?hol ?_
       case hol=>simp only[zw,zQ,zR];try rfl
       clear m;intro u m;refine Mz 4 [2,0,0] ?_;simp only[↓aD,↓dU,aaX,aR];refine bV (cW m rfl rfl (amB (p:=p) _ ((m.o 4 rfl).tris hit) (by omega)) ?_);clear m;rintro v u m rfl;refine aL (⟨m.sel [true,true,true,false,true],?_⟩);refine bV ?_;simp only[zz];refine lE (ek:=pt) (en:=qV) (a:=p) (v:=(rY (dA ts) p)) m 3 rfl Jp fB rfl rfl rfl hD61 ?_;clear m;intro es61 c61 u m hD';clear hD61;have hD61:=hD';clear hD';simp only[zF,zG] at m;refine aL (⟨m.sel [true,true,true,false,true],?_⟩);refine bM (cR 5 [0] m ?_);simp only[↓aD];refine⟨by omega,?_⟩;intro u m;refine hK1 (ps.length-(k+1)) _ _ ?_ ?_ ?_
       · omega
       · simp only[zz,zv]
       · simp only[zQ,zR,zD,zE]
         exact⟨k+1,_,_,_,rfl,(m.sel [false,true,true,true,true]),hD61,hq1.put hp,by omega,rfl⟩
     · skip
       obtain rfl:k=ps.length:=by omega
       rw[be (ap _)] at hq1;have hQ:=hq1.ok hmem hit;refine aS 3 [0] m ?_;simp only[↓aD];intro u m;refine kH m ?_;clear m;intro q62 u m;have hD62:=bB.nil (K:=P3) (V:=P3) pt pt;refine aP 4 [0] m ?_;simp only[↓aD];intro u m;refine kH m ?_;clear m;intro q60 u m;have hD60:=bB.nil (K:=E3) (V:=Int) ed W;refine aP 5 [0,0] m ?_;simp only[↓aD,↓dU,ali,Rz,aa];intro g5;intro u m;refine aB eX ?_;simp only[zz,fb,bn,c_];refine aP 4 [0] m ?_;simp only[↓aD];intro u m;refine bW [0] [12,13,14,15,16,17,18,19,46,47,48,49,50,51,52,53,54,55,56,57,58,59,60,61,62,63,64,65,66,67,68,69,70,71,72,73,74,75,76,77,78,79,80,81,82,83,84,85,86,87,88,89,90,91,92,93,94,95,96,97,98,99,100,101,102,103,104,105,106,107,108,109,110,111,112,113,114,115,116,117,118,119,120,121,122,123,124,125,126,127,128,129,130,131,132,133] (fun n vs wl=>∃(l:List T3) (Q:P3→List Int) (A1:Option Addr) (cap1:Nat) (es60 es61 es62:Array bx) (c60 c61 c62:Nat) (Dc:List (E3 × Int)) (Dq:List (P3 × List Int)) (Dm:List Mv),vs=[.slice A1 l.length cap1]∧Mem w wl [bI g5 [.map (some q60)] 100,mI q60 es60 c60,mI q62 es62 c62,bI g2 [.map (some q61)] 93,mI q61 es61 c61,oI 39 9 A1 l.length cap1 (l.flatMap aK)]∧(bB ed W Dc es60 c60)∧(nU Dc Q)∧((Dc.map (·.1)).Nodup)∧(bB pt qV Dq es61 c61)∧(bB pt pt Dm es62 c62)∧(QOK Dq Q (602+2*(dA ts).length-l.length))∧(∀t∈l,IT t)∧(∀t∈l,t.nd=true)∧((Dm.map (·.1)).Nodup)∧(kJ (dA ts).length want (dA ts) (rY (dA ts)) []=kJ l.length want l Q Dm)∧(l.length+Dm.length≤(dA ts).length)∧(n=l.length)) ?_ ?_
       · skip
         apply Exists.intro;simp only[zQ,zR,zD,zE];exact⟨(dA ts),(rY (dA ts)),_,_,_,_,_,_,_,_,[],_,[],rfl,(m.sel [true,true,true,false,true,true,true]),hD60,nU.nil _,jw,hD61,hD62,hQ.mono (by omega),hit,hnd,jw,rfl,(by simp),rfl⟩
       · intro n vs wr hI u K2 hK2
         clear m;obtain⟨l,Q,A1,cap1,es60,es61,es62,c60,c61,c62,Dc,Dq,Dm,rfl,m,hD60,hC,hnC,hD61,hD62,hQ,hit,hnd,hnM,hS,hle,hn⟩:=hI;simp only[zu,zF,zG];refine aS 8 [0,0] m ?_;simp only[↓aD,iS];intro u m;refine bC rfl (fun hc3=>?_) (fun hc3=>?_)
         · skip
           refine aS 5 [0] m ?_;simp only[↓aD];intro u m;refine bJ rfl rfl (afX _ ((m.o 5 rfl).tris hit) hnd (by omega)) ?_;rintro v u e ⟨g90,ga,gf,ea,ef,ca,cf,D,F,K,rfl,hM,hK,hSD⟩;replace m:=m.plus hM;clear hM e;simp only[b_,bv] at m;refine aP 7 [0] m ?_;simp only[↓aD,↓dU,aoh,aaW,aa];intro g6;intro u m;replace m:=m.nilO 112 8;refine cR 6 [1,0] m ?_;simp only[↓aD,↓dU,aaW,Kq,aa];intro u m;refine aO rfl (((hK _ (m.get 2 rfl)).b).lies1 aaF rfl) ?_;simp only[zz];refine sU m underlying106 rfl ((hK _ (m.get 2 rfl)).a) ?_;clear m;intro r1 u m;refine aP 2 [0] m ?_;simp only[↓aD];intro u m;refine bW [13] [14,15,57,58,59,60,61,62,63,64,65,66,67,68,69,70,71,72,73,74,75,76,77,78,79,80,81,82,83,84] (fun n vs wl=>∃(dn rs:List (P3 × Hd)) (sn:Array Nat) (cs:List jW) (A9:Option Addr) (cap9:Nat) (es60:Array bx) (c60:Nat) (Dc:List (E3 × Int)),vs=[.slice A9 cs.length cap9]∧Mem w wl [iI r1 ga ca sn,oI 112 8 A9 cs.length cap9 (cs.flatMap pM),bI g6 [.pointer (some ⟨g90,0,none⟩)] 88,K,bI g5 [.map (some q60)] 100,mI q60 es60 c60,mI q62 es62 c62,bI g2 [.map (some q61)] 93,mI q61 es61 c61,oI 39 9 A1 l.length cap1 (l.flatMap aK)]∧(bB ed W Dc es60 c60)∧(nU Dc Q)∧((Dc.map (·.1)).Nodup)∧(lY pt Hd.v D ea sn dn rs)∧(zW l Q (dn.map (·.1)) cs)∧(cs.length≤dn.length*6000)∧(n=rs.length)) ?_ ?_
           · skip
             apply Exists.intro;simp only[zQ,zR,zD,zE];exact⟨[],D,#[],[],_,_,_,_,_,rfl,m,hD60,hC,hnC,(lY.start hSD.a),(zW.nil _ _),(cd _),rfl⟩
           · intro n vs wr hI u K3 hK3
             clear m;obtain⟨dn,rs,sn,cs,A9,cap9,es60,c60,Dc,rfl,m,hD60,hC,hnC,hT,hCs,hcl3,hn3⟩:=hI;simp only[zu,zF,zG];refine aS 2 [0] m ?_;simp only[↓aD];intro u m;refine Gj m 0 rfl rfl ((hK _ (m.get 3 rfl)).a) hSD.a hT ?_;clear m;intro bb kk vv sn u m hN;simp only[zF,zG] at m;refine aB (nN rfl) (aP 2 [0] m ?_);simp only[↓aD];intro u m;refine dQ rfl (fun hc4=>?_) (fun hc4=>?_)
             · skip
               obtain⟨kp,kb,rs2,hp2,hT2⟩:=Cx hc4 hN;have hkp:kp∈D.map (·.1):=fe (f:=(·.1)) (hT2.1.mem_iff.1 (by simp):(kp,kb)∈D);have hTl:=hT2.len;have hkeys:=Pr hSD;rw[aw,au,bt] at hTl;refine aS 4 [0] m ?_;simp only[↓aD];intro u m;refine eQ (qJ rfl (m.r 0 rfl) ((hK _ (m.get 3 rfl)).a) hSD.a hT2) ?_;simp only[zz];refine aP 6 [0,0] m ?_;simp only[↓aD,↓dU,eU,aR,aa];intro g8;intro u m;refine mq m aC (by kernel_rfl) (eC 3 [3] ?_);simp only[↓aD,↓dU,aaW,Kr,aa];refine ql rfl (fun u m=>(((hK _ (m.get 4 rfl)).b).lies1 qD rfl)) ?_;simp only[zz];refine ql rfl (fun u m=>((m.b 0 rfl).full aG aA)) ?_;simp only[zz];refine jC (fun u m=>dK (ek:=pt) (en:=bf) (k:=kp) (v0:=false) lN mE fB rfl rfl ((hK _ (m.get 4 rfl)).f) hSD.f) ?_;simp only[zz];refine aY ?_;clear m;intro u m;refine gc (dQ rfl (fun hc5=>?_) (fun hc5=>?_))
               · skip
                 rw[hSD.b] at hc5;refine aS 1 [0] m ?_;simp only[↓aD];intro u m;refine hK3 rs2.length _ _ ?_ ?_ ?_
                 · rw[hn3,hp2.length_eq];exact dq _
                 · simp only[zz,zv]
                 · simp only[zQ,zR,zD,zE]
                   exact⟨dn++[(kp,kb)],rs2,_,cs,_,_,_,_,_,rfl,(m.sel [false,true,true,true,true,true,true,true,true,true,true]),hD60,hC,hnC,hT2,(by rw[cl];exact hCs.skip hc5),(by rw[aw];simp only[au,bt];omega),rfl⟩
               · skip
                 rw[hSD.b] at hc5;refine aS 5 [3,0,0] m ?_;simp only[↓aD,↓dU,aaW,aR];intro u m;refine bJ rfl rfl (Sn (p:=kp) _ ((hK _ (m.get 4 rfl)).b) ((hK _ (m.get 4 rfl)).a) hSD.a ((hK _ (m.get 4 rfl)).t) (by omega)) ?_;rintro v u e ⟨qx,esx,cx,rfl,hM,hDx⟩;replace m:=m.plus hM;clear hM e;simp only[b_,bv] at m;simp only[zz];refine sU m lN rfl (m.p 0 rfl) ?_;clear m;intro r2 u m;refine aP 2 [0] m ?_;simp only[↓aD];intro u m;refine bW [13] [15,71,72,73,74,75,76,77,78,79,80,81,82,83,84] (fun n vs wl=>∃(dn2 rs2:List (P3 × Bool)) (sn2:Array Nat) (cs:List jW) (A9:Option Addr) (cap9:Nat) (es60:Array bx) (c60:Nat) (Dc:List (E3 × Int)),vs=[.slice A9 cs.length cap9]∧Mem w wl [iI r2 qx cx sn2,mI qx esx cx,bI g8 [.int .i64 kp.x,.int .i64 kp.y,.int .i64 kp.z] 30,iI r1 ga ca sn,oI 112 8 A9 cs.length cap9 (cs.flatMap pM),bI g6 [.pointer (some ⟨g90,0,none⟩)] 88,K,bI g5 [.map (some q60)] 100,mI q60 es60 c60,mI q62 es62 c62,bI g2 [.map (some q61)] 93,mI q61 es61 c61,oI 39 9 A1 l.length cap1 (l.flatMap aK)]∧(bB ed W Dc es60 c60)∧(nU Dc Q)∧((Dc.map (·.1)).Nodup)∧(lY pt bf (eY [] (lI l kp)) esx sn2 dn2 rs2)∧(aal l Q (dn.map (·.1)) kp (dn2.map (·.1)) cs)∧(cs.length≤dn.length*6000+dn2.length)∧(n=rs2.length)) ?_ ?_
                 · skip
                   apply Exists.intro;simp only[zQ,zR,zD,zE];exact⟨[],_,#[],cs,_,_,_,_,_,rfl,m,hD60,hC,hnC,(lY.start hDx),(hCs.start kp),(by simp only[bt];omega),rfl⟩
                 · intro n vs wr hI u K4 hK4
                   clear m;obtain⟨dn2,rs3,sn2,cs,A9,cap9,es60,c60,Dc,rfl,m,hD60,hC,hnC,hT3,hCi,hcl4,hn4⟩:=hI;simp only[zu,zF,zG];refine aS 2 [0] m ?_;simp only[↓aD];intro u m;refine Gj m 0 rfl rfl (m.p 1 rfl) hDx hT3 ?_;clear m;intro bb kk vv sn u m hN;simp only[zF,zG] at m;refine aB (nN rfl) (aP 2 [0] m ?_);simp only[↓aD];intro u m;refine dQ rfl (fun hc6=>?_) (fun hc6=>?_)
                   · skip
                     obtain⟨kq,kv,rs4,hp4,hT4⟩:=Cx hc6 hN;have hnb:Rq l kp kq=true:=pF.1 (Pq.1 (fe (f:=(·.1)) (hT4.1.mem_iff.1 (by simp):(kq,kv)∈eY [] (lI l kp))));have hT4l:=hT4.len;have hal:=mS (lI l kp) [];have hbl:=Lu l kp;rw[aw,au,bt] at hT4l;rw[bt] at hal;refine aS 4 [0] m ?_;simp only[↓aD];intro u m;refine eQ (qJ rfl (m.r 0 rfl) (m.p 1 rfl) hDx hT4) ?_;simp only[zz];refine aP 4 [0] m ?_;simp only[↓aD,↓dU,eU,aR,aa];intro g10;intro u m;replace m:=m.pull 12 rfl;simp only[cY,cZ,zF,zG] at m;replace m:=m.pull 10 rfl;simp only[cY,cZ,zF,zG] at m;replace m:=m.pull 12 rfl;simp only[cY,cZ,zF,zG] at m;replace m:=m.pull 11 rfl;simp only[cY,cZ,zF,zG] at m;refine gc (mh m [true,true,false,true,true,true,true,true,true,false,true,true,true,true] [(0,true),(3,true),(1,true),(2,true),(4,true),(5,true),(6,false),(7,true),(8,false),(9,false),(10,true)] aC (by kernel_rfl) (bQ (fun _ _ _ _ _ h=>h)) (ol:=?_) ?hol ?_)
                     case hol=>simp only[zw,zQ,zR];try rfl
                     clear m;intro u m;refine Mz 6 [6,3,6,3] ?_;simp only[↓aD,↓dU,aR];refine bV ?_;replace m:=m.pack4;refine jB rfl rfl ((haveI:=Dz hit ((hSD.k kp).1 hkp);haveI:=Dz hit (Tf hnb).2;amG (p:=kp) (q:=kq) m hD60 hD61 hC hnC hQ (by omega))) ?_;clear m;rintro v u ⟨es60,c60,Dc,rfl,m,hD60,hC,hnC⟩;simp only[zz];replace m:=m.unpack4;refine aL (⟨m.sel [true,true,false,true,true,true,true,true,true,false,true,true,true,true],?_⟩);refine aU (Cs rfl rfl rfl) (bV ?_);simp only[zz];refine Yb rfl ?_;intro u g11 e hg hB;replace m:=m.newB e hg hB;clear e hg hB;refine aL (⟨m.sel [false,true,true,false,true,true,true,true,true,true,false,true,true,true,true],?_⟩);refine bV ?_;simp only[zz];refine bR m 10 rfl rfl underlying105 ag1 rfl (by decide) rfl rfl rfl (m.b 0 rfl).rowsO (jM rfl) (by omega) (by omega) ?_;clear m;intro A9 cap9 u m;simp only[zF,zG] at m;rw[show cs.flatMap pM++_=(cs++[⟨kp,kq,pC Q kp kq⟩]:List jW).flatMap pM by rw[av];rfl] at m;have hll:cs.length+1=(cs++[⟨kp,kq,pC Q kp kq⟩]:List jW).length:=by simp
                     rw[hll] at m;rw[hll];refine aL (⟨m.sel [false,true,true,false,true,true,true,true,true,true,false,true,true,true,true],?_⟩);refine aU aM (bM ?_);simp only[zz];replace m:=m.pull 14 rfl;simp only[cY,cZ,zF,zG] at m;replace m:=m.pull 5 rfl;simp only[cY,cZ,zF,zG] at m;replace m:=m.pull 4 rfl;simp only[cY,cZ,zF,zG] at m;replace m:=m.pull 14 rfl;simp only[cY,cZ,zF,zG] at m;replace m:=m.pull 6 rfl;simp only[cY,cZ,zF,zG] at m;replace m:=m.pull 6 rfl;simp only[cY,cZ,zF,zG] at m;replace m:=m.pull 14 rfl;simp only[cY,cZ,zF,zG] at m;replace m:=m.pull 14 rfl;simp only[cY,cZ,zF,zG] at m;replace m:=m.pull 14 rfl;simp only[cY,cZ,zF,zG] at m;replace m:=m.pull 14 rfl;simp only[cY,cZ,zF,zG] at m;replace m:=m.pull 14 rfl;simp only[cY,cZ,zF,zG] at m;replace m:=m.pull 14 rfl;simp only[cY,cZ,zF,zG] at m;replace m:=m.pull 14 rfl;simp only[cY,cZ,zF,zG] at m;replace m:=m.pull 14 rfl;simp only[cY,cZ,zF,zG] at m;refine cR 1 [0] m ?_;simp only[↓aD];intro u m;refine hK4 rs4.length _ _ ?_ ?_ ?_
                     · rw[hn4,hp4.length_eq];exact dq _
                     · simp only[zz,zv]
                     · simp only[zQ,zR,zD,zE]
                       exact⟨dn2++[(kq,kv)],rs4,_,(cs++[jW.mk kp kq (pC Q kp kq)]),_,_,_,_,_,rfl,(m.sel [false,true,true,true,true,true,true,true,true,true,true,true,true,true,false]),hD60,hC,hnC,hT4,(by rw[cl];exact hCi.put),(by rw[aw,aw];simp only[au,bt];omega),rfl⟩
                   · skip
                     obtain rfl:=Cw hc6 hN;have hT3l:=hT3.len;have hal:=mS (lI l kp) [];have hbl:=Lu l kp;rw[bt] at hal hT3l;replace hCi:=hCi.done hc5 (fun x=>by rw[←pF];exact ((hT3.done.map (·.1)).mem_iff).trans Pq);refine aS 2 [0] m ?_;simp only[↓aD];intro u m;refine hK3 rs2.length _ _ ?_ ?_ ?_
                     · rw[hn3,hp2.length_eq];exact dq _
                     · simp only[zz,zv]
                     · simp only[zQ,zR,zD,zE]
                       exact⟨dn++[(kp,kb)],rs2,_,cs,_,_,_,_,_,rfl,(m.sel [false,false,false,true,true,true,true,true,true,true,true,true,true]),hD60,hC,hnC,hT2,(by rw[cl];exact hCi),(by rw[aw];simp only[au,bt] at hal ⊢;omega),rfl⟩
             · skip
               obtain rfl:=Cw hc4 hN;have hTl:=hT.len;have hkeys:=Pr hSD;rw[bt] at hTl;have hdn:=hT.done;replace hCs:=hCs.perm hdn;refine aS 4 [0] m ?_;simp only[↓aD];intro u m;refine aB eX ?_;simp only[zz,fb,bn,c_];replace m:=m.pull 9 rfl;simp only[cY,cZ,zF,zG] at m;replace m:=m.pull 4 rfl;simp only[cY,cZ,zF,zG] at m;replace m:=m.pull 4 rfl;simp only[cY,cZ,zF,zG] at m;replace m:=m.pull 4 rfl;simp only[cY,cZ,zF,zG] at m;replace m:=m.pack4;refine jB rfl rfl (amI m hK hSD hnd hit (by omega) hQ.len hQ.bd (by omega) hCs (by omega)) ?_;clear m;rintro v u ⟨c,bb,rfl,m,hbest⟩;simp only[zz];replace m:=m.unpack3;refine aP 1 [0] m ?_;simp only[↓aD];intro u m;refine aB (eE (v:=Te c) rfl rfl) ?_;simp only[zz];refine aB (eE (v:=.bool bb) rfl rfl) ?_;simp only[zz];refine aP 2 [0] m ?_;simp only[↓aD,↓dU,Yy,Yx,aa];intro g8;intro u m;refine cR 8 [0] m ?_;simp only[↓aD];intro u m;refine dQ rfl (fun hc7=>?_) (fun hc7=>?_)
               · skip
                 have hend:=Ws (l:=l) (want:=want) (Q:=Q) (D:=Dm) (.inr (hbest.resolve_right (fun h=>by rw[h.1] at hc7;cases hc7)).2);refine aS 5 [] m ?_;simp only[↓aD];intro u m;replace m:=m.nilO 55 6;refine cR 4 [0] m ?_;simp only[↓aD];intro u m;refine bJ rfl rfl (afE (q:=q62) _) ?_;rintro v u e ⟨g9,rfl,hg,hB⟩;replace m:=m.newB e hg hB;clear e hg hB;simp only[zz];refine bJ rfl rfl (Wa _ adE (Gz (m.p 9 rfl) hD62 (m.b 0 rfl)) (fun xs h=>by rw[h.length_eq,ct];exact ap _) (by omega)) ?_;rintro v u e ⟨xs,ys,⟨A22,cap22,n22,hn22,rfl,hN⟩,hxs,hys,hso⟩;replace m:=m.newO e hN;clear e hN;obtain rfl:n22=Dm.length:=by rw[hn22,hxs.length_eq,ct]
                 obtain rfl:ys=vK (Dm.map (·.1)):=Lj hnM (hys.trans hxs) hso;refine aP 4 [0] m ?_;simp only[↓aD,kX];intro u m;refine bW [20,138] [22,139,140,141,142,143,144,145,146,147,148,149,150] (fun n vs wl=>∃(k:Nat) (A20:Option Addr) (cap20:Nat),vs=[.slice A20 k cap20,.int .i64 (k:Int)]∧Mem w wl [oI 30 3 A22 Dm.length cap22 ((vK (Dm.map (·.1))).flatMap dN),oI 55 6 A20 k cap20 (((kW Dm).take k).flatMap cM),oI 39 9 A1 l.length cap1 (l.flatMap aK),mI q62 es62 c62]∧(k≤Dm.length)∧(n=Dm.length-k)) ?_ ?_
                 · skip
                   apply Exists.intro;simp only[zQ,zR,zD,zE];exact⟨0,_,_,rfl,(m.sel [true,false,true,false,false,false,true,false,false,false,true,false,false]),cd _,rfl⟩
                 · intro n vs wr hI u K5 hK5
                   clear m;obtain⟨k,A20,cap20,rfl,m,hk,hn6⟩:=hI;simp only[zu,zF,zG];refine aS 5 [0,0] m ?_;simp only[↓aD];intro u m;refine bC rfl (fun hc10=>?_) (fun hc10=>?_)
                   · skip
                     obtain⟨k9,hk9,a9,hA9,hr9⟩:=((m.o 0 rfl).lat (enc:=dN) (fun _=>rfl) (by decide)).get (i:=k) (by omega);subst hA9;have hmv:=ai1 hk9;refine lF 5 [0] m ?_;simp only[↓aD];rintro u m rfl;refine aB (aF dS aA rfl rfl (by omega) (by omega) (cI (ag _))) ?_;simp only[zz];refine aO rfl (show gM _ _ _ _ (pt k9) from hr9.lies aG aA) ?_;simp only[zz];refine aP 3 [0,0] m ?_;simp only[↓aD,↓dU,eU,aR,aa];intro g10;intro u m;refine mh m [true,true,false,true,true] [(0,true),(2,true),(1,true),(3,true),(4,false),(5,true),(6,false),(7,false),(8,true)] aC (by kernel_rfl) (bQ (fun _ _ _ _ _ h=>h)) (ol:=?_) ?hol ?_
                     case hol=>simp only[zw,zQ,zR];try rfl
                     clear m;intro u m;refine Mz 4 [0,0] ?_;simp only[↓aD,↓dU,aR];refine bV (eQ (dK (ek:=pt) (en:=pt) (k:=k9) (v0:=⟨0,0,0⟩) Jq gN fB rfl rfl (m.p 4 rfl) hD62) ?_);simp only[zz];refine aL (⟨m.sel [true,true,false,true,true],?_⟩);refine aU (wP rfl rfl) (bV ?_);simp only[zz];refine Eo rfl ?_;intro u g11 e hg hB;replace m:=m.newB e hg hB;clear e hg hB;refine aL (⟨m.sel [false,true,true,false,true,true],?_⟩);refine bV ?_;simp only[zz];refine bR m 3 rfl rfl underlying46 adN rfl (by decide) rfl rfl rfl (m.b 0 rfl).rowsO (jM rfl) (by omega) (by omega) ?_;clear m;intro A20 cap20 u m;simp only[zF,zG] at m;rw[show ((kW Dm).take k).flatMap cM++_=((kW Dm).take (k+1)).flatMap cM by rw[cC hmv,av];rfl] at m;refine aL (⟨m.sel [false,true,true,false,true,true],?_⟩);refine aU aM (bM ?_);refine cR 5 [0] m ?_;simp only[↓aD];refine⟨by omega,?_⟩;intro u m;refine hK5 (Dm.length-(k+1)) _ _ ?_ ?_ ?_
                     · omega
                     · simp only[zz,zv]
                     · simp only[zQ,zR,zD,zE]
                       exact⟨k+1,_,_,rfl,(m.sel [false,false,true,true,true,true]),by omega,rfl⟩
                   · skip
                     obtain rfl:k=Dm.length:=by omega
                     rw[show (kW Dm).take Dm.length=kW Dm from be (by rw[yK];exact ap _)] at m;refine aS 9 [] m ?_;simp only[↓aD];intro u m;refine vW rfl rfl rfl ?_;try simp only[zD,zE]
                     exact⟨_,rfl,m.ext,_,_,_,_,_,_,rfl,by rw[qW hc0 (hS.trans hend)],by rw[qW hc0 (hS.trans hend)];exact (yK _).symm,by rw[qW hc0 (hS.trans hend)];exact m.sel [false,true,true,false]⟩
               · skip
                 obtain⟨rfl,hbs,hbI⟩:=hbest.resolve_left (fun h=>by rw[h.1] at hc7;cases hc7);have hlu:((bU Dq c.u).getD q0).length=10:=by rw[hQ.get];exact hQ.len _
                 have hbu:Bj (602+2*(dA ts).length-l.length) ((bU Dq c.u).getD q0):=by rw[hQ.get];exact hQ.bd _
                 have hlv:((bU Dq c.v).getD q0).length=10:=by rw[hQ.get];exact hQ.len _
                 have hbv:Bj (602+2*(dA ts).length-l.length) ((bU Dq c.v).getD q0):=by rw[hQ.get];exact hQ.bd _
                 refine aS 8 [0,0,0] m ?_;simp only[↓aD,↓dU,xF,aR,rU,aa];intro u m;refine bJ rfl rfl ((haveI:=hbI.1;haveI:=hbI.2;Bl (p:=c.u) (q:=c.v) _ ((m.o 3 rfl).tris hit) (by omega))) ?_;rintro v u e ⟨A21,cap21,n21,hn21,rfl,hN⟩;replace m:=m.newO e hN;clear e hN;subst hn21;refine aB aM ?_;simp only[zz];replace m:=(m.pull 0 rfl).mv 3 rfl;simp only[cY,cZ,zF,zG] at m;refine aP 2 [0] m ?_;simp only[↓aD];intro u m;refine cL m 12 aC (by kernel_rfl) ?_;simp only[zy];refine eC 6 [8,0,8,0] ?_;simp only[↓aD,↓dU,aaX,rU,aR,xF,aa];refine jC (fun u m=>dK (ek:=pt) (en:=qV) (k:=c.u) (v0:=q0) Jp abn fB rfl rfl (m.p 9 rfl) hD61) ?_;simp only[zz];refine eC 3 [8,0] ?_;simp only[↓aD,↓dU,aaX,rU,aR,aa];refine jC (fun u m=>dK (ek:=pt) (en:=qV) (k:=c.v) (v0:=q0) Jp abn fB rfl rfl (m.p 9 rfl) hD61) ?_;simp only[zz];refine iF rfl rfl (aad hlu hlv hbu hbv (by omega)) (aY ?_);clear m;intro u m;simp only[zz];refine lE (ek:=pt) (en:=qV) (a:=c.v) (v:=(yV ((bU Dq c.u).getD q0) ((bU Dq c.v).getD q0))) m 9 rfl Jp fB rfl rfl rfl hD61 ?_;clear m;intro es61 c61 u m hD';clear hD61;have hD61:=hD';clear hD';simp only[zF,zG] at m;rw[hQ.get,hQ.get] at hD61;refine aL (cR 3 [5,0] m ?_);simp only[↓aD,↓dU,Rz];intro u m;refine aB eX ?_;simp only[zz,fb,bn,c_];replace m:=m.pull 0 rfl;simp only[cY,cZ,zF,zG] at m;replace m:=m.pull 6 rfl;simp only[cY,cZ,zF,zG] at m;replace m:=m.pack2;refine jB rfl rfl (agk m hD60 hnC) ?_;clear m;rintro v u ⟨es60,Dc2,rfl,m,hD60,hnC2,hdel⟩;simp only[zz];replace m:=m.unpack2;refine aP 5 [0] m ?_;simp only[↓aD];intro u m;refine sU m Jq rfl (m.p 7 rfl) ?_;clear m;intro r3 u m;refine aP 2 [0] m ?_;simp only[↓aD];intro u m;refine bW [] [18,19,116,117,118,119,120,121,122,123,124,125,126,127,128] (fun n vs wl=>∃(dn rs:List Mv) (sn:Array Nat) (es62:Array bx),vs=[]∧Mem w wl [iI r3 q62 c62 sn,mI q60 es60 c60,bI g8 (pM c) 112,oI 39 9 A21 (yU l c.u c.v).length cap21 ((yU l c.u c.v).flatMap aK),bI g5 [.map (some q60)] 100,mI q62 es62 c62,bI g2 [.map (some q61)] 93,mI q61 es61 c61]∧(bB pt pt (xU (dn.map (·.1)) c.u c.v Dm) es62 c62)∧(pW pt pt (xU (dn.map (·.1)) c.u c.v Dm) es62 sn dn rs)∧(n=rs.length)) ?_ ?_
                 · skip
                   apply Exists.intro;simp only[zQ,zR,zD,zE];exact⟨[],Dm,#[],_,trivial,(m.sel [true,true,true,false,false,true,false,true,true,true,true]),(by rw[c_,Wp];exact hD62),(by rw[c_,Wp];exact pW.start hD62),rfl⟩
                 · intro n vs wr hI u K6 hK6
                   clear m;obtain⟨dn,rs,sn,es62,rfl,m,hD62,hT5,hn5⟩:=hI;simp only[zu,zF,zG];refine aS 2 [0] m ?_;simp only[↓aD];intro u m;refine agb m 0 rfl rfl (m.p 5 rfl) hD62 hT5 ?_;clear m;intro bb kk vv sn u m hN;simp only[zF,zG] at m;refine aB (nN rfl) (aP 2 [0] m ?_);simp only[↓aD];intro u m;refine dQ rfl (fun hc8=>?_) (fun hc8=>?_)
                   · skip
                     obtain⟨kp,kb,rs2,hp2,hT6⟩:=agh hc8 hN;obtain⟨hnew,hmm⟩:=ago (by rw[yP];exact hnM) hT6;refine aS 4 [0] m ?_;simp only[↓aD];intro u m;refine eQ (Wo rfl (m.r 0 rfl) (m.p 5 rfl) hD62 hT6) ?_;simp only[zz];refine aP 5 [1] m ?_;simp only[↓aD,↓dU,eU,aR,aa];intro g10 g11;intro u m;refine cR 7 [0,0,4,0] m ?_;simp only[↓aD,↓dU,aR,xF,aa];intro u m;refine aB (cG rfl rfl) (aP 1 [0] m ?_);simp only[↓aD];intro u m;refine dQ rfl (fun hc9=>?_) (fun hc9=>?_)
                     · skip
                       rw[aii,decide_eq_true_eq] at hc9;have hup:=agn hnM hmm hnew hc9;refine aS 5 [1,4,0] m ?_;simp only[↓aD,↓dU,aR,rU,aa];intro u m;refine agd (ek:=pt) (ev:=pt) (a:=kp) (v:=c.v) m 7 rfl Jq fB rfl rfl rfl hD62 (by rw[yP];exact hnM) hT6 ?_;clear m;intro es62 u m hD' hT';clear hD62;have hD62:=hD';clear hD';simp only[zF,zG] at m;refine aP 2 [0] m ?_;simp only[↓aD];intro u m;rw[hup] at hD62 hT';refine hK6 rs2.length _ _ ?_ ?_ ?_
                       · rw[hn5,hp2.length_eq];exact dq _
                       · simp only[zz,zv]
                       · simp only[zQ,zR,zD,zE]
                         exact⟨dn++[(kp,c.v)],rs2,_,_,trivial,(m.sel [false,false,true,true,true,true,true,true,true,true]),(by rw[cl];exact hD62),(by rw[cl];exact hT'),rfl⟩
                     · skip
                       rw[aii,decide_eq_false_iff_not] at hc9;have hup:=acV (v:=c.v) hnM hmm hnew hc9;refine aS 2 [0] m ?_;simp only[↓aD];intro u m;have hT7:=hT6.stay;rw[hup] at hD62 hT7;refine hK6 rs2.length _ _ ?_ ?_ ?_
                       · rw[hn5,hp2.length_eq];exact dq _
                       · simp only[zz,zv]
                       · simp only[zQ,zR,zD,zE]
                         exact⟨dn++[(kp,kb)],rs2,_,_,trivial,(m.sel [false,false,true,true,true,true,true,true,true,true]),(by rw[cl];exact hD62),(by rw[cl];exact hT7),rfl⟩
                   · skip
                     obtain rfl:=agf hc8 hN;have hdn:=hT5.done;have hall:∀e∈Dm,e.1∈dn.map (·.1):=fun e he=>(hdn.map (·.1)).mem_iff.2 (by rw[yP];exact fe he);refine aS 7 [2,2,0] m ?_;simp only[↓aD,↓dU,xF,aR,rU,aa];intro u m;refine lE (ek:=pt) (en:=pt) (a:=c.u) (v:=c.v) m 5 rfl Jq fB rfl rfl rfl hD62 ?_;clear m;intro es62 c62 u m hD';clear hD62;have hD62:=hD';clear hD';simp only[zF,zG] at m;rw[agm hall] at hD62;refine aP 1 [] m ?_;simp only[↓aD];intro u m;replace m:=m.pull 3 rfl;simp only[cY,cZ,zF,zG] at m;replace m:=m.pull 7 rfl;simp only[cY,cZ,zF,zG] at m;replace m:=m.pull 7 rfl;simp only[cY,cZ,zF,zG] at m;replace m:=m.pull 7 rfl;simp only[cY,cZ,zF,zG] at m;replace m:=m.pull 5 rfl;simp only[cY,cZ,zF,zG] at m;replace m:=m.pull 7 rfl;simp only[cY,cZ,zF,zG] at m;refine cR 1 [0] m ?_;simp only[↓aD];intro u m;refine hK2 ((yU l c.u c.v).length) _ _ ?_ ?_ ?_
                     · have:=oH hbs;omega
                     · simp only[zz,zv]
                     · simp only[zQ,zR,zD,zE]
                       exact⟨(yU l c.u c.v),(Rt Q c.u c.v),_,_,_,_,_,_,_,_,_,_,(toF Dm c.u c.v),rfl,(m.sel [true,true,true,true,true,true,false,false]),hD60,(hC.upd hdel),hnC2,hD61,hD62,((hQ.upd c.u c.v).mono (by have:=oH hbs;omega)),(pG (Sl hbI.2 hit)),(ak8 l c.u c.v),(amH hnM _ _),(hS.trans (acW hw (by omega) hbs)),(by have:=oH hbs;have:=aik Dm c.u c.v;omega),rfl⟩
         · skip
           have hend:=Ws (l:=l) (want:=want) (Q:=Q) (D:=Dm) (.inl (by omega));refine aS 5 [] m ?_;simp only[↓aD];intro u m;replace m:=m.nilO 55 6;refine cR 4 [0] m ?_;simp only[↓aD];intro u m;refine bJ rfl rfl (afE (q:=q62) _) ?_;rintro v u e ⟨g6,rfl,hg,hB⟩;replace m:=m.newB e hg hB;clear e hg hB;simp only[zz];refine bJ rfl rfl (Wa _ adE (Gz (m.p 4 rfl) hD62 (m.b 0 rfl)) (fun xs h=>by rw[h.length_eq,ct];exact ap _) (by omega)) ?_;rintro v u e ⟨xs,ys,⟨A22,cap22,n22,hn22,rfl,hN⟩,hxs,hys,hso⟩;replace m:=m.newO e hN;clear e hN;obtain rfl:n22=Dm.length:=by rw[hn22,hxs.length_eq,ct]
           obtain rfl:ys=vK (Dm.map (·.1)):=Lj hnM (hys.trans hxs) hso;refine aP 4 [0] m ?_;simp only[↓aD,kX];intro u m;refine bW [20,138] [22,139,140,141,142,143,144,145,146,147,148,149,150] (fun n vs wl=>∃(k:Nat) (A20:Option Addr) (cap20:Nat),vs=[.slice A20 k cap20,.int .i64 (k:Int)]∧Mem w wl [oI 30 3 A22 Dm.length cap22 ((vK (Dm.map (·.1))).flatMap dN),oI 55 6 A20 k cap20 (((kW Dm).take k).flatMap cM),mI q62 es62 c62,oI 39 9 A1 l.length cap1 (l.flatMap aK)]∧(k≤Dm.length)∧(n=Dm.length-k)) ?_ ?_
           · skip
             apply Exists.intro;simp only[zQ,zR,zD,zE];exact⟨0,_,_,rfl,(m.sel [true,false,true,false,false,true,false,false,true]),cd _,rfl⟩
           · intro n vs wr hI u K7 hK7
             clear m;obtain⟨k,A20,cap20,rfl,m,hk,hn6⟩:=hI;simp only[zu,zF,zG];refine aS 5 [0,0] m ?_;simp only[↓aD];intro u m;refine bC rfl (fun hc10=>?_) (fun hc10=>?_)
             · skip
               obtain⟨k9,hk9,a9,hA9,hr9⟩:=((m.o 0 rfl).lat (enc:=dN) (fun _=>rfl) (by decide)).get (i:=k) (by omega);subst hA9;have hmv:=ai1 hk9;refine lF 5 [0] m ?_;simp only[↓aD];rintro u m rfl;refine aB (aF dS aA rfl rfl (by omega) (by omega) (cI (ag _))) ?_;simp only[zz];refine aO rfl (show gM _ _ _ _ (pt k9) from hr9.lies aG aA) ?_;simp only[zz];refine aP 3 [0,0] m ?_;simp only[↓aD,↓dU,eU,aR,aa];intro g7;intro u m;refine mh m [true,true,false,true,true] [(0,true),(2,true),(1,true),(3,true),(4,false),(5,true),(6,false),(7,false),(8,true)] aC (by kernel_rfl) (bQ (fun _ _ _ _ _ h=>h)) (ol:=?_) ?hol ?_
               case hol=>simp only[zw,zQ,zR];try rfl
               clear m;intro u m;refine Mz 4 [0,0] ?_;simp only[↓aD,↓dU,aR];refine bV (eQ (dK (ek:=pt) (en:=pt) (k:=k9) (v0:=⟨0,0,0⟩) Jq gN fB rfl rfl (m.p 3 rfl) hD62) ?_);simp only[zz];refine aL (⟨m.sel [true,true,false,true,true],?_⟩);refine aU (wP rfl rfl) (bV ?_);simp only[zz];refine Eo rfl ?_;intro u g8 e hg hB;replace m:=m.newB e hg hB;clear e hg hB;refine aL (⟨m.sel [false,true,true,false,true,true],?_⟩);refine bV ?_;simp only[zz];refine bR m 3 rfl rfl underlying46 adN rfl (by decide) rfl rfl rfl (m.b 0 rfl).rowsO (jM rfl) (by omega) (by omega) ?_;clear m;intro A20 cap20 u m;simp only[zF,zG] at m;rw[show ((kW Dm).take k).flatMap cM++_=((kW Dm).take (k+1)).flatMap cM by rw[cC hmv,av];rfl] at m;refine aL (⟨m.sel [false,true,true,false,true,true],?_⟩);refine aU aM (bM ?_);refine cR 5 [0] m ?_;simp only[↓aD];refine⟨by omega,?_⟩;intro u m;refine hK7 (Dm.length-(k+1)) _ _ ?_ ?_ ?_
               · omega
               · simp only[zz,zv]
               · simp only[zQ,zR,zD,zE]
                 exact⟨k+1,_,_,rfl,(m.sel [false,false,true,true,true,true]),by omega,rfl⟩
             · skip
               obtain rfl:k=Dm.length:=by omega
               rw[show (kW Dm).take Dm.length=kW Dm from be (by rw[yK];exact ap _)] at m;refine aS 9 [] m ?_;simp only[↓aD];intro u m;refine vW rfl rfl rfl ?_;try simp only[zD,zE]
               exact⟨_,rfl,m.ext,_,_,_,_,_,_,rfl,by rw[qW hc0 (hS.trans hend)],by rw[qW hc0 (hS.trans hend)];exact (yK _).symm,by rw[qW hc0 (hS.trans hend)];exact m.sel [false,true,false,true]⟩
theorem aao{x:Int}(h:oV x):∃r,Int.fdiv x (2^min (Int.toNat 10) IntKind.i64.bits)=r∧oV r:=by
 refine⟨_,rfl,?_⟩;rw[show (2:Int)^min (Int.toNat 10) IntKind.i64.bits=1024 from rfl,Int.fdiv_eq_ediv_of_nonneg _ (by decide)];unfold oV at h ⊢;omega
theorem ail{ts:List T3}{k c:Nat}{t:T3}{x y z:Int}(h:∀t∈ts,IT t)(ht:ts[k]? = some t)(hx:oV x)(hy:oV y)(hz:oV z):∀u∈ts.set k (t.setC c ⟨x,y,z⟩),IT u:=fun u hu=>(List.mem_or_eq_of_mem_set hu).elim (h u) fun e=>by
 obtain⟨ha,hb,hc⟩:=h t (ba ht);subst e;unfold T3.setC;split
 · exact⟨⟨hx,hy,hz⟩,hb,hc⟩
 · split
   · exact⟨ha,⟨hx,hy,hz⟩,hc⟩
   · exact⟨ha,hb,⟨hx,hy,hz⟩⟩
theorem agp{t:T3}(h:IT t){c:Nat}:oV (t.cor c).x∧oV (t.cor c).y∧oV (t.cor c).z:=by
 obtain⟨⟨a1,a2,a3⟩,⟨b1,b2,b3⟩,⟨c1,c2,c3⟩⟩:=h;unfold T3.cor;split
 · exact⟨a1,a2,a3⟩
 · split
   · exact⟨b1,b2,b3⟩
   · exact⟨c1,c2,c3⟩
theorem Mc{g o c k:Nat}:(⟨g,o,none⟩:Addr).add ((k:Int).toNat*c)=⟨g,o+k*c,none⟩:=by rw[ag];exact dT ..
theorem Fx{g c k:Nat}:(⟨g,0,none⟩:Addr).add ((k:Int).toNat*c)=⟨g,k*c,none⟩:=by rw[Mc,aq]
theorem abo{w0 w:ah}{S:List (Option Nat)}{E:aj}{A:Option Addr}{n cap k c:Nat}{ts:List T3}(h:Ow w0 w S E 9 A n cap (ts.flatMap aK))(hk:k<n)(hc:c<3):∃g t,A=some ⟨g,0,none⟩∧ts[k]? = some t∧nV w ⟨g,k*9+c*3,none⟩ [.int .i64 (t.cor c).x,.int .i64 (t.cor c).y,.int .i64 (t.cor c).z]:=by
 obtain⟨g,rfl⟩:=h.some (by omega);obtain⟨t,ht,a,e,hr⟩:=(h.lat (enc:=aK) adx (by decide)).get hk;cases e;have:=hr.cor hc;rw[dT,dT,aq] at this;exact⟨g,t,rfl,ht,this⟩
theorem Wt{A:Option Addr}{ci:Nat}{ins:List Bool}(w:ah)(hF:vH Pb 1 w A 125 ins):dF prog 83 [.agg #[.int .i64 2,.slice A 125 ci]] w (fun v w'=>∃ts:List T3,(ts.length≤1536∧∀t∈ts,IT t)∧SL 39 9 (ts.flatMap aK) ts.length w v w'):=by
 refine⟨anM,?_⟩;have m:=Mem.refl w
 go_enter func83,ntmps83
 refine eS 8 [0,0] m ?_;simp only[↓aD,Yz];intro g1;intro u m;refine cW m rfl rfl (acl _ (hF.ext m.ext)) ?_;clear m;rintro v u m ⟨c,rfl⟩;refine aP 8 [0] m ?_;simp only[↓aD];intro u m;refine gR rfl (fun hc1=>?_) (fun hc1=>?_)
 · skip
   refine aS 5 [] m ?_;simp only[↓aD];intro u m;refine aQ rfl rfl ?_;try simp only[zD,zE]
   exact⟨_,rfl,m.ext,[],⟨by simp,by simp⟩,none,0,0,rfl,rfl,Ow.nil _ _ _ _⟩
 · skip
   refine aS 5 [0,0] m ?_;simp only[↓aD,xG,dR,aa];intro u m;refine aB (nZ rfl rfl (by omega) La) (aP 4 [0] m ?_);simp only[↓aD];intro u m;refine aB aM ?_;replace m:=m.nilO 39 9;refine aP 7 [0] m ?_;simp only[↓aD];intro u m;refine bW [5,6] [7,8,16,17,18,19,20,21,22,23,24,25,26,27,28,29,30,31,32,33,34,35,36,37,38] (fun n vs wl=>∃(z:Nat) (n5:Nat) (ts:List T3) (A5:Option Addr) (cap5:Nat),vs=[.slice A5 n5 cap5,.int .i64 (z:Int)]∧Mem w wl [oI 39 9 A5 n5 cap5 (ts.flatMap aK),bI g1 [.int .i64 2,.slice A 125 ci] 139]∧(ts.length=n5)∧(∀t∈ts,SmT t)∧(n5≤384*z)∧(z≤4)∧(n=4-z)) ?_ ?_
   · skip
     apply Exists.intro;simp only[zQ,zR,zD,zE];exact⟨0,0,[],none,0,rfl,m,rfl,by simp,by omega,by omega,rfl⟩
   · intro n vs wr hI u K1 hK1
     clear m;obtain⟨z,n5,ts,A5,cap5,rfl,m,hlt,hts,hb,hz,hnz⟩:=hI;simp only[zu,zF,zG];refine aS 7 [0,0] m ?_;simp only[↓aD];intro u m;refine bC rfl (fun hc2=>?_) (fun hc2=>?_)
     · skip
       refine aS 8 [0] m ?_;simp only[↓aD];intro u m;refine bW [5,7] [8,21,22,23,24,25,26,27,28,29,30,31,32,33,34,35,36,37,38] (fun n vs wl=>∃(y:Nat) (n5:Nat) (ts:List T3) (A5:Option Addr) (cap5:Nat),vs=[.slice A5 n5 cap5,.int .i64 (y:Int)]∧Mem w wl [oI 39 9 A5 n5 cap5 (ts.flatMap aK),bI g1 [.int .i64 2,.slice A 125 ci] 139]∧(ts.length=n5)∧(∀t∈ts,SmT t)∧(n5≤384*z+96*y)∧(y≤4)∧(n=4-y)) ?_ ?_
       · skip
         apply Exists.intro;simp only[zQ,zR,zD,zE];exact⟨0,_,_,_,_,rfl,m,hlt,hts,by omega,by omega,rfl⟩
       · intro n vs wr hI u K2 hK2
         clear m;obtain⟨y,n5,ts,A5,cap5,rfl,m,hlt,hts,hb,hy,hny⟩:=hI;simp only[zu,zF,zG];refine aS 7 [0,0] m ?_;simp only[↓aD];intro u m;refine bC rfl (fun hc3=>?_) (fun hc3=>?_)
         · skip
           refine aS 8 [0] m ?_;simp only[↓aD];intro u m;refine bW [5,8] [26,27,28,29,30,31,32,33,34,35,36,37,38] (fun n vs wl=>∃(x:Nat) (n5:Nat) (ts:List T3) (A5:Option Addr) (cap5:Nat),vs=[.slice A5 n5 cap5,.int .i64 (x:Int)]∧Mem w wl [oI 39 9 A5 n5 cap5 (ts.flatMap aK),bI g1 [.int .i64 2,.slice A 125 ci] 139]∧(ts.length=n5)∧(∀t∈ts,SmT t)∧(n5≤384*z+96*y+24*x)∧(x≤4)∧(n=4-x)) ?_ ?_
           · skip
             apply Exists.intro;simp only[zQ,zR,zD,zE];exact⟨0,_,_,_,_,rfl,m,hlt,hts,by omega,by omega,rfl⟩
           · intro n vs wr hI u K3 hK3
             clear m;obtain⟨x,n5,ts,A5,cap5,rfl,m,hlt,hts,hb,hx,hnx⟩:=hI;simp only[zu,zF,zG];refine aS 7 [0,0] m ?_;simp only[↓aD];intro u m;refine bC rfl (fun hc4=>?_) (fun hc4=>?_)
             · skip
               refine aS 10 [1,0] m ?_;simp only[↓aD,Yz,tR,aa];intro u m;refine bJ rfl rfl (ahE (cx:=x) (cy:=y) (cz:=z) _ (hF.ext m.ext) (by omega) (by omega) (by omega)) ?_;rintro v u e ⟨us,hus,A7,cap7,n7,hn7,rfl,hN⟩;replace m:=m.newO e hN;clear e hN;simp only[zz];refine bR m 1 rfl rfl bT iA rfl (by decide) rfl rfl (m.o 0 rfl).own.1 (m.o 0 rfl).row (tI _) (by omega) (by omega) ?_;clear m;intro A5 cap5 u m;simp only[zF,zG] at m;rw[←av] at m;refine aP 8 [0] m ?_;simp only[↓aD];refine⟨by omega,?_⟩;intro u m;refine hK3 (4-(x+1)) _ _ ?_ ?_ ?_
               · omega
               · simp only[zz,zv]
               · simp only[zQ,zR,zD,zE]
                 exact⟨x+1,_,_,_,_,rfl,(m.sel [false,true,true]),by rw[aw];omega,fun t ht=>(bg.1 ht).elim (hts t) (hus.2 t),by omega,by omega,rfl⟩
             · skip
               refine aS 7 [0] m ?_;simp only[↓aD];refine⟨by omega,?_⟩;intro u m;refine hK2 (4-(y+1)) _ _ ?_ ?_ ?_
               · omega
               · simp only[zz,zv]
               · simp only[zQ,zR,zD,zE]
                 exact⟨y+1,_,_,_,_,rfl,m,hlt,hts,by omega,by omega,rfl⟩
         · skip
           refine aS 7 [0] m ?_;simp only[↓aD];refine⟨by omega,?_⟩;intro u m;refine hK1 (4-(z+1)) _ _ ?_ ?_ ?_
           · omega
           · simp only[zz,zv]
           · simp only[zQ,zR,zD,zE]
             exact⟨z+1,_,_,_,_,rfl,m,hlt,hts,by omega,by omega,rfl⟩
     · skip
       refine aS 4 [0] m ?_;simp only[↓aD];intro u m;refine bJ rfl rfl (Kx (ts:=ts) _ ((m.o 0 rfl).tris (aiL hts)) (by omega)) ?_;rintro v u e ⟨A8,cap8,n8,hn8,rfl,hN⟩;replace m:=m.newO e hN;clear e hN;refine aP 3 [] m ?_;simp only[↓aD];intro u m;refine aQ rfl rfl ?_;try simp only[zD,zE]
       exact⟨_,rfl,m.ext,dA ts,⟨by rw[lG];omega,pG (aiL hts)⟩,_,_,_,by rw[lG];omega,rfl,(m.o 0 rfl)⟩
theorem Ea{A:Option Addr}{N cap:Nat}{zs:List Int}(w:ah)(hL:vH ae0 1 w A N zs)(hI:∀z∈zs,oV z):dF prog 39 [.slice A N cap] w (fun v w'=>∃ts:List T3,(ts.length≤1536∧∀t∈ts,IT t)∧SL 39 9 (ts.flatMap aK) ts.length w v w'):=by
 refine⟨anj,?_⟩;have m:=Mem.refl w
 go_enter func39,ntmps39
 refine eS 7 [0] m ?_;simp only[↓aD];intro u m;refine bJ rfl rfl (acn _ (hL.ext m.ext) hI) ?_;rintro v u e ⟨Af,cf,ins,rfl,hF⟩;replace m:=m.ext' e;simp only[zz];refine bJ rfl rfl (Wt _ hF) ?_;rintro v u e ⟨ts,⟨hl0,hit⟩,A3,cap3,n3,hlt,rfl,hN⟩;replace m:=m.newO e hN;clear e hN;clear hF;replace hlt:=hlt.symm;refine Hi 8 [0] m ?_;simp only[↓aD];rintro u m rfl;refine bW [4] [5,6,10,11,12,13,14,15,16,17,18,19,20,21,22,23,24,25,26,27,28,29,30,31,32,33,34,35,36,37,38,39,40] (fun n vs wl=>∃(k:Nat) (ts:List T3),vs=[.int .i64 (k:Int)]∧Mem w wl [oI 39 9 A3 n3 cap3 (ts.flatMap aK)]∧(ts.length=n3)∧(ts.length≤1536)∧(∀t∈ts,IT t)∧(k≤n3)∧(n=n3-k)) ?_ ?_
 · skip
   apply Exists.intro;simp only[zQ,zR,zD,zE];exact⟨0,_,rfl,m,hlt,hl0,hit,by omega,rfl⟩
 · intro n vs wr hI u K1 hK1
   clear m;obtain⟨k,ts,rfl,m,hlt,hl0,hit,hk,hn⟩:=hI;simp only[zu,zF,zG];refine aS 8 [0,0] m ?_;simp only[↓aD,iS];intro u m;refine bC rfl (fun hc1=>?_) (fun hc1=>?_)
   · skip
     refine aS 8 [0] m ?_;simp only[↓aD];intro u m;refine bW [5] [6,16,17,18,19,20,21,22,23,24,25,26,27,28,29,30,31,32,33,34,35,36,37,38,39,40] (fun n vs wl=>∃(j:Nat) (ts:List T3),vs=[.int .i64 (j:Int)]∧Mem w wl [oI 39 9 A3 n3 cap3 (ts.flatMap aK)]∧(ts.length=n3)∧(ts.length≤1536)∧(∀t∈ts,IT t)∧(j≤3)∧(n=3-j)) ?_ ?_
     · skip
       apply Exists.intro;simp only[zQ,zR,zD,zE];exact⟨0,_,rfl,m,hlt,hl0,hit,by omega,rfl⟩
     · intro n vs wr hI u K2 hK2
       clear m;obtain⟨j,ts,rfl,m,hlt,hl0,hit,hj,hn2⟩:=hI;simp only[zu,zF,zG];refine aS 6 [0,0] m ?_;simp only[↓aD];intro u m;refine bC rfl (fun hc2=>?_) (fun hc2=>?_)
       · skip
         refine aS 4 [] m ?_;simp only[↓aD];intro u m;obtain⟨g,t,rfl,ht,hrt⟩:=abo (c:=j) (m.o 0 rfl) (show k<n3 by omega) (by omega);refine tO 4 [0] m ?_;simp only[↓aD];rintro u m rfl;refine aB (aF bT aN rfl rfl (by omega) (by omega) Fx) ?_;simp only[zz];refine aB (aJ dC aA rfl rfl (by omega) (by omega) Mc) ?_;simp only[zz];refine aO rfl (show gM _ _ _ _ (pt (t.cor j)) from hrt.lies aG aA) ?_;simp only[zz];refine aP 3 [0] m ?_;simp only[↓aD,eU,aR,aa];intro g1;intro u m;obtain⟨htx,hty,htz⟩:=agp (hit t (ba ht)) (c:=j);obtain⟨x1,hx1,hx2⟩:=aao htx;obtain⟨y1,hy1,hy2⟩:=aao hty;obtain⟨z1,hz1,hz2⟩:=aao htz;refine gc (cL m 15 aC (by kernel_rfl) ?_);simp only[zy];refine eC 5 [0] ?_;simp only[↓aD,iZ,dR,aa];refine aH (jQ rfl rfl (by omega) hx1) (eC 2 [0] ?_);simp only[↓aD,jA,dR,aa];refine aH (jQ rfl rfl (by omega) hy1) (eC 2 [0] ?_);simp only[↓aD,jP,dR,aa];refine aH (jQ rfl rfl (by omega) hz1) (aH (tM rfl rfl rfl) ?_);simp only[zz];refine aH (aF bT aN rfl rfl (by omega) (by omega) Fx) ?_;simp only[zz];refine aH (aJ dC aA rfl rfl (by omega) (by omega) Mc) (aY ?_);clear m;intro u m;simp only[zz];refine agO (off:=(k*9+j*3)) m 1 rfl rfl rfl aA (by simp;omega) rfl ?_;clear m;intro u m;simp only[zF,zG] at m;rw[show over (ts.flatMap aK) (k*9+j*3) _=(ts.set k (t.setC j ⟨x1,y1,z1⟩)).flatMap aK from adw (p:=⟨x1,y1,z1⟩) ht (by omega)] at m;refine aL (cR 6 [0] m ?_);simp only[↓aD];refine⟨by omega,?_⟩;intro u m;refine hK2 (3-(j+1)) _ _ ?_ ?_ ?_
         · omega
         · simp only[zz,zv]
         · simp only[zQ,zR,zD,zE]
           exact⟨j+1,_,rfl,(m.sel [false,true]),by rw[dl];exact hlt,by rw[dl];exact hl0,ail hit ht hx2 hy2 hz2,by omega,rfl⟩
       · skip
         refine aS 7 [0] m ?_;simp only[↓aD];refine⟨by omega,?_⟩;intro u m;refine hK1 (n3-(k+1)) _ _ ?_ ?_ ?_
         · omega
         · simp only[zz,zv]
         · simp only[zQ,zR,zD,zE]
           exact⟨k+1,_,rfl,m,hlt,hl0,hit,by omega,rfl⟩
   · skip
     refine aS 4 [0] m ?_;simp only[↓aD];intro u m;refine bJ rfl rfl (Kx (ts:=ts) _ ((m.o 0 rfl).tris hit) (by omega)) ?_;rintro v u e ⟨A8,cap8,n8,hn8,rfl,hN⟩;replace m:=m.newO e hN;clear e hN;refine aP 3 [] m ?_;simp only[↓aD];intro u m;refine aQ rfl rfl ?_;try simp only[zD,zE]
     exact⟨_,rfl,m.ext,dA ts,⟨by rw[lG];omega,pG hit⟩,_,_,_,by rw[lG];omega,rfl,(m.o 0 rfl)⟩
theorem aap{ts:List T3}{N cap a:Nat}{A:Option Addr}{at0:Int}(w:ah)(hT:bK w A N ts)(hNl:N≤1536)(ha:a<3):dF prog 96 [.slice A N cap,.int .i64 (a:Int),.int .i64 at0] w (fun v w'=>∃us:List T3,(us.length≤N∧∀t∈us,IT t)∧SL 39 9 (us.flatMap aK) us.length w v w'):=by
 refine⟨anP,?_⟩;have m:=Mem.refl w;have htl:=hT.len
 go_enter func96,ntmps96
 refine eS 6 [0] m ?_;simp only[↓aD];intro u m;refine aB aM ?_;replace m:=m.nilO 39 9;refine aP 7 [0] m ?_;simp only[↓aD];intro u m;refine bW [7,8] [9,10,11,12,13,14,15,16,17,18,19,20,21,22,23,24,25,26,27,28,29,30,31,32,33,34,35,36,37,38,39,40,41,42,43,44,45,46,47,48,49,50,51] (fun n vs wl=>∃(k n7:Nat) (us:List T3) (A7:Option Addr) (cap7:Nat),vs=[.slice A7 n7 cap7,.int .i64 (k:Int)]∧Mem w wl [oI 39 9 A7 n7 cap7 (us.flatMap aK)]∧(us.length=n7)∧(∀t∈us,IT t)∧(n7≤k)∧(k≤N)∧(n=N-k)) ?_ ?_
 · skip
   apply Exists.intro;simp only[zQ,zR,zD,zE];exact⟨0,0,[],none,0,rfl,m,rfl,by simp,by omega,by omega,rfl⟩
 · intro n vs wr hI u K1 hK1
   clear m;obtain⟨k,n7,us,A7,cap7,rfl,m,hul,hui,hb,hk,hn⟩:=hI;simp only[zu,zF,zG];refine aS 8 [0,0] m ?_;simp only[↓aD,iS];intro u m;refine bC rfl (fun hc1=>?_) (fun hc1=>?_)
   · skip
     obtain⟨t,ht,hit,a0,hA,hrow⟩:=hT.get (i:=k) (by omega);subst hA;refine aS 13 [0] m ?_;simp only[↓aD];intro u m;refine bW [9,10] [11,12,19,20,21,22,23,24,25,26,27,28,29,30,31,32,33,34,35,36,37,38,39,40,41,42] (fun n vs wl=>∃(j c:Nat),vs=[.int .i64 (c:Int),.int .i64 (j:Int)]∧Mem w wl [oI 39 9 A7 n7 cap7 (us.flatMap aK)]∧(c≤j)∧(j≤3)∧(n=3-j)) ?_ ?_
     · skip
       apply Exists.intro;simp only[zQ,zR,zD,zE];exact⟨0,0,rfl,m,by omega,by omega,rfl⟩
     · intro n vs wr hI u K2 hK2
       clear m;obtain⟨j,c,rfl,m,hc,hj,hn2⟩:=hI;simp only[zu,zF,zG];refine aS 6 [0,0] m ?_;simp only[↓aD];intro u m;refine bC rfl (fun hc2=>?_) (fun hc2=>?_)
       · skip
         refine aS 8 [0] m ?_;simp only[↓aD];intro u m;refine aB (aF bT aN rfl rfl (by omega) (by omega) (cI (ag _))) ?_;simp only[zz];refine aB (aJ dC aA rfl rfl (by omega) (by omega) (cI (ag _))) ?_;simp only[zz];refine aO rfl (show gM _ _ _ _ (pt (t.cor j)) from ((hrow.ext m.ext).cor (show j<3 by omega)).lies aG aA) ?_;simp only[zz];refine aP 17 [0,0,0,0,0] m ?_;simp only[↓aD,eU,aR,iZ,dR,jA,jP,tR,Gr,xE,aa];intro g1 g2;intro u m;refine cR 1 [0] m ?_;simp only[↓aD];intro u m;refine aB (aJ oW aX rfl rfl (by omega) (by omega) (eT (ag _))) ?_;simp only[zz];refine aO rfl (aiJ (m.b 0 rfl) (show a<3 by omega)) ?_;simp only[zz];refine aP 3 [0,0] m ?_;simp only[↓aD];intro u m;refine Jz m [9] [41,42] (fun vs=>∃(c:Nat),vs=[.int .i64 (c:Int)]∧(c≤j+1)) ?_ ?_
         · intro K3 hK3
           refine bC rfl (fun hc3=>?_) (fun hc3=>?_)
           · skip
             refine aS 5 [0] m ?_;simp only[↓aD];refine⟨by omega,?_⟩;intro u m;refine hK3 _ _ ?_ m ?_
             · simp only[zz,zv]
             · simp only[zQ,zR,zD,zE]
               exact⟨c+1,rfl,by omega⟩
           · skip
             refine aS 1 [0] m ?_;simp only[↓aD];intro u m;refine hK3 _ _ ?_ m ?_
             · simp only[zz,zv]
             · simp only[zQ,zR,zD,zE]
               exact⟨c,rfl,by omega⟩
         · intro vs wr m hI u
           obtain⟨c,rfl,hc⟩:=hI;simp only[zu,zF,zG];refine cR 6 [0] m ?_;simp only[↓aD];refine⟨by omega,?_⟩;intro u m;refine hK2 (3-(j+1)) _ _ ?_ ?_ ?_
           · omega
           · simp only[zz,zv]
           · simp only[zQ,zR,zD,zE]
             exact⟨j+1,_,rfl,(m.sel [false,false,true]),by omega,by omega,rfl⟩
       · skip
         refine aS 6 [0,0] m ?_;simp only[↓aD];intro u m;refine bC rfl (fun hc4=>?_) (fun hc4=>?_)
         · skip
           refine aS 4 [0] m ?_;simp only[↓aD];intro u m;refine aB (aF bT aN rfl rfl (by omega) (by omega) (cI (ag _))) ?_;simp only[zz];refine aO rfl (show gM _ _ _ _ (tr t) from (hrow.ext m.ext).lies cF aN) ?_;simp only[zz];refine eF rfl ?_;intro u g1 e hg hB;replace m:=m.newB e hg hB;clear e hg hB;simp only[zz];refine bR m 1 rfl rfl bT iA rfl (by decide) rfl rfl rfl (m.b 0 rfl).rowsO (jM rfl) (by omega) (by omega) ?_;clear m;intro A7 cap7 u m;simp only[zF,zG] at m;rw[show us.flatMap aK++_=(us++[t]).flatMap aK by rw[av];rfl] at m;refine aP 8 [0] m ?_;simp only[↓aD];refine⟨by omega,?_⟩;intro u m;refine hK1 (N-(k+1)) _ _ ?_ ?_ ?_
           · omega
           · simp only[zz,zv]
           · simp only[zQ,zR,zD,zE]
             exact⟨k+1,_,_,_,_,rfl,(m.sel [false,true]),by rw[aw,hul];rfl,fun u hu=>(bg.1 hu).elim (hui u) fun h=>by cases ay.1 h;exact hit,by omega,by omega,rfl⟩
         · skip
           refine aS 7 [0] m ?_;simp only[↓aD];refine⟨by omega,?_⟩;intro u m;refine hK1 (N-(k+1)) _ _ ?_ ?_ ?_
           · omega
           · simp only[zz,zv]
           · simp only[zQ,zR,zD,zE]
             exact⟨k+1,_,_,_,_,rfl,m,hul,hui,by omega,by omega,rfl⟩
   · skip
     refine aS 7 [] m ?_;simp only[↓aD];intro u m;refine aQ rfl rfl ?_;try simp only[zD,zE]
     exact⟨_,rfl,m.ext,us,⟨by omega,hui⟩,_,_,_,hul.symm,rfl,(m.o 0 rfl)⟩
theorem agq{ts:List T3}{N cap:Nat}{A:Option Addr}{ax at0:Int}(w:ah)(hT:bK w A N ts)(hNl:N≤1536)(hax:0≤ax∧ax<256)(hat:0≤at0∧at0<65536):dF prog 48 [.slice A N cap,.int .u8 ax,.int .u16 at0] w (fun v w'=>∃(us:List T3) (A':Option Addr) (n' c':Nat),v=.slice A' n' c'∧bK w' A' n' us∧n'≤N):=by
 refine⟨anm,?_⟩;have m:=Mem.refl w;have e1:ax.tmod 4=ax%4:=gv hax.1;have e2:at0.tmod 1500=at0%1500:=gv hat.1
 go_enter func48,ntmps48
 refine eS 8 [0] m ?_;simp only[↓aD];intro u m;refine aB (cU rfl rfl (by omega) e1) (aP 2 [0,0] m ?_);simp only[↓aD];intro u m;refine bC rfl (fun hc1=>?_) (fun hc1=>?_)
 · skip
   refine aS 6 [] m ?_;simp only[↓aD];intro u m;exact aQ rfl rfl (⟨_,rfl,m.ext,ts,_,_,_,rfl,hT.ext m.ext,ap _⟩)
 · skip
   obtain⟨a,ha,ha3⟩:∃a:Nat,ax%4=(a:Int)∧a<3:=⟨(ax%4).toNat,by omega,by omega⟩
   refine aS 5 [0] m ?_;simp only[↓aD];intro u m;refine aB (cU rfl rfl (by omega) (e1.trans ha)) (aP 2 [0] m ?_);simp only[↓aD,uS,Hk];refine⟨by omega,?_⟩;intro u m;refine aB (cU rfl rfl (by omega) e2) (aP 2 [0] m ?_);simp only[↓aD,aod,Hk];refine⟨by omega,?_⟩;intro u m;refine bJ rfl rfl (aap _ (hT.ext m.ext) hNl ha3) ?_;rintro v u e ⟨us,⟨hl,hui⟩,A9,cap9,n9,hn9,rfl,hN⟩;replace m:=m.newO e hN;clear e hN;refine aP 3 [] m ?_;simp only[↓aD];intro u m;refine aQ rfl rfl ?_;try simp only[zD,zE]
   exact⟨_,rfl,m.ext,us,_,_,_,rfl,(m.o 0 rfl).tris hui,by omega⟩
theorem acY{A:Option Addr}{N cap:Nat}{zs:List Int}{ax at0:Int}(w:ah)(hL:vH ae0 1 w A N zs)(hcp:N≤cap)(hI:∀z∈zs,oV z)(hax:0≤ax∧ax<256)(hat:0≤at0∧at0<65536):dF prog 15 [.slice A N cap,.int .u8 ax,.int .u16 at0] w (fun v w'=>∃(us:List T3) (A':Option Addr) (n' c':Nat),v=.slice A' n' c'∧bK w' A' n' us∧n'≤1536):=by
 refine⟨am7,?_⟩;have m:=Mem.refl w;have hl:=hL.len;obtain⟨M,hM⟩:∃M,M=min 4 N:=⟨_,rfl⟩
 go_enter func15,ntmps15
 refine eS 10 [] m ?_;simp only[↓aD,Vd];intro u m;rw[show (if (4:Int)<(N:Int) then (4:Int) else (N:Int))=(M:Int) by split <;> omega];refine go (aB (lB lM aX rfl rfl (ag _) (by omega) (by omega)) ?_);simp only[zz];refine bJ rfl rfl (Ea _ ((hL.ext m.ext).take (show M≤N by omega)) (fun z hz=>hI z (jh hz))) ?_;rintro v u e ⟨ts,⟨hl0,hit⟩,A8,cap8,n8,hn8,rfl,hN⟩;replace m:=m.newO e hN;clear e hN;refine aP 2 [0] m ?_;simp only[↓aD];intro u m;refine bJ rfl rfl (agq (ts:=ts) _ ((m.o 0 rfl).tris hit) (by omega) hax hat) ?_;rintro v u e ⟨us,A9,n9,c9,rfl,hT9,hn9⟩;replace m:=m.ext' e;refine Hi 3 [] m ?_;simp only[↓aD];rintro u m rfl;refine aQ rfl rfl ?_;try simp only[zD,zE]
 exact⟨_,rfl,m.ext,us,_,_,_,rfl,hT9,by omega⟩
end Go.Proofs.YtfekpcimgncioaaGreatDoor
namespace Go.Proofs.YtfekpcimgncioaaGreatDoor
open Go.Proofs.Tryz
open Go.RowKit Go.Lith
set_option maxRecDepth 100000
attribute [local irreducible] ao bz eZ bE bX Code.wp
end Go.Proofs.YtfekpcimgncioaaGreatDoor
namespace Go.Proofs.YtfekpcimgncioaaGreatDoor
open Go.Proofs.Tryz
open Go.RowKit Go.Lith
set_option maxRecDepth 100000
attribute [local irreducible] ao bz eZ bE bX Code.wp
attribute [local congr] nO fF fG fH fI fJ jH fK fL fM fN fO fP fQ fR fS fT fU dX dY fV fW fY fZ gA jJ cO cP cA cN fX jI dZ eA eB gB gC jK
theorem Tg{t:T3}(h:IT t){c:Nat}:I3 (t.cor c):=by
 obtain⟨h1,h2,h3⟩:=agp h (c:=c);exact⟨h1,h2,h3⟩
theorem yQ{P:Program}{f:FuncId}{args:List ac}{w:ah}{v v':ac}(h:dF P f args w fun u _=>u=v)(e:v=v'):dF P f args w fun u _=>u=v':=e▸h
theorem Md{p:P3}(h:(-1000≤p.x∧p.x≤1000)∧(-1000≤p.y∧p.y≤1000)∧(-1000≤p.z∧p.z≤1000)):I3 p:=⟨by unfold oV;omega,by unfold oV;omega,by unfold oV;omega⟩
instance sx3:I3 (⟨10,0,0⟩:P3):=Md (by decide)
instance sy3:I3 (⟨0,10,0⟩:P3):=Md (by decide)
instance sz3:I3 (⟨-10,0,0⟩:P3):=Md (by decide)
instance sa3:I3 (⟨0,0,0⟩:P3):=Md (by decide)
instance sb3:I3 (⟨9,0,0⟩:P3):=Md (by decide)
instance sc3:I3 (⟨0,9,0⟩:P3):=Md (by decide)
instance sd3:I3 (⟨0,0,9⟩:P3):=Md (by decide)
theorem Ih:∀t∈yX,IT t:=pG aeX
def s1T:List T3:=[⟨⟨0,0,0⟩,⟨0,9,0⟩,⟨9,0,0⟩⟩,⟨⟨0,0,0⟩,⟨9,0,0⟩,⟨0,0,9⟩⟩,⟨⟨9,0,0⟩,⟨0,9,0⟩,⟨0,0,9⟩⟩,⟨⟨0,9,0⟩,⟨0,0,0⟩,⟨0,0,9⟩⟩]
def s2T:List T3:=[⟨⟨0,0,0⟩,⟨9,0,0⟩,⟨0,9,0⟩⟩]
theorem aoV:∀t∈s1T,IT t:=fun t ht=>by
 simp only[s1T,ak,bw,or_false] at ht;rcases ht with rfl | rfl | rfl | rfl
 · exact⟨sa3,sc3,sb3⟩
 · exact⟨sa3,sb3,sd3⟩
 · exact⟨sb3,sc3,sd3⟩
 · exact⟨sc3,sa3,sd3⟩
theorem aoW:∀t∈s2T,IT t:=fun t ht=>by
 simp only[s2T,ak,bw,or_false] at ht;subst ht;exact⟨sa3,sb3,sc3⟩
theorem amJ:Lv yX ⟨10,0,0⟩ ⟨0,10,0⟩=true:=by rw[Lv,ach,ahu];decide
theorem amK:Lv yX ⟨10,0,0⟩ ⟨-10,0,0⟩=false:=by rw[Lv,ahv,gw]
theorem apn:Lv s1T ⟨0,0,0⟩ ⟨9,0,0⟩=false:=by kernel_rfl
theorem apo:(yU s2T ⟨0,0,0⟩ ⟨9,0,0⟩).length=0:=by kernel_rfl
theorem amL:(mT yX 7).1.length=6:=congrArg Prod.fst Vi
theorem amM:(mT yX 7).2=[(⟨-10,0,0⟩,⟨0,-10,0⟩)]:=congrArg Prod.snd Vi
theorem agr  : eM prog 14 [] (.bool true):=by
 intro w;refine⟨am6,?_⟩;have m:=Mem.refl w
 go_enter func14,ntmps14
 refine eS 6 [0] m ?_;simp only[↓aD];intro u m;refine bJ rfl rfl (alL _) ?_;rintro v u e ⟨A1,cap1,n1,rfl,rfl,hN⟩;replace m:=m.newO e hN;clear e hN;refine aP 13 [0,0] m ?_;simp only[↓aD,tQ,eU,aR,aa];intro g1;intro u m;refine go (cW m rfl rfl (yQ (tW (ts:=yX) (p:=⟨10,0,0⟩) (q:=⟨0,10,0⟩) _ ((m.o 1 rfl).tris Ih) (by decide)) (by rw[amJ])) ?_);clear m;rintro v u m rfl;refine aP 4 [0,0] m ?_;simp only[↓aD,aR,tQ,aa];intro u m;refine eD rfl (cW m rfl rfl (yQ (tW (ts:=yX) (p:=⟨10,0,0⟩) (q:=⟨-10,0,0⟩) _ ((m.o 1 rfl).tris Ih) (by decide)) (by rw[amK])) ?_);clear m;rintro v u m rfl;refine aP 6 [0,0] m ?_;simp only[↓aD,aR,tQ,Bool.not_true,ei,aa];intro u m;refine eD rfl (bJ rfl rfl (Bl (ts:=yX) (p:=⟨10,0,0⟩) (q:=⟨0,10,0⟩) _ ((m.o 1 rfl).tris Ih) (by decide)) ?_);rintro v u e ⟨A2,cap2,n2,hn2,rfl,hN⟩;replace m:=m.newO e hN;clear e hN;obtain rfl:n2=6:=by rw[hn2];exact ahw
 refine aP 1 [0] m ?_;simp only[↓aD,iS];intro u m;refine eD rfl (aB (vZ rfl rfl rfl) ?_);refine aP 12 [0] m ?_;simp only[↓aD,tQ,eU,aR,aa];intro g2;intro u m;refine cR 8 [0,0] m ?_;simp only[↓aD,eU,aR,tQ,aa];intro g3 g4;intro u m;refine cR 11 [0,3,1] m ?_;simp only[↓aD,tQ,eU,aR,aa];intro g5;intro u m;refine cR 5 [2,3,2,0] m ?_;simp only[↓aD,aR,pS,aa];intro u m;refine cR 5 [2,1,0] m ?_;simp only[↓aD,pS,aR,aa];intro u m;refine cR 4 [1,3,0,0] m ?_;simp only[↓aD,aR,pS,aa];intro u m;refine abW rfl rfl rfl rfl ?_;intro u g6 e hg hB;replace m:=m.newB e hg hB;clear e hg hB;simp only[zz];replace m:=m.own 0 rfl (n:=4) (c:=9) rfl (jE rfl);simp only[zG] at m;refine aP 2 [4,3,0] m ?_;simp only[↓aD,aR];intro u m;refine cW m rfl rfl (yQ (tW (ts:=s1T) (p:=⟨0,0,0⟩) (q:=⟨9,0,0⟩) _ (((m.o 0 rfl).as (show _=s1T.flatMap aK from rfl)).tris aoV) (by decide)) (by rw[apn])) ?_;clear m;rintro v u m rfl;refine aP 6 [4,3,2,0] m ?_;simp only[↓aD,aR,pS,Bool.not_true,ei,aa];intro u m;refine eD rfl (eF rfl ?_);intro u g7 e hg hB;replace m:=m.newB e hg hB;clear e hg hB;simp only[zz];replace m:=m.own 0 rfl (n:=1) (c:=9) rfl (jE rfl);simp only[zG] at m;refine aP 2 [5,4,0] m ?_;simp only[↓aD,aR];intro u m;refine eD rfl (bJ rfl rfl (Bl (ts:=s2T) (p:=⟨0,0,0⟩) (q:=⟨9,0,0⟩) _ (((m.o 0 rfl).as (show _=s2T.flatMap aK from rfl)).tris aoW) (by decide)) ?_);rintro v u e ⟨A5,cap5,n5,hn5,rfl,hN⟩;replace m:=m.newO e hN;clear e hN;obtain rfl:n5=0:=by rw[hn5];exact apo
 refine aP 1 [0] m ?_;simp only[↓aD,iS];intro u m;refine eD rfl (aB (vZ rfl rfl rfl) ?_);refine aP 6 [0] m ?_;simp only[↓aD];intro u m;refine bJ rfl rfl (Mb (ts:=yX) (want:=7) _ ((m.o 9 rfl).tris Ih) (by decide) (by decide)) ?_;rintro v u e ⟨A7,n7,c7,A8,n8,c8,rfl,hn7,hn8,hM⟩;replace m:=m.plus hM;clear hM e;simp only[b_,bv] at m;obtain rfl:n7=6:=hn7.trans amL;rw[amM] at hn8 m;obtain rfl:n8=1:=hn8;refine aP 15 [0] m ?_;simp only[↓aD,iS];intro u m;refine eD rfl (aB (vZ rfl rfl rfl) ?_);refine aP 6 [] m ?_;simp only[↓aD,tQ,aog,aa];intro u m;refine go (eD rfl (Eo rfl ?_));intro u g8 e hg hB;replace m:=m.newB e hg hB;clear e hg hB;simp only[zz];replace m:=m.own 0 rfl (n:=1) (c:=6) rfl (jE rfl);simp only[zG] at m;refine eD rfl (cW m rfl rfl (yQ (aeV (xs:=[(⟨-10,0,0⟩,⟨0,-10,0⟩)]) (ys:=[(⟨-10,0,0⟩,⟨0,-10,0⟩)]) _ ((m.o 1 rfl).lat Hf (by decide)) (((m.o 0 rfl).as (show _=([(⟨-10,0,0⟩,⟨0,-10,0⟩)]:List E3).flatMap cM from rfl)).lat Hf (by decide)) (by decide)) (by rw[decide_eq_true rfl])) ?_);clear m;rintro v u m rfl;refine aP 4 [] m ?_;simp only[↓aD];intro u m;exact aQ rfl rfl (⟨_,rfl,m.ext,rfl⟩)
end Go.Proofs.YtfekpcimgncioaaGreatDoor
namespace Go.Lith
open Go.RowKit Go.ChangeShapes
variable {H:Type} {enc:aj × ac→H} {P:Program} {w:ah} {base:Nat} {spare:Nat→Bool} {held:Bool}
theorem Wu{v:ac}{A:Option Addr}{len cap:Nat}(h:v.cells.toList=[.slice A len cap])(hv:∀cs,v≠.agg cs):v=.slice A len cap:=by
 cases v <;> first | (exact absurd rfl (hv _)) | (simp[nw] at h;done) | (simpa[nw] using h)
end Go.Lith
namespace Go.Proofs.YtfekpcimgncioaaGreatDoor
open Go.Proofs.Tryz
open Go.RowKit Go.Lith
set_option maxRecDepth 100000
attribute [local irreducible] ao bz eZ bE bX Code.wp
attribute [local congr] nO fF fG fH fI fJ jH fK fL fM fN fO fP fQ fR fS fT fU dX dY fV fW fY fZ gA jJ cO cP cA cN fX jI dZ eA eB gB gC jK
theorem aim{A:Option Addr}{N cap:Nat}{zs:List Int}{x y:Int}(w:ah)(hL:vH ae0 1 w A N zs)(hcp:N≤cap)(hI:∀z∈zs,oV z)(hx:0≤x∧x<65536)(hy:0≤y∧y<65536):dF prog 27 [.slice A N cap,.agg #[.int .u16 x,.int .u16 y]] w (fun v w'=>∃(us:List T3) (A':Option Addr) (n' c':Nat),v=.slice A' n' c'∧bK w' A' n' us∧n'≤1536):=by
 refine⟨anc,?_⟩;have m:=Mem.refl w;have hl:=hL.len;obtain⟨M,hM⟩:∃M,M=min 4 N:=⟨_,rfl⟩
 go_enter func27,ntmps27
 refine eS 10 [0,0] m ?_;simp only[↓aD,aiC,aiB,ab,ad,aa];intro g1;refine⟨by omega,?_⟩;intro u m;refine aB (kS ahB underlying23 rfl (show IntKind.u8.wrap x=x%256 from rfl)) (aP 2 [0,0] m ?_);simp only[↓aD,aiC,aiB,ab,ad,aa];refine⟨by omega,?_⟩;intro u m;refine bJ rfl rfl (acY _ (hL.ext m.ext) hcp hI (by omega) hy) ?_;rintro v u e ⟨us,A9,n9,c9,rfl,hT9,hn9⟩;replace m:=m.ext' e;refine Hi 6 [0] m ?_;simp only[↓aD];rintro u m rfl;refine bJ rfl rfl (Si _ hT9 (by omega)) ?_;rintro v u e rfl;replace m:=m.ext' e;replace hT9:=hT9.ext e;refine Hi 2 [0,0] m ?_;simp only[↓aD];rintro u m rfl;refine bC rfl (fun hc1=>?_) (fun hc1=>?_)
 · skip
   refine lF 6 [] m ?_;simp only[↓aD,Vd];rintro u m rfl;rw[show (if (4:Int)<(N:Int) then (4:Int) else (N:Int))=(M:Int) by split <;> omega];refine go (aB (lB lM aX rfl rfl (ag _) (by omega) (by omega)) ?_);simp only[zz];refine bJ rfl rfl (Ea _ ((hL.ext m.ext).take (show M≤N by omega)) (fun z hz=>hI z (jh hz))) ?_;rintro v u e ⟨ts,⟨hl0,hit⟩,A8,cap8,n8,hn8,rfl,hN⟩;replace m:=m.newO e hN;clear e hN;refine Hi 3 [] m ?_;simp only[↓aD];rintro u m rfl;refine aQ rfl rfl ?_;try simp only[zD,zE]
   exact⟨_,rfl,m.ext,ts,_,_,_,rfl,(m.o 0 rfl).tris hit,by omega⟩
 · skip
   refine lF 7 [] m ?_;simp only[↓aD];rintro u m rfl;refine aQ rfl rfl ?_;try simp only[zD,zE]
   exact⟨_,rfl,m.ext,us,_,_,_,rfl,hT9,by omega⟩
theorem Wv:∀(n:Nat) {want:Int} {l:List T3} {q:P3→List Int} {D:List Mv},(∀t∈l,IT t)→∀t∈(kJ n want l q D).1,IT t
 | 0,_,_,_,_,h=>h
 | n+1,want,l,q,D,h=>by
  unfold kJ;split
  · exact h
  · cases hb:sK l q with
    | none=>exact h
    | some c=>exact Wv n (pG (Sl (Dz h (Tf (Ru.1 (Ou hb).1).2.1).2) h))
theorem ags{l:List T3}{want:Int}(h:∀t∈l,IT t):∀t∈(mT l want).1,IT t:=by
 unfold mT;split
 · exact pG h
 · exact Wv _ (pG h)
theorem Ww:∀(n:Nat) {want:Int} {l:List T3} {q:P3→List Int} {D:List Mv},(kJ n want l q D).1.length≤l.length
 | 0,_,_,_,_=>ap _
 | n+1,want,l,q,D=>by
  unfold kJ;split
  · exact ap _
  · cases hb:sK l q with
    | none=>exact ap _
    | some c=>exact Nat.le_trans (Ww n) (Nat.le_of_lt (oH hb))
theorem agt{l:List T3}{want:Int}:(mT l want).1.length≤l.length:=by
 unfold mT;split
 · rw[lG];exact ap _
 · exact Nat.le_trans (Ww _) (Nat.le_of_eq (lG _))
theorem acZ{l:List T3}{want:Int}(hw:0≤want)(h:¬((mT l want).1.length:Int)≤want)(p q:P3):Lv (mT l want).1 p q=false:=by
 unfold mT at h ⊢;split
 · rename_i k
   rw[Lv,decide_eq_false k,gw,Bool.false_and]
 · rename_i k
   rw[if_neg k] at h;rcases Kk _ want (dA l) (rY (dA l)) [] (ap _) hw with h1 | h1
   · exact absurd h1 h
   · show (decide (p≠q)&&_&&_)=false
     rw[h1,gw]
theorem Th{w0 w:ah}{S:List (Option Nat)}{E:aj}{g n cap k c:Nat}{t:T3}{ts:List T3}(h:Ow w0 w S E 9 (some ⟨g,0,none⟩) n cap (ts.flatMap aK))(ht:ts[k]? = some t)(hc:c<3):nV w ⟨g,k*9+c*3,none⟩ [.int .i64 (t.cor c).x,.int .i64 (t.cor c).y,.int .i64 (t.cor c).z]:=by
 have:=((h.lat (enc:=aK) adx (by decide)).at ht).cor hc;rw[dT,dT,aq] at this;exact this
end Go.Proofs.YtfekpcimgncioaaGreatDoor
namespace Go.Lith
open Go.RowKit Go.ChangeShapes
variable {H:Type} {enc:aj × ac→H} {P:Program} {w:ah} {base:Nat} {spare:Nat→Bool} {held:Bool}
def amN(k:IntKind)(z:Int):List ac:=[.int k z]
theorem agu{A:Option Addr}{n:Nat}{zs:List Int}(h:adu w A n zs):vH (amN .i64) 1 w A n zs:=⟨h.len,fun i x hx=>by
 obtain⟨a,rfl,hc⟩:=h.row i x hx;exact⟨a,rfl,fun j u hj=>by
  have h1:j=0:=by
   have:=(List.getElem?_eq_some_iff.1 hj).1;simp[amN] at this;omega
  subst h1;cases hj;rw[Nat.mul_one,iD,Nat.add_zero];exact hc⟩⟩
theorem aaq{r:Reach}{b0 n:Nat}{t e:aj}{v:ac}{d:DataW H}{p:List MemPlace}(hu:P.underlying t=some (.slice e))(hi:rG P n e=true)(hc:P.cellsOf e=1)(hv:lu P w r b0 t v)(h:DataW.Trod enc P w base spare held t v d p) :
 ∃(A:Option Addr) (len cap:Nat) (zs:List Int),v=.slice A len cap∧vH (amN .i64) 1 w A len zs∧len≤cap∧∀z∈zs,oV z:=by
 obtain⟨fuel,hf⟩:=h;obtain⟨A,len,cap,zs,e,h2,_,_,h1⟩:=Xn hu hi hc hf;refine⟨A,len,cap,zs,Wu e fun cs hcs=>?_,agu h1,h2,h1.it⟩;unfold lu at hv;rw[hu] at hv;subst hcs;simp[Cell.okWide,Cell.ok,hu] at hv
theorem aar{r:Reach}{b0:Nat}{t e:aj}{v:ac}{d:DataW H}{p:List MemPlace}(ha:dV P t true)(hut:P.underlying t=some (.array 2 e))(hue:P.underlying e=some (.int .u16))(hce:P.cellsOf e=1)(hct:P.cellsOf t=2)
 (hv:lu P w r b0 t v) (h:DataW.Trod enc P w base spare held t v d p):∃a b:Int,(0≤a∧a<65536)∧(0≤b∧b<65536)∧v=.agg #[.int .u16 a,.int .u16 b]:=by
 obtain⟨dd,hu,hd⟩:=ha;obtain⟨fuel,hf⟩:=h;unfold lu at hv;rw[hu] at hv;have:∃cs,v=.agg cs:=by
  cases dd <;> first | (obtain⟨cs,rfl,_⟩:=hv;exact⟨cs,rfl⟩) | (cases hd)
 obtain⟨cs,rfl⟩:=this;obtain⟨ys,k,_,_,hl,hlen,hx⟩:=DataW.trod_array hut hf;obtain⟨l,rfl⟩:∃l:List ac,cs=l.toArray:=⟨cs.toList,rfl⟩
 simp only[nw] at hl hx;rw[hct] at hl
 match l,hl with
 | [u0,u1],_ =>
  have one:∀i,i<2→∃a:Int,(0≤a∧a<65536)∧(([u0,u1].drop (i*1)).take 1)=[.int .u16 a]:=fun i hi=>by
   have hq:=hx i hi;rw[List.getElem?_eq_getElem (by rw[hlen];exact hi),hce] at hq;obtain⟨z,e1,_,hz⟩:=DataW.trod_int hue hq;have hb:=bounds_u16 hz;exact⟨z,by omega,e1⟩
  obtain⟨a,ha,e0⟩:=one 0 (by decide);obtain⟨b,hb,e1⟩:=one 1 (by decide);have q0:u0=.int .u16 a:=by simpa using e0
  have q1:u1=.int .u16 b:=by simpa using e1
  exact⟨a,b,ha,hb,by rw[q0,q1]⟩
end Go.Lith
namespace Go.Proofs.YtfekpcimgncioaaGreatDoor
open Go.Proofs.Tryz
open Go.RowKit Go.Lith
set_option maxRecDepth 100000
attribute [local irreducible] ao bz eZ bE bX Code.wp
attribute [local congr] nO fF fG fH fI fJ jH fK fL fM fN fO fP fQ fR fS fT fU dX dY fV fW fY fZ gA jJ cO cP cA cN fX jI dZ eA eB gB gC jK
theorem Hn{A:Option Addr}{N cap:Nat}{zs:List Int}{x y b:Int}(w:ah)(hL:vH ae0 1 w A N zs)(hcp:N≤cap)(hI:∀z∈zs,oV z)(hx:0≤x∧x<65536)(hy:0≤y∧y<65536)(hb:0≤b∧b<256):dF prog 7 [.slice A N cap,.agg #[.int .u16 x,.int .u16 y],.int .u8 b] w (fun v _=>v=.bool true):=by
 refine⟨apb,?_⟩;have m:=Mem.refl w;have e60:b.tmod 60=b%60:=gv hb.1
 go_enter func7,ntmps7
 refine eS 7 [0] m ?_;simp only[↓aD];intro g1;intro u m;refine vJ m rfl rfl agr 6 [0,0] ?_;simp only[↓aD,aoe];intro u m;refine bJ rfl rfl (aim _ (hL.ext m.ext) hcp hI hx hy) ?_;rintro v u e ⟨us,A8,n8,c8,rfl,hT8,hn8⟩;replace m:=m.ext' e;refine Hi 2 [] m ?_;simp only[↓aD];rintro u m rfl;obtain⟨w1,rfl⟩:∃x,x=u:=⟨u,rfl⟩
 have hw1:=m.ext;replace m:=Mem.refl w1;refine cR 4 [0] m ?_;simp only[↓aD];intro u m;refine aB (cU rfl rfl (by omega) e60) (aP 1 [0] m ?_);simp only[↓aD,uS,Hk];refine⟨by omega,?_⟩;intro u m;refine bJ rfl rfl (Mb (ts:=us) _ (hT8.ext m.ext) (by omega) (by omega)) ?_;rintro v u e ⟨A7,n7,c7,A9,n9,c9,rfl,hn7,hn9,hM⟩;replace m:=m.plus hM;clear hM e;simp only[b_,bv] at m;obtain⟨L,hL1⟩:∃L,L=(mT us (b%60)).1:=⟨_,rfl⟩
 have hul:=hT8.len;have hle:=agt (l:=us) (want:=b%60);have hLI:=ags (want:=b%60) (l:=us) hT8.it;rw[←hL1] at m hn7 hle hLI;refine aP 12 [0] m ?_;simp only[↓aD,iS];intro u m;refine aB (cU rfl rfl (by omega) e60) (aP 3 [0,0] m ?_);simp only[↓aD,uS,Hk];refine⟨by omega,?_⟩;intro u m;refine bC rfl (fun hc1=>?_) (fun hc1=>?_)
 · skip
   refine aS 6 [] m ?_;simp only[↓aD];intro u m;exact aQ rfl rfl (⟨_,rfl,hw1.trans m.ext,rfl⟩)
 · skip
   have hst:=acZ (l:=us) (want:=b%60) (by omega) (by rw[←hL1,←hn7];omega);rw[←hL1] at hst;refine aS 7 [0] m ?_;simp only[↓aD];intro u m;refine bW [11] [6,12,32,33,34,35,36,37,38,39,40,41,42,43,44,45,46,47,48,49,50,51,52,53,54,55,56,57,58,59,60,61,62,63,64,65,66,67,68,69,70,71,72,73,74,75] (fun n vs wl=>∃(k:Nat),vs=[.int .i64 (k:Int)]∧Mem w1 wl [oI 39 9 A7 n7 c7 (L.flatMap aK)]∧(k≤n7)∧(n=n7-k)) ?_ ?_
   · skip
     apply Exists.intro;simp only[zQ,zR,zD,zE];exact⟨0,rfl,(m.sel [false,true]),by omega,rfl⟩
   · intro n vs wr hI u K1 hK1
     clear m;obtain⟨k,rfl,m,hk,hn⟩:=hI;simp only[zu,zF,zG];refine aS 8 [0,0] m ?_;simp only[↓aD,iS];intro u m;refine bC rfl (fun hc2=>?_) (fun hc2=>?_)
     · skip
       refine aS 8 [0] m ?_;simp only[↓aD];intro u m;refine bW [12] [6,38,39,40,41,42,43,44,45,46,47,48,49,50,51,52,53,54,55,56,57,58,59,60,61,62,63,64,65,66,67,68,69,70,71,72,73,74,75] (fun n vs wl=>∃(j:Nat),vs=[.int .i64 (j:Int)]∧Mem w1 wl [oI 39 9 A7 n7 c7 (L.flatMap aK)]∧(j≤3)∧(n=3-j)) ?_ ?_
       · skip
         apply Exists.intro;simp only[zQ,zR,zD,zE];exact⟨0,rfl,m,by omega,rfl⟩
       · intro n vs wr hI u K2 hK2
         clear m;obtain⟨j,rfl,m,hj,hn2⟩:=hI;simp only[zu,zF,zG];refine aS 6 [0,0] m ?_;simp only[↓aD];intro u m;refine bC rfl (fun hc3=>?_) (fun hc3=>?_)
         · skip
           refine aS 4 [] m ?_;simp only[↓aD];intro u m;obtain⟨g,t,rfl,ht,_⟩:=abo (c:=j) (m.o 0 rfl) (show k<n7 by omega) (by omega);have hit:=hLI t (ba ht);refine gc (mh m [true] [(0,true),(1,true),(2,true),(3,true),(4,true),(5,true),(7,true),(8,true),(9,true),(10,true),(11,true),(12,true),(13,true),(6,true),(14,true),(15,false),(16,true),(17,true),(18,true),(19,true),(20,true),(21,true),(22,true),(23,true),(24,true),(26,true),(27,true),(28,true),(29,true),(30,true),(25,true),(31,true),(32,false),(33,true)] aC (by kernel_rfl) (bQ (fun _ _ _ _ _ h=>h)) (ol:=?_) ?hol ?_)
           case hol=>simp only[zw,zQ,zR];try rfl
           clear m;intro u m;refine Mz 4 [] ?_;simp only[↓aD];refine aU (aF bT aN rfl rfl (by omega) (by omega) Fx) ?_;simp only[zz];refine aU (aJ dC aA rfl rfl (by omega) (by omega) Mc) (Mz 4 [] ?_);simp only[↓aD];refine⟨by omega,?_⟩;refine aU (cU rfl rfl (by omega) (show ((j:Int)+1).tmod 3=(((j+1)%3:Nat):Int) from rfl)) ?_;simp only[zz];refine aU (aF bT aN rfl rfl (by omega) (by omega) Fx) ?_;simp only[zz];refine aU (aJ dC aA rfl rfl (by omega) (by omega) Mc) ?_;simp only[zz];refine eN rfl (fun u m=>(show gM _ _ _ _ (pt (t.cor j)) from (Th (m.o 0 rfl) ht (show j<3 by omega)).lies aG aA)) ?_;simp only[zz];refine eN rfl (fun u m=>(show gM _ _ _ _ (pt (t.cor ((j+1)%3))) from (Th (m.o 0 rfl) ht (show ((j+1)%3)<3 by omega)).lies aG aA)) ?_;simp only[zz];refine bV (cW m rfl rfl ((haveI:=Tg hit (c:=j);haveI:=Tg hit (c:=((j+1)%3));yQ (tW (ts:=L) (p:=t.cor j) (q:=t.cor ((j+1)%3)) _ ((m.o 0 rfl).tris hLI) (by omega)) (by rw[hst]))) ?_);clear m;rintro v u m rfl;refine aL (⟨m,?_⟩);refine aU aI (iR rfl (aU aI (iR rfl (aU aI ?_))));simp only[zz];refine iR rfl (aU aI (iR rfl (aU aI (iR rfl ?_))));simp only[zz];refine aU (eL rfl rfl (bF (by omega) (by omega))) (iR rfl ?_);simp only[zz];refine aU (cU rfl rfl (by omega) (show ((j:Int)+1).tmod 3=(((j+1)%3:Nat):Int) from rfl)) (iR rfl ?_);simp only[zz];refine aU (aF bT aN rfl rfl (by omega) (by omega) Fx) (iR rfl ?_);simp only[zz];refine aU (aJ dC aA rfl rfl (by omega) (by omega) Mc) (iR rfl (aU aI (iR rfl (aU aI (iR rfl (aU aI ?_))))));simp only[zz];refine iR rfl (aU (aF bT aN rfl rfl (by omega) (by omega) Fx) (iR rfl ?_));simp only[zz];refine aU (aJ dC aA rfl rfl (by omega) (by omega) Mc) (iR rfl ?_);simp only[zz];refine eN rfl (fun u m=>(show gM _ _ _ _ (pt (t.cor ((j+1)%3))) from (Th (m.o 0 rfl) ht (show ((j+1)%3)<3 by omega)).lies aG aA)) ?_;simp only[zz];refine iR rfl (eN rfl (fun u m=>(show gM _ _ _ _ (pt (t.cor j)) from (Th (m.o 0 rfl) ht (show j<3 by omega)).lies aG aA)) ?_);simp only[zz];refine bV (eD rfl (cW m rfl rfl ((haveI:=Tg hit (c:=j);haveI:=Tg hit (c:=((j+1)%3));yQ (tW (ts:=L) (p:=t.cor ((j+1)%3)) (q:=t.cor j) _ ((m.o 0 rfl).tris hLI) (by omega)) (by rw[hst]))) ?_));clear m;rintro v u m rfl;refine aL (⟨m,?_⟩);refine aU (xX rfl) (bM ?_);refine tO 8 [0] m ?_;simp only[↓aD];refine⟨by omega,?_⟩;rintro u m rfl;refine hK2 (3-(j+1)) _ _ ?_ ?_ ?_
           · omega
           · simp only[zz,zv]
           · simp only[zQ,zR,zD,zE]
             exact⟨j+1,rfl,m,by omega,rfl⟩
         · skip
           refine lF 7 [0] m ?_;simp only[↓aD];refine⟨by omega,?_⟩;rintro u m rfl;refine hK1 (n7-(k+1)) _ _ ?_ ?_ ?_
           · omega
           · simp only[zz,zv]
           · simp only[zQ,zR,zD,zE]
             exact⟨k+1,rfl,m,by omega,rfl⟩
     · skip
       refine lF 7 [] m ?_;simp only[↓aD];rintro u m rfl;exact aQ rfl rfl (⟨_,rfl,hw1.trans m.ext,rfl⟩)
end Go.Proofs.YtfekpcimgncioaaGreatDoor
namespace Go.Lith
open Go.RowKit Go.ChangeShapes
variable {H:Type} {enc:aj × ac→H} {P:Program}
theorem He(hl:laidOutB P=true){W W':ah}(hb:eW W W'){sp:Nat→Bool} :
 ∀{ts:List aj} {vs:List ac} {ds:List (DataW H)} {ps:List MemPlace},(ts.all fun t=>P.readableRec t&&decide (t<P.types.size))=true→DataW.TrodAll enc P W 0 (fun _=>true) true ts vs ds ps→(∀p∈ps,sp p.block=true)→DataW.TrodAll enc P W' 0 sp true ts vs ds ps
 | [],[],[],_,_,h,_=>h
 | [],[],_::_,_,_,h,_=>h.elim
 | [],_::_,_,_,_,h,_=>h.elim
 | _::_,[],_,_,_,h,_=>h.elim
 | _::_,_::_,[],_,_,h,_=>h.elim
 | t::ts,v::vs,d::ds,ps,hv,h,hs=>by
  obtain⟨p,q,⟨n,h1⟩,h2,e⟩:=h;subst e;simp only[List.all_cons,bh,decide_eq_true_eq] at hv;have hlt:=DataW.trod_lt n _ _ _ h1;exact⟨p,q,⟨n,DataW.trod_stays (kids_book hl hv.1.1) (book_sized hv.1.1) (fun h=>by cases h) ⟨hv.1.2,book_self t⟩ h1 (fun x hx=>Below.same hb (hlt x hx)) (fun x hx=>hs x (by simp[hx]))⟩,
   He hl hb (by simpa using hv.2) h2 (fun x hx=>hs x (by simp[hx])),rfl⟩
theorem Wx{f:Func}{s:ChangeSpec}{apart fresh handsOn again:Bool}{W W':ah}{args:Array ac}{t:aj}{ds gs:List (DataW H)}{before:List MemPlace}
 (hl:laidOutB P=true) (hps:(f.params.toList.all fun t=>P.readableRec t&&decide (t<P.types.size))=true) (hv:s.vars=[]) (hr:f.resultTypes = #[t]) (hu:P.underlying t=some .bool)
 (hW:DataW.Whole enc P f.params.toList s.vars apart W args.toList ds gs before) (hfn:(s.fn H (ds++gs)).results=[.lit (.bool true)]∧(s.fn H (ds++gs)).args=ds∧(s.fn H (ds++gs)).vars=[]) (hb:eW W W') :
 s.post enc P f apart fresh handsOn again W args (.bool true) W':=by
 have hW0:=hW;obtain⟨p,q,hA,hV,rfl,hz,hn⟩:=hW0;rw[hv] at hV;obtain⟨rfl,rfl⟩:=trodVars_none hV;have hargs:∀sp:Nat→Bool,(∀x∈p++[],sp x.block=true)→DataW.TrodAll enc P W' 0 sp true f.params.toList args.toList (s.fn H (ds++[])).args p:=fun sp hsp=>by
  rw[hfn.2.1];exact He hl hb hps hA (fun x hx=>hsp x (by simp[hx]))
 have hvars:∀sp:Nat→Bool,DataW.TrodVars enc P W' sp s.vars (s.fn H (ds++[])).vars []:=fun sp=>by
  rw[hv,hfn.2.2];exact rfl
 have hres:∀(b:Nat) (sp:Nat→Bool) (hd:Bool),DataW.TrodAll enc P W' b sp hd f.resultTypes.toList ((bf true).resultList f.resultTypes.size) (s.fn H (ds++[])).results []:=fun b sp hd=>by
  rw[hr,hfn.1];exact trodAll_cons_mk (shut_bool hu true) trodAll_mk0
 have hok:∀(j:Nat) (t:aj) (r:ac),f.resultTypes[j]? = some t→((bf true).resultList f.resultTypes.size)[j]? = some r→lu P W' .any 0 t r:=ok_one hr rfl (okWide_bool_mk hu _);have hlt:∀x∈p++[],x.block<W.heap.size:=hW.lt;have hold:∀x∈p++[],(fun b=>decide (b<W.heap.size)) x.block=true:=fun x hx=>by simpa using hlt x hx
 refine⟨ds,[],p++[],[],p,[],hW,hres _ _ _,hargs _ hold,hvars _,Below.frame hb _,fun _=>?_⟩;refine⟨hok,_,_,([]++p)++[],⟨[]++p,[],trodAll_append (hargs _ (fun _ _=>rfl)) (hres _ _ _),hvars _,rfl,?_,?_⟩,?_⟩
 · intro b off hp
   have h1:MemPlace.cell b off∈p++[]:=by simpa using hp
   rw[Below.frozen hb (p:=⟨b,off,none⟩) (hlt _ h1)];exact hz b off h1
 · intro ha
   simpa using hn ha
 · intro x hp _
   simpa using hp
end Go.Lith
