/-
 Texts of one claim, laid together: Dig2, Dig3, Cst, We, Wf, Wg, Wh, Wi, Ca, Near, Cb, Cc, Wk, Wl, Wm, Wn, Cd, Ce, Cf, Cg, Qd, Vt, Vu, Fa3, Ref1, Ref2, Ref3, Ref4, Ref5, Ref6, Ref7, Wide6.
-/
import Derived.Test.YtfekpcimgncioaaGreatDoorCM2
open Nat renaming reduceAdd→aa,zero_add→ar,le_refl→av,le_trans→az,lt_or_ge→dl,le_of_not_lt→gr,mod_eq_of_lt→jt,mul_zero→j_,add_zero→la,strongRecOn→ot
open Go renaming Value→ah,World→aj,wpList→au,Program→bh,wpQuiet→cg
open Int renaming toNat_natCast→ai,neg_eq_zero→jy,mul_eq_zero→me,le_of_lt→my,zero_mul→om,neg_mul_neg→ou,zero_sub→pd,mul_comm→pe
open List renaming getElem?_eq_getElem→am,mem_cons→ao,length_append→aw,length_cons→ay,take_of_length_le→a_,flatMap_append→ba,mem_singleton→bf,pairwise_cons→bm,mem_cons_of_mem→bp,mem_cons_self→bq,length_nil→bu,getElem?_eq_none→bv,not_mem_nil→bz,length_take→cj,mem_filter→ct,replicate→c_,mem_map→df,append_assoc→dh,flatMap_cons→dx,length_map→dz,drop_eq_getElem_cons→ee,eq_nil_of_length_eq_zero→ej,take_length→ew,mem_flatMap→e_,append_nil→fb,any_eq_false→fg,getElem_mem→fh,set_cons_succ→ft,filter_cons→gg,length_drop→gh,getElem?_cons_succ→gi,getD_eq_getElem?_getD→ie,drop_of_length_le→ij,length_singleton→ip,mem_range→jb,toArray→je,pairwise_map→jo,take_zero→kj,drop_length→km,drop_zero→lq,filter_nil→mf,perm_cons→mz,perm_singleton→nu
open Bool renaming and_eq_true→be,false_ne_true→et,false_eq_true→mi,or_comm→oo
open Go.Value renaming bool→bw
open Option renaming getD_some→cu,bind_some→gu,bind_eq_some_iff→kn,getD_none→kx
open UInt8 renaming ofNat→dj,toNat→im,toNat_ofNat'→ix,toNat_inj→mc
open Array renaming getElem?_toList→ff
set_option maxHeartbeats 8000000
set_option linter.unusedSimpArgs false
set_option linter.unusedVariables false
set_option linter.unusedSectionVars false
namespace Go.Lith
open Go.RowKit
theorem aoZ(k:Nat):(65536:Nat)^k=256^(2*k):=by rw[show (65536:Nat)=256^2 from rfl,←Nat.pow_mul]
theorem He{os bs:List Nat}{k d:Nat}(hl:os.length=k)(hv:val 65536 os=val 256 (bs.take (2*k)))(h:2*k<bs.length)(hd:d=bs[2*k]+256*(bs[2*k+1]?.getD 0))(hb:eE 256 bs)(ho:eE 65536 os) :
 val 65536 (os++[d])=val 256 (bs.take (2*(k+1)))∧eE 65536 (os++[d]):=by
 have h1:=hb _ (fh h);have h2:bs[2*k+1]?.getD 0<256:=by
  rcases dl (2*k+1) bs.length with h | h
  · rw[am h];exact hb _ (fh h)
  · rw[bv h];decide
 refine⟨?_,ho.append (vX (by omega) (mL _))⟩;have ht:val 256 (bs.take (2*k+1+1))=val 256 (bs.take (2*k+1))+256^(2*k+1)*bs[2*k+1]?.getD 0:=by
  rcases dl (2*k+1) bs.length with h | h
  · rw[dV h,am h];rfl
  · rw[a_ (by omega),a_ h,bv h];simp
 rw[show 2*(k+1)=2*k+1+1 by omega,ht,dV h,kO,hl,hv,aoZ,Nat.pow_succ];simp only[val,j_,la];subst hd;generalize 256^(2*k)=p
 grind
def wb2(x:Nat):List UInt8:=[dj (x / 256),dj x]
theorem Pf(ys:List Nat)(h:eE 65536 ys):val 256 (((ys.reverse.flatMap wb2).reverse).map im)=val 65536 ys∧eE 256 (((ys.reverse.flatMap wb2).reverse).map im):=by
 induction ys with
 | nil=>exact⟨rfl,fun _ h=>by cases h⟩
 | cons y ys ih =>
  have hy:=h y (by simp);obtain⟨i1,i2⟩:=ih (fun x hx=>h x (by simp[hx]));have e:(((y::ys).reverse.flatMap wb2).reverse).map im=[y%256,y / 256%256]++(((ys.reverse.flatMap wb2).reverse).map im):=by
   simp[ba,wb2,ix]
  rw[e];refine⟨?_,?_⟩
  · rw[kO,i1]
    simp only[val,ay,bu];omega
  · refine eE.append ?_ i2
    intro x hx;simp at hx;omega
theorem aak{ys:List Nat}(h:eE 65536 ys)(neg:Bool):nC (jA (ys.reverse.flatMap wb2))=jX (Rx neg (val 65536 ys)):=by
 obtain⟨h1,h2⟩:=Pf ys h;rw[La,pF (by omega) h2 h1,jX,En,mC];rfl
def nT(ys:List Nat)(k:Nat):List UInt8:=jA ((ys.drop k).reverse.flatMap wb2)
theorem Wy{l m:List UInt8}(h:jA l≠[]):jA (l++m)=jA l++m:=by
 induction l with
 | nil=>exact absurd rfl h
 | cons b l ih =>
  by_cases hb:b=0
  · subst hb
    have e:jA (0::l)=jA l:=by simp[jA]
    have e2:jA ((0::l)++m)=jA (l++m):=by simp[jA]
    rw[e] at h;rw[e,e2,ih h]
  · simp[jA,hb]
theorem ab3{ys:List Nat}{k:Nat}(hk:0<k)(hl:k-1<ys.length)(h:nT ys k≠[]):nT ys (k-1)=nT ys k++[dj (ys[k-1] / 256)]++[dj (ys[k-1]%256)]∧nT ys (k-1)≠[]:=by
 have e:nT ys (k-1)=nT ys k++[dj (ys[k-1] / 256)]++[dj (ys[k-1]%256)]:=by
  unfold nT at *
  rw[ee hl,show k-1+1=k by omega,List.reverse_cons,ba,Wy h];have:dj (ys[k-1]%256)=dj (ys[k-1]):=by
   apply mc.1;simp[ix]
  rw[this];simp[wb2]
 exact⟨e,by rw[e];simp⟩
theorem aal{ys:List Nat}(hl:ys.length-1<ys.length)(h0:0<ys[ys.length-1])(h16:ys[ys.length-1]<65536) :
 nT ys (ys.length-1)=(if 256≤ys[ys.length-1] then [dj (ys[ys.length-1] / 256)] else [])++[dj (ys[ys.length-1]%256)]∧nT ys (ys.length-1)≠[]:=by
 have e:nT ys (ys.length-1)=jA (wb2 (ys[ys.length-1])):=by
  unfold nT;rw[ee hl,show ys.length-1+1=ys.length by omega,km];simp
 generalize ys[ys.length-1]=x at *
 have hm:dj (x%256)=dj x:=by
  apply mc.1;simp[ix]
 have ez:∀y:Nat,y<256→(dj y=0↔y=0):=fun y hy=>by
  rw[←mc];simp only[ix,UInt8.toNat_zero];rw[jt (by omega)]
 have e2:jA (wb2 x)=(if 256≤x then [dj (x / 256)] else [])++[dj (x%256)]:=by
  split
  · rename_i h
    have hn:¬dj (x / 256)=0:=fun e=>by have:=(ez _ (by omega)).1 e;omega
    rw[hm];simp[jA,wb2,hn]
  · rename_i h
    have hz:dj (x / 256)=0:=(ez _ (by omega)).2 (by omega);have hn:¬dj x=0:=fun e=>by have:=(ez _ (by omega)).1 e;omega
    rw[hm];simp[jA,wb2,hz,hn]
 exact⟨e.trans e2,by rw[e,e2];simp⟩
theorem Tz(ys:List Nat):nT ys ys.length=[]:=by unfold nT;rw[km];rfl
theorem ab4{ys:List Nat}(h:eE 65536 ys)(neg:Bool):nC (nT ys 0)=jX (Rx neg (val 65536 ys)):=by
 unfold nT;rw[lq];exact aak h neg
theorem aeX(ys:List Nat)(k:Nat):(nT ys k).length≤2*ys.length:=by
 have h1:∀l:List UInt8,(jA l).length≤l.length:=fun l=>by
  induction l with
  | nil=>simp[jA]
  | cons b l ih =>
   unfold jA at *
   rw[List.dropWhile_cons];split
   · simp;omega
   · simp
 have h2:∀l:List Nat,(l.flatMap wb2).length=2*l.length:=fun l=>by
  induction l with
  | nil=>rfl
  | cons x l ih=>rw[dx,aw,ih];simp[wb2];omega
 refine az (h1 _) ?_;rw[h2];simp;omega
theorem Bc{x:Nat}(h:x<256):IntKind.u8.wrap (x:Int)=(x:Int):=ac7 (by omega) (by omega)
theorem Pg{os:List Nat}{m V:Nat}(hv:val 65536 os+65536^os.length*m=V)(hd:eE 65536 os)(h2:m<2^(64-os.length))(h3:os.length≤64)(h0:0<m) :
 val 65536 (os++[m%65536])+65536^(os++[m%65536]).length*(m / 65536)=V∧eE 65536 (os++[m%65536])∧m / 65536<2^(64-(os++[m%65536]).length)∧(os++[m%65536]).length≤64:=by
 have hl:os.length<64:=by
  rcases dl os.length 64 with h | h
  · exact h
  · rw[show 64-os.length=0 by omega] at h2;omega
 refine⟨?_,hd.append (vX (Nat.mod_lt _ (by omega)) (mL _)),?_,by simp;omega⟩
 · rw[kO,aw,ip,Nat.pow_succ]
   simp only[val,j_,la];have e:m=m%65536+65536*(m / 65536):=by omega
   generalize m / 65536=q at *
   generalize m%65536=r at *
   generalize 65536^os.length=p at *
   subst e
   grind
 · rw[aw,ip]
   have e:2^(64-os.length)=2*2^(64-(os.length+1)):=by rw[←Nat.pow_succ'];congr 1;omega
   rw[e] at h2;omega
instance (a:Int):Decidable (yL a):=inferInstanceAs (Decidable (_∧_))
/-! ### What CheckOpen says -/
theorem aam{ts:List T3}(h:fM true ts=0):aha ts∧(aZ ts).Nodup:=by
 unfold fM at h;split at h
 · cases h
 · rename_i h1
   split at h
   · cases h
   · rename_i h2
     refine⟨fun t ht=>?_,?_⟩
     · cases hd:wF t with
       | false=>rfl
       | true=>exact absurd (List.any_eq_true.2 ⟨t,ht,hd⟩) h1
     · rw[Gz] at h2
       exact Decidable.not_not.1 fun k=>h2 (decide_eq_true k)
theorem nd_of{t:T3}(h:wF t=false):t.nd=true:=by
 obtain⟨h1,h2,h3⟩:=atc h;simp[T3.nd,h1,h2,h3]
/-! ### One far move -/
theorem P3.lt_asymm{p q:P3}(h:p.Lt q):¬q.Lt p:=fun k=>P3.lt_irrefl _ (P3.lt_trans h k)
theorem Ph{t:T3}(h:t.nd=true):dM ⟨t.b,t.c,t.a⟩=dM t:=by
 unfold T3.nd at h;simp only[be,decide_eq_true_eq] at h;obtain⟨⟨h1,h2⟩,h3⟩:=h;unfold dM;simp only;rcases P3.lt_tri t.a t.b with ab | ab | ab
 · rcases P3.lt_tri t.b t.c with bc | bc | bc
   · have ac:=P3.lt_trans ab bc
     simp[ab,bc,ac,P3.lt_asymm ab,P3.lt_asymm bc,P3.lt_asymm ac]
   · exact absurd bc h2
   · rcases P3.lt_tri t.a t.c with ac | ac | ac
     · simp[ab,bc,ac,P3.lt_asymm ab,P3.lt_asymm bc,P3.lt_asymm ac]
     · exact absurd ac.symm h3
     · simp[ab,bc,ac,P3.lt_asymm ab,P3.lt_asymm bc,P3.lt_asymm ac]
 · exact absurd ab h1
 · rcases P3.lt_tri t.b t.c with bc | bc | bc
   · rcases P3.lt_tri t.a t.c with ac | ac | ac
     · simp[ab,bc,ac,P3.lt_asymm ab,P3.lt_asymm bc,P3.lt_asymm ac]
     · exact absurd ac.symm h3
     · simp[ab,bc,ac,P3.lt_asymm ab,P3.lt_asymm bc,P3.lt_asymm ac]
   · exact absurd bc h2
   · have ca:=P3.lt_trans bc ab
     simp[ab,bc,ca,P3.lt_asymm ab,P3.lt_asymm bc,P3.lt_asymm ca]
theorem Mr{t:T3}:(⟨t.b,t.c,t.a⟩:T3).nd=t.nd:=by
 unfold T3.nd;simp only;cases decide (t.a≠t.b) <;> cases decide (t.b≠t.c) <;> cases decide (t.c≠t.a) <;> rfl
def akz(t u:T3):Prop:=u=t∨u=⟨t.b,t.c,t.a⟩∨u=⟨t.c,t.a,t.b⟩
theorem ahb{t u:T3}(h:akz t u)(hn:t.nd=true):dM u=dM t:=by
 rcases h with rfl | rfl | rfl
 · rfl
 · exact Ph hn
 · have h2:=Ph (t:=⟨t.b,t.c,t.a⟩) (by rw[Mr];exact hn)
   exact h2.trans (Ph hn)
theorem akA{t u:T3}(h:akz t u):u.nd=t.nd:=by
 rcases h with rfl | rfl | rfl
 · rfl
 · exact Mr
 · exact (Mr (t:=⟨t.b,t.c,t.a⟩)).trans Mr
/-! ### Edges of a list in which triangles are changed -/
section
variable {p:P3} {X:E3→Prop} {old new R fine fine':List T3}
end
/-! ### The two kinds of division -/
theorem ahc{t u:T3}(h:akz t u)(x:P3):u.has x=t.has x:=by
 unfold T3.has;rcases h with rfl | rfl | rfl
 · rfl
 · simp only;cases decide (t.a=x) <;> cases decide (t.b=x) <;> cases decide (t.c=x) <;> rfl
 · simp only;cases decide (t.a=x) <;> cases decide (t.b=x) <;> cases decide (t.c=x) <;> rfl
theorem ao0{t:T3}{p:P3}(h:t.has p=false):p≠t.a∧p≠t.b∧p≠t.c:=by
 refine⟨fun e=>?_,fun e=>?_,fun e=>?_⟩ <;> (rw[eU.2 (by rw[e];simp)] at h;cases h)
/-! ### Images -/
section
variable {l fine fine' R:List T3} {ms:List Mv} {B B':Int} {p:P3}
end
theorem ahd{ts:List T3}{x:P3}:x∈dK ts↔∃t∈ts,x=t.cor 0∨x=t.cor 1∨x=t.cor 2:=by
 unfold dK;rw[e_];exact exists_congr fun t=>and_congr Iff.rfl (by simp[T3.cor])
def dG(a b c:P3):P3:=(b.sub a).cross (c.sub a)
def mG(a b c d:P3):Int:=(dG a b c).dot (d.sub a)
def dF(v:P3)(k:Nat):Int:=if k=0 then v.x else if k=1 then v.y else v.z
def iN(v:P3):Nat:=if v.x≠0 then 0 else if v.y≠0 then 1 else if v.z≠0 then 2 else 3
/-! ### Points in a plane -/
theorem adI{p1 p2 p3 q1 q2 q3 N:Int}(hN:0<N)(hp:p1+p2+p3=N)(hq:q1+q2+q3=N)(h1:0≤p1)(h2:0≤p2)(h3:0≤p3)(hn:¬(0≤q1∧0≤q2∧0≤q3)) :
 (q3<0∧(p2*q3-p3*q2)*(p3*q1-p1*q3)≤0)∨(q1<0∧(p3*q1-p1*q3)*(p1*q2-p2*q1)≤0)∨(q2<0∧(p1*q2-p2*q1)*(p2*q3-p3*q2)≤0):=by
 have nn:∀{a b:Int},0≤a→0≤b→0≤a*b:=fun ha hb=>Int.mul_nonneg ha hb;have np:∀{a b:Int},0≤a→b≤0→a*b≤0:=fun ha hb=>Int.mul_nonpos_of_nonneg_of_nonpos ha hb;have pn:∀{a b:Int},a≤0→0≤b→a*b≤0:=fun ha hb=>Int.mul_nonpos_of_nonpos_of_nonneg ha hb
 -- one that is negative,of two others one is not
 have key:∀{p1 p2 p3 q1 q2 q3:Int},0≤p1→0≤p2→0≤p3→q3<0→0≤q1→0≤q2→(p2*q3-p3*q2)*(p3*q1-p1*q3)≤0:=fun {p1 p2 p3 q1 q2 q3} h1 h2 h3 k3 k1 k2=>by
  have a:=np h2 (my k3);have b:=nn h3 k2;have c:=nn h3 k1;have d:=np h1 (my k3);exact pn (by omega) (by omega)
 have key2:∀{p1 p2 p3 q1 q2 q3:Int},0≤p1→0≤p2→0≤p3→q3<0→q2<0→0≤q1→(p2*q3-p3*q2)*(p3*q1-p1*q3)≤0∨(p1*q2-p2*q1)*(p2*q3-p3*q2)≤0:=fun {p1 p2 p3 q1 q2 q3} h1 h2 h3 k3 k2 k1=>by
  have a:=np h1 (my k3);have b:=nn h3 k1;have c:=np h1 (my k2);have d:=nn h2 k1;rcases Int.le_total (p2*q3-p3*q2) 0 with h | h
  · exact .inl (pn h (by omega))
  · exact .inr (pn (by omega) h)
 rcases (show q3<0∨0≤q3 by omega) with k3 | k3
 · rcases (show q2<0∨0≤q2 by omega) with k2 | k2
   · rcases (show q1<0∨0≤q1 by omega) with k1 | k1
     · omega
     · rcases key2 h1 h2 h3 k3 k2 k1 with h | h
       · exact .inl ⟨k3,h⟩
       · exact .inr (.inr ⟨k2,h⟩)
   · rcases (show q1<0∨0≤q1 by omega) with k1 | k1
     · rcases key2 (p1:=p2) (p2:=p3) (p3:=p1) (q1:=q2) (q2:=q3) (q3:=q1) h2 h3 h1 k1 k3 k2 with h | h
       · exact .inr (.inl ⟨k1,h⟩)
       · exact .inl ⟨k3,h⟩
     · exact .inl ⟨k3,key h1 h2 h3 k3 k1 k2⟩
 · rcases (show q2<0∨0≤q2 by omega) with k2 | k2
   · rcases (show q1<0∨0≤q1 by omega) with k1 | k1
     · rcases key2 (p1:=p3) (p2:=p1) (p3:=p2) (q1:=q3) (q2:=q1) (q3:=q2) h3 h1 h2 k2 k1 k3 with h | h
       · exact .inr (.inr ⟨k2,h⟩)
       · exact .inr (.inl ⟨k1,h⟩)
     · exact .inr (.inr ⟨k2,key (p1:=p3) (p2:=p1) (p3:=p2) (q1:=q3) (q2:=q1) (q3:=q2) h3 h1 h2 k2 k3 k1⟩)
   · rcases (show q1<0∨0≤q1 by omega) with k1 | k1
     · exact .inr (.inl ⟨k1,key (p1:=p2) (p2:=p3) (p3:=p1) (q1:=q2) (q2:=q3) (q3:=q1) h2 h3 h1 k1 k2 k3⟩)
     · exact absurd ⟨k1,k2,k3⟩ hn
theorem Ua(a b c x:P3)(k:Nat):dF (dG b c x) k+dF (dG c a x) k+dF (dG a b x) k=dF (dG a b c) k:=by
 unfold dF dG P3.cross P3.sub;split
 · simp only;grind
 · split
   · simp only;grind
   · simp only;grind
theorem ao1(a b c p q:P3)(k:Nat):dF (dG p q a) k*dF (dG a b c) k=dF (dG c a p) k*dF (dG a b q) k-dF (dG a b p) k*dF (dG c a q) k:=by
 unfold dF dG P3.cross P3.sub;split
 · simp only;grind
 · split
   · simp only;grind
   · simp only;grind
theorem ab5{v:P3}(h:iN v<3):dF v (iN v)≠0:=by
 unfold iN at h ⊢;split
 · assumption
 · split
   · assumption
   · split
     · assumption
     · rename_i h1 h2 h3;rw[if_neg h1,if_neg h2,if_neg h3] at h;omega
theorem akB{v w:P3}(hv:iN v<3)(hw:dF w (iN v)≠0)(h:v.cross w=⟨0,0,0⟩):iN w=iN v:=by
 have h1:=congrArg P3.x h;have h2:=congrArg P3.y h;have h3:=congrArg P3.z h;simp only[P3.cross] at h1 h2 h3;have nz:=ab5 hv;have z:∀{a b c d:Int},a*b-c*d=0→a=0→c≠0→d=0:=fun {a b c d} e ha hc=>by
  subst ha;rw[om,pd,jy] at e;exact (me.1 e).resolve_left hc
 by_cases x0:v.x=0
 · by_cases y0:v.y=0
   · by_cases z0:v.z=0
     · have:iN v=3:=by unfold iN;rw[if_neg (by omega),if_neg (by omega),if_neg (by omega)]
       omega
     · have e:iN v=2:=by unfold iN;rw[if_neg (by omega),if_neg (by omega),if_pos z0]
       rw[e] at hw ⊢;have wx:w.x=0:=(me.1 (show v.z*w.x=0 by rw[x0,om,Int.sub_zero] at h2;exact h2)).resolve_left z0;have wy:w.y=0:=(me.1 (show v.z*w.y=0 by rw[y0,om,pd,jy] at h1;exact h1)).resolve_left z0;unfold iN;rw[if_neg (by omega),if_neg (by omega)];exact if_pos hw
   · have e:iN v=1:=by unfold iN;rw[if_neg (by omega),if_pos y0]
     rw[e] at hw ⊢;have wx:w.x=0:=(me.1 (show v.y*w.x=0 by rw[x0,om,pd,jy] at h3;exact h3)).resolve_left y0;unfold iN;rw[if_neg (by omega)];exact if_pos hw
 · have e:iN v=0:=by unfold iN;rw[if_pos x0]
   rw[e] at hw ⊢;unfold iN;exact if_pos hw
theorem arU{n u v:P3}(h:n.dot u=0)(k:n.dot v=0):n.cross (u.cross v)=⟨0,0,0⟩:=by
 simp only[P3.dot] at h k;refine P3.eq ?_ ?_ ?_ <;> (simp only[P3.cross];grind)
theorem atd{n u v x:P3}{j:Nat}(hn:dF n j≠0)(h:n.dot u=0)(k:n.dot v=0)(l:n.dot x=0):(u.cross v).dot x=0:=by
 have p:=arU h k;have p1:=congrArg P3.x p;have p2:=congrArg P3.y p;have p3:=congrArg P3.z p;generalize u.cross v=w at p1 p2 p3 ⊢;simp only[P3.cross] at p1 p2 p3;simp only[P3.dot] at l ⊢;have key:dF n j*(w.x*x.x+w.y*x.y+w.z*x.z)=0:=by
  unfold dF;split
  · grind
  · split
    · grind
    · grind
 exact (me.1 key).resolve_left hn
def Z3(u:P3):Prop:=u.x=0∧u.y=0∧u.z=0
instance (u:P3):Decidable (Z3 u):=inferInstanceAs (Decidable (_∧_∧_))
def mK(p q:P3):P3:=if q.Lt p then q else p
def nL(p q:P3):P3:=if q.Lt p then p else q
def ahe(a b c:P3):Bool:=decide (iN (dG a b c)=3)
def ao2(p q r s:P3):Bool:=(if mK p q=nL p q then ahe (mK r s) (nL r s) (mK p q) else ahe (mK p q) (nL p q) (mK r s)) && !decide ((nL p q).Lt (mK r s)) && !decide ((nL r s).Lt (mK p q))
def tX(p q r s:P3):P3:=(q.sub p).cross (s.sub r)
def eF(p q r s:P3):Bool :=
 if iN (tX p q r s)<3 then
  decide (mG p q r s=0)&&decide (dF (dG p q r) (iN (tX p q r s))*dF (dG p q s) (iN (tX p q r s))≤0)&&decide (dF (dG r s p) (iN (tX p q r s))*dF (dG r s q) (iN (tX p q r s))≤0)
 else ao2 p q r s
theorem lt_asymm{p q:P3}(h:p.Lt q):¬q.Lt p:=fun k=>P3.lt_irrefl p (P3.lt_trans h k)
theorem lt_tri(p q:P3):p.Lt q∨p=q∨q.Lt p:=by
 by_cases h:p=q
 · exact .inr (.inl h)
 · have:¬(p.x=q.x∧p.y=q.y∧p.z=q.z):=fun k=>h (P3.eq k.1 k.2.1 k.2.2)
   unfold P3.Lt;omega
theorem ahf(p q:P3):mK p q=mK q p:=by
 unfold mK;rcases lt_tri p q with h | h | h
 · rw[if_neg (lt_asymm h),if_pos h]
 · rw[h]
 · rw[if_pos h,if_neg (lt_asymm h)]
theorem ahg(p q:P3):nL p q=nL q p:=by
 unfold nL;rcases lt_tri p q with h | h | h
 · rw[if_neg (lt_asymm h),if_pos h]
 · rw[h]
 · rw[if_pos h,if_neg (lt_asymm h)]
def Jq(v:P3):P3:=⟨-v.x,-v.y,-v.z⟩
theorem akC(v:P3):iN (Jq v)=iN v:=by unfold iN Jq;simp only[ne_eq,jy]
theorem aan(v:P3)(k:Nat):dF (Jq v) k = -dF v k:=by
 by_cases h0:k=0
 · simp only[dF,Jq,if_pos h0]
 · by_cases h1:k=1
   · simp only[dF,Jq,if_neg h0,if_pos h1]
   · simp only[dF,Jq,if_neg h0,if_neg h1]
theorem Hf(p q r:P3):dG q p r=Jq (dG p q r):=by
 refine P3.eq ?_ ?_ ?_ <;> (simp only[dG,Jq,P3.sub,P3.cross];grind)
theorem ahh(p q r s:P3):tX q p r s=Jq (tX p q r s):=by
 refine P3.eq ?_ ?_ ?_ <;> (simp only[tX,Jq,P3.sub,P3.cross];grind)
theorem Hg(p q r s:P3):mG q p r s = -mG p q r s:=by
 simp only[mG,dG,P3.sub,P3.cross,P3.dot];grind
theorem tY(p q r s:P3):eF q p r s=eF p q r s:=by
 unfold eF;rw[ahh,akC,Hg,Hf,Hf p q s,aan,aan,ou,pe (dF (dG r s q) _)];simp only[jy];unfold ao2;rw[ahf q p,ahg q p]
/-! ### In the plane of a triangle -/
def wth(a b c x:P3)(k:Nat):Prop:=(0≤dF (dG a b x) k∧0≤dF (dG b c x) k∧0≤dF (dG c a x) k)∨(dF (dG a b x) k≤0∧dF (dG b c x) k≤0∧dF (dG c a x) k≤0)
instance (a b c x:P3)(k:Nat):Decidable (wth a b c x k):=by unfold wth;infer_instance
theorem ab7{a b c x:P3}:(dG a b c).dot (x.sub a)=mG a b c x:=rfl
theorem ahi{a b c p q:P3}(hk:iN (dG a b c)<3)(hp:mG a b c p=0)(hq:mG a b c q=0){u v:P3}(hu:(dG a b c).dot (u.sub a)=0)(hv:(dG a b c).dot (v.sub a)=0)
 (h1:dF (dG u v p) (iN (dG a b c))≠dF (dG u v q) (iN (dG a b c))) (h2:dF (dG u v p) (iN (dG a b c))*dF (dG u v q) (iN (dG a b c))≤0)
 (h3:dF (dG p q u) (iN (dG a b c))*dF (dG p q v) (iN (dG a b c))≤0):eF p q u v=true:=by
 have nz:=ab5 hk;have e:∀k,dF (tX p q u v) k=dF (dG u v p) k-dF (dG u v q) k:=fun k=>by
  unfold dF tX dG P3.cross P3.sub;split
  · simp only;grind
  · split
    · simp only;grind
    · simp only;grind
 have dpq:(dG a b c).dot (q.sub p)=0:=by
  rw[←ab7] at hp hq;simp only[P3.dot,P3.sub] at hp hq ⊢
  grind
 have duv:(dG a b c).dot (v.sub u)=0:=by
  simp only[P3.dot,P3.sub] at hu hv ⊢
  grind
 have dup:(dG a b c).dot (u.sub p)=0:=by
  rw[←ab7] at hp;simp only[P3.dot,P3.sub] at hp hu ⊢
  grind
 have dvp:(dG a b c).dot (v.sub p)=0:=by
  rw[←ab7] at hp;simp only[P3.dot,P3.sub] at hp hv ⊢
  grind
 have w0:dF (tX p q u v) (iN (dG a b c))≠0:=by rw[e];omega
 have ax:=akB hk w0 (arU dpq duv);have o0:mG p q u v=0:=atd nz dpq dup dvp;unfold eF;rw[ax,if_pos hk,o0,decide_eq_true h3,decide_eq_true h2];rfl
theorem Ub{a b c p q:P3}(hk:iN (dG a b c)<3)(hp:mG a b c p=0)(hq:mG a b c q=0)(wp:wth a b c p (iN (dG a b c)))(wq:¬wth a b c q (iN (dG a b c))) :
 eF p q a b=true∨eF p q b c=true∨eF p q c a=true:=by
 have nz:=ab5 hk;have sp:=Ua a b c p (iN (dG a b c));have sq:=Ua a b c q (iN (dG a b c));have da:(dG a b c).dot (a.sub a)=0:=by simp only[P3.dot,P3.sub];grind
 have db:(dG a b c).dot (b.sub a)=0:=by simp only[dG,P3.cross,P3.dot,P3.sub];grind
 have dc:(dG a b c).dot (c.sub a)=0:=by simp only[dG,P3.cross,P3.dot,P3.sub];grind
 have hA:=ao1 a b c p q (iN (dG a b c));have hB:dF (dG p q b) (iN (dG a b c))*dF (dG a b c) (iN (dG a b c))=dF (dG a b p) (iN (dG a b c))*dF (dG b c q) (iN (dG a b c))-dF (dG b c p) (iN (dG a b c))*dF (dG a b q) (iN (dG a b c)):=by
  generalize iN (dG a b c)=k;unfold dF dG P3.cross P3.sub;split
  · simp only;grind
  · split
    · simp only;grind
    · simp only;grind
 have hC:dF (dG p q c) (iN (dG a b c))*dF (dG a b c) (iN (dG a b c))=dF (dG b c p) (iN (dG a b c))*dF (dG c a q) (iN (dG a b c))-dF (dG c a p) (iN (dG a b c))*dF (dG b c q) (iN (dG a b c)):=by
  generalize iN (dG a b c)=k;unfold dF dG P3.cross P3.sub;split
  · simp only;grind
  · split
    · simp only;grind
    · simp only;grind
 have hit:∀{u v:P3},(dG a b c).dot (u.sub a)=0→(dG a b c).dot (v.sub a)=0→dF (dG u v p) (iN (dG a b c))≠dF (dG u v q) (iN (dG a b c))→dF (dG u v p) (iN (dG a b c))*dF (dG u v q) (iN (dG a b c))≤0→dF (dG p q u) (iN (dG a b c))*dF (dG p q v) (iN (dG a b c))≤0→eF p q u v=true:=fun {u v} hu hv=>ahi (u:=u) (v:=v) hk hp hq hu hv;unfold wth at wp wq;generalize hN:dF (dG a b c) (iN (dG a b c))=N at *
 have sq0:∀{x y X Y:Int},x*N=X→y*N=Y→X*Y≤0→x*y≤0:=fun {x y X Y} h1 h2 h=>by
  have h3:x*y*(N*N)≤0:=by rw[show x*y*(N*N)=(x*N)*(y*N) by grind,h1,h2];exact h
  have h4:0<N*N:=by
   rcases Int.lt_or_gt_of_ne nz with h | h
   · exact Int.mul_pos_of_neg_of_neg h h
   · exact Int.mul_pos h h
  refine Int.le_of_not_gt fun k=>?_;have:=Int.mul_pos k h4;omega
 have mm:∀{x y:Int},0≤x→y<0→x*y≤0:=fun h k=>Int.mul_nonpos_of_nonneg_of_nonpos h (my k);have mm2:∀{x y:Int},x≤0→0<y→x*y≤0:=fun h k=>Int.mul_nonpos_of_nonpos_of_nonneg h (my k);rcases wp with ⟨w3,w1,w2⟩ | ⟨w3,w1,w2⟩
 · have hN0:0<N:=by omega
   rcases adI hN0 sp sq w1 w2 w3 (fun h=>wq (.inl ⟨h.2.2,h.1,h.2.1⟩)) with ⟨n,h⟩ | ⟨n,h⟩ | ⟨n,h⟩
   · exact .inl (hit da db (by omega) (mm w3 n) (sq0 hA hB h))
   · exact .inr (.inl (hit db dc (by omega) (mm w1 n) (sq0 hB hC h)))
   · exact .inr (.inr (hit dc da (by omega) (mm w2 n) (sq0 hC hA h)))
 · have hN0:0 < -N:=by omega
   have g:=adI (p1:=-dF (dG b c p) (iN (dG a b c))) (p2:=-dF (dG c a p) (iN (dG a b c))) (p3:=-dF (dG a b p) (iN (dG a b c))) (q1:=-dF (dG b c q) (iN (dG a b c))) (q2:=-dF (dG c a q) (iN (dG a b c))) (q3:=-dF (dG a b q) (iN (dG a b c))) hN0 (by omega) (by omega) (by omega) (by omega) (by omega) (fun h=>wq (.inr ⟨by omega,by omega,by omega⟩));simp only[ou] at g;rcases g with ⟨n,h⟩ | ⟨n,h⟩ | ⟨n,h⟩
   · exact .inl (hit da db (by omega) (mm2 w3 (by omega)) (sq0 hA hB h))
   · exact .inr (.inl (hit db dc (by omega) (mm2 w1 (by omega)) (sq0 hB hC h)))
   · exact .inr (.inr (hit dc da (by omega) (mm2 w2 (by omega)) (sq0 hC hA h)))
def Pi(x y z:Int):Bool:=(decide (0≤x)&&decide (0≤y)&&decide (0≤z))||(decide (x≤0)&&decide (y≤0)&&decide (z≤0))
def cZ(p q:P3)(t:T3):Bool :=
 if iN (dG t.a t.b t.c)<3 then
  if 0<mG t.a t.b t.c p*mG t.a t.b t.c q then false
  else if mG t.a t.b t.c p=0∧mG t.a t.b t.c q=0 then eF p q t.a t.b||eF p q t.b t.c||eF p q t.c t.a||decide (wth t.a t.b t.c p (iN (dG t.a t.b t.c)))
  else Pi (mG p q t.a t.b) (mG p q t.b t.c) (mG p q t.c t.a)
 else eF p q (mK (mK t.a t.b) t.c) (nL (nL t.a t.b) t.c)
theorem akD(x y z:Int):Pi (-x) (-y) (-z)=Pi x y z:=by
 unfold Pi;have e:∀n:Int,decide (0 ≤ -n)=decide (n≤0):=fun n=>decide_eq_decide.2 (by omega);have f:∀n:Int,decide (-n≤0)=decide (0≤n):=fun n=>decide_eq_decide.2 (by omega);rw[e,e,e,f,f,f,oo]
theorem Pk(p q:P3)(t:T3):cZ q p t=cZ p q t:=by
 unfold cZ;by_cases hk:iN (dG t.a t.b t.c)<3
 · rw[if_pos hk,if_pos hk,pe (mG t.a t.b t.c q)]
   by_cases h0:0<mG t.a t.b t.c p*mG t.a t.b t.c q
   · rw[if_pos h0,if_pos h0]
   · rw[if_neg h0,if_neg h0]
     by_cases hc:mG t.a t.b t.c p=0∧mG t.a t.b t.c q=0
     · rw[if_pos hc,if_pos hc.symm,tY,tY p q,tY p q]
       by_cases hx:(eF p q t.a t.b||eF p q t.b t.c||eF p q t.c t.a)=true
       · rw[hx,Bool.true_or,Bool.true_or]
       · have key:wth t.a t.b t.c p (iN (dG t.a t.b t.c))↔wth t.a t.b t.c q (iN (dG t.a t.b t.c)):=by
          simp only[Bool.or_eq_true,not_or] at hx;constructor
          · intro h
            refine Decidable.byContradiction fun k=>?_;rcases Ub hk hc.1 hc.2 h k with h | h | h
            · exact hx.1.1 h
            · exact hx.1.2 h
            · exact hx.2 h
          · intro h
            refine Decidable.byContradiction fun k=>?_;rcases Ub hk hc.2 hc.1 h k with h | h | h <;> rw[tY] at h
            · exact hx.1.1 h
            · exact hx.1.2 h
            · exact hx.2 h
         rw[decide_eq_decide.2 key]
     · rw[if_neg hc,if_neg (fun k=>hc k.symm),Hg,Hg p q t.b,Hg p q t.c,akD]
 · rw[if_neg hk,if_neg hk,tY]
theorem Pm(a b c:P3):dG b c a=dG a b c:=by
 refine P3.eq ?_ ?_ ?_ <;> (simp only[dG,P3.sub,P3.cross];grind)
theorem akE(a b c x:P3):mG b c a x=mG a b c x:=by
 unfold mG;rw[Pm];simp only[dG,P3.sub,P3.cross,P3.dot];grind
theorem ahj(a b c:P3):mK (mK b c) a=mK (mK a b) c:=by
 unfold mK;have t1:=lt_tri a b;have t2:=lt_tri b c;have t3:=lt_tri a c;by_cases h1:c.Lt b
 · by_cases h2:b.Lt a
   · rw[if_pos h1,if_pos h2,if_pos h1,if_neg (lt_asymm (P3.lt_trans h1 h2))]
   · rw[if_pos h1,if_neg h2]
     by_cases h3:c.Lt a
     · rw[if_pos h3,if_neg (lt_asymm h3)]
     · rw[if_neg h3]
       by_cases h4:a.Lt c
       · rw[if_pos h4]
       · rw[if_neg h4]
         rcases t3 with h | h | h
         · exact absurd h h4
         · exact h.symm
         · exact absurd h h3
 · rw[if_neg h1]
   by_cases h2:b.Lt a
   · rw[if_pos h2,if_neg h1,if_neg (lt_asymm h2)]
   · rw[if_neg h2]
     have h3:¬c.Lt a:=fun k=>by
      rcases t1 with h | h | h
      · exact h1 (P3.lt_trans k h)
      · exact h1 (h▸k)
      · exact h2 h
     rw[if_neg h3];by_cases h4:a.Lt b
     · rw[if_pos h4]
     · rw[if_neg h4]
       rcases t1 with h | h | h
       · exact absurd h h4
       · exact h.symm
       · exact absurd h h2
theorem ahk(a b c:P3):nL (nL b c) a=nL (nL a b) c:=by
 unfold nL;have t1:=lt_tri a b;have t3:=lt_tri a c;by_cases h1:c.Lt b
 · rw[if_pos h1]
   by_cases h2:b.Lt a
   · rw[if_neg (lt_asymm h2),if_pos h2,if_pos (P3.lt_trans h1 h2)]
   · rw[if_neg h2,if_pos h1]
     by_cases h3:a.Lt b
     · rw[if_pos h3]
     · rw[if_neg h3]
       rcases t1 with h | h | h
       · exact absurd h h3
       · exact h
       · exact absurd h h2
 · rw[if_neg h1]
   by_cases h2:b.Lt a
   · rw[if_pos h2]
     by_cases h3:c.Lt a
     · rw[if_pos h3,if_neg (lt_asymm h3)]
     · rw[if_neg h3]
       by_cases h4:a.Lt c
       · rw[if_pos h4]
       · rw[if_neg h4]
         rcases t3 with h | h | h
         · exact absurd h h4
         · exact h
         · exact absurd h h3
   · rw[if_neg h2,if_neg h1]
     by_cases h4:a.Lt c
     · rw[if_pos h4]
     · rw[if_neg h4]
       rcases t3 with h | h | h
       · exact absurd h h4
       · exact h
       · exact absurd h (fun k=>by
          rcases t1 with h | h | h
          · exact h1 (P3.lt_trans k h)
          · exact h1 (h▸k)
          · exact h2 h)
theorem ahl(x y z:Int):Pi y z x=Pi x y z:=by
 unfold Pi;cases decide (0≤x) <;> cases decide (0≤y) <;> cases decide (0≤z) <;> cases decide (x≤0) <;> cases decide (y≤0) <;> cases decide (z≤0) <;> rfl
theorem ab8(p q a b c:P3):cZ p q ⟨b,c,a⟩=cZ p q ⟨a,b,c⟩:=by
 unfold cZ;simp only[Pm,akE,ahj,ahk,ahl];have w:wth b c a p (iN (dG a b c))↔wth a b c p (iN (dG a b c)):=by
  unfold wth;omega
 rw[decide_eq_decide.2 w];cases eF p q a b <;> cases eF p q b c <;> cases eF p q c a <;> rfl
/-! ### Two places of a list -/
/-! ### A step -/
/-! ### The surfaces -/
def T3.mapP(f:P3→P3)(t:T3):T3:=⟨f t.a,f t.b,f t.c⟩
section
variable {f:P3→P3} {S:P3→Prop} {ts:List T3}
end
theorem Uc{ts:List T3}:(dO ts).any (Gx ts)=true↔∃e∈aZ ts,∃j,1≤j∧j<uK (dK ts) e.1∧qO ts e.1 j e.2=some e.2:=by
 rw[pinned];refine exists_congr fun e=>?_;rw[Pe,Pb,Pd];refine and_congr Iff.rfl (exists_congr fun j=>?_);rw[Hb];constructor
 · rintro⟨h1,h2,h3⟩;exact⟨h1,by omega,h3⟩
 · rintro⟨h1,h2,h3⟩;exact⟨h1,by omega,h3⟩
theorem aeY{ts:List T3}:fM true ts=0↔aha ts∧(aZ ts).Nodup∧¬∃e∈aZ ts,∃j,1≤j∧j<uK (dK ts) e.1∧qO ts e.1 j e.2=some e.2:=by
 constructor
 · intro h
   obtain⟨h1,h2⟩:=aam h;refine⟨h1,h2,fun k=>?_⟩;have hp:=Uc.2 k;have hd:ts.any wF=false:=fg.2 fun t ht=>by rw[h1 t ht];exact et
   have hn:=Gz (es:=aZ ts);rw[decide_eq_false (fun k=>k h2)] at hn;unfold fM at h;rw[hd,hn,hp] at h;simp at h
 · rintro⟨h1,h2,h3⟩
   have hp:(dO ts).any (Gx ts)=false:=by
    cases hh:(dO ts).any (Gx ts) with
    | false=>rfl
    | true=>exact absurd (Uc.1 hh) h3
   have hd:ts.any wF=false:=fg.2 fun t ht=>by rw[h1 t ht];exact et
   have hn:=Gz (es:=aZ ts);rw[decide_eq_false (fun k=>k h2)] at hn;unfold fM;rw[hd,hn,hp];rfl
/-! ### An edge is divided -/
section
variable {f:P3→P3} {S:P3→Prop}
end
inductive Rch(N:P3→P3→Prop):P3→P3→Prop
 | refl (a:P3):Rch N a a
 | tail {a b c:P3} (h:Rch N a b) (s:N b c):Rch N a c
section
variable {N N':P3→P3→Prop} {a b c p q x0 y0:P3}
def Cyc(N:P3→P3→Prop)(s:P3):Prop:=∃y,N s y∧Rch N y s
def ahm(N:P3→P3→Prop):Prop:=∀s,Cyc N s→∀x y,N x y→Rch N s x
/-! ### A corner between two -/
/-! ### A corner in another's place -/
end
/-! ### The corners behind each other round a corner -/
def Nx(ts:List T3)(v x y:P3):Prop:=((v,x),y)∈lD ts
theorem Ew{ts:List T3}(hn:(aZ ts).Nodup){v x y:P3}:Nx ts v x y↔bY ts v x=some y:=by
 constructor
 · intro h
   obtain⟨z,hz⟩:=Ay (show (v,x)∈aZ ts by rw[←qN];exact df.2 ⟨_,h,rfl⟩);rw[hz,Pa hn h (tW hz)]
 · exact tW
theorem ab9{ts:List T3}(hn:(aZ ts).Nodup){v a b:P3}:Rch (Nx ts v) a b↔∃n,qO ts v n a=some b:=by
 constructor
 · intro h
   induction h with
   | refl=>exact⟨0,rfl⟩
   | tail _ s ih =>
    obtain⟨n,h⟩:=ih;exact⟨n+1,by rw[Az,h,gu];exact (Ew hn).1 s⟩
 · rintro⟨n,h⟩
   induction n generalizing b with
   | zero=>cases h;exact .refl _
   | succ n ih =>
    rw[Az] at h;obtain⟨c,hc,h⟩:=kn.1 h;exact .tail (ih hc) ((Ew hn).2 h)
theorem alT{P:Nat→Prop}:∀n,P n→∃m,P m∧∀k,k<m→¬P k:=by
 intro n
 induction n using ot with
 | _ n ih =>
  intro h;by_cases k:∃m,m<n∧P m
  · obtain⟨m,hm,hp⟩:=k
    exact ih m hm hp
  · exact⟨n,h,fun m hm hp=>k ⟨m,hm,hp⟩⟩
def aao(ts:List T3)(v:P3):List P3:=((aZ ts).filter fun e=>decide (e.1=v)).map (·.2)
theorem Pn{ts:List T3}{v x:P3}:x∈aao ts v↔(v,x)∈aZ ts:=by
 unfold aao;rw[df];constructor
 · rintro⟨e,he,rfl⟩
   obtain⟨h1,h2⟩:=ct.1 he;rw[←of_decide_eq_true h2];exact h1
 · exact fun h=>⟨(v,x),ct.2 ⟨h,decide_eq_true rfl⟩,rfl⟩
theorem aca{ts:List T3}{v:P3}(hn:(aZ ts).Nodup):(aao ts v).Nodup:=by
 unfold aao;rw[List.Nodup,jo];refine (hn.sublist List.filter_sublist).imp_of_mem fun {a b} ha hb hne e=>hne ?_;have h1:=of_decide_eq_true (ct.1 ha).2;have h2:=of_decide_eq_true (ct.1 hb).2;exact Prod.ext (h1.trans h2.symm) e
theorem ahn:∀ts:List T3,(aZ ts).map (·.1)=dK ts:=by
 intro ts;unfold aZ dK;rw[List.map_flatMap];rfl
theorem aap(ts:List T3)(v:P3):(aao ts v).length=uK (dK ts) v:=by
 rw[←ahn];unfold aao uK;rw[dz,List.filter_map,dz];rfl
theorem full{S E:List P3}(hS:S.Nodup)(hs:∀x∈S,x∈E)(hl:E.length≤S.length):∀x∈E,x∈S:=fun x hx=>by
 refine Decidable.byContradiction fun hn=>?_;have h1:S.length≤(E.erase x).length:=tV hS fun y hy=>by
  have hne:y≠x:=fun e=>hn (e▸hy);exact (List.mem_erase_of_ne hne).2 (hs y hy)
 rw[List.length_erase_of_mem hx] at h1;have:0<E.length:=List.length_pos_of_mem hx;omega
theorem acb{ts:List T3}{v a b:P3}{i j:Nat}(h:qO ts v i a=some b):qO ts v (i+j) a=qO ts v j b:=by rw[Wx,h,gu]
theorem ao4{ts:List T3}{v s:P3}{j:Nat}(h1:1≤j)(h:qO ts v j s=some s):∀n,qO ts v n s=qO ts v (n%j) s:=fun n=>by
 induction n using ot with
 | _ n ih =>
  rcases dl n j with hl | hl
  · rw[jt hl]
  · have e:n=j+(n-j):=by omega
    rw[e,acb h,ih (n-j) (by omega),Nat.add_mod_left]
theorem aaq{ts:List T3}(hn:(aZ ts).Nodup){v s:P3}{j:Nat}(hm:∀k,1≤k→k<j→qO ts v k s≠some s):∀(i k:Nat) (x:P3),i<k→k<j→qO ts v i s=some x→qO ts v k s≠some x
 | 0,k,x,hik,hk,h,h2=>by cases h;exact hm k (by omega) hk h2
 | i+1,k,x,hik,hk,h,h2=>by
  obtain⟨m,rfl⟩:∃m,k=m+1:=⟨k-1,by omega⟩
  rw[Az] at h h2;obtain⟨y,hy,hy'⟩:=kn.1 h;obtain⟨z,hz,hz'⟩:=kn.1 h2;obtain rfl:=ab0 hn hy' hz';exact aaq hn hm i m y (by omega) (by omega) hy hz
theorem adJ{ts:List T3}{v a b:P3}{i j:Nat}(hij:i≤j)(h:qO ts v j a=some b):∃y,qO ts v i a=some y:=by
 have e:j=i+(j-i):=by omega
 rw[e,Wx] at h;obtain⟨y,hy,_⟩:=kn.1 h;exact⟨y,hy⟩
theorem Ud{ts:List T3}(hn:(aZ ts).Nodup){v s:P3}{j:Nat}(h1:1≤j)(h:qO ts v j s=some s)(hm:∀k,1≤k→k<j→qO ts v k s≠some s) :
 ∃L:List P3,L.Nodup∧L.length=j∧(∀x∈L,x∈aao ts v)∧∀x,x∈L↔Rch (Nx ts v) s x:=by
 have get:∀i,i≤j→∃y,qO ts v i s=some y:=fun i hi=>adJ hi h;refine⟨(List.range j).map fun i=>(qO ts v i s).getD s,?_,by rw[dz,List.length_range],fun x hx=>?_,fun x=>?_⟩
 · rw[List.Nodup,jo]
   refine (List.pairwise_lt_range (n:=j)).imp_of_mem fun {a b} ha hb hab e=>?_;have hb':=jb.1 hb;obtain⟨y,hy⟩:=get a (by omega);obtain⟨z,hz⟩:=get b (by omega);rw[hy,hz] at e;obtain rfl:y=z:=e;exact aaq hn hm a b y hab hb' hy hz
 · obtain⟨i,hi,rfl⟩:=df.1 hx
   have hi':=jb.1 hi;obtain⟨y,hy⟩:=get i (by omega);obtain⟨z,hz⟩:=get (i+1) (by omega);rw[Az,hy,gu] at hz;rw[hy];exact Pn.2 (uW hz)
 · rw[ab9 hn,df]
   constructor
   · rintro⟨i,hi,rfl⟩
     obtain⟨y,hy⟩:=get i (by have:=jb.1 hi;omega);exact⟨i,by rw[hy];rfl⟩
   · rintro⟨n,hx⟩
     rw[ao4 h1 h] at hx;exact⟨n%j,jb.2 (Nat.mod_lt _ (by omega)),by rw[hx];rfl⟩
theorem Ue{ts:List T3}(hn:(aZ ts).Nodup):(¬∃e∈aZ ts,∃j,1≤j∧j<uK (dK ts) e.1∧qO ts e.1 j e.2=some e.2)↔∀v,ahm (Nx ts v):=by
 constructor
 · rintro hno v s ⟨y,hy,hr⟩ x z hx
   obtain⟨n,hr⟩:=(ab9 hn).1 hr;have h0:qO ts v (1+n) s=some s:=by rw[acb (b:=y) (by rw[qO,(Ew hn).1 hy];rfl)];exact hr
   obtain⟨j,⟨hj1,hj⟩,hm⟩:=alT (P:=fun k=>1≤k∧qO ts v k s=some s) (1+n) ⟨by omega,h0⟩;obtain⟨L,hL1,hL2,hL3,hL4⟩:=Ud hn hj1 hj (fun k h1 h2 h3=>hm k h2 ⟨h1,h3⟩);have hge:uK (dK ts) v≤j:=by
    refine gr fun hlt=>hno ⟨(v,s),uW ((Ew hn).1 hy),j,hj1,hlt,hj⟩
   exact (hL4 x).1 (full hL1 hL3 (by rw[hL2,aap];exact hge) x (Pn.2 (uW ((Ew hn).1 hx))))
 · rintro hall ⟨⟨v,s⟩,he,j0,h1,h2,h3⟩
   simp only at h2 h3;obtain⟨j,⟨hj1,hj⟩,hm⟩:=alT (P:=fun k=>1≤k∧qO ts v k s=some s) j0 ⟨h1,h3⟩;have hjj:j≤j0:=gr fun hlt=>hm j0 hlt ⟨h1,h3⟩;obtain⟨L,hL1,hL2,hL3,hL4⟩:=Ud hn hj1 hj (fun k h1 h2 h3=>hm k h2 ⟨h1,h3⟩);have hcyc:Cyc (Nx ts v) s:=by
    obtain⟨y,hy⟩:=adJ (i:=1) hj1 hj;have hy':bY ts v s=some y:=by
     rw[qO] at hy;cases hb:bY ts v s with
     | none=>rw[hb] at hy;cases hy
     | some w=>rw[hb] at hy;exact hy
    refine⟨y,(Ew hn).2 hy',(ab9 hn).2 ⟨j-1,?_⟩⟩;have e:j=1+(j-1):=by omega
    rw[e,acb hy] at hj;exact hj
   have hle:(aao ts v).length≤L.length:=tV (aca hn) fun x hx=>by
    obtain⟨y,hy⟩:=Ay (Pn.1 hx);exact (hL4 x).2 (hall v s hcyc x y ((Ew hn).2 hy))
   rw[aap,hL2] at hle;omega
theorem aar{ts:List T3}:fM true ts=0↔aha ts∧(aZ ts).Nodup∧∀v,ahm (Nx ts v):=by
 rw[aeY];constructor
 · rintro⟨h1,h2,h3⟩;exact⟨h1,h2,(Ue h2).1 h3⟩
 · rintro⟨h1,h2,h3⟩;exact⟨h1,h2,(Ue h2).2 h3⟩
/-! ### Images -/
theorem Ex{t:T3}:t.nd=true↔t.a≠t.b∧t.b≠t.c∧t.c≠t.a:=by
 unfold T3.nd;simp only[be,decide_eq_true_eq,and_assoc]
theorem arV{t:T3}:t.nd=false↔t.a=t.b∨t.b=t.c∨t.c=t.a:=by
 cases h:t.nd with
 | true =>
  obtain⟨h1,h2,h3⟩:=Ex.1 h;exact⟨fun k=>(by cases k),fun k=>k.elim (fun k=>absurd k h1) fun k=>k.elim (fun k=>absurd k h2) fun k=>absurd k h3⟩
 | false =>
  refine⟨fun _=>?_,fun _=>rfl⟩;by_cases h1:t.a=t.b
  · exact .inl h1
  · by_cases h2:t.b=t.c
    · exact .inr (.inl h2)
    · refine .inr (.inr (Decidable.byContradiction fun h3=>?_))
      rw[Ex.2 ⟨h1,h2,h3⟩] at h;cases h
theorem qQ(t:T3):akz t (dM t):=by
 unfold dM;split
 · exact .inr (.inr rfl)
 · split
   · exact .inr (.inl rfl)
   · exact .inl rfl
/-! ### What holds of both -/
theorem tZ{ts:List T3}{t:T3}{x:P3}(ht:t∈ts)(h:t.has x=true):x∈dK ts:=ahd.2 ⟨t,ht,eU.1 h⟩
/-! ### One step -/
def rU(p a x:P3):P3:=if x=p then a else x
theorem arW{p a:P3}:rU p a p=a:=if_pos rfl
theorem arX{p a x:P3}(h:x≠p):rU p a x=x:=if_neg h
section
variable {p a:P3} {X:E3→Prop} {old new R us us':List T3}
end
/-! ### The corners round a corner,in a step -/
def fE(t:T3):Bool:=decide (¬iN (dG t.a t.b t.c)<3)
def mH(s t:T3):List P3:=[s.a,s.b,s.c].filter fun p=>t.has p
def sA(s t:T3):List P3:=[s.a,s.b,s.c].filter fun p=>!t.has p
def uL(s t:T3):Bool:=cZ s.a s.b t||cZ s.b s.c t||cZ s.c s.a t
def sgE(u v:P3):Bool:=decide (aY u.x=aY v.x∧aY u.y=aY v.y∧aY u.z=aY v.z)
def nD(s t:T3):List P3→List P3→List P3→Bool
 | [_],[u,x],[v,y]=>cZ u x t||cZ v y s
 | [a,b],[u],[v]=>decide (mG a b u v=0)&&sgE (dG a b u) (dG a b v)
 | _,_,_=>true
def mD(s t:T3):Bool :=
 if (mH s t).length=0∨fE s=true∨fE t=true then uL s t||uL t s else nD s t (mH s t) (sA s t) (sA t s)
def rI(t:T3):T3:=⟨t.b,t.c,t.a⟩
theorem Uf(t:T3)(p:P3):(rI t).has p=t.has p:=by
 rw[Bool.eq_iff_iff,eU,eU];show p=t.b∨p=t.c∨p=t.a↔_
 constructor
 · rintro (h | h | h)
   · exact .inr (.inl h)
   · exact .inr (.inr h)
   · exact .inl h
 · rintro (h | h | h)
   · exact .inr (.inr h)
   · exact .inl h
   · exact .inr (.inl h)
theorem Po(t:T3):fE (rI t)=fE t:=by unfold fE rI;simp only[Pm]
theorem Ug(s t:T3):uL (rI s) t=uL s t:=by
 unfold uL rI;simp only;cases cZ s.a s.b t <;> cases cZ s.b s.c t <;> cases cZ s.c s.a t <;> rfl
theorem rJ(p q:P3)(t:T3):cZ p q (rI t)=cZ p q t:=ab8 p q t.a t.b t.c
theorem Uh(s t:T3):uL s (rI t)=uL s t:=by unfold uL;rw[rJ,rJ,rJ]
theorem ao5(u v:P3):sgE (Jq u) (Jq v)=sgE u v:=by
 have e:∀a b:Int,aY (-a)=aY (-b)↔aY a=aY b:=fun a b=>by
  unfold aY;split <;> split <;> (try split) <;> (try split) <;> (try split) <;> (try split) <;> omega
 unfold sgE Jq;simp only[e]
theorem akF(u v:P3):sgE u v=sgE v u:=decide_eq_decide.2 ⟨fun⟨h1,h2,h3⟩=>⟨h1.symm,h2.symm,h3.symm⟩,fun⟨h1,h2,h3⟩=>⟨h1.symm,h2.symm,h3.symm⟩⟩
theorem aho(s t:T3)(b u v:List P3):nD (rI s) t b u v=nD s t b u v:=by
 unfold nD;split <;> simp only[rJ]
theorem ahp(s t:T3)(b u v:List P3):nD s (rI t) b u v=nD s t b u v:=by
 unfold nD;split <;> simp only[rJ]
theorem ahq(s t:T3)(x u y:P3)(V:List P3):nD s t [x] [y,u] V=nD s t [x] [u,y] V:=by
 rcases V with _ | ⟨v,_ | ⟨z,_ | ⟨_,_⟩⟩⟩
 · rfl
 · rfl
 · show (cZ y u t||_)=(cZ u y t||_);rw[Pk]
 · rfl
theorem adK(s t:T3)(b U:List P3)(v z:P3):nD s t b U [z,v]=nD s t b U [v,z]:=by
 rcases b with _ | ⟨x,_ | ⟨y,_ | ⟨_,_⟩⟩⟩
 · rfl
 · rcases U with _ | ⟨u,_ | ⟨w,_ | ⟨_,_⟩⟩⟩
   · rfl
   · rfl
   · show (_||cZ z v s)=(_||cZ v z s);rw[Pk v z s]
   · rfl
 · rcases U with _ | ⟨u,_ | ⟨_,_⟩⟩ <;> rfl
 · rfl
theorem acc(s t:T3)(x y u:P3)(V:List P3):nD s t [y,x] [u] V=nD s t [x,y] [u] V:=by
 rcases V with _ | ⟨v,_ | ⟨_,_⟩⟩
 · rfl
 · show (decide (mG y x u v=0)&&sgE (dG y x u) (dG y x v))=(decide (mG x y u v=0)&&sgE (dG x y u) (dG x y v))
   rw[Hg,Hf,Hf x y v,ao5];simp only[jy]
 · rfl
theorem Pp(s t:T3):mH s t=(if t.has s.a then [s.a] else [])++((if t.has s.b then [s.b] else [])++if t.has s.c then [s.c] else []):=by
 unfold mH;simp only[gg,mf];cases t.has s.a <;> cases t.has s.b <;> cases t.has s.c <;> rfl
theorem Pq(s t:T3):sA s t=(if t.has s.a then [] else [s.a])++((if t.has s.b then [] else [s.b])++if t.has s.c then [] else [s.c]):=by
 unfold sA;simp only[gg,mf];cases t.has s.a <;> cases t.has s.b <;> cases t.has s.c <;> rfl
theorem Ui(s t:T3):sA s (rI t)=sA s t:=by unfold sA;simp only[Uf]
theorem aeZ(s t:T3):mH s (rI t)=mH s t:=by unfold mH;simp only[Uf]
theorem Js(s t:T3):mD (rI s) t=mD s t:=by
 have hl:(mH (rI s) t).length=(mH s t).length:=by
  rw[Pp,Pp];show ((if t.has s.b then [s.b] else [])++((if t.has s.c then [s.c] else [])++if t.has s.a then [s.a] else [])).length=_
  cases t.has s.a <;> cases t.has s.b <;> cases t.has s.c <;> rfl
 unfold mD;rw[hl,Po,Ug,Uh,Ui,aho];by_cases h:(mH s t).length=0∨fE s=true∨fE t=true
 · rw[if_pos h,if_pos h]
 · rw[if_neg h,if_neg h,Pp,Pp,Pq,Pq s]
   show nD s t ((if t.has s.b then [s.b] else [])++((if t.has s.c then [s.c] else [])++if t.has s.a then [s.a] else [])) ((if t.has s.b then [] else [s.b])++((if t.has s.c then [] else [s.c])++if t.has s.a then [] else [s.a])) _=_
   cases t.has s.a <;> cases t.has s.b <;> cases t.has s.c
   · rfl
   · exact ahq ..
   · exact ahq ..
   · rfl
   · rfl
   · exact acc ..
   · exact acc ..
   · rfl
theorem Ey(s t:T3):mD s (rI t)=mD s t:=by
 unfold mD;rw[aeZ,Po,Ug,Uh,Ui,ahp];by_cases h:(mH s t).length=0∨fE s=true∨fE t=true
 · rw[if_pos h,if_pos h]
 · rw[if_neg h,if_neg h,Pq (rI t),Pq t]
   show nD s t _ _ ((if s.has t.b then [] else [t.b])++((if s.has t.c then [] else [t.c])++if s.has t.a then [] else [t.a]))=_
   cases s.has t.a <;> cases s.has t.b <;> cases s.has t.c
   · rcases mH s t with _ | ⟨x,_ | ⟨y,_ | ⟨_,_⟩⟩⟩ <;> rcases sA s t with _ | ⟨u,_ | ⟨w,_ | ⟨_,_⟩⟩⟩ <;> rfl
   · exact adK ..
   · exact adK ..
   · rfl
   · rfl
   · rfl
   · rfl
   · rfl
theorem akG(a b u v:P3):mG a b v u = -mG a b u v:=by
 simp only[mG,dG,P3.sub,P3.cross,P3.dot];grind
theorem akH(s t:T3){L1 L2:List P3}(U V:List P3)(h:L1.Perm L2):nD s t L1 U V=nD t s L2 V U:=by
 have two:∀(x y:P3),nD s t [x,y] U V=nD t s [x,y] V U:=fun x y=>by
  rcases U with _ | ⟨u,_ | ⟨_,_⟩⟩ <;> rcases V with _ | ⟨v,_ | ⟨_,_⟩⟩ <;> try rfl
  show (decide (mG x y u v=0)&&sgE (dG x y u) (dG x y v))=(decide (mG x y v u=0)&&sgE (dG x y v) (dG x y u))
  rw[akG x y u v,akF];simp only[jy]
 rcases L1 with _ | ⟨x,_ | ⟨y,_ | ⟨z,l⟩⟩⟩
 · obtain rfl:=h.symm.eq_nil;rfl
 · rw[nu.1 h.symm]
   rcases U with _ | ⟨u,_ | ⟨w,_ | ⟨_,_⟩⟩⟩ <;> rcases V with _ | ⟨v,_ | ⟨z,_ | ⟨_,_⟩⟩⟩ <;> try rfl
   show (cZ u w t||cZ v z s)=(cZ v z s||cZ u w t)
   rw[oo]
 · have hl:=h.length_eq
   rcases L2 with _ | ⟨p,_ | ⟨q,_ | ⟨_,_⟩⟩⟩ <;> simp only[ay,bu] at hl <;> try omega
   have hp:p∈[x,y]:=h.symm.subset (bq ..);rcases ao.1 hp with e | e
   · subst e
     have:=nu.1 ((mz p).1 h).symm;rw[this];exact two p y
   · obtain rfl:=bf.1 e
     have h2:[p,x].Perm [p,q]:=(List.Perm.swap x p []).trans h;have:=nu.1 ((mz p).1 h2).symm;rw[this,two x p];rcases V with _ | ⟨v,_ | ⟨_,_⟩⟩
     · rfl
     · exact (acc t s x p v U).symm
     · rfl
 · have hl:=h.length_eq
   rcases L2 with _ | ⟨p,_ | ⟨q,_ | ⟨r,m⟩⟩⟩ <;> simp only[ay,bu] at hl <;> try omega
   rfl
theorem wH{t:T3}(h:t.nd=true):[t.a,t.b,t.c].Nodup:=by
 obtain⟨h1,h2,h3⟩:=Ex.1 h;simp only[List.nodup_cons,ao,bz,or_false,not_or,not_false_eq_true,List.nodup_nil,and_true];exact⟨⟨h1,h3.symm⟩,h2⟩
theorem aas{s t:T3}(hs:s.nd=true)(ht:t.nd=true):(mH s t).Perm (mH t s):=by
 refine (List.perm_ext_iff_of_nodup ((wH hs).filter _) ((wH ht).filter _)).2 fun p=>?_;rw[ct,ct,eU,eU];simp only[ao,bz,or_false];exact and_comm
theorem ae0{s t:T3}(hs:s.nd=true)(ht:t.nd=true):mD s t=mD t s:=by
 have hp:=aas hs ht;unfold mD;rw[hp.length_eq,oo (uL t s),akH s t _ _ hp];have e:((mH t s).length=0∨fE s=true∨fE t=true)↔((mH t s).length=0∨fE t=true∨fE s=true):=or_congr Iff.rfl or_comm;by_cases h:(mH t s).length=0∨fE s=true∨fE t=true
 · rw[if_pos h,if_pos (e.1 h)]
 · rw[if_neg h,if_neg (fun k=>h (e.2 k))]
def T3.Lt(s t:T3):Prop:=s.a.Lt t.a∨s.a=t.a∧(s.b.Lt t.b∨s.b=t.b∧s.c.Lt t.c)
instance (s t:T3):Decidable (s.Lt t):=by unfold T3.Lt;infer_instance
theorem T3.lt_irrefl(s:T3):¬s.Lt s:=fun h=>by
 rcases h with h | ⟨_,h | ⟨_,h⟩⟩ <;> exact P3.lt_irrefl _ h
theorem T3.lt_trans{s t u:T3}(h:s.Lt t)(k:t.Lt u):s.Lt u:=by
 rcases h with h | ⟨e,h | ⟨f,h⟩⟩ <;> rcases k with k | ⟨e2,k | ⟨f2,k⟩⟩
 · exact .inl (P3.lt_trans h k)
 · exact .inl (e2▸h)
 · exact .inl (e2▸h)
 · exact .inl (e▸k)
 · exact .inr ⟨e.trans e2,.inl (P3.lt_trans h k)⟩
 · exact .inr ⟨e.trans e2,.inl (f2▸h)⟩
 · exact .inl (e▸k)
 · exact .inr ⟨e.trans e2,.inl (f▸k)⟩
 · exact .inr ⟨e.trans e2,.inr ⟨f.trans f2,P3.lt_trans h k⟩⟩
theorem T3.lt_tri(s t:T3):s.Lt t∨s=t∨t.Lt s:=by
 rcases Go.Lith.lt_tri s.a t.a with h | h | h
 · exact .inl (.inl h)
 · rcases Go.Lith.lt_tri s.b t.b with k | k | k
   · exact .inl (.inr ⟨h,.inl k⟩)
   · rcases Go.Lith.lt_tri s.c t.c with l | l | l
     · exact .inl (.inr ⟨h,.inr ⟨k,l⟩⟩)
     · exact .inr (.inl (Ev h k l))
     · exact .inr (.inr (.inr ⟨h.symm,.inr ⟨k.symm,l⟩⟩))
   · exact .inr (.inr (.inr ⟨h.symm,.inl k⟩))
 · exact .inr (.inr (.inl h))
def uA(s t:T3):Prop:=¬t.Lt s
theorem Lo{s t u:T3}(h:uA s t)(k:uA t u):uA s u:=fun l=>by
 rcases T3.lt_tri s t with e | e | e
 · exact k (T3.lt_trans l e)
 · exact k (e▸l)
 · exact h e
theorem acd{s t:T3}(h:uA s t)(k:uA t s):s=t:=by
 rcases T3.lt_tri s t with e | e | e
 · exact absurd e k
 · exact e
 · exact absurd e h
def ae1(t:T3):List T3→List T3
 | []=>[t]
 | u::l=>if u.Lt t then u::ae1 t l else t::u::l
def uX:List T3→List T3
 | []=>[]
 | t::l=>ae1 t (uX l)
def dW(l:List T3):List T3:=uX (l.map dM)
theorem Pr(t:T3):∀l:List T3,(ae1 t l).Perm (t::l)
 | []=>.refl _
 | u::l=>by
  rw[ae1];split
  · exact ((Pr t l).cons u).trans (.swap ..)
  · exact .refl _
theorem tE:∀l:List T3,(uX l).Perm l
 | []=>.refl _
 | t::l=>(Pr t _).trans ((tE l).cons t)
theorem Ps(t:T3):∀l:List T3,l.Pairwise uA→(ae1 t l).Pairwise uA
 | [],_=>List.pairwise_singleton _ _
 | u::l,h=>by
  rw[ae1];obtain⟨h1,h2⟩:=bm.1 h;split
  · rename_i k
    refine bm.2 ⟨fun x hx=>?_,Ps t l h2⟩;rcases ao.1 ((Pr t l).subset hx) with rfl | hx
    · exact fun k2=>T3.lt_irrefl _ (T3.lt_trans k k2)
    · exact h1 x hx
  · rename_i k
    refine bm.2 ⟨fun x hx=>?_,h⟩;rcases ao.1 hx with rfl | hx
    · exact k
    · exact Lo k (h1 x hx)
theorem rK:∀l:List T3,(uX l).Pairwise uA
 | []=>List.Pairwise.nil
 | t::l=>Ps t _ (rK l)
theorem Be:∀{l m:List T3},l.Perm m→l.Pairwise uA→m.Pairwise uA→l=m
 | [],m,h,_,_=>h.symm.eq_nil.symm
 | s::l,[],h,_,_=>by have:=h.length_eq;simp at this
 | s::l,t::m,h,h1,h2=>by
  obtain⟨a1,a2⟩:=bm.1 h1;obtain⟨b1,b2⟩:=bm.1 h2;have e:s=t:=by
   have hs:s∈t::m:=h.subset (bq ..);have ht:t∈s::l:=h.symm.subset (bq ..);rcases ao.1 hs with e | hs
   · exact e
   · rcases ao.1 ht with e | ht
     · exact e.symm
     · exact acd (a1 t ht) (b1 s hs)
  subst e;rw[Be ((mz s).1 h) a2 b2]
theorem uB(l:List T3):(dW l).Perm (l.map dM):=tE _
theorem Wz(l:List T3):(dW l).Pairwise uA:=rK _
theorem ahr{l m:List T3}(h:m.Perm (l.map dM))(hs:m.Pairwise uA):m=dW l:=Be (h.trans (uB l).symm) hs (Wz l)
def jG(u v:P3)(t:T3):T3:=t.mapP (rU u v)
def oU(u v:P3)(l:List T3):List T3:=(l.map (jG u v)).filter T3.nd
def nJ(l:List T3)(u v:P3):List T3:=dW (oU u v l)
def kV(u v:P3)(l:List T3):List T3:=l.filter fun t=>!decide (jG u v t=t)&&(jG u v t).nd
def iY(u v:P3)(l:List T3):List T3:=(kV u v l).map (jG u v)
def mJ(u v:P3)(l:List T3):List T3:=l.filter fun t=>decide (jG u v t=t)
def Mg(l:List T3)(p q:P3):Bool:=decide (q≠p)&&Se l p q
def nbL(l:List T3)(p:P3):List P3:=(dO l).filter (Mg l p)
def ae2(p:P3):List P3→List P3
 | []=>[p]
 | q::l=>if q.Lt p then q::ae2 p l else p::q::l
def yO:List P3→List P3
 | []=>[]
 | p::l=>ae2 p (yO l)
def pS(t:T3):List P3:=yO [t.a,t.b,t.c]
def Cn(t:T3)(k:Nat):Int:=min (min (dF t.a k) (dF t.b k)) (dF t.c k)
def Co(t:T3)(k:Nat):Int:=max (max (dF t.a k) (dF t.b k)) (dF t.c k)
def aat(s t:T3)(k:Nat):Bool:=decide (Co s k<Cn t k)||decide (Co t k<Cn s k)
def nU(s t:T3):Bool:=!aat s t 0 && !aat s t 1 && !aat s t 2
def sF(t s:T3):Bool:=nU t s&&mD s t
def Sf(s t:T3):Int:=aY ((dG s.a s.b s.c).dot (dG t.a t.b t.c))
def uY(l:List T3)(u v:P3):Bool:=Mg l u v && !Dw (bF l) u
def xQ(l:List T3)(u v:P3):Bool:=decide (((nbL l u).filter (Mg l v)).length=2)
def qW(l:List T3)(u v:P3):Bool:=decide (((iY u v l++mJ u v l).map pS).Nodup)
def Ez(l:List T3)(u v:P3):Bool:=!Dw (bF l) v||(nbL l u).all fun p=>decide (p=v) || !Dw (bF l) p||Mg l v p
def uC(l:List T3)(u v:P3):Bool:=(kV u v l).all fun t=>!fE (jG u v t)&&decide (Sf t (jG u v t)=1)
def Fa(l:List T3)(u v:P3):Bool:=(iY u v l).zipIdx.all fun x=>!(mJ u v l).any (sF x.1) && !((iY u v l).take x.2).any (sF x.1)
def cY(l:List T3)(u v:P3):Bool:=uY l u v&&xQ l u v&&qW l u v&&Ez l u v&&uC l u v&&Fa l u v
theorem Pt{l:List T3}{p q:P3}:Mg l p q=true↔q≠p∧Se l p q=true:=by
 unfold Mg;rw[be,decide_eq_true_eq]
theorem uZ{l:List T3}{p q:P3}:q∈nbL l p↔Mg l p q=true:=by
 unfold nbL;rw[ct,Bb];refine⟨fun h=>h.2,fun h=>⟨?_,h⟩⟩;obtain⟨t,ht,_,hq⟩:=Hc.1 (Pt.1 h).2;exact tZ ht hq
theorem ahs{u v:P3}{t:T3}(hne:u≠v):jG u v t=t↔t.has u=false:=by
 have e:∀x,rU u v x=x↔x≠u:=fun x=>by
  unfold rU;split
  · rename_i h;subst h;exact⟨fun h=>absurd h.symm hne,fun h=>absurd rfl h⟩
  · rename_i h;exact⟨fun _=>h,fun _=>rfl⟩
 constructor
 · intro h
   have h1:=(e _).1 (congrArg T3.a h);have h2:=(e _).1 (congrArg T3.b h);have h3:=(e _).1 (congrArg T3.c h);unfold T3.has;simp[h1,h2,h3]
 · intro h
   obtain⟨h1,h2,h3⟩:=ao0 h;exact Ev ((e _).2 h1.symm) ((e _).2 h2.symm) ((e _).2 h3.symm)
theorem ao7{u v:P3}{t:T3}(hne:u≠v)(hd:t.nd=true):(jG u v t).nd=true↔¬(t.has u=true∧t.has v=true):=by
 obtain⟨h1,h2,h3⟩:=Ex.1 hd;rw[Ex,eU,eU];unfold jG T3.mapP rU;simp only
 grind
theorem adL{u v:P3}(l:List T3):∀t∈oU u v l,t.nd=true:=fun t h=>(ct.1 h).2
theorem Fb{u v:P3}:∀l:List T3,(∀t∈l,t.nd=true)→(iY u v l++mJ u v l).Perm (oU u v l)
 | [],_=>.refl _
 | t::l,h=>by
  have ih:=Fb (u:=u) (v:=v) l fun x hx=>h x (bp _ hx);have hd:=h t (bq ..);unfold iY kV mJ oU at ih ⊢;simp only[gg,List.map_cons];by_cases e:jG u v t=t
  · rw[e,hd]
    simp only[decide_true,Bool.not_true,Bool.false_and,mi,if_false,if_true];exact List.perm_middle.trans (ih.cons t)
  · simp only[e,decide_false,Bool.not_false,Bool.true_and,mi,if_false]
    split
    · rw[List.map_cons,List.cons_append];exact ih.cons _
    · exact ih
theorem aht(t:T3):(dM t).nd=t.nd:=(akA (qQ t))
theorem ahu{l:List T3}(h:∀t∈l,t.nd=true):∀t∈dW l,t.nd=true:=fun t ht=>by
 obtain⟨s,hs,rfl⟩:=df.1 ((uB l).mem_iff.1 ht);rw[aht];exact h s hs
theorem ahv(l:List T3)(u v:P3):∀t∈nJ l u v,t.nd=true:=ahu (adL l)
theorem Jt(l:List T3):(dW l).length=l.length:=by rw[(uB l).length_eq,dz]
theorem ahw{l:List T3}{u v:P3}(h:uY l u v=true):(nJ l u v).length<l.length:=by
 have hj:=(Bool.and_eq_true_iff.1 h).1;obtain⟨hne,he⟩:=Pt.1 hj;obtain⟨t,ht,h1,h2⟩:=Hc.1 he;unfold nJ;rw[Jt];unfold oU;have hn:(jG u v t).nd=false:=by
  rw[arV];rw[eU] at h1 h2;unfold jG T3.mapP rU;simp only
  grind
 have hm:jG u v t∈l.map (jG u v):=List.mem_map_of_mem ht;have:=List.length_filter_lt_length_iff_exists (p:=T3.nd) (l:=l.map (jG u v)) |>.2 ⟨_,hm,by rw[hn];exact et⟩
 rwa [dz] at this
theorem Cp(u v:P3)(l:List T3):(oU u v l).length≤l.length:=by
 have:=List.length_filter_le T3.nd (l.map (jG u v));rwa [dz] at this
def Di(a b:List Int):List Int:=List.zipWith (· + ·) a b
def q0:List Int:=[0,0,0,0,0,0,0,0,0,0]
def qPr(a b c d:Int):List Int:=[a*a,2*(a*b),2*(a*c),2*(a*d),b*b,2*(b*c),2*(b*d),c*c,2*(c*d),d*d]
def qOf(t:T3):List Int:=qPr (dG t.a t.b t.c).x (dG t.a t.b t.c).y (dG t.a t.b t.c).z (-((dG t.a t.b t.c).dot t.a))
def arY(q:List Int)(x y z:Int):Int:=match q with
 | [a,b,c,d,e,f,g,h,i,j]=>a*(x*x)+b*(x*y)+c*(x*z)+d*x+e*(y*y)+f*(y*z)+g*y+h*(z*z)+i*z+j
 | _=>0
def qAt(q:List Int)(p:P3):Int:=arY q p.x p.y p.z
def vM(l:List T3)(p:P3):List Int:=(l.filter fun t=>t.has p).foldl (fun s t=>Di s (qOf t)) q0
structure lE where
 u:P3
 v:P3
 c:Int
def lE.Lt(a b:lE):Prop:=a.c<b.c∨a.c=b.c∧(a.u.Lt b.u∨a.u=b.u∧a.v.Lt b.v)
instance (a b:lE):Decidable (a.Lt b):=by unfold lE.Lt;infer_instance
theorem lE.ext' {a b:lE}(h1:a.u=b.u)(h2:a.v=b.v)(h3:a.c=b.c):a=b:=by
 obtain⟨u,v,c⟩:=a;obtain⟨u',v',c'⟩:=b;simp only at h1 h2 h3;rw[h1,h2,h3]
theorem lE.lt_irrefl(a:lE):¬a.Lt a:=fun h=>by
 rcases h with h | ⟨_,h | ⟨_,h⟩⟩
 · omega
 · exact P3.lt_irrefl _ h
 · exact P3.lt_irrefl _ h
theorem lE.lt_trans{a b c:lE}(h:a.Lt b)(k:b.Lt c):a.Lt c:=by
 rcases h with h | ⟨e,h | ⟨f,h⟩⟩ <;> rcases k with k | ⟨e2,k | ⟨f2,k⟩⟩
 · exact .inl (by omega)
 · exact .inl (by omega)
 · exact .inl (by omega)
 · exact .inl (by omega)
 · exact .inr ⟨e.trans e2,.inl (P3.lt_trans h k)⟩
 · exact .inr ⟨e.trans e2,.inl (f2▸h)⟩
 · exact .inl (by omega)
 · exact .inr ⟨e.trans e2,.inl (f▸k)⟩
 · exact .inr ⟨e.trans e2,.inr ⟨f.trans f2,P3.lt_trans h k⟩⟩
theorem lE.lt_tri(a b:lE):a.Lt b∨a=b∨b.Lt a:=by
 rcases Int.lt_trichotomy a.c b.c with h | h | h
 · exact .inl (.inl h)
 · rcases Go.Lith.lt_tri a.u b.u with k | k | k
   · exact .inl (.inr ⟨h,.inl k⟩)
   · rcases Go.Lith.lt_tri a.v b.v with l | l | l
     · exact .inl (.inr ⟨h,.inr ⟨k,l⟩⟩)
     · exact .inr (.inl (lE.ext' k l h))
     · exact .inr (.inr (.inr ⟨h.symm,.inr ⟨k.symm,l⟩⟩))
   · exact .inr (.inr (.inr ⟨h.symm,.inl k⟩))
 · exact .inr (.inr (.inl h))
def Sg:List lE→Option lE
 | []=>none
 | c::cs=>match Sg cs with
  | none=>some c
  | some d=>if d.Lt c then some d else some c
theorem Ju:∀{cs:List lE},Sg cs=none↔cs=[]
 | []=>⟨fun _=>rfl,fun _=>rfl⟩
 | c::cs=>by
  unfold Sg;constructor
  · intro h
    cases hm:Sg cs with
    | none=>rw[hm] at h;cases h
    | some d=>rw[hm] at h;simp only at h;split at h <;> cases h
  · intro h;cases h
theorem Jv:∀{cs:List lE} {c:lE},Sg cs=some c→c∈cs∧∀d∈cs,¬d.Lt c
 | [],c,h=>by cases h
 | a::cs,c,h=>by
  unfold Sg at h;cases hm:Sg cs with
  | none =>
   rw[hm] at h;cases h;rw[Ju.1 hm];exact⟨List.mem_singleton_self _,fun d hd=>by rw[bf.1 hd];exact lE.lt_irrefl _⟩
  | some d =>
   rw[hm] at h;simp only at h;obtain⟨h1,h2⟩:=Jv hm;split at h
   · rename_i k
     cases h;refine⟨bp _ h1,fun e he=>?_⟩;rcases ao.1 he with rfl | he
     · exact fun k2=>lE.lt_irrefl _ (lE.lt_trans k k2)
     · exact h2 e he
   · rename_i k
     cases h;refine⟨bq ..,fun e he k2=>?_⟩;rcases ao.1 he with rfl | he
     · exact lE.lt_irrefl _ k2
     · rcases lE.lt_tri d e with k3 | k3 | k3
       · exact k (lE.lt_trans k3 k2)
       · exact k (k3▸k2)
       · exact h2 e he k3
theorem akJ{cs:List lE}{c:lE}(hc:c∈cs)(h:∀d∈cs,¬d.Lt c):Sg cs=some c:=by
 cases hm:Sg cs with
 | none=>rw[Ju.1 hm] at hc;cases hc
 | some d =>
  obtain⟨h1,h2⟩:=Jv hm;rcases lE.lt_tri c d with k | k | k
  · exact absurd k (h2 c hc)
  · rw[k]
  · exact absurd k (h d h1)
def sG(q:P3→List Int)(u v:P3):Int:=qAt (Di (q u) (q v)) v
def ao8(l:List T3)(q:P3→List Int)(u:P3):List lE:=if Dw (bF l) u then [] else (nbL l u).map fun v=>⟨u,v,sG q u v⟩
def ace(l:List T3)(q:P3→List Int):List lE:=(dO l).flatMap (ao8 l q)
def Dx(l:List T3)(q:P3→List Int):Option lE:=Sg ((ace l q).filter fun c=>cY l c.u c.v)
def Xa(q:P3→List Int)(u v:P3)(p:P3):List Int:=if p=v then Di (q u) (q v) else q p
def toF(D:List Mv)(u v:P3):List Mv:=fG (D.map fun e=>(e.1,rU u v e.2)) u v
def qG:Nat→Int→List T3→(P3→List Int)→List Mv→List T3 × List Mv
 | 0,_,l,_,D=>(l,D)
 | n+1,want,l,q,D=>if (l.length:Int)≤want then (l,D) else match Dx l q with
  | none=>(l,D)
  | some c=>qG n want (nJ l c.u c.v) (Xa q c.u c.v) (toF D c.u c.v)
def mP(D:List Mv):List Mv:=(yO (D.map (·.1))).map fun k=>(k,(cI D k).getD k)
def yP(l:List T3)(want:Int):List T3 × List Mv :=
 if fM true (dW l)≠0 then (dW l,[]) else
 ((qG (dW l).length want (dW l) (vM (dW l)) []).1,mP (qG (dW l).length want (dW l) (vM (dW l)) []).2)
theorem akK{l:List T3}{q:P3→List Int}{c:lE}:c∈ace l q↔Dw (bF l) c.u=false∧Mg l c.u c.v=true∧c.c=sG q c.u c.v:=by
 unfold ace;rw[e_];constructor
 · rintro⟨u,hu,hc⟩
   unfold ao8 at hc;split at hc
   · cases hc
   · rename_i hb
     obtain⟨v,hv,rfl⟩:=df.1 hc;exact⟨by simpa using hb,uZ.1 hv,rfl⟩
 · rintro⟨h1,h2,h3⟩
   obtain⟨t,ht,hu,_⟩:=Hc.1 (Pt.1 h2).2;refine⟨c.u,Bb.2 (tZ ht hu),?_⟩;unfold ao8;rw[if_neg (by rw[h1];exact et)];exact df.2 ⟨c.v,uZ.2 h2,lE.ext' rfl rfl h3.symm⟩
theorem Pu{l:List T3}{u v:P3}(h:cY l u v=true):uY l u v=true:=by
 unfold cY at h;simp only[be] at h;exact h.1.1.1.1.1
theorem ae3{l:List T3}{q:P3→List Int}{c:lE}(h:Dx l q=some c):c∈ace l q∧cY l c.u c.v=true:=by
 have:=(Jv h).1;exact ct.1 this
theorem wI{l:List T3}{q:P3→List Int}{c:lE}(h:Dx l q=some c):(nJ l c.u c.v).length<l.length:=ahw (Pu (ae3 h).2)
theorem Uj:∀(n m:Nat) (want:Int) (l:List T3) (q:P3→List Int) (D:List Mv),l.length≤n→l.length≤m→0≤want→qG n want l q D=qG m want l q D
 | 0,0,_,_,_,_,_,_,_=>rfl
 | 0,m+1,want,l,q,D,h1,h2,hw=>by
  have:l.length=0:=by omega
  unfold qG;rw[if_pos (by omega)]
 | n+1,0,want,l,q,D,h1,h2,hw=>by
  have:l.length=0:=by omega
  unfold qG;rw[if_pos (by omega)]
 | n+1,m+1,want,l,q,D,h1,h2,hw=>by
  unfold qG;split
  · rfl
  · cases hb:Dx l q with
    | none=>rfl
    | some c =>
     have:=wI hb;exact Uj n m want _ _ _ (by omega) (by omega) hw
theorem ahx{n:Nat}{want:Int}{l:List T3}{q:P3→List Int}{D:List Mv}(h:(l.length:Int)≤want):qG n want l q D=(l,D):=by
 cases n with
 | zero=>rfl
 | succ n=>unfold qG;rw[if_pos h]
def wC(n:Int):List ah:=[.bool (fP n),.string (jX n)]
def qC(L:List Int):List ah:=L.flatMap wC
def qV(L:List Int):ah:=.agg (qC L).toArray
theorem wC2(n:Int):(wC n).length=2:=rfl
theorem Bf(L:List Int):(qC L).length=L.length*2:=jO wC2 ..
theorem Bg{w:aj}{g:Nat}{L:List Int}{T:TypeId}{k:Nat}{x:Int}(h:fK w g (qC L) T)(hx:L[k]? = some x):mB w ⟨g,k*2,none⟩ (wC x):=by
 have h2:=h.row (k*2);rw[qC,On wC2 hx] at h2;exact fun j u hj=>h2 j u (by rw[List.getElem?_append_left (List.getElem?_eq_some_iff.1 hj).1];exact hj)
theorem Xb{L:List Int}{k:Nat}{x:Int}(h:k<L.length):cA (qC L) (k*2) (wC x)=qC (L.set k x):=by
 unfold cA qC;rw[show k*2+(wC x).length=(k+1)*2 by rw[wC2];omega,←Om wC2,←xJ wC2,List.set_eq_take_append_cons_drop,if_pos h,ba,dx,dh]
theorem ao9(L:List Int):∀u∈qC L,u.oneCell'=true:=fun u hu=>by
 obtain⟨x,_,h⟩:=e_.1 hu;simp only[wC,ao,bz,or_false] at h;rcases h with rfl | rfl <;> rfl
def Fc(k:Nat)(L:List Int):Prop:=∀x∈L,Bd k x
theorem Fc.mono{k m:Nat}{L:List Int}(h:Fc k L)(hk:k≤m):Fc m L:=fun x hx=>(h x hx).mono hk
theorem Fc.at{k i:Nat}{L:List Int}{x:Int}(h:Fc k L)(hx:L[i]? = some x):Bd k x:=h x (List.mem_of_getElem? hx)
theorem kW{a b:List Int}(ha:a.length=10)(hb:b.length=10):(Di a b).length=10:=by unfold Di;rw[List.length_zipWith,ha,hb];rfl
theorem Ms{k:Nat}{a b:List Int}(ha:Fc k a)(hb:Fc k b):Fc (k+1) (Di a b):=fun x hx=>by
 unfold Di at hx;obtain⟨i,hi⟩:=List.mem_iff_getElem?.1 hx;rw[List.getElem?_zipWith] at hi;cases h1:a[i]? with
 | none=>simp[h1] at hi
 | some y =>
  cases h2:b[i]? with
  | none=>simp[h1,h2] at hi
  | some z =>
   simp[h1,h2] at hi;subst hi;exact ((ha.at h1).add (hb.at h2)).mono (by omega)
section
variable {P:bh} {ds:List Deferred} {l:List ah} {x y:Operand} {T ty:TypeId} {ops:Array Oper} {Q:Exit→Act→aj→Prop} {rest:List Oper} {pos:String} {after:Array Edge} {w w0:aj} {is:List It}
theorem aau{cs us:List ah}(h:us.length=cs.length):cA cs 0 us=us:=by unfold cA;rw[kj,List.nil_append,ar,ij (by omega),fb]
theorem Cq{g n:Nat}{cs:List ah}{L:List Int}{t:TypeId}(m:Mem w0 w is)(k:Nat)(hk:is[k]? = some (bI g cs t))(hx:ev l x=.pointer (some ⟨g,0,none⟩))(hv:ev l y=qV L)(hl:L.length*2=n)(hcs:cs.length=n)(hc:dP P T n)
 (h:∀u,Mem w0 u (is.set k (bI g (qC L) t))→au P ops Q rest (Fr l ds) u):au P ops Q (Oper.mk none (.store T x y) ty pos after none::rest) (Fr l ds) w :=
 bR (us:=qC L) m k hk hx hv (by rw[Bf,hl];exact hc) (by rw[Bf,hl,hcs,ar];exact av _) (List.all_eq_true.2 (ao9 L)) fun u hu=>h u (by rw[aau (by rw[Bf,hl,hcs])] at hu;exact hu)
theorem vN{g n:Nat}{L:List Int}{t:TypeId}(h:fK w g (qC L) t)(hA:eP P T true)(hc:dP P T n)(hl:L.length*2=n):fL P w T ⟨g,0,none⟩ (qV L):=h.full hA (by rw[Bf,hl];exact hc)
theorem akL{a:Addr}(h:fL P w T a (.agg #[.bool false,.string ⟨#[]⟩])):fL P w T a (W 0):=by rw[Wh];exact h
end
def qP(a b:List Int)(k:Nat):List Int:=(Di a b).take k++a.drop k
theorem apa{a b:List Int}(ha:a.length=10)(hb:b.length=10):qP a b 10=Di a b:=by
 unfold qP;rw[a_ (by rw[kW ha hb];exact av _),ij (by omega),fb]
theorem ahy{a b:List Int}(ha:a.length=10)(hb:b.length=10){k:Nat}(hk:k≤10):(qP a b k).length=10:=by
 unfold qP;rw[aw,cj,gh,kW ha hb,ha];omega
theorem ar0{a b:List Int}(ha:a.length=10)(hb:b.length=10){k:Nat}{x:Int}(hk:k<10)(hx:a[k]? = some x):(qP a b k)[k]? = some x:=by
 unfold qP;rw[List.getElem?_append_right (by rw[cj];omega),cj,kW ha hb,Nat.min_eq_left (by omega),Nat.sub_self,List.getElem?_drop,la];exact hx
theorem apb{a b:List Int}(ha:a.length=10)(hb:b.length=10){k:Nat}{x y:Int}(hk:k<10)(hx:a[k]? = some x)(hy:b[k]? = some y):(qP a b k).set k (x+y)=qP a b (k+1):=by
 have h1:(Di a b)[k]? = some (x+y):=by unfold Di;rw[List.getElem?_zipWith,hx,hy]
 have h2:((Di a b).take k).length=k:=by rw[cj,kW ha hb];omega
 unfold qP;rw[List.take_add_one,h1,List.set_append_right _ _ (by rw[h2];exact av _),h2,Nat.sub_self,Option.toList,dh]
 congr 1
 rw[ee (by omega:k<a.length)];rfl
/-! ### The pairs,in order -/
def eI(n:Nat):Nat:=[0,0,0,0,1,1,1,2,2,3].getD n 0
def eJ(n:Nat):Nat:=[0,1,2,3,1,2,3,2,3,3].getD n 0
theorem Xc{Q:Nat→Prop}{n:Nat}(hn:n<10)(h0:Q 0)(h1:Q 1)(h2:Q 2)(h3:Q 3)(h4:Q 4)(h5:Q 5)(h6:Q 6)(h7:Q 7)(h8:Q 8)(h9:Q 9):Q n:=by
 rcases n with _ | _ | _ | _ | _ | _ | _ | _ | _ | _ | n
 all_goals first | assumption | omega
theorem ahz{n:Nat}(hn:n<10):eI n<4:=Xc (Q:=fun n=>eI n<4) hn (by decide) (by decide) (by decide) (by decide) (by decide) (by decide) (by decide) (by decide) (by decide) (by decide)
theorem ahA{n:Nat}(hn:n<10):eJ n<4:=Xc (Q:=fun n=>eJ n<4) hn (by decide) (by decide) (by decide) (by decide) (by decide) (by decide) (by decide) (by decide) (by decide) (by decide)
def Uk(p:List Int)(n:Nat):Int:=p.getD (eI n) 0*p.getD (eJ n) 0
def qF(a b c d:Int)(n:Nat):List Int:=(qPr a b c d).take n++c_ (10-n) 0
theorem apc(a b c d:Int){n:Nat}(hn:n≤10):(qF a b c d n).length=10:=by
 unfold qF;rw[aw,cj,List.length_replicate,show (qPr a b c d).length=10 from rfl];omega
theorem ahB{a b c d:Int}{n:Nat}(hn:n<10):((qF a b c d n).set n (Uk [a,b,c,d] n)).set n (if eI n=eJ n then Uk [a,b,c,d] n else Uk [a,b,c,d] n*2)=qF a b c d (n+1):=by
 rw[List.set_set];refine Xc (Q:=fun n=>(qF a b c d n).set n (if eI n=eJ n then Uk [a,b,c,d] n else Uk [a,b,c,d] n*2)=qF a b c d (n+1)) hn ?_ ?_ ?_ ?_ ?_ ?_ ?_ ?_ ?_ ?_
 all_goals simp[qF,qPr,Uk,eI,eJ,pe]
theorem ar1(a b c d:Int):qF a b c d 10=qPr a b c d:=by unfold qF qPr;rfl
theorem alV(a b c d:Int){i:Nat}(hi:i<4):[a,b,c,d][i]? = some ([a,b,c,d].getD i 0):=by
 rcases i with _ | _ | _ | _ | i
 all_goals first | rfl | omega
theorem ar2{k:Nat}{a b c d:Int}(h:Fc k [a,b,c,d]):Fc (k+k+2) (qPr a b c d):=fun x hx=>by
 have ha:=h a (by simp);have hb:=h b (by simp);have hc:=h c (by simp);have hd:=h d (by simp);have two:∀{x:Int},Bd (k+k) x→Bd (k+k+2) (2*x):=fun {x} hx=>by
  have h2:Bd 2 (2:Int):=by unfold Bd;decide
  rw[Nat.add_comm];exact h2.mul hx
 simp only[qPr,ao,bz,or_false] at hx;rcases hx with rfl | rfl | rfl | rfl | rfl | rfl | rfl | rfl | rfl | rfl
 · exact (ha.mul ha).mono (by omega)
 · exact two (ha.mul hb)
 · exact two (ha.mul hc)
 · exact two (ha.mul hd)
 · exact (hb.mul hb).mono (by omega)
 · exact two (hb.mul hc)
 · exact two (hb.mul hd)
 · exact (hc.mul hc).mono (by omega)
 · exact two (hc.mul hd)
 · exact (hd.mul hd).mono (by omega)
/-! ### A quadric's value -/
def atS(q x:List Int):Nat→Int
 | 0=>0
 | n+1=>atS q x n+q.getD n 0*Uk x n
theorem Xd{q:List Int}(hq:q.length=10){n:Nat}(hn:n<10):q[n]? = some (q.getD n 0):=by
 rw[ie,am (by omega)];rfl
theorem ahC{q:List Int}(hq:q.length=10)(p:P3):atS q [p.x,p.y,p.z,1] 10=qAt q p:=by
 rcases q with _ | ⟨a,_ | ⟨b,_ | ⟨c,_ | ⟨d,_ | ⟨e,_ | ⟨f,_ | ⟨g,_ | ⟨h,_ | ⟨i,_ | ⟨j,_ | ⟨k,q⟩⟩⟩⟩⟩⟩⟩⟩⟩⟩⟩ <;> simp only[ay,bu] at hq <;> try omega
 simp only[atS,Uk,eI,eJ,qAt,arY,List.getD_cons_zero,List.getD_cons_succ,List.getD_nil]
 grind
theorem acf{k:Nat}{p:List Int}(h:Fc k p)(hl:p.length=4){n:Nat}(hn:n<10):Bd (k+k) (Uk p n):=by
 have key:∀i,i<4→Bd k (p.getD i 0):=fun i hi=>by
  rw[ie,am (by omega:i<p.length)];exact h _ (fh _)
 exact (key _ (ahz hn)).mul (key _ (ahA hn))
theorem acg{k m:Nat}{q p:List Int}(hq:Fc k q)(hl:q.length=10)(hp:Fc m p)(hpl:p.length=4):∀n,n≤10→Bd (k+m+m+n) (atS q p n)
 | 0,_=>Mm _
 | n+1,hn=>by
  have h1:=acg hq hl hp hpl n (by omega);have h2:=(hq.at (Xd hl (by omega:n<10))).mul (acf hp hpl (by omega:n<10));exact (h1.add (h2.mono (by omega:k+(m+m)≤k+m+m+n))).mono (by omega)
theorem bd4{p:P3}(h:I3 p):Fc 64 [p.x,p.y,p.z,1]:=fun x hx=>by
 simp only[ao,bz,or_false] at hx;rcases hx with rfl | rfl | rfl | rfl
 · exact h.x.bd
 · exact h.y.bd
 · exact h.z.bd
 · unfold Bd;decide
theorem aD:(∀P R w0 ds q s l is,V P R w0 ds none 0 [] q s l is=(q∧∀w,Mem w0 w is→Ct P R s .normal (Fz l ds) w))
 ∧ (∀P R w0 ds b w1 q s l is,V P R w0 ds (some (b,w1)) 0 [] q s l is=(q∧∀w,Mem w0 w is→kr b w1 w→Ct P R s .normal (Fz l ds) w))
 ∧ (∀P R w0 ds k sc q l is,V P R w0 ds none 0 (k::sc) q [] l is=(q∧∀w,Mem w0 w is→R .normal (Fz l ds) w))
 ∧ (∀P R w0 ds b w1 k sc q l is,V P R w0 ds (some (b,w1)) 0 (k::sc) q [] l is=(q∧∀w,Mem w0 w is→kr b w1 w→R .normal (Fz l ds) w))
 ∧ (∀P R w0 ds k sc q c s l is,V P R w0 ds none 0 (k::sc) q (.c c::s) l is=(q∧∀w,Mem w0 w is→c.wp P (Ct P R s) (Fz l ds) w))
 ∧ (∀P R w0 ds b w1 k sc q c s l is,V P R w0 ds (some (b,w1)) 0 (k::sc) q (.c c::s) l is=(q∧∀w,Mem w0 w is→kr b w1 w→c.wp P (Ct P R s) (Fz l ds) w))
 ∧ (∀P R w0 ds k sc q ops rest s l is,V P R w0 ds none 0 (k::sc) q (.o ops rest::s) l is=(q∧∀w,Mem w0 w is→au P ops (Ct P R s) rest (Fz l ds) w))
 ∧ (∀P R w0 ds b w1 k sc q ops rest s l is,V P R w0 ds (some (b,w1)) 0 (k::sc) q (.o ops rest::s) l is=(q∧∀w,Mem w0 w is→kr b w1 w→au P ops (Ct P R s) rest (Fz l ds) w))
 ∧ (∀P R w0 ds k sc q K s l is,V P R w0 ds none 0 (k::sc) q (.k K::s) l is=(q∧∀w,Mem w0 w is→K (Fz l ds) w))
 ∧ (∀P R w0 ds b w1 k sc q K s l is,V P R w0 ds (some (b,w1)) 0 (k::sc) q (.k K::s) l is=(q∧∀w,Mem w0 w is→kr b w1 w→K (Fz l ds) w))
 ∧ (∀P R w0 ds os n sc q i s l is,V P R w0 ds os (n+1) sc q (.b i::s) l is=V P R w0 ds os n sc q s l is)
 ∧ (∀P R w0 ds os n sc q ops s l is,V P R w0 ds os (n+1) sc q (.o ops []::s) l is=V P R w0 ds os n sc q s l is)
 ∧ (∀P R w0 ds os n sc q ops d op ty pos af g rest s l is,V P R w0 ds os (n+1) sc q (.o ops (⟨some d,op,ty,pos,af,g⟩::rest)::s) l is=Og ops l g (Dt P l is [] (kpb os) op sc fun vc v sc is=>V P R w0 ds os n sc (vc∧q) (.o ops rest::s) (l.set d v) is) (V P R w0 ds os n sc q (.o ops rest::s) (l.set d undef) is))
 ∧ (∀P R w0 ds os n sc q ops op ty pos af g rest s l is,V P R w0 ds os (n+1) sc q (.o ops (⟨none,op,ty,pos,af,g⟩::rest)::s) l is=Og ops l g (stV P l is os.isSome op sc fun vc _ sc is=>V P R w0 ds os n sc (vc∧q) (.o ops rest::s) l is) (V P R w0 ds os n sc q (.o ops rest::s) l is))
 ∧ (∀P R w0 ds os n sc q a b s l is,V P R w0 ds os (n+1) sc q (.c (.seq a b)::s) l is=V P R w0 ds os n sc q (.c a :: .c b::s) l is)
 ∧ (∀P R w0 ds os n sc q s l is,V P R w0 ds os (n+1) sc q (.c .skip::s) l is=V P R w0 ds os n sc q s l is)
 ∧ (∀P R w0 ds os n sc q i c s l is,V P R w0 ds os (n+1) sc q (.c (.block i c)::s) l is=V P R w0 ds os n sc q (.c c :: .b i::s) l is)
 ∧ (∀P R w0 ds os n sc q i s l is,V P R w0 ds os (n+1) sc q (.c (.exit i)::s) l is=Rs i s fun s=>V P R w0 ds os n sc q s l is)
 ∧ (∀P R w0 ds n sc q s l is,V P R w0 ds none (n+1) sc q (.c .ret::s) l is=(q∧∀w,Mem w0 w is→R .ret (Fz l ds) w))∧(∀P R w0 ds b w1 n sc q s l is,V P R w0 ds (some (b,w1)) (n+1) sc q (.c .ret::s) l is=(q∧∀w,Mem w0 w is→kr b w1 w→R .ret (Fz l ds) w))
 ∧ (∀P R w0 ds os n sc q x a b s l is,V P R w0 ds os (n+1) sc q (.c (.cond x a b)::s) l is=vvB (ev l x) fun t=>vbX t (V P R w0 ds os n sc q (.c a::s) l is) (V P R w0 ds os n sc q (.c b::s) l is))
 ∧ (∀P R w0 ds os n sc q i ops s l is,V P R w0 ds os (n+1) sc q (.c (.region i (je ops) false)::s) l is=V P R w0 ds os n sc q (.o ops.toArray ops::s) l is)
 ∧ (∀ops l p q,Og ops l none p q=p)∧(∀ops l j b p q,Og (je ops) l (some (j,b)) p q=vvG (vyv ops l j) b p q)
 ∧ (∀o ops l j,vyv (o::ops) l (j+1)=vyv ops l j)∧(∀d op ty pos af g ops l,vyv (⟨some d,op,ty,pos,af,g⟩::ops) l 0=l.getD d undef)
 ∧ (∀p q,vvG (.bool true) true p q=p)∧(∀p q,vvG (.bool false) true p q=q)∧(∀p q,vvG (.bool true) false p q=q)∧(∀p q,vvG (.bool false) false p q=p)∧(∀b p q,vvG undef b p q=q)
 ∧ (∀i s f,Rs i (.b i::s) f=f s)∧(∀i j s f,Rs i (.b j::s) f=vnE i j (f s) (Rs i s f))∧(∀i c s f,Rs i (.c c::s) f=Rs i s f)∧(∀i ops rest s f,Rs i (.o ops rest::s) f=Rs i s f)∧(∀i K s f,Rs i (.k K::s) f=Rs i s f)∧(∀i c n s f,Rs i (.r c n::s) f=Rs i s f)
 ∧ (∀P R w0 ds os n sc q c k s l is,V P R w0 ds os (n+1) (k::sc) q (.c (.loop c)::s) l is=V P R w0 ds os n sc q (.r c k::s) l is)∧(∀P R w0 ds os n sc q c k s l is,V P R w0 ds os (n+1) sc q (.r c (k+1)::s) l is=V P R w0 ds os n sc q (.c c :: .r c k::s) l is)
 ∧ (∀p q,vnE 0 0 p q=p)∧(∀n m p q,vnE (n+1) (m+1) p q=vnE n m p q)∧(∀n p q,vnE (n+1) 0 p q=q)∧(∀n p q,vnE 0 (n+1) p q=q)
 ∧ (∀k m f,qT (.int k m) f=f k m)∧(∀b f,vvB (.bool b) f=f b)∧(∀a f,vvP (.pointer (some a)) f=f a)∧(∀a n c f,vvS (.slice a n c) f=f a n c)∧(∀cs f,vvA (.agg (je cs)) f=f cs)∧(∀cs f,vvT (.tuple (je cs)) f=f cs)
 ∧ (∀p q,vbX true p q=p)∧(∀p q,vbX false p q=q)∧(∀n p,vnX (n+1) p=p)
 ∧ (∀x l f,Jh (x::l) 0 f=f x)∧(∀x l n f,Jh (x::l) (n+1) f=Jh l n f)
 ∧ (∀P l is os pr x sc K,Dt P l is os pr (.move x) sc K=K True (ev l x) sc is)
 ∧ (∀P l is os pr x sc K,Dt P l is os pr (.assign x) sc K=K True (ev l x) sc is)
 ∧ (∀P l is os pr x sc K,Dt P l is os pr (.nilCheck x) sc K=vvP (ev l x) fun a=>K True (.pointer (some a)) sc is)
 ∧ (∀P l is os pr c x y sc K,Dt P l is os pr (.pick c x y) sc K=vvB (ev l c) fun b=>vbX b (K True (ev l x) sc is) (K True (ev l y) sc is))
 ∧ (∀P l is os pr b T x y T' sc K,Dt P l is os pr (.binOp b T x y T') sc K=biV b (ev l x) (ev l y) sc is K)
 ∧ (∀P l is os pr T x sc K,Dt P l is os pr (.unOp .not T x) sc K=vvB (ev l x) fun b=>K True (.bool (!b)) sc is)
 ∧ (∀P l is os pr T x sc K,Dt P l is os pr (.unOp .neg T x) sc K=qT (ev l x) fun k m=>K (Zu k (0-m)) (.int k (0-m)) sc is)
 ∧ (∀P l is os pr T T' x sc K,Dt P l is os pr (.convert T T' x) sc K=yX (ikP P T) fun _=>yX (ikP P T') fun k=>qT (ev l x) fun _ m=>K (Zu k m) (.int k m) sc is)
 ∧ (∀P l is os pr x i sc K,Dt P l is os pr (.extract x i) sc K=vvT (ev l x) fun cs=>Jh cs i fun v=>K True v sc is)
 ∧ (∀P l is os pr b xs ts sc K,Dt P l is os pr (.call ⟨.builtin b,je xs,je ts⟩) sc K=caV P l is b xs ts sc K)
 ∧ (∀P l is x T sc K,caV P l is .len [x] [T] sc K=yX (Gn P T) fun _=>vvS (ev l x) fun _ n _=>K True (.int .i64 n) sc is)
 ∧ (∀P l is x y ts sc K,caV P l is .min [x,y] ts sc K=qT (ev l x) fun k m=>qT (ev l y) fun k' n=>K (k'=k) (.int k (if n<m then n else m)) sc is)
 ∧ (∀P l is x y ts sc K,caV P l is .max [x,y] ts sc K=qT (ev l x) fun k m=>qT (ev l y) fun k' n=>K (k'=k) (.int k (if m<n then n else m)) sc is)
 ∧ (∀x y sc is K,biV .add x y sc is K=qT x fun k m=>qT y fun k' n=>K (k'=k∧Zu k (m+n)) (.int k (m+n)) sc is)
 ∧ (∀x y sc is K,biV .sub x y sc is K=qT x fun k m=>qT y fun k' n=>K (k'=k∧Zu k (m-n)) (.int k (m-n)) sc is)
 ∧ (∀x y sc is K,biV .mul x y sc is K=qT x fun k m=>qT y fun k' n=>K (k'=k∧Zu k (m*n)) (.int k (m*n)) sc is)
 ∧ (∀x y sc is K,biV .lss x y sc is K=qT x fun k m=>qT y fun k' n=>cV sc (m<n) (fun p=>K (k'=k∧p)) is)
 ∧ (∀x y sc is K,biV .leq x y sc is K=qT x fun k m=>qT y fun k' n=>cV sc (m≤n) (fun p=>K (k'=k∧p)) is)
 ∧ (∀x y sc is K,biV .gtr x y sc is K=qT x fun k m=>qT y fun k' n=>cV sc (n<m) (fun p=>K (k'=k∧p)) is)
 ∧ (∀x y sc is K,biV .geq x y sc is K=qT x fun k m=>qT y fun k' n=>cV sc (n≤m) (fun p=>K (k'=k∧p)) is)
 ∧ (∀x y sc is K,biV .eql x y sc is K=qT x fun k m=>qT y fun k' n=>cV sc (m=n) (fun p=>K (k'=k∧p)) is)
 ∧ (∀x y sc is K,biV .neq x y sc is K=qT x fun k m=>qT y fun k' n=>cV sc (m≠n) (fun p=>K (k'=k∧p)) is)
 ∧ (∀sc p K is [Decidable p],cV (0::sc) p K is=K True (.bool (decide p)) sc is)∧(∀sc p K is [Decidable p],cV (1::sc) p K is=K p (.bool true) sc is)∧(∀sc p K is [Decidable p],cV (2::sc) p K is=K (¬p) (.bool false) sc is)
 ∧ (∀n,Zu .i64 n=(-9223372036854775808≤n∧n<9223372036854775808))∧(∀n,Zu .i32 n=(-2147483648≤n∧n<2147483648))∧(∀n,Zu .u64 n=(0≤n∧n<18446744073709551616))∧(∀n,Zu .u32 n=(0≤n∧n<4294967296))∧(∀n,Zu .u8 n=(0≤n∧n<256))
 ∧ (∀{α:Type} (hd:α→Option Oper) P is os ops K q rest l,VQ hd P is os ops K 0 [] q rest l=(q∧K rest l))∧(∀P is os ops K n sc q d op ty pos af g rest l,VQ some P is os ops K (n+1) sc q (⟨some d,op,ty,pos,af,g⟩::rest) l=Og ops l g (Dt P l is os true op sc fun vc v sc _=>VQ some P is os ops K n sc (vc∧q) rest (l.set d v)) (VQ some P is os ops K n sc q rest (l.set d undef)))
 ∧ (∀P is os ops K n sc q d op ty pos af g rest l,VQ hdH P is os ops K (n+1) sc q ((⟨some d,op,ty,pos,af,g⟩,true)::rest) l=Og ops l g (Dt P l is os true op sc fun vc v sc _=>VQ hdH P is os ops K n sc (vc∧q) rest (l.set d v)) (VQ hdH P is os ops K n sc q rest (l.set d undef)))
 ∧ (∀(w:Bool × aj),(some w).isSome=true)∧((none:Kw).isSome=false)∧(∀b w,kpb (some (b,w))=b)∧(kpb none=false)
 ∧ (∀{α:Type} (x:α) f,yX (some x) f=f x)∧(∀l ds,Fz l ds=Fr l ds)
 ∧ (∀p:Prop,(True∧p)=p)∧(∀p:Prop,(p∧True)=p)
 ∧ (∀(l:List Go.Value) (t:Nat),ev l (.tmp t)=l.getD t undef)∧(∀(l:List Go.Value) (v:Go.Value),ev l (.const v)=v)∧(∀(l:List Go.Value) (f:Nat),ev l (.func f)=.func (.func f) #[] #[])∧(∀{α:Type} (x:α) (xs:List α) (n:Nat) (d:α),(x::xs).getD (n+1) d=xs.getD n d)∧(∀{α:Type} (x:α) (xs:List α) (d:α),(x::xs).getD 0 d=x)∧(∀{α:Type} (x:α) (xs:List α) (n:Nat) (a:α),(x::xs).set (n+1) a=x::xs.set n a)∧(∀{α:Type} (x:α) (xs:List α) (a:α),(x::xs).set 0 a=a::xs)
 ∧ (∀P l is os pr T x i sc K,Dt P l is os pr (.fieldAddr T x i) sc K=yX (pK P T i) fun f=>vvP (ev l x) fun a=>vnX f.2.2 (K True (.pointer (some (a.add f.1))) sc is))
 ∧ (∀P l is os pr T x i sc K,Dt P l is os pr (.field T x i) sc K=yX (pK P T i) fun f=>vvA (ev l x) fun cs=>vbX f.2.1 (K True (.agg ((cs.drop f.1).take f.2.2).toArray) sc is) (Jh cs f.1 fun v=>K True v sc is))
 ∧ (∀P l is os pr T x k sc K,Dt P l is os pr (.load T x) (k::sc) K=yX (uQ P T) fun z=>vvP (ev l x) fun a=>atB is os k fun g=>vbX z.1 (K (a=⟨g.1,a.off,none⟩∧Es ((g.2.1.drop a.off).take z.2) z.2) (.agg ((g.2.1.drop a.off).take z.2).toArray) sc is) (Jh g.2.1 a.off fun v=>K (a=⟨g.1,a.off,none⟩) v sc is))
 ∧ (∀P l is os pr T ps sc K,Dt P l is os pr (.build T (je ps)) sc K=yX (yU P T) fun z=>blV l z.1 ps z.2 True fun q cs=>K q (.agg cs.toArray) sc is)
 ∧ (∀l pl cs q f,blV l pl [] cs q f=f q cs)∧(∀l pl i x ps cs q f,blV l pl ((i,x)::ps) cs q f=Wl pl i fun z=>vnX z.2 (blV l pl ps (cA cs z.1 (ev l x).cells.toList) (Es (ev l x).cells.toList z.2∧Es ((cs.drop z.1).take z.2) z.2∧q) f))
 ∧ (∀x l f,Wl (x::l) 0 f=f x)∧(∀x l n f,Wl (x::l) (n+1) f=Wl l n f)
 ∧ (∀P l is os T x sc K,Dt P l is os false (.box T x) sc K=∀g,K True (.pointer (some ⟨g,0,none⟩)) sc (bI g (ev l x).cells.toList T::is))
 ∧ (∀P l is os T sc K,Dt P l is os false (.alloc T) sc K=yX (Me P T) fun z=>∀g,K True (.pointer (some ⟨g,0,none⟩)) sc (bI g z T::is))
 ∧ (∀P l is T x y k sc K,stV P l is false (.store T x y) (k::sc) K=yX (uQ P T) fun z=>vnX z.2 (vvP (ev l x) fun a=>atM is k fun g=>K (a=⟨g.1,a.off,none⟩∧Es ((g.2.1.drop a.off).take z.2) z.2∧Es (ev l y).cells.toList z.2∧Wj (ev l y).cells.toList) undef sc (is.set k (bI g.1 (cA g.2.1 a.off (ev l y).cells.toList) g.2.2))))
 ∧ (∀P l is os pr T x y sc K,Dt P l is os pr (.indexAddr T x y) sc K=yX (ixP P T) fun z=>vvX z.1 (ev l x) fun a n=>qT (ev l y) fun _ m=>K (0≤m∧m<n) (.pointer (some (a.add (m.toNat*z.2)))) sc is)
 ∧ (∀n v f,vvX (some n) v f=vvP v fun a=>f a n)∧(∀v f,vvX none v f=vvS v fun A n _=>yX A fun a=>f a n)
 ∧ (∀bs i is,pJ (true::bs) (i::is)=i::pJ bs is)∧(∀bs i is,pJ (false::bs) (i::is)=pJ bs is)∧(∀is,pJ [] is=[])
 ∧ (∀i is os f,atB (i::is) os 0 f=yX i.bk f)∧(∀i is os k f,atB (i::is) os (k+1) f=atB is os k f)∧(∀os k f,atB [] os k f=atO os k f)∧(∀x os f,atO (x::os) 0 f=f x)∧(∀x os k f,atO (x::os) (k+1) f=atO os k f)
 ∧ (∀i is f,atM (i::is) 0 f=yX i.bk f)∧(∀i is k f,atM (i::is) (k+1) f=atM is k f)∧(∀g cs t,(bI g cs t).bk=some (g,cs,t))
 ∧ (∀x l n,Es (x::l) (n+1)=Es l n)∧(Es [] 0=True)∧(∀v l,Wj (v::l)=(v.oneCell'=true∧Wj l))∧(Wj []=True)
 ∧ (∀g n,(⟨g,0,none⟩:Addr).add n=⟨g,n,none⟩)∧(∀g o n,(⟨g,o,none⟩:Addr).add n=⟨g,o+n,none⟩)
 ∧ (∀cs o us,cA cs o us=cs.take o++us++cs.drop (o+us.length))
 ∧ (∀cs,(Value.agg (je cs)).cells.toList=cs)∧(∀k n,(Value.int k n).cells.toList=[.int k n])∧(∀b,(bw b).cells.toList=[.bool b])∧(∀b,(Value.string b).cells.toList=[.string b])∧(∀a,(Value.pointer a).cells.toList=[.pointer a])∧(∀a n c,(Value.slice a n c).cells.toList=[.slice a n c])∧(∀a,(Value.map a).cells.toList=[.map a])∧(∀a b c,(Value.func a b c).cells.toList=[.func a b c])
 ∧ (∀k n,(Value.int k n).oneCell'=true)∧(∀b,(bw b).oneCell'=true)∧(∀b,(Value.string b).oneCell'=true)∧(∀a,(Value.pointer a).oneCell'=true)∧(∀a n c,(Value.slice a n c).oneCell'=true)∧(∀a,(Value.map a).oneCell'=true)∧(∀a b c,(Value.func a b c).oneCell'=true)
 ∧ (∀{α:Type} (x:α) (xs:List α) (n:Nat),(x::xs).take (n+1)=x::xs.take n)∧(∀{α:Type} (xs:List α),xs.take 0=[])∧(∀{α:Type} (x:α) (xs:List α) (n:Nat),(x::xs).drop (n+1)=xs.drop n)∧(∀{α:Type} (xs:List α),xs.drop 0=xs)∧(∀{α:Type} (n:Nat),([]:List α).drop n=[])∧(∀{α:Type} (x:α) (xs ys:List α),(x::xs)++ys=x::(xs++ys))∧(∀{α:Type} (ys:List α),[]++ys=ys)∧(∀{α:Type} (ys:List α),ys++[]=ys)∧(∀{α:Type} (x:α) (xs:List α),(x::xs).length=xs.length+1)∧(∀{α:Type},([]:List α).length=0)
 ∧ (∀p:P3,(pt p).cells.toList=[.int .i64 p.x,.int .i64 p.y,.int .i64 p.z])∧(∀p f,vvA (pt p) f=f [.int .i64 p.x,.int .i64 p.y,.int .i64 p.z])
 ∧ (∀t:T3,(tr t).cells.toList=[.int .i64 t.a.x,.int .i64 t.a.y,.int .i64 t.a.z,.int .i64 t.b.x,.int .i64 t.b.y,.int .i64 t.b.z,.int .i64 t.c.x,.int .i64 t.c.y,.int .i64 t.c.z])∧(∀t f,vvA (tr t) f=f [.int .i64 t.a.x,.int .i64 t.a.y,.int .i64 t.a.z,.int .i64 t.b.x,.int .i64 t.b.y,.int .i64 t.b.z,.int .i64 t.c.x,.int .i64 t.c.y,.int .i64 t.c.z])
 ∧ (∀v:P3,(wv v).cells.toList=[.bool (fP v.x),.string (jX v.x),.bool (fP v.y),.string (jX v.y),.bool (fP v.z),.string (jX v.z)])∧(∀v f,vvA (wv v) f=f [.bool (fP v.x),.string (jX v.x),.bool (fP v.y),.string (jX v.y),.bool (fP v.z),.string (jX v.z)])
 ∧ (∀v:P3,(nv v).cells.toList=[.int .i64 v.x,.int .i64 v.y,.int .i64 v.z])∧(∀v f,vvA (nv v) f=f [.int .i64 v.x,.int .i64 v.y,.int .i64 v.z])
 ∧ (∀v:P3,(sg v).cells.toList=[.int .i64 (aY v.x),.int .i64 (aY v.y),.int .i64 (aY v.z)])∧(∀v f,vvA (sg v) f=f [.int .i64 (aY v.x),.int .i64 (aY v.y),.int .i64 (aY v.z)])
 ∧ (∀e:E3,(ed e).cells.toList=[.int .i64 e.1.x,.int .i64 e.1.y,.int .i64 e.1.z,.int .i64 e.2.x,.int .i64 e.2.y,.int .i64 e.2.z])∧(∀e f,vvA (ed e) f=f [.int .i64 e.1.x,.int .i64 e.1.y,.int .i64 e.1.z,.int .i64 e.2.x,.int .i64 e.2.y,.int .i64 e.2.z])
 ∧ (∀p,kN p=[.int .i64 p.x,.int .i64 p.y,.int .i64 p.z])∧(∀p,bN p=[.int .i64 p.x,.int .i64 p.y,.int .i64 p.z])∧(∀e,cT e=[.int .i64 e.1.x,.int .i64 e.1.y,.int .i64 e.1.z,.int .i64 e.2.x,.int .i64 e.2.y,.int .i64 e.2.z])∧(∀n,wC n=[.bool (fP n),.string (jX n)])
 ∧ (∀n,(W n).cells.toList=[.bool (fP n),.string (jX n)])∧(∀n f,vvA (W n) f=f [.bool (fP n),.string (jX n)])
 ∧ (∀q:Rat,(Q q).cells.toList=[.bool (fP q.num),.string (jX q.num),.bool (fP (q.den:Int)),.string (jX (q.den:Int))])∧(∀q f,vvA (Q q) f=f [.bool (fP q.num),.string (jX q.num),.bool (fP (q.den:Int)),.string (jX (q.den:Int))]):=by
 repeat' apply And.intro
 all_goals intros
 all_goals first | rfl | exact arO | exact true_and _ | exact and_true _ | exact kp0 | exact kp1 | exact List.drop_nil | exact fb _ | exact (gZ ..).trans (by rw[ar]) | exact gZ ..
def Dj:List Oper→Nat→(Oper→Prop)→Prop
 | o::_,0,f=>f o
 | _::r,n+1,f=>Dj r n f
 | [],_,_=>False
def Bh:List (List Nat)→Nat→(List Nat→Prop)→Prop
 | s::_,0,f=>f s
 | _::r,n+1,f=>Bh r n f
 | [],_,f=>f []
theorem vA:∀{ss:List (List Nat)} {i:Nat} {f:List Nat→Prop},Bh ss i f→∃s,f s
 | s::_,0,_,h=>⟨s,h⟩
 | _::r,n+1,_,h=>vA (ss:=r) h
 | [],_,_,h=>⟨[],h⟩
def Ul(op:Op)(bs:List Bool):List Bool:=match op with
 | .box _ _ | .alloc _=>false::bs
 | _=>bs
def Pv:List Bool→Nat→Prop→Prop
 | false::_,0,p=>p
 | _::bs,n+1,p=>Pv bs n p
 | _,_,_=>False
def tkV(P:bh)(ops:Array Oper)(l:List ah)(hs:List It)(o:Oper)(sc:List Nat)(q:Prop)(K:List Nat→Prop→List ah→Prop):Prop:=match o with
 | ⟨some d,op,_,_,_,g⟩=>Og ops l g (Dt P l hs [] true op sc fun vc v sc _=>K sc (vc∧q) (l.set d v)) (K sc q (l.set d undef))
 | _=>False
def onV(P:bh)(ops:Array Oper)(l:List ah)(is:List It)(bs:List Bool)(o:Oper)(sc:List Nat)(q:Prop)(K:List Nat→Prop→List ah→List It→List Bool→Prop):Prop:=match o with
 | ⟨some d,op,_,_,_,g⟩=>Og ops l g (Dt P l is [] false op sc fun vc v sc is'=>K sc (vc∧q) (l.set d v) is' (Ul op bs)) (K sc q (l.set d undef) is bs)
 | ⟨none,op,_,_,_,g⟩=>Og ops l g (Pv bs (sc.headD 0) (stV P l is false op sc fun vc _ sc is'=>K sc (vc∧q) l is' bs)) (K sc q l is bs)
def VT(P:bh)(ops:Array Oper)(hs:List It)(ss:List (List Nat))(K:List ah→List It→Prop):pY→Prop→List ah→List It→List Bool→Prop
 | .nil,q,l,is,_=>q∧K l is
 | .take i t,q,l,is,bs=>Dj ops.toList i fun o=>Bh ss i fun sc=>tkV P ops l hs o sc q fun _ q l=>VT P ops hs ss K t q l is bs
 | .one i t,q,l,is,bs=>Dj ops.toList i fun o=>Bh ss i fun sc=>onV P ops l is bs o sc q fun _ q l is bs=>VT P ops hs ss K t q l is bs
 | .two i t j u,q,l,is,bs=>(Dj ops.toList i fun o=>Bh ss i fun sc=>onV P ops l is bs o sc q fun _ q l is bs=>VT P ops hs ss K t q l is bs)∧Dj ops.toList j fun o=>Bh ss j fun sc=>onV P ops l is bs o sc q fun _ q l is bs=>VT P ops hs ss K u q l is bs
 | .three i t j u k v,q,l,is,bs=>(Dj ops.toList i fun o=>Bh ss i fun sc=>onV P ops l is bs o sc q fun _ q l is bs=>VT P ops hs ss K t q l is bs)∧(Dj ops.toList j fun o=>Bh ss j fun sc=>onV P ops l is bs o sc q fun _ q l is bs=>VT P ops hs ss K u q l is bs)∧Dj ops.toList k fun o=>Bh ss k fun sc=>onV P ops l is bs o sc q fun _ q l is bs=>VT P ops hs ss K v q l is bs
theorem vB:∀{ops:List Oper} {i:Nat} {f:Oper→Prop},Dj ops i f→∃o,ops[i]? = some o∧f o
 | o::_,0,_,h=>⟨o,rfl,h⟩
 | _::r,n+1,_,h=>by rw[gi];exact vB (ops:=r) h
theorem Xe:∀{bs:List Bool} {k:Nat} {p:Prop},Pv bs k p→bs[k]? = some false∧p
 | false::_,0,_,h=>⟨rfl,h⟩
 | true::_,0,_,h=>h.elim
 | false::bs,n+1,_,h=>by rw[gi];exact Xe (bs:=bs) h
 | true::bs,n+1,_,h=>by rw[gi];exact Xe (bs:=bs) h
 | [],0,_,h=>h.elim
 | [],_+1,_,h=>h.elim
theorem Pw:∀{bs:List Bool} {is:List It} {k:Nat} {i:It},bs[k]? = some false→pJ bs (is.set k i)=pJ bs is
 | false::bs,_::is,0,_,_=>rfl
 | true::bs,_::is,0,_,h=>by cases h
 | true::bs,j::is,k+1,i,h=>by
  rw[ft];show j::pJ bs (is.set k i)=j::pJ bs is
  rw[Pw (by simpa using h)]
 | false::bs,j::is,k+1,i,h=>by
  rw[ft];show pJ bs (is.set k i)=pJ bs is
  exact Pw (by simpa using h)
 | _,[],k,i,_=>by rw[List.set_nil]
 | [],_::_,_,_,h=>by cases h
section
variable {P:bh} {w0:aj} {ds:List Deferred} {ops:Array Oper} {hs:List It} {K:List ah→List It→Prop} {Q:Exit→Act→aj→Prop}
theorem apd{n m:Nat}{p:Prop}(h:n=m+1)(hp:p):vnX n p:=by subst h;exact hp
theorem ape{l:List ah}{is:List It}{op:Op}{sc:List Nat}{K:KV}(h:stV P l is false op sc K):∃i',stV P l is false op sc (fun vc v sc' is'=>is'=is.set (sc.headD 0) i'∧K vc v sc' is'):=by
 unfold stV at h ⊢;split at h
 · rename_i T x y k sc
   obtain⟨z,hz,h⟩:=oE (show yX _ _ from h);obtain⟨n,hn,h⟩:=Wm h;obtain⟨a,hx,h⟩:=Ji h;obtain⟨i,g,hi,hb,h⟩:=abN h;refine⟨bI g.1 (cA g.2.1 a.off (ev l y).cells.toList) g.2.2,?_⟩;refine (show yX (uQ P T) _ from ?_);rw[hz];refine (show vnX z.2 _ from apd hn ?_);rw[hx];refine (show atM is k _ from ?_);have key:∀{is:List It} {k:Nat} {f:Ob→Prop},is[k]? = some i→f g→atM is k f:=by
    intro is
    induction is with
    | nil=>intro k f h;cases h
    | cons j is ih =>
     intro k f h hf;cases k with
     | zero=>cases h;show yX i.bk f;rw[hb];exact hf
     | succ k=>exact ih (by simpa using h) hf
   exact key hi ⟨rfl,h⟩
 · exact h.elim
theorem apf{l:List ah}{is:List It}{os:List Ob}{op:Op}{sc:List Nat}{K:KV}(h:Dt P l is os false op sc K):(∃cs T,(∀g,K True (.pointer (some ⟨g,0,none⟩)) sc (bI g cs T::is))∧Bx P l is w0 ds op cs T∧∀bs,Ul op bs=false::bs)∨(Dt P l is os true op sc K∧∀bs,Ul op bs=bs):=by
 cases op
 case box T x=>exact .inl ⟨_,_,h,fun d ty pos af ops Q rest w m hk=>af1 (by simp) fun u g e hg hB=>hk g u e (m.newB e hg hB),fun _=>rfl⟩
 case alloc T =>
  obtain⟨cs,hz,h⟩:=oE (show yX _ _ from h);obtain⟨z,h1,h2⟩:=Wk hz;exact .inl ⟨_,_,h,fun d ty pos af ops Q rest w m hk=>Bz h1 h2 fun u g e hg hB=>hk g u e (m.newB e hg hB),fun _=>rfl⟩
 case unOp u T x=>cases u <;> exact .inr ⟨h,fun _=>rfl⟩
 all_goals exact .inr ⟨h,fun _=>rfl⟩
theorem Jw{l:List ah}{is:List It}{bs:List Bool}{o:Oper}{i:Nat}{t:pY}{sc:List Nat}{q:Prop}{G:List Nat→Prop→List ah→List It→List Bool→Prop}(hsel:pJ bs is=hs)(ho:ops.toList[i]? = some o)(h:onV P ops l is bs o sc q G)
 (ih:∀sc q l is bs,pJ bs is=hs→G sc q l is bs→q∧∀w,Mem w0 w is→cO P ops (fun u=>Mem w0 u hs) Q t (Fr l ds) w) :
 q∧∀w,Mem w0 w is→au P ops (Exit.then (fun a w=>Mem w0 w hs∧cO P ops (fun u=>Mem w0 u hs) Q t a w) Q) [(ops[i]?).getD default] (Fr l ds) w:=by
 have ho':(ops[i]?).getD default=o:=by
  rw[←ff,ho];rfl
 rw[ho'];have stay:∀{bs':List Bool} {is':List It} {w:aj},pJ bs' is'=hs→Mem w0 w is'→Mem w0 w hs:=fun e m=>e▸m.sel _;obtain⟨d,op,ty,pos,af,g⟩:=o;cases d with
 | some d =>
  rcases Jj (show Og _ _ _ _ _ from h) with ⟨h,hw⟩ | ⟨h,hw⟩
  · rcases apf (w0:=w0) (ds:=ds) h with ⟨cs,T,h,hb,hn⟩ | ⟨h,hn⟩
    · rw[hn] at h
      have e:∀g,pJ (false::bs) (bI g cs T::is)=hs:=fun _=>hsel;exact⟨(ih _ _ _ _ _ (e 0) (h 0)).1.2,fun w m=>oP (hw _ _ _ _ _) (hb d ty pos af ops _ [] w m fun g u _ mu=>aK ⟨stay (e g) mu,(ih _ _ _ _ _ (e g) (h g)).2 u mu⟩)⟩
    · rcases Wo (ds:=ds) Zv h with ⟨vc,v,sc',h,hy⟩ | ⟨e,_⟩
      · rw[hn] at h
        obtain⟨⟨hv,hq⟩,hk⟩:=ih _ _ _ _ _ hsel h;exact⟨hq,fun w m=>oP (hw _ _ _ _ _) (fF (hy hv w m ty) (aK ⟨stay hsel m,hk w m⟩))⟩
      · cases e
  · obtain⟨hq,hk⟩:=ih _ _ _ _ _ hsel h
    exact⟨hq,fun w m=>uR (hw _ _ _ _ _) (by rw[iB];exact aK ⟨stay hsel m,hk w m⟩)⟩
 | none =>
  rcases Jj (show Og _ _ _ _ _ from h) with ⟨h,hw⟩ | ⟨h,hw⟩
  · obtain⟨hb,h⟩:=Xe h
    obtain⟨i',h⟩:=ape h;obtain⟨_,vc,sc',is',⟨rfl,h⟩,hy⟩:=agV (w0:=w0) (ds:=ds) h;have e:=(Pw (i:=i') (is:=is) hb).trans hsel;obtain⟨⟨hv,hq⟩,hk⟩:=ih _ _ _ _ _ e h;exact⟨hq,fun w m=>oP (hw _ _ _ _ _) (hy hv ty pos af ops _ [] w m fun u mu=>aK ⟨stay e mu,hk u mu⟩)⟩
  · obtain⟨hq,hk⟩:=ih _ _ _ _ _ hsel h
    exact⟨hq,fun w m=>uR (hw _ _ _ _ _) (aK ⟨stay hsel m,hk w m⟩)⟩
theorem Hh{ss:List (List Nat)}(hK:∀l is,K l is→∀w,Mem w0 w is→Q .normal (Fr l ds) w):∀(t:pY) (q:Prop) (l:List ah) (is:List It) (bs:List Bool),pJ bs is=hs→VT P ops hs ss K t q l is bs→q∧∀w,Mem w0 w is→cO P ops (fun u=>Mem w0 u hs) Q t (Fr l ds) w
 | .nil,q,l,is,bs,_,h=>⟨h.1,fun w m=>hK _ _ h.2 w m⟩
 | .take i t,q,l,is,bs,hsel,h=>by
  obtain⟨⟨d,op,ty,pos,af,g⟩,ho,h⟩:=vB h;obtain⟨sc,h⟩:=vA h;have ho':(ops[i]?).getD default=⟨d,op,ty,pos,af,g⟩:=by
   rw[←ff,ho];rfl
  cases d with
  | none=>exact h.elim
  | some d =>
   rcases Jj (show Og _ _ _ _ _ from h) with ⟨h,hw⟩ | ⟨h,hw⟩
   · rcases Wo (w0:=w0) (ds:=ds) Zv h with ⟨vc,v,sc',h,hy⟩ | ⟨e,_⟩
     · obtain⟨⟨hv,hq⟩,hk⟩:=Hh hK t _ _ _ _ hsel h
       refine⟨hq,fun w m=>iQ ho' ?_⟩;refine⟨v,.inl ⟨hw _ _ _ _ _,fun u mu=>hy hv u mu ty _ rfl rfl⟩,?_⟩;show cO P ops _ Q t ((Fr l ds).put (some d) v) w
       rw[iB];exact hk w m
     · cases e
   · obtain⟨hq,hk⟩:=Hh hK t _ _ _ _ hsel h
     refine⟨hq,fun w m=>iQ ho' ?_⟩;refine⟨undef,.inr ⟨hw _ _ _ _ _,rfl⟩,?_⟩;show cO P ops _ Q t ((Fr l ds).put (some d) undef) w
     rw[iB];exact hk w m
 | .one i t,q,l,is,bs,hsel,h=>by
  obtain⟨o,ho,h⟩:=vB h;obtain⟨sc,h⟩:=vA h;exact Jw hsel ho h fun sc q l is bs e h=>Hh hK t q l is bs e h
 | .two i t j u,q,l,is,bs,hsel,h=>by
  obtain⟨h1,h2⟩:=h;obtain⟨o,ho,h1⟩:=vB h1;obtain⟨_,h1⟩:=vA h1;obtain⟨o2,ho2,h2⟩:=vB h2;obtain⟨_,h2⟩:=vA h2;have r1:=Jw (Q:=Q) (t:=t) hsel ho h1 fun sc q l is bs e h=>Hh hK t q l is bs e h;have r2:=Jw (Q:=Q) (t:=u) hsel ho2 h2 fun sc q l is bs e h=>Hh hK u q l is bs e h;exact⟨r1.1,fun w m=>⟨r1.2 w m,r2.2 w m⟩⟩
 | .three i t j u k v,q,l,is,bs,hsel,h=>by
  obtain⟨h1,h2,h3⟩:=h;obtain⟨o,ho,h1⟩:=vB h1;obtain⟨_,h1⟩:=vA h1;obtain⟨o2,ho2,h2⟩:=vB h2;obtain⟨_,h2⟩:=vA h2;obtain⟨o3,ho3,h3⟩:=vB h3;obtain⟨_,h3⟩:=vA h3;have r1:=Jw (Q:=Q) (t:=t) hsel ho h1 fun sc q l is bs e h=>Hh hK t q l is bs e h;have r2:=Jw (Q:=Q) (t:=u) hsel ho2 h2 fun sc q l is bs e h=>Hh hK u q l is bs e h;have r3:=Jw (Q:=Q) (t:=v) hsel ho3 h3 fun sc q l is bs e h=>Hh hK v q l is bs e h;exact⟨r1.1,fun w m=>⟨r1.2 w m,r2.2 w m,r3.2 w m⟩⟩
end
theorem zvt{P:bh}{w0 w:aj}{ds:List Deferred}{s:List Ko}{R:Exit→Act→aj→Prop}{is:List It}{id:Nat}{l0:List ah}{l:List Oper}(bs:List Bool)(ss:List (List Nat))(t:pY)(m:Mem w0 w is)(hm:P.follows .mixedOrders=true)(hB:(Region.noSelect l.toArray&&t.ok .any l.toArray l.toArray.size (Array.replicate l.toArray.size false))=true)
 (hQ:∀c d v a w,Ct P R s (.panic c) (Act.put a d v) w→Ct P R s (.panic c) a w)
 (h:VT P l.toArray (pJ bs is) ss (fun l is=>∀w,Mem w0 w is→Ct P R s .normal (Fz l ds) w) t True l0 is bs):(Code.region id l.toArray true).wp P (Ct P R s) (Fr l0 ds) w :=
 Zt m bs t hm hB hQ fun _ mu=>(Hh (fun _ _ h=>h) t True l0 is bs rfl h).2 _ mu
theorem eV{ops i i' f}(h:i=i'):Dj ops i f=Dj ops i' f:=by rw[h]
theorem eW{ss i i' f}(h:i=i'):Bh ss i f=Bh ss i' f:=by rw[h]
theorem eX{bs bs' k p}(h:bs=bs'):Pv bs k p=Pv bs' k p:=by rw[h]
theorem gW{P ops l l' hs o sc q K}(h:l=l'):tkV P ops l hs o sc q K=tkV P ops l' hs o sc q K:=by rw[h]
theorem gX{P ops l l' is bs o sc q K}(h:l=l'):onV P ops l is bs o sc q K=onV P ops l' is bs o sc q K:=by rw[h]
theorem kL{P ops hs ss K t q l l' is bs}(h:l=l'):VT P ops hs ss K t q l is bs=VT P ops hs ss K t q l' is bs:=by rw[h]
theorem apg{b:Bool}{bs:List Bool}{n:Nat}{p:Prop}:Pv (b::bs) (n+1) p=Pv bs n p:=by cases b <;> rfl
theorem zzu:(∀o r f,Dj (o::r) 0 f=f o)∧(∀o r n f,Dj (o::r) (n+1) f=Dj r n f)
 ∧ (∀s r f,Bh (s::r) 0 f=f s)∧(∀s r n f,Bh (s::r) (n+1) f=Bh r n f)∧(∀n f,Bh [] n f=f [])
 ∧ (∀T x bs,Ul (.box T x) bs=false::bs)∧(∀T bs,Ul (.alloc T) bs=false::bs)∧(∀x bs,Ul (.move x) bs=bs)∧(∀x bs,Ul (.assign x) bs=bs)∧(∀x bs,Ul (.nilCheck x) bs=bs)∧(∀a b c bs,Ul (.pick a b c) bs=bs)∧(∀a b c d e bs,Ul (.binOp a b c d e) bs=bs)∧(∀a b c bs,Ul (.unOp a b c) bs=bs)∧(∀a b c bs,Ul (.convert a b c) bs=bs)∧(∀a b c bs,Ul (.fieldAddr a b c) bs=bs)∧(∀a b c bs,Ul (.field a b c) bs=bs)∧(∀a b c bs,Ul (.indexAddr a b c) bs=bs)∧(∀a b bs,Ul (.build a b) bs=bs)∧(∀a b bs,Ul (.extract a b) bs=bs)∧(∀a b bs,Ul (.load a b) bs=bs)∧(∀a bs,Ul (.call a) bs=bs)
 ∧ (∀bs p,Pv (false::bs) 0 p=p)∧(∀b bs n p,Pv (b::bs) (n+1) p=Pv bs n p)∧(∀(k:Nat) sc,List.headD (k::sc) 0=k)
 ∧ (∀P ops l hs d op ty pos af g sc q K,tkV P ops l hs ⟨some d,op,ty,pos,af,g⟩ sc q K=Og ops l g (Dt P l hs [] true op sc fun vc v sc _=>K sc (vc∧q) (l.set d v)) (K sc q (l.set d undef)))
 ∧ (∀P ops l is bs d op ty pos af g sc q K,onV P ops l is bs ⟨some d,op,ty,pos,af,g⟩ sc q K=Og ops l g (Dt P l is [] false op sc fun vc v sc is'=>K sc (vc∧q) (l.set d v) is' (Ul op bs)) (K sc q (l.set d undef) is bs))
 ∧ (∀P ops l is bs op ty pos af g k sc q K,onV P ops l is bs ⟨none,op,ty,pos,af,g⟩ (k::sc) q K=Og ops l g (Pv bs k (stV P l is false op (k::sc) fun vc _ sc is'=>K sc (vc∧q) l is' bs)) (K (k::sc) q l is bs))
 ∧ (∀P ops hs ss K q l is bs,VT P ops hs ss K .nil q l is bs=(q∧K l is))
 ∧ (∀P ol hs ss K i t q l is bs,VT P (je ol) hs ss K (.take i t) q l is bs=Dj ol i fun o=>Bh ss i fun sc=>tkV P ol.toArray l hs o sc q fun _ q l=>VT P ol.toArray hs ss K t q l is bs)
 ∧ (∀P ol hs ss K i t q l is bs,VT P (je ol) hs ss K (.one i t) q l is bs=Dj ol i fun o=>Bh ss i fun sc=>onV P ol.toArray l is bs o sc q fun _ q l is bs=>VT P ol.toArray hs ss K t q l is bs)
 ∧ (∀P ol hs ss K i t j u q l is bs,VT P (je ol) hs ss K (.two i t j u) q l is bs=(VT P ol.toArray hs ss K (.one i t) q l is bs∧VT P ol.toArray hs ss K (.one j u) q l is bs))
 ∧ (∀P ol hs ss K i t j u k v q l is bs,VT P (je ol) hs ss K (.three i t j u k v) q l is bs=(VT P ol.toArray hs ss K (.one i t) q l is bs∧VT P ol.toArray hs ss K (.one j u) q l is bs∧VT P ol.toArray hs ss K (.one k v) q l is bs))
 ∧ (∀p:Prop,(p∧p)=p)∧(∀p q r:Prop,((p∧r)∧(q∧r))=((p∧q)∧r)):=by
 repeat' apply And.intro
 all_goals intros
 all_goals first | rfl | exact apg | exact and_self _ | exact propext ⟨fun h=>⟨⟨h.1.1,h.2.1⟩,h.1.2⟩,fun h=>⟨⟨h.1.1,h.2⟩,h.1.2,h.2⟩⟩
end Go.Lith
namespace Go.Proofs.YtfekpcimgncioaaGreatDoor
open Go.Proofs.Tryz
open Go.RowKit Go.Lith
abbrev eA:=@underlying22
abbrev aav:=@underlying5
set_option maxRecDepth 100000
theorem dU:uQ prog 3=some (false,1):=by kernel_rfl
theorem ate:Me prog 3=some [.int .i64 0]:=by kernel_rfl
theorem Sh:ikP prog 3=some .i64:=by kernel_rfl
theorem Hi:uQ prog 4=some (false,1):=by kernel_rfl
theorem yV:ikP prog 5=some .u8:=by kernel_rfl
theorem ach:uQ prog 9=some (false,1):=by kernel_rfl
theorem lQ:Gn prog 22=some 3:=by kernel_rfl
theorem Um:uQ prog 26=some (false,1):=by kernel_rfl
theorem iU:Gn prog 27=some 39:=by kernel_rfl
theorem aO:uQ prog 30=some (true,3):=by kernel_rfl
theorem eY:Me prog 30=some [.int .i64 0,.int .i64 0,.int .i64 0]:=by kernel_rfl
theorem jW:pK prog 30 0=some (0,false,1):=by kernel_rfl
theorem kM:pK prog 30 1=some (1,false,1):=by kernel_rfl
theorem lM:pK prog 30 2=some (2,false,1):=by kernel_rfl
theorem Bi:yU prog 30=some ([(0,1),(1,1),(2,1)],[.int .i64 0,.int .i64 0,.int .i64 0]):=by kernel_rfl
theorem ar4:Gn prog 35=some 41:=by kernel_rfl
theorem Hj:uQ prog 36=some (true,3):=by kernel_rfl
theorem Un:Me prog 36=some [.int .i64 0,.int .i64 0,.int .i64 0]:=by kernel_rfl
theorem fU:ixP prog 36=some (some 3,1):=by kernel_rfl
theorem uD:yU prog 36=some ([(0,1),(1,1),(2,1)],[.int .i64 0,.int .i64 0,.int .i64 0]):=by kernel_rfl
theorem alX:ixP prog 37=some (some 2,3):=by kernel_rfl
theorem alY:uQ prog 38=some (true,9):=by kernel_rfl
theorem ar5:Me prog 38=some [.int .i64 0,.int .i64 0,.int .i64 0,.int .i64 0,.int .i64 0,.int .i64 0,.int .i64 0,.int .i64 0,.int .i64 0]:=by kernel_rfl
theorem dQ:uQ prog 39=some (true,9):=by kernel_rfl
theorem kX:Me prog 39=some [.int .i64 0,.int .i64 0,.int .i64 0,.int .i64 0,.int .i64 0,.int .i64 0,.int .i64 0,.int .i64 0,.int .i64 0]:=by kernel_rfl
theorem bM:ixP prog 39=some (some 3,3):=by kernel_rfl
theorem rL:yU prog 39=some ([(0,3),(3,3),(6,3)],[.int .i64 0,.int .i64 0,.int .i64 0,.int .i64 0,.int .i64 0,.int .i64 0,.int .i64 0,.int .i64 0,.int .i64 0]):=by kernel_rfl
theorem ahD:ixP prog 41=some (some 9,1):=by kernel_rfl
theorem alZ:Gn prog 46=some 55:=by kernel_rfl
theorem Uo:Gn prog 52=some 56:=by kernel_rfl
theorem ar6:yU prog 55=some ([(0,3),(3,3)],[.int .i64 0,.int .i64 0,.int .i64 0,.int .i64 0,.int .i64 0,.int .i64 0]):=by kernel_rfl
theorem Dy:uQ prog 56=some (true,6):=by kernel_rfl
theorem Up:Me prog 56=some [.int .i64 0,.int .i64 0,.int .i64 0,.int .i64 0,.int .i64 0,.int .i64 0]:=by kernel_rfl
theorem Px:ixP prog 56=some (some 2,3):=by kernel_rfl
theorem Dz:yU prog 56=some ([(0,3),(3,3)],[.int .i64 0,.int .i64 0,.int .i64 0,.int .i64 0,.int .i64 0,.int .i64 0]):=by kernel_rfl
theorem mQ:Gn prog 65=some 30:=by kernel_rfl
theorem al0:ixP prog 65=some (none,3):=by kernel_rfl
theorem adM:uQ prog 88=some (false,1):=by kernel_rfl
theorem ar7:Me prog 88=some [.pointer none]:=by kernel_rfl
theorem adN:uQ prog 93=some (false,1):=by kernel_rfl
theorem ar8:Me prog 93=some [.map none]:=by kernel_rfl
theorem fC:uQ prog 95=some (true,2):=by kernel_rfl
theorem mR:Me prog 95=some [.bool false,.string ⟨#[]⟩]:=by kernel_rfl
theorem mE:pK prog 95 0=some (0,false,1):=by kernel_rfl
theorem xR:pK prog 95 1=some (1,false,1):=by kernel_rfl
theorem al3:yU prog 95=some ([(0,1),(1,1)],[.bool false,.string ⟨#[]⟩]):=by kernel_rfl
theorem ahE:Me prog 97=some [.bool false,.string ⟨#[]⟩,.bool false,.string ⟨#[]⟩,.bool false,.string ⟨#[]⟩,.bool false,.string ⟨#[]⟩,.bool false,.string ⟨#[]⟩,.bool false,.string ⟨#[]⟩,.bool false,.string ⟨#[]⟩,.bool false,.string ⟨#[]⟩,.bool false,.string ⟨#[]⟩,.bool false,.string ⟨#[]⟩]:=by kernel_rfl
theorem Xf:uQ prog 100=some (false,1):=by kernel_rfl
theorem aph:Me prog 100=some [.map none]:=by kernel_rfl
theorem api:Gn prog 105=some 112:=by kernel_rfl
theorem apj:uQ prog 106=some (false,1):=by kernel_rfl
theorem apk:uQ prog 107=some (false,1):=by kernel_rfl
theorem ahF:pK prog 109 0=some (0,false,1):=by kernel_rfl
theorem Py:pK prog 109 1=some (1,false,1):=by kernel_rfl
theorem Pz:pK prog 109 2=some (2,false,1):=by kernel_rfl
theorem apl:yU prog 109=some ([(0,1),(1,1),(2,1)],[.slice none 0 0,.map none,.map none]):=by kernel_rfl
theorem aci:uQ prog 112=some (true,8):=by kernel_rfl
theorem acj:Me prog 112=some [.int .i64 0,.int .i64 0,.int .i64 0,.int .i64 0,.int .i64 0,.int .i64 0,.bool false,.string ⟨#[]⟩]:=by kernel_rfl
theorem Bj:pK prog 112 0=some (0,true,3):=by kernel_rfl
theorem uE:pK prog 112 1=some (3,true,3):=by kernel_rfl
theorem apm:Gn prog 157=some 26:=by kernel_rfl
theorem Jy:ixP prog 157=some (none,1):=by kernel_rfl
theorem apn:Gn prog 212=some 215:=by kernel_rfl
theorem uF:uQ prog 215=some (true,6):=by kernel_rfl
theorem Bk:Me prog 215=some [.int .i64 0,.int .i64 0,.int .i64 0,.int .i64 0,.int .i64 0,.int .i64 0]:=by kernel_rfl
theorem Qd:pK prog 215 0=some (0,true,3):=by kernel_rfl
theorem Bl:pK prog 215 1=some (3,true,3):=by kernel_rfl
theorem Jz:yU prog 215=some ([(0,3),(3,3)],[.int .i64 0,.int .i64 0,.int .i64 0,.int .i64 0,.int .i64 0,.int .i64 0]):=by kernel_rfl
theorem ahG:pK prog 218 0=some (0,false,1):=by kernel_rfl
theorem Qe:pK prog 218 2=some (4,true,3):=by kernel_rfl
theorem Qf:pK prog 218 3=some (7,false,1):=by kernel_rfl
theorem ahH:pK prog 218 4=some (8,false,1):=by kernel_rfl
theorem Hk:pK prog 218 5=some (9,false,1):=by kernel_rfl
theorem Qg:pK prog 218 7=some (11,false,1):=by kernel_rfl
theorem ack:uQ prog 222=some (true,6):=by kernel_rfl
theorem acl:Me prog 222=some [.int .i64 0,.int .i64 0,.int .i64 0,.int .i64 0,.int .i64 0,.int .i64 0]:=by kernel_rfl
theorem jR:pK prog 222 0=some (0,true,3):=by kernel_rfl
theorem jS:pK prog 222 1=some (3,true,3):=by kernel_rfl
theorem apo:yU prog 222=some ([(0,3),(3,3)],[.int .i64 0,.int .i64 0,.int .i64 0,.int .i64 0,.int .i64 0,.int .i64 0]):=by kernel_rfl
theorem ahI:uQ prog 229=some (true,8):=by kernel_rfl
theorem acm:Me prog 229=some [.bool false,.string ⟨#[]⟩,.bool false,.string ⟨#[]⟩,.bool false,.string ⟨#[]⟩,.bool false,.string ⟨#[]⟩]:=by kernel_rfl
theorem Ka:ixP prog 229=some (some 4,2):=by kernel_rfl
theorem ahJ:yU prog 229=some ([(0,2),(2,2),(4,2),(6,2)],[.bool false,.string ⟨#[]⟩,.bool false,.string ⟨#[]⟩,.bool false,.string ⟨#[]⟩,.bool false,.string ⟨#[]⟩]):=by kernel_rfl
theorem Bm:ikP prog 231=some .u64:=by kernel_rfl
theorem jT:Gn prog 233=some 231:=by kernel_rfl
theorem app:uQ prog 243=some (true,3):=by kernel_rfl
theorem apq:Me prog 243=some [.nilFunc,.nilFunc,.nilFunc]:=by kernel_rfl
theorem apr:yU prog 243=some ([(0,1),(1,1),(2,1)],[.nilFunc,.nilFunc,.nilFunc]):=by kernel_rfl
theorem ahK:pK prog 245 0=some (0,false,1):=by kernel_rfl
theorem ahL:pK prog 245 1=some (1,false,1):=by kernel_rfl
theorem ahM:pK prog 245 2=some (2,false,1):=by kernel_rfl
theorem ahN:uQ prog 257=some (true,6):=by kernel_rfl
theorem Qh:Me prog 257=some [.bool false,.string ⟨#[]⟩,.bool false,.string ⟨#[]⟩,.bool false,.string ⟨#[]⟩]:=by kernel_rfl
theorem uG:ixP prog 257=some (some 3,2):=by kernel_rfl
theorem aps:yU prog 257=some ([(0,2),(2,2),(4,2)],[.bool false,.string ⟨#[]⟩,.bool false,.string ⟨#[]⟩,.bool false,.string ⟨#[]⟩]):=by kernel_rfl
theorem ahO:uQ prog 273=some (true,6):=by kernel_rfl
theorem ahP:Me prog 273=some [.bool false,.string ⟨#[]⟩,.bool false,.string ⟨#[]⟩,.bool false,.string ⟨#[]⟩]:=by kernel_rfl
theorem oG:ixP prog 273=some (some 3,2):=by kernel_rfl
theorem apt:uQ prog 280=some (true,18):=by kernel_rfl
theorem apu:Me prog 280=some [.int .i64 0,.int .i64 0,.int .i64 0,.int .i64 0,.int .i64 0,.int .i64 0,.int .i64 0,.int .i64 0,.int .i64 0,.int .i64 0,.int .i64 0,.int .i64 0,.int .i64 0,.int .i64 0,.int .i64 0,.int .i64 0,.int .i64 0,.int .i64 0]:=by kernel_rfl
theorem apv:yU prog 280=some ([(0,6),(6,6),(12,6)],[.int .i64 0,.int .i64 0,.int .i64 0,.int .i64 0,.int .i64 0,.int .i64 0,.int .i64 0,.int .i64 0,.int .i64 0,.int .i64 0,.int .i64 0,.int .i64 0,.int .i64 0,.int .i64 0,.int .i64 0,.int .i64 0,.int .i64 0,.int .i64 0]):=by kernel_rfl
theorem ahQ:uQ prog 333=some (true,3):=by kernel_rfl
theorem ahR:Me prog 333=some [.int .i64 0,.int .i64 0,.int .i64 0]:=by kernel_rfl
theorem sB:ixP prog 333=some (some 3,1):=by kernel_rfl
theorem apw:yU prog 333=some ([(0,1),(1,1),(2,1)],[.int .i64 0,.int .i64 0,.int .i64 0]):=by kernel_rfl
end Go.Proofs.YtfekpcimgncioaaGreatDoor
namespace Go.Proofs.YtfekpcimgncioaaGreatDoor
open Go.Proofs.Tryz
open Go.RowKit Go.Lith
set_option maxRecDepth 100000
attribute [local irreducible] au cg fR bO cO Code.wp
attribute [local congr] pL fX fY fZ gA gB kI gC gD gE gF gG gH gI gJ gK gL gM eS eT gN gQ gS gT gU kK dC dD cR dB gR kJ eV eW eX gW gX kL
theorem lR{os:List Nat}{x:Nat}:os.map xD++[.int .i64 (x:Int)]=(os++[x]).map xD:=by simp[xD]
theorem Qi{w0 w:aj}{S:List (Option Nat)}{E:TypeId}{A:Option Addr}{n cap:Nat}{os:List Nat}(h:Ow w0 w S E 1 A n cap (os.map xD))(hn:n=os.length)(hd:eE 65536 os)(hl:n≤17592186044416):fS w w.heap.size A n cap os∧∀a,A=some a→w0.heap.size≤a.block:=by
 obtain⟨_,_,e,r⟩:=fS.of_owns (show af7 w w0.heap.size E 1 (.slice A n cap) n _ from h.own) hn hd hl;cases e;exact r
theorem Xg{A:Option Addr}{xs:List Nat}{b na cap:Nat}(w:aj)(hS:fS w b A na cap xs):dJ prog 296 [.slice A na cap] w (fun v _=>v=.slice A (trim xs).length cap):=by
 refine⟨aoj,?_⟩;have m:=Mem.refl w;obtain rfl:=hS.eq;have hl:=hS.len;have hle:=hS.le;have hcp:=hS.cap
 go_enter func296,ntmps296
 refine eC 6 [0] m ?_;simp only[↓aD];intro u m;refine cE [0] [3,4,5,6,7,8,9,10,11,12,13,14,15,16,17,18,19] (fun n vs wl=>∃(k:Nat),vs=[.slice A k cap]∧Mem w wl []∧(k≤xs.length)∧(trim (xs.take k)=trim xs)∧(n=k)) ?_ ?_
 ·
  apply Exists.intro;simp only[zQ,zR,zD,zE];exact⟨xs.length,rfl,m,av _,by rw[ew],rfl⟩
 ·
  intro n vs wr hI u K1 hK1;clear m;obtain⟨k,rfl,m,hk,ht,hn⟩:=hI;simp only[zu,zF,zG];refine aW 2 [] m ?_;simp only[↓aD];intro u m;by_cases hk0:0<k
  ·
   obtain⟨a,rfl,hcell,hlt⟩:=hS.get (show k-1<xs.length by omega);refine cP 9 [1,0] m ?_;simp only[↓aD,lQ];refine⟨by omega,?_⟩;intro u m;refine dN rfl (aC (aF eA aX rfl rfl (by omega) (by omega) (jQ (show _=k-1 by omega))) (dN rfl ?_));simp only[zz];refine aQ rfl (lies1 (m.ext.cell hcell) bE) ?_;simp only[zz];refine aS 3 [0,0] m ?_;simp only[↓aD];intro u m;refine bG rfl (fun hc1=>?_) (fun hc1=>?_)
   ·
    refine aW 7 [0] m ?_;simp only[↓aD,lQ];refine⟨by omega,?_⟩;intro u m;refine aC (oL eA aX rfl rfl (show _=k-1 by omega) (by omega) (by omega)) (aS 3 [0] m ?_);simp only[↓aD];intro u m;refine hK1 (k-1) _ _ ?_ ?_ ?_
    · omega
    · simp only[zz,zv]
    ·
     simp only[zQ,zR,zD,zE];exact⟨k-1,rfl,m,by omega,Tg hk0 (by omega) hc1 ht,rfl⟩
   ·
    refine aW 7 [] m ?_;simp only[↓aD];intro u m;refine aR rfl rfl ?_;try simp only[zD,zE]
    exact⟨_,rfl,m.ext,by rw[←Zg hk0 (by omega) hc1 ht]⟩
  ·
   obtain rfl:k=0:=by omega
   refine cP 22 [2] m ?_;simp only[↓aD,lQ];refine⟨by omega,?_⟩;intro u m;refine aR rfl rfl ?_;try simp only[zD,zE]
   exact⟨_,rfl,m.ext,by rw[←Zh ht]⟩
theorem ae4{A B:Option Addr}{xs ys:List Nat}{b b2 na nb ca cb:Nat}(w:aj)(hS:fS w b A na ca xs)(hR:fS w b2 B nb cb ys)(tx:iE xs)(ty:iE ys):dJ prog 283 [.slice A na ca,.slice B nb cb] w (fun v _=>v=.int .i64 (Zj (val 65536 xs) (val 65536 ys))):=by
 refine⟨aoe,?_⟩;have m:=Mem.refl w;obtain rfl:=hS.eq;obtain rfl:=hR.eq;have hl:=hS.len;have hl2:=hR.len
 go_enter func283,ntmps283
 refine eC 13 [0,0] m ?_;simp only[↓aD,lQ];intro u m;refine bG rfl (fun hc1=>?_) (fun hc1=>?_)
 ·
  refine aW 9 [0,0] m ?_;simp only[↓aD,lQ];intro u m;refine bG rfl (fun hc2=>?_) (fun hc2=>?_)
  ·
   refine aW 5 [] m ?_;simp only[↓aD];intro u m;refine aR rfl rfl ?_;try simp only[zD,zE]
   exact⟨_,rfl,m.ext,by rw[Zj,if_pos (mX (by omega) hS.digs hR.digs ty (by omega))]⟩
  ·
   refine aW 6 [] m ?_;simp only[↓aD];intro u m;refine aR rfl rfl ?_;try simp only[zD,zE]
   exact⟨_,rfl,m.ext,by have:=mX (B:=65536) (by omega) hR.digs hS.digs tx (by omega);rw[Zj,if_neg (by omega),if_pos this]⟩
 ·
  refine jF 10 [0] m ?_;simp only[↓aD,lQ];refine⟨by omega,?_⟩;rintro u m rfl;refine cE [5] [4,19,20,21,22,23,24,25,26,27,28,29,30,31,32,33,34,35,36,37,38,39,40] (fun n vs wl=>∃(k:Nat),vs=[.int .i64 ((k:Int)-1)]∧Mem w wl []∧(k≤xs.length)∧(xs.drop k=ys.drop k)∧(n=k)) ?_ ?_
  ·
   apply Exists.intro;simp only[zQ,zR,zD,zE];exact⟨xs.length,rfl,m,av _,by rw[km,show xs.length=ys.length by omega,km],rfl⟩
  ·
   intro n vs wr hI u K1 hK1;clear m;obtain⟨k,rfl,m,hk,hd,hn⟩:=hI;simp only[zu,zF,zG];refine aW 6 [0,0] m ?_;simp only[↓aD];intro u m;refine bG rfl (fun hc3=>?_) (fun hc3=>?_)
   ·
    refine aW 4 [] m ?_;simp only[↓aD];intro u m;obtain⟨a,rfl,hca,_⟩:=hS.get (show k-1<xs.length by omega);obtain⟨b,rfl,hcb,_⟩:=hR.get (show k-1<ys.length by omega);refine gc (mq m aB (by kernel_rfl) (aJ aH (aJ aH ?_)));simp only[zz];refine aJ (aF eA aX rfl rfl (by omega) (by omega) (jQ (show _=k-1 by omega))) ?_;simp only[zz];refine ql rfl (fun u m=>(lies1 (m.ext.cell hca) bE)) ?_;simp only[zz];refine aJ aH (aJ aH ?_);simp only[zz];refine aJ (aF eA aX rfl rfl (by omega) (by omega) (jQ (show _=k-1 by omega))) ?_;simp only[zz];refine ql rfl (fun u m=>(lies1 (m.ext.cell hcb) bE)) ?_;simp only[zz];refine aJ (qA rfl rfl) (bD ?_);clear m;intro u m;refine gc ?_;simp only[zz];refine bG rfl (fun hc4=>?_) (fun hc4=>?_)
    ·
     refine aW 2 [] m ?_;simp only[↓aD];intro u m;have hca:=hS.at (show k-1<xs.length by omega);have hcb:=hR.at (show k-1<ys.length by omega);refine gc (mq m aB (by kernel_rfl) (aJ aH (aJ aH ?_)));simp only[zz];refine aJ (aF eA aX rfl rfl (by omega) (by omega) (jQ (show _=k-1 by omega))) ?_;simp only[zz];refine ql rfl (fun u m=>(lies1 (m.ext.cell hca) bE)) ?_;simp only[zz];refine aJ aH (aJ aH ?_);simp only[zz];refine aJ (aF eA aX rfl rfl (by omega) (by omega) (jQ (show _=k-1 by omega))) ?_;simp only[zz];refine ql rfl (fun u m=>(lies1 (m.ext.cell hcb) bE)) ?_;simp only[zz];refine aJ (rA rfl rfl) (bD ?_);clear m;intro u m;refine gc ?_;simp only[zz];refine bG rfl (fun hc5=>?_) (fun hc5=>?_)
     ·
      refine aW 5 [] m ?_;simp only[↓aD];intro u m;refine aR rfl rfl ?_;try simp only[zD,zE]
      exact⟨_,rfl,m.ext,by rw[Zj,if_pos (Zr hS.digs (by omega) (by omega) (by omega) hd hc5)]⟩
     ·
      refine aW 6 [] m ?_;simp only[↓aD];intro u m;refine aR rfl rfl ?_;try simp only[zD,zE]
      exact⟨_,rfl,m.ext,by have:=Zr hR.digs (by omega) (by omega) (by omega) hd.symm (by omega);rw[Zj,if_neg (by omega),if_pos this]⟩
    ·
     refine jF 7 [0] m ?_;simp only[↓aD];refine⟨by omega,?_⟩;rintro u m rfl;rw[show ((k:Int)-1-1)=((k-1:Nat):Int)-1 by omega];refine hK1 (k-1) _ _ ?_ ?_ ?_
     · omega
     · simp only[zz,zv]
     ·
      simp only[zQ,zR,zD,zE];exact⟨k-1,rfl,m,by omega,agD (by omega) (by omega) (by omega) hd (by omega),rfl⟩
   ·
    refine jF 6 [] m ?_;simp only[↓aD];rintro u m rfl;refine aR rfl rfl ?_;try simp only[zD,zE]
    exact⟨_,rfl,m.ext,by have h0:k=0:=(by omega);subst h0;simp only[lq] at hd;rw[hd,Zj,if_neg (by omega),if_neg (by omega)]⟩
theorem apx{A B:Option Addr}{xs ys:List Nat}{na nb ca cb:Nat}(w:aj)(hS:fS w w.heap.size A na ca xs)(hR:fS w w.heap.size B nb cb ys)(hlx:xs.length≤1000000000000)(hly:ys.length≤1000000000000):dJ prog 282 [.slice A na ca,.slice B nb cb] w (aoI (val 65536 xs+val 65536 ys) (max xs.length ys.length+1)):=by
 refine⟨aod,?_⟩;have m:=Mem.refl w;obtain rfl:=hS.eq;obtain rfl:=hR.eq;obtain⟨M,hM⟩:∃M,M=max xs.length ys.length:=⟨_,rfl⟩
 rw[←hM]
 go_enter func282,ntmps282
 refine eC 6 [0] m ?_;simp only[↓aD];intro u m;refine aC aM ?_;replace m:=m.nilO 3 1;refine aS 11 [0] m ?_;simp only[↓aD];intro u m;refine cE [5,6,7] [8,9,10,11,12,13,14,15,16,17,18,19,20,21,22,23,24,25,26,27,28,29,30,31,32,33,34,35,36,37,38,39,40,41,42,43,44,45,46,47,48,49,50,51,52] (fun n vs wl=>∃(i c:Nat) (os:List Nat) (A5:Option Addr) (cap5:Nat),vs=[.slice A5 i cap5,.int .i64 (c:Int),.int .i64 (i:Int)]∧Mem w wl [oI 3 1 A5 i cap5 (os.map xD)]∧(os.length=i)∧(val 65536 os+65536^i*c=val 65536 (xs.take i)+val 65536 (ys.take i))∧(eE 65536 os)∧(c≤1)∧(i≤M+1)∧(i=M+1→c=0)∧(n=M+1-i)) ?_ ?_
 ·
  apply Exists.intro;simp only[zQ,zR,zD,zE];exact⟨0,0,[],none,0,rfl,m,rfl,by simp[val],mL _,by omega,by omega,fun _=>rfl,rfl⟩
 ·
  intro n vs wr hI u K1 hK1;clear m;obtain⟨i,c,os,A5,cap5,rfl,m,hlo,hv,hd,hc,hi,hic,hn⟩:=hI;simp only[zu,zF,zG];refine aW 2 [] m ?_;simp only[↓aD];intro u m;rcases (show i<xs.length∨(¬i<xs.length∧i<ys.length)∨(¬i<xs.length∧¬i<ys.length∧0<c)∨(¬i<xs.length∧¬i<ys.length∧c=0) by omega) with hw | ⟨hw,hw2⟩ | ⟨hw,hw2,hw3⟩ | ⟨hw,hw2,rfl⟩
  ·
   refine cP 34 [1,1] m ?_;simp only[↓aD,lQ];refine⟨by omega,?_⟩;intro u m;obtain⟨a,rfl,hca,hla⟩:=hS.get (show i<xs.length by omega);refine cP 4 [0] m ?_;simp only[↓aD];intro u m;refine aC (aF eA aX rfl rfl (by omega) (by omega) (jQ (ai _))) ?_;simp only[zz];refine aQ rfl (lies1 (m.ext.cell hca) bE) ?_;simp only[zz];refine aS 3 [] m ?_;simp only[↓aD];refine⟨by omega,?_⟩;intro u m;obtain⟨s1,hs1⟩:∃s1:Nat,s1=c+xs[i]:=⟨_,rfl⟩
   rw[show ((c:Int)+(xs[i]:Int))=(s1:Int) by omega];have hs2:s1=c+xs[i]?.getD 0:=by rw[am (by omega)];exact hs1
   have hs3:s1<65537:=by omega
   refine cP 8 [0,0] m ?_;simp only[↓aD,lQ];intro u m;refine bG rfl (fun hc3=>?_) (fun hc3=>?_)
   ·
    obtain⟨a2,rfl,hcb,hlb⟩:=hR.get (show i<ys.length by omega);refine aW 4 [0] m ?_;simp only[↓aD];intro u m;refine aC (aF eA aX rfl rfl (by omega) (by omega) (jQ (ai _))) ?_;simp only[zz];refine aQ rfl (lies1 (m.ext.cell hcb) bE) ?_;simp only[zz];refine aS 3 [] m ?_;simp only[↓aD];refine⟨by omega,?_⟩;intro u m;obtain⟨s,hs⟩:∃s:Nat,s=s1+ys[i]:=⟨_,rfl⟩
    rw[show ((s1:Int)+(ys[i]:Int))=(s:Int) by omega];have hs4:s=c+xs[i]?.getD 0+ys[i]?.getD 0:=by rw[am (l:=ys) (by omega)];simp only[cu];omega
    have hs5:s<131072:=by omega
    refine cP 4 [0] m ?_;simp only[↓aD];intro u m;refine aC (eG rfl rfl (by omega) (pH (n:=65536))) ?_;simp only[zz];refine iO eA (z:=.int .i64 0) (by kernel_rfl) rfl rfl rfl ?_;intro u g1 e hg hB;replace m:=m.newB e hg hB;clear e hg hB;simp only[zz];refine bQ m 1 rfl rfl eA vV rfl (by decide) rfl rfl rfl (m.b 0 rfl).rowsO (fW rfl) (by omega) (by omega) ?_;clear m;intro A5 cap5 u m;simp only[zF,zG] at m;simp only[zA,zB,zC,zD,zE,lR] at m;refine aS 4 [0] m ?_;simp only[↓aD];intro u m;refine aC (yJ rfl rfl (by omega) (sR (n:=65536) (by omega))) (aS 8 [0] m ?_);simp only[↓aD];refine⟨by omega,?_⟩;intro u m;obtain⟨r1,r2⟩:=xE hlo hv hd hs4;rw[show ((i:Int)+1)=((i+1:Nat):Int) by omega];refine hK1 (M+1-(i+1)) _ _ ?_ ?_ ?_
    · omega
    · simp only[zz,zv]
    ·
     simp only[zQ,zR,zD,zE];exact⟨i+1,s / 65536,os++[s%65536],A5,cap5,rfl,(m.sel [false,true]),by simp;omega,r1,r2,by omega,by omega,fun h=>by rw[bv (l:=xs) (by omega),bv (l:=ys) (by omega)] at hs4;simp at hs4;omega,rfl⟩
   ·
    obtain⟨s,hs⟩:∃s:Nat,s=s1:=⟨_,rfl⟩
    rw[←hs];have hs4:s=c+xs[i]?.getD 0+ys[i]?.getD 0:=by rw[bv (l:=ys) (by omega)];simp only[kx];omega
    have hs5:s<131072:=by omega
    refine aW 5 [0] m ?_;simp only[↓aD];intro u m;refine aC (eG rfl rfl (by omega) (pH (n:=65536))) ?_;simp only[zz];refine iO eA (z:=.int .i64 0) (by kernel_rfl) rfl rfl rfl ?_;intro u g1 e hg hB;replace m:=m.newB e hg hB;clear e hg hB;simp only[zz];refine bQ m 1 rfl rfl eA vV rfl (by decide) rfl rfl rfl (m.b 0 rfl).rowsO (fW rfl) (by omega) (by omega) ?_;clear m;intro A5 cap5 u m;simp only[zF,zG] at m;simp only[zA,zB,zC,zD,zE,lR] at m;refine aS 4 [0] m ?_;simp only[↓aD];intro u m;refine aC (yJ rfl rfl (by omega) (sR (n:=65536) (by omega))) (aS 8 [0] m ?_);simp only[↓aD];refine⟨by omega,?_⟩;intro u m;obtain⟨r1,r2⟩:=xE hlo hv hd hs4;rw[show ((i:Int)+1)=((i+1:Nat):Int) by omega];refine hK1 (M+1-(i+1)) _ _ ?_ ?_ ?_
    · omega
    · simp only[zz,zv]
    ·
     simp only[zQ,zR,zD,zE];exact⟨i+1,s / 65536,os++[s%65536],A5,cap5,rfl,(m.sel [false,true]),by simp;omega,r1,r2,by omega,by omega,fun h=>by rw[bv (l:=xs) (by omega),bv (l:=ys) (by omega)] at hs4;simp at hs4;omega,rfl⟩
  ·
   refine cP 25 [2,1] m ?_;simp only[↓aD,lQ];refine⟨by omega,?_⟩;intro u m;obtain⟨s1,hs1⟩:∃s1:Nat,s1=c:=⟨_,rfl⟩
   rw[←hs1];have hs2:s1=c+xs[i]?.getD 0:=by rw[bv (by omega)];exact hs1
   have hs3:s1<65537:=by omega
   refine cP 19 [2,1] m ?_;simp only[↓aD,lQ];refine⟨by omega,?_⟩;intro u m;obtain⟨a2,rfl,hcb,hlb⟩:=hR.get (show i<ys.length by omega);refine cP 4 [0] m ?_;simp only[↓aD];intro u m;refine aC (aF eA aX rfl rfl (by omega) (by omega) (jQ (ai _))) ?_;simp only[zz];refine aQ rfl (lies1 (m.ext.cell hcb) bE) ?_;simp only[zz];refine aS 3 [] m ?_;simp only[↓aD];refine⟨by omega,?_⟩;intro u m;obtain⟨s,hs⟩:∃s:Nat,s=s1+ys[i]:=⟨_,rfl⟩
   rw[show ((s1:Int)+(ys[i]:Int))=(s:Int) by omega];have hs4:s=c+xs[i]?.getD 0+ys[i]?.getD 0:=by rw[am (l:=ys) (by omega)];simp only[cu];omega
   have hs5:s<131072:=by omega
   refine cP 4 [0] m ?_;simp only[↓aD];intro u m;refine aC (eG rfl rfl (by omega) (pH (n:=65536))) ?_;simp only[zz];refine iO eA (z:=.int .i64 0) (by kernel_rfl) rfl rfl rfl ?_;intro u g1 e hg hB;replace m:=m.newB e hg hB;clear e hg hB;simp only[zz];refine bQ m 1 rfl rfl eA vV rfl (by decide) rfl rfl rfl (m.b 0 rfl).rowsO (fW rfl) (by omega) (by omega) ?_;clear m;intro A5 cap5 u m;simp only[zF,zG] at m;simp only[zA,zB,zC,zD,zE,lR] at m;refine aS 4 [0] m ?_;simp only[↓aD];intro u m;refine aC (yJ rfl rfl (by omega) (sR (n:=65536) (by omega))) (aS 8 [0] m ?_);simp only[↓aD];refine⟨by omega,?_⟩;intro u m;obtain⟨r1,r2⟩:=xE hlo hv hd hs4;rw[show ((i:Int)+1)=((i+1:Nat):Int) by omega];refine hK1 (M+1-(i+1)) _ _ ?_ ?_ ?_
   · omega
   · simp only[zz,zv]
   ·
    simp only[zQ,zR,zD,zE];exact⟨i+1,s / 65536,os++[s%65536],A5,cap5,rfl,(m.sel [false,true]),by simp;omega,r1,r2,by omega,by omega,fun h=>by rw[bv (l:=xs) (by omega),bv (l:=ys) (by omega)] at hs4;simp at hs4;omega,rfl⟩
  ·
   refine cP 25 [2,2,1] m ?_;simp only[↓aD,lQ];refine⟨by omega,?_⟩;intro u m;obtain⟨s1,hs1⟩:∃s1:Nat,s1=c:=⟨_,rfl⟩
   rw[←hs1];have hs2:s1=c+xs[i]?.getD 0:=by rw[bv (by omega)];exact hs1
   have hs3:s1<65537:=by omega
   refine cP 21 [2,2] m ?_;simp only[↓aD,lQ];refine⟨by omega,?_⟩;intro u m;obtain⟨s,hs⟩:∃s:Nat,s=s1:=⟨_,rfl⟩
   rw[←hs];have hs4:s=c+xs[i]?.getD 0+ys[i]?.getD 0:=by rw[bv (l:=ys) (by omega)];simp only[kx];omega
   have hs5:s<131072:=by omega
   refine cP 3 [0] m ?_;simp only[↓aD];intro u m;refine aC (eG rfl rfl (by omega) (pH (n:=65536))) ?_;simp only[zz];refine iO eA (z:=.int .i64 0) (by kernel_rfl) rfl rfl rfl ?_;intro u g1 e hg hB;replace m:=m.newB e hg hB;clear e hg hB;simp only[zz];refine bQ m 1 rfl rfl eA vV rfl (by decide) rfl rfl rfl (m.b 0 rfl).rowsO (fW rfl) (by omega) (by omega) ?_;clear m;intro A5 cap5 u m;simp only[zF,zG] at m;simp only[zA,zB,zC,zD,zE,lR] at m;refine aS 4 [0] m ?_;simp only[↓aD];intro u m;refine aC (yJ rfl rfl (by omega) (sR (n:=65536) (by omega))) (aS 8 [0] m ?_);simp only[↓aD];refine⟨by omega,?_⟩;intro u m;obtain⟨r1,r2⟩:=xE hlo hv hd hs4;rw[show ((i:Int)+1)=((i+1:Nat):Int) by omega];refine hK1 (M+1-(i+1)) _ _ ?_ ?_ ?_
   · omega
   · simp only[zz,zv]
   ·
    simp only[zQ,zR,zD,zE];exact⟨i+1,s / 65536,os++[s%65536],A5,cap5,rfl,(m.sel [false,true]),by simp;omega,r1,r2,by omega,by omega,fun h=>by rw[bv (l:=xs) (by omega),bv (l:=ys) (by omega)] at hs4;simp at hs4;omega,rfl⟩
  ·
   refine cP 24 [2,2,2] m ?_;simp only[↓aD,lQ];refine⟨by omega,?_⟩;intro u m;refine aR rfl rfl ?_;try simp only[zD,zE]
   obtain⟨hD,_⟩:=Qi (m.o 0 rfl) hlo.symm hd (by omega);obtain rfl:=hlo;exact⟨_,rfl,m.ext,A5,cap5,os,rfl,hD,by rw[a_ (by omega),a_ (by omega)] at hv;simpa using hv,by omega⟩
theorem adO{A B:Option Addr}{xs ys:List Nat}{na nb ca cb:Nat}(w:aj)(hS:fS w w.heap.size A na ca xs)(hR:fS w w.heap.size B nb cb ys)(hle:ys.length≤xs.length)(hge:val 65536 ys≤val 65536 xs)(hlx:xs.length≤1000000000000):dJ prog 284 [.slice A na ca,.slice B nb cb] w (fun v w'=>vI (val 65536 xs-val 65536 ys) v w'∧vY w v):=by
 refine⟨aof,?_⟩;have m:=Mem.refl w;obtain rfl:=hS.eq;obtain rfl:=hR.eq
 go_enter func284,ntmps284
 refine eC 6 [0] m ?_;simp only[↓aD];intro u m;refine aC aM ?_;replace m:=m.nilO 3 1;refine aS 11 [0] m ?_;simp only[↓aD];intro u m;refine cE [5,6,7] [8,9,10,11,12,13,14,15,16,17,18,19,20,21,22,23,24,25,26,27,28,29,30,31,32,33,34,35,36,37,38] (fun n vs wl=>∃(i c:Nat) (os:List Nat) (A5:Option Addr) (cap5:Nat),vs=[.slice A5 i cap5,.int .i64 (c:Int),.int .i64 (i:Int)]∧Mem w wl [oI 3 1 A5 i cap5 (os.map xD)]∧(os.length=i)∧(val 65536 os+val 65536 (ys.take i)=val 65536 (xs.take i)+65536^i*c)∧(eE 65536 os)∧(c≤1)∧(i≤xs.length)∧(n=xs.length-i)) ?_ ?_
 ·
  apply Exists.intro;simp only[zQ,zR,zD,zE];exact⟨0,0,[],none,0,rfl,m,rfl,by simp[val],mL _,by omega,by omega,rfl⟩
 ·
  intro n vs wr hI u K1 hK1;clear m;obtain⟨i,c,os,A5,cap5,rfl,m,hlo,hv,hd,hc,hi,hn⟩:=hI;simp only[zu,zF,zG];refine aW 8 [0,0] m ?_;simp only[↓aD,lQ];intro u m;refine bG rfl (fun hc1=>?_) (fun hc1=>?_)
  ·
   refine aW 4 [] m ?_;simp only[↓aD];intro u m;obtain⟨a,rfl,hca,hla⟩:=hS.get (show i<xs.length by omega);have hyd:ys[i]?.getD 0<65536:=by
    rcases dl i ys.length with h | h
    · rw[am h];exact hR.lt h
    · rw[bv h];decide
   refine cP 3 [0] m ?_;simp only[↓aD];intro u m;refine aC (aF eA aX rfl rfl (by omega) (by omega) (jQ (ai _))) ?_;simp only[zz];refine aQ rfl (lies1 (m.ext.cell hca) bE) ?_;simp only[zz];refine aS 12 [0,0] m ?_;simp only[↓aD,lQ];refine⟨by omega,?_⟩;intro u m;refine bG rfl (fun hc2=>?_) (fun hc2=>?_)
   ·
    obtain⟨a2,rfl,hcb,hlb⟩:=hR.get (show i<ys.length by omega);refine aW 4 [0] m ?_;simp only[↓aD];intro u m;refine aC (aF eA aX rfl rfl (by omega) (by omega) (jQ (ai _))) ?_;simp only[zz];refine aQ rfl (lies1 (m.ext.cell hcb) bE) ?_;simp only[zz];refine aS 3 [] m ?_;simp only[↓aD];refine⟨by omega,?_⟩;intro u m;obtain⟨e,he⟩:∃e:Int,e=(xs[i]:Int)-(c:Int)-(ys[i]:Int):=⟨_,rfl⟩
    rw[←he];have he2:e=(xs[i]:Int)-(c:Int)-((ys[i]?.getD 0:Nat):Int):=by rw[am (by omega)];exact he
    refine cP 10 [0,0] m ?_;simp only[↓aD];intro u m;refine bG rfl (fun hc3=>?_) (fun hc3=>?_)
    ·
     obtain⟨s,hs⟩:∃s:Nat,(s:Int)=e+65536:=⟨(e+65536).toNat,by omega⟩
     have hs6:s+ys[i]?.getD 0+c=xs[i]+65536*1:=by omega
     have hs7:s<65536:=by omega
     refine aW 4 [] m ?_;simp only[↓aD];refine⟨by omega,?_⟩;intro u m;rw[←hs];refine cP 8 [0] m ?_;simp only[↓aD];intro u m;refine iO eA (z:=.int .i64 0) (by kernel_rfl) rfl rfl rfl ?_;intro u g1 e hg hB;replace m:=m.newB e hg hB;clear e hg hB;simp only[zz];refine bQ m 1 rfl rfl eA vV rfl (by decide) rfl rfl rfl (m.b 0 rfl).rowsO (fW rfl) (by omega) (by omega) ?_;clear m;intro A5 cap5 u m;simp only[zF,zG] at m;simp only[zA,zB,zC,zD,zE,lR] at m;refine aS 8 [0] m ?_;simp only[↓aD];refine⟨by omega,?_⟩;intro u m;obtain⟨r1,r2⟩:=uP (by omega) hlo hv hd hs6 hs7;rw[show ((i:Int)+1)=((i+1:Nat):Int) by omega];refine hK1 (xs.length-(i+1)) _ _ ?_ ?_ ?_
     · omega
     · simp only[zz,zv]
     ·
      simp only[zQ,zR,zD,zE];exact⟨i+1,1,os++[s],A5,cap5,rfl,(m.sel [false,true]),by simp;omega,r1,r2,by omega,by omega,rfl⟩
    ·
     obtain⟨s,hs⟩:∃s:Nat,(s:Int)=e:=⟨e.toNat,by omega⟩
     rw[←hs];have hs6:s+ys[i]?.getD 0+c=xs[i]+65536*0:=by omega
     have hs7:s<65536:=by omega
     refine aW 4 [0] m ?_;simp only[↓aD];intro u m;refine iO eA (z:=.int .i64 0) (by kernel_rfl) rfl rfl rfl ?_;intro u g1 e hg hB;replace m:=m.newB e hg hB;clear e hg hB;simp only[zz];refine bQ m 1 rfl rfl eA vV rfl (by decide) rfl rfl rfl (m.b 0 rfl).rowsO (fW rfl) (by omega) (by omega) ?_;clear m;intro A5 cap5 u m;simp only[zF,zG] at m;simp only[zA,zB,zC,zD,zE,lR] at m;refine aS 8 [0] m ?_;simp only[↓aD];refine⟨by omega,?_⟩;intro u m;obtain⟨r1,r2⟩:=uP (by omega) hlo hv hd hs6 hs7;rw[show ((i:Int)+1)=((i+1:Nat):Int) by omega];refine hK1 (xs.length-(i+1)) _ _ ?_ ?_ ?_
     · omega
     · simp only[zz,zv]
     ·
      simp only[zQ,zR,zD,zE];exact⟨i+1,0,os++[s],A5,cap5,rfl,(m.sel [false,true]),by simp;omega,r1,r2,by omega,by omega,rfl⟩
   ·
    obtain⟨e,he⟩:∃e:Int,e=(xs[i]:Int)-(c:Int):=⟨_,rfl⟩
    rw[←he];have he2:e=(xs[i]:Int)-(c:Int)-((ys[i]?.getD 0:Nat):Int):=by rw[bv (by omega)];simp only[kx];omega
    refine aW 11 [0,0] m ?_;simp only[↓aD];intro u m;refine bG rfl (fun hc3=>?_) (fun hc3=>?_)
    ·
     obtain⟨s,hs⟩:∃s:Nat,(s:Int)=e+65536:=⟨(e+65536).toNat,by omega⟩
     have hs6:s+ys[i]?.getD 0+c=xs[i]+65536*1:=by omega
     have hs7:s<65536:=by omega
     refine aW 4 [] m ?_;simp only[↓aD];refine⟨by omega,?_⟩;intro u m;rw[←hs];refine cP 8 [0] m ?_;simp only[↓aD];intro u m;refine iO eA (z:=.int .i64 0) (by kernel_rfl) rfl rfl rfl ?_;intro u g1 e hg hB;replace m:=m.newB e hg hB;clear e hg hB;simp only[zz];refine bQ m 1 rfl rfl eA vV rfl (by decide) rfl rfl rfl (m.b 0 rfl).rowsO (fW rfl) (by omega) (by omega) ?_;clear m;intro A5 cap5 u m;simp only[zF,zG] at m;simp only[zA,zB,zC,zD,zE,lR] at m;refine aS 8 [0] m ?_;simp only[↓aD];refine⟨by omega,?_⟩;intro u m;obtain⟨r1,r2⟩:=uP (by omega) hlo hv hd hs6 hs7;rw[show ((i:Int)+1)=((i+1:Nat):Int) by omega];refine hK1 (xs.length-(i+1)) _ _ ?_ ?_ ?_
     · omega
     · simp only[zz,zv]
     ·
      simp only[zQ,zR,zD,zE];exact⟨i+1,1,os++[s],A5,cap5,rfl,(m.sel [false,true]),by simp;omega,r1,r2,by omega,by omega,rfl⟩
    ·
     obtain⟨s,hs⟩:∃s:Nat,(s:Int)=e:=⟨e.toNat,by omega⟩
     rw[←hs];have hs6:s+ys[i]?.getD 0+c=xs[i]+65536*0:=by omega
     have hs7:s<65536:=by omega
     refine aW 4 [0] m ?_;simp only[↓aD];intro u m;refine iO eA (z:=.int .i64 0) (by kernel_rfl) rfl rfl rfl ?_;intro u g1 e hg hB;replace m:=m.newB e hg hB;clear e hg hB;simp only[zz];refine bQ m 1 rfl rfl eA vV rfl (by decide) rfl rfl rfl (m.b 0 rfl).rowsO (fW rfl) (by omega) (by omega) ?_;clear m;intro A5 cap5 u m;simp only[zF,zG] at m;simp only[zA,zB,zC,zD,zE,lR] at m;refine aS 8 [0] m ?_;simp only[↓aD];refine⟨by omega,?_⟩;intro u m;obtain⟨r1,r2⟩:=uP (by omega) hlo hv hd hs6 hs7;rw[show ((i:Int)+1)=((i+1:Nat):Int) by omega];refine hK1 (xs.length-(i+1)) _ _ ?_ ?_ ?_
     · omega
     · simp only[zz,zv]
     ·
      simp only[zQ,zR,zD,zE];exact⟨i+1,0,os++[s],A5,cap5,rfl,(m.sel [false,true]),by simp;omega,r1,r2,by omega,by omega,rfl⟩
  ·
   refine aW 2 [] m ?_;simp only[↓aD];intro u m;obtain rfl:i=xs.length:=by omega
   obtain⟨hD,hbn⟩:=Qi (m.o 0 rfl) hlo.symm hd (by omega);refine lK 2 [0] m ?_;simp only[↓aD];rintro u m rfl;refine bJ rfl rfl (Xg _ hD) ?_;rintro v u e rfl;replace m:=m.ext' e;replace hD:=hD.ext e;refine Df 3 [] m ?_;simp only[↓aD];rintro u m rfl;refine aR rfl rfl ?_;try simp only[zD,zE]
   exact⟨_,rfl,m.ext,vI.of_trim hD (aeD hle hlo hd hv hge),fun a n c e=>by cases e;exact hbn _ rfl⟩
theorem akO{A B:Option Addr}{xs ys:List Nat}{na nb ca cb:Nat}(w:aj)(hS:fS w w.heap.size A na ca xs)(hR:fS w w.heap.size B nb cb ys)(hlx:xs.length≤1000000000000)(hly:ys.length≤1000000000000):dJ prog 295 [.slice A na ca,.slice B nb cb] w (fun v w'=>vI (val 65536 xs*val 65536 ys) v w'∧vY w v):=by
 refine⟨aoi,?_⟩;have m:=Mem.refl w;obtain rfl:=hS.eq;obtain rfl:=hR.eq
 go_enter func295,ntmps295
 refine eC 11 [0] m ?_;simp only[↓aD,lQ];refine⟨by omega,?_⟩;intro u m;refine wW eA vV rfl rfl rfl (show _=xs.length+ys.length by omega) (show _=xs.length+ys.length by omega) (by omega) (by omega) (by omega) (by omega) ?_;intro u g1 e hg hB;replace m:=m.newB e hg hB;clear e hg hB;refine aS 2 [] m ?_;simp only[↓aD];intro u m;rw[Rz] at m;refine cP 6 [0] m ?_;simp only[↓aD];intro u m;refine cE [6] [7,8,9,16,17,18,19,20,21,22,23,24,25,26,27,28,29,30,31,32,33,34,35,36,37,38,39,40,41,42,43,44,45,46,47,48,49,50,51,52,53,54,55,56,57,58,59,60,61] (fun n vs wl=>∃(i:Nat) (os:List Nat),vs=[.int .i64 (i:Int)]∧Mem w wl [bI g1 (os.map xD) 3]∧(i≤xs.length)∧(os.length=xs.length+ys.length)∧(val 65536 os=val 65536 (xs.take i)*val 65536 ys)∧(os.drop (i+ys.length)=c_ (xs.length-i) 0)∧(eE 65536 os)∧(n=xs.length-i)) ?_ ?_
 ·
  apply Exists.intro;simp only[zQ,zR,zD,zE];exact⟨0,c_ (xs.length+ys.length) 0,rfl,m,by omega,by simp,by rw[lU,kj];simp only[val,Nat.zero_mul],by rw[List.drop_replicate];congr 1;omega,fun x hx=>by rw[List.eq_of_mem_replicate hx];decide,rfl⟩
 ·
  intro n vs wr hI u K1 hK1;clear m;obtain⟨i,os,rfl,m,hi,hlo,hv,hz,hd,hn⟩:=hI;simp only[zu,zF,zG];refine aW 8 [0,0] m ?_;simp only[↓aD,lQ];intro u m;refine bG rfl (fun hc1=>?_) (fun hc1=>?_)
  ·
   refine aW 13 [0] m ?_;simp only[↓aD];intro u m;refine cE [7,8] [9,22,23,24,25,26,27,28,29,30,31,32,33,34,35,36,37,38,39,40,41,42,43,44,45,46,47,48,49,50,51,52,53,54] (fun n vs wl=>∃(k c:Nat) (os:List Nat),vs=[.int .i64 (c:Int),.int .i64 (k:Int)]∧Mem w wl [bI g1 (os.map xD) 3]∧(k≤ys.length)∧(os.length=xs.length+ys.length)∧(val 65536 os+65536^(i+k)*c=val 65536 (xs.take i)*val 65536 ys+65536^i*(xs[i]*val 65536 (ys.take k)))∧(os.drop (i+ys.length)=c_ (xs.length-i) 0)∧(eE 65536 os)∧(c<65536)∧(n=ys.length-k)) ?_ ?_
   ·
    apply Exists.intro;simp only[zQ,zR,zD,zE];exact⟨0,0,os,rfl,m,by omega,hlo,by rw[kj,hv];simp only[val,j_],hz,hd,by omega,rfl⟩
   ·
    intro n vs wr hI u K2 hK2;clear m;obtain⟨k,c,os,rfl,m,hk,hlo,hv2,hz,hd,hc,hn2⟩:=hI;simp only[zu,zF,zG];refine aW 8 [0,0] m ?_;simp only[↓aD,lQ];intro u m;refine bG rfl (fun hc2=>?_) (fun hc2=>?_)
    ·
     refine aW 4 [] m ?_;simp only[↓aD];intro u m;obtain⟨a,rfl,hca,hla⟩:=hS.get (show i<xs.length by omega);obtain⟨a2,rfl,hcb,hlb⟩:=hR.get (show k<ys.length by omega);have hlo2:=hd.get (am (show i+k<os.length by omega));obtain⟨hm0,hm1⟩:=aeF hla hlb;refine gc (mq m aB (by kernel_rfl) ?_);refine eM 4 [] ?_;simp only[↓aD];refine⟨by omega,?_⟩;refine aJ (aF eA aX rfl rfl (by omega) (by omega) (nH (show _=i+k by omega))) ?_;simp only[zz];refine ql rfl (fun u m=>(lies1 ((m.b 0 rfl).digit (show i+k<os.length by omega)) bE)) ?_;simp only[zz];refine aJ aH (aJ aH ?_);simp only[zz];refine aJ (aF eA aX rfl rfl (by omega) (by omega) (jQ (ai _))) ?_;simp only[zz];refine ql rfl (fun u m=>(lies1 (m.ext.cell hca) bE)) ?_;simp only[zz];refine aJ aH (aJ aH ?_);simp only[zz];refine aJ (aF eA aX rfl rfl (by omega) (by omega) (jQ (ai _))) ?_;simp only[zz];refine ql rfl (fun u m=>(lies1 (m.ext.cell hcb) bE)) ?_;simp only[zz];refine eM 5 [] ?_;simp only[↓aD];refine⟨by omega,?_⟩;refine bD ?_;clear m;intro u m;obtain⟨s,hs⟩:∃s,s=os[i+k]+xs[i]*ys[k]+c:=⟨_,rfl⟩
     have hsI:(↑os[i+k]+↑xs[i]*↑ys[k]+↑c:Int)=(s:Int):=by rw[hs];simp
     rw[hsI];have hs64:s<4294967296:=by have:=Zq hla hlb;omega
     refine cP 7 [0] m ?_;simp only[↓aD];refine⟨by omega,?_⟩;intro u m;refine aC (eG rfl rfl (by omega) (pH (n:=65536))) ?_;simp only[zz];refine aC (aF eA aX rfl rfl (by omega) (by omega) (nH (show _=i+k by omega))) ?_;simp only[zz];refine eK m 0 rfl rfl rfl aX (by simp;omega) ⟨rfl,rfl⟩ ?_;clear m;intro u m;simp only[zz] at m ;rw[Gj (by omega)] at m;refine aS 3 [0] m ?_;simp only[↓aD];intro u m;refine aC (yJ rfl rfl (by omega) (sR (n:=65536) (by omega))) (aS 8 [0] m ?_);simp only[↓aD];refine⟨by omega,?_⟩;intro u m;have r1:=Zp (by omega) (by omega) hlo hv2 hs;rw[show ((k:Int)+1)=((k+1:Nat):Int) by omega];refine hK2 (ys.length-(k+1)) _ _ ?_ ?_ ?_
     · omega
     · simp only[zz,zv]
     ·
      simp only[zQ,zR,zD,zE];exact⟨k+1,s / 65536,os.set (i+k) (s%65536),rfl,m,by omega,by simpa using hlo,r1,by rw[Ky (by omega)];exact hz,hd.set (by omega),by omega,rfl⟩
    ·
     refine aW 1 [] m ?_;simp only[↓aD];intro u m;obtain rfl:k=ys.length:=by omega
     refine cP 7 [0] m ?_;simp only[↓aD,lQ];refine⟨by omega,?_⟩;intro u m;refine aC (aF eA aX rfl rfl (by omega) (by omega) (nH (show _=i+ys.length by omega))) ?_;simp only[zz];refine eK m 0 rfl rfl rfl aX (by simp;omega) ⟨rfl,rfl⟩ ?_;clear m;intro u m;simp only[zz] at m ;rw[Gj (by omega)] at m;refine aS 7 [0] m ?_;simp only[↓aD];refine⟨by omega,?_⟩;intro u m;obtain⟨r1,r2⟩:=aeE (by omega) hlo hv2 hz;rw[show ((i:Int)+1)=((i+1:Nat):Int) by omega];refine hK1 (xs.length-(i+1)) _ _ ?_ ?_ ?_
     · omega
     · simp only[zz,zv]
     ·
      simp only[zQ,zR,zD,zE];exact⟨i+1,os.set (i+ys.length) c,rfl,m,by omega,by simpa using hlo,r1,r2,hd.set (by omega),rfl⟩
  ·
   refine aW 2 [] m ?_;simp only[↓aD];intro u m;obtain rfl:i=xs.length:=by omega
   refine cP 2 [0] m ?_;simp only[↓aD];intro u m;rw[←hlo];refine cU m rfl rfl (Xg _ (fS.of_blk (m.b 0 rfl) hd rfl (by omega))) ?_;clear m;rintro v u m rfl;refine aS 3 [] m ?_;simp only[↓aD];intro u m;refine aR rfl rfl ?_;try simp only[zD,zE]
   exact⟨_,rfl,m.ext,vI.of_trim (fS.of_blk (m.b 0 rfl) hd rfl (by omega)) (by rw[hv,ew]),fun a n c e=>by cases e;exact (m.gb 0 rfl)⟩
end Go.Proofs.YtfekpcimgncioaaGreatDoor
namespace Go.Proofs.YtfekpcimgncioaaGreatDoor
open Go.Proofs.Tryz
open Go.RowKit Go.Lith
set_option maxRecDepth 100000
attribute [local irreducible] au cg fR Code.wp
end Go.Proofs.YtfekpcimgncioaaGreatDoor
namespace Go.Proofs.YtfekpcimgncioaaGreatDoor
open Go.Proofs.Tryz
open Go.RowKit Go.Lith
set_option maxRecDepth 100000
attribute [local irreducible] au cg fR bO cO Code.wp
attribute [local congr] pL fX fY fZ gA gB kI gC gD gE gF gG gH gI gJ gK gL gM eS eT gN gQ gS gT gU kK dC dD cR dB gR kJ eV eW eX gW gX kL
theorem Hl{os:List UInt8}{x:Nat}(hx:x<256):os.map u8v++[.int .u8 (x:Int)]=(os++[dj x]).map u8v:=by
 have:u8v (dj x)=.int .u8 (x:Int):=by simp only[u8v,ix,Value.int.injEq,true_and];rw[jt (by omega)]
 rw[List.map_append,List.map_singleton,this]
theorem wJ{neg:Bool}{s:ByteArray}(w:aj)(hs:s.size≤1000000000000):dJ prog 280 [.agg #[.bool neg,.string s]] w (vI (aj8 s)):=by
 refine⟨aob,?_⟩;have m:=Mem.refl w;have hbl:=vH s;have hbd:=Kz s
 go_enter func280,ntmps280
 refine eC 7 [0] m ?_;simp only[↓aD];intro g1;intro u m;refine aC aM ?_;replace m:=m.nilO 3 1;refine aS 5 [1,0] m ?_;simp only[↓aD,xR,ach,aa];intro u m;refine aC (tK rfl oT rfl) (aS 9 [0] m ?_);simp only[↓aD];intro u m;refine cE [3,5] [6,11,12,13,14,15,16,17,18,19,20,21,22,23,24,25,26,27,28,29,30,31,32,33,34,35] (fun n vs wl=>∃(k:Nat) (os:List Nat) (A3:Option Addr) (cap3:Nat),vs=[.slice A3 k cap3,.int .i64 ((s.size:Int)-2*(k:Int))]∧Mem w wl [oI 3 1 A3 k cap3 (os.map xD),bI g1 [.bool neg,.string s] 95]∧(os.length=k)∧(val 65536 os=val 256 ((oD s).take (2*k)))∧(eE 65536 os)∧(2*k≤s.size+1)∧(n=s.size-2*k)) ?_ ?_
 ·
  rw[show ((s.size:Int))=(s.size:Int)-2*((0:Nat):Int) by omega];apply Exists.intro;simp only[zQ,zR,zD,zE];exact⟨0,[],none,0,rfl,m,rfl,by simp[val],mL _,by omega,rfl⟩
 ·
  intro n vs wr hI u K1 hK1;clear m;obtain⟨k,os,A3,cap3,rfl,m,hlo,hv,hd,hk,hn⟩:=hI;simp only[zu,zF,zG];refine aW 6 [0,0] m ?_;simp only[↓aD];intro u m;refine bG rfl (fun hc1=>?_) (fun hc1=>?_)
  ·
   refine aW 4 [] m ?_;simp only[↓aD];intro u m;obtain⟨y1,hb1,hp1,hy1⟩:=El (show 2*k+1+(s.size-2*k-1)=s.size by omega);have hy1l:y1.toNat<256:=y1.toNat_lt;refine cP 5 [1,0] m ?_;simp only[↓aD,xR,ach,aa];refine⟨by omega,?_⟩;intro u m;refine aC ((nZ oT rfl rfl (by omega) (by rw[show ((s.size:Int)-2*(k:Int)-1).toNat=s.size-2*k-1 by omega];exact hb1))) ?_;refine aS 9 [0,0] m ?_;simp only[↓aD,yV,Sh];refine⟨by omega,?_⟩;intro u m;refine bG rfl (fun hc2=>?_) (fun hc2=>?_)
   ·
    obtain⟨y2,hb2,hp2,hy2⟩:=El (show 2*k+1+1+(s.size-2*k-2)=s.size by omega);have hy2l:y2.toNat<256:=y2.toNat_lt;refine aW 6 [1,0] m ?_;simp only[↓aD,xR,ach,aa];refine⟨by omega,?_⟩;intro u m;refine aC ((nZ oT rfl rfl (by omega) (by rw[show ((s.size:Int)-2*(k:Int)-2).toNat=s.size-2*k-2 by omega];exact hb2))) ?_;refine aS 5 [] m ?_;simp only[↓aD,yV,Sh];refine⟨by omega,?_⟩;intro u m;obtain⟨d,hd1⟩:∃d:Nat,d=y1.toNat+256*y2.toNat:=⟨_,rfl⟩
    rw[show ((y1.toNat:Int)+256*(y2.toNat:Int))=(d:Int) by omega];have hd2:d=(oD s)[2*k]+256*((oD s)[2*k+1]?.getD 0):=by rw[am hp2,hy1];simp only[cu];rw[hy2];exact hd1
    refine cP 3 [0] m ?_;simp only[↓aD];intro u m;refine iO eA (z:=.int .i64 0) (by kernel_rfl) rfl rfl rfl ?_;intro u g2 e hg hB;replace m:=m.newB e hg hB;clear e hg hB;simp only[zz];refine bQ m 1 rfl rfl eA vV rfl (by decide) rfl rfl rfl (m.b 0 rfl).rowsO (fW rfl) (by omega) (by omega) ?_;clear m;intro A3 cap3 u m;simp only[zF,zG] at m;simp only[zA,zB,zC,zD,zE,lR] at m;refine aS 8 [0] m ?_;simp only[↓aD];refine⟨by omega,?_⟩;intro u m;obtain⟨r1,r2⟩:=He hlo hv (by omega) hd2 hbd hd;rw[show ((s.size:Int)-2*(k:Int)-2)=(s.size:Int)-2*((k+1:Nat):Int) by omega];refine hK1 (s.size-2*(k+1)) _ _ ?_ ?_ ?_
    · omega
    · simp only[zz,zv]
    ·
     simp only[zQ,zR,zD,zE];exact⟨k+1,os++[d],A3,cap3,rfl,(m.sel [false,true,true]),by simp;omega,r1,r2,by omega,rfl⟩
   ·
    obtain⟨d,hd1⟩:∃d:Nat,d=y1.toNat:=⟨_,rfl⟩
    rw[←hd1];have hd2:d=(oD s)[2*k]+256*((oD s)[2*k+1]?.getD 0):=by rw[bv (by omega),hy1];simp only[kx];omega
    refine aW 4 [0] m ?_;simp only[↓aD];intro u m;refine iO eA (z:=.int .i64 0) (by kernel_rfl) rfl rfl rfl ?_;intro u g2 e hg hB;replace m:=m.newB e hg hB;clear e hg hB;simp only[zz];refine bQ m 1 rfl rfl eA vV rfl (by decide) rfl rfl rfl (m.b 0 rfl).rowsO (fW rfl) (by omega) (by omega) ?_;clear m;intro A3 cap3 u m;simp only[zF,zG] at m;simp only[zA,zB,zC,zD,zE,lR] at m;refine aS 8 [0] m ?_;simp only[↓aD];refine⟨by omega,?_⟩;intro u m;obtain⟨r1,r2⟩:=He hlo hv (by omega) hd2 hbd hd;rw[show ((s.size:Int)-2*(k:Int)-2)=(s.size:Int)-2*((k+1:Nat):Int) by omega];refine hK1 (s.size-2*(k+1)) _ _ ?_ ?_ ?_
    · omega
    · simp only[zz,zv]
    ·
     simp only[zQ,zR,zD,zE];exact⟨k+1,os++[d],A3,cap3,rfl,(m.sel [false,true,true]),by simp;omega,r1,r2,by omega,rfl⟩
  ·
   refine aW 2 [] m ?_;simp only[↓aD];intro u m;obtain⟨hD,_⟩:=Qi (m.o 0 rfl) hlo.symm hd (by omega);refine lK 2 [0] m ?_;simp only[↓aD];rintro u m rfl;refine bJ rfl rfl (Xg _ hD) ?_;rintro v u e rfl;replace m:=m.ext' e;replace hD:=hD.ext e;refine Df 3 [] m ?_;simp only[↓aD];rintro u m rfl;refine aR rfl rfl ?_;try simp only[zD,zE]
   exact⟨_,rfl,m.ext,vI.of_trim hD (by rw[hv,a_ (by omega)];rfl)⟩
theorem xS{A:Option Addr}{xs:List Nat}{b na cap:Nat}{neg:Bool}(w:aj)(hS:fS w b A na cap xs)(hl:xs.length≤100000000000):dJ prog 281 [.bool neg,.slice A na cap] w (fun v _=>v=W (Rx neg (val 65536 xs))):=by
 refine⟨aoc,?_⟩;have m:=Mem.refl w;obtain rfl:=hS.eq;have hlt:=tN xs;have hT:fS w w.heap.size A (trim xs).length cap (trim xs):=by
  have h:=(hS.take (trim xs).length).here;rwa [←kH] at h
 have htr:=Gg xs;have hvx:=Gf 65536 xs;obtain⟨ys,hys⟩:∃ys,ys=trim xs:=⟨_,rfl⟩
 rw[←hys] at hT htr hlt hvx;have hyd:=hT.digs;have h2l:=aeX ys
 go_enter func281,ntmps281
 refine eC 7 [0] m ?_;simp only[↓aD,mR];intro g1;intro u m;refine cU m rfl rfl (Xg _ (hS.ext m.ext)) ?_;clear m;rintro v u m rfl;simp only[zz];rw[←hys];clear hys;refine aS 4 [] m ?_;simp only[↓aD];intro u m;by_cases hy0:ys=[]
 ·
  subst hy0;refine cP 3 [0] m ?_;simp only[↓aD,lQ];intro u m;refine aC (Is rfl rfl (by rfl)) (aS 8 [0] m ?_);simp only[↓aD,al3,fC,aa];intro u m;refine aR rfl ⟨_,rfl,((m.b 0 rfl).full cL aP)⟩ ?_;try simp only[zD,zE]
  exact⟨_,rfl,m.ext,by rw[←hvx];cases neg <;> rfl⟩
 ·
  have hyl:0<ys.length:=List.length_pos_iff.2 hy0;have htop:=Zl htr hyl;refine cP 9 [2,0] m ?_;simp only[↓aD,lQ];refine⟨by omega,?_⟩;intro u m;refine aC aM ?_;replace m:=m.nilO 5 1;refine aS 10 [0] m ?_;simp only[↓aD,lQ];refine⟨by omega,?_⟩;intro u m;refine cE [5,6] [16,17,18,19,20,21,22,23,24,25,26,27,28,29,30,31,32,33,34,35,36,37,38,39,40,41,42,43,44,45,46,47,48,49] (fun n vs wl=>∃(k j:Nat) (os:List UInt8) (A5:Option Addr) (cap5:Nat),vs=[.slice A5 j cap5,.int .i64 ((k:Int)-1)]∧Mem w wl [oI 5 1 A5 j cap5 (os.map u8v),bI g1 [.bool false,.string ⟨#[]⟩] 95]∧(os.length=j)∧(os=nT ys k)∧(k≤ys.length)∧(k<ys.length→nT ys k≠[])∧(os.length≤2*ys.length)∧(n=k)) ?_ ?_
  ·
   apply Exists.intro;simp only[zQ,zR,zD,zE];exact⟨ys.length,0,[],none,0,rfl,m,rfl,(Tz ys).symm,by omega,fun h=>absurd h (by omega),by simp,rfl⟩
  ·
   intro n vs wr hI u K1 hK1;clear m;obtain⟨k,j,os,A5,cap5,rfl,m,hjl,hos,hk,hne,hosl,hn⟩:=hI;simp only[zu,zF,zG];refine aW 6 [0,0] m ?_;simp only[↓aD];intro u m;refine bG rfl (fun hc2=>?_) (fun hc2=>?_)
   ·
    refine aW 5 [] m ?_;simp only[↓aD];intro u m;obtain⟨a,rfl,hca,hla⟩:=hT.get (show k-1<ys.length by omega);rcases (show k<ys.length∨k=ys.length by omega) with hkl | hkl
    ·
     obtain⟨r1,r2⟩:=ab3 (show 0<k by omega) (by omega) (hne hkl);refine cP 15 [1] m ?_;simp only[↓aD,lQ];refine⟨by omega,?_⟩;intro u m;have hca:=hT.at (show k-1<ys.length by omega);refine cP 4 [0] m ?_;simp only[↓aD];intro u m;refine aC (aF eA aX rfl rfl (by omega) (by omega) (jQ (show _=k-1 by omega))) ?_;simp only[zz];refine aQ rfl (lies1 (m.ext.cell hca) bE) ?_;simp only[zz];refine aC (yJ rfl rfl (by omega) (sR (n:=256) (by omega))) (aC (jB aav iW rfl (Bc (by omega))) ?_);simp only[zz];refine iO oA (z:=.int .u8 0) (by kernel_rfl) rfl rfl rfl ?_;intro u g2 e hg hB;replace m:=m.newB e hg hB;clear e hg hB;simp only[zz];refine bQ m 1 rfl rfl oA Sy rfl (by decide) rfl rfl rfl (m.b 0 rfl).rowsO (fW rfl) (by omega) (by omega) ?_;clear m;intro A5 cap5 u m;simp only[zF,zG] at m;simp only[zz] at m;rw[Hl (by omega)] at m;refine aS 2 [] m ?_;simp only[↓aD];intro u m;have hca:=hT.at (show k-1<ys.length by omega);refine cP 4 [0] m ?_;simp only[↓aD];intro u m;refine aC (aF eA aX rfl rfl (by omega) (by omega) (jQ (show _=k-1 by omega))) ?_;simp only[zz];refine aQ rfl (lies1 (m.ext.cell hca) bE) ?_;simp only[zz];refine aC (eG rfl rfl (by omega) (pH (n:=256))) (aC (jB aav iW rfl (Bc (by omega))) ?_);simp only[zz];refine iO oA (z:=.int .u8 0) (by kernel_rfl) rfl rfl rfl ?_;intro u g3 e hg hB;replace m:=m.newB e hg hB;clear e hg hB;simp only[zz];refine bQ m 2 rfl rfl oA Sy rfl (by decide) rfl rfl rfl (m.b 0 rfl).rowsO (fW rfl) (by first | omega | (simp;omega)) (by first | omega | (simp;omega)) ?_;clear m;intro A5 cap5 u m;simp only[zF,zG] at m;simp only[zz] at m;rw[Hl (by omega)] at m;refine aS 8 [0] m ?_;simp only[↓aD];refine⟨by omega,?_⟩;intro u m;have hos2:os++[dj (ys[k-1] / 256)]++[dj (ys[k-1]%256)]=nT ys (k-1):=by rw[r1,hos]
     rw[show ((k:Int)-1-1)=((k-1:Nat):Int)-1 by omega];refine hK1 (k-1) _ _ ?_ ?_ ?_
     · omega
     · simp only[zz,zv]
     ·
      simp only[zQ,zR,zD,zE];exact⟨k-1,j+1+1,os++[dj (ys[k-1] / 256)]++[dj (ys[k-1]%256)],A5,cap5,rfl,(m.sel [false,false,true,true]),by simp only[aw,ip];omega,hos2,by omega,fun _=>r2,by rw[hos2];exact h2l _,rfl⟩
    ·
     subst hkl;obtain⟨f1,f2⟩:=aal (by omega) htop hla;have hos0:os=[]:=by rw[hos];exact Tz ys
     refine cP 9 [2,0] m ?_;simp only[↓aD,lQ];refine⟨by omega,?_⟩;intro u m;refine dN rfl (aC (aF eA aX rfl rfl (by omega) (by omega) (jQ (show _=ys.length-1 by omega))) (dN rfl ?_));simp only[zz];refine aQ rfl (lies1 (m.ext.cell hca) bE) ?_;simp only[zz];refine aS 3 [0,0] m ?_;simp only[↓aD];intro u m;refine bG rfl (fun hc3=>?_) (fun hc3=>?_)
     ·
      have hca:=hT.at (show ys.length-1<ys.length by omega);refine aW 4 [0] m ?_;simp only[↓aD];intro u m;refine aC (aF eA aX rfl rfl (by omega) (by omega) (jQ (show _=ys.length-1 by omega))) ?_;simp only[zz];refine aQ rfl (lies1 (m.ext.cell hca) bE) ?_;simp only[zz];refine aC (yJ rfl rfl (by omega) (sR (n:=256) (by omega))) (aC (jB aav iW rfl (Bc (by omega))) ?_);simp only[zz];refine iO oA (z:=.int .u8 0) (by kernel_rfl) rfl rfl rfl ?_;intro u g2 e hg hB;replace m:=m.newB e hg hB;clear e hg hB;simp only[zz];refine bQ m 1 rfl rfl oA Sy rfl (by decide) rfl rfl rfl (m.b 0 rfl).rowsO (fW rfl) (by omega) (by omega) ?_;clear m;intro A5 cap5 u m;simp only[zF,zG] at m;simp only[zz] at m;rw[Hl (by omega)] at m;refine aS 2 [] m ?_;simp only[↓aD];intro u m;have hca:=hT.at (show ys.length-1<ys.length by omega);refine cP 4 [0] m ?_;simp only[↓aD];intro u m;refine aC (aF eA aX rfl rfl (by omega) (by omega) (jQ (show _=ys.length-1 by omega))) ?_;simp only[zz];refine aQ rfl (lies1 (m.ext.cell hca) bE) ?_;simp only[zz];refine aC (eG rfl rfl (by omega) (pH (n:=256))) (aC (jB aav iW rfl (Bc (by omega))) ?_);simp only[zz];refine iO oA (z:=.int .u8 0) (by kernel_rfl) rfl rfl rfl ?_;intro u g3 e hg hB;replace m:=m.newB e hg hB;clear e hg hB;simp only[zz];refine bQ m 2 rfl rfl oA Sy rfl (by decide) rfl rfl rfl (m.b 0 rfl).rowsO (fW rfl) (by first | omega | (simp;omega)) (by first | omega | (simp;omega)) ?_;clear m;intro A5 cap5 u m;simp only[zF,zG] at m;simp only[zz] at m;rw[Hl (by omega)] at m;refine aS 8 [0] m ?_;simp only[↓aD];refine⟨by omega,?_⟩;intro u m;have hos2:os++[dj (ys[ys.length-1] / 256)]++[dj (ys[ys.length-1]%256)]=nT ys (ys.length-1):=by rw[f1,if_pos (by omega),hos0];rfl
      rw[show ((ys.length:Int)-1-1)=((ys.length-1:Nat):Int)-1 by omega];refine hK1 (ys.length-1) _ _ ?_ ?_ ?_
      · omega
      · simp only[zz,zv]
      ·
       simp only[zQ,zR,zD,zE];exact⟨ys.length-1,j+1+1,os++[dj (ys[ys.length-1] / 256)]++[dj (ys[ys.length-1]%256)],A5,cap5,rfl,(m.sel [false,false,true,true]),by simp only[aw,ip];omega,hos2,by omega,fun _=>f2,by rw[hos2];exact h2l _,rfl⟩
     ·
      refine aW 1 [] m ?_;simp only[↓aD];intro u m;have hca:=hT.at (show ys.length-1<ys.length by omega);refine cP 4 [0] m ?_;simp only[↓aD];intro u m;refine aC (aF eA aX rfl rfl (by omega) (by omega) (jQ (show _=ys.length-1 by omega))) ?_;simp only[zz];refine aQ rfl (lies1 (m.ext.cell hca) bE) ?_;simp only[zz];refine aC (eG rfl rfl (by omega) (pH (n:=256))) (aC (jB aav iW rfl (Bc (by omega))) ?_);simp only[zz];refine iO oA (z:=.int .u8 0) (by kernel_rfl) rfl rfl rfl ?_;intro u g2 e hg hB;replace m:=m.newB e hg hB;clear e hg hB;simp only[zz];refine bQ m 1 rfl rfl oA Sy rfl (by decide) rfl rfl rfl (m.b 0 rfl).rowsO (fW rfl) (by first | omega | (simp;omega)) (by first | omega | (simp;omega)) ?_;clear m;intro A5 cap5 u m;simp only[zF,zG] at m;simp only[zz] at m;rw[Hl (by omega)] at m;refine aS 8 [0] m ?_;simp only[↓aD];refine⟨by omega,?_⟩;intro u m;have hos2:os++[dj (ys[ys.length-1]%256)]=nT ys (ys.length-1):=by rw[f1,if_neg (by omega),hos0]
      rw[show ((ys.length:Int)-1-1)=((ys.length-1:Nat):Int)-1 by omega];refine hK1 (ys.length-1) _ _ ?_ ?_ ?_
      · omega
      · simp only[zz,zv]
      ·
       simp only[zQ,zR,zD,zE];exact⟨ys.length-1,j+1,os++[dj (ys[ys.length-1]%256)],A5,cap5,rfl,(m.sel [false,true,true]),by simp only[aw,ip];omega,hos2,by omega,fun _=>f2,by rw[hos2];exact h2l _,rfl⟩
   ·
    refine aW 5 [0] m ?_;simp only[↓aD];intro u m;refine fF (Nt oA aav oT rfl (m.o 0 rfl).own) (aS 4 [1] m ?_);simp only[↓aD,al3,fC,aa];intro u m;refine aR rfl ⟨_,rfl,((m.b 1 rfl).full cL aP)⟩ ?_;try simp only[zD,zE]
    exact⟨_,rfl,m.ext,by (obtain rfl:k=0:=by omega);(have hV:val 65536 ys≠0:=Nat.ne_of_gt (Gh (by omega) htr hy0));rw[hos,ab4 hyd neg,←hvx];simp[Lith.W,Wd,hV]⟩
theorem ae5{k:Nat}{a b:Int}(ha:Bd k a)(hb:Bd k b):(digs 65536 (a*b).natAbs).length≤k+k:=wA (Bd.mul ha hb)
theorem Uq{a:Int}:(((digs 65536 a.natAbs).length:Int)=0)↔a=0:=by
 constructor
 ·
  intro h;have h0:digs 65536 a.natAbs=[]:=ej (by omega);have:=(uN (by omega)).1 h0;omega
 · rintro rfl;rfl
theorem Hm{a:Int}(ha:Bd 1000000 a):dL prog 211 [W a] (.int .i64 (aY a)):=by
 intro w;refine⟨anL,?_⟩;have m:=Mem.refl w
 go_enter func211,ntmps211
 refine eC 9 [0,0] m ?_;simp only[↓aD,fC];intro g1;intro u m;refine bJ rfl rfl (wJ _ (kF ha)) ?_;rintro v u e ⟨A1,c1,rfl,hD1⟩;replace m:=m.ext' e;simp only[zz];rw[kD] at hD1 ⊢;refine Df 3 [0,0] m ?_;simp only[↓aD,lQ];rintro u m rfl;refine bG rfl (fun hc1=>?_) (fun hc1=>?_)
 ·
  have h0:=Uq.1 hc1;refine jF 5 [] m ?_;simp only[↓aD];rintro u m rfl;refine aR rfl rfl ?_;try simp only[zD,zE]
  exact⟨_,rfl,m.ext,by rw[h0];rfl⟩
 ·
  refine jF 7 [0,0] m ?_;simp only[↓aD,mE,Hi,aa];rintro u m rfl;refine jZ rfl (fun hc2=>?_) (fun hc2=>?_)
  ·
   have hn:=Jd hc2;refine jF 5 [] m ?_;simp only[↓aD];rintro u m rfl;refine aR rfl rfl ?_;try simp only[zD,zE]
   exact⟨_,rfl,m.ext,by rw[Cj hn]⟩
  ·
   have hn:=Eo hc2;have h0:¬a=0:=fun e=>hc1 (Uq.2 e);refine jF 6 [] m ?_;simp only[↓aD];rintro u m rfl;refine aR rfl rfl ?_;try simp only[zD,zE]
   exact⟨_,rfl,m.ext,by rw[Ck (by omega)]⟩
theorem apy{a:Int}(ha:Bd 1000000 a):dL prog 325 [W a] (W (-a)):=by
 intro w;refine⟨aow,?_⟩;have m:=Mem.refl w;have hla:(digs 65536 a.natAbs).length≤1000000:=wA ha
 go_enter func325,ntmps325
 refine eC 6 [0] m ?_;simp only[↓aD,mR];intro g1 g2;intro u m;refine mh m [false,true] [(0,true),(1,true),(2,true),(3,true),(4,false),(5,false),(6,false)] aB (by kernel_rfl) (bT (fun _ _ _ _ _ h=>h)) (ol:=?_) ?hol ?_
 case hol=>simp only[zw,zQ,zR];try rfl
 clear m;intro u m;refine Oi 4 [0,0] ?_;simp only[↓aD,mE,Hi,fC,aa];refine bK (bJ rfl rfl (wJ _ (kF ha)) ?_);rintro v u e ⟨A1,c1,rfl,hD1⟩;replace m:=m.ext' e;simp only[zz];rw[kD] at hD1 ⊢;refine aK (⟨m.sel [false,true],?_⟩);refine bK (bJ rfl rfl (xS _ hD1 (az hla (by decide))) ?_);rintro v u e rfl;replace m:=m.ext' e;simp only[zz];simp only[jC];refine aK (⟨m.sel [false,true],?_⟩);refine bK (bR m 0 rfl rfl rfl aP (iS rfl) rfl ?_);clear m;intro u m;simp only[zy,zx,cA,zF,zG,aa] at m;refine aK (⟨m.sel [false,true],?_⟩);refine cK ?_;rw[adm] at m;refine lK 1 [] m ?_;simp only[↓aD];rintro u m rfl;exact aR rfl ⟨_,rfl,((m.b 0 rfl).full cL aP)⟩ (⟨_,rfl,m.ext,rfl⟩)
theorem acn{a b:Int}(ha:Bd 1000000 a)(hb:Bd 1000000 b):dL prog 200 [W a,W b] (W (a+b)):=by
 intro w;refine⟨anA,?_⟩;have m:=Mem.refl w;have hla:(digs 65536 a.natAbs).length≤1000000:=wA ha;have hlb:(digs 65536 b.natAbs).length≤1000000:=wA hb
 go_enter func200,ntmps200
 refine eC 9 [2,0] m ?_;simp only[↓aD,mR,fC];intro g1 g2 g3;intro u m;refine bJ rfl rfl (wJ _ (kF ha)) ?_;rintro v u e ⟨A1,c1,rfl,hD1⟩;replace m:=m.ext' e;simp only[zz];rw[kD] at hD1 ⊢;refine Df 5 [1,0] m ?_;simp only[↓aD,fC];rintro u m rfl;refine bJ rfl rfl (wJ _ (kF hb)) ?_;rintro v u e ⟨A2,c2,rfl,hD2⟩;replace m:=m.ext' e;replace hD1:=hD1.ext e;simp only[zz];rw[kD] at hD2 ⊢;refine Df 9 [2,1,0] m ?_;simp only[↓aD,mE,Hi,aa];rintro u m rfl;refine aC (abr Yx rfl rfl) (Df 1 [0] m ?_);simp only[↓aD];rintro u m rfl;refine bG rfl (fun hc1=>?_) (fun hc1=>?_)
 ·
  refine jF 1 [0] m ?_;simp only[↓aD];rintro u m rfl;refine mhe m [false,true,true] [(0,true),(2,true),(3,true),(1,true),(4,false),(5,false),(6,false)] aB (by kernel_rfl) (bT (fun _ _ _ _ _ h=>h)) (ol:=?_) ?hol ?_
  case hol=>simp only[zw,zQ,zR];try rfl
  clear m;intro u e m;replace hD1:=hD1.ext e;replace hD2:=hD2.ext e;refine Oi 4 [1] ?_;simp only[↓aD,mE,Hi,aa];refine bK (bJ rfl rfl (apx _ hD1.here hD2.here (az hla (by decide)) (az hlb (by decide))) ?_);rintro v u e ⟨A3,c3,os,rfl,hD3,hv3,hl3⟩;replace m:=m.ext' e;simp only[zz];simp only[jC] at hv3;refine aK (⟨m.sel [false,true,true],?_⟩);refine bK (bJ rfl rfl (xS _ hD3 (by omega)) ?_);rintro v u e rfl;replace m:=m.ext' e;simp only[zz];rw[hv3];refine aK (⟨m.sel [false,true,true],?_⟩);refine bK (bR m 0 rfl rfl rfl aP (iS rfl) rfl ?_);clear m;intro u m;simp only[zy,zx,cA,zF,zG,aa] at m;refine aK (⟨m.sel [false,true,true],?_⟩);refine cK ?_;rw[adn hc1] at m;refine lK 1 [] m ?_;simp only[↓aD];rintro u m rfl;exact aR rfl ⟨_,rfl,((m.b 0 rfl).full cL aP)⟩ (⟨_,rfl,m.ext,rfl⟩)
 ·
  refine jF 6 [0] m ?_;simp only[↓aD];rintro u m rfl;refine bJ rfl rfl (ae4 _ hD1 hD2 (Af _) (Af _)) ?_;rintro v u e rfl;replace m:=m.ext' e;replace hD1:=hD1.ext e;replace hD2:=hD2.ext e;simp only[zz];simp only[jC];refine Df 2 [0,0] m ?_;simp only[↓aD];rintro u m rfl;refine bG rfl (fun hc2=>?_) (fun hc2=>?_)
  ·
   have hge:=Ny.1 hc2;refine jF 1 [0] m ?_;simp only[↓aD];rintro u m rfl;refine mhe m [false,true,true] [(0,true),(2,true),(3,true),(1,true),(4,false),(5,false),(6,false)] aB (by kernel_rfl) (bT (fun _ _ _ _ _ h=>h)) (ol:=?_) ?hol ?_
   case hol=>simp only[zw,zQ,zR];try rfl
   clear m;intro u e m;replace hD1:=hD1.ext e;replace hD2:=hD2.ext e;refine Oi 4 [1] ?_;simp only[↓aD,mE,Hi,aa];refine bK (bJ rfl rfl (adO _ hD1.here hD2.here (Gk hge) (by simp only[jC];omega) (az hla (by decide))) ?_);rintro v u e ⟨⟨A3,c3,rfl,hD3⟩,_⟩;replace m:=m.ext' e;simp only[zz];simp only[jC] at hD3 ⊢;have hl3:=Gk (Nat.sub_le a.natAbs b.natAbs);refine aK (⟨m.sel [false,true,true],?_⟩);refine bK (bJ rfl rfl (xS _ hD3 (az hl3 (az hla (by decide)))) ?_);rintro v u e rfl;replace m:=m.ext' e;simp only[zz];simp only[jC];refine aK (⟨m.sel [false,true,true],?_⟩);refine bK (bR m 0 rfl rfl rfl aP (iS rfl) rfl ?_);clear m;intro u m;simp only[zy,zx,cA,zF,zG,aa] at m;refine aK (⟨m.sel [false,true,true],?_⟩);refine cK ?_;rw[agB hc1 hge] at m;refine lK 1 [] m ?_;simp only[↓aD];rintro u m rfl;exact aR rfl ⟨_,rfl,((m.b 0 rfl).full cL aP)⟩ (⟨_,rfl,m.ext,rfl⟩)
  ·
   have hlt:a.natAbs<b.natAbs:=Nat.lt_of_not_le fun h=>hc2 (Ny.2 h);refine jF 2 [0] m ?_;simp only[↓aD];rintro u m rfl;refine mhe m [false,true,true] [(0,true),(2,true),(3,true),(1,true),(4,false),(5,false),(6,false)] aB (by kernel_rfl) (bT (fun _ _ _ _ _ h=>h)) (ol:=?_) ?hol ?_
   case hol=>simp only[zw,zQ,zR];try rfl
   clear m;intro u e m;replace hD1:=hD1.ext e;replace hD2:=hD2.ext e;refine Oi 4 [0] ?_;simp only[↓aD,mE,Hi,aa];refine bK (bJ rfl rfl (adO _ hD2.here hD1.here (Gk (Nat.le_of_lt hlt)) (by simp only[jC];omega) (az hlb (by decide))) ?_);rintro v u e ⟨⟨A3,c3,rfl,hD3⟩,_⟩;replace m:=m.ext' e;simp only[zz];simp only[jC] at hD3 ⊢;have hl3:=Gk (Nat.sub_le b.natAbs a.natAbs);refine aK (⟨m.sel [false,true,true],?_⟩);refine bK (bJ rfl rfl (xS _ hD3 (az hl3 (az hlb (by decide)))) ?_);rintro v u e rfl;replace m:=m.ext' e;simp only[zz];simp only[jC];refine aK (⟨m.sel [false,true,true],?_⟩);refine bK (bR m 0 rfl rfl rfl aP (iS rfl) rfl ?_);clear m;intro u m;simp only[zy,zx,cA,zF,zG,aa] at m;refine aK (⟨m.sel [false,true,true],?_⟩);refine cK ?_;rw[agA hc1 hlt] at m;refine lK 1 [] m ?_;simp only[↓aD];rintro u m rfl;exact aR rfl ⟨_,rfl,((m.b 0 rfl).full cL aP)⟩ (⟨_,rfl,m.ext,rfl⟩)
theorem Xh{a b:Int}(ha:Bd 1000000 a)(hb:Bd 1000000 b):dL prog 279 [W a,W b] (W (a-b)):=by
 intro w;refine⟨aoa,?_⟩;have m:=Mem.refl w
 go_enter func279,ntmps279
 refine eC 7 [0] m ?_;simp only[↓aD,mR];intro g1 g2 g3;intro u m;refine dA m 4 aB (by kernel_rfl) ?_;simp only[zy];refine ql rfl (fun u m=>((m.b 2 rfl).full cL aP)) ?_;simp only[zz];refine ql rfl (fun u m=>((m.b 1 rfl).full cL aP)) ?_;simp only[zz];refine eR rfl rfl (apy hb) ?_;simp only[zz];refine eR rfl rfl (acn ha hb.neg) (bD ?_);clear m;intro u m;simp only[zz];refine bR m 0 rfl rfl rfl aP (iS rfl) rfl ?_;clear m;intro u m;simp only[zy,zx,cA,zF,zG,aa] at m;refine aK ?_;rw[←Int.sub_eq_add_neg] at m;refine cP 1 [] m ?_;simp only[↓aD];intro u m;exact aR rfl ⟨_,rfl,((m.b 0 rfl).full cL aP)⟩ (⟨_,rfl,m.ext,rfl⟩)
theorem Qj{a b:Int}(ha:Bd 1000000 a)(hb:Bd 1000000 b):dL prog 231 [W a,W b] (W (a*b)):=by
 intro w;refine⟨anS,?_⟩;have m:=Mem.refl w;have hla:(digs 65536 a.natAbs).length≤1000000:=wA ha;have hlb:(digs 65536 b.natAbs).length≤1000000:=wA hb;have hls:=ae5 ha hb
 go_enter func231,ntmps231
 refine eC 7 [0] m ?_;simp only[↓aD,mR];intro g1 g2 g3;intro u m;refine mh m [false,true,true] [(0,true),(2,true),(1,true),(3,true),(4,true),(5,true),(7,true),(6,false),(8,false),(9,false),(10,false),(11,false)] aB (by kernel_rfl) (bT (fun _ _ _ _ _ h=>h)) (ol:=?_) ?hol ?_
 case hol=>simp only[zw,zQ,zR];try rfl
 clear m;intro u m;refine Oi 4 [1,0] ?_;simp only[↓aD,mE,Hi,aa];refine bB (af9 Yx rfl rfl) ?_;simp only[zz];refine eN rfl (fun u m=>((m.b 1 rfl).full cL aP)) ?_;simp only[zz];refine eN rfl (fun u m=>((m.b 0 rfl).full cL aP)) ?_;simp only[zz];refine bK (bJ rfl rfl (wJ _ (kF ha)) ?_);rintro v u e ⟨A1,c1,rfl,hD1⟩;replace m:=m.ext' e;simp only[zz];rw[kD] at hD1 ⊢;refine aK (⟨m.sel [false,true,true],?_⟩);refine bK (bJ rfl rfl (wJ _ (kF hb)) ?_);rintro v u e ⟨A2,c2,rfl,hD2⟩;replace m:=m.ext' e;replace hD1:=hD1.ext e;simp only[zz];rw[kD] at hD2 ⊢;refine aK (⟨m.sel [false,true,true],?_⟩);refine bK (bJ rfl rfl (akO _ hD1.here hD2.here (az hla (by decide)) (az hlb (by decide))) ?_);rintro v u e ⟨⟨A3,c3,rfl,hD3⟩,_⟩;replace m:=m.ext' e;simp only[zz];simp only[jC] at hD3 ⊢;rw[←Int.natAbs_mul] at hD3 ⊢;refine aK (⟨m.sel [false,true,true],?_⟩);refine bK (bJ rfl rfl (xS _ hD3 (az hls (by decide))) ?_);rintro v u e rfl;replace m:=m.ext' e;simp only[zz];simp only[jC];refine aK (⟨m.sel [false,true,true],?_⟩);refine bK (bR m 0 rfl rfl rfl aP (iS rfl) rfl ?_);clear m;intro u m;simp only[zy,zx,cA,zF,zG,aa] at m;refine aK (⟨m.sel [false,true,true],?_⟩);refine cK ?_;rw[Int.natAbs_mul,ado] at m;refine lK 1 [] m ?_;simp only[↓aD];rintro u m rfl;exact aR rfl ⟨_,rfl,((m.b 0 rfl).full cL aP)⟩ (⟨_,rfl,m.ext,rfl⟩)
theorem Cr{n:Int}(h:yL n):dL prog 232 [.int .i64 n] (W n):=by
 intro w;refine⟨anT,?_⟩;have m:=Mem.refl w;have hna:=h.natAbs;obtain⟨N,hN⟩:∃N,N=n.natAbs:=⟨_,rfl⟩
 go_enter func232,ntmps232
 refine eC 6 [0] m ?_;simp only[↓aD,mR];intro g1;intro u m;refine aC aM ?_;replace m:=m.nilO 3 1;refine aS 2 [] m ?_;simp only[↓aD];intro u m;rcases (show n<0∨0≤n by omega) with h0 | h0
 ·
  have hwn:true=fP n:=(decide_eq_true h0).symm;refine cP 2 [0] m ?_;simp only[↓aD];intro u m;refine aC (jB kQ iW rfl (adq h h0)) (aS 11 [1,0] m ?_);simp only[↓aD];refine⟨by omega,?_⟩;intro u m;refine aC (tJ rfl (Tj hna (by omega))) (aS 4 [0] m ?_);simp only[↓aD];intro u m;refine cE [3,4] [11,12,13,14,15,16,17,18,19,20] (fun n vs wl=>∃(z j:Nat) (os:List Nat) (A3:Option Addr) (cap3:Nat),vs=[.slice A3 j cap3,.int .u64 (z:Int)]∧Mem w wl [oI 3 1 A3 j cap3 (os.map xD),bI g1 [.bool false,.string ⟨#[]⟩] 95]∧(j=os.length)∧(val 65536 os+65536^os.length*z=N)∧(eE 65536 os)∧(z≤9223372036854775808)∧(z<2^(64-os.length))∧(os.length≤64)∧(n=z)) ?_ ?_
  ·
   apply Exists.intro;simp only[zQ,zR,zD,zE];exact⟨n.natAbs,0,[],none,0,rfl,m,rfl,by simp[val,hN],mL _,hna,by simp;omega,by simp,rfl⟩
  ·
   intro n vs wr hI u K1 hK1;clear m;obtain⟨z,j,os,A3,cap3,rfl,m,hj,hv,hd,hm,hol2,hol3,hn⟩:=hI;simp only[zu,zF,zG];refine aW 6 [0,0] m ?_;simp only[↓aD];intro u m;refine bG rfl (fun hc2=>?_) (fun hc2=>?_)
   ·
    refine aW 6 [0] m ?_;simp only[↓aD];intro u m;refine aC (eG rfl rfl (by omega) (pH (n:=65536))) (aC (jB iW kQ rfl (dY (by omega) (by omega))) ?_);simp only[zz];refine iO eA (z:=.int .i64 0) (by kernel_rfl) rfl rfl rfl ?_;intro u g2 e hg hB;replace m:=m.newB e hg hB;clear e hg hB;simp only[zz];refine bQ m 1 rfl rfl eA vV rfl (by decide) rfl rfl rfl (m.b 0 rfl).rowsO (fW rfl) (by omega) (by omega) ?_;clear m;intro A3 cap3 u m;simp only[zF,zG] at m;simp only[zA,zB,zC,zD,zE,lR] at m;refine aS 4 [0] m ?_;simp only[↓aD];intro u m;refine aC (yJ rfl rfl (by omega) (adl (n:=65536) (by omega))) (aS 3 [0] m ?_);simp only[↓aD];intro u m;have r:=Pg hv hd hol2 hol3 (show 0<z by omega);refine hK1 (z / 65536) _ _ ?_ ?_ ?_
    · omega
    · simp only[zz,zv]
    ·
     simp only[zQ,zR,zD,zE];exact⟨z / 65536,j+1,os++[z%65536],A3,cap3,rfl,(m.sel [false,true,true]),by simp;omega,r.1,r.2.1,by omega,r.2.2.1,r.2.2.2,rfl⟩
   ·
    refine aW 2 [] m ?_;simp only[↓aD];intro u m;obtain rfl:z=0:=by omega
    rw[j_,la] at hv;obtain⟨hD,_⟩:=Qi (m.o 0 rfl) hj hd (by omega);refine lK 4 [1,0] m ?_;simp only[↓aD];refine⟨by omega,?_⟩;rintro u m rfl;refine bJ rfl rfl (xS _ hD (by omega)) ?_;rintro v u e rfl;replace m:=m.ext' e;simp only[zz];rw[hv,hN,hwn,Gi];refine aS 3 [1] m ?_;simp only[↓aD,fC,aa];intro u m;exact aR rfl ⟨_,rfl,((m.b 1 rfl).full cL aP)⟩ (⟨_,rfl,m.ext,rfl⟩)
 ·
  have hwn:false=fP n:=(decide_eq_false (by omega)).symm;refine cP 2 [0] m ?_;simp only[↓aD];intro u m;refine aC (jB kQ iW rfl (agC h h0)) (aS 12 [2,0] m ?_);simp only[↓aD];refine⟨by omega,?_⟩;intro u m;refine cE [3,4] [11,12,13,14,15,16,17,18,19,20] (fun n vs wl=>∃(z j:Nat) (os:List Nat) (A3:Option Addr) (cap3:Nat),vs=[.slice A3 j cap3,.int .u64 (z:Int)]∧Mem w wl [oI 3 1 A3 j cap3 (os.map xD),bI g1 [.bool false,.string ⟨#[]⟩] 95]∧(j=os.length)∧(val 65536 os+65536^os.length*z=N)∧(eE 65536 os)∧(z≤9223372036854775808)∧(z<2^(64-os.length))∧(os.length≤64)∧(n=z)) ?_ ?_
  ·
   apply Exists.intro;simp only[zQ,zR,zD,zE];exact⟨n.natAbs,0,[],none,0,rfl,m,rfl,by simp[val,hN],mL _,hna,by simp;omega,by simp,rfl⟩
  ·
   intro n vs wr hI u K2 hK2;clear m;obtain⟨z,j,os,A3,cap3,rfl,m,hj,hv,hd,hm,hol2,hol3,hn⟩:=hI;simp only[zu,zF,zG];refine aW 6 [0,0] m ?_;simp only[↓aD];intro u m;refine bG rfl (fun hc2=>?_) (fun hc2=>?_)
   ·
    refine aW 6 [0] m ?_;simp only[↓aD];intro u m;refine aC (eG rfl rfl (by omega) (pH (n:=65536))) (aC (jB iW kQ rfl (dY (by omega) (by omega))) ?_);simp only[zz];refine iO eA (z:=.int .i64 0) (by kernel_rfl) rfl rfl rfl ?_;intro u g2 e hg hB;replace m:=m.newB e hg hB;clear e hg hB;simp only[zz];refine bQ m 1 rfl rfl eA vV rfl (by decide) rfl rfl rfl (m.b 0 rfl).rowsO (fW rfl) (by omega) (by omega) ?_;clear m;intro A3 cap3 u m;simp only[zF,zG] at m;simp only[zA,zB,zC,zD,zE,lR] at m;refine aS 4 [0] m ?_;simp only[↓aD];intro u m;refine aC (yJ rfl rfl (by omega) (adl (n:=65536) (by omega))) (aS 3 [0] m ?_);simp only[↓aD];intro u m;have r:=Pg hv hd hol2 hol3 (show 0<z by omega);refine hK2 (z / 65536) _ _ ?_ ?_ ?_
    · omega
    · simp only[zz,zv]
    ·
     simp only[zQ,zR,zD,zE];exact⟨z / 65536,j+1,os++[z%65536],A3,cap3,rfl,(m.sel [false,true,true]),by simp;omega,r.1,r.2.1,by omega,r.2.2.1,r.2.2.2,rfl⟩
   ·
    refine aW 2 [] m ?_;simp only[↓aD];intro u m;obtain rfl:z=0:=by omega
    rw[j_,la] at hv;obtain⟨hD,_⟩:=Qi (m.o 0 rfl) hj hd (by omega);refine lK 4 [2,0] m ?_;simp only[↓aD];refine⟨by omega,?_⟩;rintro u m rfl;refine bJ rfl rfl (xS _ hD (by omega)) ?_;rintro v u e rfl;replace m:=m.ext' e;simp only[zz];rw[hv,hN,hwn,Gi];refine aS 3 [1] m ?_;simp only[↓aD,fC,aa];intro u m;exact aR rfl ⟨_,rfl,((m.b 1 rfl).full cL aP)⟩ (⟨_,rfl,m.ext,rfl⟩)
end Go.Proofs.YtfekpcimgncioaaGreatDoor
namespace Go.Proofs.YtfekpcimgncioaaGreatDoor
open Go.Proofs.Tryz
open Go.RowKit Go.Lith
set_option maxRecDepth 100000
attribute [local irreducible] au cg fR Code.wp
end Go.Proofs.YtfekpcimgncioaaGreatDoor
namespace Go.Proofs.YtfekpcimgncioaaGreatDoor
open Go.Proofs.Tryz
open Go.RowKit Go.Lith
set_option maxRecDepth 100000
attribute [local irreducible] au cg fR bO cO Code.wp
attribute [local congr] pL fX fY fZ gA gB kI gC gD gE gF gG gH gI gJ gK gL gM eS eT gN gQ gS gT gU kK dC dD cR dB gR kJ eV eW eX gW gX kL
theorem Qk{l:List UInt8}(hl:l.length≤1000000000000000):dL prog 315 [.string (nC l),.int .u8 0] (.string (nC (jA l))):=by
 intro w;refine⟨aov,?_⟩;have m:=Mem.refl w
 go_enter func315,ntmps315
 refine eC 6 [0] m ?_;simp only[↓aD];intro u m;refine cE [0] [5,6,7,8,9,10,11,12,13,14,15] (fun n vs wl=>∃(k:List UInt8),vs=[.string (nC k)]∧Mem w wl []∧(jA k=jA l)∧(k.length≤1000000000000000)∧(n=k.length)) ?_ ?_
 ·
  apply Exists.intro;simp only[zQ,zR,zD,zE];exact⟨l,rfl,m,rfl,hl,rfl⟩
 ·
  intro n vs wr hI u K1 hK1;clear m;obtain⟨k,rfl,m,hk,hl,hn⟩:=hI;have hsz:=Em k;simp only[zu,zF,zG];refine aW 2 [] m ?_;simp only[↓aD];intro u m;by_cases hk0:0<k.length
  ·
   obtain⟨b,hb⟩:∃b,k[0]? = some b:=⟨k[0],am hk0⟩
   refine cP 2 [0] m ?_;simp only[↓aD];intro u m;refine aC (tK rfl oT rfl) (aS 3 [1,0] m ?_);simp only[↓aD];refine⟨by omega,?_⟩;intro u m;refine dN rfl (aC ((nZ oT rfl rfl (by omega) (by rw[aeA];exact hb))) ?_);refine aS 4 [0,0] m ?_;simp only[↓aD];intro u m;refine bG rfl (fun hc1=>?_) (fun hc1=>?_)
   ·
    refine aW 4 [0] m ?_;simp only[↓aD];intro u m;refine aC (af6 oT rfl rfl (by omega) (by omega)) (aS 2 [] m ?_);simp only[↓aD];intro u m;rw[show (1:Int).toNat=1 from rfl,abE];refine cP 1 [0] m ?_;simp only[↓aD];intro u m;refine hK1 ((k.drop 1).length) _ _ ?_ ?_ ?_
    · rw[gh];omega
    · simp only[zz,zv]
    ·
     simp only[zQ,zR,zD,zE];exact⟨k.drop 1,rfl,m,by rw[abF hb (by omega)];exact hk,by rw[gh];omega,rfl⟩
   ·
    refine aW 7 [] m ?_;simp only[↓aD];intro u m;refine aR rfl rfl ?_;try simp only[zD,zE]
    exact⟨_,rfl,m.ext,by rw[←hk,abG hb (by omega)]⟩
  ·
   obtain rfl:k=[]:=ej (by omega);refine cP 2 [0] m ?_;simp only[↓aD];intro u m;refine aC (tK rfl oT rfl) (aS 16 [2] m ?_);simp only[↓aD];refine⟨by omega,?_⟩;intro u m;refine aR rfl rfl ?_;try simp only[zD,zE]
   exact⟨_,rfl,m.ext,by rw[←hk,aeB]⟩
theorem aco{l:List UInt8}(hl:l.length≤1000000000000000):dL prog 258 [.string (nC l),.string ⟨#[0]⟩] (.string (nC (jA l))):=by
 intro w;refine⟨an8,?_⟩;have m:=Mem.refl w;have hsz:=Em l
 go_enter func258,ntmps258
 refine eC 6 [] m ?_;simp only[↓aD];intro u m;by_cases hk0:l=[]
 ·
  subst hk0;refine cP 2 [0] m ?_;simp only[↓aD];intro u m;refine aC (amx (abt oT rfl rfl) (show _=bw true by simp[nC])) (aS 12 [] m ?_);simp only[↓aD];intro u m;exact aR rfl rfl (⟨_,rfl,m.ext,rfl⟩)
 ·
  refine cP 2 [0] m ?_;simp only[↓aD];intro u m;refine aC (amx (abt oT rfl rfl) (show _=bw false by simp only[Zm,hk0,decide_false])) (aS 2 [0] m ?_);simp only[↓aD];intro u m;refine dN rfl (aC (amx (abt oT rfl rfl) (show _=bw false by simp)) ?_);refine aS 8 [0] m ?_;simp only[↓aD];intro u m;refine aC (tK rfl oT rfl) (aC (Is rfl rfl rfl) ?_);refine aS 2 [0] m ?_;simp only[↓aD];intro u m;refine dN rfl (aC ((nZ (b:=0) oT rfl rfl (by omega) rfl)) (dN rfl (aC (qH rfl rfl (by decide)) ?_)));refine aS 7 [0] m ?_;simp only[↓aD];intro u m;refine aC ((nZ (b:=0) oT rfl rfl (by omega) rfl)) ?_;simp only[zz];refine mW m rfl rfl (Qk hl) 3 [] ?_;simp only[↓aD];intro u m;exact aR rfl rfl (⟨_,rfl,m.ext,rfl⟩)
end Go.Proofs.YtfekpcimgncioaaGreatDoor
