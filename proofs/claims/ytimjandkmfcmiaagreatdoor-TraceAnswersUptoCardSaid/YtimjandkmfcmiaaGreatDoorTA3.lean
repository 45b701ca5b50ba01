/-
 Texts of one claim, laid together: Wide6, Wide1, Wide2, Wide3, Wide4, Wide5, Back, Wide7, Wide8, Wide9, Wide10, Ops4.
-/
import Derived.RangeFuncNested
import Derived.RangeFuncBound
import Derived.RangeFuncCalls
import Derived.RangeFuncBox
import Derived.RangeFuncLeaves
import Derived.Shelf.Abstract
import Derived.Shelf.RegionOpen
import Derived.WalkKit
import Derived.OwnWalkIn
import Derived.TacticsInMore
import Derived.LoopNIn
import Derived.LoopIn
import Derived.Maps.AppendAt
import Derived.Test.YtimjandkmfcmiaaGreatDoorTA2
open Go renaming wp_region_lit→aa,Value→aj,wp_skip→ar,wp_block→av,World→aw,wp_ret→bc,wpList→bh,wp_exit→bw,wpQuiet→ck
open Nat renaming reduceAdd→ab,zero_add→ah,lt_of_lt_of_le→ai,le_trans→ak,ne_of_gt→au,le_refl→bi,min_eq_left→co,mul_comm→dw,lt_of_le_of_lt→d_,eq_zero_or_pos→eg,add_sub_cancel→fe,mul_zero→fk,mod_lt→ft,div_le_self→fy,one_mul→gl,div_lt_iff_lt_mul→gv,le_of_not_lt→gx,pow_pos→iv,le_mul_of_pos_right→jd,le_mul_of_pos_left→kw,not_lt_zero→lg,sub_le→lp,reduceSub→l_
open Go.Exit renaming inBlock→ac,«then»→af
open Int renaming toNat_natCast→an,gcd→gb,natAbs_tdiv→jp,natAbs_tmod→lf
open List renaming getElem?_eq_getElem→ao,getElem?_eq_none→bj,replicate→bk,length_take→bl,map_append→br,eq_nil_of_length_eq_zero→bz,length_cons→ci,take_length→c_,eq_of_mem_replicate→di,length_map→dj,getElem_mem→dl,nil_append→dy,cons_append→ep,length_nil→eu,drop_zero→fg,drop_length→fh,size_toArray→gd,getElem_set_self→gu,length_drop→gz,take_zero→h_,getElem_set_ne→i_,drop_replicate→ja,append_toArray→ki,push_toArray→kx
open Go.Value renaming oneCell'→bf,bool→fi,ownBlock→mn
open Array renaming replicate_succ→jy,replicate_zero→jz
open Prod renaming snd→mz
set_option maxHeartbeats 8000000
set_option linter.unusedSimpArgs false
set_option linter.unusedVariables false
set_option linter.unusedSectionVars false
namespace Go.Proofs.YtimjandkmfcmiaaGreatDoor
open Go.Proofs.Tryz
open Go.RowKit Go.Lith
abbrev cJ:=@underlying97
set_option maxRecDepth 100000
attribute [local irreducible] bh ck eY Code.wp
theorem Eb{l:List UInt8}(hl:l.length≤1000000000000000):eB prog 125 [.string (mA l),.int .u8 0] (.string (mA (jH l))):=by
 intro w;refine⟨acI,?_⟩;have hX:=dU.refl w
 go_enter func125,ntmps125
 refine aF (fun K1 hK1=>aa (aA aD ?_));simp only[zz];refine aC (hK1 _ _ ?_);refine aF (fun K2 hK2=>av ?_);refine dI [0] [5,6,7,8,9,10,11,12,13,14,15] (fun n vs wl=>∃(k:List UInt8),vs=[.string (mA k)]∧(dU w wl)∧(jH k=jH l)∧(k.length≤1000000000000000)∧(n=k.length)) ?_ ?_
 ·
  apply Exists.intro;simp only[zQ,zR,zD,zE];exact⟨l,rfl,hX,rfl,hl,rfl⟩
 ·
  intro n vs wr hI u;obtain⟨k,rfl,hX,hk,hl,hn⟩:=hI;have hsz:=wZ k;simp only[zu,zF,zG];refine aF (fun K3 hK3=>aF (fun K4 hK4=>?_));by_cases hk0:0<k.length
  ·
   obtain⟨b,hb⟩:∃b,k[0]? = some b:=⟨k[0],ao hk0⟩
   refine aa (aA aB (aA (qP rfl nJ rfl) (aA (lN rfl rfl (by omega)) ?_)));simp only[zz];refine aA aB ?_;simp only[zz];refine aR rfl (aA aB ?_);simp only[zz];refine aR rfl ?_;refine aA ((mT nJ rfl rfl (by omega) (by rw[Tn];exact hb))) ?_;simp only[zz];refine aR rfl (aA aB ?_);simp only[zz];refine aR rfl (aA (mF rfl rfl) (aA (cT rfl) ?_));simp only[zz];refine aC (hK4 _ _ ?_);refine cW rfl (fun hc1=>?_) (fun hc1=>?_)
   ·
    refine ar ?_;refine hK3 _ _ (av (aa (aA aB (aA (Vq nJ rfl rfl (by omega) (by omega)) (aA aD ?_)))));simp only[zz];refine aC ?_;rw[show (1:Int).toNat=1 from rfl,Pb];simp only[ac,af];refine⟨(k.drop 1).length,_,?_,rfl,?_,?_⟩
    · rw[gz];omega
    · simp only[zz,zv]
    ·
     simp only[zQ,zR,zD,zE];exact⟨k.drop 1,rfl,hX,by rw[Pd hb (by omega)];exact hk,by rw[gz];omega,rfl⟩
   ·
    refine bw ?_;refine hK2 _ _ (aF (fun K5 hK5=>aa (aA aB (aA aD ?_))));simp only[zz];refine aC (hK5 _ _ ?_);refine bc ?_;try simp only[ac,af]
    refine bY rfl rfl ?_;try simp only[zD,zE]
    exact⟨_,rfl,hX,by rw[←hk,Pe hb (by omega)]⟩
  ·
   obtain rfl:k=[]:=bz (by omega);refine aa (aA aB (aA (qP rfl nJ rfl) (aA (kE rfl rfl (by omega)) ?_)));simp only[zz];refine aA aB ?_;simp only[zz];refine bO rfl ?_;simp only[zz];refine bO rfl ?_;simp only[zz];refine bO rfl ?_;simp only[zz];refine bO rfl ?_;simp only[zz];refine aA (cV rfl) ?_;simp only[zz];refine aC (hK4 _ _ ?_);refine eZ rfl (bw ?_);refine hK2 _ _ (aF (fun K6 hK6=>aa (aA aB (aA aD ?_))));simp only[zz];refine aC (hK6 _ _ ?_);refine bc ?_;try simp only[ac,af]
   refine bY rfl rfl ?_;try simp only[zD,zE]
   exact⟨_,rfl,hX,by rw[←hk,To]⟩
theorem Pj{l:List UInt8}(hl:l.length≤1000000000000000):eB prog 98 [.string (mA l),.string ⟨#[0]⟩] (.string (mA (jH l))):=by
 intro w;refine⟨afy,?_⟩;have hX:=dU.refl w;have hsz:=wZ l
 go_enter func98,ntmps98
 refine aF (fun K1 hK1=>aa (aA aD ?_));simp only[zz];refine aC (hK1 _ _ ?_);refine aF (fun K2 hK2=>aF (fun K3 hK3=>?_));by_cases hk0:l=[]
 ·
  subst hk0;refine aa (aA aB (aA (xR (Ol nJ rfl rfl) (show _=fi true by simp[mA])) (aA aB ?_)));simp only[zz];refine bK rfl ?_;simp only[zz];refine bK rfl ?_;simp only[zz];refine aA (cT rfl) ?_;simp only[zz];refine aC (hK3 _ _ ?_);refine bX rfl (aF (fun K4 hK4=>aa (aA aB (aA aD ?_))));simp only[zz];refine aC (hK4 _ _ ?_);refine bc ?_;try simp only[ac,af]
  refine bY rfl rfl ?_;try simp only[zD,zE]
  exact⟨_,rfl,hX,rfl⟩
 ·
  refine aa (aA aB (aA (xR (Ol nJ rfl rfl) (show _=fi false by simp only[Me,hk0,decide_false])) (aA aB ?_)));simp only[zz];refine aR rfl (aA aB ?_);simp only[zz];refine aR rfl (aA (xR (Ol nJ rfl rfl) (show _=fi false by simp)) (aA (cV rfl) ?_));simp only[zz];refine aC (hK3 _ _ ?_);refine eZ rfl (ar ?_);refine hK2 _ _ (aF (fun K5 hK5=>aF (fun K6 hK6=>aa (aA aB (aA (qP rfl nJ rfl) (aA (pL rfl rfl rfl) ?_))))));simp only[zz];refine aA aB ?_;simp only[zz];refine aR rfl (aA aB ?_);simp only[zz];refine aR rfl (aA ((mT (b:=0) nJ rfl rfl (by omega) rfl)) ?_);simp only[zz];refine aR rfl (aA (cD rfl rfl (by decide)) (aA (cT rfl) ?_));simp only[zz];refine aC (hK6 _ _ ?_);refine bX rfl (aF (fun K7 hK7=>aa (aA aB (aA aB ?_))));simp only[zz];refine aA ((mT (b:=0) nJ rfl rfl (by omega) rfl)) ?_;simp only[zz];refine gK rfl rfl (Eb hl) ?_;intro w1 hE;replace hX:=hX.trans hE;clear hE;simp only[zz];refine aA aD ?_;simp only[zz];refine aC (hK7 _ _ ?_);refine bc ?_;try simp only[ac,af]
  refine bY rfl rfl ?_;try simp only[zD,zE]
  exact⟨_,rfl,hX,rfl⟩
end Go.Proofs.YtimjandkmfcmiaaGreatDoor
namespace Go.Proofs.YtimjandkmfcmiaaGreatDoor
open Go.Proofs.Tryz
open Go.RowKit Go.Lith
set_option maxRecDepth 100000
attribute [local irreducible] bh ck eY Code.wp
theorem sC{A:Option Addr}{xs:List Nat}{na cap:Nat}(w:aw)(hS:eQ w A na cap xs):gZ prog 96 [.slice A na cap] w (fun v _=>v=.slice A (trim xs).length cap):=by
 skip
 refine⟨afw,?_⟩;have hX:=dU.refl w;obtain rfl:=hS.eq;have hl:=hS.len;have hle:=hS.le
 go_enter func96,ntmps96
 refine aF (fun K1 hK1=>aa (aA aD ?_));simp only[zz];refine aC (hK1 _ _ ?_);refine aF (fun K2 hK2=>av ?_);refine dI [0] [3,4,5,6,7,8,9,10,11,12,13,14,15,16,17,18,19] (fun n vs wl=>∃(k:Nat),vs=[.slice A k cap]∧(dU w wl)∧(k≤xs.length)∧(trim (xs.take k)=trim xs)∧(n=k)) ?_ ?_
 ·
  apply Exists.intro;simp only[zQ,zR,zD,zE];exact⟨xs.length,rfl,hX,bi _,by rw[c_],rfl⟩
 ·
  intro n vs wr hI u;obtain⟨k,rfl,hX,hk,ht,hn⟩:=hI;simp only[zu,zF,zG];refine aF (fun K3 hK3=>aF (fun K4 hK4=>?_));by_cases hk0:0<k
  ·
   obtain⟨a,rfl,hcell,hlt⟩:=(hS.ext hX).get (show k-1<xs.length by omega);refine aa (aA aB (aA (bR rfl cJ rfl) (aA (lN rfl rfl (by omega)) ?_)));simp only[zz];refine aA aB ?_;simp only[zz];refine aR rfl (aA aB ?_);simp only[zz];refine aR rfl (aA aB ?_);simp only[zz];refine aR rfl (aA (bR rfl cJ rfl) ?_);simp only[zz];refine aR rfl (aA (eH rfl rfl (aO (by omega) (by omega))) ?_);simp only[zz];refine aR rfl (aA (aS cJ bN rfl rfl (by omega) (by omega) (fH (show _=k-1 by omega))) ?_);simp only[zz];refine aR rfl (aI rfl (lies1 hcell fY) ?_);simp only[zz];refine aR rfl (aA (mF rfl rfl) (aA (cT rfl) ?_));simp only[zz];refine aC (hK4 _ _ ?_);refine cW rfl (fun hc1=>?_) (fun hc1=>?_)
   ·
    refine ar ?_;refine hK3 _ _ (av (aa (aA aB (aA aB (aA (bR rfl cJ rfl) ?_)))));simp only[zz];refine aA (eH rfl rfl (aO (by omega) (by omega))) (aA (oB cJ bN rfl rfl (show _=k-1 by omega) (by omega) (by omega)) (aA aD ?_));simp only[zz];refine aC ?_;simp only[ac,af];refine⟨k-1,_,?_,rfl,?_,?_⟩
    · omega
    · simp only[zz,zv]
    ·
     simp only[zQ,zR,zD,zE];exact⟨k-1,rfl,hX,by omega,Gz hk0 (by omega) hc1 ht,rfl⟩
   ·
    refine bw ?_;refine hK2 _ _ (aF (fun K5 hK5=>aa (aA aB (aA aD ?_))));simp only[zz];refine aC (hK5 _ _ ?_);refine bc ?_;try simp only[ac,af]
    refine bY rfl rfl ?_;try simp only[zD,zE]
    exact⟨_,rfl,hX,by rw[←Lx hk0 (by omega) hc1 ht]⟩
  ·
   obtain rfl:k=0:=by omega
   refine aa (aA aB (aA (bR rfl cJ rfl) (aA (kE rfl rfl (by omega)) ?_)));simp only[zz];refine aA aB ?_;simp only[zz];refine bO rfl ?_;simp only[zz];refine bO rfl ?_;simp only[zz];refine bO rfl ?_;simp only[zz];refine bO rfl ?_;simp only[zz];refine bO rfl ?_;simp only[zz];refine bO rfl ?_;simp only[zz];refine bO rfl ?_;simp only[zz];refine aA (cV rfl) ?_;simp only[zz];refine aC (hK4 _ _ ?_);refine eZ rfl (bw ?_);refine hK2 _ _ (aF (fun K6 hK6=>aa (aA aB (aA aD ?_))));simp only[zz];refine aC (hK6 _ _ ?_);refine bc ?_;try simp only[ac,af]
   refine bY rfl rfl ?_;try simp only[zD,zE]
   exact⟨_,rfl,hX,by rw[←Ly ht]⟩
theorem Xk{A B:Option Addr}{xs ys:List Nat}{na nb ca cb:Nat}(w:aw)(hS:eQ w A na ca xs)(hR:eQ w B nb cb ys)(tx:gN xs)(ty:gN ys):gZ prog 122 [.slice A na ca,.slice B nb cb] w (fun v _=>v=.int .i64 (Jl (val 4294967296 xs) (val 4294967296 ys))):=by
 skip
 refine⟨acG,?_⟩;have hX:=dU.refl w;obtain rfl:=hS.eq;obtain rfl:=hR.eq;have hl:=hS.len;have hl2:=hR.len
 go_enter func122,ntmps122
 refine aF (fun K1 hK1=>aa (aA aD ?_));simp only[zz];refine aC (hK1 _ _ ?_);refine aF (fun K2 hK2=>av (aF (fun K3 hK3=>aa (aA aB (aA (bR rfl cJ rfl) (aA aB ?_))))));simp only[zz];refine aA (bR rfl cJ rfl) (aA (dZ rfl rfl) (aA aD ?_));simp only[zz];refine aC (hK3 _ _ ?_);refine cW rfl (fun hc1=>?_) (fun hc1=>?_)
 ·
  refine aF (fun K4 hK4=>aa (aA aD ?_));simp only[zz];refine aC (hK4 _ _ ?_);refine bc ?_;try simp only[ac,af]
  refine bY rfl rfl ?_;try simp only[zD,zE]
  exact⟨_,rfl,hX,by rw[Jl,if_pos (kT (by omega) hS.digs hR.digs ty (by omega))]⟩
 ·
  refine aF (fun K5 hK5=>aa (aA aB (aA (bR rfl cJ rfl) (aA aB ?_))));simp only[zz];refine aA (bR rfl cJ rfl) (aA (gW rfl rfl) (aA aD ?_));simp only[zz];refine aC (hK5 _ _ ?_);refine cW rfl (fun hc2=>?_) (fun hc2=>?_)
  ·
   refine aF (fun K6 hK6=>aa (aA aD ?_));simp only[zz];refine aC (hK6 _ _ ?_);refine bc ?_;try simp only[ac,af]
   refine bY rfl rfl ?_;try simp only[zD,zE]
   exact⟨_,rfl,hX,by have:=kT (B:=4294967296) (by omega) hR.digs hS.digs tx (by omega);rw[Jl,if_neg (by omega),if_pos this]⟩
  ·
   refine ar ?_;refine hK2 _ _ (aF (fun K7 hK7=>aF (fun K8 hK8=>aa (aA aB (aA (bR rfl cJ rfl) (aA (eH rfl rfl (aO (by omega) (by omega))) ?_))))));simp only[zz];refine aA aD ?_;simp only[zz];refine aC (hK8 _ _ ?_);refine av (dI [5] [4,21,22,23,24,25,26,27,28,29,30,31,32,33,34,35,36,37,38,39,40,41,42,43,44] (fun n vs wl=>∃(k:Nat),vs=[.int .i64 ((k:Int)-1)]∧(dU w wl)∧(k≤xs.length)∧(xs.drop k=ys.drop k)∧(n=k)) ?_ ?_)
   ·
    apply Exists.intro;simp only[zQ,zR,zD,zE];exact⟨xs.length,rfl,hX,bi _,by rw[fh,show xs.length=ys.length by omega,fh],rfl⟩
   ·
    intro n vs wr hI u;obtain⟨k,rfl,hX,hk,hd,hn⟩:=hI;simp only[zu,zF,zG];refine aF (fun K9 hK9=>aF (fun K10 hK10=>aa (aA aB (aA (lD rfl rfl) ?_))));simp only[zz];refine aC (hK10 _ _ ?_);refine cW rfl (fun hc3=>?_) (fun hc3=>?_)
    ·
     refine ar ?_;refine hK9 _ _ (aF (fun K11 hK11=>av (av (aF (fun K12 hK12=>?_)))));obtain⟨a,rfl,hca,_⟩:=(hS.ext hX).get (show k-1<xs.length by omega);obtain⟨b,rfl,hcb,_⟩:=(hR.ext hX).get (show k-1<ys.length by omega);refine iH aP (by kernel_rfl) (aQ aB (aQ aB (aQ (aS cJ bN rfl rfl (by omega) (by omega) (fH (show _=k-1 by omega))) ?_)));simp only[zz];refine iA rfl (fun _ hE'=>(lies1 (hE'.cell hca) fY)) ?_;simp only[zz];refine aQ aB (aQ aB (aQ (aS cJ bN rfl rfl (by omega) (by omega) (fH (show _=k-1 by omega))) ?_));simp only[zz];refine iA rfl (fun _ hE'=>(lies1 (hE'.cell hcb) fY)) ?_;simp only[zz];refine aQ (dZ rfl rfl) (aQ aD ?_);simp only[zz];refine eD ?_;intro w1 hE;replace hX:=hX.trans hE;clear hE;refine hK12 _ _ (cW rfl (fun hc4=>?_) (fun hc4=>?_))
     ·
      refine aF (fun K13 hK13=>aa (aA aD ?_));simp only[zz];refine aC (hK13 _ _ ?_);refine bc ?_;try simp only[ac,af]
      refine bY rfl rfl ?_;try simp only[zD,zE]
      exact⟨_,rfl,hX,by rw[Jl,if_pos (Wn hS.digs (by omega) (by omega) (by omega) hd hc4)]⟩
     ·
      refine aF (fun K14 hK14=>?_);have hca:=(hS.ext hX).at (show k-1<xs.length by omega);have hcb:=(hR.ext hX).at (show k-1<ys.length by omega);refine iH aP (by kernel_rfl) (aQ aB (aQ aB (aQ (aS cJ bN rfl rfl (by omega) (by omega) (fH (show _=k-1 by omega))) ?_)));simp only[zz];refine iA rfl (fun _ hE'=>(lies1 (hE'.cell hca) fY)) ?_;simp only[zz];refine aQ aB (aQ aB (aQ (aS cJ bN rfl rfl (by omega) (by omega) (fH (show _=k-1 by omega))) ?_));simp only[zz];refine iA rfl (fun _ hE'=>(lies1 (hE'.cell hcb) fY)) ?_;simp only[zz];refine aQ (gW rfl rfl) (aQ aD ?_);simp only[zz];refine eD ?_;intro w2 hE;replace hX:=hX.trans hE;clear hE;refine hK14 _ _ (cW rfl (fun hc5=>?_) (fun hc5=>?_))
      ·
       refine aF (fun K15 hK15=>aa (aA aD ?_));simp only[zz];refine aC (hK15 _ _ ?_);refine bc ?_;try simp only[ac,af]
       refine bY rfl rfl ?_;try simp only[zD,zE]
       exact⟨_,rfl,hX,by have:=Wn hR.digs (by omega) (by omega) (by omega) hd.symm hc5;rw[Jl,if_neg (by omega),if_pos this]⟩
      ·
       refine ar ?_;refine hK11 _ _ (aa (aA aB (aA (eH rfl rfl (aO (by omega) (by omega))) (aA aD ?_))));simp only[zz];refine aC ?_;rw[show ((k:Int)-1-1)=((k-1:Nat):Int)-1 by omega];simp only[ac,af];refine⟨k-1,_,?_,rfl,?_,?_⟩
       · omega
       · simp only[zz,zv]
       ·
        simp only[zQ,zR,zD,zE];exact⟨k-1,rfl,hX,by omega,Te (by omega) (by omega) (by omega) hd hc4 hc5,rfl⟩
    ·
     refine bw ?_;refine hK7 _ _ (aF (fun K16 hK16=>aa (aA aD ?_)));simp only[zz];refine aC (hK16 _ _ ?_);refine bc ?_;try simp only[ac,af]
     refine bY rfl rfl ?_;try simp only[zD,zE]
     exact⟨_,rfl,hX,by have h0:k=0:=(by omega);subst h0;simp only[fg] at hd;rw[hd,Jl,if_neg (by omega),if_neg (by omega)]⟩
theorem afG{A B:Option Addr}{xs ys:List Nat}{na nb ca cb:Nat}(w:aw)(hS:eQ w A na ca xs)(hR:eQ w B nb cb ys)(hlx:xs.length≤1099511627776)(hly:ys.length≤1099511627776):gZ prog 121 [.slice A na ca,.slice B nb cb] w (iQ (val 4294967296 xs+val 4294967296 ys)):=by
 skip
 refine⟨acF,?_⟩;have hX:=dU.refl w;obtain rfl:=hS.eq;obtain rfl:=hR.eq
 go_enter func121,ntmps121
 refine aF (fun K1 hK1=>aa (aA aD ?_));simp only[zz];refine aC (hK1 _ _ ?_);refine aF (fun K2 hK2=>aF (fun K3 hK3=>aa (aA aB (aA (bR rfl cJ rfl) (aA aB ?_)))));simp only[zz];refine aA (bR rfl cJ rfl) (aA (dZ rfl rfl) ?_);simp only[zz];refine aC (hK3 _ _ ?_);refine cW rfl (fun hc1=>?_) (fun hc1=>?_)
 ·
  obtain⟨qb,rfl⟩:∃q,q=xs:=⟨_,rfl⟩
  obtain⟨qa,rfl⟩:∃q,q=ys:=⟨_,rfl⟩
  obtain⟨Qb,rfl⟩:∃q,q=A:=⟨_,rfl⟩
  obtain⟨Qa,rfl⟩:∃q,q=B:=⟨_,rfl⟩
  have hSa:=hR;have hSb:=hS;refine aa (aA aB (aA aB (aA aD ?_)));simp only[zz];refine aA aD ?_;simp only[zz];refine aC (hK2 _ _ ?_);refine aF (fun K4 hK4=>aa (aA aB (aA (bR rfl cJ rfl) (aA (aZ rfl rfl (aO (by omega) (by omega))) ?_))));simp only[zz];refine lU cJ oP rfl rfl rfl (show _=qa.length+1 by omega) (show _=qa.length+1 by omega) (by omega) (by omega) (by omega) (by omega) ?_;intro w1 g1 hE hg1 hB1;have hG1:=ak hX.size hg1;replace hX:=hX.trans hE;clear hE hg1;simp only[zz];refine aA aD ?_;simp only[zz];refine aC ?_;rw[iY] at hB1;refine hK4 _ _ (aF (fun K5 hK5=>aa (aA aD ?_)));simp only[zz];refine aC (hK5 _ _ ?_);refine aF (fun K6 hK6=>aF (fun K7 hK7=>aa (aA aB (aA (bR rfl cJ rfl) (aA aB ?_)))));simp only[zz];refine aC (hK7 _ _ ?_);refine av (dI [6,22] [7,8,23,24,25,26,27,28,29,30,31,32,33,34,35,36,37,38,39,40,41,42,43,44,45,46,47,48] (fun n vs wl=>∃(i c:Nat) (os:List Nat),vs=[.int .u64 (c:Int),.int .i64 (i:Int)]∧(dU w wl)∧(gG wl g1 (os.map lO) 101)∧(i≤qa.length)∧(os.length=qa.length+1)∧(val 4294967296 os+4294967296^i*c=val 4294967296 (qa.take i)+val 4294967296 (qb.take i))∧(os.drop i=bk (qa.length+1-i) 0)∧(dR 4294967296 os)∧(c≤1)∧(n=qa.length-i)) ?_ ?_)
  ·
   apply Exists.intro;simp only[zQ,zR,zD,zE];exact⟨0,0,bk (qa.length+1) 0,rfl,hX,hB1,by omega,by simp,by simp[gT,val],by simp,fun x hx=>by rw[di hx];decide,by omega,rfl⟩
  ·
   intro n vs wr hI u;obtain⟨i,c,os,rfl,hX,hB1,hi,hlo,hv,hz,hd,hc,hn⟩:=hI;simp only[zu,zF,zG];refine aF (fun K8 hK8=>aa (aA (dZ rfl rfl) ?_));simp only[zz];refine aC (hK8 _ _ ?_);refine aF (fun K9 hK9=>?_);refine cW rfl (fun hc2=>?_) (fun hc2=>?_)
   ·
    refine ar ?_;refine hK9 _ _ (aF (fun K10 hK10=>av (aF (fun K11 hK11=>aa (aA aB (aA aD ?_))))));simp only[zz];refine aC (hK11 _ _ ?_);refine aF (fun K12 hK12=>?_);obtain⟨a,rfl,hca,hla⟩:=(hSa.ext hX).get (show i<qa.length by omega);refine aa (aA aB (aA aB (aA (aS cJ bN rfl rfl (by omega) (by omega) (fH (an _))) ?_)));simp only[zz];refine aI rfl (lies1 hca fY) ?_;simp only[zz];refine aA aB (aA (aZ rfl rfl (fX (by omega) (by omega))) (aA aD ?_));simp only[zz];refine aC (hK12 _ _ ?_);refine aF (fun K13 hK13=>aF (fun K14 hK14=>aa (aA aB (aA aB (aA (bR rfl cJ rfl) ?_)))));simp only[zz];refine aA (dZ rfl rfl) ?_;simp only[zz];refine aC (hK14 _ _ ?_);refine cW rfl (fun hc3=>?_) (fun hc3=>?_)
    ·
     obtain⟨b,rfl,hcb,hlb⟩:=(hSb.ext hX).get (show i<qb.length by omega);refine aa (aA aB (aA aB (aA aB ?_)));simp only[zz];refine aA (aS cJ bN rfl rfl (by omega) (by omega) (fH (an _))) ?_;simp only[zz];refine aI rfl (lies1 hcb fY) ?_;simp only[zz];refine aA (aZ rfl rfl (fX (by omega) (by omega))) (aA aD ?_);simp only[zz];refine aC ?_;obtain⟨s,hs⟩:∃s:Nat,(s:Int)=↑qa[i]+↑c+↑qb[i]:=⟨qa[i]+c+qb[i],by omega⟩
     rw[←hs];have hs2:s=qa[i]+c+qb[i]?.getD 0:=by rw[ao (by omega)];simp;omega
     have hyb:qb[i]?.getD 0<4294967296:=by rw[ao (by omega)];exact hlb
     refine hK13 _ _ ?_;refine aa (aA aB (aA aB (aA aB ?_)));simp only[zz];refine aA (sI rfl rfl (oX (by omega) (by omega))) (aA aB (aA (mG rfl rfl (by omega) (Ha (by omega))) ?_));simp only[zz];refine aA (aS cJ bN rfl rfl (by omega) (by omega) (fS (an _))) ?_;simp only[zz];refine cE rfl (by simp only[zz];rfl) (by exact bN) hB1 (by simp;omega) (by simp[bf]) ?_;clear hB1;intro w2 hC hB1;replace hX:=hX.chg hC hG1;clear hC;rw[show ((s:Int)%4294967296)=((s%4294967296:Nat):Int) by omega,iD (by omega)] at hB1;refine aA aD ?_;simp only[zz];refine aC (hK10 _ _ ?_);refine aa (aA (aZ rfl rfl (aO (by omega) (by omega))) (aA aB ?_));simp only[zz];refine aC ?_;obtain⟨r1,r2,r3,r4⟩:=vU (by omega) hlo hv hz hd hc hs2 hla hyb;rw[show ((i:Int)+1)=((i+1:Nat):Int) by omega,show ((s:Int) / 4294967296)=((s / 4294967296:Nat):Int) by omega];simp only[ac,af];refine⟨qa.length-(i+1),_,?_,rfl,?_,?_⟩
     · omega
     · simp only[zz,zv]
     ·
      simp only[zQ,zR,zD,zE];exact⟨i+1,s / 4294967296,os.set i (s%4294967296),rfl,hX,hB1,by omega,by simpa using hlo,r1,r2,r3,r4,rfl⟩
    ·
     obtain⟨s,hs⟩:∃s:Nat,(s:Int)=↑qa[i]+↑c:=⟨qa[i]+c,by omega⟩
     rw[←hs];have hs2:s=qa[i]+c+qb[i]?.getD 0:=by rw[bj (by omega)];simp;omega
     have hyb:qb[i]?.getD 0<4294967296:=by rw[bj (by omega)];decide
     refine ar ?_;refine hK13 _ _ (aa (aA aB (aA aB (aA aB ?_))));simp only[zz];refine aA (sI rfl rfl (oX (by omega) (by omega))) (aA aB (aA (mG rfl rfl (by omega) (Ha (by omega))) ?_));simp only[zz];refine aA (aS cJ bN rfl rfl (by omega) (by omega) (fS (an _))) ?_;simp only[zz];refine cE rfl (by simp only[zz];rfl) (by exact bN) hB1 (by simp;omega) (by simp[bf]) ?_;clear hB1;intro w2 hC hB1;replace hX:=hX.chg hC hG1;clear hC;rw[show ((s:Int)%4294967296)=((s%4294967296:Nat):Int) by omega,iD (by omega)] at hB1;refine aA aD ?_;simp only[zz];refine aC (hK10 _ _ ?_);refine aa (aA (aZ rfl rfl (aO (by omega) (by omega))) (aA aB ?_));simp only[zz];refine aC ?_;obtain⟨r1,r2,r3,r4⟩:=vU (by omega) hlo hv hz hd hc hs2 hla hyb;rw[show ((i:Int)+1)=((i+1:Nat):Int) by omega,show ((s:Int) / 4294967296)=((s / 4294967296:Nat):Int) by omega];simp only[ac,af];refine⟨qa.length-(i+1),_,?_,rfl,?_,?_⟩
     · omega
     · simp only[zz,zv]
     ·
      simp only[zQ,zR,zD,zE];exact⟨i+1,s / 4294967296,os.set i (s%4294967296),rfl,hX,hB1,by omega,by simpa using hlo,r1,r2,r3,r4,rfl⟩
   ·
    refine bw ?_;refine hK6 _ _ (aF (fun K15 hK15=>?_));obtain rfl:i=qa.length:=by omega
    refine aa (aA aB (aA aB (aA (bR rfl cJ rfl) ?_)));simp only[zz];refine aA aB (aA (aS cJ bN rfl rfl (by omega) (by omega) (fS (an _))) ?_);simp only[zz];refine cE rfl (by simp only[zz];rfl) (by exact bN) hB1 (by simp;omega) (by simp[bf]) ?_;clear hB1;intro w2 hC hB1;replace hX:=hX.chg hC hG1;clear hC;rw[iD (by omega)] at hB1;refine aC (hK15 _ _ ?_);refine aF (fun K16 hK16=>aa (aA aB ?_));simp only[zz];refine bT rfl rfl (sC _ (hB1.nat (hd.set (show c<4294967296 by omega)) (by simp;omega) (by omega))) ?_;rintro v w3 hE rfl;replace hB1:=hB1.ext hE;replace hX:=hX.trans hE;clear hE;simp only[zz];refine aA aD ?_;simp only[zz];refine aC (hK16 _ _ ?_);refine bc ?_;try simp only[ac,af]
    refine bY rfl rfl ?_;try simp only[zD,zE]
    exact⟨_,rfl,hX,by first | exact iQ.of_trim (hB1.nat (hd.set (show c<4294967296 by omega)) (by simp;omega) (by omega)) (Cm (by omega) hlo hv hz) | (rw[Nat.add_comm];exact iQ.of_trim (hB1.nat (hd.set (show c<4294967296 by omega)) (by simp;omega) (by omega)) (Cm (by omega) hlo hv hz))⟩
 ·
  obtain⟨qa,rfl⟩:∃q,q=xs:=⟨_,rfl⟩
  obtain⟨qb,rfl⟩:∃q,q=ys:=⟨_,rfl⟩
  obtain⟨Qa,rfl⟩:∃q,q=A:=⟨_,rfl⟩
  obtain⟨Qb,rfl⟩:∃q,q=B:=⟨_,rfl⟩
  have hSa:=hS;have hSb:=hR;refine ar (hK2 _ _ ?_);refine aF (fun K17 hK17=>aa (aA aB (aA (bR rfl cJ rfl) (aA (aZ rfl rfl (aO (by omega) (by omega))) ?_))));simp only[zz];refine lU cJ oP rfl rfl rfl (show _=qa.length+1 by omega) (show _=qa.length+1 by omega) (by omega) (by omega) (by omega) (by omega) ?_;intro w1 g1 hE hg1 hB1;have hG1:=ak hX.size hg1;replace hX:=hX.trans hE;clear hE hg1;simp only[zz];refine aA aD ?_;simp only[zz];refine aC ?_;rw[iY] at hB1;refine hK17 _ _ (aF (fun K18 hK18=>aa (aA aD ?_)));simp only[zz];refine aC (hK18 _ _ ?_);refine aF (fun K19 hK19=>aF (fun K20 hK20=>aa (aA aB (aA (bR rfl cJ rfl) (aA aB ?_)))));simp only[zz];refine aC (hK20 _ _ ?_);refine av (dI [6,22] [7,8,23,24,25,26,27,28,29,30,31,32,33,34,35,36,37,38,39,40,41,42,43,44,45,46,47,48] (fun n vs wl=>∃(i c:Nat) (os:List Nat),vs=[.int .u64 (c:Int),.int .i64 (i:Int)]∧(dU w wl)∧(gG wl g1 (os.map lO) 101)∧(i≤qa.length)∧(os.length=qa.length+1)∧(val 4294967296 os+4294967296^i*c=val 4294967296 (qa.take i)+val 4294967296 (qb.take i))∧(os.drop i=bk (qa.length+1-i) 0)∧(dR 4294967296 os)∧(c≤1)∧(n=qa.length-i)) ?_ ?_)
  ·
   apply Exists.intro;simp only[zQ,zR,zD,zE];exact⟨0,0,bk (qa.length+1) 0,rfl,hX,hB1,by omega,by simp,by simp[gT,val],by simp,fun x hx=>by rw[di hx];decide,by omega,rfl⟩
  ·
   intro n vs wr hI u;obtain⟨i,c,os,rfl,hX,hB1,hi,hlo,hv,hz,hd,hc,hn⟩:=hI;simp only[zu,zF,zG];refine aF (fun K21 hK21=>aa (aA (dZ rfl rfl) ?_));simp only[zz];refine aC (hK21 _ _ ?_);refine aF (fun K22 hK22=>?_);refine cW rfl (fun hc2=>?_) (fun hc2=>?_)
   ·
    refine ar ?_;refine hK22 _ _ (aF (fun K23 hK23=>av (aF (fun K24 hK24=>aa (aA aB (aA aD ?_))))));simp only[zz];refine aC (hK24 _ _ ?_);refine aF (fun K25 hK25=>?_);obtain⟨a,rfl,hca,hla⟩:=(hSa.ext hX).get (show i<qa.length by omega);refine aa (aA aB (aA aB (aA (aS cJ bN rfl rfl (by omega) (by omega) (fH (an _))) ?_)));simp only[zz];refine aI rfl (lies1 hca fY) ?_;simp only[zz];refine aA aB (aA (aZ rfl rfl (fX (by omega) (by omega))) (aA aD ?_));simp only[zz];refine aC (hK25 _ _ ?_);refine aF (fun K26 hK26=>aF (fun K27 hK27=>aa (aA aB (aA aB (aA (bR rfl cJ rfl) ?_)))));simp only[zz];refine aA (dZ rfl rfl) ?_;simp only[zz];refine aC (hK27 _ _ ?_);refine cW rfl (fun hc3=>?_) (fun hc3=>?_)
    ·
     obtain⟨b,rfl,hcb,hlb⟩:=(hSb.ext hX).get (show i<qb.length by omega);refine aa (aA aB (aA aB (aA aB ?_)));simp only[zz];refine aA (aS cJ bN rfl rfl (by omega) (by omega) (fH (an _))) ?_;simp only[zz];refine aI rfl (lies1 hcb fY) ?_;simp only[zz];refine aA (aZ rfl rfl (fX (by omega) (by omega))) (aA aD ?_);simp only[zz];refine aC ?_;obtain⟨s,hs⟩:∃s:Nat,(s:Int)=↑qa[i]+↑c+↑qb[i]:=⟨qa[i]+c+qb[i],by omega⟩
     rw[←hs];have hs2:s=qa[i]+c+qb[i]?.getD 0:=by rw[ao (by omega)];simp;omega
     have hyb:qb[i]?.getD 0<4294967296:=by rw[ao (by omega)];exact hlb
     refine hK26 _ _ ?_;refine aa (aA aB (aA aB (aA aB ?_)));simp only[zz];refine aA (sI rfl rfl (oX (by omega) (by omega))) (aA aB (aA (mG rfl rfl (by omega) (Ha (by omega))) ?_));simp only[zz];refine aA (aS cJ bN rfl rfl (by omega) (by omega) (fS (an _))) ?_;simp only[zz];refine cE rfl (by simp only[zz];rfl) (by exact bN) hB1 (by simp;omega) (by simp[bf]) ?_;clear hB1;intro w2 hC hB1;replace hX:=hX.chg hC hG1;clear hC;rw[show ((s:Int)%4294967296)=((s%4294967296:Nat):Int) by omega,iD (by omega)] at hB1;refine aA aD ?_;simp only[zz];refine aC (hK23 _ _ ?_);refine aa (aA (aZ rfl rfl (aO (by omega) (by omega))) (aA aB ?_));simp only[zz];refine aC ?_;obtain⟨r1,r2,r3,r4⟩:=vU (by omega) hlo hv hz hd hc hs2 hla hyb;rw[show ((i:Int)+1)=((i+1:Nat):Int) by omega,show ((s:Int) / 4294967296)=((s / 4294967296:Nat):Int) by omega];simp only[ac,af];refine⟨qa.length-(i+1),_,?_,rfl,?_,?_⟩
     · omega
     · simp only[zz,zv]
     ·
      simp only[zQ,zR,zD,zE];exact⟨i+1,s / 4294967296,os.set i (s%4294967296),rfl,hX,hB1,by omega,by simpa using hlo,r1,r2,r3,r4,rfl⟩
    ·
     obtain⟨s,hs⟩:∃s:Nat,(s:Int)=↑qa[i]+↑c:=⟨qa[i]+c,by omega⟩
     rw[←hs];have hs2:s=qa[i]+c+qb[i]?.getD 0:=by rw[bj (by omega)];simp;omega
     have hyb:qb[i]?.getD 0<4294967296:=by rw[bj (by omega)];decide
     refine ar ?_;refine hK26 _ _ (aa (aA aB (aA aB (aA aB ?_))));simp only[zz];refine aA (sI rfl rfl (oX (by omega) (by omega))) (aA aB (aA (mG rfl rfl (by omega) (Ha (by omega))) ?_));simp only[zz];refine aA (aS cJ bN rfl rfl (by omega) (by omega) (fS (an _))) ?_;simp only[zz];refine cE rfl (by simp only[zz];rfl) (by exact bN) hB1 (by simp;omega) (by simp[bf]) ?_;clear hB1;intro w2 hC hB1;replace hX:=hX.chg hC hG1;clear hC;rw[show ((s:Int)%4294967296)=((s%4294967296:Nat):Int) by omega,iD (by omega)] at hB1;refine aA aD ?_;simp only[zz];refine aC (hK23 _ _ ?_);refine aa (aA (aZ rfl rfl (aO (by omega) (by omega))) (aA aB ?_));simp only[zz];refine aC ?_;obtain⟨r1,r2,r3,r4⟩:=vU (by omega) hlo hv hz hd hc hs2 hla hyb;rw[show ((i:Int)+1)=((i+1:Nat):Int) by omega,show ((s:Int) / 4294967296)=((s / 4294967296:Nat):Int) by omega];simp only[ac,af];refine⟨qa.length-(i+1),_,?_,rfl,?_,?_⟩
     · omega
     · simp only[zz,zv]
     ·
      simp only[zQ,zR,zD,zE];exact⟨i+1,s / 4294967296,os.set i (s%4294967296),rfl,hX,hB1,by omega,by simpa using hlo,r1,r2,r3,r4,rfl⟩
   ·
    refine bw ?_;refine hK19 _ _ (aF (fun K28 hK28=>?_));obtain rfl:i=qa.length:=by omega
    refine aa (aA aB (aA aB (aA (bR rfl cJ rfl) ?_)));simp only[zz];refine aA aB (aA (aS cJ bN rfl rfl (by omega) (by omega) (fS (an _))) ?_);simp only[zz];refine cE rfl (by simp only[zz];rfl) (by exact bN) hB1 (by simp;omega) (by simp[bf]) ?_;clear hB1;intro w2 hC hB1;replace hX:=hX.chg hC hG1;clear hC;rw[iD (by omega)] at hB1;refine aC (hK28 _ _ ?_);refine aF (fun K29 hK29=>aa (aA aB ?_));simp only[zz];refine bT rfl rfl (sC _ (hB1.nat (hd.set (show c<4294967296 by omega)) (by simp;omega) (by omega))) ?_;rintro v w3 hE rfl;replace hB1:=hB1.ext hE;replace hX:=hX.trans hE;clear hE;simp only[zz];refine aA aD ?_;simp only[zz];refine aC (hK29 _ _ ?_);refine bc ?_;try simp only[ac,af]
    refine bY rfl rfl ?_;try simp only[zD,zE]
    exact⟨_,rfl,hX,by first | exact iQ.of_trim (hB1.nat (hd.set (show c<4294967296 by omega)) (by simp;omega) (by omega)) (Cm (by omega) hlo hv hz) | (rw[Nat.add_comm];exact iQ.of_trim (hB1.nat (hd.set (show c<4294967296 by omega)) (by simp;omega) (by omega)) (Cm (by omega) hlo hv hz))⟩
theorem Xl{A B:Option Addr}{xs ys:List Nat}{na nb ca cb:Nat}(w:aw)(hS:eQ w A na ca xs)(hR:eQ w B nb cb ys)(hle:ys.length≤xs.length)(hge:val 4294967296 ys≤val 4294967296 xs)(hlx:xs.length≤1099511627776):gZ prog 123 [.slice A na ca,.slice B nb cb] w (fun v w'=>iQ (val 4294967296 xs-val 4294967296 ys) v w'∧qT w v):=by
 skip
 refine⟨acH,?_⟩;have hX:=dU.refl w;obtain rfl:=hS.eq;obtain rfl:=hR.eq
 go_enter func123,ntmps123
 refine aF (fun K1 hK1=>aa (aA aD ?_));simp only[zz];refine aC (hK1 _ _ ?_);refine aF (fun K2 hK2=>aa (aA aB (aA (bR rfl cJ rfl) ?_)));simp only[zz];refine lU cJ oP rfl rfl rfl (an _) (an _) (by omega) (by omega) (by omega) (by omega) ?_;intro w1 g1 hE hg1 hB1;have hG1:=ak hX.size hg1;replace hX:=hX.trans hE;clear hE hg1;simp only[zz];refine aA aD ?_;simp only[zz];refine aC ?_;rw[iY] at hB1;refine hK2 _ _ (aF (fun K3 hK3=>aa (aA aD ?_)));simp only[zz];refine aC (hK3 _ _ ?_);refine aF (fun K4 hK4=>aF (fun K5 hK5=>aa (aA aB (aA (bR rfl cJ rfl) (aA aB ?_)))));simp only[zz];refine aC (hK5 _ _ ?_);refine av (dI [6,14] [7,8,15,16,17,18,19,20,21,22,23,24,25,26,27,28,29,30,31,32,33,34,35,36,37,38,39,40] (fun n vs wl=>∃(i c:Nat) (os:List Nat),vs=[.int .u64 (c:Int),.int .i64 (i:Int)]∧(dU w wl)∧(gG wl g1 (os.map lO) 101)∧(i≤xs.length)∧(os.length=xs.length)∧(val 4294967296 os+val 4294967296 (ys.take i)=val 4294967296 (xs.take i)+4294967296^i*c)∧(os.drop i=bk (xs.length-i) 0)∧(dR 4294967296 os)∧(c≤1)∧(n=xs.length-i)) ?_ ?_)
 ·
  apply Exists.intro;simp only[zQ,zR,zD,zE];exact⟨0,0,bk xs.length 0,rfl,hX,hB1,by omega,by simp,by simp[gT,val],by simp,fun x hx=>by rw[di hx];decide,by omega,rfl⟩
 ·
  intro n vs wr hI u;obtain⟨i,c,os,rfl,hX,hB1,hi,hlo,hv,hz,hd,hc,hn⟩:=hI;simp only[zu,zF,zG];refine aF (fun K6 hK6=>aa (aA (dZ rfl rfl) ?_));simp only[zz];refine aC (hK6 _ _ ?_);refine aF (fun K7 hK7=>?_);refine cW rfl (fun hc1=>?_) (fun hc1=>?_)
  ·
   refine ar ?_;refine hK7 _ _ (aF (fun K8 hK8=>av (aF (fun K9 hK9=>aa (aA aB (aA aD ?_))))));simp only[zz];refine aC (hK9 _ _ ?_);refine aF (fun K10 hK10=>?_);obtain⟨a,rfl,hca,hla⟩:=(hS.ext hX).get (show i<xs.length by omega);refine aa (aA aB (aA aB (aA (aS cJ bN rfl rfl (by omega) (by omega) (fH (an _))) ?_)));simp only[zz];refine aI rfl (lies1 hca fY) ?_;simp only[zz];refine aA aB (aA (eH rfl rfl (kH _)) (aA aD ?_));simp only[zz];refine aC (hK10 _ _ ?_);refine aF (fun K11 hK11=>aF (fun K12 hK12=>aa (aA aB (aA aB (aA (bR rfl cJ rfl) ?_)))));simp only[zz];refine aA (dZ rfl rfl) ?_;simp only[zz];refine aC (hK12 _ _ ?_);refine cW rfl (fun hc2=>?_) (fun hc2=>?_)
   ·
    obtain⟨b,rfl,hcb,hlb⟩:=(hR.ext hX).get (show i<ys.length by omega);refine aa (aA aB (aA aB (aA aB ?_)));simp only[zz];refine aA (aS cJ bN rfl rfl (by omega) (by omega) (fH (an _))) ?_;simp only[zz];refine aI rfl (lies1 hcb fY) ?_;simp only[zz];refine aA (eH rfl rfl (kH _)) (aA aD ?_);simp only[zz];refine aC ?_;obtain⟨s,hs⟩:∃s:Nat,(s:Int)=((↑xs[i]-↑c)%18446744073709551616-↑ys[i])%18446744073709551616:=⟨(((↑xs[i]-↑c)%18446744073709551616-↑ys[i])%18446744073709551616:Int).toNat,by omega⟩
    rw[←hs];have hs2:(s:Int)=((xs[i]:Nat)-(c:Nat)-(ys[i]?.getD 0:Nat):Int)%18446744073709551616:=by rw[ao (by omega)];simp only[Option.getD_some];omega
    have hyb:ys[i]?.getD 0<4294967296:=by rw[ao (by omega)];exact hlb
    refine hK11 _ _ ?_;have hs64:s<18446744073709551616:=by omega
    refine aa (aA aB (aA aB (aA aB ?_)));simp only[zz];refine aA (sI rfl rfl (oX (by omega) (by omega))) (aA aB (aA (mG rfl rfl (by omega) (abW (by omega))) ?_));simp only[zz];refine aA (aS cJ bN rfl rfl (by omega) (by omega) (fS (an _))) ?_;simp only[zz];refine cE rfl (by simp only[zz];rfl) (by exact bN) hB1 (by simp;omega) (by simp[bf]) ?_;clear hB1;intro w2 hC hB1;replace hX:=hX.chg hC hG1;clear hC;rw[show ((s:Int)%4294967296)=((s%4294967296:Nat):Int) by omega,iD (by omega)] at hB1;refine aA aD ?_;simp only[zz];refine aC (hK8 _ _ ?_);refine aa (aA (aZ rfl rfl (aO (by omega) (by omega))) (aA aB ?_));simp only[zz];refine aC ?_;obtain⟨r1,r2,r3,r4⟩:=Hb (by omega) hlo hv hz hd hc hs2 hla hyb;rw[show ((i:Int)+1)=((i+1:Nat):Int) by omega,show ((s:Int) / 9223372036854775808)=((s / 9223372036854775808:Nat):Int) by omega];simp only[ac,af];refine⟨xs.length-(i+1),_,?_,rfl,?_,?_⟩
    · omega
    · simp only[zz,zv]
    ·
     simp only[zQ,zR,zD,zE];exact⟨i+1,s / 9223372036854775808,os.set i (s%4294967296),rfl,hX,hB1,by omega,by simpa using hlo,r1,r2,r3,r4,rfl⟩
   ·
    obtain⟨s,hs⟩:∃s:Nat,(s:Int)=(↑xs[i]-↑c)%18446744073709551616:=⟨((↑xs[i]-↑c)%18446744073709551616:Int).toNat,by omega⟩
    rw[←hs];have hs2:(s:Int)=((xs[i]:Nat)-(c:Nat)-(ys[i]?.getD 0:Nat):Int)%18446744073709551616:=by rw[bj (by omega)];simp only[Option.getD_none];omega
    have hyb:ys[i]?.getD 0<4294967296:=by rw[bj (by omega)];decide
    refine ar ?_;refine hK11 _ _ ?_;have hs64:s<18446744073709551616:=by omega
    refine aa (aA aB (aA aB (aA aB ?_)));simp only[zz];refine aA (sI rfl rfl (oX (by omega) (by omega))) (aA aB (aA (mG rfl rfl (by omega) (abW (by omega))) ?_));simp only[zz];refine aA (aS cJ bN rfl rfl (by omega) (by omega) (fS (an _))) ?_;simp only[zz];refine cE rfl (by simp only[zz];rfl) (by exact bN) hB1 (by simp;omega) (by simp[bf]) ?_;clear hB1;intro w2 hC hB1;replace hX:=hX.chg hC hG1;clear hC;rw[show ((s:Int)%4294967296)=((s%4294967296:Nat):Int) by omega,iD (by omega)] at hB1;refine aA aD ?_;simp only[zz];refine aC (hK8 _ _ ?_);refine aa (aA (aZ rfl rfl (aO (by omega) (by omega))) (aA aB ?_));simp only[zz];refine aC ?_;obtain⟨r1,r2,r3,r4⟩:=Hb (by omega) hlo hv hz hd hc hs2 hla hyb;rw[show ((i:Int)+1)=((i+1:Nat):Int) by omega,show ((s:Int) / 9223372036854775808)=((s / 9223372036854775808:Nat):Int) by omega];simp only[ac,af];refine⟨xs.length-(i+1),_,?_,rfl,?_,?_⟩
    · omega
    · simp only[zz,zv]
    ·
     simp only[zQ,zR,zD,zE];exact⟨i+1,s / 9223372036854775808,os.set i (s%4294967296),rfl,hX,hB1,by omega,by simpa using hlo,r1,r2,r3,r4,rfl⟩
  ·
   refine bw ?_;refine hK4 _ _ (aF (fun K13 hK13=>?_));obtain rfl:i=xs.length:=by omega
   refine aa (aA aB ?_);simp only[zz];refine bT rfl rfl (sC _ (hB1.nat hd (by omega) (by omega))) ?_;rintro v w2 hE rfl;replace hB1:=hB1.ext hE;replace hX:=hX.trans hE;clear hE;simp only[zz];refine aA aD ?_;simp only[zz];refine aC (hK13 _ _ ?_);refine bc ?_;try simp only[ac,af]
   refine bY rfl rfl ?_;try simp only[zD,zE]
   exact⟨_,rfl,hX,iQ.of_trim (hB1.nat hd (n:=xs.length) (by omega) (by omega)) (aaz hle hlo hd hv hge),qT.of_blk hG1⟩
theorem Xm{A B:Option Addr}{xs ys:List Nat}{na nb ca cb:Nat}(w:aw)(hS:eQ w A na ca xs)(hR:eQ w B nb cb ys)(hlx:xs.length≤1099511627776)(hly:ys.length≤1099511627776):gZ prog 58 [.slice A na ca,.slice B nb cb] w (iQ (val 4294967296 xs*val 4294967296 ys)):=by
 skip
 refine⟨aeW,?_⟩;have hX:=dU.refl w;obtain rfl:=hS.eq;obtain rfl:=hR.eq
 go_enter func58,ntmps58
 refine aF (fun K1 hK1=>aa (aA aD ?_));simp only[zz];refine aC (hK1 _ _ ?_);refine aF (fun K2 hK2=>aa (aA aB (aA (bR rfl cJ rfl) (aA aB ?_))));simp only[zz];refine aA (bR rfl cJ rfl) (aA (aZ rfl rfl (aO (by omega) (by omega))) ?_);simp only[zz];refine lU cJ oP rfl rfl rfl (show _=xs.length+ys.length by omega) (show _=xs.length+ys.length by omega) (by omega) (by omega) (by omega) (by omega) ?_;intro w1 g1 hE hg1 hB1;have hG1:=ak hX.size hg1;replace hX:=hX.trans hE;clear hE hg1;simp only[zz];refine aA aD ?_;simp only[zz];refine aC ?_;rw[iY] at hB1;refine hK2 _ _ (aF (fun K3 hK3=>aF (fun K4 hK4=>aa (aA aB (aA (bR rfl cJ rfl) (aA aB ?_))))));simp only[zz];refine aC (hK4 _ _ ?_);refine av (dI [20] [6,7,8,9,10,11,21,22,23,24,25,26,27,28,29,30,31,32,33,34,35,36,37,38,39,40,41,42,43,44,45,46,47,48,49,50,51,52,53,54,55,56,57,58,59,60,61] (fun n vs wl=>∃(i:Nat) (os:List Nat),vs=[.int .i64 (i:Int)]∧(dU w wl)∧(gG wl g1 (os.map lO) 101)∧(i≤xs.length)∧(os.length=xs.length+ys.length)∧(val 4294967296 os=val 4294967296 (xs.take i)*val 4294967296 ys)∧(os.drop (i+ys.length)=bk (xs.length-i) 0)∧(dR 4294967296 os)∧(n=xs.length-i)) ?_ ?_)
 ·
  apply Exists.intro;simp only[zQ,zR,zD,zE];exact⟨0,bk (xs.length+ys.length) 0,rfl,hX,hB1,by omega,by simp,by rw[gT,h_];simp only[val,Nat.zero_mul],by rw[ja];congr 1;omega,fun x hx=>by rw[di hx];decide,rfl⟩
 ·
  intro n vs wr hI u;obtain⟨i,os,rfl,hX,hB1,hi,hlo,hv,hz,hd,hn⟩:=hI;simp only[zu,zF,zG];refine aF (fun K5 hK5=>aa (aA (dZ rfl rfl) ?_));simp only[zz];refine aC (hK5 _ _ ?_);refine aF (fun K6 hK6=>?_);refine cW rfl (fun hc1=>?_) (fun hc1=>?_)
  ·
   refine ar ?_;refine hK6 _ _ (aF (fun K7 hK7=>av (aF (fun K8 hK8=>?_))));obtain⟨a,rfl,hca,hla⟩:=(hS.ext hX).get (show i<xs.length by omega);refine aa (aA aB (aA (aS cJ bN rfl rfl (by omega) (by omega) (fH (an _))) ?_));simp only[zz];refine aI rfl (lies1 hca fY) ?_;simp only[zz];refine aA aD (aA aD ?_);simp only[zz];refine aC (hK8 _ _ ?_);refine aF (fun K9 hK9=>aa (aA aD ?_));simp only[zz];refine aC (hK9 _ _ ?_);refine aF (fun K10 hK10=>aF (fun K11 hK11=>aa (aA aB (aA (bR rfl cJ rfl) (aA aB ?_)))));simp only[zz];refine aC (hK11 _ _ ?_);refine av (dI [8,27] [9,10,11,28,29,30,31,32,33,34,35,36,37,38,39,40,41,42,43,44,45,46,47,48,49,50,51,52,53] (fun n vs wl=>∃(k c:Nat) (os:List Nat),vs=[.int .u64 (c:Int),.int .i64 (k:Int)]∧(dU w wl)∧(gG wl g1 (os.map lO) 101)∧(k≤ys.length)∧(os.length=xs.length+ys.length)∧(val 4294967296 os+4294967296^(i+k)*c=val 4294967296 (xs.take i)*val 4294967296 ys+4294967296^i*(xs[i]*val 4294967296 (ys.take k)))∧(os.drop (i+ys.length)=bk (xs.length-i) 0)∧(dR 4294967296 os)∧(c<4294967296)∧(n=ys.length-k)) ?_ ?_)
   ·
    apply Exists.intro;simp only[zQ,zR,zD,zE];exact⟨0,0,os,rfl,hX,hB1,by omega,hlo,by rw[h_,hv];simp only[val,fk],hz,hd,by omega,rfl⟩
   ·
    intro n vs wr hI u;obtain⟨k,c,os,rfl,hX,hB1,hk,hlo,hv2,hz,hd,hc,hn2⟩:=hI;simp only[zu,zF,zG];refine aF (fun K12 hK12=>aa (aA (dZ rfl rfl) ?_));simp only[zz];refine aC (hK12 _ _ ?_);refine aF (fun K13 hK13=>?_);refine cW rfl (fun hc2=>?_) (fun hc2=>?_)
    ·
     refine ar ?_;refine hK13 _ _ (aF (fun K14 hK14=>av (aF (fun K15 hK15=>?_))));obtain⟨b,rfl,hcb,hlb⟩:=(hR.ext hX).get (show k<ys.length by omega);refine aa (aA aB (aA (aS cJ bN rfl rfl (by omega) (by omega) (fH (an _))) ?_));simp only[zz];refine aI rfl (lies1 hcb fY) ?_;simp only[zz];refine aA aD (aA aD ?_);simp only[zz];refine aC (hK15 _ _ ?_);refine aF (fun K16 hK16=>?_);have hco:=hB1.word (show i+k<os.length by omega);have hlo2:=hd.get (ao (show i+k<os.length by omega));obtain⟨hm0,hm1⟩:=aaB hla hlb;refine aa (aA aB (aA aB (aA aB ?_)));simp only[zz];refine aA (aZ rfl rfl (aO (by omega) (by omega))) (aA (aS cJ bN rfl rfl (by omega) (by omega) (fS (show _=i+k by omega))) ?_);simp only[zz];refine aI rfl (lies1 hco fY) ?_;simp only[zz];refine aA aB (aA aB (aA (fC rfl rfl (fX (by omega) (by omega))) ?_));simp only[zz];refine aA (aZ rfl rfl (fX (by omega) (by omega))) (aA aB (aA (aZ rfl rfl (fX (by omega) (by omega))) ?_));simp only[zz];refine aA aD ?_;simp only[zz];refine aC ?_;obtain⟨s,hs⟩:∃s:Nat,s=os[i+k]+xs[i]*ys[k]+c:=⟨_,rfl⟩
     have hsI:(↑os[i+k]+↑xs[i]*↑ys[k]+↑c:Int)=(s:Int):=by rw[hs];simp
     rw[hsI];have hs64:s<18446744073709551616:=by omega
     refine hK16 _ _ ?_;refine aa (aA aB (aA aB (aA aB ?_)));simp only[zz];refine aA (aZ rfl rfl (aO (by omega) (by omega))) (aA aB (aA (sI rfl rfl (oX (by omega) (by omega))) ?_));simp only[zz];refine aA aB (aA (mG rfl rfl (by omega) (Ha (by omega))) (aA (aS cJ bN rfl rfl (by omega) (by omega) (fS (show _=i+k by omega))) ?_));simp only[zz];refine cE rfl (by simp only[zz];rfl) (by exact bN) hB1 (by simp;omega) (by simp[bf]) ?_;clear hB1;intro w2 hC hB1;replace hX:=hX.chg hC hG1;clear hC;rw[show ((s:Int)%4294967296)=((s%4294967296:Nat):Int) by omega,iD (by omega)] at hB1;refine aA aD ?_;simp only[zz];refine aC (hK14 _ _ ?_);refine aa (aA (aZ rfl rfl (aO (by omega) (by omega))) (aA aB ?_));simp only[zz];refine aC ?_;have r1:=Tf (by omega) (by omega) hlo hv2 hs;rw[show ((k:Int)+1)=((k+1:Nat):Int) by omega,show ((s:Int) / 4294967296)=((s / 4294967296:Nat):Int) by omega];simp only[ac,af];refine⟨ys.length-(k+1),_,?_,rfl,?_,?_⟩
     · omega
     · simp only[zz,zv]
     ·
      simp only[zQ,zR,zD,zE];exact⟨k+1,s / 4294967296,os.set (i+k) (s%4294967296),rfl,hX,hB1,by omega,by simpa using hlo,r1,by rw[nE (by omega)];exact hz,hd.set (by omega),by omega,rfl⟩
    ·
     refine bw ?_;refine hK10 _ _ ?_;obtain rfl:k=ys.length:=by omega
     refine aa (aA aB (aA aB (aA aB ?_)));simp only[zz];refine aA (bR rfl cJ rfl) (aA (aZ rfl rfl (aO (by omega) (by omega))) (aA aB ?_));simp only[zz];refine aA (aS cJ bN rfl rfl (by omega) (by omega) (fS (show _=i+ys.length by omega))) ?_;simp only[zz];refine cE rfl (by simp only[zz];rfl) (by exact bN) hB1 (by simp;omega) (by simp[bf]) ?_;clear hB1;intro w2 hC hB1;replace hX:=hX.chg hC hG1;clear hC;rw[iD (by omega)] at hB1;refine aC (hK7 _ _ ?_);refine aa (aA (aZ rfl rfl (aO (by omega) (by omega))) (aA aB ?_));simp only[zz];refine aC ?_;obtain⟨r1,r2⟩:=aaA (by omega) hlo hv2 hz;rw[show ((i:Int)+1)=((i+1:Nat):Int) by omega];simp only[ac,af];refine⟨xs.length-(i+1),_,?_,rfl,?_,?_⟩
     · omega
     · simp only[zz,zv]
     ·
      simp only[zQ,zR,zD,zE];exact⟨i+1,os.set (i+ys.length) c,rfl,hX,hB1,by omega,by simpa using hlo,r1,r2,hd.set (by omega),rfl⟩
  ·
   refine bw ?_;refine hK3 _ _ (aF (fun K17 hK17=>?_));obtain rfl:i=xs.length:=by omega
   refine aa (aA aB ?_);simp only[zz];refine bT rfl rfl (sC _ (hB1.nat hd (by omega) (by omega))) ?_;rintro v w2 hE rfl;replace hB1:=hB1.ext hE;replace hX:=hX.trans hE;clear hE;simp only[zz];refine aA aD ?_;simp only[zz];refine aC (hK17 _ _ ?_);refine bc ?_;try simp only[ac,af]
   refine bY rfl rfl ?_;try simp only[zD,zE]
   exact⟨_,rfl,hX,iQ.of_trim (hB1.nat hd (n:=xs.length+ys.length) (by omega) (by omega)) (by rw[hv,c_])⟩
end Go.Proofs.YtimjandkmfcmiaaGreatDoor
namespace Go.Proofs.YtimjandkmfcmiaaGreatDoor
open Go.Proofs.Tryz
open Go.RowKit Go.Lith
set_option maxRecDepth 100000
attribute [local irreducible] bh ck eY Code.wp
theorem aaK{A:Option Addr}{xs:List Nat}{na ca d:Nat}(w:aw)(hS:eQ w A na ca xs)(hlx:xs.length≤1099511627776)(h0:0<d)(h32:d≤4294967296):gZ prog 169 [.slice A na ca,.int .u64 (d:Int)] w (fun v w'=>∃q,v=.tuple #[q,.int .u64 ((val 4294967296 xs%d:Nat):Int)]∧iQ (val 4294967296 xs / d) q w'):=by
 skip
 refine⟨ac1,?_⟩;have hX:=dU.refl w;obtain rfl:=hS.eq
 go_enter func169,ntmps169
 refine aF (fun K1 hK1=>aa (aA aD (aA aD ?_)));simp only[zz];refine aC (hK1 _ _ ?_);refine aF (fun K2 hK2=>aa (aA aB (aA (bR rfl cJ rfl) ?_)));simp only[zz];refine lU cJ oP rfl rfl rfl (an _) (an _) (by omega) (by omega) (by omega) (by omega) ?_;intro w1 g1 hE hg1 hB1;have hG1:=ak hX.size hg1;replace hX:=hX.trans hE;clear hE hg1;simp only[zz];refine aA aD ?_;simp only[zz];refine aC ?_;rw[iY] at hB1;refine hK2 _ _ (aF (fun K3 hK3=>aa (aA aD ?_)));simp only[zz];refine aC (hK3 _ _ ?_);refine aF (fun K4 hK4=>aF (fun K5 hK5=>aa (aA aB (aA (bR rfl cJ rfl) (aA (eH rfl rfl (aO (by omega) (by omega))) ?_)))));simp only[zz];refine aA aD ?_;simp only[zz];refine aC (hK5 _ _ ?_);refine av (dI [7,8] [15,16,17,18,19,20,21,22,23,24,25,26,27,28,29,30,31,32,33,34] (fun n vs wl=>∃(k r:Nat) (os:List Nat),vs=[.int .u64 (r:Int),.int .i64 ((k:Int)-1)]∧(dU w wl)∧(gG wl g1 (os.map lO) 101)∧(k≤xs.length)∧(os.length=xs.length)∧(val 4294967296 (xs.drop k)=d*val 4294967296 (os.drop k)+r)∧(r<d)∧(dR 4294967296 os)∧(n=k)) ?_ ?_)
 ·
  apply Exists.intro;simp only[zQ,zR,zD,zE];exact⟨xs.length,0,bk xs.length 0,rfl,hX,hB1,by omega,by simp,by rw[fh,List.drop_of_length_le (by simp)];simp only[val,fk],h0,fun x hx=>by rw[di hx];decide,rfl⟩
 ·
  intro n vs wr hI u;obtain⟨k,r,os,rfl,hX,hB1,hk,hlo,hv,hr,hd,hn⟩:=hI;simp only[zu,zF,zG];refine aF (fun K6 hK6=>aF (fun K7 hK7=>aa (aA aB (aA (lD rfl rfl) ?_))));simp only[zz];refine aC (hK7 _ _ ?_);refine cW rfl (fun hc1=>?_) (fun hc1=>?_)
  ·
   refine ar ?_;refine hK6 _ _ (aF (fun K8 hK8=>av (aF (fun K9 hK9=>?_))));obtain⟨a,rfl,hca,hla⟩:=(hS.ext hX).get (show k-1<xs.length by omega);have hr32:r<4294967296:=by omega
   refine aa (aA aB (aA (Dd rfl rfl (by omega) (tX (n:=32) (by omega) (by omega))) (aA aB ?_)));simp only[zz];refine aA aB (aA (aS cJ bN rfl rfl (by omega) (by omega) (fH (show _=k-1 by omega))) ?_);simp only[zz];refine aI rfl (lies1 hca fY) ?_;simp only[zz];refine aA (Oh rfl rfl (Cn (s:=32) (c:=r) (by omega) (by omega) (by omega))) (aA aD ?_);simp only[zz];refine aC (hK9 _ _ ?_);obtain⟨t,ht⟩:∃t:Nat,t=xs[k-1]+r*4294967296:=⟨_,rfl⟩
   rw[←ht];have ht64:t<18446744073709551616:=by omega
   have hd64:(d:Int)≠0:=by omega
   refine Fu [(0,true),(1,true),(2,true),(3,true),(4,true),(5,true),(6,true),(7,true),(8,true),(9,false),(10,true)] aP (by kernel_rfl) (dJ (fun _ _ _ _ _ h=>h)) (ol:=?_) ?hol ?_
   case hol=>simp only[zw,zQ,zR];try rfl
   intro w2 hE;replace hB1:=hB1.ext hE;replace hX:=hX.trans hE;clear hE;refine wJ aB (wJ aB (wJ aB ?_));simp only[zz];refine wJ aB (wJ (jA rfl rfl (by omega) (Cp ht64)) (wJ aB ?_));simp only[zz];refine wJ aB (wJ (fL rfl rfl (by omega) lW) (wJ (aS cJ bN rfl rfl (by omega) (by omega) (fS (show _=k-1 by omega))) ?_));simp only[zz];refine ach ?_;refine cE rfl (by simp only[zz];rfl) (by exact bN) hB1 (by simp;omega) (by simp[bf]) ?_;clear hB1;intro w3 hC hB1;replace hX:=hX.chg hC hG1;clear hC;rw[iD (by omega)] at hB1;refine aC (wJ aD ?_);simp only[zz];refine aeb (hK8 _ _ ?_);refine aa (aA aB (aA (eH rfl rfl (aO (by omega) (by omega))) (aA aD ?_)));simp only[zz];refine aC ?_;obtain⟨r1,r2,r3⟩:=Ma (by omega) hk hlo hv hr hd hla;rw[←ht] at r1 r2 r3;rw[show ((k:Int)-1-1)=((k-1:Nat):Int)-1 by omega];simp only[ac,af];refine⟨k-1,_,?_,rfl,?_,?_⟩
   · omega
   · simp only[zz,zv]
   ·
    simp only[zQ,zR,zD,zE];exact⟨k-1,t%d,os.set (k-1) (t / d),rfl,hX,hB1,by omega,by simpa using hlo,r1,r3,r2,rfl⟩
  ·
   refine bw ?_;refine hK4 _ _ (aF (fun K10 hK10=>?_));obtain rfl:k=0:=by omega
   refine aa (aA aB ?_);simp only[zz];refine bT rfl rfl (sC _ (hB1.nat hd (by omega) (by omega))) ?_;rintro v w2 hE rfl;replace hB1:=hB1.ext hE;replace hX:=hX.trans hE;clear hE;simp only[zz];refine aA aB (aA aD (aA aD ?_));simp only[zz];refine aC (hK10 _ _ ?_);refine bc ?_;try simp only[ac,af]
   refine kD rfl rfl rfl ?_;try simp only[zD,zE]
   (have hq:val 4294967296 os=val 4294967296 xs / d∧r=val 4294967296 xs%d:=wX h0 hr (by simpa using hv));exact⟨_,rfl,hX,_,by rw[hq.2],iQ.of_trim (hB1.nat hd (n:=xs.length) (by omega) (by omega)) hq.1⟩
theorem Rm{A:Option Addr}{xs:List Nat}{na ca sh:Nat}(w:aw)(hS:eQ w A na ca xs)(hlx:xs.length≤1099511627776)(hn:sh≤31):gZ prog 170 [.slice A na ca,.int .i64 (sh:Int)] w (fun v w'=>∃g os,v=.slice (some ⟨g,0,none⟩) (xs.length+1) (xs.length+1)∧w.heap.size≤g∧gG w' g (os.map lO) 101∧os.length=xs.length+1∧dR 4294967296 os∧val 4294967296 os=2^sh*val 4294967296 xs):=by
 skip
 refine⟨ac2,?_⟩;have hX:=dU.refl w;obtain rfl:=hS.eq
 go_enter func170,ntmps170
 refine aF (fun K1 hK1=>aa (aA aD ?_));simp only[zz];refine aC (hK1 _ _ ?_);refine aF (fun K2 hK2=>aa (aA aB (aA (bR rfl cJ rfl) (aA (aZ rfl rfl (aO (by omega) (by omega))) ?_))));simp only[zz];refine lU cJ oP rfl rfl rfl (show _=xs.length+1 by omega) (show _=xs.length+1 by omega) (by omega) (by omega) (by omega) (by omega) ?_;intro w1 g1 hE hg1 hB1;have hG1:=ak hX.size hg1;replace hX:=hX.trans hE;clear hE hg1;simp only[zz];refine aA aD ?_;simp only[zz];refine aC ?_;rw[iY] at hB1;refine hK2 _ _ (aF (fun K3 hK3=>aF (fun K4 hK4=>aa (aA aB (aA (bR rfl cJ rfl) (aA aB ?_))))));simp only[zz];refine aC (hK4 _ _ ?_);refine av (dI [14] [6,7,15,16,17,18,19,20,21,22,23,24,25,26,27,28,29,30,31,32,33,34,35,36] (fun n vs wl=>∃(i:Nat) (os:List Nat),vs=[.int .i64 (i:Int)]∧(dU w wl)∧(gG wl g1 (os.map lO) 101)∧(i≤xs.length)∧(os.length=xs.length+1)∧(val 4294967296 os=2^sh*val 4294967296 (xs.take i))∧(os.drop (i+1)=bk (xs.length-i) 0)∧(dR 4294967296 os)∧(∀h:i<os.length,os[i]<2^sh)∧(n=xs.length-i)) ?_ ?_)
 ·
  apply Exists.intro;simp only[zQ,zR,zD,zE];exact⟨0,bk (xs.length+1) 0,rfl,hX,hB1,by omega,by simp,by rw[gT,h_];rfl,by rw[ja];congr 1,fun x hx=>by rw[di hx];decide,fun h=>by rw[List.getElem_replicate];exact iv (by decide),rfl⟩
 ·
  intro n vs wr hI u;obtain⟨i,os,rfl,hX,hB1,hi,hlo,hv,hz,hd,hc,hn⟩:=hI;simp only[zu,zF,zG];refine aF (fun K5 hK5=>aa (aA (dZ rfl rfl) ?_));simp only[zz];refine aC (hK5 _ _ ?_);refine aF (fun K6 hK6=>?_);refine cW rfl (fun hc1=>?_) (fun hc1=>?_)
  ·
   refine ar ?_;refine hK6 _ _ (aF (fun K7 hK7=>av (aF (fun K8 hK8=>?_))));obtain⟨a,rfl,hca,hla⟩:=(hS.ext hX).get (show i<xs.length by omega);refine aa (aA aB (aA (aS cJ bN rfl rfl (by omega) (by omega) (fH (an _))) ?_));simp only[zz];refine aI rfl (lies1 hca fY) ?_;simp only[zz];refine aA aD (aA aD ?_);simp only[zz];refine aC (hK8 _ _ ?_);refine aF (fun K9 hK9=>?_);have hm64:=Oz (n:=sh) (by omega) hla;have hf:=Cr (x:=xs[i]) (n:=sh) (by omega) (hc (by omega));refine aa (aA aB (aA aB (aA (Dd rfl rfl (by omega) (tX (n:=sh) (by omega) hm64)) ?_)));simp only[zz];refine aA aD ?_;simp only[zz];refine aC (hK9 _ _ ?_);refine aF (fun K10 hK10=>?_);have hco:=hB1.word (show i<os.length by omega);have hmm:xs[i]*2^sh%4294967296<4294967296:=ft _ (by decide);refine aa (aA aB (aA aB (aA (aS cJ bN rfl rfl (by omega) (by omega) (fS (an _))) ?_)));simp only[zz];refine aI rfl (lies1 hco fY) ?_;simp only[zz];refine aA aB (aA (sI rfl rfl (Co hm64)) (aA (Oh rfl rfl (Jm (s:=sh) (hc (by omega)) (Cq (by omega)) (by omega))) ?_));simp only[zz];refine aA (aS cJ bN rfl rfl (by omega) (by omega) (fS (an _))) ?_;simp only[zz];refine cE rfl (by simp only[zz];rfl) (by exact bN) hB1 (by simp;omega) (by simp[bf]) ?_;clear hB1;intro w2 hC hB1;replace hX:=hX.chg hC hG1;clear hC;rw[iD (by omega)] at hB1;refine aC (hK10 _ _ ?_);refine aa (aA aB (aA aB (aA (aZ rfl rfl (aO (by omega) (by omega))) ?_)));simp only[zz];refine aA aB (aA (mG rfl rfl (by omega) Jn) (aA (aS cJ bN rfl rfl (by omega) (by omega) (fS (show _=i+1 by omega))) ?_));simp only[zz];refine cE rfl (by simp only[zz];rfl) (by exact bN) hB1 (by simp;omega) (by simp[bf]) ?_;clear hB1;intro w3 hC hB1;replace hX:=hX.chg hC hG1;clear hC;rw[iD (by simp;omega)] at hB1;refine aC (hK7 _ _ ?_);refine aa (aA (aZ rfl rfl (aO (by omega) (by omega))) (aA aB ?_));simp only[zz];refine aC ?_;obtain⟨r1,r2,r3,r4⟩:=Mb (by omega) (by omega) hlo hv hz hd (by omega) (hc (by omega)) hla;rw[show ((i:Int)+1)=((i+1:Nat):Int) by omega];simp only[ac,af];refine⟨xs.length-(i+1),_,?_,rfl,?_,?_⟩
   · omega
   · simp only[zz,zv]
   ·
    simp only[zQ,zR,zD,zE];exact⟨i+1,(os.set i (os[i]+xs[i]*2^sh%4294967296)).set (i+1) (xs[i]*2^sh / 4294967296),rfl,hX,hB1,by omega,by simpa using hlo,r1,r2,r3,r4,rfl⟩
  ·
   refine bw ?_;refine hK3 _ _ (aF (fun K11 hK11=>?_));obtain rfl:i=xs.length:=by omega
   refine aa (aA aB (aA aD ?_));simp only[zz];refine aC (hK11 _ _ ?_);refine bc ?_;try simp only[ac,af]
   refine bY rfl rfl ?_;try simp only[zD,zE]
   exact⟨_,rfl,hX,_,os,rfl,hG1,hB1,hlo,hd,by rw[hv,c_]⟩
theorem Tw{A:Option Addr}{xs:List Nat}{na ca sh:Nat}(w:aw)(hS:eQ w A na ca xs)(hlx:xs.length≤1099511627776)(hn:sh≤31):gZ prog 173 [.slice A na ca,.int .i64 (sh:Int)] w (iQ (val 4294967296 xs / 2^sh)):=by
 skip
 refine⟨ac5,?_⟩;have hX:=dU.refl w;obtain rfl:=hS.eq
 go_enter func173,ntmps173
 refine aF (fun K1 hK1=>aa (aA aD ?_));simp only[zz];refine aC (hK1 _ _ ?_);refine aF (fun K2 hK2=>aa (aA aB (aA (bR rfl cJ rfl) ?_)));simp only[zz];refine lU cJ oP rfl rfl rfl (an _) (an _) (by omega) (by omega) (by omega) (by omega) ?_;intro w1 g1 hE hg1 hB1;have hG1:=ak hX.size hg1;replace hX:=hX.trans hE;clear hE hg1;simp only[zz];refine aA aD ?_;simp only[zz];refine aC ?_;rw[iY] at hB1;refine hK2 _ _ (aF (fun K3 hK3=>aF (fun K4 hK4=>aa (aA aB (aA (bR rfl cJ rfl) (aA aB ?_))))));simp only[zz];refine aC (hK4 _ _ ?_);refine av (dI [13] [6,7,14,15,16,17,18,19,20,21,22,23,24,25,26,27,28,29,30,31,32,33,34,35,36,37,38,39,40,41] (fun n vs wl=>∃(i:Nat) (os:List Nat),vs=[.int .i64 (i:Int)]∧(dU w wl)∧(gG wl g1 (os.map lO) 101)∧(i≤xs.length)∧(os.length=xs.length)∧(val 4294967296 os=val 4294967296 (xs.take i) / 2^sh)∧(os.drop i=bk (xs.length-i) 0)∧(dR 4294967296 os)∧(0<i→∀h:i-1<os.length,os[i-1]<2^(32-sh))∧(n=xs.length-i)) ?_ ?_)
 ·
  apply Exists.intro;simp only[zQ,zR,zD,zE];exact⟨0,bk xs.length 0,rfl,hX,hB1,by omega,by simp,by rw[gT,h_,show val 4294967296 []=0 from rfl,Nat.zero_div],rfl,fun x hx=>by rw[di hx];decide,fun h=>absurd h (by omega),rfl⟩
 ·
  intro n vs wr hI u;obtain⟨i,os,rfl,hX,hB1,hi,hlo,hv,hz,hd,hc,hn⟩:=hI;simp only[zu,zF,zG];refine aF (fun K5 hK5=>aa (aA (dZ rfl rfl) ?_));simp only[zz];refine aC (hK5 _ _ ?_);refine aF (fun K6 hK6=>?_);refine cW rfl (fun hc1=>?_) (fun hc1=>?_)
  ·
   refine ar ?_;refine hK6 _ _ (aF (fun K7 hK7=>av (aF (fun K8 hK8=>?_))));obtain⟨a,rfl,hca,hla⟩:=(hS.ext hX).get (show i<xs.length by omega);refine aa (aA aB (aA (aS cJ bN rfl rfl (by omega) (by omega) (fH (an _))) ?_));simp only[zz];refine aI rfl (lies1 hca fY) ?_;simp only[zz];refine aA aD (aA aD ?_);simp only[zz];refine aC (hK8 _ _ ?_);refine aF (fun K9 hK9=>?_);have hco:=hB1.word (show i<os.length by omega);obtain⟨z1,z2⟩:=iZ hz (by omega);have hq:xs[i] / 2^sh<4294967296:=d_ (fy _ _) hla;refine jQ 9 aP (by kernel_rfl) ?_;simp only[zy];refine aQ aB (aQ aB (aQ (aS cJ bN rfl rfl (by omega) (by omega) (fS (an _))) ?_));simp only[zz];refine iA rfl (fun _ hE'=>(lies1 (hE'.cell hco) fY)) ?_;simp only[zz];refine aQ aB (aQ aB (aQ (mG rfl rfl (by omega) (aaC (n:=sh) (by omega))) ?_));simp only[zz];refine aQ (Oh rfl rfl (Jm (s:=0) (c:=xs[i] / 2^sh) (by omega) (by omega) (by omega))) (aQ (aS cJ bN rfl rfl (by omega) (by omega) (fS (an _))) ?_);simp only[zz];refine eD ?_;intro w2 hE;replace hB1:=hB1.ext hE;replace hX:=hX.trans hE;clear hE;refine cE rfl (by simp only[zz];rfl) (by exact bN) hB1 (by simp;omega) (by simp[bf]) ?_;clear hB1;intro w3 hC hB1;replace hX:=hX.chg hC hG1;clear hC;rw[iD (by omega),z1,ah] at hB1;refine aC (hK9 _ _ ?_);refine aF (fun K10 hK10=>aa (aA aB (aA (gW rfl rfl) ?_)));simp only[zz];refine aC (hK10 _ _ ?_);refine cW rfl (fun hc2=>?_) (fun hc2=>?_)
   ·
    obtain⟨j,rfl⟩:∃j,i=j+1:=⟨i-1,by omega⟩
    have hm64:=Oz (x:=xs[j+1]) (n:=32-sh) (by omega) hla;have hcj:=hc (by omega) (by omega);simp only[fe] at hcj;have hf:=Cr (x:=xs[j+1]) (n:=32-sh) (by omega) hcj;have hmm:xs[j+1]*2^(32-sh)%4294967296<4294967296:=ft _ (by decide);have hco2:=hB1.word (show j<(os.set (j+1) (xs[j+1] / 2^sh)).length by simp;omega);rw[i_ (by omega)] at hco2;refine jQ 12 aP (by kernel_rfl) ?_;simp only[zy];refine aQ aB (aQ aB (aQ (eH rfl rfl (aO (by omega) (by omega))) ?_));simp only[zz];refine aQ (aS cJ bN rfl rfl (by omega) (by omega) (fS (show _=j by omega))) ?_;simp only[zz];refine iA rfl (fun _ hE'=>(lies1 (hE'.cell hco2) fY)) ?_;simp only[zz];refine aQ aB (aQ aB (aQ (eH rfl rfl ((aO (by omega) (by omega)).trans (show (32:Int)-(sh:Int)=((32-sh:Nat):Int) by omega))) ?_));simp only[zz];refine aQ (Dd rfl rfl (by omega) (tX (n:=32-sh) (by omega) hm64)) (aQ (sI rfl rfl (Co hm64)) (aQ (Oh rfl rfl (Jm (s:=32-sh) hcj (Cq (by omega)) (by omega))) ?_));simp only[zz];refine aQ (aS cJ bN rfl rfl (by omega) (by omega) (fS (show _=j by omega))) ?_;simp only[zz];refine eD ?_;intro w4 hE;replace hB1:=hB1.ext hE;replace hX:=hX.trans hE;clear hE;refine cE rfl (by simp only[zz];rfl) (by exact bN) hB1 (by simp;omega) (by simp[bf]) ?_;clear hB1;intro w5 hC hB1;replace hX:=hX.chg hC hG1;clear hC;rw[iD (by simp;omega)] at hB1;refine aC (hK7 _ _ ?_);refine aa (aA (aZ rfl rfl (aO (by omega) (by omega))) (aA aB ?_));simp only[zz];refine aC ?_;obtain⟨r1,r2,r3⟩:=Fz (n:=sh) (by omega) (by omega) hlo hv hz hd hS.digs (by omega) hcj;rw[show (((j+1:Nat):Int)+1)=((j+1+1:Nat):Int) by omega];simp only[ac,af];refine⟨xs.length-(j+1+1),_,?_,rfl,?_,?_⟩
    · omega
    · simp only[zz,zv]
    ·
     simp only[zQ,zR,zD,zE];exact⟨j+1+1,(os.set (j+1) (xs[j+1] / 2^sh)).set j (os[j]+xs[j+1]*2^(32-sh)%4294967296),rfl,hX,hB1,by omega,by simpa using hlo,r1,r2,r3,fun _ h=>by simp only[fe];rw[i_ (by omega),gu];exact Wp (by omega) hla,rfl⟩
   ·
    refine ar ?_;refine hK7 _ _ (aa (aA (aZ rfl rfl (aO (by omega) (by omega))) (aA aB ?_)));simp only[zz];refine aC ?_;obtain rfl:i=0:=by omega
    obtain⟨r1,r2,r3⟩:=Fx (n:=sh) (by omega) (by omega) hlo hv hz hd hla;rw[show (((0:Nat):Int)+1)=((0+1:Nat):Int) by omega];simp only[ac,af];refine⟨xs.length-(0+1),_,?_,rfl,?_,?_⟩
    · omega
    · simp only[zz,zv]
    ·
     simp only[zQ,zR,zD,zE];exact⟨0+1,os.set 0 (xs[0] / 2^sh),rfl,hX,hB1,by omega,by simpa using hlo,r1,r2,r3,fun _ h=>by simp only[fe];rw[gu];exact Wp (by omega) hla,rfl⟩
  ·
   refine bw ?_;refine hK3 _ _ (aF (fun K11 hK11=>?_));obtain rfl:i=xs.length:=by omega
   refine aa (aA aB ?_);simp only[zz];refine bT rfl rfl (sC _ (hB1.nat hd (by omega) (by omega))) ?_;rintro v w2 hE rfl;replace hB1:=hB1.ext hE;replace hX:=hX.trans hE;clear hE;simp only[zz];refine aA aD ?_;simp only[zz];refine aC (hK11 _ _ ?_);refine bc ?_;try simp only[ac,af]
   refine bY rfl rfl ?_;try simp only[zD,zE]
   exact⟨_,rfl,hX,iQ.of_trim (hB1.nat hd (n:=xs.length) (by omega) (by omega)) (by rw[hv,c_])⟩
theorem Rn{A:Option Addr}{xs:List Nat}{na ca:Nat}(w:aw)(hS:eQ w A na ca xs):gZ prog 183 [.slice A na ca] w (aaE xs):=by
 skip
 refine⟨ac6,?_⟩;have hX:=dU.refl w;obtain rfl:=hS.eq;have hl:=hS.len
 go_enter func183,ntmps183
 refine aF (fun K1 hK1=>aa (aA aD ?_));simp only[zz];refine aC (hK1 _ _ ?_);refine aF (fun K2 hK2=>aF (fun K3 hK3=>?_));rcases A with _ | a
 ·
  obtain rfl:=hS.none;refine aa (aA aB (aA (Ll cJ rfl rfl) ?_));simp only[zz];refine aC (hK3 _ _ ?_);refine bX rfl (aF (fun K4 hK4=>aa (aA aD ?_)));simp only[zz];refine aC (hK4 _ _ ?_);refine bc ?_;try simp only[ac,af]
  refine bY rfl rfl ?_;try simp only[zD,zE]
  exact⟨_,rfl,hX,none,0,rfl,eQ.nil _⟩
 ·
  refine aa (aA aB (aA (Ll cJ rfl rfl) ?_));simp only[zz];refine aC (hK3 _ _ ?_);refine eZ rfl (ar ?_);refine hK2 _ _ (aF (fun K5 hK5=>aa ?_));refine Lm cJ (c:=1) (by kernel_rfl)  ?_;intro w1 g1 hE hg1 hB1;have hG1:=ak hX.size hg1;replace hX:=hX.trans hE;clear hE hg1;simp only[zz];refine aA aB ?_;simp only[zz];refine iJ rfl cJ oP rfl (by decide) rfl (kR.build0 (base:=g1) hB1 (bi _)) rfl (news:=xs.map lO) (by simp) (hS.ext hX).words (fun u hu=>by obtain⟨x,_,rfl⟩:=List.mem_map.1 hu;rfl) (by omega) (by omega) (Nat.le_of_lt hB1.lt) ?_;intro v1 w9 hO hGr _;replace hX:=hX.grown hGr hG1;clear hB1 hGr;simp only[dy,ah] at hO;obtain⟨A1,c1,rfl,hN⟩:=eQ.of_owns hO rfl hS.digs (by omega);simp only[zz];refine aA aD ?_;simp only[zz];refine aC (hK5 _ _ ?_);refine bc ?_;try simp only[ac,af]
  refine bY rfl rfl ?_;try simp only[zD,zE]
  exact⟨_,rfl,hX,A1,c1,rfl,hN⟩
end Go.Proofs.YtimjandkmfcmiaaGreatDoor
namespace Go.Proofs.YtimjandkmfcmiaaGreatDoor
open Go.Proofs.Tryz
open Go.RowKit Go.Lith
set_option maxRecDepth 100000
attribute [local irreducible] bh ck eY Code.wp
theorem Ao{A:Option Addr}{xs:List Nat}{na cap:Nat}(w:aw)(hS:eQ w A na cap xs):gZ prog 96 [.slice A na cap] w (iQ (val 4294967296 xs)) :=
 (sC w hS).mono fun v w' hE h=>by subst h;exact iQ.of_trim (hS.ext hE) rfl
theorem Xn{A B:Option Addr}{xs ys:List Nat}{na nb ca cb d:Nat}(w:aw)(hS:eQ w A na ca xs)(hR:eQ w B nb cb ys)(hl:ys.length+1≤xs.length)(hly:ys.length≤1099511627776)(hdd:d<4294967296):gZ prog 171 [.slice A na ca,.slice B nb cb,.int .u64 (d:Int)] w (fun v _=>v=.bool (decide (val 4294967296 (xs.take (ys.length+1))<val 4294967296 ys*d))):=by
 skip
 refine⟨ac3,?_⟩;have hX:=dU.refl w;obtain rfl:=hS.eq;obtain rfl:=hR.eq;have hle:=hS.le;have hcap:=hS.cap
 go_enter func171,ntmps171
 refine aF (fun K1 hK1=>aa (aA aD ?_));simp only[zz];refine aC (hK1 _ _ ?_);refine aF (fun K2 hK2=>aa (aA aB (aA aB (aA (bR rfl cJ rfl) ?_))));simp only[zz];refine aA (aZ rfl rfl (aO (by omega) (by omega))) (aA (oB cJ bN rfl rfl (show _=ys.length+1 by omega) (by omega) (by omega)) ?_);simp only[zz];refine bT rfl rfl (Rn _ ((hS.ext hX).head hl)) ?_;rintro v w1 hE ⟨A1,c1,rfl,hN1⟩;replace hX:=hX.trans hE;clear hE;simp only[zz];refine bT rfl rfl (Ao _ hN1) ?_;rintro v w2 hE ⟨A2,c2,rfl,hN2⟩;replace hX:=hX.trans hE;clear hE;simp only[zz];refine aA aB (aA aB ?_);simp only[zz];refine cN cJ (z:=.int .u64 0) (by kernel_rfl) rfl (by simp only[zz];rfl) (by rfl) ?_;intro w3 g1 hE hg1 hB1;have hG1:=ak hX.size hg1
 (try replace hN2:=hN2.ext hE);replace hX:=hX.trans hE
 clear hE hg1;simp only[zz];refine bT rfl rfl (Ao _ (hB1.nat (os:=[d]) (sT hdd) rfl (by omega))) ?_;rintro v w4 hE ⟨A3,c3,rfl,hN3⟩
 (try replace hN2:=hN2.ext hE);replace hX:=hX.trans hE
 clear hE;simp only[zz];refine bT rfl rfl (Xm _ (hR.ext hX) hN3 hly (ak (pM (sT hdd)) (by simp))) ?_;rintro v w5 hE ⟨A4,c4,rfl,hN4⟩
 (try replace hN2:=hN2.ext hE);replace hX:=hX.trans hE
 clear hE;simp only[zz];refine bT rfl rfl (Xk _ hN2 hN4 (jC _) (jC _)) ?_;rintro v w6 hE rfl;replace hX:=hX.trans hE;clear hE;simp only[zz];refine aA (dZ rfl rfl) (aA aD ?_);simp only[zz];refine aC (hK2 _ _ ?_);refine bc ?_;try simp only[ac,af]
 refine bY rfl rfl ?_;try simp only[zD,zE]
 exact⟨_,rfl,hX,by rw[Wq];simp only[eE,nQ]⟩
theorem Jw{B:Option Addr}{os ys:List Nat}{g0 off na nb cb d:Nat}(w:aw)(hB0:gG w g0 (os.map lO) 101)(hd:dR 4294967296 os)(hlo:os.length≤1099511627776)(hR:eQ w B nb cb ys)(hoff:off+(ys.length+1)≤os.length)(hna:na=os.length-off)(hdd:d<4294967296)(hge:val 4294967296 ys*d≤val 4294967296 ((os.drop off).take (ys.length+1))):Vu prog 172 [.slice (some ⟨g0,off,none⟩) na na,.slice B nb cb,.int .u64 (d:Int)] w g0 (fun _ w'=>gG w' g0 ((laid os off (ys.length+1) (val 4294967296 ((os.drop off).take (ys.length+1))-val 4294967296 ys*d)).map lO) 101):=by
 skip
 refine⟨ac4,?_⟩;have hX:=dU.refl w;obtain rfl:=hR.eq;have hg0:=hB0.lt;have hS:eQ w (some ⟨g0,off,none⟩) na na (os.drop off):=by
  have h:=(hB0.nat hd rfl (by omega)).drop (show off≤os.length by omega) hna;rw[gA,ah] at h;rwa [hna] at *
 have hle:ys.length+1≤(os.drop off).length:=by simp;omega
 obtain⟨V,hV⟩:∃V,V=val 4294967296 ((os.drop off).take (ys.length+1)):=⟨_,rfl⟩
 rw[←hV] at hge ⊢
 go_enter func172,ntmps172
 refine aF (fun K1 hK1=>aa (aA aB (aA aB (aA (bR rfl cJ rfl) ?_))));simp only[zz];refine aA (aZ rfl rfl (aO (by omega) (by omega))) (aA (oB cJ bN rfl rfl (show _=ys.length+1 by omega) (by omega) (by omega)) ?_);simp only[zz];refine bT rfl rfl (Rn _ ((hS.ext hX).head hle)) ?_;rintro v w1 hE ⟨A1,c1,rfl,hN1⟩;replace hB0:=hB0.ext hE;replace hX:=hX.trans hE;clear hE;simp only[zz];refine aA aB (aA aB ?_);simp only[zz];refine cN cJ (z:=.int .u64 0) (by kernel_rfl) rfl (by simp only[zz];rfl) (by rfl) ?_;intro w2 g1 hE hg1 hB1;have hG1:=ak hX.size hg1;have hN1_0:g1≠g0:=au (ai hB0.lt hg1);replace hB0:=hB0.ext hE;(try replace hN1:=hN1.ext hE);replace hX:=hX.trans hE;clear hE hg1;simp only[zz];refine bT rfl rfl (Ao _ (hB1.nat (os:=[d]) (sT hdd) rfl (by omega))) ?_;rintro v w3 hE ⟨A3,c3,rfl,hN3⟩;replace hB0:=hB0.ext hE;(try replace hN1:=hN1.ext hE);replace hX:=hX.trans hE;clear hE;simp only[zz];refine bT rfl rfl (Xm _ (hR.ext hX) hN3 (by omega) (ak (pM (sT hdd)) (by simp))) ?_;rintro v w4 hE ⟨A4,c4,rfl,hN4⟩;replace hB0:=hB0.ext hE;(try replace hN1:=hN1.ext hE);replace hX:=hX.trans hE;clear hE;simp only[zz];have hsz:=hX.size;refine bT rfl rfl (Xl _ hN1 hN4 (by simp only[eE,nQ];rw[bl,co hle];exact Cg hR.digs hdd) (by simp only[eE,nQ];rw[←hV];exact hge) (by rw[bl];omega)) ?_;rintro v w5 hE ⟨⟨A5,c5,rfl,hN5⟩,hne⟩;replace hB0:=hB0.ext hE;replace hX:=hX.trans hE;clear hE;replace hne:∀a,A5=some a→a.block≠g0:=fun a e=>by subst e;have:=hne a _ _ rfl;omega
 simp only[eE,nQ,←hV] at hN5 ⊢;have hm:(digs 4294967296 (V-val 4294967296 ys*d)).length≤ys.length+1:=fG (by omega) (d_ (lp _ _) (by have h:=jY ((hd.drop off).take (ys.length+1));rw[bl,co hle,←hV] at h;exact h));simp only[zz];refine aA aD ?_;simp only[zz];refine aC (hK1 _ _ ?_);refine aF (fun K2 hK2=>?_);replace hX:=hX.upd g0;have hG0:w.heap.size≤g0∨g0=g0:=.inr rfl;refine aa (aA aB (aA aB (aA (bR rfl cJ rfl) ?_)));simp only[zz];refine aA (aZ rfl rfl (aO (by omega) (by omega))) (aA (oB cJ bN rfl rfl (show _=ys.length+1 by omega) (by omega) (by omega)) ?_);simp only[zz];refine aau (z:=.int .u64 0) rfl cJ (by kernel_rfl) rfl rfl (by omega) hB0 (by simp;omega) rfl ?_;clear hB0;intro w6 hC hB0
 (try replace hN5:=hN5.chg hC (by first | assumption | rfl));replace hX:=hX.chg hC hG0
 clear hC;refine aC (hK2 _ _ ?_);refine aa (aA aB (aA aB ?_));simp only[zz];refine aav rfl cJ (by kernel_rfl) rfl rfl (g:=g0) (o:=off) (n:=na) (m:=(digs 4294967296 (V-val 4294967296 ys*d)).length) (us:=(digs 4294967296 (V-val 4294967296 ys*d)).map lO) (by rw[dj];exact (co (by omega)).symm) hN5.src hB0 (by rw[uU (by simp;omega)];simp;omega) Ws ?_;clear hB0;intro w7 hC hB0;replace hX:=hX.chg hC hG0;clear hC;simp only[zz];refine aC ?_;try simp only[ac,af,if_true]
 exact aec rfl (⟨_,rfl,hX,by rw[←Th hoff hm];exact hB0⟩)
end Go.Proofs.YtimjandkmfcmiaaGreatDoor
namespace Go.Proofs.YtimjandkmfcmiaaGreatDoor
open Go.Proofs.Tryz
open Go.RowKit Go.Lith
set_option maxRecDepth 100000
attribute [local irreducible] bh ck eY Code.wp
theorem abX{A B:Option Addr}{xs ys:List Nat}{na nb ca cb:Nat}(w:aw)(hS:eQ w A na ca xs)(hR:eQ w B nb cb ys)(tx:gN xs)(ty:gN ys)(h0:0<val 4294967296 ys)(hlx:xs.length≤1000000000000)(hly:ys.length≤1000000000000):gZ prog 148 [.slice A na ca,.slice B nb cb] w (fun v w'=>∃q r,v=.tuple #[q,r]∧iQ (val 4294967296 xs / val 4294967296 ys) q w'∧iQ (val 4294967296 xs%val 4294967296 ys) r w'):=by
 skip
 refine⟨acU,?_⟩;have hX:=dU.refl w;obtain rfl:=hS.eq;obtain rfl:=hR.eq
 go_enter func148,ntmps148
 refine aF (fun K1 hK1=>aa (aA aD (aA aD ?_)));simp only[zz];refine aC (hK1 _ _ ?_);refine aF (fun K2 hK2=>aF (fun K3 hK3=>aa (aA aB (aA aB ?_))));simp only[zz];refine bT rfl rfl (Xk _ (hS.ext hX) (hR.ext hX) tx ty) ?_;rintro v w1 hE rfl;replace hX:=hX.trans hE;clear hE;simp only[zz];refine aA (dZ rfl rfl) ?_;simp only[zz];refine aC (hK3 _ _ ?_);refine cW rfl (fun hc1=>?_) (fun hc1=>?_)
 ·
  have hlt:=qV.1 hc1;refine aF (fun K4 hK4=>aa (aA aB (aA aD (aA aD ?_))));simp only[zz];refine aC (hK4 _ _ ?_);refine bc ?_;try simp only[ac,af]
  refine kD rfl rfl rfl ?_;try simp only[zD,zE]
  exact⟨_,rfl,hX,_,_,rfl,by rw[Nat.div_eq_of_lt hlt];exact iQ.zero _,by rw[Nat.mod_eq_of_lt hlt];exact iQ.self (hS.ext hX) tx⟩
 ·
  have hYX:val 4294967296 ys≤val 4294967296 xs:=gx fun h=>hc1 (qV.2 h);refine ar (hK2 _ _ ?_);refine aF (fun K5 hK5=>aF (fun K6 hK6=>aa (aA aB (aA (bR rfl cJ rfl) (aA (mF rfl rfl) ?_)))));simp only[zz];refine aC (hK6 _ _ ?_);refine cW rfl (fun hc2=>?_) (fun hc2=>?_)
  ·
   refine aF (fun K7 hK7=>?_);obtain⟨y,rfl⟩:∃y,ys=[y]:=List.length_eq_one_iff.1 (by omega);obtain⟨b,rfl,hcb,hyb⟩:=(hR.ext hX).get (i:=0) (by simp);simp only[List.getElem_cons_zero] at hcb hyb;refine aa (aA aB (aA aB (aA (aS cJ bN rfl rfl (by decide) (by omega) rfl) ?_)));simp only[zz];refine aI rfl (lies1 hcb fY) ?_;simp only[zz];refine bT rfl rfl (aaK _ (hS.ext hX) (by omega) (by rw[nQ] at h0;exact h0) (by omega)) ?_;rintro v w2 hE ⟨q,rfl,A1,c1,rfl,hN1⟩;replace hX:=hX.trans hE;clear hE;simp only[zz];refine aA aB (aA (aU rfl rfl) (aA (aU rfl rfl) ?_));simp only[zz];refine aA aD (aA aD ?_);simp only[zz];refine aC (hK7 _ _ ?_);refine aF (fun K8 hK8=>aa (aA aB (aA aB ?_)));simp only[zz];refine cN cJ (z:=.int .u64 0) (by kernel_rfl) rfl (by simp only[zz];rfl) (by rfl) ?_;intro w3 g1 hE hg1 hB1;have hG1:=ak hX.size hg1
   (try replace hN1:=hN1.ext hE);replace hX:=hX.trans hE
   clear hE hg1;simp only[zz];refine bT rfl rfl (Ao _ (hB1.nat (os:=[val 4294967296 xs%y]) (sT (ai (ft _ (by rw[nQ] at h0;exact h0)) (by omega))) rfl (by omega))) ?_;rintro v w4 hE ⟨A2,c2,rfl,hN2⟩
   (try replace hN1:=hN1.ext hE);replace hX:=hX.trans hE
   clear hE;simp only[nQ] at hN2 ⊢;simp only[zz];refine aA aD (aA aD ?_);simp only[zz];refine aC (hK8 _ _ ?_);refine bc ?_;try simp only[ac,af]
   refine kD rfl rfl rfl ?_;try simp only[zD,zE]
   exact⟨_,rfl,hX,_,_,rfl,by rw[nQ];exact⟨A1,c1,rfl,hN1⟩,by rw[nQ];exact⟨A2,c2,rfl,hN2⟩⟩
  ·
   have hl2:2≤ys.length:=by
    rcases ys with _ | ⟨y,ys⟩
    · exact absurd h0 (by simp[val])
    · simp only[ci] at hc2 ⊢;omega
   have hxy:ys.length≤xs.length:=by
    rcases Nat.lt_or_ge xs.length ys.length with h | h
    · have:=kT (B:=4294967296) (by omega) hS.digs hR.digs ty h;omega
    · exact h
   obtain⟨b,rfl,_,hyb⟩:=hR.get (i:=ys.length-1) (by omega);have htpy:=uX ty (by omega);refine ar (hK5 _ _ ?_);refine aF (fun K9 hK9=>aa (aA aD ?_));simp only[zz];refine aC (hK9 _ _ ?_);refine aF (fun K10 hK10=>av ?_);refine dI [8] [39,40,41,42,43,44,45,46,47,48,49,50] (fun n vs wl=>∃(sh:Nat),vs=[.int .i64 (sh:Int)]∧(dU w wl)∧(ys[ys.length-1]*2^sh<4294967296)∧(sh≤31)∧(n=32-sh)) ?_ ?_
   ·
    apply Exists.intro;simp only[zQ,zR,zD,zE];exact⟨0,rfl,hX,by simpa using hyb,by omega,rfl⟩
   ·
    intro n vs wr hI u;obtain⟨sh,rfl,hX,hsh,hs31,hn⟩:=hI;simp only[zu,zF,zG];refine aF (fun K11 hK11=>aF (fun K12 hK12=>?_));have hcb:=(hR.ext hX).at (show ys.length-1<ys.length by omega);refine aa (aA aB (aA aB (aA (bR rfl cJ rfl) ?_)));simp only[zz];refine aA (eH rfl rfl (aO (by omega) (by omega))) (aA (aS cJ bN rfl rfl (by omega) (by omega) (fH (show _=ys.length-1 by omega))) ?_);simp only[zz];refine aI rfl (lies1 hcb fY) ?_;simp only[zz];refine aA aB (aA (Dd rfl rfl (by omega) (tX (n:=sh) (by omega) (Oz (by omega) hyb))) (aA (mG rfl rfl (by omega) adj) ?_));simp only[zz];refine aA (mF rfl rfl) ?_;simp only[zz];refine aC (hK12 _ _ ?_);refine cW rfl (fun hc3=>?_) (fun hc3=>?_)
    ·
     refine ar ?_;refine hK11 _ _ (av (aa (aA aB (aA (aZ rfl rfl (aO (by omega) (by omega))) (aA aD ?_)))));simp only[zz];refine aC ?_;rw[show ((sh:Int)+1)=((sh+1:Nat):Int) by omega];have hlt31:ys[ys.length-1]*2^sh<2147483648:=by omega
     have hps:2^sh<2^31:=d_ (kw (2^sh) htpy) hlt31;have hs30:sh<31:=(Nat.pow_lt_pow_iff_right (by omega)).1 hps;simp only[ac,af];refine⟨32-(sh+1),_,?_,rfl,?_,?_⟩
     · omega
     · simp only[zz,zv]
     ·
      simp only[zQ,zR,zD,zE];exact⟨sh+1,rfl,hX,by rw[Nat.pow_succ,←Nat.mul_assoc];omega,by omega,rfl⟩
    ·
     refine bw ?_;refine hK10 _ _ (aF (fun K13 hK13=>aa (aA aB (aA aB ?_))));simp only[zz];refine bT rfl rfl (Rm _ (hS.ext hX) (by omega) (by omega)) ?_;rintro v w2 hE ⟨g1,us,rfl,hg1,hB1,hlu,hdu,hvu⟩;have hG1:=ak hX.size hg1;replace hX:=hX.trans hE;clear hE hg1;simp only[zz];refine aA aB (aA aB ?_);simp only[zz];refine bT rfl rfl (Rm _ (hR.ext hX) (by omega) (by omega)) ?_;rintro v w3 hE ⟨g2,vs0,rfl,hg2,hB2,hlv,hdv,hvv⟩;have hG2:=ak hX.size hg2;have hN2_1:g2≠g1:=au (ai hB1.lt hg2);replace hB1:=hB1.ext hE;replace hX:=hX.trans hE;clear hE hg2;rw[←hlv];simp only[zz];refine bT rfl rfl (sC _ (hB2.nat hdv rfl (by omega))) ?_;rintro v w4 hE rfl;replace hB1:=hB1.ext hE;replace hB2:=hB2.ext hE;replace hX:=hX.trans hE;clear hE;simp only[zz];refine aA aD (aA aD ?_);simp only[zz];refine aC ?_;obtain⟨ds,hvs⟩:∃ds,ds=trim vs0:=⟨_,rfl⟩
     rw[←hvs];have hlvs:ds.length=ys.length:=by rw[hvs];exact Ti hdv hvv hR.digs (by omega) hsh htpy hs31
     have hdvs:dR 4294967296 ds:=by rw[hvs];exact hdv.trim
     have hvvs:val 4294967296 ds=2^sh*val 4294967296 ys:=by rw[hvs,sP,hvv]
     obtain⟨K,hK⟩:∃K,K=xs.length+1-ds.length:=⟨_,rfl⟩
     refine hK13 _ _ ?_;refine aF (fun K14 hK14=>aa (aA aB (aA (bR rfl cJ rfl) (aA aB ?_))));simp only[zz];refine aA (bR rfl cJ rfl) (aA (eH rfl rfl (aO (by omega) (by omega))) ?_);simp only[zz];refine lU cJ oP rfl rfl rfl (show _=K by omega) (show _=K by omega) (by omega) (by omega) (by omega) (by omega) ?_;intro w5 g3 hE hg3 hB3;have hG3:=ak hX.size hg3;have hN3_1:g3≠g1:=au (ai hB1.lt hg3);have hN3_2:g3≠g2:=au (ai hB2.lt hg3);replace hB1:=hB1.ext hE;replace hB2:=hB2.ext hE;replace hX:=hX.trans hE;clear hE hg3;simp only[zz];refine aA aD ?_;simp only[zz];refine aC ?_;rw[iY] at hB3;refine hK14 _ _ (aF (fun K15 hK15=>?_));have hNv:=qW hB2 hdv (by omega);rw[←hvs] at hNv;have hct:=hNv.at (show ds.length-1<ds.length by omega);have hcs:=hNv.at (show ds.length-2<ds.length by omega);rw[gA,ah] at hct hcs;refine iH aP (by kernel_rfl) (aQ aB (aQ aB (aQ (bR rfl cJ rfl) ?_)));simp only[zz];refine aQ (eH rfl rfl (aO (by omega) (by omega))) (aQ (aS cJ bN rfl rfl (by omega) (by omega) (fS (show _=ds.length-1 by omega))) ?_);simp only[zz];refine iA rfl (fun _ hE'=>(lies1 (hE'.cell hct) fY)) ?_;simp only[zz];refine aQ aB (aQ aB (aQ (bR rfl cJ rfl) ?_));simp only[zz];refine aQ (eH rfl rfl (aO (by omega) (by omega))) (aQ (aS cJ bN rfl rfl (by omega) (by omega) (fS (show _=ds.length-2 by omega))) ?_);simp only[zz];refine iA rfl (fun _ hE'=>(lies1 (hE'.cell hcs) fY)) ?_;simp only[zz];refine aQ aD (aQ aD ?_);simp only[zz];refine eD ?_;intro w6 hE;replace hB1:=hB1.ext hE;replace hB2:=hB2.ext hE;replace hB3:=hB3.ext hE;replace hX:=hX.trans hE;clear hE;have htv:0<ds[ds.length-1]:=uX (by rw[hvs];exact tT _) (by omega);obtain⟨top,htop⟩:∃top,top=ds[ds.length-1]:=⟨_,rfl⟩
     obtain⟨sec,hsec⟩:∃sec,sec=ds[ds.length-2]:=⟨_,rfl⟩
     have htB:top<4294967296:=htop▸hdvs _ (dl _);have hsB:sec<4294967296:=hsec▸hdvs _ (dl _);rw[←htop] at htv;rw[←htop,←hsec];refine hK15 _ _ (aF (fun K16 hK16=>aF (fun K17 hK17=>?_)));clear hNv hct hcs;refine aa (aA aB (aA (bR rfl cJ rfl) (aA (eH rfl rfl (aO (by omega) (by omega))) ?_)));simp only[zz];refine aA aD ?_;simp only[zz];refine aC (hK17 _ _ ?_);refine av (dI [14] [15,16,17,18,79,80,81,82,83,84,85,86,87,88,89,90,91,92,93,94,95,96,97,98,99,100,101,102,103,104,105,106,107,108,109,110,111,112,113,114,115,116,117,118,119,120,121,122,123,124,125,126,127,128,129,130,131,132,133,134,135,136,137,138,139,140,141,142,143,144,145,146] (fun n vs wl=>∃(k:Nat) (us qs:List Nat),vs=[.int .i64 ((k:Int)-1)]∧(dU w wl)∧(gG wl g1 (us.map lO) 101)∧(gG wl g2 (vs0.map lO) 101)∧(gG wl g3 (qs.map lO) 101)∧(k≤K)∧(us.length=xs.length+1)∧(qs.length=K)∧(dR 4294967296 us)∧(dR 4294967296 qs)∧(val 4294967296 us+val 4294967296 qs*val 4294967296 ds=2^sh*val 4294967296 xs)∧(val 4294967296 (us.drop k)<val 4294967296 ds)∧(qs.take k=bk k 0)∧(n=k)) ?_ ?_)
     ·
      apply Exists.intro;simp only[zQ,zR,zD,zE];exact⟨K,us,bk K 0,rfl,hX,hB1,hB2,hB3,bi _,hlu,by simp,hdu,fun x hx=>by rw[di hx];decide,by rw[gT,Nat.zero_mul];exact hvu,by rw[hK];exact Wx hS.digs hlu hvu (by omega) (by omega) hs31 (by rw[hvvs,hlvs];exact Tj (by omega) (by omega)),by rw[List.take_of_length_le (by simp)],rfl⟩
     ·
      intro n vs wr hI u;obtain⟨k,us,qs,rfl,hX,hB1,hB2,hB3,hk,hlu,hlq,hdu,hdq,hI,hH,hz,hn⟩:=hI;simp only[zu,zF,zG];refine aF (fun K18 hK18=>aF (fun K19 hK19=>aa (aA aB (aA (lD rfl rfl) ?_))));simp only[zz];refine aC (hK19 _ _ ?_);refine cW rfl (fun hc4=>?_) (fun hc4=>?_)
      ·
       obtain⟨i,rfl⟩:∃i,k=i+1:=⟨k-1,by omega⟩
       rw[show (((i+1:Nat):Int)-1)=(i:Int) by omega];have hi:i+ds.length<us.length:=by omega
       refine ar ?_;refine hK18 _ _ (aF (fun K20 hK20=>av (aF (fun K21 hK21=>aa (aA aB (aA aB (aA (bR rfl cJ rfl) ?_)))))));simp only[zz];refine aA (aZ rfl rfl (aO (by omega) (by omega))) (aA aD ?_);simp only[zz];refine aC ?_;rw[show ((i:Int)+(ds.length:Int))=((i+ds.length:Nat):Int) by omega];refine hK21 _ _ (aF (fun K22 hK22=>?_));have hco1:=hB1.word (show i+ds.length<us.length by omega);have hco2:=hB1.word (show i+ds.length-1<us.length by omega);have hb1:us[i+ds.length]<4294967296:=hdu _ (dl _);have hb2:us[i+ds.length-1]<4294967296:=hdu _ (dl _);obtain⟨a3,ha3⟩:∃a3,a3=us[i+ds.length-2]:=⟨_,rfl⟩
       have hb3:a3<4294967296:=ha3▸hdu _ (dl _);obtain⟨U,hU⟩:∃U,U=val 4294967296 (us.drop i):=⟨_,rfl⟩
       refine iH aP (by kernel_rfl) (aQ aB (aQ aB (aQ (aS cJ bN rfl rfl (by omega) (by omega) (fS (show _=i+ds.length by omega))) ?_)));simp only[zz];refine iA rfl (fun _ hE'=>(lies1 (hE'.cell hco1) fY)) ?_;simp only[zz];refine aQ (Dd rfl rfl (by omega) (tX (n:=32) (by omega) (by omega))) (aQ aB (aQ aB ?_));simp only[zz];refine aQ (eH rfl rfl (aO (by omega) (by omega))) (aQ (aS cJ bN rfl rfl (by omega) (by omega) (fS (show _=i+ds.length-1 by omega))) ?_);simp only[zz];refine iA rfl (fun _ hE'=>(lies1 (hE'.cell hco2) fY)) ?_;simp only[zz];refine aQ (Oh rfl rfl (Cn (s:=32) (c:=us[i+ds.length]) (by omega) (by omega) (by omega))) (aQ aD ?_);simp only[zz];refine eD ?_;intro w7 hE;replace hB1:=hB1.ext hE;replace hB2:=hB2.ext hE;replace hB3:=hB3.ext hE;replace hX:=hX.trans hE;clear hE;obtain⟨two,htwo⟩:∃two:Nat,two=us[i+ds.length-1]+us[i+ds.length]*4294967296:=⟨_,rfl⟩
       rw[←htwo];have ht64:two<18446744073709551616:=by omega
       obtain⟨P,hP,f1,f2,f3,f4,f5,f6,f7⟩:=Tk hdu hdvs (by omega) hi hH htwo htop hsec ha3 hU;obtain⟨q,hq⟩:∃q,q=U / val 4294967296 ds:=⟨_,rfl⟩
       have hq1:q*val 4294967296 ds≤U:=by rw[hq];exact Nat.div_mul_le_self _ _
       have hV0:0<val 4294967296 ds:=by omega
       have hq2:U<(q+1)*val 4294967296 ds:=by rw[←gv hV0];omega
       have hqB:q<4294967296:=by rw[hq,gv hV0];exact f7
       refine hK22 _ _ ?_;refine aF (fun K23 hK23=>?_);refine iH aP (by kernel_rfl) (aQ aB (aQ aB (aQ (jA rfl rfl (by omega) (Cp ht64)) ?_)));simp only[zz];refine aQ aB (aQ aB (aQ (fL rfl rfl (by omega) lW) ?_));simp only[zz];refine aQ aD (aQ aD ?_);simp only[zz];refine eD ?_;intro w8 hE;replace hB1:=hB1.ext hE;replace hB2:=hB2.ext hE;replace hB3:=hB3.ext hE;replace hX:=hX.trans hE;clear hE;refine hK23 _ _ (aF (fun K24 hK24=>av ?_));refine dI [17,18] [104,105,106,107,108,109,110,111,112,113,114,115,116,117,118,119,120,121,122,123,124,125,126,127,128] (fun n vs wl=>∃(gq rr:Nat),vs=[.int .u64 (gq:Int),.int .u64 (rr:Int)]∧(dU w wl)∧(gG wl g1 (us.map lO) 101)∧(gG wl g2 (vs0.map lO) 101)∧(gG wl g3 (qs.map lO) 101)∧(gq*top+rr=two)∧(q≤gq)∧(n=gq)) ?_ ?_
       ·
        apply Exists.intro;simp only[zQ,zR,zD,zE];exact⟨two / top,two%top,rfl,hX,hB1,hB2,hB3,by rw[dw];exact Nat.div_add_mod two top,Wu (by omega) f1 f2 hq1 htv,rfl⟩
       ·
        intro n vs wr hI u;obtain⟨gq,rr,rfl,hX,hB1,hB2,hB3,hgr,hqg,hn3⟩:=hI;simp only[zu,zF,zG];refine aF (fun K25 hK25=>aF (fun K26 hK26=>?_));have hco3:=hB1.word (show i+ds.length-2<us.length by omega);rw[←ha3] at hco3;have hgt:gq≤two:=ak (jd gq htv) (by omega);rcases (show 4294967295<gq∨(gq≤4294967295∧4294967295<rr)∨(gq≤4294967295∧rr≤4294967295) by omega) with hga | ⟨hga,hrr⟩ | ⟨hga,hrr⟩
        ·
         have hqg2:q<gq:=by omega
         have hco3:=hB1.word (show i+ds.length-2<us.length by omega);rw[←ha3] at hco3;have hgt:gq≤two:=ak (jd gq htv) (by omega);refine aa (aA aB (aA (lN rfl rfl (by omega)) (aA aB ?_)));simp only[zz];refine bK rfl ?_;simp only[zz];refine bK rfl ?_;simp only[zz];refine bK rfl ?_;simp only[zz];refine dY rfl ?_;simp only[zz];refine dY rfl ?_;simp only[zz];refine dY rfl ?_;simp only[zz];refine dY rfl ?_;simp only[zz];refine dY rfl ?_;simp only[zz];refine dY rfl ?_;simp only[zz];refine dY rfl ?_;simp only[zz];refine dY rfl ?_;simp only[zz];refine dY rfl ?_;simp only[zz];refine dY rfl ?_;simp only[zz];refine dY rfl ?_;simp only[zz];refine dY rfl ?_;simp only[zz];refine bK rfl ?_;simp only[zz];refine aA (cT rfl) ?_;simp only[zz];refine aC (hK26 _ _ ?_);refine bX rfl (ar ?_);refine hK25 _ _ (av (aF (fun K27 hK27=>aa (aA aB (aA (eH rfl rfl (fX (by omega) (by omega))) (aA aD ?_))))));simp only[zz];refine aC (hK27 _ _ ?_);have hgt2:rr+top≤two:=by have:=kw top (show 0<gq by omega);omega
         refine aa (aA aB (aA aB (aA (aZ rfl rfl (fX (by omega) (by omega))) ?_)));simp only[zz];refine aA aD ?_;simp only[zz];refine aC ?_;obtain⟨g9,rfl⟩:∃g9,gq=g9+1:=⟨gq-1,by omega⟩
         rw[show (((g9+1:Nat):Int)-1)=(g9:Int) by omega,show ((rr:Int)+(top:Int))=((rr+top:Nat):Int) by omega];simp only[ac,af];refine⟨g9,_,?_,rfl,?_,?_⟩
         · omega
         · simp only[zz,zv]
         ·
          simp only[zQ,zR,zD,zE];exact⟨g9,rr+top,rfl,hX,hB1,hB2,hB3,by rw[Nat.add_mul,gl] at hgr;omega,by omega,rfl⟩
        ·
         have hx:gq*sec≤a3+rr*4294967296:=Wz (by omega) hsB (by omega);have hco3:=hB1.word (show i+ds.length-2<us.length by omega);rw[←ha3] at hco3;have hgt:gq≤two:=ak (jd gq htv) (by omega);refine aa (aA aB (aA (kE rfl rfl (by omega)) (aA aB ?_)));simp only[zz];refine aR rfl (aA aB ?_);simp only[zz];refine aR rfl (aA (Dh rfl rfl (by omega)) ?_);simp only[zz];refine aR rfl (aA aB ?_);simp only[zz];refine bO rfl ?_;simp only[zz];refine bO rfl ?_;simp only[zz];refine bO rfl ?_;simp only[zz];refine bO rfl ?_;simp only[zz];refine bO rfl ?_;simp only[zz];refine bO rfl ?_;simp only[zz];refine bO rfl ?_;simp only[zz];refine bO rfl ?_;simp only[zz];refine bO rfl ?_;simp only[zz];refine bO rfl ?_;simp only[zz];refine bO rfl ?_;simp only[zz];refine bO rfl ?_;simp only[zz];refine aR rfl (aA (cV rfl) (aA (cV rfl) ?_));simp only[zz];refine aC (hK26 _ _ ?_);refine eZ rfl (bw ?_);refine hK24 _ _ (aF (fun K28 hK28=>aF (fun K29 hK29=>?_)));have hNv:=qW hB2 hdv (by omega);rw[←hvs] at hNv;have hNu:=(hB1.nat hdu rfl (by omega)).drop (show i≤us.length by omega) rfl;rw[gA,ah,hlu] at hNu;have hU2:val 4294967296 ((us.drop i).take (ds.length+1))=U:=by rw[←yF hdvs (by omega) hH,hU]
         have hgl:gq≤q+1:=Md f4 f6 hq2 (Dn hgr hx) (by omega);obtain⟨ge1,ge2⟩:=He hq1 hq2 hqg hgl;refine aa (aA aB (aA aB (aA (oC cJ bN rfl rfl (an _) (by omega) (by omega) (vW (by omega))) ?_)));simp only[zz];refine aA aB (aA aB ?_);simp only[zz];refine bT rfl rfl (Xn _ hNu hNv (by simp;omega) (by omega) (by omega)) ?_;rintro v w9 hE rfl;replace hB1:=hB1.ext hE;replace hB2:=hB2.ext hE;replace hB3:=hB3.ext hE;replace hX:=hX.trans hE;clear hE;simp only[zz];refine aC (hK29 _ _ ?_);refine cW rfl (fun hc6=>?_) (fun hc6=>?_)
         ·
          have hg1:0<gq:=by
           rcases eg gq with h | h
           · rw[h,fk] at hc6;exact absurd hc6 (lg _)
           · exact h
          have hgq:=ge1 (by rw[←hU2];exact hc6);refine aa (aA aB (aA (eH rfl rfl (fX (by omega) (by omega))) (aA aD ?_)));simp only[zz];refine aC ?_;rw[show ((gq:Int)-1)=(q:Int) by omega];refine hK28 _ _ (aF (fun K30 hK30=>?_));clear hNv hNu;have hNv:=qW hB2 hdv (by omega);rw[←hvs] at hNv;refine aa (aA aB (aA aB (aA (oC cJ bN rfl rfl (an _) (by omega) (by omega) (vW (by omega))) ?_)));simp only[zz];refine aA aB (aA aB ?_);simp only[zz];refine xS rfl rfl (Jw _ hB1 hdu (by omega) hNv (by omega) (by omega) hqB (by rw[hU2,dw];exact hq1)) ?_;clear hB1;rintro v w10 hU hB1;replace hB2:=hB2.upd hU (by first | exact hN2_1 | exact Ne.symm hN1_2);replace hB3:=hB3.upd hU (by first | exact hN3_1 | exact Ne.symm hN1_3);replace hX:=hX.grownUpd hU hG1;clear hU;simp only[zz];refine aC (hK30 _ _ ?_);clear hNv;refine aa (aA aB (aA aB (aA aB ?_)));simp only[zz];refine aA (aS cJ bN rfl rfl (by omega) (by omega) (fS (an _))) ?_;simp only[zz];refine cE rfl (by simp only[zz];rfl) (by exact bN) hB3 (by simp;omega) (by simp[bf]) ?_;clear hB3;intro w11 hC hB3;replace hB1:=hB1.chg hC (by first | exact hN1_3 | exact Ne.symm hN3_1);replace hB2:=hB2.chg hC (by first | exact hN2_3 | exact Ne.symm hN3_2);replace hX:=hX.chg hC hG3;clear hC;rw[iD (by omega)] at hB3;refine aC (hK20 _ _ ?_);refine aa (aA aB (aA (eH rfl rfl (aO (by omega) (by omega))) (aA aD ?_)));simp only[zz];refine aC ?_;obtain⟨r1,r2,r3,r4⟩:=vX hdvs hdu hi hH hU hq1 hq2 hI hz (by omega);simp only[ac,af];refine⟨i,_,?_,rfl,?_,?_⟩
          · omega
          · simp only[zz,zv]
          ·
           simp only[zQ,zR,zD,zE];exact⟨i,laid us i (ds.length+1) (val 4294967296 ((us.drop i).take (ds.length+1))-val 4294967296 ds*q),qs.set i q,rfl,hX,hB1,hB2,hB3,by omega,by rw[r4];exact hlu,by simpa using hlq,vV hdu,hdq.set hqB,r1,r2,r3,rfl⟩
         ·
          have hgq:=ge2 (by rw[←hU2];exact hc6);rw[show (gq:Int)=(q:Int) by omega];refine ar (hK28 _ _ ?_);refine aF (fun K31 hK31=>?_);clear hNv hNu;have hNv:=qW hB2 hdv (by omega);rw[←hvs] at hNv;refine aa (aA aB (aA aB (aA (oC cJ bN rfl rfl (an _) (by omega) (by omega) (vW (by omega))) ?_)));simp only[zz];refine aA aB (aA aB ?_);simp only[zz];refine xS rfl rfl (Jw _ hB1 hdu (by omega) hNv (by omega) (by omega) hqB (by rw[hU2,dw];exact hq1)) ?_;clear hB1;rintro v w10 hU hB1;replace hB2:=hB2.upd hU (by first | exact hN2_1 | exact Ne.symm hN1_2);replace hB3:=hB3.upd hU (by first | exact hN3_1 | exact Ne.symm hN1_3);replace hX:=hX.grownUpd hU hG1;clear hU;simp only[zz];refine aC (hK31 _ _ ?_);clear hNv;refine aa (aA aB (aA aB (aA aB ?_)));simp only[zz];refine aA (aS cJ bN rfl rfl (by omega) (by omega) (fS (an _))) ?_;simp only[zz];refine cE rfl (by simp only[zz];rfl) (by exact bN) hB3 (by simp;omega) (by simp[bf]) ?_;clear hB3;intro w11 hC hB3;replace hB1:=hB1.chg hC (by first | exact hN1_3 | exact Ne.symm hN3_1);replace hB2:=hB2.chg hC (by first | exact hN2_3 | exact Ne.symm hN3_2);replace hX:=hX.chg hC hG3;clear hC;rw[iD (by omega)] at hB3;refine aC (hK20 _ _ ?_);refine aa (aA aB (aA (eH rfl rfl (aO (by omega) (by omega))) (aA aD ?_)));simp only[zz];refine aC ?_;obtain⟨r1,r2,r3,r4⟩:=vX hdvs hdu hi hH hU hq1 hq2 hI hz (by omega);simp only[ac,af];refine⟨i,_,?_,rfl,?_,?_⟩
          · omega
          · simp only[zz,zv]
          ·
           simp only[zQ,zR,zD,zE];exact⟨i,laid us i (ds.length+1) (val 4294967296 ((us.drop i).take (ds.length+1))-val 4294967296 ds*q),qs.set i q,rfl,hX,hB1,hB2,hB3,by omega,by rw[r4];exact hlu,by simpa using hlq,vV hdu,hdq.set hqB,r1,r2,r3,rfl⟩
        ·
         have hco3:=hB1.word (show i+ds.length-2<us.length by omega);rw[←ha3] at hco3;have hgt:gq≤two:=ak (jd gq htv) (by omega);refine aa (aA aB (aA (kE rfl rfl (by omega)) (aA aB ?_)));simp only[zz];refine aR rfl (aA aB ?_);simp only[zz];refine aR rfl (aA (Oj rfl rfl (by omega)) ?_);simp only[zz];refine aR rfl (aA aB ?_);simp only[zz];refine aR rfl (aA aB ?_);simp only[zz];refine aR rfl (aA aB ?_);simp only[zz];refine aR rfl (aA (fC rfl rfl (aaG (d_ (Wo (by omega) hsB) (by decide)))) ?_);simp only[zz];refine aR rfl (aA aB ?_);simp only[zz];refine aR rfl (aA (Dd rfl rfl (by omega) (tX (n:=32) (by omega) (by omega))) ?_);simp only[zz];refine aR rfl (aA aB ?_);simp only[zz];refine aR rfl (aA aB ?_);simp only[zz];refine aR rfl (aA (eH rfl rfl (aO (by omega) (by omega))) ?_);simp only[zz];refine aR rfl (aA (aS cJ bN rfl rfl (by omega) (by omega) (fS (show _=i+ds.length-2 by omega))) ?_);simp only[zz];refine aR rfl (aI rfl (lies1 hco3 fY) ?_);simp only[zz];refine aR rfl (aA (Oh rfl rfl (Cn (s:=32) (c:=rr) (by omega) (by omega) (by omega))) ?_);simp only[zz];refine aR rfl (aA (gW rfl rfl) ?_);simp only[zz];refine aR rfl (aA (cT rfl) (aA (cV rfl) ?_));simp only[zz];refine aC (hK26 _ _ ?_);refine cW rfl (fun hc5=>?_) (fun hc5=>?_)
         ·
          have hqg2:q<gq:=Wv hP f3 f5 hq1 (Pa hgr (by omega));refine ar (hK25 _ _ ?_);refine av (aF (fun K32 hK32=>aa (aA aB (aA (eH rfl rfl (fX (by omega) (by omega))) (aA aD ?_)))));simp only[zz];refine aC (hK32 _ _ ?_);have hgt2:rr+top≤two:=by have:=kw top (show 0<gq by omega);omega
          refine aa (aA aB (aA aB (aA (aZ rfl rfl (fX (by omega) (by omega))) ?_)));simp only[zz];refine aA aD ?_;simp only[zz];refine aC ?_;obtain⟨g9,rfl⟩:∃g9,gq=g9+1:=⟨gq-1,by omega⟩
          rw[show (((g9+1:Nat):Int)-1)=(g9:Int) by omega,show ((rr:Int)+(top:Int))=((rr+top:Nat):Int) by omega];simp only[ac,af];refine⟨g9,_,?_,rfl,?_,?_⟩
          · omega
          · simp only[zz,zv]
          ·
           simp only[zQ,zR,zD,zE];exact⟨g9,rr+top,rfl,hX,hB1,hB2,hB3,by rw[Nat.add_mul,gl] at hgr;omega,by omega,rfl⟩
         ·
          have hx:gq*sec≤a3+rr*4294967296:=by omega
          refine bw ?_;refine hK24 _ _ (aF (fun K33 hK33=>aF (fun K34 hK34=>?_)));have hNv:=qW hB2 hdv (by omega);rw[←hvs] at hNv;have hNu:=(hB1.nat hdu rfl (by omega)).drop (show i≤us.length by omega) rfl;rw[gA,ah,hlu] at hNu;have hU2:val 4294967296 ((us.drop i).take (ds.length+1))=U:=by rw[←yF hdvs (by omega) hH,hU]
          have hgl:gq≤q+1:=Md f4 f6 hq2 (Dn hgr hx) (by omega);obtain⟨ge1,ge2⟩:=He hq1 hq2 hqg hgl;refine aa (aA aB (aA aB (aA (oC cJ bN rfl rfl (an _) (by omega) (by omega) (vW (by omega))) ?_)));simp only[zz];refine aA aB (aA aB ?_);simp only[zz];refine bT rfl rfl (Xn _ hNu hNv (by simp;omega) (by omega) (by omega)) ?_;rintro v w9 hE rfl;replace hB1:=hB1.ext hE;replace hB2:=hB2.ext hE;replace hB3:=hB3.ext hE;replace hX:=hX.trans hE;clear hE;simp only[zz];refine aC (hK34 _ _ ?_);refine cW rfl (fun hc6=>?_) (fun hc6=>?_)
          ·
           have hg1:0<gq:=by
            rcases eg gq with h | h
            · rw[h,fk] at hc6;exact absurd hc6 (lg _)
            · exact h
           have hgq:=ge1 (by rw[←hU2];exact hc6);refine aa (aA aB (aA (eH rfl rfl (fX (by omega) (by omega))) (aA aD ?_)));simp only[zz];refine aC ?_;rw[show ((gq:Int)-1)=(q:Int) by omega];refine hK33 _ _ (aF (fun K35 hK35=>?_));clear hNv hNu;have hNv:=qW hB2 hdv (by omega);rw[←hvs] at hNv;refine aa (aA aB (aA aB (aA (oC cJ bN rfl rfl (an _) (by omega) (by omega) (vW (by omega))) ?_)));simp only[zz];refine aA aB (aA aB ?_);simp only[zz];refine xS rfl rfl (Jw _ hB1 hdu (by omega) hNv (by omega) (by omega) hqB (by rw[hU2,dw];exact hq1)) ?_;clear hB1;rintro v w10 hU hB1;replace hB2:=hB2.upd hU (by first | exact hN2_1 | exact Ne.symm hN1_2);replace hB3:=hB3.upd hU (by first | exact hN3_1 | exact Ne.symm hN1_3);replace hX:=hX.grownUpd hU hG1;clear hU;simp only[zz];refine aC (hK35 _ _ ?_);clear hNv;refine aa (aA aB (aA aB (aA aB ?_)));simp only[zz];refine aA (aS cJ bN rfl rfl (by omega) (by omega) (fS (an _))) ?_;simp only[zz];refine cE rfl (by simp only[zz];rfl) (by exact bN) hB3 (by simp;omega) (by simp[bf]) ?_;clear hB3;intro w11 hC hB3;replace hB1:=hB1.chg hC (by first | exact hN1_3 | exact Ne.symm hN3_1);replace hB2:=hB2.chg hC (by first | exact hN2_3 | exact Ne.symm hN3_2);replace hX:=hX.chg hC hG3;clear hC;rw[iD (by omega)] at hB3;refine aC (hK20 _ _ ?_);refine aa (aA aB (aA (eH rfl rfl (aO (by omega) (by omega))) (aA aD ?_)));simp only[zz];refine aC ?_;obtain⟨r1,r2,r3,r4⟩:=vX hdvs hdu hi hH hU hq1 hq2 hI hz (by omega);simp only[ac,af];refine⟨i,_,?_,rfl,?_,?_⟩
           · omega
           · simp only[zz,zv]
           ·
            simp only[zQ,zR,zD,zE];exact⟨i,laid us i (ds.length+1) (val 4294967296 ((us.drop i).take (ds.length+1))-val 4294967296 ds*q),qs.set i q,rfl,hX,hB1,hB2,hB3,by omega,by rw[r4];exact hlu,by simpa using hlq,vV hdu,hdq.set hqB,r1,r2,r3,rfl⟩
          ·
           have hgq:=ge2 (by rw[←hU2];exact hc6);rw[show (gq:Int)=(q:Int) by omega];refine ar (hK33 _ _ ?_);refine aF (fun K36 hK36=>?_);clear hNv hNu;have hNv:=qW hB2 hdv (by omega);rw[←hvs] at hNv;refine aa (aA aB (aA aB (aA (oC cJ bN rfl rfl (an _) (by omega) (by omega) (vW (by omega))) ?_)));simp only[zz];refine aA aB (aA aB ?_);simp only[zz];refine xS rfl rfl (Jw _ hB1 hdu (by omega) hNv (by omega) (by omega) hqB (by rw[hU2,dw];exact hq1)) ?_;clear hB1;rintro v w10 hU hB1;replace hB2:=hB2.upd hU (by first | exact hN2_1 | exact Ne.symm hN1_2);replace hB3:=hB3.upd hU (by first | exact hN3_1 | exact Ne.symm hN1_3);replace hX:=hX.grownUpd hU hG1;clear hU;simp only[zz];refine aC (hK36 _ _ ?_);clear hNv;refine aa (aA aB (aA aB (aA aB ?_)));simp only[zz];refine aA (aS cJ bN rfl rfl (by omega) (by omega) (fS (an _))) ?_;simp only[zz];refine cE rfl (by simp only[zz];rfl) (by exact bN) hB3 (by simp;omega) (by simp[bf]) ?_;clear hB3;intro w11 hC hB3;replace hB1:=hB1.chg hC (by first | exact hN1_3 | exact Ne.symm hN3_1);replace hB2:=hB2.chg hC (by first | exact hN2_3 | exact Ne.symm hN3_2);replace hX:=hX.chg hC hG3;clear hC;rw[iD (by omega)] at hB3;refine aC (hK20 _ _ ?_);refine aa (aA aB (aA (eH rfl rfl (aO (by omega) (by omega))) (aA aD ?_)));simp only[zz];refine aC ?_;obtain⟨r1,r2,r3,r4⟩:=vX hdvs hdu hi hH hU hq1 hq2 hI hz (by omega);simp only[ac,af];refine⟨i,_,?_,rfl,?_,?_⟩
           · omega
           · simp only[zz,zv]
           ·
            simp only[zQ,zR,zD,zE];exact⟨i,laid us i (ds.length+1) (val 4294967296 ((us.drop i).take (ds.length+1))-val 4294967296 ds*q),qs.set i q,rfl,hX,hB1,hB2,hB3,by omega,by rw[r4];exact hlu,by simpa using hlq,vV hdu,hdq.set hqB,r1,r2,r3,rfl⟩
      ·
       obtain rfl:k=0:=by omega
       rw[fg] at hH;obtain⟨dq,dr⟩:=Wy (X:=val 4294967296 xs) (Y:=val 4294967296 ys) (p:=2^sh) (u:=val 4294967296 us) (q:=val 4294967296 qs) (iv (by omega)) (by rw[←hvvs];exact hI) (by rw[←hvvs];exact hH);refine bw (hK16 _ _ ?_);refine aF (fun K37 hK37=>aa (aA aB ?_));simp only[zz];refine bT rfl rfl (Ao _ (hB3.nat hdq (by omega) (by omega))) ?_;rintro v w7 hE ⟨A5,c5,rfl,hN5⟩;replace hB1:=hB1.ext hE;replace hX:=hX.trans hE;clear hE;simp only[zz];refine aA aB ?_;simp only[zz];refine bT rfl rfl (Ao _ (hB1.nat hdu (by omega) (by omega))) ?_;rintro v w8 hE ⟨A6,c6,rfl,hN6⟩
       (try replace hN5:=hN5.ext hE);replace hX:=hX.trans hE
       clear hE;simp only[zz];refine aA aB ?_;simp only[zz];refine bT rfl rfl (Tw _ hN6 (ak (pM hdu) (by omega)) hs31) ?_;rintro v w9 hE ⟨A7,c7,rfl,hN7⟩
       (try replace hN5:=hN5.ext hE);replace hX:=hX.trans hE
       clear hE;simp only[zz];refine aA aD (aA aD ?_);simp only[zz];refine aC (hK37 _ _ ?_);refine bc ?_;try simp only[ac,af]
       refine kD rfl rfl rfl ?_;try simp only[zD,zE]
       exact⟨_,rfl,hX,_,_,rfl,by rw[←dq];exact⟨A5,c5,rfl,hN5⟩,by rw[←dr];simp only[eE] at hN7 ⊢;exact⟨A7,c7,rfl,hN7⟩⟩
end Go.Proofs.YtimjandkmfcmiaaGreatDoor
namespace Go.Proofs.YtimjandkmfcmiaaGreatDoor
open Go.Proofs.Tryz
open Go.RowKit Go.Lith
set_option maxRecDepth 100000
attribute [local irreducible] bh ck eY Code.wp
theorem wN{neg:Bool}{s:ByteArray}(w:aw)(hs:s.size≤1000000000000):gZ prog 57 [.agg #[.bool neg,.string s]] w (iQ (aaH s)):=by
 skip
 refine⟨aeV,?_⟩;have hX:=dU.refl w
 go_enter func57,ntmps57
 refine aF (fun K1 hK1=>aa ?_);refine gX (by simp only[zz];rfl) ?_;intro w1 g1 hE hg1 hB1;have hG1:=ak hX.size hg1;replace hX:=hX.trans hE;clear hE hg1;simp only[zz];refine aA aD ?_;simp only[zz];refine aC (hK1 _ _ ?_);refine aF (fun K2 hK2=>aa (aA (aG (c:=0) iK rfl rK rfl rfl) ?_));simp only[zz];refine aI rfl (hB1.lies1 xU rfl) ?_;simp only[zz];refine aA (qP rfl nJ rfl) (aA (aZ rfl rfl (aO (by omega) (by omega))) (aA (eH rfl rfl (aO (by omega) (by omega))) ?_));simp only[zz];rw[show ((s.size:Int)+4-1)=((s.size+3:Nat):Int) by omega];refine aA (jA rfl rfl (by omega) (mP (n:=4) (by omega))) ?_;simp only[zz];obtain⟨K,hK⟩:∃K,K=(s.size+3) / 4:=⟨_,rfl⟩
 rw[←hK];refine lU cJ oP rfl rfl rfl (show _=K by omega) (show _=K by omega) (by omega) (by omega) (by omega) (by omega) ?_;intro w2 g2 hE hg2 hB2;have hG2:=ak hX.size hg2;have hN2_1:g2≠g1:=au (ai hB1.lt hg2);replace hB1:=hB1.ext hE;replace hX:=hX.trans hE;clear hE hg2;simp only[zz];refine aA aD ?_;simp only[zz];refine aC ?_;rw[iY] at hB2;refine hK2 _ _ (aF (fun K3 hK3=>aF (fun K4 hK4=>aa (aA (aG (c:=0) iK rfl rK rfl rfl) ?_))));simp only[zz];refine aI rfl (hB1.lies1 xU rfl) ?_;simp only[zz];refine aA (qP rfl nJ rfl) (aA aB ?_);simp only[zz];refine aC (hK4 _ _ ?_);refine av (dI [16] [4,5,17,18,19,20,21,22,23,24,25,26,27,28,29,30,31,32,33,34,35,36,37,38,39,40,41] (fun n vs wl=>∃(i:Nat) (os:List Nat),vs=[.int .i64 (i:Int)]∧(dU w wl)∧(gG wl g1 [.bool neg,.string s] 35)∧(gG wl g2 (os.map lO) 101)∧(i≤s.size)∧(os.length=K)∧(dR 4294967296 os)∧(∀(j:Nat) (h:j<os.length),256^(s.size-i-4*j)∣os[j])∧(val 4294967296 os=256^(s.size-i)*val 256 ((mX s).drop (s.size-i)))∧(n=s.size-i)) ?_ ?_)
 ·
  apply Exists.intro;simp only[zQ,zR,zD,zE];exact⟨0,bk K 0,rfl,hX,hB1,hB2,by omega,by simp,fun x hx=>by rw[di hx];decide,fun j h=>by rw[List.getElem_replicate];exact Nat.dvd_zero _,by rw[gT,Xb (by rw[sA];omega),fk],rfl⟩
 ·
  intro n vs wr hI u;obtain⟨i,os,rfl,hX,hB1,hB2,hi,hlo,hd,hdv,hv,hn⟩:=hI;simp only[zu,zF,zG];refine aF (fun K5 hK5=>aa (aA (dZ rfl rfl) ?_));simp only[zz];refine aC (hK5 _ _ ?_);refine aF (fun K6 hK6=>?_);refine cW rfl (fun hc1=>?_) (fun hc1=>?_)
  ·
   refine ar ?_;refine hK6 _ _ (aF (fun K7 hK7=>av (aF (fun K8 hK8=>aa (aA aB (aA aD ?_))))));simp only[zz];refine aC (hK8 _ _ ?_);refine aF (fun K9 hK9=>aa (aA (aG (c:=0) iK rfl rK rfl rfl) ?_));simp only[zz];refine aI rfl (hB1.lies1 xU rfl) ?_;simp only[zz];refine aA (qP rfl nJ rfl) (aA (eH rfl rfl (aO (by omega) (by omega))) (aA aB ?_));simp only[zz];refine aA (eH rfl rfl (aO (by omega) (by omega))) (aA aD ?_);simp only[zz];refine aC ?_;obtain⟨p,hp⟩:∃p,p+1+i=s.size:=⟨s.size-1-i,by omega⟩
   rw[show ((s.size:Int)-1-(i:Int))=(p:Int) by omega];refine hK9 _ _ ?_;obtain⟨b,hb,hpl,hbp⟩:=wY hp;have hco:=hB2.word (show p / 4<os.length by omega);obtain⟨f1,f2,f3,f4⟩:=Tl (r:=p%4) (j:=p / 4) hpl (by omega) (by omega) (by omega) hd (Bp s) (by rw[show p+1=s.size-i by omega];exact hdv) (by rw[show p+1=s.size-i by omega];exact hv);rw[hbp,Do] at f1 f3 f4;have hb256:b.toNat<256:=b.toNat_lt;have f5:b.toNat*2^(8*(p%4))<2^(8*(p%4+1)):=by
    rw[show 8*(p%4+1)=8+8*(p%4) by omega,Nat.pow_add];exact Nat.mul_lt_mul_of_pos_right hb256 (iv (by omega))
   obtain⟨c,f6⟩:∃c,os[p / 4]=2^(8*(p%4+1))*c:=by
    obtain⟨c,hc⟩:=f2;exact⟨c,by rw[hc,Do]⟩
   refine jQ 16 aP (by kernel_rfl) ?_;simp only[zy];refine aQ aB (aQ aB (aQ (jA rfl rfl (by omega) (mP (n:=4) (by omega))) ?_));simp only[zz];refine aQ (aS cJ bN rfl rfl (by omega) (by omega) (fS (show _=p / 4 by omega))) ?_;simp only[zz];refine iA rfl (fun _ hE'=>(lies1 (hE'.cell hco) fY)) ?_;simp only[zz];refine aQ (aG (c:=0) iK rfl rK rfl rfl) ?_;simp only[zz];refine iA rfl (fun _ hE'=>((hB1.ext hE').lies1 xU rfl)) ?_;simp only[zz];refine aQ aB ?_;simp only[zz];refine aQ ((mT nJ rfl rfl (by omega) (by rw[an];exact hb))) ?_;simp only[zz];refine aQ (eT iB nL rfl (fX (by omega) (by omega))) (aQ aB (aQ (fL rfl rfl (by omega) (lW (n:=4))) ?_));simp only[zz];refine aQ (fC rfl rfl ((aO (by omega) (by omega)).trans (show (8:Int)*((p%4:Nat):Int)=((8*(p%4):Nat):Int) by omega))) (aQ (Dd rfl rfl (by omega) (tX (n:=8*(p%4)) (by omega) (by omega))) (aQ (Oh rfl rfl ((Cn (s:=8*(p%4+1)) (a:=b.toNat*2^(8*(p%4))) (b:=os[p / 4]) f5 f6 (by omega)).trans (show (((b.toNat*2^(8*(p%4)))+os[p / 4]:Nat):Int)=((os[p / 4]+b.toNat*2^(8*(p%4)):Nat):Int) by omega))) ?_));simp only[zz];refine aQ (aS cJ bN rfl rfl (by omega) (by omega) (fS (show _=p / 4 by omega))) ?_;simp only[zz];refine eD ?_;intro w3 hE;replace hB1:=hB1.ext hE;replace hB2:=hB2.ext hE;replace hX:=hX.trans hE;clear hE;refine cE rfl (by simp only[zz];rfl) (by exact bN) hB2 (by simp;omega) (by simp[bf]) ?_;clear hB2;intro w4 hC hB2;replace hB1:=hB1.chg hC (by first | exact hN1_2 | exact Ne.symm hN2_1);replace hX:=hX.chg hC hG2;clear hC;rw[iD (by omega)] at hB2;refine aC (hK7 _ _ ?_);refine aa (aA (aZ rfl rfl (aO (by omega) (by omega))) (aA aB ?_));simp only[zz];refine aC ?_;rw[show ((i:Int)+1)=((i+1:Nat):Int) by omega];simp only[ac,af];refine⟨s.size-(i+1),_,?_,rfl,?_,?_⟩
   · omega
   · simp only[zz,zv]
   ·
    simp only[zQ,zR,zD,zE];exact⟨i+1,os.set (p / 4) (os[p / 4]+b.toNat*2^(8*(p%4))),rfl,hX,hB1,hB2,by omega,by simpa using hlo,hd.set f1,by rw[show s.size-(i+1)=p by omega];exact f3,by rw[show s.size-(i+1)=p by omega];exact f4,rfl⟩
  ·
   refine bw ?_;refine hK3 _ _ (aF (fun K10 hK10=>?_));obtain rfl:i=s.size:=by omega
   refine aa (aA aB ?_);simp only[zz];refine bT rfl rfl (sC _ (hB2.nat hd (by omega) (by omega))) ?_;rintro v w3 hE rfl;replace hB2:=hB2.ext hE;replace hX:=hX.trans hE;clear hE;simp only[zz];refine aA aD ?_;simp only[zz];refine aC (hK10 _ _ ?_);refine bc ?_;try simp only[ac,af]
   refine bY rfl rfl ?_;try simp only[zD,zE]
   exact⟨_,rfl,hX,iQ.of_trim (hB2.nat hd (n:=K) (by omega) (by omega)) (by rw[hv,Nat.sub_self,Nat.pow_zero,gl,fg];rfl)⟩
end Go.Proofs.YtimjandkmfcmiaaGreatDoor
namespace Go.Proofs.YtimjandkmfcmiaaGreatDoor
open Go.Proofs.Tryz
open Go.RowKit Go.Lith
attribute [local go_sem] Oper.semAt_some
def sW(n₀ Bs:Nat)(W W':aw):Prop:=Below n₀ W W'∧W'.heap[Bs]? = W.heap[Bs]?
theorem sW.refl(n₀ Bs:Nat)(W:aw):sW n₀ Bs W W:=⟨Below.refl _ _,rfl⟩
theorem sW.trans{n₀ Bs:Nat}{A B C:aw}(h:sW n₀ Bs A B)(k:sW n₀ Bs B C):sW n₀ Bs A C:=⟨h.1.trans k.1,k.2.trans h.2⟩
theorem sW.box{n₀ Bs:Nat}{A B:aw}(h:sW n₀ Bs A B){v:aj}(hc:A.cell? ⟨Bs,0,none⟩=some v):B.cell? ⟨Bs,0,none⟩=some v:=(World.cell?_of_block h.2).trans hc
set_option maxRecDepth 100000 in
theorem Xo(F:Fence)(n:Nat)(h7:F.fn 124)(hro:F.round=none)(hn:1≤n)(l Bs n₀ cap:Nat)(a:Addr)(xs:List Nat)(hreach:xs.length*8≤140737488351232)(hb:a.block<n₀)(J Jx:List (Nat × Nat)→aw→Prop)
 (hY:∀pre x W,J pre W→pre.length<xs.length→YieldAt F (n-1) prog l #[.int .i64 (x.1:Int),.int .u64 (x.2:Int)] W fun e W' =>
  (e=.returned (.bool true)∧J (pre++[x]) W'∧sW n₀ Bs W W')∨(e=.returned (.bool false)∧Jx (pre++[x]) W'))
 (W:aw) (hBs:W.cell? ⟨Bs,0,none⟩=some (.slice (some a) xs.length cap)) (hc:∀j (h:j<xs.length),W.cell? (a.add j)=some (.int .u64 (xs[j]:Nat))) (h0:J [] W) :
 CallsIn F n prog 124 #[.func (.yield l) #[] #[],.pointer (some ⟨Bs,0,none⟩)] W fun e W'=>(∃v,e=.returned v) ∧
  ((∃ys:List (Nat × Nat),ys.map mz=xs.reverse∧J ys W')∨(∃pre,True∧Jx pre W')):=by
 refine callsIn_of_wp func124 rfl h7 ?_ hro;simp only[ntmps124,gd,ci,eu,ab,l_,jy,jz,kx,ki,dy,ep]
 gi_wp2
 gi_loopw [3] (fun i wr=>∃(k:Nat) (pre:List (Nat × Nat)),k≤xs.length∧i=.int .i64 ((k:Int)-1)∧pre.length=xs.length-k∧pre.map mz=(xs.drop k).reverse∧J pre wr∧sW n₀ Bs W wr)
  (fun i _=>(intOf i+1).toNat)
 case atStart=>exact⟨xs.length,[],bi _,rfl,by simp,by simp,h0,sW.refl _ _ _⟩
 case round =>
  obtain⟨k,pre,hk,rfl,hpl,hpre,hJs,hnx⟩:=hrel;have hBw:wr.cell? ⟨Bs,0,none⟩=some (.slice (some a) xs.length cap):=hnx.box hBs;by_cases hk0:0<k
  · have hlt:k-1<xs.length:=by omega
    have hcx:wr.cell? (a.add (k-1))=some (.int .u64 ((xs[k-1]:Nat):Int)):=(hnx.1.cell (by rw[nC];exact hb)).trans (hc _ hlt);obtain⟨fn,tmps,assign,body,hy,hR⟩:=hY pre (k-1,xs[k-1]) wr hJs (by omega);dsimp only at hy;obtain⟨j,rfl⟩:∃j,k=j+1:=⟨k-1,by omega⟩
    rw[show (((j+1:Nat):Int)-1)=(j:Int) by omega];simp only[fe] at hy hR hcx hlt
    gi_wp2
    refine hR.mono ?_;rintro e W3 (⟨rfl,hJ3,hk3⟩ | ⟨rfl,hJx3⟩)
    · gi_wp2
      go_roundw
      case rel=>exact⟨j,pre++[(j,xs[j])],by omega,by simp,by simp;omega,by rw[List.drop_eq_getElem_cons hlt,List.reverse_cons,br,hpre];rfl,hJ3,hnx.trans hk3⟩
      case measure=>simp[intOf]
    · gi_wp2
      refine bodyPost_ret (results_none rfl _ _ _) rfl ?_;exact⟨⟨_,rfl⟩,.inr ⟨_,trivial,hJx3⟩⟩
  · obtain rfl:k=0:=by omega
    gi_wp2
    go_end0
    exact⟨⟨_,rfl⟩,.inl ⟨pre,by rw[hpre];rfl,hJs⟩⟩
set_option maxRecDepth 100000 in
theorem Jy(F:Fence)(n:Nat)(h7:F.fn 124)(hro:F.round=none)(l Bs cap:Nat)(A:Option Addr)(J:List (Nat × Nat)→aw→Prop)(W:aw)(hBs:W.cell? ⟨Bs,0,none⟩=some (.slice A 0 cap))(h0:J [] W) :
 CallsIn F n prog 124 #[.func (.yield l) #[] #[],.pointer (some ⟨Bs,0,none⟩)] W fun e W'=>(∃v,e=.returned v)∧J [] W':=by
 refine callsIn_of_wp func124 rfl h7 ?_ hro;simp only[ntmps124,gd,ci,eu,ab,l_,jy,jz,kx,ki,dy,ep]
 gi_wp2
 gi_loopw [3] (fun i wr=>i=.int .i64 (-1)∧J [] wr) (fun _ _=>0)
 case atStart=>exact⟨rfl,h0⟩
 case round =>
  obtain⟨rfl,hJs⟩:=hrel
  gi_wp2
  go_end0
  exact⟨⟨_,rfl⟩,hJs⟩
theorem aaL(F:Fence)(n:Nat)(h5:F.fn 97)(hro:F.round=none)(a:Option Addr)(len cap:Nat)(w:aw) :
 CallsIn F n prog 97 #[.slice a len cap] w fun e w'=>e=.returned (.func (.func 124) #[] #[.pointer (some ⟨w.heap.size,0,none⟩)])∧w'=w.alloc (.cells #[.slice a len cap] 97):=by
 refine callsIn_of_wp func97 rfl h5 ?_ hro;simp only[ntmps97,gd,ci,eu,ab,l_,jy,jz,kx,ki,dy,ep]
 gi_wp2
 go_ret
 exact⟨rfl,rfl⟩
theorem Pk(F:Fence)(n:Nat)(h7:F.fn 124)(hro:F.round=none)(hn:1≤n)(Bs n₀ cap:Nat)(A:Option Addr)(xs:List Nat)(hreach:xs.length*8≤140737488351232)(w:aw)(hBs:Bs<w.heap.size)(hn₀:n₀≤w.heap.size)
 (hc:w.cell? ⟨Bs,0,none⟩=some (.slice A xs.length cap)) (hI:∀(i x:Nat),xs[i]? = some x→∃a,A=some a∧w.cell? (a.add i)=some (.int .u64 (x:Int))) (hA:∀a,0<xs.length→A=some a→a.block<n₀) :
 SeqStopsK F n prog 124 #[.pointer (some ⟨Bs,0,none⟩)] (fun x:Nat × Nat=>#[Value.int .i64 (x.1:Int),Value.int .u64 (x.2:Int)]) (sW n₀ Bs) (fun ys=>ys.map mz=xs.reverse) (fun _=>True) xs.length w:=fun l J Jx W hW _ _ hY h0=>by
 have hc':=(hW.cell (p:=⟨Bs,0,none⟩) hBs).trans hc;rcases eg xs.length with h | h
 · obtain rfl:xs=[]:=bz h
   exact (Jy F n h7 hro l Bs cap A J W hc' h0).mono fun e W' ⟨he,hj⟩=>⟨he,.inl ⟨[],rfl,hj⟩⟩
 · obtain⟨a,rfl,_⟩:=hI 0 xs[0] (ao h)
   refine Xo F n h7 hro hn l Bs n₀ cap a xs hreach (hA a h rfl) J Jx hY W hc' (fun j hj=>?_) h0;obtain⟨a',e,hcl⟩:=hI j xs[j] (ao hj);cases e;exact (hW.cell (by rw[nC];exact ai (hA a h rfl) hn₀)).trans hcl
theorem ads{A:Option Addr}{n cap:Nat}(w:aw):gZ prog 97 [.slice A n cap] w (fun v w'=>∃g,v=.func (.func 124) #[] #[.pointer (some ⟨g,0,none⟩)]∧w.heap.size≤g∧gG w' g [.slice A n cap] 97):=by
 refine⟨afx,(callsIn_wide (n:=2)).1 ((aaL Fence.wide 2 trivial rfl A n cap w).mono ?_)⟩;rintro e w' ⟨rfl,rfl⟩;exact⟨_,rfl,(dU.refl w).alloc _,_,rfl,bi _,jZ w _ _⟩
end Go.Proofs.YtimjandkmfcmiaaGreatDoor
namespace Go.Proofs.YtimjandkmfcmiaaGreatDoor
open Go.Proofs.Tryz
open Go.RowKit Go.Lith
set_option maxRecDepth 100000
attribute [local irreducible] bh ck eY Code.wp
attribute [local go_sem] Oper.semAt_some
theorem aaM:(prog.info? 5).map (fun i=>(i.zero,i.size,i.bytes))=some (some (.int .u8 0),1,1):=by kernel_rfl
theorem Ec{W w1:aw}{tmp:Obj}{v v':aj}{base size k g g3:Nat}{e t:TypeId}{xs cs:List aj}(hB:gG W g cs t)(hte:t≠e)(hr:W.ownsRow base e size v k xs)(hg:(W.alloc tmp).grownBy w1 v.ownBlock)(hne:g≠g3):(w1.setCell ⟨g3,0,none⟩ v').heap[g]? = W.heap[g]?:=by
 have h1:some g≠v.ownBlock:=by
  rcases hr.2 with ⟨rfl,_⟩ | ⟨g',cap,cur,rfl,_,hgb,_⟩
  · simp[mn]
  ·
   intro h;obtain rfl:g=g':=by simpa[mn] using h
   rw[hB] at hgb;cases hgb;exact hte rfl
 exact ((Below.heap_setCell w1 ⟨g3,0,none⟩ v' g hne).trans (hg.block g (by simp;have:=hB.lt;omega) h1)).trans (Below.heap_alloc W tmp g hB.lt)
theorem sD{A:Option Addr}{xs:List Nat}{na cap:Nat}{neg:Bool}(w:aw)(hS:eQ w A na cap xs)(hl:xs.length≤100000000000):gZ prog 59 [.slice A na cap,.bool neg] w (fun v _=>v=W (Dr neg (val 4294967296 xs))):=by
 skip
 refine⟨aeX,?_⟩;have hX:=dU.refl w;obtain rfl:=hS.eq;have hlt:=qU xs;have hle:=hS.le;refine (callsIn_wide (n:=4)).1 (callsIn_of_wp_marks func59 rfl trivial ?_ rfl);simp only[ntmps59,gd,ci,eu,ab,l_,jy,jz,kx,ki,dy,ep];refine wpIn_wide.2 (aF (fun K1 hK1=>aa ?_));refine eK cL rfl ?_;intro w1 g1 hE hg1 hB1;have hG1:=ak hX.size hg1;replace hX:=hX.trans hE;clear hE hg1;simp only[zz];refine aC (hK1 _ _ ?_);refine aF (fun K2 hK2=>aa (aA aB ?_));simp only[zz];refine bT rfl rfl (sC _ (hS.ext hX)) ?_;rintro v w2 hE rfl;replace hB1:=hB1.ext hE;replace hX:=hX.trans hE;clear hE;simp only[zz];refine aA aD ?_;simp only[zz];refine aC ?_;obtain⟨ys,hys⟩:∃ys,ys=trim xs:=⟨_,rfl⟩
 rw[←hys] at hlt ⊢;refine hK2 _ _ (aF (fun K3 hK3=>aa (aA aB (aA (bR rfl cJ rfl) (aA (fC rfl rfl (aO (by omega) (by omega))) ?_)))));simp only[zz];refine lU mV Gr rfl rfl rfl (show _=0 by omega) (show _=4*ys.length by omega) (by omega) (by omega) (by omega) (by omega) ?_;intro w3 g2 hE hg2 hB2;have hG2:=ak hX.size hg2;have hN2_1:g2≠g1:=au (ai hB1.lt hg2);replace hB1:=hB1.ext hE;replace hX:=hX.trans hE;clear hE hg2;simp only[zz];refine eK Wg rfl ?_;intro w4 g3 hE hg3 hB3;have hG3:=ak hX.size hg3;have hN3_1:g3≠g1:=au (ai hB1.lt hg3);have hN3_2:g3≠g2:=au (ai hB2.lt hg3);replace hB1:=hB1.ext hE;replace hB2:=hB2.ext hE;replace hX:=hX.trans hE;clear hE hg3;simp only[zz];refine cE rfl (by simp only[zz];rfl) (by exact Sy) hB3 (by simp) (by simp[bf]) ?_;clear hB3;intro w5 hC hB3;replace hB1:=hB1.chg hC (by first | exact hN1_3 | exact Ne.symm hN3_1);replace hB2:=hB2.chg hC (by first | exact hN2_3 | exact Ne.symm hN3_2);replace hX:=hX.chg hC hG3;clear hC;simp only[zy,zx,aW,ab] at hB3;refine aC (hK3 _ _ ?_);refine aF (fun K4 hK4=>aF (fun K5 hK5=>aa (aA aB ?_)));simp only[zz];refine bT rfl rfl (ads _) ?_;rintro v w6 hE ⟨g4,rfl,hg4,hB4⟩;have hG4:=ak hX.size hg4;have hN4_1:g4≠g1:=au (ai hB1.lt hg4);have hN4_2:g4≠g2:=au (ai hB2.lt hg4);have hN4_3:g4≠g3:=au (ai hB3.lt hg4);replace hB1:=hB1.ext hE;replace hB2:=hB2.ext hE;replace hB3:=hB3.ext hE;replace hX:=hX.trans hE;clear hE hg4;simp only[zz];refine aC (hK5 _ _ ?_);refine av ((wpIn_wide (n:=4)).1 ?_);have hbase:w.heap.size≤w6.heap.size:=hX.size;obtain⟨n0,hn0⟩:∃n0,n0=w.heap.size:=⟨_,rfl⟩
 have hT:eQ w6 A ys.length cap ys:=(((hS.ext hX).take (trim xs).length).as (iX xs).symm |> fun h=>by rw[←iX,←hys] at h;exact h)
 have hA:∀a,0<ys.length→A=some a→a.block<w.heap.size:=fun a h0 e=>by
  obtain⟨a',e',hc⟩:=hS.row 0 (xs[0]'(by omega)) (ao (by omega));rw[e] at e';cases e';have:=World.block_lt_of_cell? _ _ hc;rwa [nC] at this
 refine wpIn_rangeFunc_ownG (F:=Fence.wide) rfl (by omega) (gf:=124) (lb:=#[.pointer (some ⟨g4,0,none⟩)]) rfl trivial (enters_of func124 (by kernel_rfl) rfl)
  (Pk Fence.wide 3 trivial rfl (by omega) g4 w.heap.size cap A ys (by omega) w6 hB4.lt hX.size (hB4.cell rfl) hT.row hA) sW.trans (fun W l o o' hl ho _ _=>⟨belowK_b (w:=w6) hX.size W l o o' hl ho ‹_› ‹_›,World.putObj_heap_other (by have:=hB4.lt;omega)⟩) (Below.refl _ _) (fun _=>rfl)
  (fun pre W=>((∃v,Boxed W g3 139 v∧W.ownsRow w.heap.size 5 1 v (Mf pre).length ((Mf pre).map u8v)∧True)∧gG W g1 [.bool false,.string ⟨#[]⟩] 35∧gG W g4 [.slice A ys.length cap] 97)∧Below w.heap.size w W)
  (fun _ _ _=>False)
  (OwnFrom.and (OwnFrom.and (Own.from (holdsRow_own w.heap.size g3 139 5 1 (fun pre=>(Mf pre).length) (fun pre=>(Mf pre).map u8v) (fun _ _=>True)) _) (Own.from (fun s X Y row hs hg hr=>⟨(grownBy_keeps_cells hg hr hs.1 rfl).trans hs.1,(grownBy_keeps_cells hg hr hs.2 rfl).trans hs.2⟩) _)) (ownFrom_below (bi _) hX.size))
  (fun _ _ _ _ _ hs _ _=>hs)
  ⟨⟨⟨_,hB3,⟨rfl,.inr ⟨g2,4*ys.length,_,rfl,hG2,hB2,Nat.zero_le _,by show _≤9223372036854775807;omega,by simp,by simp[Mf]⟩⟩,trivial⟩,hB1,hB4⟩,hX⟩
  (fun x=>{ tmps:=#[.slice A ys.length cap,.bool neg,undef,undef,.pointer (some ⟨g1,0,none⟩),.pointer (some ⟨g3,0,none⟩),undef,.int .u64 (x.2:Int),undef,.slice A xs.length cap,.slice A ys.length cap,.slice A ys.length cap,.int .i64 (ys.length:Int),.int .i64 (4*(ys.length:Int)),.slice (some ⟨g2,0,none⟩) 0 (4*ys.length),.slice A ys.length cap,.func (.func 124) #[] #[.pointer (some ⟨g4,0,none⟩)],.int .i64 (x.1:Int),.int .u64 (x.2:Int),undef,undef,undef,undef,undef,undef,undef,undef,undef,undef,undef,undef,undef,undef,undef,undef,undef,undef,undef,undef,undef,undef,undef,undef],defers:=[] }) ?assign ?body ?done ?stop
 case assign =>
  intro l x W K hK;clear hys
  gi_wp2
  exact hK
 case stop =>
  rintro D c pre W _ _ h _;exact h.elim
 case body =>
  rintro l pre x W ⟨⟨⟨v,hv,hrow,_⟩,hB1',hB4'⟩,hB⟩ hlt;have hc:=hv.cell;have hwl:(Mf pre).length≤4*pre.length:=Nat.le_of_eq (Dq pre);clear hys;obtain⟨i0,hi,hz0,hz1,hz2⟩:=info_parts aaM
  gi_wp2_with (gi_at_builtin;refine wpListIn_append_own _ rfl _ _ 139 rfl w.heap.size 5 i0 (.int .u8 0) 1 1 mV hi hz0 hz1 hz2 rfl (by decide) _ _ _ rfl (hrow.alloc _) ⟨W.heap.size,0,none⟩ 4 4 [.int .u8 ((x.2:Int) / 16777216%256),.int .u8 ((x.2:Int) / 65536%256),.int .u8 ((x.2:Int) / 256%256),.int .u8 ((x.2:Int)%256)] rfl rfl ((jZ W _ 5).row 0) (by simp[bf]) (by show _≤9223372036854775807;omega) (by omega) (by have:=hB.size;simp;omega) ?_;intro v' w1 hown' hgrow _;obtain⟨g',cap',rfl⟩:=ownsRow_succ hown';obtain⟨hv1,hv2,hr2,hk2,hb2⟩:=hv.appended (by decide) hrow hB.size hG3 hown' hgrow;have hc1:=hv1.cell;have hf1:=hv1.frozen)
  have e1:=Ec hB1' (by decide) hrow hgrow (Ne.symm hN3_1) (v':=.slice (some ⟨g',0,none⟩) ((Mf pre).length+3+1) cap');have e4:=Ec hB4' (by decide) hrow hgrow hN4_3 (v':=.slice (some ⟨g',0,none⟩) ((Mf pre).length+3+1) cap');refine⟨hk2.from _,⟨hb2,e4⟩,⟨⟨_,hv2,?_,trivial⟩,e1.trans hB1',e4.trans hB4'⟩,hB.trans hb2⟩;rw[Xd,List.length_append,br];have e:(wb x.2).map u8v=[.int .u8 ((x.2:Int) / 16777216%256),.int .u8 ((x.2:Int) / 65536%256),.int .u8 ((x.2:Int) / 256%256),.int .u8 ((x.2:Int)%256)]:=by simp[wb,UInt8.toNat_ofNat']
  rw[e];exact hr2
 rintro D ls W hD hls ⟨⟨⟨v,hv,hrow,_⟩,hB1',_⟩,hX'⟩ hK';replace hD:=ak hX.size hD;clear hB1 hB2 hB3 hB4 hX hG2 hG4 hN2_1 hN3_2 hN4_1 hN4_2 hN4_3 hbase hT;have hB1:=hB1';have hB3:gG W g3 [v] 139:=hv;have hX:dU w W:=hX';have hK:Xc W D:=⟨hK'⟩
 have hDg1:=hK.ne hB1;have hlb:(Mf ls).length≤1000000000000000:=by
  have:=congrArg List.length hls;rw[dj,List.length_reverse] at this;rw[Dq];omega
 have hbs:mA (jH (Mf ls))=dQ (Dr neg (val 4294967296 xs)):=by
  have e:Mf ls=ys.reverse.flatMap wb:=by rw[←hls,List.flatMap_map];rfl
  have hd:dR 4294967296 ys:=by rw[hys];exact hS.digs.trim
  rw[e,Pf hd neg,hys,sP]
 dsimp only;refine hK4 _ _ (aF (fun K6 hK6=>aa ?_));refine aI rfl (hB3.lies1 aay rfl) ?_;simp only[zz];refine uT (Dp mV nL nJ rfl hrow) ?_;simp only[zz];refine gK rfl rfl (Pj hlb) ?_;intro w7 hE;replace hB1:=hB1.ext hE;(try replace hK:=hK.ext hE);replace hX:=hX.trans hE;clear hE;simp only[zz];refine aA aD ?_;simp only[zz];refine aC ?_;rw[hbs];refine hK6 _ _ (aF (fun K7 hK7=>?_));cases neg
 ·
  refine aa (aA aB (aA aB ?_));simp only[zz];refine bO rfl ?_;simp only[zz];refine bO rfl ?_;simp only[zz];refine aA (cV rfl) (aA aB (aA (qR rfl rfl) ?_));simp only[zz];refine cE rfl (by simp only[zz];rfl) (by exact aH) hB1 (by simp) (by simp[bf]) ?_;clear hB1;intro w8 hC hB1
  (try replace hK:=hK.chg hC (by first | assumption | rfl));replace hX:=hX.chg hC hG1
  clear hC;simp only[zy,zx,aW,ab] at hB1;refine aC (hK7 _ _ ?_);refine bc ?_;try simp only[ac,af]
  refine afF hK ?_;replace hB1:=hB1.putD hK (o:=.deferred none);replace hX:=hX.putD hD (o:=.deferred none);refine bY rfl ⟨_,rfl,(hB1.lies aT aH rfl rfl)⟩ ?_;try simp only[zD,zE]
  exact⟨_,rfl,hX,by simp[Lith.W,Jq,Ds]⟩
 ·
  refine aa (aA aB (aA aB ?_));simp only[zz];refine aR rfl (aA aB ?_);simp only[zz];refine aR rfl (aA (acj nJ rfl rfl) (aA (cT rfl) (aA aB ?_)));simp only[zz];refine aA (qR rfl rfl) ?_;simp only[zz];refine cE rfl (by simp only[zz];rfl) (by exact aH) hB1 (by simp) (by simp[bf]) ?_;clear hB1;intro w8 hC hB1
  (try replace hK:=hK.chg hC (by first | assumption | rfl));replace hX:=hX.chg hC hG1
  clear hC;simp only[zy,zx,aW,ab] at hB1;refine aC (hK7 _ _ ?_);refine bc ?_;try simp only[ac,af]
  refine afF hK ?_;replace hB1:=hB1.putD hK (o:=.deferred none);replace hX:=hX.putD hD (o:=.deferred none);refine bY rfl ⟨_,rfl,(hB1.lies aT aH rfl rfl)⟩ ?_;try simp only[zD,zE]
  exact⟨_,rfl,hX,by simp[Lith.W,Jq,Ds]⟩
end Go.Proofs.YtimjandkmfcmiaaGreatDoor
namespace Go.Proofs.YtimjandkmfcmiaaGreatDoor
open Go.Proofs.Tryz
open Go.RowKit Go.Lith
set_option maxRecDepth 100000
attribute [local irreducible] bh ck eY Code.wp
theorem mD{a:Int}(ha:Bd 1000000 a):eB prog 55 [W a] (.int .i64 (dS a)):=by
 intro w;refine⟨aeT,?_⟩;have hX:=dU.refl w
 go_enter func55,ntmps55
 refine aF (fun K1 hK1=>aa ?_);refine gX (by simp only[zz];rfl) ?_;intro w1 g1 hE hg1 hB1;have hG1:=ak hX.size hg1;replace hX:=hX.trans hE;clear hE hg1;simp only[zz];refine aA aD ?_;simp only[zz];refine aC (hK1 _ _ ?_);refine aF (fun K2 hK2=>av (aF (fun K3 hK3=>aa ?_)));refine aI rfl (hB1.lies aT aH rfl rfl) ?_;simp only[zz];refine bT rfl rfl (wN _ (fU ha)) ?_;rintro v w2 hE ⟨A1,c1,rfl,hN1⟩;replace hB1:=hB1.ext hE;replace hX:=hX.trans hE;clear hE;rw[fT] at hN1 ⊢;simp only[zz];refine aA (bR rfl cJ rfl) (aA (mF rfl rfl) (aA aD ?_));simp only[zz];refine aC (hK3 _ _ ?_);refine cW rfl (fun hc1=>?_) (fun hc1=>?_)
 ·
  have h0:=Js.1 hc1;refine aF (fun K4 hK4=>aa (aA aD ?_));simp only[zz];refine aC (hK4 _ _ ?_);refine bc ?_;try simp only[ac,af]
  refine bY rfl rfl ?_;try simp only[zD,zE]
  exact⟨_,rfl,hX,by rw[h0];rfl⟩
 ·
  refine aF (fun K5 hK5=>aa (aA (aG (c:=0) iK rfl fA rfl rfl) ?_));simp only[zz];refine aI rfl (hB1.lies1 jP rfl) ?_;simp only[zz];refine aA aD ?_;simp only[zz];refine aC (hK5 _ _ ?_);refine pK rfl (fun hc2=>?_) (fun hc2=>?_)
  ·
   have hn:=Ak hc2;refine aF (fun K6 hK6=>aa (aA aD ?_));simp only[zz];refine aC (hK6 _ _ ?_);refine bc ?_;try simp only[ac,af]
   refine bY rfl rfl ?_;try simp only[zD,zE]
   exact⟨_,rfl,hX,by rw[nG hn]⟩
  ·
   have hn:=xB hc2;have h0:¬a=0:=fun e=>hc1 (Js.2 e);refine ar (hK2 _ _ ?_);refine aF (fun K7 hK7=>aa (aA aD ?_));simp only[zz];refine aC (hK7 _ _ ?_);refine bc ?_;try simp only[ac,af]
   refine bY rfl rfl ?_;try simp only[zD,zE]
   exact⟨_,rfl,hX,by rw[lX (by omega)]⟩
theorem afH{a:Int}(ha:Bd 1000000 a):eB prog 95 [W a] (W (-a)):=by
 intro w;refine⟨afv,?_⟩;have hX:=dU.refl w
 go_enter func95,ntmps95
 refine aF (fun K1 hK1=>aa ?_);refine gX (by simp only[zz];rfl) ?_;intro w1 g1 hE hg1 hB1;have hG1:=ak hX.size hg1;replace hX:=hX.trans hE;clear hE hg1;simp only[zz];refine eK cL rfl ?_;intro w2 g2 hE hg2 hB2;have hG2:=ak hX.size hg2;have hN2_1:g2≠g1:=au (ai hB1.lt hg2);replace hB1:=hB1.ext hE;replace hX:=hX.trans hE;clear hE hg2;simp only[zz];refine aC (hK1 _ _ ?_);refine aF (fun K2 hK2=>?_);refine eF [(2,true),(0,true),(3,true),(4,true),(1,false),(5,false),(6,false)] aP (by kernel_rfl) (dJ (fun _ _ _ _ _ h=>h)) (ol:=?_) ?hol ?_
 case hol=>simp only[zw,zQ,zR];try rfl
 intro w3 hE;replace hB1:=hB1.ext hE;replace hB2:=hB2.ext hE;replace hX:=hX.trans hE;clear hE;refine⟨_,(kF.blk hB1 kF.nil),?_⟩;refine bA (aG (c:=0) iK rfl fA rfl rfl) ?_;simp only[zz];refine cO rfl (fun _ ⟨hB1,_⟩=>(hB1.lies aT aH rfl rfl)) ?_;simp only[zz];refine cO rfl (fun _ ⟨hB1,_⟩=>(hB1.lies1 jP rfl)) ?_;simp only[zz];refine bA (fM rfl) ?_;simp only[zz];refine dM (bT rfl rfl (wN _ (fU ha)) ?_);rintro v w4 hE ⟨A1,c1,rfl,hN1⟩;replace hB1:=hB1.ext hE;replace hB2:=hB2.ext hE;replace hX:=hX.trans hE;clear hE;rw[fT] at hN1 ⊢;simp only[zz];refine aC (⟨⟨hB1,trivial⟩,?_⟩);refine dM (bT rfl rfl (sD _ hN1 (ak (qY ha) (by decide))) ?_);rintro v w5 hE rfl;replace hB1:=hB1.ext hE;replace hB2:=hB2.ext hE;replace hX:=hX.trans hE;clear hE;simp only[eE];simp only[zz];refine aC (⟨⟨hB1,trivial⟩,?_⟩);refine dM ?_;refine cE rfl (by simp only[zz];rfl) (by exact aH) hB2 (by simp) (by simp[bf]) ?_;clear hB2;intro w6 hC hB2;replace hB1:=hB1.chg hC (by first | exact hN1_2 | exact Ne.symm hN2_1);replace hX:=hX.chg hC hG2;clear hC;simp only[zy,zx,aW,ab] at hB2;refine aC (⟨⟨hB1,trivial⟩,?_⟩);refine bB ?_;rw[Re] at hB2;refine hK2 _ _ (bc ?_);try simp only[ac,af]
 refine bY rfl ⟨_,rfl,(hB2.lies aT aH rfl rfl)⟩ ?_;try simp only[zD,zE]
 exact⟨_,rfl,hX,rfl⟩
theorem Ro{a b:Int}(ha:Bd 1000000 a)(hb:Bd 1000000 b):eB prog 94 [W a,W b] (W (a+b)):=by
 intro w;refine⟨afu,?_⟩;have hX:=dU.refl w;have hla:=qY ha;have hlb:=qY hb;have hls:=qY (Bd.add ha hb)
 go_enter func94,ntmps94
 refine aF (fun K1 hK1=>aa ?_);refine gX (by simp only[zz];rfl) ?_;intro w1 g1 hE hg1 hB1;have hG1:=ak hX.size hg1;replace hX:=hX.trans hE;clear hE hg1;simp only[zz];refine gX (by simp only[zz];rfl) ?_;intro w2 g2 hE hg2 hB2;have hG2:=ak hX.size hg2;have hN2_1:g2≠g1:=au (ai hB1.lt hg2);replace hB1:=hB1.ext hE;replace hX:=hX.trans hE;clear hE hg2;simp only[zz];refine eK cL rfl ?_;intro w3 g3 hE hg3 hB3;have hG3:=ak hX.size hg3;have hN3_1:g3≠g1:=au (ai hB1.lt hg3);have hN3_2:g3≠g2:=au (ai hB2.lt hg3);replace hB1:=hB1.ext hE;replace hB2:=hB2.ext hE;replace hX:=hX.trans hE;clear hE hg3;simp only[zz];refine aC (hK1 _ _ ?_);refine aF (fun K2 hK2=>?_);refine eF [(0,true),(2,true),(1,false),(3,false),(4,true),(5,true)] aP (by kernel_rfl) (dJ (fun _ _ _ _ _ h=>h)) (ol:=?_) ?hol ?_
 case hol=>simp only[zw,zQ,zR];try rfl
 intro w4 hE;replace hB1:=hB1.ext hE;replace hB2:=hB2.ext hE;replace hB3:=hB3.ext hE;replace hX:=hX.trans hE;clear hE;refine⟨_,(kF.blk hB1 (kF.blk hB2 kF.nil)),?_⟩;refine cO rfl (fun _ ⟨hB1,hB2,_⟩=>(hB1.lies aT aH rfl rfl)) ?_;simp only[zz];refine cO rfl (fun _ ⟨hB1,hB2,_⟩=>(hB2.lies aT aH rfl rfl)) ?_;simp only[zz];refine dM (bT rfl rfl (wN _ (fU ha)) ?_);rintro v w5 hE ⟨A1,c1,rfl,hN1⟩;replace hB1:=hB1.ext hE;replace hB2:=hB2.ext hE;replace hB3:=hB3.ext hE;replace hX:=hX.trans hE;clear hE;rw[fT] at hN1 ⊢;simp only[zz];refine aC (⟨⟨hB1,hB2,trivial⟩,?_⟩);refine dM (bT rfl rfl (wN _ (fU hb)) ?_);rintro v w6 hE ⟨A2,c2,rfl,hN2⟩;replace hB1:=hB1.ext hE;replace hB2:=hB2.ext hE;replace hB3:=hB3.ext hE;(try replace hN1:=hN1.ext hE);replace hX:=hX.trans hE;clear hE;rw[fT] at hN2 ⊢;simp only[zz];refine aC (⟨⟨hB1,hB2,trivial⟩,?_⟩);refine bA aD (bA aD ?_);simp only[zz];refine bB (hK2 _ _ ?_);refine aF (fun K3 hK3=>av (aF (fun K4 hK4=>aa (aA (aG (c:=0) iK rfl fA rfl rfl) ?_))));simp only[zz];refine aI rfl (hB1.lies1 jP rfl) ?_;simp only[zz];refine aA (aG (c:=0) iK rfl fA rfl rfl) ?_;simp only[zz];refine aI rfl (hB2.lies1 jP rfl) ?_;simp only[zz];refine aA (Vx Fw rfl rfl) (aA aD ?_);simp only[zz];refine aC (hK4 _ _ ?_);refine cW rfl (fun hc1=>?_) (fun hc1=>?_)
 ·
  refine aF (fun K5 hK5=>?_);refine eF [(0,true),(1,true),(3,true),(4,true),(2,false),(5,false),(6,false)] aP (by kernel_rfl) (dJ (fun _ _ _ _ _ h=>h)) (ol:=?_) ?hol ?_
  case hol=>simp only[zw,zQ,zR];try rfl
  intro w7 hE;replace hB1:=hB1.ext hE;replace hB3:=hB3.ext hE;(try replace hN1:=hN1.ext hE);(try replace hN2:=hN2.ext hE);replace hX:=hX.trans hE;clear hE;refine⟨_,(kF.blk hB1 kF.nil),?_⟩;refine bA aB (bA aB (bA (aG (c:=0) iK rfl fA rfl rfl) ?_));simp only[zz];refine cO rfl (fun _ ⟨hB1,_⟩=>(hB1.lies1 jP rfl)) ?_;simp only[zz];refine dM (bT rfl rfl (afG _ hN1 hN2 (ak hla (by decide)) (ak hlb (by decide))) ?_);rintro v w8 hE ⟨A3,c3,rfl,hN3⟩;replace hB1:=hB1.ext hE;replace hB3:=hB3.ext hE;replace hX:=hX.trans hE;clear hE;simp only[zz];refine aC (⟨⟨hB1,trivial⟩,?_⟩);refine dM ?_;simp only[eE] at hN3 ⊢;have hl3:(digs 4294967296 (a.natAbs+b.natAbs)).length≤100000000000:=ak (Tp ha hb) (by decide);refine bT rfl rfl (sD _ hN3 hl3) ?_;rintro v w9 hE rfl;replace hB1:=hB1.ext hE;replace hB3:=hB3.ext hE;replace hX:=hX.trans hE;clear hE;simp only[eE];simp only[zz];refine aC (⟨⟨hB1,trivial⟩,?_⟩);refine dM ?_;refine cE rfl (by simp only[zz];rfl) (by exact aH) hB3 (by simp) (by simp[bf]) ?_;clear hB3;intro w10 hC hB3;replace hB1:=hB1.chg hC (by first | exact hN1_3 | exact Ne.symm hN3_1);replace hX:=hX.chg hC hG3;clear hC;simp only[zy,zx,aW,ab] at hB3;refine aC (⟨⟨hB1,trivial⟩,?_⟩);refine bB ?_;rw[Rf hc1] at hB3;refine hK5 _ _ (bc ?_);try simp only[ac,af]
  refine bY rfl ⟨_,rfl,(hB3.lies aT aH rfl rfl)⟩ ?_;try simp only[zD,zE]
  exact⟨_,rfl,hX,rfl⟩
 ·
  refine aF (fun K6 hK6=>aa (aA aB (aA aB ?_)));simp only[zz];refine bT rfl rfl (Xk _ hN1 hN2 (jC _) (jC _)) ?_;rintro v w7 hE rfl;replace hB1:=hB1.ext hE;replace hB2:=hB2.ext hE;replace hB3:=hB3.ext hE;(try replace hN1:=hN1.ext hE);(try replace hN2:=hN2.ext hE);replace hX:=hX.trans hE;clear hE;simp only[eE];simp only[zz];refine aA (dZ rfl rfl) (aA aD ?_);simp only[zz];refine aC (hK6 _ _ ?_);refine cW rfl (fun hc2=>?_) (fun hc2=>?_)
  ·
   have hlt:=qV.1 hc2;refine aF (fun K7 hK7=>?_);refine eF [(0,true),(1,true),(3,true),(4,true),(2,false),(5,false),(6,false)] aP (by kernel_rfl) (dJ (fun _ _ _ _ _ h=>h)) (ol:=?_) ?hol ?_
   case hol=>simp only[zw,zQ,zR];try rfl
   intro w8 hE;replace hB2:=hB2.ext hE;replace hB3:=hB3.ext hE;(try replace hN1:=hN1.ext hE);(try replace hN2:=hN2.ext hE);replace hX:=hX.trans hE;clear hE;refine⟨_,(kF.blk hB2 kF.nil),?_⟩;refine bA aB (bA aB (bA (aG (c:=0) iK rfl fA rfl rfl) ?_));simp only[zz];refine cO rfl (fun _ ⟨hB2,_⟩=>(hB2.lies1 jP rfl)) ?_;simp only[zz];refine dM ?_;refine bT rfl rfl (Xl _ hN2 hN1 (Jr (Nat.le_of_lt hlt)) (by simp only[eE];omega) (ak hlb (by decide))) ?_;rintro v w9 hE ⟨⟨A3,c3,rfl,hN3⟩,_⟩;replace hB2:=hB2.ext hE;replace hB3:=hB3.ext hE;replace hX:=hX.trans hE;clear hE;simp only[eE] at hN3 ⊢;have hl3:=Jr (lp b.natAbs a.natAbs);simp only[zz];refine aC (⟨⟨hB2,trivial⟩,?_⟩);refine dM (bT rfl rfl (sD _ hN3 (ak hl3 (ak hlb (by decide)))) ?_);rintro v w10 hE rfl;replace hB2:=hB2.ext hE;replace hB3:=hB3.ext hE;replace hX:=hX.trans hE;clear hE;simp only[eE];simp only[zz];refine aC (⟨⟨hB2,trivial⟩,?_⟩);refine dM ?_;refine cE rfl (by simp only[zz];rfl) (by exact aH) hB3 (by simp) (by simp[bf]) ?_;clear hB3;intro w11 hC hB3;replace hB2:=hB2.chg hC (by first | exact hN2_3 | exact Ne.symm hN3_2);replace hX:=hX.chg hC hG3;clear hC;simp only[zy,zx,aW,ab] at hB3;refine aC (⟨⟨hB2,trivial⟩,?_⟩);refine bB ?_;rw[Xe hc1 hlt] at hB3;refine hK7 _ _ (bc ?_);try simp only[ac,af]
   refine bY rfl ⟨_,rfl,(hB3.lies aT aH rfl rfl)⟩ ?_;try simp only[zD,zE]
   exact⟨_,rfl,hX,rfl⟩
  ·
   have hge:b.natAbs≤a.natAbs:=gx fun h=>hc2 (qV.2 h);refine ar (hK3 _ _ ?_);refine aF (fun K8 hK8=>?_);refine eF [(0,true),(1,true),(3,true),(4,true),(2,false),(5,false),(6,false)] aP (by kernel_rfl) (dJ (fun _ _ _ _ _ h=>h)) (ol:=?_) ?hol ?_
   case hol=>simp only[zw,zQ,zR];try rfl
   intro w8 hE;replace hB1:=hB1.ext hE;replace hB3:=hB3.ext hE;(try replace hN1:=hN1.ext hE);(try replace hN2:=hN2.ext hE);replace hX:=hX.trans hE;clear hE;refine⟨_,(kF.blk hB1 kF.nil),?_⟩;refine bA aB (bA aB (bA (aG (c:=0) iK rfl fA rfl rfl) ?_));simp only[zz];refine cO rfl (fun _ ⟨hB1,_⟩=>(hB1.lies1 jP rfl)) ?_;simp only[zz];refine dM ?_;refine bT rfl rfl (Xl _ hN1 hN2 (Jr hge) (by simp only[eE];omega) (ak hla (by decide))) ?_;rintro v w9 hE ⟨⟨A3,c3,rfl,hN3⟩,_⟩;replace hB1:=hB1.ext hE;replace hB3:=hB3.ext hE;replace hX:=hX.trans hE;clear hE;simp only[eE] at hN3 ⊢;have hl3:=Jr (lp a.natAbs b.natAbs);simp only[zz];refine aC (⟨⟨hB1,trivial⟩,?_⟩);refine dM (bT rfl rfl (sD _ hN3 (ak hl3 (ak hla (by decide)))) ?_);rintro v w10 hE rfl;replace hB1:=hB1.ext hE;replace hB3:=hB3.ext hE;replace hX:=hX.trans hE;clear hE;simp only[eE];simp only[zz];refine aC (⟨⟨hB1,trivial⟩,?_⟩);refine dM ?_;refine cE rfl (by simp only[zz];rfl) (by exact aH) hB3 (by simp) (by simp[bf]) ?_;clear hB3;intro w11 hC hB3;replace hB1:=hB1.chg hC (by first | exact hN1_3 | exact Ne.symm hN3_1);replace hX:=hX.chg hC hG3;clear hC;simp only[zy,zx,aW,ab] at hB3;refine aC (⟨⟨hB1,trivial⟩,?_⟩);refine bB ?_;rw[Xf hc1 hge] at hB3;refine hK8 _ _ (bc ?_);try simp only[ac,af]
   refine bY rfl ⟨_,rfl,(hB3.lies aT aH rfl rfl)⟩ ?_;try simp only[zD,zE]
   exact⟨_,rfl,hX,rfl⟩
end Go.Proofs.YtimjandkmfcmiaaGreatDoor
namespace Go.Proofs.YtimjandkmfcmiaaGreatDoor
open Go.Proofs.Tryz
open Go.RowKit Go.Lith
set_option maxRecDepth 100000
attribute [local irreducible] bh ck eY Code.wp
theorem sX{a b:Int}(ha:Bd 1000000 a)(hb:Bd 1000000 b):eB prog 56 [W a,W b] (W (a-b)):=by
 intro w;refine⟨aeU,?_⟩;have hX:=dU.refl w
 go_enter func56,ntmps56
 refine aF (fun K1 hK1=>aa ?_);refine gX (by simp only[zz];rfl) ?_;intro w1 g1 hE hg1 hB1;have hG1:=ak hX.size hg1;replace hX:=hX.trans hE;clear hE hg1;simp only[zz];refine gX (by simp only[zz];rfl) ?_;intro w2 g2 hE hg2 hB2;have hG2:=ak hX.size hg2;have hN2_1:g2≠g1:=au (ai hB1.lt hg2);replace hB1:=hB1.ext hE;replace hX:=hX.trans hE;clear hE hg2;simp only[zz];refine eK cL rfl ?_;intro w3 g3 hE hg3 hB3;have hG3:=ak hX.size hg3;have hN3_1:g3≠g1:=au (ai hB1.lt hg3);have hN3_2:g3≠g2:=au (ai hB2.lt hg3);replace hB1:=hB1.ext hE;replace hB2:=hB2.ext hE;replace hX:=hX.trans hE;clear hE hg3;simp only[zz];refine aC (hK1 _ _ ?_);refine aF (fun K2 hK2=>?_);refine jQ 4 aP (by kernel_rfl) ?_;simp only[zy];refine iA rfl (fun _ hE'=>((hB1.ext hE').lies aT aH rfl rfl)) ?_;simp only[zz];refine iA rfl (fun _ hE'=>((hB2.ext hE').lies aT aH rfl rfl)) ?_;simp only[zz];refine oO rfl rfl (afH hb) ?_;simp only[zz];refine oO rfl rfl (Ro ha hb.neg) ?_;simp only[zz];refine eD ?_;intro w4 hE;replace hB3:=hB3.ext hE;replace hX:=hX.trans hE;clear hE;refine cE rfl (by simp only[zz];rfl) (by exact aH) hB3 (by simp) (by simp[bf]) ?_;clear hB3;intro w5 hC hB3;replace hX:=hX.chg hC hG3;clear hC;simp only[zy,zx,aW,ab] at hB3;refine aC ?_;rw[←Int.sub_eq_add_neg] at hB3;refine hK2 _ _ (bc ?_);try simp only[ac,af]
 refine bY rfl ⟨_,rfl,(hB3.lies aT aH rfl rfl)⟩ ?_;try simp only[zD,zE]
 exact⟨_,rfl,hX,rfl⟩
theorem kY{a b:Int}(ha:Bd 1000000 a)(hb:Bd 1000000 b):eB prog 38 [W a,W b] (W (a*b)):=by
 intro w;refine⟨aeC,?_⟩;have hX:=dU.refl w;have hla:=qY ha;have hlb:=qY hb;have hls:=qY (Bd.mul ha hb)
 go_enter func38,ntmps38
 refine aF (fun K1 hK1=>aa ?_);refine gX (by simp only[zz];rfl) ?_;intro w1 g1 hE hg1 hB1;have hG1:=ak hX.size hg1;replace hX:=hX.trans hE;clear hE hg1;simp only[zz];refine gX (by simp only[zz];rfl) ?_;intro w2 g2 hE hg2 hB2;have hG2:=ak hX.size hg2;have hN2_1:g2≠g1:=au (ai hB1.lt hg2);replace hB1:=hB1.ext hE;replace hX:=hX.trans hE;clear hE hg2;simp only[zz];refine eK cL rfl ?_;intro w3 g3 hE hg3 hB3;have hG3:=ak hX.size hg3;have hN3_1:g3≠g1:=au (ai hB1.lt hg3);have hN3_2:g3≠g2:=au (ai hB2.lt hg3);replace hB1:=hB1.ext hE;replace hB2:=hB2.ext hE;replace hX:=hX.trans hE;clear hE hg3;simp only[zz];refine aC (hK1 _ _ ?_);refine aF (fun K2 hK2=>?_);refine eF [(5,true),(7,true),(0,true),(2,true),(6,true),(8,true),(9,true),(1,false),(3,false),(4,false),(10,false),(11,false)] aP (by kernel_rfl) (dJ (fun _ _ _ _ _ h=>h)) (ol:=?_) ?hol ?_
 case hol=>simp only[zw,zQ,zR];try rfl
 intro w4 hE;replace hB1:=hB1.ext hE;replace hB2:=hB2.ext hE;replace hB3:=hB3.ext hE;replace hX:=hX.trans hE;clear hE;refine⟨_,(kF.blk hB1 (kF.blk hB2 kF.nil)),?_⟩;refine bA (aG (c:=0) iK rfl fA rfl rfl) (bA (aG (c:=0) iK rfl fA rfl rfl) ?_);simp only[zz];refine cO rfl (fun _ ⟨hB1,hB2,_⟩=>(hB1.lies aT aH rfl rfl)) ?_;simp only[zz];refine cO rfl (fun _ ⟨hB1,hB2,_⟩=>(hB2.lies aT aH rfl rfl)) ?_;simp only[zz];refine cO rfl (fun _ ⟨hB1,hB2,_⟩=>(hB1.lies1 jP rfl)) ?_;simp only[zz];refine cO rfl (fun _ ⟨hB1,hB2,_⟩=>(hB2.lies1 jP rfl)) ?_;simp only[zz];refine bA (Dj Fw rfl rfl) ?_;simp only[zz];refine dM (bT rfl rfl (wN _ (fU ha)) ?_);rintro v w5 hE ⟨A1,c1,rfl,hN1⟩;replace hB1:=hB1.ext hE;replace hB2:=hB2.ext hE;replace hB3:=hB3.ext hE;replace hX:=hX.trans hE;clear hE;rw[fT] at hN1 ⊢;simp only[zz];refine aC (⟨⟨hB1,hB2,trivial⟩,?_⟩);refine dM (bT rfl rfl (wN _ (fU hb)) ?_);rintro v w6 hE ⟨A2,c2,rfl,hN2⟩;replace hB1:=hB1.ext hE;replace hB2:=hB2.ext hE;replace hB3:=hB3.ext hE;(try replace hN1:=hN1.ext hE);replace hX:=hX.trans hE;clear hE;rw[fT] at hN2 ⊢;simp only[zz];refine aC (⟨⟨hB1,hB2,trivial⟩,?_⟩);refine dM (bT rfl rfl (Xm _ hN1 hN2 (ak hla (by decide)) (ak hlb (by decide))) ?_);rintro v w7 hE ⟨A3,c3,rfl,hN3⟩;replace hB1:=hB1.ext hE;replace hB2:=hB2.ext hE;replace hB3:=hB3.ext hE;replace hX:=hX.trans hE;clear hE;simp only[eE] at hN3 ⊢;rw[←Int.natAbs_mul] at hN3 ⊢;simp only[zz];refine aC (⟨⟨hB1,hB2,trivial⟩,?_⟩);refine dM (bT rfl rfl (sD _ hN3 (ak hls (by decide))) ?_);rintro v w8 hE rfl;replace hB1:=hB1.ext hE;replace hB2:=hB2.ext hE;replace hB3:=hB3.ext hE;replace hX:=hX.trans hE;clear hE;simp only[eE];simp only[zz];refine aC (⟨⟨hB1,hB2,trivial⟩,?_⟩);refine dM ?_;refine cE rfl (by simp only[zz];rfl) (by exact aH) hB3 (by simp) (by simp[bf]) ?_;clear hB3;intro w9 hC hB3;replace hB1:=hB1.chg hC (by first | exact hN1_3 | exact Ne.symm hN3_1);replace hB2:=hB2.chg hC (by first | exact hN2_3 | exact Ne.symm hN3_2);replace hX:=hX.chg hC hG3;clear hC;simp only[zy,zx,aW,ab] at hB3;refine aC (⟨⟨hB1,hB2,trivial⟩,?_⟩);refine bB ?_;rw[Int.natAbs_mul,Rg] at hB3;refine hK2 _ _ (bc ?_);try simp only[ac,af]
 refine bY rfl ⟨_,rfl,(hB3.lies aT aH rfl rfl)⟩ ?_;try simp only[zD,zE]
 exact⟨_,rfl,hX,rfl⟩
theorem Ed{a b:Int}(ha:Bd 900000 a)(hb:Bd 900000 b):eB prog 37 [W a,W b] (.int .i64 (dS (a-b))):=by
 intro w;refine⟨aeB,?_⟩;have hX:=dU.refl w
 go_enter func37,ntmps37
 refine aF (fun K1 hK1=>aa ?_);refine gX (by simp only[zz];rfl) ?_;intro w1 g1 hE hg1 hB1;have hG1:=ak hX.size hg1;replace hX:=hX.trans hE;clear hE hg1;simp only[zz];refine gX (by simp only[zz];rfl) ?_;intro w2 g2 hE hg2 hB2;have hG2:=ak hX.size hg2;have hN2_1:g2≠g1:=au (ai hB1.lt hg2);replace hB1:=hB1.ext hE;replace hX:=hX.trans hE;clear hE hg2;simp only[zz];refine aA aD ?_;simp only[zz];refine aC (hK1 _ _ ?_);refine aF (fun K2 hK2=>aa ?_);refine aI rfl (hB1.lies aT aH rfl rfl) ?_;simp only[zz];refine aI rfl (hB2.lies aT aH rfl rfl) ?_;simp only[zz];refine gK rfl rfl (sX (ha.mono (by decide)) (hb.mono (by decide))) ?_;intro w3 hE;replace hX:=hX.trans hE;clear hE;simp only[zz];refine gK rfl rfl (mD ((Bd.sub ha hb).mono (by decide))) ?_;intro w4 hE;replace hX:=hX.trans hE;clear hE;simp only[zz];refine aA aD ?_;simp only[zz];refine aC (hK2 _ _ ?_);refine bc ?_;try simp only[ac,af]
 refine bY rfl rfl ?_;try simp only[zD,zE]
 exact⟨_,rfl,hX,rfl⟩
theorem mE{n:Int}(h:kO n):eB prog 40 [.int .i64 n] (W n):=by
 intro w;refine⟨aeE,?_⟩;have hX:=dU.refl w;have hna:=h.natAbs
 go_enter func40,ntmps40
 refine aF (fun K1 hK1=>aa ?_);refine eK cL rfl ?_;intro w1 g1 hE hg1 hB1;have hG1:=ak hX.size hg1;replace hX:=hX.trans hE;clear hE hg1;simp only[zz];refine aC (hK1 _ _ ?_);refine aF (fun K2 hK2=>?_);rcases (show n<0∨0≤n by omega) with h0 | h0
 ·
  refine aa (aA aB (aA (eT iB jR rfl (Rj h h0)) (aA aD ?_)));simp only[zz];refine aC (hK2 _ _ ?_);refine aF (fun K3 hK3=>aF (fun K4 hK4=>aa (aA aB (aA (cD rfl rfl (by omega)) ?_))));simp only[zz];refine aC (hK4 _ _ ?_);refine bX rfl (aa (aA aB (aA (qO rfl (Hg hna (by omega))) (aA aD ?_))));simp only[zz];refine aC (hK3 _ _ ?_);refine aF (fun K5 hK5=>aa (aA aB (aA (sI rfl rfl (Co (by omega))) (aA aB ?_))));simp only[zz];refine aA (mG rfl rfl (by omega) Jn) ?_;simp only[zz];refine qQ cJ (z:=.int .u64 0) (by kernel_rfl) rfl (by simp only[zz];rfl) (by rfl) (by simp only[zz];rfl) (by rfl) ?_;intro w2 g2 hE hg2 hB2;have hG2:=ak hX.size hg2;have hN2_1:g2≠g1:=au (ai hB1.lt hg2);replace hB1:=hB1.ext hE;replace hX:=hX.trans hE;clear hE hg2;simp only[zz];refine aA aB (aA (cD rfl rfl (by omega)) ?_);simp only[zz];refine bT rfl rfl (sD _ (hB2.nat (os:=[n.natAbs%4294967296,n.natAbs / 4294967296]) (Dt (by omega)) rfl (by omega)) (by simp)) ?_;rintro v w3 hE rfl;replace hB1:=hB1.ext hE;replace hX:=hX.trans hE;clear hE;simp only[zz];refine cE rfl (by simp only[zz];rfl) (by exact aH) hB1 (by simp) (by simp[bf]) ?_;clear hB1;intro w4 hC hB1;replace hX:=hX.chg hC hG1;clear hC;simp only[zy,zx,aW,ab] at hB1;refine aC (hK5 _ _ ?_);refine bc ?_;try simp only[ac,af]
  refine bY rfl ⟨_,rfl,(hB1.lies aT aH rfl rfl)⟩ ?_;try simp only[zD,zE]
  exact⟨_,rfl,hX,by rw[Hh,show true=cY n from (decide_eq_true h0).symm,yG];rfl⟩
 ·
  refine aa (aA aB (aA (eT iB jR rfl (Xg h h0)) (aA aD ?_)));simp only[zz];refine aC (hK2 _ _ ?_);refine aF (fun K6 hK6=>aF (fun K7 hK7=>aa (aA aB (aA (fD rfl rfl (by omega)) ?_))));simp only[zz];refine aC (hK7 _ _ ?_);refine eZ rfl (ar ?_);refine hK6 _ _ (aF (fun K8 hK8=>aa (aA aB (aA (sI rfl rfl (Co (by omega))) (aA aB ?_)))));simp only[zz];refine aA (mG rfl rfl (by omega) Jn) ?_;simp only[zz];refine qQ cJ (z:=.int .u64 0) (by kernel_rfl) rfl (by simp only[zz];rfl) (by rfl) (by simp only[zz];rfl) (by rfl) ?_;intro w2 g2 hE hg2 hB2;have hG2:=ak hX.size hg2;have hN2_1:g2≠g1:=au (ai hB1.lt hg2);replace hB1:=hB1.ext hE;replace hX:=hX.trans hE;clear hE hg2;simp only[zz];refine aA aB (aA (fD rfl rfl (by omega)) ?_);simp only[zz];refine bT rfl rfl (sD _ (hB2.nat (os:=[n.natAbs%4294967296,n.natAbs / 4294967296]) (Dt (by omega)) rfl (by omega)) (by simp)) ?_;rintro v w3 hE rfl;replace hB1:=hB1.ext hE;replace hX:=hX.trans hE;clear hE;simp only[zz];refine cE rfl (by simp only[zz];rfl) (by exact aH) hB1 (by simp) (by simp[bf]) ?_;clear hB1;intro w4 hC hB1;replace hX:=hX.chg hC hG1;clear hC;simp only[zy,zx,aW,ab] at hB1;refine aC (hK8 _ _ ?_);refine bc ?_;try simp only[ac,af]
  refine bY rfl ⟨_,rfl,(hB1.lies aT aH rfl rfl)⟩ ?_;try simp only[zD,zE]
  exact⟨_,rfl,hX,by rw[Hh,show false=cY n from (decide_eq_false (by omega)).symm,yG];rfl⟩
theorem abY{a b:Int}(ha:Bd 1000000 a)(hb:Bd 1000000 b)(h0:b≠0):eB prog 132 [W a,W b] (.tuple #[W (a.tdiv b),W (a.tmod b),.bool true]):=by
 intro w;refine⟨acM,?_⟩;have hX:=dU.refl w;have hla:=qY ha;have hlb:=qY hb;have hq:=qY (show Bd 1000000 (a.tdiv b) from ha.of_le (by rw[jp];exact fy ..));have hr:=qY (show Bd 1000000 (a.tmod b) from ha.of_le (by rw[lf];exact Nat.mod_le ..));rw[jp] at hq;rw[lf] at hr
 go_enter func132,ntmps132
 refine aF (fun K1 hK1=>aa ?_);refine gX (by simp only[zz];rfl) ?_;intro w1 g1 hE hg1 hB1;have hG1:=ak hX.size hg1;replace hX:=hX.trans hE;clear hE hg1;simp only[zz];refine gX (by simp only[zz];rfl) ?_;intro w2 g2 hE hg2 hB2;have hG2:=ak hX.size hg2;have hN2_1:g2≠g1:=au (ai hB1.lt hg2);replace hB1:=hB1.ext hE;replace hX:=hX.trans hE;clear hE hg2;simp only[zz];refine eK cL rfl ?_;intro w3 g3 hE hg3 hB3;have hG3:=ak hX.size hg3;have hN3_1:g3≠g1:=au (ai hB1.lt hg3);have hN3_2:g3≠g2:=au (ai hB2.lt hg3);replace hB1:=hB1.ext hE;replace hB2:=hB2.ext hE;replace hX:=hX.trans hE;clear hE hg3;simp only[zz];refine eK cL rfl ?_;intro w4 g4 hE hg4 hB4;have hG4:=ak hX.size hg4;have hN4_1:g4≠g1:=au (ai hB1.lt hg4);have hN4_2:g4≠g2:=au (ai hB2.lt hg4);have hN4_3:g4≠g3:=au (ai hB3.lt hg4);replace hB1:=hB1.ext hE;replace hB2:=hB2.ext hE;replace hB3:=hB3.ext hE;replace hX:=hX.trans hE;clear hE hg4;simp only[zz];refine aA aD ?_;simp only[zz];refine aC (hK1 _ _ ?_);refine aF (fun K2 hK2=>aa ?_);refine aI rfl (hB2.lies aT aH rfl rfl) ?_;simp only[zz];refine bT rfl rfl (wN _ (fU hb)) ?_;rintro v w5 hE ⟨A1,c1,rfl,hN1⟩;replace hB1:=hB1.ext hE;replace hB2:=hB2.ext hE;replace hB3:=hB3.ext hE;replace hB4:=hB4.ext hE;replace hX:=hX.trans hE;clear hE;rw[fT] at hN1 ⊢;simp only[zz];refine aA aD ?_;simp only[zz];refine aC (hK2 _ _ ?_);refine aF (fun K3 hK3=>aF (fun K4 hK4=>aa (aA aB (aA (bR rfl cJ rfl) (aA (mU rfl rfl (fun e=>h0 (Js.1 e))) ?_)))));simp only[zz];refine aC (hK4 _ _ ?_);refine eZ rfl (ar ?_);refine hK3 _ _ (aF (fun K5 hK5=>aa ?_));refine aI rfl (hB1.lies aT aH rfl rfl) ?_;simp only[zz];refine bT rfl rfl (wN _ (fU ha)) ?_;rintro v w6 hE ⟨A2,c2,rfl,hN2⟩;replace hB1:=hB1.ext hE;replace hB2:=hB2.ext hE;replace hB3:=hB3.ext hE;replace hB4:=hB4.ext hE;(try replace hN1:=hN1.ext hE);replace hX:=hX.trans hE;clear hE;rw[fT] at hN2 ⊢;simp only[zz];refine aA aB ?_;simp only[zz];refine bT rfl rfl (abX _ hN2 hN1 (jC _) (jC _) (by rw[eE];omega) (ak hla (by decide)) (ak hlb (by decide))) ?_;rintro v w7 hE ⟨_,_,rfl,⟨A3,c3,rfl,hN3⟩,⟨A4,c4,rfl,hN4⟩⟩;replace hB1:=hB1.ext hE;replace hB2:=hB2.ext hE;replace hB3:=hB3.ext hE;replace hB4:=hB4.ext hE;replace hX:=hX.trans hE;clear hE;simp only[eE] at hN3 hN4 ⊢;simp only[zz];refine aA aB (aA (aU rfl rfl) (aA (aU rfl rfl) ?_));simp only[zz];refine aA aD (aA aD ?_);simp only[zz];refine aC (hK5 _ _ ?_);refine aF (fun K6 hK6=>?_);refine eF [(0,true),(1,true),(3,true),(7,true),(8,true),(2,true),(4,true),(5,true),(9,true),(6,false),(10,false),(11,false),(12,false),(13,true)] aP (by kernel_rfl) (dJ (fun _ _ _ _ _ h=>h)) (ol:=?_) ?hol ?_
 case hol=>simp only[zw,zQ,zR];try rfl
 intro w8 hE;replace hB1:=hB1.ext hE;replace hB2:=hB2.ext hE;replace hB3:=hB3.ext hE;replace hB4:=hB4.ext hE;(try replace hN3:=hN3.ext hE);(try replace hN4:=hN4.ext hE);replace hX:=hX.trans hE;clear hE;refine⟨_,(kF.blk hB1 (kF.blk hB2 kF.nil)),?_⟩;refine bA aB (bA (aG (c:=0) iK rfl fA rfl rfl) (bA (aG (c:=0) iK rfl fA rfl rfl) ?_));simp only[zz];refine bA aB (bA (aG (c:=0) iK rfl fA rfl rfl) ?_);simp only[zz];refine cO rfl (fun _ ⟨hB1,hB2,_⟩=>(hB1.lies1 jP rfl)) ?_;simp only[zz];refine cO rfl (fun _ ⟨hB1,hB2,_⟩=>(hB2.lies1 jP rfl)) ?_;simp only[zz];refine bA (Dj Fw rfl rfl) ?_;simp only[zz];refine cO rfl (fun _ ⟨hB1,hB2,_⟩=>(hB1.lies1 jP rfl)) ?_;simp only[zz];refine dM (bT rfl rfl (sD _ hN3 (ak hq (by decide))) ?_);rintro v w9 hE rfl;replace hB1:=hB1.ext hE;replace hB2:=hB2.ext hE;replace hB3:=hB3.ext hE;replace hB4:=hB4.ext hE;(try replace hN4:=hN4.ext hE);replace hX:=hX.trans hE;clear hE;simp only[eE,Rh];simp only[zz];refine aC (⟨⟨hB1,hB2,trivial⟩,?_⟩);refine dM (bT rfl rfl (sD _ hN4 (ak hr (by decide))) ?_);rintro v w10 hE rfl;replace hB1:=hB1.ext hE;replace hB2:=hB2.ext hE;replace hB3:=hB3.ext hE;replace hB4:=hB4.ext hE;replace hX:=hX.trans hE;clear hE;simp only[eE,Ri];simp only[zz];refine aC (⟨⟨hB1,hB2,trivial⟩,?_⟩);refine dM ?_;refine cE rfl (by simp only[zz];rfl) (by exact aH) hB3 (by simp) (by simp[bf]) ?_;clear hB3;intro w11 hC hB3;replace hB1:=hB1.chg hC (by first | exact hN1_3 | exact Ne.symm hN3_1);replace hB2:=hB2.chg hC (by first | exact hN2_3 | exact Ne.symm hN3_2);replace hB4:=hB4.chg hC (by first | exact hN4_3 | exact Ne.symm hN3_4);replace hX:=hX.chg hC hG3;clear hC;simp only[zy,zx,aW,ab] at hB3;refine aC (⟨⟨hB1,hB2,trivial⟩,?_⟩);refine dM ?_;refine cE rfl (by simp only[zz];rfl) (by exact aH) hB4 (by simp) (by simp[bf]) ?_;clear hB4;intro w12 hC hB4;replace hB1:=hB1.chg hC (by first | exact hN1_4 | exact Ne.symm hN4_1);replace hB2:=hB2.chg hC (by first | exact hN2_4 | exact Ne.symm hN4_2);replace hB3:=hB3.chg hC (by first | exact hN3_4 | exact Ne.symm hN4_3);replace hX:=hX.chg hC hG4;clear hC;simp only[zy,zx,aW,ab] at hB4;refine aC (⟨⟨hB1,hB2,trivial⟩,?_⟩);refine bA aD ?_;simp only[zz];refine bB (hK6 _ _ ?_);refine bc ?_;try simp only[ac,af]
 refine pX rfl ⟨_,rfl,(hB3.lies aT aH rfl rfl)⟩ ⟨_,rfl,(hB4.lies aT aH rfl rfl)⟩ rfl ?_;try simp only[zD,zE]
 exact⟨_,rfl,hX,rfl⟩
theorem afI{a b:Int}(ha:Bd 1000000 a)(hb:Bd 1000000 b):eB prog 131 [W a,W b] (W (gb a b:Int)):=by
 intro w;refine⟨acL,?_⟩;have hX:=dU.refl w;obtain⟨K,hK⟩:∃K,K=2^1000000:=⟨_,rfl⟩
 have ha':a.natAbs<K:=by rw[hK];exact ha
 have hb':b.natAbs<K:=by rw[hK];exact hb
 have hlen:∀V:Nat,V<K→(digs 4294967296 V).length≤1000000:=fun V h=>qX (by rw[←hK];exact h);clear hK
 go_enter func131,ntmps131
 refine aF (fun K1 hK1=>aa ?_);refine gX (by simp only[zz];rfl) ?_;intro w1 g1 hE hg1 hB1;have hG1:=ak hX.size hg1;replace hX:=hX.trans hE;clear hE hg1;simp only[zz];refine gX (by simp only[zz];rfl) ?_;intro w2 g2 hE hg2 hB2;have hG2:=ak hX.size hg2;have hN2_1:g2≠g1:=au (ai hB1.lt hg2);replace hB1:=hB1.ext hE;replace hX:=hX.trans hE;clear hE hg2;simp only[zz];refine eK cL rfl ?_;intro w3 g3 hE hg3 hB3;have hG3:=ak hX.size hg3;have hN3_1:g3≠g1:=au (ai hB1.lt hg3);have hN3_2:g3≠g2:=au (ai hB2.lt hg3);replace hB1:=hB1.ext hE;replace hB2:=hB2.ext hE;replace hX:=hX.trans hE;clear hE hg3;simp only[zz];refine aC (hK1 _ _ ?_);refine aF (fun K2 hK2=>?_);refine eF [(0,true),(2,true),(1,false),(3,false),(4,true),(5,true)] aP (by kernel_rfl) (dJ (fun _ _ _ _ _ h=>h)) (ol:=?_) ?hol ?_
 case hol=>simp only[zw,zQ,zR];try rfl
 intro w4 hE;replace hB1:=hB1.ext hE;replace hB2:=hB2.ext hE;replace hB3:=hB3.ext hE;replace hX:=hX.trans hE;clear hE;refine⟨_,(kF.blk hB1 (kF.blk hB2 kF.nil)),?_⟩;refine cO rfl (fun _ ⟨hB1,hB2,_⟩=>(hB1.lies aT aH rfl rfl)) ?_;simp only[zz];refine cO rfl (fun _ ⟨hB1,hB2,_⟩=>(hB2.lies aT aH rfl rfl)) ?_;simp only[zz];refine dM (bT rfl rfl (wN _ (fU ha)) ?_);rintro v w5 hE ⟨A1,c1,rfl,hN1⟩;replace hB1:=hB1.ext hE;replace hB2:=hB2.ext hE;replace hB3:=hB3.ext hE;replace hX:=hX.trans hE;clear hE;rw[fT] at hN1 ⊢;simp only[zz];refine aC (⟨⟨hB1,hB2,trivial⟩,?_⟩);refine dM (bT rfl rfl (wN _ (fU hb)) ?_);rintro v w6 hE ⟨A2,c2,rfl,hN2⟩;replace hB1:=hB1.ext hE;replace hB2:=hB2.ext hE;replace hB3:=hB3.ext hE;(try replace hN1:=hN1.ext hE);replace hX:=hX.trans hE;clear hE;rw[fT] at hN2 ⊢;simp only[zz];refine aC (⟨⟨hB1,hB2,trivial⟩,?_⟩);refine bA aD (bA aD ?_);simp only[zz];refine bB (hK2 _ _ ?_);refine aF (fun K3 hK3=>av ?_);refine dI [5,6] [7,8,13,14,15,16,17,18,19,20,21,22,23] (fun n vs wl=>∃(X Y:Nat) (A1 A2:Option Addr) (c1 c2:Nat),vs=[.slice A1 (digs 4294967296 X).length c1,.slice A2 (digs 4294967296 Y).length c2]∧(dU w wl)∧(gG wl g3 [.bool false,.string ⟨#[]⟩] 35)∧(eQ wl A1 (digs 4294967296 X).length c1 (digs 4294967296 X))∧(eQ wl A2 (digs 4294967296 Y).length c2 (digs 4294967296 Y))∧(Nat.gcd X Y=gb a b)∧(X<K)∧(Y<K)∧(n=Y)) ?_ ?_
 ·
  apply Exists.intro;simp only[zQ,zR,zD,zE];exact⟨a.natAbs,b.natAbs,A1,A2,c1,c2,rfl,hX,hB3,hN1,hN2,rfl,ha',hb',rfl⟩
 ·
  intro n vs wr hI u;obtain⟨X,Y,A1,A2,c1,c2,rfl,hX,hB3,hN1,hN2,hg,hXK,hYK,hn⟩:=hI;simp only[zu,zF,zG];refine aF (fun K4 hK4=>aF (fun K5 hK5=>aa (aA aB (aA (bR rfl cJ rfl) (aA (gW rfl rfl) ?_)))));simp only[zz];refine aC (hK5 _ _ ?_);refine cW rfl (fun hc1=>?_) (fun hc1=>?_)
  ·
   have hY0:0<Y:=by
    rcases eg Y with h | h
    · subst h;exact absurd hc1 (by decide)
    · exact h
   refine ar ?_;refine hK4 _ _ (av (aF (fun K6 hK6=>aa (aA aB (aA aB ?_)))));simp only[zz];refine bT rfl rfl (abX _ hN1 hN2 (jC _) (jC _) (by rw[eE];exact hY0) (ak (hlen _ hXK) (by decide)) (ak (hlen _ hYK) (by decide))) ?_;rintro v w7 hE ⟨_,_,rfl,⟨A3,c3,rfl,hN3⟩,⟨A4,c4,rfl,hN4⟩⟩;replace hB3:=hB3.ext hE;(try replace hN2:=hN2.ext hE);replace hX:=hX.trans hE;clear hE;simp only[eE] at hN3 hN4 ⊢;simp only[zz];refine aA aB (aA (aU rfl rfl) (aA (aU rfl rfl) ?_));simp only[zz];refine aA aD (aA aD ?_);simp only[zz];refine aC (hK6 _ _ ?_);refine aa (aA aB (aA aB (aA aD ?_)));simp only[zz];refine aA aD ?_;simp only[zz];refine aC ?_;simp only[ac,af];refine⟨X%Y,_,?_,rfl,?_,?_⟩
   · rw[hn];exact ft _ hY0
   · simp only[zz,zv]
   ·
    simp only[zQ,zR,zD,zE];exact⟨Y,X%Y,A2,A4,c2,c4,rfl,hX,hB3,hN2,hN4,Mg.trans hg,hYK,d_ (Nat.mod_le _ _) hXK,rfl⟩
  ·
   obtain rfl:Y=0:=(nB (B:=4294967296) (by omega)).1 (bz (by omega));rw[Nat.gcd_zero_right] at hg;subst hg;refine bw (hK3 _ _ ?_);refine aF (fun K7 hK7=>aa (aA aB ?_));simp only[zz];refine bT rfl rfl (sD _ hN1 (ak (hlen _ hXK) (by decide))) ?_;rintro v w7 hE rfl;replace hB3:=hB3.ext hE;replace hX:=hX.trans hE;clear hE;simp only[eE];simp only[zz];refine cE rfl (by simp only[zz];rfl) (by exact aH) hB3 (by simp) (by simp[bf]) ?_;clear hB3;intro w8 hC hB3;replace hX:=hX.chg hC hG3;clear hC;simp only[zy,zx,aW,ab] at hB3;refine aC (hK7 _ _ ?_);refine bc ?_;try simp only[ac,af]
   refine bY rfl ⟨_,rfl,(hB3.lies aT aH rfl rfl)⟩ ?_;try simp only[zD,zE]
   exact⟨_,rfl,hX,by rw[nF];rfl⟩
end Go.Proofs.YtimjandkmfcmiaaGreatDoor
namespace Go.Proofs.YtimjandkmfcmiaaGreatDoor
open Go.Proofs.Tryz
open Go.RowKit Go.Lith
set_option maxRecDepth 100000
attribute [local irreducible] bh ck eY Code.wp
theorem adt{n d:Int}(hn:Bd 400000 n)(hd:Bd 400000 d)(h0:d≠0):eB prog 103 [W n,W d] (.tuple #[Q (Rat.divInt n d),.bool true]):=by
 intro w;refine⟨acm,?_⟩;have hX:=dU.refl w;obtain⟨e1,hg0⟩:=Du (n:=n) h0;have e2:=Dv (n:=n) h0;have hn':=hn.mono (show 400000≤1000000 by decide);have hd':=hd.mono (show 400000≤1000000 by decide);have hs:kO (dS d):=by unfold kO dS;split <;> (try split) <;> omega
 have hs1:Bd 1 (dS d):=by unfold Bd dS;split <;> (try split) <;> decide
 have hg:Bd 400001 ((gb n d:Int)):=by
  have h1:gb n d∣d.natAbs:=Nat.gcd_dvd_right ..;have h2:=Nat.le_of_dvd (by omega) h1;exact (hd.of_le (by simpa using h2)).mono (by decide)
 have hG:Bd 1000000 ((gb n d:Int)*dS d):=(hg.mul hs1).mono (by decide)
 go_enter func103,ntmps103
 refine aF (fun K1 hK1=>aa ?_);refine gX (by simp only[zz];rfl) ?_;intro w1 g1 hE hg1 hB1;have hG1:=ak hX.size hg1;replace hX:=hX.trans hE;clear hE hg1;simp only[zz];refine gX (by simp only[zz];rfl) ?_;intro w2 g2 hE hg2 hB2;have hG2:=ak hX.size hg2;have hN2_1:g2≠g1:=au (ai hB1.lt hg2);replace hB1:=hB1.ext hE;replace hX:=hX.trans hE;clear hE hg2;simp only[zz];refine eK cF rfl ?_;intro w3 g3 hE hg3 hB3;have hG3:=ak hX.size hg3;have hN3_1:g3≠g1:=au (ai hB1.lt hg3);have hN3_2:g3≠g2:=au (ai hB2.lt hg3);replace hB1:=hB1.ext hE;replace hB2:=hB2.ext hE;replace hX:=hX.trans hE;clear hE hg3;simp only[zz];refine aA aD ?_;simp only[zz];refine aC (hK1 _ _ ?_);refine aF (fun K2 hK2=>aa ?_);refine aI rfl (hB2.lies aT aH rfl rfl) ?_;simp only[zz];refine gK rfl rfl (mD hd') ?_;intro w4 hE;replace hB1:=hB1.ext hE;replace hB2:=hB2.ext hE;replace hB3:=hB3.ext hE;replace hX:=hX.trans hE;clear hE;simp only[zz];refine aA aD ?_;simp only[zz];refine aC (hK2 _ _ ?_);refine aF (fun K3 hK3=>aF (fun K4 hK4=>aa (aA aB (aA (mU rfl rfl (by unfold dS;split <;> (try split) <;> omega)) ?_))));simp only[zz];refine aC (hK4 _ _ ?_);refine eZ rfl (ar ?_);refine hK3 _ _ (aF (fun K5 hK5=>aa ?_));refine aI rfl (hB1.lies aT aH rfl rfl) ?_;simp only[zz];refine aI rfl (hB2.lies aT aH rfl rfl) ?_;simp only[zz];refine gK rfl rfl (afI hn' hd') ?_;intro w5 hE;replace hB1:=hB1.ext hE;replace hB2:=hB2.ext hE;replace hB3:=hB3.ext hE;replace hX:=hX.trans hE;clear hE;simp only[zz];refine aA aB ?_;simp only[zz];refine gK rfl rfl (mE hs) ?_;intro w6 hE;replace hB1:=hB1.ext hE;replace hB2:=hB2.ext hE;replace hB3:=hB3.ext hE;replace hX:=hX.trans hE;clear hE;simp only[zz];refine gK rfl rfl (kY (hg.mono (by decide)) (hs1.mono (by decide))) ?_;intro w7 hE;replace hB1:=hB1.ext hE;replace hB2:=hB2.ext hE;replace hB3:=hB3.ext hE;replace hX:=hX.trans hE;clear hE;simp only[zz];refine eK cL rfl ?_;intro w8 g4 hE hg4 hB4;have hG4:=ak hX.size hg4;have hN4_1:g4≠g1:=au (ai hB1.lt hg4);have hN4_2:g4≠g2:=au (ai hB2.lt hg4);have hN4_3:g4≠g3:=au (ai hB3.lt hg4);replace hB1:=hB1.ext hE;replace hB2:=hB2.ext hE;replace hB3:=hB3.ext hE;replace hX:=hX.trans hE;clear hE hg4;simp only[zz];refine cE rfl (by simp only[zz];rfl) (by exact aH) hB4 (by simp) (by simp[bf]) ?_;clear hB4;intro w9 hC hB4;replace hB1:=hB1.chg hC (by first | exact hN1_4 | exact Ne.symm hN4_1);replace hB2:=hB2.chg hC (by first | exact hN2_4 | exact Ne.symm hN4_2);replace hB3:=hB3.chg hC (by first | exact hN3_4 | exact Ne.symm hN4_3);replace hX:=hX.chg hC hG4;clear hC;simp only[zy,zx,aW,ab] at hB4;refine aC (hK5 _ _ ?_);refine aF (fun K6 hK6=>aa ?_);refine aI rfl (hB1.lies aT aH rfl rfl) ?_;simp only[zz];refine aI rfl (hB4.lies aT aH rfl rfl) ?_;simp only[zz];refine gK rfl rfl (abY hn' hG hg0) ?_;intro w10 hE;replace hB1:=hB1.ext hE;replace hB2:=hB2.ext hE;replace hB3:=hB3.ext hE;replace hB4:=hB4.ext hE;replace hX:=hX.trans hE;clear hE;simp only[zz];refine aA aB (aA (aU rfl rfl) (aA (aU rfl rfl) ?_));simp only[zz];refine aA (aU rfl rfl) ?_;simp only[zz];refine cE rfl (by simp only[zz];rfl) (by exact aH) hB1 (by simp) (by simp[bf]) ?_;clear hB1;intro w11 hC hB1;replace hB2:=hB2.chg hC (by first | exact hN2_1 | exact Ne.symm hN1_2);replace hB3:=hB3.chg hC (by first | exact hN3_1 | exact Ne.symm hN1_3);replace hB4:=hB4.chg hC (by first | exact hN4_1 | exact Ne.symm hN1_4);replace hX:=hX.chg hC hG1;clear hC;simp only[zy,zx,aW,ab] at hB1;refine aC (hK6 _ _ ?_);refine aF (fun K7 hK7=>aa ?_);refine aI rfl (hB2.lies aT aH rfl rfl) ?_;simp only[zz];refine aI rfl (hB4.lies aT aH rfl rfl) ?_;simp only[zz];refine gK rfl rfl (abY hd' hG hg0) ?_;intro w12 hE;replace hB2:=hB2.ext hE;replace hB3:=hB3.ext hE;replace hB1:=hB1.ext hE;replace hX:=hX.trans hE;clear hE;simp only[zz];refine aA aB (aA (aU rfl rfl) (aA (aU rfl rfl) ?_));simp only[zz];refine aA (aU rfl rfl) ?_;simp only[zz];refine cE rfl (by simp only[zz];rfl) (by exact aH) hB2 (by simp) (by simp[bf]) ?_;clear hB2;intro w13 hC hB2;replace hB3:=hB3.chg hC (by first | exact hN3_2 | exact Ne.symm hN2_3);replace hB1:=hB1.chg hC (by first | exact hN1_2 | exact Ne.symm hN2_1);replace hX:=hX.chg hC hG2;clear hC;simp only[zy,zx,aW,ab] at hB2;refine aC (hK7 _ _ ?_);refine aF (fun K8 hK8=>aa ?_);refine aI rfl (hB1.lies aT aH rfl rfl) ?_;simp only[zz];refine aI rfl (hB2.lies aT aH rfl rfl) ?_;simp only[zz];refine aA (gS rfl rfl) ?_;simp only[zz];refine cE rfl (by simp only[zz];rfl) (by exact aK) hB3 (by simp) (by simp[bf]) ?_;clear hB3;intro w14 hC hB3;replace hX:=hX.chg hC hG3;clear hC;simp only[zy,zx,aW,ab] at hB3;refine aA aD ?_;simp only[zz];refine aC (hK8 _ _ ?_);refine bc ?_;try simp only[ac,af]
 refine kD rfl ⟨_,rfl,(hB3.lies bF aK rfl rfl)⟩ rfl ?_;try simp only[zD,zE]
 exact⟨_,rfl,hX,by rw[e1,e2] at *;rfl⟩
theorem Rp{q:Rat}(hq:Bq 400000 q):eB prog 36 [Q q] (.tuple #[W q.num,W q.den]):=by
 intro w;refine⟨aeA,?_⟩;have hX:=dU.refl w;have h0:(0:Int)<q.den:=by have:=q.den_pos;omega
 have hd:=hq.d.mono (show 400000≤1000000 by decide)
 go_enter func36,ntmps36
 refine aF (fun K1 hK1=>aa ?_);refine gX (by simp only[zz];rfl) ?_;intro w1 g1 hE hg1 hB1;have hG1:=ak hX.size hg1;replace hX:=hX.trans hE;clear hE hg1;simp only[zz];refine eK cL rfl ?_;intro w2 g2 hE hg2 hB2;have hG2:=ak hX.size hg2;have hN2_1:g2≠g1:=au (ai hB1.lt hg2);replace hB1:=hB1.ext hE;replace hX:=hX.trans hE;clear hE hg2;simp only[zz];refine eK cL rfl ?_;intro w3 g3 hE hg3 hB3;have hG3:=ak hX.size hg3;have hN3_1:g3≠g1:=au (ai hB1.lt hg3);have hN3_2:g3≠g2:=au (ai hB2.lt hg3);replace hB1:=hB1.ext hE;replace hB2:=hB2.ext hE;replace hX:=hX.trans hE;clear hE hg3;simp only[zz];refine aC (hK1 _ _ ?_);refine aF (fun K2 hK2=>aF (fun K3 hK3=>aa (aA (aG (c:=1) lS rfl aH rfl rfl) ?_)));simp only[zz];refine aI rfl (hB1.lies aT aH rfl rfl) ?_;simp only[zz];refine gK rfl rfl (mD (a:=(q.den:Int)) hd) ?_;intro w4 hE;replace hB1:=hB1.ext hE;replace hB2:=hB2.ext hE;replace hB3:=hB3.ext hE;replace hX:=hX.trans hE;clear hE;simp only[zz];refine aA (lN rfl rfl (by rw[lX h0];decide)) ?_;simp only[zz];refine aC (hK3 _ _ ?_);refine bX rfl (aF (fun K4 hK4=>?_));refine eF [(0,true),(2,true),(1,true),(3,true),(4,false),(5,false)] aP (by kernel_rfl) (dJ (fun _ _ _ _ _ h=>h)) (ol:=?_) ?hol ?_
 case hol=>simp only[zw,zQ,zR];try rfl
 intro w5 hE;replace hB1:=hB1.ext hE;replace hB2:=hB2.ext hE;replace hB3:=hB3.ext hE;replace hX:=hX.trans hE;clear hE;refine⟨_,(kF.blk hB1 kF.nil),?_⟩;refine bA (aG (c:=1) lS rfl aH rfl rfl) (bA (aG (c:=1) lS rfl aH rfl rfl) ?_);simp only[zz];refine cO rfl (fun _ ⟨hB1,_⟩=>(hB1.lies aT aH rfl rfl)) ?_;simp only[zz];refine cO rfl (fun _ ⟨hB1,_⟩=>(hB1.lies aT aH rfl rfl)) ?_;simp only[zz];refine dM ?_;refine cE rfl (by simp only[zz];rfl) (by exact aH) hB2 (by simp) (by simp[bf]) ?_;clear hB2;intro w6 hC hB2;replace hB1:=hB1.chg hC (by first | exact hN1_2 | exact Ne.symm hN2_1);replace hB3:=hB3.chg hC (by first | exact hN3_2 | exact Ne.symm hN2_3);replace hX:=hX.chg hC hG2;clear hC;simp only[zy,zx,aW,ab] at hB2;refine aC (⟨⟨hB1,trivial⟩,?_⟩);refine dM ?_;refine cE rfl (by simp only[zz];rfl) (by exact aH) hB3 (by simp) (by simp[bf]) ?_;clear hB3;intro w7 hC hB3;replace hB1:=hB1.chg hC (by first | exact hN1_3 | exact Ne.symm hN3_1);replace hB2:=hB2.chg hC (by first | exact hN2_3 | exact Ne.symm hN3_2);replace hX:=hX.chg hC hG3;clear hC;simp only[zy,zx,aW,ab] at hB3;refine aC (⟨⟨hB1,trivial⟩,?_⟩);refine bB (hK4 _ _ ?_);refine bc ?_;try simp only[ac,af]
 refine kD rfl ⟨_,rfl,(hB2.lies aT aH rfl rfl)⟩ ⟨_,rfl,(hB3.lies aT aH rfl rfl)⟩ ?_;try simp only[zD,zE]
 exact⟨_,rfl,hX,rfl⟩
theorem kU{p q:Rat}(hp:Bq 400000 p)(hq:Bq 400000 q):eB prog 20 [Q p,Q q] (.int .i64 (Jt p q)):=by
 intro w;refine⟨aek,?_⟩;have hX:=dU.refl w
 go_enter func20,ntmps20
 refine aF (fun K1 hK1=>aa ?_);refine gX (by simp only[zz];rfl) ?_;intro w1 g1 hE hg1 hB1;have hG1:=ak hX.size hg1;replace hX:=hX.trans hE;clear hE hg1;simp only[zz];refine gX (by simp only[zz];rfl) ?_;intro w2 g2 hE hg2 hB2;have hG2:=ak hX.size hg2;have hN2_1:g2≠g1:=au (ai hB1.lt hg2);replace hB1:=hB1.ext hE;replace hX:=hX.trans hE;clear hE hg2;simp only[zz];refine aA aD ?_;simp only[zz];refine aC (hK1 _ _ ?_);refine aF (fun K2 hK2=>aa ?_);refine aI rfl (hB1.lies bF aK rfl rfl) ?_;simp only[zz];refine gK rfl rfl (Rp hp) ?_;intro w3 hE;replace hB1:=hB1.ext hE;replace hB2:=hB2.ext hE;replace hX:=hX.trans hE;clear hE;simp only[zz];refine aA aB (aA (aU rfl rfl) (aA (aU rfl rfl) ?_));simp only[zz];refine eK cL rfl ?_;intro w4 g3 hE hg3 hB3;have hG3:=ak hX.size hg3;have hN3_1:g3≠g1:=au (ai hB1.lt hg3);have hN3_2:g3≠g2:=au (ai hB2.lt hg3);replace hB1:=hB1.ext hE;replace hB2:=hB2.ext hE;replace hX:=hX.trans hE;clear hE hg3;simp only[zz];refine eK cL rfl ?_;intro w5 g4 hE hg4 hB4;have hG4:=ak hX.size hg4;have hN4_1:g4≠g1:=au (ai hB1.lt hg4);have hN4_2:g4≠g2:=au (ai hB2.lt hg4);have hN4_3:g4≠g3:=au (ai hB3.lt hg4);replace hB1:=hB1.ext hE;replace hB2:=hB2.ext hE;replace hB3:=hB3.ext hE;replace hX:=hX.trans hE;clear hE hg4;simp only[zz];refine cE rfl (by simp only[zz];rfl) (by exact aH) hB3 (by simp) (by simp[bf]) ?_;clear hB3;intro w6 hC hB3;replace hB1:=hB1.chg hC (by first | exact hN1_3 | exact Ne.symm hN3_1);replace hB2:=hB2.chg hC (by first | exact hN2_3 | exact Ne.symm hN3_2);replace hB4:=hB4.chg hC (by first | exact hN4_3 | exact Ne.symm hN3_4);replace hX:=hX.chg hC hG3;clear hC;simp only[zy,zx,aW,ab] at hB3;refine cE rfl (by simp only[zz];rfl) (by exact aH) hB4 (by simp) (by simp[bf]) ?_;clear hB4;intro w7 hC hB4;replace hB1:=hB1.chg hC (by first | exact hN1_4 | exact Ne.symm hN4_1);replace hB2:=hB2.chg hC (by first | exact hN2_4 | exact Ne.symm hN4_2);replace hB3:=hB3.chg hC (by first | exact hN3_4 | exact Ne.symm hN4_3);replace hX:=hX.chg hC hG4;clear hC;simp only[zy,zx,aW,ab] at hB4;refine aC (hK2 _ _ ?_);refine aF (fun K3 hK3=>aa ?_);refine aI rfl (hB2.lies bF aK rfl rfl) ?_;simp only[zz];refine gK rfl rfl (Rp hq) ?_;intro w8 hE;replace hB1:=hB1.ext hE;replace hB2:=hB2.ext hE;replace hB3:=hB3.ext hE;replace hB4:=hB4.ext hE;replace hX:=hX.trans hE;clear hE;simp only[zz];refine aA aB (aA (aU rfl rfl) (aA (aU rfl rfl) ?_));simp only[zz];refine eK cL rfl ?_;intro w9 g5 hE hg5 hB5;have hG5:=ak hX.size hg5;have hN5_1:g5≠g1:=au (ai hB1.lt hg5);have hN5_2:g5≠g2:=au (ai hB2.lt hg5);have hN5_3:g5≠g3:=au (ai hB3.lt hg5);have hN5_4:g5≠g4:=au (ai hB4.lt hg5);replace hB1:=hB1.ext hE;replace hB2:=hB2.ext hE;replace hB3:=hB3.ext hE;replace hB4:=hB4.ext hE;replace hX:=hX.trans hE;clear hE hg5;simp only[zz];refine eK cL rfl ?_;intro w10 g6 hE hg6 hB6;have hG6:=ak hX.size hg6;have hN6_1:g6≠g1:=au (ai hB1.lt hg6);have hN6_2:g6≠g2:=au (ai hB2.lt hg6);have hN6_3:g6≠g3:=au (ai hB3.lt hg6);have hN6_4:g6≠g4:=au (ai hB4.lt hg6);have hN6_5:g6≠g5:=au (ai hB5.lt hg6);replace hB3:=hB3.ext hE;replace hB4:=hB4.ext hE;replace hB5:=hB5.ext hE;replace hX:=hX.trans hE;clear hE hg6;simp only[zz];refine cE rfl (by simp only[zz];rfl) (by exact aH) hB5 (by simp) (by simp[bf]) ?_;clear hB5;intro w11 hC hB5;replace hB3:=hB3.chg hC (by first | exact hN3_5 | exact Ne.symm hN5_3);replace hB4:=hB4.chg hC (by first | exact hN4_5 | exact Ne.symm hN5_4);replace hB6:=hB6.chg hC (by first | exact hN6_5 | exact Ne.symm hN5_6);replace hX:=hX.chg hC hG5;clear hC;simp only[zy,zx,aW,ab] at hB5;refine cE rfl (by simp only[zz];rfl) (by exact aH) hB6 (by simp) (by simp[bf]) ?_;clear hB6;intro w12 hC hB6;replace hB3:=hB3.chg hC (by first | exact hN3_6 | exact Ne.symm hN6_3);replace hB4:=hB4.chg hC (by first | exact hN4_6 | exact Ne.symm hN6_4);replace hB5:=hB5.chg hC (by first | exact hN5_6 | exact Ne.symm hN6_5);replace hX:=hX.chg hC hG6;clear hC;simp only[zy,zx,aW,ab] at hB6;refine aC (hK3 _ _ ?_);refine aF (fun K4 hK4=>?_);refine iH aP (by kernel_rfl) (iA rfl (fun _ hE'=>((hB3.ext hE').lies aT aH rfl rfl)) ?_);simp only[zz];refine iA rfl (fun _ hE'=>((hB6.ext hE').lies aT aH rfl rfl)) ?_;simp only[zz];refine oO rfl rfl (kY (hp.n.mono (by decide)) (hq.d.mono (by decide))) ?_;simp only[zz];refine iA rfl (fun _ hE'=>((hB5.ext hE').lies aT aH rfl rfl)) ?_;simp only[zz];refine iA rfl (fun _ hE'=>((hB4.ext hE').lies aT aH rfl rfl)) ?_;simp only[zz];refine oO rfl rfl (kY (hq.n.mono (by decide)) (hp.d.mono (by decide))) ?_;simp only[zz];refine oO rfl rfl (Ed ((hp.n.mul hq.d).mono (by decide)) ((hq.n.mul hp.d).mono (by decide))) ?_;simp only[zz];refine aQ aD ?_;simp only[zz];refine eD ?_;intro w13 hE;replace hX:=hX.trans hE;clear hE;refine hK4 _ _ (bc ?_);try simp only[ac,af]
 refine bY rfl rfl ?_;try simp only[zD,zE]
 exact⟨_,rfl,hX,rfl⟩
end Go.Proofs.YtimjandkmfcmiaaGreatDoor
namespace Go.Lith
open Go.RowKit
section
variable {P:Program} {ds:List Deferred} {l:List aj} {T ty:TypeId} {ops:Array Oper} {Q:Exit→Act→aw→Prop} {rest:List Oper} {d:Nat} {pos:String} {after:Array Edge} {w:aw}
theorem oY{E:TypeId}{c n:Nat}{z:aj}{parts:Array (Nat × Operand)}{vs:Array (Nat × aj)}{base:Array aj}{cs:List aj}(hu:P.underlying T=some (.slice E))(hi:(P.info? E).map (fun i=>(i.size,i.zero))=some (c,some z))(h0:n*c≠0)(h24:n*c≤16777216)
 (hb:((Array.range (n*c)).map fun i=>z.cells[i%z.cells.size]!)=base) (hp:(parts.map fun (i,x)=>(i,ev l x))=vs) (hf:Instr.fill (fun i=>some (i*c,c)) base vs.toList=some cs.toArray)
 (h:∀w' g,dU w w'→w.heap.size≤g→gG w' g cs E→bh P ops Q rest (Fr (l.set d (.slice (some ⟨g,0,none⟩) n n)) ds) w') :
 bh P ops Q (Oper.mk (some d) (.buildSlice T n parts) ty pos after none::rest) (Fr l ds) w:=by
 subst hb;subst hp;cases hq:P.info? E with
 | none=>rw[hq] at hi;cases hi
 | some i =>
  rw[hq] at hi;simp only[Option.map_some,Option.some.injEq,Prod.mk.injEq] at hi;obtain⟨e1,e2⟩:=hi;have e:(Fr l).eval=ev l:=funext dV;have h24':¬16777216<n*c:=by omega
  refine mC (w':=w.alloc (.cells cs.toArray E)) (v:=.slice (some ⟨w.heap.size,0,none⟩) n n) (fun o ho _=>?_) (h _ _ ((dU.refl w).alloc _) (bi _) (jZ w cs E));simp only[execOp,ho,e];simp[Instr.buildSlice,run_underlying hu,sizeOf,typeInfo,zeroValue,hq,e1,e2,h24',newRow,newObj,Sem.run] at hf ⊢;rw[if_neg h0];simp[hf];rfl
end
end Go.Lith
