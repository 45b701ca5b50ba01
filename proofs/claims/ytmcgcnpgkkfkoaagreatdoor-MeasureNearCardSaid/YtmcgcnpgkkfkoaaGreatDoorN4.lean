/-
  Texts of one claim, laid together: Wide5, Back, Wide7, Wide8, Wide9, Wide10, Geo1, Exact, Exact2.
-/
import Derived.RangeFuncNested
import Derived.RangeFuncBound
import Derived.RangeFuncCalls
import Derived.RangeFuncBox
import Derived.RangeFuncLeaves
import Derived.Shelf.Abstract
import Derived.Shelf.RegionOpen
import Derived.WalkKit
import Derived.OwnWalkIn
import Derived.TacticsInMore
import Derived.LoopNIn
import Derived.LoopIn
import Derived.Maps.AppendAt
import Derived.Test.YtmcgcnpgkkfkoaaGreatDoorN3
set_option maxHeartbeats 8000000
set_option linter.unusedSimpArgs false
set_option linter.unusedVariables false
set_option linter.unusedSectionVars false
namespace Go.Proofs.YtmcgcnpgkkfkoaaGreatDoor
open Go.RowKit Go.Lith
set_option maxRecDepth 100000
attribute [local irreducible] wpList wpQuiet wpMix Code.wp
theorem abs_c {neg : Bool} {s : ByteArray} (w : World) (hs : s.size ≤ 1000000000000) : Does Tryz.prog 57 [.agg #[.bool neg,.string s]] w (NatRes (sval s)):=by
 skip
 refine ⟨en_57,?_⟩
 have hX:=Ext.refl w
 go_enter Tryz.func57,Tryz.ntmps57
 refine c_seq (fun K1 hK1=>wp_region_lit ?_)
 refine n_box (by simp only [ev,zD,zE]; rfl) ?_
 intro w1 g1 hE hg1 hB1
 have hG1:=Nat.le_trans hX.size hg1
 replace hX:=hX.trans hE
 clear hE hg1
 simp only [ev,zD,zE,zF,zG]
 refine n_val (r_assign) ?_
 simp only [ev,zD,zE,zF,zG]
 refine n_nil ?_
 refine hK1 _ _ ?_
 refine c_seq (fun K2 hK2=>wp_region_lit (n_val (r_fieldAddr (c:=0) Tryz.underlying32 rfl cells_9 rfl rfl) ?_))
 simp only [ev,zD,zE,zF,zG]
 refine n_load rfl (hB1.lies1 agg_9 rfl) ?_
 simp only [ev,zD,zE,zF,zG]
 refine n_val (r_lenStr rfl Tryz.underlying9 rfl) (n_val (r_add rfl rfl (wrap_i64 (by omega) (by omega))) (n_val (r_sub rfl rfl (wrap_i64 (by omega) (by omega))) ?_))
 simp only [ev,zD,zE,zF,zG]
 rw [show ((s.size : Int) + 4 - 1) = ((s.size + 3 : Nat) : Int) by omega]
 refine n_val (r_quo rfl rfl (by omega) (quo_i64 (n:=4) (by omega))) ?_
 simp only [ev,zD,zE,zF,zG]
 obtain ⟨K,hK⟩ : ∃ K,K = (s.size + 3) / 4:=⟨_,rfl⟩
 rw [← hK]
 refine n_make1 Tryz.underlying83 inf_88 rfl rfl rfl (show _ = K by omega) (show _ = K by omega) (by omega) (by omega) (by omega) (by omega) ?_
 intro w2 g2 hE hg2 hB2
 have hG2:=Nat.le_trans hX.size hg2; have hN2_1 : g2 ≠ g1:=Nat.ne_of_gt (Nat.lt_of_lt_of_le hB1.lt hg2)
 replace hB1:=hB1.ext hE; replace hX:=hX.trans hE
 clear hE hg2
 simp only [ev,zD,zE,zF,zG]
 refine n_val (r_assign) ?_
 simp only [ev,zD,zE,zF,zG]
 refine n_nil ?_
 rw [replicate_u64] at hB2
 refine hK2 _ _ ?_
 refine c_seq (fun K3 hK3=>c_seq (fun K4 hK4=>wp_region_lit (n_val (r_fieldAddr (c:=0) Tryz.underlying32 rfl cells_9 rfl rfl) ?_)))
 simp only [ev,zD,zE,zF,zG]
 refine n_load rfl (hB1.lies1 agg_9 rfl) ?_
 simp only [ev,zD,zE,zF,zG]
 refine n_val (r_lenStr rfl Tryz.underlying9 rfl) (n_val (r_move) ?_)
 simp only [ev,zD,zE,zF,zG]
 refine n_nil ?_
 refine hK4 _ _ ?_
 refine wp_block ?_
 refine c_loopg [16] [4,5,17,18,19,20,21,22,23,24,25,26,27,28,29,30,31,32,33,34,35,36,37,38,39,40,41] (fun n vs wl=>∃ (i : Nat) (os : List Nat),vs = [.int .i64 (i:Int)] ∧ (Ext w wl) ∧ (Blk wl g1 [.bool neg,.string s] 32) ∧ (Blk wl g2 (os.map u64v) 88) ∧ (i ≤ s.size) ∧ (os.length = K) ∧ (Digs 4294967296 os) ∧ (∀ (j : Nat) (h : j < os.length),256 ^ (s.size - i - 4 * j) ∣ os[j]) ∧ (val 4294967296 os = 256 ^ (s.size - i) * val 256 ((sbytes s).drop (s.size - i))) ∧ (n = s.size - i)) ?_ ?_
 ·
  apply Exists.intro
  simp only [zQ,zR,zD,zE]
  exact ⟨0,List.replicate K 0,rfl,hX,hB1,hB2,by omega,by simp,fun x hx=>by rw [List.eq_of_mem_replicate hx]; decide,fun j h=>by rw [List.getElem_replicate]; exact Nat.dvd_zero _,by rw [val_replicate,drop_len (by rw [sbytes_length]; omega),Nat.mul_zero],rfl⟩
 ·
  intro n vs wr hI u
  obtain ⟨i,os,rfl,hX,hB1,hB2,hi,hlo,hd,hdv,hv,hn⟩:=hI
  simp only [setG_cons,setG_nil,setMany_cons,setMany_nil,zF,zG]
  refine c_seq (fun K5 hK5=>wp_region_lit (n_val (r_lss rfl rfl) ?_))
  simp only [ev,zD,zE,zF,zG]
  refine n_nil ?_
  refine hK5 _ _ ?_
  refine c_seq (fun K6 hK6=>?_)
  refine c_if rfl (fun hc1=>?_) (fun hc1=>?_)
  ·
   refine wp_skip ?_
   refine hK6 _ _ ?_
   refine c_seq (fun K7 hK7=>wp_block (c_seq (fun K8 hK8=>wp_region_lit (n_val (r_move) (n_val (r_assign) ?_)))))
   simp only [ev,zD,zE,zF,zG]
   refine n_nil ?_
   refine hK8 _ _ ?_
   refine c_seq (fun K9 hK9=>wp_region_lit (n_val (r_fieldAddr (c:=0) Tryz.underlying32 rfl cells_9 rfl rfl) ?_))
   simp only [ev,zD,zE,zF,zG]
   refine n_load rfl (hB1.lies1 agg_9 rfl) ?_
   simp only [ev,zD,zE,zF,zG]
   refine n_val (r_lenStr rfl Tryz.underlying9 rfl) (n_val (r_sub rfl rfl (wrap_i64 (by omega) (by omega))) (n_val (r_move) ?_))
   simp only [ev,zD,zE,zF,zG]
   refine n_val (r_sub rfl rfl (wrap_i64 (by omega) (by omega))) (n_val (r_assign) ?_)
   simp only [ev,zD,zE,zF,zG]
   refine n_nil ?_
   obtain ⟨p,hp⟩ : ∃ p,p + 1 + i = s.size:=⟨s.size - 1 - i,by omega⟩
   rw [show ((s.size : Int) - 1 - (i : Int)) = (p : Int) by omega]
   refine hK9 _ _ ?_
   obtain ⟨b,hb,hpl,hbp⟩:=sbytes_get hp
   have hco:=hB2.word (show p / 4 < os.length by omega)
   obtain ⟨f1,f2,f3,f4⟩:=abs_round (r:=p % 4) (j:=p / 4) hpl (by omega) (by omega) (by omega) hd (sbytes_digs s) (by rw [show p + 1 = s.size - i by omega]; exact hdv) (by rw [show p + 1 = s.size - i by omega]; exact hv)
   rw [hbp,pow256_two] at f1 f3 f4
   have hb256 : b.toNat < 256:=b.toNat_lt
   have f5 : b.toNat * 2 ^ (8 * (p % 4)) < 2 ^ (8 * (p % 4 + 1)):=by
     rw [show 8 * (p % 4 + 1) = 8 + 8 * (p % 4) by omega,Nat.pow_add]
     exact Nat.mul_lt_mul_of_pos_right hb256 (Nat.pow_pos (by omega))
   obtain ⟨c,f6⟩ : ∃ c,os[p / 4] = 2 ^ (8 * (p % 4 + 1)) * c:=by
     obtain ⟨c,hc⟩:=f2
     exact ⟨c,by rw [hc,pow256_two]⟩
   refine wp_region_ext_tail 16 follows_mixed (by kernel_rfl) ?_
   simp only [zH,zI,zJ,zK]
   refine q_val (r_move) (q_val (r_move) (q_val (r_quo rfl rfl (by omega) (quo_i64 (n:=4) (by omega))) ?_))
   simp only [ev,zD,zE,zF,zG]
   refine q_val (r_indexAddrS Tryz.underlying83 cells_88 rfl rfl (by omega) (by omega) (addrB1 (show _ = p / 4 by omega))) ?_
   simp only [ev,zD,zE,zF,zG]
   refine q_load rfl (fun _ hE'=>(lies1 (hE'.cell hco) agg_88)) ?_
   simp only [ev,zD,zE,zF,zG]
   refine q_val (r_fieldAddr (c:=0) Tryz.underlying32 rfl cells_9 rfl rfl) ?_
   simp only [ev,zD,zE,zF,zG]
   refine q_load rfl (fun _ hE'=>((hB1.ext hE').lies1 agg_9 rfl)) ?_
   simp only [ev,zD,zE,zF,zG]
   refine q_val (r_move) ?_
   simp only [ev,zD,zE,zF,zG]
   refine q_val ((r_indexStr Tryz.underlying9 rfl rfl (by omega) (by rw [Int.toNat_natCast]; exact hb))) ?_
   simp only [ev,zD,zE,zF,zG]
   refine q_val (r_conv Tryz.underlying88 Tryz.underlying5 rfl (wrap_u64 (by omega) (by omega))) (q_val (r_move) (q_val (r_rem rfl rfl (by omega) (rem_nat (n:=4))) ?_))
   simp only [ev,zD,zE,zF,zG]
   refine q_val (r_mul rfl rfl ((wrap_i64 (by omega) (by omega)).trans (show (8 : Int) * ((p % 4 : Nat) : Int) = ((8 * (p % 4) : Nat) : Int) by omega))) (q_val (r_shl rfl rfl (by omega) (shl_u64 (n:=8 * (p % 4)) (by omega) (by omega))) (q_val (r_or rfl rfl ((or_u64' (s:=8 * (p % 4 + 1)) (a:=b.toNat * 2 ^ (8 * (p % 4))) (b:=os[p / 4]) f5 f6 (by omega)).trans (show (((b.toNat * 2 ^ (8 * (p % 4))) + os[p / 4] : Nat) : Int) = ((os[p / 4] + b.toNat * 2 ^ (8 * (p % 4)) : Nat) : Int) by omega))) ?_))
   simp only [ev,zD,zE,zF,zG]
   refine q_val (r_indexAddrS Tryz.underlying83 cells_88 rfl rfl (by omega) (by omega) (addrB1 (show _ = p / 4 by omega))) ?_
   simp only [ev,zD,zE,zF,zG]
   refine q_nil ?_
   intro w3 hE
   replace hB1:=hB1.ext hE; replace hB2:=hB2.ext hE; replace hX:=hX.trans hE
   clear hE
   refine n_store rfl (by simp only [ev,zD,zE]; rfl) (by exact cells_88) hB2 (by simp; omega) (by simp [Value.oneCell']) ?_
   clear hB2; intro w4 hC hB2
   replace hB1:=hB1.chg hC (by first | exact hN1_2 | exact Ne.symm hN2_1); replace hX:=hX.chg hC hG2
   clear hC
   rw [over_set (by omega)] at hB2
   refine n_nil ?_
   refine hK7 _ _ ?_
   refine wp_region_lit (n_val (r_add rfl rfl (wrap_i64 (by omega) (by omega))) (n_val (r_move) ?_))
   simp only [ev,zD,zE,zF,zG]
   refine n_nil ?_
   rw [show ((i:Int) + 1) = ((i + 1 : Nat) : Int) by omega]
   simp only [Exit.inBlock,Exit.then]
   refine ⟨s.size - (i + 1),_,?_,rfl,?_,?_⟩
   · omega
   · simp only [zQ,zR,zD,zE,setG_cons,setG_nil,setMany_cons,setMany_nil,zF,zG]
   ·
    simp only [zQ,zR,zD,zE]
    exact ⟨i + 1,os.set (p / 4) (os[p / 4] + b.toNat * 2 ^ (8 * (p % 4))),rfl,hX,hB1,hB2,by omega,by simpa using hlo,hd.set f1,by rw [show s.size - (i + 1) = p by omega]; exact f3,by rw [show s.size - (i + 1) = p by omega]; exact f4,rfl⟩
  ·
   refine wp_exit ?_
   refine hK3 _ _ ?_
   refine c_seq (fun K10 hK10=>?_)
   obtain rfl : i = s.size:=by omega
   refine wp_region_lit (n_val (r_move) ?_)
   simp only [ev,zD,zE,zF,zG]
   refine n_call rfl rfl (norm_c _ (hB2.nat hd (by omega) (by omega))) ?_
   rintro v w3 hE rfl
   replace hB1:=hB1.ext hE; replace hB2:=hB2.ext hE; replace hX:=hX.trans hE
   clear hE
   simp only [ev,zD,zE,zF,zG]
   refine n_val (r_assign) ?_
   simp only [ev,zD,zE,zF,zG]
   refine n_nil ?_
   refine hK10 _ _ ?_
   refine wp_ret ?_
   try simp only [Exit.inBlock,Exit.then]
   refine fin1 rfl rfl ?_
   try simp only [zD,zE]
   exact ⟨_,rfl,hX,NatRes.of_trim (hB2.nat hd (n:=K) (by omega) (by omega)) (by rw [hv,Nat.sub_self,Nat.pow_zero,Nat.one_mul,List.drop_zero]; rfl)⟩
end Go.Proofs.YtmcgcnpgkkfkoaaGreatDoor
namespace Go.Proofs.YtmcgcnpgkkfkoaaGreatDoor
open Go.RowKit Go.Lith
attribute [local go_sem] Oper.semAt_some
def KeepB (n₀ Bs : Nat) (W W' : World) : Prop:=Below n₀ W W' ∧ W'.heap[Bs]? = W.heap[Bs]?
theorem KeepB.refl (n₀ Bs : Nat) (W : World) : KeepB n₀ Bs W W:=⟨Below.refl _ _,rfl⟩
theorem KeepB.trans {n₀ Bs : Nat} {A B C : World} (h : KeepB n₀ Bs A B) (k : KeepB n₀ Bs B C) : KeepB n₀ Bs A C:=⟨h.1.trans k.1,k.2.trans h.2⟩
theorem KeepB.box {n₀ Bs : Nat} {A B : World} (h : KeepB n₀ Bs A B) {v : Value} (hc : A.cell? ⟨Bs,0,none⟩ = some v) : B.cell? ⟨Bs,0,none⟩ = some v:=(World.cell?_of_block h.2).trans hc
set_option maxRecDepth 100000 in
theorem back1_in (F : Fence) (n : Nat) (h7 : F.fn 154) (hro : F.round = none) (hn : 1 ≤ n) (l Bs n₀ cap : Nat) (a : Addr) (xs : List Nat) (hreach : xs.length * 8 ≤ 140737488351232) (hb : a.block < n₀) (J Jx : List (Nat × Nat) → World → Prop)
    (hY : ∀ pre x W,J pre W → pre.length < xs.length → YieldAt F (n - 1) Tryz.prog l #[.int .i64 (x.1 : Int),.int .u64 (x.2 : Int)] W fun e W' =>
      (e = .returned (.bool true) ∧ J (pre ++ [x]) W' ∧ KeepB n₀ Bs W W') ∨ (e = .returned (.bool false) ∧ Jx (pre ++ [x]) W'))
    (W : World) (hBs : W.cell? ⟨Bs,0,none⟩ = some (.slice (some a) xs.length cap)) (hc : ∀ j (h : j < xs.length),W.cell? (a.add j) = some (.int .u64 (xs[j] : Nat))) (h0 : J [] W) :
    CallsIn F n Tryz.prog 154 #[.func (.yield l) #[] #[],.pointer (some ⟨Bs,0,none⟩)] W fun e W'=>(∃ v,e = .returned v) ∧
      ((∃ ys : List (Nat × Nat),ys.map Prod.snd = xs.reverse ∧ J ys W') ∨ (∃ pre,True ∧ Jx pre W')):=by
  refine callsIn_of_wp Tryz.func154 rfl h7 ?_ hro
  simp only [Tryz.ntmps154,List.size_toArray,List.length_cons,List.length_nil,Nat.reduceAdd,Nat.reduceSub,Array.replicate_succ,Array.replicate_zero,List.push_toArray,List.append_toArray,List.nil_append,List.cons_append]
  gi_wp2
  gi_loopw [3] (fun i wr=>∃ (k : Nat) (pre : List (Nat × Nat)),k ≤ xs.length ∧ i = .int .i64 ((k : Int) - 1) ∧ pre.length = xs.length - k ∧ pre.map Prod.snd = (xs.drop k).reverse ∧ J pre wr ∧ KeepB n₀ Bs W wr)
    (fun i _=>(intOf i + 1).toNat)
  case atStart=>exact ⟨xs.length,[],Nat.le_refl _,rfl,by simp,by simp,h0,KeepB.refl _ _ _⟩
  case round =>
    obtain ⟨k,pre,hk,rfl,hpl,hpre,hJs,hnx⟩:=hrel
    have hBw : wr.cell? ⟨Bs,0,none⟩ = some (.slice (some a) xs.length cap):=hnx.box hBs
    by_cases hk0 : 0 < k
    · have hlt : k - 1 < xs.length:=by omega
      have hcx : wr.cell? (a.add (k - 1)) = some (.int .u64 ((xs[k - 1] : Nat) : Int)):=(hnx.1.cell (by rw [add_block]; exact hb)).trans (hc _ hlt)
      obtain ⟨fn,tmps,assign,body,hy,hR⟩:=hY pre (k - 1,xs[k - 1]) wr hJs (by omega)
      dsimp only at hy
      obtain ⟨j,rfl⟩ : ∃ j,k = j + 1:=⟨k - 1,by omega⟩
      rw [show (((j + 1 : Nat) : Int) - 1) = (j : Int) by omega]
      simp only [Nat.add_sub_cancel] at hy hR hcx hlt
      gi_wp2
      refine hR.mono ?_
      rintro e W3 (⟨rfl,hJ3,hk3⟩ | ⟨rfl,hJx3⟩)
      · gi_wp2
        go_roundw
        case rel=>exact ⟨j,pre ++ [(j,xs[j])],by omega,by simp,by simp; omega,by rw [List.drop_eq_getElem_cons hlt,List.reverse_cons,List.map_append,hpre]; rfl,hJ3,hnx.trans hk3⟩
        case measure=>simp [intOf]
      · gi_wp2
        refine bodyPost_ret (results_none rfl _ _ _) rfl ?_
        exact ⟨⟨_,rfl⟩,.inr ⟨_,trivial,hJx3⟩⟩
    · obtain rfl : k = 0:=by omega
      gi_wp2
      go_end0
      exact ⟨⟨_,rfl⟩,.inl ⟨pre,by rw [hpre]; rfl,hJs⟩⟩
set_option maxRecDepth 100000 in
theorem back1_nil_in (F : Fence) (n : Nat) (h7 : F.fn 154) (hro : F.round = none) (l Bs cap : Nat) (A : Option Addr) (J : List (Nat × Nat) → World → Prop) (W : World) (hBs : W.cell? ⟨Bs,0,none⟩ = some (.slice A 0 cap)) (h0 : J [] W) :
    CallsIn F n Tryz.prog 154 #[.func (.yield l) #[] #[],.pointer (some ⟨Bs,0,none⟩)] W fun e W'=>(∃ v,e = .returned v) ∧ J [] W':=by
  refine callsIn_of_wp Tryz.func154 rfl h7 ?_ hro
  simp only [Tryz.ntmps154,List.size_toArray,List.length_cons,List.length_nil,Nat.reduceAdd,Nat.reduceSub,Array.replicate_succ,Array.replicate_zero,List.push_toArray,List.append_toArray,List.nil_append,List.cons_append]
  gi_wp2
  gi_loopw [3] (fun i wr=>i = .int .i64 (-1) ∧ J [] wr) (fun _ _=>0)
  case atStart=>exact ⟨rfl,h0⟩
  case round =>
    obtain ⟨rfl,hJs⟩:=hrel
    gi_wp2
    go_end0
    exact ⟨⟨_,rfl⟩,hJs⟩
theorem back_in (F : Fence) (n : Nat) (h5 : F.fn 117) (hro : F.round = none) (a : Option Addr) (len cap : Nat) (w : World) :
    CallsIn F n Tryz.prog 117 #[.slice a len cap] w fun e w'=>e = .returned (.func (.func 154) #[] #[.pointer (some ⟨w.heap.size,0,none⟩)]) ∧ w' = w.alloc (.cells #[.slice a len cap] 83):=by
  refine callsIn_of_wp Tryz.func117 rfl h5 ?_ hro
  simp only [Tryz.ntmps117,List.size_toArray,List.length_cons,List.length_nil,Nat.reduceAdd,Nat.reduceSub,Array.replicate_succ,Array.replicate_zero,List.push_toArray,List.append_toArray,List.nil_append,List.cons_append]
  gi_wp2
  go_ret
  exact ⟨rfl,rfl⟩
theorem back_stops (F : Fence) (n : Nat) (h7 : F.fn 154) (hro : F.round = none) (hn : 1 ≤ n) (Bs n₀ cap : Nat) (A : Option Addr) (xs : List Nat) (hreach : xs.length * 8 ≤ 140737488351232) (w : World) (hBs : Bs < w.heap.size) (hn₀ : n₀ ≤ w.heap.size)
    (hc : w.cell? ⟨Bs,0,none⟩ = some (.slice A xs.length cap)) (hI : ∀ (i x : Nat),xs[i]? = some x → ∃ a,A = some a ∧ w.cell? (a.add i) = some (.int .u64 (x : Int))) (hA : ∀ a,0 < xs.length → A = some a → a.block < n₀) :
    SeqStopsK F n Tryz.prog 154 #[.pointer (some ⟨Bs,0,none⟩)] (fun x : Nat × Nat=>#[Value.int .i64 (x.1 : Int),Value.int .u64 (x.2 : Int)]) (KeepB n₀ Bs) (fun ys=>ys.map Prod.snd = xs.reverse) (fun _=>True) xs.length w:=fun l J Jx W hW _ _ hY h0=>by
  have hc':=(hW.cell (p:=⟨Bs,0,none⟩) hBs).trans hc
  rcases Nat.eq_zero_or_pos xs.length with h | h
  · obtain rfl : xs = []:=List.eq_nil_of_length_eq_zero h
    exact (back1_nil_in F n h7 hro l Bs cap A J W hc' h0).mono fun e W' ⟨he,hj⟩=>⟨he,.inl ⟨[],rfl,hj⟩⟩
  · obtain ⟨a,rfl,_⟩:=hI 0 xs[0] (List.getElem?_eq_getElem h)
    refine back1_in F n h7 hro hn l Bs n₀ cap a xs hreach (hA a h rfl) J Jx hY W hc' (fun j hj=>?_) h0
    obtain ⟨a',e,hcl⟩:=hI j xs[j] (List.getElem?_eq_getElem hj)
    cases e
    exact (hW.cell (by rw [add_block]; exact Nat.lt_of_lt_of_le (hA a h rfl) hn₀)).trans hcl
theorem back_c {A : Option Addr} {n cap : Nat} (w : World) : Does Tryz.prog 117 [.slice A n cap] w (fun v w'=>∃ g,v = .func (.func 154) #[] #[.pointer (some ⟨g,0,none⟩)] ∧ w.heap.size ≤ g ∧ Blk w' g [.slice A n cap] 83):=by
  refine ⟨en_117,(callsIn_wide (n:=2)).1 ((back_in Fence.wide 2 trivial rfl A n cap w).mono ?_)⟩
  rintro e w' ⟨rfl,rfl⟩
  exact ⟨_,rfl,(Ext.refl w).alloc _,_,rfl,Nat.le_refl _,blk_alloc w _ _⟩
end Go.Proofs.YtmcgcnpgkkfkoaaGreatDoor
namespace Go.Proofs.YtmcgcnpgkkfkoaaGreatDoor
open Go.RowKit Go.Lith
set_option maxRecDepth 100000
attribute [local irreducible] wpList wpQuiet wpMix Code.wp
attribute [local go_sem] Oper.semAt_some
theorem info_u8 : (Tryz.prog.info? 5).map (fun i=>(i.zero,i.size,i.bytes)) = some (some (.int .u8 0),1,1):=by kernel_rfl
theorem body_keeps {W w1 : World} {tmp : Obj} {v v' : Value} {base size k g g3 : Nat} {e t : TypeId} {xs cs : List Value} (hB : Blk W g cs t) (hte : t ≠ e) (hr : W.ownsRow base e size v k xs) (hg : (W.alloc tmp).grownBy w1 v.ownBlock) (hne : g ≠ g3) : (w1.setCell ⟨g3,0,none⟩ v').heap[g]? = W.heap[g]?:=by
 have h1 : some g ≠ v.ownBlock:=by
  rcases hr.2 with ⟨rfl,_⟩ | ⟨g',cap,cur,rfl,_,hgb,_⟩
  · simp [Value.ownBlock]
  ·
   intro h
   obtain rfl : g = g':=by simpa [Value.ownBlock] using h
   rw [hB] at hgb
   cases hgb
   exact hte rfl
 exact ((Below.heap_setCell w1 ⟨g3,0,none⟩ v' g hne).trans (hg.block g (by simp; have:=hB.lt; omega) h1)).trans (Below.heap_alloc W tmp g hB.lt)
theorem wide_c {A : Option Addr} {xs : List Nat} {na cap : Nat} {neg : Bool} (w : World) (hS : NatAt w A na cap xs) (hl : xs.length ≤ 100000000000) : Does Tryz.prog 59 [.slice A na cap,.bool neg] w (fun v _=>v = W (sgn neg (val 4294967296 xs))):=by
 skip
 refine ⟨en_59,?_⟩
 have hX:=Ext.refl w
 obtain rfl:=hS.eq
 have hlt:=length_trim_le xs
 have hle:=hS.le
 refine (callsIn_wide (n:=4)).1 ?_
 refine callsIn_of_wp_marks Tryz.func59 rfl trivial ?_ rfl
 simp only [Tryz.ntmps59,List.size_toArray,List.length_cons,List.length_nil,Nat.reduceAdd,Nat.reduceSub,Array.replicate_succ,Array.replicate_zero,List.push_toArray,List.append_toArray,List.nil_append,List.cons_append]
 refine wpIn_wide.2 (c_seq (fun K1 hK1=>wp_region_lit ?_))
 refine n_alloc zero_32 rfl ?_
 intro w1 g1 hE hg1 hB1
 have hG1:=Nat.le_trans hX.size hg1
 replace hX:=hX.trans hE
 clear hE hg1
 simp only [ev,zD,zE,zF,zG]
 refine n_nil ?_
 refine hK1 _ _ ?_
 refine c_seq (fun K2 hK2=>wp_region_lit (n_val (r_move) ?_))
 simp only [ev,zD,zE,zF,zG]
 refine n_call rfl rfl (norm_c _ (hS.ext hX)) ?_
 rintro v w2 hE rfl
 replace hB1:=hB1.ext hE; replace hX:=hX.trans hE
 clear hE
 simp only [ev,zD,zE,zF,zG]
 refine n_val (r_assign) ?_
 simp only [ev,zD,zE,zF,zG]
 refine n_nil ?_
 obtain ⟨ys,hys⟩ : ∃ ys,ys = trim xs:=⟨_,rfl⟩
 rw [← hys] at hlt ⊢
 refine hK2 _ _ ?_
 refine c_seq (fun K3 hK3=>wp_region_lit (n_val (r_move) (n_val (r_lenS rfl Tryz.underlying83 rfl) (n_val (r_mul rfl rfl (wrap_i64 (by omega) (by omega))) ?_))))
 simp only [ev,zD,zE,zF,zG]
 refine n_make1 Tryz.underlying143 inf_5 rfl rfl rfl (show _ = 0 by omega) (show _ = 4 * ys.length by omega) (by omega) (by omega) (by omega) (by omega) ?_
 intro w3 g2 hE hg2 hB2
 have hG2:=Nat.le_trans hX.size hg2; have hN2_1 : g2 ≠ g1:=Nat.ne_of_gt (Nat.lt_of_lt_of_le hB1.lt hg2)
 replace hB1:=hB1.ext hE; replace hX:=hX.trans hE
 clear hE hg2
 simp only [ev,zD,zE,zF,zG]
 refine n_alloc zero_143 rfl ?_
 intro w4 g3 hE hg3 hB3
 have hG3:=Nat.le_trans hX.size hg3; have hN3_1 : g3 ≠ g1:=Nat.ne_of_gt (Nat.lt_of_lt_of_le hB1.lt hg3); have hN3_2 : g3 ≠ g2:=Nat.ne_of_gt (Nat.lt_of_lt_of_le hB2.lt hg3)
 replace hB1:=hB1.ext hE; replace hB2:=hB2.ext hE; replace hX:=hX.trans hE
 clear hE hg3
 simp only [ev,zD,zE,zF,zG]
 refine n_store rfl (by simp only [ev,zD,zE]; rfl) (by exact cells_143) hB3 (by simp) (by simp [Value.oneCell']) ?_
 clear hB3; intro w5 hC hB3
 replace hB1:=hB1.chg hC (by first | exact hN1_3 | exact Ne.symm hN3_1); replace hB2:=hB2.chg hC (by first | exact hN2_3 | exact Ne.symm hN3_2); replace hX:=hX.chg hC hG3
 clear hC
 simp only [over,zH,zI,zJ,zK,zL,zM,zN,zO,zP,Nat.reduceAdd] at hB3
 refine n_nil ?_
 refine hK3 _ _ ?_
 refine c_seq (fun K4 hK4=>c_seq (fun K5 hK5=>wp_region_lit (n_val (r_move) ?_)))
 simp only [ev,zD,zE,zF,zG]
 refine n_call rfl rfl (back_c _) ?_
 rintro v w6 hE ⟨g4,rfl,hg4,hB4⟩
 have hG4:=Nat.le_trans hX.size hg4; have hN4_1 : g4 ≠ g1:=Nat.ne_of_gt (Nat.lt_of_lt_of_le hB1.lt hg4); have hN4_2 : g4 ≠ g2:=Nat.ne_of_gt (Nat.lt_of_lt_of_le hB2.lt hg4); have hN4_3 : g4 ≠ g3:=Nat.ne_of_gt (Nat.lt_of_lt_of_le hB3.lt hg4)
 replace hB1:=hB1.ext hE; replace hB2:=hB2.ext hE; replace hB3:=hB3.ext hE; replace hX:=hX.trans hE
 clear hE hg4
 simp only [ev,zD,zE,zF,zG]
 refine n_nil ?_
 refine hK5 _ _ ?_
 refine wp_block ?_
 refine (wpIn_wide (n:=4)).1 ?_
 have hbase : w.heap.size ≤ w6.heap.size:=hX.size
 obtain ⟨n0,hn0⟩ : ∃ n0,n0 = w.heap.size:=⟨_,rfl⟩
 have hT : NatAt w6 A ys.length cap ys:=(((hS.ext hX).take (trim xs).length).as (trim_eq_take xs).symm |> fun h=>by rw [← trim_eq_take,← hys] at h; exact h)
 have hA : ∀ a,0 < ys.length → A = some a → a.block < w.heap.size:=fun a h0 e=>by
  obtain ⟨a',e',hc⟩:=hS.row 0 (xs[0]'(by omega)) (List.getElem?_eq_getElem (by omega))
  rw [e] at e'; cases e'
  have:=World.block_lt_of_cell? _ _ hc
  rwa [add_block] at this
 refine wpIn_rangeFunc_ownG (F:=Fence.wide) rfl (by omega) (gf:=154) (lb:=#[.pointer (some ⟨g4,0,none⟩)]) rfl trivial (enters_of Tryz.func154 (by kernel_rfl) rfl)
  (back_stops Fence.wide 3 trivial rfl (by omega) g4 w.heap.size cap A ys (by omega) w6 hB4.lt hX.size (hB4.cell rfl) hT.row hA) KeepB.trans (fun W l o o' hl ho _ _=>⟨belowK_b (w:=w6) hX.size W l o o' hl ho ‹_› ‹_›,World.putObj_heap_other (by have:=hB4.lt; omega)⟩) (Below.refl _ _) (fun _=>rfl)
  (fun pre W=>((∃ v,Boxed W g3 143 v ∧ W.ownsRow w.heap.size 5 1 v (wbs pre).length ((wbs pre).map u8v) ∧ True) ∧ Blk W g1 [.bool false,.string ⟨#[]⟩] 32 ∧ Blk W g4 [.slice A ys.length cap] 83) ∧ Below w.heap.size w W)
  (fun _ _ _=>False)
  (OwnFrom.and (OwnFrom.and (Own.from (holdsRow_own w.heap.size g3 143 5 1 (fun pre=>(wbs pre).length) (fun pre=>(wbs pre).map u8v) (fun _ _=>True)) _) (Own.from (fun s X Y row hs hg hr=>⟨(grownBy_keeps_cells hg hr hs.1 rfl).trans hs.1,(grownBy_keeps_cells hg hr hs.2 rfl).trans hs.2⟩) _)) (ownFrom_below (Nat.le_refl _) hX.size))
  (fun _ _ _ _ _ hs _ _=>hs)
  ⟨⟨⟨_,hB3,⟨rfl,.inr ⟨g2,4 * ys.length,_,rfl,hG2,hB2,Nat.zero_le _,by show _ ≤ 9223372036854775807; omega,by simp,by simp [wbs]⟩⟩,trivial⟩,hB1,hB4⟩,hX⟩
  (fun x=>{ tmps:=#[.slice A ys.length cap,.bool neg,undef,undef,.pointer (some ⟨g1,0,none⟩),.pointer (some ⟨g3,0,none⟩),undef,.int .u64 (x.2 : Int),undef,.slice A xs.length cap,.slice A ys.length cap,.slice A ys.length cap,.int .i64 (ys.length : Int),.int .i64 (4 * (ys.length : Int)),.slice (some ⟨g2,0,none⟩) 0 (4 * ys.length),.slice A ys.length cap,.func (.func 154) #[] #[.pointer (some ⟨g4,0,none⟩)],.int .i64 (x.1 : Int),.int .u64 (x.2 : Int),undef,undef,undef,undef,undef,undef,undef,undef,undef,undef,undef,undef,undef,undef,undef,undef,undef,undef,undef,undef,undef,undef,undef,undef],defers:=[] }) ?assign ?body ?done ?stop
 case assign =>
  intro l x W K hK
  clear hys
  gi_wp2
  exact hK
 case stop =>
  rintro D c pre W _ _ h _
  exact h.elim
 case body =>
  rintro l pre x W ⟨⟨⟨v,hv,hrow,_⟩,hB1',hB4'⟩,hB⟩ hlt
  have hc:=hv.cell
  have hwl : (wbs pre).length ≤ 4 * pre.length:=Nat.le_of_eq (wbs_length pre)
  clear hys
  obtain ⟨i0,hi,hz0,hz1,hz2⟩:=info_parts info_u8
  gi_wp2_with (gi_at_builtin; refine wpListIn_append_own _ rfl _ _ 143 rfl w.heap.size 5 i0 (.int .u8 0) 1 1 Tryz.underlying143 hi hz0 hz1 hz2 rfl (by decide) _ _ _ rfl (hrow.alloc _) ⟨W.heap.size,0,none⟩ 4 4 [.int .u8 ((x.2 : Int) / 16777216 % 256),.int .u8 ((x.2 : Int) / 65536 % 256),.int .u8 ((x.2 : Int) / 256 % 256),.int .u8 ((x.2 : Int) % 256)] rfl rfl ((blk_alloc W _ 5).row 0) (by simp [Value.oneCell']) (by show _ ≤ 9223372036854775807; omega) (by omega) (by have:=hB.size; simp; omega) ?_; intro v' w1 hown' hgrow _; obtain ⟨g',cap',rfl⟩:=ownsRow_succ hown'; obtain ⟨hv1,hv2,hr2,hk2,hb2⟩:=hv.appended (by decide) hrow hB.size hG3 hown' hgrow; have hc1:=hv1.cell; have hf1:=hv1.frozen)
  have e1:=body_keeps hB1' (by decide) hrow hgrow (Ne.symm hN3_1) (v':=.slice (some ⟨g',0,none⟩) ((wbs pre).length + 3 + 1) cap')
  have e4:=body_keeps hB4' (by decide) hrow hgrow hN4_3 (v':=.slice (some ⟨g',0,none⟩) ((wbs pre).length + 3 + 1) cap')
  refine ⟨hk2.from _,⟨hb2,e4⟩,⟨⟨_,hv2,?_,trivial⟩,e1.trans hB1',e4.trans hB4'⟩,hB.trans hb2⟩
  rw [wbs_snoc,List.length_append,List.map_append]
  have e : (wb x.2).map u8v = [.int .u8 ((x.2 : Int) / 16777216 % 256),.int .u8 ((x.2 : Int) / 65536 % 256),.int .u8 ((x.2 : Int) / 256 % 256),.int .u8 ((x.2 : Int) % 256)]:=by simp [wb,UInt8.toNat_ofNat']
  rw [e]
  exact hr2
 rintro D ls W hD hls ⟨⟨⟨v,hv,hrow,_⟩,hB1',_⟩,hX'⟩ hK'
 replace hD:=Nat.le_trans hX.size hD
 clear hB1 hB2 hB3 hB4 hX hG2 hG4 hN2_1 hN3_2 hN4_1 hN4_2 hN4_3 hbase hT
 have hB1:=hB1'
 have hB3 : Blk W g3 [v] 143:=hv
 have hX : Ext w W:=hX'
 have hK : Def W D:=⟨hK'⟩
 have hDg1:=hK.ne hB1
 have hlb : (wbs ls).length ≤ 1000000000000000:=by
  have:=congrArg List.length hls
  rw [List.length_map,List.length_reverse] at this
  rw [wbs_length]
  omega
 have hbs : strOf (strip (wbs ls)) = wmag (sgn neg (val 4294967296 xs)):=by
  have e : wbs ls = ys.reverse.flatMap wb:=by rw [← hls,List.flatMap_map]; rfl
  have hd : Digs 4294967296 ys:=by rw [hys]; exact hS.digs.trim
  rw [e,wide_bytes hd neg,hys,val_trim]
 dsimp only
 refine hK4 _ _ ?_
 refine c_seq (fun K6 hK6=>wp_region_lit ?_)
 refine n_load rfl (hB3.lies1 agg_143 rfl) ?_
 simp only [ev,zD,zE,zF,zG]
 refine n_valW (r_bytesOwn Tryz.underlying143 Tryz.underlying5 Tryz.underlying9 rfl hrow) ?_
 simp only [ev,zD,zE,zF,zG]
 refine n_callP rfl rfl (trimLeft_c hlb) ?_
 intro w7 hE
 replace hB1:=hB1.ext hE; replace hB3:=hB3.ext hE; (try replace hK:=hK.ext hE); replace hX:=hX.trans hE
 clear hE
 simp only [ev,zD,zE,zF,zG]
 refine n_val (r_assign) ?_
 simp only [ev,zD,zE,zF,zG]
 refine n_nil ?_
 rw [hbs]
 refine hK6 _ _ ?_
 refine c_seq (fun K7 hK7=>?_)
 cases neg
 ·
  refine wp_region_lit (n_val (r_move) (n_val (r_move) ?_))
  simp only [ev,zD,zE,zF,zG]
  refine n_skipT rfl ?_
  simp only [ev,zD,zE,zF,zG]
  refine n_skipT rfl ?_
  simp only [ev,zD,zE,zF,zG]
  refine n_val (r_pickF rfl) (n_val (r_move) (n_val (r_build_32_0_1 rfl rfl) ?_))
  simp only [ev,zD,zE,zF,zG]
  refine n_store rfl (by simp only [ev,zD,zE]; rfl) (by exact cells_32) hB1 (by simp) (by simp [Value.oneCell']) ?_
  clear hB1; intro w8 hC hB1
  replace hB3:=hB3.chg hC (by first | exact hN3_1 | exact Ne.symm hN1_3); (try replace hK:=hK.chg hC (by first | assumption | rfl)); replace hX:=hX.chg hC hG1
  clear hC
  simp only [over,zH,zI,zJ,zK,zL,zM,zN,zO,zP,Nat.reduceAdd] at hB1
  refine n_nil ?_
  refine hK7 _ _ ?_
  refine wp_ret ?_
  try simp only [Exit.inBlock,Exit.then]
  refine finM hK ?_
  replace hB3:=hB3.putD hK (o:=.deferred none); replace hB1:=hB1.putD hK (o:=.deferred none); replace hX:=hX.putD hD (o:=.deferred none)
  refine fin1 rfl ⟨_,rfl,(hB1.lies agg_32 cells_32 rfl rfl)⟩ ?_
  try simp only [zD,zE]
  exact ⟨_,rfl,hX,by simp [Lith.W,sgn_neg,wide_empty]⟩
 ·
  refine wp_region_lit (n_val (r_move) (n_val (r_move) ?_))
  simp only [ev,zD,zE,zF,zG]
  refine n_want rfl (n_val (r_move) ?_)
  simp only [ev,zD,zE,zF,zG]
  refine n_want rfl (n_val (r_neqS Tryz.underlying9 rfl rfl) (n_val (r_pickT rfl) (n_val (r_move) ?_)))
  simp only [ev,zD,zE,zF,zG]
  refine n_val (r_build_32_0_1 rfl rfl) ?_
  simp only [ev,zD,zE,zF,zG]
  refine n_store rfl (by simp only [ev,zD,zE]; rfl) (by exact cells_32) hB1 (by simp) (by simp [Value.oneCell']) ?_
  clear hB1; intro w8 hC hB1
  replace hB3:=hB3.chg hC (by first | exact hN3_1 | exact Ne.symm hN1_3); (try replace hK:=hK.chg hC (by first | assumption | rfl)); replace hX:=hX.chg hC hG1
  clear hC
  simp only [over,zH,zI,zJ,zK,zL,zM,zN,zO,zP,Nat.reduceAdd] at hB1
  refine n_nil ?_
  refine hK7 _ _ ?_
  refine wp_ret ?_
  try simp only [Exit.inBlock,Exit.then]
  refine finM hK ?_
  replace hB3:=hB3.putD hK (o:=.deferred none); replace hB1:=hB1.putD hK (o:=.deferred none); replace hX:=hX.putD hD (o:=.deferred none)
  refine fin1 rfl ⟨_,rfl,(hB1.lies agg_32 cells_32 rfl rfl)⟩ ?_
  try simp only [zD,zE]
  exact ⟨_,rfl,hX,by simp [Lith.W,sgn_neg,wide_empty]⟩
end Go.Proofs.YtmcgcnpgkkfkoaaGreatDoor
namespace Go.Proofs.YtmcgcnpgkkfkoaaGreatDoor
open Go.RowKit Go.Lith
set_option maxRecDepth 100000
attribute [local irreducible] wpList wpQuiet wpMix Code.wp
theorem Sign_c {a : Int} (ha : Bd 1000000 a) : Pure Tryz.prog 26 [W a] (.int .i64 (isign a)):=by
 intro w
 refine ⟨en_26,?_⟩
 have hX:=Ext.refl w
 go_enter Tryz.func26,Tryz.ntmps26
 refine c_seq (fun K1 hK1=>wp_region_lit ?_)
 refine n_box (by simp only [ev,zD,zE]; rfl) ?_
 intro w1 g1 hE hg1 hB1
 have hG1:=Nat.le_trans hX.size hg1
 replace hX:=hX.trans hE
 clear hE hg1
 simp only [ev,zD,zE,zF,zG]
 refine n_val (r_assign) ?_
 simp only [ev,zD,zE,zF,zG]
 refine n_nil ?_
 refine hK1 _ _ ?_
 refine c_seq (fun K2 hK2=>wp_block (c_seq (fun K3 hK3=>wp_region_lit ?_)))
 refine n_load rfl (hB1.lies agg_32 cells_32 rfl rfl) ?_
 simp only [ev,zD,zE,zF,zG]
 refine n_call rfl rfl (abs_c _ (wmag_size ha)) ?_
 rintro v w2 hE ⟨A1,c1,rfl,hN1⟩
 replace hB1:=hB1.ext hE; replace hX:=hX.trans hE
 clear hE
 rw [sval_wmag] at hN1 ⊢
 simp only [ev,zD,zE,zF,zG]
 refine n_val (r_lenS rfl Tryz.underlying83 rfl) (n_val (r_eql rfl rfl) (n_val (r_assign) ?_))
 simp only [ev,zD,zE,zF,zG]
 refine n_nil ?_
 refine hK3 _ _ ?_
 refine c_if rfl (fun hc1=>?_) (fun hc1=>?_)
 ·
  have h0:=nil_iff.1 hc1
  refine c_seq (fun K4 hK4=>wp_region_lit (n_val (r_assign) ?_))
  simp only [ev,zD,zE,zF,zG]
  refine n_nil ?_
  refine hK4 _ _ ?_
  refine wp_ret ?_
  try simp only [Exit.inBlock,Exit.then]
  refine fin1 rfl rfl ?_
  try simp only [zD,zE]
  exact ⟨_,rfl,hX,by rw [h0]; rfl⟩
 ·
  refine c_seq (fun K5 hK5=>wp_region_lit (n_val (r_fieldAddr (c:=0) Tryz.underlying32 rfl cells_4 rfl rfl) ?_))
  simp only [ev,zD,zE,zF,zG]
  refine n_load rfl (hB1.lies1 agg_4 rfl) ?_
  simp only [ev,zD,zE,zF,zG]
  refine n_val (r_assign) ?_
  simp only [ev,zD,zE,zF,zG]
  refine n_nil ?_
  refine hK5 _ _ ?_
  refine c_cond rfl (fun hc2=>?_) (fun hc2=>?_)
  ·
   have hn:=wneg_true hc2
   refine c_seq (fun K6 hK6=>wp_region_lit (n_val (r_assign) ?_))
   simp only [ev,zD,zE,zF,zG]
   refine n_nil ?_
   refine hK6 _ _ ?_
   refine wp_ret ?_
   try simp only [Exit.inBlock,Exit.then]
   refine fin1 rfl rfl ?_
   try simp only [zD,zE]
   exact ⟨_,rfl,hX,by rw [isign_neg hn]⟩
  ·
   have hn:=wneg_false hc2
   have h0 : ¬ a = 0:=fun e=>hc1 (nil_iff.2 e)
   refine wp_skip ?_
   refine hK2 _ _ ?_
   refine c_seq (fun K7 hK7=>wp_region_lit (n_val (r_assign) ?_))
   simp only [ev,zD,zE,zF,zG]
   refine n_nil ?_
   refine hK7 _ _ ?_
   refine wp_ret ?_
   try simp only [Exit.inBlock,Exit.then]
   refine fin1 rfl rfl ?_
   try simp only [zD,zE]
   exact ⟨_,rfl,hX,by rw [isign_pos (by omega)]⟩
theorem Neg_c {a : Int} (ha : Bd 1000000 a) : Pure Tryz.prog 115 [W a] (W (-a)):=by
 intro w
 refine ⟨en_115,?_⟩
 have hX:=Ext.refl w
 go_enter Tryz.func115,Tryz.ntmps115
 refine c_seq (fun K1 hK1=>wp_region_lit ?_)
 refine n_box (by simp only [ev,zD,zE]; rfl) ?_
 intro w1 g1 hE hg1 hB1
 have hG1:=Nat.le_trans hX.size hg1
 replace hX:=hX.trans hE
 clear hE hg1
 simp only [ev,zD,zE,zF,zG]
 refine n_alloc zero_32 rfl ?_
 intro w2 g2 hE hg2 hB2
 have hG2:=Nat.le_trans hX.size hg2; have hN2_1 : g2 ≠ g1:=Nat.ne_of_gt (Nat.lt_of_lt_of_le hB1.lt hg2)
 replace hB1:=hB1.ext hE; replace hX:=hX.trans hE
 clear hE hg2
 simp only [ev,zD,zE,zF,zG]
 refine n_nil ?_
 refine hK1 _ _ ?_
 refine c_seq (fun K2 hK2=>?_)
 refine wp_region_held' [(2,true),(0,true),(3,true),(4,true),(1,false),(5,false),(6,false)] follows_mixed (by kernel_rfl) (panic_put (fun _ _ _ _ _ h=>h)) (ol:=?_) ?hol ?_
 case hol=>simp only [zQ,zR,zS,zT,zU,zV]; try rfl
 intro w3 hE
 replace hB1:=hB1.ext hE; replace hB2:=hB2.ext hE; replace hX:=hX.trans hE
 clear hE
 refine ⟨_,(Hold.blk hB1 Hold.nil),?_⟩
 refine h_val (r_fieldAddr (c:=0) Tryz.underlying32 rfl cells_4 rfl rfl) ?_
 simp only [ev,zD,zE,zF,zG]
 refine h_load rfl (fun _ ⟨hB1,_⟩=>(hB1.lies agg_32 cells_32 rfl rfl)) ?_
 simp only [ev,zD,zE,zF,zG]
 refine h_load rfl (fun _ ⟨hB1,_⟩=>(hB1.lies1 agg_4 rfl)) ?_
 simp only [ev,zD,zE,zF,zG]
 refine h_val (r_not rfl) ?_
 simp only [ev,zD,zE,zF,zG]
 refine h_step ?_
 refine n_call rfl rfl (abs_c _ (wmag_size ha)) ?_
 rintro v w4 hE ⟨A1,c1,rfl,hN1⟩
 replace hB1:=hB1.ext hE; replace hB2:=hB2.ext hE; replace hX:=hX.trans hE
 clear hE
 rw [sval_wmag] at hN1 ⊢
 simp only [ev,zD,zE,zF,zG]
 refine n_nil ?_
 refine ⟨⟨hB1,trivial⟩,?_⟩
 refine h_step ?_
 refine n_call rfl rfl (wide_c _ hN1 (Nat.le_trans (len_bd ha) (by decide))) ?_
 rintro v w5 hE rfl
 replace hB1:=hB1.ext hE; replace hB2:=hB2.ext hE; (try replace hN1:=hN1.ext hE); replace hX:=hX.trans hE
 clear hE
 simp only [val_digs32]
 simp only [ev,zD,zE,zF,zG]
 refine n_nil ?_
 refine ⟨⟨hB1,trivial⟩,?_⟩
 refine h_step ?_
 refine n_store rfl (by simp only [ev,zD,zE]; rfl) (by exact cells_32) hB2 (by simp) (by simp [Value.oneCell']) ?_
 clear hB2; intro w6 hC hB2
 replace hB1:=hB1.chg hC (by first | exact hN1_2 | exact Ne.symm hN2_1); (try replace hN1:=hN1.chg hC (by first | assumption | rfl)); replace hX:=hX.chg hC hG2
 clear hC
 simp only [over,zH,zI,zJ,zK,zL,zM,zN,zO,zP,Nat.reduceAdd] at hB2
 refine n_nil ?_
 refine ⟨⟨hB1,trivial⟩,?_⟩
 refine h_nil ?_
 rw [sgn_not] at hB2
 refine hK2 _ _ ?_
 refine wp_ret ?_
 try simp only [Exit.inBlock,Exit.then]
 refine fin1 rfl ⟨_,rfl,(hB2.lies agg_32 cells_32 rfl rfl)⟩ ?_
 try simp only [zD,zE]
 exact ⟨_,rfl,hX,rfl⟩
theorem Add_c {a b : Int} (ha : Bd 1000000 a) (hb : Bd 1000000 b) : Pure Tryz.prog 17 [W a,W b] (W (a + b)):=by
 intro w
 refine ⟨en_17,?_⟩
 have hX:=Ext.refl w
 have hla:=len_bd ha
 have hlb:=len_bd hb
 have hls:=len_bd (Bd.add ha hb)
 go_enter Tryz.func17,Tryz.ntmps17
 refine c_seq (fun K1 hK1=>wp_region_lit ?_)
 refine n_box (by simp only [ev,zD,zE]; rfl) ?_
 intro w1 g1 hE hg1 hB1
 have hG1:=Nat.le_trans hX.size hg1
 replace hX:=hX.trans hE
 clear hE hg1
 simp only [ev,zD,zE,zF,zG]
 refine n_box (by simp only [ev,zD,zE]; rfl) ?_
 intro w2 g2 hE hg2 hB2
 have hG2:=Nat.le_trans hX.size hg2; have hN2_1 : g2 ≠ g1:=Nat.ne_of_gt (Nat.lt_of_lt_of_le hB1.lt hg2)
 replace hB1:=hB1.ext hE; replace hX:=hX.trans hE
 clear hE hg2
 simp only [ev,zD,zE,zF,zG]
 refine n_alloc zero_32 rfl ?_
 intro w3 g3 hE hg3 hB3
 have hG3:=Nat.le_trans hX.size hg3; have hN3_1 : g3 ≠ g1:=Nat.ne_of_gt (Nat.lt_of_lt_of_le hB1.lt hg3); have hN3_2 : g3 ≠ g2:=Nat.ne_of_gt (Nat.lt_of_lt_of_le hB2.lt hg3)
 replace hB1:=hB1.ext hE; replace hB2:=hB2.ext hE; replace hX:=hX.trans hE
 clear hE hg3
 simp only [ev,zD,zE,zF,zG]
 refine n_nil ?_
 refine hK1 _ _ ?_
 refine c_seq (fun K2 hK2=>?_)
 refine wp_region_held' [(0,true),(2,true),(1,false),(3,false),(4,true),(5,true)] follows_mixed (by kernel_rfl) (panic_put (fun _ _ _ _ _ h=>h)) (ol:=?_) ?hol ?_
 case hol=>simp only [zQ,zR,zS,zT,zU,zV]; try rfl
 intro w4 hE
 replace hB1:=hB1.ext hE; replace hB2:=hB2.ext hE; replace hB3:=hB3.ext hE; replace hX:=hX.trans hE
 clear hE
 refine ⟨_,(Hold.blk hB1 (Hold.blk hB2 Hold.nil)),?_⟩
 refine h_load rfl (fun _ ⟨hB1,hB2,_⟩=>(hB1.lies agg_32 cells_32 rfl rfl)) ?_
 simp only [ev,zD,zE,zF,zG]
 refine h_load rfl (fun _ ⟨hB1,hB2,_⟩=>(hB2.lies agg_32 cells_32 rfl rfl)) ?_
 simp only [ev,zD,zE,zF,zG]
 refine h_step ?_
 refine n_call rfl rfl (abs_c _ (wmag_size ha)) ?_
 rintro v w5 hE ⟨A1,c1,rfl,hN1⟩
 replace hB1:=hB1.ext hE; replace hB2:=hB2.ext hE; replace hB3:=hB3.ext hE; replace hX:=hX.trans hE
 clear hE
 rw [sval_wmag] at hN1 ⊢
 simp only [ev,zD,zE,zF,zG]
 refine n_nil ?_
 refine ⟨⟨hB1,hB2,trivial⟩,?_⟩
 refine h_step ?_
 refine n_call rfl rfl (abs_c _ (wmag_size hb)) ?_
 rintro v w6 hE ⟨A2,c2,rfl,hN2⟩
 replace hB1:=hB1.ext hE; replace hB2:=hB2.ext hE; replace hB3:=hB3.ext hE; (try replace hN1:=hN1.ext hE); replace hX:=hX.trans hE
 clear hE
 rw [sval_wmag] at hN2 ⊢
 simp only [ev,zD,zE,zF,zG]
 refine n_nil ?_
 refine ⟨⟨hB1,hB2,trivial⟩,?_⟩
 refine h_val (r_assign) (h_val (r_assign) ?_)
 simp only [ev,zD,zE,zF,zG]
 refine h_nil ?_
 refine hK2 _ _ ?_
 refine c_seq (fun K3 hK3=>wp_block (c_seq (fun K4 hK4=>wp_region_lit (n_val (r_fieldAddr (c:=0) Tryz.underlying32 rfl cells_4 rfl rfl) ?_))))
 simp only [ev,zD,zE,zF,zG]
 refine n_load rfl (hB1.lies1 agg_4 rfl) ?_
 simp only [ev,zD,zE,zF,zG]
 refine n_val (r_fieldAddr (c:=0) Tryz.underlying32 rfl cells_4 rfl rfl) ?_
 simp only [ev,zD,zE,zF,zG]
 refine n_load rfl (hB2.lies1 agg_4 rfl) ?_
 simp only [ev,zD,zE,zF,zG]
 refine n_val (r_eqlB Tryz.underlying4 rfl rfl) (n_val (r_assign) ?_)
 simp only [ev,zD,zE,zF,zG]
 refine n_nil ?_
 refine hK4 _ _ ?_
 refine c_if rfl (fun hc1=>?_) (fun hc1=>?_)
 ·
  refine c_seq (fun K5 hK5=>?_)
  refine wp_region_held' [(0,true),(1,true),(3,true),(4,true),(2,false),(5,false),(6,false)] follows_mixed (by kernel_rfl) (panic_put (fun _ _ _ _ _ h=>h)) (ol:=?_) ?hol ?_
  case hol=>simp only [zQ,zR,zS,zT,zU,zV]; try rfl
  intro w7 hE
  replace hB1:=hB1.ext hE; replace hB2:=hB2.ext hE; replace hB3:=hB3.ext hE; (try replace hN1:=hN1.ext hE); (try replace hN2:=hN2.ext hE); replace hX:=hX.trans hE
  clear hE
  refine ⟨_,(Hold.blk hB1 Hold.nil),?_⟩
  refine h_val (r_move) (h_val (r_move) (h_val (r_fieldAddr (c:=0) Tryz.underlying32 rfl cells_4 rfl rfl) ?_))
  simp only [ev,zD,zE,zF,zG]
  refine h_load rfl (fun _ ⟨hB1,_⟩=>(hB1.lies1 agg_4 rfl)) ?_
  simp only [ev,zD,zE,zF,zG]
  refine h_step ?_
  refine n_call rfl rfl (add_c _ hN1 hN2 (Nat.le_trans hla (by decide)) (Nat.le_trans hlb (by decide))) ?_
  rintro v w8 hE ⟨A3,c3,rfl,hN3⟩
  replace hB1:=hB1.ext hE; replace hB2:=hB2.ext hE; replace hB3:=hB3.ext hE; (try replace hN1:=hN1.ext hE); (try replace hN2:=hN2.ext hE); replace hX:=hX.trans hE
  clear hE
  simp only [ev,zD,zE,zF,zG]
  refine n_nil ?_
  refine ⟨⟨hB1,trivial⟩,?_⟩
  refine h_step ?_
  simp only [val_digs32] at hN3 ⊢
  have hl3 : (digs 4294967296 (a.natAbs + b.natAbs)).length ≤ 100000000000:=Nat.le_trans (len_add32 ha hb) (by decide)
  refine n_call rfl rfl (wide_c _ hN3 hl3) ?_
  rintro v w9 hE rfl
  replace hB1:=hB1.ext hE; replace hB2:=hB2.ext hE; replace hB3:=hB3.ext hE; (try replace hN1:=hN1.ext hE); (try replace hN2:=hN2.ext hE); (try replace hN3:=hN3.ext hE); replace hX:=hX.trans hE
  clear hE
  simp only [val_digs32]
  simp only [ev,zD,zE,zF,zG]
  refine n_nil ?_
  refine ⟨⟨hB1,trivial⟩,?_⟩
  refine h_step ?_
  refine n_store rfl (by simp only [ev,zD,zE]; rfl) (by exact cells_32) hB3 (by simp) (by simp [Value.oneCell']) ?_
  clear hB3; intro w10 hC hB3
  replace hB1:=hB1.chg hC (by first | exact hN1_3 | exact Ne.symm hN3_1); replace hB2:=hB2.chg hC (by first | exact hN2_3 | exact Ne.symm hN3_2); (try replace hN1:=hN1.chg hC (by first | assumption | rfl)); (try replace hN2:=hN2.chg hC (by first | assumption | rfl)); (try replace hN3:=hN3.chg hC (by first | assumption | rfl)); replace hX:=hX.chg hC hG3
  clear hC
  simp only [over,zH,zI,zJ,zK,zL,zM,zN,zO,zP,Nat.reduceAdd] at hB3
  refine n_nil ?_
  refine ⟨⟨hB1,trivial⟩,?_⟩
  refine h_nil ?_
  rw [sgn_add hc1] at hB3
  refine hK5 _ _ ?_
  refine wp_ret ?_
  try simp only [Exit.inBlock,Exit.then]
  refine fin1 rfl ⟨_,rfl,(hB3.lies agg_32 cells_32 rfl rfl)⟩ ?_
  try simp only [zD,zE]
  exact ⟨_,rfl,hX,rfl⟩
 ·
  refine c_seq (fun K6 hK6=>wp_region_lit (n_val (r_move) (n_val (r_move) ?_)))
  simp only [ev,zD,zE,zF,zG]
  refine n_call rfl rfl (cmp_c _ hN1 hN2 (trimmed_digs32 _) (trimmed_digs32 _)) ?_
  rintro v w7 hE rfl
  replace hB1:=hB1.ext hE; replace hB2:=hB2.ext hE; replace hB3:=hB3.ext hE; (try replace hN1:=hN1.ext hE); (try replace hN2:=hN2.ext hE); replace hX:=hX.trans hE
  clear hE
  simp only [val_digs32]
  simp only [ev,zD,zE,zF,zG]
  refine n_val (r_lss rfl rfl) (n_val (r_assign) ?_)
  simp only [ev,zD,zE,zF,zG]
  refine n_nil ?_
  refine hK6 _ _ ?_
  refine c_if rfl (fun hc2=>?_) (fun hc2=>?_)
  ·
   have hlt:=ord_lt_iff.1 hc2
   refine c_seq (fun K7 hK7=>?_)
   refine wp_region_held' [(0,true),(1,true),(3,true),(4,true),(2,false),(5,false),(6,false)] follows_mixed (by kernel_rfl) (panic_put (fun _ _ _ _ _ h=>h)) (ol:=?_) ?hol ?_
   case hol=>simp only [zQ,zR,zS,zT,zU,zV]; try rfl
   intro w8 hE
   replace hB1:=hB1.ext hE; replace hB2:=hB2.ext hE; replace hB3:=hB3.ext hE; (try replace hN1:=hN1.ext hE); (try replace hN2:=hN2.ext hE); replace hX:=hX.trans hE
   clear hE
   refine ⟨_,(Hold.blk hB2 Hold.nil),?_⟩
   refine h_val (r_move) (h_val (r_move) (h_val (r_fieldAddr (c:=0) Tryz.underlying32 rfl cells_4 rfl rfl) ?_))
   simp only [ev,zD,zE,zF,zG]
   refine h_load rfl (fun _ ⟨hB2,_⟩=>(hB2.lies1 agg_4 rfl)) ?_
   simp only [ev,zD,zE,zF,zG]
   refine h_step ?_
   refine n_call rfl rfl (sub_c _ hN2 hN1 (lt_len (Nat.le_of_lt hlt)) (by simp only [val_digs32]; omega) (Nat.le_trans hlb (by decide))) ?_
   rintro v w9 hE ⟨⟨A3,c3,rfl,hN3⟩,_⟩
   replace hB1:=hB1.ext hE; replace hB2:=hB2.ext hE; replace hB3:=hB3.ext hE; (try replace hN1:=hN1.ext hE); (try replace hN2:=hN2.ext hE); replace hX:=hX.trans hE
   clear hE
   simp only [val_digs32] at hN3 ⊢
   have hl3:=lt_len (Nat.sub_le b.natAbs a.natAbs)
   simp only [ev,zD,zE,zF,zG]
   refine n_nil ?_
   refine ⟨⟨hB2,trivial⟩,?_⟩
   refine h_step ?_
   refine n_call rfl rfl (wide_c _ hN3 (Nat.le_trans hl3 (Nat.le_trans hlb (by decide)))) ?_
   rintro v w10 hE rfl
   replace hB1:=hB1.ext hE; replace hB2:=hB2.ext hE; replace hB3:=hB3.ext hE; (try replace hN1:=hN1.ext hE); (try replace hN2:=hN2.ext hE); (try replace hN3:=hN3.ext hE); replace hX:=hX.trans hE
   clear hE
   simp only [val_digs32]
   simp only [ev,zD,zE,zF,zG]
   refine n_nil ?_
   refine ⟨⟨hB2,trivial⟩,?_⟩
   refine h_step ?_
   refine n_store rfl (by simp only [ev,zD,zE]; rfl) (by exact cells_32) hB3 (by simp) (by simp [Value.oneCell']) ?_
   clear hB3; intro w11 hC hB3
   replace hB1:=hB1.chg hC (by first | exact hN1_3 | exact Ne.symm hN3_1); replace hB2:=hB2.chg hC (by first | exact hN2_3 | exact Ne.symm hN3_2); (try replace hN1:=hN1.chg hC (by first | assumption | rfl)); (try replace hN2:=hN2.chg hC (by first | assumption | rfl)); (try replace hN3:=hN3.chg hC (by first | assumption | rfl)); replace hX:=hX.chg hC hG3
   clear hC
   simp only [over,zH,zI,zJ,zK,zL,zM,zN,zO,zP,Nat.reduceAdd] at hB3
   refine n_nil ?_
   refine ⟨⟨hB2,trivial⟩,?_⟩
   refine h_nil ?_
   rw [sgn_lt hc1 hlt] at hB3
   refine hK7 _ _ ?_
   refine wp_ret ?_
   try simp only [Exit.inBlock,Exit.then]
   refine fin1 rfl ⟨_,rfl,(hB3.lies agg_32 cells_32 rfl rfl)⟩ ?_
   try simp only [zD,zE]
   exact ⟨_,rfl,hX,rfl⟩
  ·
   have hge : b.natAbs ≤ a.natAbs:=Nat.le_of_not_lt fun h=>hc2 (ord_lt_iff.2 h)
   refine wp_skip ?_
   refine hK3 _ _ ?_
   refine c_seq (fun K8 hK8=>?_)
   refine wp_region_held' [(0,true),(1,true),(3,true),(4,true),(2,false),(5,false),(6,false)] follows_mixed (by kernel_rfl) (panic_put (fun _ _ _ _ _ h=>h)) (ol:=?_) ?hol ?_
   case hol=>simp only [zQ,zR,zS,zT,zU,zV]; try rfl
   intro w8 hE
   replace hB1:=hB1.ext hE; replace hB2:=hB2.ext hE; replace hB3:=hB3.ext hE; (try replace hN1:=hN1.ext hE); (try replace hN2:=hN2.ext hE); replace hX:=hX.trans hE
   clear hE
   refine ⟨_,(Hold.blk hB1 Hold.nil),?_⟩
   refine h_val (r_move) (h_val (r_move) (h_val (r_fieldAddr (c:=0) Tryz.underlying32 rfl cells_4 rfl rfl) ?_))
   simp only [ev,zD,zE,zF,zG]
   refine h_load rfl (fun _ ⟨hB1,_⟩=>(hB1.lies1 agg_4 rfl)) ?_
   simp only [ev,zD,zE,zF,zG]
   refine h_step ?_
   refine n_call rfl rfl (sub_c _ hN1 hN2 (lt_len hge) (by simp only [val_digs32]; omega) (Nat.le_trans hla (by decide))) ?_
   rintro v w9 hE ⟨⟨A3,c3,rfl,hN3⟩,_⟩
   replace hB1:=hB1.ext hE; replace hB2:=hB2.ext hE; replace hB3:=hB3.ext hE; (try replace hN1:=hN1.ext hE); (try replace hN2:=hN2.ext hE); replace hX:=hX.trans hE
   clear hE
   simp only [val_digs32] at hN3 ⊢
   have hl3:=lt_len (Nat.sub_le a.natAbs b.natAbs)
   simp only [ev,zD,zE,zF,zG]
   refine n_nil ?_
   refine ⟨⟨hB1,trivial⟩,?_⟩
   refine h_step ?_
   refine n_call rfl rfl (wide_c _ hN3 (Nat.le_trans hl3 (Nat.le_trans hla (by decide)))) ?_
   rintro v w10 hE rfl
   replace hB1:=hB1.ext hE; replace hB2:=hB2.ext hE; replace hB3:=hB3.ext hE; (try replace hN1:=hN1.ext hE); (try replace hN2:=hN2.ext hE); (try replace hN3:=hN3.ext hE); replace hX:=hX.trans hE
   clear hE
   simp only [val_digs32]
   simp only [ev,zD,zE,zF,zG]
   refine n_nil ?_
   refine ⟨⟨hB1,trivial⟩,?_⟩
   refine h_step ?_
   refine n_store rfl (by simp only [ev,zD,zE]; rfl) (by exact cells_32) hB3 (by simp) (by simp [Value.oneCell']) ?_
   clear hB3; intro w11 hC hB3
   replace hB1:=hB1.chg hC (by first | exact hN1_3 | exact Ne.symm hN3_1); replace hB2:=hB2.chg hC (by first | exact hN2_3 | exact Ne.symm hN3_2); (try replace hN1:=hN1.chg hC (by first | assumption | rfl)); (try replace hN2:=hN2.chg hC (by first | assumption | rfl)); (try replace hN3:=hN3.chg hC (by first | assumption | rfl)); replace hX:=hX.chg hC hG3
   clear hC
   simp only [over,zH,zI,zJ,zK,zL,zM,zN,zO,zP,Nat.reduceAdd] at hB3
   refine n_nil ?_
   refine ⟨⟨hB1,trivial⟩,?_⟩
   refine h_nil ?_
   rw [sgn_ge hc1 hge] at hB3
   refine hK8 _ _ ?_
   refine wp_ret ?_
   try simp only [Exit.inBlock,Exit.then]
   refine fin1 rfl ⟨_,rfl,(hB3.lies agg_32 cells_32 rfl rfl)⟩ ?_
   try simp only [zD,zE]
   exact ⟨_,rfl,hX,rfl⟩
end Go.Proofs.YtmcgcnpgkkfkoaaGreatDoor
namespace Go.Proofs.YtmcgcnpgkkfkoaaGreatDoor
open Go.RowKit Go.Lith
set_option maxRecDepth 100000
attribute [local irreducible] wpList wpQuiet wpMix Code.wp
theorem Sub_c {a b : Int} (ha : Bd 1000000 a) (hb : Bd 1000000 b) : Pure Tryz.prog 56 [W a,W b] (W (a - b)):=by
 intro w
 refine ⟨en_56,?_⟩
 have hX:=Ext.refl w
 go_enter Tryz.func56,Tryz.ntmps56
 refine c_seq (fun K1 hK1=>wp_region_lit ?_)
 refine n_box (by simp only [ev,zD,zE]; rfl) ?_
 intro w1 g1 hE hg1 hB1
 have hG1:=Nat.le_trans hX.size hg1
 replace hX:=hX.trans hE
 clear hE hg1
 simp only [ev,zD,zE,zF,zG]
 refine n_box (by simp only [ev,zD,zE]; rfl) ?_
 intro w2 g2 hE hg2 hB2
 have hG2:=Nat.le_trans hX.size hg2; have hN2_1 : g2 ≠ g1:=Nat.ne_of_gt (Nat.lt_of_lt_of_le hB1.lt hg2)
 replace hB1:=hB1.ext hE; replace hX:=hX.trans hE
 clear hE hg2
 simp only [ev,zD,zE,zF,zG]
 refine n_alloc zero_32 rfl ?_
 intro w3 g3 hE hg3 hB3
 have hG3:=Nat.le_trans hX.size hg3; have hN3_1 : g3 ≠ g1:=Nat.ne_of_gt (Nat.lt_of_lt_of_le hB1.lt hg3); have hN3_2 : g3 ≠ g2:=Nat.ne_of_gt (Nat.lt_of_lt_of_le hB2.lt hg3)
 replace hB1:=hB1.ext hE; replace hB2:=hB2.ext hE; replace hX:=hX.trans hE
 clear hE hg3
 simp only [ev,zD,zE,zF,zG]
 refine n_nil ?_
 refine hK1 _ _ ?_
 refine c_seq (fun K2 hK2=>?_)
 refine wp_region_ext_tail 4 follows_mixed (by kernel_rfl) ?_
 simp only [zH,zI,zJ,zK]
 refine q_load rfl (fun _ hE'=>((hB1.ext hE').lies agg_32 cells_32 rfl rfl)) ?_
 simp only [ev,zD,zE,zF,zG]
 refine q_load rfl (fun _ hE'=>((hB2.ext hE').lies agg_32 cells_32 rfl rfl)) ?_
 simp only [ev,zD,zE,zF,zG]
 refine q_callP rfl rfl (Neg_c hb) ?_
 simp only [ev,zD,zE,zF,zG]
 refine q_callP rfl rfl (Add_c ha hb.neg) ?_
 simp only [ev,zD,zE,zF,zG]
 refine q_nil ?_
 intro w4 hE
 replace hB1:=hB1.ext hE; replace hB2:=hB2.ext hE; replace hB3:=hB3.ext hE; replace hX:=hX.trans hE
 clear hE
 refine n_store rfl (by simp only [ev,zD,zE]; rfl) (by exact cells_32) hB3 (by simp) (by simp [Value.oneCell']) ?_
 clear hB3; intro w5 hC hB3
 replace hB1:=hB1.chg hC (by first | exact hN1_3 | exact Ne.symm hN3_1); replace hB2:=hB2.chg hC (by first | exact hN2_3 | exact Ne.symm hN3_2); replace hX:=hX.chg hC hG3
 clear hC
 simp only [over,zH,zI,zJ,zK,zL,zM,zN,zO,zP,Nat.reduceAdd] at hB3
 refine n_nil ?_
 rw [← Int.sub_eq_add_neg] at hB3
 refine hK2 _ _ ?_
 refine wp_ret ?_
 try simp only [Exit.inBlock,Exit.then]
 refine fin1 rfl ⟨_,rfl,(hB3.lies agg_32 cells_32 rfl rfl)⟩ ?_
 try simp only [zD,zE]
 exact ⟨_,rfl,hX,rfl⟩
theorem Mul_c {a b : Int} (ha : Bd 1000000 a) (hb : Bd 1000000 b) : Pure Tryz.prog 50 [W a,W b] (W (a * b)):=by
 intro w
 refine ⟨en_50,?_⟩
 have hX:=Ext.refl w
 have hla:=len_bd ha
 have hlb:=len_bd hb
 have hls:=len_bd (Bd.mul ha hb)
 go_enter Tryz.func50,Tryz.ntmps50
 refine c_seq (fun K1 hK1=>wp_region_lit ?_)
 refine n_box (by simp only [ev,zD,zE]; rfl) ?_
 intro w1 g1 hE hg1 hB1
 have hG1:=Nat.le_trans hX.size hg1
 replace hX:=hX.trans hE
 clear hE hg1
 simp only [ev,zD,zE,zF,zG]
 refine n_box (by simp only [ev,zD,zE]; rfl) ?_
 intro w2 g2 hE hg2 hB2
 have hG2:=Nat.le_trans hX.size hg2; have hN2_1 : g2 ≠ g1:=Nat.ne_of_gt (Nat.lt_of_lt_of_le hB1.lt hg2)
 replace hB1:=hB1.ext hE; replace hX:=hX.trans hE
 clear hE hg2
 simp only [ev,zD,zE,zF,zG]
 refine n_alloc zero_32 rfl ?_
 intro w3 g3 hE hg3 hB3
 have hG3:=Nat.le_trans hX.size hg3; have hN3_1 : g3 ≠ g1:=Nat.ne_of_gt (Nat.lt_of_lt_of_le hB1.lt hg3); have hN3_2 : g3 ≠ g2:=Nat.ne_of_gt (Nat.lt_of_lt_of_le hB2.lt hg3)
 replace hB1:=hB1.ext hE; replace hB2:=hB2.ext hE; replace hX:=hX.trans hE
 clear hE hg3
 simp only [ev,zD,zE,zF,zG]
 refine n_nil ?_
 refine hK1 _ _ ?_
 refine c_seq (fun K2 hK2=>?_)
 refine wp_region_held' [(5,true),(7,true),(0,true),(2,true),(6,true),(8,true),(9,true),(1,false),(3,false),(4,false),(10,false),(11,false)] follows_mixed (by kernel_rfl) (panic_put (fun _ _ _ _ _ h=>h)) (ol:=?_) ?hol ?_
 case hol=>simp only [zQ,zR,zS,zT,zU,zV]; try rfl
 intro w4 hE
 replace hB1:=hB1.ext hE; replace hB2:=hB2.ext hE; replace hB3:=hB3.ext hE; replace hX:=hX.trans hE
 clear hE
 refine ⟨_,(Hold.blk hB1 (Hold.blk hB2 Hold.nil)),?_⟩
 refine h_val (r_fieldAddr (c:=0) Tryz.underlying32 rfl cells_4 rfl rfl) (h_val (r_fieldAddr (c:=0) Tryz.underlying32 rfl cells_4 rfl rfl) ?_)
 simp only [ev,zD,zE,zF,zG]
 refine h_load rfl (fun _ ⟨hB1,hB2,_⟩=>(hB1.lies agg_32 cells_32 rfl rfl)) ?_
 simp only [ev,zD,zE,zF,zG]
 refine h_load rfl (fun _ ⟨hB1,hB2,_⟩=>(hB2.lies agg_32 cells_32 rfl rfl)) ?_
 simp only [ev,zD,zE,zF,zG]
 refine h_load rfl (fun _ ⟨hB1,hB2,_⟩=>(hB1.lies1 agg_4 rfl)) ?_
 simp only [ev,zD,zE,zF,zG]
 refine h_load rfl (fun _ ⟨hB1,hB2,_⟩=>(hB2.lies1 agg_4 rfl)) ?_
 simp only [ev,zD,zE,zF,zG]
 refine h_val (r_neqB Tryz.underlying4 rfl rfl) ?_
 simp only [ev,zD,zE,zF,zG]
 refine h_step ?_
 refine n_call rfl rfl (abs_c _ (wmag_size ha)) ?_
 rintro v w5 hE ⟨A1,c1,rfl,hN1⟩
 replace hB1:=hB1.ext hE; replace hB2:=hB2.ext hE; replace hB3:=hB3.ext hE; replace hX:=hX.trans hE
 clear hE
 rw [sval_wmag] at hN1 ⊢
 simp only [ev,zD,zE,zF,zG]
 refine n_nil ?_
 refine ⟨⟨hB1,hB2,trivial⟩,?_⟩
 refine h_step ?_
 refine n_call rfl rfl (abs_c _ (wmag_size hb)) ?_
 rintro v w6 hE ⟨A2,c2,rfl,hN2⟩
 replace hB1:=hB1.ext hE; replace hB2:=hB2.ext hE; replace hB3:=hB3.ext hE; (try replace hN1:=hN1.ext hE); replace hX:=hX.trans hE
 clear hE
 rw [sval_wmag] at hN2 ⊢
 simp only [ev,zD,zE,zF,zG]
 refine n_nil ?_
 refine ⟨⟨hB1,hB2,trivial⟩,?_⟩
 refine h_step ?_
 refine n_call rfl rfl (mul_c _ hN1 hN2 (Nat.le_trans hla (by decide)) (Nat.le_trans hlb (by decide))) ?_
 rintro v w7 hE ⟨A3,c3,rfl,hN3⟩
 replace hB1:=hB1.ext hE; replace hB2:=hB2.ext hE; replace hB3:=hB3.ext hE; (try replace hN1:=hN1.ext hE); (try replace hN2:=hN2.ext hE); replace hX:=hX.trans hE
 clear hE
 simp only [val_digs32] at hN3 ⊢
 rw [← Int.natAbs_mul] at hN3 ⊢
 simp only [ev,zD,zE,zF,zG]
 refine n_nil ?_
 refine ⟨⟨hB1,hB2,trivial⟩,?_⟩
 refine h_step ?_
 refine n_call rfl rfl (wide_c _ hN3 (Nat.le_trans hls (by decide))) ?_
 rintro v w8 hE rfl
 replace hB1:=hB1.ext hE; replace hB2:=hB2.ext hE; replace hB3:=hB3.ext hE; (try replace hN1:=hN1.ext hE); (try replace hN2:=hN2.ext hE); (try replace hN3:=hN3.ext hE); replace hX:=hX.trans hE
 clear hE
 simp only [val_digs32]
 simp only [ev,zD,zE,zF,zG]
 refine n_nil ?_
 refine ⟨⟨hB1,hB2,trivial⟩,?_⟩
 refine h_step ?_
 refine n_store rfl (by simp only [ev,zD,zE]; rfl) (by exact cells_32) hB3 (by simp) (by simp [Value.oneCell']) ?_
 clear hB3; intro w9 hC hB3
 replace hB1:=hB1.chg hC (by first | exact hN1_3 | exact Ne.symm hN3_1); replace hB2:=hB2.chg hC (by first | exact hN2_3 | exact Ne.symm hN3_2); (try replace hN1:=hN1.chg hC (by first | assumption | rfl)); (try replace hN2:=hN2.chg hC (by first | assumption | rfl)); (try replace hN3:=hN3.chg hC (by first | assumption | rfl)); replace hX:=hX.chg hC hG3
 clear hC
 simp only [over,zH,zI,zJ,zK,zL,zM,zN,zO,zP,Nat.reduceAdd] at hB3
 refine n_nil ?_
 refine ⟨⟨hB1,hB2,trivial⟩,?_⟩
 refine h_nil ?_
 rw [Int.natAbs_mul,sgn_mul] at hB3
 refine hK2 _ _ ?_
 refine wp_ret ?_
 try simp only [Exit.inBlock,Exit.then]
 refine fin1 rfl ⟨_,rfl,(hB3.lies agg_32 cells_32 rfl rfl)⟩ ?_
 try simp only [zD,zE]
 exact ⟨_,rfl,hX,rfl⟩
theorem Cmp_c {a b : Int} (ha : Bd 900000 a) (hb : Bd 900000 b) : Pure Tryz.prog 16 [W a,W b] (.int .i64 (isign (a - b))):=by
 intro w
 refine ⟨en_16,?_⟩
 have hX:=Ext.refl w
 go_enter Tryz.func16,Tryz.ntmps16
 refine c_seq (fun K1 hK1=>wp_region_lit ?_)
 refine n_box (by simp only [ev,zD,zE]; rfl) ?_
 intro w1 g1 hE hg1 hB1
 have hG1:=Nat.le_trans hX.size hg1
 replace hX:=hX.trans hE
 clear hE hg1
 simp only [ev,zD,zE,zF,zG]
 refine n_box (by simp only [ev,zD,zE]; rfl) ?_
 intro w2 g2 hE hg2 hB2
 have hG2:=Nat.le_trans hX.size hg2; have hN2_1 : g2 ≠ g1:=Nat.ne_of_gt (Nat.lt_of_lt_of_le hB1.lt hg2)
 replace hB1:=hB1.ext hE; replace hX:=hX.trans hE
 clear hE hg2
 simp only [ev,zD,zE,zF,zG]
 refine n_val (r_assign) ?_
 simp only [ev,zD,zE,zF,zG]
 refine n_nil ?_
 refine hK1 _ _ ?_
 refine c_seq (fun K2 hK2=>wp_region_lit ?_)
 refine n_load rfl (hB1.lies agg_32 cells_32 rfl rfl) ?_
 simp only [ev,zD,zE,zF,zG]
 refine n_load rfl (hB2.lies agg_32 cells_32 rfl rfl) ?_
 simp only [ev,zD,zE,zF,zG]
 refine n_callP rfl rfl (Sub_c (ha.mono (by decide)) (hb.mono (by decide))) ?_
 intro w3 hE
 replace hB1:=hB1.ext hE; replace hB2:=hB2.ext hE; replace hX:=hX.trans hE
 clear hE
 simp only [ev,zD,zE,zF,zG]
 refine n_callP rfl rfl (Sign_c ((Bd.sub ha hb).mono (by decide))) ?_
 intro w4 hE
 replace hB1:=hB1.ext hE; replace hB2:=hB2.ext hE; replace hX:=hX.trans hE
 clear hE
 simp only [ev,zD,zE,zF,zG]
 refine n_val (r_assign) ?_
 simp only [ev,zD,zE,zF,zG]
 refine n_nil ?_
 refine hK2 _ _ ?_
 refine wp_ret ?_
 try simp only [Exit.inBlock,Exit.then]
 refine fin1 rfl rfl ?_
 try simp only [zD,zE]
 exact ⟨_,rfl,hX,rfl⟩
theorem From_c {n : Int} (h : I64 n) : Pure Tryz.prog 18 [.int .i64 n] (W n):=by
 intro w
 refine ⟨en_18,?_⟩
 have hX:=Ext.refl w
 have hna:=h.natAbs
 go_enter Tryz.func18,Tryz.ntmps18
 refine c_seq (fun K1 hK1=>wp_region_lit ?_)
 refine n_alloc zero_32 rfl ?_
 intro w1 g1 hE hg1 hB1
 have hG1:=Nat.le_trans hX.size hg1
 replace hX:=hX.trans hE
 clear hE hg1
 simp only [ev,zD,zE,zF,zG]
 refine n_nil ?_
 refine hK1 _ _ ?_
 refine c_seq (fun K2 hK2=>?_)
 rcases (show n < 0 ∨ 0 ≤ n by omega) with h0 | h0
 ·
  refine wp_region_lit (n_val (r_move) (n_val (r_conv Tryz.underlying88 Tryz.underlying3 rfl (u64_neg h h0)) (n_val (r_assign) ?_)))
  simp only [ev,zD,zE,zF,zG]
  refine n_nil ?_
  refine hK2 _ _ ?_
  refine c_seq (fun K3 hK3=>c_seq (fun K4 hK4=>wp_region_lit (n_val (r_move) (n_val (r_lssT rfl rfl (by omega)) ?_))))
  simp only [ev,zD,zE,zF,zG]
  refine n_nil ?_
  refine hK4 _ _ ?_
  refine c_yes rfl (wp_region_lit (n_val (r_move) (n_val (r_neg rfl (u64_minus hna (by omega))) (n_val (r_assign) ?_))))
  simp only [ev,zD,zE,zF,zG]
  refine n_nil ?_
  refine hK3 _ _ ?_
  refine c_seq (fun K5 hK5=>wp_region_lit (n_val (r_move) (n_val (r_and rfl rfl (and_u64 (by omega))) (n_val (r_move) ?_))))
  simp only [ev,zD,zE,zF,zG]
  refine n_val (r_shr rfl rfl (by omega) shr32n) ?_
  simp only [ev,zD,zE,zF,zG]
  refine n_build2 Tryz.underlying83 (z:=.int .u64 0) (by kernel_rfl) rfl (by simp only [ev,zD,zE,zF,zG]; rfl) (by rfl) (by simp only [ev,zD,zE,zF,zG]; rfl) (by rfl) ?_
  intro w2 g2 hE hg2 hB2
  have hG2:=Nat.le_trans hX.size hg2; have hN2_1 : g2 ≠ g1:=Nat.ne_of_gt (Nat.lt_of_lt_of_le hB1.lt hg2)
  replace hB1:=hB1.ext hE; replace hX:=hX.trans hE
  clear hE hg2
  simp only [ev,zD,zE,zF,zG]
  refine n_val (r_move) (n_val (r_lssT rfl rfl (by omega)) ?_)
  simp only [ev,zD,zE,zF,zG]
  refine n_call rfl rfl (wide_c _ (hB2.nat (os:=[n.natAbs % 4294967296,n.natAbs / 4294967296]) (words_digs (by omega)) rfl (by omega)) (by simp)) ?_
  rintro v w3 hE rfl
  replace hB1:=hB1.ext hE; replace hB2:=hB2.ext hE; replace hX:=hX.trans hE
  clear hE
  simp only [ev,zD,zE,zF,zG]
  refine n_store rfl (by simp only [ev,zD,zE]; rfl) (by exact cells_32) hB1 (by simp) (by simp [Value.oneCell']) ?_
  clear hB1; intro w4 hC hB1
  replace hB2:=hB2.chg hC (by first | exact hN2_1 | exact Ne.symm hN1_2); replace hX:=hX.chg hC hG1
  clear hC
  simp only [over,zH,zI,zJ,zK,zL,zM,zN,zO,zP,Nat.reduceAdd] at hB1
  refine n_nil ?_
  refine hK5 _ _ ?_
  refine wp_ret ?_
  try simp only [Exit.inBlock,Exit.then]
  refine fin1 rfl ⟨_,rfl,(hB1.lies agg_32 cells_32 rfl rfl)⟩ ?_
  try simp only [zD,zE]
  exact ⟨_,rfl,hX,by rw [words_val,show true = wneg n from (decide_eq_true h0).symm,sgn_self]; rfl⟩
 ·
  refine wp_region_lit (n_val (r_move) (n_val (r_conv Tryz.underlying88 Tryz.underlying3 rfl (u64_nn h h0)) (n_val (r_assign) ?_)))
  simp only [ev,zD,zE,zF,zG]
  refine n_nil ?_
  refine hK2 _ _ ?_
  refine c_seq (fun K6 hK6=>c_seq (fun K7 hK7=>wp_region_lit (n_val (r_move) (n_val (r_lssF rfl rfl (by omega)) ?_))))
  simp only [ev,zD,zE,zF,zG]
  refine n_nil ?_
  refine hK7 _ _ ?_
  refine c_no rfl (wp_skip ?_)
  refine hK6 _ _ ?_
  refine c_seq (fun K8 hK8=>wp_region_lit (n_val (r_move) (n_val (r_and rfl rfl (and_u64 (by omega))) (n_val (r_move) ?_))))
  simp only [ev,zD,zE,zF,zG]
  refine n_val (r_shr rfl rfl (by omega) shr32n) ?_
  simp only [ev,zD,zE,zF,zG]
  refine n_build2 Tryz.underlying83 (z:=.int .u64 0) (by kernel_rfl) rfl (by simp only [ev,zD,zE,zF,zG]; rfl) (by rfl) (by simp only [ev,zD,zE,zF,zG]; rfl) (by rfl) ?_
  intro w2 g2 hE hg2 hB2
  have hG2:=Nat.le_trans hX.size hg2; have hN2_1 : g2 ≠ g1:=Nat.ne_of_gt (Nat.lt_of_lt_of_le hB1.lt hg2)
  replace hB1:=hB1.ext hE; replace hX:=hX.trans hE
  clear hE hg2
  simp only [ev,zD,zE,zF,zG]
  refine n_val (r_move) (n_val (r_lssF rfl rfl (by omega)) ?_)
  simp only [ev,zD,zE,zF,zG]
  refine n_call rfl rfl (wide_c _ (hB2.nat (os:=[n.natAbs % 4294967296,n.natAbs / 4294967296]) (words_digs (by omega)) rfl (by omega)) (by simp)) ?_
  rintro v w3 hE rfl
  replace hB1:=hB1.ext hE; replace hB2:=hB2.ext hE; replace hX:=hX.trans hE
  clear hE
  simp only [ev,zD,zE,zF,zG]
  refine n_store rfl (by simp only [ev,zD,zE]; rfl) (by exact cells_32) hB1 (by simp) (by simp [Value.oneCell']) ?_
  clear hB1; intro w4 hC hB1
  replace hB2:=hB2.chg hC (by first | exact hN2_1 | exact Ne.symm hN1_2); replace hX:=hX.chg hC hG1
  clear hC
  simp only [over,zH,zI,zJ,zK,zL,zM,zN,zO,zP,Nat.reduceAdd] at hB1
  refine n_nil ?_
  refine hK8 _ _ ?_
  refine wp_ret ?_
  try simp only [Exit.inBlock,Exit.then]
  refine fin1 rfl ⟨_,rfl,(hB1.lies agg_32 cells_32 rfl rfl)⟩ ?_
  try simp only [zD,zE]
  exact ⟨_,rfl,hX,by rw [words_val,show false = wneg n from (decide_eq_false (by omega)).symm,sgn_self]; rfl⟩
theorem Quo_c {a b : Int} (ha : Bd 1000000 a) (hb : Bd 1000000 b) (h0 : b ≠ 0) : Pure Tryz.prog 130 [W a,W b] (.tuple #[W (a.tdiv b),W (a.tmod b),.bool true]):=by
 intro w
 refine ⟨en_130,?_⟩
 have hX:=Ext.refl w
 have hla:=len_bd ha
 have hlb:=len_bd hb
 have hq:=len_bd (show Bd 1000000 (a.tdiv b) from ha.of_le (by rw [Int.natAbs_tdiv]; exact Nat.div_le_self ..))
 have hr:=len_bd (show Bd 1000000 (a.tmod b) from ha.of_le (by rw [Int.natAbs_tmod]; exact Nat.mod_le ..))
 rw [Int.natAbs_tdiv] at hq
 rw [Int.natAbs_tmod] at hr
 go_enter Tryz.func130,Tryz.ntmps130
 refine c_seq (fun K1 hK1=>wp_region_lit ?_)
 refine n_box (by simp only [ev,zD,zE]; rfl) ?_
 intro w1 g1 hE hg1 hB1
 have hG1:=Nat.le_trans hX.size hg1
 replace hX:=hX.trans hE
 clear hE hg1
 simp only [ev,zD,zE,zF,zG]
 refine n_box (by simp only [ev,zD,zE]; rfl) ?_
 intro w2 g2 hE hg2 hB2
 have hG2:=Nat.le_trans hX.size hg2; have hN2_1 : g2 ≠ g1:=Nat.ne_of_gt (Nat.lt_of_lt_of_le hB1.lt hg2)
 replace hB1:=hB1.ext hE; replace hX:=hX.trans hE
 clear hE hg2
 simp only [ev,zD,zE,zF,zG]
 refine n_alloc zero_32 rfl ?_
 intro w3 g3 hE hg3 hB3
 have hG3:=Nat.le_trans hX.size hg3; have hN3_1 : g3 ≠ g1:=Nat.ne_of_gt (Nat.lt_of_lt_of_le hB1.lt hg3); have hN3_2 : g3 ≠ g2:=Nat.ne_of_gt (Nat.lt_of_lt_of_le hB2.lt hg3)
 replace hB1:=hB1.ext hE; replace hB2:=hB2.ext hE; replace hX:=hX.trans hE
 clear hE hg3
 simp only [ev,zD,zE,zF,zG]
 refine n_alloc zero_32 rfl ?_
 intro w4 g4 hE hg4 hB4
 have hG4:=Nat.le_trans hX.size hg4; have hN4_1 : g4 ≠ g1:=Nat.ne_of_gt (Nat.lt_of_lt_of_le hB1.lt hg4); have hN4_2 : g4 ≠ g2:=Nat.ne_of_gt (Nat.lt_of_lt_of_le hB2.lt hg4); have hN4_3 : g4 ≠ g3:=Nat.ne_of_gt (Nat.lt_of_lt_of_le hB3.lt hg4)
 replace hB1:=hB1.ext hE; replace hB2:=hB2.ext hE; replace hB3:=hB3.ext hE; replace hX:=hX.trans hE
 clear hE hg4
 simp only [ev,zD,zE,zF,zG]
 refine n_val (r_assign) ?_
 simp only [ev,zD,zE,zF,zG]
 refine n_nil ?_
 refine hK1 _ _ ?_
 refine c_seq (fun K2 hK2=>wp_region_lit ?_)
 refine n_load rfl (hB2.lies agg_32 cells_32 rfl rfl) ?_
 simp only [ev,zD,zE,zF,zG]
 refine n_call rfl rfl (abs_c _ (wmag_size hb)) ?_
 rintro v w5 hE ⟨A1,c1,rfl,hN1⟩
 replace hB1:=hB1.ext hE; replace hB2:=hB2.ext hE; replace hB3:=hB3.ext hE; replace hB4:=hB4.ext hE; replace hX:=hX.trans hE
 clear hE
 rw [sval_wmag] at hN1 ⊢
 simp only [ev,zD,zE,zF,zG]
 refine n_val (r_assign) ?_
 simp only [ev,zD,zE,zF,zG]
 refine n_nil ?_
 refine hK2 _ _ ?_
 refine c_seq (fun K3 hK3=>c_seq (fun K4 hK4=>wp_region_lit (n_val (r_move) (n_val (r_lenS rfl Tryz.underlying83 rfl) (n_val (r_eqlF rfl rfl (fun e=>h0 (nil_iff.1 e))) ?_)))))
 simp only [ev,zD,zE,zF,zG]
 refine n_nil ?_
 refine hK4 _ _ ?_
 refine c_no rfl (wp_skip ?_)
 refine hK3 _ _ ?_
 refine c_seq (fun K5 hK5=>wp_region_lit ?_)
 refine n_load rfl (hB1.lies agg_32 cells_32 rfl rfl) ?_
 simp only [ev,zD,zE,zF,zG]
 refine n_call rfl rfl (abs_c _ (wmag_size ha)) ?_
 rintro v w6 hE ⟨A2,c2,rfl,hN2⟩
 replace hB1:=hB1.ext hE; replace hB2:=hB2.ext hE; replace hB3:=hB3.ext hE; replace hB4:=hB4.ext hE; (try replace hN1:=hN1.ext hE); replace hX:=hX.trans hE
 clear hE
 rw [sval_wmag] at hN2 ⊢
 simp only [ev,zD,zE,zF,zG]
 refine n_val (r_move) ?_
 simp only [ev,zD,zE,zF,zG]
 refine n_call rfl rfl (div_c _ hN2 hN1 (trimmed_digs32 _) (trimmed_digs32 _) (by rw [val_digs32]; omega) (Nat.le_trans hla (by decide)) (Nat.le_trans hlb (by decide))) ?_
 rintro v w7 hE ⟨_,_,rfl,⟨A3,c3,rfl,hN3⟩,⟨A4,c4,rfl,hN4⟩⟩
 replace hB1:=hB1.ext hE; replace hB2:=hB2.ext hE; replace hB3:=hB3.ext hE; replace hB4:=hB4.ext hE; (try replace hN1:=hN1.ext hE); (try replace hN2:=hN2.ext hE); replace hX:=hX.trans hE
 clear hE
 simp only [val_digs32] at hN3 hN4 ⊢
 simp only [ev,zD,zE,zF,zG]
 refine n_val (r_move) (n_val (r_extract rfl rfl) (n_val (r_extract rfl rfl) ?_))
 simp only [ev,zD,zE,zF,zG]
 refine n_val (r_assign) (n_val (r_assign) ?_)
 simp only [ev,zD,zE,zF,zG]
 refine n_nil ?_
 refine hK5 _ _ ?_
 refine c_seq (fun K6 hK6=>?_)
 refine wp_region_held' [(0,true),(1,true),(3,true),(7,true),(8,true),(2,true),(4,true),(5,true),(9,true),(6,false),(10,false),(11,false),(12,false),(13,true)] follows_mixed (by kernel_rfl) (panic_put (fun _ _ _ _ _ h=>h)) (ol:=?_) ?hol ?_
 case hol=>simp only [zQ,zR,zS,zT,zU,zV]; try rfl
 intro w8 hE
 replace hB1:=hB1.ext hE; replace hB2:=hB2.ext hE; replace hB3:=hB3.ext hE; replace hB4:=hB4.ext hE; (try replace hN1:=hN1.ext hE); (try replace hN2:=hN2.ext hE); (try replace hN3:=hN3.ext hE); (try replace hN4:=hN4.ext hE); replace hX:=hX.trans hE
 clear hE
 refine ⟨_,(Hold.blk hB1 (Hold.blk hB2 Hold.nil)),?_⟩
 refine h_val (r_move) (h_val (r_fieldAddr (c:=0) Tryz.underlying32 rfl cells_4 rfl rfl) (h_val (r_fieldAddr (c:=0) Tryz.underlying32 rfl cells_4 rfl rfl) ?_))
 simp only [ev,zD,zE,zF,zG]
 refine h_val (r_move) (h_val (r_fieldAddr (c:=0) Tryz.underlying32 rfl cells_4 rfl rfl) ?_)
 simp only [ev,zD,zE,zF,zG]
 refine h_load rfl (fun _ ⟨hB1,hB2,_⟩=>(hB1.lies1 agg_4 rfl)) ?_
 simp only [ev,zD,zE,zF,zG]
 refine h_load rfl (fun _ ⟨hB1,hB2,_⟩=>(hB2.lies1 agg_4 rfl)) ?_
 simp only [ev,zD,zE,zF,zG]
 refine h_val (r_neqB Tryz.underlying4 rfl rfl) ?_
 simp only [ev,zD,zE,zF,zG]
 refine h_load rfl (fun _ ⟨hB1,hB2,_⟩=>(hB1.lies1 agg_4 rfl)) ?_
 simp only [ev,zD,zE,zF,zG]
 refine h_step ?_
 refine n_call rfl rfl (wide_c _ hN3 (Nat.le_trans hq (by decide))) ?_
 rintro v w9 hE rfl
 replace hB1:=hB1.ext hE; replace hB2:=hB2.ext hE; replace hB3:=hB3.ext hE; replace hB4:=hB4.ext hE; (try replace hN1:=hN1.ext hE); (try replace hN2:=hN2.ext hE); (try replace hN3:=hN3.ext hE); (try replace hN4:=hN4.ext hE); replace hX:=hX.trans hE
 clear hE
 simp only [val_digs32,sgn_quo]
 simp only [ev,zD,zE,zF,zG]
 refine n_nil ?_
 refine ⟨⟨hB1,hB2,trivial⟩,?_⟩
 refine h_step ?_
 refine n_call rfl rfl (wide_c _ hN4 (Nat.le_trans hr (by decide))) ?_
 rintro v w10 hE rfl
 replace hB1:=hB1.ext hE; replace hB2:=hB2.ext hE; replace hB3:=hB3.ext hE; replace hB4:=hB4.ext hE; (try replace hN1:=hN1.ext hE); (try replace hN2:=hN2.ext hE); (try replace hN3:=hN3.ext hE); (try replace hN4:=hN4.ext hE); replace hX:=hX.trans hE
 clear hE
 simp only [val_digs32,sgn_rem]
 simp only [ev,zD,zE,zF,zG]
 refine n_nil ?_
 refine ⟨⟨hB1,hB2,trivial⟩,?_⟩
 refine h_step ?_
 refine n_store rfl (by simp only [ev,zD,zE]; rfl) (by exact cells_32) hB3 (by simp) (by simp [Value.oneCell']) ?_
 clear hB3; intro w11 hC hB3
 replace hB1:=hB1.chg hC (by first | exact hN1_3 | exact Ne.symm hN3_1); replace hB2:=hB2.chg hC (by first | exact hN2_3 | exact Ne.symm hN3_2); replace hB4:=hB4.chg hC (by first | exact hN4_3 | exact Ne.symm hN3_4); (try replace hN1:=hN1.chg hC (by first | assumption | rfl)); (try replace hN2:=hN2.chg hC (by first | assumption | rfl)); (try replace hN3:=hN3.chg hC (by first | assumption | rfl)); (try replace hN4:=hN4.chg hC (by first | assumption | rfl)); replace hX:=hX.chg hC hG3
 clear hC
 simp only [over,zH,zI,zJ,zK,zL,zM,zN,zO,zP,Nat.reduceAdd] at hB3
 refine n_nil ?_
 refine ⟨⟨hB1,hB2,trivial⟩,?_⟩
 refine h_step ?_
 refine n_store rfl (by simp only [ev,zD,zE]; rfl) (by exact cells_32) hB4 (by simp) (by simp [Value.oneCell']) ?_
 clear hB4; intro w12 hC hB4
 replace hB1:=hB1.chg hC (by first | exact hN1_4 | exact Ne.symm hN4_1); replace hB2:=hB2.chg hC (by first | exact hN2_4 | exact Ne.symm hN4_2); replace hB3:=hB3.chg hC (by first | exact hN3_4 | exact Ne.symm hN4_3); (try replace hN1:=hN1.chg hC (by first | assumption | rfl)); (try replace hN2:=hN2.chg hC (by first | assumption | rfl)); (try replace hN3:=hN3.chg hC (by first | assumption | rfl)); (try replace hN4:=hN4.chg hC (by first | assumption | rfl)); replace hX:=hX.chg hC hG4
 clear hC
 simp only [over,zH,zI,zJ,zK,zL,zM,zN,zO,zP,Nat.reduceAdd] at hB4
 refine n_nil ?_
 refine ⟨⟨hB1,hB2,trivial⟩,?_⟩
 refine h_val (r_assign) ?_
 simp only [ev,zD,zE,zF,zG]
 refine h_nil ?_
 refine hK6 _ _ ?_
 refine wp_ret ?_
 try simp only [Exit.inBlock,Exit.then]
 refine fin3 rfl ⟨_,rfl,(hB3.lies agg_32 cells_32 rfl rfl)⟩ ⟨_,rfl,(hB4.lies agg_32 cells_32 rfl rfl)⟩ rfl ?_
 try simp only [zD,zE]
 exact ⟨_,rfl,hX,rfl⟩
theorem Gcd_c {a b : Int} (ha : Bd 1000000 a) (hb : Bd 1000000 b) : Pure Tryz.prog 129 [W a,W b] (W (Int.gcd a b : Int)):=by
 intro w
 refine ⟨en_129,?_⟩
 have hX:=Ext.refl w
 obtain ⟨K,hK⟩ : ∃ K,K = 2 ^ 1000000:=⟨_,rfl⟩
 have ha' : a.natAbs < K:=by rw [hK]; exact ha
 have hb' : b.natAbs < K:=by rw [hK]; exact hb
 have hlen : ∀ V : Nat,V < K → (digs 4294967296 V).length ≤ 1000000:=fun V h=>length_digs_bd (by rw [← hK]; exact h)
 clear hK
 go_enter Tryz.func129,Tryz.ntmps129
 refine c_seq (fun K1 hK1=>wp_region_lit ?_)
 refine n_box (by simp only [ev,zD,zE]; rfl) ?_
 intro w1 g1 hE hg1 hB1
 have hG1:=Nat.le_trans hX.size hg1
 replace hX:=hX.trans hE
 clear hE hg1
 simp only [ev,zD,zE,zF,zG]
 refine n_box (by simp only [ev,zD,zE]; rfl) ?_
 intro w2 g2 hE hg2 hB2
 have hG2:=Nat.le_trans hX.size hg2; have hN2_1 : g2 ≠ g1:=Nat.ne_of_gt (Nat.lt_of_lt_of_le hB1.lt hg2)
 replace hB1:=hB1.ext hE; replace hX:=hX.trans hE
 clear hE hg2
 simp only [ev,zD,zE,zF,zG]
 refine n_alloc zero_32 rfl ?_
 intro w3 g3 hE hg3 hB3
 have hG3:=Nat.le_trans hX.size hg3; have hN3_1 : g3 ≠ g1:=Nat.ne_of_gt (Nat.lt_of_lt_of_le hB1.lt hg3); have hN3_2 : g3 ≠ g2:=Nat.ne_of_gt (Nat.lt_of_lt_of_le hB2.lt hg3)
 replace hB1:=hB1.ext hE; replace hB2:=hB2.ext hE; replace hX:=hX.trans hE
 clear hE hg3
 simp only [ev,zD,zE,zF,zG]
 refine n_nil ?_
 refine hK1 _ _ ?_
 refine c_seq (fun K2 hK2=>?_)
 refine wp_region_held' [(0,true),(2,true),(1,false),(3,false),(4,true),(5,true)] follows_mixed (by kernel_rfl) (panic_put (fun _ _ _ _ _ h=>h)) (ol:=?_) ?hol ?_
 case hol=>simp only [zQ,zR,zS,zT,zU,zV]; try rfl
 intro w4 hE
 replace hB1:=hB1.ext hE; replace hB2:=hB2.ext hE; replace hB3:=hB3.ext hE; replace hX:=hX.trans hE
 clear hE
 refine ⟨_,(Hold.blk hB1 (Hold.blk hB2 Hold.nil)),?_⟩
 refine h_load rfl (fun _ ⟨hB1,hB2,_⟩=>(hB1.lies agg_32 cells_32 rfl rfl)) ?_
 simp only [ev,zD,zE,zF,zG]
 refine h_load rfl (fun _ ⟨hB1,hB2,_⟩=>(hB2.lies agg_32 cells_32 rfl rfl)) ?_
 simp only [ev,zD,zE,zF,zG]
 refine h_step ?_
 refine n_call rfl rfl (abs_c _ (wmag_size ha)) ?_
 rintro v w5 hE ⟨A1,c1,rfl,hN1⟩
 replace hB1:=hB1.ext hE; replace hB2:=hB2.ext hE; replace hB3:=hB3.ext hE; replace hX:=hX.trans hE
 clear hE
 rw [sval_wmag] at hN1 ⊢
 simp only [ev,zD,zE,zF,zG]
 refine n_nil ?_
 refine ⟨⟨hB1,hB2,trivial⟩,?_⟩
 refine h_step ?_
 refine n_call rfl rfl (abs_c _ (wmag_size hb)) ?_
 rintro v w6 hE ⟨A2,c2,rfl,hN2⟩
 replace hB1:=hB1.ext hE; replace hB2:=hB2.ext hE; replace hB3:=hB3.ext hE; (try replace hN1:=hN1.ext hE); replace hX:=hX.trans hE
 clear hE
 rw [sval_wmag] at hN2 ⊢
 simp only [ev,zD,zE,zF,zG]
 refine n_nil ?_
 refine ⟨⟨hB1,hB2,trivial⟩,?_⟩
 refine h_val (r_assign) (h_val (r_assign) ?_)
 simp only [ev,zD,zE,zF,zG]
 refine h_nil ?_
 refine hK2 _ _ ?_
 refine c_seq (fun K3 hK3=>wp_block ?_)
 refine c_loopg [5,6] [7,8,13,14,15,16,17,18,19,20,21,22,23] (fun n vs wl=>∃ (X Y : Nat) (A1 A2 : Option Addr) (c1 c2 : Nat),vs = [.slice A1 (digs 4294967296 X).length c1,.slice A2 (digs 4294967296 Y).length c2] ∧ (Ext w wl) ∧ (Blk wl g3 [.bool false,.string ⟨#[]⟩] 32) ∧ (NatAt wl A1 (digs 4294967296 X).length c1 (digs 4294967296 X)) ∧ (NatAt wl A2 (digs 4294967296 Y).length c2 (digs 4294967296 Y)) ∧ (Nat.gcd X Y = Int.gcd a b) ∧ (X < K) ∧ (Y < K) ∧ (n = Y)) ?_ ?_
 ·
  apply Exists.intro
  simp only [zQ,zR,zD,zE]
  exact ⟨a.natAbs,b.natAbs,A1,A2,c1,c2,rfl,hX,hB3,hN1,hN2,rfl,ha',hb',rfl⟩
 ·
  intro n vs wr hI u
  obtain ⟨X,Y,A1,A2,c1,c2,rfl,hX,hB3,hN1,hN2,hg,hXK,hYK,hn⟩:=hI
  simp only [setG_cons,setG_nil,setMany_cons,setMany_nil,zF,zG]
  refine c_seq (fun K4 hK4=>c_seq (fun K5 hK5=>wp_region_lit (n_val (r_move) (n_val (r_lenS rfl Tryz.underlying83 rfl) (n_val (r_gtr rfl rfl) ?_)))))
  simp only [ev,zD,zE,zF,zG]
  refine n_nil ?_
  refine hK5 _ _ ?_
  refine c_if rfl (fun hc1=>?_) (fun hc1=>?_)
  ·
   have hY0 : 0 < Y:=by
    rcases Nat.eq_zero_or_pos Y with h | h
    · subst h; exact absurd hc1 (by decide)
    · exact h
   refine wp_skip ?_
   refine hK4 _ _ ?_
   refine wp_block (c_seq (fun K6 hK6=>wp_region_lit (n_val (r_move) (n_val (r_move) ?_))))
   simp only [ev,zD,zE,zF,zG]
   refine n_call rfl rfl (div_c _ hN1 hN2 (trimmed_digs32 _) (trimmed_digs32 _) (by rw [val_digs32]; exact hY0) (Nat.le_trans (hlen _ hXK) (by decide)) (Nat.le_trans (hlen _ hYK) (by decide))) ?_
   rintro v w7 hE ⟨_,_,rfl,⟨A3,c3,rfl,hN3⟩,⟨A4,c4,rfl,hN4⟩⟩
   replace hB3:=hB3.ext hE; (try replace hN1:=hN1.ext hE); (try replace hN2:=hN2.ext hE); replace hX:=hX.trans hE
   clear hE
   simp only [val_digs32] at hN3 hN4 ⊢
   simp only [ev,zD,zE,zF,zG]
   refine n_val (r_move) (n_val (r_extract rfl rfl) (n_val (r_extract rfl rfl) ?_))
   simp only [ev,zD,zE,zF,zG]
   refine n_val (r_assign) (n_val (r_assign) ?_)
   simp only [ev,zD,zE,zF,zG]
   refine n_nil ?_
   refine hK6 _ _ ?_
   refine wp_region_lit (n_val (r_move) (n_val (r_move) (n_val (r_assign) ?_)))
   simp only [ev,zD,zE,zF,zG]
   refine n_val (r_assign) ?_
   simp only [ev,zD,zE,zF,zG]
   refine n_nil ?_
   simp only [Exit.inBlock,Exit.then]
   refine ⟨X % Y,_,?_,rfl,?_,?_⟩
   · rw [hn]; exact Nat.mod_lt _ hY0
   · simp only [zQ,zR,zD,zE,setG_cons,setG_nil,setMany_cons,setMany_nil,zF,zG]
   ·
    simp only [zQ,zR,zD,zE]
    exact ⟨Y,X % Y,A2,A4,c2,c4,rfl,hX,hB3,hN2,hN4,gcd_step.trans hg,hYK,Nat.lt_of_le_of_lt (Nat.mod_le _ _) hXK,rfl⟩
  ·
   obtain rfl : Y = 0:=(digs_eq_nil (B:=4294967296) (by omega)).1 (List.eq_nil_of_length_eq_zero (by omega))
   rw [Nat.gcd_zero_right] at hg
   subst hg
   refine wp_exit ?_
   refine hK3 _ _ ?_
   refine c_seq (fun K7 hK7=>wp_region_lit (n_val (r_move) ?_))
   simp only [ev,zD,zE,zF,zG]
   refine n_call rfl rfl (wide_c _ hN1 (Nat.le_trans (hlen _ hXK) (by decide))) ?_
   rintro v w7 hE rfl
   replace hB3:=hB3.ext hE; (try replace hN1:=hN1.ext hE); (try replace hN2:=hN2.ext hE); replace hX:=hX.trans hE
   clear hE
   simp only [val_digs32]
   simp only [ev,zD,zE,zF,zG]
   refine n_store rfl (by simp only [ev,zD,zE]; rfl) (by exact cells_32) hB3 (by simp) (by simp [Value.oneCell']) ?_
   clear hB3; intro w8 hC hB3
   (try replace hN1:=hN1.chg hC (by first | assumption | rfl)); (try replace hN2:=hN2.chg hC (by first | assumption | rfl)); replace hX:=hX.chg hC hG3
   clear hC
   simp only [over,zH,zI,zJ,zK,zL,zM,zN,zO,zP,Nat.reduceAdd] at hB3
   refine n_nil ?_
   refine hK7 _ _ ?_
   refine wp_ret ?_
   try simp only [Exit.inBlock,Exit.then]
   refine fin1 rfl ⟨_,rfl,(hB3.lies agg_32 cells_32 rfl rfl)⟩ ?_
   try simp only [zD,zE]
   exact ⟨_,rfl,hX,by rw [sgn_false]; rfl⟩
end Go.Proofs.YtmcgcnpgkkfkoaaGreatDoor
namespace Go.Proofs.YtmcgcnpgkkfkoaaGreatDoor
open Go.RowKit Go.Lith
set_option maxRecDepth 100000
attribute [local irreducible] wpList wpQuiet wpMix Code.wp
theorem len_sum32 {K n R Y M : Nat} (hM : M = 4294967296 ^ (K + 1)) (hRM : R < M) (hy : Y < 4294967296 ^ n) : (digs 4294967296 (R + Y)).length ≤ K + 1 + n + 1:=length_digs_le (by omega) (sum_lt (hM ▸ hRM) hy)
theorem Root_c {a : Int} (ha : Bd 1000000 a) (h0 : 0 ≤ a) : Pure Tryz.prog 49 [W a] (.tuple #[W (isqrt a.natAbs : Int),.bool true]):=by
 intro w
 refine ⟨en_49,?_⟩
 have hX:=Ext.refl w
 have hla:=len_bd ha
 obtain ⟨X,hXa⟩ : ∃ X,X = a.natAbs:=⟨_,rfl⟩
 obtain ⟨K,hK⟩ : ∃ K,K = ((digs 4294967296 X).length + 1) / 2:=⟨_,rfl⟩
 rw [← hXa] at hla
 obtain ⟨M,hM⟩ : ∃ M,M = 4294967296 ^ (K + 1):=⟨_,rfl⟩
 have hlen : ∀ V : Nat,V < M → (digs 4294967296 V).length ≤ 1000001:=fun V h=>Nat.le_trans (length_digs_le (by omega) (by rw [← hM]; exact h)) (by omega)
 have hXd : X < 4294967296 ^ (digs 4294967296 X).length:=by have:=val_lt (digs_digs32 X); rwa [val_digs32] at this
 have hst:=root_start hXd
 rw [← hK] at hst
 have hMK : 4294967296 ^ K < M:=by rw [hM]; exact Nat.pow_lt_pow_right (by omega) (by omega)
 have hp0 : 0 < 4294967296 ^ K:=Nat.pow_pos (by omega)
 obtain ⟨R0,hR0⟩ : ∃ R0,R0 = 4294967296 ^ K:=⟨_,rfl⟩
 rw [← hR0] at hst hMK hp0
 rw [← hXa]
 go_enter Tryz.func49,Tryz.ntmps49
 refine c_seq (fun K1 hK1=>wp_region_lit ?_)
 refine n_box (by simp only [ev,zD,zE]; rfl) ?_
 intro w1 g1 hE hg1 hB1
 have hG1:=Nat.le_trans hX.size hg1
 replace hX:=hX.trans hE
 clear hE
 simp only [ev,zD,zE,zF,zG]
 refine n_alloc zero_32 rfl ?_
 intro w2 g2 hE hg2 hB2
 have hG2:=Nat.le_trans hX.size hg2; have hN2_1 : g2 ≠ g1:=Nat.ne_of_gt (Nat.lt_of_lt_of_le hB1.lt hg2); have hL2_1:=Nat.lt_of_lt_of_le hB1.lt hg2
 replace hB1:=hB1.ext hE; replace hX:=hX.trans hE
 clear hE
 simp only [ev,zD,zE,zF,zG]
 refine n_val (r_assign) ?_
 simp only [ev,zD,zE,zF,zG]
 refine n_nil ?_
 refine hK1 _ _ ?_
 refine c_seq (fun K2 hK2=>wp_region_lit ?_)
 refine n_load rfl (hB1.lies agg_32 cells_32 rfl rfl) ?_
 simp only [ev,zD,zE,zF,zG]
 refine n_call rfl rfl (abs_c _ (wmag_size ha)) ?_
 rintro v w3 hE ⟨A1,c1,rfl,hN1⟩
 replace hB1:=hB1.ext hE; replace hB2:=hB2.ext hE; replace hX:=hX.trans hE
 clear hE
 rw [sval_wmag,← hXa] at hN1 ⊢
 simp only [ev,zD,zE,zF,zG]
 refine n_val (r_assign) ?_
 simp only [ev,zD,zE,zF,zG]
 refine n_nil ?_
 refine hK2 _ _ ?_
 refine c_seq (fun K3 hK3=>c_seq (fun K4 hK4=>?_))
 rcases Nat.eq_zero_or_pos X with hX0 | hX0
 ·
  subst hX0
  refine wp_region_lit (n_val (r_move) (n_val (r_lenS rfl Tryz.underlying83 rfl) (n_val (r_eqlT rfl rfl (by rfl)) ?_)))
  simp only [ev,zD,zE,zF,zG]
  refine n_nil ?_
  refine hK4 _ _ ?_
  refine c_yes rfl (c_seq (fun K5 hK5=>wp_region_lit (n_val (r_build_32_) ?_)))
  simp only [ev,zD,zE,zF,zG]
  refine n_store rfl (by simp only [ev,zD,zE]; rfl) (by exact cells_32) hB2 (by simp) (by simp [Value.oneCell']) ?_
  clear hB2; intro w4 hC hB2
  replace hB1:=hB1.chg hC (by first | exact hN1_2 | exact Ne.symm hN2_1); (try replace hN1:=hN1.chg hC (by first | assumption | rfl)); replace hX:=hX.chg hC hG2
  clear hC
  simp only [over,zH,zI,zJ,zK,zL,zM,zN,zO,zP,Nat.reduceAdd] at hB2
  refine n_val (r_assign) ?_
  simp only [ev,zD,zE,zF,zG]
  refine n_nil ?_
  refine hK5 _ _ ?_
  refine wp_ret ?_
  try simp only [Exit.inBlock,Exit.then]
  refine fin2 rfl ⟨_,rfl,(hB2.lies agg_32 cells_32 rfl rfl)⟩ rfl ?_
  try simp only [zD,zE]
  exact ⟨_,rfl,hX,rfl⟩
 ·
  refine wp_region_lit (n_val (r_move) (n_val (r_lenS rfl Tryz.underlying83 rfl) (n_val (r_eqlF rfl rfl (fun e=>by have h1:=(digs_eq_nil (B:=4294967296) (by omega)).1 (List.eq_nil_of_length_eq_zero (show (digs 4294967296 X).length = 0 by omega)); omega)) ?_)))
  simp only [ev,zD,zE,zF,zG]
  refine n_nil ?_
  refine hK4 _ _ ?_
  refine c_no rfl (wp_skip ?_)
  refine hK3 _ _ ?_
  refine c_seq (fun K6 hK6=>c_seq (fun K7 hK7=>wp_region_lit (n_val (r_fieldAddr (c:=0) Tryz.underlying32 rfl cells_4 rfl rfl) ?_)))
  simp only [ev,zD,zE,zF,zG]
  refine n_load rfl (hB1.lies1 agg_4 rfl) ?_
  simp only [ev,zD,zE,zF,zG]
  refine n_nil ?_
  refine hK7 _ _ ?_
  refine c_cond rfl (fun hc2=>?_) (fun hc2=>?_)
  ·
   exact absurd (wneg_true hc2) (by omega)
  ·
   refine wp_skip ?_
   refine hK6 _ _ ?_
   refine c_seq (fun K8 hK8=>wp_region_lit (n_val (r_move) (n_val (r_lenS rfl Tryz.underlying83 rfl) (n_val (r_add rfl rfl (wrap_i64 (by omega) (by omega))) ?_))))
   simp only [ev,zD,zE,zF,zG]
   refine n_val (r_quo rfl rfl (by omega) ((quo_i64 (m:=(digs 4294967296 X).length + 1) (n:=2) (by omega)).trans (congrArg (fun q : Nat=>(q : Int)) hK.symm))) ?_
   simp only [ev,zD,zE,zF,zG]
   have hN0:=hN1
   have hE0:=Ext.refl_of hB1
   refine n_make1 Tryz.underlying83 inf_88 rfl rfl rfl (show _ = K by omega) (show _ = K by omega) (by omega) (by omega) (by omega) (by omega) ?_
   intro w4 g3 hE hg3 hB3
   have hG3:=Nat.le_trans hX.size hg3; have hN3_1 : g3 ≠ g1:=Nat.ne_of_gt (Nat.lt_of_lt_of_le hB1.lt hg3); have hN3_2 : g3 ≠ g2:=Nat.ne_of_gt (Nat.lt_of_lt_of_le hB2.lt hg3); have hL3_1:=Nat.lt_of_lt_of_le hB1.lt hg3; have hL3_2:=Nat.lt_of_lt_of_le hB2.lt hg3
   replace hB1:=hB1.ext hE; replace hB2:=hB2.ext hE; (try replace hN1:=hN1.ext hE); (try replace hE0:=hE0.ext hE); replace hX:=hX.trans hE
   clear hE
   simp only [ev,zD,zE,zF,zG]
   refine n_build1 Tryz.underlying83 (z:=.int .u64 0) (by kernel_rfl) rfl (by simp only [ev,zD,zE,zF,zG]; rfl) (by rfl) ?_
   intro w5 g4 hE hg4 hB4
   have hG4:=Nat.le_trans hX.size hg4; have hN4_1 : g4 ≠ g1:=Nat.ne_of_gt (Nat.lt_of_lt_of_le hB1.lt hg4); have hN4_2 : g4 ≠ g2:=Nat.ne_of_gt (Nat.lt_of_lt_of_le hB2.lt hg4); have hN4_3 : g4 ≠ g3:=Nat.ne_of_gt (Nat.lt_of_lt_of_le hB3.lt hg4); have hL4_1:=Nat.lt_of_lt_of_le hB1.lt hg4; have hL4_2:=Nat.lt_of_lt_of_le hB2.lt hg4; have hL4_3:=Nat.lt_of_lt_of_le hB3.lt hg4
   replace hB1:=hB1.ext hE; replace hB2:=hB2.ext hE; replace hB3:=hB3.ext hE; (try replace hN1:=hN1.ext hE); (try replace hE0:=hE0.ext hE); replace hX:=hX.trans hE
   clear hE
   simp only [ev,zD,zE,zF,zG]
   refine n_append rfl Tryz.underlying83 inf_88 rfl (by decide) rfl (Owns.full (base:=g3) hB3 (Nat.le_refl _) (by simp) (by omega)) rfl (news:=[u64v 1]) rfl (hB4.row 0) (by simp [Value.oneCell']) (by omega) (by omega) (Nat.le_of_lt hB3.lt) ?_
   intro v1 w9 hO hGr _
   replace hX:=hX.grown hGr hG3
   replace hB1:=hB1.grew hGr hL3_1
   replace hB2:=hB2.grew hGr hL3_2
   replace hN1:=hN0.grew hE0 hGr hg3
   obtain ⟨A5,c5,rfl,hN5⟩:=NatAt.of_owns (xs:=List.replicate K 0 ++ [1]) (by have h:=hO; rw [replicate_u64] at h; rw [List.map_append]; exact h) (by simp) (by rw [zeros_one]; exact digs_digs32 _) (by omega)
   rw [zeros_one,← hR0] at hN5
   have hl5:=hN5.eq
   rw [hl5] at hN5 ⊢
   clear hB3 hB4
   simp only [ev,zD,zE,zF,zG]
   refine n_val (r_assign) ?_
   simp only [ev,zD,zE,zF,zG]
   refine n_nil ?_
   refine hK8 _ _ ?_
   refine wp_block ?_
   refine c_loopg [5] [3,6,7,8,9,26,27,28,29,30,31,32,33,34,35,36,37,38,39,40,41,42,43,44,45] (fun n vs wl=>∃ (R : Nat) (A5 : Option Addr) (c5 : Nat),vs = [.slice A5 (digs 4294967296 R).length c5] ∧ (Ext w wl) ∧ (Blk wl g2 [.bool false,.string ⟨#[]⟩] 32) ∧ (NatAt wl A1 (digs 4294967296 X).length c1 (digs 4294967296 X)) ∧ (NatAt wl A5 (digs 4294967296 R).length c5 (digs 4294967296 R)) ∧ (0 < R) ∧ (X < (R + 1) * (R + 1)) ∧ (R < M) ∧ (n = R)) ?_ ?_
   ·
    apply Exists.intro
    simp only [zQ,zR,zD,zE]
    exact ⟨R0,A5,c5,rfl,hX,hB2,hN1,hN5,hp0,hst,hMK,rfl⟩
   ·
    intro n vs wr hI u
    obtain ⟨R,A5,c5,rfl,hX,hB2,hN1,hN5,hp1,hRx,hRM,hn⟩:=hI
    simp only [setG_cons,setG_nil,setMany_cons,setMany_nil,zF,zG]
    refine wp_block (c_seq (fun K9 hK9=>wp_region_lit (n_val (r_move) (n_val (r_move) ?_))))
    simp only [ev,zD,zE,zF,zG]
    refine n_call rfl rfl (div_c _ hN1 hN5 (trimmed_digs32 _) (trimmed_digs32 _) (by rw [val_digs32]; exact hp1) (by omega) (Nat.le_trans (hlen _ hRM) (by decide))) ?_
    rintro v w6 hE ⟨_,_,rfl,⟨A3,c3,rfl,hN3⟩,⟨A4,c4,rfl,hN4⟩⟩
    replace hB2:=hB2.ext hE; (try replace hN1:=hN1.ext hE); (try replace hN5:=hN5.ext hE); replace hX:=hX.trans hE
    clear hE
    simp only [val_digs32] at hN3 hN4 ⊢
    have hl3:=lt_len (Nat.div_le_self X R)
    simp only [ev,zD,zE,zF,zG]
    refine n_val (r_move) (n_val (r_extract rfl rfl) (n_val (r_extract rfl rfl) ?_))
    simp only [ev,zD,zE,zF,zG]
    refine n_val (r_assign) (n_val (r_assign) ?_)
    simp only [ev,zD,zE,zF,zG]
    refine n_nil ?_
    refine hK9 _ _ ?_
    refine c_seq (fun K10 hK10=>wp_region_lit (n_val (r_move) (n_val (r_move) ?_)))
    simp only [ev,zD,zE,zF,zG]
    refine n_call rfl rfl (add_c _ hN5 hN3 (Nat.le_trans (hlen _ hRM) (by decide)) (by omega)) ?_
    rintro v w7 hE ⟨A6,c6,rfl,hN6⟩
    replace hB2:=hB2.ext hE; (try replace hN1:=hN1.ext hE); (try replace hN5:=hN5.ext hE); (try replace hN3:=hN3.ext hE); (try replace hN4:=hN4.ext hE); replace hX:=hX.trans hE
    clear hE
    simp only [val_digs32] at hN6 ⊢
    simp only [ev,zD,zE,zF,zG]
    have hl6 : (digs 4294967296 (R + X / R)).length ≤ 1099511627776:=by
      have h1:=val_lt (digs_digs32 X)
      rw [val_digs32] at h1
      have h2 : X / R ≤ X:=Nat.div_le_self _ _
      exact Nat.le_trans (len_sum32 hM hRM (Nat.lt_of_le_of_lt h2 h1)) (by omega)
    refine n_call rfl rfl (small_c (d:=2) _ hN6 hl6 (by omega) (by omega)) ?_
    rintro v w8 hE ⟨q,rfl,A7,c7,rfl,hN7⟩
    replace hB2:=hB2.ext hE; (try replace hN1:=hN1.ext hE); (try replace hN5:=hN5.ext hE); (try replace hN3:=hN3.ext hE); (try replace hN4:=hN4.ext hE); (try replace hN6:=hN6.ext hE); replace hX:=hX.trans hE
    clear hE
    simp only [val_digs32] at hN7 ⊢
    simp only [ev,zD,zE,zF,zG]
    refine n_val (r_move) (n_val (r_extract rfl rfl) (n_val (r_extract rfl rfl) ?_))
    simp only [ev,zD,zE,zF,zG]
    refine n_val (r_assign) (n_val (r_assign) ?_)
    simp only [ev,zD,zE,zF,zG]
    refine n_nil ?_
    refine hK10 _ _ ?_
    refine c_seq (fun K11 hK11=>c_seq (fun K12 hK12=>wp_region_lit (n_val (r_move) (n_val (r_move) ?_))))
    simp only [ev,zD,zE,zF,zG]
    refine n_call rfl rfl (cmp_c _ hN7 hN5 (trimmed_digs32 _) (trimmed_digs32 _)) ?_
    rintro v w9 hE rfl
    replace hB2:=hB2.ext hE; (try replace hN1:=hN1.ext hE); (try replace hN5:=hN5.ext hE); (try replace hN3:=hN3.ext hE); (try replace hN4:=hN4.ext hE); (try replace hN6:=hN6.ext hE); (try replace hN7:=hN7.ext hE); replace hX:=hX.trans hE
    clear hE
    simp only [val_digs32]
    simp only [ev,zD,zE,zF,zG]
    refine n_val (r_geq rfl rfl) ?_
    simp only [ev,zD,zE,zF,zG]
    refine n_nil ?_
    refine hK12 _ _ ?_
    refine c_if rfl (fun hc3=>?_) (fun hc3=>?_)
    ·
     have hge:=ord_ge_iff.1 hc3
     have hres:=root_done hp1 hRx hge
     refine c_seq (fun K13 hK13=>wp_region_lit (n_val (r_move) ?_))
     simp only [ev,zD,zE,zF,zG]
     refine n_call rfl rfl (wide_c _ hN5 (Nat.le_trans (hlen _ hRM) (by decide))) ?_
     rintro v w10 hE rfl
     replace hB2:=hB2.ext hE; (try replace hN1:=hN1.ext hE); (try replace hN5:=hN5.ext hE); (try replace hN3:=hN3.ext hE); (try replace hN4:=hN4.ext hE); (try replace hN6:=hN6.ext hE); (try replace hN7:=hN7.ext hE); replace hX:=hX.trans hE
     clear hE
     simp only [val_digs32]
     simp only [ev,zD,zE,zF,zG]
     refine n_store rfl (by simp only [ev,zD,zE]; rfl) (by exact cells_32) hB2 (by simp) (by simp [Value.oneCell']) ?_
     clear hB2; intro w11 hC hB2
     (try replace hN1:=hN1.chg hC (by first | assumption | rfl)); (try replace hN5:=hN5.chg hC (by first | assumption | rfl)); (try replace hN3:=hN3.chg hC (by first | assumption | rfl)); (try replace hN4:=hN4.chg hC (by first | assumption | rfl)); (try replace hN6:=hN6.chg hC (by first | assumption | rfl)); (try replace hN7:=hN7.chg hC (by first | assumption | rfl)); replace hX:=hX.chg hC hG2
     clear hC
     simp only [over,zH,zI,zJ,zK,zL,zM,zN,zO,zP,Nat.reduceAdd] at hB2
     refine n_val (r_assign) ?_
     simp only [ev,zD,zE,zF,zG]
     refine n_nil ?_
     refine hK13 _ _ ?_
     refine wp_ret ?_
     try simp only [Exit.inBlock,Exit.then]
     refine fin2 rfl ⟨_,rfl,(hB2.lies agg_32 cells_32 rfl rfl)⟩ rfl ?_
     try simp only [zD,zE]
     exact ⟨_,rfl,hX,by rw [← hres,sgn_false]; rfl⟩
    ·
     have hlt : ¬ R ≤ (R + X / R) / 2:=fun h=>hc3 (ord_ge_iff.2 h)
     refine wp_skip ?_
     refine hK11 _ _ ?_
     refine wp_region_lit (n_val (r_move) (n_val (r_assign) ?_))
     simp only [ev,zD,zE,zF,zG]
     refine n_nil ?_
     simp only [Exit.inBlock,Exit.then]
     refine ⟨(R + X / R) / 2,_,?_,rfl,?_,?_⟩
     · rw [hn]; exact root_less hlt
     · simp only [zQ,zR,zD,zE,setG_cons,setG_nil,setMany_cons,setMany_nil,zF,zG]
     ·
      simp only [zQ,zR,zD,zE]
      exact ⟨(R + X / R) / 2,A7,c7,rfl,hX,hB2,hN1,hN7,root_pos hp1 hRx hX0,root_step hp1,Nat.lt_trans (root_less hlt) hRM,rfl⟩
theorem Frac_c {n d : Int} (hn : Bd 400000 n) (hd : Bd 400000 d) (h0 : d ≠ 0) : Pure Tryz.prog 69 [W n,W d] (.tuple #[Q (Rat.divInt n d),.bool true]):=by
 intro w
 refine ⟨en_69,?_⟩
 have hX:=Ext.refl w
 obtain ⟨e1,hg0⟩:=frac_den (n:=n) h0
 have e2:=frac_num (n:=n) h0
 have hn':=hn.mono (show 400000 ≤ 1000000 by decide)
 have hd':=hd.mono (show 400000 ≤ 1000000 by decide)
 have hs : I64 (isign d):=by unfold I64 isign; split <;> (try split) <;> omega
 have hs1 : Bd 1 (isign d):=by unfold Bd isign; split <;> (try split) <;> decide
 have hg : Bd 400001 ((Int.gcd n d : Int)):=by
  have h1 : Int.gcd n d ∣ d.natAbs:=Nat.gcd_dvd_right ..
  have h2:=Nat.le_of_dvd (by omega) h1
  exact (hd.of_le (by simpa using h2)).mono (by decide)
 have hG : Bd 1000000 ((Int.gcd n d : Int) * isign d):=(hg.mul hs1).mono (by decide)
 go_enter Tryz.func69,Tryz.ntmps69
 refine c_seq (fun K1 hK1=>wp_region_lit ?_)
 refine n_box (by simp only [ev,zD,zE]; rfl) ?_
 intro w1 g1 hE hg1 hB1
 have hG1:=Nat.le_trans hX.size hg1
 replace hX:=hX.trans hE
 clear hE hg1
 simp only [ev,zD,zE,zF,zG]
 refine n_box (by simp only [ev,zD,zE]; rfl) ?_
 intro w2 g2 hE hg2 hB2
 have hG2:=Nat.le_trans hX.size hg2; have hN2_1 : g2 ≠ g1:=Nat.ne_of_gt (Nat.lt_of_lt_of_le hB1.lt hg2)
 replace hB1:=hB1.ext hE; replace hX:=hX.trans hE
 clear hE hg2
 simp only [ev,zD,zE,zF,zG]
 refine n_alloc zero_34 rfl ?_
 intro w3 g3 hE hg3 hB3
 have hG3:=Nat.le_trans hX.size hg3; have hN3_1 : g3 ≠ g1:=Nat.ne_of_gt (Nat.lt_of_lt_of_le hB1.lt hg3); have hN3_2 : g3 ≠ g2:=Nat.ne_of_gt (Nat.lt_of_lt_of_le hB2.lt hg3)
 replace hB1:=hB1.ext hE; replace hB2:=hB2.ext hE; replace hX:=hX.trans hE
 clear hE hg3
 simp only [ev,zD,zE,zF,zG]
 refine n_val (r_assign) ?_
 simp only [ev,zD,zE,zF,zG]
 refine n_nil ?_
 refine hK1 _ _ ?_
 refine c_seq (fun K2 hK2=>wp_region_lit ?_)
 refine n_load rfl (hB2.lies agg_32 cells_32 rfl rfl) ?_
 simp only [ev,zD,zE,zF,zG]
 refine n_callP rfl rfl (Sign_c hd') ?_
 intro w4 hE
 replace hB1:=hB1.ext hE; replace hB2:=hB2.ext hE; replace hB3:=hB3.ext hE; replace hX:=hX.trans hE
 clear hE
 simp only [ev,zD,zE,zF,zG]
 refine n_val (r_assign) ?_
 simp only [ev,zD,zE,zF,zG]
 refine n_nil ?_
 refine hK2 _ _ ?_
 refine c_seq (fun K3 hK3=>c_seq (fun K4 hK4=>wp_region_lit (n_val (r_move) (n_val (r_eqlF rfl rfl (by unfold isign; split <;> (try split) <;> omega)) ?_))))
 simp only [ev,zD,zE,zF,zG]
 refine n_nil ?_
 refine hK4 _ _ ?_
 refine c_no rfl (wp_skip ?_)
 refine hK3 _ _ ?_
 refine c_seq (fun K5 hK5=>wp_region_lit ?_)
 refine n_load rfl (hB1.lies agg_32 cells_32 rfl rfl) ?_
 simp only [ev,zD,zE,zF,zG]
 refine n_load rfl (hB2.lies agg_32 cells_32 rfl rfl) ?_
 simp only [ev,zD,zE,zF,zG]
 refine n_callP rfl rfl (Gcd_c hn' hd') ?_
 intro w5 hE
 replace hB1:=hB1.ext hE; replace hB2:=hB2.ext hE; replace hB3:=hB3.ext hE; replace hX:=hX.trans hE
 clear hE
 simp only [ev,zD,zE,zF,zG]
 refine n_val (r_move) ?_
 simp only [ev,zD,zE,zF,zG]
 refine n_callP rfl rfl (From_c hs) ?_
 intro w6 hE
 replace hB1:=hB1.ext hE; replace hB2:=hB2.ext hE; replace hB3:=hB3.ext hE; replace hX:=hX.trans hE
 clear hE
 simp only [ev,zD,zE,zF,zG]
 refine n_callP rfl rfl (Mul_c (hg.mono (by decide)) (hs1.mono (by decide))) ?_
 intro w7 hE
 replace hB1:=hB1.ext hE; replace hB2:=hB2.ext hE; replace hB3:=hB3.ext hE; replace hX:=hX.trans hE
 clear hE
 simp only [ev,zD,zE,zF,zG]
 refine n_alloc zero_32 rfl ?_
 intro w8 g4 hE hg4 hB4
 have hG4:=Nat.le_trans hX.size hg4; have hN4_1 : g4 ≠ g1:=Nat.ne_of_gt (Nat.lt_of_lt_of_le hB1.lt hg4); have hN4_2 : g4 ≠ g2:=Nat.ne_of_gt (Nat.lt_of_lt_of_le hB2.lt hg4); have hN4_3 : g4 ≠ g3:=Nat.ne_of_gt (Nat.lt_of_lt_of_le hB3.lt hg4)
 replace hB1:=hB1.ext hE; replace hB2:=hB2.ext hE; replace hB3:=hB3.ext hE; replace hX:=hX.trans hE
 clear hE hg4
 simp only [ev,zD,zE,zF,zG]
 refine n_store rfl (by simp only [ev,zD,zE]; rfl) (by exact cells_32) hB4 (by simp) (by simp [Value.oneCell']) ?_
 clear hB4; intro w9 hC hB4
 replace hB1:=hB1.chg hC (by first | exact hN1_4 | exact Ne.symm hN4_1); replace hB2:=hB2.chg hC (by first | exact hN2_4 | exact Ne.symm hN4_2); replace hB3:=hB3.chg hC (by first | exact hN3_4 | exact Ne.symm hN4_3); replace hX:=hX.chg hC hG4
 clear hC
 simp only [over,zH,zI,zJ,zK,zL,zM,zN,zO,zP,Nat.reduceAdd] at hB4
 refine n_nil ?_
 refine hK5 _ _ ?_
 refine c_seq (fun K6 hK6=>wp_region_lit ?_)
 refine n_load rfl (hB1.lies agg_32 cells_32 rfl rfl) ?_
 simp only [ev,zD,zE,zF,zG]
 refine n_load rfl (hB4.lies agg_32 cells_32 rfl rfl) ?_
 simp only [ev,zD,zE,zF,zG]
 refine n_callP rfl rfl (Quo_c hn' hG hg0) ?_
 intro w10 hE
 replace hB1:=hB1.ext hE; replace hB2:=hB2.ext hE; replace hB3:=hB3.ext hE; replace hB4:=hB4.ext hE; replace hX:=hX.trans hE
 clear hE
 simp only [ev,zD,zE,zF,zG]
 refine n_val (r_move) (n_val (r_extract rfl rfl) (n_val (r_extract rfl rfl) ?_))
 simp only [ev,zD,zE,zF,zG]
 refine n_val (r_extract rfl rfl) ?_
 simp only [ev,zD,zE,zF,zG]
 refine n_store rfl (by simp only [ev,zD,zE]; rfl) (by exact cells_32) hB1 (by simp) (by simp [Value.oneCell']) ?_
 clear hB1; intro w11 hC hB1
 replace hB2:=hB2.chg hC (by first | exact hN2_1 | exact Ne.symm hN1_2); replace hB3:=hB3.chg hC (by first | exact hN3_1 | exact Ne.symm hN1_3); replace hB4:=hB4.chg hC (by first | exact hN4_1 | exact Ne.symm hN1_4); replace hX:=hX.chg hC hG1
 clear hC
 simp only [over,zH,zI,zJ,zK,zL,zM,zN,zO,zP,Nat.reduceAdd] at hB1
 refine n_nil ?_
 refine hK6 _ _ ?_
 refine c_seq (fun K7 hK7=>wp_region_lit ?_)
 refine n_load rfl (hB2.lies agg_32 cells_32 rfl rfl) ?_
 simp only [ev,zD,zE,zF,zG]
 refine n_load rfl (hB4.lies agg_32 cells_32 rfl rfl) ?_
 simp only [ev,zD,zE,zF,zG]
 refine n_callP rfl rfl (Quo_c hd' hG hg0) ?_
 intro w12 hE
 replace hB2:=hB2.ext hE; replace hB3:=hB3.ext hE; replace hB4:=hB4.ext hE; replace hB1:=hB1.ext hE; replace hX:=hX.trans hE
 clear hE
 simp only [ev,zD,zE,zF,zG]
 refine n_val (r_move) (n_val (r_extract rfl rfl) (n_val (r_extract rfl rfl) ?_))
 simp only [ev,zD,zE,zF,zG]
 refine n_val (r_extract rfl rfl) ?_
 simp only [ev,zD,zE,zF,zG]
 refine n_store rfl (by simp only [ev,zD,zE]; rfl) (by exact cells_32) hB2 (by simp) (by simp [Value.oneCell']) ?_
 clear hB2; intro w13 hC hB2
 replace hB3:=hB3.chg hC (by first | exact hN3_2 | exact Ne.symm hN2_3); replace hB4:=hB4.chg hC (by first | exact hN4_2 | exact Ne.symm hN2_4); replace hB1:=hB1.chg hC (by first | exact hN1_2 | exact Ne.symm hN2_1); replace hX:=hX.chg hC hG2
 clear hC
 simp only [over,zH,zI,zJ,zK,zL,zM,zN,zO,zP,Nat.reduceAdd] at hB2
 refine n_nil ?_
 refine hK7 _ _ ?_
 refine c_seq (fun K8 hK8=>wp_region_lit ?_)
 refine n_load rfl (hB1.lies agg_32 cells_32 rfl rfl) ?_
 simp only [ev,zD,zE,zF,zG]
 refine n_load rfl (hB2.lies agg_32 cells_32 rfl rfl) ?_
 simp only [ev,zD,zE,zF,zG]
 refine n_val (r_build_34_0_1 rfl rfl) ?_
 simp only [ev,zD,zE,zF,zG]
 refine n_store rfl (by simp only [ev,zD,zE]; rfl) (by exact cells_34) hB3 (by simp) (by simp [Value.oneCell']) ?_
 clear hB3; intro w14 hC hB3
 replace hB4:=hB4.chg hC (by first | exact hN4_3 | exact Ne.symm hN3_4); replace hB1:=hB1.chg hC (by first | exact hN1_3 | exact Ne.symm hN3_1); replace hB2:=hB2.chg hC (by first | exact hN2_3 | exact Ne.symm hN3_2); replace hX:=hX.chg hC hG3
 clear hC
 simp only [over,zH,zI,zJ,zK,zL,zM,zN,zO,zP,Nat.reduceAdd] at hB3
 refine n_val (r_assign) ?_
 simp only [ev,zD,zE,zF,zG]
 refine n_nil ?_
 refine hK8 _ _ ?_
 refine wp_ret ?_
 try simp only [Exit.inBlock,Exit.then]
 refine fin2 rfl ⟨_,rfl,(hB3.lies agg_34 cells_34 rfl rfl)⟩ rfl ?_
 try simp only [zD,zE]
 exact ⟨_,rfl,hX,by rw [e1,e2] at *; rfl⟩
theorem parts_c {q : Rat} (hq : Bq 400000 q) : Pure Tryz.prog 68 [Q q] (.tuple #[W q.num,W q.den]):=by
 intro w
 refine ⟨en_68,?_⟩
 have hX:=Ext.refl w
 have h0 : (0 : Int) < q.den:=by have:=q.den_pos; omega
 have hd:=hq.d.mono (show 400000 ≤ 1000000 by decide)
 go_enter Tryz.func68,Tryz.ntmps68
 refine c_seq (fun K1 hK1=>wp_region_lit ?_)
 refine n_box (by simp only [ev,zD,zE]; rfl) ?_
 intro w1 g1 hE hg1 hB1
 have hG1:=Nat.le_trans hX.size hg1
 replace hX:=hX.trans hE
 clear hE hg1
 simp only [ev,zD,zE,zF,zG]
 refine n_alloc zero_32 rfl ?_
 intro w2 g2 hE hg2 hB2
 have hG2:=Nat.le_trans hX.size hg2; have hN2_1 : g2 ≠ g1:=Nat.ne_of_gt (Nat.lt_of_lt_of_le hB1.lt hg2)
 replace hB1:=hB1.ext hE; replace hX:=hX.trans hE
 clear hE hg2
 simp only [ev,zD,zE,zF,zG]
 refine n_alloc zero_32 rfl ?_
 intro w3 g3 hE hg3 hB3
 have hG3:=Nat.le_trans hX.size hg3; have hN3_1 : g3 ≠ g1:=Nat.ne_of_gt (Nat.lt_of_lt_of_le hB1.lt hg3); have hN3_2 : g3 ≠ g2:=Nat.ne_of_gt (Nat.lt_of_lt_of_le hB2.lt hg3)
 replace hB1:=hB1.ext hE; replace hB2:=hB2.ext hE; replace hX:=hX.trans hE
 clear hE hg3
 simp only [ev,zD,zE,zF,zG]
 refine n_nil ?_
 refine hK1 _ _ ?_
 refine c_seq (fun K2 hK2=>c_seq (fun K3 hK3=>wp_region_lit (n_val (r_fieldAddr (c:=1) Tryz.underlying34 rfl cells_32 rfl rfl) ?_)))
 simp only [ev,zD,zE,zF,zG]
 refine n_load rfl (hB1.lies agg_32 cells_32 rfl rfl) ?_
 simp only [ev,zD,zE,zF,zG]
 refine n_callP rfl rfl (Sign_c (a:=(q.den : Int)) hd) ?_
 intro w4 hE
 replace hB1:=hB1.ext hE; replace hB2:=hB2.ext hE; replace hB3:=hB3.ext hE; replace hX:=hX.trans hE
 clear hE
 simp only [ev,zD,zE,zF,zG]
 refine n_val (r_gtrT rfl rfl (by rw [isign_pos h0]; decide)) ?_
 simp only [ev,zD,zE,zF,zG]
 refine n_nil ?_
 refine hK3 _ _ ?_
 refine c_yes rfl (c_seq (fun K4 hK4=>?_))
 refine wp_region_held' [(0,true),(2,true),(1,true),(3,true),(4,false),(5,false)] follows_mixed (by kernel_rfl) (panic_put (fun _ _ _ _ _ h=>h)) (ol:=?_) ?hol ?_
 case hol=>simp only [zQ,zR,zS,zT,zU,zV]; try rfl
 intro w5 hE
 replace hB1:=hB1.ext hE; replace hB2:=hB2.ext hE; replace hB3:=hB3.ext hE; replace hX:=hX.trans hE
 clear hE
 refine ⟨_,(Hold.blk hB1 Hold.nil),?_⟩
 refine h_val (r_fieldAddr (c:=1) Tryz.underlying34 rfl cells_32 rfl rfl) (h_val (r_fieldAddr (c:=1) Tryz.underlying34 rfl cells_32 rfl rfl) ?_)
 simp only [ev,zD,zE,zF,zG]
 refine h_load rfl (fun _ ⟨hB1,_⟩=>(hB1.lies agg_32 cells_32 rfl rfl)) ?_
 simp only [ev,zD,zE,zF,zG]
 refine h_load rfl (fun _ ⟨hB1,_⟩=>(hB1.lies agg_32 cells_32 rfl rfl)) ?_
 simp only [ev,zD,zE,zF,zG]
 refine h_step ?_
 refine n_store rfl (by simp only [ev,zD,zE]; rfl) (by exact cells_32) hB2 (by simp) (by simp [Value.oneCell']) ?_
 clear hB2; intro w6 hC hB2
 replace hB1:=hB1.chg hC (by first | exact hN1_2 | exact Ne.symm hN2_1); replace hB3:=hB3.chg hC (by first | exact hN3_2 | exact Ne.symm hN2_3); replace hX:=hX.chg hC hG2
 clear hC
 simp only [over,zH,zI,zJ,zK,zL,zM,zN,zO,zP,Nat.reduceAdd] at hB2
 refine n_nil ?_
 refine ⟨⟨hB1,trivial⟩,?_⟩
 refine h_step ?_
 refine n_store rfl (by simp only [ev,zD,zE]; rfl) (by exact cells_32) hB3 (by simp) (by simp [Value.oneCell']) ?_
 clear hB3; intro w7 hC hB3
 replace hB1:=hB1.chg hC (by first | exact hN1_3 | exact Ne.symm hN3_1); replace hB2:=hB2.chg hC (by first | exact hN2_3 | exact Ne.symm hN3_2); replace hX:=hX.chg hC hG3
 clear hC
 simp only [over,zH,zI,zJ,zK,zL,zM,zN,zO,zP,Nat.reduceAdd] at hB3
 refine n_nil ?_
 refine ⟨⟨hB1,trivial⟩,?_⟩
 refine h_nil ?_
 refine hK4 _ _ ?_
 refine wp_ret ?_
 try simp only [Exit.inBlock,Exit.then]
 refine fin2 rfl ⟨_,rfl,(hB2.lies agg_32 cells_32 rfl rfl)⟩ ⟨_,rfl,(hB3.lies agg_32 cells_32 rfl rfl)⟩ ?_
 try simp only [zD,zE]
 exact ⟨_,rfl,hX,rfl⟩
theorem CmpFrac_c {p q : Rat} (hp : Bq 400000 p) (hq : Bq 400000 q) : Pure Tryz.prog 30 [Q p,Q q] (.int .i64 (qcmp p q)):=by
 intro w
 refine ⟨en_30,?_⟩
 have hX:=Ext.refl w
 go_enter Tryz.func30,Tryz.ntmps30
 refine c_seq (fun K1 hK1=>wp_region_lit ?_)
 refine n_box (by simp only [ev,zD,zE]; rfl) ?_
 intro w1 g1 hE hg1 hB1
 have hG1:=Nat.le_trans hX.size hg1
 replace hX:=hX.trans hE
 clear hE hg1
 simp only [ev,zD,zE,zF,zG]
 refine n_box (by simp only [ev,zD,zE]; rfl) ?_
 intro w2 g2 hE hg2 hB2
 have hG2:=Nat.le_trans hX.size hg2; have hN2_1 : g2 ≠ g1:=Nat.ne_of_gt (Nat.lt_of_lt_of_le hB1.lt hg2)
 replace hB1:=hB1.ext hE; replace hX:=hX.trans hE
 clear hE hg2
 simp only [ev,zD,zE,zF,zG]
 refine n_val (r_assign) ?_
 simp only [ev,zD,zE,zF,zG]
 refine n_nil ?_
 refine hK1 _ _ ?_
 refine c_seq (fun K2 hK2=>wp_region_lit ?_)
 refine n_load rfl (hB1.lies agg_34 cells_34 rfl rfl) ?_
 simp only [ev,zD,zE,zF,zG]
 refine n_callP rfl rfl (parts_c hp) ?_
 intro w3 hE
 replace hB1:=hB1.ext hE; replace hB2:=hB2.ext hE; replace hX:=hX.trans hE
 clear hE
 simp only [ev,zD,zE,zF,zG]
 refine n_val (r_move) (n_val (r_extract rfl rfl) (n_val (r_extract rfl rfl) ?_))
 simp only [ev,zD,zE,zF,zG]
 refine n_alloc zero_32 rfl ?_
 intro w4 g3 hE hg3 hB3
 have hG3:=Nat.le_trans hX.size hg3; have hN3_1 : g3 ≠ g1:=Nat.ne_of_gt (Nat.lt_of_lt_of_le hB1.lt hg3); have hN3_2 : g3 ≠ g2:=Nat.ne_of_gt (Nat.lt_of_lt_of_le hB2.lt hg3)
 replace hB1:=hB1.ext hE; replace hB2:=hB2.ext hE; replace hX:=hX.trans hE
 clear hE hg3
 simp only [ev,zD,zE,zF,zG]
 refine n_alloc zero_32 rfl ?_
 intro w5 g4 hE hg4 hB4
 have hG4:=Nat.le_trans hX.size hg4; have hN4_1 : g4 ≠ g1:=Nat.ne_of_gt (Nat.lt_of_lt_of_le hB1.lt hg4); have hN4_2 : g4 ≠ g2:=Nat.ne_of_gt (Nat.lt_of_lt_of_le hB2.lt hg4); have hN4_3 : g4 ≠ g3:=Nat.ne_of_gt (Nat.lt_of_lt_of_le hB3.lt hg4)
 replace hB1:=hB1.ext hE; replace hB2:=hB2.ext hE; replace hB3:=hB3.ext hE; replace hX:=hX.trans hE
 clear hE hg4
 simp only [ev,zD,zE,zF,zG]
 refine n_store rfl (by simp only [ev,zD,zE]; rfl) (by exact cells_32) hB3 (by simp) (by simp [Value.oneCell']) ?_
 clear hB3; intro w6 hC hB3
 replace hB1:=hB1.chg hC (by first | exact hN1_3 | exact Ne.symm hN3_1); replace hB2:=hB2.chg hC (by first | exact hN2_3 | exact Ne.symm hN3_2); replace hB4:=hB4.chg hC (by first | exact hN4_3 | exact Ne.symm hN3_4); replace hX:=hX.chg hC hG3
 clear hC
 simp only [over,zH,zI,zJ,zK,zL,zM,zN,zO,zP,Nat.reduceAdd] at hB3
 refine n_store rfl (by simp only [ev,zD,zE]; rfl) (by exact cells_32) hB4 (by simp) (by simp [Value.oneCell']) ?_
 clear hB4; intro w7 hC hB4
 replace hB1:=hB1.chg hC (by first | exact hN1_4 | exact Ne.symm hN4_1); replace hB2:=hB2.chg hC (by first | exact hN2_4 | exact Ne.symm hN4_2); replace hB3:=hB3.chg hC (by first | exact hN3_4 | exact Ne.symm hN4_3); replace hX:=hX.chg hC hG4
 clear hC
 simp only [over,zH,zI,zJ,zK,zL,zM,zN,zO,zP,Nat.reduceAdd] at hB4
 refine n_nil ?_
 refine hK2 _ _ ?_
 refine c_seq (fun K3 hK3=>wp_region_lit ?_)
 refine n_load rfl (hB2.lies agg_34 cells_34 rfl rfl) ?_
 simp only [ev,zD,zE,zF,zG]
 refine n_callP rfl rfl (parts_c hq) ?_
 intro w8 hE
 replace hB1:=hB1.ext hE; replace hB2:=hB2.ext hE; replace hB3:=hB3.ext hE; replace hB4:=hB4.ext hE; replace hX:=hX.trans hE
 clear hE
 simp only [ev,zD,zE,zF,zG]
 refine n_val (r_move) (n_val (r_extract rfl rfl) (n_val (r_extract rfl rfl) ?_))
 simp only [ev,zD,zE,zF,zG]
 refine n_alloc zero_32 rfl ?_
 intro w9 g5 hE hg5 hB5
 have hG5:=Nat.le_trans hX.size hg5; have hN5_1 : g5 ≠ g1:=Nat.ne_of_gt (Nat.lt_of_lt_of_le hB1.lt hg5); have hN5_2 : g5 ≠ g2:=Nat.ne_of_gt (Nat.lt_of_lt_of_le hB2.lt hg5); have hN5_3 : g5 ≠ g3:=Nat.ne_of_gt (Nat.lt_of_lt_of_le hB3.lt hg5); have hN5_4 : g5 ≠ g4:=Nat.ne_of_gt (Nat.lt_of_lt_of_le hB4.lt hg5)
 replace hB1:=hB1.ext hE; replace hB2:=hB2.ext hE; replace hB3:=hB3.ext hE; replace hB4:=hB4.ext hE; replace hX:=hX.trans hE
 clear hE hg5
 simp only [ev,zD,zE,zF,zG]
 refine n_alloc zero_32 rfl ?_
 intro w10 g6 hE hg6 hB6
 have hG6:=Nat.le_trans hX.size hg6; have hN6_1 : g6 ≠ g1:=Nat.ne_of_gt (Nat.lt_of_lt_of_le hB1.lt hg6); have hN6_2 : g6 ≠ g2:=Nat.ne_of_gt (Nat.lt_of_lt_of_le hB2.lt hg6); have hN6_3 : g6 ≠ g3:=Nat.ne_of_gt (Nat.lt_of_lt_of_le hB3.lt hg6); have hN6_4 : g6 ≠ g4:=Nat.ne_of_gt (Nat.lt_of_lt_of_le hB4.lt hg6); have hN6_5 : g6 ≠ g5:=Nat.ne_of_gt (Nat.lt_of_lt_of_le hB5.lt hg6)
 replace hB1:=hB1.ext hE; replace hB2:=hB2.ext hE; replace hB3:=hB3.ext hE; replace hB4:=hB4.ext hE; replace hB5:=hB5.ext hE; replace hX:=hX.trans hE
 clear hE hg6
 simp only [ev,zD,zE,zF,zG]
 refine n_store rfl (by simp only [ev,zD,zE]; rfl) (by exact cells_32) hB5 (by simp) (by simp [Value.oneCell']) ?_
 clear hB5; intro w11 hC hB5
 replace hB1:=hB1.chg hC (by first | exact hN1_5 | exact Ne.symm hN5_1); replace hB2:=hB2.chg hC (by first | exact hN2_5 | exact Ne.symm hN5_2); replace hB3:=hB3.chg hC (by first | exact hN3_5 | exact Ne.symm hN5_3); replace hB4:=hB4.chg hC (by first | exact hN4_5 | exact Ne.symm hN5_4); replace hB6:=hB6.chg hC (by first | exact hN6_5 | exact Ne.symm hN5_6); replace hX:=hX.chg hC hG5
 clear hC
 simp only [over,zH,zI,zJ,zK,zL,zM,zN,zO,zP,Nat.reduceAdd] at hB5
 refine n_store rfl (by simp only [ev,zD,zE]; rfl) (by exact cells_32) hB6 (by simp) (by simp [Value.oneCell']) ?_
 clear hB6; intro w12 hC hB6
 replace hB1:=hB1.chg hC (by first | exact hN1_6 | exact Ne.symm hN6_1); replace hB2:=hB2.chg hC (by first | exact hN2_6 | exact Ne.symm hN6_2); replace hB3:=hB3.chg hC (by first | exact hN3_6 | exact Ne.symm hN6_3); replace hB4:=hB4.chg hC (by first | exact hN4_6 | exact Ne.symm hN6_4); replace hB5:=hB5.chg hC (by first | exact hN5_6 | exact Ne.symm hN6_5); replace hX:=hX.chg hC hG6
 clear hC
 simp only [over,zH,zI,zJ,zK,zL,zM,zN,zO,zP,Nat.reduceAdd] at hB6
 refine n_nil ?_
 refine hK3 _ _ ?_
 refine c_seq (fun K4 hK4=>?_)
 refine wp_region_ext follows_mixed (by kernel_rfl) ?_
 refine q_load rfl (fun _ hE'=>((hB3.ext hE').lies agg_32 cells_32 rfl rfl)) ?_
 simp only [ev,zD,zE,zF,zG]
 refine q_load rfl (fun _ hE'=>((hB6.ext hE').lies agg_32 cells_32 rfl rfl)) ?_
 simp only [ev,zD,zE,zF,zG]
 refine q_callP rfl rfl (Mul_c (hp.n.mono (by decide)) (hq.d.mono (by decide))) ?_
 simp only [ev,zD,zE,zF,zG]
 refine q_load rfl (fun _ hE'=>((hB5.ext hE').lies agg_32 cells_32 rfl rfl)) ?_
 simp only [ev,zD,zE,zF,zG]
 refine q_load rfl (fun _ hE'=>((hB4.ext hE').lies agg_32 cells_32 rfl rfl)) ?_
 simp only [ev,zD,zE,zF,zG]
 refine q_callP rfl rfl (Mul_c (hq.n.mono (by decide)) (hp.d.mono (by decide))) ?_
 simp only [ev,zD,zE,zF,zG]
 refine q_callP rfl rfl (Cmp_c ((hp.n.mul hq.d).mono (by decide)) ((hq.n.mul hp.d).mono (by decide))) ?_
 simp only [ev,zD,zE,zF,zG]
 refine q_val (r_assign) ?_
 simp only [ev,zD,zE,zF,zG]
 refine q_nil ?_
 intro w13 hE
 replace hB1:=hB1.ext hE; replace hB2:=hB2.ext hE; replace hB3:=hB3.ext hE; replace hB4:=hB4.ext hE; replace hB5:=hB5.ext hE; replace hB6:=hB6.ext hE; replace hX:=hX.trans hE
 clear hE
 refine hK4 _ _ ?_
 refine wp_ret ?_
 try simp only [Exit.inBlock,Exit.then]
 refine fin1 rfl rfl ?_
 try simp only [zD,zE]
 exact ⟨_,rfl,hX,rfl⟩
end Go.Proofs.YtmcgcnpgkkfkoaaGreatDoor
namespace Go.Proofs.YtmcgcnpgkkfkoaaGreatDoor
open Go.RowKit Go.Lith
set_option maxRecDepth 100000
attribute [local irreducible] wpList wpQuiet wpMix wpMixH wpTree Code.wp
theorem ex_x {p : P3} : Pure Tryz.prog 163 [pt p] (.int .i64 p.x):=by
 intro w
 refine ⟨en_163,?_⟩
 have m:=Mem.refl w
 go_enter Tryz.func163,Tryz.ntmps163
 refine c_seq fun K1 k1=>wp_region_lit (mboxA m rfl ?_)
 clear m; intro g1 u m
 refine n_val (r_assign) (n_nil (k1 _ _ ?_))
 refine c_seq fun K2 k2=>wp_region_lit (n_val (r_fieldAddr (c:=0) Tryz.underlying170 rfl cells_3 rfl rfl) ?_)
 simp only [ev,zD,zE,zF,zG]
 refine n_load rfl ((m.b 0 rfl).lies1 agg_3 rfl) ?_
 simp only [ev,zD,zE,zF,zG]
 refine n_val (r_assign) (n_nil (k2 _ _ ?_))
 refine wp_ret ?_
 simp only [ev,zD,zE,zF,zG]
 try simp only [Exit.inBlock,Exit.then,if_true]
 refine fin1 rfl rfl ?_
 try simp only [zD,zE]
 exact ⟨_,rfl,m.ext,rfl⟩
theorem ex_y {p : P3} : Pure Tryz.prog 164 [pt p] (.int .i64 p.y):=by
 intro w
 refine ⟨en_164,?_⟩
 have m:=Mem.refl w
 go_enter Tryz.func164,Tryz.ntmps164
 refine c_seq fun K1 k1=>wp_region_lit (mboxA m rfl ?_)
 clear m; intro g1 u m
 refine n_val (r_assign) (n_nil (k1 _ _ ?_))
 refine c_seq fun K2 k2=>wp_region_lit (n_val (r_fieldAddr (c:=0) Tryz.underlying170 rfl cells_3 rfl rfl) ?_)
 simp only [ev,zD,zE,zF,zG]
 refine n_load rfl ((m.b 0 rfl).lies1 agg_3 rfl) ?_
 simp only [ev,zD,zE,zF,zG]
 refine n_val (r_assign) (n_nil (k2 _ _ ?_))
 refine wp_ret ?_
 simp only [ev,zD,zE,zF,zG]
 try simp only [Exit.inBlock,Exit.then,if_true]
 refine fin1 rfl rfl ?_
 try simp only [zD,zE]
 exact ⟨_,rfl,m.ext,rfl⟩
theorem ex_z {p : P3} : Pure Tryz.prog 165 [pt p] (.int .i64 p.z):=by
 intro w
 refine ⟨en_165,?_⟩
 have m:=Mem.refl w
 go_enter Tryz.func165,Tryz.ntmps165
 refine c_seq fun K1 k1=>wp_region_lit (mboxA m rfl ?_)
 clear m; intro g1 u m
 refine n_val (r_assign) (n_nil (k1 _ _ ?_))
 refine c_seq fun K2 k2=>wp_region_lit (n_val (r_fieldAddr (c:=0) Tryz.underlying170 rfl cells_3 rfl rfl) ?_)
 simp only [ev,zD,zE,zF,zG]
 refine n_load rfl ((m.b 0 rfl).lies1 agg_3 rfl) ?_
 simp only [ev,zD,zE,zF,zG]
 refine n_val (r_assign) (n_nil (k2 _ _ ?_))
 refine wp_ret ?_
 simp only [ev,zD,zE,zF,zG]
 try simp only [Exit.inBlock,Exit.then,if_true]
 refine fin1 rfl rfl ?_
 try simp only [zD,zE]
 exact ⟨_,rfl,m.ext,rfl⟩
theorem axes_c  : Pure Tryz.prog 139 [] (.agg #[.func (.func 163) #[] #[],.func (.func 164) #[] #[],.func (.func 165) #[] #[]]):=by
 intro w
 refine ⟨en_139,?_⟩
 have m:=Mem.refl w
 go_enter Tryz.func139,Tryz.ntmps139
 refine c_seq fun K1 k1=>wp_region_lit (malloc m zero_168 rfl ?_)
 clear m; intro g1 u m
 refine n_nil (k1 _ _ ?_)
 refine c_seq fun K2 k2=>wp_region_lit (n_val (r_build_168_0_1_2 rfl rfl rfl) ?_)
 simp only [ev,zD,zE,zF,zG]
 refine mstoreA m 0 rfl rfl rfl cells_168 (leT rfl) rfl ?_
 clear m; intro u m; simp only [over,zH,zI,zJ,zK,zL,zM,zN,zO,zP,zF,zG,Nat.reduceAdd] at m
 refine n_nil (k2 _ _ ?_)
 refine wp_ret ?_
 try simp only [Exit.inBlock,Exit.then,if_true]
 refine fin1 rfl ⟨_,rfl,((m.b 0 rfl).full agg_168 cells_168)⟩ ?_
 try simp only [zD,zE]
 exact ⟨_,rfl,m.ext,rfl⟩
theorem turn_0  : Pure Tryz.prog 148 [.int .i64 0] (.tuple #[.int .i64 1,.int .i64 2]):=by
 intro w
 refine ⟨en_148,?_⟩
 have m:=Mem.refl w
 go_enter Tryz.func148,Tryz.ntmps148
 refine c_seq fun K1 k1=>wp_region_lit (n_val (r_assign) (n_val (r_assign) (n_nil (k1 _ _ ?_))))
 refine c_seq fun K2 k2=>wp_region_lit (n_val (r_move) (n_val (r_add (m:=0) (n:=1) (r:=1) rfl rfl (by decide)) ?_))
 simp only [ev,zD,zE,zF,zG]
 refine n_val (r_rem (m:=1) (n:=3) (r:=1) rfl rfl (by decide) (by decide)) (n_val (r_move) (n_val (r_add (m:=0) (n:=2) (r:=2) rfl rfl (by decide)) (n_val (r_rem (m:=2) (n:=3) (r:=2) rfl rfl (by decide) (by decide)) ?_)))
 simp only [ev,zD,zE,zF,zG]
 refine n_val (r_assign) (n_val (r_assign) (n_nil (k2 _ _ ?_)))
 refine wp_ret ?_
 simp only [ev,zD,zE,zF,zG]
 try simp only [Exit.inBlock,Exit.then,if_true]
 refine fin2 rfl rfl rfl ?_
 try simp only [zD,zE]
 exact ⟨_,rfl,m.ext,rfl⟩
theorem turn_1  : Pure Tryz.prog 148 [.int .i64 1] (.tuple #[.int .i64 2,.int .i64 0]):=by
 intro w
 refine ⟨en_148,?_⟩
 have m:=Mem.refl w
 go_enter Tryz.func148,Tryz.ntmps148
 refine c_seq fun K1 k1=>wp_region_lit (n_val (r_assign) (n_val (r_assign) (n_nil (k1 _ _ ?_))))
 refine c_seq fun K2 k2=>wp_region_lit (n_val (r_move) (n_val (r_add (m:=1) (n:=1) (r:=2) rfl rfl (by decide)) ?_))
 simp only [ev,zD,zE,zF,zG]
 refine n_val (r_rem (m:=2) (n:=3) (r:=2) rfl rfl (by decide) (by decide)) (n_val (r_move) (n_val (r_add (m:=1) (n:=2) (r:=3) rfl rfl (by decide)) (n_val (r_rem (m:=3) (n:=3) (r:=0) rfl rfl (by decide) (by decide)) ?_)))
 simp only [ev,zD,zE,zF,zG]
 refine n_val (r_assign) (n_val (r_assign) (n_nil (k2 _ _ ?_)))
 refine wp_ret ?_
 simp only [ev,zD,zE,zF,zG]
 try simp only [Exit.inBlock,Exit.then,if_true]
 refine fin2 rfl rfl rfl ?_
 try simp only [zD,zE]
 exact ⟨_,rfl,m.ext,rfl⟩
theorem turn_2  : Pure Tryz.prog 148 [.int .i64 2] (.tuple #[.int .i64 0,.int .i64 1]):=by
 intro w
 refine ⟨en_148,?_⟩
 have m:=Mem.refl w
 go_enter Tryz.func148,Tryz.ntmps148
 refine c_seq fun K1 k1=>wp_region_lit (n_val (r_assign) (n_val (r_assign) (n_nil (k1 _ _ ?_))))
 refine c_seq fun K2 k2=>wp_region_lit (n_val (r_move) (n_val (r_add (m:=2) (n:=1) (r:=3) rfl rfl (by decide)) ?_))
 simp only [ev,zD,zE,zF,zG]
 refine n_val (r_rem (m:=3) (n:=3) (r:=0) rfl rfl (by decide) (by decide)) (n_val (r_move) (n_val (r_add (m:=2) (n:=2) (r:=4) rfl rfl (by decide)) (n_val (r_rem (m:=4) (n:=3) (r:=1) rfl rfl (by decide) (by decide)) ?_)))
 simp only [ev,zD,zE,zF,zG]
 refine n_val (r_assign) (n_val (r_assign) (n_nil (k2 _ _ ?_)))
 refine wp_ret ?_
 simp only [ev,zD,zE,zF,zG]
 try simp only [Exit.inBlock,Exit.then,if_true]
 refine fin2 rfl rfl rfl ?_
 try simp only [zD,zE]
 exact ⟨_,rfl,m.ext,rfl⟩
theorem farVector_c {p q : P3} [I3 p] [I3 q] : Pure Tryz.prog 77 [pt p,pt q] (wv (q.sub p)):=by
 intro w
 refine ⟨en_77,?_⟩
 have m:=Mem.refl w
 go_enter Tryz.func77,Tryz.ntmps77
 refine c_seq fun K1 k1=>wp_region_lit (mboxA m rfl ?_)
 clear m; intro g1 u m
 simp only [ev,zD,zE,zF,zG]
 refine mboxA m rfl ?_
 clear m; intro g2 u m
 simp only [ev,zD,zE,zF,zG]
 refine malloc m zero_112 rfl ?_
 clear m; intro g3 u m
 refine n_nil (k1 _ _ ?_)
 refine c_seq fun K2 k2=>wp_region_lit ?_
 simp only [ev,zD,zE,zF,zG]
 refine malloc m zero_112 rfl ?_
 clear m; intro g4 u m
 refine n_nil (k2 _ _ ?_)
 refine c_seq fun K3 k3=>c_seq fun K4 k4=>wp_region_lit ?_
 simp only [ev,zD,zE,zF,zG]
 refine mcallP m rfl rfl (axes_c) ?_
 clear m; intro u m
 refine n_val (r_move) (n_nil (k4 _ _ ?_))
 refine wp_block (wp_loop_rounds 4 (rounds_step (c_seq fun K5 k5=>wp_region_lit (n_val (r_lssT (m:=0) (n:=3) rfl rfl (by decide)) (n_nil (k5 _ _ ?_))))))
 refine c_seq fun K6 k6=>c_yes rfl (wp_skip (k6 _ _ ?_))
 refine c_seq fun K7 k7=>wp_block (c_seq fun K8 k8=>wp_region_lit (n_val (r_move) ?_))
 simp only [ev,zD,zE,zF,zG]
 refine n_val (r_index_168_0 rfl rfl) (n_val (r_assign) (n_val (r_assign) (n_nil (k8 _ _ ?_))))
 simp only [ev,zD,zE,zF,zG]
 refine mq_tail m 11 follows_mixed (by kernel_rfl) ?_
 simp only [zH,zI,zJ,zK]
 refine q_val (r_move) (q_val (r_move) ?_)
 simp only [ev,zD,zE,zF,zG]
 refine ql rfl (fun u m=>((m.b 2 rfl).full agg_28 cells_28)) ?_
 simp only [ev,zD,zE,zF,zG]
 refine qcP rfl rfl (ex_x) ?_
 simp only [ev,zD,zE,zF,zG]
 refine qcP rfl rfl (From_c Iw.h) (q_val (r_move) ?_)
 simp only [ev,zD,zE,zF,zG]
 refine ql rfl (fun u m=>((m.b 3 rfl).full agg_28 cells_28)) ?_
 simp only [ev,zD,zE,zF,zG]
 refine qcP rfl rfl (ex_x) ?_
 simp only [ev,zD,zE,zF,zG]
 refine qcP rfl rfl (From_c Iw.h) ?_
 simp only [ev,zD,zE,zF,zG]
 refine qcP rfl rfl (Sub_c Bw.up Bw.up) (q_val (r_indexAddrA Tryz.underlying112 cells_32 rfl rfl (by decide) (by decide) rfl) (q_nil ?_))
 clear m; intro u m
 simp only [ev,zD,zE,zF,zG]
 refine mstoreA m 0 rfl rfl rfl cells_32 (leT rfl) rfl ?_
 clear m; intro u m; simp only [over,zH,zI,zJ,zK,zL,zM,zN,zO,zP,zF,zG,Nat.reduceAdd] at m
 refine n_nil (k7 _ _ ?_)
 refine wp_region_lit (n_val (r_add (m:=0) (n:=1) (r:=1) rfl rfl (by decide)) (n_val (r_move) (n_nil (then_rounds (c_seq fun K9 k9=>wp_region_lit (n_val (r_lssT (m:=1) (n:=3) rfl rfl (by decide)) (n_nil (k9 _ _ ?_))))))))
 refine c_seq fun K10 k10=>c_yes rfl (wp_skip (k10 _ _ ?_))
 refine c_seq fun K11 k11=>wp_block (c_seq fun K12 k12=>wp_region_lit (n_val (r_move) ?_))
 simp only [ev,zD,zE,zF,zG]
 refine n_val (r_index_168_1 rfl rfl) (n_val (r_assign) (n_val (r_assign) (n_nil (k12 _ _ ?_))))
 simp only [ev,zD,zE,zF,zG]
 refine mq_tail m 11 follows_mixed (by kernel_rfl) ?_
 simp only [zH,zI,zJ,zK]
 refine q_val (r_move) (q_val (r_move) ?_)
 simp only [ev,zD,zE,zF,zG]
 refine ql rfl (fun u m=>((m.b 2 rfl).full agg_28 cells_28)) ?_
 simp only [ev,zD,zE,zF,zG]
 refine qcP rfl rfl (ex_y) ?_
 simp only [ev,zD,zE,zF,zG]
 refine qcP rfl rfl (From_c Iw.h) (q_val (r_move) ?_)
 simp only [ev,zD,zE,zF,zG]
 refine ql rfl (fun u m=>((m.b 3 rfl).full agg_28 cells_28)) ?_
 simp only [ev,zD,zE,zF,zG]
 refine qcP rfl rfl (ex_y) ?_
 simp only [ev,zD,zE,zF,zG]
 refine qcP rfl rfl (From_c Iw.h) ?_
 simp only [ev,zD,zE,zF,zG]
 refine qcP rfl rfl (Sub_c Bw.up Bw.up) (q_val (r_indexAddrA Tryz.underlying112 cells_32 rfl rfl (by decide) (by decide) rfl) (q_nil ?_))
 clear m; intro u m
 simp only [ev,zD,zE,zF,zG]
 refine mstoreA m 0 rfl rfl rfl cells_32 (leT rfl) rfl ?_
 clear m; intro u m; simp only [over,zH,zI,zJ,zK,zL,zM,zN,zO,zP,zF,zG,Nat.reduceAdd] at m
 refine n_nil (k11 _ _ ?_)
 refine wp_region_lit (n_val (r_add (m:=1) (n:=1) (r:=2) rfl rfl (by decide)) (n_val (r_move) (n_nil (then_rounds (c_seq fun K13 k13=>wp_region_lit (n_val (r_lssT (m:=2) (n:=3) rfl rfl (by decide)) (n_nil (k13 _ _ ?_))))))))
 refine c_seq fun K14 k14=>c_yes rfl (wp_skip (k14 _ _ ?_))
 refine c_seq fun K15 k15=>wp_block (c_seq fun K16 k16=>wp_region_lit (n_val (r_move) ?_))
 simp only [ev,zD,zE,zF,zG]
 refine n_val (r_index_168_2 rfl rfl) (n_val (r_assign) (n_val (r_assign) (n_nil (k16 _ _ ?_))))
 simp only [ev,zD,zE,zF,zG]
 refine mq_tail m 11 follows_mixed (by kernel_rfl) ?_
 simp only [zH,zI,zJ,zK]
 refine q_val (r_move) (q_val (r_move) ?_)
 simp only [ev,zD,zE,zF,zG]
 refine ql rfl (fun u m=>((m.b 2 rfl).full agg_28 cells_28)) ?_
 simp only [ev,zD,zE,zF,zG]
 refine qcP rfl rfl (ex_z) ?_
 simp only [ev,zD,zE,zF,zG]
 refine qcP rfl rfl (From_c Iw.h) (q_val (r_move) ?_)
 simp only [ev,zD,zE,zF,zG]
 refine ql rfl (fun u m=>((m.b 3 rfl).full agg_28 cells_28)) ?_
 simp only [ev,zD,zE,zF,zG]
 refine qcP rfl rfl (ex_z) ?_
 simp only [ev,zD,zE,zF,zG]
 refine qcP rfl rfl (From_c Iw.h) ?_
 simp only [ev,zD,zE,zF,zG]
 refine qcP rfl rfl (Sub_c Bw.up Bw.up) (q_val (r_indexAddrA Tryz.underlying112 cells_32 rfl rfl (by decide) (by decide) rfl) (q_nil ?_))
 clear m; intro u m
 simp only [ev,zD,zE,zF,zG]
 refine mstoreA m 0 rfl rfl rfl cells_32 (leT rfl) rfl ?_
 clear m; intro u m; simp only [over,zH,zI,zJ,zK,zL,zM,zN,zO,zP,zF,zG,Nat.reduceAdd] at m
 refine n_nil (k15 _ _ ?_)
 refine wp_region_lit (n_val (r_add (m:=2) (n:=1) (r:=3) rfl rfl (by decide)) (n_val (r_move) (n_nil (then_rounds (c_seq fun K17 k17=>wp_region_lit (n_val (r_lssF (m:=3) (n:=3) rfl rfl (by decide)) (n_nil (k17 _ _ ?_))))))))
 refine c_seq fun K18 k18=>c_no rfl (wp_exit (k3 _ _ ?_))
 refine c_seq fun K19 k19=>wp_region_lit ?_
 simp only [ev,zD,zE,zF,zG]
 refine n_load rfl ((m.b 0 rfl).full agg_112 cells_112) ?_
 simp only [ev,zD,zE,zF,zG]
 refine mstoreA m 1 rfl rfl rfl cells_112 (leT rfl) rfl ?_
 clear m; intro u m; simp only [over,zH,zI,zJ,zK,zL,zM,zN,zO,zP,zF,zG,Nat.reduceAdd] at m
 refine n_nil (k19 _ _ ?_)
 refine wp_ret ?_
 try simp only [Exit.inBlock,Exit.then,if_true]
 refine fin1 rfl ⟨_,rfl,((m.b 1 rfl).full agg_112 cells_112)⟩ ?_
 try simp only [zD,zE]
 exact ⟨_,rfl,m.ext,rfl⟩
theorem farProduct_c {u v : P3} (hu : Bv 400000 u) (hv : Bv 400000 v) : Pure Tryz.prog 103 [wv u,wv v] (wv (u.cross v)):=by
 intro w
 refine ⟨en_103,?_⟩
 have m:=Mem.refl w
 go_enter Tryz.func103,Tryz.ntmps103
 refine c_seq fun K1 k1=>wp_region_lit (mboxA m rfl ?_)
 clear m; intro g1 u m
 simp only [ev,zD,zE,zF,zG]
 refine mboxA m rfl ?_
 clear m; intro g2 u m
 simp only [ev,zD,zE,zF,zG]
 refine malloc m zero_112 rfl ?_
 clear m; intro g3 u m
 refine n_nil (k1 _ _ ?_)
 refine c_seq fun K2 k2=>wp_region_lit ?_
 simp only [ev,zD,zE,zF,zG]
 refine malloc m zero_112 rfl ?_
 clear m; intro g4 u m
 refine n_nil (k2 _ _ ?_)
 refine c_seq fun K3 k3=>c_seq fun K4 k4=>wp_region_lit (n_val (r_move) (n_nil (k4 _ _ ?_)))
 refine wp_block (wp_loop_rounds 4 (rounds_step (c_seq fun K5 k5=>wp_region_lit (n_val (r_lssT (m:=0) (n:=3) rfl rfl (by decide)) (n_nil (k5 _ _ ?_))))))
 refine c_seq fun K6 k6=>c_yes rfl (wp_skip (k6 _ _ ?_))
 refine c_seq fun K7 k7=>wp_block (c_seq fun K8 k8=>wp_region_lit (n_val (r_move) ?_))
 simp only [ev,zD,zE,zF,zG]
 refine n_val (r_assign) (n_nil (k8 _ _ ?_))
 refine c_seq fun K9 k9=>wp_region_lit (n_val (r_move) ?_)
 simp only [ev,zD,zE,zF,zG]
 refine mcallP m rfl rfl (turn_0) ?_
 clear m; intro u m
 refine n_val (r_move) (n_val (r_extract rfl rfl) (n_val (r_extract rfl rfl) ?_))
 simp only [ev,zD,zE,zF,zG]
 refine n_val (r_assign) (n_val (r_assign) (n_nil (k9 _ _ ?_)))
 simp only [ev,zD,zE,zF,zG]
 refine mq_tail m 17 follows_mixed (by kernel_rfl) ?_
 simp only [zH,zI,zJ,zK]
 refine q_val (r_move) (q_val (r_move) (q_val (r_indexAddrA Tryz.underlying112 cells_32 rfl rfl (by decide) (by decide) rfl) ?_))
 simp only [ev,zD,zE,zF,zG]
 refine ql rfl (fun u m=>((m.b 3 rfl).lies agg_32 cells_32 rfl rfl)) ?_
 simp only [ev,zD,zE,zF,zG,zH,zI,zJ,zK,Nat.zero_add,Nat.reduceAdd,Nat.reduceMul,Int.reduceToNat]
 refine q_val (r_move) (q_val (r_indexAddrA Tryz.underlying112 cells_32 rfl rfl (by decide) (by decide) rfl) ?_)
 simp only [ev,zD,zE,zF,zG]
 refine ql rfl (fun u m=>((m.b 2 rfl).lies agg_32 cells_32 rfl rfl)) ?_
 simp only [ev,zD,zE,zF,zG,zH,zI,zJ,zK,Nat.zero_add,Nat.reduceAdd,Nat.reduceMul,Int.reduceToNat]
 refine qcP rfl rfl (Mul_c Bw.up Bw.up) (q_val (r_move) (q_val (r_indexAddrA Tryz.underlying112 cells_32 rfl rfl (by decide) (by decide) rfl) ?_))
 simp only [ev,zD,zE,zF,zG]
 refine ql rfl (fun u m=>((m.b 3 rfl).lies agg_32 cells_32 rfl rfl)) ?_
 simp only [ev,zD,zE,zF,zG,zH,zI,zJ,zK,Nat.zero_add,Nat.reduceAdd,Nat.reduceMul,Int.reduceToNat]
 refine q_val (r_move) (q_val (r_indexAddrA Tryz.underlying112 cells_32 rfl rfl (by decide) (by decide) rfl) ?_)
 simp only [ev,zD,zE,zF,zG]
 refine ql rfl (fun u m=>((m.b 2 rfl).lies agg_32 cells_32 rfl rfl)) ?_
 simp only [ev,zD,zE,zF,zG,zH,zI,zJ,zK,Nat.zero_add,Nat.reduceAdd,Nat.reduceMul,Int.reduceToNat]
 refine qcP rfl rfl (Mul_c Bw.up Bw.up) ?_
 simp only [ev,zD,zE,zF,zG]
 refine qcP rfl rfl (Sub_c Bw.up Bw.up) (q_val (r_indexAddrA Tryz.underlying112 cells_32 rfl rfl (by decide) (by decide) rfl) (q_nil ?_))
 clear m; intro u m
 simp only [ev,zD,zE,zF,zG]
 refine mstoreA m 0 rfl rfl rfl cells_32 (leT rfl) rfl ?_
 clear m; intro u m; simp only [over,zH,zI,zJ,zK,zL,zM,zN,zO,zP,zF,zG,Nat.reduceAdd] at m
 refine n_nil (k7 _ _ ?_)
 refine wp_region_lit (n_val (r_add (m:=0) (n:=1) (r:=1) rfl rfl (by decide)) (n_val (r_move) (n_nil (then_rounds (c_seq fun K10 k10=>wp_region_lit (n_val (r_lssT (m:=1) (n:=3) rfl rfl (by decide)) (n_nil (k10 _ _ ?_))))))))
 refine c_seq fun K11 k11=>c_yes rfl (wp_skip (k11 _ _ ?_))
 refine c_seq fun K12 k12=>wp_block (c_seq fun K13 k13=>wp_region_lit (n_val (r_move) ?_))
 simp only [ev,zD,zE,zF,zG]
 refine n_val (r_assign) (n_nil (k13 _ _ ?_))
 refine c_seq fun K14 k14=>wp_region_lit (n_val (r_move) ?_)
 simp only [ev,zD,zE,zF,zG]
 refine mcallP m rfl rfl (turn_1) ?_
 clear m; intro u m
 refine n_val (r_move) (n_val (r_extract rfl rfl) (n_val (r_extract rfl rfl) ?_))
 simp only [ev,zD,zE,zF,zG]
 refine n_val (r_assign) (n_val (r_assign) (n_nil (k14 _ _ ?_)))
 simp only [ev,zD,zE,zF,zG]
 refine mq_tail m 17 follows_mixed (by kernel_rfl) ?_
 simp only [zH,zI,zJ,zK]
 refine q_val (r_move) (q_val (r_move) (q_val (r_indexAddrA Tryz.underlying112 cells_32 rfl rfl (by decide) (by decide) rfl) ?_))
 simp only [ev,zD,zE,zF,zG]
 refine ql rfl (fun u m=>((m.b 3 rfl).lies agg_32 cells_32 rfl rfl)) ?_
 simp only [ev,zD,zE,zF,zG,zH,zI,zJ,zK,Nat.zero_add,Nat.reduceAdd,Nat.reduceMul,Int.reduceToNat]
 refine q_val (r_move) (q_val (r_indexAddrA Tryz.underlying112 cells_32 rfl rfl (by decide) (by decide) rfl) ?_)
 simp only [ev,zD,zE,zF,zG]
 refine ql rfl (fun u m=>((m.b 2 rfl).lies agg_32 cells_32 rfl rfl)) ?_
 simp only [ev,zD,zE,zF,zG,zH,zI,zJ,zK,Nat.zero_add,Nat.reduceAdd,Nat.reduceMul,Int.reduceToNat]
 refine qcP rfl rfl (Mul_c Bw.up Bw.up) (q_val (r_move) (q_val (r_indexAddrA Tryz.underlying112 cells_32 rfl rfl (by decide) (by decide) rfl) ?_))
 simp only [ev,zD,zE,zF,zG]
 refine ql rfl (fun u m=>((m.b 3 rfl).lies agg_32 cells_32 rfl rfl)) ?_
 simp only [ev,zD,zE,zF,zG,zH,zI,zJ,zK,Nat.zero_add,Nat.reduceAdd,Nat.reduceMul,Int.reduceToNat]
 refine q_val (r_move) (q_val (r_indexAddrA Tryz.underlying112 cells_32 rfl rfl (by decide) (by decide) rfl) ?_)
 simp only [ev,zD,zE,zF,zG]
 refine ql rfl (fun u m=>((m.b 2 rfl).lies agg_32 cells_32 rfl rfl)) ?_
 simp only [ev,zD,zE,zF,zG,zH,zI,zJ,zK,Nat.zero_add,Nat.reduceAdd,Nat.reduceMul,Int.reduceToNat]
 refine qcP rfl rfl (Mul_c Bw.up Bw.up) ?_
 simp only [ev,zD,zE,zF,zG]
 refine qcP rfl rfl (Sub_c Bw.up Bw.up) (q_val (r_indexAddrA Tryz.underlying112 cells_32 rfl rfl (by decide) (by decide) rfl) (q_nil ?_))
 clear m; intro u m
 simp only [ev,zD,zE,zF,zG]
 refine mstoreA m 0 rfl rfl rfl cells_32 (leT rfl) rfl ?_
 clear m; intro u m; simp only [over,zH,zI,zJ,zK,zL,zM,zN,zO,zP,zF,zG,Nat.reduceAdd] at m
 refine n_nil (k12 _ _ ?_)
 refine wp_region_lit (n_val (r_add (m:=1) (n:=1) (r:=2) rfl rfl (by decide)) (n_val (r_move) (n_nil (then_rounds (c_seq fun K15 k15=>wp_region_lit (n_val (r_lssT (m:=2) (n:=3) rfl rfl (by decide)) (n_nil (k15 _ _ ?_))))))))
 refine c_seq fun K16 k16=>c_yes rfl (wp_skip (k16 _ _ ?_))
 refine c_seq fun K17 k17=>wp_block (c_seq fun K18 k18=>wp_region_lit (n_val (r_move) ?_))
 simp only [ev,zD,zE,zF,zG]
 refine n_val (r_assign) (n_nil (k18 _ _ ?_))
 refine c_seq fun K19 k19=>wp_region_lit (n_val (r_move) ?_)
 simp only [ev,zD,zE,zF,zG]
 refine mcallP m rfl rfl (turn_2) ?_
 clear m; intro u m
 refine n_val (r_move) (n_val (r_extract rfl rfl) (n_val (r_extract rfl rfl) ?_))
 simp only [ev,zD,zE,zF,zG]
 refine n_val (r_assign) (n_val (r_assign) (n_nil (k19 _ _ ?_)))
 simp only [ev,zD,zE,zF,zG]
 refine mq_tail m 17 follows_mixed (by kernel_rfl) ?_
 simp only [zH,zI,zJ,zK]
 refine q_val (r_move) (q_val (r_move) (q_val (r_indexAddrA Tryz.underlying112 cells_32 rfl rfl (by decide) (by decide) rfl) ?_))
 simp only [ev,zD,zE,zF,zG]
 refine ql rfl (fun u m=>((m.b 3 rfl).lies agg_32 cells_32 rfl rfl)) ?_
 simp only [ev,zD,zE,zF,zG,zH,zI,zJ,zK,Nat.zero_add,Nat.reduceAdd,Nat.reduceMul,Int.reduceToNat]
 refine q_val (r_move) (q_val (r_indexAddrA Tryz.underlying112 cells_32 rfl rfl (by decide) (by decide) rfl) ?_)
 simp only [ev,zD,zE,zF,zG]
 refine ql rfl (fun u m=>((m.b 2 rfl).lies agg_32 cells_32 rfl rfl)) ?_
 simp only [ev,zD,zE,zF,zG,zH,zI,zJ,zK,Nat.zero_add,Nat.reduceAdd,Nat.reduceMul,Int.reduceToNat]
 refine qcP rfl rfl (Mul_c Bw.up Bw.up) (q_val (r_move) (q_val (r_indexAddrA Tryz.underlying112 cells_32 rfl rfl (by decide) (by decide) rfl) ?_))
 simp only [ev,zD,zE,zF,zG]
 refine ql rfl (fun u m=>((m.b 3 rfl).lies agg_32 cells_32 rfl rfl)) ?_
 simp only [ev,zD,zE,zF,zG,zH,zI,zJ,zK,Nat.zero_add,Nat.reduceAdd,Nat.reduceMul,Int.reduceToNat]
 refine q_val (r_move) (q_val (r_indexAddrA Tryz.underlying112 cells_32 rfl rfl (by decide) (by decide) rfl) ?_)
 simp only [ev,zD,zE,zF,zG]
 refine ql rfl (fun u m=>((m.b 2 rfl).lies agg_32 cells_32 rfl rfl)) ?_
 simp only [ev,zD,zE,zF,zG,zH,zI,zJ,zK,Nat.zero_add,Nat.reduceAdd,Nat.reduceMul,Int.reduceToNat]
 refine qcP rfl rfl (Mul_c Bw.up Bw.up) ?_
 simp only [ev,zD,zE,zF,zG]
 refine qcP rfl rfl (Sub_c Bw.up Bw.up) (q_val (r_indexAddrA Tryz.underlying112 cells_32 rfl rfl (by decide) (by decide) rfl) (q_nil ?_))
 clear m; intro u m
 simp only [ev,zD,zE,zF,zG]
 refine mstoreA m 0 rfl rfl rfl cells_32 (leT rfl) rfl ?_
 clear m; intro u m; simp only [over,zH,zI,zJ,zK,zL,zM,zN,zO,zP,zF,zG,Nat.reduceAdd] at m
 refine n_nil (k17 _ _ ?_)
 refine wp_region_lit (n_val (r_add (m:=2) (n:=1) (r:=3) rfl rfl (by decide)) (n_val (r_move) (n_nil (then_rounds (c_seq fun K20 k20=>wp_region_lit (n_val (r_lssF (m:=3) (n:=3) rfl rfl (by decide)) (n_nil (k20 _ _ ?_))))))))
 refine c_seq fun K21 k21=>c_no rfl (wp_exit (k3 _ _ ?_))
 refine c_seq fun K22 k22=>wp_region_lit ?_
 simp only [ev,zD,zE,zF,zG]
 refine n_load rfl ((m.b 0 rfl).full agg_112 cells_112) ?_
 simp only [ev,zD,zE,zF,zG]
 refine mstoreA m 1 rfl rfl rfl cells_112 (leT rfl) rfl ?_
 clear m; intro u m; simp only [over,zH,zI,zJ,zK,zL,zM,zN,zO,zP,zF,zG,Nat.reduceAdd] at m
 refine n_nil (k22 _ _ ?_)
 refine wp_ret ?_
 try simp only [Exit.inBlock,Exit.then,if_true]
 refine fin1 rfl ⟨_,rfl,((m.b 1 rfl).full agg_112 cells_112)⟩ ?_
 try simp only [zD,zE]
 exact ⟨_,rfl,m.ext,rfl⟩
theorem Add0_c {b : Int} (hb : Bd 1000000 b) : Pure Tryz.prog 17 [.agg #[.bool false,.string ⟨#[]⟩],W b] (W (0 + b)):=by
 rw [← W_zero]
 exact Add_c (bd_zero _) hb
theorem farScalar_c {u v : P3} (hu : Bv 400000 u) (hv : Bv 400000 v) : Pure Tryz.prog 78 [wv u,wv v] (W (u.dot v)):=by
 intro w
 refine ⟨en_78,?_⟩
 have m:=Mem.refl w
 go_enter Tryz.func78,Tryz.ntmps78
 refine c_seq fun K1 k1=>wp_region_lit (mboxA m rfl ?_)
 clear m; intro g1 u m
 simp only [ev,zD,zE,zF,zG]
 refine mboxA m rfl ?_
 clear m; intro g2 u m
 simp only [ev,zD,zE,zF,zG]
 refine malloc m zero_32 rfl ?_
 clear m; intro g3 u m
 refine n_nil (k1 _ _ ?_)
 refine c_seq fun K2 k2=>wp_region_lit ?_
 simp only [ev,zD,zE,zF,zG]
 refine malloc m zero_32 rfl ?_
 clear m; intro g4 u m
 refine n_nil (k2 _ _ ?_)
 refine c_seq fun K3 k3=>c_seq fun K4 k4=>wp_region_lit (n_val (r_move) (n_nil (k4 _ _ ?_)))
 refine wp_block (wp_loop_rounds 4 (rounds_step (c_seq fun K5 k5=>wp_region_lit (n_val (r_lssT (m:=0) (n:=3) rfl rfl (by decide)) (n_nil (k5 _ _ ?_))))))
 refine c_seq fun K6 k6=>c_yes rfl (wp_skip (k6 _ _ ?_))
 refine c_seq fun K7 k7=>wp_block (c_seq fun K8 k8=>wp_region_lit (n_val (r_move) ?_))
 simp only [ev,zD,zE,zF,zG]
 refine n_val (r_assign) (n_nil (k8 _ _ ?_))
 simp only [ev,zD,zE,zF,zG]
 refine mq_tail m 9 follows_mixed (by kernel_rfl) ?_
 simp only [zH,zI,zJ,zK]
 refine ql rfl (fun u m=>((m.b 0 rfl).full agg_32 cells_32)) ?_
 simp only [ev,zD,zE,zF,zG]
 refine q_val (r_move) (q_val (r_indexAddrA Tryz.underlying112 cells_32 rfl rfl (by decide) (by decide) rfl) ?_)
 simp only [ev,zD,zE,zF,zG]
 refine ql rfl (fun u m=>((m.b 3 rfl).lies agg_32 cells_32 rfl rfl)) ?_
 simp only [ev,zD,zE,zF,zG,zH,zI,zJ,zK,Nat.zero_add,Nat.reduceAdd,Nat.reduceMul,Int.reduceToNat]
 refine q_val (r_move) (q_val (r_indexAddrA Tryz.underlying112 cells_32 rfl rfl (by decide) (by decide) rfl) ?_)
 simp only [ev,zD,zE,zF,zG]
 refine ql rfl (fun u m=>((m.b 2 rfl).lies agg_32 cells_32 rfl rfl)) ?_
 simp only [ev,zD,zE,zF,zG,zH,zI,zJ,zK,Nat.zero_add,Nat.reduceAdd,Nat.reduceMul,Int.reduceToNat]
 refine qcP rfl rfl (Mul_c Bw.up Bw.up) ?_
 simp only [ev,zD,zE,zF,zG]
 refine qcP rfl rfl (Add0_c Bw.up) (q_nil ?_)
 clear m; intro u m
 simp only [ev,zD,zE,zF,zG]
 refine mstoreA m 0 rfl rfl rfl cells_32 (leT rfl) rfl ?_
 clear m; intro u m; simp only [over,zH,zI,zJ,zK,zL,zM,zN,zO,zP,zF,zG,Nat.reduceAdd] at m
 refine n_nil (k7 _ _ ?_)
 refine wp_region_lit (n_val (r_add (m:=0) (n:=1) (r:=1) rfl rfl (by decide)) (n_val (r_move) (n_nil (then_rounds (c_seq fun K9 k9=>wp_region_lit (n_val (r_lssT (m:=1) (n:=3) rfl rfl (by decide)) (n_nil (k9 _ _ ?_))))))))
 refine c_seq fun K10 k10=>c_yes rfl (wp_skip (k10 _ _ ?_))
 refine c_seq fun K11 k11=>wp_block (c_seq fun K12 k12=>wp_region_lit (n_val (r_move) ?_))
 simp only [ev,zD,zE,zF,zG]
 refine n_val (r_assign) (n_nil (k12 _ _ ?_))
 simp only [ev,zD,zE,zF,zG]
 refine mq_tail m 9 follows_mixed (by kernel_rfl) ?_
 simp only [zH,zI,zJ,zK]
 refine ql rfl (fun u m=>((m.b 0 rfl).full agg_32 cells_32)) ?_
 simp only [ev,zD,zE,zF,zG]
 refine q_val (r_move) (q_val (r_indexAddrA Tryz.underlying112 cells_32 rfl rfl (by decide) (by decide) rfl) ?_)
 simp only [ev,zD,zE,zF,zG]
 refine ql rfl (fun u m=>((m.b 3 rfl).lies agg_32 cells_32 rfl rfl)) ?_
 simp only [ev,zD,zE,zF,zG,zH,zI,zJ,zK,Nat.zero_add,Nat.reduceAdd,Nat.reduceMul,Int.reduceToNat]
 refine q_val (r_move) (q_val (r_indexAddrA Tryz.underlying112 cells_32 rfl rfl (by decide) (by decide) rfl) ?_)
 simp only [ev,zD,zE,zF,zG]
 refine ql rfl (fun u m=>((m.b 2 rfl).lies agg_32 cells_32 rfl rfl)) ?_
 simp only [ev,zD,zE,zF,zG,zH,zI,zJ,zK,Nat.zero_add,Nat.reduceAdd,Nat.reduceMul,Int.reduceToNat]
 refine qcP rfl rfl (Mul_c Bw.up Bw.up) ?_
 simp only [ev,zD,zE,zF,zG]
 refine qcP rfl rfl (Add_c Bw.up Bw.up) (q_nil ?_)
 clear m; intro u m
 simp only [ev,zD,zE,zF,zG]
 refine mstoreA m 0 rfl rfl rfl cells_32 (leT rfl) rfl ?_
 clear m; intro u m; simp only [over,zH,zI,zJ,zK,zL,zM,zN,zO,zP,zF,zG,Nat.reduceAdd] at m
 refine n_nil (k11 _ _ ?_)
 refine wp_region_lit (n_val (r_add (m:=1) (n:=1) (r:=2) rfl rfl (by decide)) (n_val (r_move) (n_nil (then_rounds (c_seq fun K13 k13=>wp_region_lit (n_val (r_lssT (m:=2) (n:=3) rfl rfl (by decide)) (n_nil (k13 _ _ ?_))))))))
 refine c_seq fun K14 k14=>c_yes rfl (wp_skip (k14 _ _ ?_))
 refine c_seq fun K15 k15=>wp_block (c_seq fun K16 k16=>wp_region_lit (n_val (r_move) ?_))
 simp only [ev,zD,zE,zF,zG]
 refine n_val (r_assign) (n_nil (k16 _ _ ?_))
 simp only [ev,zD,zE,zF,zG]
 refine mq_tail m 9 follows_mixed (by kernel_rfl) ?_
 simp only [zH,zI,zJ,zK]
 refine ql rfl (fun u m=>((m.b 0 rfl).full agg_32 cells_32)) ?_
 simp only [ev,zD,zE,zF,zG]
 refine q_val (r_move) (q_val (r_indexAddrA Tryz.underlying112 cells_32 rfl rfl (by decide) (by decide) rfl) ?_)
 simp only [ev,zD,zE,zF,zG]
 refine ql rfl (fun u m=>((m.b 3 rfl).lies agg_32 cells_32 rfl rfl)) ?_
 simp only [ev,zD,zE,zF,zG,zH,zI,zJ,zK,Nat.zero_add,Nat.reduceAdd,Nat.reduceMul,Int.reduceToNat]
 refine q_val (r_move) (q_val (r_indexAddrA Tryz.underlying112 cells_32 rfl rfl (by decide) (by decide) rfl) ?_)
 simp only [ev,zD,zE,zF,zG]
 refine ql rfl (fun u m=>((m.b 2 rfl).lies agg_32 cells_32 rfl rfl)) ?_
 simp only [ev,zD,zE,zF,zG,zH,zI,zJ,zK,Nat.zero_add,Nat.reduceAdd,Nat.reduceMul,Int.reduceToNat]
 refine qcP rfl rfl (Mul_c Bw.up Bw.up) ?_
 simp only [ev,zD,zE,zF,zG]
 refine qcP rfl rfl (Add_c Bw.up Bw.up) (q_nil ?_)
 clear m; intro u m
 simp only [ev,zD,zE,zF,zG]
 refine mstoreA m 0 rfl rfl rfl cells_32 (leT rfl) rfl ?_
 clear m; intro u m; simp only [over,zH,zI,zJ,zK,zL,zM,zN,zO,zP,zF,zG,Nat.reduceAdd] at m
 refine n_nil (k15 _ _ ?_)
 refine wp_region_lit (n_val (r_add (m:=2) (n:=1) (r:=3) rfl rfl (by decide)) (n_val (r_move) (n_nil (then_rounds (c_seq fun K17 k17=>wp_region_lit (n_val (r_lssF (m:=3) (n:=3) rfl rfl (by decide)) (n_nil (k17 _ _ ?_))))))))
 refine c_seq fun K18 k18=>c_no rfl (wp_exit (k3 _ _ ?_))
 refine c_seq fun K19 k19=>wp_region_lit ?_
 simp only [ev,zD,zE,zF,zG]
 refine n_load rfl ((m.b 0 rfl).full agg_32 cells_32) ?_
 simp only [ev,zD,zE,zF,zG]
 refine mstoreA m 1 rfl rfl rfl cells_32 (leT rfl) rfl ?_
 clear m; intro u m; simp only [over,zH,zI,zJ,zK,zL,zM,zN,zO,zP,zF,zG,Nat.reduceAdd] at m
 refine n_nil (k19 _ _ ?_)
 refine wp_ret ?_
 try simp only [Exit.inBlock,Exit.then,if_true]
 refine fin1 rfl ⟨_,rfl,((m.b 1 rfl).full agg_32 cells_32)⟩ ?_
 try simp only [zD,zE]
 exact ⟨_,rfl,m.ext,by rw [← P3.dot0]; rfl⟩
end Go.Proofs.YtmcgcnpgkkfkoaaGreatDoor
namespace Go.Proofs.YtmcgcnpgkkfkoaaGreatDoor
open Go.RowKit Go.Lith
set_option maxRecDepth 100000
attribute [local irreducible] wpList wpQuiet wpMix wpMixH wpTree Code.wp
theorem Normal_c {t : T3} [IT t] : Pure Tryz.prog 47 [tr t] (wv t.normal):=by
 intro w
 refine ⟨en_47,?_⟩
 have m:=Mem.refl w
 go_enter Tryz.func47,Tryz.ntmps47
 refine c_seq fun K1 k1=>wp_region_lit (mboxA m rfl ?_)
 clear m; intro g1 u m
 simp only [ev,zD,zE,zF,zG]
 refine malloc m zero_75 rfl ?_
 clear m; intro g2 u m
 refine n_nil (k1 _ _ ?_)
 refine c_seq fun K2 k2=>?_
 simp only [ev,zD,zE,zF,zG]
 refine mq_tail m 11 follows_mixed (by kernel_rfl) ?_
 simp only [zH,zI,zJ,zK]
 refine q_val (r_indexAddrA Tryz.underlying59 cells_28 rfl rfl (by decide) (by decide) rfl) ?_
 simp only [ev,zD,zE,zF,zG]
 refine ql rfl (fun u m=>((m.b 1 rfl).lies agg_28 cells_28 rfl rfl)) ?_
 simp only [ev,zD,zE,zF,zG,zH,zI,zJ,zK,Nat.zero_add,Nat.reduceAdd,Nat.reduceMul,Int.reduceToNat]
 refine q_val (r_indexAddrA Tryz.underlying59 cells_28 rfl rfl (by decide) (by decide) rfl) ?_
 simp only [ev,zD,zE,zF,zG]
 refine ql rfl (fun u m=>((m.b 1 rfl).lies agg_28 cells_28 rfl rfl)) ?_
 simp only [ev,zD,zE,zF,zG,zH,zI,zJ,zK,Nat.zero_add,Nat.reduceAdd,Nat.reduceMul,Int.reduceToNat]
 refine qcP rfl rfl (farVector_c) (q_val (r_indexAddrA Tryz.underlying59 cells_28 rfl rfl (by decide) (by decide) rfl) ?_)
 simp only [ev,zD,zE,zF,zG]
 refine ql rfl (fun u m=>((m.b 1 rfl).lies agg_28 cells_28 rfl rfl)) ?_
 simp only [ev,zD,zE,zF,zG,zH,zI,zJ,zK,Nat.zero_add,Nat.reduceAdd,Nat.reduceMul,Int.reduceToNat]
 refine q_val (r_indexAddrA Tryz.underlying59 cells_28 rfl rfl (by decide) (by decide) rfl) ?_
 simp only [ev,zD,zE,zF,zG]
 refine ql rfl (fun u m=>((m.b 1 rfl).lies agg_28 cells_28 rfl rfl)) ?_
 simp only [ev,zD,zE,zF,zG,zH,zI,zJ,zK,Nat.zero_add,Nat.reduceAdd,Nat.reduceMul,Int.reduceToNat]
 refine qcP rfl rfl (farVector_c) ?_
 simp only [ev,zD,zE,zF,zG]
 refine qcP rfl rfl (farProduct_c Bv.of Bv.of) (q_nil ?_)
 clear m; intro u m
 simp only [ev,zD,zE,zF,zG]
 refine mstoreA m 0 rfl rfl rfl cells_75 (leT rfl) rfl ?_
 clear m; intro u m; simp only [over,zH,zI,zJ,zK,zL,zM,zN,zO,zP,zF,zG,Nat.reduceAdd] at m
 refine n_nil (k2 _ _ ?_)
 refine wp_ret ?_
 try simp only [Exit.inBlock,Exit.then,if_true]
 refine fin1 rfl ⟨_,rfl,((m.b 0 rfl).full agg_75 cells_75)⟩ ?_
 try simp only [zD,zE]
 exact ⟨_,rfl,m.ext,rfl⟩
theorem Dist2_c {p q : P3} [I3 p] [I3 q] : Pure Tryz.prog 28 [pt p,pt q] (W ((q.sub p).dot (q.sub p))):=by
 intro w
 refine ⟨en_28,?_⟩
 have m:=Mem.refl w
 go_enter Tryz.func28,Tryz.ntmps28
 refine c_seq fun K1 k1=>wp_region_lit (mboxA m rfl ?_)
 clear m; intro g1 u m
 simp only [ev,zD,zE,zF,zG]
 refine mboxA m rfl ?_
 clear m; intro g2 u m
 simp only [ev,zD,zE,zF,zG]
 refine malloc m zero_32 rfl ?_
 clear m; intro g3 u m
 refine n_nil (k1 _ _ ?_)
 refine c_seq fun K2 k2=>wp_region_lit ?_
 simp only [ev,zD,zE,zF,zG]
 refine n_load rfl ((m.b 2 rfl).full agg_28 cells_28) ?_
 simp only [ev,zD,zE,zF,zG]
 refine n_load rfl ((m.b 1 rfl).full agg_28 cells_28) ?_
 simp only [ev,zD,zE,zF,zG]
 refine mcallP m rfl rfl (farVector_c) ?_
 clear m; intro u m
 simp only [ev,zD,zE,zF,zG]
 refine malloc m zero_112 rfl ?_
 clear m; intro g4 u m
 simp only [ev,zD,zE,zF,zG]
 refine mstoreA m 0 rfl rfl rfl cells_112 (leT rfl) rfl ?_
 clear m; intro u m; simp only [over,zH,zI,zJ,zK,zL,zM,zN,zO,zP,zF,zG,Nat.reduceAdd] at m
 refine n_nil (k2 _ _ ?_)
 refine c_seq fun K3 k3=>wp_region_lit (n_load rfl ((m.b 0 rfl).full agg_112 cells_112) ?_)
 simp only [ev,zD,zE,zF,zG]
 refine n_load rfl ((m.b 0 rfl).full agg_112 cells_112) ?_
 simp only [ev,zD,zE,zF,zG]
 refine mcallP m rfl rfl (farScalar_c Bv.of Bv.of) ?_
 clear m; intro u m
 simp only [ev,zD,zE,zF,zG]
 refine mstoreA m 1 rfl rfl rfl cells_32 (leT rfl) rfl ?_
 clear m; intro u m; simp only [over,zH,zI,zJ,zK,zL,zM,zN,zO,zP,zF,zG,Nat.reduceAdd] at m
 refine n_nil (k3 _ _ ?_)
 refine wp_ret ?_
 try simp only [Exit.inBlock,Exit.then,if_true]
 refine fin1 rfl ⟨_,rfl,((m.b 1 rfl).full agg_32 cells_32)⟩ ?_
 try simp only [zD,zE]
 exact ⟨_,rfl,m.ext,rfl⟩
theorem len64_c {X : Nat} (w : World) (hX64 : X < 18446744073709551616) : Does Tryz.prog 162 [.int .u64 X] w (fun v _=>∃ n : Int,v = .int .i64 n ∧ 0 ≤ n ∧ n ≤ 64 ∧ (n ≤ 18 → X < 262144)):=by
 refine ⟨en_162,?_⟩
 have m:=Mem.refl w
 go_enter Tryz.func162,Tryz.ntmps162
 refine c_seq fun K1 k1=>wp_region_lit (n_val (r_assign) (n_nil (k1 _ _ ?_)))
 refine c_seq fun K2 k2=>c_seq fun K3 k3=>wp_region_lit (n_val (r_move) (n_val (r_geq rfl rfl) (n_nil (k3 _ _ ?_))))
 simp only [ev,zD,zE,zF,zG]
 refine c_if rfl (fun hc1=>?_) (fun hc1=>?_)
 ·
  refine c_seq fun K4 k4=>wp_region_lit (n_val (r_move) ?_)
  simp only [ev,zD,zE,zF,zG]
  refine n_val (r_shr rfl rfl (by omega) shr32n) (n_val (r_assign) (n_nil (k4 _ _ ?_)))
  refine wp_region_lit (n_val (r_assign) (n_nil (k2 _ _ ?_)))
  refine c_seq fun K5 k5=>c_seq fun K6 k6=>wp_region_lit (n_val (r_move) ?_)
  simp only [ev,zD,zE,zF,zG]
  refine n_val (r_geq rfl rfl) (n_nil (k6 _ _ ?_))
  simp only [ev,zD,zE,zF,zG]
  refine c_if rfl (fun hc2=>?_) (fun hc2=>?_)
  ·
   refine c_seq fun K7 k7=>wp_region_lit (n_val (r_move) ?_)
   simp only [ev,zD,zE,zF,zG]
   refine n_val (r_shr rfl rfl (by omega) shr16n) (n_val (r_assign) (n_nil (k7 _ _ ?_)))
   refine wp_region_lit (n_val (r_move) (n_val (r_add (m:=32) (n:=16) (r:=48) rfl rfl (by decide)) ?_))
   simp only [ev,zD,zE,zF,zG]
   refine n_val (r_assign) (n_nil (k5 _ _ ?_))
   refine c_seq fun K8 k8=>c_seq fun K9 k9=>wp_region_lit (n_val (r_move) (n_val (r_geq rfl rfl) (n_nil (k9 _ _ ?_))))
   simp only [ev,zD,zE,zF,zG]
   refine c_if rfl (fun hc3=>?_) (fun hc3=>?_)
   ·
    refine c_seq fun K10 k10=>wp_region_lit (n_val (r_move) ?_)
    simp only [ev,zD,zE,zF,zG]
    refine n_val (r_shr rfl rfl (by omega) shr8n) (n_val (r_assign) (n_nil (k10 _ _ ?_)))
    refine wp_region_lit (n_val (r_move) (n_val (r_add (m:=48) (n:=8) (r:=56) rfl rfl (by decide)) ?_))
    simp only [ev,zD,zE,zF,zG]
    refine n_val (r_assign) (n_nil (k8 _ _ ?_))
    refine c_seq fun K11 k11=>wp_region_lit (n_val (r_move) (n_val (r_move) (n_val (r_conv Tryz.underlying5 Tryz.underlying88 rfl (wrap_u8 (by omega) (by omega))) ?_)))
    simp only [ev,zD,zE,zF,zG]
    refine n_len8 Tryz.underlying9 (by kernel_rfl) rfl (by omega) ?_
    intro b hb8 hb2
    simp only [ev_tmp,ev_const,ev_func,List.getD_cons_succ,List.getD_cons_zero,List.set_cons_succ,List.set_cons_zero]
    refine n_val (r_conv Tryz.underlying3 Tryz.underlying5 rfl (wrap_i64 (by omega) (by omega))) ?_
    simp only [ev,zD,zE,zF,zG]
    refine n_val (r_add rfl rfl (wrap_i64 (by omega) (by omega))) (n_val (r_assign) (n_nil (k11 _ _ ?_)))
    refine wp_ret ?_
    simp only [ev,zD,zE,zF,zG]
    try simp only [Exit.inBlock,Exit.then,if_true]
    refine fin1 rfl rfl ?_
    try simp only [zD,zE]
    exact ⟨_,rfl,m.ext,_,rfl,by omega,by omega,by omega⟩
   ·
    refine wp_skip (k8 _ _ ?_)
    refine c_seq fun K12 k12=>wp_region_lit (n_val (r_move) (n_val (r_move) (n_val (r_conv Tryz.underlying5 Tryz.underlying88 rfl (wrap_u8 (by omega) (by omega))) ?_)))
    simp only [ev,zD,zE,zF,zG]
    refine n_len8 Tryz.underlying9 (by kernel_rfl) rfl (by omega) ?_
    intro b hb8 hb2
    simp only [ev_tmp,ev_const,ev_func,List.getD_cons_succ,List.getD_cons_zero,List.set_cons_succ,List.set_cons_zero]
    refine n_val (r_conv Tryz.underlying3 Tryz.underlying5 rfl (wrap_i64 (by omega) (by omega))) ?_
    simp only [ev,zD,zE,zF,zG]
    refine n_val (r_add rfl rfl (wrap_i64 (by omega) (by omega))) (n_val (r_assign) (n_nil (k12 _ _ ?_)))
    refine wp_ret ?_
    simp only [ev,zD,zE,zF,zG]
    try simp only [Exit.inBlock,Exit.then,if_true]
    refine fin1 rfl rfl ?_
    try simp only [zD,zE]
    exact ⟨_,rfl,m.ext,_,rfl,by omega,by omega,by omega⟩
  ·
   refine wp_skip (k5 _ _ ?_)
   refine c_seq fun K13 k13=>c_seq fun K14 k14=>wp_region_lit (n_val (r_move) (n_val (r_geq rfl rfl) (n_nil (k14 _ _ ?_))))
   simp only [ev,zD,zE,zF,zG]
   refine c_if rfl (fun hc3=>?_) (fun hc3=>?_)
   ·
    refine c_seq fun K15 k15=>wp_region_lit (n_val (r_move) ?_)
    simp only [ev,zD,zE,zF,zG]
    refine n_val (r_shr rfl rfl (by omega) shr8n) (n_val (r_assign) (n_nil (k15 _ _ ?_)))
    refine wp_region_lit (n_val (r_move) (n_val (r_add (m:=32) (n:=8) (r:=40) rfl rfl (by decide)) ?_))
    simp only [ev,zD,zE,zF,zG]
    refine n_val (r_assign) (n_nil (k13 _ _ ?_))
    refine c_seq fun K16 k16=>wp_region_lit (n_val (r_move) (n_val (r_move) (n_val (r_conv Tryz.underlying5 Tryz.underlying88 rfl (wrap_u8 (by omega) (by omega))) ?_)))
    simp only [ev,zD,zE,zF,zG]
    refine n_len8 Tryz.underlying9 (by kernel_rfl) rfl (by omega) ?_
    intro b hb8 hb2
    simp only [ev_tmp,ev_const,ev_func,List.getD_cons_succ,List.getD_cons_zero,List.set_cons_succ,List.set_cons_zero]
    refine n_val (r_conv Tryz.underlying3 Tryz.underlying5 rfl (wrap_i64 (by omega) (by omega))) ?_
    simp only [ev,zD,zE,zF,zG]
    refine n_val (r_add rfl rfl (wrap_i64 (by omega) (by omega))) (n_val (r_assign) (n_nil (k16 _ _ ?_)))
    refine wp_ret ?_
    simp only [ev,zD,zE,zF,zG]
    try simp only [Exit.inBlock,Exit.then,if_true]
    refine fin1 rfl rfl ?_
    try simp only [zD,zE]
    exact ⟨_,rfl,m.ext,_,rfl,by omega,by omega,by omega⟩
   ·
    refine wp_skip (k13 _ _ ?_)
    refine c_seq fun K17 k17=>wp_region_lit (n_val (r_move) (n_val (r_move) (n_val (r_conv Tryz.underlying5 Tryz.underlying88 rfl (wrap_u8 (by omega) (by omega))) ?_)))
    simp only [ev,zD,zE,zF,zG]
    refine n_len8 Tryz.underlying9 (by kernel_rfl) rfl (by omega) ?_
    intro b hb8 hb2
    simp only [ev_tmp,ev_const,ev_func,List.getD_cons_succ,List.getD_cons_zero,List.set_cons_succ,List.set_cons_zero]
    refine n_val (r_conv Tryz.underlying3 Tryz.underlying5 rfl (wrap_i64 (by omega) (by omega))) ?_
    simp only [ev,zD,zE,zF,zG]
    refine n_val (r_add rfl rfl (wrap_i64 (by omega) (by omega))) (n_val (r_assign) (n_nil (k17 _ _ ?_)))
    refine wp_ret ?_
    simp only [ev,zD,zE,zF,zG]
    try simp only [Exit.inBlock,Exit.then,if_true]
    refine fin1 rfl rfl ?_
    try simp only [zD,zE]
    exact ⟨_,rfl,m.ext,_,rfl,by omega,by omega,by omega⟩
 ·
  refine wp_skip (k2 _ _ ?_)
  refine c_seq fun K18 k18=>c_seq fun K19 k19=>wp_region_lit (n_val (r_move) (n_val (r_geq rfl rfl) (n_nil (k19 _ _ ?_))))
  simp only [ev,zD,zE,zF,zG]
  refine c_if rfl (fun hc2=>?_) (fun hc2=>?_)
  ·
   refine c_seq fun K20 k20=>wp_region_lit (n_val (r_move) ?_)
   simp only [ev,zD,zE,zF,zG]
   refine n_val (r_shr rfl rfl (by omega) shr16n) (n_val (r_assign) (n_nil (k20 _ _ ?_)))
   refine wp_region_lit (n_val (r_move) (n_val (r_add (m:=0) (n:=16) (r:=16) rfl rfl (by decide)) ?_))
   simp only [ev,zD,zE,zF,zG]
   refine n_val (r_assign) (n_nil (k18 _ _ ?_))
   refine c_seq fun K21 k21=>c_seq fun K22 k22=>wp_region_lit (n_val (r_move) (n_val (r_geq rfl rfl) (n_nil (k22 _ _ ?_))))
   simp only [ev,zD,zE,zF,zG]
   refine c_if rfl (fun hc3=>?_) (fun hc3=>?_)
   ·
    refine c_seq fun K23 k23=>wp_region_lit (n_val (r_move) ?_)
    simp only [ev,zD,zE,zF,zG]
    refine n_val (r_shr rfl rfl (by omega) shr8n) (n_val (r_assign) (n_nil (k23 _ _ ?_)))
    refine wp_region_lit (n_val (r_move) (n_val (r_add (m:=16) (n:=8) (r:=24) rfl rfl (by decide)) ?_))
    simp only [ev,zD,zE,zF,zG]
    refine n_val (r_assign) (n_nil (k21 _ _ ?_))
    refine c_seq fun K24 k24=>wp_region_lit (n_val (r_move) (n_val (r_move) (n_val (r_conv Tryz.underlying5 Tryz.underlying88 rfl (wrap_u8 (by omega) (by omega))) ?_)))
    simp only [ev,zD,zE,zF,zG]
    refine n_len8 Tryz.underlying9 (by kernel_rfl) rfl (by omega) ?_
    intro b hb8 hb2
    simp only [ev_tmp,ev_const,ev_func,List.getD_cons_succ,List.getD_cons_zero,List.set_cons_succ,List.set_cons_zero]
    refine n_val (r_conv Tryz.underlying3 Tryz.underlying5 rfl (wrap_i64 (by omega) (by omega))) ?_
    simp only [ev,zD,zE,zF,zG]
    refine n_val (r_add rfl rfl (wrap_i64 (by omega) (by omega))) (n_val (r_assign) (n_nil (k24 _ _ ?_)))
    refine wp_ret ?_
    simp only [ev,zD,zE,zF,zG]
    try simp only [Exit.inBlock,Exit.then,if_true]
    refine fin1 rfl rfl ?_
    try simp only [zD,zE]
    exact ⟨_,rfl,m.ext,_,rfl,by omega,by omega,by omega⟩
   ·
    refine wp_skip (k21 _ _ ?_)
    refine c_seq fun K25 k25=>wp_region_lit (n_val (r_move) (n_val (r_move) (n_val (r_conv Tryz.underlying5 Tryz.underlying88 rfl (wrap_u8 (by omega) (by omega))) ?_)))
    simp only [ev,zD,zE,zF,zG]
    refine n_len8 Tryz.underlying9 (by kernel_rfl) rfl (by omega) ?_
    intro b hb8 hb2
    simp only [ev_tmp,ev_const,ev_func,List.getD_cons_succ,List.getD_cons_zero,List.set_cons_succ,List.set_cons_zero]
    refine n_val (r_conv Tryz.underlying3 Tryz.underlying5 rfl (wrap_i64 (by omega) (by omega))) ?_
    simp only [ev,zD,zE,zF,zG]
    refine n_val (r_add rfl rfl (wrap_i64 (by omega) (by omega))) (n_val (r_assign) (n_nil (k25 _ _ ?_)))
    refine wp_ret ?_
    simp only [ev,zD,zE,zF,zG]
    try simp only [Exit.inBlock,Exit.then,if_true]
    refine fin1 rfl rfl ?_
    try simp only [zD,zE]
    exact ⟨_,rfl,m.ext,_,rfl,by omega,by omega,by omega⟩
  ·
   refine wp_skip (k18 _ _ ?_)
   refine c_seq fun K26 k26=>c_seq fun K27 k27=>wp_region_lit (n_val (r_move) (n_val (r_geq rfl rfl) (n_nil (k27 _ _ ?_))))
   simp only [ev,zD,zE,zF,zG]
   refine c_if rfl (fun hc3=>?_) (fun hc3=>?_)
   ·
    refine c_seq fun K28 k28=>wp_region_lit (n_val (r_move) ?_)
    simp only [ev,zD,zE,zF,zG]
    refine n_val (r_shr rfl rfl (by omega) shr8n) (n_val (r_assign) (n_nil (k28 _ _ ?_)))
    refine wp_region_lit (n_val (r_move) (n_val (r_add (m:=0) (n:=8) (r:=8) rfl rfl (by decide)) ?_))
    simp only [ev,zD,zE,zF,zG]
    refine n_val (r_assign) (n_nil (k26 _ _ ?_))
    refine c_seq fun K29 k29=>wp_region_lit (n_val (r_move) (n_val (r_move) (n_val (r_conv Tryz.underlying5 Tryz.underlying88 rfl (wrap_u8 (by omega) (by omega))) ?_)))
    simp only [ev,zD,zE,zF,zG]
    refine n_len8 Tryz.underlying9 (by kernel_rfl) rfl (by omega) ?_
    intro b hb8 hb2
    simp only [ev_tmp,ev_const,ev_func,List.getD_cons_succ,List.getD_cons_zero,List.set_cons_succ,List.set_cons_zero]
    refine n_val (r_conv Tryz.underlying3 Tryz.underlying5 rfl (wrap_i64 (by omega) (by omega))) ?_
    simp only [ev,zD,zE,zF,zG]
    refine n_val (r_add rfl rfl (wrap_i64 (by omega) (by omega))) (n_val (r_assign) (n_nil (k29 _ _ ?_)))
    refine wp_ret ?_
    simp only [ev,zD,zE,zF,zG]
    try simp only [Exit.inBlock,Exit.then,if_true]
    refine fin1 rfl rfl ?_
    try simp only [zD,zE]
    exact ⟨_,rfl,m.ext,_,rfl,by omega,by omega,by omega⟩
   ·
    refine wp_skip (k26 _ _ ?_)
    refine c_seq fun K30 k30=>wp_region_lit (n_val (r_move) (n_val (r_move) (n_val (r_conv Tryz.underlying5 Tryz.underlying88 rfl (wrap_u8 (by omega) (by omega))) ?_)))
    simp only [ev,zD,zE,zF,zG]
    refine n_len8 Tryz.underlying9 (by kernel_rfl) rfl (by omega) ?_
    intro b hb8 hb2
    simp only [ev_tmp,ev_const,ev_func,List.getD_cons_succ,List.getD_cons_zero,List.set_cons_succ,List.set_cons_zero]
    refine n_val (r_conv Tryz.underlying3 Tryz.underlying5 rfl (wrap_i64 (by omega) (by omega))) ?_
    simp only [ev,zD,zE,zF,zG]
    refine n_val (r_add rfl rfl (wrap_i64 (by omega) (by omega))) (n_val (r_assign) (n_nil (k30 _ _ ?_)))
    refine wp_ret ?_
    simp only [ev,zD,zE,zF,zG]
    try simp only [Exit.inBlock,Exit.then,if_true]
    refine fin1 rfl rfl ?_
    try simp only [zD,zE]
    exact ⟨_,rfl,m.ext,_,rfl,by omega,by omega,by omega⟩
theorem nearVector_c {p q : P3} [hp : S3 p] [hq : S3 q] : Pure Tryz.prog 132 [pt p,pt q] (nv (q.sub p)):=by
 intro w
 refine ⟨en_132,?_⟩
 have m:=Mem.refl w
 have:=hp.x; have:=hp.y; have:=hp.z; have:=hq.x; have:=hq.y; have:=hq.z
 go_enter Tryz.func132,Tryz.ntmps132
 refine c_seq fun K1 k1=>wp_region_lit (mboxA m rfl ?_)
 clear m; intro g1 u m
 simp only [ev,zD,zE,zF,zG]
 refine mboxA m rfl ?_
 clear m; intro g2 u m
 simp only [ev,zD,zE,zF,zG]
 refine malloc m zero_161 rfl ?_
 clear m; intro g3 u m
 refine n_nil (k1 _ _ ?_)
 refine c_seq fun K2 k2=>wp_region_lit (n_val (r_fieldAddr (c:=0) Tryz.underlying28 rfl cells_3 rfl rfl) ?_)
 simp only [ev,zD,zE,zF,zG]
 refine n_load rfl ((m.b 1 rfl).lies1 agg_3 rfl) ?_
 simp only [ev,zD,zE,zF,zG]
 refine n_val (r_fieldAddr (c:=0) Tryz.underlying28 rfl cells_3 rfl rfl) ?_
 simp only [ev,zD,zE,zF,zG]
 refine n_load rfl ((m.b 2 rfl).lies1 agg_3 rfl) ?_
 simp only [ev,zD,zE,zF,zG]
 refine n_val (r_sub rfl rfl (wrap_i64 (by omega) (by omega))) (n_val (r_fieldAddr (c:=0) Tryz.underlying28 rfl cells_3 rfl rfl) ?_)
 simp only [ev,zD,zE,zF,zG]
 refine n_load rfl ((m.b 1 rfl).lies1 agg_3 rfl) ?_
 simp only [ev,zD,zE,zF,zG]
 refine n_val (r_fieldAddr (c:=0) Tryz.underlying28 rfl cells_3 rfl rfl) ?_
 simp only [ev,zD,zE,zF,zG]
 refine n_load rfl ((m.b 2 rfl).lies1 agg_3 rfl) ?_
 simp only [ev,zD,zE,zF,zG]
 refine n_val (r_sub rfl rfl (wrap_i64 (by omega) (by omega))) (n_val (r_fieldAddr (c:=0) Tryz.underlying28 rfl cells_3 rfl rfl) ?_)
 simp only [ev,zD,zE,zF,zG]
 refine n_load rfl ((m.b 1 rfl).lies1 agg_3 rfl) ?_
 simp only [ev,zD,zE,zF,zG]
 refine n_val (r_fieldAddr (c:=0) Tryz.underlying28 rfl cells_3 rfl rfl) ?_
 simp only [ev,zD,zE,zF,zG]
 refine n_load rfl ((m.b 2 rfl).lies1 agg_3 rfl) ?_
 simp only [ev,zD,zE,zF,zG]
 refine n_val (r_sub rfl rfl (wrap_i64 (by omega) (by omega))) (n_val (r_build_161_0_1_2 rfl rfl rfl) ?_)
 simp only [ev,zD,zE,zF,zG]
 refine mstoreA m 0 rfl rfl rfl cells_161 (leT rfl) rfl ?_
 clear m; intro u m; simp only [over,zH,zI,zJ,zK,zL,zM,zN,zO,zP,zF,zG,Nat.reduceAdd] at m
 refine n_nil (k2 _ _ ?_)
 refine wp_ret ?_
 try simp only [Exit.inBlock,Exit.then,if_true]
 refine fin1 rfl ⟨_,rfl,((m.b 0 rfl).full agg_161 cells_161)⟩ ?_
 try simp only [zD,zE]
 exact ⟨_,rfl,m.ext,rfl⟩
theorem nearProduct_c {u v : P3} (hu : N3 u) (hv : N3 v) : Pure Tryz.prog 133 [nv u,nv v] (nv (u.cross v)):=by
 intro w
 refine ⟨en_133,?_⟩
 have m:=Mem.refl w
 go_enter Tryz.func133,Tryz.ntmps133
 refine c_seq fun K1 k1=>wp_region_lit (mboxA m rfl ?_)
 clear m; intro g1 u m
 simp only [ev,zD,zE,zF,zG]
 refine mboxA m rfl ?_
 clear m; intro g2 u m
 simp only [ev,zD,zE,zF,zG]
 refine malloc m zero_161 rfl ?_
 clear m; intro g3 u m
 refine n_nil (k1 _ _ ?_)
 refine c_seq fun K2 k2=>wp_region_lit ?_
 simp only [ev,zD,zE,zF,zG]
 refine malloc m zero_161 rfl ?_
 clear m; intro g4 u m
 refine n_nil (k2 _ _ ?_)
 refine c_seq fun K3 k3=>c_seq fun K4 k4=>wp_region_lit (n_val (r_move) (n_nil (k4 _ _ ?_)))
 refine wp_block (wp_loop_rounds 4 (rounds_step (c_seq fun K5 k5=>wp_region_lit (n_val (r_lssT (m:=0) (n:=3) rfl rfl (by decide)) (n_nil (k5 _ _ ?_))))))
 refine c_seq fun K6 k6=>c_yes rfl (wp_skip (k6 _ _ ?_))
 refine c_seq fun K7 k7=>wp_block (c_seq fun K8 k8=>wp_region_lit (n_val (r_move) ?_))
 simp only [ev,zD,zE,zF,zG]
 refine n_val (r_assign) (n_nil (k8 _ _ ?_))
 refine c_seq fun K9 k9=>wp_region_lit (n_val (r_move) ?_)
 simp only [ev,zD,zE,zF,zG]
 refine mcallP m rfl rfl (turn_0) ?_
 clear m; intro u m
 refine n_val (r_move) (n_val (r_extract rfl rfl) (n_val (r_extract rfl rfl) ?_))
 simp only [ev,zD,zE,zF,zG]
 refine n_val (r_assign) (n_val (r_assign) (n_nil (k9 _ _ ?_)))
 simp only [ev,zD,zE,zF,zG]
 refine mq_tail m 17 follows_mixed (by kernel_rfl) ?_
 simp only [zH,zI,zJ,zK]
 refine q_val (r_move) (q_val (r_move) (q_val (r_indexAddrA Tryz.underlying161 cells_3 rfl rfl (by decide) (by decide) rfl) ?_))
 simp only [ev,zD,zE,zF,zG]
 refine ql rfl (fun u m=>((m.b 3 rfl).lies1 agg_3 rfl)) ?_
 simp only [ev,zD,zE,zF,zG]
 refine q_val (r_move) (q_val (r_indexAddrA Tryz.underlying161 cells_3 rfl rfl (by decide) (by decide) rfl) ?_)
 simp only [ev,zD,zE,zF,zG]
 refine ql rfl (fun u m=>((m.b 2 rfl).lies1 agg_3 rfl)) ?_
 simp only [ev,zD,zE,zF,zG]
 refine q_val (r_mul rfl rfl (wrapS (mulS hu.y hv.z))) (q_val (r_move) (q_val (r_indexAddrA Tryz.underlying161 cells_3 rfl rfl (by decide) (by decide) rfl) ?_))
 simp only [ev,zD,zE,zF,zG]
 refine ql rfl (fun u m=>((m.b 3 rfl).lies1 agg_3 rfl)) ?_
 simp only [ev,zD,zE,zF,zG]
 refine q_val (r_move) (q_val (r_indexAddrA Tryz.underlying161 cells_3 rfl rfl (by decide) (by decide) rfl) ?_)
 simp only [ev,zD,zE,zF,zG]
 refine ql rfl (fun u m=>((m.b 2 rfl).lies1 agg_3 rfl)) ?_
 simp only [ev,zD,zE,zF,zG]
 refine q_val (r_mul rfl rfl (wrapS (mulS hu.z hv.y))) (q_val (r_sub rfl rfl (subS (mulS hu.y hv.z) (mulS hu.z hv.y))) (q_val (r_indexAddrA Tryz.underlying161 cells_3 rfl rfl (by decide) (by decide) rfl) (q_nil ?_)))
 clear m; intro u m
 simp only [ev,zD,zE,zF,zG]
 refine mstore1 m 0 rfl rfl rfl cells_3 (leT rfl) ⟨rfl,rfl⟩ ?_
 clear m; intro u m; simp only [over,zH,zI,zJ,zK,zL,zM,zN,zO,zP,zF,zG,Nat.reduceAdd] at m
 refine n_nil (k7 _ _ ?_)
 refine wp_region_lit (n_val (r_add (m:=0) (n:=1) (r:=1) rfl rfl (by decide)) (n_val (r_move) (n_nil (then_rounds (c_seq fun K10 k10=>wp_region_lit (n_val (r_lssT (m:=1) (n:=3) rfl rfl (by decide)) (n_nil (k10 _ _ ?_))))))))
 refine c_seq fun K11 k11=>c_yes rfl (wp_skip (k11 _ _ ?_))
 refine c_seq fun K12 k12=>wp_block (c_seq fun K13 k13=>wp_region_lit (n_val (r_move) ?_))
 simp only [ev,zD,zE,zF,zG]
 refine n_val (r_assign) (n_nil (k13 _ _ ?_))
 refine c_seq fun K14 k14=>wp_region_lit (n_val (r_move) ?_)
 simp only [ev,zD,zE,zF,zG]
 refine mcallP m rfl rfl (turn_1) ?_
 clear m; intro u m
 refine n_val (r_move) (n_val (r_extract rfl rfl) (n_val (r_extract rfl rfl) ?_))
 simp only [ev,zD,zE,zF,zG]
 refine n_val (r_assign) (n_val (r_assign) (n_nil (k14 _ _ ?_)))
 simp only [ev,zD,zE,zF,zG]
 refine mq_tail m 17 follows_mixed (by kernel_rfl) ?_
 simp only [zH,zI,zJ,zK]
 refine q_val (r_move) (q_val (r_move) (q_val (r_indexAddrA Tryz.underlying161 cells_3 rfl rfl (by decide) (by decide) rfl) ?_))
 simp only [ev,zD,zE,zF,zG]
 refine ql rfl (fun u m=>((m.b 3 rfl).lies1 agg_3 rfl)) ?_
 simp only [ev,zD,zE,zF,zG]
 refine q_val (r_move) (q_val (r_indexAddrA Tryz.underlying161 cells_3 rfl rfl (by decide) (by decide) rfl) ?_)
 simp only [ev,zD,zE,zF,zG]
 refine ql rfl (fun u m=>((m.b 2 rfl).lies1 agg_3 rfl)) ?_
 simp only [ev,zD,zE,zF,zG]
 refine q_val (r_mul rfl rfl (wrapS (mulS hu.z hv.x))) (q_val (r_move) (q_val (r_indexAddrA Tryz.underlying161 cells_3 rfl rfl (by decide) (by decide) rfl) ?_))
 simp only [ev,zD,zE,zF,zG]
 refine ql rfl (fun u m=>((m.b 3 rfl).lies1 agg_3 rfl)) ?_
 simp only [ev,zD,zE,zF,zG]
 refine q_val (r_move) (q_val (r_indexAddrA Tryz.underlying161 cells_3 rfl rfl (by decide) (by decide) rfl) ?_)
 simp only [ev,zD,zE,zF,zG]
 refine ql rfl (fun u m=>((m.b 2 rfl).lies1 agg_3 rfl)) ?_
 simp only [ev,zD,zE,zF,zG]
 refine q_val (r_mul rfl rfl (wrapS (mulS hu.x hv.z))) (q_val (r_sub rfl rfl (subS (mulS hu.z hv.x) (mulS hu.x hv.z))) (q_val (r_indexAddrA Tryz.underlying161 cells_3 rfl rfl (by decide) (by decide) rfl) (q_nil ?_)))
 clear m; intro u m
 simp only [ev,zD,zE,zF,zG]
 refine mstore1 m 0 rfl rfl rfl cells_3 (leT rfl) ⟨rfl,rfl⟩ ?_
 clear m; intro u m; simp only [over,zH,zI,zJ,zK,zL,zM,zN,zO,zP,zF,zG,Nat.reduceAdd] at m
 refine n_nil (k12 _ _ ?_)
 refine wp_region_lit (n_val (r_add (m:=1) (n:=1) (r:=2) rfl rfl (by decide)) (n_val (r_move) (n_nil (then_rounds (c_seq fun K15 k15=>wp_region_lit (n_val (r_lssT (m:=2) (n:=3) rfl rfl (by decide)) (n_nil (k15 _ _ ?_))))))))
 refine c_seq fun K16 k16=>c_yes rfl (wp_skip (k16 _ _ ?_))
 refine c_seq fun K17 k17=>wp_block (c_seq fun K18 k18=>wp_region_lit (n_val (r_move) ?_))
 simp only [ev,zD,zE,zF,zG]
 refine n_val (r_assign) (n_nil (k18 _ _ ?_))
 refine c_seq fun K19 k19=>wp_region_lit (n_val (r_move) ?_)
 simp only [ev,zD,zE,zF,zG]
 refine mcallP m rfl rfl (turn_2) ?_
 clear m; intro u m
 refine n_val (r_move) (n_val (r_extract rfl rfl) (n_val (r_extract rfl rfl) ?_))
 simp only [ev,zD,zE,zF,zG]
 refine n_val (r_assign) (n_val (r_assign) (n_nil (k19 _ _ ?_)))
 simp only [ev,zD,zE,zF,zG]
 refine mq_tail m 17 follows_mixed (by kernel_rfl) ?_
 simp only [zH,zI,zJ,zK]
 refine q_val (r_move) (q_val (r_move) (q_val (r_indexAddrA Tryz.underlying161 cells_3 rfl rfl (by decide) (by decide) rfl) ?_))
 simp only [ev,zD,zE,zF,zG]
 refine ql rfl (fun u m=>((m.b 3 rfl).lies1 agg_3 rfl)) ?_
 simp only [ev,zD,zE,zF,zG]
 refine q_val (r_move) (q_val (r_indexAddrA Tryz.underlying161 cells_3 rfl rfl (by decide) (by decide) rfl) ?_)
 simp only [ev,zD,zE,zF,zG]
 refine ql rfl (fun u m=>((m.b 2 rfl).lies1 agg_3 rfl)) ?_
 simp only [ev,zD,zE,zF,zG]
 refine q_val (r_mul rfl rfl (wrapS (mulS hu.x hv.y))) (q_val (r_move) (q_val (r_indexAddrA Tryz.underlying161 cells_3 rfl rfl (by decide) (by decide) rfl) ?_))
 simp only [ev,zD,zE,zF,zG]
 refine ql rfl (fun u m=>((m.b 3 rfl).lies1 agg_3 rfl)) ?_
 simp only [ev,zD,zE,zF,zG]
 refine q_val (r_move) (q_val (r_indexAddrA Tryz.underlying161 cells_3 rfl rfl (by decide) (by decide) rfl) ?_)
 simp only [ev,zD,zE,zF,zG]
 refine ql rfl (fun u m=>((m.b 2 rfl).lies1 agg_3 rfl)) ?_
 simp only [ev,zD,zE,zF,zG]
 refine q_val (r_mul rfl rfl (wrapS (mulS hu.y hv.x))) (q_val (r_sub rfl rfl (subS (mulS hu.x hv.y) (mulS hu.y hv.x))) (q_val (r_indexAddrA Tryz.underlying161 cells_3 rfl rfl (by decide) (by decide) rfl) (q_nil ?_)))
 clear m; intro u m
 simp only [ev,zD,zE,zF,zG]
 refine mstore1 m 0 rfl rfl rfl cells_3 (leT rfl) ⟨rfl,rfl⟩ ?_
 clear m; intro u m; simp only [over,zH,zI,zJ,zK,zL,zM,zN,zO,zP,zF,zG,Nat.reduceAdd] at m
 refine n_nil (k17 _ _ ?_)
 refine wp_region_lit (n_val (r_add (m:=2) (n:=1) (r:=3) rfl rfl (by decide)) (n_val (r_move) (n_nil (then_rounds (c_seq fun K20 k20=>wp_region_lit (n_val (r_lssF (m:=3) (n:=3) rfl rfl (by decide)) (n_nil (k20 _ _ ?_))))))))
 refine c_seq fun K21 k21=>c_no rfl (wp_exit (k3 _ _ ?_))
 refine c_seq fun K22 k22=>wp_region_lit ?_
 simp only [ev,zD,zE,zF,zG]
 refine n_load rfl ((m.b 0 rfl).full agg_161 cells_161) ?_
 simp only [ev,zD,zE,zF,zG]
 refine mstoreA m 1 rfl rfl rfl cells_161 (leT rfl) rfl ?_
 clear m; intro u m; simp only [over,zH,zI,zJ,zK,zL,zM,zN,zO,zP,zF,zG,Nat.reduceAdd] at m
 refine n_nil (k22 _ _ ?_)
 refine wp_ret ?_
 try simp only [Exit.inBlock,Exit.then,if_true]
 refine fin1 rfl ⟨_,rfl,((m.b 1 rfl).full agg_161 cells_161)⟩ ?_
 try simp only [zD,zE]
 exact ⟨_,rfl,m.ext,rfl⟩
theorem sign_c {n : Int} : Pure Tryz.prog 134 [.int .i64 n] (.int .i64 (isign n)):=by
 intro w
 refine ⟨en_134,?_⟩
 have m:=Mem.refl w
 go_enter Tryz.func134,Tryz.ntmps134
 refine c_seq fun K1 k1=>wp_region_lit (n_val (r_assign) (n_nil (k1 _ _ ?_)))
 refine c_seq fun K2 k2=>wp_block (c_seq fun K3 k3=>wp_region_lit (n_val (r_move) (n_val (r_lss rfl rfl) (n_val (r_assign) ?_))))
 simp only [ev,zD,zE,zF,zG]
 refine n_nil (k3 _ _ ?_)
 refine c_if rfl (fun hc1=>?_) (fun hc1=>?_)
 ·
  refine c_seq fun K4 k4=>wp_region_lit (n_val (r_assign) (n_nil (k4 _ _ ?_)))
  refine wp_ret ?_
  simp only [ev,zD,zE,zF,zG]
  try simp only [Exit.inBlock,Exit.then,if_true]
  refine fin1 rfl rfl ?_
  try simp only [zD,zE]
  exact ⟨_,rfl,m.ext,by rw [isign_neg (by assumption)]⟩
 ·
  refine c_seq fun K5 k5=>wp_region_lit (n_val (r_move) (n_val (r_gtr rfl rfl) (n_val (r_assign) (n_nil (k5 _ _ ?_)))))
  simp only [ev,zD,zE,zF,zG]
  refine c_if rfl (fun hc2=>?_) (fun hc2=>?_)
  ·
   refine c_seq fun K6 k6=>wp_region_lit (n_val (r_assign) (n_nil (k6 _ _ ?_)))
   refine wp_ret ?_
   simp only [ev,zD,zE,zF,zG]
   try simp only [Exit.inBlock,Exit.then,if_true]
   refine fin1 rfl rfl ?_
   try simp only [zD,zE]
   exact ⟨_,rfl,m.ext,by rw [isign_pos (by assumption)]⟩
  ·
   refine wp_skip (k2 _ _ ?_)
   refine c_seq fun K7 k7=>wp_region_lit (n_val (r_assign) (n_nil (k7 _ _ ?_)))
   refine wp_ret ?_
   simp only [ev,zD,zE,zF,zG]
   try simp only [Exit.inBlock,Exit.then,if_true]
   refine fin1 rfl rfl ?_
   try simp only [zD,zE]
   exact ⟨_,rfl,m.ext,by rw [show n = 0 by omega]; rfl⟩
end Go.Proofs.YtmcgcnpgkkfkoaaGreatDoor
namespace Go.Proofs.YtmcgcnpgkkfkoaaGreatDoor
open Go.RowKit Go.Lith
set_option maxRecDepth 100000
attribute [local irreducible] wpList wpQuiet wpMix wpMixH wpTree Code.wp
theorem exSmall_c {a b c d : P3} [I3 a] [I3 b] [I3 c] [I3 d] {g0 : Nat} (w : World) (hB0 : Blk w g0 [.int .i64 a.x,.int .i64 a.y,.int .i64 a.z,.int .i64 b.x,.int .i64 b.y,.int .i64 b.z,.int .i64 c.x,.int .i64 c.y,.int .i64 c.z,.int .i64 d.x,.int .i64 d.y,.int .i64 d.z] 28) : Does Tryz.prog 131 [.slice (some ⟨g0,0,none⟩) 4 4] w (fun v _=>∃ bo : Bool,v = .bool bo ∧ (bo = true → S3 a ∧ S3 b ∧ S3 c ∧ S3 d)):=by
 refine ⟨en_131,?_⟩
 have m:=Mem.refl w
 go_enter Tryz.func131,Tryz.ntmps131
 refine c_seq fun K1 k1=>wp_region_lit (n_val (r_assign) (n_nil (k1 _ _ ?_)))
 refine c_seq fun K2 k2=>c_seq fun K3 k3=>wp_region_lit (n_val (r_move) (n_val (r_lenS rfl Tryz.underlying118 rfl) (n_val (r_move) ?_)))
 simp only [ev,zD,zE,zF,zG]
 refine n_nil (k3 _ _ ?_)
 refine wp_block (wp_loop_rounds 5 (rounds_step (c_seq fun K4 k4=>wp_region_lit (n_val (r_lssT (m:=0) (n:=4) rfl rfl (by decide)) (n_nil (k4 _ _ ?_))))))
 refine c_seq fun K5 k5=>c_yes rfl (wp_skip (k5 _ _ ?_))
 refine c_seq fun K6 k6=>wp_block (c_seq fun K7 k7=>wp_region_lit (n_val (r_indexAddrS Tryz.underlying118 cells_28 rfl rfl (by decide) (by decide) rfl) ?_))
 simp only [ev,zD,zE,zF,zG]
 refine n_load rfl ((hB0.ext m.ext).lies agg_28 cells_28 rfl rfl) ?_
 simp only [ev,zD,zE,zF,zG,zH,zI,zJ,zK,Nat.zero_add,Nat.reduceAdd,Nat.reduceMul,Int.reduceToNat]
 refine malloc m zero_28 rfl ?_
 clear m; intro g1 u m
 simp only [ev,zD,zE,zF,zG]
 refine mstoreA m 0 rfl rfl rfl cells_28 (leT rfl) rfl ?_
 clear m; intro u m; simp only [over,zH,zI,zJ,zK,zL,zM,zN,zO,zP,zF,zG,Nat.reduceAdd] at m
 refine n_nil (k7 _ _ ?_)
 refine c_seq fun K8 k8=>wp_region_lit (n_val (r_fieldAddr (c:=0) Tryz.underlying28 rfl cells_3 rfl rfl) ?_)
 simp only [ev,zD,zE,zF,zG]
 refine n_load rfl ((m.b 0 rfl).lies1 agg_3 rfl) ?_
 simp only [ev,zD,zE,zF,zG]
 refine n_val (r_fieldAddr (c:=0) Tryz.underlying28 rfl cells_3 rfl rfl) ?_
 simp only [ev,zD,zE,zF,zG]
 refine n_load rfl ((m.b 0 rfl).lies1 agg_3 rfl) ?_
 simp only [ev,zD,zE,zF,zG]
 refine n_val (r_fieldAddr (c:=0) Tryz.underlying28 rfl cells_3 rfl rfl) ?_
 simp only [ev,zD,zE,zF,zG]
 refine n_load rfl ((m.b 0 rfl).lies1 agg_3 rfl) ?_
 simp only [ev,zD,zE,zF,zG]
 refine n_val (r_build_23_0_1_2 rfl rfl rfl) (n_val (r_move) (n_nil (k8 _ _ ?_)))
 refine wp_block (wp_loop_rounds 4 (rounds_step (c_seq fun K9 k9=>wp_region_lit (n_val (r_lssT (m:=0) (n:=3) rfl rfl (by decide)) (n_nil (k9 _ _ ?_))))))
 refine c_seq fun K10 k10=>c_yes rfl (wp_skip (k10 _ _ ?_))
 refine c_seq fun K11 k11=>wp_block (c_seq fun K12 k12=>wp_region_lit (n_val (r_index_23_0 rfl rfl) ?_))
 simp only [ev,zD,zE,zF,zG]
 refine n_val (r_assign) (n_nil (k12 _ _ ?_))
 refine c_seq fun K13 k13=>wp_region_lit (n_val (r_move) (n_val (r_move) (n_val (r_neg rfl rfl) ?_)))
 simp only [ev,zD,zE,zF,zG]
 refine n_val (r_max rfl rfl rfl) (n_val (r_conv Tryz.underlying88 Tryz.underlying3 rfl (abs64 Iw.h)) ?_)
 simp only [ev,zD,zE,zF,zG]
 refine mcall m rfl rfl (len64_c (X:=(a.x).natAbs) _ (by have:=(Iw.h : I64 a.x).natAbs; omega)) ?_
 clear m; rintro v u m ⟨n,rfl,hn0,hn1,hax⟩
 refine n_val (r_gtr rfl rfl) (n_nil (k13 _ _ ?_))
 simp only [ev,zD,zE,zF,zG]
 refine c_if rfl (fun hc3=>?_) (fun hc3=>?_)
 ·
  refine c_seq fun K14 k14=>wp_region_lit (n_val (r_assign) (n_nil (k14 _ _ ?_)))
  refine wp_ret ?_
  simp only [ev,zD,zE,zF,zG]
  try simp only [Exit.inBlock,Exit.then,if_true]
  refine fin1 rfl rfl ?_
  try simp only [zD,zE]
  exact ⟨_,rfl,m.ext,false,rfl,fun h=>by cases h⟩
 ·
  replace hax:=hax (by omega)
  clear hc3 hn0 hn1
  refine wp_skip (k11 _ _ ?_)
  refine wp_region_lit (n_val (r_add (m:=0) (n:=1) (r:=1) rfl rfl (by decide)) (n_val (r_move) (n_nil (then_rounds (c_seq fun K15 k15=>wp_region_lit (n_val (r_lssT (m:=1) (n:=3) rfl rfl (by decide)) (n_nil (k15 _ _ ?_))))))))
  refine c_seq fun K16 k16=>c_yes rfl (wp_skip (k16 _ _ ?_))
  refine c_seq fun K17 k17=>wp_block (c_seq fun K18 k18=>wp_region_lit (n_val (r_index_23_1 rfl rfl) ?_))
  simp only [ev,zD,zE,zF,zG]
  refine n_val (r_assign) (n_nil (k18 _ _ ?_))
  refine c_seq fun K19 k19=>wp_region_lit (n_val (r_move) (n_val (r_move) (n_val (r_neg rfl rfl) ?_)))
  simp only [ev,zD,zE,zF,zG]
  refine n_val (r_max rfl rfl rfl) (n_val (r_conv Tryz.underlying88 Tryz.underlying3 rfl (abs64 Iw.h)) ?_)
  simp only [ev,zD,zE,zF,zG]
  refine mcall m rfl rfl (len64_c (X:=(a.y).natAbs) _ (by have:=(Iw.h : I64 a.y).natAbs; omega)) ?_
  clear m; rintro v u m ⟨n,rfl,hn0,hn1,hay⟩
  refine n_val (r_gtr rfl rfl) (n_nil (k19 _ _ ?_))
  simp only [ev,zD,zE,zF,zG]
  refine c_if rfl (fun hc3=>?_) (fun hc3=>?_)
  ·
   refine c_seq fun K20 k20=>wp_region_lit (n_val (r_assign) (n_nil (k20 _ _ ?_)))
   refine wp_ret ?_
   simp only [ev,zD,zE,zF,zG]
   try simp only [Exit.inBlock,Exit.then,if_true]
   refine fin1 rfl rfl ?_
   try simp only [zD,zE]
   exact ⟨_,rfl,m.ext,false,rfl,fun h=>by cases h⟩
  ·
   replace hay:=hay (by omega)
   clear hc3 hn0 hn1
   refine wp_skip (k17 _ _ ?_)
   refine wp_region_lit (n_val (r_add (m:=1) (n:=1) (r:=2) rfl rfl (by decide)) (n_val (r_move) (n_nil (then_rounds (c_seq fun K21 k21=>wp_region_lit (n_val (r_lssT (m:=2) (n:=3) rfl rfl (by decide)) (n_nil (k21 _ _ ?_))))))))
   refine c_seq fun K22 k22=>c_yes rfl (wp_skip (k22 _ _ ?_))
   refine c_seq fun K23 k23=>wp_block (c_seq fun K24 k24=>wp_region_lit (n_val (r_index_23_2 rfl rfl) ?_))
   simp only [ev,zD,zE,zF,zG]
   refine n_val (r_assign) (n_nil (k24 _ _ ?_))
   refine c_seq fun K25 k25=>wp_region_lit (n_val (r_move) (n_val (r_move) (n_val (r_neg rfl rfl) ?_)))
   simp only [ev,zD,zE,zF,zG]
   refine n_val (r_max rfl rfl rfl) (n_val (r_conv Tryz.underlying88 Tryz.underlying3 rfl (abs64 Iw.h)) ?_)
   simp only [ev,zD,zE,zF,zG]
   refine mcall m rfl rfl (len64_c (X:=(a.z).natAbs) _ (by have:=(Iw.h : I64 a.z).natAbs; omega)) ?_
   clear m; rintro v u m ⟨n,rfl,hn0,hn1,haz⟩
   refine n_val (r_gtr rfl rfl) (n_nil (k25 _ _ ?_))
   simp only [ev,zD,zE,zF,zG]
   refine c_if rfl (fun hc3=>?_) (fun hc3=>?_)
   ·
    refine c_seq fun K26 k26=>wp_region_lit (n_val (r_assign) (n_nil (k26 _ _ ?_)))
    refine wp_ret ?_
    simp only [ev,zD,zE,zF,zG]
    try simp only [Exit.inBlock,Exit.then,if_true]
    refine fin1 rfl rfl ?_
    try simp only [zD,zE]
    exact ⟨_,rfl,m.ext,false,rfl,fun h=>by cases h⟩
   ·
    replace haz:=haz (by omega)
    clear hc3 hn0 hn1
    refine wp_skip (k23 _ _ ?_)
    refine wp_region_lit (n_val (r_add (m:=2) (n:=1) (r:=3) rfl rfl (by decide)) (n_val (r_move) (n_nil (then_rounds (c_seq fun K27 k27=>wp_region_lit (n_val (r_lssF (m:=3) (n:=3) rfl rfl (by decide)) (n_nil (k27 _ _ ?_))))))))
    refine c_seq fun K28 k28=>c_no rfl (wp_exit (k6 _ _ ?_))
    refine wp_region_lit (n_val (r_add (m:=0) (n:=1) (r:=1) rfl rfl (by decide)) ?_)
    simp only [ev,zD,zE,zF,zG]
    refine n_val (r_move) (n_nil (then_rounds (c_seq fun K29 k29=>wp_region_lit (n_val (r_lssT (m:=1) (n:=4) rfl rfl (by decide)) (n_nil (k29 _ _ ?_))))))
    refine c_seq fun K30 k30=>c_yes rfl (wp_skip (k30 _ _ ?_))
    refine c_seq fun K31 k31=>wp_block (c_seq fun K32 k32=>wp_region_lit (n_val (r_indexAddrS Tryz.underlying118 cells_28 rfl rfl (by decide) (by decide) rfl) ?_))
    simp only [ev,zD,zE,zF,zG]
    refine n_load rfl ((hB0.ext m.ext).lies agg_28 cells_28 rfl rfl) ?_
    simp only [ev,zD,zE,zF,zG,zH,zI,zJ,zK,Nat.zero_add,Nat.reduceAdd,Nat.reduceMul,Int.reduceToNat]
    refine malloc m zero_28 rfl ?_
    clear m; intro g2 u m
    simp only [ev,zD,zE,zF,zG]
    refine mstoreA m 0 rfl rfl rfl cells_28 (leT rfl) rfl ?_
    clear m; intro u m; simp only [over,zH,zI,zJ,zK,zL,zM,zN,zO,zP,zF,zG,Nat.reduceAdd] at m
    refine n_nil (k32 _ _ ?_)
    refine c_seq fun K33 k33=>wp_region_lit (n_val (r_fieldAddr (c:=0) Tryz.underlying28 rfl cells_3 rfl rfl) ?_)
    simp only [ev,zD,zE,zF,zG]
    refine n_load rfl ((m.b 0 rfl).lies1 agg_3 rfl) ?_
    simp only [ev,zD,zE,zF,zG]
    refine n_val (r_fieldAddr (c:=0) Tryz.underlying28 rfl cells_3 rfl rfl) ?_
    simp only [ev,zD,zE,zF,zG]
    refine n_load rfl ((m.b 0 rfl).lies1 agg_3 rfl) ?_
    simp only [ev,zD,zE,zF,zG]
    refine n_val (r_fieldAddr (c:=0) Tryz.underlying28 rfl cells_3 rfl rfl) ?_
    simp only [ev,zD,zE,zF,zG]
    refine n_load rfl ((m.b 0 rfl).lies1 agg_3 rfl) ?_
    simp only [ev,zD,zE,zF,zG]
    refine n_val (r_build_23_0_1_2 rfl rfl rfl) (n_val (r_move) (n_nil (k33 _ _ ?_)))
    refine wp_block (wp_loop_rounds 4 (rounds_step (c_seq fun K34 k34=>wp_region_lit (n_val (r_lssT (m:=0) (n:=3) rfl rfl (by decide)) (n_nil (k34 _ _ ?_))))))
    refine c_seq fun K35 k35=>c_yes rfl (wp_skip (k35 _ _ ?_))
    refine c_seq fun K36 k36=>wp_block (c_seq fun K37 k37=>wp_region_lit (n_val (r_index_23_0 rfl rfl) ?_))
    simp only [ev,zD,zE,zF,zG]
    refine n_val (r_assign) (n_nil (k37 _ _ ?_))
    refine c_seq fun K38 k38=>wp_region_lit (n_val (r_move) (n_val (r_move) (n_val (r_neg rfl rfl) ?_)))
    simp only [ev,zD,zE,zF,zG]
    refine n_val (r_max rfl rfl rfl) (n_val (r_conv Tryz.underlying88 Tryz.underlying3 rfl (abs64 Iw.h)) ?_)
    simp only [ev,zD,zE,zF,zG]
    refine mcall m rfl rfl (len64_c (X:=(b.x).natAbs) _ (by have:=(Iw.h : I64 b.x).natAbs; omega)) ?_
    clear m; rintro v u m ⟨n,rfl,hn0,hn1,hbx⟩
    refine n_val (r_gtr rfl rfl) (n_nil (k38 _ _ ?_))
    simp only [ev,zD,zE,zF,zG]
    refine c_if rfl (fun hc3=>?_) (fun hc3=>?_)
    ·
     refine c_seq fun K39 k39=>wp_region_lit (n_val (r_assign) (n_nil (k39 _ _ ?_)))
     refine wp_ret ?_
     simp only [ev,zD,zE,zF,zG]
     try simp only [Exit.inBlock,Exit.then,if_true]
     refine fin1 rfl rfl ?_
     try simp only [zD,zE]
     exact ⟨_,rfl,m.ext,false,rfl,fun h=>by cases h⟩
    ·
     replace hbx:=hbx (by omega)
     clear hc3 hn0 hn1
     refine wp_skip (k36 _ _ ?_)
     refine wp_region_lit (n_val (r_add (m:=0) (n:=1) (r:=1) rfl rfl (by decide)) (n_val (r_move) (n_nil (then_rounds (c_seq fun K40 k40=>wp_region_lit (n_val (r_lssT (m:=1) (n:=3) rfl rfl (by decide)) (n_nil (k40 _ _ ?_))))))))
     refine c_seq fun K41 k41=>c_yes rfl (wp_skip (k41 _ _ ?_))
     refine c_seq fun K42 k42=>wp_block (c_seq fun K43 k43=>wp_region_lit (n_val (r_index_23_1 rfl rfl) ?_))
     simp only [ev,zD,zE,zF,zG]
     refine n_val (r_assign) (n_nil (k43 _ _ ?_))
     refine c_seq fun K44 k44=>wp_region_lit (n_val (r_move) (n_val (r_move) (n_val (r_neg rfl rfl) ?_)))
     simp only [ev,zD,zE,zF,zG]
     refine n_val (r_max rfl rfl rfl) (n_val (r_conv Tryz.underlying88 Tryz.underlying3 rfl (abs64 Iw.h)) ?_)
     simp only [ev,zD,zE,zF,zG]
     refine mcall m rfl rfl (len64_c (X:=(b.y).natAbs) _ (by have:=(Iw.h : I64 b.y).natAbs; omega)) ?_
     clear m; rintro v u m ⟨n,rfl,hn0,hn1,hby⟩
     refine n_val (r_gtr rfl rfl) (n_nil (k44 _ _ ?_))
     simp only [ev,zD,zE,zF,zG]
     refine c_if rfl (fun hc3=>?_) (fun hc3=>?_)
     ·
      refine c_seq fun K45 k45=>wp_region_lit (n_val (r_assign) (n_nil (k45 _ _ ?_)))
      refine wp_ret ?_
      simp only [ev,zD,zE,zF,zG]
      try simp only [Exit.inBlock,Exit.then,if_true]
      refine fin1 rfl rfl ?_
      try simp only [zD,zE]
      exact ⟨_,rfl,m.ext,false,rfl,fun h=>by cases h⟩
     ·
      replace hby:=hby (by omega)
      clear hc3 hn0 hn1
      refine wp_skip (k42 _ _ ?_)
      refine wp_region_lit (n_val (r_add (m:=1) (n:=1) (r:=2) rfl rfl (by decide)) (n_val (r_move) (n_nil (then_rounds (c_seq fun K46 k46=>wp_region_lit (n_val (r_lssT (m:=2) (n:=3) rfl rfl (by decide)) (n_nil (k46 _ _ ?_))))))))
      refine c_seq fun K47 k47=>c_yes rfl (wp_skip (k47 _ _ ?_))
      refine c_seq fun K48 k48=>wp_block (c_seq fun K49 k49=>wp_region_lit (n_val (r_index_23_2 rfl rfl) ?_))
      simp only [ev,zD,zE,zF,zG]
      refine n_val (r_assign) (n_nil (k49 _ _ ?_))
      refine c_seq fun K50 k50=>wp_region_lit (n_val (r_move) (n_val (r_move) (n_val (r_neg rfl rfl) ?_)))
      simp only [ev,zD,zE,zF,zG]
      refine n_val (r_max rfl rfl rfl) (n_val (r_conv Tryz.underlying88 Tryz.underlying3 rfl (abs64 Iw.h)) ?_)
      simp only [ev,zD,zE,zF,zG]
      refine mcall m rfl rfl (len64_c (X:=(b.z).natAbs) _ (by have:=(Iw.h : I64 b.z).natAbs; omega)) ?_
      clear m; rintro v u m ⟨n,rfl,hn0,hn1,hbz⟩
      refine n_val (r_gtr rfl rfl) (n_nil (k50 _ _ ?_))
      simp only [ev,zD,zE,zF,zG]
      refine c_if rfl (fun hc3=>?_) (fun hc3=>?_)
      ·
       refine c_seq fun K51 k51=>wp_region_lit (n_val (r_assign) (n_nil (k51 _ _ ?_)))
       refine wp_ret ?_
       simp only [ev,zD,zE,zF,zG]
       try simp only [Exit.inBlock,Exit.then,if_true]
       refine fin1 rfl rfl ?_
       try simp only [zD,zE]
       exact ⟨_,rfl,m.ext,false,rfl,fun h=>by cases h⟩
      ·
       replace hbz:=hbz (by omega)
       clear hc3 hn0 hn1
       refine wp_skip (k48 _ _ ?_)
       refine wp_region_lit (n_val (r_add (m:=2) (n:=1) (r:=3) rfl rfl (by decide)) (n_val (r_move) (n_nil (then_rounds (c_seq fun K52 k52=>wp_region_lit (n_val (r_lssF (m:=3) (n:=3) rfl rfl (by decide)) (n_nil (k52 _ _ ?_))))))))
       refine c_seq fun K53 k53=>c_no rfl (wp_exit (k31 _ _ ?_))
       refine wp_region_lit (n_val (r_add (m:=1) (n:=1) (r:=2) rfl rfl (by decide)) ?_)
       simp only [ev,zD,zE,zF,zG]
       refine n_val (r_move) (n_nil (then_rounds (c_seq fun K54 k54=>wp_region_lit (n_val (r_lssT (m:=2) (n:=4) rfl rfl (by decide)) (n_nil (k54 _ _ ?_))))))
       refine c_seq fun K55 k55=>c_yes rfl (wp_skip (k55 _ _ ?_))
       refine c_seq fun K56 k56=>wp_block (c_seq fun K57 k57=>wp_region_lit (n_val (r_indexAddrS Tryz.underlying118 cells_28 rfl rfl (by decide) (by decide) rfl) ?_))
       simp only [ev,zD,zE,zF,zG]
       refine n_load rfl ((hB0.ext m.ext).lies agg_28 cells_28 rfl rfl) ?_
       simp only [ev,zD,zE,zF,zG,zH,zI,zJ,zK,Nat.zero_add,Nat.reduceAdd,Nat.reduceMul,Int.reduceToNat]
       refine malloc m zero_28 rfl ?_
       clear m; intro g3 u m
       simp only [ev,zD,zE,zF,zG]
       refine mstoreA m 0 rfl rfl rfl cells_28 (leT rfl) rfl ?_
       clear m; intro u m; simp only [over,zH,zI,zJ,zK,zL,zM,zN,zO,zP,zF,zG,Nat.reduceAdd] at m
       refine n_nil (k57 _ _ ?_)
       refine c_seq fun K58 k58=>wp_region_lit (n_val (r_fieldAddr (c:=0) Tryz.underlying28 rfl cells_3 rfl rfl) ?_)
       simp only [ev,zD,zE,zF,zG]
       refine n_load rfl ((m.b 0 rfl).lies1 agg_3 rfl) ?_
       simp only [ev,zD,zE,zF,zG]
       refine n_val (r_fieldAddr (c:=0) Tryz.underlying28 rfl cells_3 rfl rfl) ?_
       simp only [ev,zD,zE,zF,zG]
       refine n_load rfl ((m.b 0 rfl).lies1 agg_3 rfl) ?_
       simp only [ev,zD,zE,zF,zG]
       refine n_val (r_fieldAddr (c:=0) Tryz.underlying28 rfl cells_3 rfl rfl) ?_
       simp only [ev,zD,zE,zF,zG]
       refine n_load rfl ((m.b 0 rfl).lies1 agg_3 rfl) ?_
       simp only [ev,zD,zE,zF,zG]
       refine n_val (r_build_23_0_1_2 rfl rfl rfl) (n_val (r_move) (n_nil (k58 _ _ ?_)))
       refine wp_block (wp_loop_rounds 4 (rounds_step (c_seq fun K59 k59=>wp_region_lit (n_val (r_lssT (m:=0) (n:=3) rfl rfl (by decide)) (n_nil (k59 _ _ ?_))))))
       refine c_seq fun K60 k60=>c_yes rfl (wp_skip (k60 _ _ ?_))
       refine c_seq fun K61 k61=>wp_block (c_seq fun K62 k62=>wp_region_lit (n_val (r_index_23_0 rfl rfl) ?_))
       simp only [ev,zD,zE,zF,zG]
       refine n_val (r_assign) (n_nil (k62 _ _ ?_))
       refine c_seq fun K63 k63=>wp_region_lit (n_val (r_move) (n_val (r_move) (n_val (r_neg rfl rfl) ?_)))
       simp only [ev,zD,zE,zF,zG]
       refine n_val (r_max rfl rfl rfl) (n_val (r_conv Tryz.underlying88 Tryz.underlying3 rfl (abs64 Iw.h)) ?_)
       simp only [ev,zD,zE,zF,zG]
       refine mcall m rfl rfl (len64_c (X:=(c.x).natAbs) _ (by have:=(Iw.h : I64 c.x).natAbs; omega)) ?_
       clear m; rintro v u m ⟨n,rfl,hn0,hn1,hcx⟩
       refine n_val (r_gtr rfl rfl) (n_nil (k63 _ _ ?_))
       simp only [ev,zD,zE,zF,zG]
       refine c_if rfl (fun hc3=>?_) (fun hc3=>?_)
       ·
        refine c_seq fun K64 k64=>wp_region_lit (n_val (r_assign) (n_nil (k64 _ _ ?_)))
        refine wp_ret ?_
        simp only [ev,zD,zE,zF,zG]
        try simp only [Exit.inBlock,Exit.then,if_true]
        refine fin1 rfl rfl ?_
        try simp only [zD,zE]
        exact ⟨_,rfl,m.ext,false,rfl,fun h=>by cases h⟩
       ·
        replace hcx:=hcx (by omega)
        clear hc3 hn0 hn1
        refine wp_skip (k61 _ _ ?_)
        refine wp_region_lit (n_val (r_add (m:=0) (n:=1) (r:=1) rfl rfl (by decide)) (n_val (r_move) (n_nil (then_rounds (c_seq fun K65 k65=>wp_region_lit (n_val (r_lssT (m:=1) (n:=3) rfl rfl (by decide)) (n_nil (k65 _ _ ?_))))))))
        refine c_seq fun K66 k66=>c_yes rfl (wp_skip (k66 _ _ ?_))
        refine c_seq fun K67 k67=>wp_block (c_seq fun K68 k68=>wp_region_lit (n_val (r_index_23_1 rfl rfl) ?_))
        simp only [ev,zD,zE,zF,zG]
        refine n_val (r_assign) (n_nil (k68 _ _ ?_))
        refine c_seq fun K69 k69=>wp_region_lit (n_val (r_move) (n_val (r_move) (n_val (r_neg rfl rfl) ?_)))
        simp only [ev,zD,zE,zF,zG]
        refine n_val (r_max rfl rfl rfl) (n_val (r_conv Tryz.underlying88 Tryz.underlying3 rfl (abs64 Iw.h)) ?_)
        simp only [ev,zD,zE,zF,zG]
        refine mcall m rfl rfl (len64_c (X:=(c.y).natAbs) _ (by have:=(Iw.h : I64 c.y).natAbs; omega)) ?_
        clear m; rintro v u m ⟨n,rfl,hn0,hn1,hcy⟩
        refine n_val (r_gtr rfl rfl) (n_nil (k69 _ _ ?_))
        simp only [ev,zD,zE,zF,zG]
        refine c_if rfl (fun hc3=>?_) (fun hc3=>?_)
        ·
         refine c_seq fun K70 k70=>wp_region_lit (n_val (r_assign) (n_nil (k70 _ _ ?_)))
         refine wp_ret ?_
         simp only [ev,zD,zE,zF,zG]
         try simp only [Exit.inBlock,Exit.then,if_true]
         refine fin1 rfl rfl ?_
         try simp only [zD,zE]
         exact ⟨_,rfl,m.ext,false,rfl,fun h=>by cases h⟩
        ·
         replace hcy:=hcy (by omega)
         clear hc3 hn0 hn1
         refine wp_skip (k67 _ _ ?_)
         refine wp_region_lit (n_val (r_add (m:=1) (n:=1) (r:=2) rfl rfl (by decide)) (n_val (r_move) (n_nil (then_rounds (c_seq fun K71 k71=>wp_region_lit (n_val (r_lssT (m:=2) (n:=3) rfl rfl (by decide)) (n_nil (k71 _ _ ?_))))))))
         refine c_seq fun K72 k72=>c_yes rfl (wp_skip (k72 _ _ ?_))
         refine c_seq fun K73 k73=>wp_block (c_seq fun K74 k74=>wp_region_lit (n_val (r_index_23_2 rfl rfl) ?_))
         simp only [ev,zD,zE,zF,zG]
         refine n_val (r_assign) (n_nil (k74 _ _ ?_))
         refine c_seq fun K75 k75=>wp_region_lit (n_val (r_move) (n_val (r_move) (n_val (r_neg rfl rfl) ?_)))
         simp only [ev,zD,zE,zF,zG]
         refine n_val (r_max rfl rfl rfl) (n_val (r_conv Tryz.underlying88 Tryz.underlying3 rfl (abs64 Iw.h)) ?_)
         simp only [ev,zD,zE,zF,zG]
         refine mcall m rfl rfl (len64_c (X:=(c.z).natAbs) _ (by have:=(Iw.h : I64 c.z).natAbs; omega)) ?_
         clear m; rintro v u m ⟨n,rfl,hn0,hn1,hcz⟩
         refine n_val (r_gtr rfl rfl) (n_nil (k75 _ _ ?_))
         simp only [ev,zD,zE,zF,zG]
         refine c_if rfl (fun hc3=>?_) (fun hc3=>?_)
         ·
          refine c_seq fun K76 k76=>wp_region_lit (n_val (r_assign) (n_nil (k76 _ _ ?_)))
          refine wp_ret ?_
          simp only [ev,zD,zE,zF,zG]
          try simp only [Exit.inBlock,Exit.then,if_true]
          refine fin1 rfl rfl ?_
          try simp only [zD,zE]
          exact ⟨_,rfl,m.ext,false,rfl,fun h=>by cases h⟩
         ·
          replace hcz:=hcz (by omega)
          clear hc3 hn0 hn1
          refine wp_skip (k73 _ _ ?_)
          refine wp_region_lit (n_val (r_add (m:=2) (n:=1) (r:=3) rfl rfl (by decide)) (n_val (r_move) (n_nil (then_rounds (c_seq fun K77 k77=>wp_region_lit (n_val (r_lssF (m:=3) (n:=3) rfl rfl (by decide)) (n_nil (k77 _ _ ?_))))))))
          refine c_seq fun K78 k78=>c_no rfl (wp_exit (k56 _ _ ?_))
          refine wp_region_lit (n_val (r_add (m:=2) (n:=1) (r:=3) rfl rfl (by decide)) ?_)
          simp only [ev,zD,zE,zF,zG]
          refine n_val (r_move) (n_nil (then_rounds (c_seq fun K79 k79=>wp_region_lit (n_val (r_lssT (m:=3) (n:=4) rfl rfl (by decide)) (n_nil (k79 _ _ ?_))))))
          refine c_seq fun K80 k80=>c_yes rfl (wp_skip (k80 _ _ ?_))
          refine c_seq fun K81 k81=>wp_block (c_seq fun K82 k82=>wp_region_lit (n_val (r_indexAddrS Tryz.underlying118 cells_28 rfl rfl (by decide) (by decide) rfl) ?_))
          simp only [ev,zD,zE,zF,zG]
          refine n_load rfl ((hB0.ext m.ext).lies agg_28 cells_28 rfl rfl) ?_
          simp only [ev,zD,zE,zF,zG,zH,zI,zJ,zK,Nat.zero_add,Nat.reduceAdd,Nat.reduceMul,Int.reduceToNat]
          refine malloc m zero_28 rfl ?_
          clear m; intro g4 u m
          simp only [ev,zD,zE,zF,zG]
          refine mstoreA m 0 rfl rfl rfl cells_28 (leT rfl) rfl ?_
          clear m; intro u m; simp only [over,zH,zI,zJ,zK,zL,zM,zN,zO,zP,zF,zG,Nat.reduceAdd] at m
          refine n_nil (k82 _ _ ?_)
          refine c_seq fun K83 k83=>wp_region_lit (n_val (r_fieldAddr (c:=0) Tryz.underlying28 rfl cells_3 rfl rfl) ?_)
          simp only [ev,zD,zE,zF,zG]
          refine n_load rfl ((m.b 0 rfl).lies1 agg_3 rfl) ?_
          simp only [ev,zD,zE,zF,zG]
          refine n_val (r_fieldAddr (c:=0) Tryz.underlying28 rfl cells_3 rfl rfl) ?_
          simp only [ev,zD,zE,zF,zG]
          refine n_load rfl ((m.b 0 rfl).lies1 agg_3 rfl) ?_
          simp only [ev,zD,zE,zF,zG]
          refine n_val (r_fieldAddr (c:=0) Tryz.underlying28 rfl cells_3 rfl rfl) ?_
          simp only [ev,zD,zE,zF,zG]
          refine n_load rfl ((m.b 0 rfl).lies1 agg_3 rfl) ?_
          simp only [ev,zD,zE,zF,zG]
          refine n_val (r_build_23_0_1_2 rfl rfl rfl) (n_val (r_move) (n_nil (k83 _ _ ?_)))
          refine wp_block (wp_loop_rounds 4 (rounds_step (c_seq fun K84 k84=>wp_region_lit (n_val (r_lssT (m:=0) (n:=3) rfl rfl (by decide)) (n_nil (k84 _ _ ?_))))))
          refine c_seq fun K85 k85=>c_yes rfl (wp_skip (k85 _ _ ?_))
          refine c_seq fun K86 k86=>wp_block (c_seq fun K87 k87=>wp_region_lit (n_val (r_index_23_0 rfl rfl) ?_))
          simp only [ev,zD,zE,zF,zG]
          refine n_val (r_assign) (n_nil (k87 _ _ ?_))
          refine c_seq fun K88 k88=>wp_region_lit (n_val (r_move) (n_val (r_move) (n_val (r_neg rfl rfl) ?_)))
          simp only [ev,zD,zE,zF,zG]
          refine n_val (r_max rfl rfl rfl) (n_val (r_conv Tryz.underlying88 Tryz.underlying3 rfl (abs64 Iw.h)) ?_)
          simp only [ev,zD,zE,zF,zG]
          refine mcall m rfl rfl (len64_c (X:=(d.x).natAbs) _ (by have:=(Iw.h : I64 d.x).natAbs; omega)) ?_
          clear m; rintro v u m ⟨n,rfl,hn0,hn1,hdx⟩
          refine n_val (r_gtr rfl rfl) (n_nil (k88 _ _ ?_))
          simp only [ev,zD,zE,zF,zG]
          refine c_if rfl (fun hc3=>?_) (fun hc3=>?_)
          ·
           refine c_seq fun K89 k89=>wp_region_lit (n_val (r_assign) (n_nil (k89 _ _ ?_)))
           refine wp_ret ?_
           simp only [ev,zD,zE,zF,zG]
           try simp only [Exit.inBlock,Exit.then,if_true]
           refine fin1 rfl rfl ?_
           try simp only [zD,zE]
           exact ⟨_,rfl,m.ext,false,rfl,fun h=>by cases h⟩
          ·
           replace hdx:=hdx (by omega)
           clear hc3 hn0 hn1
           refine wp_skip (k86 _ _ ?_)
           refine wp_region_lit (n_val (r_add (m:=0) (n:=1) (r:=1) rfl rfl (by decide)) (n_val (r_move) (n_nil (then_rounds (c_seq fun K90 k90=>wp_region_lit (n_val (r_lssT (m:=1) (n:=3) rfl rfl (by decide)) (n_nil (k90 _ _ ?_))))))))
           refine c_seq fun K91 k91=>c_yes rfl (wp_skip (k91 _ _ ?_))
           refine c_seq fun K92 k92=>wp_block (c_seq fun K93 k93=>wp_region_lit (n_val (r_index_23_1 rfl rfl) ?_))
           simp only [ev,zD,zE,zF,zG]
           refine n_val (r_assign) (n_nil (k93 _ _ ?_))
           refine c_seq fun K94 k94=>wp_region_lit (n_val (r_move) (n_val (r_move) (n_val (r_neg rfl rfl) ?_)))
           simp only [ev,zD,zE,zF,zG]
           refine n_val (r_max rfl rfl rfl) (n_val (r_conv Tryz.underlying88 Tryz.underlying3 rfl (abs64 Iw.h)) ?_)
           simp only [ev,zD,zE,zF,zG]
           refine mcall m rfl rfl (len64_c (X:=(d.y).natAbs) _ (by have:=(Iw.h : I64 d.y).natAbs; omega)) ?_
           clear m; rintro v u m ⟨n,rfl,hn0,hn1,hdy⟩
           refine n_val (r_gtr rfl rfl) (n_nil (k94 _ _ ?_))
           simp only [ev,zD,zE,zF,zG]
           refine c_if rfl (fun hc3=>?_) (fun hc3=>?_)
           ·
            refine c_seq fun K95 k95=>wp_region_lit (n_val (r_assign) (n_nil (k95 _ _ ?_)))
            refine wp_ret ?_
            simp only [ev,zD,zE,zF,zG]
            try simp only [Exit.inBlock,Exit.then,if_true]
            refine fin1 rfl rfl ?_
            try simp only [zD,zE]
            exact ⟨_,rfl,m.ext,false,rfl,fun h=>by cases h⟩
           ·
            replace hdy:=hdy (by omega)
            clear hc3 hn0 hn1
            refine wp_skip (k92 _ _ ?_)
            refine wp_region_lit (n_val (r_add (m:=1) (n:=1) (r:=2) rfl rfl (by decide)) (n_val (r_move) (n_nil (then_rounds (c_seq fun K96 k96=>wp_region_lit (n_val (r_lssT (m:=2) (n:=3) rfl rfl (by decide)) (n_nil (k96 _ _ ?_))))))))
            refine c_seq fun K97 k97=>c_yes rfl (wp_skip (k97 _ _ ?_))
            refine c_seq fun K98 k98=>wp_block (c_seq fun K99 k99=>wp_region_lit (n_val (r_index_23_2 rfl rfl) ?_))
            simp only [ev,zD,zE,zF,zG]
            refine n_val (r_assign) (n_nil (k99 _ _ ?_))
            refine c_seq fun K100 k100=>wp_region_lit (n_val (r_move) (n_val (r_move) (n_val (r_neg rfl rfl) ?_)))
            simp only [ev,zD,zE,zF,zG]
            refine n_val (r_max rfl rfl rfl) (n_val (r_conv Tryz.underlying88 Tryz.underlying3 rfl (abs64 Iw.h)) ?_)
            simp only [ev,zD,zE,zF,zG]
            refine mcall m rfl rfl (len64_c (X:=(d.z).natAbs) _ (by have:=(Iw.h : I64 d.z).natAbs; omega)) ?_
            clear m; rintro v u m ⟨n,rfl,hn0,hn1,hdz⟩
            refine n_val (r_gtr rfl rfl) (n_nil (k100 _ _ ?_))
            simp only [ev,zD,zE,zF,zG]
            refine c_if rfl (fun hc3=>?_) (fun hc3=>?_)
            ·
             refine c_seq fun K101 k101=>wp_region_lit (n_val (r_assign) (n_nil (k101 _ _ ?_)))
             refine wp_ret ?_
             simp only [ev,zD,zE,zF,zG]
             try simp only [Exit.inBlock,Exit.then,if_true]
             refine fin1 rfl rfl ?_
             try simp only [zD,zE]
             exact ⟨_,rfl,m.ext,false,rfl,fun h=>by cases h⟩
            ·
             replace hdz:=hdz (by omega)
             clear hc3 hn0 hn1
             refine wp_skip (k98 _ _ ?_)
             refine wp_region_lit (n_val (r_add (m:=2) (n:=1) (r:=3) rfl rfl (by decide)) (n_val (r_move) (n_nil (then_rounds (c_seq fun K102 k102=>wp_region_lit (n_val (r_lssF (m:=3) (n:=3) rfl rfl (by decide)) (n_nil (k102 _ _ ?_))))))))
             refine c_seq fun K103 k103=>c_no rfl (wp_exit (k81 _ _ ?_))
             refine wp_region_lit (n_val (r_add (m:=3) (n:=1) (r:=4) rfl rfl (by decide)) ?_)
             simp only [ev,zD,zE,zF,zG]
             refine n_val (r_move) (n_nil (then_rounds (c_seq fun K104 k104=>wp_region_lit (n_val (r_lssF (m:=4) (n:=4) rfl rfl (by decide)) (n_nil (k104 _ _ ?_))))))
             refine c_seq fun K105 k105=>c_no rfl (wp_exit (k2 _ _ ?_))
             refine c_seq fun K106 k106=>wp_region_lit (n_val (r_assign) (n_nil (k106 _ _ ?_)))
             refine wp_ret ?_
             simp only [ev,zD,zE,zF,zG]
             try simp only [Exit.inBlock,Exit.then,if_true]
             refine fin1 rfl rfl ?_
             try simp only [zD,zE]
             exact ⟨_,rfl,m.ext,true,rfl,fun _=>⟨⟨hax,hay,haz⟩,⟨hbx,hby,hbz⟩,⟨hcx,hcy,hcz⟩,⟨hdx,hdy,hdz⟩⟩⟩
theorem signs_c {a b c d : P3} [I3 a] [I3 b] [I3 c] [I3 d] : Pure Tryz.prog 71 [pt a,pt b,pt c,pt d] (sg ((b.sub a).cross (d.sub c))):=by
 intro w
 refine ⟨en_71,?_⟩
 have m:=Mem.refl w
 go_enter Tryz.func71,Tryz.ntmps71
 refine c_seq fun K1 k1=>wp_region_lit (mboxA m rfl ?_)
 clear m; intro g1 u m
 simp only [ev,zD,zE,zF,zG]
 refine mboxA m rfl ?_
 clear m; intro g2 u m
 simp only [ev,zD,zE,zF,zG]
 refine mboxA m rfl ?_
 clear m; intro g3 u m
 simp only [ev,zD,zE,zF,zG]
 refine mboxA m rfl ?_
 clear m; intro g4 u m
 simp only [ev,zD,zE,zF,zG]
 refine malloc m zero_23 rfl ?_
 clear m; intro g5 u m
 refine n_nil (k1 _ _ ?_)
 refine c_seq fun K2 k2=>wp_region_lit ?_
 simp only [ev,zD,zE,zF,zG]
 refine malloc m zero_23 rfl ?_
 clear m; intro g6 u m
 refine n_nil (k2 _ _ ?_)
 refine c_seq fun K3 k3=>c_seq fun K4 k4=>wp_region_lit ?_
 simp only [ev,zD,zE,zF,zG]
 refine n_load rfl ((m.b 5 rfl).full agg_28 cells_28) ?_
 simp only [ev,zD,zE,zF,zG]
 refine n_load rfl ((m.b 4 rfl).full agg_28 cells_28) ?_
 simp only [ev,zD,zE,zF,zG]
 refine n_load rfl ((m.b 3 rfl).full agg_28 cells_28) ?_
 simp only [ev,zD,zE,zF,zG]
 refine n_load rfl ((m.b 2 rfl).full agg_28 cells_28) ?_
 simp only [ev,zD,zE,zF,zG]
 refine n_bs_118_4 rfl rfl rfl rfl ?_
 intro u g7 e hg hB; replace m:=m.newB e hg hB; clear e hg hB
 simp only [ev,zD,zE,zF,zG]
 refine mcall m rfl rfl (exSmall_c _ (m.b 0 rfl)) ?_
 clear m; rintro v u m ⟨bo,rfl,hsm⟩
 refine n_nil (k4 _ _ ?_)
 simp only [ev,zD,zE,zF,zG]
 refine c_cond rfl (fun hc1=>?_) (fun hc1=>?_)
 ·
  obtain ⟨_,_,_,_⟩:=hsm hc1
  refine c_seq fun K5 k5=>c_seq fun K6 k6=>mq m follows_mixed (by kernel_rfl) (ql rfl (fun u m=>((m.b 6 rfl).full agg_28 cells_28)) ?_)
  simp only [ev,zD,zE,zF,zG]
  refine ql rfl (fun u m=>((m.b 5 rfl).full agg_28 cells_28)) ?_
  simp only [ev,zD,zE,zF,zG]
  refine qcP rfl rfl (nearVector_c) ?_
  simp only [ev,zD,zE,zF,zG]
  refine ql rfl (fun u m=>((m.b 4 rfl).full agg_28 cells_28)) ?_
  simp only [ev,zD,zE,zF,zG]
  refine ql rfl (fun u m=>((m.b 3 rfl).full agg_28 cells_28)) ?_
  simp only [ev,zD,zE,zF,zG]
  refine qcP rfl rfl (nearVector_c) ?_
  simp only [ev,zD,zE,zF,zG]
  refine qcP rfl rfl (nearProduct_c inferInstance inferInstance) (q_val (r_move) (q_nil ?_))
  clear m; intro u m
  refine k6 _ _ ?_
  refine wp_block (wp_loop_rounds 4 (rounds_step (c_seq fun K7 k7=>wp_region_lit (n_val (r_lssT (m:=0) (n:=3) rfl rfl (by decide)) (n_nil (k7 _ _ ?_))))))
  refine c_seq fun K8 k8=>c_yes rfl (wp_skip (k8 _ _ ?_))
  refine c_seq fun K9 k9=>wp_block (c_seq fun K10 k10=>wp_region_lit (n_val (r_move) ?_))
  simp only [ev,zD,zE,zF,zG]
  refine n_val (r_index_161_0 rfl rfl) (n_val (r_assign) (n_val (r_assign) (n_nil (k10 _ _ ?_))))
  refine wp_region_lit (n_val (r_move) ?_)
  simp only [ev,zD,zE,zF,zG]
  refine n_val (r_move) ?_
  simp only [ev,zD,zE,zF,zG]
  refine mcallP m rfl rfl (sign_c) ?_
  clear m; intro u m
  refine n_val (r_indexAddrA Tryz.underlying23 cells_3 rfl rfl (by decide) (by decide) rfl) ?_
  simp only [ev,zD,zE,zF,zG]
  refine mstore1 m 1 rfl rfl rfl cells_3 (leT rfl) ⟨rfl,rfl⟩ ?_
  clear m; intro u m; simp only [over,zH,zI,zJ,zK,zL,zM,zN,zO,zP,zF,zG,Nat.reduceAdd] at m
  refine n_nil (k9 _ _ ?_)
  refine wp_region_lit (n_val (r_add (m:=0) (n:=1) (r:=1) rfl rfl (by decide)) (n_val (r_move) (n_nil (then_rounds (c_seq fun K11 k11=>wp_region_lit (n_val (r_lssT (m:=1) (n:=3) rfl rfl (by decide)) (n_nil (k11 _ _ ?_))))))))
  refine c_seq fun K12 k12=>c_yes rfl (wp_skip (k12 _ _ ?_))
  refine c_seq fun K13 k13=>wp_block (c_seq fun K14 k14=>wp_region_lit (n_val (r_move) ?_))
  simp only [ev,zD,zE,zF,zG]
  refine n_val (r_index_161_1 rfl rfl) (n_val (r_assign) (n_val (r_assign) (n_nil (k14 _ _ ?_))))
  refine wp_region_lit (n_val (r_move) ?_)
  simp only [ev,zD,zE,zF,zG]
  refine n_val (r_move) ?_
  simp only [ev,zD,zE,zF,zG]
  refine mcallP m rfl rfl (sign_c) ?_
  clear m; intro u m
  refine n_val (r_indexAddrA Tryz.underlying23 cells_3 rfl rfl (by decide) (by decide) rfl) ?_
  simp only [ev,zD,zE,zF,zG]
  refine mstore1 m 1 rfl rfl rfl cells_3 (leT rfl) ⟨rfl,rfl⟩ ?_
  clear m; intro u m; simp only [over,zH,zI,zJ,zK,zL,zM,zN,zO,zP,zF,zG,Nat.reduceAdd] at m
  refine n_nil (k13 _ _ ?_)
  refine wp_region_lit (n_val (r_add (m:=1) (n:=1) (r:=2) rfl rfl (by decide)) (n_val (r_move) (n_nil (then_rounds (c_seq fun K15 k15=>wp_region_lit (n_val (r_lssT (m:=2) (n:=3) rfl rfl (by decide)) (n_nil (k15 _ _ ?_))))))))
  refine c_seq fun K16 k16=>c_yes rfl (wp_skip (k16 _ _ ?_))
  refine c_seq fun K17 k17=>wp_block (c_seq fun K18 k18=>wp_region_lit (n_val (r_move) ?_))
  simp only [ev,zD,zE,zF,zG]
  refine n_val (r_index_161_2 rfl rfl) (n_val (r_assign) (n_val (r_assign) (n_nil (k18 _ _ ?_))))
  refine wp_region_lit (n_val (r_move) ?_)
  simp only [ev,zD,zE,zF,zG]
  refine n_val (r_move) ?_
  simp only [ev,zD,zE,zF,zG]
  refine mcallP m rfl rfl (sign_c) ?_
  clear m; intro u m
  refine n_val (r_indexAddrA Tryz.underlying23 cells_3 rfl rfl (by decide) (by decide) rfl) ?_
  simp only [ev,zD,zE,zF,zG]
  refine mstore1 m 1 rfl rfl rfl cells_3 (leT rfl) ⟨rfl,rfl⟩ ?_
  clear m; intro u m; simp only [over,zH,zI,zJ,zK,zL,zM,zN,zO,zP,zF,zG,Nat.reduceAdd] at m
  refine n_nil (k17 _ _ ?_)
  refine wp_region_lit (n_val (r_add (m:=2) (n:=1) (r:=3) rfl rfl (by decide)) (n_val (r_move) (n_nil (then_rounds (c_seq fun K19 k19=>wp_region_lit (n_val (r_lssF (m:=3) (n:=3) rfl rfl (by decide)) (n_nil (k19 _ _ ?_))))))))
  refine c_seq fun K20 k20=>c_no rfl (wp_exit (k5 _ _ ?_))
  refine c_seq fun K21 k21=>wp_region_lit ?_
  simp only [ev,zD,zE,zF,zG]
  refine n_load rfl ((m.b 1 rfl).full agg_23 cells_23) ?_
  simp only [ev,zD,zE,zF,zG]
  refine mstoreA m 2 rfl rfl rfl cells_23 (leT rfl) rfl ?_
  clear m; intro u m; simp only [over,zH,zI,zJ,zK,zL,zM,zN,zO,zP,zF,zG,Nat.reduceAdd] at m
  refine n_nil (k21 _ _ ?_)
  refine wp_ret ?_
  try simp only [Exit.inBlock,Exit.then,if_true]
  refine fin1 rfl ⟨_,rfl,((m.b 2 rfl).full agg_23 cells_23)⟩ ?_
  try simp only [zD,zE]
  exact ⟨_,rfl,m.ext,rfl⟩
 ·
  refine wp_skip (k3 _ _ ?_)
  refine c_seq fun K22 k22=>c_seq fun K23 k23=>mq m follows_mixed (by kernel_rfl) (ql rfl (fun u m=>((m.b 6 rfl).full agg_28 cells_28)) ?_)
  simp only [ev,zD,zE,zF,zG]
  refine ql rfl (fun u m=>((m.b 5 rfl).full agg_28 cells_28)) ?_
  simp only [ev,zD,zE,zF,zG]
  refine qcP rfl rfl (farVector_c) ?_
  simp only [ev,zD,zE,zF,zG]
  refine ql rfl (fun u m=>((m.b 4 rfl).full agg_28 cells_28)) ?_
  simp only [ev,zD,zE,zF,zG]
  refine ql rfl (fun u m=>((m.b 3 rfl).full agg_28 cells_28)) ?_
  simp only [ev,zD,zE,zF,zG]
  refine qcP rfl rfl (farVector_c) ?_
  simp only [ev,zD,zE,zF,zG]
  refine qcP rfl rfl (farProduct_c Bv.of Bv.of) (q_val (r_move) (q_nil ?_))
  clear m; intro u m
  refine k23 _ _ ?_
  refine wp_block (wp_loop_rounds 4 (rounds_step (c_seq fun K24 k24=>wp_region_lit (n_val (r_lssT (m:=0) (n:=3) rfl rfl (by decide)) (n_nil (k24 _ _ ?_))))))
  refine c_seq fun K25 k25=>c_yes rfl (wp_skip (k25 _ _ ?_))
  refine c_seq fun K26 k26=>wp_block (c_seq fun K27 k27=>wp_region_lit (n_val (r_move) ?_))
  simp only [ev,zD,zE,zF,zG]
  refine n_val (r_index_112_0 rfl rfl) ?_
  simp only [ev,zD,zE,zF,zG]
  refine malloc m zero_32 rfl ?_
  clear m; intro g8 u m
  refine n_val (r_assign) ?_
  simp only [ev,zD,zE,zF,zG]
  refine mstoreA m 0 rfl rfl rfl cells_32 (leT rfl) rfl ?_
  clear m; intro u m; simp only [over,zH,zI,zJ,zK,zL,zM,zN,zO,zP,zF,zG,Nat.reduceAdd] at m
  refine n_nil (k27 _ _ ?_)
  refine wp_region_lit (n_val (r_move) ?_)
  simp only [ev,zD,zE,zF,zG]
  refine n_load rfl ((m.b 0 rfl).full agg_32 cells_32) ?_
  simp only [ev,zD,zE,zF,zG]
  refine mcallP m rfl rfl (Sign_c Bw.up) ?_
  clear m; intro u m
  refine n_val (r_indexAddrA Tryz.underlying23 cells_3 rfl rfl (by decide) (by decide) rfl) ?_
  simp only [ev,zD,zE,zF,zG]
  refine mstore1 m 2 rfl rfl rfl cells_3 (leT rfl) ⟨rfl,rfl⟩ ?_
  clear m; intro u m; simp only [over,zH,zI,zJ,zK,zL,zM,zN,zO,zP,zF,zG,Nat.reduceAdd] at m
  refine n_nil (k26 _ _ ?_)
  refine wp_region_lit (n_val (r_add (m:=0) (n:=1) (r:=1) rfl rfl (by decide)) (n_val (r_move) (n_nil (then_rounds (c_seq fun K28 k28=>wp_region_lit (n_val (r_lssT (m:=1) (n:=3) rfl rfl (by decide)) (n_nil (k28 _ _ ?_))))))))
  refine c_seq fun K29 k29=>c_yes rfl (wp_skip (k29 _ _ ?_))
  refine c_seq fun K30 k30=>wp_block (c_seq fun K31 k31=>wp_region_lit (n_val (r_move) ?_))
  simp only [ev,zD,zE,zF,zG]
  refine n_val (r_index_112_1 rfl rfl) ?_
  simp only [ev,zD,zE,zF,zG]
  refine malloc m zero_32 rfl ?_
  clear m; intro g9 u m
  refine n_val (r_assign) ?_
  simp only [ev,zD,zE,zF,zG]
  refine mstoreA m 0 rfl rfl rfl cells_32 (leT rfl) rfl ?_
  clear m; intro u m; simp only [over,zH,zI,zJ,zK,zL,zM,zN,zO,zP,zF,zG,Nat.reduceAdd] at m
  refine n_nil (k31 _ _ ?_)
  refine wp_region_lit (n_val (r_move) ?_)
  simp only [ev,zD,zE,zF,zG]
  refine n_load rfl ((m.b 0 rfl).full agg_32 cells_32) ?_
  simp only [ev,zD,zE,zF,zG]
  refine mcallP m rfl rfl (Sign_c Bw.up) ?_
  clear m; intro u m
  refine n_val (r_indexAddrA Tryz.underlying23 cells_3 rfl rfl (by decide) (by decide) rfl) ?_
  simp only [ev,zD,zE,zF,zG]
  refine mstore1 m 3 rfl rfl rfl cells_3 (leT rfl) ⟨rfl,rfl⟩ ?_
  clear m; intro u m; simp only [over,zH,zI,zJ,zK,zL,zM,zN,zO,zP,zF,zG,Nat.reduceAdd] at m
  refine n_nil (k30 _ _ ?_)
  refine wp_region_lit (n_val (r_add (m:=1) (n:=1) (r:=2) rfl rfl (by decide)) (n_val (r_move) (n_nil (then_rounds (c_seq fun K32 k32=>wp_region_lit (n_val (r_lssT (m:=2) (n:=3) rfl rfl (by decide)) (n_nil (k32 _ _ ?_))))))))
  refine c_seq fun K33 k33=>c_yes rfl (wp_skip (k33 _ _ ?_))
  refine c_seq fun K34 k34=>wp_block (c_seq fun K35 k35=>wp_region_lit (n_val (r_move) ?_))
  simp only [ev,zD,zE,zF,zG]
  refine n_val (r_index_112_2 rfl rfl) ?_
  simp only [ev,zD,zE,zF,zG]
  refine malloc m zero_32 rfl ?_
  clear m; intro g10 u m
  refine n_val (r_assign) ?_
  simp only [ev,zD,zE,zF,zG]
  refine mstoreA m 0 rfl rfl rfl cells_32 (leT rfl) rfl ?_
  clear m; intro u m; simp only [over,zH,zI,zJ,zK,zL,zM,zN,zO,zP,zF,zG,Nat.reduceAdd] at m
  refine n_nil (k35 _ _ ?_)
  refine wp_region_lit (n_val (r_move) ?_)
  simp only [ev,zD,zE,zF,zG]
  refine n_load rfl ((m.b 0 rfl).full agg_32 cells_32) ?_
  simp only [ev,zD,zE,zF,zG]
  refine mcallP m rfl rfl (Sign_c Bw.up) ?_
  clear m; intro u m
  refine n_val (r_indexAddrA Tryz.underlying23 cells_3 rfl rfl (by decide) (by decide) rfl) ?_
  simp only [ev,zD,zE,zF,zG]
  refine mstore1 m 4 rfl rfl rfl cells_3 (leT rfl) ⟨rfl,rfl⟩ ?_
  clear m; intro u m; simp only [over,zH,zI,zJ,zK,zL,zM,zN,zO,zP,zF,zG,Nat.reduceAdd] at m
  refine n_nil (k34 _ _ ?_)
  refine wp_region_lit (n_val (r_add (m:=2) (n:=1) (r:=3) rfl rfl (by decide)) (n_val (r_move) (n_nil (then_rounds (c_seq fun K36 k36=>wp_region_lit (n_val (r_lssF (m:=3) (n:=3) rfl rfl (by decide)) (n_nil (k36 _ _ ?_))))))))
  refine c_seq fun K37 k37=>c_no rfl (wp_exit (k22 _ _ ?_))
  refine c_seq fun K38 k38=>wp_region_lit ?_
  simp only [ev,zD,zE,zF,zG]
  refine n_load rfl ((m.b 4 rfl).full agg_23 cells_23) ?_
  simp only [ev,zD,zE,zF,zG]
  refine mstoreA m 5 rfl rfl rfl cells_23 (leT rfl) rfl ?_
  clear m; intro u m; simp only [over,zH,zI,zJ,zK,zL,zM,zN,zO,zP,zF,zG,Nat.reduceAdd] at m
  refine n_nil (k38 _ _ ?_)
  refine wp_ret ?_
  try simp only [Exit.inBlock,Exit.then,if_true]
  refine fin1 rfl ⟨_,rfl,((m.b 5 rfl).full agg_23 cells_23)⟩ ?_
  try simp only [zD,zE]
  exact ⟨_,rfl,m.ext,rfl⟩
theorem Flat_c {t : T3} [IT t] : Pure Tryz.prog 94 [tr t] (.bool (decide (isign t.normal.x = 0 ∧ isign t.normal.y = 0 ∧ isign t.normal.z = 0))):=by
 intro w
 refine ⟨en_94,?_⟩
 have m:=Mem.refl w
 go_enter Tryz.func94,Tryz.ntmps94
 refine c_seq fun K1 k1=>wp_region_lit (mboxA m rfl ?_)
 clear m; intro g1 u m
 refine n_val (r_assign) (n_nil (k1 _ _ ?_))
 refine c_seq fun K2 k2=>wp_region_lit (n_val (r_indexAddrA Tryz.underlying59 cells_28 rfl rfl (by decide) (by decide) rfl) ?_)
 simp only [ev,zD,zE,zF,zG]
 refine n_load rfl ((m.b 0 rfl).lies agg_28 cells_28 rfl rfl) ?_
 simp only [ev,zD,zE,zF,zG,zH,zI,zJ,zK,Nat.zero_add,Nat.reduceAdd,Nat.reduceMul,Int.reduceToNat]
 refine n_val (r_indexAddrA Tryz.underlying59 cells_28 rfl rfl (by decide) (by decide) rfl) ?_
 simp only [ev,zD,zE,zF,zG]
 refine n_load rfl ((m.b 0 rfl).lies agg_28 cells_28 rfl rfl) ?_
 simp only [ev,zD,zE,zF,zG,zH,zI,zJ,zK,Nat.zero_add,Nat.reduceAdd,Nat.reduceMul,Int.reduceToNat]
 refine n_val (r_indexAddrA Tryz.underlying59 cells_28 rfl rfl (by decide) (by decide) rfl) ?_
 simp only [ev,zD,zE,zF,zG]
 refine n_load rfl ((m.b 0 rfl).lies agg_28 cells_28 rfl rfl) ?_
 simp only [ev,zD,zE,zF,zG,zH,zI,zJ,zK,Nat.zero_add,Nat.reduceAdd,Nat.reduceMul,Int.reduceToNat]
 refine n_val (r_indexAddrA Tryz.underlying59 cells_28 rfl rfl (by decide) (by decide) rfl) ?_
 simp only [ev,zD,zE,zF,zG]
 refine n_load rfl ((m.b 0 rfl).lies agg_28 cells_28 rfl rfl) ?_
 simp only [ev,zD,zE,zF,zG,zH,zI,zJ,zK,Nat.zero_add,Nat.reduceAdd,Nat.reduceMul,Int.reduceToNat]
 refine mcallP m rfl rfl (signs_c (a:=t.a) (b:=t.b) (c:=t.a) (d:=t.c)) ?_
 clear m; intro u m
 refine n_val (r_build_23_) (n_val (eq_eql_23 rfl rfl) (n_val (r_assign) ?_))
 simp only [ev,zD,zE,zF,zG]
 refine n_nil (k2 _ _ ?_)
 refine wp_ret ?_
 try simp only [Exit.inBlock,Exit.then,if_true]
 refine fin1 rfl rfl ?_
 try simp only [zD,zE]
 exact ⟨_,rfl,m.ext,rfl⟩
end Go.Proofs.YtmcgcnpgkkfkoaaGreatDoor
