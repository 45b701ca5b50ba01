/-
  Texts of one claim, laid together: Dig2, Ref4, Ref5, Ref6, Dig3, Ref7, Wide6, Wide1.
-/
import Derived.Test.YtmcgcnpgkkfkoaaGreatDoorB2
set_option linter.unusedSimpArgs false
set_option linter.unusedVariables false
namespace Go.Lith
open Go.RowKit
theorem pow_sq (k : Nat) : (65536 : Nat) ^ k = 256 ^ (2 * k) := by rw [show (65536 : Nat) = 256 ^ 2 from rfl, ← Nat.pow_mul]
theorem digits_round {os bs : List Nat} {k d : Nat} (hl : os.length = k) (hv : val 65536 os = val 256 (bs.take (2 * k))) (h : 2 * k < bs.length) (hd : d = bs[2 * k] + 256 * (bs[2 * k + 1]?.getD 0)) (hb : Digs 256 bs) (ho : Digs 65536 os) :
    val 65536 (os ++ [d]) = val 256 (bs.take (2 * (k + 1))) ∧ Digs 65536 (os ++ [d]) := by
  have h1 := hb _ (List.getElem_mem h)
  have h2 : bs[2 * k + 1]?.getD 0 < 256 := by
    rcases Nat.lt_or_ge (2 * k + 1) bs.length with h | h
    · rw [List.getElem?_eq_getElem h]; exact hb _ (List.getElem_mem h)
    · rw [List.getElem?_eq_none h]; decide
  refine ⟨?_, ho.append (digs_cons (by omega) (digs_nil _))⟩
  have ht : val 256 (bs.take (2 * k + 1 + 1)) = val 256 (bs.take (2 * k + 1)) + 256 ^ (2 * k + 1) * bs[2 * k + 1]?.getD 0 := by
    rcases Nat.lt_or_ge (2 * k + 1) bs.length with h | h
    · rw [val_take_succ h, List.getElem?_eq_getElem h]; rfl
    · rw [List.take_of_length_le (by omega), List.take_of_length_le h, List.getElem?_eq_none h]; simp
  rw [show 2 * (k + 1) = 2 * k + 1 + 1 by omega, ht, val_take_succ h, val_append, hl, hv, pow_sq, Nat.pow_succ]
  simp only [val, Nat.mul_zero, Nat.add_zero]
  subst hd
  generalize 256 ^ (2 * k) = p
  grind
def wb2 (x : Nat) : List UInt8 := [UInt8.ofNat (x / 256), UInt8.ofNat x]
theorem val_rev_bytes2 (ys : List Nat) (h : Digs 65536 ys) : val 256 (((ys.reverse.flatMap wb2).reverse).map UInt8.toNat) = val 65536 ys ∧ Digs 256 (((ys.reverse.flatMap wb2).reverse).map UInt8.toNat) := by
  induction ys with
  | nil => exact ⟨rfl, fun _ h => by cases h⟩
  | cons y ys ih =>
    have hy := h y (by simp)
    obtain ⟨i1, i2⟩ := ih (fun x hx => h x (by simp [hx]))
    have e : (((y :: ys).reverse.flatMap wb2).reverse).map UInt8.toNat = [y % 256, y / 256 % 256] ++ (((ys.reverse.flatMap wb2).reverse).map UInt8.toNat) := by
      simp [List.flatMap_append, wb2, UInt8.toNat_ofNat']
    rw [e]
    refine ⟨?_, ?_⟩
    · rw [val_append, i1]
      simp only [val, List.length_cons, List.length_nil]
      omega
    · refine Digs.append ?_ i2
      intro x hx
      simp at hx
      omega
theorem wide_bytes2 {ys : List Nat} (h : Digs 65536 ys) (neg : Bool) : strOf (strip (ys.reverse.flatMap wb2)) = wmag (sgn neg (val 65536 ys)) := by
  obtain ⟨h1, h2⟩ := val_rev_bytes2 ys h
  rw [strip_bytes, trim_eq_digs (by omega) h2 h1, wmag, sgn_natAbs, beBytes]
  rfl
def laid2 (ys : List Nat) (k : Nat) : List UInt8 := strip ((ys.drop k).reverse.flatMap wb2)
theorem strip_append {l m : List UInt8} (h : strip l ≠ []) : strip (l ++ m) = strip l ++ m := by
  induction l with
  | nil => exact absurd rfl h
  | cons b l ih =>
    by_cases hb : b = 0
    · subst hb
      have e : strip (0 :: l) = strip l := by simp [strip]
      have e2 : strip ((0 :: l) ++ m) = strip (l ++ m) := by simp [strip]
      rw [e] at h
      rw [e, e2, ih h]
    · simp [strip, hb]
theorem laid2_next {ys : List Nat} {k : Nat} (hk : 0 < k) (hl : k - 1 < ys.length) (h : laid2 ys k ≠ []) : laid2 ys (k - 1) = laid2 ys k ++ [UInt8.ofNat (ys[k - 1] / 256)] ++ [UInt8.ofNat (ys[k - 1] % 256)] ∧ laid2 ys (k - 1) ≠ [] := by
  have e : laid2 ys (k - 1) = laid2 ys k ++ [UInt8.ofNat (ys[k - 1] / 256)] ++ [UInt8.ofNat (ys[k - 1] % 256)] := by
    unfold laid2 at *
    rw [List.drop_eq_getElem_cons hl, show k - 1 + 1 = k by omega, List.reverse_cons, List.flatMap_append, strip_append h]
    have : UInt8.ofNat (ys[k - 1] % 256) = UInt8.ofNat (ys[k - 1]) := by
      apply UInt8.toNat_inj.1
      simp [UInt8.toNat_ofNat']
    rw [this]
    simp [wb2]
  exact ⟨e, by rw [e]; simp⟩
theorem laid2_first {ys : List Nat} (hl : ys.length - 1 < ys.length) (h0 : 0 < ys[ys.length - 1]) (h16 : ys[ys.length - 1] < 65536) :
    laid2 ys (ys.length - 1) = (if 256 ≤ ys[ys.length - 1] then [UInt8.ofNat (ys[ys.length - 1] / 256)] else []) ++ [UInt8.ofNat (ys[ys.length - 1] % 256)] ∧ laid2 ys (ys.length - 1) ≠ [] := by
  have e : laid2 ys (ys.length - 1) = strip (wb2 (ys[ys.length - 1])) := by
    unfold laid2
    rw [List.drop_eq_getElem_cons hl, show ys.length - 1 + 1 = ys.length by omega, List.drop_length]
    simp
  generalize ys[ys.length - 1] = x at *
  have hm : UInt8.ofNat (x % 256) = UInt8.ofNat x := by
    apply UInt8.toNat_inj.1
    simp [UInt8.toNat_ofNat']
  have ez : ∀ y : Nat, y < 256 → (UInt8.ofNat y = 0 ↔ y = 0) := fun y hy => by
    rw [← UInt8.toNat_inj]
    simp only [UInt8.toNat_ofNat', UInt8.toNat_zero]
    rw [Nat.mod_eq_of_lt (by omega)]
  have e2 : strip (wb2 x) = (if 256 ≤ x then [UInt8.ofNat (x / 256)] else []) ++ [UInt8.ofNat (x % 256)] := by
    split
    · rename_i h
      have hn : ¬ UInt8.ofNat (x / 256) = 0 := fun e => by have := (ez _ (by omega)).1 e; omega
      rw [hm]
      simp [strip, wb2, hn]
    · rename_i h
      have hz : UInt8.ofNat (x / 256) = 0 := (ez _ (by omega)).2 (by omega)
      have hn : ¬ UInt8.ofNat x = 0 := fun e => by have := (ez _ (by omega)).1 e; omega
      rw [hm]
      simp [strip, wb2, hz, hn]
  exact ⟨e.trans e2, by rw [e, e2]; simp⟩
theorem laid2_all (ys : List Nat) : laid2 ys ys.length = [] := by unfold laid2; rw [List.drop_length]; rfl
theorem laid2_zero {ys : List Nat} (h : Digs 65536 ys) (neg : Bool) : strOf (laid2 ys 0) = wmag (sgn neg (val 65536 ys)) := by
  unfold laid2; rw [List.drop_zero]; exact wide_bytes2 h neg
theorem laid2_len (ys : List Nat) (k : Nat) : (laid2 ys k).length ≤ 2 * ys.length := by
  have h1 : ∀ l : List UInt8, (strip l).length ≤ l.length := fun l => by
    induction l with
    | nil => simp [strip]
    | cons b l ih =>
      unfold strip at *
      rw [List.dropWhile_cons]
      split
      · simp; omega
      · simp
  have h2 : ∀ l : List Nat, (l.flatMap wb2).length = 2 * l.length := fun l => by
    induction l with
    | nil => rfl
    | cons x l ih => rw [List.flatMap_cons, List.length_append, ih]; simp [wb2]; omega
  refine Nat.le_trans (h1 _) ?_
  rw [h2]
  simp
  omega
theorem Owns.snoc8 {w : World} {b : Nat} {E : TypeId} {v : Value} {os : List UInt8} {x : Nat} (h : Owns w b E 1 v (os.length + 1) (os.map u8v ++ [.int .u8 (x : Int)])) (hx : x < 256) : Owns w b E 1 v (os ++ [UInt8.ofNat x]).length ((os ++ [UInt8.ofNat x]).map u8v) := by
  have : u8v (UInt8.ofNat x) = .int .u8 (x : Int) := by simp only [u8v, UInt8.toNat_ofNat', Value.int.injEq, true_and]; rw [Nat.mod_eq_of_lt (by omega)]
  rw [List.map_append, List.map_singleton, this, List.length_append]
  exact h
theorem wrap_u8n {x : Nat} (h : x < 256) : IntKind.u8.wrap (x : Int) = (x : Int) := wrap_u8 (by omega) (by omega)
theorem from_round {os : List Nat} {m V : Nat} (hv : val 65536 os + 65536 ^ os.length * m = V) (hd : Digs 65536 os) (h2 : m < 2 ^ (64 - os.length)) (h3 : os.length ≤ 64) (h0 : 0 < m) :
    val 65536 (os ++ [m % 65536]) + 65536 ^ (os ++ [m % 65536]).length * (m / 65536) = V ∧ Digs 65536 (os ++ [m % 65536]) ∧ m / 65536 < 2 ^ (64 - (os ++ [m % 65536]).length) ∧ (os ++ [m % 65536]).length ≤ 64 := by
  have hl : os.length < 64 := by
    rcases Nat.lt_or_ge os.length 64 with h | h
    · exact h
    · rw [show 64 - os.length = 0 by omega] at h2; omega
  refine ⟨?_, hd.append (digs_cons (Nat.mod_lt _ (by omega)) (digs_nil _)), ?_, by simp; omega⟩
  · rw [val_append, List.length_append, List.length_singleton, Nat.pow_succ]
    simp only [val, Nat.mul_zero, Nat.add_zero]
    have e : m = m % 65536 + 65536 * (m / 65536) := by omega
    generalize m / 65536 = q at *
    generalize m % 65536 = r at *
    generalize 65536 ^ os.length = p at *
    subst e
    grind
  · rw [List.length_append, List.length_singleton]
    have e : 2 ^ (64 - os.length) = 2 * 2 ^ (64 - (os.length + 1)) := by rw [← Nat.pow_succ']; congr 1; omega
    rw [e] at h2
    omega
end Go.Lith
namespace Go.Proofs.YtmcgcnpgkkfkoaaGreatDoor
open Go.RowKit Go.Lith
set_option maxRecDepth 100000
attribute [local irreducible] wpList wpQuiet wpMix Code.wp
set_option maxHeartbeats 400000 in
theorem digits_c {neg : Bool} {s : ByteArray} (w : World) (hs : s.size ≤ 1000000000000) : Does Tryz.prog 109 [.agg #[.bool neg, .string s]] w (DigRes (sval s)) := by
 skip
 refine ⟨en_109, ?_⟩
 have hX := Ext.refl w
 have hbl := sbytes_length s
 have hbd := sbytes_digs s
 go_enter Tryz.func109, Tryz.ntmps109
 refine c_seq (fun K1 hK1 => wp_region_lit ?_)
 refine n_box (by simp only [ev,zD,zE]; rfl) ?_
 intro w1 g1 hE hg1 hB1
 have hG1 := Nat.le_trans hX.size hg1
 replace hX := hX.trans hE
 clear hE hg1
 simp only [ev,zD,zE,zF,zG]
 refine n_val (r_assign) ?_
 simp only [ev,zD,zE,zF,zG]
 refine n_nil ?_
 refine hK1 _ _ ?_
 refine c_seq (fun K2 hK2 => wp_region_lit (n_val (r_assign) ?_))
 simp only [ev,zD,zE,zF,zG]
 obtain ⟨b3, hb3e, hb3l⟩ := hX.base
 have hS3 := Base.of hX hb3e
 have hO3 := Owns.nil_of hX b3 3 1
 have hl3_1 : g1 < b3 := by rw [hb3e]; exact hB1.lt
 clear hb3e
 refine n_nil ?_
 refine hK2 _ _ ?_
 refine c_seq (fun K3 hK3 => wp_region_lit (n_val (r_fieldAddr (c := 0) Tryz.underlying32 rfl cells_9 rfl rfl) ?_))
 simp only [ev,zD,zE,zF,zG]
 refine n_load rfl (hB1.lies1 agg_9 rfl) ?_
 simp only [ev,zD,zE,zF,zG]
 refine n_val (r_lenStr rfl Tryz.underlying9 rfl) (n_val (r_assign) ?_)
 simp only [ev,zD,zE,zF,zG]
 refine n_nil ?_
 refine hK3 _ _ ?_
 refine c_seq (fun K4 hK4 => c_seq (fun K5 hK5 => wp_region_lit (n_val (r_move) (n_val (r_assign) ?_))))
 simp only [ev,zD,zE,zF,zG]
 refine n_nil ?_
 refine hK5 _ _ ?_
 refine wp_block ?_
 refine c_loopg [3, 5] [6, 11, 12, 13, 14, 15, 16, 17, 18, 19, 20, 21, 22, 23, 24, 25, 26, 27, 28, 29, 30, 31, 32, 33, 34, 35] (fun n vs wl => ∃ (k : Nat) (os : List Nat) (v3 : Value), vs = [v3, .int .i64 ((s.size : Int) - 2 * (k : Int))] ∧ (Ext w wl) ∧ (Blk wl g1 [.bool neg, .string s] 32) ∧ (Base wl b3) ∧ (Owns wl b3 3 1 v3 os.length (os.map i64v)) ∧ (os.length = k) ∧ (val 65536 os = val 256 ((sbytes s).take (2 * k))) ∧ (Digs 65536 os) ∧ (2 * k ≤ s.size + 1) ∧ (n = s.size - 2 * k)) ?_ ?_
 ·
  rw [show ((s.size : Int)) = (s.size : Int) - 2 * ((0 : Nat) : Int) by omega]
  apply Exists.intro
  simp only [zQ,zR,zD,zE]
  exact ⟨0, [], _, rfl, hX, hB1, hS3, hO3, rfl, by simp [val], digs_nil _, by omega, rfl⟩
 ·
  intro n vs wr hI u
  obtain ⟨k, os, v3, rfl, hX, hB1, hS3, hO3, hlo, hv, hd, hk, hn⟩ := hI
  simp only [setG_cons,setG_nil,setMany_cons,setMany_nil,zF,zG]
  refine c_seq (fun K6 hK6 => c_seq (fun K7 hK7 => wp_region_lit (n_val (r_move) (n_val (r_gtr rfl rfl) ?_))))
  simp only [ev,zD,zE,zF,zG]
  refine n_nil ?_
  refine hK7 _ _ ?_
  refine c_if rfl (fun hc1 => ?_) (fun hc1 => ?_)
  ·
   refine wp_skip ?_
   refine hK6 _ _ ?_
   refine c_seq (fun K8 hK8 => wp_block (c_seq (fun K9 hK9 => ?_)))
   obtain ⟨y1, hb1, hp1, hy1⟩ := sbytes_get (show 2 * k + 1 + (s.size - 2 * k - 1) = s.size by omega)
   have hy1l : y1.toNat < 256 := y1.toNat_lt
   refine wp_region_lit (n_val (r_fieldAddr (c := 0) Tryz.underlying32 rfl cells_9 rfl rfl) ?_)
   simp only [ev,zD,zE,zF,zG]
   refine n_load rfl (hB1.lies1 agg_9 rfl) ?_
   simp only [ev,zD,zE,zF,zG]
   refine n_val (r_move) (n_val (r_sub rfl rfl (wrap_i64 (by omega) (by omega))) ?_)
   simp only [ev,zD,zE,zF,zG]
   refine n_val ((r_indexStr Tryz.underlying9 rfl rfl (by omega) (by rw [show ((s.size : Int) - 2 * (k : Int) - 1).toNat = s.size - 2 * k - 1 by omega]; exact hb1))) ?_
   simp only [ev,zD,zE,zF,zG]
   refine n_val (r_conv Tryz.underlying3 Tryz.underlying5 rfl (wrap_i64 (by omega) (by omega))) (n_val (r_assign) ?_)
   simp only [ev,zD,zE,zF,zG]
   refine n_nil ?_
   refine hK9 _ _ ?_
   refine c_seq (fun K10 hK10 => c_seq (fun K11 hK11 => wp_region_lit (n_val (r_move) (n_val (r_gtr rfl rfl) ?_))))
   simp only [ev,zD,zE,zF,zG]
   refine n_nil ?_
   refine hK11 _ _ ?_
   refine c_if rfl (fun hc2 => ?_) (fun hc2 => ?_)
   ·
    obtain ⟨y2, hb2, hp2, hy2⟩ := sbytes_get (show 2 * k + 1 + 1 + (s.size - 2 * k - 2) = s.size by omega)
    have hy2l : y2.toNat < 256 := y2.toNat_lt
    refine wp_region_lit (n_val (r_move) (n_val (r_fieldAddr (c := 0) Tryz.underlying32 rfl cells_9 rfl rfl) ?_))
    simp only [ev,zD,zE,zF,zG]
    refine n_load rfl (hB1.lies1 agg_9 rfl) ?_
    simp only [ev,zD,zE,zF,zG]
    refine n_val (r_move) (n_val (r_sub rfl rfl (wrap_i64 (by omega) (by omega))) ?_)
    simp only [ev,zD,zE,zF,zG]
    refine n_val ((r_indexStr Tryz.underlying9 rfl rfl (by omega) (by rw [show ((s.size : Int) - 2 * (k : Int) - 2).toNat = s.size - 2 * k - 2 by omega]; exact hb2))) ?_
    simp only [ev,zD,zE,zF,zG]
    refine n_val (r_conv Tryz.underlying3 Tryz.underlying5 rfl (wrap_i64 (by omega) (by omega))) (n_val (r_mul rfl rfl (wrap_i64 (by omega) (by omega))) (n_val (r_add rfl rfl (wrap_i64 (by omega) (by omega))) ?_))
    simp only [ev,zD,zE,zF,zG]
    refine n_val (r_assign) ?_
    simp only [ev,zD,zE,zF,zG]
    refine n_nil ?_
    obtain ⟨d, hd1⟩ : ∃ d : Nat, d = y1.toNat + 256 * y2.toNat := ⟨_, rfl⟩
    rw [show ((y1.toNat : Int) + 256 * (y2.toNat : Int)) = (d : Int) by omega]
    have hd2 : d = (sbytes s)[2 * k] + 256 * ((sbytes s)[2 * k + 1]?.getD 0) := by rw [List.getElem?_eq_getElem hp2, hy1]; simp only [Option.getD_some]; rw [hy2]; exact hd1
    refine hK10 _ _ ?_
    refine wp_region_lit (n_val (r_move) (n_val (r_move) ?_))
    simp only [ev,zD,zE,zF,zG]
    refine n_build1 Tryz.underlying22 (z := .int .i64 0) (by kernel_rfl) rfl (by simp only [ev,zD,zE,zF,zG]; rfl) (by rfl) ?_
    intro w2 g2 hE hg2 hB2
    have hG2 := Nat.le_trans hX.size hg2; have hN2_1 : g2 ≠ g1 := Nat.ne_of_gt (Nat.lt_of_lt_of_le hB1.lt hg2)
    replace hB1 := hB1.ext hE; (try replace hS3 := hS3.ext hE); (try replace hO3 := hO3.ext hE); replace hX := hX.trans hE
    clear hE hg2
    simp only [ev,zD,zE,zF,zG]
    refine n_append rfl Tryz.underlying22 inf_3 rfl (by decide) rfl hO3 rfl (news := _) rfl hB2.row0 (by simp [Value.oneCell']) (by omega) (by omega) hS3.h ?_
    clear hO3; intro v3 w3 hO3 hGr _
    replace hB1 := hB1.grew hGr hl3_1; (try replace hS3 := hS3.grew hGr (by first | trivial | omega)); replace hX := hX.grown hGr hb3l
    clear hGr
    replace hO3 := hO3.snoc
    simp only [ev,zD,zE,zF,zG]
    refine n_val (r_assign) ?_
    simp only [ev,zD,zE,zF,zG]
    refine n_nil ?_
    refine hK8 _ _ ?_
    refine wp_region_lit (n_val (r_move) (n_val (r_sub rfl rfl (wrap_i64 (by omega) (by omega))) (n_val (r_assign) ?_)))
    simp only [ev,zD,zE,zF,zG]
    refine n_nil ?_
    obtain ⟨r1, r2⟩ := digits_round hlo hv (by omega) hd2 hbd hd
    rw [show ((s.size : Int) - 2 * (k : Int) - 2) = (s.size : Int) - 2 * ((k + 1 : Nat) : Int) by omega]
    simp only [Exit.inBlock,Exit.then]
    refine ⟨s.size - 2 * (k + 1), _, ?_, rfl, ?_, ?_⟩
    · omega
    · simp only [zQ,zR,zD,zE,setG_cons,setG_nil,setMany_cons,setMany_nil,zF,zG]
    ·
     simp only [zQ,zR,zD,zE]
     exact ⟨k + 1, os ++ [d], v3, rfl, hX, hB1, hS3, hO3, by simp; omega, r1, r2, by omega, rfl⟩
   ·
    obtain ⟨d, hd1⟩ : ∃ d : Nat, d = y1.toNat := ⟨_, rfl⟩
    rw [← hd1]
    have hd2 : d = (sbytes s)[2 * k] + 256 * ((sbytes s)[2 * k + 1]?.getD 0) := by rw [List.getElem?_eq_none (by omega), hy1]; simp only [Option.getD_none]; omega
    refine wp_skip ?_
    refine hK10 _ _ ?_
    refine wp_region_lit (n_val (r_move) (n_val (r_move) ?_))
    simp only [ev,zD,zE,zF,zG]
    refine n_build1 Tryz.underlying22 (z := .int .i64 0) (by kernel_rfl) rfl (by simp only [ev,zD,zE,zF,zG]; rfl) (by rfl) ?_
    intro w2 g2 hE hg2 hB2
    have hG2 := Nat.le_trans hX.size hg2; have hN2_1 : g2 ≠ g1 := Nat.ne_of_gt (Nat.lt_of_lt_of_le hB1.lt hg2)
    replace hB1 := hB1.ext hE; (try replace hS3 := hS3.ext hE); (try replace hO3 := hO3.ext hE); replace hX := hX.trans hE
    clear hE hg2
    simp only [ev,zD,zE,zF,zG]
    refine n_append rfl Tryz.underlying22 inf_3 rfl (by decide) rfl hO3 rfl (news := _) rfl hB2.row0 (by simp [Value.oneCell']) (by omega) (by omega) hS3.h ?_
    clear hO3; intro v3 w3 hO3 hGr _
    replace hB1 := hB1.grew hGr hl3_1; (try replace hS3 := hS3.grew hGr (by first | trivial | omega)); replace hX := hX.grown hGr hb3l
    clear hGr
    replace hO3 := hO3.snoc
    simp only [ev,zD,zE,zF,zG]
    refine n_val (r_assign) ?_
    simp only [ev,zD,zE,zF,zG]
    refine n_nil ?_
    refine hK8 _ _ ?_
    refine wp_region_lit (n_val (r_move) (n_val (r_sub rfl rfl (wrap_i64 (by omega) (by omega))) (n_val (r_assign) ?_)))
    simp only [ev,zD,zE,zF,zG]
    refine n_nil ?_
    obtain ⟨r1, r2⟩ := digits_round hlo hv (by omega) hd2 hbd hd
    rw [show ((s.size : Int) - 2 * (k : Int) - 2) = (s.size : Int) - 2 * ((k + 1 : Nat) : Int) by omega]
    simp only [Exit.inBlock,Exit.then]
    refine ⟨s.size - 2 * (k + 1), _, ?_, rfl, ?_, ?_⟩
    · omega
    · simp only [zQ,zR,zD,zE,setG_cons,setG_nil,setMany_cons,setMany_nil,zF,zG]
    ·
     simp only [zQ,zR,zD,zE]
     exact ⟨k + 1, os ++ [d], v3, rfl, hX, hB1, hS3, hO3, by simp; omega, r1, r2, by omega, rfl⟩
  ·
   refine wp_exit ?_
   refine hK4 _ _ ?_
   refine c_seq (fun K12 hK12 => ?_)
   obtain ⟨A3, c3, rfl, hD, _⟩ := DigAt.of_owns hO3 rfl hd (by omega)
   refine wp_region_lit (n_val (r_move) ?_)
   simp only [ev,zD,zE,zF,zG]
   refine n_call rfl rfl (trim_c _ hD) ?_
   rintro v w2 hE rfl
   replace hB1 := hB1.ext hE; (try replace hS3 := hS3.ext hE); (try replace hO3 := hO3.ext hE); (try replace hD := hD.ext hE); replace hX := hX.trans hE
   clear hE
   simp only [ev,zD,zE,zF,zG]
   refine n_val (r_assign) ?_
   simp only [ev,zD,zE,zF,zG]
   refine n_nil ?_
   refine hK12 _ _ ?_
   refine wp_ret ?_
   try simp only [Exit.inBlock,Exit.then]
   refine fin1 rfl rfl ?_
   try simp only [zD,zE]
   exact ⟨_, rfl, hX, DigRes.of_trim hD (by rw [hv, List.take_of_length_le (by omega)]; rfl)⟩

set_option maxHeartbeats 400000 in
theorem rwide_c {A : Option Addr} {xs : List Nat} {b na cap : Nat} {neg : Bool} (w : World) (hS : DigAt w b A na cap xs) (hl : xs.length ≤ 100000000000) : Does Tryz.prog 79 [.bool neg, .slice A na cap] w (fun v _ => v = W (sgn neg (val 65536 xs))) := by
 skip
 refine ⟨en_79, ?_⟩
 have hX := Ext.refl w
 obtain rfl := hS.eq
 have hlt := length_trim_le xs
 have hT : DigAt w w.heap.size A (trim xs).length cap (trim xs) := by
  have h := (hS.take (trim xs).length).here
  rwa [← trim_eq_take] at h
 have htr := trimmed_trim xs
 have hvx := val_trim 65536 xs
 obtain ⟨ys, hys⟩ : ∃ ys, ys = trim xs := ⟨_, rfl⟩
 rw [← hys] at hT htr hlt hvx
 have hyd := hT.digs
 have h2l := laid2_len ys
 go_enter Tryz.func79, Tryz.ntmps79
 refine c_seq (fun K1 hK1 => wp_region_lit ?_)
 refine n_alloc zero_32 rfl ?_
 intro w1 g1 hE hg1 hB1
 have hG1 := Nat.le_trans hX.size hg1
 (try replace hT := hT.ext hE); replace hX := hX.trans hE
 clear hE hg1
 simp only [ev,zD,zE,zF,zG]
 refine n_nil ?_
 refine hK1 _ _ ?_
 refine c_seq (fun K2 hK2 => wp_region_lit (n_val (r_move) ?_))
 simp only [ev,zD,zE,zF,zG]
 refine n_call rfl rfl (trim_c _ (hS.ext hX)) ?_
 rintro v w2 hE rfl
 replace hB1 := hB1.ext hE; (try replace hT := hT.ext hE); replace hX := hX.trans hE
 clear hE
 rw [← hys]
 clear hys
 simp only [ev,zD,zE,zF,zG]
 refine n_val (r_assign) ?_
 simp only [ev,zD,zE,zF,zG]
 refine n_nil ?_
 refine hK2 _ _ ?_
 refine c_seq (fun K3 hK3 => c_seq (fun K4 hK4 => ?_))
 by_cases hy0 : ys = []
 ·
  subst hy0
  refine wp_region_lit (n_val (r_move) (n_val (r_lenS rfl Tryz.underlying22 rfl) (n_val (r_eqlT rfl rfl (by rfl)) ?_)))
  simp only [ev,zD,zE,zF,zG]
  refine n_nil ?_
  refine hK4 _ _ ?_
  refine c_yes rfl (c_seq (fun K5 hK5 => wp_region_lit (n_val (r_build_32_) ?_)))
  simp only [ev,zD,zE,zF,zG]
  refine n_store rfl (by simp only [ev,zD,zE]; rfl) (by exact cells_32) hB1 (by simp) (by simp [Value.oneCell']) ?_
  clear hB1; intro w3 hC hB1
  (try replace hT := hT.chg hC (by first | assumption | rfl)); replace hX := hX.chg hC hG1
  clear hC
  simp only [over,zH,zI,zJ,zK,zL,zM,zN,zO,zP,Nat.reduceAdd] at hB1
  refine n_nil ?_
  refine hK5 _ _ ?_
  refine wp_ret ?_
  try simp only [Exit.inBlock,Exit.then]
  refine fin1 rfl ⟨_, rfl, (hB1.lies agg_32 cells_32 rfl rfl)⟩ ?_
  try simp only [zD,zE]
  exact ⟨_, rfl, hX, by rw [← hvx]; cases neg <;> rfl⟩
 ·
  have hyl : 0 < ys.length := List.length_pos_iff.2 hy0
  have htop := trimmed_top htr hyl
  refine wp_region_lit (n_val (r_move) (n_val (r_lenS rfl Tryz.underlying22 rfl) (n_val (r_eqlF rfl rfl (by omega)) ?_)))
  simp only [ev,zD,zE,zF,zG]
  refine n_nil ?_
  refine hK4 _ _ ?_
  refine c_no rfl (wp_skip ?_)
  refine hK3 _ _ ?_
  refine c_seq (fun K6 hK6 => wp_region_lit (n_val (r_assign) ?_))
  simp only [ev,zD,zE,zF,zG]
  obtain ⟨b5, hb5e, hb5l⟩ := hX.base
  have hS5 := Base.of hX hb5e
  have hO5 := Owns.nil_of hX b5 5 1
  have hl5_1 : g1 < b5 := by rw [hb5e]; exact hB1.lt
  clear hb5e
  refine n_nil ?_
  refine hK6 _ _ ?_
  refine c_seq (fun K7 hK7 => c_seq (fun K8 hK8 => wp_region_lit (n_val (r_move) (n_val (r_lenS rfl Tryz.underlying22 rfl) (n_val (r_sub rfl rfl (wrap_i64 (by omega) (by omega))) ?_)))))
  simp only [ev,zD,zE,zF,zG]
  refine n_val (r_assign) ?_
  simp only [ev,zD,zE,zF,zG]
  refine n_nil ?_
  refine hK8 _ _ ?_
  refine wp_block ?_
  refine c_loopg [5, 6] [16, 17, 18, 19, 20, 21, 22, 23, 24, 25, 26, 27, 28, 29, 30, 31, 32, 33, 34, 35, 36, 37, 38, 39, 40, 41, 42, 43, 44, 45, 46, 47, 48, 49] (fun n vs wl => ∃ (k : Nat) (os : List UInt8) (v5 : Value), vs = [v5, .int .i64 ((k:Int) - 1)] ∧ (Ext w wl) ∧ (Blk wl g1 [.bool false, .string ⟨#[]⟩] 32) ∧ (DigAt wl w.heap.size A ys.length cap ys) ∧ (Base wl b5) ∧ (Owns wl b5 5 1 v5 os.length (os.map u8v)) ∧ (os = laid2 ys k) ∧ (k ≤ ys.length) ∧ (k < ys.length → laid2 ys k ≠ []) ∧ (os.length ≤ 2 * ys.length) ∧ (n = k)) ?_ ?_
  ·
   apply Exists.intro
   simp only [zQ,zR,zD,zE]
   exact ⟨ys.length, [], _, rfl, hX, hB1, hT, hS5, hO5, (laid2_all ys).symm, by omega, fun h => absurd h (by omega), by simp, rfl⟩
  ·
   intro n vs wr hI u
   obtain ⟨k, os, v5, rfl, hX, hB1, hT, hS5, hO5, hos, hk, hne, hosl, hn⟩ := hI
   simp only [setG_cons,setG_nil,setMany_cons,setMany_nil,zF,zG]
   refine c_seq (fun K9 hK9 => c_seq (fun K10 hK10 => wp_region_lit (n_val (r_move) (n_val (r_geq rfl rfl) ?_))))
   simp only [ev,zD,zE,zF,zG]
   refine n_nil ?_
   refine hK10 _ _ ?_
   refine c_if rfl (fun hc2 => ?_) (fun hc2 => ?_)
   ·
    refine wp_skip ?_
    refine hK9 _ _ ?_
    refine c_seq (fun K11 hK11 => wp_block (c_seq (fun K12 hK12 => c_seq (fun K13 hK13 => ?_))))
    obtain ⟨a, rfl, hca, hla⟩ := hT.get (show k - 1 < ys.length by omega)
    rcases (show k < ys.length ∨ k = ys.length by omega) with hkl | hkl
    ·
     obtain ⟨r1, r2⟩ := laid2_next (show 0 < k by omega) (by omega) (hne hkl)
     refine wp_region_lit (n_val (r_move) (n_val (r_move) (n_val (r_lenS rfl Tryz.underlying22 rfl) ?_)))
     simp only [ev,zD,zE,zF,zG]
     refine n_val (r_sub rfl rfl (wrap_i64 (by omega) (by omega))) (n_val (r_lssT rfl rfl (by omega)) (n_val (r_move) ?_))
     simp only [ev,zD,zE,zF,zG]
     refine n_skipF rfl ?_
     simp only [ev,zD,zE,zF,zG]
     refine n_skipF rfl ?_
     simp only [ev,zD,zE,zF,zG]
     refine n_skipF rfl ?_
     simp only [ev,zD,zE,zF,zG]
     refine n_skipF rfl ?_
     simp only [ev,zD,zE,zF,zG]
     refine n_skipF rfl ?_
     simp only [ev,zD,zE,zF,zG]
     refine n_val (r_pickT rfl) ?_
     simp only [ev,zD,zE,zF,zG]
     refine n_nil ?_
     refine hK13 _ _ ?_
     refine c_yes rfl ?_
     have hca := hT.at (show k - 1 < ys.length by omega)
     refine wp_region_lit (n_val (r_move) (n_val (r_move) (n_val (r_move) ?_)))
     simp only [ev,zD,zE,zF,zG]
     refine n_val (r_indexAddrS Tryz.underlying22 cells_3 rfl rfl (by omega) (by omega) (addr1 (show _ = k - 1 by omega))) ?_
     simp only [ev,zD,zE,zF,zG]
     refine n_load rfl (lies1 hca agg_3) ?_
     simp only [ev,zD,zE,zF,zG]
     refine n_val (r_quo rfl rfl (by omega) (quo_i64 (n := 256) (by omega))) (n_val (r_conv Tryz.underlying5 Tryz.underlying3 rfl (wrap_u8n (by omega))) ?_)
     simp only [ev,zD,zE,zF,zG]
     refine n_build1 Tryz.underlying143 (z := .int .u8 0) (by kernel_rfl) rfl (by simp only [ev,zD,zE,zF,zG]; rfl) (by rfl) ?_
     intro w3 g2 hE hg2 hB2
     have hG2 := Nat.le_trans hX.size hg2; have hN2_1 : g2 ≠ g1 := Nat.ne_of_gt (Nat.lt_of_lt_of_le hB1.lt hg2)
     replace hB1 := hB1.ext hE; (try replace hT := hT.ext hE); (try replace hS5 := hS5.ext hE); (try replace hO5 := hO5.ext hE); replace hX := hX.trans hE
     clear hE hg2
     simp only [ev,zD,zE,zF,zG]
     refine n_append rfl Tryz.underlying143 inf_5 rfl (by decide) rfl hO5 rfl (news := _) rfl hB2.row0 (by simp [Value.oneCell']) (by omega) (by omega) hS5.h ?_
     clear hO5; intro v5 w4 hO5 hGr _
     replace hB1 := hB1.grew hGr hl5_1; (try replace hT := hT.grew hGr (by first | trivial | omega)); (try replace hS5 := hS5.grew hGr (by first | trivial | omega)); replace hX := hX.grown hGr hb5l
     clear hGr
     replace hO5 := hO5.snoc8 (by omega)
     simp only [ev,zD,zE,zF,zG]
     refine n_val (r_assign) ?_
     simp only [ev,zD,zE,zF,zG]
     refine n_nil ?_
     refine hK12 _ _ ?_
     have hca := hT.at (show k - 1 < ys.length by omega)
     refine wp_region_lit (n_val (r_move) (n_val (r_move) (n_val (r_move) ?_)))
     simp only [ev,zD,zE,zF,zG]
     refine n_val (r_indexAddrS Tryz.underlying22 cells_3 rfl rfl (by omega) (by omega) (addr1 (show _ = k - 1 by omega))) ?_
     simp only [ev,zD,zE,zF,zG]
     refine n_load rfl (lies1 hca agg_3) ?_
     simp only [ev,zD,zE,zF,zG]
     refine n_val (r_rem rfl rfl (by omega) (rem_nat (n := 256))) (n_val (r_conv Tryz.underlying5 Tryz.underlying3 rfl (wrap_u8n (by omega))) ?_)
     simp only [ev,zD,zE,zF,zG]
     refine n_build1 Tryz.underlying143 (z := .int .u8 0) (by kernel_rfl) rfl (by simp only [ev,zD,zE,zF,zG]; rfl) (by rfl) ?_
     intro w5 g3 hE hg3 hB3
     have hG3 := Nat.le_trans hX.size hg3; have hN3_1 : g3 ≠ g1 := Nat.ne_of_gt (Nat.lt_of_lt_of_le hB1.lt hg3)
     replace hB1 := hB1.ext hE; (try replace hT := hT.ext hE); (try replace hS5 := hS5.ext hE); (try replace hO5 := hO5.ext hE); replace hX := hX.trans hE
     clear hE hg3
     simp only [ev,zD,zE,zF,zG]
     refine n_append rfl Tryz.underlying143 inf_5 rfl (by decide) rfl hO5 rfl (news := _) rfl hB3.row0 (by simp [Value.oneCell']) (by first | omega | (simp; omega)) (by first | omega | (simp; omega)) hS5.h ?_
     clear hO5; intro v5 w6 hO5 hGr _
     replace hB1 := hB1.grew hGr hl5_1; (try replace hT := hT.grew hGr (by first | trivial | omega)); (try replace hS5 := hS5.grew hGr (by first | trivial | omega)); replace hX := hX.grown hGr hb5l
     clear hGr
     replace hO5 := hO5.snoc8 (by omega)
     simp only [ev,zD,zE,zF,zG]
     refine n_val (r_assign) ?_
     simp only [ev,zD,zE,zF,zG]
     refine n_nil ?_
     refine hK11 _ _ ?_
     refine wp_region_lit (n_val (r_move) (n_val (r_sub rfl rfl (wrap_i64 (by omega) (by omega))) (n_val (r_assign) ?_)))
     simp only [ev,zD,zE,zF,zG]
     refine n_nil ?_
     have hos2 : os ++ [UInt8.ofNat (ys[k - 1] / 256)] ++ [UInt8.ofNat (ys[k - 1] % 256)] = laid2 ys (k - 1) := by rw [r1, hos]
     rw [show ((k:Int) - 1 - 1) = ((k - 1 : Nat) : Int) - 1 by omega]
     simp only [Exit.inBlock,Exit.then]
     refine ⟨k - 1, _, ?_, rfl, ?_, ?_⟩
     · omega
     · simp only [zQ,zR,zD,zE,setG_cons,setG_nil,setMany_cons,setMany_nil,zF,zG]
     ·
      simp only [zQ,zR,zD,zE]
      exact ⟨k - 1, os ++ [UInt8.ofNat (ys[k - 1] / 256)] ++ [UInt8.ofNat (ys[k - 1] % 256)], v5, rfl, hX, hB1, hT, hS5, hO5, hos2, by omega, fun _ => r2, by rw [hos2]; exact h2l _, rfl⟩
    ·
     subst hkl
     obtain ⟨f1, f2⟩ := laid2_first (by omega) htop hla
     have hos0 : os = [] := by rw [hos]; exact laid2_all ys
     refine wp_region_lit (n_val (r_move) (n_val (r_move) (n_val (r_lenS rfl Tryz.underlying22 rfl) ?_)))
     simp only [ev,zD,zE,zF,zG]
     refine n_val (r_sub rfl rfl (wrap_i64 (by omega) (by omega))) (n_val (r_lssF rfl rfl (by omega)) (n_val (r_move) ?_))
     simp only [ev,zD,zE,zF,zG]
     refine n_want rfl (n_val (r_move) ?_)
     simp only [ev,zD,zE,zF,zG]
     refine n_want rfl (n_val (r_move) ?_)
     simp only [ev,zD,zE,zF,zG]
     refine n_want rfl (n_val (r_indexAddrS Tryz.underlying22 cells_3 rfl rfl (by omega) (by omega) (addr1 (show _ = ys.length - 1 by omega))) ?_)
     simp only [ev,zD,zE,zF,zG]
     refine n_want rfl ?_
     refine n_load rfl (lies1 hca agg_3) ?_
     simp only [ev,zD,zE,zF,zG]
     refine n_want rfl (n_val (r_geq rfl rfl) (n_val (r_pickF rfl) ?_))
     simp only [ev,zD,zE,zF,zG]
     refine n_nil ?_
     refine hK13 _ _ ?_
     refine c_if rfl (fun hc3 => ?_) (fun hc3 => ?_)
     ·
      have hca := hT.at (show ys.length - 1 < ys.length by omega)
      refine wp_region_lit (n_val (r_move) (n_val (r_move) (n_val (r_move) ?_)))
      simp only [ev,zD,zE,zF,zG]
      refine n_val (r_indexAddrS Tryz.underlying22 cells_3 rfl rfl (by omega) (by omega) (addr1 (show _ = ys.length - 1 by omega))) ?_
      simp only [ev,zD,zE,zF,zG]
      refine n_load rfl (lies1 hca agg_3) ?_
      simp only [ev,zD,zE,zF,zG]
      refine n_val (r_quo rfl rfl (by omega) (quo_i64 (n := 256) (by omega))) (n_val (r_conv Tryz.underlying5 Tryz.underlying3 rfl (wrap_u8n (by omega))) ?_)
      simp only [ev,zD,zE,zF,zG]
      refine n_build1 Tryz.underlying143 (z := .int .u8 0) (by kernel_rfl) rfl (by simp only [ev,zD,zE,zF,zG]; rfl) (by rfl) ?_
      intro w3 g2 hE hg2 hB2
      have hG2 := Nat.le_trans hX.size hg2; have hN2_1 : g2 ≠ g1 := Nat.ne_of_gt (Nat.lt_of_lt_of_le hB1.lt hg2)
      replace hB1 := hB1.ext hE; (try replace hT := hT.ext hE); (try replace hS5 := hS5.ext hE); (try replace hO5 := hO5.ext hE); replace hX := hX.trans hE
      clear hE hg2
      simp only [ev,zD,zE,zF,zG]
      refine n_append rfl Tryz.underlying143 inf_5 rfl (by decide) rfl hO5 rfl (news := _) rfl hB2.row0 (by simp [Value.oneCell']) (by omega) (by omega) hS5.h ?_
      clear hO5; intro v5 w4 hO5 hGr _
      replace hB1 := hB1.grew hGr hl5_1; (try replace hT := hT.grew hGr (by first | trivial | omega)); (try replace hS5 := hS5.grew hGr (by first | trivial | omega)); replace hX := hX.grown hGr hb5l
      clear hGr
      replace hO5 := hO5.snoc8 (by omega)
      simp only [ev,zD,zE,zF,zG]
      refine n_val (r_assign) ?_
      simp only [ev,zD,zE,zF,zG]
      refine n_nil ?_
      refine hK12 _ _ ?_
      have hca := hT.at (show ys.length - 1 < ys.length by omega)
      refine wp_region_lit (n_val (r_move) (n_val (r_move) (n_val (r_move) ?_)))
      simp only [ev,zD,zE,zF,zG]
      refine n_val (r_indexAddrS Tryz.underlying22 cells_3 rfl rfl (by omega) (by omega) (addr1 (show _ = ys.length - 1 by omega))) ?_
      simp only [ev,zD,zE,zF,zG]
      refine n_load rfl (lies1 hca agg_3) ?_
      simp only [ev,zD,zE,zF,zG]
      refine n_val (r_rem rfl rfl (by omega) (rem_nat (n := 256))) (n_val (r_conv Tryz.underlying5 Tryz.underlying3 rfl (wrap_u8n (by omega))) ?_)
      simp only [ev,zD,zE,zF,zG]
      refine n_build1 Tryz.underlying143 (z := .int .u8 0) (by kernel_rfl) rfl (by simp only [ev,zD,zE,zF,zG]; rfl) (by rfl) ?_
      intro w5 g3 hE hg3 hB3
      have hG3 := Nat.le_trans hX.size hg3; have hN3_1 : g3 ≠ g1 := Nat.ne_of_gt (Nat.lt_of_lt_of_le hB1.lt hg3)
      replace hB1 := hB1.ext hE; (try replace hT := hT.ext hE); (try replace hS5 := hS5.ext hE); (try replace hO5 := hO5.ext hE); replace hX := hX.trans hE
      clear hE hg3
      simp only [ev,zD,zE,zF,zG]
      refine n_append rfl Tryz.underlying143 inf_5 rfl (by decide) rfl hO5 rfl (news := _) rfl hB3.row0 (by simp [Value.oneCell']) (by first | omega | (simp; omega)) (by first | omega | (simp; omega)) hS5.h ?_
      clear hO5; intro v5 w6 hO5 hGr _
      replace hB1 := hB1.grew hGr hl5_1; (try replace hT := hT.grew hGr (by first | trivial | omega)); (try replace hS5 := hS5.grew hGr (by first | trivial | omega)); replace hX := hX.grown hGr hb5l
      clear hGr
      replace hO5 := hO5.snoc8 (by omega)
      simp only [ev,zD,zE,zF,zG]
      refine n_val (r_assign) ?_
      simp only [ev,zD,zE,zF,zG]
      refine n_nil ?_
      refine hK11 _ _ ?_
      refine wp_region_lit (n_val (r_move) (n_val (r_sub rfl rfl (wrap_i64 (by omega) (by omega))) (n_val (r_assign) ?_)))
      simp only [ev,zD,zE,zF,zG]
      refine n_nil ?_
      have hos2 : os ++ [UInt8.ofNat (ys[ys.length - 1] / 256)] ++ [UInt8.ofNat (ys[ys.length - 1] % 256)] = laid2 ys (ys.length - 1) := by rw [f1, if_pos (by omega), hos0]; rfl
      rw [show ((ys.length:Int) - 1 - 1) = ((ys.length - 1 : Nat) : Int) - 1 by omega]
      simp only [Exit.inBlock,Exit.then]
      refine ⟨ys.length - 1, _, ?_, rfl, ?_, ?_⟩
      · omega
      · simp only [zQ,zR,zD,zE,setG_cons,setG_nil,setMany_cons,setMany_nil,zF,zG]
      ·
       simp only [zQ,zR,zD,zE]
       exact ⟨ys.length - 1, os ++ [UInt8.ofNat (ys[ys.length - 1] / 256)] ++ [UInt8.ofNat (ys[ys.length - 1] % 256)], v5, rfl, hX, hB1, hT, hS5, hO5, hos2, by omega, fun _ => f2, by rw [hos2]; exact h2l _, rfl⟩
     ·
      refine wp_skip ?_
      refine hK12 _ _ ?_
      have hca := hT.at (show ys.length - 1 < ys.length by omega)
      refine wp_region_lit (n_val (r_move) (n_val (r_move) (n_val (r_move) ?_)))
      simp only [ev,zD,zE,zF,zG]
      refine n_val (r_indexAddrS Tryz.underlying22 cells_3 rfl rfl (by omega) (by omega) (addr1 (show _ = ys.length - 1 by omega))) ?_
      simp only [ev,zD,zE,zF,zG]
      refine n_load rfl (lies1 hca agg_3) ?_
      simp only [ev,zD,zE,zF,zG]
      refine n_val (r_rem rfl rfl (by omega) (rem_nat (n := 256))) (n_val (r_conv Tryz.underlying5 Tryz.underlying3 rfl (wrap_u8n (by omega))) ?_)
      simp only [ev,zD,zE,zF,zG]
      refine n_build1 Tryz.underlying143 (z := .int .u8 0) (by kernel_rfl) rfl (by simp only [ev,zD,zE,zF,zG]; rfl) (by rfl) ?_
      intro w3 g2 hE hg2 hB2
      have hG2 := Nat.le_trans hX.size hg2; have hN2_1 : g2 ≠ g1 := Nat.ne_of_gt (Nat.lt_of_lt_of_le hB1.lt hg2)
      replace hB1 := hB1.ext hE; (try replace hT := hT.ext hE); (try replace hS5 := hS5.ext hE); (try replace hO5 := hO5.ext hE); replace hX := hX.trans hE
      clear hE hg2
      simp only [ev,zD,zE,zF,zG]
      refine n_append rfl Tryz.underlying143 inf_5 rfl (by decide) rfl hO5 rfl (news := _) rfl hB2.row0 (by simp [Value.oneCell']) (by first | omega | (simp; omega)) (by first | omega | (simp; omega)) hS5.h ?_
      clear hO5; intro v5 w4 hO5 hGr _
      replace hB1 := hB1.grew hGr hl5_1; (try replace hT := hT.grew hGr (by first | trivial | omega)); (try replace hS5 := hS5.grew hGr (by first | trivial | omega)); replace hX := hX.grown hGr hb5l
      clear hGr
      replace hO5 := hO5.snoc8 (by omega)
      simp only [ev,zD,zE,zF,zG]
      refine n_val (r_assign) ?_
      simp only [ev,zD,zE,zF,zG]
      refine n_nil ?_
      refine hK11 _ _ ?_
      refine wp_region_lit (n_val (r_move) (n_val (r_sub rfl rfl (wrap_i64 (by omega) (by omega))) (n_val (r_assign) ?_)))
      simp only [ev,zD,zE,zF,zG]
      refine n_nil ?_
      have hos2 : os ++ [UInt8.ofNat (ys[ys.length - 1] % 256)] = laid2 ys (ys.length - 1) := by rw [f1, if_neg (by omega), hos0]
      rw [show ((ys.length:Int) - 1 - 1) = ((ys.length - 1 : Nat) : Int) - 1 by omega]
      simp only [Exit.inBlock,Exit.then]
      refine ⟨ys.length - 1, _, ?_, rfl, ?_, ?_⟩
      · omega
      · simp only [zQ,zR,zD,zE,setG_cons,setG_nil,setMany_cons,setMany_nil,zF,zG]
      ·
       simp only [zQ,zR,zD,zE]
       exact ⟨ys.length - 1, os ++ [UInt8.ofNat (ys[ys.length - 1] % 256)], v5, rfl, hX, hB1, hT, hS5, hO5, hos2, by omega, fun _ => f2, by rw [hos2]; exact h2l _, rfl⟩
   ·
    refine wp_exit ?_
    refine hK7 _ _ ?_
    refine c_seq (fun K14 hK14 => wp_region_lit (n_val (r_move) (n_val (r_move) ?_)))
    simp only [ev,zD,zE,zF,zG]
    refine n_valW (r_bytesOwn Tryz.underlying143 Tryz.underlying5 Tryz.underlying9 rfl hO5) ?_
    simp only [ev,zD,zE,zF,zG]
    refine n_val (r_build_32_0_1 rfl rfl) ?_
    simp only [ev,zD,zE,zF,zG]
    refine n_store rfl (by simp only [ev,zD,zE]; rfl) (by exact cells_32) hB1 (by simp) (by simp [Value.oneCell']) ?_
    clear hB1; intro w3 hC hB1
    (try replace hT := hT.chg hC (by first | assumption | rfl)); (try replace hS5 := hS5.chg hC (by first | assumption | rfl)); (try replace hO5 := hO5.chg hC (by first | assumption | rfl)); replace hX := hX.chg hC hG1
    clear hC
    simp only [over,zH,zI,zJ,zK,zL,zM,zN,zO,zP,Nat.reduceAdd] at hB1
    refine n_nil ?_
    refine hK14 _ _ ?_
    refine wp_ret ?_
    try simp only [Exit.inBlock,Exit.then]
    refine fin1 rfl ⟨_, rfl, (hB1.lies agg_32 cells_32 rfl rfl)⟩ ?_
    try simp only [zD,zE]
    exact ⟨_, rfl, hX, by (obtain rfl : k = 0 := by omega); (have hV : val 65536 ys ≠ 0 := Nat.ne_of_gt (val_pos (by omega) htr hy0)); rw [hos, laid2_zero hyd neg, ← hvx]; simp [Lith.W, sgn_neg, hV]⟩

end Go.Proofs.YtmcgcnpgkkfkoaaGreatDoor
namespace Go.Proofs.YtmcgcnpgkkfkoaaGreatDoor
open Go.RowKit Go.Lith
set_option maxRecDepth 100000
attribute [local irreducible] wpList wpQuiet wpMix Code.wp
theorem len_mul16 {k : Nat} {a b : Int} (ha : Bd k a) (hb : Bd k b) : (digs 65536 (a * b).natAbs).length ≤ k + k := len_bd16 (Bd.mul ha hb)
theorem nil_iff16 {a : Int} : (((digs 65536 a.natAbs).length : Int) = 0) ↔ a = 0 := by
 constructor
 ·
  intro h
  have h0 : digs 65536 a.natAbs = [] := List.eq_nil_of_length_eq_zero (by omega)
  have := (digs_eq_nil (by omega)).1 h0
  omega
 · rintro rfl; rfl
set_option maxHeartbeats 400000 in
theorem rSign_c {a : Int} (ha : Bd 1000000 a) : Pure Tryz.prog 82 [W a] (.int .i64 (isign a)) := by
 intro w
 refine ⟨en_82, ?_⟩
 have hX := Ext.refl w
 go_enter Tryz.func82, Tryz.ntmps82
 refine c_seq (fun K1 hK1 => wp_region_lit ?_)
 refine n_box (by simp only [ev,zD,zE]; rfl) ?_
 intro w1 g1 hE hg1 hB1
 have hG1 := Nat.le_trans hX.size hg1
 replace hX := hX.trans hE
 clear hE hg1
 simp only [ev,zD,zE,zF,zG]
 refine n_val (r_assign) ?_
 simp only [ev,zD,zE,zF,zG]
 refine n_nil ?_
 refine hK1 _ _ ?_
 refine c_seq (fun K2 hK2 => c_seq (fun K3 hK3 => wp_region_lit ?_))
 refine n_load rfl (hB1.lies agg_32 cells_32 rfl rfl) ?_
 simp only [ev,zD,zE,zF,zG]
 refine n_call rfl rfl (digits_c _ (wmag_size ha)) ?_
 rintro v w2 hE ⟨A1, c1, rfl, hD1⟩
 replace hB1 := hB1.ext hE; replace hX := hX.trans hE
 clear hE
 rw [sval_wmag] at hD1 ⊢
 simp only [ev,zD,zE,zF,zG]
 refine n_val (r_lenS rfl Tryz.underlying22 rfl) (n_val (r_eql rfl rfl) ?_)
 simp only [ev,zD,zE,zF,zG]
 refine n_nil ?_
 refine hK3 _ _ ?_
 refine c_if rfl (fun hc1 => ?_) (fun hc1 => ?_)
 ·
  have h0 := nil_iff16.1 hc1
  refine c_seq (fun K4 hK4 => wp_region_lit (n_val (r_assign) ?_))
  simp only [ev,zD,zE,zF,zG]
  refine n_nil ?_
  refine hK4 _ _ ?_
  refine wp_ret ?_
  try simp only [Exit.inBlock,Exit.then]
  refine fin1 rfl rfl ?_
  try simp only [zD,zE]
  exact ⟨_, rfl, hX, by rw [h0]; rfl⟩
 ·
  refine wp_skip ?_
  refine hK2 _ _ ?_
  refine c_seq (fun K5 hK5 => c_seq (fun K6 hK6 => wp_region_lit (n_val (r_fieldAddr (c := 0) Tryz.underlying32 rfl cells_4 rfl rfl) ?_)))
  simp only [ev,zD,zE,zF,zG]
  refine n_load rfl (hB1.lies1 agg_4 rfl) ?_
  simp only [ev,zD,zE,zF,zG]
  refine n_nil ?_
  refine hK6 _ _ ?_
  refine c_cond rfl (fun hc2 => ?_) (fun hc2 => ?_)
  ·
   have hn := wneg_true hc2
   refine c_seq (fun K7 hK7 => wp_region_lit (n_val (r_assign) ?_))
   simp only [ev,zD,zE,zF,zG]
   refine n_nil ?_
   refine hK7 _ _ ?_
   refine wp_ret ?_
   try simp only [Exit.inBlock,Exit.then]
   refine fin1 rfl rfl ?_
   try simp only [zD,zE]
   exact ⟨_, rfl, hX, by rw [isign_neg hn]⟩
  ·
   have hn := wneg_false hc2
   have h0 : ¬ a = 0 := fun e => hc1 (nil_iff16.2 e)
   refine wp_skip ?_
   refine hK5 _ _ ?_
   refine c_seq (fun K8 hK8 => wp_region_lit (n_val (r_assign) ?_))
   simp only [ev,zD,zE,zF,zG]
   refine n_nil ?_
   refine hK8 _ _ ?_
   refine wp_ret ?_
   try simp only [Exit.inBlock,Exit.then]
   refine fin1 rfl rfl ?_
   try simp only [zD,zE]
   exact ⟨_, rfl, hX, by rw [isign_pos (by omega)]⟩

set_option maxHeartbeats 400000 in
theorem rNeg_c {a : Int} (ha : Bd 1000000 a) : Pure Tryz.prog 167 [W a] (W (-a)) := by
 intro w
 refine ⟨en_167, ?_⟩
 have hX := Ext.refl w
 have hla : (digs 65536 a.natAbs).length ≤ 1000000 := len_bd16 ha
 go_enter Tryz.func167, Tryz.ntmps167
 refine c_seq (fun K1 hK1 => wp_region_lit ?_)
 refine n_box (by simp only [ev,zD,zE]; rfl) ?_
 intro w1 g1 hE hg1 hB1
 have hG1 := Nat.le_trans hX.size hg1
 replace hX := hX.trans hE
 clear hE hg1
 simp only [ev,zD,zE,zF,zG]
 refine n_alloc zero_32 rfl ?_
 intro w2 g2 hE hg2 hB2
 have hG2 := Nat.le_trans hX.size hg2; have hN2_1 : g2 ≠ g1 := Nat.ne_of_gt (Nat.lt_of_lt_of_le hB1.lt hg2)
 replace hB1 := hB1.ext hE; replace hX := hX.trans hE
 clear hE hg2
 simp only [ev,zD,zE,zF,zG]
 refine n_nil ?_
 refine hK1 _ _ ?_
 refine c_seq (fun K2 hK2 => ?_)
 refine wp_region_held' [(0, true), (1, true), (2, true), (3, true), (4, false), (5, false), (6, false)] follows_mixed (by kernel_rfl) (panic_put (fun _ _ _ _ _ h => h)) (ol := ?_) ?hol ?_
 case hol => simp only [zQ,zR,zS,zT,zU,zV]; try rfl
 intro w3 hE
 replace hB1 := hB1.ext hE; replace hB2 := hB2.ext hE; replace hX := hX.trans hE
 clear hE
 refine ⟨_, (Hold.blk hB1 Hold.nil), ?_⟩
 refine h_val (r_fieldAddr (c := 0) Tryz.underlying32 rfl cells_4 rfl rfl) ?_
 simp only [ev,zD,zE,zF,zG]
 refine h_load rfl (fun _ ⟨hB1, _⟩ => (hB1.lies1 agg_4 rfl)) ?_
 simp only [ev,zD,zE,zF,zG]
 refine h_val (r_not rfl) ?_
 simp only [ev,zD,zE,zF,zG]
 refine h_load rfl (fun _ ⟨hB1, _⟩ => (hB1.lies agg_32 cells_32 rfl rfl)) ?_
 simp only [ev,zD,zE,zF,zG]
 refine h_step ?_
 refine n_call rfl rfl (digits_c _ (wmag_size ha)) ?_
 rintro v w4 hE ⟨A1, c1, rfl, hD1⟩
 replace hB1 := hB1.ext hE; replace hB2 := hB2.ext hE; replace hX := hX.trans hE
 clear hE
 rw [sval_wmag] at hD1 ⊢
 simp only [ev,zD,zE,zF,zG]
 refine n_nil ?_
 refine ⟨⟨hB1, trivial⟩, ?_⟩
 refine h_step ?_
 refine n_call rfl rfl (rwide_c _ hD1 (Nat.le_trans hla (by decide))) ?_
 rintro v w5 hE rfl
 replace hB1 := hB1.ext hE; replace hB2 := hB2.ext hE; (try replace hD1 := hD1.ext hE); replace hX := hX.trans hE
 clear hE
 simp only [val_digs16]
 simp only [ev,zD,zE,zF,zG]
 refine n_nil ?_
 refine ⟨⟨hB1, trivial⟩, ?_⟩
 refine h_step ?_
 refine n_store rfl (by simp only [ev,zD,zE]; rfl) (by exact cells_32) hB2 (by simp) (by simp [Value.oneCell']) ?_
 clear hB2; intro w6 hC hB2
 replace hB1 := hB1.chg hC (by first | exact hN1_2 | exact Ne.symm hN2_1); (try replace hD1 := hD1.chg hC (by first | assumption | rfl)); replace hX := hX.chg hC hG2
 clear hC
 simp only [over,zH,zI,zJ,zK,zL,zM,zN,zO,zP,Nat.reduceAdd] at hB2
 refine n_nil ?_
 refine ⟨⟨hB1, trivial⟩, ?_⟩
 refine h_nil ?_
 rw [sgn_not] at hB2
 refine hK2 _ _ ?_
 refine wp_ret ?_
 try simp only [Exit.inBlock,Exit.then]
 refine fin1 rfl ⟨_, rfl, (hB2.lies agg_32 cells_32 rfl rfl)⟩ ?_
 try simp only [zD,zE]
 exact ⟨_, rfl, hX, rfl⟩

set_option maxHeartbeats 400000 in
theorem rAdd_c {a b : Int} (ha : Bd 1000000 a) (hb : Bd 1000000 b) : Pure Tryz.prog 54 [W a, W b] (W (a + b)) := by
 intro w
 refine ⟨en_54, ?_⟩
 have hX := Ext.refl w
 have hla : (digs 65536 a.natAbs).length ≤ 1000000 := len_bd16 ha
 have hlb : (digs 65536 b.natAbs).length ≤ 1000000 := len_bd16 hb
 go_enter Tryz.func54, Tryz.ntmps54
 refine c_seq (fun K1 hK1 => wp_region_lit ?_)
 refine n_box (by simp only [ev,zD,zE]; rfl) ?_
 intro w1 g1 hE hg1 hB1
 have hG1 := Nat.le_trans hX.size hg1
 replace hX := hX.trans hE
 clear hE hg1
 simp only [ev,zD,zE,zF,zG]
 refine n_box (by simp only [ev,zD,zE]; rfl) ?_
 intro w2 g2 hE hg2 hB2
 have hG2 := Nat.le_trans hX.size hg2; have hN2_1 : g2 ≠ g1 := Nat.ne_of_gt (Nat.lt_of_lt_of_le hB1.lt hg2)
 replace hB1 := hB1.ext hE; replace hX := hX.trans hE
 clear hE hg2
 simp only [ev,zD,zE,zF,zG]
 refine n_alloc zero_32 rfl ?_
 intro w3 g3 hE hg3 hB3
 have hG3 := Nat.le_trans hX.size hg3; have hN3_1 : g3 ≠ g1 := Nat.ne_of_gt (Nat.lt_of_lt_of_le hB1.lt hg3); have hN3_2 : g3 ≠ g2 := Nat.ne_of_gt (Nat.lt_of_lt_of_le hB2.lt hg3)
 replace hB1 := hB1.ext hE; replace hB2 := hB2.ext hE; replace hX := hX.trans hE
 clear hE hg3
 simp only [ev,zD,zE,zF,zG]
 refine n_nil ?_
 refine hK1 _ _ ?_
 refine c_seq (fun K2 hK2 => wp_region_lit ?_)
 refine n_load rfl (hB1.lies agg_32 cells_32 rfl rfl) ?_
 simp only [ev,zD,zE,zF,zG]
 refine n_call rfl rfl (digits_c _ (wmag_size ha)) ?_
 rintro v w4 hE ⟨A1, c1, rfl, hD1⟩
 replace hB1 := hB1.ext hE; replace hB2 := hB2.ext hE; replace hB3 := hB3.ext hE; replace hX := hX.trans hE
 clear hE
 rw [sval_wmag] at hD1 ⊢
 simp only [ev,zD,zE,zF,zG]
 refine n_val (r_assign) ?_
 simp only [ev,zD,zE,zF,zG]
 refine n_nil ?_
 refine hK2 _ _ ?_
 refine c_seq (fun K3 hK3 => wp_region_lit ?_)
 refine n_load rfl (hB2.lies agg_32 cells_32 rfl rfl) ?_
 simp only [ev,zD,zE,zF,zG]
 refine n_call rfl rfl (digits_c _ (wmag_size hb)) ?_
 rintro v w5 hE ⟨A2, c2, rfl, hD2⟩
 replace hB1 := hB1.ext hE; replace hB2 := hB2.ext hE; replace hB3 := hB3.ext hE; (try replace hD1 := hD1.ext hE); replace hX := hX.trans hE
 clear hE
 rw [sval_wmag] at hD2 ⊢
 simp only [ev,zD,zE,zF,zG]
 refine n_val (r_assign) ?_
 simp only [ev,zD,zE,zF,zG]
 refine n_nil ?_
 refine hK3 _ _ ?_
 refine c_seq (fun K4 hK4 => c_seq (fun K5 hK5 => wp_region_lit (n_val (r_fieldAddr (c := 0) Tryz.underlying32 rfl cells_4 rfl rfl) ?_)))
 simp only [ev,zD,zE,zF,zG]
 refine n_load rfl (hB1.lies1 agg_4 rfl) ?_
 simp only [ev,zD,zE,zF,zG]
 refine n_val (r_fieldAddr (c := 0) Tryz.underlying32 rfl cells_4 rfl rfl) ?_
 simp only [ev,zD,zE,zF,zG]
 refine n_load rfl (hB2.lies1 agg_4 rfl) ?_
 simp only [ev,zD,zE,zF,zG]
 refine n_val (r_eqlB Tryz.underlying4 rfl rfl) ?_
 simp only [ev,zD,zE,zF,zG]
 refine n_nil ?_
 refine hK5 _ _ ?_
 refine c_if rfl (fun hc1 => ?_) (fun hc1 => ?_)
 ·
  refine c_seq (fun K6 hK6 => ?_)
  refine wp_region_held' [(0, true), (2, true), (3, true), (1, true), (4, false), (5, false), (6, false)] follows_mixed (by kernel_rfl) (panic_put (fun _ _ _ _ _ h => h)) (ol := ?_) ?hol ?_
  case hol => simp only [zQ,zR,zS,zT,zU,zV]; try rfl
  intro w6 hE
  replace hB1 := hB1.ext hE; replace hB2 := hB2.ext hE; replace hB3 := hB3.ext hE; (try replace hD1 := hD1.ext hE); (try replace hD2 := hD2.ext hE); replace hX := hX.trans hE
  clear hE
  refine ⟨_, (Hold.blk hB1 Hold.nil), ?_⟩
  refine h_val (r_fieldAddr (c := 0) Tryz.underlying32 rfl cells_4 rfl rfl) (h_val (r_move) (h_val (r_move) ?_))
  simp only [ev,zD,zE,zF,zG]
  refine h_load rfl (fun _ ⟨hB1, _⟩ => (hB1.lies1 agg_4 rfl)) ?_
  simp only [ev,zD,zE,zF,zG]
  refine h_step ?_
  refine n_call rfl rfl (plus_c _ hD1.here hD2.here (Nat.le_trans hla (by decide)) (Nat.le_trans hlb (by decide))) ?_
  rintro v w7 hE ⟨A3, c3, os, rfl, hD3, hv3, hl3⟩
  replace hB1 := hB1.ext hE; replace hB2 := hB2.ext hE; replace hB3 := hB3.ext hE; (try replace hD1 := hD1.ext hE); (try replace hD2 := hD2.ext hE); replace hX := hX.trans hE
  clear hE
  simp only [val_digs16] at hv3
  simp only [ev,zD,zE,zF,zG]
  refine n_nil ?_
  refine ⟨⟨hB1, trivial⟩, ?_⟩
  refine h_step ?_
  refine n_call rfl rfl (rwide_c _ hD3 (by omega)) ?_
  rintro v w8 hE rfl
  replace hB1 := hB1.ext hE; replace hB2 := hB2.ext hE; replace hB3 := hB3.ext hE; (try replace hD1 := hD1.ext hE); (try replace hD2 := hD2.ext hE); (try replace hD3 := hD3.ext hE); replace hX := hX.trans hE
  clear hE
  rw [hv3]
  simp only [ev,zD,zE,zF,zG]
  refine n_nil ?_
  refine ⟨⟨hB1, trivial⟩, ?_⟩
  refine h_step ?_
  refine n_store rfl (by simp only [ev,zD,zE]; rfl) (by exact cells_32) hB3 (by simp) (by simp [Value.oneCell']) ?_
  clear hB3; intro w9 hC hB3
  replace hB1 := hB1.chg hC (by first | exact hN1_3 | exact Ne.symm hN3_1); replace hB2 := hB2.chg hC (by first | exact hN2_3 | exact Ne.symm hN3_2); (try replace hD1 := hD1.chg hC (by first | assumption | rfl)); (try replace hD2 := hD2.chg hC (by first | assumption | rfl)); (try replace hD3 := hD3.chg hC (by first | assumption | rfl)); replace hX := hX.chg hC hG3
  clear hC
  simp only [over,zH,zI,zJ,zK,zL,zM,zN,zO,zP,Nat.reduceAdd] at hB3
  refine n_nil ?_
  refine ⟨⟨hB1, trivial⟩, ?_⟩
  refine h_nil ?_
  rw [sgn_add hc1] at hB3
  refine hK6 _ _ ?_
  refine wp_ret ?_
  try simp only [Exit.inBlock,Exit.then]
  refine fin1 rfl ⟨_, rfl, (hB3.lies agg_32 cells_32 rfl rfl)⟩ ?_
  try simp only [zD,zE]
  exact ⟨_, rfl, hX, rfl⟩
 ·
  refine wp_skip ?_
  refine hK4 _ _ ?_
  refine c_seq (fun K7 hK7 => c_seq (fun K8 hK8 => wp_region_lit (n_val (r_move) (n_val (r_move) ?_))))
  simp only [ev,zD,zE,zF,zG]
  refine n_call rfl rfl (compare_c _ hD1 hD2 (trimmed_digs16 _) (trimmed_digs16 _)) ?_
  rintro v w6 hE rfl
  replace hB1 := hB1.ext hE; replace hB2 := hB2.ext hE; replace hB3 := hB3.ext hE; (try replace hD1 := hD1.ext hE); (try replace hD2 := hD2.ext hE); replace hX := hX.trans hE
  clear hE
  simp only [val_digs16]
  simp only [ev,zD,zE,zF,zG]
  refine n_val (r_geq rfl rfl) ?_
  simp only [ev,zD,zE,zF,zG]
  refine n_nil ?_
  refine hK8 _ _ ?_
  refine c_if rfl (fun hc2 => ?_) (fun hc2 => ?_)
  ·
   have hge := ord_ge_iff.1 hc2
   refine c_seq (fun K9 hK9 => ?_)
   refine wp_region_held' [(0, true), (2, true), (3, true), (1, true), (4, false), (5, false), (6, false)] follows_mixed (by kernel_rfl) (panic_put (fun _ _ _ _ _ h => h)) (ol := ?_) ?hol ?_
   case hol => simp only [zQ,zR,zS,zT,zU,zV]; try rfl
   intro w7 hE
   replace hB1 := hB1.ext hE; replace hB2 := hB2.ext hE; replace hB3 := hB3.ext hE; (try replace hD1 := hD1.ext hE); (try replace hD2 := hD2.ext hE); replace hX := hX.trans hE
   clear hE
   refine ⟨_, (Hold.blk hB1 Hold.nil), ?_⟩
   refine h_val (r_fieldAddr (c := 0) Tryz.underlying32 rfl cells_4 rfl rfl) (h_val (r_move) (h_val (r_move) ?_))
   simp only [ev,zD,zE,zF,zG]
   refine h_load rfl (fun _ ⟨hB1, _⟩ => (hB1.lies1 agg_4 rfl)) ?_
   simp only [ev,zD,zE,zF,zG]
   refine h_step ?_
   refine n_call rfl rfl (minus_c _ hD1.here hD2.here (lt_len16 hge) (by simp only [val_digs16]; omega) (Nat.le_trans hla (by decide))) ?_
   rintro v w8 hE ⟨⟨A3, c3, rfl, hD3⟩, _⟩
   replace hB1 := hB1.ext hE; replace hB2 := hB2.ext hE; replace hB3 := hB3.ext hE; (try replace hD1 := hD1.ext hE); (try replace hD2 := hD2.ext hE); replace hX := hX.trans hE
   clear hE
   simp only [val_digs16] at hD3 ⊢
   have hl3 := lt_len16 (Nat.sub_le a.natAbs b.natAbs)
   simp only [ev,zD,zE,zF,zG]
   refine n_nil ?_
   refine ⟨⟨hB1, trivial⟩, ?_⟩
   refine h_step ?_
   refine n_call rfl rfl (rwide_c _ hD3 (Nat.le_trans hl3 (Nat.le_trans hla (by decide)))) ?_
   rintro v w9 hE rfl
   replace hB1 := hB1.ext hE; replace hB2 := hB2.ext hE; replace hB3 := hB3.ext hE; (try replace hD1 := hD1.ext hE); (try replace hD2 := hD2.ext hE); (try replace hD3 := hD3.ext hE); replace hX := hX.trans hE
   clear hE
   simp only [val_digs16]
   simp only [ev,zD,zE,zF,zG]
   refine n_nil ?_
   refine ⟨⟨hB1, trivial⟩, ?_⟩
   refine h_step ?_
   refine n_store rfl (by simp only [ev,zD,zE]; rfl) (by exact cells_32) hB3 (by simp) (by simp [Value.oneCell']) ?_
   clear hB3; intro w10 hC hB3
   replace hB1 := hB1.chg hC (by first | exact hN1_3 | exact Ne.symm hN3_1); replace hB2 := hB2.chg hC (by first | exact hN2_3 | exact Ne.symm hN3_2); (try replace hD1 := hD1.chg hC (by first | assumption | rfl)); (try replace hD2 := hD2.chg hC (by first | assumption | rfl)); (try replace hD3 := hD3.chg hC (by first | assumption | rfl)); replace hX := hX.chg hC hG3
   clear hC
   simp only [over,zH,zI,zJ,zK,zL,zM,zN,zO,zP,Nat.reduceAdd] at hB3
   refine n_nil ?_
   refine ⟨⟨hB1, trivial⟩, ?_⟩
   refine h_nil ?_
   rw [sgn_ge hc1 hge] at hB3
   refine hK9 _ _ ?_
   refine wp_ret ?_
   try simp only [Exit.inBlock,Exit.then]
   refine fin1 rfl ⟨_, rfl, (hB3.lies agg_32 cells_32 rfl rfl)⟩ ?_
   try simp only [zD,zE]
   exact ⟨_, rfl, hX, rfl⟩
  ·
   have hlt : a.natAbs < b.natAbs := Nat.lt_of_not_le fun h => hc2 (ord_ge_iff.2 h)
   refine wp_skip ?_
   refine hK7 _ _ ?_
   refine c_seq (fun K10 hK10 => ?_)
   refine wp_region_held' [(0, true), (2, true), (3, true), (1, true), (4, false), (5, false), (6, false)] follows_mixed (by kernel_rfl) (panic_put (fun _ _ _ _ _ h => h)) (ol := ?_) ?hol ?_
   case hol => simp only [zQ,zR,zS,zT,zU,zV]; try rfl
   intro w7 hE
   replace hB1 := hB1.ext hE; replace hB2 := hB2.ext hE; replace hB3 := hB3.ext hE; (try replace hD1 := hD1.ext hE); (try replace hD2 := hD2.ext hE); replace hX := hX.trans hE
   clear hE
   refine ⟨_, (Hold.blk hB2 Hold.nil), ?_⟩
   refine h_val (r_fieldAddr (c := 0) Tryz.underlying32 rfl cells_4 rfl rfl) (h_val (r_move) (h_val (r_move) ?_))
   simp only [ev,zD,zE,zF,zG]
   refine h_load rfl (fun _ ⟨hB2, _⟩ => (hB2.lies1 agg_4 rfl)) ?_
   simp only [ev,zD,zE,zF,zG]
   refine h_step ?_
   refine n_call rfl rfl (minus_c _ hD2.here hD1.here (lt_len16 (Nat.le_of_lt hlt)) (by simp only [val_digs16]; omega) (Nat.le_trans hlb (by decide))) ?_
   rintro v w8 hE ⟨⟨A3, c3, rfl, hD3⟩, _⟩
   replace hB1 := hB1.ext hE; replace hB2 := hB2.ext hE; replace hB3 := hB3.ext hE; (try replace hD1 := hD1.ext hE); (try replace hD2 := hD2.ext hE); replace hX := hX.trans hE
   clear hE
   simp only [val_digs16] at hD3 ⊢
   have hl3 := lt_len16 (Nat.sub_le b.natAbs a.natAbs)
   simp only [ev,zD,zE,zF,zG]
   refine n_nil ?_
   refine ⟨⟨hB2, trivial⟩, ?_⟩
   refine h_step ?_
   refine n_call rfl rfl (rwide_c _ hD3 (Nat.le_trans hl3 (Nat.le_trans hlb (by decide)))) ?_
   rintro v w9 hE rfl
   replace hB1 := hB1.ext hE; replace hB2 := hB2.ext hE; replace hB3 := hB3.ext hE; (try replace hD1 := hD1.ext hE); (try replace hD2 := hD2.ext hE); (try replace hD3 := hD3.ext hE); replace hX := hX.trans hE
   clear hE
   simp only [val_digs16]
   simp only [ev,zD,zE,zF,zG]
   refine n_nil ?_
   refine ⟨⟨hB2, trivial⟩, ?_⟩
   refine h_step ?_
   refine n_store rfl (by simp only [ev,zD,zE]; rfl) (by exact cells_32) hB3 (by simp) (by simp [Value.oneCell']) ?_
   clear hB3; intro w10 hC hB3
   replace hB1 := hB1.chg hC (by first | exact hN1_3 | exact Ne.symm hN3_1); replace hB2 := hB2.chg hC (by first | exact hN2_3 | exact Ne.symm hN3_2); (try replace hD1 := hD1.chg hC (by first | assumption | rfl)); (try replace hD2 := hD2.chg hC (by first | assumption | rfl)); (try replace hD3 := hD3.chg hC (by first | assumption | rfl)); replace hX := hX.chg hC hG3
   clear hC
   simp only [over,zH,zI,zJ,zK,zL,zM,zN,zO,zP,Nat.reduceAdd] at hB3
   refine n_nil ?_
   refine ⟨⟨hB2, trivial⟩, ?_⟩
   refine h_nil ?_
   rw [sgn_lt hc1 hlt] at hB3
   refine hK10 _ _ ?_
   refine wp_ret ?_
   try simp only [Exit.inBlock,Exit.then]
   refine fin1 rfl ⟨_, rfl, (hB3.lies agg_32 cells_32 rfl rfl)⟩ ?_
   try simp only [zD,zE]
   exact ⟨_, rfl, hX, rfl⟩

set_option maxHeartbeats 400000 in
theorem rSub_c {a b : Int} (ha : Bd 1000000 a) (hb : Bd 1000000 b) : Pure Tryz.prog 146 [W a, W b] (W (a - b)) := by
 intro w
 refine ⟨en_146, ?_⟩
 have hX := Ext.refl w
 go_enter Tryz.func146, Tryz.ntmps146
 refine c_seq (fun K1 hK1 => wp_region_lit ?_)
 refine n_box (by simp only [ev,zD,zE]; rfl) ?_
 intro w1 g1 hE hg1 hB1
 have hG1 := Nat.le_trans hX.size hg1
 replace hX := hX.trans hE
 clear hE hg1
 simp only [ev,zD,zE,zF,zG]
 refine n_box (by simp only [ev,zD,zE]; rfl) ?_
 intro w2 g2 hE hg2 hB2
 have hG2 := Nat.le_trans hX.size hg2; have hN2_1 : g2 ≠ g1 := Nat.ne_of_gt (Nat.lt_of_lt_of_le hB1.lt hg2)
 replace hB1 := hB1.ext hE; replace hX := hX.trans hE
 clear hE hg2
 simp only [ev,zD,zE,zF,zG]
 refine n_alloc zero_32 rfl ?_
 intro w3 g3 hE hg3 hB3
 have hG3 := Nat.le_trans hX.size hg3; have hN3_1 : g3 ≠ g1 := Nat.ne_of_gt (Nat.lt_of_lt_of_le hB1.lt hg3); have hN3_2 : g3 ≠ g2 := Nat.ne_of_gt (Nat.lt_of_lt_of_le hB2.lt hg3)
 replace hB1 := hB1.ext hE; replace hB2 := hB2.ext hE; replace hX := hX.trans hE
 clear hE hg3
 simp only [ev,zD,zE,zF,zG]
 refine n_nil ?_
 refine hK1 _ _ ?_
 refine c_seq (fun K2 hK2 => ?_)
 refine wp_region_ext_tail 4 follows_mixed (by kernel_rfl) ?_
 simp only [zH,zI,zJ,zK]
 refine q_load rfl (fun _ hE' => ((hB1.ext hE').lies agg_32 cells_32 rfl rfl)) ?_
 simp only [ev,zD,zE,zF,zG]
 refine q_load rfl (fun _ hE' => ((hB2.ext hE').lies agg_32 cells_32 rfl rfl)) ?_
 simp only [ev,zD,zE,zF,zG]
 refine q_callP rfl rfl (rNeg_c hb) ?_
 simp only [ev,zD,zE,zF,zG]
 refine q_callP rfl rfl (rAdd_c ha hb.neg) ?_
 simp only [ev,zD,zE,zF,zG]
 refine q_nil ?_
 intro w4 hE
 replace hB1 := hB1.ext hE; replace hB2 := hB2.ext hE; replace hB3 := hB3.ext hE; replace hX := hX.trans hE
 clear hE
 refine n_store rfl (by simp only [ev,zD,zE]; rfl) (by exact cells_32) hB3 (by simp) (by simp [Value.oneCell']) ?_
 clear hB3; intro w5 hC hB3
 replace hB1 := hB1.chg hC (by first | exact hN1_3 | exact Ne.symm hN3_1); replace hB2 := hB2.chg hC (by first | exact hN2_3 | exact Ne.symm hN3_2); replace hX := hX.chg hC hG3
 clear hC
 simp only [over,zH,zI,zJ,zK,zL,zM,zN,zO,zP,Nat.reduceAdd] at hB3
 refine n_nil ?_
 rw [← Int.sub_eq_add_neg] at hB3
 refine hK2 _ _ ?_
 refine wp_ret ?_
 try simp only [Exit.inBlock,Exit.then]
 refine fin1 rfl ⟨_, rfl, (hB3.lies agg_32 cells_32 rfl rfl)⟩ ?_
 try simp only [zD,zE]
 exact ⟨_, rfl, hX, rfl⟩

set_option maxHeartbeats 400000 in
theorem rMul_c {a b : Int} (ha : Bd 1000000 a) (hb : Bd 1000000 b) : Pure Tryz.prog 55 [W a, W b] (W (a * b)) := by
 intro w
 refine ⟨en_55, ?_⟩
 have hX := Ext.refl w
 have hla : (digs 65536 a.natAbs).length ≤ 1000000 := len_bd16 ha
 have hlb : (digs 65536 b.natAbs).length ≤ 1000000 := len_bd16 hb
 have hls := len_mul16 ha hb
 go_enter Tryz.func55, Tryz.ntmps55
 refine c_seq (fun K1 hK1 => wp_region_lit ?_)
 refine n_box (by simp only [ev,zD,zE]; rfl) ?_
 intro w1 g1 hE hg1 hB1
 have hG1 := Nat.le_trans hX.size hg1
 replace hX := hX.trans hE
 clear hE hg1
 simp only [ev,zD,zE,zF,zG]
 refine n_box (by simp only [ev,zD,zE]; rfl) ?_
 intro w2 g2 hE hg2 hB2
 have hG2 := Nat.le_trans hX.size hg2; have hN2_1 : g2 ≠ g1 := Nat.ne_of_gt (Nat.lt_of_lt_of_le hB1.lt hg2)
 replace hB1 := hB1.ext hE; replace hX := hX.trans hE
 clear hE hg2
 simp only [ev,zD,zE,zF,zG]
 refine n_alloc zero_32 rfl ?_
 intro w3 g3 hE hg3 hB3
 have hG3 := Nat.le_trans hX.size hg3; have hN3_1 : g3 ≠ g1 := Nat.ne_of_gt (Nat.lt_of_lt_of_le hB1.lt hg3); have hN3_2 : g3 ≠ g2 := Nat.ne_of_gt (Nat.lt_of_lt_of_le hB2.lt hg3)
 replace hB1 := hB1.ext hE; replace hB2 := hB2.ext hE; replace hX := hX.trans hE
 clear hE hg3
 simp only [ev,zD,zE,zF,zG]
 refine n_nil ?_
 refine hK1 _ _ ?_
 refine c_seq (fun K2 hK2 => ?_)
 refine wp_region_held' [(0, true), (2, true), (1, true), (3, true), (4, true), (5, true), (7, true), (6, false), (8, false), (9, false), (10, false), (11, false)] follows_mixed (by kernel_rfl) (panic_put (fun _ _ _ _ _ h => h)) (ol := ?_) ?hol ?_
 case hol => simp only [zQ,zR,zS,zT,zU,zV]; try rfl
 intro w4 hE
 replace hB1 := hB1.ext hE; replace hB2 := hB2.ext hE; replace hB3 := hB3.ext hE; replace hX := hX.trans hE
 clear hE
 refine ⟨_, (Hold.blk hB1 (Hold.blk hB2 Hold.nil)), ?_⟩
 refine h_val (r_fieldAddr (c := 0) Tryz.underlying32 rfl cells_4 rfl rfl) (h_val (r_fieldAddr (c := 0) Tryz.underlying32 rfl cells_4 rfl rfl) ?_)
 simp only [ev,zD,zE,zF,zG]
 refine h_load rfl (fun _ ⟨hB1, hB2, _⟩ => (hB1.lies1 agg_4 rfl)) ?_
 simp only [ev,zD,zE,zF,zG]
 refine h_load rfl (fun _ ⟨hB1, hB2, _⟩ => (hB2.lies1 agg_4 rfl)) ?_
 simp only [ev,zD,zE,zF,zG]
 refine h_val (r_neqB Tryz.underlying4 rfl rfl) ?_
 simp only [ev,zD,zE,zF,zG]
 refine h_load rfl (fun _ ⟨hB1, hB2, _⟩ => (hB1.lies agg_32 cells_32 rfl rfl)) ?_
 simp only [ev,zD,zE,zF,zG]
 refine h_load rfl (fun _ ⟨hB1, hB2, _⟩ => (hB2.lies agg_32 cells_32 rfl rfl)) ?_
 simp only [ev,zD,zE,zF,zG]
 refine h_step ?_
 refine n_call rfl rfl (digits_c _ (wmag_size ha)) ?_
 rintro v w5 hE ⟨A1, c1, rfl, hD1⟩
 replace hB1 := hB1.ext hE; replace hB2 := hB2.ext hE; replace hB3 := hB3.ext hE; replace hX := hX.trans hE
 clear hE
 rw [sval_wmag] at hD1 ⊢
 simp only [ev,zD,zE,zF,zG]
 refine n_nil ?_
 refine ⟨⟨hB1, hB2, trivial⟩, ?_⟩
 refine h_step ?_
 refine n_call rfl rfl (digits_c _ (wmag_size hb)) ?_
 rintro v w6 hE ⟨A2, c2, rfl, hD2⟩
 replace hB1 := hB1.ext hE; replace hB2 := hB2.ext hE; replace hB3 := hB3.ext hE; (try replace hD1 := hD1.ext hE); replace hX := hX.trans hE
 clear hE
 rw [sval_wmag] at hD2 ⊢
 simp only [ev,zD,zE,zF,zG]
 refine n_nil ?_
 refine ⟨⟨hB1, hB2, trivial⟩, ?_⟩
 refine h_step ?_
 refine n_call rfl rfl (times_c _ hD1.here hD2.here (Nat.le_trans hla (by decide)) (Nat.le_trans hlb (by decide))) ?_
 rintro v w7 hE ⟨⟨A3, c3, rfl, hD3⟩, _⟩
 replace hB1 := hB1.ext hE; replace hB2 := hB2.ext hE; replace hB3 := hB3.ext hE; (try replace hD1 := hD1.ext hE); (try replace hD2 := hD2.ext hE); replace hX := hX.trans hE
 clear hE
 simp only [val_digs16] at hD3 ⊢
 rw [← Int.natAbs_mul] at hD3 ⊢
 simp only [ev,zD,zE,zF,zG]
 refine n_nil ?_
 refine ⟨⟨hB1, hB2, trivial⟩, ?_⟩
 refine h_step ?_
 refine n_call rfl rfl (rwide_c _ hD3 (Nat.le_trans hls (by decide))) ?_
 rintro v w8 hE rfl
 replace hB1 := hB1.ext hE; replace hB2 := hB2.ext hE; replace hB3 := hB3.ext hE; (try replace hD1 := hD1.ext hE); (try replace hD2 := hD2.ext hE); (try replace hD3 := hD3.ext hE); replace hX := hX.trans hE
 clear hE
 simp only [val_digs16]
 simp only [ev,zD,zE,zF,zG]
 refine n_nil ?_
 refine ⟨⟨hB1, hB2, trivial⟩, ?_⟩
 refine h_step ?_
 refine n_store rfl (by simp only [ev,zD,zE]; rfl) (by exact cells_32) hB3 (by simp) (by simp [Value.oneCell']) ?_
 clear hB3; intro w9 hC hB3
 replace hB1 := hB1.chg hC (by first | exact hN1_3 | exact Ne.symm hN3_1); replace hB2 := hB2.chg hC (by first | exact hN2_3 | exact Ne.symm hN3_2); (try replace hD1 := hD1.chg hC (by first | assumption | rfl)); (try replace hD2 := hD2.chg hC (by first | assumption | rfl)); (try replace hD3 := hD3.chg hC (by first | assumption | rfl)); replace hX := hX.chg hC hG3
 clear hC
 simp only [over,zH,zI,zJ,zK,zL,zM,zN,zO,zP,Nat.reduceAdd] at hB3
 refine n_nil ?_
 refine ⟨⟨hB1, hB2, trivial⟩, ?_⟩
 refine h_nil ?_
 rw [Int.natAbs_mul, sgn_mul] at hB3
 refine hK2 _ _ ?_
 refine wp_ret ?_
 try simp only [Exit.inBlock,Exit.then]
 refine fin1 rfl ⟨_, rfl, (hB3.lies agg_32 cells_32 rfl rfl)⟩ ?_
 try simp only [zD,zE]
 exact ⟨_, rfl, hX, rfl⟩

set_option maxHeartbeats 400000 in
theorem rCmp_c {a b : Int} (ha : Bd 900000 a) (hb : Bd 900000 b) : Pure Tryz.prog 102 [W a, W b] (.int .i64 (isign (a - b))) := by
 intro w
 refine ⟨en_102, ?_⟩
 have hX := Ext.refl w
 go_enter Tryz.func102, Tryz.ntmps102
 refine c_seq (fun K1 hK1 => wp_region_lit ?_)
 refine n_box (by simp only [ev,zD,zE]; rfl) ?_
 intro w1 g1 hE hg1 hB1
 have hG1 := Nat.le_trans hX.size hg1
 replace hX := hX.trans hE
 clear hE hg1
 simp only [ev,zD,zE,zF,zG]
 refine n_box (by simp only [ev,zD,zE]; rfl) ?_
 intro w2 g2 hE hg2 hB2
 have hG2 := Nat.le_trans hX.size hg2; have hN2_1 : g2 ≠ g1 := Nat.ne_of_gt (Nat.lt_of_lt_of_le hB1.lt hg2)
 replace hB1 := hB1.ext hE; replace hX := hX.trans hE
 clear hE hg2
 simp only [ev,zD,zE,zF,zG]
 refine n_val (r_assign) ?_
 simp only [ev,zD,zE,zF,zG]
 refine n_nil ?_
 refine hK1 _ _ ?_
 refine c_seq (fun K2 hK2 => wp_region_lit ?_)
 refine n_load rfl (hB1.lies agg_32 cells_32 rfl rfl) ?_
 simp only [ev,zD,zE,zF,zG]
 refine n_load rfl (hB2.lies agg_32 cells_32 rfl rfl) ?_
 simp only [ev,zD,zE,zF,zG]
 refine n_callP rfl rfl (rSub_c (ha.mono (by decide)) (hb.mono (by decide))) ?_
 intro w3 hE
 replace hB1 := hB1.ext hE; replace hB2 := hB2.ext hE; replace hX := hX.trans hE
 clear hE
 simp only [ev,zD,zE,zF,zG]
 refine n_callP rfl rfl (rSign_c ((Bd.sub ha hb).mono (by decide))) ?_
 intro w4 hE
 replace hB1 := hB1.ext hE; replace hB2 := hB2.ext hE; replace hX := hX.trans hE
 clear hE
 simp only [ev,zD,zE,zF,zG]
 refine n_val (r_assign) ?_
 simp only [ev,zD,zE,zF,zG]
 refine n_nil ?_
 refine hK2 _ _ ?_
 refine wp_ret ?_
 try simp only [Exit.inBlock,Exit.then]
 refine fin1 rfl rfl ?_
 try simp only [zD,zE]
 exact ⟨_, rfl, hX, rfl⟩

set_option maxHeartbeats 400000 in
theorem rFrom_c {n : Int} (h : I64 n) : Pure Tryz.prog 29 [.int .i64 n] (W n) := by
 intro w
 refine ⟨en_29, ?_⟩
 have hX := Ext.refl w
 have hna := h.natAbs
 go_enter Tryz.func29, Tryz.ntmps29
 refine c_seq (fun K1 hK1 => wp_region_lit ?_)
 refine n_alloc zero_32 rfl ?_
 intro w1 g1 hE hg1 hB1
 have hG1 := Nat.le_trans hX.size hg1
 replace hX := hX.trans hE
 clear hE hg1
 simp only [ev,zD,zE,zF,zG]
 refine n_nil ?_
 refine hK1 _ _ ?_
 refine c_seq (fun K2 hK2 => wp_region_lit (n_val (r_assign) ?_))
 simp only [ev,zD,zE,zF,zG]
 obtain ⟨b3, hb3e, hb3l⟩ := hX.base
 have hS3 := Base.of hX hb3e
 have hO3 := Owns.nil_of hX b3 3 1
 have hl3_1 : g1 < b3 := by rw [hb3e]; exact hB1.lt
 clear hb3e
 refine n_nil ?_
 refine hK2 _ _ ?_
 refine c_seq (fun K3 hK3 => ?_)
 rcases (show n < 0 ∨ 0 ≤ n by omega) with h0 | h0
 ·
  have hwn : true = wneg n := (decide_eq_true h0).symm
  refine wp_region_lit (n_val (r_move) (n_val (r_conv Tryz.underlying88 Tryz.underlying3 rfl (u64_neg h h0)) (n_val (r_assign) ?_)))
  simp only [ev,zD,zE,zF,zG]
  refine n_nil ?_
  refine hK3 _ _ ?_
  refine c_seq (fun K4 hK4 => c_seq (fun K5 hK5 => wp_region_lit (n_val (r_move) (n_val (r_lssT rfl rfl (by omega)) ?_))))
  simp only [ev,zD,zE,zF,zG]
  refine n_nil ?_
  refine hK5 _ _ ?_
  refine c_yes rfl (wp_region_lit (n_val (r_move) (n_val (r_neg rfl (u64_minus hna (by omega))) (n_val (r_assign) ?_))))
  simp only [ev,zD,zE,zF,zG]
  refine n_nil ?_
  refine hK4 _ _ ?_
  refine c_seq (fun K6 hK6 => wp_block ?_)
  refine c_loopg [3, 4] [11, 12, 13, 14, 15, 16, 17, 18, 19, 20] (fun k vs wl => ∃ (m : Nat) (os : List Nat) (v3 : Value), vs = [v3, .int .u64 (m : Int)] ∧ (Ext w wl) ∧ (Blk wl g1 [.bool false, .string ⟨#[]⟩] 32) ∧ (Base wl b3) ∧ (Owns wl b3 3 1 v3 os.length (os.map i64v)) ∧ (val 65536 os + 65536 ^ os.length * m = n.natAbs) ∧ (Digs 65536 os) ∧ (m ≤ 9223372036854775808) ∧ (os.length + m ≤ 9223372036854775808 + 64) ∧ (m < 2 ^ (64 - os.length)) ∧ (os.length ≤ 64) ∧ (k = m)) ?_ ?_
  ·
   apply Exists.intro
   simp only [zQ,zR,zD,zE]
   exact ⟨n.natAbs, [], _, rfl, hX, hB1, hS3, hO3, by simp [val], digs_nil _, hna, by simp; omega, by simp; omega, by simp, rfl⟩
  ·
   intro n vs wr hI u
   obtain ⟨m, os, v3, rfl, hX, hB1, hS3, hO3, hv, hd, hm, hol, hol2, hol3, hn⟩ := hI
   simp only [setG_cons,setG_nil,setMany_cons,setMany_nil,zF,zG]
   refine c_seq (fun K7 hK7 => c_seq (fun K8 hK8 => wp_region_lit (n_val (r_move) (n_val (r_gtr rfl rfl) ?_))))
   simp only [ev,zD,zE,zF,zG]
   refine n_nil ?_
   refine hK8 _ _ ?_
   refine c_if rfl (fun hc2 => ?_) (fun hc2 => ?_)
   ·
    refine wp_skip ?_
    refine hK7 _ _ ?_
    refine wp_block (c_seq (fun K9 hK9 => wp_region_lit (n_val (r_move) (n_val (r_move) (n_val (r_rem rfl rfl (by omega) (rem_nat (n := 65536))) ?_)))))
    simp only [ev,zD,zE,zF,zG]
    refine n_val (r_conv Tryz.underlying3 Tryz.underlying88 rfl (wrap_i64 (by omega) (by omega))) ?_
    simp only [ev,zD,zE,zF,zG]
    refine n_build1 Tryz.underlying22 (z := .int .i64 0) (by kernel_rfl) rfl (by simp only [ev,zD,zE,zF,zG]; rfl) (by rfl) ?_
    intro w2 g2 hE hg2 hB2
    have hG2 := Nat.le_trans hX.size hg2; have hN2_1 : g2 ≠ g1 := Nat.ne_of_gt (Nat.lt_of_lt_of_le hB1.lt hg2)
    replace hB1 := hB1.ext hE; (try replace hS3 := hS3.ext hE); (try replace hO3 := hO3.ext hE); replace hX := hX.trans hE
    clear hE hg2
    simp only [ev,zD,zE,zF,zG]
    refine n_append rfl Tryz.underlying22 inf_3 rfl (by decide) rfl hO3 rfl (news := _) rfl hB2.row0 (by simp [Value.oneCell']) (by omega) (by omega) hS3.h ?_
    clear hO3; intro v3 w3 hO3 hGr _
    replace hB1 := hB1.grew hGr hl3_1; (try replace hS3 := hS3.grew hGr (by first | trivial | omega)); replace hX := hX.grown hGr hb3l
    clear hGr
    replace hO3 := hO3.snoc
    simp only [ev,zD,zE,zF,zG]
    refine n_val (r_assign) ?_
    simp only [ev,zD,zE,zF,zG]
    refine n_nil ?_
    refine hK9 _ _ ?_
    refine wp_region_lit (n_val (r_move) (n_val (r_quo rfl rfl (by omega) (quo_u64 (n := 65536) (by omega))) (n_val (r_assign) ?_)))
    simp only [ev,zD,zE,zF,zG]
    refine n_nil ?_
    have r := from_round hv hd hol2 hol3 (show 0 < m by omega)
    simp only [Exit.inBlock,Exit.then]
    refine ⟨m / 65536, _, ?_, rfl, ?_, ?_⟩
    · omega
    · simp only [zQ,zR,zD,zE,setG_cons,setG_nil,setMany_cons,setMany_nil,zF,zG]
    ·
     simp only [zQ,zR,zD,zE]
     exact ⟨m / 65536, os ++ [m % 65536], v3, rfl, hX, hB1, hS3, hO3, r.1, r.2.1, by omega, by simp; omega, r.2.2.1, r.2.2.2, rfl⟩
   ·
    refine wp_exit ?_
    refine hK6 _ _ ?_
    refine c_seq (fun K10 hK10 => ?_)
    obtain rfl : m = 0 := by omega
    rw [Nat.mul_zero, Nat.add_zero] at hv
    obtain ⟨A3, c3, rfl, hD, _⟩ := DigAt.of_owns hO3 rfl hd (by omega)
    refine wp_region_lit (n_val (r_move) (n_val (r_lssT rfl rfl (by omega)) (n_val (r_move) ?_)))
    simp only [ev,zD,zE,zF,zG]
    refine n_call rfl rfl (rwide_c _ hD (by omega)) ?_
    rintro v w2 hE rfl
    replace hB1 := hB1.ext hE; (try replace hS3 := hS3.ext hE); (try replace hO3 := hO3.ext hE); (try replace hD := hD.ext hE); replace hX := hX.trans hE
    clear hE
    rw [hv, hwn, sgn_self]
    simp only [ev,zD,zE,zF,zG]
    refine n_store rfl (by simp only [ev,zD,zE]; rfl) (by exact cells_32) hB1 (by simp) (by simp [Value.oneCell']) ?_
    clear hB1; intro w3 hC hB1
    (try replace hS3 := hS3.chg hC (by first | assumption | rfl)); (try replace hO3 := hO3.chg hC (by first | assumption | rfl)); (try replace hD := hD.chg hC (by first | assumption | rfl)); replace hX := hX.chg hC hG1
    clear hC
    simp only [over,zH,zI,zJ,zK,zL,zM,zN,zO,zP,Nat.reduceAdd] at hB1
    refine n_nil ?_
    refine hK10 _ _ ?_
    refine wp_ret ?_
    try simp only [Exit.inBlock,Exit.then]
    refine fin1 rfl ⟨_, rfl, (hB1.lies agg_32 cells_32 rfl rfl)⟩ ?_
    try simp only [zD,zE]
    exact ⟨_, rfl, hX, rfl⟩
 ·
  have hwn : false = wneg n := (decide_eq_false (by omega)).symm
  refine wp_region_lit (n_val (r_move) (n_val (r_conv Tryz.underlying88 Tryz.underlying3 rfl (u64_nn h h0)) (n_val (r_assign) ?_)))
  simp only [ev,zD,zE,zF,zG]
  refine n_nil ?_
  refine hK3 _ _ ?_
  refine c_seq (fun K11 hK11 => c_seq (fun K12 hK12 => wp_region_lit (n_val (r_move) (n_val (r_lssF rfl rfl (by omega)) ?_))))
  simp only [ev,zD,zE,zF,zG]
  refine n_nil ?_
  refine hK12 _ _ ?_
  refine c_no rfl (wp_skip ?_)
  refine hK11 _ _ ?_
  refine c_seq (fun K13 hK13 => wp_block ?_)
  refine c_loopg [3, 4] [11, 12, 13, 14, 15, 16, 17, 18, 19, 20] (fun k vs wl => ∃ (m : Nat) (os : List Nat) (v3 : Value), vs = [v3, .int .u64 (m : Int)] ∧ (Ext w wl) ∧ (Blk wl g1 [.bool false, .string ⟨#[]⟩] 32) ∧ (Base wl b3) ∧ (Owns wl b3 3 1 v3 os.length (os.map i64v)) ∧ (val 65536 os + 65536 ^ os.length * m = n.natAbs) ∧ (Digs 65536 os) ∧ (m ≤ 9223372036854775808) ∧ (os.length + m ≤ 9223372036854775808 + 64) ∧ (m < 2 ^ (64 - os.length)) ∧ (os.length ≤ 64) ∧ (k = m)) ?_ ?_
  ·
   apply Exists.intro
   simp only [zQ,zR,zD,zE]
   exact ⟨n.natAbs, [], _, rfl, hX, hB1, hS3, hO3, by simp [val], digs_nil _, hna, by simp; omega, by simp; omega, by simp, rfl⟩
  ·
   intro n vs wr hI u
   obtain ⟨m, os, v3, rfl, hX, hB1, hS3, hO3, hv, hd, hm, hol, hol2, hol3, hn⟩ := hI
   simp only [setG_cons,setG_nil,setMany_cons,setMany_nil,zF,zG]
   refine c_seq (fun K14 hK14 => c_seq (fun K15 hK15 => wp_region_lit (n_val (r_move) (n_val (r_gtr rfl rfl) ?_))))
   simp only [ev,zD,zE,zF,zG]
   refine n_nil ?_
   refine hK15 _ _ ?_
   refine c_if rfl (fun hc2 => ?_) (fun hc2 => ?_)
   ·
    refine wp_skip ?_
    refine hK14 _ _ ?_
    refine wp_block (c_seq (fun K16 hK16 => wp_region_lit (n_val (r_move) (n_val (r_move) (n_val (r_rem rfl rfl (by omega) (rem_nat (n := 65536))) ?_)))))
    simp only [ev,zD,zE,zF,zG]
    refine n_val (r_conv Tryz.underlying3 Tryz.underlying88 rfl (wrap_i64 (by omega) (by omega))) ?_
    simp only [ev,zD,zE,zF,zG]
    refine n_build1 Tryz.underlying22 (z := .int .i64 0) (by kernel_rfl) rfl (by simp only [ev,zD,zE,zF,zG]; rfl) (by rfl) ?_
    intro w2 g2 hE hg2 hB2
    have hG2 := Nat.le_trans hX.size hg2; have hN2_1 : g2 ≠ g1 := Nat.ne_of_gt (Nat.lt_of_lt_of_le hB1.lt hg2)
    replace hB1 := hB1.ext hE; (try replace hS3 := hS3.ext hE); (try replace hO3 := hO3.ext hE); replace hX := hX.trans hE
    clear hE hg2
    simp only [ev,zD,zE,zF,zG]
    refine n_append rfl Tryz.underlying22 inf_3 rfl (by decide) rfl hO3 rfl (news := _) rfl hB2.row0 (by simp [Value.oneCell']) (by omega) (by omega) hS3.h ?_
    clear hO3; intro v3 w3 hO3 hGr _
    replace hB1 := hB1.grew hGr hl3_1; (try replace hS3 := hS3.grew hGr (by first | trivial | omega)); replace hX := hX.grown hGr hb3l
    clear hGr
    replace hO3 := hO3.snoc
    simp only [ev,zD,zE,zF,zG]
    refine n_val (r_assign) ?_
    simp only [ev,zD,zE,zF,zG]
    refine n_nil ?_
    refine hK16 _ _ ?_
    refine wp_region_lit (n_val (r_move) (n_val (r_quo rfl rfl (by omega) (quo_u64 (n := 65536) (by omega))) (n_val (r_assign) ?_)))
    simp only [ev,zD,zE,zF,zG]
    refine n_nil ?_
    have r := from_round hv hd hol2 hol3 (show 0 < m by omega)
    simp only [Exit.inBlock,Exit.then]
    refine ⟨m / 65536, _, ?_, rfl, ?_, ?_⟩
    · omega
    · simp only [zQ,zR,zD,zE,setG_cons,setG_nil,setMany_cons,setMany_nil,zF,zG]
    ·
     simp only [zQ,zR,zD,zE]
     exact ⟨m / 65536, os ++ [m % 65536], v3, rfl, hX, hB1, hS3, hO3, r.1, r.2.1, by omega, by simp; omega, r.2.2.1, r.2.2.2, rfl⟩
   ·
    refine wp_exit ?_
    refine hK13 _ _ ?_
    refine c_seq (fun K17 hK17 => ?_)
    obtain rfl : m = 0 := by omega
    rw [Nat.mul_zero, Nat.add_zero] at hv
    obtain ⟨A3, c3, rfl, hD, _⟩ := DigAt.of_owns hO3 rfl hd (by omega)
    refine wp_region_lit (n_val (r_move) (n_val (r_lssF rfl rfl (by omega)) (n_val (r_move) ?_)))
    simp only [ev,zD,zE,zF,zG]
    refine n_call rfl rfl (rwide_c _ hD (by omega)) ?_
    rintro v w2 hE rfl
    replace hB1 := hB1.ext hE; (try replace hS3 := hS3.ext hE); (try replace hO3 := hO3.ext hE); (try replace hD := hD.ext hE); replace hX := hX.trans hE
    clear hE
    rw [hv, hwn, sgn_self]
    simp only [ev,zD,zE,zF,zG]
    refine n_store rfl (by simp only [ev,zD,zE]; rfl) (by exact cells_32) hB1 (by simp) (by simp [Value.oneCell']) ?_
    clear hB1; intro w3 hC hB1
    (try replace hS3 := hS3.chg hC (by first | assumption | rfl)); (try replace hO3 := hO3.chg hC (by first | assumption | rfl)); (try replace hD := hD.chg hC (by first | assumption | rfl)); replace hX := hX.chg hC hG1
    clear hC
    simp only [over,zH,zI,zJ,zK,zL,zM,zN,zO,zP,Nat.reduceAdd] at hB1
    refine n_nil ?_
    refine hK17 _ _ ?_
    refine wp_ret ?_
    try simp only [Exit.inBlock,Exit.then]
    refine fin1 rfl ⟨_, rfl, (hB1.lies agg_32 cells_32 rfl rfl)⟩ ?_
    try simp only [zD,zE]
    exact ⟨_, rfl, hX, rfl⟩

end Go.Proofs.YtmcgcnpgkkfkoaaGreatDoor
namespace Go.Proofs.YtmcgcnpgkkfkoaaGreatDoor
open Go.RowKit Go.Lith
set_option maxRecDepth 100000
attribute [local irreducible] wpList wpQuiet wpMix Code.wp
set_option maxHeartbeats 400000 in
theorem rQuo_c {a b : Int} (ha : Bd 1000000 a) (hb : Bd 1000000 b) (h0 : b ≠ 0) : Pure Tryz.prog 168 [W a, W b] (.tuple #[W (a.tdiv b), W (a.tmod b), .bool true]) := by
 intro w
 refine ⟨en_168, ?_⟩
 have hX := Ext.refl w
 have hla : (digs 65536 a.natAbs).length ≤ 1000000 := len_bd16 ha
 have hlb : (digs 65536 b.natAbs).length ≤ 1000000 := len_bd16 hb
 have hq : (digs 65536 (a.tdiv b).natAbs).length ≤ 1000000 := len_bd16 (show Bd 1000000 (a.tdiv b) from ha.of_le (by rw [Int.natAbs_tdiv]; exact Nat.div_le_self ..))
 have hr : (digs 65536 (a.tmod b).natAbs).length ≤ 1000000 := len_bd16 (show Bd 1000000 (a.tmod b) from ha.of_le (by rw [Int.natAbs_tmod]; exact Nat.mod_le ..))
 rw [Int.natAbs_tdiv] at hq
 rw [Int.natAbs_tmod] at hr
 go_enter Tryz.func168, Tryz.ntmps168
 refine c_seq (fun K1 hK1 => wp_region_lit ?_)
 refine n_box (by simp only [ev,zD,zE]; rfl) ?_
 intro w1 g1 hE hg1 hB1
 have hG1 := Nat.le_trans hX.size hg1
 replace hX := hX.trans hE
 clear hE hg1
 simp only [ev,zD,zE,zF,zG]
 refine n_box (by simp only [ev,zD,zE]; rfl) ?_
 intro w2 g2 hE hg2 hB2
 have hG2 := Nat.le_trans hX.size hg2; have hN2_1 : g2 ≠ g1 := Nat.ne_of_gt (Nat.lt_of_lt_of_le hB1.lt hg2)
 replace hB1 := hB1.ext hE; replace hX := hX.trans hE
 clear hE hg2
 simp only [ev,zD,zE,zF,zG]
 refine n_alloc zero_32 rfl ?_
 intro w3 g3 hE hg3 hB3
 have hG3 := Nat.le_trans hX.size hg3; have hN3_1 : g3 ≠ g1 := Nat.ne_of_gt (Nat.lt_of_lt_of_le hB1.lt hg3); have hN3_2 : g3 ≠ g2 := Nat.ne_of_gt (Nat.lt_of_lt_of_le hB2.lt hg3)
 replace hB1 := hB1.ext hE; replace hB2 := hB2.ext hE; replace hX := hX.trans hE
 clear hE hg3
 simp only [ev,zD,zE,zF,zG]
 refine n_alloc zero_32 rfl ?_
 intro w4 g4 hE hg4 hB4
 have hG4 := Nat.le_trans hX.size hg4; have hN4_1 : g4 ≠ g1 := Nat.ne_of_gt (Nat.lt_of_lt_of_le hB1.lt hg4); have hN4_2 : g4 ≠ g2 := Nat.ne_of_gt (Nat.lt_of_lt_of_le hB2.lt hg4); have hN4_3 : g4 ≠ g3 := Nat.ne_of_gt (Nat.lt_of_lt_of_le hB3.lt hg4)
 replace hB1 := hB1.ext hE; replace hB2 := hB2.ext hE; replace hB3 := hB3.ext hE; replace hX := hX.trans hE
 clear hE hg4
 simp only [ev,zD,zE,zF,zG]
 refine n_val (r_assign) ?_
 simp only [ev,zD,zE,zF,zG]
 refine n_nil ?_
 refine hK1 _ _ ?_
 refine c_seq (fun K2 hK2 => wp_region_lit ?_)
 refine n_load rfl (hB2.lies agg_32 cells_32 rfl rfl) ?_
 simp only [ev,zD,zE,zF,zG]
 refine n_call rfl rfl (digits_c _ (wmag_size hb)) ?_
 rintro v w5 hE ⟨A1, c1, rfl, hD1⟩
 replace hB1 := hB1.ext hE; replace hB2 := hB2.ext hE; replace hB3 := hB3.ext hE; replace hB4 := hB4.ext hE; replace hX := hX.trans hE
 clear hE
 rw [sval_wmag] at hD1 ⊢
 simp only [ev,zD,zE,zF,zG]
 refine n_val (r_assign) ?_
 simp only [ev,zD,zE,zF,zG]
 refine n_nil ?_
 refine hK2 _ _ ?_
 refine c_seq (fun K3 hK3 => c_seq (fun K4 hK4 => wp_region_lit (n_val (r_move) (n_val (r_lenS rfl Tryz.underlying22 rfl) (n_val (r_eqlF rfl rfl (fun e => h0 (nil_iff16.1 e))) ?_)))))
 simp only [ev,zD,zE,zF,zG]
 refine n_nil ?_
 refine hK4 _ _ ?_
 refine c_no rfl (wp_skip ?_)
 refine hK3 _ _ ?_
 refine c_seq (fun K5 hK5 => wp_region_lit ?_)
 refine n_load rfl (hB1.lies agg_32 cells_32 rfl rfl) ?_
 simp only [ev,zD,zE,zF,zG]
 refine n_call rfl rfl (digits_c _ (wmag_size ha)) ?_
 rintro v w6 hE ⟨A2, c2, rfl, hD2⟩
 replace hB1 := hB1.ext hE; replace hB2 := hB2.ext hE; replace hB3 := hB3.ext hE; replace hB4 := hB4.ext hE; (try replace hD1 := hD1.ext hE); replace hX := hX.trans hE
 clear hE
 rw [sval_wmag] at hD2 ⊢
 simp only [ev,zD,zE,zF,zG]
 refine n_val (r_move) ?_
 simp only [ev,zD,zE,zF,zG]
 refine n_call rfl rfl (over_c _ hD2.here hD1.here (trimmed_digs16 _) (by rw [val_digs16]; omega) (Nat.le_trans hla (by decide)) (Nat.le_trans hlb (by decide))) ?_
 rintro v w7 hE ⟨_, _, rfl, ⟨A3, c3, rfl, hD3⟩, ⟨A4, c4, rfl, hD4⟩⟩
 replace hB1 := hB1.ext hE; replace hB2 := hB2.ext hE; replace hB3 := hB3.ext hE; replace hB4 := hB4.ext hE; (try replace hD1 := hD1.ext hE); (try replace hD2 := hD2.ext hE); replace hX := hX.trans hE
 clear hE
 simp only [val_digs16] at hD3 hD4 ⊢
 simp only [ev,zD,zE,zF,zG]
 refine n_val (r_move) (n_val (r_extract rfl rfl) (n_val (r_extract rfl rfl) ?_))
 simp only [ev,zD,zE,zF,zG]
 refine n_val (r_assign) (n_val (r_assign) ?_)
 simp only [ev,zD,zE,zF,zG]
 refine n_nil ?_
 refine hK5 _ _ ?_
 refine c_seq (fun K6 hK6 => ?_)
 refine wp_region_held' [(0, true), (2, true), (5, true), (7, true), (9, true), (1, true), (3, true), (4, true), (8, true), (6, false), (10, false), (11, false), (12, false), (13, true)] follows_mixed (by kernel_rfl) (panic_put (fun _ _ _ _ _ h => h)) (ol := ?_) ?hol ?_
 case hol => simp only [zQ,zR,zS,zT,zU,zV]; try rfl
 intro w8 hE
 replace hB1 := hB1.ext hE; replace hB2 := hB2.ext hE; replace hB3 := hB3.ext hE; replace hB4 := hB4.ext hE; (try replace hD1 := hD1.ext hE); (try replace hD2 := hD2.ext hE); (try replace hD3 := hD3.ext hE); (try replace hD4 := hD4.ext hE); replace hX := hX.trans hE
 clear hE
 refine ⟨_, (Hold.blk hB1 (Hold.blk hB2 Hold.nil)), ?_⟩
 refine h_val (r_fieldAddr (c := 0) Tryz.underlying32 rfl cells_4 rfl rfl) (h_val (r_fieldAddr (c := 0) Tryz.underlying32 rfl cells_4 rfl rfl) (h_val (r_move) ?_))
 simp only [ev,zD,zE,zF,zG]
 refine h_val (r_fieldAddr (c := 0) Tryz.underlying32 rfl cells_4 rfl rfl) (h_val (r_move) ?_)
 simp only [ev,zD,zE,zF,zG]
 refine h_load rfl (fun _ ⟨hB1, hB2, _⟩ => (hB1.lies1 agg_4 rfl)) ?_
 simp only [ev,zD,zE,zF,zG]
 refine h_load rfl (fun _ ⟨hB1, hB2, _⟩ => (hB2.lies1 agg_4 rfl)) ?_
 simp only [ev,zD,zE,zF,zG]
 refine h_val (r_neqB Tryz.underlying4 rfl rfl) ?_
 simp only [ev,zD,zE,zF,zG]
 refine h_load rfl (fun _ ⟨hB1, hB2, _⟩ => (hB1.lies1 agg_4 rfl)) ?_
 simp only [ev,zD,zE,zF,zG]
 refine h_step ?_
 refine n_call rfl rfl (rwide_c _ hD3 (Nat.le_trans hq (by decide))) ?_
 rintro v w9 hE rfl
 replace hB1 := hB1.ext hE; replace hB2 := hB2.ext hE; replace hB3 := hB3.ext hE; replace hB4 := hB4.ext hE; (try replace hD1 := hD1.ext hE); (try replace hD2 := hD2.ext hE); (try replace hD3 := hD3.ext hE); (try replace hD4 := hD4.ext hE); replace hX := hX.trans hE
 clear hE
 simp only [val_digs16,sgn_quo]
 simp only [ev,zD,zE,zF,zG]
 refine n_nil ?_
 refine ⟨⟨hB1, hB2, trivial⟩, ?_⟩
 refine h_step ?_
 refine n_call rfl rfl (rwide_c _ hD4 (Nat.le_trans hr (by decide))) ?_
 rintro v w10 hE rfl
 replace hB1 := hB1.ext hE; replace hB2 := hB2.ext hE; replace hB3 := hB3.ext hE; replace hB4 := hB4.ext hE; (try replace hD1 := hD1.ext hE); (try replace hD2 := hD2.ext hE); (try replace hD3 := hD3.ext hE); (try replace hD4 := hD4.ext hE); replace hX := hX.trans hE
 clear hE
 simp only [val_digs16,sgn_rem]
 simp only [ev,zD,zE,zF,zG]
 refine n_nil ?_
 refine ⟨⟨hB1, hB2, trivial⟩, ?_⟩
 refine h_step ?_
 refine n_store rfl (by simp only [ev,zD,zE]; rfl) (by exact cells_32) hB3 (by simp) (by simp [Value.oneCell']) ?_
 clear hB3; intro w11 hC hB3
 replace hB1 := hB1.chg hC (by first | exact hN1_3 | exact Ne.symm hN3_1); replace hB2 := hB2.chg hC (by first | exact hN2_3 | exact Ne.symm hN3_2); replace hB4 := hB4.chg hC (by first | exact hN4_3 | exact Ne.symm hN3_4); (try replace hD1 := hD1.chg hC (by first | assumption | rfl)); (try replace hD2 := hD2.chg hC (by first | assumption | rfl)); (try replace hD3 := hD3.chg hC (by first | assumption | rfl)); (try replace hD4 := hD4.chg hC (by first | assumption | rfl)); replace hX := hX.chg hC hG3
 clear hC
 simp only [over,zH,zI,zJ,zK,zL,zM,zN,zO,zP,Nat.reduceAdd] at hB3
 refine n_nil ?_
 refine ⟨⟨hB1, hB2, trivial⟩, ?_⟩
 refine h_step ?_
 refine n_store rfl (by simp only [ev,zD,zE]; rfl) (by exact cells_32) hB4 (by simp) (by simp [Value.oneCell']) ?_
 clear hB4; intro w12 hC hB4
 replace hB1 := hB1.chg hC (by first | exact hN1_4 | exact Ne.symm hN4_1); replace hB2 := hB2.chg hC (by first | exact hN2_4 | exact Ne.symm hN4_2); replace hB3 := hB3.chg hC (by first | exact hN3_4 | exact Ne.symm hN4_3); (try replace hD1 := hD1.chg hC (by first | assumption | rfl)); (try replace hD2 := hD2.chg hC (by first | assumption | rfl)); (try replace hD3 := hD3.chg hC (by first | assumption | rfl)); (try replace hD4 := hD4.chg hC (by first | assumption | rfl)); replace hX := hX.chg hC hG4
 clear hC
 simp only [over,zH,zI,zJ,zK,zL,zM,zN,zO,zP,Nat.reduceAdd] at hB4
 refine n_nil ?_
 refine ⟨⟨hB1, hB2, trivial⟩, ?_⟩
 refine h_val (r_assign) ?_
 simp only [ev,zD,zE,zF,zG]
 refine h_nil ?_
 refine hK6 _ _ ?_
 refine wp_ret ?_
 try simp only [Exit.inBlock,Exit.then]
 refine fin3 rfl ⟨_, rfl, (hB3.lies agg_32 cells_32 rfl rfl)⟩ ⟨_, rfl, (hB4.lies agg_32 cells_32 rfl rfl)⟩ rfl ?_
 try simp only [zD,zE]
 exact ⟨_, rfl, hX, rfl⟩

set_option maxHeartbeats 400000 in
theorem rGcd_c {a b : Int} (ha : Bd 1000000 a) (hb : Bd 1000000 b) : Pure Tryz.prog 166 [W a, W b] (W (Int.gcd a b : Int)) := by
 intro w
 refine ⟨en_166, ?_⟩
 have hX := Ext.refl w
 obtain ⟨K, hK⟩ : ∃ K, K = 2 ^ 1000000 := ⟨_, rfl⟩
 have ha' : a.natAbs < K := by rw [hK]; exact ha
 have hb' : b.natAbs < K := by rw [hK]; exact hb
 have hlen : ∀ V : Nat, V < K → (digs 65536 V).length ≤ 1000000 := fun V h => len_bd16 (by rw [← hK]; exact h)
 clear hK
 go_enter Tryz.func166, Tryz.ntmps166
 refine c_seq (fun K1 hK1 => wp_region_lit ?_)
 refine n_box (by simp only [ev,zD,zE]; rfl) ?_
 intro w1 g1 hE hg1 hB1
 have hG1 := Nat.le_trans hX.size hg1
 (try replace hD1 := hD1.ext hE); (try replace hD2 := hD2.ext hE); replace hX := hX.trans hE
 clear hE hg1
 simp only [ev,zD,zE,zF,zG]
 refine n_box (by simp only [ev,zD,zE]; rfl) ?_
 intro w2 g2 hE hg2 hB2
 have hG2 := Nat.le_trans hX.size hg2; have hN2_1 : g2 ≠ g1 := Nat.ne_of_gt (Nat.lt_of_lt_of_le hB1.lt hg2)
 replace hB1 := hB1.ext hE; (try replace hD1 := hD1.ext hE); (try replace hD2 := hD2.ext hE); replace hX := hX.trans hE
 clear hE hg2
 simp only [ev,zD,zE,zF,zG]
 refine n_alloc zero_32 rfl ?_
 intro w3 g3 hE hg3 hB3
 have hG3 := Nat.le_trans hX.size hg3; have hN3_1 : g3 ≠ g1 := Nat.ne_of_gt (Nat.lt_of_lt_of_le hB1.lt hg3); have hN3_2 : g3 ≠ g2 := Nat.ne_of_gt (Nat.lt_of_lt_of_le hB2.lt hg3)
 replace hB1 := hB1.ext hE; replace hB2 := hB2.ext hE; (try replace hD1 := hD1.ext hE); (try replace hD2 := hD2.ext hE); replace hX := hX.trans hE
 clear hE hg3
 simp only [ev,zD,zE,zF,zG]
 refine n_nil ?_
 refine hK1 _ _ ?_
 refine c_seq (fun K2 hK2 => wp_region_lit ?_)
 refine n_load rfl (hB1.lies agg_32 cells_32 rfl rfl) ?_
 simp only [ev,zD,zE,zF,zG]
 refine n_call rfl rfl (digits_c _ (wmag_size ha)) ?_
 rintro v w4 hE ⟨A1, c1, rfl, hD1⟩
 replace hB1 := hB1.ext hE; replace hB2 := hB2.ext hE; replace hB3 := hB3.ext hE; (try replace hD1 := hD1.ext hE); (try replace hD2 := hD2.ext hE); replace hX := hX.trans hE
 clear hE
 rw [sval_wmag] at hD1 ⊢
 simp only [ev,zD,zE,zF,zG]
 refine n_val (r_assign) ?_
 simp only [ev,zD,zE,zF,zG]
 refine n_nil ?_
 refine hK2 _ _ ?_
 refine c_seq (fun K3 hK3 => wp_region_lit ?_)
 refine n_load rfl (hB2.lies agg_32 cells_32 rfl rfl) ?_
 simp only [ev,zD,zE,zF,zG]
 refine n_call rfl rfl (digits_c _ (wmag_size hb)) ?_
 rintro v w5 hE ⟨A2, c2, rfl, hD2⟩
 replace hB1 := hB1.ext hE; replace hB2 := hB2.ext hE; replace hB3 := hB3.ext hE; (try replace hD1 := hD1.ext hE); (try replace hD2 := hD2.ext hE); (try replace hD1 := hD1.ext hE); replace hX := hX.trans hE
 clear hE
 rw [sval_wmag] at hD2 ⊢
 simp only [ev,zD,zE,zF,zG]
 refine n_val (r_assign) ?_
 simp only [ev,zD,zE,zF,zG]
 refine n_nil ?_
 refine hK3 _ _ ?_
 refine c_seq (fun K4 hK4 => wp_block ?_)
 refine c_loopg [5, 6] [7, 8, 13, 14, 15, 16, 17, 18, 19, 20, 21, 22, 23] (fun n vs wl => ∃ (X Y : Nat) (A1 A2 : Option Addr) (c1 c2 : Nat), vs = [.slice A1 (digs 65536 X).length c1, .slice A2 (digs 65536 Y).length c2] ∧ (Ext w wl) ∧ (Blk wl g3 [.bool false, .string ⟨#[]⟩] 32) ∧ (DigAt wl wl.heap.size A1 (digs 65536 X).length c1 (digs 65536 X)) ∧ (DigAt wl wl.heap.size A2 (digs 65536 Y).length c2 (digs 65536 Y)) ∧ (Nat.gcd X Y = Int.gcd a b) ∧ (X < K) ∧ (Y < K) ∧ (n = Y)) ?_ ?_
 ·
  apply Exists.intro
  simp only [zQ,zR,zD,zE]
  exact ⟨a.natAbs, b.natAbs, A1, A2, c1, c2, rfl, hX, hB3, hD1.here, hD2.here, rfl, ha', hb', rfl⟩
 ·
  intro n vs wr hI u
  obtain ⟨X, Y, A1, A2, c1, c2, rfl, hX, hB3, hD1, hD2, hg, hXK, hYK, hn⟩ := hI
  simp only [setG_cons,setG_nil,setMany_cons,setMany_nil,zF,zG]
  refine c_seq (fun K5 hK5 => c_seq (fun K6 hK6 => wp_region_lit (n_val (r_move) (n_val (r_lenS rfl Tryz.underlying22 rfl) (n_val (r_gtr rfl rfl) ?_)))))
  simp only [ev,zD,zE,zF,zG]
  refine n_nil ?_
  refine hK6 _ _ ?_
  refine c_if rfl (fun hc1 => ?_) (fun hc1 => ?_)
  ·
   have hY0 : 0 < Y := by
    rcases Nat.eq_zero_or_pos Y with h | h
    · subst h; exact absurd hc1 (by decide)
    · exact h
   refine wp_skip ?_
   refine hK5 _ _ ?_
   refine wp_block (c_seq (fun K7 hK7 => wp_region_lit (n_val (r_move) (n_val (r_move) ?_))))
   simp only [ev,zD,zE,zF,zG]
   refine n_call rfl rfl (over_c _ hD1.here hD2.here (trimmed_digs16 _) (by rw [val_digs16]; exact hY0) (Nat.le_trans (hlen _ hXK) (by decide)) (Nat.le_trans (hlen _ hYK) (by decide))) ?_
   rintro v w6 hE ⟨_, _, rfl, ⟨A3, c3, rfl, hD3⟩, ⟨A4, c4, rfl, hD4⟩⟩
   replace hB3 := hB3.ext hE; (try replace hD1 := hD1.ext hE); (try replace hD2 := hD2.ext hE); (try replace hD1 := hD1.ext hE); (try replace hD2 := hD2.ext hE); replace hX := hX.trans hE
   clear hE
   simp only [val_digs16] at hD3 hD4 ⊢
   simp only [ev,zD,zE,zF,zG]
   refine n_val (r_move) (n_val (r_extract rfl rfl) (n_val (r_extract rfl rfl) ?_))
   simp only [ev,zD,zE,zF,zG]
   refine n_val (r_assign) (n_val (r_assign) ?_)
   simp only [ev,zD,zE,zF,zG]
   refine n_nil ?_
   refine hK7 _ _ ?_
   refine c_seq (fun K8 hK8 => wp_region_lit (n_val (r_move) (n_val (r_assign) ?_)))
   simp only [ev,zD,zE,zF,zG]
   refine n_nil ?_
   refine hK8 _ _ ?_
   refine wp_region_lit (n_val (r_move) (n_val (r_assign) ?_))
   simp only [ev,zD,zE,zF,zG]
   refine n_nil ?_
   simp only [Exit.inBlock,Exit.then]
   refine ⟨X % Y, _, ?_, rfl, ?_, ?_⟩
   · rw [hn]; exact Nat.mod_lt _ hY0
   · simp only [zQ,zR,zD,zE,setG_cons,setG_nil,setMany_cons,setMany_nil,zF,zG]
   ·
    simp only [zQ,zR,zD,zE]
    exact ⟨Y, X % Y, A2, A4, c2, c4, rfl, hX, hB3, hD2.here, hD4.here, gcd_step.trans hg, hYK, Nat.lt_of_le_of_lt (Nat.mod_le _ _) hXK, rfl⟩
  ·
   obtain rfl : Y = 0 := (digs_eq_nil (B := 65536) (by omega)).1 (List.eq_nil_of_length_eq_zero (by omega))
   rw [Nat.gcd_zero_right] at hg
   subst hg
   refine wp_exit ?_
   refine hK4 _ _ ?_
   refine c_seq (fun K9 hK9 => wp_region_lit (n_val (r_move) ?_))
   simp only [ev,zD,zE,zF,zG]
   refine n_call rfl rfl (rwide_c _ hD1 (Nat.le_trans (hlen _ hXK) (by decide))) ?_
   rintro v w6 hE rfl
   replace hB3 := hB3.ext hE; (try replace hD1 := hD1.ext hE); (try replace hD2 := hD2.ext hE); (try replace hD1 := hD1.ext hE); (try replace hD2 := hD2.ext hE); replace hX := hX.trans hE
   clear hE
   simp only [val_digs16]
   simp only [ev,zD,zE,zF,zG]
   refine n_store rfl (by simp only [ev,zD,zE]; rfl) (by exact cells_32) hB3 (by simp) (by simp [Value.oneCell']) ?_
   clear hB3; intro w7 hC hB3
   (try replace hD1 := hD1.chg hC (by first | assumption | rfl)); (try replace hD2 := hD2.chg hC (by first | assumption | rfl)); (try replace hD1 := hD1.chg hC (by first | assumption | rfl)); (try replace hD2 := hD2.chg hC (by first | assumption | rfl)); replace hX := hX.chg hC hG3
   clear hC
   simp only [over,zH,zI,zJ,zK,zL,zM,zN,zO,zP,Nat.reduceAdd] at hB3
   refine n_nil ?_
   refine hK9 _ _ ?_
   refine wp_ret ?_
   try simp only [Exit.inBlock,Exit.then]
   refine fin1 rfl ⟨_, rfl, (hB3.lies agg_32 cells_32 rfl rfl)⟩ ?_
   try simp only [zD,zE]
   exact ⟨_, rfl, hX, by rw [sgn_false]; rfl⟩

set_option maxHeartbeats 400000 in
theorem rFrac_c {n d : Int} (hn : Bd 400000 n) (hd : Bd 400000 d) (h0 : d ≠ 0) : Pure Tryz.prog 141 [W n, W d] (.tuple #[Q (Rat.divInt n d), .bool true]) := by
 intro w
 refine ⟨en_141, ?_⟩
 have hX := Ext.refl w
 obtain ⟨e1, hg0⟩ := frac_den (n := n) h0
 have e2 := frac_num (n := n) h0
 have hn' := hn.mono (show 400000 ≤ 1000000 by decide)
 have hd' := hd.mono (show 400000 ≤ 1000000 by decide)
 have hs1 : Bd 1 (isign d) := by unfold Bd isign; split <;> (try split) <;> decide
 have hg : Bd 400001 ((Int.gcd n d : Int)) := by
  have h1 : Int.gcd n d ∣ d.natAbs := Nat.gcd_dvd_right ..
  have h2 := Nat.le_of_dvd (by omega) h1
  exact (hd.of_le (by simpa using h2)).mono (by decide)
 have hG : Bd 1000000 ((Int.gcd n d : Int) * isign d) := (hg.mul hs1).mono (by decide)
 obtain ⟨G, hGe⟩ : ∃ G, G = (Int.gcd n d : Int) * isign d := ⟨_, rfl⟩
 rw [← hGe] at e1 e2 hg0 hG
 go_enter Tryz.func141, Tryz.ntmps141
 refine c_seq (fun K1 hK1 => wp_region_lit ?_)
 refine n_box (by simp only [ev,zD,zE]; rfl) ?_
 intro w1 g1 hE hg1 hB1
 have hG1 := Nat.le_trans hX.size hg1
 replace hX := hX.trans hE
 clear hE hg1
 simp only [ev,zD,zE,zF,zG]
 refine n_box (by simp only [ev,zD,zE]; rfl) ?_
 intro w2 g2 hE hg2 hB2
 have hG2 := Nat.le_trans hX.size hg2; have hN2_1 : g2 ≠ g1 := Nat.ne_of_gt (Nat.lt_of_lt_of_le hB1.lt hg2)
 replace hB1 := hB1.ext hE; replace hX := hX.trans hE
 clear hE hg2
 simp only [ev,zD,zE,zF,zG]
 refine n_alloc zero_34 rfl ?_
 intro w3 g3 hE hg3 hB3
 have hG3 := Nat.le_trans hX.size hg3; have hN3_1 : g3 ≠ g1 := Nat.ne_of_gt (Nat.lt_of_lt_of_le hB1.lt hg3); have hN3_2 : g3 ≠ g2 := Nat.ne_of_gt (Nat.lt_of_lt_of_le hB2.lt hg3)
 replace hB1 := hB1.ext hE; replace hB2 := hB2.ext hE; replace hX := hX.trans hE
 clear hE hg3
 simp only [ev,zD,zE,zF,zG]
 refine n_val (r_assign) ?_
 simp only [ev,zD,zE,zF,zG]
 refine n_nil ?_
 refine hK1 _ _ ?_
 refine c_seq (fun K2 hK2 => wp_region_lit ?_)
 refine n_load rfl (hB2.lies agg_32 cells_32 rfl rfl) ?_
 simp only [ev,zD,zE,zF,zG]
 refine n_callP rfl rfl (rSign_c hd') ?_
 intro w4 hE
 replace hB1 := hB1.ext hE; replace hB2 := hB2.ext hE; replace hB3 := hB3.ext hE; replace hX := hX.trans hE
 clear hE
 simp only [ev,zD,zE,zF,zG]
 refine n_val (r_assign) ?_
 simp only [ev,zD,zE,zF,zG]
 refine n_nil ?_
 refine hK2 _ _ ?_
 refine c_seq (fun K3 hK3 => c_seq (fun K4 hK4 => wp_region_lit (n_val (r_move) (n_val (r_eqlF rfl rfl (by unfold isign; split <;> (try split) <;> omega)) ?_))))
 simp only [ev,zD,zE,zF,zG]
 refine n_nil ?_
 refine hK4 _ _ ?_
 refine c_no rfl (wp_skip ?_)
 refine hK3 _ _ ?_
 refine c_seq (fun K5 hK5 => wp_region_lit ?_)
 refine n_load rfl (hB1.lies agg_32 cells_32 rfl rfl) ?_
 simp only [ev,zD,zE,zF,zG]
 refine n_load rfl (hB2.lies agg_32 cells_32 rfl rfl) ?_
 simp only [ev,zD,zE,zF,zG]
 refine n_callP rfl rfl (rGcd_c hn' hd') ?_
 intro w5 hE
 replace hB1 := hB1.ext hE; replace hB2 := hB2.ext hE; replace hB3 := hB3.ext hE; replace hX := hX.trans hE
 clear hE
 simp only [ev,zD,zE,zF,zG]
 refine n_alloc zero_32 rfl ?_
 intro w6 g4 hE hg4 hB4
 have hG4 := Nat.le_trans hX.size hg4; have hN4_1 : g4 ≠ g1 := Nat.ne_of_gt (Nat.lt_of_lt_of_le hB1.lt hg4); have hN4_2 : g4 ≠ g2 := Nat.ne_of_gt (Nat.lt_of_lt_of_le hB2.lt hg4); have hN4_3 : g4 ≠ g3 := Nat.ne_of_gt (Nat.lt_of_lt_of_le hB3.lt hg4)
 replace hB1 := hB1.ext hE; replace hB2 := hB2.ext hE; replace hB3 := hB3.ext hE; replace hX := hX.trans hE
 clear hE hg4
 simp only [ev,zD,zE,zF,zG]
 refine n_store rfl (by simp only [ev,zD,zE]; rfl) (by exact cells_32) hB4 (by simp) (by simp [Value.oneCell']) ?_
 clear hB4; intro w7 hC hB4
 replace hB1 := hB1.chg hC (by first | exact hN1_4 | exact Ne.symm hN4_1); replace hB2 := hB2.chg hC (by first | exact hN2_4 | exact Ne.symm hN4_2); replace hB3 := hB3.chg hC (by first | exact hN3_4 | exact Ne.symm hN4_3); replace hX := hX.chg hC hG4
 clear hC
 simp only [over,zH,zI,zJ,zK,zL,zM,zN,zO,zP,Nat.reduceAdd] at hB4
 refine n_nil ?_
 refine hK5 _ _ ?_
 refine c_seq (fun K6 hK6 => c_seq (fun K7 hK7 => wp_region_lit (n_val (r_move) (n_val (r_lss rfl rfl) ?_))))
 simp only [ev,zD,zE,zF,zG]
 refine n_nil ?_
 refine hK7 _ _ ?_
 refine c_if rfl (fun hc2 => ?_) (fun hc2 => ?_)
 ·
  have hGn : -(Int.gcd n d : Int) = G := by
   have : d < 0 := by
    unfold isign at hc2
    split at hc2
    · assumption
    · split at hc2 <;> omega
   rw [hGe, isign_neg this]; omega
  refine wp_region_lit ?_
  refine n_load rfl (hB4.lies agg_32 cells_32 rfl rfl) ?_
  simp only [ev,zD,zE,zF,zG]
  refine n_callP rfl rfl (rNeg_c (hg.mono (by decide))) ?_
  intro w8 hE
  replace hB1 := hB1.ext hE; replace hB2 := hB2.ext hE; replace hB3 := hB3.ext hE; replace hB4 := hB4.ext hE; replace hX := hX.trans hE
  clear hE
  simp only [ev,zD,zE,zF,zG]
  refine n_store rfl (by simp only [ev,zD,zE]; rfl) (by exact cells_32) hB4 (by simp) (by simp [Value.oneCell']) ?_
  clear hB4; intro w9 hC hB4
  replace hB1 := hB1.chg hC (by first | exact hN1_4 | exact Ne.symm hN4_1); replace hB2 := hB2.chg hC (by first | exact hN2_4 | exact Ne.symm hN4_2); replace hB3 := hB3.chg hC (by first | exact hN3_4 | exact Ne.symm hN4_3); replace hX := hX.chg hC hG4
  clear hC
  simp only [over,zH,zI,zJ,zK,zL,zM,zN,zO,zP,Nat.reduceAdd] at hB4
  refine n_nil ?_
  rw [hGn] at hB4
  refine hK6 _ _ ?_
  refine c_seq (fun K8 hK8 => wp_region_lit ?_)
  refine n_load rfl (hB1.lies agg_32 cells_32 rfl rfl) ?_
  simp only [ev,zD,zE,zF,zG]
  refine n_load rfl (hB4.lies agg_32 cells_32 rfl rfl) ?_
  simp only [ev,zD,zE,zF,zG]
  refine n_callP rfl rfl (rQuo_c hn' hG hg0) ?_
  intro w10 hE
  replace hB1 := hB1.ext hE; replace hB2 := hB2.ext hE; replace hB3 := hB3.ext hE; replace hB4 := hB4.ext hE; replace hX := hX.trans hE
  clear hE
  simp only [ev,zD,zE,zF,zG]
  refine n_val (r_move) (n_val (r_extract rfl rfl) (n_val (r_extract rfl rfl) ?_))
  simp only [ev,zD,zE,zF,zG]
  refine n_val (r_extract rfl rfl) ?_
  simp only [ev,zD,zE,zF,zG]
  refine n_alloc zero_32 rfl ?_
  intro w11 g5 hE hg5 hB5
  have hG5 := Nat.le_trans hX.size hg5; have hN5_1 : g5 ≠ g1 := Nat.ne_of_gt (Nat.lt_of_lt_of_le hB1.lt hg5); have hN5_2 : g5 ≠ g2 := Nat.ne_of_gt (Nat.lt_of_lt_of_le hB2.lt hg5); have hN5_3 : g5 ≠ g3 := Nat.ne_of_gt (Nat.lt_of_lt_of_le hB3.lt hg5); have hN5_4 : g5 ≠ g4 := Nat.ne_of_gt (Nat.lt_of_lt_of_le hB4.lt hg5)
  replace hB1 := hB1.ext hE; replace hB2 := hB2.ext hE; replace hB3 := hB3.ext hE; replace hB4 := hB4.ext hE; replace hX := hX.trans hE
  clear hE hg5
  simp only [ev,zD,zE,zF,zG]
  refine n_alloc zero_32 rfl ?_
  intro w12 g6 hE hg6 hB6
  have hG6 := Nat.le_trans hX.size hg6; have hN6_1 : g6 ≠ g1 := Nat.ne_of_gt (Nat.lt_of_lt_of_le hB1.lt hg6); have hN6_2 : g6 ≠ g2 := Nat.ne_of_gt (Nat.lt_of_lt_of_le hB2.lt hg6); have hN6_3 : g6 ≠ g3 := Nat.ne_of_gt (Nat.lt_of_lt_of_le hB3.lt hg6); have hN6_4 : g6 ≠ g4 := Nat.ne_of_gt (Nat.lt_of_lt_of_le hB4.lt hg6); have hN6_5 : g6 ≠ g5 := Nat.ne_of_gt (Nat.lt_of_lt_of_le hB5.lt hg6)
  replace hB1 := hB1.ext hE; replace hB2 := hB2.ext hE; replace hB3 := hB3.ext hE; replace hB4 := hB4.ext hE; replace hB5 := hB5.ext hE; replace hX := hX.trans hE
  clear hE hg6
  simp only [ev,zD,zE,zF,zG]
  refine n_store rfl (by simp only [ev,zD,zE]; rfl) (by exact cells_32) hB5 (by simp) (by simp [Value.oneCell']) ?_
  clear hB5; intro w13 hC hB5
  replace hB1 := hB1.chg hC (by first | exact hN1_5 | exact Ne.symm hN5_1); replace hB2 := hB2.chg hC (by first | exact hN2_5 | exact Ne.symm hN5_2); replace hB3 := hB3.chg hC (by first | exact hN3_5 | exact Ne.symm hN5_3); replace hB4 := hB4.chg hC (by first | exact hN4_5 | exact Ne.symm hN5_4); replace hB6 := hB6.chg hC (by first | exact hN6_5 | exact Ne.symm hN5_6); replace hX := hX.chg hC hG5
  clear hC
  simp only [over,zH,zI,zJ,zK,zL,zM,zN,zO,zP,Nat.reduceAdd] at hB5
  refine n_store rfl (by simp only [ev,zD,zE]; rfl) (by exact cells_32) hB6 (by simp) (by simp [Value.oneCell']) ?_
  clear hB6; intro w14 hC hB6
  replace hB1 := hB1.chg hC (by first | exact hN1_6 | exact Ne.symm hN6_1); replace hB2 := hB2.chg hC (by first | exact hN2_6 | exact Ne.symm hN6_2); replace hB3 := hB3.chg hC (by first | exact hN3_6 | exact Ne.symm hN6_3); replace hB4 := hB4.chg hC (by first | exact hN4_6 | exact Ne.symm hN6_4); replace hB5 := hB5.chg hC (by first | exact hN5_6 | exact Ne.symm hN6_5); replace hX := hX.chg hC hG6
  clear hC
  simp only [over,zH,zI,zJ,zK,zL,zM,zN,zO,zP,Nat.reduceAdd] at hB6
  refine n_val (r_assign) ?_
  simp only [ev,zD,zE,zF,zG]
  refine n_nil ?_
  refine hK8 _ _ ?_
  refine c_seq (fun K9 hK9 => wp_region_lit ?_)
  refine n_load rfl (hB2.lies agg_32 cells_32 rfl rfl) ?_
  simp only [ev,zD,zE,zF,zG]
  refine n_load rfl (hB4.lies agg_32 cells_32 rfl rfl) ?_
  simp only [ev,zD,zE,zF,zG]
  refine n_callP rfl rfl (rQuo_c hd' hG hg0) ?_
  intro w15 hE
  replace hB1 := hB1.ext hE; replace hB2 := hB2.ext hE; replace hB3 := hB3.ext hE; replace hB4 := hB4.ext hE; replace hB5 := hB5.ext hE; replace hB6 := hB6.ext hE; replace hX := hX.trans hE
  clear hE
  simp only [ev,zD,zE,zF,zG]
  refine n_val (r_move) (n_val (r_extract rfl rfl) (n_val (r_extract rfl rfl) ?_))
  simp only [ev,zD,zE,zF,zG]
  refine n_val (r_extract rfl rfl) ?_
  simp only [ev,zD,zE,zF,zG]
  refine n_alloc zero_32 rfl ?_
  intro w16 g7 hE hg7 hB7
  have hG7 := Nat.le_trans hX.size hg7; have hN7_1 : g7 ≠ g1 := Nat.ne_of_gt (Nat.lt_of_lt_of_le hB1.lt hg7); have hN7_2 : g7 ≠ g2 := Nat.ne_of_gt (Nat.lt_of_lt_of_le hB2.lt hg7); have hN7_3 : g7 ≠ g3 := Nat.ne_of_gt (Nat.lt_of_lt_of_le hB3.lt hg7); have hN7_4 : g7 ≠ g4 := Nat.ne_of_gt (Nat.lt_of_lt_of_le hB4.lt hg7); have hN7_5 : g7 ≠ g5 := Nat.ne_of_gt (Nat.lt_of_lt_of_le hB5.lt hg7); have hN7_6 : g7 ≠ g6 := Nat.ne_of_gt (Nat.lt_of_lt_of_le hB6.lt hg7)
  replace hB1 := hB1.ext hE; replace hB2 := hB2.ext hE; replace hB3 := hB3.ext hE; replace hB4 := hB4.ext hE; replace hB5 := hB5.ext hE; replace hB6 := hB6.ext hE; replace hX := hX.trans hE
  clear hE hg7
  simp only [ev,zD,zE,zF,zG]
  refine n_alloc zero_32 rfl ?_
  intro w17 g8 hE hg8 hB8
  have hG8 := Nat.le_trans hX.size hg8; have hN8_1 : g8 ≠ g1 := Nat.ne_of_gt (Nat.lt_of_lt_of_le hB1.lt hg8); have hN8_2 : g8 ≠ g2 := Nat.ne_of_gt (Nat.lt_of_lt_of_le hB2.lt hg8); have hN8_3 : g8 ≠ g3 := Nat.ne_of_gt (Nat.lt_of_lt_of_le hB3.lt hg8); have hN8_4 : g8 ≠ g4 := Nat.ne_of_gt (Nat.lt_of_lt_of_le hB4.lt hg8); have hN8_5 : g8 ≠ g5 := Nat.ne_of_gt (Nat.lt_of_lt_of_le hB5.lt hg8); have hN8_6 : g8 ≠ g6 := Nat.ne_of_gt (Nat.lt_of_lt_of_le hB6.lt hg8); have hN8_7 : g8 ≠ g7 := Nat.ne_of_gt (Nat.lt_of_lt_of_le hB7.lt hg8)
  replace hB1 := hB1.ext hE; replace hB2 := hB2.ext hE; replace hB3 := hB3.ext hE; replace hB4 := hB4.ext hE; replace hB5 := hB5.ext hE; replace hB6 := hB6.ext hE; replace hB7 := hB7.ext hE; replace hX := hX.trans hE
  clear hE hg8
  simp only [ev,zD,zE,zF,zG]
  refine n_store rfl (by simp only [ev,zD,zE]; rfl) (by exact cells_32) hB7 (by simp) (by simp [Value.oneCell']) ?_
  clear hB7; intro w18 hC hB7
  replace hB1 := hB1.chg hC (by first | exact hN1_7 | exact Ne.symm hN7_1); replace hB2 := hB2.chg hC (by first | exact hN2_7 | exact Ne.symm hN7_2); replace hB3 := hB3.chg hC (by first | exact hN3_7 | exact Ne.symm hN7_3); replace hB4 := hB4.chg hC (by first | exact hN4_7 | exact Ne.symm hN7_4); replace hB5 := hB5.chg hC (by first | exact hN5_7 | exact Ne.symm hN7_5); replace hB6 := hB6.chg hC (by first | exact hN6_7 | exact Ne.symm hN7_6); replace hB8 := hB8.chg hC (by first | exact hN8_7 | exact Ne.symm hN7_8); replace hX := hX.chg hC hG7
  clear hC
  simp only [over,zH,zI,zJ,zK,zL,zM,zN,zO,zP,Nat.reduceAdd] at hB7
  refine n_store rfl (by simp only [ev,zD,zE]; rfl) (by exact cells_32) hB8 (by simp) (by simp [Value.oneCell']) ?_
  clear hB8; intro w19 hC hB8
  replace hB1 := hB1.chg hC (by first | exact hN1_8 | exact Ne.symm hN8_1); replace hB2 := hB2.chg hC (by first | exact hN2_8 | exact Ne.symm hN8_2); replace hB3 := hB3.chg hC (by first | exact hN3_8 | exact Ne.symm hN8_3); replace hB4 := hB4.chg hC (by first | exact hN4_8 | exact Ne.symm hN8_4); replace hB5 := hB5.chg hC (by first | exact hN5_8 | exact Ne.symm hN8_5); replace hB6 := hB6.chg hC (by first | exact hN6_8 | exact Ne.symm hN8_6); replace hB7 := hB7.chg hC (by first | exact hN7_8 | exact Ne.symm hN8_7); replace hX := hX.chg hC hG8
  clear hC
  simp only [over,zH,zI,zJ,zK,zL,zM,zN,zO,zP,Nat.reduceAdd] at hB8
  refine n_val (r_assign) ?_
  simp only [ev,zD,zE,zF,zG]
  refine n_nil ?_
  refine hK9 _ _ ?_
  refine c_seq (fun K10 hK10 => wp_region_lit ?_)
  refine n_load rfl (hB5.lies agg_32 cells_32 rfl rfl) ?_
  simp only [ev,zD,zE,zF,zG]
  refine n_load rfl (hB7.lies agg_32 cells_32 rfl rfl) ?_
  simp only [ev,zD,zE,zF,zG]
  refine n_val (r_build_34_0_1 rfl rfl) ?_
  simp only [ev,zD,zE,zF,zG]
  refine n_store rfl (by simp only [ev,zD,zE]; rfl) (by exact cells_34) hB3 (by simp) (by simp [Value.oneCell']) ?_
  clear hB3; intro w20 hC hB3
  replace hB1 := hB1.chg hC (by first | exact hN1_3 | exact Ne.symm hN3_1); replace hB2 := hB2.chg hC (by first | exact hN2_3 | exact Ne.symm hN3_2); replace hB4 := hB4.chg hC (by first | exact hN4_3 | exact Ne.symm hN3_4); replace hB5 := hB5.chg hC (by first | exact hN5_3 | exact Ne.symm hN3_5); replace hB6 := hB6.chg hC (by first | exact hN6_3 | exact Ne.symm hN3_6); replace hB7 := hB7.chg hC (by first | exact hN7_3 | exact Ne.symm hN3_7); replace hB8 := hB8.chg hC (by first | exact hN8_3 | exact Ne.symm hN3_8); replace hX := hX.chg hC hG3
  clear hC
  simp only [over,zH,zI,zJ,zK,zL,zM,zN,zO,zP,Nat.reduceAdd] at hB3
  refine n_val (r_assign) ?_
  simp only [ev,zD,zE,zF,zG]
  refine n_nil ?_
  refine hK10 _ _ ?_
  refine wp_ret ?_
  try simp only [Exit.inBlock,Exit.then]
  refine fin2 rfl ⟨_, rfl, (hB3.lies agg_34 cells_34 rfl rfl)⟩ rfl ?_
  try simp only [zD,zE]
  exact ⟨_, rfl, hX, by rw [e1, e2] at *; rfl⟩
 ·
  have hGn : (Int.gcd n d : Int) = G := by
   have : 0 < d := by
    unfold isign at hc2
    split at hc2
    · omega
    · omega
   rw [hGe, isign_pos this]; omega
  rw [hGn] at hB4
  refine wp_skip ?_
  refine hK6 _ _ ?_
  refine c_seq (fun K11 hK11 => wp_region_lit ?_)
  refine n_load rfl (hB1.lies agg_32 cells_32 rfl rfl) ?_
  simp only [ev,zD,zE,zF,zG]
  refine n_load rfl (hB4.lies agg_32 cells_32 rfl rfl) ?_
  simp only [ev,zD,zE,zF,zG]
  refine n_callP rfl rfl (rQuo_c hn' hG hg0) ?_
  intro w8 hE
  replace hB1 := hB1.ext hE; replace hB2 := hB2.ext hE; replace hB3 := hB3.ext hE; replace hB4 := hB4.ext hE; replace hX := hX.trans hE
  clear hE
  simp only [ev,zD,zE,zF,zG]
  refine n_val (r_move) (n_val (r_extract rfl rfl) (n_val (r_extract rfl rfl) ?_))
  simp only [ev,zD,zE,zF,zG]
  refine n_val (r_extract rfl rfl) ?_
  simp only [ev,zD,zE,zF,zG]
  refine n_alloc zero_32 rfl ?_
  intro w9 g5 hE hg5 hB5
  have hG5 := Nat.le_trans hX.size hg5; have hN5_1 : g5 ≠ g1 := Nat.ne_of_gt (Nat.lt_of_lt_of_le hB1.lt hg5); have hN5_2 : g5 ≠ g2 := Nat.ne_of_gt (Nat.lt_of_lt_of_le hB2.lt hg5); have hN5_3 : g5 ≠ g3 := Nat.ne_of_gt (Nat.lt_of_lt_of_le hB3.lt hg5); have hN5_4 : g5 ≠ g4 := Nat.ne_of_gt (Nat.lt_of_lt_of_le hB4.lt hg5)
  replace hB1 := hB1.ext hE; replace hB2 := hB2.ext hE; replace hB3 := hB3.ext hE; replace hB4 := hB4.ext hE; replace hX := hX.trans hE
  clear hE hg5
  simp only [ev,zD,zE,zF,zG]
  refine n_alloc zero_32 rfl ?_
  intro w10 g6 hE hg6 hB6
  have hG6 := Nat.le_trans hX.size hg6; have hN6_1 : g6 ≠ g1 := Nat.ne_of_gt (Nat.lt_of_lt_of_le hB1.lt hg6); have hN6_2 : g6 ≠ g2 := Nat.ne_of_gt (Nat.lt_of_lt_of_le hB2.lt hg6); have hN6_3 : g6 ≠ g3 := Nat.ne_of_gt (Nat.lt_of_lt_of_le hB3.lt hg6); have hN6_4 : g6 ≠ g4 := Nat.ne_of_gt (Nat.lt_of_lt_of_le hB4.lt hg6); have hN6_5 : g6 ≠ g5 := Nat.ne_of_gt (Nat.lt_of_lt_of_le hB5.lt hg6)
  replace hB1 := hB1.ext hE; replace hB2 := hB2.ext hE; replace hB3 := hB3.ext hE; replace hB4 := hB4.ext hE; replace hB5 := hB5.ext hE; replace hX := hX.trans hE
  clear hE hg6
  simp only [ev,zD,zE,zF,zG]
  refine n_store rfl (by simp only [ev,zD,zE]; rfl) (by exact cells_32) hB5 (by simp) (by simp [Value.oneCell']) ?_
  clear hB5; intro w11 hC hB5
  replace hB1 := hB1.chg hC (by first | exact hN1_5 | exact Ne.symm hN5_1); replace hB2 := hB2.chg hC (by first | exact hN2_5 | exact Ne.symm hN5_2); replace hB3 := hB3.chg hC (by first | exact hN3_5 | exact Ne.symm hN5_3); replace hB4 := hB4.chg hC (by first | exact hN4_5 | exact Ne.symm hN5_4); replace hB6 := hB6.chg hC (by first | exact hN6_5 | exact Ne.symm hN5_6); replace hX := hX.chg hC hG5
  clear hC
  simp only [over,zH,zI,zJ,zK,zL,zM,zN,zO,zP,Nat.reduceAdd] at hB5
  refine n_store rfl (by simp only [ev,zD,zE]; rfl) (by exact cells_32) hB6 (by simp) (by simp [Value.oneCell']) ?_
  clear hB6; intro w12 hC hB6
  replace hB1 := hB1.chg hC (by first | exact hN1_6 | exact Ne.symm hN6_1); replace hB2 := hB2.chg hC (by first | exact hN2_6 | exact Ne.symm hN6_2); replace hB3 := hB3.chg hC (by first | exact hN3_6 | exact Ne.symm hN6_3); replace hB4 := hB4.chg hC (by first | exact hN4_6 | exact Ne.symm hN6_4); replace hB5 := hB5.chg hC (by first | exact hN5_6 | exact Ne.symm hN6_5); replace hX := hX.chg hC hG6
  clear hC
  simp only [over,zH,zI,zJ,zK,zL,zM,zN,zO,zP,Nat.reduceAdd] at hB6
  refine n_val (r_assign) ?_
  simp only [ev,zD,zE,zF,zG]
  refine n_nil ?_
  refine hK11 _ _ ?_
  refine c_seq (fun K12 hK12 => wp_region_lit ?_)
  refine n_load rfl (hB2.lies agg_32 cells_32 rfl rfl) ?_
  simp only [ev,zD,zE,zF,zG]
  refine n_load rfl (hB4.lies agg_32 cells_32 rfl rfl) ?_
  simp only [ev,zD,zE,zF,zG]
  refine n_callP rfl rfl (rQuo_c hd' hG hg0) ?_
  intro w13 hE
  replace hB1 := hB1.ext hE; replace hB2 := hB2.ext hE; replace hB3 := hB3.ext hE; replace hB4 := hB4.ext hE; replace hB5 := hB5.ext hE; replace hB6 := hB6.ext hE; replace hX := hX.trans hE
  clear hE
  simp only [ev,zD,zE,zF,zG]
  refine n_val (r_move) (n_val (r_extract rfl rfl) (n_val (r_extract rfl rfl) ?_))
  simp only [ev,zD,zE,zF,zG]
  refine n_val (r_extract rfl rfl) ?_
  simp only [ev,zD,zE,zF,zG]
  refine n_alloc zero_32 rfl ?_
  intro w14 g7 hE hg7 hB7
  have hG7 := Nat.le_trans hX.size hg7; have hN7_1 : g7 ≠ g1 := Nat.ne_of_gt (Nat.lt_of_lt_of_le hB1.lt hg7); have hN7_2 : g7 ≠ g2 := Nat.ne_of_gt (Nat.lt_of_lt_of_le hB2.lt hg7); have hN7_3 : g7 ≠ g3 := Nat.ne_of_gt (Nat.lt_of_lt_of_le hB3.lt hg7); have hN7_4 : g7 ≠ g4 := Nat.ne_of_gt (Nat.lt_of_lt_of_le hB4.lt hg7); have hN7_5 : g7 ≠ g5 := Nat.ne_of_gt (Nat.lt_of_lt_of_le hB5.lt hg7); have hN7_6 : g7 ≠ g6 := Nat.ne_of_gt (Nat.lt_of_lt_of_le hB6.lt hg7)
  replace hB1 := hB1.ext hE; replace hB2 := hB2.ext hE; replace hB3 := hB3.ext hE; replace hB4 := hB4.ext hE; replace hB5 := hB5.ext hE; replace hB6 := hB6.ext hE; replace hX := hX.trans hE
  clear hE hg7
  simp only [ev,zD,zE,zF,zG]
  refine n_alloc zero_32 rfl ?_
  intro w15 g8 hE hg8 hB8
  have hG8 := Nat.le_trans hX.size hg8; have hN8_1 : g8 ≠ g1 := Nat.ne_of_gt (Nat.lt_of_lt_of_le hB1.lt hg8); have hN8_2 : g8 ≠ g2 := Nat.ne_of_gt (Nat.lt_of_lt_of_le hB2.lt hg8); have hN8_3 : g8 ≠ g3 := Nat.ne_of_gt (Nat.lt_of_lt_of_le hB3.lt hg8); have hN8_4 : g8 ≠ g4 := Nat.ne_of_gt (Nat.lt_of_lt_of_le hB4.lt hg8); have hN8_5 : g8 ≠ g5 := Nat.ne_of_gt (Nat.lt_of_lt_of_le hB5.lt hg8); have hN8_6 : g8 ≠ g6 := Nat.ne_of_gt (Nat.lt_of_lt_of_le hB6.lt hg8); have hN8_7 : g8 ≠ g7 := Nat.ne_of_gt (Nat.lt_of_lt_of_le hB7.lt hg8)
  replace hB1 := hB1.ext hE; replace hB2 := hB2.ext hE; replace hB3 := hB3.ext hE; replace hB4 := hB4.ext hE; replace hB5 := hB5.ext hE; replace hB6 := hB6.ext hE; replace hB7 := hB7.ext hE; replace hX := hX.trans hE
  clear hE hg8
  simp only [ev,zD,zE,zF,zG]
  refine n_store rfl (by simp only [ev,zD,zE]; rfl) (by exact cells_32) hB7 (by simp) (by simp [Value.oneCell']) ?_
  clear hB7; intro w16 hC hB7
  replace hB1 := hB1.chg hC (by first | exact hN1_7 | exact Ne.symm hN7_1); replace hB2 := hB2.chg hC (by first | exact hN2_7 | exact Ne.symm hN7_2); replace hB3 := hB3.chg hC (by first | exact hN3_7 | exact Ne.symm hN7_3); replace hB4 := hB4.chg hC (by first | exact hN4_7 | exact Ne.symm hN7_4); replace hB5 := hB5.chg hC (by first | exact hN5_7 | exact Ne.symm hN7_5); replace hB6 := hB6.chg hC (by first | exact hN6_7 | exact Ne.symm hN7_6); replace hB8 := hB8.chg hC (by first | exact hN8_7 | exact Ne.symm hN7_8); replace hX := hX.chg hC hG7
  clear hC
  simp only [over,zH,zI,zJ,zK,zL,zM,zN,zO,zP,Nat.reduceAdd] at hB7
  refine n_store rfl (by simp only [ev,zD,zE]; rfl) (by exact cells_32) hB8 (by simp) (by simp [Value.oneCell']) ?_
  clear hB8; intro w17 hC hB8
  replace hB1 := hB1.chg hC (by first | exact hN1_8 | exact Ne.symm hN8_1); replace hB2 := hB2.chg hC (by first | exact hN2_8 | exact Ne.symm hN8_2); replace hB3 := hB3.chg hC (by first | exact hN3_8 | exact Ne.symm hN8_3); replace hB4 := hB4.chg hC (by first | exact hN4_8 | exact Ne.symm hN8_4); replace hB5 := hB5.chg hC (by first | exact hN5_8 | exact Ne.symm hN8_5); replace hB6 := hB6.chg hC (by first | exact hN6_8 | exact Ne.symm hN8_6); replace hB7 := hB7.chg hC (by first | exact hN7_8 | exact Ne.symm hN8_7); replace hX := hX.chg hC hG8
  clear hC
  simp only [over,zH,zI,zJ,zK,zL,zM,zN,zO,zP,Nat.reduceAdd] at hB8
  refine n_val (r_assign) ?_
  simp only [ev,zD,zE,zF,zG]
  refine n_nil ?_
  refine hK12 _ _ ?_
  refine c_seq (fun K13 hK13 => wp_region_lit ?_)
  refine n_load rfl (hB5.lies agg_32 cells_32 rfl rfl) ?_
  simp only [ev,zD,zE,zF,zG]
  refine n_load rfl (hB7.lies agg_32 cells_32 rfl rfl) ?_
  simp only [ev,zD,zE,zF,zG]
  refine n_val (r_build_34_0_1 rfl rfl) ?_
  simp only [ev,zD,zE,zF,zG]
  refine n_store rfl (by simp only [ev,zD,zE]; rfl) (by exact cells_34) hB3 (by simp) (by simp [Value.oneCell']) ?_
  clear hB3; intro w18 hC hB3
  replace hB1 := hB1.chg hC (by first | exact hN1_3 | exact Ne.symm hN3_1); replace hB2 := hB2.chg hC (by first | exact hN2_3 | exact Ne.symm hN3_2); replace hB4 := hB4.chg hC (by first | exact hN4_3 | exact Ne.symm hN3_4); replace hB5 := hB5.chg hC (by first | exact hN5_3 | exact Ne.symm hN3_5); replace hB6 := hB6.chg hC (by first | exact hN6_3 | exact Ne.symm hN3_6); replace hB7 := hB7.chg hC (by first | exact hN7_3 | exact Ne.symm hN3_7); replace hB8 := hB8.chg hC (by first | exact hN8_3 | exact Ne.symm hN3_8); replace hX := hX.chg hC hG3
  clear hC
  simp only [over,zH,zI,zJ,zK,zL,zM,zN,zO,zP,Nat.reduceAdd] at hB3
  refine n_val (r_assign) ?_
  simp only [ev,zD,zE,zF,zG]
  refine n_nil ?_
  refine hK13 _ _ ?_
  refine wp_ret ?_
  try simp only [Exit.inBlock,Exit.then]
  refine fin2 rfl ⟨_, rfl, (hB3.lies agg_34 cells_34 rfl rfl)⟩ rfl ?_
  try simp only [zD,zE]
  exact ⟨_, rfl, hX, by rw [e1, e2] at *; rfl⟩

set_option maxHeartbeats 400000 in
theorem usual_c {q : Rat} (hq : Bq 400000 q) : Pure Tryz.prog 101 [Q q] (Q q) := by
 intro w
 refine ⟨en_101, ?_⟩
 have hX := Ext.refl w
 have h0 : (0 : Int) < q.den := by have := q.den_pos; omega
 have hd := hq.d.mono (show 400000 ≤ 1000000 by decide)
 go_enter Tryz.func101, Tryz.ntmps101
 refine c_seq (fun K1 hK1 => wp_region_lit ?_)
 refine n_box (by simp only [ev,zD,zE]; rfl) ?_
 intro w1 g1 hE hg1 hB1
 have hG1 := Nat.le_trans hX.size hg1
 replace hX := hX.trans hE
 clear hE hg1
 simp only [ev,zD,zE,zF,zG]
 refine n_alloc zero_34 rfl ?_
 intro w2 g2 hE hg2 hB2
 have hG2 := Nat.le_trans hX.size hg2; have hN2_1 : g2 ≠ g1 := Nat.ne_of_gt (Nat.lt_of_lt_of_le hB1.lt hg2)
 replace hB1 := hB1.ext hE; replace hX := hX.trans hE
 clear hE hg2
 simp only [ev,zD,zE,zF,zG]
 refine n_nil ?_
 refine hK1 _ _ ?_
 refine c_seq (fun K2 hK2 => c_seq (fun K3 hK3 => wp_region_lit (n_val (r_fieldAddr (c := 1) Tryz.underlying34 rfl cells_32 rfl rfl) ?_)))
 simp only [ev,zD,zE,zF,zG]
 refine n_load rfl (hB1.lies agg_32 cells_32 rfl rfl) ?_
 simp only [ev,zD,zE,zF,zG]
 refine n_callP rfl rfl (rSign_c (a := (q.den : Int)) hd) ?_
 intro w3 hE
 replace hB1 := hB1.ext hE; replace hB2 := hB2.ext hE; replace hX := hX.trans hE
 clear hE
 simp only [ev,zD,zE,zF,zG]
 refine n_val (r_leqF rfl rfl (by rw [isign_pos h0]; decide)) ?_
 simp only [ev,zD,zE,zF,zG]
 refine n_nil ?_
 refine hK3 _ _ ?_
 refine c_no rfl (wp_skip ?_)
 refine hK2 _ _ ?_
 refine c_seq (fun K4 hK4 => wp_region_lit ?_)
 refine n_load rfl (hB1.lies agg_34 cells_34 rfl rfl) ?_
 simp only [ev,zD,zE,zF,zG]
 refine n_store rfl (by simp only [ev,zD,zE]; rfl) (by exact cells_34) hB2 (by simp) (by simp [Value.oneCell']) ?_
 clear hB2; intro w4 hC hB2
 replace hB1 := hB1.chg hC (by first | exact hN1_2 | exact Ne.symm hN2_1); replace hX := hX.chg hC hG2
 clear hC
 simp only [over,zH,zI,zJ,zK,zL,zM,zN,zO,zP,Nat.reduceAdd] at hB2
 refine n_nil ?_
 refine hK4 _ _ ?_
 refine wp_ret ?_
 try simp only [Exit.inBlock,Exit.then]
 refine fin1 rfl ⟨_, rfl, (hB2.lies agg_34 cells_34 rfl rfl)⟩ ?_
 try simp only [zD,zE]
 exact ⟨_, rfl, hX, rfl⟩

set_option maxHeartbeats 400000 in
theorem rCmpFrac_c {p q : Rat} (hp : Bq 400000 p) (hq : Bq 400000 q) : Pure Tryz.prog 46 [Q p, Q q] (.int .i64 (qcmp p q)) := by
 intro w
 refine ⟨en_46, ?_⟩
 have hX := Ext.refl w
 go_enter Tryz.func46, Tryz.ntmps46
 refine c_seq (fun K1 hK1 => wp_region_lit ?_)
 refine n_box (by simp only [ev,zD,zE]; rfl) ?_
 intro w1 g1 hE hg1 hB1
 have hG1 := Nat.le_trans hX.size hg1
 replace hX := hX.trans hE
 clear hE hg1
 simp only [ev,zD,zE,zF,zG]
 refine n_box (by simp only [ev,zD,zE]; rfl) ?_
 intro w2 g2 hE hg2 hB2
 have hG2 := Nat.le_trans hX.size hg2; have hN2_1 : g2 ≠ g1 := Nat.ne_of_gt (Nat.lt_of_lt_of_le hB1.lt hg2)
 replace hB1 := hB1.ext hE; replace hX := hX.trans hE
 clear hE hg2
 simp only [ev,zD,zE,zF,zG]
 refine n_val (r_assign) ?_
 simp only [ev,zD,zE,zF,zG]
 refine n_nil ?_
 refine hK1 _ _ ?_
 refine c_seq (fun K2 hK2 => wp_region_lit ?_)
 refine n_load rfl (hB1.lies agg_34 cells_34 rfl rfl) ?_
 simp only [ev,zD,zE,zF,zG]
 refine n_callP rfl rfl (usual_c hp) ?_
 intro w3 hE
 replace hB1 := hB1.ext hE; replace hB2 := hB2.ext hE; replace hX := hX.trans hE
 clear hE
 simp only [ev,zD,zE,zF,zG]
 refine n_alloc zero_34 rfl ?_
 intro w4 g3 hE hg3 hB3
 have hG3 := Nat.le_trans hX.size hg3; have hN3_1 : g3 ≠ g1 := Nat.ne_of_gt (Nat.lt_of_lt_of_le hB1.lt hg3); have hN3_2 : g3 ≠ g2 := Nat.ne_of_gt (Nat.lt_of_lt_of_le hB2.lt hg3)
 replace hB1 := hB1.ext hE; replace hB2 := hB2.ext hE; replace hX := hX.trans hE
 clear hE hg3
 simp only [ev,zD,zE,zF,zG]
 refine n_store rfl (by simp only [ev,zD,zE]; rfl) (by exact cells_34) hB3 (by simp) (by simp [Value.oneCell']) ?_
 clear hB3; intro w5 hC hB3
 replace hB1 := hB1.chg hC (by first | exact hN1_3 | exact Ne.symm hN3_1); replace hB2 := hB2.chg hC (by first | exact hN2_3 | exact Ne.symm hN3_2); replace hX := hX.chg hC hG3
 clear hC
 simp only [over,zH,zI,zJ,zK,zL,zM,zN,zO,zP,Nat.reduceAdd] at hB3
 refine n_nil ?_
 refine hK2 _ _ ?_
 refine c_seq (fun K3 hK3 => wp_region_lit ?_)
 refine n_load rfl (hB2.lies agg_34 cells_34 rfl rfl) ?_
 simp only [ev,zD,zE,zF,zG]
 refine n_callP rfl rfl (usual_c hq) ?_
 intro w6 hE
 replace hB1 := hB1.ext hE; replace hB2 := hB2.ext hE; replace hB3 := hB3.ext hE; replace hX := hX.trans hE
 clear hE
 simp only [ev,zD,zE,zF,zG]
 refine n_alloc zero_34 rfl ?_
 intro w7 g4 hE hg4 hB4
 have hG4 := Nat.le_trans hX.size hg4; have hN4_1 : g4 ≠ g1 := Nat.ne_of_gt (Nat.lt_of_lt_of_le hB1.lt hg4); have hN4_2 : g4 ≠ g2 := Nat.ne_of_gt (Nat.lt_of_lt_of_le hB2.lt hg4); have hN4_3 : g4 ≠ g3 := Nat.ne_of_gt (Nat.lt_of_lt_of_le hB3.lt hg4)
 replace hB1 := hB1.ext hE; replace hB2 := hB2.ext hE; replace hB3 := hB3.ext hE; replace hX := hX.trans hE
 clear hE hg4
 simp only [ev,zD,zE,zF,zG]
 refine n_store rfl (by simp only [ev,zD,zE]; rfl) (by exact cells_34) hB4 (by simp) (by simp [Value.oneCell']) ?_
 clear hB4; intro w8 hC hB4
 replace hB1 := hB1.chg hC (by first | exact hN1_4 | exact Ne.symm hN4_1); replace hB2 := hB2.chg hC (by first | exact hN2_4 | exact Ne.symm hN4_2); replace hB3 := hB3.chg hC (by first | exact hN3_4 | exact Ne.symm hN4_3); replace hX := hX.chg hC hG4
 clear hC
 simp only [over,zH,zI,zJ,zK,zL,zM,zN,zO,zP,Nat.reduceAdd] at hB4
 refine n_nil ?_
 refine hK3 _ _ ?_
 refine c_seq (fun K4 hK4 => ?_)
 refine wp_region_ext follows_mixed (by kernel_rfl) (q_val (r_fieldAddr (c := 1) Tryz.underlying34 rfl cells_32 rfl rfl) ?_)
 simp only [ev,zD,zE,zF,zG]
 refine q_load rfl (fun _ hE' => ((hB3.ext hE').lies agg_32 cells_32 rfl rfl)) ?_
 simp only [ev,zD,zE,zF,zG]
 refine q_val (r_fieldAddr (c := 1) Tryz.underlying34 rfl cells_32 rfl rfl) ?_
 simp only [ev,zD,zE,zF,zG]
 refine q_load rfl (fun _ hE' => ((hB4.ext hE').lies agg_32 cells_32 rfl rfl)) ?_
 simp only [ev,zD,zE,zF,zG]
 refine q_callP rfl rfl (rMul_c (a := p.num) (b := (q.den : Int)) (hp.n.mono (by decide)) (hq.d.mono (by decide))) ?_
 simp only [ev,zD,zE,zF,zG]
 refine q_val (r_fieldAddr (c := 1) Tryz.underlying34 rfl cells_32 rfl rfl) ?_
 simp only [ev,zD,zE,zF,zG]
 refine q_load rfl (fun _ hE' => ((hB4.ext hE').lies agg_32 cells_32 rfl rfl)) ?_
 simp only [ev,zD,zE,zF,zG]
 refine q_val (r_fieldAddr (c := 1) Tryz.underlying34 rfl cells_32 rfl rfl) ?_
 simp only [ev,zD,zE,zF,zG]
 refine q_load rfl (fun _ hE' => ((hB3.ext hE').lies agg_32 cells_32 rfl rfl)) ?_
 simp only [ev,zD,zE,zF,zG]
 refine q_callP rfl rfl (rMul_c (a := q.num) (b := (p.den : Int)) (hq.n.mono (by decide)) (hp.d.mono (by decide))) ?_
 simp only [ev,zD,zE,zF,zG]
 refine q_callP rfl rfl (rCmp_c ((hp.n.mul hq.d).mono (by decide)) ((hq.n.mul hp.d).mono (by decide))) ?_
 simp only [ev,zD,zE,zF,zG]
 refine q_val (r_assign) ?_
 simp only [ev,zD,zE,zF,zG]
 refine q_nil ?_
 intro w9 hE
 replace hB1 := hB1.ext hE; replace hB2 := hB2.ext hE; replace hB3 := hB3.ext hE; replace hB4 := hB4.ext hE; replace hX := hX.trans hE
 clear hE
 refine hK4 _ _ ?_
 refine wp_ret ?_
 try simp only [Exit.inBlock,Exit.then]
 refine fin1 rfl rfl ?_
 try simp only [zD,zE]
 exact ⟨_, rfl, hX, rfl⟩

end Go.Proofs.YtmcgcnpgkkfkoaaGreatDoor
namespace Go.Lith
open Go.RowKit
theorem p16 (i : Nat) : (65536 : Nat) ^ (2 * (i + 1)) = 65536 * 65536 * 65536 ^ (2 * i) := by
  rw [show 2 * (i + 1) = 2 * i + 1 + 1 by omega, Nat.pow_succ, Nat.pow_succ]
  generalize (65536 : Nat) ^ (2 * i) = p
  omega
theorem r16_start {X n K : Nat} (h : X < 65536 ^ n) (hK : n ≤ 2 * K) : X < (0 + 1) * (0 + 1) * 65536 ^ (2 * K) := by
  have := Nat.pow_le_pow_right (show 0 < 65536 by omega) hK
  omega
theorem r16_low0 {R i X : Nat} (h : R * R * 65536 ^ (2 * (i + 1)) ≤ X) : (0 + 65536 * R) * (0 + 65536 * R) * 65536 ^ (2 * i) ≤ X := by
  rw [p16] at h
  have e : (0 + 65536 * R) * (0 + 65536 * R) * 65536 ^ (2 * i) = R * R * (65536 * 65536 * 65536 ^ (2 * i)) := by
    generalize (65536 : Nat) ^ (2 * i) = p
    grind
  omega
theorem r16_high0 {R i X : Nat} (h : X < (R + 1) * (R + 1) * 65536 ^ (2 * (i + 1))) : X < (65536 + 65536 * R) * (65536 + 65536 * R) * 65536 ^ (2 * i) := by
  rw [p16] at h
  have e : (65536 + 65536 * R) * (65536 + 65536 * R) * 65536 ^ (2 * i) = (R + 1) * (R + 1) * (65536 * 65536 * 65536 ^ (2 * i)) := by
    generalize (65536 : Nat) ^ (2 * i) = p
    grind
  omega
theorem r16_end {R i X low high : Nat} (h : X < (high + 65536 * R) * (high + 65536 * R) * 65536 ^ (2 * i)) (hl : ¬ ((1 : Int) < (high : Int) - (low : Int))) : X < (low + 65536 * R + 1) * (low + 65536 * R + 1) * 65536 ^ (2 * i) := by
  refine Nat.lt_of_lt_of_le h (Nat.mul_le_mul_right _ (Nat.mul_le_mul ?_ ?_)) <;> omega
theorem r16_test {rs : List Nat} {m i : Nat} : val 65536 (List.replicate (2 * i) 0 ++ digs 65536 (val 65536 (m :: rs) * val 65536 (m :: rs))) = (m + 65536 * val 65536 rs) * (m + 65536 * val 65536 rs) * 65536 ^ (2 * i) := by
  rw [val_append, val_replicate, val_digs16, List.length_replicate, Nat.zero_add, Nat.mul_comm]
  rfl
theorem r16_done {R X : Nat} (h1 : R * R * 65536 ^ (2 * 0) ≤ X) (h2 : X < (R + 1) * (R + 1) * 65536 ^ (2 * 0)) : R = isqrt X := isqrt_unique (by simpa using h1) (by simpa using h2)
theorem val_cons16 (m : Nat) (rs : List Nat) : val 65536 (m :: rs) = m + 65536 * val 65536 rs := rfl
theorem DigAt.trimmed {w : World} {b n cap : Nat} {A : Option Addr} {xs : List Nat} (h : DigAt w b A n cap xs) : DigAt w w.heap.size A (trim xs).length cap (trim xs) := by
  have h := (h.take (trim xs).length).here
  rwa [← trim_eq_take] at h
theorem two_base {w : World} {b b' n n' cap cap' : Nat} {A A' : Option Addr} {xs ys : List Nat} (h : DigAt w b A n cap xs) (k : DigAt w b' A' n' cap' ys) : ∃ c, Base w c ∧ DigAt w c A n cap xs ∧ DigAt w c A' n' cap' ys := ⟨_, ⟨Nat.le_refl _⟩, h.here, k.here⟩
theorem sq_len {rs : List Nat} {m : Nat} (hm : m < 65536) (h : Digs 65536 rs) : (digs 65536 (val 65536 (m :: rs) * val 65536 (m :: rs))).length ≤ 2 * (rs.length + 1) := by
  refine length_digs_le (by omega) ?_
  have h1 := val_lt (digs_cons hm h)
  simp only [List.length_cons] at h1
  rw [show 2 * (rs.length + 1) = (rs.length + 1) + (rs.length + 1) by omega, Nat.pow_add]
  exact Nat.mul_lt_mul'' h1 h1
end Go.Lith
namespace Go.Proofs.YtmcgcnpgkkfkoaaGreatDoor
open Go.RowKit Go.Lith
set_option maxRecDepth 100000
attribute [local irreducible] wpList wpQuiet wpMix Code.wp
set_option maxHeartbeats 400000 in
theorem rneg_c {a : Int} (ha : Bd 1000000 a) (h0 : 0 ≤ a) : Pure Tryz.prog 108 [W a] (.bool false) := by
 intro w
 refine ⟨en_108, ?_⟩
 have hX := Ext.refl w
 have hw : wneg a = false := decide_eq_false (by omega)
 go_enter Tryz.func108, Tryz.ntmps108
 refine c_seq (fun K1 hK1 => wp_region_lit ?_)
 refine n_box (by simp only [ev,zD,zE]; rfl) ?_
 intro w1 g1 hE hg1 hB1
 have hG1 := Nat.le_trans hX.size hg1
 replace hX := hX.trans hE
 clear hE hg1
 simp only [ev,zD,zE,zF,zG]
 refine n_val (r_assign) ?_
 simp only [ev,zD,zE,zF,zG]
 refine n_nil ?_
 refine hK1 _ _ ?_
 refine c_seq (fun K2 hK2 => ?_)
 rw [hw] at hB1
 ·
  refine wp_region_lit (n_val (r_fieldAddr (c := 0) Tryz.underlying32 rfl cells_4 rfl rfl) ?_)
  simp only [ev,zD,zE,zF,zG]
  refine n_load rfl (hB1.lies1 agg_4 rfl) ?_
  simp only [ev,zD,zE,zF,zG]
  refine n_val (r_move) ?_
  simp only [ev,zD,zE,zF,zG]
  refine n_skipT rfl ?_
  simp only [ev,zD,zE,zF,zG]
  refine n_skipT rfl ?_
  simp only [ev,zD,zE,zF,zG]
  refine n_skipT rfl ?_
  simp only [ev,zD,zE,zF,zG]
  refine n_skipT rfl ?_
  simp only [ev,zD,zE,zF,zG]
  refine n_val (r_pickF rfl) (n_val (r_assign) ?_)
  simp only [ev,zD,zE,zF,zG]
  refine n_nil ?_
  refine hK2 _ _ ?_
  refine wp_ret ?_
  try simp only [Exit.inBlock,Exit.then]
  refine fin1 rfl rfl ?_
  try simp only [zD,zE]
  exact ⟨_, rfl, hX, rfl⟩

set_option maxHeartbeats 4000000 in
theorem rRoot_c {a : Int} (ha : Bd 1000000 a) (h0 : 0 ≤ a) : Pure Tryz.prog 53 [W a] (.tuple #[W (isqrt a.natAbs : Int), .bool true]) := by
 intro w
 refine ⟨en_53, ?_⟩
 have hX := Ext.refl w
 have hla : (digs 65536 a.natAbs).length ≤ 1000000 := len_bd16 ha
 obtain ⟨X, hXa⟩ : ∃ X, X = a.natAbs := ⟨_, rfl⟩
 obtain ⟨K, hK⟩ : ∃ K, K = ((digs 65536 X).length + 1) / 2 := ⟨_, rfl⟩
 rw [← hXa] at hla
 have hXd : X < 65536 ^ (digs 65536 X).length := by have := val_lt (digs_digs16 X); rwa [val_digs16] at this
 have hst := r16_start (K := K) hXd (by omega)
 rw [← hXa]
 go_enter Tryz.func53, Tryz.ntmps53
 refine c_seq (fun K1 hK1 => wp_region_lit ?_)
 refine n_box (by simp only [ev,zD,zE]; rfl) ?_
 intro w1 g1 hE hg1 hB1
 have hG1 := Nat.le_trans hX.size hg1
 (try replace hD4 := hD4.ext hE); (try replace hD5 := hD5.ext hE); (try replace hD6 := hD6.ext hE); (try replace hD8 := hD8.ext hE); (try replace hD9 := hD9.ext hE); (try replace hS12 := hS12.ext hE); replace hX := hX.trans hE
 clear hE
 simp only [ev,zD,zE,zF,zG]
 refine n_alloc zero_32 rfl ?_
 intro w2 g2 hE hg2 hB2
 have hG2 := Nat.le_trans hX.size hg2; have hN2_1 : g2 ≠ g1 := Nat.ne_of_gt (Nat.lt_of_lt_of_le hB1.lt hg2); have hL2_1 := Nat.lt_of_lt_of_le hB1.lt hg2
 replace hB1 := hB1.ext hE; (try replace hD4 := hD4.ext hE); (try replace hD5 := hD5.ext hE); (try replace hD6 := hD6.ext hE); (try replace hD8 := hD8.ext hE); (try replace hD9 := hD9.ext hE); (try replace hS12 := hS12.ext hE); replace hX := hX.trans hE
 clear hE
 simp only [ev,zD,zE,zF,zG]
 refine n_val (r_assign) ?_
 simp only [ev,zD,zE,zF,zG]
 refine n_nil ?_
 refine hK1 _ _ ?_
 refine c_seq (fun K2 hK2 => c_seq (fun K3 hK3 => wp_region_lit ?_))
 refine n_load rfl (hB1.lies agg_32 cells_32 rfl rfl) ?_
 simp only [ev,zD,zE,zF,zG]
 refine n_callP rfl rfl (rneg_c ha h0) ?_
 intro w3 hE
 replace hB1 := hB1.ext hE; replace hB2 := hB2.ext hE; (try replace hD4 := hD4.ext hE); (try replace hD5 := hD5.ext hE); (try replace hD6 := hD6.ext hE); (try replace hD8 := hD8.ext hE); (try replace hD9 := hD9.ext hE); (try replace hS12 := hS12.ext hE); replace hX := hX.trans hE
 clear hE
 simp only [ev,zD,zE,zF,zG]
 refine n_nil ?_
 refine hK3 _ _ ?_
 refine c_no rfl (wp_skip ?_)
 refine hK2 _ _ ?_
 refine c_seq (fun K4 hK4 => wp_region_lit ?_)
 refine n_load rfl (hB1.lies agg_32 cells_32 rfl rfl) ?_
 simp only [ev,zD,zE,zF,zG]
 refine n_call rfl rfl (digits_c _ (wmag_size ha)) ?_
 rintro v w4 hE ⟨A4, c4, rfl, hD4⟩
 replace hB1 := hB1.ext hE; replace hB2 := hB2.ext hE; (try replace hD4 := hD4.ext hE); (try replace hD5 := hD5.ext hE); (try replace hD6 := hD6.ext hE); (try replace hD8 := hD8.ext hE); (try replace hD9 := hD9.ext hE); (try replace hS12 := hS12.ext hE); replace hX := hX.trans hE
 clear hE
 rw [sval_wmag, ← hXa] at hD4 ⊢
 simp only [ev,zD,zE,zF,zG]
 refine n_val (r_assign) ?_
 simp only [ev,zD,zE,zF,zG]
 refine n_nil ?_
 refine hK4 _ _ ?_
 refine c_seq (fun K5 hK5 => wp_region_lit (n_val (r_assign) ?_))
 simp only [ev,zD,zE,zF,zG]
 refine n_nil ?_
 refine hK5 _ _ ?_
 refine c_seq (fun K6 hK6 => c_seq (fun K7 hK7 => wp_region_lit (n_val (r_move) (n_val (r_lenS rfl Tryz.underlying22 rfl) (n_val (r_add rfl rfl (wrap_i64 (by omega) (by omega))) ?_)))))
 simp only [ev,zD,zE,zF,zG]
 rw [show (((digs 65536 X).length : Int) + 1) = (((digs 65536 X).length + 1 : Nat) : Int) by omega]
 refine n_val (r_quo rfl rfl (by omega) (quo_i64 (m := (digs 65536 X).length + 1) (n := 2) (by omega))) (n_val (r_sub rfl rfl (wrap_i64 (by omega) (by omega))) (n_val (r_assign) ?_))
 simp only [ev,zD,zE,zF,zG]
 refine n_nil ?_
 rw [← hK]
 refine hK7 _ _ ?_
 refine wp_block ?_
 refine c_loopg [5, 6] [7, 8, 9, 10, 11, 22, 23, 24, 25, 26, 27, 28, 29, 30, 31, 32, 33, 34, 35, 36, 37, 38, 39, 40, 41, 42, 43, 44, 45, 46, 47, 48, 49, 50, 51, 52, 53, 54, 55, 56, 57] (fun n vs wl => ∃ (k : Nat) (rs : List Nat) (A5 : Option Addr) (c5 : Nat), vs = [.slice A5 rs.length c5, .int .i64 ((k:Int) - 1)] ∧ (Ext w wl) ∧ (Blk wl g2 [.bool false, .string ⟨#[]⟩] 32) ∧ (DigAt wl wl.heap.size A4 (digs 65536 X).length c4 (digs 65536 X)) ∧ (DigAt wl wl.heap.size A5 rs.length c5 rs) ∧ (rs.length + k = K) ∧ (Digs 65536 rs) ∧ (val 65536 rs * val 65536 rs * 65536 ^ (2 * k) ≤ X) ∧ (X < (val 65536 rs + 1) * (val 65536 rs + 1) * 65536 ^ (2 * k)) ∧ (n = k)) ?_ ?_
 ·
  apply Exists.intro
  simp only [zQ,zR,zD,zE]
  exact ⟨K, [], none, 0, rfl, hX, hB2, hD4.here, DigAt.nil _ _, by simp, digs_nil _, by simp [val], hst, rfl⟩
 ·
  intro n vs wr hI u
  obtain ⟨k, rs, A5, c5, rfl, hX, hB2, hD4, hD5, hrl, hrd, hr1, hr2, hn⟩ := hI
  simp only [setG_cons,setG_nil,setMany_cons,setMany_nil,zF,zG]
  refine c_seq (fun K8 hK8 => c_seq (fun K9 hK9 => wp_region_lit (n_val (r_move) (n_val (r_geq rfl rfl) ?_))))
  simp only [ev,zD,zE,zF,zG]
  refine n_nil ?_
  refine hK9 _ _ ?_
  refine c_if rfl (fun hc2 => ?_) (fun hc2 => ?_)
  ·
   obtain ⟨i, rfl⟩ : ∃ i, k = i + 1 := ⟨k - 1, by omega⟩
   rw [show (((i + 1 : Nat) : Int) - 1) = (i : Int) by omega]
   refine wp_skip ?_
   refine hK8 _ _ ?_
   refine c_seq (fun K10 hK10 => wp_block (c_seq (fun K11 hK11 => wp_region_lit (n_val (r_assign) ?_))))
   simp only [ev,zD,zE,zF,zG]
   refine n_nil ?_
   refine hK11 _ _ ?_
   refine c_seq (fun K12 hK12 => wp_region_lit (n_val (r_assign) ?_))
   simp only [ev,zD,zE,zF,zG]
   refine n_nil ?_
   refine hK12 _ _ ?_
   refine c_seq (fun K13 hK13 => wp_block ?_)
   refine c_loopg [7, 8] [9, 10, 11, 26, 27, 28, 29, 30, 31, 32, 33, 34, 35, 36, 37, 38, 39, 40, 41, 42, 43, 44, 45, 46, 47, 48, 49, 50, 51, 52, 53] (fun n vs wl => ∃ (low high : Nat), vs = [.int .i64 (low:Int), .int .i64 (high:Int)] ∧ (Ext w wl) ∧ (Blk wl g2 [.bool false, .string ⟨#[]⟩] 32) ∧ (DigAt wl wl.heap.size A4 (digs 65536 X).length c4 (digs 65536 X)) ∧ (DigAt wl wl.heap.size A5 rs.length c5 rs) ∧ ((low + 65536 * val 65536 rs) * (low + 65536 * val 65536 rs) * 65536 ^ (2 * i) ≤ X) ∧ (X < (high + 65536 * val 65536 rs) * (high + 65536 * val 65536 rs) * 65536 ^ (2 * i)) ∧ (low < high) ∧ (high ≤ 65536) ∧ (n = high - low)) ?_ ?_
   ·
    apply Exists.intro
    simp only [zQ,zR,zD,zE]
    exact ⟨0, 65536, rfl, hX, hB2, hD4.here, hD5.here, r16_low0 hr1, r16_high0 hr2, by omega, by omega, rfl⟩
   ·
    intro n vs wr hI u
    obtain ⟨low, high, rfl, hX, hB2, hD4, hD5, hlow, hhigh, hl1, hl2, hn2⟩ := hI
    simp only [setG_cons,setG_nil,setMany_cons,setMany_nil,zF,zG]
    refine c_seq (fun K14 hK14 => c_seq (fun K15 hK15 => wp_region_lit (n_val (r_move) (n_val (r_move) (n_val (r_sub rfl rfl (wrap_i64 (by omega) (by omega))) ?_)))))
    simp only [ev,zD,zE,zF,zG]
    refine n_val (r_gtr rfl rfl) ?_
    simp only [ev,zD,zE,zF,zG]
    refine n_nil ?_
    refine hK15 _ _ ?_
    refine c_if rfl (fun hc3 => ?_) (fun hc3 => ?_)
    ·
     have hm1 : low < (low + high) / 2 := by omega
     have hm2 : (low + high) / 2 < high := by omega
     refine wp_skip ?_
     refine hK14 _ _ ?_
     refine wp_block (c_seq (fun K16 hK16 => wp_region_lit (n_val (r_move) (n_val (r_move) (n_val (r_add rfl rfl (wrap_i64 (by omega) (by omega))) ?_)))))
     simp only [ev,zD,zE,zF,zG]
     rw [show ((low : Int) + (high : Int)) = ((low + high : Nat) : Int) by omega]
     refine n_val (r_quo rfl rfl (by omega) (quo_i64 (m := low + high) (n := 2) (by omega))) (n_val (r_assign) ?_)
     simp only [ev,zD,zE,zF,zG]
     refine n_nil ?_
     obtain ⟨m, hm⟩ : ∃ m, m = (low + high) / 2 := ⟨_, rfl⟩
     rw [← hm] at hm1 hm2 ⊢
     have hm16 : m < 65536 := by omega
     refine hK16 _ _ ?_
     refine c_seq (fun K17 hK17 => ?_)
     obtain ⟨b12, hS12, hD4, hD5⟩ := two_base hD4 hD5
     refine wp_region_lit (n_val (r_move) ?_)
     simp only [ev,zD,zE,zF,zG]
     refine n_build1 Tryz.underlying22 (z := .int .i64 0) (by kernel_rfl) rfl (by simp only [ev,zD,zE,zF,zG]; rfl) (by rfl) ?_
     intro w5 g3 hE hg3 hB3
     have hb12 := Nat.le_trans hS12.h hg3
     have hG3 := Nat.le_trans hX.size hg3; have hN3_2 : g3 ≠ g2 := Nat.ne_of_gt (Nat.lt_of_lt_of_le hB2.lt hg3); have hL3_2 := Nat.lt_of_lt_of_le hB2.lt hg3
     replace hB2 := hB2.ext hE; (try replace hD4 := hD4.ext hE); (try replace hD5 := hD5.ext hE); (try replace hD6 := hD6.ext hE); (try replace hD8 := hD8.ext hE); (try replace hD9 := hD9.ext hE); (try replace hS12 := hS12.ext hE); replace hX := hX.trans hE
     clear hE
     simp only [ev,zD,zE,zF,zG]
     refine n_val (r_move) ?_
     simp only [ev,zD,zE,zF,zG]
     have hO6 := Owns.full (base := g3) (n := 1) hB3 (Nat.le_refl _) rfl (by omega)
     refine n_appendS rfl Tryz.underlying22 inf_3 rfl (by decide) rfl hO6 rfl (news := rs.map i64v) (by simp) hD5.rows (fun u hu => by obtain ⟨x, _, rfl⟩ := List.mem_map.1 hu; rfl) (by omega) (by omega) (Nat.le_of_lt hB3.lt) ?_
     intro v6 w9 hO hGr _
     replace hX := hX.grown hGr hG3
     replace hB2 := hB2.grew hGr hL3_2
     replace hD4 := (hD4.grew hGr hb12).here
     replace hD5 := (hD5.grew hGr hb12).here
     clear hB3 hO6
     obtain ⟨A6, c6, rfl, hD6, _⟩ := DigAt.of_owns (xs := m :: rs) (by simpa [Nat.add_comm] using hO) (by first | simp; done | (simp only [List.length_cons]; omega)) (digs_cons (by omega) hrd) (by omega)
     simp only [ev,zD,zE,zF,zG]
     refine n_val (r_assign) ?_
     simp only [ev,zD,zE,zF,zG]
     refine n_nil ?_
     refine hK17 _ _ ?_
     refine c_seq (fun K18 hK18 => ?_)
     obtain ⟨b12, hS12, hD4, hD5⟩ := two_base hD4 hD5
     refine wp_region_tree (.take 0 (.take 1 (.take 3 (.take 5 (.two 2 (.one 4 (.one 6 (.one 7 (.one 8 (.take 9 .nil))))) 4 (.two 2 (.one 6 (.one 7 (.one 8 (.take 9 .nil)))) 6 (.two 2 (.one 7 (.one 8 (.take 9 .nil))) 7 (.one 2 (.one 8 (.take 9 .nil)))))))))) follows_mixed (by kernel_rfl) (panic_put (fun _ _ _ _ _ h => h)) ?_
     intro w6 hE
     replace hB2 := hB2.ext hE; (try replace hD4 := hD4.ext hE); (try replace hD5 := hD5.ext hE); (try replace hD6 := hD6.ext hE); (try replace hD8 := hD8.ext hE); (try replace hD9 := hD9.ext hE); (try replace hS12 := hS12.ext hE); replace hX := hX.trans hE
     clear hE
     refine ⟨_, Hold.nil, ?_⟩
     refine t_take (by simp only [zS,zT,zU,zV]; rfl) (h_val (r_move) ?_)
     simp only [ev,zD,zE,zF,zG]
     refine h_nil ?_
     refine t_take (by simp only [zS,zT,zU,zV]; rfl) (h_val (r_mul rfl rfl ((wrap_i64 (by omega) (by omega)).trans (show (2 : Int) * (i : Int) = ((2 * i : Nat) : Int) by omega))) ?_)
     simp only [ev,zD,zE,zF,zG]
     refine h_nil ?_
     refine t_take (by simp only [zS,zT,zU,zV]; rfl) (h_val (r_move) ?_)
     simp only [ev,zD,zE,zF,zG]
     refine h_nil ?_
     refine t_take (by simp only [zS,zT,zU,zV]; rfl) (h_val (r_move) ?_)
     simp only [ev,zD,zE,zF,zG]
     refine h_nil ?_
     refine t_two (by simp only [zS,zT,zU,zV]; rfl) (by simp only [zS,zT,zU,zV]; rfl) ?_ ?_
     ·
      refine n_make1 Tryz.underlying22 inf_3 rfl rfl rfl (show _ = 2 * i by omega) (show _ = 2 * i by omega) (by omega) (by omega) (by omega) (by omega) ?_
      intro w7 g4 hE hg4 hB4
      have hb12 := Nat.le_trans hS12.h hg4
      have hG4 := Nat.le_trans hX.size hg4; have hN4_2 : g4 ≠ g2 := Nat.ne_of_gt (Nat.lt_of_lt_of_le hB2.lt hg4); have hL4_2 := Nat.lt_of_lt_of_le hB2.lt hg4
      replace hB2 := hB2.ext hE; (try replace hD4 := hD4.ext hE); (try replace hD5 := hD5.ext hE); (try replace hD6 := hD6.ext hE); (try replace hD8 := hD8.ext hE); (try replace hD9 := hD9.ext hE); (try replace hS12 := hS12.ext hE); replace hX := hX.trans hE
      clear hE
      simp only [ev,zD,zE,zF,zG]
      refine n_nil ?_
      refine ⟨trivial, ?_⟩
      refine t_one (by simp only [zS,zT,zU,zV]; rfl) ?_
      refine n_call rfl rfl (trim_c _ hD6) ?_
      rintro v w8 hE rfl
      replace hB2 := hB2.ext hE; replace hB4 := hB4.ext hE; (try replace hD4 := hD4.ext hE); (try replace hD5 := hD5.ext hE); (try replace hD6 := hD6.ext hE); (try replace hD8 := hD8.ext hE); (try replace hD9 := hD9.ext hE); (try replace hS12 := hS12.ext hE); replace hX := hX.trans hE
      clear hE
      simp only [ev,zD,zE,zF,zG]
      refine n_nil ?_
      refine ⟨trivial, ?_⟩
      refine t_one (by simp only [zS,zT,zU,zV]; rfl) ?_
      refine n_call rfl rfl (trim_c _ hD6) ?_
      rintro v w9 hE rfl
      replace hB2 := hB2.ext hE; replace hB4 := hB4.ext hE; (try replace hD4 := hD4.ext hE); (try replace hD5 := hD5.ext hE); (try replace hD6 := hD6.ext hE); (try replace hD8 := hD8.ext hE); (try replace hD9 := hD9.ext hE); (try replace hS12 := hS12.ext hE); replace hX := hX.trans hE
      clear hE
      simp only [ev,zD,zE,zF,zG]
      refine n_nil ?_
      refine ⟨trivial, ?_⟩
      refine t_one (by simp only [zS,zT,zU,zV]; rfl) ?_
      have hl6 := length_trim_le (m :: rs)
      simp only [List.length_cons] at hl6
      refine n_call rfl rfl (times_c _ hD6.trimmed hD6.trimmed (by omega) (by omega)) ?_
      rintro v w10 hE ⟨⟨A8, c8, rfl, hD8⟩, _⟩
      replace hB2 := hB2.ext hE; replace hB4 := hB4.ext hE; (try replace hD4 := hD4.ext hE); (try replace hD5 := hD5.ext hE); (try replace hD6 := hD6.ext hE); (try replace hD8 := hD8.ext hE); (try replace hD9 := hD9.ext hE); (try replace hS12 := hS12.ext hE); replace hX := hX.trans hE
      clear hE
      simp only [val_trim] at hD8 ⊢
      simp only [ev,zD,zE,zF,zG]
      refine n_nil ?_
      refine ⟨trivial, ?_⟩
      refine t_one (by simp only [zS,zT,zU,zV]; rfl) ?_
      have hl8 : (digs 65536 (val 65536 (m :: rs) * val 65536 (m :: rs))).length ≤ 2 * (rs.length + 1) := sq_len hm16 hrd
      have hO7 := Owns.full (base := g4) (n := 2 * i) hB4 (Nat.le_refl _) (by simp) (by omega)
      refine n_appendS rfl Tryz.underlying22 inf_3 rfl (by decide) rfl hO7 rfl (news := (digs 65536 (val 65536 (m :: rs) * val 65536 (m :: rs))).map i64v) (by simp) hD8.rows (fun u hu => by obtain ⟨x, _, rfl⟩ := List.mem_map.1 hu; rfl) (by omega) (by omega) (Nat.le_of_lt hB4.lt) ?_
      intro v6 w9 hO hGr _
      replace hX := hX.grown hGr hG4
      replace hB2 := hB2.grew hGr hL4_2
      replace hD4 := (hD4.grew hGr hb12).here
      replace hD5 := (hD5.grew hGr hb12).here
      clear hB4 hO7
      obtain ⟨A9, c9, rfl, hD9, _⟩ := DigAt.of_owns (xs := List.replicate (2 * i) 0 ++ digs 65536 (val 65536 (m :: rs) * val 65536 (m :: rs))) (by rw [List.map_append, ← replicate_i64]; exact hO) (by simp) (fun x hx => by rcases List.mem_append.1 hx with h | h; rw [List.eq_of_mem_replicate h]; decide; exact digs_digs16 _ x h) (by omega)
      simp only [ev,zD,zE,zF,zG]
      refine n_nil ?_
      refine ⟨trivial, ?_⟩
      refine t_take (by simp only [zS,zT,zU,zV]; rfl) (h_val (r_assign) ?_)
      simp only [ev,zD,zE,zF,zG]
      refine h_nil ?_
      refine t_nil ?_
      refine hK18 _ _ ?_
      refine c_seq (fun K19 hK19 => wp_region_lit (n_val (r_move) ?_))
      simp only [ev,zD,zE,zF,zG]
      refine n_call rfl rfl (trim_c _ hD9) ?_
      rintro v w11 hE rfl
      replace hB2 := hB2.ext hE; (try replace hD4 := hD4.ext hE); (try replace hD5 := hD5.ext hE); (try replace hD6 := hD6.ext hE); (try replace hD8 := hD8.ext hE); (try replace hD9 := hD9.ext hE); (try replace hS12 := hS12.ext hE); replace hX := hX.trans hE
      clear hE
      simp only [ev,zD,zE,zF,zG]
      refine n_val (r_move) ?_
      simp only [ev,zD,zE,zF,zG]
      have hT9 := hD9.trimmed
      refine n_call rfl rfl (compare_c _ hT9 hD4 (trimmed_trim _) (trimmed_digs16 _)) ?_
      rintro v w12 hE rfl
      replace hB2 := hB2.ext hE; (try replace hD4 := hD4.ext hE); (try replace hD5 := hD5.ext hE); (try replace hD6 := hD6.ext hE); (try replace hD8 := hD8.ext hE); (try replace hD9 := hD9.ext hE); (try replace hS12 := hS12.ext hE); replace hX := hX.trans hE
      clear hE
      rw [val_trim, val_digs16, r16_test]
      simp only [ev,zD,zE,zF,zG]
      refine n_val (r_leq rfl rfl) ?_
      simp only [ev,zD,zE,zF,zG]
      refine n_nil ?_
      refine hK19 _ _ ?_
      refine c_if rfl (fun hc4 => ?_) (fun hc4 => ?_)
      ·
       have hle4 := ord_le_iff.1 hc4
       refine wp_region_lit (n_val (r_move) (n_val (r_assign) ?_))
       simp only [ev,zD,zE,zF,zG]
       refine n_nil ?_
       simp only [Exit.inBlock,Exit.then]
       refine ⟨high - m, _, ?_, rfl, ?_, ?_⟩
       · omega
       · simp only [zQ,zR,zD,zE,setG_cons,setG_nil,setMany_cons,setMany_nil,zF,zG]
       ·
        simp only [zQ,zR,zD,zE]
        exact ⟨m, high, rfl, hX, hB2, hD4.here, hD5.here, hle4, hhigh, hm2, hl2, rfl⟩
      ·
       have hle4 := Nat.lt_of_not_le fun h => hc4 (ord_le_iff.2 h)
       refine wp_region_lit (n_val (r_move) (n_val (r_assign) ?_))
       simp only [ev,zD,zE,zF,zG]
       refine n_nil ?_
       simp only [Exit.inBlock,Exit.then]
       refine ⟨m - low, _, ?_, rfl, ?_, ?_⟩
       · omega
       · simp only [zQ,zR,zD,zE,setG_cons,setG_nil,setMany_cons,setMany_nil,zF,zG]
       ·
        simp only [zQ,zR,zD,zE]
        exact ⟨low, m, rfl, hX, hB2, hD4.here, hD5.here, hlow, hle4, hm1, by omega, rfl⟩
     ·
      refine n_call rfl rfl (trim_c _ hD6) ?_
      rintro v w7 hE rfl
      replace hB2 := hB2.ext hE; (try replace hD4 := hD4.ext hE); (try replace hD5 := hD5.ext hE); (try replace hD6 := hD6.ext hE); (try replace hD8 := hD8.ext hE); (try replace hD9 := hD9.ext hE); (try replace hS12 := hS12.ext hE); replace hX := hX.trans hE
      clear hE
      simp only [ev,zD,zE,zF,zG]
      refine n_nil ?_
      refine ⟨trivial, ?_⟩
      refine t_two (by simp only [zS,zT,zU,zV]; rfl) (by simp only [zS,zT,zU,zV]; rfl) ?_ ?_
      ·
       refine n_make1 Tryz.underlying22 inf_3 rfl rfl rfl (show _ = 2 * i by omega) (show _ = 2 * i by omega) (by omega) (by omega) (by omega) (by omega) ?_
       intro w8 g4 hE hg4 hB4
       have hb12 := Nat.le_trans hS12.h hg4
       have hG4 := Nat.le_trans hX.size hg4; have hN4_2 : g4 ≠ g2 := Nat.ne_of_gt (Nat.lt_of_lt_of_le hB2.lt hg4); have hL4_2 := Nat.lt_of_lt_of_le hB2.lt hg4
       replace hB2 := hB2.ext hE; (try replace hD4 := hD4.ext hE); (try replace hD5 := hD5.ext hE); (try replace hD6 := hD6.ext hE); (try replace hD8 := hD8.ext hE); (try replace hD9 := hD9.ext hE); (try replace hS12 := hS12.ext hE); replace hX := hX.trans hE
       clear hE
       simp only [ev,zD,zE,zF,zG]
       refine n_nil ?_
       refine ⟨trivial, ?_⟩
       refine t_one (by simp only [zS,zT,zU,zV]; rfl) ?_
       refine n_call rfl rfl (trim_c _ hD6) ?_
       rintro v w9 hE rfl
       replace hB2 := hB2.ext hE; replace hB4 := hB4.ext hE; (try replace hD4 := hD4.ext hE); (try replace hD5 := hD5.ext hE); (try replace hD6 := hD6.ext hE); (try replace hD8 := hD8.ext hE); (try replace hD9 := hD9.ext hE); (try replace hS12 := hS12.ext hE); replace hX := hX.trans hE
       clear hE
       simp only [ev,zD,zE,zF,zG]
       refine n_nil ?_
       refine ⟨trivial, ?_⟩
       refine t_one (by simp only [zS,zT,zU,zV]; rfl) ?_
       have hl6 := length_trim_le (m :: rs)
       simp only [List.length_cons] at hl6
       refine n_call rfl rfl (times_c _ hD6.trimmed hD6.trimmed (by omega) (by omega)) ?_
       rintro v w10 hE ⟨⟨A8, c8, rfl, hD8⟩, _⟩
       replace hB2 := hB2.ext hE; replace hB4 := hB4.ext hE; (try replace hD4 := hD4.ext hE); (try replace hD5 := hD5.ext hE); (try replace hD6 := hD6.ext hE); (try replace hD8 := hD8.ext hE); (try replace hD9 := hD9.ext hE); (try replace hS12 := hS12.ext hE); replace hX := hX.trans hE
       clear hE
       simp only [val_trim] at hD8 ⊢
       simp only [ev,zD,zE,zF,zG]
       refine n_nil ?_
       refine ⟨trivial, ?_⟩
       refine t_one (by simp only [zS,zT,zU,zV]; rfl) ?_
       have hl8 : (digs 65536 (val 65536 (m :: rs) * val 65536 (m :: rs))).length ≤ 2 * (rs.length + 1) := sq_len hm16 hrd
       have hO7 := Owns.full (base := g4) (n := 2 * i) hB4 (Nat.le_refl _) (by simp) (by omega)
       refine n_appendS rfl Tryz.underlying22 inf_3 rfl (by decide) rfl hO7 rfl (news := (digs 65536 (val 65536 (m :: rs) * val 65536 (m :: rs))).map i64v) (by simp) hD8.rows (fun u hu => by obtain ⟨x, _, rfl⟩ := List.mem_map.1 hu; rfl) (by omega) (by omega) (Nat.le_of_lt hB4.lt) ?_
       intro v6 w9 hO hGr _
       replace hX := hX.grown hGr hG4
       replace hB2 := hB2.grew hGr hL4_2
       replace hD4 := (hD4.grew hGr hb12).here
       replace hD5 := (hD5.grew hGr hb12).here
       clear hB4 hO7
       obtain ⟨A9, c9, rfl, hD9, _⟩ := DigAt.of_owns (xs := List.replicate (2 * i) 0 ++ digs 65536 (val 65536 (m :: rs) * val 65536 (m :: rs))) (by rw [List.map_append, ← replicate_i64]; exact hO) (by simp) (fun x hx => by rcases List.mem_append.1 hx with h | h; rw [List.eq_of_mem_replicate h]; decide; exact digs_digs16 _ x h) (by omega)
       simp only [ev,zD,zE,zF,zG]
       refine n_nil ?_
       refine ⟨trivial, ?_⟩
       refine t_take (by simp only [zS,zT,zU,zV]; rfl) (h_val (r_assign) ?_)
       simp only [ev,zD,zE,zF,zG]
       refine h_nil ?_
       refine t_nil ?_
       refine hK18 _ _ ?_
       refine c_seq (fun K20 hK20 => wp_region_lit (n_val (r_move) ?_))
       simp only [ev,zD,zE,zF,zG]
       refine n_call rfl rfl (trim_c _ hD9) ?_
       rintro v w11 hE rfl
       replace hB2 := hB2.ext hE; (try replace hD4 := hD4.ext hE); (try replace hD5 := hD5.ext hE); (try replace hD6 := hD6.ext hE); (try replace hD8 := hD8.ext hE); (try replace hD9 := hD9.ext hE); (try replace hS12 := hS12.ext hE); replace hX := hX.trans hE
       clear hE
       simp only [ev,zD,zE,zF,zG]
       refine n_val (r_move) ?_
       simp only [ev,zD,zE,zF,zG]
       have hT9 := hD9.trimmed
       refine n_call rfl rfl (compare_c _ hT9 hD4 (trimmed_trim _) (trimmed_digs16 _)) ?_
       rintro v w12 hE rfl
       replace hB2 := hB2.ext hE; (try replace hD4 := hD4.ext hE); (try replace hD5 := hD5.ext hE); (try replace hD6 := hD6.ext hE); (try replace hD8 := hD8.ext hE); (try replace hD9 := hD9.ext hE); (try replace hS12 := hS12.ext hE); replace hX := hX.trans hE
       clear hE
       rw [val_trim, val_digs16, r16_test]
       simp only [ev,zD,zE,zF,zG]
       refine n_val (r_leq rfl rfl) ?_
       simp only [ev,zD,zE,zF,zG]
       refine n_nil ?_
       refine hK20 _ _ ?_
       refine c_if rfl (fun hc4 => ?_) (fun hc4 => ?_)
       ·
        have hle4 := ord_le_iff.1 hc4
        refine wp_region_lit (n_val (r_move) (n_val (r_assign) ?_))
        simp only [ev,zD,zE,zF,zG]
        refine n_nil ?_
        simp only [Exit.inBlock,Exit.then]
        refine ⟨high - m, _, ?_, rfl, ?_, ?_⟩
        · omega
        · simp only [zQ,zR,zD,zE,setG_cons,setG_nil,setMany_cons,setMany_nil,zF,zG]
        ·
         simp only [zQ,zR,zD,zE]
         exact ⟨m, high, rfl, hX, hB2, hD4.here, hD5.here, hle4, hhigh, hm2, hl2, rfl⟩
       ·
        have hle4 := Nat.lt_of_not_le fun h => hc4 (ord_le_iff.2 h)
        refine wp_region_lit (n_val (r_move) (n_val (r_assign) ?_))
        simp only [ev,zD,zE,zF,zG]
        refine n_nil ?_
        simp only [Exit.inBlock,Exit.then]
        refine ⟨m - low, _, ?_, rfl, ?_, ?_⟩
        · omega
        · simp only [zQ,zR,zD,zE,setG_cons,setG_nil,setMany_cons,setMany_nil,zF,zG]
        ·
         simp only [zQ,zR,zD,zE]
         exact ⟨low, m, rfl, hX, hB2, hD4.here, hD5.here, hlow, hle4, hm1, by omega, rfl⟩
      ·
       refine n_call rfl rfl (trim_c _ hD6) ?_
       rintro v w8 hE rfl
       replace hB2 := hB2.ext hE; (try replace hD4 := hD4.ext hE); (try replace hD5 := hD5.ext hE); (try replace hD6 := hD6.ext hE); (try replace hD8 := hD8.ext hE); (try replace hD9 := hD9.ext hE); (try replace hS12 := hS12.ext hE); replace hX := hX.trans hE
       clear hE
       simp only [ev,zD,zE,zF,zG]
       refine n_nil ?_
       refine ⟨trivial, ?_⟩
       refine t_two (by simp only [zS,zT,zU,zV]; rfl) (by simp only [zS,zT,zU,zV]; rfl) ?_ ?_
       ·
        refine n_make1 Tryz.underlying22 inf_3 rfl rfl rfl (show _ = 2 * i by omega) (show _ = 2 * i by omega) (by omega) (by omega) (by omega) (by omega) ?_
        intro w9 g4 hE hg4 hB4
        have hb12 := Nat.le_trans hS12.h hg4
        have hG4 := Nat.le_trans hX.size hg4; have hN4_2 : g4 ≠ g2 := Nat.ne_of_gt (Nat.lt_of_lt_of_le hB2.lt hg4); have hL4_2 := Nat.lt_of_lt_of_le hB2.lt hg4
        replace hB2 := hB2.ext hE; (try replace hD4 := hD4.ext hE); (try replace hD5 := hD5.ext hE); (try replace hD6 := hD6.ext hE); (try replace hD8 := hD8.ext hE); (try replace hD9 := hD9.ext hE); (try replace hS12 := hS12.ext hE); replace hX := hX.trans hE
        clear hE
        simp only [ev,zD,zE,zF,zG]
        refine n_nil ?_
        refine ⟨trivial, ?_⟩
        refine t_one (by simp only [zS,zT,zU,zV]; rfl) ?_
        have hl6 := length_trim_le (m :: rs)
        simp only [List.length_cons] at hl6
        refine n_call rfl rfl (times_c _ hD6.trimmed hD6.trimmed (by omega) (by omega)) ?_
        rintro v w10 hE ⟨⟨A8, c8, rfl, hD8⟩, _⟩
        replace hB2 := hB2.ext hE; replace hB4 := hB4.ext hE; (try replace hD4 := hD4.ext hE); (try replace hD5 := hD5.ext hE); (try replace hD6 := hD6.ext hE); (try replace hD8 := hD8.ext hE); (try replace hD9 := hD9.ext hE); (try replace hS12 := hS12.ext hE); replace hX := hX.trans hE
        clear hE
        simp only [val_trim] at hD8 ⊢
        simp only [ev,zD,zE,zF,zG]
        refine n_nil ?_
        refine ⟨trivial, ?_⟩
        refine t_one (by simp only [zS,zT,zU,zV]; rfl) ?_
        have hl8 : (digs 65536 (val 65536 (m :: rs) * val 65536 (m :: rs))).length ≤ 2 * (rs.length + 1) := sq_len hm16 hrd
        have hO7 := Owns.full (base := g4) (n := 2 * i) hB4 (Nat.le_refl _) (by simp) (by omega)
        refine n_appendS rfl Tryz.underlying22 inf_3 rfl (by decide) rfl hO7 rfl (news := (digs 65536 (val 65536 (m :: rs) * val 65536 (m :: rs))).map i64v) (by simp) hD8.rows (fun u hu => by obtain ⟨x, _, rfl⟩ := List.mem_map.1 hu; rfl) (by omega) (by omega) (Nat.le_of_lt hB4.lt) ?_
        intro v6 w9 hO hGr _
        replace hX := hX.grown hGr hG4
        replace hB2 := hB2.grew hGr hL4_2
        replace hD4 := (hD4.grew hGr hb12).here
        replace hD5 := (hD5.grew hGr hb12).here
        clear hB4 hO7
        obtain ⟨A9, c9, rfl, hD9, _⟩ := DigAt.of_owns (xs := List.replicate (2 * i) 0 ++ digs 65536 (val 65536 (m :: rs) * val 65536 (m :: rs))) (by rw [List.map_append, ← replicate_i64]; exact hO) (by simp) (fun x hx => by rcases List.mem_append.1 hx with h | h; rw [List.eq_of_mem_replicate h]; decide; exact digs_digs16 _ x h) (by omega)
        simp only [ev,zD,zE,zF,zG]
        refine n_nil ?_
        refine ⟨trivial, ?_⟩
        refine t_take (by simp only [zS,zT,zU,zV]; rfl) (h_val (r_assign) ?_)
        simp only [ev,zD,zE,zF,zG]
        refine h_nil ?_
        refine t_nil ?_
        refine hK18 _ _ ?_
        refine c_seq (fun K21 hK21 => wp_region_lit (n_val (r_move) ?_))
        simp only [ev,zD,zE,zF,zG]
        refine n_call rfl rfl (trim_c _ hD9) ?_
        rintro v w11 hE rfl
        replace hB2 := hB2.ext hE; (try replace hD4 := hD4.ext hE); (try replace hD5 := hD5.ext hE); (try replace hD6 := hD6.ext hE); (try replace hD8 := hD8.ext hE); (try replace hD9 := hD9.ext hE); (try replace hS12 := hS12.ext hE); replace hX := hX.trans hE
        clear hE
        simp only [ev,zD,zE,zF,zG]
        refine n_val (r_move) ?_
        simp only [ev,zD,zE,zF,zG]
        have hT9 := hD9.trimmed
        refine n_call rfl rfl (compare_c _ hT9 hD4 (trimmed_trim _) (trimmed_digs16 _)) ?_
        rintro v w12 hE rfl
        replace hB2 := hB2.ext hE; (try replace hD4 := hD4.ext hE); (try replace hD5 := hD5.ext hE); (try replace hD6 := hD6.ext hE); (try replace hD8 := hD8.ext hE); (try replace hD9 := hD9.ext hE); (try replace hS12 := hS12.ext hE); replace hX := hX.trans hE
        clear hE
        rw [val_trim, val_digs16, r16_test]
        simp only [ev,zD,zE,zF,zG]
        refine n_val (r_leq rfl rfl) ?_
        simp only [ev,zD,zE,zF,zG]
        refine n_nil ?_
        refine hK21 _ _ ?_
        refine c_if rfl (fun hc4 => ?_) (fun hc4 => ?_)
        ·
         have hle4 := ord_le_iff.1 hc4
         refine wp_region_lit (n_val (r_move) (n_val (r_assign) ?_))
         simp only [ev,zD,zE,zF,zG]
         refine n_nil ?_
         simp only [Exit.inBlock,Exit.then]
         refine ⟨high - m, _, ?_, rfl, ?_, ?_⟩
         · omega
         · simp only [zQ,zR,zD,zE,setG_cons,setG_nil,setMany_cons,setMany_nil,zF,zG]
         ·
          simp only [zQ,zR,zD,zE]
          exact ⟨m, high, rfl, hX, hB2, hD4.here, hD5.here, hle4, hhigh, hm2, hl2, rfl⟩
        ·
         have hle4 := Nat.lt_of_not_le fun h => hc4 (ord_le_iff.2 h)
         refine wp_region_lit (n_val (r_move) (n_val (r_assign) ?_))
         simp only [ev,zD,zE,zF,zG]
         refine n_nil ?_
         simp only [Exit.inBlock,Exit.then]
         refine ⟨m - low, _, ?_, rfl, ?_, ?_⟩
         · omega
         · simp only [zQ,zR,zD,zE,setG_cons,setG_nil,setMany_cons,setMany_nil,zF,zG]
         ·
          simp only [zQ,zR,zD,zE]
          exact ⟨low, m, rfl, hX, hB2, hD4.here, hD5.here, hlow, hle4, hm1, by omega, rfl⟩
       ·
        have hl6 := length_trim_le (m :: rs)
        simp only [List.length_cons] at hl6
        refine n_call rfl rfl (times_c _ hD6.trimmed hD6.trimmed (by omega) (by omega)) ?_
        rintro v w9 hE ⟨⟨A8, c8, rfl, hD8⟩, _⟩
        replace hB2 := hB2.ext hE; (try replace hD4 := hD4.ext hE); (try replace hD5 := hD5.ext hE); (try replace hD6 := hD6.ext hE); (try replace hD8 := hD8.ext hE); (try replace hD9 := hD9.ext hE); (try replace hS12 := hS12.ext hE); replace hX := hX.trans hE
        clear hE
        simp only [val_trim] at hD8 ⊢
        simp only [ev,zD,zE,zF,zG]
        refine n_nil ?_
        refine ⟨trivial, ?_⟩
        refine t_one (by simp only [zS,zT,zU,zV]; rfl) ?_
        refine n_make1 Tryz.underlying22 inf_3 rfl rfl rfl (show _ = 2 * i by omega) (show _ = 2 * i by omega) (by omega) (by omega) (by omega) (by omega) ?_
        intro w10 g4 hE hg4 hB4
        have hb12 := Nat.le_trans hS12.h hg4
        have hG4 := Nat.le_trans hX.size hg4; have hN4_2 : g4 ≠ g2 := Nat.ne_of_gt (Nat.lt_of_lt_of_le hB2.lt hg4); have hL4_2 := Nat.lt_of_lt_of_le hB2.lt hg4
        replace hB2 := hB2.ext hE; (try replace hD4 := hD4.ext hE); (try replace hD5 := hD5.ext hE); (try replace hD6 := hD6.ext hE); (try replace hD8 := hD8.ext hE); (try replace hD9 := hD9.ext hE); (try replace hS12 := hS12.ext hE); replace hX := hX.trans hE
        clear hE
        simp only [ev,zD,zE,zF,zG]
        refine n_nil ?_
        refine ⟨trivial, ?_⟩
        refine t_one (by simp only [zS,zT,zU,zV]; rfl) ?_
        have hl8 : (digs 65536 (val 65536 (m :: rs) * val 65536 (m :: rs))).length ≤ 2 * (rs.length + 1) := sq_len hm16 hrd
        have hO7 := Owns.full (base := g4) (n := 2 * i) hB4 (Nat.le_refl _) (by simp) (by omega)
        refine n_appendS rfl Tryz.underlying22 inf_3 rfl (by decide) rfl hO7 rfl (news := (digs 65536 (val 65536 (m :: rs) * val 65536 (m :: rs))).map i64v) (by simp) hD8.rows (fun u hu => by obtain ⟨x, _, rfl⟩ := List.mem_map.1 hu; rfl) (by omega) (by omega) (Nat.le_of_lt hB4.lt) ?_
        intro v6 w9 hO hGr _
        replace hX := hX.grown hGr hG4
        replace hB2 := hB2.grew hGr hL4_2
        replace hD4 := (hD4.grew hGr hb12).here
        replace hD5 := (hD5.grew hGr hb12).here
        clear hB4 hO7
        obtain ⟨A9, c9, rfl, hD9, _⟩ := DigAt.of_owns (xs := List.replicate (2 * i) 0 ++ digs 65536 (val 65536 (m :: rs) * val 65536 (m :: rs))) (by rw [List.map_append, ← replicate_i64]; exact hO) (by simp) (fun x hx => by rcases List.mem_append.1 hx with h | h; rw [List.eq_of_mem_replicate h]; decide; exact digs_digs16 _ x h) (by omega)
        simp only [ev,zD,zE,zF,zG]
        refine n_nil ?_
        refine ⟨trivial, ?_⟩
        refine t_take (by simp only [zS,zT,zU,zV]; rfl) (h_val (r_assign) ?_)
        simp only [ev,zD,zE,zF,zG]
        refine h_nil ?_
        refine t_nil ?_
        refine hK18 _ _ ?_
        refine c_seq (fun K22 hK22 => wp_region_lit (n_val (r_move) ?_))
        simp only [ev,zD,zE,zF,zG]
        refine n_call rfl rfl (trim_c _ hD9) ?_
        rintro v w11 hE rfl
        replace hB2 := hB2.ext hE; (try replace hD4 := hD4.ext hE); (try replace hD5 := hD5.ext hE); (try replace hD6 := hD6.ext hE); (try replace hD8 := hD8.ext hE); (try replace hD9 := hD9.ext hE); (try replace hS12 := hS12.ext hE); replace hX := hX.trans hE
        clear hE
        simp only [ev,zD,zE,zF,zG]
        refine n_val (r_move) ?_
        simp only [ev,zD,zE,zF,zG]
        have hT9 := hD9.trimmed
        refine n_call rfl rfl (compare_c _ hT9 hD4 (trimmed_trim _) (trimmed_digs16 _)) ?_
        rintro v w12 hE rfl
        replace hB2 := hB2.ext hE; (try replace hD4 := hD4.ext hE); (try replace hD5 := hD5.ext hE); (try replace hD6 := hD6.ext hE); (try replace hD8 := hD8.ext hE); (try replace hD9 := hD9.ext hE); (try replace hS12 := hS12.ext hE); replace hX := hX.trans hE
        clear hE
        rw [val_trim, val_digs16, r16_test]
        simp only [ev,zD,zE,zF,zG]
        refine n_val (r_leq rfl rfl) ?_
        simp only [ev,zD,zE,zF,zG]
        refine n_nil ?_
        refine hK22 _ _ ?_
        refine c_if rfl (fun hc4 => ?_) (fun hc4 => ?_)
        ·
         have hle4 := ord_le_iff.1 hc4
         refine wp_region_lit (n_val (r_move) (n_val (r_assign) ?_))
         simp only [ev,zD,zE,zF,zG]
         refine n_nil ?_
         simp only [Exit.inBlock,Exit.then]
         refine ⟨high - m, _, ?_, rfl, ?_, ?_⟩
         · omega
         · simp only [zQ,zR,zD,zE,setG_cons,setG_nil,setMany_cons,setMany_nil,zF,zG]
         ·
          simp only [zQ,zR,zD,zE]
          exact ⟨m, high, rfl, hX, hB2, hD4.here, hD5.here, hle4, hhigh, hm2, hl2, rfl⟩
        ·
         have hle4 := Nat.lt_of_not_le fun h => hc4 (ord_le_iff.2 h)
         refine wp_region_lit (n_val (r_move) (n_val (r_assign) ?_))
         simp only [ev,zD,zE,zF,zG]
         refine n_nil ?_
         simp only [Exit.inBlock,Exit.then]
         refine ⟨m - low, _, ?_, rfl, ?_, ?_⟩
         · omega
         · simp only [zQ,zR,zD,zE,setG_cons,setG_nil,setMany_cons,setMany_nil,zF,zG]
         ·
          simp only [zQ,zR,zD,zE]
          exact ⟨low, m, rfl, hX, hB2, hD4.here, hD5.here, hlow, hle4, hm1, by omega, rfl⟩
    ·
     refine wp_exit ?_
     refine hK13 _ _ ?_
     obtain ⟨b12, hS12, hD4, hD5⟩ := two_base hD4 hD5
     refine wp_region_lit (n_val (r_move) ?_)
     simp only [ev,zD,zE,zF,zG]
     refine n_build1 Tryz.underlying22 (z := .int .i64 0) (by kernel_rfl) rfl (by simp only [ev,zD,zE,zF,zG]; rfl) (by rfl) ?_
     intro w5 g3 hE hg3 hB3
     have hb12 := Nat.le_trans hS12.h hg3
     have hG3 := Nat.le_trans hX.size hg3; have hN3_2 : g3 ≠ g2 := Nat.ne_of_gt (Nat.lt_of_lt_of_le hB2.lt hg3); have hL3_2 := Nat.lt_of_lt_of_le hB2.lt hg3
     replace hB2 := hB2.ext hE; (try replace hD4 := hD4.ext hE); (try replace hD5 := hD5.ext hE); (try replace hD6 := hD6.ext hE); (try replace hD8 := hD8.ext hE); (try replace hD9 := hD9.ext hE); (try replace hS12 := hS12.ext hE); replace hX := hX.trans hE
     clear hE
     simp only [ev,zD,zE,zF,zG]
     refine n_val (r_move) ?_
     simp only [ev,zD,zE,zF,zG]
     have hO6 := Owns.full (base := g3) (n := 1) hB3 (Nat.le_refl _) rfl (by omega)
     refine n_appendS rfl Tryz.underlying22 inf_3 rfl (by decide) rfl hO6 rfl (news := rs.map i64v) (by simp) hD5.rows (fun u hu => by obtain ⟨x, _, rfl⟩ := List.mem_map.1 hu; rfl) (by omega) (by omega) (Nat.le_of_lt hB3.lt) ?_
     intro v6 w9 hO hGr _
     replace hX := hX.grown hGr hG3
     replace hB2 := hB2.grew hGr hL3_2
     replace hD4 := (hD4.grew hGr hb12).here
     replace hD5 := (hD5.grew hGr hb12).here
     clear hB3 hO6
     obtain ⟨A6, c6, rfl, hD6, _⟩ := DigAt.of_owns (xs := low :: rs) (by simpa [Nat.add_comm] using hO) (by first | simp; done | (simp only [List.length_cons]; omega)) (digs_cons (by omega) hrd) (by omega)
     simp only [ev,zD,zE,zF,zG]
     refine n_val (r_assign) ?_
     simp only [ev,zD,zE,zF,zG]
     refine n_nil ?_
     refine hK10 _ _ ?_
     refine wp_region_lit (n_val (r_move) (n_val (r_sub rfl rfl (wrap_i64 (by omega) (by omega))) (n_val (r_assign) ?_)))
     simp only [ev,zD,zE,zF,zG]
     refine n_nil ?_
     simp only [Exit.inBlock,Exit.then]
     refine ⟨i, _, ?_, rfl, ?_, ?_⟩
     · omega
     · simp only [zQ,zR,zD,zE,setG_cons,setG_nil,setMany_cons,setMany_nil,zF,zG]
     ·
      simp only [zQ,zR,zD,zE]
      exact ⟨i, low :: rs, A6, c6, rfl, hX, hB2, hD4.here, hD6.here, by simp; omega, digs_cons (by omega) hrd, by rw [val_cons16]; exact hlow, by rw [val_cons16]; exact r16_end hhigh hc3, rfl⟩
  ·
   obtain rfl : k = 0 := by omega
   have hres := r16_done hr1 hr2
   refine wp_exit ?_
   refine hK6 _ _ ?_
   refine c_seq (fun K23 hK23 => wp_region_lit (n_val (r_move) ?_))
   simp only [ev,zD,zE,zF,zG]
   refine n_call rfl rfl (rwide_c _ hD5 (by omega)) ?_
   rintro v w5 hE rfl
   replace hB2 := hB2.ext hE; (try replace hD4 := hD4.ext hE); (try replace hD5 := hD5.ext hE); (try replace hD6 := hD6.ext hE); (try replace hD8 := hD8.ext hE); (try replace hD9 := hD9.ext hE); (try replace hS12 := hS12.ext hE); replace hX := hX.trans hE
   clear hE
   rw [hres, sgn_false]
   simp only [ev,zD,zE,zF,zG]
   refine n_store rfl (by simp only [ev,zD,zE]; rfl) (by exact cells_32) hB2 (by simp) (by simp [Value.oneCell']) ?_
   clear hB2; intro w6 hC hB2
   (try replace hD4 := hD4.chg hC (by first | assumption | rfl)); (try replace hD5 := hD5.chg hC (by first | assumption | rfl)); (try replace hD6 := hD6.chg hC (by first | assumption | rfl)); (try replace hD8 := hD8.chg hC (by first | assumption | rfl)); (try replace hD9 := hD9.chg hC (by first | assumption | rfl)); (try replace hS12 := hS12.chg hC (by first | assumption | rfl)); replace hX := hX.chg hC hG2
   clear hC
   simp only [over,zH,zI,zJ,zK,zL,zM,zN,zO,zP,Nat.reduceAdd] at hB2
   refine n_val (r_assign) ?_
   simp only [ev,zD,zE,zF,zG]
   refine n_nil ?_
   refine hK23 _ _ ?_
   refine wp_ret ?_
   try simp only [Exit.inBlock,Exit.then]
   refine fin2 rfl ⟨_, rfl, (hB2.lies agg_32 cells_32 rfl rfl)⟩ rfl ?_
   try simp only [zD,zE]
   exact ⟨_, rfl, hX, rfl⟩

end Go.Proofs.YtmcgcnpgkkfkoaaGreatDoor
namespace Go.Proofs.YtmcgcnpgkkfkoaaGreatDoor
open Go.RowKit Go.Lith
set_option maxRecDepth 100000
attribute [local irreducible] wpList wpQuiet wpMix Code.wp
set_option maxHeartbeats 400000 in
theorem trimLeftByte_c {l : List UInt8} (hl : l.length ≤ 1000000000000000) : Pure Tryz.prog 155 [.string (strOf l), .int .u8 0] (.string (strOf (strip l))) := by
 intro w
 refine ⟨en_155, ?_⟩
 have hX := Ext.refl w
 go_enter Tryz.func155, Tryz.ntmps155
 refine c_seq (fun K1 hK1 => wp_region_lit (n_val (r_assign) ?_))
 simp only [ev,zD,zE,zF,zG]
 refine n_nil ?_
 refine hK1 _ _ ?_
 refine c_seq (fun K2 hK2 => wp_block ?_)
 refine c_loopg [0] [5, 6, 7, 8, 9, 10, 11, 12, 13, 14, 15] (fun n vs wl => ∃ (k : List UInt8), vs = [.string (strOf k)] ∧ (Ext w wl) ∧ (strip k = strip l) ∧ (k.length ≤ 1000000000000000) ∧ (n = k.length)) ?_ ?_
 ·
  apply Exists.intro
  simp only [zQ,zR,zD,zE]
  exact ⟨l, rfl, hX, rfl, hl, rfl⟩
 ·
  intro n vs wr hI u
  obtain ⟨k, rfl, hX, hk, hl, hn⟩ := hI
  have hsz := strOf_size k
  simp only [setG_cons,setG_nil,setMany_cons,setMany_nil,zF,zG]
  refine c_seq (fun K3 hK3 => c_seq (fun K4 hK4 => ?_))
  by_cases hk0 : 0 < k.length
  ·
   obtain ⟨b, hb⟩ : ∃ b, k[0]? = some b := ⟨k[0], List.getElem?_eq_getElem hk0⟩
   refine wp_region_lit (n_val (r_move) (n_val (r_lenStr rfl Tryz.underlying9 rfl) (n_val (r_gtrT rfl rfl (by omega)) ?_)))
   simp only [ev,zD,zE,zF,zG]
   refine n_val (r_move) ?_
   simp only [ev,zD,zE,zF,zG]
   refine n_want rfl (n_val (r_move) ?_)
   simp only [ev,zD,zE,zF,zG]
   refine n_want rfl ?_
   refine n_val ((r_indexStr Tryz.underlying9 rfl rfl (by omega) (by rw [strOf_get]; exact hb))) ?_
   simp only [ev,zD,zE,zF,zG]
   refine n_want rfl (n_val (r_move) ?_)
   simp only [ev,zD,zE,zF,zG]
   refine n_want rfl (n_val (r_eql rfl rfl) (n_val (r_pickT rfl) ?_))
   simp only [ev,zD,zE,zF,zG]
   refine n_nil ?_
   refine hK4 _ _ ?_
   refine c_if rfl (fun hc1 => ?_) (fun hc1 => ?_)
   ·
    refine wp_skip ?_
    refine hK3 _ _ ?_
    refine wp_block (wp_region_lit (n_val (r_move) (n_val (r_substr Tryz.underlying9 rfl rfl (by omega) (by omega)) (n_val (r_assign) ?_))))
    simp only [ev,zD,zE,zF,zG]
    refine n_nil ?_
    rw [show (1 : Int).toNat = 1 from rfl, strOf_drop]
    simp only [Exit.inBlock,Exit.then]
    refine ⟨(k.drop 1).length, _, ?_, rfl, ?_, ?_⟩
    · rw [List.length_drop]; omega
    · simp only [zQ,zR,zD,zE,setG_cons,setG_nil,setMany_cons,setMany_nil,zF,zG]
    ·
     simp only [zQ,zR,zD,zE]
     exact ⟨k.drop 1, rfl, hX, by rw [strip_zero hb (by omega)]; exact hk, by rw [List.length_drop]; omega, rfl⟩
   ·
    refine wp_exit ?_
    refine hK2 _ _ ?_
    refine c_seq (fun K5 hK5 => wp_region_lit (n_val (r_move) (n_val (r_assign) ?_)))
    simp only [ev,zD,zE,zF,zG]
    refine n_nil ?_
    refine hK5 _ _ ?_
    refine wp_ret ?_
    try simp only [Exit.inBlock,Exit.then]
    refine fin1 rfl rfl ?_
    try simp only [zD,zE]
    exact ⟨_, rfl, hX, by rw [← hk, strip_done hb (by omega)]⟩
  ·
   obtain rfl : k = [] := List.eq_nil_of_length_eq_zero (by omega)
   refine wp_region_lit (n_val (r_move) (n_val (r_lenStr rfl Tryz.underlying9 rfl) (n_val (r_gtrF rfl rfl (by omega)) ?_)))
   simp only [ev,zD,zE,zF,zG]
   refine n_val (r_move) ?_
   simp only [ev,zD,zE,zF,zG]
   refine n_skipT rfl ?_
   simp only [ev,zD,zE,zF,zG]
   refine n_skipT rfl ?_
   simp only [ev,zD,zE,zF,zG]
   refine n_skipT rfl ?_
   simp only [ev,zD,zE,zF,zG]
   refine n_skipT rfl ?_
   simp only [ev,zD,zE,zF,zG]
   refine n_val (r_pickF rfl) ?_
   simp only [ev,zD,zE,zF,zG]
   refine n_nil ?_
   refine hK4 _ _ ?_
   refine c_no rfl (wp_exit ?_)
   refine hK2 _ _ ?_
   refine c_seq (fun K6 hK6 => wp_region_lit (n_val (r_move) (n_val (r_assign) ?_)))
   simp only [ev,zD,zE,zF,zG]
   refine n_nil ?_
   refine hK6 _ _ ?_
   refine wp_ret ?_
   try simp only [Exit.inBlock,Exit.then]
   refine fin1 rfl rfl ?_
   try simp only [zD,zE]
   exact ⟨_, rfl, hX, by rw [← hk, strip_nil]⟩

set_option maxHeartbeats 400000 in
theorem trimLeft_c {l : List UInt8} (hl : l.length ≤ 1000000000000000) : Pure Tryz.prog 118 [.string (strOf l), .string ⟨#[0]⟩] (.string (strOf (strip l))) := by
 intro w
 refine ⟨en_118, ?_⟩
 have hX := Ext.refl w
 have hsz := strOf_size l
 go_enter Tryz.func118, Tryz.ntmps118
 refine c_seq (fun K1 hK1 => wp_region_lit (n_val (r_assign) ?_))
 simp only [ev,zD,zE,zF,zG]
 refine n_nil ?_
 refine hK1 _ _ ?_
 refine c_seq (fun K2 hK2 => c_seq (fun K3 hK3 => ?_))
 by_cases hk0 : l = []
 ·
  subst hk0
  refine wp_region_lit (n_val (r_move) (n_val (r_as (r_eqlS Tryz.underlying9 rfl rfl) (show _ = Value.bool true by simp [strOf])) (n_val (r_move) ?_)))
  simp only [ev,zD,zE,zF,zG]
  refine n_skipF rfl ?_
  simp only [ev,zD,zE,zF,zG]
  refine n_skipF rfl ?_
  simp only [ev,zD,zE,zF,zG]
  refine n_val (r_pickT rfl) ?_
  simp only [ev,zD,zE,zF,zG]
  refine n_nil ?_
  refine hK3 _ _ ?_
  refine c_yes rfl (c_seq (fun K4 hK4 => wp_region_lit (n_val (r_move) (n_val (r_assign) ?_))))
  simp only [ev,zD,zE,zF,zG]
  refine n_nil ?_
  refine hK4 _ _ ?_
  refine wp_ret ?_
  try simp only [Exit.inBlock,Exit.then]
  refine fin1 rfl rfl ?_
  try simp only [zD,zE]
  exact ⟨_, rfl, hX, rfl⟩
 ·
  refine wp_region_lit (n_val (r_move) (n_val (r_as (r_eqlS Tryz.underlying9 rfl rfl) (show _ = Value.bool false by simp only [strOf_empty,hk0,decide_false])) (n_val (r_move) ?_)))
  simp only [ev,zD,zE,zF,zG]
  refine n_want rfl (n_val (r_move) ?_)
  simp only [ev,zD,zE,zF,zG]
  refine n_want rfl (n_val (r_as (r_eqlS Tryz.underlying9 rfl rfl) (show _ = Value.bool false by simp)) (n_val (r_pickF rfl) ?_))
  simp only [ev,zD,zE,zF,zG]
  refine n_nil ?_
  refine hK3 _ _ ?_
  refine c_no rfl (wp_skip ?_)
  refine hK2 _ _ ?_
  refine c_seq (fun K5 hK5 => c_seq (fun K6 hK6 => wp_region_lit (n_val (r_move) (n_val (r_lenStr rfl Tryz.underlying9 rfl) (n_val (r_eqlT rfl rfl rfl) ?_)))))
  simp only [ev,zD,zE,zF,zG]
  refine n_val (r_move) ?_
  simp only [ev,zD,zE,zF,zG]
  refine n_want rfl (n_val (r_move) ?_)
  simp only [ev,zD,zE,zF,zG]
  refine n_want rfl ?_
  refine n_val ((r_indexStr (b := 0) Tryz.underlying9 rfl rfl (by omega) rfl)) ?_
  simp only [ev,zD,zE,zF,zG]
  refine n_want rfl (n_val (r_lssT rfl rfl (by decide)) (n_val (r_pickT rfl) ?_))
  simp only [ev,zD,zE,zF,zG]
  refine n_nil ?_
  refine hK6 _ _ ?_
  refine c_yes rfl (c_seq (fun K7 hK7 => wp_region_lit (n_val (r_move) (n_val (r_move) ?_))))
  simp only [ev,zD,zE,zF,zG]
  refine n_val ((r_indexStr (b := 0) Tryz.underlying9 rfl rfl (by omega) rfl)) ?_
  simp only [ev,zD,zE,zF,zG]
  refine n_callP rfl rfl (trimLeftByte_c hl) ?_
  intro w1 hE
  replace hX := hX.trans hE
  clear hE
  simp only [ev,zD,zE,zF,zG]
  refine n_val (r_assign) ?_
  simp only [ev,zD,zE,zF,zG]
  refine n_nil ?_
  refine hK7 _ _ ?_
  refine wp_ret ?_
  try simp only [Exit.inBlock,Exit.then]
  refine fin1 rfl rfl ?_
  try simp only [zD,zE]
  exact ⟨_, rfl, hX, rfl⟩

end Go.Proofs.YtmcgcnpgkkfkoaaGreatDoor
namespace Go.Proofs.YtmcgcnpgkkfkoaaGreatDoor
open Go.RowKit Go.Lith
set_option maxRecDepth 100000
attribute [local irreducible] wpList wpQuiet wpMix Code.wp
set_option maxHeartbeats 400000 in
theorem norm_c {A : Option Addr} {xs : List Nat} {na cap : Nat} (w : World) (hS : NatAt w A na cap xs) : Does Tryz.prog 116 [.slice A na cap] w (fun v _ => v = .slice A (trim xs).length cap) := by
 skip
 refine ⟨en_116, ?_⟩
 have hX := Ext.refl w
 obtain rfl := hS.eq
 have hl := hS.len
 have hle := hS.le
 go_enter Tryz.func116, Tryz.ntmps116
 refine c_seq (fun K1 hK1 => wp_region_lit (n_val (r_assign) ?_))
 simp only [ev,zD,zE,zF,zG]
 refine n_nil ?_
 refine hK1 _ _ ?_
 refine c_seq (fun K2 hK2 => wp_block ?_)
 refine c_loopg [0] [3, 4, 5, 6, 7, 8, 9, 10, 11, 12, 13, 14, 15, 16, 17, 18, 19] (fun n vs wl => ∃ (k : Nat), vs = [.slice A k cap] ∧ (Ext w wl) ∧ (k ≤ xs.length) ∧ (trim (xs.take k) = trim xs) ∧ (n = k)) ?_ ?_
 ·
  apply Exists.intro
  simp only [zQ,zR,zD,zE]
  exact ⟨xs.length, rfl, hX, Nat.le_refl _, by rw [List.take_length], rfl⟩
 ·
  intro n vs wr hI u
  obtain ⟨k, rfl, hX, hk, ht, hn⟩ := hI
  simp only [setG_cons,setG_nil,setMany_cons,setMany_nil,zF,zG]
  refine c_seq (fun K3 hK3 => c_seq (fun K4 hK4 => ?_))
  by_cases hk0 : 0 < k
  ·
   obtain ⟨a, rfl, hcell, hlt⟩ := (hS.ext hX).get (show k - 1 < xs.length by omega)
   refine wp_region_lit (n_val (r_move) (n_val (r_lenS rfl Tryz.underlying83 rfl) (n_val (r_gtrT rfl rfl (by omega)) ?_)))
   simp only [ev,zD,zE,zF,zG]
   refine n_val (r_move) ?_
   simp only [ev,zD,zE,zF,zG]
   refine n_want rfl (n_val (r_move) ?_)
   simp only [ev,zD,zE,zF,zG]
   refine n_want rfl (n_val (r_move) ?_)
   simp only [ev,zD,zE,zF,zG]
   refine n_want rfl (n_val (r_lenS rfl Tryz.underlying83 rfl) ?_)
   simp only [ev,zD,zE,zF,zG]
   refine n_want rfl (n_val (r_sub rfl rfl (wrap_i64 (by omega) (by omega))) ?_)
   simp only [ev,zD,zE,zF,zG]
   refine n_want rfl (n_val (r_indexAddrS Tryz.underlying83 cells_88 rfl rfl (by omega) (by omega) (addr1 (show _ = k - 1 by omega))) ?_)
   simp only [ev,zD,zE,zF,zG]
   refine n_want rfl ?_
   refine n_load rfl (lies1 hcell agg_88) ?_
   simp only [ev,zD,zE,zF,zG]
   refine n_want rfl (n_val (r_eql rfl rfl) (n_val (r_pickT rfl) ?_))
   simp only [ev,zD,zE,zF,zG]
   refine n_nil ?_
   refine hK4 _ _ ?_
   refine c_if rfl (fun hc1 => ?_) (fun hc1 => ?_)
   ·
    refine wp_skip ?_
    refine hK3 _ _ ?_
    refine wp_block (wp_region_lit (n_val (r_move) (n_val (r_move) (n_val (r_lenS rfl Tryz.underlying83 rfl) ?_))))
    simp only [ev,zD,zE,zF,zG]
    refine n_val (r_sub rfl rfl (wrap_i64 (by omega) (by omega))) (n_val (r_sliceHi Tryz.underlying83 cells_88 rfl rfl (show _ = k - 1 by omega) (by omega) (by omega)) (n_val (r_assign) ?_))
    simp only [ev,zD,zE,zF,zG]
    refine n_nil ?_
    simp only [Exit.inBlock,Exit.then]
    refine ⟨k - 1, _, ?_, rfl, ?_, ?_⟩
    · omega
    · simp only [zQ,zR,zD,zE,setG_cons,setG_nil,setMany_cons,setMany_nil,zF,zG]
    ·
     simp only [zQ,zR,zD,zE]
     exact ⟨k - 1, rfl, hX, by omega, norm_zero hk0 (by omega) hc1 ht, rfl⟩
   ·
    refine wp_exit ?_
    refine hK2 _ _ ?_
    refine c_seq (fun K5 hK5 => wp_region_lit (n_val (r_move) (n_val (r_assign) ?_)))
    simp only [ev,zD,zE,zF,zG]
    refine n_nil ?_
    refine hK5 _ _ ?_
    refine wp_ret ?_
    try simp only [Exit.inBlock,Exit.then]
    refine fin1 rfl rfl ?_
    try simp only [zD,zE]
    exact ⟨_, rfl, hX, by rw [← norm_pos hk0 (by omega) hc1 ht]⟩
  ·
   obtain rfl : k = 0 := by omega
   refine wp_region_lit (n_val (r_move) (n_val (r_lenS rfl Tryz.underlying83 rfl) (n_val (r_gtrF rfl rfl (by omega)) ?_)))
   simp only [ev,zD,zE,zF,zG]
   refine n_val (r_move) ?_
   simp only [ev,zD,zE,zF,zG]
   refine n_skipT rfl ?_
   simp only [ev,zD,zE,zF,zG]
   refine n_skipT rfl ?_
   simp only [ev,zD,zE,zF,zG]
   refine n_skipT rfl ?_
   simp only [ev,zD,zE,zF,zG]
   refine n_skipT rfl ?_
   simp only [ev,zD,zE,zF,zG]
   refine n_skipT rfl ?_
   simp only [ev,zD,zE,zF,zG]
   refine n_skipT rfl ?_
   simp only [ev,zD,zE,zF,zG]
   refine n_skipT rfl ?_
   simp only [ev,zD,zE,zF,zG]
   refine n_val (r_pickF rfl) ?_
   simp only [ev,zD,zE,zF,zG]
   refine n_nil ?_
   refine hK4 _ _ ?_
   refine c_no rfl (wp_exit ?_)
   refine hK2 _ _ ?_
   refine c_seq (fun K6 hK6 => wp_region_lit (n_val (r_move) (n_val (r_assign) ?_)))
   simp only [ev,zD,zE,zF,zG]
   refine n_nil ?_
   refine hK6 _ _ ?_
   refine wp_ret ?_
   try simp only [Exit.inBlock,Exit.then]
   refine fin1 rfl rfl ?_
   try simp only [zD,zE]
   exact ⟨_, rfl, hX, by rw [← norm_nil ht]⟩

set_option maxHeartbeats 400000 in
theorem cmp_c {A B : Option Addr} {xs ys : List Nat} {na nb ca cb : Nat} (w : World) (hS : NatAt w A na ca xs) (hR : NatAt w B nb cb ys) (tx : Trimmed xs) (ty : Trimmed ys) : Does Tryz.prog 60 [.slice A na ca, .slice B nb cb] w (fun v _ => v = .int .i64 (ord (val 4294967296 xs) (val 4294967296 ys))) := by
 skip
 refine ⟨en_60, ?_⟩
 have hX := Ext.refl w
 obtain rfl := hS.eq
 obtain rfl := hR.eq
 have hl := hS.len
 have hl2 := hR.len
 go_enter Tryz.func60, Tryz.ntmps60
 refine c_seq (fun K1 hK1 => wp_region_lit (n_val (r_assign) ?_))
 simp only [ev,zD,zE,zF,zG]
 refine n_nil ?_
 refine hK1 _ _ ?_
 refine c_seq (fun K2 hK2 => wp_block (c_seq (fun K3 hK3 => wp_region_lit (n_val (r_move) (n_val (r_lenS rfl Tryz.underlying83 rfl) (n_val (r_move) ?_))))))
 simp only [ev,zD,zE,zF,zG]
 refine n_val (r_lenS rfl Tryz.underlying83 rfl) (n_val (r_lss rfl rfl) (n_val (r_assign) ?_))
 simp only [ev,zD,zE,zF,zG]
 refine n_nil ?_
 refine hK3 _ _ ?_
 refine c_if rfl (fun hc1 => ?_) (fun hc1 => ?_)
 ·
  refine c_seq (fun K4 hK4 => wp_region_lit (n_val (r_assign) ?_))
  simp only [ev,zD,zE,zF,zG]
  refine n_nil ?_
  refine hK4 _ _ ?_
  refine wp_ret ?_
  try simp only [Exit.inBlock,Exit.then]
  refine fin1 rfl rfl ?_
  try simp only [zD,zE]
  exact ⟨_, rfl, hX, by rw [ord, if_pos (val_lt_of_length (by omega) hS.digs hR.digs ty (by omega))]⟩
 ·
  refine c_seq (fun K5 hK5 => wp_region_lit (n_val (r_move) (n_val (r_lenS rfl Tryz.underlying83 rfl) (n_val (r_move) ?_))))
  simp only [ev,zD,zE,zF,zG]
  refine n_val (r_lenS rfl Tryz.underlying83 rfl) (n_val (r_gtr rfl rfl) (n_val (r_assign) ?_))
  simp only [ev,zD,zE,zF,zG]
  refine n_nil ?_
  refine hK5 _ _ ?_
  refine c_if rfl (fun hc2 => ?_) (fun hc2 => ?_)
  ·
   refine c_seq (fun K6 hK6 => wp_region_lit (n_val (r_assign) ?_))
   simp only [ev,zD,zE,zF,zG]
   refine n_nil ?_
   refine hK6 _ _ ?_
   refine wp_ret ?_
   try simp only [Exit.inBlock,Exit.then]
   refine fin1 rfl rfl ?_
   try simp only [zD,zE]
   exact ⟨_, rfl, hX, by have := val_lt_of_length (B := 4294967296) (by omega) hR.digs hS.digs tx (by omega); rw [ord, if_neg (by omega), if_pos this]⟩
  ·
   refine wp_skip ?_
   refine hK2 _ _ ?_
   refine c_seq (fun K7 hK7 => c_seq (fun K8 hK8 => wp_region_lit (n_val (r_move) (n_val (r_lenS rfl Tryz.underlying83 rfl) (n_val (r_sub rfl rfl (wrap_i64 (by omega) (by omega))) ?_)))))
   simp only [ev,zD,zE,zF,zG]
   refine n_val (r_assign) ?_
   simp only [ev,zD,zE,zF,zG]
   refine n_nil ?_
   refine hK8 _ _ ?_
   refine wp_block ?_
   refine c_loopg [5] [4, 21, 22, 23, 24, 25, 26, 27, 28, 29, 30, 31, 32, 33, 34, 35, 36, 37, 38, 39, 40, 41, 42, 43, 44] (fun n vs wl => ∃ (k : Nat), vs = [.int .i64 ((k:Int) - 1)] ∧ (Ext w wl) ∧ (k ≤ xs.length) ∧ (xs.drop k = ys.drop k) ∧ (n = k)) ?_ ?_
   ·
    apply Exists.intro
    simp only [zQ,zR,zD,zE]
    exact ⟨xs.length, rfl, hX, Nat.le_refl _, by rw [List.drop_length, show xs.length = ys.length by omega, List.drop_length], rfl⟩
   ·
    intro n vs wr hI u
    obtain ⟨k, rfl, hX, hk, hd, hn⟩ := hI
    simp only [setG_cons,setG_nil,setMany_cons,setMany_nil,zF,zG]
    refine c_seq (fun K9 hK9 => c_seq (fun K10 hK10 => wp_region_lit (n_val (r_move) (n_val (r_geq rfl rfl) ?_))))
    simp only [ev,zD,zE,zF,zG]
    refine n_nil ?_
    refine hK10 _ _ ?_
    refine c_if rfl (fun hc3 => ?_) (fun hc3 => ?_)
    ·
     refine wp_skip ?_
     refine hK9 _ _ ?_
     refine c_seq (fun K11 hK11 => wp_block (wp_block (c_seq (fun K12 hK12 => ?_))))
     obtain ⟨a, rfl, hca, _⟩ := (hS.ext hX).get (show k - 1 < xs.length by omega)
     obtain ⟨b, rfl, hcb, _⟩ := (hR.ext hX).get (show k - 1 < ys.length by omega)
     refine wp_region_ext follows_mixed (by kernel_rfl) (q_val (r_move) (q_val (r_move) (q_val (r_indexAddrS Tryz.underlying83 cells_88 rfl rfl (by omega) (by omega) (addr1 (show _ = k - 1 by omega))) ?_)))
     simp only [ev,zD,zE,zF,zG]
     refine q_load rfl (fun _ hE' => (lies1 (hE'.cell hca) agg_88)) ?_
     simp only [ev,zD,zE,zF,zG]
     refine q_val (r_move) (q_val (r_move) (q_val (r_indexAddrS Tryz.underlying83 cells_88 rfl rfl (by omega) (by omega) (addr1 (show _ = k - 1 by omega))) ?_))
     simp only [ev,zD,zE,zF,zG]
     refine q_load rfl (fun _ hE' => (lies1 (hE'.cell hcb) agg_88)) ?_
     simp only [ev,zD,zE,zF,zG]
     refine q_val (r_lss rfl rfl) (q_val (r_assign) ?_)
     simp only [ev,zD,zE,zF,zG]
     refine q_nil ?_
     intro w1 hE
     replace hX := hX.trans hE
     clear hE
     refine hK12 _ _ ?_
     refine c_if rfl (fun hc4 => ?_) (fun hc4 => ?_)
     ·
      refine c_seq (fun K13 hK13 => wp_region_lit (n_val (r_assign) ?_))
      simp only [ev,zD,zE,zF,zG]
      refine n_nil ?_
      refine hK13 _ _ ?_
      refine wp_ret ?_
      try simp only [Exit.inBlock,Exit.then]
      refine fin1 rfl rfl ?_
      try simp only [zD,zE]
      exact ⟨_, rfl, hX, by rw [ord, if_pos (cmp_lt hS.digs (by omega) (by omega) (by omega) hd hc4)]⟩
     ·
      refine c_seq (fun K14 hK14 => ?_)
      have hca := (hS.ext hX).at (show k - 1 < xs.length by omega)
      have hcb := (hR.ext hX).at (show k - 1 < ys.length by omega)
      refine wp_region_ext follows_mixed (by kernel_rfl) (q_val (r_move) (q_val (r_move) (q_val (r_indexAddrS Tryz.underlying83 cells_88 rfl rfl (by omega) (by omega) (addr1 (show _ = k - 1 by omega))) ?_)))
      simp only [ev,zD,zE,zF,zG]
      refine q_load rfl (fun _ hE' => (lies1 (hE'.cell hca) agg_88)) ?_
      simp only [ev,zD,zE,zF,zG]
      refine q_val (r_move) (q_val (r_move) (q_val (r_indexAddrS Tryz.underlying83 cells_88 rfl rfl (by omega) (by omega) (addr1 (show _ = k - 1 by omega))) ?_))
      simp only [ev,zD,zE,zF,zG]
      refine q_load rfl (fun _ hE' => (lies1 (hE'.cell hcb) agg_88)) ?_
      simp only [ev,zD,zE,zF,zG]
      refine q_val (r_gtr rfl rfl) (q_val (r_assign) ?_)
      simp only [ev,zD,zE,zF,zG]
      refine q_nil ?_
      intro w2 hE
      replace hX := hX.trans hE
      clear hE
      refine hK14 _ _ ?_
      refine c_if rfl (fun hc5 => ?_) (fun hc5 => ?_)
      ·
       refine c_seq (fun K15 hK15 => wp_region_lit (n_val (r_assign) ?_))
       simp only [ev,zD,zE,zF,zG]
       refine n_nil ?_
       refine hK15 _ _ ?_
       refine wp_ret ?_
       try simp only [Exit.inBlock,Exit.then]
       refine fin1 rfl rfl ?_
       try simp only [zD,zE]
       exact ⟨_, rfl, hX, by have := cmp_lt hR.digs (by omega) (by omega) (by omega) hd.symm hc5; rw [ord, if_neg (by omega), if_pos this]⟩
      ·
       refine wp_skip ?_
       refine hK11 _ _ ?_
       refine wp_region_lit (n_val (r_move) (n_val (r_sub rfl rfl (wrap_i64 (by omega) (by omega))) (n_val (r_assign) ?_)))
       simp only [ev,zD,zE,zF,zG]
       refine n_nil ?_
       rw [show ((k:Int) - 1 - 1) = ((k - 1 : Nat) : Int) - 1 by omega]
       simp only [Exit.inBlock,Exit.then]
       refine ⟨k - 1, _, ?_, rfl, ?_, ?_⟩
       · omega
       · simp only [zQ,zR,zD,zE,setG_cons,setG_nil,setMany_cons,setMany_nil,zF,zG]
       ·
        simp only [zQ,zR,zD,zE]
        exact ⟨k - 1, rfl, hX, by omega, cmp_again (by omega) (by omega) (by omega) hd hc4 hc5, rfl⟩
    ·
     refine wp_exit ?_
     refine hK7 _ _ ?_
     refine c_seq (fun K16 hK16 => wp_region_lit (n_val (r_assign) ?_))
     simp only [ev,zD,zE,zF,zG]
     refine n_nil ?_
     refine hK16 _ _ ?_
     refine wp_ret ?_
     try simp only [Exit.inBlock,Exit.then]
     refine fin1 rfl rfl ?_
     try simp only [zD,zE]
     exact ⟨_, rfl, hX, by have h0 : k = 0 := (by omega); subst h0; simp only [List.drop_zero] at hd; rw [hd, ord, if_neg (by omega), if_neg (by omega)]⟩

set_option maxHeartbeats 400000 in
theorem add_c {A B : Option Addr} {xs ys : List Nat} {na nb ca cb : Nat} (w : World) (hS : NatAt w A na ca xs) (hR : NatAt w B nb cb ys) (hlx : xs.length ≤ 1099511627776) (hly : ys.length ≤ 1099511627776) : Does Tryz.prog 58 [.slice A na ca, .slice B nb cb] w (NatRes (val 4294967296 xs + val 4294967296 ys)) := by
 skip
 refine ⟨en_58, ?_⟩
 have hX := Ext.refl w
 obtain rfl := hS.eq
 obtain rfl := hR.eq
 go_enter Tryz.func58, Tryz.ntmps58
 refine c_seq (fun K1 hK1 => wp_region_lit (n_val (r_assign) ?_))
 simp only [ev,zD,zE,zF,zG]
 refine n_nil ?_
 refine hK1 _ _ ?_
 refine c_seq (fun K2 hK2 => c_seq (fun K3 hK3 => wp_region_lit (n_val (r_move) (n_val (r_lenS rfl Tryz.underlying83 rfl) (n_val (r_move) ?_)))))
 simp only [ev,zD,zE,zF,zG]
 refine n_val (r_lenS rfl Tryz.underlying83 rfl) (n_val (r_lss rfl rfl) ?_)
 simp only [ev,zD,zE,zF,zG]
 refine n_nil ?_
 refine hK3 _ _ ?_
 refine c_if rfl (fun hc1 => ?_) (fun hc1 => ?_)
 ·
  obtain ⟨qb, rfl⟩ : ∃ q, q = xs := ⟨_, rfl⟩
  obtain ⟨qa, rfl⟩ : ∃ q, q = ys := ⟨_, rfl⟩
  obtain ⟨Qb, rfl⟩ : ∃ q, q = A := ⟨_, rfl⟩
  obtain ⟨Qa, rfl⟩ : ∃ q, q = B := ⟨_, rfl⟩
  have hSa := hR
  have hSb := hS
  refine wp_region_lit (n_val (r_move) (n_val (r_move) (n_val (r_assign) ?_)))
  simp only [ev,zD,zE,zF,zG]
  refine n_val (r_assign) ?_
  simp only [ev,zD,zE,zF,zG]
  refine n_nil ?_
  refine hK2 _ _ ?_
  refine c_seq (fun K4 hK4 => wp_region_lit (n_val (r_move) (n_val (r_lenS rfl Tryz.underlying83 rfl) (n_val (r_add rfl rfl (wrap_i64 (by omega) (by omega))) ?_))))
  simp only [ev,zD,zE,zF,zG]
  refine n_make1 Tryz.underlying83 inf_88 rfl rfl rfl (show _ = qa.length + 1 by omega) (show _ = qa.length + 1 by omega) (by omega) (by omega) (by omega) (by omega) ?_
  intro w1 g1 hE hg1 hB1
  have hG1 := Nat.le_trans hX.size hg1
  replace hX := hX.trans hE
  clear hE hg1
  simp only [ev,zD,zE,zF,zG]
  refine n_val (r_assign) ?_
  simp only [ev,zD,zE,zF,zG]
  refine n_nil ?_
  rw [replicate_u64] at hB1
  refine hK4 _ _ ?_
  refine c_seq (fun K5 hK5 => wp_region_lit (n_val (r_assign) ?_))
  simp only [ev,zD,zE,zF,zG]
  refine n_nil ?_
  refine hK5 _ _ ?_
  refine c_seq (fun K6 hK6 => c_seq (fun K7 hK7 => wp_region_lit (n_val (r_move) (n_val (r_lenS rfl Tryz.underlying83 rfl) (n_val (r_move) ?_)))))
  simp only [ev,zD,zE,zF,zG]
  refine n_nil ?_
  refine hK7 _ _ ?_
  refine wp_block ?_
  refine c_loopg [6, 22] [7, 8, 23, 24, 25, 26, 27, 28, 29, 30, 31, 32, 33, 34, 35, 36, 37, 38, 39, 40, 41, 42, 43, 44, 45, 46, 47, 48] (fun n vs wl => ∃ (i c : Nat) (os : List Nat), vs = [.int .u64 (c:Int), .int .i64 (i:Int)] ∧ (Ext w wl) ∧ (Blk wl g1 (os.map u64v) 88) ∧ (i ≤ qa.length) ∧ (os.length = qa.length + 1) ∧ (val 4294967296 os + 4294967296 ^ i * c = val 4294967296 (qa.take i) + val 4294967296 (qb.take i)) ∧ (os.drop i = List.replicate (qa.length + 1 - i) 0) ∧ (Digs 4294967296 os) ∧ (c ≤ 1) ∧ (n = qa.length - i)) ?_ ?_
  ·
   apply Exists.intro
   simp only [zQ,zR,zD,zE]
   exact ⟨0, 0, List.replicate (qa.length + 1) 0, rfl, hX, hB1, by omega, by simp, by simp [val_replicate, val], by simp, fun x hx => by rw [List.eq_of_mem_replicate hx]; decide, by omega, rfl⟩
  ·
   intro n vs wr hI u
   obtain ⟨i, c, os, rfl, hX, hB1, hi, hlo, hv, hz, hd, hc, hn⟩ := hI
   simp only [setG_cons,setG_nil,setMany_cons,setMany_nil,zF,zG]
   refine c_seq (fun K8 hK8 => wp_region_lit (n_val (r_lss rfl rfl) ?_))
   simp only [ev,zD,zE,zF,zG]
   refine n_nil ?_
   refine hK8 _ _ ?_
   refine c_seq (fun K9 hK9 => ?_)
   refine c_if rfl (fun hc2 => ?_) (fun hc2 => ?_)
   ·
    refine wp_skip ?_
    refine hK9 _ _ ?_
    refine c_seq (fun K10 hK10 => wp_block (c_seq (fun K11 hK11 => wp_region_lit (n_val (r_move) (n_val (r_assign) ?_)))))
    simp only [ev,zD,zE,zF,zG]
    refine n_nil ?_
    refine hK11 _ _ ?_
    refine c_seq (fun K12 hK12 => ?_)
    obtain ⟨a, rfl, hca, hla⟩ := (hSa.ext hX).get (show i < qa.length by omega)
    refine wp_region_lit (n_val (r_move) (n_val (r_move) (n_val (r_indexAddrS Tryz.underlying83 cells_88 rfl rfl (by omega) (by omega) (addr1 (Int.toNat_natCast _))) ?_)))
    simp only [ev,zD,zE,zF,zG]
    refine n_load rfl (lies1 hca agg_88) ?_
    simp only [ev,zD,zE,zF,zG]
    refine n_val (r_move) (n_val (r_add rfl rfl (wrap_u64 (by omega) (by omega))) (n_val (r_assign) ?_))
    simp only [ev,zD,zE,zF,zG]
    refine n_nil ?_
    refine hK12 _ _ ?_
    refine c_seq (fun K13 hK13 => c_seq (fun K14 hK14 => wp_region_lit (n_val (r_move) (n_val (r_move) (n_val (r_lenS rfl Tryz.underlying83 rfl) ?_)))))
    simp only [ev,zD,zE,zF,zG]
    refine n_val (r_lss rfl rfl) ?_
    simp only [ev,zD,zE,zF,zG]
    refine n_nil ?_
    refine hK14 _ _ ?_
    refine c_if rfl (fun hc3 => ?_) (fun hc3 => ?_)
    ·
     obtain ⟨b, rfl, hcb, hlb⟩ := (hSb.ext hX).get (show i < qb.length by omega)
     refine wp_region_lit (n_val (r_move) (n_val (r_move) (n_val (r_move) ?_)))
     simp only [ev,zD,zE,zF,zG]
     refine n_val (r_indexAddrS Tryz.underlying83 cells_88 rfl rfl (by omega) (by omega) (addr1 (Int.toNat_natCast _))) ?_
     simp only [ev,zD,zE,zF,zG]
     refine n_load rfl (lies1 hcb agg_88) ?_
     simp only [ev,zD,zE,zF,zG]
     refine n_val (r_add rfl rfl (wrap_u64 (by omega) (by omega))) (n_val (r_assign) ?_)
     simp only [ev,zD,zE,zF,zG]
     refine n_nil ?_
     obtain ⟨s, hs⟩ : ∃ s : Nat, (s : Int) = ↑qa[i] + ↑c + ↑qb[i] := ⟨qa[i] + c + qb[i], by omega⟩
     rw [← hs]
     have hs2 : s = qa[i] + c + qb[i]?.getD 0 := by rw [List.getElem?_eq_getElem (by omega)]; simp; omega
     have hyb : qb[i]?.getD 0 < 4294967296 := by rw [List.getElem?_eq_getElem (by omega)]; exact hlb
     refine hK13 _ _ ?_
     refine wp_region_lit (n_val (r_move) (n_val (r_move) (n_val (r_move) ?_)))
     simp only [ev,zD,zE,zF,zG]
     refine n_val (r_and rfl rfl (and_mask (by omega) (by omega))) (n_val (r_move) (n_val (r_shr rfl rfl (by omega) (shr32 (by omega))) ?_))
     simp only [ev,zD,zE,zF,zG]
     refine n_val (r_indexAddrS Tryz.underlying83 cells_88 rfl rfl (by omega) (by omega) (addrB1 (Int.toNat_natCast _))) ?_
     simp only [ev,zD,zE,zF,zG]
     refine n_store rfl (by simp only [ev,zD,zE]; rfl) (by exact cells_88) hB1 (by simp; omega) (by simp [Value.oneCell']) ?_
     clear hB1; intro w2 hC hB1
     replace hX := hX.chg hC hG1
     clear hC
     rw [show ((s:Int) % 4294967296) = ((s % 4294967296 : Nat) : Int) by omega, over_set (by omega)] at hB1
     refine n_val (r_assign) ?_
     simp only [ev,zD,zE,zF,zG]
     refine n_nil ?_
     refine hK10 _ _ ?_
     refine wp_region_lit (n_val (r_add rfl rfl (wrap_i64 (by omega) (by omega))) (n_val (r_move) ?_))
     simp only [ev,zD,zE,zF,zG]
     refine n_nil ?_
     obtain ⟨r1, r2, r3, r4⟩ := add_round (by omega) hlo hv hz hd hc hs2 hla hyb
     rw [show ((i:Int) + 1) = ((i + 1 : Nat) : Int) by omega, show ((s:Int) / 4294967296) = ((s / 4294967296 : Nat) : Int) by omega]
     simp only [Exit.inBlock,Exit.then]
     refine ⟨qa.length - (i + 1), _, ?_, rfl, ?_, ?_⟩
     · omega
     · simp only [zQ,zR,zD,zE,setG_cons,setG_nil,setMany_cons,setMany_nil,zF,zG]
     ·
      simp only [zQ,zR,zD,zE]
      exact ⟨i + 1, s / 4294967296, os.set i (s % 4294967296), rfl, hX, hB1, by omega, by simpa using hlo, r1, r2, r3, r4, rfl⟩
    ·
     obtain ⟨s, hs⟩ : ∃ s : Nat, (s : Int) = ↑qa[i] + ↑c := ⟨qa[i] + c, by omega⟩
     rw [← hs]
     have hs2 : s = qa[i] + c + qb[i]?.getD 0 := by rw [List.getElem?_eq_none (by omega)]; simp; omega
     have hyb : qb[i]?.getD 0 < 4294967296 := by rw [List.getElem?_eq_none (by omega)]; decide
     refine wp_skip ?_
     refine hK13 _ _ ?_
     refine wp_region_lit (n_val (r_move) (n_val (r_move) (n_val (r_move) ?_)))
     simp only [ev,zD,zE,zF,zG]
     refine n_val (r_and rfl rfl (and_mask (by omega) (by omega))) (n_val (r_move) (n_val (r_shr rfl rfl (by omega) (shr32 (by omega))) ?_))
     simp only [ev,zD,zE,zF,zG]
     refine n_val (r_indexAddrS Tryz.underlying83 cells_88 rfl rfl (by omega) (by omega) (addrB1 (Int.toNat_natCast _))) ?_
     simp only [ev,zD,zE,zF,zG]
     refine n_store rfl (by simp only [ev,zD,zE]; rfl) (by exact cells_88) hB1 (by simp; omega) (by simp [Value.oneCell']) ?_
     clear hB1; intro w2 hC hB1
     replace hX := hX.chg hC hG1
     clear hC
     rw [show ((s:Int) % 4294967296) = ((s % 4294967296 : Nat) : Int) by omega, over_set (by omega)] at hB1
     refine n_val (r_assign) ?_
     simp only [ev,zD,zE,zF,zG]
     refine n_nil ?_
     refine hK10 _ _ ?_
     refine wp_region_lit (n_val (r_add rfl rfl (wrap_i64 (by omega) (by omega))) (n_val (r_move) ?_))
     simp only [ev,zD,zE,zF,zG]
     refine n_nil ?_
     obtain ⟨r1, r2, r3, r4⟩ := add_round (by omega) hlo hv hz hd hc hs2 hla hyb
     rw [show ((i:Int) + 1) = ((i + 1 : Nat) : Int) by omega, show ((s:Int) / 4294967296) = ((s / 4294967296 : Nat) : Int) by omega]
     simp only [Exit.inBlock,Exit.then]
     refine ⟨qa.length - (i + 1), _, ?_, rfl, ?_, ?_⟩
     · omega
     · simp only [zQ,zR,zD,zE,setG_cons,setG_nil,setMany_cons,setMany_nil,zF,zG]
     ·
      simp only [zQ,zR,zD,zE]
      exact ⟨i + 1, s / 4294967296, os.set i (s % 4294967296), rfl, hX, hB1, by omega, by simpa using hlo, r1, r2, r3, r4, rfl⟩
   ·
    refine wp_exit ?_
    refine hK6 _ _ ?_
    refine c_seq (fun K15 hK15 => ?_)
    obtain rfl : i = qa.length := by omega
    refine wp_region_lit (n_val (r_move) (n_val (r_move) (n_val (r_lenS rfl Tryz.underlying83 rfl) ?_)))
    simp only [ev,zD,zE,zF,zG]
    refine n_val (r_move) (n_val (r_indexAddrS Tryz.underlying83 cells_88 rfl rfl (by omega) (by omega) (addrB1 (Int.toNat_natCast _))) ?_)
    simp only [ev,zD,zE,zF,zG]
    refine n_store rfl (by simp only [ev,zD,zE]; rfl) (by exact cells_88) hB1 (by simp; omega) (by simp [Value.oneCell']) ?_
    clear hB1; intro w2 hC hB1
    replace hX := hX.chg hC hG1
    clear hC
    rw [over_set (by omega)] at hB1
    refine n_nil ?_
    refine hK15 _ _ ?_
    refine c_seq (fun K16 hK16 => wp_region_lit (n_val (r_move) ?_))
    simp only [ev,zD,zE,zF,zG]
    refine n_call rfl rfl (norm_c _ (hB1.nat (hd.set (show c < 4294967296 by omega)) (by simp; omega) (by omega))) ?_
    rintro v w3 hE rfl
    replace hB1 := hB1.ext hE; replace hX := hX.trans hE
    clear hE
    simp only [ev,zD,zE,zF,zG]
    refine n_val (r_assign) ?_
    simp only [ev,zD,zE,zF,zG]
    refine n_nil ?_
    refine hK16 _ _ ?_
    refine wp_ret ?_
    try simp only [Exit.inBlock,Exit.then]
    refine fin1 rfl rfl ?_
    try simp only [zD,zE]
    exact ⟨_, rfl, hX, by first | exact NatRes.of_trim (hB1.nat (hd.set (show c < 4294967296 by omega)) (by simp; omega) (by omega)) (add_end (by omega) hlo hv hz) | (rw [Nat.add_comm]; exact NatRes.of_trim (hB1.nat (hd.set (show c < 4294967296 by omega)) (by simp; omega) (by omega)) (add_end (by omega) hlo hv hz))⟩
 ·
  obtain ⟨qa, rfl⟩ : ∃ q, q = xs := ⟨_, rfl⟩
  obtain ⟨qb, rfl⟩ : ∃ q, q = ys := ⟨_, rfl⟩
  obtain ⟨Qa, rfl⟩ : ∃ q, q = A := ⟨_, rfl⟩
  obtain ⟨Qb, rfl⟩ : ∃ q, q = B := ⟨_, rfl⟩
  have hSa := hS
  have hSb := hR
  refine wp_skip ?_
  refine hK2 _ _ ?_
  refine c_seq (fun K17 hK17 => wp_region_lit (n_val (r_move) (n_val (r_lenS rfl Tryz.underlying83 rfl) (n_val (r_add rfl rfl (wrap_i64 (by omega) (by omega))) ?_))))
  simp only [ev,zD,zE,zF,zG]
  refine n_make1 Tryz.underlying83 inf_88 rfl rfl rfl (show _ = qa.length + 1 by omega) (show _ = qa.length + 1 by omega) (by omega) (by omega) (by omega) (by omega) ?_
  intro w1 g1 hE hg1 hB1
  have hG1 := Nat.le_trans hX.size hg1
  replace hX := hX.trans hE
  clear hE hg1
  simp only [ev,zD,zE,zF,zG]
  refine n_val (r_assign) ?_
  simp only [ev,zD,zE,zF,zG]
  refine n_nil ?_
  rw [replicate_u64] at hB1
  refine hK17 _ _ ?_
  refine c_seq (fun K18 hK18 => wp_region_lit (n_val (r_assign) ?_))
  simp only [ev,zD,zE,zF,zG]
  refine n_nil ?_
  refine hK18 _ _ ?_
  refine c_seq (fun K19 hK19 => c_seq (fun K20 hK20 => wp_region_lit (n_val (r_move) (n_val (r_lenS rfl Tryz.underlying83 rfl) (n_val (r_move) ?_)))))
  simp only [ev,zD,zE,zF,zG]
  refine n_nil ?_
  refine hK20 _ _ ?_
  refine wp_block ?_
  refine c_loopg [6, 22] [7, 8, 23, 24, 25, 26, 27, 28, 29, 30, 31, 32, 33, 34, 35, 36, 37, 38, 39, 40, 41, 42, 43, 44, 45, 46, 47, 48] (fun n vs wl => ∃ (i c : Nat) (os : List Nat), vs = [.int .u64 (c:Int), .int .i64 (i:Int)] ∧ (Ext w wl) ∧ (Blk wl g1 (os.map u64v) 88) ∧ (i ≤ qa.length) ∧ (os.length = qa.length + 1) ∧ (val 4294967296 os + 4294967296 ^ i * c = val 4294967296 (qa.take i) + val 4294967296 (qb.take i)) ∧ (os.drop i = List.replicate (qa.length + 1 - i) 0) ∧ (Digs 4294967296 os) ∧ (c ≤ 1) ∧ (n = qa.length - i)) ?_ ?_
  ·
   apply Exists.intro
   simp only [zQ,zR,zD,zE]
   exact ⟨0, 0, List.replicate (qa.length + 1) 0, rfl, hX, hB1, by omega, by simp, by simp [val_replicate, val], by simp, fun x hx => by rw [List.eq_of_mem_replicate hx]; decide, by omega, rfl⟩
  ·
   intro n vs wr hI u
   obtain ⟨i, c, os, rfl, hX, hB1, hi, hlo, hv, hz, hd, hc, hn⟩ := hI
   simp only [setG_cons,setG_nil,setMany_cons,setMany_nil,zF,zG]
   refine c_seq (fun K21 hK21 => wp_region_lit (n_val (r_lss rfl rfl) ?_))
   simp only [ev,zD,zE,zF,zG]
   refine n_nil ?_
   refine hK21 _ _ ?_
   refine c_seq (fun K22 hK22 => ?_)
   refine c_if rfl (fun hc2 => ?_) (fun hc2 => ?_)
   ·
    refine wp_skip ?_
    refine hK22 _ _ ?_
    refine c_seq (fun K23 hK23 => wp_block (c_seq (fun K24 hK24 => wp_region_lit (n_val (r_move) (n_val (r_assign) ?_)))))
    simp only [ev,zD,zE,zF,zG]
    refine n_nil ?_
    refine hK24 _ _ ?_
    refine c_seq (fun K25 hK25 => ?_)
    obtain ⟨a, rfl, hca, hla⟩ := (hSa.ext hX).get (show i < qa.length by omega)
    refine wp_region_lit (n_val (r_move) (n_val (r_move) (n_val (r_indexAddrS Tryz.underlying83 cells_88 rfl rfl (by omega) (by omega) (addr1 (Int.toNat_natCast _))) ?_)))
    simp only [ev,zD,zE,zF,zG]
    refine n_load rfl (lies1 hca agg_88) ?_
    simp only [ev,zD,zE,zF,zG]
    refine n_val (r_move) (n_val (r_add rfl rfl (wrap_u64 (by omega) (by omega))) (n_val (r_assign) ?_))
    simp only [ev,zD,zE,zF,zG]
    refine n_nil ?_
    refine hK25 _ _ ?_
    refine c_seq (fun K26 hK26 => c_seq (fun K27 hK27 => wp_region_lit (n_val (r_move) (n_val (r_move) (n_val (r_lenS rfl Tryz.underlying83 rfl) ?_)))))
    simp only [ev,zD,zE,zF,zG]
    refine n_val (r_lss rfl rfl) ?_
    simp only [ev,zD,zE,zF,zG]
    refine n_nil ?_
    refine hK27 _ _ ?_
    refine c_if rfl (fun hc3 => ?_) (fun hc3 => ?_)
    ·
     obtain ⟨b, rfl, hcb, hlb⟩ := (hSb.ext hX).get (show i < qb.length by omega)
     refine wp_region_lit (n_val (r_move) (n_val (r_move) (n_val (r_move) ?_)))
     simp only [ev,zD,zE,zF,zG]
     refine n_val (r_indexAddrS Tryz.underlying83 cells_88 rfl rfl (by omega) (by omega) (addr1 (Int.toNat_natCast _))) ?_
     simp only [ev,zD,zE,zF,zG]
     refine n_load rfl (lies1 hcb agg_88) ?_
     simp only [ev,zD,zE,zF,zG]
     refine n_val (r_add rfl rfl (wrap_u64 (by omega) (by omega))) (n_val (r_assign) ?_)
     simp only [ev,zD,zE,zF,zG]
     refine n_nil ?_
     obtain ⟨s, hs⟩ : ∃ s : Nat, (s : Int) = ↑qa[i] + ↑c + ↑qb[i] := ⟨qa[i] + c + qb[i], by omega⟩
     rw [← hs]
     have hs2 : s = qa[i] + c + qb[i]?.getD 0 := by rw [List.getElem?_eq_getElem (by omega)]; simp; omega
     have hyb : qb[i]?.getD 0 < 4294967296 := by rw [List.getElem?_eq_getElem (by omega)]; exact hlb
     refine hK26 _ _ ?_
     refine wp_region_lit (n_val (r_move) (n_val (r_move) (n_val (r_move) ?_)))
     simp only [ev,zD,zE,zF,zG]
     refine n_val (r_and rfl rfl (and_mask (by omega) (by omega))) (n_val (r_move) (n_val (r_shr rfl rfl (by omega) (shr32 (by omega))) ?_))
     simp only [ev,zD,zE,zF,zG]
     refine n_val (r_indexAddrS Tryz.underlying83 cells_88 rfl rfl (by omega) (by omega) (addrB1 (Int.toNat_natCast _))) ?_
     simp only [ev,zD,zE,zF,zG]
     refine n_store rfl (by simp only [ev,zD,zE]; rfl) (by exact cells_88) hB1 (by simp; omega) (by simp [Value.oneCell']) ?_
     clear hB1; intro w2 hC hB1
     replace hX := hX.chg hC hG1
     clear hC
     rw [show ((s:Int) % 4294967296) = ((s % 4294967296 : Nat) : Int) by omega, over_set (by omega)] at hB1
     refine n_val (r_assign) ?_
     simp only [ev,zD,zE,zF,zG]
     refine n_nil ?_
     refine hK23 _ _ ?_
     refine wp_region_lit (n_val (r_add rfl rfl (wrap_i64 (by omega) (by omega))) (n_val (r_move) ?_))
     simp only [ev,zD,zE,zF,zG]
     refine n_nil ?_
     obtain ⟨r1, r2, r3, r4⟩ := add_round (by omega) hlo hv hz hd hc hs2 hla hyb
     rw [show ((i:Int) + 1) = ((i + 1 : Nat) : Int) by omega, show ((s:Int) / 4294967296) = ((s / 4294967296 : Nat) : Int) by omega]
     simp only [Exit.inBlock,Exit.then]
     refine ⟨qa.length - (i + 1), _, ?_, rfl, ?_, ?_⟩
     · omega
     · simp only [zQ,zR,zD,zE,setG_cons,setG_nil,setMany_cons,setMany_nil,zF,zG]
     ·
      simp only [zQ,zR,zD,zE]
      exact ⟨i + 1, s / 4294967296, os.set i (s % 4294967296), rfl, hX, hB1, by omega, by simpa using hlo, r1, r2, r3, r4, rfl⟩
    ·
     obtain ⟨s, hs⟩ : ∃ s : Nat, (s : Int) = ↑qa[i] + ↑c := ⟨qa[i] + c, by omega⟩
     rw [← hs]
     have hs2 : s = qa[i] + c + qb[i]?.getD 0 := by rw [List.getElem?_eq_none (by omega)]; simp; omega
     have hyb : qb[i]?.getD 0 < 4294967296 := by rw [List.getElem?_eq_none (by omega)]; decide
     refine wp_skip ?_
     refine hK26 _ _ ?_
     refine wp_region_lit (n_val (r_move) (n_val (r_move) (n_val (r_move) ?_)))
     simp only [ev,zD,zE,zF,zG]
     refine n_val (r_and rfl rfl (and_mask (by omega) (by omega))) (n_val (r_move) (n_val (r_shr rfl rfl (by omega) (shr32 (by omega))) ?_))
     simp only [ev,zD,zE,zF,zG]
     refine n_val (r_indexAddrS Tryz.underlying83 cells_88 rfl rfl (by omega) (by omega) (addrB1 (Int.toNat_natCast _))) ?_
     simp only [ev,zD,zE,zF,zG]
     refine n_store rfl (by simp only [ev,zD,zE]; rfl) (by exact cells_88) hB1 (by simp; omega) (by simp [Value.oneCell']) ?_
     clear hB1; intro w2 hC hB1
     replace hX := hX.chg hC hG1
     clear hC
     rw [show ((s:Int) % 4294967296) = ((s % 4294967296 : Nat) : Int) by omega, over_set (by omega)] at hB1
     refine n_val (r_assign) ?_
     simp only [ev,zD,zE,zF,zG]
     refine n_nil ?_
     refine hK23 _ _ ?_
     refine wp_region_lit (n_val (r_add rfl rfl (wrap_i64 (by omega) (by omega))) (n_val (r_move) ?_))
     simp only [ev,zD,zE,zF,zG]
     refine n_nil ?_
     obtain ⟨r1, r2, r3, r4⟩ := add_round (by omega) hlo hv hz hd hc hs2 hla hyb
     rw [show ((i:Int) + 1) = ((i + 1 : Nat) : Int) by omega, show ((s:Int) / 4294967296) = ((s / 4294967296 : Nat) : Int) by omega]
     simp only [Exit.inBlock,Exit.then]
     refine ⟨qa.length - (i + 1), _, ?_, rfl, ?_, ?_⟩
     · omega
     · simp only [zQ,zR,zD,zE,setG_cons,setG_nil,setMany_cons,setMany_nil,zF,zG]
     ·
      simp only [zQ,zR,zD,zE]
      exact ⟨i + 1, s / 4294967296, os.set i (s % 4294967296), rfl, hX, hB1, by omega, by simpa using hlo, r1, r2, r3, r4, rfl⟩
   ·
    refine wp_exit ?_
    refine hK19 _ _ ?_
    refine c_seq (fun K28 hK28 => ?_)
    obtain rfl : i = qa.length := by omega
    refine wp_region_lit (n_val (r_move) (n_val (r_move) (n_val (r_lenS rfl Tryz.underlying83 rfl) ?_)))
    simp only [ev,zD,zE,zF,zG]
    refine n_val (r_move) (n_val (r_indexAddrS Tryz.underlying83 cells_88 rfl rfl (by omega) (by omega) (addrB1 (Int.toNat_natCast _))) ?_)
    simp only [ev,zD,zE,zF,zG]
    refine n_store rfl (by simp only [ev,zD,zE]; rfl) (by exact cells_88) hB1 (by simp; omega) (by simp [Value.oneCell']) ?_
    clear hB1; intro w2 hC hB1
    replace hX := hX.chg hC hG1
    clear hC
    rw [over_set (by omega)] at hB1
    refine n_nil ?_
    refine hK28 _ _ ?_
    refine c_seq (fun K29 hK29 => wp_region_lit (n_val (r_move) ?_))
    simp only [ev,zD,zE,zF,zG]
    refine n_call rfl rfl (norm_c _ (hB1.nat (hd.set (show c < 4294967296 by omega)) (by simp; omega) (by omega))) ?_
    rintro v w3 hE rfl
    replace hB1 := hB1.ext hE; replace hX := hX.trans hE
    clear hE
    simp only [ev,zD,zE,zF,zG]
    refine n_val (r_assign) ?_
    simp only [ev,zD,zE,zF,zG]
    refine n_nil ?_
    refine hK29 _ _ ?_
    refine wp_ret ?_
    try simp only [Exit.inBlock,Exit.then]
    refine fin1 rfl rfl ?_
    try simp only [zD,zE]
    exact ⟨_, rfl, hX, by first | exact NatRes.of_trim (hB1.nat (hd.set (show c < 4294967296 by omega)) (by simp; omega) (by omega)) (add_end (by omega) hlo hv hz) | (rw [Nat.add_comm]; exact NatRes.of_trim (hB1.nat (hd.set (show c < 4294967296 by omega)) (by simp; omega) (by omega)) (add_end (by omega) hlo hv hz))⟩

set_option maxHeartbeats 400000 in
theorem sub_c {A B : Option Addr} {xs ys : List Nat} {na nb ca cb : Nat} (w : World) (hS : NatAt w A na ca xs) (hR : NatAt w B nb cb ys) (hle : ys.length ≤ xs.length) (hge : val 4294967296 ys ≤ val 4294967296 xs) (hlx : xs.length ≤ 1099511627776) : Does Tryz.prog 61 [.slice A na ca, .slice B nb cb] w (fun v w' => NatRes (val 4294967296 xs - val 4294967296 ys) v w' ∧ NewSlice w v) := by
 skip
 refine ⟨en_61, ?_⟩
 have hX := Ext.refl w
 obtain rfl := hS.eq
 obtain rfl := hR.eq
 go_enter Tryz.func61, Tryz.ntmps61
 refine c_seq (fun K1 hK1 => wp_region_lit (n_val (r_assign) ?_))
 simp only [ev,zD,zE,zF,zG]
 refine n_nil ?_
 refine hK1 _ _ ?_
 refine c_seq (fun K2 hK2 => wp_region_lit (n_val (r_move) (n_val (r_lenS rfl Tryz.underlying83 rfl) ?_)))
 simp only [ev,zD,zE,zF,zG]
 refine n_make1 Tryz.underlying83 inf_88 rfl rfl rfl (Int.toNat_natCast _) (Int.toNat_natCast _) (by omega) (by omega) (by omega) (by omega) ?_
 intro w1 g1 hE hg1 hB1
 have hG1 := Nat.le_trans hX.size hg1
 replace hX := hX.trans hE
 clear hE hg1
 simp only [ev,zD,zE,zF,zG]
 refine n_val (r_assign) ?_
 simp only [ev,zD,zE,zF,zG]
 refine n_nil ?_
 rw [replicate_u64] at hB1
 refine hK2 _ _ ?_
 refine c_seq (fun K3 hK3 => wp_region_lit (n_val (r_assign) ?_))
 simp only [ev,zD,zE,zF,zG]
 refine n_nil ?_
 refine hK3 _ _ ?_
 refine c_seq (fun K4 hK4 => c_seq (fun K5 hK5 => wp_region_lit (n_val (r_move) (n_val (r_lenS rfl Tryz.underlying83 rfl) (n_val (r_move) ?_)))))
 simp only [ev,zD,zE,zF,zG]
 refine n_nil ?_
 refine hK5 _ _ ?_
 refine wp_block ?_
 refine c_loopg [6, 14] [7, 8, 15, 16, 17, 18, 19, 20, 21, 22, 23, 24, 25, 26, 27, 28, 29, 30, 31, 32, 33, 34, 35, 36, 37, 38, 39, 40] (fun n vs wl => ∃ (i c : Nat) (os : List Nat), vs = [.int .u64 (c:Int), .int .i64 (i:Int)] ∧ (Ext w wl) ∧ (Blk wl g1 (os.map u64v) 88) ∧ (i ≤ xs.length) ∧ (os.length = xs.length) ∧ (val 4294967296 os + val 4294967296 (ys.take i) = val 4294967296 (xs.take i) + 4294967296 ^ i * c) ∧ (os.drop i = List.replicate (xs.length - i) 0) ∧ (Digs 4294967296 os) ∧ (c ≤ 1) ∧ (n = xs.length - i)) ?_ ?_
 ·
  apply Exists.intro
  simp only [zQ,zR,zD,zE]
  exact ⟨0, 0, List.replicate xs.length 0, rfl, hX, hB1, by omega, by simp, by simp [val_replicate, val], by simp, fun x hx => by rw [List.eq_of_mem_replicate hx]; decide, by omega, rfl⟩
 ·
  intro n vs wr hI u
  obtain ⟨i, c, os, rfl, hX, hB1, hi, hlo, hv, hz, hd, hc, hn⟩ := hI
  simp only [setG_cons,setG_nil,setMany_cons,setMany_nil,zF,zG]
  refine c_seq (fun K6 hK6 => wp_region_lit (n_val (r_lss rfl rfl) ?_))
  simp only [ev,zD,zE,zF,zG]
  refine n_nil ?_
  refine hK6 _ _ ?_
  refine c_seq (fun K7 hK7 => ?_)
  refine c_if rfl (fun hc1 => ?_) (fun hc1 => ?_)
  ·
   refine wp_skip ?_
   refine hK7 _ _ ?_
   refine c_seq (fun K8 hK8 => wp_block (c_seq (fun K9 hK9 => wp_region_lit (n_val (r_move) (n_val (r_assign) ?_)))))
   simp only [ev,zD,zE,zF,zG]
   refine n_nil ?_
   refine hK9 _ _ ?_
   refine c_seq (fun K10 hK10 => ?_)
   obtain ⟨a, rfl, hca, hla⟩ := (hS.ext hX).get (show i < xs.length by omega)
   refine wp_region_lit (n_val (r_move) (n_val (r_move) (n_val (r_indexAddrS Tryz.underlying83 cells_88 rfl rfl (by omega) (by omega) (addr1 (Int.toNat_natCast _))) ?_)))
   simp only [ev,zD,zE,zF,zG]
   refine n_load rfl (lies1 hca agg_88) ?_
   simp only [ev,zD,zE,zF,zG]
   refine n_val (r_move) (n_val (r_sub rfl rfl (wrap_u64_emod _)) (n_val (r_assign) ?_))
   simp only [ev,zD,zE,zF,zG]
   refine n_nil ?_
   refine hK10 _ _ ?_
   refine c_seq (fun K11 hK11 => c_seq (fun K12 hK12 => wp_region_lit (n_val (r_move) (n_val (r_move) (n_val (r_lenS rfl Tryz.underlying83 rfl) ?_)))))
   simp only [ev,zD,zE,zF,zG]
   refine n_val (r_lss rfl rfl) ?_
   simp only [ev,zD,zE,zF,zG]
   refine n_nil ?_
   refine hK12 _ _ ?_
   refine c_if rfl (fun hc2 => ?_) (fun hc2 => ?_)
   ·
    obtain ⟨b, rfl, hcb, hlb⟩ := (hR.ext hX).get (show i < ys.length by omega)
    refine wp_region_lit (n_val (r_move) (n_val (r_move) (n_val (r_move) ?_)))
    simp only [ev,zD,zE,zF,zG]
    refine n_val (r_indexAddrS Tryz.underlying83 cells_88 rfl rfl (by omega) (by omega) (addr1 (Int.toNat_natCast _))) ?_
    simp only [ev,zD,zE,zF,zG]
    refine n_load rfl (lies1 hcb agg_88) ?_
    simp only [ev,zD,zE,zF,zG]
    refine n_val (r_sub rfl rfl (wrap_u64_emod _)) (n_val (r_assign) ?_)
    simp only [ev,zD,zE,zF,zG]
    refine n_nil ?_
    obtain ⟨s, hs⟩ : ∃ s : Nat, (s : Int) = ((↑xs[i] - ↑c) % 18446744073709551616 - ↑ys[i]) % 18446744073709551616 := ⟨(((↑xs[i] - ↑c) % 18446744073709551616 - ↑ys[i]) % 18446744073709551616 : Int).toNat, by omega⟩
    rw [← hs]
    have hs2 : (s : Int) = ((xs[i] : Nat) - (c : Nat) - (ys[i]?.getD 0 : Nat) : Int) % 18446744073709551616 := by rw [List.getElem?_eq_getElem (by omega)]; simp only [Option.getD_some]; omega
    have hyb : ys[i]?.getD 0 < 4294967296 := by rw [List.getElem?_eq_getElem (by omega)]; exact hlb
    refine hK11 _ _ ?_
    have hs64 : s < 18446744073709551616 := by omega
    refine wp_region_lit (n_val (r_move) (n_val (r_move) (n_val (r_move) ?_)))
    simp only [ev,zD,zE,zF,zG]
    refine n_val (r_and rfl rfl (and_mask (by omega) (by omega))) (n_val (r_move) (n_val (r_shr rfl rfl (by omega) (shr63 (by omega))) ?_))
    simp only [ev,zD,zE,zF,zG]
    refine n_val (r_indexAddrS Tryz.underlying83 cells_88 rfl rfl (by omega) (by omega) (addrB1 (Int.toNat_natCast _))) ?_
    simp only [ev,zD,zE,zF,zG]
    refine n_store rfl (by simp only [ev,zD,zE]; rfl) (by exact cells_88) hB1 (by simp; omega) (by simp [Value.oneCell']) ?_
    clear hB1; intro w2 hC hB1
    replace hX := hX.chg hC hG1
    clear hC
    rw [show ((s:Int) % 4294967296) = ((s % 4294967296 : Nat) : Int) by omega, over_set (by omega)] at hB1
    refine n_val (r_assign) ?_
    simp only [ev,zD,zE,zF,zG]
    refine n_nil ?_
    refine hK8 _ _ ?_
    refine wp_region_lit (n_val (r_add rfl rfl (wrap_i64 (by omega) (by omega))) (n_val (r_move) ?_))
    simp only [ev,zD,zE,zF,zG]
    refine n_nil ?_
    obtain ⟨r1, r2, r3, r4⟩ := sub_round (by omega) hlo hv hz hd hc hs2 hla hyb
    rw [show ((i:Int) + 1) = ((i + 1 : Nat) : Int) by omega, show ((s:Int) / 9223372036854775808) = ((s / 9223372036854775808 : Nat) : Int) by omega]
    simp only [Exit.inBlock,Exit.then]
    refine ⟨xs.length - (i + 1), _, ?_, rfl, ?_, ?_⟩
    · omega
    · simp only [zQ,zR,zD,zE,setG_cons,setG_nil,setMany_cons,setMany_nil,zF,zG]
    ·
     simp only [zQ,zR,zD,zE]
     exact ⟨i + 1, s / 9223372036854775808, os.set i (s % 4294967296), rfl, hX, hB1, by omega, by simpa using hlo, r1, r2, r3, r4, rfl⟩
   ·
    obtain ⟨s, hs⟩ : ∃ s : Nat, (s : Int) = (↑xs[i] - ↑c) % 18446744073709551616 := ⟨((↑xs[i] - ↑c) % 18446744073709551616 : Int).toNat, by omega⟩
    rw [← hs]
    have hs2 : (s : Int) = ((xs[i] : Nat) - (c : Nat) - (ys[i]?.getD 0 : Nat) : Int) % 18446744073709551616 := by rw [List.getElem?_eq_none (by omega)]; simp only [Option.getD_none]; omega
    have hyb : ys[i]?.getD 0 < 4294967296 := by rw [List.getElem?_eq_none (by omega)]; decide
    refine wp_skip ?_
    refine hK11 _ _ ?_
    have hs64 : s < 18446744073709551616 := by omega
    refine wp_region_lit (n_val (r_move) (n_val (r_move) (n_val (r_move) ?_)))
    simp only [ev,zD,zE,zF,zG]
    refine n_val (r_and rfl rfl (and_mask (by omega) (by omega))) (n_val (r_move) (n_val (r_shr rfl rfl (by omega) (shr63 (by omega))) ?_))
    simp only [ev,zD,zE,zF,zG]
    refine n_val (r_indexAddrS Tryz.underlying83 cells_88 rfl rfl (by omega) (by omega) (addrB1 (Int.toNat_natCast _))) ?_
    simp only [ev,zD,zE,zF,zG]
    refine n_store rfl (by simp only [ev,zD,zE]; rfl) (by exact cells_88) hB1 (by simp; omega) (by simp [Value.oneCell']) ?_
    clear hB1; intro w2 hC hB1
    replace hX := hX.chg hC hG1
    clear hC
    rw [show ((s:Int) % 4294967296) = ((s % 4294967296 : Nat) : Int) by omega, over_set (by omega)] at hB1
    refine n_val (r_assign) ?_
    simp only [ev,zD,zE,zF,zG]
    refine n_nil ?_
    refine hK8 _ _ ?_
    refine wp_region_lit (n_val (r_add rfl rfl (wrap_i64 (by omega) (by omega))) (n_val (r_move) ?_))
    simp only [ev,zD,zE,zF,zG]
    refine n_nil ?_
    obtain ⟨r1, r2, r3, r4⟩ := sub_round (by omega) hlo hv hz hd hc hs2 hla hyb
    rw [show ((i:Int) + 1) = ((i + 1 : Nat) : Int) by omega, show ((s:Int) / 9223372036854775808) = ((s / 9223372036854775808 : Nat) : Int) by omega]
    simp only [Exit.inBlock,Exit.then]
    refine ⟨xs.length - (i + 1), _, ?_, rfl, ?_, ?_⟩
    · omega
    · simp only [zQ,zR,zD,zE,setG_cons,setG_nil,setMany_cons,setMany_nil,zF,zG]
    ·
     simp only [zQ,zR,zD,zE]
     exact ⟨i + 1, s / 9223372036854775808, os.set i (s % 4294967296), rfl, hX, hB1, by omega, by simpa using hlo, r1, r2, r3, r4, rfl⟩
  ·
   refine wp_exit ?_
   refine hK4 _ _ ?_
   refine c_seq (fun K13 hK13 => ?_)
   obtain rfl : i = xs.length := by omega
   refine wp_region_lit (n_val (r_move) ?_)
   simp only [ev,zD,zE,zF,zG]
   refine n_call rfl rfl (norm_c _ (hB1.nat hd (by omega) (by omega))) ?_
   rintro v w2 hE rfl
   replace hB1 := hB1.ext hE; replace hX := hX.trans hE
   clear hE
   simp only [ev,zD,zE,zF,zG]
   refine n_val (r_assign) ?_
   simp only [ev,zD,zE,zF,zG]
   refine n_nil ?_
   refine hK13 _ _ ?_
   refine wp_ret ?_
   try simp only [Exit.inBlock,Exit.then]
   refine fin1 rfl rfl ?_
   try simp only [zD,zE]
   exact ⟨_, rfl, hX, NatRes.of_trim (hB1.nat hd (n := xs.length) (by omega) (by omega)) (sub_end hle hlo hd hv hge), NewSlice.of_blk hG1⟩

set_option maxHeartbeats 400000 in
theorem mul_c {A B : Option Addr} {xs ys : List Nat} {na nb ca cb : Nat} (w : World) (hS : NatAt w A na ca xs) (hR : NatAt w B nb cb ys) (hlx : xs.length ≤ 1099511627776) (hly : ys.length ≤ 1099511627776) : Does Tryz.prog 106 [.slice A na ca, .slice B nb cb] w (NatRes (val 4294967296 xs * val 4294967296 ys)) := by
 skip
 refine ⟨en_106, ?_⟩
 have hX := Ext.refl w
 obtain rfl := hS.eq
 obtain rfl := hR.eq
 go_enter Tryz.func106, Tryz.ntmps106
 refine c_seq (fun K1 hK1 => wp_region_lit (n_val (r_assign) ?_))
 simp only [ev,zD,zE,zF,zG]
 refine n_nil ?_
 refine hK1 _ _ ?_
 refine c_seq (fun K2 hK2 => wp_region_lit (n_val (r_move) (n_val (r_lenS rfl Tryz.underlying83 rfl) (n_val (r_move) ?_))))
 simp only [ev,zD,zE,zF,zG]
 refine n_val (r_lenS rfl Tryz.underlying83 rfl) (n_val (r_add rfl rfl (wrap_i64 (by omega) (by omega))) ?_)
 simp only [ev,zD,zE,zF,zG]
 refine n_make1 Tryz.underlying83 inf_88 rfl rfl rfl (show _ = xs.length + ys.length by omega) (show _ = xs.length + ys.length by omega) (by omega) (by omega) (by omega) (by omega) ?_
 intro w1 g1 hE hg1 hB1
 have hG1 := Nat.le_trans hX.size hg1
 replace hX := hX.trans hE
 clear hE hg1
 simp only [ev,zD,zE,zF,zG]
 refine n_val (r_assign) ?_
 simp only [ev,zD,zE,zF,zG]
 refine n_nil ?_
 rw [replicate_u64] at hB1
 refine hK2 _ _ ?_
 refine c_seq (fun K3 hK3 => c_seq (fun K4 hK4 => wp_region_lit (n_val (r_move) (n_val (r_lenS rfl Tryz.underlying83 rfl) (n_val (r_move) ?_)))))
 simp only [ev,zD,zE,zF,zG]
 refine n_nil ?_
 refine hK4 _ _ ?_
 refine wp_block ?_
 refine c_loopg [20] [6, 7, 8, 9, 10, 11, 21, 22, 23, 24, 25, 26, 27, 28, 29, 30, 31, 32, 33, 34, 35, 36, 37, 38, 39, 40, 41, 42, 43, 44, 45, 46, 47, 48, 49, 50, 51, 52, 53, 54, 55, 56, 57, 58, 59, 60, 61] (fun n vs wl => ∃ (i : Nat) (os : List Nat), vs = [.int .i64 (i:Int)] ∧ (Ext w wl) ∧ (Blk wl g1 (os.map u64v) 88) ∧ (i ≤ xs.length) ∧ (os.length = xs.length + ys.length) ∧ (val 4294967296 os = val 4294967296 (xs.take i) * val 4294967296 ys) ∧ (os.drop (i + ys.length) = List.replicate (xs.length - i) 0) ∧ (Digs 4294967296 os) ∧ (n = xs.length - i)) ?_ ?_
 ·
  apply Exists.intro
  simp only [zQ,zR,zD,zE]
  exact ⟨0, List.replicate (xs.length + ys.length) 0, rfl, hX, hB1, by omega, by simp, by rw [val_replicate, List.take_zero]; simp only [val,Nat.zero_mul], by rw [List.drop_replicate]; congr 1; omega, fun x hx => by rw [List.eq_of_mem_replicate hx]; decide, rfl⟩
 ·
  intro n vs wr hI u
  obtain ⟨i, os, rfl, hX, hB1, hi, hlo, hv, hz, hd, hn⟩ := hI
  simp only [setG_cons,setG_nil,setMany_cons,setMany_nil,zF,zG]
  refine c_seq (fun K5 hK5 => wp_region_lit (n_val (r_lss rfl rfl) ?_))
  simp only [ev,zD,zE,zF,zG]
  refine n_nil ?_
  refine hK5 _ _ ?_
  refine c_seq (fun K6 hK6 => ?_)
  refine c_if rfl (fun hc1 => ?_) (fun hc1 => ?_)
  ·
   refine wp_skip ?_
   refine hK6 _ _ ?_
   refine c_seq (fun K7 hK7 => wp_block (c_seq (fun K8 hK8 => ?_)))
   obtain ⟨a, rfl, hca, hla⟩ := (hS.ext hX).get (show i < xs.length by omega)
   refine wp_region_lit (n_val (r_move) (n_val (r_indexAddrS Tryz.underlying83 cells_88 rfl rfl (by omega) (by omega) (addr1 (Int.toNat_natCast _))) ?_))
   simp only [ev,zD,zE,zF,zG]
   refine n_load rfl (lies1 hca agg_88) ?_
   simp only [ev,zD,zE,zF,zG]
   refine n_val (r_assign) (n_val (r_assign) ?_)
   simp only [ev,zD,zE,zF,zG]
   refine n_nil ?_
   refine hK8 _ _ ?_
   refine c_seq (fun K9 hK9 => wp_region_lit (n_val (r_assign) ?_))
   simp only [ev,zD,zE,zF,zG]
   refine n_nil ?_
   refine hK9 _ _ ?_
   refine c_seq (fun K10 hK10 => c_seq (fun K11 hK11 => wp_region_lit (n_val (r_move) (n_val (r_lenS rfl Tryz.underlying83 rfl) (n_val (r_move) ?_)))))
   simp only [ev,zD,zE,zF,zG]
   refine n_nil ?_
   refine hK11 _ _ ?_
   refine wp_block ?_
   refine c_loopg [8, 27] [9, 10, 11, 28, 29, 30, 31, 32, 33, 34, 35, 36, 37, 38, 39, 40, 41, 42, 43, 44, 45, 46, 47, 48, 49, 50, 51, 52, 53] (fun n vs wl => ∃ (k c : Nat) (os : List Nat), vs = [.int .u64 (c:Int), .int .i64 (k:Int)] ∧ (Ext w wl) ∧ (Blk wl g1 (os.map u64v) 88) ∧ (k ≤ ys.length) ∧ (os.length = xs.length + ys.length) ∧ (val 4294967296 os + 4294967296 ^ (i + k) * c = val 4294967296 (xs.take i) * val 4294967296 ys + 4294967296 ^ i * (xs[i] * val 4294967296 (ys.take k))) ∧ (os.drop (i + ys.length) = List.replicate (xs.length - i) 0) ∧ (Digs 4294967296 os) ∧ (c < 4294967296) ∧ (n = ys.length - k)) ?_ ?_
   ·
    apply Exists.intro
    simp only [zQ,zR,zD,zE]
    exact ⟨0, 0, os, rfl, hX, hB1, by omega, hlo, by rw [List.take_zero, hv]; simp only [val,Nat.mul_zero], hz, hd, by omega, rfl⟩
   ·
    intro n vs wr hI u
    obtain ⟨k, c, os, rfl, hX, hB1, hk, hlo, hv2, hz, hd, hc, hn2⟩ := hI
    simp only [setG_cons,setG_nil,setMany_cons,setMany_nil,zF,zG]
    refine c_seq (fun K12 hK12 => wp_region_lit (n_val (r_lss rfl rfl) ?_))
    simp only [ev,zD,zE,zF,zG]
    refine n_nil ?_
    refine hK12 _ _ ?_
    refine c_seq (fun K13 hK13 => ?_)
    refine c_if rfl (fun hc2 => ?_) (fun hc2 => ?_)
    ·
     refine wp_skip ?_
     refine hK13 _ _ ?_
     refine c_seq (fun K14 hK14 => wp_block (c_seq (fun K15 hK15 => ?_)))
     obtain ⟨b, rfl, hcb, hlb⟩ := (hR.ext hX).get (show k < ys.length by omega)
     refine wp_region_lit (n_val (r_move) (n_val (r_indexAddrS Tryz.underlying83 cells_88 rfl rfl (by omega) (by omega) (addr1 (Int.toNat_natCast _))) ?_))
     simp only [ev,zD,zE,zF,zG]
     refine n_load rfl (lies1 hcb agg_88) ?_
     simp only [ev,zD,zE,zF,zG]
     refine n_val (r_assign) (n_val (r_assign) ?_)
     simp only [ev,zD,zE,zF,zG]
     refine n_nil ?_
     refine hK15 _ _ ?_
     refine c_seq (fun K16 hK16 => ?_)
     have hco := hB1.word (show i + k < os.length by omega)
     have hlo2 := hd.get (List.getElem?_eq_getElem (show i + k < os.length by omega))
     obtain ⟨hm0, hm1⟩ := mul_ltI hla hlb
     refine wp_region_lit (n_val (r_move) (n_val (r_move) (n_val (r_move) ?_)))
     simp only [ev,zD,zE,zF,zG]
     refine n_val (r_add rfl rfl (wrap_i64 (by omega) (by omega))) (n_val (r_indexAddrS Tryz.underlying83 cells_88 rfl rfl (by omega) (by omega) (addrB1 (show _ = i + k by omega))) ?_)
     simp only [ev,zD,zE,zF,zG]
     refine n_load rfl (lies1 hco agg_88) ?_
     simp only [ev,zD,zE,zF,zG]
     refine n_val (r_move) (n_val (r_move) (n_val (r_mul rfl rfl (wrap_u64 (by omega) (by omega))) ?_))
     simp only [ev,zD,zE,zF,zG]
     refine n_val (r_add rfl rfl (wrap_u64 (by omega) (by omega))) (n_val (r_move) (n_val (r_add rfl rfl (wrap_u64 (by omega) (by omega))) ?_))
     simp only [ev,zD,zE,zF,zG]
     refine n_val (r_assign) ?_
     simp only [ev,zD,zE,zF,zG]
     refine n_nil ?_
     obtain ⟨s, hs⟩ : ∃ s : Nat, s = os[i + k] + xs[i] * ys[k] + c := ⟨_, rfl⟩
     have hsI : (↑os[i + k] + ↑xs[i] * ↑ys[k] + ↑c : Int) = (s : Int) := by rw [hs]; simp
     rw [hsI]
     have hs64 : s < 18446744073709551616 := by omega
     refine hK16 _ _ ?_
     refine wp_region_lit (n_val (r_move) (n_val (r_move) (n_val (r_move) ?_)))
     simp only [ev,zD,zE,zF,zG]
     refine n_val (r_add rfl rfl (wrap_i64 (by omega) (by omega))) (n_val (r_move) (n_val (r_and rfl rfl (and_mask (by omega) (by omega))) ?_))
     simp only [ev,zD,zE,zF,zG]
     refine n_val (r_move) (n_val (r_shr rfl rfl (by omega) (shr32 (by omega))) (n_val (r_indexAddrS Tryz.underlying83 cells_88 rfl rfl (by omega) (by omega) (addrB1 (show _ = i + k by omega))) ?_))
     simp only [ev,zD,zE,zF,zG]
     refine n_store rfl (by simp only [ev,zD,zE]; rfl) (by exact cells_88) hB1 (by simp; omega) (by simp [Value.oneCell']) ?_
     clear hB1; intro w2 hC hB1
     replace hX := hX.chg hC hG1
     clear hC
     rw [show ((s:Int) % 4294967296) = ((s % 4294967296 : Nat) : Int) by omega, over_set (by omega)] at hB1
     refine n_val (r_assign) ?_
     simp only [ev,zD,zE,zF,zG]
     refine n_nil ?_
     refine hK14 _ _ ?_
     refine wp_region_lit (n_val (r_add rfl rfl (wrap_i64 (by omega) (by omega))) (n_val (r_move) ?_))
     simp only [ev,zD,zE,zF,zG]
     refine n_nil ?_
     have r1 := mul_round (by omega) (by omega) hlo hv2 hs
     rw [show ((k:Int) + 1) = ((k + 1 : Nat) : Int) by omega, show ((s:Int) / 4294967296) = ((s / 4294967296 : Nat) : Int) by omega]
     simp only [Exit.inBlock,Exit.then]
     refine ⟨ys.length - (k + 1), _, ?_, rfl, ?_, ?_⟩
     · omega
     · simp only [zQ,zR,zD,zE,setG_cons,setG_nil,setMany_cons,setMany_nil,zF,zG]
     ·
      simp only [zQ,zR,zD,zE]
      exact ⟨k + 1, s / 4294967296, os.set (i + k) (s % 4294967296), rfl, hX, hB1, by omega, by simpa using hlo, r1, by rw [drop_set_ge (by omega)]; exact hz, hd.set (by omega), by omega, rfl⟩
    ·
     refine wp_exit ?_
     refine hK10 _ _ ?_
     obtain rfl : k = ys.length := by omega
     refine wp_region_lit (n_val (r_move) (n_val (r_move) (n_val (r_move) ?_)))
     simp only [ev,zD,zE,zF,zG]
     refine n_val (r_lenS rfl Tryz.underlying83 rfl) (n_val (r_add rfl rfl (wrap_i64 (by omega) (by omega))) (n_val (r_move) ?_))
     simp only [ev,zD,zE,zF,zG]
     refine n_val (r_indexAddrS Tryz.underlying83 cells_88 rfl rfl (by omega) (by omega) (addrB1 (show _ = i + ys.length by omega))) ?_
     simp only [ev,zD,zE,zF,zG]
     refine n_store rfl (by simp only [ev,zD,zE]; rfl) (by exact cells_88) hB1 (by simp; omega) (by simp [Value.oneCell']) ?_
     clear hB1; intro w2 hC hB1
     replace hX := hX.chg hC hG1
     clear hC
     rw [over_set (by omega)] at hB1
     refine n_nil ?_
     refine hK7 _ _ ?_
     refine wp_region_lit (n_val (r_add rfl rfl (wrap_i64 (by omega) (by omega))) (n_val (r_move) ?_))
     simp only [ev,zD,zE,zF,zG]
     refine n_nil ?_
     obtain ⟨r1, r2⟩ := mul_end (by omega) hlo hv2 hz
     rw [show ((i:Int) + 1) = ((i + 1 : Nat) : Int) by omega]
     simp only [Exit.inBlock,Exit.then]
     refine ⟨xs.length - (i + 1), _, ?_, rfl, ?_, ?_⟩
     · omega
     · simp only [zQ,zR,zD,zE,setG_cons,setG_nil,setMany_cons,setMany_nil,zF,zG]
     ·
      simp only [zQ,zR,zD,zE]
      exact ⟨i + 1, os.set (i + ys.length) c, rfl, hX, hB1, by omega, by simpa using hlo, r1, r2, hd.set (by omega), rfl⟩
  ·
   refine wp_exit ?_
   refine hK3 _ _ ?_
   refine c_seq (fun K17 hK17 => ?_)
   obtain rfl : i = xs.length := by omega
   refine wp_region_lit (n_val (r_move) ?_)
   simp only [ev,zD,zE,zF,zG]
   refine n_call rfl rfl (norm_c _ (hB1.nat hd (by omega) (by omega))) ?_
   rintro v w2 hE rfl
   replace hB1 := hB1.ext hE; replace hX := hX.trans hE
   clear hE
   simp only [ev,zD,zE,zF,zG]
   refine n_val (r_assign) ?_
   simp only [ev,zD,zE,zF,zG]
   refine n_nil ?_
   refine hK17 _ _ ?_
   refine wp_ret ?_
   try simp only [Exit.inBlock,Exit.then]
   refine fin1 rfl rfl ?_
   try simp only [zD,zE]
   exact ⟨_, rfl, hX, NatRes.of_trim (hB1.nat hd (n := xs.length + ys.length) (by omega) (by omega)) (by rw [hv, List.take_length])⟩

end Go.Proofs.YtmcgcnpgkkfkoaaGreatDoor
