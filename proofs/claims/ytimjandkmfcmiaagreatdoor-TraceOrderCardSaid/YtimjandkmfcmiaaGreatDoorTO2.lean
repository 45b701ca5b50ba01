/-
 Texts of one claim, laid together: Dig, Ref1, Ref2, Ref3, Dig2, Ref4, Ref5, Ref6, Tree, Dig3, Ref7, Wide6, Wide1, Wide2, Wide3, Wide4, Wide5, Back, Wide7.
-/
import Derived.RangeFuncNested
import Derived.RangeFuncBound
import Derived.RangeFuncCalls
import Derived.RangeFuncBox
import Derived.RangeFuncLeaves
import Derived.Shelf.Abstract
import Derived.Shelf.RegionOpen
import Derived.WalkKit
import Derived.OwnWalkIn
import Derived.TacticsInMore
import Derived.LoopNIn
import Derived.LoopIn
import Derived.Maps.AppendAt
import Derived.Test.YtimjandkmfcmiaaGreatDoorTO1
set_option maxHeartbeats 8000000
set_option linter.unusedSimpArgs false
set_option linter.unusedVariables false
set_option linter.unusedSectionVars false
namespace Go.Lith
open Go.RowKit
abbrev Dk (x : Nat) : Value:=.int .i64 (x : Int)
structure d8 (w : World) (b : Nat) (A : Option Addr) (n cap : Nat) (xs : List Nat) : Prop where
 eq : n = xs.length
 row : ∀ (i x : Nat),xs[i]? = some x → ∃ a,A = some a ∧ a.block < b ∧ w.cell? (a.add i) = some (.int .i64 (x : Int))
 le : xs.length ≤ cap
 cap : cap ≤ 9223372036854775807
 len : xs.length ≤ 17592186044416
 digs : cM 65536 xs
structure qA (w : World) (b : Nat) : Prop where
 h : b ≤ w.heap.size
theorem qA.ext {w w' : World} {b : Nat} (h : qA w b) (hE : cD w w') : qA w' b:=⟨Nat.le_trans h.h hE.size⟩
theorem qA.chg {w w' : World} {b g : Nat} (h : qA w b) (hC : yF w w' g) (_ : True:=trivial) : qA w' b:=⟨by rw [hC.size]; exact h.h⟩
theorem qA.grew {w w' : World} {b base : Nat} (h : qA w b) (hG : m0 w w' base) (_ : True:=trivial) : qA w' b:=⟨Nat.le_trans h.h hG.size⟩
theorem cD.base {w0 w : World} (h : cD w0 w) : ∃ b,b = w.heap.size ∧ w0.heap.size ≤ b:=⟨_,rfl,h.size⟩
theorem qA.of {w0 w : World} {b : Nat} (_ : cD w0 w) (e : b = w.heap.size) : qA w b:=⟨Nat.le_of_eq e⟩
theorem iS.nil_of {w0 w : World} (_ : cD w0 w) (base : Nat) (E : TypeId) (c : Nat) : iS w base E c (.slice none 0 0) 0 []:=iS.nil w base E c
theorem eU.row0 {w : World} {g : Nat} {cs : List Value} {t : TypeId} (h : eU w g cs t) : pS w ⟨g,0,none⟩ cs:=h.row 0
section
variable {w w' : World} {b : Nat} {A : Option Addr} {n cap : Nat} {xs : List Nat}
theorem d8.ext (h : d8 w b A n cap xs) (hE : cD w w') : d8 w' b A n cap xs :=
 ⟨h.eq,fun i x hi=>let ⟨a,e,hb,hc⟩:=h.row i x hi; ⟨a,e,hb,hE.cell hc⟩,h.le,h.cap,h.len,h.digs⟩
theorem d8.mono {b' : Nat} (h : d8 w b A n cap xs) (hb : b ≤ b') : d8 w b' A n cap xs :=
 ⟨h.eq,fun i x hi=>let ⟨a,e,h1,hc⟩:=h.row i x hi; ⟨a,e,by omega,hc⟩,h.le,h.cap,h.len,h.digs⟩
theorem d8.here (h : d8 w b A n cap xs) : d8 w w.heap.size A n cap xs :=
 ⟨h.eq,fun i x hi=>by
  obtain ⟨a,e,_,hc⟩:=h.row i x hi;have:=World.block_lt_of_cell? _ _ hc;rw [jQ] at this;exact ⟨a,e,this,hc⟩,h.le,h.cap,h.len,h.digs⟩
theorem d8.chg {g : Nat} (h : d8 w b A n cap xs) (hC : yF w w' g) (hb : b ≤ g) : d8 w' b A n cap xs :=
 ⟨h.eq,fun i x hi=>by
  obtain ⟨a,e,h1,hc⟩:=h.row i x hi;exact ⟨a,e,h1,(hC.cell (by rw [jQ]; omega)).trans hc⟩,h.le,h.cap,h.len,h.digs⟩
theorem d8.grew {base : Nat} (h : d8 w b A n cap xs) (hG : m0 w w' base) (hb : b ≤ base) : d8 w' b A n cap xs :=
 ⟨h.eq,fun i x hi=>by
  obtain ⟨a,e,h1,hc⟩:=h.row i x hi;exact ⟨a,e,h1,(World.cell?_of_block (hG.block _ (by rw [jQ]; omega))).trans hc⟩,h.le,h.cap,h.len,h.digs⟩
theorem d8.take (h : d8 w b A n cap xs) (k : Nat) : d8 w b A (xs.take k).length cap (xs.take k) :=
 ⟨rfl,fun i x hi=>h.row i x (by rw [List.getElem?_take] at hi; split at hi; exact hi; cases hi),Nat.le_trans (by simp; omega) h.le,h.cap,Nat.le_trans (by simp; omega) h.len,h.digs.take k⟩
theorem d8.as (h : d8 w b A n cap xs) {ys : List Nat} (e : xs = ys) : d8 w b A n cap ys:=e ▸ h
theorem d8.get (h : d8 w b A n cap xs) {i : Nat} (hi : i < xs.length) : ∃ a,A = some a ∧ w.cell? (a.add i) = some (.int .i64 ((xs[i] : Nat) : Int)) ∧ xs[i] < 65536:=by
 obtain ⟨a,e,_,hc⟩:=h.row i xs[i] (List.getElem?_eq_getElem hi);exact ⟨a,e,hc,h.digs _ (List.getElem_mem hi)⟩
theorem d8.at {a : Addr} (h : d8 w b (some a) n cap xs) {i : Nat} (hi : i < xs.length) : w.cell? (a.add i) = some (.int .i64 ((xs[i] : Nat) : Int)):=by
 obtain ⟨a',e,hc,_⟩:=h.get hi;cases e;exact hc
theorem d8.lt (h : d8 w b A n cap xs) {i : Nat} (hi : i < xs.length) : xs[i] < 65536:=h.digs _ (List.getElem_mem hi)
theorem d8.nil (w : World) (b : Nat) : d8 w b none 0 0 []:=⟨rfl,fun i x hi=>by simp at hi,Nat.le_refl _,by omega,by simp,fun x hx=>by cases hx⟩
theorem d8.of_blk {g : Nat} {os : List Nat} {t : TypeId} (h : eU w g (os.map Dk) t) (hd : cM 65536 os) (hn : n = os.length) (hl : n ≤ 17592186044416) : d8 w w.heap.size (some ⟨g,0,none⟩) n n os :=
 ⟨hn,fun i x hi=>⟨_,rfl,h.lt,by rw [eY,Nat.zero_add]; exact h.cell (by simp [hi])⟩,by omega,by omega,by omega,hd⟩
theorem d8.of_owns {base : Nat} {v : Value} {E : TypeId} (h : iS w base E 1 v n (xs.map Dk)) (hn : n = xs.length) (hd : cM 65536 xs) (hl : n ≤ 17592186044416) : ∃ A c,v = .slice A n c ∧ d8 w w.heap.size A n c xs ∧ ∀ a,A = some a → base ≤ a.block:=by
 rcases h.row with ⟨rfl,rfl,hx⟩ | ⟨g,cap,rfl,hb,h1,h2,hg,hr⟩
 · obtain rfl : xs = []:=by simpa using hx
   exact ⟨none,0,rfl,d8.nil _ _,fun _ e=>by cases e⟩
 · exact ⟨_,cap,rfl,⟨hn,fun i x hi=>⟨_,rfl,hg,hr i _ (by simp [hi])⟩,by omega,h2,by omega,hd⟩,fun a e=>by cases e; exact hb⟩
theorem d8.rows (h : d8 w b A n cap xs) : ∀ j u,(xs.map Dk)[j]? = some u → ∃ a,A = some a ∧ w.cell? (a.add j) = some u:=fun j u hj=>by
 rw [List.getElem?_map] at hj;cases hx : xs[j]? with
 | none=>rw [hx] at hj; cases hj
 | some x =>
  rw [hx] at hj;cases hj;obtain ⟨a,e,_,hc⟩:=h.row j x hx;exact ⟨a,e,hc⟩
theorem iC.dig {S : World → Prop} (h : d8 w b A n cap xs) (k : iC w S) : iC w (fun w=>d8 w b A n cap xs ∧ S w):=⟨h,k⟩
end
theorem iS.snoc {w : World} {b : Nat} {E : TypeId} {v : Value} {os : List Nat} {x : Nat} (h : iS w b E 1 v (os.length + 1) (os.map Dk ++ [.int .i64 (x : Int)])) : iS w b E 1 v (os ++ [x]).length ((os ++ [x]).map Dk):=by simpa using h
def B0 (n : Nat) (v : Value) (w : World) : Prop:=∃ A cap,v = .slice A (digs 65536 n).length cap ∧ d8 w w.heap.size A (digs 65536 n).length cap (digs 65536 n)
structure Dl (w : World) (g : Nat) (A : Option Addr) (n cap : Nat) (xs : List Nat) : Prop where
 dig : d8 w w.heap.size A n cap xs
 ne : ∀ a,A = some a → a.block ≠ g
theorem Dl.ext {w w' : World} {g n cap : Nat} {A : Option Addr} {xs : List Nat} (h : Dl w g A n cap xs) (hE : cD w w') : Dl w' g A n cap xs:=⟨(h.dig.ext hE).here,h.ne⟩
theorem Dl.chg {w w' : World} {g g' n cap : Nat} {A : Option Addr} {xs : List Nat} (h : Dl w g A n cap xs) (hC : yF w w' g') (e : g' = g) : Dl w' g A n cap xs:=by
 subst e;refine ⟨⟨h.dig.eq,fun i x hi=>?_,h.dig.le,h.dig.cap,h.dig.len,h.dig.digs⟩,h.ne⟩;obtain ⟨a,ea,hb,hc⟩:=h.dig.row i x hi;exact ⟨a,ea,by rw [hC.size]; exact hb,(hC.cell (by rw [jQ]; exact h.ne a ea)).trans hc⟩
theorem Dl.of_trim {w : World} {b g n cap : Nat} {A : Option Addr} {xs ys : List Nat} (h : d8 w b A n cap xs) (e : trim xs = ys) (hne : ∀ a,A = some a → a.block ≠ g) : Dl w g A ys.length cap ys:=by
 refine ⟨?_,hne⟩;have:=(h.take (trim xs).length).here;rw [← fS,e] at this;exact this
theorem B0.of_trim {w : World} {b : Nat} {A : Option Addr} {xs : List Nat} {k cap n : Nat} (h : d8 w b A k cap xs) (hv : val 65536 xs = n) : B0 n (.slice A (trim xs).length cap) w:=by
 have e : trim xs = digs 65536 n:=iT (by omega) h.digs hv;refine ⟨A,cap,by rw [e],?_⟩;rw [← e];have:=(h.take (trim xs).length).here;rwa [← fS] at this
theorem B0.self {w : World} {b : Nat} {A : Option Addr} {xs : List Nat} {k cap : Nat} (h : d8 w b A k cap xs) (t : fK xs) : B0 (val 65536 xs) (.slice A k cap) w:=by
 have e : xs = digs 65536 (val 65536 xs):=by rw [← iT (by omega) h.digs rfl,t]
 refine ⟨A,cap,by rw [h.eq,← e],?_⟩;rw [← e,← h.eq];exact h.here
theorem eU.digit {w : World} {g : Nat} {os : List Nat} {t : TypeId} (h : eU w g (os.map Dk) t) {i : Nat} (hi : i < os.length) : w.cell? ⟨g,i,none⟩ = some (.int .i64 ((os[i] : Nat) : Int)) :=
 h.cell (by simp [hi])
theorem Dm {m n : Nat} (h : m < 9223372036854775808) : IntKind.i64.wrap ((m : Int).tdiv (n : Int)) = ((m / n : Nat) : Int):=sD h
theorem iS.grew {w w' : World} {base b' : Nat} {E : TypeId} {c n : Nat} {v : Value} {xs : List Value} (h : iS w base E c v n xs) (hG : m0 w w' b') (hb : ∀ a m k,v = .slice (some a) m k → a.block < b') : iS w' base E c v n xs:=by
 refine ⟨h.1,?_⟩;rcases h.2 with h | ⟨g,cap,cur,rfl,hbg,hg,h1,h2,h3,h4⟩
 · exact .inl h
 · exact .inr ⟨g,cap,cur,rfl,hbg,(hG.block g (hb _ _ _ rfl)).trans hg,h1,h2,h3,h4⟩
section
variable {P : Program} {ds : List Deferred} {l : List Value} {T ty : TypeId}
variable {ops : Array Oper} {Q : Exit → Act → World → Prop} {rest : List Oper} {d : Nat} {pos : String} {after : Array Edge} {w : World}
end
end Go.Lith
namespace Go.Proofs.YtimjandkmfcmiaaGreatDoor
open Go.RowKit Go.Lith
set_option maxRecDepth 100000
attribute [local irreducible] wpList wpQuiet dV Code.wp
theorem R9 {A : Option Addr} {xs : List Nat} {b na cap : Nat} (w : World) (hS : d8 w b A na cap xs) : gD Tryz.prog 99 [.slice A na cap] w (fun v _=>v = .slice A (trim xs).length cap):=by
 skip
 refine ⟨Vf,?_⟩;have hX:=cD.refl w;obtain rfl:=hS.eq;have hl:=hS.len;have hle:=hS.le;have hcp:=hS.cap
 go_enter Tryz.func99,Tryz.ntmps99
 refine aF (fun K1 hK1=>wp_region_lit (aA (aD) ?_));simp only[ev,zD,zE,zF,zG];refine aC ?_;refine hK1 _ _ ?_;refine aF (fun K2 hK2=>wp_block ?_);refine cX [0] [3,4,5,6,7,8,9,10,11,12,13,14,15,16,17,18,19] (fun n vs wl=>∃ (k : Nat),vs = [.slice A k cap] ∧ (cD w wl) ∧ (k ≤ xs.length) ∧ (trim (xs.take k) = trim xs) ∧ (n = k)) ?_ ?_
 ·
  apply Exists.intro;simp only[zQ,zR,zD,zE];exact ⟨xs.length,rfl,hX,Nat.le_refl _,by rw [List.take_length],rfl⟩
 ·
  intro n vs wr hI u;obtain ⟨k,rfl,hX,hk,ht,hn⟩:=hI;simp only[aK,aQ,aM,aP,zF,zG];refine aF (fun K3 hK3=>aF (fun K4 hK4=>?_));by_cases hk0 : 0 < k
  ·
   obtain ⟨a,rfl,hcell,hlt⟩:=(hS.ext hX).get (show k - 1 < xs.length by omega);refine wp_region_lit (aA (aB) (aA (bM rfl Tryz.underlying22 rfl) (aA (l2 rfl rfl (by omega)) ?_)));simp only[ev,zD,zE,zF,zG];refine aA (aB) ?_;simp only[ev,zD,zE,zF,zG];refine aW rfl (aA (aB) ?_);simp only[ev,zD,zE,zF,zG];refine aW rfl (aA (aB) ?_);simp only[ev,zD,zE,zF,zG];refine aW rfl (aA (bM rfl Tryz.underlying22 rfl) ?_);simp only[ev,zD,zE,zF,zG];refine aW rfl (aA (eA rfl rfl (aL (by omega) (by omega))) ?_);simp only[ev,zD,zE,zF,zG];refine aW rfl (aA (aT Tryz.underlying22 aO rfl rfl (by omega) (by omega) (d7 (show _ = k - 1 by omega))) ?_);simp only[ev,zD,zE,zF,zG];refine aW rfl ?_;refine aI rfl (lies1 hcell aZ) ?_;simp only[ev,zD,zE,zF,zG];refine aW rfl (aA (lZ rfl rfl) (aA (cQ rfl) ?_));simp only[ev,zD,zE,zF,zG];refine aC ?_;refine hK4 _ _ ?_;refine cK rfl (fun hc1=>?_) (fun hc1=>?_)
   ·
    refine wp_skip ?_;refine hK3 _ _ ?_;refine wp_block (wp_region_lit (aA (aB) (aA (aB) (aA (bM rfl Tryz.underlying22 rfl) ?_))));simp only[ev,zD,zE,zF,zG];refine aA (eA rfl rfl (aL (by omega) (by omega))) (aA (lS Tryz.underlying22 aO rfl rfl (show _ = k - 1 by omega) (by omega) (by omega)) (aA (aD) ?_));simp only[ev,zD,zE,zF,zG];refine aC ?_;simp only[Exit.inBlock,Exit.then];refine ⟨k - 1,_,?_,rfl,?_,?_⟩
    · omega
    · simp only[zQ,zR,zD,zE,aK,aQ,aM,aP,zF,zG]
    ·
     simp only[zQ,zR,zD,zE];exact ⟨k - 1,rfl,hX,by omega,yT hk0 (by omega) hc1 ht,rfl⟩
   ·
    refine wp_exit ?_;refine hK2 _ _ ?_;refine aF (fun K5 hK5=>wp_region_lit (aA (aB) (aA (aD) ?_)));simp only[ev,zD,zE,zF,zG];refine aC ?_;refine hK5 _ _ ?_;refine wp_ret ?_;try simp only[Exit.inBlock,Exit.then]
    refine bT rfl rfl ?_;try simp only[zD,zE]
    exact ⟨_,rfl,hX,by rw [← C8 hk0 (by omega) hc1 ht]⟩
  ·
   obtain rfl : k = 0:=by omega
   refine wp_region_lit (aA (aB) (aA (bM rfl Tryz.underlying22 rfl) (aA (iZ rfl rfl (by omega)) ?_)));simp only[ev,zD,zE,zF,zG];refine aA (aB) ?_;simp only[ev,zD,zE,zF,zG];refine bD rfl ?_;simp only[ev,zD,zE,zF,zG];refine bD rfl ?_;simp only[ev,zD,zE,zF,zG];refine bD rfl ?_;simp only[ev,zD,zE,zF,zG];refine bD rfl ?_;simp only[ev,zD,zE,zF,zG];refine bD rfl ?_;simp only[ev,zD,zE,zF,zG];refine bD rfl ?_;simp only[ev,zD,zE,zF,zG];refine bD rfl ?_;simp only[ev,zD,zE,zF,zG];refine aA (cU rfl) ?_;simp only[ev,zD,zE,zF,zG];refine aC ?_;refine hK4 _ _ ?_;refine eM rfl (wp_exit ?_);refine hK2 _ _ ?_;refine aF (fun K6 hK6=>wp_region_lit (aA (aB) (aA (aD) ?_)));simp only[ev,zD,zE,zF,zG];refine aC ?_;refine hK6 _ _ ?_;refine wp_ret ?_;try simp only[Exit.inBlock,Exit.then]
   refine bT rfl rfl ?_;try simp only[zD,zE]
   exact ⟨_,rfl,hX,by rw [← C9 ht]⟩
end Go.Proofs.YtimjandkmfcmiaaGreatDoor
namespace Go.Proofs.YtimjandkmfcmiaaGreatDoor
open Go.RowKit Go.Lith
set_option maxRecDepth 100000
attribute [local irreducible] wpList wpQuiet dV Code.wp
end Go.Proofs.YtimjandkmfcmiaaGreatDoor
namespace Go.Proofs.YtimjandkmfcmiaaGreatDoor
open Go.RowKit Go.Lith
set_option maxRecDepth 100000
attribute [local irreducible] wpList wpQuiet dV Code.wp
end Go.Proofs.YtimjandkmfcmiaaGreatDoor
namespace Go.Lith
open Go.RowKit
def E6 (x : Nat) : List UInt8:=[UInt8.ofNat (x / 256),UInt8.ofNat x]
theorem wH (ys : List Nat) (h : cM 65536 ys) : val 256 (((ys.reverse.flatMap E6).reverse).map UInt8.toNat) = val 65536 ys ∧ cM 256 (((ys.reverse.flatMap E6).reverse).map UInt8.toNat):=by
 induction ys with
 | nil=>exact ⟨rfl,fun _ h=>by cases h⟩
 | cons y ys ih =>
  have hy:=h y (by simp);obtain ⟨i1,i2⟩:=ih (fun x hx=>h x (by simp [hx]));have e : (((y :: ys).reverse.flatMap E6).reverse).map UInt8.toNat = [y % 256,y / 256 % 256] ++ (((ys.reverse.flatMap E6).reverse).map UInt8.toNat):=by
   simp [List.flatMap_append,E6,UInt8.toNat_ofNat']
  rw [e];refine ⟨?_,?_⟩
  · rw [eX,i1]
    simp only[val,List.length_cons,List.length_nil];omega
  · refine cM.append ?_ i2
    intro x hx;simp at hx;omega
theorem Dn {ys : List Nat} (h : cM 65536 ys) (neg : Bool) : iX (gB (ys.reverse.flatMap E6)) = cW (wC neg (val 65536 ys)):=by
 obtain ⟨h1,h2⟩:=wH ys h;rw [uE,iT (by omega) h2 h1,cW,qV,oF];rfl
def jC (ys : List Nat) (k : Nat) : List UInt8:=gB ((ys.drop k).reverse.flatMap E6)
theorem B1 {l m : List UInt8} (h : gB l ≠ []) : gB (l ++ m) = gB l ++ m:=by
 induction l with
 | nil=>exact absurd rfl h
 | cons b l ih =>
  by_cases hb : b = 0
  · subst hb
    have e : gB (0 :: l) = gB l:=by simp [gB]
    have e2 : gB ((0 :: l) ++ m) = gB (l ++ m):=by simp [gB]
    rw [e] at h;rw [e,e2,ih h]
  · simp [gB,hb]
theorem E7 {ys : List Nat} {k : Nat} (hk : 0 < k) (hl : k - 1 < ys.length) (h : jC ys k ≠ []) : jC ys (k - 1) = jC ys k ++ [UInt8.ofNat (ys[k - 1] / 256)] ++ [UInt8.ofNat (ys[k - 1] % 256)] ∧ jC ys (k - 1) ≠ []:=by
 have e : jC ys (k - 1) = jC ys k ++ [UInt8.ofNat (ys[k - 1] / 256)] ++ [UInt8.ofNat (ys[k - 1] % 256)]:=by
  unfold jC at *
  rw [List.drop_eq_getElem_cons hl,show k - 1 + 1 = k by omega,List.reverse_cons,List.flatMap_append,B1 h];have : UInt8.ofNat (ys[k - 1] % 256) = UInt8.ofNat (ys[k - 1]):=by
   apply UInt8.toNat_inj.1;simp [UInt8.toNat_ofNat']
  rw [this];simp [E6]
 exact ⟨e,by rw [e]; simp⟩
theorem Do {ys : List Nat} (hl : ys.length - 1 < ys.length) (h0 : 0 < ys[ys.length - 1]) (h16 : ys[ys.length - 1] < 65536) :
 jC ys (ys.length - 1) = (if 256 ≤ ys[ys.length - 1] then [UInt8.ofNat (ys[ys.length - 1] / 256)] else []) ++ [UInt8.ofNat (ys[ys.length - 1] % 256)] ∧ jC ys (ys.length - 1) ≠ []:=by
 have e : jC ys (ys.length - 1) = gB (E6 (ys[ys.length - 1])):=by
  unfold jC;rw [List.drop_eq_getElem_cons hl,show ys.length - 1 + 1 = ys.length by omega,List.drop_length];simp
 generalize ys[ys.length - 1] = x at *
 have hm : UInt8.ofNat (x % 256) = UInt8.ofNat x:=by
  apply UInt8.toNat_inj.1;simp [UInt8.toNat_ofNat']
 have ez : ∀ y : Nat,y < 256 → (UInt8.ofNat y = 0 ↔ y = 0):=fun y hy=>by
  rw [← UInt8.toNat_inj];simp only[UInt8.toNat_ofNat',UInt8.toNat_zero];rw [Nat.mod_eq_of_lt (by omega)]
 have e2 : gB (E6 x) = (if 256 ≤ x then [UInt8.ofNat (x / 256)] else []) ++ [UInt8.ofNat (x % 256)]:=by
  split
  · rename_i h
    have hn : ¬ UInt8.ofNat (x / 256) = 0:=fun e=>by have:=(ez _ (by omega)).1 e; omega
    rw [hm];simp [gB,E6,hn]
  · rename_i h
    have hz : UInt8.ofNat (x / 256) = 0:=(ez _ (by omega)).2 (by omega);have hn : ¬ UInt8.ofNat x = 0:=fun e=>by have:=(ez _ (by omega)).1 e; omega
    rw [hm];simp [gB,E6,hz,hn]
 exact ⟨e.trans e2,by rw [e,e2]; simp⟩
theorem y8 (ys : List Nat) : jC ys ys.length = []:=by unfold jC; rw [List.drop_length]; rfl
theorem E8 {ys : List Nat} (h : cM 65536 ys) (neg : Bool) : iX (jC ys 0) = cW (wC neg (val 65536 ys)):=by
 unfold jC; rw [List.drop_zero]; exact Dn h neg
theorem Ht (ys : List Nat) (k : Nat) : (jC ys k).length ≤ 2 * ys.length:=by
 have h1 : ∀ l : List UInt8,(gB l).length ≤ l.length:=fun l=>by
  induction l with
  | nil=>simp [gB]
  | cons b l ih =>
   unfold gB at *
   rw [List.dropWhile_cons];split
   · simp; omega
   · simp
 have h2 : ∀ l : List Nat,(l.flatMap E6).length = 2 * l.length:=fun l=>by
  induction l with
  | nil=>rfl
  | cons x l ih=>rw [List.flatMap_cons,List.length_append,ih]; simp [E6]; omega
 refine Nat.le_trans (h1 _) ?_;rw [h2];simp;omega
theorem iS.snoc8 {w : World} {b : Nat} {E : TypeId} {v : Value} {os : List UInt8} {x : Nat} (h : iS w b E 1 v (os.length + 1) (os.map Nu ++ [.int .u8 (x : Int)])) (hx : x < 256) : iS w b E 1 v (os ++ [UInt8.ofNat x]).length ((os ++ [UInt8.ofNat x]).map Nu):=by
 have : Nu (UInt8.ofNat x) = .int .u8 (x : Int):=by simp only[Nu,UInt8.toNat_ofNat',Value.int.injEq,true_and]; rw [Nat.mod_eq_of_lt (by omega)]
 rw [List.map_append,List.map_singleton,this,List.length_append];exact h
theorem pB {x : Nat} (h : x < 256) : IntKind.u8.wrap (x : Int) = (x : Int):=lH (by omega) (by omega)
theorem wI {os : List Nat} {m V : Nat} (hv : val 65536 os + 65536 ^ os.length * m = V) (hd : cM 65536 os) (h2 : m < 2 ^ (64 - os.length)) (h3 : os.length ≤ 64) (h0 : 0 < m) :
 val 65536 (os ++ [m % 65536]) + 65536 ^ (os ++ [m % 65536]).length * (m / 65536) = V ∧ cM 65536 (os ++ [m % 65536]) ∧ m / 65536 < 2 ^ (64 - (os ++ [m % 65536]).length) ∧ (os ++ [m % 65536]).length ≤ 64:=by
 have hl : os.length < 64:=by
  rcases Nat.lt_or_ge os.length 64 with h | h
  · exact h
  · rw [show 64 - os.length = 0 by omega] at h2; omega
 refine ⟨?_,hd.append (yP (Nat.mod_lt _ (by omega)) (o7 _)),?_,by simp; omega⟩
 · rw [eX,List.length_append,List.length_singleton,Nat.pow_succ]
   simp only[val,Nat.mul_zero,Nat.add_zero];have e : m = m % 65536 + 65536 * (m / 65536):=by omega
   generalize m / 65536 = q at *
   generalize m % 65536 = r at *
   generalize 65536 ^ os.length = p at *
   subst e
   grind
 · rw [List.length_append,List.length_singleton]
   have e : 2 ^ (64 - os.length) = 2 * 2 ^ (64 - (os.length + 1)):=by rw [← Nat.pow_succ']; congr 1; omega
   rw [e] at h2;omega
end Go.Lith
namespace Go.Proofs.YtimjandkmfcmiaaGreatDoor
open Go.RowKit Go.Lith
set_option maxRecDepth 100000
attribute [local irreducible] wpList wpQuiet dV Code.wp
theorem Gb {A : Option Addr} {xs : List Nat} {b na cap : Nat} {neg : Bool} (w : World) (hS : d8 w b A na cap xs) (hl : xs.length ≤ 100000000000) : gD Tryz.prog 60 [.bool neg,.slice A na cap] w (fun v _=>v = W (wC neg (val 65536 xs))):=by
 skip
 refine ⟨Ut,?_⟩;have hX:=cD.refl w;obtain rfl:=hS.eq;have hlt:=l7 xs;have hT : d8 w w.heap.size A (trim xs).length cap (trim xs):=by
  have h:=(hS.take (trim xs).length).here;rwa [← fS] at h
 have htr:=oC xs;have hvx:=nH 65536 xs;obtain ⟨ys,hys⟩ : ∃ ys,ys = trim xs:=⟨_,rfl⟩
 rw [← hys] at hT htr hlt hvx;have hyd:=hT.digs;have h2l:=Ht ys
 go_enter Tryz.func60,Tryz.ntmps60
 refine aF (fun K1 hK1=>wp_region_lit ?_);refine fR cV rfl ?_;intro w1 g1 hE hg1 hB1;have hG1:=Nat.le_trans hX.size hg1
 (try replace hT:=hT.ext hE); replace hX:=hX.trans hE
 clear hE hg1;simp only[ev,zD,zE,zF,zG];refine aC ?_;refine hK1 _ _ ?_;refine aF (fun K2 hK2=>wp_region_lit (aA (aB) ?_));simp only[ev,zD,zE,zF,zG];refine bO rfl rfl (R9 _ (hS.ext hX)) ?_;rintro v w2 hE rfl;replace hB1:=hB1.ext hE; (try replace hT:=hT.ext hE); replace hX:=hX.trans hE;clear hE;rw [← hys];clear hys;simp only[ev,zD,zE,zF,zG];refine aA (aD) ?_;simp only[ev,zD,zE,zF,zG];refine aC ?_;refine hK2 _ _ ?_;refine aF (fun K3 hK3=>aF (fun K4 hK4=>?_));by_cases hy0 : ys = []
 ·
  subst hy0;refine wp_region_lit (aA (aB) (aA (bM rfl Tryz.underlying22 rfl) (aA (nW rfl rfl (by rfl)) ?_)));simp only[ev,zD,zE,zF,zG];refine aC ?_;refine hK4 _ _ ?_;refine bS rfl (aF (fun K5 hK5=>wp_region_lit (aA (uC) ?_)));simp only[ev,zD,zE,zF,zG];refine bZ rfl (by simp only[ev,zD,zE]; rfl) (by exact aH) hB1 (by simp) (by simp [Value.oneCell']) ?_;clear hB1; intro w3 hC hB1
  (try replace hT:=hT.chg hC (by first | assumption | rfl)); replace hX:=hX.chg hC hG1
  clear hC;simp only[a8,zH,zI,zJ,zK,zL,zM,zN,zO,zP,Nat.reduceAdd] at hB1;refine aC ?_;refine hK5 _ _ ?_;refine wp_ret ?_;try simp only[Exit.inBlock,Exit.then]
  refine bT rfl ⟨_,rfl,(hB1.lies aY aH rfl rfl)⟩ ?_;try simp only[zD,zE]
  exact ⟨_,rfl,hX,by rw [← hvx]; cases neg <;> rfl⟩
 ·
  have hyl : 0 < ys.length:=List.length_pos_iff.2 hy0;have htop:=o9 htr hyl;refine wp_region_lit (aA (aB) (aA (bM rfl Tryz.underlying22 rfl) (aA (nX rfl rfl (by omega)) ?_)));simp only[ev,zD,zE,zF,zG];refine aC ?_;refine hK4 _ _ ?_;refine eM rfl (wp_skip ?_);refine hK3 _ _ ?_;refine aF (fun K6 hK6=>wp_region_lit (aA (aD) ?_));simp only[ev,zD,zE,zF,zG];obtain ⟨b5,hb5e,hb5l⟩:=hX.base;have hS5:=qA.of hX hb5e;have hO5:=iS.nil_of hX b5 5 1;have hl5_1 : g1 < b5:=by rw [hb5e]; exact hB1.lt
  clear hb5e;refine aC ?_;refine hK6 _ _ ?_;refine aF (fun K7 hK7=>aF (fun K8 hK8=>wp_region_lit (aA (aB) (aA (bM rfl Tryz.underlying22 rfl) (aA (eA rfl rfl (aL (by omega) (by omega))) ?_)))));simp only[ev,zD,zE,zF,zG];refine aA (aD) ?_;simp only[ev,zD,zE,zF,zG];refine aC ?_;refine hK8 _ _ ?_;refine wp_block ?_;refine cX [5,6] [16,17,18,19,20,21,22,23,24,25,26,27,28,29,30,31,32,33,34,35,36,37,38,39,40,41,42,43,44,45,46,47,48,49] (fun n vs wl=>∃ (k : Nat) (os : List UInt8) (v5 : Value),vs = [v5,.int .i64 ((k:Int) - 1)] ∧ (cD w wl) ∧ (eU wl g1 [.bool false,.string ⟨#[]⟩] 35) ∧ (d8 wl w.heap.size A ys.length cap ys) ∧ (qA wl b5) ∧ (iS wl b5 5 1 v5 os.length (os.map Nu)) ∧ (os = jC ys k) ∧ (k ≤ ys.length) ∧ (k < ys.length → jC ys k ≠ []) ∧ (os.length ≤ 2 * ys.length) ∧ (n = k)) ?_ ?_
  ·
   apply Exists.intro;simp only[zQ,zR,zD,zE];exact ⟨ys.length,[],_,rfl,hX,hB1,hT,hS5,hO5,(y8 ys).symm,by omega,fun h=>absurd h (by omega),by simp,rfl⟩
  ·
   intro n vs wr hI u;obtain ⟨k,os,v5,rfl,hX,hB1,hT,hS5,hO5,hos,hk,hne,hosl,hn⟩:=hI;simp only[aK,aQ,aM,aP,zF,zG];refine aF (fun K9 hK9=>aF (fun K10 hK10=>wp_region_lit (aA (aB) (aA (kK rfl rfl) ?_))));simp only[ev,zD,zE,zF,zG];refine aC ?_;refine hK10 _ _ ?_;refine cK rfl (fun hc2=>?_) (fun hc2=>?_)
   ·
    refine wp_skip ?_;refine hK9 _ _ ?_;refine aF (fun K11 hK11=>wp_block (aF (fun K12 hK12=>aF (fun K13 hK13=>?_))));obtain ⟨a,rfl,hca,hla⟩:=hT.get (show k - 1 < ys.length by omega);rcases (show k < ys.length ∨ k = ys.length by omega) with hkl | hkl
    ·
     obtain ⟨r1,r2⟩:=E7 (show 0 < k by omega) (by omega) (hne hkl);refine wp_region_lit (aA (aB) (aA (aB) (aA (bM rfl Tryz.underlying22 rfl) ?_)));simp only[ev,zD,zE,zF,zG];refine aA (eA rfl rfl (aL (by omega) (by omega))) (aA (bR rfl rfl (by omega)) (aA (aB) ?_));simp only[ev,zD,zE,zF,zG];refine bW rfl ?_;simp only[ev,zD,zE,zF,zG];refine bW rfl ?_;simp only[ev,zD,zE,zF,zG];refine bW rfl ?_;simp only[ev,zD,zE,zF,zG];refine bW rfl ?_;simp only[ev,zD,zE,zF,zG];refine bW rfl ?_;simp only[ev,zD,zE,zF,zG];refine aA (cQ rfl) ?_;simp only[ev,zD,zE,zF,zG];refine aC ?_;refine hK13 _ _ ?_;refine bS rfl ?_;have hca:=hT.at (show k - 1 < ys.length by omega);refine wp_region_lit (aA (aB) (aA (aB) (aA (aB) ?_)));simp only[ev,zD,zE,zF,zG];refine aA (aT Tryz.underlying22 aO rfl rfl (by omega) (by omega) (d7 (show _ = k - 1 by omega))) ?_;simp only[ev,zD,zE,zF,zG];refine aI rfl (lies1 hca aZ) ?_;simp only[ev,zD,zE,zF,zG];refine aA (gS rfl rfl (by omega) (sD (n:=256) (by omega))) (aA (dH Tryz.underlying5 Tryz.underlying3 rfl (pB (by omega))) ?_);simp only[ev,zD,zE,zF,zG];refine b7 Tryz.underlying139 (z:=.int .u8 0) (by kernel_rfl) rfl (by simp only[ev,zD,zE,zF,zG]; rfl) (by rfl) ?_;intro w3 g2 hE hg2 hB2;have hG2:=Nat.le_trans hX.size hg2; have hN2_1 : g2 ≠ g1:=Nat.ne_of_gt (Nat.lt_of_lt_of_le hB1.lt hg2);replace hB1:=hB1.ext hE; (try replace hT:=hT.ext hE); (try replace hS5:=hS5.ext hE); (try replace hO5:=hO5.ext hE); replace hX:=hX.trans hE;clear hE hg2;simp only[ev,zD,zE,zF,zG];refine kO rfl Tryz.underlying139 yH rfl (by decide) rfl hO5 rfl (news:=_) rfl hB2.row0 (by simp [Value.oneCell']) (by omega) (by omega) hS5.h ?_;clear hO5; intro v5 w4 hO5 hGr _;replace hB1:=hB1.grew hGr hl5_1; (try replace hT:=hT.grew hGr (by first | trivial | omega)); (try replace hS5:=hS5.grew hGr (by first | trivial | omega)); replace hX:=hX.grown hGr hb5l;clear hGr;replace hO5:=hO5.snoc8 (by omega);simp only[ev,zD,zE,zF,zG];refine aA (aD) ?_;simp only[ev,zD,zE,zF,zG];refine aC ?_;refine hK12 _ _ ?_;have hca:=hT.at (show k - 1 < ys.length by omega);refine wp_region_lit (aA (aB) (aA (aB) (aA (aB) ?_)));simp only[ev,zD,zE,zF,zG];refine aA (aT Tryz.underlying22 aO rfl rfl (by omega) (by omega) (d7 (show _ = k - 1 by omega))) ?_;simp only[ev,zD,zE,zF,zG];refine aI rfl (lies1 hca aZ) ?_;simp only[ev,zD,zE,zF,zG];refine aA (dF rfl rfl (by omega) (mT (n:=256))) (aA (dH Tryz.underlying5 Tryz.underlying3 rfl (pB (by omega))) ?_);simp only[ev,zD,zE,zF,zG];refine b7 Tryz.underlying139 (z:=.int .u8 0) (by kernel_rfl) rfl (by simp only[ev,zD,zE,zF,zG]; rfl) (by rfl) ?_;intro w5 g3 hE hg3 hB3;have hG3:=Nat.le_trans hX.size hg3; have hN3_1 : g3 ≠ g1:=Nat.ne_of_gt (Nat.lt_of_lt_of_le hB1.lt hg3);replace hB1:=hB1.ext hE; (try replace hT:=hT.ext hE); (try replace hS5:=hS5.ext hE); (try replace hO5:=hO5.ext hE); replace hX:=hX.trans hE;clear hE hg3;simp only[ev,zD,zE,zF,zG];refine kO rfl Tryz.underlying139 yH rfl (by decide) rfl hO5 rfl (news:=_) rfl hB3.row0 (by simp [Value.oneCell']) (by first | omega | (simp; omega)) (by first | omega | (simp; omega)) hS5.h ?_;clear hO5; intro v5 w6 hO5 hGr _;replace hB1:=hB1.grew hGr hl5_1; (try replace hT:=hT.grew hGr (by first | trivial | omega)); (try replace hS5:=hS5.grew hGr (by first | trivial | omega)); replace hX:=hX.grown hGr hb5l;clear hGr;replace hO5:=hO5.snoc8 (by omega);simp only[ev,zD,zE,zF,zG];refine aA (aD) ?_;simp only[ev,zD,zE,zF,zG];refine aC ?_;refine hK11 _ _ ?_;refine wp_region_lit (aA (aB) (aA (eA rfl rfl (aL (by omega) (by omega))) (aA (aD) ?_)));simp only[ev,zD,zE,zF,zG];refine aC ?_;have hos2 : os ++ [UInt8.ofNat (ys[k - 1] / 256)] ++ [UInt8.ofNat (ys[k - 1] % 256)] = jC ys (k - 1):=by rw [r1,hos]
     rw [show ((k:Int) - 1 - 1) = ((k - 1 : Nat) : Int) - 1 by omega];simp only[Exit.inBlock,Exit.then];refine ⟨k - 1,_,?_,rfl,?_,?_⟩
     · omega
     · simp only[zQ,zR,zD,zE,aK,aQ,aM,aP,zF,zG]
     ·
      simp only[zQ,zR,zD,zE];exact ⟨k - 1,os ++ [UInt8.ofNat (ys[k - 1] / 256)] ++ [UInt8.ofNat (ys[k - 1] % 256)],v5,rfl,hX,hB1,hT,hS5,hO5,hos2,by omega,fun _=>r2,by rw [hos2]; exact h2l _,rfl⟩
    ·
     subst hkl;obtain ⟨f1,f2⟩:=Do (by omega) htop hla;have hos0 : os = []:=by rw [hos]; exact y8 ys
     refine wp_region_lit (aA (aB) (aA (aB) (aA (bM rfl Tryz.underlying22 rfl) ?_)));simp only[ev,zD,zE,zF,zG];refine aA (eA rfl rfl (aL (by omega) (by omega))) (aA (eW rfl rfl (by omega)) (aA (aB) ?_));simp only[ev,zD,zE,zF,zG];refine aW rfl (aA (aB) ?_);simp only[ev,zD,zE,zF,zG];refine aW rfl (aA (aB) ?_);simp only[ev,zD,zE,zF,zG];refine aW rfl (aA (aT Tryz.underlying22 aO rfl rfl (by omega) (by omega) (d7 (show _ = ys.length - 1 by omega))) ?_);simp only[ev,zD,zE,zF,zG];refine aW rfl ?_;refine aI rfl (lies1 hca aZ) ?_;simp only[ev,zD,zE,zF,zG];refine aW rfl (aA (kK rfl rfl) (aA (cU rfl) ?_));simp only[ev,zD,zE,zF,zG];refine aC ?_;refine hK13 _ _ ?_;refine cK rfl (fun hc3=>?_) (fun hc3=>?_)
     ·
      have hca:=hT.at (show ys.length - 1 < ys.length by omega);refine wp_region_lit (aA (aB) (aA (aB) (aA (aB) ?_)));simp only[ev,zD,zE,zF,zG];refine aA (aT Tryz.underlying22 aO rfl rfl (by omega) (by omega) (d7 (show _ = ys.length - 1 by omega))) ?_;simp only[ev,zD,zE,zF,zG];refine aI rfl (lies1 hca aZ) ?_;simp only[ev,zD,zE,zF,zG];refine aA (gS rfl rfl (by omega) (sD (n:=256) (by omega))) (aA (dH Tryz.underlying5 Tryz.underlying3 rfl (pB (by omega))) ?_);simp only[ev,zD,zE,zF,zG];refine b7 Tryz.underlying139 (z:=.int .u8 0) (by kernel_rfl) rfl (by simp only[ev,zD,zE,zF,zG]; rfl) (by rfl) ?_;intro w3 g2 hE hg2 hB2;have hG2:=Nat.le_trans hX.size hg2; have hN2_1 : g2 ≠ g1:=Nat.ne_of_gt (Nat.lt_of_lt_of_le hB1.lt hg2);replace hB1:=hB1.ext hE; (try replace hT:=hT.ext hE); (try replace hS5:=hS5.ext hE); (try replace hO5:=hO5.ext hE); replace hX:=hX.trans hE;clear hE hg2;simp only[ev,zD,zE,zF,zG];refine kO rfl Tryz.underlying139 yH rfl (by decide) rfl hO5 rfl (news:=_) rfl hB2.row0 (by simp [Value.oneCell']) (by omega) (by omega) hS5.h ?_;clear hO5; intro v5 w4 hO5 hGr _;replace hB1:=hB1.grew hGr hl5_1; (try replace hT:=hT.grew hGr (by first | trivial | omega)); (try replace hS5:=hS5.grew hGr (by first | trivial | omega)); replace hX:=hX.grown hGr hb5l;clear hGr;replace hO5:=hO5.snoc8 (by omega);simp only[ev,zD,zE,zF,zG];refine aA (aD) ?_;simp only[ev,zD,zE,zF,zG];refine aC ?_;refine hK12 _ _ ?_;have hca:=hT.at (show ys.length - 1 < ys.length by omega);refine wp_region_lit (aA (aB) (aA (aB) (aA (aB) ?_)));simp only[ev,zD,zE,zF,zG];refine aA (aT Tryz.underlying22 aO rfl rfl (by omega) (by omega) (d7 (show _ = ys.length - 1 by omega))) ?_;simp only[ev,zD,zE,zF,zG];refine aI rfl (lies1 hca aZ) ?_;simp only[ev,zD,zE,zF,zG];refine aA (dF rfl rfl (by omega) (mT (n:=256))) (aA (dH Tryz.underlying5 Tryz.underlying3 rfl (pB (by omega))) ?_);simp only[ev,zD,zE,zF,zG];refine b7 Tryz.underlying139 (z:=.int .u8 0) (by kernel_rfl) rfl (by simp only[ev,zD,zE,zF,zG]; rfl) (by rfl) ?_;intro w5 g3 hE hg3 hB3;have hG3:=Nat.le_trans hX.size hg3; have hN3_1 : g3 ≠ g1:=Nat.ne_of_gt (Nat.lt_of_lt_of_le hB1.lt hg3);replace hB1:=hB1.ext hE; (try replace hT:=hT.ext hE); (try replace hS5:=hS5.ext hE); (try replace hO5:=hO5.ext hE); replace hX:=hX.trans hE;clear hE hg3;simp only[ev,zD,zE,zF,zG];refine kO rfl Tryz.underlying139 yH rfl (by decide) rfl hO5 rfl (news:=_) rfl hB3.row0 (by simp [Value.oneCell']) (by first | omega | (simp; omega)) (by first | omega | (simp; omega)) hS5.h ?_;clear hO5; intro v5 w6 hO5 hGr _;replace hB1:=hB1.grew hGr hl5_1; (try replace hT:=hT.grew hGr (by first | trivial | omega)); (try replace hS5:=hS5.grew hGr (by first | trivial | omega)); replace hX:=hX.grown hGr hb5l;clear hGr;replace hO5:=hO5.snoc8 (by omega);simp only[ev,zD,zE,zF,zG];refine aA (aD) ?_;simp only[ev,zD,zE,zF,zG];refine aC ?_;refine hK11 _ _ ?_;refine wp_region_lit (aA (aB) (aA (eA rfl rfl (aL (by omega) (by omega))) (aA (aD) ?_)));simp only[ev,zD,zE,zF,zG];refine aC ?_;have hos2 : os ++ [UInt8.ofNat (ys[ys.length - 1] / 256)] ++ [UInt8.ofNat (ys[ys.length - 1] % 256)] = jC ys (ys.length - 1):=by rw [f1,if_pos (by omega),hos0]; rfl
      rw [show ((ys.length:Int) - 1 - 1) = ((ys.length - 1 : Nat) : Int) - 1 by omega];simp only[Exit.inBlock,Exit.then];refine ⟨ys.length - 1,_,?_,rfl,?_,?_⟩
      · omega
      · simp only[zQ,zR,zD,zE,aK,aQ,aM,aP,zF,zG]
      ·
       simp only[zQ,zR,zD,zE];exact ⟨ys.length - 1,os ++ [UInt8.ofNat (ys[ys.length - 1] / 256)] ++ [UInt8.ofNat (ys[ys.length - 1] % 256)],v5,rfl,hX,hB1,hT,hS5,hO5,hos2,by omega,fun _=>f2,by rw [hos2]; exact h2l _,rfl⟩
     ·
      refine wp_skip ?_;refine hK12 _ _ ?_;have hca:=hT.at (show ys.length - 1 < ys.length by omega);refine wp_region_lit (aA (aB) (aA (aB) (aA (aB) ?_)));simp only[ev,zD,zE,zF,zG];refine aA (aT Tryz.underlying22 aO rfl rfl (by omega) (by omega) (d7 (show _ = ys.length - 1 by omega))) ?_;simp only[ev,zD,zE,zF,zG];refine aI rfl (lies1 hca aZ) ?_;simp only[ev,zD,zE,zF,zG];refine aA (dF rfl rfl (by omega) (mT (n:=256))) (aA (dH Tryz.underlying5 Tryz.underlying3 rfl (pB (by omega))) ?_);simp only[ev,zD,zE,zF,zG];refine b7 Tryz.underlying139 (z:=.int .u8 0) (by kernel_rfl) rfl (by simp only[ev,zD,zE,zF,zG]; rfl) (by rfl) ?_;intro w3 g2 hE hg2 hB2;have hG2:=Nat.le_trans hX.size hg2; have hN2_1 : g2 ≠ g1:=Nat.ne_of_gt (Nat.lt_of_lt_of_le hB1.lt hg2);replace hB1:=hB1.ext hE; (try replace hT:=hT.ext hE); (try replace hS5:=hS5.ext hE); (try replace hO5:=hO5.ext hE); replace hX:=hX.trans hE;clear hE hg2;simp only[ev,zD,zE,zF,zG];refine kO rfl Tryz.underlying139 yH rfl (by decide) rfl hO5 rfl (news:=_) rfl hB2.row0 (by simp [Value.oneCell']) (by first | omega | (simp; omega)) (by first | omega | (simp; omega)) hS5.h ?_;clear hO5; intro v5 w4 hO5 hGr _;replace hB1:=hB1.grew hGr hl5_1; (try replace hT:=hT.grew hGr (by first | trivial | omega)); (try replace hS5:=hS5.grew hGr (by first | trivial | omega)); replace hX:=hX.grown hGr hb5l;clear hGr;replace hO5:=hO5.snoc8 (by omega);simp only[ev,zD,zE,zF,zG];refine aA (aD) ?_;simp only[ev,zD,zE,zF,zG];refine aC ?_;refine hK11 _ _ ?_;refine wp_region_lit (aA (aB) (aA (eA rfl rfl (aL (by omega) (by omega))) (aA (aD) ?_)));simp only[ev,zD,zE,zF,zG];refine aC ?_;have hos2 : os ++ [UInt8.ofNat (ys[ys.length - 1] % 256)] = jC ys (ys.length - 1):=by rw [f1,if_neg (by omega),hos0]
      rw [show ((ys.length:Int) - 1 - 1) = ((ys.length - 1 : Nat) : Int) - 1 by omega];simp only[Exit.inBlock,Exit.then];refine ⟨ys.length - 1,_,?_,rfl,?_,?_⟩
      · omega
      · simp only[zQ,zR,zD,zE,aK,aQ,aM,aP,zF,zG]
      ·
       simp only[zQ,zR,zD,zE];exact ⟨ys.length - 1,os ++ [UInt8.ofNat (ys[ys.length - 1] % 256)],v5,rfl,hX,hB1,hT,hS5,hO5,hos2,by omega,fun _=>f2,by rw [hos2]; exact h2l _,rfl⟩
   ·
    refine wp_exit ?_;refine hK7 _ _ ?_;refine aF (fun K14 hK14=>wp_region_lit (aA (aB) (aA (aB) ?_)));simp only[ev,zD,zE,zF,zG];refine oX (wA Tryz.underlying139 Tryz.underlying5 Tryz.underlying9 rfl hO5) ?_;simp only[ev,zD,zE,zF,zG];refine aA (l6 rfl rfl) ?_;simp only[ev,zD,zE,zF,zG];refine bZ rfl (by simp only[ev,zD,zE]; rfl) (by exact aH) hB1 (by simp) (by simp [Value.oneCell']) ?_;clear hB1; intro w3 hC hB1
    (try replace hT:=hT.chg hC (by first | assumption | rfl)); (try replace hS5:=hS5.chg hC (by first | assumption | rfl)); (try replace hO5:=hO5.chg hC (by first | assumption | rfl)); replace hX:=hX.chg hC hG1
    clear hC;simp only[a8,zH,zI,zJ,zK,zL,zM,zN,zO,zP,Nat.reduceAdd] at hB1;refine aC ?_;refine hK14 _ _ ?_;refine wp_ret ?_;try simp only[Exit.inBlock,Exit.then]
    refine bT rfl ⟨_,rfl,(hB1.lies aY aH rfl rfl)⟩ ?_;try simp only[zD,zE]
    exact ⟨_,rfl,hX,by (obtain rfl : k = 0:=by omega); (have hV : val 65536 ys ≠ 0:=Nat.ne_of_gt (sA (by omega) htr hy0)); rw [hos,E8 hyd neg,← hvx]; simp [Lith.W,Bu,hV]⟩
end Go.Proofs.YtimjandkmfcmiaaGreatDoor
namespace Go.Proofs.YtimjandkmfcmiaaGreatDoor
open Go.RowKit Go.Lith
set_option maxRecDepth 100000
attribute [local irreducible] wpList wpQuiet dV Code.wp
theorem Gc {n : Int} (h : kW n) : eI Tryz.prog 39 [.int .i64 n] (W n):=by
 intro w;refine ⟨Uf,?_⟩;have hX:=cD.refl w;have hna:=h.natAbs
 go_enter Tryz.func39,Tryz.ntmps39
 refine aF (fun K1 hK1=>wp_region_lit ?_);refine fR cV rfl ?_;intro w1 g1 hE hg1 hB1;have hG1:=Nat.le_trans hX.size hg1;replace hX:=hX.trans hE;clear hE hg1;simp only[ev,zD,zE,zF,zG];refine aC ?_;refine hK1 _ _ ?_;refine aF (fun K2 hK2=>wp_region_lit (aA (aD) ?_));simp only[ev,zD,zE,zF,zG];obtain ⟨b3,hb3e,hb3l⟩:=hX.base;have hS3:=qA.of hX hb3e;have hO3:=iS.nil_of hX b3 3 1;have hl3_1 : g1 < b3:=by rw [hb3e]; exact hB1.lt
 clear hb3e;refine aC ?_;refine hK2 _ _ ?_;refine aF (fun K3 hK3=>?_);rcases (show n < 0 ∨ 0 ≤ n by omega) with h0 | h0
 ·
  have hwn : true = b8 n:=(decide_eq_true h0).symm;refine wp_region_lit (aA (aB) (aA (dH Tryz.underlying101 Tryz.underlying3 rfl (Ga h h0)) (aA (aD) ?_)));simp only[ev,zD,zE,zF,zG];refine aC ?_;refine hK3 _ _ ?_;refine aF (fun K4 hK4=>aF (fun K5 hK5=>wp_region_lit (aA (aB) (aA (bR rfl rfl (by omega)) ?_))));simp only[ev,zD,zE,zF,zG];refine aC ?_;refine hK5 _ _ ?_;refine bS rfl (wp_region_lit (aA (aB) (aA (mN rfl (yZ hna (by omega))) (aA (aD) ?_))));simp only[ev,zD,zE,zF,zG];refine aC ?_;refine hK4 _ _ ?_;refine aF (fun K6 hK6=>wp_block ?_);refine cX [3,4] [11,12,13,14,15,16,17,18,19,20] (fun k vs wl=>∃ (m : Nat) (os : List Nat) (v3 : Value),vs = [v3,.int .u64 (m : Int)] ∧ (cD w wl) ∧ (eU wl g1 [.bool false,.string ⟨#[]⟩] 35) ∧ (qA wl b3) ∧ (iS wl b3 3 1 v3 os.length (os.map Dk)) ∧ (val 65536 os + 65536 ^ os.length * m = n.natAbs) ∧ (cM 65536 os) ∧ (m ≤ 9223372036854775808) ∧ (os.length + m ≤ 9223372036854775808 + 64) ∧ (m < 2 ^ (64 - os.length)) ∧ (os.length ≤ 64) ∧ (k = m)) ?_ ?_
  ·
   apply Exists.intro;simp only[zQ,zR,zD,zE];exact ⟨n.natAbs,[],_,rfl,hX,hB1,hS3,hO3,by simp [val],o7 _,hna,by simp; omega,by simp; omega,by simp,rfl⟩
  ·
   intro n vs wr hI u;obtain ⟨m,os,v3,rfl,hX,hB1,hS3,hO3,hv,hd,hm,hol,hol2,hol3,hn⟩:=hI;simp only[aK,aQ,aM,aP,zF,zG];refine aF (fun K7 hK7=>aF (fun K8 hK8=>wp_region_lit (aA (aB) (aA (gJ rfl rfl) ?_))));simp only[ev,zD,zE,zF,zG];refine aC ?_;refine hK8 _ _ ?_;refine cK rfl (fun hc2=>?_) (fun hc2=>?_)
   ·
    refine wp_skip ?_;refine hK7 _ _ ?_;refine wp_block (aF (fun K9 hK9=>wp_region_lit (aA (aB) (aA (aB) (aA (dF rfl rfl (by omega) (mT (n:=65536))) ?_)))));simp only[ev,zD,zE,zF,zG];refine aA (dH Tryz.underlying3 Tryz.underlying101 rfl (aL (by omega) (by omega))) ?_;simp only[ev,zD,zE,zF,zG];refine b7 Tryz.underlying22 (z:=.int .i64 0) (by kernel_rfl) rfl (by simp only[ev,zD,zE,zF,zG]; rfl) (by rfl) ?_;intro w2 g2 hE hg2 hB2;have hG2:=Nat.le_trans hX.size hg2; have hN2_1 : g2 ≠ g1:=Nat.ne_of_gt (Nat.lt_of_lt_of_le hB1.lt hg2);replace hB1:=hB1.ext hE; (try replace hS3:=hS3.ext hE); (try replace hO3:=hO3.ext hE); replace hX:=hX.trans hE;clear hE hg2;simp only[ev,zD,zE,zF,zG];refine kO rfl Tryz.underlying22 iW rfl (by decide) rfl hO3 rfl (news:=_) rfl hB2.row0 (by simp [Value.oneCell']) (by omega) (by omega) hS3.h ?_;clear hO3; intro v3 w3 hO3 hGr _;replace hB1:=hB1.grew hGr hl3_1; (try replace hS3:=hS3.grew hGr (by first | trivial | omega)); replace hX:=hX.grown hGr hb3l;clear hGr;replace hO3:=hO3.snoc;simp only[ev,zD,zE,zF,zG];refine aA (aD) ?_;simp only[ev,zD,zE,zF,zG];refine aC ?_;refine hK9 _ _ ?_;refine wp_region_lit (aA (aB) (aA (gS rfl rfl (by omega) (vC (n:=65536) (by omega))) (aA (aD) ?_)));simp only[ev,zD,zE,zF,zG];refine aC ?_;have r:=wI hv hd hol2 hol3 (show 0 < m by omega);simp only[Exit.inBlock,Exit.then];refine ⟨m / 65536,_,?_,rfl,?_,?_⟩
    · omega
    · simp only[zQ,zR,zD,zE,aK,aQ,aM,aP,zF,zG]
    ·
     simp only[zQ,zR,zD,zE];exact ⟨m / 65536,os ++ [m % 65536],v3,rfl,hX,hB1,hS3,hO3,r.1,r.2.1,by omega,by simp; omega,r.2.2.1,r.2.2.2,rfl⟩
   ·
    refine wp_exit ?_;refine hK6 _ _ ?_;refine aF (fun K10 hK10=>?_);obtain rfl : m = 0:=by omega
    rw [Nat.mul_zero,Nat.add_zero] at hv;obtain ⟨A3,c3,rfl,hD,_⟩:=d8.of_owns hO3 rfl hd (by omega);refine wp_region_lit (aA (aB) (aA (bR rfl rfl (by omega)) (aA (aB) ?_)));simp only[ev,zD,zE,zF,zG];refine bO rfl rfl (Gb _ hD (by omega)) ?_;rintro v w2 hE rfl;replace hB1:=hB1.ext hE; (try replace hS3:=hS3.ext hE); (try replace hO3:=hO3.ext hE); (try replace hD:=hD.ext hE); replace hX:=hX.trans hE;clear hE;rw [hv,hwn,sE];simp only[ev,zD,zE,zF,zG];refine bZ rfl (by simp only[ev,zD,zE]; rfl) (by exact aH) hB1 (by simp) (by simp [Value.oneCell']) ?_;clear hB1; intro w3 hC hB1
    (try replace hS3:=hS3.chg hC (by first | assumption | rfl)); (try replace hO3:=hO3.chg hC (by first | assumption | rfl)); (try replace hD:=hD.chg hC (by first | assumption | rfl)); replace hX:=hX.chg hC hG1
    clear hC;simp only[a8,zH,zI,zJ,zK,zL,zM,zN,zO,zP,Nat.reduceAdd] at hB1;refine aC ?_;refine hK10 _ _ ?_;refine wp_ret ?_;try simp only[Exit.inBlock,Exit.then]
    refine bT rfl ⟨_,rfl,(hB1.lies aY aH rfl rfl)⟩ ?_;try simp only[zD,zE]
    exact ⟨_,rfl,hX,rfl⟩
 ·
  have hwn : false = b8 n:=(decide_eq_false (by omega)).symm;refine wp_region_lit (aA (aB) (aA (dH Tryz.underlying101 Tryz.underlying3 rfl (Ki h h0)) (aA (aD) ?_)));simp only[ev,zD,zE,zF,zG];refine aC ?_;refine hK3 _ _ ?_;refine aF (fun K11 hK11=>aF (fun K12 hK12=>wp_region_lit (aA (aB) (aA (eW rfl rfl (by omega)) ?_))));simp only[ev,zD,zE,zF,zG];refine aC ?_;refine hK12 _ _ ?_;refine eM rfl (wp_skip ?_);refine hK11 _ _ ?_;refine aF (fun K13 hK13=>wp_block ?_);refine cX [3,4] [11,12,13,14,15,16,17,18,19,20] (fun k vs wl=>∃ (m : Nat) (os : List Nat) (v3 : Value),vs = [v3,.int .u64 (m : Int)] ∧ (cD w wl) ∧ (eU wl g1 [.bool false,.string ⟨#[]⟩] 35) ∧ (qA wl b3) ∧ (iS wl b3 3 1 v3 os.length (os.map Dk)) ∧ (val 65536 os + 65536 ^ os.length * m = n.natAbs) ∧ (cM 65536 os) ∧ (m ≤ 9223372036854775808) ∧ (os.length + m ≤ 9223372036854775808 + 64) ∧ (m < 2 ^ (64 - os.length)) ∧ (os.length ≤ 64) ∧ (k = m)) ?_ ?_
  ·
   apply Exists.intro;simp only[zQ,zR,zD,zE];exact ⟨n.natAbs,[],_,rfl,hX,hB1,hS3,hO3,by simp [val],o7 _,hna,by simp; omega,by simp; omega,by simp,rfl⟩
  ·
   intro n vs wr hI u;obtain ⟨m,os,v3,rfl,hX,hB1,hS3,hO3,hv,hd,hm,hol,hol2,hol3,hn⟩:=hI;simp only[aK,aQ,aM,aP,zF,zG];refine aF (fun K14 hK14=>aF (fun K15 hK15=>wp_region_lit (aA (aB) (aA (gJ rfl rfl) ?_))));simp only[ev,zD,zE,zF,zG];refine aC ?_;refine hK15 _ _ ?_;refine cK rfl (fun hc2=>?_) (fun hc2=>?_)
   ·
    refine wp_skip ?_;refine hK14 _ _ ?_;refine wp_block (aF (fun K16 hK16=>wp_region_lit (aA (aB) (aA (aB) (aA (dF rfl rfl (by omega) (mT (n:=65536))) ?_)))));simp only[ev,zD,zE,zF,zG];refine aA (dH Tryz.underlying3 Tryz.underlying101 rfl (aL (by omega) (by omega))) ?_;simp only[ev,zD,zE,zF,zG];refine b7 Tryz.underlying22 (z:=.int .i64 0) (by kernel_rfl) rfl (by simp only[ev,zD,zE,zF,zG]; rfl) (by rfl) ?_;intro w2 g2 hE hg2 hB2;have hG2:=Nat.le_trans hX.size hg2; have hN2_1 : g2 ≠ g1:=Nat.ne_of_gt (Nat.lt_of_lt_of_le hB1.lt hg2);replace hB1:=hB1.ext hE; (try replace hS3:=hS3.ext hE); (try replace hO3:=hO3.ext hE); replace hX:=hX.trans hE;clear hE hg2;simp only[ev,zD,zE,zF,zG];refine kO rfl Tryz.underlying22 iW rfl (by decide) rfl hO3 rfl (news:=_) rfl hB2.row0 (by simp [Value.oneCell']) (by omega) (by omega) hS3.h ?_;clear hO3; intro v3 w3 hO3 hGr _;replace hB1:=hB1.grew hGr hl3_1; (try replace hS3:=hS3.grew hGr (by first | trivial | omega)); replace hX:=hX.grown hGr hb3l;clear hGr;replace hO3:=hO3.snoc;simp only[ev,zD,zE,zF,zG];refine aA (aD) ?_;simp only[ev,zD,zE,zF,zG];refine aC ?_;refine hK16 _ _ ?_;refine wp_region_lit (aA (aB) (aA (gS rfl rfl (by omega) (vC (n:=65536) (by omega))) (aA (aD) ?_)));simp only[ev,zD,zE,zF,zG];refine aC ?_;have r:=wI hv hd hol2 hol3 (show 0 < m by omega);simp only[Exit.inBlock,Exit.then];refine ⟨m / 65536,_,?_,rfl,?_,?_⟩
    · omega
    · simp only[zQ,zR,zD,zE,aK,aQ,aM,aP,zF,zG]
    ·
     simp only[zQ,zR,zD,zE];exact ⟨m / 65536,os ++ [m % 65536],v3,rfl,hX,hB1,hS3,hO3,r.1,r.2.1,by omega,by simp; omega,r.2.2.1,r.2.2.2,rfl⟩
   ·
    refine wp_exit ?_;refine hK13 _ _ ?_;refine aF (fun K17 hK17=>?_);obtain rfl : m = 0:=by omega
    rw [Nat.mul_zero,Nat.add_zero] at hv;obtain ⟨A3,c3,rfl,hD,_⟩:=d8.of_owns hO3 rfl hd (by omega);refine wp_region_lit (aA (aB) (aA (eW rfl rfl (by omega)) (aA (aB) ?_)));simp only[ev,zD,zE,zF,zG];refine bO rfl rfl (Gb _ hD (by omega)) ?_;rintro v w2 hE rfl;replace hB1:=hB1.ext hE; (try replace hS3:=hS3.ext hE); (try replace hO3:=hO3.ext hE); (try replace hD:=hD.ext hE); replace hX:=hX.trans hE;clear hE;rw [hv,hwn,sE];simp only[ev,zD,zE,zF,zG];refine bZ rfl (by simp only[ev,zD,zE]; rfl) (by exact aH) hB1 (by simp) (by simp [Value.oneCell']) ?_;clear hB1; intro w3 hC hB1
    (try replace hS3:=hS3.chg hC (by first | assumption | rfl)); (try replace hO3:=hO3.chg hC (by first | assumption | rfl)); (try replace hD:=hD.chg hC (by first | assumption | rfl)); replace hX:=hX.chg hC hG1
    clear hC;simp only[a8,zH,zI,zJ,zK,zL,zM,zN,zO,zP,Nat.reduceAdd] at hB1;refine aC ?_;refine hK17 _ _ ?_;refine wp_ret ?_;try simp only[Exit.inBlock,Exit.then]
    refine bT rfl ⟨_,rfl,(hB1.lies aY aH rfl rfl)⟩ ?_;try simp only[zD,zE]
    exact ⟨_,rfl,hX,rfl⟩
end Go.Proofs.YtimjandkmfcmiaaGreatDoor
namespace Go.Proofs.YtimjandkmfcmiaaGreatDoor
open Go.RowKit Go.Lith
set_option maxRecDepth 100000
attribute [local irreducible] wpList wpQuiet dV Code.wp
end Go.Proofs.YtimjandkmfcmiaaGreatDoor
namespace Go.Lith
open Go.RowKit
inductive lJ where
 | nil : lJ
 | take : Nat → lJ → lJ
 | one : Nat → lJ → lJ
 | two : Nat → lJ → Nat → lJ → lJ
 | three : Nat → lJ → Nat → lJ → Nat → lJ → lJ
section
variable {P : Program} {ops : Array Oper} {md : Region.Mode} {S : World → Prop}
def lJ.ok (md : Region.Mode) (ops : Array Oper) : lJ → Nat → Array Bool → Bool
 | .nil,f,listed=>f == 0 && (Region.ready md ops listed).isEmpty
 | .take i t,f,listed=>decide (0 < f) && (ops[i]?).isSome && Region.free md ops listed i && (Region.ready md ops listed).contains i && t.ok md ops (f - 1) (listed.setIfInBounds i true)
 | .one i t,f,listed=>decide (0 < f) && (ops[i]?).isSome && decide (Region.ready md ops listed = [i]) && t.ok md ops (f - 1) (listed.setIfInBounds i true)
 | .two i t j u,f,listed=>decide (0 < f) && (ops[i]?).isSome && (ops[j]?).isSome && decide (Region.ready md ops listed = [i,j]) && t.ok md ops (f - 1) (listed.setIfInBounds i true) && u.ok md ops (f - 1) (listed.setIfInBounds j true)
 | .three i t j u k v,f,listed=>decide (0 < f) && (ops[i]?).isSome && (ops[j]?).isSome && (ops[k]?).isSome && decide (Region.ready md ops listed = [i,j,k]) && t.ok md ops (f - 1) (listed.setIfInBounds i true) && u.ok md ops (f - 1) (listed.setIfInBounds j true) && v.ok md ops (f - 1) (listed.setIfInBounds k true)
def dI (P : Program) (ops : Array Oper) (S : World → Prop) (Q : Exit → Act → World → Prop) : lJ → Act → World → Prop
 | .nil,a,w=>Q .normal a w
 | .take i t,a,w=>dK P ops S (fun _ a w=>dI P ops S Q t a w) [((ops[i]?).getD default,true)] a w
 | .one i t,a,w=>wpList P ops (Exit.then (fun a w=>S w ∧ dI P ops S Q t a w) Q) [(ops[i]?).getD default] a w
 | .two i t j u,a,w=>wpList P ops (Exit.then (fun a w=>S w ∧ dI P ops S Q t a w) Q) [(ops[i]?).getD default] a w ∧ wpList P ops (Exit.then (fun a w=>S w ∧ dI P ops S Q u a w) Q) [(ops[j]?).getD default] a w
 | .three i t j u k v,a,w=>wpList P ops (Exit.then (fun a w=>S w ∧ dI P ops S Q t a w) Q) [(ops[i]?).getD default] a w ∧ wpList P ops (Exit.then (fun a w=>S w ∧ dI P ops S Q u a w) Q) [(ops[j]?).getD default] a w ∧ wpList P ops (Exit.then (fun a w=>S w ∧ dI P ops S Q v a w) Q) [(ops[k]?).getD default] a w
theorem iB {Q : Exit → Act → World → Prop} {K : Act → World → Prop} {i : Nat} {o : Oper} (ho : ops[i]? = some o) {a : Act} {w : World} (h : wpList P ops (Exit.then K Q) [o] a w) : wpOp P ops Q i K a w:=by
 unfold wpOp;simp only[ho];simp only[wpList] at h;split
 · rename_i hw
   rw [if_pos hw] at h;rcases h with h | ⟨ha,x,y,hl⟩
   · refine .inl ?_
     unfold Oper.wp at h ⊢;generalize (execOp a.eval o).run P w = res at *
     cases res with
     | ok n w' =>
      cases n <;> simp only[Oper.upon] at h ⊢ <;>
       first
        | exact h
        | exact Calls.mono h (fun e w'' he=>by cases e <;> exact he)
        | exact Rows.mono h (fun _ _ he=>he)
     | halt x w'=>cases x <;> simp only[Oper.upon] at h ⊢ <;> exact h
   · exact .inr ⟨ha,x,y,hl⟩
 · rename_i hw
   rw [if_neg hw] at h;exact h
theorem fY {Q : Exit → Act → World → Prop} (hs : Region.noSelect ops = true) (hQ : ∀ c d v a w,Q (.panic c) (Act.put a d v) w → Q (.panic c) a w) : ∀ (t : lJ) (f : Nat) (listed : Array Bool) (a : Act) (w : World),
 t.ok md ops f listed = true → S w → dI P ops S Q t a w → wpAnyH P md ops Q S f listed a w
 | .nil,f,listed,a,w,hB,_,h=>by
  simp only[lJ.ok,Bool.and_eq_true,beq_iff_eq] at hB;obtain ⟨rfl,h2⟩:=hB;exact ⟨by simpa using h2,h⟩
 | .take i t,f,listed,a,w,hB,hS,h=>by
  simp only[lJ.ok,Bool.and_eq_true,decide_eq_true_eq] at hB;obtain ⟨⟨⟨⟨h0,h1⟩,h2⟩,h3⟩,h4⟩:=hB;obtain ⟨o,ho⟩:=Option.isSome_iff_exists.1 h1;simp only[dI,dK,ho,Option.getD_some] at h;obtain ⟨v,hy,hr⟩:=h;obtain ⟨f,rfl⟩ : ∃ g,f = g + 1:=⟨f - 1,by omega⟩
  exact wpAnyH_take ho hs h2 h3 (fun c a w=>hQ c _ v a w) hy hS (fY hs hQ t f _ _ _ h4 hS hr)
 | .one i t,f,listed,a,w,hB,hS,h=>by
  simp only[lJ.ok,Bool.and_eq_true,decide_eq_true_eq] at hB;obtain ⟨⟨⟨h0,h1⟩,h2⟩,h4⟩:=hB;obtain ⟨o,ho⟩:=Option.isSome_iff_exists.1 h1;obtain ⟨f,rfl⟩ : ∃ g,f = g + 1:=⟨f - 1,by omega⟩
  refine wpAnyH_all h2 (by simp) fun j hj=>?_;obtain rfl : j = i:=by simpa using hj
  simp only[dI,ho,Option.getD_some] at h;exact wpOp_mono (fun a' w' hh=>⟨hh.1,fY hs hQ t f _ a' w' h4 hh.1 hh.2⟩) (iB ho h)
 | .two i t j u,f,listed,a,w,hB,hS,h=>by
  simp only[lJ.ok,Bool.and_eq_true,decide_eq_true_eq] at hB;obtain ⟨⟨⟨⟨⟨h0,h1⟩,h1'⟩,h2⟩,h4⟩,h5⟩:=hB;obtain ⟨o,ho⟩:=Option.isSome_iff_exists.1 h1;obtain ⟨o',ho'⟩:=Option.isSome_iff_exists.1 h1';obtain ⟨f,rfl⟩ : ∃ g,f = g + 1:=⟨f - 1,by omega⟩
  simp only[dI,ho,ho',Option.getD_some] at h;refine wpAnyH_all h2 (by simp) fun k hk=>?_;have hk' : k = i ∨ k = j:=by simpa using hk
  rcases hk' with rfl | rfl
  · exact wpOp_mono (fun a' w' hh=>⟨hh.1,fY hs hQ t f _ a' w' h4 hh.1 hh.2⟩) (iB ho h.1)
  · exact wpOp_mono (fun a' w' hh=>⟨hh.1,fY hs hQ u f _ a' w' h5 hh.1 hh.2⟩) (iB ho' h.2)
 | .three i t j u k v,f,listed,a,w,hB,hS,h=>by
  simp only[lJ.ok,Bool.and_eq_true,decide_eq_true_eq] at hB;obtain ⟨⟨⟨⟨⟨⟨⟨h0,h1⟩,h1'⟩,h1''⟩,h2⟩,h4⟩,h5⟩,h6⟩:=hB;obtain ⟨o,ho⟩:=Option.isSome_iff_exists.1 h1;obtain ⟨o',ho'⟩:=Option.isSome_iff_exists.1 h1';obtain ⟨o'',ho''⟩:=Option.isSome_iff_exists.1 h1'';obtain ⟨f,rfl⟩ : ∃ g,f = g + 1:=⟨f - 1,by omega⟩
  simp only[dI,ho,ho',ho'',Option.getD_some] at h;refine wpAnyH_all h2 (by simp) fun m hm=>?_;have hm' : m = i ∨ m = j ∨ m = k:=by simpa using hm
  rcases hm' with rfl | rfl | rfl
  · exact wpOp_mono (fun a' w' hh=>⟨hh.1,fY hs hQ t f _ a' w' h4 hh.1 hh.2⟩) (iB ho h.1)
  · exact wpOp_mono (fun a' w' hh=>⟨hh.1,fY hs hQ u f _ a' w' h5 hh.1 hh.2⟩) (iB ho' h.2.1)
  · exact wpOp_mono (fun a' w' hh=>⟨hh.1,fY hs hQ v f _ a' w' h6 hh.1 hh.2⟩) (iB ho'' h.2.2)
theorem wJ {id : Nat} {Q : Exit → Act → World → Prop} {a : Act} {w : World} {l : List Oper} (t : lJ) (hm : P.follows .mixedOrders = true) (hB : (Region.noSelect l.toArray && t.ok .any l.toArray l.toArray.size (Array.replicate l.toArray.size false)) = true)
 (hQ : ∀ c d v a w,Q (.panic c) (Act.put a d v) w → Q (.panic c) a w)
 (h : ∀ w',cD w w' → ∃ S,iC w' S ∧ dI P l.toArray S Q t a w') : (Code.region id l.toArray true).wp P Q a w:=by
 simp only[Bool.and_eq_true] at hB;obtain ⟨S,hS,h⟩:=h _ (cD.refl w).drawn;exact wp_region_held (S:=S) hm (fY (md:=.any) hB.1 hQ t _ _ a _ hB.2 hS h)
variable {Q : Exit → Act → World → Prop} {a : Act} {w : World} {o o' : Oper} {i j : Nat} {t u : lJ}
theorem gM (h : Q .normal a w) : dI P ops S Q .nil a w:=h
theorem cN (ho : (ops[i]?).getD default = o) (h : dK P ops S (fun _ a w=>dI P ops S Q t a w) [(o,true)] a w) : dI P ops S Q (.take i t) a w:=by subst ho; exact h
theorem bY (ho : (ops[i]?).getD default = o) (h : wpList P ops (Exit.then (fun a w=>S w ∧ dI P ops S Q t a w) Q) [o] a w) : dI P ops S Q (.one i t) a w:=by subst ho; exact h
theorem jZ (ho : (ops[i]?).getD default = o) (ho' : (ops[j]?).getD default = o') (h : wpList P ops (Exit.then (fun a w=>S w ∧ dI P ops S Q t a w) Q) [o] a w) (h' : wpList P ops (Exit.then (fun a w=>S w ∧ dI P ops S Q u a w) Q) [o'] a w) : dI P ops S Q (.two i t j u) a w:=by
 subst ho; subst ho'; exact ⟨h,h'⟩
theorem cD.self {w w' : World} (_ : cD w w') : cD w' w':=cD.refl w'
end
end Go.Lith
namespace Go.Lith
open Go.RowKit
end Go.Lith
namespace Go.Proofs.YtimjandkmfcmiaaGreatDoor
open Go.RowKit Go.Lith
set_option maxRecDepth 100000
attribute [local irreducible] wpList wpQuiet dV Code.wp
end Go.Proofs.YtimjandkmfcmiaaGreatDoor
namespace Go.Proofs.YtimjandkmfcmiaaGreatDoor
open Go.RowKit Go.Lith
set_option maxRecDepth 100000
attribute [local irreducible] wpList wpQuiet dV Code.wp
theorem wK {l : List UInt8} (hl : l.length ≤ 1000000000000000) : eI Tryz.prog 125 [.string (iX l),.int .u8 0] (.string (iX (gB l))):=by
 intro w;refine ⟨Ra,?_⟩;have hX:=cD.refl w
 go_enter Tryz.func125,Tryz.ntmps125
 refine aF (fun K1 hK1=>wp_region_lit (aA (aD) ?_));simp only[ev,zD,zE,zF,zG];refine aC ?_;refine hK1 _ _ ?_;refine aF (fun K2 hK2=>wp_block ?_);refine cX [0] [5,6,7,8,9,10,11,12,13,14,15] (fun n vs wl=>∃ (k : List UInt8),vs = [.string (iX k)] ∧ (cD w wl) ∧ (gB k = gB l) ∧ (k.length ≤ 1000000000000000) ∧ (n = k.length)) ?_ ?_
 ·
  apply Exists.intro;simp only[zQ,zR,zD,zE];exact ⟨l,rfl,hX,rfl,hl,rfl⟩
 ·
  intro n vs wr hI u;obtain ⟨k,rfl,hX,hk,hl,hn⟩:=hI;have hsz:=qU k;simp only[aK,aQ,aM,aP,zF,zG];refine aF (fun K3 hK3=>aF (fun K4 hK4=>?_));by_cases hk0 : 0 < k.length
  ·
   obtain ⟨b,hb⟩ : ∃ b,k[0]? = some b:=⟨k[0],List.getElem?_eq_getElem hk0⟩
   refine wp_region_lit (aA (aB) (aA (nD rfl Tryz.underlying9 rfl) (aA (l2 rfl rfl (by omega)) ?_)));simp only[ev,zD,zE,zF,zG];refine aA (aB) ?_;simp only[ev,zD,zE,zF,zG];refine aW rfl (aA (aB) ?_);simp only[ev,zD,zE,zF,zG];refine aW rfl ?_;refine aA ((l1 Tryz.underlying9 rfl rfl (by omega) (by rw [Hq]; exact hb))) ?_;simp only[ev,zD,zE,zF,zG];refine aW rfl (aA (aB) ?_);simp only[ev,zD,zE,zF,zG];refine aW rfl (aA (lZ rfl rfl) (aA (cQ rfl) ?_));simp only[ev,zD,zE,zF,zG];refine aC ?_;refine hK4 _ _ ?_;refine cK rfl (fun hc1=>?_) (fun hc1=>?_)
   ·
    refine wp_skip ?_;refine hK3 _ _ ?_;refine wp_block (wp_region_lit (aA (aB) (aA (I8 Tryz.underlying9 rfl rfl (by omega) (by omega)) (aA (aD) ?_))));simp only[ev,zD,zE,zF,zG];refine aC ?_;rw [show (1 : Int).toNat = 1 from rfl,E0];simp only[Exit.inBlock,Exit.then];refine ⟨(k.drop 1).length,_,?_,rfl,?_,?_⟩
    · rw [List.length_drop]; omega
    · simp only[zQ,zR,zD,zE,aK,aQ,aM,aP,zF,zG]
    ·
     simp only[zQ,zR,zD,zE];exact ⟨k.drop 1,rfl,hX,by rw [E1 hb (by omega)]; exact hk,by rw [List.length_drop]; omega,rfl⟩
   ·
    refine wp_exit ?_;refine hK2 _ _ ?_;refine aF (fun K5 hK5=>wp_region_lit (aA (aB) (aA (aD) ?_)));simp only[ev,zD,zE,zF,zG];refine aC ?_;refine hK5 _ _ ?_;refine wp_ret ?_;try simp only[Exit.inBlock,Exit.then]
    refine bT rfl rfl ?_;try simp only[zD,zE]
    exact ⟨_,rfl,hX,by rw [← hk,E4 hb (by omega)]⟩
  ·
   obtain rfl : k = []:=List.eq_nil_of_length_eq_zero (by omega);refine wp_region_lit (aA (aB) (aA (nD rfl Tryz.underlying9 rfl) (aA (iZ rfl rfl (by omega)) ?_)));simp only[ev,zD,zE,zF,zG];refine aA (aB) ?_;simp only[ev,zD,zE,zF,zG];refine bD rfl ?_;simp only[ev,zD,zE,zF,zG];refine bD rfl ?_;simp only[ev,zD,zE,zF,zG];refine bD rfl ?_;simp only[ev,zD,zE,zF,zG];refine bD rfl ?_;simp only[ev,zD,zE,zF,zG];refine aA (cU rfl) ?_;simp only[ev,zD,zE,zF,zG];refine aC ?_;refine hK4 _ _ ?_;refine eM rfl (wp_exit ?_);refine hK2 _ _ ?_;refine aF (fun K6 hK6=>wp_region_lit (aA (aB) (aA (aD) ?_)));simp only[ev,zD,zE,zF,zG];refine aC ?_;refine hK6 _ _ ?_;refine wp_ret ?_;try simp only[Exit.inBlock,Exit.then]
   refine bT rfl rfl ?_;try simp only[zD,zE]
   exact ⟨_,rfl,hX,by rw [← hk,Hr]⟩
theorem E9 {l : List UInt8} (hl : l.length ≤ 1000000000000000) : eI Tryz.prog 98 [.string (iX l),.string ⟨#[0]⟩] (.string (iX (gB l))):=by
 intro w;refine ⟨Ve,?_⟩;have hX:=cD.refl w;have hsz:=qU l
 go_enter Tryz.func98,Tryz.ntmps98
 refine aF (fun K1 hK1=>wp_region_lit (aA (aD) ?_));simp only[ev,zD,zE,zF,zG];refine aC ?_;refine hK1 _ _ ?_;refine aF (fun K2 hK2=>aF (fun K3 hK3=>?_));by_cases hk0 : l = []
 ·
  subst hk0;refine wp_region_lit (aA (aB) (aA (qR (Eo Tryz.underlying9 rfl rfl) (show _ = Value.bool true by simp [iX])) (aA (aB) ?_)));simp only[ev,zD,zE,zF,zG];refine bW rfl ?_;simp only[ev,zD,zE,zF,zG];refine bW rfl ?_;simp only[ev,zD,zE,zF,zG];refine aA (cQ rfl) ?_;simp only[ev,zD,zE,zF,zG];refine aC ?_;refine hK3 _ _ ?_;refine bS rfl (aF (fun K4 hK4=>wp_region_lit (aA (aB) (aA (aD) ?_))));simp only[ev,zD,zE,zF,zG];refine aC ?_;refine hK4 _ _ ?_;refine wp_ret ?_;try simp only[Exit.inBlock,Exit.then]
  refine bT rfl rfl ?_;try simp only[zD,zE]
  exact ⟨_,rfl,hX,rfl⟩
 ·
  refine wp_region_lit (aA (aB) (aA (qR (Eo Tryz.underlying9 rfl rfl) (show _ = Value.bool false by simp only[Dg,hk0,decide_false])) (aA (aB) ?_)));simp only[ev,zD,zE,zF,zG];refine aW rfl (aA (aB) ?_);simp only[ev,zD,zE,zF,zG];refine aW rfl (aA (qR (Eo Tryz.underlying9 rfl rfl) (show _ = Value.bool false by simp)) (aA (cU rfl) ?_));simp only[ev,zD,zE,zF,zG];refine aC ?_;refine hK3 _ _ ?_;refine eM rfl (wp_skip ?_);refine hK2 _ _ ?_;refine aF (fun K5 hK5=>aF (fun K6 hK6=>wp_region_lit (aA (aB) (aA (nD rfl Tryz.underlying9 rfl) (aA (nW rfl rfl rfl) ?_)))));simp only[ev,zD,zE,zF,zG];refine aA (aB) ?_;simp only[ev,zD,zE,zF,zG];refine aW rfl (aA (aB) ?_);simp only[ev,zD,zE,zF,zG];refine aW rfl ?_;refine aA ((l1 (b:=0) Tryz.underlying9 rfl rfl (by omega) rfl)) ?_;simp only[ev,zD,zE,zF,zG];refine aW rfl (aA (bR rfl rfl (by decide)) (aA (cQ rfl) ?_));simp only[ev,zD,zE,zF,zG];refine aC ?_;refine hK6 _ _ ?_;refine bS rfl (aF (fun K7 hK7=>wp_region_lit (aA (aB) (aA (aB) ?_))));simp only[ev,zD,zE,zF,zG];refine aA ((l1 (b:=0) Tryz.underlying9 rfl rfl (by omega) rfl)) ?_;simp only[ev,zD,zE,zF,zG];refine iQ rfl rfl (wK hl) ?_;intro w1 hE;replace hX:=hX.trans hE;clear hE;simp only[ev,zD,zE,zF,zG];refine aA (aD) ?_;simp only[ev,zD,zE,zF,zG];refine aC ?_;refine hK7 _ _ ?_;refine wp_ret ?_;try simp only[Exit.inBlock,Exit.then]
  refine bT rfl rfl ?_;try simp only[zD,zE]
  exact ⟨_,rfl,hX,rfl⟩
end Go.Proofs.YtimjandkmfcmiaaGreatDoor
namespace Go.Proofs.YtimjandkmfcmiaaGreatDoor
open Go.RowKit Go.Lith
set_option maxRecDepth 100000
attribute [local irreducible] wpList wpQuiet dV Code.wp
theorem m8 {A : Option Addr} {xs : List Nat} {na cap : Nat} (w : World) (hS : cG w A na cap xs) : gD Tryz.prog 96 [.slice A na cap] w (fun v _=>v = .slice A (trim xs).length cap):=by
 skip
 refine ⟨Vc,?_⟩;have hX:=cD.refl w;obtain rfl:=hS.eq;have hl:=hS.len;have hle:=hS.le
 go_enter Tryz.func96,Tryz.ntmps96
 refine aF (fun K1 hK1=>wp_region_lit (aA (aD) ?_));simp only[ev,zD,zE,zF,zG];refine aC ?_;refine hK1 _ _ ?_;refine aF (fun K2 hK2=>wp_block ?_);refine cX [0] [3,4,5,6,7,8,9,10,11,12,13,14,15,16,17,18,19] (fun n vs wl=>∃ (k : Nat),vs = [.slice A k cap] ∧ (cD w wl) ∧ (k ≤ xs.length) ∧ (trim (xs.take k) = trim xs) ∧ (n = k)) ?_ ?_
 ·
  apply Exists.intro;simp only[zQ,zR,zD,zE];exact ⟨xs.length,rfl,hX,Nat.le_refl _,by rw [List.take_length],rfl⟩
 ·
  intro n vs wr hI u;obtain ⟨k,rfl,hX,hk,ht,hn⟩:=hI;simp only[aK,aQ,aM,aP,zF,zG];refine aF (fun K3 hK3=>aF (fun K4 hK4=>?_));by_cases hk0 : 0 < k
  ·
   obtain ⟨a,rfl,hcell,hlt⟩:=(hS.ext hX).get (show k - 1 < xs.length by omega);refine wp_region_lit (aA (aB) (aA (bM rfl Tryz.underlying97 rfl) (aA (l2 rfl rfl (by omega)) ?_)));simp only[ev,zD,zE,zF,zG];refine aA (aB) ?_;simp only[ev,zD,zE,zF,zG];refine aW rfl (aA (aB) ?_);simp only[ev,zD,zE,zF,zG];refine aW rfl (aA (aB) ?_);simp only[ev,zD,zE,zF,zG];refine aW rfl (aA (bM rfl Tryz.underlying97 rfl) ?_);simp only[ev,zD,zE,zF,zG];refine aW rfl (aA (eA rfl rfl (aL (by omega) (by omega))) ?_);simp only[ev,zD,zE,zF,zG];refine aW rfl (aA (aT Tryz.underlying97 bA rfl rfl (by omega) (by omega) (d7 (show _ = k - 1 by omega))) ?_);simp only[ev,zD,zE,zF,zG];refine aW rfl ?_;refine aI rfl (lies1 hcell eD) ?_;simp only[ev,zD,zE,zF,zG];refine aW rfl (aA (lZ rfl rfl) (aA (cQ rfl) ?_));simp only[ev,zD,zE,zF,zG];refine aC ?_;refine hK4 _ _ ?_;refine cK rfl (fun hc1=>?_) (fun hc1=>?_)
   ·
    refine wp_skip ?_;refine hK3 _ _ ?_;refine wp_block (wp_region_lit (aA (aB) (aA (aB) (aA (bM rfl Tryz.underlying97 rfl) ?_))));simp only[ev,zD,zE,zF,zG];refine aA (eA rfl rfl (aL (by omega) (by omega))) (aA (lS Tryz.underlying97 bA rfl rfl (show _ = k - 1 by omega) (by omega) (by omega)) (aA (aD) ?_));simp only[ev,zD,zE,zF,zG];refine aC ?_;simp only[Exit.inBlock,Exit.then];refine ⟨k - 1,_,?_,rfl,?_,?_⟩
    · omega
    · simp only[zQ,zR,zD,zE,aK,aQ,aM,aP,zF,zG]
    ·
     simp only[zQ,zR,zD,zE];exact ⟨k - 1,rfl,hX,by omega,yT hk0 (by omega) hc1 ht,rfl⟩
   ·
    refine wp_exit ?_;refine hK2 _ _ ?_;refine aF (fun K5 hK5=>wp_region_lit (aA (aB) (aA (aD) ?_)));simp only[ev,zD,zE,zF,zG];refine aC ?_;refine hK5 _ _ ?_;refine wp_ret ?_;try simp only[Exit.inBlock,Exit.then]
    refine bT rfl rfl ?_;try simp only[zD,zE]
    exact ⟨_,rfl,hX,by rw [← C8 hk0 (by omega) hc1 ht]⟩
  ·
   obtain rfl : k = 0:=by omega
   refine wp_region_lit (aA (aB) (aA (bM rfl Tryz.underlying97 rfl) (aA (iZ rfl rfl (by omega)) ?_)));simp only[ev,zD,zE,zF,zG];refine aA (aB) ?_;simp only[ev,zD,zE,zF,zG];refine bD rfl ?_;simp only[ev,zD,zE,zF,zG];refine bD rfl ?_;simp only[ev,zD,zE,zF,zG];refine bD rfl ?_;simp only[ev,zD,zE,zF,zG];refine bD rfl ?_;simp only[ev,zD,zE,zF,zG];refine bD rfl ?_;simp only[ev,zD,zE,zF,zG];refine bD rfl ?_;simp only[ev,zD,zE,zF,zG];refine bD rfl ?_;simp only[ev,zD,zE,zF,zG];refine aA (cU rfl) ?_;simp only[ev,zD,zE,zF,zG];refine aC ?_;refine hK4 _ _ ?_;refine eM rfl (wp_exit ?_);refine hK2 _ _ ?_;refine aF (fun K6 hK6=>wp_region_lit (aA (aB) (aA (aD) ?_)));simp only[ev,zD,zE,zF,zG];refine aC ?_;refine hK6 _ _ ?_;refine wp_ret ?_;try simp only[Exit.inBlock,Exit.then]
   refine bT rfl rfl ?_;try simp only[zD,zE]
   exact ⟨_,rfl,hX,by rw [← C9 ht]⟩
theorem Km {A B : Option Addr} {xs ys : List Nat} {na nb ca cb : Nat} (w : World) (hS : cG w A na ca xs) (hR : cG w B nb cb ys) (tx : fK xs) (ty : fK ys) : gD Tryz.prog 122 [.slice A na ca,.slice B nb cb] w (fun v _=>v = .int .i64 (Nl (val 4294967296 xs) (val 4294967296 ys))):=by
 skip
 refine ⟨Q8,?_⟩;have hX:=cD.refl w;obtain rfl:=hS.eq;obtain rfl:=hR.eq;have hl:=hS.len;have hl2:=hR.len
 go_enter Tryz.func122,Tryz.ntmps122
 refine aF (fun K1 hK1=>wp_region_lit (aA (aD) ?_));simp only[ev,zD,zE,zF,zG];refine aC ?_;refine hK1 _ _ ?_;refine aF (fun K2 hK2=>wp_block (aF (fun K3 hK3=>wp_region_lit (aA (aB) (aA (bM rfl Tryz.underlying97 rfl) (aA (aB) ?_))))));simp only[ev,zD,zE,zF,zG];refine aA (bM rfl Tryz.underlying97 rfl) (aA (dS rfl rfl) (aA (aD) ?_));simp only[ev,zD,zE,zF,zG];refine aC ?_;refine hK3 _ _ ?_;refine cK rfl (fun hc1=>?_) (fun hc1=>?_)
 ·
  refine aF (fun K4 hK4=>wp_region_lit (aA (aD) ?_));simp only[ev,zD,zE,zF,zG];refine aC ?_;refine hK4 _ _ ?_;refine wp_ret ?_;try simp only[Exit.inBlock,Exit.then]
  refine bT rfl rfl ?_;try simp only[zD,zE]
  exact ⟨_,rfl,hX,by rw [Nl,if_pos (j9 (by omega) hS.digs hR.digs ty (by omega))]⟩
 ·
  refine aF (fun K5 hK5=>wp_region_lit (aA (aB) (aA (bM rfl Tryz.underlying97 rfl) (aA (aB) ?_))));simp only[ev,zD,zE,zF,zG];refine aA (bM rfl Tryz.underlying97 rfl) (aA (gJ rfl rfl) (aA (aD) ?_));simp only[ev,zD,zE,zF,zG];refine aC ?_;refine hK5 _ _ ?_;refine cK rfl (fun hc2=>?_) (fun hc2=>?_)
  ·
   refine aF (fun K6 hK6=>wp_region_lit (aA (aD) ?_));simp only[ev,zD,zE,zF,zG];refine aC ?_;refine hK6 _ _ ?_;refine wp_ret ?_;try simp only[Exit.inBlock,Exit.then]
   refine bT rfl rfl ?_;try simp only[zD,zE]
   exact ⟨_,rfl,hX,by have:=j9 (B:=4294967296) (by omega) hR.digs hS.digs tx (by omega); rw [Nl,if_neg (by omega),if_pos this]⟩
  ·
   refine wp_skip ?_;refine hK2 _ _ ?_;refine aF (fun K7 hK7=>aF (fun K8 hK8=>wp_region_lit (aA (aB) (aA (bM rfl Tryz.underlying97 rfl) (aA (eA rfl rfl (aL (by omega) (by omega))) ?_)))));simp only[ev,zD,zE,zF,zG];refine aA (aD) ?_;simp only[ev,zD,zE,zF,zG];refine aC ?_;refine hK8 _ _ ?_;refine wp_block ?_;refine cX [5] [4,21,22,23,24,25,26,27,28,29,30,31,32,33,34,35,36,37,38,39,40,41,42,43,44] (fun n vs wl=>∃ (k : Nat),vs = [.int .i64 ((k:Int) - 1)] ∧ (cD w wl) ∧ (k ≤ xs.length) ∧ (xs.drop k = ys.drop k) ∧ (n = k)) ?_ ?_
   ·
    apply Exists.intro;simp only[zQ,zR,zD,zE];exact ⟨xs.length,rfl,hX,Nat.le_refl _,by rw [List.drop_length,show xs.length = ys.length by omega,List.drop_length],rfl⟩
   ·
    intro n vs wr hI u;obtain ⟨k,rfl,hX,hk,hd,hn⟩:=hI;simp only[aK,aQ,aM,aP,zF,zG];refine aF (fun K9 hK9=>aF (fun K10 hK10=>wp_region_lit (aA (aB) (aA (kK rfl rfl) ?_))));simp only[ev,zD,zE,zF,zG];refine aC ?_;refine hK10 _ _ ?_;refine cK rfl (fun hc3=>?_) (fun hc3=>?_)
    ·
     refine wp_skip ?_;refine hK9 _ _ ?_;refine aF (fun K11 hK11=>wp_block (wp_block (aF (fun K12 hK12=>?_))));obtain ⟨a,rfl,hca,_⟩:=(hS.ext hX).get (show k - 1 < xs.length by omega);obtain ⟨b,rfl,hcb,_⟩:=(hR.ext hX).get (show k - 1 < ys.length by omega);refine iG aU (by kernel_rfl) (aR (aB) (aR (aB) (aR (aT Tryz.underlying97 bA rfl rfl (by omega) (by omega) (d7 (show _ = k - 1 by omega))) ?_)));simp only[ev,zD,zE,zF,zG];refine iM rfl (fun _ hE'=>(lies1 (hE'.cell hca) eD)) ?_;simp only[ev,zD,zE,zF,zG];refine aR (aB) (aR (aB) (aR (aT Tryz.underlying97 bA rfl rfl (by omega) (by omega) (d7 (show _ = k - 1 by omega))) ?_));simp only[ev,zD,zE,zF,zG];refine iM rfl (fun _ hE'=>(lies1 (hE'.cell hcb) eD)) ?_;simp only[ev,zD,zE,zF,zG];refine aR (dS rfl rfl) (aR (aD) ?_);simp only[ev,zD,zE,zF,zG];refine dW ?_;intro w1 hE;replace hX:=hX.trans hE;clear hE;refine hK12 _ _ ?_;refine cK rfl (fun hc4=>?_) (fun hc4=>?_)
     ·
      refine aF (fun K13 hK13=>wp_region_lit (aA (aD) ?_));simp only[ev,zD,zE,zF,zG];refine aC ?_;refine hK13 _ _ ?_;refine wp_ret ?_;try simp only[Exit.inBlock,Exit.then]
      refine bT rfl rfl ?_;try simp only[zD,zE]
      exact ⟨_,rfl,hX,by rw [Nl,if_pos (J1 hS.digs (by omega) (by omega) (by omega) hd hc4)]⟩
     ·
      refine aF (fun K14 hK14=>?_);have hca:=(hS.ext hX).at (show k - 1 < xs.length by omega);have hcb:=(hR.ext hX).at (show k - 1 < ys.length by omega);refine iG aU (by kernel_rfl) (aR (aB) (aR (aB) (aR (aT Tryz.underlying97 bA rfl rfl (by omega) (by omega) (d7 (show _ = k - 1 by omega))) ?_)));simp only[ev,zD,zE,zF,zG];refine iM rfl (fun _ hE'=>(lies1 (hE'.cell hca) eD)) ?_;simp only[ev,zD,zE,zF,zG];refine aR (aB) (aR (aB) (aR (aT Tryz.underlying97 bA rfl rfl (by omega) (by omega) (d7 (show _ = k - 1 by omega))) ?_));simp only[ev,zD,zE,zF,zG];refine iM rfl (fun _ hE'=>(lies1 (hE'.cell hcb) eD)) ?_;simp only[ev,zD,zE,zF,zG];refine aR (gJ rfl rfl) (aR (aD) ?_);simp only[ev,zD,zE,zF,zG];refine dW ?_;intro w2 hE;replace hX:=hX.trans hE;clear hE;refine hK14 _ _ ?_;refine cK rfl (fun hc5=>?_) (fun hc5=>?_)
      ·
       refine aF (fun K15 hK15=>wp_region_lit (aA (aD) ?_));simp only[ev,zD,zE,zF,zG];refine aC ?_;refine hK15 _ _ ?_;refine wp_ret ?_;try simp only[Exit.inBlock,Exit.then]
       refine bT rfl rfl ?_;try simp only[zD,zE]
       exact ⟨_,rfl,hX,by have:=J1 hR.digs (by omega) (by omega) (by omega) hd.symm hc5; rw [Nl,if_neg (by omega),if_pos this]⟩
      ·
       refine wp_skip ?_;refine hK11 _ _ ?_;refine wp_region_lit (aA (aB) (aA (eA rfl rfl (aL (by omega) (by omega))) (aA (aD) ?_)));simp only[ev,zD,zE,zF,zG];refine aC ?_;rw [show ((k:Int) - 1 - 1) = ((k - 1 : Nat) : Int) - 1 by omega];simp only[Exit.inBlock,Exit.then];refine ⟨k - 1,_,?_,rfl,?_,?_⟩
       · omega
       · simp only[zQ,zR,zD,zE,aK,aQ,aM,aP,zF,zG]
       ·
        simp only[zQ,zR,zD,zE];exact ⟨k - 1,rfl,hX,by omega,Hg (by omega) (by omega) (by omega) hd hc4 hc5,rfl⟩
    ·
     refine wp_exit ?_;refine hK7 _ _ ?_;refine aF (fun K16 hK16=>wp_region_lit (aA (aD) ?_));simp only[ev,zD,zE,zF,zG];refine aC ?_;refine hK16 _ _ ?_;refine wp_ret ?_;try simp only[Exit.inBlock,Exit.then]
     refine bT rfl rfl ?_;try simp only[zD,zE]
     exact ⟨_,rfl,hX,by have h0 : k = 0:=(by omega); subst h0; simp only[List.drop_zero] at hd; rw [hd,Nl,if_neg (by omega),if_neg (by omega)]⟩
theorem Vk {A B : Option Addr} {xs ys : List Nat} {na nb ca cb : Nat} (w : World) (hS : cG w A na ca xs) (hR : cG w B nb cb ys) (hlx : xs.length ≤ 1099511627776) (hly : ys.length ≤ 1099511627776) : gD Tryz.prog 121 [.slice A na ca,.slice B nb cb] w (fH (val 4294967296 xs + val 4294967296 ys)):=by
 skip
 refine ⟨Q7,?_⟩;have hX:=cD.refl w;obtain rfl:=hS.eq;obtain rfl:=hR.eq
 go_enter Tryz.func121,Tryz.ntmps121
 refine aF (fun K1 hK1=>wp_region_lit (aA (aD) ?_));simp only[ev,zD,zE,zF,zG];refine aC ?_;refine hK1 _ _ ?_;refine aF (fun K2 hK2=>aF (fun K3 hK3=>wp_region_lit (aA (aB) (aA (bM rfl Tryz.underlying97 rfl) (aA (aB) ?_)))));simp only[ev,zD,zE,zF,zG];refine aA (bM rfl Tryz.underlying97 rfl) (aA (dS rfl rfl) ?_);simp only[ev,zD,zE,zF,zG];refine aC ?_;refine hK3 _ _ ?_;refine cK rfl (fun hc1=>?_) (fun hc1=>?_)
 ·
  obtain ⟨qb,rfl⟩ : ∃ q,q = xs:=⟨_,rfl⟩
  obtain ⟨qa,rfl⟩ : ∃ q,q = ys:=⟨_,rfl⟩
  obtain ⟨Qb,rfl⟩ : ∃ q,q = A:=⟨_,rfl⟩
  obtain ⟨Qa,rfl⟩ : ∃ q,q = B:=⟨_,rfl⟩
  have hSa:=hR;have hSb:=hS;refine wp_region_lit (aA (aB) (aA (aB) (aA (aD) ?_)));simp only[ev,zD,zE,zF,zG];refine aA (aD) ?_;simp only[ev,zD,zE,zF,zG];refine aC ?_;refine hK2 _ _ ?_;refine aF (fun K4 hK4=>wp_region_lit (aA (aB) (aA (bM rfl Tryz.underlying97 rfl) (aA (aX rfl rfl (aL (by omega) (by omega))) ?_))));simp only[ev,zD,zE,zF,zG];refine iR Tryz.underlying97 kH rfl rfl rfl (show _ = qa.length + 1 by omega) (show _ = qa.length + 1 by omega) (by omega) (by omega) (by omega) (by omega) ?_;intro w1 g1 hE hg1 hB1;have hG1:=Nat.le_trans hX.size hg1;replace hX:=hX.trans hE;clear hE hg1;simp only[ev,zD,zE,zF,zG];refine aA (aD) ?_;simp only[ev,zD,zE,zF,zG];refine aC ?_;rw [fT] at hB1;refine hK4 _ _ ?_;refine aF (fun K5 hK5=>wp_region_lit (aA (aD) ?_));simp only[ev,zD,zE,zF,zG];refine aC ?_;refine hK5 _ _ ?_;refine aF (fun K6 hK6=>aF (fun K7 hK7=>wp_region_lit (aA (aB) (aA (bM rfl Tryz.underlying97 rfl) (aA (aB) ?_)))));simp only[ev,zD,zE,zF,zG];refine aC ?_;refine hK7 _ _ ?_;refine wp_block ?_;refine cX [6,22] [7,8,23,24,25,26,27,28,29,30,31,32,33,34,35,36,37,38,39,40,41,42,43,44,45,46,47,48] (fun n vs wl=>∃ (i c : Nat) (os : List Nat),vs = [.int .u64 (c:Int),.int .i64 (i:Int)] ∧ (cD w wl) ∧ (eU wl g1 (os.map iD) 101) ∧ (i ≤ qa.length) ∧ (os.length = qa.length + 1) ∧ (val 4294967296 os + 4294967296 ^ i * c = val 4294967296 (qa.take i) + val 4294967296 (qb.take i)) ∧ (os.drop i = List.replicate (qa.length + 1 - i) 0) ∧ (cM 4294967296 os) ∧ (c ≤ 1) ∧ (n = qa.length - i)) ?_ ?_
  ·
   apply Exists.intro;simp only[zQ,zR,zD,zE];exact ⟨0,0,List.replicate (qa.length + 1) 0,rfl,hX,hB1,by omega,by simp,by simp [fB,val],by simp,fun x hx=>by rw [List.eq_of_mem_replicate hx]; decide,by omega,rfl⟩
  ·
   intro n vs wr hI u;obtain ⟨i,c,os,rfl,hX,hB1,hi,hlo,hv,hz,hd,hc,hn⟩:=hI;simp only[aK,aQ,aM,aP,zF,zG];refine aF (fun K8 hK8=>wp_region_lit (aA (dS rfl rfl) ?_));simp only[ev,zD,zE,zF,zG];refine aC ?_;refine hK8 _ _ ?_;refine aF (fun K9 hK9=>?_);refine cK rfl (fun hc2=>?_) (fun hc2=>?_)
   ·
    refine wp_skip ?_;refine hK9 _ _ ?_;refine aF (fun K10 hK10=>wp_block (aF (fun K11 hK11=>wp_region_lit (aA (aB) (aA (aD) ?_)))));simp only[ev,zD,zE,zF,zG];refine aC ?_;refine hK11 _ _ ?_;refine aF (fun K12 hK12=>?_);obtain ⟨a,rfl,hca,hla⟩:=(hSa.ext hX).get (show i < qa.length by omega);refine wp_region_lit (aA (aB) (aA (aB) (aA (aT Tryz.underlying97 bA rfl rfl (by omega) (by omega) (d7 (Int.toNat_natCast _))) ?_)));simp only[ev,zD,zE,zF,zG];refine aI rfl (lies1 hca eD) ?_;simp only[ev,zD,zE,zF,zG];refine aA (aB) (aA (aX rfl rfl (eP (by omega) (by omega))) (aA (aD) ?_));simp only[ev,zD,zE,zF,zG];refine aC ?_;refine hK12 _ _ ?_;refine aF (fun K13 hK13=>aF (fun K14 hK14=>wp_region_lit (aA (aB) (aA (aB) (aA (bM rfl Tryz.underlying97 rfl) ?_)))));simp only[ev,zD,zE,zF,zG];refine aA (dS rfl rfl) ?_;simp only[ev,zD,zE,zF,zG];refine aC ?_;refine hK14 _ _ ?_;refine cK rfl (fun hc3=>?_) (fun hc3=>?_)
    ·
     obtain ⟨b,rfl,hcb,hlb⟩:=(hSb.ext hX).get (show i < qb.length by omega);refine wp_region_lit (aA (aB) (aA (aB) (aA (aB) ?_)));simp only[ev,zD,zE,zF,zG];refine aA (aT Tryz.underlying97 bA rfl rfl (by omega) (by omega) (d7 (Int.toNat_natCast _))) ?_;simp only[ev,zD,zE,zF,zG];refine aI rfl (lies1 hcb eD) ?_;simp only[ev,zD,zE,zF,zG];refine aA (aX rfl rfl (eP (by omega) (by omega))) (aA (aD) ?_);simp only[ev,zD,zE,zF,zG];refine aC ?_;obtain ⟨s,hs⟩ : ∃ s : Nat,(s : Int) = ↑qa[i] + ↑c + ↑qb[i]:=⟨qa[i] + c + qb[i],by omega⟩
     rw [← hs];have hs2 : s = qa[i] + c + qb[i]?.getD 0:=by rw [List.getElem?_eq_getElem (by omega)]; simp; omega
     have hyb : qb[i]?.getD 0 < 4294967296:=by rw [List.getElem?_eq_getElem (by omega)]; exact hlb
     refine hK13 _ _ ?_;refine wp_region_lit (aA (aB) (aA (aB) (aA (aB) ?_)));simp only[ev,zD,zE,zF,zG];refine aA (nC rfl rfl (kQ (by omega) (by omega))) (aA (aB) (aA (i9 rfl rfl (by omega) (yU (by omega))) ?_));simp only[ev,zD,zE,zF,zG];refine aA (aT Tryz.underlying97 bA rfl rfl (by omega) (by omega) (eF (Int.toNat_natCast _))) ?_;simp only[ev,zD,zE,zF,zG];refine bZ rfl (by simp only[ev,zD,zE]; rfl) (by exact bA) hB1 (by simp; omega) (by simp [Value.oneCell']) ?_;clear hB1; intro w2 hC hB1;replace hX:=hX.chg hC hG1;clear hC;rw [show ((s:Int) % 4294967296) = ((s % 4294967296 : Nat) : Int) by omega,eZ (by omega)] at hB1;refine aA (aD) ?_;simp only[ev,zD,zE,zF,zG];refine aC ?_;refine hK10 _ _ ?_;refine wp_region_lit (aA (aX rfl rfl (aL (by omega) (by omega))) (aA (aB) ?_));simp only[ev,zD,zE,zF,zG];refine aC ?_;obtain ⟨r1,r2,r3,r4⟩:=pW (by omega) hlo hv hz hd hc hs2 hla hyb;rw [show ((i:Int) + 1) = ((i + 1 : Nat) : Int) by omega,show ((s:Int) / 4294967296) = ((s / 4294967296 : Nat) : Int) by omega];simp only[Exit.inBlock,Exit.then];refine ⟨qa.length - (i + 1),_,?_,rfl,?_,?_⟩
     · omega
     · simp only[zQ,zR,zD,zE,aK,aQ,aM,aP,zF,zG]
     ·
      simp only[zQ,zR,zD,zE];exact ⟨i + 1,s / 4294967296,os.set i (s % 4294967296),rfl,hX,hB1,by omega,by simpa using hlo,r1,r2,r3,r4,rfl⟩
    ·
     obtain ⟨s,hs⟩ : ∃ s : Nat,(s : Int) = ↑qa[i] + ↑c:=⟨qa[i] + c,by omega⟩
     rw [← hs];have hs2 : s = qa[i] + c + qb[i]?.getD 0:=by rw [List.getElem?_eq_none (by omega)]; simp; omega
     have hyb : qb[i]?.getD 0 < 4294967296:=by rw [List.getElem?_eq_none (by omega)]; decide
     refine wp_skip ?_;refine hK13 _ _ ?_;refine wp_region_lit (aA (aB) (aA (aB) (aA (aB) ?_)));simp only[ev,zD,zE,zF,zG];refine aA (nC rfl rfl (kQ (by omega) (by omega))) (aA (aB) (aA (i9 rfl rfl (by omega) (yU (by omega))) ?_));simp only[ev,zD,zE,zF,zG];refine aA (aT Tryz.underlying97 bA rfl rfl (by omega) (by omega) (eF (Int.toNat_natCast _))) ?_;simp only[ev,zD,zE,zF,zG];refine bZ rfl (by simp only[ev,zD,zE]; rfl) (by exact bA) hB1 (by simp; omega) (by simp [Value.oneCell']) ?_;clear hB1; intro w2 hC hB1;replace hX:=hX.chg hC hG1;clear hC;rw [show ((s:Int) % 4294967296) = ((s % 4294967296 : Nat) : Int) by omega,eZ (by omega)] at hB1;refine aA (aD) ?_;simp only[ev,zD,zE,zF,zG];refine aC ?_;refine hK10 _ _ ?_;refine wp_region_lit (aA (aX rfl rfl (aL (by omega) (by omega))) (aA (aB) ?_));simp only[ev,zD,zE,zF,zG];refine aC ?_;obtain ⟨r1,r2,r3,r4⟩:=pW (by omega) hlo hv hz hd hc hs2 hla hyb;rw [show ((i:Int) + 1) = ((i + 1 : Nat) : Int) by omega,show ((s:Int) / 4294967296) = ((s / 4294967296 : Nat) : Int) by omega];simp only[Exit.inBlock,Exit.then];refine ⟨qa.length - (i + 1),_,?_,rfl,?_,?_⟩
     · omega
     · simp only[zQ,zR,zD,zE,aK,aQ,aM,aP,zF,zG]
     ·
      simp only[zQ,zR,zD,zE];exact ⟨i + 1,s / 4294967296,os.set i (s % 4294967296),rfl,hX,hB1,by omega,by simpa using hlo,r1,r2,r3,r4,rfl⟩
   ·
    refine wp_exit ?_;refine hK6 _ _ ?_;refine aF (fun K15 hK15=>?_);obtain rfl : i = qa.length:=by omega
    refine wp_region_lit (aA (aB) (aA (aB) (aA (bM rfl Tryz.underlying97 rfl) ?_)));simp only[ev,zD,zE,zF,zG];refine aA (aB) (aA (aT Tryz.underlying97 bA rfl rfl (by omega) (by omega) (eF (Int.toNat_natCast _))) ?_);simp only[ev,zD,zE,zF,zG];refine bZ rfl (by simp only[ev,zD,zE]; rfl) (by exact bA) hB1 (by simp; omega) (by simp [Value.oneCell']) ?_;clear hB1; intro w2 hC hB1;replace hX:=hX.chg hC hG1;clear hC;rw [eZ (by omega)] at hB1;refine aC ?_;refine hK15 _ _ ?_;refine aF (fun K16 hK16=>wp_region_lit (aA (aB) ?_));simp only[ev,zD,zE,zF,zG];refine bO rfl rfl (m8 _ (hB1.nat (hd.set (show c < 4294967296 by omega)) (by simp; omega) (by omega))) ?_;rintro v w3 hE rfl;replace hB1:=hB1.ext hE; replace hX:=hX.trans hE;clear hE;simp only[ev,zD,zE,zF,zG];refine aA (aD) ?_;simp only[ev,zD,zE,zF,zG];refine aC ?_;refine hK16 _ _ ?_;refine wp_ret ?_;try simp only[Exit.inBlock,Exit.then]
    refine bT rfl rfl ?_;try simp only[zD,zE]
    exact ⟨_,rfl,hX,by first | exact fH.of_trim (hB1.nat (hd.set (show c < 4294967296 by omega)) (by simp; omega) (by omega)) (u9 (by omega) hlo hv hz) | (rw [Nat.add_comm]; exact fH.of_trim (hB1.nat (hd.set (show c < 4294967296 by omega)) (by simp; omega) (by omega)) (u9 (by omega) hlo hv hz))⟩
 ·
  obtain ⟨qa,rfl⟩ : ∃ q,q = xs:=⟨_,rfl⟩
  obtain ⟨qb,rfl⟩ : ∃ q,q = ys:=⟨_,rfl⟩
  obtain ⟨Qa,rfl⟩ : ∃ q,q = A:=⟨_,rfl⟩
  obtain ⟨Qb,rfl⟩ : ∃ q,q = B:=⟨_,rfl⟩
  have hSa:=hS;have hSb:=hR;refine wp_skip ?_;refine hK2 _ _ ?_;refine aF (fun K17 hK17=>wp_region_lit (aA (aB) (aA (bM rfl Tryz.underlying97 rfl) (aA (aX rfl rfl (aL (by omega) (by omega))) ?_))));simp only[ev,zD,zE,zF,zG];refine iR Tryz.underlying97 kH rfl rfl rfl (show _ = qa.length + 1 by omega) (show _ = qa.length + 1 by omega) (by omega) (by omega) (by omega) (by omega) ?_;intro w1 g1 hE hg1 hB1;have hG1:=Nat.le_trans hX.size hg1;replace hX:=hX.trans hE;clear hE hg1;simp only[ev,zD,zE,zF,zG];refine aA (aD) ?_;simp only[ev,zD,zE,zF,zG];refine aC ?_;rw [fT] at hB1;refine hK17 _ _ ?_;refine aF (fun K18 hK18=>wp_region_lit (aA (aD) ?_));simp only[ev,zD,zE,zF,zG];refine aC ?_;refine hK18 _ _ ?_;refine aF (fun K19 hK19=>aF (fun K20 hK20=>wp_region_lit (aA (aB) (aA (bM rfl Tryz.underlying97 rfl) (aA (aB) ?_)))));simp only[ev,zD,zE,zF,zG];refine aC ?_;refine hK20 _ _ ?_;refine wp_block ?_;refine cX [6,22] [7,8,23,24,25,26,27,28,29,30,31,32,33,34,35,36,37,38,39,40,41,42,43,44,45,46,47,48] (fun n vs wl=>∃ (i c : Nat) (os : List Nat),vs = [.int .u64 (c:Int),.int .i64 (i:Int)] ∧ (cD w wl) ∧ (eU wl g1 (os.map iD) 101) ∧ (i ≤ qa.length) ∧ (os.length = qa.length + 1) ∧ (val 4294967296 os + 4294967296 ^ i * c = val 4294967296 (qa.take i) + val 4294967296 (qb.take i)) ∧ (os.drop i = List.replicate (qa.length + 1 - i) 0) ∧ (cM 4294967296 os) ∧ (c ≤ 1) ∧ (n = qa.length - i)) ?_ ?_
  ·
   apply Exists.intro;simp only[zQ,zR,zD,zE];exact ⟨0,0,List.replicate (qa.length + 1) 0,rfl,hX,hB1,by omega,by simp,by simp [fB,val],by simp,fun x hx=>by rw [List.eq_of_mem_replicate hx]; decide,by omega,rfl⟩
  ·
   intro n vs wr hI u;obtain ⟨i,c,os,rfl,hX,hB1,hi,hlo,hv,hz,hd,hc,hn⟩:=hI;simp only[aK,aQ,aM,aP,zF,zG];refine aF (fun K21 hK21=>wp_region_lit (aA (dS rfl rfl) ?_));simp only[ev,zD,zE,zF,zG];refine aC ?_;refine hK21 _ _ ?_;refine aF (fun K22 hK22=>?_);refine cK rfl (fun hc2=>?_) (fun hc2=>?_)
   ·
    refine wp_skip ?_;refine hK22 _ _ ?_;refine aF (fun K23 hK23=>wp_block (aF (fun K24 hK24=>wp_region_lit (aA (aB) (aA (aD) ?_)))));simp only[ev,zD,zE,zF,zG];refine aC ?_;refine hK24 _ _ ?_;refine aF (fun K25 hK25=>?_);obtain ⟨a,rfl,hca,hla⟩:=(hSa.ext hX).get (show i < qa.length by omega);refine wp_region_lit (aA (aB) (aA (aB) (aA (aT Tryz.underlying97 bA rfl rfl (by omega) (by omega) (d7 (Int.toNat_natCast _))) ?_)));simp only[ev,zD,zE,zF,zG];refine aI rfl (lies1 hca eD) ?_;simp only[ev,zD,zE,zF,zG];refine aA (aB) (aA (aX rfl rfl (eP (by omega) (by omega))) (aA (aD) ?_));simp only[ev,zD,zE,zF,zG];refine aC ?_;refine hK25 _ _ ?_;refine aF (fun K26 hK26=>aF (fun K27 hK27=>wp_region_lit (aA (aB) (aA (aB) (aA (bM rfl Tryz.underlying97 rfl) ?_)))));simp only[ev,zD,zE,zF,zG];refine aA (dS rfl rfl) ?_;simp only[ev,zD,zE,zF,zG];refine aC ?_;refine hK27 _ _ ?_;refine cK rfl (fun hc3=>?_) (fun hc3=>?_)
    ·
     obtain ⟨b,rfl,hcb,hlb⟩:=(hSb.ext hX).get (show i < qb.length by omega);refine wp_region_lit (aA (aB) (aA (aB) (aA (aB) ?_)));simp only[ev,zD,zE,zF,zG];refine aA (aT Tryz.underlying97 bA rfl rfl (by omega) (by omega) (d7 (Int.toNat_natCast _))) ?_;simp only[ev,zD,zE,zF,zG];refine aI rfl (lies1 hcb eD) ?_;simp only[ev,zD,zE,zF,zG];refine aA (aX rfl rfl (eP (by omega) (by omega))) (aA (aD) ?_);simp only[ev,zD,zE,zF,zG];refine aC ?_;obtain ⟨s,hs⟩ : ∃ s : Nat,(s : Int) = ↑qa[i] + ↑c + ↑qb[i]:=⟨qa[i] + c + qb[i],by omega⟩
     rw [← hs];have hs2 : s = qa[i] + c + qb[i]?.getD 0:=by rw [List.getElem?_eq_getElem (by omega)]; simp; omega
     have hyb : qb[i]?.getD 0 < 4294967296:=by rw [List.getElem?_eq_getElem (by omega)]; exact hlb
     refine hK26 _ _ ?_;refine wp_region_lit (aA (aB) (aA (aB) (aA (aB) ?_)));simp only[ev,zD,zE,zF,zG];refine aA (nC rfl rfl (kQ (by omega) (by omega))) (aA (aB) (aA (i9 rfl rfl (by omega) (yU (by omega))) ?_));simp only[ev,zD,zE,zF,zG];refine aA (aT Tryz.underlying97 bA rfl rfl (by omega) (by omega) (eF (Int.toNat_natCast _))) ?_;simp only[ev,zD,zE,zF,zG];refine bZ rfl (by simp only[ev,zD,zE]; rfl) (by exact bA) hB1 (by simp; omega) (by simp [Value.oneCell']) ?_;clear hB1; intro w2 hC hB1;replace hX:=hX.chg hC hG1;clear hC;rw [show ((s:Int) % 4294967296) = ((s % 4294967296 : Nat) : Int) by omega,eZ (by omega)] at hB1;refine aA (aD) ?_;simp only[ev,zD,zE,zF,zG];refine aC ?_;refine hK23 _ _ ?_;refine wp_region_lit (aA (aX rfl rfl (aL (by omega) (by omega))) (aA (aB) ?_));simp only[ev,zD,zE,zF,zG];refine aC ?_;obtain ⟨r1,r2,r3,r4⟩:=pW (by omega) hlo hv hz hd hc hs2 hla hyb;rw [show ((i:Int) + 1) = ((i + 1 : Nat) : Int) by omega,show ((s:Int) / 4294967296) = ((s / 4294967296 : Nat) : Int) by omega];simp only[Exit.inBlock,Exit.then];refine ⟨qa.length - (i + 1),_,?_,rfl,?_,?_⟩
     · omega
     · simp only[zQ,zR,zD,zE,aK,aQ,aM,aP,zF,zG]
     ·
      simp only[zQ,zR,zD,zE];exact ⟨i + 1,s / 4294967296,os.set i (s % 4294967296),rfl,hX,hB1,by omega,by simpa using hlo,r1,r2,r3,r4,rfl⟩
    ·
     obtain ⟨s,hs⟩ : ∃ s : Nat,(s : Int) = ↑qa[i] + ↑c:=⟨qa[i] + c,by omega⟩
     rw [← hs];have hs2 : s = qa[i] + c + qb[i]?.getD 0:=by rw [List.getElem?_eq_none (by omega)]; simp; omega
     have hyb : qb[i]?.getD 0 < 4294967296:=by rw [List.getElem?_eq_none (by omega)]; decide
     refine wp_skip ?_;refine hK26 _ _ ?_;refine wp_region_lit (aA (aB) (aA (aB) (aA (aB) ?_)));simp only[ev,zD,zE,zF,zG];refine aA (nC rfl rfl (kQ (by omega) (by omega))) (aA (aB) (aA (i9 rfl rfl (by omega) (yU (by omega))) ?_));simp only[ev,zD,zE,zF,zG];refine aA (aT Tryz.underlying97 bA rfl rfl (by omega) (by omega) (eF (Int.toNat_natCast _))) ?_;simp only[ev,zD,zE,zF,zG];refine bZ rfl (by simp only[ev,zD,zE]; rfl) (by exact bA) hB1 (by simp; omega) (by simp [Value.oneCell']) ?_;clear hB1; intro w2 hC hB1;replace hX:=hX.chg hC hG1;clear hC;rw [show ((s:Int) % 4294967296) = ((s % 4294967296 : Nat) : Int) by omega,eZ (by omega)] at hB1;refine aA (aD) ?_;simp only[ev,zD,zE,zF,zG];refine aC ?_;refine hK23 _ _ ?_;refine wp_region_lit (aA (aX rfl rfl (aL (by omega) (by omega))) (aA (aB) ?_));simp only[ev,zD,zE,zF,zG];refine aC ?_;obtain ⟨r1,r2,r3,r4⟩:=pW (by omega) hlo hv hz hd hc hs2 hla hyb;rw [show ((i:Int) + 1) = ((i + 1 : Nat) : Int) by omega,show ((s:Int) / 4294967296) = ((s / 4294967296 : Nat) : Int) by omega];simp only[Exit.inBlock,Exit.then];refine ⟨qa.length - (i + 1),_,?_,rfl,?_,?_⟩
     · omega
     · simp only[zQ,zR,zD,zE,aK,aQ,aM,aP,zF,zG]
     ·
      simp only[zQ,zR,zD,zE];exact ⟨i + 1,s / 4294967296,os.set i (s % 4294967296),rfl,hX,hB1,by omega,by simpa using hlo,r1,r2,r3,r4,rfl⟩
   ·
    refine wp_exit ?_;refine hK19 _ _ ?_;refine aF (fun K28 hK28=>?_);obtain rfl : i = qa.length:=by omega
    refine wp_region_lit (aA (aB) (aA (aB) (aA (bM rfl Tryz.underlying97 rfl) ?_)));simp only[ev,zD,zE,zF,zG];refine aA (aB) (aA (aT Tryz.underlying97 bA rfl rfl (by omega) (by omega) (eF (Int.toNat_natCast _))) ?_);simp only[ev,zD,zE,zF,zG];refine bZ rfl (by simp only[ev,zD,zE]; rfl) (by exact bA) hB1 (by simp; omega) (by simp [Value.oneCell']) ?_;clear hB1; intro w2 hC hB1;replace hX:=hX.chg hC hG1;clear hC;rw [eZ (by omega)] at hB1;refine aC ?_;refine hK28 _ _ ?_;refine aF (fun K29 hK29=>wp_region_lit (aA (aB) ?_));simp only[ev,zD,zE,zF,zG];refine bO rfl rfl (m8 _ (hB1.nat (hd.set (show c < 4294967296 by omega)) (by simp; omega) (by omega))) ?_;rintro v w3 hE rfl;replace hB1:=hB1.ext hE; replace hX:=hX.trans hE;clear hE;simp only[ev,zD,zE,zF,zG];refine aA (aD) ?_;simp only[ev,zD,zE,zF,zG];refine aC ?_;refine hK29 _ _ ?_;refine wp_ret ?_;try simp only[Exit.inBlock,Exit.then]
    refine bT rfl rfl ?_;try simp only[zD,zE]
    exact ⟨_,rfl,hX,by first | exact fH.of_trim (hB1.nat (hd.set (show c < 4294967296 by omega)) (by simp; omega) (by omega)) (u9 (by omega) hlo hv hz) | (rw [Nat.add_comm]; exact fH.of_trim (hB1.nat (hd.set (show c < 4294967296 by omega)) (by simp; omega) (by omega)) (u9 (by omega) hlo hv hz))⟩
theorem Kn {A B : Option Addr} {xs ys : List Nat} {na nb ca cb : Nat} (w : World) (hS : cG w A na ca xs) (hR : cG w B nb cb ys) (hle : ys.length ≤ xs.length) (hge : val 4294967296 ys ≤ val 4294967296 xs) (hlx : xs.length ≤ 1099511627776) : gD Tryz.prog 123 [.slice A na ca,.slice B nb cb] w (fun v w'=>fH (val 4294967296 xs - val 4294967296 ys) v w' ∧ sB w v):=by
 skip
 refine ⟨Q9,?_⟩;have hX:=cD.refl w;obtain rfl:=hS.eq;obtain rfl:=hR.eq
 go_enter Tryz.func123,Tryz.ntmps123
 refine aF (fun K1 hK1=>wp_region_lit (aA (aD) ?_));simp only[ev,zD,zE,zF,zG];refine aC ?_;refine hK1 _ _ ?_;refine aF (fun K2 hK2=>wp_region_lit (aA (aB) (aA (bM rfl Tryz.underlying97 rfl) ?_)));simp only[ev,zD,zE,zF,zG];refine iR Tryz.underlying97 kH rfl rfl rfl (Int.toNat_natCast _) (Int.toNat_natCast _) (by omega) (by omega) (by omega) (by omega) ?_;intro w1 g1 hE hg1 hB1;have hG1:=Nat.le_trans hX.size hg1;replace hX:=hX.trans hE;clear hE hg1;simp only[ev,zD,zE,zF,zG];refine aA (aD) ?_;simp only[ev,zD,zE,zF,zG];refine aC ?_;rw [fT] at hB1;refine hK2 _ _ ?_;refine aF (fun K3 hK3=>wp_region_lit (aA (aD) ?_));simp only[ev,zD,zE,zF,zG];refine aC ?_;refine hK3 _ _ ?_;refine aF (fun K4 hK4=>aF (fun K5 hK5=>wp_region_lit (aA (aB) (aA (bM rfl Tryz.underlying97 rfl) (aA (aB) ?_)))));simp only[ev,zD,zE,zF,zG];refine aC ?_;refine hK5 _ _ ?_;refine wp_block ?_;refine cX [6,14] [7,8,15,16,17,18,19,20,21,22,23,24,25,26,27,28,29,30,31,32,33,34,35,36,37,38,39,40] (fun n vs wl=>∃ (i c : Nat) (os : List Nat),vs = [.int .u64 (c:Int),.int .i64 (i:Int)] ∧ (cD w wl) ∧ (eU wl g1 (os.map iD) 101) ∧ (i ≤ xs.length) ∧ (os.length = xs.length) ∧ (val 4294967296 os + val 4294967296 (ys.take i) = val 4294967296 (xs.take i) + 4294967296 ^ i * c) ∧ (os.drop i = List.replicate (xs.length - i) 0) ∧ (cM 4294967296 os) ∧ (c ≤ 1) ∧ (n = xs.length - i)) ?_ ?_
 ·
  apply Exists.intro;simp only[zQ,zR,zD,zE];exact ⟨0,0,List.replicate xs.length 0,rfl,hX,hB1,by omega,by simp,by simp [fB,val],by simp,fun x hx=>by rw [List.eq_of_mem_replicate hx]; decide,by omega,rfl⟩
 ·
  intro n vs wr hI u;obtain ⟨i,c,os,rfl,hX,hB1,hi,hlo,hv,hz,hd,hc,hn⟩:=hI;simp only[aK,aQ,aM,aP,zF,zG];refine aF (fun K6 hK6=>wp_region_lit (aA (dS rfl rfl) ?_));simp only[ev,zD,zE,zF,zG];refine aC ?_;refine hK6 _ _ ?_;refine aF (fun K7 hK7=>?_);refine cK rfl (fun hc1=>?_) (fun hc1=>?_)
  ·
   refine wp_skip ?_;refine hK7 _ _ ?_;refine aF (fun K8 hK8=>wp_block (aF (fun K9 hK9=>wp_region_lit (aA (aB) (aA (aD) ?_)))));simp only[ev,zD,zE,zF,zG];refine aC ?_;refine hK9 _ _ ?_;refine aF (fun K10 hK10=>?_);obtain ⟨a,rfl,hca,hla⟩:=(hS.ext hX).get (show i < xs.length by omega);refine wp_region_lit (aA (aB) (aA (aB) (aA (aT Tryz.underlying97 bA rfl rfl (by omega) (by omega) (d7 (Int.toNat_natCast _))) ?_)));simp only[ev,zD,zE,zF,zG];refine aI rfl (lies1 hca eD) ?_;simp only[ev,zD,zE,zF,zG];refine aA (aB) (aA (eA rfl rfl (iJ _)) (aA (aD) ?_));simp only[ev,zD,zE,zF,zG];refine aC ?_;refine hK10 _ _ ?_;refine aF (fun K11 hK11=>aF (fun K12 hK12=>wp_region_lit (aA (aB) (aA (aB) (aA (bM rfl Tryz.underlying97 rfl) ?_)))));simp only[ev,zD,zE,zF,zG];refine aA (dS rfl rfl) ?_;simp only[ev,zD,zE,zF,zG];refine aC ?_;refine hK12 _ _ ?_;refine cK rfl (fun hc2=>?_) (fun hc2=>?_)
   ·
    obtain ⟨b,rfl,hcb,hlb⟩:=(hR.ext hX).get (show i < ys.length by omega);refine wp_region_lit (aA (aB) (aA (aB) (aA (aB) ?_)));simp only[ev,zD,zE,zF,zG];refine aA (aT Tryz.underlying97 bA rfl rfl (by omega) (by omega) (d7 (Int.toNat_natCast _))) ?_;simp only[ev,zD,zE,zF,zG];refine aI rfl (lies1 hcb eD) ?_;simp only[ev,zD,zE,zF,zG];refine aA (eA rfl rfl (iJ _)) (aA (aD) ?_);simp only[ev,zD,zE,zF,zG];refine aC ?_;obtain ⟨s,hs⟩ : ∃ s : Nat,(s : Int) = ((↑xs[i] - ↑c) % 18446744073709551616 - ↑ys[i]) % 18446744073709551616:=⟨(((↑xs[i] - ↑c) % 18446744073709551616 - ↑ys[i]) % 18446744073709551616 : Int).toNat,by omega⟩
    rw [← hs];have hs2 : (s : Int) = ((xs[i] : Nat) - (c : Nat) - (ys[i]?.getD 0 : Nat) : Int) % 18446744073709551616:=by rw [List.getElem?_eq_getElem (by omega)]; simp only[Option.getD_some]; omega
    have hyb : ys[i]?.getD 0 < 4294967296:=by rw [List.getElem?_eq_getElem (by omega)]; exact hlb
    refine hK11 _ _ ?_;have hs64 : s < 18446744073709551616:=by omega
    refine wp_region_lit (aA (aB) (aA (aB) (aA (aB) ?_)));simp only[ev,zD,zE,zF,zG];refine aA (nC rfl rfl (kQ (by omega) (by omega))) (aA (aB) (aA (i9 rfl rfl (by omega) (Qd (by omega))) ?_));simp only[ev,zD,zE,zF,zG];refine aA (aT Tryz.underlying97 bA rfl rfl (by omega) (by omega) (eF (Int.toNat_natCast _))) ?_;simp only[ev,zD,zE,zF,zG];refine bZ rfl (by simp only[ev,zD,zE]; rfl) (by exact bA) hB1 (by simp; omega) (by simp [Value.oneCell']) ?_;clear hB1; intro w2 hC hB1;replace hX:=hX.chg hC hG1;clear hC;rw [show ((s:Int) % 4294967296) = ((s % 4294967296 : Nat) : Int) by omega,eZ (by omega)] at hB1;refine aA (aD) ?_;simp only[ev,zD,zE,zF,zG];refine aC ?_;refine hK8 _ _ ?_;refine wp_region_lit (aA (aX rfl rfl (aL (by omega) (by omega))) (aA (aB) ?_));simp only[ev,zD,zE,zF,zG];refine aC ?_;obtain ⟨r1,r2,r3,r4⟩:=yV (by omega) hlo hv hz hd hc hs2 hla hyb;rw [show ((i:Int) + 1) = ((i + 1 : Nat) : Int) by omega,show ((s:Int) / 9223372036854775808) = ((s / 9223372036854775808 : Nat) : Int) by omega];simp only[Exit.inBlock,Exit.then];refine ⟨xs.length - (i + 1),_,?_,rfl,?_,?_⟩
    · omega
    · simp only[zQ,zR,zD,zE,aK,aQ,aM,aP,zF,zG]
    ·
     simp only[zQ,zR,zD,zE];exact ⟨i + 1,s / 9223372036854775808,os.set i (s % 4294967296),rfl,hX,hB1,by omega,by simpa using hlo,r1,r2,r3,r4,rfl⟩
   ·
    obtain ⟨s,hs⟩ : ∃ s : Nat,(s : Int) = (↑xs[i] - ↑c) % 18446744073709551616:=⟨((↑xs[i] - ↑c) % 18446744073709551616 : Int).toNat,by omega⟩
    rw [← hs];have hs2 : (s : Int) = ((xs[i] : Nat) - (c : Nat) - (ys[i]?.getD 0 : Nat) : Int) % 18446744073709551616:=by rw [List.getElem?_eq_none (by omega)]; simp only[Option.getD_none]; omega
    have hyb : ys[i]?.getD 0 < 4294967296:=by rw [List.getElem?_eq_none (by omega)]; decide
    refine wp_skip ?_;refine hK11 _ _ ?_;have hs64 : s < 18446744073709551616:=by omega
    refine wp_region_lit (aA (aB) (aA (aB) (aA (aB) ?_)));simp only[ev,zD,zE,zF,zG];refine aA (nC rfl rfl (kQ (by omega) (by omega))) (aA (aB) (aA (i9 rfl rfl (by omega) (Qd (by omega))) ?_));simp only[ev,zD,zE,zF,zG];refine aA (aT Tryz.underlying97 bA rfl rfl (by omega) (by omega) (eF (Int.toNat_natCast _))) ?_;simp only[ev,zD,zE,zF,zG];refine bZ rfl (by simp only[ev,zD,zE]; rfl) (by exact bA) hB1 (by simp; omega) (by simp [Value.oneCell']) ?_;clear hB1; intro w2 hC hB1;replace hX:=hX.chg hC hG1;clear hC;rw [show ((s:Int) % 4294967296) = ((s % 4294967296 : Nat) : Int) by omega,eZ (by omega)] at hB1;refine aA (aD) ?_;simp only[ev,zD,zE,zF,zG];refine aC ?_;refine hK8 _ _ ?_;refine wp_region_lit (aA (aX rfl rfl (aL (by omega) (by omega))) (aA (aB) ?_));simp only[ev,zD,zE,zF,zG];refine aC ?_;obtain ⟨r1,r2,r3,r4⟩:=yV (by omega) hlo hv hz hd hc hs2 hla hyb;rw [show ((i:Int) + 1) = ((i + 1 : Nat) : Int) by omega,show ((s:Int) / 9223372036854775808) = ((s / 9223372036854775808 : Nat) : Int) by omega];simp only[Exit.inBlock,Exit.then];refine ⟨xs.length - (i + 1),_,?_,rfl,?_,?_⟩
    · omega
    · simp only[zQ,zR,zD,zE,aK,aQ,aM,aP,zF,zG]
    ·
     simp only[zQ,zR,zD,zE];exact ⟨i + 1,s / 9223372036854775808,os.set i (s % 4294967296),rfl,hX,hB1,by omega,by simpa using hlo,r1,r2,r3,r4,rfl⟩
  ·
   refine wp_exit ?_;refine hK4 _ _ ?_;refine aF (fun K13 hK13=>?_);obtain rfl : i = xs.length:=by omega
   refine wp_region_lit (aA (aB) ?_);simp only[ev,zD,zE,zF,zG];refine bO rfl rfl (m8 _ (hB1.nat hd (by omega) (by omega))) ?_;rintro v w2 hE rfl;replace hB1:=hB1.ext hE; replace hX:=hX.trans hE;clear hE;simp only[ev,zD,zE,zF,zG];refine aA (aD) ?_;simp only[ev,zD,zE,zF,zG];refine aC ?_;refine hK13 _ _ ?_;refine wp_ret ?_;try simp only[Exit.inBlock,Exit.then]
   refine bT rfl rfl ?_;try simp only[zD,zE]
   exact ⟨_,rfl,hX,fH.of_trim (hB1.nat hd (n:=xs.length) (by omega) (by omega)) (Nm hle hlo hd hv hge),sB.of_blk hG1⟩
theorem Ko {A B : Option Addr} {xs ys : List Nat} {na nb ca cb : Nat} (w : World) (hS : cG w A na ca xs) (hR : cG w B nb cb ys) (hlx : xs.length ≤ 1099511627776) (hly : ys.length ≤ 1099511627776) : gD Tryz.prog 58 [.slice A na ca,.slice B nb cb] w (fH (val 4294967296 xs * val 4294967296 ys)):=by
 skip
 refine ⟨Ur,?_⟩;have hX:=cD.refl w;obtain rfl:=hS.eq;obtain rfl:=hR.eq
 go_enter Tryz.func58,Tryz.ntmps58
 refine aF (fun K1 hK1=>wp_region_lit (aA (aD) ?_));simp only[ev,zD,zE,zF,zG];refine aC ?_;refine hK1 _ _ ?_;refine aF (fun K2 hK2=>wp_region_lit (aA (aB) (aA (bM rfl Tryz.underlying97 rfl) (aA (aB) ?_))));simp only[ev,zD,zE,zF,zG];refine aA (bM rfl Tryz.underlying97 rfl) (aA (aX rfl rfl (aL (by omega) (by omega))) ?_);simp only[ev,zD,zE,zF,zG];refine iR Tryz.underlying97 kH rfl rfl rfl (show _ = xs.length + ys.length by omega) (show _ = xs.length + ys.length by omega) (by omega) (by omega) (by omega) (by omega) ?_;intro w1 g1 hE hg1 hB1;have hG1:=Nat.le_trans hX.size hg1;replace hX:=hX.trans hE;clear hE hg1;simp only[ev,zD,zE,zF,zG];refine aA (aD) ?_;simp only[ev,zD,zE,zF,zG];refine aC ?_;rw [fT] at hB1;refine hK2 _ _ ?_;refine aF (fun K3 hK3=>aF (fun K4 hK4=>wp_region_lit (aA (aB) (aA (bM rfl Tryz.underlying97 rfl) (aA (aB) ?_)))));simp only[ev,zD,zE,zF,zG];refine aC ?_;refine hK4 _ _ ?_;refine wp_block ?_;refine cX [20] [6,7,8,9,10,11,21,22,23,24,25,26,27,28,29,30,31,32,33,34,35,36,37,38,39,40,41,42,43,44,45,46,47,48,49,50,51,52,53,54,55,56,57,58,59,60,61] (fun n vs wl=>∃ (i : Nat) (os : List Nat),vs = [.int .i64 (i:Int)] ∧ (cD w wl) ∧ (eU wl g1 (os.map iD) 101) ∧ (i ≤ xs.length) ∧ (os.length = xs.length + ys.length) ∧ (val 4294967296 os = val 4294967296 (xs.take i) * val 4294967296 ys) ∧ (os.drop (i + ys.length) = List.replicate (xs.length - i) 0) ∧ (cM 4294967296 os) ∧ (n = xs.length - i)) ?_ ?_
 ·
  apply Exists.intro;simp only[zQ,zR,zD,zE];exact ⟨0,List.replicate (xs.length + ys.length) 0,rfl,hX,hB1,by omega,by simp,by rw [fB,List.take_zero]; simp only[val,Nat.zero_mul],by rw [List.drop_replicate]; congr 1; omega,fun x hx=>by rw [List.eq_of_mem_replicate hx]; decide,rfl⟩
 ·
  intro n vs wr hI u;obtain ⟨i,os,rfl,hX,hB1,hi,hlo,hv,hz,hd,hn⟩:=hI;simp only[aK,aQ,aM,aP,zF,zG];refine aF (fun K5 hK5=>wp_region_lit (aA (dS rfl rfl) ?_));simp only[ev,zD,zE,zF,zG];refine aC ?_;refine hK5 _ _ ?_;refine aF (fun K6 hK6=>?_);refine cK rfl (fun hc1=>?_) (fun hc1=>?_)
  ·
   refine wp_skip ?_;refine hK6 _ _ ?_;refine aF (fun K7 hK7=>wp_block (aF (fun K8 hK8=>?_)));obtain ⟨a,rfl,hca,hla⟩:=(hS.ext hX).get (show i < xs.length by omega);refine wp_region_lit (aA (aB) (aA (aT Tryz.underlying97 bA rfl rfl (by omega) (by omega) (d7 (Int.toNat_natCast _))) ?_));simp only[ev,zD,zE,zF,zG];refine aI rfl (lies1 hca eD) ?_;simp only[ev,zD,zE,zF,zG];refine aA (aD) (aA (aD) ?_);simp only[ev,zD,zE,zF,zG];refine aC ?_;refine hK8 _ _ ?_;refine aF (fun K9 hK9=>wp_region_lit (aA (aD) ?_));simp only[ev,zD,zE,zF,zG];refine aC ?_;refine hK9 _ _ ?_;refine aF (fun K10 hK10=>aF (fun K11 hK11=>wp_region_lit (aA (aB) (aA (bM rfl Tryz.underlying97 rfl) (aA (aB) ?_)))));simp only[ev,zD,zE,zF,zG];refine aC ?_;refine hK11 _ _ ?_;refine wp_block ?_;refine cX [8,27] [9,10,11,28,29,30,31,32,33,34,35,36,37,38,39,40,41,42,43,44,45,46,47,48,49,50,51,52,53] (fun n vs wl=>∃ (k c : Nat) (os : List Nat),vs = [.int .u64 (c:Int),.int .i64 (k:Int)] ∧ (cD w wl) ∧ (eU wl g1 (os.map iD) 101) ∧ (k ≤ ys.length) ∧ (os.length = xs.length + ys.length) ∧ (val 4294967296 os + 4294967296 ^ (i + k) * c = val 4294967296 (xs.take i) * val 4294967296 ys + 4294967296 ^ i * (xs[i] * val 4294967296 (ys.take k))) ∧ (os.drop (i + ys.length) = List.replicate (xs.length - i) 0) ∧ (cM 4294967296 os) ∧ (c < 4294967296) ∧ (n = ys.length - k)) ?_ ?_
   ·
    apply Exists.intro;simp only[zQ,zR,zD,zE];exact ⟨0,0,os,rfl,hX,hB1,by omega,hlo,by rw [List.take_zero,hv]; simp only[val,Nat.mul_zero],hz,hd,by omega,rfl⟩
   ·
    intro n vs wr hI u;obtain ⟨k,c,os,rfl,hX,hB1,hk,hlo,hv2,hz,hd,hc,hn2⟩:=hI;simp only[aK,aQ,aM,aP,zF,zG];refine aF (fun K12 hK12=>wp_region_lit (aA (dS rfl rfl) ?_));simp only[ev,zD,zE,zF,zG];refine aC ?_;refine hK12 _ _ ?_;refine aF (fun K13 hK13=>?_);refine cK rfl (fun hc2=>?_) (fun hc2=>?_)
    ·
     refine wp_skip ?_;refine hK13 _ _ ?_;refine aF (fun K14 hK14=>wp_block (aF (fun K15 hK15=>?_)));obtain ⟨b,rfl,hcb,hlb⟩:=(hR.ext hX).get (show k < ys.length by omega);refine wp_region_lit (aA (aB) (aA (aT Tryz.underlying97 bA rfl rfl (by omega) (by omega) (d7 (Int.toNat_natCast _))) ?_));simp only[ev,zD,zE,zF,zG];refine aI rfl (lies1 hcb eD) ?_;simp only[ev,zD,zE,zF,zG];refine aA (aD) (aA (aD) ?_);simp only[ev,zD,zE,zF,zG];refine aC ?_;refine hK15 _ _ ?_;refine aF (fun K16 hK16=>?_);have hco:=hB1.word (show i + k < os.length by omega);have hlo2:=hd.get (List.getElem?_eq_getElem (show i + k < os.length by omega));obtain ⟨hm0,hm1⟩:=No hla hlb;refine wp_region_lit (aA (aB) (aA (aB) (aA (aB) ?_)));simp only[ev,zD,zE,zF,zG];refine aA (aX rfl rfl (aL (by omega) (by omega))) (aA (aT Tryz.underlying97 bA rfl rfl (by omega) (by omega) (eF (show _ = i + k by omega))) ?_);simp only[ev,zD,zE,zF,zG];refine aI rfl (lies1 hco eD) ?_;simp only[ev,zD,zE,zF,zG];refine aA (aB) (aA (aB) (aA (dX rfl rfl (eP (by omega) (by omega))) ?_));simp only[ev,zD,zE,zF,zG];refine aA (aX rfl rfl (eP (by omega) (by omega))) (aA (aB) (aA (aX rfl rfl (eP (by omega) (by omega))) ?_));simp only[ev,zD,zE,zF,zG];refine aA (aD) ?_;simp only[ev,zD,zE,zF,zG];refine aC ?_;obtain ⟨s,hs⟩ : ∃ s : Nat,s = os[i + k] + xs[i] * ys[k] + c:=⟨_,rfl⟩
     have hsI : (↑os[i + k] + ↑xs[i] * ↑ys[k] + ↑c : Int) = (s : Int):=by rw [hs]; simp
     rw [hsI];have hs64 : s < 18446744073709551616:=by omega
     refine hK16 _ _ ?_;refine wp_region_lit (aA (aB) (aA (aB) (aA (aB) ?_)));simp only[ev,zD,zE,zF,zG];refine aA (aX rfl rfl (aL (by omega) (by omega))) (aA (aB) (aA (nC rfl rfl (kQ (by omega) (by omega))) ?_));simp only[ev,zD,zE,zF,zG];refine aA (aB) (aA (i9 rfl rfl (by omega) (yU (by omega))) (aA (aT Tryz.underlying97 bA rfl rfl (by omega) (by omega) (eF (show _ = i + k by omega))) ?_));simp only[ev,zD,zE,zF,zG];refine bZ rfl (by simp only[ev,zD,zE]; rfl) (by exact bA) hB1 (by simp; omega) (by simp [Value.oneCell']) ?_;clear hB1; intro w2 hC hB1;replace hX:=hX.chg hC hG1;clear hC;rw [show ((s:Int) % 4294967296) = ((s % 4294967296 : Nat) : Int) by omega,eZ (by omega)] at hB1;refine aA (aD) ?_;simp only[ev,zD,zE,zF,zG];refine aC ?_;refine hK14 _ _ ?_;refine wp_region_lit (aA (aX rfl rfl (aL (by omega) (by omega))) (aA (aB) ?_));simp only[ev,zD,zE,zF,zG];refine aC ?_;have r1:=Hh (by omega) (by omega) hlo hv2 hs;rw [show ((k:Int) + 1) = ((k + 1 : Nat) : Int) by omega,show ((s:Int) / 4294967296) = ((s / 4294967296 : Nat) : Int) by omega];simp only[Exit.inBlock,Exit.then];refine ⟨ys.length - (k + 1),_,?_,rfl,?_,?_⟩
     · omega
     · simp only[zQ,zR,zD,zE,aK,aQ,aM,aP,zF,zG]
     ·
      simp only[zQ,zR,zD,zE];exact ⟨k + 1,s / 4294967296,os.set (i + k) (s % 4294967296),rfl,hX,hB1,by omega,by simpa using hlo,r1,by rw [mS (by omega)]; exact hz,hd.set (by omega),by omega,rfl⟩
    ·
     refine wp_exit ?_;refine hK10 _ _ ?_;obtain rfl : k = ys.length:=by omega
     refine wp_region_lit (aA (aB) (aA (aB) (aA (aB) ?_)));simp only[ev,zD,zE,zF,zG];refine aA (bM rfl Tryz.underlying97 rfl) (aA (aX rfl rfl (aL (by omega) (by omega))) (aA (aB) ?_));simp only[ev,zD,zE,zF,zG];refine aA (aT Tryz.underlying97 bA rfl rfl (by omega) (by omega) (eF (show _ = i + ys.length by omega))) ?_;simp only[ev,zD,zE,zF,zG];refine bZ rfl (by simp only[ev,zD,zE]; rfl) (by exact bA) hB1 (by simp; omega) (by simp [Value.oneCell']) ?_;clear hB1; intro w2 hC hB1;replace hX:=hX.chg hC hG1;clear hC;rw [eZ (by omega)] at hB1;refine aC ?_;refine hK7 _ _ ?_;refine wp_region_lit (aA (aX rfl rfl (aL (by omega) (by omega))) (aA (aB) ?_));simp only[ev,zD,zE,zF,zG];refine aC ?_;obtain ⟨r1,r2⟩:=Nn (by omega) hlo hv2 hz;rw [show ((i:Int) + 1) = ((i + 1 : Nat) : Int) by omega];simp only[Exit.inBlock,Exit.then];refine ⟨xs.length - (i + 1),_,?_,rfl,?_,?_⟩
     · omega
     · simp only[zQ,zR,zD,zE,aK,aQ,aM,aP,zF,zG]
     ·
      simp only[zQ,zR,zD,zE];exact ⟨i + 1,os.set (i + ys.length) c,rfl,hX,hB1,by omega,by simpa using hlo,r1,r2,hd.set (by omega),rfl⟩
  ·
   refine wp_exit ?_;refine hK3 _ _ ?_;refine aF (fun K17 hK17=>?_);obtain rfl : i = xs.length:=by omega
   refine wp_region_lit (aA (aB) ?_);simp only[ev,zD,zE,zF,zG];refine bO rfl rfl (m8 _ (hB1.nat hd (by omega) (by omega))) ?_;rintro v w2 hE rfl;replace hB1:=hB1.ext hE; replace hX:=hX.trans hE;clear hE;simp only[ev,zD,zE,zF,zG];refine aA (aD) ?_;simp only[ev,zD,zE,zF,zG];refine aC ?_;refine hK17 _ _ ?_;refine wp_ret ?_;try simp only[Exit.inBlock,Exit.then]
   refine bT rfl rfl ?_;try simp only[zD,zE]
   exact ⟨_,rfl,hX,fH.of_trim (hB1.nat hd (n:=xs.length + ys.length) (by omega) (by omega)) (by rw [hv,List.take_length])⟩
end Go.Proofs.YtimjandkmfcmiaaGreatDoor
namespace Go.Proofs.YtimjandkmfcmiaaGreatDoor
open Go.RowKit Go.Lith
set_option maxRecDepth 100000
attribute [local irreducible] wpList wpQuiet dV Code.wp
theorem N0 {A : Option Addr} {xs : List Nat} {na ca d : Nat} (w : World) (hS : cG w A na ca xs) (hlx : xs.length ≤ 1099511627776) (h0 : 0 < d) (h32 : d ≤ 4294967296) : gD Tryz.prog 169 [.slice A na ca,.int .u64 (d : Int)] w (fun v w'=>∃ q,v = .tuple #[q,.int .u64 ((val 4294967296 xs % d : Nat) : Int)] ∧ fH (val 4294967296 xs / d) q w'):=by
 skip
 refine ⟨Rm,?_⟩;have hX:=cD.refl w;obtain rfl:=hS.eq
 go_enter Tryz.func169,Tryz.ntmps169
 refine aF (fun K1 hK1=>wp_region_lit (aA (aD) (aA (aD) ?_)));simp only[ev,zD,zE,zF,zG];refine aC ?_;refine hK1 _ _ ?_;refine aF (fun K2 hK2=>wp_region_lit (aA (aB) (aA (bM rfl Tryz.underlying97 rfl) ?_)));simp only[ev,zD,zE,zF,zG];refine iR Tryz.underlying97 kH rfl rfl rfl (Int.toNat_natCast _) (Int.toNat_natCast _) (by omega) (by omega) (by omega) (by omega) ?_;intro w1 g1 hE hg1 hB1;have hG1:=Nat.le_trans hX.size hg1;replace hX:=hX.trans hE;clear hE hg1;simp only[ev,zD,zE,zF,zG];refine aA (aD) ?_;simp only[ev,zD,zE,zF,zG];refine aC ?_;rw [fT] at hB1;refine hK2 _ _ ?_;refine aF (fun K3 hK3=>wp_region_lit (aA (aD) ?_));simp only[ev,zD,zE,zF,zG];refine aC ?_;refine hK3 _ _ ?_;refine aF (fun K4 hK4=>aF (fun K5 hK5=>wp_region_lit (aA (aB) (aA (bM rfl Tryz.underlying97 rfl) (aA (eA rfl rfl (aL (by omega) (by omega))) ?_)))));simp only[ev,zD,zE,zF,zG];refine aA (aD) ?_;simp only[ev,zD,zE,zF,zG];refine aC ?_;refine hK5 _ _ ?_;refine wp_block ?_;refine cX [7,8] [15,16,17,18,19,20,21,22,23,24,25,26,27,28,29,30,31,32,33,34] (fun n vs wl=>∃ (k r : Nat) (os : List Nat),vs = [.int .u64 (r:Int),.int .i64 ((k:Int) - 1)] ∧ (cD w wl) ∧ (eU wl g1 (os.map iD) 101) ∧ (k ≤ xs.length) ∧ (os.length = xs.length) ∧ (val 4294967296 (xs.drop k) = d * val 4294967296 (os.drop k) + r) ∧ (r < d) ∧ (cM 4294967296 os) ∧ (n = k)) ?_ ?_
 ·
  apply Exists.intro;simp only[zQ,zR,zD,zE];exact ⟨xs.length,0,List.replicate xs.length 0,rfl,hX,hB1,by omega,by simp,by rw [List.drop_length,List.drop_of_length_le (by simp)]; simp only[val,Nat.mul_zero],h0,fun x hx=>by rw [List.eq_of_mem_replicate hx]; decide,rfl⟩
 ·
  intro n vs wr hI u;obtain ⟨k,r,os,rfl,hX,hB1,hk,hlo,hv,hr,hd,hn⟩:=hI;simp only[aK,aQ,aM,aP,zF,zG];refine aF (fun K6 hK6=>aF (fun K7 hK7=>wp_region_lit (aA (aB) (aA (kK rfl rfl) ?_))));simp only[ev,zD,zE,zF,zG];refine aC ?_;refine hK7 _ _ ?_;refine cK rfl (fun hc1=>?_) (fun hc1=>?_)
  ·
   refine wp_skip ?_;refine hK6 _ _ ?_;refine aF (fun K8 hK8=>wp_block (aF (fun K9 hK9=>?_)));obtain ⟨a,rfl,hca,hla⟩:=(hS.ext hX).get (show k - 1 < xs.length by omega);have hr32 : r < 4294967296:=by omega
   refine wp_region_lit (aA (aB) (aA (vO rfl rfl (by omega) (oG (n:=32) (by omega) (by omega))) (aA (aB) ?_)));simp only[ev,zD,zE,zF,zG];refine aA (aB) (aA (aT Tryz.underlying97 bA rfl rfl (by omega) (by omega) (d7 (show _ = k - 1 by omega))) ?_);simp only[ev,zD,zE,zF,zG];refine aI rfl (lies1 hca eD) ?_;simp only[ev,zD,zE,zF,zG];refine aA (El rfl rfl (vA (s:=32) (c:=r) (by omega) (by omega) (by omega))) (aA (aD) ?_);simp only[ev,zD,zE,zF,zG];refine aC ?_;refine hK9 _ _ ?_;obtain ⟨t,ht⟩ : ∃ t : Nat,t = xs[k - 1] + r * 4294967296:=⟨_,rfl⟩
   rw [← ht];have ht64 : t < 18446744073709551616:=by omega
   have hd64 : (d : Int) ≠ 0:=by omega
   refine xL [(0,true),(1,true),(2,true),(3,true),(4,true),(5,true),(6,true),(7,true),(8,true),(9,false),(10,true)] aU (by kernel_rfl) (dN (fun _ _ _ _ _ h=>h)) (ol:=?_) ?hol ?_
   case hol=>simp only[zQ,zR,zS,zT,zU,zV]; try rfl
   intro w2 hE;replace hB1:=hB1.ext hE; replace hX:=hX.trans hE;clear hE;refine qC (aB) (qC (aB) (qC (aB) ?_));simp only[ev,zD,zE,zF,zG];refine qC (aB) (qC (gS rfl rfl (by omega) (vC ht64)) (qC (aB) ?_));simp only[ev,zD,zE,zF,zG];refine qC (aB) (qC (dF rfl rfl (by omega) mT) (qC (aT Tryz.underlying97 bA rfl rfl (by omega) (by omega) (eF (show _ = k - 1 by omega))) ?_));simp only[ev,zD,zE,zF,zG];refine Qx ?_;refine bZ rfl (by simp only[ev,zD,zE]; rfl) (by exact bA) hB1 (by simp; omega) (by simp [Value.oneCell']) ?_;clear hB1; intro w3 hC hB1;replace hX:=hX.chg hC hG1;clear hC;rw [eZ (by omega)] at hB1;refine aC (qC (aD) ?_);simp only[ev,zD,zE,zF,zG];refine Tr ?_;refine hK8 _ _ ?_;refine wp_region_lit (aA (aB) (aA (eA rfl rfl (aL (by omega) (by omega))) (aA (aD) ?_)));simp only[ev,zD,zE,zF,zG];refine aC ?_;obtain ⟨r1,r2,r3⟩:=Db (by omega) hk hlo hv hr hd hla;rw [← ht] at r1 r2 r3;rw [show ((k:Int) - 1 - 1) = ((k - 1 : Nat) : Int) - 1 by omega];simp only[Exit.inBlock,Exit.then];refine ⟨k - 1,_,?_,rfl,?_,?_⟩
   · omega
   · simp only[zQ,zR,zD,zE,aK,aQ,aM,aP,zF,zG]
   ·
    simp only[zQ,zR,zD,zE];exact ⟨k - 1,t % d,os.set (k - 1) (t / d),rfl,hX,hB1,by omega,by simpa using hlo,r1,r3,r2,rfl⟩
  ·
   refine wp_exit ?_;refine hK4 _ _ ?_;refine aF (fun K10 hK10=>?_);obtain rfl : k = 0:=by omega
   refine wp_region_lit (aA (aB) ?_);simp only[ev,zD,zE,zF,zG];refine bO rfl rfl (m8 _ (hB1.nat hd (by omega) (by omega))) ?_;rintro v w2 hE rfl;replace hB1:=hB1.ext hE; replace hX:=hX.trans hE;clear hE;simp only[ev,zD,zE,zF,zG];refine aA (aB) (aA (aD) (aA (aD) ?_));simp only[ev,zD,zE,zF,zG];refine aC ?_;refine hK10 _ _ ?_;refine wp_ret ?_;try simp only[Exit.inBlock,Exit.then]
   refine mZ rfl rfl rfl ?_;try simp only[zD,zE]
   (have hq : val 4294967296 os = val 4294967296 xs / d ∧ r = val 4294967296 xs % d:=v6 h0 hr (by simpa using hv)); exact ⟨_,rfl,hX,_,by rw [hq.2],fH.of_trim (hB1.nat hd (n:=xs.length) (by omega) (by omega)) hq.1⟩
theorem Gd {A : Option Addr} {xs : List Nat} {na ca sh : Nat} (w : World) (hS : cG w A na ca xs) (hlx : xs.length ≤ 1099511627776) (hn : sh ≤ 31) : gD Tryz.prog 170 [.slice A na ca,.int .i64 (sh : Int)] w (fun v w'=>∃ g os,v = .slice (some ⟨g,0,none⟩) (xs.length + 1) (xs.length + 1) ∧ w.heap.size ≤ g ∧ eU w' g (os.map iD) 101 ∧ os.length = xs.length + 1 ∧ cM 4294967296 os ∧ val 4294967296 os = 2 ^ sh * val 4294967296 xs):=by
 skip
 refine ⟨Rn,?_⟩;have hX:=cD.refl w;obtain rfl:=hS.eq
 go_enter Tryz.func170,Tryz.ntmps170
 refine aF (fun K1 hK1=>wp_region_lit (aA (aD) ?_));simp only[ev,zD,zE,zF,zG];refine aC ?_;refine hK1 _ _ ?_;refine aF (fun K2 hK2=>wp_region_lit (aA (aB) (aA (bM rfl Tryz.underlying97 rfl) (aA (aX rfl rfl (aL (by omega) (by omega))) ?_))));simp only[ev,zD,zE,zF,zG];refine iR Tryz.underlying97 kH rfl rfl rfl (show _ = xs.length + 1 by omega) (show _ = xs.length + 1 by omega) (by omega) (by omega) (by omega) (by omega) ?_;intro w1 g1 hE hg1 hB1;have hG1:=Nat.le_trans hX.size hg1;replace hX:=hX.trans hE;clear hE hg1;simp only[ev,zD,zE,zF,zG];refine aA (aD) ?_;simp only[ev,zD,zE,zF,zG];refine aC ?_;rw [fT] at hB1;refine hK2 _ _ ?_;refine aF (fun K3 hK3=>aF (fun K4 hK4=>wp_region_lit (aA (aB) (aA (bM rfl Tryz.underlying97 rfl) (aA (aB) ?_)))));simp only[ev,zD,zE,zF,zG];refine aC ?_;refine hK4 _ _ ?_;refine wp_block ?_;refine cX [14] [6,7,15,16,17,18,19,20,21,22,23,24,25,26,27,28,29,30,31,32,33,34,35,36] (fun n vs wl=>∃ (i : Nat) (os : List Nat),vs = [.int .i64 (i:Int)] ∧ (cD w wl) ∧ (eU wl g1 (os.map iD) 101) ∧ (i ≤ xs.length) ∧ (os.length = xs.length + 1) ∧ (val 4294967296 os = 2 ^ sh * val 4294967296 (xs.take i)) ∧ (os.drop (i + 1) = List.replicate (xs.length - i) 0) ∧ (cM 4294967296 os) ∧ (∀ h : i < os.length,os[i] < 2 ^ sh) ∧ (n = xs.length - i)) ?_ ?_
 ·
  apply Exists.intro;simp only[zQ,zR,zD,zE];exact ⟨0,List.replicate (xs.length + 1) 0,rfl,hX,hB1,by omega,by simp,by rw [fB,List.take_zero]; rfl,by rw [List.drop_replicate]; congr 1,fun x hx=>by rw [List.eq_of_mem_replicate hx]; decide,fun h=>by rw [List.getElem_replicate]; exact Nat.pow_pos (by decide),rfl⟩
 ·
  intro n vs wr hI u;obtain ⟨i,os,rfl,hX,hB1,hi,hlo,hv,hz,hd,hc,hn⟩:=hI;simp only[aK,aQ,aM,aP,zF,zG];refine aF (fun K5 hK5=>wp_region_lit (aA (dS rfl rfl) ?_));simp only[ev,zD,zE,zF,zG];refine aC ?_;refine hK5 _ _ ?_;refine aF (fun K6 hK6=>?_);refine cK rfl (fun hc1=>?_) (fun hc1=>?_)
  ·
   refine wp_skip ?_;refine hK6 _ _ ?_;refine aF (fun K7 hK7=>wp_block (aF (fun K8 hK8=>?_)));obtain ⟨a,rfl,hca,hla⟩:=(hS.ext hX).get (show i < xs.length by omega);refine wp_region_lit (aA (aB) (aA (aT Tryz.underlying97 bA rfl rfl (by omega) (by omega) (d7 (Int.toNat_natCast _))) ?_));simp only[ev,zD,zE,zF,zG];refine aI rfl (lies1 hca eD) ?_;simp only[ev,zD,zE,zF,zG];refine aA (aD) (aA (aD) ?_);simp only[ev,zD,zE,zF,zG];refine aC ?_;refine hK8 _ _ ?_;refine aF (fun K9 hK9=>?_);have hm64:=Ex (n:=sh) (by omega) hla;have hf:=vE (x:=xs[i]) (n:=sh) (by omega) (hc (by omega));refine wp_region_lit (aA (aB) (aA (aB) (aA (vO rfl rfl (by omega) (oG (n:=sh) (by omega) hm64)) ?_)));simp only[ev,zD,zE,zF,zG];refine aA (aD) ?_;simp only[ev,zD,zE,zF,zG];refine aC ?_;refine hK9 _ _ ?_;refine aF (fun K10 hK10=>?_);have hco:=hB1.word (show i < os.length by omega);have hmm : xs[i] * 2 ^ sh % 4294967296 < 4294967296:=Nat.mod_lt _ (by decide);refine wp_region_lit (aA (aB) (aA (aB) (aA (aT Tryz.underlying97 bA rfl rfl (by omega) (by omega) (eF (Int.toNat_natCast _))) ?_)));simp only[ev,zD,zE,zF,zG];refine aI rfl (lies1 hco eD) ?_;simp only[ev,zD,zE,zF,zG];refine aA (aB) (aA (nC rfl rfl (vB hm64)) (aA (El rfl rfl (Bo (s:=sh) (hc (by omega)) (vD (by omega)) (by omega))) ?_));simp only[ev,zD,zE,zF,zG];refine aA (aT Tryz.underlying97 bA rfl rfl (by omega) (by omega) (eF (Int.toNat_natCast _))) ?_;simp only[ev,zD,zE,zF,zG];refine bZ rfl (by simp only[ev,zD,zE]; rfl) (by exact bA) hB1 (by simp; omega) (by simp [Value.oneCell']) ?_;clear hB1; intro w2 hC hB1;replace hX:=hX.chg hC hG1;clear hC;rw [eZ (by omega)] at hB1;refine aC ?_;refine hK10 _ _ ?_;refine wp_region_lit (aA (aB) (aA (aB) (aA (aX rfl rfl (aL (by omega) (by omega))) ?_)));simp only[ev,zD,zE,zF,zG];refine aA (aB) (aA (i9 rfl rfl (by omega) Bp) (aA (aT Tryz.underlying97 bA rfl rfl (by omega) (by omega) (eF (show _ = i + 1 by omega))) ?_));simp only[ev,zD,zE,zF,zG];refine bZ rfl (by simp only[ev,zD,zE]; rfl) (by exact bA) hB1 (by simp; omega) (by simp [Value.oneCell']) ?_;clear hB1; intro w3 hC hB1;replace hX:=hX.chg hC hG1;clear hC;rw [eZ (by simp; omega)] at hB1;refine aC ?_;refine hK7 _ _ ?_;refine wp_region_lit (aA (aX rfl rfl (aL (by omega) (by omega))) (aA (aB) ?_));simp only[ev,zD,zE,zF,zG];refine aC ?_;obtain ⟨r1,r2,r3,r4⟩:=Dc (by omega) (by omega) hlo hv hz hd (by omega) (hc (by omega)) hla;rw [show ((i:Int) + 1) = ((i + 1 : Nat) : Int) by omega];simp only[Exit.inBlock,Exit.then];refine ⟨xs.length - (i + 1),_,?_,rfl,?_,?_⟩
   · omega
   · simp only[zQ,zR,zD,zE,aK,aQ,aM,aP,zF,zG]
   ·
    simp only[zQ,zR,zD,zE];exact ⟨i + 1,(os.set i (os[i] + xs[i] * 2 ^ sh % 4294967296)).set (i + 1) (xs[i] * 2 ^ sh / 4294967296),rfl,hX,hB1,by omega,by simpa using hlo,r1,r2,r3,r4,rfl⟩
  ·
   refine wp_exit ?_;refine hK3 _ _ ?_;refine aF (fun K11 hK11=>?_);obtain rfl : i = xs.length:=by omega
   refine wp_region_lit (aA (aB) (aA (aD) ?_));simp only[ev,zD,zE,zF,zG];refine aC ?_;refine hK11 _ _ ?_;refine wp_ret ?_;try simp only[Exit.inBlock,Exit.then]
   refine bT rfl rfl ?_;try simp only[zD,zE]
   exact ⟨_,rfl,hX,_,os,rfl,hG1,hB1,hlo,hd,by rw [hv,List.take_length]⟩
theorem Hu {A : Option Addr} {xs : List Nat} {na ca sh : Nat} (w : World) (hS : cG w A na ca xs) (hlx : xs.length ≤ 1099511627776) (hn : sh ≤ 31) : gD Tryz.prog 173 [.slice A na ca,.int .i64 (sh : Int)] w (fH (val 4294967296 xs / 2 ^ sh)):=by
 skip
 refine ⟨Rq,?_⟩;have hX:=cD.refl w;obtain rfl:=hS.eq
 go_enter Tryz.func173,Tryz.ntmps173
 refine aF (fun K1 hK1=>wp_region_lit (aA (aD) ?_));simp only[ev,zD,zE,zF,zG];refine aC ?_;refine hK1 _ _ ?_;refine aF (fun K2 hK2=>wp_region_lit (aA (aB) (aA (bM rfl Tryz.underlying97 rfl) ?_)));simp only[ev,zD,zE,zF,zG];refine iR Tryz.underlying97 kH rfl rfl rfl (Int.toNat_natCast _) (Int.toNat_natCast _) (by omega) (by omega) (by omega) (by omega) ?_;intro w1 g1 hE hg1 hB1;have hG1:=Nat.le_trans hX.size hg1;replace hX:=hX.trans hE;clear hE hg1;simp only[ev,zD,zE,zF,zG];refine aA (aD) ?_;simp only[ev,zD,zE,zF,zG];refine aC ?_;rw [fT] at hB1;refine hK2 _ _ ?_;refine aF (fun K3 hK3=>aF (fun K4 hK4=>wp_region_lit (aA (aB) (aA (bM rfl Tryz.underlying97 rfl) (aA (aB) ?_)))));simp only[ev,zD,zE,zF,zG];refine aC ?_;refine hK4 _ _ ?_;refine wp_block ?_;refine cX [13] [6,7,14,15,16,17,18,19,20,21,22,23,24,25,26,27,28,29,30,31,32,33,34,35,36,37,38,39,40,41] (fun n vs wl=>∃ (i : Nat) (os : List Nat),vs = [.int .i64 (i:Int)] ∧ (cD w wl) ∧ (eU wl g1 (os.map iD) 101) ∧ (i ≤ xs.length) ∧ (os.length = xs.length) ∧ (val 4294967296 os = val 4294967296 (xs.take i) / 2 ^ sh) ∧ (os.drop i = List.replicate (xs.length - i) 0) ∧ (cM 4294967296 os) ∧ (0 < i → ∀ h : i - 1 < os.length,os[i - 1] < 2 ^ (32 - sh)) ∧ (n = xs.length - i)) ?_ ?_
 ·
  apply Exists.intro;simp only[zQ,zR,zD,zE];exact ⟨0,List.replicate xs.length 0,rfl,hX,hB1,by omega,by simp,by rw [fB,List.take_zero,show val 4294967296 [] = 0 from rfl,Nat.zero_div],rfl,fun x hx=>by rw [List.eq_of_mem_replicate hx]; decide,fun h=>absurd h (by omega),rfl⟩
 ·
  intro n vs wr hI u;obtain ⟨i,os,rfl,hX,hB1,hi,hlo,hv,hz,hd,hc,hn⟩:=hI;simp only[aK,aQ,aM,aP,zF,zG];refine aF (fun K5 hK5=>wp_region_lit (aA (dS rfl rfl) ?_));simp only[ev,zD,zE,zF,zG];refine aC ?_;refine hK5 _ _ ?_;refine aF (fun K6 hK6=>?_);refine cK rfl (fun hc1=>?_) (fun hc1=>?_)
  ·
   refine wp_skip ?_;refine hK6 _ _ ?_;refine aF (fun K7 hK7=>wp_block (aF (fun K8 hK8=>?_)));obtain ⟨a,rfl,hca,hla⟩:=(hS.ext hX).get (show i < xs.length by omega);refine wp_region_lit (aA (aB) (aA (aT Tryz.underlying97 bA rfl rfl (by omega) (by omega) (d7 (Int.toNat_natCast _))) ?_));simp only[ev,zD,zE,zF,zG];refine aI rfl (lies1 hca eD) ?_;simp only[ev,zD,zE,zF,zG];refine aA (aD) (aA (aD) ?_);simp only[ev,zD,zE,zF,zG];refine aC ?_;refine hK8 _ _ ?_;refine aF (fun K9 hK9=>?_);have hco:=hB1.word (show i < os.length by omega);obtain ⟨z1,z2⟩:=gF hz (by omega);have hq : xs[i] / 2 ^ sh < 4294967296:=Nat.lt_of_le_of_lt (Nat.div_le_self _ _) hla;refine gZ 9 aU (by kernel_rfl) ?_;simp only[zH,zI,zJ,zK];refine aR (aB) (aR (aB) (aR (aT Tryz.underlying97 bA rfl rfl (by omega) (by omega) (eF (Int.toNat_natCast _))) ?_));simp only[ev,zD,zE,zF,zG];refine iM rfl (fun _ hE'=>(lies1 (hE'.cell hco) eD)) ?_;simp only[ev,zD,zE,zF,zG];refine aR (aB) (aR (aB) (aR (i9 rfl rfl (by omega) (Np (n:=sh) (by omega))) ?_));simp only[ev,zD,zE,zF,zG];refine aR (El rfl rfl (Bo (s:=0) (c:=xs[i] / 2 ^ sh) (by omega) (by omega) (by omega))) (aR (aT Tryz.underlying97 bA rfl rfl (by omega) (by omega) (eF (Int.toNat_natCast _))) ?_);simp only[ev,zD,zE,zF,zG];refine dW ?_;intro w2 hE;replace hB1:=hB1.ext hE; replace hX:=hX.trans hE;clear hE;refine bZ rfl (by simp only[ev,zD,zE]; rfl) (by exact bA) hB1 (by simp; omega) (by simp [Value.oneCell']) ?_;clear hB1; intro w3 hC hB1;replace hX:=hX.chg hC hG1;clear hC;rw [eZ (by omega),z1,Nat.zero_add] at hB1;refine aC ?_;refine hK9 _ _ ?_;refine aF (fun K10 hK10=>wp_region_lit (aA (aB) (aA (gJ rfl rfl) ?_)));simp only[ev,zD,zE,zF,zG];refine aC ?_;refine hK10 _ _ ?_;refine cK rfl (fun hc2=>?_) (fun hc2=>?_)
   ·
    obtain ⟨j,rfl⟩ : ∃ j,i = j + 1:=⟨i - 1,by omega⟩
    have hm64:=Ex (x:=xs[j + 1]) (n:=32 - sh) (by omega) hla;have hcj:=hc (by omega) (by omega);simp only[Nat.add_sub_cancel] at hcj;have hf:=vE (x:=xs[j + 1]) (n:=32 - sh) (by omega) hcj;have hmm : xs[j + 1] * 2 ^ (32 - sh) % 4294967296 < 4294967296:=Nat.mod_lt _ (by decide);have hco2:=hB1.word (show j < (os.set (j + 1) (xs[j + 1] / 2 ^ sh)).length by simp; omega);rw [List.getElem_set_ne (by omega)] at hco2;refine gZ 12 aU (by kernel_rfl) ?_;simp only[zH,zI,zJ,zK];refine aR (aB) (aR (aB) (aR (eA rfl rfl (aL (by omega) (by omega))) ?_));simp only[ev,zD,zE,zF,zG];refine aR (aT Tryz.underlying97 bA rfl rfl (by omega) (by omega) (eF (show _ = j by omega))) ?_;simp only[ev,zD,zE,zF,zG];refine iM rfl (fun _ hE'=>(lies1 (hE'.cell hco2) eD)) ?_;simp only[ev,zD,zE,zF,zG];refine aR (aB) (aR (aB) (aR (eA rfl rfl ((aL (by omega) (by omega)).trans (show (32 : Int) - (sh : Int) = ((32 - sh : Nat) : Int) by omega))) ?_));simp only[ev,zD,zE,zF,zG];refine aR (vO rfl rfl (by omega) (oG (n:=32 - sh) (by omega) hm64)) (aR (nC rfl rfl (vB hm64)) (aR (El rfl rfl (Bo (s:=32 - sh) hcj (vD (by omega)) (by omega))) ?_));simp only[ev,zD,zE,zF,zG];refine aR (aT Tryz.underlying97 bA rfl rfl (by omega) (by omega) (eF (show _ = j by omega))) ?_;simp only[ev,zD,zE,zF,zG];refine dW ?_;intro w4 hE;replace hB1:=hB1.ext hE; replace hX:=hX.trans hE;clear hE;refine bZ rfl (by simp only[ev,zD,zE]; rfl) (by exact bA) hB1 (by simp; omega) (by simp [Value.oneCell']) ?_;clear hB1; intro w5 hC hB1;replace hX:=hX.chg hC hG1;clear hC;rw [eZ (by simp; omega)] at hB1;refine aC ?_;refine hK7 _ _ ?_;refine wp_region_lit (aA (aX rfl rfl (aL (by omega) (by omega))) (aA (aB) ?_));simp only[ev,zD,zE,zF,zG];refine aC ?_;obtain ⟨r1,r2,r3⟩:=xQ (n:=sh) (by omega) (by omega) hlo hv hz hd hS.digs (by omega) hcj;rw [show (((j + 1 : Nat) : Int) + 1) = ((j + 1 + 1 : Nat) : Int) by omega];simp only[Exit.inBlock,Exit.then];refine ⟨xs.length - (j + 1 + 1),_,?_,rfl,?_,?_⟩
    · omega
    · simp only[zQ,zR,zD,zE,aK,aQ,aM,aP,zF,zG]
    ·
     simp only[zQ,zR,zD,zE];exact ⟨j + 1 + 1,(os.set (j + 1) (xs[j + 1] / 2 ^ sh)).set j (os[j] + xs[j + 1] * 2 ^ (32 - sh) % 4294967296),rfl,hX,hB1,by omega,by simpa using hlo,r1,r2,r3,fun _ h=>by simp only[Nat.add_sub_cancel]; rw [List.getElem_set_ne (by omega),List.getElem_set_self]; exact J3 (by omega) hla,rfl⟩
   ·
    refine wp_skip ?_;refine hK7 _ _ ?_;refine wp_region_lit (aA (aX rfl rfl (aL (by omega) (by omega))) (aA (aB) ?_));simp only[ev,zD,zE,zF,zG];refine aC ?_;obtain rfl : i = 0:=by omega
    obtain ⟨r1,r2,r3⟩:=xO (n:=sh) (by omega) (by omega) hlo hv hz hd hla;rw [show (((0 : Nat) : Int) + 1) = ((0 + 1 : Nat) : Int) by omega];simp only[Exit.inBlock,Exit.then];refine ⟨xs.length - (0 + 1),_,?_,rfl,?_,?_⟩
    · omega
    · simp only[zQ,zR,zD,zE,aK,aQ,aM,aP,zF,zG]
    ·
     simp only[zQ,zR,zD,zE];exact ⟨0 + 1,os.set 0 (xs[0] / 2 ^ sh),rfl,hX,hB1,by omega,by simpa using hlo,r1,r2,r3,fun _ h=>by simp only[Nat.add_sub_cancel]; rw [List.getElem_set_self]; exact J3 (by omega) hla,rfl⟩
  ·
   refine wp_exit ?_;refine hK3 _ _ ?_;refine aF (fun K11 hK11=>?_);obtain rfl : i = xs.length:=by omega
   refine wp_region_lit (aA (aB) ?_);simp only[ev,zD,zE,zF,zG];refine bO rfl rfl (m8 _ (hB1.nat hd (by omega) (by omega))) ?_;rintro v w2 hE rfl;replace hB1:=hB1.ext hE; replace hX:=hX.trans hE;clear hE;simp only[ev,zD,zE,zF,zG];refine aA (aD) ?_;simp only[ev,zD,zE,zF,zG];refine aC ?_;refine hK11 _ _ ?_;refine wp_ret ?_;try simp only[Exit.inBlock,Exit.then]
   refine bT rfl rfl ?_;try simp only[zD,zE]
   exact ⟨_,rfl,hX,fH.of_trim (hB1.nat hd (n:=xs.length) (by omega) (by omega)) (by rw [hv,List.take_length])⟩
theorem Ge {A : Option Addr} {xs : List Nat} {na ca : Nat} (w : World) (hS : cG w A na ca xs) : gD Tryz.prog 183 [.slice A na ca] w (Nr xs):=by
 skip
 refine ⟨Rr,?_⟩;have hX:=cD.refl w;obtain rfl:=hS.eq;have hl:=hS.len
 go_enter Tryz.func183,Tryz.ntmps183
 refine aF (fun K1 hK1=>wp_region_lit (aA (aD) ?_));simp only[ev,zD,zE,zF,zG];refine aC ?_;refine hK1 _ _ ?_;refine aF (fun K2 hK2=>aF (fun K3 hK3=>?_));rcases A with _ | a
 ·
  obtain rfl:=hS.none;refine wp_region_lit (aA (aB) (aA (C3 Tryz.underlying97 rfl rfl) ?_));simp only[ev,zD,zE,zF,zG];refine aC ?_;refine hK3 _ _ ?_;refine bS rfl (aF (fun K4 hK4=>wp_region_lit (aA (aD) ?_)));simp only[ev,zD,zE,zF,zG];refine aC ?_;refine hK4 _ _ ?_;refine wp_ret ?_;try simp only[Exit.inBlock,Exit.then]
  refine bT rfl rfl ?_;try simp only[zD,zE]
  exact ⟨_,rfl,hX,none,0,rfl,cG.nil _⟩
 ·
  refine wp_region_lit (aA (aB) (aA (C3 Tryz.underlying97 rfl rfl) ?_));simp only[ev,zD,zE,zF,zG];refine aC ?_;refine hK3 _ _ ?_;refine eM rfl (wp_skip ?_);refine hK2 _ _ ?_;refine aF (fun K5 hK5=>wp_region_lit ?_);refine Ja Tryz.underlying97 (c:=1) (by kernel_rfl)  ?_;intro w1 g1 hE hg1 hB1;have hG1:=Nat.le_trans hX.size hg1;replace hX:=hX.trans hE;clear hE hg1;simp only[ev,zD,zE,zF,zG];refine aA (aB) ?_;simp only[ev,zD,zE,zF,zG];refine kO rfl Tryz.underlying97 kH rfl (by decide) rfl (iS.build0 (base:=g1) hB1 (Nat.le_refl _)) rfl (news:=xs.map iD) (by simp) (hS.ext hX).words (fun u hu=>by obtain ⟨x,_,rfl⟩:=List.mem_map.1 hu; rfl) (by omega) (by omega) (Nat.le_of_lt hB1.lt) ?_;intro v1 w9 hO hGr _;replace hX:=hX.grown hGr hG1;clear hB1 hGr;simp only[List.nil_append,Nat.zero_add] at hO;obtain ⟨A1,c1,rfl,hN⟩:=cG.of_owns hO rfl hS.digs (by omega);simp only[ev,zD,zE,zF,zG];refine aA (aD) ?_;simp only[ev,zD,zE,zF,zG];refine aC ?_;refine hK5 _ _ ?_;refine wp_ret ?_;try simp only[Exit.inBlock,Exit.then]
  refine bT rfl rfl ?_;try simp only[zD,zE]
  exact ⟨_,rfl,hX,A1,c1,rfl,hN⟩
end Go.Proofs.YtimjandkmfcmiaaGreatDoor
namespace Go.Proofs.YtimjandkmfcmiaaGreatDoor
open Go.RowKit Go.Lith
set_option maxRecDepth 100000
attribute [local irreducible] wpList wpQuiet dV Code.wp
theorem tN {A : Option Addr} {xs : List Nat} {na cap : Nat} (w : World) (hS : cG w A na cap xs) : gD Tryz.prog 96 [.slice A na cap] w (fH (val 4294967296 xs)) :=
 (m8 w hS).mono fun v w' hE h=>by subst h; exact fH.of_trim (hS.ext hE) rfl
theorem Kp {A B : Option Addr} {xs ys : List Nat} {na nb ca cb d : Nat} (w : World) (hS : cG w A na ca xs) (hR : cG w B nb cb ys) (hl : ys.length + 1 ≤ xs.length) (hly : ys.length ≤ 1099511627776) (hdd : d < 4294967296) : gD Tryz.prog 171 [.slice A na ca,.slice B nb cb,.int .u64 (d : Int)] w (fun v _=>v = .bool (decide (val 4294967296 (xs.take (ys.length + 1)) < val 4294967296 ys * d))):=by
 skip
 refine ⟨Ro,?_⟩;have hX:=cD.refl w;obtain rfl:=hS.eq;obtain rfl:=hR.eq;have hle:=hS.le;have hcap:=hS.cap
 go_enter Tryz.func171,Tryz.ntmps171
 refine aF (fun K1 hK1=>wp_region_lit (aA (aD) ?_));simp only[ev,zD,zE,zF,zG];refine aC ?_;refine hK1 _ _ ?_;refine aF (fun K2 hK2=>wp_region_lit (aA (aB) (aA (aB) (aA (bM rfl Tryz.underlying97 rfl) ?_))));simp only[ev,zD,zE,zF,zG];refine aA (aX rfl rfl (aL (by omega) (by omega))) (aA (lS Tryz.underlying97 bA rfl rfl (show _ = ys.length + 1 by omega) (by omega) (by omega)) ?_);simp only[ev,zD,zE,zF,zG];refine bO rfl rfl (Ge _ ((hS.ext hX).head hl)) ?_;rintro v w1 hE ⟨A1,c1,rfl,hN1⟩;replace hX:=hX.trans hE;clear hE;simp only[ev,zD,zE,zF,zG];refine bO rfl rfl (tN _ hN1) ?_;rintro v w2 hE ⟨A2,c2,rfl,hN2⟩
 (try replace hN1:=hN1.ext hE); replace hX:=hX.trans hE
 clear hE;simp only[ev,zD,zE,zF,zG];refine aA (aB) (aA (aB) ?_);simp only[ev,zD,zE,zF,zG];refine b7 Tryz.underlying97 (z:=.int .u64 0) (by kernel_rfl) rfl (by simp only[ev,zD,zE,zF,zG]; rfl) (by rfl) ?_;intro w3 g1 hE hg1 hB1;have hG1:=Nat.le_trans hX.size hg1
 (try replace hN1:=hN1.ext hE); (try replace hN2:=hN2.ext hE); replace hX:=hX.trans hE
 clear hE hg1;simp only[ev,zD,zE,zF,zG];refine bO rfl rfl (tN _ (hB1.nat (os:=[d]) (nK hdd) rfl (by omega))) ?_;rintro v w4 hE ⟨A3,c3,rfl,hN3⟩;replace hB1:=hB1.ext hE; (try replace hN1:=hN1.ext hE); (try replace hN2:=hN2.ext hE); replace hX:=hX.trans hE;clear hE;simp only[ev,zD,zE,zF,zG];refine bO rfl rfl (Ko _ (hR.ext hX) hN3 hly (Nat.le_trans (kY (nK hdd)) (by simp))) ?_;rintro v w5 hE ⟨A4,c4,rfl,hN4⟩;replace hB1:=hB1.ext hE; (try replace hN1:=hN1.ext hE); (try replace hN2:=hN2.ext hE); (try replace hN3:=hN3.ext hE); replace hX:=hX.trans hE;clear hE;simp only[ev,zD,zE,zF,zG];refine bO rfl rfl (Km _ hN2 hN4 (fX _) (fX _)) ?_;rintro v w6 hE rfl;replace hB1:=hB1.ext hE; (try replace hN1:=hN1.ext hE); (try replace hN2:=hN2.ext hE); (try replace hN3:=hN3.ext hE); (try replace hN4:=hN4.ext hE); replace hX:=hX.trans hE;clear hE;simp only[ev,zD,zE,zF,zG];refine aA (dS rfl rfl) (aA (aD) ?_);simp only[ev,zD,zE,zF,zG];refine aC ?_;refine hK2 _ _ ?_;refine wp_ret ?_;try simp only[Exit.inBlock,Exit.then]
 refine bT rfl rfl ?_;try simp only[zD,zE]
 exact ⟨_,rfl,hX,by rw [J4]; simp only[cF,jX]⟩
theorem B2 {B : Option Addr} {os ys : List Nat} {g0 off na nb cb d : Nat} (w : World) (hB0 : eU w g0 (os.map iD) 101) (hd : cM 4294967296 os) (hlo : os.length ≤ 1099511627776) (hR : cG w B nb cb ys) (hoff : off + (ys.length + 1) ≤ os.length) (hna : na = os.length - off) (hdd : d < 4294967296) (hge : val 4294967296 ys * d ≤ val 4294967296 ((os.drop off).take (ys.length + 1))) : Jc Tryz.prog 172 [.slice (some ⟨g0,off,none⟩) na na,.slice B nb cb,.int .u64 (d : Int)] w g0 (fun _ w'=>eU w' g0 ((laid os off (ys.length + 1) (val 4294967296 ((os.drop off).take (ys.length + 1)) - val 4294967296 ys * d)).map iD) 101):=by
 skip
 refine ⟨Rp,?_⟩;have hX:=cD.refl w;obtain rfl:=hR.eq;have hg0:=hB0.lt;have hS : cG w (some ⟨g0,off,none⟩) na na (os.drop off):=by
  have h:=(hB0.nat hd rfl (by omega)).drop (show off ≤ os.length by omega) hna;rw [eY,Nat.zero_add] at h;rwa [hna] at *
 have hle : ys.length + 1 ≤ (os.drop off).length:=by simp; omega
 obtain ⟨V,hV⟩ : ∃ V,V = val 4294967296 ((os.drop off).take (ys.length + 1)):=⟨_,rfl⟩
 rw [← hV] at hge ⊢
 go_enter Tryz.func172,Tryz.ntmps172
 refine aF (fun K1 hK1=>wp_region_lit (aA (aB) (aA (aB) (aA (bM rfl Tryz.underlying97 rfl) ?_))));simp only[ev,zD,zE,zF,zG];refine aA (aX rfl rfl (aL (by omega) (by omega))) (aA (lS Tryz.underlying97 bA rfl rfl (show _ = ys.length + 1 by omega) (by omega) (by omega)) ?_);simp only[ev,zD,zE,zF,zG];refine bO rfl rfl (Ge _ ((hS.ext hX).head hle)) ?_;rintro v w1 hE ⟨A1,c1,rfl,hN1⟩;replace hB0:=hB0.ext hE; replace hX:=hX.trans hE;clear hE;simp only[ev,zD,zE,zF,zG];refine aA (aB) (aA (aB) ?_);simp only[ev,zD,zE,zF,zG];refine b7 Tryz.underlying97 (z:=.int .u64 0) (by kernel_rfl) rfl (by simp only[ev,zD,zE,zF,zG]; rfl) (by rfl) ?_;intro w2 g1 hE hg1 hB1;have hG1:=Nat.le_trans hX.size hg1; have hN1_0 : g1 ≠ g0:=Nat.ne_of_gt (Nat.lt_of_lt_of_le hB0.lt hg1);replace hB0:=hB0.ext hE; (try replace hN1:=hN1.ext hE); replace hX:=hX.trans hE;clear hE hg1;simp only[ev,zD,zE,zF,zG];refine bO rfl rfl (tN _ (hB1.nat (os:=[d]) (nK hdd) rfl (by omega))) ?_;rintro v w3 hE ⟨A3,c3,rfl,hN3⟩;replace hB0:=hB0.ext hE; replace hB1:=hB1.ext hE; (try replace hN1:=hN1.ext hE); replace hX:=hX.trans hE;clear hE;simp only[ev,zD,zE,zF,zG];refine bO rfl rfl (Ko _ (hR.ext hX) hN3 (by omega) (Nat.le_trans (kY (nK hdd)) (by simp))) ?_;rintro v w4 hE ⟨A4,c4,rfl,hN4⟩;replace hB0:=hB0.ext hE; replace hB1:=hB1.ext hE; (try replace hN1:=hN1.ext hE); (try replace hN3:=hN3.ext hE); replace hX:=hX.trans hE;clear hE;simp only[ev,zD,zE,zF,zG];have hsz:=hX.size;refine bO rfl rfl (Kn _ hN1 hN4 (by simp only[cF,jX]; rw [List.length_take,Nat.min_eq_left hle]; exact uV hR.digs hdd) (by simp only[cF,jX]; rw [← hV]; exact hge) (by rw [List.length_take]; omega)) ?_;rintro v w5 hE ⟨⟨A5,c5,rfl,hN5⟩,hne⟩;replace hB0:=hB0.ext hE; replace hB1:=hB1.ext hE; (try replace hN1:=hN1.ext hE); (try replace hN3:=hN3.ext hE); (try replace hN4:=hN4.ext hE); replace hX:=hX.trans hE;clear hE;replace hne : ∀ a,A5 = some a → a.block ≠ g0:=fun a e=>by subst e; have:=hne a _ _ rfl; omega
 simp only[cF,jX,← hV] at hN5 ⊢;have hm : (digs 4294967296 (V - val 4294967296 ys * d)).length ≤ ys.length + 1:=fC (by omega) (Nat.lt_of_le_of_lt (Nat.sub_le _ _) (by have h:=i4 ((hd.drop off).take (ys.length + 1)); rw [List.length_take,Nat.min_eq_left hle,← hV] at h; exact h));simp only[ev,zD,zE,zF,zG];refine aA (aD) ?_;simp only[ev,zD,zE,zF,zG];refine aC ?_;refine hK1 _ _ ?_;refine aF (fun K2 hK2=>?_);replace hX:=hX.upd g0;have hG0 : w.heap.size ≤ g0 ∨ g0 = g0:=.inr rfl;refine wp_region_lit (aA (aB) (aA (aB) (aA (bM rfl Tryz.underlying97 rfl) ?_)));simp only[ev,zD,zE,zF,zG];refine aA (aX rfl rfl (aL (by omega) (by omega))) (aA (lS Tryz.underlying97 bA rfl rfl (show _ = ys.length + 1 by omega) (by omega) (by omega)) ?_);simp only[ev,zD,zE,zF,zG];refine Nf (z:=.int .u64 0) rfl Tryz.underlying97 (by kernel_rfl) rfl rfl (by omega) hB0 (by simp; omega) rfl ?_;clear hB0; intro w6 hC hB0;replace hB1:=hB1.chg hC (by first | exact hN1_0 | exact Ne.symm hN0_1); (try replace hN5:=hN5.chg hC (by first | assumption | rfl)); replace hX:=hX.chg hC hG0;clear hC;refine aC ?_;refine hK2 _ _ ?_;refine wp_region_lit (aA (aB) (aA (aB) ?_));simp only[ev,zD,zE,zF,zG];refine Ng rfl Tryz.underlying97 (by kernel_rfl) rfl rfl (g:=g0) (o:=off) (n:=na) (m:=(digs 4294967296 (V - val 4294967296 ys * d)).length) (us:=(digs 4294967296 (V - val 4294967296 ys * d)).map iD) (by rw [List.length_map]; exact (Nat.min_eq_left (by omega)).symm) hN5.src hB0 (by rw [oZ (by simp; omega)]; simp; omega) J5 ?_;clear hB0; intro w7 hC hB0;replace hB1:=hB1.chg hC (by first | exact hN1_0 | exact Ne.symm hN0_1); (try replace hN5:=hN5.chg hC (by first | assumption | rfl)); replace hX:=hX.chg hC hG0;clear hC;simp only[ev,zD,zE,zF,zG];refine aC ?_;try simp only[Exit.inBlock,Exit.then,if_true]
 exact Ts rfl (⟨_,rfl,hX,by rw [← Hj hoff hm]; exact hB0⟩)
end Go.Proofs.YtimjandkmfcmiaaGreatDoor
namespace Go.Proofs.YtimjandkmfcmiaaGreatDoor
open Go.RowKit Go.Lith
set_option maxRecDepth 100000
attribute [local irreducible] wpList wpQuiet dV Code.wp
theorem Qe {A B : Option Addr} {xs ys : List Nat} {na nb ca cb : Nat} (w : World) (hS : cG w A na ca xs) (hR : cG w B nb cb ys) (tx : fK xs) (ty : fK ys) (h0 : 0 < val 4294967296 ys) (hlx : xs.length ≤ 1000000000000) (hly : ys.length ≤ 1000000000000) : gD Tryz.prog 148 [.slice A na ca,.slice B nb cb] w (fun v w'=>∃ q r,v = .tuple #[q,r] ∧ fH (val 4294967296 xs / val 4294967296 ys) q w' ∧ fH (val 4294967296 xs % val 4294967296 ys) r w'):=by
 skip
 refine ⟨Rk,?_⟩;have hX:=cD.refl w;obtain rfl:=hS.eq;obtain rfl:=hR.eq
 go_enter Tryz.func148,Tryz.ntmps148
 refine aF (fun K1 hK1=>wp_region_lit (aA (aD) (aA (aD) ?_)));simp only[ev,zD,zE,zF,zG];refine aC ?_;refine hK1 _ _ ?_;refine aF (fun K2 hK2=>aF (fun K3 hK3=>wp_region_lit (aA (aB) (aA (aB) ?_))));simp only[ev,zD,zE,zF,zG];refine bO rfl rfl (Km _ (hS.ext hX) (hR.ext hX) tx ty) ?_;rintro v w1 hE rfl;replace hX:=hX.trans hE;clear hE;simp only[ev,zD,zE,zF,zG];refine aA (dS rfl rfl) ?_;simp only[ev,zD,zE,zF,zG];refine aC ?_;refine hK3 _ _ ?_;refine cK rfl (fun hc1=>?_) (fun hc1=>?_)
 ·
  have hlt:=oH.1 hc1;refine aF (fun K4 hK4=>wp_region_lit (aA (aB) (aA (aD) (aA (aD) ?_))));simp only[ev,zD,zE,zF,zG];refine aC ?_;refine hK4 _ _ ?_;refine wp_ret ?_;try simp only[Exit.inBlock,Exit.then]
  refine mZ rfl rfl rfl ?_;try simp only[zD,zE]
  exact ⟨_,rfl,hX,_,_,rfl,by rw [Nat.div_eq_of_lt hlt]; exact fH.zero _,by rw [Nat.mod_eq_of_lt hlt]; exact fH.self (hS.ext hX) tx⟩
 ·
  have hYX : val 4294967296 ys ≤ val 4294967296 xs:=Nat.le_of_not_lt fun h=>hc1 (oH.2 h);refine wp_skip ?_;refine hK2 _ _ ?_;refine aF (fun K5 hK5=>aF (fun K6 hK6=>wp_region_lit (aA (aB) (aA (bM rfl Tryz.underlying97 rfl) (aA (lZ rfl rfl) ?_)))));simp only[ev,zD,zE,zF,zG];refine aC ?_;refine hK6 _ _ ?_;refine cK rfl (fun hc2=>?_) (fun hc2=>?_)
  ·
   refine aF (fun K7 hK7=>?_);obtain ⟨y,rfl⟩ : ∃ y,ys = [y]:=List.length_eq_one_iff.1 (by omega);obtain ⟨b,rfl,hcb,hyb⟩:=(hR.ext hX).get (i:=0) (by simp);simp only[List.getElem_cons_zero] at hcb hyb;refine wp_region_lit (aA (aB) (aA (aB) (aA (aT Tryz.underlying97 bA rfl rfl (by decide) (by omega) rfl) ?_)));simp only[ev,zD,zE,zF,zG];refine aI rfl (lies1 hcb eD) ?_;simp only[ev,zD,zE,zF,zG];refine bO rfl rfl (N0 _ (hS.ext hX) (by omega) (by rw [jX] at h0; exact h0) (by omega)) ?_;rintro v w2 hE ⟨q,rfl,A1,c1,rfl,hN1⟩;replace hX:=hX.trans hE;clear hE;simp only[ev,zD,zE,zF,zG];refine aA (aB) (aA (bJ rfl rfl) (aA (bJ rfl rfl) ?_));simp only[ev,zD,zE,zF,zG];refine aA (aD) (aA (aD) ?_);simp only[ev,zD,zE,zF,zG];refine aC ?_;refine hK7 _ _ ?_;refine aF (fun K8 hK8=>wp_region_lit (aA (aB) (aA (aB) ?_)));simp only[ev,zD,zE,zF,zG];refine b7 Tryz.underlying97 (z:=.int .u64 0) (by kernel_rfl) rfl (by simp only[ev,zD,zE,zF,zG]; rfl) (by rfl) ?_;intro w3 g1 hE hg1 hB1;have hG1:=Nat.le_trans hX.size hg1
   (try replace hN1:=hN1.ext hE); replace hX:=hX.trans hE
   clear hE hg1;simp only[ev,zD,zE,zF,zG];refine bO rfl rfl (tN _ (hB1.nat (os:=[val 4294967296 xs % y]) (nK (Nat.lt_of_lt_of_le (Nat.mod_lt _ (by rw [jX] at h0; exact h0)) (by omega))) rfl (by omega))) ?_;rintro v w4 hE ⟨A2,c2,rfl,hN2⟩;replace hB1:=hB1.ext hE; (try replace hN1:=hN1.ext hE); replace hX:=hX.trans hE;clear hE;simp only[jX] at hN2 ⊢;simp only[ev,zD,zE,zF,zG];refine aA (aD) (aA (aD) ?_);simp only[ev,zD,zE,zF,zG];refine aC ?_;refine hK8 _ _ ?_;refine wp_ret ?_;try simp only[Exit.inBlock,Exit.then]
   refine mZ rfl rfl rfl ?_;try simp only[zD,zE]
   exact ⟨_,rfl,hX,_,_,rfl,by rw [jX]; exact ⟨A1,c1,rfl,hN1⟩,by rw [jX]; exact ⟨A2,c2,rfl,hN2⟩⟩
  ·
   have hl2 : 2 ≤ ys.length:=by
    rcases ys with _ | ⟨y,ys⟩
    · exact absurd h0 (by simp [val])
    · simp only[List.length_cons] at hc2 ⊢; omega
   have hxy : ys.length ≤ xs.length:=by
    rcases Nat.lt_or_ge xs.length ys.length with h | h
    · have:=j9 (B:=4294967296) (by omega) hS.digs hR.digs ty h; omega
    · exact h
   obtain ⟨b,rfl,_,hyb⟩:=hR.get (i:=ys.length - 1) (by omega);have htpy:=o9 ty (by omega);refine wp_skip ?_;refine hK5 _ _ ?_;refine aF (fun K9 hK9=>wp_region_lit (aA (aD) ?_));simp only[ev,zD,zE,zF,zG];refine aC ?_;refine hK9 _ _ ?_;refine aF (fun K10 hK10=>wp_block ?_);refine cX [8] [39,40,41,42,43,44,45,46,47,48,49,50] (fun n vs wl=>∃ (sh : Nat),vs = [.int .i64 (sh:Int)] ∧ (cD w wl) ∧ (ys[ys.length - 1] * 2 ^ sh < 4294967296) ∧ (sh ≤ 31) ∧ (n = 32 - sh)) ?_ ?_
   ·
    apply Exists.intro;simp only[zQ,zR,zD,zE];exact ⟨0,rfl,hX,by simpa using hyb,by omega,rfl⟩
   ·
    intro n vs wr hI u;obtain ⟨sh,rfl,hX,hsh,hs31,hn⟩:=hI;simp only[aK,aQ,aM,aP,zF,zG];refine aF (fun K11 hK11=>aF (fun K12 hK12=>?_));have hcb:=(hR.ext hX).at (show ys.length - 1 < ys.length by omega);refine wp_region_lit (aA (aB) (aA (aB) (aA (bM rfl Tryz.underlying97 rfl) ?_)));simp only[ev,zD,zE,zF,zG];refine aA (eA rfl rfl (aL (by omega) (by omega))) (aA (aT Tryz.underlying97 bA rfl rfl (by omega) (by omega) (d7 (show _ = ys.length - 1 by omega))) ?_);simp only[ev,zD,zE,zF,zG];refine aI rfl (lies1 hcb eD) ?_;simp only[ev,zD,zE,zF,zG];refine aA (aB) (aA (vO rfl rfl (by omega) (oG (n:=sh) (by omega) (Ex (by omega) hyb))) (aA (i9 rfl rfl (by omega) R2) ?_));simp only[ev,zD,zE,zF,zG];refine aA (lZ rfl rfl) ?_;simp only[ev,zD,zE,zF,zG];refine aC ?_;refine hK12 _ _ ?_;refine cK rfl (fun hc3=>?_) (fun hc3=>?_)
    ·
     refine wp_skip ?_;refine hK11 _ _ ?_;refine wp_block (wp_region_lit (aA (aB) (aA (aX rfl rfl (aL (by omega) (by omega))) (aA (aD) ?_))));simp only[ev,zD,zE,zF,zG];refine aC ?_;rw [show ((sh:Int) + 1) = ((sh + 1 : Nat) : Int) by omega];have hlt31 : ys[ys.length - 1] * 2 ^ sh < 2147483648:=by omega
     have hps : 2 ^ sh < 2 ^ 31:=Nat.lt_of_le_of_lt (Nat.le_mul_of_pos_left (2 ^ sh) htpy) hlt31;have hs30 : sh < 31:=(Nat.pow_lt_pow_iff_right (by omega)).1 hps;simp only[Exit.inBlock,Exit.then];refine ⟨32 - (sh + 1),_,?_,rfl,?_,?_⟩
     · omega
     · simp only[zQ,zR,zD,zE,aK,aQ,aM,aP,zF,zG]
     ·
      simp only[zQ,zR,zD,zE];exact ⟨sh + 1,rfl,hX,by rw [Nat.pow_succ,← Nat.mul_assoc]; omega,by omega,rfl⟩
    ·
     refine wp_exit ?_;refine hK10 _ _ ?_;refine aF (fun K13 hK13=>wp_region_lit (aA (aB) (aA (aB) ?_)));simp only[ev,zD,zE,zF,zG];refine bO rfl rfl (Gd _ (hS.ext hX) (by omega) (by omega)) ?_;rintro v w2 hE ⟨g1,us,rfl,hg1,hB1,hlu,hdu,hvu⟩;have hG1:=Nat.le_trans hX.size hg1;replace hX:=hX.trans hE;clear hE hg1;simp only[ev,zD,zE,zF,zG];refine aA (aB) (aA (aB) ?_);simp only[ev,zD,zE,zF,zG];refine bO rfl rfl (Gd _ (hR.ext hX) (by omega) (by omega)) ?_;rintro v w3 hE ⟨g2,vs0,rfl,hg2,hB2,hlv,hdv,hvv⟩;have hG2:=Nat.le_trans hX.size hg2; have hN2_1 : g2 ≠ g1:=Nat.ne_of_gt (Nat.lt_of_lt_of_le hB1.lt hg2);replace hB1:=hB1.ext hE; replace hX:=hX.trans hE;clear hE hg2;rw [← hlv];simp only[ev,zD,zE,zF,zG];refine bO rfl rfl (m8 _ (hB2.nat hdv rfl (by omega))) ?_;rintro v w4 hE rfl;replace hB1:=hB1.ext hE; replace hB2:=hB2.ext hE; replace hX:=hX.trans hE;clear hE;simp only[ev,zD,zE,zF,zG];refine aA (aD) (aA (aD) ?_);simp only[ev,zD,zE,zF,zG];refine aC ?_;obtain ⟨ds,hvs⟩ : ∃ ds,ds = trim vs0:=⟨_,rfl⟩
     rw [← hvs];have hlvs : ds.length = ys.length:=by rw [hvs]; exact Hk hdv hvv hR.digs (by omega) hsh htpy hs31
     have hdvs : cM 4294967296 ds:=by rw [hvs]; exact hdv.trim
     have hvvs : val 4294967296 ds = 2 ^ sh * val 4294967296 ys:=by rw [hvs,nH,hvv]
     obtain ⟨K,hK⟩ : ∃ K,K = xs.length + 1 - ds.length:=⟨_,rfl⟩
     refine hK13 _ _ ?_;refine aF (fun K14 hK14=>wp_region_lit (aA (aB) (aA (bM rfl Tryz.underlying97 rfl) (aA (aB) ?_))));simp only[ev,zD,zE,zF,zG];refine aA (bM rfl Tryz.underlying97 rfl) (aA (eA rfl rfl (aL (by omega) (by omega))) ?_);simp only[ev,zD,zE,zF,zG];refine iR Tryz.underlying97 kH rfl rfl rfl (show _ = K by omega) (show _ = K by omega) (by omega) (by omega) (by omega) (by omega) ?_;intro w5 g3 hE hg3 hB3;have hG3:=Nat.le_trans hX.size hg3; have hN3_1 : g3 ≠ g1:=Nat.ne_of_gt (Nat.lt_of_lt_of_le hB1.lt hg3); have hN3_2 : g3 ≠ g2:=Nat.ne_of_gt (Nat.lt_of_lt_of_le hB2.lt hg3);replace hB1:=hB1.ext hE; replace hB2:=hB2.ext hE; replace hX:=hX.trans hE;clear hE hg3;simp only[ev,zD,zE,zF,zG];refine aA (aD) ?_;simp only[ev,zD,zE,zF,zG];refine aC ?_;rw [fT] at hB3;refine hK14 _ _ ?_;refine aF (fun K15 hK15=>?_);have hNv:=l8 hB2 hdv (by omega);rw [← hvs] at hNv;have hct:=hNv.at (show ds.length - 1 < ds.length by omega);have hcs:=hNv.at (show ds.length - 2 < ds.length by omega);rw [eY,Nat.zero_add] at hct hcs;refine iG aU (by kernel_rfl) (aR (aB) (aR (aB) (aR (bM rfl Tryz.underlying97 rfl) ?_)));simp only[ev,zD,zE,zF,zG];refine aR (eA rfl rfl (aL (by omega) (by omega))) (aR (aT Tryz.underlying97 bA rfl rfl (by omega) (by omega) (eF (show _ = ds.length - 1 by omega))) ?_);simp only[ev,zD,zE,zF,zG];refine iM rfl (fun _ hE'=>(lies1 (hE'.cell hct) eD)) ?_;simp only[ev,zD,zE,zF,zG];refine aR (aB) (aR (aB) (aR (bM rfl Tryz.underlying97 rfl) ?_));simp only[ev,zD,zE,zF,zG];refine aR (eA rfl rfl (aL (by omega) (by omega))) (aR (aT Tryz.underlying97 bA rfl rfl (by omega) (by omega) (eF (show _ = ds.length - 2 by omega))) ?_);simp only[ev,zD,zE,zF,zG];refine iM rfl (fun _ hE'=>(lies1 (hE'.cell hcs) eD)) ?_;simp only[ev,zD,zE,zF,zG];refine aR (aD) (aR (aD) ?_);simp only[ev,zD,zE,zF,zG];refine dW ?_;intro w6 hE;replace hB1:=hB1.ext hE; replace hB2:=hB2.ext hE; replace hB3:=hB3.ext hE; replace hX:=hX.trans hE;clear hE;have htv : 0 < ds[ds.length - 1]:=o9 (by rw [hvs]; exact oC _) (by omega);obtain ⟨top,htop⟩ : ∃ top,top = ds[ds.length - 1]:=⟨_,rfl⟩
     obtain ⟨sec,hsec⟩ : ∃ sec,sec = ds[ds.length - 2]:=⟨_,rfl⟩
     have htB : top < 4294967296:=htop ▸ hdvs _ (List.getElem_mem _);have hsB : sec < 4294967296:=hsec ▸ hdvs _ (List.getElem_mem _);rw [← htop] at htv;rw [← htop,← hsec];refine hK15 _ _ ?_;refine aF (fun K16 hK16=>aF (fun K17 hK17=>?_));clear hNv hct hcs;refine wp_region_lit (aA (aB) (aA (bM rfl Tryz.underlying97 rfl) (aA (eA rfl rfl (aL (by omega) (by omega))) ?_)));simp only[ev,zD,zE,zF,zG];refine aA (aD) ?_;simp only[ev,zD,zE,zF,zG];refine aC ?_;refine hK17 _ _ ?_;refine wp_block ?_;refine cX [14] [15,16,17,18,79,80,81,82,83,84,85,86,87,88,89,90,91,92,93,94,95,96,97,98,99,100,101,102,103,104,105,106,107,108,109,110,111,112,113,114,115,116,117,118,119,120,121,122,123,124,125,126,127,128,129,130,131,132,133,134,135,136,137,138,139,140,141,142,143,144,145,146] (fun n vs wl=>∃ (k : Nat) (us qs : List Nat),vs = [.int .i64 ((k:Int) - 1)] ∧ (cD w wl) ∧ (eU wl g1 (us.map iD) 101) ∧ (eU wl g2 (vs0.map iD) 101) ∧ (eU wl g3 (qs.map iD) 101) ∧ (k ≤ K) ∧ (us.length = xs.length + 1) ∧ (qs.length = K) ∧ (cM 4294967296 us) ∧ (cM 4294967296 qs) ∧ (val 4294967296 us + val 4294967296 qs * val 4294967296 ds = 2 ^ sh * val 4294967296 xs) ∧ (val 4294967296 (us.drop k) < val 4294967296 ds) ∧ (qs.take k = List.replicate k 0) ∧ (n = k)) ?_ ?_
     ·
      apply Exists.intro;simp only[zQ,zR,zD,zE];exact ⟨K,us,List.replicate K 0,rfl,hX,hB1,hB2,hB3,Nat.le_refl _,hlu,by simp,hdu,fun x hx=>by rw [List.eq_of_mem_replicate hx]; decide,by rw [fB,Nat.zero_mul]; exact hvu,by rw [hK]; exact Ka hS.digs hlu hvu (by omega) (by omega) hs31 (by rw [hvvs,hlvs]; exact Hl (by omega) (by omega)),by rw [List.take_of_length_le (by simp)],rfl⟩
     ·
      intro n vs wr hI u;obtain ⟨k,us,qs,rfl,hX,hB1,hB2,hB3,hk,hlu,hlq,hdu,hdq,hI,hH,hz,hn⟩:=hI;simp only[aK,aQ,aM,aP,zF,zG];refine aF (fun K18 hK18=>aF (fun K19 hK19=>wp_region_lit (aA (aB) (aA (kK rfl rfl) ?_))));simp only[ev,zD,zE,zF,zG];refine aC ?_;refine hK19 _ _ ?_;refine cK rfl (fun hc4=>?_) (fun hc4=>?_)
      ·
       obtain ⟨i,rfl⟩ : ∃ i,k = i + 1:=⟨k - 1,by omega⟩
       rw [show (((i + 1 : Nat) : Int) - 1) = (i : Int) by omega];have hi : i + ds.length < us.length:=by omega
       refine wp_skip ?_;refine hK18 _ _ ?_;refine aF (fun K20 hK20=>wp_block (aF (fun K21 hK21=>wp_region_lit (aA (aB) (aA (aB) (aA (bM rfl Tryz.underlying97 rfl) ?_))))));simp only[ev,zD,zE,zF,zG];refine aA (aX rfl rfl (aL (by omega) (by omega))) (aA (aD) ?_);simp only[ev,zD,zE,zF,zG];refine aC ?_;rw [show ((i:Int) + (ds.length:Int)) = ((i + ds.length : Nat) : Int) by omega];refine hK21 _ _ ?_;refine aF (fun K22 hK22=>?_);have hco1:=hB1.word (show i + ds.length < us.length by omega);have hco2:=hB1.word (show i + ds.length - 1 < us.length by omega);have hb1 : us[i + ds.length] < 4294967296:=hdu _ (List.getElem_mem _);have hb2 : us[i + ds.length - 1] < 4294967296:=hdu _ (List.getElem_mem _);obtain ⟨a3,ha3⟩ : ∃ a3,a3 = us[i + ds.length - 2]:=⟨_,rfl⟩
       have hb3 : a3 < 4294967296:=ha3 ▸ hdu _ (List.getElem_mem _);obtain ⟨U,hU⟩ : ∃ U,U = val 4294967296 (us.drop i):=⟨_,rfl⟩
       refine iG aU (by kernel_rfl) (aR (aB) (aR (aB) (aR (aT Tryz.underlying97 bA rfl rfl (by omega) (by omega) (eF (show _ = i + ds.length by omega))) ?_)));simp only[ev,zD,zE,zF,zG];refine iM rfl (fun _ hE'=>(lies1 (hE'.cell hco1) eD)) ?_;simp only[ev,zD,zE,zF,zG];refine aR (vO rfl rfl (by omega) (oG (n:=32) (by omega) (by omega))) (aR (aB) (aR (aB) ?_));simp only[ev,zD,zE,zF,zG];refine aR (eA rfl rfl (aL (by omega) (by omega))) (aR (aT Tryz.underlying97 bA rfl rfl (by omega) (by omega) (eF (show _ = i + ds.length - 1 by omega))) ?_);simp only[ev,zD,zE,zF,zG];refine iM rfl (fun _ hE'=>(lies1 (hE'.cell hco2) eD)) ?_;simp only[ev,zD,zE,zF,zG];refine aR (El rfl rfl (vA (s:=32) (c:=us[i + ds.length]) (by omega) (by omega) (by omega))) (aR (aD) ?_);simp only[ev,zD,zE,zF,zG];refine dW ?_;intro w7 hE;replace hB1:=hB1.ext hE; replace hB2:=hB2.ext hE; replace hB3:=hB3.ext hE; replace hX:=hX.trans hE;clear hE;obtain ⟨two,htwo⟩ : ∃ two : Nat,two = us[i + ds.length - 1] + us[i + ds.length] * 4294967296:=⟨_,rfl⟩
       rw [← htwo];have ht64 : two < 18446744073709551616:=by omega
       obtain ⟨P,hP,f1,f2,f3,f4,f5,f6,f7⟩:=Hm hdu hdvs (by omega) hi hH htwo htop hsec ha3 hU;obtain ⟨q,hq⟩ : ∃ q,q = U / val 4294967296 ds:=⟨_,rfl⟩
       have hq1 : q * val 4294967296 ds ≤ U:=by rw [hq]; exact Nat.div_mul_le_self _ _
       have hV0 : 0 < val 4294967296 ds:=by omega
       have hq2 : U < (q + 1) * val 4294967296 ds:=by rw [← Nat.div_lt_iff_lt_mul hV0]; omega
       have hqB : q < 4294967296:=by rw [hq,Nat.div_lt_iff_lt_mul hV0]; exact f7
       refine hK22 _ _ ?_;refine aF (fun K23 hK23=>?_);refine iG aU (by kernel_rfl) (aR (aB) (aR (aB) (aR (gS rfl rfl (by omega) (vC ht64)) ?_)));simp only[ev,zD,zE,zF,zG];refine aR (aB) (aR (aB) (aR (dF rfl rfl (by omega) mT) ?_));simp only[ev,zD,zE,zF,zG];refine aR (aD) (aR (aD) ?_);simp only[ev,zD,zE,zF,zG];refine dW ?_;intro w8 hE;replace hB1:=hB1.ext hE; replace hB2:=hB2.ext hE; replace hB3:=hB3.ext hE; replace hX:=hX.trans hE;clear hE;refine hK23 _ _ ?_;refine aF (fun K24 hK24=>wp_block ?_);refine cX [17,18] [104,105,106,107,108,109,110,111,112,113,114,115,116,117,118,119,120,121,122,123,124,125,126,127,128] (fun n vs wl=>∃ (gq rr : Nat),vs = [.int .u64 (gq:Int),.int .u64 (rr:Int)] ∧ (cD w wl) ∧ (eU wl g1 (us.map iD) 101) ∧ (eU wl g2 (vs0.map iD) 101) ∧ (eU wl g3 (qs.map iD) 101) ∧ (gq * top + rr = two) ∧ (q ≤ gq) ∧ (n = gq)) ?_ ?_
       ·
        apply Exists.intro;simp only[zQ,zR,zD,zE];exact ⟨two / top,two % top,rfl,hX,hB1,hB2,hB3,by rw [Nat.mul_comm]; exact Nat.div_add_mod two top,J7 (by omega) f1 f2 hq1 htv,rfl⟩
       ·
        intro n vs wr hI u;obtain ⟨gq,rr,rfl,hX,hB1,hB2,hB3,hgr,hqg,hn3⟩:=hI;simp only[aK,aQ,aM,aP,zF,zG];refine aF (fun K25 hK25=>aF (fun K26 hK26=>?_));have hco3:=hB1.word (show i + ds.length - 2 < us.length by omega);rw [← ha3] at hco3;have M8 : gq ≤ two:=Nat.le_trans (Nat.le_mul_of_pos_right gq htv) (by omega);rcases (show 4294967295 < gq ∨ (gq ≤ 4294967295 ∧ 4294967295 < rr) ∨ (gq ≤ 4294967295 ∧ rr ≤ 4294967295) by omega) with hga | ⟨hga,hrr⟩ | ⟨hga,hrr⟩
        ·
         have hqg2 : q < gq:=by omega
         have hco3:=hB1.word (show i + ds.length - 2 < us.length by omega);rw [← ha3] at hco3;have M8 : gq ≤ two:=Nat.le_trans (Nat.le_mul_of_pos_right gq htv) (by omega);refine wp_region_lit (aA (aB) (aA (l2 rfl rfl (by omega)) (aA (aB) ?_)));simp only[ev,zD,zE,zF,zG];refine bW rfl ?_;simp only[ev,zD,zE,zF,zG];refine bW rfl ?_;simp only[ev,zD,zE,zF,zG];refine bW rfl ?_;simp only[ev,zD,zE,zF,zG];refine eC rfl ?_;simp only[ev,zD,zE,zF,zG];refine eC rfl ?_;simp only[ev,zD,zE,zF,zG];refine eC rfl ?_;simp only[ev,zD,zE,zF,zG];refine eC rfl ?_;simp only[ev,zD,zE,zF,zG];refine eC rfl ?_;simp only[ev,zD,zE,zF,zG];refine eC rfl ?_;simp only[ev,zD,zE,zF,zG];refine eC rfl ?_;simp only[ev,zD,zE,zF,zG];refine eC rfl ?_;simp only[ev,zD,zE,zF,zG];refine eC rfl ?_;simp only[ev,zD,zE,zF,zG];refine eC rfl ?_;simp only[ev,zD,zE,zF,zG];refine eC rfl ?_;simp only[ev,zD,zE,zF,zG];refine eC rfl ?_;simp only[ev,zD,zE,zF,zG];refine bW rfl ?_;simp only[ev,zD,zE,zF,zG];refine aA (cQ rfl) ?_;simp only[ev,zD,zE,zF,zG];refine aC ?_;refine hK26 _ _ ?_;refine bS rfl (wp_skip ?_);refine hK25 _ _ ?_;refine wp_block (aF (fun K27 hK27=>wp_region_lit (aA (aB) (aA (eA rfl rfl (eP (by omega) (by omega))) (aA (aD) ?_)))));simp only[ev,zD,zE,zF,zG];refine aC ?_;refine hK27 _ _ ?_;have hgt2 : rr + top ≤ two:=by have:=Nat.le_mul_of_pos_left top (show 0 < gq by omega); omega
         refine wp_region_lit (aA (aB) (aA (aB) (aA (aX rfl rfl (eP (by omega) (by omega))) ?_)));simp only[ev,zD,zE,zF,zG];refine aA (aD) ?_;simp only[ev,zD,zE,zF,zG];refine aC ?_;obtain ⟨g9,rfl⟩ : ∃ g9,gq = g9 + 1:=⟨gq - 1,by omega⟩
         rw [show (((g9 + 1 : Nat) : Int) - 1) = (g9 : Int) by omega,show ((rr:Int) + (top:Int)) = ((rr + top : Nat) : Int) by omega];simp only[Exit.inBlock,Exit.then];refine ⟨g9,_,?_,rfl,?_,?_⟩
         · omega
         · simp only[zQ,zR,zD,zE,aK,aQ,aM,aP,zF,zG]
         ·
          simp only[zQ,zR,zD,zE];exact ⟨g9,rr + top,rfl,hX,hB1,hB2,hB3,by rw [Nat.add_mul,Nat.one_mul] at hgr; omega,by omega,rfl⟩
        ·
         have hx : gq * sec ≤ a3 + rr * 4294967296:=Kc (by omega) hsB (by omega);have hco3:=hB1.word (show i + ds.length - 2 < us.length by omega);rw [← ha3] at hco3;have M8 : gq ≤ two:=Nat.le_trans (Nat.le_mul_of_pos_right gq htv) (by omega);refine wp_region_lit (aA (aB) (aA (iZ rfl rfl (by omega)) (aA (aB) ?_)));simp only[ev,zD,zE,zF,zG];refine aW rfl (aA (aB) ?_);simp only[ev,zD,zE,zF,zG];refine aW rfl (aA (vT rfl rfl (by omega)) ?_);simp only[ev,zD,zE,zF,zG];refine aW rfl (aA (aB) ?_);simp only[ev,zD,zE,zF,zG];refine bD rfl ?_;simp only[ev,zD,zE,zF,zG];refine bD rfl ?_;simp only[ev,zD,zE,zF,zG];refine bD rfl ?_;simp only[ev,zD,zE,zF,zG];refine bD rfl ?_;simp only[ev,zD,zE,zF,zG];refine bD rfl ?_;simp only[ev,zD,zE,zF,zG];refine bD rfl ?_;simp only[ev,zD,zE,zF,zG];refine bD rfl ?_;simp only[ev,zD,zE,zF,zG];refine bD rfl ?_;simp only[ev,zD,zE,zF,zG];refine bD rfl ?_;simp only[ev,zD,zE,zF,zG];refine bD rfl ?_;simp only[ev,zD,zE,zF,zG];refine bD rfl ?_;simp only[ev,zD,zE,zF,zG];refine bD rfl ?_;simp only[ev,zD,zE,zF,zG];refine aW rfl (aA (cU rfl) (aA (cU rfl) ?_));simp only[ev,zD,zE,zF,zG];refine aC ?_;refine hK26 _ _ ?_;refine eM rfl (wp_exit ?_);refine hK24 _ _ ?_;refine aF (fun K28 hK28=>aF (fun K29 hK29=>?_));have hNv:=l8 hB2 hdv (by omega);rw [← hvs] at hNv;have hNu:=(hB1.nat hdu rfl (by omega)).drop (show i ≤ us.length by omega) rfl;rw [eY,Nat.zero_add,hlu] at hNu;have hU2 : val 4294967296 ((us.drop i).take (ds.length + 1)) = U:=by rw [← sC hdvs (by omega) hH,hU]
         have hgl : gq ≤ q + 1:=De f4 f6 hq2 (v7 hgr hx) (by omega);obtain ⟨ge1,ge2⟩:=yW hq1 hq2 hqg hgl;refine wp_region_lit (aA (aB) (aA (aB) (aA (j6 Tryz.underlying97 bA rfl rfl (Int.toNat_natCast _) (by omega) (by omega) (pY (by omega))) ?_)));simp only[ev,zD,zE,zF,zG];refine aA (aB) (aA (aB) ?_);simp only[ev,zD,zE,zF,zG];refine bO rfl rfl (Kp _ hNu hNv (by simp; omega) (by omega) (by omega)) ?_;rintro v w9 hE rfl;replace hB1:=hB1.ext hE; replace hB2:=hB2.ext hE; replace hB3:=hB3.ext hE; replace hX:=hX.trans hE;clear hE;simp only[ev,zD,zE,zF,zG];refine aC ?_;refine hK29 _ _ ?_;refine cK rfl (fun hc6=>?_) (fun hc6=>?_)
         ·
          have hg1 : 0 < gq:=by
           rcases Nat.eq_zero_or_pos gq with h | h
           · rw [h,Nat.mul_zero] at hc6; exact absurd hc6 (Nat.not_lt_zero _)
           · exact h
          have hgq:=ge1 (by rw [← hU2]; exact hc6);refine wp_region_lit (aA (aB) (aA (eA rfl rfl (eP (by omega) (by omega))) (aA (aD) ?_)));simp only[ev,zD,zE,zF,zG];refine aC ?_;rw [show ((gq:Int) - 1) = (q:Int) by omega];refine hK28 _ _ ?_;refine aF (fun K30 hK30=>?_);clear hNv hNu;have hNv:=l8 hB2 hdv (by omega);rw [← hvs] at hNv;refine wp_region_lit (aA (aB) (aA (aB) (aA (j6 Tryz.underlying97 bA rfl rfl (Int.toNat_natCast _) (by omega) (by omega) (pY (by omega))) ?_)));simp only[ev,zD,zE,zF,zG];refine aA (aB) (aA (aB) ?_);simp only[ev,zD,zE,zF,zG];refine rP rfl rfl (B2 _ hB1 hdu (by omega) hNv (by omega) (by omega) hqB (by rw [hU2,Nat.mul_comm]; exact hq1)) ?_;clear hB1;rintro v w10 hU hB1;replace hB2:=hB2.upd hU (by first | exact hN2_1 | exact Ne.symm hN1_2); replace hB3:=hB3.upd hU (by first | exact hN3_1 | exact Ne.symm hN1_3); replace hX:=hX.grownUpd hU hG1;clear hU;simp only[ev,zD,zE,zF,zG];refine aC ?_;refine hK30 _ _ ?_;clear hNv;refine wp_region_lit (aA (aB) (aA (aB) (aA (aB) ?_)));simp only[ev,zD,zE,zF,zG];refine aA (aT Tryz.underlying97 bA rfl rfl (by omega) (by omega) (eF (Int.toNat_natCast _))) ?_;simp only[ev,zD,zE,zF,zG];refine bZ rfl (by simp only[ev,zD,zE]; rfl) (by exact bA) hB3 (by simp; omega) (by simp [Value.oneCell']) ?_;clear hB3; intro w11 hC hB3;replace hB1:=hB1.chg hC (by first | exact hN1_3 | exact Ne.symm hN3_1); replace hB2:=hB2.chg hC (by first | exact hN2_3 | exact Ne.symm hN3_2); replace hX:=hX.chg hC hG3;clear hC;rw [eZ (by omega)] at hB3;refine aC ?_;refine hK20 _ _ ?_;refine wp_region_lit (aA (aB) (aA (eA rfl rfl (aL (by omega) (by omega))) (aA (aD) ?_)));simp only[ev,zD,zE,zF,zG];refine aC ?_;obtain ⟨r1,r2,r3,r4⟩:=pZ hdvs hdu hi hH hU hq1 hq2 hI hz (by omega);simp only[Exit.inBlock,Exit.then];refine ⟨i,_,?_,rfl,?_,?_⟩
          · omega
          · simp only[zQ,zR,zD,zE,aK,aQ,aM,aP,zF,zG]
          ·
           simp only[zQ,zR,zD,zE];exact ⟨i,laid us i (ds.length + 1) (val 4294967296 ((us.drop i).take (ds.length + 1)) - val 4294967296 ds * q),qs.set i q,rfl,hX,hB1,hB2,hB3,by omega,by rw [r4]; exact hlu,by simpa using hlq,pX hdu,hdq.set hqB,r1,r2,r3,rfl⟩
         ·
          have hgq:=ge2 (by rw [← hU2]; exact hc6);rw [show (gq:Int) = (q:Int) by omega];refine wp_skip ?_;refine hK28 _ _ ?_;refine aF (fun K31 hK31=>?_);clear hNv hNu;have hNv:=l8 hB2 hdv (by omega);rw [← hvs] at hNv;refine wp_region_lit (aA (aB) (aA (aB) (aA (j6 Tryz.underlying97 bA rfl rfl (Int.toNat_natCast _) (by omega) (by omega) (pY (by omega))) ?_)));simp only[ev,zD,zE,zF,zG];refine aA (aB) (aA (aB) ?_);simp only[ev,zD,zE,zF,zG];refine rP rfl rfl (B2 _ hB1 hdu (by omega) hNv (by omega) (by omega) hqB (by rw [hU2,Nat.mul_comm]; exact hq1)) ?_;clear hB1;rintro v w10 hU hB1;replace hB2:=hB2.upd hU (by first | exact hN2_1 | exact Ne.symm hN1_2); replace hB3:=hB3.upd hU (by first | exact hN3_1 | exact Ne.symm hN1_3); replace hX:=hX.grownUpd hU hG1;clear hU;simp only[ev,zD,zE,zF,zG];refine aC ?_;refine hK31 _ _ ?_;clear hNv;refine wp_region_lit (aA (aB) (aA (aB) (aA (aB) ?_)));simp only[ev,zD,zE,zF,zG];refine aA (aT Tryz.underlying97 bA rfl rfl (by omega) (by omega) (eF (Int.toNat_natCast _))) ?_;simp only[ev,zD,zE,zF,zG];refine bZ rfl (by simp only[ev,zD,zE]; rfl) (by exact bA) hB3 (by simp; omega) (by simp [Value.oneCell']) ?_;clear hB3; intro w11 hC hB3;replace hB1:=hB1.chg hC (by first | exact hN1_3 | exact Ne.symm hN3_1); replace hB2:=hB2.chg hC (by first | exact hN2_3 | exact Ne.symm hN3_2); replace hX:=hX.chg hC hG3;clear hC;rw [eZ (by omega)] at hB3;refine aC ?_;refine hK20 _ _ ?_;refine wp_region_lit (aA (aB) (aA (eA rfl rfl (aL (by omega) (by omega))) (aA (aD) ?_)));simp only[ev,zD,zE,zF,zG];refine aC ?_;obtain ⟨r1,r2,r3,r4⟩:=pZ hdvs hdu hi hH hU hq1 hq2 hI hz (by omega);simp only[Exit.inBlock,Exit.then];refine ⟨i,_,?_,rfl,?_,?_⟩
          · omega
          · simp only[zQ,zR,zD,zE,aK,aQ,aM,aP,zF,zG]
          ·
           simp only[zQ,zR,zD,zE];exact ⟨i,laid us i (ds.length + 1) (val 4294967296 ((us.drop i).take (ds.length + 1)) - val 4294967296 ds * q),qs.set i q,rfl,hX,hB1,hB2,hB3,by omega,by rw [r4]; exact hlu,by simpa using hlq,pX hdu,hdq.set hqB,r1,r2,r3,rfl⟩
        ·
         have hco3:=hB1.word (show i + ds.length - 2 < us.length by omega);rw [← ha3] at hco3;have M8 : gq ≤ two:=Nat.le_trans (Nat.le_mul_of_pos_right gq htv) (by omega);refine wp_region_lit (aA (aB) (aA (iZ rfl rfl (by omega)) (aA (aB) ?_)));simp only[ev,zD,zE,zF,zG];refine aW rfl (aA (aB) ?_);simp only[ev,zD,zE,zF,zG];refine aW rfl (aA (I9 rfl rfl (by omega)) ?_);simp only[ev,zD,zE,zF,zG];refine aW rfl (aA (aB) ?_);simp only[ev,zD,zE,zF,zG];refine aW rfl (aA (aB) ?_);simp only[ev,zD,zE,zF,zG];refine aW rfl (aA (aB) ?_);simp only[ev,zD,zE,zF,zG];refine aW rfl (aA (dX rfl rfl (Nt (Nat.lt_of_le_of_lt (J2 (by omega) hsB) (by decide)))) ?_);simp only[ev,zD,zE,zF,zG];refine aW rfl (aA (aB) ?_);simp only[ev,zD,zE,zF,zG];refine aW rfl (aA (vO rfl rfl (by omega) (oG (n:=32) (by omega) (by omega))) ?_);simp only[ev,zD,zE,zF,zG];refine aW rfl (aA (aB) ?_);simp only[ev,zD,zE,zF,zG];refine aW rfl (aA (aB) ?_);simp only[ev,zD,zE,zF,zG];refine aW rfl (aA (eA rfl rfl (aL (by omega) (by omega))) ?_);simp only[ev,zD,zE,zF,zG];refine aW rfl (aA (aT Tryz.underlying97 bA rfl rfl (by omega) (by omega) (eF (show _ = i + ds.length - 2 by omega))) ?_);simp only[ev,zD,zE,zF,zG];refine aW rfl ?_;refine aI rfl (lies1 hco3 eD) ?_;simp only[ev,zD,zE,zF,zG];refine aW rfl (aA (El rfl rfl (vA (s:=32) (c:=rr) (by omega) (by omega) (by omega))) ?_);simp only[ev,zD,zE,zF,zG];refine aW rfl (aA (gJ rfl rfl) ?_);simp only[ev,zD,zE,zF,zG];refine aW rfl (aA (cQ rfl) (aA (cU rfl) ?_));simp only[ev,zD,zE,zF,zG];refine aC ?_;refine hK26 _ _ ?_;refine cK rfl (fun hc5=>?_) (fun hc5=>?_)
         ·
          have hqg2 : q < gq:=J8 hP f3 f5 hq1 (Ey hgr (by omega));refine wp_skip ?_;refine hK25 _ _ ?_;refine wp_block (aF (fun K32 hK32=>wp_region_lit (aA (aB) (aA (eA rfl rfl (eP (by omega) (by omega))) (aA (aD) ?_)))));simp only[ev,zD,zE,zF,zG];refine aC ?_;refine hK32 _ _ ?_;have hgt2 : rr + top ≤ two:=by have:=Nat.le_mul_of_pos_left top (show 0 < gq by omega); omega
          refine wp_region_lit (aA (aB) (aA (aB) (aA (aX rfl rfl (eP (by omega) (by omega))) ?_)));simp only[ev,zD,zE,zF,zG];refine aA (aD) ?_;simp only[ev,zD,zE,zF,zG];refine aC ?_;obtain ⟨g9,rfl⟩ : ∃ g9,gq = g9 + 1:=⟨gq - 1,by omega⟩
          rw [show (((g9 + 1 : Nat) : Int) - 1) = (g9 : Int) by omega,show ((rr:Int) + (top:Int)) = ((rr + top : Nat) : Int) by omega];simp only[Exit.inBlock,Exit.then];refine ⟨g9,_,?_,rfl,?_,?_⟩
          · omega
          · simp only[zQ,zR,zD,zE,aK,aQ,aM,aP,zF,zG]
          ·
           simp only[zQ,zR,zD,zE];exact ⟨g9,rr + top,rfl,hX,hB1,hB2,hB3,by rw [Nat.add_mul,Nat.one_mul] at hgr; omega,by omega,rfl⟩
         ·
          have hx : gq * sec ≤ a3 + rr * 4294967296:=by omega
          refine wp_exit ?_;refine hK24 _ _ ?_;refine aF (fun K33 hK33=>aF (fun K34 hK34=>?_));have hNv:=l8 hB2 hdv (by omega);rw [← hvs] at hNv;have hNu:=(hB1.nat hdu rfl (by omega)).drop (show i ≤ us.length by omega) rfl;rw [eY,Nat.zero_add,hlu] at hNu;have hU2 : val 4294967296 ((us.drop i).take (ds.length + 1)) = U:=by rw [← sC hdvs (by omega) hH,hU]
          have hgl : gq ≤ q + 1:=De f4 f6 hq2 (v7 hgr hx) (by omega);obtain ⟨ge1,ge2⟩:=yW hq1 hq2 hqg hgl;refine wp_region_lit (aA (aB) (aA (aB) (aA (j6 Tryz.underlying97 bA rfl rfl (Int.toNat_natCast _) (by omega) (by omega) (pY (by omega))) ?_)));simp only[ev,zD,zE,zF,zG];refine aA (aB) (aA (aB) ?_);simp only[ev,zD,zE,zF,zG];refine bO rfl rfl (Kp _ hNu hNv (by simp; omega) (by omega) (by omega)) ?_;rintro v w9 hE rfl;replace hB1:=hB1.ext hE; replace hB2:=hB2.ext hE; replace hB3:=hB3.ext hE; replace hX:=hX.trans hE;clear hE;simp only[ev,zD,zE,zF,zG];refine aC ?_;refine hK34 _ _ ?_;refine cK rfl (fun hc6=>?_) (fun hc6=>?_)
          ·
           have hg1 : 0 < gq:=by
            rcases Nat.eq_zero_or_pos gq with h | h
            · rw [h,Nat.mul_zero] at hc6; exact absurd hc6 (Nat.not_lt_zero _)
            · exact h
           have hgq:=ge1 (by rw [← hU2]; exact hc6);refine wp_region_lit (aA (aB) (aA (eA rfl rfl (eP (by omega) (by omega))) (aA (aD) ?_)));simp only[ev,zD,zE,zF,zG];refine aC ?_;rw [show ((gq:Int) - 1) = (q:Int) by omega];refine hK33 _ _ ?_;refine aF (fun K35 hK35=>?_);clear hNv hNu;have hNv:=l8 hB2 hdv (by omega);rw [← hvs] at hNv;refine wp_region_lit (aA (aB) (aA (aB) (aA (j6 Tryz.underlying97 bA rfl rfl (Int.toNat_natCast _) (by omega) (by omega) (pY (by omega))) ?_)));simp only[ev,zD,zE,zF,zG];refine aA (aB) (aA (aB) ?_);simp only[ev,zD,zE,zF,zG];refine rP rfl rfl (B2 _ hB1 hdu (by omega) hNv (by omega) (by omega) hqB (by rw [hU2,Nat.mul_comm]; exact hq1)) ?_;clear hB1;rintro v w10 hU hB1;replace hB2:=hB2.upd hU (by first | exact hN2_1 | exact Ne.symm hN1_2); replace hB3:=hB3.upd hU (by first | exact hN3_1 | exact Ne.symm hN1_3); replace hX:=hX.grownUpd hU hG1;clear hU;simp only[ev,zD,zE,zF,zG];refine aC ?_;refine hK35 _ _ ?_;clear hNv;refine wp_region_lit (aA (aB) (aA (aB) (aA (aB) ?_)));simp only[ev,zD,zE,zF,zG];refine aA (aT Tryz.underlying97 bA rfl rfl (by omega) (by omega) (eF (Int.toNat_natCast _))) ?_;simp only[ev,zD,zE,zF,zG];refine bZ rfl (by simp only[ev,zD,zE]; rfl) (by exact bA) hB3 (by simp; omega) (by simp [Value.oneCell']) ?_;clear hB3; intro w11 hC hB3;replace hB1:=hB1.chg hC (by first | exact hN1_3 | exact Ne.symm hN3_1); replace hB2:=hB2.chg hC (by first | exact hN2_3 | exact Ne.symm hN3_2); replace hX:=hX.chg hC hG3;clear hC;rw [eZ (by omega)] at hB3;refine aC ?_;refine hK20 _ _ ?_;refine wp_region_lit (aA (aB) (aA (eA rfl rfl (aL (by omega) (by omega))) (aA (aD) ?_)));simp only[ev,zD,zE,zF,zG];refine aC ?_;obtain ⟨r1,r2,r3,r4⟩:=pZ hdvs hdu hi hH hU hq1 hq2 hI hz (by omega);simp only[Exit.inBlock,Exit.then];refine ⟨i,_,?_,rfl,?_,?_⟩
           · omega
           · simp only[zQ,zR,zD,zE,aK,aQ,aM,aP,zF,zG]
           ·
            simp only[zQ,zR,zD,zE];exact ⟨i,laid us i (ds.length + 1) (val 4294967296 ((us.drop i).take (ds.length + 1)) - val 4294967296 ds * q),qs.set i q,rfl,hX,hB1,hB2,hB3,by omega,by rw [r4]; exact hlu,by simpa using hlq,pX hdu,hdq.set hqB,r1,r2,r3,rfl⟩
          ·
           have hgq:=ge2 (by rw [← hU2]; exact hc6);rw [show (gq:Int) = (q:Int) by omega];refine wp_skip ?_;refine hK33 _ _ ?_;refine aF (fun K36 hK36=>?_);clear hNv hNu;have hNv:=l8 hB2 hdv (by omega);rw [← hvs] at hNv;refine wp_region_lit (aA (aB) (aA (aB) (aA (j6 Tryz.underlying97 bA rfl rfl (Int.toNat_natCast _) (by omega) (by omega) (pY (by omega))) ?_)));simp only[ev,zD,zE,zF,zG];refine aA (aB) (aA (aB) ?_);simp only[ev,zD,zE,zF,zG];refine rP rfl rfl (B2 _ hB1 hdu (by omega) hNv (by omega) (by omega) hqB (by rw [hU2,Nat.mul_comm]; exact hq1)) ?_;clear hB1;rintro v w10 hU hB1;replace hB2:=hB2.upd hU (by first | exact hN2_1 | exact Ne.symm hN1_2); replace hB3:=hB3.upd hU (by first | exact hN3_1 | exact Ne.symm hN1_3); replace hX:=hX.grownUpd hU hG1;clear hU;simp only[ev,zD,zE,zF,zG];refine aC ?_;refine hK36 _ _ ?_;clear hNv;refine wp_region_lit (aA (aB) (aA (aB) (aA (aB) ?_)));simp only[ev,zD,zE,zF,zG];refine aA (aT Tryz.underlying97 bA rfl rfl (by omega) (by omega) (eF (Int.toNat_natCast _))) ?_;simp only[ev,zD,zE,zF,zG];refine bZ rfl (by simp only[ev,zD,zE]; rfl) (by exact bA) hB3 (by simp; omega) (by simp [Value.oneCell']) ?_;clear hB3; intro w11 hC hB3;replace hB1:=hB1.chg hC (by first | exact hN1_3 | exact Ne.symm hN3_1); replace hB2:=hB2.chg hC (by first | exact hN2_3 | exact Ne.symm hN3_2); replace hX:=hX.chg hC hG3;clear hC;rw [eZ (by omega)] at hB3;refine aC ?_;refine hK20 _ _ ?_;refine wp_region_lit (aA (aB) (aA (eA rfl rfl (aL (by omega) (by omega))) (aA (aD) ?_)));simp only[ev,zD,zE,zF,zG];refine aC ?_;obtain ⟨r1,r2,r3,r4⟩:=pZ hdvs hdu hi hH hU hq1 hq2 hI hz (by omega);simp only[Exit.inBlock,Exit.then];refine ⟨i,_,?_,rfl,?_,?_⟩
           · omega
           · simp only[zQ,zR,zD,zE,aK,aQ,aM,aP,zF,zG]
           ·
            simp only[zQ,zR,zD,zE];exact ⟨i,laid us i (ds.length + 1) (val 4294967296 ((us.drop i).take (ds.length + 1)) - val 4294967296 ds * q),qs.set i q,rfl,hX,hB1,hB2,hB3,by omega,by rw [r4]; exact hlu,by simpa using hlq,pX hdu,hdq.set hqB,r1,r2,r3,rfl⟩
      ·
       obtain rfl : k = 0:=by omega
       rw [List.drop_zero] at hH;obtain ⟨dq,dr⟩:=Kb (X:=val 4294967296 xs) (Y:=val 4294967296 ys) (p:=2 ^ sh) (u:=val 4294967296 us) (q:=val 4294967296 qs) (Nat.pow_pos (by omega)) (by rw [← hvvs]; exact hI) (by rw [← hvvs]; exact hH);refine wp_exit ?_;refine hK16 _ _ ?_;refine aF (fun K37 hK37=>wp_region_lit (aA (aB) ?_));simp only[ev,zD,zE,zF,zG];refine bO rfl rfl (tN _ (hB3.nat hdq (by omega) (by omega))) ?_;rintro v w7 hE ⟨A5,c5,rfl,hN5⟩;replace hB1:=hB1.ext hE; replace hB2:=hB2.ext hE; replace hB3:=hB3.ext hE; replace hX:=hX.trans hE;clear hE;simp only[ev,zD,zE,zF,zG];refine aA (aB) ?_;simp only[ev,zD,zE,zF,zG];refine bO rfl rfl (tN _ (hB1.nat hdu (by omega) (by omega))) ?_;rintro v w8 hE ⟨A6,c6,rfl,hN6⟩;replace hB1:=hB1.ext hE; replace hB2:=hB2.ext hE; replace hB3:=hB3.ext hE; (try replace hN5:=hN5.ext hE); replace hX:=hX.trans hE;clear hE;simp only[ev,zD,zE,zF,zG];refine aA (aB) ?_;simp only[ev,zD,zE,zF,zG];refine bO rfl rfl (Hu _ hN6 (Nat.le_trans (kY hdu) (by omega)) hs31) ?_;rintro v w9 hE ⟨A7,c7,rfl,hN7⟩;replace hB1:=hB1.ext hE; replace hB2:=hB2.ext hE; replace hB3:=hB3.ext hE; (try replace hN5:=hN5.ext hE); (try replace hN6:=hN6.ext hE); replace hX:=hX.trans hE;clear hE;simp only[ev,zD,zE,zF,zG];refine aA (aD) (aA (aD) ?_);simp only[ev,zD,zE,zF,zG];refine aC ?_;refine hK37 _ _ ?_;refine wp_ret ?_;try simp only[Exit.inBlock,Exit.then]
       refine mZ rfl rfl rfl ?_;try simp only[zD,zE]
       exact ⟨_,rfl,hX,_,_,rfl,by rw [← dq]; exact ⟨A5,c5,rfl,hN5⟩,by rw [← dr]; simp only[cF] at hN7 ⊢; exact ⟨A7,c7,rfl,hN7⟩⟩
end Go.Proofs.YtimjandkmfcmiaaGreatDoor
namespace Go.Proofs.YtimjandkmfcmiaaGreatDoor
open Go.RowKit Go.Lith
set_option maxRecDepth 100000
attribute [local irreducible] wpList wpQuiet dV Code.wp
theorem qG {neg : Bool} {s : ByteArray} (w : World) (hs : s.size ≤ 1000000000000) : gD Tryz.prog 57 [.agg #[.bool neg,.string s]] w (fH (R4 s)):=by
 skip
 refine ⟨Uq,?_⟩;have hX:=cD.refl w
 go_enter Tryz.func57,Tryz.ntmps57
 refine aF (fun K1 hK1=>wp_region_lit ?_);refine jA (by simp only[ev,zD,zE]; rfl) ?_;intro w1 g1 hE hg1 hB1;have hG1:=Nat.le_trans hX.size hg1;replace hX:=hX.trans hE;clear hE hg1;simp only[ev,zD,zE,zF,zG];refine aA (aD) ?_;simp only[ev,zD,zE,zF,zG];refine aC ?_;refine hK1 _ _ ?_;refine aF (fun K2 hK2=>wp_region_lit (aA (aG (c:=0) Tryz.underlying35 rfl rR rfl rfl) ?_));simp only[ev,zD,zE,zF,zG];refine aI rfl (hB1.lies1 yI rfl) ?_;simp only[ev,zD,zE,zF,zG];refine aA (nD rfl Tryz.underlying9 rfl) (aA (aX rfl rfl (aL (by omega) (by omega))) (aA (eA rfl rfl (aL (by omega) (by omega))) ?_));simp only[ev,zD,zE,zF,zG];rw [show ((s.size : Int) + 4 - 1) = ((s.size + 3 : Nat) : Int) by omega];refine aA (gS rfl rfl (by omega) (sD (n:=4) (by omega))) ?_;simp only[ev,zD,zE,zF,zG];obtain ⟨K,hK⟩ : ∃ K,K = (s.size + 3) / 4:=⟨_,rfl⟩
 rw [← hK];refine iR Tryz.underlying97 kH rfl rfl rfl (show _ = K by omega) (show _ = K by omega) (by omega) (by omega) (by omega) (by omega) ?_;intro w2 g2 hE hg2 hB2;have hG2:=Nat.le_trans hX.size hg2; have hN2_1 : g2 ≠ g1:=Nat.ne_of_gt (Nat.lt_of_lt_of_le hB1.lt hg2);replace hB1:=hB1.ext hE; replace hX:=hX.trans hE;clear hE hg2;simp only[ev,zD,zE,zF,zG];refine aA (aD) ?_;simp only[ev,zD,zE,zF,zG];refine aC ?_;rw [fT] at hB2;refine hK2 _ _ ?_;refine aF (fun K3 hK3=>aF (fun K4 hK4=>wp_region_lit (aA (aG (c:=0) Tryz.underlying35 rfl rR rfl rfl) ?_)));simp only[ev,zD,zE,zF,zG];refine aI rfl (hB1.lies1 yI rfl) ?_;simp only[ev,zD,zE,zF,zG];refine aA (nD rfl Tryz.underlying9 rfl) (aA (aB) ?_);simp only[ev,zD,zE,zF,zG];refine aC ?_;refine hK4 _ _ ?_;refine wp_block ?_;refine cX [16] [4,5,17,18,19,20,21,22,23,24,25,26,27,28,29,30,31,32,33,34,35,36,37,38,39,40,41] (fun n vs wl=>∃ (i : Nat) (os : List Nat),vs = [.int .i64 (i:Int)] ∧ (cD w wl) ∧ (eU wl g1 [.bool neg,.string s] 35) ∧ (eU wl g2 (os.map iD) 101) ∧ (i ≤ s.size) ∧ (os.length = K) ∧ (cM 4294967296 os) ∧ (∀ (j : Nat) (h : j < os.length),256 ^ (s.size - i - 4 * j) ∣ os[j]) ∧ (val 4294967296 os = 256 ^ (s.size - i) * val 256 ((m7 s).drop (s.size - i))) ∧ (n = s.size - i)) ?_ ?_
 ·
  apply Exists.intro;simp only[zQ,zR,zD,zE];exact ⟨0,List.replicate K 0,rfl,hX,hB1,hB2,by omega,by simp,fun x hx=>by rw [List.eq_of_mem_replicate hx]; decide,fun j h=>by rw [List.getElem_replicate]; exact Nat.dvd_zero _,by rw [fB,Kf (by rw [qD]; omega),Nat.mul_zero],rfl⟩
 ·
  intro n vs wr hI u;obtain ⟨i,os,rfl,hX,hB1,hB2,hi,hlo,hd,hdv,hv,hn⟩:=hI;simp only[aK,aQ,aM,aP,zF,zG];refine aF (fun K5 hK5=>wp_region_lit (aA (dS rfl rfl) ?_));simp only[ev,zD,zE,zF,zG];refine aC ?_;refine hK5 _ _ ?_;refine aF (fun K6 hK6=>?_);refine cK rfl (fun hc1=>?_) (fun hc1=>?_)
  ·
   refine wp_skip ?_;refine hK6 _ _ ?_;refine aF (fun K7 hK7=>wp_block (aF (fun K8 hK8=>wp_region_lit (aA (aB) (aA (aD) ?_)))));simp only[ev,zD,zE,zF,zG];refine aC ?_;refine hK8 _ _ ?_;refine aF (fun K9 hK9=>wp_region_lit (aA (aG (c:=0) Tryz.underlying35 rfl rR rfl rfl) ?_));simp only[ev,zD,zE,zF,zG];refine aI rfl (hB1.lies1 yI rfl) ?_;simp only[ev,zD,zE,zF,zG];refine aA (nD rfl Tryz.underlying9 rfl) (aA (eA rfl rfl (aL (by omega) (by omega))) (aA (aB) ?_));simp only[ev,zD,zE,zF,zG];refine aA (eA rfl rfl (aL (by omega) (by omega))) (aA (aD) ?_);simp only[ev,zD,zE,zF,zG];refine aC ?_;obtain ⟨p,hp⟩ : ∃ p,p + 1 + i = s.size:=⟨s.size - 1 - i,by omega⟩
   rw [show ((s.size : Int) - 1 - (i : Int)) = (p : Int) by omega];refine hK9 _ _ ?_;obtain ⟨b,hb,hpl,hbp⟩:=Ez hp;have hco:=hB2.word (show p / 4 < os.length by omega);obtain ⟨f1,f2,f3,f4⟩:=Ho (r:=p % 4) (j:=p / 4) hpl (by omega) (by omega) (by omega) hd (Df s) (by rw [show p + 1 = s.size - i by omega]; exact hdv) (by rw [show p + 1 = s.size - i by omega]; exact hv);rw [hbp,v8] at f1 f3 f4;have hb256 : b.toNat < 256:=b.toNat_lt;have f5 : b.toNat * 2 ^ (8 * (p % 4)) < 2 ^ (8 * (p % 4 + 1)):=by
    rw [show 8 * (p % 4 + 1) = 8 + 8 * (p % 4) by omega,Nat.pow_add];exact Nat.mul_lt_mul_of_pos_right hb256 (Nat.pow_pos (by omega))
   obtain ⟨c,f6⟩ : ∃ c,os[p / 4] = 2 ^ (8 * (p % 4 + 1)) * c:=by
    obtain ⟨c,hc⟩:=f2;exact ⟨c,by rw [hc,v8]⟩
   refine gZ 16 aU (by kernel_rfl) ?_;simp only[zH,zI,zJ,zK];refine aR (aB) (aR (aB) (aR (gS rfl rfl (by omega) (sD (n:=4) (by omega))) ?_));simp only[ev,zD,zE,zF,zG];refine aR (aT Tryz.underlying97 bA rfl rfl (by omega) (by omega) (eF (show _ = p / 4 by omega))) ?_;simp only[ev,zD,zE,zF,zG];refine iM rfl (fun _ hE'=>(lies1 (hE'.cell hco) eD)) ?_;simp only[ev,zD,zE,zF,zG];refine aR (aG (c:=0) Tryz.underlying35 rfl rR rfl rfl) ?_;simp only[ev,zD,zE,zF,zG];refine iM rfl (fun _ hE'=>((hB1.ext hE').lies1 yI rfl)) ?_;simp only[ev,zD,zE,zF,zG];refine aR (aB) ?_;simp only[ev,zD,zE,zF,zG];refine aR ((l1 Tryz.underlying9 rfl rfl (by omega) (by rw [Int.toNat_natCast]; exact hb))) ?_;simp only[ev,zD,zE,zF,zG];refine aR (dH Tryz.underlying101 Tryz.underlying5 rfl (eP (by omega) (by omega))) (aR (aB) (aR (dF rfl rfl (by omega) (mT (n:=4))) ?_));simp only[ev,zD,zE,zF,zG];refine aR (dX rfl rfl ((aL (by omega) (by omega)).trans (show (8 : Int) * ((p % 4 : Nat) : Int) = ((8 * (p % 4) : Nat) : Int) by omega))) (aR (vO rfl rfl (by omega) (oG (n:=8 * (p % 4)) (by omega) (by omega))) (aR (El rfl rfl ((vA (s:=8 * (p % 4 + 1)) (a:=b.toNat * 2 ^ (8 * (p % 4))) (b:=os[p / 4]) f5 f6 (by omega)).trans (show (((b.toNat * 2 ^ (8 * (p % 4))) + os[p / 4] : Nat) : Int) = ((os[p / 4] + b.toNat * 2 ^ (8 * (p % 4)) : Nat) : Int) by omega))) ?_));simp only[ev,zD,zE,zF,zG];refine aR (aT Tryz.underlying97 bA rfl rfl (by omega) (by omega) (eF (show _ = p / 4 by omega))) ?_;simp only[ev,zD,zE,zF,zG];refine dW ?_;intro w3 hE;replace hB1:=hB1.ext hE; replace hB2:=hB2.ext hE; replace hX:=hX.trans hE;clear hE;refine bZ rfl (by simp only[ev,zD,zE]; rfl) (by exact bA) hB2 (by simp; omega) (by simp [Value.oneCell']) ?_;clear hB2; intro w4 hC hB2;replace hB1:=hB1.chg hC (by first | exact hN1_2 | exact Ne.symm hN2_1); replace hX:=hX.chg hC hG2;clear hC;rw [eZ (by omega)] at hB2;refine aC ?_;refine hK7 _ _ ?_;refine wp_region_lit (aA (aX rfl rfl (aL (by omega) (by omega))) (aA (aB) ?_));simp only[ev,zD,zE,zF,zG];refine aC ?_;rw [show ((i:Int) + 1) = ((i + 1 : Nat) : Int) by omega];simp only[Exit.inBlock,Exit.then];refine ⟨s.size - (i + 1),_,?_,rfl,?_,?_⟩
   · omega
   · simp only[zQ,zR,zD,zE,aK,aQ,aM,aP,zF,zG]
   ·
    simp only[zQ,zR,zD,zE];exact ⟨i + 1,os.set (p / 4) (os[p / 4] + b.toNat * 2 ^ (8 * (p % 4))),rfl,hX,hB1,hB2,by omega,by simpa using hlo,hd.set f1,by rw [show s.size - (i + 1) = p by omega]; exact f3,by rw [show s.size - (i + 1) = p by omega]; exact f4,rfl⟩
  ·
   refine wp_exit ?_;refine hK3 _ _ ?_;refine aF (fun K10 hK10=>?_);obtain rfl : i = s.size:=by omega
   refine wp_region_lit (aA (aB) ?_);simp only[ev,zD,zE,zF,zG];refine bO rfl rfl (m8 _ (hB2.nat hd (by omega) (by omega))) ?_;rintro v w3 hE rfl;replace hB1:=hB1.ext hE; replace hB2:=hB2.ext hE; replace hX:=hX.trans hE;clear hE;simp only[ev,zD,zE,zF,zG];refine aA (aD) ?_;simp only[ev,zD,zE,zF,zG];refine aC ?_;refine hK10 _ _ ?_;refine wp_ret ?_;try simp only[Exit.inBlock,Exit.then]
   refine bT rfl rfl ?_;try simp only[zD,zE]
   exact ⟨_,rfl,hX,fH.of_trim (hB2.nat hd (n:=K) (by omega) (by omega)) (by rw [hv,Nat.sub_self,Nat.pow_zero,Nat.one_mul,List.drop_zero]; rfl)⟩
end Go.Proofs.YtimjandkmfcmiaaGreatDoor
namespace Go.Proofs.YtimjandkmfcmiaaGreatDoor
open Go.RowKit Go.Lith
attribute [local go_sem] Oper.semAt_some
def nM (n₀ Bs : Nat) (W W' : World) : Prop:=Below n₀ W W' ∧ W'.heap[Bs]? = W.heap[Bs]?
theorem nM.refl (n₀ Bs : Nat) (W : World) : nM n₀ Bs W W:=⟨Below.refl _ _,rfl⟩
theorem nM.trans {n₀ Bs : Nat} {A B C : World} (h : nM n₀ Bs A B) (k : nM n₀ Bs B C) : nM n₀ Bs A C:=⟨h.1.trans k.1,k.2.trans h.2⟩
theorem nM.box {n₀ Bs : Nat} {A B : World} (h : nM n₀ Bs A B) {v : Value} (hc : A.cell? ⟨Bs,0,none⟩ = some v) : B.cell? ⟨Bs,0,none⟩ = some v:=(World.cell?_of_block h.2).trans hc
set_option maxRecDepth 100000 in
theorem Kq (F : Fence) (n : Nat) (h7 : F.fn 124) (hro : F.round = none) (hn : 1 ≤ n) (l Bs n₀ cap : Nat) (a : Addr) (xs : List Nat) (hreach : xs.length * 8 ≤ 140737488351232) (hb : a.block < n₀) (J Jx : List (Nat × Nat) → World → Prop)
 (hY : ∀ pre x W,J pre W → pre.length < xs.length → YieldAt F (n - 1) Tryz.prog l #[.int .i64 (x.1 : Int),.int .u64 (x.2 : Int)] W fun e W' =>
  (e = .returned (.bool true) ∧ J (pre ++ [x]) W' ∧ nM n₀ Bs W W') ∨ (e = .returned (.bool false) ∧ Jx (pre ++ [x]) W'))
 (W : World) (hBs : W.cell? ⟨Bs,0,none⟩ = some (.slice (some a) xs.length cap)) (hc : ∀ j (h : j < xs.length),W.cell? (a.add j) = some (.int .u64 (xs[j] : Nat))) (h0 : J [] W) :
 CallsIn F n Tryz.prog 124 #[.func (.yield l) #[] #[],.pointer (some ⟨Bs,0,none⟩)] W fun e W'=>(∃ v,e = .returned v) ∧
  ((∃ ys : List (Nat × Nat),ys.map Prod.snd = xs.reverse ∧ J ys W') ∨ (∃ pre,True ∧ Jx pre W')):=by
 refine callsIn_of_wp Tryz.func124 rfl h7 ?_ hro;simp only[Tryz.ntmps124,List.size_toArray,List.length_cons,List.length_nil,Nat.reduceAdd,Nat.reduceSub,Array.replicate_succ,Array.replicate_zero,List.push_toArray,List.append_toArray,List.nil_append,List.cons_append]
 gi_wp2
 gi_loopw [3] (fun i wr=>∃ (k : Nat) (pre : List (Nat × Nat)),k ≤ xs.length ∧ i = .int .i64 ((k : Int) - 1) ∧ pre.length = xs.length - k ∧ pre.map Prod.snd = (xs.drop k).reverse ∧ J pre wr ∧ nM n₀ Bs W wr)
  (fun i _=>(intOf i + 1).toNat)
 case atStart=>exact ⟨xs.length,[],Nat.le_refl _,rfl,by simp,by simp,h0,nM.refl _ _ _⟩
 case round =>
  obtain ⟨k,pre,hk,rfl,hpl,hpre,hJs,hnx⟩:=hrel;have hBw : wr.cell? ⟨Bs,0,none⟩ = some (.slice (some a) xs.length cap):=hnx.box hBs;by_cases hk0 : 0 < k
  · have hlt : k - 1 < xs.length:=by omega
    have hcx : wr.cell? (a.add (k - 1)) = some (.int .u64 ((xs[k - 1] : Nat) : Int)):=(hnx.1.cell (by rw [jQ]; exact hb)).trans (hc _ hlt);obtain ⟨fn,tmps,assign,body,hy,hR⟩:=hY pre (k - 1,xs[k - 1]) wr hJs (by omega);dsimp only at hy;obtain ⟨j,rfl⟩ : ∃ j,k = j + 1:=⟨k - 1,by omega⟩
    rw [show (((j + 1 : Nat) : Int) - 1) = (j : Int) by omega];simp only[Nat.add_sub_cancel] at hy hR hcx hlt
    gi_wp2
    refine hR.mono ?_;rintro e W3 (⟨rfl,hJ3,hk3⟩ | ⟨rfl,hJx3⟩)
    · gi_wp2
      go_roundw
      case rel=>exact ⟨j,pre ++ [(j,xs[j])],by omega,by simp,by simp; omega,by rw [List.drop_eq_getElem_cons hlt,List.reverse_cons,List.map_append,hpre]; rfl,hJ3,hnx.trans hk3⟩
      case measure=>simp [intOf]
    · gi_wp2
      refine bodyPost_ret (results_none rfl _ _ _) rfl ?_;exact ⟨⟨_,rfl⟩,.inr ⟨_,trivial,hJx3⟩⟩
  · obtain rfl : k = 0:=by omega
    gi_wp2
    go_end0
    exact ⟨⟨_,rfl⟩,.inl ⟨pre,by rw [hpre]; rfl,hJs⟩⟩
set_option maxRecDepth 100000 in
theorem B3 (F : Fence) (n : Nat) (h7 : F.fn 124) (hro : F.round = none) (l Bs cap : Nat) (A : Option Addr) (J : List (Nat × Nat) → World → Prop) (W : World) (hBs : W.cell? ⟨Bs,0,none⟩ = some (.slice A 0 cap)) (h0 : J [] W) :
 CallsIn F n Tryz.prog 124 #[.func (.yield l) #[] #[],.pointer (some ⟨Bs,0,none⟩)] W fun e W'=>(∃ v,e = .returned v) ∧ J [] W':=by
 refine callsIn_of_wp Tryz.func124 rfl h7 ?_ hro;simp only[Tryz.ntmps124,List.size_toArray,List.length_cons,List.length_nil,Nat.reduceAdd,Nat.reduceSub,Array.replicate_succ,Array.replicate_zero,List.push_toArray,List.append_toArray,List.nil_append,List.cons_append]
 gi_wp2
 gi_loopw [3] (fun i wr=>i = .int .i64 (-1) ∧ J [] wr) (fun _ _=>0)
 case atStart=>exact ⟨rfl,h0⟩
 case round =>
  obtain ⟨rfl,hJs⟩:=hrel
  gi_wp2
  go_end0
  exact ⟨⟨_,rfl⟩,hJs⟩
theorem Oa (F : Fence) (n : Nat) (h5 : F.fn 97) (hro : F.round = none) (a : Option Addr) (len cap : Nat) (w : World) :
 CallsIn F n Tryz.prog 97 #[.slice a len cap] w fun e w'=>e = .returned (.func (.func 124) #[] #[.pointer (some ⟨w.heap.size,0,none⟩)]) ∧ w' = w.alloc (.cells #[.slice a len cap] 97):=by
 refine callsIn_of_wp Tryz.func97 rfl h5 ?_ hro;simp only[Tryz.ntmps97,List.size_toArray,List.length_cons,List.length_nil,Nat.reduceAdd,Nat.reduceSub,Array.replicate_succ,Array.replicate_zero,List.push_toArray,List.append_toArray,List.nil_append,List.cons_append]
 gi_wp2
 go_ret
 exact ⟨rfl,rfl⟩
theorem Fa (F : Fence) (n : Nat) (h7 : F.fn 124) (hro : F.round = none) (hn : 1 ≤ n) (Bs n₀ cap : Nat) (A : Option Addr) (xs : List Nat) (hreach : xs.length * 8 ≤ 140737488351232) (w : World) (hBs : Bs < w.heap.size) (hn₀ : n₀ ≤ w.heap.size)
 (hc : w.cell? ⟨Bs,0,none⟩ = some (.slice A xs.length cap)) (hI : ∀ (i x : Nat),xs[i]? = some x → ∃ a,A = some a ∧ w.cell? (a.add i) = some (.int .u64 (x : Int))) (hA : ∀ a,0 < xs.length → A = some a → a.block < n₀) :
 SeqStopsK F n Tryz.prog 124 #[.pointer (some ⟨Bs,0,none⟩)] (fun x : Nat × Nat=>#[Value.int .i64 (x.1 : Int),Value.int .u64 (x.2 : Int)]) (nM n₀ Bs) (fun ys=>ys.map Prod.snd = xs.reverse) (fun _=>True) xs.length w:=fun l J Jx W hW _ _ hY h0=>by
 have hc':=(hW.cell (p:=⟨Bs,0,none⟩) hBs).trans hc;rcases Nat.eq_zero_or_pos xs.length with h | h
 · obtain rfl : xs = []:=List.eq_nil_of_length_eq_zero h
   exact (B3 F n h7 hro l Bs cap A J W hc' h0).mono fun e W' ⟨he,hj⟩=>⟨he,.inl ⟨[],rfl,hj⟩⟩
 · obtain ⟨a,rfl,_⟩:=hI 0 xs[0] (List.getElem?_eq_getElem h)
   refine Kq F n h7 hro hn l Bs n₀ cap a xs hreach (hA a h rfl) J Jx hY W hc' (fun j hj=>?_) h0;obtain ⟨a',e,hcl⟩:=hI j xs[j] (List.getElem?_eq_getElem hj);cases e;exact (hW.cell (by rw [jQ]; exact Nat.lt_of_lt_of_le (hA a h rfl) hn₀)).trans hcl
theorem Sa {A : Option Addr} {n cap : Nat} (w : World) : gD Tryz.prog 97 [.slice A n cap] w (fun v w'=>∃ g,v = .func (.func 124) #[] #[.pointer (some ⟨g,0,none⟩)] ∧ w.heap.size ≤ g ∧ eU w' g [.slice A n cap] 97):=by
 refine ⟨Vd,(callsIn_wide (n:=2)).1 ((Oa Fence.wide 2 trivial rfl A n cap w).mono ?_)⟩;rintro e w' ⟨rfl,rfl⟩;exact ⟨_,rfl,(cD.refl w).alloc _,_,rfl,Nat.le_refl _,gK w _ _⟩
end Go.Proofs.YtimjandkmfcmiaaGreatDoor
namespace Go.Proofs.YtimjandkmfcmiaaGreatDoor
open Go.RowKit Go.Lith
set_option maxRecDepth 100000
attribute [local irreducible] wpList wpQuiet dV Code.wp
attribute [local go_sem] Oper.semAt_some
theorem Ob : (Tryz.prog.info? 5).map (fun i=>(i.zero,i.size,i.bytes)) = some (some (.int .u8 0),1,1):=by kernel_rfl
theorem wL {W w1 : World} {tmp : Obj} {v v' : Value} {base size k g g3 : Nat} {e t : TypeId} {xs cs : List Value} (hB : eU W g cs t) (hte : t ≠ e) (hr : W.ownsRow base e size v k xs) (hg : (W.alloc tmp).grownBy w1 v.ownBlock) (hne : g ≠ g3) : (w1.setCell ⟨g3,0,none⟩ v').heap[g]? = W.heap[g]?:=by
 have h1 : some g ≠ v.ownBlock:=by
  rcases hr.2 with ⟨rfl,_⟩ | ⟨g',cap,cur,rfl,_,hgb,_⟩
  · simp [Value.ownBlock]
  ·
   intro h;obtain rfl : g = g':=by simpa [Value.ownBlock] using h
   rw [hB] at hgb;cases hgb;exact hte rfl
 exact ((Below.heap_setCell w1 ⟨g3,0,none⟩ v' g hne).trans (hg.block g (by simp; have:=hB.lt; omega) h1)).trans (Below.heap_alloc W tmp g hB.lt)
theorem m9 {A : Option Addr} {xs : List Nat} {na cap : Nat} {neg : Bool} (w : World) (hS : cG w A na cap xs) (hl : xs.length ≤ 100000000000) : gD Tryz.prog 59 [.slice A na cap,.bool neg] w (fun v _=>v = W (wC neg (val 4294967296 xs))):=by
 skip
 refine ⟨Us,?_⟩;have hX:=cD.refl w;obtain rfl:=hS.eq;have hlt:=l7 xs;have hle:=hS.le;refine (callsIn_wide (n:=4)).1 ?_;refine callsIn_of_wp_marks Tryz.func59 rfl trivial ?_ rfl;simp only[Tryz.ntmps59,List.size_toArray,List.length_cons,List.length_nil,Nat.reduceAdd,Nat.reduceSub,Array.replicate_succ,Array.replicate_zero,List.push_toArray,List.append_toArray,List.nil_append,List.cons_append];refine wpIn_wide.2 (aF (fun K1 hK1=>wp_region_lit ?_));refine fR cV rfl ?_;intro w1 g1 hE hg1 hB1;have hG1:=Nat.le_trans hX.size hg1;replace hX:=hX.trans hE;clear hE hg1;simp only[ev,zD,zE,zF,zG];refine aC ?_;refine hK1 _ _ ?_;refine aF (fun K2 hK2=>wp_region_lit (aA (aB) ?_));simp only[ev,zD,zE,zF,zG];refine bO rfl rfl (m8 _ (hS.ext hX)) ?_;rintro v w2 hE rfl;replace hB1:=hB1.ext hE; replace hX:=hX.trans hE;clear hE;simp only[ev,zD,zE,zF,zG];refine aA (aD) ?_;simp only[ev,zD,zE,zF,zG];refine aC ?_;obtain ⟨ys,hys⟩ : ∃ ys,ys = trim xs:=⟨_,rfl⟩
 rw [← hys] at hlt ⊢;refine hK2 _ _ ?_;refine aF (fun K3 hK3=>wp_region_lit (aA (aB) (aA (bM rfl Tryz.underlying97 rfl) (aA (dX rfl rfl (aL (by omega) (by omega))) ?_))));simp only[ev,zD,zE,zF,zG];refine iR Tryz.underlying139 yH rfl rfl rfl (show _ = 0 by omega) (show _ = 4 * ys.length by omega) (by omega) (by omega) (by omega) (by omega) ?_;intro w3 g2 hE hg2 hB2;have hG2:=Nat.le_trans hX.size hg2; have hN2_1 : g2 ≠ g1:=Nat.ne_of_gt (Nat.lt_of_lt_of_le hB1.lt hg2);replace hB1:=hB1.ext hE; replace hX:=hX.trans hE;clear hE hg2;simp only[ev,zD,zE,zF,zG];refine fR Js rfl ?_;intro w4 g3 hE hg3 hB3;have hG3:=Nat.le_trans hX.size hg3; have hN3_1 : g3 ≠ g1:=Nat.ne_of_gt (Nat.lt_of_lt_of_le hB1.lt hg3); have hN3_2 : g3 ≠ g2:=Nat.ne_of_gt (Nat.lt_of_lt_of_le hB2.lt hg3);replace hB1:=hB1.ext hE; replace hB2:=hB2.ext hE; replace hX:=hX.trans hE;clear hE hg3;simp only[ev,zD,zE,zF,zG];refine bZ rfl (by simp only[ev,zD,zE]; rfl) (by exact G7) hB3 (by simp) (by simp [Value.oneCell']) ?_;clear hB3; intro w5 hC hB3;replace hB1:=hB1.chg hC (by first | exact hN1_3 | exact Ne.symm hN3_1); replace hB2:=hB2.chg hC (by first | exact hN2_3 | exact Ne.symm hN3_2); replace hX:=hX.chg hC hG3;clear hC;simp only[a8,zH,zI,zJ,zK,zL,zM,zN,zO,zP,Nat.reduceAdd] at hB3;refine aC ?_;refine hK3 _ _ ?_;refine aF (fun K4 hK4=>aF (fun K5 hK5=>wp_region_lit (aA (aB) ?_)));simp only[ev,zD,zE,zF,zG];refine bO rfl rfl (Sa _) ?_;rintro v w6 hE ⟨g4,rfl,hg4,hB4⟩;have hG4:=Nat.le_trans hX.size hg4; have hN4_1 : g4 ≠ g1:=Nat.ne_of_gt (Nat.lt_of_lt_of_le hB1.lt hg4); have hN4_2 : g4 ≠ g2:=Nat.ne_of_gt (Nat.lt_of_lt_of_le hB2.lt hg4); have hN4_3 : g4 ≠ g3:=Nat.ne_of_gt (Nat.lt_of_lt_of_le hB3.lt hg4);replace hB1:=hB1.ext hE; replace hB2:=hB2.ext hE; replace hB3:=hB3.ext hE; replace hX:=hX.trans hE;clear hE hg4;simp only[ev,zD,zE,zF,zG];refine aC ?_;refine hK5 _ _ ?_;refine wp_block ?_;refine (wpIn_wide (n:=4)).1 ?_;have hbase : w.heap.size ≤ w6.heap.size:=hX.size;obtain ⟨n0,hn0⟩ : ∃ n0,n0 = w.heap.size:=⟨_,rfl⟩
 have hT : cG w6 A ys.length cap ys:=(((hS.ext hX).take (trim xs).length).as (fS xs).symm |> fun h=>by rw [← fS,← hys] at h; exact h)
 have hA : ∀ a,0 < ys.length → A = some a → a.block < w.heap.size:=fun a h0 e=>by
  obtain ⟨a',e',hc⟩:=hS.row 0 (xs[0]'(by omega)) (List.getElem?_eq_getElem (by omega));rw [e] at e'; cases e';have:=World.block_lt_of_cell? _ _ hc;rwa [jQ] at this
 refine wpIn_rangeFunc_ownG (F:=Fence.wide) rfl (by omega) (gf:=124) (lb:=#[.pointer (some ⟨g4,0,none⟩)]) rfl trivial (enters_of Tryz.func124 (by kernel_rfl) rfl)
  (Fa Fence.wide 3 trivial rfl (by omega) g4 w.heap.size cap A ys (by omega) w6 hB4.lt hX.size (hB4.cell rfl) hT.row hA) nM.trans (fun W l o o' hl ho _ _=>⟨belowK_b (w:=w6) hX.size W l o o' hl ho ‹_› ‹_›,World.putObj_heap_other (by have:=hB4.lt; omega)⟩) (Below.refl _ _) (fun _=>rfl)
  (fun pre W=>((∃ v,Boxed W g3 139 v ∧ W.ownsRow w.heap.size 5 1 v (Dh pre).length ((Dh pre).map Nu) ∧ True) ∧ eU W g1 [.bool false,.string ⟨#[]⟩] 35 ∧ eU W g4 [.slice A ys.length cap] 97) ∧ Below w.heap.size w W)
  (fun _ _ _=>False)
  (OwnFrom.and (OwnFrom.and (Own.from (holdsRow_own w.heap.size g3 139 5 1 (fun pre=>(Dh pre).length) (fun pre=>(Dh pre).map Nu) (fun _ _=>True)) _) (Own.from (fun s X Y row hs hg hr=>⟨(grownBy_keeps_cells hg hr hs.1 rfl).trans hs.1,(grownBy_keeps_cells hg hr hs.2 rfl).trans hs.2⟩) _)) (ownFrom_below (Nat.le_refl _) hX.size))
  (fun _ _ _ _ _ hs _ _=>hs)
  ⟨⟨⟨_,hB3,⟨rfl,.inr ⟨g2,4 * ys.length,_,rfl,hG2,hB2,Nat.zero_le _,by show _ ≤ 9223372036854775807; omega,by simp,by simp [Dh]⟩⟩,trivial⟩,hB1,hB4⟩,hX⟩
  (fun x=>{ tmps:=#[.slice A ys.length cap,.bool neg,undef,undef,.pointer (some ⟨g1,0,none⟩),.pointer (some ⟨g3,0,none⟩),undef,.int .u64 (x.2 : Int),undef,.slice A xs.length cap,.slice A ys.length cap,.slice A ys.length cap,.int .i64 (ys.length : Int),.int .i64 (4 * (ys.length : Int)),.slice (some ⟨g2,0,none⟩) 0 (4 * ys.length),.slice A ys.length cap,.func (.func 124) #[] #[.pointer (some ⟨g4,0,none⟩)],.int .i64 (x.1 : Int),.int .u64 (x.2 : Int),undef,undef,undef,undef,undef,undef,undef,undef,undef,undef,undef,undef,undef,undef,undef,undef,undef,undef,undef,undef,undef,undef,undef,undef],defers:=[] }) ?assign ?body ?done ?stop
 case assign =>
  intro l x W K hK;clear hys
  gi_wp2
  exact hK
 case stop =>
  rintro D c pre W _ _ h _;exact h.elim
 case body =>
  rintro l pre x W ⟨⟨⟨v,hv,hrow,_⟩,hB1',hB4'⟩,hB⟩ hlt;have hc:=hv.cell;have hwl : (Dh pre).length ≤ 4 * pre.length:=Nat.le_of_eq (wB pre);clear hys;obtain ⟨i0,hi,hz0,hz1,hz2⟩:=info_parts Ob
  gi_wp2_with (gi_at_builtin; refine wpListIn_append_own _ rfl _ _ 139 rfl w.heap.size 5 i0 (.int .u8 0) 1 1 Tryz.underlying139 hi hz0 hz1 hz2 rfl (by decide) _ _ _ rfl (hrow.alloc _) ⟨W.heap.size,0,none⟩ 4 4 [.int .u8 ((x.2 : Int) / 16777216 % 256),.int .u8 ((x.2 : Int) / 65536 % 256),.int .u8 ((x.2 : Int) / 256 % 256),.int .u8 ((x.2 : Int) % 256)] rfl rfl ((gK W _ 5).row 0) (by simp [Value.oneCell']) (by show _ ≤ 9223372036854775807; omega) (by omega) (by have:=hB.size; simp; omega) ?_; intro v' w1 hown' hgrow _; obtain ⟨g',cap',rfl⟩:=ownsRow_succ hown'; obtain ⟨hv1,hv2,hr2,hk2,hb2⟩:=hv.appended (by decide) hrow hB.size hG3 hown' hgrow; have hc1:=hv1.cell; have hf1:=hv1.frozen)
  have e1:=wL hB1' (by decide) hrow hgrow (Ne.symm hN3_1) (v':=.slice (some ⟨g',0,none⟩) ((Dh pre).length + 3 + 1) cap');have e4:=wL hB4' (by decide) hrow hgrow hN4_3 (v':=.slice (some ⟨g',0,none⟩) ((Dh pre).length + 3 + 1) cap');refine ⟨hk2.from _,⟨hb2,e4⟩,⟨⟨_,hv2,?_,trivial⟩,e1.trans hB1',e4.trans hB4'⟩,hB.trans hb2⟩;rw [Kh,List.length_append,List.map_append];have e : (wb x.2).map Nu = [.int .u8 ((x.2 : Int) / 16777216 % 256),.int .u8 ((x.2 : Int) / 65536 % 256),.int .u8 ((x.2 : Int) / 256 % 256),.int .u8 ((x.2 : Int) % 256)]:=by simp [wb,UInt8.toNat_ofNat']
  rw [e];exact hr2
 rintro D ls W hD hls ⟨⟨⟨v,hv,hrow,_⟩,hB1',_⟩,hX'⟩ hK';replace hD:=Nat.le_trans hX.size hD;clear hB1 hB2 hB3 hB4 hX hG2 hG4 hN2_1 hN3_2 hN4_1 hN4_2 hN4_3 hbase hT;have hB1:=hB1';have hB3 : eU W g3 [v] 139:=hv;have hX : cD w W:=hX';have hK : Kg W D:=⟨hK'⟩
 have hDg1:=hK.ne hB1;have hlb : (Dh ls).length ≤ 1000000000000000:=by
  have:=congrArg List.length hls;rw [List.length_map,List.length_reverse] at this;rw [wB];omega
 have hbs : iX (gB (Dh ls)) = cW (wC neg (val 4294967296 xs)):=by
  have e : Dh ls = ys.reverse.flatMap wb:=by rw [← hls,List.flatMap_map]; rfl
  have hd : cM 4294967296 ys:=by rw [hys]; exact hS.digs.trim
  rw [e,E5 hd neg,hys,nH]
 dsimp only;refine hK4 _ _ ?_;refine aF (fun K6 hK6=>wp_region_lit ?_);refine aI rfl (hB3.lies1 Nk rfl) ?_;simp only[ev,zD,zE,zF,zG];refine oX (wA Tryz.underlying139 Tryz.underlying5 Tryz.underlying9 rfl hrow) ?_;simp only[ev,zD,zE,zF,zG];refine iQ rfl rfl (E9 hlb) ?_;intro w7 hE;replace hB1:=hB1.ext hE; replace hB3:=hB3.ext hE; (try replace hK:=hK.ext hE); replace hX:=hX.trans hE;clear hE;simp only[ev,zD,zE,zF,zG];refine aA (aD) ?_;simp only[ev,zD,zE,zF,zG];refine aC ?_;rw [hbs];refine hK6 _ _ ?_;refine aF (fun K7 hK7=>?_);cases neg
 ·
  refine wp_region_lit (aA (aB) (aA (aB) ?_));simp only[ev,zD,zE,zF,zG];refine bD rfl ?_;simp only[ev,zD,zE,zF,zG];refine bD rfl ?_;simp only[ev,zD,zE,zF,zG];refine aA (cU rfl) (aA (aB) (aA (l6 rfl rfl) ?_));simp only[ev,zD,zE,zF,zG];refine bZ rfl (by simp only[ev,zD,zE]; rfl) (by exact aH) hB1 (by simp) (by simp [Value.oneCell']) ?_;clear hB1; intro w8 hC hB1;replace hB3:=hB3.chg hC (by first | exact hN3_1 | exact Ne.symm hN1_3); (try replace hK:=hK.chg hC (by first | assumption | rfl)); replace hX:=hX.chg hC hG1;clear hC;simp only[a8,zH,zI,zJ,zK,zL,zM,zN,zO,zP,Nat.reduceAdd] at hB1;refine aC ?_;refine hK7 _ _ ?_;refine wp_ret ?_;try simp only[Exit.inBlock,Exit.then]
  refine Vj hK ?_;replace hB3:=hB3.putD hK (o:=.deferred none); replace hB1:=hB1.putD hK (o:=.deferred none); replace hX:=hX.putD hD (o:=.deferred none);refine bT rfl ⟨_,rfl,(hB1.lies aY aH rfl rfl)⟩ ?_;try simp only[zD,zE]
  exact ⟨_,rfl,hX,by simp [Lith.W,Bu,wD]⟩
 ·
  refine wp_region_lit (aA (aB) (aA (aB) ?_));simp only[ev,zD,zE,zF,zG];refine aW rfl (aA (aB) ?_);simp only[ev,zD,zE,zF,zG];refine aW rfl (aA (Qy Tryz.underlying9 rfl rfl) (aA (cQ rfl) (aA (aB) ?_)));simp only[ev,zD,zE,zF,zG];refine aA (l6 rfl rfl) ?_;simp only[ev,zD,zE,zF,zG];refine bZ rfl (by simp only[ev,zD,zE]; rfl) (by exact aH) hB1 (by simp) (by simp [Value.oneCell']) ?_;clear hB1; intro w8 hC hB1;replace hB3:=hB3.chg hC (by first | exact hN3_1 | exact Ne.symm hN1_3); (try replace hK:=hK.chg hC (by first | assumption | rfl)); replace hX:=hX.chg hC hG1;clear hC;simp only[a8,zH,zI,zJ,zK,zL,zM,zN,zO,zP,Nat.reduceAdd] at hB1;refine aC ?_;refine hK7 _ _ ?_;refine wp_ret ?_;try simp only[Exit.inBlock,Exit.then]
  refine Vj hK ?_;replace hB3:=hB3.putD hK (o:=.deferred none); replace hB1:=hB1.putD hK (o:=.deferred none); replace hX:=hX.putD hD (o:=.deferred none);refine bT rfl ⟨_,rfl,(hB1.lies aY aH rfl rfl)⟩ ?_;try simp only[zD,zE]
  exact ⟨_,rfl,hX,by simp [Lith.W,Bu,wD]⟩
end Go.Proofs.YtimjandkmfcmiaaGreatDoor
