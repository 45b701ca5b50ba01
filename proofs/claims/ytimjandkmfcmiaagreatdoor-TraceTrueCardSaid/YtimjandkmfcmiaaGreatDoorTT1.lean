/-
  Texts of one claim, laid together: RayT, JoinTraceTrue.
-/
import Derived.Test.YtimjandkmfcmiaaGreatDoorCards
import Derived.Test.YtimjandkmfcmiaaGreatDoorTie
import Derived.Deep.DeepHandedRow
import Derived.Lib.LaidTab
import Derived.Test.YtimjandkmfcmiaaGreatDoorB7
set_option maxHeartbeats 8000000
set_option linter.unusedSimpArgs false
set_option linter.unusedVariables false
set_option linter.unusedSectionVars false
namespace Go.Proofs.YtimjandkmfcmiaaGreatDoor
open Go.RowKit Go.Lith
set_option maxRecDepth 100000
attribute [local irreducible] wpList wpQuiet wpMix wpMixH wpTree Code.wp
theorem TraceTrue_c {kind bits : Int} [Iw kind] [Iw bits] {q : Nat} {r : Ray} [IR r] {HA ZA PA : Option Addr} {HN Hc ZN Zc PN Pc : Nat} {hz zs : List Int} {ss : List P3} (w : World) (hH : IntsAt w HA HN hz) (hZ : IntsAt w ZA ZN zs) (hP : LAt ptC 3 w PA PN ss) (hq : q < 256) : Does Tryz.prog 4 [.agg #[.int .i64 kind,.int .i64 bits,.slice HA HN Hc,.int .u8 (q : Int),.slice ZA ZN Zc,.int .i64 r.s.x,.int .i64 r.s.y,.int .i64 r.s.z,.int .i64 r.w,.int .i64 r.d.x,.int .i64 r.d.y,.int .i64 r.d.z,.slice PA PN Pc]] w (fun v _=>v = .bool true):=by
 refine ⟨en_4,?_⟩
 have m:=Mem.refl w
 go_enter Tryz.func4,Tryz.ntmps4
 refine c_seq fun K1 k1=>wp_region_lit (mboxA m rfl ?_)
 clear m; intro g1 u m
 refine n_val (r_assign) (n_nil (k1 _ _ ?_))
 refine c_seq fun K2 k2=>wp_region_lit ?_
 simp only [ev,zD,zE,zF,zG]
 refine mcallP m rfl rfl (sanity_c) ?_
 clear m; intro u m
 refine n_val (r_assign) (n_nil (k2 _ _ ?_))
 refine c_seq fun K3 k3=>wp_region_lit ?_
 simp only [ev,zD,zE,zF,zG]
 refine n_load rfl ((m.b 0 rfl).full agg_28 cells_28) ?_
 simp only [ev,zD,zE,zF,zG]
 refine n_call rfl rfl (shown_c (kind:=kind) (bits:=bits) (r:=r) (zs:=zs) (ss:=ss) (hz:=hz) _ (hH.ext m.ext) (hZ.ext m.ext) (hP.ext m.ext) hq) ?_
 rintro v u e ⟨A7,n7,cap7,hs,L,rfl,hn7,hM,hcov⟩; replace m:=m.plus hM; clear hM e; simp only [List.cons_append,List.nil_append] at m
 obtain ⟨F,hF⟩ : ∃ F,F = chunksR (1 + q % 12) 30 (baseT kind bits hz):=⟨_,rfl⟩
 have hfn : Fine F:=by rw [hF]; exact fine_chunks
 rw [← hF] at hcov
 have hcl:=hcov.len
 rw [shown_len] at hcl
 have e7 : n7 = F.length:=hn7.trans hcl
 subst e7
 have hfs:=hfn.shown ss (bsR F.length zs)
 have hfl:=hfn.len
 refine n_val (r_assign) (n_nil (k3 _ _ ?_))
 refine c_seq fun K4 k4=>?_
 simp only [ev,zD,zE,zF,zG]
 refine mtree m [true,true,true] (.take 0 (.take 1 (.take 2 (.take 3 (.take 4 (.take 5 (.two 6 (.two 7 (.one 8 (.one 9 .nil)) 8 (.one 7 (.one 9 .nil))) 8 (.one 6 (.one 7 (.one 9 .nil)))))))))) follows_mixed (by kernel_rfl) (panic_put (fun _ _ _ _ _ h=>h)) ?_
 clear m; intro u m
 refine t_take (by simp only [zS,zT,zU,zV]; rfl) (h_val (r_fieldAddr (c:=6) Tryz.underlying28 rfl cells_25 rfl rfl) (h_nil (t_take (by simp only [zS,zT,zU,zV]; rfl) ?_)))
 simp only [ev,zD,zE,zF,zG]
 refine h_load rfl (fun u m=>((m.b 2 rfl).lies agg_25 cells_25 rfl rfl)) ?_
 simp only [ev,zD,zE,zF,zG,zH,zI,zJ,zK,Nat.zero_add,Nat.reduceAdd,Nat.reduceMul,Int.reduceToNat]
 refine h_nil (t_take (by simp only [zS,zT,zU,zV]; rfl) (h_val (r_move) (h_nil (t_take (by simp only [zS,zT,zU,zV]; rfl) ?_))))
 simp only [ev,zD,zE,zF,zG]
 refine h_load rfl (fun u m=>((m.b 2 rfl).full agg_28 cells_28)) ?_
 simp only [ev,zD,zE,zF,zG]
 refine h_nil (t_take (by simp only [zS,zT,zU,zV]; rfl) (h_val (r_move) (h_nil (t_take (by simp only [zS,zT,zU,zV]; rfl) (h_val (r_lenS rfl Tryz.underlying29 rfl) (h_nil ?_))))))
 simp only [ev,zD,zE,zF,zG]
 refine t_two (by simp only [zS,zT,zU,zV]; rfl) (by simp only [zS,zT,zU,zV]; rfl) ?_ ?_
 ·
  refine n_call rfl rfl (bounds_c (n0:=F.length) (kind:=kind) (bits:=bits) (r:=r) (zs:=zs) (ss:=ss) (hz:=hz) _ (hH.ext m.ext) (hZ.ext m.ext) (hP.ext m.ext) hq hfl) ?_
  rintro v u e ⟨A8,cap8,rfl,hN⟩; replace m:=m.newO e hN; clear e hN
  refine n_nil ?_
  refine ⟨m.sel [false,true,true,true],?_⟩
  simp only [ev,zD,zE,zF,zG]
  refine t_two (by simp only [zS,zT,zU,zV]; rfl) (by simp only [zS,zT,zU,zV]; rfl) ?_ ?_
  ·
   refine n_call rfl rfl (Ask_c (r:=r) (xs:=(shownR ss (bsR F.length zs) F)) (bs:=(bsR F.length zs)) _ (m.lists hcov 1 2 rfl rfl) (ints_ow (m.o 0 rfl) bs_i64) (by omega) (by omega) hfs.2.1) ?_
   rintro v u e ⟨A9,n9,cap9,rfl,hna9,hN⟩; replace m:=m.newO e hN; clear e hN
   refine n_nil ?_
   refine ⟨m.sel [false,false,true,true,true],?_⟩
   refine t_one (by simp only [zS,zT,zU,zV]; rfl) ?_
   simp only [ev,zD,zE,zF,zG]
   refine malloc m zero_39 rfl ?_
   clear m; intro g2 u m
   refine n_nil ?_
   refine ⟨m.sel [false,false,false,true,true,true],?_⟩
   refine t_one (by simp only [zS,zT,zU,zV]; rfl) ?_
   simp only [ev,zD,zE,zF,zG]
   refine mstoreA m 0 rfl rfl rfl cells_39 (leT rfl) rfl ?_
   clear m; intro u m; simp only [over,zH,zI,zJ,zK,zL,zM,zN,zO,zP,zF,zG,Nat.reduceAdd] at m
   refine n_nil ?_
   refine ⟨m.sel [false,false,false,true,true,true],?_⟩
   refine t_nil (k4 _ _ ?_)
   refine c_seq fun K5 k5=>wp_region_lit (n_load rfl ((m.b 5 rfl).full agg_28 cells_28) ?_)
   simp only [ev,zD,zE,zF,zG]
   refine mcall m rfl rfl (hit_c (kind:=kind) (bits:=bits) (r:=r) (zs:=zs) (ss:=ss) (hz:=hz) _ (hH.ext m.ext) (hZ.ext m.ext) (hP.ext m.ext) hq) ?_
   clear m; rintro v u m rfl
   simp only [ev,zD,zE,zF,zG]
   rw [← hF]
   refine n_val (r_move) (n_val (r_extract rfl rfl) (n_val (r_extract rfl rfl) ?_))
   simp only [ev,zD,zE,zF,zG]
   refine malloc m zero_43 rfl ?_
   clear m; intro g3 u m
   simp only [ev,zD,zE,zF,zG]
   refine mstoreA m 0 rfl rfl rfl cells_43 (leT rfl) rfl ?_
   clear m; intro u m; simp only [over,zH,zI,zJ,zK,zL,zM,zN,zO,zP,zF,zG,Nat.reduceAdd] at m
   refine n_val (r_assign) (n_nil (k5 _ _ ?_))
   refine c_seq fun K6 k6=>wp_region_lit (n_val (r_move) (n_val (r_move) (n_want rfl ?_)))
   simp only [ev,zD,zE,zF,zG]
   refine n_load rfl ((m.b 1 rfl).full agg_39 cells_39) ?_
   simp only [ev,zD,zE,zF,zG]
   refine n_want rfl (n_load rfl ((m.b 0 rfl).full agg_43 cells_43) ?_)
   simp only [ev,zD,zE,zF,zG]
   refine n_want rfl (n_val (r_move) (n_want rfl ?_))
   simp only [ev,zD,zE,zF,zG]
   refine mcallP m rfl rfl (contains_c (a:=askR r (shownR ss (bsR F.length zs) F) (bsR F.length zs)) (h:=firstN r F.flatten) hna9 (Fine.right ss zs r) (bq_ask (hfn.shownIt ss zs) bs_i64).1 (bq_ask (hfn.shownIt ss zs) bs_i64).2 (bq_first hfn.it)) ?_
   clear m; intro u m
   refine n_val (r_pickT rfl) (n_val (r_assign) (n_nil (k6 _ _ ?_)))
   refine wp_ret ?_
   simp only [ev,zD,zE,zF,zG]
   try simp only [Exit.inBlock,Exit.then,if_true]
   refine fin1 rfl rfl ?_
   try simp only [zD,zE]
   exact ⟨_,rfl,m.ext,rfl⟩
  ·
   refine malloc m zero_39 rfl ?_
   clear m; intro g2 u m
   refine n_nil ?_
   refine ⟨m.sel [false,false,true,true,true],?_⟩
   refine t_one (by simp only [zS,zT,zU,zV]; rfl) ?_
   simp only [ev,zD,zE,zF,zG]
   refine n_call rfl rfl (Ask_c (r:=r) (xs:=(shownR ss (bsR F.length zs) F)) (bs:=(bsR F.length zs)) _ (m.lists hcov 2 3 rfl rfl) (ints_ow (m.o 1 rfl) bs_i64) (by omega) (by omega) hfs.2.1) ?_
   rintro v u e ⟨A9,n9,cap9,rfl,hna9,hN⟩; replace m:=m.newO e hN; clear e hN
   refine n_nil ?_
   refine ⟨m.sel [false,false,false,true,true,true],?_⟩
   refine t_one (by simp only [zS,zT,zU,zV]; rfl) ?_
   simp only [ev,zD,zE,zF,zG]
   refine mstoreA m 1 rfl rfl rfl cells_39 (leT rfl) rfl ?_
   clear m; intro u m; simp only [over,zH,zI,zJ,zK,zL,zM,zN,zO,zP,zF,zG,Nat.reduceAdd] at m
   refine n_nil ?_
   refine ⟨m.sel [false,false,false,true,true,true],?_⟩
   refine t_nil (k4 _ _ ?_)
   refine c_seq fun K7 k7=>wp_region_lit (n_load rfl ((m.b 5 rfl).full agg_28 cells_28) ?_)
   simp only [ev,zD,zE,zF,zG]
   refine mcall m rfl rfl (hit_c (kind:=kind) (bits:=bits) (r:=r) (zs:=zs) (ss:=ss) (hz:=hz) _ (hH.ext m.ext) (hZ.ext m.ext) (hP.ext m.ext) hq) ?_
   clear m; rintro v u m rfl
   simp only [ev,zD,zE,zF,zG]
   rw [← hF]
   refine n_val (r_move) (n_val (r_extract rfl rfl) (n_val (r_extract rfl rfl) ?_))
   simp only [ev,zD,zE,zF,zG]
   refine malloc m zero_43 rfl ?_
   clear m; intro g3 u m
   simp only [ev,zD,zE,zF,zG]
   refine mstoreA m 0 rfl rfl rfl cells_43 (leT rfl) rfl ?_
   clear m; intro u m; simp only [over,zH,zI,zJ,zK,zL,zM,zN,zO,zP,zF,zG,Nat.reduceAdd] at m
   refine n_val (r_assign) (n_nil (k7 _ _ ?_))
   refine c_seq fun K8 k8=>wp_region_lit (n_val (r_move) (n_val (r_move) (n_want rfl ?_)))
   simp only [ev,zD,zE,zF,zG]
   refine n_load rfl ((m.b 2 rfl).full agg_39 cells_39) ?_
   simp only [ev,zD,zE,zF,zG]
   refine n_want rfl (n_load rfl ((m.b 0 rfl).full agg_43 cells_43) ?_)
   simp only [ev,zD,zE,zF,zG]
   refine n_want rfl (n_val (r_move) (n_want rfl ?_))
   simp only [ev,zD,zE,zF,zG]
   refine mcallP m rfl rfl (contains_c (a:=askR r (shownR ss (bsR F.length zs) F) (bsR F.length zs)) (h:=firstN r F.flatten) hna9 (Fine.right ss zs r) (bq_ask (hfn.shownIt ss zs) bs_i64).1 (bq_ask (hfn.shownIt ss zs) bs_i64).2 (bq_first hfn.it)) ?_
   clear m; intro u m
   refine n_val (r_pickT rfl) (n_val (r_assign) (n_nil (k8 _ _ ?_)))
   refine wp_ret ?_
   simp only [ev,zD,zE,zF,zG]
   try simp only [Exit.inBlock,Exit.then,if_true]
   refine fin1 rfl rfl ?_
   try simp only [zD,zE]
   exact ⟨_,rfl,m.ext,rfl⟩
 ·
  refine malloc m zero_39 rfl ?_
  clear m; intro g2 u m
  refine n_nil ?_
  refine ⟨m.sel [false,true,true,true],?_⟩
  refine t_one (by simp only [zS,zT,zU,zV]; rfl) ?_
  simp only [ev,zD,zE,zF,zG]
  refine n_call rfl rfl (bounds_c (n0:=F.length) (kind:=kind) (bits:=bits) (r:=r) (zs:=zs) (ss:=ss) (hz:=hz) _ (hH.ext m.ext) (hZ.ext m.ext) (hP.ext m.ext) hq hfl) ?_
  rintro v u e ⟨A8,cap8,rfl,hN⟩; replace m:=m.newO e hN; clear e hN
  refine n_nil ?_
  refine ⟨m.sel [false,false,true,true,true],?_⟩
  refine t_one (by simp only [zS,zT,zU,zV]; rfl) ?_
  simp only [ev,zD,zE,zF,zG]
  refine n_call rfl rfl (Ask_c (r:=r) (xs:=(shownR ss (bsR F.length zs) F)) (bs:=(bsR F.length zs)) _ (m.lists hcov 2 3 rfl rfl) (ints_ow (m.o 0 rfl) bs_i64) (by omega) (by omega) hfs.2.1) ?_
  rintro v u e ⟨A9,n9,cap9,rfl,hna9,hN⟩; replace m:=m.newO e hN; clear e hN
  refine n_nil ?_
  refine ⟨m.sel [false,false,false,true,true,true],?_⟩
  refine t_one (by simp only [zS,zT,zU,zV]; rfl) ?_
  simp only [ev,zD,zE,zF,zG]
  refine mstoreA m 2 rfl rfl rfl cells_39 (leT rfl) rfl ?_
  clear m; intro u m; simp only [over,zH,zI,zJ,zK,zL,zM,zN,zO,zP,zF,zG,Nat.reduceAdd] at m
  refine n_nil ?_
  refine ⟨m.sel [false,false,false,true,true,true],?_⟩
  refine t_nil (k4 _ _ ?_)
  refine c_seq fun K9 k9=>wp_region_lit (n_load rfl ((m.b 5 rfl).full agg_28 cells_28) ?_)
  simp only [ev,zD,zE,zF,zG]
  refine mcall m rfl rfl (hit_c (kind:=kind) (bits:=bits) (r:=r) (zs:=zs) (ss:=ss) (hz:=hz) _ (hH.ext m.ext) (hZ.ext m.ext) (hP.ext m.ext) hq) ?_
  clear m; rintro v u m rfl
  simp only [ev,zD,zE,zF,zG]
  rw [← hF]
  refine n_val (r_move) (n_val (r_extract rfl rfl) (n_val (r_extract rfl rfl) ?_))
  simp only [ev,zD,zE,zF,zG]
  refine malloc m zero_43 rfl ?_
  clear m; intro g3 u m
  simp only [ev,zD,zE,zF,zG]
  refine mstoreA m 0 rfl rfl rfl cells_43 (leT rfl) rfl ?_
  clear m; intro u m; simp only [over,zH,zI,zJ,zK,zL,zM,zN,zO,zP,zF,zG,Nat.reduceAdd] at m
  refine n_val (r_assign) (n_nil (k9 _ _ ?_))
  refine c_seq fun K10 k10=>wp_region_lit (n_val (r_move) (n_val (r_move) (n_want rfl ?_)))
  simp only [ev,zD,zE,zF,zG]
  refine n_load rfl ((m.b 3 rfl).full agg_39 cells_39) ?_
  simp only [ev,zD,zE,zF,zG]
  refine n_want rfl (n_load rfl ((m.b 0 rfl).full agg_43 cells_43) ?_)
  simp only [ev,zD,zE,zF,zG]
  refine n_want rfl (n_val (r_move) (n_want rfl ?_))
  simp only [ev,zD,zE,zF,zG]
  refine mcallP m rfl rfl (contains_c (a:=askR r (shownR ss (bsR F.length zs) F) (bsR F.length zs)) (h:=firstN r F.flatten) hna9 (Fine.right ss zs r) (bq_ask (hfn.shownIt ss zs) bs_i64).1 (bq_ask (hfn.shownIt ss zs) bs_i64).2 (bq_first hfn.it)) ?_
  clear m; intro u m
  refine n_val (r_pickT rfl) (n_val (r_assign) (n_nil (k10 _ _ ?_)))
  refine wp_ret ?_
  simp only [ev,zD,zE,zF,zG]
  try simp only [Exit.inBlock,Exit.then,if_true]
  refine fin1 rfl rfl ?_
  try simp only [zD,zE]
  exact ⟨_,rfl,m.ext,rfl⟩
end Go.Proofs.YtimjandkmfcmiaaGreatDoor
namespace Go.Proofs.YtimjandkmfcmiaaGreatDoor.traceTrue
open Go.ChangeShapes Go.WideShapes Go.ChangeAt Go.RowKit Go.Lith
set_option maxRecDepth 100000
theorem own : ownKnob Tryz.prog.godebug = none:=by kernel_rfl
theorem laidOut : laidOutB Tryz.prog = true:=by kernel_rfl
theorem contract (H : Type) (enc : TypeId × Value → H) (W : World) (base : Nat) (args : Array Value) (ds gs : List (DataW H)) (before : List MemPlace)
    (hval : ∀ (j : Nat) t v,Tryz.f4.params[j]? = some t → args[j]? = some v → Value.okWide Tryz.prog W .any base t v)
    (hW : DataW.Whole enc Tryz.prog Tryz.f4.params.toList Rows.traceTrueSpec.vars false W args.toList ds gs before) :
    Calls Tryz.prog 4 args W fun e W'=>∃ v,e = .returned v ∧ Rows.traceTrueSpec.post enc Tryz.prog Tryz.f4 false true false false W args v W':=by
  have hW':=hW
  obtain ⟨p,q,hA,hV,rfl,hfz,hnd⟩:=hW
  rw [Tryz.params4] at hA hval
  obtain ⟨v0,vs0,d0,ds0,p0,q0,e0,rfl,rfl,h0,r0⟩:=trodAll_cons hA
  obtain ⟨rfl,rfl,rfl⟩:=trodAll_nil r0
  obtain rfl : args = #[v0]:=by cases args; simp_all
  obtain ⟨rfl,rfl⟩:=trodVars_none hV
  obtain ⟨kind,bits,q,r,HA,ZA,PA,HN,Hc,ZN,Zc,PN,Pc,hz,zs,ss,rfl,i0,i1,i2,hH,hZ,hP,hq⟩:=open_scene (n:=5) (tI:=3) (tH:=22) (tB:=5) (tR:=25) (tS:=26) (tP:=56) Tryz.underlying28 (by kernel_rfl) (by kernel_rfl) (by kernel_rfl) (by kernel_rfl) Tryz.underlying22 (by kernel_rfl) Tryz.underlying5 (by kernel_rfl) (by kernel_rfl) (by kernel_rfl) Tryz.underlying26 (by kernel_rfl) (by kernel_rfl) (by kernel_rfl) (hval 0 28 v0 rfl rfl) h0
  refine (TraceTrue_c W hH hZ hP hq).2.mono ?_
  rintro e W' ⟨v,rfl,hE,rfl⟩
  exact ⟨_,rfl,post_of_ext laidOut (by kernel_rfl) rfl rfl Tryz.underlying4 hW' ⟨rfl,rfl,rfl⟩ hE⟩
def accepts : List Value:=[128,191,160,191,128,159,144,191,128,143,0,0,0,0,0,0,0,0,0,0,0,0,0,0,0,0,0,0,0,0,0,0].map fun n=>.int .u8 n
def firsts : List Value:=Go.Pinned.utf8FirstZ.map fun (n : Nat)=>Value.int .u8 (n : Int)
def relaid (cs : List Value) : Obj → Obj
  | .cells _ t frozen=>.cells cs.toArray t frozen
  | o=>o
noncomputable def laidWorld (os : Os) : World :=
  { World.holding Tryz.prog os ⟨#[],#[],[]⟩ with heap:=((World.holding Tryz.prog os ⟨#[],#[],[]⟩).heap.modify 0 (relaid firsts)).modify 1 (relaid accepts) }
def inp : Array Value:=#[.agg #[.int .i64 0,.int .i64 0,.slice none 0 0,.int .u8 0,.slice none 0 0,.int .i64 0,.int .i64 0,.int .i64 0,.int .i64 0,.int .i64 0,.int .i64 0,.int .i64 0,.slice none 0 0]]
theorem laid_met (os : Os) : laidMet Tryz.prog Rows.traceTrueRow.laid ((laidWorld os).forCall (fun _ _=>0) ⟨#[],inp,[]⟩).memory :=
  laidMet_of_run' 8 (by kernel_rfl) (by kernel_rfl)
theorem reads (os : Os) {H : Type} (enc : TypeId × Value → H) : ∃ places,DataW.whole enc Tryz.prog ((laidWorld os).forCall (fun _ _=>0) ⟨#[],inp,[]⟩).memory Tryz.f4.params.toList Rows.traceTrueSpec.vars false inp.toList 8 = some ([.agg [.lit (.int .i64 0),.lit (.int .i64 0),.nil,.lit (.int .u8 0),.nil,.agg [.lit (.int .i64 0),.lit (.int .i64 0),.lit (.int .i64 0),.lit (.int .i64 0),.agg [.lit (.int .i64 0),.lit (.int .i64 0),.lit (.int .i64 0)]],.nil]],[],places) :=
  ⟨[],by kernel_rfl⟩
theorem lifted (os : Os) (started : os.Started) (H : Type) (enc : TypeId × Value → H) (F : Stop.Interp) :
    ReturnsInHanded {} Tryz.checked os 4 .any ((OpenSpec.ofChange Rows.traceTrueSpec).preRow enc Tryz.prog Tryz.f4 Rows.traceTrueRow.domain false Rows.traceTrueRow.laid) (((OpenSpec.ofChange Rows.traceTrueSpec).at F).post enc Tryz.prog Tryz.f4 false true false false):=by
  obtain ⟨places,hx⟩:=reads os enc
  refine returnsInHanded_of_row (C:=Tryz.checked) (s:=OpenSpec.ofChange Rows.traceTrueSpec) own started (by kernel_rfl) Tryz.func4
    (witness_row_at (enc:=enc) (C:=Tryz.checked) false (laidWorld os) inp rfl (by kernel_rfl) (by kernel_rfl) (by kernel_rfl)
      (OpenSpec.preRow_of_cond 8 hx (by kernel_rfl) (fun k hk=>by cases hk) (by kernel_rfl) (laid_met os))) ?_
  intro W base args ds gs before hval hW _ _ _ hL _ _
  exact contract H enc W base args ds gs before hval hW
theorem said : Rows.TraceTrueSaid :=
  OpenClaim.holds_of_cond 4 Tryz.f4 rfl rfl rfl rfl rfl rfl rfl ⟨rfl,rfl,rfl,rfl,rfl⟩ rfl rfl rfl rfl rfl (by kernel_rfl) Tryz.func4 (by kernel_rfl)
    (of_decide_eq_true (by kernel_rfl)) (by unfold Func.isWrapper; first | (rw [if_pos (by decide +kernel)]; kernel_rfl) | (rw [if_neg (by decide +kernel)]; exact ⟨rfl,rfl⟩))
    (fun os started H enc _ F=>by rw [OpenClaim.pre_eq_preRow]; exact lifted os started H enc F)
theorem plain (f : FuncId) (fn : Func) (hf : Tryz.pinned.checked.prog.funcNamed Rows.traceTrueRow.func = some f) (hfn : Tryz.pinned.checked.prog.funcs[f]? = some fn) :
    true = Tryz.pinned.checked.prog.looks [] ∧ ∀ (j : Nat) t,fn.params[j]? = some t → Tryz.pinned.checked.prog.wantsStandIn t = false:=by
  obtain rfl : f = 4:=Option.some.inj ((show Tryz.prog.funcNamed Rows.traceTrueRow.func = some 4 by kernel_rfl).symm.trans hf) |>.symm
  obtain rfl : fn = Tryz.f4:=(Option.some.inj (Tryz.func4.symm.trans hfn)).symm
  refine ⟨by kernel_rfl,fun j t ht=>?_⟩
  rw [Tryz.params4] at ht
  have hm : t ∈ [28]:=by simpa using Array.mem_of_getElem? ht
  have hall : ([28].all fun u=>!Tryz.prog.wantsStandIn u) = true:=by kernel_rfl
  exact (show Tryz.prog.wantsStandIn t = false by simpa using List.all_eq_true.1 hall t hm)
theorem card : Rows.TraceTrueCardSaid :=
  Claim7.holds_tied_plain_at .later [] _ _ _ _ said (fun _ h=>by cases h) (by kernel_rfl) (fun _ h=>by cases h) traceTrue_row_tie rfl ⟨rfl,rfl⟩ (by kernel_rfl) rfl plain (by kernel_rfl)
end Go.Proofs.YtimjandkmfcmiaaGreatDoor.traceTrue
