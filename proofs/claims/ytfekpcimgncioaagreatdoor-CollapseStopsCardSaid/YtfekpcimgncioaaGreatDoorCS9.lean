/-
 Texts of one claim, laid together: JoinCollapseStops.
-/
import Derived.Test.YtfekpcimgncioaaGreatDoorCards
import Derived.Test.YtfekpcimgncioaaGreatDoorTie
import Derived.Deep.DeepHandedRow
import Derived.Lib.LaidTab
import Derived.Test.YtfekpcimgncioaaGreatDoorCS8
open Go renaming Value→ac
open Option.some renaming inj→fw
set_option linter.unusedSimpArgs false
set_option linter.unusedVariables false
set_option linter.unusedSectionVars false
namespace Go.Proofs.YtfekpcimgncioaaGreatDoor.collapseStops
open Go.Proofs.Tryz
open Go.ChangeShapes Go.WideShapes Go.ChangeAt Go.RowKit Go.Lith
set_option maxRecDepth 100000
theorem own:ownKnob prog.godebug=none:=by kernel_rfl
theorem laidOut:laidOutB prog=true:=by kernel_rfl
theorem contract(H:Type)(enc:TypeId × ac→H)(W:World)(base:Nat)(args:Array ac)(ds gs:List (DataW H))(before:List MemPlace)
 (hval:∀(j:Nat) t v,f7.params[j]? = some t→args[j]? = some v→Value.okWide prog W .any base t v)
 (hW:DataW.Whole enc prog f7.params.toList Rows.collapseStopsSpec.vars false W args.toList ds gs before) :
 Calls prog 7 args W fun e W'=>∃v,e=.returned v∧Rows.collapseStopsSpec.post enc prog f7 false true false false W args v W':=by
 have hW':=hW;obtain⟨p,q,hA,hV,rfl,hfz,hnd⟩:=hW;rw[params7] at hA hval;obtain⟨v0,vs0,d0,ds0,p0,q0,e0,rfl,rfl,h0,r0⟩:=trodAll_cons hA;obtain⟨v1,vs1,d1,ds1,p1,q1,e1,rfl,rfl,h1,r1⟩:=trodAll_cons r0;obtain⟨v2,vs2,d2,ds2,p2,q2,e2,rfl,rfl,h2,r2⟩:=trodAll_cons r1;obtain⟨rfl,rfl,rfl⟩:=trodAll_nil r2;subst e2;subst e1;obtain rfl:args = #[v0,v1,v2]:=by cases args;simp_all
 obtain⟨rfl,rfl⟩:=trodVars_none hV;obtain⟨HA0,HN0,Hc0,zs0,rfl,hL0,hcp0,hI0⟩:=aaq (n:=5) lM (by kernel_rfl) (by kernel_rfl) (hval 0 22 v0 rfl rfl) h0;obtain⟨x1,y1,hx1,hy1,rfl⟩:=aar akQ underlying24 underlying23 (by kernel_rfl) (by kernel_rfl) (hval 1 24 v1 rfl rfl) h1;obtain⟨a2,rfl,_,_,wt2⟩:=open_int ahB (hval 2 5 v2 rfl rfl) h2;have wb2:=bounds_u8 wt2;refine (Hn W hL0 hcp0 hI0 hx1 hy1 (show 0≤a2∧a2<256 by omega)).2.mono ?_;rintro e W' ⟨v,rfl,hE,rfl⟩;exact⟨_,rfl,Wx laidOut (by kernel_rfl) rfl rfl Ue hW' ⟨rfl,rfl,rfl⟩ hE⟩
def accepts:List ac:=[128,191,160,191,128,159,144,191,128,143,0,0,0,0,0,0,0,0,0,0,0,0,0,0,0,0,0,0,0,0,0,0].map fun n=>.int .u8 n
def firsts:List ac:=Go.Pinned.utf8FirstZ.map fun (n:Nat)=>Value.int .u8 (n:Int)
def relaid(cs:List ac):Obj→Obj
 | .cells _ t frozen=>.cells cs.toArray t frozen
 | o=>o
noncomputable def laidWorld(os:Os):World :=
 { World.holding prog os ⟨#[],#[],[]⟩ with heap:=((World.holding prog os ⟨#[],#[],[]⟩).heap.modify 0 (relaid firsts)).modify 1 (relaid accepts) }
def inp:Array ac:=#[.slice none 0 0,.agg #[.int .u16 0,.int .u16 0],.int .u8 0]
theorem laid_met(os:Os):laidMet prog Rows.collapseStopsRow.laid ((laidWorld os).forCall (fun _ _=>0) ⟨#[],inp,[]⟩).memory :=
 laidMet_of_run' 8 (by kernel_rfl) (by kernel_rfl)
theorem reads(os:Os){H:Type}(enc:TypeId × ac→H):∃places,DataW.whole enc prog ((laidWorld os).forCall (fun _ _=>0) ⟨#[],inp,[]⟩).memory f7.params.toList Rows.collapseStopsSpec.vars false inp.toList 8=some ([.nil,.agg [.lit (.int .u16 0),.lit (.int .u16 0)],.lit (.int .u8 0)],[],places) :=
 ⟨[],by kernel_rfl⟩
theorem lifted(os:Os)(started:os.Started)(H:Type)(enc:TypeId × ac→H)(F:Stop.Interp) :
 ReturnsInHanded {} checked os 7 .any ((OpenSpec.ofChange Rows.collapseStopsSpec).preRow enc prog f7 Rows.collapseStopsRow.domain false Rows.collapseStopsRow.laid) (((OpenSpec.ofChange Rows.collapseStopsSpec).at F).post enc prog f7 false true false false):=by
 obtain⟨places,hx⟩:=reads os enc;refine returnsInHanded_of_row (C:=checked) (s:=OpenSpec.ofChange Rows.collapseStopsSpec) own started (by kernel_rfl) func7
  (witness_row_at (enc:=enc) (C:=checked) false (laidWorld os) inp rfl (by kernel_rfl) (by kernel_rfl) (by kernel_rfl)
   (OpenSpec.preRow_of_cond 8 hx (by kernel_rfl) (fun k hk=>by cases hk) (by kernel_rfl) (laid_met os))) ?_
 intro W base args ds gs before hval hW _ hc _ hL _ _;exact contract H enc W base args ds gs before hval hW
theorem j1:(Rows.collapseStopsRow.inPlace == Tryz.pinned.checked.prog.inPlace 7)=true:=by kernel_rfl
theorem j2:(Rows.collapseStopsRow.unfollowed == Tryz.pinned.checked.prog.unfollowed 7)=true:=by kernel_rfl
theorem j3:(Rows.collapseStopsRow.recurses == Tryz.pinned.checked.prog.recurses 7)=true:=by kernel_rfl
theorem j4:(Rows.collapseStopsRow.named == Tryz.pinned.checked.prog.varsNamed 7)=true:=by kernel_rfl
theorem j5:false=Rows.collapseStopsRow.goesBy Tryz.pinned.checked.prog:=by kernel_rfl
theorem amO:joinedFacts Tryz.pinned.checked.prog 7 f7 (OpenSpec.ofChange Rows.collapseStopsSpec).bare Rows.collapseStopsRow=true:=by
 unfold joinedFacts;rw[j1,j2,j3,j4]
 kernel_rfl
theorem said:Rows.CollapseStopsSaid :=
 OpenClaim.holds_of_cond 7 f7 rfl rfl rfl rfl rfl rfl rfl ⟨rfl,rfl,rfl,rfl,rfl⟩ rfl rfl rfl rfl rfl (by kernel_rfl) func7 amO
  (of_decide_eq_true (by kernel_rfl)) (by unfold Func.isWrapper;first | (rw[if_pos (by decide +kernel)];kernel_rfl) | (rw[if_neg (by decide +kernel)];exact⟨rfl,rfl⟩))
  (fun os started H enc _ F=>by rw[OpenClaim.pre_eq_preRow];exact lifted os started H enc F)
theorem plain(f:FuncId)(fn:Func)(hf:Tryz.pinned.checked.prog.funcNamed Rows.collapseStopsRow.func=some f)(hfn:Tryz.pinned.checked.prog.funcs[f]? = some fn) :
 false=Tryz.pinned.checked.prog.looks []∧∀(j:Nat) t,fn.params[j]? = some t→Tryz.pinned.checked.prog.wantsStandIn t=false:=by
 obtain rfl:f=7:=fw ((show prog.funcNamed Rows.collapseStopsRow.func=some 7 by kernel_rfl).symm.trans hf) |>.symm
 obtain rfl:fn=f7:=(fw (func7.symm.trans hfn)).symm;refine⟨by kernel_rfl,fun j t ht=>?_⟩;rw[params7] at ht;have hm:t∈[22,24,5]:=by simpa using Array.mem_of_getElem? ht
 have hall:([22,24,5].all fun u=>!prog.wantsStandIn u)=true:=by kernel_rfl
 exact (show prog.wantsStandIn t=false by simpa using List.all_eq_true.1 hall t hm)
theorem card:Rows.CollapseStopsCardSaid :=
 Claim7.holds_tied_plain_at .later [] _ _ _ _ said (fun _ h=>by cases h) (by kernel_rfl) (fun _ h=>by cases h) collapseStops_row_tie rfl ⟨rfl,rfl⟩ (by kernel_rfl) rfl plain j5
end Go.Proofs.YtfekpcimgncioaaGreatDoor.collapseStops
