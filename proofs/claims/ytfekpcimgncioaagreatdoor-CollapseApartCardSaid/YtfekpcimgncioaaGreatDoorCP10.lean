/-
 Texts of one claim, laid together: JoinCollapseApart.
-/
import Derived.Test.YtfekpcimgncioaaGreatDoorCards
import Derived.Test.YtfekpcimgncioaaGreatDoorTie
import Derived.Deep.DeepHandedRow
import Derived.Lib.LaidTab
import Derived.Test.YtfekpcimgncioaaGreatDoorCP9
open Go renaming Value→ai
open Option.some renaming inj→fq
set_option linter.unusedSimpArgs false
set_option linter.unusedVariables false
set_option linter.unusedSectionVars false
namespace Go.Proofs.YtfekpcimgncioaaGreatDoor.collapseApart
open Go.Proofs.Tryz
open Go.ChangeShapes Go.WideShapes Go.ChangeAt Go.RowKit Go.Lith
set_option maxRecDepth 100000
theorem own:ownKnob prog.godebug=none:=by kernel_rfl
theorem laidOut:laidOutB prog=true:=by kernel_rfl
theorem contract(H:Type)(enc:TypeId × ai→H)(W:World)(base:Nat)(args:Array ai)(ds gs:List (DataW H))(before:List MemPlace)
 (hval:∀(j:Nat) t v,f8.params[j]? = some t→args[j]? = some v→Value.okWide prog W .any base t v)
 (hW:DataW.Whole enc prog f8.params.toList Rows.collapseApartSpec.vars false W args.toList ds gs before) :
 Calls prog 8 args W fun e W'=>∃v,e=.returned v∧Rows.collapseApartSpec.post enc prog f8 false true false false W args v W':=by
 have hW':=hW;obtain⟨p,q,hA,hV,rfl,hfz,hnd⟩:=hW;rw[params8] at hA hval;obtain⟨v0,vs0,d0,ds0,p0,q0,e0,rfl,rfl,h0,r0⟩:=trodAll_cons hA;obtain⟨v1,vs1,d1,ds1,p1,q1,e1,rfl,rfl,h1,r1⟩:=trodAll_cons r0;obtain⟨v2,vs2,d2,ds2,p2,q2,e2,rfl,rfl,h2,r2⟩:=trodAll_cons r1;obtain⟨rfl,rfl,rfl⟩:=trodAll_nil r2;subst e2;subst e1;obtain rfl:args = #[v0,v1,v2]:=by cases args;simp_all
 obtain⟨rfl,rfl⟩:=trodVars_none hV;obtain⟨HA0,HN0,Hc0,zs0,rfl,hL0,hcp0,hI0⟩:=aeU (n:=5) dH (by kernel_rfl) (by kernel_rfl) (hval 0 22 v0 rfl rfl) h0;obtain⟨x1,y1,hx1,hy1,rfl⟩:=aeV apX underlying24 underlying23 (by kernel_rfl) (by kernel_rfl) (hval 1 24 v1 rfl rfl) h1;obtain⟨a2,rfl,_,_,wt2⟩:=open_int Vt (hval 2 5 v2 rfl rfl) h2;have wb2:=bounds_u8 wt2;refine (Oy W hL0 hcp0 hI0 hx1 hy1 (show 0≤a2∧a2<256 by omega)).2.mono ?_;rintro e W' ⟨v,rfl,hE,rfl⟩;exact⟨_,O,acX laidOut (by kernel_rfl) O O Va hW' ⟨O,O,O⟩ hE⟩
def accepts:List ai:=[128,191,160,191,128,159,144,191,128,143,0,0,0,0,0,0,0,0,0,0,0,0,0,0,0,0,0,0,0,0,0,0].map fun n=>.int .u8 n
def firsts:List ai:=Go.Pinned.utf8FirstZ.map fun (n:Nat)=>Value.int .u8 (n:Int)
def relaid(cs:List ai):Obj→Obj
 | .cells _ t frozen=>.cells cs.toArray t frozen
 | o=>o
noncomputable def laidWorld(os:Os):World :=
 { World.holding prog os ⟨#[],#[],[]⟩ with heap:=((World.holding prog os ⟨#[],#[],[]⟩).heap.modify 0 (relaid firsts)).modify 1 (relaid accepts) }
def inp:Array ai:=#[.slice none 0 0,.agg #[.int .u16 0,.int .u16 0],.int .u8 0]
theorem laid_met(os:Os):laidMet prog Rows.collapseApartRow.laid ((laidWorld os).forCall (fun _ _=>0) ⟨#[],inp,[]⟩).memory :=
 laidMet_of_run' 8 (by kernel_rfl) (by kernel_rfl)
theorem reads(os:Os){H:Type}(enc:TypeId × ai→H):∃places,DataW.whole enc prog ((laidWorld os).forCall (fun _ _=>0) ⟨#[],inp,[]⟩).memory f8.params.toList Rows.collapseApartSpec.vars false inp.toList 8=some ([.nil,.agg [.lit (.int .u16 0),.lit (.int .u16 0)],.lit (.int .u8 0)],[],places) :=
 ⟨[],by kernel_rfl⟩
theorem lifted(os:Os)(started:os.Started)(H:Type)(enc:TypeId × ai→H)(F:Stop.Interp) :
 ReturnsInHanded {} checked os 8 .any ((OpenSpec.ofChange Rows.collapseApartSpec).preRow enc prog f8 Rows.collapseApartRow.domain false Rows.collapseApartRow.laid) (((OpenSpec.ofChange Rows.collapseApartSpec).at F).post enc prog f8 false true false false):=by
 obtain⟨places,hx⟩:=reads os enc;refine returnsInHanded_of_row (C:=checked) (s:=OpenSpec.ofChange Rows.collapseApartSpec) own started (by kernel_rfl) func8
  (witness_row_at (enc:=enc) (C:=checked) false (laidWorld os) inp rfl (by kernel_rfl) (by kernel_rfl) (by kernel_rfl)
   (OpenSpec.preRow_of_cond 8 hx (by kernel_rfl) (fun k hk=>by cases hk) (by kernel_rfl) (laid_met os))) ?_
 intro W base args ds gs before hval hW _ hc _ hL _ _;exact contract H enc W base args ds gs before hval hW
theorem j1:(Rows.collapseApartRow.inPlace == Tryz.pinned.checked.prog.inPlace 8)=true:=by kernel_rfl
theorem j2:(Rows.collapseApartRow.unfollowed == Tryz.pinned.checked.prog.unfollowed 8)=true:=by kernel_rfl
theorem j3:(Rows.collapseApartRow.recurses == Tryz.pinned.checked.prog.recurses 8)=true:=by kernel_rfl
theorem j4:(Rows.collapseApartRow.named == Tryz.pinned.checked.prog.varsNamed 8)=true:=by kernel_rfl
theorem j5:false=Rows.collapseApartRow.goesBy Tryz.pinned.checked.prog:=by kernel_rfl
theorem asb:joinedFacts Tryz.pinned.checked.prog 8 f8 (OpenSpec.ofChange Rows.collapseApartSpec).bare Rows.collapseApartRow=true:=by
 unfold joinedFacts;rw[j1,j2,j3,j4]
 kernel_rfl
theorem said:Rows.CollapseApartSaid :=
 OpenClaim.holds_of_cond 8 f8 rfl rfl rfl rfl rfl rfl rfl ⟨rfl,rfl,rfl,rfl,rfl⟩ rfl rfl rfl rfl rfl (by kernel_rfl) func8 asb
  (of_decide_eq_true (by kernel_rfl)) (by unfold Func.isWrapper;first | (rw[if_pos (by decide +kernel)];kernel_rfl) | (rw[if_neg (by decide +kernel)];exact⟨O,O⟩))
  (fun os started H enc _ F=>by rw[OpenClaim.pre_eq_preRow];exact lifted os started H enc F)
theorem plain(f:FuncId)(fn:Func)(hf:Tryz.pinned.checked.prog.funcNamed Rows.collapseApartRow.func=some f)(hfn:Tryz.pinned.checked.prog.funcs[f]? = some fn) :
 false=Tryz.pinned.checked.prog.looks []∧∀(j:Nat) t,fn.params[j]? = some t→Tryz.pinned.checked.prog.wantsStandIn t=false:=by
 obtain rfl:f=8:=fq ((show prog.funcNamed Rows.collapseApartRow.func=some 8 by kernel_rfl).symm.trans hf) |>.symm
 obtain rfl:fn=f8:=(fq (func8.symm.trans hfn)).symm;refine⟨by kernel_rfl,fun j t ht=>?_⟩;rw[params8] at ht;have hm:t∈[22,24,5]:=by simpa using Array.mem_of_getElem? ht
 have hall:([22,24,5].all fun u=>!prog.wantsStandIn u)=true:=by kernel_rfl
 exact (show prog.wantsStandIn t=false by simpa using List.all_eq_true.1 hall t hm)
theorem card:Rows.CollapseApartCardSaid :=
 Claim7.holds_tied_plain_at .later [] _ _ _ _ said (fun _ h=>by cases h) (by kernel_rfl) (fun _ h=>by cases h) collapseApart_row_tie rfl ⟨rfl,rfl⟩ (by kernel_rfl) rfl plain j5
end Go.Proofs.YtfekpcimgncioaaGreatDoor.collapseApart
