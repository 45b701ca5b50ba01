/-
 Texts of one claim, laid together: JoinWitnessAccepts.
-/
import Derived.Test.YtfekpcimgncioaaGreatDoorCards
import Derived.Test.YtfekpcimgncioaaGreatDoorTie
import Derived.Deep.DeepHandedRow
import Derived.Lib.LaidTab
import Derived.Test.YtfekpcimgncioaaGreatDoorWX9
open Go renaming Value→ak
open Option.some renaming inj→fh
set_option linter.unusedSimpArgs false
set_option linter.unusedVariables false
set_option linter.unusedSectionVars false
namespace Go.Proofs.YtfekpcimgncioaaGreatDoor.witnessAccepts
open Go.Proofs.Tryz
open Go.ChangeShapes Go.WideShapes Go.ChangeAt Go.RowKit Go.Lith
set_option maxRecDepth 100000
theorem own:ownKnob prog.godebug=none:=by kernel_rfl
theorem laidOut:laidOutB prog=true:=by kernel_rfl
theorem contract(H:Type)(enc:TypeId × ak→H)(W:World)(base:Nat)(args:Array ak)(ds gs:List (DataW H))(before:List MemPlace)
 (hval:∀(j:Nat) t v,Tryz.f12.params[j]? = some t→args[j]? = some v→Value.okWide prog W .any base t v)
 (hW:DataW.Whole enc prog Tryz.f12.params.toList Rows.witnessAcceptsSpec.vars false W args.toList ds gs before) :
 Calls prog 12 args W fun e W'=>∃v,e=.returned v∧Rows.witnessAcceptsSpec.post enc prog Tryz.f12 false true false false W args v W':=by
 have hW':=hW;obtain⟨p,q,hA,hV,rfl,hfz,hnd⟩:=hW;rw[params12] at hA hval;obtain⟨v0,vs0,d0,ds0,p0,q0,e0,rfl,rfl,h0,r0⟩:=trodAll_cons hA;obtain⟨v1,vs1,d1,ds1,p1,q1,e1,rfl,rfl,h1,r1⟩:=trodAll_cons r0;obtain⟨rfl,rfl,rfl⟩:=trodAll_nil r1;subst e1;obtain rfl:args = #[v0,v1]:=by cases args;simp_all
 obtain⟨rfl,rfl⟩:=trodVars_none hV;obtain⟨kind,bits,HA,DA,HN,Hc,DN,Dc,zs,qs,rfl,i0,i1,hZ,hQ,hI⟩:=adm (n:=5) (tI:=3) (tH:=22) (tM:=73) (tT:=191) underlying75 (by kernel_rfl) (by kernel_rfl) (by kernel_rfl) (by kernel_rfl) Cg (by kernel_rfl) Ug (by kernel_rfl) (by kernel_rfl) (by kernel_rfl) (hval 0 75 v0 rfl rfl) h0;obtain⟨a1,rfl,_,_,wt1⟩:=open_int iY (hval 1 3 v1 rfl rfl) h1;haveI:Iw a1:=⟨ajk wt1⟩
 refine (Nq W hZ hQ hI).2.mono ?_;rintro e W' ⟨v,rfl,hE,rfl⟩;exact⟨_,O,adl laidOut (by kernel_rfl) O O adN hW' ⟨O,O,O⟩ hE⟩
def accepts:List ak:=[128,191,160,191,128,159,144,191,128,143,0,0,0,0,0,0,0,0,0,0,0,0,0,0,0,0,0,0,0,0,0,0].map fun n=>.int .u8 n
def firsts:List ak:=Go.Pinned.utf8FirstZ.map fun (n:Nat)=>Value.int .u8 (n:Int)
def relaid(cs:List ak):Obj→Obj
 | .cells _ t frozen=>.cells cs.toArray t frozen
 | o=>o
noncomputable def laidWorld(os:Os):World :=
 { World.holding prog os ⟨#[],#[],[]⟩ with heap:=((World.holding prog os ⟨#[],#[],[]⟩).heap.modify 0 (relaid firsts)).modify 1 (relaid accepts) }
def inp:Array ak:=#[.agg #[.int .i64 0,.int .i64 0,.slice none 0 0,.slice none 0 0],.int .i64 0]
theorem laid_met(os:Os):laidMet prog Rows.witnessAcceptsRow.laid ((laidWorld os).forCall (fun _ _=>0) ⟨#[],inp,[]⟩).memory :=
 laidMet_of_run' 8 (by kernel_rfl) (by kernel_rfl)
theorem reads(os:Os){H:Type}(enc:TypeId × ak→H):∃places,DataW.whole enc prog ((laidWorld os).forCall (fun _ _=>0) ⟨#[],inp,[]⟩).memory Tryz.f12.params.toList Rows.witnessAcceptsSpec.vars false inp.toList 8=some ([.agg [.lit (.int .i64 0),.lit (.int .i64 0),.nil,.nil],.lit (.int .i64 0)],[],places) :=
 ⟨[],by kernel_rfl⟩
theorem lifted(os:Os)(started:os.Started)(H:Type)(enc:TypeId × ak→H)(F:Stop.Interp) :
 ReturnsInHanded {} checked os 12 .any ((OpenSpec.ofChange Rows.witnessAcceptsSpec).preRow enc prog Tryz.f12 Rows.witnessAcceptsRow.domain false Rows.witnessAcceptsRow.laid) (((OpenSpec.ofChange Rows.witnessAcceptsSpec).at F).post enc prog Tryz.f12 false true false false):=by
 obtain⟨places,hx⟩:=reads os enc;refine returnsInHanded_of_row (C:=checked) (s:=OpenSpec.ofChange Rows.witnessAcceptsSpec) own started (by kernel_rfl) func12
  (witness_row_at (enc:=enc) (C:=checked) false (laidWorld os) inp rfl (by kernel_rfl) (by kernel_rfl) (by kernel_rfl)
   (OpenSpec.preRow_of_cond 8 hx (by kernel_rfl) (fun k hk=>by cases hk) (by kernel_rfl) (laid_met os))) ?_
 intro W base args ds gs before hval hW _ hc _ hL _ _;exact contract H enc W base args ds gs before hval hW
theorem j1:(Rows.witnessAcceptsRow.inPlace == Tryz.pinned.checked.prog.inPlace 12)=true:=by kernel_rfl
theorem j2:(Rows.witnessAcceptsRow.unfollowed == Tryz.pinned.checked.prog.unfollowed 12)=true:=by kernel_rfl
theorem j3:(Rows.witnessAcceptsRow.recurses == Tryz.pinned.checked.prog.recurses 12)=true:=by kernel_rfl
theorem j4:(Rows.witnessAcceptsRow.named == Tryz.pinned.checked.prog.varsNamed 12)=true:=by kernel_rfl
theorem j5:false=Rows.witnessAcceptsRow.goesBy Tryz.pinned.checked.prog:=by kernel_rfl
theorem asa:joinedFacts Tryz.pinned.checked.prog 12 Tryz.f12 (OpenSpec.ofChange Rows.witnessAcceptsSpec).bare Rows.witnessAcceptsRow=true:=by
 unfold joinedFacts;rw[j1,j2,j3,j4]
 kernel_rfl
theorem said:Rows.WitnessAcceptsSaid :=
 OpenClaim.holds_of_cond 12 Tryz.f12 rfl rfl rfl rfl rfl rfl rfl ⟨rfl,rfl,rfl,rfl,rfl⟩ rfl rfl rfl rfl rfl (by kernel_rfl) func12 asa
  (of_decide_eq_true (by kernel_rfl)) (by unfold Func.isWrapper;first | (rw[if_pos (by decide +kernel)];kernel_rfl) | (rw[if_neg (by decide +kernel)];exact⟨O,O⟩))
  (fun os started H enc _ F=>by rw[OpenClaim.pre_eq_preRow];exact lifted os started H enc F)
theorem plain(f:FuncId)(fn:Func)(hf:Tryz.pinned.checked.prog.funcNamed Rows.witnessAcceptsRow.func=some f)(hfn:Tryz.pinned.checked.prog.funcs[f]? = some fn) :
 false=Tryz.pinned.checked.prog.looks []∧∀(j:Nat) t,fn.params[j]? = some t→Tryz.pinned.checked.prog.wantsStandIn t=false:=by
 obtain rfl:f=12:=fh ((show prog.funcNamed Rows.witnessAcceptsRow.func=some 12 by kernel_rfl).symm.trans hf) |>.symm
 obtain rfl:fn=Tryz.f12:=(fh (func12.symm.trans hfn)).symm;refine⟨by kernel_rfl,fun j t ht=>?_⟩;rw[params12] at ht;have hm:t∈[75,3]:=by simpa using Array.mem_of_getElem? ht
 have hall:([75,3].all fun u=>!prog.wantsStandIn u)=true:=by kernel_rfl
 exact (show prog.wantsStandIn t=false by simpa using List.all_eq_true.1 hall t hm)
theorem card:Rows.WitnessAcceptsCardSaid :=
 Claim7.holds_tied_plain_at .later [] _ _ _ _ said (fun _ h=>by cases h) (by kernel_rfl) (fun _ h=>by cases h) witnessAccepts_row_tie rfl ⟨rfl,rfl⟩ (by kernel_rfl) rfl plain j5
end Go.Proofs.YtfekpcimgncioaaGreatDoor.witnessAccepts
