/-
 Texts of one claim, laid together: JoinCollapseSimplifies.
-/
import Derived.Test.YtfekpcimgncioaaGreatDoorCards
import Derived.Test.YtfekpcimgncioaaGreatDoorTie
import Derived.Deep.DeepHandedRow
import Derived.Lib.LaidTab
import Derived.Test.YtfekpcimgncioaaGreatDoorCF6
open Go renaming Value->aj
open Option.some renaming inj->fc
set_option linter.unusedSimpArgs false
set_option linter.defProp false
set_option linter.unusedVariables false
set_option linter.unusedSectionVars false
open Bool renaming true->Z,false->X3
open Option renaming some->X4,none->X5
namespace Go.Proofs.YtfekpcimgncioaaGreatDoor.collapseSimplifies
open Go.Proofs.Tryz
open Go.ChangeShapes Go.WideShapes Go.ChangeAt Go.RowKit Go.Lith
set_option maxRecDepth 100000
def own:ownKnob prog.godebug=X5:=by kernel_rfl
def laidOut:laidOutB prog=Z:=by kernel_rfl
theorem contract(H:Type)(enc:TypeId × aj->H)(W:World)(base:Nat)(args:Array aj)(ds i:List (DataW H))(C:List MemPlace)
 (a:∀(j:Nat) t v,f5.params[j]? = X4 t->args[j]? = X4 v->Value.okWide prog W .any base t v)
 (f:DataW.Whole enc prog f5.params.toList Rows.collapseSimplifiesSpec.vars X3 W args.toList ds i C) :
 Calls prog 5 args W λe b=>∃v,e=.returned v/\Rows.collapseSimplifiesSpec.post enc prog f5 X3 Z X3 X3 W args v b:=by
 have x:=f;obtain⟨p,q,d,m,rfl,P,Q⟩:=f;rw[params5] at d a;obtain⟨v0,R,d0,L,E,q0,D,rfl,rfl,k,o⟩:=trodAll_cons d;obtain⟨v1,S,d1,M,p1,q1,g,rfl,rfl,h1,r⟩:=trodAll_cons o;obtain⟨v2,T,d2,N,p2,q2,h,rfl,rfl,h2,s⟩:=trodAll_cons r;obtain⟨rfl,rfl,rfl⟩:=trodAll_nil s;subst h;subst g;obtain rfl:args = #[v0,v1,v2]:=by cases args;simp_all
 obtain⟨rfl,rfl⟩:=trodVars_none m;obtain⟨I,J,K,U,rfl,w,B,u⟩:=afB (n:=5) eK (by kernel_rfl) (by kernel_rfl) (a 0 22 v0 rfl rfl) k;obtain⟨F,G,y,z,rfl⟩:=afC aq2 underlying24 underlying23 (by kernel_rfl) (by kernel_rfl) (a 1 24 v1 rfl rfl) h1;obtain⟨c,rfl,_,_,A⟩:=open_int Wc (a 2 5 v2 rfl rfl) h2;have wb2:=bounds_u8 A;refine (Eo W w B u y z (show 0<=c/\c<256 by omega)).2.mono ?_;rintro e b ⟨v,rfl,l,rfl⟩;exact⟨_,O,adG laidOut (by kernel_rfl) O O Wb x ⟨O,O,O⟩ l⟩
def accepts:List aj:=[128,191,160,191,128,159,144,191,128,143,0,0,0,0,0,0,0,0,0,0,0,0,0,0,0,0,0,0,0,0,0,0].map λn=>.int .u8 n
def firsts:List aj:=Go.Pinned.utf8FirstZ.map λ(n:Nat)=>Value.int .u8 (n:Int)
def relaid(cs:List aj):Obj->Obj
 | .cells _ t frozen=>.cells cs.toArray t frozen
 | o=>o
noncomputable def laidWorld(os:Os):World :=
 { World.holding prog os ⟨#[],#[],[]⟩ with heap:=((World.holding prog os ⟨#[],#[],[]⟩).heap.modify 0 (relaid firsts)).modify 1 (relaid accepts) }
def inp:Array aj:=#[.slice X5 0 0,.agg #[.int .u16 0,.int .u16 0],.int .u8 0]
def laid_met(os:Os):laidMet prog Rows.collapseSimplifiesRow.laid ((laidWorld os).forCall (λ_ _=>0) ⟨#[],inp,[]⟩).memory :=
 laidMet_of_run' 8 (by kernel_rfl) (by kernel_rfl)
def reads(os:Os){H:Type}(enc:TypeId × aj->H):∃places,DataW.whole enc prog ((laidWorld os).forCall (λ_ _=>0) ⟨#[],inp,[]⟩).memory f5.params.toList Rows.collapseSimplifiesSpec.vars X3 inp.toList 8=X4 ([.nil,.agg [.lit (.int .u16 0),.lit (.int .u16 0)],.lit (.int .u8 0)],[],places) :=
 ⟨[],by kernel_rfl⟩
def lifted(os:Os)(g:os.Started)(H:Type)(enc:TypeId × aj->H)(F:Stop.Interp) :
 ReturnsInHanded {} checked os 5 .any ((OpenSpec.ofChange Rows.collapseSimplifiesSpec).preRow enc prog f5 Rows.collapseSimplifiesRow.domain X3 Rows.collapseSimplifiesRow.laid) (((OpenSpec.ofChange Rows.collapseSimplifiesSpec).at F).post enc prog f5 X3 Z X3 X3):=by
 obtain⟨places,d⟩:=reads os enc;refine returnsInHanded_of_row (C:=checked) (s:=OpenSpec.ofChange Rows.collapseSimplifiesSpec) own g (by kernel_rfl) func5
  (witness_row_at (enc:=enc) (C:=checked) X3 (laidWorld os) inp rfl (by kernel_rfl) (by kernel_rfl) (by kernel_rfl)
   (OpenSpec.preRow_of_cond 8 d (by kernel_rfl) (λk c=>by cases c) (by kernel_rfl) (laid_met os))) ?_
 intro W base args ds a f e b _ hc _ h _ _;exact contract H enc W base args ds a f e b
def j1:(Rows.collapseSimplifiesRow.inPlace == Tryz.pinned.checked.prog.inPlace 5)=Z:=by kernel_rfl
def j2:(Rows.collapseSimplifiesRow.unfollowed == Tryz.pinned.checked.prog.unfollowed 5)=Z:=by kernel_rfl
def j3:(Rows.collapseSimplifiesRow.recurses == Tryz.pinned.checked.prog.recurses 5)=Z:=by kernel_rfl
def j4:(Rows.collapseSimplifiesRow.named == Tryz.pinned.checked.prog.varsNamed 5)=Z:=by kernel_rfl
def j5:X3=Rows.collapseSimplifiesRow.goesBy Tryz.pinned.checked.prog:=by kernel_rfl
def atG:joinedFacts Tryz.pinned.checked.prog 5 f5 (OpenSpec.ofChange Rows.collapseSimplifiesSpec).bare Rows.collapseSimplifiesRow=Z:=by
 unfold joinedFacts;rw[j1,j2,j3,j4]
 kernel_rfl
def said:Rows.CollapseSimplifiesSaid :=
 OpenClaim.holds_of_cond 5 f5 rfl rfl rfl rfl rfl rfl rfl ⟨rfl,rfl,rfl,rfl,rfl⟩ rfl rfl rfl rfl rfl (by kernel_rfl) func5 atG
  (Y3 (by kernel_rfl)) (by unfold Func.isWrapper;first | (rw[J (by decide +kernel)];kernel_rfl) | (rw[X (by decide +kernel)];exact⟨O,O⟩))
  (λos a H enc _ F=>by rw[OpenClaim.pre_eq_preRow];exact lifted os a H enc F)
def plain(f:FuncId)(fn:Func)(b:Tryz.pinned.checked.prog.funcNamed Rows.collapseSimplifiesRow.func=X4 f)(d:Tryz.pinned.checked.prog.funcs[f]? = X4 fn) :
 X3=Tryz.pinned.checked.prog.looks []/\∀(j:Nat) t,fn.params[j]? = X4 t->Tryz.pinned.checked.prog.wantsStandIn t=X3:=by
 obtain rfl:f=5:=fc ((show prog.funcNamed Rows.collapseSimplifiesRow.func=X4 5 by kernel_rfl).symm.trans b) |>.symm
 obtain rfl:fn=f5:=(fc (func5.symm.trans d)).symm;refine⟨by kernel_rfl,λj t a=>?_⟩;rw[params5] at a;have c:t∈[22,24,5]:=by simpa using Array.mem_of_getElem? a
 have e:([22,24,5].all λu=>!prog.wantsStandIn u)=Z:=by kernel_rfl
 exact (show prog.wantsStandIn t=X3 by simpa using List.all_eq_true.1 e t c)
def card:Rows.CollapseSimplifiesCardSaid :=
 Claim7.holds_tied_plain_at .later [] _ _ _ _ said (λ_ h=>by cases h) (by kernel_rfl) (λ_ h=>by cases h) collapseSimplifies_row_tie rfl ⟨rfl,rfl⟩ (by kernel_rfl) rfl plain j5
end Go.Proofs.YtfekpcimgncioaaGreatDoor.collapseSimplifies
