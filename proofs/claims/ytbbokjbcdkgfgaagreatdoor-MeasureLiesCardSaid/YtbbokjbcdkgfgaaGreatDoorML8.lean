/-
 Texts of one claim, laid together: JoinMeasureLies.
-/
import Derived.Test.YtbbokjbcdkgfgaaGreatDoorCards
import Derived.Test.YtbbokjbcdkgfgaaGreatDoorTie
import Derived.Deep.DeepHandedRow
import Derived.Lib.LaidTab
import Derived.Test.YtbbokjbcdkgfgaaGreatDoorML7
open Go renaming Value->am
open Option.some renaming inj->lc
set_option linter.unusedSimpArgs false
set_option linter.defProp false
set_option linter.unusedVariables false
set_option linter.unusedSectionVars false
open Bool renaming true->N,false->X7
open Option renaming some->H,none->X8
open Go.Proofs.Tryz renaming prog->X9
namespace Go.Proofs.YtbbokjbcdkgfgaaGreatDoor.measureLies
open Go.Proofs.Tryz
open Go.ChangeShapes Go.WideShapes Go.ChangeAt Go.RowKit Go.Lith
set_option maxRecDepth 100000
def own:ownKnob prog.godebug=X8:=by kernel_rfl
def laidOut:laidOutB X9=N:=by kernel_rfl
theorem contract(b:Type)(enc:TypeId×am->b)(W:World)(base:Nat)(args:Array am)(ds gs:List (DataW b))(E:List MemPlace)
 (a:∀(j:Nat) t v,f3.params[j]? = H t->args[j]? = H v->Value.okWide X9 W .any base t v)
 (g:DataW.Whole enc X9 f3.params.toList Rows.measureLiesSpec.vars X7 W args.toList ds gs E) :
 Calls X9 3 args W λe c=>∃v,e=.returned v/\Rows.measureLiesSpec.post enc X9 f3 X7 N X7 X7 W args v c:=by
 have B:=g;obtain⟨p,q,f,u,rfl,V,X⟩:=g;rw[params3] at f a;obtain⟨v0,Y,d0,S,G,q0,F,rfl,rfl,m,w⟩:=trodAll_cons f;obtain⟨h,Z,d1,T,I,K,k,rfl,rfl,o,x⟩:=trodAll_cons w;obtain⟨i,aa,d2,U,J,L,l,rfl,rfl,r,y⟩:=trodAll_cons x;obtain⟨rfl,rfl,rfl⟩:=trodAll_nil y;subst l;subst k;obtain rfl:args = #[v0,h,i]:=by cases args;simp_all
 obtain⟨rfl,rfl⟩:=trodVars_none u;obtain⟨M,P,Q,ak,rfl,A,D,z⟩:=adm (n:=5) cF (by kernel_rfl) (by kernel_rfl) (a 0 22 v0 rfl rfl) m;obtain⟨ab,ad,ae,af,ag,ah,ai,aj,rfl⟩:=amJ ahm (n:=5) (by kernel_rfl) (by kernel_rfl) (a 1 23 h rfl rfl) o;obtain⟨d,rfl,_,_,C⟩:=open_int underlying24 (a 2 24 i rfl rfl) r;have wb2:=bounds_u32 C;refine (To W A D z (show 0<=d/\d<4294967296 by omega)).2.mono ?_;rintro e c ⟨v,rfl,s,rfl⟩;exact⟨_,O,abJ laidOut (by kernel_rfl) O O tZ B ⟨O,O,O⟩ s⟩
def accepts:List am:=[128,191,160,191,128,159,144,191,128,143,0,0,0,0,0,0,0,0,0,0,0,0,0,0,0,0,0,0,0,0,0,0].map λn=>.int .u8 n
def firsts:List am:=Go.Pinned.utf8FirstZ.map λ(n:Nat)=>Value.int .u8 (n:Int)
def relaid(cs:List am):Obj->Obj
 |.cells _ t frozen=>.cells cs.toArray t frozen
 |o=>o
noncomputable def laidWorld(os:Os):World:=
 { World.holding X9 os ⟨#[],#[],[]⟩ with heap:=((World.holding X9 os ⟨#[],#[],[]⟩).heap.modify 0 (relaid firsts)).modify 1 (relaid accepts) }
def inp:Array am:=#[.slice X8 0 0,.agg #[U 0,U 0,U 0,U 0],.int .u32 0]
def laid_met(os:Os):laidMet X9 Rows.measureLiesRow.laid ((laidWorld os).forCall (λ_ _=>0) ⟨#[],inp,[]⟩).memory:=
 laidMet_of_run' 8 (by kernel_rfl) (by kernel_rfl)
def reads(os:Os){a:Type}(enc:TypeId×am->a):∃places,DataW.whole enc X9 ((laidWorld os).forCall (λ_ _=>0) ⟨#[],inp,[]⟩).memory f3.params.toList Rows.measureLiesSpec.vars X7 inp.toList 8=H ([.nil,.agg [.lit (.int .i64 0),.lit (.int .i64 0),.lit (.int .i64 0),.lit (.int .i64 0)],.lit (.int .u32 0)],[],places):=
 ⟨[],by kernel_rfl⟩
def lifted(os:Os)(g:os.Started)(a:Type)(enc:TypeId×am->a)(F:Stop.Interp) :
 ReturnsInHanded {} checked os 3 .any ((OpenSpec.ofChange Rows.measureLiesSpec).preRow enc X9 f3 Rows.measureLiesRow.domain X7 Rows.measureLiesRow.laid) (((OpenSpec.ofChange Rows.measureLiesSpec).at F).post enc X9 f3 X7 N X7 X7):=by
 obtain⟨places,d⟩:=reads os enc;refine returnsInHanded_of_row (C:=checked) (s:=OpenSpec.ofChange Rows.measureLiesSpec) own g (by kernel_rfl) func3
  (witness_row_at (enc:=enc) (C:=checked) X7 (laidWorld os) inp rfl (by kernel_rfl) (by kernel_rfl) (by kernel_rfl)
   (OpenSpec.preRow_of_cond 8 d (by kernel_rfl) (λk c=>by cases c) (by kernel_rfl) (laid_met os))) ?_
 intro W base args ds gs f e b _ i _ h _ _;exact contract a enc W base args ds gs f e b
def j1:(Rows.measureLiesRow.inPlace == Tryz.pinned.checked.prog.inPlace 3)=N:=by kernel_rfl
def j2:(Rows.measureLiesRow.unfollowed == Tryz.pinned.checked.prog.unfollowed 3)=N:=by kernel_rfl
def j3:(Rows.measureLiesRow.recurses == Tryz.pinned.checked.prog.recurses 3)=N:=by kernel_rfl
def j4:(Rows.measureLiesRow.named == Tryz.pinned.checked.prog.varsNamed 3)=N:=by kernel_rfl
def j5:X7=Rows.measureLiesRow.goesBy Tryz.pinned.checked.prog:=by kernel_rfl
def aqk:joinedFacts Tryz.pinned.checked.prog 3 f3 (OpenSpec.ofChange Rows.measureLiesSpec).bare Rows.measureLiesRow=N:=by
 unfold joinedFacts;rw[j1,j2,j3,j4]
 kernel_rfl
def said:Rows.MeasureLiesSaid:=
 OpenClaim.holds_of_cond 3 f3 rfl rfl rfl rfl rfl rfl rfl ⟨rfl,rfl,rfl,rfl,rfl⟩ rfl rfl rfl rfl rfl (by kernel_rfl) func3 aqk
  (Y9 (by kernel_rfl)) (by unfold Func.isWrapper;first|(rw[Z9 (by decide +kernel)];kernel_rfl)|(rw[K0 (by decide +kernel)];exact⟨O,O⟩))
  (λos b a enc _ F=>by rw[OpenClaim.pre_eq_preRow];exact lifted os b a enc F)
def plain(f:FuncId)(a:Func)(c:Tryz.pinned.checked.prog.funcNamed Rows.measureLiesRow.func=H f)(e:Tryz.pinned.checked.prog.funcs[f]? = H a) :
 X7=Tryz.pinned.checked.prog.looks []/\∀(j:Nat) t,a.params[j]? = H t->Tryz.pinned.checked.prog.wantsStandIn t=X7:=by
 obtain rfl:f=3:=lc ((show prog.funcNamed Rows.measureLiesRow.func=H 3 by kernel_rfl).symm.trans c) |>.symm
 obtain rfl:a=f3:=(lc (func3.symm.trans e)).symm;refine⟨by kernel_rfl,λj t b=>?_⟩;rw[params3] at b;have d:t∈[22,23,24]:=by simpa using Array.mem_of_getElem? b
 have g:([22,23,24].all λu=>!prog.wantsStandIn u)=N:=by kernel_rfl
 exact (show prog.wantsStandIn t=X7 by simpa using List.all_eq_true.1 g t d)
def card:Rows.MeasureLiesCardSaid:=
 Claim7.holds_tied_plain_at .later [] _ _ _ _ said (λ_ h=>by cases h) (by kernel_rfl) (λ_ h=>by cases h) measureLies_row_tie rfl ⟨rfl,rfl⟩ (by kernel_rfl) rfl plain j5
end Go.Proofs.YtbbokjbcdkgfgaaGreatDoor.measureLies
