/-
 Texts of one claim, laid together: JoinWitnessFans.
-/
import Derived.Test.YtfekpcimgncioaaGreatDoorCards
import Derived.Test.YtfekpcimgncioaaGreatDoorTie
import Derived.Deep.DeepHandedRow
import Derived.Lib.LaidTab
import Derived.Test.YtfekpcimgncioaaGreatDoorWY6
open Go renaming Value->ak
open Option.some renaming inj->fq
set_option linter.unusedSimpArgs false
set_option linter.defProp false
set_option linter.unusedVariables false
set_option linter.unusedSectionVars false
open Bool renaming true->Z,false->X9
open Option renaming some->H,none->G0
open Go.Proofs.Tryz renaming prog->G1
namespace Go.Proofs.YtfekpcimgncioaaGreatDoor.witnessFans
open Go.Proofs.Tryz
open Go.ChangeShapes Go.WideShapes Go.ChangeAt Go.RowKit Go.Lith
set_option maxRecDepth 100000
def own:ownKnob prog.godebug=G0:=by kernel_rfl
def laidOut:laidOutB G1=Z:=by kernel_rfl
theorem contract(b:Type)(enc:TypeId×ak->b)(W:World)(base:Nat)(args:Array ak)(ds gs:List (DataW b))(A:List MemPlace)
 (a:∀(j:Nat) t v,Tryz.f13.params[j]? = H t->args[j]? = H v->Value.okWide G1 W .any base t v)
 (f:DataW.Whole enc G1 Tryz.f13.params.toList Rows.witnessFansSpec.vars X9 W args.toList ds gs A) :
 Calls G1 13 args W λe c=>∃v,e=.returned v/\Rows.witnessFansSpec.post enc G1 Tryz.f13 X9 Z X9 X9 W args v c:=by
 have y:=f;obtain⟨p,q,d,r,rfl,V,X⟩:=f;rw[params13] at d a;obtain⟨v0,al,d0,S,L,q0,I,rfl,rfl,k,u⟩:=trodAll_cons d;obtain⟨v1,am,d1,T,M,P,h,rfl,rfl,h1,w⟩:=trodAll_cons u;obtain⟨v2,an,d2,U,N,Q,i,rfl,rfl,h2,x⟩:=trodAll_cons w;obtain⟨rfl,rfl,rfl⟩:=trodAll_nil x;subst i;subst h;obtain rfl:args = #[v0,v1,v2]:=by cases args;simp_all
 obtain⟨rfl,rfl⟩:=trodVars_none r;obtain⟨kind,bits,E,B,F,G,C,D,zs,R,rfl,J,K,s,o,m⟩:=aey (n:=5) (tI:=3) (tH:=22) (tM:=73) (tT:=191) underlying75 (by kernel_rfl) (by kernel_rfl) (by kernel_rfl) (by kernel_rfl) dS (by kernel_rfl) Wk (by kernel_rfl) (by kernel_rfl) (by kernel_rfl) (a 0 75 v0 rfl rfl) k;obtain⟨g,rfl,_,_,z⟩:=open_int fV (a 1 3 v1 rfl rfl) h1;haveI:Iw g:=⟨akM z⟩
 obtain⟨af,ag,ah,ai,aj,Y,aa,ab,ad,ae,rfl⟩:=aqY ar9 (n:=5) (by kernel_rfl) (by kernel_rfl) (a 2 82 v2 rfl rfl) h2;refine (Yq W s o m).2.mono ?_;rintro e c ⟨v,rfl,l,rfl⟩;exact⟨_,O,aex laidOut (by kernel_rfl) O O aeZ y ⟨O,O,O⟩ l⟩
def accepts:List ak:=[128,191,160,191,128,159,144,191,128,143,0,0,0,0,0,0,0,0,0,0,0,0,0,0,0,0,0,0,0,0,0,0].map λn=>.int .u8 n
def firsts:List ak:=Go.Pinned.utf8FirstZ.map λ(n:Nat)=>Value.int .u8 (n:Int)
def relaid(cs:List ak):Obj->Obj
 |.cells _ t frozen=>.cells cs.toArray t frozen
 |o=>o
noncomputable def laidWorld(os:Os):World:=
 { World.holding G1 os ⟨#[],#[],[]⟩ with heap:=((World.holding G1 os ⟨#[],#[],[]⟩).heap.modify 0 (relaid firsts)).modify 1 (relaid accepts) }
def inp:Array ak:=#[.agg #[G 0,G 0,.slice G0 0 0,.slice G0 0 0],G 0,.agg #[G 0,G 0,G 0,G 0,G 0,G 0,G 0,G 0,G 0,G 0,G 0,G 0,G 0,G 0,G 0]]
def laid_met(os:Os):laidMet G1 Rows.witnessFansRow.laid ((laidWorld os).forCall (λ_ _=>0) ⟨#[],inp,[]⟩).memory:=
 laidMet_of_run' 8 (by kernel_rfl) (by kernel_rfl)
def reads(os:Os){a:Type}(enc:TypeId×ak->a):∃places,DataW.whole enc G1 ((laidWorld os).forCall (λ_ _=>0) ⟨#[],inp,[]⟩).memory Tryz.f13.params.toList Rows.witnessFansSpec.vars X9 inp.toList 8=H ([.agg [.lit (.int .i64 0),.lit (.int .i64 0),.nil,.nil],.lit (.int .i64 0),.agg [.agg [.lit (.int .i64 0),.lit (.int .i64 0),.lit (.int .i64 0)],.agg [.lit (.int .i64 0),.lit (.int .i64 0),.lit (.int .i64 0)],.agg [.lit (.int .i64 0),.lit (.int .i64 0),.lit (.int .i64 0)],.agg [.lit (.int .i64 0),.lit (.int .i64 0),.lit (.int .i64 0)],.agg [.lit (.int .i64 0),.lit (.int .i64 0),.lit (.int .i64 0)]]],[],places):=
 ⟨[],by kernel_rfl⟩
def lifted(os:Os)(f:os.Started)(H:Type)(enc:TypeId×ak->H)(F:Stop.Interp) :
 ReturnsInHanded {} checked os 13 .any ((OpenSpec.ofChange Rows.witnessFansSpec).preRow enc G1 Tryz.f13 Rows.witnessFansRow.domain X9 Rows.witnessFansRow.laid) (((OpenSpec.ofChange Rows.witnessFansSpec).at F).post enc G1 Tryz.f13 X9 Z X9 X9):=by
 obtain⟨places,c⟩:=reads os enc;refine returnsInHanded_of_row (C:=checked) (s:=OpenSpec.ofChange Rows.witnessFansSpec) own f (by kernel_rfl) func13
  (witness_row_at (enc:=enc) (C:=checked) X9 (laidWorld os) inp rfl (by kernel_rfl) (by kernel_rfl) (by kernel_rfl)
   (OpenSpec.preRow_of_cond 8 c (by kernel_rfl) (λk b=>by cases b) (by kernel_rfl) (laid_met os))) ?_
 intro W base args ds gs e d a _ hc _ g _ _;exact contract H enc W base args ds gs e d a
def j1:(Rows.witnessFansRow.inPlace == Tryz.pinned.checked.prog.inPlace 13)=Z:=by kernel_rfl
def j2:(Rows.witnessFansRow.unfollowed == Tryz.pinned.checked.prog.unfollowed 13)=Z:=by kernel_rfl
def j3:(Rows.witnessFansRow.recurses == Tryz.pinned.checked.prog.recurses 13)=Z:=by kernel_rfl
def j4:(Rows.witnessFansRow.named == Tryz.pinned.checked.prog.varsNamed 13)=Z:=by kernel_rfl
def j5:X9=Rows.witnessFansRow.goesBy Tryz.pinned.checked.prog:=by kernel_rfl
def auV:joinedFacts Tryz.pinned.checked.prog 13 Tryz.f13 (OpenSpec.ofChange Rows.witnessFansSpec).bare Rows.witnessFansRow=Z:=by
 unfold joinedFacts;rw[j1,j2,j3,j4]
 kernel_rfl
def said:Rows.WitnessFansSaid:=
 OpenClaim.holds_of_cond 13 Tryz.f13 rfl rfl rfl rfl rfl rfl rfl ⟨rfl,rfl,rfl,rfl,rfl⟩ rfl rfl rfl rfl rfl (by kernel_rfl) func13 auV
  (Y9 (by kernel_rfl)) (by unfold Func.isWrapper;first|(rw[Z9 (by decide +kernel)];kernel_rfl)|(rw[K0 (by decide +kernel)];exact⟨O,O⟩))
  (λos a H enc _ F=>by rw[OpenClaim.pre_eq_preRow];exact lifted os a H enc F)
def plain(f:FuncId)(fn:Func)(b:Tryz.pinned.checked.prog.funcNamed Rows.witnessFansRow.func=H f)(d:Tryz.pinned.checked.prog.funcs[f]? = H fn) :
 X9=Tryz.pinned.checked.prog.looks []/\∀(j:Nat) t,fn.params[j]? = H t->Tryz.pinned.checked.prog.wantsStandIn t=X9:=by
 obtain rfl:f=13:=fq ((show prog.funcNamed Rows.witnessFansRow.func=H 13 by kernel_rfl).symm.trans b) |>.symm
 obtain rfl:fn=Tryz.f13:=(fq (func13.symm.trans d)).symm;refine⟨by kernel_rfl,λj t a=>?_⟩;rw[params13] at a;have c:t∈[75,3,82]:=by simpa using Array.mem_of_getElem? a
 have e:([75,3,82].all λu=>!prog.wantsStandIn u)=Z:=by kernel_rfl
 exact (show prog.wantsStandIn t=X9 by simpa using List.all_eq_true.1 e t c)
def card:Rows.WitnessFansCardSaid:=
 Claim7.holds_tied_plain_at .later [] _ _ _ _ said (λ_ h=>by cases h) (by kernel_rfl) (λ_ h=>by cases h) witnessFans_row_tie rfl ⟨rfl,rfl⟩ (by kernel_rfl) rfl plain j5
end Go.Proofs.YtfekpcimgncioaaGreatDoor.witnessFans
