/-
 Texts of one claim, laid together: Facts, Facts2, Map0, Map, Map2, Nc, Vg, Vs, Cj, Vj, Sort, Sets, Box, Wa, Wb, Wc, Wd, Dig, Dig2, Dig3, Cst, We, Wf, Wg, Wh, Wi, Ca, Near, Cb, Cc, Wk, Wl, Wm, Wn, Cd, Ce, Cf, Cg, Qd, Vt, Vu.
-/
import Derived.Test.YtfekpcimgncioaaGreatDoorProg
import Derived.Maps.RangeRun
import Derived.Shelf.SlSortCmp.WholeK
import Derived.Shelf.SlSortCmp.NoneTotal
import Derived.Test.YtfekpcimgncioaaGreatDoorWY1
open Nat renaming zero_add->aj,le_trans->ax,le_refl->ba,zero_le->bu,lt_of_lt_of_le->cj,lt_or_ge->d_,eq_zero_or_pos->fm,pow_le_pow_right->fv,pow_succ->gn,mul_le_mul_right->gz,le_of_not_lt->im,add_zero->jk,mul_zero->jm,mod_eq_of_lt->kd,mod_lt->kj,le_sub_one_of_lt->pb,sub_self->ph,strongRecOn->rk
open Go renaming Value->ak,World->an,wpList->bf,TypeId->bh,Program->cg,run_underlying->cq,MapEntry->cu,Operand->cw,wpQuiet->M,execOp->N,Deferred->eh
open List renaming getElem?_eq_getElem->ap,mem_cons->av,set_cons_succ->aw,getElem?_eq_some_iff->az,take_of_length_le->a_,length_cons->be,length_append->bg,flatMap_append->bi,map_cons->bm,mem_of_getElem?->bn,mem_singleton->bp,mem_cons_self->bq,mem_cons_of_mem->br,mem_append->bv,not_mem_nil->bw,replicate->bx,length_take->bz,pairwise_cons->b_,length_nil->cd,nil_append->cl,flatMap_cons->cz,mem_map->c_,getElem?_eq_none->da,map_append->db,cons_append->de,mem_filter->di,mem_flatMap->dj,append_assoc->dm,drop_eq_getElem_cons->dw,length_map->eb,all_eq_true->ej,getElem?_drop->fa,take_length->fe,any_eq_true->ff,getElem?_map->fi,getElem?_append_left->fk,getElem_mem->fl,mem_iff_getElem?->fp,filter_cons->ft,append_nil->fz,getElem?_take->gh,getElem?_append_right->gj,filter_append->gl,ext_getElem?->gt,nodup_cons->gv,drop_of_length_le->gw,range->ii,mem_range->ij,pairwise_append->il,getD_eq_getElem?_getD->ir,length_singleton->iu,length_drop->ix,foldl_append->jf,getElem?_cons_succ->jn,filter_cons_of_neg->jo,toArray->jr,nodup_append->jv,take_append_drop->jx,foldl_cons->j_,pairwise_singleton->ke,filter_cons_of_pos->kf,getElem?_set->ki,flatMap_nil->lj,drop_length->lk,length_range->l_,pairwise_map->mb,length_replicate->nh,getElem?_toArray->ni,filter_nil->np,getElem?_set_ne->nq,takeWhile_append_dropWhile->ny,takeWhile_cons->n_,length_pos_iff_exists_mem->oe,map_eq_append_iff->ou,any_eq_false->pa,map_eq_cons_iff->pf,dropWhile_cons->pp,length->py,take_add_one->qd,set_set->ri,Nodup->rj
open Bool renaming and_eq_true->bt,false_ne_true->fh,not_eq_true'->ip,or_eq_true->iy,eq_iff_iff->iz,false_eq_true->qz
open Go.Oper renaming mk->ci
open Go.Exit renaming inBlock->cn
open Option renaming getD_some->dt,map_some->fw,bind_some->io,bind_eq_some_iff->je,map_none->rm
open Array renaming getElem?_eq_some_iff->ec,getElem?_toList->gr,getElem?_eq_getElem->iw,getElem?_setIfInBounds_ne->jp,mapM_eq_mapM_toList->jt,getElem?_modify->lg,eraseIdxIfInBounds->nt,toList_push->qe,toList_modify->qr
open UInt8 renaming ofNat->fg,toNat->ju,toNat_ofNat'->ka,toNat_inj->pw
open Option.some renaming inj->fq
open Prod.mk renaming injEq->fy
open List.Pairwise renaming nil->ma,imp->o_
open Int renaming natCast_mul->me,tdiv_eq_ediv_of_nonneg->m_
open List.cons renaming injEq->nj
open Go.Value renaming int->oc
open List.Perm renaming append_left->ox,refl->qg,trans->qp
open Prod renaming ext->pv,snd->rg,fst->rq
set_option linter.unusedSimpArgs false
set_option linter.defProp false
set_option linter.unusedVariables false
set_option linter.unusedSectionVars false
open Bool renaming true->Z,false->X9
open Option renaming some->H,none->G0
open Go.Proofs.Tryz renaming prog->G1
namespace Go.Proofs.YtfekpcimgncioaaGreatDoor
open Go.Proofs.Tryz
open Go.RowKit Go.Lith
section
variable{l:List ak}{ty T':bh}{v0 c0_0 v1 v2 A B C c1_0 c2_0 D E F vd v8 ve:ak}{x0 x1 x y:cw}{x2 x3 y0 y1 y2 y3 x4 y4 x5 y5 x6 y6 x7 y7 x8 y8:Int}
abbrev gN:=@underlying107
abbrev Bp:=@underlying112
abbrev wX:=@underlying215
abbrev oZ:=@underlying218
abbrev jO:=@underlying231
abbrev fP:=@underlying27
abbrev fV:=@underlying3
abbrev lQ:=@underlying30
abbrev qK:=@underlying300
abbrev xT:=@underlying36
abbrev fN:=@underlying39
abbrev aeZ:=@underlying4
abbrev Hx:=@underlying46
abbrev xU:=@underlying52
abbrev Hy:=@underlying55
abbrev Tm:=@underlying56
abbrev kK:=@underlying65
abbrev rC:=@underlying9
abbrev Tn:=@underlying93
abbrev Hz:=@underlying95
abbrev En:=@underlying99
set_option maxRecDepth 100000
def aD:prog.follows .mixedOrders=Z:=by kernel_rfl
def agN:Entr G1 82:=bK func82 (by kernel_rfl)
def ae0:Entr G1 114:=bK func114 (by kernel_rfl)
def ak1:Entr G1 119:=bK func119 (by kernel_rfl)
def ak2:Entr G1 125:=bK func125 (by kernel_rfl)
def ae1:Entr G1 128:=bK func128 (by kernel_rfl)
def ak3:Entr G1 129:=bK func129 (by kernel_rfl)
def ak4:Entr G1 195:=bK func195 (by kernel_rfl)
def abb:Entr G1 235:=bK func235 (by kernel_rfl)
def ak5:Entr G1 276:=bK func276 (by kernel_rfl)
def ak6:Entr G1 277:=bK func277 (by kernel_rfl)
def ak7:Entr G1 278:=bK func278 (by kernel_rfl)
def ae2:Entr G1 336:=bK func336 (by kernel_rfl)
def ak8:Entr G1 337:=bK func337 (by kernel_rfl)
def bL:dW G1 3 1:=eF (by kernel_rfl)
def bJ:fM G1 3 X9:=eA _ fV rfl
def mV:qD G1 3 (G 0):=lW (by kernel_rfl)
def nR:(prog.info? 3).map (λi=>(i.size,i.bytes,i.zero))=H (1,8,H (G 0)):=by kernel_rfl
def mW:dW G1 4 1:=eF (by kernel_rfl)
def xV:fM G1 4 X9:=eA _ aeZ rfl
def iN:qD G1 4 (.bool X9):=lW (by kernel_rfl)
def Zn:(prog.info? 5).map (λi=>(i.size,i.bytes,i.zero))=H (1,1,H (.int .u8 0)):=by kernel_rfl
def ao2:dW G1 9 1:=eF (by kernel_rfl)
def aq9:fM G1 9 X9:=eA _ rC rfl
def iA:dW G1 27 1:=eF (by kernel_rfl)
def nZ:fM G1 27 X9:=eA _ fP rfl
def agO:qD G1 27 (.slice G0 0 0):=lW (by kernel_rfl)
def aA:dW G1 30 3:=eF (by kernel_rfl)
def aF:fM G1 30 Z:=eA _ lQ rfl
def eH:qD G1 30 (.agg #[G 0,G 0,G 0]):=lW (by kernel_rfl)
def vK:(prog.info? 30).map (λi=>(i.size,i.bytes,i.zero))=H (3,24,H (.agg #[G 0,G 0,G 0])):=by kernel_rfl
def To:dW G1 36 3:=eF (by kernel_rfl)
def ae3:fM G1 36 Z:=eA _ xT rfl
def ao3:qD G1 36 (.agg #[G 0,G 0,G 0]):=lW (by kernel_rfl)
def ak9:dW G1 38 9:=eF (by kernel_rfl)
def ar8:fM G1 38 Z:=eA _ underlying38 rfl
def bA:dW G1 39 9:=eF (by kernel_rfl)
def dG:fM G1 39 Z:=eA _ fN rfl
def agP:qD G1 39 (.agg #[G 0,G 0,G 0,G 0,G 0,G 0,G 0,G 0,G 0]):=lW (by kernel_rfl)
def kL:(prog.info? 39).map (λi=>(i.size,i.bytes,i.zero))=H (9,72,H (.agg #[G 0,G 0,G 0,G 0,G 0,G 0,G 0,G 0,G 0])):=by kernel_rfl
def uS:dW G1 55 6:=eF (by kernel_rfl)
def ae4:fM G1 55 Z:=eA _ Hy rfl
def ao4:qD G1 55 (.agg #[G 0,G 0,G 0,G 0,G 0,G 0]):=lW (by kernel_rfl)
def abc:(prog.info? 55).map (λi=>(i.size,i.bytes,i.zero))=H (6,48,H (.agg #[G 0,G 0,G 0,G 0,G 0,G 0])):=by kernel_rfl
def jD:dW G1 56 6:=eF (by kernel_rfl)
def sZ:fM G1 56 Z:=eA _ Tm rfl
def ao5:qD G1 56 (.agg #[G 0,G 0,G 0,G 0,G 0,G 0]):=lW (by kernel_rfl)
def Eo:(prog.info? 56).map (λi=>(i.size,i.bytes,i.zero))=H (6,48,H (.agg #[G 0,G 0,G 0,G 0,G 0,G 0])):=by kernel_rfl
def ala:dW G1 65 1:=eF (by kernel_rfl)
def alb:fM G1 65 X9:=eA _ kK rfl
def ar9:fM G1 82 Z:=eA _ underlying82 rfl
def Tp:dW G1 88 1:=eF (by kernel_rfl)
def abd:fM G1 88 X9:=eA _ underlying88 rfl
def alc:fM G1 93 X9:=eA _ Tn rfl
def aO:dW G1 95 2:=eF (by kernel_rfl)
def cE:fM G1 95 Z:=eA _ Hz rfl
def uB:qD G1 95 (.agg #[.bool X9,.string ⟨#[]⟩]):=lW (by kernel_rfl)
def lF:dW G1 97 20:=eF (by kernel_rfl)
def Bq:fM G1 97 Z:=eA _ underlying97 rfl
def ao6:qD G1 97 (.agg #[.bool X9,.string ⟨#[]⟩,.bool X9,.string ⟨#[]⟩,.bool X9,.string ⟨#[]⟩,.bool X9,.string ⟨#[]⟩,.bool X9,.string ⟨#[]⟩,.bool X9,.string ⟨#[]⟩,.bool X9,.string ⟨#[]⟩,.bool X9,.string ⟨#[]⟩,.bool X9,.string ⟨#[]⟩,.bool X9,.string ⟨#[]⟩]):=lW (by kernel_rfl)
def ald:dW G1 99 1:=eF (by kernel_rfl)
def ale:fM G1 99 X9:=eA _ En rfl
def agQ:fM G1 106 X9:=eA _ underlying106 rfl
def Gq:dW G1 107 1:=eF (by kernel_rfl)
def wD:fM G1 107 X9:=eA _ gN rfl
def Ae:dW G1 112 8:=eF (by kernel_rfl)
def Ky:fM G1 112 Z:=eA _ Bp rfl
def alf:qD G1 112 (.agg #[G 0,G 0,G 0,G 0,G 0,G 0,.bool X9,.string ⟨#[]⟩]):=lW (by kernel_rfl)
def ao7:(prog.info? 112).map (λi=>(i.size,i.bytes,i.zero))=H (8,72,H (.agg #[G 0,G 0,G 0,G 0,G 0,G 0,.bool X9,.string ⟨#[]⟩])):=by kernel_rfl
def aiy:dW G1 168 8:=eF (by kernel_rfl)
def acY:qD G1 168 (.agg #[.bool X9,.string ⟨#[]⟩,.bool X9,.string ⟨#[]⟩,.bool X9,.string ⟨#[]⟩,.bool X9,.string ⟨#[]⟩]):=lW (by kernel_rfl)
def wJ:dW G1 191 4:=eF (by kernel_rfl)
def wK:dW G1 215 6:=eF (by kernel_rfl)
def Gr:fM G1 215 Z:=eA _ wX rfl
def ao8:(prog.info? 215).map (λi=>(i.size,i.bytes,i.zero))=H (6,48,H (.agg #[G 0,G 0,G 0,G 0,G 0,G 0])):=by kernel_rfl
def alg:qD G1 218 (.agg #[.pointer G0,G 0,G 0,G 0,G 0,G 0,G 0,.map G0,.map G0,.slice G0 0 0,.slice G0 0 0,.slice G0 0 0]):=lW (by kernel_rfl)
def Zo:dW G1 222 6:=eF (by kernel_rfl)
def agR:fM G1 222 Z:=eA _ underlying222 rfl
def Ni:dW G1 229 8:=eF (by kernel_rfl)
def agS:fM G1 229 Z:=eA _ underlying229 rfl
def bN:dW G1 231 1:=eF (by kernel_rfl)
def fO:fM G1 231 X9:=eA _ jO rfl
def pX:(prog.info? 231).map (λi=>(i.size,i.bytes,i.zero))=H (1,8,H (.int .u64 0)):=by kernel_rfl
def Gs:dW G1 242 1:=eF (by kernel_rfl)
def abe:fM G1 242 X9:=eA _ underlying242 rfl
def Nj:dW G1 243 3:=eF (by kernel_rfl)
def agT:fM G1 243 Z:=eA _ underlying243 rfl
def acZ:qD G1 243 (.agg #[.nilFunc,.nilFunc,.nilFunc]):=lW (by kernel_rfl)
def Nk:dW G1 257 6:=eF (by kernel_rfl)
def agU:fM G1 257 Z:=eA _ underlying257 rfl
def Zp:dW G1 273 6:=eF (by kernel_rfl)
def agV:fM G1 273 Z:=eA _ underlying273 rfl
def aiz:dW G1 280 18:=eF (by kernel_rfl)
def ao9:fM G1 280 Z:=eA _ underlying280 rfl
def aiA:dW G1 300 1:=eF (by kernel_rfl)
def apa:fM G1 300 X9:=eA _ qK rfl
def alh:qD G1 300 (.slice G0 0 0):=lW (by kernel_rfl)
def Zq:dW G1 333 3:=eF (by kernel_rfl)
def agW:fM G1 333 Z:=eA _ underlying333 rfl
def Af(w:an):((#[{ name:= "X", type:=3,offset:=0,embedded:=X9,tag:= "", pkgPath:= "", byteOffset:=0 },{ name:= "Y", type:=3,offset:=1,embedded:=X9,tag:= "", pkgPath:= "", byteOffset:=8 },{ name:= "Z", type:=3,offset:=2,embedded:=X9,tag:= "", pkgPath:= "", byteOffset:=16 }]:Array Field).mapM λf=>do pure (f.offset,<-sizeOf f.type):Sem (Array (Nat×Nat))).run G1 w=.ok #[(0,1),(1,1),(2,1)] w:=by
 simp[jt,eT bL]
def avr(w:an):(Instr.build 30 #[]).run G1 w=.ok (.agg #[(G 0),(G 0),(G 0)]) w:=eU lQ eH Af (by simp[Instr.fill,jI]) w
def ac0    : iD G1 l (.build 30 #[]) ty (.agg #[(G 0),(G 0),(G 0)]):=mR (vs:=#[]) (by simp) λw=>avr  w
def asa(a:v0.cells = #[c0_0])(w:an):(Instr.build 30 #[(0,v0)]).run G1 w=.ok (.agg #[c0_0,(G 0),(G 0)]) w:=eU lQ eH Af (by simp[Instr.fill,jI,a]) w
def abf(a:(ev l x0).cells = #[c0_0]):iD G1 l (.build 30 #[(0,x0)]) ty (.agg #[c0_0,(G 0),(G 0)]):=mR (vs:=#[(0,ev l x0)]) (by simp) λw=>asa a w
def ae5(a:v0.cells = #[A])(h1:v1.cells = #[B])(h2:v2.cells = #[C])(w:an):(Instr.build 30 #[(0,v0),(1,v1),(2,v2)]).run G1 w=.ok (.agg #[A,B,C]) w:=eU lQ eH Af (by simp[Instr.fill,jI,a,h1,h2]) w
def Nl{x2:cw}(a:(ev l x0).cells = #[A])(h1:(ev l x1).cells = #[B])(h2:(ev l x2).cells = #[C]):iD G1 l (.build 30 #[(0,x0),(1,x1),(2,x2)]) ty (.agg #[A,B,C]):=mR (vs:=#[(0,ev l x0),(1,ev l x1),(2,ev l x2)]) (by simp) λw=>ae5 a h1 h2 w
def asb(h1:v1.cells = #[c1_0])(w:an):(Instr.build 30 #[(1,v1)]).run G1 w=.ok (.agg #[(G 0),c1_0,(G 0)]) w:=eU lQ eH Af (by simp[Instr.fill,jI,h1]) w
def abg(h1:(ev l x1).cells = #[c1_0]):iD G1 l (.build 30 #[(1,x1)]) ty (.agg #[(G 0),c1_0,(G 0)]):=mR (vs:=#[(1,ev l x1)]) (by simp) λw=>asb h1 w
def asc(h2:v2.cells = #[c2_0])(w:an):(Instr.build 30 #[(2,v2)]).run G1 w=.ok (.agg #[(G 0),(G 0),c2_0]) w:=eU lQ eH Af (by simp[Instr.fill,jI,h2]) w
def abh{x2:cw}(h2:(ev l x2).cells = #[c2_0]):iD G1 l (.build 30 #[(2,x2)]) ty (.agg #[(G 0),(G 0),c2_0]):=mR (vs:=#[(2,ev l x2)]) (by simp) λw=>asc h2 w
def ae6(a:v0.cells = #[A,B,C])(h1:v1.cells = #[D,E,F])(h2:v2.cells = #[vd,v8,ve])(w:an):(Instr.build 39 #[(0,v0),(1,v1),(2,v2)]).run G1 w=.ok (.agg #[A,B,C,D,E,F,vd,v8,ve]) w:=nA fN agP aA (by simp[Instr.fill,jI,a,h1,h2]) w
def eW{x2:cw}(a:(ev l x0).cells = #[A,B,C])(h1:(ev l x1).cells = #[D,E,F])(h2:(ev l x2).cells = #[vd,v8,ve]):iD G1 l (.build 39 #[(0,x0),(1,x1),(2,x2)]) ty (.agg #[A,B,C,D,E,F,vd,v8,ve]):=mR (vs:=#[(0,ev l x0),(1,ev l x1),(2,ev l x2)]) (by simp) λw=>ae6 a h1 h2 w
def aiB(w:an):((#[{ name:= "From", type:=30,offset:=0,embedded:=X9,tag:= "", pkgPath:= "", byteOffset:=0 },{ name:= "To", type:=30,offset:=3,embedded:=X9,tag:= "", pkgPath:= "", byteOffset:=24 }]:Array Field).mapM λf=>do pure (f.offset,<-sizeOf f.type):Sem (Array (Nat×Nat))).run G1 w=.ok #[(0,3),(3,3)] w:=by
 simp[jt,eT aA]
def ali(a:v0.cells = #[A,B,C])(h1:v1.cells = #[D,E,F])(w:an):(Instr.build 55 #[(0,v0),(1,v1)]).run G1 w=.ok (.agg #[A,B,C,D,E,F]) w:=eU Hy ao4 aiB (by simp[Instr.fill,jI,a,h1]) w
def rV(a:(ev l x0).cells = #[A,B,C])(h1:(ev l x1).cells = #[D,E,F]):iD G1 l (.build 55 #[(0,x0),(1,x1)]) ty (.agg #[A,B,C,D,E,F]):=mR (vs:=#[(0,ev l x0),(1,ev l x1)]) (by simp) λw=>ali a h1 w
def alj(a:v0.cells = #[A,B,C])(h1:v1.cells = #[D,E,F])(w:an):(Instr.build 56 #[(0,v0),(1,v1)]).run G1 w=.ok (.agg #[A,B,C,D,E,F]) w:=nA Tm ao5 aA (by simp[Instr.fill,jI,a,h1]) w
def Tq(a:(ev l x0).cells = #[A,B,C])(h1:(ev l x1).cells = #[D,E,F]):iD G1 l (.build 56 #[(0,x0),(1,x1)]) ty (.agg #[A,B,C,D,E,F]):=mR (vs:=#[(0,ev l x0),(1,ev l x1)]) (by simp) λw=>alj a h1 w
def Zr(w:an):((#[{ name:= "Neg", type:=4,offset:=0,embedded:=X9,tag:= "", pkgPath:= "", byteOffset:=0 },{ name:= "Mag", type:=9,offset:=1,embedded:=X9,tag:= "", pkgPath:= "", byteOffset:=8 }]:Array Field).mapM λf=>do pure (f.offset,<-sizeOf f.type):Sem (Array (Nat×Nat))).run G1 w=.ok #[(0,1),(1,1)] w:=by
 simp[jt,eT mW,eT ao2]
def avs(w:an):(Instr.build 95 #[]).run G1 w=.ok (.agg #[(.bool X9),(.string ⟨#[]⟩)]) w:=eU Hz uB Zr (by simp[Instr.fill,jI]) w
def ac1    : iD G1 l (.build 95 #[]) ty (.agg #[(.bool X9),(.string ⟨#[]⟩)]):=mR (vs:=#[]) (by simp) λw=>avs  w
def alk(a:v0.cells = #[A])(h1:v1.cells = #[B])(w:an):(Instr.build 95 #[(0,v0),(1,v1)]).run G1 w=.ok (.agg #[A,B]) w:=eU Hz uB Zr (by simp[Instr.fill,jI,a,h1]) w
def Ep(a:(ev l x0).cells = #[A])(h1:(ev l x1).cells = #[B]):iD G1 l (.build 95 #[(0,x0),(1,x1)]) ty (.agg #[A,B]):=mR (vs:=#[(0,ev l x0),(1,ev l x1)]) (by simp) λw=>alk a h1 w
def ae7(w:an):((#[{ name:= "u", type:=30,offset:=0,embedded:=X9,tag:= "", pkgPath:= "lithophane/collapse", byteOffset:=0 },{ name:= "v", type:=30,offset:=3,embedded:=X9,tag:= "", pkgPath:= "lithophane/collapse", byteOffset:=24 },{ name:= "cost", type:=95,offset:=6,embedded:=X9,tag:= "", pkgPath:= "lithophane/collapse", byteOffset:=48 }]:Array Field).mapM λf=>do pure (f.offset,<-sizeOf f.type):Sem (Array (Nat×Nat))).run G1 w=.ok #[(0,3),(3,3),(6,2)] w:=by
 simp[jt,eT aA,eT aO]
def ac2(a:v0.cells = #[A,B,C])(h1:v1.cells = #[D,E,F])(h2:v2.cells = #[vd,v8])(w:an):(Instr.build 112 #[(0,v0),(1,v1),(2,v2)]).run G1 w=.ok (.agg #[A,B,C,D,E,F,vd,v8]) w:=eU Bp alf ae7 (by simp[Instr.fill,jI,a,h1,h2]) w
def Kz{x2:cw}(a:(ev l x0).cells = #[A,B,C])(h1:(ev l x1).cells = #[D,E,F])(h2:(ev l x2).cells = #[vd,v8]):iD G1 l (.build 112 #[(0,x0),(1,x1),(2,x2)]) ty (.agg #[A,B,C,D,E,F,vd,v8]):=mR (vs:=#[(0,ev l x0),(1,ev l x1),(2,ev l x2)]) (by simp) λw=>ac2 a h1 h2 w
def Xt{v3:ak}(a:v0.cells = #[A,B])(h1:v1.cells = #[C,D])(h2:v2.cells = #[E,F])(b:v3.cells = #[vd,v8])(w:an):(Instr.build 168 #[(0,v0),(1,v1),(2,v2),(3,v3)]).run G1 w=.ok (.agg #[A,B,C,D,E,F,vd,v8]) w:=nA underlying168 acY aO (by simp[Instr.fill,jI,a,h1,h2,b]) w
def Hl{x2 x3:cw}(a:(ev l x0).cells = #[A,B])(h1:(ev l x1).cells = #[C,D])(h2:(ev l x2).cells = #[E,F])(b:(ev l x3).cells = #[vd,v8]):iD G1 l (.build 168 #[(0,x0),(1,x1),(2,x2),(3,x3)]) ty (.agg #[A,B,C,D,E,F,vd,v8]):=mR (vs:=#[(0,ev l x0),(1,ev l x1),(2,ev l x2),(3,ev l x3)]) (by simp) λw=>Xt a h1 h2 b w
def ae8(w:an):((#[{ name:= "surface", type:=88,offset:=0,embedded:=Z,tag:= "", pkgPath:= "lithophane/collapse", byteOffset:=0 },{ name:= "u", type:=30,offset:=1,embedded:=X9,tag:= "", pkgPath:= "lithophane/collapse", byteOffset:=8 },{ name:= "v", type:=30,offset:=4,embedded:=X9,tag:= "", pkgPath:= "lithophane/collapse", byteOffset:=32 },{ name:= "x", type:=107,offset:=7,embedded:=X9,tag:= "", pkgPath:= "lithophane/collapse", byteOffset:=56 },{ name:= "y", type:=107,offset:=8,embedded:=X9,tag:= "", pkgPath:= "lithophane/collapse", byteOffset:=64 },{ name:= "moved", type:=27,offset:=9,embedded:=X9,tag:= "", pkgPath:= "lithophane/collapse", byteOffset:=72 },{ name:= "old", type:=27,offset:=10,embedded:=X9,tag:= "", pkgPath:= "lithophane/collapse", byteOffset:=96 },{ name:= "rest", type:=27,offset:=11,embedded:=X9,tag:= "", pkgPath:= "lithophane/collapse", byteOffset:=120 }]:Array Field).mapM λf=>do pure (f.offset,<-sizeOf f.type):Sem (Array (Nat×Nat))).run G1 w=.ok #[(0,1),(1,3),(4,3),(7,1),(8,1),(9,1),(10,1),(11,1)] w:=by
 simp[jt,eT Gq,eT iA,eT aA,eT Tp]
def Qv{v3 v4:ak}(a:v0.cells = #[A])(h1:v1.cells = #[B,C,D])(h2:v2.cells = #[E,F,vd])(b:v3.cells = #[v8])(c:v4.cells = #[ve])(w:an):(Instr.build 218 #[(0,v0),(1,v1),(2,v2),(3,v3),(4,v4)]).run G1 w=.ok (.agg #[A,B,C,D,E,F,vd,v8,ve,(.slice G0 0 0),(.slice G0 0 0),(.slice G0 0 0)]) w:=eU oZ alg ae8 (by simp[Instr.fill,jI,a,h1,h2,b,c]) w
def Dj{x2 x3 x4:cw}(a:(ev l x0).cells = #[A])(h1:(ev l x1).cells = #[B,C,D])(h2:(ev l x2).cells = #[E,F,vd])(b:(ev l x3).cells = #[v8])(c:(ev l x4).cells = #[ve]):iD G1 l (.build 218 #[(0,x0),(1,x1),(2,x2),(3,x3),(4,x4)]) ty (.agg #[A,B,C,D,E,F,vd,v8,ve,(.slice G0 0 0),(.slice G0 0 0),(.slice G0 0 0)]):=mR (vs:=#[(0,ev l x0),(1,ev l x1),(2,ev l x2),(3,ev l x3),(4,ev l x4)]) (by simp) λw=>Qv a h1 h2 b c w
def ac3(a:v0.cells = #[A])(h1:v1.cells = #[B])(h2:v2.cells = #[C])(w:an):(Instr.build 243 #[(0,v0),(1,v1),(2,v2)]).run G1 w=.ok (.agg #[A,B,C]) w:=nA underlying243 acZ Gs (by simp[Instr.fill,jI,a,h1,h2]) w
def La{x2:cw}(a:(ev l x0).cells = #[A])(h1:(ev l x1).cells = #[B])(h2:(ev l x2).cells = #[C]):iD G1 l (.build 243 #[(0,x0),(1,x1),(2,x2)]) ty (.agg #[A,B,C]):=mR (vs:=#[(0,ev l x0),(1,ev l x1),(2,ev l x2)]) (by simp) λw=>ac3 a h1 h2 w
def qL(d:Nat){x0:Int}{x1:Int}  : wA G1 (d+2) 30 (.agg #[G x0,G x1,G x2]) (.agg #[G y0,G y1,G y2]) (x0=y0/\x1=y1/\x2=y2):=(wA.struct lQ (by kernel_rfl) (Hk.cons (by decide) (cL bJ rfl) (cL bJ rfl) (wA.int (d:=d+0) fV) (Hk.cons (by decide) (cL bJ rfl) (cL bJ rfl) (wA.int (d:=d+0) fV) (Hk.cons (by decide) (cL bJ rfl) (cL bJ rfl) (wA.int (d:=d+0) fV) Hk.nil)))).iff (by simp only[X4,Y8])
def oQ{x0:Int}{x1:Int}(a:ev l x=(.agg #[G x0,G x1,G x2]))(b:ev l y=(.agg #[G y0,G y1,G y2])):iD G1 l (.binOp .eql 30 x y T') ty (.bool (decide (x0=y0/\x1=y1/\x2=y2))):=aaZ (by kernel_rfl) a b (qL 9998)
def Gu{x0:Int}{x1:Int}(a:ev l x=(.agg #[G x0,G x1,G x2]))(b:ev l y=(.agg #[G y0,G y1,G y2])):iD G1 l (.binOp .neq 30 x y T') ty (.bool (decide (¬(x0=y0/\x1=y1/\x2=y2)))):=aeJ (by kernel_rfl) a b (qL 9998)
def alm(d:Nat){x0:Int}{x1:Int}  : wA G1 (d+2) 36 (.agg #[G x0,G x1,G x2]) (.agg #[G y0,G y1,G y2]) (x0=y0/\x1=y1/\x2=y2):=(wA.array xT bL (uN.cons (cL bJ rfl) (cL bJ rfl) (wA.int (d:=d+0) fV) (uN.cons (cL bJ rfl) (cL bJ rfl) (wA.int (d:=d+0) fV) (uN.cons (cL bJ rfl) (cL bJ rfl) (wA.int (d:=d+0) fV) uN.nil)))).iff (by simp only[X4,Y8])
def aiC{x0:Int}{x1:Int}(a:ev l x=(.agg #[G x0,G x1,G x2]))(b:ev l y=(.agg #[G y0,G y1,G y2])):iD G1 l (.binOp .eql 36 x y T') ty (.bool (decide (x0=y0/\x1=y1/\x2=y2))):=aaZ (by kernel_rfl) a b (alm 9998)
def asd(d:Nat){x0:Int}{x1:Int}        : wA G1 (d+3) 38 (.agg #[G x0,G x1,G x2,G x3,G x4,G x5,G x6,G x7,G x8]) (.agg #[G y0,G y1,G y2,G y3,G y4,G y5,G y6,G y7,G y8]) (x0=y0/\x1=y1/\x2=y2/\x3=y3/\x4=y4/\x5=y5/\x6=y6/\x7=y7/\x8=y8):=(wA.array underlying38 aA (uN.cons (dD aF aA rfl) (dD aF aA rfl) (qL (d+0)) (uN.cons (dD aF aA rfl) (dD aF aA rfl) (qL (d+0)) (uN.cons (dD aF aA rfl) (dD aF aA rfl) (qL (d+0)) uN.nil)))).iff (by simp only[X4,Y8])
def ae9(d:Nat){x0:Int}{x1:Int}        : wA G1 (d+3) 39 (.agg #[G x0,G x1,G x2,G x3,G x4,G x5,G x6,G x7,G x8]) (.agg #[G y0,G y1,G y2,G y3,G y4,G y5,G y6,G y7,G y8]) (x0=y0/\x1=y1/\x2=y2/\x3=y3/\x4=y4/\x5=y5/\x6=y6/\x7=y7/\x8=y8):=(wA.array fN aA (uN.cons (dD aF aA rfl) (dD aF aA rfl) (qL (d+0)) (uN.cons (dD aF aA rfl) (dD aF aA rfl) (qL (d+0)) (uN.cons (dD aF aA rfl) (dD aF aA rfl) (qL (d+0)) uN.nil)))).iff (by simp only[X4,Y8])
def aiD{x0:Int}{x1:Int}(a:ev l x=(.agg #[G x0,G x1,G x2,G x3,G x4,G x5,G x6,G x7,G x8]))(b:ev l y=(.agg #[G y0,G y1,G y2,G y3,G y4,G y5,G y6,G y7,G y8])):iD G1 l (.binOp .eql 39 x y T') ty (.bool (decide (x0=y0/\x1=y1/\x2=y2/\x3=y3/\x4=y4/\x5=y5/\x6=y6/\x7=y7/\x8=y8))):=aaZ (by kernel_rfl) a b (ae9 9997)
def afa(d:Nat){x0:Int}{x1:Int}     : wA G1 (d+3) 56 (.agg #[G x0,G x1,G x2,G x3,G x4,G x5]) (.agg #[G y0,G y1,G y2,G y3,G y4,G y5]) (x0=y0/\x1=y1/\x2=y2/\x3=y3/\x4=y4/\x5=y5):=(wA.array Tm aA (uN.cons (dD aF aA rfl) (dD aF aA rfl) (qL (d+0)) (uN.cons (dD aF aA rfl) (dD aF aA rfl) (qL (d+0)) uN.nil))).iff (by simp only[X4,Y8])
def Tr(d:Nat){x0 y0:Bool}{x1 y1:ByteArray}:wA G1 (d+2) 95 (.agg #[.bool x0,.string x1]) (.agg #[.bool y0,.string y1]) (x0=y0/\x1=y1):=(wA.struct Hz (by kernel_rfl) (Hk.cons (by decide) (cL xV rfl) (cL xV rfl) (wA.bool (d:=d+0) aeZ) (Hk.cons (by decide) (cL aq9 rfl) (cL aq9 rfl) (wA.str (d:=d+0) rC) Hk.nil))).iff (by simp only[X4,Y8])
def aiE{x0 y0:Bool}{x1 y1:ByteArray}(a:ev l x=(.agg #[.bool x0,.string x1]))(b:ev l y=(.agg #[.bool y0,.string y1])):iD G1 l (.binOp .neq 95 x y T') ty (.bool (decide (¬(x0=y0/\x1=y1)))):=aeJ (by kernel_rfl) a b (Tr 9998)
def apb(d:Nat){x0:Int}{x1:Int}     : wA G1 (d+3) 215 (.agg #[G x0,G x1,G x2,G x3,G x4,G x5]) (.agg #[G y0,G y1,G y2,G y3,G y4,G y5]) (x0=y0/\x1=y1/\x2=y2/\x3=y3/\x4=y4/\x5=y5):=(wA.struct wX (by kernel_rfl) (Hk.cons (by decide) (dD aF aA rfl) (dD aF aA rfl) (qL (d+0)) (Hk.cons (by decide) (dD aF aA rfl) (dD aF aA rfl) (qL (d+0)) Hk.nil))).iff (by simp only[X4,Y8])
def apc(d:Nat){x0 y0:Bool}{x1 y1:ByteArray}{x2 y2:Bool}{x3 y3:ByteArray}{x4 y4:Bool}{x5 y5:ByteArray}{x6 y6:Bool}{x7 y7:ByteArray}:wA G1 (d+3) 229 (.agg #[.bool x0,.string x1,.bool x2,.string x3,.bool x4,.string x5,.bool x6,.string x7]) (.agg #[.bool y0,.string y1,.bool y2,.string y3,.bool y4,.string y5,.bool y6,.string y7]) (x0=y0/\x1=y1/\x2=y2/\x3=y3/\x4=y4/\x5=y5/\x6=y6/\x7=y7):=(wA.array underlying229 aO (uN.cons (dD cE aO rfl) (dD cE aO rfl) (Tr (d+0)) (uN.cons (dD cE aO rfl) (dD cE aO rfl) (Tr (d+0)) (uN.cons (dD cE aO rfl) (dD cE aO rfl) (Tr (d+0)) (uN.cons (dD cE aO rfl) (dD cE aO rfl) (Tr (d+0)) uN.nil))))).iff (by simp only[X4,Y8])
end
section
variable{l:List ak}{ty:bh}{x y x0 x1 x2 x3 x4:cw}{k:IntKind}{c0 c1 c2 c3 c4 c5 c6 c7 c8 c9 c10 c11 c12 c13 c14 c15 c16 c17 A B C D E F vd v8 ve J K L M N O0 P R S:ak}{ds:List eh}{ops:Array Oper}{rest:List Oper}{d:Nat}{pos:String}{after:Array Edge}{w:an}
def jV(a:ev l x=.agg #[c0,c1,c2])(b:ev l y=.int k 0):iD G1 l (.index 36 x y) ty c0:=rL xT bJ bL a b (by decide) (by decide) rfl
def jW(a:ev l x=.agg #[c0,c1,c2])(b:ev l y=.int k 1):iD G1 l (.index 36 x y) ty c1:=rL xT bJ bL a b (by decide) (by decide) rfl
def jX(a:ev l x=.agg #[c0,c1,c2])(b:ev l y=.int k 2):iD G1 l (.index 36 x y) ty c2:=rL xT bJ bL a b (by decide) (by decide) rfl
def jY(a:ev l x=.agg #[c0,c1,c2,c3,c4,c5,c6,c7,c8])(b:ev l y=.int k 0):iD G1 l (.index 39 x y) ty (.agg #[c0,c1,c2]):=rM fN aF aA a b (by decide) (by decide) rfl
def jZ(a:ev l x=.agg #[c0,c1,c2,c3,c4,c5,c6,c7,c8])(b:ev l y=.int k 1):iD G1 l (.index 39 x y) ty (.agg #[c3,c4,c5]):=rM fN aF aA a b (by decide) (by decide) rfl
def kA(a:ev l x=.agg #[c0,c1,c2,c3,c4,c5,c6,c7,c8])(b:ev l y=.int k 2):iD G1 l (.index 39 x y) ty (.agg #[c6,c7,c8]):=rM fN aF aA a b (by decide) (by decide) rfl
def Ia(a:ev l x=.agg #[c0,c1,c2])(b:ev l y=.int k 0):iD G1 l (.index 243 x y) ty c0:=rL underlying243 abe Gs a b (by decide) (by decide) rfl
def Ib(a:ev l x=.agg #[c0,c1,c2])(b:ev l y=.int k 1):iD G1 l (.index 243 x y) ty c1:=rL underlying243 abe Gs a b (by decide) (by decide) rfl
def Ic(a:ev l x=.agg #[c0,c1,c2])(b:ev l y=.int k 2):iD G1 l (.index 243 x y) ty c2:=rL underlying243 abe Gs a b (by decide) (by decide) rfl
def Xu(a:ev l x=.agg #[c0,c1,c2,c3,c4,c5])(b:ev l y=.int k 0):iD G1 l (.index 273 x y) ty (.agg #[c0,c1]):=rM underlying273 cE aO a b (by decide) (by decide) rfl
def Xv(a:ev l x=.agg #[c0,c1,c2,c3,c4,c5])(b:ev l y=.int k 1):iD G1 l (.index 273 x y) ty (.agg #[c2,c3]):=rM underlying273 cE aO a b (by decide) (by decide) rfl
def Xw(a:ev l x=.agg #[c0,c1,c2,c3,c4,c5])(b:ev l y=.int k 2):iD G1 l (.index 273 x y) ty (.agg #[c4,c5]):=rM underlying273 cE aO a b (by decide) (by decide) rfl
def Xx(a:ev l x=.agg #[c0,c1,c2,c3,c4,c5,c6,c7,c8,c9,c10,c11,c12,c13,c14,c15,c16,c17])(b:ev l y=.int k 0):iD G1 l (.index 280 x y) ty (.agg #[c0,c1,c2,c3,c4,c5]):=rM underlying280 Gr wK a b (by decide) (by decide) rfl
def Xy(a:ev l x=.agg #[c0,c1,c2,c3,c4,c5,c6,c7,c8,c9,c10,c11,c12,c13,c14,c15,c16,c17])(b:ev l y=.int k 1):iD G1 l (.index 280 x y) ty (.agg #[c6,c7,c8,c9,c10,c11]):=rM underlying280 Gr wK a b (by decide) (by decide) rfl
def Xz(a:ev l x=.agg #[c0,c1,c2,c3,c4,c5,c6,c7,c8,c9,c10,c11,c12,c13,c14,c15,c16,c17])(b:ev l y=.int k 2):iD G1 l (.index 280 x y) ty (.agg #[c12,c13,c14,c15,c16,c17]):=rM underlying280 Gr wK a b (by decide) (by decide) rfl
def Ya(a:ev l x=.agg #[c0,c1,c2])(b:ev l y=.int k 0):iD G1 l (.index 333 x y) ty c0:=rL underlying333 bJ bL a b (by decide) (by decide) rfl
def Yb(a:ev l x=.agg #[c0,c1,c2])(b:ev l y=.int k 1):iD G1 l (.index 333 x y) ty c1:=rL underlying333 bJ bL a b (by decide) (by decide) rfl
def Yc(a:ev l x=.agg #[c0,c1,c2])(b:ev l y=.int k 2):iD G1 l (.index 333 x y) ty c2:=rL underlying333 bJ bL a b (by decide) (by decide) rfl
def nJ{Q:Exit->Act->an->Prop}(a:(ev l x0).cells = #[A,B,C,D,E,F,vd,v8,ve])(h:∀w' g,eQ w w'->w.heap.size<=g->fK w' g [A,B,C,D,E,F,vd,v8,ve] 39->bf G1 ops Q rest (Fr (l.set d (.slice (H ⟨g,0,G0⟩) 1 1)) ds) w'):bf G1 ops Q (ci (H d) (.buildSlice 27 1 #[(0,x0)]) ty pos after G0::rest) (Fr l ds) w:=
 mA (vs:=#[(0,ev l x0)]) (base:=#[G 0,G 0,G 0,G 0,G 0,G 0,G 0,G 0,G 0]) (c:=9) (z:=(.agg #[G 0,G 0,G 0,G 0,G 0,G 0,G 0,G 0,G 0])) fP (by kernel_rfl) (by decide) (by decide) (by kernel_rfl) (by simp) (by simp[Instr.fill,a]) h
def Ag{Q:Exit->Act->an->Prop}(a:(ev l x0).cells = #[A,B,C,D,E,F,vd,v8,ve])(h1:(ev l x1).cells = #[J,K,L,M,N,O0,P,R,S])(h:∀w' g,eQ w w'->w.heap.size<=g->fK w' g [A,B,C,D,E,F,vd,v8,ve,J,K,L,M,N,O0,P,R,S] 39->bf G1 ops Q rest (Fr (l.set d (.slice (H ⟨g,0,G0⟩) 2 2)) ds) w'):bf G1 ops Q (ci (H d) (.buildSlice 27 2 #[(0,x0),(1,x1)]) ty pos after G0::rest) (Fr l ds) w:=
 mA (vs:=#[(0,ev l x0),(1,ev l x1)]) (base:=#[G 0,G 0,G 0,G 0,G 0,G 0,G 0,G 0,G 0,G 0,G 0,G 0,G 0,G 0,G 0,G 0,G 0,G 0]) (c:=9) (z:=(.agg #[G 0,G 0,G 0,G 0,G 0,G 0,G 0,G 0,G 0])) fP (by kernel_rfl) (by decide) (by decide) (by kernel_rfl) (by simp) (by simp[Instr.fill,a,h1]) h
def Zs{Q:Exit->Act->an->Prop}{T U V W X Y Z b e f i j k m n o p q:ak}(a:(ev l x0).cells = #[A,B,C,D,E,F,vd,v8,ve])(h1:(ev l x1).cells = #[J,K,L,M,N,O0,P,R,S])(h2:(ev l x2).cells = #[T,U,V,W,X,Y,Z,b,e])(r:(ev l x3).cells = #[f,i,j,k,m,n,o,p,q])(h:∀w' g,eQ w w'->w.heap.size<=g->fK w' g [A,B,C,D,E,F,vd,v8,ve,J,K,L,M,N,O0,P,R,S,T,U,V,W,X,Y,Z,b,e,f,i,j,k,m,n,o,p,q] 39->bf G1 ops Q rest (Fr (l.set d (.slice (H ⟨g,0,G0⟩) 4 4)) ds) w'):bf G1 ops Q (ci (H d) (.buildSlice 27 4 #[(0,x0),(1,x1),(2,x2),(3,x3)]) ty pos after G0::rest) (Fr l ds) w:=
 mA (vs:=#[(0,ev l x0),(1,ev l x1),(2,ev l x2),(3,ev l x3)]) (base:=#[G 0,G 0,G 0,G 0,G 0,G 0,G 0,G 0,G 0,G 0,G 0,G 0,G 0,G 0,G 0,G 0,G 0,G 0,G 0,G 0,G 0,G 0,G 0,G 0,G 0,G 0,G 0,G 0,G 0,G 0,G 0,G 0,G 0,G 0,G 0,G 0]) (c:=9) (z:=(.agg #[G 0,G 0,G 0,G 0,G 0,G 0,G 0,G 0,G 0])) fP (by kernel_rfl) (by decide) (by decide) (by kernel_rfl) (by simp) (by simp[Instr.fill,a,h1,h2,r]) h
def aiF{Q:Exit->Act->an->Prop}{a:cw}{T U V W X Y Z b e f i j k m n o p q r s u t v x y I O A6 A7 A8 A9 B0 B1 B2 B3 B4:ak}(h0:(ev l x0).cells = #[A,B,C,D,E,F,vd,v8,ve])(h1:(ev l x1).cells = #[J,K,L,M,N,O0,P,R,S])(h2:(ev l x2).cells = #[T,U,V,W,X,Y,Z,b,e])(h3:(ev l x3).cells = #[f,i,j,k,m,n,o,p,q])(h4:(ev l x4).cells = #[r,s,u,t,v,x,y,I,O])(h5:(ev l a).cells = #[A6,A7,A8,A9,B0,B1,B2,B3,B4])(h:∀w' g,eQ w w'->w.heap.size<=g->fK w' g [A,B,C,D,E,F,vd,v8,ve,J,K,L,M,N,O0,P,R,S,T,U,V,W,X,Y,Z,b,e,f,i,j,k,m,n,o,p,q,r,s,u,t,v,x,y,I,O,A6,A7,A8,A9,B0,B1,B2,B3,B4] 39->bf G1 ops Q rest (Fr (l.set d (.slice (H ⟨g,0,G0⟩) 6 6)) ds) w'):bf G1 ops Q (ci (H d) (.buildSlice 27 6 #[(0,x0),(1,x1),(2,x2),(3,x3),(4,x4),(5,a)]) ty pos after G0::rest) (Fr l ds) w:=
 mA (vs:=#[(0,ev l x0),(1,ev l x1),(2,ev l x2),(3,ev l x3),(4,ev l x4),(5,ev l a)]) (base:=#[G 0,G 0,G 0,G 0,G 0,G 0,G 0,G 0,G 0,G 0,G 0,G 0,G 0,G 0,G 0,G 0,G 0,G 0,G 0,G 0,G 0,G 0,G 0,G 0,G 0,G 0,G 0,G 0,G 0,G 0,G 0,G 0,G 0,G 0,G 0,G 0,G 0,G 0,G 0,G 0,G 0,G 0,G 0,G 0,G 0,G 0,G 0,G 0,G 0,G 0,G 0,G 0,G 0,G 0]) (c:=9) (z:=(.agg #[G 0,G 0,G 0,G 0,G 0,G 0,G 0,G 0,G 0])) fP (by kernel_rfl) (by decide) (by decide) (by kernel_rfl) (by simp) (by simp[Instr.fill,h0,h1,h2,h3,h4,h5]) h
def tA{Q:Exit->Act->an->Prop}(a:(ev l x0).cells = #[A,B,C,D,E,F])(h:∀w' g,eQ w w'->w.heap.size<=g->fK w' g [A,B,C,D,E,F] 55->bf G1 ops Q rest (Fr (l.set d (.slice (H ⟨g,0,G0⟩) 1 1)) ds) w'):bf G1 ops Q (ci (H d) (.buildSlice 46 1 #[(0,x0)]) ty pos after G0::rest) (Fr l ds) w:=
 mA (vs:=#[(0,ev l x0)]) (base:=#[G 0,G 0,G 0,G 0,G 0,G 0]) (c:=6) (z:=(.agg #[G 0,G 0,G 0,G 0,G 0,G 0])) Hx (by kernel_rfl) (by decide) (by decide) (by kernel_rfl) (by simp) (by simp[Instr.fill,a]) h
def Nm{Q:Exit->Act->an->Prop}(a:(ev l x0).cells = #[A,B,C,D,E,F])(h:∀w' g,eQ w w'->w.heap.size<=g->fK w' g [A,B,C,D,E,F] 56->bf G1 ops Q rest (Fr (l.set d (.slice (H ⟨g,0,G0⟩) 1 1)) ds) w'):bf G1 ops Q (ci (H d) (.buildSlice 52 1 #[(0,x0)]) ty pos after G0::rest) (Fr l ds) w:=
 mA (vs:=#[(0,ev l x0)]) (base:=#[G 0,G 0,G 0,G 0,G 0,G 0]) (c:=6) (z:=(.agg #[G 0,G 0,G 0,G 0,G 0,G 0])) xU (by kernel_rfl) (by decide) (by decide) (by kernel_rfl) (by simp) (by simp[Instr.fill,a]) h
def aiG{Q:Exit->Act->an->Prop}(a:(ev l x0).cells = #[A,B,C,D,E,F])(h1:(ev l x1).cells = #[vd,v8,ve,J,K,L])(h2:(ev l x2).cells = #[M,N,O0,P,R,S])(h:∀w' g,eQ w w'->w.heap.size<=g->fK w' g [A,B,C,D,E,F,vd,v8,ve,J,K,L,M,N,O0,P,R,S] 56->bf G1 ops Q rest (Fr (l.set d (.slice (H ⟨g,0,G0⟩) 3 3)) ds) w'):bf G1 ops Q (ci (H d) (.buildSlice 52 3 #[(0,x0),(1,x1),(2,x2)]) ty pos after G0::rest) (Fr l ds) w:=
 mA (vs:=#[(0,ev l x0),(1,ev l x1),(2,ev l x2)]) (base:=#[G 0,G 0,G 0,G 0,G 0,G 0,G 0,G 0,G 0,G 0,G 0,G 0,G 0,G 0,G 0,G 0,G 0,G 0]) (c:=6) (z:=(.agg #[G 0,G 0,G 0,G 0,G 0,G 0])) xU (by kernel_rfl) (by decide) (by decide) (by kernel_rfl) (by simp) (by simp[Instr.fill,a,h1,h2]) h
def tC{Q:Exit->Act->an->Prop}(a:(ev l x0).cells = #[A,B,C])(h:∀w' g,eQ w w'->w.heap.size<=g->fK w' g [A,B,C] 30->bf G1 ops Q rest (Fr (l.set d (.slice (H ⟨g,0,G0⟩) 1 1)) ds) w'):bf G1 ops Q (ci (H d) (.buildSlice 65 1 #[(0,x0)]) ty pos after G0::rest) (Fr l ds) w:=
 mA (vs:=#[(0,ev l x0)]) (base:=#[G 0,G 0,G 0]) (c:=3) (z:=(.agg #[G 0,G 0,G 0])) kK (by kernel_rfl) (by decide) (by decide) (by kernel_rfl) (by simp) (by simp[Instr.fill,a]) h
def Zt{Q:Exit->Act->an->Prop}(a:(ev l x0).cells = #[A,B,C])(h1:(ev l x1).cells = #[D,E,F])(h2:(ev l x2).cells = #[vd,v8,ve])(b:(ev l x3).cells = #[J,K,L])(h:∀w' g,eQ w w'->w.heap.size<=g->fK w' g [A,B,C,D,E,F,vd,v8,ve,J,K,L] 30->bf G1 ops Q rest (Fr (l.set d (.slice (H ⟨g,0,G0⟩) 4 4)) ds) w'):bf G1 ops Q (ci (H d) (.buildSlice 65 4 #[(0,x0),(1,x1),(2,x2),(3,x3)]) ty pos after G0::rest) (Fr l ds) w:=
 mA (vs:=#[(0,ev l x0),(1,ev l x1),(2,ev l x2),(3,ev l x3)]) (base:=#[G 0,G 0,G 0,G 0,G 0,G 0,G 0,G 0,G 0,G 0,G 0,G 0]) (c:=3) (z:=(.agg #[G 0,G 0,G 0])) kK (by kernel_rfl) (by decide) (by decide) (by kernel_rfl) (by simp) (by simp[Instr.fill,a,h1,h2,b]) h
def afb{Q:Exit->Act->an->Prop}(a:(ev l x0).cells = #[A,B,C,D,E,F,vd,v8])(h:∀w' g,eQ w w'->w.heap.size<=g->fK w' g [A,B,C,D,E,F,vd,v8] 112->bf G1 ops Q rest (Fr (l.set d (.slice (H ⟨g,0,G0⟩) 1 1)) ds) w'):bf G1 ops Q (ci (H d) (.buildSlice 105 1 #[(0,x0)]) ty pos after G0::rest) (Fr l ds) w:=
 mA (vs:=#[(0,ev l x0)]) (base:=#[G 0,G 0,G 0,G 0,G 0,G 0,.bool X9,.string ⟨#[]⟩]) (c:=8) (z:=(.agg #[G 0,G 0,G 0,G 0,G 0,G 0,.bool X9,.string ⟨#[]⟩])) underlying105 (by kernel_rfl) (by decide) (by decide) (by kernel_rfl) (by simp) (by simp[Instr.fill,a]) h
def afc{Q:Exit->Act->an->Prop}(a:(ev l x0).cells = #[A])(h1:(ev l x1).cells = #[B])(h2:(ev l x2).cells = #[C])(b:(ev l x3).cells = #[D])(e:(ev l x4).cells = #[E])(h:∀w' g,eQ w w'->w.heap.size<=g->fK w' g [A,B,C,D,E] 151->bf G1 ops Q rest (Fr (l.set d (.slice (H ⟨g,0,G0⟩) 5 5)) ds) w'):bf G1 ops Q (ci (H d) (.buildSlice 152 5 #[(0,x0),(1,x1),(2,x2),(3,x3),(4,x4)]) ty pos after G0::rest) (Fr l ds) w:=
 mA (vs:=#[(0,ev l x0),(1,ev l x1),(2,ev l x2),(3,ev l x3),(4,ev l x4)]) (base:=#[.nilFunc,.nilFunc,.nilFunc,.nilFunc,.nilFunc]) (c:=1) (z:=(.agg #[.nilFunc])) underlying152 (by kernel_rfl) (by decide) (by decide) (by kernel_rfl) (by simp) (by simp[Instr.fill,a,h1,h2,b,e]) h
def afd{Q:Exit->Act->an->Prop}{a:cw}(b:(ev l x0).cells = #[A])(h1:(ev l x1).cells = #[B])(h2:(ev l x2).cells = #[C])(e:(ev l x3).cells = #[D])(f:(ev l x4).cells = #[E])(i:(ev l a).cells = #[F])(h:∀w' g,eQ w w'->w.heap.size<=g->fK w' g [A,B,C,D,E,F] 26->bf G1 ops Q rest (Fr (l.set d (.slice (H ⟨g,0,G0⟩) 6 6)) ds) w'):bf G1 ops Q (ci (H d) (.buildSlice 157 6 #[(0,x0),(1,x1),(2,x2),(3,x3),(4,x4),(5,a)]) ty pos after G0::rest) (Fr l ds) w:=
 mA (vs:=#[(0,ev l x0),(1,ev l x1),(2,ev l x2),(3,ev l x3),(4,ev l x4),(5,ev l a)]) (base:=#[.nilFunc,.nilFunc,.nilFunc,.nilFunc,.nilFunc,.nilFunc]) (c:=1) (z:=(.nilFunc)) underlying157 (by kernel_rfl) (by decide) (by decide) (by kernel_rfl) (by simp) (by simp[Instr.fill,b,h1,h2,e,f,i]) h
def afe{Q:Exit->Act->an->Prop}(a:(ev l x0).cells = #[A,B,C,D,E,F])(h:∀w' g,eQ w w'->w.heap.size<=g->fK w' g [A,B,C,D,E,F] 215->bf G1 ops Q rest (Fr (l.set d (.slice (H ⟨g,0,G0⟩) 1 1)) ds) w'):bf G1 ops Q (ci (H d) (.buildSlice 212 1 #[(0,x0)]) ty pos after G0::rest) (Fr l ds) w:=
 mA (vs:=#[(0,ev l x0)]) (base:=#[G 0,G 0,G 0,G 0,G 0,G 0]) (c:=6) (z:=(.agg #[G 0,G 0,G 0,G 0,G 0,G 0])) underlying212 (by kernel_rfl) (by decide) (by decide) (by kernel_rfl) (by simp) (by simp[Instr.fill,a]) h
end
end Go.Proofs.YtfekpcimgncioaaGreatDoor
namespace Go.Lith
section
open Go.RowKit
variable{w:an}{c:Nat}
def gQ(w:an)(g:Nat)(es:Array cu)(c:Nat):Prop:=w.heap[g]? = H (.map es c)
def uT(w:an)(r g s:Nat)(seen:Array Nat)(c:Nat):Prop:=w.heap[r]? = H (.mapIter (H g) s seen c)
def gQ.ext{w':an}{g:Nat}{es:Array cu}(h:gQ w g es c)(a:eQ w w'):gQ w' g es c:=a.block h
def uT.ext{w':an}{r g s:Nat}{seen:Array Nat}(h:uT w r g s seen c)(a:eQ w w'):uT w' r g s seen c:=a.block h
def gQ.lt{g:Nat}{es:Array cu}(h:gQ w g es c):g<w.heap.size:=(ec.1 h).1
def uT.lt{r g s:Nat}{seen:Array Nat}(h:uT w r g s seen c):r<w.heap.size:=(ec.1 h).1
section
variable{P:cg}{ds:List eh}{l:List ak}{x:cw}{T ty:bh}{ops:Array Oper}{Q:Exit->Act->an->Prop}{rest:List Oper}{d:Nat}{pos:String}{after:Array Edge}{w:an}
def aiH(h:∀w' g,eQ w w'->w.heap.size<=g->gQ w' g #[] 0->bf P ops Q rest (Fr (l.set d (.map (H g))) ds) w'):bf P ops Q (ci (H d) (.makeMap T G0) ty pos after G0::rest) (Fr l ds) w:=
 lK (w':=w.alloc (.map #[] 0)) (v:=.map (H w.heap.size)) (λo a _=>by simp[N,a,Instr.makeMap,newObj,Sem.run]) (h _ _ ((eQ.refl w).alloc _) (ba _) (heap_alloc_new w _))
def agX{k e:bh}{g c:Nat}{es:Array cu}(f:P.underlying T=H (.map k e))(i:ev l x=.map (H g))(a:gQ w g es c)(h:∀w' r,eQ w w'->w.heap.size<=r->uT w' r g c #[] c->bf P ops Q rest (Fr (l.set d (.pointer (H ⟨r,0,G0⟩))) ds) w') :
 bf P ops Q (ci (H d) (.range T x) ty pos after G0::rest) (Fr l ds) w:=
 lK (w':=w.alloc (.mapIter (H g) c #[] c)) (v:=.pointer (H ⟨w.heap.size,0,G0⟩)) (λo b _=>by
  unfold gQ at a;simp[N,b,cK,i,Instr.range,cq f,getObj,a,newObj,Sem.run]) (h _ _ ((eQ.refl w).alloc _) (ba _) (heap_alloc_new w _))
end
end
section
open Go.RowKit Go.ChangeMaps Go.MapKept
variable{c:Nat}
/-! ### Lists of pairs -/
section
variable{K V:Type}[DecidableEq K]
def fL:List (K×V)->K->V->List (K×V)
 | [],k,v=>[(k,v)]
 |x::D,k,v=>if x.1=k then (k,v)::D else x::fL D k v
def bS:List (K×V)->K->Option V
 | [],_=>G0
 |x::D,k=>if x.1=k then H x.2 else bS D k
def sR:List (K×V)->K->List (K×V)
 | [],_=>[]
 |x::D,k=>if x.1=k then D else x::sR D k
def pM:List (K×V)->K->Nat->Option (Nat×V)
 | [],_,_=>G0
 |x::D,k,i=>if x.1=k then H (i,x.2) else pM D k (i+1)
def oA:∀(D:List (K×V)) (k:K) (i:Nat),pM D k i=G0->bS D k=G0/\(∀u,fL D k u=D++[(k,u)])/\sR D k=D
 | [],_,_,_=>⟨rfl,λ_=>rfl,rfl⟩
 |x::D,k,i,h=>by
  unfold pM at h;by_cases e:x.1=k
  .rw[Z9 e] at h;cases h
  rw[K0 e] at h
  obtain⟨h1,h2,a⟩:=oA D k (i+1) h;exact⟨by simp[bS,e,h1],λu=>by simp[fL,e,h2],by simp[sR,e,a]⟩
def lN:∀(D:List (K×V)) (k:K) (i j:Nat) (v:V),pM D k i=H (j,v)->∃p,j=i+p/\D[p]? = H (k,v)/\bS D k=H v/\(∀u,fL D k u=D.set p (k,u))/\sR D k=D.eraseIdx p
 | [],_,_,_,_,h=>by cases h
 |x::D,k,i,j,v,h=>by
  unfold pM at h;by_cases e:x.1=k
  . rw[Z9 e] at h
    cases h;obtain⟨a,b⟩:=x;obtain rfl:a=k:=e;exact⟨0,O,O,by simp[bS],λu=>by simp[fL],by simp[sR]⟩
  rw[K0 e] at h
  obtain⟨p,h1,h2,c,d,f⟩:=lN D k (i+1) j v h;exact⟨p+1,by omega,by simpa using h2,by simp[bS,e,c],λu=>by simp[fL,e,d],by simp[sR,e,f]⟩
def kH:∀(D:List (K×V)) (k a:K) (v:V),bS (fL D k v) a=if k=a then H v else bS D a
 | [],k,a,v=>by simp[fL,bS]
 |x::D,k,a,v=>by
  unfold fL;by_cases e:x.1=k
  . rw[Z9 e]
    subst e;by_cases b:x.1=a<;>simp[bS,b]
  rw[K0 e]
  unfold bS;rw[kH D k a v];by_cases b:x.1=a
  .rw[Z9 b,Z9 b,K0 (λh=>e (b.trans h.symm))]
  rw[K0 b,K0 b]
def rW:∀{D:List (K×V)} {k:K} {v:V},bS D k=H v->(k,v)∈D
 | [],_,_,h=>by cases h
 |x::D,k,v,h=>by
  unfold bS at h;split at h
  .rename_i e;cases h;subst e;exact bq ..
  exact br _ (rW h)
def kW:∀{D:List (K×V)} {k:K},bS D k=G0↔k∉D.map (·.1)
 | [],_=>by simp[bS]
 |x::D,k=>by
  unfold bS;split
  .rename_i e;simp[e]
  rename_i e
  rw[kW (D:=D)];simp only[bm,av,not_or];exact⟨λh=>⟨λa=>e a.symm,h⟩,λh=>h.2⟩
def lG:∀{D:List (K×V)} {k:K} {v:V},(D.map (·.1)).Nodup->(k,v)∈D->bS D k=H v
 | [],_,_,_,h=>by cases h
 |x::D,k,v,b,h=>by
  have a:=gv.1 b;unfold bS;rcases av.1 h with rfl|h
  .simp
  rw[K0 λe=>a.1 (by show x.1∈_;rw[e];exact c_.2 ⟨_,h,O⟩)]
  exact lG a.2 h
def wL:∀(D:List (K×V)) (k:K) (v:V),(fL D k v).map (·.1)=if k∈D.map (·.1) then D.map (·.1) else D.map (·.1)++[k]
 | [],k,v=>by simp[fL]
 |x::D,k,v=>by
  unfold fL;by_cases e:x.1=k
  .simp[e]
  have a:¬k=x.1:=λh=>e h.symm
  simp only[K0 e,bm,wL D k v,av,a,false_or];split<;>simp
def tD{D:List (K×V)}(h:(D.map (·.1)).Nodup)(k:K)(v:V):((fL D k v).map (·.1)).Nodup:=by
 rw[wL];split
 .exact h
 rename_i f
 exact jv.2 ⟨h,by simp,λa c b d e=>by rw[bp.1 d] at e;exact f (e▸c)⟩
def Nn:∀{D:List (K×V)} (k b:K),(D.map (·.1)).Nodup->bS (sR D k) b=if k=b then G0 else bS D b
 | [],k,b,_=>by simp[sR,bS]
 |x::D,k,b,d=>by
  have c:=gv.1 d;unfold sR;by_cases e:x.1=k
  . rw[Z9 e]
    by_cases a:k=b
    . rw[Z9 a]
      exact kW.2 (by rw[<-a,<-e];exact c.1)
    rw[K0 a]
    simp[bS,e,a]
  rw[K0 e]
  unfold bS;rw[Nn k b c.2];by_cases a:x.1=b
  .rw[Z9 a,Z9 a,K0 (λh=>e (a.trans h.symm))]
  rw[K0 a,K0 a]
def ac4:∀(D:List (K×V)) (k:K),(sR D k).Sublist D
 | [],_=>List.Sublist.refl _
 |x::D,k=>by
  unfold sR;split
  .exact List.sublist_cons_self _ _
  exact (ac4 D k).cons_cons x
def Ts{D:List (K×V)}(h:(D.map (·.1)).Nodup)(k:K):((sR D k).map (·.1)).Nodup:=h.sublist ((ac4 D k).map _)
end
/-! ### A map's entries -/
def Ye(e:cu):ak×ak:=(e.key,e.val)
structure bC{K V:Type}(ek:K->ak)(ev:V->ak)(D:List (K×V))(es:Array cu)(c:Nat):Prop where
 cells:es.toList.map Ye=D.map λx=>(ek x.1,ev x.2)
 born:∀e∈es.toList,e.born<c
 nd:(es.toList.map (·.born)).Nodup
def bC.nil{K V:Type}(ek:K->ak)(ev:V->ak):bC ek ev ([]:List (K×V)) #[] 0:=⟨rfl,λ_ h=>by simp at h,by simp⟩
def bC.len{K V:Type}{ek:K->ak}{ev:V->ak}{D:List (K×V)}{es:Array cu}(h:bC ek ev D es c):es.size=D.length:=by
 have:=Y1 py h.cells;simpa using this
structure rX{K:Type}[DecidableEq K](P:cg)(T:bh)(ek:K->ak):Prop where
 chk:∀e k w,(Instr.checkKey e 10000 T (ek k)).run P w=.ok () w
 now:∃t,P.underlying T=H t/\∀a b,Instr.sameNow t (ek a) (ek b)=G0\/Instr.sameNow t (ek a) (ek b)=H (decide (a=b))
 eq:∀a b w,(Op.equal T (ek a) (ek b)).run P w=.ok (decide (a=b)) w
 bits:∀a,Instr.sameBits 10000 (ek a) (ek a)=Z
section
variable{K V:Type}[DecidableEq K]{P:cg}{T:bh}{ek:K->ak}{ev:V->ak}
def Ps(b:rX P T ek)(k:K)(w:an):∀(L:List cu) (D:List (K×V)) (i:Nat),L.map Ye=D.map (λx=>(ek x.1,ev x.2)) ->
 (Instr.findAsking T (ek k) L i).run P w=.ok ((pM D k i).map λp=>(p.1,ev p.2)) w
 | [],D,i,h=>by
  obtain rfl:D=[]:=by simpa using h.symm
  simp[Instr.findAsking,pM]
 |e::L,[],i,h=>by simp at h
 |e::L,x::D,i,h=>by
  simp only[bm,nj,Ye,fy] at h;obtain⟨⟨h1,h2⟩,c⟩:=h;have ih:=Ps b k w L D (i+1) c;unfold Instr.findAsking pM;rw[h1,h2];simp only[Sem.run_bind,b.eq,Result.andThen];by_cases a:x.1=k
  . rw[Z9 (Y5 a.symm),Z9 a]
    rfl
  rw[K0 (by rw[Y6 (Ne.symm a)];exact fh),K0 a]
  exact ih
def ac5(t:TypeDesc)(k:K)(d:∀a b:K,Instr.sameNow t (ek a) (ek b)=G0\/Instr.sameNow t (ek a) (ek b)=H (decide (a=b))):∀(L:List cu) (D:List (K×V)) (i:Nat),L.map Ye=D.map (λx=>(ek x.1,ev x.2)) ->
 Instr.findNow t (ek k) L i=G0\/Instr.findNow t (ek k) L i=H ((pM D k i).map λp=>(p.1,ev p.2))
 | [],D,i,h=>by
  obtain rfl:D=[]:=by simpa using h.symm
  simp[Instr.findNow,pM]
 |e::L,[],i,h=>by simp at h
 |e::L,x::D,i,h=>by
  simp only[bm,nj,Ye,fy] at h;obtain⟨⟨h1,h2⟩,f⟩:=h;have ih:=ac5 t k d L D (i+1) f;unfold Instr.findNow pM;rw[h1,h2];rcases d k x.1 with e0|e0
  .left;rw[e0]
  rw[e0]
  by_cases c:x.1=k
  .right;simp[c]
  rw[show decide (k=x.1)=X9 from Y6 (Ne.symm c)]
  simpa[c] using ih
def rY(a:rX P T ek)(k:K)(w:an){es:Array cu}{D:List (K×V)}(h:bC ek ev D es c):(Instr.findKey T (ek k) es.toList).run P w=.ok ((pM D k 0).map λp=>(p.1,ev p.2)) w:=by
 obtain⟨t,d,b⟩:=a.now;unfold Instr.findKey;simp only[Sem.run_bind,cq d,Result.andThen];rcases ac5 t k b es.toList D 0 h.cells with e|e
 . rw[e]
   exact Ps a k w es.toList D 0 h.cells
 rw[e]
 rfl
end
section
variable{K V:Type}[DecidableEq K]{P:cg}{T M E ty:bh}{ek:K->ak}{ev:V->ak}{w w0:an}{g c:Nat}{es:Array cu}{D:List (K×V)}
def Pt{v0:V}(l:P.underlying M=H (.map T E))(f:rX P T ek)(d:gQ w g es c)(h:bC ek ev D es c)(a:qD P E (ev v0))(k:K)(b:Bool) :
 (Instr.lookup M (.map (H g)) (ek k) b).run P w=.ok (if b then .tuple #[ev ((bS D k).getD v0),.bool (bS D k).isSome] else ev ((bS D k).getD v0)) w:=by
 unfold gQ at d;obtain⟨n,i,a⟩:=a;have m:(zeroValue E).run P w=.ok (ev v0) w:=by simp[zeroValue,typeInfo,program,Sem.run,i,a]
 simp only[Instr.lookup,Sem.run_bind,cq l,Result.andThen,getObj,Sem.run,d,Sem.run_pure,f.chk,rY f k w h];cases e:pM D k 0 with
 |none=>
  obtain⟨h1,_⟩:=oA D k 0 e;rw[h1];simp only[rm,Sem.run_bind,m,Result.andThen,Sem.run_pure];cases b<;>rfl
 |some p=>
  obtain⟨j,v⟩:=p;obtain⟨_,_,_,h1,_⟩:=lN D k 0 j v e;rw[h1];simp only[fw,Sem.run_pure,Result.andThen];cases b<;>rfl
def iU{g:Nat}{o o':Obj}(a:w.heap[g]? = H o):(setBlock w g o').heap[g]? = H o':=by
 have:=(ec.1 a).1;simp[setBlock,this]
def oR{g:Nat}(o:Obj):Chg w (setBlock w g o) g:=⟨rfl,rfl,rfl,by simp[setBlock],λk a=>by simp[setBlock,jp (Ne.symm a)]⟩
def Tt{α β:Type}(f:α->β)(L:List α)(i:Nat)(x:α)(g:α->α)(a:L[i]? = H x):(L.modify i g).map f=(L.map f).set i (f (g x)):=by
 apply gt;intro j;simp only[fi,List.getElem?_modify,ki,eb];by_cases e:i=j
 . subst e
   rw[a];have:=(az.1 a).1;simp[this]
 simp[e]
def bC.set(a:bC ek ev D es c){p:Nat}{k:K}{v:V}(m:D[p]? = H (k,v))(u:V):bC ek ev (D.set p (k,u)) (es.modify p λe=>{ e with key:=ek k,val:=ev u }) c:=by
 have l:es.toList.length=D.length:=by have:=Y1 py a.cells;simpa using this
 have f:p<es.toList.length:=by rw[l];exact (az.1 m).1
 have b:es.toList[p]? = H es.toList[p]:=ap f;have d:(es.modify p λe=>{ e with key:=ek k,val:=ev u }).toList.map (·.born)=es.toList.map (·.born):=by
  rw[qr,Tt _ _ _ _ _ b];apply gt;intro j;rw[ki];split
  .rename_i e;subst e;rw[Z9 (by simpa using f),fi,b];rfl
  rfl
 refine⟨?_,λe h=>?_,by rw[d];exact a.nd⟩
 . rw[qr,Tt _ _ _ _ _ b,a.cells,List.map_set]
   rfl
 have:e.born∈(es.modify p λe=>{ e with key:=ek k,val:=ev u }).toList.map (·.born):=c_.2 ⟨e,h,rfl⟩
 rw[d] at this;obtain⟨g,n,i⟩:=c_.1 this;rw[<-i];exact a.born g n
def bC.push(d:bC ek ev D es c)(k:K)(u:V):bC ek ev (D++[(k,u)]) (es.push { key:=ek k,val:=ev u,born:=c }) (c+1):=by
 refine⟨by simp[d.cells,Ye],λe he=>?_,?_⟩
 . rw[qe] at he
   rcases bv.1 he with he|he
   .exact Nat.lt_succ_of_lt (d.born e he)
   rw[bp.1 he];exact Nat.lt_succ_self _
 rw[qe,db]
 refine jv.2 ⟨d.nd,by simp,λa g b h e=>?_⟩;obtain⟨f,i,rfl⟩:=c_.1 g;have:b=c:=by simpa using h
 have:=d.born f i;omega
def bC.erase(a:bC ek ev D es c)(p:Nat):bC ek ev (D.eraseIdx p) (es.eraseIdxIfInBounds p) c:=by
 have e:(es.eraseIdxIfInBounds p).toList=es.toList.eraseIdx p:=by
  by_cases h:p<es.size
  .simp[nt,h]
  simp only[nt,h,dite_false]
  exact (List.eraseIdx_of_length_le (by simpa using im h)).symm
 refine⟨?_,λx b=>a.born x ?_,?_⟩
 .rw[e,map_eraseIdx,a.cells,map_eraseIdx]
 .rw[e] at b;exact List.mem_of_mem_eraseIdx b
 rw[e];exact a.nd.sublist ((List.eraseIdx_sublist _ _).map _)
def ac6(i:P.underlying M=H (.map T E))(e:rX P T ek)(b:gQ w g es c)(a:bC ek ev D es c)(k:K)(u:V) :
 ∃l h,(Instr.mapUpdate M (.map (H g)) (ek k) (ev u)).run P w=.ok () (setBlock w g (.map l h))/\bC ek ev (fL D k u) l h:=by
 unfold gQ at b;cases d:pM D k 0 with
 |none=>
  obtain⟨_,h1,_⟩:=oA D k 0 d;refine⟨_,_,?_,h1 u▸a.push k u⟩;simp only[Instr.mapUpdate,Sem.run_bind,cq i,Result.andThen,getObj,Sem.run,b,Sem.run_pure,e.chk,rY e k w a,d,rm];exact run_setObj_map _ b
 |some p=>
  obtain⟨j,v⟩:=p;obtain⟨p,rfl,f,_,h1,_⟩:=lN D k 0 j v d;rw[aj] at d;have o:es.toList.length=D.length:=by have:=Y1 py a.cells;simpa using this
  have q:p<es.toList.length:=by rw[o];exact (az.1 f).1
  have n:((es[p]?).map (·.key)).getD (ek k)=ek k:=by
   have h2:=Y1 (λL=>L[p]?) a.cells;simp only[fi,f,fw] at h2;rw[gr] at h2;cases m:es[p]? with
   |none=>rfl
   |some x=>
    rw[m] at h2;simp only[fw,Option.some.injEq,Ye,fy] at h2;simpa using h2.1
  refine⟨_,_,?_,h1 u▸a.set f u⟩;simp only[Instr.mapUpdate,Sem.run_bind,cq i,Result.andThen,getObj,Sem.run,b,Sem.run_pure,e.chk,rY e k w a,d,fw,n,Instr.keyThatStays,e.bits,Y4];exact run_setObj_map _ b
def ac7{T2:bh}(h:P.underlying M=H (.map T E))(e:rX P T ek)(a:gQ w g es c)(d:bC ek ev D es c)(k:K) :
 ∃i f,(Builtin.delete_ #[M,T2] ty #[.map (H g),ek k]).run P w=.ok (.tuple #[]) (setBlock w g (.map i f))/\bC ek ev (sR D k) i f:=by
 unfold gQ at a;cases b:pM D k 0 with
 |none=>
  obtain⟨_,_,h1⟩:=oA D k 0 b;refine⟨es,c,?_,by rw[h1];exact d⟩;simp[Builtin.delete_,cq h,getObj,Sem.run,a,e.chk,rY e k w d,b,run_setObj_map _ a,setBlock]
 |some p=>
  obtain⟨j,v⟩:=p;obtain⟨p,rfl,l,_,_,h1⟩:=lN D k 0 j v b;rw[aj] at b;refine⟨_,c,?_,h1▸d.erase p⟩;simp[Builtin.delete_,cq h,getObj,Sem.run,a,e.chk,rY e k w d,b,run_setObj_map _ a,setBlock]
/-! ### Ranges -/
def lU(ek:K->ak)(ev:V->ak)(D:List (K×V))(es:Array cu)(seen:Array Nat)(b rs:List (K×V)):Prop:=
 (b++rs).Perm D/\∃a c:List cu,seen.toList=a.map (·.born)/\(a++c).Perm es.toList/\a.map Ye=b.map (λx=>(ek x.1,ev x.2))/\c.map Ye=rs.map (λx=>(ek x.1,ev x.2))
def lU.start(a:bC ek ev D es c):lU ek ev D es #[] [] D:=⟨qg _,[],es.toList,rfl,qg _,rfl,a.cells⟩
def lU.done{seen:Array Nat}{a:List (K×V)}(h:lU ek ev D es seen a []):a.Perm D:=by simpa using h.1
def Nxt(ek:K->ak)(ev:V->ak)(D:List (K×V))(es:Array cu)(c rs:List (K×V))(b:Bool)(d e:ak)(f:Array Nat):Prop:=
 (b=X9/\rs=[])\/(b=Z/\∃k v a,rs.Perm ((k,v)::a)/\d=ek k/\e=ev v/\lU ek ev D es f (c++[(k,v)]) a)
def Ie(b:Bool)(k v:ak):ak:=.tuple (if b then #[.bool Z,k,v] else #[.bool X9])
def Zu{r s:Nat}{seen:Array Nat}{o rs:List (K×V)}(l:uT w r g c seen c)(I:gQ w g es c)(p:bC ek ev D es c)(J:lU ek ev D es seen o rs) :
 ∃b q u A a,(a=w\/a=w.drew)/\(Instr.next (.pointer (H ⟨r,0,G0⟩)) X9 ty).run P w=.ok (Ie b q u) (setBlock a r (.mapIter (H g) c A c))/\Nxt ek ev D es o rs b q u A:=by
 obtain⟨Q,n,f,h1,h2,G,j⟩:=J;have y:((n++f).map (·.born)).Nodup:=(h2.map (·.born)).nodup_iff.2 p.nd;rw[db,jv] at y;have z:∀e,e∈(leftOf es seen).toList↔e∈f:=λe=>by
  unfold leftOf;simp only[Array.toList_filter,di,ip,Array.contains_eq_mem,Y7];rw[<-Array.mem_toList_iff (xs:=seen),h1,<-h2.mem_iff,bv];constructor
  . rintro⟨h|h,N⟩
    .exact Y0 (c_.2 ⟨e,h,O⟩) N
    exact h
  intro h
  exact⟨.inr h,λM=>y.2.2 _ M _ (c_.2 ⟨e,h,O⟩) O⟩
 rcases run_next_at (P:=P) w ty r g c c seen es c l I p.born (ba _) with ⟨F,m⟩|⟨e,L,a,R,m⟩
 . refine⟨X9,default,default,seen,w,.inl O,?_,.inl ⟨O,?_⟩⟩
   . rw[m]
     have:setBlock w r (.mapIter (H g) c seen c)=w:=by
      unfold setBlock;have U:=(ec.1 l).1;have:w.heap.setIfInBounds r (.mapIter (H g) c seen c)=w.heap:=by
       apply Array.ext_getElem?;intro i;rw[Array.getElem?_setIfInBounds];split
       .rename_i e;subst e;exact l.symm
       rfl
      rw[this]
     rw[this];rfl
   cases rs with
   |nil=>rfl
   |cons x rs=>
    cases f with
    |nil=>simp at j
    |cons e f=>
     have:=(z e).2 (bq ..);rw[Array.eq_empty_of_size_eq_zero F] at this;simp at this
 obtain⟨s,t,rfl⟩:=List.append_of_mem ((z e).1 L)
 rw[db,bm] at j;obtain⟨S,W,rfl,B,C⟩:=ou.1 j.symm;obtain⟨x,T,rfl,d,E⟩:=pf.1 C;obtain⟨k,v⟩:=x;simp only[Ye,fy] at d;refine⟨Z,e.key,e.val,seen.push e.born,a,R,m,.inr ⟨O,k,v,S++T,List.perm_middle,d.1.symm,d.2.symm,?_,n++[e],s++t,?_,?_,?_,?_⟩⟩
 . refine qp ?_ Q
   simp only[dm,de,cl];exact ox _ List.perm_middle.symm
 .simp[h1]
 . refine qp ?_ h2
   simp only[dm,de,cl];exact ox _ List.perm_middle.symm
 .simp[G,Ye,d]
 simp[B,E]
def aff{r:Nat}{seen:Array Nat}{f rs:List (K×V)}{k:K}{v:V}(d:uT w r g c seen c)(l:gQ w g es c)(j:bC ek ev D es c)(m:lU ek ev D es seen (f++[(k,v)]) rs) :
 (Instr.entry (.pointer (H ⟨r,0,G0⟩))).run P w=.ok (.tuple #[ek k,ev v]) w:=by
 obtain⟨t,p,u,h1,h2,b,s⟩:=m;rw[db,bm,List.map_nil] at b;obtain⟨d1,d2,rfl,q,h⟩:=ou.1 b;obtain⟨e,d3,rfl,a,i⟩:=pf.1 h;obtain rfl:d3=[]:=by simpa using i
 simp only[Ye,fy] at a;have o:seen=(d1.map (·.born)).toArray.push e.born:=by
  apply Array.toList_inj.1;rw[h1];simp
 have n:e∈es.toList:=h2.mem_iff.1 (by simp);rw[o] at d;have:=run_entry_at (P:=P) w r g c _ es c e d l n j.nd;rw[this,a.1,a.2]
end
/-! ### Things in memory -/
def mI(g:Nat)(es:Array cu)(c:Nat):It where
 own b:=H g=H b
 P w:=gQ w g es c
 lt w b h e:=by cases e;exact h.lt
 st w w' h _ k:=(k g rfl).trans h
def iI(r g c:Nat)(seen:Array Nat):It where
 own b:=H r=H b
 P w:=uT w r g c seen c
 lt w b h e:=by cases e;exact h.lt
 st w w' h _ k:=(k r rfl).trans h
def Mem.p{w0 w:an}{is:List It}(m:Mem w0 w is)(k:Nat){g:Nat}{es:Array cu}(a:is[k]? = H (mI g es c)):gQ w g es c:=m.get k a
def Mem.r{w0 w:an}{is:List It}(m:Mem w0 w is)(k:Nat){r g c:Nat}{seen:Array Nat}(a:is[k]? = H (iI r g c seen)):uT w r g c seen c:=m.get k a
section
variable{K V:Type}[DecidableEq K]{P:cg}{T M E ty:bh}{ek:K->ak}{ev:V->ak}{w w0:an}{g c:Nat}{es:Array cu}{D:List (K×V)}{is:List It}
variable{ds:List eh}{l:List ak}{x y z:cw}{ops:Array Oper}{Q:Exit->Act->an->Prop}{rest:List Oper}{d:Nat}{pos:String}{after:Array Edge}
def iB(m:Mem w0 w is)(h:∀g u,Mem w0 u (mI g #[] 0::is)->bf P ops Q rest (Fr (l.set d (.map (H g))) ds) u):bf P ops Q (ci (H d) (.makeMap M G0) ty pos after G0::rest) (Fr l ds) w:=
 aiH λu g e c a=>h g u (m.new (i:=mI g #[] 0) e a λb h=>by cases h;exact c)
def tE(m:Mem w0 w is)(k:P.underlying M=H (.map T E))(n:Go.Lith.ev l x=.map (H g))(f:gQ w g es c)(h:∀r u,Mem w0 u (iI r g c #[]::is)->bf P ops Q rest (Fr (l.set d (.pointer (H ⟨r,0,G0⟩))) ds) u) :
 bf P ops Q (ci (H d) (.range M x) ty pos after G0::rest) (Fr l ds) w:=
 agX k n f λu r e j a=>h r u (m.new (i:=iI r g c #[]) e a λb h=>by cases h;exact j)
end
section
variable{K V:Type}[DecidableEq K]{P:cg}{T M E ty:bh}{ek:K->ak}{en:V->ak}{w w0:an}{g c:Nat}{es:Array cu}{D:List (K×V)}{is:List It}
variable{ds:List eh}{l:List ak}{x y z:cw}{ops:Array Oper}{Q:Exit->Act->an->Prop}{rest:List Oper}{d:Nat}{pos:String}{after:Array Edge}
def dA{v0:V}{k:K}(e:P.underlying M=H (.map T E))(i:qD P E (en v0))(j:rX P T ek)(f:ev l x=.map (H g))(h:ev l y=ek k)(b:gQ w g es c)(a:bC ek en D es c):Dh P l (.lookup M x y X9) ty (en ((bS D k).getD v0)) w:=λo d _=>by
 have:=Pt e j b a i k X9;simp only[qz,X0] at this;simp[N,d,cK,f,h,this]
def wM{v0:V}{k:K}(e:P.underlying M=H (.map T E))(i:qD P E (en v0))(j:rX P T ek)(f:ev l x=.map (H g))(h:ev l y=ek k)(b:gQ w g es c)(a:bC ek en D es c):Dh P l (.lookup M x y Z) ty (.tuple #[en ((bS D k).getD v0),.bool (bS D k).isSome]) w:=λo d _=>by
 have:=Pt e j b a i k Z;simp only[Y4] at this;simp[N,d,cK,f,h,this]
def aln{a0:Array bh}(d:a0 = #[M])(f:P.underlying M=H (.map T E))(h:ev l x=.map (H g))(a:gQ w g es c)(b:bC ek en D es c):Dh P l (.call { callee:=.builtin .len,args:=#[x],argTypes:=a0 }) ty (G D.length) w:=λo e _=>by
 subst d;unfold gQ at a;simp[N,e,resolve,invoke,builtin,Builtin.len_,cK,h,cq f,getObj,Sem.run,a,goInt,b.len]
def eP{v:V}{a:K}(m:Mem w0 w is)(k:Nat)(n:is[k]? = H (mI g es c))(t:P.underlying M=H (.map T E))(F:rX P T ek)(A:ev l x=.map (H g))(B:ev l y=ek a)(C:ev l z=en v)(q:bC ek en D es c)
 (h:∀f d u,Mem w0 u (is.set k (mI g f d))->bC ek en (fL D a v) f d->bf P ops Q rest (Fr l ds) u):bf P ops Q (ci G0 (.mapUpdate M x y z) ty pos after G0::rest) (Fr l ds) w:=by
 have j:=m.p k n;obtain⟨f,d,s,G⟩:=ac6 t F j q a v;have i:=oR (w:=w) (g:=g) (.map f d);refine Kg (w':=setBlock w g (.map f d)) (λo r=>by simp[N,r,cK,A,B,C,s]) (h f d _ ?_ G);exact m.put k n i.os i.tape i.output (by rw[i.size];exact ba _) (λb _ I=>i.block b λe=>I (by rw[e];rfl)) (iU j) (.inl λ_ h=>h)
def Er{r:Nat}{seen:Array Nat}{p rs:List (K×V)}(m:Mem w0 w is)(k:Nat)(t:is[k]? = H (iI r g c seen))(G:ev l x=.pointer (H ⟨r,0,G0⟩))(A:gQ w g es c)(z:bC ek en D es c)(C:lU ek en D es seen p rs)
 (h:∀b i j n u,Mem w0 u (is.set k (iI r g c n))->Nxt ek en D es p rs b i j n->bf P ops Q rest (Fr (l.set d (Ie b i j)) ds) u) :
 bf P ops Q (ci (H d) (.next x X9) ty pos after G0::rest) (Fr l ds) w:=by
 have q:=m.r k t;obtain⟨b,i,j,n,f,L,F,B⟩:=Zu (P:=P) (ty:=ty) (s:=0) q A z C;refine lK (w':=setBlock f r (.mapIter (H g) c n c)) (v:=Ie b i j) (λo E J=>by simp[N,E,cK,G,J,F]) (h b i j n _ ?_ B);have a:f.heap=w.heap/\f.os=w.os/\f.tape=w.tape/\f.output=w.output:=by rcases L with rfl|rfl<;>exact⟨rfl,rfl,rfl,rfl⟩
 refine m.put k t a.2.1 a.2.2.1 a.2.2.2 (by simp[setBlock,a.1]) (λy _ I=>?_) ?_ (.inl λ_ h=>h)
 . have:y≠r:=λe=>I (by rw[e];rfl)
   simp only[setBlock,a.1];exact jp (Ne.symm this)
 exact iU (w:=f) (o:=.mapIter (H g) c seen c) (by rw[a.1];exact q)
def nS{b:Bool}{d e:ak}(c:ev l x=Ie b d e):iD P l (.extract x 0) ty (.bool b):=λw o a _=>by
 cases b<;>simp[N,a,cK,c,Ie,Instr.extract]
def pY{r:Nat}{seen:Array Nat}{a rs:List (K×V)}{k:K}{v:V}(i:ev l x=.pointer (H ⟨r,0,G0⟩))(d:uT w r g c seen c)(e:gQ w g es c)(b:bC ek en D es c)(f:lU ek en D es seen (a++[(k,v)]) rs) :
 Dh P l (.entry x) ty (.tuple #[ek k,en v]) w:=λo h _=>by
 have:=aff (P:=P) d e b f;simp[N,h,cK,i,this]
def nK{f:FuncId}{a:cw}{xs:Array cw}{args:List ak}{first cap:Array ak}{a0:Array bh}{R:ak->It->Prop}(m:Mem w0 w is)(k:Nat)(b:Entr P f)(n:ev l a=.func (.func f) first cap)(o:first.toList++xs.toList.map (ev l)++cap.toList=args)
 (hc:Mem w0 w is->Calls P f args.toArray w λe w'=>∃v i,e=.returned v/\Mem w0 w' (is.set k i)/\R v i) (h:∀v i u,Mem w0 u (is.set k i)->R v i->bf P ops Q rest (Fr (l.set d v) ds) u) :
 bf P ops Q (ci (H d) (.call { callee:=.value a,args:=xs,argTypes:=a0 }) ty pos after G0::rest) (Fr l ds) w:=by
 refine wpList_plain O λK c=>?_;unfold Oper.wp;rw[iP,rJ b n o _ rfl];refine (hc m).mono ?_;rintro e w' ⟨v,i,rfl,g,j⟩;show K ((Fr l ds).put (H d) v) w'
 rw[gV];exact c _ _ (h v i w' g j)
end
def cQ{P:cg}{Q:Exit->Act->an->Prop}{l:List ak}{ds:List eh}{c1 c2:Code}{w:an}{x:cw}{b:Bool}(d:ev l x=.bool b)(c:b=Z->c1.wp P Q (Fr l ds) w)(a:b=X9->c2.wp P Q (Fr l ds) w):(Code.cond x c1 c2).wp P Q (Fr l ds) w:=lL d c a
def Tu{α:Type}{is:List α}{k:Nat}{i:α}(h:is[k]? = H i):is.set k i=is:=by
 apply gt;intro j;rw[ki];split
 . rename_i e;subst e
   have:=(az.1 h).1;rw[Z9 this,h]
 rfl
def No{K V:Type}[DecidableEq K]:∀{D:List (K×V)} {k:K} {v:V},bS D k=H v->fL D k v=D
 | [],_,_,h=>by cases h
 |x::D,k,v,h=>by
  unfold bS at h;unfold fL;split at h
  .rename_i e;cases h;subst e;rw[Z9 rfl]
  rename_i e;rw[K0 e,No h]
/-! ### Keys -/
def tF(P:cg)(e:Bool)(d:Nat)(T:bh)(x:ak):Prop:=∀w,(Instr.checkKey e d T x).run P w=.ok () w
section
variable{P:cg}{e:Bool}{d:Nat}{T E:bh}
def vL{β:Type}{w:an}(g:β->PUnit->Sem (ForInStep PUnit)):∀(L:List β),(∀x∈L,(g x ⟨⟩).run P w=.ok (.yield ⟨⟩) w)->(forIn L PUnit.unit g:Sem PUnit).run P w=.ok ⟨⟩ w
 | [],_=>by simp
 |x::L,h=>by
  simp only[List.forIn_cons,Sem.run_bind,h x (bq ..),Result.andThen_ok];exact vL g L λy a=>h y (br _ a)
def tF.int{k b:IntKind}{n:Int}(a:P.underlying T=H (.int b)):tF P e (d+1) T (.int k n):=λw=>by
 unfold Instr.checkKey;simp[cq a]
def tF.struct{fs:Array Field}{cs:Array ak}(c:P.underlying T=H (.struct fs))(h:∀f∈fs.toList,∃v,(∀w,(part f.type cs f.offset).run P w=.ok v w)/\tF P e d f.type v):tF P e (d+1) T (.agg cs):=λw=>by
 unfold Instr.checkKey;simp only[Sem.run_bind,cq c,Result.andThen_ok];rw[<-Array.forIn_toList];refine (Y1 (λr=>Result.andThen r _) (vL _ fs.toList λf b=>?_)).trans (by rfl);obtain⟨v,h1,h2⟩:=h f b;by_cases a:f.name = "_"
 .simp[a]
 simp[a,h1 w,h2 w]
def tF.array{n c:Nat}{cs:Array ak}(b:P.underlying T=H (.array n E))(hc:dW P E c)(h:∀i,i<n->∃v,(∀w,(part E cs (i*c)).run P w=.ok v w)/\tF P e d E v):tF P e (d+1) T (.agg cs):=λw=>by
 unfold Instr.checkKey;simp only[Sem.run_bind,cq b,Result.andThen_ok];simp only[Std.Legacy.Range.forIn_eq_forIn_range',Std.Legacy.Range.size,Nat.sub_zero,Nat.add_one_sub_one,Nat.div_one];refine (Y1 (λr=>Result.andThen r _) (vL _ (List.range' 0 n) λi a=>?_)).trans (by rfl);obtain⟨v,h1,h2⟩:=h i (by simpa using a);simp[eT hc,h1 w,h2 w]
def rX.agg{K:Type}[DecidableEq K]{ek:K->ak}{cs:K->Array ak}(ha:∀k,ek k=.agg (cs k)){t:TypeDesc}(ht:P.underlying T=H t)(hc:∀e k,tF P e 10000 T (ek k))(he:∀a b,wA P 10000 T (ek a) (ek b) (a=b))(hb:∀a,Instr.sameBits 10000 (ek a) (ek a)=Z):rX P T ek where
 chk e k w:=hc e k w
 now:=⟨t,ht,λa b=>.inl (by rw[ha,ha];cases t<;>rfl)⟩
 eq a b w:=Bi (he a b) w
 bits:=hb
end
end
section
open Go.RowKit
variable{w0 w:an}{is:List It}{P:cg}{T:bh}{n:Nat}{α:Type}{op:Op}{q:Prop}{ops:Array Oper}{c:Code}
def Mem.gb(m:Mem w0 w is)(k:Nat){g:Nat}{cs:List ak}{t:bh}(a:is[k]? = H (bI g cs t)):w0.heap.size<=g:=m.ge _ (bn a) g rfl
def eX{l:List ak}{x:cw}{ty:bh}{a:Addr}(c:ev l x=.pointer (H a)):iD P l (.nilCheck x) ty (.pointer (H a)):=λw o b _=>by
 simp[N,b,cK,c]
def avu{P:cg}{ds:List eh}{Q:Exit->Act->an->Prop}{w w0:an}{is:List It}{c:Code}{a:Act}{l:Nat->List ak}{c1:List ak}{T1:bh}(m:Mem w0 w is)(h1:c.wp P (λe b u=>e=.normal/\∃g,b=Fr (l g) ds/\Mem w0 u (bI g c1 T1::is)) a w)
 (h2:∀g u,Mem w0 u (bI g c1 T1::is)->Q .normal (Fr (l g) ds) u):c.wp P Q a w:=by
 refine Code.wp_mono ?_ h1;rintro e b u ⟨rfl,g,rfl,d⟩;exact h2 g u d
inductive Ko where
 |c (c:Code)
 |b (id:Nat)
 |o (ops:Array Oper) (rest:List Oper)
 |k (K:Act->an->Prop)
 |r (c:Code) (n:Nat)
def Ct(P:cg)(R:Exit->Act->an->Prop):List Ko->Exit->Act->an->Prop
 | []=>R
 |.c c::s=>Exit.then (c.wp P (Ct P R s)) (Ct P R s)
 |.b id::s=>cn id (Ct P R s)
 |.o ops rest::s=>Exit.then (bf P ops (Ct P R s) rest) (Ct P R s)
 |.k K::s=>Exit.then K (Ct P R s)
 |.r c n::s=>Exit.then (Code.rounds P c (Ct P R s) n) (Ct P R s)
def Gt(P:cg)(R:Exit->Act->an->Prop)(s:List Ko)(a:Act)(w:an):Prop:=Ct P R s .normal a w
def alo{P:cg}{R:Exit->Act->an->Prop}{a:Act}{w:an}(h:R .ret a w):∀s,Ct P R s .ret a w
 | []=>h
 |.c _::s|.b _::s|.o _ _::s|.k _::s|.r _ _::s=>alo h s
/-! ### Values taken apart -/
def vU(v:ak)(f:IntKind->Int->Prop):Prop:=match v with|.int k m=>f k m|_=>False
def vvB(v:ak)(f:Bool->Prop):Prop:=match v with|.bool b=>f b|_=>False
def vvP(v:ak)(f:Addr->Prop):Prop:=match v with|.pointer (H a)=>f a|_=>False
def vvS(v:ak)(f:Option Addr->Nat->Nat->Prop):Prop:=match v with|.slice a n c=>f a n c|_=>False
def vvA(v:ak)(f:List ak->Prop):Prop:=match v with|.agg cs=>f cs.toList|_=>False
def vvT(v:ak)(f:List ak->Prop):Prop:=match v with|.tuple cs=>f cs.toList|_=>False
def Dr{α:Type}(o:Option α)(f:α->Prop):Prop:=match o with|some x=>f x|none=>False
def vbX(b:Bool)(p q:Prop):Prop:=match b with|true=>p|false=>q
def vnX(n:Nat)(p:Prop):Prop:=match n with|0=>False|_+1=>p
def Yf:Nat->Nat->Prop->Prop->Prop
 |0,0,p,_=>p
 |n+1,m+1,p,q=>Yf n m p q
 |_,_,_,q=>q
def Np:List ak->Nat->(ak->Prop)->Prop
 |x::_,0,f=>f x
 |_::l,n+1,f=>Np l n f
 | [],_,_=>False
def Iv:List ak->Nat->Prop
 | [],0=>True
 |_::l,n+1=>Iv l n
 |_,_=>False
def Gv:∀{l:List ak}{n:Nat},Iv l n->l.length=n
 | [],0,_=>rfl
 |_::l,n+1,h=>by rw[be,Gv (l:=l) h]
def Rk:∀{l:List ak}{n:Nat}{f:ak->Prop},Np l n f->∃v,l[n]? = H v/\f v
 |x::_,0,_,h=>⟨x,rfl,h⟩
 |_::l,n+1,_,h=>by rw[jn];exact Rk (l:=l) h
def abk:List ak->Prop
 | []=>True
 |v::l=>v.oneCell'=Z/\abk l
def agY:∀{l:List ak},abk l->(l.all (·.oneCell'))=Z
 | [],_=>rfl
 |v::l,h=>by rw[List.all_cons,h.1,agY (l:=l) h.2];rfl
def InR(k:IntKind)(n:Int):Prop:=match k with
 |.i64=>-9223372036854775808<=n/\n<9223372036854775808
 |.i32=>-2147483648<=n/\n<2147483648
 |.u64=>0<=n/\n<18446744073709551616
 |.u32=>0<=n/\n<4294967296
 |.u8=>0<=n/\n<256
 |_=>False
def InR.wrap{k:IntKind}{n:Int}(h:InR k n):k.wrap n=n:=by
 cases k<;>first|exact h.elim|exact cF h.1 h.2|exact aj6 h.1 h.2|exact mZ h.1 h.2|exact aj5 h.1 h.2|exact agy h.1 h.2
/-! ### Types -/
def tG(P:cg)(T:bh):Option (Bool×Nat):=match P.underlying T,P.info? T with
 |some d,H i=>H (Gf d,i.size)
 |_,_=>G0
def Br{b:Bool}(h:tG P T=H (b,n)):fM P T b/\dW P T n:=by
 unfold tG at h;split at h
 . rename_i d i h1 h2
   cases h;exact⟨⟨d,h1,O⟩,⟨i,h2,O⟩⟩
 cases h
def lV(P:cg)(T:bh)(i:Nat):Option (Nat×Bool×Nat):=match P.underlying T with
 |some (.struct fs)=>match fs[i]? with
  |some f=>(tG P f.type).map λx=>(f.offset,x)
  |none=>G0
 |_=>G0
def agZ{i o:Nat}{b:Bool}(h:lV P T i=H (o,b,n)):∃fs f,P.underlying T=H (.struct fs)/\fs[i]? = H f/\f.offset=o/\fM P f.type b/\dW P f.type n:=by
 unfold lV at h;split at h
 . rename_i fs d
   split at h
   . rename_i f c
     cases a:tG P f.type with
     |none=>rw[a] at h;cases h
     |some x=>
      obtain⟨e,n'⟩:=x;rw[a] at h;cases h;exact⟨fs,f,d,c,O,(Br a).1,(Br a).2⟩
   cases h
 cases h
def Pu(P:cg)(T:bh):Option (Option Nat×Nat):=match P.underlying T with
 |some (.array n E)=>(tG P E).map λx=>(H n,x.2)
 |some (.slice E)=>(tG P E).map λx=>(G0,x.2)
 |_=>G0
def Iy(P:cg)(T:bh):Option bh:=match P.underlying T with
 |some (.slice E)=>H E
 |_=>G0
def ape{E:bh}(h:Iy P T=H E):P.underlying T=H (.slice E):=by
 unfold Iy at h;split at h
 .rename_i b a;cases h;exact a
 cases h
def ikP(P:cg)(T:bh):Option IntKind:=match P.underlying T with
 |some (.int k)=>H k
 |_=>G0
def alp{k:IntKind}(h:ikP P T=H k):P.underlying T=H (.int k):=by
 unfold ikP at h;split at h
 .rename_i b a;cases h;exact a
 cases h
def Lb(P:cg)(T:bh):Option (List ak):=((P.info? T).bind (·.zero)).map (·.cells.toList)
def abl{cs:List ak}(h:Lb P T=H cs):∃z,qD P T z/\z.cells=cs.toArray:=by
 unfold Lb at h;cases a:(P.info? T).bind (·.zero) with
 |none=>rw[a] at h;cases h
 |some z=>rw[a] at h;cases h;exact⟨z,lW a,by simp⟩
def yO(P:cg)(T:bh):Option (List (Nat×Nat)×List ak):=match P.underlying T,Lb P T with
 |some (.struct fs),H z=>(fs.toList.mapM λ(f:Field)=>(tG P f.type).map λx=>(f.offset,x.2)).map λl=>(l,z)
 |some (.array n E),H z=>(tG P E).map λx=>((ii n).map λi=>(i*x.2,x.2),z)
 |_,_=>G0
def abm:List (Nat×Nat)->Nat->(Nat×Nat->Prop)->Prop
 |x::_,0,f=>f x
 |_::l,n+1,f=>abm l n f
 | [],_,_=>False
def blV(l:List ak)(pl:List (Nat×Nat)):List (Nat×cw)->List ak->Prop->(Prop->List ak->Prop)->Prop
 | [],cs,q,f=>f q cs
 |(i,x)::ps,cs,q,f=>abm pl i λz=>vnX z.2 (blV l pl ps (bR cs z.1 (ev l x).cells.toList) (Iv (ev l x).cells.toList z.2/\Iv ((cs.drop z.1).take z.2) z.2/\q) f)
/-! ### Operations -/
def vvX(n:Option Nat)(v:ak)(f:Addr->Nat->Prop):Prop:=match n with
 |some n=>vvP v λa=>f a n
 |none=>vvS v λA n _=>Dr A λa=>f a n
abbrev KV:Type:=Prop->ak->List Nat->List It->Prop
variable{K:KV}
def cV(a:List Nat)(p:Prop)[Decidable p](K:KV)(is:List It):Prop:=match a with
 |0::a=>K True (.bool (decide p)) a is
 |1::a=>K p (.bool Z) a is
 |2::a=>K (¬p) (.bool X9) a is
 |_=>False
def vvE(v:ak)(f:IntKind->Int->Prop)(g:List ak->Prop):Prop:=match v with
 |.int k m=>f k m
 |.agg cs=>g cs.toList
 |_=>False
def EqB(P:cg)(T:bh)(cs us:List ak)(b:Bool):Prop:=P.eqGuardType P.depth T=X9/\wA P 10000 T (.agg cs.toArray) (.agg us.toArray) (b=Z)
def NeB(P:cg)(T:bh)(cs us:List ak)(b:Bool):Prop:=P.eqGuardType P.depth T=X9/\wA P 10000 T (.agg cs.toArray) (.agg us.toArray) (b=X9)
def biV(P:cg)(T:bh)(b:BinOp)(x y:ak)(c:List Nat)(is:List It)(K:KV):Prop:=match b with
 |.add=>vU x λk m=>vU y λa n=>K (a=k/\InR k (m+n)) (.int k (m+n)) c is
 |.sub=>vU x λk m=>vU y λa n=>K (a=k/\InR k (m-n)) (.int k (m-n)) c is
 |.mul=>vU x λk m=>vU y λa n=>K (a=k/\InR k (m*n)) (.int k (m*n)) c is
 |.lss=>vU x λk m=>vU y λa n=>cV c (m<n) (λp=>K (a=k/\p)) is
 |.leq=>vU x λk m=>vU y λa n=>cV c (m<=n) (λp=>K (a=k/\p)) is
 |.gtr=>vU x λk m=>vU y λa n=>cV c (n<m) (λp=>K (a=k/\p)) is
 |.geq=>vU x λk m=>vU y λa n=>cV c (n<=m) (λp=>K (a=k/\p)) is
 |.eql=>vvE x (λk m=>vU y λa n=>cV c (m=n) (λp=>K (a=k/\p)) is) λcs=>vvA y λus=>∃b,EqB P T cs us b/\K True (.bool b) c is
 |.neq=>vvE x (λk m=>vU y λa n=>cV c (m≠n) (λp=>K (a=k/\p)) is) λcs=>vvA y λus=>∃b,NeB P T cs us b/\K True (.bool b) c is
 |_=>False
abbrev Ob:Type:=Nat×List ak×bh
def atO:List Ob->Nat->(Ob->Prop)->Prop
 |x::_,0,f=>f x
 |_::l,n+1,f=>atO l n f
 | [],_,_=>False
def atB:List It->List Ob->Nat->(Ob->Prop)->Prop
 |i::_,_,0,f=>Dr i.bk f
 |_::is,os,n+1,f=>atB is os n f
 | [],os,n,f=>atO os n f
def atM:List It->Nat->(Ob->Prop)->Prop
 |i::_,0,f=>Dr i.bk f
 |_::is,n+1,f=>atM is n f
 | [],_,_=>False
def als:∀{os:List Ob}{k:Nat}{f:Ob->Prop},atO os k f->∃x∈os,f x
 |x::_,0,_,h=>⟨x,bq ..,h⟩
 |_::os,k+1,_,h=>let ⟨x,b,a⟩:=als (os:=os) h;⟨x,br _ b,a⟩
def qM{o:Option α}{f:α->Prop}(h:Dr o f):∃x,o=H x/\f x:=by
 cases o with
 |none=>exact h.elim
 |some x=>exact⟨x,rfl,h⟩
def afh:∀{is:List It}{k:Nat}{f:Ob->Prop},atM is k f->∃i x,is[k]? = H i/\i.bk=H x/\f x
 |i::_,0,_,h=>let ⟨x,b,a⟩:=qM h;⟨i,x,rfl,b,a⟩
 |_::is,k+1,_,h=>by rw[jn];exact afh (is:=is) h
def alt:∀{is:List It}{os:List Ob}{k:Nat}{f:Ob->Prop},atB is os k f->(∃i∈is,∃x,i.bk=H x/\f x)\/∃x∈os,f x
 |i::_,_,0,_,h=>let ⟨x,c,a⟩:=qM h;.inl ⟨i,bq ..,x,c,a⟩
 |_::is,os,k+1,_,h=>(alt (is:=is) (os:=os) h).imp (λ⟨i,b,r⟩=>⟨i,br _ b,r⟩) id
 | [],_,_,_,h=>.inr (als h)
def caV(P:cg)(l:List ak)(is:List It)(b:Builtin)(xs:List cw)(ts:List bh)(c:List Nat)(K:KV):Prop:=match b,xs,ts with
 |.len,[x],[T]=>Dr (Iy P T) λ_=>vvS (ev l x) λ_ n _=>K True (.int .i64 n) c is
 |.min,[x,y],_=>vU (ev l x) λk m=>vU (ev l y) λa n=>K (a=k) (.int k (if n<m then n else m)) c is
 |.max,[x,y],_=>vU (ev l x) λk m=>vU (ev l y) λa n=>K (a=k) (.int k (if m<n then n else m)) c is
 |_,_,_=>False
def ldK(g:ak->Prop):Nat->Prop
 |0=>∃p:P3,g (pt p)
 |1=>∃t:T3,g (tr t)
 |2=>∃z:Int,g (.int .i64 z)
 |3=>∃b:Bool,g (.bool b)
 |4=>∃e:E3,g (ed e)
 |5=>∃n:Int,g (W n)
 |_=>∃v:ak,g v
def asf{g:ak->Prop}{k:Nat}(h:ldK g k):∃v,g v:=by
 unfold ldK at h;split at h<;>(obtain⟨x,h⟩:=h;exact⟨_,h⟩)
def Ds(P:cg)(w0:an)(l:List ak)(is:List It)(os:List Ob)(e:Bool)(op:Op)(d:List Nat)(K:KV):Prop:=match op with
 |.move x=>K True (ev l x) d is
 |.assign x=>K True (ev l x) d is
 |.nilCheck x=>vvP (ev l x) λa=>K True (.pointer (H a)) d is
 |.pick c x y=>vvB (ev l c) λb=>vbX b (K True (ev l x) d is) (K True (ev l y) d is)
 |.binOp b T x y _=>biV P T b (ev l x) (ev l y) d is K
 |.unOp .not _ x=>vvB (ev l x) λb=>K True (.bool (!b)) d is
 |.unOp .neg _ x=>vU (ev l x) λk m=>K (InR k (0-m)) (.int k (0-m)) d is
 |.convert T T' x=>Dr (ikP P T) λ_=>Dr (ikP P T') λk=>vU (ev l x) λ_ m=>K (InR k m) (.int k m) d is
 |.fieldAddr T x i=>Dr (lV P T i) λf=>vvP (ev l x) λa=>vnX f.2.2 (K True (.pointer (H (a.add f.1))) d is)
 |.indexAddr T x y=>Dr (Pu P T) λz=>vvX z.1 (ev l x) λa n=>vU (ev l y) λ_ m=>K (0<=m/\m<n) (.pointer (H (a.add (m.toNat*z.2)))) d is
 |.field T x i=>Dr (lV P T i) λf=>vvA (ev l x) λcs=>vbX f.2.1 (K True (.agg ((cs.drop f.1).take f.2.2).toArray) d is) (Np cs f.1 λv=>K True v d is)
 |.build T parts=>Dr (yO P T) λz=>blV l z.1 parts.toList z.2 True λq cs=>K q (.agg cs.toArray) d is
 |.extract x i=>vvT (ev l x) λcs=>Np cs i λv=>K True v d is
 |.load T x=>match d with
  |0::k::d=>vvP (ev l x) λa=>ldK (λv=>(∀w,Mem w0 w is->lC P w T a v)/\K True v d is) k
  |(k+1)::d=>Dr (tG P T) λz=>vvP (ev l x) λa=>atB is os k λg=>vbX z.1 (K (a=⟨g.1,a.off,G0⟩/\Iv ((g.2.1.drop a.off).take z.2) z.2) (.agg ((g.2.1.drop a.off).take z.2).toArray) d is) (Np g.2.1 a.off λv=>K (a=⟨g.1,a.off,G0⟩) v d is)
  |_=>False
 |.box T x=>vbX e False (∀g,K True (.pointer (H ⟨g,0,G0⟩)) d (bI g (ev l x).cells.toList T::is))
 |.alloc T=>vbX e False (Dr (Lb P T) λz=>∀g,K True (.pointer (H ⟨g,0,G0⟩)) d (bI g z T::is))
 |.call c=>match c.callee with
  |.builtin b=>caV P l is b c.args.toList c.argTypes.toList d K
  |_=>False
 |_=>False
def stV(P:cg)(l:List ak)(is:List It)(c:Bool)(op:Op)(b:List Nat)(K:KV):Prop:=match op,b with
 |.store T x y,k::b=>vbX c False (Dr (tG P T) λz=>vnX z.2 (vvP (ev l x) λa=>atM is k λg=>K (a=⟨g.1,a.off,G0⟩/\Iv ((g.2.1.drop a.off).take z.2) z.2/\Iv (ev l y).cells.toList z.2/\abk (ev l y).cells.toList) undef b (is.set k (bI g.1 (bR g.2.1 a.off (ev l y).cells.toList) g.2.2))))
 |_,_=>False
def vyv(ops:List Oper)(l:List ak)(j:Nat):ak:=match ops[j]? with
 |some o=>match o.dst with
  |some d=>l.getD d undef
  |none=>undef
 |none=>undef
def vvG(v:ak)(b:Bool)(p q:Prop):Prop:=match v with
 |.bool c=>if c=b then p else q
 |.tuple _=>q
 |_=>False
def opG(ops:Array Oper)(l:List ak)(g:Option (Nat×Bool))(a:List Nat)(p q:List Nat->Prop)(r:Nat->List Nat->Nat->Bool->Prop):Prop:=match g with
 |none=>p a
 |some (j,b)=>match a with
  |0::a=>vvG (vyv ops.toList l j) b (p a) (q a)
  |(k+1)::a=>r k a j b
  | []=>False
def dsT:List Oper->Nat->(Nat->Prop)->Prop
 |⟨H d,_,_,_,_,_⟩::_,0,f=>f d
 |_::ops,j+1,f=>dsT ops j f
 |_,_,_=>False
def vbE(a b:Bool)(p:Prop):Prop:=match a,b with
 |true,Z=>p
 |false,X9=>p
 |_,_=>False
def Zv(l:List ak):List Nat->(Nat->ak)->List ak
 | [],_=>l
 |d::ds,u=>(Zv l ds u).set d (u d)
def pkG(want b:Bool)(l:List ak)(x y:cw)(f:Bool->Prop):Prop:=match want with
 |true=>(match y with
  |.const (.bool X9)=>vvB (ev l x) λv=>f (b&&v)
  |_=>False)
 |false=>(match x with
  |.const (.bool Z)=>vvB (ev l y) λv=>f (b||v)
  |_=>False)
def VG{α:Type}(c:α->Option Oper)(P:cg)(w0:an)(is:List It)(os:List Ob)(j:Nat)(want b:Bool)(t:Nat)(K:Prop->List Nat->List α->List Nat->Nat->Bool->Prop):Nat->List Nat->Prop->List α->List ak->List Nat->Prop
 |k+1,a,q,x::rest,l,ds=>match c x with
  |some ⟨H d,op,_,_,_,H (i,w)⟩=>Yf j i (vbE want w (Yf t d False (Ds P w0 l is os Z op a λe v a _=>VG c P w0 is os j want b t K k a ((b=want->e)/\q) rest (l.set d v) (d::ds)))) False
  |some ⟨H d,.pick (.tmp i) x y,_,_,_,G0⟩=>Yf t i (pkG want b l x y λv=>K q a rest ds d v) False
  |_=>False
 |_,_,_,_,_,_=>False
def Xi(id:Nat):List Ko->(List Ko->Prop)->Prop
 |.b j::s,f=>Yf id j (f s) (Xi id s f)
 |.c _::s,f=>Xi id s f
 |.o _ _::s,f=>Xi id s f
 |.k _::s,f=>Xi id s f
 |.r _ _::s,f=>Xi id s f
 | [],_=>False
abbrev Kw:Type:=Option (Bool×an)
def kr:Bool->an->an->Prop
 |true,v,w=>v=w
 |false,v,w=>eQ v w
def kpt(k:Kw)(w:an):Prop:=∀b v,k=H (b,v)->kr b v w
def kpb:Kw->Bool
 |some (b,_)=>b
 |none=>X9
def alv(w0:an)(is:List It)(X:an->Prop):Kw->Prop
 |some (Z,v)=>X v
 |k=>∀w,Mem w0 w is->kpt k w->X w
def ag0{X:an->Prop}{k:Kw}(h:alv w0 is X k)(m:Mem w0 w is)(a:kpt k w):X w:=by
 rcases k with _|⟨b,v⟩
 .exact h w m a
 cases b
 .exact h w m a
 have e:v=w:=a Z v rfl
 exact e▸h
def V(P:cg)(R:Exit->Act->an->Prop)(w0:an)(ds:List eh)(f:Kw):Nat->List Nat->Prop->List Ko->List ak->List It->Prop
 |0,_,q,s,l,is=>q/\alv w0 is (Gt P R s (Fr l ds)) f
 |n+1,e,q,.b _::s,l,is=>V P R w0 ds f n e q s l is
 |n+1,e,q,.o _ []::s,l,is=>V P R w0 ds f n e q s l is
 |n+1,e,q,.o ops (o::rest)::s,l,is=>match o.dst with
  |some d=>opG ops l o.guard e (λe=>Ds P w0 l is [] (kpb f) o.op e λg v e is=>V P R w0 ds f n e (g/\q) (.o ops rest::s) (l.set d v) is) (λe=>V P R w0 ds f n e q (.o ops rest::s) (l.set d undef) is)
   λk e j w=>dsT ops.toList j λt=>vvB (l.getD t undef) λb=>VG H P w0 is [] j w b t (λq e rest h d v=>∀u:Nat->ak,V P R w0 ds f n e q (.o ops rest::s) ((Zv l h u).set d (.bool v)) is) (k+1) e q (o::rest) l []
  |none=>opG ops l o.guard e (λe=>stV P l is f.isSome o.op e λg _ e is=>V P R w0 ds f n e (g/\q) (.o ops rest::s) l is) (λe=>V P R w0 ds f n e q (.o ops rest::s) l is) λ_ _ _ _=>False
 |n+1,e,q,.c c::s,l,is=>match c with
  |.seq a b=>V P R w0 ds f n e q (.c a :: .c b::s) l is
  |.skip=>V P R w0 ds f n e q s l is
  |.block id c=>V P R w0 ds f n e q (.c c :: .b id::s) l is
  |.exit id=>Xi id s λs=>V P R w0 ds f n e q s l is
  |.ret=>q/\alv w0 is (R .ret (Fr l ds)) f
  |.cond x a b=>vvB (ev l x) λt=>vbX t (V P R w0 ds f n e q (.c a::s) l is) (V P R w0 ds f n e q (.c b::s) l is)
  |.region _ ops d=>vbX d False (V P R w0 ds f n e q (.o ops ops.toList::s) l is)
  |.loop c=>match e with
   |k::e=>V P R w0 ds f n e q (.r c k::s) l is
   | []=>False
  |_=>False
 |n+1,e,q,.r c (k+1)::s,l,is=>V P R w0 ds f n e q (.c c :: .r c k::s) l is
 |_,_,_,_,_,_=>False
def tJ{v:ak}{f:IntKind->Int->Prop}(h:vU v f):∃k m,v=.int k m/\f k m:=by
 cases v<;>first|exact h.elim|exact⟨_,_,rfl,h⟩
def Iz{v:ak}{f:Bool->Prop}(h:vvB v f):∃b,v=.bool b/\f b:=by
 cases v<;>first|exact h.elim|exact⟨_,rfl,h⟩
def Ja{v:ak}{f:Addr->Prop}(h:vvP v f):∃a,v=.pointer (H a)/\f a:=by
 cases v with
 |pointer a=>cases a with
  |none=>exact h.elim
  |some a=>exact⟨_,rfl,h⟩
 |_=>exact h.elim
def alw{v:ak}{f:Option Addr->Nat->Nat->Prop}(h:vvS v f):∃a n c,v=.slice a n c/\f a n c:=by
 cases v<;>first|exact h.elim|exact⟨_,_,_,rfl,h⟩
def alx{v:ak}{f:List ak->Prop}(h:vvA v f):∃cs,v=.agg cs/\f cs.toList:=by
 cases v<;>first|exact h.elim|exact⟨_,rfl,h⟩
def asg{v:ak}{f:List ak->Prop}(h:vvT v f):∃cs,v=.tuple cs/\f cs.toList:=by
 cases v<;>first|exact h.elim|exact⟨_,rfl,h⟩
def abo{p:Prop}(h:vnX n p):∃m,n=m+1/\p:=by
 cases n with
 |zero=>exact h.elim
 |succ m=>exact⟨m,rfl,h⟩
def Tv:∀{n m:Nat}{p q:Prop},Yf n m p q->(n=m/\p)\/(n≠m/\q)
 |0,0,_,_,h=>.inl ⟨rfl,h⟩
 |n+1,m+1,_,_,h=>(Tv (n:=n) (m:=m) h).imp (λ⟨e,h⟩=>⟨by rw[e],h⟩) λ⟨e,h⟩=>⟨λc=>e (Nat.succ.inj c),h⟩
 |0,_+1,_,_,h=>.inr ⟨λc=>(by cases c),h⟩
 |_+1,0,_,_,h=>.inr ⟨λc=>(by cases c),h⟩
section
variable{P:cg}{l:List ak}{is:List It}{os:List Ob}{w0:an}{ds:List eh}
def Yd(P:cg)(l:List ak)(is:List It)(w0:an)(op:Op)(v:ak):Prop:=∀w,Mem w0 w is->∀ty,Dh P l op ty v w
def nC{v:ak}(h:∀ty,iD P l op ty v):Yd P l is w0 op v:=λw _ ty=>h ty w
def arb{e:List Nat}{p:Prop}[Decidable p]{d:List It}(h:cV e p (λp=>K (q/\p)) d):∃c v f,K (q/\c) v f d/\(c->∀{X:ak->Prop},(X (.bool (decide p)))->X v):=by
 unfold cV at h;split at h
 .exact⟨_,_,_,h,λ_ _ a=>a⟩
 .exact⟨_,_,_,h,λb X a=>by rwa [Y5 b] at a⟩
 .exact⟨_,_,_,h,λb X a=>by rwa [Y6 b] at a⟩
 exact h.elim
def Yd.as{u v:ak}(h:Yd P l is w0 op u)(e:u=v):Yd P l is w0 op v:=e▸h
def ash{v:ak}{f:IntKind->Int->Prop}{g:List ak->Prop}(h:vvE v f g):(∃k m,v=.int k m/\f k m)\/∃cs,v=.agg cs/\g cs.toList:=by
 cases v<;>first|exact h.elim|exact .inl ⟨_,_,rfl,h⟩|exact .inr ⟨_,rfl,h⟩
def asi{b:BinOp}{x y:cw}{T':bh}{r:List Nat}(h:biV P T b (ev l x) (ev l y) r is K):∃d v o,K d v o is/\(d->Yd P l is w0 (.binOp b T x y T') v):=by
 cases b
 case add|sub|mul=>
  obtain⟨k,m,a,h⟩:=tJ h;obtain⟨q,n,c,h⟩:=tJ h;refine⟨_,_,_,h,λ⟨e,i⟩=>nC λty=>?_⟩;subst e
  first|exact fZ a c i.wrap|exact zW a c i.wrap|exact qW a c i.wrap
 case eql|neq=>
  unfold biV at h;rcases ash h with ⟨k,m,a,h⟩|⟨cs,a,h⟩
  . obtain⟨q,n,c,h⟩:=tJ h
    obtain⟨d,v,o,h,g⟩:=arb h;refine⟨_,_,_,h,λ⟨e,j⟩=>?_⟩;subst e;refine g j (X:=λv=>Yd P l is w0 _ v) (nC λty=>?_)
    first|exact acw a c|exact sT a c
  obtain⟨us,c,h⟩:=alx h
  obtain⟨b,⟨p,f⟩,h⟩:=h;rw[Array.toArray_toList,Array.toArray_toList] at f;refine⟨_,_,_,h,λ_=>?_⟩
  first
   |exact (nC λty=>aaZ p a c f).as (by simp)
   |exact (nC λty=>aeJ p a c f).as (by simp)
 case lss|leq|gtr|geq=>
  obtain⟨k,m,a,h⟩:=tJ h;obtain⟨q,n,c,h⟩:=tJ h;obtain⟨d,v,o,h,g⟩:=arb h;refine⟨_,_,_,h,λ⟨e,j⟩=>?_⟩;subst e;refine g j (X:=λv=>Yd P l is w0 _ v) (nC λty=>?_)
  first|exact Cx a c|exact Hr a c|exact acv a c|exact Yr a c
 all_goals exact h.elim
def asj{b:Builtin}{xs:List cw}{ts:List bh}{o:List Nat}(h:caV P l is b xs ts o K):∃g v p,K g v p is/\(g->Yd P l is w0 (.call { callee:=.builtin b,args:=xs.toArray,argTypes:=ts.toArray }) v):=by
 unfold caV at h;split at h
 . obtain⟨E,i,h⟩:=qM h
   obtain⟨a,n,c,d,h⟩:=alw h;exact⟨_,_,_,h,λ_=>nC λty=>qG O (ape i) d⟩
 . obtain⟨k,m,d,h⟩:=tJ h
   obtain⟨j,n,f,h⟩:=tJ h;refine⟨_,_,_,h,λe=>nC λty=>?_⟩;subst e;exact au6 d f O
 . obtain⟨k,m,d,h⟩:=tJ h
   obtain⟨j,n,f,h⟩:=tJ h;refine⟨_,_,_,h,λe=>nC λty=>?_⟩;subst e;exact wT d f O
 exact h.elim
def apj{k:Nat}{f:Ob->Prop}(d:∀x∈os,fK w0 x.1 x.2.1 x.2.2)(h:atB is os k f):∃x:Ob,(∀w,Mem w0 w is->fK w x.1 x.2.1 x.2.2)/\f x:=by
 rcases alt h with ⟨i,c,x,b,a⟩|⟨x,b,a⟩
 .exact⟨x,λw m=>(i.bkP x b).2 w (m.all i c),a⟩
 exact⟨x,λw m=>(d x b).ext m.ext,a⟩
def abp(cs:Array ak)(o n:Nat):cs.extract o (o+n)=((cs.toList.drop o).take n).toArray:=by
 apply Array.ext';simp
def ag1:∀{l:List (Nat×Nat)} {n:Nat} {f:Nat×Nat->Prop},abm l n f->∃z,l[n]? = H z/\f z
 |x::_,0,_,h=>⟨x,rfl,h⟩
 |_::l,n+1,_,h=>by rw[jn];exact ag1 (l:=l) h
def aiJ{cs us:List ak}{o:Nat}{c:ak}(h:o<cs.length):bR (cs.set o c) (o+1) us=bR cs o (c::us):=by
 unfold bR;have a:(cs.set o c).take (o+1)=cs.take o++[c]:=by
  rw[qd,List.take_set_of_le (ba o),List.getElem?_set_self h];rfl
 have b:(cs.set o c).drop (o+1+us.length)=cs.drop (o+(us.length+1)):=by
  rw[List.drop_set_of_lt (by omega)]
  congr 1
  omega
 rw[a,b];simp
def Zw:∀(us:List ak)(off k:Nat)(cs:Array ak),off+k+us.length<=cs.size ->
 (us.zipIdx k).foldl (λ(cs:Array ak)(x:ak×Nat)=>cs.setIfInBounds (off+x.2) x.1) cs=(bR cs.toList (off+k) us).toArray
 | [],off,k,cs,h=>by simp[bR]
 |c::us,off,k,cs,h=>by
  simp only[be] at h;rw[List.zipIdx_cons,j_,Zw us off (k+1) _ (by simp;omega),<-aiJ (by simp;omega)];simp[Nat.add_assoc]
def aiK{a:Nat->Option (Nat×Nat)}{cells:Array ak}{i off size:Nat}{v:ak}{rest:List (Nat×ak)}(b:a i=H (off,size))(e:v.cells.size=size)(d:off+size<=cells.size) :
 Instr.fill a cells ((i,v)::rest)=Instr.fill a (bR cells.toList off v.cells.toList).toArray rest:=by
 have hc:¬(v.cells.size≠size||off+v.cells.size>cells.size)=Z:=by simp;omega
 have c:=Zw v.cells.toList off 0 cells (by simp;omega);rw[Instr.fill];simp only[b];rw[K0 hc]
 congr 1
 rw[<-Array.foldl_toList,Array.toList_zipIdx];exact c
def aly{pl:List (Nat×Nat)}:∀{ps:List (Nat×cw)} {cs:List ak} {q:Prop} {f:Prop->List ak->Prop},blV l pl ps cs q f ->
 ∃a b,f a b/\(a->q/\Instr.fill (λi=>pl[i]?) cs.toArray (ps.map λx=>(x.1,ev l x.2))=H b.toArray)
 | [],cs,q,f,h=>⟨q,cs,h,λc=>⟨c,rfl⟩⟩
 |(i,x)::ps,cs,q,f,h=>by
  obtain⟨z,e,h⟩:=ag1 h;obtain⟨k,m,h⟩:=abo h;obtain⟨a,b,d,c⟩:=aly h;refine⟨a,b,d,λh=>?_⟩;obtain⟨⟨h1,h2,j⟩,g⟩:=c h;have h1:=Gv h1;have h2:=Gv h2;rw[bz,ix] at h2;refine⟨j,?_⟩;rw[bm,aiK (off:=z.1) (size:=z.2) (by rw[e]) (by simpa using h1) ?_]
  .exact g
  simp
  omega
def Zx{p b:Nat->Option (Nat×Nat)}(h:∀i x,p i=H x->b i=H x):∀{l:List (Nat×ak)} {cells cs:Array ak},Instr.fill p cells l=H cs->Instr.fill b cells l=H cs
 | [],_,_,e=>e
 |(i,v)::l,cells,cs,e=>by
  rw[Instr.fill] at e ⊢;cases a:p i with
  |none=>rw[a] at e;cases e
  |some x=>
   rw[a] at e;rw[h i x a];simp only at e ⊢;split at e
   .cases e
   rename_i hc
   rw[K0 hc];exact Zx h e
def Tw{P:cg}:∀{fs:List Field} {l:List (Nat×Nat)},fs.mapM (λ(f:Field)=>(tG P f.type).map λx=>(f.offset,x.2))=H l->∀w,(fs.mapM λf=>do pure (f.offset,<-sizeOf f.type):Sem (List (Nat×Nat))).run P w=.ok l w
 | [],l,h,w=>by
  rw[List.mapM_nil] at h ⊢;cases h;rfl
 |f::fs,l,h,w=>by
  rw[List.mapM_cons] at h ⊢;cases c:tG P f.type with
  |none=>rw[c] at h;cases h
  |some x=>
   obtain⟨b,n⟩:=x;rw[c] at h;cases a:fs.mapM (λ(f:Field)=>(tG P f.type).map λx=>(f.offset,x.2)) with
   |none=>simp[a] at h
   |some e=>
    simp[a] at h;subst h;have d:=Tw a w;simp only[bind_pure_comp] at d;simp[eT (Br c).2,d]
def apk{P:cg}{pl:List (Nat×Nat)}{z:List ak}(h:yO P T=H (pl,z)){vs:Array (Nat×ak)}{cs:List ak}(p:Instr.fill (λi=>pl[i]?) z.toArray vs.toList=H cs.toArray)(w:an):(Instr.build T vs).run P w=.ok (.agg cs.toArray) w:=by
 unfold yO at h;split at h
 . rename_i fs q k l
   obtain⟨z0,m,o⟩:=abl l;cases e:fs.toList.mapM (λ(f:Field)=>(tG P f.type).map λx=>(f.offset,x.2)) with
   |none=>rw[e] at h;cases h
   |some r=>
    rw[e] at h;cases h;refine eU (places:=pl.toArray) k m (λw=>?_) (by rw[o];simpa using p) w;have a:=Tw e w;rw[jt];simp only[bind_pure_comp] at a ⊢;simp[a]
 . rename_i n E q k l
   obtain⟨z0,m,o⟩:=abl l;cases g:tG P E with
   |none=>rw[g] at h;cases h
   |some x=>
    obtain⟨b,c⟩:=x;rw[g] at h;cases h;refine nA k m (Br g).2 ?_ w;rw[o];refine Zx (λi x d=>?_) p;rw[fi] at d;cases a:(ii n)[i]? with
    |none=>rw[a] at d;cases d
    |some j=>
     rw[a] at d;have:=az.1 a;obtain⟨h1,h2⟩:=this;rw[List.getElem_range] at h2;subst h2;cases d;rfl
 cases h
def Bx(P:cg)(l:List ak)(is:List It)(w0:an)(ds:List eh)(op:Op)(cs:List ak)(T:bh):Prop:=∀(d:Nat)(ty:bh)(pos:String)(a:Array Edge)(ops:Array Oper)(Q:Exit->Act->an->Prop)(rest:List Oper)(w:an),Mem w0 w is->(∀g u,eQ w u->Mem w0 u (bI g cs T::is)->bf P ops Q rest (Fr (l.set d (.pointer (H ⟨g,0,G0⟩))) ds) u)->bf P ops Q (ci (H d) op ty pos a G0::rest) (Fr l ds) w
def Tx{B:Bool}{op:Op}{S:List Nat}{K:KV}(aa:∀x∈os,fK w0 x.1 x.2.1 x.2.2)(h:Ds P w0 l is os B op S K) :
 (∃U v ab,K U v ab is/\(U->Yd P l is w0 op v))\/(B=X9/\∃cs T,(∀g,K True (.pointer (H ⟨g,0,G0⟩)) S (bI g cs T::is))/\Bx P l is w0 ds op cs T):=by
 unfold Ds at h;split at h
 .exact .inl ⟨_,_,_,h,λ_=>nC λty=>aI⟩
 .exact .inl ⟨_,_,_,h,λ_=>nC λty=>aK⟩
 . obtain⟨a,i,h⟩:=Ja h
   exact .inl ⟨_,_,_,h,λ_=>nC λty=>eX i⟩
 . obtain⟨b,hc,h⟩:=Iz h
   cases b
   .exact .inl ⟨_,_,_,h,λ_=>nC λty=>xP hc⟩
   exact .inl ⟨_,_,_,h,λ_=>nC λty=>Gg hc⟩
 .exact .inl (asi h)
 . obtain⟨b,i,h⟩:=Iz h
   exact .inl ⟨_,_,_,h,λ_=>nC λty=>lB i⟩
 . obtain⟨k,m,i,h⟩:=tJ h
   exact .inl ⟨_,_,_,h,λI=>nC λty=>uH i I.wrap⟩
 . obtain⟨k1,h1,h⟩:=qM h
   obtain⟨k2,h2,h⟩:=qM h;obtain⟨k,m,i,h⟩:=tJ h;exact .inl ⟨_,_,_,h,λI=>nC λty=>gB (alp h2) (alp h1) i I.wrap⟩
 . obtain⟨f,D,h⟩:=qM h
   obtain⟨a,i,h⟩:=Ja h;obtain⟨m,R,h⟩:=abo h;obtain⟨o,b,n⟩:=f;obtain⟨fs,f,h1,h2,t,C,y⟩:=agZ D;simp only at R h;rw[R] at y;exact .inl ⟨_,_,_,h,λ_=>nC λty=>aY h1 h2 y i (by rw[t])⟩
 . obtain⟨⟨z,c⟩,j,h⟩:=qM h
   unfold Pu at j;split at j
   . rename_i n E J
     cases r:tG P E with
     |none=>rw[r] at j;cases j
     |some x=>
      obtain⟨b,W⟩:=x;rw[r] at j;cases j;obtain⟨a,i,h⟩:=Ja (show vvP _ _ from h);obtain⟨k,m,L,h⟩:=tJ h;exact .inl ⟨_,_,_,h,λp=>nC λty=>aW J (Br r).2 i L p.1 p.2 O⟩
   . rename_i E J
     cases r:tG P E with
     |none=>rw[r] at j;cases j
     |some x=>
      obtain⟨b,W⟩:=x;rw[r] at j;cases j;obtain⟨A,n,cp,i,h⟩:=alw (show vvS _ _ from h);obtain⟨a,rfl,h⟩:=qM h;obtain⟨k,m,L,h⟩:=tJ h;exact .inl ⟨_,_,_,h,λp=>nC λty=>aP J (Br r).2 i L p.1 p.2 O⟩
   cases j
 . obtain⟨f,D,h⟩:=qM h
   obtain⟨cs,i,h⟩:=alx h;obtain⟨o,b,n⟩:=f;obtain⟨fs,f,h1,h2,t,C,y⟩:=agZ D;simp only at h;cases b
   . obtain⟨v,p,h⟩:=Rk h
     exact .inl ⟨_,_,_,h,λ_=>nC λty=>aj7 h1 h2 C i (by rw[t];simpa using p)⟩
   exact .inl ⟨_,_,_,h,λ_=>nC λty=>aj8 h1 h2 C y i (by rw[t];exact abp _ _ _)⟩
 . obtain⟨⟨pl,z⟩,j,h⟩:=qM h
   obtain⟨q,cs,h,Z⟩:=aly h;exact .inl ⟨_,_,_,h,λp=>nC λty=>mR O (apk j (by simpa using (Z p).2))⟩
 . obtain⟨cs,i,h⟩:=asg h
   obtain⟨v,p,h⟩:=Rk h;exact .inl ⟨_,_,_,h,λ_=>nC λty=>dV i (by simpa using p)⟩
 . split at h
   . obtain⟨a,i,h⟩:=Ja h
     obtain⟨v,Y,h⟩:=asf h;exact .inl ⟨_,_,_,h,λ_ w m ty=>bE i (Y w m)⟩
   . obtain⟨z,j,h⟩:=qM h
     obtain⟨a,i,h⟩:=Ja h;obtain⟨g,s,h⟩:=apj aa h;obtain⟨b,n⟩:=z;have M:=(Br j).1;have X:=(Br j).2;cases b
     . obtain⟨v,p,h⟩:=Rk h
       exact .inl ⟨_,_,_,h,λe w m ty=>bE i (by rw[e];exact (s w m).lies1 M p)⟩
     exact .inl ⟨_,_,_,h,λe w m ty=>bE i (by rw[e.1];exact (s w m).lies M X O (Gv e.2))⟩
   exact h.elim
 . cases B
   .refine .inr ⟨O,_,_,h,λd ty pos V ops Q rest w m G=>Si (by simp) λu g e F s=>G g u e (m.newB e F s)⟩
   exact h.elim
 . cases B
   . obtain⟨cs,j,h⟩:=qM (show Dr _ _ from h)
     obtain⟨z,h1,h2⟩:=abl j;refine .inr ⟨O,_,_,h,λd ty pos V ops Q rest w m G=>xO h1 h2 λu g e F s=>G g u e (m.newB e F s)⟩
   exact h.elim
 . rename_i c
   split at h
   . rename_i b N
     obtain⟨ce,xs,ts⟩:=c;simp only at N h;subst N;have:=asj (w0:=w0) h;simpa using Or.inl this
   exact h.elim
 exact h.elim
def alz{f:Bool}{q:List Nat}(h:stV P l is f op q K):f=X9/\∃r G s,K r undef G s/\(r->∀(ty:bh)(pos:String)(j:Array Edge)(ops:Array Oper)(Q:Exit->Act->an->Prop)(rest:List Oper)(w:an),Mem w0 w is->(∀u,Mem w0 u s->bf P ops Q rest (Fr l ds) u)->bf P ops Q (ci G0 op ty pos j G0::rest) (Fr l ds) w):=by
 unfold stV at h;split at h
 . rename_i T x y k q
   cases f with
   |true=>exact h.elim
   |false=>
   obtain⟨z,D,h⟩:=qM (show Dr _ _ from h);obtain⟨n,C,h⟩:=abo h;obtain⟨a,p,h⟩:=Ja h;obtain⟨i,g,o,d,h⟩:=afh h;obtain⟨b,z⟩:=z;refine⟨O,_,_,_,h,λ⟨e,h1,h2,t⟩ ty pos j ops Q rest w m B=>?_⟩;have A:=(Br D).2;have h1:=Gv h1;have h2:=Gv h2;simp only at C h1 h2;have c:=i.bkP g d;have v:=c.2 w (m.all i (bn o));rw[e] at p;refine tY p (us:=(ev l y).cells.toList) (by simp) (by rw[h2];exact A) v ?_ (jB (agY t)) λu hc E=>B u (m.put k o hc.os hc.tape hc.output (by rw[hc.size];exact ba _) (λb _ F=>hc.block b λe=>F ((c.1 b).2 e)) E (.inl λb d=>(c.1 b).2 (by cases d;rfl)));rw[bz,ix] at h1;omega
 exact h.elim
def asl{v:ak}{b:Bool}{p:Prop}(h:vvG v b p q):(v=.bool b/\p)\/((∀c,v=.bool c->(c == b)=X9)/\q):=by
 cases v with
 |bool c=>
  unfold vvG at h;simp only at h;split at h
  .rename_i e;exact .inl ⟨by rw[e],h⟩
  rename_i e;exact .inr ⟨λd a=>by cases a;simpa using e,h⟩
 |tuple=>exact .inr ⟨λc e=>(by cases e),h⟩
 |_=>exact h.elim
def abq{j:Nat}{b:Bool}(h:vyv ops.toList l j=.bool b):yielded ops l.toArray j=H b:=by
 unfold vyv at h;unfold yielded;simp only[gr] at h;cases c:ops[j]? with
 |none=>rw[c] at h;cases h
 |some o=>
  rw[c] at h;simp only at h;cases a:o.dst with
  |none=>rw[a] at h;cases h
  |some d=>
   rw[a] at h;simp only[ir] at h;simp only[io,a,ni];cases e:l[d]? with
   |none=>rw[e] at h;cases h
   |some v=>rw[e] at h;simp only[dt] at h;rw[h]
def asm{j:Nat}{b:Bool}(h:yielded ops l.toArray j=H b):vyv ops.toList l j=.bool b:=by
 unfold yielded at h;unfold vyv;simp only[gr];cases c:ops[j]? with
 |none=>rw[c] at h;cases h
 |some o=>
  rw[c] at h;simp only[io] at h ⊢;cases a:o.dst with
  |none=>rw[a] at h;cases h
  |some d=>
   rw[a] at h;simp only[io,ni] at h;simp only[ir];cases e:l[d]? with
   |none=>rw[e] at h;cases h
   |some v=>
    rw[e] at h;simp only[dt];cases v<;>first|(cases h;done)|(cases h;rfl)
def Nq{g:Option (Nat×Bool)}{a:List Nat}{p q:List Nat->Prop}{r:Nat->List Nat->Nat->Bool->Prop}(h:opG ops l g a p q r):(∃a,p a/\∀d op ty pos f,Region.wanted (ci d op ty pos f g) (yielded ops l.toArray)=Z)\/(∃a,q a/\∀d op ty pos f,Region.wanted (ci d op ty pos f g) (yielded ops l.toArray)=X9)\/∃k a j b,g=H (j,b)/\r k a j b:=by
 cases g with
 |none=>exact .inl ⟨_,h,λ_ _ _ _ _=>rfl⟩
 |some g=>
  obtain⟨j,b⟩:=g;rcases a with _|⟨_|k,a⟩
  .exact h.elim
  . rcases asl (show vvG _ _ _ _ from h) with ⟨e,h⟩|⟨e,h⟩
    .exact .inl ⟨_,h,λ_ _ _ _ _=>by simp[Region.wanted,abq e]⟩
    refine .inr (.inl ⟨_,h,λ_ _ _ _ _=>?_⟩)
    cases i:yielded ops l.toArray j with
    |none=>simp[Region.wanted,i]
    |some c=>simpa[Region.wanted,i] using e c (asm i)
  exact .inr (.inr ⟨k,a,j,b,O,h⟩)
def afi:∀{ops:List Oper}{j:Nat}{f:Nat->Prop},dsT ops j f->∃t,(∀l:List ak,vyv ops l j=l.getD t undef)/\f t
 |⟨H d,_,_,_,_,_⟩::_,0,_,h=>⟨d,λ_=>rfl,h⟩
 |⟨G0,_,_,_,_,_⟩::_,0,_,h=>h.elim
 |⟨H _,_,_,_,_,_⟩::ops,j+1,_,h|⟨G0,_,_,_,_,_⟩::ops,j+1,_,h=>let ⟨t,h1,h2⟩:=afi (ops:=ops) (j:=j) h;⟨t,λl=>h1 l,h2⟩
 | [],0,_,h| [],_+1,_,h=>h.elim
def aso{a b:Bool}{p:Prop}(h:vbE a b p):a=b/\p:=by cases a<;>cases b<;>first|exact h.elim|exact⟨rfl,h⟩
def upU(u:Nat->ak)(d:Nat)(v:ak)(i:Nat):ak:=if i=d then v else u i
def afj(l:List ak)(u:Nat->ak)(d:Nat)(v:ak):∀ds:List Nat,(Zv l ds (upU u d v)).set d v=(Zv l ds u).set d v
 | []=>rfl
 |e::ds=>by
  show ((Zv l ds (upU u d v)).set e (upU u d v e)).set d v=((Zv l ds u).set e (u e)).set d v
  by_cases h:e=d
  . subst h
    rw[ri,ri];exact afj l u e v ds
  rw[List.set_comm _ _ h,List.set_comm _ _ h,afj l u d v ds]
  unfold upU;rw[K0 h]
def abr(l:List ak)(u:Nat->ak)(d:Nat)(v:ak)(ds:List Nat):(Zv l ds u).set d v=Zv l (d::ds) (upU u d v):=by
 show _=(Zv l ds (upU u d v)).set d (upU u d v d)
 rw[show upU u d v d=v from Z9 rfl,afj]
def alA{α:Type}{D:α->Option Oper}{ops:Array Oper}{j t:Nat}{want b:Bool}{K:Prop->List Nat->List α->List Nat->Nat->Bool->Prop}{Y:List α->List ak->Prop}{l0:List ak}(N:∀x∈os,fK w0 x.1 x.2.1 x.2.2)
 (F:∀x d op ty pos m g rest l v,D x=H ⟨H d,op,ty,pos,m,g⟩->Region.wanted (ci (H d) op ty pos m g) (yielded ops l.toArray)=Z->Yd P l is w0 op v->Y rest (l.set d v)->Y (x::rest) l)
 (L:∀x d op ty pos m g rest l,D x=H ⟨H d,op,ty,pos,m,g⟩->Region.wanted (ci (H d) op ty pos m g) (yielded ops l.toArray)=X9->Y rest (l.set d undef)->Y (x::rest) l)
 (E:∀l:List ak,vyv ops.toList l j=l.getD t undef) (C:∀q y rest ds d v,K q y rest ds d v->q/\∀u:Nat->ak,Y rest ((Zv l0 ds u).set d (.bool v))) :
 ∀(k:Nat)(y:List Nat)(q:Prop)(rest:List α)(l:List ak)(ds:List Nat),VG D P w0 is os j want b t K k y q rest l ds->l.getD t undef=.bool b->(∃u,l=Zv l0 ds u) ->
  q/\(b=want->Y rest l)/\(b≠want->∀u,(Zv l0 ds u).getD t undef=.bool b->Y rest (Zv l0 ds u))
 |k+1,y,q,x::rest,l,ds,h,r,⟨M,G⟩=>by
  unfold VG at h;split at h
  . rename_i d op ty pos m i w s
    rcases Tv h with ⟨A,h1⟩|⟨_,h1⟩
    . obtain⟨O,h2⟩:=aso h1
      subst A;subst O;replace h:=h2;clear h1 h2;rcases Tv h with ⟨_,h⟩|⟨S,h⟩
      .exact h.elim
      rcases Tx (ds:=[]) N h with ⟨T,v,U,h,R⟩|⟨e,_⟩
      . have J:∀(f:List ak)(c:ak),(f.set d c).getD t undef=f.getD t undef:=λf c=>by
         rw[ir,ir,nq (Ne.symm S)]
        obtain⟨⟨h1,p⟩,h2,B⟩:=alA N F L E C k _ _ _ _ _ h (by rw[J];exact r) ⟨_,by rw[G];exact abr ..⟩;refine⟨p,λe=>F _ _ _ _ _ _ _ _ _ _ s ?_ (R (h1 e)) (h2 e),λe u o=>L _ _ _ _ _ _ _ _ _ s ?_ ?_⟩
        .simp[Region.wanted,abq ((E l).trans r),e]
        .simp[Region.wanted,abq ((E _).trans o),e]
        rw[abr]
        exact B e _ (by rw[<-abr,J];exact o)
      cases e
    exact h1.elim
  . rename_i d i a c ty pos m s
    rcases Tv h with ⟨A,h1⟩|⟨_,h1⟩
    . subst A
      replace h:=h1;clear h1;have Q:∀f:List ak,Region.wanted (ci (H d) (.pick (.tmp t) a c) ty pos m G0) (yielded ops f.toArray)=Z:=λ_=>rfl;have key:∀(f:List ak)(v z:Bool),f.getD t undef=.bool b->(b=Z->ev f a=.bool v)->(b=X9->ev f c=.bool v)->v=z->Y rest (f.set d (.bool z))->Y (x::rest) f:=λf v z h1 h2 B e n=>by
       subst e;refine F _ _ _ _ _ _ _ _ _ _ s (Q f) ?_ n;cases b with
       |true=>exact (nC λty=>Gg (show ev f (.tmp t)=_ from h1)).as (h2 rfl)
       |false=>exact (nC λty=>xP (show ev f (.tmp t)=_ from h1)).as (B rfl)
      unfold pkG at h;split at h
      . split at h
        . obtain⟨v,I,h⟩:=Iz h
          obtain⟨p,n⟩:=C _ _ _ _ _ _ h;refine⟨p,λe=>?_,λe u o=>?_⟩
          . subst e
            subst G;exact key _ v _ r (λ_=>I) (λe=>by cases e) (Bool.true_and v).symm (n M)
          have e:b=X9:=by simpa using e
          subst e;exact key _ X9 _ o (λe=>by cases e) (λ_=>rfl) (Bool.false_and v).symm (n u)
        exact h.elim
      split at h
      . obtain⟨v,I,h⟩:=Iz h
        obtain⟨p,n⟩:=C _ _ _ _ _ _ h;refine⟨p,λe=>?_,λe u o=>?_⟩
        . subst e
          subst G;exact key _ v _ r (λe=>by cases e) (λ_=>I) (Bool.false_or v).symm (n M)
        have e:b=Z:=by simpa using e
        subst e;exact key _ Z _ o (λ_=>rfl) (λe=>by cases e) (Bool.true_or v).symm (n u)
      exact h.elim
    exact h1.elim
  exact h.elim
 |0,_,_,_,_,_,h,_,_=>h.elim
 |_+1,_,_,[],_,_,h,_,_=>h.elim
def oB{ops:Array Oper}{Q:Exit->Act->an->Prop}{rest:List Oper}{d:Option Nat}{op:Op}{ty:bh}{pos:String}{a:Array Edge}{g:Option (Nat×Bool)}{w:an}(b:Region.wanted (ci d op ty pos a g) (yielded ops l.toArray)=Z)
 (h:bf P ops Q (ci d op ty pos a G0::rest) (Fr l ds) w):bf P ops Q (ci d op ty pos a g::rest) (Fr l ds) w:=by
 unfold bf at h ⊢;rw[Z9 (by simp[Region.wanted])] at h;rw[Z9 b];exact h
def uU{ops:Array Oper}{Q:Exit->Act->an->Prop}{rest:List Oper}{o:Oper}{w:an}(a:Region.wanted o (yielded ops l.toArray)=X9)
 (h:bf P ops Q rest ((Fr l ds).put o.dst undef) w):bf P ops Q (o::rest) (Fr l ds) w:=by
 unfold bf;rw[K0 (by rw[a];simp)];exact h
def abt{R:Exit->Act->an->Prop}{id:Nat}{a:Act}{w:an}{G:List Ko->Prop}:∀{s:List Ko},Xi id s G->∃d,G d/\(Ct P R d .normal a w->Ct P R s (.exit id) a w)
 |.b j::s,h=>by
  rcases Tv h with ⟨e,h⟩|⟨e,h⟩
  . refine⟨s,h,λf=>?_⟩
    show cn j (Ct P R s) (.exit id) a w
    simp only[cn];rw[Z9 e];exact f
  obtain⟨d,g,f⟩:=abt (R:=R) (a:=a) (w:=w) h
  refine⟨d,g,λh=>?_⟩;show cn j (Ct P R s) (.exit id) a w
  simp only[cn];rw[K0 e];exact f h
 |.c _::s,h|.o _ _::s,h|.k _::s,h|.r _ _::s,h=>let ⟨d,g,f⟩:=abt (R:=R) (a:=a) (w:=w) (s:=s) h;⟨d,g,λh=>f h⟩
 | [],h=>h.elim
def Zy:∀x∈([]:List Ob),fK w0 x.1 x.2.1 x.2.2:=λ_ h=>(by cases h)
def apl{k:Kw}{w u:an}(d:kpb k=X9)(h:kpt k w)(e:eQ w u):kpt k u:=by
 intro b v c;subst c;have a:b=X9:=d;subst a;exact eQ.trans (h X9 v O) e
def rZ{R:Exit->Act->an->Prop}(p:Kw):∀(n:Nat)(y:List Nat)(q:Prop)(s:List Ko)(l:List ak)(is:List It),V P R w0 ds p n y q s l is->q/\∀w,Mem w0 w is->kpt p w->Gt P R s (Fr l ds) w
 |0,_,_,_,_,_,h=>⟨h.1,λ_ m i=>ag0 h.2 m i⟩
 |n+1,y,q,.b _::s,l,is,h=>rZ p n y q s l is h
 |n+1,y,q,.o _ []::s,l,is,h=>rZ p n y q s l is h
 |n+1,y,q,.o ops (⟨H d,op,ty,pos,C,g⟩::rest)::s,l,is,h=>by
  unfold V at h;rcases Nq h with ⟨_,h,z⟩|⟨_,h,z⟩|⟨k,_,j,b,rfl,h⟩
  . rcases Tx (ds:=ds) Zy h with ⟨N,v,O,h,D⟩|⟨E,cs,T,h,J⟩
    . obtain⟨⟨G,A⟩,i⟩:=rZ p n _ _ _ _ _ h
      exact⟨A,λw m f=>oB (z _ _ _ _ _) (eB (D G w m ty) (i w m f))⟩
    exact⟨(rZ p n _ _ _ _ _ (h 0)).1.2,λw m f=>oB (z _ _ _ _ _) (J d ty pos C ops _ rest w m λg u e I=>(rZ p n _ _ _ _ _ (h g)).2 u I (apl E f e))⟩
  . obtain⟨A,i⟩:=rZ p n _ _ _ _ _ h
    exact⟨A,λw m f=>uU (z _ _ _ _ _) (by rw[gV];exact i w m f)⟩
  obtain⟨t,K,h⟩:=afi h
  obtain⟨c,hc,h⟩:=Iz h;obtain⟨A,h1,h2⟩:=alA (Y:=λrest l=>∀w,Mem w0 w is->kpt p w->bf P ops (Ct P R s) rest (Fr l ds) w) (l0:=l) Zy
   (λx d op ty pos C g rest l v B z D h w m f=>by cases B;exact oB z (eB (D w m ty) (h w m f)))
   (λx d op ty pos C g rest l B z h w m f=>by cases B;exact uU z (by rw[gV];exact h w m f)) K
   (λq y rest Q d v h=>⟨(rZ p n _ _ _ _ _ (h λ_=>undef)).1,λu=>(rZ p n _ _ _ _ _ (h u)).2⟩) _ _ _ _ _ _ h hc ⟨λ_=>undef,rfl⟩
  refine⟨A,λw m f=>?_⟩;by_cases e:c=b
  .exact h1 e w m f
  exact h2 e (λ_=>undef) hc w m f
 |n+1,y,q,.o ops (⟨G0,op,ty,pos,C,g⟩::rest)::s,l,is,h=>by
  unfold V at h;rcases Nq h with ⟨_,h,z⟩|⟨_,h,z⟩|⟨_,_,_,_,_,h⟩
  . obtain⟨E,N,O,S,h,D⟩:=alz (w0:=w0) (ds:=ds) h
    obtain⟨⟨G,A⟩,i⟩:=rZ p n _ _ _ _ _ h;exact⟨A,λw m f=>oB (z _ _ _ _ _) (D G ty pos C ops _ rest w m λu I=>i u I λb v e=>(by rw[e] at E;cases E))⟩
  . obtain⟨A,i⟩:=rZ p n _ _ _ _ _ h
    exact⟨A,λw m f=>uU (z _ _ _ _ _) (i w m f)⟩
  exact h.elim
 |n+1,y,q,.c c::s,l,is,h=>by
  cases c with
  |seq a b=>exact (rZ p n _ _ _ _ _ h).imp id λi w m f=>wp_seq (i w m f)
  |skip=>exact (rZ p n _ _ _ _ _ h).imp id λi w m f=>wp_skip (i w m f)
  |block id c=>exact (rZ p n _ _ _ _ _ h).imp (λh=>h) λi w m f=>wp_block (i w m f)
  |exit id=>
   refine⟨?_,λw m f=>?_⟩
   . obtain⟨M,F,_⟩:=abt (P:=P) (R:=R) (a:=Fr l ds) (w:=w0) h
     exact (rZ p n _ _ _ _ _ F).1
   obtain⟨M,F,L⟩:=abt (P:=P) (R:=R) (a:=Fr l ds) (w:=w) h
   exact wp_exit (L ((rZ p n _ _ _ _ _ F).2 w m f))
  |ret=>exact⟨h.1,λw m f=>wp_ret (alo (ag0 h.2 m f) s)⟩
  |cond x a b=>
   obtain⟨t,B,h⟩:=Iz h;cases t
   .exact (rZ p n _ _ _ _ _ h).imp id λi w m f=>Qs B (i w m f)
   exact (rZ p n _ _ _ _ _ h).imp id λi w m f=>wU B (i w m f)
  |region id ops d=>
   cases d
   .exact (rZ p n _ _ _ _ _ h).imp (λh=>h) λi w m f=>wp_region_list (i w m f)
   exact h.elim
  |loop c=>
   cases y with
   |nil=>exact h.elim
   |cons k y=>exact (rZ p n _ _ _ _ _ h).imp (λh=>h) λi w m f=>wp_loop_rounds k (i w m f)
  |_=>exact h.elim
 |n+1,y,q,.r c (k+1)::s,l,is,h=>(rZ p n y q _ l is h).imp (λh=>h) λi w m f=>i w m f
 |_+1,_,_,.r _ 0::_,_,_,h=>h.elim
 |_+1,_,_,.k _::_,_,_,h=>h.elim
 |_+1,_,_,[],_,_,h=>h.elim
/-! ### Regions in a drawn order -/
def VQ{α:Type}(c:α->Option Oper)(P:cg)(w0:an)(is:List It)(os:List Ob)(ops:Array Oper)(K:List α->List ak->Prop):Nat->List Nat->Prop->List α->List ak->Prop
 |0,_,q,rest,l=>q/\K rest l
 |n+1,a,q,x::rest,l=>match c x with
  |some ⟨H d,op,_,_,_,g⟩=>opG ops l g a (λa=>Ds P w0 l is os Z op a λf v a _=>VQ c P w0 is os ops K n a (f/\q) rest (l.set d v)) (λa=>VQ c P w0 is os ops K n a q rest (l.set d undef))
   λk a j w=>dsT ops.toList j λt=>vvB (l.getD t undef) λb=>VG c P w0 is os j w b t (λq a rest e d v=>∀u:Nat->ak,VQ c P w0 is os ops K n a q rest ((Zv l e u).set d (.bool v))) (k+1) a q (x::rest) l []
  |_=>False
 |_+1,_,_,[],_=>False
def Zz{α:Type}{s:α->Option Oper}{ops:Array Oper}{K Y:List α->List ak->Prop}(m:∀x∈os,fK w0 x.1 x.2.1 x.2.2)(p:∀rest l,K rest l->Y rest l)
 (i:∀x d op ty pos a g rest l v,s x=H ⟨H d,op,ty,pos,a,g⟩->Region.wanted (ci (H d) op ty pos a g) (yielded ops l.toArray)=Z->Yd P l is w0 op v->Y rest (l.set d v)->Y (x::rest) l)
 (f:∀x d op ty pos a g rest l,s x=H ⟨H d,op,ty,pos,a,g⟩->Region.wanted (ci (H d) op ty pos a g) (yielded ops l.toArray)=X9->Y rest (l.set d undef)->Y (x::rest) l) :
 ∀(n:Nat)(y:List Nat)(q:Prop)(rest:List α)(l:List ak),VQ s P w0 is os ops K n y q rest l->q/\Y rest l
 |0,_,_,_,_,h=>⟨h.1,p _ _ h.2⟩
 |n+1,y,q,x::rest,l,h=>by
  unfold VQ at h;split at h
  . rename_i d op ty pos a g A
    rcases Nq h with ⟨_,h,z⟩|⟨_,h,z⟩|⟨k,_,j,b,B,o⟩
    . rcases Tx (ds:=[]) m h with ⟨F,v,G,h,D⟩|⟨e,_⟩
      . obtain⟨⟨h1,r⟩,w⟩:=Zz m p i f n _ _ _ _ h
        exact⟨r,i _ _ _ _ _ _ _ _ _ _ A (z _ _ _ _ _) (D h1) w⟩
      cases e
    . obtain⟨r,w⟩:=Zz m p i f n _ _ _ _ h
      exact⟨r,f _ _ _ _ _ _ _ _ _ A (z _ _ _ _ _) w⟩
    subst B
    obtain⟨t,C,o⟩:=afi o;obtain⟨c,hc,o⟩:=Iz o;obtain⟨r,h1,h2⟩:=alA (l0:=l) m i f C (λq y rest E d v h=>⟨(Zz m p i f n _ _ _ _ (h λ_=>undef)).1,λu=>(Zz m p i f n _ _ _ _ (h u)).2⟩) _ _ _ _ _ _ o hc ⟨λ_=>undef,rfl⟩;refine⟨r,?_⟩;by_cases e:c=b
    .exact h1 e
    exact h2 e (λ_=>undef) hc
  exact h.elim
 |_+1,_,_,[],_,h=>h.elim
def awQ{Q:Act->Prop}(i:∀x∈os,fK w0 x.1 x.2.1 x.2.2){e:List Nat}{rest:List Oper}{l:List ak}(h:VQ H P w0 is os ops (λrest l=>M P ops (λu=>Mem w0 u is) Q rest (Fr l ds)) n e True rest l):M P ops (λu=>Mem w0 u is) Q rest (Fr l ds):=by
 refine (Zz (Y:=λrest l=>M P ops (λu=>Mem w0 u is) Q rest (Fr l ds)) i (λ_ _ h=>h) (λx d op ty pos c g rest l v b a f h=>?_) (λx d op ty pos c g rest l b a h=>?_) n e True rest l h).2
 . cases b
   have h:=kI (ty:=ty) (pos:=pos) (after:=c) (λu m=>f u m ty) h;unfold M at h ⊢;rw[Z9 (by simp[Region.wanted])] at h;rw[Z9 a];exact h
 cases b
 unfold M;rw[K0 (by rw[a];simp)];show M P ops _ Q rest ((Fr l ds).put (H d) undef)
 rw[gV];exact h
def hdH(x:Oper×Bool):Option Oper:=match x.2 with
 |true=>H x.1
 |false=>G0
def awR{Q:Exit->Act->an->Prop}{w:an}(k:∀x∈os,fK w0 x.1 x.2.1 x.2.2){i:List Nat}{rest:List (Oper×Bool)}{l:List ak}(h:VQ hdH P w0 is os ops (λrest l=>cJ P ops (λu=>Mem w0 u is) Q rest (Fr l ds) w) n i True rest l):cJ P ops (λu=>Mem w0 u is) Q rest (Fr l ds) w:=by
 refine (Zz (Y:=λrest l=>cJ P ops (λu=>Mem w0 u is) Q rest (Fr l ds) w) k (λ_ _ h=>h) (λx d op ty pos f g rest l v a e c h=>?_) (λx d op ty pos f g rest l a e h=>?_) n i True rest l h).2
 . obtain⟨o,b⟩:=x
   cases b
   .cases a
   cases a
   obtain⟨v,c,h⟩:=aeI (ty:=ty) (pos:=pos) (after:=f) (λu m=>c u m ty) h;refine⟨v,?_,h⟩;rcases c with ⟨_,c⟩|⟨j,_⟩
   .exact .inl ⟨e,c⟩
   simp[Region.wanted] at j
 obtain⟨o,b⟩:=x
 cases b
 .cases a
 cases a
 refine⟨undef,.inr ⟨e,O⟩,?_⟩;show cJ P ops _ Q rest ((Fr l ds).put (H d) undef) w
 rw[gV];exact h
end
def awS{P R w0 ds k n b q s l a is c}(h:l=a)(d:is=c):V P R w0 ds k n b q s l is=V P R w0 ds k n b q s a c:=by rw[h,d]
def asp{ops l a g b c p q r}(h:l=a)(d:b=c):opG ops l g b p q r=opG ops a g c p q r:=by rw[h,d]
def asq{P w0 l a is os b d op c K}(h:l=a)(e:b=d):Ds P w0 l is os b op c K=Ds P w0 a is os d op c K:=by rw[h,e]
def asr{P l a is b d op c K}(h:l=a)(e:b=d):stV P l is b op c K=stV P a is d op c K:=by rw[h,e]
def ass{P l a is b xs ts c K}(h:l=a):caV P l is b xs ts c K=caV P a is b xs ts c K:=by rw[h]
def ast{P T b x y c d a is K}(h:x=c)(e:y=d):biV P T b x y a is K=biV P T b c d a is K:=by rw[h,e]
def asu{v v' f g}(h:v=v'):vvE v f g=vvE v' f g:=by rw[h]
def avw{a:α->Option Oper}{P w0 is os j want b t K k d q rest l c ds}(h:l=c):VG a P w0 is os j want b t K k d q rest l ds=VG a P w0 is os j want b t K k d q rest c ds:=by rw[h]
def asv{want b l x y f}:pkG want b l x y f=pkG want b l x y f:=rfl
def asw{g k}:ldK g k=ldK g k:=rfl
def asx{ops j f}:dsT ops j f=dsT ops j f:=rfl
def avx{a b p K is}[Decidable p](h:a=b):cV a p K is=cV b p K is:=by rw[h]
def asy{v v' f}(h:v=v'):vU v f=vU v' f:=by rw[h]
def asz{v v' f}(h:v=v'):vvB v f=vvB v' f:=by rw[h]
def asA{v v' f}(h:v=v'):vvP v f=vvP v' f:=by rw[h]
def asB{v v' f}(h:v=v'):vvS v f=vvS v' f:=by rw[h]
def asC{v v' f}(h:v=v'):vvA v f=vvA v' f:=by rw[h]
def asD{v v' f}(h:v=v'):vvT v f=vvT v' f:=by rw[h]
def asE{v v' b p q}(h:v=v'):vvG v b p q=vvG v' b p q:=by rw[h]
def asF{o o':Option α}{f}(h:o=o'):Dr o f=Dr o' f:=by rw[h]
def asG{b a p q}(h:b=a):vbX b p q=vbX a p q:=by rw[h]
def asH{n n' p}(h:n=n'):vnX n p=vnX n' p:=by rw[h]
def asI{n n' m p q}(h:n=n'):Yf n m p q=Yf n' m p q:=by rw[h]
def apm{l a n n' f}(h:l=a)(b:n=n'):Np l n f=Np a n' f:=by rw[h,b]
def apn{l a n f}(h:l=a):abm l n f=abm a n f:=by rw[h]
def asJ{l pl ps cs a q f}(h:cs=a):blV l pl ps cs q f=blV l pl ps a q f:=by rw[h]
def asK{is a os k f}(h:is=a):atB is os k f=atB a os k f:=by rw[h]
def asL{n n' v v' f}(h:n=n')(a:v=v'):vvX n v f=vvX n' v' f:=by rw[h,a]
def avy{a:α->Option Oper}{P w0 is os ops K n c q rest l b}(h:l=b):VQ a P w0 is os ops K n c q rest l=VQ a P w0 is os ops K n c q rest b:=by rw[h]
def dJ{P ops S Q ol a b w}(h:a=b):cJ P ops S Q ol a w=cJ P ops S Q ol b w:=by rw[h]
def asM{os k a f}(h:k=a):atO os k f=atO os a f:=by rw[h]
def asN{is k a f}(h:k=a):atM is k f=atM is a f:=by rw[h]
def asO{i a s f}(h:i=a):Xi i s f=Xi a s f:=by rw[h]
def avz{P R s e a b w}(h:a=b):Ct P R s e a w=Ct P R s e b w:=by rw[h]
def dK{P ops Q rest a b w}(h:a=b):bf P ops Q rest a w=bf P ops Q rest b w:=by rw[h]
def dL{P Q a b w}(h:a=b):c.wp P Q a w=c.wp P Q b w:=by rw[h]
def cZ{P ops C Q rest a b}(h:a=b):M P ops C Q rest a=M P ops C Q rest b:=by rw[h]
def ada:∀(n:Nat)(p q:Prop),Yf n n p q=p
 |0,_,_=>rfl
 |n+1,p,q=>ada n p q
def avA{i:Nat}{s:List Ko}{f:List Ko->Prop}:Xi i (.b i::s) f=f s:=ada i _ _
def kp0{X:an->Prop}:(q/\alv w0 is X G0)=(q/\∀w,Mem w0 w is->X w):=X2 ⟨λh=>⟨h.1,λw m=>h.2 w m λ_ _ e=>(by cases e)⟩,λh=>⟨h.1,λw m _=>h.2 w m⟩⟩
def kp1{a:an}{X:an->Prop}:(q/\alv w0 is X (H (X9,a)))=(q/\∀w,Mem w0 w is->eQ a w->X w):=X2 ⟨λh=>⟨h.1,λw m e=>h.2 w m λ_ _ b=>(by cases b;exact e)⟩,λh=>⟨h.1,λw m e=>h.2 w m (e _ _ rfl)⟩⟩
def alB{p:Prop}[Decidable p]:p↔decide p=Z:=decide_eq_true_iff.symm
def avB{p:Prop}[Decidable p]:p↔decide (¬p)=X9:=⟨λh=>Y6 λe=>e h,λh=>Decidable.of_not_not (X5 h)⟩
def lA{g:Nat}{v:ak}(h:lC P w T ((⟨g,0,G0⟩:Addr).add n) v):lC P w T ⟨g,n,G0⟩ v:=by
 rw[eD,aj] at h;exact h
def Fz(l:List ak)(ds:List eh):Act:=Fr l ds
section
variable{P:cg}{R:Exit->Act->an->Prop}{w0 w:an}{ds:List eh}{s:List Ko}{l:List ak}{is:List It}
def sO(n:Nat)(a:List Nat)(m:Mem w0 w is)(h:V P R w0 ds G0 n a True (.c c::s) l is):c.wp P (Ct P R s) (Fr l ds) w:=(rZ G0 n a True _ l is h).2 w m λ_ _ e=>(by cases e)
def aG(n:Nat)(a:List Nat)(m:Mem w0 w is)(h:V P R w0 ds (H (Z,w)) n a True (.c c::s) l is):c.wp P (Ct P R s) (Fr l ds) w:=(rZ (H (Z,w)) n a True _ l is h).2 w m λ_ _ e=>(by cases e;rfl)
def kX(n:Nat)(a:List Nat)(m:Mem w0 w is)(h:V P R w0 ds G0 n a True [.c c] l is):c.wp P R (Fr l ds) w:=(rZ G0 n a True _ l is h).2 w m λ_ _ e=>(by cases e)
def fD(n:Nat)(a:List Nat)(m:Mem w0 w is)(h:V P R w0 ds (H (Z,w)) n a True [.c c] l is):c.wp P R (Fr l ds) w:=(rZ (H (Z,w)) n a True _ l is h).2 w m λ_ _ e=>(by cases e;rfl)
def iV{rest:List Oper}(n:Nat)(a:List Nat)(m:Mem w0 w is)(h:V P R w0 ds G0 n a True (.o ops rest::s) l is):bf P ops (Ct P R s) rest (Fr l ds) w:=(rZ G0 n a True _ l is h).2 w m λ_ _ e=>(by cases e)
def aJ{rest:List Oper}(n:Nat)(a:List Nat)(m:Mem w0 w is)(h:V P R w0 ds (H (Z,w)) n a True (.o ops rest::s) l is):bf P ops (Ct P R s) rest (Fr l ds) w:=(rZ (H (Z,w)) n a True _ l is h).2 w m λ_ _ e=>(by cases e;rfl)
def fE{Q:Act->Prop}{rest:List Oper}(n:Nat)(a:List Nat)(h:VQ H P w0 is [] ops (λrest l=>M P ops (λu=>Mem w0 u is) Q rest (Fz l ds)) n a True rest l):M P ops (λu=>Mem w0 u is) Q rest (Fr l ds):=awQ Zy h
def Dk{Q:Exit->Act->an->Prop}{ol:List (Oper×Bool)}(n:Nat)(a:List Nat)(h:VQ hdH P w0 is [] ops (λrest l=>cJ P ops (λu=>Mem w0 u is) Q rest (Fz l ds) w) n a True ol l):cJ P ops (λu=>Mem w0 u is) Q ol (Fr l ds) w:=awR Zy h
def tK{rest:List Oper}{f:FuncId}{a:cw}{xs:Array cw}{args:List ak}{first cap:Array ak}{a0:Array bh}{v:ak}{d:Nat}{ty:bh}{pos:String}{c:Array Edge}(m:Mem w0 w is)(g:ev l a=.func (.func f) first cap)(i:first.toList++xs.toList.map (ev l)++cap.toList=args)(hc:eS P f args v)(n:Nat)(b:List Nat)(h:V P R w0 ds G0 n b True (.o ops rest::s) (l.set d v) is):bf P ops (Ct P R s) (ci (H d) (.call { callee:=.value a,args:=xs,argTypes:=a0 }) ty pos c G0::rest) (Fr l ds) w:=
 nX m g i hc λu m=>(rZ G0 n b True _ _ is h).2 u m λ_ _ e=>(by cases e)
def g0{a:Act}(h:c.wp P (Ct P R []) a w):c.wp P R a w:=h
def gc{a:Act}(h:c.wp P (Ct P R s) a w):Ct P R (.c c::s) .normal a w:=h
def go{rest:List Oper}{a:Act}(h:bf P ops (Ct P R s) rest a w):Ct P R (.o ops rest::s) .normal a w:=h
def gk{K:Act->an->Prop}{a:Act}(h:K a w):Ct P R (.k K::s) .normal a w:=h
def bU{c:Code}(ts ss:List Nat)(I:Nat->List ak->an->Prop)(b:∃n,I n (ts.map (l.getD · undef)) w)
 (f:∀n vs w,I n vs w->∀(g:Nat->ak)(K:Act->an->Prop),(∀n' a w',n'<n->rN (fQ l ts (ts.map (a.getD · undef))) ss (a.getD · undef)=a->I n' (ts.map (a.getD · undef)) w'->K (Fr a) w')->c.wp P (Ct P R (.k K::s)) (Fr (rN (fQ l ts vs) ss g)) w):(Code.loop c).wp P (Ct P R s) (Fr l) w:=
 Gh ts ss I b λn vs w e g=>f n vs w e g _ λn' a w' h1 h2 d=>⟨n',a,h1,rfl,h2,d⟩
def Lc(n:Nat)(a:List Nat)(m:Mem w0 w is)(h:V P R w0 ds G0 n a True s l is):Ct P R s .normal (Fr l ds) w:=(rZ G0 n a True _ l is h).2 w m λ_ _ e=>(by cases e)
def S(n:Nat)(a:List Nat)(m:Mem w0 w is)(h:V P R w0 ds (H (Z,w)) n a True s l is):Ct P R s .normal (Fr l ds) w:=(rZ (H (Z,w)) n a True _ l is h).2 w m λ_ _ e=>(by cases e;rfl)
end
section
variable{P:cg}{ds:List eh}{l:List ak}
def ag2{c:Code}{Q:Exit->Act->an->Prop}{w:an}(ts ss:List Nat)(J:List ak->an->Prop)
 (hc:c.wp P (Exit.then (λd w'=>∃b,d=Fr b ds/\rN (fQ l ts (ts.map (b.getD · undef))) ss (b.getD · undef)=b/\J (ts.map (b.getD · undef)) w') Q) (Fr l ds) w)
 (j:∀vs u,J vs u->∀g:Nat->ak,Q .normal (Fr (rN (fQ l ts vs) ss g) ds) u):c.wp P Q (Fr l ds) w:=by
 refine Code.wp_mono ?_ hc;intro e a w' h;cases e with
 |normal=>
  obtain⟨b,rfl,i,f⟩:=h;rw[<-i];exact j _ _ f _
 |exit id=>exact h
 |goto id=>exact h
 |ret=>exact h
 |panic k=>exact h
 |outgrown=>exact h
def apo{c:Code}{Q:Exit->Act->an->Prop}{w0 w:an}{is:List It}(m:Mem w0 w is)(ts ss:List Nat)(J:List ak->Prop)
 (hc:c.wp P (Exit.then (λb w'=>∃a,b=Fr a ds/\rN (fQ l ts (ts.map (a.getD · undef))) ss (a.getD · undef)=a/\Mem w0 w' is/\J (ts.map (a.getD · undef))) Q) (Fr l ds) w)
 (d:∀vs u,Mem w0 u is->J vs->∀g:Nat->ak,Q .normal (Fr (rN (fQ l ts vs) ss g) ds) u):c.wp P Q (Fr l ds) w:=
 ag2 ts ss (λvs w'=>Mem w0 w' is/\J vs) hc λvs u h g=>d vs u h.1 h.2 g
def app{c:Code}{Q:Exit->Act->an->Prop}{w0 w:an}{is:List It}(m:Mem w0 w is)(k:Nat)(ts ss:List Nat)(J:List ak->It->Prop)
 (hc:c.wp P (Exit.then (λd w'=>∃b i,d=Fr b ds/\rN (fQ l ts (ts.map (b.getD · undef))) ss (b.getD · undef)=b/\Mem w0 w' (is.set k i)/\J (ts.map (b.getD · undef)) i) Q) (Fr l ds) w)
 (n:∀vs i u,Mem w0 u (is.set k i)->J vs i->∀g:Nat->ak,Q .normal (Fr (rN (fQ l ts vs) ss g) ds) u):c.wp P Q (Fr l ds) w:=by
 refine ag2 ts ss (λvs w'=>∃i,Mem w0 w' (is.set k i)/\J vs i) (Code.wp_mono ?_ hc) λvs u h g=>?_
 . intro e a w' h
   cases e with
   |normal=>obtain⟨b,i,h1,h2,f,j⟩:=h;exact⟨b,h1,h2,i,f,j⟩
   |exit id=>exact h
   |goto id=>exact h
   |ret=>exact h
   |panic o=>exact h
   |outgrown=>exact h
 obtain⟨i,h1,h2⟩:=h
 exact n vs i u h1 h2 g
end
section
variable{P:cg}{R:Exit->Act->an->Prop}{w0 w:an}{ds:List eh}{s:List Ko}{l:List ak}{is:List It}
def adb{c:Code}(m:Mem w0 w is)(ts ss:List Nat)(J:List ak->Prop)
 (hc:∀K:Act->an->Prop,(∀a w',rN (fQ l ts (ts.map (a.getD · undef))) ss (a.getD · undef)=a->Mem w0 w' is->J (ts.map (a.getD · undef))->K (Fr a ds) w')->c.wp P (Ct P R (.k K::s)) (Fr l ds) w)
 (d:∀vs u,Mem w0 u is->J vs->∀g:Nat->ak,Ct P R s .normal (Fr (rN (fQ l ts vs) ss g) ds) u):c.wp P (Ct P R s) (Fr l ds) w:=
 apo m ts ss J (hc _ λa w' h1 h2 b=>⟨a,rfl,h1,h2,b⟩) d
def kS{c:Code}(m:Mem w0 w is)(k:Nat)(ts ss:List Nat)(J:List ak->It->Prop)
 (hc:∀K:Act->an->Prop,(∀a i w',rN (fQ l ts (ts.map (a.getD · undef))) ss (a.getD · undef)=a->Mem w0 w' (is.set k i)->J (ts.map (a.getD · undef)) i->K (Fr a ds) w')->c.wp P (Ct P R (.k K::s)) (Fr l ds) w)
 (d:∀vs i u,Mem w0 u (is.set k i)->J vs i->∀g:Nat->ak,Ct P R s .normal (Fr (rN (fQ l ts vs) ss g) ds) u):c.wp P (Ct P R s) (Fr l ds) w:=
 app m k ts ss J (hc _ λa i w' h1 h2 b=>⟨a,i,rfl,h1,h2,b⟩) d
end
end
section
open Go.RowKit Go.Proofs Go.Sort Go.Shelf
def alC{α:Type}{enc:α->List ak}{k:Nat}(a:∀x,(enc x).length=k)(b:0<k):∀(L:List α)(t:Nat),(L.flatMap enc)[t]? = (L[t / k]?).bind λx=>(enc x)[t%k]?
 | [],t=>by simp
 |x::L,t=>by
  rw[cz,List.getElem?_append];by_cases h:t<k
  . rw[Z9 (by rw[a];exact h),Nat.div_eq_of_lt h,kd h]
    rfl
  rw[K0 (by rw[a];exact h),a,alC a b L (t-k)]
  have c:t / k=(t-k) / k+1:=by rw[Nat.div_eq t k,Z9 ⟨b,im h⟩]
  have d:t%k=(t-k)%k:=Nat.mod_eq_sub_mod (im h);rw[c,d,jn]
def Bt{α:Type}[Inhabited α]{enc:α->List ak}{k:Nat}(b:∀x,(enc x).length=k)(c:0<k)(L:List α):(flatK enc k L.toArray).toList=L.flatMap enc:=by
 have f:(L.flatMap enc).length=L.length*k:=by
  induction L with
  |nil=>simp
  |cons x L ih=>rw[cz,bg,ih,b,be,Nat.add_mul];omega
 apply gt;intro t;by_cases a:t<L.length*k
 . have d:t / k<L.length:=by
    rw[Nat.div_lt_iff_lt_mul c];exact a
   have e:t%k<k:=kj _ c;have h1:=get_flatK enc k L.toArray t (by simpa using a);rw[getElem!_pos _ t (by simpa using a)] at h1;rw[alC b c,ap d,io,gr,iw (by simpa using a),h1,ap (show t%k<(enc L[t / k]).length by rw[b];exact e)]
   congr 1
   rw[getElem!_pos L.toArray _ (by simpa using d),List.getElem_toArray,getElem!_pos _ _ (by rw[b];exact e)]
 rw[da (by simpa using im a),da (by rw[f];exact im a)]
section
variable{α:Type}[Inhabited α]{P:cg}{ρ:Ren}{enc:α->List ak}{c:Nat}{E:bh}{w w0:an}{is:List It}{A:Option Addr}{n cap:Nat}
def aiL{g:Nat}{xs:List α}{b:Array ak}(i:∀x,(enc x).length=c)(f:0<c)(d:w.heap[g]? = H (.cells b E (0,0)))(h:b.toList.take (xs.length*c)=xs.flatMap enc):HoldsK enc c w g 0 xs.toArray:=by
 intro j a;have k:=Bt i f xs;have l:j<xs.length*c:=by simpa using a
 have e:(flatK enc c xs.toArray)[j]? = b[j]?:=by
  rw[<-gr,k,<-h,gh,Z9 l,gr]
 rw[iw a] at e;refine⟨?_,?_⟩
 . simp only[World.cell?,d,aj,Option.isSome_none,qz,X0]
   rw[<-e,getElem!_pos _ j a];rfl
 simp[World.frozen?,d]
def Yg{g:Nat}{xs ys:List α}{b:Array ak}{q:Nat}{os:Array Obj}(j:∀x,(enc x).length=c)(h:0<c)(f:w.heap[g]? = H (.cells b E (0,0)))(k:xs.length*c<=b.size)(m:ys.length=xs.length) :
 ∃e:Array ak,(sortWorldK enc c w g 0 q ys.toArray os).heap[g]? = H (.cells e E (0,0))/\e.size=b.size/\e.toList.take (xs.length*c)=ys.flatMap enc:=by
 have l:g<w.heap.size:=(ec.1 f).1;refine⟨putCells id 0 (flatK enc c ys.toArray) b,?_,by simp[putCells],?_⟩
 . unfold sortWorldK putRowK putRow mapBlock grow
   simp only;rw[Array.getElem?_append_left (by simpa[ahead] using l),lg];simp[ahead,f,onCells]
 have i:=Bt j h ys
 apply gt;intro t;rw[gh,<-i,gr,gr];have d:(flatK enc c ys.toArray).size=xs.length*c:=by simp[m]
 split
 . rename_i a
   have:t<b.size:=cj a k;simp only[putCells,Array.getElem?_mapIdx,iw this,fw,bu,aj,X8,Nat.sub_zero,d,a,Y4];rw[iw (by rw[d];exact a),getElem!_pos _ t (by rw[d];exact a)];rfl
 rename_i a
 rw[Array.getElem?_eq_none (by rw[d];exact im a)]
def Es(L:SlLaysF0.n6 P ρ)(Q:∀w,(isAgg (ρ.t 24)).run P w=.ok Z w)(zE:∀w,(Go.sizeOf (ρ.t 24)).run P w=.ok c w)(p:∀x,(enc x).length=c)(l:0<c)(h1:∀x,∀v∈enc x,v.oneCell'=Z)
 (cf:α->α->Int) (V:SWO (ltOf cf)) {f:FuncId} (K:∀x y,vS P f [.agg (enc x).toArray,.agg (enc y).toArray] (G (cf x y))) {xs:List α} (m:Mem w0 w is) (k:Nat) (o:is[k]? = H (oI E c A n cap (xs.flatMap enc))) (ai:n<4611686018427387904) :
 Calls P (ρ.f 6) #[.slice A n cap,.func (.func f) #[] #[]] w λe w'=>∃v i,e=.returned v/\Mem w0 w' (is.set k i)/\(v=.tuple #[]/\∃ys:List α,i=oI E c A n cap (ys.flatMap enc)/\ys.Perm xs/\ys.Pairwise λa b=>ltOf cf b a=X9):=by
 have h:w.ownsRow 0 E c (.slice A n cap) n (xs.flatMap enc):=m.get k o;have al:(xs.flatMap enc).length=xs.length*c:=by
  have:=Bt p l xs;rw[<-this];simp
 have d:xs.length=n:=by
  have:=h.1;rw[al] at this;exact Nat.eq_of_mul_eq_mul_right l this
 have an:=λb z=>m.ge _ (bn o) b z;rcases pG h with ⟨rfl,rfl,rfl,C⟩|⟨g,aa,rfl,_,B,J,am,M,N⟩
 . refine (AnyF.slices_SortFunc_none L G0 0 _ w).mono ?_
   rintro e w' ⟨rfl,rfl⟩;obtain rfl:xs=[]:=List.eq_nil_of_length_eq_zero d;refine⟨_,oI E c G0 0 0 [],O,?_,O,[],O,qg _,.nil⟩;have:is.set k (oI E c G0 0 0 [])=is:=by
    apply gt;intro j;rw[ki];split
    . rename_i e;subst e
      have:=(az.1 o).1;rw[Z9 this,o];rfl
    rfl
   rw[this];exact m
 have ag:g<w.heap.size:=(ec.1 B).1
 rw[<-d] at N;have U:=aiL (xs:=xs) p l B N;have C:=AnyQ.slices_SortFunc L c Q zE enc p h1 cf V f #[] g 0 cap xs.toArray w (λargs w'=>vZ (K default default w').1) (λmm os D _ x y=>by
  have:=((K x y (sortWorldK enc c w g 0 mm D os)).2.mono λe w' h=>(show e=.returned (G (cf x y))/\∃q aj,w'=grow ((sortWorldK enc c w g 0 mm D os).drewN q) aj from by obtain⟨u,rfl,W,rfl⟩:=h;exact⟨O,W.grow⟩))
  simpa using this) U ag (by simpa[d] using ai)
 have es:xs.toArray.size=n:=by simpa using d
 rw[es] at C;refine C.mono ?_;rintro e w' ⟨rfl,s,q,os,F,Y,rfl⟩;have X:s.size=n:=by rw[F.1];exact es
 obtain⟨ys,rfl⟩:∃ys:List α,s=ys.toArray:=⟨s.toList,by simp⟩
 have r:ys.length=n:=by simpa using X
 have ad:xs.length*c<=aa.size:=by rw[d,M];exact gz _ J
 obtain⟨ak,R,S,T⟩:=Yg (q:=q) (os:=os) (ys:=ys) p l B ad (by rw[r,d]);refine⟨_,oI E c (H ⟨g,0,G0⟩) n cap (ys.flatMap enc),O,?_,O,ys,O,?_,?_⟩
 . refine m.put k o O O O ?_ (λb z ah=>?_) ?_ (.inl λ_ h=>h)
   .simp[sortWorldK,putRowK,putRow,mapBlock,grow,ahead]
   . have ab:g≠b:=λe=>ah (by rw[e];rfl)
     unfold sortWorldK putRowK putRow mapBlock grow;simp only;rw[Array.getElem?_append_left (by simpa[ahead] using z),lg,K0 ab];rfl
   refine⟨?_,.inr ⟨g,cap,ak,O,bu _,R,J,am,by rw[S,M],?_⟩⟩
   . have:=Bt p l ys
     rw[<-this];simp[r]
   rw[<-d];exact T
 . have:=F.2.2
   simpa[r,d,a_ (Nat.le_of_eq r),a_ (Nat.le_of_eq d),List.extract_eq_take_drop] using this
 rw[List.pairwise_iff_getElem]
 intro i j ae I af;have:=Y i j (bu _) af (by rw[<-r];exact I);rw[getElem!_pos _ i (by simpa using ae),getElem!_pos _ j (by simpa using I)] at this;simpa using this
end
end
section
open Go.RowKit Go.Sort
variable{K:Type}
instance:Inhabited P3:=⟨⟨0,0,0⟩⟩
def gA(p:P3):List ak:=[G p.x,G p.y,G p.z]
def Pv(p:P3):∀v∈gA p,v.oneCell'=Z:=λv h=>by
 simp only[gA,av,bw,Y3] at h;rcases h with rfl|rfl|rfl<;>rfl
def nD(p q:P3):(sQ p q<0)↔p.Lt q:=by
 unfold sQ;split
 .simp[*]
 split<;>simp[*]
def adc:SWO (Go.Proofs.ltOf sQ) where
 irrefl x:=by simp[Go.Proofs.ltOf,nD,P3.lt_irrefl]
 trans x y z h1 h2:=by
  simp only[Go.Proofs.ltOf,Y2,nD] at *
  exact P3.lt_trans h1 h2
 ntrans x y z h1 h2:=by
  simp only[Go.Proofs.ltOf,Y7,nD] at *
  unfold P3.Lt at *
  omega
def lU.len{V:Type}[DecidableEq K]{ek:K->ak}{en:V->ak}{D a rs:List (K×V)}{es:Array cu}{seen:Array Nat}(h:lU ek en D es seen a rs):a.length+rs.length=D.length:=by
 have:=h.1.length_eq;simpa using this
def Db{V:Type}[DecidableEq K]{ek:K->ak}{en:V->ak}{D c rs:List (K×V)}{es:Array cu}{b:Bool}{d f:ak}{e:Array Nat}(a:b=X9)(h:Nxt ek en D es c rs b d f e):rs=[]:=by
 rcases h with ⟨_,h⟩|⟨h,_⟩
 .exact h
 rw[h] at a;cases a
def Dd{K V:Type}[DecidableEq K]{ek:K->ak}{en:V->ak}{D c rs:List (K×V)}{es:Array cu}{b:Bool}{f g:ak}{e:Array Nat}(d:b=Z)(h:Nxt ek en D es c rs b f g e) :
 ∃k v a,rs.Perm ((k,v)::a)/\lU ek en D es e (c++[(k,v)]) a:=by
 rcases h with ⟨h,_⟩|⟨_,k,v,a,h1,_,_,h2⟩
 .rw[h] at d;cases d
 exact⟨k,v,a,h1,h2⟩
def Et(D:List (P3×Bool))(ps:List P3):List (P3×Bool):=ps.foldl (λD p=>fL D p Z) D
def ade{V:Type}[DecidableEq K](D:List (K×V))(k a:K)(v:V):a∈(fL D k v).map (·.1)↔a∈D.map (·.1)\/a=k:=by
 rw[wL];split
 .exact⟨.inl,λh=>h.elim id (λe=>e▸‹_›)⟩
 simp
def aaa:∀(ps:List P3) (D:List (P3×Bool)) (a:P3),a∈(Et D ps).map (·.1)↔a∈D.map (·.1)\/a∈ps
 | [],D,a=>by simp[Et]
 |p::ps,D,a=>by
  have:=aaa ps (fL D p Z) a;unfold Et at this ⊢;rw[j_,this,ade,av,X6]
def Pw:∀(ps:List P3) (D:List (P3×Bool)),(D.map (·.1)).Nodup->((Et D ps).map (·.1)).Nodup
 | [],_,h=>h
 |p::ps,D,h=>Pw ps (fL D p Z) (tD h p Z)
def xW{K V:Type}[DecidableEq K]:∀(D:List (K×V)) (k:K) (v:V),(fL D k v).length<=D.length+1
 | [],_,_=>by simp[fL]
 |x::D,k,v=>by
  unfold fL;split
  .simp
  simp only[be]
  exact Nat.succ_le_succ (xW D k v)
def Ld:∀(ps:List P3) (D:List (P3×Bool)),(Et D ps).length<=D.length+ps.length
 | [],D=>ba _
 |p::ps,D=>ax (Ld ps (fL D p Z)) (by
  have:=xW D p Z;simp only[be];omega)
def aiM(D:List (P3×Bool))(ps a:List P3):Et D (ps++a)=Et (Et D ps) a:=jf ..
def bP(ts:List T3):List P3:=ts.flatMap λt=>[t.a,t.b,t.c]
def tL(ps:List P3):Prop:=ps.Pairwise λa b=>a.Lt b
def aiN{ps:List P3}(c:ps.Nodup)(h:ps.Pairwise λa b=>¬b.Lt a):tL ps:=by
 have:=c.and h;exact this.imp λ{a b} h=>(P3.lt_tri a b).resolve_right (by rintro (e|e);exact h.1 e;exact h.2 e)
def Ty:∀{ps c:List P3},tL ps->tL c->(∀a,a∈ps↔a∈c)->ps=c
 | [],[],_,_,_=>rfl
 | [],q::c,_,_,h=>by have:=(h q).2 (bq ..);cases this
 |p::ps,[],_,_,h=>by have:=(h p).1 (bq ..);cases this
 |p::ps,q::c,g,i,h=>by
  have d:=b_.1 g;have f:=b_.1 i;have e:p=q:=by
   rcases av.1 ((h p).1 (bq ..)) with e|e
   .exact e
   rcases av.1 ((h q).2 (bq ..)) with e'|e'
   .exact e'.symm
   exact Y0 (P3.lt_trans (f.1 p e) (d.1 q e')) (P3.lt_irrefl _)
  subst e
  congr 1
  refine Ty d.2 f.2 λa=>⟨λb=>?_,λb=>?_⟩
  . rcases av.1 ((h a).1 (br _ b)) with e|e
    .subst e;exact Y0 (d.1 _ b) (P3.lt_irrefl _)
    exact e
  rcases av.1 ((h a).2 (br _ b)) with e|e
  .subst e;exact Y0 (f.1 _ b) (P3.lt_irrefl _)
  exact e
end
section
open Go.RowKit
variable{k n cap i m X R j:Nat}{w:an}{A:Option Addr}{a x y z q s u:P3}{es:List E3}{xs os ys:List Nat}{f:P3->P3}{L:List Int}{op:Op}
def aiO{α:Type}{ps:List α}{p:α}(h:ps[k]? = H p):ps.take (k+1)=ps.take k++[p]:=by
 rw[qd,h];rfl
def Tz{ts:List T3}{t:T3}(h:ts[k]? = H t):bP (ts.take (k+1))=bP (ts.take k)++[t.a,t.b,t.c]:=by
 unfold bP;rw[aiO h,bi];simp
def afk{ts:List T3}{t:T3}(h:ts[k]? = H t):Et [] (bP (ts.take (k+1)))=fL (fL (fL (Et [] (bP (ts.take k))) t.a Z) t.b Z) t.c Z:=by
 rw[Tz h,aiM];rfl
def wE(ts:List T3):(bP ts).length=ts.length*3:=by
 unfold bP
 induction ts with
 |nil=>rfl
 |cons t ts ih=>rw[cz,bg,ih];simp only[be,cd];omega
def Ow.max{w0:an}{S:List (Option Nat)}{E:bh}{c:Nat}{xs:List ak}(h:Ow w0 w S E c A n cap xs):cap<=9223372036854775807:=by
 rcases h.cases with ⟨_,_,rfl,_⟩|⟨_,_,_,_,_,_,h,_⟩
 .exact bu _
 exact h
def alD{ps:List P3}:(ps.flatMap gA).length=ps.length*3:=by
 induction ps with
 |nil=>rfl
 |cons p ps ih=>rw[cz,bg,ih,show (gA p).length=3 from rfl,be];omega
def Jb{α:Type}{R:α->α->Prop}(f:∀a,¬R a a)(tr:∀a b c,R a b->R b c->R a c):∀{l m:List α},l.Pairwise R->m.Pairwise R->(∀a,a∈l↔a∈m)->l=m
 | [],[],_,_,_=>rfl
 | [],y::m,_,_,h=>Y0 ((h y).2 (bq ..)) (by simp)
 |x::l,[],_,_,h=>Y0 ((h x).1 (bq ..)) (by simp)
 |x::l,y::m,i,j,h=>by
  obtain⟨h1,h2⟩:=b_.1 i;obtain⟨g,n⟩:=b_.1 j;have e:x=y:=by
   rcases av.1 ((h x).1 (bq ..)) with e|hx
   .exact e
   rcases av.1 ((h y).2 (bq ..)) with e|hy
   .exact e.symm
   exact Y0 (tr _ _ _ (h1 y hy) (g x hx)) (f x)
  subst e;rw[Jb f tr h2 n λa=>⟨λd=>?_,λd=>?_⟩]
  . rcases av.1 ((h a).1 (br _ d)) with rfl|k
    .exact Y0 (h1 a d) (f a)
    exact k
  rcases av.1 ((h a).2 (br _ d)) with rfl|k
  .exact Y0 (g a d) (f a)
  exact k
/-! ### Edges in order -/
def Mu(a b:E3):Prop:=a.1.Lt b.1\/a.1=b.1/\a.2.Lt b.2
def ag3{a b:E3}:ltE a b=Z↔Mu a b:=by
 unfold ltE Mu;by_cases h:a.1=b.1
 . rw[K0 (not_not_intro h),Y2]
   exact⟨λk=>.inr ⟨h,k⟩,λk=>k.elim (λk=>Y0 (h▸k) (P3.lt_irrefl _)) (·.2)⟩
 rw[Z9 h,Y2]
 exact⟨.inl,λk=>k.elim id (λk=>Y0 k.1 h)⟩
def Mu.irrefl(a:E3):¬Mu a a:=λh=>h.elim (P3.lt_irrefl _) λh=>P3.lt_irrefl _ h.2
def Mu.trans{a b c:E3}(h:Mu a b)(k:Mu b c):Mu a c:=by
 rcases h with h|⟨h,d⟩
 . rcases k with k|⟨k,_⟩
   .exact .inl (P3.lt_trans h k)
   exact .inl (k▸h)
 rcases k with k|⟨k,e⟩
 .exact .inl (h▸k)
 exact .inr ⟨h.trans k,P3.lt_trans d e⟩
def Mu.tri(a b:E3):Mu a b\/a=b\/Mu b a:=by
 rcases P3.lt_tri a.1 b.1 with h|h|h
 .exact .inl (.inl h)
 . rcases P3.lt_tri a.2 b.2 with k|k|k
   .exact .inl (.inr ⟨h,k⟩)
   .exact .inr (.inl (pv h k))
   exact .inr (.inr (.inr ⟨h.symm,k⟩))
 exact .inr (.inr (.inl h))
def pZ(es:List E3):Prop:=es.Pairwise Mu
def Px{fs:List E3}(h:pZ es)(k:pZ fs)(e:∀a,a∈es↔a∈fs):es=fs:=Jb Mu.irrefl (λ_ _ _=>Mu.trans) h k e
def abu{α:Type}{p:α->Bool}:∀(l:List α),l.take (l.takeWhile p).length=l.takeWhile p
 | []=>rfl
 |x::l=>by
  rw[n_];split
  .rw[be,List.take_succ_cons,abu l]
  rfl
def abv{α:Type}{p:α->Bool}:∀(l:List α),l.drop (l.takeWhile p).length=l.dropWhile p
 | []=>rfl
 |x::l=>by
  rw[n_,pp];split
  .rw[be,List.drop_succ_cons,abv l]
  rfl
def ag4(es:List E3)(e:E3):aeW es e=es.takeWhile (λx=>ltE x e)++[e]++es.dropWhile (λx=>ltE x e):=by
 unfold aeW ait;rw[abu,abv]
def alE{e x:E3}:x∈aeW es e↔x=e\/x∈es:=by
 rw[ag4]
 conv=>rhs;rw[<-ny (p:=λx=>ltE x e) (l:=es)]
 simp only[bv,bp];exact⟨λh=>h.elim (λh=>h.elim (λh=>.inr (.inl h)) .inl) (λh=>.inr (.inr h)),λh=>h.elim (λh=>.inl (.inr h)) (λh=>h.elim (λh=>.inl (.inl h)) .inr)⟩
def ard{e:E3}:∀{es:List E3},pZ es->e∉es->∀x∈es.dropWhile (λx=>ltE x e),Mu e x
 | [],_,_,x,h=>by cases h
 |y::ys,c,a,x,h=>by
  obtain⟨h1,h2⟩:=b_.1 c;rw[pp] at h;split at h
  .exact ard h2 (λk=>a (br _ k)) x h
  rename_i d
  have b:Mu e y:=by
   rcases Mu.tri y e with k|k|k
   .exact Y0 (ag3.2 k) d
   .exact Y0 (k▸bq ..) a
   exact k
  rcases av.1 h with rfl|h
  .exact b
  exact b.trans (h1 x h)
def afl{α:Type}{p:α->Bool}{x:α}:∀{l:List α},x∈l.takeWhile p->p x=Z
 | [],h=>by cases h
 |y::l,h=>by
  rw[n_] at h;split at h
  . rename_i a
    rcases av.1 h with rfl|h
    .exact a
    exact afl h
  cases h
def avC{e:E3}  : ∀x∈es.takeWhile (λx=>ltE x e),Mu x e:=λx h=>ag3.1 (afl (p:=λx=>ltE x e) h)
def adf{e:E3}(c:pZ es)(f:e∉es):pZ (aeW es e):=by
 rw[ag4];have b:=c;rw[pZ,<-ny (p:=λx=>ltE x e) (l:=es)] at b;obtain⟨h1,h2,d⟩:=il.1 b;refine il.2 ⟨il.2 ⟨h1,ke _ _,λx hx y a=>?_⟩,h2,λx hx y a=>?_⟩
 .rw[bp.1 a];exact avC x hx
 rcases bv.1 hx with hx|hx
 .exact d x hx y a
 rw[bp.1 hx];exact ard c f y a
def pN{e:E3}:0<kG es e↔e∈es:=by
 unfold kG;rw[oe];simp
def Nr{all:List E3}:∀(es a:List E3),pZ a->pZ (es.foldl (rU all) a)/\∀x,x∈es.foldl (rU all) a↔x∈a\/x∈es/\(x.2,x.1)∉all
 | [],a,h=>⟨h,λx=>by simp⟩
 |e::es,a,h=>by
  have key:pZ (rU all a e)/\∀x,x∈rU all a e↔x∈a\/x=e/\(x.2,x.1)∉all:=by
   unfold rU;split
   . rename_i hc
     refine⟨h,λx=>⟨.inl,λk=>k.elim id λq=>?_⟩⟩;obtain⟨rfl,q⟩:=q;exact hc.elim (λhc=>Y0 (pN.1 hc) q) (λhc=>pN.1 hc)
   rename_i hc
   have h1:e∉a:=λk=>hc (.inr (pN.2 k));have h2:(e.2,e.1)∉all:=λk=>hc (.inl (pN.2 k));refine⟨adf h h1,λx=>alE.trans ⟨λk=>k.elim (λk=>.inr ⟨k,k▸h2⟩) .inl,λk=>k.elim .inr λk=>.inl k.1⟩⟩
  obtain⟨b,c⟩:=Nr es (rU all a e) key.1;refine⟨b,λx=>?_⟩;rw[j_,c,key.2,av,X6];refine or_congr Iff.rfl ⟨λk=>k.elim (λk=>⟨.inl k.1,k.2⟩) (λk=>⟨.inr k.1,k.2⟩),λk=>k.1.elim (λh=>.inl ⟨h,k.2⟩) (λh=>.inr ⟨h,k.2⟩)⟩
def pO(ts:List T3):pZ (Y ts):=(Nr (all:=aR ts) (aR ts) [] ma).1
def wY{ts:List T3}{e:E3}:e∈Y ts↔e∈aR ts/\(e.2,e.1)∉aR ts:=by
 have:=(Nr (all:=aR ts) (aR ts) [] ma).2 e;unfold Y;rw[this];simp
/-! ### Keys put into a set -/
section
variable{K:Type}[DecidableEq K]
def eE(D:List (K×Bool))(a:List K):List (K×Bool):=a.foldl (λD k=>fL D k Z) D
def sA:∀(b:List K) (D:List (K×Bool)) (a:K),a∈(eE D b).map (·.1)↔a∈D.map (·.1)\/a∈b
 | [],D,a=>by simp[eE]
 |k::b,D,a=>by
  have:=sA b (fL D k Z) a;unfold eE at this ⊢;rw[j_,this,ade,av,X6]
def qN:∀(a:List K) (D:List (K×Bool)),(D.map (·.1)).Nodup->((eE D a).map (·.1)).Nodup
 | [],_,h=>h
 |k::a,D,h=>qN a (fL D k Z) (tD h k Z)
def qZ:∀(a:List K) (D:List (K×Bool)),(eE D a).length<=D.length+a.length
 | [],_=>ba _
 |k::a,D=>by
  have h1:=qZ a (fL D k Z);have h2:=xW D k Z;show (eE (fL D k Z) a).length<=_
  rw[be];omega
def Le:∀(b:List K) (D:List (K×Bool)) (a:K),bS (eE D b) a=if a∈b then H Z else bS D a
 | [],D,a=>by simp[eE]
 |k::b,D,a=>by
  have h:=Le b (fL D k Z) a;show bS (eE (fL D k Z) b) a=_
  rw[h,kH];by_cases h1:a∈b
  .rw[Z9 h1,Z9 (br _ h1)]
  rw[K0 h1]
  by_cases h2:k=a
  .rw[Z9 h2,Z9 (h2▸bq ..)]
  rw[K0 h2,K0 (λc=>(av.1 c).elim (λe=>h2 e.symm) h1)]
def adg(D:List (K×Bool))(a b:List K):eE D (a++b)=eE (eE D a) b:=jf ..
def mB(b:List K)(a:K):(bS (eE [] b) a).getD X9=decide (a∈b):=by
 rw[Le];by_cases h:a∈b
 .rw[Z9 h,Y5 h];rfl
 rw[K0 h,Y6 h];rfl
def Ua{b:List K}{a:K}:(bS (eE [] b) a).getD X9=Z↔a∈b:=by
 rw[Le];by_cases h:a∈b
 .rw[Z9 h];exact⟨λ_=>h,λ_=>rfl⟩
 rw[K0 h];exact⟨λk=>(by cases k),λk=>Y0 k h⟩
end
/-! ### No edge twice -/
def oS{x e:E3}  : kG (x::es) e=(if x=e then 1 else 0)+kG es e:=by
 unfold kG;by_cases h:x=e
 .rw[kf (by simpa using h),be,Z9 h];omega
 rw[jo (by simpa using h),K0 h];omega
def Gw:∀{es:List E3},es.Nodup↔∀e,kG es e<=1
 | []=>by simp[kG]
 |x::es=>by
  rw[gv,Gw (es:=es)];constructor
  . rintro⟨h1,h2⟩ e
    rw[oS];by_cases h:x=e
    . have:¬0<kG es e:=λk=>h1 (h▸pN.1 k)
      rw[Z9 h];omega
    rw[K0 h];have:=h2 e;omega
  intro h
  refine⟨λk=>?_,λe=>?_⟩
  . have h1:=h x
    rw[oS,Z9 rfl] at h1;have:=pN.2 k;omega
  have:=h e
  rw[oS] at this;omega
def Lf  : (es.any λe=>decide (1<kG es e))=decide (¬es.Nodup):=by
 rw[iz,ff,Y2,Gw];constructor
 . rintro⟨e,_,h⟩ k
   have:=k e;simp only[Y2] at h;omega
 intro h
 obtain⟨e,a⟩:=Classical.not_forall.1 h;exact⟨e,pN.1 (by omega),by simpa using Nat.not_le.1 a⟩
def tN{α:Type}{es:List α}{e:α}:(es++[e]).Nodup↔es.Nodup/\e∉es:=by
 rw[jv];constructor
 . rintro⟨h1,_,d⟩
   exact⟨h1,λk=>d e k e (by simp) O⟩
 rintro⟨h1,h2⟩
 exact⟨h1,by simp,λa f b g c=>h2 (by rw[<-bp.1 g,<-c];exact f)⟩
section
variable{K V:Type}[DecidableEq K]
def rD(D:List (K×V))(xs:List (K×V)):List (K×V):=xs.foldl (λD x=>fL D x.1 x.2) D
def Ub:∀(xs D:List (K×V)) (k:K),(xs.map (·.1)).Nodup->bS (rD D xs) k=match bS xs k with|some v=>H v|none=>bS D k
 | [],D,k,_=>rfl
 |(a,v)::xs,D,k,h=>by
  rw[bm,gv] at h;have ih:=Ub xs (fL D a v) k h.2;show bS (rD (fL D a v) xs) k=_
  rw[ih,kH,bS];by_cases e:a=k
  . rw[Z9 e,Z9 e]
    have:bS xs k=G0:=kW.2 (e▸h.1);rw[this]
  rw[K0 e,K0 e]
def adh(D xs ys:List (K×V)):rD D (xs++ys)=rD (rD D xs) ys:=jf ..
def yP(D:List (K×Nat))(a:List K):List (K×Nat):=a.foldl (λD k=>fL D k ((bS D k).getD 0+1)) D
def rF(b:List K)(a:K):Nat:=(b.filter λx=>decide (x=a)).length
def tO{x a:K}{b:List K}:rF (x::b) a=(if x=a then 1 else 0)+rF b a:=by
 unfold rF;by_cases h:x=a
 .rw[kf (by simpa using h),be,Z9 h];omega
 rw[jo (by simpa using h),K0 h];omega
def Uc{a:K}{b c:List K}:rF (b++c) a=rF b a+rF c a:=by simp[rF]
def adi:∀(b:List K) (D:List (K×Nat)) (a:K),(bS (yP D b) a).getD 0=(bS D a).getD 0+rF b a
 | [],D,a=>rfl
 |k::b,D,a=>by
  have h:=adi b (fL D k ((bS D k).getD 0+1)) a;show (bS (yP (fL D k ((bS D k).getD 0+1)) b) a).getD 0=_
  rw[h,kH,tO];by_cases e:k=a
  . subst e
    rw[Z9 rfl,Z9 rfl,dt];omega
  rw[K0 e,K0 e];omega
def alF(D:List (K×Nat))(a b:List K):yP D (a++b)=yP (yP D a) b:=jf ..
def oC:∀{l m:List K},l.Nodup->(∀a∈l,a∈m)->l.length<=m.length
 | [],_,_,_=>bu _
 |x::l,m,h,k=>by
  rw[gv] at h;have c:=k x (bq ..);have h1:=oC (m:=m.erase x) h.2 λa b=>(List.mem_erase_of_ne (λ(e:a=x)=>h.1 (e▸b))).2 (k a (br _ b));rw[List.length_erase_of_mem c] at h1;have:=List.length_pos_of_mem c;rw[be];omega
end
/-! ### What lies behind an edge -/
def kD(ts:List T3):List (E3×P3):=ts.flatMap λt=>[((t.a,t.b),t.c),((t.b,t.c),t.a),((t.c,t.a),t.b)]
def mX:∀ts:List T3,(kD ts).map (·.1)=aR ts
 | []=>rfl
 |t::ts=>by
  have:=mX ts;unfold kD aR at this ⊢;rw[cz,db,this];rfl
def Ud{ts:List T3}{t:T3}(h:ts[k]? = H t):kD (ts.take (k+1))=kD (ts.take k)++[((t.a,t.b),t.c),((t.b,t.c),t.a),((t.c,t.a),t.b)]:=by
 unfold kD;rw[bV h,bi];simp
def Bu(p q:P3):∀ts:List T3,bD ts p q=bS (kD ts) (p,q)
 | []=>rfl
 |t::ts=>by
  have ih:=Bu p q ts;have e:kD (t::ts)=((t.a,t.b),t.c)::((t.b,t.c),t.a)::((t.c,t.a),t.b)::kD ts:=rfl;rw[e,bD,bS,bS,bS,<-ih,T3.fnd];by_cases h1:t.a=p/\t.b=q
  .rw[Z9 h1,Z9 (pv h1.1 h1.2)]
  rw[K0 h1,K0 (λe=>h1 ⟨Y1 rq e,Y1 rg e⟩)]
  by_cases h2:t.b=p/\t.c=q
  .rw[Z9 h2,Z9 (pv h2.1 h2.2)]
  rw[K0 h2,K0 (λe=>h2 ⟨Y1 rq e,Y1 rg e⟩)]
  by_cases d:t.c=p/\t.a=q
  .rw[Z9 d,Z9 (pv d.1 d.2)]
  rw[K0 d,K0 (λe=>d ⟨Y1 rq e,Y1 rg e⟩)]
def Ah{ts:List T3}(h:(aR ts).Nodup)(p q:P3):bS (rD [] (kD ts)) (p,q)=bD ts p q:=by
 rw[Ub _ _ _ (by rw[mX];exact h),Bu];cases bS (kD ts) (p,q)<;>rfl
def qO{ts:List T3}(h:((x,y),z)∈kD ts):((y,z),x)∈kD ts:=by
 obtain⟨t,b,a⟩:=dj.1 h;refine dj.2 ⟨t,b,?_⟩;simp only[av,bw,Y3,fy] at a ⊢;rcases a with ⟨⟨rfl,rfl⟩,rfl⟩|⟨⟨rfl,rfl⟩,rfl⟩|⟨⟨rfl,rfl⟩,rfl⟩
 .exact .inr (.inl ⟨⟨O,O⟩,O⟩)
 .exact .inr (.inr ⟨⟨O,O⟩,O⟩)
 exact .inl ⟨⟨O,O⟩,O⟩
def wZ{ts:List T3}(h:(aR ts).Nodup){e:E3}(h1:(e,x)∈kD ts)(h2:(e,y)∈kD ts):x=y:=by
 have k:((kD ts).map (·.1)).Nodup:=by rw[mX];exact h
 have a:=lG k h1;rw[lG k h2] at a;exact (fq a).symm
def tP{ts:List T3}{p:P3}(h:bD ts p q=H x):((p,q),x)∈kD ts:=rW (by rw[<-Bu];exact h)
def uV{ts:List T3}{p:P3}(h:bD ts p q=H x):(p,q)∈aR ts:=by
 rw[<-mX];exact c_.2 ⟨_,tP h,O⟩
def Eu{ts:List T3}{p:P3}(h:(p,q)∈aR ts):∃x,bD ts p q=H x:=by
 rw[Bu];cases e:bS (kD ts) (p,q) with
 |some x=>exact⟨x,rfl⟩
 |none=>
  have:=kW.1 e;rw[mX] at this;exact Y0 h this
def Ue{ts:List T3}(h:(aR ts).Nodup){p:P3}(h1:bD ts p x=H z)(h2:bD ts p y=H z):x=y:=
 wZ h (qO (qO (tP h1))) (qO (qO (tP h2)))
def adj{ts:List T3}{p:P3}(h:bD ts p x=H z):(z,p)∈aR ts:=by
 rw[<-mX];exact c_.2 ⟨_,qO (qO (tP h)),O⟩
def pP(ts:List T3)(p:P3):Nat->P3->Option P3
 |0,x=>H x
 |n+1,x=>(bD ts p x).bind (pP ts p n)
def pQ{ts:List T3}{p:P3}:∀(n:Nat)(x:P3),pP ts p (n+1) x=(pP ts p n x).bind (bD ts p)
 |0,x=>by simp[pP]
 |n+1,x=>by
  rw[pP];cases h:bD ts p x with
  |none=>simp[pP,h]
  |some y=>
   rw[io,pQ n y,pP,h];rfl
def Uf{ms:List T3}{p s:P3}:∀(n:Nat)(x:P3),pK ms p s n x=Z↔∃j,1<=j/\j<=n/\pP ms p j x=H s
 |0,x=>⟨λh=>(by cases h),λ⟨j,h1,h2,_⟩=>by omega⟩
 |n+1,x=>by
  cases h:bD ms p x with
  |none=>
   rw[Zl h];refine⟨λk=>(by cases k),λ⟨j,h1,_,a⟩=>?_⟩;obtain⟨i,rfl⟩:∃i,j=i+1:=⟨j-1,by omega⟩
   rw[pP,h] at a;cases a
  |some y=>
   by_cases e:y=s
   . subst e
     rw[acX h];exact⟨λ_=>⟨1,ba _,by omega,by simp[pP,h]⟩,λ_=>rfl⟩
   rw[Zm h e,Uf n y]
   constructor
   . rintro⟨j,h1,h2,a⟩
     exact⟨j+1,by omega,by omega,by rw[pP,h];exact a⟩
   rintro⟨j,h1,h2,a⟩
   obtain⟨i,rfl⟩:∃i,j=i+1:=⟨j-1,by omega⟩
   rw[pP,h,io] at a;cases i with
   |zero=>exact Y0 (fq a) e
   |succ i=>exact⟨i+1,by omega,by omega,a⟩
def Ev(c:P3->Option P3)(s:P3):Nat->P3->Nat->P3×Nat
 |0,a,z=>(a,z)
 |n+1,a,z=>if a=s then (a,z) else match c a with|none=>(a,z)|some b=>Ev c s n b (z+1)
def alG{a:P3->Option P3}{z:Nat}:Ev a s n s z=(s,z):=by
 cases n with
 |zero=>rfl
 |succ n=>rw[Ev,Z9 rfl]
def abw{ts:List T3}{p s:P3}{M:Nat}:∀(n:Nat)(a:P3)(z:Nat),n=M+1-z->((Ev (bD ts p) s n a z).1=s/\(Ev (bD ts p) s n a z).2<M↔∃j,z<=j/\j<M/\pP ts p (j-z) a=H s)
 |0,a,z,h=>by
  rw[Ev];refine⟨λk=>?_,λ⟨j,h1,h2,_⟩=>?_⟩
  .have:=k.2;simp only at this;omega
  omega
 |n+1,a,z,h=>by
  rw[Ev];by_cases e:a=s
  . rw[Z9 e]
    refine⟨λk=>⟨z,ba _,k.2,by rw[ph,pP,e]⟩,λ⟨j,h1,h2,_⟩=>⟨e,by simp only;omega⟩⟩
  rw[K0 e]
  cases d:bD ts p a with
  |none=>
   refine⟨λk=>Y0 k.1 e,λ⟨j,h1,h2,c⟩=>?_⟩;cases f:j-z with
   |zero=>rw[f,pP] at c;exact Y0 (fq c) e
   |succ i=>rw[f,pP,d] at c;cases c
  |some b=>
   rw[abw n b (z+1) (by omega)];constructor
   . rintro⟨j,h1,h2,c⟩
     refine⟨j,by omega,h2,?_⟩;rw[show j-z=(j-(z+1))+1 by omega,pP,d];exact c
   rintro⟨j,h1,h2,c⟩
   rcases d_ z j with hz|hz
   . refine⟨j,by omega,h2,?_⟩
     rw[show j-z=(j-(z+1))+1 by omega,pP,d] at c;exact c
   rw[show j-z=0 by omega,pP] at c
   exact Y0 (fq c) e
/-! ### The triangles of a corner -/
def abx{t:T3}{p:P3}(h:t.fnd p q=H x):∃c,c<3/\t.cor c=p:=by
 unfold T3.fnd at h;split at h
 .rename_i a;exact⟨0,by decide,a.1⟩
 split at h
 .rename_i a;exact⟨1,by decide,a.1⟩
 split at h
 .rename_i a;exact⟨2,by decide,a.1⟩
 cases h
def afm{ts us:List T3}{p:P3}:bD (ts++us) p q=match bD ts p q with|some x=>H x|none=>bD us p q:=by
 induction ts with
 |nil=>rfl
 |cons t ts ih=>
  rw[de,bD,bD];cases t.fnd p q with
  |some x=>rfl
  |none=>exact ih
def aiP{t u:T3}{p:P3}(h:u∈Ad p t 3):u=t/\∃c,c<3/\t.cor c=p:=by
 obtain⟨c,hc,h⟩:=dj.1 h;unfold Tj at h;split at h
 . rename_i e
   exact⟨bp.1 h,c,ij.1 hc,e⟩
 cases h
def afn{t:T3}{p:P3}{c:Nat}(hc:c<3)(h:t.cor c=p):t∈Ad p t 3:=
 dj.2 ⟨c,ij.2 hc,by rw[Tj,Z9 h];exact bp.2 O⟩
def Ug{t:T3}{p q:P3}:∀us:List T3,(∀u∈us,u=t)->bD us p q=if us=[] then G0 else t.fnd p q
 | [],_=>rfl
 |u::us,h=>by
  have e:=h u (bq ..);have ih:=Ug (p:=p) (q:=q) us λv b=>h v (br _ b);rw[bD,e,K0 (by simp)];cases a:t.fnd p q with
  |some x=>rfl
  |none=>
   simp only;rw[ih];split
   .rfl
   exact a
def Py(p q:P3):∀ts:List T3,bD (pJ ts p) p q=bD ts p q
 | []=>rfl
 |t::ts=>by
  have e:pJ (t::ts) p=Ad p t 3++pJ ts p:=by simp[pJ]
  rw[e,afm,Py p q ts,bD,Ug (t:=t) _ (λu b=>(aiP b).1)];by_cases h:Ad p t 3=[]
  . rw[Z9 h]
    cases a:t.fnd p q with
    |none=>rfl
    |some x=>
     obtain⟨c,hc,k⟩:=abx a;have:=afn hc k;rw[h] at this;cases this
  rw[K0 h]<;>rfl
def Lg(ts:List T3)(p:P3):∀(n:Nat)(x:P3),pP (pJ ts p) p n x=pP ts p n x
 |0,_=>rfl
 |n+1,x=>by
  rw[pP,pP,Py];cases bD ts p x with
  |none=>rfl
  |some y=>exact Lg ts p n y
def Uh(p:P3):∀ts:List T3,(pJ ts p).length=rF (bP ts) p
 | []=>rfl
 |t::ts=>by
  have ih:=Uh p ts;have e:pJ (t::ts) p=Ad p t 3++pJ ts p:=by simp[pJ]
  have d:bP (t::ts)=[t.a,t.b,t.c]++bP ts:=rfl;rw[e,d,bg,Uc,ih]
  congr 1
  have g:ii 3=[0,1,2]:=rfl;unfold Ad;rw[g];simp only[cz,lj,fz,bg,Tj];rw[tO,tO,tO];have k:∀(c:Nat)(x:P3),t.cor c=x->(if t.cor c=p then [t] else []).length=if x=p then 1 else 0:=λc x f=>by
   subst f;split<;>rfl
  rw[k 0 t.a rfl,k 1 t.b rfl,k 2 t.c rfl];rfl
def aab{p:P3}{ts:List T3}:s∈wW ts p↔(p,s)∈aR ts:=by
 unfold wW aR;rw[dj,dj];refine X1 λt=>and_congr Iff.rfl ?_;unfold Em;rw[show ii 3=[0,1,2] from rfl];simp only[cz,lj,fz,bv,Tk,av,bw,Y3,fy];have k:∀(c:Nat)(x y:P3),t.cor c=x->t.cor ((c+1)%3)=y->(s∈(if t.cor c=p then [t.cor ((c+1)%3)] else [])↔p=x/\s=y):=λc x y d f=>by
  subst d;subst f;split
  .rename_i h;rw[bp];exact⟨λe=>⟨h.symm,e⟩,λe=>e.2⟩
  rename_i h;exact⟨λe=>(by cases e),λe=>Y0 e.1.symm h⟩
 rw[k 0 t.a t.b rfl rfl,k 1 t.b t.c rfl rfl,k 2 t.c t.a rfl rfl]
def Ns{ps:List P3}{p:P3}:x∈iG ps p↔x=p\/x∈ps:=by
 unfold iG;split
 . rename_i h
   exact⟨.inr,λk=>k.elim (λe=>e▸bn h) id⟩
 conv=>rhs;rw[<-jx (acW ps p) ps]
 simp only[bv,bp];exact⟨λh=>h.elim (λh=>h.elim (λh=>.inr (.inl h)) .inl) (λh=>.inr (.inr h)),λh=>h.elim (λh=>.inl (.inr h)) (λh=>h.elim (λh=>.inl (.inl h)) .inr)⟩
def mN{ts:List T3}:x∈cR ts↔x∈bP ts:=by
 have:∀(ts:List T3)(ps:List P3),x∈ts.foldl (λps t=>iG (iG (iG ps t.a) t.b) t.c) ps↔x∈ps\/x∈bP ts:=by
  intro ts
  induction ts with
  |nil=>intro ps;simp[bP]
  |cons t ts ih=>
   intro ps;rw[j_,ih,Ns,Ns,Ns];have e:bP (t::ts)=[t.a,t.b,t.c]++bP ts:=rfl;rw[e];simp only[bv,av,bw,Y3];constructor
   . rintro ((h|h|h|h)|h)
     .exact .inr (.inl (.inr (.inr h)))
     .exact .inr (.inl (.inr (.inl h)))
     .exact .inr (.inl (.inl h))
     .exact .inl h
     exact .inr (.inr h)
   rintro (h|(h|h|h)|h)
   .exact .inl (.inr (.inr (.inr h)))
   .exact .inl (.inr (.inr (.inl h)))
   .exact .inl (.inr (.inl h))
   .exact .inl (.inl h)
   exact .inr h
 have:=this ts [];simpa[cR] using this
def Ai{ts:List T3}{e:E3}(h:e∈aR ts):e.1∈bP ts/\e.2∈bP ts:=by
 obtain⟨t,f,d⟩:=dj.1 h;have key:∀x,x=t.a\/x=t.b\/x=t.c->x∈bP ts:=λx d=>dj.2 ⟨t,f,by simpa using d⟩;simp only[av,bw,Y3] at d;rcases d with rfl|rfl|rfl
 .exact⟨key _ (.inl O),key _ (.inr (.inl O))⟩
 .exact⟨key _ (.inr (.inl O)),key _ (.inr (.inr O))⟩
 exact⟨key _ (.inr (.inr O)),key _ (.inl O)⟩
def aby(ts:List T3)(e:E3):Prop:=∃x,bD ts e.1 e.2=H x/\(Ev (bD ts e.1) e.2 (rF (bP ts) e.1+1-1) x 1).1=e.2/\(Ev (bD ts e.1) e.2 (rF (bP ts) e.1+1-1) x 1).2<rF (bP ts) e.1
def Ui{ts:List T3}{e:E3}:aby ts e↔e∈aR ts/\pK (pJ ts e.1) e.1 e.2 ((pJ ts e.1).length-1) e.2=Z:=by
 rw[Uf,Uh];constructor
 . rintro⟨x,a,h⟩
   obtain⟨j,h1,h2,b⟩:=(abw (M:=rF (bP ts) e.1) _ x 1 (by omega)).1 h;refine⟨uV a,j,h1,by omega,?_⟩;rw[Lg,show j=(j-1)+1 by omega,pP,a];exact b
 rintro⟨c,j,h1,h2,b⟩
 obtain⟨x,a⟩:=Eu c;refine⟨x,a,(abw (M:=rF (bP ts) e.1) _ x 1 (by omega)).2 ⟨j,h1,by omega,?_⟩⟩;rw[Lg,show j=(j-1)+1 by omega,pP,a] at b;exact b
def pinned{ts:List T3}:(cR ts).any (Kx ts)=Z↔∃e,aby ts e:=by
 rw[ff];constructor
 . rintro⟨p,_,h⟩
   obtain⟨s,c,a⟩:=ff.1 h;exact⟨(p,s),Ui.2 ⟨aab.1 c,a⟩⟩
 rintro⟨e,h⟩
 obtain⟨b,a⟩:=Ui.1 h;exact⟨e.1,mN.2 (Ai b).1,ff.2 ⟨e.2,aab.2 b,a⟩⟩
/-! ### The ends of fans -/
def tQ(ts:List T3)(p:P3):Nat->P3->P3
 |0,a=>a
 |n+1,a=>match bD ts p a with
  |none=>a
  |some x=>tQ ts p n x
def afo{ts:List T3}{p:P3}:∀(i n:Nat)(a x:P3),i<=n->pP ts p i a=H x->bD ts p x=G0->tQ ts p n a=x
 |0,n,a,x,_,h,c=>by
  cases h;cases n with
  |zero=>rfl
  |succ n=>simp only[tQ,c]
 |i+1,n,a,x,d,h,c=>by
  obtain⟨m,rfl⟩:∃m,n=m+1:=⟨n-1,by omega⟩
  rw[pP] at h;cases b:bD ts p a with
  |none=>rw[b] at h;cases h
  |some y=>
   rw[b,io] at h;simp only[tQ,b];exact afo i m y x (by omega) h c
def nE(ts:List T3):Prop:=∀t∈ts,sY t=X9
def Yh{t:T3}(h:sY t=X9):t.a≠t.b/\t.b≠t.c/\t.c≠t.a:=by
 unfold sY at h;simp only[Bool.or_eq_false_iff,Y7] at h;exact⟨h.1.1,h.1.2,h.2⟩
def adk{p:P3}:∀{ts:List T3},nE ts->((aR ts).filter λe=>decide (e.1=p)).length<=ts.length
 | [],_=>ba _
 |t::ts,h=>by
  have ih:=adk (p:=p) (ts:=ts) λu i=>h u (br _ i);obtain⟨h1,h2,g⟩:=Yh (h t (bq ..));have e:aR (t::ts)=[(t.a,t.b),(t.b,t.c),(t.c,t.a)]++aR ts:=rfl;rw[e,gl,bg,be];have:(List.filter (λe:E3=>decide (e.1=p)) [(t.a,t.b),(t.b,t.c),(t.c,t.a)]).length<=1:=by
   simp only[ft,np];by_cases d:t.a=p
   . have f:¬t.b=p:=λe=>h1 (d.trans e.symm)
     have hc:¬t.c=p:=λe=>g (e.trans d.symm);simp[d,f,hc]
   by_cases f:t.b=p
   . have hc:¬t.c=p:=λe=>h2 (f.trans e.symm)
     simp[d,f,hc]
   by_cases hc:t.c=p<;>simp[d,f,hc]
  omega
def Rl{ts:List T3}{p:P3}:∀(i j:Nat)(a:P3),pP ts p (i+j) a=(pP ts p i a).bind (pP ts p j)
 |0,j,a=>by simp[pP]
 |i+1,j,a=>by
  rw[show i+1+j=(i+j)+1 by omega,pP,pP];cases bD ts p a with
  |none=>rfl
  |some y=>rw[io,io];exact Rl i j y
def aac{ts:List T3}{p a:P3}(d:(aR ts).Nodup)(c:(a,p)∉aR ts):∀(i j:Nat)(x:P3),i<j->pP ts p i a=H x->pP ts p j a≠H x
 |0,j,x,g,h,k=>by
  cases h;obtain⟨m,rfl⟩:∃m,j=m+1:=⟨j-1,by omega⟩
  rw[pQ] at k;obtain⟨y,_,b⟩:=je.1 k;exact c (adj b)
 |i+1,j,x,g,h,k=>by
  obtain⟨m,rfl⟩:∃m,j=m+1:=⟨j-1,by omega⟩
  rw[pQ] at h k;obtain⟨y,b,l⟩:=je.1 h;obtain⟨z,f,n⟩:=je.1 k;have e:=Ue d l n;subst e;exact aac d c i m y (by omega) b f
def abz{ts:List T3}{p:P3}(l:nE ts)(q:(aR ts).Nodup)(g:(a,p)∉aR ts)(h:pP ts p i a=H x):i<=ts.length:=by
 have key:∀j,j<=i->∃y,pP ts p j a=H y:=λj d=>by
  have e:i=j+(i-j):=by omega
  rw[e,Rl] at h;obtain⟨y,b,_⟩:=je.1 h;exact⟨y,b⟩
 have h1:=adk (p:=p) l;have h2:((ii i).map λj=>(p,(pP ts p j a).getD p)).length<=((aR ts).filter λe=>decide (e.1=p)).length:=by
  refine oC ?_ λe m=>?_
  . rw[rj,mb]
    refine (List.pairwise_lt_range (n:=i)).imp_of_mem λ{j k} d o r e=>?_;obtain⟨y,b⟩:=key j (by have:=ij.1 d;omega);obtain⟨z,c⟩:=key k (by have:=ij.1 o;omega);rw[b,c] at e;have f:y=z:=(Prod.mk.inj e).2;subst f;exact aac q g j k y r b c
  obtain⟨j,d,rfl⟩:=c_.1 m
  have s:=ij.1 d;obtain⟨y,b⟩:=key j (by omega);obtain⟨z,c⟩:=key (j+1) (by omega);rw[pQ,b,io] at c;refine di.2 ⟨?_,by simp⟩;rw[b];exact uV c
 rw[eb,l_] at h2;omega
/-! ### As the reference says it -/
abbrev Mv:=P3×P3
variable{ms:List Mv}
def mY:List Mv->P3->P3
 | [],p=>p
 |m::ms,p=>if m.1=p then m.2 else mY ms p
def T3.has(t:T3)(p:P3):Bool:=decide (t.a=p)||decide (t.b=p)||decide (t.c=p)
def sB(ts:List T3)(p:P3):Bool:=ts.any λt=>t.has p
def iE(ts:List T3)(p q:P3):Bool:=ts.any λt=>t.has p&&t.has q
def uW(rim:List E3)(p:P3):Bool:=rim.any λe=>decide (e.1=p)||decide (e.2=p)
def oD(a b:List T3)(rim:List E3):Bool:=rim.all λe=>decide (tQ a e.1 a.length e.2=tQ b e.1 b.length e.2)
def jP(a b:List T3)(rim:List E3):Bool:=(aR b).any λe=>uW rim e.1&&uW rim e.2 && !iE a e.1 e.2
def sC(a b:List T3)(ms:List Mv)(rim:List E3)(i:Nat)(m:Mv):Bool:=
 (decide (i=0)||(ms[i-1]?).any λk=>decide (k.1.Lt m.1))&&sB a m.1&&(sB b m.2&&sB a m.2&&ms.all λk=>decide (k.1≠m.2)) && !uW rim m.1
def oE(a b:List T3)(ms:List Mv)(rim:List E3):Bool:=ms.zipIdx.all λx=>sC a b ms rim x.2 x.1
def F(t:T3):T3:=if t.c.Lt t.a/\(t.c.Lt t.b\/¬t.b.Lt t.a) then ⟨t.c,t.a,t.b⟩ else if t.b.Lt t.a then ⟨t.b,t.c,t.a⟩ else t
def Jc{t u:T3}(h1:t.a=u.a)(h2:t.b=u.b)(d:t.c=u.c):t=u:=by
 cases t;cases u;simp only at h1 h2 d;subst h1;subst h2;subst d;rfl
instance:DecidableEq T3:=λt u=>decidable_of_iff (t.a=u.a/\t.b=u.b/\t.c=u.c) ⟨λh=>Jc h.1 h.2.1 h.2.2,λh=>by rw[h];exact⟨rfl,rfl,rfl⟩⟩
def T3.img(ms:List Mv)(t:T3):T3:=⟨mY ms t.a,mY ms t.b,mY ms t.c⟩
def T3.nd(t:T3):Bool:=decide (t.a≠t.b)&&decide (t.b≠t.c)&&decide (t.c≠t.a)
def qQ(d:List T3)(x:T3):Bool:=if x.nd then d.any λu=>decide (F u=F x) else iE d x.a (if x.a=x.b then x.c else x.b)
def sD(ms:List Mv)(a:List T3)(u:T3):Nat:=(a.filter λt=>(t.img ms).nd&&decide (F u=F (t.img ms))).length
def mC(a b:List T3)(ms:List Mv):Bool:=(a.all λt=>qQ b (t.img ms))&&b.all λu=>decide (sD ms a u=1)
/-! ### Corners and edges -/
def gK{t:T3}{p:P3}:t.has p=Z↔p=t.a\/p=t.b\/p=t.c:=by
 unfold T3.has;simp only[iy,Y2,X6];exact or_congr ⟨Eq.symm,Eq.symm⟩ (or_congr ⟨Eq.symm,Eq.symm⟩ ⟨Eq.symm,Eq.symm⟩)
def Ew{ts:List T3}{p:P3}:sB ts p=Z↔p∈bP ts:=by
 unfold sB bP;rw[ff,dj];exact X1 λt=>and_congr Iff.rfl (by rw[gK];simp)
def abA(ts:List T3)(p:P3):sB ts p=decide (p∈bP ts):=by rw[iz,Ew,Y2]
def kM{ts:List T3}{p:P3}:iE ts p q=Z↔∃t∈ts,t.has p=Z/\t.has q=Z:=by
 unfold iE;rw[ff];exact X1 λt=>and_congr Iff.rfl (by rw[bt])
def gJ{ts:List T3}{p:P3}(h:iE ts p q=Z):iE ts q p=Z:=by
 obtain⟨t,a,h1,h2⟩:=kM.1 h;exact kM.2 ⟨t,a,h2,h1⟩
def Nt{ts:List T3}{p:P3}:iE ts p p=Z↔p∈bP ts:=by
 rw[kM,<-Ew,sB,ff];exact X1 λt=>and_congr Iff.rfl ⟨λh=>h.1,λh=>⟨h,h⟩⟩
def Nu{ts:List T3}{p:P3}(h:iE ts p q=Z):iE ts p p=Z:=by
 obtain⟨t,a,h1,_⟩:=kM.1 h;exact kM.2 ⟨t,a,h1,h1⟩
def Jd{ts:List T3}{e:E3}(h:e∈aR ts):iE ts e.1 e.2=Z:=by
 obtain⟨t,b,a⟩:=dj.1 h;refine kM.2 ⟨t,b,?_,?_⟩<;>rw[gK]<;>(simp only[av,bw,Y3] at a;rcases a with rfl|rfl|rfl<;>simp)
def Uj{ts:List T3}{p:P3}(h:iE ts p q=Z)(d:p≠q):(p,q)∈aR ts\/(q,p)∈aR ts:=by
 obtain⟨t,g,h1,h2⟩:=kM.1 h;have key:∀e,e=(t.a,t.b)\/e=(t.b,t.c)\/e=(t.c,t.a)->e∈aR ts:=λe f=>dj.2 ⟨t,g,by simpa using f⟩;rcases gK.1 h1 with rfl|rfl|rfl<;>rcases gK.1 h2 with rfl|rfl|rfl
 .exact Y0 O d
 .exact .inl (key _ (.inl O))
 .exact .inr (key _ (.inr (.inr O)))
 .exact .inr (key _ (.inl O))
 .exact Y0 O d
 .exact .inl (key _ (.inr (.inl O)))
 .exact .inl (key _ (.inr (.inr O)))
 .exact .inr (key _ (.inr (.inl O)))
 exact Y0 O d
def alH(t:T3):List E3:=[(t.a,t.a),(t.a,t.b),(t.a,t.c),(t.b,t.a),(t.b,t.b),(t.b,t.c),(t.c,t.a),(t.c,t.b),(t.c,t.c)]
def pA(ts:List T3):List E3:=ts.flatMap alH
def Nv{ts:List T3}{e:E3}:e∈pA ts↔iE ts e.1 e.2=Z:=by
 unfold pA;rw[dj,kM];refine X1 λt=>and_congr Iff.rfl ?_;rw[gK,gK];obtain⟨p,q⟩:=e;simp only[alH,av,bw,Y3,fy];constructor
 .rintro (h|h|h|h|h|h|h|h|h)<;>simp[h.1,h.2]
 rintro⟨h1|h1|h1,h2|h2|h2⟩<;>simp[h1,h2]
def Gx(ts:List T3)(e:E3):(bS (eE [] (pA ts)) e).getD X9=iE ts e.1 e.2:=by
 exact iz.2 (Ua.trans Nv)
def afp{ts:List T3}{t:T3}(h:ts[k]? = H t):pA (ts.take (k+1))=pA (ts.take k)++alH t:=by
 unfold pA;rw[bV h,bi];simp
/-! ### The border -/
def Uk(rim:List E3):List P3:=rim.flatMap λe=>[e.1,e.2]
def Rm{rim:List E3}{p:P3}:uW rim p=Z↔p∈Uk rim:=by
 unfold uW Uk;rw[ff,dj];refine X1 λe=>and_congr Iff.rfl ?_;simp only[iy,Y2,av,bw,Y3];exact or_congr ⟨Eq.symm,Eq.symm⟩ ⟨Eq.symm,Eq.symm⟩
def Rn(rim:List E3)(p:P3):(bS (eE [] (Uk rim)) p).getD X9=uW rim p:=by
 rw[mB,iz,Y2,Rm]
def adl{rim:List E3}{e:E3}(h:rim[k]? = H e):Uk (rim.take (k+1))=Uk (rim.take k)++[e.1,e.2]:=by
 unfold Uk;rw[bV h,bi];simp
def adm{ts:List T3}{p:P3}(h:uW (Y ts) p=Z):p∈bP ts:=by
 obtain⟨e,b,a⟩:=dj.1 (Rm.1 h);have hc:=Ai (wY.1 b).1;simp only[av,bw,Y3] at a;rcases a with rfl|rfl
 .exact hc.1
 exact hc.2
def afq(a:List T3)(rim:List E3)(e:E3):Bool:=uW rim e.1&&uW rim e.2 && !iE a e.1 e.2
def aad{b d:List T3}:jP b d (Y b)=Z↔∃e∈pA d,afq b (Y b) e=Z:=by
 unfold jP;rw[ff];constructor
 . rintro⟨e,c,h⟩
   exact⟨e,Nv.2 (Jd c),h⟩
 rintro⟨e,c,h⟩
 have f:=Nv.1 c;unfold afq at h;simp only[bt,ip] at h;obtain⟨⟨h1,h2⟩,a⟩:=h;obtain⟨p,q⟩:=e;have j:p≠q:=λe=>by
  subst e;rw[Nt.2 (adm h1)] at a;cases a
 rcases Uj f j with k|k
 .exact⟨_,k,by simp only at h1 h2 a;simp[h1,h2,a]⟩
 refine⟨_,k,?_⟩
 have g:iE b q p=X9:=by
  cases i:iE b q p with
  |false=>rfl
  |true=>rw[gJ i] at a;cases a
 simp only at h1 h2;simp[h1,h2,g]
/-! ### The ends of fans -/
def If(ts:List T3)(rim:List E3):List (E3×P3):=rim.map λe=>(e,tQ ts e.1 ts.length e.2)
def Gy(ts:List T3)(rim:List E3):(If ts rim).map (·.1)=rim:=by
 unfold If;rw[List.map_map];exact List.map_id' rim
def pZ.nodup(h:pZ es):es.Nodup:=o_ (λ{a b}(k:Mu a b)(e:a=b)=>Mu.irrefl b (e▸k)) h
/-! ### Moves -/
def tR{a b:List T3}{rim:List E3}:oE a b ms rim=Z↔∀i m,ms[i]? = H m->sC a b ms rim i m=Z:=by
 unfold oE;rw[ej];constructor
 . intro h i m c
   exact h (m,i) (List.mem_zipIdx_iff_getElem?.2 c)
 intro h x d
 exact h x.2 x.1 (List.mem_zipIdx_iff_getElem?.1 d)
def afr{c d:List T3}{rim:List E3}(h:oE c d ms rim=Z):∀i m k,ms[i]? = H k->ms[i+1]? = H m->k.1.Lt m.1:=λi m k a b=>by
 have:=tR.1 h (i+1) m b;unfold sC at this;simp only[bt,iy] at this;have h1:=this.1.1.1;rw[Nat.add_sub_cancel,a] at h1;simpa using h1
def Pz:∀{ms:List Mv},(∀(i:Nat)(m k:Mv),ms[i]? = H k->ms[i+1]? = H m->k.1.Lt m.1)->(ms.map (·.1)).Pairwise P3.Lt
 | [],_=>ma
 | [m],_=>ke _ _
 |m::k::ms,h=>by
  have ih:=Pz (ms:=k::ms) λi a b h1 h2=>h (i+1) a b h1 h2;have c:=h 0 k m rfl rfl;rw[bm];refine b_.2 ⟨λx hx=>?_,ih⟩;rw[bm] at hx ih;rcases av.1 hx with rfl|hx
  .exact c
  exact P3.lt_trans c ((b_.1 ih).1 x hx)
def adn{c d:List T3}{rim:List E3}(h:oE c d ms rim=Z):(ms.map (·.1)).Nodup:=
 o_ (λ{a b}(k:P3.Lt a b)(e:a=b)=>P3.lt_irrefl b (e▸k)) (Pz (afr h))
def abB(p:P3):∀ms:List Mv,mY ms p=(bS ms p).getD p
 | []=>rfl
 |m::ms=>by
  rw[mY,bS];split
  .rfl
  exact abB p ms
def apq(h:(ms.map (·.1)).Nodup)(p:P3):(bS (rD [] ms) p).getD p=mY ms p:=by
 rw[abB,Ub _ _ _ h];cases bS ms p<;>rfl
def Ul{K:Type}[DecidableEq K]{V:Type}:∀(b:List K) (D:List (K×V)) (a:K),(D.map (·.1)).Nodup->((b.foldl sR D).map (·.1)).Nodup/\bS (b.foldl sR D) a=if a∈b then G0 else bS D a
 | [],D,a,h=>⟨h,by simp⟩
 |k::b,D,a,h=>by
  obtain⟨h1,h2⟩:=Ul b (sR D k) a (Ts h k);refine⟨h1,?_⟩;rw[j_,h2,Nn k a h];by_cases c:a∈b
  .rw[Z9 c,Z9 (br _ c)]
  rw[K0 c]
  by_cases e:k=a
  .rw[Z9 e,Z9 (e▸bq ..)]
  rw[K0 e,K0 (λf=>(av.1 f).elim (λd=>e d.symm) c)]
def Gz{b d:List T3}{ms:List Mv}{rim:List E3}{cf c:List P3}(g:∀a,a∈cf↔a∈bP b)(hc:∀a,a∈c↔a∈bP d)(i:Nat)(m:Mv) :
 sC b d ms rim i m=((decide (i=0)||(ms[i-1]?).any λk=>decide (k.1.Lt m.1))&&(bS ((Uk rim).foldl sR (eE [] cf)) m.1).getD X9&&(bS (eE [] cf) m.2).getD X9&&(bS ((ms.map (·.1)).foldl sR (eE [] c)) m.2).getD X9):=by
 have n1:=qN cf [] (by simp);have n2:=qN c [] (by simp);have j:(bS ((Uk rim).foldl sR (eE [] cf)) m.1).getD X9=(sB b m.1 && !uW rim m.1):=by
  rw[(Ul _ _ m.1 n1).2];by_cases h:m.1∈Uk rim
  .rw[Z9 h,Rm.2 h];simp
  have:uW rim m.1=X9:=by
   cases o:uW rim m.1 with
   |false=>rfl
   |true=>exact Y0 (Rm.1 o) h
  rw[K0 h,mB,this,abA];simp[g]
 have l:(bS (eE [] cf) m.2).getD X9=sB b m.2:=by rw[mB,abA];simp[g]
 have n:(bS ((ms.map (·.1)).foldl sR (eE [] c)) m.2).getD X9=(sB d m.2&&ms.all λk=>decide (k.1≠m.2)):=by
  rw[(Ul _ _ m.2 n2).2];by_cases h:m.2∈ms.map (·.1)
  . obtain⟨k,f,e⟩:=c_.1 h
    have:(ms.all λk=>decide (k.1≠m.2))=X9:=by
     rw[List.all_eq_false];exact⟨k,f,by simp[e]⟩
    rw[Z9 h,this];simp
  have:(ms.all λk=>decide (k.1≠m.2))=Z:=by
   rw[ej];exact λk f=>Y5 λe=>h (c_.2 ⟨k,f,e⟩)
  rw[K0 h,mB,this,abA];simp[hc]
 rw[j,l,n,sC];cases (decide (i=0)||(ms[i-1]?).any λk=>decide (k.1.Lt m.1))<;>cases sB b m.1<;>cases uW rim m.1<;>cases sB b m.2<;>cases sB d m.2<;>simp
/-! ### Covers -/
def sE(ms:List Mv)(ts:List T3):List T3:=(ts.filter λt=>(t.img ms).nd).map λt=>F (t.img ms)
def Lh{ts:List T3}{t:T3}(h:ts[k]? = H t):sE ms (ts.take (k+1))=sE ms (ts.take k)++if (t.img ms).nd then [F (t.img ms)] else []:=by
 unfold sE;rw[bV h,gl,db];cases a:(t.img ms).nd<;>simp[a]
def Li(ms:List Mv)(u:T3):∀ts:List T3,sD ms ts u=rF (sE ms ts) (F u)
 | []=>rfl
 |t::ts=>by
  have ih:=Li ms u ts;unfold sD sE at ih ⊢;cases a:(t.img ms).nd with
  |false=>rw[jo (by simp[a]),jo (by simp[a])];exact ih
  |true=>
   rw[kf (p:=λt:T3=>(t.img ms).nd) (by simp[a]),bm,tO];by_cases e:F u=F (t.img ms)
   .rw[kf (by simp[a,e]),be,Z9 e.symm];omega
   rw[jo (by simp[e]),K0 (λh=>e h.symm)];omega
def Ex{K:Type}[DecidableEq K]{b:List K}{a:K}:0<rF b a↔a∈b:=by
 unfold rF;rw[oe];simp
def okP(e d:List T3)(ms:List Mv)(j:Nat)(t:T3):Prop:=
 if (t.img ms).nd then F (t.img ms)∈d.map F/\F (t.img ms)∉sE ms (e.take j) else iE d (t.img ms).a (t.img ms).b=Z/\iE d (t.img ms).b (t.img ms).c=Z
def Je{d:List T3}{x:T3}(h:x.nd=X9):qQ d x=Z↔iE d x.a x.b=Z/\iE d x.b x.c=Z:=by
 unfold qQ;rw[h];simp only[qz,X0];by_cases e:x.a=x.b
 . rw[Z9 e,<-e]
   exact⟨λk=>⟨Nu k,k⟩,λk=>k.2⟩
 rw[K0 e]
 refine⟨λk=>⟨k,?_⟩,λk=>k.1⟩;by_cases f:x.b=x.c
 .rw[<-f];exact Nu (gJ k)
 have g:x.c=x.a:=by
  unfold T3.nd at h;simp only[Bool.and_eq_false_iff,Y7,ne_eq] at h;rcases h with (h|h)|h
  .exact Y0 (Decidable.not_not.1 h) e
  .exact Y0 (Decidable.not_not.1 h) f
  exact Decidable.not_not.1 h
 rw[g];exact gJ k
def Um{a:List T3}{x:T3}(h:x.nd=Z):qQ a x=Z↔F x∈a.map F:=by
 unfold qQ;rw[h,Z9 rfl,ff,c_];exact X1 λu=>and_congr Iff.rfl (by rw[Y2])
def Jf{K:Type}[DecidableEq K]:∀{b:List K},b.Nodup->∀a,rF b a<=1
 | [],_,a=>bu _
 |k::b,h,a=>by
  rw[gv] at h;rw[tO];by_cases e:k=a
  . subst e
    have:¬0<rF b k:=λq=>h.1 (Ex.1 q);rw[Z9 rfl];omega
  rw[K0 e];have:=Jf h.2 a;omega
def Nw{a f:List T3}  : mC a f ms=Z↔(∀j t,a[j]? = H t->okP a f ms j t)/\∀u∈f,F u∈sE ms a:=by
 unfold mC;rw[bt,ej,ej];constructor
 . rintro⟨h1,h2⟩
   have g:∀u∈f,rF (sE ms a) (F u)=1:=λu d=>by rw[<-Li];exact Y9 (h2 u d)
   refine⟨λj t c=>?_,λu d=>Ex.1 (by rw[g u d];decide)⟩;have i:=h1 t (bn c);unfold okP;cases b:(t.img ms).nd with
   |false=>rw[K0 (by simp)];exact (Je b).1 i
   |true=>
    rw[Z9 rfl];have h:=(Um b).1 i;refine⟨h,λk=>?_⟩;obtain⟨u,d,e⟩:=c_.1 h;have hc:=g u d;have l:sE ms a=sE ms (a.take (j+1))++sE ms (a.drop (j+1)):=by
     unfold sE;rw[<-db,<-gl,jx]
    rw[l,Uc,Lh c,b,Z9 rfl,Uc,e,tO,Z9 rfl] at hc;have:=Ex.2 k;omega
 rintro⟨h1,h2⟩
 have nd:∀j,(sE ms (a.take j)).Nodup:=by
  intro j
  induction j with
  |zero=>simp[sE]
  |succ j ih=>
   cases c:a[j]? with
   |none=>
    have e:a.take (j+1)=a.take j:=by
     have:=List.getElem?_eq_none_iff.1 c;rw[a_ (by omega),a_ (by omega)]
    rw[e];exact ih
   |some t=>
    rw[Lh c];have k:=h1 j t c;unfold okP at k;cases b:(t.img ms).nd with
    |false=>simpa using ih
    |true=>
     rw[b,Z9 rfl] at k;rw[Z9 rfl];exact tN.2 ⟨ih,k.2⟩
 refine⟨λt c=>?_,λu d=>?_⟩
 . obtain⟨j,m⟩:=fp.1 c
   have k:=h1 j t m;unfold okP at k;cases b:(t.img ms).nd with
   |false=>rw[b,K0 (by simp)] at k;exact (Je b).2 k
   |true=>rw[b,Z9 rfl] at k;exact (Um b).2 k.1
 refine Y5 ?_
 rw[Li];have g:=Jf (by have:=nd a.length;rwa [fe] at this) (F u);have n:=Ex.2 (h2 u d);omega
abbrev uX(x:Nat):ak:=G (x:Int)
structure dT(w:an)(b:Nat)(A:Option Addr)(n cap:Nat)(xs:List Nat):Prop where
 eq:n=xs.length
 row:∀(i x:Nat),xs[i]? = H x->∃a,A=H a/\a.block<b/\w.cell? (a.add i)=H (G (x:Int))
 le:xs.length<=cap
 cap:cap<=9223372036854775807
 len:xs.length<=17592186044416
 digs:cX 65536 xs
structure apr(w:an)(b:Nat):Prop where
 h:b<=w.heap.size
def apr.ext{w':an}{b:Nat}(h:apr w b)(a:eQ w w'):apr w' b:=⟨ax h.h a.size⟩
section
variable{w w':an}{b:Nat}{A:Option Addr}{n cap:Nat}{xs:List Nat}
def dT.ext(h:dT w b A n cap xs)(c:eQ w w'):dT w' b A n cap xs:=
 ⟨h.eq,λi x f=>let ⟨a,e,d,hc⟩:=h.row i x f;⟨a,e,d,c.cell hc⟩,h.le,h.cap,h.len,h.digs⟩
def dT.mono{c:Nat}(h:dT w b A n cap xs)(f:b<=c):dT w c A n cap xs:=
 ⟨h.eq,λi x d=>let ⟨a,e,h1,hc⟩:=h.row i x d;⟨a,e,by omega,hc⟩,h.le,h.cap,h.len,h.digs⟩
def dT.here(h:dT w b A n cap xs):dT w w.heap.size A n cap xs:=
 ⟨h.eq,λi x c=>by
  obtain⟨a,e,_,hc⟩:=h.row i x c;have:=World.block_lt_of_cell? _ _ hc;rw[wI] at this;exact⟨a,e,this,hc⟩,h.le,h.cap,h.len,h.digs⟩
def dT.grew{base:Nat}(h:dT w b A n cap xs)(c:Sk w w' base)(f:b<=base):dT w' b A n cap xs:=
 ⟨h.eq,λi x d=>by
  obtain⟨a,e,h1,hc⟩:=h.row i x d;exact⟨a,e,h1,(World.cell?_of_block (c.block _ (by rw[wI];omega))).trans hc⟩,h.le,h.cap,h.len,h.digs⟩
def dT.take(h:dT w b A n cap xs)(k:Nat):dT w b A (xs.take k).length cap (xs.take k):=
 ⟨rfl,λi x a=>h.row i x (by rw[gh] at a;split at a;exact a;cases a),ax (by simp;omega) h.le,h.cap,ax (by simp;omega) h.len,h.digs.take k⟩
def dT.get(h:dT w b A n cap xs){i:Nat}(c:i<xs.length):∃a,A=H a/\w.cell? (a.add i)=H (G ((xs[i]:Nat):Int))/\xs[i]<65536:=by
 obtain⟨a,e,_,hc⟩:=h.row i xs[i] (ap c);exact⟨a,e,hc,h.digs _ (fl c)⟩
def dT.at{a:Addr}(h:dT w b (H a) n cap xs){i:Nat}(c:i<xs.length):w.cell? (a.add i)=H (G ((xs[i]:Nat):Int)):=by
 obtain⟨d,e,hc,_⟩:=h.get c;cases e;exact hc
def dT.lt(h:dT w b A n cap xs){i:Nat}(a:i<xs.length):xs[i]<65536:=h.digs _ (fl a)
def dT.nil(w:an)(b:Nat):dT w b G0 0 0 []:=⟨rfl,λi x a=>by simp at a,ba _,by omega,by simp,λx c=>by cases c⟩
def dT.of_blk{g:Nat}{os:List Nat}{t:bh}(h:fK w g (os.map uX) t)(a:cX 65536 os)(c:n=os.length)(d:n<=17592186044416):dT w w.heap.size (H ⟨g,0,G0⟩) n n os:=
 ⟨c,λi x b=>⟨_,rfl,h.lt,by rw[eD,aj];exact h.cell (by simp[b])⟩,by omega,by omega,by omega,a⟩
def dT.of_owns{base:Nat}{v:ak}{E:bh}(h:zY w base E 1 v n (xs.map uX))(k:n=xs.length)(d:cX 65536 xs)(o:n<=17592186044416):∃A c,v=.slice A n c/\dT w w.heap.size A n c xs/\∀a,A=H a->base<=a.block:=by
 rcases h.row with ⟨rfl,rfl,m⟩|⟨g,cap,rfl,b,h1,h2,f,l⟩
 . obtain rfl:xs=[]:=by simpa using m
   exact⟨G0,0,rfl,dT.nil _ _,λ_ e=>by cases e⟩
 exact⟨_,cap,rfl,⟨k,λi x j=>⟨_,rfl,f,l i _ (by simp[j])⟩,by omega,h2,by omega,d⟩,λa e=>by cases e;exact b⟩
def dT.rows(h:dT w b A n cap xs):∀j u,(xs.map uX)[j]? = H u->∃a,A=H a/\w.cell? (a.add j)=H u:=λj u c=>by
 rw[fi] at c;cases d:xs[j]? with
 |none=>rw[d] at c;cases c
 |some x=>
  rw[d] at c;cases c;obtain⟨a,e,_,hc⟩:=h.row j x d;exact⟨a,e,hc⟩
end
def yQ(n:Nat)(v:ak)(w:an):Prop:=∃A cap,v=.slice A (digs 65536 n).length cap/\dT w w.heap.size A (digs 65536 n).length cap (digs 65536 n)
def oF{a b:Nat}:ord a b<=0↔a<=b:=by
 unfold ord;split
 .omega
 split<;>omega
def asP(n k:Nat)(v:ak)(w:an):Prop:=∃A cap os,v=.slice A os.length cap/\dT w w.heap.size A os.length cap os/\val 65536 os=n/\os.length<=k
def yQ.of_trim{b:Nat}(h:dT w b A k cap xs)(a:val 65536 xs=n):yQ n (.slice A (trim xs).length cap) w:=by
 have e:trim xs=digs 65536 n:=oM (by omega) h.digs a;refine⟨A,cap,by rw[e],?_⟩;rw[<-e];have:=(h.take (trim xs).length).here;rwa [<-iQ] at this
def yQ.self{b:Nat}(h:dT w b A k cap xs)(t:gC xs):yQ (val 65536 xs) (.slice A k cap) w:=by
 have e:xs=digs 65536 (val 65536 xs):=by rw[<-oM (by omega) h.digs rfl,t]
 refine⟨A,cap,by rw[h.eq,<-e],?_⟩;rw[<-e,<-h.eq];exact h.here
def pR(n:Nat):bx n (oc .i64 0)=(bx n 0).map uX:=by simp[uX]
def Lj{d:Nat}(a:i<os.length):bR (os.map uX) i [uX d]=(os.set i d).map uX:=by
 simp only[bR,iu];apply gt;intro j;rcases Nat.lt_trichotomy j i with h|h|h
 . rw[fk (by simp;omega),fk (by simp;omega)]
   simp[h,nq (Nat.ne_of_gt h)]
 . subst h
   rw[fk (by simp;omega),gj (by simp;omega)];have e:j-min j os.length=0:=by omega
   simp[a,e]
 rw[gj (by simp;omega)]
 simp only[bg,bz,eb,iu,fa,fi];rw[nq (by omega)]
 congr 2
 omega
def fK.digit{g:Nat}{t:bh}(h:fK w g (os.map uX) t)(a:i<os.length):w.cell? ⟨g,i,G0⟩=H (G ((os[i]:Nat):Int)):=
 h.cell (by simp[a])
def eY(n:Nat):val 65536 (digs 65536 n)=n:=uI (by omega) n
def mD(n:Nat):gC (digs 65536 n):=rO (by omega) n
def mO(n:Nat):cX 65536 (digs 65536 n):=wH (by omega) n
def Lk(h:m<=n):(digs 65536 m).length<=(digs 65536 n).length:=by
 refine dU (by omega) (Nat.lt_of_le_of_lt h ?_);have:=iZ (mO n);rwa [eY] at this
def uY{V:Nat}(h:V<2^k):(digs 65536 V).length<=k:=by
 refine dU (by omega) (cj h ?_);rw[show (65536:Nat)=2^16 from rfl,<-Nat.pow_mul];exact fv (by omega) (by omega)
def ado(h:m<9223372036854775808):IntKind.i64.wrap ((m:Int).tdiv (n:Int))=((m / n:Nat):Int):=oO h
section
variable{P:cg}{ds:List eh}{l:List ak}{T ty:bh}
variable{ops:Array Oper}{Q:Exit->Act->an->Prop}{rest:List Oper}{d:Nat}{pos:String}{after:Array Edge}{w:an}
def wN{s0 q:cw}{base c b nn mm cap:Nat}{E:bh}{z v:ak}{xs:List ak}{A:Option Addr}{a0:Array bh}(g:a0 = #[T,T])(o:P.underlying T=H (.slice E))(k:(P.info? E).map (λi=>(i.size,i.bytes,i.zero))=H (c,b,H z))(y:z.cells.size=c)(hc:0<c)
 (n:ev l s0=v) (f:zY w base E c v nn xs) (p:ev l q=.slice A mm cap) {news:List ak} (m:news.length=mm*c) (r:∀j u,news[j]? = H u->∃a,A=H a/\w.cell? (a.add j)=H u) (h1:∀u∈news,u.oneCell'=Z) (B:nn+mm<=9223372036854775807) (F:(nn+mm)*b<=140737488355328) (D:base<=w.heap.size)
 (h:∀v' w',zY w' base E c v' (nn+mm) (xs++news)->Sk w w' base->True->bf P ops Q rest (Fr (l.set d v') ds) w') :
 bf P ops Q (ci (H d) (.call { callee:=.builtin .append,args:=#[s0,q],argTypes:=a0 }) ty pos after G0::rest) (Fr l ds) w:=by
 cases A with
 |none=>
  obtain rfl:news=[]:=by
   cases news with
   |nil=>rfl
   |cons u us=>obtain⟨a,e,_⟩:=r 0 u rfl;cases e
  have x:mm=0:=by
   rcases fm mm with h0|h0
   .exact h0
   have:=Nat.mul_pos h0 hc;simp at m;omega
  subst x;exact ah4 g o k n f p (h _ _ (by simpa using f) (Sk.refl _ _) trivial)
 |some a=>
  refine acA g o k y hc n f p m (λj u t=>?_) h1 B F D (λv' w' h2 s _=>h v' w' h2 s trivial);obtain⟨G,e,C⟩:=r j u t;cases e;exact C
end
theorem By{os xs ys:List Nat}{i c s:Nat}(d:os.length=i)(j:val 65536 os+65536^i*c=val 65536 (xs.take i)+val 65536 (ys.take i))(b:cX 65536 os)
 (f:s=c+xs[i]?.getD 0+ys[i]?.getD 0) :
 val 65536 (os++[s%65536])+65536^(i+1)*(s / 65536)=val 65536 (xs.take (i+1))+val 65536 (ys.take (i+1))/\cX 65536 (os++[s%65536]):=by
 refine⟨?_,b.append (oL (kj _ (by omega)) (nB _))⟩;have a:∀l:List Nat,val 65536 (l.take (i+1))=val 65536 (l.take i)+65536^i*l[i]?.getD 0:=λl=>by
  rcases d_ i l.length with h|h
  .rw[cP h,ap h];rfl
  rw[a_ (by omega),a_ h,da h];simp
 rw[a xs,a ys,eV,d];simp only[val,jm,jk];have e:s=s%65536+65536*(s / 65536):=by omega
 rw[gn];generalize s / 65536=q at *
 generalize s%65536=r at *
 generalize 65536^i=p at *
 generalize xs[i]?.getD 0=x at *
 generalize ys[i]?.getD 0=y at *
 subst f;have g:p*(c+x+y)=p*r+p*65536*q:=by rw[e];grind
 grind
theorem xX{os xs ys:List Nat}{i c s b:Nat}(d:i<xs.length)(e:os.length=i)(l:val 65536 os+val 65536 (ys.take i)=val 65536 (xs.take i)+65536^i*c)(a:cX 65536 os)
 (f:s+ys[i]?.getD 0+c=xs[i]+65536*b) (j:s<65536) :
 val 65536 (os++[s])+val 65536 (ys.take (i+1))=val 65536 (xs.take (i+1))+65536^(i+1)*b/\cX 65536 (os++[s]):=by
 refine⟨?_,a.append (oL j (nB _))⟩;have g:val 65536 (ys.take (i+1))=val 65536 (ys.take i)+65536^i*ys[i]?.getD 0:=by
  rcases d_ i ys.length with h|h
  .rw[cP h,ap h];rfl
  rw[a_ (by omega),a_ h,da h];simp
 rw[g,cP d,eV,e];simp only[val,jm,jk];rw[gn];generalize 65536^i=p at *
 generalize ys[i]?.getD 0=y at *
 generalize xs[i]=x at *
 have k:p*(s+y+c)=p*x+p*65536*b:=by rw[f];grind
 grind
def aiQ{c:Nat}(e:ys.length<=xs.length)(b:os.length=xs.length)(a:cX 65536 os)(d:val 65536 os+val 65536 (ys.take xs.length)=val 65536 (xs.take xs.length)+65536^xs.length*c)(f:val 65536 ys<=val 65536 xs):val 65536 os=val 65536 xs-val 65536 ys:=by
 rw[fe,a_ e] at d;have h1:=iZ a;rw[b] at h1;rcases fm c with h|h
 .subst h;omega
 have:65536^xs.length*1<=65536^xs.length*c:=Nat.mul_le_mul_left _ h
 omega
theorem aft{os:List Nat}{i d c a s t T:Nat}(b:i<os.length)(f:os[i]+s+c=d+65536*a)(g:val 65536 os+65536^i*c=T)(j:T+65536^i*s=t) :
 val 65536 (os.set i d)+65536^(i+1)*a=t:=by
 have h:=nP (B:=65536) (d:=d) b;rw[gn];generalize 65536^i=p at *
 have e:p*(os[i]+s+c)=p*d+p*65536*a:=by rw[f];grind
 grind
theorem adp{os xs ys:List Nat}{i k c s:Nat}(d:i<xs.length)(a:k<ys.length)(f:os.length=xs.length+ys.length)(b:val 65536 os+65536^(i+k)*c=val 65536 (xs.take i)*val 65536 ys+65536^i*(xs[i]*val 65536 (ys.take k)))
 (e:s=os[i+k]+xs[i]*ys[k]+c):val 65536 (os.set (i+k) (s%65536))+65536^(i+(k+1))*(s / 65536)=val 65536 (xs.take i)*val 65536 ys+65536^i*(xs[i]*val 65536 (ys.take (k+1))):=by
 refine aft (s:=xs[i]*ys[k]) (i:=i+k) (by omega) (by omega) b ?_;rw[cP a,Nat.pow_add]
 grind
theorem aiR{os xs ys:List Nat}{i c:Nat}(a:i<xs.length)(j:os.length=xs.length+ys.length)(b:val 65536 os+65536^(i+ys.length)*c=val 65536 (xs.take i)*val 65536 ys+65536^i*(xs[i]*val 65536 (ys.take ys.length)))(e:os.drop (i+ys.length)=bx (xs.length-i) 0) :
 val 65536 (os.set (i+ys.length) c)=val 65536 (xs.take (i+1))*val 65536 ys/\(os.set (i+ys.length) c).drop (i+1+ys.length)=bx (xs.length-(i+1)) 0:=by
 obtain⟨f,g⟩:=iS e (by omega);have h:=nP (B:=65536) (d:=c) (show i+ys.length<os.length by omega);rw[f] at h;rw[fe] at b;refine⟨?_,?_⟩
 . rw[cP a]
   grind
 rw[show i+1+ys.length=i+ys.length+1 by omega,lM,g]
 congr 1
def adq{x y:Nat}(a:x<65536)(b:y<65536):x*y<=4294836225:=by
 have:=Nat.mul_le_mul (pb a) (pb b);omega
def aiS{x y:Nat}(a:x<65536)(b:y<65536):(0:Int)<=(x:Int)*(y:Int)/\(x:Int)*(y:Int)<=4294836225:=by
 have:=adq a b;rw[<-me];omega
def adr(b:cX 65536 xs)(e:0<k)(c:k-1<xs.length)(d:k-1<ys.length)(a:xs.drop k=ys.drop k)(h:((xs[k-1]:Nat):Int)<((ys[k-1]:Nat):Int)):val 65536 xs<val 65536 ys:=
 Hs (by omega) b c d (by rw[show k-1+1=k by omega];exact a) (by omega)
def alI(d:0<k)(b:k-1<xs.length)(c:k-1<ys.length)(a:xs.drop k=ys.drop k)(h1:((xs[k-1]:Nat):Int)=((ys[k-1]:Nat):Int)):xs.drop (k-1)=ys.drop (k-1):=by
 rw[dw b,dw c,show k-1+1=k by omega,a,show xs[k-1]=ys[k-1] by omega]
def asQ(k:Nat):(65536:Nat)^k=256^(2*k):=by rw[show (65536:Nat)=256^2 from rfl,<-Nat.pow_mul]
theorem Ll{os bs:List Nat}{k d:Nat}(c:os.length=k)(g:val 65536 os=val 256 (bs.take (2*k)))(h:2*k<bs.length)(b:d=bs[2*k]+256*(bs[2*k+1]?.getD 0))(a:cX 256 bs)(e:cX 65536 os) :
 val 65536 (os++[d])=val 256 (bs.take (2*(k+1)))/\cX 65536 (os++[d]):=by
 have h1:=a _ (fl h);have h2:bs[2*k+1]?.getD 0<256:=by
  rcases d_ (2*k+1) bs.length with h|h
  .rw[ap h];exact a _ (fl h)
  rw[da h];decide
 refine⟨?_,e.append (oL (by omega) (nB _))⟩;have f:val 256 (bs.take (2*k+1+1))=val 256 (bs.take (2*k+1))+256^(2*k+1)*bs[2*k+1]?.getD 0:=by
  rcases d_ (2*k+1) bs.length with h|h
  .rw[cP h,ap h];rfl
  rw[a_ (by omega),a_ h,da h];simp
 rw[show 2*(k+1)=2*k+1+1 by omega,f,cP h,eV,c,g,asQ,gn];simp only[val,jm,jk];subst b;generalize 256^(2*k)=p
 grind
def wb2(x:Nat):List UInt8:=[fg (x / 256),fg x]
def Un(ys:List Nat)(h:cX 65536 ys):val 256 (((ys.reverse.flatMap wb2).reverse).map ju)=val 65536 ys/\cX 256 (((ys.reverse.flatMap wb2).reverse).map ju):=by
 induction ys with
 |nil=>exact⟨rfl,λ_ h=>by cases h⟩
 |cons y ys ih=>
  have d:=h y (by simp);obtain⟨b,c⟩:=ih (λx a=>h x (by simp[a]));have e:(((y::ys).reverse.flatMap wb2).reverse).map ju=[y%256,y / 256%256]++(((ys.reverse.flatMap wb2).reverse).map ju):=by
   simp[bi,wb2,ka]
  rw[e];refine⟨?_,?_⟩
  . rw[eV,b]
    simp only[val,be,cd];omega
  refine cX.append ?_ c
  intro x a;simp at a;omega
def ads(h:cX 65536 ys)(neg:Bool):oX (jJ (ys.reverse.flatMap wb2))=iR (Xo neg (val 65536 ys)):=by
 obtain⟨h1,h2⟩:=Un ys h;rw[Pn,oM (by omega) h2 h1,iR,Ip,nO];rfl
def pS(ys:List Nat)(k:Nat):List UInt8:=jJ ((ys.drop k).reverse.flatMap wb2)
def abC{l m:List UInt8}(h:jJ l≠[]):jJ (l++m)=jJ l++m:=by
 induction l with
 |nil=>exact Y0 rfl h
 |cons b l ih=>
  by_cases a:b=0
  . subst a
    have e:jJ (0::l)=jJ l:=by simp[jJ]
    have c:jJ ((0::l)++m)=jJ (l++m):=by simp[jJ]
    rw[e] at h;rw[e,c,ih h]
  simp[jJ,a]
def afu(b:0<k)(a:k-1<ys.length)(h:pS ys k≠[]):pS ys (k-1)=pS ys k++[fg (ys[k-1] / 256)]++[fg (ys[k-1]%256)]/\pS ys (k-1)≠[]:=by
 have e:pS ys (k-1)=pS ys k++[fg (ys[k-1] / 256)]++[fg (ys[k-1]%256)]:=by
  unfold pS at *
  rw[dw a,show k-1+1=k by omega,List.reverse_cons,bi,abC h];have:fg (ys[k-1]%256)=fg (ys[k-1]):=by
   apply pw.1;simp[ka]
  rw[this];simp[wb2]
 exact⟨e,by rw[e];simp⟩
def adt{ys:List Nat}(f:ys.length-1<ys.length)(i:0<ys[ys.length-1])(k:ys[ys.length-1]<65536) :
 pS ys (ys.length-1)=(if 256<=ys[ys.length-1] then [fg (ys[ys.length-1] / 256)] else [])++[fg (ys[ys.length-1]%256)]/\pS ys (ys.length-1)≠[]:=by
 have e:pS ys (ys.length-1)=jJ (wb2 (ys[ys.length-1])):=by
  unfold pS;rw[dw f,show ys.length-1+1=ys.length by omega,lk];simp
 generalize ys[ys.length-1]=x at *
 have d:fg (x%256)=fg x:=by
  apply pw.1;simp[ka]
 have a:∀y:Nat,y<256->(fg y=0↔y=0):=λy j=>by
  rw[<-pw];simp only[ka,UInt8.toNat_zero];rw[kd (by omega)]
 have c:jJ (wb2 x)=(if 256<=x then [fg (x / 256)] else [])++[fg (x%256)]:=by
  split
  . rename_i h
    have b:¬fg (x / 256)=0:=λe=>by have:=(a _ (by omega)).1 e;omega
    rw[d];simp[jJ,wb2,b]
  rename_i h
  have g:fg (x / 256)=0:=(a _ (by omega)).2 (by omega);have b:¬fg x=0:=λe=>by have:=(a _ (by omega)).1 e;omega
  rw[d];simp[jJ,wb2,g,b]
 exact⟨e.trans c,by rw[e,c];simp⟩
def aae(ys:List Nat):pS ys ys.length=[]:=by unfold pS;rw[lk];rfl
def afv(h:cX 65536 ys)(neg:Bool):oX (pS ys 0)=iR (Xo neg (val 65536 ys)):=by
 unfold pS;rw[List.drop_zero];exact ads h neg
def aiT(ys:List Nat)(k:Nat):(pS ys k).length<=2*ys.length:=by
 have h1:∀l:List UInt8,(jJ l).length<=l.length:=λl=>by
  induction l with
  |nil=>simp[jJ]
  |cons b l ih=>
   unfold jJ at *
   rw[pp];split
   .simp;omega
   simp
 have h2:∀l:List Nat,(l.flatMap wb2).length=2*l.length:=λl=>by
  induction l with
  |nil=>rfl
  |cons x l ih=>rw[cz,bg,ih];simp[wb2];omega
 refine ax (h1 _) ?_;rw[h2];simp;omega
def Ey{x:Nat}(h:x<256):IntKind.u8.wrap (x:Int)=(x:Int):=agy (by omega) (by omega)
theorem Uo{os:List Nat}{m V:Nat}(f:val 65536 os+65536^os.length*m=V)(a:cX 65536 os)(h2:m<2^(64-os.length))(c:os.length<=64)(b:0<m) :
 val 65536 (os++[m%65536])+65536^(os++[m%65536]).length*(m / 65536)=V/\cX 65536 (os++[m%65536])/\m / 65536<2^(64-(os++[m%65536]).length)/\(os++[m%65536]).length<=64:=by
 have d:os.length<64:=by
  rcases d_ os.length 64 with h|h
  .exact h
  rw[show 64-os.length=0 by omega] at h2;omega
 refine⟨?_,a.append (oL (kj _ (by omega)) (nB _)),?_,by simp;omega⟩
 . rw[eV,bg,iu,gn]
   simp only[val,jm,jk];have e:m=m%65536+65536*(m / 65536):=by omega
   generalize m / 65536=q at *
   generalize m%65536=r at *
   generalize 65536^os.length=p at *
   subst e
   grind
 rw[bg,iu]
 have e:2^(64-os.length)=2*2^(64-(os.length+1)):=by rw[<-Nat.pow_succ'];congr 1;omega
 rw[e] at h2;omega
def p16(i:Nat):(65536:Nat)^(2*(i+1))=65536*65536*65536^(2*i):=by
 rw[show 2*(i+1)=2*i+1+1 by omega,gn,gn];generalize (65536:Nat)^(2*i)=p;omega
def aiU{K:Nat}(h:X<65536^n)(a:n<=2*K):X<(0+1)*(0+1)*65536^(2*K):=by
 have:=fv (show 0<65536 by omega) a;omega
theorem alJ(h:R*R*65536^(2*(i+1))<=X):(0+65536*R)*(0+65536*R)*65536^(2*i)<=X:=by
 rw[p16] at h;have e:(0+65536*R)*(0+65536*R)*65536^(2*i)=R*R*(65536*65536*65536^(2*i)):=by
  generalize (65536:Nat)^(2*i)=p
  grind
 omega
theorem aiV(h:X<(R+1)*(R+1)*65536^(2*(i+1))):X<(65536+65536*R)*(65536+65536*R)*65536^(2*i):=by
 rw[p16] at h;have e:(65536+65536*R)*(65536+65536*R)*65536^(2*i)=(R+1)*(R+1)*(65536*65536*65536^(2*i)):=by
  generalize (65536:Nat)^(2*i)=p
  grind
 omega
def aps{low high:Nat}(h:X<(high+65536*R)*(high+65536*R)*65536^(2*i))(a:¬((1:Int)<(high:Int)-(low:Int))):X<(low+65536*R+1)*(low+65536*R+1)*65536^(2*i):=by
 refine cj h (gz _ (Nat.mul_le_mul ?_ ?_))<;>omega
def Lm{rs:List Nat}  : val 65536 (bx (2*i) 0++digs 65536 (val 65536 (m::rs)*val 65536 (m::rs)))=(m+65536*val 65536 rs)*(m+65536*val 65536 rs)*65536^(2*i):=by
 rw[eV,fI,eY,nh,aj,Nat.mul_comm];rfl
def alK(h1:R*R*65536^(2*0)<=X)(h2:X<(R+1)*(R+1)*65536^(2*0)):R=dO X:=Kq (by simpa using h1) (by simpa using h2)
def Up(m:Nat)(rs:List Nat):val 65536 (m::rs)=m+65536*val 65536 rs:=rfl
def dT.trimmed{b:Nat}(h:dT w b A n cap xs):dT w w.heap.size A (trim xs).length cap (trim xs):=by
 have h:=(h.take (trim xs).length).here;rwa [<-iQ] at h
def Uq{b e n' d:Nat}{a:Option Addr}(h:dT w b A n cap xs)(k:dT w e a n' d ys):∃c,apr w c/\dT w c A n cap xs/\dT w c a n' d ys:=⟨_,⟨ba _⟩,h.here,k.here⟩
def abD{rs:List Nat}(a:m<65536)(h:cX 65536 rs):(digs 65536 (val 65536 (m::rs)*val 65536 (m::rs))).length<=2*(rs.length+1):=by
 refine dU (by omega) ?_;have h1:=iZ (oL a h);simp only[be] at h1;rw[show 2*(rs.length+1)=(rs.length+1)+(rs.length+1) by omega,Nat.pow_add];exact Nat.mul_lt_mul'' h1 h1
instance (a:Int):Decidable (nQ a):=inferInstanceAs (Decidable (_/\_))
def abE(a:Int):Int:=if nQ a then a else 0
def apt{a:Int}(h:X=a.natAbs)(b:4<(digs 65536 X).length):¬nQ a:=λk=>by
 have h1:X<65536^4:=by have:=k.natAbs;rw[<-h] at this;omega
 have h2:=dU (B:=65536) (by omega) h1;omega
def alL(d:(digs 65536 X).length<=4)(a:cX 65536 (digs 65536 X))(c:j<(digs 65536 X).length):val 65536 ((digs 65536 X).drop (j+1))<281474976710656:=by
 have h1:=iZ (a.drop (j+1));have h2:((digs 65536 X).drop (j+1)).length<=3:=by rw[ix];omega
 have b:65536^((digs 65536 X).drop (j+1)).length<=65536^3:=fv (by omega) h2;omega
def asR(a:(digs 65536 X).length<=4)(h:X<65536^(digs 65536 X).length):X<18446744073709551616:=by
 have b:65536^(digs 65536 X).length<=65536^4:=fv (by omega) a;omega
def aaf{a:Int}{X:Nat}(h:X=a.natAbs):(fF a=Z/\X<=9223372036854775808/\nQ a/\a = -(X:Int))\/(fF a=Z/\9223372036854775808<X/\¬nQ a) \/
 (fF a=X9/\9223372036854775808<=X/\¬nQ a)\/(fF a=X9/\X<9223372036854775808/\nQ a/\a=(X:Int)):=by
 unfold nQ fF;rcases Int.lt_or_le a 0 with h0|h0
 . rw[Y5 h0]
   rcases d_ 9223372036854775808 X with h1|h1
   .exact .inr (.inl ⟨O,h1,by omega⟩)
   exact .inl ⟨O,h1,by omega,by omega⟩
 rw[Y6 (by omega)]
 rcases d_ X 9223372036854775808 with h1|h1
 .exact .inr (.inr (.inr ⟨O,h1,by omega,by omega⟩))
 exact .inr (.inr (.inl ⟨O,h1,by omega⟩))
def Ny{a:Int}(h:¬nQ a):Value.tuple #[G 0,.bool X9]=.tuple #[G (abE a),.bool (decide (nQ a))]:=by rw[abE,K0 h,Y6 h]
def Ro{a n:Int}(h:nQ a)(e:n=a):Value.tuple #[G n,.bool Z]=.tuple #[G (abE a),.bool (decide (nQ a))]:=by rw[abE,Z9 h,Y5 h,e]
def adu(h:X<=9223372036854775808):IntKind.i64.wrap (IntKind.u64.wrap (0-(X:Int))) = -(X:Int):=by
 rw[gU];simp[IntKind.wrap,IntKind.bits,IntKind.signed];split<;>omega
def alM{v x V:Nat}(h:v=x+65536*V):((V:Int)*65536+(x:Int))=(v:Int):=by subst h;rw[Int.natCast_add,me];omega
def nW(p q:P3):Nat:=((q.sub p).dot (q.sub p)).natAbs
def sF(p q:P3):Int:=(dO (nW p q):Int)+if dO (nW p q)*dO (nW p q)=nW p q then 0 else 1
def nF:List Mv->Int->Option Int
 | [],n=>H n
 |m::ms,n=>if nQ (sF m.1 m.2) then nF ms (max n (sF m.1 m.2)) else G0
def gR(a b:List T3)(ms:List Mv):Int×Int:=
 if cD Z a≠0 then (0,cD Z a)
 else if cD Z b≠0 then (0,cD Z b)
 else if Y a≠Y b then (0,30)
 else if jP a b (Y a)=Z\/oD a b (Y a)=X9 then (0,30)
 else if oE a b ms (Y a)=X9 then (0,31)
 else if mC a b ms=X9 then (0,32)
 else match nF ms 0 with
  |some n=>(n,0)
  |none=>(0,3)
/-! ### What CheckOpen says -/
def mE{ts:List T3}(h:cD Z ts=0):nE ts/\(aR ts).Nodup:=by
 unfold cD at h;split at h
 .cases h
 rename_i h1
 split at h
 .cases h
 rename_i h2
 refine⟨λt b=>?_,?_⟩
 . cases a:sY t with
   |false=>rfl
   |true=>exact Y0 (ff.2 ⟨t,b,a⟩) h1
 rw[Lf] at h2
 exact Decidable.not_not.1 λk=>h2 (Y5 k)
def Yi(t:T3):List E3:=[(t.a,t.b),(t.b,t.c),(t.c,t.a)]
def aag{t:T3}{e:E3}:e∈Yi (F t)↔e∈Yi t:=by
 unfold F;split
 . simp only[Yi,av,bw,Y3]
   exact⟨λh=>h.elim (λh=>.inr (.inr h)) λh=>h.elim .inl λh=>.inr (.inl h),λh=>h.elim (λh=>.inr (.inl h)) λh=>h.elim (λh=>.inr (.inr h)) .inl⟩
 split
 . simp only[Yi,av,bw,Y3]
   exact⟨λh=>h.elim (λh=>.inr (.inl h)) λh=>h.elim (λh=>.inr (.inr h)) .inl,λh=>h.elim (λh=>.inr (.inr h)) λh=>h.elim .inl λh=>.inr (.inl h)⟩
 exact Iff.rfl
def aah:∀{ts:List T3},(aR ts).Nodup->(ts.map F).Nodup
 | [],_=>by simp
 |t::ts,h=>by
  have e:aR (t::ts)=Yi t++aR ts:=rfl;rw[e] at h;obtain⟨_,h2,d⟩:=jv.1 h;rw[bm,gv];refine⟨λk=>?_,aah h2⟩;obtain⟨u,g,f⟩:=c_.1 k;have c:(t.a,t.b)∈Yi t:=by simp[Yi]
  have h1:(t.a,t.b)∈Yi u:=aag.1 (f▸aag.2 c);exact d _ c _ (dj.2 ⟨u,g,h1⟩) O
def nd_of{t:T3}(h:sY t=X9):t.nd=Z:=by
 obtain⟨h1,h2,a⟩:=Yh h;simp[T3.nd,h1,h2,a]
def alN{ts us:List T3}(h:cD Z ts≠0):gR ts us ms=(0,cD Z ts):=by rw[gR,Z9 h]
/-! ### One far move -/
def P3.lt_asymm{p:P3}(h:p.Lt q):¬q.Lt p:=λk=>P3.lt_irrefl _ (P3.lt_trans h k)
def Ur{t:T3}(h:t.nd=Z):F ⟨t.b,t.c,t.a⟩=F t:=by
 unfold T3.nd at h;simp only[bt,Y2] at h;obtain⟨⟨h1,h2⟩,e⟩:=h;unfold F;simp only;rcases P3.lt_tri t.a t.b with ab|ab|ab
 . rcases P3.lt_tri t.b t.c with bc|bc|bc
   . have ac:=P3.lt_trans ab bc
     simp[ab,bc,ac,P3.lt_asymm ab,P3.lt_asymm bc,P3.lt_asymm ac]
   .exact Y0 bc h2
   rcases P3.lt_tri t.a t.c with ac|ac|ac
   .simp[ab,bc,ac,P3.lt_asymm ab,P3.lt_asymm bc,P3.lt_asymm ac]
   .exact Y0 ac.symm e
   simp[ab,bc,ac,P3.lt_asymm ab,P3.lt_asymm bc,P3.lt_asymm ac]
 .exact Y0 ab h1
 rcases P3.lt_tri t.b t.c with bc|bc|bc
 . rcases P3.lt_tri t.a t.c with ac|ac|ac
   .simp[ab,bc,ac,P3.lt_asymm ab,P3.lt_asymm bc,P3.lt_asymm ac]
   .exact Y0 ac.symm e
   simp[ab,bc,ac,P3.lt_asymm ab,P3.lt_asymm bc,P3.lt_asymm ac]
 .exact Y0 bc h2
 have d:=P3.lt_trans bc ab
 simp[ab,bc,d,P3.lt_asymm ab,P3.lt_asymm bc,P3.lt_asymm d]
def Rp{t:T3}:(⟨t.b,t.c,t.a⟩:T3).nd=t.nd:=by
 unfold T3.nd;simp only;cases decide (t.a≠t.b)<;>cases decide (t.b≠t.c)<;>cases decide (t.c≠t.a)<;>rfl
def abF(t u:T3):Prop:=u=t\/u=⟨t.b,t.c,t.a⟩\/u=⟨t.c,t.a,t.b⟩
def adv{t u:T3}(h:abF t u)(d:t.nd=Z):F u=F t:=by
 rcases h with rfl|rfl|rfl
 .rfl
 .exact Ur d
 have h2:=Ur (t:=⟨t.b,t.c,t.a⟩) (by rw[Rp];exact d)
 exact h2.trans (Ur d)
def abG{t u:T3}(h:abF t u):u.nd=t.nd:=by
 rcases h with rfl|rfl|rfl
 .rfl
 .exact Rp
 exact (Rp (t:=⟨t.b,t.c,t.a⟩)).trans Rp
/-! ### Edges of a list in which triangles are changed -/
def rA(ts:List T3)(e:E3):Prop:=e∈aR ts/\(e.2,e.1)∉aR ts
def uZ{ts:List T3}{e:E3}:e∈Y ts↔rA ts e:=wY
def xY{ts us:List T3}(h:∀e,rA ts e↔rA us e):Y ts=Y us:=
 Px (pO ts) (pO us) λe=>uZ.trans ((h e).trans uZ.symm)
section
variable{p:P3}{X:E3->Prop}{old new R fine fine':List T3}
end
/-! ### The two kinds of division -/
def adw{t u:T3}(h:abF t u)(x:P3):u.has x=t.has x:=by
 unfold T3.has;rcases h with rfl|rfl|rfl
 .rfl
 .simp only;cases decide (t.a=x)<;>cases decide (t.b=x)<;>cases decide (t.c=x)<;>rfl
 simp only;cases decide (t.a=x)<;>cases decide (t.b=x)<;>cases decide (t.c=x)<;>rfl
def alO(t:T3):List (E3×P3):=[((t.a,t.b),t.c),((t.b,t.c),t.a),((t.c,t.a),t.b)]
def fC{ts:List T3}{x:E3×P3}:x∈kD ts↔∃t∈ts,x∈alO t:=dj
def afw{ts us:List T3}(h:ts.Perm us){x:E3×P3}:x∈kD ts↔x∈kD us:=by
 rw[fC,fC];exact X1 λt=>and_congr h.mem_iff Iff.rfl
/-! ### Images -/
section
variable{l fine fine' R:List T3}{ms:List Mv}{B B':Int}{p:P3}
end
structure Q4 where
 a:Int
 b:Int
 c:Int
 d:Int
def q4C(q:Q4):List ak:=[G q.a,G q.b,G q.c,G q.d]
class IQ(q:Q4):Prop where
 a:nQ q.a
 b:nQ q.b
 c:nQ q.c
 d:nQ q.d
def asS(i:Nat)(q:Q4):P3:=⟨100+50*(i:Int)+q.b%40,q.b.tdiv 40%200,q.c%300-50⟩
def aai(i:Nat)(p:P3):Prop:=100+50*(i:Int)<=p.x/\p.x<150+50*(i:Int)/\0<=p.y/\p.y<200/\-50<=p.z/\p.z<250
def apu(i:Nat)(q:Q4):aai i (asS i q):=by
 have h1:=uA (n:=q.b) (m:=40) (by decide);have h2:=uA (n:=q.b.tdiv 40) (m:=200) (by decide);have a:=uA (n:=q.c) (m:=300) (by decide);refine⟨?_,?_,?_,?_,?_,?_⟩<;>(simp only[asS];omega)
def alP{z:Int}(h:nQ z):IntKind.i64.wrap (z.tdiv 40)=z.tdiv 40/\nQ (z.tdiv 40):=by
 obtain⟨h1,h2⟩:=h;have a : -9223372036854775808<=z.tdiv 40/\z.tdiv 40<9223372036854775808:=by
  rcases Int.le_total 0 z with hz|hz
  .rw[m_ hz];omega
  have e:z.tdiv 40 = -((-z) / 40):=by
   rw[<-m_ (show 0 <= -z by omega),Int.neg_tdiv,Int.neg_neg]
  rw[e];omega
 exact⟨cF (by omega) (by omega),⟨by omega,by omega⟩⟩
def lH(e x a b:P3):P3:=if x≠a/\x≠b then x else e
def Jg(o:T3)(a b:P3):P3:=lH (lH (lH (o.cor 0) (o.cor 0) a b) (o.cor 1) a b) (o.cor 2) a b
def alQ{e b:P3}(h:(decide (¬(x.x=a.x/\x.y=a.y/\x.z=a.z))&&decide (¬(x.x=b.x/\x.y=b.y/\x.z=b.z)))=Z):lH e x a b=x:=by
 simp only[gZ,bt,Y2] at h;exact Z9 h
def alR{e b:P3}(h:(decide (¬(x.x=a.x/\x.y=a.y/\x.z=a.z))&&decide (¬(x.x=b.x/\x.y=b.y/\x.z=b.z)))=X9):lH e x a b=e:=by
 refine K0 λk=>?_;simp only[gZ] at h;rw[Y5 k.1,Y5 k.2] at h;cases h
inductive asT(rim:List E3)(i:Nat)(us:List T3)(ms:List Mv):List T3->List Mv->Prop
 |tri (k:Nat) (t:T3) (c:Nat) (p:P3) (ht:us[k]? = H t) (hc:c<3) (hp:aai i p) :
  asT rim i us ms (us.set k ⟨t.cor c,t.cor ((c+1)%3),p⟩++[⟨t.cor ((c+1)%3),t.cor ((c+2)%3),p⟩,⟨t.cor ((c+2)%3),t.cor c,p⟩]) (ms++[(p,mY ms (t.cor c))])
 |edge (k j:Nat) (t o:T3) (x:P3) (c:Nat) (p:P3) (ht:us[k]? = H t) (hc:c<3) (ho:us[j]? = H o) (hx:o.fnd (t.cor ((c+1)%3)) (t.cor c)=H x)
  (hb:¬(uW rim (t.cor c)=Z/\uW rim (t.cor ((c+1)%3))=Z)) (hp:aai i p) :
  asT rim i us ms (((us.set k ⟨t.cor c,p,t.cor ((c+2)%3)⟩).set j ⟨t.cor ((c+1)%3),p,Jg o (t.cor c) (t.cor ((c+1)%3))⟩)++[⟨p,t.cor ((c+1)%3),t.cor ((c+2)%3)⟩,⟨p,t.cor c,Jg o (t.cor c) (t.cor ((c+1)%3))⟩]) (ms++[(p,mY ms (t.cor c))])
inductive Nz(rim:List E3)(l:List T3):Nat->List T3->List Mv->Prop
 |nil:Nz rim l 0 l []
 |step {i:Nat} {us us':List T3} {ms ms':List Mv} (h:Nz rim l i us ms) (s:asT rim i us ms us' ms'):Nz rim l (i+1) us' ms'
def Nz.len{rim:List E3}{l us:List T3}(h:Nz rim l i us ms):us.length=l.length+2*i/\ms.length=i:=by
 induction h with
 |nil=>exact⟨rfl,rfl⟩
 |step h s ih=>cases s<;>(simp only[bg,List.length_set,be,cd];omega)
def Jh(l:List T3)(i:Nat)(x:P3):Prop:=x∈bP l\/∃j,j<i/\aai j x
def lI{ts:List T3}  : x∈bP ts↔∃t∈ts,x=t.cor 0\/x=t.cor 1\/x=t.cor 2:=by
 unfold bP;rw[dj];exact X1 λt=>and_congr Iff.rfl (by simp[T3.cor])
def xA{ts:List T3}{c:Nat}{t:T3}(h:ts[k]? = H t)(hc:c<3):t.cor c∈bP ts:=by
 refine lI.2 ⟨t,bn h,?_⟩;obtain rfl|rfl|rfl:c=0\/c=1\/c=2:=by omega
 .exact .inl O
 .exact .inr (.inl O)
 exact .inr (.inr O)
def alS(o:T3)(a b:P3):∃c,c<3/\Jg o a b=o.cor c:=by
 have d:∃c,c<3/\lH (o.cor 0) (o.cor 0) a b=o.cor c:=⟨0,by decide,by unfold lH;split<;>rfl⟩
 obtain⟨c,hc,e⟩:=d;have h1:∃c,c<3/\lH (lH (o.cor 0) (o.cor 0) a b) (o.cor 1) a b=o.cor c:=by
  rw[e];unfold lH;split
  .exact⟨1,by decide,O⟩
  exact⟨c,hc,O⟩
 obtain⟨c,hc,e⟩:=h1;unfold Jg;rw[e];unfold lH;split
 .exact⟨2,by decide,O⟩
 exact⟨c,hc,O⟩
def Us{ts:List T3}{u:T3}(h:x∈bP (ts.set k u)):x∈bP ts\/x=u.a\/x=u.b\/x=u.c:=by
 obtain⟨t,e,d⟩:=lI.1 h;rcases List.mem_or_eq_of_mem_set e with h|rfl
 .exact .inl (lI.2 ⟨t,h,d⟩)
 exact .inr d
def adx{ts us:List T3}  : x∈bP (ts++us)↔x∈bP ts\/x∈bP us:=by unfold bP;rw[bi,bv]
def Nz.pts{rim:List E3}{l us:List T3}(h:Nz rim l i us ms):(∀x∈bP us,Jh l i x)/\∀m∈ms,Jh l i m.1/\Jh l i m.2:=by
 induction h with
 |nil=>exact⟨λx h=>.inl h,λm h=>by cases h⟩
 |@step i us C ms B h s ih=>
  obtain⟨h1,h2⟩:=ih;have up:∀x,Jh l i x->Jh l (i+1) x:=λx h=>h.elim .inl λ⟨j,w,hx⟩=>.inr ⟨j,by omega,hx⟩;have img:∀(ms:List Mv)(x:P3),(∀m∈ms,Jh l i m.2)->Jh l i x->Jh l i (mY ms x):=by
   intro ms
   induction ms with
   |nil=>intro x _ h;exact h
   |cons m ms ih=>
    intro x hm hx;unfold mY;split
    .exact hm m (bq ..)
    exact ih x (λm h=>hm m (br _ h)) hx
  have mv:∀p a,aai i p->Jh l i a->∀m∈ms++[(p,mY ms a)],Jh l (i+1) m.1/\Jh l (i+1) m.2:=λp a e b m hm=>by
   rcases bv.1 hm with hm|hm
   .exact⟨up _ (h2 m hm).1,up _ (h2 m hm).2⟩
   obtain rfl:=bp.1 hm
   exact⟨.inr ⟨i,by omega,e⟩,up _ (img ms a (λm hm=>(h2 m hm).2) b)⟩
  cases s with
  |tri k t c p f hc e=>
   have b:=h1 _ (xA f hc);have g:=h1 _ (xA f (show (c+1)%3<3 by omega));have n:=h1 _ (xA f (show (c+2)%3<3 by omega));refine⟨λx hx=>?_,mv p _ e b⟩;have d:Jh l (i+1) p:=.inr ⟨i,by omega,e⟩;rcases adx.1 hx with hx|hx
   . rcases Us hx with hx|rfl|rfl|rfl
     .exact up _ (h1 x hx)
     .exact up _ b
     .exact up _ g
     exact d
   simp only[bP,cz,lj,fz,bv,av,bw,Y3] at hx
   rcases hx with (rfl|rfl|rfl)|rfl|rfl|rfl
   .exact up _ g
   .exact up _ n
   .exact d
   .exact up _ n
   .exact up _ b
   exact d
  |edge k j t o y c p f hc u A z e=>
   have b:=h1 _ (xA f hc);have g:=h1 _ (xA f (show (c+1)%3<3 by omega));have n:=h1 _ (xA f (show (c+2)%3<3 by omega));obtain⟨c2,v,r⟩:=alS o (t.cor c) (t.cor ((c+1)%3));have q:=h1 _ (xA u v);rw[r];refine⟨λx hx=>?_,mv p _ e b⟩;have d:Jh l (i+1) p:=.inr ⟨i,by omega,e⟩;rcases adx.1 hx with hx|hx
   . rcases Us hx with hx|rfl|rfl|rfl
     . rcases Us hx with hx|rfl|rfl|rfl
       .exact up _ (h1 x hx)
       .exact up _ b
       .exact d
       exact up _ n
     .exact up _ g
     .exact d
     exact up _ q
   simp only[bP,cz,lj,fz,bv,av,bw,Y3] at hx
   rcases hx with (rfl|rfl|rfl)|rfl|rfl|rfl
   .exact d
   .exact up _ g
   .exact up _ n
   .exact d
   .exact up _ b
   exact up _ q
def Mid(x:P3):Prop:=-2000000<=x.x/\x.x<=2000000/\-1000000<=x.y/\x.y<=1000000/\-1000000<=x.z/\x.z<=1000000
theorem Mid.i3(h:Mid x):I3 x:=by
 obtain⟨h1,h2,a,b,c,d⟩:=h;exact⟨⟨by omega,by omega⟩,⟨by omega,by omega⟩,⟨by omega,by omega⟩⟩
def Jh.mid{l:List T3}(a:∀x∈bP l,Mid x)(f:i<=100)(h:Jh l i x):Mid x:=by
 rcases h with h|⟨j,g,h1,h2,b,c,d,e⟩
 .exact a x h
 exact⟨by omega,by omega,by omega,by omega,by omega,by omega⟩
theorem avD{ts:List T3}(h:∀x∈bP ts,I3 x):∀t∈ts,IT t:=λt a=>
 ⟨h _ (lI.2 ⟨t,a,.inl rfl⟩),h _ (lI.2 ⟨t,a,.inr (.inl rfl)⟩),h _ (lI.2 ⟨t,a,.inr (.inr rfl)⟩)⟩
def alT{ts:List T3}(h:∀t∈ts,SmT 200 t):∀x∈bP ts,Mid x:=λx b=>by
 obtain⟨t,a,b⟩:=lI.1 b;have key:∀y,Sm 200 y->Mid y:=λy ⟨⟨h1,h2⟩,⟨c,d⟩,e,f⟩=>⟨by omega,by omega,by omega,by omega,by omega,by omega⟩
 rcases b with rfl|rfl|rfl
 .exact key _ (h t a).1
 .exact key _ (h t a).2.1
 exact key _ (h t a).2.2
def vV(a b c:P3):P3:=(b.sub a).cross (c.sub a)
def Ke(a b c d:P3):Int:=(vV a b c).dot (d.sub a)
def qR(v:P3)(k:Nat):Int:=if k=0 then v.x else if k=1 then v.y else v.z
def Rq(v:P3):Nat:=if v.x≠0 then 0 else if v.y≠0 then 1 else if v.z≠0 then 2 else 3
/-! ### Points in a plane -/
def Z3(u:P3):Prop:=u.x=0/\u.y=0/\u.z=0
instance (u:P3):Decidable (Z3 u):=inferInstanceAs (Decidable (_/\_/\_))
def xZ(p q:P3):P3:=if q.Lt p then q else p
def Dt(p q:P3):P3:=if q.Lt p then p else q
def alU(a b c:P3):Bool:=decide (Rq (vV a b c)=3)
def avE(p q r s:P3):Bool:=(if xZ p q=Dt p q then alU (xZ r s) (Dt r s) (xZ p q) else alU (xZ p q) (Dt p q) (xZ r s)) && !decide ((Dt p q).Lt (xZ r s)) && !decide ((Dt r s).Lt (xZ p q))
def Ji(p q r s:P3):P3:=(q.sub p).cross (s.sub r)
def mF(p q r s:P3):Bool:=
 if Rq (Ji p q r s)<3 then
  decide (Ke p q r s=0)&&decide (qR (vV p q r) (Rq (Ji p q r s))*qR (vV p q s) (Rq (Ji p q r s))<=0)&&decide (qR (vV r s p) (Rq (Ji p q r s))*qR (vV r s q) (Rq (Ji p q r s))<=0)
 else avE p q r s
def lt_tri(p q:P3):p.Lt q\/p=q\/q.Lt p:=by
 by_cases h:p=q
 .exact .inr (.inl h)
 have:¬(p.x=q.x/\p.y=q.y/\p.z=q.z):=λk=>h (P3.eq k.1 k.2.1 k.2.2)
 unfold P3.Lt;omega
/-! ### In the plane of a triangle -/
def wth(a b c x:P3)(k:Nat):Prop:=(0<=qR (vV a b x) k/\0<=qR (vV b c x) k/\0<=qR (vV c a x) k)\/(qR (vV a b x) k<=0/\qR (vV b c x) k<=0/\qR (vV c a x) k<=0)
instance (a b c x:P3)(k:Nat):Decidable (wth a b c x k):=by unfold wth;infer_instance
def avF(x y z:Int):Bool:=(decide (0<=x)&&decide (0<=y)&&decide (0<=z))||(decide (x<=0)&&decide (y<=0)&&decide (z<=0))
def kB(p q:P3)(t:T3):Bool:=
 if Rq (vV t.a t.b t.c)<3 then
  if 0<Ke t.a t.b t.c p*Ke t.a t.b t.c q then X9
  else if Ke t.a t.b t.c p=0/\Ke t.a t.b t.c q=0 then mF p q t.a t.b||mF p q t.b t.c||mF p q t.c t.a||decide (wth t.a t.b t.c p (Rq (vV t.a t.b t.c)))
  else avF (Ke p q t.a t.b) (Ke p q t.b t.c) (Ke p q t.c t.a)
 else mF p q (xZ (xZ t.a t.b) t.c) (Dt (Dt t.a t.b) t.c)
/-! ### Two places of a list -/
/-! ### A step -/
/-! ### The surfaces -/
def T3.mapP(f:P3->P3)(t:T3):T3:=⟨f t.a,f t.b,f t.c⟩
section
variable{f:P3->P3}{S:P3->Prop}{ts:List T3}
end
def aaj{ts:List T3}:(cR ts).any (Kx ts)=Z↔∃e∈aR ts,∃j,1<=j/\j<rF (bP ts) e.1/\pP ts e.1 j e.2=H e.2:=by
 rw[pinned];refine X1 λe=>?_;rw[Ui,Uf,Uh];refine and_congr Iff.rfl (X1 λj=>?_);rw[Lg];constructor
 .rintro⟨h1,h2,a⟩;exact⟨h1,by omega,a⟩
 rintro⟨h1,h2,a⟩;exact⟨h1,by omega,a⟩
def aiW{ts:List T3}:cD Z ts=0↔nE ts/\(aR ts).Nodup/\¬∃e∈aR ts,∃j,1<=j/\j<rF (bP ts) e.1/\pP ts e.1 j e.2=H e.2:=by
 constructor
 . intro h
   obtain⟨h1,h2⟩:=mE h;refine⟨h1,h2,λk=>?_⟩;have c:=aaj.2 k;have b:ts.any sY=X9:=pa.2 λt d=>by rw[h1 t d];exact fh
   have a:=Lf (es:=aR ts);rw[Y6 (λk=>k h2)] at a;unfold cD at h;rw[b,a,c] at h;simp at h
 rintro⟨h1,h2,f⟩
 have c:(cR ts).any (Kx ts)=X9:=by
  cases g:(cR ts).any (Kx ts) with
  |false=>rfl
  |true=>exact Y0 (aaj.1 g) f
 have b:ts.any sY=X9:=pa.2 λt d=>by rw[h1 t d];exact fh
 have a:=Lf (es:=aR ts);rw[Y6 (λk=>k h2)] at a;unfold cD;rw[b,a,c];rfl
/-! ### An edge is divided -/
section
variable{f:P3->P3}{S:P3->Prop}
end
inductive uC(N:P3->P3->Prop):P3->P3->Prop
 |refl (a:P3):uC N a a
 |tail {a b c:P3} (h:uC N a b) (s:N b c):uC N a c
section
variable{N N':P3->P3->Prop}{a b c p q x0 y0:P3}
def uC.one(h:N a b):uC N a b:=.tail (.refl a) h
def uC.trans(h:uC N a b)(k:uC N b c):uC N a c:=by
 induction k with
 |refl=>exact h
 |tail _ s ih=>exact .tail ih s
def uC.head(h:uC N a b):a=b\/∃c,N a c/\uC N c b:=by
 induction h with
 |refl=>exact .inl rfl
 |tail _ s ih=>
  rcases ih with rfl|⟨d,e,k⟩
  .exact .inr ⟨_,s,.refl _⟩
  exact .inr ⟨d,e,.tail k s⟩
def Cyc(N:P3->P3->Prop)(s:P3):Prop:=∃y,N s y/\uC N y s
def pB(N:P3->P3->Prop):Prop:=∀s,Cyc N s->∀x y,N x y->uC N s x
def Jj(N:P3->P3->Prop)(a z:P3):Prop:=uC N a z/\∀y,¬N z y
/-! ### A corner between two -/
structure Ins(p x0 y0:P3)(N N':P3->P3->Prop):Prop where
 no:∀x y,N x y->x≠p/\y≠p
 was:N x0 y0
 iff:∀x y,N' x y↔(N x y/\¬(x=x0/\y=y0))\/(x=x0/\y=p)\/(x=p/\y=y0)
def Ins.up(h:Ins p x0 y0 N N')(k:uC N a b):uC N' a b:=by
 induction k with
 |refl=>exact .refl _
 |@tail b c _ s ih=>
  by_cases e:b=x0/\c=y0
  . obtain⟨rfl,rfl⟩:=e
    exact .tail (.tail ih ((h.iff _ _).2 (.inr (.inl ⟨O,O⟩)))) ((h.iff _ _).2 (.inr (.inr ⟨O,O⟩)))
  exact .tail ih ((h.iff _ _).2 (.inl ⟨s,e⟩))
def Ins.down(h:Ins p x0 y0 N N')(d:a≠p)(k:uC N' a b):(b≠p/\uC N a b)\/(b=p/\uC N a x0):=by
 obtain⟨n1,n2⟩:=h.no _ _ h.was
 induction k with
 |refl=>exact .inl ⟨d,.refl _⟩
 |@tail b c _ s ih=>
  rcases (h.iff _ _).1 s with ⟨s,_⟩|⟨rfl,rfl⟩|⟨rfl,rfl⟩
  . rcases ih with ⟨_,ih⟩|⟨e,_⟩
    .exact .inl ⟨(h.no _ _ s).2,.tail ih s⟩
    exact Y0 e (h.no _ _ s).1
  . rcases ih with ⟨_,ih⟩|⟨e,_⟩
    .exact .inr ⟨O,ih⟩
    exact Y0 e n1
  rcases ih with ⟨e,_⟩|⟨_,ih⟩
  .exact Y0 O e
  exact .inl ⟨n2,.tail ih h.was⟩
def Ins.fan(h:Ins p x0 y0 N N'){z:P3}(c:z≠p)(k:Jj N a z):Jj N' a z:=
 ⟨h.up k.1,λy b=>by
  rcases (h.iff _ _).1 b with ⟨s,_⟩|⟨rfl,rfl⟩|⟨e,_⟩
  .exact k.2 _ s
  .exact k.2 _ h.was
  exact c e⟩
/-! ### A corner in another's place -/
def ren(q p x:P3):P3:=if x=q then p else x
def are:ren q p q=p:=Z9 rfl
def ag7{x:P3}(h:x≠q):ren q p x=x:=K0 h
def abI{x y:P3}(c:x≠p)(d:y≠p)(h:ren q p x=ren q p y):x=y:=by
 unfold ren at h;by_cases a:x=q<;>by_cases b:y=q
 .rw[a,b]
 .rw[Z9 a,K0 b] at h;exact Y0 h.symm d
 .rw[K0 a,Z9 b] at h;exact Y0 h c
 rwa [K0 a,K0 b] at h
structure Ren(q p:P3)(N N':P3->P3->Prop):Prop where
 no:∀x y,N x y->x≠p/\y≠p
 iff:∀x y,N' x y↔∃u v,N u v/\x=ren q p u/\y=ren q p v
def Ren.up(h:Ren q p N N')(k:uC N a b):uC N' (ren q p a) (ren q p b):=by
 induction k with
 |refl=>exact .refl _
 |tail _ s ih=>exact .tail ih ((h.iff _ _).2 ⟨_,_,s,rfl,rfl⟩)
def Ren.down(h:Ren q p N N')(f:a≠p)(k:uC N' (ren q p a) b):∃c,c≠p/\b=ren q p c/\uC N a c:=by
 induction k with
 |refl=>exact⟨a,f,rfl,.refl _⟩
 |tail _ s ih=>
  obtain⟨c,hc,rfl,r⟩:=ih;obtain⟨u,v,d,e,rfl⟩:=(h.iff _ _).1 s;obtain rfl:=abI hc (h.no _ _ d).1 e;exact⟨v,(h.no _ _ d).2,O,.tail r d⟩
def Ren.nopin(h:Ren q p N N')(b:pB N):pB N':=by
 rintro s ⟨y,g,d⟩ k l f;obtain⟨u,v,a,rfl,rfl⟩:=(h.iff _ _).1 g;obtain⟨n1,n2⟩:=h.no _ _ a;obtain⟨c,hc,e,r⟩:=h.down n2 d;obtain rfl:=abI n1 hc e;obtain⟨j,v2,i,rfl,rfl⟩:=(h.iff _ _).1 f;exact h.up (b _ ⟨_,a,r⟩ _ _ i)
def Ren.fan(h:Ren q p N N'){z:P3}(c:a≠q)(i:z≠q)(g:z≠p)(k:Jj N a z):Jj N' a z:=by
 have r:=h.up k.1;rw[ag7 c,ag7 i] at r;refine⟨r,λy f=>?_⟩;obtain⟨u,v,d,e,rfl⟩:=(h.iff _ _).1 f;by_cases b:u=q
 .rw[b,are] at e;exact g e
 rw[ag7 b] at e;exact k.2 _ (e▸d)
def afx(h:∀x y,N' x y↔N x y)(a:pB N):pB N':=by
 have:N'=N:=funext λx=>funext λy=>X2 (h x y);rwa [this]
def alV(h:∀x y,N' x y↔N x y){z:P3}(k:Jj N a z):Jj N' a z:=by
 have:N'=N:=funext λx=>funext λy=>X2 (h x y);rwa [this]
end
/-! ### The corners behind each other round a corner -/
def J(ts:List T3)(v x y:P3):Prop:=((v,x),y)∈kD ts
def Bz{ts:List T3}(b:(aR ts).Nodup){v:P3}:J ts v x y↔bD ts v x=H y:=by
 constructor
 . intro h
   obtain⟨z,a⟩:=Eu (show (v,x)∈aR ts by rw[<-mX];exact c_.2 ⟨_,h,O⟩);rw[a,wZ b h (tP a)]
 exact tP
def Ut{ts:List T3}(d:(aR ts).Nodup){v b:P3}:uC (J ts v) a b↔∃n,pP ts v n a=H b:=by
 constructor
 . intro h
   induction h with
   |refl=>exact⟨0,rfl⟩
   |tail _ s ih=>
    obtain⟨n,h⟩:=ih;exact⟨n+1,by rw[pQ,h,io];exact (Bz d).1 s⟩
 rintro⟨n,h⟩
 induction n generalizing b with
 |zero=>cases h;exact .refl _
 |succ n ih=>
  rw[pQ] at h;obtain⟨c,hc,h⟩:=je.1 h;exact .tail (ih hc) ((Bz d).2 h)
def arf{P:Nat->Prop}:∀n,P n->∃m,P m/\∀k,k<m->¬P k:=by
 intro n
 induction n using rk with
 |_ n ih=>
  intro h;by_cases k:∃m,m<n/\P m
  . obtain⟨m,a,b⟩:=k
    exact ih m a b
  exact⟨n,h,λm a b=>k ⟨m,a,b⟩⟩
def ady(ts:List T3)(v:P3):List P3:=((aR ts).filter λe=>decide (e.1=v)).map (·.2)
def Uu{ts:List T3}{v:P3}:x∈ady ts v↔(v,x)∈aR ts:=by
 unfold ady;rw[c_];constructor
 . rintro⟨e,a,rfl⟩
   obtain⟨h1,h2⟩:=di.1 a;rw[<-Y9 h2];exact h1
 exact λh=>⟨(v,x),di.2 ⟨h,Y5 O⟩,O⟩
def afy{ts:List T3}{v:P3}(f:(aR ts).Nodup):(ady ts v).Nodup:=by
 unfold ady;rw[rj,mb];refine (f.sublist List.filter_sublist).imp_of_mem λ{a b} c d g e=>g ?_;have h1:=Y9 (di.1 c).2;have h2:=Y9 (di.1 d).2;exact pv (h1.trans h2.symm) e
def alW:∀ts:List T3,(aR ts).map (·.1)=bP ts:=by
 intro ts;unfold aR bP;rw[List.map_flatMap];rfl
def adz(ts:List T3)(v:P3):(ady ts v).length=rF (bP ts) v:=by
 rw[<-alW];unfold ady rF;rw[eb,List.filter_map,eb];rfl
def full{S E:List P3}(c:S.Nodup)(f:∀x∈S,x∈E)(h:E.length<=S.length):∀x∈E,x∈S:=λx a=>by
 refine Decidable.byContradiction λd=>?_;have h1:S.length<=(E.erase x).length:=oC c λy b=>by
  have g:y≠x:=λe=>d (e▸b);exact (List.mem_erase_of_ne g).2 (f y b)
 rw[List.length_erase_of_mem a] at h1;have:0<E.length:=List.length_pos_of_mem a;omega
def afz{ts:List T3}{v b:P3}(h:pP ts v i a=H b):pP ts v (i+j) a=pP ts v j b:=by rw[Rl,h,io]
def asU{ts:List T3}{v:P3}(h1:1<=j)(h:pP ts v j s=H s):∀n,pP ts v n s=pP ts v (n%j) s:=λn=>by
 induction n using rk with
 |_ n ih=>
  rcases d_ n j with hl|hl
  .rw[kd hl]
  have e:n=j+(n-j):=by omega
  rw[e,afz h,ih (n-j) (by omega),Nat.add_mod_left]
def adA{ts:List T3}(c:(aR ts).Nodup){v s:P3}{j:Nat}(b:∀k,1<=k->k<j->pP ts v k s≠H s):∀(i k:Nat)(x:P3),i<k->k<j->pP ts v i s=H x->pP ts v k s≠H x
 |0,k,x,f,a,h,h2=>by cases h;exact b k (by omega) a h2
 |i+1,k,x,f,a,h,h2=>by
  obtain⟨m,rfl⟩:∃m,k=m+1:=⟨k-1,by omega⟩
  rw[pQ] at h h2;obtain⟨y,d,g⟩:=je.1 h;obtain⟨z,e,l⟩:=je.1 h2;obtain rfl:=Ue c g l;exact adA c b i m y (by omega) (by omega) d e
def ag8{ts:List T3}{v b:P3}(d:i<=j)(h:pP ts v j a=H b):∃y,pP ts v i a=H y:=by
 have e:j=i+(j-i):=by omega
 rw[e,Rl] at h;obtain⟨y,c,_⟩:=je.1 h;exact⟨y,c⟩
def aak{ts:List T3}(l:(aR ts).Nodup){v s:P3}{j:Nat}(h1:1<=j)(h:pP ts v j s=H s)(o:∀k,1<=k->k<j->pP ts v k s≠H s) :
 ∃L:List P3,L.Nodup/\L.length=j/\(∀x∈L,x∈ady ts v)/\∀x,x∈L↔uC (J ts v) s x:=by
 have get:∀i,i<=j->∃y,pP ts v i s=H y:=λi d=>ag8 d h;refine⟨(ii j).map λi=>(pP ts v i s).getD s,?_,by rw[eb,l_],λx g=>?_,λx=>?_⟩
 . rw[rj,mb]
   refine (List.pairwise_lt_range (n:=j)).imp_of_mem λ{a b} r m p e=>?_;have q:=ij.1 m;obtain⟨y,c⟩:=get a (by omega);obtain⟨z,f⟩:=get b (by omega);rw[c,f] at e;obtain rfl:y=z:=e;exact adA l o a b y p q c f
 . obtain⟨i,d,rfl⟩:=c_.1 g
   have t:=ij.1 d;obtain⟨y,c⟩:=get i (by omega);obtain⟨z,f⟩:=get (i+1) (by omega);rw[pQ,c,io] at f;rw[c];exact Uu.2 (uV f)
 rw[Ut l,c_]
 constructor
 . rintro⟨i,d,rfl⟩
   obtain⟨y,c⟩:=get i (by have:=ij.1 d;omega);exact⟨i,by rw[c];rfl⟩
 rintro⟨n,g⟩
 rw[asU h1 h] at g;exact⟨n%j,ij.2 (kj _ (by omega)),by rw[g];rfl⟩
def aal{ts:List T3}(c:(aR ts).Nodup):(¬∃e∈aR ts,∃j,1<=j/\j<rF (bP ts) e.1/\pP ts e.1 j e.2=H e.2)↔∀v,pB (J ts v):=by
 constructor
 . rintro E v s ⟨y,a,l⟩ x z m
   obtain⟨n,l⟩:=(Ut c).1 l;have B:pP ts v (1+n) s=H s:=by rw[afz (b:=y) (by rw[pP,(Bz c).1 a];rfl)];exact l
   obtain⟨j,⟨g,f⟩,h⟩:=arf (P:=λk=>1<=k/\pP ts v k s=H s) (1+n) ⟨by omega,B⟩;obtain⟨L,u,p,A,q⟩:=aak c g f (λk h1 h2 d=>h k h2 ⟨h1,d⟩);have C:rF (bP ts) v<=j:=by
    refine im λr=>E ⟨(v,s),uV ((Bz c).1 a),j,g,r,f⟩
   exact (q x).1 (full u A (by rw[p,adz];exact C) x (Uu.2 (uV ((Bz c).1 m))))
 rintro G ⟨⟨v,s⟩,K,o,h1,h2,d⟩
 simp only at h2 d;obtain⟨j,⟨g,f⟩,h⟩:=arf (P:=λk=>1<=k/\pP ts v k s=H s) o ⟨h1,d⟩;have M:j<=o:=im λr=>h o r ⟨h1,d⟩;obtain⟨L,u,p,A,q⟩:=aak c g f (λk h1 h2 d=>h k h2 ⟨h1,d⟩);have I:Cyc (J ts v) s:=by
  obtain⟨y,a⟩:=ag8 (i:=1) g f;have F:bD ts v s=H y:=by
   rw[pP] at a;cases t:bD ts v s with
   |none=>rw[t] at a;cases a
   |some w=>rw[t] at a;exact a
  refine⟨y,(Bz c).2 F,(Ut c).2 ⟨j-1,?_⟩⟩;have e:j=1+(j-1):=by omega
  rw[e,afz a] at f;exact f
 have D:(ady ts v).length<=L.length:=oC (afy c) λx m=>by
  obtain⟨y,a⟩:=Eu (Uu.1 m);exact (q x).2 (G v s I x y ((Bz c).2 a))
 rw[adz,p] at D;omega
def lJ{ts:List T3}:cD Z ts=0↔nE ts/\(aR ts).Nodup/\∀v,pB (J ts v):=by
 rw[aiW];constructor
 .rintro⟨h1,h2,a⟩;exact⟨h1,h2,(aal h2).1 a⟩
 rintro⟨h1,h2,a⟩;exact⟨h1,h2,(aal h2).2 a⟩
/-! ### Images -/
def vM{t:T3}:t.nd=Z↔t.a≠t.b/\t.b≠t.c/\t.c≠t.a:=by
 unfold T3.nd;simp only[bt,Y2,X4]
def alX{t:T3}:t.nd=X9↔t.a=t.b\/t.b=t.c\/t.c=t.a:=by
 cases h:t.nd with
 |true=>
  obtain⟨h1,h2,d⟩:=vM.1 h;exact⟨λk=>(by cases k),λk=>k.elim (λk=>Y0 k h1) λk=>k.elim (λk=>Y0 k h2) λk=>Y0 k d⟩
 |false=>
  refine⟨λ_=>?_,λ_=>rfl⟩;by_cases h1:t.a=t.b
  .exact .inl h1
  by_cases h2:t.b=t.c
  .exact .inr (.inl h2)
  refine .inr (.inr (Decidable.byContradiction λd=>?_))
  rw[vM.2 ⟨h1,h2,d⟩] at h;cases h
def apv{t:T3}(h:t.nd=X9):(t.mapP f).nd=X9:=by
 rw[alX] at h ⊢;unfold T3.mapP;rcases h with h|h|h
 .exact .inl (by simp only[h])
 .exact .inr (.inl (by simp only[h]))
 exact .inr (.inr (by simp only[h]))
def kY(t:T3):abF t (F t):=by
 unfold F;split
 .exact .inr (.inr O)
 split
 .exact .inr (.inl O)
 exact .inl O
def aiX{t u:T3}(f:P3->P3)(h:abF t u):abF (t.mapP f) (u.mapP f):=by
 rcases h with rfl|rfl|rfl
 .exact .inl O
 .exact .inr (.inl O)
 exact .inr (.inr O)
def hF(f:P3->P3)(t:T3):List T3:=if (t.mapP f).nd then [F (t.mapP f)] else []
def Aj(f:P3->P3)(us:List T3):List T3:=us.flatMap (hF f)
def ag9(ms:List Mv):∀us:List T3,sE ms us=Aj (mY ms) us
 | []=>rfl
 |t::us=>by
  have ih:=ag9 ms us;unfold sE Aj at ih ⊢;rw[cz,<-ih];show _=(if (t.img ms).nd then [F (t.img ms)] else [])++_
  cases h:(t.img ms).nd with
  |true=>rw[kf (p:=λt:T3=>(t.img ms).nd) h];rfl
  |false=>rw[jo (by simp[h])];rfl
def abJ{t u:T3}(h:abF t u):hF f u=hF f t:=by
 have k:=aiX f h;unfold hF;rw[abG k];cases a:(t.mapP f).nd with
 |true=>rw[adv k a]
 |false=>rfl
def apw(f g:P3->P3)(t:T3):hF (λx=>f (g x)) t=(hF g t).flatMap (hF f):=by
 have e:t.mapP (λx=>f (g x))=(t.mapP g).mapP f:=rfl;cases h:(t.mapP g).nd with
 |true=>
  have:hF g t=[F (t.mapP g)]:=Z9 h;rw[this,cz,lj,fz,abJ (kY _)];unfold hF;rw[e]
 |false=>
  have k:hF g t=[]:=K0 (by rw[h];exact fh);rw[k,lj];unfold hF;rw[e,apv h];rfl
def aam(f g:P3->P3):∀us:List T3,Aj (λx=>f (g x)) us=(Aj g us).flatMap (hF f)
 | []=>rfl
 |t::us=>by
  have ih:=aam f g us;unfold Aj at ih ⊢;rw[cz,cz,bi,ih,apw]
def Uv{g:P3->P3}{us:List T3}(h:∀x∈bP us,f x=g x):Aj f us=Aj g us:=by
 unfold Aj;have key:∀t∈us,hF f t=hF g t:=λt a=>by
  have e:t.mapP f=t.mapP g:=Jc (h _ (lI.2 ⟨t,a,.inl rfl⟩)) (h _ (lI.2 ⟨t,a,.inr (.inl rfl)⟩)) (h _ (lI.2 ⟨t,a,.inr (.inr rfl)⟩));unfold hF;rw[e]
 clear h
 induction us with
 |nil=>rfl
 |cons t us ih=>rw[cz,cz,key t (bq ..),ih λu b=>key u (br _ b)]
def apx{us:List T3}(a:nE us)(h:∀x∈bP us,f x=x):Aj f us=us.map F:=by
 rw[Uv (g:=λx=>x) h];clear h
 induction us with
 |nil=>rfl
 |cons t us ih=>
  have e:hF (λx=>x) t=[F t]:=by
   unfold hF;have:t.mapP (λx=>x)=t:=rfl;rw[this,nd_of (a t (bq ..))];rfl
  unfold Aj at ih ⊢;rw[cz,e,ih λu b=>a u (br _ b)];rfl
/-! ### What holds of both -/
def sG{ts:List T3}{t:T3}(a:t∈ts)(h:t.has x=Z):x∈bP ts:=lI.2 ⟨t,a,gK.1 h⟩
/-! ### One step -/
def K(p a x:P3):P3:=if x=p then a else x
def lR{p:P3}:K p a p=a:=Z9 rfl
def gD{p:P3}(h:x≠p):K p a x=x:=K0 h
section
variable{p a:P3}{X:E3->Prop}{old new R us us':List T3}
end
/-! ### The corners round a corner,in a step -/
def Jk{u:T3}{v:P3}:((v,x),y)∈alO u↔(v=u.a/\x=u.b/\y=u.c)\/(v=u.b/\x=u.c/\y=u.a)\/(v=u.c/\x=u.a/\y=u.b):=by
 simp only[alO,av,bw,Y3,fy,X4]
def adB{t u:T3}(h:abF t u){x:E3×P3}:x∈alO u↔x∈alO t:=by
 obtain⟨⟨v,w⟩,y⟩:=x;rw[Jk,Jk];rcases h with rfl|rfl|rfl
 .exact Iff.rfl
 .exact⟨λh=>h.elim (λh=>.inr (.inl h)) λh=>h.elim (λh=>.inr (.inr h)) .inl,λh=>h.elim (λh=>.inr (.inr h)) λh=>h.elim .inl λh=>.inr (.inl h)⟩
 exact⟨λh=>h.elim (λh=>.inr (.inr h)) λh=>h.elim .inl λh=>.inr (.inl h),λh=>h.elim (λh=>.inr (.inl h)) λh=>h.elim (λh=>.inr (.inr h)) .inl⟩
def apy{us vs:List T3}(h:us.Perm vs){v:P3}:J us v x y↔J vs v x y:=afw h
def Ca{us:List T3}{v:P3}(h:J us v x y):(v,x)∈aR us:=by rw[<-mX];exact c_.2 ⟨_,h,rfl⟩
def oY(t:T3):Bool:=decide (¬Rq (vV t.a t.b t.c)<3)
def xB(s t:T3):List P3:=[s.a,s.b,s.c].filter λp=>t.has p
def Cb(s t:T3):List P3:=[s.a,s.b,s.c].filter λp=>!t.has p
def abK(s t:T3):Bool:=kB s.a s.b t||kB s.b s.c t||kB s.c s.a t
def sgE(u v:P3):Bool:=decide (cA u.x=cA v.x/\cA u.y=cA v.y/\cA u.z=cA v.z)
def aha(s t:T3):List P3->List P3->List P3->Bool
 | [_],[u,x],[v,y]=>kB u x t||kB v y s
 | [a,b],[u],[v]=>decide (Ke a b u v=0)&&sgE (vV a b u) (vV a b v)
 |_,_,_=>Z
def aan(s t:T3):Bool:=
 if (xB s t).length=0\/oY s=Z\/oY t=Z then abK s t||abK t s else aha s t (xB s t) (Cb s t) (Cb t s)
def asV(s t:T3):xB s t=(if t.has s.a then [s.a] else [])++((if t.has s.b then [s.b] else [])++if t.has s.c then [s.c] else []):=by
 unfold xB;simp only[ft,np];cases t.has s.a<;>cases t.has s.b<;>cases t.has s.c<;>rfl
def asW(s t:T3):Cb s t=(if t.has s.a then [] else [s.a])++((if t.has s.b then [] else [s.b])++if t.has s.c then [] else [s.c]):=by
 unfold Cb;simp only[ft,np];cases t.has s.a<;>cases t.has s.b<;>cases t.has s.c<;>rfl
def aao{t:T3}(h:t.nd=Z):[t.a,t.b,t.c].Nodup:=by
 obtain⟨h1,h2,d⟩:=vM.1 h;simp only[gv,av,bw,Y3,not_or,not_false_eq_true,List.nodup_nil,Y8];exact⟨⟨h1,d.symm⟩,h2⟩
def alY{s t:T3}(a:s.nd=Z)(b:t.nd=Z):(xB s t).Perm (xB t s):=by
 refine (List.perm_ext_iff_of_nodup ((aao a).filter _) ((aao b).filter _)).2 λp=>?_;rw[di,di,gK,gK];simp only[av,bw,Y3];exact and_comm
def T3.Lt(s t:T3):Prop:=s.a.Lt t.a\/s.a=t.a/\(s.b.Lt t.b\/s.b=t.b/\s.c.Lt t.c)
variable{t:T3}{l:List T3}
instance (s t:T3):Decidable (s.Lt t):=by unfold T3.Lt;infer_instance
def T3.lt_irrefl(s:T3):¬s.Lt s:=λh=>by
 rcases h with h|⟨_,h|⟨_,h⟩⟩<;>exact P3.lt_irrefl _ h
def T3.lt_trans{s u:T3}(h:s.Lt t)(k:t.Lt u):s.Lt u:=by
 rcases h with h|⟨e,h|⟨f,h⟩⟩<;>rcases k with k|⟨a,k|⟨f2,k⟩⟩
 .exact .inl (P3.lt_trans h k)
 .exact .inl (a▸h)
 .exact .inl (a▸h)
 .exact .inl (e▸k)
 .exact .inr ⟨e.trans a,.inl (P3.lt_trans h k)⟩
 .exact .inr ⟨e.trans a,.inl (f2▸h)⟩
 .exact .inl (e▸k)
 .exact .inr ⟨e.trans a,.inl (f▸k)⟩
 exact .inr ⟨e.trans a,.inr ⟨f.trans f2,P3.lt_trans h k⟩⟩
def T3.lt_tri(s t:T3):s.Lt t\/s=t\/t.Lt s:=by
 rcases Go.Lith.lt_tri s.a t.a with h|h|h
 .exact .inl (.inl h)
 . rcases Go.Lith.lt_tri s.b t.b with k|k|k
   .exact .inl (.inr ⟨h,.inl k⟩)
   . rcases Go.Lith.lt_tri s.c t.c with l|l|l
     .exact .inl (.inr ⟨h,.inr ⟨k,l⟩⟩)
     .exact .inr (.inl (Jc h k l))
     exact .inr (.inr (.inr ⟨h.symm,.inr ⟨k.symm,l⟩⟩))
   exact .inr (.inr (.inr ⟨h.symm,.inl k⟩))
 exact .inr (.inr (.inl h))
def De(s t:T3):Prop:=¬t.Lt s
def adC{s u:T3}(h:De s t)(k:De t u):De s u:=λl=>by
 rcases T3.lt_tri s t with e|e|e
 .exact k (T3.lt_trans l e)
 .exact k (e▸l)
 exact h e
def afA{s:T3}(h:De s t)(k:De t s):s=t:=by
 rcases T3.lt_tri s t with e|e|e
 .exact Y0 e k
 .exact e
 exact Y0 e h
def aiY(t:T3):List T3->List T3
 | []=>[t]
 |u::l=>if u.Lt t then u::aiY t l else t::u::l
def ahb:List T3->List T3
 | []=>[]
 |t::l=>aiY t (ahb l)
def dM(l:List T3):List T3:=ahb (l.map F)
def Uw(t:T3):∀l:List T3,(aiY t l).Perm (t::l)
 | []=>.refl _
 |u::l=>by
  rw[aiY];split
  .exact ((Uw t l).cons u).trans (.swap ..)
  exact .refl _
def aap:∀l:List T3,(ahb l).Perm l
 | []=>.refl _
 |t::l=>(Uw t _).trans ((aap l).cons t)
def Ux(t:T3):∀l:List T3,l.Pairwise De->(aiY t l).Pairwise De
 | [],_=>ke _ _
 |u::l,h=>by
  rw[aiY];obtain⟨h1,h2⟩:=b_.1 h;split
  . rename_i k
    refine b_.2 ⟨λx hx=>?_,Ux t l h2⟩;rcases av.1 ((Uw t l).subset hx) with rfl|hx
    .exact λa=>T3.lt_irrefl _ (T3.lt_trans k a)
    exact h1 x hx
  rename_i k
  refine b_.2 ⟨λx hx=>?_,h⟩;rcases av.1 hx with rfl|hx
  .exact k
  exact adC k (h1 x hx)
def Qd:∀l:List T3,(ahb l).Pairwise De
 | []=>ma
 |t::l=>Ux t _ (Qd l)
def Qe:∀{l m:List T3},l.Perm m->l.Pairwise De->m.Pairwise De->l=m
 | [],m,h,_,_=>h.symm.eq_nil.symm
 |s::l,[],h,_,_=>by have:=h.length_eq;simp at this
 |s::l,t::m,h,h1,h2=>by
  obtain⟨a,b⟩:=b_.1 h1;obtain⟨c,d⟩:=b_.1 h2;have e:s=t:=by
   have hs:s∈t::m:=h.subset (bq ..);have ht:t∈s::l:=h.symm.subset (bq ..);rcases av.1 hs with e|hs
   .exact e
   rcases av.1 ht with e|ht
   .exact e.symm
   exact afA (a t ht) (c s hs)
  subst e;rw[Qe ((List.perm_cons s).1 h) b d]
def oG(l:List T3):(dM l).Perm (l.map F):=aap _
def abL(l:List T3):(dM l).Pairwise De:=Qd _
def alZ{m:List T3}(h:m.Perm (l.map F))(a:m.Pairwise De):m=dM l:=Qe (h.trans (oG l).symm) a (abL l)
def pT(u v:P3)(t:T3):T3:=t.mapP (K u v)
def vN(u v:P3)(l:List T3):List T3:=(l.map (pT u v)).filter T3.nd
def gF(l:List T3)(u v:P3):List T3:=dM (vN u v l)
def nL(u v:P3)(l:List T3):List T3:=l.filter λt=>!decide (pT u v t=t)&&(pT u v t).nd
def nM(u v:P3)(l:List T3):List T3:=(nL u v l).map (pT u v)
def sS(u v:P3)(l:List T3):List T3:=l.filter λt=>decide (pT u v t=t)
def Oa(l:List T3)(p q:P3):Bool:=decide (q≠p)&&iE l p q
def nbL(l:List T3)(p:P3):List P3:=(cR l).filter (Oa l p)
def aiZ(p:P3):List P3->List P3
 | []=>[p]
 |q::l=>if q.Lt p then q::aiZ p l else p::q::l
def Ak:List P3->List P3
 | []=>[]
 |p::l=>aiZ p (Ak l)
def Uy(t:T3):List P3:=Ak [t.a,t.b,t.c]
def Jl(t:T3)(k:Nat):Int:=min (min (qR t.a k) (qR t.b k)) (qR t.c k)
def Jm(t:T3)(k:Nat):Int:=max (max (qR t.a k) (qR t.b k)) (qR t.c k)
def ai0(s t:T3)(k:Nat):Bool:=decide (Jm s k<Jl t k)||decide (Jm t k<Jl s k)
def Qf(s t:T3):Bool:=!ai0 s t 0 && !ai0 s t 1 && !ai0 s t 2
def yA(t s:T3):Bool:=Qf t s&&aan s t
def al0(s t:T3):Int:=cA ((vV s.a s.b s.c).dot (vV t.a t.b t.c))
def wF(l:List T3)(u v:P3):Bool:=Oa l u v && !uW (Y l) u
def Ha(l:List T3)(u v:P3):Bool:=decide (((nbL l u).filter (Oa l v)).length=2)
def Rr(l:List T3)(u v:P3):Bool:=decide (((nM u v l++sS u v l).map Uy).Nodup)
def Jn(l:List T3)(u v:P3):Bool:=!uW (Y l) v||(nbL l u).all λp=>decide (p=v) || !uW (Y l) p||Oa l v p
def Ez(l:List T3)(u v:P3):Bool:=(nL u v l).all λt=>!oY (pT u v t)&&decide (al0 t (pT u v t)=1)
def abM(l:List T3)(u v:P3):Bool:=(nM u v l).zipIdx.all λx=>!(sS u v l).any (yA x.1) && !((nM u v l).take x.2).any (yA x.1)
def dZ(l:List T3)(u v:P3):Bool:=wF l u v&&Ha l u v&&Rr l u v&&Jn l u v&&Ez l u v&&abM l u v
def Fa{p:P3}:Oa l p q=Z↔q≠p/\iE l p q=Z:=by
 unfold Oa;rw[bt,Y2]
def Cc{p:P3}:q∈nbL l p↔Oa l p q=Z:=by
 unfold nbL;rw[di,mN];refine⟨λh=>h.2,λh=>⟨?_,h⟩⟩;obtain⟨t,b,_,a⟩:=kM.1 (Fa.1 h).2;exact sG b a
theorem asX{v:P3}(c:u≠v)(a:t.nd=Z):(pT u v t).nd=Z↔¬(t.has u=Z/\t.has v=Z):=by
 obtain⟨h1,h2,b⟩:=vM.1 a;rw[vM,gK,gK];unfold pT T3.mapP K;simp only
 grind
def ahd{v:P3}(l:List T3):∀t∈vN u v l,t.nd=Z:=λt h=>(di.1 h).2
def asY(t:T3):(F t).nd=t.nd:=(abG (kY t))
def al3(h:∀t∈l,t.nd=Z):∀t∈dM l,t.nd=Z:=λt b=>by
 obtain⟨s,a,rfl⟩:=c_.1 ((oG l).mem_iff.1 b);rw[asY];exact h s a
def al4(l:List T3)(u v:P3):∀t∈gF l u v,t.nd=Z:=al3 (ahd l)
def tS(l:List T3):(dM l).length=l.length:=by rw[(oG l).length_eq,eb]
theorem al5{v:P3}(h:wF l u v=Z):(gF l u v).length<l.length:=by
 have b:=(Bool.and_eq_true_iff.1 h).1;obtain⟨f,a⟩:=Fa.1 b;obtain⟨t,e,h1,h2⟩:=kM.1 a;unfold gF;rw[tS];unfold vN;have d:(pT u v t).nd=X9:=by
  rw[alX];rw[gK] at h1 h2;unfold pT T3.mapP K;simp only
  grind
 have c:pT u v t∈l.map (pT u v):=List.mem_map_of_mem e;have:=List.length_filter_lt_length_iff_exists (p:=T3.nd) (l:=l.map (pT u v)) |>.2 ⟨_,c,by rw[d];exact fh⟩
 rwa [eb] at this
def ahe(u v:P3)(l:List T3):(vN u v l).length<=l.length:=by
 have:=List.length_filter_le T3.nd (l.map (pT u v));rwa [eb] at this
def Hm(a b:List Int):List Int:=List.zipWith (· + ·) a b
def q0:List Int:=[0,0,0,0,0,0,0,0,0,0]
def qPr(a b c d:Int):List Int:=[a*a,2*(a*b),2*(a*c),2*(a*d),b*b,2*(b*c),2*(b*d),c*c,2*(c*d),d*d]
def qOf(t:T3):List Int:=qPr (vV t.a t.b t.c).x (vV t.a t.b t.c).y (vV t.a t.b t.c).z (-((vV t.a t.b t.c).dot t.a))
def avG(q:List Int)(x y z:Int):Int:=match q with
 | [a,b,c,d,e,f,g,h,i,j]=>a*(x*x)+b*(x*y)+c*(x*z)+d*x+e*(y*y)+f*(y*z)+g*y+h*(z*z)+i*z+j
 |_=>0
def qAt(q:List Int)(p:P3):Int:=avG q p.x p.y p.z
def xN(l:List T3)(p:P3):List Int:=(l.filter λt=>t.has p).foldl (λs t=>Hm s (qOf t)) q0
structure mP where
 u:P3
 v:P3
 c:Int
def mP.Lt(a b:mP):Prop:=a.c<b.c\/a.c=b.c/\(a.u.Lt b.u\/a.u=b.u/\a.v.Lt b.v)
variable{c:mP}
instance (a b:mP):Decidable (a.Lt b):=by unfold mP.Lt;infer_instance
def mP.ext' {a b:mP}(h1:a.u=b.u)(h2:a.v=b.v)(d:a.c=b.c):a=b:=by
 obtain⟨u,v,c⟩:=a;obtain⟨f,v',e⟩:=b;simp only at h1 h2 d;rw[h1,h2,d]
def mP.lt_irrefl(a:mP):¬a.Lt a:=λh=>by
 rcases h with h|⟨_,h|⟨_,h⟩⟩
 .omega
 .exact P3.lt_irrefl _ h
 exact P3.lt_irrefl _ h
def mP.lt_trans{a b:mP}(h:a.Lt b)(k:b.Lt c):a.Lt c:=by
 rcases h with h|⟨e,h|⟨f,h⟩⟩<;>rcases k with k|⟨d,k|⟨f2,k⟩⟩
 .exact .inl (by omega)
 .exact .inl (by omega)
 .exact .inl (by omega)
 .exact .inl (by omega)
 .exact .inr ⟨e.trans d,.inl (P3.lt_trans h k)⟩
 .exact .inr ⟨e.trans d,.inl (f2▸h)⟩
 .exact .inl (by omega)
 .exact .inr ⟨e.trans d,.inl (f▸k)⟩
 exact .inr ⟨e.trans d,.inr ⟨f.trans f2,P3.lt_trans h k⟩⟩
def mP.lt_tri(a b:mP):a.Lt b\/a=b\/b.Lt a:=by
 rcases Int.lt_trichotomy a.c b.c with h|h|h
 .exact .inl (.inl h)
 . rcases Go.Lith.lt_tri a.u b.u with k|k|k
   .exact .inl (.inr ⟨h,.inl k⟩)
   . rcases Go.Lith.lt_tri a.v b.v with l|l|l
     .exact .inl (.inr ⟨h,.inr ⟨k,l⟩⟩)
     .exact .inr (.inl (mP.ext' k l h))
     exact .inr (.inr (.inr ⟨h.symm,.inr ⟨k.symm,l⟩⟩))
   exact .inr (.inr (.inr ⟨h.symm,.inl k⟩))
 exact .inr (.inr (.inl h))
def Yj:List mP->Option mP
 | []=>G0
 |c::cs=>match Yj cs with
  |none=>H c
  |some d=>if d.Lt c then H d else H c
def Oc:∀{cs:List mP},Yj cs=G0↔cs=[]
 | []=>⟨λ_=>rfl,λ_=>rfl⟩
 |c::cs=>by
  unfold Yj;constructor
  . intro h
    cases a:Yj cs with
    |none=>rw[a] at h;cases h
    |some d=>rw[a] at h;simp only at h;split at h<;>cases h
  intro h;cases h
def Od:∀{cs:List mP}{c:mP},Yj cs=H c->c∈cs/\∀d∈cs,¬d.Lt c
 | [],c,h=>by cases h
 |a::cs,c,h=>by
  unfold Yj at h;cases f:Yj cs with
  |none=>
   rw[f] at h;cases h;rw[Oc.1 f];exact⟨List.mem_singleton_self _,λd g=>by rw[bp.1 g];exact mP.lt_irrefl _⟩
  |some d=>
   rw[f] at h;simp only at h;obtain⟨h1,h2⟩:=Od f;split at h
   . rename_i k
     cases h;refine⟨br _ h1,λe he=>?_⟩;rcases av.1 he with rfl|he
     .exact λb=>mP.lt_irrefl _ (mP.lt_trans k b)
     exact h2 e he
   rename_i k
   cases h;refine⟨bq ..,λe he b=>?_⟩;rcases av.1 he with rfl|he
   .exact mP.lt_irrefl _ b
   rcases mP.lt_tri d e with k3|k3|k3
   .exact k (mP.lt_trans k3 b)
   .exact k (k3▸b)
   exact h2 e he k3
def apA{cs:List mP}(hc:c∈cs)(h:∀d∈cs,¬d.Lt c):Yj cs=H c:=by
 cases a:Yj cs with
 |none=>rw[Oc.1 a] at hc;cases hc
 |some d=>
  obtain⟨h1,h2⟩:=Od a;rcases mP.lt_tri c d with k|k|k
  .exact Y0 k (h2 c hc)
  .rw[k]
  exact Y0 k (h d h1)
def vW(q:P3->List Int)(u v:P3):Int:=qAt (Hm (q u) (q v)) v
def asZ(l:List T3)(q:P3->List Int)(u:P3):List mP:=if uW (Y l) u then [] else (nbL l u).map λv=>⟨u,v,vW q u v⟩
def afB(l:List T3)(q:P3->List Int):List mP:=(cR l).flatMap (asZ l q)
def Df(l:List T3)(q:P3->List Int):Option mP:=Yj ((afB l q).filter λc=>dZ l c.u c.v)
def abN(q:P3->List Int)(u v:P3)(p:P3):List Int:=if p=v then Hm (q u) (q v) else q p
def toF(D:List Mv)(u v:P3):List Mv:=fL (D.map λe=>(e.1,K u v e.2)) u v
def oH:Nat->Int->List T3->(P3->List Int)->List Mv->List T3×List Mv
 |0,_,l,_,D=>(l,D)
 |n+1,want,l,q,D=>if (l.length:Int)<=want then (l,D) else match Df l q with
  |none=>(l,D)
  |some c=>oH n want (gF l c.u c.v) (abN q c.u c.v) (toF D c.u c.v)
def kU(D:List Mv):List Mv:=(Ak (D.map (·.1))).map λk=>(k,(bS D k).getD k)
def nG(l:List T3)(want:Int):List T3×List Mv:=
 if cD Z (dM l)≠0 then (dM l,[]) else
 ((oH (dM l).length want (dM l) (xN (dM l)) []).1,kU (oH (dM l).length want (dM l) (xN (dM l)) []).2)
def ahf{q:P3->List Int}  : c∈afB l q↔uW (Y l) c.u=X9/\Oa l c.u c.v=Z/\c.c=vW q c.u c.v:=by
 unfold afB;rw[dj];constructor
 . rintro⟨u,a,hc⟩
   unfold asZ at hc;split at hc
   .cases hc
   rename_i d
   obtain⟨v,f,rfl⟩:=c_.1 hc;exact⟨by simpa using d,Cc.1 f,O⟩
 rintro⟨h1,h2,b⟩
 obtain⟨t,e,a,_⟩:=kM.1 (Fa.1 h2).2;refine⟨c.u,mN.2 (sG e a),?_⟩;unfold asZ;rw[K0 (by rw[h1];exact fh)];exact c_.2 ⟨c.v,Cc.2 h2,mP.ext' O O b.symm⟩
def Uz{v:P3}(h:dZ l u v=Z):wF l u v=Z:=by
 unfold dZ at h;simp only[bt] at h;exact h.1.1.1.1.1
def Oe{q:P3->List Int}(h:Df l q=H c):c∈afB l q/\dZ l c.u c.v=Z:=by
 have:=(Od h).1;exact di.1 this
def An{q:P3->List Int}(h:Df l q=H c):(gF l c.u c.v).length<l.length:=al5 (Uz (Oe h).2)
def aaq:∀(n m:Nat)(want:Int)(l:List T3)(q:P3->List Int)(D:List Mv),l.length<=n->l.length<=m->0<=want->oH n want l q D=oH m want l q D
 |0,0,_,_,_,_,_,_,_=>rfl
 |0,m+1,want,l,q,D,h1,h2,a=>by
  have:l.length=0:=by omega
  unfold oH;rw[Z9 (by omega)]
 |n+1,0,want,l,q,D,h1,h2,a=>by
  have:l.length=0:=by omega
  unfold oH;rw[Z9 (by omega)]
 |n+1,m+1,want,l,q,D,h1,h2,a=>by
  unfold oH;split
  .rfl
  cases b:Df l q with
  |none=>rfl
  |some c=>
   have:=An b;exact aaq n m want _ _ _ (by omega) (by omega) a
def al6{want:Int}{q:P3->List Int}{D:List Mv}(h:(l.length:Int)<=want):oH n want l q D=(l,D):=by
 cases n with
 |zero=>rfl
 |succ n=>unfold oH;rw[Z9 h]
def wC(n:Int):List ak:=[.bool (fF n),.string (iR n)]
def qC(L:List Int):List ak:=L.flatMap wC
def qV(L:List Int):ak:=.agg (qC L).toArray
def wC2(n:Int):(wC n).length=2:=rfl
def Fb(L:List Int):(qC L).length=L.length*2:=kE wC2 ..
def Fc{g:Nat}{T:bh}{x:Int}(h:fK w g (qC L) T)(b:L[k]? = H x):jS w ⟨g,k*2,G0⟩ (wC x):=by
 have h2:=h.row (k*2);rw[qC,Th wC2 b] at h2;exact λj u a=>h2 j u (by rw[fk (az.1 a).1];exact a)
def abO{x:Int}(h:k<L.length):bR (qC L) (k*2) (wC x)=qC (L.set k x):=by
 unfold bR qC;rw[show k*2+(wC x).length=(k+1)*2 by rw[wC2];omega,<-Tg wC2,<-Bn wC2,List.set_eq_take_append_cons_drop,Z9 h,bi,cz,dm]
def as0(L:List Int):∀u∈qC L,u.oneCell'=Z:=λu a=>by
 obtain⟨x,_,h⟩:=dj.1 a;simp only[wC,av,bw,Y3] at h;rcases h with rfl|rfl<;>rfl
def Jo(k:Nat)(L:List Int):Prop:=∀x∈L,Bd k x
def Jo.mono(h:Jo k L)(a:k<=m):Jo m L:=λx b=>(h x b).mono a
def Jo.at{x:Int}(h:Jo k L)(a:L[i]? = H x):Bd k x:=h x (bn a)
def mG{a b:List Int}(c:a.length=10)(d:b.length=10):(Hm a b).length=10:=by unfold Hm;rw[List.length_zipWith,c,d];rfl
def Rs{a b:List Int}(e:Jo k a)(f:Jo k b):Jo (k+1) (Hm a b):=λx d=>by
 unfold Hm at d;obtain⟨i,c⟩:=fp.1 d;rw[List.getElem?_zipWith] at c;cases h1:a[i]? with
 |none=>simp[h1] at c
 |some y=>
  cases h2:b[i]? with
  |none=>simp[h1,h2] at c
  |some z=>
   simp[h1,h2] at c;subst c;exact ((e.at h1).add (f.at h2)).mono (by omega)
section
variable{P:cg}{ds:List eh}{l:List ak}{x y:cw}{T ty:bh}{ops:Array Oper}{Q:Exit->Act->an->Prop}{rest:List Oper}{pos:String}{after:Array Edge}{w w0:an}{is:List It}
def adD{cs us:List ak}(h:us.length=cs.length):bR cs 0 us=us:=by unfold bR;rw[List.take_zero,cl,aj,gw (by omega),fz]
def Hb{g n:Nat}{cs:List ak}{L:List Int}{t:bh}(m:Mem w0 w is)(k:Nat)(d:is[k]? = H (bI g cs t))(f:ev l x=.pointer (H ⟨g,0,G0⟩))(e:ev l y=qV L)(a:L.length*2=n)(c:cs.length=n)(hc:dW P T n)
 (h:∀u,Mem w0 u (is.set k (bI g (qC L) t))->bf P ops Q rest (Fr l ds) u):bf P ops Q (ci G0 (.store T x y) ty pos after G0::rest) (Fr l ds) w:=
 cB (us:=qC L) m k d f e (by rw[Fb,a];exact hc) (by rw[Fb,a,c,aj];exact ba _) (ej.2 (as0 L)) λu b=>h u (by rw[adD (by rw[Fb,a,c])] at b;exact b)
def yR{g:Nat}{L:List Int}{t:bh}(h:fK w g (qC L) t)(a:fM P T Z)(hc:dW P T n)(b:L.length*2=n):lC P w T ⟨g,0,G0⟩ (qV L):=h.full a (by rw[Fb,b];exact hc)
def apB{a:Addr}(h:lC P w T a (.agg #[.bool X9,.string ⟨#[]⟩])):lC P w T a (W 0):=by rw[aa1];exact h
end
def qP(a b:List Int)(k:Nat):List Int:=(Hm a b).take k++a.drop k
def as1{a b:List Int}(c:a.length=10)(d:b.length=10):qP a b 10=Hm a b:=by
 unfold qP;rw[a_ (by rw[mG c d];exact ba _),gw (by omega),fz]
def al7{a b:List Int}(c:a.length=10)(d:b.length=10)(e:k<=10):(qP a b k).length=10:=by
 unfold qP;rw[bg,bz,ix,mG c d,c];omega
def avI{a b:List Int}(c:a.length=10)(d:b.length=10){x:Int}(f:k<10)(e:a[k]? = H x):(qP a b k)[k]? = H x:=by
 unfold qP;rw[gj (by rw[bz];omega),bz,mG c d,Nat.min_eq_left (by omega),ph,fa,jk];exact e
def as2{a b:List Int}(c:a.length=10)(d:b.length=10){x y:Int}(g:k<10)(e:a[k]? = H x)(f:b[k]? = H y):(qP a b k).set k (x+y)=qP a b (k+1):=by
 have h1:(Hm a b)[k]? = H (x+y):=by unfold Hm;rw[List.getElem?_zipWith,e,f]
 have h2:((Hm a b).take k).length=k:=by rw[bz,mG c d];omega
 unfold qP;rw[qd,h1,List.set_append_right _ _ (by rw[h2];exact ba _),h2,ph,Option.toList,dm]
 congr 1
 rw[dw (by omega:k<a.length)];rfl
/-! ### The pairs,in order -/
def eI(n:Nat):Nat:=[0,0,0,0,1,1,1,2,2,3].getD n 0
def eJ(n:Nat):Nat:=[0,1,2,3,1,2,3,2,3,3].getD n 0
def abP{Q:Nat->Prop}(i:n<10)(a:Q 0)(h1:Q 1)(h2:Q 2)(b:Q 3)(c:Q 4)(d:Q 5)(e:Q 6)(f:Q 7)(g:Q 8)(h:Q 9):Q n:=by
 rcases n with _|_|_|_|_|_|_|_|_|_|n
 all_goals first|assumption|omega
def al8(a:n<10):eI n<4:=abP (Q:=λn=>eI n<4) a (by decide) (by decide) (by decide) (by decide) (by decide) (by decide) (by decide) (by decide) (by decide) (by decide)
def al9(a:n<10):eJ n<4:=abP (Q:=λn=>eJ n<4) a (by decide) (by decide) (by decide) (by decide) (by decide) (by decide) (by decide) (by decide) (by decide) (by decide)
def pr1(p:List Int)(n:Nat):Int:=p.getD (eI n) 0*p.getD (eJ n) 0
def qF(a b c d:Int)(n:Nat):List Int:=(qPr a b c d).take n++bx (10-n) 0
def as3(a b c d:Int)(e:n<=10):(qF a b c d n).length=10:=by
 unfold qF;rw[bg,bz,nh,show (qPr a b c d).length=10 from rfl];omega
def ama{a b c d:Int}(e:n<10):((qF a b c d n).set n (pr1 [a,b,c,d] n)).set n (if eI n=eJ n then pr1 [a,b,c,d] n else pr1 [a,b,c,d] n*2)=qF a b c d (n+1):=by
 rw[ri];refine abP (Q:=λn=>(qF a b c d n).set n (if eI n=eJ n then pr1 [a,b,c,d] n else pr1 [a,b,c,d] n*2)=qF a b c d (n+1)) e ?_ ?_ ?_ ?_ ?_ ?_ ?_ ?_ ?_ ?_
 all_goals simp[qF,qPr,pr1,eI,eJ,Int.mul_comm]
def avJ(a b c d:Int):qF a b c d 10=qPr a b c d:=by unfold qF qPr;rfl
def arh(a b c d:Int)(e:i<4):[a,b,c,d][i]? = H ([a,b,c,d].getD i 0):=by
 rcases i with _|_|_|_|i
 all_goals first|rfl|omega
def avK{a b c d:Int}(h:Jo k [a,b,c,d]):Jo (k+k+2) (qPr a b c d):=λx i=>by
 have e:=h a (by simp);have f:=h b (by simp);have hc:=h c (by simp);have g:=h d (by simp);have two:∀{x:Int},Bd (k+k) x->Bd (k+k+2) (2*x):=λ{x} i=>by
  have h2:Bd 2 (2:Int):=by unfold Bd;decide
  rw[Nat.add_comm];exact h2.mul i
 simp only[qPr,av,bw,Y3] at i;rcases i with rfl|rfl|rfl|rfl|rfl|rfl|rfl|rfl|rfl|rfl
 .exact (e.mul e).mono (by omega)
 .exact two (e.mul f)
 .exact two (e.mul hc)
 .exact two (e.mul g)
 .exact (f.mul f).mono (by omega)
 .exact two (f.mul hc)
 .exact two (f.mul g)
 .exact (hc.mul hc).mono (by omega)
 .exact two (hc.mul g)
 exact (g.mul g).mono (by omega)
/-! ### A quadric's value -/
def atS(q x:List Int):Nat->Int
 |0=>0
 |n+1=>atS q x n+q.getD n 0*pr1 x n
def abQ{q:List Int}(b:q.length=10)(a:n<10):q[n]? = H (q.getD n 0):=by
 rw[ir,ap (by omega)];rfl
theorem amb{q:List Int}(l:q.length=10)(p:P3):atS q [p.x,p.y,p.z,1] 10=qAt q p:=by
 rcases q with _|⟨a,_|⟨b,_|⟨c,_|⟨d,_|⟨e,_|⟨f,_|⟨g,_|⟨h,_|⟨i,_|⟨j,_|⟨k,q⟩⟩⟩⟩⟩⟩⟩⟩⟩⟩⟩<;>simp only[be,cd] at l<;>try omega
 simp only[atS,pr1,eI,eJ,qAt,avG,List.getD_cons_zero,List.getD_cons_succ,List.getD_nil]
 grind
def afC{p:List Int}(h:Jo k p)(c:p.length=4)(a:n<10):Bd (k+k) (pr1 p n):=by
 have key:∀i,i<4->Bd k (p.getD i 0):=λi b=>by
  rw[ir,ap (by omega:i<p.length)];exact h _ (fl _)
 exact (key _ (al8 a)).mul (key _ (al9 a))
def afD{k m:Nat}{q p:List Int}(c:Jo k q)(a:q.length=10)(b:Jo m p)(d:p.length=4):∀n,n<=10->Bd (k+m+m+n) (atS q p n)
 |0,_=>Ra _
 |n+1,e=>by
  have h1:=afD c a b d n (by omega);have h2:=(c.at (abQ a (by omega:n<10))).mul (afC b d (by omega:n<10));exact (h1.add (h2.mono (by omega:k+(m+m)<=k+m+m+n))).mono (by omega)
def bd4{p:P3}(h:I3 p):Jo 64 [p.x,p.y,p.z,1]:=λx a=>by
 simp only[av,bw,Y3] at a;rcases a with rfl|rfl|rfl|rfl
 .exact h.x.bd
 .exact h.y.bd
 .exact h.z.bd
 unfold Bd;decide
def avL:∀{o:Oper}{ops:List Oper}{j:Nat}{f:Nat->Prop},dsT (o::ops) (j+1) f=dsT ops j f
 |⟨G0,_,_,_,_,_⟩,_,_,_=>rfl
 |⟨H _,_,_,_,_,_⟩,_,_,_=>rfl
def U:(∀P R w0 ds q s l is,V P R w0 ds G0 0 [] q s l is=(q/\∀w,Mem w0 w is->Ct P R s .normal (Fz l ds) w))
 /\ (∀P R w0 ds B q s l is,V P R w0 ds (H (X9,B)) 0 [] q s l is=(q/\∀w,Mem w0 w is->eQ B w->Ct P R s .normal (Fz l ds) w))/\(∀P R w0 ds B q s l is,V P R w0 ds (H (Z,B)) 0 [] q s l is=(q/\Ct P R s .normal (Fz l ds) B))
 /\ (∀P R w0 ds k h q l is,V P R w0 ds G0 0 (k::h) q [] l is=(q/\∀w,Mem w0 w is->R .normal (Fz l ds) w))
 /\ (∀P R w0 ds B k h q l is,V P R w0 ds (H (X9,B)) 0 (k::h) q [] l is=(q/\∀w,Mem w0 w is->eQ B w->R .normal (Fz l ds) w))/\(∀P R w0 ds B k h q l is,V P R w0 ds (H (Z,B)) 0 (k::h) q [] l is=(q/\R .normal (Fz l ds) B))
 /\ (∀P R w0 ds k h q c s l is,V P R w0 ds G0 0 (k::h) q (.c c::s) l is=(q/\∀w,Mem w0 w is->c.wp P (Ct P R s) (Fz l ds) w))
 /\ (∀P R w0 ds B k h q c s l is,V P R w0 ds (H (X9,B)) 0 (k::h) q (.c c::s) l is=(q/\∀w,Mem w0 w is->eQ B w->c.wp P (Ct P R s) (Fz l ds) w))/\(∀P R w0 ds B k h q c s l is,V P R w0 ds (H (Z,B)) 0 (k::h) q (.c c::s) l is=(q/\c.wp P (Ct P R s) (Fz l ds) B))
 /\ (∀P R w0 ds k h q ops rest s l is,V P R w0 ds G0 0 (k::h) q (.o ops rest::s) l is=(q/\∀w,Mem w0 w is->bf P ops (Ct P R s) rest (Fz l ds) w))
 /\ (∀P R w0 ds B k h q ops rest s l is,V P R w0 ds (H (X9,B)) 0 (k::h) q (.o ops rest::s) l is=(q/\∀w,Mem w0 w is->eQ B w->bf P ops (Ct P R s) rest (Fz l ds) w))/\(∀P R w0 ds B k h q ops rest s l is,V P R w0 ds (H (Z,B)) 0 (k::h) q (.o ops rest::s) l is=(q/\bf P ops (Ct P R s) rest (Fz l ds) B))
 /\ (∀P R w0 ds k h q K s l is,V P R w0 ds G0 0 (k::h) q (.k K::s) l is=(q/\∀w,Mem w0 w is->K (Fz l ds) w))
 /\ (∀P R w0 ds B k h q K s l is,V P R w0 ds (H (X9,B)) 0 (k::h) q (.k K::s) l is=(q/\∀w,Mem w0 w is->eQ B w->K (Fz l ds) w))/\(∀P R w0 ds B k h q K s l is,V P R w0 ds (H (Z,B)) 0 (k::h) q (.k K::s) l is=(q/\K (Fz l ds) B))
 /\ (∀P R w0 ds os n h q i s l is,V P R w0 ds os (n+1) h q (.b i::s) l is=V P R w0 ds os n h q s l is)
 /\ (∀P R w0 ds os n h q ops s l is,V P R w0 ds os (n+1) h q (.o ops []::s) l is=V P R w0 ds os n h q s l is)
 /\ (∀P R w0 ds os n h q ops d op ty pos D g rest s l is,V P R w0 ds os (n+1) h q (.o ops (⟨H d,op,ty,pos,D,g⟩::rest)::s) l is=opG ops l g h (λh=>Ds P w0 l is [] (kpb os) op h λF v h is=>V P R w0 ds os n h (F/\q) (.o ops rest::s) (l.set d v) is) (λh=>V P R w0 ds os n h q (.o ops rest::s) (l.set d undef) is) λk h j w=>dsT ops.toList j λt=>vvB (l.getD t undef) λb=>VG H P w0 is [] j w b t (λq h rest I d v=>∀u:Nat->ak,V P R w0 ds os n h q (.o ops rest::s) ((Zv l I u).set d (.bool v)) is) (k+1) h q (⟨H d,op,ty,pos,D,g⟩::rest) l [])
 /\ (∀P R w0 ds os n h q ops op ty pos D g rest s l is,V P R w0 ds os (n+1) h q (.o ops (⟨G0,op,ty,pos,D,g⟩::rest)::s) l is=opG ops l g h (λh=>stV P l is os.isSome op h λF _ h is=>V P R w0 ds os n h (F/\q) (.o ops rest::s) l is) (λh=>V P R w0 ds os n h q (.o ops rest::s) l is) λ_ _ _ _=>False)
 /\ (∀P R w0 ds os n h q a b s l is,V P R w0 ds os (n+1) h q (.c (.seq a b)::s) l is=V P R w0 ds os n h q (.c a :: .c b::s) l is)
 /\ (∀P R w0 ds os n h q s l is,V P R w0 ds os (n+1) h q (.c .skip::s) l is=V P R w0 ds os n h q s l is)
 /\ (∀P R w0 ds os n h q i c s l is,V P R w0 ds os (n+1) h q (.c (.block i c)::s) l is=V P R w0 ds os n h q (.c c :: .b i::s) l is)
 /\ (∀P R w0 ds os n h q i s l is,V P R w0 ds os (n+1) h q (.c (.exit i)::s) l is=Xi i s λs=>V P R w0 ds os n h q s l is)
 /\ (∀P R w0 ds n h q s l is,V P R w0 ds G0 (n+1) h q (.c .ret::s) l is=(q/\∀w,Mem w0 w is->R .ret (Fz l ds) w))/\(∀P R w0 ds B n h q s l is,V P R w0 ds (H (X9,B)) (n+1) h q (.c .ret::s) l is=(q/\∀w,Mem w0 w is->eQ B w->R .ret (Fz l ds) w))/\(∀P R w0 ds B n h q s l is,V P R w0 ds (H (Z,B)) (n+1) h q (.c .ret::s) l is=(q/\R .ret (Fz l ds) B))
 /\ (∀P R w0 ds os n h q x a b s l is,V P R w0 ds os (n+1) h q (.c (.cond x a b)::s) l is=vvB (ev l x) λt=>vbX t (V P R w0 ds os n h q (.c a::s) l is) (V P R w0 ds os n h q (.c b::s) l is))
 /\ (∀P R w0 ds os n h q i ops s l is,V P R w0 ds os (n+1) h q (.c (.region i (jr ops) X9)::s) l is=V P R w0 ds os n h q (.o ops.toArray ops::s) l is)
 /\ (∀ops l h p q r,opG ops l G0 h p q r=p h)/\(∀ops l j b h p q r,opG (jr ops) l (H (j,b)) (0::h) p q r=vvG (vyv ops l j) b (p h) (q h))/\(∀ops l j b k h p q r,opG ops l (H (j,b)) ((k+1)::h) p q r=r k h j b)
 /\ (∀ops j f,dsT (jr ops).toList j f=dsT ops j f)/\(∀d op ty pos D g ops f,dsT (⟨H d,op,ty,pos,D,g⟩::ops) 0 f=f d)/\(∀o ops j f,dsT (o::ops) (j+1) f=dsT ops j f)
 /\ (∀P w0 is os j want b t K k h q d op ty pos D i w rest l ds,VG H P w0 is os j want b t K (k+1) h q (⟨H d,op,ty,pos,D,H (i,w)⟩::rest) l ds=Yf j i (vbE want w (Yf t d False (Ds P w0 l is os Z op h λF v h _=>VG H P w0 is os j want b t K k h ((b=want->F)/\q) rest (l.set d v) (d::ds)))) False)
 /\ (∀P w0 is os j want b t K k h q d i x y ty pos D rest l ds,VG H P w0 is os j want b t K (k+1) h q (⟨H d,.pick (.tmp i) x y,ty,pos,D,G0⟩::rest) l ds=Yf t i (pkG want b l x y λv=>K q h rest ds d v) False)
 /\ (∀P w0 is os j want b t K k h q d op ty pos D i w rest l ds,VG hdH P w0 is os j want b t K (k+1) h q ((⟨H d,op,ty,pos,D,H (i,w)⟩,Z)::rest) l ds=Yf j i (vbE want w (Yf t d False (Ds P w0 l is os Z op h λF v h _=>VG hdH P w0 is os j want b t K k h ((b=want->F)/\q) rest (l.set d v) (d::ds)))) False)
 /\ (∀P w0 is os j want b t K k h q d i x y ty pos D rest l ds,VG hdH P w0 is os j want b t K (k+1) h q ((⟨H d,.pick (.tmp i) x y,ty,pos,D,G0⟩,Z)::rest) l ds=Yf t i (pkG want b l x y λv=>K q h rest ds d v) False)
 /\ (∀p,vbE Z Z p=p)/\(∀p,vbE X9 X9 p=p)/\(∀b l x f,pkG Z b l x (.const (.bool X9)) f=vvB (ev l x) λv=>f (b&&v))/\(∀b l y f,pkG X9 b l (.const (.bool Z)) y f=vvB (ev l y) λv=>f (b||v))
 /\ (∀l u,Zv l [] u=l)/\(∀l d ds u,Zv l (d::ds) u=(Zv l ds u).set d (u d))
 /\ (∀p:Prop,(p->True)=True)/\(∀p [Decidable p],(decide p=Z)=p)/\(∀p [Decidable p],(decide p=X9)=¬p)/\(∀a b:Bool,((a&&b)=Z)=(a=Z/\b=Z))/\(∀a b:Bool,((a||b)=X9)=(a=X9/\b=X9))/\(∀a:Bool,((!a)=Z)=(a=X9))/\(∀a:Bool,((!a)=X9)=(a=Z))
 /\ (∀o ops l j,vyv (o::ops) l (j+1)=vyv ops l j)/\(∀d op ty pos D g ops l,vyv (⟨H d,op,ty,pos,D,g⟩::ops) l 0=l.getD d undef)
 /\ (∀p q,vvG (.bool Z) Z p q=p)/\(∀p q,vvG (.bool X9) Z p q=q)/\(∀p q,vvG (.bool Z) X9 p q=q)/\(∀p q,vvG (.bool X9) X9 p q=p)/\(∀b p q,vvG undef b p q=q)
 /\ (∀i s f,Xi i (.b i::s) f=f s)/\(∀i j s f,Xi i (.b j::s) f=Yf i j (f s) (Xi i s f))/\(∀i c s f,Xi i (.c c::s) f=Xi i s f)/\(∀i ops rest s f,Xi i (.o ops rest::s) f=Xi i s f)/\(∀i K s f,Xi i (.k K::s) f=Xi i s f)/\(∀i c n s f,Xi i (.r c n::s) f=Xi i s f)
 /\ (∀P R w0 ds os n h q c k s l is,V P R w0 ds os (n+1) (k::h) q (.c (.loop c)::s) l is=V P R w0 ds os n h q (.r c k::s) l is)/\(∀P R w0 ds os n h q c k s l is,V P R w0 ds os (n+1) h q (.r c (k+1)::s) l is=V P R w0 ds os n h q (.c c :: .r c k::s) l is)
 /\ (∀p q,Yf 0 0 p q=p)/\(∀n m p q,Yf (n+1) (m+1) p q=Yf n m p q)/\(∀n p q,Yf (n+1) 0 p q=q)/\(∀n p q,Yf 0 (n+1) p q=q)
 /\ (∀k m f,vU (.int k m) f=f k m)/\(∀b f,vvB (.bool b) f=f b)/\(∀a f,vvP (.pointer (H a)) f=f a)/\(∀a n c f,vvS (.slice a n c) f=f a n c)/\(∀cs f,vvA (.agg (jr cs)) f=f cs)/\(∀cs f,vvT (.tuple (jr cs)) f=f cs)
 /\ (∀p q,vbX Z p q=p)/\(∀p q,vbX X9 p q=q)/\(∀n p,vnX (n+1) p=p)
 /\ (∀x l f,Np (x::l) 0 f=f x)/\(∀x l n f,Np (x::l) (n+1) f=Np l n f)
 /\ (∀P w0 l is os C x h K,Ds P w0 l is os C (.move x) h K=K True (ev l x) h is)
 /\ (∀P w0 l is os C x h K,Ds P w0 l is os C (.assign x) h K=K True (ev l x) h is)
 /\ (∀P w0 l is os C x h K,Ds P w0 l is os C (.nilCheck x) h K=vvP (ev l x) λa=>K True (.pointer (H a)) h is)
 /\ (∀P w0 l is os C c x y h K,Ds P w0 l is os C (.pick c x y) h K=vvB (ev l c) λb=>vbX b (K True (ev l x) h is) (K True (ev l y) h is))
 /\ (∀P w0 l is os C b T x y T' h K,Ds P w0 l is os C (.binOp b T x y T') h K=biV P T b (ev l x) (ev l y) h is K)
 /\ (∀P w0 l is os C T x h K,Ds P w0 l is os C (.unOp .not T x) h K=vvB (ev l x) λb=>K True (.bool (!b)) h is)
 /\ (∀P w0 l is os C T x h K,Ds P w0 l is os C (.unOp .neg T x) h K=vU (ev l x) λk m=>K (InR k (0-m)) (.int k (0-m)) h is)
 /\ (∀P w0 l is os C T T' x h K,Ds P w0 l is os C (.convert T T' x) h K=Dr (ikP P T) λ_=>Dr (ikP P T') λk=>vU (ev l x) λ_ m=>K (InR k m) (.int k m) h is)
 /\ (∀P w0 l is os C x i h K,Ds P w0 l is os C (.extract x i) h K=vvT (ev l x) λcs=>Np cs i λv=>K True v h is)
 /\ (∀P w0 l is os C b xs ts h K,Ds P w0 l is os C (.call ⟨.builtin b,jr xs,jr ts⟩) h K=caV P l is b xs ts h K)
 /\ (∀P l is x T h K,caV P l is .len [x] [T] h K=Dr (Iy P T) λ_=>vvS (ev l x) λ_ n _=>K True (G n) h is)
 /\ (∀P l is x y ts h K,caV P l is .min [x,y] ts h K=vU (ev l x) λk m=>vU (ev l y) λE n=>K (E=k) (.int k (if n<m then n else m)) h is)
 /\ (∀P l is x y ts h K,caV P l is .max [x,y] ts h K=vU (ev l x) λk m=>vU (ev l y) λE n=>K (E=k) (.int k (if m<n then n else m)) h is)
 /\ (∀P T x y h is K,biV P T .add x y h is K=vU x λk m=>vU y λE n=>K (E=k/\InR k (m+n)) (.int k (m+n)) h is)
 /\ (∀P T x y h is K,biV P T .sub x y h is K=vU x λk m=>vU y λE n=>K (E=k/\InR k (m-n)) (.int k (m-n)) h is)
 /\ (∀P T x y h is K,biV P T .mul x y h is K=vU x λk m=>vU y λE n=>K (E=k/\InR k (m*n)) (.int k (m*n)) h is)
 /\ (∀P T x y h is K,biV P T .lss x y h is K=vU x λk m=>vU y λE n=>cV h (m<n) (λp=>K (E=k/\p)) is)
 /\ (∀P T x y h is K,biV P T .leq x y h is K=vU x λk m=>vU y λE n=>cV h (m<=n) (λp=>K (E=k/\p)) is)
 /\ (∀P T x y h is K,biV P T .gtr x y h is K=vU x λk m=>vU y λE n=>cV h (n<m) (λp=>K (E=k/\p)) is)
 /\ (∀P T x y h is K,biV P T .geq x y h is K=vU x λk m=>vU y λE n=>cV h (n<=m) (λp=>K (E=k/\p)) is)
 /\ (∀P T x y h is K,biV P T .eql x y h is K=vvE x (λk m=>vU y λE n=>cV h (m=n) (λp=>K (E=k/\p)) is) λcs=>vvA y λus=>∃b,EqB P T cs us b/\K True (.bool b) h is)
 /\ (∀P T x y h is K,biV P T .neq x y h is K=vvE x (λk m=>vU y λE n=>cV h (m≠n) (λp=>K (E=k/\p)) is) λcs=>vvA y λus=>∃b,NeB P T cs us b/\K True (.bool b) h is)
 /\ (∀k m f g,vvE (.int k m) f g=f k m)/\(∀cs f g,vvE (.agg (jr cs)) f g=g cs)/\(∀p f g,vvE (pt p) f g=g [G p.x,G p.y,G p.z])/\(∀t f g,vvE (tr t) f g=g [G t.a.x,G t.a.y,G t.a.z,G t.b.x,G t.b.y,G t.b.z,G t.c.x,G t.c.y,G t.c.z])/\(∀e f g,vvE (ed e) f g=g [G e.1.x,G e.1.y,G e.1.z,G e.2.x,G e.2.y,G e.2.z])
 /\ (∀g,ldK g 0=∃p:P3,g (pt p))/\(∀g,ldK g 1=∃t:T3,g (tr t))/\(∀g,ldK g 2=∃z:Int,g (G z))/\(∀g,ldK g 3=∃b:Bool,g (.bool b))/\(∀g,ldK g 4=∃e:E3,g (ed e))/\(∀g,ldK g 5=∃n:Int,g (W n))/\(∀g,ldK g 6=∃v:ak,g v)
 /\ (∀h p K is [Decidable p],cV (0::h) p K is=K True (.bool (decide p)) h is)/\(∀h p K is [Decidable p],cV (1::h) p K is=K p (.bool Z) h is)/\(∀h p K is [Decidable p],cV (2::h) p K is=K (¬p) (.bool X9) h is)
 /\ (∀n,InR .i64 n=(-9223372036854775808<=n/\n<9223372036854775808))/\(∀n,InR .i32 n=(-2147483648<=n/\n<2147483648))/\(∀n,InR .u64 n=(0<=n/\n<18446744073709551616))/\(∀n,InR .u32 n=(0<=n/\n<4294967296))/\(∀n,InR .u8 n=(0<=n/\n<256))
 /\ (∀{α:Type} (J:α->Option Oper) P w0 is os ops K q rest l,VQ J P w0 is os ops K 0 [] q rest l=(q/\K rest l))/\(∀P w0 is os ops K n h q d op ty pos D g rest l,VQ H P w0 is os ops K (n+1) h q (⟨H d,op,ty,pos,D,g⟩::rest) l=opG ops l g h (λh=>Ds P w0 l is os Z op h λF v h _=>VQ H P w0 is os ops K n h (F/\q) rest (l.set d v)) (λh=>VQ H P w0 is os ops K n h q rest (l.set d undef)) λk h j w=>dsT ops.toList j λt=>vvB (l.getD t undef) λb=>VG H P w0 is os j w b t (λq h rest I d v=>∀u:Nat->ak,VQ H P w0 is os ops K n h q rest ((Zv l I u).set d (.bool v))) (k+1) h q (⟨H d,op,ty,pos,D,g⟩::rest) l [])
 /\ (∀P w0 is os ops K n h q d op ty pos D g rest l,VQ hdH P w0 is os ops K (n+1) h q ((⟨H d,op,ty,pos,D,g⟩,Z)::rest) l=opG ops l g h (λh=>Ds P w0 l is os Z op h λF v h _=>VQ hdH P w0 is os ops K n h (F/\q) rest (l.set d v)) (λh=>VQ hdH P w0 is os ops K n h q rest (l.set d undef)) λk h j w=>dsT ops.toList j λt=>vvB (l.getD t undef) λb=>VG hdH P w0 is os j w b t (λq h rest I d v=>∀u:Nat->ak,VQ hdH P w0 is os ops K n h q rest ((Zv l I u).set d (.bool v))) (k+1) h q ((⟨H d,op,ty,pos,D,g⟩,Z)::rest) l [])
 /\ (∀(w:Bool×an),(H w).isSome=Z)/\((G0:Kw).isSome=X9)/\(∀b w,kpb (H (b,w))=b)/\(kpb G0=X9)
 /\ (∀{α:Type} (x:α) f,Dr (H x) f=f x)/\(∀l ds,Fz l ds=Fr l ds)
 /\ (∀{α β:Type}(a:α)(b:β),(a,b).1=a)/\(∀{α β:Type}(a:α)(b:β),(a,b).2=b)
 /\ (∀p:Prop,(True/\p)=p)/\(∀p:Prop,(p/\True)=p)
 /\ (∀(l:List Go.Value)(t:Nat),ev l (.tmp t)=l.getD t undef)/\(∀(l:List Go.Value)(v:Go.Value),ev l (.const v)=v)/\(∀(l:List Go.Value)(f:Nat),ev l (.func f)=.func (.func f) #[] #[])/\(∀{α:Type}(x:α)(xs:List α)(n:Nat)(d:α),(x::xs).getD (n+1) d=xs.getD n d)/\(∀{α:Type}(x:α)(xs:List α)(d:α),(x::xs).getD 0 d=x)/\(∀{α:Type}(x:α)(xs:List α)(n:Nat)(a:α),(x::xs).set (n+1) a=x::xs.set n a)/\(∀{α:Type}(x:α)(xs:List α)(a:α),(x::xs).set 0 a=a::xs)
 /\ (∀P w0 l is os C T x i h K,Ds P w0 l is os C (.fieldAddr T x i) h K=Dr (lV P T i) λf=>vvP (ev l x) λa=>vnX f.2.2 (K True (.pointer (H (a.add f.1))) h is))
 /\ (∀P w0 l is os C T x i h K,Ds P w0 l is os C (.field T x i) h K=Dr (lV P T i) λf=>vvA (ev l x) λcs=>vbX f.2.1 (K True (.agg ((cs.drop f.1).take f.2.2).toArray) h is) (Np cs f.1 λv=>K True v h is))
 /\ (∀P w0 l is os C T x k h K,Ds P w0 l is os C (.load T x) (0::k::h) K=vvP (ev l x) λa=>ldK (λv=>(∀w,Mem w0 w is->lC P w T a v)/\K True v h is) k)/\(∀P w0 l is os C T x k h K,Ds P w0 l is os C (.load T x) ((k+1)::h) K=Dr (tG P T) λz=>vvP (ev l x) λa=>atB is os k λg=>vbX z.1 (K (a=⟨g.1,a.off,G0⟩/\Iv ((g.2.1.drop a.off).take z.2) z.2) (.agg ((g.2.1.drop a.off).take z.2).toArray) h is) (Np g.2.1 a.off λv=>K (a=⟨g.1,a.off,G0⟩) v h is))
 /\ (∀P w0 l is os C T ps h K,Ds P w0 l is os C (.build T (jr ps)) h K=Dr (yO P T) λz=>blV l z.1 ps z.2 True λq cs=>K q (.agg cs.toArray) h is)
 /\ (∀l pl cs q f,blV l pl [] cs q f=f q cs)/\(∀l pl i x ps cs q f,blV l pl ((i,x)::ps) cs q f=abm pl i λz=>vnX z.2 (blV l pl ps (bR cs z.1 (ev l x).cells.toList) (Iv (ev l x).cells.toList z.2/\Iv ((cs.drop z.1).take z.2) z.2/\q) f))
 /\ (∀x l f,abm (x::l) 0 f=f x)/\(∀x l n f,abm (x::l) (n+1) f=abm l n f)
 /\ (∀P w0 l is os T x h K,Ds P w0 l is os X9 (.box T x) h K=∀g,K True (.pointer (H ⟨g,0,G0⟩)) h (bI g (ev l x).cells.toList T::is))
 /\ (∀P w0 l is os T h K,Ds P w0 l is os X9 (.alloc T) h K=Dr (Lb P T) λz=>∀g,K True (.pointer (H ⟨g,0,G0⟩)) h (bI g z T::is))
 /\ (∀P l is T x y k h K,stV P l is X9 (.store T x y) (k::h) K=Dr (tG P T) λz=>vnX z.2 (vvP (ev l x) λa=>atM is k λg=>K (a=⟨g.1,a.off,G0⟩/\Iv ((g.2.1.drop a.off).take z.2) z.2/\Iv (ev l y).cells.toList z.2/\abk (ev l y).cells.toList) undef h (is.set k (bI g.1 (bR g.2.1 a.off (ev l y).cells.toList) g.2.2))))
 /\ (∀P w0 l is os C T x y h K,Ds P w0 l is os C (.indexAddr T x y) h K=Dr (Pu P T) λz=>vvX z.1 (ev l x) λa n=>vU (ev l y) λ_ m=>K (0<=m/\m<n) (.pointer (H (a.add (m.toNat*z.2)))) h is)
 /\ (∀n v f,vvX (H n) v f=vvP v λa=>f a n)/\(∀v f,vvX G0 v f=vvS v λA n _=>Dr A λa=>f a n)
 /\ (∀bs i is,rT (Z::bs) (i::is)=i::rT bs is)/\(∀bs i is,rT (X9::bs) (i::is)=rT bs is)/\(∀is,rT [] is=[])
 /\ (∀i is os f,atB (i::is) os 0 f=Dr i.bk f)/\(∀i is os k f,atB (i::is) os (k+1) f=atB is os k f)/\(∀os k f,atB [] os k f=atO os k f)/\(∀x os f,atO (x::os) 0 f=f x)/\(∀x os k f,atO (x::os) (k+1) f=atO os k f)
 /\ (∀i is f,atM (i::is) 0 f=Dr i.bk f)/\(∀i is k f,atM (i::is) (k+1) f=atM is k f)/\(∀g cs t,(bI g cs t).bk=H (g,cs,t))
 /\ (∀x l n,Iv (x::l) (n+1)=Iv l n)/\(Iv [] 0=True)/\(∀v l,abk (v::l)=(v.oneCell'=Z/\abk l))/\(abk []=True)
 /\ (∀g n,(⟨g,0,G0⟩:Addr).add n=⟨g,n,G0⟩)/\(∀g o n,(⟨g,o,G0⟩:Addr).add n=⟨g,o+n,G0⟩)
 /\ (∀cs o us,bR cs o us=cs.take o++us++cs.drop (o+us.length))
 /\ (∀cs,(Value.agg (jr cs)).cells.toList=cs)/\(∀k n,(oc k n).cells.toList=[.int k n])/\(∀b,(Value.bool b).cells.toList=[.bool b])/\(∀b,(Value.string b).cells.toList=[.string b])/\(∀a,(Value.pointer a).cells.toList=[.pointer a])/\(∀a n c,(Value.slice a n c).cells.toList=[.slice a n c])/\(∀a,(Value.map a).cells.toList=[.map a])/\(∀a b c,(Value.func a b c).cells.toList=[.func a b c])
 /\ (∀k n,(oc k n).oneCell'=Z)/\(∀b,(Value.bool b).oneCell'=Z)/\(∀b,(Value.string b).oneCell'=Z)/\(∀a,(Value.pointer a).oneCell'=Z)/\(∀a n c,(Value.slice a n c).oneCell'=Z)/\(∀a,(Value.map a).oneCell'=Z)/\(∀a b c,(Value.func a b c).oneCell'=Z)
 /\ (∀{α:Type}(x:α)(xs:List α)(n:Nat),(x::xs).take (n+1)=x::xs.take n)/\(∀{α:Type}(xs:List α),xs.take 0=[])/\(∀{α:Type}(x:α)(xs:List α)(n:Nat),(x::xs).drop (n+1)=xs.drop n)/\(∀{α:Type}(xs:List α),xs.drop 0=xs)/\(∀{α:Type}(n:Nat),([]:List α).drop n=[])/\(∀{α:Type}(x:α)(xs ys:List α),(x::xs)++ys=x::(xs++ys))/\(∀{α:Type}(ys:List α),[]++ys=ys)/\(∀{α:Type}(ys:List α),ys++[]=ys)/\(∀{α:Type}(x:α)(xs:List α),(x::xs).length=xs.length+1)/\(∀{α:Type},([]:List α).length=0)
 /\ (∀p:P3,(pt p).cells.toList=[G p.x,G p.y,G p.z])/\(∀p f,vvA (pt p) f=f [G p.x,G p.y,G p.z])
 /\ (∀t:T3,(tr t).cells.toList=[G t.a.x,G t.a.y,G t.a.z,G t.b.x,G t.b.y,G t.b.z,G t.c.x,G t.c.y,G t.c.z])/\(∀t f,vvA (tr t) f=f [G t.a.x,G t.a.y,G t.a.z,G t.b.x,G t.b.y,G t.b.z,G t.c.x,G t.c.y,G t.c.z])
 /\ (∀v:P3,(wv v).cells.toList=[.bool (fF v.x),.string (iR v.x),.bool (fF v.y),.string (iR v.y),.bool (fF v.z),.string (iR v.z)])/\(∀v f,vvA (wv v) f=f [.bool (fF v.x),.string (iR v.x),.bool (fF v.y),.string (iR v.y),.bool (fF v.z),.string (iR v.z)])
 /\ (∀v:P3,(nv v).cells.toList=[G v.x,G v.y,G v.z])/\(∀v f,vvA (nv v) f=f [G v.x,G v.y,G v.z])
 /\ (∀v:P3,(sg v).cells.toList=[G (cA v.x),G (cA v.y),G (cA v.z)])/\(∀v f,vvA (sg v) f=f [G (cA v.x),G (cA v.y),G (cA v.z)])
 /\ (∀e:E3,(ed e).cells.toList=[G e.1.x,G e.1.y,G e.1.z,G e.2.x,G e.2.y,G e.2.z])/\(∀e f,vvA (ed e) f=f [G e.1.x,G e.1.y,G e.1.z,G e.2.x,G e.2.y,G e.2.z])
 /\ (∀p,pI p=[G p.x,G p.y,G p.z])/\(∀p,gA p=[G p.x,G p.y,G p.z])/\(∀e,bG e=[G e.1.x,G e.1.y,G e.1.z,G e.2.x,G e.2.y,G e.2.z])/\(∀n,wC n=[.bool (fF n),.string (iR n)])
 /\ (∀n,(W n).cells.toList=[.bool (fF n),.string (iR n)])/\(∀n f,vvA (W n) f=f [.bool (fF n),.string (iR n)])
 /\ (∀q:Rat,(Q q).cells.toList=[.bool (fF q.num),.string (iR q.num),.bool (fF (q.den:Int)),.string (iR (q.den:Int))])/\(∀q f,vvA (Q q) f=f [.bool (fF q.num),.string (iR q.num),.bool (fF (q.den:Int)),.string (iR (q.den:Int))]):=by
 repeat' apply And.intro
 all_goals intros
 all_goals first|rfl|exact X2 decide_eq_true_iff|exact X2 Y7|exact X2 (by simp)|(rename_i op _ _ _ _ _ _ _ _;cases op<;>rfl)|exact avA|exact avL|exact X8 _|exact Y8 _|exact kp0|exact kp1|exact List.drop_nil|exact fz _|exact (eD ..).trans (by rw[aj])|exact eD ..
def Hn:List Oper->Nat->(Oper->Prop)->Prop
 |o::_,0,f=>f o
 |_::r,n+1,f=>Hn r n f
 | [],_,_=>False
def Fe:List (List Nat)->Nat->(List Nat->Prop)->Prop
 |s::_,0,f=>f s
 |_::r,n+1,f=>Fe r n f
 | [],_,f=>f []
def yB:∀{ss:List (List Nat)} {i:Nat} {f:List Nat->Prop},Fe ss i f->∃s,f s
 |s::_,0,_,h=>⟨s,h⟩
 |_::r,n+1,_,h=>yB (ss:=r) h
 | [],_,_,h=>⟨[],h⟩
def nwB(op:Op)(bs:List Bool):List Bool:=match op with
 |.box _ _|.alloc _=>X9::bs
 |_=>bs
def Va:List Bool->Nat->Prop->Prop
 |false::_,0,p=>p
 |_::bs,n+1,p=>Va bs n p
 |_,_,_=>False
def tkV(P:cg)(w0:an)(ops:Array Oper)(l:List ak)(b:List It)(o:Oper)(a:List Nat)(q:Prop)(K:List Nat->Prop->List ak->Prop):Prop:=match o with
 |⟨H d,op,_,_,_,g⟩=>opG ops l g a (λa=>Ds P w0 l b [] Z op a λc v a _=>K a (c/\q) (l.set d v)) (λa=>K a q (l.set d undef)) λ_ _ _ _=>False
 |_=>False
def onV(P:cg)(w0:an)(ops:Array Oper)(l:List ak)(is:List It)(bs:List Bool)(o:Oper)(a:List Nat)(q:Prop)(K:List Nat->Prop->List ak->List It->List Bool->Prop):Prop:=match o with
 |⟨H d,op,_,_,_,g⟩=>opG ops l g a (λa=>Ds P w0 l is [] X9 op a λb v a c=>K a (b/\q) (l.set d v) c (nwB op bs)) (λa=>K a q (l.set d undef) is bs) λ_ _ _ _=>False
 |⟨G0,op,_,_,_,g⟩=>opG ops l g a (λa=>Va bs (a.headD 0) (stV P l is X9 op a λb _ a c=>K a (b/\q) l c bs)) (λa=>K a q l is bs) λ_ _ _ _=>False
def VT(P:cg)(w0:an)(ops:Array Oper)(b:List It)(ss:List (List Nat))(K:List ak->List It->Prop):sP->Prop->List ak->List It->List Bool->Prop
 |.nil,q,l,is,_=>q/\K l is
 |.take i t,q,l,is,bs=>Hn ops.toList i λo=>Fe ss i λa=>tkV P w0 ops l b o a q λ_ q l=>VT P w0 ops b ss K t q l is bs
 |.one i t,q,l,is,bs=>Hn ops.toList i λo=>Fe ss i λa=>onV P w0 ops l is bs o a q λ_ q l is bs=>VT P w0 ops b ss K t q l is bs
 |.two i t j u,q,l,is,bs=>(Hn ops.toList i λo=>Fe ss i λa=>onV P w0 ops l is bs o a q λ_ q l is bs=>VT P w0 ops b ss K t q l is bs)/\Hn ops.toList j λo=>Fe ss j λa=>onV P w0 ops l is bs o a q λ_ q l is bs=>VT P w0 ops b ss K u q l is bs
 |.three i t j u k v,q,l,is,bs=>(Hn ops.toList i λo=>Fe ss i λa=>onV P w0 ops l is bs o a q λ_ q l is bs=>VT P w0 ops b ss K t q l is bs)/\(Hn ops.toList j λo=>Fe ss j λa=>onV P w0 ops l is bs o a q λ_ q l is bs=>VT P w0 ops b ss K u q l is bs)/\Hn ops.toList k λo=>Fe ss k λa=>onV P w0 ops l is bs o a q λ_ q l is bs=>VT P w0 ops b ss K v q l is bs
def yC:∀{ops:List Oper}{i:Nat}{f:Oper->Prop},Hn ops i f->∃o,ops[i]? = H o/\f o
 |o::_,0,_,h=>⟨o,rfl,h⟩
 |_::r,n+1,_,h=>by rw[jn];exact yC (ops:=r) h
def abR:∀{bs:List Bool}{k:Nat}{p:Prop},Va bs k p->bs[k]? = H X9/\p
 |false::_,0,_,h=>⟨rfl,h⟩
 |true::_,0,_,h=>h.elim
 |false::bs,n+1,_,h=>by rw[jn];exact abR (bs:=bs) h
 |true::bs,n+1,_,h=>by rw[jn];exact abR (bs:=bs) h
 | [],0,_,h=>h.elim
 | [],_+1,_,h=>h.elim
def Vb:∀{bs:List Bool}{is:List It}{k:Nat}{i:It},bs[k]? = H X9->rT bs (is.set k i)=rT bs is
 |false::bs,_::is,0,_,_=>rfl
 |true::bs,_::is,0,_,h=>by cases h
 |true::bs,j::is,k+1,i,h=>by
  rw[aw];show j::rT bs (is.set k i)=j::rT bs is
  rw[Vb (by simpa using h)]
 |false::bs,j::is,k+1,i,h=>by
  rw[aw];show rT bs (is.set k i)=rT bs is
  exact Vb (by simpa using h)
 |_,[],k,i,_=>by rw[List.set_nil]
 | [],_::_,_,_,h=>by cases h
section
variable{P:cg}{w0:an}{ds:List eh}{ops:Array Oper}{hs:List It}{K:List ak->List It->Prop}{Q:Exit->Act->an->Prop}
def as4{p:Prop}(h:n=m+1)(a:p):vnX n p:=by subst h;exact a
def as5{l:List ak}{is:List It}{b:List Nat}{K:KV}(h:stV P l is X9 op b K):∃r,stV P l is X9 op b (λs v t d=>d=is.set (b.headD 0) r/\K s v t d):=by
 unfold stV at h ⊢;split at h
 . rename_i T x y k b
   obtain⟨z,q,h⟩:=qM (show Dr _ _ from h);obtain⟨n,o,h⟩:=abo h;obtain⟨a,p,h⟩:=Ja h;obtain⟨i,g,m,e,h⟩:=afh h;refine⟨bI g.1 (bR g.2.1 a.off (ev l y).cells.toList) g.2.2,?_⟩;refine (show Dr (tG P T) _ from ?_);rw[q];refine (show vnX z.2 _ from as4 o ?_);rw[p];refine (show atM is k _ from ?_);have key:∀{is:List It}{k:Nat}{f:Ob->Prop},is[k]? = H i->f g->atM is k f:=by
    intro is
    induction is with
    |nil=>intro k f h;cases h
    |cons j is ih=>
     intro k f h c;cases k with
     |zero=>cases h;show Dr i.bk f;rw[e];exact c
     |succ k=>exact ih (by simpa using h) c
   exact key m ⟨O,h⟩
 exact h.elim
def as6{l:List ak}{is:List It}{os:List Ob}{f:List Nat}{K:KV}(h:Ds P w0 l is os X9 op f K):(∃cs T,(∀g,K True (.pointer (H ⟨g,0,G0⟩)) f (bI g cs T::is))/\Bx P l is w0 ds op cs T/\∀bs,nwB op bs=X9::bs)\/(Ds P w0 l is os Z op f K/\∀bs,nwB op bs=bs):=by
 cases op
 case box T x=>exact .inl ⟨_,_,h,λd ty pos i ops Q rest w m c=>Si (by simp) λu g e b a=>c g u e (m.newB e b a),λ_=>rfl⟩
 case alloc T=>
  obtain⟨cs,j,h⟩:=qM (show Dr _ _ from h);obtain⟨z,h1,h2⟩:=abl j;exact .inl ⟨_,_,h,λd ty pos i ops Q rest w m c=>xO h1 h2 λu g e b a=>c g u e (m.newB e b a),λ_=>rfl⟩
 case unOp u T x=>cases u<;>exact .inr ⟨h,λ_=>rfl⟩
 all_goals exact .inr ⟨h,λ_=>rfl⟩
def Of{l:List ak}{is:List It}{bs:List Bool}{o:Oper}{i:Nat}{t:sP}{k:List Nat}{q:Prop}{G:List Nat->Prop->List ak->List It->List Bool->Prop}(c:rT bs is=hs)(A:ops.toList[i]? = H o)(h:onV P w0 ops l is bs o k q G)
 (ih:∀k q l is bs,rT bs is=hs->G k q l is bs->q/\∀w,Mem w0 w is->cU P ops (λu=>Mem w0 u hs) Q t (Fr l ds) w) :
 q/\∀w,Mem w0 w is->bf P ops (Exit.then (λa w=>Mem w0 w hs/\cU P ops (λu=>Mem w0 u hs) Q t a w) Q) [(ops[i]?).getD default] (Fr l ds) w:=by
 have F:(ops[i]?).getD default=o:=by
  rw[<-gr,A];rfl
 rw[F];have stay:∀{D:List Bool}{y:List It}{w:an},rT D y=hs->Mem w0 w y->Mem w0 w hs:=λe m=>e▸m.sel _;obtain⟨d,op,ty,pos,z,g⟩:=o;cases d with
 |some d=>
  simp only[onV] at h;rcases Nq h with ⟨k,h,b⟩|⟨k,h,b⟩|⟨_,_,_,_,_,h⟩
  . rcases as6 (w0:=w0) (ds:=ds) h with ⟨cs,T,h,p,r⟩|⟨h,r⟩
    . rw[r] at h
      have e:∀g,rT (X9::bs) (bI g cs T::is)=hs:=λ_=>c;exact⟨(ih _ _ _ _ _ (e 0) (h 0)).1.2,λw m=>oB (b _ _ _ _ _) (p d ty pos z ops _ [] w m λg u _ n=>E ⟨stay (e g) n,(ih _ _ _ _ _ (e g) (h g)).2 u n⟩)⟩
    rcases Tx (ds:=ds) Zy h with ⟨C,v,I,h,x⟩|⟨e,_⟩
    . rw[r] at h
      obtain⟨⟨s,j⟩,f⟩:=ih _ _ _ _ _ c h;exact⟨j,λw m=>oB (b _ _ _ _ _) (eB (x s w m ty) (E ⟨stay c m,f w m⟩))⟩
    cases e
  . obtain⟨j,f⟩:=ih _ _ _ _ _ c h
    exact⟨j,λw m=>uU (b _ _ _ _ _) (by rw[gV];exact E ⟨stay c m,f w m⟩)⟩
  exact h.elim
 |none=>
  simp only[onV] at h;rcases Nq h with ⟨k,h,b⟩|⟨k,h,b⟩|⟨_,_,_,_,_,h⟩
  . obtain⟨p,h⟩:=abR h
    obtain⟨B,h⟩:=as5 h;obtain⟨_,C,I,y,⟨rfl,h⟩,x⟩:=alz (w0:=w0) (ds:=ds) h;have e:=(Vb (i:=B) (is:=is) p).trans c;obtain⟨⟨s,j⟩,f⟩:=ih _ _ _ _ _ e h;exact⟨j,λw m=>oB (b _ _ _ _ _) (x s ty pos z ops _ [] w m λu n=>E ⟨stay e n,f u n⟩)⟩
  . obtain⟨j,f⟩:=ih _ _ _ _ _ c h
    exact⟨j,λw m=>uU (b _ _ _ _ _) (E ⟨stay c m,f w m⟩)⟩
  exact h.elim
def Ln{ss:List (List Nat)}(b:∀l is,K l is->∀w,Mem w0 w is->Q .normal (Fr l ds) w):∀(t:sP)(q:Prop)(l:List ak)(is:List It)(bs:List Bool),rT bs is=hs->VT P w0 ops hs ss K t q l is bs->q/\∀w,Mem w0 w is->cU P ops (λu=>Mem w0 u hs) Q t (Fr l ds) w
 |.nil,q,l,is,bs,_,h=>⟨h.1,λw m=>b _ _ h.2 w m⟩
 |.take i t,q,l,is,bs,a,h=>by
  obtain⟨⟨d,op,ty,pos,B,g⟩,f,h⟩:=yC h;obtain⟨c,h⟩:=yB h;have A:(ops[i]?).getD default=⟨d,op,ty,pos,B,g⟩:=by
   rw[<-gr,f];rfl
  cases d with
  |none=>exact h.elim
  |some d=>
   simp only[tkV] at h;rcases Nq h with ⟨c,h,x⟩|⟨c,h,x⟩|⟨_,_,_,_,_,h⟩
   . rcases Tx (w0:=w0) (ds:=ds) Zy h with ⟨L,v,M,h,D⟩|⟨e,_⟩
     . obtain⟨⟨C,s⟩,r⟩:=Ln b t _ _ _ _ a h
       refine⟨s,λw m=>eC A ?_⟩;refine⟨v,.inl ⟨x _ _ _ _ _,λu E=>D C u E ty _ O O⟩,?_⟩;show cU P ops _ Q t ((Fr l ds).put (H d) v) w
       rw[gV];exact r w m
     cases e
   . obtain⟨s,r⟩:=Ln b t _ _ _ _ a h
     refine⟨s,λw m=>eC A ?_⟩;refine⟨undef,.inr ⟨x _ _ _ _ _,O⟩,?_⟩;show cU P ops _ Q t ((Fr l ds).put (H d) undef) w
     rw[gV];exact r w m
   exact h.elim
 |.one i t,q,l,is,bs,a,h=>by
  obtain⟨o,f,h⟩:=yC h;obtain⟨c,h⟩:=yB h;exact Of a f h λc q l is bs e h=>Ln b t q l is bs e h
 |.two i t j u,q,l,is,bs,a,h=>by
  obtain⟨h1,h2⟩:=h;obtain⟨o,f,h1⟩:=yC h1;obtain⟨_,h1⟩:=yB h1;obtain⟨F,z,h2⟩:=yC h2;obtain⟨_,h2⟩:=yB h2;have p:=Of (Q:=Q) (t:=t) a f h1 λc q l is bs e h=>Ln b t q l is bs e h;have y:=Of (Q:=Q) (t:=u) a z h2 λc q l is bs e h=>Ln b u q l is bs e h;exact⟨p.1,λw m=>⟨p.2 w m,y.2 w m⟩⟩
 |.three i t j u k v,q,l,is,bs,a,h=>by
  obtain⟨h1,h2,n⟩:=h;obtain⟨o,f,h1⟩:=yC h1;obtain⟨_,h1⟩:=yB h1;obtain⟨F,z,h2⟩:=yC h2;obtain⟨_,h2⟩:=yB h2;obtain⟨J,I,n⟩:=yC n;obtain⟨_,n⟩:=yB n;have p:=Of (Q:=Q) (t:=t) a f h1 λc q l is bs e h=>Ln b t q l is bs e h;have y:=Of (Q:=Q) (t:=u) a z h2 λc q l is bs e h=>Ln b u q l is bs e h;have G:=Of (Q:=Q) (t:=v) a I n λc q l is bs e h=>Ln b v q l is bs e h;exact⟨p.1,λw m=>⟨p.2 w m,y.2 w m,G.2 w m⟩⟩
end
def zvt{P:cg}{w0 w:an}{ds:List eh}{s:List Ko}{R:Exit->Act->an->Prop}{is:List It}{id:Nat}{l0:List ak}{l:List Oper}(bs:List Bool)(ss:List (List Nat))(t:sP)(m:Mem w0 w is)(f:P.follows .mixedOrders=Z)(b:(Region.noSelect l.toArray&&t.ok .any l.toArray l.toArray.size (Array.replicate l.toArray.size X9))=Z)
 (e:∀c d v a w,Ct P R s (.panic c) (Act.put a d v) w->Ct P R s (.panic c) a w)
 (h:VT P w0 l.toArray (rT bs is) ss (λl is=>∀w,Mem w0 w is->Ct P R s .normal (Fz l ds) w) t True l0 is bs):(Code.region id l.toArray Z).wp P (Ct P R s) (Fr l0 ds) w:=
 Zg m bs t f b e λ_ g=>(Ln (λ_ _ h=>h) t True l0 is bs rfl h).2 _ g
def apC{ops i a f}(h:i=a):Hn ops i f=Hn ops a f:=by rw[h]
def apD{ss i a f}(h:i=a):Fe ss i f=Fe ss a f:=by rw[h]
def apE{bs a k p}(h:bs=a):Va bs k p=Va a k p:=by rw[h]
def as7{P w0 ops l b a o c q K}(h:l=b):tkV P w0 ops l a o c q K=tkV P w0 ops b a o c q K:=by rw[h]
def as8{P w0 ops l a is bs o b q K}(h:l=a):onV P w0 ops l is bs o b q K=onV P w0 ops a is bs o b q K:=by rw[h]
def avM{P w0 ops a ss K t q l b is bs}(h:l=b):VT P w0 ops a ss K t q l is bs=VT P w0 ops a ss K t q b is bs:=by rw[h]
def as9{b:Bool}{bs:List Bool}{p:Prop}:Va (b::bs) (n+1) p=Va bs n p:=by cases b<;>rfl
def zzu:(∀o r f,Hn (o::r) 0 f=f o)/\(∀o r n f,Hn (o::r) (n+1) f=Hn r n f)
 /\ (∀s r f,Fe (s::r) 0 f=f s)/\(∀s r n f,Fe (s::r) (n+1) f=Fe r n f)/\(∀n f,Fe [] n f=f [])
 /\ (∀T x bs,nwB (.box T x) bs=X9::bs)/\(∀T bs,nwB (.alloc T) bs=X9::bs)/\(∀x bs,nwB (.move x) bs=bs)/\(∀x bs,nwB (.assign x) bs=bs)/\(∀x bs,nwB (.nilCheck x) bs=bs)/\(∀a b c bs,nwB (.pick a b c) bs=bs)/\(∀a b c d e bs,nwB (.binOp a b c d e) bs=bs)/\(∀a b c bs,nwB (.unOp a b c) bs=bs)/\(∀a b c bs,nwB (.convert a b c) bs=bs)/\(∀a b c bs,nwB (.fieldAddr a b c) bs=bs)/\(∀a b c bs,nwB (.field a b c) bs=bs)/\(∀a b c bs,nwB (.indexAddr a b c) bs=bs)/\(∀a b bs,nwB (.build a b) bs=bs)/\(∀a b bs,nwB (.extract a b) bs=bs)/\(∀a b bs,nwB (.load a b) bs=bs)/\(∀a bs,nwB (.call a) bs=bs)
 /\ (∀bs p,Va (X9::bs) 0 p=p)/\(∀b bs n p,Va (b::bs) (n+1) p=Va bs n p)/\(∀(k:Nat) m,List.headD (k::m) 0=k)
 /\ (∀P w0 ops l w d op ty pos y g m q K,tkV P w0 ops l w ⟨H d,op,ty,pos,y,g⟩ m q K=opG ops l g m (λm=>Ds P w0 l w [] Z op m λz v m _=>K m (z/\q) (l.set d v)) (λm=>K m q (l.set d undef)) λ_ _ _ _=>False)
 /\ (∀P w0 ops l is bs d op ty pos y g m q K,onV P w0 ops l is bs ⟨H d,op,ty,pos,y,g⟩ m q K=opG ops l g m (λm=>Ds P w0 l is [] X9 op m λz v m A=>K m (z/\q) (l.set d v) A (nwB op bs)) (λm=>K m q (l.set d undef) is bs) λ_ _ _ _=>False)
 /\ (∀P w0 ops l is bs op ty pos y g k m q K,onV P w0 ops l is bs ⟨G0,op,ty,pos,y,g⟩ (k::m) q K=opG ops l g (k::m) (λm=>Va bs (m.headD 0) (stV P l is X9 op m λz _ m A=>K m (z/\q) l A bs)) (λm=>K m q l is bs) λ_ _ _ _=>False)
 /\ (∀P w0 ops w ss K q l is bs,VT P w0 ops w ss K .nil q l is bs=(q/\K l is))
 /\ (∀P w0 ol w ss K i t q l is bs,VT P w0 (jr ol) w ss K (.take i t) q l is bs=Hn ol i λo=>Fe ss i λm=>tkV P w0 ol.toArray l w o m q λ_ q l=>VT P w0 ol.toArray w ss K t q l is bs)
 /\ (∀P w0 ol w ss K i t q l is bs,VT P w0 (jr ol) w ss K (.one i t) q l is bs=Hn ol i λo=>Fe ss i λm=>onV P w0 ol.toArray l is bs o m q λ_ q l is bs=>VT P w0 ol.toArray w ss K t q l is bs)
 /\ (∀P w0 ol w ss K i t j u q l is bs,VT P w0 (jr ol) w ss K (.two i t j u) q l is bs=(VT P w0 ol.toArray w ss K (.one i t) q l is bs/\VT P w0 ol.toArray w ss K (.one j u) q l is bs))
 /\ (∀P w0 ol w ss K i t j u k v q l is bs,VT P w0 (jr ol) w ss K (.three i t j u k v) q l is bs=(VT P w0 ol.toArray w ss K (.one i t) q l is bs/\VT P w0 ol.toArray w ss K (.one j u) q l is bs/\VT P w0 ol.toArray w ss K (.one k v) q l is bs))
 /\ (∀p:Prop,(p/\p)=p)/\(∀p q r:Prop,((p/\r)/\(q/\r))=((p/\q)/\r)):=by
 repeat' apply And.intro
 all_goals intros
 all_goals first|rfl|exact as9|exact X7 _|exact X2 ⟨λh=>⟨⟨h.1.1,h.2.1⟩,h.1.2⟩,λh=>⟨⟨h.1.1,h.2⟩,h.1.2,h.2⟩⟩
attribute [congr] awS asp asq asr ass ast avx asy asz asA asB asC asD asE asF asG asH asI apm apn asJ asK asM asN asO avz asL avy apC apD apE as7 as8 avM asu avw asv asw asx
end
end Go.Lith
