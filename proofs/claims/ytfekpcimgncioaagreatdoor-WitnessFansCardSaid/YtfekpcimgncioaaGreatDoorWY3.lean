/-
 Texts of one claim, laid together: Fa3, Rchk, Rchk2, Guard2, V1, V2, Cmp, Grow2, SortPt, Maps1, W1, Bag, W2, Ent, W3, Maps2, W4, W5, Int, Wide6, Wide1, Tail.
-/
import Derived.Shelf.SlLaysF0
import Derived.Test.YtfekpcimgncioaaGreatDoorProg
import Derived.Test.YtfekpcimgncioaaGreatDoorWY2
open Nat renaming reduceAdd->aa,reduceMul->ah,zero_add->aj,le_trans->ax,le_refl->ba,zero_le->bu,lt_or_ge->d_,mul_one->eo,min_eq_left->ep,add_sub_cancel->fb,eq_zero_or_pos->fm,lt_succ_self->fu
open Int renaming reduceToNat->ag,toNat_natCast->ai,reduceAdd->R
open Go renaming Value->ak,wp_region_lit->am,World->an,wpList->bf,TypeId->bh,Program->cg,run_underlying->cq,MapEntry->cu,Operand->cw,wpQuiet->M,execOp->N,Deferred->eh,wp_ret->i_,wp_skip->ja,wp_block->jd
open List renaming getElem?_eq_getElem->ap,mem_cons->av,getElem?_eq_some_iff->az,take_of_length_le->a_,length_cons->be,length_append->bg,flatMap_append->bi,map_cons->bm,mem_of_getElem?->bn,mem_singleton->bp,mem_append->bv,not_mem_nil->bw,replicate->bx,length_take->bz,length_nil->cd,nil_append->cl,getElem?_eq_none->da,map_append->db,cons_append->de,map_nil->df,mem_flatMap->dj,append_assoc->dm,drop_eq_getElem_cons->dw,toList_toArray->dx,length_map->eb,eq_of_mem_replicate->fc,take_length->fe,any_eq_true->ff,getElem?_map->fi,length_filter_le->gd,filter_append->gl,ext_getElem?->gt,map_congr_left->iv,length_drop->ix,take_zero->jz,take_succ_cons->kn,drop_length->lk,all_eq_false->mc,all_append->qq
open Go.Value renaming bool->bj,int->oc
open Bool renaming and_eq_true->bt,false_ne_true->fh,not_eq_true'->ip,or_eq_true->iy,not_true->jq,not_false->km
open Go.Oper renaming mk->ci
open Go.Exit renaming inBlock->cn
open Option renaming getD_some->dt,isSome_iff_exists->el,map_some->fw,getD_none->og
open Array renaming getElem?_eq_some_iff->ec,replicate->ie,getElem?_modify->lg,ext_getElem?->mz
open BitVec renaming ofInt->et,toNat_ofInt->lh
open Option.some renaming inj->fq,injEq->gu
open Prod.mk renaming injEq->fy
open Prod renaming ext->pv
set_option maxHeartbeats 8000000
set_option linter.unusedSimpArgs false
set_option linter.defProp false
set_option linter.unusedVariables false
set_option linter.unusedSectionVars false
open And renaming intro->I0
open Bool renaming true->Z,false->X9
open Option renaming some->H,none->G0
open Go.Proofs.Tryz renaming prog->G1
namespace Go.Proofs.YtfekpcimgncioaaGreatDoor
open Go.Proofs.Tryz
open Go.RowKit Go.Lith
section
variable{x0 y0 x1 y1 x2 y2 x3 y3 x4 y4 x5 y5:Int}
abbrev amc:=@underlying141
abbrev Cd:=@underlying194
abbrev tU:=@underlying196
abbrev dS:=@underlying22
abbrev dB:=@underlying233
abbrev Og:=@underlying284
abbrev qS:=@underlying285
abbrev adE:=@underlying5
set_option maxRecDepth 100000
def j:tG G1 3=H (X9,1):=by kernel_rfl
def awU:Lb G1 3=H [G 0]:=by kernel_rfl
def Yk:ikP G1 3=H .i64:=by kernel_rfl
def Dl:tG G1 4=H (X9,1):=by kernel_rfl
def Dn:ikP G1 5=H .u8:=by kernel_rfl
def afE:tG G1 9=H (X9,1):=by kernel_rfl
def avN:tG G1 22=H (X9,1):=by kernel_rfl
def lS:Iy G1 22=H 3:=by kernel_rfl
def Qg:Pu G1 22=H (G0,1):=by kernel_rfl
def aat:tG G1 26=H (X9,1):=by kernel_rfl
def Vc:tG G1 27=H (X9,1):=by kernel_rfl
def jL:Iy G1 27=H 39:=by kernel_rfl
def eO:Pu G1 27=H (G0,9):=by kernel_rfl
def aN:tG G1 30=H (Z,3):=by kernel_rfl
def cY:Lb G1 30=H [G 0,G 0,G 0]:=by kernel_rfl
def iW:lV G1 30 0=H (0,X9,1):=by kernel_rfl
def iX:lV G1 30 1=H (1,X9,1):=by kernel_rfl
def kC:lV G1 30 2=H (2,X9,1):=by kernel_rfl
def yD:yO G1 30=H ([(0,1),(1,1),(2,1)],[G 0,G 0,G 0]):=by kernel_rfl
def amd:tG G1 36=H (Z,3):=by kernel_rfl
def avO:Lb G1 36=H [G 0,G 0,G 0]:=by kernel_rfl
def nT:Pu G1 36=H (H 3,1):=by kernel_rfl
def Dg:yO G1 36=H ([(0,1),(1,1),(2,1)],[G 0,G 0,G 0]):=by kernel_rfl
def arl:tG G1 38=H (Z,9):=by kernel_rfl
def avP:Lb G1 38=H [G 0,G 0,G 0,G 0,G 0,G 0,G 0,G 0,G 0]:=by kernel_rfl
def fJ:tG G1 39=H (Z,9):=by kernel_rfl
def mH:Lb G1 39=H [G 0,G 0,G 0,G 0,G 0,G 0,G 0,G 0,G 0]:=by kernel_rfl
def l:Pu G1 39=H (H 3,3):=by kernel_rfl
def nU:yO G1 39=H ([(0,3),(3,3),(6,3)],[G 0,G 0,G 0,G 0,G 0,G 0,G 0,G 0,G 0]):=by kernel_rfl
def ahh:tG G1 46=H (X9,1):=by kernel_rfl
def Vd:Iy G1 46=H 55:=by kernel_rfl
def Ig:Pu G1 46=H (G0,6):=by kernel_rfl
def adF:tG G1 52=H (X9,1):=by kernel_rfl
def xC:Iy G1 52=H 56:=by kernel_rfl
def yE:Pu G1 52=H (G0,6):=by kernel_rfl
def ame:tG G1 55=H (Z,6):=by kernel_rfl
def amf:Lb G1 55=H [G 0,G 0,G 0,G 0,G 0,G 0]:=by kernel_rfl
def sH:lV G1 55 0=H (0,Z,3):=by kernel_rfl
def He:lV G1 55 1=H (3,Z,3):=by kernel_rfl
def amg:yO G1 55=H ([(0,3),(3,3)],[G 0,G 0,G 0,G 0,G 0,G 0]):=by kernel_rfl
def xD:tG G1 56=H (Z,6):=by kernel_rfl
def Qh:Lb G1 56=H [G 0,G 0,G 0,G 0,G 0,G 0]:=by kernel_rfl
def vA:Pu G1 56=H (H 2,3):=by kernel_rfl
def pU:yO G1 56=H ([(0,3),(3,3)],[G 0,G 0,G 0,G 0,G 0,G 0]):=by kernel_rfl
def xE:Iy G1 65=H 30:=by kernel_rfl
def Aq:Pu G1 65=H (G0,3):=by kernel_rfl
def avQ:tG G1 73=H (X9,1):=by kernel_rfl
def avR:Iy G1 73=H 191:=by kernel_rfl
def avS:tG G1 75=H (Z,4):=by kernel_rfl
def apF:lV G1 75 0=H (0,X9,1):=by kernel_rfl
def apG:lV G1 75 1=H (1,X9,1):=by kernel_rfl
def apH:lV G1 75 2=H (2,X9,1):=by kernel_rfl
def apI:lV G1 75 3=H (3,X9,1):=by kernel_rfl
def adG:Pu G1 82=H (H 5,3):=by kernel_rfl
def ahi:tG G1 88=H (X9,1):=by kernel_rfl
def avT:Lb G1 88=H [.pointer G0]:=by kernel_rfl
def ahj:tG G1 93=H (X9,1):=by kernel_rfl
def avU:Lb G1 93=H [.map G0]:=by kernel_rfl
def fB:tG G1 95=H (Z,2):=by kernel_rfl
def lT:Lb G1 95=H [.bool X9,.string ⟨#[]⟩]:=by kernel_rfl
def kP:lV G1 95 0=H (0,X9,1):=by kernel_rfl
def Ce:lV G1 95 1=H (1,X9,1):=by kernel_rfl
def arm:yO G1 95=H ([(0,1),(1,1)],[.bool X9,.string ⟨#[]⟩]):=by kernel_rfl
def amh:Lb G1 97=H [.bool X9,.string ⟨#[]⟩,.bool X9,.string ⟨#[]⟩,.bool X9,.string ⟨#[]⟩,.bool X9,.string ⟨#[]⟩,.bool X9,.string ⟨#[]⟩,.bool X9,.string ⟨#[]⟩,.bool X9,.string ⟨#[]⟩,.bool X9,.string ⟨#[]⟩,.bool X9,.string ⟨#[]⟩,.bool X9,.string ⟨#[]⟩]:=by kernel_rfl
def Ve:Pu G1 97=H (H 10,2):=by kernel_rfl
def arn:tG G1 99=H (X9,1):=by kernel_rfl
def abS:tG G1 100=H (X9,1):=by kernel_rfl
def ata:Lb G1 100=H [.map G0]:=by kernel_rfl
def atb:Iy G1 105=H 112:=by kernel_rfl
def ami:Pu G1 105=H (G0,8):=by kernel_rfl
def atc:tG G1 106=H (X9,1):=by kernel_rfl
def atd:tG G1 107=H (X9,1):=by kernel_rfl
def amj:lV G1 109 0=H (0,X9,1):=by kernel_rfl
def Vf:lV G1 109 1=H (1,X9,1):=by kernel_rfl
def Vg:lV G1 109 2=H (2,X9,1):=by kernel_rfl
def ate:yO G1 109=H ([(0,1),(1,1),(2,1)],[.slice G0 0 0,.map G0,.map G0]):=by kernel_rfl
def afF:tG G1 112=H (Z,8):=by kernel_rfl
def afG:Lb G1 112=H [G 0,G 0,G 0,G 0,G 0,G 0,.bool X9,.string ⟨#[]⟩]:=by kernel_rfl
def Ff:lV G1 112 0=H (0,Z,3):=by kernel_rfl
def xF:lV G1 112 1=H (3,Z,3):=by kernel_rfl
def As:lV G1 148 0=H (0,X9,1):=by kernel_rfl
def xG:lV G1 148 1=H (1,X9,1):=by kernel_rfl
def Lo:lV G1 148 2=H (2,X9,1):=by kernel_rfl
def Fg:lV G1 148 3=H (3,X9,1):=by kernel_rfl
def adH:lV G1 148 4=H (4,X9,1):=by kernel_rfl
def Vh:lV G1 148 5=H (5,X9,1):=by kernel_rfl
def atf:yO G1 148=H ([(0,1),(1,1),(2,1),(3,1),(4,1),(5,1)],[.slice G0 0 0,.slice G0 0 0,.slice G0 0 0,.slice G0 0 0,.map G0,G 0]):=by kernel_rfl
def Vi:tG G1 149=H (X9,1):=by kernel_rfl
def Vj:tG G1 151=H (Z,1):=by kernel_rfl
def Vk:Lb G1 151=H [.nilFunc]:=by kernel_rfl
def Fh:lV G1 151 0=H (0,X9,1):=by kernel_rfl
def Vl:yO G1 151=H ([(0,1)],[.nilFunc]):=by kernel_rfl
def atg:Iy G1 152=H 151:=by kernel_rfl
def Vm:Pu G1 152=H (G0,1):=by kernel_rfl
def ath:Iy G1 157=H 26:=by kernel_rfl
def Oh:Pu G1 157=H (G0,1):=by kernel_rfl
def amk:Pu G1 168=H (H 4,2):=by kernel_rfl
def afH:Pu G1 191=H (H 4,1):=by kernel_rfl
def ati:Iy G1 212=H 215:=by kernel_rfl
def atj:Pu G1 212=H (G0,6):=by kernel_rfl
def xH:tG G1 215=H (Z,6):=by kernel_rfl
def Fi:Lb G1 215=H [G 0,G 0,G 0,G 0,G 0,G 0]:=by kernel_rfl
def Vn:lV G1 215 0=H (0,Z,3):=by kernel_rfl
def Fj:lV G1 215 1=H (3,Z,3):=by kernel_rfl
def Oi:yO G1 215=H ([(0,3),(3,3)],[G 0,G 0,G 0,G 0,G 0,G 0]):=by kernel_rfl
def aml:lV G1 218 0=H (0,X9,1):=by kernel_rfl
def Vo:lV G1 218 2=H (4,Z,3):=by kernel_rfl
def Vp:lV G1 218 3=H (7,X9,1):=by kernel_rfl
def amm:lV G1 218 4=H (8,X9,1):=by kernel_rfl
def Lp:lV G1 218 5=H (9,X9,1):=by kernel_rfl
def Vq:lV G1 218 7=H (11,X9,1):=by kernel_rfl
def afI:tG G1 222=H (Z,6):=by kernel_rfl
def afJ:Lb G1 222=H [G 0,G 0,G 0,G 0,G 0,G 0]:=by kernel_rfl
def kN:lV G1 222 0=H (0,Z,3):=by kernel_rfl
def kO:lV G1 222 1=H (3,Z,3):=by kernel_rfl
def atk:yO G1 222=H ([(0,3),(3,3)],[G 0,G 0,G 0,G 0,G 0,G 0]):=by kernel_rfl
def amn:tG G1 229=H (Z,8):=by kernel_rfl
def afK:Lb G1 229=H [.bool X9,.string ⟨#[]⟩,.bool X9,.string ⟨#[]⟩,.bool X9,.string ⟨#[]⟩,.bool X9,.string ⟨#[]⟩]:=by kernel_rfl
def Fk:Pu G1 229=H (H 4,2):=by kernel_rfl
def amo:yO G1 229=H ([(0,2),(2,2),(4,2),(6,2)],[.bool X9,.string ⟨#[]⟩,.bool X9,.string ⟨#[]⟩,.bool X9,.string ⟨#[]⟩,.bool X9,.string ⟨#[]⟩]):=by kernel_rfl
def Fl:ikP G1 231=H .u64:=by kernel_rfl
def fG:Iy G1 233=H 231:=by kernel_rfl
def iJ:Pu G1 233=H (G0,1):=by kernel_rfl
def atl:tG G1 243=H (Z,3):=by kernel_rfl
def atm:Lb G1 243=H [.nilFunc,.nilFunc,.nilFunc]:=by kernel_rfl
def atn:yO G1 243=H ([(0,1),(1,1),(2,1)],[.nilFunc,.nilFunc,.nilFunc]):=by kernel_rfl
def amp:lV G1 245 0=H (0,X9,1):=by kernel_rfl
def amq:lV G1 245 1=H (1,X9,1):=by kernel_rfl
def amr:lV G1 245 2=H (2,X9,1):=by kernel_rfl
def afL:tG G1 257=H (Z,6):=by kernel_rfl
def abT:Lb G1 257=H [.bool X9,.string ⟨#[]⟩,.bool X9,.string ⟨#[]⟩,.bool X9,.string ⟨#[]⟩]:=by kernel_rfl
def Vr:Pu G1 257=H (H 3,2):=by kernel_rfl
def ato:yO G1 257=H ([(0,2),(2,2),(4,2)],[.bool X9,.string ⟨#[]⟩,.bool X9,.string ⟨#[]⟩,.bool X9,.string ⟨#[]⟩]):=by kernel_rfl
def atp:tG G1 270=H (Z,18):=by kernel_rfl
def atq:Lb G1 270=H [G 0,G 0,G 0,G 0,G 0,G 0,G 0,G 0,G 0,G 0,G 0,G 0,G 0,G 0,G 0,G 0,G 0,G 0]:=by kernel_rfl
def ams:Pu G1 270=H (H 6,3):=by kernel_rfl
def atr:yO G1 270=H ([(0,3),(3,3),(6,3),(9,3),(12,3),(15,3)],[G 0,G 0,G 0,G 0,G 0,G 0,G 0,G 0,G 0,G 0,G 0,G 0,G 0,G 0,G 0,G 0,G 0,G 0]):=by kernel_rfl
def afM:tG G1 273=H (Z,6):=by kernel_rfl
def afN:Lb G1 273=H [.bool X9,.string ⟨#[]⟩,.bool X9,.string ⟨#[]⟩,.bool X9,.string ⟨#[]⟩]:=by kernel_rfl
def qT:Pu G1 273=H (H 3,2):=by kernel_rfl
def ats:tG G1 280=H (Z,18):=by kernel_rfl
def att:Lb G1 280=H [G 0,G 0,G 0,G 0,G 0,G 0,G 0,G 0,G 0,G 0,G 0,G 0,G 0,G 0,G 0,G 0,G 0,G 0]:=by kernel_rfl
def atu:yO G1 280=H ([(0,6),(6,6),(12,6)],[G 0,G 0,G 0,G 0,G 0,G 0,G 0,G 0,G 0,G 0,G 0,G 0,G 0,G 0,G 0,G 0,G 0,G 0]):=by kernel_rfl
def atv:Lb G1 325=H [G 0,G 0,G 0,G 0,G 0,G 0,G 0,G 0,G 0,G 0,G 0,G 0,G 0,G 0,G 0,G 0,G 0,G 0,G 0,G 0,G 0,G 0,G 0,G 0]:=by kernel_rfl
def sJ:Pu G1 325=H (H 8,3):=by kernel_rfl
def amt:tG G1 333=H (Z,3):=by kernel_rfl
def amu:Lb G1 333=H [G 0,G 0,G 0]:=by kernel_rfl
def vO:Pu G1 333=H (H 3,1):=by kernel_rfl
def atw:yO G1 333=H ([(0,1),(1,1),(2,1)],[G 0,G 0,G 0]):=by kernel_rfl
def fH    : EqB G1 30 [G x0,G x1,G x2] [G y0,G y1,G y2] (decide (x0=y0/\x1=y1/\x2=y2)):=⟨by kernel_rfl,(qL 9998).iff alB⟩
def lO    : NeB G1 30 [G x0,G x1,G x2] [G y0,G y1,G y2] (decide (¬(x0=y0/\x1=y1/\x2=y2))):=⟨by kernel_rfl,(qL 9998).iff avB⟩
def atx    : EqB G1 36 [G x0,G x1,G x2] [G y0,G y1,G y2] (decide (x0=y0/\x1=y1/\x2=y2)):=⟨by kernel_rfl,(alm 9998).iff alB⟩
def aty{a d:Int}{b e:Int}{c f:Int}:EqB G1 39 [G x0,G x1,G x2,G x3,G x4,G x5,G a,G b,G c] [G y0,G y1,G y2,G y3,G y4,G y5,G d,G e,G f] (decide (x0=y0/\x1=y1/\x2=y2/\x3=y3/\x4=y4/\x5=y5/\a=d/\b=e/\c=f)):=⟨by kernel_rfl,(ae9 9997).iff alB⟩
def atz       : EqB G1 56 [G x0,G x1,G x2,G x3,G x4,G x5] [G y0,G y1,G y2,G y3,G y4,G y5] (decide (x0=y0/\x1=y1/\x2=y2/\x3=y3/\x4=y4/\x5=y5)):=⟨by kernel_rfl,(afa 9997).iff alB⟩
def amv       : NeB G1 56 [G x0,G x1,G x2,G x3,G x4,G x5] [G y0,G y1,G y2,G y3,G y4,G y5] (decide (¬(x0=y0/\x1=y1/\x2=y2/\x3=y3/\x4=y4/\x5=y5))):=⟨by kernel_rfl,(afa 9997).iff avB⟩
def apJ{x0 y0:Bool}{x1 y1:ByteArray}{x2 y2:Bool}{x3 y3:ByteArray}{x4 y4:Bool}{x5 y5:ByteArray}{a c:Bool}{b d:ByteArray}:EqB G1 229 [.bool x0,.string x1,.bool x2,.string x3,.bool x4,.string x5,.bool a,.string b] [.bool y0,.string y1,.bool y2,.string y3,.bool y4,.string y5,.bool c,.string d] (decide (x0=y0/\x1=y1/\x2=y2/\x3=y3/\x4=y4/\x5=y5/\a=c/\b=d)):=⟨by kernel_rfl,(apc 9997).iff alB⟩
end
section
set_option maxRecDepth 100000
attribute [local irreducible] bf M fY cJ cU Code.wp
attribute [local congr] dK dL cZ dJ
variable{q:P3}{ts:List T3}{N cap:Nat}{A:Option Addr}{op:Bool}
def Cf{p:P3}:eS G1 38 [pt p,pt q] (.bool (decide (p.Lt q))):=by
 intro w;refine⟨bK func38 (by kernel_rfl),?_⟩;have m:=Mem.refl w
 go_enter func38,ntmps38
 apply kX 15 [2,1,0,0] m;simp only[↓U,iW,j,aa];intro c d u m;refine bB O ?_ ?_<;>intro a
 .apply aG 10 [2,1,0] m;simp only[↓U,iW,j,aa];refine aU O O ?_;try simp only[zD,zE]
  exact⟨_,O,m.ext,by simp only[P3.lt_x a]⟩
 have ex:p.x=q.x:=by omega
 apply aG 10 [2,1,0,0] m;simp only[↓U,iX,j,aa];refine bB O ?_ ?_<;>intro b
 .apply aG 10 [2,1,0] m;simp only[↓U,iX,j,aa];refine aU O O ?_;try simp only[zD,zE]
  exact⟨_,O,m.ext,by simp only[P3.lt_y ex b]⟩
 have ey:p.y=q.y:=by omega
 apply aG 11 [2,1,0] m;simp only[↓U,kC,j,aa];refine aU O O ?_;try simp only[zD,zE]
 exact⟨_,O,m.ext,by simp only[P3.lt_z ex ey]⟩
def amw{a b:E3}:eS G1 78 [ed a,ed b] (.bool (ltE a b)):=by
 intro w;refine⟨bK func78 (by kernel_rfl),?_⟩;have m:=Mem.refl w
 go_enter func78,ntmps78
 apply kX 15 [2,1,0] m;simp only[↓U,vA,aN,ag,ah,aa];refine λd=>λe=>⟨_,lO,by omega,?_⟩
 intro u m;refine bB O ?_ ?_<;>intro c
 .apply aG 6 [2,1,0] m;simp only[↓U,vA,aN,ag,ah,aa];apply I0;omega;refine tK m O O (Cf (p:=a.1) (q:=b.1)) 3 [] ?_;simp only[↓U];intro u m;refine aU O O ?_;try simp only[zD,zE]
  exact⟨_,O,m.ext,by rw[ltE,Z9 (λh=>c (by rw[h];exact⟨O,O,O⟩))]⟩
 apply aG 7 [2,1,0] m;simp only[↓U,vA,aN,ag,ah,aa];apply I0;omega;refine tK m O O (Cf (p:=a.2) (q:=b.2)) 3 [] ?_;simp only[↓U];intro u m;refine aU O O ?_;try simp only[zD,zE]
 exact⟨_,O,m.ext,by rw[ltE,K0 (λh=>h (P3.eq (Classical.not_not.1 c).1 (Classical.not_not.1 c).2.1 (Classical.not_not.1 c).2.2))]⟩
def ahk(w:an)(f:cN w A N ts)(B:N<=1000000000):dF G1 76 [.slice A N cap] w (SL 56 6 ((aR ts).flatMap bG) (aR ts).length w):=by
 refine⟨bK func76 (by kernel_rfl),?_⟩;have m:=Mem.refl w
 go_enter func76,ntmps76
 apply fD 6 [0] m;simp only[↓U];refine C aK ?_;replace m:=m.nilO 56 6;apply aJ 7 [0] m;simp only[↓U];refine bU [3,4] [5,6,7,8,9,10,11,12,13,14,15,16,17,18,19,20,21,22,23,24,25,26,27,28,29,30,31,32,33] (λn vs q=>∃(k:Nat)(c:Option Addr)(d:Nat),vs=[.slice c (aR (ts.take k)).length d,G (k:Int)]/\Mem w q [oI 56 6 c (aR (ts.take k)).length d ((aR (ts.take k)).flatMap bG)]/\(k<=N)/\(n=N-k)) ?_ ?_
 .exact⟨_,0,_,_,O,m,bu _,O⟩
 intro n vs wr h u x r;obtain⟨k,c,d,rfl,m,D,E⟩:=h;simp only[zu,zF,zG];apply aG 8 [0,0] m;simp only[↓U,jL];refine bB O ?_ ?_<;>intro F
 .obtain⟨t,e,_,a,rfl,v⟩:=f.get (i:=k) (by omega);apply sO 24 [0,1,0,1,1,1,1] m;simp only[↓U,eO,mH,fJ,l,aN,pU,ai,aj,aa,ag,ah];refine⟨_,λu m=>((v.ext m.ext).lies dG bA),λy=>⟨by omega,?_⟩⟩;intro u m;apply S 5 [1,1,0] m;simp only[↓U,l,aN,pU,ag,ah,aa];apply I0;omega;refine aiG O O O ?_;intro u z g j p;replace m:=m.newB g j p;simp only[I];refine bW m 2 O O xU Eo O (by decide) O O O (m.b 0 O).rowsO (jB O) (by have:=kF (ts.take k);rw[bz] at this;omega) (by have:=kF (ts.take k);rw[bz] at this;omega) ?_;intro c d u m;simp only[zF,zG] at m;rw[show (aR (ts.take k)).flatMap bG++_=(aR (ts.take (k+1))).flatMap bG by rw[sX e,bi];rfl,show (aR (ts.take k)).length+3=(aR (ts.take (k+1))).length by rw[sX e,bg];rfl] at m;rw[show (aR (ts.take k)).length+3=(aR (ts.take (k+1))).length by rw[sX e,bg];rfl];apply aJ 8 [0] m;simp only[↓U];apply I0;omega;exact r (N-(k+1)) _ _ (by omega) (by kernel_rfl) ⟨k+1,_,_,O,(m.sel [X9,X9,Z]),by omega,O⟩
 have s:k=N:=by omega
 rw[s,show ts.take N=ts from a_ (by rw[f.len];exact ba _)] at m ⊢;apply aG 7 [] m;simp only[↓U];exact aU O O ⟨_,O,m.ext,⟨_,_,_,O,O,(m.o 0 O)⟩⟩
def Rt{es:List E3}{e:E3}(w:an)(d:pH bG 6 w A N es)(z:N<=1000000000):dF G1 77 [.slice A N cap,ed e] w (λv _=>v=G ((kG es e:Nat):Int)):=by
 refine⟨bK func77 (by kernel_rfl),?_⟩;have m:=Mem.refl w
 go_enter func77,ntmps77
 apply kX 15 [0] m;simp only[↓U];intro j u m;refine bU [5,6] [7,8,9,10,11,12,13,14,15,16,17,18,19,20] (λn vs p=>∃(k q:Nat),vs=[G (q:Int),G (k:Int)]/\Mem w p [bI j (bG e) 56]/\(q=kG (es.take k) e)/\(k<=N)/\(n=N-k)) ?_ ?_
 .exact⟨_,0,0,O,m,O,bu _,O⟩
 intro n vs wr l u y g;obtain⟨k,q,rfl,m,o,B,C⟩:=l;subst o;simp only[zu,zF,zG];apply aG 8 [0,0] m;simp only[↓U,xC];refine bB O ?_ ?_<;>intro D
 .obtain⟨x,f,a,rfl,t⟩:=d.get (i:=k) (by omega);apply aG 4 [0] m;simp only[↓U];refine mq m aD (by kernel_rfl) (fE 6 [0,4,1] ?_);simp only[↓U,yE,xD,ai,aj];refine⟨_,λu m=>((t.ext m.ext).lies sZ jD),_,atz,by omega,?_⟩;refine bM ?_;intro u m;refine gc (bB O (λb=>?_) (λb=>?_))
  .have s:x=e:=pv (P3.eq b.1 b.2.1 b.2.2.1) (P3.eq b.2.2.2.1 b.2.2.2.2.1 b.2.2.2.2.2);have E:kG (es.take k) e<=N:=ax ar5 (by rw[bz];omega);have c:=acV (e:=e) f;rw[Z9 s] at c;apply aG 11 [0] m;simp only[↓U];apply I0;omega;rw[show ((kG (es.take k) e:Nat):Int)+1=((kG (es.take (k+1)) e:Nat):Int) by rw[c];rfl];exact g (N-(k+1)) _ _ (by omega) (by kernel_rfl) ⟨k+1,kG (es.take (k+1)) e,O,m,O,by omega,O⟩
  have c:kG (es.take (k+1)) e=kG (es.take k) e:=(acV (e:=e) f).trans (by rw[K0 (λh=>b (by rw[h];exact⟨O,O,O,O,O,O⟩))];rfl);apply aG 7 [0] m;simp only[↓U];apply I0;omega;rw[<-c];exact g (N-(k+1)) _ _ (by omega) (by kernel_rfl) ⟨k+1,kG (es.take (k+1)) e,O,m,O,by omega,O⟩
 have r:k=N:=by omega
 rw[r,show es.take N=es from a_ (by rw[d.len];exact ba _)];apply aG 7 [] m;simp only[↓U];exact aU O O ⟨_,O,m.ext,O⟩
def apK{ps:List P3}{p:P3}(w:an)(c:pH pI 3 w A N ps)(Q:N<=1000000000)(z:N<=cap):dF G1 82 [.slice A N cap,pt p] w (λv w'=>(v=.slice A N cap/\iG ps p=ps)\/SL 30 3 ((iG ps p).flatMap pI) (iG ps p).length w v w'):=by
 refine⟨agN,?_⟩;have m:=Mem.refl w;obtain rfl:ps.length=N:=c.len
 go_enter func82,ntmps82
 apply kX 11 [0] m;simp only[↓U];intro D u m;refine bU [5] [6,8,9,10,11,12,13,14,15,16,17,18,19,20,21] (λn vs H=>∃(k:Nat),vs=[G (k:Int)]/\Mem w H [bI D (pI p) 30]/\(Pre (λx=>decide (x.Lt p)) ps k)/\(k<=ps.length)/\(n=ps.length-k)) ?_ ?_
 .exact⟨_,0,O,m,Pre.zero,bu _,O⟩
 intro n vs wr F u P J;obtain⟨k,rfl,m,t,R,T⟩:=F;simp only[zu,zF,zG];apply aG 8 [0,0] m;simp only[↓U,xE];refine bB O ?_ ?_<;>intro V
 .obtain⟨x,j,a,rfl,B⟩:=c.get (i:=k) (by omega);apply aG 3 [0] m;simp only[↓U];refine mq m aD (by kernel_rfl) (fE 5 [0,0,1] ?_);simp only[↓U,Aq,aN,ai,aj];refine⟨_,λu m=>((B.ext m.ext).lies aF aA),by omega,?_⟩;refine jF O O Cf (L aK (bM ?_));intro u m;apply S 6 [0] m;simp only[↓U];refine lL O ?_ ?_<;>intro y
  .have l:acW ps p=k:=aq8 t j (by simpa using y);apply aG 3 [0] m;simp only[↓U];refine mq m aD (by kernel_rfl) (fE 12 [1,0,0,0,0,0,0,0,1,0] ?_);simp only[↓U,xE,Aq,aN,ai,aj];refine⟨_,λu m=>((B.ext m.ext).lies aF aA),_,fH,by omega,?_⟩;refine bM ?_;intro u m;refine gc (bB O (λf=>?_) (λf=>?_))
   .have K:x=p:=P3.eq f.1 f.2.1 f.2.2;apply aG 6 [] m;simp only[↓U];exact aU O O ⟨_,O,m.ext,.inl ⟨O,by rw[iG,l,j,Z9 (by rw[K])]⟩⟩
   have e:iG ps p=ps.take k++[p]++ps.drop k:=by unfold iG;rw[l,K0 (by rw[j];exact λh=>f (by cases h;exact⟨O,O,O⟩))]
   apply aG 3 [0] m;simp only[↓U];refine C aK ?_;replace m:=m.nilO 30 3;apply aJ 6 [0] m;simp only[↓U];refine C (lY kK aA O O (ai _) (by omega) (by omega)) ?_;simp only[I];refine bW m 0 O O kK vK O (by decide) O O (by rw[kE Mt,bz,ep (by omega)]) (((c.take (by omega)).ext m.ext).cells Mt (by decide)) (Ti _) (by omega) (by omega) ?_;intro d g u m;simp only[zF,zG] at m;rw[cl,aj] at m;rw[aj];apply aJ 6 [2,0] m;simp only[↓U,aN];refine tC O ?_;intro u E q r s;replace m:=m.newB q r s;simp only[I];refine bW m 1 O O kK vK O (by decide) O O O (m.b 0 O).rowsO (jB O) (by omega) (by omega) ?_;intro d g u m;simp only[zF,zG] at m;apply aJ 7 [0] m;simp only[↓U];refine C (nI kK aA O O (ai _) (by omega) (by omega) O) ?_;simp only[I];refine bW m 1 O O kK vK O (by decide) O O (by rw[kE Mt,ix]) ((c.ext m.ext).cellsD Mt (by decide) z) (Ti _) (by omega) (by omega) ?_;intro d g u m;simp only[zF,zG] at m;apply aJ 3 [] m;simp only[↓U];exact aU O O ⟨_,O,m.ext,.inr ⟨_,_,_,by rw[e];simp;omega,rfl,(m.o 1 rfl).as (by rw[e,bi,bi];rfl)⟩⟩
  have M:=t.step j (by simpa using y);apply aG 7 [0] m;simp only[↓U];apply I0;omega;exact J (ps.length-(k+1)) _ _ (by omega) (by kernel_rfl) ⟨k+1,O,m,M,by omega,O⟩
 obtain rfl:k=ps.length:=by omega
 have l:acW ps p=ps.length:=akX t;have e:iG ps p=ps.take ps.length++[p]++ps.drop ps.length:=by unfold iG;rw[l,K0 (by rw[da (ba _)];simp)]
 apply aG 3 [0] m;simp only[↓U];refine mq m aD (by kernel_rfl) (fE 12 [2,0,0,0,0,0,0] ?_);simp only[↓U,xE];apply I0;omega;refine bM ?_;intro u m;apply S 4 [0] m;simp only[↓U];refine C aK ?_;replace m:=m.nilO 30 3;apply aJ 6 [0] m;simp only[↓U];refine C (lY kK aA O O (ai _) (by omega) (by omega)) ?_;simp only[I];refine bW m 0 O O kK vK O (by decide) O O (by rw[kE Mt,bz,ep (by omega)]) (((c.take (by omega)).ext m.ext).cells Mt (by decide)) (Ti _) (by omega) (by omega) ?_;intro d g u m;simp only[zF,zG] at m;rw[cl,aj] at m;rw[aj];apply aJ 6 [2,0] m;simp only[↓U,aN];refine tC O ?_;intro u E q r s;replace m:=m.newB q r s;simp only[I];refine bW m 1 O O kK vK O (by decide) O O O (m.b 0 O).rowsO (jB O) (by omega) (by omega) ?_;intro d g u m;simp only[zF,zG] at m;apply aJ 7 [0] m;simp only[↓U];refine C (nI kK aA O O (ai _) (by omega) (by omega) O) ?_;simp only[I];refine bW m 1 O O kK vK O (by decide) O O (by rw[kE Mt,ix]) ((c.ext m.ext).cellsD Mt (by decide) z) (Ti _) (by omega) (by omega) ?_;intro d g u m;simp only[zF,zG] at m;apply aJ 3 [] m;simp only[↓U];exact aU O O ⟨_,O,m.ext,.inr ⟨_,_,_,by rw[e];simp,rfl,(m.o 1 rfl).as (by rw[e,bi,bi];rfl)⟩⟩
def afO{w0 w:an}{is:List It}{A:Option Addr}{n cap:Nat}{ps:List P3}{p:P3}(m:Mem w0 w is)(k:Nat)(c:is[k]? = H (oI 30 3 A n cap (ps.flatMap pI)))(g:n<=1000000000) :
 Calls G1 82 [.slice A n cap,pt p].toArray w λe w'=>∃v i,e=.returned v/\Mem w0 w' (is.set k i)/\∃a d n',n'=(iG ps p).length/\v=.slice a n' d/\i=oI 30 3 a n' d ((iG ps p).flatMap pI):=by
 have b:=m.o k c;refine (apK (p:=p) w (b.lat Mt (by decide)) g b.le).2.mono ?_;rintro e w' ⟨v,rfl,f,h⟩;rcases h with ⟨rfl,h⟩|⟨a,d,n',rfl,rfl,j⟩
 .exact⟨_,oI 30 3 A n cap (ps.flatMap pI),O,by rw[ar6 c];exact m.ext' f,A,cap,n,by rw[h];exact (b.num Mt (by decide)).symm,O,by rw[h]⟩
 exact⟨_,_,O,(m.newO f j).mv k c,_,_,_,O,O,O⟩
def ai1(w:an)(h:cN w A N ts)(B:N<=100000000):dF G1 36 [.slice A N cap] w (SL 30 3 ((cR ts).flatMap pI) (cR ts).length w):=by
 refine⟨bK func36 (by kernel_rfl),?_⟩;have m:=Mem.refl w
 go_enter func36,ntmps36
 apply fD 6 [0] m;simp only[↓U];refine C aK ?_;replace m:=m.nilO 30 3;apply aJ 7 [0] m;simp only[↓U];refine bU [3,4] [5,6,7,8,9,10,11,12,13,14,15,16,17,18,19,20,21,22,23] (λn vs r=>∃(k n3:Nat)(d:Option Addr)(f:Nat),vs=[.slice d n3 f,G (k:Int)]/\Mem w r [oI 30 3 d n3 f ((cR (ts.take k)).flatMap pI)]/\(n3=(cR (ts.take k)).length)/\(k<=N)/\(n=N-k)) ?_ ?_
 .exact⟨_,0,0,_,_,O,m,O,bu _,O⟩
 intro n vs wr q u z s;obtain⟨k,n3,d,f,rfl,m,e,D,E⟩:=q;simp only[zu,zF,zG];apply aG 8 [0,0] m;simp only[↓U,jL];refine bB O ?_ ?_<;>intro I
 .obtain⟨t,j,_,a,rfl,g⟩:=h.get (i:=k) (by omega);have x:=Ek (ts.take k);have F:=Ac (cR (ts.take k)) t.a;have H:=Ac (iG (cR (ts.take k)) t.a) t.b;rw[bz] at x;apply aG 28 [4,1,0,0,0] m;simp only[↓U,eO,l,ai,aj,ag,ah,aa];refine⟨_,λu m=>((jS.cor (g.ext m.ext) (c:=0) (by decide)).lies aF aA),by omega,?_⟩;refine nK m 0 agN O O (λm=>afO (p:=t.a) m 0 O (by omega)) ?_;rintro v i u m ⟨d,f,n3,e,rfl,rfl⟩;simp only[zF,zG] at m;apply aJ 27 [1,0,0,0] m;simp only[↓U,eO,l,R,ai,aj,ag,ah,aa];refine⟨_,λu m=>((jS.cor (g.ext m.ext) (c:=1) (by decide)).lies aF aA),by omega,?_⟩;refine nK m 0 agN O O (λm=>afO (p:=t.b) m 0 O (by omega)) ?_;rintro v i u m ⟨d,f,n3,e,rfl,rfl⟩;simp only[zF,zG] at m;apply aJ 27 [1,0,0,0] m;simp only[↓U,eO,l,R,ai,aj,ag,ah,aa];refine⟨_,λu m=>((jS.cor (g.ext m.ext) (c:=2) (by decide)).lies aF aA),by omega,?_⟩;refine nK m 0 agN O O (λm=>afO (p:=t.c) m 0 O (by omega)) ?_;rintro v i u m ⟨d,f,n3,e,rfl,rfl⟩;simp only[zF,zG] at m;apply aJ 23 [2,0] m;simp only[↓U,R];apply I0;omega;exact s (N-(k+1)) _ _ (by omega) (by kernel_rfl) ⟨k+1,_,_,_,O,(m.reO 0 O ((m.o 0 O).as (by rw[Kv j]))),by rw[Kv j];exact e,by omega,O⟩
 have y:k=N:=by omega
 rw[y,show ts.take N=ts from a_ (by rw[h.len];exact ba _)] at m e;apply aG 7 [] m;simp only[↓U];exact aU O O ⟨_,O,m.ext,⟨_,_,_,e,O,(m.o 0 O)⟩⟩
def amx{p:P3}(w:an)(s:pH aM 9 w A N ts)(P:N<=1000000000):dF G1 201 [.slice A N cap,pt p,pt q] w (λv _=>v=.tuple #[pt ((bD ts p q).getD p),.bool (bD ts p q).isSome]):=by
 refine⟨bK func201 (by kernel_rfl),?_⟩;have m:=Mem.refl w
 go_enter func201,ntmps201
 apply kX 13 [0] m;simp only[↓U,cY];intro y z D u m;refine bU [8] [7,9,10,11,12,13,14,15,16,17,18,19,20,21,22,23,24,25,26,27,28,29,30,31,32,33,34,35,36,37,38,39,40,41,42,43,44,45,46,47] (λn vs F=>∃(k:Nat),vs=[G (k:Int)]/\Mem w F [bI D [G 0,G 0,G 0] 30,bI z (pI q) 30,bI y (pI p) 30]/\(bD (ts.take k) p q=G0)/\(k<=N)/\(n=N-k)) ?_ ?_
 .exact⟨_,0,O,m,O,bu _,O⟩
 intro n vs wr E u M H;obtain⟨k,rfl,m,g,Q,S⟩:=E;simp only[zu,zF,zG];apply aG 8 [0,0] m;simp only[↓U,jL];refine bB O ?_ ?_<;>intro T
 .obtain⟨t,j,a,rfl,e⟩:=s.get (i:=k) (by omega);apply aG 21 [4,1,0] m;simp only[↓U];apply I0;omega;refine mq m aD (by kernel_rfl) (fE 9 [0,0,3] ?_);simp only[↓U,eO,l,aN,ai,aj,ag,ah,aa];refine⟨_,λu m=>((jS.cor (e.ext m.ext) (c:=0) (by omega)).lies aF aA),_,fH,by omega,?_⟩;refine bZ O (λd=>aI) (bZ O (λd=>aI) (bZ O (λd=>aI) (bZ O (λd=>fZ (m:=0) (n:=1) (r:=1) (B d O) O (by decide)) ?_)));simp only[I];refine bZ O (λd=>cW (m:=1) (n:=3) (r:=1) (B d O) O (by decide) (by decide)) ?_;simp only[I];refine bZ O (λd=>aP fP bA (B d O) (B d O) (by omega) (by omega) (qY (ai _))) (bZ O (λd=>aW fN aA (B d O) (B d O) (by decide) (by decide) O) ?_);simp only[I];refine eG O (λd u m=>bE (B d O) ((jS.cor (e.ext m.ext) (c:=1) (by omega)).lies aF aA)) (eG O (λd u m=>bE O ((m.b 1 O).full aF aA)) (bZ O (λd=>oQ (B d O) (B d O)) (L (dR O O O) (bM ?_))));intro u m;refine gc ?_;simp only[I];refine lL O ?_ ?_<;>intro f
  .have h:=El ((uR j g).trans (avn  (Bo.1 f)));apply aG 6 [0] m;simp only[↓U,R];apply I0;omega;refine C (cW (m:=2) (n:=3) (r:=2) O O (by decide) (by decide)) ?_;apply iV 7 [0,0,0] m;simp only[↓U,eO,l,aN,ai,aj,ag,ah,aa];refine⟨_,λu m=>((jS.cor (e.ext m.ext) (c:=2) (by omega)).lies aF aA),by omega,?_⟩;intro u m;refine jG O ⟨_,O,((m.b 0 O).full aF aA)⟩ O ?_;try simp only[zD,zE]
   exact⟨_,O,m.ext,by rw[h];rfl⟩
  have o:=Nh f;apply aG 19 [1,0] m;simp only[↓U,R];apply I0;omega;refine mq m aD (by kernel_rfl) (fE 9 [0,0,3] ?_);simp only[↓U,eO,l,aN,ai,aj,ag,ah,aa];refine⟨_,λu m=>((jS.cor (e.ext m.ext) (c:=1) (by omega)).lies aF aA),_,fH,by omega,?_⟩;refine bZ O (λd=>aI) (bZ O (λd=>aI) (bZ O (λd=>aI) (bZ O (λd=>fZ (m:=1) (n:=1) (r:=2) (B d O) O (by decide)) ?_)));simp only[I];refine bZ O (λd=>cW (m:=2) (n:=3) (r:=2) (B d O) O (by decide) (by decide)) ?_;simp only[I];refine bZ O (λd=>aP fP bA (B d O) (B d O) (by omega) (by omega) (qY (ai _))) (bZ O (λd=>aW fN aA (B d O) (B d O) (by decide) (by decide) O) ?_);simp only[I];refine eG O (λd u m=>bE (B d O) ((jS.cor (e.ext m.ext) (c:=2) (by omega)).lies aF aA)) (eG O (λd u m=>bE O ((m.b 1 O).full aF aA)) (bZ O (λd=>oQ (B d O) (B d O)) (L (dR O O O) (bM ?_))));intro u m;refine gc ?_;simp only[I];refine lL O ?_ ?_<;>intro f
  .have h:=El ((uR j g).trans (avo o (Bo.1 f)));apply aG 6 [0] m;simp only[↓U,R];apply I0;omega;refine C (cW (m:=3) (n:=3) (r:=0) O O (by decide) (by decide)) ?_;apply iV 7 [0,0,0] m;simp only[↓U,eO,l,aN,ai,aj,ag,ah,aa];refine⟨_,λu m=>((jS.cor (e.ext m.ext) (c:=0) (by omega)).lies aF aA),by omega,?_⟩;intro u m;refine jG O ⟨_,O,((m.b 0 O).full aF aA)⟩ O ?_;try simp only[zD,zE]
   exact⟨_,O,m.ext,by rw[h];rfl⟩
  have x:=Nh f;apply aG 19 [1,0] m;simp only[↓U,R];apply I0;omega;refine mq m aD (by kernel_rfl) (fE 9 [0,0,3] ?_);simp only[↓U,eO,l,aN,ai,aj,ag,ah,aa];refine⟨_,λu m=>((jS.cor (e.ext m.ext) (c:=2) (by omega)).lies aF aA),_,fH,by omega,?_⟩;refine bZ O (λd=>aI) (bZ O (λd=>aI) (bZ O (λd=>aI) (bZ O (λd=>fZ (m:=2) (n:=1) (r:=3) (B d O) O (by decide)) ?_)));simp only[I];refine bZ O (λd=>cW (m:=3) (n:=3) (r:=0) (B d O) O (by decide) (by decide)) ?_;simp only[I];refine bZ O (λd=>aP fP bA (B d O) (B d O) (by omega) (by omega) (qY (ai _))) (bZ O (λd=>aW fN aA (B d O) (B d O) (by decide) (by decide) O) ?_);simp only[I];refine eG O (λd u m=>bE (B d O) ((jS.cor (e.ext m.ext) (c:=0) (by omega)).lies aF aA)) (eG O (λd u m=>bE O ((m.b 1 O).full aF aA)) (bZ O (λd=>oQ (B d O) (B d O)) (L (dR O O O) (bM ?_))));intro u m;refine gc ?_;simp only[I];refine lL O ?_ ?_<;>intro f
  .have h:=El ((uR j g).trans (avp o x (Bo.1 f)));apply aG 6 [0] m;simp only[↓U,R];apply I0;omega;refine C (cW (m:=4) (n:=3) (r:=1) O O (by decide) (by decide)) ?_;apply iV 7 [0,0,0] m;simp only[↓U,eO,l,aN,ai,aj,ag,ah,aa];refine⟨_,λu m=>((jS.cor (e.ext m.ext) (c:=1) (by omega)).lies aF aA),by omega,?_⟩;intro u m;refine jG O ⟨_,O,((m.b 0 O).full aF aA)⟩ O ?_;try simp only[zD,zE]
   exact⟨_,O,m.ext,by rw[h];rfl⟩
  have K:=Nh f;apply aG 22 [2,0] m;simp only[↓U,R];apply I0;omega;exact H (N-(k+1)) _ _ (by omega) (by kernel_rfl) ⟨k+1,O,m,(uR j g).trans (avq o x K),by omega,O⟩
 have J:k=N:=by omega
 rw[J,show ts.take N=ts from a_ (by rw[s.len];exact ba _)] at g;apply sO 8 [3,0] m;simp only[↓U,aN,aa];intro u m;refine jG O ⟨_,O,((m.b 0 O).full aF aA)⟩ O ?_;try simp only[zD,zE]
 exact⟨_,O,m.ext,by rw[g];rfl⟩
def ai2{p:P3}(w:an)(hT:cN w A N ts)(hN:N<=100000000):dF G1 135 [.slice A N cap,pt p] w (λv _=>v=.bool (Kx ts p)):=by
 refine⟨bK func135 (by kernel_rfl),?_⟩;have m:=Mem.refl w
 go_enter func135,ntmps135
 apply kX 7 [0] m;simp only[↓U];intro V u m;refine C aK ?_;replace m:=m.nilO 39 9;apply aJ 3 [0] m;simp only[↓U];refine C aK ?_;replace m:=m.nilO 30 3;apply aJ 7 [0] m;simp only[↓U];refine bU [5,6,7] [8,14,15,16,17,18,19,20,21,22,23,24,25,26,27,28,29,30,31,32,33,34,35,36,37,38,39,40,41,42,43,44,45,46,47,48,49] (λn vs J=>∃(k e d B D:Nat)(z E:Option Addr),vs=[.slice z e B,.slice E d D,G (k:Int)]/\Mem w J [oI 30 3 E d D ((wW (ts.take k) p).flatMap pI),oI 39 9 z e B ((pJ (ts.take k) p).flatMap aM),bI V (pI p) 30]/\(e<=k*3)/\(d<=k*3)/\(k<=N)/\(n=N-k)) ?_ ?_
 .exact⟨_,0,_,_,_,_,_,_,O,m,ba _,ba _,bu _,O⟩
 intro n vs wr F u K1 am;obtain⟨k,e,d,B,D,z,E,rfl,m,ak,al,hk,hn⟩:=F;simp only[zu,zF,zG];apply aG 8 [0,0] m;simp only[↓U,jL];refine bB O ?_ ?_<;>intro au
 .obtain⟨t,ht,_,a,rfl,ae⟩:=hT.get (i:=k) (by omega);apply aG 8 [0] m;simp only[↓U];refine bU [5,6,8] [20,21,22,23,24,25,26,27,28,29,30,31,32,33,34,35,36,37,38,39,40,41,42,43,44,45,46,47,48,49] (λn vs J=>∃(c e d B D:Nat)(z E:Option Addr),vs=[.slice z e B,.slice E d D,G (c:Int)]/\Mem w J [oI 30 3 E d D ((yN ts p k t c).flatMap pI),oI 39 9 z e B ((Hw ts p k t c).flatMap aM),bI V (pI p) 30]/\(e<=k*3+c)/\(d<=k*3+c)/\(c<=3)/\(n=3-c)) ?_ ?_
  .rw[<-ao0 (t:=t),<-akZ (t:=t)] at m;exact⟨_,0,_,_,_,_,_,_,O,m,ak,al,bu _,O⟩
  intro n vs wr F u K2 af;obtain⟨c,e,d,B,D,z,E,rfl,m,ak,al,hc,az⟩:=F;simp only[zu,zF,zG];apply aG 6 [0,0] m;simp only[↓U];refine bB O ?_ ?_<;>intro av
  .have K:c<3:=by omega
   apply aG 4 [0] m;simp only[↓U];refine mq m aD (by kernel_rfl) (fE 8 [0,0,3] ?_);simp only[↓U,eO,l,aN,ai,aj];refine⟨_,λu m=>((jS.cor (ae.ext m.ext) (c:=c) (by omega)).lies aF aA),_,fH,by omega,?_⟩;refine bM ?_;intro u m;refine gc (bB O (λK=>?_) (λK=>?_))
   .have Q:t.cor c=p:=P3.eq K.1 K.2.1 K.2.2;apply aG 7 [0,1,0] m;simp only[↓U,eO,ai,aj];refine⟨_,λu m=>((ae.ext m.ext).lies dG bA),by omega,?_⟩;refine nJ O ?_;intro u g2 Y h_ k_;replace m:=m.newB Y h_ k_;simp only[I];refine bW m 2 O O fP kL O (by decide) O O O (m.b 0 O).rowsO (jB O) (by omega) (by omega) ?_;intro z B u m;simp only[zF,zG] at m;apply aJ 8 [0] m;simp only[↓U];apply I0;omega;refine C (cW O O (by omega) (Zj (k:=c+1))) ?_;apply aJ 3 [0,0,0] m;simp only[↓U,eO,l,ai,aj];refine⟨_,λu m=>((jS.cor (ae.ext m.ext) (c:=(c+1)%3) (by omega)).lies aF aA),by omega,?_⟩;refine tC O ?_;intro u g3 Y h_ k_;replace m:=m.newB Y h_ k_;simp only[I];refine bW m 2 O O kK vK O (by decide) O O O (m.b 0 O).rowsO (jB O) (by omega) (by omega) ?_;intro E D u m;simp only[zF,zG] at m;apply aJ 8 [0] m;simp only[↓U];apply I0;omega;exact af (3-(c+1)) _ _ (by omega) (by kernel_rfl) ⟨c+1,_,_,_,_,_,_,O,(((m.reO 3 O ((m.o 3 O).as (by rw[aiw Q,bi];rfl))).reO 2 rfl ((m.o 2 rfl).as (by rw[aeY Q,bi];rfl))).sel [X9,X9,Z,Z,Z]),by omega,by omega,by omega,rfl⟩
   have Q:¬t.cor c=p:=λh=>K (by rw[h];exact⟨O,O,O⟩);apply aG 7 [0] m;simp only[↓U];apply I0;omega;exact af (3-(c+1)) _ _ (by omega) (by kernel_rfl) ⟨c+1,_,_,_,_,_,_,O,((m.reO 1 O ((m.o 1 O).as (by rw[akY Q]))).reO 0 O ((m.o 0 O).as (by rw[aix Q]))),by omega,by omega,by omega,O⟩
  obtain rfl:c=3:=by omega
  rw[ao1 ht,ak0 ht] at m;apply aG 7 [0] m;simp only[↓U];apply I0;omega;exact am (N-(k+1)) _ _ (by omega) (by kernel_rfl) ⟨k+1,_,_,_,_,_,_,O,m,by omega,by omega,by omega,O⟩
 have ar:k=N:=by omega
 rw[ar,show ts.take N=ts from a_ (by rw[hT.len];exact ba _)] at m;obtain⟨M,hM⟩:∃M,M=pJ ts p:=⟨_,rfl⟩
 obtain⟨S,hS⟩:∃S,S=wW ts p:=⟨_,rfl⟩
 rw[<-hM,<-hS] at m;have h5:M.length=e:=(m.o 1 rfl).num ar4 (by decide);have h6:S.length=d:=(m.o 0 rfl).num Mt (by decide);have aI:=(m.o 0 rfl).le;have hP:Kx ts p=S.any (λs=>pK M p s (M.length-1) s):=by rw[hM,hS];rfl
 clear hM hS;apply aG 7 [0] m;simp only[↓U];refine bU [9] [4,10,11,12,13,50,51,52,53,54,55,56,57,58,59,60,61,62,63,64,65,66,67,68,69,70,71,72,73,74,75,76,77,78,79,80,81] (λn vs J=>∃(r:Nat),vs=[G (r:Int)]/\Mem w J [oI 30 3 E d D ((S).flatMap pI),oI 39 9 z e B ((M).flatMap aM),bI V (pI p) 30]/\((S.take r).any (λs=>pK M p s (M.length-1) s)=X9)/\(r<=d)/\(n=d-r)) ?_ ?_
 .exact⟨_,0,O,m,O,bu _,O⟩
 intro n vs wr F u K3 ag;obtain⟨r,rfl,m,X,ah,aE⟩:=F;simp only[zu,zF,zG];apply aG 8 [0,0] m;simp only[↓U,xE];refine bB O ?_ ?_<;>intro aw
 .obtain⟨g,T⟩:∃g,S[r]? = H g:=⟨_,ap (by omega)⟩
  obtain⟨gO,rfl⟩:=(m.o 0 rfl).some (by omega);apply sO 17 [0,0,0,0] m;simp only[↓U,Aq,cY,aN,ai,aj,aa];refine⟨_,λu m=>(lA (((m.o 0 O).at Mt T).lies aF aA)),λg2=>⟨by omega,?_⟩⟩;intro u m;refine bU [11] [4,12,13,60,61,62,63,64,65,66,67,68,69,70,71,72,73,74,75,76,77,78,79,80,81] (λn vs J=>∃(j:Nat)(x:P3),vs=[G (j:Int)]/\Mem w J [bI g2 (pI x) 30,oI 30 3 (H ⟨gO,0,G0⟩) d D (S.flatMap pI),oI 39 9 z e B ((M).flatMap aM),bI V (pI p) 30]/\(pK M p g (M.length-1) g=pK M p g (M.length-j) x)/\(1<=j)/\(j<=e+1)/\(n=e+1-j)) ?_ ?_
  .exact⟨_,1,g,O,m,O,ba _,by omega,O⟩
  intro n vs wr F u K4 ao;obtain⟨j,x,rfl,m,R,hj,ay,aH⟩:=F;simp only[zu,zF,zG];apply aG 8 [0,0] m;simp only[↓U,jL];refine bB O ?_ ?_<;>intro ax
  .obtain⟨f,hf⟩:∃f,M.length-j=f+1:=⟨M.length-j-1,by omega⟩
   rw[hf] at R;apply aG 8 [4,1,0] m;simp only[↓U,aN];refine cC m O O (amx (p:=p) (q:=x) _ ((m.o 2 O).lat ar4 (by decide)) (by omega)) ?_;rintro v u m rfl;apply iV 13 [0,0] m;simp only[↓U,cY,aN,aa];intro g3 u m;refine lL O ?_ ?_<;>intro W
   .have aq:bD M p x=G0:=by cases hb:bD M p x with|none=>rfl|some y=>rw[hb] at W;cases W
    have L:pK M p g (M.length-1) g=X9:=by rw[R,Zl aq]
    have ad:(S.take (r+1)).any (λs=>pK M p s (M.length-1) s)=X9:=by rw[pL T,X,L];rfl
    apply aG 7 [0] m;simp only[↓U];apply I0;omega;exact ag (d-(r+1)) _ _ (by omega) (by kernel_rfl) ⟨r+1,O,(m.sel [X9,X9,Z,Z,Z]),ad,by omega,O⟩
   obtain⟨y,hy⟩:∃y,bD M p x=H y:=by cases hb:bD M p x with|none=>rw[hb] at W;cases W|some y=>exact⟨y,rfl⟩
   rw[hy] at m;simp only[dt] at m;apply sO 7 [1,1,0] m;simp only[↓U,aN,aa];intro u m;refine mq m aD (by kernel_rfl) (fE 6 [2,0,0] ?_);simp only[↓U,aN,Aq,ai,aj];refine⟨_,λu m=>(lA (((m.o 2 O).at Mt T).lies aF aA)),_,fH,by omega,?_⟩;refine bM ?_;intro u m;refine gc (bB O (λP=>?_) (λP=>?_))
   .have ab:y=g:=P3.eq P.1 P.2.1 P.2.2;have L:S.any (λs=>pK M p s (M.length-1) s)=Z:=xS T (by show pK M p g (M.length-1) g=Z;rw[R];exact acX (by rw[hy,ab]));apply aG 5 [] m;simp only[↓U];refine aU O O ?_;try simp only[zD,zE]
    exact⟨_,O,m.ext,by rw[hP,L]⟩
   have ab:¬y=g:=λh=>P (by rw[h];exact⟨O,O,O⟩);apply aG 7 [0] m;simp only[↓U];apply I0;omega;exact ao (e+1-(j+1)) _ _ (by omega) (by kernel_rfl) ⟨j+1,y,O,(m.sel [X9,Z,Z,Z,Z]),by rw[R,Zm hy ab,show M.length-(j+1)=f by omega],by omega,by omega,O⟩
  have L:pK M p g (M.length-1) g=X9:=by rw[R,show M.length-j=0 by omega];rfl
  have ad:(S.take (r+1)).any (λs=>pK M p s (M.length-1) s)=X9:=by rw[pL T,X,L];rfl
  apply aG 7 [0] m;simp only[↓U];apply I0;omega;exact ag (d-(r+1)) _ _ (by omega) (by kernel_rfl) ⟨r+1,O,(m.sel [X9,Z,Z,Z]),ad,by omega,O⟩
 have ah:r=S.length:=by omega
 rw[ah,fe] at X;apply aG 6 [] m;simp only[↓U];refine aU O O ?_;try simp only[zD,zE]
 exact⟨_,O,m.ext,by rw[hP,X]⟩
def Vs{all a:List E3}{e:E3}(h:0<kG all (e.2,e.1)\/0<kG a e):rU all a e=a:=Z9 h
def aau{all a:List E3}{e:E3}{k:Nat}(h1:¬0<kG all (e.2,e.1))(h2:¬0<kG a e)(h:ait a e=k):rU all a e=a.take k++[e]++a.drop k:=by
 rw[rU,K0 (λh=>h.elim h1 h2),aeW,h]
def atA{w:an}{a:Addr}{e:E3}(h:jS w a (bG e)):jS w a [G e.1.x,G e.1.y,G e.1.z,G e.2.x,G e.2.y,G e.2.z]:=h
def gt0{n:Nat}:((0:Int)<(n:Int))↔0<n:=by omega
def Lr(w:an)(K:cN w A N ts)(hN:N<=100000000):dF G1 28 [.slice A N cap] w (SL 56 6 ((Y ts).flatMap bG) (Y ts).length w):=by
 refine⟨bK func28 (by kernel_rfl),?_⟩;have m:=Mem.refl w
 go_enter func28,ntmps28
 apply fD 7 [0] m;simp only[↓U];refine aX O O (ahk _ (K.ext m.ext) (by omega)) ?_;rintro v u g ⟨V,T,n3,ar,rfl,i⟩;replace m:=m.newO g i;have am:=kF ts;have au:=K.len;apply aJ 4 [0] m;simp only[↓U];refine C aK ?_;replace m:=m.nilO 56 6;apply aJ 7 [0] m;simp only[↓U];refine bU [4,5] [6,7,8,9,12,13,14,15,16,17,18,19,20,21,22,23,24,25,26,27,28,29,30,31,32,33,34,35,36,37,38,39,40,41,42,43,44,45,46,47,48,49,50,51,52,53,54,55,56,57,58,59,60,61,62,63] (λn vs D=>∃(k d r:Nat)(p:Option Addr),vs=[.slice p d r,G (k:Int)]/\Mem w D [oI 56 6 p d r ((((aR ts).take k).foldl (rU (aR ts)) []).flatMap bG),oI 56 6 V n3 T ((aR ts).flatMap bG)]/\(d<=k)/\(k<=n3)/\(n=n3-k)) ?_ ?_
 .exact⟨_,0,_,_,_,O,m,ba _,bu _,O⟩
 intro n vs wr t u K1 q;obtain⟨k,d,r,p,rfl,m,ao,hk,hn⟩:=t;simp only[zu,zF,zG];apply aG 8 [0,0] m;simp only[↓U,xC];refine bB O ?_ ?_<;>intro ak
 .obtain⟨e,M⟩:∃e,(aR ts)[k]? = H e:=⟨_,ap (by omega)⟩
  obtain⟨gO,rfl⟩:=(m.o 1 rfl).some (by omega);apply sO 14 [0,4,0] m;simp only[↓U,yE,Qh,xD,ai,aj,aa];refine⟨_,λu m=>(lA ((atA ((m.o 1 O).at yM M)).lies sZ jD)),λW=>⟨by omega,?_⟩⟩;intro u m;obtain⟨B,J⟩:∃B,B=((aR ts).take k).foldl (rU (aR ts)) []:=⟨_,rfl⟩
  rw[<-J] at m;have F:B.length=d:=(m.o 1 rfl).num yM (by decide);have av:=(m.o 1 rfl).le;have c:=aiu (all:=aR ts) M;rw[<-J] at c;rcases fm (kG (aR ts) (e.2,e.1)) with hz|hz
  .apply S 7 [1,1,0] m;simp only[↓U,vA,aN,pU,ag,ah,aa];apply I0;omega;refine cC m O O (Rt (es:=aR ts) (e:=(e.2,e.1)) _ ((m.o 2 O).lat yM (by decide)) (by omega)) ?_;rintro v u m rfl;apply aJ 4 [2,0,0,1,0] m;simp only[↓U,xD];apply I0;omega;refine gE O (cC m O O (Rt (es:=B) (e:=e) _ ((m.o 1 O).lat yM (by decide)) (by omega)) ?_);rintro v u m rfl;apply aJ 3 [0,0,0] m;simp only[↓U];refine bB O ?_ ?_<;>intro P
   .rw[Vs (.inr (gt0.1 P))] at c;apply aG 6 [0] m;simp only[↓U];apply I0;omega;exact q (n3-(k+1)) _ _ (by omega) (by kernel_rfl) ⟨k+1,_,_,_,O,((m.reO 1 O ((m.o 1 O).as (by rw[c]))).sel [X9,Z,Z]),by omega,by omega,O⟩
   have R:¬0<kG B e:=λh=>P (gt0.2 h);apply aG 7 [0] m;simp only[↓U];refine bU [7] [8,36,37,38,39,40,41,42,43,44,45,46,47,48,49] (λn vs D=>∃(j:Nat),vs=[G (j:Int)]/\Mem w D [bI W (bG e) 56,oI 56 6 p d r ((B).flatMap bG),oI 56 6 (H ⟨gO,0,G0⟩) n3 T ((aR ts).flatMap bG)]/\(Pre (λx=>ltE x e) B j)/\(j<=d)/\(n=d-j)) ?_ ?_
   .exact⟨_,0,O,m,Pre.zero,bu _,O⟩
   intro n vs wr t u K2 ab;obtain⟨j,rfl,m,s,hj,aq⟩:=t;simp only[zu,zF,zG];apply aG 8 [0,0] m;simp only[↓U,xC];refine bB O ?_ ?_<;>intro al
   .obtain⟨x,y⟩:∃x,B[j]? = H x:=⟨_,ap (by omega)⟩
    obtain⟨gP,rfl⟩:=(m.o 1 rfl).some (by omega);apply aG 3 [0] m;simp only[↓U];refine mq m aD (by kernel_rfl) (fE 5 [0,4,1] ?_);simp only[↓U,yE,xD,ai,aj];refine⟨_,λu m=>(lA (((m.o 1 O).at yM y).lies sZ jD)),by omega,?_⟩;refine jF O O (amw (a:=x) (b:=e)) (L aK (bM ?_));intro u m;apply S 6 [0] m;simp only[↓U];refine lL O ?_ ?_<;>intro Q
    .have E:ait B e=j:=aq8 s y (by simpa using Q);rw[aau (by omega) R E] at c;apply aG 3 [0] m;simp only[↓U];refine C aK ?_;replace m:=m.nilO 56 6;apply aJ 6 [0] m;simp only[↓U];refine C (lY xU jD O O (ai _) (by omega) (by omega)) ?_;simp only[I];refine bW m 0 O O xU Eo O (by decide) O O (by rw[kE yM,bz,ep (show j<=B.length by omega)]) ((((m.o 2 O).lat yM (by decide)).take (k:=j) (by omega)).cells yM (by decide)) (aa9 _) (by omega) (by omega) ?_;intro f l u m;simp only[zF,zG] at m;rw[cl,aj] at m;simp only[aj];apply aJ 6 [2,0] m;simp only[↓U,xD];refine Nm O ?_;intro u X g i z;replace m:=m.newB g i z;simp only[I];refine bW m 1 O O xU Eo O (by decide) O O O (m.b 0 O).rowsO (jB O) (by omega) (by omega) ?_;intro f l u m;simp only[zF,zG] at m;apply aJ 6 [0] m;simp only[↓U];refine C (nI xU jD O O (ai _) (by omega) (by omega) O) ?_;simp only[I];refine bW m 1 O O xU Eo O (by decide) O O (by rw[kE yM,ix,F]) (((m.o 3 O).lat yM (by decide)).cellsD yM (by decide) (by omega)) (aa9 _) (by omega) (by omega) ?_;intro f l u m;simp only[zF,zG] at m;refine C aK ?_;simp only[I];replace m:=(m.pull 1 O).mv 2 O;simp only[dX,dY,zF,zG] at m;apply aJ 7 [0] m;simp only[↓U];apply I0;omega;exact q (n3-(k+1)) _ _ (by omega) (by kernel_rfl) ⟨k+1,_,_,_,O,((m.reO 2 O ((m.o 2 O).as (by rw[c,bi,bi];rfl))).sel [X9,X9,Z,Z]),by omega,by omega,rfl⟩
    have af:=s.step y (by simpa using Q);apply aG 7 [0] m;simp only[↓U];apply I0;omega;exact ab (d-(j+1)) _ _ (by omega) (by kernel_rfl) ⟨j+1,O,m,af,by omega,O⟩
   have ad:j=B.length:=by omega
   have E:ait B e=j:=by rw[ad] at s ⊢;exact akX s
   rw[aau (by omega) R E] at c;apply aG 3 [0] m;simp only[↓U];refine C aK ?_;replace m:=m.nilO 56 6;apply aJ 6 [0] m;simp only[↓U];refine C (lY xU jD O O (ai _) (by omega) (by omega)) ?_;simp only[I];refine bW m 0 O O xU Eo O (by decide) O O (by rw[kE yM,bz,ep (show j<=B.length by omega)]) ((((m.o 2 O).lat yM (by decide)).take (k:=j) (by omega)).cells yM (by decide)) (aa9 _) (by omega) (by omega) ?_;intro f l u m;simp only[zF,zG] at m;rw[cl,aj] at m;simp only[aj];apply aJ 6 [2,0] m;simp only[↓U,xD];refine Nm O ?_;intro u X g i z;replace m:=m.newB g i z;simp only[I];refine bW m 1 O O xU Eo O (by decide) O O O (m.b 0 O).rowsO (jB O) (by omega) (by omega) ?_;intro f l u m;simp only[zF,zG] at m;apply aJ 6 [0] m;simp only[↓U];refine C (nI xU jD O O (ai _) (by omega) (by omega) O) ?_;simp only[I];refine bW m 1 O O xU Eo O (by decide) O O (by rw[kE yM,ix,F]) (((m.o 3 O).lat yM (by decide)).cellsD yM (by decide) (by omega)) (aa9 _) (by omega) (by omega) ?_;intro f l u m;simp only[zF,zG] at m;refine C aK ?_;simp only[I];replace m:=(m.pull 1 O).mv 2 O;simp only[dX,dY,zF,zG] at m;apply aJ 7 [0] m;simp only[↓U];apply I0;omega;exact q (n3-(k+1)) _ _ (by omega) (by kernel_rfl) ⟨k+1,_,_,_,O,((m.reO 2 O ((m.o 2 O).as (by rw[c,bi,bi];rfl))).sel [X9,X9,Z,Z]),by omega,by omega,rfl⟩
  rw[Vs (.inl hz)] at c;apply S 7 [1,1,0] m;simp only[↓U,vA,aN,pU,ag,ah,aa];apply I0;omega;refine cC m O O (Rt (es:=aR ts) (e:=(e.2,e.1)) _ ((m.o 2 O).lat yM (by decide)) (by omega)) ?_;rintro v u m rfl;apply aJ 15 [1,0,0,0,0,0] m;simp only[↓U];apply I0;omega;exact q (n3-(k+1)) _ _ (by omega) (by kernel_rfl) ⟨k+1,_,_,_,O,((m.reO 1 O ((m.o 1 O).as (by rw[c]))).sel [X9,Z,Z]),by omega,by omega,O⟩
 have ae:k=(aR ts).length:=by omega
 rw[ae,fe] at m;apply aG 7 [] m;simp only[↓U];exact aU O O ⟨_,O,m.ext,⟨_,_,_,((m.o 0 O).num yM (by decide)).symm,O,(m.o 0 O)⟩⟩
def ahl(h:ts.any sY=Z):cD op ts=20:=by simp[cD,h]
def ahm(h:ts.any sY=X9)(h2:(aR ts).any (λe=>decide (1<kG (aR ts) e))=Z):cD op ts=21:=by rw[cD,h,h2];rfl
def ahn(h:ts.any sY=X9)(h2:(aR ts).any (λe=>decide (1<kG (aR ts) e))=X9)(a:(!op&&decide (0<(Y ts).length))=X9)(b:(cR ts).any (Kx ts)=Z):cD op ts=23:=by rw[cD,h,h2,a,b];rfl
def amy(h:ts.any sY=X9)(h2:(aR ts).any (λe=>decide (1<kG (aR ts) e))=X9)(a:(!op&&decide (0<(Y ts).length))=X9)(b:(cR ts).any (Kx ts)=X9):cD op ts=0:=by rw[cD,h,h2,a,b];rfl
def gt1{n:Nat}:((1:Int)<(n:Int))↔1<n:=by omega
def apL(w:an)(g:cN w A N ts)(W:N<=100000000):dF G1 79 [.slice A N cap,.bool Z] w (λv _=>v=G (cD Z ts)):=by
 refine⟨bK func79 (by kernel_rfl),?_⟩;have m:=Mem.refl w;have az:=g.len;have aw:=kF ts;have av:=Ek ts
 go_enter func79,ntmps79
 apply fD 10 [0] m;simp only[↓U];refine bU [5] [4,11,12,13,14,15,16,17,18,19,20,21,22,23,24,25,26,27,28,29,30,31,32,33,34,35,36,37,38,39,40,41,42,43,44,45,46,47,48,49,50,51,52,53] (λn vs j=>∃(k:Nat),vs=[G (k:Int)]/\Mem w j []/\((ts.take k).any sY=X9)/\(k<=N)/\(n=N-k)) ?_ ?_
 .exact⟨_,0,O,m,O,bu _,O⟩
 intro n vs wr f u K1 ab;obtain⟨k,rfl,m,q,J,K⟩:=f;simp only[zu,zF,zG];apply aG 8 [0,0] m;simp only[↓U,jL];refine bB O ?_ ?_<;>intro aq
 .obtain⟨t,M,_,a,rfl,d⟩:=g.get (i:=k) (by omega);apply aG 4 [0] m;simp only[↓U];refine mq m aD (by kernel_rfl) (fE 13 [0,0,0,0,12,0,0,0,0] ?_);simp only[↓U,eO,l,ai,aj,ag,ah,aa];refine⟨_,λu m=>((jS.cor ((d.ext m.ext)) (c:=0) (by decide)).lies aF aA),_,λu m=>((jS.cor ((d.ext m.ext)) (c:=1) (by decide)).lies aF aA),_,fH,_,λu m=>((jS.cor ((d.ext m.ext)) (c:=1) (by decide)).lies aF aA),_,λu m=>((jS.cor ((d.ext m.ext)) (c:=2) (by decide)).lies aF aA),_,fH,λ_=>⟨by omega,?_⟩⟩;refine L aI (fU O (λb=>aI) (fU O (λb=>aI) ?_));simp only[I];refine fU O (λb=>aP fP bA (B b O) (B b O) (by omega) (by omega) (qY (ai _))) (fU O (λb=>aW fN aA (B b O) O (by decide) (by decide) O) ?_);simp only[I];refine jU O (λb u m=>bE (B b O) ((jS.cor ((d.ext m.ext)) (c:=2) (by decide)).lies aF aA)) (fU O (λb=>aI) (fU O (λb=>aI) ?_));simp only[I];refine fU O (λb=>aP fP bA (B b O) (B b O) (by omega) (by omega) (qY (ai _))) (fU O (λb=>aW fN aA (B b O) O (by decide) (by decide) O) ?_);simp only[I];refine jU O (λb u m=>bE (B b O) ((jS.cor ((d.ext m.ext)) (c:=0) (by decide)).lies aF aA)) (fU O (λb=>oQ (B b O) (B b O)) (L (gY O O O) (bM ?_)));intro u m;refine gc ?_;simp only[I];refine lL O ?_ ?_<;>intro P
  .have X:=xS (p:=sY) M (aba.symm.trans P);apply aG 5 [] m;simp only[↓U];refine aU O O ?_;try simp only[zD,zE]
   exact⟨_,O,m.ext,by rw[ahl X]⟩
  have af:(ts.take (k+1)).any sY=X9:=by rw[pL M,q,<-aba];exact P
  apply aG 7 [0] m;simp only[↓U];apply I0;omega;exact ab (N-(k+1)) _ _ (by omega) (by kernel_rfl) ⟨k+1,O,m,af,by omega,O⟩
 have r:k=N:=by omega
 rw[r,show ts.take N=ts from a_ (by omega)] at q;apply aG 4 [0] m;simp only[↓U];refine aX O O (ahk _ (g.ext m.ext) (by omega)) ?_;rintro v u z ⟨S,al,n3,ax,rfl,C⟩;replace m:=m.newO z C;have aB:=(m.o 0 rfl).le;apply aJ 8 [0] m;simp only[↓U];refine bU [7] [4,56,57,58,59,60,61,62,63,64,65,66,67,68] (λn vs j=>∃(k:Nat),vs=[G (k:Int)]/\Mem w j [oI 56 6 S n3 al ((aR ts).flatMap bG)]/\(((aR ts).take k).any (λe=>decide (1<kG (aR ts) e))=X9)/\(k<=n3)/\(n=n3-k)) ?_ ?_
 .exact⟨_,0,O,m,O,bu _,O⟩
 intro n vs wr f u K2 ad;obtain⟨k,rfl,m,y,J,K⟩:=f;simp only[zu,zF,zG];apply aG 8 [0,0] m;simp only[↓U,xC];refine bB O ?_ ?_<;>intro ar
 .obtain⟨e,D⟩:∃e,(aR ts)[k]? = H e:=⟨_,ap (by omega)⟩
  obtain⟨V,rfl⟩:=(m.o 0 rfl).some (by omega);apply aG 10 [0,4,0] m;simp only[↓U,yE,ai,aj];refine⟨_,λu m=>(lA (((m.o 0 O).at yM D).lies sZ jD)),by omega,?_⟩;refine cC m O O (Rt (es:=aR ts) (e:=e) _ ((m.o 0 O).lat yM (by decide)) (by omega)) ?_;rintro v u m rfl;apply aJ 2 [0,0] m;simp only[↓U];refine bB O ?_ ?_<;>intro Q
  .have hc:=xS (p:=(λe=>decide (1<kG (aR ts) e))) D (Y5 (gt1.1 Q));apply aG 5 [] m;simp only[↓U];refine aU O O ?_;try simp only[zD,zE]
   exact⟨_,O,m.ext,by rw[ahm q hc]⟩
  have ao:((aR ts).take (k+1)).any (λe=>decide (1<kG (aR ts) e))=X9:=by rw[pL D,y,Y6 (λh=>Q (gt1.2 h))];rfl
  apply aG 7 [0] m;simp only[↓U];apply I0;omega;exact ad (n3-(k+1)) _ _ (by omega) (by kernel_rfl) ⟨k+1,O,m,ao,by omega,O⟩
 have r:k=(aR ts).length:=by omega
 rw[r,fe] at y;apply aG 18 [0,0,0,0,0] m;simp only[↓U,jq,km];refine aX O O (ai1 _ (g.ext m.ext) W) ?_;rintro v u z ⟨T,am,s,ay,rfl,C⟩;replace m:=m.newO z C;have aE:=(m.o 0 rfl).le;apply aJ 8 [0] m;simp only[↓U];refine bU [9] [4,10,79,80,81,82,83,84,85,86,87,88,89,90,91] (λn vs j=>∃(k:Nat),vs=[G (k:Int)]/\Mem w j [oI 30 3 T s am ((cR ts).flatMap pI)]/\(((cR ts).take k).any (Kx ts)=X9)/\(k<=s)/\(n=s-k)) ?_ ?_
 .exact⟨_,0,O,(m.sel [Z,X9]),O,bu _,O⟩
 intro n vs wr f u K3 ae;obtain⟨k,rfl,m,F,J,K⟩:=f;simp only[zu,zF,zG];apply aG 8 [0,0] m;simp only[↓U,xE];refine bB O ?_ ?_<;>intro au
 .obtain⟨x,E⟩:∃x,(cR ts)[k]? = H x:=⟨_,ap (by omega)⟩
  obtain⟨V,rfl⟩:=(m.o 0 rfl).some (by omega);apply aG 10 [0,0,0] m;simp only[↓U,Aq,ai,aj];refine⟨_,λu m=>(lA (((m.o 0 O).at Mt E).lies aF aA)),by omega,?_⟩;refine cC m O O (ai2 (p:=x) _ (g.ext m.ext) (by omega)) ?_;rintro v u m rfl;apply aJ 6 [0] m;simp only[↓U];refine lL O ?_ ?_<;>intro R
  .have Y:=xS (p:=Kx ts) E R;apply aG 5 [] m;simp only[↓U];refine aU O O ?_;try simp only[zD,zE]
   exact⟨_,O,m.ext,by rw[ahn q y O Y]⟩
  have ak:((cR ts).take (k+1)).any (Kx ts)=X9:=by rw[pL E,F,R];rfl
  apply aG 7 [0] m;simp only[↓U];apply I0;omega;exact ae (s-(k+1)) _ _ (by omega) (by kernel_rfl) ⟨k+1,O,m,ak,by omega,O⟩
 have r:k=(cR ts).length:=by omega
 rw[r,fe] at F;apply aG 6 [] m;simp only[↓U];refine aU O O ?_;try simp only[zD,zE]
 exact⟨_,O,m.ext,by rw[amy q y O F]⟩
def Cg(w:an)(b:cN w A N ts)(a:N<=100000000):dF G1 30 [.slice A N cap] w (λv _=>v=G (cD Z ts)):=by
 refine⟨bK func30 (by kernel_rfl),?_⟩;have m:=Mem.refl w
 go_enter func30,ntmps30
 apply fD 7 [0] m;simp only[↓U];refine cC m O O (apL _ (b.ext m.ext) a) ?_;rintro v u m rfl;apply aJ 3 [] m;simp only[↓U];exact aU O O ⟨_,O,m.ext,O⟩
end
end Go.Proofs.YtfekpcimgncioaaGreatDoor
namespace Go.Lith
open Go.RowKit
variable{w:an}{a:Addr}{x y:P3}
section
variable{P:cg}{ops:Array Oper}{Q:Exit->Act->an->Prop}{rest:List Oper}{d j:Nat}{ty:bh}{pos:String}{after:Array Edge}{v:ak}{b:Bool}{ds:List eh}{l:List ak}{w w0:an}{is:List It}
variable{f:FuncId}{fo:cw}{xs:Array cw}{args:List ak}{first cap:Array ak}{a0:Array bh}
def yF(m:Mem w0 w is)(a:yielded ops l.toArray j=H b)(c:ev l fo=.func (.func f) first cap)(g:b=Z->first.toList++xs.toList.map (ev l)++cap.toList=args)(hc:b=Z->dF P f args w λx _=>x=v)
 (h:∀u,Mem w0 u is->bf P ops Q rest (Fr (l.set d (Xh b v)) ds) u):bf P ops Q (ci (H d) (.call { callee:=.value fo,args:=xs,argTypes:=a0 }) ty pos after (H (j,Z))::rest) (Fr l ds) w:=by
 cases b with
 |false=>simp only[Hu] at h;exact nN a (h w m)
 |true=>simp only[jK] at h;exact gE a (cC m c (g rfl) (hc rfl) λx u m e=>by subst e;exact h u m)
end
section
variable{P:cg}{ops:Array Oper}{Q:Act->Prop}{rest:List Oper}{d j:Nat}{ty:bh}{pos:String}{after:Array Edge}{v:ak}{b:Bool}{ds:List eh}{l:List ak}{w0:an}{is:List It}
variable{f:FuncId}{fo:cw}{xs:Array cw}{args:List ak}{first cap:Array ak}{a0:Array bh}
end
def avV{c:Bool}{u v:ak}{cs:Array ak}(a:c=Z)(h:u=Xh c v)(b:v.cells=cs):u.cells=cs:=by rw[h,a,jK,b]
/-! ### Rows of edges and moves -/
def yS{e:E3}(h:jS w a (bG e)):jS w (a.add 0) [G e.1.x,G e.1.y,G e.1.z]:=(h.sub 0).take 3
def Fm{e:E3}(h:jS w a (bG e)):jS w (a.add 3) [G e.2.x,G e.2.y,G e.2.z]:=h.sub 3
def pH.one{α:Type}{enc:α->List ak}{c:Nat}{x:α}(h:jS w a (enc x)):pH enc c w (H a) 1 [x]:=⟨rfl,λi y b=>by
 cases i with
 |zero=>cases b;exact⟨a,O,by rw[Nat.zero_mul];exact h⟩
 |succ i=>cases b⟩
def avW{z p:P3}:((decide (x.x=p.x/\x.y=p.y/\x.z=p.z)||decide (y.x=p.x/\y.y=p.y/\y.z=p.z))||decide (z.x=p.x/\z.y=p.y/\z.z=p.z))=(decide (x=p)||decide (y=p)||decide (z=p)):=by
 simp only[gZ]
def avX{p:P3}:(decide (x.x=p.x/\x.y=p.y/\x.z=p.z)||decide (y.x=p.x/\y.y=p.y/\y.z=p.z))=(decide (x=p)||decide (y=p)):=by
 simp only[gZ]
end Go.Lith
namespace Go.Proofs.YtfekpcimgncioaaGreatDoor
open Go.Proofs.Tryz
open Go.RowKit Go.Lith
set_option maxRecDepth 100000
section
attribute [local irreducible] bf M fY cJ cU Code.wp
attribute [local congr] dK dL cZ dJ
variable{ms:List Mv}{k q N cap N2 cap2 cap3 i:Nat}{ts f c fs gs:List T3}{t x u:T3}{a:P3}{A A2 A3:Option Addr}{y z:Bool}
def apM{mv:Mv}{p:P3}(a:ms[k]? = H mv)(b:mY ms p=mY (ms.drop k) p)(h:mv.1=p):mY ms p=mv.2:=by
 rw[b,dw (az.1 a).1,(az.1 a).2,mY,Z9 h]
def amz{mv:Mv}{p:P3}(a:ms[k]? = H mv)(b:mY ms p=mY (ms.drop k) p)(h:¬mv.1=p):mY ms p=mY (ms.drop (k+1)) p:=by
 rw[b,dw (az.1 a).1,(az.1 a).2,mY,K0 h]
def amA{p:P3}(a:ts[k]? = H t):sB (ts.take (k+1)) p=(sB (ts.take k) p||t.has p):=pL a
def apN{p:P3}(a:ts[k]? = H t)(h:t.has p=Z):sB ts p=Z:=xS a h
def amB{p q:P3}(a:ts[k]? = H t):iE (ts.take (k+1)) p q=(iE (ts.take k) p q||(t.has p&&t.has q)):=pL a
def Ru(t:T3)(p:P3):sB [t] p=t.has p:=by simp[sB]
def amC{rim:List E3}{e:E3}{p:P3}(a:rim[k]? = H e):uW (rim.take (k+1)) p=(uW (rim.take k) p||(decide (e.1=p)||decide (e.2=p))):=pL a
def afP(ts:List T3)(p q:P3):Int:=match ts.findIdx? λt=>(t.fnd p q).isSome with
 |some k=>(k:Int)
 |none=>-1
def adI{p q:P3}:∀{ts:List T3},bD ts p q=G0->afP ts p q = -1:=by
 intro ts h;have:ts.findIdx? (λt=>(t.fnd p q).isSome)=G0:=by
  rw[List.findIdx?_eq_none_iff];intro t ht
  induction ts with
  |nil=>cases ht
  |cons u us ih=>
   unfold bD at h;cases a:u.fnd p q with
   |some x=>rw[a] at h;cases h
   |none=>
    rw[a] at h;rcases av.1 ht with rfl|ht
    .rw[a];rfl
    exact ih h ht
 rw[afP,this]
def Ls{p q x:P3}:∀{ts:List T3}{k:Nat}{t:T3},bD (ts.take k) p q=G0->ts[k]? = H t->t.fnd p q=H x->afP ts p q=(k:Int):=by
 intro ts k t h d e;have key:∀(ts:List T3)(k:Nat),bD (ts.take k) p q=G0->ts[k]? = H t->ts.findIdx? (λt=>(t.fnd p q).isSome)=H k:=by
  intro ts
  induction ts with
  |nil=>intro k _ h;cases h
  |cons u us ih=>
   intro k a c;cases k with
   |zero=>cases c;rw[List.findIdx?_cons,e];rfl
   |succ k=>
    rw[kn] at a;unfold bD at a;cases b:u.fnd p q with
    |some y=>rw[b] at a;cases a
    |none=>
     rw[b] at a;rw[List.findIdx?_cons,b,ih k a c];rfl
 rw[afP,key ts k h d]
def aav(ts:List T3)(p q:P3):(afP ts p q = -1/\bD ts p q=G0)\/∃(k:Nat)(t:T3)(x:P3),afP ts p q=(k:Int)/\ts[k]? = H t/\t.fnd p q=H x/\bD ts p q=H x:=by
 cases c:bD ts p q with
 |none=>exact .inl ⟨adI c,rfl⟩
 |some x=>
  have key:∀us:List T3,bD us p q=H x->∃k t,bD (us.take k) p q=G0/\us[k]? = H t/\t.fnd p q=H x:=by
   intro us
   induction us with
   |nil=>intro h;cases h
   |cons u us ih=>
    intro h;unfold bD at h;cases b:u.fnd p q with
    |some y=>rw[b] at h;cases h;exact⟨0,u,O,O,b⟩
    |none=>
     rw[b] at h;obtain⟨k,t,h1,h2,a⟩:=ih h;exact⟨k+1,t,by rw[kn,bD,b];exact h1,h2,a⟩
  obtain⟨k,t,h1,h2,a⟩:=key ts c;exact .inr ⟨k,t,x,Ls h1 h2 a,h2,a,O⟩
def abx{p q x:P3}(f:sY t=X9)(h:t.fnd p q=H x):(t.cor 0=p->x=t.cor 2)/\(t.cor 1=p->x=t.cor 0)/\(t.cor 2=p->x=t.cor 1)/\(t.cor 0=p\/t.cor 1=p\/t.cor 2=p):=by
 obtain⟨h1,h2,d⟩:=Yh f;show (t.a=p->x=t.c)/\(t.b=p->x=t.a)/\(t.c=p->x=t.b)/\(t.a=p\/t.b=p\/t.c=p)
 unfold T3.fnd at h;split at h
 .rename_i k;cases h;exact⟨λ_=>rfl,λe=>Y0 (k.1.trans e.symm) h1,λe=>Y0 (e.trans k.1.symm) d,.inl k.1⟩
 split at h
 .rename_i k;cases h;exact⟨λe=>Y0 (e.trans k.1.symm) h1,λ_=>rfl,λe=>Y0 (k.1.trans e.symm) h2,.inr (.inl k.1)⟩
 split at h
 .rename_i k;cases h;exact⟨λe=>Y0 (k.1.trans e.symm) d,λe=>Y0 (e.trans k.1.symm) h2,λ_=>rfl,.inr (.inr k.1)⟩
 cases h
def amD{p:P3}{n:Nat}(h:bD ts p a=G0):tQ ts p n a=a:=by
 cases n with
 |zero=>rfl
 |succ n=>simp only[tQ,h]
def apO{p x:P3}{n:Nat}(h:bD ts p a=H x):tQ ts p (n+1) a=tQ ts p n x:=by simp only[tQ,h]
def Ch{rim:List E3}(d:c[k]? = H t):jP f (c.take (k+1)) rim=(jP f (c.take k) rim||((uW rim t.a&&uW rim t.b && !iE f t.a t.b)||(uW rim t.b&&uW rim t.c && !iE f t.b t.c)||(uW rim t.c&&uW rim t.a && !iE f t.c t.a))):=by
 unfold jP;rw[sX d,List.any_append];simp[Bool.or_assoc]
def Oj{rim:List E3}(d:c[k]? = H t)(h:jP f (c.take (k+1)) rim=Z):jP f c rim=Z:=by
 unfold jP at h ⊢;obtain⟨e,a,h⟩:=ff.1 h;refine ff.2 ⟨e,?_,h⟩;obtain⟨u,b,h2⟩:=dj.1 a;exact dj.2 ⟨u,List.mem_of_mem_take b,h2⟩
def ai3{rim:List E3}{e:E3}(b:rim[k]? = H e)(a:oD f c (rim.take k)=Z)(h:tQ f e.1 f.length e.2=tQ c e.1 c.length e.2):oD f c (rim.take (k+1))=Z:=by
 unfold oD at a ⊢;rw[bV b,qq,a];simp[h]
def ai4{rim:List E3}{e:E3}(a:rim[k]? = H e)(h:¬tQ f e.1 f.length e.2=tQ c e.1 c.length e.2):oD f c rim=X9:=by
 unfold oD;rw[mc];exact⟨e,bn a,by simpa using h⟩
def Fo{p:P3}(w:an)(e:pH bG 6 w A N ms)(y:N<=1000000000):dF G1 149 [.slice A N cap,pt p] w (λv _=>v=pt (mY ms p)):=by
 refine⟨bK func149 (by kernel_rfl),?_⟩;have m:=Mem.refl w
 go_enter func149,ntmps149
 apply kX 11 [0] m;simp only[↓U,cY];intro h j u m;refine bU [5] [6,7,8,9,10,11,12,13,14,15,16,17,18,19,20,21,22,23] (λn vs q=>∃(k:Nat),vs=[G (k:Int)]/\Mem w q [bI j [G 0,G 0,G 0] 30,bI h (pI p) 30]/\(mY ms p=mY (ms.drop k) p)/\(k<=N)/\(n=N-k)) ?_ ?_
 .exact⟨_,0,O,m,O,bu _,O⟩
 intro n vs wr l u x r;obtain⟨k,rfl,m,c,z,B⟩:=l;simp only[zu,zF,zG];apply aG 8 [0,0] m;simp only[↓U,Vd];refine bB O ?_ ?_<;>intro C
 .obtain⟨mv,f,a,rfl,g⟩:=e.get (i:=k) (by omega);apply aG 4 [0] m;simp only[↓U];refine mq m aD (by kernel_rfl) (fE 7 [0,0,2] ?_);simp only[↓U,Ig,sH,aN,ai,aj,aa];refine⟨_,λu m=>((yS (g.ext m.ext)).lies aF aA),_,fH,by omega,?_⟩;refine bM ?_;intro u m;refine gc (bB O (λd=>?_) (λd=>?_))
  .have o:=apM f c (gZ.1 d);apply sO 10 [0,0,0] m;simp only[↓U,Ig,He,aN,ai,aj,aa];refine⟨_,λu m=>((Fm (g.ext m.ext)).lies aF aA),by omega,?_⟩;intro u m;refine aU O ⟨_,O,((m.b 0 O).full aF aA)⟩ ?_;try simp only[zD,zE]
   exact⟨_,O,m.ext,by rw[o];rfl⟩
  have s:=amz f c (mt gZ.2 d);apply aG 7 [0] m;simp only[↓U];apply I0;omega;exact r (N-(k+1)) _ _ (by omega) (by kernel_rfl) ⟨k+1,O,m,s,by omega,O⟩
 have t:k=N:=by omega
 rw[t,show ms.drop N=[] from List.drop_of_length_le (by rw[e.len];exact ba _)] at c;apply sO 7 [2,0] m;simp only[↓U,aN,aa];intro u m;refine aU O ⟨_,O,((m.b 0 O).full aF aA)⟩ ?_;try simp only[zD,zE]
 exact⟨_,O,m.ext,by rw[c];rfl⟩
def Vt{p:P3}(w:an)(f:pH aM 9 w A N ts)(y:N<=1000000000):dF G1 228 [.slice A N cap,pt p] w (λv _=>v=.bool (sB ts p)):=by
 refine⟨bK func228 (by kernel_rfl),?_⟩;have m:=Mem.refl w
 go_enter func228,ntmps228
 apply kX 11 [0] m;simp only[↓U];intro h u m;refine bU [5] [4,6,7,8,9,10,11,12,13,14,15,16,17,18,19,20,21,22,23,24,25,26,27,28,29,30,31,32,33,34,35,36] (λn vs q=>∃(k:Nat),vs=[G (k:Int)]/\Mem w q [bI h (pI p) 30]/\(sB (ts.take k) p=X9)/\(k<=N)/\(n=N-k)) ?_ ?_
 .exact⟨_,0,O,m,O,bu _,O⟩
 intro n vs wr j u x r;obtain⟨k,rfl,m,b,z,B⟩:=j;simp only[zu,zF,zG];apply aG 8 [0,0] m;simp only[↓U,jL];refine bB O ?_ ?_<;>intro C
 .obtain⟨t,g,a,rfl,e⟩:=f.get (i:=k) (by omega);apply aG 4 [0] m;simp only[↓U];refine mq m aD (by kernel_rfl) (fE 11 [0,0,1,8,0,0,1,8,0,0,1] ?_);simp only[↓U,eO,l,aN,ai,aj,ag,ah,aa];refine⟨_,λu m=>((jS.cor (e.ext m.ext) (c:=0) (by omega)).lies aF aA),_,fH,_,λu m=>((jS.cor (e.ext m.ext) (c:=1) (by omega)).lies aF aA),_,fH,λ_=>⟨_,λu m=>((jS.cor (e.ext m.ext) (c:=2) (by omega)).lies aF aA),_,fH,λ_=>⟨by omega,?_⟩⟩⟩;refine bM ?_;intro u m;refine gc (cQ O (λd=>?_) (λd=>?_))
  .have o:sB ts p=Z:=apN g (avW.symm.trans d);apply aG 5 [] m;simp only[↓U];refine aU O O ?_;try simp only[zD,zE]
   exact⟨_,O,m.ext,by rw[o]⟩
  have h1:sB (ts.take (k+1)) p=X9:=by rw[amA g,b];exact avW.symm.trans d
  apply aG 7 [0] m;simp only[↓U];apply I0;omega;exact r (N-(k+1)) _ _ (by omega) (by kernel_rfl) ⟨k+1,O,m,h1,by omega,O⟩
 have s:k=N:=by omega
 rw[s,show ts.take N=ts from a_ (by rw[f.len];exact ba _)] at b;apply aG 6 [] m;simp only[↓U];refine aU O O ?_;try simp only[zD,zE]
 exact⟨_,O,m.ext,by rw[b]⟩
def Ci{rim:List E3}{p:P3}(w:an)(d:pH bG 6 w A N rim)(t:N<=1000000000):dF G1 148 [.slice A N cap,pt p] w (λv _=>v=.bool (uW rim p)):=by
 refine⟨bK func148 (by kernel_rfl),?_⟩;have m:=Mem.refl w
 go_enter func148,ntmps148
 apply kX 11 [0] m;simp only[↓U];intro h u m;refine bU [5] [4,6,7,8,9,10,11,12,13,14,15,16,17,18,19,20,21,22,23,24,25,26,27] (λn vs o=>∃(k:Nat),vs=[G (k:Int)]/\Mem w o [bI h (pI p) 30]/\(uW (rim.take k) p=X9)/\(k<=N)/\(n=N-k)) ?_ ?_
 .exact⟨_,0,O,m,O,bu _,O⟩
 intro n vs wr j u s q;obtain⟨k,rfl,m,b,x,y⟩:=j;simp only[zu,zF,zG];apply aG 8 [0,0] m;simp only[↓U,xC];refine bB O ?_ ?_<;>intro z
 .obtain⟨e,f,a,rfl,g⟩:=d.get (i:=k) (by omega);apply aG 4 [0] m;simp only[↓U];refine mq m aD (by kernel_rfl) (fE 9 [0,0,1,8,0,0,1] ?_);simp only[↓U,yE,vA,aN,ai,aj,ag,ah,aa];refine⟨_,λu m=>((yS (g.ext m.ext)).lies aF aA),_,fH,_,λu m=>((Fm (g.ext m.ext)).lies aF aA),_,fH,λ_=>⟨by omega,?_⟩⟩;refine bM ?_;intro u m;refine gc (cQ O (λc=>?_) (λc=>?_))
  .have l:uW rim p=Z:=xS f (avX.symm.trans c);apply aG 5 [] m;simp only[↓U];refine aU O O ?_;try simp only[zD,zE]
   exact⟨_,O,m.ext,by rw[l]⟩
  have h1:uW (rim.take (k+1)) p=X9:=by rw[amC f,b];exact avX.symm.trans c
  apply aG 7 [0] m;simp only[↓U];apply I0;omega;exact q (N-(k+1)) _ _ (by omega) (by kernel_rfl) ⟨k+1,O,m,h1,by omega,O⟩
 have r:k=N:=by omega
 rw[r,show rim.take N=rim from a_ (by rw[d.len];exact ba _)] at b;apply aG 6 [] m;simp only[↓U];refine aU O O ?_;try simp only[zD,zE]
 exact⟨_,O,m.ext,by rw[b]⟩
def Rv{p q:P3}(w:an)(f:pH aM 9 w A N ts)(C:N<=1000000000)(J:N<=cap):dF G1 227 [.slice A N cap,pt p,pt q] w (λv _=>v=.bool (iE ts p q)):=by
 refine⟨bK func227 (by kernel_rfl),?_⟩;have m:=Mem.refl w
 go_enter func227,ntmps227
 apply kX 12 [0] m;simp only[↓U];intro l o u m;refine bU [7] [6,8,9,10,11,12,13,14,15,16,17,18,19,20,21,22,23,24,25,26,27,28,29,30,31,32,33] (λn vs x=>∃(k:Nat),vs=[G (k:Int)]/\Mem w x [bI o (pI q) 30,bI l (pI p) 30]/\(iE (ts.take k) p q=X9)/\(k<=N)/\(n=N-k)) ?_ ?_
 .exact⟨_,0,O,m,O,bu _,O⟩
 intro n vs wr r u B y;obtain⟨k,rfl,m,d,D,F⟩:=r;simp only[zu,zF,zG];apply aG 8 [0,0] m;simp only[↓U,jL];refine bB O ?_ ?_<;>intro H
 .obtain⟨t,g,a,rfl,j⟩:=f.get (i:=k) (by omega);apply aG 4 [0] m;simp only[↓U];refine mh m [Z,Z] [(0,Z),(1,Z),(2,Z),(3,Z),(4,Z),(5,Z),(6,X9),(7,Z)] aD (by kernel_rfl) (bT (λ_ _ _ _ _ h=>h)) (ol:=?_) ?e ?_
  case e=>simp only[zw,zQ,zR];try rfl
  intro u m;refine Dk 4 [] ?_;simp only[↓U];apply I0;omega;refine bY (Pk fP bA O O O (show _=k by omega) (show _=k+1 by omega) (by omega) (by omega) (by omega) (K0 (by omega))) ?_;simp only[I];refine mU O (λu m=>((m.b 1 O).full aF aA)) ?_;simp only[I];refine bQ ?_;rw[show k+1-k=1 by omega];refine cC m O O (Vt (ts:=[t]) (p:=p) _ ((pH.one j).ext m.ext) (by decide)) ?_;rintro v u m rfl;refine E ⟨m,?_⟩;refine bY aK (bO ?_);apply S 1 [0] m;simp only[↓U];refine mh m [Z,Z] [(0,Z),(1,Z),(2,Z),(3,Z),(4,Z),(5,Z),(6,X9),(7,Z)] aD (by kernel_rfl) (bT (λ_ _ _ _ _ h=>h)) (ol:=?_) ?e ?_
  case e=>simp only[zw,zQ,zR];try rfl
  intro u m;refine Dk 4 [] ?_;simp only[↓U];apply I0;omega;refine bY (Pk fP bA O O O (show _=k by omega) (show _=k+1 by omega) (by omega) (by omega) (by omega) (K0 (by omega))) ?_;simp only[I];refine mU O (λu m=>((m.b 0 O).full aF aA)) ?_;simp only[I];refine bQ ?_;rw[show k+1-k=1 by omega];refine cC m O O (Vt (ts:=[t]) (p:=q) _ ((pH.one j).ext m.ext) (by decide)) ?_;rintro v u m rfl;refine E ⟨m,?_⟩;refine bY aK (bO ?_);apply S 6 [2,0] m;simp only[↓U];refine λ_=>?_;refine cQ O ?_ ?_<;>intro c
  .have s:iE ts p q=Z:=xS g (by rw[Ru,Ru] at c;exact c);apply aG 5 [] m;simp only[↓U];refine aU O O ?_;try simp only[zD,zE]
   exact⟨_,O,m.ext,by rw[s]⟩
  have h1:iE (ts.take (k+1)) p q=X9:=by rw[amB g,d];rw[Ru,Ru] at c;exact c
  apply aG 7 [0] m;simp only[↓U];apply I0;omega;exact y (N-(k+1)) _ _ (by omega) (by kernel_rfl) ⟨k+1,O,m,h1,by omega,O⟩
 have z:k=N:=by omega
 rw[z,show ts.take N=ts from a_ (by rw[f.len];exact ba _)] at d;apply aG 6 [] m;simp only[↓U];refine aU O O ?_;try simp only[zD,zE]
 exact⟨_,O,m.ext,by rw[d]⟩
def amE{p q:P3}(w:an)(s:pH aM 9 w A N ts)(K:N<=1000000000):dF G1 94 [.slice A N cap,pt p,pt q] w (λv _=>v=G (afP ts p q)):=by
 refine⟨bK func94 (by kernel_rfl),?_⟩;have m:=Mem.refl w
 go_enter func94,ntmps94
 apply kX 12 [0] m;simp only[↓U];intro y z u m;refine bU [7] [6,8,9,10,11,12,13,14,15,16,17,18,19,20,21,22,23,24,25,26,27,28,29,30,31,32,33,34,35,36,37,38,39] (λn vs D=>∃(k:Nat),vs=[G (k:Int)]/\Mem w D [bI z (pI q) 30,bI y (pI p) 30]/\(bD (ts.take k) p q=G0)/\(k<=N)/\(n=N-k)) ?_ ?_
 .exact⟨_,0,O,m,O,bu _,O⟩
 intro n vs wr C u J E;obtain⟨k,rfl,m,f,M,P⟩:=C;simp only[zu,zF,zG];apply aG 8 [0,0] m;simp only[↓U,jL];refine bB O ?_ ?_<;>intro Q
 .obtain⟨t,j,a,rfl,g⟩:=s.get (i:=k) (by omega);apply aG 21 [4,1,0] m;simp only[↓U];apply I0;omega;refine mq m aD (by kernel_rfl) (fE 9 [0,0,2] ?_);simp only[↓U,eO,l,aN,ai,aj,ag,ah,aa];refine⟨_,λu m=>((jS.cor (g.ext m.ext) (c:=0) (by omega)).lies aF aA),_,fH,by omega,?_⟩;refine bZ O (λd=>aI) (bZ O (λd=>aI) (bZ O (λd=>aI) (bZ O (λd=>fZ (m:=0) (n:=1) (r:=1) (B d O) O (by decide)) ?_)));simp only[I];refine bZ O (λd=>cW (m:=1) (n:=3) (r:=1) (B d O) O (by decide) (by decide)) ?_;simp only[I];refine bZ O (λd=>aP fP bA (B d O) (B d O) (by omega) (by omega) (qY (ai _))) (bZ O (λd=>aW fN aA (B d O) (B d O) (by decide) (by decide) O) ?_);simp only[I];refine eG O (λd u m=>bE (B d O) ((jS.cor (g.ext m.ext) (c:=1) (by omega)).lies aF aA)) (eG O (λd u m=>bE O ((m.b 0 O).full aF aA)) (bZ O (λd=>oQ (B d O) (B d O)) (L (dR O O O) (bM ?_))));intro u m;refine gc ?_;simp only[I];refine cQ O ?_ ?_<;>intro e
  .have h:=Ls f j (avn  (Bo.1 e));apply aG 6 [] m;simp only[↓U];refine aU O O ?_;try simp only[zD,zE]
   exact⟨_,O,m.ext,by rw[h]⟩
  have o:=Nh e;apply aG 19 [1,0] m;simp only[↓U,R];apply I0;omega;refine mq m aD (by kernel_rfl) (fE 9 [0,0,2] ?_);simp only[↓U,eO,l,aN,ai,aj,ag,ah,aa];refine⟨_,λu m=>((jS.cor (g.ext m.ext) (c:=1) (by omega)).lies aF aA),_,fH,by omega,?_⟩;refine bZ O (λd=>aI) (bZ O (λd=>aI) (bZ O (λd=>aI) (bZ O (λd=>fZ (m:=1) (n:=1) (r:=2) (B d O) O (by decide)) ?_)));simp only[I];refine bZ O (λd=>cW (m:=2) (n:=3) (r:=2) (B d O) O (by decide) (by decide)) ?_;simp only[I];refine bZ O (λd=>aP fP bA (B d O) (B d O) (by omega) (by omega) (qY (ai _))) (bZ O (λd=>aW fN aA (B d O) (B d O) (by decide) (by decide) O) ?_);simp only[I];refine eG O (λd u m=>bE (B d O) ((jS.cor (g.ext m.ext) (c:=2) (by omega)).lies aF aA)) (eG O (λd u m=>bE O ((m.b 0 O).full aF aA)) (bZ O (λd=>oQ (B d O) (B d O)) (L (dR O O O) (bM ?_))));intro u m;refine gc ?_;simp only[I];refine cQ O ?_ ?_<;>intro e
  .have h:=Ls f j (avo o (Bo.1 e));apply aG 6 [] m;simp only[↓U];refine aU O O ?_;try simp only[zD,zE]
   exact⟨_,O,m.ext,by rw[h]⟩
  have x:=Nh e;apply aG 19 [1,0] m;simp only[↓U,R];apply I0;omega;refine mq m aD (by kernel_rfl) (fE 9 [0,0,2] ?_);simp only[↓U,eO,l,aN,ai,aj,ag,ah,aa];refine⟨_,λu m=>((jS.cor (g.ext m.ext) (c:=2) (by omega)).lies aF aA),_,fH,by omega,?_⟩;refine bZ O (λd=>aI) (bZ O (λd=>aI) (bZ O (λd=>aI) (bZ O (λd=>fZ (m:=2) (n:=1) (r:=3) (B d O) O (by decide)) ?_)));simp only[I];refine bZ O (λd=>cW (m:=3) (n:=3) (r:=0) (B d O) O (by decide) (by decide)) ?_;simp only[I];refine bZ O (λd=>aP fP bA (B d O) (B d O) (by omega) (by omega) (qY (ai _))) (bZ O (λd=>aW fN aA (B d O) (B d O) (by decide) (by decide) O) ?_);simp only[I];refine eG O (λd u m=>bE (B d O) ((jS.cor (g.ext m.ext) (c:=0) (by omega)).lies aF aA)) (eG O (λd u m=>bE O ((m.b 0 O).full aF aA)) (bZ O (λd=>oQ (B d O) (B d O)) (L (dR O O O) (bM ?_))));intro u m;refine gc ?_;simp only[I];refine cQ O ?_ ?_<;>intro e
  .have h:=Ls f j (avp o x (Bo.1 e));apply aG 6 [] m;simp only[↓U];refine aU O O ?_;try simp only[zD,zE]
   exact⟨_,O,m.ext,by rw[h]⟩
  have H:=Nh e;apply aG 22 [2,0] m;simp only[↓U,R];apply I0;omega;exact E (N-(k+1)) _ _ (by omega) (by kernel_rfl) ⟨k+1,O,m,(uR j f).trans (avq o x H),by omega,O⟩
 have F:k=N:=by omega
 rw[F,show ts.take N=ts from a_ (by rw[s.len];exact ba _)] at f;apply aG 6 [] m;simp only[↓U];refine aU O O ?_;try simp only[zD,zE]
 exact⟨_,O,m.ext,by rw[adI f]⟩
def abU{p a0:P3}(w:an)(s:pH aM 9 w A N ts)(H:N<=1000000000)(I:nE ts):dF G1 45 [.slice A N cap,pt p,pt a0] w (λv _=>v=pt (tQ ts p ts.length a0)):=by
 refine⟨bK func45 (by kernel_rfl),?_⟩;have m:=Mem.refl w;obtain rfl:ts.length=N:=s.len
 go_enter func45,ntmps45
 apply kX 12 [0] m;simp only[↓U,cY];intro B D E u m;refine bU [7] [8,9,10,11,12,13,14,15,16,17,18,19,20,21,22,23,24,25,26,27,28,29,30,31,32,33,34,35,36,37,38,39,40,41,42] (λn vs J=>∃(i:Nat)(a:P3),vs=[G (i:Int)]/\Mem w J [bI E [G 0,G 0,G 0] 30,bI D (pI a) 30,bI B (pI p) 30]/\(tQ ts p ts.length a0=tQ ts p (ts.length-i) a)/\(i<=ts.length)/\(n=ts.length-i)) ?_ ?_
 .exact⟨_,0,a0,O,m,O,bu _,O⟩
 intro n vs wr F u Y z;obtain⟨i,a,rfl,m,e,hi,hn⟩:=F;simp only[zu,zF,zG];apply aG 8 [0,0] m;simp only[↓U,jL];refine bB O ?_ ?_<;>intro ab
 .apply aG 8 [3,2,0] m;simp only[↓U,aN];refine cC m O O (amE (p:=p) (q:=a) _ (s.ext m.ext) H) ?_;rintro v u m rfl;apply aJ 4 [] m;simp only[↓U];obtain⟨y,K⟩|⟨q,t,x,y,o,P,L⟩:=aav ts p a
  .rw[y];apply Lc 11 [1,2,0] m;simp only[↓U,aN,aa];apply I0;omega;intro u m;refine aU O ⟨_,O,((m.b 0 O).full aF aA)⟩ ?_;try simp only[zD,zE]
   exact⟨_,O,m.ext,by rw[e,amD K];rfl⟩
  rw[y];obtain⟨t2,X,Z,rfl,g⟩:=s.get (i:=q) (az.1 o).1;obtain rfl:=fq (o.symm.trans X);have k:=abx (I t (bn o)) P;have ad:=(az.1 o).1;obtain⟨f,M⟩:∃f,ts.length-i=f+1:=⟨ts.length-i-1,by omega⟩
  rw[M,apO L] at e;apply S 24 [2,4,1,0] m;simp only[↓U];apply I0;omega;refine mq m aD (by kernel_rfl) (fE 8 [0,0,3] ?_);simp only[↓U,eO,l,aN,ai,aj,ag,ah,aa];refine⟨_,λu m=>((jS.cor (g.ext m.ext) (c:=0) (by omega)).lies aF aA),_,fH,by omega,?_⟩;refine bM ?_;intro u m;refine gc (bB O (λd=>?_) (λd=>?_))
  .have j:x=t.cor 2:=k.1 (gZ.1 d);apply aG 6 [0] m;simp only[↓U,R];apply I0;omega;refine C (cW (m:=2) (n:=3) (r:=2) O O (by decide) (by decide)) ?_;apply iV 12 [0,0,1,0] m;simp only[↓U,eO,l,aN,ai,aj,ag,ah,aa];refine⟨_,λu m=>((jS.cor (g.ext m.ext) (c:=2) (by omega)).lies aF aA),by omega,?_⟩;intro u m;rw[<-j] at m;exact z (ts.length-(i+1)) _ _ (by omega) (by kernel_rfl) ⟨i+1,x,O,m,by rw[e,show ts.length-(i+1)=f by omega],by omega,O⟩
  have T:¬t.cor 0=p:=mt gZ.2 d;apply aG 19 [1,0] m;simp only[↓U,R];apply I0;omega;refine mq m aD (by kernel_rfl) (fE 8 [0,0,3] ?_);simp only[↓U,eO,l,aN,ai,aj,ag,ah,aa];refine⟨_,λu m=>((jS.cor (g.ext m.ext) (c:=1) (by omega)).lies aF aA),_,fH,by omega,?_⟩;refine bM ?_;intro u m;refine gc (bB O (λd=>?_) (λd=>?_))
  .have j:x=t.cor 0:=k.2.1 (gZ.1 d);apply aG 6 [0] m;simp only[↓U,R];apply I0;omega;refine C (cW (m:=3) (n:=3) (r:=0) O O (by decide) (by decide)) ?_;apply iV 12 [0,0,1,0] m;simp only[↓U,eO,l,aN,ai,aj,ag,ah,aa];refine⟨_,λu m=>((jS.cor (g.ext m.ext) (c:=0) (by omega)).lies aF aA),by omega,?_⟩;intro u m;rw[<-j] at m;exact z (ts.length-(i+1)) _ _ (by omega) (by kernel_rfl) ⟨i+1,x,O,m,by rw[e,show ts.length-(i+1)=f by omega],by omega,O⟩
  have V:¬t.cor 1=p:=mt gZ.2 d;apply aG 19 [1,0] m;simp only[↓U,R];apply I0;omega;refine mq m aD (by kernel_rfl) (fE 8 [0,0,3] ?_);simp only[↓U,eO,l,aN,ai,aj,ag,ah,aa];refine⟨_,λu m=>((jS.cor (g.ext m.ext) (c:=2) (by omega)).lies aF aA),_,fH,by omega,?_⟩;refine bM ?_;intro u m;refine gc (bB O (λd=>?_) (λd=>?_))
  .have j:x=t.cor 1:=k.2.2.1 (gZ.1 d);apply aG 6 [0] m;simp only[↓U,R];apply I0;omega;refine C (cW (m:=4) (n:=3) (r:=1) O O (by decide) (by decide)) ?_;apply iV 12 [0,0,1,0] m;simp only[↓U,eO,l,aN,ai,aj,ag,ah,aa];refine⟨_,λu m=>((jS.cor (g.ext m.ext) (c:=1) (by omega)).lies aF aA),by omega,?_⟩;intro u m;rw[<-j] at m;exact z (ts.length-(i+1)) _ _ (by omega) (by kernel_rfl) ⟨i+1,x,O,m,by rw[e,show ts.length-(i+1)=f by omega],by omega,O⟩
  have W:¬t.cor 2=p:=mt gZ.2 d;exact (k.2.2.2.elim T λh=>h.elim V W).elim
 have Q:ts.length-i=0:=by omega
 rw[Q] at e;apply sO 7 [2,0] m;simp only[↓U,aN,aa];intro u m;refine aU O ⟨_,O,((m.b 0 O).full aF aA)⟩ ?_;try simp only[zD,zE]
 exact⟨_,O,m.ext,by rw[e];rfl⟩
def apP{rim:List E3}{N3:Nat}(w:an)(l:pH aM 9 w A N fs)(t:pH aM 9 w A2 N2 gs)(d:pH bG 6 w A3 N3 rim)(C:N<=1000000000)(H:N2<=1000000000)(J:N3<=1000000000)(o:nE fs)(x:nE gs):dF G1 160 [.slice A N cap,.slice A2 N2 cap2,.slice A3 N3 cap3] w (λv _=>v=.bool (oD fs gs rim)):=by
 refine⟨bK func160 (by kernel_rfl),?_⟩;have m:=Mem.refl w
 go_enter func160,ntmps160
 apply fD 10 [0] m;simp only[↓U];refine bU [7] [6,8,9,10,11,12,13,14,15,16,17,18,19,20,21,22,23,24,25,26,27,28,29,30,31,32,33,34,35,36,37,38] (λn vs r=>∃(k:Nat),vs=[G (k:Int)]/\Mem w r []/\(oD fs gs (rim.take k)=Z)/\(k<=N3)/\(n=N3-k)) ?_ ?_
 .exact⟨_,0,O,m,O,bu _,O⟩
 intro n vs wr j u B s;obtain⟨k,rfl,m,c,D,F⟩:=j;simp only[zu,zF,zG];apply aG 8 [0,0] m;simp only[↓U,xC];refine bB O ?_ ?_<;>intro K
 .obtain⟨e,f,a,rfl,b⟩:=d.get (i:=k) (by omega);apply aG 4 [0] m;simp only[↓U];refine mh m [] [(0,Z),(1,Z),(2,Z),(3,Z),(4,Z),(6,Z),(7,Z),(8,Z),(9,Z),(12,Z),(13,Z),(14,Z),(15,Z),(16,Z),(18,Z),(19,Z),(20,Z),(21,Z),(5,Z),(10,Z),(17,Z),(22,Z),(11,X9),(23,X9),(24,Z)] aD (by kernel_rfl) (bT (λ_ _ _ _ _ h=>h)) (ol:=?_) ?z ?_
  case z=>simp only[zw,zQ,zR];try rfl
  intro u m;refine Dk 22 [0,0,0,0,0,0,0,0] ?_;simp only[↓U,yE,vA,ai,aj,ag,ah,aa];refine⟨_,λu m=>((yS (b.ext m.ext)).lies aF aA),_,λu m=>((Fm (b.ext m.ext)).lies aF aA),_,λu m=>((yS (b.ext m.ext)).lies aF aA),_,λu m=>((Fm (b.ext m.ext)).lies aF aA),by omega,?_⟩;refine bQ (cC m O O (abU (p:=e.1) (a0:=e.2) _ (l.ext m.ext) (by omega) o) ?_);rintro v u m rfl;refine E ⟨m,?_⟩;refine bQ ?_;simp only[I];refine cC m O O (abU (p:=e.1) (a0:=e.2) _ (t.ext m.ext) (by omega) x) ?_;rintro v u m rfl;refine E ⟨m,?_⟩;refine bY (Gu O O) (bO (gc ?_));simp only[I];refine bB O ?_ ?_<;>intro g
  .have q:=ai4 f (mt gZ.2 g);apply aG 5 [] m;simp only[↓U];refine aU O O ?_;try simp only[zD,zE]
   exact⟨_,O,m.ext,by rw[q]⟩
  have h1:=ai3 f c (gZ.1 (Classical.not_not.1 g));apply aG 7 [0] m;simp only[↓U];apply I0;omega;exact s (N3-(k+1)) _ _ (by omega) (by kernel_rfl) ⟨k+1,O,m,h1,by omega,O⟩
 have y:k=N3:=by omega
 rw[y,show rim.take N3=rim from a_ (by rw[d.len];exact ba _)] at c;apply aG 6 [] m;simp only[↓U];refine aU O O ?_;try simp only[zD,zE]
 exact⟨_,O,m.ext,by rw[c]⟩
def amF{rim:List E3}{N3:Nat}(w:an)(s:pH aM 9 w A N fs)(z:pH aM 9 w A2 N2 gs)(g:pH bG 6 w A3 N3 rim)(W:N<=1000000000)(ab:N2<=1000000000)(ad:N3<=1000000000)(y:N<=cap):dF G1 159 [.slice A N cap,.slice A2 N2 cap2,.slice A3 N3 cap3] w (λv _=>v=.bool (jP fs gs rim)):=by
 refine⟨bK func159 (by kernel_rfl),?_⟩;have m:=Mem.refl w
 go_enter func159,ntmps159
 apply fD 10 [0] m;simp only[↓U];refine bU [7] [6,8,9,10,11,12,13,14,15,16,17,18,19,20,21,22,23,24,25,26,27,28,29,30,31,32,33,34,35,36,37,38,39,40,41,42,43,44,45,46,47,48,49,50,51] (λn vs F=>∃(k:Nat),vs=[G (k:Int)]/\Mem w F []/\(jP fs (gs.take k) rim=X9)/\(k<=N2)/\(n=N2-k)) ?_ ?_
 .exact⟨_,0,O,m,O,bu _,O⟩
 intro n vs wr E u L H;obtain⟨k,rfl,m,o,X,Y⟩:=E;simp only[zu,zF,zG];apply aG 8 [0,0] m;simp only[↓U,jL];refine bB O ?_ ?_<;>intro ae
 .obtain⟨t,f,a,rfl,h⟩:=z.get (i:=k) (by omega);apply sO 37 [4,1,0,0,0,0] m;simp only[↓U,eO,l,cY,aN,ai,aj,ag,ah,aa,R];refine⟨_,λu m=>((jS.cor (h.ext m.ext) (c:=0) (by omega)).lies aF aA),λM=>⟨by omega,?_⟩⟩;intro u m;refine C (cW (m:=1) (n:=3) (r:=1) O O (by decide) (by decide)) ?_;apply iV 10 [0,0,0,2,0] m;simp only[↓U,eO,l,cY,aN,ai,aj,ag,ah,aa];refine⟨_,λu m=>((jS.cor (h.ext m.ext) (c:=1) (by omega)).lies aF aA),λP=>⟨by omega,?_⟩⟩;intro u m;refine cC m O O (Ci (p:=t.a) _ (g.ext m.ext) (by omega)) ?_;rintro v u m rfl;apply aJ 1 [0] m;simp only[↓U];refine fS O (λd=>aI) ?_;simp only[I];refine eN O (λd=>bE O ((m.b 0 O).full aF aA)) (yF m O O (λd=>by simp only[dx,bm,df,zA,zB,zC,zD,zE,d,jK];rfl) (λd=>Ci (p:=t.b) _ (g.ext m.ext) (by omega)) ?_);intro u m;refine C (dR O O O) ?_;apply aJ 6 [0] m;simp only[↓U];refine fS O (λd=>aI) ?_;simp only[I];refine eN O (λd=>bE O ((m.b 1 O).full aF aA)) (eN O (λd=>bE O ((m.b 0 O).full aF aA)) (yF m O O (λd=>by simp only[dx,bm,df,zA,zB,zC,zD,zE,d,jK];rfl) (λd=>Rv (p:=t.a) (q:=t.b) _ (s.ext m.ext) (by omega) y) ?_));intro u m;refine fS O (λd=>lB (B d O)) (C (dR O O O) ?_);apply aJ 1 [0] m;simp only[↓U];refine cQ O ?_ ?_<;>intro e
  .have j:jP fs gs rim=Z:=Oj f (by rw[Ch f,e];simp);apply aG 5 [] m;simp only[↓U];refine aU O O ?_;try simp only[zD,zE]
   exact⟨_,O,m.ext,by rw[j]⟩
  have x:=e;apply sO 35 [1,0,0,0,0] m;simp only[↓U,eO,l,cY,aN,R,ai,aj,ag,ah,aa];refine⟨_,λu m=>((jS.cor (h.ext m.ext) (c:=1) (by omega)).lies aF aA),λQ=>⟨by omega,?_⟩⟩;intro u m;refine C (cW (m:=2) (n:=3) (r:=2) O O (by decide) (by decide)) ?_;apply iV 10 [0,0,0,2,0] m;simp only[↓U,eO,l,cY,aN,ai,aj,ag,ah,aa];refine⟨_,λu m=>((jS.cor (h.ext m.ext) (c:=2) (by omega)).lies aF aA),λS=>⟨by omega,?_⟩⟩;intro u m;refine cC m O O (Ci (p:=t.b) _ (g.ext m.ext) (by omega)) ?_;rintro v u m rfl;apply aJ 1 [0] m;simp only[↓U];refine fS O (λd=>aI) ?_;simp only[I];refine eN O (λd=>bE O ((m.b 0 O).full aF aA)) (yF m O O (λd=>by simp only[dx,bm,df,zA,zB,zC,zD,zE,d,jK];rfl) (λd=>Ci (p:=t.c) _ (g.ext m.ext) (by omega)) ?_);intro u m;refine C (dR O O O) ?_;apply aJ 6 [0] m;simp only[↓U];refine fS O (λd=>aI) ?_;simp only[I];refine eN O (λd=>bE O ((m.b 1 O).full aF aA)) (eN O (λd=>bE O ((m.b 0 O).full aF aA)) (yF m O O (λd=>by simp only[dx,bm,df,zA,zB,zC,zD,zE,d,jK];rfl) (λd=>Rv (p:=t.b) (q:=t.c) _ (s.ext m.ext) (by omega) y) ?_));intro u m;refine fS O (λd=>lB (B d O)) (C (dR O O O) ?_);apply aJ 1 [0] m;simp only[↓U];refine cQ O ?_ ?_<;>intro e
  .have j:jP fs gs rim=Z:=Oj f (by rw[Ch f,x,e];simp);apply aG 5 [] m;simp only[↓U];refine aU O O ?_;try simp only[zD,zE]
   exact⟨_,O,m.ext,by rw[j]⟩
  have D:=e;apply sO 35 [1,0,0,0,0] m;simp only[↓U,eO,l,cY,aN,R,ai,aj,ag,ah,aa];refine⟨_,λu m=>((jS.cor (h.ext m.ext) (c:=2) (by omega)).lies aF aA),λT=>⟨by omega,?_⟩⟩;intro u m;refine C (cW (m:=3) (n:=3) (r:=0) O O (by decide) (by decide)) ?_;apply iV 10 [0,0,0,2,0] m;simp only[↓U,eO,l,cY,aN,ai,aj,ag,ah,aa];refine⟨_,λu m=>((jS.cor (h.ext m.ext) (c:=0) (by omega)).lies aF aA),λV=>⟨by omega,?_⟩⟩;intro u m;refine cC m O O (Ci (p:=t.c) _ (g.ext m.ext) (by omega)) ?_;rintro v u m rfl;apply aJ 1 [0] m;simp only[↓U];refine fS O (λd=>aI) ?_;simp only[I];refine eN O (λd=>bE O ((m.b 0 O).full aF aA)) (yF m O O (λd=>by simp only[dx,bm,df,zA,zB,zC,zD,zE,d,jK];rfl) (λd=>Ci (p:=t.a) _ (g.ext m.ext) (by omega)) ?_);intro u m;refine C (dR O O O) ?_;apply aJ 6 [0] m;simp only[↓U];refine fS O (λd=>aI) ?_;simp only[I];refine eN O (λd=>bE O ((m.b 1 O).full aF aA)) (eN O (λd=>bE O ((m.b 0 O).full aF aA)) (yF m O O (λd=>by simp only[dx,bm,df,zA,zB,zC,zD,zE,d,jK];rfl) (λd=>Rv (p:=t.c) (q:=t.a) _ (s.ext m.ext) (by omega) y) ?_));intro u m;refine fS O (λd=>lB (B d O)) (C (dR O O O) ?_);apply aJ 1 [0] m;simp only[↓U];refine cQ O ?_ ?_<;>intro e
  .have j:jP fs gs rim=Z:=Oj f (by rw[Ch f,x,D,e];simp);apply aG 5 [] m;simp only[↓U];refine aU O O ?_;try simp only[zD,zE]
   exact⟨_,O,m.ext,by rw[j]⟩
  have J:=e;apply aG 22 [2,0] m;simp only[↓U,R];apply I0;omega;exact H (N2-(k+1)) _ _ (by omega) (by kernel_rfl) ⟨k+1,O,(m.sel [X9,X9,X9,X9,X9,X9]),by rw[Ch f,o,x,D,J];rfl,by omega,rfl⟩
 have K:k=N2:=by omega
 rw[K,show gs.take N2=gs from a_ (by rw[z.len];exact ba _)] at o;apply aG 6 [] m;simp only[↓U];refine aU O O ?_;try simp only[zD,zE]
 exact⟨_,O,m.ext,by rw[o]⟩
def ai5{rim:List E3}{m:Mv}(b:ms[i]? = H m)(h:sC f c ms rim i m=X9):oE f c ms rim=X9:=by
 cases a:oE f c ms rim with
 |false=>rfl
 |true=>rw[tR.1 a i m b] at h;cases h
def atC{a:Mv}{p:P3}{b:Bool}(h:ms[q]? = H a):((b&&(ms.take q).all λx=>decide (x.1≠p))&&decide (¬(a.1.x=p.x/\a.1.y=p.y/\a.1.z=p.z)))=(b&&(ms.take (q+1)).all λx=>decide (x.1≠p)):=by
 rw[bV h,qq,Bool.and_assoc];simp only[gZ,List.all_cons,List.all_nil,Bool.and_true,ne_eq]
def apQ{p:P3}{b:Bool}:b=(b&&(ms.take 0).all λx=>decide (x.1≠p)):=by simp
def avY{r f t s:Bool}(h:(((!r || !f) || !t)||s)=Z):(r&&f&&t && !s)=X9:=by revert h;cases r<;>cases f<;>cases t<;>cases s<;>decide
def avZ{r f t s:Bool}(h:(((!r || !f) || !t)||s)=X9):(r&&f&&t && !s)=Z:=by revert h;cases r<;>cases f<;>cases t<;>cases s<;>decide
def atD{mv a:Mv}{j:Nat}(h:ms[j]? = H a):decide (a.1.Lt mv.1)=(decide (j+1=0)||(ms[j+1-1]?).any λx=>decide (x.1.Lt mv.1)):=by
 rw[fb,h];simp
def amG{y:T3}:(x.a.x=y.a.x/\x.a.y=y.a.y/\x.a.z=y.a.z/\x.b.x=y.b.x/\x.b.y=y.b.y/\x.b.z=y.b.z/\x.c.x=y.c.x/\x.c.y=y.c.y/\x.c.z=y.c.z)↔x=y:=
 ⟨λ⟨h1,h2,d,e,f,g,i,j,k⟩=>Jc (P3.eq h1 h2 d) (P3.eq e f g) (P3.eq i j k),λh=>by rw[h];exact⟨O,O,O,O,O,O,O,O,O⟩⟩
def awV{x:Bool}(d:x=decide (t.b.Lt t.a))(e:y=decide (t.c.Lt t.a))(f:z=decide (t.c.Lt t.b))(h:(y&&(z || !x))=Z):F t=⟨t.c,t.a,t.b⟩:=by
 subst d;subst e;subst f;simp only[bt,Y2,iy,ip,Y7] at h;exact Z9 h
def av0{x:Bool}(d:x=decide (t.b.Lt t.a))(e:y=decide (t.c.Lt t.a))(f:z=decide (t.c.Lt t.b))(h:(y&&(z || !x))=X9)(h1:x=Z):F t=⟨t.b,t.c,t.a⟩:=by
 subst d;subst e;subst f;have h2:¬(t.c.Lt t.a/\(t.c.Lt t.b\/¬t.b.Lt t.a)):=λk=>by
  rw[Y5 k.1,Bool.true_and] at h;rcases k.2 with k2|k2
  .rw[Y5 k2] at h;cases h
  exact k2 (Y9 h1)
 rw[F,K0 h2,Z9 (Y9 h1)]
def av1{x:Bool}(e:x=decide (t.b.Lt t.a))(f:y=decide (t.c.Lt t.a))(g:z=decide (t.c.Lt t.b))(h:(y&&(z || !x))=X9)(h1:x=X9):F t=t:=by
 subst e;subst f;subst g;have d:=X5 h1;have h2:¬(t.c.Lt t.a/\(t.c.Lt t.b\/¬t.b.Lt t.a)):=λk=>by
  rw[Y5 k.1,h1] at h;simp at h
 rw[F,K0 h2,K0 d]
/-! ### How often a triangle is hit -/
def cV(ms:List Mv)(fs:List T3)(i:Nat)(u:T3):ak:=G ((sD ms (fs.take i) u:Nat):Int)
def Do(ms:List Mv)(fs gs:List T3)(i q:Nat):List ak:=(gs.take q).map (cV ms fs (i+1))++(gs.drop q).map (cV ms fs i)
def av2    : gs.map (cV ms fs i)=Do ms fs gs i 0:=rfl
def apR    : (Do ms fs gs i q).length=gs.length:=by simp[Do];omega
def apS(h:q=gs.length):Do ms fs gs i q=gs.map (cV ms fs (i+1)):=by subst h;simp[Do]
def apT(h:gs[q]? = H u):(Do ms fs gs i q)[q]? = H (cV ms fs i u):=by
 have a:=(az.1 h).1;rw[Do,List.getElem?_append_right (by simp;omega),eb,bz,ep (by omega),Nat.sub_self,fi,List.getElem?_drop,Nat.add_zero,h];rfl
def Ol(b:fs[i]? = H t):sD ms (fs.take (i+1)) u=sD ms (fs.take i) u+if (t.img ms).nd=Z/\F u=F (t.img ms) then 1 else 0:=by
 unfold sD;rw[bV b,gl,bg];by_cases h:(t.img ms).nd=Z/\F u=F (t.img ms)
 .rw[Z9 h];simp[h]
 rw[K0 h];have:((t.img ms).nd&&decide (F u=F (t.img ms)))=X9:=by
  cases a:(t.img ms).nd with
  |false=>rfl
  |true=>rw[Y6 (λk=>h ⟨a,k⟩)];rfl
 simp[this]
def apU(ms:List Mv)(fs:List T3)(u:T3):sD ms fs u<=fs.length:=gd _ _
def amH(h:gs[q]? = H u)(v:ak):bR (Do ms fs gs i q) q [v]=(gs.take q).map (cV ms fs (i+1))++v::(gs.drop (q+1)).map (cV ms fs i):=by
 have b:=(az.1 h).1;have e:Do ms fs gs i q=(gs.take q).map (cV ms fs (i+1))++cV ms fs i u::(gs.drop (q+1)).map (cV ms fs i):=by
  rw[Do,dw b,(az.1 h).2];rfl
 have a:((gs.take q).map (cV ms fs (i+1))).length=q:=by simp;omega
 rw[bR,e,List.take_left' a,<-List.drop_drop,List.drop_left' a];simp
def apV(c:fs[i]? = H t)(a:(t.img ms).nd=Z)(h:gs[q]? = H u)(b:F u=F (t.img ms)):bR (Do ms fs gs i q) q [G (((sD ms (fs.take i) u:Nat):Int)+1)]=Do ms fs gs i (q+1):=by
 rw[amH h,Do,bV h,db,dm];have:cV ms fs (i+1) u=G (((sD ms (fs.take i) u:Nat):Int)+1):=by
  rw[cV,Ol c,Z9 ⟨a,b⟩];rfl
 simp[this]
def atE(c:fs[i]? = H t)(h:gs[q]? = H u)(b:¬F u=F (t.img ms)):Do ms fs gs i (q+1)=Do ms fs gs i q:=by
 have a:=(az.1 h).1;have:cV ms fs (i+1) u=cV ms fs i u:=by rw[cV,Ol c,K0 (λk=>b k.2)];rfl
 rw[Do,Do,bV h,db,dm,dw a,(az.1 h).2];simp[this]
def amI(b:fs[i]? = H t)(a:(t.img ms).nd=X9):gs.map (cV ms fs (i+1))=gs.map (cV ms fs i):=
 iv λu _=>by rw[cV,Ol b,K0 (λk=>by rw[a] at k;cases k.1)];rfl
def av3   : bx gs.length (oc .i64 0)=gs.map (cV ms fs 0):=by
 have:gs.map (cV ms fs 0)=gs.map λ_=>oc .i64 0:=iv λu _=>rfl;rw[this,List.map_const']
def amJ{b c:P3}:((decide (¬(a.x=b.x/\a.y=b.y/\a.z=b.z))&&decide (¬(b.x=c.x/\b.y=c.y/\b.z=c.z)))&&decide (¬(c.x=a.x/\c.y=a.y/\c.z=a.z)))=(⟨a,b,c⟩:T3).nd:=by
 simp only[T3.nd,gZ,ne_eq]
def aaw(a:f[i]? = H t)(h:qQ c (t.img ms)=X9):mC f c ms=X9:=by
 rw[mC,(mc.2 ⟨t,bn a,by rw[h];exact fh⟩)];rfl
def Vu(b:f[i]? = H t)(a:((f.take i).all λt=>qQ c (t.img ms))=Z)(h:qQ c (t.img ms)=Z):((f.take (i+1)).all λt=>qQ c (t.img ms))=Z:=by
 rw[bV b,qq,a];simp[h]
def ai6(a:c[q]? = H u)(h:¬((sD ms f u:Nat):Int)=1):mC f c ms=X9:=by
 rw[mC];have:(c.all λu=>decide (sD ms f u=1))=X9:=mc.2 ⟨u,bn a,by simpa using λk=>h (by omega)⟩;rw[this,Bool.and_false]
def amK(b:c[q]? = H u)(a:((c.take q).all λu=>decide (sD ms f u=1))=Z)(h:((sD ms f u:Nat):Int)=1):((c.take (q+1)).all λu=>decide (sD ms f u=1))=Z:=by
 rw[bV b,qq,a];simp;omega
def Vv(a:c[q]? = H u):((c.take (q+1)).any λu=>decide (F u=F x))=((c.take q).any (λu=>decide (F u=F x))||decide (F u=F x)):=pL a
def adJ(h:x.nd=Z):qQ c x=c.any λu=>decide (F u=F x):=by rw[qQ,h,Z9 rfl]
def adK(h:x.nd=X9):qQ c x=iE c x.a (if x.a=x.b then x.c else x.b):=by rw[qQ,h,K0 fh]
def amL{rim:List E3}{N3 N4 V:Nat}{r:Option Addr}(w:an)(s:pH aM 9 w A N fs)(M:pH aM 9 w A2 N2 gs)(e:pH bG 6 w A3 N3 ms)(F:pH bG 6 w r N4 rim)(hN:N<=1000000000)(ad:N2<=1000000000)(ae:N3<=1000000000)(af:N4<=1000000000):dF G1 161 [.slice A N cap,.slice A2 N2 cap2,.slice A3 N3 cap3,.slice r N4 V] w (λv _=>v=.bool (oE fs gs ms rim)):=by
 refine⟨bK func161 (by kernel_rfl),?_⟩;have m:=Mem.refl w
 go_enter func161,ntmps161
 apply fD 10 [0] m;simp only[↓U];refine bU [9] [8,10,11,12,13,14,15,16,17,18,19,20,21,22,23,24,25,26,27,28,29,30,31,32,33,34,35,36,37,38,39,40,41,42,43,44,45,46,47,48,49,50,51,52,53,54,55,56,57,58,59,60,61,62,63,64,65,66,67,68,69,70,71,72,73,74,75,76,77,78,79,80,81,82,83,84,85,86,87,88,89,90,91,92,93,94,95,96,97,98,99] (λn vs l=>∃(k:Nat),vs=[G (k:Int)]/\Mem w l []/\(∀i mv,i<k->ms[i]? = H mv->sC fs gs ms rim i mv=Z)/\(k<=N3)/\(n=N3-k)) ?_ ?_
 .exact⟨_,0,O,m,λ_ _ h=>Y0 h (Nat.not_lt_zero _),bu _,O⟩
 intro n vs wr d u K1 J;obtain⟨k,rfl,m,E,hk,hn⟩:=d;simp only[zu,zF,zG];apply aG 8 [0,0] m;simp only[↓U,Vd];refine bB O ?_ ?_<;>intro ag
 .obtain⟨mv,D,a3,rfl,b⟩:=e.get (i:=k) (by omega);apply aG 4 [0] m;simp only[↓U];refine adb m [10] [21,22,23,24,25,26,27,28,29,30,31,32,33,34,35,36] (λvs=>vs=[.bool (decide (k=0)||(ms[k-1]?).any λx=>decide (x.1.Lt mv.1))]) ?_ ?_
  .intro K2 y;rcases fm k with hk0|hk0
   .subst hk0;refine mq m aD (by kernel_rfl) (fE 17 [1,0,0,0,0,0,0,0,0,0,0,0,0] ?_);simp only[↓U];apply I0;omega;refine bM ?_;intro u m;exact gk (y _ _ (by kernel_rfl) m O)
   obtain⟨j,rfl⟩:∃j,k=j+1:=⟨k-1,by omega⟩
   obtain⟨g,f,a4,P,Y⟩:=e.get (i:=j) (by omega);cases P;refine mq m aD (by kernel_rfl) (fE 6 [2,0,0,0] ?_);simp only[↓U];apply I0;omega;refine rI O (L (aP Hx uS O O (by omega) (by omega) (qY (show Int.toNat (((j+1:Nat):Int)-1)=j by omega))) ?_);refine fE 7 [0,0,0,0,0,0,0,0,0,0,0] ?_;simp only[↓U,sH,Ig,aa,ai,aj];refine⟨_,λu m=>((yS (Y.ext m.ext)).lies aF aA),_,λu m=>((yS (b.ext m.ext)).lies aF aA),by omega,?_⟩;refine rI O (jF O O (Cf (p:=g.1) (q:=mv.1)) (L (xP O) (L aK (bM ?_))));intro u m;refine gk ?_;simp only[I];rw[atD (mv:=mv) f];exact y _ _ (by kernel_rfl) m O
  intro vs wr m d u;obtain rfl:=d;simp only[zu,zF,zG];apply S 8 [0,0,0] m;simp only[↓U,Ig,sH,ai,aj,aa];refine⟨_,λu m=>((yS (b.ext m.ext)).lies aF aA),by omega,?_⟩;refine cC m O O (Vt (p:=mv.1) _ (s.ext m.ext) (by omega)) ?_;rintro v u m rfl;apply aJ 10 [0,0,0] m;simp only[↓U,Ig,He,ai,aj,aa];refine⟨_,λu m=>((Fm (b.ext m.ext)).lies aF aA),by omega,?_⟩;refine cC m O O (Vt (p:=mv.2) _ (M.ext m.ext) (by omega)) ?_;rintro v u m rfl;apply aJ 1 [0] m;simp only[↓U];refine fS O (λa=>aI) (fS O (λa=>aI) (fS O (λa=>aI) ?_));simp only[I];refine fS O (λa=>aP Hx uS (B a O) (B a O) (by omega) (by omega) (qY (ai _))) (fS O (λa=>aY (c:=2) Hy O aA (B a O) O) ?_);simp only[I];refine eN O (λa=>bE (B a O) ((Fm (b.ext m.ext)).lies aF aA)) (yF m O O (λa=>by simp only[dx,bm,df,zA,zB,zC,zD,zE,a,jK];rfl) (λa=>Vt (p:=mv.2) _ (s.ext m.ext) (by omega)) ?_);intro u m;refine C (dR O O O) ?_;apply aJ 7 [] m;simp only[↓U];rw[@apQ ms mv.2 (sB gs mv.2&&sB fs mv.2)];apply S 1 [0] m;simp only[↓U];refine bU [12,13] [60,61,62,63,64,65,66,67,68,69,70,71,72,73,74,75,76,77,78,79] (λn vs l=>∃(q:Nat),vs=[.bool (sB gs mv.2&&sB fs mv.2&&(ms.take q).all λx=>decide (x.1≠mv.2)),G (q:Int)]/\Mem w l []/\(q<=N3)/\(n=N3-q)) ?_ ?_
  .exact⟨_,0,O,m,bu _,O⟩
  intro n vs wr d u K3 K;obtain⟨q,rfl,m,hq,al⟩:=d;simp only[zu,zF,zG];apply aG 8 [0,0] m;simp only[↓U,Vd];refine bB O ?_ ?_<;>intro ah
  .obtain⟨mu,R,a5,Q,ab⟩:=e.get (i:=q) (by omega);cases Q;apply aG 3 [0] m;simp only[↓U];refine mq m aD (by kernel_rfl) (L aI (L aI (bZ O (λa=>aI) (bZ O (λa=>aI) ?_))));simp only[I];refine bZ O (λa=>aP Hx uS (B a O) (B a O) (by omega) (by omega) (qY (ai _))) (bZ O (λa=>aY (c:=2) Hy O aA (B a O) O) ?_);simp only[I];refine eG O (λa u m=>bE (B a O) ((yS (ab.ext m.ext)).lies aF aA)) (bZ O (λa=>aI) (bZ O (λa=>aI) ?_));simp only[I];refine bZ O (λa=>aP Hx uS (B a O) (B a O) (by omega) (by omega) (qY (ai _))) (bZ O (λa=>aY (c:=2) Hy O aA (B a O) O) ?_);simp only[I];refine eG O (λa u m=>bE (B a O) ((Fm (b.ext m.ext)).lies aF aA)) (bZ O (λa=>Gu (B a O) (B a O)) (L (dR O O O) (L aK (bM ?_))));intro u m;apply S 6 [0] m;simp only[↓U];apply I0;omega;rw[atC R];exact K (N3-(q+1)) _ _ (by omega) (by kernel_rfl) ⟨q+1,O,m,by omega,O⟩
  have T:q=N3:=by omega
  rw[T,show ms.take N3=ms from a_ (Nat.le_of_eq e.len)];apply aG 9 [0,0,0] m;simp only[↓U,Ig,sH,ai,aj,aa];refine⟨_,λu m=>((yS (b.ext m.ext)).lies aF aA),by omega,?_⟩;refine cC m O O (Ci (p:=mv.1) _ (F.ext m.ext) (by omega)) ?_;rintro v u m rfl;apply aJ 12 [3,3,2] m;simp only[↓U];refine λ_=>λ_=>λ_=>?_;apply S 1 [0] m;simp only[↓U];refine cQ O ?_ ?_<;>intro z
  .have o:sC fs gs ms rim k mv=X9:=avY z;apply aG 5 [] m;simp only[↓U];refine aU O O ?_;try simp only[zD,zE]
   exact⟨_,O,m.ext,by rw[ai5 D o]⟩
  have o:sC fs gs ms rim k mv=Z:=avZ z;have X:∀i mv,i<k+1->ms[i]? = H mv->sC fs gs ms rim i mv=Z:=λi g hi f=>by
   rcases d_ i k with h|h
   .exact E i g h f
   obtain rfl:i=k:=by omega
   obtain rfl:=fq (D.symm.trans f);exact o
  apply aG 7 [0] m;simp only[↓U];apply I0;omega;exact J (N3-(k+1)) _ _ (by omega) (by kernel_rfl) ⟨k+1,O,m,X,by omega,O⟩
 have ak:k=N3:=by omega
 have W:oE fs gs ms rim=Z:=tR.2 λi mv t=>E i mv (by have:=(az.1 t).1;rw[e.len] at this;omega) t;apply aG 6 [] m;simp only[↓U];refine aU O O ?_;try simp only[zD,zE]
 exact⟨_,O,m.ext,by rw[W]⟩
def aax  : eS G1 35 [tr t] (tr (F t)):=by
 intro w;refine⟨bK func35 (by kernel_rfl),?_⟩;have m:=Mem.refl w
 go_enter func35,ntmps35
 apply kX 11 [2,2,0] m;simp only[↓U,mH,l,aN,ag,ah,aa];intro i j;apply I0;omega;intro u m;refine tK m O O (Cf (p:=t.b) (q:=t.a)) 8 [2,2,0] ?_;simp only[↓U,l,aN,ag,ah,aa];apply I0;omega;intro u m;refine tK m O O (Cf (p:=t.c) (q:=t.a)) 8 [2,2,0] ?_;simp only[↓U,l,aN,ag,ah,aa];apply I0;omega;intro u m;refine tK m O O (Cf (p:=t.c) (q:=t.b)) 4 [] ?_;simp only[↓U];intro u m;cases e:decide (t.c.Lt t.a)
 .apply S 17 [0,0,0,0,0,0] m;simp only[↓U];refine cQ O ?_ ?_<;>intro f
  .have d:=av0 (t:=t) rfl rfl rfl (by rw[e];rfl) f;apply sO 12 [2,2,2,0] m;simp only[↓U,l,aN,nU,fJ,ag,ah,aa];apply I0;omega;intro u m;refine aU O ⟨_,O,((m.b 0 O).full dG bA)⟩ ?_;try simp only[zD,zE]
   exact⟨_,O,m.ext,by rw[d];rfl⟩
  have d:=av1 (t:=t) rfl rfl rfl (by rw[e];rfl) f;apply sO 7 [2,0] m;simp only[↓U,fJ,aa];intro u m;refine aU O ⟨_,O,((m.b 0 O).full dG bA)⟩ ?_;try simp only[zD,zE]
  exact⟨_,O,m.ext,by rw[d];rfl⟩
 apply S 5 [0,0,0] m;simp only[↓U];refine gM O (λh=>aI) (gM O (λh=>lB (B h O)) (gE O (C (gY O O O) ?_)));apply aJ 2 [0] m;simp only[↓U];refine cQ O ?_ ?_<;>intro g
 .have d:=awV (t:=t) rfl rfl rfl (by rw[e];exact g);apply sO 12 [2,2,2,0] m;simp only[↓U,l,aN,nU,fJ,ag,ah,aa];apply I0;omega;intro u m;refine aU O ⟨_,O,((m.b 0 O).full dG bA)⟩ ?_;try simp only[zD,zE]
  exact⟨_,O,m.ext,by rw[d];rfl⟩
 apply aG 6 [0] m;simp only[↓U];refine cQ O ?_ ?_<;>intro f
 .have d:=av0 (t:=t) rfl rfl rfl (by rw[e];exact g) f;apply sO 12 [2,2,2,0] m;simp only[↓U,l,aN,nU,fJ,ag,ah,aa];apply I0;omega;intro u m;refine aU O ⟨_,O,((m.b 0 O).full dG bA)⟩ ?_;try simp only[zD,zE]
  exact⟨_,O,m.ext,by rw[d];rfl⟩
 have d:=av1 (t:=t) rfl rfl rfl (by rw[e];exact g) f;apply sO 7 [2,0] m;simp only[↓U,fJ,aa];intro u m;refine aU O ⟨_,O,((m.b 0 O).full dG bA)⟩ ?_;try simp only[zD,zE]
 exact⟨_,O,m.ext,by rw[d];rfl⟩
def afQ{N3:Nat}(w:an)(J:pH aM 9 w A N fs)(K:pH aM 9 w A2 N2 gs)(E:pH bG 6 w A3 N3 ms)(hN:N<=1000000000)(au:N2<=1000000000)(av:N3<=1000000000)(aq:N2<=cap2)(aw:N2<=1000000):dF G1 162 [.slice A N cap,.slice A2 N2 cap2,.slice A3 N3 cap3] w (λv _=>v=.bool (mC fs gs ms)):=by
 refine⟨bK func162 (by kernel_rfl),?_⟩;have m:=Mem.refl w
 go_enter func162,ntmps162
 apply fD 8 [0] m;simp only[↓U,jL];refine lD dS nR O O O (ai _) (ai _) (by omega) (by omega) (by omega) (by omega) ?_;intro u C e_ h_ k_;replace m:=m.newB e_ h_ k_;apply aJ 2 [] m;simp only[↓U];obtain rfl:gs.length=N2:=K.len;rw[av3 (ms:=ms) (fs:=fs)] at m;apply S 6 [0] m;simp only[↓U];refine bU [8] [6,9,10,11,12,13,14,15,16,21,22,23,24,25,26,27,28,29,30,31,32,33,34,35,36,37,38,39,40,41,42,43,44,45,46,47,48,49,50,51,52,53,54,55,56,57,58,59,60,61,62,63,64,65,66,67,68,69,70,71,72,73,74,75,76,77,78,79,80,81,82,83,84,85,86,87,88,89,90,91,92,93,94,95,96,97] (λn vs r=>∃(k:Nat),vs=[G (k:Int)]/\Mem w r [bI C (gs.map (cV ms fs k)) 3]/\(((fs.take k).all λt=>qQ gs (t.img ms))=Z)/\(k<=N)/\(n=N-k)) ?_ ?_
 .exact⟨_,0,O,m,O,bu _,O⟩
 intro n vs wr f u K1 R;obtain⟨k,rfl,m,s,hk,aH⟩:=f;simp only[zu,zF,zG];apply aG 8 [0,0] m;simp only[↓U,jL];refine bB O ?_ ?_<;>intro ax
 .obtain⟨t,h,a,rfl,Q⟩:=J.get (i:=k) (by omega);apply aG 11 [0,0,0] m;simp only[↓U,eO,l,ai,aj,ag,ah,aa];refine⟨_,λu m=>((jS.cor (Q.ext m.ext) (c:=0) (by omega)).lies aF aA),by omega,?_⟩;refine cC m O O (Fo (p:=t.a) _ (E.ext m.ext) (by omega)) ?_;rintro v u m rfl;apply iV 11 [0,0,0,0] m;simp only[↓U,cY,aN,eO,l,aa,ai,aj,ag,ah];refine λg2=>⟨_,λu m=>((jS.cor (Q.ext m.ext) (c:=1) (by omega)).lies aF aA),by omega,?_⟩
  intro u m;refine cC m O O (Fo (p:=t.b) _ (E.ext m.ext) (by omega)) ?_;rintro v u m rfl;apply iV 11 [0,0,0,0] m;simp only[↓U,cY,aN,eO,l,aa,ai,aj,ag,ah];refine λg3=>⟨_,λu m=>((jS.cor (Q.ext m.ext) (c:=2) (by omega)).lies aF aA),by omega,?_⟩
  intro u m;refine cC m O O (Fo (p:=t.c) _ (E.ext m.ext) (by omega)) ?_;rintro v u m rfl;apply iV 11 [0,3,2,4,2,1] m;simp only[↓U,cY,aN,aa];refine λg4=>⟨_,lO,_,lO,λ_=>?_⟩
  intro u m;apply S 3 [4,1,3,0] m;simp only[↓U,aN];refine⟨_,lO,λ_=>?_⟩;refine cQ O ?_ ?_<;>intro B
  .have g:(t.img ms).nd=Z:=amJ.symm.trans B;apply aG 6 [3,2,1] m;simp only[↓U,aN,nU,aa];refine go (tK m O O (aax (t:=t.img ms)) 6 [0] ?_);simp only[↓U,mH,fJ,aa];intro D u m;apply S 7 [0] m;simp only[↓U];refine bU [13,14] [66,67,68,69,70,71,72,73,74,75,76,77,78,79,80,81,82,83,84] (λn vs r=>∃(q:Nat),vs=[.bool ((gs.take q).any λu=>decide (F u=F (t.img ms))),G (q:Int)]/\Mem w r [bI D (aM (F (t.img ms))) 39,bI C (Do ms fs gs k q) 3]/\(q<=gs.length)/\(n=gs.length-q)) ?_ ?_
   .rw[av2] at m;exact⟨_,0,O,(m.sel [Z,X9,X9,X9,Z]),bu _,O⟩
   intro n vs wr f u K2 T;obtain⟨q,rfl,m,hq,al⟩:=f;simp only[zu,zF,zG];apply aG 8 [0,0] m;simp only[↓U,jL];refine bB O ?_ ?_<;>intro ay
   .obtain⟨e,d,a2,rfl,ar⟩:=K.get (i:=q) (by omega);have ak:=apU ms (fs.take k) e;rw[bz] at ak;apply aG 4 [0] m;simp only[↓U];refine mq m aD (by kernel_rfl) (fE 4 [0,1] ?_);simp only[↓U,eO,ai,aj];refine⟨_,λu m=>((ar.ext m.ext).lies dG bA),by omega,?_⟩;refine jF O O (aax (t:=e)) ?_;simp only[I];refine ql O (λu m=>((m.b 0 O).full dG bA)) ?_;simp only[I];refine L (aiD O O) (bM ?_);intro u m;refine gc ?_;simp only[I];refine bB O ?_ ?_<;>intro W
    .have o:F e=F (t.img ms):=amG.1 W;apply aG 11 [0,2,0] m;simp only[↓U,Qg,ai,aj,eo];refine⟨_,λu m=>(show lC _ _ _ _ (G ((sD ms (fs.take k) e:Nat):Int)) from (m.b 1 O).lies1 (i:=q) bJ (apT d)),by omega,?_⟩;refine dP m 1 O O O bL (by rw[apR];have:=(az.1 d).1;simp;omega) ⟨rfl,rfl⟩ ?_;intro u m;simp only[I] at m;rw[apV h g d o] at m;apply aJ 7 [0] m;simp only[↓U];apply I0;omega;rw[show Z=((gs.take (q+1)).any λu=>decide (F u=F (t.img ms))) by rw[Vv d,Y5 o,Bool.or_true]];exact T (gs.length-(q+1)) _ _ (by omega) (by kernel_rfl) ⟨q+1,O,m,by omega,O⟩
    have o:¬F e=F (t.img ms):=mt amG.2 W;apply aG 7 [0] m;simp only[↓U];apply I0;omega;rw[show ((gs.take q).any λu=>decide (F u=F (t.img ms)))=((gs.take (q+1)).any λu=>decide (F u=F (t.img ms))) by rw[Vv d,Y6 o,Bool.or_false]];rw[<-atE h d o] at m;exact T (gs.length-(q+1)) _ _ (by omega) (by kernel_rfl) ⟨q+1,O,m,by omega,O⟩
   have ae:q=gs.length:=by omega
   rw[apS ae] at m;rw[ae,fe];apply aG 7 [0] m;simp only[↓U];refine cQ O ?_ ?_<;>intro X
   .have j:=aaw h ((adJ g).trans (by simpa using X));apply aG 5 [] m;simp only[↓U];refine aU O O ?_;try simp only[zD,zE]
    exact⟨_,O,m.ext,by rw[j]⟩
   have P:=Vu h s ((adJ g).trans (by simpa using X));apply aG 7 [0] m;simp only[↓U];apply I0;omega;exact R (N-(k+1)) _ _ (by omega) (by kernel_rfl) ⟨k+1,O,(m.sel [X9,Z]),P,by omega,O⟩
  have g:(t.img ms).nd=X9:=amJ.symm.trans B;apply sO 12 [2,0,4,3] m;simp only[↓U,aN,cY,aa];intro D u m;apply S 2 [0] m;simp only[↓U];refine⟨_,fH,?_⟩;refine kS m 0 [] [91] (λvs i=>vs=[]/\i=bI D [G (if (t.img ms).a=(t.img ms).b then (t.img ms).c else (t.img ms).b).x,G (if (t.img ms).a=(t.img ms).b then (t.img ms).c else (t.img ms).b).y,G (if (t.img ms).a=(t.img ms).b then (t.img ms).c else (t.img ms).b).z] 30) ?_ ?_
  .intro K3 V;refine bB O ?_ ?_<;>intro Y
   .have M:(t.img ms).a=(t.img ms).b:=gZ.1 Y;apply sO 4 [2,0,0] m;simp only[↓U,aN,aa];intro u m;exact V _ _ _ (by kernel_rfl) m ⟨O,by rw[Z9 M];rfl⟩
   have M:¬(t.img ms).a=(t.img ms).b:=mt gZ.2 Y;apply aG 1 [0] m;simp only[↓U];exact V _ _ _ (by kernel_rfl) m ⟨O,by rw[K0 M];rfl⟩
  intro vs i wr m f u;obtain⟨rfl,rfl⟩:=f;simp only[zF,zG] at m;simp only[zu,zF,zG];apply S 5 [4,1,0] m;simp only[↓U,aN];refine cC m O O (Rv (p:=(t.img ms).a) (q:=if (t.img ms).a=(t.img ms).b then (t.img ms).c else (t.img ms).b) _ (K.ext m.ext) (by omega) aq) ?_;rintro v u m rfl;apply aJ 7 [0] m;simp only[↓U];refine cQ O ?_ ?_<;>intro ab
  .have j:=aaw h ((adK g).trans (by simpa using ab));apply aG 5 [] m;simp only[↓U];refine aU O O ?_;try simp only[zD,zE]
   exact⟨_,O,m.ext,by rw[j]⟩
  have P:=Vu h s ((adK g).trans (by simpa using ab));apply aG 7 [0] m;simp only[↓U];apply I0;omega;rw[<-amI (gs:=gs) h g] at m;exact R (N-(k+1)) _ _ (by omega) (by kernel_rfl) ⟨k+1,O,(m.sel [X9,X9,X9,X9,Z]),P,by omega,O⟩
 have aE:k=N:=by omega
 have am:(fs.all λt=>qQ gs (t.img ms))=Z:=by rw[a_ (by rw[J.len];omega)] at s;exact s
 rw[show gs.map (cV ms fs k)=gs.map λu=>oc .i64 ((sD ms fs u:Nat):Int) from iv λu _=>by rw[cV,a_ (by rw[J.len];omega)]] at m;apply aG 7 [0] m;simp only[↓U];refine bU [17] [6,98,99,100,101,102,103,104,105,106,107,108] (λn vs r=>∃(q:Nat),vs=[G (q:Int)]/\Mem w r [bI C (gs.map λu=>oc .i64 ((sD ms fs u:Nat):Int)) 3]/\(((gs.take q).all λu=>decide (sD ms fs u=1))=Z)/\(q<=gs.length)/\(n=gs.length-q)) ?_ ?_
 .exact⟨_,0,O,m,O,bu _,O⟩
 intro n vs wr f u K4 af;obtain⟨q,rfl,m,hc,hq,al⟩:=f;simp only[zu,zF,zG];apply aG 8 [0,0] m;simp only[↓U,lS];refine bB O ?_ ?_<;>intro aB
 .obtain⟨e,d⟩:∃e,gs[q]? = H e:=⟨_,ap (by omega)⟩
  apply aG 11 [0,2,0,0] m;simp only[↓U,Qg,ai,aj,eo];refine⟨_,λu m=>((m.b 0 O).lies1 (i:=q) bJ (by rw[fi,d];rfl)),by omega,?_⟩;refine bB O ?_ ?_<;>intro ad
  .have j:=ai6 d ad;apply aG 5 [] m;simp only[↓U];refine aU O O ?_;try simp only[zD,zE]
   exact⟨_,O,m.ext,by rw[j]⟩
  have B:=amK d hc (Classical.not_not.1 ad);apply aG 7 [0] m;simp only[↓U];apply I0;omega;exact af (gs.length-(q+1)) _ _ (by omega) (by kernel_rfl) ⟨q+1,O,m,B,by omega,O⟩
 have ao:mC fs gs ms=Z:=by rw[a_ (by omega)] at hc;rw[mC,am,hc];rfl
 apply aG 6 [] m;simp only[↓U];refine aU O O ?_;try simp only[zD,zE]
 exact⟨_,O,m.ext,by rw[ao]⟩
end
section
attribute [local irreducible] bf M fY cJ cU Code.wp
variable{q:P3}
def aro{p:P3}:vS G1 276 [pt p] (G p.x):=by
 intro w;refine⟨ak5,?_⟩;have m:=iL.refl w
 go_enter func276,ntmps276
 refine aV λe a=>am (qJ m O ?_);intro g u m;refine C aK (E (a _ _ ?_));refine aV λf d=>am (C (aY (c:=0) underlying245 O bL O O) ?_);simp only[I];refine aS O ((m.b 0 O).lies1 bJ O) ?_;simp only[I];refine C aK (E (d _ _ ?_));refine i_ ?_;simp only[I];try simp only[cn,Exit.then,Y4]
 refine aU O O ?_;try simp only[zD,zE]
 exact⟨_,O,m.ext,O⟩
def arp{p:P3}:vS G1 277 [pt p] (G p.y):=by
 intro w;refine⟨ak6,?_⟩;have m:=iL.refl w
 go_enter func277,ntmps277
 refine aV λe a=>am (qJ m O ?_);intro g u m;refine C aK (E (a _ _ ?_));refine aV λf d=>am (C (aY (c:=0) underlying245 O bL O O) ?_);simp only[I];refine aS O ((m.b 0 O).lies1 bJ O) ?_;simp only[I];refine C aK (E (d _ _ ?_));refine i_ ?_;simp only[I];try simp only[cn,Exit.then,Y4]
 refine aU O O ?_;try simp only[zD,zE]
 exact⟨_,O,m.ext,O⟩
def arq{p:P3}:vS G1 278 [pt p] (G p.z):=by
 intro w;refine⟨ak7,?_⟩;have m:=iL.refl w
 go_enter func278,ntmps278
 refine aV λe a=>am (qJ m O ?_);intro g u m;refine C aK (E (a _ _ ?_));refine aV λf d=>am (C (aY (c:=0) underlying245 O bL O O) ?_);simp only[I];refine aS O ((m.b 0 O).lies1 bJ O) ?_;simp only[I];refine C aK (E (d _ _ ?_));refine i_ ?_;simp only[I];try simp only[cn,Exit.then,Y4]
 refine aU O O ?_;try simp only[zD,zE]
 exact⟨_,O,m.ext,O⟩
def apW  : vS G1 195 [] (.agg #[.func (.func 276) #[] #[],.func (.func 277) #[] #[],.func (.func 278) #[] #[]]):=by
 intro w;refine⟨ak4,?_⟩;have m:=iL.refl w
 go_enter func195,ntmps195
 refine aV λd a=>am (aoU m acZ O ?_);intro f u m;refine E (a _ _ ?_);refine aV λe c=>am (C (La O O O) ?_);simp only[I];refine akL m 0 O O O Nj (X O) O ?_;intro u m;simp only[zy,zx,bR,zF,zG,aa] at m;refine E (c _ _ ?_);refine i_ ?_;try simp only[cn,Exit.then,Y4]
 refine aU O ⟨_,O,((m.b 0 O).full agT Nj)⟩ ?_;try simp only[zD,zE]
 exact⟨_,O,m.ext,O⟩
def uD{p:P3}:vS G1 130 [pt p,pt q] (.bool (decide (p.Lt q))):=by
 intro w;refine⟨bK func130 (by kernel_rfl),?_⟩;have m:=iL.refl w
 go_enter func130,ntmps130
 refine aV λS c=>am (qJ m O ?_);intro g1 u m;simp only[I];refine qJ m O ?_;intro g2 u m;refine C aK (E (c _ _ ?_));refine aV λT d=>aV λU e=>am ?_;simp only[I];refine Rj m O O apW ?_;intro u m;refine C aI (E (e _ _ ?_));refine jd (wp_loop_rounds 4 (Eb (aV λV f=>am (C (sU (m:=0) (n:=3) O O (by decide)) (E (f _ _ ?_))))));refine aV λW g=>wU O (ja (g _ _ ?_));refine aV λX i=>jd (aV λY j=>am (C (Ia O O) ?_));simp only[I];refine C aK (E (j _ _ ?_));refine aV λZ k=>?_;simp only[I];refine Gmq m aD (by kernel_rfl) (L aI ?_);simp only[I];refine Xg O (λu m=>((m.b 1 O).full aF aA)) ?_;simp only[I];refine Ks O O aro (L aI ?_);simp only[I];refine Xg O (λu m=>((m.b 0 O).full aF aA)) ?_;simp only[I];refine Ks O O aro (L aK (L aK (bM ?_)));intro u m;refine k _ _ ?_;refine aV λK9 l=>am (C aI ?_);simp only[I];refine C aI (C (sT O O) (E (l _ _ ?_)));simp only[I];refine bB O ?_ ?_<;>intro a
 .refine aV λaa o=>am (C aI (C aI (C (Cx O O) (C aK ?_))));simp only[I];refine E (o _ _ ?_);refine i_ ?_;try simp only[cn,Exit.then,Y4]
  refine aU O O ?_;try simp only[zD,zE]
  exact⟨_,O,m.ext,by simp only[P3.lt_x a]⟩
 have ex:p.x=q.x:=by omega
 refine ja (i _ _ ?_);refine am (C (fZ (m:=0) (n:=1) (r:=1) O O (by decide)) (C aI (E (mM (aV λab s=>am (C (sU (m:=1) (n:=3) O O (by decide)) (E (s _ _ ?_))))))));refine aV λad t=>wU O (ja (t _ _ ?_));refine aV λae v=>jd (aV λaf A=>am (C (Ib O O) ?_));simp only[I];refine C aK (E (A _ _ ?_));refine aV λag B=>?_;simp only[I];refine Gmq m aD (by kernel_rfl) (L aI ?_);simp only[I];refine Xg O (λu m=>((m.b 1 O).full aF aA)) ?_;simp only[I];refine Ks O O arp (L aI ?_);simp only[I];refine Xg O (λu m=>((m.b 0 O).full aF aA)) ?_;simp only[I];refine Ks O O arp (L aK (L aK (bM ?_)));intro u m;refine B _ _ ?_;refine aV λah D=>am (C aI ?_);simp only[I];refine C aI (C (sT O O) (E (D _ _ ?_)));simp only[I];refine bB O ?_ ?_<;>intro a
 .refine aV λai F=>am (C aI (C aI (C (Cx O O) (C aK ?_))));simp only[I];refine E (F _ _ ?_);refine i_ ?_;try simp only[cn,Exit.then,Y4]
  refine aU O O ?_;try simp only[zD,zE]
  exact⟨_,O,m.ext,by simp only[P3.lt_y ex a]⟩
 have ey:p.y=q.y:=by omega
 refine ja (v _ _ ?_);refine am (C (fZ (m:=1) (n:=1) (r:=2) O O (by decide)) (C aI (E (mM (aV λaj G=>am (C (sU (m:=2) (n:=3) O O (by decide)) (E (G _ _ ?_))))))));refine aV λak H=>wU O (ja (H _ _ ?_));refine aV λal J=>jd (aV λan K=>am (C (Ic O O) ?_));simp only[I];refine C aK (E (K _ _ ?_));refine aV λao M=>?_;simp only[I];refine Gmq m aD (by kernel_rfl) (L aI ?_);simp only[I];refine Xg O (λu m=>((m.b 1 O).full aF aA)) ?_;simp only[I];refine Ks O O arq (L aI ?_);simp only[I];refine Xg O (λu m=>((m.b 0 O).full aF aA)) ?_;simp only[I];refine Ks O O arq (L aK (L aK (bM ?_)));intro u m;refine M _ _ ?_;refine aV λap N=>am (C aI ?_);simp only[I];refine C aI (C (sT O O) (E (N _ _ ?_)));simp only[I];refine bB O ?_ ?_<;>intro a
 .refine aV λaq P=>am (C aI (C aI (C (Cx O O) (C aK ?_))));simp only[I];refine E (P _ _ ?_);refine i_ ?_;try simp only[cn,Exit.then,Y4]
  refine aU O O ?_;try simp only[zD,zE]
  exact⟨_,O,m.ext,by simp only[P3.lt_z ex ey]⟩
 have ez:p.z=q.z:=by omega
 refine ja (J _ _ ?_);refine am (C (fZ (m:=2) (n:=1) (r:=3) O O (by decide)) (C aI (E (mM (aV λar Q=>am (C (Il (m:=3) (n:=3) O O (by decide)) (E (Q _ _ ?_))))))));refine aV λau aw=>Qs O (wp_exit (d _ _ ?_));refine aV λav R=>am (C aK ?_);simp only[I];refine E (R _ _ ?_);refine i_ ?_;try simp only[cn,Exit.then,Y4]
 refine aU O O ?_;try simp only[zD,zE]
 exact⟨_,O,m.ext,by rw[Y6 (λh=>by unfold P3.Lt at h;omega)]⟩
def Hf{p:P3}:vS G1 116 [pt p,pt q] (G (sQ p q)):=by
 intro w;refine⟨bK func116 (by kernel_rfl),?_⟩;have m:=iL.refl w
 go_enter func116,ntmps116
 refine aV λk d=>am (qJ m O ?_);intro v u m;simp only[I];refine qJ m O ?_;intro x u m;refine C aK (E (d _ _ ?_));refine aV λl e=>jd (aV λn f=>am ?_);simp only[I];refine aS O ((m.b 1 O).full aF aA) ?_;simp only[I];refine aS O ((m.b 0 O).full aF aA) ?_;simp only[I];refine Rj m O O uD ?_;intro u m;refine C aK (E (f _ _ ?_));simp only[I];refine bB O ?_ ?_<;>intro a
 .refine aV λo g=>am (C aK (E (g _ _ ?_)));refine i_ ?_;simp only[I];try simp only[cn,Exit.then,Y4]
  refine aU O O ?_;try simp only[zD,zE]
  exact⟨_,O,m.ext,by simp[sQ,a]⟩
 refine aV λr h=>am (aS O ((m.b 0 O).full aF aA) ?_);simp only[I];refine aS O ((m.b 1 O).full aF aA) ?_;simp only[I];refine Rj m O O uD ?_;intro u m;refine C aK (E (h _ _ ?_));simp only[I];refine bB O ?_ ?_<;>intro c
 .refine aV λs i=>am (C aK (E (i _ _ ?_)));refine i_ ?_;simp only[I];try simp only[cn,Exit.then,Y4]
  refine aU O O ?_;try simp only[zD,zE]
  exact⟨_,O,m.ext,by simp[sQ,a,c]⟩
 refine ja (e _ _ ?_);refine aV λt j=>am (C aK (E (j _ _ ?_)));refine i_ ?_;simp only[I];try simp only[cn,Exit.then,Y4]
 refine aU O O ?_;try simp only[zD,zE]
 exact⟨_,O,m.ext,by simp[sQ,a,c]⟩
end
end Go.Proofs.YtfekpcimgncioaaGreatDoor
namespace Go.Lith
open Go.RowKit
def amM(P:cg)(f:FuncId)(args:List ak)(w:an)(v:ak):Prop:=Entr P f/\Calls P f args.toArray w λe w'=>∃u,e=.returned u/\GX w w'/\u=v
section
variable{P:cg}{ds:List eh}{l:List ak}{x y:cw}{T ty:bh}
variable{ops:Array Oper}{Q:Exit->Act->an->Prop}{rest:List Oper}{d:Nat}{pos:String}{after:Array Edge}{w w0:an}{is:List It}{v:ak}
def amN{E:bh}{z:ak}(m:iL w0 w is)(j:P.underlying T=H (.slice E))(a:(P.info? E).map (λi=>(i.size,i.zero))=H (1,H z))(q:z.cells = #[z]){v v2:ak}(n:ev l x=v)(k:v.cells = #[v])(p:ev l y=v2)(r:v2.cells = #[v2])
 (h:∀g u,iL w0 u (bI g [v,v2] E::is)->bf P ops Q rest (Fr (l.set d (.slice (H ⟨g,0,G0⟩) 2 2)) ds) u) :
 bf P ops Q (ci (H d) (.buildSlice T 2 #[(0,x),(1,y)]) ty pos after G0::rest) (Fr l ds) w:=by
 cases b:P.info? E with
 |none=>rw[b] at a;cases a
 |some i=>
  rw[b] at a;simp only[fw,gu,fy] at a;obtain⟨c,e⟩:=a;exact lK (w':=w.alloc (.cells #[v,v2] E)) (v:=.slice (H ⟨w.heap.size,0,G0⟩) 2 2) (λo f _=>by simp[N,f,Instr.buildSlice,cq j,sizeOf,typeInfo,zeroValue,b,c,e,q,cK,n,k,p,r,Instr.fill,newRow,newObj,Sem.run,Kk]) (h _ _ (m.go (m.mem.newB ((eQ.refl w).alloc _) (ba _) (jH w [v,v2] E)) (ba _)))
def abV(z v v2 v3:ak):(((Array.map (λx=>[z][x%1]?.getD default) (Array.range 3)).setIfInBounds 0 v).setIfInBounds 1 v2).setIfInBounds 2 v3 = #[v,v2,v3]:=by
 apply Array.ext (by simp);intro i h1 h2;have a:i<3:=by simpa using h2
 rcases Nat.lt_trichotomy i 1 with h|h|h
 . obtain rfl:i=0:=by omega
   simp
 . subst h
   simp
 obtain rfl:i=2:=by omega
 simp
def adL{E:bh}{z:ak}{c:cw}(m:iL w0 w is)(k:P.underlying T=H (.slice E))(a:(P.info? E).map (λi=>(i.size,i.zero))=H (1,H z))(r:z.cells = #[z]){v v2 v3:ak}(p:ev l x=v)(n:v.cells = #[v])(q:ev l y=v2)(s:v2.cells = #[v2])(A:ev l c=v3)(t:v3.cells = #[v3])
 (h:∀g u,iL w0 u (bI g [v,v2,v3] E::is)->bf P ops Q rest (Fr (l.set d (.slice (H ⟨g,0,G0⟩) 3 3)) ds) u) :
 bf P ops Q (ci (H d) (.buildSlice T 3 #[(0,x),(1,y),(2,c)]) ty pos after G0::rest) (Fr l ds) w:=by
 cases b:P.info? E with
 |none=>rw[b] at a;cases a
 |some i=>
  rw[b] at a;simp only[fw,gu,fy] at a;obtain⟨e,f⟩:=a;exact lK (w':=w.alloc (.cells #[v,v2,v3] E)) (v:=.slice (H ⟨w.heap.size,0,G0⟩) 3 3) (λo j _=>by simp[N,j,Instr.buildSlice,cq k,sizeOf,typeInfo,zeroValue,b,e,f,r,cK,p,n,q,s,A,t,Instr.fill,newRow,newObj,Sem.run,abV]) (h _ _ (m.go (m.mem.newB ((eQ.refl w).alloc _) (ba _) (jH w [v,v2,v3] E)) (ba _)))
def abW{f:FuncId}{a:cw}{xs:Array cw}{args:List ak}{first cap:Array ak}{a0:Array bh}(m:iL w0 w is)(g:ev l a=.func (.func f) first cap)(i:first.toList++xs.toList.map (ev l)++cap.toList=args)(hc:amM P f args w v)
 (h:∀u,iL w0 u is->bf P ops Q rest (Fr (l.set d v) ds) u):bf P ops Q (ci (H d) (.call { callee:=.value a,args:=xs,argTypes:=a0 }) ty pos after G0::rest) (Fr l ds) w:=by
 refine wpList_plain O λK c=>?_;unfold Oper.wp;rw[iP,rJ hc.1 g i _ rfl];refine hc.2.mono ?_;rintro e w' ⟨u,rfl,b,rfl⟩;show K ((Fr l ds).put (H d) u) w'
 rw[gV];exact c _ _ (h w' (m.ext' b))
end
end Go.Lith
namespace Go.Proofs
open Go.Shelf
def Tryz.sort112_ren:Go.Shelf.Ren:=⟨fun|6=>112|15=>181|14=>180|28=>254|29=>255|20=>246|21=>247|22=>248|23=>249|24=>250|25=>251|26=>252|27=>253|46=>309|47=>310|48=>311|49=>312|50=>313|57=>339|n=>n,fun|22=>27|24=>39|25=>162|3=>3|39=>141|0=>0|53=>297|55=>231|4=>4|46=>291|45=>290|50=>202|5=>5|9=>9|66=>343|70=>347|76=>369|77=>367|n=>n,fun|n=>n⟩
def Tryz.sort112:Go.Proofs.SlLaysF0.n6 Tryz.prog Tryz.sort112_ren:={
 mixed:=by kernel_rfl
 f6:=⟨Tryz.f112.name,by decide,Tryz.func112.trans (Y1 H (by kernel_rfl))⟩
 f14:=⟨Tryz.f180.name,by decide,Tryz.func180.trans (Y1 H (by kernel_rfl))⟩
 f15:=Tryz.func181.trans (Y1 H (by kernel_rfl))
 f20:=⟨Tryz.f246.name,by decide,Tryz.func246.trans (Y1 H (by kernel_rfl))⟩
 f21:=⟨Tryz.f247.name,by decide,Tryz.func247.trans (Y1 H (by kernel_rfl))⟩
 f22:=⟨Tryz.f248.name,by decide,Tryz.func248.trans (Y1 H (by kernel_rfl))⟩
 f23:=⟨Tryz.f249.name,by decide,Tryz.func249.trans (Y1 H (by kernel_rfl))⟩
 f24:=⟨Tryz.f250.name,by decide,Tryz.func250.trans (Y1 H (by kernel_rfl))⟩
 f25:=⟨Tryz.f251.name,by decide,Tryz.func251.trans (Y1 H (by kernel_rfl))⟩
 f26:=⟨Tryz.f252.name,by decide,Tryz.func252.trans (Y1 H (by kernel_rfl))⟩
 f27:=⟨Tryz.f253.name,by decide,Tryz.func253.trans (Y1 H (by kernel_rfl))⟩
 f28:=Tryz.func254.trans (Y1 H (by kernel_rfl))
 f29:=Tryz.func255.trans (Y1 H (by kernel_rfl))
 f46:=⟨Tryz.f309.name,by decide,Tryz.func309.trans (Y1 H (by kernel_rfl))⟩
 f47:=Tryz.func310.trans (Y1 H (by kernel_rfl))
 f48:=Tryz.func311.trans (Y1 H (by kernel_rfl))
 f49:=⟨Tryz.f312.name,by decide,Tryz.func312.trans (Y1 H (by kernel_rfl))⟩
 f50:=⟨Tryz.f313.name,by decide,Tryz.func313.trans (Y1 H (by kernel_rfl))⟩
 f57:=⟨Tryz.f339.name,by decide,Tryz.func339.trans (Y1 H (by kernel_rfl))⟩
 t0:=Tryz.underlying0
 a0:=Tryz.isAgg0
 z0:=Tryz.sizeOf0
 v0:=Tryz.zeroValue0
 t3:=Tryz.underlying3
 a3:=Tryz.isAgg3
 z3:=Tryz.sizeOf3
 v3:=Tryz.zeroValue3
 t4:=Tryz.underlying4
 a4:=Tryz.isAgg4
 z4:=Tryz.sizeOf4
 v4:=Tryz.zeroValue4
 t5:=Tryz.underlying5
 a5:=Tryz.isAgg5
 z5:=Tryz.sizeOf5
 v5:=Tryz.zeroValue5
 t9:=Tryz.underlying9
 a9:=Tryz.isAgg9
 z9:=Tryz.sizeOf9
 v9:=Tryz.zeroValue9
 t22:=Tryz.underlying27
 a22:=Tryz.isAgg27
 z22:=Tryz.sizeOf27
 v22:=Tryz.zeroValue27
 t25:=Tryz.underlying162
 a25:=Tryz.isAgg162
 z25:=Tryz.sizeOf162
 v25:=Tryz.zeroValue162
 t39:=Tryz.underlying141
 a39:=Tryz.isAgg141
 z39:=Tryz.sizeOf141
 v39:=Tryz.zeroValue141
 t45:=Tryz.underlying290
 a45:=Tryz.isAgg290
 z45:=Tryz.sizeOf290
 v45:=Tryz.zeroValue290
 t46:=Tryz.underlying291
 a46:=Tryz.isAgg291
 z46:=Tryz.sizeOf291
 v46:=Tryz.zeroValue291
 t50:=Tryz.underlying202
 a50:=Tryz.isAgg202
 z50:=Tryz.sizeOf202
 v50:=Tryz.zeroValue202
 t53:=Tryz.underlying297
 a53:=Tryz.isAgg297
 z53:=Tryz.sizeOf297
 v53:=Tryz.zeroValue297
 t55:=Tryz.underlying231
 a55:=Tryz.isAgg231
 z55:=Tryz.sizeOf231
 v55:=Tryz.zeroValue231
 t66:=Tryz.underlying343
 a66:=Tryz.isAgg343
 z66:=Tryz.sizeOf343
 v66:=Tryz.zeroValue343
 t70:=Tryz.underlying347
 a70:=Tryz.isAgg347
 z70:=Tryz.sizeOf347
 v70:=Tryz.zeroValue347
 t76:=Tryz.underlying369
 a76:=Tryz.isAgg369
 z76:=Tryz.sizeOf369
 v76:=Tryz.zeroValue369
 t77:=Tryz.underlying367
 a77:=Tryz.isAgg367
 z77:=Tryz.sizeOf367
 v77:=Tryz.zeroValue367 }
def Tryz.sort123_ren:Go.Shelf.Ren:=⟨fun|6=>123|15=>181|14=>190|28=>254|29=>255|20=>259|21=>260|22=>261|23=>262|24=>263|25=>264|26=>265|27=>266|46=>319|47=>310|48=>311|49=>320|50=>321|57=>343|n=>n,fun|22=>105|24=>112|25=>115|3=>3|39=>141|0=>0|53=>297|55=>231|4=>4|46=>291|45=>290|50=>202|5=>5|9=>9|66=>343|70=>347|76=>369|77=>367|n=>n,fun|n=>n⟩
def Tryz.sort123:Go.Proofs.SlLaysF0.n6 Tryz.prog Tryz.sort123_ren:={
 mixed:=by kernel_rfl
 f6:=⟨Tryz.f123.name,by decide,Tryz.func123.trans (Y1 H (by kernel_rfl))⟩
 f14:=⟨Tryz.f190.name,by decide,Tryz.func190.trans (Y1 H (by kernel_rfl))⟩
 f15:=Tryz.func181.trans (Y1 H (by kernel_rfl))
 f20:=⟨Tryz.f259.name,by decide,Tryz.func259.trans (Y1 H (by kernel_rfl))⟩
 f21:=⟨Tryz.f260.name,by decide,Tryz.func260.trans (Y1 H (by kernel_rfl))⟩
 f22:=⟨Tryz.f261.name,by decide,Tryz.func261.trans (Y1 H (by kernel_rfl))⟩
 f23:=⟨Tryz.f262.name,by decide,Tryz.func262.trans (Y1 H (by kernel_rfl))⟩
 f24:=⟨Tryz.f263.name,by decide,Tryz.func263.trans (Y1 H (by kernel_rfl))⟩
 f25:=⟨Tryz.f264.name,by decide,Tryz.func264.trans (Y1 H (by kernel_rfl))⟩
 f26:=⟨Tryz.f265.name,by decide,Tryz.func265.trans (Y1 H (by kernel_rfl))⟩
 f27:=⟨Tryz.f266.name,by decide,Tryz.func266.trans (Y1 H (by kernel_rfl))⟩
 f28:=Tryz.func254.trans (Y1 H (by kernel_rfl))
 f29:=Tryz.func255.trans (Y1 H (by kernel_rfl))
 f46:=⟨Tryz.f319.name,by decide,Tryz.func319.trans (Y1 H (by kernel_rfl))⟩
 f47:=Tryz.func310.trans (Y1 H (by kernel_rfl))
 f48:=Tryz.func311.trans (Y1 H (by kernel_rfl))
 f49:=⟨Tryz.f320.name,by decide,Tryz.func320.trans (Y1 H (by kernel_rfl))⟩
 f50:=⟨Tryz.f321.name,by decide,Tryz.func321.trans (Y1 H (by kernel_rfl))⟩
 f57:=⟨Tryz.f343.name,by decide,Tryz.func343.trans (Y1 H (by kernel_rfl))⟩
 t0:=Tryz.underlying0
 a0:=Tryz.isAgg0
 z0:=Tryz.sizeOf0
 v0:=Tryz.zeroValue0
 t3:=Tryz.underlying3
 a3:=Tryz.isAgg3
 z3:=Tryz.sizeOf3
 v3:=Tryz.zeroValue3
 t4:=Tryz.underlying4
 a4:=Tryz.isAgg4
 z4:=Tryz.sizeOf4
 v4:=Tryz.zeroValue4
 t5:=Tryz.underlying5
 a5:=Tryz.isAgg5
 z5:=Tryz.sizeOf5
 v5:=Tryz.zeroValue5
 t9:=Tryz.underlying9
 a9:=Tryz.isAgg9
 z9:=Tryz.sizeOf9
 v9:=Tryz.zeroValue9
 t22:=Tryz.underlying105
 a22:=Tryz.isAgg105
 z22:=Tryz.sizeOf105
 v22:=Tryz.zeroValue105
 t25:=Tryz.underlying115
 a25:=Tryz.isAgg115
 z25:=Tryz.sizeOf115
 v25:=Tryz.zeroValue115
 t39:=Tryz.underlying141
 a39:=Tryz.isAgg141
 z39:=Tryz.sizeOf141
 v39:=Tryz.zeroValue141
 t45:=Tryz.underlying290
 a45:=Tryz.isAgg290
 z45:=Tryz.sizeOf290
 v45:=Tryz.zeroValue290
 t46:=Tryz.underlying291
 a46:=Tryz.isAgg291
 z46:=Tryz.sizeOf291
 v46:=Tryz.zeroValue291
 t50:=Tryz.underlying202
 a50:=Tryz.isAgg202
 z50:=Tryz.sizeOf202
 v50:=Tryz.zeroValue202
 t53:=Tryz.underlying297
 a53:=Tryz.isAgg297
 z53:=Tryz.sizeOf297
 v53:=Tryz.zeroValue297
 t55:=Tryz.underlying231
 a55:=Tryz.isAgg231
 z55:=Tryz.sizeOf231
 v55:=Tryz.zeroValue231
 t66:=Tryz.underlying343
 a66:=Tryz.isAgg343
 z66:=Tryz.sizeOf343
 v66:=Tryz.zeroValue343
 t70:=Tryz.underlying347
 a70:=Tryz.isAgg347
 z70:=Tryz.sizeOf347
 v70:=Tryz.zeroValue347
 t76:=Tryz.underlying369
 a76:=Tryz.isAgg369
 z76:=Tryz.sizeOf369
 v76:=Tryz.zeroValue369
 t77:=Tryz.underlying367
 a77:=Tryz.isAgg367
 z77:=Tryz.sizeOf367
 v77:=Tryz.zeroValue367 }
def Tryz.sort128_ren:Go.Shelf.Ren:=⟨fun|6=>128|15=>181|14=>194|28=>254|29=>255|20=>268|21=>269|22=>270|23=>271|24=>272|25=>273|26=>274|27=>275|46=>322|47=>310|48=>311|49=>323|50=>324|57=>344|n=>n,fun|22=>65|24=>30|25=>123|3=>3|39=>141|0=>0|53=>297|55=>231|4=>4|46=>291|45=>290|50=>202|5=>5|9=>9|66=>343|70=>347|76=>369|77=>367|n=>n,fun|n=>n⟩
def Tryz.sort128:Go.Proofs.SlLaysF0.n6 Tryz.prog Tryz.sort128_ren:={
 mixed:=by kernel_rfl
 f6:=⟨Tryz.f128.name,by decide,Tryz.func128.trans (Y1 H (by kernel_rfl))⟩
 f14:=⟨Tryz.f194.name,by decide,Tryz.func194.trans (Y1 H (by kernel_rfl))⟩
 f15:=Tryz.func181.trans (Y1 H (by kernel_rfl))
 f20:=⟨Tryz.f268.name,by decide,Tryz.func268.trans (Y1 H (by kernel_rfl))⟩
 f21:=⟨Tryz.f269.name,by decide,Tryz.func269.trans (Y1 H (by kernel_rfl))⟩
 f22:=⟨Tryz.f270.name,by decide,Tryz.func270.trans (Y1 H (by kernel_rfl))⟩
 f23:=⟨Tryz.f271.name,by decide,Tryz.func271.trans (Y1 H (by kernel_rfl))⟩
 f24:=⟨Tryz.f272.name,by decide,Tryz.func272.trans (Y1 H (by kernel_rfl))⟩
 f25:=⟨Tryz.f273.name,by decide,Tryz.func273.trans (Y1 H (by kernel_rfl))⟩
 f26:=⟨Tryz.f274.name,by decide,Tryz.func274.trans (Y1 H (by kernel_rfl))⟩
 f27:=⟨Tryz.f275.name,by decide,Tryz.func275.trans (Y1 H (by kernel_rfl))⟩
 f28:=Tryz.func254.trans (Y1 H (by kernel_rfl))
 f29:=Tryz.func255.trans (Y1 H (by kernel_rfl))
 f46:=⟨Tryz.f322.name,by decide,Tryz.func322.trans (Y1 H (by kernel_rfl))⟩
 f47:=Tryz.func310.trans (Y1 H (by kernel_rfl))
 f48:=Tryz.func311.trans (Y1 H (by kernel_rfl))
 f49:=⟨Tryz.f323.name,by decide,Tryz.func323.trans (Y1 H (by kernel_rfl))⟩
 f50:=⟨Tryz.f324.name,by decide,Tryz.func324.trans (Y1 H (by kernel_rfl))⟩
 f57:=⟨Tryz.f344.name,by decide,Tryz.func344.trans (Y1 H (by kernel_rfl))⟩
 t0:=Tryz.underlying0
 a0:=Tryz.isAgg0
 z0:=Tryz.sizeOf0
 v0:=Tryz.zeroValue0
 t3:=Tryz.underlying3
 a3:=Tryz.isAgg3
 z3:=Tryz.sizeOf3
 v3:=Tryz.zeroValue3
 t4:=Tryz.underlying4
 a4:=Tryz.isAgg4
 z4:=Tryz.sizeOf4
 v4:=Tryz.zeroValue4
 t5:=Tryz.underlying5
 a5:=Tryz.isAgg5
 z5:=Tryz.sizeOf5
 v5:=Tryz.zeroValue5
 t9:=Tryz.underlying9
 a9:=Tryz.isAgg9
 z9:=Tryz.sizeOf9
 v9:=Tryz.zeroValue9
 t22:=Tryz.underlying65
 a22:=Tryz.isAgg65
 z22:=Tryz.sizeOf65
 v22:=Tryz.zeroValue65
 t25:=Tryz.underlying123
 a25:=Tryz.isAgg123
 z25:=Tryz.sizeOf123
 v25:=Tryz.zeroValue123
 t39:=Tryz.underlying141
 a39:=Tryz.isAgg141
 z39:=Tryz.sizeOf141
 v39:=Tryz.zeroValue141
 t45:=Tryz.underlying290
 a45:=Tryz.isAgg290
 z45:=Tryz.sizeOf290
 v45:=Tryz.zeroValue290
 t46:=Tryz.underlying291
 a46:=Tryz.isAgg291
 z46:=Tryz.sizeOf291
 v46:=Tryz.zeroValue291
 t50:=Tryz.underlying202
 a50:=Tryz.isAgg202
 z50:=Tryz.sizeOf202
 v50:=Tryz.zeroValue202
 t53:=Tryz.underlying297
 a53:=Tryz.isAgg297
 z53:=Tryz.sizeOf297
 v53:=Tryz.zeroValue297
 t55:=Tryz.underlying231
 a55:=Tryz.isAgg231
 z55:=Tryz.sizeOf231
 v55:=Tryz.zeroValue231
 t66:=Tryz.underlying343
 a66:=Tryz.isAgg343
 z66:=Tryz.sizeOf343
 v66:=Tryz.zeroValue343
 t70:=Tryz.underlying347
 a70:=Tryz.isAgg347
 z70:=Tryz.sizeOf347
 v70:=Tryz.zeroValue347
 t76:=Tryz.underlying369
 a76:=Tryz.isAgg369
 z76:=Tryz.sizeOf369
 v76:=Tryz.zeroValue369
 t77:=Tryz.underlying367
 a77:=Tryz.isAgg367
 z77:=Tryz.sizeOf367
 v77:=Tryz.zeroValue367 }
def Tryz.sort237_ren:Go.Shelf.Ren:=⟨fun|6=>237|15=>181|14=>297|28=>254|29=>255|20=>328|21=>329|22=>330|23=>331|24=>332|25=>333|26=>334|27=>335|46=>345|47=>310|48=>311|49=>346|50=>347|57=>350|n=>n,fun|22=>212|24=>215|25=>216|3=>3|39=>141|0=>0|53=>297|55=>231|4=>4|46=>291|45=>290|50=>202|5=>5|9=>9|66=>343|70=>347|76=>369|77=>367|n=>n,fun|n=>n⟩
def Tryz.sort237:Go.Proofs.SlLaysF0.n6 Tryz.prog Tryz.sort237_ren:={
 mixed:=by kernel_rfl
 f6:=⟨Tryz.f237.name,by decide,Tryz.func237.trans (Y1 H (by kernel_rfl))⟩
 f14:=⟨Tryz.f297.name,by decide,Tryz.func297.trans (Y1 H (by kernel_rfl))⟩
 f15:=Tryz.func181.trans (Y1 H (by kernel_rfl))
 f20:=⟨Tryz.f328.name,by decide,Tryz.func328.trans (Y1 H (by kernel_rfl))⟩
 f21:=⟨Tryz.f329.name,by decide,Tryz.func329.trans (Y1 H (by kernel_rfl))⟩
 f22:=⟨Tryz.f330.name,by decide,Tryz.func330.trans (Y1 H (by kernel_rfl))⟩
 f23:=⟨Tryz.f331.name,by decide,Tryz.func331.trans (Y1 H (by kernel_rfl))⟩
 f24:=⟨Tryz.f332.name,by decide,Tryz.func332.trans (Y1 H (by kernel_rfl))⟩
 f25:=⟨Tryz.f333.name,by decide,Tryz.func333.trans (Y1 H (by kernel_rfl))⟩
 f26:=⟨Tryz.f334.name,by decide,Tryz.func334.trans (Y1 H (by kernel_rfl))⟩
 f27:=⟨Tryz.f335.name,by decide,Tryz.func335.trans (Y1 H (by kernel_rfl))⟩
 f28:=Tryz.func254.trans (Y1 H (by kernel_rfl))
 f29:=Tryz.func255.trans (Y1 H (by kernel_rfl))
 f46:=⟨Tryz.f345.name,by decide,Tryz.func345.trans (Y1 H (by kernel_rfl))⟩
 f47:=Tryz.func310.trans (Y1 H (by kernel_rfl))
 f48:=Tryz.func311.trans (Y1 H (by kernel_rfl))
 f49:=⟨Tryz.f346.name,by decide,Tryz.func346.trans (Y1 H (by kernel_rfl))⟩
 f50:=⟨Tryz.f347.name,by decide,Tryz.func347.trans (Y1 H (by kernel_rfl))⟩
 f57:=⟨Tryz.f350.name,by decide,Tryz.func350.trans (Y1 H (by kernel_rfl))⟩
 t0:=Tryz.underlying0
 a0:=Tryz.isAgg0
 z0:=Tryz.sizeOf0
 v0:=Tryz.zeroValue0
 t3:=Tryz.underlying3
 a3:=Tryz.isAgg3
 z3:=Tryz.sizeOf3
 v3:=Tryz.zeroValue3
 t4:=Tryz.underlying4
 a4:=Tryz.isAgg4
 z4:=Tryz.sizeOf4
 v4:=Tryz.zeroValue4
 t5:=Tryz.underlying5
 a5:=Tryz.isAgg5
 z5:=Tryz.sizeOf5
 v5:=Tryz.zeroValue5
 t9:=Tryz.underlying9
 a9:=Tryz.isAgg9
 z9:=Tryz.sizeOf9
 v9:=Tryz.zeroValue9
 t22:=Tryz.underlying212
 a22:=Tryz.isAgg212
 z22:=Tryz.sizeOf212
 v22:=Tryz.zeroValue212
 t25:=Tryz.underlying216
 a25:=Tryz.isAgg216
 z25:=Tryz.sizeOf216
 v25:=Tryz.zeroValue216
 t39:=Tryz.underlying141
 a39:=Tryz.isAgg141
 z39:=Tryz.sizeOf141
 v39:=Tryz.zeroValue141
 t45:=Tryz.underlying290
 a45:=Tryz.isAgg290
 z45:=Tryz.sizeOf290
 v45:=Tryz.zeroValue290
 t46:=Tryz.underlying291
 a46:=Tryz.isAgg291
 z46:=Tryz.sizeOf291
 v46:=Tryz.zeroValue291
 t50:=Tryz.underlying202
 a50:=Tryz.isAgg202
 z50:=Tryz.sizeOf202
 v50:=Tryz.zeroValue202
 t53:=Tryz.underlying297
 a53:=Tryz.isAgg297
 z53:=Tryz.sizeOf297
 v53:=Tryz.zeroValue297
 t55:=Tryz.underlying231
 a55:=Tryz.isAgg231
 z55:=Tryz.sizeOf231
 v55:=Tryz.zeroValue231
 t66:=Tryz.underlying343
 a66:=Tryz.isAgg343
 z66:=Tryz.sizeOf343
 v66:=Tryz.zeroValue343
 t70:=Tryz.underlying347
 a70:=Tryz.isAgg347
 z70:=Tryz.sizeOf347
 v70:=Tryz.zeroValue347
 t76:=Tryz.underlying369
 a76:=Tryz.isAgg369
 z76:=Tryz.sizeOf369
 v76:=Tryz.zeroValue369
 t77:=Tryz.underlying367
 a77:=Tryz.isAgg367
 z77:=Tryz.sizeOf367
 v77:=Tryz.zeroValue367 }
end Go.Proofs
namespace Go.Proofs.YtfekpcimgncioaaGreatDoor
open Go.Proofs.Tryz
open Go.RowKit Go.Lith
set_option maxRecDepth 100000
attribute [local irreducible] bf M fY cJ cU Code.wp
attribute [local congr] dK dL cZ dJ
variable{c:Nat}
def eL:rX G1 30 pt:=by
 refine rX.agg (cs:=λp=>#[G p.x,G p.y,G p.z]) (λ_=>rfl) lQ (λe p=>?_) (λp q=>?_) (λp=>?_)
 .refine tF.struct (d:=9999) lQ λf a=>?_;simp only[av,bw,Y3] at a;rcases a with rfl|rfl|rfl<;>exact⟨_,cL bJ rfl,tF.int (d:=9998) fV⟩
 .exact (qL 9998).iff ⟨λh=>P3.eq h.1 h.2.1 h.2.2,λh=>by subst h;exact⟨O,O,O⟩⟩
 simp[pt,Instr.sameBits]
def afR{w0 w:an}{is:List It}{g:Nat}{es:Array cu}{D:List (P3×Bool)}{p:P3}(m:Mem w0 w is)(k:Nat)(f:is[k]? = H (mI g es c))(d:bC pt bj D es c):Calls G1 114 [.map (H g),pt p].toArray w λe w'=>∃v i,e=.returned v/\Mem w0 w' (is.set k i)/\(v=.bool (!(bS D p).getD X9)/\∃l h,i=mI g l h/\bC pt bj (fL D p Z) l h):=by
 go_enter func114,ntmps114
 apply kX 10 [1,0] m;simp only[↓U,aN];intro n u m;refine eB (dA (ek:=pt) (en:=bj) (k:=p) (v0:=X9) underlying163 iN eL O O (m.p (k+1) f) d) ?_;simp only[I];apply aJ 1 [0] m;simp only[↓U];refine cQ O ?_ ?_<;>intro b
 .apply aG 5 [] m;simp only[↓U];exact aU O O ⟨_,mI g es c,O,by rw[Tu f];exact m.tl,by rw[b];rfl,es,c,rfl,by rw[No (by cases j:bS D p with|none=>rw[j] at b;cases b|some x=>rw[j] at b;exact Y1 H b)];exact d⟩
 apply aG 5 [1,0] m;simp only[↓U,aN];refine eP (ek:=pt) (en:=bj) (a:=p) (v:=Z) m (k+1) f underlying163 eL O O O d ?_;intro o c1 u m d;simp only[zF,zG] at m;apply aJ 6 [] m;simp only[↓U];exact aU O O ⟨_,_,O,m.tl,by rw[b];rfl,_,_,rfl,d⟩
def apX{w0 w:an}{is:List It}{A:Option Addr}{n cap:Nat}{xs:List P3}(m:Mem w0 w is)(k:Nat)(c:is[k]? = H (oI 30 3 A n cap (xs.flatMap gA)))(d:n<4611686018427387904) :
 Calls G1 128 [.slice A n cap,.func (.func 116) #[] #[]].toArray w λe w'=>∃v i,e=.returned v/\Mem w0 w' (is.set k i)/\(v=.tuple #[]/\∃ys:List P3,i=oI 30 3 A n cap (ys.flatMap gA)/\ys.Perm xs/\ys.Pairwise λa b=>ltOf sQ b a=X9):=
 Es (enc:=gA) Tryz.sort128 (λw=>rK aF w) (λw=>eT aA w) (λ_=>rfl) (by decide) Pv sQ adc (λx y=>Hf) m k c d
def ai7{g:Nat}{es:Array cu}{D:List (P3×Bool)}(w:an)(l:gQ w g es c)(k:bC pt bj D es c)(W:D.length<=1000000):dF G1 115 [.map (H g),.func (.func 116) #[] #[]] w (OR 30 3 (λxs=>∃ps:List P3,xs=ps.flatMap gA/\ps.Perm (D.map (·.1))/\ps.Pairwise λa b=>¬b.Lt a) w):=by
 refine⟨bK func115 (by kernel_rfl),?_⟩;have m:=Mem.refl w
 go_enter func115,ntmps115
 apply fD 6 [0] m;simp only[↓U];refine C aK ?_;replace m:=m.nilO 30 3;apply aJ 5 [0] m;simp only[↓U];refine tE m underlying163 O (l.ext m.ext) ?_;intro K u m;apply aJ 2 [0] m;simp only[↓U];refine bU [5] [6,9,10,11,12,13,14,15,16] (λn vs L=>∃(d rs:List (P3×Bool)) (e:Option Addr) (n1 j:Nat) (f:Array Nat),vs=[.slice e n1 j]/\Mem w L [iI K g c f,oI 30 3 e n1 j ((d.map (·.1)).flatMap gA)]/\(lU pt bj D es f d rs)/\(n1=d.length)/\(n=rs.length)) ?_ ?_
 .exact⟨_,[],D,G0,0,0,#[],O,m,lU.start k,O,O⟩
 intro n vs wr z u R M;obtain⟨d,rs,e,n1,j,f,rfl,m,p,N,B⟩:=z;have ab:=p.len;simp only[zu,zF,zG];apply aG 2 [0] m;simp only[↓U];refine Er m 0 O O (l.ext m.ext) k p ?_;intro S X Y f u m q;simp only[zF,zG] at m;refine C (nS O) ?_;apply aJ 2 [0] m;simp only[↓U];refine cQ O ?_ ?_<;>intro t
 .obtain⟨J,G,x,E,s⟩:=Dd t q;apply aG 4 [0] m;simp only[↓U];refine eB (pY O (m.r 0 O) (l.ext m.ext) k s) ?_;simp only[I];apply iV 7 [0,1,0] m;simp only[↓U,cY,aN,aa];intro T u m;refine tC O ?_;intro u V y A F;replace m:=m.newB y A F;simp only[I];refine bW m 3 O O kK vK O (by decide) O O O (m.b 0 O).rowsO (jB O) (by omega) (by omega) ?_;intro e j u m;simp only[zF,zG] at m;apply aJ 3 [0] m;simp only[↓U];exact M x.length _ _ (by rw[B,E.length_eq];exact fu _) (by kernel_rfl) ⟨d++[(J,G)],x,_,_,_,_,O,((m.reO 3 O ((m.o 3 O).as (by simp[gA]))).sel [X9,X9,Z,Z]),s,by simp[N],O⟩
 obtain rfl:=Db t q;apply aG 5 [0] m;simp only[↓U];refine nK m 1 ae1 O O (λm=>apX m 1 O (by omega)) ?_;rintro v i u m ⟨rfl,ys,rfl,Q,P⟩;simp only[zF,zG] at m;apply aJ 7 [] m;simp only[↓U];exact aU O O ⟨_,O,m.ext,_,_,_,_,O,(m.o 1 O),_,O,Q.trans (p.done.map _),P.imp λh=>by simpa[ltOf,nD] using h⟩
def Fp:rX G1 215 ed:=by
 refine rX.agg (cs:=λp=>#[G p.1.x,G p.1.y,G p.1.z,G p.2.x,G p.2.y,G p.2.z]) (λ_=>rfl) wX (λe p=>?_) (λp q=>?_) (λp=>?_)
 .refine tF.struct (d:=9999) wX λf a=>?_;simp only[av,bw,Y3] at a;rcases a with rfl|rfl
  .refine⟨_,dD aF aA O,?_⟩;refine tF.struct (d:=9998) lQ λf a=>?_;simp only[av,bw,Y3] at a;rcases a with rfl|rfl|rfl
   .exact⟨_,cL bJ O,tF.int (d:=9997) fV⟩
   .exact⟨_,cL bJ O,tF.int (d:=9997) fV⟩
   exact⟨_,cL bJ O,tF.int (d:=9997) fV⟩
  refine⟨_,dD aF aA O,?_⟩;refine tF.struct (d:=9998) lQ λf a=>?_;simp only[av,bw,Y3] at a;rcases a with rfl|rfl|rfl
  .exact⟨_,cL bJ O,tF.int (d:=9997) fV⟩
  .exact⟨_,cL bJ O,tF.int (d:=9997) fV⟩
  exact⟨_,cL bJ O,tF.int (d:=9997) fV⟩
 .exact (apb _).iff ⟨λh=>pv (P3.eq h.1 h.2.1 h.2.2.1) (P3.eq h.2.2.2.1 h.2.2.2.2.1 h.2.2.2.2.2),λh=>by subst h;simp only[X7]⟩
 simp[ed,Instr.sameBits]
def av4{x y:Int}{a:Nat}(w:an)(c:fK w a [G x,G y] 3):amM G1 125 [.slice (H ⟨a,0,G0⟩) 2 2] w (G (if x=0 then y else x)):=by
 refine⟨ak2,?_⟩;have m:=iL.refl w
 go_enter func125,ntmps125
 refine aV λF f=>am (C aK (E (f _ _ ?_)));refine aV λJ g=>am (C aK (E (g _ _ ?_)));refine aV λK h=>aV λL i=>am (C aI (C (qG O dS O) ?_));simp only[I];refine C aI (E (i _ _ ?_));refine jd (wp_loop_rounds 3 (Eb (aV λM j=>am (C (sU (m:=0) (n:=2) O O (by decide)) (E (j _ _ ?_))))));refine aV λN k=>wU O (ja (k _ _ ?_));refine aV λP l=>jd (aV λQ o=>am ?_);simp only[I];refine C (aP dS bL O O (by decide) (by omega) O) ?_;simp only[I];refine aS O ((c.ext m.ext.ext).lies1 bJ O) ?_;simp only[I];refine C aK (E (o _ _ ?_));refine aV λR p=>am (C aI (C aI (C (sT O O) ?_)));simp only[I];refine E (p _ _ ?_);refine bB O ?_ ?_<;>intro d
 .refine aV λS q=>am (C aI (C aK (E (q _ _ ?_))));refine i_ ?_;simp only[I];try simp only[cn,Exit.then,Y4]
  refine aU O O ?_;try simp only[zD,zE]
  exact⟨_,O,m.ext,by rw[K0 d]⟩
 have b:x=0:=by omega
 refine ja (l _ _ ?_);refine am (C (fZ (m:=0) (n:=1) (r:=1) O O (by decide)) (C aI (E (mM (aV λT s=>am (C (sU (m:=1) (n:=2) O O (by decide)) (E (s _ _ ?_))))))));refine aV λU t=>wU O (ja (t _ _ ?_));refine aV λV u=>jd (aV λW v=>am ?_);simp only[I];refine C (aP dS bL O O (by decide) (by omega) O) ?_;simp only[I];refine aS O ((c.ext m.ext.ext).lies1 bJ O) ?_;simp only[I];refine C aK (E (v _ _ ?_));refine aV λX z=>am (C aI (C aI (C (sT O O) ?_)));simp only[I];refine E (z _ _ ?_);refine bB O ?_ ?_<;>intro d
 .refine aV λY A=>am (C aI (C aK (E (A _ _ ?_))));refine i_ ?_;simp only[I];try simp only[cn,Exit.then,Y4]
  refine aU O O ?_;try simp only[zD,zE]
  exact⟨_,O,m.ext,by rw[Z9 b]⟩
 have e:y=0:=by omega
 refine ja (u _ _ ?_);refine am (C (fZ (m:=1) (n:=1) (r:=2) O O (by decide)) (C aI (E (mM (aV λZ B=>am (C (Il (m:=2) (n:=2) O O (by decide)) (E (B _ _ ?_))))))));refine aV λaa ad=>Qs O (wp_exit (h _ _ ?_));refine aV λab D=>am (C aI ?_);simp only[I];refine C aK (E (D _ _ ?_));refine i_ ?_;simp only[I];try simp only[cn,Exit.then,Y4]
 refine aU O O ?_;try simp only[zD,zE]
 exact⟨_,O,m.ext,by rw[Z9 b,e]⟩
def ai8(a b:E3):Int:=if sQ a.1 b.1=0 then sQ a.2 b.2 else sQ a.1 b.1
def oT{p q:P3}:sQ p q=0↔p=q:=by
 unfold sQ;rcases P3.lt_tri p q with h|h|h
 .rw[Z9 h];exact⟨λe=>(by cases e),λe=>Y0 (e▸h) (P3.lt_irrefl _)⟩
 .subst h;rw[K0 (P3.lt_irrefl _),K0 (P3.lt_irrefl _)];exact⟨λ_=>rfl,λ_=>rfl⟩
 rw[K0 (λk=>P3.lt_irrefl _ (P3.lt_trans h k)),Z9 h];exact⟨λe=>(by cases e),λe=>Y0 (e▸h) (P3.lt_irrefl _)⟩
def Lu(a b:E3):(ai8 a b<0)↔Mu a b:=by
 unfold ai8 Mu;split
 .rename_i h;have c:=oT.1 h;rw[nD];exact⟨λk=>.inr ⟨c,k⟩,λk=>k.elim (λk=>Y0 (c▸k) (P3.lt_irrefl _)) λk=>k.2⟩
 rename_i h;rw[nD];exact⟨.inl,λk=>k.elim id λk=>Y0 (oT.2 k.1) h⟩
instance:Inhabited E3:=⟨(⟨0,0,0⟩,⟨0,0,0⟩)⟩
def amO:Go.Sort.SWO (Go.Proofs.ltOf ai8) where
 irrefl a:=by simp only[Go.Proofs.ltOf,Y7,Lu];exact Mu.irrefl a
 trans x y z h1 h2:=by
  simp only[Go.Proofs.ltOf,Y2,Lu] at *
  exact h1.trans h2
 ntrans x y z h1 h2:=by
  simp only[Go.Proofs.ltOf,Y7,Lu] at *
  intro h;rcases Mu.tri y x with k|k|k
  .exact Y0 (k.trans h) (by first|exact h2|exact h1)
  .subst k;first|exact h2 h|exact h1 h
  first|exact h1 k|exact h2 k
def apY{p q:E3}:vS G1 168 [ed p,ed q] (G (ai8 p q)):=by
 intro w;refine⟨bK func168 (by kernel_rfl),?_⟩;have m:=iL.refl w
 go_enter func168,ntmps168
 refine aV λe a=>am (qJ m O ?_);intro g u m;simp only[I];refine qJ m O ?_;intro h u m;refine C aK (E (a _ _ ?_));refine aV λf d=>?_;simp only[I];refine Tc m 10 aD (by kernel_rfl) ?_;simp only[zy];refine L (aY (c:=2) wX O aA O O) ?_;simp only[I];refine Xg O (λu m=>((m.b 1 O).lies aF aA O O)) ?_;simp only[I,zy,aj,aa,ah,ag];refine L (aY (c:=2) wX O aA O O) ?_;simp only[I];refine Xg O (λu m=>((m.b 0 O).lies aF aA O O)) ?_;simp only[I,zy,aj,aa,ah,ag];refine Ks O O (Hf (p:=p.1) (q:=q.1)) (L (aY (c:=2) wX O aA O O) ?_);simp only[I];refine Xg O (λu m=>((m.b 1 O).lies aF aA O O)) ?_;simp only[I,zy,aj,aa,ah,ag];refine L (aY (c:=2) wX O aA O O) ?_;simp only[I];refine Xg O (λu m=>((m.b 0 O).lies aF aA O O)) ?_;simp only[I,zy,aj,aa,ah,ag];refine Ks O O (Hf (p:=p.2) (q:=q.2)) (bM ?_);intro u m;simp only[I];refine amN m dS (z:=G 0) (by kernel_rfl) O O O O O ?_;intro i u m;simp only[I];refine abW m O O (av4 _ (m.b 0 O)) ?_;intro u m;refine C aK (E (d _ _ ?_));refine i_ ?_;simp only[I];try simp only[cn,Exit.then,Y4]
 refine aU O O ?_;try simp only[zD,zE]
 exact⟨_,O,m.ext,O⟩
def abX{w0 w:an}{is:List It}{g:Nat}{es:Array cu}{D:List (E3×Bool)}{p:E3}(m:Mem w0 w is)(k:Nat)(f:is[k]? = H (mI g es c))(d:bC ed bj D es c):Calls G1 235 [.map (H g),ed p].toArray w λe w'=>∃v i,e=.returned v/\Mem w0 w' (is.set k i)/\(v=.bool (!(bS D p).getD X9)/\∃l h,i=mI g l h/\bC ed bj (fL D p Z) l h):=by
 go_enter func235,ntmps235
 apply kX 10 [1,0] m;simp only[↓U,xH];intro n u m;refine eB (dA (ek:=ed) (en:=bj) (k:=p) (v0:=X9) underlying208 iN Fp O O (m.p (k+1) f) d) ?_;simp only[I];apply aJ 1 [0] m;simp only[↓U];refine cQ O ?_ ?_<;>intro b
 .apply aG 5 [] m;simp only[↓U];exact aU O O ⟨_,mI g es c,O,by rw[Tu f];exact m.tl,by rw[b];rfl,es,c,rfl,by rw[No (by cases j:bS D p with|none=>rw[j] at b;cases b|some x=>rw[j] at b;exact Y1 H b)];exact d⟩
 apply aG 5 [1,0] m;simp only[↓U,xH];refine eP (ek:=ed) (en:=bj) (a:=p) (v:=Z) m (k+1) f underlying208 Fp O O O d ?_;intro o c1 u m d;simp only[zF,zG] at m;apply aJ 6 [] m;simp only[↓U];exact aU O O ⟨_,_,O,m.tl,by rw[b];rfl,_,_,rfl,d⟩
def adM(p:E3):∀v∈bG p,v.oneCell'=Z:=λv h=>by
 simp only[bG,av,bw,Y3] at h;rcases h with rfl|rfl|rfl|rfl|rfl|rfl<;>rfl
def apZ{w0 w:an}{is:List It}{A:Option Addr}{n cap:Nat}{xs:List E3}(m:Mem w0 w is)(k:Nat)(c:is[k]? = H (oI 215 6 A n cap (xs.flatMap bG)))(d:n<4611686018427387904) :
 Calls G1 237 [.slice A n cap,.func (.func 168) #[] #[]].toArray w λe w'=>∃v i,e=.returned v/\Mem w0 w' (is.set k i)/\(v=.tuple #[]/\∃ys:List E3,i=oI 215 6 A n cap (ys.flatMap bG)/\ys.Perm xs/\ys.Pairwise λa b=>ltOf ai8 b a=X9):=
 Es (enc:=bG) Tryz.sort237 (λw=>rK Gr w) (λw=>eT wK w) (λ_=>rfl) (by decide) adM ai8 amO (λx y=>apY) m k c d
def ai9{g:Nat}{es:Array cu}{D:List (E3×Bool)}(w:an)(l:gQ w g es c)(k:bC ed bj D es c)(W:D.length<=100000000):dF G1 167 [.map (H g),.func (.func 168) #[] #[]] w (OR 215 6 (λxs=>∃ps:List E3,xs=ps.flatMap bG/\ps.Perm (D.map (·.1))/\ps.Pairwise λa b=>¬Mu b a) w):=by
 refine⟨bK func167 (by kernel_rfl),?_⟩;have m:=Mem.refl w
 go_enter func167,ntmps167
 apply fD 6 [0] m;simp only[↓U];refine C aK ?_;replace m:=m.nilO 215 6;apply aJ 5 [0] m;simp only[↓U];refine tE m underlying208 O (l.ext m.ext) ?_;intro K u m;apply aJ 2 [0] m;simp only[↓U];refine bU [5] [6,9,10,11,12,13,14,15,16] (λn vs L=>∃(d rs:List (E3×Bool)) (e:Option Addr) (n1 j:Nat) (f:Array Nat),vs=[.slice e n1 j]/\Mem w L [iI K g c f,oI 215 6 e n1 j ((d.map (·.1)).flatMap bG)]/\(lU ed bj D es f d rs)/\(n1=d.length)/\(n=rs.length)) ?_ ?_
 .exact⟨_,[],D,G0,0,0,#[],O,m,lU.start k,O,O⟩
 intro n vs wr z u R M;obtain⟨d,rs,e,n1,j,f,rfl,m,p,N,B⟩:=z;have ab:=p.len;simp only[zu,zF,zG];apply aG 2 [0] m;simp only[↓U];refine Er m 0 O O (l.ext m.ext) k p ?_;intro S X Y f u m q;simp only[zF,zG] at m;refine C (nS O) ?_;apply aJ 2 [0] m;simp only[↓U];refine cQ O ?_ ?_<;>intro t
 .obtain⟨J,G,x,E,s⟩:=Dd t q;apply aG 4 [0] m;simp only[↓U];refine eB (pY O (m.r 0 O) (l.ext m.ext) k s) ?_;simp only[I];apply iV 7 [0,1,0] m;simp only[↓U,Fi,xH,aa];intro T u m;refine afe O ?_;intro u V y A F;replace m:=m.newB y A F;simp only[I];refine bW m 3 O O underlying212 ao8 O (by decide) O O O (m.b 0 O).rowsO (jB O) (by omega) (by omega) ?_;intro e j u m;simp only[zF,zG] at m;apply aJ 3 [0] m;simp only[↓U];exact M x.length _ _ (by rw[B,E.length_eq];exact fu _) (by kernel_rfl) ⟨d++[(J,G)],x,_,_,_,_,O,((m.reO 3 O ((m.o 3 O).as (by simp[bG]))).sel [X9,X9,Z,Z]),s,by simp[N],O⟩
 obtain rfl:=Db t q;apply aG 5 [0] m;simp only[↓U];refine nK m 1 (bK func237 (by kernel_rfl)) O O (λm=>apZ m 1 O (by omega)) ?_;rintro v i u m ⟨rfl,ys,rfl,Q,P⟩;simp only[zF,zG] at m;apply aJ 7 [] m;simp only[↓U];exact aU O O ⟨_,O,m.ext,_,_,_,_,O,(m.o 1 O),_,O,Q.trans (p.done.map _),P.imp λh=>by simpa[ltOf,Lu] using h⟩
end Go.Proofs.YtfekpcimgncioaaGreatDoor
namespace Go.Lith
open Go.RowKit
section
variable{w0 w w':an}{is:List It}
def Mem.plus{d:List It}(m:Mem w0 w is)(h:Mem w w' d):Mem w0 w' (d++is):=by
 have a:=m.ext' h.ext;refine⟨a.ext,λi hi=>?_,λi hi b c=>?_,List.pairwise_append.2 ⟨h.nd,m.nd,λi hi j e b h1 h2=>?_⟩⟩
 .exact (bv.1 hi).elim (h.all i) (a.all i)
 . rcases bv.1 hi with hi|hi
   .exact ax m.ext.size (h.ge i hi b c)
   exact a.ge i hi b c
 have f:=h.ge i hi b h1
 have g:=j.lt w b (m.all j e) h2;omega
end
structure Hd where
 A:Option Addr
 n:Nat
 cap:Nat
def Hd.v(h:Hd):ak:=.slice h.A h.n h.cap
end Go.Lith
namespace Go.Proofs.YtfekpcimgncioaaGreatDoor
open Go.Proofs.Tryz
open Go.RowKit Go.Lith
set_option maxRecDepth 100000
attribute [local irreducible] bf M fY cJ cU Code.wp
attribute [local congr] dK dL cZ dJ
variable{E:List E3}{ts:List T3}{cap:Nat}{kp:E3}
def amP{t:T3}:eS G1 234 [tr t] (.agg #[G t.a.x,G t.a.y,G t.a.z,G t.b.x,G t.b.y,G t.b.z,G t.b.x,G t.b.y,G t.b.z,G t.c.x,G t.c.y,G t.c.z,G t.c.x,G t.c.y,G t.c.z,G t.a.x,G t.a.y,G t.a.z]):=by
 intro w;refine⟨bK func234 (by kernel_rfl),?_⟩;have m:=Mem.refl w
 go_enter func234,ntmps234
 apply kX 23 [2,2,2,2,2,2] m;simp only[↓U,att,l,aN,Oi,atu,ag,ah,aa];intro d e;apply I0;omega;intro u m;apply Lc 3 [0] m;simp only[↓U,ats,aa];intro u m;exact aU O ⟨_,O,((m.b 0 O).full ao9 aiz)⟩ ⟨_,O,m.ext,O⟩
def atF{e:E3}:eS G1 236 [ed e] (ed (e.2,e.1)):=by
 intro w;refine⟨bK func236 (by kernel_rfl),?_⟩;have m:=Mem.refl w
 go_enter func236,ntmps236
 apply kX 15 [2,2,0] m;simp only[↓U,Fi,Fj,aN,Vn,Oi,xH,aa];intro a c u m;exact aU O ⟨_,O,((m.b 0 O).full Gr wK)⟩ ⟨_,O,m.ext,O⟩
def afS{e:E3}(h:(!!(bS (eE [] E) e).getD X9)=Z):X9=decide (E++[e]).Nodup:=by
 rw[Bool.not_not] at h;exact (Y6 λk=>(tN.1 k).2 (Ua.1 h)).symm
def abY{e:E3}{b:Bool}(a:b=decide E.Nodup)(h:(!!(bS (eE [] E) e).getD X9)=X9):b=decide (E++[e]).Nodup:=by
 rw[Bool.not_not] at h;rw[a,decide_eq_decide,tN];exact⟨λk=>⟨k,λh2=>by rw[Ua.2 h2] at h;cases h⟩,And.left⟩
def jM{K:Type}[DecidableEq K](a:List K)(k:K):eE [] (a++[k])=fL (eE [] a) k Z:=adg [] a [k]
def Vw{N:Nat}{A:Option Addr}(w:an)(o:cN w A N ts)(hN:N<=10000000):dF G1 164 [.slice A N cap] w (λv w'=>∃g es c,v=.tuple #[.map (H g),.bool (decide (aR ts).Nodup)]/\Mem w w' [mI g es c]/\bC ed bj (eE [] (aR ts)) es c):=by
 refine⟨bK func164 (by kernel_rfl),?_⟩;have m:=Mem.refl w
 go_enter func164,ntmps164
 apply fD 7 [0] m;simp only[↓U];refine iB m ?_;intro F u m;have d:=bC.nil (K:=E3) (V:=Bool) ed bj;apply aJ 14 [0] m;simp only[↓U,jL];refine bU [5,13] [7,9,14,15,16,17,18,19,20,21,22,23,24,25,26,27] (λn vs J=>∃(k:Nat)(es:Array cu)(c:Nat)(b:Bool),vs=[.bool b,G (k:Int)]/\Mem w J [mI F es c]/\(bC ed bj (eE [] (aR (ts.take k))) es c)/\(b=decide (aR (ts.take k)).Nodup)/\(k<=N)/\(n=N-k)) ?_ ?_
 .exact⟨_,0,_,_,Z,O,m,d,O,bu _,O⟩
 intro n vs wr h u X L;obtain⟨k,es,c,z,rfl,m,d,j,hk,hn⟩:=h;simp only[zu,zF,zG];apply aG 5 [0,0] m;simp only[↓U];refine bB O ?_ ?_<;>intro ab
 .obtain⟨t,q,_,a,rfl,W⟩:=o.get (i:=k) (by omega);apply sO 13 [0,1,0,1,0] m;simp only[↓U,eO,mH,fJ,ai,aj,aa];refine⟨_,λu m=>((W.ext m.ext).lies dG bA),λg2=>⟨by omega,?_⟩⟩;intro u m;refine tK m O O amP 16 [4,1,0] ?_;simp only[↓U];apply I0;omega;intro u m;refine C (Xx O O) ?_;apply iV 7 [0,1,0] m;simp only[↓U,Fi,xH,aa];intro g3 u m;refine nK m 2 abb O O (λm=>abX (p:=(t.a,t.b)) m 2 O d) ?_;rintro v i u m ⟨rfl,r,l,rfl,e⟩;simp only[zF,zG] at m;simp only[I];rw[<-jM] at e;clear d;have d:=e;clear e;apply aJ 2 [0] m;simp only[↓U];refine adb m [5] [] (λvs=>∃(b:Bool),vs=[.bool b]/\(b=decide (((aR (ts.take k))++[(t.a,t.b)])).Nodup)) ?_ ?_
  .intro Y s;refine cQ O ?_ ?_<;>intro f
   .apply aG 3 [0] m;simp only[↓U];exact s _ _ (by kernel_rfl) m ⟨X9,O,afS f⟩
   skip
   apply aG 1 [0] m;simp only[↓U];exact s _ _ (by kernel_rfl) m ⟨z,O,abY j f⟩
  intro vs wr m h u;obtain⟨B,rfl,M⟩:=h;simp only[zu,zF,zG];apply S 17 [1,0] m;simp only[↓U,R];apply I0;omega;refine C (Xy O O) ?_;apply iV 7 [0,1,0] m;simp only[↓U,Fi,xH,aa];intro g4 u m;refine nK m 3 abb O O (λm=>abX (p:=(t.b,t.c)) m 3 O d) ?_;rintro v i u m ⟨rfl,r,l,rfl,e⟩;simp only[zF,zG] at m;simp only[I];rw[<-jM] at e;clear d;have d:=e;clear e;apply aJ 2 [0] m;simp only[↓U];refine adb m [5] [] (λvs=>∃(b:Bool),vs=[.bool b]/\(b=decide ((((aR (ts.take k))++[(t.a,t.b)])++[(t.b,t.c)])).Nodup)) ?_ ?_
  .intro K3 x;refine cQ O ?_ ?_<;>intro f
   .apply aG 3 [0] m;simp only[↓U];exact x _ _ (by kernel_rfl) m ⟨X9,O,afS f⟩
   skip
   apply aG 1 [0] m;simp only[↓U];exact x _ _ (by kernel_rfl) m ⟨B,O,abY M f⟩
  intro vs wr m h u;obtain⟨D,rfl,P⟩:=h;simp only[zu,zF,zG];apply S 17 [1,0] m;simp only[↓U,R];apply I0;omega;refine C (Xz O O) ?_;apply iV 7 [0,1,0] m;simp only[↓U,Fi,xH,aa];intro g5 u m;refine nK m 4 abb O O (λm=>abX (p:=(t.c,t.a)) m 4 O d) ?_;rintro v i u m ⟨rfl,r,l,rfl,e⟩;simp only[zF,zG] at m;simp only[I];rw[<-jM] at e;clear d;have d:=e;clear e;apply aJ 2 [0] m;simp only[↓U];refine adb m [5] [] (λvs=>∃(b:Bool),vs=[.bool b]/\(b=decide (((((aR (ts.take k))++[(t.a,t.b)])++[(t.b,t.c)])++[(t.c,t.a)])).Nodup)) ?_ ?_
  .intro K4 y;refine cQ O ?_ ?_<;>intro f
   .apply aG 3 [0] m;simp only[↓U];exact y _ _ (by kernel_rfl) m ⟨X9,O,afS f⟩
   skip
   apply aG 1 [0] m;simp only[↓U];exact y _ _ (by kernel_rfl) m ⟨D,O,abY P f⟩
  intro vs wr m h u;obtain⟨E,rfl,Q⟩:=h;simp only[zu,zF,zG];apply S 18 [2,0] m;simp only[↓U,R];apply I0;omega;exact L (N-(k+1)) _ _ (by omega) (by kernel_rfl) ⟨k+1,_,_,E,O,(m.sel [X9,X9,X9,X9,Z]),by rw[sX q];simpa[dm] using d,by rw[Q,sX q];simp only[dm,de,cl],by omega,rfl⟩
 have T:k=N:=by omega
 rw[T,show ts.take N=ts from a_ (by rw[o.len];exact ba _)] at d j;apply aG 9 [] m;simp only[↓U];refine jG O O O ?_;try simp only[zD,zE]
 exact⟨_,O,m.ext,_,_,_,by rw[j],m,d⟩
def atG{a:List (E3×Bool)}{b:Bool}(h:(!(bS (eE [] E) (kp.2,kp.1)).getD X9)=Z):((a++[(kp,b)]).map (·.1)).filter (λe=>decide ((e.2,e.1)∉E))=(a.map (·.1)).filter (λe=>decide ((e.2,e.1)∉E))++[kp]:=by
 rw[mB] at h;simp only[db,gl,bm,df];rw[List.filter_cons_of_pos (by simpa using h)];rfl
def atH{a:List (E3×Bool)}{b:Bool}(h:(!(bS (eE [] E) (kp.2,kp.1)).getD X9)=X9):((a++[(kp,b)]).map (·.1)).filter (λe=>decide ((e.2,e.1)∉E))=(a.map (·.1)).filter (λe=>decide ((e.2,e.1)∉E)):=by
 rw[mB] at h;simp only[db,gl,bm,df];rw[List.filter_cons_of_neg (by simpa using h)];simp
def amQ{b:List (E3×Bool)}(h:b.Perm (eE [] E)):(∀a,a∈(b.map (·.1)).filter (λe=>decide ((e.2,e.1)∉E))↔a∈E/\(a.2,a.1)∉E)/\((b.map (·.1)).filter (λe=>decide ((e.2,e.1)∉E))).length<=E.length:=by
 refine⟨λa=>?_,?_⟩
 .rw[List.mem_filter,(h.map (·.1)).mem_iff,sA];simp
 refine ax (gd _ _) ?_;have:=qZ E [];rw[eb,h.length_eq];simpa using this
def aja{g c:Nat}{es:Array cu}(w:an)(h:gQ w g es c)(f:bC ed bj (eE [] E) es c):dF G1 165 [.map (H g)] w (λv w'=>∃g es c o,v=.map (H g)/\Mem w w' [mI g es c]/\bC ed bj (eE [] o) es c/\(∀a,a∈o↔a∈E/\(a.2,a.1)∉E)/\o.length<=E.length):=by
 refine⟨bK func165 (by kernel_rfl),?_⟩;have m:=Mem.refl w
 go_enter func165,ntmps165
 apply fD 6 [0] m;simp only[↓U];refine iB m ?_;intro L u m;have b:=bC.nil (K:=E3) (V:=Bool) ed bj;apply aJ 6 [0] m;simp only[↓U];refine tE m underlying208 O (h.ext m.ext) ?_;intro M u m;apply aJ 2 [0] m;simp only[↓U];refine bU [] [4,8,9,10,11,12,13,14,15,16,17,18,19] (λn vs N=>∃(d rs:List (E3×Bool)) (j:Array Nat) (q:Array cu) (c2:Nat),vs=[]/\Mem w N [iI M g c j,mI L q c2]/\(bC ed bj (eE [] ((d.map (·.1)).filter (λe=>decide ((e.2,e.1)∉E)))) q c2)/\(lU ed bj (eE [] E) es j d rs)/\(n=rs.length)) ?_ ?_
 .exact⟨_,[],eE [] E,#[],_,_,O,m,b,lU.start f,O⟩
 intro n vs wr J u P D;obtain⟨d,rs,j,q,c2,rfl,m,b,y,z⟩:=J;simp only[zu,zF,zG];apply aG 2 [0] m;simp only[↓U];refine Er m 0 O O (h.ext m.ext) f y ?_;intro Q T W j u m x;simp only[zF,zG] at m;refine C (nS O) ?_;apply aJ 2 [0] m;simp only[↓U];refine cQ O ?_ ?_<;>intro F
 .obtain⟨kp,B,l,A,t⟩:=Dd F x;apply aG 4 [0] m;simp only[↓U];refine eB (pY O (m.r 0 O) (h.ext m.ext) f t) ?_;simp only[I];apply iV 8 [0,1,0] m;simp only[↓U,Fi,xH,aa];intro S u m;refine nX m O O atF ?_;intro u m;simp only[I];refine eB (dA (ek:=ed) (en:=bj) (k:=(kp.2,kp.1)) (v0:=X9) underlying208 iN Fp O O (h.ext m.ext) f) ?_;simp only[I];apply aJ 2 [0] m;simp only[↓U];refine cQ O ?_ ?_<;>intro G
  .apply aG 3 [1,0] m;simp only[↓U,xH];refine nK m 2 abb O O (λm=>abX (p:=kp) m 2 O b) ?_;rintro v i u m ⟨rfl,X,R,rfl,s⟩;simp only[zF,zG] at m;simp only[I];rw[<-jM] at s;clear b;have b:=s;clear s;apply aJ 2 [0] m;simp only[↓U];exact D l.length _ _ (by rw[z,A.length_eq];exact fu _) (by kernel_rfl) ⟨d++[(kp,B)],l,_,_,_,O,(m.sel [X9,Z,Z]),by rw[atG G];exact b,t,O⟩
  apply aG 2 [0] m;simp only[↓U];exact D l.length _ _ (by rw[z,A.length_eq];exact fu _) (by kernel_rfl) ⟨d++[(kp,B)],l,_,_,_,O,(m.sel [X9,Z,Z]),by rw[atH G];exact b,t,O⟩
 obtain rfl:=Db F x;apply aG 7 [] m;simp only[↓U];exact aU O O ⟨_,O,m.ext,_,_,_,_,O,m.sel [X9,Z],b,amQ y.done⟩
def ajb{d ps:List E3}(e:∀a,a∈d↔a∈aR ts/\(a.2,a.1)∉aR ts)(c:ps.Perm ((eE [] d).map (·.1)))(g:ps.Pairwise λa b=>¬Mu b a):ps=Y ts:=by
 refine Px ?_ (pO ts) λa=>?_
 .have f:ps.Nodup:=c.nodup_iff.2 (qN _ _ .nil);refine List.Pairwise.imp₂ (λa b (h:¬Mu b a) (k:a≠b)=>?_) g f;rcases Mu.tri a b with h1|h1|h1
  .exact h1
  .exact Y0 h1 k
  exact Y0 h1 h
 rw[c.mem_iff,sA,wY,e];simp
def Om{N:Nat}{A:Option Addr}(w:an)(h:cN w A N ts)(T:N<=10000000):dF G1 98 [.slice A N cap] w (SL 56 6 ((Y ts).flatMap bG) (Y ts).length w):=by
 refine⟨bK func98 (by kernel_rfl),?_⟩;have m:=Mem.refl w;have ah:=h.len;have af:=kF ts
 go_enter func98,ntmps98
 apply fD 7 [0] m;simp only[↓U];refine aX O O (Vw _ (h.ext m.ext) (by omega)) ?_;rintro v u a ⟨Q,X,K,rfl,c,x⟩;replace m:=m.plus c;clear c;simp only[de,cl] at m;apply aJ 8 [0] m;simp only[↓U];refine C aK ?_;replace m:=m.nilO 56 6;apply aJ 5 [0] m;simp only[↓U];refine aX O O (aja _ (m.p 1 O) x) ?_;rintro v u a ⟨R,ab,L,r,rfl,c,y,B,ag⟩;replace m:=m.plus c;clear c;simp only[de,cl] at m;simp only[I];refine aX O O (ai9 _ (m.p 0 O) y (by have h1:=qZ r [];simp only[cd] at h1;omega)) ?_;rintro v u a ⟨j,s,F,_,rfl,g,ps,rfl,D,E⟩;replace m:=m.newO a g;obtain rfl:=ajb B D E;obtain rfl:(Y ts).length=s:=(m.o 0 rfl).num yM (by decide);have ak:=(m.o 0 rfl).le;have ad:(Y ts).length<=(aR ts).length:=by have:=uQ (all:=aR ts) (aR ts) [];simpa[Y] using this
 apply aJ 4 [0] m;simp only[↓U,ati];refine bU [5,17] [7,18,19,20,21,22,23,24,25,26,27,28,29] (λn vs t=>∃(k:Nat)(d:Option Addr)(f:Nat),vs=[.slice d k f,G (k:Int)]/\Mem w t [oI 215 6 j (Y ts).length F ((Y ts).flatMap bG),oI 56 6 d k f (((Y ts).take k).flatMap bG)]/\(k<=(Y ts).length)/\(n=(Y ts).length-k)) ?_ ?_
 .exact⟨_,0,_,_,O,(m.sel [Z,X9,Z,X9]),bu _,O⟩
 intro n vs wr l u J z;obtain⟨k,d,f,rfl,m,V,W⟩:=l;simp only[zu,zF,zG];apply aG 5 [0,0] m;simp only[↓U];refine bB O ?_ ?_<;>intro ae
 .obtain⟨e,i⟩:∃e,(Y ts)[k]? = H e:=⟨_,ap (by omega)⟩
  obtain⟨S,rfl⟩:=(m.o 0 rfl).some (by omega);apply sO 17 [0,4,0,1,1,0] m;simp only[↓U,atj,Fi,xH,Vn,aN,Fj,pU,ai,aj,aa];refine⟨_,λu m=>(lA (((m.o 0 O).at yM i).lies Gr wK)),λM=>⟨by omega,?_⟩⟩;intro u m;refine Nm O ?_;intro u P a g q;replace m:=m.newB a g q;simp only[I];refine bW m 3 O O xU Eo O (by decide) O O O (m.b 0 O).rowsO (jB O) (by omega) (by omega) ?_;intro d f u m;simp only[zF,zG] at m;apply aJ 7 [0] m;simp only[↓U];apply I0;omega;exact z ((Y ts).length-(k+1)) _ _ (by omega) (by kernel_rfl) ⟨k+1,_,_,O,((m.reO 3 O ((m.o 3 O).as (by rw[bV i,bi];rfl))).sel [X9,X9,Z,Z]),by omega,rfl⟩
 obtain rfl:k=(Y ts).length:=by omega
 rw[fe] at m;apply aG 7 [] m;simp only[↓U];exact aU O O ⟨_,O,m.ext,⟨_,_,_,O,O,(m.o 1 O)⟩⟩
end Go.Proofs.YtfekpcimgncioaaGreatDoor
namespace Go.Lith
open Go.RowKit Go.ChangeMaps Go.MapKept
def ap0{K V:Type}[DecidableEq K](ek:K->ak)(en:V->ak)(D:List (K×V))(k:K)(es:Array cu)(c b:Nat):Prop:=
 ∀u,∃p,es.findIdx? (λe=>(e.born:Int) == (b:Int))=H p/\bC ek en (fL D k u) (es.modify p λe=>{ e with val:=en u }) c
section
variable{K V:Type}[DecidableEq K]{P:cg}{T M E ty:bh}{ek:K->ak}{en:V->ak}{w w0:an}{g c:Nat}{es:Array cu}{D:List (K×V)}
def atI{α:Type}{l:List α}{p:Nat}{x:α}(h:l[p]? = H x):l.set p x=l:=by
 apply gt;intro j;rw[List.getElem?_set];split
 .rename_i e;subst e;rw[Z9 (az.1 h).1,h]
 rfl
def adN{b p:Nat}(h:(es.toList.map (·.born)).Nodup){e:cu}(c:es[p]? = H e)(a:e.born=b):es.findIdx? (λe=>(e.born:Int) == (b:Int))=H p:=by
 rw[Array.findIdx?_eq_some_iff_getElem];have d:=(ec.1 c).1;have f:=(ec.1 c).2;refine⟨d,by rw[f,a];simp,λj k=>?_⟩;have i:j<es.size:=by omega
 simp only[Bool.not_eq_true,beq_eq_false_iff_ne,ne_eq,Int.natCast_inj];intro g;have h1:(es.toList.map (·.born))[j]'(by simpa using i)=(es.toList.map (·.born))[p]'(by simpa using d):=by
  simp only[List.getElem_map,Array.getElem_toList];rw[g,f,a]
 have:=(List.getElem_inj h).1 h1;omega
def afT{p:Nat}{e:cu}(a:es[p]? = H e)(k u:ak)(c:e.key=k):(es.modify p λe=>{ e with val:=u })=es.modify p λe=>{ e with key:=k,val:=u }:=by
 apply mz;intro j;rw[lg,lg];split
 .rename_i b;subst b;rw[a];simp[c]
 rfl
def ap1(b:bC ek en D es c){p:Nat}{k:K}{v:V}(d:D[p]? = H (k,v)):∃e,es[p]? = H e/\e.key=ek k/\e.val=en v:=by
 have h2:=Y1 (λL=>L[p]?) b.cells;simp only[fi,d,fw] at h2;rw[Array.getElem?_toList] at h2;cases a:es[p]? with
 |none=>rw[a] at h2;cases h2
 |some x=>
  rw[a] at h2;simp only[fw,gu,Ye,fy] at h2;exact⟨x,O,h2.1,h2.2⟩
def Yl{v0:V}(y:P.underlying M=H (.map T E))(r:qD P E (en v0))(d:rX P T ek)(h:gQ w g es c)(a:bC ek en D es c)(k:K) :
 ∃s o b,(Instr.mapEntry M (.map (H g)) (ek k)).run P w=.ok (.tuple #[en ((bS D k).getD v0),G (b:Nat)]) (setBlock w g (.map s o))/\bC ek en (fL D k ((bS D k).getD v0)) s o/\ap0 ek en D k s o b:=by
 unfold gQ at h;cases l:pM D k 0 with
 |none=>
  obtain⟨f,h1,_⟩:=oA D k 0 l;obtain⟨F,z,r⟩:=r;have B:(zeroValue E).run P w=.ok (en v0) w:=by simp[zeroValue,typeInfo,program,Sem.run,z,r]
  have t:=a.push k v0;refine⟨_,_,c,?_,by rw[f,h1];exact t,λu=>⟨es.size,adN t.nd (e:={ key:=ek k,val:=en v0,born:=c }) (by simp) O,?_⟩⟩
  . simp only[Instr.mapEntry,Sem.run_bind,cq y,Result.andThen,getObj,Sem.run,h,Sem.run_pure,d.chk,rY d k w a,l,Option.map_none,B,run_setObj_map _ h,f,og,goInt]
    rfl
  rw[h1]
  have e:((es.push { key:=ek k,val:=en v0,born:=c }).modify es.size λe=>{ e with val:=en u })=es.push { key:=ek k,val:=en u,born:=c }:=by
   apply mz;intro j;rw[lg,Array.getElem?_push,Array.getElem?_push];split
   .rename_i m;subst m;simp
   rename_i m;simp[Ne.symm m]
  rw[e];exact a.push k u
 |some p=>
  obtain⟨j,v⟩:=p;obtain⟨p,rfl,q,f,h1,_⟩:=lN D k 0 j v l;rw[aj] at l;obtain⟨e,i,n,C⟩:=ap1 a q;have A:((es[p]?).map (·.key)).getD (ek k)=ek k:=by rw[i];simp[n]
  have x:(es.modify p λe=>{ e with key:=ek k })=es:=by
   apply mz;intro j;rw[lg];split
   .rename_i m;subst m;rw[i];simp[<-n]
   rfl
  refine⟨es,c,e.born,?_,by rw[f,dt,h1,atI q];exact a,λu=>⟨p,adN a.nd i O,?_⟩⟩
  . simp only[Instr.mapEntry,Sem.run_bind,cq y,Result.andThen,getObj,Sem.run,h,Sem.run_pure,d.chk,rY d k w a,l,fw,A,Instr.keyThatStays,d.bits,Y4,x,run_setObj_map _ h,f,dt,i,n,d.bits,Y4,Sem.run_pure,x,goInt]
    rfl
  rw[h1,afT i (ek k) (en u) n]
  exact a.set q u
def Qw{b:Nat}{k:K}(a:gQ w g es c)(f:ap0 ek en D k es c b)(u:V) :
 ∃d,(Instr.entryStore M (.map (H g)) (G (b:Nat)) (en u)).run P w=.ok () (setBlock w g (.map d c))/\bC ek en (fL D k u) d c:=by
 obtain⟨p,h,e⟩:=f u;unfold gQ at a;refine⟨_,?_,e⟩;simp only[Instr.entryStore,Sem.run_bind,Result.andThen,getObj,Sem.run,a,Sem.run_pure,asInt,asIntOf,h];exact run_setObj_map _ a
def aho{ds:List eh}{l:List ak}{op:Op}{ops:Array Oper}{Q:Exit->Act->an->Prop}{rest:List Oper}{pos:String}{after:Array Edge}
 (h:∀o:Oper,o.op=op->∃v w',(N (Fr l).eval o).run P w=.ok (.value v) w'/\bf P ops Q rest (Fr l ds) w'):bf P ops Q (ci G0 op ty pos after G0::rest) (Fr l ds) w:=by
 refine wpList_plain O λK a=>?_;unfold Oper.wp;obtain⟨v,w',b,c⟩:=h (ci G0 op ty pos after G0) rfl;rw[iP,b];exact a _ _ c
variable{is:List It}{ds:List eh}{l:List ak}{x y z:cw}{ops:Array Oper}{Q:Exit->Act->an->Prop}{rest:List Oper}{d:Nat}{pos:String}{after:Array Edge}
def Cj{v0:V}{a:K}(m:Mem w0 w is)(k:Nat)(q:is[k]? = H (mI g es c))(z:P.underlying M=H (.map T E))(C:qD P E (en v0))(F:rX P T ek)(A:ev l x=.map (H g))(B:ev l y=ek a)(r:bC ek en D es c)
 (h:∀i f b u,Mem w0 u (is.set k (mI g i f))->bC ek en (fL D a ((bS D a).getD v0)) i f->ap0 ek en D a i f b->bf P ops Q rest (Fr (l.set d (.tuple #[en ((bS D a).getD v0),G (b:Nat)])) ds) u) :
 bf P ops Q (ci (H d) (.mapEntry M x y) ty pos after G0::rest) (Fr l ds) w:=by
 have n:=m.p k q;obtain⟨i,f,b,v,I,s⟩:=Yl z C F n r a;have j:=oR (w:=w) (g:=g) (.map i f);refine lK (w':=setBlock w g (.map i f)) (λo t L=>by simp[N,t,L,cK,A,B,v]) (h i f b _ ?_ I s);exact m.put k q j.os j.tape j.output (by rw[j.size];exact ba _) (λb _ J=>j.block b λe=>J (by rw[e];rfl)) (iU n) (.inl λ_ h=>h)
def sK{v:V}{a:K}{b:Nat}(m:Mem w0 w is)(k:Nat)(j:is[k]? = H (mI g es c))(s:ev l x=.map (H g))(t:ev l y=G (b:Nat))(A:ev l z=en v)(n:ap0 ek en D a es c b)
 (h:∀d u,Mem w0 u (is.set k (mI g d c))->bC ek en (fL D a v) d c->bf P ops Q rest (Fr l ds) u):bf P ops Q (ci G0 (.entryStore M x y z) ty pos after G0::rest) (Fr l ds) w:=by
 have i:=m.p k j;obtain⟨d,r,B⟩:=Qw (P:=P) (M:=M) i n v;have f:=oR (w:=w) (g:=g) (.map d c);refine Kg (w':=setBlock w g (.map d c)) (λo q=>by simp[N,q,cK,s,t,A,r]) (h d _ ?_ B);exact m.put k j f.os f.tape f.output (by rw[f.size];exact ba _) (λb _ C=>f.block b λe=>C (by rw[e];rfl)) (iU i) (.inl λ_ h=>h)
def Vx{a:K}{T2:bh}(m:Mem w0 w is)(k:Nat)(n:is[k]? = H (mI g es c))(v:P.underlying M=H (.map T E))(B:rX P T ek)(z:ev l x=.map (H g))(A:ev l y=ek a)(q:bC ek en D es c){a0:Array bh}(r:a0 = #[M,T2])
 (h:∀f d u,Mem w0 u (is.set k (mI g f d))->bC ek en (sR D a) f d->bf P ops Q rest (Fr l ds) u):bf P ops Q (ci G0 (.call { callee:=.builtin .delete,args:=#[x,y],argTypes:=a0 }) ty pos after G0::rest) (Fr l ds) w:=by
 subst r;have j:=m.p k n;have i:=λf d=>oR (w:=w) (g:=g) (.map f d);refine aho λo s=>?_;obtain⟨f,d,t,C⟩:=ac7 (T2:=T2) (ty:=o.type) v B j q a;exact⟨.tuple #[],setBlock w g (.map f d),by simp[N,s,resolve,invoke,builtin,cK,z,A,t],h f d _ (m.put k n (i f d).os (i f d).tape (i f d).output (by rw[(i f d).size];exact ba _) (λb _ F=>(i f d).block b λe=>F (by rw[e];rfl)) (iU j) (.inl λ_ h=>h)) C⟩
end
end Go.Lith
namespace Go.Proofs.YtfekpcimgncioaaGreatDoor
open Go.Proofs.Tryz
open Go.RowKit Go.Lith
set_option maxRecDepth 100000
attribute [local irreducible] bf M fY cJ cU Code.wp
attribute [local congr] dK dL cZ dJ
variable{K:Type}{s a y:P3}{z M N cap cap2:Nat}{ts:List T3}{A:Option Addr}{t:T3}
def vB(n:Nat):ak:=G (n:Int)
def tV{V:Type}[DecidableEq K](xs:List (K×V))(k:K)(v:V):rD [] (xs++[(k,v)])=fL (rD [] xs) k v:=adh [] xs [(k,v)]
def wO[DecidableEq K](a:List K)(k:K):yP [] (a++[k])=fL (yP [] a) k ((bS (yP [] a) k).getD 0+1):=alF [] a [k]
def adO[DecidableEq K](a:List K)(k:K):(bS (yP [] a) k).getD 0=rF a k:=by rw[adi];simp[bS]
def Rw[DecidableEq K](a:List K)(k:K):(bS (yP [] a) k).getD 0<=a.length:=by rw[adO];exact gd _ _
def atJ{b:P3->Option P3}{n:Nat}(h:¬a=s)(c:b a=H y):Ev b s (n+1) a z=Ev b s n y (z+1):=by rw[Ev,K0 h,c]
def ap2{b:P3->Option P3}{n:Nat}(c:b a=G0):Ev b s n a z=(a,z):=by
 cases n with
 |zero=>rfl
 |succ n=>rw[Ev,c];split<;>rfl
def atK{b:P3->Option P3}(c:z<=M+1)(h:a=s\/¬z<=M):Ev b s (M+1-z) a z=(a,z):=by
 rcases h with rfl|h
 .exact alG
 rw[show M+1-z=0 by omega];rfl
def atL{x:P3}:(¬x.x=y.x\/¬x.y=y.y\/¬x.z=y.z)↔¬x=y:=by
 rw[<-gZ];exact⟨λh k=>h.elim (λh=>h k.1) λh=>h.elim (λh=>h k.2.1) λh=>h k.2.2,λh=>by
  rcases Classical.em (x.x=y.x) with h1|h1
  .rcases Classical.em (x.y=y.y) with h2|h2
   .exact .inr (.inr λa=>h ⟨h1,h2,a⟩)
   exact .inr (.inl h2)
  exact .inl h1⟩
def amR(h:(decide (¬(a.x=s.x/\a.y=s.y/\a.z=s.z))&&decide ((z:Int)<=(M:Int)))=X9):a=s\/¬z<=M:=by
 rcases Classical.em (a=s) with k|k
 .exact .inl k
 refine .inr λb=>?_;rw[Y5 (mt gZ.1 k),Y5 (Int.ofNat_le.2 b)] at h;cases h
def amS{es:Array cu}{d:Array Nat}{a:List (E3×P3)}(h:lU ed pt (rD [] (kD ts)) es d a [])(f:(aR ts).Nodup)(g:∀y∈a,¬aby ts y.1)(e:E3):¬aby ts e:=λb=>by
 obtain⟨x,c,_⟩:=id b;have h1:bS (rD [] (kD ts)) e=H x:=by rw[<-c];exact Ah f e.1 e.2
 exact g _ (h.done.mem_iff.2 (rW h1)) b
def aay(ts:List T3):(bP ts).length=ts.length*3:=wE ts
def afU(w:an)(hT:cN w A N ts)(hN:N<=10000000)(ak:(aR ts).Nodup):dF G1 166 [.slice A N cap] w (λv _=>v=.bool ((cR ts).any (Kx ts))):=by
 refine⟨bK func166 (by kernel_rfl),?_⟩;have m:=Mem.refl w
 go_enter func166,ntmps166
 apply fD 6 [0] m;simp only[↓U];refine iB m ?_;intro q8 u m;have o:=bC.nil (K:=E3) (V:=P3) ed pt;apply aJ 4 [0] m;simp only[↓U];refine iB m ?_;intro q9 u m;have f:=bC.nil (K:=P3) (V:=Nat) pt vB;apply aJ 10 [0] m;simp only[↓U,jL];refine bU [18] [6,7,8,19,20,21,22,23,24,25,26,27,28,29,30,31,32,33,34,35,36,37,38,39,40,41,42,43,44,45,46,47] (λn vs wl=>∃(k:Nat)(P j:Array cu)(J q:Nat),vs=[G (k:Int)]/\Mem w wl [mI q9 j q,mI q8 P J]/\(bC ed pt (rD [] (kD (ts.take k))) P J)/\(bC pt vB (yP [] (bP (ts.take k))) j q)/\(k<=N)/\(n=N-k)) ?_ ?_
 .exact⟨_,0,_,_,_,_,O,m,o,f,bu _,O⟩
 intro n vs wr s u K1 aE;obtain⟨k,P,j,J,q,rfl,m,o,f,hk,hn⟩:=s;simp only[zu,zF,zG];apply aG 5 [0,0] m;simp only[↓U];refine bB O ?_ ?_<;>intro aZ
 .obtain⟨t,ht,_,a,rfl,aW⟩:=hT.get (i:=k) (by omega);have aL:=aay (ts.take k);rw[bz] at aL;apply sO 9 [0,1,0] m;simp only[↓U,eO,mH,fJ,ai,aj,aa];refine⟨_,λu m=>((aW.ext m.ext).lies dG bA),λg3=>⟨by omega,?_⟩⟩;intro u m;apply S 21 [1,4,1,0] m;simp only[↓U,fJ];apply I0;omega;refine C (jY O O) ?_;apply iV 5 [0,0] m;simp only[↓U,cY,aN,aa];intro g4 u m;refine dQ m 13 aD (by kernel_rfl) ?_;simp only[zy];refine fE 4 [1] ?_;simp only[↓U,aN,R];apply I0;omega;refine L (cW (m:=1) (n:=3) (r:=1) O O (by decide) (by decide)) (fE 5 [2] ?_);simp only[↓U,l,aN,Oi,ag,ah,aa,R];apply I0;omega;refine L (cW (m:=2) (n:=3) (r:=2) O O (by decide) (by decide)) (fE 2 [2] ?_);simp only[↓U,l,aN,ag,ah,aa];apply I0;omega;refine bM ?_;intro u m;refine eP (ek:=ed) (en:=pt) (a:=(t.a,t.b)) (v:=t.c) m 3 O Og Fp O O O o ?_;intro P J u m o;simp only[zF,zG] at m;rw[<-tV] at o;refine E (gc ?_);refine kS m 2 [] [40,41,42,43,44,45] (λvs i=>∃(es:Array cu)(c:Nat),vs=[]/\i=mI q9 es c/\(bC pt vB (yP [] (((bP (ts.take k))++[t.a]))) es c)) ?_ ?_
  .intro K2 au;refine Zg m [Z,Z,X9,Z] (.take 0 (.take 1 (.two 2 (.take 3 (.one 4 (.take 5 (.one 6 .nil)))) 4 (.take 5 (.one 2 (.take 3 (.one 6 .nil))))))) aD (by kernel_rfl) (bT (λ_ _ _ _ _ h=>h)) ?_;intro u m;have d:=Rw (bP (ts.take k)) t.a;try simp only[bg,be,cd] at d
   refine eC (by simp only[zw];rfl) (bY aI (bO (eC (by simp only[zw];rfl) ?_)));simp only[I];refine mU O (λu m=>((m.b 0 O).full aF aA)) ?_;simp only[I];refine bO ?_;refine Po (by simp only[zw];rfl) (by simp only[zw];rfl) ?_ ?_
   .refine eB (dA (ek:=pt) (en:=vB) (k:=t.a) (v0:=0) qS mV eL O O (m.p 2 O) f) ?_;simp only[I];refine E ⟨m.sel [Z,Z,X9,Z],?_⟩;refine eC (by simp only[zw];rfl) (bY (fZ rfl rfl (cF (by omega) (by omega))) (bO (jQ (by simp only[zw];rfl) ?_)));simp only[I];refine Cj (ek:=pt) (en:=vB) (a:=t.a) (v0:=0) m 2 O qS mV eL O O f ?_;intro j q bs u m T D;simp only[zF,zG] at m;refine E ⟨m.sel [Z,Z,X9,Z],?_⟩;refine eC (by simp only[zw];rfl) (bY (dV rfl rfl) (bO (jQ (by simp only[zw];rfl) ?_)));simp only[I];refine sK (ek:=pt) (en:=vB) (a:=t.a) (v:=(bS (yP [] (bP (ts.take k))) t.a).getD 0+1) m 2 O O O O D ?_;intro j u m f;simp only[zF,zG] at m;rw[<-wO] at f;refine E ⟨m.sel [Z,Z,X9,Z],?_⟩;refine xR (gk ?_);exact au _ _ _ (by kernel_rfl) m ⟨_,_,O,O,f⟩
   refine Cj (ek:=pt) (en:=vB) (a:=t.a) (v0:=0) m 2 O qS mV eL O O f ?_;intro j q bs u m T D;simp only[zF,zG] at m;refine E ⟨m.sel [Z,Z,X9,Z],?_⟩;refine eC (by simp only[zw];rfl) (bY (dV rfl rfl) (bO (jQ (by simp only[zw];rfl) ?_)));simp only[I];refine eB (dA (ek:=pt) (en:=vB) (k:=t.a) (v0:=0) qS mV eL O O (m.p 2 O) T) ?_;simp only[I];rw[kH,Z9 rfl,dt];refine E ⟨m.sel [Z,Z,X9,Z],?_⟩;refine eC (by simp only[zw];rfl) (bY (fZ rfl rfl (cF (by omega) (by omega))) (bO (jQ (by simp only[zw];rfl) ?_)));simp only[I];refine sK (ek:=pt) (en:=vB) (a:=t.a) (v:=(bS (yP [] (bP (ts.take k))) t.a).getD 0+1) m 2 O O O O D ?_;intro j u m f;simp only[zF,zG] at m;rw[<-wO] at f;refine E ⟨m.sel [Z,Z,X9,Z],?_⟩;refine xR (gk ?_);exact au _ _ _ (by kernel_rfl) m ⟨_,_,O,O,f⟩
  intro vs i wr m s u;obtain⟨j,q,rfl,rfl,f⟩:=s;simp only[zF,zG] at m;simp only[zu,zF,zG];apply S 18 [1,0] m;simp only[↓U,R];apply I0;omega;refine C (jZ O O) ?_;apply iV 5 [0,0] m;simp only[↓U,cY,aN,aa];intro g5 u m;refine dQ m 13 aD (by kernel_rfl) ?_;simp only[zy];refine fE 4 [1] ?_;simp only[↓U,aN,R];apply I0;omega;refine L (cW (m:=2) (n:=3) (r:=2) O O (by decide) (by decide)) (fE 5 [3] ?_);simp only[↓U,l,aN,Oi,ag,ah,aa,R];apply I0;omega;refine L (cW (m:=3) (n:=3) (r:=0) O O (by decide) (by decide)) (fE 2 [3] ?_);simp only[↓U,l,aN,ag,ah,aa];apply I0;omega;refine bM ?_;intro u m;refine eP (ek:=ed) (en:=pt) (a:=(t.b,t.c)) (v:=t.a) m 4 O Og Fp O O O o ?_;intro P J u m o;simp only[zF,zG] at m;rw[<-tV] at o;refine E (gc ?_);refine kS m 3 [] [40,41,42,43,44,45] (λvs i=>∃(es:Array cu)(c:Nat),vs=[]/\i=mI q9 es c/\(bC pt vB (yP [] (((((bP (ts.take k))++[t.a]))++[t.b]))) es c)) ?_ ?_
  .intro K3 av;refine Zg m [Z,Z,Z,X9,Z] (.take 0 (.take 1 (.two 2 (.take 3 (.one 4 (.take 5 (.one 6 .nil)))) 4 (.take 5 (.one 2 (.take 3 (.one 6 .nil))))))) aD (by kernel_rfl) (bT (λ_ _ _ _ _ h=>h)) ?_;intro u m;have d:=Rw (((bP (ts.take k))++[t.a])) t.b;try simp only[bg,be,cd] at d
   refine eC (by simp only[zw];rfl) (bY aI (bO (eC (by simp only[zw];rfl) ?_)));simp only[I];refine mU O (λu m=>((m.b 0 O).full aF aA)) ?_;simp only[I];refine bO ?_;refine Po (by simp only[zw];rfl) (by simp only[zw];rfl) ?_ ?_
   .refine eB (dA (ek:=pt) (en:=vB) (k:=t.b) (v0:=0) qS mV eL O O (m.p 3 O) f) ?_;simp only[I];refine E ⟨m.sel [Z,Z,Z,X9,Z],?_⟩;refine eC (by simp only[zw];rfl) (bY (fZ rfl rfl (cF (by omega) (by omega))) (bO (jQ (by simp only[zw];rfl) ?_)));simp only[I];refine Cj (ek:=pt) (en:=vB) (a:=t.b) (v0:=0) m 3 O qS mV eL O O f ?_;intro j q bs u m T D;simp only[zF,zG] at m;refine E ⟨m.sel [Z,Z,Z,X9,Z],?_⟩;refine eC (by simp only[zw];rfl) (bY (dV rfl rfl) (bO (jQ (by simp only[zw];rfl) ?_)));simp only[I];refine sK (ek:=pt) (en:=vB) (a:=t.b) (v:=(bS (yP [] (((bP (ts.take k))++[t.a]))) t.b).getD 0+1) m 3 O O O O D ?_;intro j u m f;simp only[zF,zG] at m;rw[<-wO] at f;refine E ⟨m.sel [Z,Z,Z,X9,Z],?_⟩;refine xR (gk ?_);exact av _ _ _ (by kernel_rfl) m ⟨_,_,O,O,f⟩
   refine Cj (ek:=pt) (en:=vB) (a:=t.b) (v0:=0) m 3 O qS mV eL O O f ?_;intro j q bs u m T D;simp only[zF,zG] at m;refine E ⟨m.sel [Z,Z,Z,X9,Z],?_⟩;refine eC (by simp only[zw];rfl) (bY (dV rfl rfl) (bO (jQ (by simp only[zw];rfl) ?_)));simp only[I];refine eB (dA (ek:=pt) (en:=vB) (k:=t.b) (v0:=0) qS mV eL O O (m.p 3 O) T) ?_;simp only[I];rw[kH,Z9 rfl,dt];refine E ⟨m.sel [Z,Z,Z,X9,Z],?_⟩;refine eC (by simp only[zw];rfl) (bY (fZ rfl rfl (cF (by omega) (by omega))) (bO (jQ (by simp only[zw];rfl) ?_)));simp only[I];refine sK (ek:=pt) (en:=vB) (a:=t.b) (v:=(bS (yP [] (((bP (ts.take k))++[t.a]))) t.b).getD 0+1) m 3 O O O O D ?_;intro j u m f;simp only[zF,zG] at m;rw[<-wO] at f;refine E ⟨m.sel [Z,Z,Z,X9,Z],?_⟩;refine xR (gk ?_);exact av _ _ _ (by kernel_rfl) m ⟨_,_,O,O,f⟩
  intro vs i wr m s u;obtain⟨j,q,rfl,rfl,f⟩:=s;simp only[zF,zG] at m;simp only[zu,zF,zG];apply S 18 [1,0] m;simp only[↓U,R];apply I0;omega;refine C (kA O O) ?_;apply iV 5 [0,0] m;simp only[↓U,cY,aN,aa];intro g6 u m;refine dQ m 13 aD (by kernel_rfl) ?_;simp only[zy];refine fE 4 [1] ?_;simp only[↓U,aN,R];apply I0;omega;refine L (cW (m:=3) (n:=3) (r:=0) O O (by decide) (by decide)) (fE 5 [4] ?_);simp only[↓U,l,aN,Oi,ag,ah,aa,R];apply I0;omega;refine L (cW (m:=4) (n:=3) (r:=1) O O (by decide) (by decide)) (fE 2 [4] ?_);simp only[↓U,l,aN,ag,ah,aa];apply I0;omega;refine bM ?_;intro u m;refine eP (ek:=ed) (en:=pt) (a:=(t.c,t.a)) (v:=t.b) m 5 O Og Fp O O O o ?_;intro P J u m o;simp only[zF,zG] at m;rw[<-tV] at o;refine E (gc ?_);refine kS m 4 [] [40,41,42,43,44,45] (λvs i=>∃(es:Array cu)(c:Nat),vs=[]/\i=mI q9 es c/\(bC pt vB (yP [] (((((((bP (ts.take k))++[t.a]))++[t.b]))++[t.c]))) es c)) ?_ ?_
  .intro K4 aw;refine Zg m [Z,Z,Z,Z,X9,Z] (.take 0 (.take 1 (.two 2 (.take 3 (.one 4 (.take 5 (.one 6 .nil)))) 4 (.take 5 (.one 2 (.take 3 (.one 6 .nil))))))) aD (by kernel_rfl) (bT (λ_ _ _ _ _ h=>h)) ?_;intro u m;have d:=Rw (((((bP (ts.take k))++[t.a]))++[t.b])) t.c;try simp only[bg,be,cd] at d
   refine eC (by simp only[zw];rfl) (bY aI (bO (eC (by simp only[zw];rfl) ?_)));simp only[I];refine mU O (λu m=>((m.b 0 O).full aF aA)) ?_;simp only[I];refine bO ?_;refine Po (by simp only[zw];rfl) (by simp only[zw];rfl) ?_ ?_
   .refine eB (dA (ek:=pt) (en:=vB) (k:=t.c) (v0:=0) qS mV eL O O (m.p 4 O) f) ?_;simp only[I];refine E ⟨m.sel [Z,Z,Z,Z,X9,Z],?_⟩;refine eC (by simp only[zw];rfl) (bY (fZ rfl rfl (cF (by omega) (by omega))) (bO (jQ (by simp only[zw];rfl) ?_)));simp only[I];refine Cj (ek:=pt) (en:=vB) (a:=t.c) (v0:=0) m 4 O qS mV eL O O f ?_;intro j q bs u m T D;simp only[zF,zG] at m;refine E ⟨m.sel [Z,Z,Z,Z,X9,Z],?_⟩;refine eC (by simp only[zw];rfl) (bY (dV rfl rfl) (bO (jQ (by simp only[zw];rfl) ?_)));simp only[I];refine sK (ek:=pt) (en:=vB) (a:=t.c) (v:=(bS (yP [] (((((bP (ts.take k))++[t.a]))++[t.b]))) t.c).getD 0+1) m 4 O O O O D ?_;intro j u m f;simp only[zF,zG] at m;rw[<-wO] at f;refine E ⟨m.sel [Z,Z,Z,Z,X9,Z],?_⟩;refine xR (gk ?_);exact aw _ _ _ (by kernel_rfl) m ⟨_,_,O,O,f⟩
   refine Cj (ek:=pt) (en:=vB) (a:=t.c) (v0:=0) m 4 O qS mV eL O O f ?_;intro j q bs u m T D;simp only[zF,zG] at m;refine E ⟨m.sel [Z,Z,Z,Z,X9,Z],?_⟩;refine eC (by simp only[zw];rfl) (bY (dV rfl rfl) (bO (jQ (by simp only[zw];rfl) ?_)));simp only[I];refine eB (dA (ek:=pt) (en:=vB) (k:=t.c) (v0:=0) qS mV eL O O (m.p 4 O) T) ?_;simp only[I];rw[kH,Z9 rfl,dt];refine E ⟨m.sel [Z,Z,Z,Z,X9,Z],?_⟩;refine eC (by simp only[zw];rfl) (bY (fZ rfl rfl (cF (by omega) (by omega))) (bO (jQ (by simp only[zw];rfl) ?_)));simp only[I];refine sK (ek:=pt) (en:=vB) (a:=t.c) (v:=(bS (yP [] (((((bP (ts.take k))++[t.a]))++[t.b]))) t.c).getD 0+1) m 4 O O O O D ?_;intro j u m f;simp only[zF,zG] at m;rw[<-wO] at f;refine E ⟨m.sel [Z,Z,Z,Z,X9,Z],?_⟩;refine xR (gk ?_);exact aw _ _ _ (by kernel_rfl) m ⟨_,_,O,O,f⟩
  intro vs i wr m s u;obtain⟨j,q,rfl,rfl,f⟩:=s;simp only[zF,zG] at m;simp only[zu,zF,zG];apply S 18 [2,0] m;simp only[↓U,R];apply I0;omega;exact aE (N-(k+1)) _ _ (by omega) (by kernel_rfl) ⟨k+1,_,_,_,_,O,(m.sel [X9,X9,X9,X9,Z,Z]),by rw[Ud ht];simpa[dm] using o,by rw[Tz ht];simpa[dm] using f,by omega,rfl⟩
 have aM:k=N:=by omega
 rw[aM,show ts.take N=ts from a_ (by rw[hT.len];exact ba _)] at o f;apply aG 5 [0] m;simp only[↓U];refine tE m Og O (m.p 1 O) ?_;intro r1 u m;apply aJ 2 [0] m;simp only[↓U];refine bU [] [2,9,10,11,12,13,50,51,52,53,54,55,56,57,58,59,60,61,62,63,64,65,66,67,68,69,70,71,72,73,74,75,76,77,78,79,80,81,82,83,84,85,86,87,88,89,90,91,92,93,94] (λn vs wl=>∃(W rs:List (E3×P3)) (sn:Array Nat),vs=[]/\Mem w wl [iI r1 q8 J sn,mI q9 j q,mI q8 P J]/\(lU ed pt (rD [] (kD ts)) P sn W rs)/\(∀y∈W,¬aby ts y.1)/\(n=rs.length)) ?_ ?_
 .exact⟨_,[],_,#[],rfl,m,lU.start o,λ_ h=>(by cases h),rfl⟩
 intro n vs wr s u K5 ax;obtain⟨W,rs,sn,rfl,m,ay,ap,hn⟩:=s;simp only[zu,zF,zG];apply aG 2 [0] m;simp only[↓U];refine Er m 0 O O (m.p 2 O) o ay ?_;intro bb kk vv sn u m hN;simp only[zF,zG] at m;refine C (nS O) ?_;apply aJ 2 [0] m;simp only[↓U];refine cQ O ?_ ?_<;>intro az
 .obtain⟨g,kb,al,hp,ad⟩:=Dd az hN;obtain⟨x,hx⟩:∃x,bS (rD [] (kD ts)) g=H x:=by
   cases h:bS (rD [] (kD ts)) g with
   |some x=>exact⟨x,rfl⟩
   |none=>
    refine Y0 ?_ (kW.1 h);have h1:=ad.1.mem_iff (a:=(g,kb));exact List.mem_map.2 ⟨_,h1.1 (by simp),O⟩
  have af:bD ts g.1 g.2=H x:=by rw[<-Ah ak];exact hx
  obtain⟨M,X⟩:∃M,M=rF (bP ts) g.1:=⟨_,rfl⟩
  have Y:(bS (yP [] (bP ts)) g.1).getD 0=M:=by rw[adO,X]
  have aX:M<=30000000:=by have h1:=Rw (bP ts) g.1;rw[Y,aay,hT.len] at h1;omega
  apply aG 4 [0] m;simp only[↓U];refine eB (pY O (m.r 0 O) (m.p 2 O) o ad) ?_;simp only[I];apply iV 12 [0,1,0] m;simp only[↓U,Fi,xH,aa];intro g4 u m;refine eB (dA (ek:=ed) (en:=pt) (k:=g) (v0:=⟨0,0,0⟩) Og eH Fp O O (m.p 3 O) o) ?_;simp only[I];apply iV 3 [0] m;simp only[↓U,cY,aN,aa];intro g5 u m;rw[hx] at m;simp only[dt] at m;apply S 2 [0] m;simp only[↓U];refine bU [10] [12,13,57,58,59,60,61,62,63,64,65,66,67,68,69,70,71,72,73,74,75,76,77,78,79,80,81,82] (λn vs wl=>∃(z:Nat)(a:P3),vs=[G (z:Int)]/\Mem w wl [bI g5 (pI a) 30,bI g4 (bG g) 215,iI r1 q8 J sn,mI q9 j q,mI q8 P J]/\(Ev (bD ts g.1) g.2 M x 1=Ev (bD ts g.1) g.2 (M+1-z) a z)/\(1<=z)/\(z<=M+1)/\(n=M+1-z)) ?_ ?_
  .exact⟨_,1,x,O,m,O,ba _,by omega,O⟩
  intro n vs wr s u K6 aK;obtain⟨z,a,rfl,m,ar,a1,aV,a0⟩:=s;simp only[zu,zF,zG];apply aG 8 [1,2,0] m;simp only[↓U,aN,Fj,aa];refine⟨_,lO,?_⟩;refine fS O (λd=>aI) (fS O (λd=>aI) (fS O (λd=>aY (c:=2) wX O aA O O) ?_));simp only[I];refine eN O (λd=>bE (B d O) ((m.b 1 O).lies aF aA O O)) ?_;simp only[I,zy,aj,aa,ah,ag];refine eN O (λd=>dA (ek:=pt) (en:=vB) (k:=g.1) (v0:=0) qS mV eL (B d O) (B d O) (m.p 3 O) f) ?_;simp only[I];refine fS O (λd=>Hr (B d O) (B d O)) (C (dR O O O) ?_);apply aJ 1 [0] m;simp only[↓U];refine cQ O ?_ ?_<;>intro ae
  .have F:¬a=g.2/\z<=M:=by rw[Y] at ae;simpa[atL] using ae
   apply aG 9 [2,1,0] m;simp only[↓U,Vn,aN,Oi,aa];refine eB (wM (ek:=ed) (en:=pt) (k:=(g.1,a)) (v0:=⟨0,0,0⟩) Og eH Fp O O (m.p 4 O) o) ?_;simp only[I];apply iV 13 [0,0] m;simp only[↓U,cY,aN,aa];intro g6 u m;refine cQ O ?_ ?_<;>intro am
   .have aS:bD ts g.1 a=G0:=by rw[<-Ah ak];simpa using am
    have ab:=ar.trans (ap2 aS);apply aG 8 [2,3,0] m;simp only[↓U,aN,Fj,aa];refine⟨_,fH,?_⟩;refine fS O (λd=>aI) (fS O (λd=>aI) (fS O (λd=>aY (c:=2) wX O aA O O) ?_));simp only[I];refine eN O (λd=>bE (B d O) ((m.b 2 O).lies aF aA O O)) ?_;simp only[I,zy,aj,aa,ah,ag];refine eN O (λd=>dA (ek:=pt) (en:=vB) (k:=g.1) (v0:=0) qS mV eL (B d O) (B d O) (m.p 4 O) f) ?_;simp only[I];refine fS O (λd=>Cx (B d O) (B d O)) (C (dR O O O) ?_);apply aJ 1 [0] m;simp only[↓U];refine cQ O ?_ ?_<;>intro Q
    .have F:a=g.2/\z<M:=by rw[Y] at Q;simpa[<-gZ] using Q
     apply aG 5 [] m;simp only[↓U];refine aU O O ?_;try simp only[zD,zE]
     exact⟨_,O,m.ext,by have hp:aby ts g:=⟨x,af,by rw[fb,<-X,ab];exact F.1,by rw[fb,<-X,ab];exact F.2⟩;rw[pinned.2 ⟨g,hp⟩]⟩
    have F:¬(a=g.2/\z<M):=by rw[Y] at Q;simpa[<-gZ] using Q
    have aq:∀y∈W++[(g,kb)],¬aby ts y.1:=λy hy=>by
     rcases bv.1 hy with hy|hy
     .exact ap y hy
     obtain rfl:=bp.1 hy;rintro⟨x2,h1,h2,h3⟩;obtain rfl:x=x2:=fq (af.symm.trans h1);rw[fb,<-X,ab] at h2 h3;exact F ⟨h2,h3⟩
    apply aG 2 [0] m;simp only[↓U];exact ax al.length _ _ (by rw[hn,hp.length_eq];exact fu _) (by kernel_rfl) ⟨W++[(g,kb)],al,_,O,(m.sel [X9,X9,X9,Z,Z,Z]),ad,aq,O⟩
   obtain⟨y,hy⟩:∃y,bS (rD [] (kD ts)) (g.1,a)=H y:=by
    cases h:bS (rD [] (kD ts)) (g.1,a) with
    |some y=>exact⟨y,rfl⟩
    |none=>rw[h] at am;cases am
   have aP:bD ts g.1 a=H y:=by rw[<-Ah ak];exact hy
   rw[hy] at m;simp only[dt] at m;apply sO 12 [1,1,0] m;simp only[↓U,aN,aa];apply I0;omega;intro u m;exact aK (M+1-(z+1)) _ _ (by omega) (by kernel_rfl) ⟨z+1,y,O,(m.sel [X9,Z,Z,Z,Z,Z]),by rw[ar,show M+1-z=(M+1-(z+1))+1 by omega,atJ F.1 aP],by omega,by omega,O⟩
  have aO:a=g.2\/¬z<=M:=by rw[Y] at ae;exact amR ae
  have ab:=ar.trans (atK aV aO);apply aG 8 [1,2,0] m;simp only[↓U,aN,Fj,aa];refine⟨_,fH,?_⟩;refine fS O (λd=>aI) (fS O (λd=>aI) (fS O (λd=>aY (c:=2) wX O aA O O) ?_));simp only[I];refine eN O (λd=>bE (B d O) ((m.b 1 O).lies aF aA O O)) ?_;simp only[I,zy,aj,aa,ah,ag];refine eN O (λd=>dA (ek:=pt) (en:=vB) (k:=g.1) (v0:=0) qS mV eL (B d O) (B d O) (m.p 3 O) f) ?_;simp only[I];refine fS O (λd=>Cx (B d O) (B d O)) (C (dR O O O) ?_);apply aJ 1 [0] m;simp only[↓U];refine cQ O ?_ ?_<;>intro Q
  .have F:a=g.2/\z<M:=by rw[Y] at Q;simpa[<-gZ] using Q
   apply aG 5 [] m;simp only[↓U];refine aU O O ?_;try simp only[zD,zE]
   exact⟨_,O,m.ext,by have hp:aby ts g:=⟨x,af,by rw[fb,<-X,ab];exact F.1,by rw[fb,<-X,ab];exact F.2⟩;rw[pinned.2 ⟨g,hp⟩]⟩
  have F:¬(a=g.2/\z<M):=by rw[Y] at Q;simpa[<-gZ] using Q
  have aq:∀y∈W++[(g,kb)],¬aby ts y.1:=λy hy=>by
   rcases bv.1 hy with hy|hy
   .exact ap y hy
   obtain rfl:=bp.1 hy;rintro⟨x2,h1,h2,h3⟩;obtain rfl:x=x2:=fq (af.symm.trans h1);rw[fb,<-X,ab] at h2 h3;exact F ⟨h2,h3⟩
  apply aG 2 [0] m;simp only[↓U];exact ax al.length _ _ (by rw[hn,hp.length_eq];exact fu _) (by kernel_rfl) ⟨W++[(g,kb)],al,_,O,(m.sel [X9,X9,Z,Z,Z]),ad,aq,O⟩
 obtain rfl:=Db az hN;apply aG 6 [] m;simp only[↓U];refine aU O O ?_;try simp only[zD,zE]
 exact⟨_,rfl,m.ext,by cases h:(cR ts).any (Kx ts) with|false=>rfl|true=>(obtain⟨e,he⟩:=pinned.1 h;exact Y0 he (amS ay ak ap e))⟩
def ap3(h:¬(aR ts).Nodup):(aR ts).any (λe=>decide (1<kG (aR ts) e))=Z:=by rw[Lf];exact Y5 h
def amT(h:(aR ts).Nodup):(aR ts).any (λe=>decide (1<kG (aR ts) e))=X9:=by rw[Lf];exact Y6 λk=>k h
def amU(w:an)(d:cN w A N ts)(f:N<=10000000):dF G1 97 [.slice A N cap,.bool Z] w (λv _=>v=G (cD Z ts)):=by
 refine⟨bK func97 (by kernel_rfl),?_⟩;have m:=Mem.refl w
 go_enter func97,ntmps97
 apply fD 12 [0] m;simp only[↓U,jL];refine bU [11] [4,6,12,13,14,15,16,17,18,19,20,21,22,23,24,25,26,27,28,29,30,31,32,33,34] (λn vs s=>∃(k:Nat),vs=[G (k:Int)]/\Mem w s []/\((ts.take k).any sY=X9)/\(k<=N)/\(n=N-k)) ?_ ?_
 .exact⟨_,0,O,m,O,bu _,O⟩
 intro n vs wr q u C x;obtain⟨k,rfl,m,b,I,J⟩:=q;simp only[zu,zF,zG];apply aG 5 [0,0] m;simp only[↓U];refine bB O ?_ ?_<;>intro M
 .obtain⟨t,g,_,a,rfl,B⟩:=d.get (i:=k) (by omega);apply sO 19 [0,1,0,1,1,6,1,1] m;simp only[↓U,eO,mH,fJ,l,aN,ai,aj,aa,ag,ah];refine⟨_,λu m=>((B.ext m.ext).lies dG bA),λF=>⟨_,fH,_,fH,λ_=>⟨by omega,?_⟩⟩⟩;intro u m;apply S 3 [6,1,1,0] m;simp only[↓U,l,aN,ag,ah,aa];refine⟨_,fH,λ_=>⟨by omega,?_⟩⟩;refine lL O ?_ ?_<;>intro h
  .have r:=xS (p:=sY) g (aba.symm.trans h);apply aG 5 [] m;simp only[↓U];refine aU O O ?_;try simp only[zD,zE]
   exact⟨_,O,m.ext,by rw[ahl r]⟩
  have y:(ts.take (k+1)).any sY=X9:=by rw[pL g,b,<-aba];exact h
  apply aG 6 [0] m;simp only[↓U];apply I0;omega;exact x (N-(k+1)) _ _ (by omega) (by kernel_rfl) ⟨k+1,O,(m.sel [X9]),y,by omega,O⟩
 have z:k=N:=by omega
 rw[z,show ts.take N=ts from a_ (by rw[d.len];exact ba _)] at b;apply aG 4 [0] m;simp only[↓U];refine aX O O (Vw _ (d.ext m.ext) f) ?_;rintro v u E ⟨H,K,D,rfl,e,L⟩;replace m:=m.plus e;clear e;simp only[de,cl] at m;apply aJ 14 [0] m;simp only[↓U];refine cQ O ?_ ?_<;>intro j
 .have c:¬(aR ts).Nodup:=by simpa using j
  apply aG 5 [] m;simp only[↓U];refine aU O O ?_;try simp only[zD,zE]
  exact⟨_,O,m.ext,by rw[ahm b (ap3 c)]⟩
 have c:(aR ts).Nodup:=by simpa using j
 apply aG 16 [0,0,0,0,0] m;simp only[↓U,jq,km];refine cC m O O (afU _ (d.ext m.ext) f c) ?_;rintro v u m rfl;apply aJ 2 [0] m;simp only[↓U];refine cQ O ?_ ?_<;>intro o
 .apply aG 5 [] m;simp only[↓U];refine aU O O ?_;try simp only[zD,zE]
  exact⟨_,O,m.ext,by rw[ahn b (amT c) O o]⟩
 apply aG 7 [] m;simp only[↓U];refine aU O O ?_;try simp only[zD,zE]
 exact⟨_,O,m.ext,by rw[amy b (amT c) O o]⟩
def Ck(w:an)(b:cN w A N ts)(a:N<=10000000):dF G1 49 [.slice A N cap] w (λv _=>v=G (cD Z ts)):=by
 refine⟨bK func49 (by kernel_rfl),?_⟩;have m:=Mem.refl w
 go_enter func49,ntmps49
 apply fD 7 [0] m;simp only[↓U];refine cC m O O (amU _ (b.ext m.ext) a) ?_;rintro v u m rfl;apply aJ 3 [] m;simp only[↓U];exact aU O O ⟨_,O,m.ext,O⟩
def atN(h1:t.b.Lt t.a)(h2:t.c.Lt t.b):F t=⟨t.c,t.a,t.b⟩:=Z9 ⟨P3.lt_trans h2 h1,.inl h2⟩
def atP(h1:t.b.Lt t.a)(h2:¬t.c.Lt t.b):F t=⟨t.b,t.c,t.a⟩:=by rw[F,K0 (λh=>h.2.elim h2 λk=>k h1),Z9 h1]
def atQ(h1:¬t.b.Lt t.a)(h2:t.c.Lt t.a):F t=⟨t.c,t.a,t.b⟩:=Z9 ⟨h2,.inr h1⟩
def atT(h1:¬t.b.Lt t.a)(h2:¬t.c.Lt t.a):F t=t:=by rw[F,K0 (λh=>h2 h.1),K0 h1]
def On  : eS G1 111 [tr t] (tr (F t)):=by
 intro w;refine⟨bK func111 (by kernel_rfl),?_⟩;have m:=Mem.refl w
 go_enter func111,ntmps111
 apply kX 28 [3,1,0] m;simp only[↓U,mH];intro c d;apply I0;omega;intro u m;refine mq m aD (by kernel_rfl) (fE 6 [2,2] ?_);simp only[↓U,l,aN,ag,ah,aa];apply I0;omega;refine jF O O uD.pure (bM ?_);intro u m;refine gc ?_;simp only[I];refine bB O ?_ ?_<;>intro a
 .have h1:=a;apply aG 22 [1,0] m;simp only[↓U,R];apply I0;omega;refine mq m aD (by kernel_rfl) (fE 6 [2,2] ?_);simp only[↓U,l,aN,ag,ah,aa];apply I0;omega;refine jF O O uD.pure (bM ?_);intro u m;refine gc ?_;simp only[I];refine bB O ?_ ?_<;>intro a
  .have h2:=a;apply aG 20 [2,0] m;simp only[↓U,R];apply I0;omega;refine dQ m 14 aD (by kernel_rfl) ?_;simp only[zy];refine fE 5 [2] ?_;simp only[↓U,l,aN,ag,ah,aa,R];apply I0;omega;refine L (cW (m:=3) (n:=3) (r:=0) O O (by decide) (by decide)) (fE 4 [2] ?_);simp only[↓U,l,aN,ag,ah,aa,R];apply I0;omega;refine L (cW (m:=4) (n:=3) (r:=1) O O (by decide) (by decide)) (fE 3 [2] ?_);simp only[↓U,l,aN,nU,ag,ah,aa];apply I0;omega;refine bM ?_;intro u m;refine cB m 0 O O O bA (X O) O ?_;intro u m;simp only[zy,zx,bR,zF,zG,aa] at m;refine E ?_;apply S 1 [] m;simp only[↓U];refine aU O ⟨_,O,((m.b 0 O).full dG bA)⟩ ?_;try simp only[zD,zE]
   exact⟨_,O,m.ext,by rw[atN h1 h2];rfl⟩
  have h2:=a;apply aG 17 [2,0] m;simp only[↓U,R];apply I0;omega;refine dQ m 14 aD (by kernel_rfl) ?_;simp only[zy];refine fE 5 [2] ?_;simp only[↓U,l,aN,ag,ah,aa,R];apply I0;omega;refine L (cW (m:=2) (n:=3) (r:=2) O O (by decide) (by decide)) (fE 4 [2] ?_);simp only[↓U,l,aN,ag,ah,aa,R];apply I0;omega;refine L (cW (m:=3) (n:=3) (r:=0) O O (by decide) (by decide)) (fE 3 [2] ?_);simp only[↓U,l,aN,nU,ag,ah,aa];apply I0;omega;refine bM ?_;intro u m;refine cB m 0 O O O bA (X O) O ?_;intro u m;simp only[zy,zx,bR,zF,zG,aa] at m;refine E ?_;apply S 1 [] m;simp only[↓U];refine aU O ⟨_,O,((m.b 0 O).full dG bA)⟩ ?_;try simp only[zD,zE]
  exact⟨_,O,m.ext,by rw[atP h1 h2];rfl⟩
 have h1:=a;apply aG 19 [1,0] m;simp only[↓U,R];apply I0;omega;refine mq m aD (by kernel_rfl) (fE 6 [2,2] ?_);simp only[↓U,l,aN,ag,ah,aa];apply I0;omega;refine jF O O uD.pure (bM ?_);intro u m;refine gc ?_;simp only[I];refine bB O ?_ ?_<;>intro a
 .have h2:=a;apply aG 20 [2,0] m;simp only[↓U,R];apply I0;omega;refine dQ m 14 aD (by kernel_rfl) ?_;simp only[zy];refine fE 5 [2] ?_;simp only[↓U,l,aN,ag,ah,aa,R];apply I0;omega;refine L (cW (m:=3) (n:=3) (r:=0) O O (by decide) (by decide)) (fE 4 [2] ?_);simp only[↓U,l,aN,ag,ah,aa,R];apply I0;omega;refine L (cW (m:=4) (n:=3) (r:=1) O O (by decide) (by decide)) (fE 3 [2] ?_);simp only[↓U,l,aN,nU,ag,ah,aa];apply I0;omega;refine bM ?_;intro u m;refine cB m 0 O O O bA (X O) O ?_;intro u m;simp only[zy,zx,bR,zF,zG,aa] at m;refine E ?_;apply S 1 [] m;simp only[↓U];refine aU O ⟨_,O,((m.b 0 O).full dG bA)⟩ ?_;try simp only[zD,zE]
  exact⟨_,O,m.ext,by rw[atQ h1 h2];rfl⟩
 have h2:=a;apply aG 17 [2,0] m;simp only[↓U,R];apply I0;omega;refine dQ m 14 aD (by kernel_rfl) ?_;simp only[zy];refine fE 5 [2] ?_;simp only[↓U,l,aN,ag,ah,aa,R];apply I0;omega;refine L (cW (m:=1) (n:=3) (r:=1) O O (by decide) (by decide)) (fE 4 [2] ?_);simp only[↓U,l,aN,ag,ah,aa,R];apply I0;omega;refine L (cW (m:=2) (n:=3) (r:=2) O O (by decide) (by decide)) (fE 3 [2] ?_);simp only[↓U,l,aN,nU,ag,ah,aa];apply I0;omega;refine bM ?_;intro u m;refine cB m 0 O O O bA (X O) O ?_;intro u m;simp only[zy,zx,bR,zF,zG,aa] at m;refine E ?_;apply S 1 [] m;simp only[↓U];refine aU O ⟨_,O,((m.b 0 O).full dG bA)⟩ ?_;try simp only[zD,zE]
 exact⟨_,O,m.ext,by rw[atT h1 h2];rfl⟩
def Jp(w:an)(f:cN w A N ts)(S:N<=300000):dF G1 57 [.slice A N cap] w (OR 30 3 (λxs=>∃ps:List P3,xs=ps.flatMap gA/\tL ps/\∀a,a∈ps↔a∈bP ts) w):=by
 refine⟨bK func57 (by kernel_rfl),?_⟩;have m:=Mem.refl w
 go_enter func57,ntmps57
 apply fD 6 [0] m;simp only[↓U];refine iB m ?_;intro x u m;have d:=bC.nil (K:=P3) (V:=Bool) pt bj;apply aJ 10 [0] m;simp only[↓U,jL];refine bU [11] [5,7,12,13,14,15,16,17,18,19,20,21,22,23] (λn vs y=>∃(k:Nat)(es:Array cu)(c:Nat),vs=[G (k:Int)]/\Mem w y [mI x es c]/\(bC pt bj (Et [] (bP (ts.take k))) es c)/\(k<=N)/\(n=N-k)) ?_ ?_
 .exact⟨_,0,_,_,O,m,d,bu _,O⟩
 intro n vs wr q u H z;obtain⟨k,es,c,rfl,m,d,T,W⟩:=q;simp only[zu,zF,zG];apply aG 5 [0,0] m;simp only[↓U];refine bB O ?_ ?_<;>intro Y
 .obtain⟨t,s,_,a,rfl,E⟩:=f.get (i:=k) (by omega);apply sO 29 [0,1,0,1,4,1,0] m;simp only[↓U,eO,mH,fJ,ai,aj,aa];refine⟨_,λu m=>(((E.ext m.ext)).lies dG bA),λJ=>⟨by omega,?_⟩⟩;intro u m;refine C (jY O O) ?_;apply iV 6 [0,1,0] m;simp only[↓U,cY,aN,aa];intro L u m;refine nK m 2 ae0 O O (λm=>afR (p:=t.a) m 2 O d) ?_;rintro v i u m ⟨rfl,h,g,rfl,e⟩;simp only[zF,zG] at m;simp only[I];clear d;have d:=e;clear e;apply aJ 18 [1,0] m;simp only[↓U,R];apply I0;omega;refine C (jZ O O) ?_;apply iV 6 [0,1,0] m;simp only[↓U,cY,aN,aa];intro M u m;refine nK m 3 ae0 O O (λm=>afR (p:=t.b) m 3 O d) ?_;rintro v i u m ⟨rfl,h,g,rfl,e⟩;simp only[zF,zG] at m;simp only[I];clear d;have d:=e;clear e;apply aJ 18 [1,0] m;simp only[↓U,R];apply I0;omega;refine C (kA O O) ?_;apply iV 6 [0,1,0] m;simp only[↓U,cY,aN,aa];intro P u m;refine nK m 4 ae0 O O (λm=>afR (p:=t.c) m 4 O d) ?_;rintro v i u m ⟨rfl,h,g,rfl,e⟩;simp only[zF,zG] at m;simp only[I];clear d;have d:=e;clear e;apply aJ 19 [2,0] m;simp only[↓U,R];apply I0;omega;exact z (N-(k+1)) _ _ (by omega) (by kernel_rfl) ⟨k+1,_,_,O,(m.sel [X9,X9,X9,X9,Z]),by rw[afk s];exact d,by omega,O⟩
 have B:k=N:=by omega
 rw[B,show ts.take N=ts from a_ (by rw[f.len];exact ba _)] at d;apply aG 4 [0] m;simp only[↓U];refine aX O O (ai7 _ (m.p 0 O) d (by have h1:=Ld (bP ts) [];have h2:=wE ts;have Q:=f.len;simp only[cd] at h1;omega)) ?_;rintro v u l ⟨F,X,ab,_,rfl,r,ps,rfl,j,D⟩;replace m:=m.newO l r;apply aJ 3 [] m;simp only[↓U];exact aU O O ⟨_,O,m.ext,_,_,_,_,O,(m.o 0 O),ps,O,aiN (j.nodup_iff.2 (Pw _ _ .nil)) D,λa=>by rw[j.mem_iff,aaa];simp⟩
def pV:rX G1 56 ed:=by
 refine rX.agg (cs:=λp=>#[G p.1.x,G p.1.y,G p.1.z,G p.2.x,G p.2.y,G p.2.z]) (λ_=>rfl) Tm (λe p=>?_) (λp q=>?_) (λp=>?_)
 .refine tF.array (d:=9999) Tm aA λi b=>?_;obtain rfl|rfl:=(by omega:i=0\/i=1)
  .refine⟨_,dD aF aA O,?_⟩;refine tF.struct (d:=9998) lQ λf a=>?_;simp only[av,bw,Y3] at a;rcases a with rfl|rfl|rfl
   .exact⟨_,cL bJ O,tF.int (d:=9997) fV⟩
   .exact⟨_,cL bJ O,tF.int (d:=9997) fV⟩
   exact⟨_,cL bJ O,tF.int (d:=9997) fV⟩
  refine⟨_,dD aF aA O,?_⟩;refine tF.struct (d:=9998) lQ λf a=>?_;simp only[av,bw,Y3] at a;rcases a with rfl|rfl|rfl
  .exact⟨_,cL bJ O,tF.int (d:=9997) fV⟩
  .exact⟨_,cL bJ O,tF.int (d:=9997) fV⟩
  exact⟨_,cL bJ O,tF.int (d:=9997) fV⟩
 .exact (afa _).iff ⟨λh=>pv (P3.eq h.1 h.2.1 h.2.2.1) (P3.eq h.2.2.2.1 h.2.2.2.2.1 h.2.2.2.2.2),λh=>by subst h;simp only[X7]⟩
 simp[ed,Instr.sameBits]
def Vy(w:an)(h:cN w A N ts)(L:N<=10000000):dF G1 153 [.slice A N cap] w (λv w'=>∃g es c,v=.map (H g)/\Mem w w' [mI g es c]/\bC ed bj (eE [] (pA ts)) es c):=by
 refine⟨bK func153 (by kernel_rfl),?_⟩;have m:=Mem.refl w
 go_enter func153,ntmps153
 apply fD 6 [0] m;simp only[↓U];refine iB m ?_;intro o u m;have d:=bC.nil (K:=E3) (V:=Bool) ed bj;apply aJ 10 [0] m;simp only[↓U,jL];refine bU [13] [5,7,9,14,15,16,17,18,19,20,21,22,23,24,25,26,27,28,29,30,31] (λn vs p=>∃(k:Nat)(es:Array cu)(c:Nat),vs=[G (k:Int)]/\Mem w p [mI o es c]/\(bC ed bj (eE [] (pA (ts.take k))) es c)/\(k<=N)/\(n=N-k)) ?_ ?_
 .exact⟨_,0,_,_,O,m,d,bu _,O⟩
 intro n vs wr j u x q;obtain⟨k,f,e,rfl,m,d,M,P⟩:=j;simp only[zu,zF,zG];apply aG 5 [0,0] m;simp only[↓U];refine bB O ?_ ?_<;>intro Y
 .obtain⟨t,l,_,a,rfl,s⟩:=h.get (i:=k) (by omega);apply sO 29 [0,1,0,1,4,1,0] m;simp only[↓U,eO,mH,fJ,ai,aj,aa];refine⟨_,λu m=>((s.ext m.ext).lies dG bA),λy=>⟨by omega,?_⟩⟩;intro u m;refine C (jY O O) ?_;apply iV 22 [0,2,4,1,0] m;simp only[↓U,cY,aN,fJ,aa];intro z;apply I0;omega;intro u m;refine C (jY O O) ?_;apply iV 8 [0,2,1,0] m;simp only[↓U,cY,aN,pU,aa];intro B u m;refine eP (ek:=ed) (en:=bj) (a:=(t.a,t.a)) (v:=Z) m 3 O tU pV O O O d ?_;intro f e u m d;simp only[zF,zG] at m;apply aJ 18 [1,0] m;simp only[↓U,R];apply I0;omega;refine C (jZ O O) ?_;apply iV 8 [0,3,1,0] m;simp only[↓U,cY,aN,pU,aa];intro D u m;refine eP (ek:=ed) (en:=bj) (a:=(t.a,t.b)) (v:=Z) m 4 O tU pV O O O d ?_;intro f e u m d;simp only[zF,zG] at m;apply aJ 18 [1,0] m;simp only[↓U,R];apply I0;omega;refine C (kA O O) ?_;apply iV 8 [0,4,1,0] m;simp only[↓U,cY,aN,pU,aa];intro E u m;refine eP (ek:=ed) (en:=bj) (a:=(t.a,t.c)) (v:=Z) m 5 O tU pV O O O d ?_;intro f e u m d;simp only[zF,zG] at m;apply aJ 31 [2,1,0] m;simp only[↓U,R];apply I0;omega;refine C (jZ O O) ?_;apply iV 22 [0,6,4,1,0] m;simp only[↓U,cY,aN,fJ,aa];intro F;apply I0;omega;intro u m;refine C (jY O O) ?_;apply iV 8 [0,2,1,0] m;simp only[↓U,cY,aN,pU,aa];intro I u m;refine eP (ek:=ed) (en:=bj) (a:=(t.b,t.a)) (v:=Z) m 7 O tU pV O O O d ?_;intro f e u m d;simp only[zF,zG] at m;apply aJ 18 [1,0] m;simp only[↓U,R];apply I0;omega;refine C (jZ O O) ?_;apply iV 8 [0,3,1,0] m;simp only[↓U,cY,aN,pU,aa];intro J u m;refine eP (ek:=ed) (en:=bj) (a:=(t.b,t.b)) (v:=Z) m 8 O tU pV O O O d ?_;intro f e u m d;simp only[zF,zG] at m;apply aJ 18 [1,0] m;simp only[↓U,R];apply I0;omega;refine C (kA O O) ?_;apply iV 8 [0,4,1,0] m;simp only[↓U,cY,aN,pU,aa];intro Q u m;refine eP (ek:=ed) (en:=bj) (a:=(t.b,t.c)) (v:=Z) m 9 O tU pV O O O d ?_;intro f e u m d;simp only[zF,zG] at m;apply aJ 31 [2,1,0] m;simp only[↓U,R];apply I0;omega;refine C (kA O O) ?_;apply iV 22 [0,10,4,1,0] m;simp only[↓U,cY,aN,fJ,aa];intro S;apply I0;omega;intro u m;refine C (jY O O) ?_;apply iV 8 [0,2,1,0] m;simp only[↓U,cY,aN,pU,aa];intro T u m;refine eP (ek:=ed) (en:=bj) (a:=(t.c,t.a)) (v:=Z) m 11 O tU pV O O O d ?_;intro f e u m d;simp only[zF,zG] at m;apply aJ 18 [1,0] m;simp only[↓U,R];apply I0;omega;refine C (jZ O O) ?_;apply iV 8 [0,3,1,0] m;simp only[↓U,cY,aN,pU,aa];intro W u m;refine eP (ek:=ed) (en:=bj) (a:=(t.c,t.b)) (v:=Z) m 12 O tU pV O O O d ?_;intro f e u m d;simp only[zF,zG] at m;apply aJ 18 [1,0] m;simp only[↓U,R];apply I0;omega;refine C (kA O O) ?_;apply iV 8 [0,4,1,0] m;simp only[↓U,cY,aN,pU,aa];intro X u m;refine eP (ek:=ed) (en:=bj) (a:=(t.c,t.c)) (v:=Z) m 13 O tU pV O O O d ?_;intro f e u m d;simp only[zF,zG] at m;apply aJ 32 [2,2,0] m;simp only[↓U,R];apply I0;omega;exact q (N-(k+1)) _ _ (by omega) (by kernel_rfl) ⟨k+1,_,_,O,(m.sel [X9,X9,X9,X9,X9,X9,X9,X9,X9,X9,X9,X9,X9,Z]),by rw[afp l,adg];exact d,by omega,O⟩
 have r:k=N:=by omega
 rw[r,show ts.take N=ts from a_ (by rw[h.len];exact ba _)] at d;apply aG 7 [] m;simp only[↓U];exact aU O O ⟨_,O,m.ext,_,_,_,O,m,d⟩
def amV{ps:List P3}(w:an)(d:pH pI 3 w A N ps)(y:N<=9223372036854775807):dF G1 154 [.slice A N cap] w (λv w'=>∃g es c,v=.map (H g)/\Mem w w' [mI g es c]/\bC pt bj (eE [] ps) es c):=by
 refine⟨bK func154 (by kernel_rfl),?_⟩;have m:=Mem.refl w
 go_enter func154,ntmps154
 apply fD 6 [0] m;simp only[↓U];refine iB m ?_;intro j u m;have b:=bC.nil (K:=P3) (V:=Bool) pt bj;apply aJ 10 [0] m;simp only[↓U,xE];refine bU [9] [5,10,11,12,13,14,15] (λn vs l=>∃(k:Nat)(es:Array cu)(c:Nat),vs=[G (k:Int)]/\Mem w l [mI j es c]/\(bC pt bj (eE [] (ps.take k)) es c)/\(k<=N)/\(n=N-k)) ?_ ?_
 .exact⟨_,0,_,_,O,m,b,bu _,O⟩
 intro n vs wr f u s p;obtain⟨k,o,e,rfl,m,b,z,B⟩:=f;simp only[zu,zF,zG];apply aG 5 [0,0] m;simp only[↓U];refine bB O ?_ ?_<;>intro C
 .obtain⟨x,h,a,rfl,r⟩:=d.get (i:=k) (by omega);apply sO 13 [0,0,0,1,0] m;simp only[↓U,Aq,cY,aN,ai,aj,aa];refine⟨_,λu m=>((r.ext m.ext).lies aF aA),λt=>⟨by omega,?_⟩⟩;intro u m;refine eP (ek:=pt) (en:=bj) (a:=x) (v:=Z) m 1 O gN eL O O O b ?_;intro o e u m b;simp only[zF,zG] at m;apply aJ 6 [0] m;simp only[↓U];apply I0;omega;exact p (N-(k+1)) _ _ (by omega) (by kernel_rfl) ⟨k+1,_,_,O,(m.sel [X9,Z]),by rw[bV h,jM];exact b,by omega,O⟩
 have q:k=N:=by omega
 rw[q,show ps.take N=ps from a_ (by rw[d.len];exact ba _)] at b;apply aG 7 [] m;simp only[↓U];exact aU O O ⟨_,O,m.ext,_,_,_,O,m,b⟩
def ajc{rim:List E3}{k:Nat}{e:E3}(h:rim[k]? = H e):If ts (rim.take (k+1))=If ts (rim.take k)++[(e,tQ ts e.1 ts.length e.2)]:=by
 rw[bV h];simp[If]
def amW{rim:List E3}{J:Option Addr}(w:an)(X:cN w A N ts)(hN:N<=10000000)(W:pH bG 6 w J M rim)(hM:M<=100000000)(al:nE ts)(F:(aR ts).Nodup)(aw:∀e∈rim,(e.2,e.1)∉aR ts):dF G1 152 [.slice A N cap,.slice J M cap2] w (λv w'=>∃g es c,v=.map (H g)/\Mem w w' [mI g es c]/\bC ed pt (rD [] (If ts rim)) es c):=by
 refine⟨bK func152 (by kernel_rfl),?_⟩;have m:=Mem.refl w
 go_enter func152,ntmps152
 apply fD 6 [0] m;simp only[↓U];refine iB m ?_;intro x u m;have d:=bC.nil (K:=E3) (V:=P3) ed pt;apply aJ 10 [0] m;simp only[↓U,jL];refine bU [19] [7,8,9,20,21,22,23,24,25,26,27,28,29,30,31,32,33,34,35,36,37,38,39,40,41,42] (λn vs q=>∃(k:Nat)(es:Array cu)(c:Nat),vs=[G (k:Int)]/\Mem w q [mI x es c]/\(bC ed pt (rD [] (kD (ts.take k))) es c)/\(k<=N)/\(n=N-k)) ?_ ?_
 .exact⟨_,0,_,_,O,m,d,bu _,O⟩
 intro n vs wr o u K1 ae;obtain⟨k,s,j,rfl,m,d,hk,hn⟩:=o;simp only[zu,zF,zG];apply aG 5 [0,0] m;simp only[↓U];refine bB O ?_ ?_<;>intro az
 .obtain⟨t,ht,_,a,rfl,ax⟩:=X.get (i:=k) (by omega);apply sO 16 [0,1,0,1] m;simp only[↓U,eO,mH,fJ,ai,aj,aa];refine⟨_,λu m=>((ax.ext m.ext).lies dG bA),λg2=>⟨by omega,?_⟩⟩;intro u m;apply S 14 [4,1,0] m;simp only[↓U];apply I0;omega;refine C (jY O O) ?_;apply iV 4 [0,0] m;simp only[↓U,cY,aN,aa];intro Q u m;refine dQ m 13 aD (by kernel_rfl) ?_;simp only[zy];refine fE 4 [1] ?_;simp only[↓U,aN,R];apply I0;omega;refine L (cW (m:=1) (n:=3) (r:=1) O O (by decide) (by decide)) (fE 5 [2] ?_);simp only[↓U,l,aN,pU,ag,ah,aa,R];apply I0;omega;refine L (cW (m:=2) (n:=3) (r:=2) O O (by decide) (by decide)) (fE 2 [2] ?_);simp only[↓U,l,aN,ag,ah,aa];apply I0;omega;refine bM ?_;intro u m;refine eP (ek:=ed) (en:=pt) (a:=(t.a,t.b)) (v:=t.c) m 2 O Cd pV O O O d ?_;intro s j u m d;simp only[zF,zG] at m;rw[<-tV] at d;refine E ?_;apply S 18 [1,0] m;simp only[↓U,R];apply I0;omega;refine C (jZ O O) ?_;apply iV 4 [0,0] m;simp only[↓U,cY,aN,aa];intro T u m;refine dQ m 13 aD (by kernel_rfl) ?_;simp only[zy];refine fE 4 [1] ?_;simp only[↓U,aN,R];apply I0;omega;refine L (cW (m:=2) (n:=3) (r:=2) O O (by decide) (by decide)) (fE 5 [3] ?_);simp only[↓U,l,aN,pU,ag,ah,aa,R];apply I0;omega;refine L (cW (m:=3) (n:=3) (r:=0) O O (by decide) (by decide)) (fE 2 [3] ?_);simp only[↓U,l,aN,ag,ah,aa];apply I0;omega;refine bM ?_;intro u m;refine eP (ek:=ed) (en:=pt) (a:=(t.b,t.c)) (v:=t.a) m 3 O Cd pV O O O d ?_;intro s j u m d;simp only[zF,zG] at m;rw[<-tV] at d;refine E ?_;apply S 18 [1,0] m;simp only[↓U,R];apply I0;omega;refine C (kA O O) ?_;apply iV 4 [0,0] m;simp only[↓U,cY,aN,aa];intro g5 u m;refine dQ m 13 aD (by kernel_rfl) ?_;simp only[zy];refine fE 4 [1] ?_;simp only[↓U,aN,R];apply I0;omega;refine L (cW (m:=3) (n:=3) (r:=0) O O (by decide) (by decide)) (fE 5 [4] ?_);simp only[↓U,l,aN,pU,ag,ah,aa,R];apply I0;omega;refine L (cW (m:=4) (n:=3) (r:=1) O O (by decide) (by decide)) (fE 2 [4] ?_);simp only[↓U,l,aN,ag,ah,aa];apply I0;omega;refine bM ?_;intro u m;refine eP (ek:=ed) (en:=pt) (a:=(t.c,t.a)) (v:=t.b) m 4 O Cd pV O O O d ?_;intro s j u m d;simp only[zF,zG] at m;rw[<-tV] at d;refine E ?_;apply S 18 [2,0] m;simp only[↓U,R];apply I0;omega;exact ae (N-(k+1)) _ _ (by omega) (by kernel_rfl) ⟨k+1,_,_,O,(m.sel [X9,X9,X9,X9,Z]),by rw[Ud ht];simpa[dm] using d,by omega,rfl⟩
 have D:k=N:=by omega
 rw[D,show ts.take N=ts from a_ (by rw[X.len];exact ba _)] at d;apply aG 3 [0] m;simp only[↓U];refine iB m ?_;intro q9 u m;have f:=bC.nil (K:=E3) (V:=P3) ed pt;apply aJ 10 [0] m;simp only[↓U,xC];refine bU [46] [12,13,14,15,47,48,49,50,51,52,53,54,55,56,57,58,59,60,61,62,63,64,65,66,67] (λn vs q=>∃(k:Nat)(es:Array cu)(c:Nat),vs=[G (k:Int)]/\Mem w q [mI q9 es c,mI x s j]/\(bC ed pt (rD [] (If ts (rim.take k))) es c)/\(k<=M)/\(n=M-k)) ?_ ?_
 .exact⟨_,0,_,_,O,m,f,bu _,O⟩
 intro n vs wr o u K2 af;obtain⟨k,ab,P,rfl,m,f,hk,hn⟩:=o;simp only[zu,zF,zG];apply aG 5 [0,0] m;simp only[↓U];refine bB O ?_ ?_<;>intro aA
 .obtain⟨e,Y,a,rfl,ay⟩:=W.get (i:=k) (by omega);have ap:=aw e (bn Y);apply sO 15 [0,4,0,1] m;simp only[↓U,yE,Qh,xD,vA,aN,cY,ai,aj,aa,ag,ah];refine⟨_,λu m=>(((ay.ext m.ext)).lies sZ jD),λQ=>λT=>⟨by omega,?_⟩⟩;intro u m;apply Lc 4 [0,0] m;simp only[↓U,aN,aa];intro u m;refine bU [] [14,15,52,53,54,55,56,57,58,59,60,61,62,63] (λn vs q=>∃(i:Nat)(z:P3),vs=[]/\Mem w q [bI T (pI z) 30,bI Q (bG e) 56,mI q9 ab P,mI x s j]/\(pP ts e.1 i e.2=H z)/\(i<=ts.length)/\(n=ts.length+1-i)) ?_ ?_
  .exact⟨_,0,e.2,O,m,O,bu _,O⟩
  intro n vs wr o u K3 ak;obtain⟨i,z,rfl,m,hit,am,aE⟩:=o;simp only[zu,zF,zG];apply aG 8 [2,1,0] m;simp only[↓U,vA,aN,pU,ag,ah,aa];apply I0;omega;refine eB (wM (ek:=ed) (en:=pt) (k:=(e.1,z)) (v0:=⟨0,0,0⟩) Cd eH pV O O (m.p 3 O) d) ?_;simp only[I];apply iV 13 [0,0] m;simp only[↓U,cY,aN,aa];intro g5 u m;refine cQ O ?_ ?_<;>intro B
  .have ar:bD ts e.1 z=G0:=by rw[<-Ah F];simpa using B
   have au:=afo i ts.length e.2 z am hit ar;apply aG 5 [3,2,0] m;simp only[↓U,xD,aN];refine eP (ek:=ed) (en:=pt) (a:=e) (v:=z) m 3 O Cd pV O O O f ?_;intro ab P u m f;simp only[zF,zG] at m;apply aJ 6 [0] m;simp only[↓U];apply I0;omega;exact af (M-(k+1)) _ _ (by omega) (by kernel_rfl) ⟨k+1,_,_,O,(m.sel [X9,X9,X9,Z,Z]),by rw[ajc Y,tV,au];exact f,by omega,O⟩
  obtain⟨y,hy⟩:∃y,bS (rD [] (kD ts)) (e.1,z)=H y:=by
   cases h:bS (rD [] (kD ts)) (e.1,z) with
   |some y=>exact⟨y,rfl⟩
   |none=>rw[h] at B;cases B
  have aq:bD ts e.1 z=H y:=by rw[<-Ah F];exact hy
  have ad:pP ts e.1 (i+1) e.2=H y:=by rw[pQ,hit];exact aq
  have av:=abz al F ap ad;rw[hy] at m;simp only[dt] at m;apply sO 6 [1,1,0] m;simp only[↓U,aN,aa];intro u m;exact ak (ts.length+1-(i+1)) _ _ (by omega) (by kernel_rfl) ⟨i+1,y,O,(m.sel [X9,Z,Z,Z,Z]),ad,av,O⟩
 have D:k=M:=by omega
 rw[D,show rim.take M=rim from a_ (by rw[W.len];exact ba _)] at f;apply aG 7 [] m;simp only[↓U];exact aU O O ⟨_,O,m.ext,_,_,_,O,m.sel [Z,X9],f⟩
def amX{x y:E3}:(x.1.x=y.1.x/\x.1.y=y.1.y/\x.1.z=y.1.z/\x.2.x=y.2.x/\x.2.y=y.2.y/\x.2.z=y.2.z)↔x=y:=
 ⟨λh=>pv (P3.eq h.1 h.2.1 h.2.2.1) (P3.eq h.2.2.2.1 h.2.2.2.2.1 h.2.2.2.2.2),λh=>by rw[h];exact⟨O,O,O,O,O,O⟩⟩
def ajd{V:Type}[DecidableEq K]{a b:List (K×V)}(d:a.map (·.1)=b.map (·.1))(g:(a.map (·.1)).Nodup)(h:∀x∈a,bS b x.1=H x.2):a=b:=by
 apply gt;intro i;have e:=Y1 (·[i]?) d;simp only[fi] at e;cases h1:a[i]? with
 |none=>
  rw[h1] at e;cases h2:b[i]? with
  |none=>rfl
  |some y=>rw[h2] at e;cases e
 |some x=>
  rw[h1] at e;cases h2:b[i]? with
  |none=>rw[h2] at e;cases e
  |some y=>
   rw[h2] at e;have c:x.1=y.1:=fq e;have f:=h x (bn h1);rw[c,lG (v:=y.2) (by rw[<-d];exact g) (bn h2)] at f;exact Y1 H (pv c (fq f).symm)
def aje{es fs:List E3}{e:Option Addr}(w:an)(f:pH bG 6 w A N es)(l:pH bG 6 w e M fs)(F:N<=100000000):dF G1 150 [.slice A N cap,.slice e M cap2] w (λv _=>v=.bool (decide (es=fs))):=by
 refine⟨bK func150 (by kernel_rfl),?_⟩;have m:=Mem.refl w;have o:=f.len;have p:=l.len
 go_enter func150,ntmps150
 apply fD 13 [0,0] m;simp only[↓U,xC];refine bB O ?_ ?_<;>intro t
 .have d:¬es=fs:=λh=>t (by rw[<-o,<-p,h]);apply aG 5 [] m;simp only[↓U];refine aU O O ?_;try simp only[zD,zE]
  exact⟨_,O,m.ext,by rw[Y6 d]⟩
 apply aG 9 [0] m;simp only[↓U,xC];refine bU [13] [4,5,14,15,16,17,18,19,20,21,22,23,24,25] (λn vs r=>∃(k:Nat),vs=[G (k:Int)]/\Mem w r []/\(es.take k=fs.take k)/\(k<=N)/\(n=N-k)) ?_ ?_
 .exact⟨_,0,O,m,O,bu _,O⟩
 intro n vs wr q u D s;obtain⟨k,rfl,m,c,H,I⟩:=q;simp only[zu,zF,zG];apply aG 5 [0,0] m;simp only[↓U];refine bB O ?_ ?_<;>intro J
 .obtain⟨x,g,a,rfl,B⟩:=f.get (i:=k) (by omega);obtain⟨y,j,E,rfl,C⟩:=l.get (i:=k) (by omega);apply aG 9 [0] m;simp only[↓U];refine mq m aD (by kernel_rfl) (fE 9 [0,4,0,4] ?_);simp only[↓U,yE,ai,aj];refine⟨_,λu m=>((B.ext m.ext).lies sZ jD),_,λu m=>((C.ext m.ext).lies sZ jD),_,amv,by omega,?_⟩;refine bM ?_;intro u m;refine gc (bB O (λb=>?_) (λb=>?_))
  .have d:¬es=fs:=λh=>b (amX.2 (by subst h;exact fq (g.symm.trans j)));apply aG 5 [] m;simp only[↓U];refine aU O O ?_;try simp only[zD,zE]
   exact⟨_,O,m.ext,by rw[Y6 d]⟩
  obtain rfl:=amX.1 (Classical.not_not.1 b);apply aG 6 [0] m;simp only[↓U];apply I0;omega;exact s (N-(k+1)) _ _ (by omega) (by kernel_rfl) ⟨k+1,O,m,by rw[bV g,bV j,c],by omega,O⟩
 have z:es=fs:=by rw[a_ (by omega),a_ (by omega)] at c;exact c
 apply aG 6 [] m;simp only[↓U];refine aU O O ?_;try simp only[zD,zE]
 exact⟨_,O,m.ext,by rw[Y5 z]⟩
def ap4{g c p c2:Nat}{es B:Array cu}{a b:List (E3×P3)}(w:an)(l:gQ w g es c)(j:bC ed pt a es c)(E:gQ w p B c2)(D:bC ed pt b B c2)(A:a.map (·.1)=b.map (·.1))(G:(a.map (·.1)).Nodup):dF G1 151 [.map (H g),.map (H p)] w (λv _=>v=.bool (decide (a=b))):=by
 refine⟨bK func151 (by kernel_rfl),?_⟩;have m:=Mem.refl w;have M:a.length=b.length:=by simpa using Y1 List.length A
 go_enter func151,ntmps151
 apply fD 8 [0] m;simp only[↓U];refine eB (aln O Cd O (l.ext m.ext) j) ?_;apply aJ 1 [0] m;simp only[↓U];refine eB (aln O Cd O (E.ext m.ext) D) ?_;apply aJ 2 [0,0] m;simp only[↓U];refine bB O ?_ ?_<;>intro W
 .exact Y0 (Y1 (Nat.cast (R:=Int)) M) W
 apply aG 5 [0] m;simp only[↓U];refine tE m Cd O (l.ext m.ext) ?_;intro S u m;apply aJ 2 [0] m;simp only[↓U];refine bU [] [4,5,6,7,8,16,17,18,19,20,21,22,23,24,25,26,27,28,29,30,31,32,33] (λn vs T=>∃(i rs:List (E3×P3)) (o:Array Nat),vs=[]/\Mem w T [iI S g c o]/\(lU ed pt a es o i rs)/\(∀x∈i,bS b x.1=H x.2)/\(n=rs.length)) ?_ ?_
 .exact⟨_,[],a,#[],rfl,m,lU.start j,λ_ h=>(by cases h),rfl⟩
 intro n vs wr L u K1 V;obtain⟨i,rs,o,rfl,m,z,K,N⟩:=L;simp only[zu,zF,zG];apply aG 2 [0] m;simp only[↓U];refine Er m 0 O O (l.ext m.ext) j z ?_;intro bb kk vv o u m t;simp only[zF,zG] at m;refine C (nS O) ?_;apply aJ 2 [0] m;simp only[↓U];refine cQ O ?_ ?_<;>intro F
 .obtain⟨f,q,J,P,s⟩:=Dd F t;have X:(f,q)∈a:=s.1.mem_iff.1 (by simp);apply aG 4 [0] m;simp only[↓U];refine eB (pY O (m.r 0 O) (l.ext m.ext) j s) ?_;simp only[I];apply iV 11 [1,0,2,0] m;simp only[↓U,Qh,cY,xD,aN,aa];intro p g3 u m;refine eB (wM (ek:=ed) (en:=pt) (k:=f) (v0:=⟨0,0,0⟩) Cd eH pV O O (E.ext m.ext) D) ?_;simp only[I];apply iV 14 [0,4,2,1,0] m;simp only[↓U,cY,aN,aa];refine λg4=>⟨_,lO,λ_=>?_⟩
  intro u m;refine cQ O ?_ ?_<;>intro d
  .have Y:¬a=b:=λh=>by rw[<-h,lG G X] at d;simp at d
   apply aG 5 [] m;simp only[↓U];refine aU O O ?_;try simp only[zD,zE]
   exact⟨_,O,m.ext,by rw[Y6 Y]⟩
  have Q:bS b f=H q:=by
   cases h:bS b f with
   |none=>rw[h] at d;cases d
   |some y=>
    rw[h] at d;simp only[Option.isSome_some,jq,Bool.false_or,dt,Y7,Classical.not_not] at d;rw[gZ.1 d]
  apply aG 2 [0] m;simp only[↓U];exact V J.length _ _ (by rw[N,P.length_eq];exact fu _) (by kernel_rfl) ⟨i++[(f,q)],J,_,rfl,(m.sel [X9,X9,X9,Z]),s,λx e=>(bv.1 e).elim (K x) λe=>by obtain rfl:=bp.1 e;exact Q,O⟩
 obtain rfl:=Db F t;have ab:a=b:=ajd A G λx e=>K x (z.done.mem_iff.2 e);apply aG 6 [] m;simp only[↓U];refine aU O O ?_;try simp only[zD,zE]
 exact⟨_,O,m.ext,by rw[Y5 ab]⟩
def ap5{F G j R J:ak}{f q c:Nat}{es:Array cu}{D:List (P3×P3)}{p:P3}(w:an)(l:fK w f [F,G,j,R,.map (H q),J] 148)(i:gQ w q es c)(g:bC pt pt D es c):dF G1 155 [.pointer (H ⟨f,0,G0⟩),pt p] w (λv _=>v=pt ((bS D p).getD p)):=by
 refine⟨bK func155 (by kernel_rfl),?_⟩;have m:=Mem.refl w
 go_enter func155,ntmps155
 apply kX 7 [0] m;simp only[↓U,cY];intro n o u m;apply avu m (T1:=30)
 .refine Zg m [Z,Z] (.take 0 (.take 1 (.take 2 (.take 3 (.take 4 (.two 5 (.take 6 (.take 7 (.take 8 (.one 9 (.one 10 (.take 11 .nil)))))) 9 (.one 5 (.take 6 (.take 7 (.take 8 (.one 10 (.take 11 .nil)))))))))))) aD (by kernel_rfl) (λ_ _ _ _ _ h=>by cases h.1) ?_;intro u m;refine eC (by simp only[zw];rfl) (bY aI (bO (eC (by simp only[zw];rfl) (bY (eX rfl) (bO (eC (by simp only[zw];rfl) (bY (aY (c:=0) underlying148 rfl ald rfl rfl) (bO (eC (by simp only[zw];rfl) ?_)))))))));simp only[I];refine mU O (λu m=>((l.ext m.ext).lies1 ale O)) ?_;simp only[I];refine bO (eC (by simp only[zw];rfl) (mU rfl (λu m=>((m.b 1 rfl).full aF aA)) ?_));simp only[I];refine bO ?_;refine Po (by simp only[zw];rfl) (by simp only[zw];rfl) ?_ ?_
  .refine eB (wM (ek:=pt) (en:=pt) (k:=p) (v0:=⟨0,0,0⟩) En eH eL O O (i.ext m.ext) g) ?_;simp only[I];refine E ⟨m,?_⟩;refine eC (by simp only[zw];rfl) (bY aI (bO (eC (by simp only[zw];rfl) (bY (dV rfl rfl) (bO (eC (by simp only[zw];rfl) (bY (dV rfl rfl) (bO (jQ (by simp only[zw];rfl) ?_)))))))));simp only[I];refine kR m eH O ?_;intro a u m;refine E ⟨m.sel [X9,Z,Z],?_⟩;refine jQ (by simp only[zw];rfl) ?_;simp only[I];refine cB m 0 O O O aA (X O) O ?_;intro u m;simp only[zy,zx,bR,zF,zG,aa] at m;refine E ⟨m.sel [X9,Z,Z],?_⟩;refine eC (by simp only[zw];rfl) (bY aK (bO (xR ?_)));exact⟨O,a,O,m⟩
  refine kR m eH O ?_;intro a u m;refine E ⟨m.sel [X9,Z,Z],?_⟩;refine jQ (by simp only[zw];rfl) ?_;simp only[I];refine eB (wM (ek:=pt) (en:=pt) (k:=p) (v0:=⟨0,0,0⟩) En eH eL O O (i.ext m.ext) g) ?_;simp only[I];refine E ⟨m.sel [X9,Z,Z],?_⟩;refine eC (by simp only[zw];rfl) (bY aI (bO (eC (by simp only[zw];rfl) (bY (dV rfl rfl) (bO (eC (by simp only[zw];rfl) (bY (dV rfl rfl) (bO (jQ (by simp only[zw];rfl) ?_)))))))));simp only[I];refine cB m 0 O O O aA (X O) O ?_;intro u m;simp only[zy,zx,bR,zF,zG,aa] at m;refine E ⟨m.sel [X9,Z,Z],?_⟩;refine eC (by simp only[zw];rfl) (bY aK (bO (xR ?_)));exact⟨O,a,O,m⟩
 intro a u m;try dsimp only
 apply S 4 [0] m;simp only[↓U];refine cQ O ?_ ?_<;>intro d
 .obtain⟨y,e⟩:∃y,bS D p=H y:=by
   cases h:bS D p with
   |some y=>exact⟨y,rfl⟩
   |none=>rw[h] at d;cases d
  apply sO 6 [1,1] m;simp only[↓U,aN,aa];intro u m;refine aU O ⟨_,O,((m.b 1 O).full aF aA)⟩ ?_;try simp only[zD,zE]
  exact⟨_,O,m.ext,by rw[e];rfl⟩
 have e:bS D p=G0:=by
  cases h:bS D p with
  |none=>rfl
  |some y=>rw[h] at d;cases d
 apply sO 7 [3,1] m;simp only[↓U,aN,aa];intro u m;refine aU O ⟨_,O,((m.b 1 O).full aF aA)⟩ ?_;try simp only[zD,zE]
 exact⟨_,O,m.ext,by rw[e];rfl⟩
end Go.Proofs.YtfekpcimgncioaaGreatDoor
namespace Go.Lith
open Go.RowKit
def av5{d k:Nat}(a:d<4294967296)(b:k<2):IntKind.u64.wrap ((d:Int)*2^(min (32*(k:Int)).toNat IntKind.u64.bits))=((d*4294967296^k:Nat):Int):=by
 obtain rfl|rfl:k=0\/k=1:=by omega
 .rw[gU];simp;omega
 rw[gU]
 simp only[IntKind.bits];show ((d:Int)*2^32)%18446744073709551616=_
 omega
def awW{s d k:Nat}(e:s<4294967296^k)(b:d<4294967296)(c:k<2):IntKind.u64.wrap ((et IntKind.u64.bits (s:Int) ||| et IntKind.u64.bits ((d*4294967296^k:Nat):Int)).toNat:Int)=((s+d*4294967296^k:Nat):Int):=by
 rw[gU];show (((et 64 (s:Int) ||| et 64 ((d*4294967296^k:Nat):Int)).toNat:Nat):Int)%18446744073709551616=_
 rw[BitVec.toNat_or,lh,lh];obtain rfl|rfl:k=0\/k=1:=by omega
 . obtain rfl:s=0:=by omega
   have h1:(((0:Nat):Int)%((2^64:Nat):Int)).toNat=0:=by simp
   have h2:(((d*4294967296^0:Nat):Int)%((2^64:Nat):Int)).toNat=d:=by omega
   rw[h1,h2,Nat.zero_or];omega
 have a:s<2^32:=by omega
 have h1:(((s:Nat):Int)%((2^64:Nat):Int)).toNat=s:=by omega
 have h2:(((d*4294967296^1:Nat):Int)%((2^64:Nat):Int)).toNat=d <<< 32:=by rw[Nat.shiftLeft_eq];omega
 rw[h1,h2,Nat.or_comm,<-Nat.shiftLeft_add_eq_or_of_lt a d,Nat.shiftLeft_eq];omega
def amY{a:Int}{X:Nat}(h:X=a.natAbs)(b:2<(digs 4294967296 X).length):¬nQ a:=λk=>by
 have h1:X<4294967296^2:=by have:=k.natAbs;rw[<-h] at this;omega
 have h2:=dU (B:=4294967296) (by omega) h1;omega
end Go.Lith
namespace Go.Proofs.YtfekpcimgncioaaGreatDoor
open Go.Proofs.Tryz
open Go.RowKit Go.Lith
set_option maxRecDepth 100000
attribute [local irreducible] bf M fY cJ cU Code.wp
attribute [local congr] dK dL cZ dJ
variable{A:Option Addr}{xs ys:List Nat}{na nb ca cb:Nat}
def Vz{l:List UInt8}(d:l.length<=1000000000000000):eS G1 315 [.string (oX l),.int .u8 0] (.string (oX (jJ l))):=by
 intro w;refine⟨bK func315 (by kernel_rfl),?_⟩;have m:=Mem.refl w
 go_enter func315,ntmps315
 apply fD 6 [0] m;simp only[↓U];refine bU [0] [5,6,7,8,9,10,11,12,13,14,15] (λn vs f=>∃(k:List UInt8),vs=[.string (oX k)]/\Mem w f []/\(jJ k=jJ l)/\(k.length<=1000000000000000)/\(n=k.length)) ?_ ?_
 .exact⟨_,l,O,m,O,d,O⟩
 intro n vs wr e u i g;obtain⟨k,rfl,m,c,d,j⟩:=e;have p:=Io k;simp only[zu,zF,zG];apply aG 2 [] m;simp only[↓U];by_cases h:0<k.length
 .obtain⟨b,a⟩:∃b,k[0]? = H b:=⟨k[0],ap h⟩
  apply S 2 [0] m;simp only[↓U];refine C (wS O rC O) ?_;apply aJ 3 [1,0,0] m;simp only[↓U];apply I0;omega;refine gE O (C ((qH rC O O (by omega) (by rw[aig];exact a))) ?_);apply aJ 4 [0,0,0,0] m;simp only[↓U];refine bB O ?_ ?_<;>intro o
  .apply aG 4 [0] m;simp only[↓U];refine C (aj9 rC O O (by omega) (by omega)) ?_;apply aJ 2 [] m;simp only[↓U];rw[show (1:Int).toNat=1 from rfl,aeL];apply S 1 [0] m;simp only[↓U];exact g ((k.drop 1).length) _ _ (by rw[ix];omega) (by kernel_rfl) ⟨k.drop 1,rfl,m,by rw[aeM a (by omega)];exact c,by rw[ix];omega,rfl⟩
  apply aG 7 [] m;simp only[↓U];refine aU O O ?_;try simp only[zD,zE]
  exact⟨_,O,m.ext,by rw[<-c,aeN a (by omega)]⟩
 obtain rfl:k=[]:=List.eq_nil_of_length_eq_zero (by omega);apply S 2 [0] m;simp only[↓U];refine C (wS O rC O) ?_;apply aJ 16 [2,0,0,0,0] m;simp only[↓U];apply I0;omega;refine aU O O ?_;try simp only[zD,zE]
 exact⟨_,O,m.ext,by rw[<-c,aih]⟩
def afV{l:List UInt8}(c:l.length<=1000000000000000):eS G1 258 [.string (oX l),.string ⟨#[0]⟩] (.string (oX (jJ l))):=by
 intro w;refine⟨bK func258 (by kernel_rfl),?_⟩;have m:=Mem.refl w;have d:=Io l
 go_enter func258,ntmps258
 apply fD 6 [] m;simp only[↓U];by_cases a:l=[]
 .subst a;apply S 2 [0] m;simp only[↓U];refine C (arS (aeK rC O O) (show _=bj Z by simp[oX])) ?_;apply aJ 12 [0,0] m;simp only[↓U];exact aU O O ⟨_,O,m.ext,O⟩
 apply S 2 [0] m;simp only[↓U];refine C (arS (aeK rC O O) (show _=bj X9 by simp only[acK,a,decide_false])) ?_;apply aJ 2 [0,0] m;simp only[↓U];refine gE O (C (arS (aeK rC O O) (show _=bj X9 by simp)) ?_);apply aJ 8 [0] m;simp only[↓U];refine C (wS O rC O) (C (aeF O O O) ?_);apply aJ 2 [0,0] m;simp only[↓U];refine gE O (C ((qH (b:=0) rC O O (by omega) O)) (gE O (C (sU O O (by decide)) ?_)));apply aJ 7 [0] m;simp only[↓U];refine C ((qH (b:=0) rC O O (by omega) O)) ?_;simp only[I];refine tK m O O (Vz c) 3 [] ?_;simp only[↓U];intro u m;exact aU O O ⟨_,O,m.ext,O⟩
def yT{cap:Nat}(w:an)(b:dN w A na cap xs):dF G1 256 [.slice A na cap] w (λv _=>v=.slice A (trim xs).length cap):=by
 refine⟨bK func256 (by kernel_rfl),?_⟩;have m:=Mem.refl w;obtain rfl:=b.eq;have o:=b.len;have q:=b.le
 go_enter func256,ntmps256
 apply fD 6 [0] m;simp only[↓U];refine bU [0] [3,4,5,6,7,8,9,10,11,12,13,14,15,16,17,18,19] (λn vs g=>∃(k:Nat),vs=[.slice A k cap]/\Mem w g []/\(k<=xs.length)/\(trim (xs.take k)=trim xs)/\(n=k)) ?_ ?_
 .exact⟨_,xs.length,O,m,ba _,by rw[fe],O⟩
 intro n vs wr f u j h;obtain⟨k,rfl,m,l,c,p⟩:=f;simp only[zu,zF,zG];apply aG 2 [] m;simp only[↓U];by_cases e:0<k
 .obtain⟨a,rfl,i,r⟩:=b.get (show k-1<xs.length by omega);apply S 9 [1,0,0,0,0,0] m;simp only[↓U,fG];apply I0;omega;refine gE O (C (aP dB bN O O (by omega) (by omega) (oW (show _=k-1 by omega))) (gE O ?_));simp only[I];refine aS O (lies1 (m.ext.cell i) fO) ?_;simp only[I];apply aJ 3 [0,0,0] m;simp only[↓U];refine bB O ?_ ?_<;>intro d
  .apply aG 7 [0] m;simp only[↓U,fG];apply I0;omega;refine C (lY dB bN O O (show _=k-1 by omega) (by omega) (by omega)) ?_;apply aJ 3 [0] m;simp only[↓U];exact h (k-1) _ _ (by omega) (by kernel_rfl) ⟨k-1,O,m,by omega,Yv e (by omega) d c,O⟩
  apply aG 7 [] m;simp only[↓U];refine aU O O ?_;try simp only[zD,zE]
  exact⟨_,O,m.ext,by rw[<-acC e (by omega) d c]⟩
 obtain rfl:k=0:=by omega
 apply S 22 [2,0,0,0,0,0,0,0] m;simp only[↓U,fG];apply I0;omega;refine aU O O ?_;try simp only[zD,zE]
 exact⟨_,O,m.ext,by rw[<-acD c]⟩
def ahp{B:Option Addr}(w:an)(d:dN w A na ca xs)(c:dN w B nb cb ys)(o:gC xs)(ty:gC ys):dF G1 187 [.slice A na ca,.slice B nb cb] w (λv _=>v=G (ord (val 4294967296 xs) (val 4294967296 ys))):=by
 refine⟨bK func187 (by kernel_rfl),?_⟩;have m:=Mem.refl w;obtain rfl:=d.eq;obtain rfl:=c.eq;have t:=d.len;have D:=c.len
 go_enter func187,ntmps187
 apply fD 15 [0,0] m;simp only[↓U,fG];refine bB O ?_ ?_<;>intro y
 .apply aG 5 [] m;simp only[↓U];refine aU O O ?_;try simp only[zD,zE]
  exact⟨_,O,m.ext,by rw[ord,Z9 (lZ (by omega) d.digs c.digs ty (by omega))]⟩
 apply aG 9 [0,0] m;simp only[↓U,fG];refine bB O ?_ ?_<;>intro z
 .apply aG 5 [] m;simp only[↓U];refine aU O O ?_;try simp only[zD,zE]
  exact⟨_,O,m.ext,by have:=lZ (B:=4294967296) (by omega) c.digs d.digs o (by omega);rw[ord,K0 (by omega),Z9 this]⟩
 apply aG 11 [0] m;simp only[↓U,fG];apply I0;omega;refine bU [5] [4,21,22,23,24,25,26,27,28,29,30,31,32,33,34,35,36,37,38,39,40,41,42,43,44] (λn vs p=>∃(k:Nat),vs=[G ((k:Int)-1)]/\Mem w p []/\(k<=xs.length)/\(xs.drop k=ys.drop k)/\(n=k)) ?_ ?_
 .exact⟨_,xs.length,O,m,ba _,by rw[lk,show xs.length=ys.length by omega,lk],O⟩
 intro n vs wr l u r q;obtain⟨k,rfl,m,s,e,x⟩:=l;simp only[zu,zF,zG];apply aG 6 [0,0] m;simp only[↓U];refine bB O ?_ ?_<;>intro C
 .apply aG 5 [] m;simp only[↓U];obtain⟨a,rfl,f,_⟩:=d.get (show k-1<xs.length by omega);obtain⟨b,rfl,g,_⟩:=c.get (show k-1<ys.length by omega);refine gc (mq m aD (by kernel_rfl) (L aI (L aI ?_)));simp only[I];refine L (aP dB bN O O (by omega) (by omega) (oW (show _=k-1 by omega))) ?_;simp only[I];refine ql O (λu m=>(lies1 (m.ext.cell f) fO)) ?_;simp only[I];refine L aI (L aI ?_);simp only[I];refine L (aP dB bN O O (by omega) (by omega) (oW (show _=k-1 by omega))) ?_;simp only[I];refine ql O (λu m=>(lies1 (m.ext.cell g) fO)) ?_;simp only[I];refine L (Cx O O) (L aK (bM ?_));intro u m;refine gc ?_;simp only[I];refine bB O ?_ ?_<;>intro h
  .apply aG 5 [] m;simp only[↓U];refine aU O O ?_;try simp only[zD,zE]
   exact⟨_,O,m.ext,by rw[ord,Z9 (akc d.digs (by omega) (by omega) (by omega) e h)]⟩
  apply aG 1 [] m;simp only[↓U];have f:=d.at (show k-1<xs.length by omega);have g:=c.at (show k-1<ys.length by omega);refine gc (mq m aD (by kernel_rfl) (L aI (L aI ?_)));simp only[I];refine L (aP dB bN O O (by omega) (by omega) (oW (show _=k-1 by omega))) ?_;simp only[I];refine ql O (λu m=>(lies1 (m.ext.cell f) fO)) ?_;simp only[I];refine L aI (L aI ?_);simp only[I];refine L (aP dB bN O O (by omega) (by omega) (oW (show _=k-1 by omega))) ?_;simp only[I];refine ql O (λu m=>(lies1 (m.ext.cell g) fO)) ?_;simp only[I];refine L (acv O O) (L aK (bM ?_));intro u m;refine gc ?_;simp only[I];refine bB O ?_ ?_<;>intro i
  .apply aG 5 [] m;simp only[↓U];refine aU O O ?_;try simp only[zD,zE]
   exact⟨_,O,m.ext,by have:=akc c.digs (by omega) (by omega) (by omega) e.symm i;rw[ord,K0 (by omega),Z9 this]⟩
  apply aG 8 [0] m;simp only[↓U];apply I0;omega;rw[show ((k:Int)-1-1)=((k-1:Nat):Int)-1 by omega];exact q (k-1) _ _ (by omega) (by kernel_rfl) ⟨k-1,O,m,by omega,ah7 (by omega) (by omega) (by omega) e h i,O⟩
 apply aG 6 [] m;simp only[↓U];refine aU O O ?_;try simp only[zD,zE]
 exact⟨_,O,m.ext,by have j:k=0:=(by omega);subst j;simp only[List.drop_zero] at e;rw[e,ord,K0 (by omega),K0 (by omega)]⟩
def ars{B:Option Addr}(w:an)(J:dN w A na ca xs)(H:dN w B nb cb ys)(ae:xs.length<=1099511627776)(af:ys.length<=1099511627776):dF G1 186 [.slice A na ca,.slice B nb cb] w (iH (val 4294967296 xs+val 4294967296 ys)):=by
 refine⟨bK func186 (by kernel_rfl),?_⟩;have m:=Mem.refl w;obtain rfl:=J.eq;obtain rfl:=H.eq
 go_enter func186,ntmps186
 apply fD 13 [0,0] m;simp only[↓U,fG];refine bB O ?_ ?_<;>intro ad
 .obtain⟨e,rfl⟩:∃q,q=xs:=⟨_,rfl⟩
  obtain⟨d,rfl⟩:∃q,q=ys:=⟨_,rfl⟩
  obtain⟨Z,rfl⟩:∃q,q=A:=⟨_,rfl⟩
  obtain⟨Y,rfl⟩:∃q,q=B:=⟨_,rfl⟩
  have P:=H;have Q:=J;apply aG 11 [0] m;simp only[↓U,fG];apply I0;omega;refine lD dB pX O O O (show _=d.length+1 by omega) (show _=d.length+1 by omega) (by omega) (by omega) (by omega) (by omega) ?_;intro u E D K M;replace m:=m.newB D K M;apply aJ 2 [] m;simp only[↓U];rw[gT] at m;apply S 12 [0] m;simp only[↓U,fG];refine bU [6,22] [7,8,23,24,25,26,27,28,29,30,31,32,33,34,35,36,37,38,39,40,41,42,43,44,45,46,47,48] (λn vs N=>∃(i c:Nat)(os:List Nat),vs=[.int .u64 (c:Int),G (i:Int)]/\Mem w N [bI E (os.map mT) 231]/\(i<=d.length)/\(os.length=d.length+1)/\(val 4294967296 os+4294967296^i*c=val 4294967296 (d.take i)+val 4294967296 (e.take i))/\(os.drop i=bx (d.length+1-i) 0)/\(cX 4294967296 os)/\(c<=1)/\(n=d.length-i)) ?_ ?_
  .exact⟨_,0,0,bx (d.length+1) 0,O,m,by omega,by simp,by simp[fI,val],by simp,λx L=>by rw[fc L];decide,by omega,rfl⟩
  intro n vs wr F u K1 W;obtain⟨i,c,os,rfl,m,hi,f,h,j,g,hc,hn⟩:=F;simp only[zu,zF,zG];apply aG 5 [0,0] m;simp only[↓U];refine bB O ?_ ?_<;>intro aa
  .apply aG 9 [] m;simp only[↓U];obtain⟨a,rfl,R,z⟩:=P.get (show i<d.length by omega);apply S 4 [0] m;simp only[↓U,iJ,ai,aj,eo];apply I0;omega;refine aS O (lies1 (m.ext.cell R) fO) ?_;simp only[I];apply aJ 12 [0,0] m;simp only[↓U,fG];apply I0;omega;refine bB O ?_ ?_<;>intro ab
   .obtain⟨b,rfl,T,V⟩:=Q.get (show i<e.length by omega);apply aG 5 [0] m;simp only[↓U,iJ,ai,aj,eo];apply I0;omega;refine aS O (lies1 (m.ext.cell T) fO) ?_;simp only[I];apply aJ 3 [] m;simp only[↓U];apply I0;omega;obtain⟨s,k⟩:∃s:Nat,(s:Int)=↑d[i]+↑c+↑e[i]:=⟨d[i]+c+e[i],by omega⟩
    rw[<-k];have t:s=d[i]+c+e[i]?.getD 0:=by rw[ap (by omega)];simp;omega
    have y:e[i]?.getD 0<4294967296:=by rw[ap (by omega)];exact V
    apply S 4 [0] m;simp only[↓U];refine C (zX O O (uK (by omega) (by omega))) ?_;apply aJ 1 [0] m;simp only[↓U];refine C (pE O O (by omega) (Yw (by omega))) ?_;apply aJ 1 [0] m;simp only[↓U,iJ,ai,aj,eo];apply I0;omega;refine dP m 0 O O O bN (by simp;omega) ⟨rfl,rfl⟩ ?_;intro u m;simp only[I] at m ;rw[show ((s:Int)%4294967296)=((s%4294967296:Nat):Int) by omega,gH (by omega)] at m;apply aJ 7 [0] m;simp only[↓U];apply I0;omega;obtain⟨l,o,p,r⟩:=Gi (by omega) f h j g hc t z y;rw[show ((i:Int)+1)=((i+1:Nat):Int) by omega,show ((s:Int) / 4294967296)=((s / 4294967296:Nat):Int) by omega];exact W (d.length-(i+1)) _ _ (by omega) (by kernel_rfl) ⟨i+1,s / 4294967296,os.set i (s%4294967296),O,m,by omega,by simpa using f,l,o,p,r,O⟩
   obtain⟨s,k⟩:∃s:Nat,(s:Int)=↑d[i]+↑c:=⟨d[i]+c,by omega⟩
   rw[<-k];have t:s=d[i]+c+e[i]?.getD 0:=by rw[da (by omega)];simp;omega
   have y:e[i]?.getD 0<4294967296:=by rw[da (by omega)];decide
   apply aG 5 [0] m;simp only[↓U];refine C (zX O O (uK (by omega) (by omega))) ?_;apply aJ 1 [0] m;simp only[↓U];refine C (pE O O (by omega) (Yw (by omega))) ?_;apply aJ 1 [0] m;simp only[↓U,iJ,ai,aj,eo];apply I0;omega;refine dP m 0 O O O bN (by simp;omega) ⟨rfl,rfl⟩ ?_;intro u m;simp only[I] at m ;rw[show ((s:Int)%4294967296)=((s%4294967296:Nat):Int) by omega,gH (by omega)] at m;apply aJ 7 [0] m;simp only[↓U];apply I0;omega;obtain⟨l,o,p,r⟩:=Gi (by omega) f h j g hc t z y;rw[show ((i:Int)+1)=((i+1:Nat):Int) by omega,show ((s:Int) / 4294967296)=((s / 4294967296:Nat):Int) by omega];exact W (d.length-(i+1)) _ _ (by omega) (by kernel_rfl) ⟨i+1,s / 4294967296,os.set i (s%4294967296),O,m,by omega,by simpa using f,l,o,p,r,O⟩
  apply aG 2 [] m;simp only[↓U];obtain rfl:i=d.length:=by omega
  apply S 6 [0] m;simp only[↓U,fG,iJ,ai,aj,eo];apply I0;omega;refine dP m 0 O O O bN (by simp;omega) ⟨rfl,rfl⟩ ?_;intro u m;simp only[I] at m ;rw[gH (by omega)] at m;apply aJ 4 [0] m;simp only[↓U];refine cC m O O (yT _ ((m.b 0 O).nat (g.set (show c<4294967296 by omega)) (by simp;omega) (by omega))) ?_;rintro v u m rfl;apply aJ 3 [] m;simp only[↓U];refine aU O O ?_;try simp only[zD,zE]
  exact⟨_,O,m.ext,by first|exact iH.of_trim ((m.b 0 O).nat (g.set (show c<4294967296 by omega)) (by simp;omega) (by omega)) (Rb (by omega) f h j)|(rw[Nat.add_comm];exact iH.of_trim ((m.b 0 O).nat (g.set (show c<4294967296 by omega)) (by simp;omega) (by omega)) (Rb (by omega) f h j))⟩
 obtain⟨d,rfl⟩:∃q,q=xs:=⟨_,rfl⟩
 obtain⟨e,rfl⟩:∃q,q=ys:=⟨_,rfl⟩
 obtain⟨Y,rfl⟩:∃q,q=A:=⟨_,rfl⟩
 obtain⟨Z,rfl⟩:∃q,q=B:=⟨_,rfl⟩
 have P:=J;have Q:=H;apply aG 6 [0] m;simp only[↓U,fG];apply I0;omega;refine lD dB pX O O O (show _=d.length+1 by omega) (show _=d.length+1 by omega) (by omega) (by omega) (by omega) (by omega) ?_;intro u E D K M;replace m:=m.newB D K M;apply aJ 2 [] m;simp only[↓U];rw[gT] at m;apply S 12 [0] m;simp only[↓U,fG];refine bU [6,22] [7,8,23,24,25,26,27,28,29,30,31,32,33,34,35,36,37,38,39,40,41,42,43,44,45,46,47,48] (λn vs N=>∃(i c:Nat)(os:List Nat),vs=[.int .u64 (c:Int),G (i:Int)]/\Mem w N [bI E (os.map mT) 231]/\(i<=d.length)/\(os.length=d.length+1)/\(val 4294967296 os+4294967296^i*c=val 4294967296 (d.take i)+val 4294967296 (e.take i))/\(os.drop i=bx (d.length+1-i) 0)/\(cX 4294967296 os)/\(c<=1)/\(n=d.length-i)) ?_ ?_
 .exact⟨_,0,0,bx (d.length+1) 0,O,m,by omega,by simp,by simp[fI,val],by simp,λx L=>by rw[fc L];decide,by omega,rfl⟩
 intro n vs wr F u K2 X;obtain⟨i,c,os,rfl,m,hi,f,h,j,g,hc,hn⟩:=F;simp only[zu,zF,zG];apply aG 5 [0,0] m;simp only[↓U];refine bB O ?_ ?_<;>intro aa
 .apply aG 9 [] m;simp only[↓U];obtain⟨a,rfl,R,z⟩:=P.get (show i<d.length by omega);apply S 4 [0] m;simp only[↓U,iJ,ai,aj,eo];apply I0;omega;refine aS O (lies1 (m.ext.cell R) fO) ?_;simp only[I];apply aJ 12 [0,0] m;simp only[↓U,fG];apply I0;omega;refine bB O ?_ ?_<;>intro ab
  .obtain⟨b,rfl,T,V⟩:=Q.get (show i<e.length by omega);apply aG 5 [0] m;simp only[↓U,iJ,ai,aj,eo];apply I0;omega;refine aS O (lies1 (m.ext.cell T) fO) ?_;simp only[I];apply aJ 3 [] m;simp only[↓U];apply I0;omega;obtain⟨s,k⟩:∃s:Nat,(s:Int)=↑d[i]+↑c+↑e[i]:=⟨d[i]+c+e[i],by omega⟩
   rw[<-k];have t:s=d[i]+c+e[i]?.getD 0:=by rw[ap (by omega)];simp;omega
   have y:e[i]?.getD 0<4294967296:=by rw[ap (by omega)];exact V
   apply S 4 [0] m;simp only[↓U];refine C (zX O O (uK (by omega) (by omega))) ?_;apply aJ 1 [0] m;simp only[↓U];refine C (pE O O (by omega) (Yw (by omega))) ?_;apply aJ 1 [0] m;simp only[↓U,iJ,ai,aj,eo];apply I0;omega;refine dP m 0 O O O bN (by simp;omega) ⟨rfl,rfl⟩ ?_;intro u m;simp only[I] at m ;rw[show ((s:Int)%4294967296)=((s%4294967296:Nat):Int) by omega,gH (by omega)] at m;apply aJ 7 [0] m;simp only[↓U];apply I0;omega;obtain⟨l,o,p,r⟩:=Gi (by omega) f h j g hc t z y;rw[show ((i:Int)+1)=((i+1:Nat):Int) by omega,show ((s:Int) / 4294967296)=((s / 4294967296:Nat):Int) by omega];exact X (d.length-(i+1)) _ _ (by omega) (by kernel_rfl) ⟨i+1,s / 4294967296,os.set i (s%4294967296),O,m,by omega,by simpa using f,l,o,p,r,O⟩
  obtain⟨s,k⟩:∃s:Nat,(s:Int)=↑d[i]+↑c:=⟨d[i]+c,by omega⟩
  rw[<-k];have t:s=d[i]+c+e[i]?.getD 0:=by rw[da (by omega)];simp;omega
  have y:e[i]?.getD 0<4294967296:=by rw[da (by omega)];decide
  apply aG 5 [0] m;simp only[↓U];refine C (zX O O (uK (by omega) (by omega))) ?_;apply aJ 1 [0] m;simp only[↓U];refine C (pE O O (by omega) (Yw (by omega))) ?_;apply aJ 1 [0] m;simp only[↓U,iJ,ai,aj,eo];apply I0;omega;refine dP m 0 O O O bN (by simp;omega) ⟨rfl,rfl⟩ ?_;intro u m;simp only[I] at m ;rw[show ((s:Int)%4294967296)=((s%4294967296:Nat):Int) by omega,gH (by omega)] at m;apply aJ 7 [0] m;simp only[↓U];apply I0;omega;obtain⟨l,o,p,r⟩:=Gi (by omega) f h j g hc t z y;rw[show ((i:Int)+1)=((i+1:Nat):Int) by omega,show ((s:Int) / 4294967296)=((s / 4294967296:Nat):Int) by omega];exact X (d.length-(i+1)) _ _ (by omega) (by kernel_rfl) ⟨i+1,s / 4294967296,os.set i (s%4294967296),O,m,by omega,by simpa using f,l,o,p,r,O⟩
 apply aG 2 [] m;simp only[↓U];obtain rfl:i=d.length:=by omega
 apply S 6 [0] m;simp only[↓U,fG,iJ,ai,aj,eo];apply I0;omega;refine dP m 0 O O O bN (by simp;omega) ⟨rfl,rfl⟩ ?_;intro u m;simp only[I] at m ;rw[gH (by omega)] at m;apply aJ 4 [0] m;simp only[↓U];refine cC m O O (yT _ ((m.b 0 O).nat (g.set (show c<4294967296 by omega)) (by simp;omega) (by omega))) ?_;rintro v u m rfl;apply aJ 3 [] m;simp only[↓U];refine aU O O ?_;try simp only[zD,zE]
 exact⟨_,O,m.ext,by first|exact iH.of_trim ((m.b 0 O).nat (g.set (show c<4294967296 by omega)) (by simp;omega) (by omega)) (Rb (by omega) f h j)|(rw[Nat.add_comm];exact iH.of_trim ((m.b 0 O).nat (g.set (show c<4294967296 by omega)) (by simp;omega) (by omega)) (Rb (by omega) f h j))⟩
def amZ{B:Option Addr}(w:an)(r:dN w A na ca xs)(q:dN w B nb cb ys)(R:ys.length<=xs.length)(P:val 4294967296 ys<=val 4294967296 xs)(aa:xs.length<=1099511627776):dF G1 188 [.slice A na ca,.slice B nb cb] w (λv w'=>iH (val 4294967296 xs-val 4294967296 ys) v w'/\zZ w v):=by
 refine⟨bK func188 (by kernel_rfl),?_⟩;have m:=Mem.refl w;obtain rfl:=r.eq;obtain rfl:=q.eq
 go_enter func188,ntmps188
 apply fD 8 [0] m;simp only[↓U,fG];refine lD dB pX O O O (ai _) (ai _) (by omega) (by omega) (by omega) (by omega) ?_;intro u E D H K;replace m:=m.newB D H K;apply aJ 2 [] m;simp only[↓U];rw[gT] at m;apply S 12 [0] m;simp only[↓U,fG];refine bU [6,14] [7,8,15,16,17,18,19,20,21,22,23,24,25,26,27,28,29,30,31,32,33,34,35,36,37,38,39,40] (λn vs L=>∃(i c:Nat)(os:List Nat),vs=[.int .u64 (c:Int),G (i:Int)]/\Mem w L [bI E (os.map mT) 231]/\(i<=xs.length)/\(os.length=xs.length)/\(val 4294967296 os+val 4294967296 (ys.take i)=val 4294967296 (xs.take i)+4294967296^i*c)/\(os.drop i=bx (xs.length-i) 0)/\(cX 4294967296 os)/\(c<=1)/\(n=xs.length-i)) ?_ ?_
 .exact⟨_,0,0,bx xs.length 0,O,m,by omega,by simp,by simp[fI,val],by simp,λx J=>by rw[fc J];decide,by omega,rfl⟩
 intro n vs wr F u V y;obtain⟨i,c,os,rfl,m,W,e,g,t,d,hc,X⟩:=F;simp only[zu,zF,zG];apply aG 5 [0,0] m;simp only[↓U];refine bB O ?_ ?_<;>intro Y
 .apply aG 9 [] m;simp only[↓U];obtain⟨a,rfl,M,z⟩:=r.get (show i<xs.length by omega);apply S 4 [0] m;simp only[↓U,iJ,ai,aj,eo];apply I0;omega;refine aS O (lies1 (m.ext.cell M) fO) ?_;simp only[I];apply aJ 1 [0] m;simp only[↓U];refine C (zW O O (gU _)) ?_;apply aJ 10 [0,0] m;simp only[↓U,fG];refine bB O ?_ ?_<;>intro Z
  .obtain⟨b,rfl,N,Q⟩:=q.get (show i<ys.length by omega);apply aG 5 [0] m;simp only[↓U,iJ,ai,aj,eo];apply I0;omega;refine aS O (lies1 (m.ext.cell N) fO) ?_;simp only[I];refine C (zW O O (gU _)) ?_;apply aJ 2 [] m;simp only[↓U];obtain⟨s,f⟩:∃s:Nat,(s:Int)=((↑xs[i]-↑c)%18446744073709551616-↑ys[i])%18446744073709551616:=⟨(((↑xs[i]-↑c)%18446744073709551616-↑ys[i])%18446744073709551616:Int).toNat,by omega⟩
   rw[<-f];have o:(s:Int)=((xs[i]:Nat)-(c:Nat)-(ys[i]?.getD 0:Nat):Int)%18446744073709551616:=by rw[ap (by omega)];simp only[dt];omega
   have p:ys[i]?.getD 0<4294967296:=by rw[ap (by omega)];exact Q
   have T:s<18446744073709551616:=by omega
   apply S 4 [0] m;simp only[↓U];refine C (zX O O (uK (by omega) (by omega))) ?_;apply aJ 1 [0] m;simp only[↓U];refine C (pE O O (by omega) (aq1 (by omega))) ?_;apply aJ 1 [0] m;simp only[↓U,iJ,ai,aj,eo];apply I0;omega;refine dP m 0 O O O bN (by simp;omega) ⟨rfl,rfl⟩ ?_;intro u m;simp only[I] at m ;rw[show ((s:Int)%4294967296)=((s%4294967296:Nat):Int) by omega,gH (by omega)] at m;apply aJ 7 [0] m;simp only[↓U];apply I0;omega;obtain⟨h,j,k,l⟩:=Yx (by omega) e g t d hc o z p;rw[show ((i:Int)+1)=((i+1:Nat):Int) by omega,show ((s:Int) / 9223372036854775808)=((s / 9223372036854775808:Nat):Int) by omega];exact y (xs.length-(i+1)) _ _ (by omega) (by kernel_rfl) ⟨i+1,s / 9223372036854775808,os.set i (s%4294967296),O,m,by omega,by simpa using e,h,j,k,l,O⟩
  obtain⟨s,f⟩:∃s:Nat,(s:Int)=(↑xs[i]-↑c)%18446744073709551616:=⟨((↑xs[i]-↑c)%18446744073709551616:Int).toNat,by omega⟩
  rw[<-f];have o:(s:Int)=((xs[i]:Nat)-(c:Nat)-(ys[i]?.getD 0:Nat):Int)%18446744073709551616:=by rw[da (by omega)];simp only[og];omega
  have p:ys[i]?.getD 0<4294967296:=by rw[da (by omega)];decide
  apply aG 1 [] m;simp only[↓U];have T:s<18446744073709551616:=by omega
  apply S 4 [0] m;simp only[↓U];refine C (zX O O (uK (by omega) (by omega))) ?_;apply aJ 1 [0] m;simp only[↓U];refine C (pE O O (by omega) (aq1 (by omega))) ?_;apply aJ 1 [0] m;simp only[↓U,iJ,ai,aj,eo];apply I0;omega;refine dP m 0 O O O bN (by simp;omega) ⟨rfl,rfl⟩ ?_;intro u m;simp only[I] at m ;rw[show ((s:Int)%4294967296)=((s%4294967296:Nat):Int) by omega,gH (by omega)] at m;apply aJ 7 [0] m;simp only[↓U];apply I0;omega;obtain⟨h,j,k,l⟩:=Yx (by omega) e g t d hc o z p;rw[show ((i:Int)+1)=((i+1:Nat):Int) by omega,show ((s:Int) / 9223372036854775808)=((s / 9223372036854775808:Nat):Int) by omega];exact y (xs.length-(i+1)) _ _ (by omega) (by kernel_rfl) ⟨i+1,s / 9223372036854775808,os.set i (s%4294967296),O,m,by omega,by simpa using e,h,j,k,l,O⟩
 apply aG 2 [] m;simp only[↓U];obtain rfl:i=xs.length:=by omega
 apply S 2 [0] m;simp only[↓U];refine cC m O O (yT _ ((m.b 0 O).nat d (by omega) (by omega))) ?_;rintro v u m rfl;apply aJ 3 [] m;simp only[↓U];exact aU O O ⟨_,O,m.ext,iH.of_trim ((m.b 0 O).nat d (n:=xs.length) (by omega) (by omega)) (aoD R e d g P),zZ.of_blk (m.gb 0 O)⟩
def am0{B:Option Addr}(w:an)(p:dN w A na ca xs)(o:dN w B nb cb ys)(aa:xs.length<=1099511627776)(ab:ys.length<=1099511627776):dF G1 189 [.slice A na ca,.slice B nb cb] w (iH (val 4294967296 xs*val 4294967296 ys)):=by
 refine⟨bK func189 (by kernel_rfl),?_⟩;have m:=Mem.refl w;obtain rfl:=p.eq;obtain rfl:=o.eq
 go_enter func189,ntmps189
 apply fD 11 [0] m;simp only[↓U,fG];apply I0;omega;refine lD dB pX O O O (show _=xs.length+ys.length by omega) (show _=xs.length+ys.length by omega) (by omega) (by omega) (by omega) (by omega) ?_;intro u l y z E;replace m:=m.newB y z E;apply aJ 2 [] m;simp only[↓U];rw[gT] at m;apply S 8 [0] m;simp only[↓U,fG];refine bU [20] [6,7,8,9,10,11,21,22,23,24,25,26,27,28,29,30,31,32,33,34,35,36,37,38,39,40,41,42,43,44,45,46,47,48,49,50,51,52,53,54,55,56,57,58,59,60,61] (λn vs j=>∃(i:Nat)(os:List Nat),vs=[G (i:Int)]/\Mem w j [bI l (os.map mT) 231]/\(i<=xs.length)/\(os.length=xs.length+ys.length)/\(val 4294967296 os=val 4294967296 (xs.take i)*val 4294967296 ys)/\(os.drop (i+ys.length)=bx (xs.length-i) 0)/\(cX 4294967296 os)/\(n=xs.length-i)) ?_ ?_
 .exact⟨_,0,bx (xs.length+ys.length) 0,O,m,by omega,by simp,by rw[fI,jz];simp only[val,Nat.zero_mul],by rw[List.drop_replicate];congr 1;omega,λx D=>by rw[fc D];decide,rfl⟩
 intro n vs wr g u Q H;obtain⟨i,os,rfl,m,T,e,r,f,d,W⟩:=g;simp only[zu,zF,zG];apply aG 5 [0,0] m;simp only[↓U];refine bB O ?_ ?_<;>intro X
 .apply aG 4 [] m;simp only[↓U];obtain⟨a,rfl,K,M⟩:=p.get (show i<xs.length by omega);apply S 3 [0] m;simp only[↓U,iJ,ai,aj,eo];apply I0;omega;refine aS O (lies1 (m.ext.cell K) fO) ?_;simp only[I];apply aJ 15 [0] m;simp only[↓U,fG];refine bU [8,27] [9,10,11,28,29,30,31,32,33,34,35,36,37,38,39,40,41,42,43,44,45,46,47,48,49,50,51,52,53] (λn vs j=>∃(k c:Nat)(os:List Nat),vs=[.int .u64 (c:Int),G (k:Int)]/\Mem w j [bI l (os.map mT) 231]/\(k<=ys.length)/\(os.length=xs.length+ys.length)/\(val 4294967296 os+4294967296^(i+k)*c=val 4294967296 (xs.take i)*val 4294967296 ys+4294967296^i*(xs[i]*val 4294967296 (ys.take k)))/\(os.drop (i+ys.length)=bx (xs.length-i) 0)/\(cX 4294967296 os)/\(c<4294967296)/\(n=ys.length-k)) ?_ ?_
  .exact⟨_,0,0,os,O,m,by omega,e,by rw[jz,r];simp only[val,Nat.mul_zero],f,d,by omega,rfl⟩
  intro n vs wr g u R J;obtain⟨k,c,os,rfl,m,V,e,t,f,d,hc,af⟩:=g;simp only[zu,zF,zG];apply aG 5 [0,0] m;simp only[↓U];refine bB O ?_ ?_<;>intro Y
  .apply aG 4 [] m;simp only[↓U];obtain⟨b,rfl,L,N⟩:=o.get (show k<ys.length by omega);apply S 3 [0] m;simp only[↓U,iJ,ai,aj,eo];apply I0;omega;refine aS O (lies1 (m.ext.cell L) fO) ?_;simp only[I];apply aJ 4 [] m;simp only[↓U];have Z:=(m.b 0 rfl).word (show i+k<os.length by omega);have ag:=d.get (ap (show i+k<os.length by omega));obtain⟨ad,ae⟩:=aoF M N;apply S 5 [0] m;simp only[↓U];apply I0;omega;refine C (aP dB bN O O (by omega) (by omega) (rQ (show _=i+k by omega))) ?_;simp only[I];refine aS O (lies1 ((m.b 0 O).word (show i+k<os.length by omega)) fO) ?_;simp only[I];apply aJ 8 [] m;simp only[↓U];apply I0;omega;obtain⟨s,q⟩:∃s:Nat,s=os[i+k]+xs[i]*ys[k]+c:=⟨_,rfl⟩
   have P:(↑os[i+k]+↑xs[i]*↑ys[k]+↑c:Int)=(s:Int):=by rw[q];simp
   rw[P];have ah:s<18446744073709551616:=by omega
   apply S 6 [0] m;simp only[↓U];apply I0;omega;refine C (zX O O (uK (by omega) (by omega))) ?_;apply aJ 1 [0] m;simp only[↓U];refine C (pE O O (by omega) (Yw (by omega))) ?_;simp only[I];refine C (aP dB bN O O (by omega) (by omega) (rQ (show _=i+k by omega))) ?_;simp only[I];refine dP m 0 O O O bN (by simp;omega) ⟨rfl,rfl⟩ ?_;intro u m;simp only[I] at m ;rw[show ((s:Int)%4294967296)=((s%4294967296:Nat):Int) by omega,gH (by omega)] at m;apply aJ 7 [0] m;simp only[↓U];apply I0;omega;have h:=ah8 (by omega) (by omega) e t q;rw[show ((k:Int)+1)=((k+1:Nat):Int) by omega,show ((s:Int) / 4294967296)=((s / 4294967296:Nat):Int) by omega];exact J (ys.length-(k+1)) _ _ (by omega) (by kernel_rfl) ⟨k+1,s / 4294967296,os.set (i+k) (s%4294967296),O,m,by omega,by simpa using e,h,by rw[uL (by omega)];exact f,d.set (by omega),by omega,O⟩
  apply aG 1 [] m;simp only[↓U];obtain rfl:k=ys.length:=by omega
  apply S 7 [0] m;simp only[↓U,fG];apply I0;omega;refine C (aP dB bN O O (by omega) (by omega) (rQ (show _=i+ys.length by omega))) ?_;simp only[I];refine dP m 0 O O O bN (by simp;omega) ⟨rfl,rfl⟩ ?_;intro u m;simp only[I] at m ;rw[gH (by omega)] at m;apply aJ 6 [0] m;simp only[↓U];apply I0;omega;obtain⟨h,F⟩:=aoE (by omega) e t f;rw[show ((i:Int)+1)=((i+1:Nat):Int) by omega];exact H (xs.length-(i+1)) _ _ (by omega) (by kernel_rfl) ⟨i+1,os.set (i+ys.length) c,O,m,by omega,by simpa using e,h,F,d.set (by omega),O⟩
 apply aG 2 [] m;simp only[↓U];obtain rfl:i=xs.length:=by omega
 apply S 2 [0] m;simp only[↓U];refine cC m O O (yT _ ((m.b 0 O).nat d (by omega) (by omega))) ?_;rintro v u m rfl;apply aJ 3 [] m;simp only[↓U];exact aU O O ⟨_,O,m.ext,iH.of_trim ((m.b 0 O).nat d (n:=xs.length+ys.length) (by omega) (by omega)) (by rw[r,fe])⟩
end Go.Proofs.YtfekpcimgncioaaGreatDoor
namespace Go.Lith
open Go.RowKit
section
variable{P:cg}{ops:Array Oper}{Q:Exit->Act->an->Prop}{md:Region.Mode}{S:an->Prop}{tl:List Nat}
def Jq(P:cg)(md:Region.Mode)(ops:Array Oper)(Q:Exit->Act->an->Prop)(S:an->Prop)(tl:List Nat):Nat->Array Bool->Act->an->Prop
 |0,b,a,w=>Region.ready md ops b=[]/\Q .normal a w
 |fuel+1,b,a,w=>
  (Region.ready md ops b=[]->Q .normal a w) /\
  ∀i∈Region.ready md ops b,wpOp P ops Q i (λc w'=>(i∉tl->S w->S w')/\Jq P md ops Q S tl fuel (b.setIfInBounds i Z) c w') a w
def Wa:∀(fuel:Nat)(b:Array Bool)(a:Act)(w:an),Jq P md ops Q S tl fuel b a w->wpAny P md ops Q fuel b a w
 |0,_,_,_,h=>h
 |fuel+1,_,_,_,h=>⟨h.1,λi e=>wpOp_mono (λc w' d=>Wa fuel _ c w' d.2) (h.2 i e)⟩
def afW(md:Region.Mode)(ops:Array Oper)(b:Array Bool):Prop:=∀j a,ops[j]? = H a->b.getD j X9=Z->∀e∈a.after,Region.binds md e=Z->b.getD e.on X9=Z
def Wb(md:Region.Mode)(ops:Array Oper):Nat->Nat->Nat->Bool
 |0,_,_=>X9
 |f+1,j,i=>match ops[j]? with
  |none=>X9
  |some o=>o.after.any λe=>Region.binds md e&&(e.on == i||Wb md ops f e.on i)
def Lv{c:Array Bool}(D:afW md ops c){i:Nat}:∀(f j:Nat),(∀a,ops[j]? = H a->∀e∈a.after,Region.binds md e=Z->c.getD e.on X9=Z)->Wb md ops f j i=Z->c.getD i X9=Z
 |0,_,_,h=>by cases h
 |f+1,j,m,h=>by
  unfold Wb at h;split at h
  .cases h
  rename_i o p
  rw[Array.any_eq_true] at h;obtain⟨k,n,b⟩:=h;rw[bt,iy,beq_iff_eq] at b;have d:=m o p _ (Array.getElem_mem n) b.1;rcases b.2 with e|hn
  .rw[<-e];exact d
  exact Lv D f _ (λa q e l g=>D _ a q d e l g) hn
def afW.set{b:Array Bool}(D:afW md ops b){i:Nat}(h:i∈Region.ready md ops b):afW md ops (b.setIfInBounds i Z):=λj l a g e f d=>by
 obtain⟨n,o,k,m⟩:=mem_ready.1 h;by_cases c:i=j
 . subst c
   rw[k] at a;cases a;exact getD_set_true (m e f d)
 rw[getD_set_ne X9 c] at g
 exact getD_set_true (D j l a g e f d)
def Lw{S':an->Prop}{i:Nat}{m:Oper}{v:ak}(A:ops[i]? = H m)(L:∀(j:Nat) (o:Oper) cs b,ops[j]? = H o->o.op≠.select cs b)
 (O:∀c a w,Q (.panic c) (a.put m.dst v) w->Q (.panic c) a w) (t:(∀w,S' w)\/((∀w,S w->S' w)/\∀j∈tl,∃f,Wb md ops f j i=Z)) :
 ∀(r:Nat)(d:Array Bool)(a:Act)(w:an),
  (∀j n,ops[j]? = H n->j≠i->d.getD j Z=X9->(∀e∈n.after,Region.binds md e=Z->e.on≠i)->m.apart ops n=Z) ->
  i∈Region.ready md ops d->afW md ops d->YieldsIf P ops S' m v a->(S w\/∀w,S' w) ->
  Jq P md ops Q S tl r (d.setIfInBounds i Z) (a.put m.dst v) w->Jq P md ops Q S tl (r+1) d a w:=by
 intro r;have C:∀w,(S w\/∀w,S' w)->S' w:=λw h=>by
  rcases h with h|h
  . rcases t with k|k
    .exact k w
    exact k.1 w h
  exact h w
 induction r with
 |zero=>
  intro d a w _ l D u hS p;refine⟨λh=>(by rw[h] at l;cases l),λj q=>?_⟩;by_cases g:j=i
  .subst g;exact u.wpOp A (C w hS) ⟨λ_ h=>h,p⟩
  have:=ready_mono q g
  rw[p.1] at this;cases this
 |succ r ih=>
  intro d a w M l D u hS p;refine⟨λh=>(by rw[h] at l;cases l),λj q=>?_⟩;by_cases g:j=i
  .subst g;exact u.wpOp A (C w hS) ⟨λ_ h=>h,p⟩
  have h1:=p.2 j (ready_mono q g)
  obtain⟨J,n,x,G⟩:=mem_ready.1 q;have I:d.getD i X9=Z->False:=λh1=>by
   have B:=(mem_ready.1 l).1;rcases d_ i d.size with h'|h'
   .simp[h'] at B h1;rw[B] at h1;cases h1
   simp[Array.getElem?_eq_none h'] at h1
  have X:∀e∈n.after,Region.binds md e=Z->e.on≠i:=λe z y U=>I (U▸G e z y);have h2:=wpOp_putIf x (M j n x g J X) (λcs b=>L i m cs b A) (λcs b=>L j n cs b x) O u h1;have aa:∀k ok,ops[k]? = H ok->k≠i->(d.setIfInBounds j Z).getD k Z=X9 ->
   (∀e∈ok.after,Region.binds md e=Z->e.on≠i)->m.apart ops ok=Z:=λk ok t V F W=>by
   refine M k ok t V ?_ W;by_cases E:j=k
   .subst E;exact J
   rw[getD_set_ne Z E] at F;exact F
  have Y:∀w',(j∉tl->S w->S w')->(S w'\/∀w,S' w):=λw' h=>by
   rcases t with k|k
   .exact .inr k
   rcases hS with hS|hS
   . refine .inl (h (λT=>?_) hS)
     obtain⟨f,R⟩:=k.2 j T;exact I (Lv D f j (λab K e z y=>by rw[x] at K;cases K;exact G e z y) R)
   exact .inr hS
  refine wpOp_mono (λN w' s=>⟨s.2.1,ih (d.setIfInBounds j Z) N w' aa (ready_mono l (Ne.symm g)) (D.set q) s.1 (Y w' s.2.1) ?_⟩) h2;rw[Array.setIfInBounds_comm _ _ g];exact s.2.2
def Wc{rs:List Nat}{d:Nat}{b:Array Bool}{a:Act}{w:an}(c:Region.ready md ops b=rs)(g:rs≠[])
 (h:∀i∈rs,wpOp P ops Q i (λe w'=>(i∉tl->S w->S w')/\Jq P md ops Q S tl d (b.setIfInBounds i Z) e w') a w):Jq P md ops Q S tl (d+1) b a w:=
 ⟨λf=>Y0 (c▸f) g,c▸h⟩
inductive yU where
 |nil:yU
 |take:Nat->yU->yU
 |move:Nat->yU->yU
 |one:Nat->yU->yU
 |two:Nat->yU->Nat->yU->yU
def yU.ok(md:Region.Mode)(ops:Array Oper)(tl:List Nat):yU->Nat->Array Bool->Bool->Bool
 |.nil,f,a,_=>f == 0&&(Region.ready md ops a).isEmpty
 |.take i t,f,a,b=>decide (0<f)&&(ops[i]?).isSome&&Region.free md ops a i&&(Region.ready md ops a).contains i&&b&&tl.all (λj=>Wb md ops 6 j i)&&t.ok md ops tl (f-1) (a.setIfInBounds i Z) b
 |.move i t,f,a,b=>decide (0<f)&&(ops[i]?).isSome&&Region.free md ops a i&&(Region.ready md ops a).contains i&&t.ok md ops tl (f-1) (a.setIfInBounds i Z) b
 |.one i t,f,a,b=>decide (0<f)&&(ops[i]?).isSome&&decide (Region.ready md ops a=[i])&&t.ok md ops tl (f-1) (a.setIfInBounds i Z) (b && !tl.contains i)
 |.two i t j u,f,a,b=>decide (0<f)&&(ops[i]?).isSome&&(ops[j]?).isSome&&decide (Region.ready md ops a=[i,j])&&t.ok md ops tl (f-1) (a.setIfInBounds i Z) (b && !tl.contains i)&&u.ok md ops tl (f-1) (a.setIfInBounds j Z) (b && !tl.contains j)
def iY(P:cg)(ops:Array Oper)(S:an->Prop)(tl:List Nat)(Q:Exit->Act->an->Prop):yU->Act->an->Prop
 |.nil,a,w=>Q .normal a w
 |.take i t,a,w=>cJ P ops S (λ_ a w=>iY P ops S tl Q t a w) [((ops[i]?).getD default,Z)] a w
 |.move i t,a,w=>cJ P ops (λ_=>True) (λ_ a w=>iY P ops S tl Q t a w) [((ops[i]?).getD default,Z)] a w
 |.one i t,a,w=>bf P ops (Exit.then (λa w=>(i∉tl->S w)/\iY P ops S tl Q t a w) Q) [(ops[i]?).getD default] a w
 |.two i t j u,a,w=>bf P ops (Exit.then (λa w=>(i∉tl->S w)/\iY P ops S tl Q t a w) Q) [(ops[i]?).getD default] a w/\bf P ops (Exit.then (λa w=>(j∉tl->S w)/\iY P ops S tl Q u a w) Q) [(ops[j]?).getD default] a w
def mJ{Q:Exit->Act->an->Prop}(x:Region.noSelect ops=Z)(r:∀c d v a w,Q (.panic c) (Act.put a d v) w->Q (.panic c) a w):∀(t:yU)(f:Nat)(m:Array Bool)(b:Bool)(a:Act)(w:an),
 t.ok md ops tl f m b=Z->afW md ops m->(b=Z->S w)->iY P ops S tl Q t a w->Jq P md ops Q S tl f m a w
 |.nil,f,m,b,a,w,e,_,_,h=>by
  simp only[yU.ok,bt,beq_iff_eq] at e;obtain⟨rfl,h2⟩:=e;exact⟨by simpa using h2,h⟩
 |.take i t,f,m,b,a,w,e,D,y,h=>by
  simp only[yU.ok,bt,Y2] at e;obtain⟨⟨⟨⟨⟨⟨B,h1⟩,h2⟩,C⟩,n⟩,s⟩,q⟩:=e;obtain⟨o,l⟩:=el.1 h1;simp only[iY,cJ,l,dt] at h;obtain⟨v,G,F⟩:=h;obtain⟨f,rfl⟩:∃g,f=g+1:=⟨f-1,by omega⟩
  have A:i∈Region.ready md ops m:=by simpa using C
  refine Lw (S':=S) l (Region.noSelect_spec x) (λc a w=>r c _ v a w) (.inr ⟨λ_ h=>h,λj E=>⟨6,List.all_eq_true.1 s j E⟩⟩) f m a w (Region.free_spec l h2) A D G (.inl (y n)) ?_;exact mJ x r t f _ b _ _ q (D.set A) y F
 |.move i t,f,m,b,a,w,e,D,y,h=>by
  simp only[yU.ok,bt,Y2] at e;obtain⟨⟨⟨⟨B,h1⟩,h2⟩,C⟩,q⟩:=e;obtain⟨o,l⟩:=el.1 h1;simp only[iY,cJ,l,dt] at h;obtain⟨v,G,F⟩:=h;obtain⟨f,rfl⟩:∃g,f=g+1:=⟨f-1,by omega⟩
  have A:i∈Region.ready md ops m:=by simpa using C
  refine Lw (S':=λ_=>True) l (Region.noSelect_spec x) (λc a w=>r c _ v a w) (.inl λ_=>trivial) f m a w (Region.free_spec l h2) A D G (.inr λ_=>trivial) ?_;exact mJ x r t f _ b _ _ q (D.set A) y F
 |.one i t,f,m,b,a,w,e,D,y,h=>by
  simp only[yU.ok,bt,Y2] at e;obtain⟨⟨⟨B,h1⟩,h2⟩,q⟩:=e;obtain⟨o,l⟩:=el.1 h1;obtain⟨f,rfl⟩:∃g,f=g+1:=⟨f-1,by omega⟩
  refine Wc h2 (by simp) λj E=>?_;obtain rfl:j=i:=by simpa using E
  simp only[iY,l,dt] at h;refine wpOp_mono (λz w' p=>⟨λs _=>p.1 s,mJ x r t f _ _ z w' q (D.set (by rw[h2];exact bp.2 O)) (λn=>p.1 ?_) p.2⟩) (jT l h);simp only[bt,ip,List.contains_eq_mem,Y7] at n;exact n.2
 |.two i t j u,f,m,b,a,w,e,D,y,h=>by
  simp only[yU.ok,bt,Y2] at e;obtain⟨⟨⟨⟨⟨B,h1⟩,L⟩,h2⟩,q⟩,J⟩:=e;obtain⟨o,l⟩:=el.1 h1;obtain⟨o',I⟩:=el.1 L;obtain⟨f,rfl⟩:∃g,f=g+1:=⟨f-1,by omega⟩
  simp only[iY,l,I,dt] at h;have H:∀{k:Nat},(b && !tl.contains k)=Z->k∉tl:=λ{k} n=>by
   simp only[bt,ip,List.contains_eq_mem,Y7] at n;exact n.2
  refine Wc h2 (by simp) λk K=>?_;have M:k=i\/k=j:=by simpa using K
  rcases M with rfl|rfl
  .exact wpOp_mono (λz w' p=>⟨λs _=>p.1 s,mJ x r t f _ _ z w' q (D.set (by rw[h2];simp)) (λn=>p.1 (H n)) p.2⟩) (jT l h.1)
  exact wpOp_mono (λz w' p=>⟨λs _=>p.1 s,mJ x r u f _ _ z w' J (D.set (by rw[h2];simp)) (λn=>p.1 (H n)) p.2⟩) (jT I h.2)
def atU(md:Region.Mode)(ops:Array Oper)(n:Nat):afW md ops (ie n X9):=λj b _ a=>by
 rcases d_ j n with h|h
 .simp[h] at a
 simp[Nat.not_lt.2 h] at a
variable{w w0:an}{is:List It}{a:Act}{ds:List eh}{l:List ak}
def am1{id:Nat}{ol:List Oper}(m:Mem w0 w is)(bs:List Bool)(tl:List Nat)(t:yU)(g:P.follows .mixedOrders=Z)(b:(Region.noSelect ol.toArray&&t.ok .any ol.toArray tl ol.toArray.size (ie ol.toArray.size X9) Z)=Z)
 (f:∀c d v a w,Q (.panic c) (Act.put a d v) w->Q (.panic c) a w)
 (h:∀u,Mem w0 u is->iY P ol.toArray (λu=>Mem w0 u (rT bs is)) tl Q t a u):(Code.region id ol.toArray Z).wp P Q a w:=by
 simp only[bt] at b;have e:=m.ext' (eQ.refl w).drawn;exact wp_region_any g (Wa _ _ _ _ (mJ (S:=λu=>Mem w0 u (rT bs is)) b.1 f t _ _ Z _ _ b.2 (atU _ _ _) (λ_=>e.sel bs) (h _ e)))
variable{o o':Oper}{i j:Nat}{t u:yU}
def adP(h:Q .normal a w):iY P ops S tl Q .nil a w:=h
def gG(b:(ops[i]?).getD default=o)(h:cJ P ops S (λ_ a w=>iY P ops S tl Q t a w) [(o,Z)] a w):iY P ops S tl Q (.take i t) a w:=by subst b;exact h
def xI(b:(ops[i]?).getD default=o)(h:cJ P ops (λ_=>True) (λ_ a w=>iY P ops S tl Q t a w) [(o,Z)] a w):iY P ops S tl Q (.move i t) a w:=by subst b;exact h
def vC(b:(ops[i]?).getD default=o)(h:bf P ops (Exit.then (λa w=>(i∉tl->S w)/\iY P ops S tl Q t a w) Q) [o] a w):iY P ops S tl Q (.one i t) a w:=by subst b;exact h
def art(c:(ops[i]?).getD default=o)(d:(ops[j]?).getD default=o')(h:bf P ops (Exit.then (λa w=>(i∉tl->S w)/\iY P ops S tl Q t a w) Q) [o] a w)(b:bf P ops (Exit.then (λa w=>(j∉tl->S w)/\iY P ops S tl Q u a w) Q) [o'] a w):iY P ops S tl Q (.two i t j u) a w:=by
 subst c;subst d;exact⟨h,b⟩
end
end Go.Lith
