/-
 Texts of one claim, laid together: K73, K74, Cmp, Grow2, SortPt, Maps1, W1, Rchk2, W2, Ent, W3, K1, K2.
-/
import Derived.Shelf.SlLaysF0
import Derived.Test.YtfekpcimgncioaaGreatDoorProg
import Derived.Test.YtfekpcimgncioaaGreatDoorG4
open Nat renaming reduceAdd→aa,reduceMul→ah,le_refl→ao,zero_add→ar,zero_le→cq,lt_succ_self→fg,min_eq_left→ib,add_sub_cancel→ii
open Int renaming reduceToNat→ad,toNat_natCast→ag,reduceAdd→am
open Go renaming Value→ai,World→aj,wp_region_lit→aq,wpList→au,TypeId→av,Operand→bz,run_underlying→cn,wpQuiet→cu,MapEntry→de,Deferred→dw,wp_ret→je,wp_block→jm,wp_skip→jy,wp_loop_rounds→pf
open List renaming getElem?_eq_getElem→ak,mem_cons→an,getElem?_eq_some_iff→ap,flatMap_append→aw,length_cons→ay,mem_singleton→az,length_append→a_,length_map→bf,take_of_length_le→bi,mem_append→br,nil_append→bt,length_take→bw,length_nil→cd,cons_append→cg,not_mem_nil→cl,map_append→ct,range→c_,append_assoc→da,replicate→db,getElem?_map→eh,getD_eq_getElem?_getD→ej,append_nil→eo,eq_nil_of_length_eq_zero→et,length_drop→fm,length_filter_le→ft,foldl_append→gl,set_cons_zero→gq,take_length→gt,length_set→gv,range_succ→gw,filter_append→ij,flatMap_singleton→jq,set_append_right→kz,replicate_succ→nh,map_set→ox
open Bool renaming and_eq_true→ba,not_true→ff,not_false→fh
open Go.Value renaming bool→bm
open Go.Oper renaming mk→bx
open Go.Exit renaming inBlock→di
open Option renaming getD_some→dx,map_some→fa
open Array renaming getElem?_eq_some_iff→dz,getElem?_modify→jz,ext_getElem?→kx
open Option.some renaming inj→ep,injEq→ie
open Prod.mk renaming injEq→fk
set_option maxHeartbeats 8000000
set_option linter.unusedSimpArgs false
set_option linter.unusedVariables false
set_option linter.unusedSectionVars false
namespace Go.Proofs.YtfekpcimgncioaaGreatDoor
open Go.Proofs.Tryz
open Go.RowKit Go.Lith
variable{x cx cy cz ci:Nat}{vt:P3→Bool}{nx:List Int}{ins:List Bool}
abbrev Mz:=@underlying284
abbrev pA:=@underlying285
abbrev agS:=@underlying5
abbrev Eg:=@underlying62
set_option maxRecDepth 100000
attribute [local irreducible] au cu fA bF cG Code.wp
attribute [local congr] nO fK fM fN fO fP iY fQ fR fS fT fU fV fW fX fY fZ gA dX dY gB gC gE gF gG jA cQ cR cE cP gD iZ dZ eA eB gH gI jD
def Xz(b:Bool):List ai:=[.bool b]
def Vq:List Bool→Nat
 | []=>0
 | b::l=>(if b then 0 else 1)+Vq l
theorem Iq:∀{l:List Bool} {x:Nat},l[x]? = some false→Vq (l.set x true)+1=Vq l
 | b::l,0,h=>by
  cases (show b=false by simpa using h);simp[Vq];omega
 | b::l,x+1,h=>by
  have:=Iq (l:=l) (x:=x) (by simpa using h);simp only[List.set_cons_succ,Vq];omega
 | [],x,h=>by simp at h
theorem jS.overB{bs ns}(h:jS bs ns){v:Nat}{q:Bool}(hv:v<8):Lith.over (lN bs ns) v [.bool q]=lN (bs.set v q) ns:=by
 rw[Fo (by rw[h.len];omega),lN,List.set_append_left _ _ (by rw[bf,h.b];exact hv),lN,ox]
theorem aql{w:aj}{a:Addr}{n:Nat}{v:ai}(h:mT w (a.add (n*1)) [v]):w.cell? (a.add n)=some v:=by
 have:=h 0 v rfl;rw[Nat.mul_one] at this;exact this
theorem am6{sn:List Bool}(h:x<sn.length):over (sn.map bm) x [.bool true]=(sn.set x true).map bm:=by
 rw[Fo (by rw[bf];exact h),ox]
theorem jS.nxE{bs ns}(h:jS bs ns){p:Nat}(hp:p<24):(lN bs ns)[8+p]? = some (.int .i64 (ns.getD p (-1)))∧-1≤ns.getD p (-1)∧ns.getD p (-1)<24:=by
 have hl:p<ns.length:=by rw[h.n];exact hp
 rw[ej,ak hl];refine⟨?_,h.r _ (List.getElem_mem _)⟩;rw[lN,List.getElem?_append_right (by rw[bf,h.b];omega),bf,h.b,Nat.add_sub_cancel_left,eh,ak hl];rfl
def Ya(ins:List Bool)(vt:P3→Bool):Prop:=∀x y z:Nat,x≤4→y≤4→z≤4→ins[(z*5+y)*5+x]? = some (vt ⟨x,y,z⟩)
def inF(vt:P3→Bool)(cx cy cz v:Nat):Bool:=vt ⟨(cx+v%2:Nat),(cy+v / 2%2:Nat),(cz+v / 4:Nat)⟩
def wE(vt:P3→Bool)(cx cy cz:Nat):List Bool:=(c_ 8).map (inF vt cx cy cz)
def bsF(f:Nat→Bool)(v:Nat):List Bool:=(c_ v).map f++db (8-v) false
def nsF(e:Nat):List Int:=db e (-1)++db (24-e) 0
theorem aqm{f:Nat→Bool}{v:Nat}(hv:v≤8):jS (bsF f v) (db 24 0):=⟨by simp[bsF];omega,rfl,by decide⟩
theorem am7{f:Nat→Bool}{v:Nat}(hv:v<8):(bsF f v).set v (f v)=bsF f (v+1):=by
 unfold bsF;rw[kz _ _ (by simp),bf,List.length_range,Nat.sub_self,show 8-v=8-(v+1)+1 by omega,nh,gq,gw,ct,da];rfl
theorem asu   : bsF (inF vt cx cy cz) 8=wE vt cx cy cz:=by simp[bsF,wE]
theorem ajU{bs:List Bool}{e:Nat}(hb:bs.length=8)(he:e≤24):jS bs (nsF e):=⟨hb,by simp[nsF];omega,fun x hx=>by
 rcases br.1 hx with h | h <;> (rw[List.eq_of_mem_replicate h];decide)⟩
theorem am8{e:Nat}(he:e<24):(nsF e).set e (-1)=nsF (e+1):=by
 unfold nsF;rw[kz _ _ (by simp),List.length_replicate,Nat.sub_self,show 24-e=24-(e+1)+1 by omega,nh,gq,List.replicate_succ',da];rfl
def nxA(I:List Bool)(a:Nat):List Int:=(c_ a).foldl (fun nx a=>Jz I (Jz I nx a false) a true) (db 24 (-1))
theorem ajV(I:List Bool)(a:Nat):nxA I (a+1)=Jz I (Jz I (nxA I a) a false) a true:=by
 unfold nxA;rw[gw,gl];rfl
theorem asv{sn:List Bool}{f:Nat}(h0:0≤nx.getD x (-1))(h1:sn.getD x false=false):rI nx (f+1) sn x=(x::(rI nx f (sn.set x true) (nx.getD x (-1)).toNat).1,(rI nx f (sn.set x true) (nx.getD x (-1)).toNat).2):=by
 rw[rI,if_pos ⟨h0,h1⟩]
theorem aos{nx:List Int}{sn:List Bool}{x:Nat}(h:¬(0≤nx.getD x (-1)∧sn.getD x false=false)):∀f,rI nx f sn x=([],sn)
 | 0=>rfl
 | f+1=>by rw[rI,if_neg h]
def Ih(nx:List Int)(e:Nat):List (List Nat) × List Bool:=(c_ e).foldl (ap6 nx) ([],db 24 false)
theorem ab7(nx:List Int)(e:Nat):Ih nx (e+1)=ap6 nx (Ih nx e) e:=by
 unfold Ih;rw[gw,gl];rfl
theorem aot{e:Nat}(h:(rI nx 24 (Ih nx e).2 e).1≠[]):Ih nx (e+1)=((Ih nx e).1++[(rI nx 24 (Ih nx e).2 e).1],(rI nx 24 (Ih nx e).2 e).2):=by
 rw[ab7];show ((if (rI nx 24 (Ih nx e).2 e).1=[] then (Ih nx e).1 else (Ih nx e).1++[(rI nx 24 (Ih nx e).2 e).1]),(rI nx 24 (Ih nx e).2 e).2)=_
 rw[if_neg h]
theorem aou{e:Nat}(h:(rI nx 24 (Ih nx e).2 e).1=[]):Ih nx (e+1)=((Ih nx e).1,(rI nx 24 (Ih nx e).2 e).2):=by
 rw[ab7];show ((if (rI nx 24 (Ih nx e).2 e).1=[] then (Ih nx e).1 else (Ih nx e).1++[(rI nx 24 (Ih nx e).2 e).1]),(rI nx 24 (Ih nx e).2 e).2)=_
 rw[if_pos h]
def aqo(c:P3)(l:List Nat):List T3:=Ka (l.map (Xu c 524288))
theorem ajW{A:Option Addr}(w:aj)(hF:vY Xz 1 w A 125 ins)(hV:Ya ins vt)(hx:cx≤3)(hy:cy≤3)(hz:cz≤3):dK prog 143 [.agg #[.int .i64 2,.slice A 125 ci],.agg #[.int .i64 (cx:Int),.int .i64 (cy:Int),.int .i64 (cz:Int)]] w (fun v w'=>((wY (wE vt cx cy cz) ⟨cx,cy,cz⟩ 524288).length≤24∧∀t∈wY (wE vt cx cy cz) ⟨cx,cy,cz⟩ 524288,SmT t)∧SL 39 9 ((wY (wE vt cx cy cz) ⟨cx,cy,cz⟩ 524288).flatMap aM) (wY (wE vt cx cy cz) ⟨cx,cy,cz⟩ 524288).length w v w'):=by
 refine⟨bP func143 (by kernel_rfl),?_⟩;have m:=Mem.refl w;have hIl:(wE vt cx cy cz).length=8:=by simp[wE]
 go_enter func143,ntmps143
 apply mR 9 [] m;simp only[↓aC,apO,aa];intro g1 g2 u m;apply Wy 1 [] m;simp only[↓aC];intro g3 u m;apply aW 8 [0] m;simp only[↓aC];refine bX [6] [17,18,19,20,21,22,23,24,25,26,27,28,29,30,31,32,33,34,35,36,37,38,39,40,41,42,43,44,45,46,47,48] (fun n vs wl=>∃(v:Nat),vs=[.int .i64 (v:Int)]∧Mem w wl [bI g3 (lN (bsF (inF vt cx cy cz) v) (db 24 0)) 264,bI g2 [.int .i64 (cx:Int),.int .i64 (cy:Int),.int .i64 (cz:Int)] 36,bI g1 [.int .i64 2,.slice A 125 ci] 139]∧(v≤8)∧(n=8-v)) ?_ ?_
 ·
  exact⟨_,0,rfl,m,by omega,rfl⟩
 · intro n vs wr hI u K1 hK1
   obtain⟨v,rfl,m,hv,hn⟩:=hI;simp only[zu,zF,zG];apply aK 6 [0,0] m;simp only[↓aC];refine bA rfl ?_ ?_<;>intro hc1
   ·
    have hv8:v<8:=by omega
    apply aK 3 [] m;simp only[↓aC];have hc:=aqm (f:=(inF vt cx cy cz)) (v:=v) (by omega);obtain⟨bq,hbq,a,hA,hrow⟩:=hF.get (i:=((cz+v / 4)*5+(cy+v / 2%2))*5+(cx+v%2)) (by omega);subst hA;obtain rfl:bq=inF vt cx cy cz v:=ep (hbq.symm.trans (hV (cx+v%2) (cy+v / 2%2) (cz+v / 4) (by omega) (by omega) (by omega)));refine gc (dA m 28 aD (by kernel_rfl) ?_);simp only[zy];refine eT 9 [2,2,1] ?_;simp only[↓aC,sG,Ol,Jo,eR,jE,aa,ad,ah];refine⟨by omega,?_⟩;refine aI (lQ rfl rfl (Ot hv8)) (eT 4 [1] ?_);simp only[↓aC,jE,eR,ad,ah,aa];refine⟨by omega,?_⟩;refine aI (lG rfl rfl (by omega) ad0) (aI (lQ rfl rfl (Ot (k:=v / 2) (by omega))) ?_);refine eT 4 [1] ?_;simp only[↓aC,jE,eR,ad,ah,aa];refine⟨by omega,?_⟩;refine aI (lG rfl rfl (by omega) Tl) ?_;simp only[zz];refine aI (eS rfl rfl (bG (by omega) (by omega))) ?_;simp only[zz];refine jJ rfl rfl (yI (x:=cx+v%2) (y:=cy+v / 2%2) (z:=cz+v / 4) (by omega) (by omega) (by omega)) ?_;simp only[zz];refine aI (aF Eg dT rfl rfl (by omega) (by omega) (tE (ag _))) ?_;simp only[zz];refine ql rfl (fun u m=>(lies1 (aql (hrow.ext m.ext)) oH)) ?_;simp only[zz];refine aI (cY rfl) (eT 1 [] ?_);simp only[↓aC,qD,aa];refine aI (aJ Aw dT rfl rfl (by omega) (by omega) (fI (ag _))) (bE ?_);intro u m;simp only[zz];refine cX m 0 rfl rfl rfl dT (by rw[hc.len];show _+1≤_;omega) ⟨rfl,rfl⟩ ?_;intro u m;simp only[zz] at m;rw[hc.overB hv8,am7 hv8] at m;refine aN ?_;apply aW 6 [0] m;simp only[↓aC];refine⟨by omega,?_⟩;exact hK1 (8-(v+1)) _ _ (by omega) (by kernel_rfl) ⟨v+1,rfl,m,by omega,rfl⟩
   ·
    obtain rfl:v=8:=by omega
    rw[asu,show db 24 0=nsF 0 from rfl] at m;apply aK 7 [0] m;simp only[↓aC];refine bX [7] [49,50,51,52,53,54,55,56,57] (fun n vs wl=>∃(e:Nat),vs=[.int .i64 (e:Int)]∧Mem w wl [bI g3 (lN (wE vt cx cy cz) (nsF e)) 264,bI g2 [.int .i64 (cx:Int),.int .i64 (cy:Int),.int .i64 (cz:Int)] 36,bI g1 [.int .i64 2,.slice A 125 ci] 139]∧(e≤24)∧(n=24-e)) ?_ ?_
    ·
     exact⟨_,0,rfl,m,by omega,rfl⟩
    · intro n vs wr hI u K2 hK2
      obtain⟨e,rfl,m,he,hn⟩:=hI;simp only[zu,zF,zG];apply aK 6 [0,0] m;simp only[↓aC];refine bA rfl ?_ ?_<;>intro hc2
      ·
       have he24:e<24:=by omega
       apply aK 3 [] m;simp only[↓aC];have hc:=ajU hIl (show e≤24 by omega);apply aW 5 [0] m;simp only[↓aC,vQ,aa];refine aB (aJ Hs bD rfl rfl (by omega) (by omega) To) ?_;simp only[zz];refine cX m 0 rfl rfl rfl bD (by rw[hc.len];show _+1≤_;omega) ⟨rfl,rfl⟩ ?_;intro u m;simp only[zz] at m;rw[hc.over he24,am8 he24] at m;apply aL 7 [0] m;simp only[↓aC];refine⟨by omega,?_⟩;exact hK2 (24-(e+1)) _ _ (by omega) (by kernel_rfl) ⟨e+1,rfl,m,by omega,rfl⟩
      ·
       obtain rfl:e=24:=by omega
       rw[show nsF 24=nxA (wE vt cx cy cz) 0 from rfl] at m;apply aK 7 [0] m;simp only[↓aC];refine bX [8] [58,59,60,61,62,63,64,65,66,67] (fun n vs wl=>∃(a:Nat),vs=[.int .i64 (a:Int)]∧Mem w wl [bI g3 (lN (wE vt cx cy cz) (nxA (wE vt cx cy cz) a)) 264,bI g2 [.int .i64 (cx:Int),.int .i64 (cy:Int),.int .i64 (cz:Int)] 36,bI g1 [.int .i64 2,.slice A 125 ci] 139]∧(jS (wE vt cx cy cz) (nxA (wE vt cx cy cz) a))∧(a≤3)∧(n=3-a)) ?_ ?_
       ·
        exact⟨_,0,rfl,m,ajU hIl (e:=24) (by decide),by omega,rfl⟩
       · intro n vs wr hI u K3 hK3
         obtain⟨a,rfl,m,hc,ha,hn⟩:=hI;simp only[zu,zF,zG];apply aK 6 [0,0] m;simp only[↓aC];refine bA rfl ?_ ?_<;>intro hc3
         ·
          have ha3:a<3:=by omega
          apply aK 7 [0] m;simp only[↓aC];replace m:=m.pull 0 rfl;simp only[dM,dN,zF,zG] at m;replace m:=m.pack1;refine kJ rfl rfl (Xy m hc (by omega)) ?_;rintro v u ⟨m,hc2⟩;simp only[zz];replace m:=Mem.unpack [_] m;simp only[cg,bt] at m;apply aL 4 [0] m;simp only[↓aC];replace m:=m.pull 0 rfl;simp only[dM,dN,zF,zG] at m;replace m:=m.pack1;refine kJ rfl rfl (Xy m hc2 (by omega)) ?_;rintro v u ⟨m,hc3⟩;simp only[zz];replace m:=Mem.unpack [_] m;simp only[cg,bt] at m;apply aL 7 [0] m;simp only[↓aC];refine⟨by omega,?_⟩;rw[←ajV] at m hc3;exact hK3 (3-(a+1)) _ _ (by omega) (by kernel_rfl) ⟨a+1,rfl,m,hc3,by omega,rfl⟩
         ·
          obtain rfl:a=3:=by omega
          rw[show nxA (wE vt cx cy cz) 3=nE (wE vt cx cy cz) from rfl] at m hc;apply aK 6 [2,0] m;simp only[↓aC,Jo,eR,aa,Int.reduceSub];refine⟨by omega,?_⟩;refine aB (qR rfl rfl (by omega) (show IntKind.i64.wrap (1*2^min (Int.toNat 19) IntKind.i64.bits)=524288 from by decide)) ?_;apply aL 4 [0] m;simp only[↓aC];refine aB aP ?_;replace m:=m.nilO 39 9;apply aL 4 [] m;simp only[↓aC,apR,aa];apply Wy 1 [] m;simp only[↓aC,apQ];intro g4 u m;apply Wy 1 [0] m;simp only[↓aC,apP,aa];intro u m;apply aW 7 [0] m;simp only[↓aC];refine bX [10,12] [13,14,73,74,75,76,77,78,79,80,81,82,83,84,85,86,87,88,89,90,91,92,93,94,95,96,97,98,99,100,101,102,103,104,105,106,107,108,109,110,111,112] (fun n vs wl=>∃(e n10:Nat) (ts:List T3) (sn0:List Bool) (A10:Option Addr) (cap10:Nat),vs=[.slice A10 n10 cap10,.int .i64 (e:Int)]∧Mem w wl [bI g4 (sn0.map bm) 266,oI 39 9 A10 n10 cap10 (ts.flatMap aM),bI g3 (lN (wE vt cx cy cz) (nE (wE vt cx cy cz))) 264,bI g2 [.int .i64 (cx:Int),.int .i64 (cy:Int),.int .i64 (cz:Int)] 36]∧(sn0.length=24)∧(sn0=(Ih (nE (wE vt cx cy cz)) e).2)∧(ts=(Ih (nE (wE vt cx cy cz)) e).1.flatMap (aqo ⟨cx,cy,cz⟩))∧(ts.length=n10)∧(∀t∈ts,SmT t)∧(n10+Vq sn0≤24)∧(e≤24)∧(n=24-e)) ?_ ?_
          ·
           exact⟨_,0,0,[],db 24 false,none,0,rfl,(m.sel [true,true,true,true,false]),rfl,rfl,rfl,rfl,by simp,by decide,by omega,rfl⟩
          · intro n vs wr hI u K4 hK4
            obtain⟨e,n10,ts,sn0,A10,cap10,rfl,m,hsn,hse,hte,hlt,hts,hcn,he,hn⟩:=hI;simp only[zu,zF,zG];apply aK 6 [0,0] m;simp only[↓aC];refine bA rfl ?_ ?_<;>intro hc4
            ·
             have he24:e<24:=by omega
             apply aK 5 [0] m;simp only[↓aC];refine aB aP ?_;replace m:=m.nilO 30 3;apply aL 8 [0] m;simp only[↓aC];refine bX [13,14] [78,79,80,81,82,83,84,85,86,87,88,89,90,91,92,93,94,95,96,97,98,99,100,101,102,103,104,105] (fun n vs wl=>∃(x n13 f:Nat) (dn:List Nat) (ps:List P3) (sn:List Bool) (A13:Option Addr) (cap13:Nat),vs=[.slice A13 n13 cap13,.int .i64 (x:Int)]∧Mem w wl [oI 30 3 A13 n13 cap13 (ps.flatMap dU),bI g4 (sn.map bm) 266,oI 39 9 A10 n10 cap10 (ts.flatMap aM),bI g3 (lN (wE vt cx cy cz) (nE (wE vt cx cy cz))) 264,bI g2 [.int .i64 (cx:Int),.int .i64 (cy:Int),.int .i64 (cz:Int)] 36]∧(sn.length=24)∧(ps=dn.map (Xu ⟨cx,cy,cz⟩ 524288))∧(dn++(rI (nE (wE vt cx cy cz)) f sn x).1=(rI (nE (wE vt cx cy cz)) 24 (Ih (nE (wE vt cx cy cz)) e).2 e).1)∧((rI (nE (wE vt cx cy cz)) f sn x).2=(rI (nE (wE vt cx cy cz)) 24 (Ih (nE (wE vt cx cy cz)) e).2 e).2)∧(Vq sn≤f)∧(ps.length=n13)∧(∀p∈ps,Sm p)∧(n10+n13+Vq sn≤24)∧(x<24)∧(n=Vq sn)) ?_ ?_
             ·
              exact⟨_,e,0,24,[],[],sn0,none,0,rfl,m,hsn,rfl,by rw[hse];rfl,by rw[hse],by omega,rfl,by simp,by omega,he24,rfl⟩
             · intro n vs wr hI u K5 hK5
               obtain⟨x,n13,f,dn,ps,sn,A13,cap13,rfl,m,hsn,hpd,hr1,hr2,hcf,hpl,hps,hcn,hx24,hn⟩:=hI;obtain⟨q,hqd⟩:∃q,q=(nE (wE vt cx cy cz)).getD x (-1):=⟨_,rfl⟩
               obtain⟨hq,hq1⟩:=hc.nxE hx24;rw[←hqd] at hq hq1;obtain⟨y,hy0⟩:∃y,sn[x]? = some y:=⟨_,ak (by omega)⟩
               have hyd:sn.getD x false=y:=by rw[ej,hy0];rfl
               have hym:(sn.map bm)[x]? = some (.bool y):=by rw[eh,hy0];rfl
               simp only[zu,zF,zG];apply aK 2 [] m;simp only[↓aC];rcases (show ¬0≤q∨(0≤q∧y=true)∨(0≤q∧y=false) by cases y <;> simp <;> omega) with hq0 | ⟨hq0,rfl⟩ | ⟨hq0,rfl⟩
               ·
                have hcs:=aos (nx:=(nE (wE vt cx cy cz))) (sn:=sn) (x:=x) (by rw[←hqd,hyd];exact fun h=>hq0 h.1) f;rw[hcs] at hr1 hr2;rw[eo] at hr1;apply aW 5 [0] m;simp only[↓aC,vQ,aa];refine aB (aJ Hs bD rfl rfl (by omega) (by omega) To) ?_;simp only[zz];refine aR rfl (lies1 ((m.b 3 rfl).cell hq) cC) ?_;simp only[zz];apply aL 16 [2,0,0] m;simp only[↓aC,lC];refine⟨by omega,?_⟩;refine bA rfl ?_ ?_<;>intro hc6
                ·
                 have hne:(rI (nE (wE vt cx cy cz)) 24 (Ih (nE (wE vt cx cy cz)) e).2 e).1≠[]:=fun h=>by rw[←hr1] at h;subst h;rw[hpd] at hpl;simp at hpl;omega
                 have hsy:=aot hne;apply aK 3 [0] m;simp only[↓aC];refine bC rfl rfl (ab6 _ ((m.o 0 rfl).lat (enc:=dU) (fun _=>rfl) (by decide)) (by omega) (by omega) hps) ?_;rintro v u e_ ⟨hmid,A14,cap14,n14,hn14,rfl,h_⟩;replace m:=m.newO e_ h_;have hfl:=afv (ps:=ps);simp only[zz];refine bW m 3 rfl rfl bL gR rfl (by decide) rfl rfl (m.o 0 rfl).own.1 (m.o 0 rfl).row (pU _) (by omega) (by omega) ?_;intro A10 cap10 u m;simp only[zF,zG] at m;rw[←aw] at m;apply aL 8 [0] m;simp only[↓aC];refine⟨by omega,?_⟩;exact hK4 (24-(e+1)) _ _ (by omega) (by kernel_rfl) ⟨e+1,_,_,_,_,_,rfl,(m.sel [false,false,true,true,true,true]),hsn,by rw[hsy];exact hr2,by rw[hsy,aw,←hte,jq,aqo,←hr1,←hpd],by rw[a_];omega,fun t ht=>(br.1 ht).elim (hts t) (ajS hps hmid t),by omega,by omega,rfl⟩
                ·
                 have hne:(rI (nE (wE vt cx cy cz)) 24 (Ih (nE (wE vt cx cy cz)) e).2 e).1=[]:=by rw[←hr1];exact et (by rw[hpd,bf] at hpl;omega)
                 have hsy:=aou hne;apply aK 7 [0] m;simp only[↓aC];refine⟨by omega,?_⟩;exact hK4 (24-(e+1)) _ _ (by omega) (by kernel_rfl) ⟨e+1,_,_,_,_,_,rfl,(m.sel [false,true,true,true,true]),hsn,by rw[hsy];exact hr2,by rw[hsy];exact hte,hlt,hts,by omega,by omega,rfl⟩
               ·
                have hcs:=aos (nx:=(nE (wE vt cx cy cz))) (sn:=sn) (x:=x) (by rw[←hqd,hyd];exact fun h=>absurd h.2 (by decide)) f;rw[hcs] at hr1 hr2;rw[eo] at hr1;apply aW 5 [0] m;simp only[↓aC,vQ,aa];refine aB (aJ Hs bD rfl rfl (by omega) (by omega) To) ?_;simp only[zz];refine aR rfl (lies1 ((m.b 3 rfl).cell hq) cC) ?_;simp only[zz];apply aL 3 [1,0] m;simp only[↓aC];refine⟨by omega,?_⟩;refine cN rfl (aB (aJ underlying266 dT rfl rfl (by omega) (by omega) (fI (ag _))) (cN rfl ?_));simp only[zz];refine aR rfl (lies1 ((m.b 1 rfl).cell hym) oH) ?_;simp only[zz];apply aL 11 [0,0] m;simp only[↓aC,lC,ff,fh];refine bA rfl ?_ ?_<;>intro hc6
                ·
                 have hne:(rI (nE (wE vt cx cy cz)) 24 (Ih (nE (wE vt cx cy cz)) e).2 e).1≠[]:=fun h=>by rw[←hr1] at h;subst h;rw[hpd] at hpl;simp at hpl;omega
                 have hsy:=aot hne;apply aK 3 [0] m;simp only[↓aC];refine bC rfl rfl (ab6 _ ((m.o 0 rfl).lat (enc:=dU) (fun _=>rfl) (by decide)) (by omega) (by omega) hps) ?_;rintro v u e_ ⟨hmid,A14,cap14,n14,hn14,rfl,h_⟩;replace m:=m.newO e_ h_;have hfl:=afv (ps:=ps);simp only[zz];refine bW m 3 rfl rfl bL gR rfl (by decide) rfl rfl (m.o 0 rfl).own.1 (m.o 0 rfl).row (pU _) (by omega) (by omega) ?_;intro A10 cap10 u m;simp only[zF,zG] at m;rw[←aw] at m;apply aL 8 [0] m;simp only[↓aC];refine⟨by omega,?_⟩;exact hK4 (24-(e+1)) _ _ (by omega) (by kernel_rfl) ⟨e+1,_,_,_,_,_,rfl,(m.sel [false,false,true,true,true,true]),hsn,by rw[hsy];exact hr2,by rw[hsy,aw,←hte,jq,aqo,←hr1,←hpd],by rw[a_];omega,fun t ht=>(br.1 ht).elim (hts t) (ajS hps hmid t),by omega,by omega,rfl⟩
                ·
                 have hne:(rI (nE (wE vt cx cy cz)) 24 (Ih (nE (wE vt cx cy cz)) e).2 e).1=[]:=by rw[←hr1];exact et (by rw[hpd,bf] at hpl;omega)
                 have hsy:=aou hne;apply aK 7 [0] m;simp only[↓aC];refine⟨by omega,?_⟩;exact hK4 (24-(e+1)) _ _ (by omega) (by kernel_rfl) ⟨e+1,_,_,_,_,_,rfl,(m.sel [false,true,true,true,true]),hsn,by rw[hsy];exact hr2,by rw[hsy];exact hte,hlt,hts,by omega,by omega,rfl⟩
               ·
                apply aW 5 [0] m;simp only[↓aC,vQ,aa];refine aB (aJ Hs bD rfl rfl (by omega) (by omega) To) ?_;simp only[zz];refine aR rfl (lies1 ((m.b 3 rfl).cell hq) cC) ?_;simp only[zz];apply aL 3 [1,0] m;simp only[↓aC];refine⟨by omega,?_⟩;refine cN rfl (aB (aJ underlying266 dT rfl rfl (by omega) (by omega) (fI (ag _))) (cN rfl ?_));simp only[zz];refine aR rfl (lies1 ((m.b 1 rfl).cell hym) oH) ?_;simp only[zz];apply aL 10 [0] m;simp only[↓aC,ff,fh];refine aB (aJ underlying266 dT rfl rfl (by omega) (by omega) (fI (ag _))) ?_;simp only[zz];refine cX m 1 rfl rfl rfl dT (by rw[bf];show _+1≤_;omega) ⟨rfl,rfl⟩ ?_;intro u m;simp only[zz] at m;rw[am6 (by omega)] at m;apply aL 6 [4,0] m;simp only[↓aC,Dv];refine kY m rfl rfl (am5 (c:=⟨cx,cy,cz⟩) (e:=x) (show 0≤(cx:Int)∧(cx:Int)≤3 by omega) (show 0≤(cy:Int)∧(cy:Int)≤3 by omega) (show 0≤(cz:Int)∧(cz:Int)≤3 by omega) hx24) ?_;intro u m;simp only[zz];refine pD rfl ?_;intro u g5 e_ h_ k_;replace m:=m.newB e_ h_ k_;simp only[zz];refine bW m 1 rfl rfl eK qY rfl (by decide) rfl rfl rfl (m.b 0 rfl).rowsO (jX rfl) (by omega) (by omega) ?_;intro A13 cap13 u m;simp only[zF,zG] at m;rw[show ps.flatMap dU++_=(ps++[Xu ⟨cx,cy,cz⟩ 524288 x]).flatMap dU by rw[aw];rfl] at m;apply aL 8 [0] m;simp only[↓aC,vQ,aa];refine aB (aJ Hs bD rfl rfl (by omega) (by omega) To) ?_;simp only[zz];refine aR rfl (lies1 ((m.b 4 rfl).cell hq) cC) ?_;simp only[zz];apply aL 2 [0] m;simp only[↓aC];have hcs:=Iq hy0;obtain⟨f2,rfl⟩:∃f2,f=f2+1:=⟨f-1,by omega⟩
                rw[asv (by rw[←hqd];exact hq0) hyd,←hqd] at hr1 hr2;obtain⟨z,hz⟩:∃z:Nat,q=z:=⟨q.toNat,by omega⟩
                rw[hz];rw[hz,ag] at hr1 hr2;exact hK5 (Vq (sn.set x true)) _ _ (by omega) (by kernel_rfl) ⟨z,_,f2,dn++[x],_,_,_,_,rfl,(m.sel [false,true,true,true,true,true]),by rw[gv];exact hsn,by rw[hpd,ct];rfl,by rw[da];exact hr1,hr2,by omega,by rw[a_,hpl];rfl,fun p hp=>(br.1 hp).elim (hps p) fun h=>by cases az.1 h;exact aqi hx24 (show 0≤(cx:Int)∧(cx:Int)≤3 by omega) (show 0≤(cy:Int)∧(cy:Int)≤3 by omega) (show 0≤(cz:Int)∧(cz:Int)≤3 by omega),by omega,by omega,rfl⟩
            ·
             obtain rfl:e=24:=by omega
             apply aK 7 [] m;simp only[↓aC];refine aT rfl rfl ?_;try simp only[zD,zE]
             exact⟨_,rfl,m.ext,by rw[show wY (wE vt cx cy cz) ⟨cx,cy,cz⟩ 524288=ts from hte.symm];exact⟨⟨by omega,hts⟩,_,_,_,hlt.symm,rfl,(m.o 1 rfl)⟩⟩
theorem am9(hb:Ke vt){x y z:Int}(h:x=0∨y=0∨z=0∨x=4∨y=4∨z=4):vt ⟨x,y,z⟩=false:=by
 rcases h with h | h | h | h | h | h
 · exact hb _ 0 (by decide) (.inl h)
 · exact hb _ 1 (by decide) (.inl h)
 · exact hb _ 2 (by decide) (.inl h)
 · exact hb _ 0 (by decide) (.inr h)
 · exact hb _ 1 (by decide) (.inr h)
 · exact hb _ 2 (by decide) (.inr h)
theorem asw(h:Ya ins vt){k:Nat}(hk:k<125){b:Bool}(hb:ins[k]? = some b):b=vt ⟨((k%5:Nat):Int),((k / 5%5:Nat):Int),((k / 5 / 5:Nat):Int)⟩:=by
 have:=h (k%5) (k / 5%5) (k / 5 / 5) (by omega) (by omega) (by omega);rw[show (k / 5 / 5*5+k / 5%5)*5+k%5=k by omega,hb] at this;exact ep this
def ab8(ins:List Bool):Prop:=ins.length=125∧∃vt,Ya ins vt∧Ke vt
theorem ab8.set(h:ab8 ins){y z:Nat}{c:Bool}(hx:1≤x∧x≤3)(hy:1≤y∧y≤3)(hz:1≤z∧z≤3):ab8 (ins.set ((z*5+y)*5+x) c):=by
 obtain⟨hl,vt,hf,hb⟩:=h;refine⟨by rw[gv];exact hl,fun p=>if p=⟨x,y,z⟩ then c else vt p,fun a b d ha hb' hd=>?_,fun p k hk hp=>?_⟩
 · by_cases e:a=x∧b=y∧d=z
   · obtain⟨rfl,rfl,rfl⟩:=e
     rw[List.getElem?_set_self (by omega)];exact congrArg some (if_pos rfl).symm
   · rw[List.getElem?_set_ne (by omega)]
     refine (hf a b d ha hb' hd).trans (congrArg some (if_neg fun k=>e ?_).symm);have k1:=congrArg P3.x k;have k2:=congrArg P3.y k;have k3:=congrArg P3.z k;simp only at k1 k2 k3;omega
 · have hn:p≠⟨x,y,z⟩:=fun e=>by
    subst e;rcases k with _ | _ | _ | k <;> simp[cO] at hp <;> omega
   show (if p=⟨x,y,z⟩ then c else vt p)=false
   rw[if_neg hn];exact hb p k hk hp
theorem asx:ab8 (db 125 false):=⟨by simp,fun _=>false,fun x y z hx hy hz=>by rw[List.getElem?_replicate,if_pos (by omega)],fun _ _ _ _=>rfl⟩
def aaB(z:Int):List ai:=[.int .i64 z]
theorem aqp{ds:List dw}{Q:Exit→Act→aj→Prop}{w w0:aj}{is:List It}{c:Code}{a:Act}{l:Nat→Nat→List ai}{c1:List ai}{c2:Nat→List ai}{T1 T2:av}(m:Mem w0 w is)(h1:c.wp prog (fun e a' u=>e=.normal∧∃g k,a'=Fr (l g k) ds∧Mem w0 u (bI k (c2 g) T2::bI g c1 T1::is)) a w)
 (h2:∀g k u,Mem w0 u (bI k (c2 g) T2::bI g c1 T1::is)→Q .normal (Fr (l g k) ds) u):c.wp prog Q a w:=by
 refine Code.wp_mono ?_ h1;rintro e a' u ⟨rfl,g,k,rfl,m'⟩;exact h2 g k u m'
theorem Ts{i:Nat}{c:Bool}(h:i<ins.length):over (ins.map bm) i [.bool c]=(ins.set i c).map bm:=by
 rw[Fo (by rw[bf];exact h),ox]
theorem agT{w:aj}{g n:Nat}{t:av}(h:gT w g (ins.map bm) t)(hl:ins.length=n):vY Xz 1 w (some ⟨g,0,none⟩) n ins:=⟨hl,fun i x hx=>⟨_,rfl,fun j u hj=>by
 have h1:j=0:=by
  have:=(ap.1 hj).1;simp[Xz] at this;omega
 subst h1;cases hj;rw[dV,dV,ar,Nat.mul_one,Nat.add_zero];exact h.cell (by rw[eh,hx];rfl)⟩⟩
theorem ad2{A:Option Addr}(w:aj)(hF:vY Xz 1 w A 125 ins)(hV:Ya ins vt)(hB:Ke vt):dK prog 142 [.agg #[.int .i64 2,.slice A 125 ci]] w (fun v _=>v=.bool true):=by
 refine⟨bP func142 (by kernel_rfl),?_⟩;have m:=Mem.refl w
 go_enter func142,ntmps142
 apply mR 22 [0,2,0,2] m;simp only[↓aC,Jo,eR,aa];intro g1;refine⟨by omega,?_⟩;intro u m;apply aW 1 [0,0] m;simp only[↓aC,eR];refine aB (qR rfl rfl (by omega) Tn) ?_;apply aL 24 [0,2,0] m;simp only[↓aC,sG,Ol,ai8,am,aa,Int.reduceMul];refine⟨by omega,?_⟩;refine bX [4] [2,5,6,7,8,30,31,32,33,34,35,36,37,38,39,40,41,42,43,44,45,46,47,48,49,50,51,52,53,54,55,56,57,58,59,60,61,62,63,64,65,66,67,68,69,70,71,72,73,74,75,76,77,78,79,80,81,82,83,84,85] (fun n vs wl=>∃(k:Nat),vs=[.int .i64 (k:Int)]∧Mem w wl [bI g1 [.int .i64 2,.slice A 125 ci] 139]∧(k≤125)∧(n=125-k)) ?_ ?_
 ·
  exact⟨_,0,rfl,m,by omega,rfl⟩
 · intro n vs wr hI u K1 hK1
   obtain⟨k,rfl,m,hk,hn⟩:=hI;simp only[zu,zF,zG];apply aK 9 [0,0,0] m;simp only[↓aC,sG,Ol,ai8,aa];refine bA rfl ?_ ?_<;>intro hc3
   ·
    obtain⟨bq,hbq,a,hA,hrow⟩:=hF.get (i:=k) (by omega);subst hA;apply aK 7 [0] m;simp only[↓aC];refine aB (cL rfl rfl (by omega) (show ((k%5:Nat):Int)=_ from rfl)) ?_;apply aL 6 [0] m;simp only[↓aC];refine aB (mB rfl rfl (by omega) (show IntKind.i64.wrap ((k / 5:Nat):Int)=_ from bG (by omega) (by omega))) ?_;apply aL 1 [0] m;simp only[↓aC];refine aB (cL rfl rfl (by omega) (show ((k / 5%5:Nat):Int)=_ from rfl)) ?_;apply aL 6 [0] m;simp only[↓aC];refine aB (mB rfl rfl (by omega) (show IntKind.i64.wrap ((k / 5:Nat):Int)=_ from bG (by omega) (by omega))) ?_;apply aL 1 [0] m;simp only[↓aC];refine aB (mB rfl rfl (by omega) (show IntKind.i64.wrap ((k / 5 / 5:Nat):Int)=_ from bG (by omega) (by omega))) ?_;apply aL 7 [0,0] m;simp only[↓aC];refine dG rfl (fun hb=>aG) (dG rfl (fun hb=>xP (bB hb rfl) rfl) (aB (eD rfl rfl rfl) ?_));apply aL 1 [0] m;simp only[↓aC];refine dG rfl (fun hb=>aG) (dG rfl (fun hb=>xP (bB hb rfl) rfl) (aB (eD rfl rfl rfl) ?_));apply aL 1 [0] m;simp only[↓aC];refine dG rfl (fun hb=>aG) (dG rfl (fun hb=>aG) (dG rfl (fun hb=>Gd (m:=5) (n:=1) (r:=4) (bB hb rfl) rfl (by decide)) (dG rfl (fun hb=>xP (bB hb rfl) (bB hb rfl)) ?_)));simp only[zz];refine aB (eD rfl rfl rfl) ?_;apply aL 1 [0] m;simp only[↓aC];refine dG rfl (fun hb=>aG) (dG rfl (fun hb=>aG) (dG rfl (fun hb=>Gd (m:=5) (n:=1) (r:=4) (bB hb rfl) rfl (by decide)) (dG rfl (fun hb=>xP (bB hb rfl) (bB hb rfl)) ?_)));simp only[zz];refine aB (eD rfl rfl rfl) ?_;apply aL 1 [0] m;simp only[↓aC];refine dG rfl (fun hb=>aG) (dG rfl (fun hb=>aG) (dG rfl (fun hb=>Gd (m:=5) (n:=1) (r:=4) (bB hb rfl) rfl (by decide)) (dG rfl (fun hb=>xP (bB hb rfl) (bB hb rfl)) ?_)));simp only[zz];refine aB (eD rfl rfl rfl) ?_;apply aL 7 [0,0] m;simp only[↓aC,sG,Ol,aa];refine aB (aF Eg dT rfl rfl (by omega) (by omega) (tE (ag _))) ?_;simp only[zz];refine aR rfl (lies1 (aql (hrow.ext m.ext)) oH) ?_;simp only[zz];apply aL 1 [0] m;simp only[↓aC];refine kZ rfl (fun hb=>aG) (aB (fC rfl rfl rfl) ?_);apply aL 1 [0] m;simp only[↓aC];refine eG rfl ?_ ?_<;>intro hc4
    ·
     exfalso;simp only[ba,Bool.or_eq_true,decide_eq_true_eq] at hc4;obtain⟨h1,h2⟩:=hc4;rw[asw hV (by omega) hbq,am9 hB (by omega)] at h1;cases h1
    ·
     apply aK 7 [0] m;simp only[↓aC];refine⟨by omega,?_⟩;exact hK1 (125-(k+1)) _ _ (by omega) (by kernel_rfl) ⟨k+1,rfl,m,by omega,rfl⟩
   ·
    apply aK 6 [] m;simp only[↓aC];exact aT rfl rfl ⟨_,rfl,m.ext,rfl⟩
theorem ad3{A:Option Addr}{N cap:Nat}{zs:List Int}(w:aj)(hL:vY aaB 1 w A N zs)(hI:∀z∈zs,rN z):dK prog 84 [.int .i64 2,.slice A N cap] w (fun v w'=>∃A ci ins vt,v=.agg #[.int .i64 2,.slice A 125 ci]∧vY Xz 1 w' A 125 ins∧Ya ins vt∧Ke vt):=by
 refine⟨bP func84 (by kernel_rfl),?_⟩;have m:=Mem.refl w
 go_enter func84,ntmps84
 apply mR 5 [0] m;simp only[↓aC,apG];intro g1 u m;apply aqp m (T1:=4) (T2:=139)
 · skip
   refine Wh m [true] (.take 0 (.take 1 (.take 2 (.take 3 (.take 4 (.take 5 (.take 6 (.take 7 (.take 8 (.take 9 (.take 10 (.take 11 (.two 12 (.take 13 (.one 14 (.one 15 .nil))) 14 (.one 12 (.take 13 (.one 15 .nil)))))))))))))))) aD (by kernel_rfl) (fun _ _ _ _ _ h=>by cases h.1) ?_;intro u m;refine eM (by simp only[zw];rfl) (aS aG (bV (eM (by simp only[zw];rfl) (aS aG (bV (eM (by simp only[zw];rfl) ?_))))));simp only[zz];refine aS (qR rfl rfl (by omega) Tn) (bV (eM (by simp only[zw];rfl) (aS (eS (m:=4) (n:=1) (r:=5) rfl rfl (by decide)) (bV (eM (by simp only[zw];rfl) (aS aG (bV (eM (by simp only[zw];rfl) ?_))))))));simp only[zz];refine aS (qR rfl rfl (by omega) Tn) (bV (eM (by simp only[zw];rfl) (aS (eS (m:=4) (n:=1) (r:=5) rfl rfl (by decide)) (bV (eM (by simp only[zw];rfl) (aS (tC (m:=5) (n:=5) (r:=25) rfl rfl (by decide)) (bV (eM (by simp only[zw];rfl) (aS aG ?_)))))))));simp only[zz];refine bV (eM (by simp only[zw];rfl) (aS (qR rfl rfl (by omega) Tn) (bV (eM (by simp only[zw];rfl) (aS (eS (m:=4) (n:=1) (r:=5) rfl rfl (by decide)) (bV (eM (by simp only[zw];rfl) (aS (tC (m:=25) (n:=5) (r:=125) rfl rfl (by decide)) (bV ?_)))))))));simp only[zz];refine abm (by simp only[zw];rfl) (by simp only[zw];rfl) ?_ ?_
   ·
    refine tQ Eg aii rfl rfl rfl (show _=125 by omega) (show _=125 by omega) (by omega) (by omega) (by omega) (by omega) ?_;intro u g2 e_ h_ k_;replace m:=m.newB e_ h_ k_;refine aN ⟨m.sel [false,true],?_⟩;refine eM (by simp only[zw];rfl) (aS (Bo rfl rfl) (bV (nS (by simp only[zw];rfl) ?_)));simp only[zz];refine mL m Rw rfl ?_;intro g3 u m;refine aN ⟨m.sel [false,false,true],?_⟩;refine nS (by simp only[zw];rfl) ?_;simp only[zz];refine cU m 0 rfl rfl rfl Lr (kG rfl) rfl ?_;intro u m;simp only[zy,zx,over,zF,zG,aa] at m;refine aN ⟨m.sel [false,false,true],?_⟩;exact Gi ⟨rfl,g2,g3,rfl,m⟩
   ·
    refine mL m Rw rfl ?_;intro g2 u m;refine aN ⟨m.sel [false,true],?_⟩;refine nS (by simp only[zw];rfl) ?_;simp only[zz];refine tQ Eg aii rfl rfl rfl (show _=125 by omega) (show _=125 by omega) (by omega) (by omega) (by omega) (by omega) ?_;intro u g3 e_ h_ k_;replace m:=m.newB e_ h_ k_;refine aN ⟨m.sel [false,false,true],?_⟩;refine eM (by simp only[zw];rfl) (aS (Bo rfl rfl) (bV (nS (by simp only[zw];rfl) ?_)));simp only[zz];refine cU m 1 rfl rfl rfl Lr (kG rfl) rfl ?_;intro u m;simp only[zy,zx,over,zF,zG,aa] at m;refine aN ⟨m.sel [false,false,true],?_⟩;exact Gi ⟨rfl,g3,g2,rfl,m.s01⟩
 intro g2 g3 u m;try dsimp only
 apply aW 3 [0] m;simp only[↓aC];refine aB (qR rfl rfl (by omega) Tn) ?_;apply aL 9 [0] m;simp only[↓aC,Int.reduceSub];refine⟨by omega,?_⟩;refine bX [7] [8,9,10,11,12,30,31,32,33,34,35,36,37,38,39,40,41,42,43,44,45,46,47,48,49,50,51,52,53,54,55,56,57,58,59,60,61,62,63,64,65,66,67,68,69,70,71,72,73,74,75,76,77,78,79,80,81,82,83,84,85,86,87,88,89,90,91,92,93,94,95,96,97,98,99,100,101,102,103,104,105,106,107,108,109,110,111,112,113,114,115,116,117,118,119,120,121,122,123,124,125,126,127,128,129,130,131,132,133,134,135,136,137,138,139,140,141,142,143] (fun n vs wl=>∃(k:Nat) (ins:List Bool),vs=[.int .i64 (k:Int)]∧Mem w wl [bI g3 [.int .i64 2,.slice (some ⟨g2,0,none⟩) 125 125] 139,bI g2 (ins.map bm) 4,bI g1 [.int .i64 0,.slice none 0 0] 139]∧(ab8 ins)∧(k≤60∧k≤N)∧(n=60-k)) ?_ ?_
 ·
  exact⟨_,0,db 125 false,rfl,m,asx,by omega,rfl⟩
 · intro n vs wr hI u K1 hK1
   obtain⟨k,ins,rfl,m,hfx,hk,hn⟩:=hI;simp only[zu,zF,zG];apply aK 8 [0,0] m;simp only[↓aC,Oi];refine kZ rfl (fun hb=>aG) (kZ rfl (fun hb=>Ge (bB hb rfl) rfl) (aB (fC rfl rfl rfl) ?_));apply aL 1 [0] m;simp only[↓aC];refine eG rfl ?_ ?_<;>intro hc1
   ·
    have hk2:k<N∧k<60:=by simp only[ba,decide_eq_true_eq] at hc1;omega
    obtain⟨q,hq,a,hA,hrow⟩:=hL.get (i:=k) (by omega);subst hA;have hqb:=hI q (List.mem_of_getElem? hq);unfold rN at hqb;apply aK 7 [0] m;simp only[↓aC];refine aB (aF lM bD rfl rfl (by omega) (by omega) (tE (ag _))) ?_;simp only[zz];refine aR rfl (lies1 (aql (hrow.ext m.ext)) cC) ?_;simp only[zz];apply aL 8 [0,0] m;simp only[↓aC];refine Sb m [8] [46,47] (fun vs=>∃(z:Nat),vs=[.int .i64 (z:Int)]∧(z<9223372036854775808)) ?_ ?_
    · intro K2 hK2
      refine bA rfl ?_ ?_<;>intro hc2
      ·
       apply aK 5 [0] m;simp only[↓aC];refine⟨by omega,?_⟩;obtain⟨z,hz⟩:∃z:Nat,(z:Int) = -1-q:=⟨(-1-q).toNat,by omega⟩
       rw[←hz];exact hK2 _ _ (by kernel_rfl) m ⟨z,rfl,by omega⟩
      ·
       apply aK 1 [0] m;simp only[↓aC];obtain⟨z,rfl⟩:∃z:Nat,q=z:=⟨q.toNat,by omega⟩
       exact hK2 _ _ (by kernel_rfl) m ⟨z,rfl,by omega⟩
    · intro vs wr m hI u
      obtain⟨z,rfl,hz⟩:=hI;simp only[zu,zF,zG];apply aW 4 [0] m;simp only[↓aC];refine aB (cL rfl rfl (by omega) (show ((z%3:Nat):Int)=_ from rfl)) ?_;apply aL 6 [0] m;simp only[↓aC];refine aB (mB rfl rfl (by omega) (show IntKind.i64.wrap ((z / 3:Nat):Int)=_ from bG (by omega) (by omega))) ?_;apply aL 1 [0] m;simp only[↓aC];refine aB (cL rfl rfl (by omega) (show ((z / 3%3:Nat):Int)=_ from rfl)) ?_;apply aL 6 [0] m;simp only[↓aC];refine aB (mB rfl rfl (by omega) (show IntKind.i64.wrap ((z / 3:Nat):Int)=_ from bG (by omega) (by omega))) ?_;apply aL 1 [0] m;simp only[↓aC];refine aB (mB rfl rfl (by omega) (show IntKind.i64.wrap ((z / 3 / 3:Nat):Int)=_ from bG (by omega) (by omega))) ?_;apply aL 1 [0] m;simp only[↓aC];refine aB (cL rfl rfl (by omega) (show ((z / 3 / 3%3:Nat):Int)=_ from rfl)) ?_;apply aL 6 [0] m;simp only[↓aC];refine aB (mB rfl rfl (by omega) (show IntKind.i64.wrap ((z / 3:Nat):Int)=_ from bG (by omega) (by omega))) ?_;apply aL 1 [0] m;simp only[↓aC];refine aB (mB rfl rfl (by omega) (show IntKind.i64.wrap ((z / 3 / 3:Nat):Int)=_ from bG (by omega) (by omega))) ?_;apply aL 1 [0] m;simp only[↓aC];refine aB (mB rfl rfl (by omega) (show IntKind.i64.wrap ((z / 3 / 3 / 3:Nat):Int)=_ from bG (by omega) (by omega))) ?_;apply aL 3 [0] m;simp only[↓aC];refine dA m 14 aD (by kernel_rfl) ?_;simp only[zy];refine eT 9 [0] ?_;simp only[↓aC,sG,Ol,aa];refine⟨by omega,?_⟩;refine jJ rfl rfl (yI (x:=1+z%3) (y:=1+z / 3%3) (z:=1+z / 3 / 3%3) (by omega) (by omega) (by omega)) (aI aG (aI (lQ rfl rfl rfl) (aI (xP rfl rfl) ?_)));simp only[zz];refine aI (aF Eg dT rfl rfl (by omega) (by omega) (fI (ag _))) (bE ?_);intro u m;simp only[zz];refine cX m 1 rfl rfl rfl dT (by simp only[bf,gv,ay,cd,hfx.1];omega) ⟨rfl,rfl⟩ ?_;intro u m;simp only[zz] at m;rw[Ts (by simp only[gv,hfx.1];omega)] at m;refine aN ?_;apply aW 4 [0] m;simp only[↓aC];refine aB (lQ rfl rfl rfl) ?_;apply aL 2 [0,0] m;simp only[↓aC];refine iO m 1 [] [87,88,89,90,91,92,93,94,95,96,97,98,99,100,101,102,103] (fun vs i=>∃(ins:List Bool),vs=[]∧i=bI g2 (ins.map bm) 4∧(ab8 ins)) ?_ ?_
      · intro K3 hK3
        refine bA rfl ?_ ?_<;>intro hc3
        ·
         refine dA m 17 aD (by kernel_rfl) ?_;simp only[zy];refine eT 6 [0] ?_;simp only[↓aC,sG,Ol,aa];refine⟨by omega,?_⟩;refine aI (cL rfl rfl (by omega) (show (((z%3+1)%3:Nat):Int)=_ from rfl)) (eT 5 [] ?_);simp only[↓aC];refine⟨by omega,?_⟩;refine jJ rfl rfl (yI (x:=1+(z%3+1)%3) (y:=1+z / 3%3) (z:=1+z / 3 / 3%3) (by omega) (by omega) (by omega)) (aI aG (aI (lQ rfl rfl rfl) (aI (xP rfl rfl) ?_)));simp only[zz];refine aI (aF Eg dT rfl rfl (by omega) (by omega) (fI (ag _))) (bE ?_);intro u m;simp only[zz];refine cX m 1 rfl rfl rfl dT (by simp only[bf,gv,ay,cd,hfx.1];omega) ⟨rfl,rfl⟩ ?_;intro u m;simp only[zz] at m;rw[Ts (by simp only[gv,hfx.1];omega)] at m;refine aN (gk ?_);exact hK3 _ _ _ (by kernel_rfl) m ⟨_,rfl,rfl,(hfx.set (by omega) (by omega) (by omega)).set (by omega) (by omega) (by omega)⟩
        ·
         apply aK 1 [0] m;simp only[↓aC];exact hK3 _ _ _ (by kernel_rfl) m ⟨_,rfl,rfl,hfx.set (by omega) (by omega) (by omega)⟩
      · intro vs i wr m hI u
        obtain⟨ins,rfl,rfl,hfx⟩:=hI;simp only[zF,zG] at m;simp only[zu,zF,zG];apply aW 4 [0] m;simp only[↓aC];refine aB (lQ rfl rfl rfl) ?_;apply aL 2 [0,0] m;simp only[↓aC];refine iO m 1 [] [107,108,109,110,111,112,113,114,115,116,117,118,119,120,121,122,123] (fun vs i=>∃(ins:List Bool),vs=[]∧i=bI g2 (ins.map bm) 4∧(ab8 ins)) ?_ ?_
        · intro K4 hK4
          refine bA rfl ?_ ?_<;>intro hc4
          ·
           refine dA m 17 aD (by kernel_rfl) ?_;simp only[zy];refine eT 8 [0] ?_;simp only[↓aC,sG,Ol,aa];refine⟨by omega,?_⟩;refine aI (cL rfl rfl (by omega) (show (((z / 3%3+1)%3:Nat):Int)=_ from rfl)) (eT 3 [] ?_);simp only[↓aC];refine⟨by omega,?_⟩;refine jJ rfl rfl (yI (x:=1+z%3) (y:=1+(z / 3%3+1)%3) (z:=1+z / 3 / 3%3) (by omega) (by omega) (by omega)) (aI aG (aI (lQ rfl rfl rfl) (aI (xP rfl rfl) ?_)));simp only[zz];refine aI (aF Eg dT rfl rfl (by omega) (by omega) (fI (ag _))) (bE ?_);intro u m;simp only[zz];refine cX m 1 rfl rfl rfl dT (by simp only[bf,gv,ay,cd,hfx.1];omega) ⟨rfl,rfl⟩ ?_;intro u m;simp only[zz] at m;rw[Ts (by simp only[gv,hfx.1];omega)] at m;refine aN (gk ?_);exact hK4 _ _ _ (by kernel_rfl) m ⟨_,rfl,rfl,hfx.set (by omega) (by omega) (by omega)⟩
          ·
           apply aK 1 [0] m;simp only[↓aC];exact hK4 _ _ _ (by kernel_rfl) m ⟨_,rfl,rfl,hfx⟩
        · intro vs i wr m hI u
          obtain⟨ins,rfl,rfl,hfx⟩:=hI;simp only[zF,zG] at m;simp only[zu,zF,zG];apply aW 3 [0] m;simp only[↓aC];refine aB (lQ rfl rfl rfl) ?_;apply aL 2 [0,0] m;simp only[↓aC];refine iO m 1 [] [127,128,129,130,131,132,133,134,135,136,137,138,139,140,141,142,143] (fun vs i=>∃(ins:List Bool),vs=[]∧i=bI g2 (ins.map bm) 4∧(ab8 ins)) ?_ ?_
          · intro K5 hK5
            refine bA rfl ?_ ?_<;>intro hc5
            ·
             refine dA m 17 aD (by kernel_rfl) ?_;simp only[zy];refine eT 10 [0] ?_;simp only[↓aC,sG,Ol,aa];refine⟨by omega,?_⟩;refine aI (cL rfl rfl (by omega) (show (((z / 3 / 3%3+1)%3:Nat):Int)=_ from rfl)) ?_;simp only[zz];refine aI (eS rfl rfl (bG (by omega) (by omega))) ?_;simp only[zz];refine jJ rfl rfl (yI (x:=1+z%3) (y:=1+z / 3%3) (z:=1+(z / 3 / 3%3+1)%3) (by omega) (by omega) (by omega)) (aI aG (aI (lQ rfl rfl rfl) (aI (xP rfl rfl) ?_)));simp only[zz];refine aI (aF Eg dT rfl rfl (by omega) (by omega) (fI (ag _))) (bE ?_);intro u m;simp only[zz];refine cX m 1 rfl rfl rfl dT (by simp only[bf,gv,ay,cd,hfx.1];omega) ⟨rfl,rfl⟩ ?_;intro u m;simp only[zz] at m;rw[Ts (by simp only[gv,hfx.1];omega)] at m;refine aN (gk ?_);exact hK5 _ _ _ (by kernel_rfl) m ⟨_,rfl,rfl,hfx.set (by omega) (by omega) (by omega)⟩
            ·
             apply aK 1 [0] m;simp only[↓aC];exact hK5 _ _ _ (by kernel_rfl) m ⟨_,rfl,rfl,hfx⟩
          · intro vs i wr m hI u
            obtain⟨ins,rfl,rfl,hfx⟩:=hI;simp only[zF,zG] at m;simp only[zu,zF,zG];apply aW 6 [0] m;simp only[↓aC];refine⟨by omega,?_⟩;exact hK1 (60-(k+1)) _ _ (by omega) (by kernel_rfl) ⟨k+1,_,rfl,m,hfx,by omega,rfl⟩
   ·
    apply zvc 7 [0,2] m;simp only[↓aC,adQ,aa];intro u m;refine aT rfl ⟨_,rfl,((m.b 2 rfl).full alY Lr)⟩ ?_;try simp only[zD,zE]
    (obtain⟨hil,vt,hV,hB⟩:=hfx);exact⟨_,rfl,m.ext,_,_,ins,vt,rfl,agT (m.b 1 rfl) hil,hV,hB⟩
end Go.Proofs.YtfekpcimgncioaaGreatDoor
namespace Go.Proofs.YtfekpcimgncioaaGreatDoor
open Go.Proofs.Tryz
open Go.RowKit Go.Lith
set_option maxRecDepth 100000
attribute [local irreducible] au cu fA bF cG Code.wp
variable{q:P3}
theorem aov{p:P3}:tF prog 276 [pt p] (.int .i64 p.x):=by
 intro w;refine⟨aid,?_⟩;have m:=iJ.refl w
 go_enter func276,ntmps276
 refine aX fun K1 k1=>aq (oV m rfl ?_);intro g1 u m;refine aB aP (aN (k1 _ _ ?_));refine aX fun K2 k2=>aq (aB (bH (c:=0) underlying245 rfl bD rfl rfl) ?_);simp only[zz];refine aR rfl ((m.b 0 rfl).lies1 cC rfl) ?_;simp only[zz];refine aB aP (aN (k2 _ _ ?_));refine je ?_;simp only[zz];try simp only[di,Exit.then,if_true]
 refine aT rfl rfl ?_;try simp only[zD,zE]
 exact⟨_,rfl,m.ext,rfl⟩
theorem aow{p:P3}:tF prog 277 [pt p] (.int .i64 p.y):=by
 intro w;refine⟨aie,?_⟩;have m:=iJ.refl w
 go_enter func277,ntmps277
 refine aX fun K1 k1=>aq (oV m rfl ?_);intro g1 u m;refine aB aP (aN (k1 _ _ ?_));refine aX fun K2 k2=>aq (aB (bH (c:=0) underlying245 rfl bD rfl rfl) ?_);simp only[zz];refine aR rfl ((m.b 0 rfl).lies1 cC rfl) ?_;simp only[zz];refine aB aP (aN (k2 _ _ ?_));refine je ?_;simp only[zz];try simp only[di,Exit.then,if_true]
 refine aT rfl rfl ?_;try simp only[zD,zE]
 exact⟨_,rfl,m.ext,rfl⟩
theorem aox{p:P3}:tF prog 278 [pt p] (.int .i64 p.z):=by
 intro w;refine⟨aif,?_⟩;have m:=iJ.refl w
 go_enter func278,ntmps278
 refine aX fun K1 k1=>aq (oV m rfl ?_);intro g1 u m;refine aB aP (aN (k1 _ _ ?_));refine aX fun K2 k2=>aq (aB (bH (c:=0) underlying245 rfl bD rfl rfl) ?_);simp only[zz];refine aR rfl ((m.b 0 rfl).lies1 cC rfl) ?_;simp only[zz];refine aB aP (aN (k2 _ _ ?_));refine je ?_;simp only[zz];try simp only[di,Exit.then,if_true]
 refine aT rfl rfl ?_;try simp only[zD,zE]
 exact⟨_,rfl,m.ext,rfl⟩
theorem ana  : tF prog 195 [] (.agg #[.func (.func 276) #[] #[],.func (.func 277) #[] #[],.func (.func 278) #[] #[]]):=by
 intro w;refine⟨aic,?_⟩;have m:=iJ.refl w
 go_enter func195,ntmps195
 refine aX fun K1 k1=>aq (alM m abu rfl ?_);intro g1 u m;refine aN (k1 _ _ ?_);refine aX fun K2 k2=>aq (aB (Jc rfl rfl rfl) ?_);simp only[zz];refine ah0 m 0 rfl rfl rfl Lu (kG rfl) rfl ?_;intro u m;simp only[zy,zx,over,zF,zG,aa] at m;refine aN (k2 _ _ ?_);refine je ?_;try simp only[di,Exit.then,if_true]
 refine aT rfl ⟨_,rfl,((m.b 0 rfl).full aeS Lu)⟩ ?_;try simp only[zD,zE]
 exact⟨_,rfl,m.ext,rfl⟩
theorem uG{p:P3}:tF prog 130 [pt p,pt q] (.bool (decide (p.Lt q))):=by
 intro w;refine⟨bP func130 (by kernel_rfl),?_⟩;have m:=iJ.refl w
 go_enter func130,ntmps130
 refine aX fun K1 k1=>aq (oV m rfl ?_);intro g1 u m;simp only[zz];refine oV m rfl ?_;intro g2 u m;refine aB aP (aN (k1 _ _ ?_));refine aX fun K2 k2=>aX fun K3 k3=>aq ?_;simp only[zz];refine Pp m rfl rfl ana ?_;intro u m;refine aB aG (aN (k3 _ _ ?_));refine jm (pf 4 (Cv (aX fun K4 k4=>aq (aB (qW (m:=0) (n:=3) rfl rfl (by decide)) (aN (k4 _ _ ?_))))));refine aX fun K5 k5=>Cj rfl (jy (k5 _ _ ?_));refine aX fun K6 k6=>jm (aX fun K7 k7=>aq (aB (Gl rfl rfl) ?_));simp only[zz];refine aB aP (aN (k7 _ _ ?_));refine aX fun K8 k8=>?_;simp only[zz];refine Gmq m aD (by kernel_rfl) (aI aG ?_);simp only[zz];refine Us rfl (fun u m=>((m.b 1 rfl).full aH aA)) ?_;simp only[zz];refine Is rfl rfl aov (aI aG ?_);simp only[zz];refine Us rfl (fun u m=>((m.b 0 rfl).full aH aA)) ?_;simp only[zz];refine Is rfl rfl aov (aI aP (aI aP (bE ?_)));intro u m;refine k8 _ _ ?_;refine aX fun K9 k9=>aq (aB aG ?_);simp only[zz];refine aB aG (aB (tD rfl rfl) (aN (k9 _ _ ?_)));simp only[zz];refine bA rfl ?_ ?_<;>intro hc2
 ·
  refine aX fun K10 k10=>aq (aB aG (aB aG (aB (Ge rfl rfl) (aB aP ?_))));simp only[zz];refine aN (k10 _ _ ?_);refine je ?_;try simp only[di,Exit.then,if_true]
  refine aT rfl rfl ?_;try simp only[zD,zE]
  exact⟨_,rfl,m.ext,by simp only[P3.lt_x hc2]⟩
 ·
  have ex:p.x=q.x:=by omega
  refine jy (k6 _ _ ?_);refine aq (aB (eS (m:=0) (n:=1) (r:=1) rfl rfl (by decide)) (aB aG (aN (lR (aX fun K11 k11=>aq (aB (qW (m:=1) (n:=3) rfl rfl (by decide)) (aN (k11 _ _ ?_))))))));refine aX fun K12 k12=>Cj rfl (jy (k12 _ _ ?_));refine aX fun K13 k13=>jm (aX fun K14 k14=>aq (aB (Gm rfl rfl) ?_));simp only[zz];refine aB aP (aN (k14 _ _ ?_));refine aX fun K15 k15=>?_;simp only[zz];refine Gmq m aD (by kernel_rfl) (aI aG ?_);simp only[zz];refine Us rfl (fun u m=>((m.b 1 rfl).full aH aA)) ?_;simp only[zz];refine Is rfl rfl aow (aI aG ?_);simp only[zz];refine Us rfl (fun u m=>((m.b 0 rfl).full aH aA)) ?_;simp only[zz];refine Is rfl rfl aow (aI aP (aI aP (bE ?_)));intro u m;refine k15 _ _ ?_;refine aX fun K16 k16=>aq (aB aG ?_);simp only[zz];refine aB aG (aB (tD rfl rfl) (aN (k16 _ _ ?_)));simp only[zz];refine bA rfl ?_ ?_<;>intro hc2
  ·
   refine aX fun K17 k17=>aq (aB aG (aB aG (aB (Ge rfl rfl) (aB aP ?_))));simp only[zz];refine aN (k17 _ _ ?_);refine je ?_;try simp only[di,Exit.then,if_true]
   refine aT rfl rfl ?_;try simp only[zD,zE]
   exact⟨_,rfl,m.ext,by simp only[P3.lt_y ex hc2]⟩
  ·
   have ey:p.y=q.y:=by omega
   refine jy (k13 _ _ ?_);refine aq (aB (eS (m:=1) (n:=1) (r:=2) rfl rfl (by decide)) (aB aG (aN (lR (aX fun K18 k18=>aq (aB (qW (m:=2) (n:=3) rfl rfl (by decide)) (aN (k18 _ _ ?_))))))));refine aX fun K19 k19=>Cj rfl (jy (k19 _ _ ?_));refine aX fun K20 k20=>jm (aX fun K21 k21=>aq (aB (Gn rfl rfl) ?_));simp only[zz];refine aB aP (aN (k21 _ _ ?_));refine aX fun K22 k22=>?_;simp only[zz];refine Gmq m aD (by kernel_rfl) (aI aG ?_);simp only[zz];refine Us rfl (fun u m=>((m.b 1 rfl).full aH aA)) ?_;simp only[zz];refine Is rfl rfl aox (aI aG ?_);simp only[zz];refine Us rfl (fun u m=>((m.b 0 rfl).full aH aA)) ?_;simp only[zz];refine Is rfl rfl aox (aI aP (aI aP (bE ?_)));intro u m;refine k22 _ _ ?_;refine aX fun K23 k23=>aq (aB aG ?_);simp only[zz];refine aB aG (aB (tD rfl rfl) (aN (k23 _ _ ?_)));simp only[zz];refine bA rfl ?_ ?_<;>intro hc2
   ·
    refine aX fun K24 k24=>aq (aB aG (aB aG (aB (Ge rfl rfl) (aB aP ?_))));simp only[zz];refine aN (k24 _ _ ?_);refine je ?_;try simp only[di,Exit.then,if_true]
    refine aT rfl rfl ?_;try simp only[zD,zE]
    exact⟨_,rfl,m.ext,by simp only[P3.lt_z ex ey]⟩
   ·
    have ez:p.z=q.z:=by omega
    refine jy (k20 _ _ ?_);refine aq (aB (eS (m:=2) (n:=1) (r:=3) rfl rfl (by decide)) (aB aG (aN (lR (aX fun K25 k25=>aq (aB (Gy (m:=3) (n:=3) rfl rfl (by decide)) (aN (k25 _ _ ?_))))))));refine aX fun K26 k26=>afR rfl (wp_exit (k2 _ _ ?_));refine aX fun K27 k27=>aq (aB aP ?_);simp only[zz];refine aN (k27 _ _ ?_);refine je ?_;try simp only[di,Exit.then,if_true]
    refine aT rfl rfl ?_;try simp only[zD,zE]
    exact⟨_,rfl,m.ext,by rw[decide_eq_false (fun h=>by unfold P3.Lt at h;omega)]⟩
theorem Fp{p:P3}:tF prog 116 [pt p,pt q] (.int .i64 (qO p q)):=by
 intro w;refine⟨bP func116 (by kernel_rfl),?_⟩;have m:=iJ.refl w
 go_enter func116,ntmps116
 refine aX fun K1 k1=>aq (oV m rfl ?_);intro g1 u m;simp only[zz];refine oV m rfl ?_;intro g2 u m;refine aB aP (aN (k1 _ _ ?_));refine aX fun K2 k2=>jm (aX fun K3 k3=>aq ?_);simp only[zz];refine aR rfl ((m.b 1 rfl).full aH aA) ?_;simp only[zz];refine aR rfl ((m.b 0 rfl).full aH aA) ?_;simp only[zz];refine Pp m rfl rfl uG ?_;intro u m;refine aB aP (aN (k3 _ _ ?_));simp only[zz];refine bA rfl ?_ ?_<;>intro hc1
 ·
  refine aX fun K4 k4=>aq (aB aP (aN (k4 _ _ ?_)));refine je ?_;simp only[zz];try simp only[di,Exit.then,if_true]
  refine aT rfl rfl ?_;try simp only[zD,zE]
  exact⟨_,rfl,m.ext,by simp[qO,hc1]⟩
 ·
  refine aX fun K5 k5=>aq (aR rfl ((m.b 0 rfl).full aH aA) ?_);simp only[zz];refine aR rfl ((m.b 1 rfl).full aH aA) ?_;simp only[zz];refine Pp m rfl rfl uG ?_;intro u m;refine aB aP (aN (k5 _ _ ?_));simp only[zz];refine bA rfl ?_ ?_<;>intro hc2
  ·
   refine aX fun K6 k6=>aq (aB aP (aN (k6 _ _ ?_)));refine je ?_;simp only[zz];try simp only[di,Exit.then,if_true]
   refine aT rfl rfl ?_;try simp only[zD,zE]
   exact⟨_,rfl,m.ext,by simp[qO,hc1,hc2]⟩
  ·
   refine jy (k2 _ _ ?_);refine aX fun K7 k7=>aq (aB aP (aN (k7 _ _ ?_)));refine je ?_;simp only[zz];try simp only[di,Exit.then,if_true]
   refine aT rfl rfl ?_;try simp only[zD,zE]
   exact⟨_,rfl,m.ext,by simp[qO,hc1,hc2]⟩
end Go.Proofs.YtfekpcimgncioaaGreatDoor
namespace Go.Lith
open Go.RowKit
def ajX(P:Program)(f:FuncId)(args:List ai)(w:aj)(v:ai):Prop:=Entr P f∧Calls P f args.toArray w fun e w'=>∃u,e=.returned u∧GX w w'∧u=v
section
variable {P:Program} {ds:List dw} {l:List ai} {x y:bz} {T ty:av}
variable {ops:Array Oper} {Q:Exit→Act→aj→Prop} {rest:List Oper} {d:Nat} {pos:String} {after:Array Edge} {w w0:aj} {is:List It} {v:ai}
theorem ajY{E:av}{z:ai}(m:iJ w0 w is)(hu:P.underlying T=some (.slice E))(hi:(P.info? E).map (fun i=>(i.size,i.zero))=some (1,some z))(hz:z.cells = #[z]){v v2:ai}(hx:ev l x=v)(hv:v.cells = #[v])(hy:ev l y=v2)(hv2:v2.cells = #[v2])
 (h:∀g u,iJ w0 u (bI g [v,v2] E::is)→au P ops Q rest (Fr (l.set d (.slice (some ⟨g,0,none⟩) 2 2)) ds) u) :
 au P ops Q (bx (some d) (.buildSlice T 2 #[(0,x),(1,y)]) ty pos after none::rest) (Fr l ds) w:=by
 cases hq:P.info? E with
 | none=>rw[hq] at hi;cases hi
 | some i =>
  rw[hq] at hi;simp only[fa,ie,fk] at hi;obtain⟨e1,e2⟩:=hi;exact mK (w':=w.alloc (.cells #[v,v2] E)) (v:=.slice (some ⟨w.heap.size,0,none⟩) 2 2) (fun o ho _=>by simp[execOp,ho,Instr.buildSlice,cn hu,sizeOf,typeInfo,zeroValue,hq,e1,e2,hz,cJ,hx,hv,hy,hv2,Instr.fill,newRow,newObj,Sem.run,Ip]) (h _ _ (m.go (m.mem.newB ((gJ.refl w).alloc _) (ao _) (iX w [v,v2] E)) (ao _)))
theorem aaC(z v v2 v3:ai):(((Array.map (fun x=>[z][x%1]?.getD default) (Array.range 3)).setIfInBounds 0 v).setIfInBounds 1 v2).setIfInBounds 2 v3 = #[v,v2,v3]:=by
 apply Array.ext (by simp);intro i h1 h2;have h3:i<3:=by simpa using h2
 rcases Nat.lt_trichotomy i 1 with h | h | h
 · obtain rfl:i=0:=by omega
   simp
 · subst h
   simp
 · obtain rfl:i=2:=by omega
   simp
theorem ab9{E:av}{z:ai}{y3:bz}(m:iJ w0 w is)(hu:P.underlying T=some (.slice E))(hi:(P.info? E).map (fun i=>(i.size,i.zero))=some (1,some z))(hz:z.cells = #[z]){v v2 v3:ai}(hx:ev l x=v)(hv:v.cells = #[v])(hy:ev l y=v2)(hv2:v2.cells = #[v2])(hy3:ev l y3=v3)(hv3:v3.cells = #[v3])
 (h:∀g u,iJ w0 u (bI g [v,v2,v3] E::is)→au P ops Q rest (Fr (l.set d (.slice (some ⟨g,0,none⟩) 3 3)) ds) u) :
 au P ops Q (bx (some d) (.buildSlice T 3 #[(0,x),(1,y),(2,y3)]) ty pos after none::rest) (Fr l ds) w:=by
 cases hq:P.info? E with
 | none=>rw[hq] at hi;cases hi
 | some i =>
  rw[hq] at hi;simp only[fa,ie,fk] at hi;obtain⟨e1,e2⟩:=hi;exact mK (w':=w.alloc (.cells #[v,v2,v3] E)) (v:=.slice (some ⟨w.heap.size,0,none⟩) 3 3) (fun o ho _=>by simp[execOp,ho,Instr.buildSlice,cn hu,sizeOf,typeInfo,zeroValue,hq,e1,e2,hz,cJ,hx,hv,hy,hv2,hy3,hv3,Instr.fill,newRow,newObj,Sem.run,aaC]) (h _ _ (m.go (m.mem.newB ((gJ.refl w).alloc _) (ao _) (iX w [v,v2,v3] E)) (ao _)))
theorem aaD{f:FuncId}{fo:bz}{xs:Array bz}{args:List ai}{first cap:Array ai}{a0:Array av}(m:iJ w0 w is)(hf:ev l fo=.func (.func f) first cap)(hxs:first.toList++xs.toList.map (ev l)++cap.toList=args)(hc:ajX P f args w v)
 (h:∀u,iJ w0 u is→au P ops Q rest (Fr (l.set d v) ds) u):au P ops Q (bx (some d) (.call { callee:=.value fo,args:=xs,argTypes:=a0 }) ty pos after none::rest) (Fr l ds) w:=by
 refine wpList_plain rfl fun K hK=>?_;unfold Oper.wp;rw[kF,pM hc.1 hf hxs _ rfl];refine hc.2.mono ?_;rintro e w' ⟨u,rfl,hE,rfl⟩;show K ((Fr l ds).put (some d) u) w'
 rw[iE];exact hK _ _ (h w' (m.ext' hE))
end
end Go.Lith
namespace Go.Proofs
open Go.Shelf
def Tryz.sort112_ren:Go.Shelf.Ren:=⟨fun | 6=>112 | 15=>181 | 14=>180 | 28=>254 | 29=>255 | 20=>246 | 21=>247 | 22=>248 | 23=>249 | 24=>250 | 25=>251 | 26=>252 | 27=>253 | 46=>309 | 47=>310 | 48=>311 | 49=>312 | 50=>313 | 57=>339 | n=>n,fun | 22=>27 | 24=>39 | 25=>162 | 3=>3 | 39=>141 | 0=>0 | 53=>297 | 55=>231 | 4=>4 | 46=>291 | 45=>290 | 50=>202 | 5=>5 | 9=>9 | 66=>343 | 70=>347 | 76=>369 | 77=>367 | n=>n,fun | n=>n⟩
theorem Tryz.sort112:Go.Proofs.SlLaysF0.n6 Tryz.prog Tryz.sort112_ren:={
 mixed:=by kernel_rfl
 f6:=⟨Tryz.f112.name,by decide,Tryz.func112.trans (congrArg some (by kernel_rfl))⟩
 f14:=⟨Tryz.f180.name,by decide,Tryz.func180.trans (congrArg some (by kernel_rfl))⟩
 f15:=Tryz.func181.trans (congrArg some (by kernel_rfl))
 f20:=⟨Tryz.f246.name,by decide,Tryz.func246.trans (congrArg some (by kernel_rfl))⟩
 f21:=⟨Tryz.f247.name,by decide,Tryz.func247.trans (congrArg some (by kernel_rfl))⟩
 f22:=⟨Tryz.f248.name,by decide,Tryz.func248.trans (congrArg some (by kernel_rfl))⟩
 f23:=⟨Tryz.f249.name,by decide,Tryz.func249.trans (congrArg some (by kernel_rfl))⟩
 f24:=⟨Tryz.f250.name,by decide,Tryz.func250.trans (congrArg some (by kernel_rfl))⟩
 f25:=⟨Tryz.f251.name,by decide,Tryz.func251.trans (congrArg some (by kernel_rfl))⟩
 f26:=⟨Tryz.f252.name,by decide,Tryz.func252.trans (congrArg some (by kernel_rfl))⟩
 f27:=⟨Tryz.f253.name,by decide,Tryz.func253.trans (congrArg some (by kernel_rfl))⟩
 f28:=Tryz.func254.trans (congrArg some (by kernel_rfl))
 f29:=Tryz.func255.trans (congrArg some (by kernel_rfl))
 f46:=⟨Tryz.f309.name,by decide,Tryz.func309.trans (congrArg some (by kernel_rfl))⟩
 f47:=Tryz.func310.trans (congrArg some (by kernel_rfl))
 f48:=Tryz.func311.trans (congrArg some (by kernel_rfl))
 f49:=⟨Tryz.f312.name,by decide,Tryz.func312.trans (congrArg some (by kernel_rfl))⟩
 f50:=⟨Tryz.f313.name,by decide,Tryz.func313.trans (congrArg some (by kernel_rfl))⟩
 f57:=⟨Tryz.f339.name,by decide,Tryz.func339.trans (congrArg some (by kernel_rfl))⟩
 t0:=Tryz.underlying0
 a0:=Tryz.isAgg0
 z0:=Tryz.sizeOf0
 v0:=Tryz.zeroValue0
 t3:=Tryz.underlying3
 a3:=Tryz.isAgg3
 z3:=Tryz.sizeOf3
 v3:=Tryz.zeroValue3
 t4:=Tryz.underlying4
 a4:=Tryz.isAgg4
 z4:=Tryz.sizeOf4
 v4:=Tryz.zeroValue4
 t5:=Tryz.underlying5
 a5:=Tryz.isAgg5
 z5:=Tryz.sizeOf5
 v5:=Tryz.zeroValue5
 t9:=Tryz.underlying9
 a9:=Tryz.isAgg9
 z9:=Tryz.sizeOf9
 v9:=Tryz.zeroValue9
 t22:=Tryz.underlying27
 a22:=Tryz.isAgg27
 z22:=Tryz.sizeOf27
 v22:=Tryz.zeroValue27
 t25:=Tryz.underlying162
 a25:=Tryz.isAgg162
 z25:=Tryz.sizeOf162
 v25:=Tryz.zeroValue162
 t39:=Tryz.underlying141
 a39:=Tryz.isAgg141
 z39:=Tryz.sizeOf141
 v39:=Tryz.zeroValue141
 t45:=Tryz.underlying290
 a45:=Tryz.isAgg290
 z45:=Tryz.sizeOf290
 v45:=Tryz.zeroValue290
 t46:=Tryz.underlying291
 a46:=Tryz.isAgg291
 z46:=Tryz.sizeOf291
 v46:=Tryz.zeroValue291
 t50:=Tryz.underlying202
 a50:=Tryz.isAgg202
 z50:=Tryz.sizeOf202
 v50:=Tryz.zeroValue202
 t53:=Tryz.underlying297
 a53:=Tryz.isAgg297
 z53:=Tryz.sizeOf297
 v53:=Tryz.zeroValue297
 t55:=Tryz.underlying231
 a55:=Tryz.isAgg231
 z55:=Tryz.sizeOf231
 v55:=Tryz.zeroValue231
 t66:=Tryz.underlying343
 a66:=Tryz.isAgg343
 z66:=Tryz.sizeOf343
 v66:=Tryz.zeroValue343
 t70:=Tryz.underlying347
 a70:=Tryz.isAgg347
 z70:=Tryz.sizeOf347
 v70:=Tryz.zeroValue347
 t76:=Tryz.underlying369
 a76:=Tryz.isAgg369
 z76:=Tryz.sizeOf369
 v76:=Tryz.zeroValue369
 t77:=Tryz.underlying367
 a77:=Tryz.isAgg367
 z77:=Tryz.sizeOf367
 v77:=Tryz.zeroValue367 }
def Tryz.sort123_ren:Go.Shelf.Ren:=⟨fun | 6=>123 | 15=>181 | 14=>190 | 28=>254 | 29=>255 | 20=>259 | 21=>260 | 22=>261 | 23=>262 | 24=>263 | 25=>264 | 26=>265 | 27=>266 | 46=>319 | 47=>310 | 48=>311 | 49=>320 | 50=>321 | 57=>343 | n=>n,fun | 22=>105 | 24=>112 | 25=>115 | 3=>3 | 39=>141 | 0=>0 | 53=>297 | 55=>231 | 4=>4 | 46=>291 | 45=>290 | 50=>202 | 5=>5 | 9=>9 | 66=>343 | 70=>347 | 76=>369 | 77=>367 | n=>n,fun | n=>n⟩
theorem Tryz.sort123:Go.Proofs.SlLaysF0.n6 Tryz.prog Tryz.sort123_ren:={
 mixed:=by kernel_rfl
 f6:=⟨Tryz.f123.name,by decide,Tryz.func123.trans (congrArg some (by kernel_rfl))⟩
 f14:=⟨Tryz.f190.name,by decide,Tryz.func190.trans (congrArg some (by kernel_rfl))⟩
 f15:=Tryz.func181.trans (congrArg some (by kernel_rfl))
 f20:=⟨Tryz.f259.name,by decide,Tryz.func259.trans (congrArg some (by kernel_rfl))⟩
 f21:=⟨Tryz.f260.name,by decide,Tryz.func260.trans (congrArg some (by kernel_rfl))⟩
 f22:=⟨Tryz.f261.name,by decide,Tryz.func261.trans (congrArg some (by kernel_rfl))⟩
 f23:=⟨Tryz.f262.name,by decide,Tryz.func262.trans (congrArg some (by kernel_rfl))⟩
 f24:=⟨Tryz.f263.name,by decide,Tryz.func263.trans (congrArg some (by kernel_rfl))⟩
 f25:=⟨Tryz.f264.name,by decide,Tryz.func264.trans (congrArg some (by kernel_rfl))⟩
 f26:=⟨Tryz.f265.name,by decide,Tryz.func265.trans (congrArg some (by kernel_rfl))⟩
 f27:=⟨Tryz.f266.name,by decide,Tryz.func266.trans (congrArg some (by kernel_rfl))⟩
 f28:=Tryz.func254.trans (congrArg some (by kernel_rfl))
 f29:=Tryz.func255.trans (congrArg some (by kernel_rfl))
 f46:=⟨Tryz.f319.name,by decide,Tryz.func319.trans (congrArg some (by kernel_rfl))⟩
 f47:=Tryz.func310.trans (congrArg some (by kernel_rfl))
 f48:=Tryz.func311.trans (congrArg some (by kernel_rfl))
 f49:=⟨Tryz.f320.name,by decide,Tryz.func320.trans (congrArg some (by kernel_rfl))⟩
 f50:=⟨Tryz.f321.name,by decide,Tryz.func321.trans (congrArg some (by kernel_rfl))⟩
 f57:=⟨Tryz.f343.name,by decide,Tryz.func343.trans (congrArg some (by kernel_rfl))⟩
 t0:=Tryz.underlying0
 a0:=Tryz.isAgg0
 z0:=Tryz.sizeOf0
 v0:=Tryz.zeroValue0
 t3:=Tryz.underlying3
 a3:=Tryz.isAgg3
 z3:=Tryz.sizeOf3
 v3:=Tryz.zeroValue3
 t4:=Tryz.underlying4
 a4:=Tryz.isAgg4
 z4:=Tryz.sizeOf4
 v4:=Tryz.zeroValue4
 t5:=Tryz.underlying5
 a5:=Tryz.isAgg5
 z5:=Tryz.sizeOf5
 v5:=Tryz.zeroValue5
 t9:=Tryz.underlying9
 a9:=Tryz.isAgg9
 z9:=Tryz.sizeOf9
 v9:=Tryz.zeroValue9
 t22:=Tryz.underlying105
 a22:=Tryz.isAgg105
 z22:=Tryz.sizeOf105
 v22:=Tryz.zeroValue105
 t25:=Tryz.underlying115
 a25:=Tryz.isAgg115
 z25:=Tryz.sizeOf115
 v25:=Tryz.zeroValue115
 t39:=Tryz.underlying141
 a39:=Tryz.isAgg141
 z39:=Tryz.sizeOf141
 v39:=Tryz.zeroValue141
 t45:=Tryz.underlying290
 a45:=Tryz.isAgg290
 z45:=Tryz.sizeOf290
 v45:=Tryz.zeroValue290
 t46:=Tryz.underlying291
 a46:=Tryz.isAgg291
 z46:=Tryz.sizeOf291
 v46:=Tryz.zeroValue291
 t50:=Tryz.underlying202
 a50:=Tryz.isAgg202
 z50:=Tryz.sizeOf202
 v50:=Tryz.zeroValue202
 t53:=Tryz.underlying297
 a53:=Tryz.isAgg297
 z53:=Tryz.sizeOf297
 v53:=Tryz.zeroValue297
 t55:=Tryz.underlying231
 a55:=Tryz.isAgg231
 z55:=Tryz.sizeOf231
 v55:=Tryz.zeroValue231
 t66:=Tryz.underlying343
 a66:=Tryz.isAgg343
 z66:=Tryz.sizeOf343
 v66:=Tryz.zeroValue343
 t70:=Tryz.underlying347
 a70:=Tryz.isAgg347
 z70:=Tryz.sizeOf347
 v70:=Tryz.zeroValue347
 t76:=Tryz.underlying369
 a76:=Tryz.isAgg369
 z76:=Tryz.sizeOf369
 v76:=Tryz.zeroValue369
 t77:=Tryz.underlying367
 a77:=Tryz.isAgg367
 z77:=Tryz.sizeOf367
 v77:=Tryz.zeroValue367 }
def Tryz.sort128_ren:Go.Shelf.Ren:=⟨fun | 6=>128 | 15=>181 | 14=>194 | 28=>254 | 29=>255 | 20=>268 | 21=>269 | 22=>270 | 23=>271 | 24=>272 | 25=>273 | 26=>274 | 27=>275 | 46=>322 | 47=>310 | 48=>311 | 49=>323 | 50=>324 | 57=>344 | n=>n,fun | 22=>65 | 24=>30 | 25=>123 | 3=>3 | 39=>141 | 0=>0 | 53=>297 | 55=>231 | 4=>4 | 46=>291 | 45=>290 | 50=>202 | 5=>5 | 9=>9 | 66=>343 | 70=>347 | 76=>369 | 77=>367 | n=>n,fun | n=>n⟩
theorem Tryz.sort128:Go.Proofs.SlLaysF0.n6 Tryz.prog Tryz.sort128_ren:={
 mixed:=by kernel_rfl
 f6:=⟨Tryz.f128.name,by decide,Tryz.func128.trans (congrArg some (by kernel_rfl))⟩
 f14:=⟨Tryz.f194.name,by decide,Tryz.func194.trans (congrArg some (by kernel_rfl))⟩
 f15:=Tryz.func181.trans (congrArg some (by kernel_rfl))
 f20:=⟨Tryz.f268.name,by decide,Tryz.func268.trans (congrArg some (by kernel_rfl))⟩
 f21:=⟨Tryz.f269.name,by decide,Tryz.func269.trans (congrArg some (by kernel_rfl))⟩
 f22:=⟨Tryz.f270.name,by decide,Tryz.func270.trans (congrArg some (by kernel_rfl))⟩
 f23:=⟨Tryz.f271.name,by decide,Tryz.func271.trans (congrArg some (by kernel_rfl))⟩
 f24:=⟨Tryz.f272.name,by decide,Tryz.func272.trans (congrArg some (by kernel_rfl))⟩
 f25:=⟨Tryz.f273.name,by decide,Tryz.func273.trans (congrArg some (by kernel_rfl))⟩
 f26:=⟨Tryz.f274.name,by decide,Tryz.func274.trans (congrArg some (by kernel_rfl))⟩
 f27:=⟨Tryz.f275.name,by decide,Tryz.func275.trans (congrArg some (by kernel_rfl))⟩
 f28:=Tryz.func254.trans (congrArg some (by kernel_rfl))
 f29:=Tryz.func255.trans (congrArg some (by kernel_rfl))
 f46:=⟨Tryz.f322.name,by decide,Tryz.func322.trans (congrArg some (by kernel_rfl))⟩
 f47:=Tryz.func310.trans (congrArg some (by kernel_rfl))
 f48:=Tryz.func311.trans (congrArg some (by kernel_rfl))
 f49:=⟨Tryz.f323.name,by decide,Tryz.func323.trans (congrArg some (by kernel_rfl))⟩
 f50:=⟨Tryz.f324.name,by decide,Tryz.func324.trans (congrArg some (by kernel_rfl))⟩
 f57:=⟨Tryz.f344.name,by decide,Tryz.func344.trans (congrArg some (by kernel_rfl))⟩
 t0:=Tryz.underlying0
 a0:=Tryz.isAgg0
 z0:=Tryz.sizeOf0
 v0:=Tryz.zeroValue0
 t3:=Tryz.underlying3
 a3:=Tryz.isAgg3
 z3:=Tryz.sizeOf3
 v3:=Tryz.zeroValue3
 t4:=Tryz.underlying4
 a4:=Tryz.isAgg4
 z4:=Tryz.sizeOf4
 v4:=Tryz.zeroValue4
 t5:=Tryz.underlying5
 a5:=Tryz.isAgg5
 z5:=Tryz.sizeOf5
 v5:=Tryz.zeroValue5
 t9:=Tryz.underlying9
 a9:=Tryz.isAgg9
 z9:=Tryz.sizeOf9
 v9:=Tryz.zeroValue9
 t22:=Tryz.underlying65
 a22:=Tryz.isAgg65
 z22:=Tryz.sizeOf65
 v22:=Tryz.zeroValue65
 t25:=Tryz.underlying123
 a25:=Tryz.isAgg123
 z25:=Tryz.sizeOf123
 v25:=Tryz.zeroValue123
 t39:=Tryz.underlying141
 a39:=Tryz.isAgg141
 z39:=Tryz.sizeOf141
 v39:=Tryz.zeroValue141
 t45:=Tryz.underlying290
 a45:=Tryz.isAgg290
 z45:=Tryz.sizeOf290
 v45:=Tryz.zeroValue290
 t46:=Tryz.underlying291
 a46:=Tryz.isAgg291
 z46:=Tryz.sizeOf291
 v46:=Tryz.zeroValue291
 t50:=Tryz.underlying202
 a50:=Tryz.isAgg202
 z50:=Tryz.sizeOf202
 v50:=Tryz.zeroValue202
 t53:=Tryz.underlying297
 a53:=Tryz.isAgg297
 z53:=Tryz.sizeOf297
 v53:=Tryz.zeroValue297
 t55:=Tryz.underlying231
 a55:=Tryz.isAgg231
 z55:=Tryz.sizeOf231
 v55:=Tryz.zeroValue231
 t66:=Tryz.underlying343
 a66:=Tryz.isAgg343
 z66:=Tryz.sizeOf343
 v66:=Tryz.zeroValue343
 t70:=Tryz.underlying347
 a70:=Tryz.isAgg347
 z70:=Tryz.sizeOf347
 v70:=Tryz.zeroValue347
 t76:=Tryz.underlying369
 a76:=Tryz.isAgg369
 z76:=Tryz.sizeOf369
 v76:=Tryz.zeroValue369
 t77:=Tryz.underlying367
 a77:=Tryz.isAgg367
 z77:=Tryz.sizeOf367
 v77:=Tryz.zeroValue367 }
def Tryz.sort237_ren:Go.Shelf.Ren:=⟨fun | 6=>237 | 15=>181 | 14=>297 | 28=>254 | 29=>255 | 20=>328 | 21=>329 | 22=>330 | 23=>331 | 24=>332 | 25=>333 | 26=>334 | 27=>335 | 46=>345 | 47=>310 | 48=>311 | 49=>346 | 50=>347 | 57=>350 | n=>n,fun | 22=>212 | 24=>215 | 25=>216 | 3=>3 | 39=>141 | 0=>0 | 53=>297 | 55=>231 | 4=>4 | 46=>291 | 45=>290 | 50=>202 | 5=>5 | 9=>9 | 66=>343 | 70=>347 | 76=>369 | 77=>367 | n=>n,fun | n=>n⟩
theorem Tryz.sort237:Go.Proofs.SlLaysF0.n6 Tryz.prog Tryz.sort237_ren:={
 mixed:=by kernel_rfl
 f6:=⟨Tryz.f237.name,by decide,Tryz.func237.trans (congrArg some (by kernel_rfl))⟩
 f14:=⟨Tryz.f297.name,by decide,Tryz.func297.trans (congrArg some (by kernel_rfl))⟩
 f15:=Tryz.func181.trans (congrArg some (by kernel_rfl))
 f20:=⟨Tryz.f328.name,by decide,Tryz.func328.trans (congrArg some (by kernel_rfl))⟩
 f21:=⟨Tryz.f329.name,by decide,Tryz.func329.trans (congrArg some (by kernel_rfl))⟩
 f22:=⟨Tryz.f330.name,by decide,Tryz.func330.trans (congrArg some (by kernel_rfl))⟩
 f23:=⟨Tryz.f331.name,by decide,Tryz.func331.trans (congrArg some (by kernel_rfl))⟩
 f24:=⟨Tryz.f332.name,by decide,Tryz.func332.trans (congrArg some (by kernel_rfl))⟩
 f25:=⟨Tryz.f333.name,by decide,Tryz.func333.trans (congrArg some (by kernel_rfl))⟩
 f26:=⟨Tryz.f334.name,by decide,Tryz.func334.trans (congrArg some (by kernel_rfl))⟩
 f27:=⟨Tryz.f335.name,by decide,Tryz.func335.trans (congrArg some (by kernel_rfl))⟩
 f28:=Tryz.func254.trans (congrArg some (by kernel_rfl))
 f29:=Tryz.func255.trans (congrArg some (by kernel_rfl))
 f46:=⟨Tryz.f345.name,by decide,Tryz.func345.trans (congrArg some (by kernel_rfl))⟩
 f47:=Tryz.func310.trans (congrArg some (by kernel_rfl))
 f48:=Tryz.func311.trans (congrArg some (by kernel_rfl))
 f49:=⟨Tryz.f346.name,by decide,Tryz.func346.trans (congrArg some (by kernel_rfl))⟩
 f50:=⟨Tryz.f347.name,by decide,Tryz.func347.trans (congrArg some (by kernel_rfl))⟩
 f57:=⟨Tryz.f350.name,by decide,Tryz.func350.trans (congrArg some (by kernel_rfl))⟩
 t0:=Tryz.underlying0
 a0:=Tryz.isAgg0
 z0:=Tryz.sizeOf0
 v0:=Tryz.zeroValue0
 t3:=Tryz.underlying3
 a3:=Tryz.isAgg3
 z3:=Tryz.sizeOf3
 v3:=Tryz.zeroValue3
 t4:=Tryz.underlying4
 a4:=Tryz.isAgg4
 z4:=Tryz.sizeOf4
 v4:=Tryz.zeroValue4
 t5:=Tryz.underlying5
 a5:=Tryz.isAgg5
 z5:=Tryz.sizeOf5
 v5:=Tryz.zeroValue5
 t9:=Tryz.underlying9
 a9:=Tryz.isAgg9
 z9:=Tryz.sizeOf9
 v9:=Tryz.zeroValue9
 t22:=Tryz.underlying212
 a22:=Tryz.isAgg212
 z22:=Tryz.sizeOf212
 v22:=Tryz.zeroValue212
 t25:=Tryz.underlying216
 a25:=Tryz.isAgg216
 z25:=Tryz.sizeOf216
 v25:=Tryz.zeroValue216
 t39:=Tryz.underlying141
 a39:=Tryz.isAgg141
 z39:=Tryz.sizeOf141
 v39:=Tryz.zeroValue141
 t45:=Tryz.underlying290
 a45:=Tryz.isAgg290
 z45:=Tryz.sizeOf290
 v45:=Tryz.zeroValue290
 t46:=Tryz.underlying291
 a46:=Tryz.isAgg291
 z46:=Tryz.sizeOf291
 v46:=Tryz.zeroValue291
 t50:=Tryz.underlying202
 a50:=Tryz.isAgg202
 z50:=Tryz.sizeOf202
 v50:=Tryz.zeroValue202
 t53:=Tryz.underlying297
 a53:=Tryz.isAgg297
 z53:=Tryz.sizeOf297
 v53:=Tryz.zeroValue297
 t55:=Tryz.underlying231
 a55:=Tryz.isAgg231
 z55:=Tryz.sizeOf231
 v55:=Tryz.zeroValue231
 t66:=Tryz.underlying343
 a66:=Tryz.isAgg343
 z66:=Tryz.sizeOf343
 v66:=Tryz.zeroValue343
 t70:=Tryz.underlying347
 a70:=Tryz.isAgg347
 z70:=Tryz.sizeOf347
 v70:=Tryz.zeroValue347
 t76:=Tryz.underlying369
 a76:=Tryz.isAgg369
 z76:=Tryz.sizeOf369
 v76:=Tryz.zeroValue369
 t77:=Tryz.underlying367
 a77:=Tryz.isAgg367
 z77:=Tryz.sizeOf367
 v77:=Tryz.zeroValue367 }
end Go.Proofs
namespace Go.Proofs.YtfekpcimgncioaaGreatDoor
open Go.Proofs.Tryz
open Go.RowKit Go.Lith
set_option maxRecDepth 100000
attribute [local irreducible] au cu fA bF cG Code.wp
attribute [local congr] nO fK fM fN fO fP iY fQ fR fS fT fU fV fW fX fY fZ gA dX dY gB gC gE gF gG jA cQ cR cE cP gD iZ dZ eA eB gH gI jD
variable{w:aj}{c N cap:Nat}{es:Array de}{ts:List T3}{A:Option Addr}{op:Bool}{E:List E3}
theorem gU:sQ prog 30 pt:=by
 refine sQ.agg (cs:=fun p=>#[.int .i64 p.x,.int .i64 p.y,.int .i64 p.z]) (fun _=>rfl) vC (fun e p=>?_) (fun p q=>?_) (fun p=>?_)
 ·
  refine xO.struct (d:=9999) vC fun f hf=>?_;simp only[an,cl,or_false] at hf;rcases hf with rfl | rfl | rfl <;> exact⟨_,cW cC rfl,xO.int (d:=9998) lA⟩
 · exact (oX 9998).iff ⟨fun h=>P3.eq h.1 h.2.1 h.2.2,fun h=>by subst h;exact⟨rfl,rfl,rfl⟩⟩
 · simp[pt,Instr.sameBits]
theorem ad4{w0:aj}{is:List It}{g:Nat}{D:List (P3 × Bool)}{p:P3}(m:Mem w0 w is)(k:Nat)(hk:is[k]? = some (mI g es c))(hD1:bJ pt bm D es c):Calls prog 114 [.map (some g),pt p].toArray w fun e w'=>∃v i,e=.returned v∧Mem w0 w' (is.set k i)∧(v=.bool (!(cD D p).getD false)∧∃es' c',i=mI g es' c'∧bJ pt bm (fJ D p true) es' c'):=by
 go_enter func114,ntmps114
 apply mR 10 [0,0] m;simp only[↓aC,aU];intro g1 u m;refine gK (eE (ek:=pt) (en:=bm) (k:=p) (v0:=false) underlying163 oW gU rfl rfl (m.p (k+1) hk) hD1) ?_;simp only[zz];apply aL 1 [0] m;simp only[↓aC];refine eG rfl ?_ ?_<;>intro hc1
 ·
  apply aK 5 [] m;simp only[↓aC];exact aT rfl rfl ⟨_,mI g es c,rfl,by rw[Ry hk];exact m.tl,by rw[hc1];rfl,es,c,rfl,by rw[Lw (by cases hq:cD D p with | none=>rw[hq] at hc1;cases hc1 | some x=>rw[hq] at hc1;exact congrArg some hc1)];exact hD1⟩
 ·
  apply aK 5 [0,0] m;simp only[↓aC,aU];refine nN (ek:=pt) (en:=bm) (a:=p) (v:=true) m (k+1) hk underlying163 gU rfl rfl rfl hD1 ?_;intro es1 c1 u m hD1;simp only[zF,zG] at m;apply aL 6 [] m;simp only[↓aC];exact aT rfl rfl ⟨_,_,rfl,m.tl,by rw[hc1];rfl,_,_,rfl,hD1⟩
theorem anb{w0 w:aj}{is:List It}{A:Option Addr}{n cap:Nat}{xs:List P3}(m:Mem w0 w is)(k:Nat)(hi:is[k]? = some (oI 30 3 A n cap (xs.flatMap dU)))(hsz:n<4611686018427387904) :
 Calls prog 128 [.slice A n cap,.func (.func 116) #[] #[]].toArray w fun e w'=>∃v i,e=.returned v∧Mem w0 w' (is.set k i)∧(v=.tuple #[]∧∃ys:List P3,i=oI 30 3 A n cap (ys.flatMap dU)∧ys.Perm xs∧ys.Pairwise fun a b=>ltOf qO b a=false) :=
 Dh (enc:=dU) Tryz.sort128 (fun w=>pN aH w) (fun w=>eC aA w) (fun _=>rfl) (by decide) Oc qO abE (fun x y=>Fp) m k hi hsz
theorem agU{g:Nat}{D:List (P3 × Bool)}(w:aj)(hM:iW w g es c)(hD:bJ pt bm D es c)(hl:D.length≤1000000):dK prog 115 [.map (some g),.func (.func 116) #[] #[]] w (OR 30 3 (fun xs=>∃ps:List P3,xs=ps.flatMap dU∧ps.Perm (D.map (·.1))∧ps.Pairwise fun a b=>¬b.Lt a) w):=by
 refine⟨bP func115 (by kernel_rfl),?_⟩;have m:=Mem.refl w
 go_enter func115,ntmps115
 apply fG 6 [0] m;simp only[↓aC];refine aB aP ?_;replace m:=m.nilO 30 3;apply aL 5 [0] m;simp only[↓aC];refine xG m underlying163 rfl (hM.ext m.ext) ?_;intro r1 u m;apply aL 2 [0] m;simp only[↓aC];refine bX [5] [6,9,10,11,12,13,14,15,16] (fun n vs wl=>∃(dn rs:List (P3 × Bool)) (A1:Option Addr) (n1 cap1:Nat) (sn:Array Nat),vs=[.slice A1 n1 cap1]∧Mem w wl [iI r1 g c sn,oI 30 3 A1 n1 cap1 ((dn.map (·.1)).flatMap dU)]∧(oJ pt bm D es sn dn rs)∧(n1=dn.length)∧(n=rs.length)) ?_ ?_
 ·
  exact⟨_,[],D,none,0,0,#[],rfl,m,oJ.start hD,rfl,rfl⟩
 ·
  intro n vs wr hI u K1 hK1;obtain⟨dn,rs,A1,n1,cap1,sn,rfl,m,hT,hn1,hn⟩:=hI;have hlen:=hT.len;simp only[zu,zF,zG];apply aK 2 [0] m;simp only[↓aC];refine Oa m 0 rfl rfl (hM.ext m.ext) hD hT ?_;intro bb kk vv sn u m hN;simp only[zF,zG] at m;refine aB (pZ rfl) ?_;apply aL 2 [0] m;simp only[↓aC];refine eG rfl ?_ ?_<;>intro hc1
  ·
   obtain⟨kp,kb,rs2,hp,hT2⟩:=Jf hc1 hN;apply aK 4 [0] m;simp only[↓aC];refine gK (uA rfl (m.r 0 rfl) (hM.ext m.ext) hD hT2) ?_;simp only[zz];apply kP 7 [0,0,0] m;simp only[↓aC,gM,aU,aa];intro g2 u m;refine pD rfl ?_;intro u g3 e_ h_ k_;replace m:=m.newB e_ h_ k_;simp only[zz];refine bW m 3 rfl rfl eK qY rfl (by decide) rfl rfl rfl (m.b 0 rfl).rowsO (jX rfl) (by omega) (by omega) ?_;intro A1 cap1 u m;simp only[zF,zG] at m;apply aL 3 [0] m;simp only[↓aC];exact hK1 rs2.length _ _ (by rw[hn,hp.length_eq];exact fg _) (by kernel_rfl) ⟨dn++[(kp,kb)],rs2,_,_,_,_,rfl,((m.reO 3 rfl ((m.o 3 rfl).as (by simp[dU]))).sel [false,false,true,true]),hT2,by simp[hn1],rfl⟩
  ·
   obtain rfl:=Je hc1 hN;apply aK 5 [0] m;simp only[↓aC];refine mM m 1 adb rfl rfl (fun m=>anb m 1 rfl (by omega)) ?_;rintro v i u m ⟨rfl,ys,rfl,hys,hso⟩;simp only[zF,zG] at m;apply aL 7 [] m;simp only[↓aC];exact aT rfl rfl ⟨_,rfl,m.ext,_,_,_,_,rfl,(m.o 1 rfl),_,rfl,hys.trans (hT.done.map _),hso.imp fun h=>by simpa[ltOf,mF] using h⟩
theorem Eh:sQ prog 215 ed:=by
 refine sQ.agg (cs:=fun p=>#[.int .i64 p.1.x,.int .i64 p.1.y,.int .i64 p.1.z,.int .i64 p.2.x,.int .i64 p.2.y,.int .i64 p.2.z]) (fun _=>rfl) vB (fun e p=>?_) (fun p q=>?_) (fun p=>?_)
 ·
  refine xO.struct (d:=9999) vB fun f hf=>?_;simp only[an,cl,or_false] at hf;rcases hf with rfl | rfl
  ·
   refine⟨_,cS aH aA rfl,?_⟩;refine xO.struct (d:=9998) vC fun f hf=>?_;simp only[an,cl,or_false] at hf;rcases hf with rfl | rfl | rfl
   · exact⟨_,cW cC rfl,xO.int (d:=9997) lA⟩
   · exact⟨_,cW cC rfl,xO.int (d:=9997) lA⟩
   · exact⟨_,cW cC rfl,xO.int (d:=9997) lA⟩
  ·
   refine⟨_,cS aH aA rfl,?_⟩;refine xO.struct (d:=9998) vC fun f hf=>?_;simp only[an,cl,or_false] at hf;rcases hf with rfl | rfl | rfl
   · exact⟨_,cW cC rfl,xO.int (d:=9997) lA⟩
   · exact⟨_,cW cC rfl,xO.int (d:=9997) lA⟩
   · exact⟨_,cW cC rfl,xO.int (d:=9997) lA⟩
 · exact (al5 _).iff ⟨fun h=>Prod.ext (P3.eq h.1 h.2.1 h.2.2.1) (P3.eq h.2.2.2.1 h.2.2.2.2.1 h.2.2.2.2.2),fun h=>by subst h;simp only[and_self]⟩
 · simp[ed,Instr.sameBits]
theorem asy{x y:Int}{g1:Nat}(w:aj)(hB1:gT w g1 [.int .i64 x,.int .i64 y] 3):ajX prog 125 [.slice (some ⟨g1,0,none⟩) 2 2] w (.int .i64 (if x=0 then y else x)):=by
 refine⟨aia,?_⟩;have m:=iJ.refl w
 go_enter func125,ntmps125
 refine aX fun K1 k1=>aq (aB aP (aN (k1 _ _ ?_)));refine aX fun K2 k2=>aq (aB aP (aN (k2 _ _ ?_)));refine aX fun K3 k3=>aX fun K4 k4=>aq (aB aG (aB (Lh rfl lM rfl) ?_));simp only[zz];refine aB aG (aN (k4 _ _ ?_));refine jm (pf 3 (Cv (aX fun K5 k5=>aq (aB (qW (m:=0) (n:=2) rfl rfl (by decide)) (aN (k5 _ _ ?_))))));refine aX fun K6 k6=>Cj rfl (jy (k6 _ _ ?_));refine aX fun K7 k7=>jm (aX fun K8 k8=>aq ?_);simp only[zz];refine aB (aF lM bD rfl rfl (by decide) (by omega) rfl) ?_;simp only[zz];refine aR rfl ((hB1.ext m.ext.ext).lies1 cC rfl) ?_;simp only[zz];refine aB aP (aN (k8 _ _ ?_));refine aX fun K9 k9=>aq (aB aG (aB aG (aB (tD rfl rfl) ?_)));simp only[zz];refine aN (k9 _ _ ?_);refine bA rfl ?_ ?_<;>intro hc2
 ·
  refine aX fun K10 k10=>aq (aB aG (aB aP (aN (k10 _ _ ?_))));refine je ?_;simp only[zz];try simp only[di,Exit.then,if_true]
  refine aT rfl rfl ?_;try simp only[zD,zE]
  exact⟨_,rfl,m.ext,by rw[if_neg hc2]⟩
 ·
  have hx:x=0:=by omega
  refine jy (k7 _ _ ?_);refine aq (aB (eS (m:=0) (n:=1) (r:=1) rfl rfl (by decide)) (aB aG (aN (lR (aX fun K11 k11=>aq (aB (qW (m:=1) (n:=2) rfl rfl (by decide)) (aN (k11 _ _ ?_))))))));refine aX fun K12 k12=>Cj rfl (jy (k12 _ _ ?_));refine aX fun K13 k13=>jm (aX fun K14 k14=>aq ?_);simp only[zz];refine aB (aF lM bD rfl rfl (by decide) (by omega) rfl) ?_;simp only[zz];refine aR rfl ((hB1.ext m.ext.ext).lies1 cC rfl) ?_;simp only[zz];refine aB aP (aN (k14 _ _ ?_));refine aX fun K15 k15=>aq (aB aG (aB aG (aB (tD rfl rfl) ?_)));simp only[zz];refine aN (k15 _ _ ?_);refine bA rfl ?_ ?_<;>intro hc2
  ·
   refine aX fun K16 k16=>aq (aB aG (aB aP (aN (k16 _ _ ?_))));refine je ?_;simp only[zz];try simp only[di,Exit.then,if_true]
   refine aT rfl rfl ?_;try simp only[zD,zE]
   exact⟨_,rfl,m.ext,by rw[if_pos hx]⟩
  ·
   have hy:y=0:=by omega
   refine jy (k13 _ _ ?_);refine aq (aB (eS (m:=1) (n:=1) (r:=2) rfl rfl (by decide)) (aB aG (aN (lR (aX fun K17 k17=>aq (aB (Gy (m:=2) (n:=2) rfl rfl (by decide)) (aN (k17 _ _ ?_))))))));refine aX fun K18 k18=>afR rfl (wp_exit (k3 _ _ ?_));refine aX fun K19 k19=>aq (aB aG ?_);simp only[zz];refine aB aP (aN (k19 _ _ ?_));refine je ?_;simp only[zz];try simp only[di,Exit.then,if_true]
   refine aT rfl rfl ?_;try simp only[zD,zE]
   exact⟨_,rfl,m.ext,by rw[if_pos hx,hy]⟩
def agV(a b:E3):Int:=if qO a.1 b.1=0 then qO a.2 b.2 else qO a.1 b.1
theorem nQ{p q:P3}:qO p q=0↔p=q:=by
 unfold qO;rcases P3.lt_tri p q with h | h | h
 · rw[if_pos h];exact⟨fun e=>(by cases e),fun e=>absurd (e▸h) (P3.lt_irrefl _)⟩
 · subst h;rw[if_neg (P3.lt_irrefl _),if_neg (P3.lt_irrefl _)];exact⟨fun _=>rfl,fun _=>rfl⟩
 · rw[if_neg (fun k=>P3.lt_irrefl _ (P3.lt_trans h k)),if_pos h];exact⟨fun e=>(by cases e),fun e=>absurd (e▸h) (P3.lt_irrefl _)⟩
theorem Kf(a b:E3):(agV a b<0)↔Le a b:=by
 unfold agV Le;split
 ·
  rename_i h;have h':=nQ.1 h;rw[mF];exact⟨fun k=>.inr ⟨h',k⟩,fun k=>k.elim (fun k=>absurd (h'▸k) (P3.lt_irrefl _)) fun k=>k.2⟩
 ·
  rename_i h;rw[mF];exact⟨.inl,fun k=>k.elim id fun k=>absurd (nQ.2 k.1) h⟩
instance:Inhabited E3:=⟨(⟨0,0,0⟩,⟨0,0,0⟩)⟩
theorem ajZ:Go.Sort.SWO (Go.Proofs.ltOf agV) where
 irrefl a:=by simp only[Go.Proofs.ltOf,decide_eq_false_iff_not,Kf];exact Le.irrefl a
 trans x y z h1 h2:=by
  simp only[Go.Proofs.ltOf,decide_eq_true_eq,Kf] at *
  exact h1.trans h2
 ntrans x y z h1 h2:=by
  simp only[Go.Proofs.ltOf,decide_eq_false_iff_not,Kf] at *
  intro h;rcases Le.tri y x with k | k | k
  · exact absurd (k.trans h) (by first | exact h2 | exact h1)
  · subst k;first | exact h2 h | exact h1 h
  · first | exact h1 k | exact h2 k
theorem anc{p q:E3}:tF prog 168 [ed p,ed q] (.int .i64 (agV p q)):=by
 intro w;refine⟨bP func168 (by kernel_rfl),?_⟩;have m:=iJ.refl w
 go_enter func168,ntmps168
 refine aX fun K1 k1=>aq (oV m rfl ?_);intro g1 u m;simp only[zz];refine oV m rfl ?_;intro g2 u m;refine aB aP (aN (k1 _ _ ?_));refine aX fun K2 k2=>?_;simp only[zz];refine Rl m 10 aD (by kernel_rfl) ?_;simp only[zy];refine aI (bH (c:=2) vB rfl aA rfl rfl) ?_;simp only[zz];refine Us rfl (fun u m=>((m.b 1 rfl).lies aH aA rfl rfl)) ?_;simp only[zz,zy,ar,aa,ah,ad];refine aI (bH (c:=2) vB rfl aA rfl rfl) ?_;simp only[zz];refine Us rfl (fun u m=>((m.b 0 rfl).lies aH aA rfl rfl)) ?_;simp only[zz,zy,ar,aa,ah,ad];refine Is rfl rfl (Fp (p:=p.1) (q:=q.1)) (aI (bH (c:=2) vB rfl aA rfl rfl) ?_);simp only[zz];refine Us rfl (fun u m=>((m.b 1 rfl).lies aH aA rfl rfl)) ?_;simp only[zz,zy,ar,aa,ah,ad];refine aI (bH (c:=2) vB rfl aA rfl rfl) ?_;simp only[zz];refine Us rfl (fun u m=>((m.b 0 rfl).lies aH aA rfl rfl)) ?_;simp only[zz,zy,ar,aa,ah,ad];refine Is rfl rfl (Fp (p:=p.2) (q:=q.2)) (bE ?_);intro u m;simp only[zz];refine ajY m lM (z:=.int .i64 0) (by kernel_rfl) rfl rfl rfl rfl rfl ?_;intro g3 u m;simp only[zz];refine aaD m rfl rfl (asy _ (m.b 0 rfl)) ?_;intro u m;refine aB aP (aN (k2 _ _ ?_));refine je ?_;simp only[zz];try simp only[di,Exit.then,if_true]
 refine aT rfl rfl ?_;try simp only[zD,zE]
 exact⟨_,rfl,m.ext,rfl⟩
theorem aaE{w0:aj}{is:List It}{g:Nat}{D:List (E3 × Bool)}{p:E3}(m:Mem w0 w is)(k:Nat)(hk:is[k]? = some (mI g es c))(hD1:bJ ed bm D es c):Calls prog 235 [.map (some g),ed p].toArray w fun e w'=>∃v i,e=.returned v∧Mem w0 w' (is.set k i)∧(v=.bool (!(cD D p).getD false)∧∃es' c',i=mI g es' c'∧bJ ed bm (fJ D p true) es' c'):=by
 go_enter func235,ntmps235
 apply mR 10 [0,0] m;simp only[↓aC,vP];intro g1 u m;refine gK (eE (ek:=ed) (en:=bm) (k:=p) (v0:=false) underlying208 oW Eh rfl rfl (m.p (k+1) hk) hD1) ?_;simp only[zz];apply aL 1 [0] m;simp only[↓aC];refine eG rfl ?_ ?_<;>intro hc1
 ·
  apply aK 5 [] m;simp only[↓aC];exact aT rfl rfl ⟨_,mI g es c,rfl,by rw[Ry hk];exact m.tl,by rw[hc1];rfl,es,c,rfl,by rw[Lw (by cases hq:cD D p with | none=>rw[hq] at hc1;cases hc1 | some x=>rw[hq] at hc1;exact congrArg some hc1)];exact hD1⟩
 ·
  apply aK 5 [0,0] m;simp only[↓aC,vP];refine nN (ek:=ed) (en:=bm) (a:=p) (v:=true) m (k+1) hk underlying208 Eh rfl rfl rfl hD1 ?_;intro es1 c1 u m hD1;simp only[zF,zG] at m;apply aL 6 [] m;simp only[↓aC];exact aT rfl rfl ⟨_,_,rfl,m.tl,by rw[hc1];rfl,_,_,rfl,hD1⟩
theorem aca(p:E3):∀v∈bO p,v.oneCell'=true:=fun v h=>by
 simp only[bO,an,cl,or_false] at h;rcases h with rfl | rfl | rfl | rfl | rfl | rfl <;> rfl
theorem ane{w0 w:aj}{is:List It}{A:Option Addr}{n cap:Nat}{xs:List E3}(m:Mem w0 w is)(k:Nat)(hi:is[k]? = some (oI 215 6 A n cap (xs.flatMap bO)))(hsz:n<4611686018427387904) :
 Calls prog 237 [.slice A n cap,.func (.func 168) #[] #[]].toArray w fun e w'=>∃v i,e=.returned v∧Mem w0 w' (is.set k i)∧(v=.tuple #[]∧∃ys:List E3,i=oI 215 6 A n cap (ys.flatMap bO)∧ys.Perm xs∧ys.Pairwise fun a b=>ltOf agV b a=false) :=
 Dh (enc:=bO) Tryz.sort237 (fun w=>pN Fb w) (fun w=>eC rA w) (fun _=>rfl) (by decide) aca agV ajZ (fun x y=>anc) m k hi hsz
theorem agW{g:Nat}{D:List (E3 × Bool)}(w:aj)(hM:iW w g es c)(hD:bJ ed bm D es c)(hl:D.length≤100000000):dK prog 167 [.map (some g),.func (.func 168) #[] #[]] w (OR 215 6 (fun xs=>∃ps:List E3,xs=ps.flatMap bO∧ps.Perm (D.map (·.1))∧ps.Pairwise fun a b=>¬Le b a) w):=by
 refine⟨bP func167 (by kernel_rfl),?_⟩;have m:=Mem.refl w
 go_enter func167,ntmps167
 apply fG 6 [0] m;simp only[↓aC];refine aB aP ?_;replace m:=m.nilO 215 6;apply aL 5 [0] m;simp only[↓aC];refine xG m underlying208 rfl (hM.ext m.ext) ?_;intro r1 u m;apply aL 2 [0] m;simp only[↓aC];refine bX [5] [6,9,10,11,12,13,14,15,16] (fun n vs wl=>∃(dn rs:List (E3 × Bool)) (A1:Option Addr) (n1 cap1:Nat) (sn:Array Nat),vs=[.slice A1 n1 cap1]∧Mem w wl [iI r1 g c sn,oI 215 6 A1 n1 cap1 ((dn.map (·.1)).flatMap bO)]∧(oJ ed bm D es sn dn rs)∧(n1=dn.length)∧(n=rs.length)) ?_ ?_
 ·
  exact⟨_,[],D,none,0,0,#[],rfl,m,oJ.start hD,rfl,rfl⟩
 ·
  intro n vs wr hI u K1 hK1;obtain⟨dn,rs,A1,n1,cap1,sn,rfl,m,hT,hn1,hn⟩:=hI;have hlen:=hT.len;simp only[zu,zF,zG];apply aK 2 [0] m;simp only[↓aC];refine Oa m 0 rfl rfl (hM.ext m.ext) hD hT ?_;intro bb kk vv sn u m hN;simp only[zF,zG] at m;refine aB (pZ rfl) ?_;apply aL 2 [0] m;simp only[↓aC];refine eG rfl ?_ ?_<;>intro hc1
  ·
   obtain⟨kp,kb,rs2,hp,hT2⟩:=Jf hc1 hN;apply aK 4 [0] m;simp only[↓aC];refine gK (uA rfl (m.r 0 rfl) (hM.ext m.ext) hD hT2) ?_;simp only[zz];apply kP 7 [0,0,0] m;simp only[↓aC,Dy,vP,aa];intro g2 u m;refine adn rfl ?_;intro u g3 e_ h_ k_;replace m:=m.newB e_ h_ k_;simp only[zz];refine bW m 3 rfl rfl underlying212 alZ rfl (by decide) rfl rfl rfl (m.b 0 rfl).rowsO (jX rfl) (by omega) (by omega) ?_;intro A1 cap1 u m;simp only[zF,zG] at m;apply aL 3 [0] m;simp only[↓aC];exact hK1 rs2.length _ _ (by rw[hn,hp.length_eq];exact fg _) (by kernel_rfl) ⟨dn++[(kp,kb)],rs2,_,_,_,_,rfl,((m.reO 3 rfl ((m.o 3 rfl).as (by simp[bO]))).sel [false,false,true,true]),hT2,by simp[hn1],rfl⟩
  ·
   obtain rfl:=Je hc1 hN;apply aK 5 [0] m;simp only[↓aC];refine mM m 1 (bP func237 (by kernel_rfl)) rfl rfl (fun m=>ane m 1 rfl (by omega)) ?_;rintro v i u m ⟨rfl,ys,rfl,hys,hso⟩;simp only[zF,zG] at m;apply aL 7 [] m;simp only[↓aC];exact aT rfl rfl ⟨_,rfl,m.ext,_,_,_,_,rfl,(m.o 1 rfl),_,rfl,hys.trans (hT.done.map _),hso.imp fun h=>by simpa[ltOf,Kf] using h⟩
theorem Tt{all out:List E3}{e:E3}(h:0<iC all (e.2,e.1)∨0<iC out e):pW all out e=out:=if_pos h
theorem Yb{all out:List E3}{e:E3}{k:Nat}(h1:¬0<iC all (e.2,e.1))(h2:¬0<iC out e)(h:af8 out e=k):pW all out e=out.take k++[e]++out.drop k:=by
 rw[pW,if_neg (fun h=>h.elim h1 h2),ac6,h]
theorem aj0{a:Addr}{e:E3}(h:mT w a (bO e)):mT w a [.int .i64 e.1.x,.int .i64 e.1.y,.int .i64 e.1.z,.int .i64 e.2.x,.int .i64 e.2.y,.int .i64 e.2.z]:=h
theorem gt0{n:Nat}:((0:Int)<(n:Int))↔0<n:=by omega
theorem Kg(w:aj)(hT:bQ w A N ts)(hN:N≤100000000):dK prog 28 [.slice A N cap] w (SL 56 6 ((aY ts).flatMap bO) (aY ts).length w):=by
 refine⟨bP func28 (by kernel_rfl),?_⟩;have m:=Mem.refl w
 go_enter func28,ntmps28
 apply fG 7 [0] m;simp only[↓aC];refine bC rfl rfl (Pz _ (hT.ext m.ext) (by omega)) ?_;rintro v u e_ ⟨A3,cap3,n3,hn3,rfl,h_⟩;replace m:=m.newO e_ h_;have he3:=mH ts;have htl:=hT.len;apply aL 4 [0] m;simp only[↓aC];refine aB aP ?_;replace m:=m.nilO 56 6;apply aL 7 [0] m;simp only[↓aC];refine bX [4,5] [6,7,8,9,12,13,14,15,16,17,18,19,20,21,22,23,24,25,26,27,28,29,30,31,32,33,34,35,36,37,38,39,40,41,42,43,44,45,46,47,48,49,50,51,52,53,54,55,56,57,58,59,60,61,62,63] (fun n vs wl=>∃(k n4 cap4:Nat) (A4:Option Addr),vs=[.slice A4 n4 cap4,.int .i64 (k:Int)]∧Mem w wl [oI 56 6 A4 n4 cap4 ((((aQ ts).take k).foldl (pW (aQ ts)) []).flatMap bO),oI 56 6 A3 n3 cap3 ((aQ ts).flatMap bO)]∧(n4≤k)∧(k≤n3)∧(n=n3-k)) ?_ ?_
 ·
  exact⟨_,0,_,_,_,rfl,m,ao _,cq _,rfl⟩
 ·
  intro n vs wr hI u K1 hK1;obtain⟨k,n4,cap4,A4,rfl,m,hl4,hk,hn⟩:=hI;simp only[zu,zF,zG];apply aK 8 [0,0] m;simp only[↓aC,Bp];refine bA rfl ?_ ?_<;>intro hc1
  ·
   obtain⟨e,he⟩:∃e,(aQ ts)[k]? = some e:=⟨_,ak (by omega)⟩
   obtain⟨gO,rfl⟩:=(m.o 1 rfl).some (by omega);apply aK 7 [0] m;simp only[↓aC];refine aB (aF lT eP rfl rfl (by omega) (by omega) (cH (ag _))) ?_;simp only[zz];refine aR rfl ((aj0 ((m.o 1 rfl).at vZ he)).lies vD eP) ?_;simp only[zz];apply kP 5 [0] m;simp only[↓aC,Sv,wV,aa];intro g1 u m;obtain⟨B,hB⟩:∃B,B=((aQ ts).take k).foldl (pW (aQ ts)) []:=⟨_,rfl⟩
   rw[←hB] at m;have h4:B.length=n4:=(m.o 1 rfl).num vZ (by decide);have hle4:=(m.o 1 rfl).le;have hs:=af9 (all:=aQ ts) he;rw[←hB] at hs;rcases Nat.eq_zero_or_pos (iC (aQ ts) (e.2,e.1)) with hz | hz
   ·
    apply aW 7 [0,0,0] m;simp only[↓aC,Gr,aU,Dw,ad,ah,aa];refine⟨by omega,?_⟩;refine cM m rfl rfl (wW (es:=aQ ts) (e:=(e.2,e.1)) _ ((m.o 2 rfl).lat vZ (by decide)) (by omega)) ?_;rintro v u m rfl;apply aL 4 [2,0,0] m;simp only[↓aC,wV];refine⟨by omega,?_⟩;refine cN rfl (cM m rfl rfl (wW (es:=B) (e:=e) _ ((m.o 1 rfl).lat vZ (by decide)) (by omega)) ?_);rintro v u m rfl;apply aL 3 [0,0] m;simp only[↓aC];refine bA rfl ?_ ?_<;>intro hc2
    ·
     rw[Tt (.inr (gt0.1 hc2))] at hs;apply aK 6 [0] m;simp only[↓aC];refine⟨by omega,?_⟩;exact hK1 (n3-(k+1)) _ _ (by omega) (by kernel_rfl) ⟨k+1,_,_,_,rfl,((m.reO 1 rfl ((m.o 1 rfl).as (by rw[hs]))).sel [false,true,true]),by omega,by omega,rfl⟩
    ·
     have hz2:¬0<iC B e:=fun h=>hc2 (gt0.2 h);apply aK 7 [0] m;simp only[↓aC];refine bX [7] [8,36,37,38,39,40,41,42,43,44,45,46,47,48,49] (fun n vs wl=>∃(j:Nat),vs=[.int .i64 (j:Int)]∧Mem w wl [bI g1 (bO e) 56,oI 56 6 A4 n4 cap4 ((B).flatMap bO),oI 56 6 (some ⟨gO,0,none⟩) n3 cap3 ((aQ ts).flatMap bO)]∧(Pre (fun x=>ltE x e) B j)∧(j≤n4)∧(n=n4-j)) ?_ ?_
     ·
      exact⟨_,0,rfl,m,Pre.zero,cq _,rfl⟩
     ·
      intro n vs wr hI u K2 hK2;obtain⟨j,rfl,m,hpre,hj,hn2⟩:=hI;simp only[zu,zF,zG];apply aK 8 [0,0] m;simp only[↓aC,Bp];refine bA rfl ?_ ?_<;>intro hc3
      ·
       obtain⟨x,hx⟩:∃x,B[j]? = some x:=⟨_,ak (by omega)⟩
       obtain⟨gP,rfl⟩:=(m.o 1 rfl).some (by omega);apply aK 3 [0] m;simp only[↓aC];refine mq m aD (by kernel_rfl) (aI aG (aI aG ?_));simp only[zz];refine aI (aF lT eP rfl rfl (by omega) (by omega) (cH (ag _))) ?_;simp only[zz];refine ql rfl (fun u m=>(((m.o 1 rfl).at vZ hx).lies vD eP)) ?_;simp only[zz];refine ql rfl (fun u m=>((m.b 0 rfl).full vD eP)) ?_;simp only[zz];refine jJ rfl rfl (ajn (a:=x) (b:=e)) (aI aP (bE ?_));intro u m;apply aW 6 [0] m;simp only[↓aC];refine iK rfl ?_ ?_<;>intro hc4
       ·
        have hpos:af8 B e=j:=an4 hpre hx (by simpa using hc4);rw[Yb (by omega) hz2 hpos] at hs;apply aK 3 [0] m;simp only[↓aC];refine aB aP ?_;replace m:=m.nilO 56 6;apply aL 6 [0] m;simp only[↓aC];refine aB (kL lT eP rfl rfl (ag _) (by omega) (by omega)) ?_;simp only[zz];refine bW m 0 rfl rfl lT Ad rfl (by decide) rfl rfl (by rw[jV vZ,bw,ib (show j≤B.length by omega)]) ((((m.o 2 rfl).lat vZ (by decide)).take (k:=j) (by omega)).cells vZ (by decide)) (Zn _) (by omega) (by omega) ?_;intro A9 cap9 u m;simp only[zF,zG] at m;rw[bt,ar] at m;simp only[ar];apply aL 6 [1,0] m;simp only[↓aC,wV];refine Fe rfl ?_;intro u g2 e_ h_ k_;replace m:=m.newB e_ h_ k_;simp only[zz];refine bW m 1 rfl rfl lT Ad rfl (by decide) rfl rfl rfl (m.b 0 rfl).rowsO (jX rfl) (by omega) (by omega) ?_;intro A9 cap9 u m;simp only[zF,zG] at m;apply aL 6 [0] m;simp only[↓aC];refine aB (uJ lT eP rfl rfl (ag _) (by omega) (by omega) rfl) ?_;simp only[zz];refine bW m 1 rfl rfl lT Ad rfl (by decide) rfl rfl (by rw[jV vZ,fm,h4]) (((m.o 3 rfl).lat vZ (by decide)).cellsD vZ (by decide) (by omega)) (Zn _) (by omega) (by omega) ?_;intro A9 cap9 u m;simp only[zF,zG] at m;refine aB aP ?_;simp only[zz];replace m:=(m.pull 1 rfl).mv 2 rfl;simp only[dM,dN,zF,zG] at m;apply aL 7 [0] m;simp only[↓aC];refine⟨by omega,?_⟩;exact hK1 (n3-(k+1)) _ _ (by omega) (by kernel_rfl) ⟨k+1,_,_,_,rfl,((m.reO 2 rfl ((m.o 2 rfl).as (by rw[hs,aw,aw];rfl))).sel [false,false,true,true]),by omega,by omega,rfl⟩
       ·
        have hpre2:=hpre.step hx (by simpa using hc4);apply aK 7 [0] m;simp only[↓aC];refine⟨by omega,?_⟩;exact hK2 (n4-(j+1)) _ _ (by omega) (by kernel_rfl) ⟨j+1,rfl,m,hpre2,by omega,rfl⟩
      ·
       have hjl:j=B.length:=by omega
       have hpos:af8 B e=j:=by rw[hjl] at hpre ⊢;exact ah4 hpre
       rw[Yb (by omega) hz2 hpos] at hs;apply aK 3 [0] m;simp only[↓aC];refine aB aP ?_;replace m:=m.nilO 56 6;apply aL 6 [0] m;simp only[↓aC];refine aB (kL lT eP rfl rfl (ag _) (by omega) (by omega)) ?_;simp only[zz];refine bW m 0 rfl rfl lT Ad rfl (by decide) rfl rfl (by rw[jV vZ,bw,ib (show j≤B.length by omega)]) ((((m.o 2 rfl).lat vZ (by decide)).take (k:=j) (by omega)).cells vZ (by decide)) (Zn _) (by omega) (by omega) ?_;intro A9 cap9 u m;simp only[zF,zG] at m;rw[bt,ar] at m;simp only[ar];apply aL 6 [1,0] m;simp only[↓aC,wV];refine Fe rfl ?_;intro u g2 e_ h_ k_;replace m:=m.newB e_ h_ k_;simp only[zz];refine bW m 1 rfl rfl lT Ad rfl (by decide) rfl rfl rfl (m.b 0 rfl).rowsO (jX rfl) (by omega) (by omega) ?_;intro A9 cap9 u m;simp only[zF,zG] at m;apply aL 6 [0] m;simp only[↓aC];refine aB (uJ lT eP rfl rfl (ag _) (by omega) (by omega) rfl) ?_;simp only[zz];refine bW m 1 rfl rfl lT Ad rfl (by decide) rfl rfl (by rw[jV vZ,fm,h4]) (((m.o 3 rfl).lat vZ (by decide)).cellsD vZ (by decide) (by omega)) (Zn _) (by omega) (by omega) ?_;intro A9 cap9 u m;simp only[zF,zG] at m;refine aB aP ?_;simp only[zz];replace m:=(m.pull 1 rfl).mv 2 rfl;simp only[dM,dN,zF,zG] at m;apply aL 7 [0] m;simp only[↓aC];refine⟨by omega,?_⟩;exact hK1 (n3-(k+1)) _ _ (by omega) (by kernel_rfl) ⟨k+1,_,_,_,rfl,((m.reO 2 rfl ((m.o 2 rfl).as (by rw[hs,aw,aw];rfl))).sel [false,false,true,true]),by omega,by omega,rfl⟩
   ·
    rw[Tt (.inl hz)] at hs;apply aW 7 [0,0,0] m;simp only[↓aC,Gr,aU,Dw,ad,ah,aa];refine⟨by omega,?_⟩;refine cM m rfl rfl (wW (es:=aQ ts) (e:=(e.2,e.1)) _ ((m.o 2 rfl).lat vZ (by decide)) (by omega)) ?_;rintro v u m rfl;apply aL 15 [1,0] m;simp only[↓aC];refine⟨by omega,?_⟩;exact hK1 (n3-(k+1)) _ _ (by omega) (by kernel_rfl) ⟨k+1,_,_,_,rfl,((m.reO 1 rfl ((m.o 1 rfl).as (by rw[hs]))).sel [false,true,true]),by omega,by omega,rfl⟩
  ·
   have hkN:k=(aQ ts).length:=by omega
   rw[hkN,gt] at m;apply aK 7 [] m;simp only[↓aC];exact aT rfl rfl ⟨_,rfl,m.ext,⟨_,_,_,((m.o 0 rfl).num vZ (by decide)).symm,rfl,(m.o 0 rfl)⟩⟩
theorem aaF(h:ts.any oG=true):dC op ts=20:=by simp[dC,h]
theorem aaG(h:ts.any oG=false)(h2:(aQ ts).any (fun e=>decide (1<iC (aQ ts) e))=true):dC op ts=21:=by rw[dC,h,h2];rfl
theorem anf(h:ts.any oG=false)(h2:(aQ ts).any (fun e=>decide (1<iC (aQ ts) e))=false)(h3:0<(aY ts).length):dC false ts=22:=by rw[dC,h,h2,decide_eq_true h3];rfl
theorem aaH(h:ts.any oG=false)(h2:(aQ ts).any (fun e=>decide (1<iC (aQ ts) e))=false)(h3:(!op&&decide (0<(aY ts).length))=false)(h4:(bM ts).any (Dd ts)=true):dC op ts=23:=by rw[dC,h,h2,h3,h4];rfl
theorem ad5(h:ts.any oG=false)(h2:(aQ ts).any (fun e=>decide (1<iC (aQ ts) e))=false)(h3:(!op&&decide (0<(aY ts).length))=false)(h4:(bM ts).any (Dd ts)=false):dC op ts=0:=by rw[dC,h,h2,h3,h4];rfl
theorem gt1{n:Nat}:((1:Int)<(n:Int))↔1<n:=by omega
theorem ang(w:aj)(hT:bQ w A N ts)(hN:N≤100000000):dK prog 79 [.slice A N cap,.bool true] w (fun v _=>v=.int .i64 (dC true ts)):=by
 refine⟨an5,?_⟩;have m:=Mem.refl w;have htl:=hT.len;have he3:=mH ts;have hcl:=rZ ts
 go_enter func79,ntmps79
 apply fG 10 [0] m;simp only[↓aC];refine bX [5] [4,11,12,13,14,15,16,17,18,19,20,21,22,23,24,25,26,27,28,29,30,31,32,33,34,35,36,37,38,39,40,41,42,43,44,45,46,47,48,49,50,51,52,53] (fun n vs wl=>∃(k:Nat),vs=[.int .i64 (k:Int)]∧Mem w wl []∧((ts.take k).any oG=false)∧(k≤N)∧(n=N-k)) ?_ ?_
 ·
  exact⟨_,0,rfl,m,rfl,cq _,rfl⟩
 ·
  intro n vs wr hI u K1 hK1;obtain⟨k,rfl,m,hd0,hk,hn⟩:=hI;simp only[zu,zF,zG];apply aK 8 [0,0] m;simp only[↓aC,eV];refine bA rfl ?_ ?_<;>intro hc1
  ·
   obtain⟨t,ht,_,a,rfl,hrow⟩:=hT.get (i:=k) (by omega);apply aK 4 [0] m;simp only[↓aC];refine mq m aD (by kernel_rfl) (aI aG (aI aG ?_));simp only[zz];refine aI (aF bL aO rfl rfl (by omega) (by omega) (cH (ag _))) (eT 1 [] ?_);simp only[↓aC,dD,ad,ah,aa];refine⟨by omega,?_⟩;refine ql rfl (fun u m=>((mT.cor ((hrow.ext m.ext)) (c:=0) (by decide)).lies aH aA)) ?_;simp only[zz];refine aI aG (aI aG ?_);simp only[zz];refine aI (aF bL aO rfl rfl (by omega) (by omega) (cH (ag _))) (eT 1 [] ?_);simp only[↓aC,dD,ad,ah,aa];refine⟨by omega,?_⟩;refine ql rfl (fun u m=>((mT.cor ((hrow.ext m.ext)) (c:=1) (by decide)).lies aH aA)) ?_;simp only[zz];refine aI (bZ rfl rfl) (aI aG (dQ rfl (fun hb=>aG) (dQ rfl (fun hb=>aG) ?_)));simp only[zz];refine dQ rfl (fun hb=>aF bL aO (bB hb rfl) (bB hb rfl) (by omega) (by omega) (cH (ag _))) (dQ rfl (fun hb=>aJ cT aA (bB hb rfl) rfl (by decide) (by decide) rfl) ?_);simp only[zz];refine lW rfl (fun hb u m=>aZ (bB hb rfl) ((mT.cor ((hrow.ext m.ext)) (c:=1) (by decide)).lies aH aA)) (dQ rfl (fun hb=>aG) (dQ rfl (fun hb=>aG) ?_));simp only[zz];refine dQ rfl (fun hb=>aF bL aO (bB hb rfl) (bB hb rfl) (by omega) (by omega) (cH (ag _))) (dQ rfl (fun hb=>aJ cT aA (bB hb rfl) rfl (by decide) (by decide) rfl) ?_);simp only[zz];refine lW rfl (fun hb u m=>aZ (bB hb rfl) ((mT.cor ((hrow.ext m.ext)) (c:=2) (by decide)).lies aH aA)) (dQ rfl (fun hb=>bZ (bB hb rfl) (bB hb rfl)) (aI (eD rfl rfl rfl) (aI aG (dQ rfl (fun hb=>aG) ?_))));simp only[zz];refine dQ rfl (fun hb=>aG) ?_;simp only[zz];refine dQ rfl (fun hb=>aF bL aO (bB hb rfl) (bB hb rfl) (by omega) (by omega) (cH (ag _))) (dQ rfl (fun hb=>aJ cT aA (bB hb rfl) rfl (by decide) (by decide) rfl) ?_);simp only[zz];refine lW rfl (fun hb u m=>aZ (bB hb rfl) ((mT.cor ((hrow.ext m.ext)) (c:=2) (by decide)).lies aH aA)) (dQ rfl (fun hb=>aG) (dQ rfl (fun hb=>aG) ?_));simp only[zz];refine dQ rfl (fun hb=>aF bL aO (bB hb rfl) (bB hb rfl) (by omega) (by omega) (cH (ag _))) (dQ rfl (fun hb=>aJ cT aA (bB hb rfl) rfl (by decide) (by decide) rfl) ?_);simp only[zz];refine lW rfl (fun hb u m=>aZ (bB hb rfl) ((mT.cor ((hrow.ext m.ext)) (c:=0) (by decide)).lies aH aA)) (dQ rfl (fun hb=>bZ (bB hb rfl) (bB hb rfl)) (aI (eD rfl rfl rfl) (bE ?_)));intro u m;refine gc ?_;simp only[zz];refine iK rfl ?_ ?_<;>intro hc2
   ·
    have hd:=wJ (p:=oG) ht (Lp.symm.trans hc2);apply aK 5 [] m;simp only[↓aC];refine aT rfl rfl ?_;try simp only[zD,zE]
    exact⟨_,rfl,m.ext,by rw[aaF hd]⟩
   ·
    have hd1:(ts.take (k+1)).any oG=false:=by rw[pX ht,hd0,←Lp];exact hc2
    apply aK 7 [0] m;simp only[↓aC];refine⟨by omega,?_⟩;exact hK1 (N-(k+1)) _ _ (by omega) (by kernel_rfl) ⟨k+1,rfl,m,hd1,by omega,rfl⟩
  ·
   have hkN:k=N:=by omega
   rw[hkN,show ts.take N=ts from bi (by omega)] at hd0;apply aK 4 [0] m;simp only[↓aC];refine bC rfl rfl (Pz _ (hT.ext m.ext) (by omega)) ?_;rintro v u e_ ⟨A3,cap3,n3,hn3,rfl,h_⟩;replace m:=m.newO e_ h_;have hle3:=(m.o 0 rfl).le;apply aL 8 [0] m;simp only[↓aC];refine bX [7] [4,56,57,58,59,60,61,62,63,64,65,66,67,68] (fun n vs wl=>∃(k:Nat),vs=[.int .i64 (k:Int)]∧Mem w wl [oI 56 6 A3 n3 cap3 ((aQ ts).flatMap bO)]∧(((aQ ts).take k).any (fun e=>decide (1<iC (aQ ts) e))=false)∧(k≤n3)∧(n=n3-k)) ?_ ?_
   ·
    exact⟨_,0,rfl,m,rfl,cq _,rfl⟩
   ·
    intro n vs wr hI u K2 hK2;obtain⟨k,rfl,m,hc0,hk,hn⟩:=hI;simp only[zu,zF,zG];apply aK 8 [0,0] m;simp only[↓aC,Bp];refine bA rfl ?_ ?_<;>intro hc3
    ·
     obtain⟨e,he⟩:∃e,(aQ ts)[k]? = some e:=⟨_,ak (by omega)⟩
     obtain⟨gO,rfl⟩:=(m.o 0 rfl).some (by omega);apply aK 8 [0] m;simp only[↓aC];refine aB (aF lT eP rfl rfl (by omega) (by omega) (cH (ag _))) ?_;simp only[zz];refine aR rfl (((m.o 0 rfl).at vZ he).lies vD eP) ?_;simp only[zz];refine cM m rfl rfl (wW (es:=aQ ts) (e:=e) _ ((m.o 0 rfl).lat vZ (by decide)) (by omega)) ?_;rintro v u m rfl;apply aL 2 [0,0] m;simp only[↓aC];refine bA rfl ?_ ?_<;>intro hc4
     ·
      have hc:=wJ (p:=(fun e=>decide (1<iC (aQ ts) e))) he (decide_eq_true (gt1.1 hc4));apply aK 5 [] m;simp only[↓aC];refine aT rfl rfl ?_;try simp only[zD,zE]
      exact⟨_,rfl,m.ext,by rw[aaG hd0 hc]⟩
     ·
      have hc01:((aQ ts).take (k+1)).any (fun e=>decide (1<iC (aQ ts) e))=false:=by rw[pX he,hc0,decide_eq_false (fun h=>hc4 (gt1.2 h))];rfl
      apply aK 7 [0] m;simp only[↓aC];refine⟨by omega,?_⟩;exact hK2 (n3-(k+1)) _ _ (by omega) (by kernel_rfl) ⟨k+1,rfl,m,hc01,by omega,rfl⟩
    ·
     have hkN:k=(aQ ts).length:=by omega
     rw[hkN,gt] at hc0;apply aK 18 [0] m;simp only[↓aC,ff,fh];refine bC rfl rfl (yF _ (hT.ext m.ext) hN) ?_;rintro v u e_ ⟨A8,cap8,n8,hn8,rfl,h_⟩;replace m:=m.newO e_ h_;have hle8:=(m.o 0 rfl).le;apply aL 8 [0] m;simp only[↓aC];refine bX [9] [4,10,79,80,81,82,83,84,85,86,87,88,89,90,91] (fun n vs wl=>∃(k:Nat),vs=[.int .i64 (k:Int)]∧Mem w wl [oI 30 3 A8 n8 cap8 ((bM ts).flatMap qS)]∧(((bM ts).take k).any (Dd ts)=false)∧(k≤n8)∧(n=n8-k)) ?_ ?_
     ·
      exact⟨_,0,rfl,(m.sel [true,false]),rfl,cq _,rfl⟩
     ·
      intro n vs wr hI u K3 hK3;obtain⟨k,rfl,m,hp0,hk,hn⟩:=hI;simp only[zu,zF,zG];apply aK 8 [0,0] m;simp only[↓aC,lC];refine bA rfl ?_ ?_<;>intro hc6
      ·
       obtain⟨x,hx⟩:∃x,(bM ts)[k]? = some x:=⟨_,ak (by omega)⟩
       obtain⟨gO,rfl⟩:=(m.o 0 rfl).some (by omega);apply aK 8 [0] m;simp only[↓aC];refine aB (aF eK aA rfl rfl (by omega) (by omega) (cH (ag _))) ?_;simp only[zz];refine aR rfl (((m.o 0 rfl).at Ld hx).lies aH aA) ?_;simp only[zz];refine cM m rfl rfl (Xo (p:=x) _ (hT.ext m.ext) (by omega)) ?_;rintro v u m rfl;apply aL 6 [0] m;simp only[↓aC];refine iK rfl ?_ ?_<;>intro hc7
       ·
        have hp:=wJ (p:=Dd ts) hx hc7;apply aK 5 [] m;simp only[↓aC];refine aT rfl rfl ?_;try simp only[zD,zE]
        exact⟨_,rfl,m.ext,by rw[aaH hd0 hc0 rfl hp]⟩
       ·
        have hp1:((bM ts).take (k+1)).any (Dd ts)=false:=by rw[pX hx,hp0,hc7];rfl
        apply aK 7 [0] m;simp only[↓aC];refine⟨by omega,?_⟩;exact hK3 (n8-(k+1)) _ _ (by omega) (by kernel_rfl) ⟨k+1,rfl,m,hp1,by omega,rfl⟩
      ·
       have hkN:k=(bM ts).length:=by omega
       rw[hkN,gt] at hp0;apply aK 6 [] m;simp only[↓aC];refine aT rfl rfl ?_;try simp only[zD,zE]
       exact⟨_,rfl,m.ext,by rw[ad5 hd0 hc0 rfl hp0]⟩
theorem anh(w:aj)(hT:bQ w A N ts)(hN:N≤100000000):dK prog 79 [.slice A N cap,.bool false] w (fun v _=>v=.int .i64 (dC false ts)):=by
 refine⟨an5,?_⟩;have m:=Mem.refl w;have htl:=hT.len;have he3:=mH ts;have hcl:=rZ ts
 go_enter func79,ntmps79
 apply fG 10 [0] m;simp only[↓aC];refine bX [5] [4,11,12,13,14,15,16,17,18,19,20,21,22,23,24,25,26,27,28,29,30,31,32,33,34,35,36,37,38,39,40,41,42,43,44,45,46,47,48,49,50,51,52,53] (fun n vs wl=>∃(k:Nat),vs=[.int .i64 (k:Int)]∧Mem w wl []∧((ts.take k).any oG=false)∧(k≤N)∧(n=N-k)) ?_ ?_
 ·
  exact⟨_,0,rfl,m,rfl,cq _,rfl⟩
 ·
  intro n vs wr hI u K1 hK1;obtain⟨k,rfl,m,hd0,hk,hn⟩:=hI;simp only[zu,zF,zG];apply aK 8 [0,0] m;simp only[↓aC,eV];refine bA rfl ?_ ?_<;>intro hc1
  ·
   obtain⟨t,ht,_,a,rfl,hrow⟩:=hT.get (i:=k) (by omega);apply aK 4 [0] m;simp only[↓aC];refine mq m aD (by kernel_rfl) (aI aG (aI aG ?_));simp only[zz];refine aI (aF bL aO rfl rfl (by omega) (by omega) (cH (ag _))) (eT 1 [] ?_);simp only[↓aC,dD,ad,ah,aa];refine⟨by omega,?_⟩;refine ql rfl (fun u m=>((mT.cor ((hrow.ext m.ext)) (c:=0) (by decide)).lies aH aA)) ?_;simp only[zz];refine aI aG (aI aG ?_);simp only[zz];refine aI (aF bL aO rfl rfl (by omega) (by omega) (cH (ag _))) (eT 1 [] ?_);simp only[↓aC,dD,ad,ah,aa];refine⟨by omega,?_⟩;refine ql rfl (fun u m=>((mT.cor ((hrow.ext m.ext)) (c:=1) (by decide)).lies aH aA)) ?_;simp only[zz];refine aI (bZ rfl rfl) (aI aG (dQ rfl (fun hb=>aG) (dQ rfl (fun hb=>aG) ?_)));simp only[zz];refine dQ rfl (fun hb=>aF bL aO (bB hb rfl) (bB hb rfl) (by omega) (by omega) (cH (ag _))) (dQ rfl (fun hb=>aJ cT aA (bB hb rfl) rfl (by decide) (by decide) rfl) ?_);simp only[zz];refine lW rfl (fun hb u m=>aZ (bB hb rfl) ((mT.cor ((hrow.ext m.ext)) (c:=1) (by decide)).lies aH aA)) (dQ rfl (fun hb=>aG) (dQ rfl (fun hb=>aG) ?_));simp only[zz];refine dQ rfl (fun hb=>aF bL aO (bB hb rfl) (bB hb rfl) (by omega) (by omega) (cH (ag _))) (dQ rfl (fun hb=>aJ cT aA (bB hb rfl) rfl (by decide) (by decide) rfl) ?_);simp only[zz];refine lW rfl (fun hb u m=>aZ (bB hb rfl) ((mT.cor ((hrow.ext m.ext)) (c:=2) (by decide)).lies aH aA)) (dQ rfl (fun hb=>bZ (bB hb rfl) (bB hb rfl)) (aI (eD rfl rfl rfl) (aI aG (dQ rfl (fun hb=>aG) ?_))));simp only[zz];refine dQ rfl (fun hb=>aG) ?_;simp only[zz];refine dQ rfl (fun hb=>aF bL aO (bB hb rfl) (bB hb rfl) (by omega) (by omega) (cH (ag _))) (dQ rfl (fun hb=>aJ cT aA (bB hb rfl) rfl (by decide) (by decide) rfl) ?_);simp only[zz];refine lW rfl (fun hb u m=>aZ (bB hb rfl) ((mT.cor ((hrow.ext m.ext)) (c:=2) (by decide)).lies aH aA)) (dQ rfl (fun hb=>aG) (dQ rfl (fun hb=>aG) ?_));simp only[zz];refine dQ rfl (fun hb=>aF bL aO (bB hb rfl) (bB hb rfl) (by omega) (by omega) (cH (ag _))) (dQ rfl (fun hb=>aJ cT aA (bB hb rfl) rfl (by decide) (by decide) rfl) ?_);simp only[zz];refine lW rfl (fun hb u m=>aZ (bB hb rfl) ((mT.cor ((hrow.ext m.ext)) (c:=0) (by decide)).lies aH aA)) (dQ rfl (fun hb=>bZ (bB hb rfl) (bB hb rfl)) (aI (eD rfl rfl rfl) (bE ?_)));intro u m;refine gc ?_;simp only[zz];refine iK rfl ?_ ?_<;>intro hc2
   ·
    have hd:=wJ (p:=oG) ht (Lp.symm.trans hc2);apply aK 5 [] m;simp only[↓aC];refine aT rfl rfl ?_;try simp only[zD,zE]
    exact⟨_,rfl,m.ext,by rw[aaF hd]⟩
   ·
    have hd1:(ts.take (k+1)).any oG=false:=by rw[pX ht,hd0,←Lp];exact hc2
    apply aK 7 [0] m;simp only[↓aC];refine⟨by omega,?_⟩;exact hK1 (N-(k+1)) _ _ (by omega) (by kernel_rfl) ⟨k+1,rfl,m,hd1,by omega,rfl⟩
  ·
   have hkN:k=N:=by omega
   rw[hkN,show ts.take N=ts from bi (by omega)] at hd0;apply aK 4 [0] m;simp only[↓aC];refine bC rfl rfl (Pz _ (hT.ext m.ext) (by omega)) ?_;rintro v u e_ ⟨A3,cap3,n3,hn3,rfl,h_⟩;replace m:=m.newO e_ h_;have hle3:=(m.o 0 rfl).le;apply aL 8 [0] m;simp only[↓aC];refine bX [7] [4,56,57,58,59,60,61,62,63,64,65,66,67,68] (fun n vs wl=>∃(k:Nat),vs=[.int .i64 (k:Int)]∧Mem w wl [oI 56 6 A3 n3 cap3 ((aQ ts).flatMap bO)]∧(((aQ ts).take k).any (fun e=>decide (1<iC (aQ ts) e))=false)∧(k≤n3)∧(n=n3-k)) ?_ ?_
   ·
    exact⟨_,0,rfl,m,rfl,cq _,rfl⟩
   ·
    intro n vs wr hI u K2 hK2;obtain⟨k,rfl,m,hc0,hk,hn⟩:=hI;simp only[zu,zF,zG];apply aK 8 [0,0] m;simp only[↓aC,Bp];refine bA rfl ?_ ?_<;>intro hc3
    ·
     obtain⟨e,he⟩:∃e,(aQ ts)[k]? = some e:=⟨_,ak (by omega)⟩
     obtain⟨gO,rfl⟩:=(m.o 0 rfl).some (by omega);apply aK 8 [0] m;simp only[↓aC];refine aB (aF lT eP rfl rfl (by omega) (by omega) (cH (ag _))) ?_;simp only[zz];refine aR rfl (((m.o 0 rfl).at vZ he).lies vD eP) ?_;simp only[zz];refine cM m rfl rfl (wW (es:=aQ ts) (e:=e) _ ((m.o 0 rfl).lat vZ (by decide)) (by omega)) ?_;rintro v u m rfl;apply aL 2 [0,0] m;simp only[↓aC];refine bA rfl ?_ ?_<;>intro hc4
     ·
      have hc:=wJ (p:=(fun e=>decide (1<iC (aQ ts) e))) he (decide_eq_true (gt1.1 hc4));apply aK 5 [] m;simp only[↓aC];refine aT rfl rfl ?_;try simp only[zD,zE]
      exact⟨_,rfl,m.ext,by rw[aaG hd0 hc]⟩
     ·
      have hc01:((aQ ts).take (k+1)).any (fun e=>decide (1<iC (aQ ts) e))=false:=by rw[pX he,hc0,decide_eq_false (fun h=>hc4 (gt1.2 h))];rfl
      apply aK 7 [0] m;simp only[↓aC];refine⟨by omega,?_⟩;exact hK2 (n3-(k+1)) _ _ (by omega) (by kernel_rfl) ⟨k+1,rfl,m,hc01,by omega,rfl⟩
    ·
     have hkN:k=(aQ ts).length:=by omega
     rw[hkN,gt] at hc0;apply aK 8 [0] m;simp only[↓aC,ff,fh];refine cN rfl (bC rfl rfl (Kg _ (hT.ext m.ext) hN) ?_);rintro v u e_ ⟨A7,cap7,n7,hn7,rfl,h_⟩;replace m:=m.newO e_ h_;apply aL 4 [0,0] m;simp only[↓aC,Bp];refine bA rfl ?_ ?_<;>intro hc5
     ·
      have hb:0<(aY ts).length:=by omega
      apply aK 5 [] m;simp only[↓aC];refine aT rfl rfl ?_;try simp only[zD,zE]
      exact⟨_,rfl,m.ext,by rw[anf hd0 hc0 hb]⟩
     ·
      have hb:(!false&&decide (0<(aY ts).length))=false:=by rw[decide_eq_false (by omega)];rfl
      apply aK 4 [0] m;simp only[↓aC];refine bC rfl rfl (yF _ (hT.ext m.ext) hN) ?_;rintro v u e_ ⟨A8,cap8,n8,hn8,rfl,h_⟩;replace m:=m.newO e_ h_;have hle8:=(m.o 0 rfl).le;apply aL 8 [0] m;simp only[↓aC];refine bX [9] [4,10,79,80,81,82,83,84,85,86,87,88,89,90,91] (fun n vs wl=>∃(k:Nat),vs=[.int .i64 (k:Int)]∧Mem w wl [oI 30 3 A8 n8 cap8 ((bM ts).flatMap qS)]∧(((bM ts).take k).any (Dd ts)=false)∧(k≤n8)∧(n=n8-k)) ?_ ?_
      ·
       exact⟨_,0,rfl,(m.sel [true,false,false]),rfl,cq _,rfl⟩
      ·
       intro n vs wr hI u K3 hK3;obtain⟨k,rfl,m,hp0,hk,hn⟩:=hI;simp only[zu,zF,zG];apply aK 8 [0,0] m;simp only[↓aC,lC];refine bA rfl ?_ ?_<;>intro hc6
       ·
        obtain⟨x,hx⟩:∃x,(bM ts)[k]? = some x:=⟨_,ak (by omega)⟩
        obtain⟨gO,rfl⟩:=(m.o 0 rfl).some (by omega);apply aK 8 [0] m;simp only[↓aC];refine aB (aF eK aA rfl rfl (by omega) (by omega) (cH (ag _))) ?_;simp only[zz];refine aR rfl (((m.o 0 rfl).at Ld hx).lies aH aA) ?_;simp only[zz];refine cM m rfl rfl (Xo (p:=x) _ (hT.ext m.ext) (by omega)) ?_;rintro v u m rfl;apply aL 6 [0] m;simp only[↓aC];refine iK rfl ?_ ?_<;>intro hc7
        ·
         have hp:=wJ (p:=Dd ts) hx hc7;apply aK 5 [] m;simp only[↓aC];refine aT rfl rfl ?_;try simp only[zD,zE]
         exact⟨_,rfl,m.ext,by rw[aaH hd0 hc0 hb hp]⟩
        ·
         have hp1:((bM ts).take (k+1)).any (Dd ts)=false:=by rw[pX hx,hp0,hc7];rfl
         apply aK 7 [0] m;simp only[↓aC];refine⟨by omega,?_⟩;exact hK3 (n8-(k+1)) _ _ (by omega) (by kernel_rfl) ⟨k+1,rfl,m,hp1,by omega,rfl⟩
       ·
        have hkN:k=(bM ts).length:=by omega
        rw[hkN,gt] at hp0;apply aK 6 [] m;simp only[↓aC];refine aT rfl rfl ?_;try simp only[zD,zE]
        exact⟨_,rfl,m.ext,by rw[ad5 hd0 hc0 hb hp0]⟩
theorem Tu(w:aj)(hT:bQ w A N ts)(hN:N≤100000000):dK prog 29 [.slice A N cap] w (fun v _=>v=.int .i64 (dC false ts)):=by
 refine⟨bP func29 (by kernel_rfl),?_⟩;have m:=Mem.refl w
 go_enter func29,ntmps29
 apply fG 7 [0] m;simp only[↓aC];refine cM m rfl rfl (anh _ (hT.ext m.ext) hN) ?_;rintro v u m rfl;apply aL 3 [] m;simp only[↓aC];exact aT rfl rfl ⟨_,rfl,m.ext,rfl⟩
theorem Bb(w:aj)(hT:bQ w A N ts)(hN:N≤100000000):dK prog 30 [.slice A N cap] w (fun v _=>v=.int .i64 (dC true ts)):=by
 refine⟨bP func30 (by kernel_rfl),?_⟩;have m:=Mem.refl w
 go_enter func30,ntmps30
 apply fG 7 [0] m;simp only[↓aC];refine cM m rfl rfl (ang _ (hT.ext m.ext) hN) ?_;rintro v u m rfl;apply aL 3 [] m;simp only[↓aC];exact aT rfl rfl ⟨_,rfl,m.ext,rfl⟩
theorem aj1{t:T3}:fF prog 234 [tr t] (.agg #[.int .i64 t.a.x,.int .i64 t.a.y,.int .i64 t.a.z,.int .i64 t.b.x,.int .i64 t.b.y,.int .i64 t.b.z,.int .i64 t.b.x,.int .i64 t.b.y,.int .i64 t.b.z,.int .i64 t.c.x,.int .i64 t.c.y,.int .i64 t.c.z,.int .i64 t.c.x,.int .i64 t.c.y,.int .i64 t.c.z,.int .i64 t.a.x,.int .i64 t.a.y,.int .i64 t.a.z]):=by
 intro w;refine⟨bP func234 (by kernel_rfl),?_⟩;have m:=Mem.refl w
 go_enter func234,ntmps234
 apply mR 23 [1,1,1,1,1,1] m;simp only[↓aC,apT,dD,aU,Mj,apU,ad,ah,aa];intro g1 g2;refine⟨by omega,?_⟩;intro u m;apply Wy 3 [0] m;simp only[↓aC,apS,aa];intro u m;exact aT rfl ⟨_,rfl,((m.b 0 rfl).full al3 age)⟩ ⟨_,rfl,m.ext,rfl⟩
theorem aqq{e:E3}:fF prog 236 [ed e] (ed (e.2,e.1)):=by
 intro w;refine⟨bP func236 (by kernel_rfl),?_⟩;have m:=Mem.refl w
 go_enter func236,ntmps236
 apply mR 15 [1,1,0] m;simp only[↓aC,Dy,Dz,aU,Sy,Mj,vP,aa];intro g1 g2 u m;exact aT rfl ⟨_,rfl,((m.b 0 rfl).full Fb rA)⟩ ⟨_,rfl,m.ext,rfl⟩
theorem ad6{e:E3}(h:(!!(cD (gS [] E) e).getD false)=true):false=decide (E++[e]).Nodup:=by
 rw[Bool.not_not] at h;exact (decide_eq_false fun k=>(vH.1 k).2 (abH.1 h)).symm
theorem aaI{e:E3}{b:Bool}(hb:b=decide E.Nodup)(h:(!!(cD (gS [] E) e).getD false)=false):b=decide (E++[e]).Nodup:=by
 rw[Bool.not_not] at h;rw[hb,decide_eq_decide,vH];exact⟨fun k=>⟨k,fun h2=>by rw[abH.2 h2] at h;cases h⟩,And.left⟩
theorem mJ{K:Type}[DecidableEq K](ks:List K)(k:K):gS [] (ks++[k])=fJ (gS [] ks) k true:=aiM [] ks [k]
theorem Tv(w:aj)(hT:bQ w A N ts)(hN:N≤10000000):dK prog 164 [.slice A N cap] w (fun v w'=>∃g es c,v=.tuple #[.map (some g),.bool (decide (aQ ts).Nodup)]∧Mem w w' [mI g es c]∧bJ ed bm (gS [] (aQ ts)) es c):=by
 refine⟨bP func164 (by kernel_rfl),?_⟩;have m:=Mem.refl w
 go_enter func164,ntmps164
 apply fG 7 [0] m;simp only[↓aC];refine mE m ?_;intro q8 u m;have hD8:=bJ.nil (K:=E3) (V:=Bool) ed bm;apply aL 14 [0] m;simp only[↓aC,eV];refine bX [5,13] [7,9,14,15,16,17,18,19,20,21,22,23,24,25,26,27] (fun n vs wl=>∃(k:Nat) (es:Array de) (c:Nat) (b:Bool),vs=[.bool b,.int .i64 (k:Int)]∧Mem w wl [mI q8 es c]∧(bJ ed bm (gS [] (aQ (ts.take k))) es c)∧(b=decide (aQ (ts.take k)).Nodup)∧(k≤N)∧(n=N-k)) ?_ ?_
 ·
  exact⟨_,0,_,_,true,rfl,m,hD8,rfl,cq _,rfl⟩
 ·
  intro n vs wr hI u K1 hK1;obtain⟨k,es,c,b0,rfl,m,hD8,hb0,hk,hn⟩:=hI;simp only[zu,zF,zG];apply aK 5 [0,0] m;simp only[↓aC];refine bA rfl ?_ ?_<;>intro hc1
  ·
   obtain⟨t,ht,_,a,rfl,hrow⟩:=hT.get (i:=k) (by omega);apply aK 5 [0] m;simp only[↓aC];refine aB (aF bL aO rfl rfl (by omega) (by omega) (cH (ag _))) ?_;simp only[zz];refine aR rfl ((hrow.ext m.ext).lies cK aO) ?_;simp only[zz];apply kP 6 [0,0,0] m;simp only[↓aC,nC,gX,aa];intro g2 u m;refine wA m rfl rfl aj1 16 [4,1,0] ?_;simp only[↓aC];refine⟨by omega,?_⟩;intro u m;refine aB (Vh rfl rfl) ?_;apply kP 7 [0,0,0] m;simp only[↓aC,Dy,vP,aa];intro g3 u m;refine mM m 2 Zo rfl rfl (fun m=>aaE (p:=(t.a,t.b)) m 2 rfl hD8) ?_;rintro v i u m ⟨rfl,es',c',rfl,hD'⟩;simp only[zF,zG] at m;simp only[zz];rw[←mJ] at hD';clear hD8;have hD8:=hD';clear hD';apply aL 2 [0] m;simp only[↓aC];refine Sb m [5] [] (fun vs=>∃(b:Bool),vs=[.bool b]∧(b=decide (((aQ (ts.take k))++[(t.a,t.b)])).Nodup)) ?_ ?_
   ·
    intro K2 hK2;refine eG rfl ?_ ?_<;>intro hc3
    ·
     apply aK 3 [0] m;simp only[↓aC];exact hK2 _ _ (by kernel_rfl) m ⟨false,rfl,ad6 hc3⟩
    ·
     skip
     apply aK 1 [0] m;simp only[↓aC];exact hK2 _ _ (by kernel_rfl) m ⟨b0,rfl,aaI hb0 hc3⟩
   ·
    intro vs wr m hI u;obtain⟨b1,rfl,hb1⟩:=hI;simp only[zu,zF,zG];apply aW 17 [1,0] m;simp only[↓aC,am];refine⟨by omega,?_⟩;refine aB (Vi rfl rfl) ?_;apply kP 7 [0,0,0] m;simp only[↓aC,Dy,vP,aa];intro g4 u m;refine mM m 3 Zo rfl rfl (fun m=>aaE (p:=(t.b,t.c)) m 3 rfl hD8) ?_;rintro v i u m ⟨rfl,es',c',rfl,hD'⟩;simp only[zF,zG] at m;simp only[zz];rw[←mJ] at hD';clear hD8;have hD8:=hD';clear hD';apply aL 2 [0] m;simp only[↓aC];refine Sb m [5] [] (fun vs=>∃(b:Bool),vs=[.bool b]∧(b=decide ((((aQ (ts.take k))++[(t.a,t.b)])++[(t.b,t.c)])).Nodup)) ?_ ?_
    ·
     intro K3 hK3;refine eG rfl ?_ ?_<;>intro hc3
     ·
      apply aK 3 [0] m;simp only[↓aC];exact hK3 _ _ (by kernel_rfl) m ⟨false,rfl,ad6 hc3⟩
     ·
      skip
      apply aK 1 [0] m;simp only[↓aC];exact hK3 _ _ (by kernel_rfl) m ⟨b1,rfl,aaI hb1 hc3⟩
    ·
     intro vs wr m hI u;obtain⟨b2,rfl,hb2⟩:=hI;simp only[zu,zF,zG];apply aW 17 [1,0] m;simp only[↓aC,am];refine⟨by omega,?_⟩;refine aB (Vj rfl rfl) ?_;apply kP 7 [0,0,0] m;simp only[↓aC,Dy,vP,aa];intro g5 u m;refine mM m 4 Zo rfl rfl (fun m=>aaE (p:=(t.c,t.a)) m 4 rfl hD8) ?_;rintro v i u m ⟨rfl,es',c',rfl,hD'⟩;simp only[zF,zG] at m;simp only[zz];rw[←mJ] at hD';clear hD8;have hD8:=hD';clear hD';apply aL 2 [0] m;simp only[↓aC];refine Sb m [5] [] (fun vs=>∃(b:Bool),vs=[.bool b]∧(b=decide (((((aQ (ts.take k))++[(t.a,t.b)])++[(t.b,t.c)])++[(t.c,t.a)])).Nodup)) ?_ ?_
     ·
      intro K4 hK4;refine eG rfl ?_ ?_<;>intro hc3
      ·
       apply aK 3 [0] m;simp only[↓aC];exact hK4 _ _ (by kernel_rfl) m ⟨false,rfl,ad6 hc3⟩
      ·
       skip
       apply aK 1 [0] m;simp only[↓aC];exact hK4 _ _ (by kernel_rfl) m ⟨b2,rfl,aaI hb2 hc3⟩
     ·
      intro vs wr m hI u;obtain⟨b3,rfl,hb3⟩:=hI;simp only[zu,zF,zG];apply aW 18 [2,0] m;simp only[↓aC,am];refine⟨by omega,?_⟩;exact hK1 (N-(k+1)) _ _ (by omega) (by kernel_rfl) ⟨k+1,_,_,b3,rfl,(m.sel [false,false,false,false,true]),by rw[uZ ht];simpa[da] using hD8,by rw[hb3,uZ ht];simp only[da,cg,bt],by omega,rfl⟩
  ·
   have hkN:k=N:=by omega
   rw[hkN,show ts.take N=ts from bi (by rw[hT.len];exact ao _)] at hD8 hb0;apply aK 9 [] m;simp only[↓aC];refine Ck rfl rfl rfl ?_;try simp only[zD,zE]
   exact⟨_,rfl,m.ext,_,_,_,by rw[hb0],m,hD8⟩
theorem aqr{dn:List (E3 × Bool)}{kp:E3}{kb:Bool}(h:(!(cD (gS [] E) (kp.2,kp.1)).getD false)=true):((dn++[(kp,kb)]).map (·.1)).filter (fun e=>decide ((e.2,e.1)∉E))=(dn.map (·.1)).filter (fun e=>decide ((e.2,e.1)∉E))++[kp]:=by
 rw[sE] at h;simp only[ct,ij,List.map_cons,List.map_nil];rw[List.filter_cons_of_pos (by simpa using h)];rfl
theorem aqs{dn:List (E3 × Bool)}{kp:E3}{kb:Bool}(h:(!(cD (gS [] E) (kp.2,kp.1)).getD false)=false):((dn++[(kp,kb)]).map (·.1)).filter (fun e=>decide ((e.2,e.1)∉E))=(dn.map (·.1)).filter (fun e=>decide ((e.2,e.1)∉E)):=by
 rw[sE] at h;simp only[ct,ij,List.map_cons,List.map_nil];rw[List.filter_cons_of_neg (by simpa using h)];simp
theorem aj2{dn:List (E3 × Bool)}(h:dn.Perm (gS [] E)):(∀a,a∈(dn.map (·.1)).filter (fun e=>decide ((e.2,e.1)∉E))↔a∈E∧(a.2,a.1)∉E)∧((dn.map (·.1)).filter (fun e=>decide ((e.2,e.1)∉E))).length≤E.length:=by
 refine⟨fun a=>?_,?_⟩
 ·
  rw[List.mem_filter,(h.map (·.1)).mem_iff,vG];simp
 ·
  refine Nat.le_trans (ft _ _) ?_;have:=pH E [];rw[bf,h.length_eq];simpa using this
theorem agX{g:Nat}(w:aj)(hM:iW w g es c)(hD:bJ ed bm (gS [] E) es c):dK prog 165 [.map (some g)] w (fun v w'=>∃g es c ks,v=.map (some g)∧Mem w w' [mI g es c]∧bJ ed bm (gS [] ks) es c∧(∀a,a∈ks↔a∈E∧(a.2,a.1)∉E)∧ks.length≤E.length):=by
 refine⟨bP func165 (by kernel_rfl),?_⟩;have m:=Mem.refl w
 go_enter func165,ntmps165
 apply fG 6 [0] m;simp only[↓aC];refine mE m ?_;intro q8 u m;have hD8:=bJ.nil (K:=E3) (V:=Bool) ed bm;apply aL 6 [0] m;simp only[↓aC];refine xG m underlying208 rfl (hM.ext m.ext) ?_;intro r1 u m;apply aL 2 [0] m;simp only[↓aC];refine bX [] [4,8,9,10,11,12,13,14,15,16,17,18,19] (fun n vs wl=>∃(dn rs:List (E3 × Bool)) (sn:Array Nat) (es2:Array de) (c2:Nat),vs=[]∧Mem w wl [iI r1 g c sn,mI q8 es2 c2]∧(bJ ed bm (gS [] ((dn.map (·.1)).filter (fun e=>decide ((e.2,e.1)∉E)))) es2 c2)∧(oJ ed bm (gS [] E) es sn dn rs)∧(n=rs.length)) ?_ ?_
 ·
  exact⟨_,[],gS [] E,#[],_,_,rfl,m,hD8,oJ.start hD,rfl⟩
 ·
  intro n vs wr hI u K1 hK1;obtain⟨dn,rs,sn,es2,c2,rfl,m,hD8,hT,hn⟩:=hI;simp only[zu,zF,zG];apply aK 2 [0] m;simp only[↓aC];refine Oa m 0 rfl rfl (hM.ext m.ext) hD hT ?_;intro bb kk vv sn u m hN;simp only[zF,zG] at m;refine aB (pZ rfl) ?_;apply aL 2 [0] m;simp only[↓aC];refine eG rfl ?_ ?_<;>intro hc1
  ·
   obtain⟨kp,kb,rs2,hp,hT2⟩:=Jf hc1 hN;apply aK 4 [0] m;simp only[↓aC];refine gK (uA rfl (m.r 0 rfl) (hM.ext m.ext) hD hT2) ?_;simp only[zz];apply kP 8 [0,0,0] m;simp only[↓aC,Dy,vP,aa];intro g3 u m;refine kY m rfl rfl aqq ?_;intro u m;simp only[zz];refine gK (eE (ek:=ed) (en:=bm) (k:=(kp.2,kp.1)) (v0:=false) underlying208 oW Eh rfl rfl (hM.ext m.ext) hD) ?_;simp only[zz];apply aL 2 [0] m;simp only[↓aC];refine eG rfl ?_ ?_<;>intro hc2
   ·
    apply aK 3 [0,0] m;simp only[↓aC,vP];refine mM m 2 Zo rfl rfl (fun m=>aaE (p:=kp) m 2 rfl hD8) ?_;rintro v i u m ⟨rfl,es',c',rfl,hD'⟩;simp only[zF,zG] at m;simp only[zz];rw[←mJ] at hD';clear hD8;have hD8:=hD';clear hD';apply aL 2 [0] m;simp only[↓aC];exact hK1 rs2.length _ _ (by rw[hn,hp.length_eq];exact fg _) (by kernel_rfl) ⟨dn++[(kp,kb)],rs2,_,_,_,rfl,(m.sel [false,true,true]),by rw[aqr hc2];exact hD8,hT2,rfl⟩
   ·
    apply aK 2 [0] m;simp only[↓aC];exact hK1 rs2.length _ _ (by rw[hn,hp.length_eq];exact fg _) (by kernel_rfl) ⟨dn++[(kp,kb)],rs2,_,_,_,rfl,(m.sel [false,true,true]),by rw[aqs hc2];exact hD8,hT2,rfl⟩
  ·
   obtain rfl:=Je hc1 hN;apply aK 7 [] m;simp only[↓aC];exact aT rfl rfl ⟨_,rfl,m.ext,_,_,_,_,rfl,m.sel [false,true],hD8,aj2 hT.done⟩
theorem agY{ks ps:List E3}(hk:∀a,a∈ks↔a∈aQ ts∧(a.2,a.1)∉aQ ts)(hp:ps.Perm ((gS [] ks).map (·.1)))(hs:ps.Pairwise fun a b=>¬Le b a):ps=aY ts:=by
 refine Oe ?_ (rP ts) fun a=>?_
 ·
  have hn:ps.Nodup:=hp.nodup_iff.2 (Hg _ _ .nil);refine List.Pairwise.imp₂ (fun a b (h:¬Le b a) (k:a≠b)=>?_) hs hn;rcases Le.tri a b with h1 | h1 | h1
  · exact h1
  · exact absurd h1 k
  · exact absurd h1 h
 ·
  rw[hp.mem_iff,vG,Hf,hk];simp
theorem agZ(w:aj)(hT:bQ w A N ts)(hN:N≤10000000):dK prog 98 [.slice A N cap] w (SL 56 6 ((aY ts).flatMap bO) (aY ts).length w):=by
 refine⟨bP func98 (by kernel_rfl),?_⟩;have m:=Mem.refl w;have htl:=hT.len;have hel:=mH ts
 go_enter func98,ntmps98
 apply fG 7 [0] m;simp only[↓aC];refine bC rfl rfl (Tv _ (hT.ext m.ext) (by omega)) ?_;rintro v u e_ ⟨g8,es8,c8,rfl,hM,hD8⟩;replace m:=m.plus hM;clear hM;simp only[cg,bt] at m;apply aL 8 [0] m;simp only[↓aC];refine aB aP ?_;replace m:=m.nilO 56 6;apply aL 5 [0] m;simp only[↓aC];refine bC rfl rfl (agX _ (m.p 1 rfl) hD8) ?_;rintro v u e_ ⟨g9,es9,c9,ks,rfl,hM,hD9,hks,hkl⟩;replace m:=m.plus hM;clear hM;simp only[cg,bt] at m;simp only[zz];refine bC rfl rfl (agW _ (m.p 0 rfl) hD9 (by have h1:=pH ks [];simp only[cd] at h1;omega)) ?_;rintro v u e_ ⟨A5,n5,cap5,_,rfl,h_,ps,rfl,hps,hso⟩;replace m:=m.newO e_ h_;obtain rfl:=agY hks hps hso;obtain rfl:(aY ts).length=n5:=(m.o 0 rfl).num vZ (by decide);have hle5:=(m.o 0 rfl).le;have hbl:(aY ts).length≤(aQ ts).length:=by have:=Rp (all:=aQ ts) (aQ ts) [];simpa[aY] using this
 apply aL 4 [0] m;simp only[↓aC,apI];refine bX [5,17] [7,18,19,20,21,22,23,24,25,26,27,28,29] (fun n vs wl=>∃(k:Nat) (A6:Option Addr) (cap6:Nat),vs=[.slice A6 k cap6,.int .i64 (k:Int)]∧Mem w wl [oI 215 6 A5 (aY ts).length cap5 ((aY ts).flatMap bO),oI 56 6 A6 k cap6 (((aY ts).take k).flatMap bO)]∧(k≤(aY ts).length)∧(n=(aY ts).length-k)) ?_ ?_
 ·
  exact⟨_,0,_,_,rfl,(m.sel [true,false,true,false]),cq _,rfl⟩
 ·
  intro n vs wr hI u K1 hK1;obtain⟨k,A6,cap6,rfl,m,hk,hn⟩:=hI;simp only[zu,zF,zG];apply aK 5 [0,0] m;simp only[↓aC];refine bA rfl ?_ ?_<;>intro hc1
  ·
   obtain⟨e,he⟩:∃e,(aY ts)[k]? = some e:=⟨_,ak (by omega)⟩
   obtain⟨gO,rfl⟩:=(m.o 0 rfl).some (by omega);apply aK 5 [0] m;simp only[↓aC];refine aB (aF underlying212 rA rfl rfl (by omega) (by omega) (cH (ag _))) ?_;simp only[zz];refine aR rfl (((m.o 0 rfl).at vZ he).lies Fb rA) ?_;simp only[zz];apply kP 10 [0,0,0,0] m;simp only[↓aC,Dy,vP,Sy,aU,Dz,Dw,aa];intro g1 u m;refine Fe rfl ?_;intro u g2 e_ h_ k_;replace m:=m.newB e_ h_ k_;simp only[zz];refine bW m 3 rfl rfl lT Ad rfl (by decide) rfl rfl rfl (m.b 0 rfl).rowsO (jX rfl) (by omega) (by omega) ?_;intro A6 cap6 u m;simp only[zF,zG] at m;apply aL 7 [0] m;simp only[↓aC];refine⟨by omega,?_⟩;exact hK1 ((aY ts).length-(k+1)) _ _ (by omega) (by kernel_rfl) ⟨k+1,_,_,rfl,((m.reO 3 rfl ((m.o 3 rfl).as (by rw[bY he,aw];rfl))).sel [false,false,true,true]),by omega,rfl⟩
  ·
   obtain rfl:k=(aY ts).length:=by omega
   rw[gt] at m;apply aK 7 [] m;simp only[↓aC];exact aT rfl rfl ⟨_,rfl,m.ext,⟨_,_,_,rfl,rfl,(m.o 1 rfl)⟩⟩
end Go.Proofs.YtfekpcimgncioaaGreatDoor
namespace Go.Lith
open Go.RowKit Go.ChangeMaps Go.MapKept
def ani{K V:Type}[DecidableEq K](ek:K→ai)(en:V→ai)(D:List (K × V))(k:K)(es:Array de)(c b:Nat):Prop :=
 ∀u,∃p,es.findIdx? (fun e=>(e.born:Int) == (b:Int))=some p∧bJ ek en (fJ D k u) (es.modify p fun e=>{ e with val:=en u }) c
section
variable {K V:Type} [DecidableEq K] {P:Program} {T M E ty:av} {ek:K→ai} {en:V→ai} {w w0:aj} {g c:Nat} {es:Array de} {D:List (K × V)}
theorem aqt{α:Type}{l:List α}{p:Nat}{x:α}(h:l[p]? = some x):l.set p x=l:=by
 apply List.ext_getElem?;intro j;rw[List.getElem?_set];split
 · rename_i e;subst e;rw[if_pos (ap.1 h).1,h]
 · rfl
theorem acb{b p:Nat}(hn:(es.toList.map (·.born)).Nodup){e:de}(he:es[p]? = some e)(hb:e.born=b):es.findIdx? (fun e=>(e.born:Int) == (b:Int))=some p:=by
 rw[Array.findIdx?_eq_some_iff_getElem];have hp:=(dz.1 he).1;have hx:=(dz.1 he).2;refine⟨hp,by rw[hx,hb];simp,fun j hj=>?_⟩;have hj':j<es.size:=by omega
 simp only[Bool.not_eq_true,beq_eq_false_iff_ne,ne_eq,Int.natCast_inj];intro hh;have h1:(es.toList.map (·.born))[j]'(by simpa using hj')=(es.toList.map (·.born))[p]'(by simpa using hp):=by
  simp only[List.getElem_map,Array.getElem_toList];rw[hh,hx,hb]
 have:=(List.getElem_inj hn).1 h1;omega
theorem ad7{p:Nat}{e:de}(he:es[p]? = some e)(k u:ai)(hk:e.key=k):(es.modify p fun e=>{ e with val:=u })=es.modify p fun e=>{ e with key:=k,val:=u }:=by
 apply kx;intro j;rw[jz,jz];split
 · rename_i hj;subst hj;rw[he];simp[hk]
 · rfl
theorem anj(hD:bJ ek en D es c){p:Nat}{k:K}{v:V}(hp:D[p]? = some (k,v)):∃e,es[p]? = some e∧e.key=ek k∧e.val=en v:=by
 have h2:=congrArg (fun L=>L[p]?) hD.cells;simp only[eh,hp,fa] at h2;rw[Array.getElem?_toList] at h2;cases h3:es[p]? with
 | none=>rw[h3] at h2;cases h2
 | some x =>
  rw[h3] at h2;simp only[fa,ie,Vn,fk] at h2;exact⟨x,rfl,h2.1,h2.2⟩
theorem Vr{v0:V}(hu:P.underlying M=some (.map T E))(hz:oS P E (en v0))(kt:sQ P T ek)(hM:iW w g es c)(hD:bJ ek en D es c)(k:K) :
 ∃es' c' b,(Instr.mapEntry M (.map (some g)) (ek k)).run P w=.ok (.tuple #[en ((cD D k).getD v0),.int .i64 (b:Nat)]) (setBlock w g (.map es' c'))∧bJ ek en (fJ D k ((cD D k).getD v0)) es' c'∧ani ek en D k es' c' b:=by
 unfold iW at hM;cases hf:qT D k 0 with
 | none =>
  obtain⟨h0,h1,_⟩:=rB D k 0 hf;obtain⟨inf,hi,hz⟩:=hz;have hzv:(zeroValue E).run P w=.ok (en v0) w:=by simp[zeroValue,typeInfo,program,Sem.run,hi,hz]
  have hP:=hD.push k v0;refine⟨_,_,c,?_,by rw[h0,h1];exact hP,fun u=>⟨es.size,acb hP.nd (e:={ key:=ek k,val:=en v0,born:=c }) (by simp) rfl,?_⟩⟩
  · simp only[Instr.mapEntry,Sem.run_bind,cn hu,Result.andThen,getObj,Sem.run,hM,Sem.run_pure,kt.chk,vF kt k w hD,hf,Option.map_none,hzv,run_setObj_map _ hM,h0,Option.getD_none,goInt]
    rfl
  · rw[h1]
    have e:((es.push { key:=ek k,val:=en v0,born:=c }).modify es.size fun e=>{ e with val:=en u })=es.push { key:=ek k,val:=en u,born:=c }:=by
     apply kx;intro j;rw[jz,Array.getElem?_push,Array.getElem?_push];split
     · rename_i hj;subst hj;simp
     · rename_i hj;simp[Ne.symm hj]
    rw[e];exact hD.push k u
 | some p =>
  obtain⟨j,v⟩:=p;obtain⟨p,rfl,hp,h0,h1,_⟩:=mW D k 0 j v hf;rw[ar] at hf;obtain⟨e,he,hk,hv⟩:=anj hD hp;have hk':((es[p]?).map (·.key)).getD (ek k)=ek k:=by rw[he];simp[hk]
  have hm:(es.modify p fun e=>{ e with key:=ek k })=es:=by
   apply kx;intro j;rw[jz];split
   · rename_i hj;subst hj;rw[he];simp[←hk]
   · rfl
  refine⟨es,c,e.born,?_,by rw[h0,dx,h1,aqt hp];exact hD,fun u=>⟨p,acb hD.nd he rfl,?_⟩⟩
  · simp only[Instr.mapEntry,Sem.run_bind,cn hu,Result.andThen,getObj,Sem.run,hM,Sem.run_pure,kt.chk,vF kt k w hD,hf,fa,hk',Instr.keyThatStays,kt.bits,if_true,hm,run_setObj_map _ hM,h0,dx,he,hk,kt.bits,if_true,Sem.run_pure,hm,goInt]
    rfl
  · rw[h1,ad7 he (ek k) (en u) hk]
    exact hD.set hp u
theorem Pf{b:Nat}{k:K}(hM:iW w g es c)(hS:ani ek en D k es c b)(u:V) :
 ∃es',(Instr.entryStore M (.map (some g)) (.int .i64 (b:Nat)) (en u)).run P w=.ok () (setBlock w g (.map es' c))∧bJ ek en (fJ D k u) es' c:=by
 obtain⟨p,hp,hD⟩:=hS u;unfold iW at hM;refine⟨_,?_,hD⟩;simp only[Instr.entryStore,Sem.run_bind,Result.andThen,getObj,Sem.run,hM,Sem.run_pure,asInt,asIntOf,hp];exact run_setObj_map _ hM
theorem ank{ds:List dw}{l:List ai}{op:Op}{ops:Array Oper}{Q:Exit→Act→aj→Prop}{rest:List Oper}{pos:String}{after:Array Edge}
 (h:∀o:Oper,o.op=op→∃v w',(execOp (Fr l).eval o).run P w=.ok (.value v) w'∧au P ops Q rest (Fr l ds) w'):au P ops Q (bx none op ty pos after none::rest) (Fr l ds) w:=by
 refine wpList_plain rfl fun K hK=>?_;unfold Oper.wp;obtain⟨v,w',hr,hw⟩:=h (bx none op ty pos after none) rfl;rw[kF,hr];exact hK _ _ hw
variable {is:List It} {ds:List dw} {l:List ai} {x y z:bz} {ops:Array Oper} {Q:Exit→Act→aj→Prop} {rest:List Oper} {d:Nat} {pos:String} {after:Array Edge}
theorem Bc{v0:V}{a:K}(m:Mem w0 w is)(k:Nat)(hk:is[k]? = some (mI g es c))(hu:P.underlying M=some (.map T E))(hz:oS P E (en v0))(kt:sQ P T ek)(hx:ev l x=.map (some g))(hy:ev l y=ek a)(hD:bJ ek en D es c)
 (h:∀es' c' b u,Mem w0 u (is.set k (mI g es' c'))→bJ ek en (fJ D a ((cD D a).getD v0)) es' c'→ani ek en D a es' c' b→au P ops Q rest (Fr (l.set d (.tuple #[en ((cD D a).getD v0),.int .i64 (b:Nat)])) ds) u) :
 au P ops Q (bx (some d) (.mapEntry M x y) ty pos after none::rest) (Fr l ds) w:=by
 have hM:=m.p k hk;obtain⟨es',c',b,hr,hD',hS⟩:=Vr hu hz kt hM hD a;have hC:=pY (w:=w) (g:=g) (.map es' c');refine mK (w':=setBlock w g (.map es' c')) (fun o ho hty=>by simp[execOp,ho,hty,cJ,hx,hy,hr]) (h es' c' b _ ?_ hD' hS);exact m.put k hk hC.os hC.tape hC.output (by rw[hC.size];exact ao _) (fun b _ hne=>hC.block b fun e=>hne (by rw[e];rfl)) (jU hM) (.inl fun _ h=>h)
theorem qJ{v:V}{a:K}{b:Nat}(m:Mem w0 w is)(k:Nat)(hk:is[k]? = some (mI g es c))(hx:ev l x=.map (some g))(hy:ev l y=.int .i64 (b:Nat))(hz:ev l z=en v)(hS:ani ek en D a es c b)
 (h:∀es' u,Mem w0 u (is.set k (mI g es' c))→bJ ek en (fJ D a v) es' c→au P ops Q rest (Fr l ds) u):au P ops Q (bx none (.entryStore M x y z) ty pos after none::rest) (Fr l ds) w:=by
 have hM:=m.p k hk;obtain⟨es',hr,hD'⟩:=Pf (P:=P) (M:=M) hM hS v;have hC:=pY (w:=w) (g:=g) (.map es' c);refine Ij (w':=setBlock w g (.map es' c)) (fun o ho=>by simp[execOp,ho,cJ,hx,hy,hz,hr]) (h es' _ ?_ hD');exact m.put k hk hC.os hC.tape hC.output (by rw[hC.size];exact ao _) (fun b _ hne=>hC.block b fun e=>hne (by rw[e];rfl)) (jU hM) (.inl fun _ h=>h)
end
end Go.Lith
namespace Go.Proofs.YtfekpcimgncioaaGreatDoor
open Go.Proofs.Tryz
open Go.RowKit Go.Lith
set_option maxRecDepth 100000
attribute [local irreducible] au cu fA bF cG Code.wp
attribute [local congr] nO fK fM fN fO fP iY fQ fR fS fT fU fV fW fX fY fZ gA dX dY gB gC gE gF gG jA cQ cR cE cP gD iZ dZ eA eB gH gI jD
variable{K:Type}{s a y:P3}{z N cap:Nat}{ts:List T3}{t:T3}
def sH(n:Nat):ai:=.int .i64 (n:Int)
theorem Na{V:Type}[DecidableEq K](xs:List (K × V))(k:K)(v:V):Fv [] (xs++[(k,v)])=fJ (Fv [] xs) k v:=aiN [] xs [(k,v)]
theorem uP[DecidableEq K](ks:List K)(k:K):xH [] (ks++[k])=fJ (xH [] ks) k ((cD (xH [] ks) k).getD 0+1):=aiP [] ks [k]
theorem acd[DecidableEq K](ks:List K)(k:K):(cD (xH [] ks) k).getD 0=wB ks k:=by rw[abJ];simp[cD]
theorem Qh[DecidableEq K](ks:List K)(k:K):(cD (xH [] ks) k).getD 0≤ks.length:=by rw[acd];exact ft _ _
theorem aqu{nx:P3→Option P3}{n:Nat}(h:¬a=s)(hb:nx a=some y):Dl nx s (n+1) a z=Dl nx s n y (z+1):=by rw[Dl,if_neg h,hb]
theorem anl{nx:P3→Option P3}{n:Nat}(hb:nx a=none):Dl nx s n a z=(a,z):=by
 cases n with
 | zero=>rfl
 | succ n=>rw[Dl,hb];split <;> rfl
theorem aqv{nx:P3→Option P3}{M:Nat}(hz:z≤M+1)(h:a=s∨¬z≤M):Dl nx s (M+1-z) a z=(a,z):=by
 rcases h with rfl | h
 · exact aiQ
 · rw[show M+1-z=0 by omega];rfl
theorem aqw{x:P3}:(¬x.x=y.x∨¬x.y=y.y∨¬x.z=y.z)↔¬x=y:=by
 rw[←Ab];exact⟨fun h k=>h.elim (fun h=>h k.1) fun h=>h.elim (fun h=>h k.2.1) fun h=>h k.2.2,fun h=>by
  rcases Classical.em (x.x=y.x) with h1 | h1
  ·
   rcases Classical.em (x.y=y.y) with h2 | h2
   · exact .inr (.inr fun h3=>h ⟨h1,h2,h3⟩)
   · exact .inr (.inl h2)
  · exact .inl h1⟩
theorem aj3{M:Nat}(h:(decide (¬(a.x=s.x∧a.y=s.y∧a.z=s.z))&&decide ((z:Int)≤(M:Int)))=false):a=s∨¬z≤M:=by
 rcases Classical.em (a=s) with k | k
 · exact .inl k
 ·
  refine .inr fun k4=>?_;rw[decide_eq_true (mt Ab.1 k),decide_eq_true (Int.ofNat_le.2 k4)] at h;cases h
theorem aj4{es:Array de}{sn:Array Nat}{dn:List (E3 × P3)}(h:oJ ed pt (Fv [] (kS ts)) es sn dn [])(hnd:(aQ ts).Nodup)(hno:∀y∈dn,¬aae ts y.1)(e:E3):¬aae ts e:=fun he=>by
 obtain⟨x,hx,_⟩:=id he;have h1:cD (Fv [] (kS ts)) e=some x:=by rw[←hx];exact Ji hnd e.1 e.2
 exact hno _ (h.done.mem_iff.2 (sD h1)) he
theorem Yc(ts:List T3):(cA ts).length=ts.length*3:=uC ts
theorem ad8{A:Option Addr}(w:aj)(hT:bQ w A N ts)(hN:N≤10000000)(hnd:(aQ ts).Nodup):dK prog 166 [.slice A N cap] w (fun v _=>v=.bool ((bM ts).any (Dd ts))):=by
 refine⟨bP func166 (by kernel_rfl),?_⟩;have m:=Mem.refl w
 go_enter func166,ntmps166
 apply fG 6 [0] m;simp only[↓aC];refine mE m ?_;intro q8 u m;have hD8:=bJ.nil (K:=E3) (V:=P3) ed pt;apply aL 4 [0] m;simp only[↓aC];refine mE m ?_;intro q9 u m;have hD9:=bJ.nil (K:=P3) (V:=Nat) pt sH;apply aL 10 [0] m;simp only[↓aC,eV];refine bX [18] [6,7,8,19,20,21,22,23,24,25,26,27,28,29,30,31,32,33,34,35,36,37,38,39,40,41,42,43,44,45,46,47] (fun n vs wl=>∃(k:Nat) (es8 es9:Array de) (c8 c9:Nat),vs=[.int .i64 (k:Int)]∧Mem w wl [mI q9 es9 c9,mI q8 es8 c8]∧(bJ ed pt (Fv [] (kS (ts.take k))) es8 c8)∧(bJ pt sH (xH [] (cA (ts.take k))) es9 c9)∧(k≤N)∧(n=N-k)) ?_ ?_
 ·
  exact⟨_,0,_,_,_,_,rfl,m,hD8,hD9,cq _,rfl⟩
 ·
  intro n vs wr hI u K1 hK1;obtain⟨k,es8,es9,c8,c9,rfl,m,hD8,hD9,hk,hn⟩:=hI;simp only[zu,zF,zG];apply aK 5 [0,0] m;simp only[↓aC];refine bA rfl ?_ ?_<;>intro hc1
  ·
   obtain⟨t,ht,_,a,rfl,hrow⟩:=hT.get (i:=k) (by omega);have hcl:=Yc (ts.take k);rw[bw] at hcl;apply aK 5 [0] m;simp only[↓aC];refine aB (aF bL aO rfl rfl (by omega) (by omega) (cH (ag _))) ?_;simp only[zz];refine aR rfl ((hrow.ext m.ext).lies cK aO) ?_;simp only[zz];apply kP 8 [0,0] m;simp only[↓aC,nC,gX,aa];intro g3 u m;apply aW 15 [4,1,0] m;simp only[↓aC];refine⟨by omega,?_⟩;refine aB (tX rfl rfl) ?_;apply kP 5 [0,0] m;simp only[↓aC,gM,aU,aa];intro g4 u m;refine dA m 13 aD (by kernel_rfl) ?_;simp only[zy];refine eT 4 [0] ?_;simp only[↓aC,aU,am];refine⟨by omega,?_⟩;refine aI (cL (m:=1) (n:=3) (r:=1) rfl rfl (by decide) (by decide)) (eT 5 [1] ?_);simp only[↓aC,dD,aU,Mj,ad,ah,aa,am];refine⟨by omega,?_⟩;refine aI (cL (m:=2) (n:=3) (r:=2) rfl rfl (by decide) (by decide)) (eT 2 [1] ?_);simp only[↓aC,dD,aU,ad,ah,aa];refine⟨by omega,?_⟩;refine bE ?_;intro u m;refine nN (ek:=ed) (en:=pt) (a:=(t.a,t.b)) (v:=t.c) m 3 rfl Mz Eh rfl rfl rfl hD8 ?_;intro es8 c8 u m hD8;simp only[zF,zG] at m;rw[←Na] at hD8;refine aN (gc ?_);refine iO m 2 [] [40,41,42,43,44,45] (fun vs i=>∃(es:Array de) (c:Nat),vs=[]∧i=mI q9 es c∧(bJ pt sH (xH [] (((cA (ts.take k))++[t.a]))) es c)) ?_ ?_
   ·
    intro K2 hK2;refine Wh m [true,true,false,true] (.take 0 (.take 1 (.two 2 (.take 3 (.one 4 (.take 5 (.one 6 .nil)))) 4 (.take 5 (.one 2 (.take 3 (.one 6 .nil))))))) aD (by kernel_rfl) (bT (fun _ _ _ _ _ h=>h)) ?_;intro u m;have hb:=Qh (cA (ts.take k)) t.a;try simp only[a_,ay,cd] at hb
    refine eM (by simp only[zw];rfl) (aS aG (bV (eM (by simp only[zw];rfl) ?_)));simp only[zz];refine dF rfl (fun u m=>((m.b 0 rfl).full aH aA)) ?_;simp only[zz];refine bV ?_;refine abm (by simp only[zw];rfl) (by simp only[zw];rfl) ?_ ?_
    ·
     refine gK (eE (ek:=pt) (en:=sH) (k:=t.a) (v0:=0) pA lX gU rfl rfl (m.p 2 rfl) hD9) ?_;simp only[zz];refine aN ⟨m.sel [true,true,false,true],?_⟩;refine eM (by simp only[zw];rfl) (aS (eS rfl rfl (bG (by omega) (by omega))) (bV (nS (by simp only[zw];rfl) ?_)));simp only[zz];refine Bc (ek:=pt) (en:=sH) (a:=t.a) (v0:=0) m 2 rfl pA lX gU rfl rfl hD9 ?_;intro es9 c9 bs u m hD' hS;simp only[zF,zG] at m;refine aN ⟨m.sel [true,true,false,true],?_⟩;refine eM (by simp only[zw];rfl) (aS (fB rfl rfl) (bV (nS (by simp only[zw];rfl) ?_)));simp only[zz];refine qJ (ek:=pt) (en:=sH) (a:=t.a) (v:=(cD (xH [] (cA (ts.take k))) t.a).getD 0+1) m 2 rfl rfl rfl rfl hS ?_;intro es9 u m hD9;simp only[zF,zG] at m;rw[←uP] at hD9;refine aN ⟨m.sel [true,true,false,true],?_⟩;refine Gi (gk ?_);exact hK2 _ _ _ (by kernel_rfl) m ⟨_,_,rfl,rfl,hD9⟩
    ·
     refine Bc (ek:=pt) (en:=sH) (a:=t.a) (v0:=0) m 2 rfl pA lX gU rfl rfl hD9 ?_;intro es9 c9 bs u m hD' hS;simp only[zF,zG] at m;refine aN ⟨m.sel [true,true,false,true],?_⟩;refine eM (by simp only[zw];rfl) (aS (fB rfl rfl) (bV (nS (by simp only[zw];rfl) ?_)));simp only[zz];refine gK (eE (ek:=pt) (en:=sH) (k:=t.a) (v0:=0) pA lX gU rfl rfl (m.p 2 rfl) hD') ?_;simp only[zz];rw[kN,if_pos rfl,dx];refine aN ⟨m.sel [true,true,false,true],?_⟩;refine eM (by simp only[zw];rfl) (aS (eS rfl rfl (bG (by omega) (by omega))) (bV (nS (by simp only[zw];rfl) ?_)));simp only[zz];refine qJ (ek:=pt) (en:=sH) (a:=t.a) (v:=(cD (xH [] (cA (ts.take k))) t.a).getD 0+1) m 2 rfl rfl rfl rfl hS ?_;intro es9 u m hD9;simp only[zF,zG] at m;rw[←uP] at hD9;refine aN ⟨m.sel [true,true,false,true],?_⟩;refine Gi (gk ?_);exact hK2 _ _ _ (by kernel_rfl) m ⟨_,_,rfl,rfl,hD9⟩
   ·
    intro vs i wr m hI u;obtain⟨es9,c9,rfl,rfl,hD9⟩:=hI;simp only[zF,zG] at m;simp only[zu,zF,zG];apply aW 18 [1,0] m;simp only[↓aC,am];refine⟨by omega,?_⟩;refine aB (tY rfl rfl) ?_;apply kP 5 [0,0] m;simp only[↓aC,gM,aU,aa];intro g5 u m;refine dA m 13 aD (by kernel_rfl) ?_;simp only[zy];refine eT 4 [0] ?_;simp only[↓aC,aU,am];refine⟨by omega,?_⟩;refine aI (cL (m:=2) (n:=3) (r:=2) rfl rfl (by decide) (by decide)) (eT 5 [2] ?_);simp only[↓aC,dD,aU,Mj,ad,ah,aa,am];refine⟨by omega,?_⟩;refine aI (cL (m:=3) (n:=3) (r:=0) rfl rfl (by decide) (by decide)) (eT 2 [2] ?_);simp only[↓aC,dD,aU,ad,ah,aa];refine⟨by omega,?_⟩;refine bE ?_;intro u m;refine nN (ek:=ed) (en:=pt) (a:=(t.b,t.c)) (v:=t.a) m 4 rfl Mz Eh rfl rfl rfl hD8 ?_;intro es8 c8 u m hD8;simp only[zF,zG] at m;rw[←Na] at hD8;refine aN (gc ?_);refine iO m 3 [] [40,41,42,43,44,45] (fun vs i=>∃(es:Array de) (c:Nat),vs=[]∧i=mI q9 es c∧(bJ pt sH (xH [] (((((cA (ts.take k))++[t.a]))++[t.b]))) es c)) ?_ ?_
    ·
     intro K3 hK3;refine Wh m [true,true,true,false,true] (.take 0 (.take 1 (.two 2 (.take 3 (.one 4 (.take 5 (.one 6 .nil)))) 4 (.take 5 (.one 2 (.take 3 (.one 6 .nil))))))) aD (by kernel_rfl) (bT (fun _ _ _ _ _ h=>h)) ?_;intro u m;have hb:=Qh (((cA (ts.take k))++[t.a])) t.b;try simp only[a_,ay,cd] at hb
     refine eM (by simp only[zw];rfl) (aS aG (bV (eM (by simp only[zw];rfl) ?_)));simp only[zz];refine dF rfl (fun u m=>((m.b 0 rfl).full aH aA)) ?_;simp only[zz];refine bV ?_;refine abm (by simp only[zw];rfl) (by simp only[zw];rfl) ?_ ?_
     ·
      refine gK (eE (ek:=pt) (en:=sH) (k:=t.b) (v0:=0) pA lX gU rfl rfl (m.p 3 rfl) hD9) ?_;simp only[zz];refine aN ⟨m.sel [true,true,true,false,true],?_⟩;refine eM (by simp only[zw];rfl) (aS (eS rfl rfl (bG (by omega) (by omega))) (bV (nS (by simp only[zw];rfl) ?_)));simp only[zz];refine Bc (ek:=pt) (en:=sH) (a:=t.b) (v0:=0) m 3 rfl pA lX gU rfl rfl hD9 ?_;intro es9 c9 bs u m hD' hS;simp only[zF,zG] at m;refine aN ⟨m.sel [true,true,true,false,true],?_⟩;refine eM (by simp only[zw];rfl) (aS (fB rfl rfl) (bV (nS (by simp only[zw];rfl) ?_)));simp only[zz];refine qJ (ek:=pt) (en:=sH) (a:=t.b) (v:=(cD (xH [] (((cA (ts.take k))++[t.a]))) t.b).getD 0+1) m 3 rfl rfl rfl rfl hS ?_;intro es9 u m hD9;simp only[zF,zG] at m;rw[←uP] at hD9;refine aN ⟨m.sel [true,true,true,false,true],?_⟩;refine Gi (gk ?_);exact hK3 _ _ _ (by kernel_rfl) m ⟨_,_,rfl,rfl,hD9⟩
     ·
      refine Bc (ek:=pt) (en:=sH) (a:=t.b) (v0:=0) m 3 rfl pA lX gU rfl rfl hD9 ?_;intro es9 c9 bs u m hD' hS;simp only[zF,zG] at m;refine aN ⟨m.sel [true,true,true,false,true],?_⟩;refine eM (by simp only[zw];rfl) (aS (fB rfl rfl) (bV (nS (by simp only[zw];rfl) ?_)));simp only[zz];refine gK (eE (ek:=pt) (en:=sH) (k:=t.b) (v0:=0) pA lX gU rfl rfl (m.p 3 rfl) hD') ?_;simp only[zz];rw[kN,if_pos rfl,dx];refine aN ⟨m.sel [true,true,true,false,true],?_⟩;refine eM (by simp only[zw];rfl) (aS (eS rfl rfl (bG (by omega) (by omega))) (bV (nS (by simp only[zw];rfl) ?_)));simp only[zz];refine qJ (ek:=pt) (en:=sH) (a:=t.b) (v:=(cD (xH [] (((cA (ts.take k))++[t.a]))) t.b).getD 0+1) m 3 rfl rfl rfl rfl hS ?_;intro es9 u m hD9;simp only[zF,zG] at m;rw[←uP] at hD9;refine aN ⟨m.sel [true,true,true,false,true],?_⟩;refine Gi (gk ?_);exact hK3 _ _ _ (by kernel_rfl) m ⟨_,_,rfl,rfl,hD9⟩
    ·
     intro vs i wr m hI u;obtain⟨es9,c9,rfl,rfl,hD9⟩:=hI;simp only[zF,zG] at m;simp only[zu,zF,zG];apply aW 18 [1,0] m;simp only[↓aC,am];refine⟨by omega,?_⟩;refine aB (tZ rfl rfl) ?_;apply kP 5 [0,0] m;simp only[↓aC,gM,aU,aa];intro g6 u m;refine dA m 13 aD (by kernel_rfl) ?_;simp only[zy];refine eT 4 [0] ?_;simp only[↓aC,aU,am];refine⟨by omega,?_⟩;refine aI (cL (m:=3) (n:=3) (r:=0) rfl rfl (by decide) (by decide)) (eT 5 [3] ?_);simp only[↓aC,dD,aU,Mj,ad,ah,aa,am];refine⟨by omega,?_⟩;refine aI (cL (m:=4) (n:=3) (r:=1) rfl rfl (by decide) (by decide)) (eT 2 [3] ?_);simp only[↓aC,dD,aU,ad,ah,aa];refine⟨by omega,?_⟩;refine bE ?_;intro u m;refine nN (ek:=ed) (en:=pt) (a:=(t.c,t.a)) (v:=t.b) m 5 rfl Mz Eh rfl rfl rfl hD8 ?_;intro es8 c8 u m hD8;simp only[zF,zG] at m;rw[←Na] at hD8;refine aN (gc ?_);refine iO m 4 [] [40,41,42,43,44,45] (fun vs i=>∃(es:Array de) (c:Nat),vs=[]∧i=mI q9 es c∧(bJ pt sH (xH [] (((((((cA (ts.take k))++[t.a]))++[t.b]))++[t.c]))) es c)) ?_ ?_
     ·
      intro K4 hK4;refine Wh m [true,true,true,true,false,true] (.take 0 (.take 1 (.two 2 (.take 3 (.one 4 (.take 5 (.one 6 .nil)))) 4 (.take 5 (.one 2 (.take 3 (.one 6 .nil))))))) aD (by kernel_rfl) (bT (fun _ _ _ _ _ h=>h)) ?_;intro u m;have hb:=Qh (((((cA (ts.take k))++[t.a]))++[t.b])) t.c;try simp only[a_,ay,cd] at hb
      refine eM (by simp only[zw];rfl) (aS aG (bV (eM (by simp only[zw];rfl) ?_)));simp only[zz];refine dF rfl (fun u m=>((m.b 0 rfl).full aH aA)) ?_;simp only[zz];refine bV ?_;refine abm (by simp only[zw];rfl) (by simp only[zw];rfl) ?_ ?_
      ·
       refine gK (eE (ek:=pt) (en:=sH) (k:=t.c) (v0:=0) pA lX gU rfl rfl (m.p 4 rfl) hD9) ?_;simp only[zz];refine aN ⟨m.sel [true,true,true,true,false,true],?_⟩;refine eM (by simp only[zw];rfl) (aS (eS rfl rfl (bG (by omega) (by omega))) (bV (nS (by simp only[zw];rfl) ?_)));simp only[zz];refine Bc (ek:=pt) (en:=sH) (a:=t.c) (v0:=0) m 4 rfl pA lX gU rfl rfl hD9 ?_;intro es9 c9 bs u m hD' hS;simp only[zF,zG] at m;refine aN ⟨m.sel [true,true,true,true,false,true],?_⟩;refine eM (by simp only[zw];rfl) (aS (fB rfl rfl) (bV (nS (by simp only[zw];rfl) ?_)));simp only[zz];refine qJ (ek:=pt) (en:=sH) (a:=t.c) (v:=(cD (xH [] (((((cA (ts.take k))++[t.a]))++[t.b]))) t.c).getD 0+1) m 4 rfl rfl rfl rfl hS ?_;intro es9 u m hD9;simp only[zF,zG] at m;rw[←uP] at hD9;refine aN ⟨m.sel [true,true,true,true,false,true],?_⟩;refine Gi (gk ?_);exact hK4 _ _ _ (by kernel_rfl) m ⟨_,_,rfl,rfl,hD9⟩
      ·
       refine Bc (ek:=pt) (en:=sH) (a:=t.c) (v0:=0) m 4 rfl pA lX gU rfl rfl hD9 ?_;intro es9 c9 bs u m hD' hS;simp only[zF,zG] at m;refine aN ⟨m.sel [true,true,true,true,false,true],?_⟩;refine eM (by simp only[zw];rfl) (aS (fB rfl rfl) (bV (nS (by simp only[zw];rfl) ?_)));simp only[zz];refine gK (eE (ek:=pt) (en:=sH) (k:=t.c) (v0:=0) pA lX gU rfl rfl (m.p 4 rfl) hD') ?_;simp only[zz];rw[kN,if_pos rfl,dx];refine aN ⟨m.sel [true,true,true,true,false,true],?_⟩;refine eM (by simp only[zw];rfl) (aS (eS rfl rfl (bG (by omega) (by omega))) (bV (nS (by simp only[zw];rfl) ?_)));simp only[zz];refine qJ (ek:=pt) (en:=sH) (a:=t.c) (v:=(cD (xH [] (((((cA (ts.take k))++[t.a]))++[t.b]))) t.c).getD 0+1) m 4 rfl rfl rfl rfl hS ?_;intro es9 u m hD9;simp only[zF,zG] at m;rw[←uP] at hD9;refine aN ⟨m.sel [true,true,true,true,false,true],?_⟩;refine Gi (gk ?_);exact hK4 _ _ _ (by kernel_rfl) m ⟨_,_,rfl,rfl,hD9⟩
     ·
      intro vs i wr m hI u;obtain⟨es9,c9,rfl,rfl,hD9⟩:=hI;simp only[zF,zG] at m;simp only[zu,zF,zG];apply aW 18 [2,0] m;simp only[↓aC,am];refine⟨by omega,?_⟩;exact hK1 (N-(k+1)) _ _ (by omega) (by kernel_rfl) ⟨k+1,_,_,_,_,rfl,(m.sel [false,false,false,false,true,true]),by rw[adw ht];simpa[da] using hD8,by rw[Sd ht];simpa[da] using hD9,by omega,rfl⟩
  ·
   have hkN:k=N:=by omega
   rw[hkN,show ts.take N=ts from bi (by rw[hT.len];exact ao _)] at hD8 hD9;apply aK 5 [0] m;simp only[↓aC];refine xG m Mz rfl (m.p 1 rfl) ?_;intro r1 u m;apply aL 2 [0] m;simp only[↓aC];refine bX [] [2,9,10,11,12,13,50,51,52,53,54,55,56,57,58,59,60,61,62,63,64,65,66,67,68,69,70,71,72,73,74,75,76,77,78,79,80,81,82,83,84,85,86,87,88,89,90,91,92,93,94] (fun n vs wl=>∃(dn rs:List (E3 × P3)) (sn:Array Nat),vs=[]∧Mem w wl [iI r1 q8 c8 sn,mI q9 es9 c9,mI q8 es8 c8]∧(oJ ed pt (Fv [] (kS ts)) es8 sn dn rs)∧(∀y∈dn,¬aae ts y.1)∧(n=rs.length)) ?_ ?_
   ·
    exact⟨_,[],_,#[],rfl,m,oJ.start hD8,fun _ h=>(by cases h),rfl⟩
   ·
    intro n vs wr hI u K5 hK5;obtain⟨dn,rs,sn,rfl,m,hT1,hno,hn⟩:=hI;simp only[zu,zF,zG];apply aK 2 [0] m;simp only[↓aC];refine Oa m 0 rfl rfl (m.p 2 rfl) hD8 hT1 ?_;intro bb kk vv sn u m hN;simp only[zF,zG] at m;refine aB (pZ rfl) ?_;apply aL 2 [0] m;simp only[↓aC];refine eG rfl ?_ ?_<;>intro hc3
    ·
     obtain⟨kp,kb,rs2,hp,hT2⟩:=Jf hc3 hN;obtain⟨x,hx⟩:∃x,cD (Fv [] (kS ts)) kp=some x:=by
      cases h:cD (Fv [] (kS ts)) kp with
      | some x=>exact⟨x,rfl⟩
      | none =>
       refine absurd ?_ (kO.1 h);have h1:=hT2.1.mem_iff (a:=(kp,kb));exact List.mem_map.2 ⟨_,h1.1 (by simp),rfl⟩
     have hkx:bR ts kp.1 kp.2=some x:=by rw[←Ji hnd];exact hx
     obtain⟨M,hM⟩:∃M,M=wB (cA ts) kp.1:=⟨_,rfl⟩
     have hmM:(cD (xH [] (cA ts)) kp.1).getD 0=M:=by rw[acd,hM]
     have hMl:M≤30000000:=by have h1:=Qh (cA ts) kp.1;rw[hmM,Yc,hT.len] at h1;omega
     apply aK 4 [0] m;simp only[↓aC];refine gK (uA rfl (m.r 0 rfl) (m.p 2 rfl) hD8 hT2) ?_;simp only[zz];apply kP 12 [0,0,0] m;simp only[↓aC,Dy,vP,aa];intro g4 u m;refine gK (eE (ek:=ed) (en:=pt) (k:=kp) (v0:=⟨0,0,0⟩) Mz iQ Eh rfl rfl (m.p 3 rfl) hD8) ?_;simp only[zz];apply kP 3 [0] m;simp only[↓aC,gM,aU,aa];intro g5 u m;rw[hx] at m;simp only[dx] at m;apply aW 2 [0] m;simp only[↓aC];refine bX [10] [12,13,57,58,59,60,61,62,63,64,65,66,67,68,69,70,71,72,73,74,75,76,77,78,79,80,81,82] (fun n vs wl=>∃(z:Nat) (a:P3),vs=[.int .i64 (z:Int)]∧Mem w wl [bI g5 (qS a) 30,bI g4 (bO kp) 215,iI r1 q8 c8 sn,mI q9 es9 c9,mI q8 es8 c8]∧(Dl (bR ts kp.1) kp.2 M x 1=Dl (bR ts kp.1) kp.2 (M+1-z) a z)∧(1≤z)∧(z≤M+1)∧(n=M+1-z)) ?_ ?_
     ·
      exact⟨_,1,x,rfl,m,rfl,ao _,by omega,rfl⟩
     ·
      intro n vs wr hI u K6 hK6;obtain⟨z,a,rfl,m,hrun,hz1,hz2,hn4⟩:=hI;simp only[zu,zF,zG];apply aK 6 [0,1,0] m;simp only[↓aC,aU,Dz,aa];refine aB (iN rfl rfl) ?_;apply aL 1 [0] m;simp only[↓aC];refine kZ rfl (fun hb=>aG) (kZ rfl (fun hb=>aG) (kZ rfl (fun hb=>bH (c:=2) vB rfl aA rfl rfl) ?_));simp only[zz];refine jM rfl (fun hb=>aZ (bB hb rfl) ((m.b 1 rfl).lies aH aA rfl rfl)) ?_;simp only[zz,zy,ar,aa,ah,ad];refine jM rfl (fun hb=>eE (ek:=pt) (en:=sH) (k:=kp.1) (v0:=0) pA lX gU (bB hb rfl) (bB hb rfl) (m.p 3 rfl) hD9) ?_;simp only[zz];refine kZ rfl (fun hb=>aa6 (bB hb rfl) (bB hb rfl)) (aB (fC rfl rfl rfl) ?_);apply aL 1 [0] m;simp only[↓aC];refine eG rfl ?_ ?_<;>intro hc4
      ·
       have hs:¬a=kp.2∧z≤M:=by rw[hmM] at hc4;simpa[aqw] using hc4
       apply aK 9 [1,0,0] m;simp only[↓aC,Sy,aU,Mj,aa];refine gK (Wv (ek:=ed) (en:=pt) (k:=(kp.1,a)) (v0:=⟨0,0,0⟩) Mz iQ Eh rfl rfl (m.p 4 rfl) hD8) ?_;simp only[zz];apply kP 13 [0,0] m;simp only[↓aC,gM,aU,aa];intro g6 u m;refine eG rfl ?_ ?_<;>intro hc5
       ·
        have hyn:bR ts kp.1 a=none:=by rw[←Ji hnd];simpa using hc5
        have hfin:=hrun.trans (anl hyn);apply aK 6 [1,2,0] m;simp only[↓aC,aU,Dz,aa];refine aB (bZ rfl rfl) ?_;apply aL 1 [0] m;simp only[↓aC];refine kZ rfl (fun hb=>aG) (kZ rfl (fun hb=>aG) (kZ rfl (fun hb=>bH (c:=2) vB rfl aA rfl rfl) ?_));simp only[zz];refine jM rfl (fun hb=>aZ (bB hb rfl) ((m.b 2 rfl).lies aH aA rfl rfl)) ?_;simp only[zz,zy,ar,aa,ah,ad];refine jM rfl (fun hb=>eE (ek:=pt) (en:=sH) (k:=kp.1) (v0:=0) pA lX gU (bB hb rfl) (bB hb rfl) (m.p 4 rfl) hD9) ?_;simp only[zz];refine kZ rfl (fun hb=>Ge (bB hb rfl) (bB hb rfl)) (aB (fC rfl rfl rfl) ?_);apply aL 1 [0] m;simp only[↓aC];refine eG rfl ?_ ?_<;>intro hc6
        ·
         have hs:a=kp.2∧z<M:=by rw[hmM] at hc6;simpa[←Ab] using hc6
         apply aK 5 [] m;simp only[↓aC];refine aT rfl rfl ?_;try simp only[zD,zE]
         exact⟨_,rfl,m.ext,by have hp:aae ts kp:=⟨x,hkx,by rw[ii,←hM,hfin];exact hs.1,by rw[ii,←hM,hfin];exact hs.2⟩;rw[pinned.2 ⟨kp,hp⟩]⟩
        ·
         have hs:¬(a=kp.2∧z<M):=by rw[hmM] at hc6;simpa[←Ab] using hc6
         have hno2:∀y∈dn++[(kp,kb)],¬aae ts y.1:=fun y hy=>by
          rcases br.1 hy with hy | hy
          · exact hno y hy
          ·
           obtain rfl:=az.1 hy;rintro⟨x2,h1,h2,h3⟩;obtain rfl:x=x2:=ep (hkx.symm.trans h1);rw[ii,←hM,hfin] at h2 h3;exact hs ⟨h2,h3⟩
         apply aK 2 [0] m;simp only[↓aC];exact hK5 rs2.length _ _ (by rw[hn,hp.length_eq];exact fg _) (by kernel_rfl) ⟨dn++[(kp,kb)],rs2,_,rfl,(m.sel [false,false,false,true,true,true]),hT2,hno2,rfl⟩
       ·
        obtain⟨y,hy⟩:∃y,cD (Fv [] (kS ts)) (kp.1,a)=some y:=by
         cases h:cD (Fv [] (kS ts)) (kp.1,a) with
         | some y=>exact⟨y,rfl⟩
         | none=>rw[h] at hc5;cases hc5
        have hya:bR ts kp.1 a=some y:=by rw[←Ji hnd];exact hy
        rw[hy] at m;simp only[dx] at m;apply zvc 12 [0,1,0] m;simp only[↓aC,aU,aa];refine⟨by omega,?_⟩;intro u m;exact hK6 (M+1-(z+1)) _ _ (by omega) (by kernel_rfl) ⟨z+1,y,rfl,(m.sel [false,true,true,true,true,true]),by rw[hrun,show M+1-z=(M+1-(z+1))+1 by omega,aqu hs.1 hya],by omega,by omega,rfl⟩
      ·
       have hs0:a=kp.2∨¬z≤M:=by rw[hmM] at hc4;exact aj3 hc4
       have hfin:=hrun.trans (aqv hz2 hs0);apply aK 6 [0,1,0] m;simp only[↓aC,aU,Dz,aa];refine aB (bZ rfl rfl) ?_;apply aL 1 [0] m;simp only[↓aC];refine kZ rfl (fun hb=>aG) (kZ rfl (fun hb=>aG) (kZ rfl (fun hb=>bH (c:=2) vB rfl aA rfl rfl) ?_));simp only[zz];refine jM rfl (fun hb=>aZ (bB hb rfl) ((m.b 1 rfl).lies aH aA rfl rfl)) ?_;simp only[zz,zy,ar,aa,ah,ad];refine jM rfl (fun hb=>eE (ek:=pt) (en:=sH) (k:=kp.1) (v0:=0) pA lX gU (bB hb rfl) (bB hb rfl) (m.p 3 rfl) hD9) ?_;simp only[zz];refine kZ rfl (fun hb=>Ge (bB hb rfl) (bB hb rfl)) (aB (fC rfl rfl rfl) ?_);apply aL 1 [0] m;simp only[↓aC];refine eG rfl ?_ ?_<;>intro hc6
       ·
        have hs:a=kp.2∧z<M:=by rw[hmM] at hc6;simpa[←Ab] using hc6
        apply aK 5 [] m;simp only[↓aC];refine aT rfl rfl ?_;try simp only[zD,zE]
        exact⟨_,rfl,m.ext,by have hp:aae ts kp:=⟨x,hkx,by rw[ii,←hM,hfin];exact hs.1,by rw[ii,←hM,hfin];exact hs.2⟩;rw[pinned.2 ⟨kp,hp⟩]⟩
       ·
        have hs:¬(a=kp.2∧z<M):=by rw[hmM] at hc6;simpa[←Ab] using hc6
        have hno2:∀y∈dn++[(kp,kb)],¬aae ts y.1:=fun y hy=>by
         rcases br.1 hy with hy | hy
         · exact hno y hy
         ·
          obtain rfl:=az.1 hy;rintro⟨x2,h1,h2,h3⟩;obtain rfl:x=x2:=ep (hkx.symm.trans h1);rw[ii,←hM,hfin] at h2 h3;exact hs ⟨h2,h3⟩
        apply aK 2 [0] m;simp only[↓aC];exact hK5 rs2.length _ _ (by rw[hn,hp.length_eq];exact fg _) (by kernel_rfl) ⟨dn++[(kp,kb)],rs2,_,rfl,(m.sel [false,false,true,true,true]),hT2,hno2,rfl⟩
    ·
     obtain rfl:=Je hc3 hN;apply aK 6 [] m;simp only[↓aC];refine aT rfl rfl ?_;try simp only[zD,zE]
     exact⟨_,rfl,m.ext,by cases h:(bM ts).any (Dd ts) with | false=>rfl | true=>(obtain⟨e,he⟩:=pinned.1 h;exact absurd he (aj4 hT1 hnd hno e))⟩
theorem anm(h:¬(aQ ts).Nodup):(aQ ts).any (fun e=>decide (1<iC (aQ ts) e))=true:=by rw[Jh];exact decide_eq_true h
theorem aj5(h:(aQ ts).Nodup):(aQ ts).any (fun e=>decide (1<iC (aQ ts) e))=false:=by rw[Jh];exact decide_eq_false fun k=>k h
theorem aj6{A:Option Addr}(w:aj)(hT:bQ w A N ts)(hN:N≤10000000):dK prog 97 [.slice A N cap,.bool true] w (fun v _=>v=.int .i64 (dC true ts)):=by
 refine⟨bP func97 (by kernel_rfl),?_⟩;have m:=Mem.refl w
 go_enter func97,ntmps97
 apply fG 12 [0] m;simp only[↓aC,eV];refine bX [11] [4,6,12,13,14,15,16,17,18,19,20,21,22,23,24,25,26,27,28,29,30,31,32,33,34] (fun n vs wl=>∃(k:Nat),vs=[.int .i64 (k:Int)]∧Mem w wl []∧((ts.take k).any oG=false)∧(k≤N)∧(n=N-k)) ?_ ?_
 ·
  exact⟨_,0,rfl,m,rfl,cq _,rfl⟩
 ·
  intro n vs wr hI u K1 hK1;obtain⟨k,rfl,m,hd0,hk,hn⟩:=hI;simp only[zu,zF,zG];apply aK 5 [0,0] m;simp only[↓aC];refine bA rfl ?_ ?_<;>intro hc1
  ·
   obtain⟨t,ht,_,a,rfl,hrow⟩:=hT.get (i:=k) (by omega);apply aK 5 [0] m;simp only[↓aC];refine aB (aF bL aO rfl rfl (by omega) (by omega) (cH (ag _))) ?_;simp only[zz];refine aR rfl ((hrow.ext m.ext).lies cK aO) ?_;simp only[zz];apply kP 9 [0,0,0,0] m;simp only[↓aC,nC,gX,dD,aU,aa,ad,ah];intro g1;refine⟨by omega,?_⟩;intro u m;refine aB (bZ rfl rfl) ?_;apply aL 1 [0] m;simp only[↓aC];refine dG rfl (fun hb=>aJ cT aA rfl rfl (by decide) (by decide) rfl) ?_;simp only[zz];refine eY rfl (fun hb=>aZ (bB hb rfl) ((m.b 0 rfl).lies aH aA rfl rfl)) ?_;simp only[zz,zy,ar,aa,ah,ad];refine dG rfl (fun hb=>aJ cT aA rfl rfl (by decide) (by decide) rfl) ?_;simp only[zz];refine eY rfl (fun hb=>aZ (bB hb rfl) ((m.b 0 rfl).lies aH aA rfl rfl)) ?_;simp only[zz,zy,ar,aa,ah,ad];refine dG rfl (fun hb=>bZ (bB hb rfl) (bB hb rfl)) (aB (eD rfl rfl rfl) ?_);apply aL 1 [0] m;simp only[↓aC];refine dG rfl (fun hb=>aJ cT aA rfl rfl (by decide) (by decide) rfl) ?_;simp only[zz];refine eY rfl (fun hb=>aZ (bB hb rfl) ((m.b 0 rfl).lies aH aA rfl rfl)) ?_;simp only[zz,zy,ar,aa,ah,ad];refine dG rfl (fun hb=>aJ cT aA rfl rfl (by decide) (by decide) rfl) ?_;simp only[zz];refine eY rfl (fun hb=>aZ (bB hb rfl) ((m.b 0 rfl).lies aH aA rfl rfl)) ?_;simp only[zz,zy,ar,aa,ah,ad];refine dG rfl (fun hb=>bZ (bB hb rfl) (bB hb rfl)) (aB (eD rfl rfl rfl) ?_);apply aL 1 [0] m;simp only[↓aC];refine iK rfl ?_ ?_<;>intro hc2
   ·
    have hd:=wJ (p:=oG) ht (Lp.symm.trans hc2);apply aK 5 [] m;simp only[↓aC];refine aT rfl rfl ?_;try simp only[zD,zE]
    exact⟨_,rfl,m.ext,by rw[aaF hd]⟩
   ·
    have hd1:(ts.take (k+1)).any oG=false:=by rw[pX ht,hd0,←Lp];exact hc2
    apply aK 6 [0] m;simp only[↓aC];refine⟨by omega,?_⟩;exact hK1 (N-(k+1)) _ _ (by omega) (by kernel_rfl) ⟨k+1,rfl,(m.sel [false]),hd1,by omega,rfl⟩
  ·
   have hkN:k=N:=by omega
   rw[hkN,show ts.take N=ts from bi (by rw[hT.len];exact ao _)] at hd0;apply aK 4 [0] m;simp only[↓aC];refine bC rfl rfl (Tv _ (hT.ext m.ext) hN) ?_;rintro v u e_ ⟨g8,es8,c8,rfl,hM,hD8⟩;replace m:=m.plus hM;clear hM;simp only[cg,bt] at m;apply aL 14 [0] m;simp only[↓aC];refine eG rfl ?_ ?_<;>intro hc3
   ·
    have hnd:¬(aQ ts).Nodup:=by simpa using hc3
    apply aK 5 [] m;simp only[↓aC];refine aT rfl rfl ?_;try simp only[zD,zE]
    exact⟨_,rfl,m.ext,by rw[aaG hd0 (anm hnd)]⟩
   ·
    have hnd:(aQ ts).Nodup:=by simpa using hc3
    apply aK 16 [0] m;simp only[↓aC,ff,fh];refine cM m rfl rfl (ad8 _ (hT.ext m.ext) hN hnd) ?_;rintro v u m rfl;apply aL 2 [0] m;simp only[↓aC];refine eG rfl ?_ ?_<;>intro hc5
    ·
     apply aK 5 [] m;simp only[↓aC];refine aT rfl rfl ?_;try simp only[zD,zE]
     exact⟨_,rfl,m.ext,by rw[aaH hd0 (aj5 hnd) rfl hc5]⟩
    ·
     apply aK 7 [] m;simp only[↓aC];refine aT rfl rfl ?_;try simp only[zD,zE]
     exact⟨_,rfl,m.ext,by rw[ad5 hd0 (aj5 hnd) rfl hc5]⟩
theorem Be{A:Option Addr}(w:aj)(hT:bQ w A N ts)(hN:N≤10000000):dK prog 49 [.slice A N cap] w (fun v _=>v=.int .i64 (dC true ts)):=by
 refine⟨bP func49 (by kernel_rfl),?_⟩;have m:=Mem.refl w
 go_enter func49,ntmps49
 apply fG 7 [0] m;simp only[↓aC];refine cM m rfl rfl (aj6 _ (hT.ext m.ext) hN) ?_;rintro v u m rfl;apply aL 3 [] m;simp only[↓aC];exact aT rfl rfl ⟨_,rfl,m.ext,rfl⟩
theorem aqx(h1:t.b.Lt t.a)(h2:t.c.Lt t.b):dR t=⟨t.c,t.a,t.b⟩:=if_pos ⟨P3.lt_trans h2 h1,.inl h2⟩
theorem aqy(h1:t.b.Lt t.a)(h2:¬t.c.Lt t.b):dR t=⟨t.b,t.c,t.a⟩:=by rw[dR,if_neg (fun h=>h.2.elim h2 fun k=>k h1),if_pos h1]
theorem aqz(h1:¬t.b.Lt t.a)(h2:t.c.Lt t.a):dR t=⟨t.c,t.a,t.b⟩:=if_pos ⟨h2,.inr h1⟩
theorem aqA(h1:¬t.b.Lt t.a)(h2:¬t.c.Lt t.a):dR t=t:=by rw[dR,if_neg (fun h=>h2 h.1),if_neg h1]
theorem ag0  : fF prog 111 [tr t] (tr (dR t)):=by
 intro w;refine⟨bP func111 (by kernel_rfl),?_⟩;have m:=Mem.refl w
 go_enter func111,ntmps111
 apply mR 28 [3,1,0] m;simp only[↓aC,nC];intro g1 g2;refine⟨by omega,?_⟩;intro u m;refine mq m aD (by kernel_rfl) (eT 6 [1,1] ?_);simp only[↓aC,dD,aU,ad,ah,aa];refine⟨by omega,?_⟩;refine jJ rfl rfl uG.pure (bE ?_);intro u m;refine gc ?_;simp only[zz];refine bA rfl ?_ ?_<;>intro hc2
 ·
  have h1:=hc2;apply aK 22 [1,0] m;simp only[↓aC,am];refine⟨by omega,?_⟩;refine mq m aD (by kernel_rfl) (eT 6 [1,1] ?_);simp only[↓aC,dD,aU,ad,ah,aa];refine⟨by omega,?_⟩;refine jJ rfl rfl uG.pure (bE ?_);intro u m;refine gc ?_;simp only[zz];refine bA rfl ?_ ?_<;>intro hc2
  ·
   have h2:=hc2;apply aK 20 [2,0] m;simp only[↓aC,am];refine⟨by omega,?_⟩;refine dA m 14 aD (by kernel_rfl) ?_;simp only[zy];refine eT 5 [1] ?_;simp only[↓aC,dD,aU,ad,ah,aa,am];refine⟨by omega,?_⟩;refine aI (cL (m:=3) (n:=3) (r:=0) rfl rfl (by decide) (by decide)) (eT 4 [1] ?_);simp only[↓aC,dD,aU,ad,ah,aa,am];refine⟨by omega,?_⟩;refine aI (cL (m:=4) (n:=3) (r:=1) rfl rfl (by decide) (by decide)) (eT 3 [1] ?_);simp only[↓aC,dD,aU,tJ,ad,ah,aa];refine⟨by omega,?_⟩;refine bE ?_;intro u m;refine cU m 0 rfl rfl rfl aO (kG rfl) rfl ?_;intro u m;simp only[zy,zx,over,zF,zG,aa] at m;refine aN ?_;apply aW 1 [] m;simp only[↓aC];refine aT rfl ⟨_,rfl,((m.b 0 rfl).full cK aO)⟩ ?_;try simp only[zD,zE]
   exact⟨_,rfl,m.ext,by rw[aqx h1 h2];rfl⟩
  ·
   have h2:=hc2;apply aK 17 [2,0] m;simp only[↓aC,am];refine⟨by omega,?_⟩;refine dA m 14 aD (by kernel_rfl) ?_;simp only[zy];refine eT 5 [1] ?_;simp only[↓aC,dD,aU,ad,ah,aa,am];refine⟨by omega,?_⟩;refine aI (cL (m:=2) (n:=3) (r:=2) rfl rfl (by decide) (by decide)) (eT 4 [1] ?_);simp only[↓aC,dD,aU,ad,ah,aa,am];refine⟨by omega,?_⟩;refine aI (cL (m:=3) (n:=3) (r:=0) rfl rfl (by decide) (by decide)) (eT 3 [1] ?_);simp only[↓aC,dD,aU,tJ,ad,ah,aa];refine⟨by omega,?_⟩;refine bE ?_;intro u m;refine cU m 0 rfl rfl rfl aO (kG rfl) rfl ?_;intro u m;simp only[zy,zx,over,zF,zG,aa] at m;refine aN ?_;apply aW 1 [] m;simp only[↓aC];refine aT rfl ⟨_,rfl,((m.b 0 rfl).full cK aO)⟩ ?_;try simp only[zD,zE]
   exact⟨_,rfl,m.ext,by rw[aqy h1 h2];rfl⟩
 ·
  have h1:=hc2;apply aK 19 [1,0] m;simp only[↓aC,am];refine⟨by omega,?_⟩;refine mq m aD (by kernel_rfl) (eT 6 [1,1] ?_);simp only[↓aC,dD,aU,ad,ah,aa];refine⟨by omega,?_⟩;refine jJ rfl rfl uG.pure (bE ?_);intro u m;refine gc ?_;simp only[zz];refine bA rfl ?_ ?_<;>intro hc2
  ·
   have h2:=hc2;apply aK 20 [2,0] m;simp only[↓aC,am];refine⟨by omega,?_⟩;refine dA m 14 aD (by kernel_rfl) ?_;simp only[zy];refine eT 5 [1] ?_;simp only[↓aC,dD,aU,ad,ah,aa,am];refine⟨by omega,?_⟩;refine aI (cL (m:=3) (n:=3) (r:=0) rfl rfl (by decide) (by decide)) (eT 4 [1] ?_);simp only[↓aC,dD,aU,ad,ah,aa,am];refine⟨by omega,?_⟩;refine aI (cL (m:=4) (n:=3) (r:=1) rfl rfl (by decide) (by decide)) (eT 3 [1] ?_);simp only[↓aC,dD,aU,tJ,ad,ah,aa];refine⟨by omega,?_⟩;refine bE ?_;intro u m;refine cU m 0 rfl rfl rfl aO (kG rfl) rfl ?_;intro u m;simp only[zy,zx,over,zF,zG,aa] at m;refine aN ?_;apply aW 1 [] m;simp only[↓aC];refine aT rfl ⟨_,rfl,((m.b 0 rfl).full cK aO)⟩ ?_;try simp only[zD,zE]
   exact⟨_,rfl,m.ext,by rw[aqz h1 h2];rfl⟩
  ·
   have h2:=hc2;apply aK 17 [2,0] m;simp only[↓aC,am];refine⟨by omega,?_⟩;refine dA m 14 aD (by kernel_rfl) ?_;simp only[zy];refine eT 5 [1] ?_;simp only[↓aC,dD,aU,ad,ah,aa,am];refine⟨by omega,?_⟩;refine aI (cL (m:=1) (n:=3) (r:=1) rfl rfl (by decide) (by decide)) (eT 4 [1] ?_);simp only[↓aC,dD,aU,ad,ah,aa,am];refine⟨by omega,?_⟩;refine aI (cL (m:=2) (n:=3) (r:=2) rfl rfl (by decide) (by decide)) (eT 3 [1] ?_);simp only[↓aC,dD,aU,tJ,ad,ah,aa];refine⟨by omega,?_⟩;refine bE ?_;intro u m;refine cU m 0 rfl rfl rfl aO (kG rfl) rfl ?_;intro u m;simp only[zy,zx,over,zF,zG,aa] at m;refine aN ?_;apply aW 1 [] m;simp only[↓aC];refine aT rfl ⟨_,rfl,((m.b 0 rfl).full cK aO)⟩ ?_;try simp only[zD,zE]
   exact⟨_,rfl,m.ext,by rw[aqA h1 h2];rfl⟩
end Go.Proofs.YtfekpcimgncioaaGreatDoor
namespace Go.Proofs.YtfekpcimgncioaaGreatDoor
open Go.Proofs.Tryz
open Go.RowKit Go.Lith
set_option maxRecDepth 100000
attribute [local irreducible] au cu fA bF cG Code.wp
variable{q:P3}
theorem aj7{x y z:Int}{g1:Nat}(w:aj)(hB1:gT w g1 [.int .i64 x,.int .i64 y,.int .i64 z] 3):ajX prog 125 [.slice (some ⟨g1,0,none⟩) 3 3] w (.int .i64 (if x=0 then if y=0 then z else y else x)):=by
 refine⟨aia,?_⟩;have m:=iJ.refl w
 go_enter func125,ntmps125
 refine aX fun K1 k1=>aq (aB aP (aN (k1 _ _ ?_)));try clear k1 K1
 refine aX fun K2 k2=>aq (aB aP (aN (k2 _ _ ?_)));try clear k2 K2
 refine aX fun K3 k3=>aX fun K4 k4=>aq (aB aG (aB (Lh rfl lM rfl) ?_));simp only[zz];refine aB aG (aN (k4 _ _ ?_));try clear k4 K4
 refine jm (pf 4 (Cv (aX fun K5 k5=>aq (aB (qW (m:=0) (n:=3) rfl rfl (by decide)) (aN (k5 _ _ ?_))))));try clear k5 K5
 refine aX fun K6 k6=>Cj rfl (jy (k6 _ _ ?_));try clear k6 K6
 refine aX fun K7 k7=>jm (aX fun K8 k8=>aq ?_);simp only[zz];refine aB (aF lM bD rfl rfl (by decide) (by omega) rfl) ?_;simp only[zz];refine aR rfl ((hB1.ext m.ext.ext).lies1 cC rfl) ?_;simp only[zz];refine aB aP (aN (k8 _ _ ?_));try clear k8 K8
 refine aX fun K9 k9=>aq (aB aG (aB aG (aB (tD rfl rfl) ?_)));simp only[zz];refine aN (k9 _ _ ?_);try clear k9 K9
 refine bA rfl ?_ ?_<;>intro hc2
 ·
  refine aX fun K10 k10=>aq (aB aG (aB aP (aN (k10 _ _ ?_))));try clear k10 K10
  refine je ?_;simp only[zz];try simp only[di,Exit.then,if_true]
  refine aT rfl rfl ?_;try simp only[zD,zE]
  exact⟨_,rfl,m.ext,by rw[if_neg hc2]⟩
 ·
  have hx:x=0:=by omega
  refine jy (k7 _ _ ?_);try clear k7 K7
  refine aq (aB (eS (m:=0) (n:=1) (r:=1) rfl rfl (by decide)) (aB aG (aN (lR (aX fun K11 k11=>aq (aB (qW (m:=1) (n:=3) rfl rfl (by decide)) (aN (k11 _ _ ?_))))))));try clear k11 K11
  refine aX fun K12 k12=>Cj rfl (jy (k12 _ _ ?_));try clear k12 K12
  refine aX fun K13 k13=>jm (aX fun K14 k14=>aq ?_);simp only[zz];refine aB (aF lM bD rfl rfl (by decide) (by omega) rfl) ?_;simp only[zz];refine aR rfl ((hB1.ext m.ext.ext).lies1 cC rfl) ?_;simp only[zz];refine aB aP (aN (k14 _ _ ?_));try clear k14 K14
  refine aX fun K15 k15=>aq (aB aG (aB aG (aB (tD rfl rfl) ?_)));simp only[zz];refine aN (k15 _ _ ?_);try clear k15 K15
  refine bA rfl ?_ ?_<;>intro hc2
  ·
   refine aX fun K16 k16=>aq (aB aG (aB aP (aN (k16 _ _ ?_))));try clear k16 K16
   refine je ?_;simp only[zz];try simp only[di,Exit.then,if_true]
   refine aT rfl rfl ?_;try simp only[zD,zE]
   exact⟨_,rfl,m.ext,by rw[if_pos hx,if_neg hc2]⟩
  ·
   have hy:y=0:=by omega
   refine jy (k13 _ _ ?_);try clear k13 K13
   refine aq (aB (eS (m:=1) (n:=1) (r:=2) rfl rfl (by decide)) (aB aG (aN (lR (aX fun K17 k17=>aq (aB (qW (m:=2) (n:=3) rfl rfl (by decide)) (aN (k17 _ _ ?_))))))));try clear k17 K17
   refine aX fun K18 k18=>Cj rfl (jy (k18 _ _ ?_));try clear k18 K18
   refine aX fun K19 k19=>jm (aX fun K20 k20=>aq ?_);simp only[zz];refine aB (aF lM bD rfl rfl (by decide) (by omega) rfl) ?_;simp only[zz];refine aR rfl ((hB1.ext m.ext.ext).lies1 cC rfl) ?_;simp only[zz];refine aB aP (aN (k20 _ _ ?_));try clear k20 K20
   refine aX fun K21 k21=>aq (aB aG (aB aG (aB (tD rfl rfl) ?_)));simp only[zz];refine aN (k21 _ _ ?_);try clear k21 K21
   refine bA rfl ?_ ?_<;>intro hc2
   ·
    refine aX fun K22 k22=>aq (aB aG (aB aP (aN (k22 _ _ ?_))));try clear k22 K22
    refine je ?_;simp only[zz];try simp only[di,Exit.then,if_true]
    refine aT rfl rfl ?_;try simp only[zD,zE]
    exact⟨_,rfl,m.ext,by rw[if_pos hx,if_pos hy]⟩
   ·
    have hz:z=0:=by omega
    refine jy (k19 _ _ ?_);try clear k19 K19
    refine aq (aB (eS (m:=2) (n:=1) (r:=3) rfl rfl (by decide)) (aB aG (aN (lR (aX fun K23 k23=>aq (aB (Gy (m:=3) (n:=3) rfl rfl (by decide)) (aN (k23 _ _ ?_))))))));try clear k23 K23
    refine aX fun K24 k24=>afR rfl (wp_exit (k3 _ _ ?_));try clear k3 K3
    refine aX fun K25 k25=>aq (aB aG ?_);simp only[zz];refine aB aP (aN (k25 _ _ ?_));try clear k25 K25
    refine je ?_;simp only[zz];try simp only[di,Exit.then,if_true]
    refine aT rfl rfl ?_;try simp only[zD,zE]
    exact⟨_,rfl,m.ext,by rw[if_pos hx,if_pos hy,hz]⟩
def ad9(s t:T3):Int:=if qO s.a t.a=0 then if qO s.b t.b=0 then qO s.c t.c else qO s.b t.b else qO s.a t.a
theorem Kh(s t:T3):(ad9 s t<0)↔s.Lt t:=by
 unfold ad9 T3.Lt;split
 · rename_i h
   have h':=nQ.1 h;have n1:¬s.a.Lt t.a:=fun k=>P3.lt_irrefl _ (h'▸k);split
   · rename_i g
     have g':=nQ.1 g;have n2:¬s.b.Lt t.b:=fun k=>P3.lt_irrefl _ (g'▸k);rw[mF];simp[h',g',P3.lt_irrefl]
   · rename_i g
     have g':¬s.b=t.b:=fun e=>g (nQ.2 e);rw[mF];simp[h',g',P3.lt_irrefl]
 · rename_i h
   have h':¬s.a=t.a:=fun e=>h (nQ.2 e);rw[mF];simp[h']
instance:Inhabited T3:=⟨⟨⟨0,0,0⟩,⟨0,0,0⟩,⟨0,0,0⟩⟩⟩
theorem aj8:Go.Sort.SWO (Go.Proofs.ltOf ad9) where
 irrefl a:=by simp only[Go.Proofs.ltOf,decide_eq_false_iff_not,Kh];exact T3.lt_irrefl a
 trans x y z h1 h2:=by
  simp only[Go.Proofs.ltOf,decide_eq_true_eq,Kh] at *
  exact T3.lt_trans h1 h2
 ntrans x y z h1 h2:=by
  simp only[Go.Proofs.ltOf,decide_eq_false_iff_not,Kh] at *
  intro h;rcases T3.lt_tri y x with k | k | k
  · exact absurd (T3.lt_trans k h) (by first | exact h2 | exact h1)
  · subst k;first | exact h2 h | exact h1 h
  · first | exact h1 k | exact h2 k
theorem aaJ(t:T3):∀v∈aM t,v.oneCell'=true:=fun v h=>by
 simp only[aM,an,cl,or_false] at h;rcases h with rfl | rfl | rfl | rfl | rfl | rfl | rfl | rfl | rfl <;> rfl
theorem ann{p q:T3}:tF prog 113 [tr p,tr q] (.int .i64 (ad9 p q)):=by
 intro w;refine⟨bP func113 (by kernel_rfl),?_⟩;have m:=iJ.refl w
 go_enter func113,ntmps113
 refine aX fun K1 k1=>aq (oV m rfl ?_);intro g1 u m;simp only[zz];refine oV m rfl ?_;intro g2 u m;refine aB aP (aN (k1 _ _ ?_));try clear k1 K1
 refine aX fun K2 k2=>?_;simp only[zz];refine Rl m 15 aD (by kernel_rfl) ?_;simp only[zy];refine aI (aJ cT aA rfl rfl (by decide) (by decide) rfl) ?_;simp only[zz];refine Us rfl (fun u m=>((m.b 1 rfl).lies aH aA rfl rfl)) ?_;simp only[zz,zy,ar,aa,ah,ad];refine aI (aJ cT aA rfl rfl (by decide) (by decide) rfl) ?_;simp only[zz];refine Us rfl (fun u m=>((m.b 0 rfl).lies aH aA rfl rfl)) ?_;simp only[zz,zy,ar,aa,ah,ad];refine Is rfl rfl (Fp (p:=p.a) (q:=q.a)) (aI (aJ cT aA rfl rfl (by decide) (by decide) rfl) ?_);simp only[zz];refine Us rfl (fun u m=>((m.b 1 rfl).lies aH aA rfl rfl)) ?_;simp only[zz,zy,ar,aa,ah,ad];refine aI (aJ cT aA rfl rfl (by decide) (by decide) rfl) ?_;simp only[zz];refine Us rfl (fun u m=>((m.b 0 rfl).lies aH aA rfl rfl)) ?_;simp only[zz,zy,ar,aa,ah,ad];refine Is rfl rfl (Fp (p:=p.b) (q:=q.b)) (aI (aJ cT aA rfl rfl (by decide) (by decide) rfl) ?_);simp only[zz];refine Us rfl (fun u m=>((m.b 1 rfl).lies aH aA rfl rfl)) ?_;simp only[zz,zy,ar,aa,ah,ad];refine aI (aJ cT aA rfl rfl (by decide) (by decide) rfl) ?_;simp only[zz];refine Us rfl (fun u m=>((m.b 0 rfl).lies aH aA rfl rfl)) ?_;simp only[zz,zy,ar,aa,ah,ad];refine Is rfl rfl (Fp (p:=p.c) (q:=q.c)) (bE ?_);intro u m;simp only[zz];refine ab9 m lM (z:=.int .i64 0) (by kernel_rfl) rfl rfl rfl rfl rfl rfl rfl ?_;intro g3 u m;simp only[zz];refine aaD m rfl rfl (aj7 _ (m.b 0 rfl)) ?_;intro u m;refine aB aP (aN (k2 _ _ ?_));try clear k2 K2
 refine je ?_;simp only[zz];try simp only[di,Exit.then,if_true]
 refine aT rfl rfl ?_;try simp only[zD,zE]
 exact⟨_,rfl,m.ext,rfl⟩
theorem aqB{p:P3}(h:p.x=q.x∧p.y=q.y∧p.z=q.z):(0:Int)=qO p q:=(nQ.2 (P3.eq h.1 h.2.1 h.2.2)).symm
theorem aqC{p:P3}(h:p.Lt q):(-1:Int)=qO p q:=(if_pos h).symm
theorem aqD{p:P3}(h1:¬(p.x=q.x∧p.y=q.y∧p.z=q.z))(h2:¬p.Lt q):(1:Int)=qO p q:=by
 unfold qO;rcases P3.lt_tri p q with h | h | h
 · exact absurd h h2
 · exact absurd (by rw[h];exact⟨rfl,rfl,rfl⟩) h1
 · rw[if_neg h2,if_pos h]
theorem Tw{p:P3}:tF prog 70 [pt p,pt q] (.int .i64 (qO p q)):=by
 intro w;refine⟨bP func70 (by kernel_rfl),?_⟩;have m:=iJ.refl w
 go_enter func70,ntmps70
 refine aX fun K1 k1=>aq (oV m rfl ?_);intro g1 u m;simp only[zz];refine oV m rfl ?_;intro g2 u m;refine aB aP (aN (k1 _ _ ?_));try clear k1 K1
 refine aX fun K2 k2=>jm (aX fun K3 k3=>aq ?_);simp only[zz];refine aR rfl ((m.b 1 rfl).full aH aA) ?_;simp only[zz];refine aR rfl ((m.b 0 rfl).full aH aA) ?_;simp only[zz];refine aB (bZ rfl rfl) (aB aP (aN (k3 _ _ ?_)));try clear k3 K3
 simp only[zz];refine bA rfl ?_ ?_<;>intro hc1
 ·
  refine aX fun K4 k4=>aq (aB aP (aN (k4 _ _ ?_)));try clear k4 K4
  refine je ?_;simp only[zz];try simp only[di,Exit.then,if_true]
  refine aT rfl rfl ?_;try simp only[zD,zE]
  exact⟨_,rfl,m.ext,by rw[←aqB hc1]⟩
 ·
  refine aX fun K5 k5=>aq (aR rfl ((m.b 1 rfl).full aH aA) ?_);simp only[zz];refine aR rfl ((m.b 0 rfl).full aH aA) ?_;simp only[zz];refine Pp m rfl rfl (uG (p:=p) (q:=q)) ?_;intro u m;refine aB aP (aN (k5 _ _ ?_));try clear k5 K5
  simp only[zz];refine bA rfl ?_ ?_<;>intro hc2
  ·
   refine aX fun K6 k6=>aq (aB aP (aN (k6 _ _ ?_)));try clear k6 K6
   refine je ?_;simp only[zz];try simp only[di,Exit.then,if_true]
   refine aT rfl rfl ?_;try simp only[zD,zE]
   exact⟨_,rfl,m.ext,by rw[←aqC hc2]⟩
  ·
   refine jy (k2 _ _ ?_);try clear k2 K2
   refine aX fun K7 k7=>aq (aB aP (aN (k7 _ _ ?_)));try clear k7 K7
   refine je ?_;simp only[zz];try simp only[di,Exit.then,if_true]
   refine aT rfl rfl ?_;try simp only[zD,zE]
   exact⟨_,rfl,m.ext,by rw[←aqD hc1 hc2]⟩
end Go.Proofs.YtfekpcimgncioaaGreatDoor
namespace Go.Proofs.YtfekpcimgncioaaGreatDoor
open Go.Proofs.Tryz
open Go.RowKit Go.Lith
set_option maxRecDepth 100000
attribute [local irreducible] au cu fA bF cG Code.wp
attribute [local congr] nO fK fM fN fO fP iY fQ fR fS fT fU fV fW fX fY fZ gA dX dY gB gC gE gF gG jA cQ cR cE cP gD iZ dZ eA eB gH gI jD
theorem ag1{w0 w:aj}{is:List It}{A:Option Addr}{n cap:Nat}{xs:List T3}(m:Mem w0 w is)(k:Nat)(hi:is[k]? = some (oI 39 9 A n cap (xs.flatMap aM)))(hsz:n<4611686018427387904) :
 Calls prog 112 [.slice A n cap,.func (.func 113) #[] #[]].toArray w fun e w'=>∃v i,e=.returned v∧Mem w0 w' (is.set k i)∧(v=.tuple #[]∧∃ys:List T3,i=oI 39 9 A n cap (ys.flatMap aM)∧ys.Perm xs∧ys.Pairwise fun a b=>ltOf ad9 b a=false) :=
 Dh (enc:=aM) Tryz.sort112 (fun w=>pN cK w) (fun w=>eC aO w) (fun _=>rfl) (by decide) aaJ ad9 aj8 (fun x y=>ann) m k hi hsz
theorem aea{ts ys:List T3}(h:ys.Perm (ts.map dR))(hs:ys.Pairwise fun a b=>Go.Proofs.ltOf ad9 b a=false):ys=bK ts :=
 aiY h (hs.imp fun {a b} h k=>by
  have:=(Kh b a).2 k;simp[Go.Proofs.ltOf] at h;omega)
theorem ace{ts:List T3}{N cap:Nat}{A:Option Addr}(w:aj)(hT:bQ w A N ts)(hN:N≤10000000):dK prog 55 [.slice A N cap] w (SL 39 9 ((bK ts).flatMap aM) ts.length w):=by
 refine⟨bP func55 (by kernel_rfl),?_⟩;have m:=Mem.refl w;have htl:=hT.len
 go_enter func55,ntmps55
 apply fG 6 [0] m;simp only[↓aC];refine aB aP ?_;replace m:=m.nilO 39 9;apply aL 9 [0] m;simp only[↓aC,eV];refine bX [3,8] [5,9,10,11,12,13,14,15,16,17] (fun n vs wl=>∃(k:Nat) (A1:Option Addr) (cap1:Nat),vs=[.slice A1 k cap1,.int .i64 (k:Int)]∧Mem w wl [oI 39 9 A1 k cap1 (((ts.take k).map dR).flatMap aM)]∧(k≤N)∧(n=N-k)) ?_ ?_
 ·
  exact⟨_,0,_,_,rfl,m,cq _,rfl⟩
 · intro n vs wr hI u K1 hK1
   obtain⟨k,A1,cap1,rfl,m,hk,hn⟩:=hI;simp only[zu,zF,zG];apply aK 5 [0,0] m;simp only[↓aC];refine bA rfl ?_ ?_<;>intro hc1
   ·
    obtain⟨t,ht,_,a,rfl,hrow⟩:=hT.get (i:=k) (by omega);apply aK 5 [0] m;simp only[↓aC];refine aB (aF bL aO rfl rfl (by omega) (by omega) (cH (ag _))) ?_;simp only[zz];refine aR rfl ((hrow.ext m.ext).lies cK aO) ?_;simp only[zz];apply kP 6 [0,0,0] m;simp only[↓aC,nC,gX,aa];intro g1 u m;refine kY m rfl rfl ag0 ?_;intro u m;simp only[zz];refine eF rfl ?_;intro u g2 e_ h_ k_;replace m:=m.newB e_ h_ k_;simp only[zz];refine bW m 2 rfl rfl bL gR rfl (by decide) rfl rfl rfl (m.b 0 rfl).rowsO (jX rfl) (by omega) (by omega) ?_;intro A1 cap1 u m;simp only[zF,zG] at m;rw[show ((ts.take k).map dR).flatMap aM++_=((ts.take (k+1)).map dR).flatMap aM by rw[bY ht,ct,aw];rfl] at m;apply aL 7 [0] m;simp only[↓aC];refine⟨by omega,?_⟩;exact hK1 (N-(k+1)) _ _ (by omega) (by kernel_rfl) ⟨k+1,_,_,rfl,(m.sel [false,false,true]),by omega,rfl⟩
   ·
    obtain rfl:k=N:=by omega
    rw[show ts.take k=ts from bi (by omega)] at m;apply aK 4 [0] m;simp only[↓aC];refine mM m 0 (bP func112 (by kernel_rfl)) rfl rfl (fun m=>ag1 m 0 rfl (by omega)) ?_;rintro v i u m ⟨rfl,ys,rfl,hys,hso⟩;simp only[zF,zG] at m;simp only[zz];obtain rfl:=aea hys hso;apply aL 7 [] m;simp only[↓aC];exact aT rfl rfl ⟨_,rfl,m.ext,⟨_,_,_,htl.symm,rfl,(m.o 0 rfl)⟩⟩
end Go.Proofs.YtfekpcimgncioaaGreatDoor
