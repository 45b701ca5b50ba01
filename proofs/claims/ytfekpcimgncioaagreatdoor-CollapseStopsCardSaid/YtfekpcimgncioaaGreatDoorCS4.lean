/-
 Texts of one claim, laid together: K57, K58, K59, K60, Cmp, Grow2, SortPt, Maps1, W1, Rchk2, W2, Ent.
-/
import Derived.Shelf.SlLaysF0
import Derived.Test.YtfekpcimgncioaaGreatDoorProg
import Derived.Test.YtfekpcimgncioaaGreatDoorCS3
open Nat renaming reduceAdd→aa,reduceMul→ad,le_refl→ap,zero_add→aq,zero_le→cd,lt_succ_self→dq,min_eq_left→gl
open Int renaming reduceToNat→ab,toNat_natCast→ag,reduceAdd→ai,toNat→ja
open Go renaming Value→ac,World→ah,TypeId→aj,wp_region_lit→am,wpList→ao,Operand→a_,run_underlying→bu,MapEntry→bx,Deferred→cg,wp_ret→h_,wp_block→ig,wp_skip→il
open List renaming mem_cons→ak,getElem?_eq_getElem→an,getElem?_eq_some_iff→ar,length_cons→au,flatMap_append→av,length_append→aw,mem_singleton→ay,take_of_length_le→be,mem_append→bg,length_take→br,length_nil→bt,nil_append→bv,not_mem_nil→bw,cons_append→b_,map_append→cl,append_assoc→cq,length_map→ct,replicate→de,length_set→dl,getElem?_map→dw,length_drop→ej,take_length→fy,filter_append→gj,map_set→me
open Go.Value renaming bool→bf
open Go.Oper renaming mk→bi
open Go.Exit renaming inBlock→cj
open Option renaming getD_some→cv,map_some→d_
open Array renaming getElem?_eq_some_iff→da,getElem?_modify→im,ext_getElem?→jb
open Bool renaming not_false→ei,not_true→el
open Prod.mk renaming injEq→ff
open Option.some renaming injEq→fp
set_option maxHeartbeats 8000000
set_option linter.unusedSimpArgs false
set_option linter.unusedVariables false
set_option linter.unusedSectionVars false
namespace Go.Proofs.YtfekpcimgncioaaGreatDoor
open Go.Proofs.Tryz
open Go.RowKit Go.Lith
abbrev lM:=@underlying22
abbrev uV:=@underlying261
abbrev Bk:=@underlying262
abbrev ahB:=@underlying5
abbrev Gw:=@underlying62
set_option maxRecDepth 100000
attribute [local irreducible] ao wpQuiet eZ bE bX Code.wp
attribute [local congr] nO fF fG fH fI fJ jH fK fL fM fN fO fP fQ fR fS fT fU dX dY fV fW fY fZ gA jJ cO cP cA cN fX jI dZ eA eB gB gC jK
theorem Vj{w0 w:ah}{K:It}{g3:Nat}{bs:List Bool}{ns:List Int}{p q:Nat}{v a:Int}{b:Bool}(m:Mem w0 w [bI g3 (jU bs ns) 264,K])(hc:gU bs ns)(hp:p<24)(hq:q<24)(hv : -1≤v∧v<8)(ha:a=0∨a=1∨a=2):sN prog 288 [.pointer (some ⟨g3,0,none⟩),.int .i64 (p:Int),.int .i64 (q:Int),.int .i64 v,.int .i64 a,.bool b] w (fun _ w'=>∃ns',gU bs ns'∧Mem w0 w' [bI g3 (jU bs ns') 264,K]):=by
 refine⟨akA,?_⟩
 go_enter func288,ntmps288
 refine eS 7 [0] m ?_;simp only[↓aD];intro u m;refine cW m rfl rfl (ack _ hp hq hv ha) ?_;clear m;rintro v u m ⟨c,rfl⟩;refine aP 6 [0] m ?_;simp only[↓aD];intro u m;refine gR rfl (fun hc1=>?_) (fun hc1=>?_)
 · skip
   refine aS 6 [0] m ?_;simp only[↓aD,rW,aa];intro u m;refine aB (aJ Bk aX rfl rfl (by omega) (by omega) Lb) ?_;simp only[zz];refine cK m 0 rfl rfl rfl aX (by rw[hc.len];show _+1≤_;omega) ⟨rfl,rfl⟩ ?_;clear m;intro u m;simp only[zz] at m;rw[hc.over hp] at m;refine aP 1 [0] m ?_;simp only[↓aD];intro u m;exact zY rfl (⟨_,rfl,_,hc.put (by omega),m⟩)
 · skip
   refine aS 6 [0] m ?_;simp only[↓aD,rW,aa];intro u m;refine aB (aJ Bk aX rfl rfl (by omega) (by omega) Lb) ?_;simp only[zz];refine cK m 0 rfl rfl rfl aX (by rw[hc.len];show _+1≤_;omega) ⟨rfl,rfl⟩ ?_;clear m;intro u m;simp only[zz] at m;rw[hc.over hq] at m;refine aP 1 [0] m ?_;simp only[↓aD];intro u m;exact zY rfl (⟨_,rfl,_,hc.put (by omega),m⟩)
theorem Fh{os:List Nat}{x:Nat}:os.map Ys++[.int .i64 (x:Int)]=(os++[x]).map Ys:=by simp[Ys]
theorem fv{a b1 b2 sd k:Nat}(ha:a<3)(h1:b1=(a+1)%3)(h2:b2=(a+2)%3)(hs:sd=0∨sd=2^a)(hk:k<4):∃s1 s2 u1 u2:Nat,IntKind.i64.wrap (((k%2:Nat):Int)*2^min (ja (b1:Int)) IntKind.i64.bits)=(s1:Int)∧IntKind.i64.wrap (((k / 2:Nat):Int)*2^min (ja (b2:Int)) IntKind.i64.bits)=(s2:Int)∧IntKind.i64.wrap (1*2^min (ja (b1:Int)) IntKind.i64.bits)=(u1:Int)∧IntKind.i64.wrap (1*2^min (ja (b2:Int)) IntKind.i64.bits)=(u2:Int)∧sd+s1+s2<8∧(k%2=0→sd+s1+s2+u1<8)∧(k / 2=0→sd+s1+s2+u2<8):=by
 refine⟨k%2*2^b1,k / 2*2^b2,2^b1,2^b2,?_,?_,?_,?_,?_,?_,?_⟩ <;> subst h1 h2 <;> rcases a with _ | _ | _ | a <;> rcases k with _ | _ | _ | _ | k <;> rcases hs with rfl | rfl <;> first | omega | rfl | decide
theorem Lc{v a:Nat}(hv:v<8)(ha:a<3):ahz v a<24:=by
 have h1:=aeZ v a;have h2:=aoq v a;omega
theorem ahC{ls:List Nat}{n:Nat}(h:ls.length=n)(hn:(n:Int)=2):∃x y,ls=[x,y]:=by
 match ls,h with
 | [x,y],_=>exact⟨x,y,rfl⟩
 | [],h=>simp at h;omega
 | [_],h=>simp at h;omega
 | _::_::_::l,h=>simp at h;omega
theorem Vk{w0 w:ah}{K:It}{g3:Nat}{bs:List Bool}{ns:List Int}{a:Nat}{pos:Bool}(m:Mem w0 w [bI g3 (jU bs ns) 264,K])(hc:gU bs ns)(ha:a<3):sN prog 215 [.pointer (some ⟨g3,0,none⟩),.int .i64 (a:Int),.bool pos] w (fun _ w'=>∃ns',gU bs ns'∧Mem w0 w' [bI g3 (jU bs ns') 264,K]):=by
 refine⟨ake,?_⟩;obtain⟨b1,hb1⟩:∃b1,b1=(a+1)%3:=⟨_,rfl⟩
 obtain⟨b2,hb2⟩:∃b2,b2=(a+2)%3:=⟨_,rfl⟩
 go_enter func215,ntmps215
 refine eS 9 [0] m ?_;simp only[↓aD];intro u m;refine Jz m [6] [16,17] (fun vs=>∃(sd:Nat),vs=[.int .i64 (sd:Int)]∧(sd=0∨sd=2^a)) ?_ ?_
 · intro K1 hK1
   refine gR rfl (fun hc1=>?_) (fun hc1=>?_)
   · skip
     refine aS 2 [0] m ?_;simp only[↓aD];intro u m;refine aB (nZ rfl rfl (by omega) (aiI ha)) (aP 2 [0] m ?_);simp only[↓aD];intro u m;refine hK1 _ _ ?_ m ?_
     · simp only[zz,zv]
     · simp only[zQ,zR,zD,zE]
       exact⟨_,rfl,.inr rfl⟩
   · skip
     refine aS 1 [0] m ?_;simp only[↓aD];intro u m;refine hK1 _ _ ?_ m ?_
     · simp only[zz,zv]
     · simp only[zQ,zR,zD,zE]
       exact⟨0,rfl,.inl rfl⟩
 · intro vs wr m hI u
   obtain⟨sd,rfl,hsd⟩:=hI;simp only[zu,zF,zG];refine cR 4 [0] m ?_;simp only[↓aD];refine⟨by omega,?_⟩;intro u m;refine aB (cU rfl rfl (by omega) (show ((a:Int)+1).tmod 3=(b1:Int) from by rw[hb1];rfl)) ?_;refine aP 6 [0] m ?_;simp only[↓aD];refine⟨by omega,?_⟩;intro u m;refine aB (cU rfl rfl (by omega) (show ((a:Int)+2).tmod 3=(b2:Int) from by rw[hb2];rfl)) ?_;refine aP 4 [0] m ?_;simp only[↓aD];intro u m;refine aB aM ?_;replace m:=m.nilO 3 1;refine aP 11 [0] m ?_;simp only[↓aD];intro u m;refine bW [9,10,11] [12,24,25,26,27,28,29,30,31,32,33,34,35,36,37,38,39,40,41,42,43,44,45,46,47,48,49,50,51,52,53,54,55,56,57,58,59,60,61,62,63,64,65,66,67,68,69,70,71,72,73,74,75,76,77,78,79,80,81,82,83,84,85,86,87,88,89,90,91,92,93,94,95,96,97,98,99] (fun n vs wl=>∃(k n9:Nat) (ins:Int) (ls:List Nat) (A9:Option Addr) (cap9:Nat),vs=[.slice A9 n9 cap9,.int .i64 ins,.int .i64 (k:Int)]∧Mem w0 wl [oI 3 1 A9 n9 cap9 (ls.map Ys),bI g3 (jU bs ns) 264,K]∧(-1≤ins∧ins<8)∧(ls.length=n9)∧(∀x∈ls,x<24)∧(n9≤2*k)∧(k≤4)∧(n=4-k)) ?_ ?_
   · skip
     apply Exists.intro;simp only[zQ,zR,zD,zE];exact⟨0,0,_,[],none,0,rfl,m,by omega,rfl,by simp,by omega,by omega,rfl⟩
   · intro n vs wr hI u K2 hK2
     clear m;obtain⟨k,n9,ins,ls,A9,cap9,rfl,m,hins,hln,hls,hn9,hk,hn⟩:=hI;simp only[zu,zF,zG];refine aS 6 [0,0] m ?_;simp only[↓aD];intro u m;refine bC rfl (fun hc2=>?_) (fun hc2=>?_)
     · skip
       have hk4:k<4:=by omega
       refine aS 4 [] m ?_;simp only[↓aD];intro u m;obtain⟨s1,s2,u1,u2,hs1,hs2,hu1,hu2,hv8,hw1,hw2⟩:=fv ha hb1 hb2 hsd hk4;refine gc (mq m aC (by kernel_rfl) (aH aI (aH aI ?_)));simp only[zz];refine aH (cU rfl rfl (by omega) (show (k:Int).tmod 2=((k%2:Nat):Int) from rfl)) (aH aI ?_);simp only[zz];refine aH (nZ rfl rfl (by omega) hs1) ?_;simp only[zz];refine aH (eL rfl rfl (bF (by omega) (by omega))) (aH aI ?_);simp only[zz];refine aH (kF rfl rfl (by omega) ((show IntKind.i64.wrap ((k / 2:Nat):Int)=_ from bF (by omega) (by omega)))) (aH aI ?_);simp only[zz];refine aH (nZ rfl rfl (by omega) hs2) ?_;simp only[zz];refine aH (eL rfl rfl (bF (by omega) (by omega))) (aH aM (aY ?_));clear m;intro u m;simp only[zz];obtain⟨v,hv⟩:∃v:Nat,v=sd+s1+s2:=⟨_,rfl⟩
       rw[←hv] at hv8 hw1 hw2;rw[show ((sd:Int)+(s1:Int)+(s2:Int))=(v:Int) by omega];refine cR 7 [0] m ?_;simp only[↓aD,nQ,aa];intro u m;refine aB (aJ uV dM rfl rfl (by omega) (by omega) (eT (ag _))) ?_;simp only[zz];refine aO rfl (lies1 ((m.b 1 rfl).cell (hc.in hv8)) mN) ?_;simp only[zz];refine aP 1 [0] m ?_;simp only[↓aD];intro u m;refine Jz m [10] [45] (fun vs=>∃(ins:Int),vs=[.int .i64 ins]∧(-1≤ins∧ins<8)) ?_ ?_
       · intro K3 hK3
         refine gR rfl (fun hc3=>?_) (fun hc3=>?_)
         · skip
           refine aS 4 [0] m ?_;simp only[↓aD];intro u m;refine hK3 _ _ ?_ m ?_
           · simp only[zz,zv]
           · simp only[zQ,zR,zD,zE]
             exact⟨_,rfl,by omega⟩
         · skip
           refine aS 1 [0] m ?_;simp only[↓aD];intro u m;refine hK3 _ _ ?_ m ?_
           · simp only[zz,zv]
           · simp only[zQ,zR,zD,zE]
             exact⟨_,rfl,hins⟩
       · intro vs wr m hI u
         obtain⟨ins,rfl,hins⟩:=hI;simp only[zu,zF,zG];refine cR 2 [] m ?_;simp only[↓aD];intro u m;by_cases hk13:k%2=0
         · skip
           have hvw:=hw1 hk13;refine gc (mq m aC (by kernel_rfl) (aH aI ?_));simp only[zz];refine aH (cU rfl rfl (by omega) (show (k:Int).tmod 2=((k%2:Nat):Int) from rfl)) ?_;simp only[zz];refine aH (vZ rfl rfl (by omega)) (aH aI (cH rfl (aH aI (cH rfl (aH aI ?_)))));simp only[zz];refine cH rfl (aH (cJ rfl) ?_);refine eC 1 [] ?_;simp only[↓aD,nQ,aa];refine cH rfl (aH (aJ uV dM rfl rfl (by omega) (by omega) (eT (ag _))) (cH rfl ?_));simp only[zz];refine ql rfl (fun u m=>(lies1 ((m.b 1 rfl).cell (hc.in hv8)) mN)) ?_;simp only[zz];refine cH rfl (aH aI (cH rfl (aH aI (cH rfl (aH aI (cH rfl ?_))))));simp only[zz];refine aH (nZ rfl rfl (by omega) hu1) (cH rfl ?_);simp only[zz];refine aH (eL rfl rfl (bF (by omega) (by omega))) (cH rfl (aH (cJ rfl) ?_));refine eC 1 [] ?_;simp only[↓aD,nQ,aa];refine cH rfl (aH (aJ uV dM rfl rfl (by omega) (by omega) (eT (show _=v+u1 by omega))) (cH rfl ?_));simp only[zz];refine ql rfl (fun u m=>(lies1 ((m.b 1 rfl).cell (hc.in hvw)) mN)) ?_;simp only[zz];refine cH rfl (aH (Qi Ue rfl rfl) (aH (pY rfl) (aY ?_)));clear m;intro u m;refine gc ?_;simp only[zz];refine iM m 0 [9] [67,68,69,70,71,72] (fun vs i=>∃(n9:Nat) (ls:List Nat) (A9:Option Addr) (cap9:Nat),vs=[.slice A9 n9 cap9]∧i=oI 3 1 A9 n9 cap9 (ls.map Ys)∧(ls.length=n9)∧(∀x∈ls,x<24)∧(n9≤2*k+1)) ?_ ?_
           · intro K4 hK4
             refine gR rfl (fun hc4=>?_) (fun hc4=>?_)
             · skip
               refine aS 4 [0] m ?_;simp only[↓aD];intro u m;refine kA m rfl rfl (xL hv8 (show b1<3 by omega)) ?_;clear m;intro u m;simp only[zz];refine Im lM (z:=.int .i64 0) (by kernel_rfl) rfl rfl rfl ?_;intro u g6 e hg hB;replace m:=m.newB e hg hB;clear e hg hB;simp only[zz];refine bR m 1 rfl rfl lM adK rfl (by decide) rfl rfl rfl (m.b 0 rfl).rowsO (jM rfl) (by omega) (by omega) ?_;clear m;intro A9 cap9 u m;simp only[zF,zG] at m;simp only[zA,zB,zC,zD,zE,Fh] at m;refine aP 2 [0] m ?_;simp only[↓aD];intro u m;refine hK4 _ _ _ ?_ (m.sel [false,true,true,true]) ?_
               · simp only[zz,zv]
               · simp only[zQ,zR,zD,zE]
                 exact⟨_,_,_,_,rfl,rfl,by simp;omega,fun x hx=>(bg.1 hx).elim (hls x) fun h=>by cases ay.1 h;exact Lc hv8 (by omega),by omega⟩
             · skip
               refine aS 1 [0] m ?_;simp only[↓aD];intro u m;refine hK4 _ _ _ ?_ m ?_
               · simp only[zz,zv]
               · simp only[zQ,zR,zD,zE]
                 exact⟨_,_,_,_,rfl,rfl,hln,hls,by omega⟩
           · intro vs i wr m hI u
             obtain⟨n9,ls,A9,cap9,rfl,rfl,hln,hls,hn9⟩:=hI;simp only[zF,zG] at m;simp only[zu,zF,zG];refine cR 1 [] m ?_;simp only[↓aD];intro u m;by_cases hk15:k / 2=0
             · skip
               have hvw:=hw2 hk15;refine gc (mq m aC (by kernel_rfl) (aH aI ?_));simp only[zz];refine aH (kF rfl rfl (by omega) ((show IntKind.i64.wrap ((k / 2:Nat):Int)=_ from bF (by omega) (by omega)))) ?_;simp only[zz];refine aH (vZ rfl rfl (by omega)) (aH aI (cH rfl (aH aI (cH rfl (aH aI ?_)))));simp only[zz];refine cH rfl (aH (cJ rfl) ?_);refine eC 1 [] ?_;simp only[↓aD,nQ,aa];refine cH rfl (aH (aJ uV dM rfl rfl (by omega) (by omega) (eT (ag _))) (cH rfl ?_));simp only[zz];refine ql rfl (fun u m=>(lies1 ((m.b 1 rfl).cell (hc.in hv8)) mN)) ?_;simp only[zz];refine cH rfl (aH aI (cH rfl (aH aI (cH rfl (aH aI (cH rfl ?_))))));simp only[zz];refine aH (nZ rfl rfl (by omega) hu2) (cH rfl ?_);simp only[zz];refine aH (eL rfl rfl (bF (by omega) (by omega))) (cH rfl (aH (cJ rfl) ?_));refine eC 1 [] ?_;simp only[↓aD,nQ,aa];refine cH rfl (aH (aJ uV dM rfl rfl (by omega) (by omega) (eT (show _=v+u2 by omega))) (cH rfl ?_));simp only[zz];refine ql rfl (fun u m=>(lies1 ((m.b 1 rfl).cell (hc.in hvw)) mN)) ?_;simp only[zz];refine cH rfl (aH (Qi Ue rfl rfl) (aH (pY rfl) (aY ?_)));clear m;intro u m;refine gc ?_;simp only[zz];refine iM m 0 [9] [94,95,96,97,98,99] (fun vs i=>∃(n9:Nat) (ls:List Nat) (A9:Option Addr) (cap9:Nat),vs=[.slice A9 n9 cap9]∧i=oI 3 1 A9 n9 cap9 (ls.map Ys)∧(ls.length=n9)∧(∀x∈ls,x<24)∧(n9≤2*k+2)) ?_ ?_
               · intro K5 hK5
                 refine gR rfl (fun hc5=>?_) (fun hc5=>?_)
                 · skip
                   refine aS 4 [0] m ?_;simp only[↓aD];intro u m;refine kA m rfl rfl (xL hv8 (show b2<3 by omega)) ?_;clear m;intro u m;simp only[zz];refine Im lM (z:=.int .i64 0) (by kernel_rfl) rfl rfl rfl ?_;intro u g6 e hg hB;replace m:=m.newB e hg hB;clear e hg hB;simp only[zz];refine bR m 1 rfl rfl lM adK rfl (by decide) rfl rfl rfl (m.b 0 rfl).rowsO (jM rfl) (by omega) (by omega) ?_;clear m;intro A9 cap9 u m;simp only[zF,zG] at m;simp only[zA,zB,zC,zD,zE,Fh] at m;refine aP 2 [0] m ?_;simp only[↓aD];intro u m;refine hK5 _ _ _ ?_ (m.sel [false,true,true,true]) ?_
                   · simp only[zz,zv]
                   · simp only[zQ,zR,zD,zE]
                     exact⟨_,_,_,_,rfl,rfl,by simp;omega,fun x hx=>(bg.1 hx).elim (hls x) fun h=>by cases ay.1 h;exact Lc hv8 (by omega),by omega⟩
                 · skip
                   refine aS 1 [0] m ?_;simp only[↓aD];intro u m;refine hK5 _ _ _ ?_ m ?_
                   · simp only[zz,zv]
                   · simp only[zQ,zR,zD,zE]
                     exact⟨_,_,_,_,rfl,rfl,hln,hls,by omega⟩
               · intro vs i wr m hI u
                 obtain⟨n9,ls,A9,cap9,rfl,rfl,hln,hls,hn9⟩:=hI;simp only[zF,zG] at m;simp only[zu,zF,zG];refine cR 6 [0] m ?_;simp only[↓aD];refine⟨by omega,?_⟩;intro u m;refine hK2 (4-(k+1)) _ _ ?_ ?_ ?_
                 · omega
                 · simp only[zz,zv]
                 · simp only[zQ,zR,zD,zE]
                   exact⟨k+1,_,_,_,_,_,rfl,m,hins,hln,hls,by omega,by omega,rfl⟩
             · skip
               refine gc (mq m aC (by kernel_rfl) (aH aI ?_));simp only[zz];refine aH (kF rfl rfl (by omega) ((show IntKind.i64.wrap ((k / 2:Nat):Int)=_ from bF (by omega) (by omega)))) ?_;simp only[zz];refine aH (Px rfl rfl (by omega)) (aH aI (mZ rfl (mZ rfl ?_)));simp only[zz];refine mZ rfl (eC 14 [] ?_);simp only[↓aD];refine aY ?_;clear m;intro u m;refine cR 8 [0] m ?_;simp only[↓aD];refine⟨by omega,?_⟩;intro u m;refine hK2 (4-(k+1)) _ _ ?_ ?_ ?_
               · omega
               · simp only[zz,zv]
               · simp only[zQ,zR,zD,zE]
                 exact⟨k+1,_,_,_,_,_,rfl,m,hins,hln,hls,by omega,by omega,rfl⟩
         · skip
           refine gc (mq m aC (by kernel_rfl) (aH aI ?_));simp only[zz];refine aH (cU rfl rfl (by omega) (show (k:Int).tmod 2=((k%2:Nat):Int) from rfl)) ?_;simp only[zz];refine aH (Px rfl rfl (by omega)) (aH aI (mZ rfl (mZ rfl ?_)));simp only[zz];refine mZ rfl (eC 14 [] ?_);simp only[↓aD];refine aY ?_;clear m;intro u m;refine cR 3 [] m ?_;simp only[↓aD];intro u m;by_cases hk15:k / 2=0
           · skip
             have hvw:=hw2 hk15;refine gc (mq m aC (by kernel_rfl) (aH aI ?_));simp only[zz];refine aH (kF rfl rfl (by omega) ((show IntKind.i64.wrap ((k / 2:Nat):Int)=_ from bF (by omega) (by omega)))) ?_;simp only[zz];refine aH (vZ rfl rfl (by omega)) (aH aI (cH rfl (aH aI (cH rfl (aH aI ?_)))));simp only[zz];refine cH rfl (aH (cJ rfl) ?_);refine eC 1 [] ?_;simp only[↓aD,nQ,aa];refine cH rfl (aH (aJ uV dM rfl rfl (by omega) (by omega) (eT (ag _))) (cH rfl ?_));simp only[zz];refine ql rfl (fun u m=>(lies1 ((m.b 1 rfl).cell (hc.in hv8)) mN)) ?_;simp only[zz];refine cH rfl (aH aI (cH rfl (aH aI (cH rfl (aH aI (cH rfl ?_))))));simp only[zz];refine aH (nZ rfl rfl (by omega) hu2) (cH rfl ?_);simp only[zz];refine aH (eL rfl rfl (bF (by omega) (by omega))) (cH rfl (aH (cJ rfl) ?_));refine eC 1 [] ?_;simp only[↓aD,nQ,aa];refine cH rfl (aH (aJ uV dM rfl rfl (by omega) (by omega) (eT (show _=v+u2 by omega))) (cH rfl ?_));simp only[zz];refine ql rfl (fun u m=>(lies1 ((m.b 1 rfl).cell (hc.in hvw)) mN)) ?_;simp only[zz];refine cH rfl (aH (Qi Ue rfl rfl) (aH (pY rfl) (aY ?_)));clear m;intro u m;refine gc ?_;simp only[zz];refine iM m 0 [9] [94,95,96,97,98,99] (fun vs i=>∃(n9:Nat) (ls:List Nat) (A9:Option Addr) (cap9:Nat),vs=[.slice A9 n9 cap9]∧i=oI 3 1 A9 n9 cap9 (ls.map Ys)∧(ls.length=n9)∧(∀x∈ls,x<24)∧(n9≤2*k+2)) ?_ ?_
             · intro K6 hK6
               refine gR rfl (fun hc5=>?_) (fun hc5=>?_)
               · skip
                 refine aS 4 [0] m ?_;simp only[↓aD];intro u m;refine kA m rfl rfl (xL hv8 (show b2<3 by omega)) ?_;clear m;intro u m;simp only[zz];refine Im lM (z:=.int .i64 0) (by kernel_rfl) rfl rfl rfl ?_;intro u g6 e hg hB;replace m:=m.newB e hg hB;clear e hg hB;simp only[zz];refine bR m 1 rfl rfl lM adK rfl (by decide) rfl rfl rfl (m.b 0 rfl).rowsO (jM rfl) (by omega) (by omega) ?_;clear m;intro A9 cap9 u m;simp only[zF,zG] at m;simp only[zA,zB,zC,zD,zE,Fh] at m;refine aP 2 [0] m ?_;simp only[↓aD];intro u m;refine hK6 _ _ _ ?_ (m.sel [false,true,true,true]) ?_
                 · simp only[zz,zv]
                 · simp only[zQ,zR,zD,zE]
                   exact⟨_,_,_,_,rfl,rfl,by simp;omega,fun x hx=>(bg.1 hx).elim (hls x) fun h=>by cases ay.1 h;exact Lc hv8 (by omega),by omega⟩
               · skip
                 refine aS 1 [0] m ?_;simp only[↓aD];intro u m;refine hK6 _ _ _ ?_ m ?_
                 · simp only[zz,zv]
                 · simp only[zQ,zR,zD,zE]
                   exact⟨_,_,_,_,rfl,rfl,hln,hls,by omega⟩
             · intro vs i wr m hI u
               obtain⟨n9,ls,A9,cap9,rfl,rfl,hln,hls,hn9⟩:=hI;simp only[zF,zG] at m;simp only[zu,zF,zG];refine cR 6 [0] m ?_;simp only[↓aD];refine⟨by omega,?_⟩;intro u m;refine hK2 (4-(k+1)) _ _ ?_ ?_ ?_
               · omega
               · simp only[zz,zv]
               · simp only[zQ,zR,zD,zE]
                 exact⟨k+1,_,_,_,_,_,rfl,m,hins,hln,hls,by omega,by omega,rfl⟩
           · skip
             refine gc (mq m aC (by kernel_rfl) (aH aI ?_));simp only[zz];refine aH (kF rfl rfl (by omega) ((show IntKind.i64.wrap ((k / 2:Nat):Int)=_ from bF (by omega) (by omega)))) ?_;simp only[zz];refine aH (Px rfl rfl (by omega)) (aH aI (mZ rfl (mZ rfl ?_)));simp only[zz];refine mZ rfl (eC 14 [] ?_);simp only[↓aD];refine aY ?_;clear m;intro u m;refine cR 8 [0] m ?_;simp only[↓aD];refine⟨by omega,?_⟩;intro u m;refine hK2 (4-(k+1)) _ _ ?_ ?_ ?_
             · omega
             · simp only[zz,zv]
             · simp only[zQ,zR,zD,zE]
               exact⟨k+1,_,_,_,_,_,rfl,m,hins,hln,hls,by omega,by omega,rfl⟩
     · skip
       refine aS 8 [0,0] m ?_;simp only[↓aD,Vd];intro u m;refine iM m 1 [] [103,104,105,106,107,108,109,110,111,112,113] (fun vs i=>∃(ns:List Int),vs=[]∧i=bI g3 (jU bs ns) 264∧(gU bs ns)) ?_ ?_
       · intro K7 hK7
         refine bC rfl (fun hc6=>?_) (fun hc6=>?_)
         · skip
           obtain⟨x,y,rfl⟩:=ahC hln hc6;obtain⟨g9,rfl⟩:=(m.o 0 rfl).some (by omega);refine mh m [true,false,true] [(0,true),(1,true),(2,true),(4,true),(5,true),(7,true),(8,true),(9,true),(3,true),(6,true),(10,false)] aC (by kernel_rfl) (bQ (fun _ _ _ _ _ h=>h)) (ol:=?_) ?hol ?_
           case hol=>simp only[zw,zQ,zR];try rfl
           clear m;intro u m;refine aU aI (aU aI ?_);simp only[zz];refine aU (aF lM aX rfl rfl (by decide) (by omega) rfl) (aU aI ?_);simp only[zz];refine aU (aF lM aX rfl rfl (by decide) (by omega) rfl) (Mz 3 [] ?_);simp only[↓aD];refine eN rfl (fun u m=>(lies1 ((m.o 0 rfl).rows 0 _ rfl) bN)) ?_;simp only[zz];refine eN rfl (fun u m=>(lies1 ((m.o 0 rfl).rows 1 _ rfl) bN)) ?_;simp only[zz];refine bV ?_;replace m:=m.pull 1 rfl;simp only[cY,cZ,zF,zG] at m;replace m:=m.pack1;refine jB rfl rfl (Vj m hc (hls x (by simp)) (hls y (by simp)) hins (by omega)) ?_;clear m;rintro v u ⟨ns2,hc2,m⟩;simp only[zz];replace m:=Mem.unpack [_] m;simp only[b_,bv] at m;replace m:=m.s01;refine aL (⟨m.sel [true,false,true],?_⟩);refine bM (gk ?_);refine hK7 _ _ _ ?_ m ?_
           · simp only[zz,zv]
           · simp only[zQ,zR,zD,zE]
             exact⟨_,trivial,rfl,hc2⟩
         · skip
           refine lF 1 [0] m ?_;simp only[↓aD];rintro u m rfl;refine hK7 _ _ _ ?_ m ?_
           · simp only[zz,zv]
           · simp only[zQ,zR,zD,zE]
             exact⟨_,trivial,rfl,hc⟩
       · intro vs i wr m hI u
         obtain⟨ns,rfl,rfl,hc⟩:=hI;simp only[zF,zG] at m;simp only[zu,zF,zG];refine tO 6 [0,0] m ?_;simp only[↓aD,Vd];rintro u m rfl;refine bC rfl (fun hc7=>?_) (fun hc7=>?_)
         · skip
           refine lF 5 [0] m ?_;simp only[↓aD];rintro u m rfl;refine bW [13] [14,117,118,119,120,121,122,123,124,125,126,127,128,129,130,131,132,133,134,135,136,137,138,139,140,141,142,143,144,145,146,147,148] (fun n vs wl=>∃(k:Nat) (ns:List Int),vs=[.int .i64 (k:Int)]∧Mem w0 wl [bI g3 (jU bs ns) 264,K]∧(gU bs ns)∧(k≤4)∧(n=4-k)) ?_ ?_
           · skip
             apply Exists.intro;simp only[zQ,zR,zD,zE];exact⟨0,_,rfl,(m.sel [false,true,true]),hc,by omega,rfl⟩
           · intro n vs wr hI u K8 hK8
             clear m;obtain⟨k,ns,rfl,m,hc,hk,hn⟩:=hI;simp only[zu,zF,zG];refine aS 6 [0,0] m ?_;simp only[↓aD];intro u m;refine bC rfl (fun hc8=>?_) (fun hc8=>?_)
             · skip
               have hk4:k<4:=by omega
               refine aS 4 [] m ?_;simp only[↓aD];intro u m;obtain⟨s1,s2,u1,u2,hs1,hs2,hu1,hu2,hv8,hw1,hw2⟩:=fv ha hb1 hb2 hsd hk4;refine gc (mq m aC (by kernel_rfl) (aH aI (aH aI ?_)));simp only[zz];refine aH (cU rfl rfl (by omega) (show (k:Int).tmod 2=((k%2:Nat):Int) from rfl)) (aH aI ?_);simp only[zz];refine aH (nZ rfl rfl (by omega) hs1) ?_;simp only[zz];refine aH (eL rfl rfl (bF (by omega) (by omega))) (aH aI ?_);simp only[zz];refine aH (kF rfl rfl (by omega) ((show IntKind.i64.wrap ((k / 2:Nat):Int)=_ from bF (by omega) (by omega)))) (aH aI ?_);simp only[zz];refine aH (nZ rfl rfl (by omega) hs2) ?_;simp only[zz];refine aH (eL rfl rfl (bF (by omega) (by omega))) (aH aM (aY ?_));clear m;intro u m;simp only[zz];obtain⟨v,hv⟩:∃v:Nat,v=sd+s1+s2:=⟨_,rfl⟩
               rw[←hv] at hv8 hw1 hw2;rw[show ((sd:Int)+(s1:Int)+(s2:Int))=(v:Int) by omega];refine cR 6 [0] m ?_;simp only[↓aD,nQ,aa];intro u m;refine aB (aJ uV dM rfl rfl (by omega) (by omega) (eT (ag _))) ?_;simp only[zz];refine aO rfl (lies1 ((m.b 0 rfl).cell (hc.in hv8)) mN) ?_;simp only[zz];refine aP 1 [0] m ?_;simp only[↓aD];intro u m;refine iM m 0 [] [138,139,140,141,142,143,144,145,146,147,148] (fun vs i=>∃(ns:List Int),vs=[]∧i=bI g3 (jU bs ns) 264∧(gU bs ns)) ?_ ?_
               · intro K9 hK9
                 refine gR rfl (fun hc9=>?_) (fun hc9=>?_)
                 · skip
                   refine aS 4 [0] m ?_;simp only[↓aD];intro u m;refine vJ m rfl rfl (xL hv8 (show b1<3 by omega)) 2 [0] ?_;simp only[↓aD];intro u m;refine vJ m rfl rfl (xL hv8 (show b2<3 by omega)) 3 [0] ?_;simp only[↓aD];intro u m;refine jB rfl rfl (Vj m hc (Lc hv8 (by omega)) (Lc hv8 (by omega)) (by omega) (by omega)) ?_;clear m;rintro v u ⟨ns2,hc2,m⟩;refine aP 1 [0] m ?_;simp only[↓aD];intro u m;refine hK9 _ _ _ ?_ m ?_
                   · simp only[zz,zv]
                   · simp only[zQ,zR,zD,zE]
                     exact⟨_,trivial,rfl,hc2⟩
                 · skip
                   refine aS 1 [0] m ?_;simp only[↓aD];intro u m;refine hK9 _ _ _ ?_ m ?_
                   · simp only[zz,zv]
                   · simp only[zQ,zR,zD,zE]
                     exact⟨_,trivial,rfl,hc⟩
               · intro vs i wr m hI u
                 obtain⟨ns,rfl,rfl,hc⟩:=hI;simp only[zF,zG] at m;simp only[zu,zF,zG];refine cR 6 [0] m ?_;simp only[↓aD];refine⟨by omega,?_⟩;intro u m;refine hK8 (4-(k+1)) _ _ ?_ ?_ ?_
                 · omega
                 · simp only[zz,zv]
                 · simp only[zQ,zR,zD,zE]
                   exact⟨k+1,_,rfl,m,hc,by omega,rfl⟩
             · skip
               refine aS 1 [0] m ?_;simp only[↓aD];intro u m;exact zY rfl (⟨_,rfl,_,hc,m.sel [true,true]⟩)
         · skip
           refine aS 1 [0] m ?_;simp only[↓aD];intro u m;exact zY rfl (⟨_,rfl,_,hc,m.sel [false,true,true]⟩)
def Pb(b:Bool):List ac:=[.bool b]
def Sd:List Bool→Nat
 | []=>0
 | b::l=>(if b then 0 else 1)+Sd l
theorem Cj:∀{l:List Bool} {x:Nat},l[x]? = some false→Sd (l.set x true)+1=Sd l
 | b::l,0,h=>by
  cases (show b=false by simpa using h);simp[Sd];omega
 | b::l,x+1,h=>by
  have:=Cj (l:=l) (x:=x) (by simpa using h);simp only[List.set_cons_succ,Sd];omega
 | [],x,h=>by simp at h
theorem gU.putB{bs ns}(h:gU bs ns){v:Nat}{q:Bool}:gU (bs.set v q) ns:=⟨by rw[dl];exact h.b,h.n,h.r⟩
theorem gU.overB{bs ns}(h:gU bs ns){v:Nat}{q:Bool}(hv:v<8):Lith.over (jU bs ns) v [.bool q]=jU (bs.set v q) ns:=by
 rw[yL (by rw[h.len];omega),jU,List.set_append_left _ _ (by rw[ct,h.b];exact hv),jU,me]
theorem alO{w:ah}{a:Addr}{n:Nat}{v:ac}(h:nV w (a.add (n*1)) [v]):w.cell? (a.add n)=some v:=by
 have:=h 0 v rfl;rw[Nat.mul_one] at this;exact this
theorem ahD{sn:List Bool}{x:Nat}(h:x<sn.length):over (sn.map bf) x [.bool true]=(sn.set x true).map bf:=by
 rw[yL (by rw[ct];exact h),me]
theorem ahE{A:Option Addr}{ci:Nat}{ins:List Bool}{cx cy cz:Nat}(w:ah)(hF:vH Pb 1 w A 125 ins)(hx:cx≤3)(hy:cy≤3)(hz:cz≤3):dF prog 143 [.agg #[.int .i64 2,.slice A 125 ci],.agg #[.int .i64 (cx:Int),.int .i64 (cy:Int),.int .i64 (cz:Int)]] w (fun v w'=>∃ts:List T3,(ts.length≤24∧∀t∈ts,SmT t)∧SL 39 9 (ts.flatMap aK) ts.length w v w'):=by
 refine⟨ajL,?_⟩;have m:=Mem.refl w
 go_enter func143,ntmps143
 refine eS 9 [] m ?_;simp only[↓aD,alw,aa];intro g1 g2;intro u m;refine cR 1 [] m ?_;simp only[↓aD];intro g3;intro u m;refine cR 8 [0] m ?_;simp only[↓aD];intro u m;refine bW [6] [17,18,19,20,21,22,23,24,25,26,27,28,29,30,31,32,33,34,35,36,37,38,39,40,41,42,43,44,45,46,47,48] (fun n vs wl=>∃(v:Nat) (bs:List Bool),vs=[.int .i64 (v:Int)]∧Mem w wl [bI g3 (jU bs (de 24 0)) 264,bI g2 [.int .i64 (cx:Int),.int .i64 (cy:Int),.int .i64 (cz:Int)] 36,bI g1 [.int .i64 2,.slice A 125 ci] 139]∧(gU bs (de 24 0))∧(v≤8)∧(n=8-v)) ?_ ?_
 · skip
   apply Exists.intro;simp only[zQ,zR,zD,zE];exact⟨0,de 8 false,rfl,m,⟨rfl,rfl,by decide⟩,by omega,rfl⟩
 · intro n vs wr hI u K1 hK1
   clear m;obtain⟨v,bs,rfl,m,hc,hv,hn⟩:=hI;simp only[zu,zF,zG];refine aS 6 [0,0] m ?_;simp only[↓aD];intro u m;refine bC rfl (fun hc1=>?_) (fun hc1=>?_)
   · skip
     have hv8:v<8:=by omega
     refine aS 3 [] m ?_;simp only[↓aD];intro u m;obtain⟨bq,hbq,a,hA,hrow⟩:=hF.get (i:=((cz+v / 4)*5+(cy+v / 2%2))*5+(cx+v%2)) (by omega);subst hA;refine gc (cL m 28 aC (by kernel_rfl) ?_);simp only[zy];refine eC 9 [2,2,1] ?_;simp only[↓aD,pD,Gs,xG,dR,gY,aa,ab,ad];refine⟨by omega,?_⟩;refine aH (jY rfl rfl (Kz hv8)) (eC 4 [1] ?_);simp only[↓aD,gY,dR,ab,ad,aa];refine⟨by omega,?_⟩;refine aH (jQ rfl rfl (by omega) Zh) (aH (jY rfl rfl (Kz (k:=v / 2) (by omega))) ?_);refine eC 4 [1] ?_;simp only[↓aD,gY,dR,ab,ad,aa];refine⟨by omega,?_⟩;refine aH (jQ rfl rfl (by omega) Sb) ?_;simp only[zz];refine aH (eL rfl rfl (bF (by omega) (by omega))) ?_;simp only[zz];refine iF rfl rfl (tS (x:=cx+v%2) (y:=cy+v / 2%2) (z:=cz+v / 4) (by omega) (by omega) (by omega)) ?_;simp only[zz];refine aH (aF Gw dM rfl rfl (by omega) (by omega) (pP (ag _))) ?_;simp only[zz];refine ql rfl (fun u m=>(lies1 (alO (hrow.ext m.ext)) mN)) ?_;simp only[zz];refine aH (cJ rfl) (eC 1 [] ?_);simp only[↓aD,nQ,aa];refine aH (aJ uV dM rfl rfl (by omega) (by omega) (eT (ag _))) (aY ?_);clear m;intro u m;simp only[zz];refine cK m 0 rfl rfl rfl dM (by rw[hc.len];show _+1≤_;omega) ⟨rfl,rfl⟩ ?_;clear m;intro u m;simp only[zz] at m;rw[hc.overB hv8] at m;refine aL (cR 6 [0] m ?_);simp only[↓aD];refine⟨by omega,?_⟩;intro u m;refine hK1 (8-(v+1)) _ _ ?_ ?_ ?_
     · omega
     · simp only[zz,zv]
     · simp only[zQ,zR,zD,zE]
       exact⟨v+1,_,rfl,m,hc.putB,by omega,rfl⟩
   · skip
     refine aS 7 [0] m ?_;simp only[↓aD];intro u m;refine bW [7] [49,50,51,52,53,54,55,56,57] (fun n vs wl=>∃(e:Nat) (ns:List Int),vs=[.int .i64 (e:Int)]∧Mem w wl [bI g3 (jU bs ns) 264,bI g2 [.int .i64 (cx:Int),.int .i64 (cy:Int),.int .i64 (cz:Int)] 36,bI g1 [.int .i64 2,.slice A 125 ci] 139]∧(gU bs ns)∧(e≤24)∧(n=24-e)) ?_ ?_
     · skip
       apply Exists.intro;simp only[zQ,zR,zD,zE];exact⟨0,_,rfl,m,hc,by omega,rfl⟩
     · intro n vs wr hI u K2 hK2
       clear m;obtain⟨e,ns,rfl,m,hc,he,hn⟩:=hI;simp only[zu,zF,zG];refine aS 6 [0,0] m ?_;simp only[↓aD];intro u m;refine bC rfl (fun hc2=>?_) (fun hc2=>?_)
       · skip
         have he24:e<24:=by omega
         refine aS 8 [0] m ?_;simp only[↓aD,rW,aa];intro u m;refine aB (aJ Bk aX rfl rfl (by omega) (by omega) Lb) ?_;simp only[zz];refine cK m 0 rfl rfl rfl aX (by rw[hc.len];show _+1≤_;omega) ⟨rfl,rfl⟩ ?_;clear m;intro u m;simp only[zz] at m;rw[hc.over he24] at m;refine aP 7 [0] m ?_;simp only[↓aD];refine⟨by omega,?_⟩;intro u m;refine hK2 (24-(e+1)) _ _ ?_ ?_ ?_
         · omega
         · simp only[zz,zv]
         · simp only[zQ,zR,zD,zE]
           exact⟨e+1,_,rfl,m,hc.put (by omega),by omega,rfl⟩
       · skip
         refine aS 7 [0] m ?_;simp only[↓aD];intro u m;refine bW [8] [58,59,60,61,62,63,64,65,66,67] (fun n vs wl=>∃(a:Nat) (ns:List Int),vs=[.int .i64 (a:Int)]∧Mem w wl [bI g3 (jU bs ns) 264,bI g2 [.int .i64 (cx:Int),.int .i64 (cy:Int),.int .i64 (cz:Int)] 36,bI g1 [.int .i64 2,.slice A 125 ci] 139]∧(gU bs ns)∧(a≤3)∧(n=3-a)) ?_ ?_
         · skip
           apply Exists.intro;simp only[zQ,zR,zD,zE];exact⟨0,_,rfl,m,hc,by omega,rfl⟩
         · intro n vs wr hI u K3 hK3
           clear m;obtain⟨a,ns,rfl,m,hc,ha,hn⟩:=hI;simp only[zu,zF,zG];refine aS 6 [0,0] m ?_;simp only[↓aD];intro u m;refine bC rfl (fun hc3=>?_) (fun hc3=>?_)
           · skip
             have ha3:a<3:=by omega
             refine aS 7 [0] m ?_;simp only[↓aD];intro u m;replace m:=m.pull 0 rfl;simp only[cY,cZ,zF,zG] at m;replace m:=m.pack1;refine jB rfl rfl (Vk m hc (by omega)) ?_;clear m;rintro v u ⟨ns2,hc2,m⟩;simp only[zz];replace m:=Mem.unpack [_] m;simp only[b_,bv] at m;refine aP 4 [0] m ?_;simp only[↓aD];intro u m;replace m:=m.pull 0 rfl;simp only[cY,cZ,zF,zG] at m;replace m:=m.pack1;refine jB rfl rfl (Vk m hc2 (by omega)) ?_;clear m;rintro v u ⟨ns3,hc3,m⟩;simp only[zz];replace m:=Mem.unpack [_] m;simp only[b_,bv] at m;refine aP 7 [0] m ?_;simp only[↓aD];refine⟨by omega,?_⟩;intro u m;refine hK3 (3-(a+1)) _ _ ?_ ?_ ?_
             · omega
             · simp only[zz,zv]
             · simp only[zQ,zR,zD,zE]
               exact⟨a+1,_,rfl,m,hc3,by omega,rfl⟩
           · skip
             refine aS 6 [2,0] m ?_;simp only[↓aD,xG,dR,aa,Int.reduceSub];refine⟨by omega,?_⟩;intro u m;refine aB (nZ rfl rfl (by omega) (show IntKind.i64.wrap (1*2^min (ja 19) IntKind.i64.bits)=524288 from by decide)) (aP 4 [0] m ?_);simp only[↓aD];intro u m;refine aB aM ?_;replace m:=m.nilO 39 9;refine aP 4 [] m ?_;simp only[↓aD,alz,aa];intro u m;refine cR 1 [] m ?_;simp only[↓aD,aly];intro g4;intro u m;refine cR 1 [0] m ?_;simp only[↓aD,alx,aa];intro u m;refine cR 7 [0] m ?_;simp only[↓aD];intro u m;refine bW [10,12] [13,14,73,74,75,76,77,78,79,80,81,82,83,84,85,86,87,88,89,90,91,92,93,94,95,96,97,98,99,100,101,102,103,104,105,106,107,108,109,110,111,112] (fun n vs wl=>∃(e n10:Nat) (ts:List T3) (sn:List Bool) (A10:Option Addr) (cap10:Nat),vs=[.slice A10 n10 cap10,.int .i64 (e:Int)]∧Mem w wl [bI g4 (sn.map bf) 266,oI 39 9 A10 n10 cap10 (ts.flatMap aK),bI g3 (jU bs ns) 264,bI g2 [.int .i64 (cx:Int),.int .i64 (cy:Int),.int .i64 (cz:Int)] 36]∧(sn.length=24)∧(ts.length=n10)∧(∀t∈ts,SmT t)∧(n10+Sd sn≤24)∧(e≤24)∧(n=24-e)) ?_ ?_
             · skip
               apply Exists.intro;simp only[zQ,zR,zD,zE];exact⟨0,0,[],de 24 false,none,0,rfl,(m.sel [true,true,true,true,false]),rfl,rfl,by simp,by decide,by omega,rfl⟩
             · intro n vs wr hI u K4 hK4
               clear m;obtain⟨e,n10,ts,sn,A10,cap10,rfl,m,hsn,hlt,hts,hcn,he,hn⟩:=hI;simp only[zu,zF,zG];refine aS 6 [0,0] m ?_;simp only[↓aD];intro u m;refine bC rfl (fun hc4=>?_) (fun hc4=>?_)
               · skip
                 have he24:e<24:=by omega
                 refine aS 5 [0] m ?_;simp only[↓aD];intro u m;refine aB aM ?_;replace m:=m.nilO 30 3;refine aP 8 [0] m ?_;simp only[↓aD];intro u m;refine bW [13,14] [78,79,80,81,82,83,84,85,86,87,88,89,90,91,92,93,94,95,96,97,98,99,100,101,102,103,104,105] (fun n vs wl=>∃(x n13:Nat) (ps:List P3) (sn:List Bool) (A13:Option Addr) (cap13:Nat),vs=[.slice A13 n13 cap13,.int .i64 (x:Int)]∧Mem w wl [oI 30 3 A13 n13 cap13 (ps.flatMap dN),bI g4 (sn.map bf) 266,oI 39 9 A10 n10 cap10 (ts.flatMap aK),bI g3 (jU bs ns) 264,bI g2 [.int .i64 (cx:Int),.int .i64 (cy:Int),.int .i64 (cz:Int)] 36]∧(sn.length=24)∧(ps.length=n13)∧(∀p∈ps,Sm p)∧(n10+n13+Sd sn≤24)∧(x<24)∧(n=Sd sn)) ?_ ?_
                 · skip
                   apply Exists.intro;simp only[zQ,zR,zD,zE];exact⟨e,0,[],sn,none,0,rfl,m,hsn,rfl,by simp,by omega,he24,rfl⟩
                 · intro n vs wr hI u K5 hK5
                   clear m;obtain⟨x,n13,ps,sn,A13,cap13,rfl,m,hsn,hpl,hps,hcn,hx24,hn⟩:=hI;obtain⟨q,hq,hq1⟩:=hc.nx hx24;obtain⟨y,hy0⟩:∃y,sn[x]? = some y:=⟨_,an (by omega)⟩
                   have hym:(sn.map bf)[x]? = some (.bool y):=by rw[dw,hy0];rfl
                   simp only[zu,zF,zG];refine aS 2 [] m ?_;simp only[↓aD];intro u m;rcases (show ¬0≤q∨(0≤q∧y=true)∨(0≤q∧y=false) by cases y <;> simp <;> omega) with hq0 | ⟨hq0,rfl⟩ | ⟨hq0,rfl⟩
                   · skip
                     refine cR 5 [0] m ?_;simp only[↓aD,rW,aa];intro u m;refine aB (aJ Bk aX rfl rfl (by omega) (by omega) Lb) ?_;simp only[zz];refine aO rfl (lies1 ((m.b 3 rfl).cell hq) bN) ?_;simp only[zz];refine aP 16 [2,0,0] m ?_;simp only[↓aD,kX];refine⟨by omega,?_⟩;intro u m;refine bC rfl (fun hc6=>?_) (fun hc6=>?_)
                     · skip
                       refine aS 3 [0] m ?_;simp only[↓aD];intro u m;refine bJ rfl rfl (aa1 _ ((m.o 0 rfl).lat (enc:=dN) (fun _=>rfl) (by decide)) (by omega) (by omega) hps) ?_;rintro v u e ⟨us,hus,A14,cap14,n14,hn14,rfl,hN⟩;replace m:=m.newO e hN;clear e hN;simp only[zz];refine bR m 3 rfl rfl bT iA rfl (by decide) rfl rfl (m.o 0 rfl).own.1 (m.o 0 rfl).row (tI _) (by omega) (by omega) ?_;clear m;intro A10 cap10 u m;simp only[zF,zG] at m;rw[←av] at m;refine aP 8 [0] m ?_;simp only[↓aD];refine⟨by omega,?_⟩;intro u m;refine hK4 (24-(e+1)) _ _ ?_ ?_ ?_
                       · omega
                       · simp only[zz,zv]
                       · simp only[zQ,zR,zD,zE]
                         exact⟨e+1,_,_,_,_,_,rfl,(m.sel [false,false,true,true,true,true]),hsn,by rw[aw];omega,fun t ht=>(bg.1 ht).elim (hts t) (hus.2 t),by omega,by omega,rfl⟩
                     · skip
                       refine aS 7 [0] m ?_;simp only[↓aD];refine⟨by omega,?_⟩;intro u m;refine hK4 (24-(e+1)) _ _ ?_ ?_ ?_
                       · omega
                       · simp only[zz,zv]
                       · simp only[zQ,zR,zD,zE]
                         exact⟨e+1,_,_,_,_,_,rfl,(m.sel [false,true,true,true,true]),hsn,hlt,hts,by omega,by omega,rfl⟩
                   · skip
                     refine cR 5 [0] m ?_;simp only[↓aD,rW,aa];intro u m;refine aB (aJ Bk aX rfl rfl (by omega) (by omega) Lb) ?_;simp only[zz];refine aO rfl (lies1 ((m.b 3 rfl).cell hq) bN) ?_;simp only[zz];refine aP 3 [1,0] m ?_;simp only[↓aD];refine⟨by omega,?_⟩;intro u m;refine eD rfl (aB (aJ underlying266 dM rfl rfl (by omega) (by omega) (eT (ag _))) (eD rfl ?_));simp only[zz];refine aO rfl (lies1 ((m.b 1 rfl).cell hym) mN) ?_;simp only[zz];refine aP 11 [0,0] m ?_;simp only[↓aD,kX,el,ei];intro u m;refine bC rfl (fun hc6=>?_) (fun hc6=>?_)
                     · skip
                       refine aS 3 [0] m ?_;simp only[↓aD];intro u m;refine bJ rfl rfl (aa1 _ ((m.o 0 rfl).lat (enc:=dN) (fun _=>rfl) (by decide)) (by omega) (by omega) hps) ?_;rintro v u e ⟨us,hus,A14,cap14,n14,hn14,rfl,hN⟩;replace m:=m.newO e hN;clear e hN;simp only[zz];refine bR m 3 rfl rfl bT iA rfl (by decide) rfl rfl (m.o 0 rfl).own.1 (m.o 0 rfl).row (tI _) (by omega) (by omega) ?_;clear m;intro A10 cap10 u m;simp only[zF,zG] at m;rw[←av] at m;refine aP 8 [0] m ?_;simp only[↓aD];refine⟨by omega,?_⟩;intro u m;refine hK4 (24-(e+1)) _ _ ?_ ?_ ?_
                       · omega
                       · simp only[zz,zv]
                       · simp only[zQ,zR,zD,zE]
                         exact⟨e+1,_,_,_,_,_,rfl,(m.sel [false,false,true,true,true,true]),hsn,by rw[aw];omega,fun t ht=>(bg.1 ht).elim (hts t) (hus.2 t),by omega,by omega,rfl⟩
                     · skip
                       refine aS 7 [0] m ?_;simp only[↓aD];refine⟨by omega,?_⟩;intro u m;refine hK4 (24-(e+1)) _ _ ?_ ?_ ?_
                       · omega
                       · simp only[zz,zv]
                       · simp only[zQ,zR,zD,zE]
                         exact⟨e+1,_,_,_,_,_,rfl,(m.sel [false,true,true,true,true]),hsn,hlt,hts,by omega,by omega,rfl⟩
                   · skip
                     refine cR 5 [0] m ?_;simp only[↓aD,rW,aa];intro u m;refine aB (aJ Bk aX rfl rfl (by omega) (by omega) Lb) ?_;simp only[zz];refine aO rfl (lies1 ((m.b 3 rfl).cell hq) bN) ?_;simp only[zz];refine aP 3 [1,0] m ?_;simp only[↓aD];refine⟨by omega,?_⟩;intro u m;refine eD rfl (aB (aJ underlying266 dM rfl rfl (by omega) (by omega) (eT (ag _))) (eD rfl ?_));simp only[zz];refine aO rfl (lies1 ((m.b 1 rfl).cell hym) mN) ?_;simp only[zz];refine aP 10 [0] m ?_;simp only[↓aD,el,ei];intro u m;refine aB (aJ underlying266 dM rfl rfl (by omega) (by omega) (eT (ag _))) ?_;simp only[zz];refine cK m 1 rfl rfl rfl dM (by rw[ct];show _+1≤_;omega) ⟨rfl,rfl⟩ ?_;clear m;intro u m;simp only[zz] at m;rw[ahD (by omega)] at m;refine aP 6 [4,0] m ?_;simp only[↓aD,xE];intro u m;refine cW m rfl rfl (acj _ (by omega) (by omega) (by omega) hx24) ?_;clear m;rintro v u m ⟨pp,rfl,hpp⟩;simp only[zz];refine mO rfl ?_;intro u g5 e hg hB;replace m:=m.newB e hg hB;clear e hg hB;simp only[zz];refine bR m 1 rfl rfl dS oD rfl (by decide) rfl rfl rfl (m.b 0 rfl).rowsO (jM rfl) (by omega) (by omega) ?_;clear m;intro A13 cap13 u m;simp only[zF,zG] at m;rw[show ps.flatMap dN++_=(ps++[pp]).flatMap dN by rw[av];rfl] at m;refine aP 8 [0] m ?_;simp only[↓aD,rW,aa];intro u m;refine aB (aJ Bk aX rfl rfl (by omega) (by omega) Lb) ?_;simp only[zz];refine aO rfl (lies1 ((m.b 4 rfl).cell hq) bN) ?_;simp only[zz];refine aP 2 [0] m ?_;simp only[↓aD];intro u m;have hcs:=Cj hy0;obtain⟨z,rfl⟩:∃z:Nat,q=z:=⟨q.toNat,by omega⟩
                     refine hK5 (Sd (sn.set x true)) _ _ ?_ ?_ ?_
                     · omega
                     · simp only[zz,zv]
                     · simp only[zQ,zR,zD,zE]
                       exact⟨z,_,_,_,_,_,rfl,(m.sel [false,true,true,true,true,true]),by rw[dl];exact hsn,by rw[aw,hpl];rfl,fun p hp=>(bg.1 hp).elim (hps p) fun h=>by cases ay.1 h;exact hpp,by omega,by omega,rfl⟩
               · skip
                 refine aS 7 [] m ?_;simp only[↓aD];intro u m;refine aQ rfl rfl ?_;try simp only[zD,zE]
                 exact⟨_,rfl,m.ext,ts,⟨by omega,hts⟩,_,_,_,hlt.symm,rfl,(m.o 1 rfl)⟩
theorem acl{A:Option Addr}{ci:Nat}{ins:List Bool}(w:ah)(hF:vH Pb 1 w A 125 ins):dF prog 142 [.agg #[.int .i64 2,.slice A 125 ci]] w (fun v _=>∃c,v=.bool c):=by
 refine⟨ajK,?_⟩;have m:=Mem.refl w
 go_enter func142,ntmps142
 refine eS 17 [0,2,0,0,0] m ?_;simp only[↓aD,xG,dR,aa];intro g1;refine⟨by omega,?_⟩;intro u m;refine bC rfl (fun hc1=>?_) (fun hc1=>?_)
 · skip
   refine aS 5 [] m ?_;simp only[↓aD];intro u m;exact aQ rfl rfl (⟨_,rfl,m.ext,_,rfl⟩)
 · skip
   refine aS 5 [0,0] m ?_;simp only[↓aD,xG,dR,aa];intro u m;refine aB (nZ rfl rfl (by omega) La) (aP 24 [0,2,0] m ?_);simp only[↓aD,pD,Gs,aiF,ai,aa,Int.reduceMul];refine⟨by omega,?_⟩;intro u m;refine bW [4] [2,5,6,7,8,30,31,32,33,34,35,36,37,38,39,40,41,42,43,44,45,46,47,48,49,50,51,52,53,54,55,56,57,58,59,60,61,62,63,64,65,66,67,68,69,70,71,72,73,74,75,76,77,78,79,80,81,82,83,84,85] (fun n vs wl=>∃(k:Nat),vs=[.int .i64 (k:Int)]∧Mem w wl [bI g1 [.int .i64 2,.slice A 125 ci] 139]∧(k≤125)∧(n=125-k)) ?_ ?_
   · skip
     apply Exists.intro;simp only[zQ,zR,zD,zE];exact⟨0,rfl,m,by omega,rfl⟩
   · intro n vs wr hI u K1 hK1
     clear m;obtain⟨k,rfl,m,hk,hn⟩:=hI;simp only[zu,zF,zG];refine aS 9 [0,0,0] m ?_;simp only[↓aD,pD,Gs,aiF,aa];intro u m;refine bC rfl (fun hc3=>?_) (fun hc3=>?_)
     · skip
       obtain⟨bq,hbq,a,hA,hrow⟩:=hF.get (i:=k) (by omega);subst hA;refine aS 7 [0] m ?_;simp only[↓aD];intro u m;refine aB (cU rfl rfl (by omega) (show ((k%5:Nat):Int)=_ from rfl)) (aP 6 [0] m ?_);simp only[↓aD];intro u m;refine aB (kF rfl rfl (by omega) (show IntKind.i64.wrap ((k / 5:Nat):Int)=_ from bF (by omega) (by omega))) (aP 1 [0] m ?_);simp only[↓aD];intro u m;refine aB (cU rfl rfl (by omega) (show ((k / 5%5:Nat):Int)=_ from rfl)) (aP 6 [0] m ?_);simp only[↓aD];intro u m;refine aB (kF rfl rfl (by omega) (show IntKind.i64.wrap ((k / 5:Nat):Int)=_ from bF (by omega) (by omega))) (aP 1 [0] m ?_);simp only[↓aD];intro u m;refine aB (kF rfl rfl (by omega) (show IntKind.i64.wrap ((k / 5 / 5:Nat):Int)=_ from bF (by omega) (by omega))) (aP 7 [0,0] m ?_);simp only[↓aD];intro u m;refine dG rfl (fun hb=>aI) (dG rfl (fun hb=>tC (bD hb rfl) rfl) (aB (dW rfl rfl rfl) ?_));refine aP 1 [0] m ?_;simp only[↓aD];intro u m;refine dG rfl (fun hb=>aI) (dG rfl (fun hb=>tC (bD hb rfl) rfl) (aB (dW rfl rfl rfl) ?_));refine aP 1 [0] m ?_;simp only[↓aD];intro u m;refine dG rfl (fun hb=>aI) (dG rfl (fun hb=>aI) (dG rfl (fun hb=>Cc (m:=5) (n:=1) (r:=4) (bD hb rfl) rfl (by decide)) (dG rfl (fun hb=>tC (bD hb rfl) (bD hb rfl)) ?_)));simp only[zz];refine aB (dW rfl rfl rfl) (aP 1 [0] m ?_);simp only[↓aD];intro u m;refine dG rfl (fun hb=>aI) (dG rfl (fun hb=>aI) (dG rfl (fun hb=>Cc (m:=5) (n:=1) (r:=4) (bD hb rfl) rfl (by decide)) (dG rfl (fun hb=>tC (bD hb rfl) (bD hb rfl)) ?_)));simp only[zz];refine aB (dW rfl rfl rfl) (aP 1 [0] m ?_);simp only[↓aD];intro u m;refine dG rfl (fun hb=>aI) (dG rfl (fun hb=>aI) (dG rfl (fun hb=>Cc (m:=5) (n:=1) (r:=4) (bD hb rfl) rfl (by decide)) (dG rfl (fun hb=>tC (bD hb rfl) (bD hb rfl)) ?_)));simp only[zz];refine aB (dW rfl rfl rfl) (aP 7 [0,0] m ?_);simp only[↓aD,pD,Gs,aa];intro u m;refine aB (aF Gw dM rfl rfl (by omega) (by omega) (pP (ag _))) ?_;simp only[zz];refine aO rfl (lies1 (alO (hrow.ext m.ext)) mN) ?_;simp only[zz];refine aP 1 [0] m ?_;simp only[↓aD];intro u m;refine kB rfl (fun hb=>aI) (aB (eO rfl rfl rfl) ?_);refine aP 1 [0] m ?_;simp only[↓aD];intro u m;refine dQ rfl (fun hc4=>?_) (fun hc4=>?_)
       · skip
         refine aS 5 [] m ?_;simp only[↓aD];intro u m;exact aQ rfl rfl (⟨_,rfl,m.ext,_,rfl⟩)
       · skip
         refine aS 7 [0] m ?_;simp only[↓aD];refine⟨by omega,?_⟩;intro u m;refine hK1 (125-(k+1)) _ _ ?_ ?_ ?_
         · omega
         · simp only[zz,zv]
         · simp only[zQ,zR,zD,zE]
           exact⟨k+1,rfl,m,by omega,rfl⟩
     · skip
       refine aS 6 [] m ?_;simp only[↓aD];intro u m;exact aQ rfl rfl (⟨_,rfl,m.ext,_,rfl⟩)
def ae0(z:Int):List ac:=[.int .i64 z]
theorem alP{ds:List cg}{Q:Exit→Act→ah→Prop}{w w0:ah}{is:List It}{c:Code}{a:Act}{l:Nat→Nat→List ac}{c1:List ac}{c2:Nat→List ac}{T1 T2:aj}(m:Mem w0 w is)(h1:c.wp prog (fun e a' u=>e=.normal∧∃g k,a'=Fr (l g k) ds∧Mem w0 u (bI k (c2 g) T2::bI g c1 T1::is)) a w)
 (h2:∀g k u,Mem w0 u (bI k (c2 g) T2::bI g c1 T1::is)→Q .normal (Fr (l g k) ds) u):c.wp prog Q a w:=by
 refine Code.wp_mono ?_ h1;rintro e a' u ⟨rfl,g,k,rfl,m'⟩;exact h2 g k u m'
theorem Se{ins:List Bool}{i:Nat}{c:Bool}(h:i<ins.length):over (ins.map bf) i [.bool c]=(ins.set i c).map bf:=by
 rw[yL (by rw[ct];exact h),me]
theorem acm{w:ah}{g n:Nat}{ins:List Bool}{t:aj}(h:fA w g (ins.map bf) t)(hl:ins.length=n):vH Pb 1 w (some ⟨g,0,none⟩) n ins:=⟨hl,fun i x hx=>⟨_,rfl,fun j u hj=>by
 have h1:j=0:=by
  have:=(ar.1 hj).1;simp[Pb] at this;omega
 subst h1;cases hj;rw[dT,dT,aq,Nat.mul_one,Nat.add_zero];exact h.cell (by rw[dw,hx];rfl)⟩⟩
theorem acn{A:Option Addr}{N cap:Nat}{zs:List Int}(w:ah)(hL:vH ae0 1 w A N zs)(hI:∀z∈zs,oV z):dF prog 84 [.int .i64 2,.slice A N cap] w (fun v w'=>∃A ci ins,v=.agg #[.int .i64 2,.slice A 125 ci]∧vH Pb 1 w' A 125 ins):=by
 refine⟨anN,?_⟩;have m:=Mem.refl w
 go_enter func84,ntmps84
 refine eS 5 [0] m ?_;simp only[↓aD,alo];intro g1;intro u m;apply alP m (T1:=4) (T2:=139)
 · skip
   refine Nv m [true] (.take 0 (.take 1 (.take 2 (.take 3 (.take 4 (.take 5 (.take 6 (.take 7 (.take 8 (.take 9 (.take 10 (.take 11 (.two 12 (.take 13 (.one 14 (.one 15 .nil))) 14 (.one 12 (.take 13 (.one 15 .nil)))))))))))))))) aC (by kernel_rfl) (fun _ _ _ _ _ h=>by cases h.1) ?_;intro u m;refine dO (by simp only[zw];rfl) (aU aI (bM (dO (by simp only[zw];rfl) (aU aI (bM (dO (by simp only[zw];rfl) ?_))))));simp only[zz];refine aU (nZ rfl rfl (by omega) La) (bM (dO (by simp only[zw];rfl) (aU (eL (m:=4) (n:=1) (r:=5) rfl rfl (by decide)) (bM (dO (by simp only[zw];rfl) (aU aI (bM (dO (by simp only[zw];rfl) ?_))))))));simp only[zz];refine aU (nZ rfl rfl (by omega) La) (bM (dO (by simp only[zw];rfl) (aU (eL (m:=4) (n:=1) (r:=5) rfl rfl (by decide)) (bM (dO (by simp only[zw];rfl) (aU (pN (m:=5) (n:=5) (r:=25) rfl rfl (by decide)) (bM (dO (by simp only[zw];rfl) (aU aI ?_)))))))));simp only[zz];refine bM (dO (by simp only[zw];rfl) (aU (nZ rfl rfl (by omega) La) (bM (dO (by simp only[zw];rfl) (aU (eL (m:=4) (n:=1) (r:=5) rfl rfl (by decide)) (bM (dO (by simp only[zw];rfl) (aU (pN (m:=25) (n:=5) (r:=125) rfl rfl (by decide)) (bM ?_)))))))));simp only[zz];refine Ty (by simp only[zw];rfl) (by simp only[zw];rfl) ?_ ?_
   · skip
     refine sB Gw ait rfl rfl rfl (show _=125 by omega) (show _=125 by omega) (by omega) (by omega) (by omega) (by omega) ?_;intro u g2 e hg hB;replace m:=m.newB e hg hB;clear e hg hB;refine aL (⟨m.sel [false,true],?_⟩);refine dO (by simp only[zw];rfl) (aU (vI rfl rfl) (bM (lJ (by simp only[zw];rfl) ?_)));simp only[zz];refine kO m Jt rfl ?_;clear m;intro g3 u m;refine aL (⟨m.sel [false,false,true],?_⟩);refine lJ (by simp only[zw];rfl) ?_;simp only[zz];refine cD m 0 rfl rfl rfl Ek (jE rfl) rfl ?_;clear m;intro u m;simp only[zy,zx,over,zF,zG,aa] at m;refine aL (⟨m.sel [false,false,true],?_⟩);exact Ab (⟨rfl,g2,g3,rfl,m⟩)
   · skip
     refine kO m Jt rfl ?_;clear m;intro g2 u m;refine aL (⟨m.sel [false,true],?_⟩);refine lJ (by simp only[zw];rfl) ?_;simp only[zz];refine sB Gw ait rfl rfl rfl (show _=125 by omega) (show _=125 by omega) (by omega) (by omega) (by omega) (by omega) ?_;intro u g3 e hg hB;replace m:=m.newB e hg hB;clear e hg hB;refine aL (⟨m.sel [false,false,true],?_⟩);refine dO (by simp only[zw];rfl) (aU (vI rfl rfl) (bM (lJ (by simp only[zw];rfl) ?_)));simp only[zz];refine cD m 1 rfl rfl rfl Ek (jE rfl) rfl ?_;clear m;intro u m;simp only[zy,zx,over,zF,zG,aa] at m;refine aL (⟨m.sel [false,false,true],?_⟩);exact Ab (⟨rfl,g3,g2,rfl,m.s01⟩)
 intro g2 g3 u m;try dsimp only
 refine cR 3 [0] m ?_;simp only[↓aD];intro u m;refine aB (nZ rfl rfl (by omega) La) (aP 9 [0] m ?_);simp only[↓aD,Int.reduceSub];refine⟨by omega,?_⟩;intro u m;refine bW [7] [8,9,10,11,12,30,31,32,33,34,35,36,37,38,39,40,41,42,43,44,45,46,47,48,49,50,51,52,53,54,55,56,57,58,59,60,61,62,63,64,65,66,67,68,69,70,71,72,73,74,75,76,77,78,79,80,81,82,83,84,85,86,87,88,89,90,91,92,93,94,95,96,97,98,99,100,101,102,103,104,105,106,107,108,109,110,111,112,113,114,115,116,117,118,119,120,121,122,123,124,125,126,127,128,129,130,131,132,133,134,135,136,137,138,139,140,141,142,143] (fun n vs wl=>∃(k:Nat) (ins:List Bool),vs=[.int .i64 (k:Int)]∧Mem w wl [bI g3 [.int .i64 2,.slice (some ⟨g2,0,none⟩) 125 125] 139,bI g2 (ins.map bf) 4,bI g1 [.int .i64 0,.slice none 0 0] 139]∧(ins.length=125)∧(k≤60∧k≤N)∧(n=60-k)) ?_ ?_
 · skip
   apply Exists.intro;simp only[zQ,zR,zD,zE];exact⟨0,de 125 false,rfl,m,rfl,by omega,rfl⟩
 · intro n vs wr hI u K1 hK1
   clear m;obtain⟨k,ins,rfl,m,hil,hk,hn⟩:=hI;simp only[zu,zF,zG];refine aS 8 [0,0] m ?_;simp only[↓aD,Vd];intro u m;refine kB rfl (fun hb=>aI) (kB rfl (fun hb=>zX (bD hb rfl) rfl) (aB (eO rfl rfl rfl) ?_));refine aP 1 [0] m ?_;simp only[↓aD];intro u m;refine dQ rfl (fun hc1=>?_) (fun hc1=>?_)
   · skip
     have hk2:k<N∧k<60:=by simp only[Bool.and_eq_true,decide_eq_true_eq] at hc1;omega
     obtain⟨q,hq,a,hA,hrow⟩:=hL.get (i:=k) (by omega);subst hA;have hqb:=hI q (List.mem_of_getElem? hq);unfold oV at hqb;refine aS 7 [0] m ?_;simp only[↓aD];intro u m;refine aB (aF lM aX rfl rfl (by omega) (by omega) (pP (ag _))) ?_;simp only[zz];refine aO rfl (lies1 (alO (hrow.ext m.ext)) bN) ?_;simp only[zz];refine aP 8 [0,0] m ?_;simp only[↓aD];intro u m;refine Jz m [8] [46,47] (fun vs=>∃(z:Nat),vs=[.int .i64 (z:Int)]∧(z<9223372036854775808)) ?_ ?_
     · intro K2 hK2
       refine bC rfl (fun hc2=>?_) (fun hc2=>?_)
       · skip
         refine aS 5 [0] m ?_;simp only[↓aD];refine⟨by omega,?_⟩;intro u m;obtain⟨z,hz⟩:∃z:Nat,(z:Int) = -1-q:=⟨(-1-q).toNat,by omega⟩
         rw[←hz];refine hK2 _ _ ?_ m ?_
         · simp only[zz,zv]
         · simp only[zQ,zR,zD,zE]
           exact⟨z,rfl,by omega⟩
       · skip
         refine aS 1 [0] m ?_;simp only[↓aD];intro u m;obtain⟨z,rfl⟩:∃z:Nat,q=z:=⟨q.toNat,by omega⟩
         refine hK2 _ _ ?_ m ?_
         · simp only[zz,zv]
         · simp only[zQ,zR,zD,zE]
           exact⟨z,rfl,by omega⟩
     · intro vs wr m hI u
       obtain⟨z,rfl,hz⟩:=hI;simp only[zu,zF,zG];refine cR 4 [0] m ?_;simp only[↓aD];intro u m;refine aB (cU rfl rfl (by omega) (show ((z%3:Nat):Int)=_ from rfl)) (aP 6 [0] m ?_);simp only[↓aD];intro u m;refine aB (kF rfl rfl (by omega) (show IntKind.i64.wrap ((z / 3:Nat):Int)=_ from bF (by omega) (by omega))) (aP 1 [0] m ?_);simp only[↓aD];intro u m;refine aB (cU rfl rfl (by omega) (show ((z / 3%3:Nat):Int)=_ from rfl)) (aP 6 [0] m ?_);simp only[↓aD];intro u m;refine aB (kF rfl rfl (by omega) (show IntKind.i64.wrap ((z / 3:Nat):Int)=_ from bF (by omega) (by omega))) (aP 1 [0] m ?_);simp only[↓aD];intro u m;refine aB (kF rfl rfl (by omega) (show IntKind.i64.wrap ((z / 3 / 3:Nat):Int)=_ from bF (by omega) (by omega))) (aP 1 [0] m ?_);simp only[↓aD];intro u m;refine aB (cU rfl rfl (by omega) (show ((z / 3 / 3%3:Nat):Int)=_ from rfl)) (aP 6 [0] m ?_);simp only[↓aD];intro u m;refine aB (kF rfl rfl (by omega) (show IntKind.i64.wrap ((z / 3:Nat):Int)=_ from bF (by omega) (by omega))) (aP 1 [0] m ?_);simp only[↓aD];intro u m;refine aB (kF rfl rfl (by omega) (show IntKind.i64.wrap ((z / 3 / 3:Nat):Int)=_ from bF (by omega) (by omega))) (aP 1 [0] m ?_);simp only[↓aD];intro u m;refine aB (kF rfl rfl (by omega) (show IntKind.i64.wrap ((z / 3 / 3 / 3:Nat):Int)=_ from bF (by omega) (by omega))) (aP 3 [0] m ?_);simp only[↓aD];intro u m;refine cL m 14 aC (by kernel_rfl) ?_;simp only[zy];refine eC 9 [0] ?_;simp only[↓aD,pD,Gs,aa];refine⟨by omega,?_⟩;refine iF rfl rfl (tS (x:=1+z%3) (y:=1+z / 3%3) (z:=1+z / 3 / 3%3) (by omega) (by omega) (by omega)) (aH aI (aH (jY rfl rfl rfl) (aH (tC rfl rfl) ?_)));simp only[zz];refine aH (aF Gw dM rfl rfl (by omega) (by omega) (eT (ag _))) (aY ?_);clear m;intro u m;simp only[zz];refine cK m 1 rfl rfl rfl dM (by simp only[ct,dl,au,bt,hil];omega) ⟨rfl,rfl⟩ ?_;clear m;intro u m;simp only[zz] at m;rw[Se (by simp only[dl,hil];omega)] at m;refine aL (cR 4 [0] m ?_);simp only[↓aD];intro u m;refine aB (jY rfl rfl rfl) (aP 2 [0,0] m ?_);simp only[↓aD];intro u m;refine iM m 1 [] [87,88,89,90,91,92,93,94,95,96,97,98,99,100,101,102,103] (fun vs i=>∃(ins:List Bool),vs=[]∧i=bI g2 (ins.map bf) 4∧(ins.length=125)) ?_ ?_
       · intro K3 hK3
         refine bC rfl (fun hc3=>?_) (fun hc3=>?_)
         · skip
           refine cL m 17 aC (by kernel_rfl) ?_;simp only[zy];refine eC 6 [0] ?_;simp only[↓aD,pD,Gs,aa];refine⟨by omega,?_⟩;refine aH (cU rfl rfl (by omega) (show (((z%3+1)%3:Nat):Int)=_ from rfl)) (eC 5 [] ?_);simp only[↓aD];refine⟨by omega,?_⟩;refine iF rfl rfl (tS (x:=1+(z%3+1)%3) (y:=1+z / 3%3) (z:=1+z / 3 / 3%3) (by omega) (by omega) (by omega)) (aH aI (aH (jY rfl rfl rfl) (aH (tC rfl rfl) ?_)));simp only[zz];refine aH (aF Gw dM rfl rfl (by omega) (by omega) (eT (ag _))) (aY ?_);clear m;intro u m;simp only[zz];refine cK m 1 rfl rfl rfl dM (by simp only[ct,dl,au,bt,hil];omega) ⟨rfl,rfl⟩ ?_;clear m;intro u m;simp only[zz] at m;rw[Se (by simp only[dl,hil];omega)] at m;refine aL (gk ?_);refine hK3 _ _ _ ?_ m ?_
           · simp only[zz,zv]
           · simp only[zQ,zR,zD,zE]
             exact⟨_,trivial,rfl,by simp only[dl];exact hil⟩
         · skip
           refine aS 1 [0] m ?_;simp only[↓aD];intro u m;refine hK3 _ _ _ ?_ m ?_
           · simp only[zz,zv]
           · simp only[zQ,zR,zD,zE]
             exact⟨_,trivial,rfl,by first | exact hil | (simp only[dl];exact hil)⟩
       · intro vs i wr m hI u
         obtain⟨ins,rfl,rfl,hil⟩:=hI;simp only[zF,zG] at m;simp only[zu,zF,zG];refine cR 4 [0] m ?_;simp only[↓aD];intro u m;refine aB (jY rfl rfl rfl) (aP 2 [0,0] m ?_);simp only[↓aD];intro u m;refine iM m 1 [] [107,108,109,110,111,112,113,114,115,116,117,118,119,120,121,122,123] (fun vs i=>∃(ins:List Bool),vs=[]∧i=bI g2 (ins.map bf) 4∧(ins.length=125)) ?_ ?_
         · intro K4 hK4
           refine bC rfl (fun hc4=>?_) (fun hc4=>?_)
           · skip
             refine cL m 17 aC (by kernel_rfl) ?_;simp only[zy];refine eC 8 [0] ?_;simp only[↓aD,pD,Gs,aa];refine⟨by omega,?_⟩;refine aH (cU rfl rfl (by omega) (show (((z / 3%3+1)%3:Nat):Int)=_ from rfl)) (eC 3 [] ?_);simp only[↓aD];refine⟨by omega,?_⟩;refine iF rfl rfl (tS (x:=1+z%3) (y:=1+(z / 3%3+1)%3) (z:=1+z / 3 / 3%3) (by omega) (by omega) (by omega)) (aH aI (aH (jY rfl rfl rfl) (aH (tC rfl rfl) ?_)));simp only[zz];refine aH (aF Gw dM rfl rfl (by omega) (by omega) (eT (ag _))) (aY ?_);clear m;intro u m;simp only[zz];refine cK m 1 rfl rfl rfl dM (by simp only[ct,dl,au,bt,hil];omega) ⟨rfl,rfl⟩ ?_;clear m;intro u m;simp only[zz] at m;rw[Se (by simp only[dl,hil];omega)] at m;refine aL (gk ?_);refine hK4 _ _ _ ?_ m ?_
             · simp only[zz,zv]
             · simp only[zQ,zR,zD,zE]
               exact⟨_,trivial,rfl,by simp only[dl];exact hil⟩
           · skip
             refine aS 1 [0] m ?_;simp only[↓aD];intro u m;refine hK4 _ _ _ ?_ m ?_
             · simp only[zz,zv]
             · simp only[zQ,zR,zD,zE]
               exact⟨_,trivial,rfl,by first | exact hil | (simp only[dl];exact hil)⟩
         · intro vs i wr m hI u
           obtain⟨ins,rfl,rfl,hil⟩:=hI;simp only[zF,zG] at m;simp only[zu,zF,zG];refine cR 3 [0] m ?_;simp only[↓aD];intro u m;refine aB (jY rfl rfl rfl) (aP 2 [0,0] m ?_);simp only[↓aD];intro u m;refine iM m 1 [] [127,128,129,130,131,132,133,134,135,136,137,138,139,140,141,142,143] (fun vs i=>∃(ins:List Bool),vs=[]∧i=bI g2 (ins.map bf) 4∧(ins.length=125)) ?_ ?_
           · intro K5 hK5
             refine bC rfl (fun hc5=>?_) (fun hc5=>?_)
             · skip
               refine cL m 17 aC (by kernel_rfl) ?_;simp only[zy];refine eC 10 [0] ?_;simp only[↓aD,pD,Gs,aa];refine⟨by omega,?_⟩;refine aH (cU rfl rfl (by omega) (show (((z / 3 / 3%3+1)%3:Nat):Int)=_ from rfl)) ?_;simp only[zz];refine aH (eL rfl rfl (bF (by omega) (by omega))) ?_;simp only[zz];refine iF rfl rfl (tS (x:=1+z%3) (y:=1+z / 3%3) (z:=1+(z / 3 / 3%3+1)%3) (by omega) (by omega) (by omega)) (aH aI (aH (jY rfl rfl rfl) (aH (tC rfl rfl) ?_)));simp only[zz];refine aH (aF Gw dM rfl rfl (by omega) (by omega) (eT (ag _))) (aY ?_);clear m;intro u m;simp only[zz];refine cK m 1 rfl rfl rfl dM (by simp only[ct,dl,au,bt,hil];omega) ⟨rfl,rfl⟩ ?_;clear m;intro u m;simp only[zz] at m;rw[Se (by simp only[dl,hil];omega)] at m;refine aL (gk ?_);refine hK5 _ _ _ ?_ m ?_
               · simp only[zz,zv]
               · simp only[zQ,zR,zD,zE]
                 exact⟨_,trivial,rfl,by simp only[dl];exact hil⟩
             · skip
               refine aS 1 [0] m ?_;simp only[↓aD];intro u m;refine hK5 _ _ _ ?_ m ?_
               · simp only[zz,zv]
               · simp only[zQ,zR,zD,zE]
                 exact⟨_,trivial,rfl,by first | exact hil | (simp only[dl];exact hil)⟩
           · intro vs i wr m hI u
             obtain⟨ins,rfl,rfl,hil⟩:=hI;simp only[zF,zG] at m;simp only[zu,zF,zG];refine cR 6 [0] m ?_;simp only[↓aD];refine⟨by omega,?_⟩;intro u m;refine hK1 (60-(k+1)) _ _ ?_ ?_ ?_
             · omega
             · simp only[zz,zv]
             · simp only[zQ,zR,zD,zE]
               exact⟨k+1,_,rfl,m,hil,by omega,rfl⟩
   · skip
     refine aS 7 [0,2] m ?_;simp only[↓aD,Yz,aa];intro u m;exact aQ rfl ⟨_,rfl,((m.b 2 rfl).full ag2 Ek)⟩ (⟨_,rfl,m.ext,_,_,ins,rfl,acm (m.b 1 rfl) hil⟩)
end Go.Proofs.YtfekpcimgncioaaGreatDoor
namespace Go.Proofs.YtfekpcimgncioaaGreatDoor
open Go.Proofs.Tryz
open Go.RowKit Go.Lith
set_option maxRecDepth 100000
attribute [local irreducible] ao wpQuiet eZ bE bX Code.wp
theorem aiM{p:P3}:pQ prog 276 [pt p] (.int .i64 p.x):=by
 intro w;refine⟨adG,?_⟩;have m:=gH.refl w
 go_enter func276,ntmps276
 refine aV fun K1 k1=>am (mD m rfl ?_);clear m;intro g1 u m;refine aB aM (aL (k1 _ _ ?_));refine aV fun K2 k2=>am (aB (aZ (c:=0) underlying245 rfl aX rfl rfl) ?_);simp only[zz];refine aO rfl ((m.b 0 rfl).lies1 bN rfl) ?_;simp only[zz];refine aB aM (aL (k2 _ _ ?_));refine h_ ?_;simp only[zz];try simp only[cj,Exit.then,if_true]
 refine aQ rfl rfl ?_;try simp only[zD,zE]
 exact⟨_,rfl,m.ext,rfl⟩
theorem aiN{p:P3}:pQ prog 277 [pt p] (.int .i64 p.y):=by
 intro w;refine⟨adH,?_⟩;have m:=gH.refl w
 go_enter func277,ntmps277
 refine aV fun K1 k1=>am (mD m rfl ?_);clear m;intro g1 u m;refine aB aM (aL (k1 _ _ ?_));refine aV fun K2 k2=>am (aB (aZ (c:=0) underlying245 rfl aX rfl rfl) ?_);simp only[zz];refine aO rfl ((m.b 0 rfl).lies1 bN rfl) ?_;simp only[zz];refine aB aM (aL (k2 _ _ ?_));refine h_ ?_;simp only[zz];try simp only[cj,Exit.then,if_true]
 refine aQ rfl rfl ?_;try simp only[zD,zE]
 exact⟨_,rfl,m.ext,rfl⟩
theorem aiO{p:P3}:pQ prog 278 [pt p] (.int .i64 p.z):=by
 intro w;refine⟨adI,?_⟩;have m:=gH.refl w
 go_enter func278,ntmps278
 refine aV fun K1 k1=>am (mD m rfl ?_);clear m;intro g1 u m;refine aB aM (aL (k1 _ _ ?_));refine aV fun K2 k2=>am (aB (aZ (c:=0) underlying245 rfl aX rfl rfl) ?_);simp only[zz];refine aO rfl ((m.b 0 rfl).lies1 bN rfl) ?_;simp only[zz];refine aB aM (aL (k2 _ _ ?_));refine h_ ?_;simp only[zz];try simp only[cj,Exit.then,if_true]
 refine aQ rfl rfl ?_;try simp only[zD,zE]
 exact⟨_,rfl,m.ext,rfl⟩
theorem ahF  : pQ prog 195 [] (.agg #[.func (.func 276) #[] #[],.func (.func 277) #[] #[],.func (.func 278) #[] #[]]):=by
 intro w;refine⟨adF,?_⟩;have m:=gH.refl w
 go_enter func195,ntmps195
 refine aV fun K1 k1=>am (agP m Ug rfl ?_);clear m;intro g1 u m;refine aL (k1 _ _ ?_);refine aV fun K2 k2=>am (aB (Cu rfl rfl rfl) ?_);simp only[zz];refine adt m 0 rfl rfl rfl Em (jE rfl) rfl ?_;clear m;intro u m;simp only[zy,zx,over,zF,zG,aa] at m;refine aL (k2 _ _ ?_);refine h_ ?_;try simp only[cj,Exit.then,if_true]
 refine aQ rfl ⟨_,rfl,((m.b 0 rfl).full aaI Em)⟩ ?_;try simp only[zD,zE]
 exact⟨_,rfl,m.ext,rfl⟩
theorem qN{p q:P3}:pQ prog 130 [pt p,pt q] (.bool (decide (p.Lt q))):=by
 intro w;refine⟨ajI,?_⟩;have m:=gH.refl w
 go_enter func130,ntmps130
 refine aV fun K1 k1=>am (mD m rfl ?_);clear m;intro g1 u m;simp only[zz];refine mD m rfl ?_;clear m;intro g2 u m;refine aB aM (aL (k1 _ _ ?_));refine aV fun K2 k2=>aV fun K3 k3=>am ?_;simp only[zz];refine Hr m rfl rfl ahF ?_;clear m;intro u m;refine aB aI (aL (k3 _ _ ?_));refine ig (wp_loop_rounds 4 (wH (aV fun K4 k4=>am (aB (oB (m:=0) (n:=3) rfl rfl (by decide)) (aL (k4 _ _ ?_))))));refine aV fun K5 k5=>vV rfl (il (k5 _ _ ?_));refine aV fun K6 k6=>ig (aV fun K7 k7=>am (aB (Ag rfl rfl) ?_));simp only[zz];refine aB aM (aL (k7 _ _ ?_));refine aV fun K8 k8=>?_;simp only[zz];refine Gmq m aC (by kernel_rfl) (aH aI ?_);simp only[zz];refine Me rfl (fun u m=>((m.b 1 rfl).full aG aA)) ?_;simp only[zz];refine Ck rfl rfl aiM (aH aI ?_);simp only[zz];refine Me rfl (fun u m=>((m.b 0 rfl).full aG aA)) ?_;simp only[zz];refine Ck rfl rfl aiM (aH aM (aH aM (aY ?_)));clear m;intro u m;refine k8 _ _ ?_;refine aV fun K9 k9=>am (aB aI ?_);simp only[zz];refine aB aI (aB (pO rfl rfl) (aL (k9 _ _ ?_)));simp only[zz];refine bC rfl (fun hc2=>?_) (fun hc2=>?_)
 ·
  refine aV fun K10 k10=>am (aB aI (aB aI (aB (zX rfl rfl) (aB aM ?_))));simp only[zz];refine aL (k10 _ _ ?_);refine h_ ?_;try simp only[cj,Exit.then,if_true]
  refine aQ rfl rfl ?_;try simp only[zD,zE]
  exact⟨_,rfl,m.ext,by simp only[P3.lt_x hc2]⟩
 ·
  have ex:p.x=q.x:=by omega
  refine il (k6 _ _ ?_);refine am (aB (eL (m:=0) (n:=1) (r:=1) rfl rfl (by decide)) (aB aI (aL (jZ (aV fun K11 k11=>am (aB (oB (m:=1) (n:=3) rfl rfl (by decide)) (aL (k11 _ _ ?_))))))));refine aV fun K12 k12=>vV rfl (il (k12 _ _ ?_));refine aV fun K13 k13=>ig (aV fun K14 k14=>am (aB (Ah rfl rfl) ?_));simp only[zz];refine aB aM (aL (k14 _ _ ?_));refine aV fun K15 k15=>?_;simp only[zz];refine Gmq m aC (by kernel_rfl) (aH aI ?_);simp only[zz];refine Me rfl (fun u m=>((m.b 1 rfl).full aG aA)) ?_;simp only[zz];refine Ck rfl rfl aiN (aH aI ?_);simp only[zz];refine Me rfl (fun u m=>((m.b 0 rfl).full aG aA)) ?_;simp only[zz];refine Ck rfl rfl aiN (aH aM (aH aM (aY ?_)));clear m;intro u m;refine k15 _ _ ?_;refine aV fun K16 k16=>am (aB aI ?_);simp only[zz];refine aB aI (aB (pO rfl rfl) (aL (k16 _ _ ?_)));simp only[zz];refine bC rfl (fun hc2=>?_) (fun hc2=>?_)
  ·
   refine aV fun K17 k17=>am (aB aI (aB aI (aB (zX rfl rfl) (aB aM ?_))));simp only[zz];refine aL (k17 _ _ ?_);refine h_ ?_;try simp only[cj,Exit.then,if_true]
   refine aQ rfl rfl ?_;try simp only[zD,zE]
   exact⟨_,rfl,m.ext,by simp only[P3.lt_y ex hc2]⟩
  ·
   have ey:p.y=q.y:=by omega
   refine il (k13 _ _ ?_);refine am (aB (eL (m:=1) (n:=1) (r:=2) rfl rfl (by decide)) (aB aI (aL (jZ (aV fun K18 k18=>am (aB (oB (m:=2) (n:=3) rfl rfl (by decide)) (aL (k18 _ _ ?_))))))));refine aV fun K19 k19=>vV rfl (il (k19 _ _ ?_));refine aV fun K20 k20=>ig (aV fun K21 k21=>am (aB (Ai rfl rfl) ?_));simp only[zz];refine aB aM (aL (k21 _ _ ?_));refine aV fun K22 k22=>?_;simp only[zz];refine Gmq m aC (by kernel_rfl) (aH aI ?_);simp only[zz];refine Me rfl (fun u m=>((m.b 1 rfl).full aG aA)) ?_;simp only[zz];refine Ck rfl rfl aiO (aH aI ?_);simp only[zz];refine Me rfl (fun u m=>((m.b 0 rfl).full aG aA)) ?_;simp only[zz];refine Ck rfl rfl aiO (aH aM (aH aM (aY ?_)));clear m;intro u m;refine k22 _ _ ?_;refine aV fun K23 k23=>am (aB aI ?_);simp only[zz];refine aB aI (aB (pO rfl rfl) (aL (k23 _ _ ?_)));simp only[zz];refine bC rfl (fun hc2=>?_) (fun hc2=>?_)
   ·
    refine aV fun K24 k24=>am (aB aI (aB aI (aB (zX rfl rfl) (aB aM ?_))));simp only[zz];refine aL (k24 _ _ ?_);refine h_ ?_;try simp only[cj,Exit.then,if_true]
    refine aQ rfl rfl ?_;try simp only[zD,zE]
    exact⟨_,rfl,m.ext,by simp only[P3.lt_z ex ey]⟩
   ·
    have ez:p.z=q.z:=by omega
    refine il (k20 _ _ ?_);refine am (aB (eL (m:=2) (n:=1) (r:=3) rfl rfl (by decide)) (aB aI (aL (jZ (aV fun K25 k25=>am (aB (Aw (m:=3) (n:=3) rfl rfl (by decide)) (aL (k25 _ _ ?_))))))));refine aV fun K26 k26=>abp rfl (wp_exit (k2 _ _ ?_));refine aV fun K27 k27=>am (aB aM ?_);simp only[zz];refine aL (k27 _ _ ?_);refine h_ ?_;try simp only[cj,Exit.then,if_true]
    refine aQ rfl rfl ?_;try simp only[zD,zE]
    exact⟨_,rfl,m.ext,by rw[decide_eq_false (fun h=>by unfold P3.Lt at h;omega)]⟩
theorem yM{p q:P3}:pQ prog 116 [pt p,pt q] (.int .i64 (nX p q)):=by
 intro w;refine⟨ajy,?_⟩;have m:=gH.refl w
 go_enter func116,ntmps116
 refine aV fun K1 k1=>am (mD m rfl ?_);clear m;intro g1 u m;simp only[zz];refine mD m rfl ?_;clear m;intro g2 u m;refine aB aM (aL (k1 _ _ ?_));refine aV fun K2 k2=>ig (aV fun K3 k3=>am ?_);simp only[zz];refine aO rfl ((m.b 1 rfl).full aG aA) ?_;simp only[zz];refine aO rfl ((m.b 0 rfl).full aG aA) ?_;simp only[zz];refine Hr m rfl rfl qN ?_;clear m;intro u m;refine aB aM (aL (k3 _ _ ?_));simp only[zz];refine bC rfl (fun hc1=>?_) (fun hc1=>?_)
 ·
  refine aV fun K4 k4=>am (aB aM (aL (k4 _ _ ?_)));refine h_ ?_;simp only[zz];try simp only[cj,Exit.then,if_true]
  refine aQ rfl rfl ?_;try simp only[zD,zE]
  exact⟨_,rfl,m.ext,by simp[nX,hc1]⟩
 ·
  refine aV fun K5 k5=>am (aO rfl ((m.b 0 rfl).full aG aA) ?_);simp only[zz];refine aO rfl ((m.b 1 rfl).full aG aA) ?_;simp only[zz];refine Hr m rfl rfl qN ?_;clear m;intro u m;refine aB aM (aL (k5 _ _ ?_));simp only[zz];refine bC rfl (fun hc2=>?_) (fun hc2=>?_)
  ·
   refine aV fun K6 k6=>am (aB aM (aL (k6 _ _ ?_)));refine h_ ?_;simp only[zz];try simp only[cj,Exit.then,if_true]
   refine aQ rfl rfl ?_;try simp only[zD,zE]
   exact⟨_,rfl,m.ext,by simp[nX,hc1,hc2]⟩
  ·
   refine il (k2 _ _ ?_);refine aV fun K7 k7=>am (aB aM (aL (k7 _ _ ?_)));refine h_ ?_;simp only[zz];try simp only[cj,Exit.then,if_true]
   refine aQ rfl rfl ?_;try simp only[zD,zE]
   exact⟨_,rfl,m.ext,by simp[nX,hc1,hc2]⟩
end Go.Proofs.YtfekpcimgncioaaGreatDoor
namespace Go.Lith
open Go.RowKit
def ae1(P:Program)(f:FuncId)(args:List ac)(w:ah)(v:ac):Prop:=Entr P f∧Calls P f args.toArray w fun e w'=>∃u,e=.returned u∧GX w w'∧u=v
section
variable {P:Program} {ds:List cg} {l:List ac} {x y:a_} {T ty:aj}
variable {ops:Array Oper} {Q:Exit→Act→ah→Prop} {rest:List Oper} {d:Nat} {pos:String} {after:Array Edge} {w w0:ah} {is:List It} {v:ac}
theorem ae2{E:aj}{z:ac}(m:gH w0 w is)(hu:P.underlying T=some (.slice E))(hi:(P.info? E).map (fun i=>(i.size,i.zero))=some (1,some z))(hz:z.cells = #[z]){v v2:ac}(hx:ev l x=v)(hv:v.cells = #[v])(hy:ev l y=v2)(hv2:v2.cells = #[v2])
 (h:∀g u,gH w0 u (bI g [v,v2] E::is)→ao P ops Q rest (Fr (l.set d (.slice (some ⟨g,0,none⟩) 2 2)) ds) u) :
 ao P ops Q (bi (some d) (.buildSlice T 2 #[(0,x),(1,y)]) ty pos after none::rest) (Fr l ds) w:=by
 cases hq:P.info? E with
 | none=>rw[hq] at hi;cases hi
 | some i =>
  rw[hq] at hi;simp only[d_,fp,ff] at hi;obtain⟨e1,e2⟩:=hi;exact kN (w':=w.alloc (.cells #[v,v2] E)) (v:=.slice (some ⟨w.heap.size,0,none⟩) 2 2) (fun o ho _=>by simp[execOp,ho,Instr.buildSlice,bu hu,sizeOf,typeInfo,zeroValue,hq,e1,e2,hz,bS,hx,hv,hy,hv2,Instr.fill,newRow,newObj,Sem.run,Ci]) (h _ _ (m.go (m.mem.newB ((eW.refl w).alloc _) (ap _) (gX w [v,v2] E)) (ap _)))
theorem Sf(z v v2 v3:ac):(((Array.map (fun x=>[z][x%1]?.getD default) (Array.range 3)).setIfInBounds 0 v).setIfInBounds 1 v2).setIfInBounds 2 v3 = #[v,v2,v3]:=by
 apply Array.ext (by simp);intro i h1 h2;have h3:i<3:=by simpa using h2
 rcases Nat.lt_trichotomy i 1 with h | h | h
 · obtain rfl:i=0:=by omega
   simp
 · subst h
   simp
 · obtain rfl:i=2:=by omega
   simp
theorem Vl{E:aj}{z:ac}{y3:a_}(m:gH w0 w is)(hu:P.underlying T=some (.slice E))(hi:(P.info? E).map (fun i=>(i.size,i.zero))=some (1,some z))(hz:z.cells = #[z]){v v2 v3:ac}(hx:ev l x=v)(hv:v.cells = #[v])(hy:ev l y=v2)(hv2:v2.cells = #[v2])(hy3:ev l y3=v3)(hv3:v3.cells = #[v3])
 (h:∀g u,gH w0 u (bI g [v,v2,v3] E::is)→ao P ops Q rest (Fr (l.set d (.slice (some ⟨g,0,none⟩) 3 3)) ds) u) :
 ao P ops Q (bi (some d) (.buildSlice T 3 #[(0,x),(1,y),(2,y3)]) ty pos after none::rest) (Fr l ds) w:=by
 cases hq:P.info? E with
 | none=>rw[hq] at hi;cases hi
 | some i =>
  rw[hq] at hi;simp only[d_,fp,ff] at hi;obtain⟨e1,e2⟩:=hi;exact kN (w':=w.alloc (.cells #[v,v2,v3] E)) (v:=.slice (some ⟨w.heap.size,0,none⟩) 3 3) (fun o ho _=>by simp[execOp,ho,Instr.buildSlice,bu hu,sizeOf,typeInfo,zeroValue,hq,e1,e2,hz,bS,hx,hv,hy,hv2,hy3,hv3,Instr.fill,newRow,newObj,Sem.run,Sf]) (h _ _ (m.go (m.mem.newB ((eW.refl w).alloc _) (ap _) (gX w [v,v2,v3] E)) (ap _)))
theorem Sg{f:FuncId}{fo:a_}{xs:Array a_}{args:List ac}{first cap:Array ac}{a0:Array aj}(m:gH w0 w is)(hf:ev l fo=.func (.func f) first cap)(hxs:first.toList++xs.toList.map (ev l)++cap.toList=args)(hc:ae1 P f args w v)
 (h:∀u,gH w0 u is→ao P ops Q rest (Fr (l.set d v) ds) u):ao P ops Q (bi (some d) (.call { callee:=.value fo,args:=xs,argTypes:=a0 }) ty pos after none::rest) (Fr l ds) w:=by
 refine wpList_plain rfl fun K hK=>?_;unfold Oper.wp;rw[iY,nA hc.1 hf hxs _ rfl];refine hc.2.mono ?_;rintro e w' ⟨u,rfl,hE,rfl⟩;show K ((Fr l ds).put (some d) u) w'
 rw[gE];exact hK _ _ (h w' (m.ext' hE))
end
end Go.Lith
namespace Go.Proofs
open Go.Shelf
def Tryz.sort112_ren:Go.Shelf.Ren:=⟨fun | 6=>112 | 15=>181 | 14=>180 | 28=>254 | 29=>255 | 20=>246 | 21=>247 | 22=>248 | 23=>249 | 24=>250 | 25=>251 | 26=>252 | 27=>253 | 46=>309 | 47=>310 | 48=>311 | 49=>312 | 50=>313 | 57=>339 | n=>n,fun | 22=>27 | 24=>39 | 25=>162 | 3=>3 | 39=>141 | 0=>0 | 53=>297 | 55=>231 | 4=>4 | 46=>291 | 45=>290 | 50=>202 | 5=>5 | 9=>9 | 66=>343 | 70=>347 | 76=>369 | 77=>367 | n=>n,fun | n=>n⟩
theorem Tryz.sort112:Go.Proofs.SlLaysF0.n6 Tryz.prog Tryz.sort112_ren:={
 mixed:=by kernel_rfl
 f6:=⟨Tryz.f112.name,by decide,Tryz.func112.trans (congrArg some (by kernel_rfl))⟩
 f14:=⟨Tryz.f180.name,by decide,Tryz.func180.trans (congrArg some (by kernel_rfl))⟩
 f15:=Tryz.func181.trans (congrArg some (by kernel_rfl))
 f20:=⟨Tryz.f246.name,by decide,Tryz.func246.trans (congrArg some (by kernel_rfl))⟩
 f21:=⟨Tryz.f247.name,by decide,Tryz.func247.trans (congrArg some (by kernel_rfl))⟩
 f22:=⟨Tryz.f248.name,by decide,Tryz.func248.trans (congrArg some (by kernel_rfl))⟩
 f23:=⟨Tryz.f249.name,by decide,Tryz.func249.trans (congrArg some (by kernel_rfl))⟩
 f24:=⟨Tryz.f250.name,by decide,Tryz.func250.trans (congrArg some (by kernel_rfl))⟩
 f25:=⟨Tryz.f251.name,by decide,Tryz.func251.trans (congrArg some (by kernel_rfl))⟩
 f26:=⟨Tryz.f252.name,by decide,Tryz.func252.trans (congrArg some (by kernel_rfl))⟩
 f27:=⟨Tryz.f253.name,by decide,Tryz.func253.trans (congrArg some (by kernel_rfl))⟩
 f28:=Tryz.func254.trans (congrArg some (by kernel_rfl))
 f29:=Tryz.func255.trans (congrArg some (by kernel_rfl))
 f46:=⟨Tryz.f309.name,by decide,Tryz.func309.trans (congrArg some (by kernel_rfl))⟩
 f47:=Tryz.func310.trans (congrArg some (by kernel_rfl))
 f48:=Tryz.func311.trans (congrArg some (by kernel_rfl))
 f49:=⟨Tryz.f312.name,by decide,Tryz.func312.trans (congrArg some (by kernel_rfl))⟩
 f50:=⟨Tryz.f313.name,by decide,Tryz.func313.trans (congrArg some (by kernel_rfl))⟩
 f57:=⟨Tryz.f339.name,by decide,Tryz.func339.trans (congrArg some (by kernel_rfl))⟩
 t0:=Tryz.underlying0
 a0:=Tryz.isAgg0
 z0:=Tryz.sizeOf0
 v0:=Tryz.zeroValue0
 t3:=Tryz.underlying3
 a3:=Tryz.isAgg3
 z3:=Tryz.sizeOf3
 v3:=Tryz.zeroValue3
 t4:=Tryz.underlying4
 a4:=Tryz.isAgg4
 z4:=Tryz.sizeOf4
 v4:=Tryz.zeroValue4
 t5:=Tryz.underlying5
 a5:=Tryz.isAgg5
 z5:=Tryz.sizeOf5
 v5:=Tryz.zeroValue5
 t9:=Tryz.underlying9
 a9:=Tryz.isAgg9
 z9:=Tryz.sizeOf9
 v9:=Tryz.zeroValue9
 t22:=Tryz.underlying27
 a22:=Tryz.isAgg27
 z22:=Tryz.sizeOf27
 v22:=Tryz.zeroValue27
 t25:=Tryz.underlying162
 a25:=Tryz.isAgg162
 z25:=Tryz.sizeOf162
 v25:=Tryz.zeroValue162
 t39:=Tryz.underlying141
 a39:=Tryz.isAgg141
 z39:=Tryz.sizeOf141
 v39:=Tryz.zeroValue141
 t45:=Tryz.underlying290
 a45:=Tryz.isAgg290
 z45:=Tryz.sizeOf290
 v45:=Tryz.zeroValue290
 t46:=Tryz.underlying291
 a46:=Tryz.isAgg291
 z46:=Tryz.sizeOf291
 v46:=Tryz.zeroValue291
 t50:=Tryz.underlying202
 a50:=Tryz.isAgg202
 z50:=Tryz.sizeOf202
 v50:=Tryz.zeroValue202
 t53:=Tryz.underlying297
 a53:=Tryz.isAgg297
 z53:=Tryz.sizeOf297
 v53:=Tryz.zeroValue297
 t55:=Tryz.underlying231
 a55:=Tryz.isAgg231
 z55:=Tryz.sizeOf231
 v55:=Tryz.zeroValue231
 t66:=Tryz.underlying343
 a66:=Tryz.isAgg343
 z66:=Tryz.sizeOf343
 v66:=Tryz.zeroValue343
 t70:=Tryz.underlying347
 a70:=Tryz.isAgg347
 z70:=Tryz.sizeOf347
 v70:=Tryz.zeroValue347
 t76:=Tryz.underlying369
 a76:=Tryz.isAgg369
 z76:=Tryz.sizeOf369
 v76:=Tryz.zeroValue369
 t77:=Tryz.underlying367
 a77:=Tryz.isAgg367
 z77:=Tryz.sizeOf367
 v77:=Tryz.zeroValue367 }
def Tryz.sort123_ren:Go.Shelf.Ren:=⟨fun | 6=>123 | 15=>181 | 14=>190 | 28=>254 | 29=>255 | 20=>259 | 21=>260 | 22=>261 | 23=>262 | 24=>263 | 25=>264 | 26=>265 | 27=>266 | 46=>319 | 47=>310 | 48=>311 | 49=>320 | 50=>321 | 57=>343 | n=>n,fun | 22=>105 | 24=>112 | 25=>115 | 3=>3 | 39=>141 | 0=>0 | 53=>297 | 55=>231 | 4=>4 | 46=>291 | 45=>290 | 50=>202 | 5=>5 | 9=>9 | 66=>343 | 70=>347 | 76=>369 | 77=>367 | n=>n,fun | n=>n⟩
theorem Tryz.sort123:Go.Proofs.SlLaysF0.n6 Tryz.prog Tryz.sort123_ren:={
 mixed:=by kernel_rfl
 f6:=⟨Tryz.f123.name,by decide,Tryz.func123.trans (congrArg some (by kernel_rfl))⟩
 f14:=⟨Tryz.f190.name,by decide,Tryz.func190.trans (congrArg some (by kernel_rfl))⟩
 f15:=Tryz.func181.trans (congrArg some (by kernel_rfl))
 f20:=⟨Tryz.f259.name,by decide,Tryz.func259.trans (congrArg some (by kernel_rfl))⟩
 f21:=⟨Tryz.f260.name,by decide,Tryz.func260.trans (congrArg some (by kernel_rfl))⟩
 f22:=⟨Tryz.f261.name,by decide,Tryz.func261.trans (congrArg some (by kernel_rfl))⟩
 f23:=⟨Tryz.f262.name,by decide,Tryz.func262.trans (congrArg some (by kernel_rfl))⟩
 f24:=⟨Tryz.f263.name,by decide,Tryz.func263.trans (congrArg some (by kernel_rfl))⟩
 f25:=⟨Tryz.f264.name,by decide,Tryz.func264.trans (congrArg some (by kernel_rfl))⟩
 f26:=⟨Tryz.f265.name,by decide,Tryz.func265.trans (congrArg some (by kernel_rfl))⟩
 f27:=⟨Tryz.f266.name,by decide,Tryz.func266.trans (congrArg some (by kernel_rfl))⟩
 f28:=Tryz.func254.trans (congrArg some (by kernel_rfl))
 f29:=Tryz.func255.trans (congrArg some (by kernel_rfl))
 f46:=⟨Tryz.f319.name,by decide,Tryz.func319.trans (congrArg some (by kernel_rfl))⟩
 f47:=Tryz.func310.trans (congrArg some (by kernel_rfl))
 f48:=Tryz.func311.trans (congrArg some (by kernel_rfl))
 f49:=⟨Tryz.f320.name,by decide,Tryz.func320.trans (congrArg some (by kernel_rfl))⟩
 f50:=⟨Tryz.f321.name,by decide,Tryz.func321.trans (congrArg some (by kernel_rfl))⟩
 f57:=⟨Tryz.f343.name,by decide,Tryz.func343.trans (congrArg some (by kernel_rfl))⟩
 t0:=Tryz.underlying0
 a0:=Tryz.isAgg0
 z0:=Tryz.sizeOf0
 v0:=Tryz.zeroValue0
 t3:=Tryz.underlying3
 a3:=Tryz.isAgg3
 z3:=Tryz.sizeOf3
 v3:=Tryz.zeroValue3
 t4:=Tryz.underlying4
 a4:=Tryz.isAgg4
 z4:=Tryz.sizeOf4
 v4:=Tryz.zeroValue4
 t5:=Tryz.underlying5
 a5:=Tryz.isAgg5
 z5:=Tryz.sizeOf5
 v5:=Tryz.zeroValue5
 t9:=Tryz.underlying9
 a9:=Tryz.isAgg9
 z9:=Tryz.sizeOf9
 v9:=Tryz.zeroValue9
 t22:=Tryz.underlying105
 a22:=Tryz.isAgg105
 z22:=Tryz.sizeOf105
 v22:=Tryz.zeroValue105
 t25:=Tryz.underlying115
 a25:=Tryz.isAgg115
 z25:=Tryz.sizeOf115
 v25:=Tryz.zeroValue115
 t39:=Tryz.underlying141
 a39:=Tryz.isAgg141
 z39:=Tryz.sizeOf141
 v39:=Tryz.zeroValue141
 t45:=Tryz.underlying290
 a45:=Tryz.isAgg290
 z45:=Tryz.sizeOf290
 v45:=Tryz.zeroValue290
 t46:=Tryz.underlying291
 a46:=Tryz.isAgg291
 z46:=Tryz.sizeOf291
 v46:=Tryz.zeroValue291
 t50:=Tryz.underlying202
 a50:=Tryz.isAgg202
 z50:=Tryz.sizeOf202
 v50:=Tryz.zeroValue202
 t53:=Tryz.underlying297
 a53:=Tryz.isAgg297
 z53:=Tryz.sizeOf297
 v53:=Tryz.zeroValue297
 t55:=Tryz.underlying231
 a55:=Tryz.isAgg231
 z55:=Tryz.sizeOf231
 v55:=Tryz.zeroValue231
 t66:=Tryz.underlying343
 a66:=Tryz.isAgg343
 z66:=Tryz.sizeOf343
 v66:=Tryz.zeroValue343
 t70:=Tryz.underlying347
 a70:=Tryz.isAgg347
 z70:=Tryz.sizeOf347
 v70:=Tryz.zeroValue347
 t76:=Tryz.underlying369
 a76:=Tryz.isAgg369
 z76:=Tryz.sizeOf369
 v76:=Tryz.zeroValue369
 t77:=Tryz.underlying367
 a77:=Tryz.isAgg367
 z77:=Tryz.sizeOf367
 v77:=Tryz.zeroValue367 }
def Tryz.sort128_ren:Go.Shelf.Ren:=⟨fun | 6=>128 | 15=>181 | 14=>194 | 28=>254 | 29=>255 | 20=>268 | 21=>269 | 22=>270 | 23=>271 | 24=>272 | 25=>273 | 26=>274 | 27=>275 | 46=>322 | 47=>310 | 48=>311 | 49=>323 | 50=>324 | 57=>344 | n=>n,fun | 22=>65 | 24=>30 | 25=>123 | 3=>3 | 39=>141 | 0=>0 | 53=>297 | 55=>231 | 4=>4 | 46=>291 | 45=>290 | 50=>202 | 5=>5 | 9=>9 | 66=>343 | 70=>347 | 76=>369 | 77=>367 | n=>n,fun | n=>n⟩
theorem Tryz.sort128:Go.Proofs.SlLaysF0.n6 Tryz.prog Tryz.sort128_ren:={
 mixed:=by kernel_rfl
 f6:=⟨Tryz.f128.name,by decide,Tryz.func128.trans (congrArg some (by kernel_rfl))⟩
 f14:=⟨Tryz.f194.name,by decide,Tryz.func194.trans (congrArg some (by kernel_rfl))⟩
 f15:=Tryz.func181.trans (congrArg some (by kernel_rfl))
 f20:=⟨Tryz.f268.name,by decide,Tryz.func268.trans (congrArg some (by kernel_rfl))⟩
 f21:=⟨Tryz.f269.name,by decide,Tryz.func269.trans (congrArg some (by kernel_rfl))⟩
 f22:=⟨Tryz.f270.name,by decide,Tryz.func270.trans (congrArg some (by kernel_rfl))⟩
 f23:=⟨Tryz.f271.name,by decide,Tryz.func271.trans (congrArg some (by kernel_rfl))⟩
 f24:=⟨Tryz.f272.name,by decide,Tryz.func272.trans (congrArg some (by kernel_rfl))⟩
 f25:=⟨Tryz.f273.name,by decide,Tryz.func273.trans (congrArg some (by kernel_rfl))⟩
 f26:=⟨Tryz.f274.name,by decide,Tryz.func274.trans (congrArg some (by kernel_rfl))⟩
 f27:=⟨Tryz.f275.name,by decide,Tryz.func275.trans (congrArg some (by kernel_rfl))⟩
 f28:=Tryz.func254.trans (congrArg some (by kernel_rfl))
 f29:=Tryz.func255.trans (congrArg some (by kernel_rfl))
 f46:=⟨Tryz.f322.name,by decide,Tryz.func322.trans (congrArg some (by kernel_rfl))⟩
 f47:=Tryz.func310.trans (congrArg some (by kernel_rfl))
 f48:=Tryz.func311.trans (congrArg some (by kernel_rfl))
 f49:=⟨Tryz.f323.name,by decide,Tryz.func323.trans (congrArg some (by kernel_rfl))⟩
 f50:=⟨Tryz.f324.name,by decide,Tryz.func324.trans (congrArg some (by kernel_rfl))⟩
 f57:=⟨Tryz.f344.name,by decide,Tryz.func344.trans (congrArg some (by kernel_rfl))⟩
 t0:=Tryz.underlying0
 a0:=Tryz.isAgg0
 z0:=Tryz.sizeOf0
 v0:=Tryz.zeroValue0
 t3:=Tryz.underlying3
 a3:=Tryz.isAgg3
 z3:=Tryz.sizeOf3
 v3:=Tryz.zeroValue3
 t4:=Tryz.underlying4
 a4:=Tryz.isAgg4
 z4:=Tryz.sizeOf4
 v4:=Tryz.zeroValue4
 t5:=Tryz.underlying5
 a5:=Tryz.isAgg5
 z5:=Tryz.sizeOf5
 v5:=Tryz.zeroValue5
 t9:=Tryz.underlying9
 a9:=Tryz.isAgg9
 z9:=Tryz.sizeOf9
 v9:=Tryz.zeroValue9
 t22:=Tryz.underlying65
 a22:=Tryz.isAgg65
 z22:=Tryz.sizeOf65
 v22:=Tryz.zeroValue65
 t25:=Tryz.underlying123
 a25:=Tryz.isAgg123
 z25:=Tryz.sizeOf123
 v25:=Tryz.zeroValue123
 t39:=Tryz.underlying141
 a39:=Tryz.isAgg141
 z39:=Tryz.sizeOf141
 v39:=Tryz.zeroValue141
 t45:=Tryz.underlying290
 a45:=Tryz.isAgg290
 z45:=Tryz.sizeOf290
 v45:=Tryz.zeroValue290
 t46:=Tryz.underlying291
 a46:=Tryz.isAgg291
 z46:=Tryz.sizeOf291
 v46:=Tryz.zeroValue291
 t50:=Tryz.underlying202
 a50:=Tryz.isAgg202
 z50:=Tryz.sizeOf202
 v50:=Tryz.zeroValue202
 t53:=Tryz.underlying297
 a53:=Tryz.isAgg297
 z53:=Tryz.sizeOf297
 v53:=Tryz.zeroValue297
 t55:=Tryz.underlying231
 a55:=Tryz.isAgg231
 z55:=Tryz.sizeOf231
 v55:=Tryz.zeroValue231
 t66:=Tryz.underlying343
 a66:=Tryz.isAgg343
 z66:=Tryz.sizeOf343
 v66:=Tryz.zeroValue343
 t70:=Tryz.underlying347
 a70:=Tryz.isAgg347
 z70:=Tryz.sizeOf347
 v70:=Tryz.zeroValue347
 t76:=Tryz.underlying369
 a76:=Tryz.isAgg369
 z76:=Tryz.sizeOf369
 v76:=Tryz.zeroValue369
 t77:=Tryz.underlying367
 a77:=Tryz.isAgg367
 z77:=Tryz.sizeOf367
 v77:=Tryz.zeroValue367 }
def Tryz.sort237_ren:Go.Shelf.Ren:=⟨fun | 6=>237 | 15=>181 | 14=>297 | 28=>254 | 29=>255 | 20=>328 | 21=>329 | 22=>330 | 23=>331 | 24=>332 | 25=>333 | 26=>334 | 27=>335 | 46=>345 | 47=>310 | 48=>311 | 49=>346 | 50=>347 | 57=>350 | n=>n,fun | 22=>212 | 24=>215 | 25=>216 | 3=>3 | 39=>141 | 0=>0 | 53=>297 | 55=>231 | 4=>4 | 46=>291 | 45=>290 | 50=>202 | 5=>5 | 9=>9 | 66=>343 | 70=>347 | 76=>369 | 77=>367 | n=>n,fun | n=>n⟩
theorem Tryz.sort237:Go.Proofs.SlLaysF0.n6 Tryz.prog Tryz.sort237_ren:={
 mixed:=by kernel_rfl
 f6:=⟨Tryz.f237.name,by decide,Tryz.func237.trans (congrArg some (by kernel_rfl))⟩
 f14:=⟨Tryz.f297.name,by decide,Tryz.func297.trans (congrArg some (by kernel_rfl))⟩
 f15:=Tryz.func181.trans (congrArg some (by kernel_rfl))
 f20:=⟨Tryz.f328.name,by decide,Tryz.func328.trans (congrArg some (by kernel_rfl))⟩
 f21:=⟨Tryz.f329.name,by decide,Tryz.func329.trans (congrArg some (by kernel_rfl))⟩
 f22:=⟨Tryz.f330.name,by decide,Tryz.func330.trans (congrArg some (by kernel_rfl))⟩
 f23:=⟨Tryz.f331.name,by decide,Tryz.func331.trans (congrArg some (by kernel_rfl))⟩
 f24:=⟨Tryz.f332.name,by decide,Tryz.func332.trans (congrArg some (by kernel_rfl))⟩
 f25:=⟨Tryz.f333.name,by decide,Tryz.func333.trans (congrArg some (by kernel_rfl))⟩
 f26:=⟨Tryz.f334.name,by decide,Tryz.func334.trans (congrArg some (by kernel_rfl))⟩
 f27:=⟨Tryz.f335.name,by decide,Tryz.func335.trans (congrArg some (by kernel_rfl))⟩
 f28:=Tryz.func254.trans (congrArg some (by kernel_rfl))
 f29:=Tryz.func255.trans (congrArg some (by kernel_rfl))
 f46:=⟨Tryz.f345.name,by decide,Tryz.func345.trans (congrArg some (by kernel_rfl))⟩
 f47:=Tryz.func310.trans (congrArg some (by kernel_rfl))
 f48:=Tryz.func311.trans (congrArg some (by kernel_rfl))
 f49:=⟨Tryz.f346.name,by decide,Tryz.func346.trans (congrArg some (by kernel_rfl))⟩
 f50:=⟨Tryz.f347.name,by decide,Tryz.func347.trans (congrArg some (by kernel_rfl))⟩
 f57:=⟨Tryz.f350.name,by decide,Tryz.func350.trans (congrArg some (by kernel_rfl))⟩
 t0:=Tryz.underlying0
 a0:=Tryz.isAgg0
 z0:=Tryz.sizeOf0
 v0:=Tryz.zeroValue0
 t3:=Tryz.underlying3
 a3:=Tryz.isAgg3
 z3:=Tryz.sizeOf3
 v3:=Tryz.zeroValue3
 t4:=Tryz.underlying4
 a4:=Tryz.isAgg4
 z4:=Tryz.sizeOf4
 v4:=Tryz.zeroValue4
 t5:=Tryz.underlying5
 a5:=Tryz.isAgg5
 z5:=Tryz.sizeOf5
 v5:=Tryz.zeroValue5
 t9:=Tryz.underlying9
 a9:=Tryz.isAgg9
 z9:=Tryz.sizeOf9
 v9:=Tryz.zeroValue9
 t22:=Tryz.underlying212
 a22:=Tryz.isAgg212
 z22:=Tryz.sizeOf212
 v22:=Tryz.zeroValue212
 t25:=Tryz.underlying216
 a25:=Tryz.isAgg216
 z25:=Tryz.sizeOf216
 v25:=Tryz.zeroValue216
 t39:=Tryz.underlying141
 a39:=Tryz.isAgg141
 z39:=Tryz.sizeOf141
 v39:=Tryz.zeroValue141
 t45:=Tryz.underlying290
 a45:=Tryz.isAgg290
 z45:=Tryz.sizeOf290
 v45:=Tryz.zeroValue290
 t46:=Tryz.underlying291
 a46:=Tryz.isAgg291
 z46:=Tryz.sizeOf291
 v46:=Tryz.zeroValue291
 t50:=Tryz.underlying202
 a50:=Tryz.isAgg202
 z50:=Tryz.sizeOf202
 v50:=Tryz.zeroValue202
 t53:=Tryz.underlying297
 a53:=Tryz.isAgg297
 z53:=Tryz.sizeOf297
 v53:=Tryz.zeroValue297
 t55:=Tryz.underlying231
 a55:=Tryz.isAgg231
 z55:=Tryz.sizeOf231
 v55:=Tryz.zeroValue231
 t66:=Tryz.underlying343
 a66:=Tryz.isAgg343
 z66:=Tryz.sizeOf343
 v66:=Tryz.zeroValue343
 t70:=Tryz.underlying347
 a70:=Tryz.isAgg347
 z70:=Tryz.sizeOf347
 v70:=Tryz.zeroValue347
 t76:=Tryz.underlying369
 a76:=Tryz.isAgg369
 z76:=Tryz.sizeOf369
 v76:=Tryz.zeroValue369
 t77:=Tryz.underlying367
 a77:=Tryz.isAgg367
 z77:=Tryz.sizeOf367
 v77:=Tryz.zeroValue367 }
end Go.Proofs
namespace Go.Proofs.YtfekpcimgncioaaGreatDoor
open Go.Proofs.Tryz
open Go.RowKit Go.Lith
set_option maxRecDepth 100000
attribute [local irreducible] ao wpQuiet eZ bE bX Code.wp
attribute [local congr] nO fF fG fH fI fJ jH fK fL fM fN fO fP fQ fR fS fT fU dX dY fV fW fY fZ gA jJ cO cP cA cN fX jI dZ eA eB gB gC jK
theorem fB:pI prog 30 pt:=by
 refine pI.agg (cs:=fun p=>#[.int .i64 p.x,.int .i64 p.y,.int .i64 p.z]) (fun _=>rfl) rK (fun e p=>?_) (fun p q=>?_) (fun p=>?_)
 ·
  refine tA.struct (d:=9999) rK fun f hf=>?_;simp only[ak,bw,or_false] at hf;rcases hf with rfl | rfl | rfl <;> exact⟨_,cB bN rfl,tA.int (d:=9998) jN⟩
 · exact (mF 9998).iff ⟨fun h=>P3.eq h.1 h.2.1 h.2.2,fun h=>by subst h;exact⟨rfl,rfl,rfl⟩⟩
 · simp[pt,Instr.sameBits]
theorem Zj{w0 w:ah}{is:List It}{g c:Nat}{es:Array bx}{D:List (P3 × Bool)}{p:P3}(m:Mem w0 w is)(k:Nat)(hk:is[k]? = some (mI g es c))(hD1:bB pt bf D es c):Calls prog 114 [.map (some g),pt p].toArray w fun e w'=>∃v i,e=.returned v∧Mem w0 w' (is.set k i)∧(v=.bool (!(bU D p).getD false)∧∃es' c',i=mI g es' c'∧bB pt bf (eP D p true) es' c'):=by
 go_enter func114,ntmps114
 refine eS 10 [0,0] m ?_;simp only[↓aD,aR];intro g1;intro u m;refine eQ (dK (ek:=pt) (en:=bf) (k:=p) (v0:=false) underlying163 mE fB rfl rfl (m.p (k+1) hk) hD1) ?_;simp only[zz];refine aP 1 [0] m ?_;simp only[↓aD];intro u m;refine dQ rfl (fun hc1=>?_) (fun hc1=>?_)
 ·
  refine aS 5 [] m ?_;simp only[↓aD];intro u m;refine aQ rfl rfl ?_;try simp only[zD,zE]
  exact⟨_,mI g es c,rfl,by rw[Jv hk];exact m.tl,by rw[hc1];rfl,es,c,rfl,by rw[Er (by cases hq:bU D p with | none=>rw[hq] at hc1;cases hc1 | some x=>rw[hq] at hc1;exact congrArg some hc1)];exact hD1⟩
 ·
  refine aS 5 [0,0] m ?_;simp only[↓aD,aR];intro u m;refine lE (ek:=pt) (en:=bf) (a:=p) (v:=true) m (k+1) hk underlying163 fB rfl rfl rfl hD1 ?_;clear m;intro es1 c1 u m hD';clear hD1;have hD1:=hD';clear hD';simp only[zF,zG] at m;refine aP 6 [] m ?_;simp only[↓aD];intro u m;refine aQ rfl rfl ?_;try simp only[zD,zE]
  exact⟨_,_,rfl,m.tl,by rw[hc1];rfl,_,_,rfl,hD1⟩
theorem ahG{w0 w:ah}{is:List It}{A:Option Addr}{n cap:Nat}{xs:List P3}(m:Mem w0 w is)(k:Nat)(hi:is[k]? = some (oI 30 3 A n cap (xs.flatMap dN)))(hsz:n<4611686018427387904) :
 Calls prog 128 [.slice A n cap,.func (.func 116) #[] #[]].toArray w fun e w'=>∃v i,e=.returned v∧Mem w0 w' (is.set k i)∧(v=.tuple #[]∧∃ys:List P3,i=oI 30 3 A n cap (ys.flatMap dN)∧ys.Perm xs∧ys.Pairwise fun a b=>ltOf nX b a=false) :=
 wT (enc:=dN) Tryz.sort128 (fun w=>nB aG w) (fun w=>dH aA w) (fun _=>rfl) (by decide) Gk nX Up (fun x y=>yM) m k hi hsz
theorem aco{g c:Nat}{es:Array bx}{D:List (P3 × Bool)}(w:ah)(hM:gW w g es c)(hD:bB pt bf D es c)(hl:D.length≤1000000):dF prog 115 [.map (some g),.func (.func 116) #[] #[]] w (OR 30 3 (fun xs=>∃ps:List P3,xs=ps.flatMap dN∧ps.Perm (D.map (·.1))∧ps.Pairwise fun a b=>¬b.Lt a) w):=by
 refine⟨ajx,?_⟩;have m:=Mem.refl w
 go_enter func115,ntmps115
 refine eS 6 [0] m ?_;simp only[↓aD];intro u m;refine aB aM ?_;replace m:=m.nilO 30 3;refine aP 5 [0] m ?_;simp only[↓aD];intro u m;refine sU m underlying163 rfl (hM.ext m.ext) ?_;clear m;intro r1 u m;refine aP 2 [0] m ?_;simp only[↓aD];intro u m;refine bW [5] [6,9,10,11,12,13,14,15,16] (fun n vs wl=>∃(dn rs:List (P3 × Bool)) (A1:Option Addr) (n1 cap1:Nat) (sn:Array Nat),vs=[.slice A1 n1 cap1]∧Mem w wl [iI r1 g c sn,oI 30 3 A1 n1 cap1 ((dn.map (·.1)).flatMap dN)]∧(lY pt bf D es sn dn rs)∧(n1=dn.length)∧(n=rs.length)) ?_ ?_
 ·
  apply Exists.intro;simp only[zQ,zR,zD,zE];exact⟨[],D,none,0,0,#[],rfl,m,lY.start hD,rfl,rfl⟩
 ·
  intro n vs wr hI u K1 hK1;clear m;obtain⟨dn,rs,A1,n1,cap1,sn,rfl,m,hT,hn1,hn⟩:=hI;have hlen:=hT.len;simp only[zu,zF,zG];refine aS 2 [0] m ?_;simp only[↓aD];intro u m;refine Gj m 0 rfl rfl (hM.ext m.ext) hD hT ?_;clear m;intro bb kk vv sn u m hN;simp only[zF,zG] at m;refine aB (nN rfl) (aP 2 [0] m ?_);simp only[↓aD];intro u m;refine dQ rfl (fun hc1=>?_) (fun hc1=>?_)
  ·
   obtain⟨kp,kb,rs2,hp,hT2⟩:=Cx hc1 hN;refine aS 4 [0] m ?_;simp only[↓aD];intro u m;refine eQ (qJ rfl (m.r 0 rfl) (hM.ext m.ext) hD hT2) ?_;simp only[zz];refine aP 7 [0,0,0] m ?_;simp only[↓aD,eU,aR,aa];intro g2;intro u m;refine mO rfl ?_;intro u g3 e hg hB;replace m:=m.newB e hg hB;clear e hg hB;simp only[zz];refine bR m 3 rfl rfl dS oD rfl (by decide) rfl rfl rfl (m.b 0 rfl).rowsO (jM rfl) (by omega) (by omega) ?_;clear m;intro A1 cap1 u m;simp only[zF,zG] at m;refine aP 3 [0] m ?_;simp only[↓aD];intro u m;refine hK1 rs2.length _ _ ?_ ?_ ?_
   · rw[hn,hp.length_eq];exact dq _
   · simp only[zz,zv]
   ·
    simp only[zQ,zR,zD,zE];exact⟨dn++[(kp,kb)],rs2,_,_,_,_,rfl,((m.reO 3 rfl ((m.o 3 rfl).as (by simp[dN]))).sel [false,false,true,true]),hT2,by simp[hn1],rfl⟩
  ·
   obtain rfl:=Cw hc1 hN;refine aS 5 [0] m ?_;simp only[↓aD];intro u m;refine kP m 1 Xt rfl rfl (fun m=>ahG m 1 rfl (by omega)) ?_;clear m;rintro v i u m ⟨rfl,ys,rfl,hys,hso⟩;simp only[zF,zG] at m;refine aP 7 [] m ?_;simp only[↓aD];intro u m;refine aQ rfl rfl ?_;try simp only[zD,zE]
   exact⟨_,rfl,m.ext,_,_,_,_,rfl,(m.o 1 rfl),_,rfl,hys.trans (hT.done.map _),hso.imp fun h=>by simpa[ltOf,kI] using h⟩
theorem xM:pI prog 215 ed:=by
 refine pI.agg (cs:=fun p=>#[.int .i64 p.1.x,.int .i64 p.1.y,.int .i64 p.1.z,.int .i64 p.2.x,.int .i64 p.2.y,.int .i64 p.2.z]) (fun _=>rfl) rJ (fun e p=>?_) (fun p q=>?_) (fun p=>?_)
 ·
  refine tA.struct (d:=9999) rJ fun f hf=>?_;simp only[ak,bw,or_false] at hf;rcases hf with rfl | rfl
  ·
   refine⟨_,bZ aG aA rfl,?_⟩;refine tA.struct (d:=9998) rK fun f hf=>?_;simp only[ak,bw,or_false] at hf;rcases hf with rfl | rfl | rfl
   · exact⟨_,cB bN rfl,tA.int (d:=9997) jN⟩
   · exact⟨_,cB bN rfl,tA.int (d:=9997) jN⟩
   · exact⟨_,cB bN rfl,tA.int (d:=9997) jN⟩
  ·
   refine⟨_,bZ aG aA rfl,?_⟩;refine tA.struct (d:=9998) rK fun f hf=>?_;simp only[ak,bw,or_false] at hf;rcases hf with rfl | rfl | rfl
   · exact⟨_,cB bN rfl,tA.int (d:=9997) jN⟩
   · exact⟨_,cB bN rfl,tA.int (d:=9997) jN⟩
   · exact⟨_,cB bN rfl,tA.int (d:=9997) jN⟩
 · exact (ag7 _).iff ⟨fun h=>Prod.ext (P3.eq h.1 h.2.1 h.2.2.1) (P3.eq h.2.2.2.1 h.2.2.2.2.1 h.2.2.2.2.2),fun h=>by subst h;simp only[and_self]⟩
 · simp[ed,Instr.sameBits]
theorem aot{x y:Int}{g1:Nat}(w:ah)(hB1:fA w g1 [.int .i64 x,.int .i64 y] 3):ae1 prog 125 [.slice (some ⟨g1,0,none⟩) 2 2] w (.int .i64 (if x=0 then y else x)):=by
 refine⟨adD,?_⟩;have m:=gH.refl w
 go_enter func125,ntmps125
 refine aV fun K1 k1=>am (aB aM (aL (k1 _ _ ?_)));refine aV fun K2 k2=>am (aB aM (aL (k2 _ _ ?_)));refine aV fun K3 k3=>aV fun K4 k4=>am (aB aI (aB (Ec rfl lM rfl) ?_));simp only[zz];refine aB aI (aL (k4 _ _ ?_));refine ig (wp_loop_rounds 3 (wH (aV fun K5 k5=>am (aB (oB (m:=0) (n:=2) rfl rfl (by decide)) (aL (k5 _ _ ?_))))));refine aV fun K6 k6=>vV rfl (il (k6 _ _ ?_));refine aV fun K7 k7=>ig (aV fun K8 k8=>am ?_);simp only[zz];refine aB (aF lM aX rfl rfl (by decide) (by omega) rfl) ?_;simp only[zz];refine aO rfl ((hB1.ext m.ext.ext).lies1 bN rfl) ?_;simp only[zz];refine aB aM (aL (k8 _ _ ?_));refine aV fun K9 k9=>am (aB aI (aB aI (aB (pO rfl rfl) ?_)));simp only[zz];refine aL (k9 _ _ ?_);refine bC rfl (fun hc2=>?_) (fun hc2=>?_)
 ·
  refine aV fun K10 k10=>am (aB aI (aB aM (aL (k10 _ _ ?_))));refine h_ ?_;simp only[zz];try simp only[cj,Exit.then,if_true]
  refine aQ rfl rfl ?_;try simp only[zD,zE]
  exact⟨_,rfl,m.ext,by rw[if_neg hc2]⟩
 ·
  have hx:x=0:=by omega
  refine il (k7 _ _ ?_);refine am (aB (eL (m:=0) (n:=1) (r:=1) rfl rfl (by decide)) (aB aI (aL (jZ (aV fun K11 k11=>am (aB (oB (m:=1) (n:=2) rfl rfl (by decide)) (aL (k11 _ _ ?_))))))));refine aV fun K12 k12=>vV rfl (il (k12 _ _ ?_));refine aV fun K13 k13=>ig (aV fun K14 k14=>am ?_);simp only[zz];refine aB (aF lM aX rfl rfl (by decide) (by omega) rfl) ?_;simp only[zz];refine aO rfl ((hB1.ext m.ext.ext).lies1 bN rfl) ?_;simp only[zz];refine aB aM (aL (k14 _ _ ?_));refine aV fun K15 k15=>am (aB aI (aB aI (aB (pO rfl rfl) ?_)));simp only[zz];refine aL (k15 _ _ ?_);refine bC rfl (fun hc2=>?_) (fun hc2=>?_)
  ·
   refine aV fun K16 k16=>am (aB aI (aB aM (aL (k16 _ _ ?_))));refine h_ ?_;simp only[zz];try simp only[cj,Exit.then,if_true]
   refine aQ rfl rfl ?_;try simp only[zD,zE]
   exact⟨_,rfl,m.ext,by rw[if_pos hx]⟩
  ·
   have hy:y=0:=by omega
   refine il (k13 _ _ ?_);refine am (aB (eL (m:=1) (n:=1) (r:=2) rfl rfl (by decide)) (aB aI (aL (jZ (aV fun K17 k17=>am (aB (Aw (m:=2) (n:=2) rfl rfl (by decide)) (aL (k17 _ _ ?_))))))));refine aV fun K18 k18=>abp rfl (wp_exit (k3 _ _ ?_));refine aV fun K19 k19=>am (aB aI ?_);simp only[zz];refine aB aM (aL (k19 _ _ ?_));refine h_ ?_;simp only[zz];try simp only[cj,Exit.then,if_true]
   refine aQ rfl rfl ?_;try simp only[zD,zE]
   exact⟨_,rfl,m.ext,by rw[if_pos hx,hy]⟩
def acp(a b:E3):Int:=if nX a.1 b.1=0 then nX a.2 b.2 else nX a.1 b.1
theorem lH{p q:P3}:nX p q=0↔p=q:=by
 unfold nX;rcases P3.lt_tri p q with h | h | h
 · rw[if_pos h];exact⟨fun e=>(by cases e),fun e=>absurd (e▸h) (P3.lt_irrefl _)⟩
 · subst h;rw[if_neg (P3.lt_irrefl _),if_neg (P3.lt_irrefl _)];exact⟨fun _=>rfl,fun _=>rfl⟩
 · rw[if_neg (fun k=>P3.lt_irrefl _ (P3.lt_trans h k)),if_pos h];exact⟨fun e=>(by cases e),fun e=>absurd (e▸h) (P3.lt_irrefl _)⟩
theorem Di(a b:E3):(acp a b<0)↔Gm a b:=by
 unfold acp Gm;split
 ·
  rename_i h;have h':=lH.1 h;rw[kI];exact⟨fun k=>.inr ⟨h',k⟩,fun k=>k.elim (fun k=>absurd (h'▸k) (P3.lt_irrefl _)) fun k=>k.2⟩
 ·
  rename_i h;rw[kI];exact⟨.inl,fun k=>k.elim id fun k=>absurd (lH.2 k.1) h⟩
instance:Inhabited E3:=⟨(⟨0,0,0⟩,⟨0,0,0⟩)⟩
theorem ae3:Go.Sort.SWO (Go.Proofs.ltOf acp) where
 irrefl a:=by simp only[Go.Proofs.ltOf,decide_eq_false_iff_not,Di];exact Gm.irrefl a
 trans x y z h1 h2:=by
  simp only[Go.Proofs.ltOf,decide_eq_true_eq,Di] at *
  exact h1.trans h2
 ntrans x y z h1 h2:=by
  simp only[Go.Proofs.ltOf,decide_eq_false_iff_not,Di] at *
  intro h;rcases Gm.tri y x with k | k | k
  · exact absurd (k.trans h) (by first | exact h2 | exact h1)
  · subst k;first | exact h2 h | exact h1 h
  · first | exact h1 k | exact h2 k
theorem ahH{p q:E3}:pQ prog 168 [ed p,ed q] (.int .i64 (acp p q)):=by
 intro w;refine⟨ajS,?_⟩;have m:=gH.refl w
 go_enter func168,ntmps168
 refine aV fun K1 k1=>am (mD m rfl ?_);clear m;intro g1 u m;simp only[zz];refine mD m rfl ?_;clear m;intro g2 u m;refine aB aM (aL (k1 _ _ ?_));refine aV fun K2 k2=>?_;simp only[zz];refine Jg m 10 aC (by kernel_rfl) ?_;simp only[zy];refine aH (aZ (c:=2) rJ rfl aA rfl rfl) ?_;simp only[zz];refine Me rfl (fun u m=>((m.b 1 rfl).lies aG aA rfl rfl)) ?_;simp only[zz,zy,aq,aa,ad,ab];refine aH (aZ (c:=2) rJ rfl aA rfl rfl) ?_;simp only[zz];refine Me rfl (fun u m=>((m.b 0 rfl).lies aG aA rfl rfl)) ?_;simp only[zz,zy,aq,aa,ad,ab];refine Ck rfl rfl (yM (p:=p.1) (q:=q.1)) (aH (aZ (c:=2) rJ rfl aA rfl rfl) ?_);simp only[zz];refine Me rfl (fun u m=>((m.b 1 rfl).lies aG aA rfl rfl)) ?_;simp only[zz,zy,aq,aa,ad,ab];refine aH (aZ (c:=2) rJ rfl aA rfl rfl) ?_;simp only[zz];refine Me rfl (fun u m=>((m.b 0 rfl).lies aG aA rfl rfl)) ?_;simp only[zz,zy,aq,aa,ad,ab];refine Ck rfl rfl (yM (p:=p.2) (q:=q.2)) (aY ?_);clear m;intro u m;simp only[zz];refine ae2 m lM (z:=.int .i64 0) (by kernel_rfl) rfl rfl rfl rfl rfl ?_;clear m;intro g3 u m;simp only[zz];refine Sg m rfl rfl (aot _ (m.b 0 rfl)) ?_;clear m;intro u m;refine aB aM (aL (k2 _ _ ?_));refine h_ ?_;simp only[zz];try simp only[cj,Exit.then,if_true]
 refine aQ rfl rfl ?_;try simp only[zD,zE]
 exact⟨_,rfl,m.ext,rfl⟩
theorem Sh{w0 w:ah}{is:List It}{g c:Nat}{es:Array bx}{D:List (E3 × Bool)}{p:E3}(m:Mem w0 w is)(k:Nat)(hk:is[k]? = some (mI g es c))(hD1:bB ed bf D es c):Calls prog 235 [.map (some g),ed p].toArray w fun e w'=>∃v i,e=.returned v∧Mem w0 w' (is.set k i)∧(v=.bool (!(bU D p).getD false)∧∃es' c',i=mI g es' c'∧bB ed bf (eP D p true) es' c'):=by
 go_enter func235,ntmps235
 refine eS 10 [0,0] m ?_;simp only[↓aD,rV];intro g1;intro u m;refine eQ (dK (ek:=ed) (en:=bf) (k:=p) (v0:=false) underlying208 mE xM rfl rfl (m.p (k+1) hk) hD1) ?_;simp only[zz];refine aP 1 [0] m ?_;simp only[↓aD];intro u m;refine dQ rfl (fun hc1=>?_) (fun hc1=>?_)
 ·
  refine aS 5 [] m ?_;simp only[↓aD];intro u m;refine aQ rfl rfl ?_;try simp only[zD,zE]
  exact⟨_,mI g es c,rfl,by rw[Jv hk];exact m.tl,by rw[hc1];rfl,es,c,rfl,by rw[Er (by cases hq:bU D p with | none=>rw[hq] at hc1;cases hc1 | some x=>rw[hq] at hc1;exact congrArg some hc1)];exact hD1⟩
 ·
  refine aS 5 [0,0] m ?_;simp only[↓aD,rV];intro u m;refine lE (ek:=ed) (en:=bf) (a:=p) (v:=true) m (k+1) hk underlying208 xM rfl rfl rfl hD1 ?_;clear m;intro es1 c1 u m hD';clear hD1;have hD1:=hD';clear hD';simp only[zF,zG] at m;refine aP 6 [] m ?_;simp only[↓aD];intro u m;refine aQ rfl rfl ?_;try simp only[zD,zE]
  exact⟨_,_,rfl,m.tl,by rw[hc1];rfl,_,_,rfl,hD1⟩
theorem Vm(p:E3):∀v∈cM p,v.oneCell'=true:=fun v h=>by
 simp only[cM,ak,bw,or_false] at h;rcases h with rfl | rfl | rfl | rfl | rfl | rfl <;> rfl
theorem ahI{w0 w:ah}{is:List It}{A:Option Addr}{n cap:Nat}{xs:List E3}(m:Mem w0 w is)(k:Nat)(hi:is[k]? = some (oI 215 6 A n cap (xs.flatMap cM)))(hsz:n<4611686018427387904) :
 Calls prog 237 [.slice A n cap,.func (.func 168) #[] #[]].toArray w fun e w'=>∃v i,e=.returned v∧Mem w0 w' (is.set k i)∧(v=.tuple #[]∧∃ys:List E3,i=oI 215 6 A n cap (ys.flatMap cM)∧ys.Perm xs∧ys.Pairwise fun a b=>ltOf acp b a=false) :=
 wT (enc:=cM) Tryz.sort237 (fun w=>nB yE w) (fun w=>dH oF w) (fun _=>rfl) (by decide) Vm acp ae3 (fun x y=>ahH) m k hi hsz
theorem acq{g c:Nat}{es:Array bx}{D:List (E3 × Bool)}(w:ah)(hM:gW w g es c)(hD:bB ed bf D es c)(hl:D.length≤100000000):dF prog 167 [.map (some g),.func (.func 168) #[] #[]] w (OR 215 6 (fun xs=>∃ps:List E3,xs=ps.flatMap cM∧ps.Perm (D.map (·.1))∧ps.Pairwise fun a b=>¬Gm b a) w):=by
 refine⟨ajR,?_⟩;have m:=Mem.refl w
 go_enter func167,ntmps167
 refine eS 6 [0] m ?_;simp only[↓aD];intro u m;refine aB aM ?_;replace m:=m.nilO 215 6;refine aP 5 [0] m ?_;simp only[↓aD];intro u m;refine sU m underlying208 rfl (hM.ext m.ext) ?_;clear m;intro r1 u m;refine aP 2 [0] m ?_;simp only[↓aD];intro u m;refine bW [5] [6,9,10,11,12,13,14,15,16] (fun n vs wl=>∃(dn rs:List (E3 × Bool)) (A1:Option Addr) (n1 cap1:Nat) (sn:Array Nat),vs=[.slice A1 n1 cap1]∧Mem w wl [iI r1 g c sn,oI 215 6 A1 n1 cap1 ((dn.map (·.1)).flatMap cM)]∧(lY ed bf D es sn dn rs)∧(n1=dn.length)∧(n=rs.length)) ?_ ?_
 ·
  apply Exists.intro;simp only[zQ,zR,zD,zE];exact⟨[],D,none,0,0,#[],rfl,m,lY.start hD,rfl,rfl⟩
 ·
  intro n vs wr hI u K1 hK1;clear m;obtain⟨dn,rs,A1,n1,cap1,sn,rfl,m,hT,hn1,hn⟩:=hI;have hlen:=hT.len;simp only[zu,zF,zG];refine aS 2 [0] m ?_;simp only[↓aD];intro u m;refine Gj m 0 rfl rfl (hM.ext m.ext) hD hT ?_;clear m;intro bb kk vv sn u m hN;simp only[zF,zG] at m;refine aB (nN rfl) (aP 2 [0] m ?_);simp only[↓aD];intro u m;refine dQ rfl (fun hc1=>?_) (fun hc1=>?_)
  ·
   obtain⟨kp,kb,rs2,hp,hT2⟩:=Cx hc1 hN;refine aS 4 [0] m ?_;simp only[↓aD];intro u m;refine eQ (qJ rfl (m.r 0 rfl) (hM.ext m.ext) hD hT2) ?_;simp only[zz];refine aP 7 [0,0,0] m ?_;simp only[↓aD,xH,rV,aa];intro g2;intro u m;refine Ye rfl ?_;intro u g3 e hg hB;replace m:=m.newB e hg hB;clear e hg hB;simp only[zz];refine bR m 3 rfl rfl underlying212 ag3 rfl (by decide) rfl rfl rfl (m.b 0 rfl).rowsO (jM rfl) (by omega) (by omega) ?_;clear m;intro A1 cap1 u m;simp only[zF,zG] at m;refine aP 3 [0] m ?_;simp only[↓aD];intro u m;refine hK1 rs2.length _ _ ?_ ?_ ?_
   · rw[hn,hp.length_eq];exact dq _
   · simp only[zz,zv]
   ·
    simp only[zQ,zR,zD,zE];exact⟨dn++[(kp,kb)],rs2,_,_,_,_,rfl,((m.reO 3 rfl ((m.o 3 rfl).as (by simp[cM]))).sel [false,false,true,true]),hT2,by simp[hn1],rfl⟩
  ·
   obtain rfl:=Cw hc1 hN;refine aS 5 [0] m ?_;simp only[↓aD];intro u m;refine kP m 1 akm rfl rfl (fun m=>ahI m 1 rfl (by omega)) ?_;clear m;rintro v i u m ⟨rfl,ys,rfl,hys,hso⟩;simp only[zF,zG] at m;refine aP 7 [] m ?_;simp only[↓aD];intro u m;refine aQ rfl rfl ?_;try simp only[zD,zE]
   exact⟨_,rfl,m.ext,_,_,_,_,rfl,(m.o 1 rfl),_,rfl,hys.trans (hT.done.map _),hso.imp fun h=>by simpa[ltOf,Di] using h⟩
theorem Ld{all out:List E3}{e:E3}(h:0<kC all (e.2,e.1)∨0<kC out e):nK all out e=out:=if_pos h
theorem Pc{all out:List E3}{e:E3}{k:Nat}(h1:¬0<kC all (e.2,e.1))(h2:¬0<kC out e)(h:abH out e=k):nK all out e=out.take k++[e]++out.drop k:=by
 rw[nK,if_neg (fun h=>h.elim h1 h2),Xo,h]
theorem alQ{w:ah}{a:Addr}{e:E3}(h:nV w a (cM e)):nV w a [.int .i64 e.1.x,.int .i64 e.1.y,.int .i64 e.1.z,.int .i64 e.2.x,.int .i64 e.2.y,.int .i64 e.2.z]:=h
theorem gt0{n:Nat}:((0:Int)<(n:Int))↔0<n:=by omega
theorem aou{ts:List T3}{N cap:Nat}{A:Option Addr}(w:ah)(hT:bK w A N ts)(hN:N≤100000000):dF prog 28 [.slice A N cap] w (SL 56 6 ((bY ts).flatMap cM) (bY ts).length w):=by
 refine⟨ane,?_⟩;have m:=Mem.refl w
 go_enter func28,ntmps28
 refine eS 7 [0] m ?_;simp only[↓aD];intro u m;refine bJ rfl rfl (aaY _ (hT.ext m.ext) (by omega)) ?_;rintro v u e ⟨A3,cap3,n3,hn3,rfl,hN⟩;replace m:=m.newO e hN;clear e hN;have he3:=qS ts;have htl:=hT.len;refine aP 4 [0] m ?_;simp only[↓aD];intro u m;refine aB aM ?_;replace m:=m.nilO 56 6;refine aP 7 [0] m ?_;simp only[↓aD];intro u m;refine bW [4,5] [6,7,8,9,12,13,14,15,16,17,18,19,20,21,22,23,24,25,26,27,28,29,30,31,32,33,34,35,36,37,38,39,40,41,42,43,44,45,46,47,48,49,50,51,52,53,54,55,56,57,58,59,60,61,62,63] (fun n vs wl=>∃(k n4 cap4:Nat) (A4:Option Addr),vs=[.slice A4 n4 cap4,.int .i64 (k:Int)]∧Mem w wl [oI 56 6 A4 n4 cap4 ((((bA ts).take k).foldl (nK (bA ts)) []).flatMap cM),oI 56 6 A3 n3 cap3 ((bA ts).flatMap cM)]∧(n4≤k)∧(k≤n3)∧(n=n3-k)) ?_ ?_
 ·
  apply Exists.intro;simp only[zQ,zR,zD,zE];exact⟨0,_,_,_,rfl,m,ap _,cd _,rfl⟩
 ·
  intro n vs wr hI u K1 hK1;clear m;obtain⟨k,n4,cap4,A4,rfl,m,hl4,hk,hn⟩:=hI;simp only[zu,zF,zG];refine aS 8 [0,0] m ?_;simp only[↓aD,Ve];intro u m;refine bC rfl (fun hc1=>?_) (fun hc1=>?_)
  ·
   obtain⟨e,he⟩:∃e,(bA ts)[k]? = some e:=⟨_,an (by omega)⟩
   obtain⟨gO,rfl⟩:=(m.o 1 rfl).some (by omega);refine lF 7 [0] m ?_;simp only[↓aD];rintro u m rfl;refine aB (aF nL iC rfl rfl (by omega) (by omega) (cI (ag _))) ?_;simp only[zz];refine aO rfl ((alQ ((m.o 1 rfl).at Hf he)).lies Ba iC) ?_;simp only[zz];refine aP 5 [0] m ?_;simp only[↓aD,Pa,An,aa];intro g1;intro u m;obtain⟨B,hB⟩:∃B,B=((bA ts).take k).foldl (nK (bA ts)) []:=⟨_,rfl⟩
   rw[←hB] at m;have h4:B.length=n4:=(m.o 1 rfl).num Hf (by decide);have hle4:=(m.o 1 rfl).le;have hs:=abI (all:=bA ts) he;rw[←hB] at hs;rcases Nat.eq_zero_or_pos (kC (bA ts) (e.2,e.1)) with hz | hz
   ·
    refine tO 7 [0,0,0] m ?_;simp only[↓aD,Kn,aR,Aq,ab,ad,aa];refine⟨by omega,?_⟩;rintro u m rfl;refine cW m rfl rfl (Hy (es:=bA ts) (e:=(e.2,e.1)) _ ((m.o 2 rfl).lat Hf (by decide)) (by omega)) ?_;clear m;rintro v u m rfl;refine aP 4 [2,0,0] m ?_;simp only[↓aD,An];refine⟨by omega,?_⟩;intro u m;refine eD rfl (cW m rfl rfl (Hy (es:=B) (e:=e) _ ((m.o 1 rfl).lat Hf (by decide)) (by omega)) ?_);clear m;rintro v u m rfl;refine aP 3 [0,0] m ?_;simp only[↓aD];intro u m;refine bC rfl (fun hc2=>?_) (fun hc2=>?_)
    ·
     rw[Ld (.inr (gt0.1 hc2))] at hs;refine aS 6 [0] m ?_;simp only[↓aD];refine⟨by omega,?_⟩;intro u m;refine hK1 (n3-(k+1)) _ _ ?_ ?_ ?_
     · omega
     · simp only[zz,zv]
     ·
      simp only[zQ,zR,zD,zE];exact⟨k+1,_,_,_,rfl,((m.reO 1 rfl ((m.o 1 rfl).as (by rw[hs]))).sel [false,true,true]),by omega,by omega,rfl⟩
    ·
     have hz2:¬0<kC B e:=fun h=>hc2 (gt0.2 h);refine aS 7 [0] m ?_;simp only[↓aD];intro u m;refine bW [7] [8,36,37,38,39,40,41,42,43,44,45,46,47,48,49] (fun n vs wl=>∃(j:Nat),vs=[.int .i64 (j:Int)]∧Mem w wl [bI g1 (cM e) 56,oI 56 6 A4 n4 cap4 ((B).flatMap cM),oI 56 6 (some ⟨gO,0,none⟩) n3 cap3 ((bA ts).flatMap cM)]∧(Pre (fun x=>ltE x e) B j)∧(j≤n4)∧(n=n4-j)) ?_ ?_
     ·
      apply Exists.intro;simp only[zQ,zR,zD,zE];exact⟨0,rfl,m,Pre.zero,cd _,rfl⟩
     ·
      intro n vs wr hI u K2 hK2;clear m;obtain⟨j,rfl,m,hpre,hj,hn2⟩:=hI;simp only[zu,zF,zG];refine aS 8 [0,0] m ?_;simp only[↓aD,Ve];intro u m;refine bC rfl (fun hc3=>?_) (fun hc3=>?_)
      ·
       obtain⟨x,hx⟩:∃x,B[j]? = some x:=⟨_,an (by omega)⟩
       obtain⟨gP,rfl⟩:=(m.o 1 rfl).some (by omega);refine lF 3 [0] m ?_;simp only[↓aD];rintro u m rfl;refine mq m aC (by kernel_rfl) (aH aI (aH aI ?_));simp only[zz];refine aH (aF nL iC rfl rfl (by omega) (by omega) (cI (ag _))) ?_;simp only[zz];refine ql rfl (fun u m=>(((m.o 1 rfl).at Hf hx).lies Ba iC)) ?_;simp only[zz];refine ql rfl (fun u m=>((m.b 0 rfl).full Ba iC)) ?_;simp only[zz];refine iF rfl rfl (aeL (a:=x) (b:=e)) (aH aM (aY ?_));clear m;intro u m;refine tO 6 [0] m ?_;simp only[↓aD];rintro u m rfl;refine gR rfl (fun hc4=>?_) (fun hc4=>?_)
       ·
        have hpos:abH B e=j:=ais hpre hx (by simpa using hc4);rw[Pc (by omega) hz2 hpos] at hs;refine lF 3 [0] m ?_;simp only[↓aD];rintro u m rfl;refine aB aM ?_;replace m:=m.nilO 56 6;refine Hi 6 [0] m ?_;simp only[↓aD];rintro u m rfl;refine aB (lB nL iC rfl rfl (ag _) (by omega) (by omega)) ?_;simp only[zz];refine bR m 0 rfl rfl nL wO rfl (by decide) rfl rfl (by rw[iQ Hf,br,gl (show j≤B.length by omega)]) ((((m.o 2 rfl).lat Hf (by decide)).take (k:=j) (by omega)).cells Hf (by decide)) (Qr _) (by omega) (by omega) ?_;clear m;intro A9 cap9 u m;simp only[zF,zG] at m;rw[bv,aq] at m;simp only[aq];refine aP 6 [1,0] m ?_;simp only[↓aD,An];intro u m;refine Ep rfl ?_;intro u g2 e hg hB;replace m:=m.newB e hg hB;clear e hg hB;simp only[zz];refine bR m 1 rfl rfl nL wO rfl (by decide) rfl rfl rfl (m.b 0 rfl).rowsO (jM rfl) (by omega) (by omega) ?_;clear m;intro A9 cap9 u m;simp only[zF,zG] at m;refine aP 6 [0] m ?_;simp only[↓aD];intro u m;refine aB (qO nL iC rfl rfl (ag _) (by omega) (by omega) rfl) ?_;simp only[zz];refine bR m 1 rfl rfl nL wO rfl (by decide) rfl rfl (by rw[iQ Hf,ej,h4]) (((m.o 3 rfl).lat Hf (by decide)).cellsD Hf (by decide) (by omega)) (Qr _) (by omega) (by omega) ?_;clear m;intro A9 cap9 u m;simp only[zF,zG] at m;refine aB aM ?_;simp only[zz];replace m:=(m.pull 1 rfl).mv 2 rfl;simp only[cY,cZ,zF,zG] at m;refine aP 7 [0] m ?_;simp only[↓aD];refine⟨by omega,?_⟩;intro u m;refine hK1 (n3-(k+1)) _ _ ?_ ?_ ?_
        · omega
        · simp only[zz,zv]
        ·
         simp only[zQ,zR,zD,zE];exact⟨k+1,_,_,_,rfl,((m.reO 2 rfl ((m.o 2 rfl).as (by rw[hs,av,av];rfl))).sel [false,false,true,true]),by omega,by omega,rfl⟩
       ·
        have hpre2:=hpre.step hx (by simpa using hc4);refine aS 7 [0] m ?_;simp only[↓aD];refine⟨by omega,?_⟩;intro u m;refine hK2 (n4-(j+1)) _ _ ?_ ?_ ?_
        · omega
        · simp only[zz,zv]
        ·
         simp only[zQ,zR,zD,zE];exact⟨j+1,rfl,m,hpre2,by omega,rfl⟩
      ·
       have hjl:j=B.length:=by omega
       have hpos:abH B e=j:=by rw[hjl] at hpre ⊢;exact ady hpre
       rw[Pc (by omega) hz2 hpos] at hs;refine aS 3 [0] m ?_;simp only[↓aD];intro u m;refine aB aM ?_;replace m:=m.nilO 56 6;refine aP 6 [0] m ?_;simp only[↓aD];intro u m;refine aB (lB nL iC rfl rfl (ag _) (by omega) (by omega)) ?_;simp only[zz];refine bR m 0 rfl rfl nL wO rfl (by decide) rfl rfl (by rw[iQ Hf,br,gl (show j≤B.length by omega)]) ((((m.o 2 rfl).lat Hf (by decide)).take (k:=j) (by omega)).cells Hf (by decide)) (Qr _) (by omega) (by omega) ?_;clear m;intro A9 cap9 u m;simp only[zF,zG] at m;rw[bv,aq] at m;simp only[aq];refine aP 6 [1,0] m ?_;simp only[↓aD,An];intro u m;refine Ep rfl ?_;intro u g2 e hg hB;replace m:=m.newB e hg hB;clear e hg hB;simp only[zz];refine bR m 1 rfl rfl nL wO rfl (by decide) rfl rfl rfl (m.b 0 rfl).rowsO (jM rfl) (by omega) (by omega) ?_;clear m;intro A9 cap9 u m;simp only[zF,zG] at m;refine aP 6 [0] m ?_;simp only[↓aD];intro u m;refine aB (qO nL iC rfl rfl (ag _) (by omega) (by omega) rfl) ?_;simp only[zz];refine bR m 1 rfl rfl nL wO rfl (by decide) rfl rfl (by rw[iQ Hf,ej,h4]) (((m.o 3 rfl).lat Hf (by decide)).cellsD Hf (by decide) (by omega)) (Qr _) (by omega) (by omega) ?_;clear m;intro A9 cap9 u m;simp only[zF,zG] at m;refine aB aM ?_;simp only[zz];replace m:=(m.pull 1 rfl).mv 2 rfl;simp only[cY,cZ,zF,zG] at m;refine aP 7 [0] m ?_;simp only[↓aD];refine⟨by omega,?_⟩;intro u m;refine hK1 (n3-(k+1)) _ _ ?_ ?_ ?_
       · omega
       · simp only[zz,zv]
       ·
        simp only[zQ,zR,zD,zE];exact⟨k+1,_,_,_,rfl,((m.reO 2 rfl ((m.o 2 rfl).as (by rw[hs,av,av];rfl))).sel [false,false,true,true]),by omega,by omega,rfl⟩
   ·
    rw[Ld (.inl hz)] at hs;refine cR 7 [0,0,0] m ?_;simp only[↓aD,Kn,aR,Aq,ab,ad,aa];refine⟨by omega,?_⟩;intro u m;refine cW m rfl rfl (Hy (es:=bA ts) (e:=(e.2,e.1)) _ ((m.o 2 rfl).lat Hf (by decide)) (by omega)) ?_;clear m;rintro v u m rfl;refine aP 15 [1,0] m ?_;simp only[↓aD];refine⟨by omega,?_⟩;intro u m;refine hK1 (n3-(k+1)) _ _ ?_ ?_ ?_
    · omega
    · simp only[zz,zv]
    ·
     simp only[zQ,zR,zD,zE];exact⟨k+1,_,_,_,rfl,((m.reO 1 rfl ((m.o 1 rfl).as (by rw[hs]))).sel [false,true,true]),by omega,by omega,rfl⟩
  ·
   have hkN:k=(bA ts).length:=by omega
   rw[hkN,fy] at m;refine aS 7 [] m ?_;simp only[↓aD];intro u m;refine aQ rfl rfl ?_;try simp only[zD,zE]
   exact⟨_,rfl,m.ext,⟨_,_,_,((m.o 0 rfl).num Hf (by decide)).symm,rfl,(m.o 0 rfl)⟩⟩
theorem aa2{op:Bool}{ts:List T3}(h:ts.any vN=true):iH op ts=20:=by simp[iH,h]
theorem aa3{op:Bool}{ts:List T3}(h:ts.any vN=false)(h2:(bA ts).any (fun e=>decide (1<kC (bA ts) e))=true):iH op ts=21:=by rw[iH,h,h2];rfl
theorem aa4{op:Bool}{ts:List T3}(h:ts.any vN=false)(h2:(bA ts).any (fun e=>decide (1<kC (bA ts) e))=false)(h3:(!op&&decide (0<(bY ts).length))=false)(h4:(dJ ts).any (Jo ts)=true):iH op ts=23:=by rw[iH,h,h2,h3,h4];rfl
theorem ae4{op:Bool}{ts:List T3}(h:ts.any vN=false)(h2:(bA ts).any (fun e=>decide (1<kC (bA ts) e))=false)(h3:(!op&&decide (0<(bY ts).length))=false)(h4:(dJ ts).any (Jo ts)=false):iH op ts=0:=by rw[iH,h,h2,h3,h4];rfl
theorem gt1{n:Nat}:((1:Int)<(n:Int))↔1<n:=by omega
theorem ahJ{ts:List T3}{N cap:Nat}{A:Option Addr}(w:ah)(hT:bK w A N ts)(hN:N≤100000000):dF prog 79 [.slice A N cap,.bool true] w (fun v _=>v=.int .i64 (iH true ts)):=by
 refine⟨anL,?_⟩;have m:=Mem.refl w;have htl:=hT.len;have he3:=qS ts;have hcl:=Gc ts
 go_enter func79,ntmps79
 refine eS 10 [0] m ?_;simp only[↓aD];intro u m;refine bW [5] [4,11,12,13,14,15,16,17,18,19,20,21,22,23,24,25,26,27,28,29,30,31,32,33,34,35,36,37,38,39,40,41,42,43,44,45,46,47,48,49,50,51,52,53] (fun n vs wl=>∃(k:Nat),vs=[.int .i64 (k:Int)]∧Mem w wl []∧((ts.take k).any vN=false)∧(k≤N)∧(n=N-k)) ?_ ?_
 ·
  apply Exists.intro;simp only[zQ,zR,zD,zE];exact⟨0,rfl,m,rfl,cd _,rfl⟩
 ·
  intro n vs wr hI u K1 hK1;clear m;obtain⟨k,rfl,m,hd0,hk,hn⟩:=hI;simp only[zu,zF,zG];refine aS 8 [0,0] m ?_;simp only[↓aD,iS];intro u m;refine bC rfl (fun hc1=>?_) (fun hc1=>?_)
  ·
   obtain⟨t,ht,_,a,rfl,hrow⟩:=hT.get (i:=k) (by omega);refine aS 4 [0] m ?_;simp only[↓aD];intro u m;refine mq m aC (by kernel_rfl) (aH aI (aH aI ?_));simp only[zz];refine aH (aF bT aN rfl rfl (by omega) (by omega) (cI (ag _))) (eC 1 [] ?_);simp only[↓aD,dB,ab,ad,aa];refine⟨by omega,?_⟩;refine ql rfl (fun u m=>((nV.cor ((hrow.ext m.ext)) (c:=0) (by decide)).lies aG aA)) ?_;simp only[zz];refine aH aI (aH aI ?_);simp only[zz];refine aH (aF bT aN rfl rfl (by omega) (by omega) (cI (ag _))) (eC 1 [] ?_);simp only[↓aD,dB,ab,ad,aa];refine⟨by omega,?_⟩;refine ql rfl (fun u m=>((nV.cor ((hrow.ext m.ext)) (c:=1) (by decide)).lies aG aA)) ?_;simp only[zz];refine aH (cG rfl rfl) (aH aI (gF rfl (fun hb=>aI) (gF rfl (fun hb=>aI) ?_)));simp only[zz];refine gF rfl (fun hb=>aF bT aN (bD hb rfl) (bD hb rfl) (by omega) (by omega) (cI (ag _))) (gF rfl (fun hb=>aJ dC aA (bD hb rfl) rfl (by decide) (by decide) rfl) ?_);simp only[zz];refine nJ rfl (fun hb u m=>aW (bD hb rfl) ((nV.cor ((hrow.ext m.ext)) (c:=1) (by decide)).lies aG aA)) (gF rfl (fun hb=>aI) (gF rfl (fun hb=>aI) ?_));simp only[zz];refine gF rfl (fun hb=>aF bT aN (bD hb rfl) (bD hb rfl) (by omega) (by omega) (cI (ag _))) (gF rfl (fun hb=>aJ dC aA (bD hb rfl) rfl (by decide) (by decide) rfl) ?_);simp only[zz];refine nJ rfl (fun hb u m=>aW (bD hb rfl) ((nV.cor ((hrow.ext m.ext)) (c:=2) (by decide)).lies aG aA)) (gF rfl (fun hb=>cG (bD hb rfl) (bD hb rfl)) (aH (dW rfl rfl rfl) (aH aI (gF rfl (fun hb=>aI) ?_))));simp only[zz];refine gF rfl (fun hb=>aI) ?_;simp only[zz];refine gF rfl (fun hb=>aF bT aN (bD hb rfl) (bD hb rfl) (by omega) (by omega) (cI (ag _))) (gF rfl (fun hb=>aJ dC aA (bD hb rfl) rfl (by decide) (by decide) rfl) ?_);simp only[zz];refine nJ rfl (fun hb u m=>aW (bD hb rfl) ((nV.cor ((hrow.ext m.ext)) (c:=2) (by decide)).lies aG aA)) (gF rfl (fun hb=>aI) (gF rfl (fun hb=>aI) ?_));simp only[zz];refine gF rfl (fun hb=>aF bT aN (bD hb rfl) (bD hb rfl) (by omega) (by omega) (cI (ag _))) (gF rfl (fun hb=>aJ dC aA (bD hb rfl) rfl (by decide) (by decide) rfl) ?_);simp only[zz];refine nJ rfl (fun hb u m=>aW (bD hb rfl) ((nV.cor ((hrow.ext m.ext)) (c:=0) (by decide)).lies aG aA)) (gF rfl (fun hb=>cG (bD hb rfl) (bD hb rfl)) (aH (dW rfl rfl rfl) (aY ?_)));clear m;intro u m;refine gc ?_;simp only[zz];refine gR rfl (fun hc2=>?_) (fun hc2=>?_)
   ·
    have hd:=Cn (p:=vN) ht (Qs.symm.trans hc2);refine aS 5 [] m ?_;simp only[↓aD];intro u m;refine aQ rfl rfl ?_;try simp only[zD,zE]
    exact⟨_,rfl,m.ext,by rw[aa2 hd]⟩
   ·
    have hd1:(ts.take (k+1)).any vN=false:=by rw[tL ht,hd0,←Qs];exact hc2
    refine aS 7 [0] m ?_;simp only[↓aD];refine⟨by omega,?_⟩;intro u m;refine hK1 (N-(k+1)) _ _ ?_ ?_ ?_
    · omega
    · simp only[zz,zv]
    ·
     simp only[zQ,zR,zD,zE];exact⟨k+1,rfl,m,hd1,by omega,rfl⟩
  ·
   have hkN:k=N:=by omega
   rw[hkN,show ts.take N=ts from be (by omega)] at hd0;refine aS 4 [0] m ?_;simp only[↓aD];intro u m;refine bJ rfl rfl (aaY _ (hT.ext m.ext) (by omega)) ?_;rintro v u e ⟨A3,cap3,n3,hn3,rfl,hN⟩;replace m:=m.newO e hN;clear e hN;have hle3:=(m.o 0 rfl).le;refine aP 8 [0] m ?_;simp only[↓aD];intro u m;refine bW [7] [4,56,57,58,59,60,61,62,63,64,65,66,67,68] (fun n vs wl=>∃(k:Nat),vs=[.int .i64 (k:Int)]∧Mem w wl [oI 56 6 A3 n3 cap3 ((bA ts).flatMap cM)]∧(((bA ts).take k).any (fun e=>decide (1<kC (bA ts) e))=false)∧(k≤n3)∧(n=n3-k)) ?_ ?_
   ·
    apply Exists.intro;simp only[zQ,zR,zD,zE];exact⟨0,rfl,m,rfl,cd _,rfl⟩
   ·
    intro n vs wr hI u K2 hK2;clear m;obtain⟨k,rfl,m,hc0,hk,hn⟩:=hI;simp only[zu,zF,zG];refine aS 8 [0,0] m ?_;simp only[↓aD,Ve];intro u m;refine bC rfl (fun hc3=>?_) (fun hc3=>?_)
    ·
     obtain⟨e,he⟩:∃e,(bA ts)[k]? = some e:=⟨_,an (by omega)⟩
     obtain⟨gO,rfl⟩:=(m.o 0 rfl).some (by omega);refine lF 8 [0] m ?_;simp only[↓aD];rintro u m rfl;refine aB (aF nL iC rfl rfl (by omega) (by omega) (cI (ag _))) ?_;simp only[zz];refine aO rfl (((m.o 0 rfl).at Hf he).lies Ba iC) ?_;simp only[zz];refine cW m rfl rfl (Hy (es:=bA ts) (e:=e) _ ((m.o 0 rfl).lat Hf (by decide)) (by omega)) ?_;clear m;rintro v u m rfl;refine aP 2 [0,0] m ?_;simp only[↓aD];intro u m;refine bC rfl (fun hc4=>?_) (fun hc4=>?_)
     ·
      have hc:=Cn (p:=(fun e=>decide (1<kC (bA ts) e))) he (decide_eq_true (gt1.1 hc4));refine aS 5 [] m ?_;simp only[↓aD];intro u m;refine aQ rfl rfl ?_;try simp only[zD,zE]
      exact⟨_,rfl,m.ext,by rw[aa3 hd0 hc]⟩
     ·
      have hc01:((bA ts).take (k+1)).any (fun e=>decide (1<kC (bA ts) e))=false:=by rw[tL he,hc0,decide_eq_false (fun h=>hc4 (gt1.2 h))];rfl
      refine aS 7 [0] m ?_;simp only[↓aD];refine⟨by omega,?_⟩;intro u m;refine hK2 (n3-(k+1)) _ _ ?_ ?_ ?_
      · omega
      · simp only[zz,zv]
      ·
       simp only[zQ,zR,zD,zE];exact⟨k+1,rfl,m,hc01,by omega,rfl⟩
    ·
     have hkN:k=(bA ts).length:=by omega
     rw[hkN,fy] at hc0;refine aS 18 [0] m ?_;simp only[↓aD,el,ei];intro u m;refine bJ rfl rfl (acd _ (hT.ext m.ext) hN) ?_;rintro v u e ⟨A8,cap8,n8,hn8,rfl,hN⟩;replace m:=m.newO e hN;clear e hN;have hle8:=(m.o 0 rfl).le;refine aP 8 [0] m ?_;simp only[↓aD];intro u m;refine bW [9] [4,10,79,80,81,82,83,84,85,86,87,88,89,90,91] (fun n vs wl=>∃(k:Nat),vs=[.int .i64 (k:Int)]∧Mem w wl [oI 30 3 A8 n8 cap8 ((dJ ts).flatMap oN)]∧(((dJ ts).take k).any (Jo ts)=false)∧(k≤n8)∧(n=n8-k)) ?_ ?_
     ·
      apply Exists.intro;simp only[zQ,zR,zD,zE];exact⟨0,rfl,(m.sel [true,false]),rfl,cd _,rfl⟩
     ·
      intro n vs wr hI u K3 hK3;clear m;obtain⟨k,rfl,m,hp0,hk,hn⟩:=hI;simp only[zu,zF,zG];refine aS 8 [0,0] m ?_;simp only[↓aD,kX];intro u m;refine bC rfl (fun hc6=>?_) (fun hc6=>?_)
      ·
       obtain⟨x,hx⟩:∃x,(dJ ts)[k]? = some x:=⟨_,an (by omega)⟩
       obtain⟨gO,rfl⟩:=(m.o 0 rfl).some (by omega);refine lF 8 [0] m ?_;simp only[↓aD];rintro u m rfl;refine aB (aF dS aA rfl rfl (by omega) (by omega) (cI (ag _))) ?_;simp only[zz];refine aO rfl (((m.o 0 rfl).at Hg hx).lies aG aA) ?_;simp only[zz];refine cW m rfl rfl (ace (p:=x) _ (hT.ext m.ext) (by omega)) ?_;clear m;rintro v u m rfl;refine aP 6 [0] m ?_;simp only[↓aD];intro u m;refine gR rfl (fun hc7=>?_) (fun hc7=>?_)
       ·
        have hp:=Cn (p:=Jo ts) hx hc7;refine aS 5 [] m ?_;simp only[↓aD];intro u m;refine aQ rfl rfl ?_;try simp only[zD,zE]
        exact⟨_,rfl,m.ext,by rw[aa4 hd0 hc0 rfl hp]⟩
       ·
        have hp1:((dJ ts).take (k+1)).any (Jo ts)=false:=by rw[tL hx,hp0,hc7];rfl
        refine aS 7 [0] m ?_;simp only[↓aD];refine⟨by omega,?_⟩;intro u m;refine hK3 (n8-(k+1)) _ _ ?_ ?_ ?_
        · omega
        · simp only[zz,zv]
        ·
         simp only[zQ,zR,zD,zE];exact⟨k+1,rfl,m,hp1,by omega,rfl⟩
      ·
       have hkN:k=(dJ ts).length:=by omega
       rw[hkN,fy] at hp0;refine aS 6 [] m ?_;simp only[↓aD];intro u m;refine aQ rfl rfl ?_;try simp only[zD,zE]
       exact⟨_,rfl,m.ext,by rw[ae4 hd0 hc0 rfl hp0]⟩
theorem Si{ts:List T3}{N cap:Nat}{A:Option Addr}(w:ah)(hT:bK w A N ts)(hN:N≤100000000):dF prog 30 [.slice A N cap] w (fun v _=>v=.int .i64 (iH true ts)):=by
 refine⟨anf,?_⟩;have m:=Mem.refl w
 go_enter func30,ntmps30
 refine eS 7 [0] m ?_;simp only[↓aD];intro u m;refine cW m rfl rfl (ahJ _ (hT.ext m.ext) hN) ?_;clear m;rintro v u m rfl;refine aP 3 [] m ?_;simp only[↓aD];intro u m;exact aQ rfl rfl (⟨_,rfl,m.ext,rfl⟩)
theorem ae5{t:T3}:eM prog 234 [tr t] (.agg #[.int .i64 t.a.x,.int .i64 t.a.y,.int .i64 t.a.z,.int .i64 t.b.x,.int .i64 t.b.y,.int .i64 t.b.z,.int .i64 t.b.x,.int .i64 t.b.y,.int .i64 t.b.z,.int .i64 t.c.x,.int .i64 t.c.y,.int .i64 t.c.z,.int .i64 t.c.x,.int .i64 t.c.y,.int .i64 t.c.z,.int .i64 t.a.x,.int .i64 t.a.y,.int .i64 t.a.z]):=by
 intro w;refine⟨akk,?_⟩;have m:=Mem.refl w
 go_enter func234,ntmps234
 refine eS 23 [1,1,1,1,1,1] m ?_;simp only[↓aD,alB,dB,aR,Fc,alC,ab,ad,aa];intro g1 g2;refine⟨by omega,?_⟩;intro u m;refine cR 3 [0] m ?_;simp only[↓aD,alA,aa];intro u m;exact aQ rfl ⟨_,rfl,((m.b 0 rfl).full ag5 abN)⟩ (⟨_,rfl,m.ext,rfl⟩)
theorem alR{e:E3}:eM prog 236 [ed e] (ed (e.2,e.1)):=by
 intro w;refine⟨akl,?_⟩;have m:=Mem.refl w
 go_enter func236,ntmps236
 refine eS 15 [1,1,0] m ?_;simp only[↓aD,xH,xI,aR,Ks,Fc,rV,aa];intro g1 g2;intro u m;exact aQ rfl ⟨_,rfl,((m.b 0 rfl).full yE oF)⟩ (⟨_,rfl,m.ext,rfl⟩)
theorem Zk{E:List E3}{e:E3}(h:(!!(bU (eY [] E) e).getD false)=true):false=decide (E++[e]).Nodup:=by
 rw[Bool.not_not] at h;exact (decide_eq_false fun k=>(Kc.1 k).2 (Ut.1 h)).symm
theorem Sj{E:List E3}{e:E3}{b:Bool}(hb:b=decide E.Nodup)(h:(!!(bU (eY [] E) e).getD false)=false):b=decide (E++[e]).Nodup:=by
 rw[Bool.not_not] at h;rw[hb,decide_eq_decide,Kc];exact⟨fun k=>⟨k,fun h2=>by rw[Ut.2 h2] at h;cases h⟩,And.left⟩
theorem kM{K:Type}[DecidableEq K](ks:List K)(k:K):eY [] (ks++[k])=eP (eY [] ks) k true:=aec [] ks [k]
theorem Le{ts:List T3}{N cap:Nat}{A:Option Addr}(w:ah)(hT:bK w A N ts)(hN:N≤10000000):dF prog 164 [.slice A N cap] w (fun v w'=>∃g es c,v=.tuple #[.map (some g),.bool (decide (bA ts).Nodup)]∧Mem w w' [mI g es c]∧bB ed bf (eY [] (bA ts)) es c):=by
 refine⟨ajO,?_⟩;have m:=Mem.refl w
 go_enter func164,ntmps164
 refine eS 7 [0] m ?_;simp only[↓aD];intro u m;refine kH m ?_;clear m;intro q8 u m;have hD8:=bB.nil (K:=E3) (V:=Bool) ed bf;refine aP 14 [0] m ?_;simp only[↓aD,iS];intro u m;refine bW [5,13] [7,9,14,15,16,17,18,19,20,21,22,23,24,25,26,27] (fun n vs wl=>∃(k:Nat) (es:Array bx) (c:Nat) (b:Bool),vs=[.bool b,.int .i64 (k:Int)]∧Mem w wl [mI q8 es c]∧(bB ed bf (eY [] (bA (ts.take k))) es c)∧(b=decide (bA (ts.take k)).Nodup)∧(k≤N)∧(n=N-k)) ?_ ?_
 ·
  apply Exists.intro;simp only[zQ,zR,zD,zE];exact⟨0,_,_,true,rfl,m,hD8,rfl,cd _,rfl⟩
 ·
  intro n vs wr hI u K1 hK1;clear m;obtain⟨k,es,c,b0,rfl,m,hD8,hb0,hk,hn⟩:=hI;simp only[zu,zF,zG];refine aS 5 [0,0] m ?_;simp only[↓aD];intro u m;refine bC rfl (fun hc1=>?_) (fun hc1=>?_)
  ·
   obtain⟨t,ht,_,a,rfl,hrow⟩:=hT.get (i:=k) (by omega);refine aS 5 [0] m ?_;simp only[↓aD];intro u m;refine aB (aF bT aN rfl rfl (by omega) (by omega) (cI (ag _))) ?_;simp only[zz];refine aO rfl ((hrow.ext m.ext).lies cF aN) ?_;simp only[zz];refine aP 6 [0,0,0] m ?_;simp only[↓aD,mU,gZ,aa];intro g2;intro u m;refine vJ m rfl rfl ae5 16 [4,1,0] ?_;simp only[↓aD];refine⟨by omega,?_⟩;intro u m;refine aB (Mr rfl rfl) (aP 7 [0,0,0] m ?_);simp only[↓aD,xH,rV,aa];intro g3;intro u m;refine kP m 2 Qt rfl rfl (fun m=>Sh (p:=(t.a,t.b)) m 2 rfl hD8) ?_;clear m;rintro v i u m ⟨rfl,es',c',rfl,hD'⟩;simp only[zF,zG] at m;simp only[zz];rw[←kM] at hD';clear hD8;have hD8:=hD';clear hD';refine aP 2 [0] m ?_;simp only[↓aD];intro u m;refine Jz m [5] [] (fun vs=>∃(b:Bool),vs=[.bool b]∧(b=decide (((bA (ts.take k))++[(t.a,t.b)])).Nodup)) ?_ ?_
   ·
    intro K2 hK2;refine dQ rfl (fun hc3=>?_) (fun hc3=>?_)
    ·
     refine aS 3 [0] m ?_;simp only[↓aD];intro u m;refine hK2 _ _ ?_ m ?_
     · simp only[zz,zv]
     ·
      simp only[zQ,zR,zD,zE];exact⟨false,rfl,Zk hc3⟩
    ·
     skip
     refine aS 1 [0] m ?_;simp only[↓aD];intro u m;refine hK2 _ _ ?_ m ?_
     · simp only[zz,zv]
     ·
      simp only[zQ,zR,zD,zE];exact⟨b0,rfl,Sj hb0 hc3⟩
   ·
    intro vs wr m hI u;obtain⟨b1,rfl,hb1⟩:=hI;simp only[zu,zF,zG];refine cR 17 [1,0] m ?_;simp only[↓aD,ai];refine⟨by omega,?_⟩;intro u m;refine aB (Ms rfl rfl) (aP 7 [0,0,0] m ?_);simp only[↓aD,xH,rV,aa];intro g4;intro u m;refine kP m 3 Qt rfl rfl (fun m=>Sh (p:=(t.b,t.c)) m 3 rfl hD8) ?_;clear m;rintro v i u m ⟨rfl,es',c',rfl,hD'⟩;simp only[zF,zG] at m;simp only[zz];rw[←kM] at hD';clear hD8;have hD8:=hD';clear hD';refine aP 2 [0] m ?_;simp only[↓aD];intro u m;refine Jz m [5] [] (fun vs=>∃(b:Bool),vs=[.bool b]∧(b=decide ((((bA (ts.take k))++[(t.a,t.b)])++[(t.b,t.c)])).Nodup)) ?_ ?_
    ·
     intro K3 hK3;refine dQ rfl (fun hc3=>?_) (fun hc3=>?_)
     ·
      refine aS 3 [0] m ?_;simp only[↓aD];intro u m;refine hK3 _ _ ?_ m ?_
      · simp only[zz,zv]
      ·
       simp only[zQ,zR,zD,zE];exact⟨false,rfl,Zk hc3⟩
     ·
      skip
      refine aS 1 [0] m ?_;simp only[↓aD];intro u m;refine hK3 _ _ ?_ m ?_
      · simp only[zz,zv]
      ·
       simp only[zQ,zR,zD,zE];exact⟨b1,rfl,Sj hb1 hc3⟩
    ·
     intro vs wr m hI u;obtain⟨b2,rfl,hb2⟩:=hI;simp only[zu,zF,zG];refine cR 17 [1,0] m ?_;simp only[↓aD,ai];refine⟨by omega,?_⟩;intro u m;refine aB (Mt rfl rfl) (aP 7 [0,0,0] m ?_);simp only[↓aD,xH,rV,aa];intro g5;intro u m;refine kP m 4 Qt rfl rfl (fun m=>Sh (p:=(t.c,t.a)) m 4 rfl hD8) ?_;clear m;rintro v i u m ⟨rfl,es',c',rfl,hD'⟩;simp only[zF,zG] at m;simp only[zz];rw[←kM] at hD';clear hD8;have hD8:=hD';clear hD';refine aP 2 [0] m ?_;simp only[↓aD];intro u m;refine Jz m [5] [] (fun vs=>∃(b:Bool),vs=[.bool b]∧(b=decide (((((bA (ts.take k))++[(t.a,t.b)])++[(t.b,t.c)])++[(t.c,t.a)])).Nodup)) ?_ ?_
     ·
      intro K4 hK4;refine dQ rfl (fun hc3=>?_) (fun hc3=>?_)
      ·
       refine aS 3 [0] m ?_;simp only[↓aD];intro u m;refine hK4 _ _ ?_ m ?_
       · simp only[zz,zv]
       ·
        simp only[zQ,zR,zD,zE];exact⟨false,rfl,Zk hc3⟩
      ·
       skip
       refine aS 1 [0] m ?_;simp only[↓aD];intro u m;refine hK4 _ _ ?_ m ?_
       · simp only[zz,zv]
       ·
        simp only[zQ,zR,zD,zE];exact⟨b2,rfl,Sj hb2 hc3⟩
     ·
      intro vs wr m hI u;obtain⟨b3,rfl,hb3⟩:=hI;simp only[zu,zF,zG];refine cR 18 [2,0] m ?_;simp only[↓aD,ai];refine⟨by omega,?_⟩;intro u m;refine hK1 (N-(k+1)) _ _ ?_ ?_ ?_
      · omega
      · simp only[zz,zv]
      ·
       simp only[zQ,zR,zD,zE];exact⟨k+1,_,_,b3,rfl,(m.sel [false,false,false,false,true]),by rw[rH ht];simpa[cq] using hD8,by rw[hb3,rH ht];simp only[cq,b_,bv],by omega,rfl⟩
  ·
   have hkN:k=N:=by omega
   rw[hkN,show ts.take N=ts from be (by rw[hT.len];exact ap _)] at hD8 hb0;refine aS 9 [] m ?_;simp only[↓aD];intro u m;refine vW rfl rfl rfl ?_;try simp only[zD,zE]
   exact⟨_,rfl,m.ext,_,_,_,by rw[hb0],m,hD8⟩
theorem alS{E:List E3}{dn:List (E3 × Bool)}{kp:E3}{kb:Bool}(h:(!(bU (eY [] E) (kp.2,kp.1)).getD false)=true):((dn++[(kp,kb)]).map (·.1)).filter (fun e=>decide ((e.2,e.1)∉E))=(dn.map (·.1)).filter (fun e=>decide ((e.2,e.1)∉E))++[kp]:=by
 rw[pA] at h;simp only[cl,gj,List.map_cons,List.map_nil];rw[List.filter_cons_of_pos (by simpa using h)];rfl
theorem alT{E:List E3}{dn:List (E3 × Bool)}{kp:E3}{kb:Bool}(h:(!(bU (eY [] E) (kp.2,kp.1)).getD false)=false):((dn++[(kp,kb)]).map (·.1)).filter (fun e=>decide ((e.2,e.1)∉E))=(dn.map (·.1)).filter (fun e=>decide ((e.2,e.1)∉E)):=by
 rw[pA] at h;simp only[cl,gj,List.map_cons,List.map_nil];rw[List.filter_cons_of_neg (by simpa using h)];simp
theorem ae6{E:List E3}{dn:List (E3 × Bool)}(h:dn.Perm (eY [] E)):(∀a,a∈(dn.map (·.1)).filter (fun e=>decide ((e.2,e.1)∉E))↔a∈E∧(a.2,a.1)∉E)∧((dn.map (·.1)).filter (fun e=>decide ((e.2,e.1)∉E))).length≤E.length:=by
 refine⟨fun a=>?_,?_⟩
 ·
  rw[List.mem_filter,(h.map (·.1)).mem_iff,rP];simp
 ·
  refine Nat.le_trans (List.length_filter_le _ _) ?_;have:=mS E [];rw[ct,h.length_eq];simpa using this
theorem acr{g c:Nat}{es:Array bx}{E:List E3}(w:ah)(hM:gW w g es c)(hD:bB ed bf (eY [] E) es c):dF prog 165 [.map (some g)] w (fun v w'=>∃g es c ks,v=.map (some g)∧Mem w w' [mI g es c]∧bB ed bf (eY [] ks) es c∧(∀a,a∈ks↔a∈E∧(a.2,a.1)∉E)∧ks.length≤E.length):=by
 refine⟨ajP,?_⟩;have m:=Mem.refl w
 go_enter func165,ntmps165
 refine eS 6 [0] m ?_;simp only[↓aD];intro u m;refine kH m ?_;clear m;intro q8 u m;have hD8:=bB.nil (K:=E3) (V:=Bool) ed bf;refine aP 6 [0] m ?_;simp only[↓aD];intro u m;refine sU m underlying208 rfl (hM.ext m.ext) ?_;clear m;intro r1 u m;refine aP 2 [0] m ?_;simp only[↓aD];intro u m;refine bW [] [4,8,9,10,11,12,13,14,15,16,17,18,19] (fun n vs wl=>∃(dn rs:List (E3 × Bool)) (sn:Array Nat) (es2:Array bx) (c2:Nat),vs=[]∧Mem w wl [iI r1 g c sn,mI q8 es2 c2]∧(bB ed bf (eY [] ((dn.map (·.1)).filter (fun e=>decide ((e.2,e.1)∉E)))) es2 c2)∧(lY ed bf (eY [] E) es sn dn rs)∧(n=rs.length)) ?_ ?_
 ·
  apply Exists.intro;simp only[zQ,zR,zD,zE];exact⟨[],eY [] E,#[],_,_,trivial,m,hD8,lY.start hD,rfl⟩
 ·
  intro n vs wr hI u K1 hK1;clear m;obtain⟨dn,rs,sn,es2,c2,rfl,m,hD8,hT,hn⟩:=hI;simp only[zu,zF,zG];refine aS 2 [0] m ?_;simp only[↓aD];intro u m;refine Gj m 0 rfl rfl (hM.ext m.ext) hD hT ?_;clear m;intro bb kk vv sn u m hN;simp only[zF,zG] at m;refine aB (nN rfl) (aP 2 [0] m ?_);simp only[↓aD];intro u m;refine dQ rfl (fun hc1=>?_) (fun hc1=>?_)
  ·
   obtain⟨kp,kb,rs2,hp,hT2⟩:=Cx hc1 hN;refine aS 4 [0] m ?_;simp only[↓aD];intro u m;refine eQ (qJ rfl (m.r 0 rfl) (hM.ext m.ext) hD hT2) ?_;simp only[zz];refine aP 8 [0,0,0] m ?_;simp only[↓aD,xH,rV,aa];intro g3;intro u m;refine kA m rfl rfl alR ?_;clear m;intro u m;simp only[zz];refine eQ (dK (ek:=ed) (en:=bf) (k:=(kp.2,kp.1)) (v0:=false) underlying208 mE xM rfl rfl (hM.ext m.ext) hD) ?_;simp only[zz];refine aP 2 [0] m ?_;simp only[↓aD];intro u m;refine dQ rfl (fun hc2=>?_) (fun hc2=>?_)
   ·
    refine aS 3 [0,0] m ?_;simp only[↓aD,rV];intro u m;refine kP m 2 Qt rfl rfl (fun m=>Sh (p:=kp) m 2 rfl hD8) ?_;clear m;rintro v i u m ⟨rfl,es',c',rfl,hD'⟩;simp only[zF,zG] at m;simp only[zz];rw[←kM] at hD';clear hD8;have hD8:=hD';clear hD';refine aP 2 [0] m ?_;simp only[↓aD];intro u m;refine hK1 rs2.length _ _ ?_ ?_ ?_
    · rw[hn,hp.length_eq];exact dq _
    · simp only[zz,zv]
    ·
     simp only[zQ,zR,zD,zE];exact⟨dn++[(kp,kb)],rs2,_,_,_,trivial,(m.sel [false,true,true]),by rw[alS hc2];exact hD8,hT2,rfl⟩
   ·
    refine aS 2 [0] m ?_;simp only[↓aD];intro u m;refine hK1 rs2.length _ _ ?_ ?_ ?_
    · rw[hn,hp.length_eq];exact dq _
    · simp only[zz,zv]
    ·
     simp only[zQ,zR,zD,zE];exact⟨dn++[(kp,kb)],rs2,_,_,_,trivial,(m.sel [false,true,true]),by rw[alT hc2];exact hD8,hT2,rfl⟩
  ·
   obtain rfl:=Cw hc1 hN;refine aS 7 [] m ?_;simp only[↓aD];intro u m;exact aQ rfl rfl (⟨_,rfl,m.ext,_,_,_,_,rfl,m.sel [false,true],hD8,ae6 hT.done⟩)
theorem acs{ts:List T3}{ks ps:List E3}(hk:∀a,a∈ks↔a∈bA ts∧(a.2,a.1)∉bA ts)(hp:ps.Perm ((eY [] ks).map (·.1)))(hs:ps.Pairwise fun a b=>¬Gm b a):ps=bY ts:=by
 refine Ur ?_ (Nb ts) fun a=>?_
 ·
  have hn:ps.Nodup:=hp.nodup_iff.2 (Be _ _ .nil);refine List.Pairwise.imp₂ (fun a b (h:¬Gm b a) (k:a≠b)=>?_) hs hn;rcases Gm.tri a b with h1 | h1 | h1
  · exact h1
  · exact absurd h1 k
  · exact absurd h1 h
 ·
  rw[hp.mem_iff,rP,Yn,hk];simp
theorem acu{ts:List T3}{N cap:Nat}{A:Option Addr}(w:ah)(hT:bK w A N ts)(hN:N≤10000000):dF prog 98 [.slice A N cap] w (SL 56 6 ((bY ts).flatMap cM) (bY ts).length w):=by
 refine⟨anR,?_⟩;have m:=Mem.refl w;have htl:=hT.len;have hel:=qS ts
 go_enter func98,ntmps98
 refine eS 7 [0] m ?_;simp only[↓aD];intro u m;refine bJ rfl rfl (Le _ (hT.ext m.ext) (by omega)) ?_;rintro v u e ⟨g8,es8,c8,rfl,hM,hD8⟩;replace m:=m.plus hM;clear hM e;simp only[b_,bv] at m;refine aP 8 [0] m ?_;simp only[↓aD];intro u m;refine aB aM ?_;replace m:=m.nilO 56 6;refine aP 5 [0] m ?_;simp only[↓aD];intro u m;refine bJ rfl rfl (acr _ (m.p 1 rfl) hD8) ?_;rintro v u e ⟨g9,es9,c9,ks,rfl,hM,hD9,hks,hkl⟩;replace m:=m.plus hM;clear hM e;simp only[b_,bv] at m;simp only[zz];refine bJ rfl rfl (acq _ (m.p 0 rfl) hD9 (by have h1:=mS ks [];simp only[bt] at h1;omega)) ?_;rintro v u e ⟨A5,n5,cap5,_,rfl,hN,ps,rfl,hps,hso⟩;replace m:=m.newO e hN;clear e hN;obtain rfl:=acs hks hps hso;obtain rfl:(bY ts).length=n5:=(m.o 0 rfl).num Hf (by decide);have hle5:=(m.o 0 rfl).le;have hbl:(bY ts).length≤(bA ts).length:=by have:=Jk (all:=bA ts) (bA ts) [];simpa[bY] using this
 refine aP 4 [0] m ?_;simp only[↓aD,alq];intro u m;refine bW [5,17] [7,18,19,20,21,22,23,24,25,26,27,28,29] (fun n vs wl=>∃(k:Nat) (A6:Option Addr) (cap6:Nat),vs=[.slice A6 k cap6,.int .i64 (k:Int)]∧Mem w wl [oI 215 6 A5 (bY ts).length cap5 ((bY ts).flatMap cM),oI 56 6 A6 k cap6 (((bY ts).take k).flatMap cM)]∧(k≤(bY ts).length)∧(n=(bY ts).length-k)) ?_ ?_
 ·
  apply Exists.intro;simp only[zQ,zR,zD,zE];exact⟨0,_,_,rfl,(m.sel [true,false,true,false]),cd _,rfl⟩
 ·
  intro n vs wr hI u K1 hK1;clear m;obtain⟨k,A6,cap6,rfl,m,hk,hn⟩:=hI;simp only[zu,zF,zG];refine aS 5 [0,0] m ?_;simp only[↓aD];intro u m;refine bC rfl (fun hc1=>?_) (fun hc1=>?_)
  ·
   obtain⟨e,he⟩:∃e,(bY ts)[k]? = some e:=⟨_,an (by omega)⟩
   obtain⟨gO,rfl⟩:=(m.o 0 rfl).some (by omega);refine lF 5 [0] m ?_;simp only[↓aD];rintro u m rfl;refine aB (aF underlying212 oF rfl rfl (by omega) (by omega) (cI (ag _))) ?_;simp only[zz];refine aO rfl (((m.o 0 rfl).at Hf he).lies yE oF) ?_;simp only[zz];refine aP 10 [0,0,0,0] m ?_;simp only[↓aD,xH,rV,Ks,aR,xI,Aq,aa];intro g1;intro u m;refine Ep rfl ?_;intro u g2 e hg hB;replace m:=m.newB e hg hB;clear e hg hB;simp only[zz];refine bR m 3 rfl rfl nL wO rfl (by decide) rfl rfl rfl (m.b 0 rfl).rowsO (jM rfl) (by omega) (by omega) ?_;clear m;intro A6 cap6 u m;simp only[zF,zG] at m;refine aP 7 [0] m ?_;simp only[↓aD];refine⟨by omega,?_⟩;intro u m;refine hK1 ((bY ts).length-(k+1)) _ _ ?_ ?_ ?_
   · omega
   · simp only[zz,zv]
   ·
    simp only[zQ,zR,zD,zE];exact⟨k+1,_,_,rfl,((m.reO 3 rfl ((m.o 3 rfl).as (by rw[cC he,av];rfl))).sel [false,false,true,true]),by omega,rfl⟩
  ·
   obtain rfl:k=(bY ts).length:=by omega
   rw[fy] at m;refine aS 7 [] m ?_;simp only[↓aD];intro u m;exact aQ rfl rfl (⟨_,rfl,m.ext,⟨_,_,_,rfl,rfl,(m.o 1 rfl)⟩⟩)
end Go.Proofs.YtfekpcimgncioaaGreatDoor
namespace Go.Lith
open Go.RowKit Go.ChangeMaps Go.MapKept
def ahK{K V:Type}[DecidableEq K](ek:K→ac)(en:V→ac)(D:List (K × V))(k:K)(es:Array bx)(c b:Nat):Prop :=
 ∀u,∃p,es.findIdx? (fun e=>(e.born:Int) == (b:Int))=some p∧bB ek en (eP D k u) (es.modify p fun e=>{ e with val:=en u }) c
section
variable {K V:Type} [DecidableEq K] {P:Program} {T M E ty:aj} {ek:K→ac} {en:V→ac} {w w0:ah} {g c:Nat} {es:Array bx} {D:List (K × V)}
theorem alU{α:Type}{l:List α}{p:Nat}{x:α}(h:l[p]? = some x):l.set p x=l:=by
 apply List.ext_getElem?;intro j;rw[List.getElem?_set];split
 · rename_i e;subst e;rw[if_pos (ar.1 h).1,h]
 · rfl
theorem Vn{b p:Nat}(hn:(es.toList.map (·.born)).Nodup){e:bx}(he:es[p]? = some e)(hb:e.born=b):es.findIdx? (fun e=>(e.born:Int) == (b:Int))=some p:=by
 rw[Array.findIdx?_eq_some_iff_getElem];have hp:=(da.1 he).1;have hx:=(da.1 he).2;refine⟨hp,by rw[hx,hb];simp,fun j hj=>?_⟩;have hj':j<es.size:=by omega
 simp only[Bool.not_eq_true,beq_eq_false_iff_ne,ne_eq,Int.natCast_inj];intro hh;have h1:(es.toList.map (·.born))[j]'(by simpa using hj')=(es.toList.map (·.born))[p]'(by simpa using hp):=by
  simp only[List.getElem_map,Array.getElem_toList];rw[hh,hx,hb]
 have:=(List.getElem_inj hn).1 h1;omega
theorem Zl{p:Nat}{e:bx}(he:es[p]? = some e)(k u:ac)(hk:e.key=k):(es.modify p fun e=>{ e with val:=u })=es.modify p fun e=>{ e with key:=k,val:=u }:=by
 apply jb;intro j;rw[im,im];split
 · rename_i hj;subst hj;rw[he];simp[hk]
 · rfl
theorem ahL(hD:bB ek en D es c){p:Nat}{k:K}{v:V}(hp:D[p]? = some (k,v)):∃e,es[p]? = some e∧e.key=ek k∧e.val=en v:=by
 have h2:=congrArg (fun L=>L[p]?) hD.cells;simp only[dw,hp,d_] at h2;rw[Array.getElem?_toList] at h2;cases h3:es[p]? with
 | none=>rw[h3] at h2;cases h2
 | some x =>
  rw[h3] at h2;simp only[d_,fp,My,ff] at h2;exact⟨x,rfl,h2.1,h2.2⟩
theorem Nf{v0:V}(hu:P.underlying M=some (.map T E))(hz:mC P E (en v0))(kt:pI P T ek)(hM:gW w g es c)(hD:bB ek en D es c)(k:K) :
 ∃es' c' b,(Instr.mapEntry M (.map (some g)) (ek k)).run P w=.ok (.tuple #[en ((bU D k).getD v0),.int .i64 (b:Nat)]) (setBlock w g (.map es' c'))∧bB ek en (eP D k ((bU D k).getD v0)) es' c'∧ahK ek en D k es' c' b:=by
 unfold gW at hM;cases hf:oA D k 0 with
 | none =>
  obtain⟨h0,h1,_⟩:=oG D k 0 hf;obtain⟨inf,hi,hz⟩:=hz;have hzv:(zeroValue E).run P w=.ok (en v0) w:=by simp[zeroValue,typeInfo,program,Sem.run,hi,hz]
  have hP:=hD.push k v0;refine⟨_,_,c,?_,by rw[h0,h1];exact hP,fun u=>⟨es.size,Vn hP.nd (e:={ key:=ek k,val:=en v0,born:=c }) (by simp) rfl,?_⟩⟩
  · simp only[Instr.mapEntry,Sem.run_bind,bu hu,Result.andThen,getObj,Sem.run,hM,Sem.run_pure,kt.chk,rM kt k w hD,hf,Option.map_none,hzv,run_setObj_map _ hM,h0,Option.getD_none,goInt]
    rfl
  · rw[h1]
    have e:((es.push { key:=ek k,val:=en v0,born:=c }).modify es.size fun e=>{ e with val:=en u })=es.push { key:=ek k,val:=en u,born:=c }:=by
     apply jb;intro j;rw[im,Array.getElem?_push,Array.getElem?_push];split
     · rename_i hj;subst hj;simp
     · rename_i hj;simp[Ne.symm hj]
    rw[e];exact hD.push k u
 | some p =>
  obtain⟨j,v⟩:=p;obtain⟨p,rfl,hp,h0,h1,_⟩:=kV D k 0 j v hf;rw[aq] at hf;obtain⟨e,he,hk,hv⟩:=ahL hD hp;have hk':((es[p]?).map (·.key)).getD (ek k)=ek k:=by rw[he];simp[hk]
  have hm:(es.modify p fun e=>{ e with key:=ek k })=es:=by
   apply jb;intro j;rw[im];split
   · rename_i hj;subst hj;rw[he];simp[←hk]
   · rfl
  refine⟨es,c,e.born,?_,by rw[h0,cv,h1,alU hp];exact hD,fun u=>⟨p,Vn hD.nd he rfl,?_⟩⟩
  · simp only[Instr.mapEntry,Sem.run_bind,bu hu,Result.andThen,getObj,Sem.run,hM,Sem.run_pure,kt.chk,rM kt k w hD,hf,d_,hk',Instr.keyThatStays,kt.bits,if_true,hm,run_setObj_map _ hM,h0,cv,he,hk,kt.bits,if_true,Sem.run_pure,hm,goInt]
    rfl
  · rw[h1,Zl he (ek k) (en u) hk]
    exact hD.set hp u
theorem Hm{b:Nat}{k:K}(hM:gW w g es c)(hS:ahK ek en D k es c b)(u:V) :
 ∃es',(Instr.entryStore M (.map (some g)) (.int .i64 (b:Nat)) (en u)).run P w=.ok () (setBlock w g (.map es' c))∧bB ek en (eP D k u) es' c:=by
 obtain⟨p,hp,hD⟩:=hS u;unfold gW at hM;refine⟨_,?_,hD⟩;simp only[Instr.entryStore,Sem.run_bind,Result.andThen,getObj,Sem.run,hM,Sem.run_pure,asInt,asIntOf,hp];exact run_setObj_map _ hM
theorem ahM{ds:List cg}{l:List ac}{op:Op}{ops:Array Oper}{Q:Exit→Act→ah→Prop}{rest:List Oper}{pos:String}{after:Array Edge}
 (h:∀o:Oper,o.op=op→∃v w',(execOp (Fr l).eval o).run P w=.ok (.value v) w'∧ao P ops Q rest (Fr l ds) w'):ao P ops Q (bi none op ty pos after none::rest) (Fr l ds) w:=by
 refine wpList_plain rfl fun K hK=>?_;unfold Oper.wp;obtain⟨v,w',hr,hw⟩:=h (bi none op ty pos after none) rfl;rw[iY,hr];exact hK _ _ hw
variable {is:List It} {ds:List cg} {l:List ac} {x y z:a_} {ops:Array Oper} {Q:Exit→Act→ah→Prop} {rest:List Oper} {d:Nat} {pos:String} {after:Array Edge}
theorem uW{v0:V}{a:K}(m:Mem w0 w is)(k:Nat)(hk:is[k]? = some (mI g es c))(hu:P.underlying M=some (.map T E))(hz:mC P E (en v0))(kt:pI P T ek)(hx:ev l x=.map (some g))(hy:ev l y=ek a)(hD:bB ek en D es c)
 (h:∀es' c' b u,Mem w0 u (is.set k (mI g es' c'))→bB ek en (eP D a ((bU D a).getD v0)) es' c'→ahK ek en D a es' c' b→ao P ops Q rest (Fr (l.set d (.tuple #[en ((bU D a).getD v0),.int .i64 (b:Nat)])) ds) u) :
 ao P ops Q (bi (some d) (.mapEntry M x y) ty pos after none::rest) (Fr l ds) w:=by
 have hM:=m.p k hk;obtain⟨es',c',b,hr,hD',hS⟩:=Nf hu hz kt hM hD a;have hC:=nM (w:=w) (g:=g) (.map es' c');refine kN (w':=setBlock w g (.map es' c')) (fun o ho hty=>by simp[execOp,ho,hty,bS,hx,hy,hr]) (h es' c' b _ ?_ hD' hS);exact m.put k hk hC.os hC.tape hC.output (by rw[hC.size];exact ap _) (fun b _ hne=>hC.block b fun e=>hne (by rw[e];rfl)) (iP hM) (.inl fun _ h=>h)
theorem nR{v:V}{a:K}{b:Nat}(m:Mem w0 w is)(k:Nat)(hk:is[k]? = some (mI g es c))(hx:ev l x=.map (some g))(hy:ev l y=.int .i64 (b:Nat))(hz:ev l z=en v)(hS:ahK ek en D a es c b)
 (h:∀es' u,Mem w0 u (is.set k (mI g es' c))→bB ek en (eP D a v) es' c→ao P ops Q rest (Fr l ds) u):ao P ops Q (bi none (.entryStore M x y z) ty pos after none::rest) (Fr l ds) w:=by
 have hM:=m.p k hk;obtain⟨es',hr,hD'⟩:=Hm (P:=P) (M:=M) hM hS v;have hC:=nM (w:=w) (g:=g) (.map es' c);refine Cd (w':=setBlock w g (.map es' c)) (fun o ho=>by simp[execOp,ho,bS,hx,hy,hz,hr]) (h es' _ ?_ hD');exact m.put k hk hC.os hC.tape hC.output (by rw[hC.size];exact ap _) (fun b _ hne=>hC.block b fun e=>hne (by rw[e];rfl)) (iP hM) (.inl fun _ h=>h)
end
end Go.Lith
