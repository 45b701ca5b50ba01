/-
 Texts of one claim, laid together: K37, K38, K39, K40, K47, K48, K49, Cp, K32, K33, Seq, K26, K20, K21, K22, K23, Mono, K24, K25.
-/
import Derived.RunT
import Derived.Test.YtfekpcimgncioaaGreatDoorCM7
open Nat renaming reduceAdd→aa,reduceMul→ag,zero_add→ar,le_refl→av,le_trans→az,zero_le→br,lt_or_ge→dl,not_lt_zero→iw
open Int renaming reduceToNat→ad,toNat_natCast→ai,reduceAdd→ak,fdiv_eq_ediv_of_nonneg→ia,toNat→ph
open Go renaming Value→ah,World→aj,TypeId→an,wp_region_lit→ap,wpList→au,Program→bh,MapEntry→b_,Deferred→cn
open List renaming getElem?_eq_getElem→am,mem_cons→ao,getElem?_eq_some_iff→aq,length_append→aw,length_cons→ay,take_of_length_le→a_,flatMap_append→ba,map_cons→bi,mem_of_getElem?→bj,mem_append→bt,length_nil→bu,not_mem_nil→bz,nil_append→cd,cons_append→ci,map_nil→ck,mem_filter→ct,mem_iff_getElem?→cv,toList_toArray→cz,any_eq_true→dt,all_eq_true→dw,any_eq_false→fg,map_toArray→fk,size_toArray→fy,mem_zipIdx_iff_getElem?→gq,append_toArray→gz,foldl_append→g_,getD_eq_getElem?_getD→ie,push_toArray→io,getElem?_zip_eq_some→ly,length_set→ov
open Bool renaming and_eq_true→be,or_eq_true→dm,not_eq_true'→ei,eq_iff_iff→ep,false_ne_true→et,and_false→ig,false_and→jd,true_and→ji,and_true→jr,and_self→lh,not_not→m_
open Go.Exit renaming inBlock→cq
open Option.some renaming inj→dq
open BitVec renaming ofInt→eo
open Array renaming replicate_succ→gj,replicate_zero→gl,getElem?_setIfInBounds_ne→h_
set_option maxHeartbeats 8000000
set_option linter.unusedSimpArgs false
set_option linter.unusedVariables false
set_option linter.unusedSectionVars false
namespace Go.Proofs.YtfekpcimgncioaaGreatDoor
open Go.Proofs.Tryz
open Go.RowKit Go.Lith
set_option maxRecDepth 100000
attribute [local irreducible] au wpQuiet fR bO cO Code.wp
attribute [local congr] pL fX fY fZ gA gB kI gC gD gE gF gG gH gI gJ gK gL gM eS eT gN gQ gS gT gU kK dC dD cR dB gR kJ eV eW eX gW gX kL
theorem Yh{w:aj}{a:Addr}{t:T3}{j:Nat}(h:mB w a (aN t))(hj:j<3):mB w (a.add (j*3)) (bN (t.cor j)):=by
 rcases j with _ | _ | _ | j
 · exact (h.sub 0).take 3
 · exact (h.sub 3).take 3
 · exact (h.sub 6).take 3
 · omega
theorem aqe{p:P3}{o:List P3}{t:T3}(h:t.has p=true):Hv p o t=(wP t).foldl (Hu p) o:=by unfold Hv;rw[if_pos h];rfl
theorem aqf{p:P3}{o:List P3}{t:T3}(h:t.has p=false):Hv p o t=o:=by unfold Hv;rw[if_neg (by rw[h];exact et)]
theorem Vh{p:P3}{ts:List T3}{k:Nat}{t:T3}(h:ts[k]? = some t):(ts.take (k+1)).foldl (Hv p) []=Hv p ((ts.take k).foldl (Hv p) []) t:=by rw[bX h,g_];rfl
theorem Vi{p:P3}{t:T3}{j:Nat}{o:List P3}(hj:j<3):((wP t).take (j+1)).foldl (Hu p) o=Hu p (((wP t).take j).foldl (Hu p) o) (t.cor j):=by rw[bX (Yg hj),g_];rfl
theorem aqg{p q:P3}{o:List P3}{b:Bool}(hb:b=decide (q∈o))(h:(decide (q≠p) && !b)=true):Hu p o q=o++[q]:=by
 subst hb;simp only[be,decide_eq_true_eq,ei,decide_eq_false_iff_not] at h;exact if_pos h
theorem aqh{p q:P3}{o:List P3}{b:Bool}(hb:b=decide (q∈o))(h:(decide (q≠p) && !b)=false):Hu p o q=o:=by
 subst hb;refine if_neg fun k=>?_;rw[decide_eq_true k.1,decide_eq_false k.2] at h;cases h
theorem Yi{ts:List T3}{N cap:Nat}{A:Option Addr}{p:P3}(w:aj)(hT:bP w A N ts)(hN:N≤10000000):dJ prog 106 [.slice A N cap,pt p] w (SL 30 3 ((iD ts p).flatMap bN) (iD ts p).length w):=by
 refine⟨amF,?_⟩;have m:=Mem.refl w;have htl:=hT.len
 go_enter func106,ntmps106
 refine eC 7 [0] m ?_;simp only[↓aD];intro g1;intro u m;refine aC aM ?_;replace m:=m.nilO 30 3;refine aS 7 [0] m ?_;simp only[↓aD];intro u m;refine cE [5,6] [7,8,9,10,11,12,13,14,15,16,17,18,19,20,21,22,23,24,25,26,27,28,29,30,31,32,33,34,35,36,37,38,39,40,41,42,43,44,45,46,47,48,49,50,51,52,53,54,55] (fun n vs wl=>∃(k:Nat) (xs:List P3) (A5:Option Addr) (cap5:Nat),vs=[.slice A5 xs.length cap5,.int .i64 (k:Int)]∧Mem w wl [oI 30 3 A5 xs.length cap5 (xs.flatMap bN),bI g1 [.int .i64 p.x,.int .i64 p.y,.int .i64 p.z] 30]∧(xs=(ts.take k).foldl (Hv p) [])∧(xs.length≤3*k)∧(k≤N)∧(n=N-k)) ?_ ?_
 · skip
   apply Exists.intro;simp only[zQ,zR,zD,zE];exact⟨0,[],_,_,rfl,m,rfl,br _,br _,rfl⟩
 · intro n vs wr hI u K1 hK1
   clear m;obtain⟨k,xs,A5,cap5,rfl,m,hxs,hxl,hk,hn⟩:=hI;simp only[zu,zF,zG];refine aW 8 [0,0] m ?_;simp only[↓aD,iU];intro u m;refine bG rfl (fun hc1=>?_) (fun hc1=>?_)
   · skip
     obtain⟨t,ht,_,a,hA,hrow⟩:=hT.get (i:=k) (by omega);subst hA;refine aW 4 [0] m ?_;simp only[↓aD];intro u m;refine mq m aB (by kernel_rfl) (eM 3 [1] ?_);simp only[↓aD,aO];refine aJ (aF cC aL rfl rfl (by omega) (by omega) (bZ (ai _))) ?_;simp only[zz];refine ql rfl (fun u m=>((hrow.ext m.ext).lies bV aL)) ?_;simp only[zz];refine eR rfl rfl (Lu (t:=t) (p:=p)) (aJ aM (bD ?_));clear m;intro u m;refine cP 1 [] m ?_;simp only[↓aD];intro u m;cases hh:t.has p
     · skip
       refine cP 23 [2,1,0] m ?_;simp only[↓aD];refine⟨by omega,?_⟩;intro u m;refine hK1 (N-(k+1)) _ _ ?_ ?_ ?_
       · omega
       · simp only[zz,zv]
       · simp only[zQ,zR,zD,zE]
         exact⟨k+1,xs,_,_,rfl,m,(by rw[Vh ht,←hxs,aqf hh]),(by omega),(by omega),rfl⟩
     · skip
       refine cP 4 [0] m ?_;simp only[↓aD];intro u m;refine cE [5,8] [21,22,23,24,25,26,27,28,29,30,31,32,33,34,35,36,37,38,39,40,41,42,43,44,45,46,47,48,49,50,51,52,53,54,55] (fun n vs wl=>∃(j:Nat) (ys:List P3) (A5:Option Addr) (cap5:Nat),vs=[.slice A5 ys.length cap5,.int .i64 (j:Int)]∧Mem w wl [oI 30 3 A5 ys.length cap5 (ys.flatMap bN),bI g1 [.int .i64 p.x,.int .i64 p.y,.int .i64 p.z] 30]∧(ys=((wP t).take j).foldl (Hu p) xs)∧(ys.length≤3*k+j)∧(j≤3)∧(n=3-j)) ?_ ?_
       · skip
         apply Exists.intro;simp only[zQ,zR,zD,zE];exact⟨0,xs,_,_,rfl,m,rfl,(by omega),br _,rfl⟩
       · intro n vs wr hI u K2 hK2
         clear m;obtain⟨j,ys,A5,cap5,rfl,m,hys,hyl,hj,hn2⟩:=hI;simp only[zu,zF,zG];refine aW 6 [0,0] m ?_;simp only[↓aD];intro u m;refine cS rfl (fun hb=>aH) (aC (bU rfl rfl rfl) ?_);refine aS 1 [0] m ?_;simp only[↓aD];intro u m;refine cN rfl (fun hc2=>?_) (fun hc2=>?_)
         · skip
           have hj3:j<3:=by simp only[jr,decide_eq_true_eq] at hc2;omega
           refine aW 4 [0] m ?_;simp only[↓aD];intro u m;refine mh m [true,true] [(0,true),(1,true),(2,true),(3,true),(4,true),(5,true),(6,true),(7,true),(8,true),(9,true),(10,true),(11,true),(12,true),(13,true),(14,true),(15,true),(16,false),(17,true),(18,true)] aB (by kernel_rfl) (bT (fun _ _ _ _ _ h=>h)) (ol:=?_) ?hol ?_
           case hol=>simp only[zw,zQ,zR];try rfl
           clear m;intro u m;refine Oi 3 [] ?_;simp only[↓aD];refine bB (aF cC aL rfl rfl (by omega) (by omega) (bZ (ai _))) ?_;simp only[zz];refine bB (aI cH aA rfl rfl (by omega) (by omega) (bZ (ai _))) ?_;simp only[zz];refine eN rfl (fun u m=>(show fL _ _ _ _ (pt (t.cor j)) from (Yh (hrow.ext m.ext) hj3).lies aG aA)) ?_;simp only[zz];refine eN rfl (fun u m=>((m.b 1 rfl).full aG aA)) ?_;simp only[zz];refine bB (fA rfl rfl) (bB aH (kB rfl (fun hb=>aH) (kB rfl (fun hb=>aH) ?_)));simp only[zz];refine kB rfl (fun hb=>aH) (kB rfl (fun hb=>aH) ?_);simp only[zz];refine kB rfl (fun hb=>aF cC aL (aV hb rfl) (aV hb rfl) (by omega) (by omega) (bZ (ai _))) ?_;simp only[zz];refine kB rfl (fun hb=>aI cH aA (aV hb rfl) (aV hb rfl) (by omega) (by omega) (bZ (ai _))) ?_;simp only[zz];refine uS rfl (fun hb u m=>aU (aV hb rfl) (show fL _ _ _ _ (pt (t.cor j)) from (Yh (hrow.ext m.ext) hj3).lies aG aA)) (bK (Xu m rfl rfl (fun hb=>by simp only[cz,bi,ck,zA,zB,zC,zD,zE,hb,iT];rfl) (fun hb=>pW (p:=t.cor j) _ ((m.o 0 rfl).lat (enc:=bN) (fun _=>rfl) (by decide)) (by omega)) ?_));clear m;intro u m;refine aK (⟨m,?_⟩);refine kB rfl (fun hb=>nM (aV hb rfl)) (bB (bU rfl rfl rfl) (cK (gc ?_)));simp only[zz];refine cN rfl (fun hc3=>?_) (fun hc3=>?_)
           · skip
             rw[pne] at hc3;have hadd:=aqg (p:=p) rfl hc3;refine aW 5 [0] m ?_;simp only[↓aD];intro u m;refine aC (aF cC aL rfl rfl (by omega) (by omega) (bZ (ai _))) ?_;simp only[zz];refine aC (aI cH aA rfl rfl (by omega) (by omega) (bZ (ai _))) ?_;simp only[zz];refine aQ rfl (show fL _ _ _ _ (pt (t.cor j)) from (Yh (hrow.ext m.ext) hj3).lies aG aA) ?_;simp only[zz];refine kY rfl ?_;intro u g2 e hg hB;replace m:=m.newB e hg hB;clear e hg hB;simp only[zz];refine bQ m 1 rfl rfl cX nG rfl (by decide) rfl rfl rfl (m.b 0 rfl).rowsO (fW rfl) (by omega) (by omega) ?_;clear m;intro A5 cap5 u m;simp only[zF,zG] at m;rw[show ys.flatMap bN++_=(ys++[t.cor j]).flatMap bN by rw[ba];rfl] at m;have hll:ys.length+1=(ys++[t.cor j]).length:=by simp
             rw[hll] at m;rw[hll];refine aS 8 [0] m ?_;simp only[↓aD];refine⟨by omega,?_⟩;intro u m;refine hK2 (3-(j+1)) _ _ ?_ ?_ ?_
             · omega
             · simp only[zz,zv]
             · simp only[zQ,zR,zD,zE]
               exact⟨j+1,ys++[t.cor j],_,_,rfl,(m.sel [false,true,true]),(by rw[Vi hj3,←hys,hadd]),(by rw[aw];simp only[ay,bu];omega),(by omega),rfl⟩
           · skip
             rw[pne] at hc3;have hadd:=aqh (p:=p) rfl hc3;refine aW 7 [0] m ?_;simp only[↓aD];refine⟨by omega,?_⟩;intro u m;refine hK2 (3-(j+1)) _ _ ?_ ?_ ?_
             · omega
             · simp only[zz,zv]
             · simp only[zQ,zR,zD,zE]
               exact⟨j+1,ys,_,_,rfl,m,(by rw[Vi hj3,←hys,hadd]),(by omega),(by omega),rfl⟩
         · skip
           obtain rfl:j=3:=by simp only[jr,decide_eq_false_iff_not] at hc2;omega
           refine aW 7 [0] m ?_;simp only[↓aD];refine⟨by omega,?_⟩;intro u m;refine hK1 (N-(k+1)) _ _ ?_ ?_ ?_
           · omega
           · simp only[zz,zv]
           · simp only[zQ,zR,zD,zE]
             exact⟨k+1,ys,_,_,rfl,m,(by rw[Vh ht,←hxs,aqe hh];exact hys),(by omega),(by omega),rfl⟩
   · skip
     obtain rfl:k=N:=by omega
     rw[show ts.take k=ts from a_ (by omega)] at hxs;refine aW 7 [] m ?_;simp only[↓aD];intro u m;refine aR rfl rfl ?_;try simp only[zD,zE]
     exact⟨_,rfl,m.ext,⟨_,_,_,by rw[hxs];rfl,rfl,(m.o 0 rfl).as (by rw[hxs];rfl)⟩⟩
def Sv(e:E3)(j:Nat):P3:=if j=0 then e.1 else e.2
theorem ai6{w:aj}{a:Addr}{e:E3}{j:Nat}(h:mB w a (cT e))(hj:j<2):mB w (a.add (j*3)) (bN (Sv e j)):=by
 rcases j with _ | _ | j
 · exact (h.sub 0).take 3
 · exact (h.sub 3).take 3
 · omega
def BdS(es:List E3)(xs:List P3):Prop:=∀q,q∈xs↔Dw es q=true
def BdI(es:List E3)(e:E3)(j:Nat)(xs:List P3):Prop:=∀q,q∈xs↔Dw es q=true∨(0<j∧q=e.1)∨(1<j∧q=e.2)
theorem BdS.nil:BdS [] []:=fun q=>by simp[Dw]
theorem BdS.start{es:List E3}{xs:List P3}(h:BdS es xs)(e:E3):BdI es e 0 xs:=fun q=>by rw[h q];simp
theorem BdI.done{es:List E3}{e:E3}{xs:List P3}(h:BdI es e 2 xs):BdS (es++[e]) xs:=fun q=>by
 rw[h q];simp only[Dw,List.any_append,List.any_cons,List.any_nil,Bool.or_false,dm,decide_eq_true_eq];constructor
 · rintro (k | ⟨_,k⟩ | ⟨_,k⟩)
   · exact .inl k
   · exact .inr (.inl k.symm)
   · exact .inr (.inr k.symm)
 · rintro (k | k | k)
   · exact .inl k
   · exact .inr (.inl ⟨by omega,k.symm⟩)
   · exact .inr (.inr ⟨by omega,k.symm⟩)
theorem BdI.skip{es:List E3}{e:E3}{j:Nat}{xs:List P3}(h:BdI es e j xs)(hj:j<2)(hm:Sv e j∈xs):BdI es e (j+1) xs:=fun q=>by
 have h1:=h (Sv e j);rw[h q];rcases j with _ | _ | j
 · have:Dw es e.1=true∨(0<0∧e.1=e.1)∨(1<0∧e.1=e.2):=h1.1 hm
   constructor
   · rintro (k | ⟨k,_⟩ | ⟨k,_⟩)
     · exact .inl k
     · omega
     · omega
   · rintro (k | ⟨_,rfl⟩ | ⟨k,_⟩)
     · exact .inl k
     · exact this
     · omega
 · have:=h1.1 hm
   constructor
   · rintro (k | ⟨_,rfl⟩ | ⟨k,_⟩)
     · exact .inl k
     · exact .inr (.inl ⟨by omega,rfl⟩)
     · omega
   · rintro (k | ⟨_,rfl⟩ | ⟨_,rfl⟩)
     · exact .inl k
     · exact .inr (.inl ⟨by omega,rfl⟩)
     · exact this
 · omega
theorem BdI.put{es:List E3}{e:E3}{j:Nat}{xs:List P3}(h:BdI es e j xs)(hj:j<2):BdI es e (j+1) (xs++[Sv e j]):=fun q=>by
 rw[bt,h q,List.mem_singleton];rcases j with _ | _ | j
 · constructor
   · rintro ((k | ⟨k,_⟩ | ⟨k,_⟩) | rfl)
     · exact .inl k
     · omega
     · omega
     · exact .inr (.inl ⟨by omega,rfl⟩)
   · rintro (k | ⟨_,rfl⟩ | ⟨k,_⟩)
     · exact .inl (.inl k)
     · exact .inr rfl
     · omega
 · constructor
   · rintro ((k | ⟨_,rfl⟩ | ⟨k,_⟩) | rfl)
     · exact .inl k
     · exact .inr (.inl ⟨by omega,rfl⟩)
     · omega
     · exact .inr (.inr ⟨by omega,rfl⟩)
   · rintro (k | ⟨_,rfl⟩ | ⟨_,rfl⟩)
     · exact .inl (.inl k)
     · exact .inl (.inr (.inl ⟨by omega,rfl⟩))
     · exact .inr rfl
 · omega
theorem aed{ts:List T3}{N cap:Nat}{A:Option Addr}(w:aj)(hT:bP w A N ts)(hN:N≤1000000):dJ prog 72 [.slice A N cap] w (fun v w'=>∃xs:List P3,SL 30 3 (xs.flatMap bN) xs.length w v w'∧BdS (bF ts) xs∧xs.length≤10000000):=by
 refine⟨arw,?_⟩;have m:=Mem.refl w;have htl:=hT.len;have hbl:(bF ts).length≤3000000:=by have h1:=Gw (all:=aZ ts) (aZ ts) [];have h2:=qL ts;simp only[bu] at h1;unfold bF;omega
 go_enter func72,ntmps72
 refine eC 6 [0] m ?_;simp only[↓aD];intro u m;refine aC aM ?_;replace m:=m.nilO 30 3;refine aS 4 [0] m ?_;simp only[↓aD];intro u m;refine bJ rfl rfl (ah9 _ (hT.ext m.ext) (by omega)) ?_;rintro v u e ⟨A4,c4,n4,rfl,rfl,hN⟩;replace m:=m.newO e hN;clear e hN;refine aS 8 [0] m ?_;simp only[↓aD];intro u m;refine cE [3,5] [6,9,10,11,12,13,14,15,16,17,18,19,20,21,22,23,24,25,26,27,28,29,30,31,32,33,34,35,36] (fun n vs wl=>∃(k:Nat) (xs:List P3) (A3:Option Addr) (cap3:Nat),vs=[.slice A3 xs.length cap3,.int .i64 (k:Int)]∧Mem w wl [oI 56 6 A4 (bF ts).length c4 ((bF ts).flatMap cT),oI 30 3 A3 xs.length cap3 (xs.flatMap bN)]∧(BdS ((bF ts).take k) xs)∧(xs.length≤2*k)∧(k≤(bF ts).length)∧(n=(bF ts).length-k)) ?_ ?_
 · skip
   apply Exists.intro;simp only[zQ,zR,zD,zE];exact⟨0,[],_,_,rfl,m,BdS.nil,br _,br _,rfl⟩
 · intro n vs wr hI u K1 hK1
   clear m;obtain⟨k,xs,A3,cap3,rfl,m,hbs,hxl,hk,hn⟩:=hI;simp only[zu,zF,zG];refine aW 8 [0,0] m ?_;simp only[↓aD,Uo];intro u m;refine bG rfl (fun hc1=>?_) (fun hc1=>?_)
   · skip
     have hkl:k<(bF ts).length:=by omega
     obtain⟨e,he⟩:∃e,(bF ts)[k]? = some e:=⟨_,am hkl⟩
     obtain⟨g4,rfl⟩:=(m.o 0 rfl).some (by omega);refine jF 8 [0] m ?_;simp only[↓aD];rintro u m rfl;refine cE [3,6] [15,16,17,18,19,20,21,22,23,24,25,26,27,28,29,30,31,32,33,34,35,36] (fun n vs wl=>∃(j:Nat) (ys:List P3) (A3:Option Addr) (cap3:Nat),vs=[.slice A3 ys.length cap3,.int .i64 (j:Int)]∧Mem w wl [oI 56 6 (some ⟨g4,0,none⟩) (bF ts).length c4 ((bF ts).flatMap cT),oI 30 3 A3 ys.length cap3 (ys.flatMap bN)]∧(BdI ((bF ts).take k) e j ys)∧(ys.length≤2*k+j)∧(j≤2)∧(n=2-j)) ?_ ?_
     · skip
       apply Exists.intro;simp only[zQ,zR,zD,zE];exact⟨0,xs,_,_,rfl,m,hbs.start e,(by omega),br _,rfl⟩
     · intro n vs wr hI u K2 hK2
       clear m;obtain⟨j,ys,A3,cap3,rfl,m,hbi,hyl,hj,hn2⟩:=hI;simp only[zu,zF,zG];refine aW 6 [0,0] m ?_;simp only[↓aD];intro u m;refine bG rfl (fun hc2=>?_) (fun hc2=>?_)
       · skip
         have hj2:j<2:=by omega
         refine aW 9 [0] m ?_;simp only[↓aD];intro u m;refine aC (aF nV iH rfl rfl (by omega) (by omega) (bZ (ai _))) ?_;simp only[zz];refine aC (aI Dp aA rfl rfl (by omega) (by omega) (bZ (ai _))) ?_;simp only[zz];refine aQ rfl (show fL _ _ _ _ (pt (Sv e j)) from (ai6 (((m.o 0 rfl).lat (enc:=cT) (fun _=>rfl) (by decide)).at he) hj2).lies aG aA) ?_;simp only[zz];refine cU m rfl rfl (pW (p:=Sv e j) _ ((m.o 1 rfl).lat (enc:=bN) (fun _=>rfl) (by decide)) (by omega)) ?_;clear m;rintro v u m rfl;refine aS 2 [0] m ?_;simp only[↓aD];intro u m;refine cN rfl (fun hc3=>?_) (fun hc3=>?_)
         · skip
           have hbi2:=hbi.put hj2;refine aW 5 [0] m ?_;simp only[↓aD];intro u m;refine aC (aF nV iH rfl rfl (by omega) (by omega) (bZ (ai _))) ?_;simp only[zz];refine aC (aI Dp aA rfl rfl (by omega) (by omega) (bZ (ai _))) ?_;simp only[zz];refine aQ rfl (show fL _ _ _ _ (pt (Sv e j)) from (ai6 (((m.o 0 rfl).lat (enc:=cT) (fun _=>rfl) (by decide)).at he) hj2).lies aG aA) ?_;simp only[zz];refine kY rfl ?_;intro u g1 e hg hB;replace m:=m.newB e hg hB;clear e hg hB;simp only[zz];refine bQ m 2 rfl rfl cX nG rfl (by decide) rfl rfl rfl (m.b 0 rfl).rowsO (fW rfl) (by omega) (by omega) ?_;clear m;intro A3 cap3 u m;simp only[zF,zG] at m;rw[show ys.flatMap bN++_=(ys++[Sv e j]).flatMap bN by rw[ba];rfl] at m;have hll:ys.length+1=(ys++[Sv e j]).length:=by simp
           rw[hll] at m;rw[hll];refine aS 8 [0] m ?_;simp only[↓aD];refine⟨by omega,?_⟩;intro u m;refine hK2 (2-(j+1)) _ _ ?_ ?_ ?_
           · omega
           · simp only[zz,zv]
           · simp only[zQ,zR,zD,zE]
             exact⟨j+1,ys++[Sv e j],_,_,rfl,(m.sel [false,true,true]),hbi2,(by rw[aw];simp only[ay,bu];omega),by omega,rfl⟩
         · skip
           have hbi2:=hbi.skip hj2 (by simpa using hc3);refine aW 7 [0] m ?_;simp only[↓aD];refine⟨by omega,?_⟩;intro u m;refine hK2 (2-(j+1)) _ _ ?_ ?_ ?_
           · omega
           · simp only[zz,zv]
           · simp only[zQ,zR,zD,zE]
             exact⟨j+1,ys,_,_,rfl,m,hbi2,(by omega),by omega,rfl⟩
       · skip
         obtain rfl:j=2:=by omega
         refine aW 7 [0] m ?_;simp only[↓aD];refine⟨by omega,?_⟩;intro u m;refine hK1 ((bF ts).length-(k+1)) _ _ ?_ ?_ ?_
         · omega
         · simp only[zz,zv]
         · simp only[zQ,zR,zD,zE]
           exact⟨k+1,ys,_,_,rfl,m,(by rw[bX he];exact hbi.done),by omega,by omega,rfl⟩
   · skip
     obtain rfl:k=(bF ts).length:=by omega
     rw[a_ (av _)] at hbs;refine aW 7 [] m ?_;simp only[↓aD];intro u m;refine aR rfl rfl ?_;try simp only[zD,zE]
     exact⟨_,rfl,m.ext,xs,⟨_,_,_,rfl,rfl,(m.o 1 rfl)⟩,hbs,by omega⟩
def twB(t s:T3):Bool:=s.has t.a&&s.has t.b&&s.has t.c
theorem alj{l:List T3}{i j:Nat}{t s:T3}(hij:j<i)(ht:l[i]? = some t)(hs:l[j]? = some s)(h:twB t s=true):qR l=true:=by
 unfold qR;rw[dt];refine⟨(t,i),gq.2 ht,dt.2 ⟨s,bj (i:=j) (by rw[List.getElem?_take_of_lt hij];exact hs),h⟩⟩
theorem alk{l:List T3}{n:Nat}(hn:l.length≤n)(h:∀i j t s,i<n→j<i→l[i]? = some t→l[j]? = some s→twB t s=false):qR l=false:=by
 unfold qR;rw[fg];rintro⟨t,i⟩ hx;have ht:=gq.1 hx;simp only at ht ⊢;rw[Bool.not_eq_true,fg];intro s hs;obtain⟨j,hj⟩:=cv.1 hs;rw[List.getElem?_take] at hj;split at hj
 · rename_i hij
   have:=h i j t s (by have:=(aq.1 ht).1;omega) hij ht hj;unfold twB at this;rw[this];exact et
 · cases hj
theorem aqi{l:List T3}{u v x:P3}{bs:List P3}(hb:BdS (bF l) bs)(hv:Dw (bF l) v=true)(hx:x∈iD l u)(h:((decide (x≠v)&&decide (x∈bs)) && !decide (x∈iD l v))=true):Mi l u v=true:=by
 unfold Mi;rw[hv,ji,dt];refine⟨x,hx,?_⟩;rw[←h]
 congr 2
 rw[ep,decide_eq_true_eq,hb x]
theorem aqj{l:List T3}{u v:P3}{bs:List P3}(hb:BdS (bF l) bs)(h:∀x∈iD l u,((decide (x≠v)&&decide (x∈bs)) && !decide (x∈iD l v))=false):Mi l u v=false:=by
 unfold Mi;rw[Bool.and_eq_false_iff];refine .inr (fg.2 fun x hx k=>?_);have:=h x hx;rw[show decide (x∈bs)=Dw (bF l) x by rw[ep,decide_eq_true_eq,hb x]] at this;rw[this] at k;cases k
theorem ai8{ts:List T3}{N cap:Nat}{A:Option Addr}(w:aj)(hT:bP w A N ts)(hN:N≤10000000):dJ prog 108 [.slice A N cap] w (fun v _=>v=.bool (qR ts)):=by
 refine⟨amH,?_⟩;have m:=Mem.refl w;have htl:=hT.len
 go_enter func108,ntmps108
 refine eC 10 [0] m ?_;simp only[↓aD];intro u m;refine cE [3] [2,4,5,6,7,8,9,10,11,12,13,14,15,16,17,18,19,20,21,22,23,24,25,26,27,28,29,30,31,32,33,34,35,36,37,38,39,40,41,42,43,44,45,46,47,48,49] (fun n vs wl=>∃(i:Nat),vs=[.int .i64 (i:Int)]∧Mem w wl []∧(∀i' j t s,i'<i→j<i'→ts[i']? = some t→ts[j]? = some s→twB t s=false)∧(i≤N)∧(n=N-i)) ?_ ?_
 · skip
   apply Exists.intro;simp only[zQ,zR,zD,zE];exact⟨0,rfl,m,(fun _ _ _ _ h=>absurd h (iw _)),br _,rfl⟩
 · intro n vs wr hI u K1 hK1
   clear m;obtain⟨i,rfl,m,hq1,hk,hn⟩:=hI;simp only[zu,zF,zG];refine aW 8 [0,0] m ?_;simp only[↓aD,iU];intro u m;refine bG rfl (fun hc1=>?_) (fun hc1=>?_)
   · skip
     obtain⟨t,ht,_,a,hA,hrow⟩:=hT.get (i:=i) (by omega);refine aW 8 [0] m ?_;simp only[↓aD];intro u m;refine cE [4] [2,11,12,13,14,15,16,17,18,19,20,21,22,23,24,25,26,27,28,29,30,31,32,33,34,35,36,37,38,39,40,41,42,43,44,45,46,47,48,49] (fun n vs wl=>∃(j:Nat),vs=[.int .i64 (j:Int)]∧Mem w wl []∧(∀j' s,j'<j→ts[j']? = some s→twB t s=false)∧(j≤i)∧(n=i-j)) ?_ ?_
     · skip
       apply Exists.intro;simp only[zQ,zR,zD,zE];exact⟨0,rfl,m,(fun _ _ h=>absurd h (iw _)),br _,rfl⟩
     · intro n vs wr hI u K2 hK2
       clear m;obtain⟨j,rfl,m,hq2,hj,hn2⟩:=hI;simp only[zu,zF,zG];refine aW 7 [0,0] m ?_;simp only[↓aD];intro u m;refine bG rfl (fun hc2=>?_) (fun hc2=>?_)
       · skip
         obtain⟨s,hs,_,a2,hA2,hrow2⟩:=hT.get (i:=j) (by omega);obtain rfl:a=a2:=dq (hA.symm.trans hA2);subst hA;refine aW 4 [0] m ?_;simp only[↓aD];intro u m;refine mq m aB (by kernel_rfl) (aJ aH (aJ aH ?_));simp only[zz];refine aJ (aF cC aL rfl rfl (by omega) (by omega) (bZ (ai _))) (eM 1 [] ?_);simp only[↓aD,bM,ad,ag,aa];refine⟨by omega,?_⟩;refine ql rfl (fun u m=>(show fL _ _ _ _ (pt t.a) from ((hrow.ext m.ext).take 3).lies aG aA)) ?_;simp only[zz];refine aJ aH (aJ aH ?_);simp only[zz];refine aJ (aF cC aL rfl rfl (by omega) (by omega) (bZ (ai _))) ?_;simp only[zz];refine ql rfl (fun u m=>((hrow2.ext m.ext).lies bV aL)) ?_;simp only[zz];refine eR rfl rfl (Lu (t:=s) (p:=t.a)) (aJ aH (cM rfl (fun hb=>aH) (cM rfl (fun hb=>aH) ?_)));simp only[zz];refine cM rfl (fun hb=>aF cC aL (aV hb rfl) (aV hb rfl) (by omega) (by omega) (bZ (ai _))) (cM rfl (fun hb=>aI cH aA (aV hb rfl) rfl (by decide) (by decide) rfl) ?_);simp only[zz];refine dX rfl (fun hb u m=>aU (aV hb rfl) (show fL _ _ _ _ (pt t.b) from (((hrow.ext m.ext).sub 3).take 3).lies aG aA)) (cM rfl (fun hb=>aH) (cM rfl (fun hb=>aH) ?_));simp only[zz];refine cM rfl (fun hb=>aF cC aL (aV hb rfl) (aV hb rfl) (by omega) (by omega) (bZ (ai _))) ?_;simp only[zz];refine dX rfl (fun hb u m=>aU (aV hb rfl) ((hrow2.ext m.ext).lies bV aL)) (Gq rfl rfl (fun hb=>by simp only[cz,bi,ck,zA,zB,zC,zD,zE,hb,iT];rfl) (fun hb=>Lu (t:=s) (p:=t.b)) (aJ (bU rfl rfl rfl) (aJ aH (cM rfl (fun hb=>aH) ?_))));simp only[zz];refine cM rfl (fun hb=>aH) ?_;simp only[zz];refine cM rfl (fun hb=>aF cC aL (aV hb rfl) (aV hb rfl) (by omega) (by omega) (bZ (ai _))) (cM rfl (fun hb=>aI cH aA (aV hb rfl) rfl (by decide) (by decide) rfl) ?_);simp only[zz];refine dX rfl (fun hb u m=>aU (aV hb rfl) (show fL _ _ _ _ (pt t.c) from (((hrow.ext m.ext).sub 6).take 3).lies aG aA)) (cM rfl (fun hb=>aH) (cM rfl (fun hb=>aH) ?_));simp only[zz];refine cM rfl (fun hb=>aF cC aL (aV hb rfl) (aV hb rfl) (by omega) (by omega) (bZ (ai _))) ?_;simp only[zz];refine dX rfl (fun hb u m=>aU (aV hb rfl) ((hrow2.ext m.ext).lies bV aL)) (Gq rfl rfl (fun hb=>by simp only[cz,bi,ck,zA,zB,zC,zD,zE,hb,iT];rfl) (fun hb=>Lu (t:=s) (p:=t.c)) (aJ (bU rfl rfl rfl) (bD ?_)));clear m;intro u m;refine gc ?_;simp only[zz];refine cN rfl (fun hc3=>?_) (fun hc3=>?_)
         · skip
           refine aW 5 [] m ?_;simp only[↓aD];intro u m;refine aR rfl rfl ?_;try simp only[zD,zE]
           exact⟨_,rfl,m.ext,by rw[alj (by omega) ht hs hc3]⟩
         · skip
           refine aW 7 [0] m ?_;simp only[↓aD];refine⟨by omega,?_⟩;intro u m;refine hK2 (i-(j+1)) _ _ ?_ ?_ ?_
           · omega
           · simp only[zz,zv]
           · simp only[zQ,zR,zD,zE]
             exact⟨j+1, rfl, m, (fun j' s' hj' hs' => by
              rcases dl j' j with h | h
              · exact hq2 j' s' h hs'
              · obtain rfl:j=j':=by omega
                obtain rfl:=dq (hs.symm.trans hs');exact hc3),by omega,rfl⟩
       · skip
         obtain rfl:i=j:=by omega
         refine aW 7 [0] m ?_;simp only[↓aD];refine⟨by omega,?_⟩;intro u m;refine hK1 (N-(i+1)) _ _ ?_ ?_ ?_
         · omega
         · simp only[zz,zv]
         · simp only[zQ,zR,zD,zE]
           exact⟨i+1, rfl, m, (fun i' j' t' s' hi hj ht' hs' => by
            rcases dl i' i with h | h
            · exact hq1 i' j' t' s' h hj ht' hs'
            · obtain rfl:i=i':=by omega
              obtain rfl:=dq (ht.symm.trans ht');exact hq2 j' s' hj hs'),by omega,rfl⟩
   · skip
     obtain rfl:i=N:=by omega
     refine aW 6 [] m ?_;simp only[↓aD];intro u m;refine aR rfl rfl ?_;try simp only[zD,zE]
     exact⟨_,rfl,m.ext,by rw[alk (by omega) hq1]⟩
theorem Ih(l:List T3)(p:P3):(iD l p).length≤3*l.length:=by
 have h1:=List.Nodup.length_le_of_subset (Vc l p) (l₂:=dK l) fun x hx=>by
  have h:=sZ.1 hx;simp only[Mg,be,Se,dt] at h;obtain⟨_,t,ht,h⟩:=h;exact tZ ht h.2
 rw[pR] at h1;omega
theorem aee{l:List T3}{bs:List P3}{v:P3}(h:BdS (bF l) bs):decide (v∈bs)=Dw (bF l) v:=by rw[ep,decide_eq_true_eq,h v]
theorem asA{l:List T3}{u v:P3}(h:Dw (bF l) v=false):Mi l u v=false:=by unfold Mi;rw[h,jd]
theorem ai9{ts:List T3}{N cap:Nat}{A:Option Addr}{p q:P3}(w:aj)(hT:bP w A N ts)(hN:N≤1000000):dJ prog 109 [.slice A N cap,pt p,pt q] w (fun v _=>v=.bool (Mi ts p q)):=by
 refine⟨amI,?_⟩;have m:=Mem.refl w;have htl:=hT.len;have hnp:=Ih ts p;have hnq:=Ih ts q
 go_enter func109,ntmps109
 refine eC 9 [0] m ?_;simp only[↓aD];intro g1 g2;intro u m;refine bJ rfl rfl (aed _ (hT.ext m.ext) (by omega)) ?_;rintro v u e ⟨bs,⟨A7,c7,n7,hn7,rfl,hN⟩,hbs,hbl⟩;replace m:=m.newO e hN;clear e hN;subst hn7;refine aS 7 [1,0] m ?_;simp only[↓aD,aO];intro u m;refine cU m rfl rfl (pW (p:=q) _ ((m.o 0 rfl).lat (enc:=bN) (fun _=>rfl) (by decide)) (by omega)) ?_;clear m;rintro v u m rfl;refine aS 2 [0] m ?_;simp only[↓aD];intro u m;refine cN rfl (fun hc1=>?_) (fun hc1=>?_)
 · skip
   rw[aee hbs] at hc1;refine aW 5 [] m ?_;simp only[↓aD];intro u m;refine aR rfl rfl ?_;try simp only[zD,zE]
   exact⟨_,rfl,m.ext,by rw[asA (by simpa using hc1)]⟩
 · skip
   rw[aee hbs] at hc1;refine aW 5 [2,0] m ?_;simp only[↓aD,aO];intro u m;refine bJ rfl rfl (Yi (p:=p) _ (hT.ext m.ext) (by omega)) ?_;rintro v u e ⟨A8,c8,n8,hn8,rfl,hN⟩;replace m:=m.newO e hN;clear e hN;subst hn8;refine aS 6 [2,0] m ?_;simp only[↓aD,aO];intro u m;refine bJ rfl rfl (Yi (p:=q) _ (hT.ext m.ext) (by omega)) ?_;rintro v u e ⟨A9,c9,n9,hn9,rfl,hN⟩;replace m:=m.newO e hN;clear e hN;subst hn9;refine aS 8 [0] m ?_;simp only[↓aD];intro u m;refine cE [10] [6,23,24,25,26,27,28,29,30,31,32,33,34,35,36,37,38,39,40,41,42,43,44,45,46,47,48,49,50,51] (fun n vs wl=>∃(k:Nat),vs=[.int .i64 (k:Int)]∧Mem w wl [oI 30 3 A9 (iD ts q).length c9 ((iD ts q).flatMap bN),oI 30 3 A8 (iD ts p).length c8 ((iD ts p).flatMap bN),oI 30 3 A7 bs.length c7 (bs.flatMap bN),bI g2 [.int .i64 q.x,.int .i64 q.y,.int .i64 q.z] 30]∧(∀j x,j<k→(iD ts p)[j]? = some x→((decide (x≠q)&&decide (x∈bs)) && !decide (x∈(iD ts q)))=false)∧(k≤(iD ts p).length)∧(n=(iD ts p).length-k)) ?_ ?_
   · skip
     apply Exists.intro;simp only[zQ,zR,zD,zE];exact⟨0,rfl,(m.sel [true,true,true,true,false]),(fun _ _ h=>absurd h (iw _)),br _,rfl⟩
   · intro n vs wr hI u K1 hK1
     clear m;obtain⟨k,rfl,m,hq,hk,hn⟩:=hI;simp only[zu,zF,zG];refine aW 8 [0,0] m ?_;simp only[↓aD,mQ];intro u m;refine bG rfl (fun hc2=>?_) (fun hc2=>?_)
     · skip
       have hkl:k<(iD ts p).length:=by omega
       obtain⟨x,hx⟩:∃x,(iD ts p)[k]? = some x:=⟨_,am hkl⟩
       obtain⟨g8,rfl⟩:=(m.o 1 rfl).some (by omega);refine jF 4 [0] m ?_;simp only[↓aD];rintro u m rfl;refine mh m [true,true,true,true] [(0,true),(1,true),(2,true),(3,true),(4,true),(5,true),(6,true),(7,true),(8,true),(9,true),(10,true),(11,true),(12,false),(13,true),(14,true),(15,true),(16,true),(17,true),(18,true),(19,true),(20,false),(21,true),(22,true)] aB (by kernel_rfl) (bT (fun _ _ _ _ _ h=>h)) (ol:=?_) ?hol ?_
       case hol=>simp only[zw,zQ,zR];try rfl
       clear m;intro u m;refine bB aH (bB aH ?_);simp only[zz];refine bB (aF cX aA rfl rfl (by omega) (by omega) (bZ (ai _))) ?_;simp only[zz];refine eN rfl (fun u m=>(show fL _ _ _ _ (pt x) from (((m.o 1 rfl).lat (enc:=bN) (fun _=>rfl) (by decide)).at hx).lies aG aA)) ?_;simp only[zz];refine eN rfl (fun u m=>((m.b 3 rfl).full aG aA)) ?_;simp only[zz];refine bB (fA rfl rfl) (bB aH (kB rfl (fun hb=>aH) (kB rfl (fun hb=>aH) ?_)));simp only[zz];refine kB rfl (fun hb=>aH) ?_;simp only[zz];refine kB rfl (fun hb=>aF cX aA (aV hb rfl) (aV hb rfl) (by omega) (by omega) (bZ (ai _))) ?_;simp only[zz];refine uS rfl (fun hb u m=>aU (aV hb rfl) (show fL _ _ _ _ (pt x) from (((m.o 1 rfl).lat (enc:=bN) (fun _=>rfl) (by decide)).at hx).lies aG aA)) (bK (Xu m rfl rfl (fun hb=>by simp only[cz,bi,ck,zA,zB,zC,zD,zE,hb,iT];rfl) (fun hb=>pW (p:=x) _ ((m.o 2 rfl).lat (enc:=bN) (fun _=>rfl) (by decide)) (by omega)) ?_));clear m;intro u m;refine aK (⟨m,?_⟩);refine bB (bU rfl rfl rfl) (bB aH (kB rfl (fun hb=>aH) ?_));simp only[zz];refine kB rfl (fun hb=>aH) (kB rfl (fun hb=>aH) ?_);simp only[zz];refine kB rfl (fun hb=>aF cX aA (aV hb rfl) (aV hb rfl) (by omega) (by omega) (bZ (ai _))) ?_;simp only[zz];refine uS rfl (fun hb u m=>aU (aV hb rfl) (show fL _ _ _ _ (pt x) from (((m.o 1 rfl).lat (enc:=bN) (fun _=>rfl) (by decide)).at hx).lies aG aA)) (bK (Xu m rfl rfl (fun hb=>by simp only[cz,bi,ck,zA,zB,zC,zD,zE,hb,iT];rfl) (fun hb=>pW (p:=x) _ ((m.o 0 rfl).lat (enc:=bN) (fun _=>rfl) (by decide)) (by omega)) ?_));clear m;intro u m;refine aK (⟨m,?_⟩);refine kB rfl (fun hb=>nM (aV hb rfl)) (bB (bU rfl rfl rfl) (cK (gc ?_)));simp only[zz];refine cN rfl (fun hc3=>?_) (fun hc3=>?_)
       · skip
         rw[pne] at hc3;refine jF 5 [] m ?_;simp only[↓aD];rintro u m rfl;refine aR rfl rfl ?_;try simp only[zD,zE]
         exact⟨_,rfl,m.ext,by rw[aqi hbs (by simpa using hc1) (bj hx) hc3]⟩
       · skip
         rw[pne] at hc3;refine jF 7 [0] m ?_;simp only[↓aD];refine⟨by omega,?_⟩;rintro u m rfl;refine hK1 ((iD ts p).length-(k+1)) _ _ ?_ ?_ ?_
         · omega
         · simp only[zz,zv]
         · simp only[zQ,zR,zD,zE]
           exact⟨k+1, rfl, m, (fun j y hj hy => by
            rcases dl j k with h | h
            · exact hq j y h hy
            · obtain rfl:k=j:=by omega
              obtain rfl:=dq (hx.symm.trans hy);exact hc3),by omega,rfl⟩
     · skip
       obtain rfl:k=(iD ts p).length:=by omega
       refine jF 6 [] m ?_;simp only[↓aD];rintro u m rfl;refine aR rfl rfl ?_;try simp only[zD,zE]
       exact⟨_,rfl,m.ext,by rw[aqj hbs (fun x hx=>by obtain⟨j,hj⟩:=cv.1 hx;exact hq j x (aq.1 hj).1 hj)]⟩
theorem aaZ{t r:T3}[IT t][IT r]:dL prog 179 [tr t,tr r] (.int .i64 (Sf t r)):=by
 intro w;refine⟨ann,?_⟩;have m:=Mem.refl w
 go_enter func179,ntmps179
 refine eC 7 [0] m ?_;simp only[↓aD];intro g1 g2;intro u m;refine mq m aB (by kernel_rfl) (ql rfl (fun u m=>((m.b 1 rfl).full bV aL)) ?_);simp only[zz];refine eR rfl rfl Uv ?_;simp only[zz];refine ql rfl (fun u m=>((m.b 0 rfl).full bV aL)) ?_;simp only[zz];refine eR rfl rfl Uv ?_;simp only[zz];refine eR rfl rfl (Qn Bv.of Bv.of) ?_;simp only[zz];refine eR rfl rfl (Hm Bw.up) (aJ aM (bD ?_));clear m;intro u m;refine cP 1 [] m ?_;simp only[↓aD];intro u m;exact aR rfl rfl (⟨_,rfl,m.ext,rfl⟩)
theorem asB(a b c:Int):(if (if a<b then b else a)<c then c else if a<b then b else a)=max (max a b) c:=by omega
theorem asC(a b c:Int):(if c<(if b<a then b else a) then c else if b<a then b else a)=min (min a b) c:=by omega
theorem alm{s t:T3}:(((decide (max (max s.a.x s.b.x) s.c.x<min (min t.a.x t.b.x) t.c.x)||decide (max (max t.a.x t.b.x) t.c.x<min (min s.a.x s.b.x) s.c.x))||(decide (max (max s.a.y s.b.y) s.c.y<min (min t.a.y t.b.y) t.c.y)||decide (max (max t.a.y t.b.y) t.c.y<min (min s.a.y s.b.y) s.c.y)))||(decide (max (max s.a.z s.b.z) s.c.z<min (min t.a.z t.b.z) t.c.z)||decide (max (max t.a.z t.b.z) t.c.z<min (min s.a.z s.b.z) s.c.z))) = !nU s t:=by
 unfold nU;rw[Bool.not_and,Bool.not_and,m_,m_,m_];rfl
theorem acM{s t:T3}:dL prog 80 [tr s,tr t] (.bool (!nU s t)):=by
 intro w;refine⟨arB,?_⟩;have m:=Mem.refl w
 go_enter func80,ntmps80
 refine eC 4 [] m ?_;simp only[↓aD];intro g1 g2;intro u m;refine cP 10 [1,1] m ?_;simp only[↓aD,bM,jW,dU,ad,ag,aa];refine⟨by omega,?_⟩;intro u m;refine cP 3 [1,0] m ?_;simp only[↓aD,bM,jW,dU,ad,ag,aa];refine⟨by omega,?_⟩;intro u m;refine aC (Fk rfl rfl rfl rfl) (aS 7 [0,0] m ?_);simp only[↓aD,bM,jW,dU,ad,ag,aa];refine⟨by omega,?_⟩;intro u m;refine cP 2 [0,0] m ?_;simp only[↓aD,jW,dU,aa];intro u m;refine aC (Fj rfl rfl rfl rfl) (aS 2 [0,0] m ?_);simp only[↓aD];intro u m;refine bC rfl (fun hb=>aI cH aA rfl rfl (by decide) (by decide) rfl) (bC rfl (fun hb=>aT (c:=0) fJ rfl aX (aV hb rfl) rfl) ?_);simp only[zz];refine bS rfl (fun hb=>aU (aV hb rfl) ((m.b 0 rfl).lies1 bE rfl)) (bC rfl (fun hb=>aI cH aA rfl rfl (by decide) (by decide) rfl) (bC rfl (fun hb=>aT (c:=0) fJ rfl aX (aV hb rfl) rfl) ?_));simp only[zz];refine bS rfl (fun hb=>aU (aV hb rfl) ((m.b 0 rfl).lies1 bE rfl)) (bC rfl (fun hb=>aI cH aA rfl rfl (by decide) (by decide) rfl) (bC rfl (fun hb=>aT (c:=0) fJ rfl aX (aV hb rfl) rfl) ?_));simp only[zz];refine bS rfl (fun hb=>aU (aV hb rfl) ((m.b 0 rfl).lies1 bE rfl)) (bC rfl (fun hb=>Fk (aV hb rfl) (aV hb rfl) (aV hb rfl) rfl) (bC rfl (fun hb=>aI cH aA rfl rfl (by decide) (by decide) rfl) (bC rfl (fun hb=>aT (c:=0) fJ rfl aX (aV hb rfl) rfl) ?_)));simp only[zz];refine bS rfl (fun hb=>aU (aV hb rfl) ((m.b 1 rfl).lies1 bE rfl)) (bC rfl (fun hb=>aI cH aA rfl rfl (by decide) (by decide) rfl) (bC rfl (fun hb=>aT (c:=0) fJ rfl aX (aV hb rfl) rfl) ?_));simp only[zz];refine bS rfl (fun hb=>aU (aV hb rfl) ((m.b 1 rfl).lies1 bE rfl)) (bC rfl (fun hb=>aI cH aA rfl rfl (by decide) (by decide) rfl) (bC rfl (fun hb=>aT (c:=0) fJ rfl aX (aV hb rfl) rfl) ?_));simp only[zz];refine bS rfl (fun hb=>aU (aV hb rfl) ((m.b 1 rfl).lies1 bE rfl)) (bC rfl (fun hb=>Fj (aV hb rfl) (aV hb rfl) (aV hb rfl) rfl) (bC rfl (fun hb=>rA (aV hb rfl) (aV hb rfl)) (aC (cF rfl rfl rfl) ?_)));refine aS 10 [1,1] m ?_;simp only[↓aD,bM,kM,dU,ad,ag,aa];refine⟨by omega,?_⟩;intro u m;refine cP 3 [1,0] m ?_;simp only[↓aD,bM,kM,dU,ad,ag,aa];refine⟨by omega,?_⟩;intro u m;refine aC (Fk rfl rfl rfl rfl) (aS 7 [0,0] m ?_);simp only[↓aD,bM,kM,dU,ad,ag,aa];refine⟨by omega,?_⟩;intro u m;refine cP 2 [0,0] m ?_;simp only[↓aD,kM,dU,aa];intro u m;refine aC (Fj rfl rfl rfl rfl) (aS 2 [0,0] m ?_);simp only[↓aD];intro u m;refine bC rfl (fun hb=>aI cH aA rfl rfl (by decide) (by decide) rfl) (bC rfl (fun hb=>aT (c:=0) fJ rfl aX (aV hb rfl) rfl) ?_);simp only[zz];refine bS rfl (fun hb=>aU (aV hb rfl) ((m.b 0 rfl).lies1 bE rfl)) (bC rfl (fun hb=>aI cH aA rfl rfl (by decide) (by decide) rfl) (bC rfl (fun hb=>aT (c:=0) fJ rfl aX (aV hb rfl) rfl) ?_));simp only[zz];refine bS rfl (fun hb=>aU (aV hb rfl) ((m.b 0 rfl).lies1 bE rfl)) (bC rfl (fun hb=>aI cH aA rfl rfl (by decide) (by decide) rfl) (bC rfl (fun hb=>aT (c:=0) fJ rfl aX (aV hb rfl) rfl) ?_));simp only[zz];refine bS rfl (fun hb=>aU (aV hb rfl) ((m.b 0 rfl).lies1 bE rfl)) (bC rfl (fun hb=>Fk (aV hb rfl) (aV hb rfl) (aV hb rfl) rfl) (bC rfl (fun hb=>aI cH aA rfl rfl (by decide) (by decide) rfl) (bC rfl (fun hb=>aT (c:=0) fJ rfl aX (aV hb rfl) rfl) ?_)));simp only[zz];refine bS rfl (fun hb=>aU (aV hb rfl) ((m.b 1 rfl).lies1 bE rfl)) (bC rfl (fun hb=>aI cH aA rfl rfl (by decide) (by decide) rfl) (bC rfl (fun hb=>aT (c:=0) fJ rfl aX (aV hb rfl) rfl) ?_));simp only[zz];refine bS rfl (fun hb=>aU (aV hb rfl) ((m.b 1 rfl).lies1 bE rfl)) (bC rfl (fun hb=>aI cH aA rfl rfl (by decide) (by decide) rfl) (bC rfl (fun hb=>aT (c:=0) fJ rfl aX (aV hb rfl) rfl) ?_));simp only[zz];refine bS rfl (fun hb=>aU (aV hb rfl) ((m.b 1 rfl).lies1 bE rfl)) (bC rfl (fun hb=>Fj (aV hb rfl) (aV hb rfl) (aV hb rfl) rfl) (bC rfl (fun hb=>rA (aV hb rfl) (aV hb rfl)) (aC (cF rfl rfl rfl) ?_)));refine aS 10 [1,1] m ?_;simp only[↓aD,bM,lM,dU,ad,ag,aa];refine⟨by omega,?_⟩;intro u m;refine cP 3 [1,0] m ?_;simp only[↓aD,bM,lM,dU,ad,ag,aa];refine⟨by omega,?_⟩;intro u m;refine aC (Fk rfl rfl rfl rfl) (aS 7 [0,0] m ?_);simp only[↓aD,bM,lM,dU,ad,ag,aa];refine⟨by omega,?_⟩;intro u m;refine cP 2 [0,0] m ?_;simp only[↓aD,lM,dU,aa];intro u m;refine aC (Fj rfl rfl rfl rfl) (aS 2 [0,0] m ?_);simp only[↓aD];intro u m;refine bC rfl (fun hb=>aI cH aA rfl rfl (by decide) (by decide) rfl) (bC rfl (fun hb=>aT (c:=0) fJ rfl aX (aV hb rfl) rfl) ?_);simp only[zz];refine bS rfl (fun hb=>aU (aV hb rfl) ((m.b 0 rfl).lies1 bE rfl)) (bC rfl (fun hb=>aI cH aA rfl rfl (by decide) (by decide) rfl) (bC rfl (fun hb=>aT (c:=0) fJ rfl aX (aV hb rfl) rfl) ?_));simp only[zz];refine bS rfl (fun hb=>aU (aV hb rfl) ((m.b 0 rfl).lies1 bE rfl)) (bC rfl (fun hb=>aI cH aA rfl rfl (by decide) (by decide) rfl) (bC rfl (fun hb=>aT (c:=0) fJ rfl aX (aV hb rfl) rfl) ?_));simp only[zz];refine bS rfl (fun hb=>aU (aV hb rfl) ((m.b 0 rfl).lies1 bE rfl)) (bC rfl (fun hb=>Fk (aV hb rfl) (aV hb rfl) (aV hb rfl) rfl) (bC rfl (fun hb=>aI cH aA rfl rfl (by decide) (by decide) rfl) (bC rfl (fun hb=>aT (c:=0) fJ rfl aX (aV hb rfl) rfl) ?_)));simp only[zz];refine bS rfl (fun hb=>aU (aV hb rfl) ((m.b 1 rfl).lies1 bE rfl)) (bC rfl (fun hb=>aI cH aA rfl rfl (by decide) (by decide) rfl) (bC rfl (fun hb=>aT (c:=0) fJ rfl aX (aV hb rfl) rfl) ?_));simp only[zz];refine bS rfl (fun hb=>aU (aV hb rfl) ((m.b 1 rfl).lies1 bE rfl)) (bC rfl (fun hb=>aI cH aA rfl rfl (by decide) (by decide) rfl) (bC rfl (fun hb=>aT (c:=0) fJ rfl aX (aV hb rfl) rfl) ?_));simp only[zz];refine bS rfl (fun hb=>aU (aV hb rfl) ((m.b 1 rfl).lies1 bE rfl)) (bC rfl (fun hb=>Fj (aV hb rfl) (aV hb rfl) (aV hb rfl) rfl) (bC rfl (fun hb=>rA (aV hb rfl) (aV hb rfl)) (aC (cF rfl rfl rfl) ?_)));refine aS 6 [0] m ?_;simp only[↓aD];intro u m;refine bC rfl (fun hb=>aH) (aC (cF rfl rfl rfl) ?_);refine aS 1 [0] m ?_;simp only[↓aD];intro u m;refine bC rfl (fun hb=>aH) (aC (cF rfl rfl rfl) ?_);refine aS 3 [] m ?_;simp only[↓aD];intro u m;refine aR rfl rfl ?_;try simp only[zD,zE]
 exact⟨_,rfl,m.ext,by simp only[asB,asC];rw[alm]⟩
def Lz(t s:T3):Bool:=!decide (dM s=dM t)&&xZ (dM s) (dM t)
theorem asD{x y:T3}:decide ((x).a.x=(y).a.x∧(x).a.y=(y).a.y∧(x).a.z=(y).a.z∧(x).b.x=(y).b.x∧(x).b.y=(y).b.y∧(x).b.z=(y).b.z∧(x).c.x=(y).c.x∧(x).c.y=(y).c.y∧(x).c.z=(y).c.z)=decide (x=y):=decide_eq_decide.2 ⟨fun⟨h1,h2,h3,h4,h5,h6,h7,h8,h9⟩=>Ev (P3.eq h1 h2 h3) (P3.eq h4 h5 h6) (P3.eq h7 h8 h9),fun h=>by rw[h];simp only[and_self]⟩
theorem aln{t s:T3}(h:(decide (dM s=dM t) || !nU (dM s) (dM t))=true):Lz t s=false:=by
 unfold Lz xZ;rcases dm _ _ |>.mp h with h | h
 · rw[h];rfl
 · rw[ei] at h;rw[h,jd,ig]
theorem asE{t s:T3}(h:(decide (dM s=dM t) || !nU (dM s) (dM t))=false):Lz t s=mD (dM s) (dM t):=by
 rw[Bool.or_eq_false_iff] at h;unfold Lz xZ;have h2:nU (dM s) (dM t)=true:=by have:=h.2;simpa using this
 rw[h.1,h2];rfl
theorem ato{t s:T3}{l:List T3}{k:Nat}(h:l[k]? = some s)(hb:Lz t s=true):yA t l=true:=dt.2 ⟨s,bj h,hb⟩
theorem atp{t:T3}{l:List T3}{n:Nat}(hn:l.length≤n)(h:∀j s,j<n→l[j]? = some s→Lz t s=false):yA t l=false:=fg.2 fun s hs k=>by
 obtain⟨j,hj⟩:=cv.1 hs;have:=h j s (by have:=(aq.1 hj).1;omega) hj;unfold Lz at this;rw[this] at k;cases k
theorem acN{ts:List T3}{N cap:Nat}{A:Option Addr}{t:T3}[hit:IT t](w:aj)(hT:bP w A N ts)(hN:N≤10000000):dJ prog 33 [tr t,.slice A N cap] w (fun v _=>v=.bool (yA t ts)):=by
 refine⟨aq2,?_⟩;have m:=Mem.refl w;have htl:=hT.len;haveI:IT (dM t):=acw hit
 go_enter func33,ntmps33
 refine eC 8 [0,0] m ?_;simp only[↓aD,dQ];intro g1;intro u m;refine mW m rfl rfl (Kh (t:=t)) 8 [0,0] ?_;simp only[↓aD,dQ,aa];intro u m;refine cE [5] [4,6,7,10,11,12,13,14,15,16,17,18,19,20,21,22,23,24,25,26,27,28,29,30,31,32] (fun n vs wl=>∃(k:Nat),vs=[.int .i64 (k:Int)]∧Mem w wl [bI g1 [.int .i64 (dM t).a.x,.int .i64 (dM t).a.y,.int .i64 (dM t).a.z,.int .i64 (dM t).b.x,.int .i64 (dM t).b.y,.int .i64 (dM t).b.z,.int .i64 (dM t).c.x,.int .i64 (dM t).c.y,.int .i64 (dM t).c.z] 39]∧(∀j s,j<k→ts[j]? = some s→Lz t s=false)∧(k≤N)∧(n=N-k)) ?_ ?_
 · skip
   apply Exists.intro;simp only[zQ,zR,zD,zE];exact⟨0,rfl,m,(fun _ _ h=>absurd h (iw _)),br _,rfl⟩
 · intro n vs wr hI u K1 hK1
   clear m;obtain⟨k,rfl,m,hq,hk,hn⟩:=hI;simp only[zu,zF,zG];refine aW 8 [0,0] m ?_;simp only[↓aD,iU];intro u m;refine bG rfl (fun hc1=>?_) (fun hc1=>?_)
   · skip
     obtain⟨x,hx,hix,a,hA,hrow⟩:=hT.get (i:=k) (by omega);subst hA;haveI:IT (dM x):=acw hix;refine aW 7 [0] m ?_;simp only[↓aD];intro u m;refine aC (aF cC aL rfl rfl (by omega) (by omega) (bZ (ai _))) ?_;simp only[zz];refine aQ rfl ((hrow.ext m.ext).lies bV aL) ?_;simp only[zz];refine mW m rfl rfl (Kh (t:=x)) 8 [0,0,1,0] ?_;simp only[↓aD,kX,dQ,aa];intro g2;intro u m;refine aC (Tc rfl rfl) (aS 1 [0] m ?_);simp only[↓aD];intro u m;refine bS rfl (fun hb=>aU rfl ((m.b 0 rfl).full bV aL)) (bS rfl (fun hb=>aU rfl ((m.b 1 rfl).full bV aL)) (xI m rfl rfl (fun hb=>by simp only[cz,bi,ck,zA,zB,zC,zD,zE,hb,iT];rfl) (fun hb=>acM (s:=dM x) (t:=dM t)) ?_));clear m;intro u m;refine aC (cF rfl rfl rfl) (aS 1 [0] m ?_);simp only[↓aD];intro u m;refine cN rfl (fun hc2=>?_) (fun hc2=>?_)
     · skip
       rw[asD] at hc2;have hmb:=aln hc2;refine aW 6 [0] m ?_;simp only[↓aD];refine⟨by omega,?_⟩;intro u m;refine hK1 (N-(k+1)) _ _ ?_ ?_ ?_
       · omega
       · simp only[zz,zv]
       · simp only[zQ,zR,zD,zE]
         exact⟨k+1, rfl, (m.sel [false, true]), (fun j s' hj hs' => by
          rcases dl j k with h | h
          · exact hq j s' h hs'
          · obtain rfl:k=j:=by omega
            obtain rfl:=dq (hx.symm.trans hs');exact hmb),by omega,rfl⟩
     · skip
       rw[asD] at hc2;have hmg:=asE hc2;refine aW 5 [0,1,0] m ?_;simp only[↓aD,dQ];intro u m;refine mW m rfl rfl (afw (s:=dM x) (t:=dM t)) 6 [0] ?_;simp only[↓aD];intro u m;refine cN rfl (fun hc3=>?_) (fun hc3=>?_)
       · skip
         have hmb:=hmg.trans hc3;refine aW 5 [] m ?_;simp only[↓aD];intro u m;refine aR rfl rfl ?_;try simp only[zD,zE]
         exact⟨_,rfl,m.ext,by rw[ato hx hmb]⟩
       · skip
         have hmb:=hmg.trans hc3;refine aW 7 [0] m ?_;simp only[↓aD];refine⟨by omega,?_⟩;intro u m;refine hK1 (N-(k+1)) _ _ ?_ ?_ ?_
         · omega
         · simp only[zz,zv]
         · simp only[zQ,zR,zD,zE]
           exact⟨k+1, rfl, (m.sel [false, true]), (fun j s' hj hs' => by
            rcases dl j k with h | h
            · exact hq j s' h hs'
            · obtain rfl:k=j:=by omega
              obtain rfl:=dq (hx.symm.trans hs');exact hmb),by omega,rfl⟩
   · skip
     obtain rfl:k=N:=by omega
     refine aW 6 [] m ?_;simp only[↓aD];intro u m;refine aR rfl rfl ?_;try simp only[zD,zE]
     exact⟨_,rfl,m.ext,by rw[atp (by omega) hq]⟩
theorem aja{p q:P3}{t:T3}(hq:I3 q)(h:IT t):IT (jG p q t):=⟨xW hq h.a,xW hq h.b,xW hq h.c⟩
def afC(u v:P3)(t:T3):Bool:=!(t.has u && !t.has v)||(!fE (jG u v t)&&decide (Sf t (jG u v t)=1))
def afD(r:List T3)(u v:P3)(t:T3):Bool:=!(t.has u && !t.has v) || !yA (jG u v t) r
theorem amm{u v:P3}{t:T3}(h:(!t.has u||t.has v)=true):(t.has u && !t.has v)=false:=by revert h;cases t.has u <;> cases t.has v <;> decide
theorem amn{u v:P3}{t:T3}(h:(!t.has u||t.has v)=false):(t.has u && !t.has v)=true:=by revert h;cases t.has u <;> cases t.has v <;> decide
theorem aqk{u v:P3}{t:T3}(h:(!t.has u||t.has v)=true):afC u v t=true:=by unfold afC;rw[amm h];rfl
theorem aql{r:List T3}{u v:P3}{t:T3}(h:(!t.has u||t.has v)=true):afD r u v t=true:=by unfold afD;rw[amm h];rfl
theorem ajb{u v:P3}{t:T3}{b:Bool}(h:(!t.has u||t.has v)=false)(k:(fE (jG u v t)||decide (¬Sf t (jG u v t)=1))=b):afC u v t = !b:=by
 unfold afC;rw[amn h,←k,Bool.not_or,decide_not,m_];rfl
theorem ajc{r:List T3}{u v:P3}{t:T3}{b:Bool}(h:(!t.has u||t.has v)=false)(k:yA (jG u v t) r=b):afD r u v t = !b:=by unfold afD;rw[amn h,k];rfl
theorem amo{f:T3→Bool}{l:List T3}{k:Nat}{t:T3}(h:l[k]? = some t)(hf:f t=false):l.all f=false:=List.all_eq_false.2 ⟨t,bj h,by rw[hf];exact et⟩
theorem amp{f:T3→Bool}{l:List T3}{n:Nat}(hn:l.length≤n)(h:∀j t,j<n→l[j]? = some t→f t=true):l.all f=true:=dw.2 fun t ht=>by
 obtain⟨j,hj⟩:=cv.1 ht;exact h j t (by have:=(aq.1 hj).1;omega) hj
theorem Yj(l r:List T3)(u v:P3):aaJ l r u v=(l.all (afC u v)&&l.all (afD r u v)):=rfl
theorem afE{ts rs:List T3}{N M cap cap2:Nat}{A A2:Option Addr}{p q:P3}[I3 p][hq3:I3 q](w:aj)(hT:bP w A N ts)(hU:bP w A2 M rs)(hN:N≤10000000)(hM:M≤10000000):dJ prog 110 [.slice A N cap,.slice A2 M cap2,pt p,pt q] w (fun v _=>v=.bool (aaJ ts rs p q)):=by
 refine⟨amJ,?_⟩;have m:=Mem.refl w;have htl:=hT.len
 go_enter func110,ntmps110
 refine eC 12 [0] m ?_;simp only[↓aD];intro g1 g2;intro u m;refine cE [9] [8,10,11,12,16,17,18,19,20,21,22,23,24,25,26,27,28,29,30,31,32,33,34,35,36,37,38,39,40,41,42,43,44,45,46,47] (fun n vs wl=>∃(k:Nat),vs=[.int .i64 (k:Int)]∧Mem w wl [bI g2 [.int .i64 q.x,.int .i64 q.y,.int .i64 q.z] 30,bI g1 [.int .i64 p.x,.int .i64 p.y,.int .i64 p.z] 30]∧(∀j t,j<k→ts[j]? = some t→afC p q t=true)∧(k≤N)∧(n=N-k)) ?_ ?_
 · skip
   apply Exists.intro;simp only[zQ,zR,zD,zE];exact⟨0,rfl,m,(fun _ _ h=>absurd h (iw _)),br _,rfl⟩
 · intro n vs wr hI u K1 hK1
   clear m;obtain⟨k,rfl,m,hq,hk,hn⟩:=hI;simp only[zu,zF,zG];refine aW 8 [0,0] m ?_;simp only[↓aD,iU];intro u m;refine bG rfl (fun hc1=>?_) (fun hc1=>?_)
   · skip
     obtain⟨t,ht,hti,a,hA,hrow⟩:=hT.get (i:=k) (by omega);subst hA;haveI:=aja (p:=p) hq3 hti;refine aW 7 [0] m ?_;simp only[↓aD];intro u m;refine aC (aF cC aL rfl rfl (by omega) (by omega) (bZ (ai _))) ?_;simp only[zz];refine aQ rfl ((hrow.ext m.ext).lies bV aL) ?_;simp only[zz];refine aS 8 [0,2,0,0] m ?_;simp only[↓aD,kX,dQ,aO,aa];intro g3;intro u m;refine mW m rfl rfl (Lu (t:=t) (p:=p)) 2 [0] ?_;simp only[↓aD];intro u m;refine bS rfl (fun hb=>aU rfl ((m.b 1 rfl).full aG aA)) (bS rfl (fun hb=>aU rfl ((m.b 0 rfl).full bV aL)) (xI m rfl rfl (fun hb=>by simp only[cz,bi,ck,zA,zB,zC,zD,zE,hb,iT];rfl) (fun hb=>Lu (t:=t) (p:=q)) ?_));clear m;intro u m;refine aC (cF rfl rfl rfl) (aS 1 [0] m ?_);simp only[↓aD];intro u m;refine cN rfl (fun hc2=>?_) (fun hc2=>?_)
     · skip
       have hfa:=aqk hc2;refine aW 6 [0] m ?_;simp only[↓aD];refine⟨by omega,?_⟩;intro u m;refine hK1 (N-(k+1)) _ _ ?_ ?_ ?_
       · omega
       · simp only[zz,zv]
       · simp only[zQ,zR,zD,zE]
         exact⟨k+1, rfl, (m.sel [false, true, true]), (fun j s' hj hs' => by
          rcases dl j k with h | h
          · exact hq j s' h hs'
          · obtain rfl:k=j:=by omega
            obtain rfl:=dq (ht.symm.trans hs');exact hfa),by omega,rfl⟩
     · skip
       refine aW 6 [0,2,1,0] m ?_;simp only[↓aD,dQ,aO];intro u m;refine mW m rfl rfl (Qy (t:=t) (p:=p) (q:=q)) 6 [0,0,0] ?_;simp only[↓aD,kX,dQ,aa];intro g4;intro u m;refine mW m rfl rfl (Ho (t:=jG p q t)) 6 [0] ?_;simp only[↓aD];intro u m;refine bS rfl (fun hb=>aU rfl ((m.b 1 rfl).full bV aL)) (bS rfl (fun hb=>aU rfl ((m.b 0 rfl).full bV aL)) (xI m rfl rfl (fun hb=>by simp only[cz,bi,ck,zA,zB,zC,zD,zE,hb,iT];rfl) (fun hb=>aaZ (t:=t) (r:=jG p q t)) ?_));clear m;intro u m;refine bC rfl (fun hb=>qA (aV hb rfl) rfl) (aC (cF rfl rfl rfl) ?_);refine aS 1 [0] m ?_;simp only[↓aD];intro u m;refine cN rfl (fun hc3=>?_) (fun hc3=>?_)
       · skip
         rw[tA] at hc3;have hfa:=ajb hc2 hc3;refine aW 5 [] m ?_;simp only[↓aD];intro u m;refine aR rfl rfl ?_;try simp only[zD,zE]
         exact⟨_,rfl,m.ext,by rw[Yj,amo ht hfa];rfl⟩
       · skip
         rw[tA] at hc3;have hfa:=ajb hc2 hc3;refine aW 7 [0] m ?_;simp only[↓aD];refine⟨by omega,?_⟩;intro u m;refine hK1 (N-(k+1)) _ _ ?_ ?_ ?_
         · omega
         · simp only[zz,zv]
         · simp only[zQ,zR,zD,zE]
           exact⟨k+1, rfl, (m.sel [false, false, true, true]), (fun j s' hj hs' => by
            rcases dl j k with h | h
            · exact hq j s' h hs'
            · obtain rfl:k=j:=by omega
              obtain rfl:=dq (ht.symm.trans hs');exact hfa),by omega,rfl⟩
   · skip
     obtain rfl:N=k:=by omega
     refine aW 7 [0] m ?_;simp only[↓aD];intro u m;refine cE [13] [8,14,15,48,49,50,51,52,53,54,55,56,57,58,59,60,61,62,63,64,65,66,67,68,69,70,71,72,73] (fun n vs wl=>∃(k:Nat),vs=[.int .i64 (k:Int)]∧Mem w wl [bI g2 [.int .i64 q.x,.int .i64 q.y,.int .i64 q.z] 30,bI g1 [.int .i64 p.x,.int .i64 p.y,.int .i64 p.z] 30]∧(∀j t,j<k→ts[j]? = some t→afD rs p q t=true)∧(k≤N)∧(n=N-k)) ?_ ?_
     · skip
       apply Exists.intro;simp only[zQ,zR,zD,zE];exact⟨0,rfl,m,(fun _ _ h=>absurd h (iw _)),br _,rfl⟩
     · intro n vs wr hI u K2 hK2
       clear m;obtain⟨k,rfl,m,hq2,hk2,hn2⟩:=hI;simp only[zu,zF,zG];refine aW 8 [0,0] m ?_;simp only[↓aD,iU];intro u m;refine bG rfl (fun hc4=>?_) (fun hc4=>?_)
       · skip
         obtain⟨t,ht,hti,a,hA,hrow⟩:=hT.get (i:=k) (by omega);subst hA;haveI:=aja (p:=p) hq3 hti;refine aW 7 [0] m ?_;simp only[↓aD];intro u m;refine aC (aF cC aL rfl rfl (by omega) (by omega) (bZ (ai _))) ?_;simp only[zz];refine aQ rfl ((hrow.ext m.ext).lies bV aL) ?_;simp only[zz];refine aS 8 [0,2,0,0] m ?_;simp only[↓aD,kX,dQ,aO,aa];intro g3;intro u m;refine mW m rfl rfl (Lu (t:=t) (p:=p)) 2 [0] ?_;simp only[↓aD];intro u m;refine bS rfl (fun hb=>aU rfl ((m.b 1 rfl).full aG aA)) (bS rfl (fun hb=>aU rfl ((m.b 0 rfl).full bV aL)) (xI m rfl rfl (fun hb=>by simp only[cz,bi,ck,zA,zB,zC,zD,zE,hb,iT];rfl) (fun hb=>Lu (t:=t) (p:=q)) ?_));clear m;intro u m;refine aC (cF rfl rfl rfl) (aS 1 [0] m ?_);simp only[↓aD];intro u m;refine cN rfl (fun hc5=>?_) (fun hc5=>?_)
         · skip
           have hfb:=aql (r:=rs) hc5;refine aW 6 [0] m ?_;simp only[↓aD];refine⟨by omega,?_⟩;intro u m;refine hK2 (N-(k+1)) _ _ ?_ ?_ ?_
           · omega
           · simp only[zz,zv]
           · simp only[zQ,zR,zD,zE]
             exact⟨k+1, rfl, (m.sel [false, true, true]), (fun j s' hj hs' => by
              rcases dl j k with h | h
              · exact hq2 j s' h hs'
              · obtain rfl:k=j:=by omega
                obtain rfl:=dq (ht.symm.trans hs');exact hfb),by omega,rfl⟩
         · skip
           refine aW 6 [0,2,1,0] m ?_;simp only[↓aD,dQ,aO];intro u m;refine mW m rfl rfl (Qy (t:=t) (p:=p) (q:=q)) 1 [0] ?_;simp only[↓aD];intro u m;refine cU m rfl rfl (acN (t:=jG p q t) _ (hU.ext m.ext) hM) ?_;clear m;rintro v u m rfl;refine aS 6 [0] m ?_;simp only[↓aD];intro u m;refine cN rfl (fun hc6=>?_) (fun hc6=>?_)
           · skip
             have hfb:=ajc hc5 hc6;refine aW 5 [] m ?_;simp only[↓aD];intro u m;refine aR rfl rfl ?_;try simp only[zD,zE]
             exact⟨_,rfl,m.ext,by rw[Yj,amo ht hfb,ig]⟩
           · skip
             have hfb:=ajc hc5 hc6;refine aW 7 [0] m ?_;simp only[↓aD];refine⟨by omega,?_⟩;intro u m;refine hK2 (N-(k+1)) _ _ ?_ ?_ ?_
             · omega
             · simp only[zz,zv]
             · simp only[zQ,zR,zD,zE]
               exact⟨k+1, rfl, (m.sel [false, true, true]), (fun j s' hj hs' => by
                rcases dl j k with h | h
                · exact hq2 j s' h hs'
                · obtain rfl:k=j:=by omega
                  obtain rfl:=dq (ht.symm.trans hs');exact hfb),by omega,rfl⟩
       · skip
         obtain rfl:N=k:=by omega
         refine aW 6 [] m ?_;simp only[↓aD];intro u m;refine aR rfl rfl ?_;try simp only[zD,zE]
         exact⟨_,rfl,m.ext,by rw[Yj,amp (by omega) hq,amp (by omega) hq2];rfl⟩
end Go.Proofs.YtfekpcimgncioaaGreatDoor
namespace Go.Lith
open Go.RowKit
theorem acO{l:List T3}{q:P3→List Int}{cs:List lE}{c:lE}{k:Nat}(hm:∀d,d∈cs↔d∈ace l q)(hs:cs.Pairwise fun a b=>¬b.Lt a)(hk:cs[k]? = some c)(ha:cY l c.u c.v=true)(hb:∀j d,j<k→cs[j]? = some d→cY l d.u d.v=false):Dx l q=some c:=by
 refine akJ (ct.2 ⟨(hm c).1 (bj hk),ha⟩) fun d hd hlt=>?_;obtain⟨h1,h2⟩:=ct.1 hd;obtain⟨j,hj⟩:=cv.1 ((hm d).2 h1);rcases Nat.lt_trichotomy j k with h | h | h
 · rw[hb j d h hj] at h2;cases h2
 · rw[h,hk] at hj;cases hj;exact lE.lt_irrefl _ hlt
 · obtain⟨kl,rfl⟩:=aq.1 hk
   obtain⟨jl,rfl⟩:=aq.1 hj;exact List.pairwise_iff_getElem.1 hs k j kl jl h hlt
theorem acP{l:List T3}{q:P3→List Int}{cs:List lE}(hm:∀d,d∈cs↔d∈ace l q)(hb:∀d∈cs,cY l d.u d.v=false):Dx l q=none:=by
 refine Ju.2 (List.filter_eq_nil_iff.2 fun d hd=>?_);rw[hb d ((hm d).2 hd)];exact et
/-! ### The example: the octahedron -/
def oct(n:Int):List T3 :=
 let x0:P3:=⟨-n,0,0⟩;let x1:P3:=⟨n,0,0⟩;let y0:P3:=⟨0,-n,0⟩;let y1:P3:=⟨0,n,0⟩;let z0:P3:=⟨0,0,-n⟩;let z1:P3:=⟨0,0,n⟩
 [⟨y0,x0,z0⟩,⟨x1,y0,z0⟩,⟨x0,y1,z0⟩,⟨y1,x1,z0⟩,⟨x0,y0,z1⟩,⟨y0,x1,z1⟩,⟨y1,x0,z1⟩,⟨x1,y1,z1⟩]
def Dl:List T3:=dW (oct 10)
theorem afF:fM true Dl=0:=by kernel_rfl
theorem alo:cY Dl ⟨10,0,0⟩ ⟨0,10,0⟩=true:=by kernel_rfl
theorem alp:cY Dl ⟨10,0,0⟩ ⟨-10,0,0⟩=false:=by kernel_rfl
theorem alq:(nJ Dl ⟨10,0,0⟩ ⟨0,10,0⟩).length=6:=by kernel_rfl
theorem aa0:((yP Dl 7).1.length,(yP Dl 7).2)=(6,[(⟨-10,0,0⟩,⟨0,-10,0⟩)]):=by kernel_rfl
end Go.Lith
namespace Go.Proofs.YtfekpcimgncioaaGreatDoor
open Go.Proofs.Tryz
open Go.RowKit Go.Lith
set_option maxRecDepth 100000
attribute [local irreducible] au wpQuiet fR bO cO Code.wp
attribute [local congr] pL fX fY fZ gA gB kI gC gD gE gF gG gH gI gJ gK gL gM eS eT gN gQ gS gT gU kK dC dD cR dB gR kJ eV eW eX gW gX kL
def Ng(p:P3):P3:=⟨p.x%3,p.y%3,p.z%3⟩
def t3m(t:T3):T3:=⟨Ng t.a,Ng t.b,Ng t.c⟩
theorem alr{s t:T3}(h:¬¬(s.a.x=t.a.x∧s.a.y=t.a.y∧s.a.z=t.a.z∧s.b.x=t.b.x∧s.b.y=t.b.y∧s.b.z=t.b.z∧s.c.x=t.c.x∧s.c.y=t.c.y∧s.c.z=t.c.z)):s=t:=by
 obtain⟨h1,h2,h3,h4,h5,h6,h7,h8,h9⟩:=Classical.not_not.1 h;exact Ev (P3.eq h1 h2 h3) (P3.eq h4 h5 h6) (P3.eq h7 h8 h9)
theorem als{s t:T3}(h:¬(s.a.x=t.a.x∧s.a.y=t.a.y∧s.a.z=t.a.z∧s.b.x=t.b.x∧s.b.y=t.b.y∧s.b.z=t.b.z∧s.c.x=t.c.x∧s.c.y=t.c.y∧s.c.z=t.c.z)):s≠t:=fun k=>h (by rw[k];simp only[and_self])
theorem alt{s t:E3}(h:¬¬(s.1.x=t.1.x∧s.1.y=t.1.y∧s.1.z=t.1.z∧s.2.x=t.2.x∧s.2.y=t.2.y∧s.2.z=t.2.z)):s=t:=by
 obtain⟨h1,h2,h3,h4,h5,h6⟩:=Classical.not_not.1 h;exact Prod.ext (P3.eq h1 h2 h3) (P3.eq h4 h5 h6)
theorem alu{s t:E3}(h:¬(s.1.x=t.1.x∧s.1.y=t.1.y∧s.1.z=t.1.z∧s.2.x=t.2.x∧s.2.y=t.2.y∧s.2.z=t.2.z)):s≠t:=fun k=>h (by rw[k];simp only[and_self])
theorem aa1{α:Type}{xs ys:List α}{k:Nat}(h:xs.take k=ys.take k)(hx:xs.length≤k)(hy:ys.length≤k):xs=ys:=by rwa [a_ hx,a_ hy] at h
theorem Rk(n:Int):yL (n%3):=by unfold yL;omega
instance (p:P3):I3 (Ng p):=⟨Rk _,Rk _,Rk _⟩
instance (t:T3):IT (t3m t):=⟨inferInstanceAs (I3 (Ng t.a)),inferInstanceAs (I3 (Ng t.b)),inferInstanceAs (I3 (Ng t.c))⟩
theorem Yk{n k:Int}(hi:yL n)(h0:0<k)(h1:k<4611686018427387904):dL prog 53 [.int .i64 n,.int .i64 k] (.int .i64 (n%k)):=by
 intro w;refine⟨arc,?_⟩;have m:=Mem.refl w;haveI:Iw n:=⟨hi⟩
 have hb:=alP (n:=n) h0
 go_enter func53,ntmps53
 refine eC 8 [0] m ?_;simp only[↓aD];intro u m;refine aC (eG rfl rfl (by omega) rfl) (aS 3 [0] m ?_);simp only[↓aD];refine⟨by omega,?_⟩;intro u m;refine aC (eG rfl rfl (by omega) (aku h0)) (aS 3 [] m ?_);simp only[↓aD];intro u m;exact aR rfl rfl (⟨_,rfl,m.ext,rfl⟩)
theorem Ii{p:P3}[hi:I3 p]:dL prog 20 [pt p,.int .i64 3] (pt (Ng p)):=by
 intro w;refine⟨aqU,?_⟩;have m:=Mem.refl w
 go_enter func20,ntmps20
 refine eC 6 [0] m ?_;simp only[↓aD,eY];intro g1 g2;intro u m;refine dA m 13 aB (by kernel_rfl) ?_;simp only[zy];refine eM 3 [1] ?_;simp only[↓aD,fU,dU,ad,ag,aa];refine⟨by omega,?_⟩;refine eR rfl rfl (Yk (n:=p.x) (k:=3) hi.x (by decide) (by decide)) (eM 3 [1] ?_);simp only[↓aD,fU,dU,ad,ag,aa];refine⟨by omega,?_⟩;refine eR rfl rfl (Yk (n:=p.y) (k:=3) hi.y (by decide) (by decide)) (eM 3 [1] ?_);simp only[↓aD,fU,dU,ad,ag,aa];refine⟨by omega,?_⟩;refine eR rfl rfl (Yk (n:=p.z) (k:=3) hi.z (by decide) (by decide)) (aJ (Iz rfl rfl rfl) (bD ?_));clear m;intro u m;simp only[zz];refine bR m 0 rfl rfl rfl aA (iS rfl) rfl ?_;clear m;intro u m;simp only[zy,zx,cA,zF,zG,aa] at m;refine aK (cP 1 [] m ?_);simp only[↓aD];intro u m;exact aR rfl ⟨_,rfl,((m.b 0 rfl).full aG aA)⟩ (⟨_,rfl,m.ext,rfl⟩)
theorem aqm{t:T3}[hi:IT t]:dL prog 19 [tr t,.int .i64 3] (tr (t3m t)):=by
 intro w;refine⟨aqT,?_⟩;have m:=Mem.refl w
 go_enter func19,ntmps19
 refine eC 6 [0] m ?_;simp only[↓aD,kX];intro g1 g2;intro u m;refine dA m 28 aB (by kernel_rfl) ?_;simp only[zy];refine eM 8 [1,1,1] ?_;simp only[↓aD,ahD,dU,uD,ad,ag,aa];refine⟨by omega,?_⟩;refine eR rfl rfl (Ii (p:=t.a) (hi:=hi.a)) (eM 8 [1,1,1] ?_);simp only[↓aD,ahD,dU,uD,ad,ag,aa];refine⟨by omega,?_⟩;refine eR rfl rfl (Ii (p:=t.b) (hi:=hi.b)) (eM 8 [1,1,1] ?_);simp only[↓aD,ahD,dU,uD,ad,ag,aa];refine⟨by omega,?_⟩;refine eR rfl rfl (Ii (p:=t.c) (hi:=hi.c)) (aJ (Ja rfl rfl rfl) (bD ?_));clear m;intro u m;simp only[zz];refine bR m 0 rfl rfl rfl aL (iS rfl) rfl ?_;clear m;intro u m;simp only[zy,zx,cA,zF,zG,aa] at m;refine aK (cP 1 [] m ?_);simp only[↓aD];intro u m;exact aR rfl ⟨_,rfl,((m.b 0 rfl).full bV aL)⟩ (⟨_,rfl,m.ext,rfl⟩)
theorem alv{xs ys:List T3}{N M cap cap2:Nat}{A A2:Option Addr}(w:aj)(hT:bP w A N xs)(hU:bP w A2 M ys)(hN:N≤100000000):dJ prog 21 [.slice A N cap,.slice A2 M cap2] w (fun v _=>v=.bool (decide (xs=ys))):=by
 refine⟨aqV,?_⟩;have m:=Mem.refl w;have hxl:=hT.len;have hyl:=hU.len
 go_enter func21,ntmps21
 refine eC 13 [0,0] m ?_;simp only[↓aD,iU];intro u m;refine bG rfl (fun hc1=>?_) (fun hc1=>?_)
 · skip
   refine aW 5 [] m ?_;simp only[↓aD];intro u m;refine aR rfl rfl ?_;try simp only[zD,zE]
   exact⟨_,rfl,m.ext,by rw[decide_eq_false (fun h=>hc1 (by subst h;omega))]⟩
 · skip
   refine aW 7 [0] m ?_;simp only[↓aD];intro u m;refine cE [5] [4,11,12,13,14,15,16,17,18,19,20,21,22,23,24,25] (fun n vs wl=>∃(k:Nat),vs=[.int .i64 (k:Int)]∧Mem w wl []∧(xs.take k=ys.take k)∧(k≤N)∧(n=N-k)) ?_ ?_
   · skip
     apply Exists.intro;simp only[zQ,zR,zD,zE];exact⟨0,rfl,m,(by simp),br _,rfl⟩
   · intro n vs wr hI u K1 hK1
     clear m;obtain⟨k,rfl,m,hq,hk,hn⟩:=hI;simp only[zu,zF,zG];refine aW 8 [0,0] m ?_;simp only[↓aD,iU];intro u m;refine bG rfl (fun hc2=>?_) (fun hc2=>?_)
     · skip
       obtain⟨x,hx,_,a,hA1,hrow1⟩:=hT.get (i:=k) (by omega);subst hA1;obtain⟨y,hy,_,a2,hA2,hrow2⟩:=hU.get (i:=k) (by omega);subst hA2;refine aW 4 [0] m ?_;simp only[↓aD];intro u m;refine mq m aB (by kernel_rfl) (aJ aH (aJ aH ?_));simp only[zz];refine aJ (aF cC aL rfl rfl (by omega) (by omega) (bZ (ai _))) ?_;simp only[zz];refine ql rfl (fun u m=>((hrow1.ext m.ext).lies bV aL)) ?_;simp only[zz];refine aJ aH (aJ aH ?_);simp only[zz];refine aJ (aF cC aL rfl rfl (by omega) (by omega) (bZ (ai _))) ?_;simp only[zz];refine ql rfl (fun u m=>((hrow2.ext m.ext).lies bV aL)) ?_;simp only[zz];refine aJ (aet rfl rfl) (bD ?_);clear m;intro u m;refine gc ?_;simp only[zz];refine bG rfl (fun hc3=>?_) (fun hc3=>?_)
       · skip
         refine aW 5 [] m ?_;simp only[↓aD];intro u m;refine aR rfl rfl ?_;try simp only[zD,zE]
         exact⟨_,rfl,m.ext,by rw[decide_eq_false (fun h=>als hc3 (by subst h;exact dq (hx.symm.trans hy)))]⟩
       · skip
         have hxy:x=y:=alr hc3;subst hxy;refine aW 7 [0] m ?_;simp only[↓aD];refine⟨by omega,?_⟩;intro u m;refine hK1 (N-(k+1)) _ _ ?_ ?_ ?_
         · omega
         · simp only[zz,zv]
         · simp only[zQ,zR,zD,zE]
           exact⟨k+1,rfl,m,(by rw[bX hx,bX hy,hq]),by omega,rfl⟩
     · skip
       refine aW 6 [] m ?_;simp only[↓aD];intro u m;refine aR rfl rfl ?_;try simp only[zD,zE]
       exact⟨_,rfl,m.ext,by rw[decide_eq_true (aa1 hq (by omega) (by omega))]⟩
theorem aje{xs ys:List E3}{N M cap cap2:Nat}{A A2:Option Addr}(w:aj)(hT:Dg cT 6 w A N xs)(hU:Dg cT 6 w A2 M ys)(hN:N≤100000000):dJ prog 26 [.slice A N cap,.slice A2 M cap2] w (fun v _=>v=.bool (decide (xs=ys))):=by
 refine⟨aqZ,?_⟩;have m:=Mem.refl w;have hxl:=hT.len;have hyl:=hU.len
 go_enter func26,ntmps26
 refine eC 13 [0,0] m ?_;simp only[↓aD,alZ];intro u m;refine bG rfl (fun hc1=>?_) (fun hc1=>?_)
 · skip
   refine aW 5 [] m ?_;simp only[↓aD];intro u m;refine aR rfl rfl ?_;try simp only[zD,zE]
   exact⟨_,rfl,m.ext,by rw[decide_eq_false (fun h=>hc1 (by subst h;omega))]⟩
 · skip
   refine aW 7 [0] m ?_;simp only[↓aD];intro u m;refine cE [5] [4,11,12,13,14,15,16,17,18,19,20,21,22,23,24,25] (fun n vs wl=>∃(k:Nat),vs=[.int .i64 (k:Int)]∧Mem w wl []∧(xs.take k=ys.take k)∧(k≤N)∧(n=N-k)) ?_ ?_
   · skip
     apply Exists.intro;simp only[zQ,zR,zD,zE];exact⟨0,rfl,m,(by simp),br _,rfl⟩
   · intro n vs wr hI u K1 hK1
     clear m;obtain⟨k,rfl,m,hq,hk,hn⟩:=hI;simp only[zu,zF,zG];refine aW 8 [0,0] m ?_;simp only[↓aD,alZ];intro u m;refine bG rfl (fun hc2=>?_) (fun hc2=>?_)
     · skip
       obtain⟨x,hx,a,hA1,hrow1⟩:=hT.get (i:=k) (by omega);subst hA1;obtain⟨y,hy,a2,hA2,hrow2⟩:=hU.get (i:=k) (by omega);subst hA2;refine aW 4 [0] m ?_;simp only[↓aD];intro u m;refine mq m aB (by kernel_rfl) (aJ aH (aJ aH ?_));simp only[zz];refine aJ (aF underlying46 Fy rfl rfl (by omega) (by omega) (bZ (ai _))) ?_;simp only[zz];refine ql rfl (fun u m=>(show fL _ _ _ _ (ed x) from (hrow1.ext m.ext).lies agk Fy)) ?_;simp only[zz];refine aJ aH (aJ aH ?_);simp only[zz];refine aJ (aF underlying46 Fy rfl rfl (by omega) (by omega) (bZ (ai _))) ?_;simp only[zz];refine ql rfl (fun u m=>(show fL _ _ _ _ (ed y) from (hrow2.ext m.ext).lies agk Fy)) ?_;simp only[zz];refine aJ (aeu rfl rfl) (bD ?_);clear m;intro u m;refine gc ?_;simp only[zz];refine bG rfl (fun hc3=>?_) (fun hc3=>?_)
       · skip
         refine aW 5 [] m ?_;simp only[↓aD];intro u m;refine aR rfl rfl ?_;try simp only[zD,zE]
         exact⟨_,rfl,m.ext,by rw[decide_eq_false (fun h=>alu hc3 (by subst h;exact dq (hx.symm.trans hy)))]⟩
       · skip
         have hxy:x=y:=alt hc3;subst hxy;refine aW 7 [0] m ?_;simp only[↓aD];refine⟨by omega,?_⟩;intro u m;refine hK1 (N-(k+1)) _ _ ?_ ?_ ?_
         · omega
         · simp only[zz,zv]
         · simp only[zQ,zR,zD,zE]
           exact⟨k+1,rfl,m,(by rw[bX hx,bX hy,hq]),by omega,rfl⟩
     · skip
       refine aW 6 [] m ?_;simp only[↓aD];intro u m;refine aR rfl rfl ?_;try simp only[zD,zE]
       exact⟨_,rfl,m.ext,by rw[decide_eq_true (aa1 hq (by omega) (by omega))]⟩
theorem aef{k:Nat}(h:k<8):IntKind.i64.wrap (eo IntKind.i64.bits (k:Int) &&& eo IntKind.i64.bits 1).toNat=((k%2:Nat):Int):=by
 rcases k with _ | _ | _ | _ | _ | _ | _ | _ | k <;> first | rfl | omega
theorem ajf{k:Nat}:Int.fdiv (k:Int) (2^min (ph 1) IntKind.i64.bits)=((k / 2:Nat):Int):=by
 rw[show (2:Int)^min (ph 1) IntKind.i64.bits=2 from rfl,ia _ (by decide)];rfl
theorem ajg{k:Nat}:Int.fdiv (k:Int) (2^min (ph 2) IntKind.i64.bits)=((k / 4:Nat):Int):=by
 rw[show (2:Int)^min (ph 2) IntKind.i64.bits=4 from rfl,ia _ (by decide)];rfl
theorem ajh{w:aj}{g i:Nat}{x y z u v t:Int}{T:an}(hB:fK w g [.int .i64 x,.int .i64 y,.int .i64 z,.int .i64 u,.int .i64 v,.int .i64 t] T)(hi:i<2):fL prog w 30 ⟨g,i*3,none⟩ (pt (if i=0 then ⟨x,y,z⟩ else ⟨u,v,t⟩)):=by
 rcases i with _ | _ | i
 · exact hB.lies aG aA rfl rfl
 · exact hB.lies aG aA rfl rfl
 · omega
def aqn(k:Nat):P3:=if k%2=0 then ⟨-10,0,0⟩ else ⟨10,0,0⟩
def aqo(k:Nat):P3:=if k / 2%2=0 then ⟨0,-10,0⟩ else ⟨0,10,0⟩
def aqp(k:Nat):P3:=if k / 4=0 then ⟨0,0,-10⟩ else ⟨0,0,10⟩
theorem o_y{k:Nat}(h:k<8)(hp:Int.tmod (((k%2:Nat):Int)+((k / 2%2:Nat):Int)+((k / 4:Nat):Int)) 2=1):(oct 10)[k]? = some ⟨aqn k,aqo k,aqp k⟩:=by
 rcases k with _ | _ | _ | _ | _ | _ | _ | _ | k <;> first | rfl | (revert hp;decide) | omega
theorem o_n{k:Nat}(h:k<8)(hp:¬Int.tmod (((k%2:Nat):Int)+((k / 2%2:Nat):Int)+((k / 4:Nat):Int)) 2=1):(oct 10)[k]? = some ⟨aqo k,aqn k,aqp k⟩:=by
 rcases k with _ | _ | _ | _ | _ | _ | _ | _ | k <;> first | rfl | (revert hp;decide) | omega
theorem aji:∀t∈oct 10,IT t:=fun t ht=>by
 simp only[oct,ao,bz,or_false] at ht;rcases ht with rfl | rfl | rfl | rfl | rfl | rfl | rfl | rfl <;> exact⟨⟨by decide,by decide,by decide⟩,⟨by decide,by decide,by decide⟩,⟨by decide,by decide,by decide⟩⟩
theorem aqq(w:aj):dJ prog 47 [.int .i64 10] w (SL 39 9 (Dl.flatMap aN) 8 w):=by
 refine⟨aq7,?_⟩;have m:=Mem.refl w
 go_enter func47,ntmps47
 refine eC 12 [] m ?_;simp only[↓aD,Bi,Dz,aa];refine⟨by omega,?_⟩;intro u m;refine cP 10 [0] m ?_;simp only[↓aD,Up,Dy,Bi,aa];intro g1;refine⟨by omega,?_⟩;intro u m;refine cP 9 [0] m ?_;simp only[↓aD,Dz,Up,Dy,Bi,aa];intro g2;refine⟨by omega,?_⟩;intro u m;refine cP 5 [0] m ?_;simp only[↓aD,Bi,Dz,Up,Dy,aa];intro g3;intro u m;refine cP 3 [0] m ?_;simp only[↓aD];intro u m;refine aC aM ?_;replace m:=m.nilO 39 9;refine aS 7 [0] m ?_;simp only[↓aD];intro u m;refine cE [6,7] [8,9,10,29,30,31,32,33,34,35,36,37,38,39,40,41,42,43,44,45,46,47,48,49,50,51,52,53,54,55,56,57,58,59,60,61,62,63,64,65,66,67,68,69,70] (fun n vs wl=>∃(k:Nat) (A6:Option Addr) (cap6:Nat),vs=[.slice A6 k cap6,.int .i64 (k:Int)]∧Mem w wl [oI 39 9 A6 k cap6 (((oct 10).take k).flatMap aN),bI g3 [.int .i64 0,.int .i64 0,.int .i64 (-10),.int .i64 0,.int .i64 0,.int .i64 10] 56,bI g2 [.int .i64 0,.int .i64 (-10),.int .i64 0,.int .i64 0,.int .i64 10,.int .i64 0] 56,bI g1 [.int .i64 (-10),.int .i64 0,.int .i64 0,.int .i64 10,.int .i64 0,.int .i64 0] 56]∧(k≤8)∧(n=8-k)) ?_ ?_
 · skip
   apply Exists.intro;simp only[zQ,zR,zD,zE];exact⟨0,_,_,rfl,m,br _,rfl⟩
 · intro n vs wr hI u K1 hK1
   clear m;obtain⟨k,A6,cap6,rfl,m,hk,hn⟩:=hI;simp only[zu,zF,zG];refine aW 6 [0,0] m ?_;simp only[↓aD];intro u m;refine bG rfl (fun hc1=>?_) (fun hc1=>?_)
   · skip
     have hk8:k<8:=by omega
     refine aW 6 [0] m ?_;simp only[↓aD];intro u m;refine aC (vS rfl rfl (aef hk8)) ?_;simp only[zz];refine aC (aI Dp aA rfl rfl (by omega) (by omega) (mN (ai _))) ?_;simp only[zz];refine aQ rfl (show fL _ _ _ _ (pt (aqn k)) from ajh (m.b 3 rfl) (Nat.mod_lt _ (by decide))) ?_;simp only[zz];refine aS 6 [0,0] m ?_;simp only[↓aD,eY,aO,aa];intro g4;intro u m;refine aC (oK rfl rfl (by omega) ajf) (aC (vS rfl rfl (aef (k:=k / 2) (by omega))) ?_);simp only[zz];refine aC (aI Dp aA rfl rfl (by omega) (by omega) (mN (ai _))) ?_;simp only[zz];refine aQ rfl (show fL _ _ _ _ (pt (aqo k)) from ajh (m.b 3 rfl) (Nat.mod_lt _ (by decide))) ?_;simp only[zz];refine aS 6 [0,0] m ?_;simp only[↓aD,eY,aO,aa];intro g5;intro u m;refine aC (oK rfl rfl (by omega) ajg) ?_;simp only[zz];refine aC (aI Dp aA rfl rfl (by omega) (by omega) (mN (ai _))) ?_;simp only[zz];refine aQ rfl (show fL _ _ _ _ (pt (aqp k)) from ajh (m.b 3 rfl) (by omega)) ?_;simp only[zz];refine aS 6 [0,0] m ?_;simp only[↓aD,eY,aO,aa];intro g6;intro u m;refine aC (vS rfl rfl (aef hk8)) (aS 1 [0] m ?_);simp only[↓aD];intro u m;refine aC (oK rfl rfl (by omega) ajf) (aC (vS rfl rfl (aef (k:=k / 2) (by omega))) ?_);refine aS 2 [0] m ?_;simp only[↓aD];refine⟨by omega,?_⟩;intro u m;refine aC (oK rfl rfl (by omega) ajg) (aS 1 [0] m ?_);simp only[↓aD];refine⟨by omega,?_⟩;intro u m;refine aC (eG rfl rfl (by omega) rfl) (aS 2 [0,0] m ?_);simp only[↓aD];intro u m;refine bG rfl (fun hc2=>?_) (fun hc2=>?_)
     · skip
       have hx:=o_y hk8 hc2;refine aW 6 [2,1,0,0] m ?_;simp only[↓aD,aO,rL,aa];intro u m;refine fH rfl ?_;intro u g7 e hg hB;replace m:=m.newB e hg hB;clear e hg hB;simp only[zz];refine bQ m 4 rfl rfl cC kA rfl (by decide) rfl rfl rfl (m.b 0 rfl).rowsO (fW rfl) (by omega) (by omega) ?_;clear m;intro A6 cap6 u m;simp only[zF,zG] at m;rw[show ((oct 10).take k).flatMap aN++_=((oct 10).take (k+1)).flatMap aN by rw[bX hx,ba];rfl] at m;refine aS 8 [0] m ?_;simp only[↓aD];refine⟨by omega,?_⟩;intro u m;refine hK1 (8-(k+1)) _ _ ?_ ?_ ?_
       · omega
       · simp only[zz,zv]
       · simp only[zQ,zR,zD,zE]
         exact⟨k+1,_,_,rfl,(m.sel [false,false,false,false,true,true,true,true]),by omega,rfl⟩
     · skip
       have hx:=o_n hk8 hc2;refine aW 6 [1,2,0,0] m ?_;simp only[↓aD,aO,rL,aa];intro u m;refine fH rfl ?_;intro u g7 e hg hB;replace m:=m.newB e hg hB;clear e hg hB;simp only[zz];refine bQ m 4 rfl rfl cC kA rfl (by decide) rfl rfl rfl (m.b 0 rfl).rowsO (fW rfl) (by omega) (by omega) ?_;clear m;intro A6 cap6 u m;simp only[zF,zG] at m;rw[show ((oct 10).take k).flatMap aN++_=((oct 10).take (k+1)).flatMap aN by rw[bX hx,ba];rfl] at m;refine aS 8 [0] m ?_;simp only[↓aD];refine⟨by omega,?_⟩;intro u m;refine hK1 (8-(k+1)) _ _ ?_ ?_ ?_
       · omega
       · simp only[zz,zv]
       · simp only[zQ,zR,zD,zE]
         exact⟨k+1,_,_,rfl,(m.sel [false,false,false,false,true,true,true,true]),by omega,rfl⟩
   · skip
     obtain rfl:k=8:=by omega
     refine aW 4 [0] m ?_;simp only[↓aD];intro u m;refine bJ rfl rfl (aaA (ts:=oct 10) _ ((m.o 0 rfl).tris aji) (by decide)) ?_;rintro v u e ⟨A8,cap8,n8,hn8,rfl,hN⟩;replace m:=m.newO e hN;clear e hN;refine aS 3 [] m ?_;simp only[↓aD];intro u m;exact aR rfl rfl (⟨_,rfl,m.ext,⟨_,_,_,hn8,rfl,(m.o 0 rfl)⟩⟩)
end Go.Proofs.YtfekpcimgncioaaGreatDoor
namespace Go.Lith
open Go.RowKit Go.ChangeMaps Go.MapKept
theorem aa2{w u:aj}(e:fN w u):w.grownBy u none:=⟨e.os,e.tape,e.output,e.size,fun k hk _=>Below.block e k hk⟩
section
variable {K V:Type} [DecidableEq K] {P:bh} {T M E ty:an} {ek:K→ah} {en:V→ah} {w:aj} {g c r:Nat} {es:Array b_} {D:List (K × V)}
variable {ds:List cn} {l:List ah} {x:Operand} {ops:Array Oper} {Q:Exit→Act→aj→Prop} {rest:List Oper} {d:Nat} {pos:String} {after:Array Edge}
theorem alw{seen:Array Nat}{dn rs:List (K × V)}(hx:ev l x=.pointer (some ⟨r,0,none⟩))(hI:rG w r g c seen c)(hM:iX w g es c)(hD:bL ek en D es c)(hT:nQ ek en D es seen dn rs)
 (h:∀b kv vv seen' u,w.grownBy u (some r)→iX u g es c→rG u r g c seen' c→Nxt ek en D es dn rs b kv vv seen'→au P ops Q rest (Fr (l.set d (Du b kv vv)) ds) u) :
 au P ops Q (Oper.mk (some d) (.next x false) ty pos after none::rest) (Fr l ds) w:=by
 obtain⟨b,kv,vv,seen',w1,hw1,hr,hN⟩:=Tr (P:=P) (ty:=ty) (s:=0) hI hM hD hT;have e1:w1.heap=w.heap∧w1.os=w.os∧w1.tape=w.tape∧w1.output=w.output:=by rcases hw1 with rfl | rfl <;> exact⟨rfl,rfl,rfl,rfl⟩
 have hgr:g≠r:=fun e=>by
  subst e;have h1:w.heap[g]? = some (.map es c):=hM;rw[show w.heap[g]? = _ from hI] at h1;cases h1
 refine lY (w':=setBlock w1 r (.mapIter (some g) c seen' c)) (v:=Du b kv vv) (fun o ho hty=>by simp[execOp,ho,cJ,hx,hty,hr]) (h b kv vv seen' _ ⟨e1.2.1,e1.2.2.1,e1.2.2.2,by simp[setBlock,e1.1],fun k _ hk=>?_⟩ ?_ ?_ hN)
 · simp only[setBlock,e1.1]
   exact h_ fun e=>hk (by rw[e])
 · show (setBlock w1 r _).heap[g]? = _
   simp only[setBlock,e1.1];rw[h_ (Ne.symm hgr)];exact hM
 · exact jM (w:=w1) (o:=.mapIter (some g) c seen c) (by rw[e1.1];exact hI)
end
def alx(is:List It):Prop:=∀i∈is,(∃g cs t,i=bI g cs t)∨∃E c A n cap xs,i=oI E c A n cap xs
theorem aqr{β:Type}(B:Nat)(E:an)(c:Nat)(A:Option Addr)(n cap:Nat)(xs:List ah):OwnFrom B fun (_:β) W=>(oI E c A n cap xs).P W:=fun s X Y row hs hg hr=>by
 refine⟨hs.1,?_⟩;rcases hs.2 with h | ⟨g,cap,cur,h1,h2,h3,h4⟩
 · exact .inl h
 · exact .inr ⟨g,cap,cur,h1,h2,by
    rw[grownBy_keeps_cells hg (fun r e=>(hr r e).2) h3 rfl];exact h3,h4⟩
theorem aa3{β:Type}{B:Nat}{w:aj}(F:β→List It)(hF:∀s,alx (F s))(h:w.heap.size≤B):OwnFrom B fun s W=>Mem w W (F s):=fun s W W' row hs hg hr=>by
 refine⟨ad0 (β:=Unit) h () W W' row hs.ext hg hr,fun i hi=>?_,hs.ge,hs.nd⟩;rcases hF s i hi with ⟨g,cs,t,rfl⟩ | ⟨E,c,A,n,cap,xs,rfl⟩
 · exact Nb (β:=Unit) B (fun _=>g) (fun _=>cs) t () W W' row (hs.all _ hi) hg hr
 · exact aqr (β:=Unit) B E c A n cap xs () W W' row (hs.all _ hi) hg hr
theorem Mem.addC{w0 w:aj}{is:List It}{D:Nat}{x:Option (List cn)}(m:Mem w0 w is)(hA:alx is)(h:w.heap[D]? = some (.deferred x))(hge:w0.heap.size≤D):Mem w0 w (Go.Proofs.YtfekpcimgncioaaGreatDoor.dI D (.deferred x)::is):=by
 refine⟨m.ext,fun i hi=>?_,fun i hi b hb=>?_,List.pairwise_cons.2 ⟨fun j hj b h1 h2=>?_,m.nd⟩⟩
 · rcases ao.1 hi with rfl | hi
   · exact h
   · exact m.all i hi
 · rcases ao.1 hi with rfl | hi
   · cases hb;exact hge
   · exact m.ge i hi b hb
 · cases h1
   rcases hA j hj with ⟨g,cs,t,rfl⟩ | ⟨E,c,A,n,cap,xs,rfl⟩
   · cases h2
     have hB:w.heap[D]? = some (.cells cs.toArray t (0,0)):=m.all _ hj;rw[h] at hB;cases hB
   · have hP:=m.all _ hj
     rcases hP.2 with ⟨e,_⟩ | ⟨g,cap',cur,e,_,hg,_⟩
     · cases e;cases h2
     · cases e
       cases h2;rw[h] at hg;cases hg
theorem RX.wr{W u u':aj}{A:Option Addr}{w0:aj}{S:List (Option Nat)}{E:an}{c n cap:Nat}{xs:List ah}(h:RX W u)(hO:Ow w0 u S E c A n cap xs)(e:Wr u u' A):RX W u' :=
 ⟨e.os.trans h.os,e.tape.trans h.tape,e.output.trans h.output,h.ko.trans ⟨e.size,fun k o hk ho=>(e.block k (Array.getElem?_eq_some_iff.1 hk).1 fun hkA=>by
  rcases hO.cases with ⟨rfl,_⟩ | ⟨g,cur,rfl,_,hg,_⟩
  · cases hkA
  · cases hkA
    rw[hg] at hk;cases hk;cases ho).trans hk⟩⟩
section
variable {P:bh} {Q:Exit→Act→aj→Prop} {W w0 w:aj} {is:List It} {ops:Array Oper} {rest:List Oper} {d:Nat} {ty T:an} {pos:String} {after:Array Edge} {x y:Operand} {l:List ah} {ds:List cn}
theorem ajj{E:an}{c n cap b nm mcap:Nat}{A B:Option Addr}{z:ah}{xs news:List ah}{a0:Array an}(m:lA W w0 w is)(k:Nat)(hk:is[k]? = some (oI E c A n cap xs))(ha:a0 = #[T,T])(hu:P.underlying T=some (.slice E))(hi:(P.info? E).map (fun i=>(i.size,i.bytes,i.zero))=some (c,b,some z))(hz:z.cells.size=c)(hc:0<c)
 (hs:ev l x=.slice A n cap) (hx:ev l y=.slice B nm mcap) (hl:news.length=nm*c) (hrow:∀j u,news[j]? = some u→∃a,B=some a∧w.cell? (a.add j)=some u) (h1:∀u∈news,u.oneCell'=true) (h63:n+nm≤9223372036854775807) (hbytes:(n+nm)*b≤140737488355328)
 (h:∀A' cap' u,lA W w0 u (is.set k (oI E c A' (n+nm) cap' (xs++news)))→au P ops Q rest (Fr (l.set d (.slice A' (n+nm) cap')) ds) u) :
 au P ops Q (Oper.mk (some d) (.call { callee:=.builtin .append,args:=#[x,y],argTypes:=a0 }) ty pos after none::rest) (Fr l ds) w :=
 Tm ha hu hi hz hc m.ext hs (m.o k hk) hx hl hrow h1 h63 hbytes fun A' cap' u hO hW hF=>h A' cap' u ⟨m.put k hk hW.os hW.tape hW.output hW.size (fun b hb hne=>hW.block b hb hne) (by
  refine⟨hO.own.1,?_⟩;rcases hO.cases with ⟨rfl,e1,rfl,_⟩ | ⟨g,cur,rfl,_,h2,h3⟩
  · exact .inl ⟨by rw[e1],e1⟩
  · exact .inr ⟨g,cap',cur,rfl,br _,h2,h3⟩) (by
  rcases hF with rfl | hF
  · exact .inl fun _ h=>h
  · exact .inr fun b hb=>by
     have e:Lc A'=some b:=hb;rw[hF] at e;cases e;exact av _),m.rx.wr (m.o k hk) hW⟩
theorem aa4{W u:aj}(h:RX W u):KeepsWalks W u:=⟨h.ko.size,fun k o hk ho=>h.ko.same k o hk (by cases o <;> first | rfl | cases ho)⟩
theorem ajk{α σ:Type}{L:List ah}{go:Operand}{gf Bs N q1 d1:Nat}{assign body:Code}{S:List α→Prop}{v1:α→ah}{c1:α→List ah}{T1:an}
 (hf:ev L go=.func (.func gf) #[] #[.pointer (some ⟨Bs,0,none⟩)]) (he:Lith.Entr P gf) (hseq:SeqStopsK Fence.wide 3 P gf #[.pointer (some ⟨Bs,0,none⟩)] (fun x=>#[v1 x]) KeepsWalks S (fun _=>True) N w)
 (F:σ→List It) (R:List α→σ→Prop) (hF:∀s,alx (F s)) (hdet:∀W s s' pre pre',R pre s→R pre' s'→Mem w0 W (F s)→Mem w0 W (F s')→R pre s') {s0:σ} (m:Mem w0 w (F s0)) (hR:R [] s0)
 (hassign:∀(r:Nat) (pre:List α) (x:α) (s:σ) (W:aj) (K:Act→aj→Prop),R pre s→lA W w0 W (F s)→(∀g u,lA W w0 u (bI g (c1 x) T1::F s)→K (Fr ((L.set q1 (v1 x)).set d1 (.pointer (some ⟨g,0,none⟩)))) u) →
  assign.wpIn (Fence.wide.inRound r) 2 P (Exit.then K (fun _ _ _=>False)) (Fr (L.set q1 (v1 x))) W)
 (hbody:∀(r:Nat) (pre:List α) (x:α) (g:Nat) (s:σ) (W:aj) (Q':Exit→Act→aj→Prop) [Eh Q'],pre.length<N→R pre s→lA W w0 W (bI g (c1 x) T1::F s) →
  (∀a u s',lA W w0 u (F s')→R (pre++[x]) s'→Q' .normal a u)→body.wpIn (Fence.wide.inRound r) 2 P Q' (Fr ((L.set q1 (v1 x)).set d1 (.pointer (some ⟨g,0,none⟩)))) W)
 (hdone:∀(D:Nat) (xs:List α) (s:σ) (u:aj),S xs→R xs s→Mem w0 u (Go.Proofs.YtfekpcimgncioaaGreatDoor.dI D (.deferred (some []))::F s)→Q .normal (Fr L [{ target:=.collected D,args:=#[] }]) u) :
 (Code.rangeFunc go #[q1] assign body).wp P Q (Fr L) w:=by
 refine (wpIn_wide (n:=4)).1 ?_;have hsz:=m.ext.size;have own:OwnFrom w.heap.size fun (pre:List α) W=>∃s,R pre s∧Mem w0 W (F s):=fun pre X Y row ⟨s,hs,hm⟩ hg hr=>⟨s,hs,aa3 (β:=Unit) (fun _=>F s) (fun _=>hF s) hsz () X Y row hm hg hr⟩
 have Wj:∀(g:Nat) (x:α) (s:σ),alx (bI g (c1 x) T1::F s):=fun g x s i hi=>by
  rcases ao.1 hi with rfl | hi
  · exact .inl ⟨_,_,_,rfl⟩
  · exact hF s i hi
 refine wpIn_rangeFunc_ownH (F:=Fence.wide) rfl (by omega) (gf:=gf) (lb:=#[.pointer (some ⟨Bs,0,none⟩)]) (by rw[cJ];exact hf) trivial (fun args u=>sL he) hseq KeepsWalks.trans
  (fun W l o o' _ ho _ hw=>KeepsWalks.putObj o' ho hw) (Below.refl _ _) (fun _=>rfl)
  (fun pre W=>∃s,R pre s∧Mem w0 W (F s)) (fun _ _ _=>False)
  own (fun _ _ _ _ _ h _ _=>h) ⟨s0,hR,m⟩
  (fun x a' W=>∃g s pre,a'=Fr ((L.set q1 (v1 x)).set d1 (.pointer (some ⟨g,0,none⟩)))∧R pre s∧Mem w0 W (bI g (c1 x) T1::F s))
  (fun x a' _ X Y row hs hg hr=>by
   obtain⟨g,s,pre,e,h1,h2⟩:=hs;exact⟨g,s,pre,e,h1,aa3 (β:=Unit) (fun _=>bI g (c1 x) T1::F s) (fun _=>Wj g x s) hsz () X Y row h2 hg hr⟩)
  ?_ ?_ ?_ ?_
 · rintro r pre x W K ⟨s,hs,hm⟩ hK
   have e:((#[q1].zip #[v1 x]).foldl (fun t (y:Tmp × ah)=>t.setIfInBounds y.1 y.2) (Fr L).tmps)=(L.set q1 (v1 x)).toArray:=by simp
   have:=hassign r pre x s W K hs (lA.start hm) (fun g u hu=>hK _ _ (hu.rx.ko.from _) (aa4 hu.rx) ⟨s,hs,hu.toMem.tl⟩ ⟨g,s,pre,rfl,hs,hu.toMem⟩);simp only at this ⊢;rw[e];exact this
 · rintro r pre x a' W _ _ ⟨s,hs,hm⟩ ⟨g,s',pre',rfl,hs',hm'⟩ hN
   have hd:=hdet W s s' pre pre' hs hs' hm hm'.tl;refine hbody r pre x g s' W _ hN hd (lA.start hm') (fun a u s2 hu h2=>?_);exact⟨hu.rx.ko.from _,aa4 hu.rx,s2,h2,hu.toMem⟩
 · rintro D xs W hD hS ⟨s,hs,hm⟩ hd
   exact hdone D xs s W hS hs (Lith.Mem.addC hm (hF s) hd (az hsz hD))
 · rintro D c pre W hD hsp h hd
   exact h.elim
end
end Go.Lith
namespace Go.Proofs.YtfekpcimgncioaaGreatDoor
open Go.Proofs.Tryz
open Go.RowKit Go.Lith
set_option maxRecDepth 100000
attribute [local irreducible] au wpQuiet fR bO cO Code.wp
attribute [local congr] pL fX fY fZ gA gB kI gC gD gE gF gG gH gI gJ gK gL gM eS eT gN gQ gS gT gU kK dC dD cR dB gR kJ eV eW eX gW gX kL
theorem ajl{dp:Nat}(l Bs g c:Nat){es:Array b_}{D:List (P3 × P3)}(J Jx:List P3→aj→Prop)(W:aj)(hJ:AbidesFrom W.heap.size J)
 (hY:∀pre x W1,J pre W1→pre.length<D.length→YieldAt Fence.wide (dp-1) prog l #[pt x] W1 fun e W'=>(e=.returned (.bool true)∧J (pre++[x]) W'∧KeepsWalks W1 W')∨(e=.returned (.bool false)∧Jx (pre++[x]) W'))
 (hM:iX W g es c) (hD:bL pt pt D es c) (hB:fK W Bs [.map (some g)] 99) (h0:J [] W) :
 CallsIn Fence.wide dp prog 129 #[.func (.yield l) #[] #[],.pointer (some ⟨Bs,0,none⟩)] W fun e W'=>(∃v,e=.returned v)∧((∃xs:List P3,xs.Perm (D.map (·.1))∧J xs W')∨(∃pre,True∧Jx pre W')):=by
 refine callsIn_of_wp func129 rfl trivial ?_ rfl;simp only[ntmps129,fy,ay,bu,aa,Nat.reduceSub,gj,gl,io,gz,cd,ci];refine wpIn_wide.2 ?_;refine bA fun K1 k1=>ap (aQ rfl (hB.lies1 aoB rfl) ?_);simp only[zz];refine adD Np rfl hM fun w1 r e1 hr hI=>aK (k1 _ _ ?_);have hJ1:J [] w1:=hJ [] W w1 none h0 (aa2 e1) (fun _ h=>by cases h);have hM1:=hM.ext e1;clear h0 k1 K1;refine wp_block ?_;simp only[zz];refine ac8 [] [3,6,7,8,9,10,11,12,13] (fun n vs wl=>∃(dn rs:List (P3 × P3)) (sn:Array Nat),vs=[]∧iX wl g es c∧rG wl r g c sn c∧nQ pt pt D es sn dn rs∧J (dn.map (·.1)) wl∧n=rs.length) ?_ ?_
 · apply Exists.intro
   simp only[zQ,zR,zD,zE];exact⟨[],D,#[],trivial,hM1,hI,nQ.start hD,hJ1,rfl⟩
 · intro n vs wr hL u
   obtain⟨dn,rs,sn,rfl,hMw,hIw,hT,hJw,hn⟩:=hL;have hlen:=hT.len;simp only[zu,zF,zG];refine bA fun K5 k5=>ap (alw rfl hIw hMw hD hT fun bb kk vv sn2 u1 hg1 hM2 hI2 hN=>?_);refine aC (pP rfl) (aK (k5 _ _ ?_));have hJ2:J (dn.map (·.1)) u1:=hJ _ _ _ _ hJw hg1 (fun r' e=>by cases e;exact⟨hr,_,hIw,rfl⟩);clear k5 K5;refine bA fun K6 k6=>?_;simp only[zz];refine cN rfl (fun hc1=>?_) (fun hc1=>?_)
   · obtain⟨kp,kb,rs2,hp,hT2⟩:=Gs hc1 hN
     refine wp_skip (k6 _ _ ?_);clear k6 K6;refine wp_block (bA fun K7 k7=>ap (fF (sT rfl hI2 hM2 hD hT2) ?_));simp only[zz];refine aC (eZ rfl rfl) ?_;have m:=Mem.refl u1;simp only[zz];refine nI m iL rfl ?_;clear m;intro g2 u2 m;simp only[zz];refine bR m 0 rfl rfl rfl aA (iS rfl) rfl ?_;clear m;intro u3 m;simp only[zy,zx,cA,zF,zG,aa] at m;refine aK (k7 _ _ ?_);clear k7 K7;have hJ3:J (dn.map (·.1)) u3:=hJ _ _ _ _ hJ2 (aa2 m.ext) (fun _ h=>by cases h);have hM3:=hM2.ext m.ext;have hI3:=hI2.ext m.ext;have hB3:=m.b 0 rfl;obtain⟨fn,tmps,asn,body,hy,hR⟩:=hY (dn.map (·.1)) kp u3 hJ3 (by have:=hp.length_eq;rw[List.length_map];simp only[ay] at this;omega);refine bA fun K8 k8=>(wpIn_wide (n:=dp)).1 (wpIn_region_lit (vO (aH _) ?_));simp only[zz];refine vO (aU rfl (hB3.full aG aA)) ?_;simp only[zz];refine Na (args:=[pt kp]) rfl rfl hy hR ?_;rintro e w4 (⟨rfl,hJ4,hk4⟩ | ⟨rfl,hJ4⟩)
     · refine⟨_,rfl,vO (nM rfl _) (k8 _ _ ?_)⟩
       simp only[zz];refine aej rfl (wp_skip ?_);simp only[cq,Exit.then];refine⟨rs2.length,_,?_,rfl,?_,?_⟩
       · rw[hn,hp.length_eq];exact Nat.lt_succ_self _
       · simp only[zz,zv]
       · simp only[zQ,zR,zD,zE]
         exact⟨dn++[(kp,kb)],rs2,_,trivial,hk4.same g _ hM3 rfl,hk4.same r _ hI3 rfl,hT2,by rw[List.map_append];exact hJ4,rfl⟩
     · refine⟨_,rfl,vO (nM rfl _) (k8 _ _ ?_)⟩
       simp only[zz];refine yZ rfl (wp_ret ?_);simp only[cq,Exit.then];exact aqO rfl ⟨⟨_,rfl⟩,.inr ⟨_,trivial,hJ4⟩⟩
   · obtain rfl:=Gr hc1 hN
     refine wp_exit ?_;simp only[cq,Exit.then,if_true];exact Sx rfl ⟨⟨_,rfl⟩,.inl ⟨dn.map (·.1),hT.done.map _,hJ2⟩⟩
theorem Ma{w:aj}{Bs g c:Nat}{es:Array b_}{D:List (P3 × P3)}(hM:iX w g es c)(hD:bL pt pt D es c)(hB:fK w Bs [.map (some g)] 99) :
 SeqStopsK Fence.wide 3 prog 129 #[.pointer (some ⟨Bs,0,none⟩)] (fun x:P3=>#[pt x]) KeepsWalks (fun xs=>xs.Perm (D.map (·.1))) (fun _=>True) D.length w:=fun l J Jx W hW hJ _ hY h0 =>
 ajl l Bs g c J Jx W hJ hY ((hW.block g hM.lt).trans hM) hD ((hW.block Bs hB.lt).trans hB) h0
structure SlS where
 A:Option Addr
 n:Nat
 cap:Nat
 xs:List ah
theorem aly{w0 W:aj}{g:Nat}{s s':SlS}{pre pre':List P3}(h:s.n=pre.length∧s.xs=pre.flatMap kN)(h':s'.n=pre'.length∧s'.xs=pre'.flatMap kN)(m:Mem w0 W [bI g [.slice s.A s.n s.cap] 65,oI 30 3 s.A s.n s.cap s.xs])(m':Mem w0 W [bI g [.slice s'.A s'.n s'.cap] 65,oI 30 3 s'.A s'.n s'.cap s'.xs]):s'.n=pre.length∧s'.xs=pre.flatMap kN:=by
 obtain⟨A,n,cap,xs⟩:=s;obtain⟨A',n',cap',xs'⟩:=s';dsimp only at h h' m m' ⊢;have e:W.heap[g]? = _:=m.b 0 rfl;rw[show W.heap[g]? = _ from m'.b 0 rfl] at e;simp only[Option.some.injEq,Obj.cells.injEq,List.toArray_inj,List.cons.injEq,Value.slice.injEq,and_true] at e;obtain⟨rfl,rfl,rfl⟩:=e;refine⟨h.1,?_⟩;rcases (m.o 1 rfl).cases with ⟨rfl,_,_,hx⟩ | ⟨g1,cur,rfl,_,hg,_,_,_,hx⟩
 · rcases (m'.o 1 rfl).cases with ⟨_,_,_,hx'⟩ | ⟨g2,cur',e,_⟩
   · rw[hx',←h.2,hx]
   · cases e
 · rcases (m'.o 1 rfl).cases with ⟨e,_⟩ | ⟨g2,cur',e,_,hg',_,_,_,hx'⟩
   · cases e
   · cases e
     rw[hg] at hg';cases hg';rw[←hx',hx,h.2]
theorem ajm{q:Nat}(w:aj):dJ prog 69 [.map (some q)] w (fun v w'=>∃g,v=.func (.func 129) #[] #[.pointer (some ⟨g,0,none⟩)]∧w.heap.size≤g∧fK w' g [.map (some q)] 99):=by
 refine⟨aru,?_⟩;have m:=Mem.refl w
 go_enter func69,ntmps69
 refine eC 7 [0] m ?_;simp only[↓aD];intro g1;intro u m;refine aC fO ?_;simp only[zz,fk,bi,ck];refine aS 3 [] m ?_;simp only[↓aD];intro u m;exact aR rfl rfl (⟨_,rfl,m.ext,g1,rfl,m.ge _ List.mem_cons_self g1 rfl,(m.b 0 rfl)⟩)
theorem Fp{α:Type}{n:Nat}{P:bh}{g:Nat}{lb:Array ah}{encs:α→Array ah}{Kp:aj→aj→Prop}{S Sp:List α→Prop}{N:Nat}{w u:aj}(h:SeqStopsK Fence.wide n P g lb encs Kp S Sp N w)(e:fN w u):SeqStopsK Fence.wide n P g lb encs Kp S Sp N u:=fun l J Jx W hW=>h l J Jx W (Below.trans e (Below.mono hW (Below.size e)))
theorem aa5{gf Bs N:Nat}{S:List P3→Prop}(w:aj)(he:Entr prog gf)(hseq:SeqStopsK Fence.wide 3 prog gf #[.pointer (some ⟨Bs,0,none⟩)] (fun x:P3=>#[pt x]) KeepsWalks S (fun _=>True) N w)(hN:N≤10000000):dJ prog 193 [.slice none 0 0,.func (.func gf) #[] #[.pointer (some ⟨Bs,0,none⟩)]] w (fun v w'=>∃xs:List P3,SL 30 3 (xs.flatMap kN) xs.length w v w'∧S xs):=by
 refine⟨anz,?_⟩;have m:=Mem.refl w;refine (callsIn_wide (n:=4)).1 (callsIn_of_wp_marks func193 rfl trivial ?_ rfl);simp only[ntmps193,fy,ay,bu,aa,Nat.reduceSub,gj,gl,io,gz,cd,ci];refine wpIn_wide.2 ?_;refine bA fun K1 k1=>ap (arJ m rfl rfl ?_);clear m;intro g1 u m;refine aC aM (aK (k1 _ _ ?_));try clear k1 K1
 refine bA fun K2 k2=>bA fun K3 k3=>?_;simp only[zz];replace m:=m.nilO 30 3;refine ap (aC aH (aK (k3 _ _ ?_)));try clear k3 K3
 refine wp_block ?_;simp only[zz];replace m:=m.s01;refine ajk (L:=_) (v1:=fun x=>pt x) (c1:=kN) (T1:=30) (d1:=5) rfl he (Fp hseq m.ext) (fun s:SlS=>[bI g1 [.slice s.A s.n s.cap] 65,oI 30 3 s.A s.n s.cap s.xs]) (fun pre s=>s.n=pre.length∧s.xs=pre.flatMap kN) (fun s i hi=>?_) (fun W s s2 pre pre2 h h2 m1 m2=>aly h h2 m1 m2) (s0:=⟨none,0,0,[]⟩) m ⟨rfl,rfl⟩ ?_ ?_ ?_
 · simp only[ao,bz,or_false] at hi;rcases hi with rfl | rfl;exact .inl ⟨_,_,_,rfl⟩;exact .inr ⟨_,_,_,_,_,_,rfl⟩
 · skip
   intro r pre x s W K hs m hK;try dsimp only at m hK ⊢
   simp only[zF,zG];refine cB (Hx m iL rfl ?_);clear m;intro g2 u m;simp only[zz];refine Bp m 0 rfl rfl rfl aA (iS rfl) rfl ?_;clear m;intro u m;simp only[zy,zx,cA,zF,zG,aa] at m;exact aK (hK _ _ m)
 · skip
   rintro r pre x g5 ⟨A1,n1,cap1,xs1⟩ W Q' _ hNp ⟨hn1,hx1⟩ m hn;dsimp only at m hn hn1 hx1 ⊢;subst hx1
   · skip
     simp only[zF,zG];refine oS (cB (aQ rfl ((m.b 1 rfl).lies1 agn rfl) ?_));simp only[zz];refine aQ rfl ((m.b 0 rfl).full aG aA) ?_;simp only[zz];refine kY rfl ?_;intro u g6 e hg hB;replace m:lA _ _ _ _:=⟨m.toMem.newB e hg hB,m.rx.ext e⟩;clear e hg hB;simp only[zz];refine ajj m 3 rfl rfl cX nG rfl (by decide) rfl rfl rfl (m.b 0 rfl).rowsO (fW rfl) (by omega) (by omega) ?_;clear m;intro A1 cap1 u m;simp only[zF,zG] at m;rw[show pre.flatMap kN++_=(pre++[x]).flatMap kN by rw[ba];rfl] at m;simp only[zz];refine iV m 2 rfl rfl rfl agm (iS rfl) ⟨rfl,rfl⟩ ?_;clear m;intro u m;simp only[zz,zy,zx,cA,aa] at m;exact aK (hn _ _ ⟨A1,n1+1,cap1,(pre++[x]).flatMap kN⟩ ⟨m.toMem.sel [false,false,true,true],m.rx⟩ ⟨by simp[hn1],rfl⟩)
 rintro D xs ⟨A1,n1,cap1,xs1⟩ u hS ⟨hn1,hx1⟩ m;dsimp only at m hn1 hx1;subst hx1;refine k2 _ _ ?_;try clear k2 K2
 refine bA fun K4 k4=>ap (aQ rfl ((m.b 1 rfl).lies1 agn rfl) ?_);simp only[zz];refine aC aM (aK (k4 _ _ ?_));try clear k4 K4
 refine wp_ret ?_;simp only[zz];try simp only[cq,Exit.then,if_true]
 refine abH (Def.mk (m.get 0 rfl)) ?_;replace m:=m.putD (o':=.deferred none) 0 rfl;simp only[zF,zG] at m;refine aR rfl rfl ?_;try simp only[zD,zE]
 exact⟨_,rfl,m.ext,xs,⟨A1,cap1,n1,hn1,rfl,(m.o 2 rfl)⟩,hS⟩
theorem acR{gf Bs N:Nat}{S:List P3→Prop}(w:aj)(he:Entr prog gf)(hseq:SeqStopsK Fence.wide 3 prog gf #[.pointer (some ⟨Bs,0,none⟩)] (fun x:P3=>#[pt x]) KeepsWalks S (fun _=>True) N w)(hN:N≤10000000):dJ prog 127 [.func (.func gf) #[] #[.pointer (some ⟨Bs,0,none⟩)]] w (fun v w'=>∃xs:List P3,SL 30 3 (xs.flatMap kN) xs.length w v w'∧S xs):=by
 refine⟨amX,?_⟩;have m:=Mem.refl w
 go_enter func127,ntmps127
 refine eC 7 [0] m ?_;simp only[↓aD];intro u m;refine bJ rfl rfl (aa5 _ he (Fp hseq m.ext) hN) ?_;rintro v u e ⟨xs,⟨A5,cap5,n5,hn5,rfl,hN⟩,hS⟩;replace m:=m.newO e hN;clear e hN;refine aS 3 [] m ?_;simp only[↓aD];intro u m;exact aR rfl rfl (⟨_,rfl,m.ext,xs,⟨_,_,_,hn5,rfl,(m.o 0 rfl)⟩,hS⟩)
theorem aa6{gf Bs N:Nat}{S:List P3→Prop}(w:aj)(he:Entr prog gf)(hseq:SeqStopsK Fence.wide 3 prog gf #[.pointer (some ⟨Bs,0,none⟩)] (fun x:P3=>#[pt x]) KeepsWalks S (fun _=>True) N w)(hS:∀xs,S xs→xs.length≤N)(hN:N≤10000000):dJ prog 68 [.func (.func gf) #[] #[.pointer (some ⟨Bs,0,none⟩)],.func (.func 70) #[] #[]] w (fun v w'=>∃xs ys:List P3,SL 30 3 (ys.flatMap bN) xs.length w v w'∧S xs∧ys.Perm xs∧ys.Pairwise fun a b=>¬b.Lt a):=by
 refine⟨art,?_⟩;have m:=Mem.refl w
 go_enter func68,ntmps68
 refine eC 7 [0] m ?_;simp only[↓aD];intro u m;refine bJ rfl rfl (acR _ he (Fp hseq m.ext) hN) ?_;rintro v u e ⟨xs,⟨A5,cap5,n5,hn5,rfl,hN⟩,hSx⟩;replace m:=m.newO e hN;clear e hN;refine aS 6 [0] m ?_;simp only[↓aD];intro u m;refine lZ m 0 abv rfl rfl (fun m=>ad9 m 0 rfl (by have:=hS xs hSx;omega)) ?_;clear m;rintro v i u m ⟨rfl,ys,rfl,hys,hso⟩;simp only[zF,zG] at m;refine aS 7 [] m ?_;simp only[↓aD];intro u m;exact aR rfl rfl (⟨_,rfl,m.ext,xs,ys,⟨_,_,_,hn5,rfl,(m.o 0 rfl)⟩,hSx,hys,hso⟩)
section
variable {ts:List T3} {p q:P3} {F:List (P3 × Bool)}
theorem afG(hF:∀z,(cI F z).getD false=Dw (bF ts) z):((cI (fQ [] (nB ts p)) q).getD false && !(cI F p).getD false)=uY ts p q:=by
 rw[hF,rH];unfold uY
 congr 1
 rw[ep,decide_eq_true_eq,rP]
theorem afH:decide (Fg (fQ [] (nB ts q)) (fQ [] (nB ts p))=2)=xQ ts p q:=by
 unfold xQ
 congr 2
 unfold Fg;have hp:((fQ [] (nB ts p)).map (·.1)).Perm (nbL ts p):=by
  refine (List.perm_ext_iff_of_nodup (Et _ [] List.nodup_nil) ?_).2 fun x=>?_
  · exact (Eg ts).sublist (List.filter_sublist ..)
  · rw[tU,uZ,rP];simp
 have e:(fun k=>(cI (fQ [] (nB ts q)) k).getD false)=Mg ts q:=funext fun k=>by
  rw[rH,ep,decide_eq_true_eq,rP]
 rw[e];exact (hp.filter _).length_eq
theorem ajn(hF:∀z,(cI F z).getD false=Dw (bF ts) z):Xv (fQ [] (nB ts p)) (fQ [] (nB ts q)) F q=Ez ts p q:=by
 unfold Xv Ez;rw[hF]
 congr 1
 rw[ep,dw,dw];have key:∀k,(!afs F (fQ [] (nB ts q)) q k)=(decide (k=q) || !Dw (bF ts) k||Mg ts q k):=fun k=>by
  unfold afs;have e1:decide (¬(k.x=q.x∧k.y=q.y∧k.z=q.z)) = !decide (k=q):=by
   rw[←decide_not];exact decide_eq_decide.2 ⟨fun h e=>h (by rw[e];exact⟨rfl,rfl,rfl⟩),fun h e=>h (P3.eq e.1 e.2.1 e.2.2)⟩
  have e2:(cI (fQ [] (nB ts q)) k).getD false=Mg ts q k:=by rw[rH,ep,decide_eq_true_eq,rP]
  rw[e1,e2,hF];cases decide (k=q) <;> cases Dw (bF ts) k <;> cases Mg ts q k <;> rfl
 constructor
 · intro h k hk
   rw[←key];exact h k ((tU _ _ _).2 (.inr (rP.2 (uZ.1 hk))))
 · intro h k hk
   rw[key];exact h k (uZ.2 (rP.1 (((tU _ _ _).1 hk).elim (fun h=>(by cases h)) id)))
theorem acS:acH (kV p q ts) (iY p q ts)=uC ts p q:=by
 unfold acH uC iY;rw[List.zip_map_right,List.all_map];rw[ep,dw,dw];constructor
 · intro h t ht
   obtain⟨i,hi⟩:=cv.1 ht;exact h (t,t) (bj (i:=i) (by rw[ly];exact⟨hi,hi⟩))
 · rintro h ⟨x,y⟩ hx
   obtain⟨i,hi⟩:=cv.1 hx;rw[ly] at hi;obtain rfl:x=y:=dq (hi.1.symm.trans hi.2);exact h x (bj hi.1)
theorem Rl(ts:List T3)(p:P3):(nB ts p).length≤3*ts.length:=by
 have h1:=List.length_filter_le (fun t=>T3.has t p) ts;unfold nB;rw[List.length_flatMap];have h2:∀L:List T3,(L.map fun t=>(nbT p t).length).sum≤3*L.length:=fun L=>by
  induction L with
  | nil=>exact av _
  | cons t L ih =>
   have:(nbT p t).length≤3:=by
    unfold nbT nbK;rw[aw,aw];split <;> split <;> split <;> simp
   simp only[bi,List.sum_cons,ay];omega
 exact az (h2 _) (by omega)
theorem ajo:afz (iY p q ts) (mJ p q ts)=Fa ts p q:=rfl
theorem asF(hnd:∀t∈ts,t.nd=true):∀t∈iY p q ts++mJ p q ts,t.nd=true:=fun t ht=>by
 rcases bt.1 ht with h | h
 · obtain⟨s,hs,rfl⟩:=List.mem_map.1 h
   have:=(ct.1 hs).2;rw[be] at this;exact this.2
 · exact hnd t (ct.1 h).1
theorem Vj[I3 q](hI:∀t∈ts,IT t):(∀t∈iY p q ts,IT t)∧(∀t∈kV p q ts,IT t)∧∀t∈mJ p q ts,IT t :=
 ⟨fun t ht=>by
  obtain⟨s,hs,rfl⟩:=List.mem_map.1 ht;have:=hI s (ct.1 hs).1;exact⟨xW inferInstance this.a,xW inferInstance this.b,xW inferInstance this.c⟩,fun t ht=>hI t (ct.1 ht).1,fun t ht=>hI t (ct.1 ht).1⟩
theorem aqs(p q:P3)(ts:List T3):(iY p q ts).length+(mJ p q ts).length≤ts.length+ts.length:=by
 have h1:=ai1 p q ts;have h2:=acL p q ts;have h3:=Yf p q ts;omega
end
theorem Vk{g90 ga gf N cap ca cf:Nat}{A:Option Addr}{ea ef:Array b_}{D:List (P3 × Hd)}{F:List (P3 × Bool)}{ts:List T3}{p q:P3}[I3 p][I3 q](w:aj)(hS:If 109 w g90 ga gf A N cap ea ef ca cf D ts)(hD:Rj ea ef ca cf D F ts)(hT:bP w A N ts)(hnd:∀t∈ts,t.nd=true)(hN:ts.length≤1000000):dJ prog 51 [.pointer (some ⟨g90,0,none⟩),pt p,pt q] w (fun v _=>v=.bool (cY ts p q)):=by
 refine⟨ara,?_⟩;have m:=Mem.refl w;have hxl:(fQ [] (nB ts p)).length≤100000000:=by have h1:=oR (nB ts p) [];have h2:=Rl ts p;simp only[bu] at h1;omega
 have hlen:=aqs p q ts;have hlen1:=acL p q ts;have hlen2:=Yf p q ts
 go_enter func51,ntmps51
 refine eC 11 [1,0,0] m ?_;simp only[↓aD,aO];intro g8 g9;intro u m;refine bJ rfl rfl (aqa (p:=p) (q:=q) _ (hS.b.ext m.ext) (hS.a.ext m.ext) hD.a (fun z=>⟨(hS.t z).1.ext m.ext,(hS.t z).2⟩) (hT.ext m.ext) (by omega)) ?_;rintro v u e ⟨g7,qx,esx,cx,qy,esy,cy,A5,n5,cap5,A6,n6,cap6,A7,n7,cap7,rfl,hM,hDx,hDy,hn5,hn6,hn7⟩;replace m:=m.plus hM;clear hM e;simp only[ci,cd] at m;refine aS 6 [0] m ?_;simp only[↓aD];intro u m;refine aC fO ?_;simp only[zz,fk,bi,ck];refine aS 1 [0] m ?_;simp only[↓aD];intro u m;refine aC fO ?_;simp only[zz,fk,bi,ck];refine aS 1 [0] m ?_;simp only[↓aD];intro u m;refine aC fO ?_;simp only[zz,fk,bi,ck];refine aS 1 [0] m ?_;simp only[↓aD];intro u m;refine aC fO ?_;simp only[zz,fk,bi,ck];refine aS 1 [0] m ?_;simp only[↓aD];intro u m;refine aC fO ?_;simp only[zz,fk,bi,ck];refine aS 1 [0] m ?_;simp only[↓aD];intro u m;refine aC fO ?_;simp only[zz,fk,bi,ck];refine acr rfl rfl rfl rfl rfl rfl ?_;intro u g10 e hg hB;replace m:=m.newB e hg hB;clear e hg hB;refine aS 24 [7,1,0,0] m ?_;simp only[↓aD,apm,Jy,Um,ad,ag,aa];refine⟨by omega,?_⟩;intro u m;refine cU m rfl rfl (afp (ts:=ts) (X:=fQ [] (nB ts p)) (Y:=fQ [] (nB ts q)) (F:=F) (ex:=esx) (ey:=esy) (ef:=ef) (cx:=cx) (cy:=cy) (cf:=cf) _ (m.b 1 rfl) (hS.b.ext m.ext) (m.p 6 rfl) hDx (hS.f.ext m.ext) hD.f) ?_;clear m;rintro v u m rfl;simp only[zz];rw[afG hD.b];refine aS 2 [0] m ?_;simp only[↓aD];intro u m;refine cN rfl (fun hc2=>?_) (fun hc2=>?_)
 · skip
   have f0:uY ts p q=false:=by simpa using hc2
   refine aW 5 [] m ?_;simp only[↓aD];intro u m;refine aR rfl rfl ?_;try simp only[zD,zE]
   exact⟨_,rfl,m.ext,by rw[show cY ts p q=false by unfold cY;simp only[f0,jd,ig,lh,ji,jr]]⟩
 · skip
   have f0:uY ts p q=true:=by simpa using hc2
   refine aW 25 [1,0,0] m ?_;simp only[↓aD,Jy,Um,ak,ad,ag,aa];refine⟨by omega,?_⟩;intro u m;refine cU m rfl rfl (afr (ts:=ts) (X:=fQ [] (nB ts p)) (Y:=fQ [] (nB ts q)) (F:=F) (ex:=esx) (ey:=esy) (ef:=ef) (cx:=cx) (cy:=cy) (cf:=cf) _ (m.b 1 rfl) (hS.b.ext m.ext) (m.p 6 rfl) hDx (m.p 5 rfl) hDy hxl) ?_;clear m;rintro v u m rfl;simp only[zz];rw[afH];refine aS 2 [0] m ?_;simp only[↓aD];intro u m;refine cN rfl (fun hc2=>?_) (fun hc2=>?_)
   · skip
     have f1:xQ ts p q=false:=by simpa using hc2
     refine aW 5 [] m ?_;simp only[↓aD];intro u m;refine aR rfl rfl ?_;try simp only[zD,zE]
     exact⟨_,rfl,m.ext,by rw[show cY ts p q=false by unfold cY;simp only[f0,f1,jd,ig,lh,ji,jr]]⟩
   · skip
     have f1:xQ ts p q=true:=by simpa using hc2
     refine aW 25 [1,0,0] m ?_;simp only[↓aD,Jy,Um,ak,ad,ag,aa];refine⟨by omega,?_⟩;intro u m;refine cU m rfl rfl (afy (ts:=ts) (X:=fQ [] (nB ts p)) (Y:=fQ [] (nB ts q)) (F:=F) (ex:=esx) (ey:=esy) (ef:=ef) (cx:=cx) (cy:=cy) (cf:=cf) (ms:=iY p q ts) (rs:=mJ p q ts) _ (m.b 1 rfl) (hS.b.ext m.ext) ((m.o 4 rfl).tris (Vj (p:=p) (q:=q) hT.it).1) ((m.o 2 rfl).tris (Vj (p:=p) (q:=q) hT.it).2.2) (asF hnd) (by omega)) ?_;clear m;rintro v u m rfl;simp only[zz];rw[show decide ((iY p q ts++mJ p q ts).map pS).Nodup=qW ts p q from rfl];refine aS 2 [0] m ?_;simp only[↓aD];intro u m;refine cN rfl (fun hc2=>?_) (fun hc2=>?_)
     · skip
       have f2:qW ts p q=false:=by simpa using hc2
       refine aW 5 [] m ?_;simp only[↓aD];intro u m;refine aR rfl rfl ?_;try simp only[zD,zE]
       exact⟨_,rfl,m.ext,by rw[show cY ts p q=false by unfold cY;simp only[f0,f1,f2,jd,ig,lh,ji,jr]]⟩
     · skip
       have f2:qW ts p q=true:=by simpa using hc2
       refine aW 25 [1,0,0] m ?_;simp only[↓aD,Jy,Um,ak,ad,ag,aa];refine⟨by omega,?_⟩;intro u m;refine cU m rfl rfl (aiv (ts:=ts) (X:=fQ [] (nB ts p)) (Y:=fQ [] (nB ts q)) (F:=F) (ex:=esx) (ey:=esy) (ef:=ef) (cx:=cx) (cy:=cy) (cf:=cf) _ (m.b 1 rfl) (hS.b.ext m.ext) (m.p 6 rfl) hDx (m.p 5 rfl) hDy (hS.f.ext m.ext) hD.f) ?_;clear m;rintro v u m rfl;simp only[zz];rw[ajn hD.b];refine aS 2 [0] m ?_;simp only[↓aD];intro u m;refine cN rfl (fun hc2=>?_) (fun hc2=>?_)
       · skip
         have f3:Ez ts p q=false:=by simpa using hc2
         refine aW 5 [] m ?_;simp only[↓aD];intro u m;refine aR rfl rfl ?_;try simp only[zD,zE]
         exact⟨_,rfl,m.ext,by rw[show cY ts p q=false by unfold cY;simp only[f0,f1,f2,f3,jd,ig,lh,ji,jr]]⟩
       · skip
         have f3:Ez ts p q=true:=by simpa using hc2
         refine aW 25 [1,0,0] m ?_;simp only[↓aD,Jy,Um,ak,ad,ag,aa];refine⟨by omega,?_⟩;intro u m;refine cU m rfl rfl (acI (ts:=ts) (X:=fQ [] (nB ts p)) (Y:=fQ [] (nB ts q)) (F:=F) (ex:=esx) (ey:=esy) (ef:=ef) (cx:=cx) (cy:=cy) (cf:=cf) (ms:=iY p q ts) (os:=kV p q ts) _ (m.b 1 rfl) (hS.b.ext m.ext) ((m.o 4 rfl).tris (Vj (p:=p) (q:=q) hT.it).1) ((m.o 3 rfl).tris (Vj (p:=p) (q:=q) hT.it).2.1) (by omega) (by omega)) ?_;clear m;rintro v u m rfl;simp only[zz];rw[acS];refine aS 2 [0] m ?_;simp only[↓aD];intro u m;refine cN rfl (fun hc2=>?_) (fun hc2=>?_)
         · skip
           have f4:uC ts p q=false:=by simpa using hc2
           refine aW 5 [] m ?_;simp only[↓aD];intro u m;refine aR rfl rfl ?_;try simp only[zD,zE]
           exact⟨_,rfl,m.ext,by rw[show cY ts p q=false by unfold cY;simp only[f0,f1,f2,f3,f4,jd,ig,lh,ji,jr]]⟩
         · skip
           have f4:uC ts p q=true:=by simpa using hc2
           refine aW 25 [1,0,0] m ?_;simp only[↓aD,Jy,Um,ak,ad,ag,aa];refine⟨by omega,?_⟩;intro u m;refine cU m rfl rfl (aiZ (ts:=ts) (X:=fQ [] (nB ts p)) (Y:=fQ [] (nB ts q)) (F:=F) (ex:=esx) (ey:=esy) (ef:=ef) (cx:=cx) (cy:=cy) (cf:=cf) (ms:=iY p q ts) (rs:=mJ p q ts) _ (m.b 1 rfl) (hS.b.ext m.ext) ((m.o 4 rfl).tris (Vj (p:=p) (q:=q) hT.it).1) ((m.o 2 rfl).tris (Vj (p:=p) (q:=q) hT.it).2.2) (m.o 4 rfl).le (by omega)) ?_;clear m;rintro v u m rfl;simp only[zz];rw[ajo];refine aS 2 [0] m ?_;simp only[↓aD];intro u m;refine cN rfl (fun hc2=>?_) (fun hc2=>?_)
           · skip
             have f5:Fa ts p q=false:=by simpa using hc2
             refine aW 5 [] m ?_;simp only[↓aD];intro u m;refine aR rfl rfl ?_;try simp only[zD,zE]
             exact⟨_,rfl,m.ext,by rw[show cY ts p q=false by unfold cY;simp only[f0,f1,f2,f3,f4,f5,jd,ig,lh,ji,jr]]⟩
           · skip
             have f5:Fa ts p q=true:=by simpa using hc2
             refine aW 19 [2] m ?_;simp only[↓aD,ak];refine⟨by omega,?_⟩;intro u m;refine aR rfl rfl ?_;try simp only[zD,zE]
             exact⟨_,rfl,m.ext,by rw[show cY ts p q=true by unfold cY;simp only[f0,f1,f2,f3,f4,f5,jd,ig,lh,ji,jr]]⟩
theorem ajp{P:bh}{l:List ah}{op:Op}{ty:an}{b c:Bool}(h:iG P l op ty (.bool b))(e:b=c):iG P l op ty (.bool c):=e▸h
def Ij(ts:List T3)(p q:P3):Bool:=decide (p≠q)&&decide (fM true ts=0)&&cY ts p q
theorem Rm{ts:List T3}(h:fM true ts=0):∀t∈ts,t.nd=true:=fun t ht=>Go.Lith.nd_of ((aam h).1 t ht)
theorem asG{p q:P3}:(p.x=q.x∧p.y=q.y∧p.z=q.z)↔p=q:=⟨fun h=>P3.eq h.1 h.2.1 h.2.2,fun h=>by rw[h];exact⟨rfl,rfl,rfl⟩⟩
theorem amq{p q:P3}(h:p≠q):decide (¬(p.x=q.x∧p.y=q.y∧p.z=q.z))=true:=decide_eq_true fun k=>h (asG.1 k)
theorem asH{p q:P3}(h:p=q):decide (¬(p.x=q.x∧p.y=q.y∧p.z=q.z))=false:=decide_eq_false fun k=>k (asG.2 h)
theorem Db{ts:List T3}{N cap:Nat}{A:Option Addr}{p q:P3}[I3 p][I3 q](w:aj)(hT:bP w A N ts)(hN:N≤300000):dJ prog 17 [.slice A N cap,pt p,pt q] w (fun v _=>v=.bool (Ij ts p q)):=by
 refine⟨aqR,?_⟩;have m:=Mem.refl w;have htl:=hT.len
 go_enter func17,ntmps17
 refine eC 7 [] m ?_;simp only[↓aD];intro g1 g2;intro u m;rcases (show p=q∨(p≠q∧fM true ts≠0)∨(p≠q∧fM true ts=0) by by_cases h1:p=q <;> by_cases h2:fM true ts=0 <;> simp[h1,h2]) with hpq | ⟨hpq,hck⟩ | ⟨hpq,hck⟩
 · skip
   refine gc ?_;refine mh m [true,true] [(0,true),(1,true),(2,true),(3,true),(4,true),(5,false),(6,true),(7,true),(8,true),(9,true),(11,true),(12,true),(10,false),(13,false),(14,true),(15,true)] aB (by kernel_rfl) (bT (fun _ _ _ _ _ h=>h)) (ol:=?_) ?hol ?_
   case hol=>simp only[zw,zQ,zR];try rfl
   clear m;intro u m;refine eN rfl (fun u m=>((m.b 1 rfl).full aG aA)) ?_;simp only[zz];refine eN rfl (fun u m=>((m.b 0 rfl).full aG aA)) ?_;simp only[zz];refine bB ((ajp (fA rfl rfl) (asH hpq))) (bB aH (sN rfl (bK (oX rfl ?_))));simp only[zz];refine aK (⟨m,?_⟩);refine sN rfl (bB (Cb rfl) (bB aH (sN rfl ?_)));simp only[zz];refine sN rfl (sN rfl (bK (oX rfl (aK ?_))));refine⟨m,?_⟩;refine bK (oX rfl ?_);simp only[zz];refine aK (⟨m,?_⟩);refine bB (Cb rfl) (bB aM (cK ?_));refine cP 1 [] m ?_;simp only[↓aD];intro u m;refine aR rfl rfl ?_;try simp only[zD,zE]
   exact⟨_,rfl,m.ext,by rw[Ij,decide_eq_false (fun h=>h hpq)];rfl⟩
 · skip
   refine gc ?_;refine mh m [true,true] [(0,true),(1,true),(2,true),(3,true),(4,true),(5,false),(6,true),(7,true),(8,true),(9,true),(11,true),(12,true),(10,false),(13,false),(14,true),(15,true)] aB (by kernel_rfl) (bT (fun _ _ _ _ _ h=>h)) (ol:=?_) ?hol ?_
   case hol=>simp only[zw,zQ,zR];try rfl
   clear m;intro u m;refine eN rfl (fun u m=>((m.b 1 rfl).full aG aA)) ?_;simp only[zz];refine eN rfl (fun u m=>((m.b 0 rfl).full aG aA)) ?_;simp only[zz];refine bB ((ajp (fA rfl rfl) (amq hpq))) (bB aH (jP rfl (bB aH (bK (dN rfl ?_)))));simp only[zz];refine cU m rfl rfl (xV _ (hT.ext m.ext) (by omega)) ?_;clear m;rintro v u m rfl;refine aK (⟨m,?_⟩);refine jP rfl (bB (amw rfl rfl hck) (bB (sM rfl) (bB aH ?_)));simp only[zz];refine sN rfl (sN rfl (sN rfl (bK (oX rfl ?_))));simp only[zz];refine aK (⟨m,?_⟩);refine bK (oX rfl (aK ?_));refine⟨m,?_⟩;refine bB (Cb rfl) (bB aM (cK ?_));refine cP 1 [] m ?_;simp only[↓aD];intro u m;refine aR rfl rfl ?_;try simp only[zD,zE]
   exact⟨_,rfl,m.ext,by rw[Ij,decide_eq_false hck,ig];rfl⟩
 · skip
   refine gc ?_;refine mh m [true,true] [(0,true),(1,true),(2,true),(3,true),(4,true),(5,false),(6,true),(7,true),(8,true),(9,true),(11,true),(12,true),(10,false),(13,false),(14,true),(15,true)] aB (by kernel_rfl) (bT (fun _ _ _ _ _ h=>h)) (ol:=?_) ?hol ?_
   case hol=>simp only[zw,zQ,zR];try rfl
   clear m;intro u m;refine eN rfl (fun u m=>((m.b 1 rfl).full aG aA)) ?_;simp only[zz];refine eN rfl (fun u m=>((m.b 0 rfl).full aG aA)) ?_;simp only[zz];refine bB ((ajp (fA rfl rfl) (amq hpq))) (bB aH (jP rfl (bB aH (bK (dN rfl ?_)))));simp only[zz];refine cU m rfl rfl (xV _ (hT.ext m.ext) (by omega)) ?_;clear m;rintro v u m rfl;refine aK (⟨m,?_⟩);refine jP rfl (bB (Is rfl rfl hck) (bB (sM rfl) (bB aH ?_)));simp only[zz];refine jP rfl (bB aH (jP rfl ?_));simp only[zz];refine eN rfl (fun u m=>((m.b 1 rfl).full aG aA)) ?_;simp only[zz];refine jP rfl (eN rfl (fun u m=>((m.b 0 rfl).full aG aA)) ?_);simp only[zz];refine bK (dN rfl (bJ rfl rfl (ai5 _ (hT.ext m.ext) (Rm hck) (by omega)) ?_));rintro v u e ⟨g90,ga,gf,ea,ef,ca,cf,D,F,K9,rfl,hM,hS9,hD9⟩;replace m:=m.plus hM;clear hM e;simp only[ci,cd] at m;refine aK (⟨m.sel [false,true,true],?_⟩);refine bK (dN rfl ?_);simp only[zz];refine cU m rfl rfl (Vk (p:=p) (q:=q) _ (hS9 _ (m.get 0 rfl)) hD9 (hT.ext m.ext) (Rm hck) (by omega)) ?_;clear m;rintro v u m rfl;refine aK (⟨m.sel [false,true,true],?_⟩);refine bB (sM rfl) (bB aM (cK ?_));refine cP 1 [] m ?_;simp only[↓aD];intro u m;refine aR rfl rfl ?_;try simp only[zD,zE]
   exact⟨_,rfl,m.ext,by rw[Ij,decide_eq_true hpq,decide_eq_true hck];rfl⟩
theorem acT{a b:List Int}{k:Nat}(ha:a.length=10)(hb:b.length=10)(hA:Fc k a)(hB:Fc k b)(hk:k≤900000):dL prog 61 [qV a,qV b] (qV (Di a b)):=by
 intro w;refine⟨arl,?_⟩;have m:=Mem.refl w
 go_enter func61,ntmps61
 refine eC 12 [0] m ?_;simp only[↓aD,ahE];intro g1 g2 g3;intro u m;refine cE [6] [5,7,8,9,10,11,12,13,14,15,16,17,18] (fun n vs wl=>∃(i:Nat),vs=[.int .i64 (i:Int)]∧Mem w wl [bI g3 [.bool false,.string ⟨#[]⟩,.bool false,.string ⟨#[]⟩,.bool false,.string ⟨#[]⟩,.bool false,.string ⟨#[]⟩,.bool false,.string ⟨#[]⟩,.bool false,.string ⟨#[]⟩,.bool false,.string ⟨#[]⟩,.bool false,.string ⟨#[]⟩,.bool false,.string ⟨#[]⟩,.bool false,.string ⟨#[]⟩] 97,bI g2 (qC b) 97,bI g1 (qC (qP a b i)) 97]∧(i≤10)∧(n=10-i)) ?_ ?_
 · skip
   apply Exists.intro;simp only[zQ,zR,zD,zE];exact⟨0,rfl,m,br _,rfl⟩
 · intro n vs wr hI u K1 hK1
   clear m;obtain⟨i,rfl,m,hi,hn⟩:=hI;simp only[zu,zF,zG];refine aW 5 [0,0] m ?_;simp only[↓aD];intro u m;refine bG rfl (fun hc1=>?_) (fun hc1=>?_)
   · skip
     have hi:i<10:=by omega
     obtain⟨x,hx0⟩:∃x,a[i]? = some x:=⟨_,Xd ha hi⟩
     obtain⟨y,hy⟩:∃y,b[i]? = some y:=⟨_,Xd hb hi⟩
     have hx:=ar0 ha hb hi hx0;refine aW 8 [0] m ?_;simp only[↓aD];intro u m;refine dA m 9 aB (by kernel_rfl) ?_;simp only[zy];refine aJ aH (aJ aH ?_);simp only[zz];refine aJ (aI Kv aP rfl rfl (by omega) (by omega) (mN (ai _))) ?_;simp only[zz];refine ql rfl (fun u m=>(show fL _ _ _ _ (W x) from (Bg (m.b 2 rfl) hx).lies cL aP)) ?_;simp only[zz];refine aJ aH ?_;simp only[zz];refine aJ (aI Kv aP rfl rfl (by omega) (by omega) (mN (ai _))) ?_;simp only[zz];refine ql rfl (fun u m=>(show fL _ _ _ _ (W y) from (Bg (m.b 1 rfl) hy).lies cL aP)) ?_;simp only[zz];refine eR rfl rfl (Us ((hA.at hx0).mono (by omega)) ((hB.at hy).mono (by omega))) ?_;simp only[zz];refine aJ (aI Kv aP rfl rfl (by omega) (by omega) (mN (ai _))) (bD ?_);clear m;intro u m;simp only[zz];refine bR m 2 rfl rfl rfl aP (by have h1:=Bf (qP a b i);have h2:=ahy ha hb (show i≤10 by omega);simp only[ay,bu];omega) rfl ?_;clear m;intro u m;simp only[zF,zG] at m;rw[show cA (qC (qP a b i)) (i*2) [.bool (fP (x+y)),.string (jX (x+y))]=qC (qP a b (i+1)) from (Xb (x:=x+y) (by rw[ahy ha hb (by omega)];omega)).trans (by rw[apb ha hb hi hx0 hy])] at m;refine aK (cP 5 [0] m ?_);simp only[↓aD];refine⟨by omega,?_⟩;intro u m;refine hK1 (10-(i+1)) _ _ ?_ ?_ ?_
     · omega
     · simp only[zz,zv]
     · simp only[zQ,zR,zD,zE]
       exact⟨i+1,rfl,m,by omega,rfl⟩
   · skip
     obtain rfl:i=10:=by omega
     rw[apa ha hb] at m;refine aW 3 [0] m ?_;simp only[↓aD];intro u m;refine aQ rfl (vN (m.b 2 rfl) xB kG (by simp only[kW ha hb])) ?_;simp only[zz];refine Cq (n:=20) m 0 rfl rfl rfl (by rw[kW ha hb]) rfl kG ?_;clear m;intro u m;simp only[zF,zG] at m;refine aS 2 [] m ?_;simp only[↓aD];intro u m;exact aR rfl ⟨_,rfl,(vN (m.b 0 rfl) xB kG (by simp only[kW ha hb]))⟩ (⟨_,rfl,m.ext,rfl⟩)
theorem atq{t:T3}[IT t]:dL prog 182 [tr t] (qV [t.normal.x,t.normal.y,t.normal.z,0-t.normal.x*t.a.x-t.normal.y*t.a.y-t.normal.z*t.a.z]):=by
 intro w;refine⟨ano,?_⟩;have m:=Mem.refl w
 go_enter func182,ntmps182
 refine eC 8 [1,0] m ?_;simp only[↓aD,acm,dQ];intro g1 g2;intro u m;refine mW m rfl rfl (Qm (t:=t)) 14 [0,0,0,0,0] ?_;simp only[↓aD,Qh,ahN,uG,fC,ahJ,acm,ahI,aa,ad,ag];intro g3 g4;refine⟨by omega,?_⟩;intro u m;refine cP 31 [3,3,3,4,1,0] m ?_;simp only[↓aD,bM,jW,dU,kM,lM,uD,ad,ag,aa];refine⟨by omega,?_⟩;intro u m;refine aC (jI rfl rfl) (aS 3 [0] m ?_);simp only[↓aD];intro u m;refine dA m 10 aB (by kernel_rfl) ?_;simp only[zy];refine eM 1 [] ?_;simp only[↓aD,Ka,ad,ag,aa];refine⟨by omega,?_⟩;refine ql rfl (fun u m=>(akL ((m.b 0 rfl).lies cL aP rfl rfl))) ?_;simp only[zz];refine eM 4 [1] ?_;simp only[↓aD,uG,fC,ad,ag,aa];refine⟨by omega,?_⟩;refine eR rfl rfl (pT Iw.h) ?_;simp only[zz];refine eR rfl rfl (sH Bw.up Bw.up) ?_;simp only[zz];refine eR rfl rfl (Ea Bw.up Bw.up) (eM 1 [] ?_);simp only[↓aD,Ka,ad,ag,aa];refine⟨by omega,?_⟩;refine bD ?_;clear m;intro u m;refine bR m 0 rfl rfl rfl aP (iS rfl) rfl ?_;clear m;intro u m;simp only[zy,zx,cA,zF,zG,aa] at m;refine aK (cP 18 [1,0] m ?_);simp only[↓aD,ak];refine⟨by omega,?_⟩;intro u m;refine aC (jJ rfl rfl) (aS 3 [0] m ?_);simp only[↓aD];intro u m;refine dA m 10 aB (by kernel_rfl) ?_;simp only[zy];refine eM 6 [0,1] ?_;simp only[↓aD,Ka,fC,uG,ad,ag,aa];refine⟨by omega,?_⟩;refine eR rfl rfl (pT Iw.h) ?_;simp only[zz];refine eR rfl rfl (sH Bw.up Bw.up) ?_;simp only[zz];refine eR rfl rfl (Ea Bw.up Bw.up) (eM 1 [] ?_);simp only[↓aD,Ka,ad,ag,aa];refine⟨by omega,?_⟩;refine bD ?_;clear m;intro u m;refine bR m 0 rfl rfl rfl aP (iS rfl) rfl ?_;clear m;intro u m;simp only[zy,zx,cA,zF,zG,aa] at m;refine aK (cP 18 [1,0] m ?_);simp only[↓aD,ak];refine⟨by omega,?_⟩;intro u m;refine aC (jK rfl rfl) (aS 3 [0] m ?_);simp only[↓aD];intro u m;refine dA m 10 aB (by kernel_rfl) ?_;simp only[zy];refine eM 6 [0,1] ?_;simp only[↓aD,Ka,fC,uG,ad,ag,aa];refine⟨by omega,?_⟩;refine eR rfl rfl (pT Iw.h) ?_;simp only[zz];refine eR rfl rfl (sH Bw.up Bw.up) ?_;simp only[zz];refine eR rfl rfl (Ea Bw.up Bw.up) (eM 1 [] ?_);simp only[↓aD,Ka,ad,ag,aa];refine⟨by omega,?_⟩;refine bD ?_;clear m;intro u m;refine bR m 0 rfl rfl rfl aP (iS rfl) rfl ?_;clear m;intro u m;simp only[zy,zx,cA,zF,zG,aa] at m;refine aK (cP 19 [2,0,2] m ?_);simp only[↓aD,ahI,ak,aa];refine⟨by omega,?_⟩;intro u m;exact aR rfl ⟨_,rfl,((m.b 2 rfl).full adg Iv)⟩ (⟨_,rfl,m.ext,rfl⟩)
def asI(f:FuncId)(caps:Array ah)(w0:aj)(is:List It)(k:Nat)(J:Nat→It):Prop :=
 ∀n u,n<10→Mem w0 u (is.set k (J n))→yQ prog f ([.int .i64 (n:Int),.int .i64 (eI n:Int),.int .i64 (eJ n:Int)]++caps.toList) u fun _ w'=>Mem w0 w' (is.set k (J (n+1)))
theorem ajq{w0 w:aj}{is:List It}{f:FuncId}{caps:Array ah}{J:Nat→It}(m:Mem w0 w is)(k:Nat)(hk:is[k]? = some (J 0))(hc:asI f caps w0 is k J):Calls prog 119 [.func (.func f) #[] caps].toArray w fun e w'=>∃v i,e=.returned v∧Mem w0 w' (is.set k i)∧(v=.tuple #[]∧i=J 10):=by
 replace m:=(show Mem w0 w (is.set k (J 0)) by rw[Ot hk];exact m)
 go_enter func119,ntmps119
 refine eC 49 [5,1,5,1,0] m ?_;simp only[↓aD];refine⟨by omega,?_⟩;intro u m;refine mF rfl rfl (hc 0 _ (by decide) m) ?_;clear m;rintro v u m;refine aS 29 [1,0] m ?_;simp only[↓aD,ak];refine⟨by omega,?_⟩;intro u m;refine mF rfl rfl (hc 1 _ (by decide) m) ?_;clear m;rintro v u m;refine aS 29 [1,0] m ?_;simp only[↓aD,ak];refine⟨by omega,?_⟩;intro u m;refine mF rfl rfl (hc 2 _ (by decide) m) ?_;clear m;rintro v u m;refine aS 29 [1,0] m ?_;simp only[↓aD,ak];refine⟨by omega,?_⟩;intro u m;refine mF rfl rfl (hc 3 _ (by decide) m) ?_;clear m;rintro v u m;refine aS 65 [2,1,4,1,0] m ?_;simp only[↓aD,ak];refine⟨by omega,?_⟩;intro u m;refine mF rfl rfl (hc 4 _ (by decide) m) ?_;clear m;rintro v u m;refine aS 29 [1,0] m ?_;simp only[↓aD,ak];refine⟨by omega,?_⟩;intro u m;refine mF rfl rfl (hc 5 _ (by decide) m) ?_;clear m;rintro v u m;refine aS 29 [1,0] m ?_;simp only[↓aD,ak];refine⟨by omega,?_⟩;intro u m;refine mF rfl rfl (hc 6 _ (by decide) m) ?_;clear m;rintro v u m;refine aS 65 [2,1,3,1,0] m ?_;simp only[↓aD,ak];refine⟨by omega,?_⟩;intro u m;refine mF rfl rfl (hc 7 _ (by decide) m) ?_;clear m;rintro v u m;refine aS 29 [1,0] m ?_;simp only[↓aD,ak];refine⟨by omega,?_⟩;intro u m;refine mF rfl rfl (hc 8 _ (by decide) m) ?_;clear m;rintro v u m;refine aS 65 [2,1,2,1,0] m ?_;simp only[↓aD,ak];refine⟨by omega,?_⟩;intro u m;refine mF rfl rfl (hc 9 _ (by decide) m) ?_;clear m;rintro v u m;refine aS 34 [2,2,0] m ?_;simp only[↓aD,ak];refine⟨by omega,?_⟩;intro u m;exact Sx rfl (⟨_,J 10,rfl,m,rfl,rfl⟩)
theorem asJ{w0 w:aj}{K:It}{g3 g4 g5 n:Nat}{a b c d:Int}{k:Nat}(m:Mem w0 w [bI g3 (qC (qF a b c d n)) 97,bI g5 (wC 2) 95,bI g4 (qC [a,b,c,d]) 229,K])(hn:n<10)(hp:Fc k [a,b,c,d])(hk:k≤400000):yQ prog 183 [.int .i64 (n:Int),.int .i64 (eI n:Int),.int .i64 (eJ n:Int),.pointer (some ⟨g4,0,none⟩),.pointer (some ⟨g3,0,none⟩),.pointer (some ⟨g5,0,none⟩)] w fun _ w'=>Mem w0 w' [bI g3 (qC (qF a b c d (n+1))) 97,bI g5 (wC 2) 95,bI g4 (qC [a,b,c,d]) 229,K]:=by
 refine⟨anp,?_⟩;have hi:=ahz hn;have hj:=ahA hn;have hx:=alV a b c d hi;have hy:=alV a b c d hj;have hlq:=apc a b c d (show n≤10 by omega);have hpr:=acf hp rfl hn;have h2b:Bd 2 (2:Int):=by unfold Bd;decide
 go_enter func183,ntmps183
 refine eC 1 [0] m ?_;simp only[↓aD];intro u m;refine dA m 9 aB (by kernel_rfl) ?_;simp only[zy];refine aJ aH (aJ aH ?_);simp only[zz];refine aJ (aI underlying229 aP rfl rfl (by omega) (by omega) (mN (ai _))) ?_;simp only[zz];refine ql rfl (fun u m=>(show fL _ _ _ _ (W ([a,b,c,d].getD (eI n) 0)) from (Bg (m.b 2 rfl) hx).lies cL aP)) ?_;simp only[zz];refine aJ aH ?_;simp only[zz];refine aJ (aI underlying229 aP rfl rfl (by omega) (by omega) (mN (ai _))) ?_;simp only[zz];refine ql rfl (fun u m=>(show fL _ _ _ _ (W ([a,b,c,d].getD (eJ n) 0)) from (Bg (m.b 2 rfl) hy).lies cL aP)) ?_;simp only[zz];refine eR rfl rfl (sH ((hp.at hx).mono (by omega)) ((hp.at hy).mono (by omega))) ?_;simp only[zz];refine aJ (aI Kv aP rfl rfl (by omega) (by omega) (mN (ai _))) (bD ?_);clear m;intro u m;simp only[zz];refine bR m 0 rfl rfl rfl aP (by have h1:=Bf (qF a b c d n);have h2:=hlq;simp only[ay,bu];omega) rfl ?_;clear m;intro u m;simp only[zF,zG] at m;rw[show cA (qC (qF a b c d n)) (n*2) [.bool (fP ([a,b,c,d].getD (eI n) 0*[a,b,c,d].getD (eJ n) 0)),.string (jX ([a,b,c,d].getD (eI n) 0*[a,b,c,d].getD (eJ n) 0))]=qC ((qF a b c d n).set n (Uk [a,b,c,d] n)) from Xb (by omega)] at m;refine aK (cP 6 [0,0] m ?_);simp only[↓aD];intro u m;refine bG rfl (fun hc1=>?_) (fun hc1=>?_)
 · skip
   have hq:((qF a b c d n).set n (Uk [a,b,c,d] n))[n]? = some (Uk [a,b,c,d] n):=by rw[List.getElem?_set_self (by omega)]
   have hst:=ahB (a:=a) (b:=b) (c:=c) (d:=d) hn;rw[if_neg (by omega)] at hst;refine dA m 7 aB (by kernel_rfl) ?_;simp only[zy];refine aJ aH (aJ aH ?_);simp only[zz];refine aJ (aI Kv aP rfl rfl (by omega) (by omega) (mN (ai _))) ?_;simp only[zz];refine ql rfl (fun u m=>(show fL _ _ _ _ (W (Uk [a,b,c,d] n)) from (Bg (m.b 0 rfl) hq).lies cL aP)) ?_;simp only[zz];refine ql rfl (fun u m=>(show fL _ _ _ _ (W 2) from (m.b 1 rfl).lies cL aP rfl rfl)) ?_;simp only[zz];refine eR rfl rfl (sH (hpr.mono (by omega)) (h2b.mono (by omega))) ?_;simp only[zz];refine aJ (aI Kv aP rfl rfl (by omega) (by omega) (mN (ai _))) (bD ?_);clear m;intro u m;simp only[zz];refine bR m 0 rfl rfl rfl aP (by have h1:=Bf ((qF a b c d n).set n (Uk [a,b,c,d] n));have h2:=(ov:((qF a b c d n).set n (Uk [a,b,c,d] n)).length=_);simp only[ay,bu];omega) rfl ?_;clear m;intro u m;simp only[zF,zG] at m;rw[show cA (qC ((qF a b c d n).set n (Uk [a,b,c,d] n))) (n*2) [.bool (fP (Uk [a,b,c,d] n*2)),.string (jX (Uk [a,b,c,d] n*2))]=qC (((qF a b c d n).set n (Uk [a,b,c,d] n)).set n (Uk [a,b,c,d] n*2)) from Xb (by rw[ov];omega)] at m;refine aK ?_;exact Sx rfl (⟨_,rfl,by rw[hst] at m;exact m⟩)
 · skip
   have hst:=ahB (a:=a) (b:=b) (c:=c) (d:=d) hn;rw[if_pos (by omega),List.set_set] at hst;refine aW 1 [0] m ?_;simp only[↓aD];intro u m;exact Sx rfl (⟨_,rfl,by rw[hst] at m;exact m⟩)
theorem zw0:[Value.bool false,Value.string ⟨#[]⟩]=wC 0:=by unfold wC;rw[Jf];rfl
theorem zq0:([.bool false,.string ⟨#[]⟩,.bool false,.string ⟨#[]⟩,.bool false,.string ⟨#[]⟩,.bool false,.string ⟨#[]⟩,.bool false,.string ⟨#[]⟩,.bool false,.string ⟨#[]⟩,.bool false,.string ⟨#[]⟩,.bool false,.string ⟨#[]⟩,.bool false,.string ⟨#[]⟩,.bool false,.string ⟨#[]⟩]:List ah)=qC q0:=by unfold qC q0;simp only[List.flatMap_cons,List.flatMap_nil,←zw0];rfl
theorem zqV:(Value.agg #[.bool false,.string ⟨#[]⟩,.bool false,.string ⟨#[]⟩,.bool false,.string ⟨#[]⟩,.bool false,.string ⟨#[]⟩,.bool false,.string ⟨#[]⟩,.bool false,.string ⟨#[]⟩,.bool false,.string ⟨#[]⟩,.bool false,.string ⟨#[]⟩,.bool false,.string ⟨#[]⟩,.bool false,.string ⟨#[]⟩])=qV q0:=by unfold qV;rw[←zq0]
theorem aeg{n:Int}(h1:fP n=false)(h2:jX n=⟨#[]⟩):n=0:=arH (by rw[Wh];unfold W;rw[h1,h2])
theorem atr(t:T3):0-t.normal.x*t.a.x-t.normal.y*t.a.y-t.normal.z*t.a.z = -((dG t.a t.b t.c).dot t.a):=by
 show 0-(dG t.a t.b t.c).x*t.a.x-(dG t.a t.b t.c).y*t.a.y-(dG t.a t.b t.c).z*t.a.z=_
 generalize dG t.a t.b t.c=n;unfold P3.dot
 grind
theorem acU(t:T3):qPr t.normal.x t.normal.y t.normal.z (0-t.normal.x*t.a.x-t.normal.y*t.a.y-t.normal.z*t.a.z)=qOf t:=by rw[atr];rfl
theorem amr{t:T3}[IT t]:Fc 300 [t.normal.x,t.normal.y,t.normal.z,0-t.normal.x*t.a.x-t.normal.y*t.a.y-t.normal.z*t.a.z]:=fun x hx=>by
 simp only[ao,bz,or_false] at hx;rcases hx with rfl | rfl | rfl | rfl
 · exact (Bw.up:Bd 300 t.normal.x)
 · exact (Bw.up:Bd 300 t.normal.y)
 · exact (Bw.up:Bd 300 t.normal.z)
 · exact (Bw.up:Bd 300 (0-t.normal.x*t.a.x-t.normal.y*t.a.y-t.normal.z*t.a.z))
theorem ajr{t:T3}[IT t]:Fc 602 (qOf t):=by rw[←acU];exact ar2 amr
theorem vD(t:T3):(qOf t).length=10:=rfl
theorem asK:Fc 1 q0:=fun x hx=>by
 simp only[q0,ao,bz,or_false] at hx;rcases hx with rfl | rfl | rfl | rfl | rfl | rfl | rfl | rfl | rfl | rfl <;> (unfold Bd;decide)
theorem Ik{ts:List T3}{k:Nat}{t:T3}{p:P3}(h:ts[k]? = some t):vM (ts.take (k+1)) p=if t.has p then Di (vM (ts.take k) p) (qOf t) else vM (ts.take k) p:=by
 unfold vM;rw[bX h,List.filter_append,g_];cases hh:t.has p <;> simp[hh]
theorem yH{ts:List T3}{p:P3}:∀k,k≤ts.length→(vM (ts.take k) p).length=10
 | 0,_=>rfl
 | k+1,hk=>by
  rw[Ik (am (by omega))];split
  · exact kW (yH k (by omega)) (vD _)
  · exact yH k (by omega)
theorem Yl{ts:List T3}{p:P3}(hI:∀t∈ts,IT t):∀k,k≤ts.length→Fc (602+k) (vM (ts.take k) p)
 | 0,_=>asK.mono (by omega)
 | k+1,hk=>by
  rw[Ik (am (by omega))];split
  · haveI:=hI _ (List.getElem_mem (by omega:k<ts.length))
    exact Ms (Yl hI k (by omega)) (ajr.mono (by show 602≤602+k;omega))
  · exact (Yl hI k (by omega)).mono (by omega)
theorem asL{t:T3}[IT t]:dL prog 117 [tr t] (qV (qOf t)):=by
 intro w;refine⟨amP,?_⟩;have m:=Mem.refl w
 go_enter func117,ntmps117
 refine eC 12 [2,0] m ?_;simp only[↓aD,ahE,dQ];intro g1 g2 g3;intro u m;refine mW m rfl rfl (atq (t:=t)) 1 [0] ?_;simp only[↓aD,acm];intro g4;intro u m;refine Cq (n:=8) m 0 rfl rfl rfl rfl rfl Iv ?_;clear m;intro u m;simp only[zF,zG] at m;refine aS 4 [0] m ?_;simp only[↓aD];intro u m;refine aQ rfl (vN (m.b 0 rfl) adg Iv rfl) ?_;simp only[zz];refine aS 1 [0] m ?_;simp only[↓aD,ahJ,aa];intro u m;refine aC (abC rfl rfl) (aS 1 [0] m ?_);simp only[↓aD];intro u m;refine bG rfl (fun hc1=>?_) (fun hc1=>?_)
 · skip
   refine aW 1 [] m ?_;simp only[↓aD];intro u m;rw[zq0] at m;refine cP 1 [0] m ?_;simp only[↓aD];intro u m;refine aQ rfl (vN (m.b 1 rfl) xB kG (by first | rw[vD] | rfl)) ?_;simp only[zz];refine Cq (n:=20) m 2 rfl rfl rfl rfl rfl kG ?_;clear m;intro u m;simp only[zF,zG] at m;refine aS 2 [] m ?_;simp only[↓aD];intro u m;refine aR rfl ⟨_,rfl,(vN (m.b 2 rfl) xB kG (by first | rw[vD] | rfl))⟩ ?_;try simp only[zD,zE]
   exact⟨_,rfl,m.ext,by rw[←acU,aeg hc1.2.2.2.2.2.2.1 hc1.2.2.2.2.2.2.2,aeg hc1.1 hc1.2.1,aeg hc1.2.2.1 hc1.2.2.2.1,aeg hc1.2.2.2.2.1 hc1.2.2.2.2.2.1];rfl⟩
 · skip
   refine aW 3 [0] m ?_;simp only[↓aD];intro u m;refine mW m rfl rfl (pT (n:=2) (by constructor <;> decide)) 4 [0] ?_;simp only[↓aD,mR,fC,aa];intro g5;intro u m;rw[zq0] at m;refine cP 1 [0] m ?_;simp only[↓aD];intro u m;refine aC fO ?_;simp only[zz,fk,bi,ck];replace m:=m.pull 1 rfl;simp only[dS,dT,zF,zG] at m;replace m:=m.pull 1 rfl;simp only[dS,dT,zF,zG] at m;replace m:=m.pull 2 rfl;simp only[dS,dT,zF,zG] at m;replace m:=m.pack3;refine lZ m 0 aga rfl rfl (fun m=>ajq (J:=fun n=>bI g3 (qC (qF t.normal.x t.normal.y t.normal.z (0-t.normal.x*t.a.x-t.normal.y*t.a.y-t.normal.z*t.a.z) n)) 97) m 0 rfl (fun n u hn mu=>asJ (k:=300) mu hn amr (by decide))) ?_;clear m;rintro v i u m ⟨rfl,rfl⟩;simp only[zF,zG] at m;simp only[zz];replace m:=m.unpack3;rw[ar1,acU] at m;refine aS 3 [0] m ?_;simp only[↓aD];intro u m;refine aQ rfl (vN (m.b 0 rfl) xB kG (by first | rw[vD] | rfl)) ?_;simp only[zz];refine Cq (n:=20) m 3 rfl rfl rfl (by rw[vD]) rfl kG ?_;clear m;intro u m;simp only[zF,zG] at m;refine aS 2 [] m ?_;simp only[↓aD];intro u m;exact aR rfl ⟨_,rfl,(vN (m.b 3 rfl) xB kG (by first | rw[vD] | rfl))⟩ (⟨_,rfl,m.ext,rfl⟩)
theorem asM{w0 w:aj}{K:It}{g1 g4 g5 n:Nat}{q x:List Int}{k:Nat}(m:Mem w0 w [bI g5 (wC (atS q x n)) 95,bI g4 (qC x) 168,bI g1 (qC q) 97,K])(hn:n<10)(hq:Fc k q)(hl:q.length=10)(hx:Fc 64 x)(hxl:x.length=4)(hk:k≤900000):yQ prog 120 [.int .i64 (n:Int),.int .i64 (eI n:Int),.int .i64 (eJ n:Int),.pointer (some ⟨g5,0,none⟩),.pointer (some ⟨g1,0,none⟩),.pointer (some ⟨g4,0,none⟩)] w fun _ w'=>Mem w0 w' [bI g5 (wC (atS q x (n+1))) 95,bI g4 (qC x) 168,bI g1 (qC q) 97,K]:=by
 refine⟨amR,?_⟩;have hi:=ahz hn;have hj:=ahA hn;have hx1:x[eI n]? = some (x.getD (eI n) 0):=by rw[ie,am (by omega:eI n<x.length)];rfl
 have hx2:x[eJ n]? = some (x.getD (eJ n) 0):=by rw[ie,am (by omega:eJ n<x.length)];rfl
 have hq1:=Xd hl hn;have hp1:Bd 128 (x.getD (eI n) 0*x.getD (eJ n) 0):=acf hx hxl hn;have hs1:=acg hq hl hx hxl n (by omega);have hm1:=(hq.at hq1).mul hp1
 go_enter func120,ntmps120
 refine g0 ?_;refine dA m 13 aB (by kernel_rfl) ?_;simp only[zy];refine ql rfl (fun u m=>(show fL _ _ _ _ (W (atS q x n)) from (m.b 0 rfl).lies cL aP rfl rfl)) ?_;simp only[zz];refine aJ aH ?_;simp only[zz];refine aJ (aI Kv aP rfl rfl (by omega) (by omega) (mN (ai _))) ?_;simp only[zz];refine ql rfl (fun u m=>(show fL _ _ _ _ (W (q.getD n 0)) from (Bg (m.b 2 rfl) hq1).lies cL aP)) ?_;simp only[zz];refine aJ aH ?_;simp only[zz];refine aJ (aI underlying168 aP rfl rfl (by omega) (by omega) (mN (ai _))) ?_;simp only[zz];refine ql rfl (fun u m=>(show fL _ _ _ _ (W (x.getD (eI n) 0)) from (Bg (m.b 1 rfl) hx1).lies cL aP)) ?_;simp only[zz];refine aJ aH ?_;simp only[zz];refine aJ (aI underlying168 aP rfl rfl (by omega) (by omega) (mN (ai _))) ?_;simp only[zz];refine ql rfl (fun u m=>(show fL _ _ _ _ (W (x.getD (eJ n) 0)) from (Bg (m.b 1 rfl) hx2).lies cL aP)) ?_;simp only[zz];refine eR rfl rfl (sH ((hx.at hx1).mono (by omega)) ((hx.at hx2).mono (by omega))) ?_;simp only[zz];refine eR rfl rfl (sH ((hq.at hq1).mono (by omega)) (hp1.mono (by omega))) ?_;simp only[zz];refine eR rfl rfl (Us (hs1.mono (by omega)) (hm1.mono (by omega))) (bD ?_);clear m;intro u m;simp only[zz];refine bR m 0 rfl rfl rfl aP (by simp[wC]) rfl ?_;clear m;intro u m;simp only[zF,zG] at m;rw[aau (by rfl)] at m;exact aK (Sx rfl (⟨_,rfl,m⟩))
theorem asN{q:List Int}{p:P3}{k:Nat}[I3 p](hq:Fc k q)(hl:q.length=10)(hk:k≤900000):dL prog 60 [qV q,pt p] (W (qAt q p)):=by
 intro w;refine⟨ark,?_⟩;have m:=Mem.refl w
 go_enter func60,ntmps60
 refine eC 7 [0] m ?_;simp only[↓aD,mR];intro g1 g2 g3;intro u m;refine eD 12 [0,1,2,3,4,5,6,7,8,9,10] [⟨11,5,168,[.bool false,.string ⟨#[]⟩,.bool false,.string ⟨#[]⟩,.bool false,.string ⟨#[]⟩,.bool false,.string ⟨#[]⟩]⟩] aB (by kernel_rfl) (al1 ⟨_,_,_,rfl,by kernel_rfl,_,Yz,rfl⟩) (ol:=?_) ?hol ?_
 case hol=>simp only[zw,zQ,zR];try rfl
 intro u e;replace m:=m.ext' e;clear e;refine iR (aT (c:=0) fJ rfl aX rfl rfl) ?_;simp only[zz];refine eB rfl (fun u e=>(((m.ext' e).b 1 rfl).lies1 bE rfl)) ?_;simp only[zz];refine eO rfl rfl (pT Iw.h) (iR (aT (c:=0) fJ rfl aX rfl rfl) ?_);simp only[zz];refine eB rfl (fun u e=>(((m.ext' e).b 1 rfl).lies1 bE rfl)) ?_;simp only[zz];refine eO rfl rfl (pT Iw.h) (iR (aT (c:=0) fJ rfl aX rfl rfl) ?_);simp only[zz];refine eB rfl (fun u e=>(((m.ext' e).b 1 rfl).lies1 bE rfl)) ?_;simp only[zz];refine eO rfl rfl (pT Iw.h) ?_;simp only[zz];refine eO rfl rfl (pT (n:=1) (by constructor <;> decide)) (iR (De rfl rfl rfl rfl) (yM ?_));simp only[zz];refine mf1 m ?_;clear m;intro g4 u m;simp only[zJ,zK,zF,zG];refine bR m 0 rfl rfl rfl aen (iS rfl) rfl ?_;clear m;intro u m;simp only[zy,zx,cA,zF,zG,aa] at m;refine aK (cP 5 [] m ?_);simp only[↓aD,mR];intro g5;intro u m;rw[zw0] at m;refine cP 1 [0] m ?_;simp only[↓aD];intro u m;refine aC fO ?_;simp only[zz,fk,bi,ck];replace m:=m.pull 4 rfl;simp only[dS,dT,zF,zG] at m;replace m:=m.pull 2 rfl;simp only[dS,dT,zF,zG] at m;replace m:=m.pull 2 rfl;simp only[dS,dT,zF,zG] at m;replace m:=m.pack3;refine lZ m 0 aga rfl rfl (fun m=>ajq (J:=fun n=>bI g5 (wC (atS q [p.x,p.y,p.z,1] n)) 95) m 0 rfl (fun n u hn mu=>asM mu hn hq hl (bd4 inferInstance) rfl hk)) ?_;clear m;rintro v i u m ⟨rfl,rfl⟩;simp only[zF,zG] at m;simp only[zz];replace m:=m.unpack3;rw[ahC hl] at m;refine aS 7 [0,3] m ?_;simp only[↓aD,fC,aa];intro u m;exact aR rfl ⟨_,rfl,((m.b 3 rfl).full cL aP)⟩ (⟨_,rfl,m.ext,rfl⟩)
theorem ams{t:T3}{x:P3}:(decide (t.a.x=x.x∧t.a.y=x.y∧t.a.z=x.z)||decide (t.b.x=x.x∧t.b.y=x.y∧t.b.z=x.z)||decide (t.c.x=x.x∧t.c.y=x.y∧t.c.z=x.z))=t.has x:=by
 have e:∀p q:P3,(p.x=q.x∧p.y=q.y∧p.z=q.z)↔q=p:=fun p q=>⟨fun h=>(P3.eq h.1 h.2.1 h.2.2).symm,fun h=>by rw[h];exact⟨rfl,rfl,rfl⟩⟩
 rw[ep,eU];simp only[dm,decide_eq_true_eq,e,or_assoc]
theorem aqt{ts:List T3}{N cap:Nat}{A:Option Addr}{p:P3}(w:aj)(hT:bP w A N ts)(hN:N≤800000):dJ prog 58 [.slice A N cap,pt p] w (fun v _=>v=qV (vM ts p)):=by
 refine⟨ari,?_⟩;have m:=Mem.refl w;have htl:=hT.len
 go_enter func58,ntmps58
 refine eC 17 [0] m ?_;simp only[↓aD,ahE,iU];intro g1 g2 g3;intro u m;refine cE [10] [7,11,12,13,14,15,16,17,18,19,20,21,22,23,24,25,26,27,28,29,30,31,32,33,34] (fun n vs wl=>∃(k:Nat),vs=[.int .i64 (k:Int)]∧Mem w wl [bI g3 (qC (vM (ts.take k) p)) 97,bI g2 [.bool false,.string ⟨#[]⟩,.bool false,.string ⟨#[]⟩,.bool false,.string ⟨#[]⟩,.bool false,.string ⟨#[]⟩,.bool false,.string ⟨#[]⟩,.bool false,.string ⟨#[]⟩,.bool false,.string ⟨#[]⟩,.bool false,.string ⟨#[]⟩,.bool false,.string ⟨#[]⟩,.bool false,.string ⟨#[]⟩] 97,bI g1 [.int .i64 p.x,.int .i64 p.y,.int .i64 p.z] 30]∧(k≤N)∧(n=N-k)) ?_ ?_
 · rw[show ([.bool false,.string ⟨#[]⟩,.bool false,.string ⟨#[]⟩,.bool false,.string ⟨#[]⟩,.bool false,.string ⟨#[]⟩,.bool false,.string ⟨#[]⟩,.bool false,.string ⟨#[]⟩,.bool false,.string ⟨#[]⟩,.bool false,.string ⟨#[]⟩,.bool false,.string ⟨#[]⟩,.bool false,.string ⟨#[]⟩]:List ah)=qC (vM (ts.take 0) p) from zq0] at m
   apply Exists.intro;simp only[zQ,zR,zD,zE];exact⟨0,rfl,m,br _,rfl⟩
 · intro n vs wr hI u K1 hK1
   clear m;obtain⟨k,rfl,m,hk,hn⟩:=hI;simp only[zu,zF,zG];refine aW 5 [0,0] m ?_;simp only[↓aD];intro u m;refine bG rfl (fun hc1=>?_) (fun hc1=>?_)
   · skip
     obtain⟨t,ht,hti,a,rfl,hrow⟩:=hT.get (i:=k) (by omega);have hql:=yH (ts:=ts) (p:=p) k (by omega);have hqb:=Yl (p:=p) hT.it k (by omega);refine aW 5 [0] m ?_;simp only[↓aD];intro u m;refine aC (aF cC aL rfl rfl (by omega) (by omega) (bZ (ai _))) ?_;simp only[zz];refine aQ rfl ((hrow.ext m.ext).lies bV aL) ?_;simp only[zz];refine aS 8 [0,0,3,0] m ?_;simp only[↓aD,kX,dQ,bM,aO,aa,ad,ag];intro g4;refine⟨by omega,?_⟩;intro u m;refine aC (bW rfl rfl) (aS 1 [0] m ?_);simp only[↓aD];intro u m;refine bC rfl (fun hb=>aI cH aA rfl rfl (by decide) (by decide) rfl) ?_;simp only[zz];refine bS rfl (fun hb=>aU (aV hb rfl) ((m.b 0 rfl).lies aG aA rfl rfl)) ?_;simp only[zz,zy,ar,aa,ag,ad];refine bS rfl (fun hb=>aU rfl ((m.b 3 rfl).full aG aA)) (bC rfl (fun hb=>bW (aV hb rfl) (aV hb rfl)) (aC (cF rfl rfl rfl) ?_));refine aS 1 [0] m ?_;simp only[↓aD];intro u m;refine bC rfl (fun hb=>aI cH aA rfl rfl (by decide) (by decide) rfl) ?_;simp only[zz];refine bS rfl (fun hb=>aU (aV hb rfl) ((m.b 0 rfl).lies aG aA rfl rfl)) ?_;simp only[zz,zy,ar,aa,ag,ad];refine bS rfl (fun hb=>aU rfl ((m.b 3 rfl).full aG aA)) (bC rfl (fun hb=>bW (aV hb rfl) (aV hb rfl)) (aC (cF rfl rfl rfl) ?_));refine aS 1 [0] m ?_;simp only[↓aD];intro u m;refine cN rfl (fun hc2=>?_) (fun hc2=>?_)
     · skip
       rw[ams] at hc2;have hst:=Ik (p:=p) ht;rw[if_pos hc2] at hst;refine dA m 4 aB (by kernel_rfl) ?_;simp only[zy];refine ql rfl (fun u m=>(vN (m.b 1 rfl) xB kG (by first | rw[hqN] | rw[yH _ (by omega)]))) ?_;simp only[zz];refine ql rfl (fun u m=>((m.b 0 rfl).full bV aL)) ?_;simp only[zz];refine eR rfl rfl (asL (t:=t)) ?_;simp only[zz];refine eR rfl rfl (acT hql (vD t) hqb (ajr.mono (by omega)) (by omega)) (bD ?_);clear m;intro u m;simp only[zz];refine Cq (n:=20) m 1 rfl rfl rfl (by rw[kW hql (vD t)]) (by rw[Bf,hql]) kG ?_;clear m;intro u m;simp only[zF,zG] at m;refine aK (cP 5 [0] m ?_);simp only[↓aD];refine⟨by omega,?_⟩;intro u m;rw[←hst] at m;refine hK1 (N-(k+1)) _ _ ?_ ?_ ?_
       · omega
       · simp only[zz,zv]
       · simp only[zQ,zR,zD,zE]
         exact⟨k+1,rfl,(m.sel [false,true,true,true]),by omega,rfl⟩
     · skip
       rw[ams] at hc2;have hst:=Ik (p:=p) ht;rw[if_neg (by rw[hc2];exact et)] at hst;refine aW 6 [0] m ?_;simp only[↓aD];refine⟨by omega,?_⟩;intro u m;rw[←hst] at m;refine hK1 (N-(k+1)) _ _ ?_ ?_ ?_
       · omega
       · simp only[zz,zv]
       · simp only[zQ,zR,zD,zE]
         exact⟨k+1,rfl,(m.sel [false,true,true,true]),by omega,rfl⟩
   · skip
     obtain rfl:N=k:=by omega
     rw[show ts.take N=ts from a_ (by omega)] at m;have hqN:(vM ts p).length=10:=by have:=yH (ts:=ts) (p:=p) N (by omega);rwa [a_ (by omega)] at this
     refine aW 3 [0] m ?_;simp only[↓aD];intro u m;refine aQ rfl (vN (m.b 0 rfl) xB kG (by first | rw[hqN] | rw[yH _ (by omega)])) ?_;simp only[zz];refine Cq (n:=20) m 1 rfl rfl rfl (by rw[hqN]) rfl kG ?_;clear m;intro u m;simp only[zF,zG] at m;refine aS 2 [] m ?_;simp only[↓aD];intro u m;exact aR rfl ⟨_,rfl,(vN (m.b 1 rfl) xB kG (by rw[hqN]))⟩ (⟨_,rfl,m.ext,rfl⟩)
end Go.Proofs.YtfekpcimgncioaaGreatDoor
set_option linter.unusedSectionVars false
namespace Go.Lith
open Go
theorem acV{P:bh}{w:aj}{at_:Addr}{u:an}{k:Addr}{v:ah}{b:Bool}{r:aj × List Addr}(h:w.viewStore P at_ u k v b=.ok r):r.1.drawn=w.drawn:=by
 unfold World.viewStore at h;simp only[bind,Except.bind,pure,Except.pure,throw] at h
 repeat' split at h
 all_goals first | (cases h;done) | (cases h;rfl) | skip
theorem afI{P:bh}{w:aj}{x:Addr}{v:ah}{b:Bool}{r:aj × List Addr}(h:w.farStore P x v b=.ok r):r.1.drawn=w.drawn:=by
 unfold World.farStore at h;split at h
 · split at h
   · rename_i hv
     cases h;exact acV hv
   · cases h
 · cases h
theorem Ym(w:aj)(x:Addr)(n:Nat):(w.freeze x n).drawn=w.drawn:=by
 unfold World.freeze;split <;> rfl
theorem afJ{α:Type}(s:Ask α):∀w:aj,w.drawn≤(w.ask s).2.drawn:=by
 induction s with
 | done a=>intro w;exact av _
 | ask what range k ih =>
  intro w;simp only[World.ask];split
  · exact ih _ w
  · exact az (Nat.le_succ _) (ih _ { w with drawn:=w.drawn+1 })
theorem afK(w:aj)(c:Sys):w.drawn≤(w.sys c).2.drawn:=by
 have h:=afJ (Kernel.perform c w.os) w;unfold World.sys;split
 · exact av _
 · rename_i e
   rw[e] at h;exact h
def okR{α:Type}(d:Nat):Result α→Prop
 | .ok _ w=>d≤w.drawn
 | .halt _ w=>d≤w.drawn
theorem okR.mono{α:Type}{d e:Nat}(h:e≤d):∀{r:Result α},okR d r→okR e r
 | .ok _ _,k=>az h k
 | .halt _ _,k=>az h k
theorem Nh{P:bh}{α:Type}(s:Sem α):∀w:aj,okR w.drawn (s.run P w):=by
 induction s with
 | pure _=>intro w;exact av _
 | load m x k ih =>
  intro w;simp only[Sem.run];split
  · exact ih _ _
  · split
    · exact ih _ _
    · exact av _
 | store m x v k ih =>
  intro w;have key:okR w.drawn (match w.cell? x with
   | some _=>if w.frozen? x then Result.halt (.unsupported (.unsafePointer "a write to bytes that a string shares")) w else k.run P (w.setCell x v)
   | none=>match w.farStore P x v (m == Mode.atomic) with
    | .ok (w,_)=>k.run P w
    | .error h=>.halt h w):=by
   split
   · split
     · exact av _
     · exact ih (w.setCell x v)
   · split
     · rename_i hf
       exact okR.mono (Nat.le_of_eq (afI hf).symm) (ih _)
     · exact av _
  cases v <;> simp only[Sem.run] <;> first | exact av _ | exact key
 | new o k ih=>intro w;exact ih _ { w with heap:=w.heap.push o }
 | shape r k ih=>intro w;exact ih _ _
 | freeze x n k ih=>intro w;exact okR.mono (Nat.le_of_eq (Ym w x n).symm) (ih _)
 | frozen x k ih=>intro w;exact ih _ _
 | getObj r k ih =>
  intro w;simp only[Sem.run];split
  · exact av _
  · exact ih _ _
  · exact av _
 | setObj r o k ih =>
  intro w;simp only[Sem.run];split
  · exact av _
  · exact ih { w with heap:=w.heap.setIfInBounds r o }
  · exact av _
 | choose q k ih =>
  intro w;simp only[Sem.run];split
  · exact ih _ _
  · exact okR.mono (Nat.le_succ _) (ih _ { w with drawn:=w.drawn+1 })
 | sys c k ih=>intro w;exact okR.mono (afK w c) (ih _ _)
 | program k ih=>intro w;exact ih _ _
 | mark m k ih=>intro w;exact ih _
 | halt x=>intro w;exact av _
theorem aa7{P:bh}{α:Type}{s:Sem α}{w:aj}{es:Array Event}{r:Result α}{es':Array Event}(h:s.runT P w es=(r,es')):okR w.drawn r:=by
 have:=Sem.runT_fst P s w es;rw[h] at this;rw[show r=s.run P w from this];exact Nh s w
theorem iF{P:bh}{α:Type}{s:Sem α}{w:aj}{r:Result α}(h:s.run P w=r):okR w.drawn r:=h▸Nh s w
theorem nX{P:bh}{α:Type}{s:Sem α}{w:aj}{es:Array Event}{r:Result α}(h:(s.runT P w es).1=r):okR w.drawn r:=by
 rw[Sem.runT_fst] at h;exact iF h
def Yn(d:Nat):GStep→Prop
 | .go _ w _ | .comm _ _ _ _ w _ | .spawn _ _ w _ | .count _ w _ | .timer _ _ w _ | .alone _ _ w _ | .newcoro _ _ _ w _ | .coroswitch _ _ _ w _ | .collect _ w _ | .watch _ w _=>d≤w.drawn
 | .ended _ _ _=>True
theorem wQ{d:Nat}{es:Array Event}{g:GStep}(h:Yn d g):Yn d (g.after es):=by cases g <;> exact h
theorem alz{α:Type}{d:Nat}{x:GStep}{f:α→GStep}(h1:Yn d x)(h2:∀a,Yn d (f a)):∀o:Option α,Yn d (o.elim x f)
 | none=>h1
 | some a=>h2 a
section
variable {P:bh} {d:Nat} {w:aj} (hw:d≤w.drawn)
include hw
theorem acW(fd:Nat)(t:ByteArray)(o:Outcome):Yn d (endWith w fd t o):=by
 unfold endWith;dsimp only
 repeat' split
 all_goals trivial
theorem Rn(fr:Frame)(cs:List Frame)(dy:Option Dying)(m:String):Yn d (endFatal P fr cs dy m w):=by
 unfold endFatal;dsimp only;split
 · rename_i h
   exact az hw (iF h)
 · trivial
 · trivial
theorem Mb(fr:Frame)(v:ah):Yn d (endPrinting P fr v w):=by
 unfold endPrinting;dsimp only;split
 · exact hw
 · trivial
theorem Kr(main:Bool)(fr:Frame)(cs:List Frame)(dy:Option Dying)(v:ah):Yn d (doReturn P main fr cs dy v w):=by
 unfold doReturn
 repeat' (first | exact hw | trivial | split)
theorem aa8(fr:Frame)(cs:List Frame)(dy:Option Dying)(g:Nat):Yn d (early P fr cs dy g w):=by
 have n:∀w:aj,d≤w.drawn→Yn d (match w.heap[g]? with
  | some (.pending c elem)=>GStep.go { frame:=fr,callers:=cs,status:=.running,dying:=dy } { w with heap:=w.heap.setIfInBounds g (.cells c elem) }
  | _=>.ended (.stuck "early: the variable does not wait" (fr.pos P)) w):=fun w hw=>by
  split
  · exact hw
  · trivial
 unfold early;dsimp only
 repeat' (first | exact n _ hw | exact hw | trivial | exact az hw (iF (r:=.ok _ _) (by assumption)) | (rename_i w1 h1 x1 c1 e1 h2;exact az hw (iF h1)) | split)
theorem Ro(b:Bool)(fr:Frame)(cs:List Frame)(dy:Option Dying)(s:Sem Next):Yn d (stepG.apply P b fr cs dy s w):=by
 unfold stepG.apply;dsimp only;have hr:okR w.drawn (if b=true then s.runT P w #[] else (s.run P w,#[])).1:=by
  split
  · rw[Sem.runT_fst];exact Nh s w
  · exact Nh s w
 generalize (if b=true then s.runT P w #[] else (s.run P w,#[]))=r at hr;obtain⟨r,es⟩:=r;refine wQ ?_;cases r with
 | ok n u =>
  have hu:d≤u.drawn:=az hw hr;cases n
  all_goals dsimp only
  all_goals repeat' (first | exact hu | trivial | exact throw_ok hu _ _ | split)
 | halt x u =>
  have hu:d≤u.drawn:=az hw hr;cases x
  all_goals dsimp only
  all_goals repeat' (first | exact hu | trivial | exact throw_ok hu _ _ | exact Rn hu _ _ _ _ | exact aa8 hu _ _ _ _ | (rename_i e;cases e;done) | (rename_i e;cases e;exact hu) | (rename_i e;cases e;exact Rn hu _ _ _ _) | (rename_i e;cases e;exact aa8 hu _ _ _ _) | split)
theorem alA(b:Bool)(fr:Frame)(cs:List Frame)(dy:Option Dying):Yn d (stepG.oper P b fr cs dy w):=by
 unfold stepG.oper
 repeat' (first | trivial | exact Ro hw _ _ _ _ _ | split)
theorem alB(main b:Bool)(fr:Frame)(cs:List Frame)(dy:Option Dying):Yn d (stepG.exec P main b fr cs dy w):=by
 unfold stepG.exec;dsimp only
 repeat' (first | exact hw | trivial | exact Ro hw _ _ _ _ _ | exact alA hw _ _ _ _ | (with_reducible refine wQ ?_) | exact az hw (nX (r:=.ok _ _) (by assumption)) | exact az hw (nX (r:=.halt _ _) (by assumption)) | exact az hw (iF (r:=.ok _ _) (by assumption)) | exact Kr (az hw (nX (r:=.ok _ _) (by assumption))) _ _ _ _ _ | exact Ro (az hw (nX (r:=.ok _ _) (by assumption))) _ _ _ _ _ | refine alz ?_ (fun _=>?_) _ | split)
theorem aa9(fr:Frame)(cs:List Frame)(dy:Option Dying)(x:cn):Yn d (callDeferred P fr cs dy x w):=by
 unfold callDeferred;dsimp only
 repeat' (first | exact hw | trivial | (with_reducible refine wQ ?_) | exact az hw (nX (r:=.ok _ _) (by assumption)) | exact az hw (nX (r:=.halt _ _) (by assumption)) | exact throw_ok (az hw (nX (r:=.halt _ _) (by assumption))) _ _ | exact Rn (az hw (nX (r:=.halt _ _) (by assumption))) _ _ _ _ | split)
theorem afM(main:Bool)(fr:Frame)(cs:List Frame)(dy:Option Dying):Yn d (unwind P main fr cs dy w):=by
 unfold unwind;dsimp only
 repeat' (first | exact hw | trivial | (with_reducible refine wQ ?_) | exact aa9 hw _ _ _ _ | exact Kr hw _ _ _ _ _ | exact Mb hw _ _ | exact az hw (nX (r:=.ok _ _) (by assumption)) | exact az hw (iF (r:=.ok _ _) (by assumption)) | exact Kr (az hw (nX (r:=.ok _ _) (by assumption))) _ _ _ _ _ | split)
theorem acX(fr:Frame)(x:Dying)(f:Fatal):Yn d (writeOn P fr x f w):=by
 unfold writeOn;dsimp only
 repeat' (first | exact hw | trivial | exact az hw (aa7 (r:=.ok _ _) (by assumption)) | exact az hw (aa7 (r:=.halt _ _) (by assumption)) | split)
theorem aqu(fr:Frame)(x:Dying):Yn d (die P fr x w):=by
 unfold die;dsimp only
 repeat' (first | exact hw | trivial | (with_reducible refine wQ ?_) | exact acX hw _ _ _ | exact acW hw _ _ _ | exact az hw (nX (r:=.ok _ _) (by assumption)) | exact az hw (iF (r:=.ok _ _) (by assumption)) | exact Mb (az hw (nX (r:=.halt _ _) (by assumption))) _ _ | split)
theorem ajs(main:Bool)(g:Goroutine)(b:Bool):Yn d (stepG P main g w b):=by
 unfold stepG;dsimp only
 repeat' (first | exact aqu hw _ _ | exact alB hw _ _ _ _ _ | exact afM hw _ _ _ _ | split)
end
def okS(d:Nat):Stepped→Prop
 | .next m=>d≤m.world.drawn
 | _=>True
section
variable {P:bh} {d:Nat} {w:aj} (hw:d≤w.drawn)
include hw
theorem acY{rest:Rest}{cases:Array CommCase}{u:aj}(h:waitingAt rest cases w=some u):d≤u.drawn:=by
 unfold waitingAt at h;split at h
 · split at h
   · cases h;exact hw
   · cases h
 · cases h;exact hw
theorem alC(rest:Rest)(gs:Array Goroutine)(i:Nat)(g:Goroutine)(cases:Array CommCase)(bl:Bool)(sh:CommShape):okS d (communicate P rest gs i g cases bl sh w).1:=by
 unfold communicate;dsimp only
 repeat' (first | exact hw | trivial | exact acY hw (by assumption) | split)
 all_goals dsimp only[okS]
 all_goals first | exact az hw (iF (r:=.ok _ _) (by assumption)) | exact az (az hw (iF (r:=.ok _ _) (by assumption))) (iF (r:=.ok _ _) (by assumption)) | exact az (az hw (iF (r:=.ok _ _) (by assumption))) (iF (r:=.halt _ _) (by assumption))
theorem aeh(gs:Array Goroutine)(rest:Rest):okS d (look P gs rest w):=by
 unfold look;dsimp only
 repeat' (first | exact hw | trivial | split)
 all_goals dsimp only[okS]
 all_goals exact az hw (iF (r:=.ok _ _) (by assumption))
end
theorem ajt{P:bh}(m:Machine)(k:Nat):okS m.world.drawn (serve P m k):=by
 unfold serve;dsimp only
 repeat' (first | exact av _ | trivial | split)
theorem Vl(m:Machine)(k:Nat)(t:Timer)(a b:Nat):m.world.drawn≤(retime m k t a b).2.world.drawn:=by
 unfold retime;dsimp only;split
 · unfold drain
   split <;> exact av _
 · exact av _
theorem aba{m m':Machine}{v:ah}{var:Addr}{f:Nat→Timer→ah × Machine}(hf:∀k t,m.world.drawn≤(f k t).2.world.drawn){m0:Machine}(h:timerOp.named m0 var f=.ok (v,m')):m.world.drawn≤m'.world.drawn:=by
 unfold timerOp.named at h;split at h
 · rename_i k _
   have:=hf k (m0.rest.timers.getD k default);cases hh:f k (m0.rest.timers.getD k default) with
   | mk a b =>
    rw[hh] at h this;cases h;exact this
 · cases h
theorem acZ{m m':Machine}{op:TimerOp}{v:ah}(h:timerOp m op=.ok (v,m')):m.world.drawn≤m'.world.drawn:=by
 unfold timerOp at h;cases op with
 | new t =>
  dsimp only at h
  repeat' (first | (cases h;done) | (cases h;exact av _) | split at h)
 | stop var=>exact aba (fun k t=>Vl m k t _ _) h
 | reset var when period =>
  dsimp only at h;split at h
  · rename_i m1 hm
    have h1:m.world.drawn≤m1.world.drawn:=by
     unfold timerOp.opened at hm
     repeat' (first | (cases hm;done) | (cases hm;exact av _) | split at hm)
    exact aba (fun k t=>az h1 (Vl m1 k t _ _)) h
  · cases h
 | deadline ctx read write when=>cases h;exact av _
theorem aqv(P:bh)(m:Machine)(i:Nat)(b:Bool):okS m.world.drawn (runT P m i b).1:=by
 unfold runT;dsimp only;have h:=ajs (P:=P) (av m.world.drawn) (i == 0) (m.gs.swapAt! i { (default:Goroutine) with status:=.finished }).1 b;generalize stepG P (i == 0) (m.gs.swapAt! i { (default:Goroutine) with status:=.finished }).1 m.world b=s at h;cases s
 all_goals dsimp only
 all_goals repeat' (first | exact h | trivial | exact alC h _ _ _ _ _ _ _ | exact aeh h _ _ | split)
 all_goals exact az h (acZ (by assumption))
def okM(d:Nat):Move→Prop
 | .goroutine m _=>d≤m.world.drawn
 | .machine s _=>okS d s
theorem okS.mono{d e:Nat}(h:e≤d):∀{s:Stepped},okS d s→okS e s
 | .next _,k=>az h k
 | .ended _ _,_=>trivial
theorem Yo{P:bh}{d:Nat}(rs:List Nat)(m:Machine)(hw:d≤m.world.drawn):okM d (match (choose (.sched rs.length)).run P m.world with
 | .halt _ w=>.machine (.ended (.stuck "sched" "") w)
 | .ok k world =>
  if rs.length≤1 then .goroutine { m with world } (rs.getD k 0) else
  match (choose (.extern "sched.slice" 65536)).run P world with
  | .halt _ w=>.machine (.ended (.stuck "sched.slice" "") w)
  | .ok n world=>.goroutine { m with world,rest:={ m.rest with slice:=if n=0 then none else some (rs.getD k 0,n) } } (rs.getD k 0)):=by
 repeat' (first | trivial | split)
 all_goals dsimp only[okM]
 all_goals first | exact az hw (iF (r:=.ok _ _) (by assumption)) | exact az (az hw (iF (r:=.ok _ _) (by assumption))) (iF (r:=.ok _ _) (by assumption))
theorem Rp{P:bh}{d:Nat}{m:Machine}(hw:d≤m.world.drawn):okM d (askOn P m):=by
 unfold askOn;dsimp only;split
 · trivial
 · rename_i k w1 h1
   have hw1:d≤w1.drawn:=az hw (iF h1);split
   · exact okS.mono hw1 (ajt { m with world:=w1 } _)
   · split
     · split
       · exact hw1
       · split
         · exact hw1
         · split <;> trivial
     · split
       · exact Yo _ { m with world:=w1 } hw1
       · split
         · trivial
         · rename_i w2 h2
           exact Yo _ { m with world:=w2 } (az hw1 (iF h2))
         · rename_i w2 h2
           exact az hw1 (iF h2)
         · rename_i w2 h2
           exact Yo _ (({ m with world:=w2 }:Machine).advanceTo _) (az hw1 (iF h2))
theorem aju{P:bh}{d:Nat}{m:Machine}(hw:d≤m.world.drawn):okM d (ask P m):=by
 unfold ask;split
 · split
   · trivial
   · rename_i w1 h1
     have hw1:d≤w1.drawn:=az hw (iF h1);have hl:=aeh (P:=P) hw1 m.gs m.rest;split
     · rename_i m2 h2
       rw[h2] at hl;exact Rp hl
     · rename_i e he
       cases hq:look P m.gs m.rest w1 with
       | next m2=>exact absurd hq (he m2)
       | ended o w2=>trivial
   · rename_i w1 h1 _
     exact Rp (m:={ m with world:=w1 }) (show d≤w1.drawn from az hw (iF (r:=.ok _ _) (by assumption)))
 · exact Rp hw
theorem alD{P:bh}{m:Machine}:okM m.world.drawn (move P m):=by
 unfold move;split
 · split
   · exact av _
   · trivial
 · split
   · split
     · exact av _
     · exact aju (m:={ m with rest:={ m.rest with slice:=none } }) (av _)
   · exact aju (av _)
theorem alE{P:bh}{m m':Machine}(h:step P m=.next m'):m.world.drawn≤m'.world.drawn:=by
 have h1:=alD (P:=P) (m:=m);have h2:okS m.world.drawn (step P m):=by
  unfold step stepT;split
  · rename_i m1 i hm
    rw[hm] at h1;exact okS.mono h1 (aqv P m1 i _)
  · rename_i s ops hm
    rw[hm] at h1;exact h1
 rw[h] at h2;exact h2
theorem abb{P:bh}{m m':Machine}(h:Steps P m m'):m.world.drawn≤m'.world.drawn:=by
 obtain⟨n,hn⟩:=h
 induction n generalizing m with
 | zero=>cases hn;exact av _
 | succ n ih =>
  simp only[runN] at hn;split at hn
  · rename_i m1 h1
    exact az (alE h1) (ih hn)
  · rename_i e he
    cases hq:step P m with
    | next m2=>exact absurd hq (he m2)
    | ended o w2=>rw[hq] at hn;cases hn
theorem abc{P:bh}{f:FuncId}{args:Array ah}{w:aj}{R:Ending→aj→Prop}(hR:∀w',¬R .outgrown w')(h:Calls P f args w R):Calls P f args w fun e w'=>R e w'∧w.drawn≤w'.drawn:=fun cs=>by
 obtain⟨e,w',fr,hr,hc,hf,hl⟩:=h cs;refine⟨e,w',fr,⟨hr,?_⟩,hc,hf,hl⟩;cases e with
 | returned v=>exact abb hc
 | panicked c=>exact abb hc
 | outgrown=>exact absurd hr (hR w')
theorem dL.g{P:bh}{f:FuncId}{args:List ah}{v:ah}(h:dL P f args v):sE P f args v:=fun w =>
 ⟨(h w).1,(abc (fun _ ⟨_,e,_⟩=>(by cases e)) (h w).2).mono fun _ _ ⟨⟨u,he,hX,hv⟩,hd⟩=>⟨u,he,⟨hX,hd⟩,hv⟩⟩
end Go.Lith
namespace Go.Proofs.YtfekpcimgncioaaGreatDoor
open Go.Proofs.Tryz
open Go.RowKit Go.Lith
set_option maxRecDepth 100000
attribute [local irreducible] au wpQuiet fR bO cO Code.wp
attribute [local congr] pL fX fY fZ gA gB kI gC gD gE gF gG gH gI gJ gK gL gM eS eT gN gQ gS gT gU kK dC dD cR dB gR kJ eV eW eX gW gX kL
def sD(c:lE):List ah:=[.int .i64 c.u.x,.int .i64 c.u.y,.int .i64 c.u.z,.int .i64 c.v.x,.int .i64 c.v.y,.int .i64 c.v.z,.bool (fP c.c),.string (jX c.c)]
def Yp(c:lE):ah:=.agg (sD c).toArray
theorem eQ:(∀c,sD c=[.int .i64 c.u.x,.int .i64 c.u.y,.int .i64 c.u.z,.int .i64 c.v.x,.int .i64 c.v.y,.int .i64 c.v.z,.bool (fP c.c),.string (jX c.c)])∧(∀c,(Yp c).cells.toList=[.int .i64 c.u.x,.int .i64 c.u.y,.int .i64 c.u.z,.int .i64 c.v.x,.int .i64 c.v.y,.int .i64 c.v.z,.bool (fP c.c),.string (jX c.c)])∧(∀c f,vvA (Yp c) f=f [.int .i64 c.u.x,.int .i64 c.u.y,.int .i64 c.u.z,.int .i64 c.v.x,.int .i64 c.v.y,.int .i64 c.v.z,.bool (fP c.c),.string (jX c.c)]):=⟨fun _=>rfl,fun _=>rfl,fun _ _=>rfl⟩
theorem alF(c:lE):∀v∈sD c,v.oneCell'=true:=fun v h=>by
 simp only[sD,ao,bz,or_false] at h;rcases h with rfl | rfl | rfl | rfl | rfl | rfl | rfl | rfl <;> rfl
def ajv(a b:lE):Int:=if aY (a.c-b.c)=0 then if pZ a.u b.u=0 then pZ a.v b.v else pZ a.u b.u else aY (a.c-b.c)
theorem Il(a b:lE):(ajv a b<0)↔a.Lt b:=by
 unfold ajv lE.Lt;have h0:aY (a.c-b.c)=0↔a.c=b.c:=by rw[cD];omega
 have h1:aY (a.c-b.c)<0↔a.c<b.c:=by
  have:=Gl (n:=a.c-b.c);omega
 by_cases h:a.c=b.c
 · rw[if_pos (h0.2 h)]
   by_cases g:a.u=b.u
   · rw[if_pos (nA.2 g),lP]
     simp[h,g,P3.lt_irrefl]
   · rw[if_neg fun k=>g (nA.1 k),lP]
     simp[h,g]
 · rw[if_neg fun k=>h (h0.1 k),h1]
   simp[h]
abbrev ajw:Type:={ c:lE // Bd 900000 c.c }
instance:Inhabited ajw:=⟨⟨⟨⟨0,0,0⟩,⟨0,0,0⟩,0⟩,Mm _⟩⟩
theorem ajx:Go.Sort.SWO (Go.Proofs.ltOf fun a b:ajw=>ajv a.1 b.1) where
 irrefl a:=by simp only[Go.Proofs.ltOf,decide_eq_false_iff_not,Il];exact lE.lt_irrefl a.1
 trans x y z h1 h2:=by
  simp only[Go.Proofs.ltOf,decide_eq_true_eq,Il] at *
  exact lE.lt_trans h1 h2
 ntrans x y z h1 h2:=by
  simp only[Go.Proofs.ltOf,decide_eq_false_iff_not,Il] at *
  intro h;rcases lE.lt_tri y.1 x.1 with k | k | k
  · exact h2 (lE.lt_trans k h)
  · exact h2 (by rw[k];exact h)
  · exact h1 k
theorem alG{p q:lE}(hp:Bd 900000 p.c)(hq:Bd 900000 q.c):sE prog 64 [Yp p,Yp q] (.int .i64 (ajv p q)):=by
 intro w;refine⟨aro,?_⟩;have m:=iJ.refl w
 go_enter func64,ntmps64
 refine bA fun K1 k1=>ap (oF m rfl ?_);clear m;intro g1 u m;simp only[zz];refine oF m rfl ?_;clear m;intro g2 u m;refine aC aM (aK (k1 _ _ ?_));try clear k1 K1
 refine bA fun K2 k2=>?_;simp only[zz];refine Oj m 15 aB (by kernel_rfl) ?_;simp only[zy];refine aJ (aT (c:=1) wZ rfl aP rfl rfl) ?_;simp only[zz];refine Rt rfl (fun u m=>((m.b 1 rfl).lies cL aP rfl rfl)) ?_;simp only[zz,zy,ar,aa,ag,ad];refine aJ (aT (c:=1) wZ rfl aP rfl rfl) ?_;simp only[zz];refine Rt rfl (fun u m=>((m.b 0 rfl).lies cL aP rfl rfl)) ?_;simp only[zz,zy,ar,aa,ag,ad];refine Gp rfl rfl ((asd (a:=p.c) (b:=q.c) hp hq).g) (aJ (aT (c:=2) wZ rfl aA rfl rfl) ?_);simp only[zz];refine Rt rfl (fun u m=>((m.b 1 rfl).lies aG aA rfl rfl)) ?_;simp only[zz,zy,ar,aa,ag,ad];refine aJ (aT (c:=2) wZ rfl aA rfl rfl) ?_;simp only[zz];refine Rt rfl (fun u m=>((m.b 0 rfl).lies aG aA rfl rfl)) ?_;simp only[zz,zy,ar,aa,ag,ad];refine Gp rfl rfl (Qu (p:=p.u) (q:=q.u)) (aJ (aT (c:=2) wZ rfl aA rfl rfl) ?_);simp only[zz];refine Rt rfl (fun u m=>((m.b 1 rfl).lies aG aA rfl rfl)) ?_;simp only[zz,zy,ar,aa,ag,ad];refine aJ (aT (c:=2) wZ rfl aA rfl rfl) ?_;simp only[zz];refine Rt rfl (fun u m=>((m.b 0 rfl).lies aG aA rfl rfl)) ?_;simp only[zz,zy,ar,aa,ag,ad];refine Gp rfl rfl (Qu (p:=p.v) (q:=q.v)) (bD ?_);clear m;intro u m;simp only[zz];refine aaB m eA (z:=.int .i64 0) (by kernel_rfl) rfl rfl rfl rfl rfl rfl rfl ?_;clear m;intro g3 u m;simp only[zz];refine Xm m rfl rfl (aih _ (m.b 0 rfl)) ?_;clear m;intro u m;refine aC aM (aK (k2 _ _ ?_));try clear k2 K2
 refine wp_ret ?_;simp only[zz];try simp only[cq,Exit.then,if_true]
 refine aR rfl rfl ?_;try simp only[zD,zE]
 exact⟨_,rfl,m.ext,rfl⟩
theorem alH{w0 w:aj}{is:List It}{A:Option Addr}{n cap:Nat}{xs:List lE}(hb:∀c∈xs,Bd 900000 c.c)(m:Mem w0 w is)(k:Nat)(hi:is[k]? = some (oI 112 8 A n cap (xs.flatMap sD)))(hsz:n<4611686018427387904) :
 Calls prog 123 [.slice A n cap,.func (.func 64) #[] #[]].toArray w fun e w'=>∃v i,e=.returned v∧Mem w0 w' (is.set k i)∧(v=.tuple #[]∧∃ys:List lE,i=oI 112 8 A n cap (ys.flatMap sD)∧ys.Perm xs∧ys.Pairwise fun a b=>¬b.Lt a):=by
 have e0:(xs.attachWith (fun c=>Bd 900000 c.c) hb).map (·.1)=xs:=List.attachWith_map_subtype_val ..;have e1:∀L:List ajw,L.flatMap (fun c=>sD c.1)=(L.map (·.1)).flatMap sD:=fun L=>by rw[List.flatMap_map]
 have hi':is[k]? = some (oI 112 8 A n cap ((xs.attachWith (fun c=>Bd 900000 c.c) hb).flatMap fun c=>sD c.1)):=by rw[e1,e0];exact hi
 refine (Au (α:=ajw) (enc:=fun c=>sD c.1) Tryz.sort123 (fun w=>oZ Ga w) (fun w=>eH qI w) (fun _=>rfl) (by decide) (fun x=>alF x.1) (fun a b=>ajv a.1 b.1) ajx (fun x y=>alG x.2 y.2) m k hi' hsz).mono ?_;rintro e w' ⟨v,i,h1,h2,h3,ys,h4,h5,h6⟩;refine⟨v,i,h1,h2,h3,ys.map (·.1),by rw[h4,e1],?_,?_⟩
 · have:=h5.map (fun c:ajw=>c.1)
   rwa [e0] at this
 · rw[List.pairwise_map]
   exact h6.imp fun h=>by simpa[Go.Proofs.ltOf,Il] using h
theorem aqw{g50 g90 ga gf N cap ca cf:Nat}{A:Option Addr}{ea ef:Array b_}{D:List (P3 × Hd)}{F:List (P3 × Bool)}{ts:List T3}{c:lE}[I3 c.u][I3 c.v](w:aj)(hB50:fK w g50 [.pointer (some ⟨g90,0,none⟩)] 88)(hS:If 109 w g90 ga gf A N cap ea ef ca cf D ts)(hT:bP w A N ts)(hD:Rj ea ef ca cf D F ts)(hnd:∀t∈ts,t.nd=true)(hN:ts.length≤1000000):dJ prog 65 [Yp c,.pointer (some ⟨g50,0,none⟩)] w (fun v _=>v=.bool (cY ts c.u c.v)):=by
 refine⟨arp,?_⟩;have m:=Mem.refl w
 go_enter func65,ntmps65
 refine eC 7 [0] m ?_;simp only[↓aD,↓eQ];intro g1;intro u m;refine aQ rfl ((hB50.ext m.ext).lies1 Vy rfl) ?_;simp only[zz];refine aS 4 [0,0,0] m ?_;simp only[↓aD,↓eQ,Bj,aO,uE,aa];intro u m;refine cU m rfl rfl (Vk (p:=c.u) (q:=c.v) _ (hS.ext m.ext) hD (hT.ext m.ext) hnd hN) ?_;clear m;rintro v u m rfl;refine aS 3 [] m ?_;simp only[↓aD];intro u m;exact aR rfl rfl (⟨_,rfl,m.ext,rfl⟩)
theorem ajy{g50 g90 ga gf N cap ca cf:Nat}{A:Option Addr}{ea ef:Array b_}{D:List (P3 × Hd)}{F:List (P3 × Bool)}{ts:List T3}{cs:List lE}{n1 c1:Nat}{A1:Option Addr}(w:aj)(hB50:fK w g50 [.pointer (some ⟨g90,0,none⟩)] 88)(hS:If 109 w g90 ga gf A N cap ea ef ca cf D ts)(hT:bP w A N ts)(hD:Rj ea ef ca cf D F ts)(hnd:∀t∈ts,t.nd=true)(hN:ts.length≤1000000)(hL:Dg sD 8 w A1 n1 cs)(hI:∀c∈cs,I3 c.u∧I3 c.v)(hn1:n1≤100000000):dJ prog 124 [.slice A1 n1 c1,.func (.func 65) #[] #[.pointer (some ⟨g50,0,none⟩)]] w (fun v _=>∃k:Int,v=.int .i64 k∧((k<0∧∀c∈cs,cY ts c.u c.v=false)∨∃(j:Nat) (c:lE),k=j∧j<n1∧cs[j]? = some c∧cY ts c.u c.v=true∧∀(i:Nat) (d:lE),i<j→cs[i]? = some d→cY ts d.u d.v=false)):=by
 refine⟨amV,?_⟩;have m:=Mem.refl w;have hcl:=hL.len
 go_enter func124,ntmps124
 refine eC 12 [0] m ?_;simp only[↓aD,api];intro u m;refine cE [8] [4,5,9,10,11,12,13,14,15,16,17,18] (fun n vs wl=>∃(k:Nat),vs=[.int .i64 (k:Int)]∧Mem w wl []∧(∀(j:Nat) (d:lE),j<k→cs[j]? = some d→cY ts d.u d.v=false)∧(k≤n1)∧(n=n1-k)) ?_ ?_
 · skip
   apply Exists.intro;simp only[zQ,zR,zD,zE];exact⟨0,rfl,m,(fun j r h=>by omega),br _,rfl⟩
 · intro n vs wr hI u K1 hK1
   clear m;obtain⟨k,rfl,m,hq0,hk,hn2⟩:=hI;simp only[zu,zF,zG];refine aW 5 [0,0] m ?_;simp only[↓aD];intro u m;refine bG rfl (fun hc1=>?_) (fun hc1=>?_)
   · skip
     obtain⟨c,hc,a1,rfl,hrow⟩:=hL.get (i:=k) (by omega);refine aW 13 [0] m ?_;simp only[↓aD];intro u m;refine aC (aF underlying105 qI rfl rfl (by omega) (by omega) (bZ (ai _))) ?_;simp only[zz];refine aQ rfl ((hrow.ext m.ext).lies Ga qI) ?_;simp only[zz];refine cU m rfl rfl ((haveI:=(hI c (bj hc)).1;haveI:=(hI c (bj hc)).2;aqw (c:=c) _ (hB50.ext m.ext) (hS.ext m.ext) (hT.ext m.ext) hD hnd hN)) ?_;clear m;rintro v u m rfl;refine aS 1 [0] m ?_;simp only[↓aD];intro u m;refine cN rfl (fun hc2=>?_) (fun hc2=>?_)
     · skip
       refine aW 6 [] m ?_;simp only[↓aD];intro u m;refine aR rfl rfl ?_;try simp only[zD,zE]
       exact⟨_,rfl,m.ext,k,rfl,.inr ⟨k,c,rfl,by omega,hc,hc2,fun i d hi hd=>hq0 i d hi hd⟩⟩
     · skip
       refine aW 6 [0] m ?_;simp only[↓aD];refine⟨by omega,?_⟩;intro u m;refine hK1 (n1-(k+1)) _ _ ?_ ?_ ?_
       · omega
       · simp only[zz,zv]
       · simp only[zQ,zR,zD,zE]
         exact⟨k+1, rfl, m, (fun j r2 hj h1 => by
          rcases dl j k with h | h
          · exact hq0 j r2 h h1
          · obtain rfl:j=k:=by omega
            rw[hc] at h1;cases h1;exact hc2),by omega,rfl⟩
   · skip
     obtain rfl:n1=k:=by omega
     refine aW 6 [] m ?_;simp only[↓aD];intro u m;refine aR rfl rfl ?_;try simp only[zD,zE]
     exact⟨_,rfl,m.ext,-1,rfl,.inl ⟨by decide,fun c hc=>by obtain⟨j,hj⟩:=cv.1 hc;exact hq0 j c (by have:=(aq.1 hj).1;omega) hj⟩⟩
theorem aqx{w0 w:aj}{K R0:It}{g50 g90 ga gf N cap ca cf:Nat}{A:Option Addr}{ea ef:Array b_}{D:List (P3 × Hd)}{F:List (P3 × Bool)}{ts:List T3}{cs:List lE}{n1 c1:Nat}{A1:Option Addr}(m:Mem w0 w [oI 112 8 A1 n1 c1 (cs.flatMap sD),bI g50 [.pointer (some ⟨g90,0,none⟩)] 88,K,oI 39 9 A N cap (ts.flatMap aN),R0])(hK:∀u,K.P u→If 109 u g90 ga gf A N cap ea ef ca cf D ts)(hD:Rj ea ef ca cf D F ts)(hnd:∀t∈ts,t.nd=true)(hIT:∀t∈ts,IT t)(hN:ts.length≤1000000)(hI:∀c∈cs,I3 c.u∧I3 c.v)(hb:∀c∈cs,Bd 900000 c.c)(hn1:n1≤100000000):yQ prog 63 [.slice A1 n1 c1,.func (.func 64) #[] #[],.func (.func 65) #[] #[.pointer (some ⟨g50,0,none⟩)]] w fun v w'=>Mem w0 w' [bI g50 [.pointer (some ⟨g90,0,none⟩)] 88,K,oI 39 9 A N cap (ts.flatMap aN),R0]∧((v=.tuple #[.agg #[.int .i64 0,.int .i64 0,.int .i64 0,.int .i64 0,.int .i64 0,.int .i64 0,.bool false,.string ⟨#[]⟩],.bool false]∧∀c∈cs,cY ts c.u c.v=false)∨∃(c:lE) (ys:List lE) (j:Nat),v=.tuple #[Yp c,.bool true]∧ys.Perm cs∧(ys.Pairwise fun a b=>¬b.Lt a)∧ys[j]? = some c∧cY ts c.u c.v=true∧∀(i:Nat) (d:lE),i<j→ys[i]? = some d→cY ts d.u d.v=false):=by
 refine⟨arn,?_⟩
 go_enter func63,ntmps63
 refine eC 9 [0] m ?_;simp only[↓aD,↓eQ,acj];intro g51;intro u m;refine lZ m 1 amU rfl rfl (fun m=>alH hb m 1 rfl (by omega)) ?_;clear m;rintro v i u m ⟨rfl,ys,rfl,hys,hso⟩;simp only[zF,zG] at m;refine aS 5 [0] m ?_;simp only[↓aD];intro u m;refine cU m rfl rfl (ajy _ (m.b 2 rfl) (hK _ (m.get 3 rfl)) ((m.o 4 rfl).tris hIT) hD hnd hN ((m.o 1 rfl).lat (enc:=sD) (fun _=>rfl) (by decide)) (fun c hc=>hI c (hys.mem_iff.1 hc)) hn1) ?_;clear m;rintro v u m ⟨kk,rfl,hkk⟩;refine aS 8 [0,0] m ?_;simp only[↓aD];intro u m;refine bG rfl (fun hc1=>?_) (fun hc1=>?_)
 · skip
   refine aW 11 [0,1] m ?_;simp only[↓aD,↓eQ,acj,aci,aa];intro g52;intro u m;refine wU rfl ⟨_,rfl,((m.b 1 rfl).full Ga qI)⟩ rfl ?_;try simp only[zD,zE]
   exact⟨_,rfl,m.sel [false,false,false,true,true,true,true],.inl ⟨rfl,fun c hc=>(hkk.resolve_right (fun⟨j,c2,e,_⟩=>by omega)).2 c (hys.mem_iff.2 hc)⟩⟩
 · skip
   obtain⟨j,c,rfl,hj,hc,ha,hb4⟩:=hkk.resolve_left (fun h=>hc1 h.1);obtain⟨c9,hc9,a1,hA1,hr5⟩:=((m.o 1 rfl).lat (enc:=sD) (fun _=>rfl) (by decide)).get (i:=j) (by omega);obtain rfl:c9=c:=dq (hc9.symm.trans hc);subst hA1;refine jF 5 [0] m ?_;simp only[↓aD];rintro u m rfl;refine aC (aF underlying105 qI rfl rfl (by omega) (by omega) (bZ (ai _))) ?_;simp only[zz];refine aQ rfl (show fL _ _ _ _ (.agg #[.int .i64 c9.u.x,.int .i64 c9.u.y,.int .i64 c9.u.z,.int .i64 c9.v.x,.int .i64 c9.v.y,.int .i64 c9.v.z,.bool (fP c9.c),.string (jX c9.c)]) from hr5.lies Ga qI) ?_;simp only[zz];refine aS 4 [0] m ?_;simp only[↓aD,↓eQ,aci,aa];intro u m;exact wU rfl ⟨_,rfl,((m.b 0 rfl).full Ga qI)⟩ rfl (⟨_,rfl,m.sel [false,false,true,true,true,true],.inr ⟨c9,ys,j,rfl,hys,hso,hc,ha,hb4⟩⟩)
end Go.Proofs.YtfekpcimgncioaaGreatDoor
