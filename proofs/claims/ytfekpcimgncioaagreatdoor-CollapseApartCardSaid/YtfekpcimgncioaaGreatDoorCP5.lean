/-
 Texts of one claim, laid together: Cmp, Grow2, SortPt, Maps1, W1, Rchk2, W2, Ent, W3, K1, K2, K3, K4, Sfa, K5, Ref1, Ref2, Ref3.
-/
import Derived.Shelf.SlLaysF0
import Derived.Test.YtfekpcimgncioaaGreatDoorProg
import Derived.Test.YtfekpcimgncioaaGreatDoorCP4
open Nat renaming reduceAdd→aa,reduceMul→ag,le_refl→aq,zero_add→au,zero_le→cv,lt_succ_self→fg,min_eq_left→gr,add_sub_cancel→g_
open Int renaming reduceToNat→ad,toNat_natCast→ah,reduceAdd→ak
open Go renaming Value→ai,World→aj,wp_region_lit→ao,wpList→ar,TypeId→az,Operand→bw,run_underlying→cd,wpQuiet→cw,MapEntry→c_,wp_ret→jf,wp_block→jt,wp_skip→jz,wp_loop_rounds→pi
open List renaming getElem?_eq_getElem→am,mem_cons→an,length_cons→av,length_append→aw,flatMap_append→ay,take_of_length_le→a_,mem_singleton→bf,mem_append→bi,map_cons→bj,length_take→bp,length_nil→bv,getElem?_eq_none→bz,nil_append→b_,not_mem_nil→cg,replicate→cl,cons_append→cn,append_assoc→cq,map_append→ct,mem_filter→dw,map_nil→dx,append_nil→fa,length_drop→fl,take_length→fp,length_filter_le→fu,filter_append→il,take_zero→kf,drop_length→lv
open Go.Value renaming bool→bn
open Go.Oper renaming mk→bu
open Go.Exit renaming inBlock→dl
open Option renaming getD_some→dq,map_some→fm,getD_none→ly
open Array renaming getElem?_eq_some_iff→ee,getElem?_modify→j_,ext_getElem?→ku
open Bool renaming not_false→fh
open Option.some renaming inj→fq,injEq→gw
open Prod.mk renaming injEq→ft
set_option maxHeartbeats 8000000
set_option linter.unusedSimpArgs false
set_option linter.unusedVariables false
set_option linter.unusedSectionVars false
namespace Go.Proofs.YtfekpcimgncioaaGreatDoor
open Go.Proofs.Tryz
open Go.RowKit Go.Lith
variable{q:P3}
abbrev Mo:=@underlying284
abbrev oZ:=@underlying285
abbrev Vt:=@underlying5
set_option maxRecDepth 100000
attribute [local irreducible] ar cw gG bQ cO Code.wp
theorem apl{p:P3}:sZ prog 276 [pt p] (.int .i64 p.x):=by
 intro w;refine⟨aiB,?_⟩;have m:=gS.refl w
 go_enter func276,ntmps276
 refine bE fun K1 k1=>ao (oS m O ?_);intro g1 u m;refine aB aO (aM (k1 _ _ ?_));refine bE fun K2 k2=>ao (aB (aV (c:=0) underlying245 O aU O O) ?_);simp only[zz];refine aR O ((m.b 0 O).lies1 bD O) ?_;simp only[zz];refine aB aO (aM (k2 _ _ ?_));refine jf ?_;simp only[zz];try simp only[dl,Exit.then,if_true]
 refine aT O O ?_;try simp only[zD,zE]
 exact⟨_,O,m.ext,O⟩
theorem apm{p:P3}:sZ prog 277 [pt p] (.int .i64 p.y):=by
 intro w;refine⟨aiC,?_⟩;have m:=gS.refl w
 go_enter func277,ntmps277
 refine bE fun K1 k1=>ao (oS m O ?_);intro g1 u m;refine aB aO (aM (k1 _ _ ?_));refine bE fun K2 k2=>ao (aB (aV (c:=0) underlying245 O aU O O) ?_);simp only[zz];refine aR O ((m.b 0 O).lies1 bD O) ?_;simp only[zz];refine aB aO (aM (k2 _ _ ?_));refine jf ?_;simp only[zz];try simp only[dl,Exit.then,if_true]
 refine aT O O ?_;try simp only[zD,zE]
 exact⟨_,O,m.ext,O⟩
theorem apn{p:P3}:sZ prog 278 [pt p] (.int .i64 p.z):=by
 intro w;refine⟨aiD,?_⟩;have m:=gS.refl w
 go_enter func278,ntmps278
 refine bE fun K1 k1=>ao (oS m O ?_);intro g1 u m;refine aB aO (aM (k1 _ _ ?_));refine bE fun K2 k2=>ao (aB (aV (c:=0) underlying245 O aU O O) ?_);simp only[zz];refine aR O ((m.b 0 O).lies1 bD O) ?_;simp only[zz];refine aB aO (aM (k2 _ _ ?_));refine jf ?_;simp only[zz];try simp only[dl,Exit.then,if_true]
 refine aT O O ?_;try simp only[zD,zE]
 exact⟨_,O,m.ext,O⟩
theorem an0  : sZ prog 195 [] (.agg #[.func (.func 276) #[] #[],.func (.func 277) #[] #[],.func (.func 278) #[] #[]]):=by
 intro w;refine⟨aiA,?_⟩;have m:=gS.refl w
 go_enter func195,ntmps195
 refine bE fun K1 k1=>ao (amy m abm O ?_);intro g1 u m;refine aM (k1 _ _ ?_);refine bE fun K2 k2=>ao (aB (Ik O O O) ?_);simp only[zz];refine aio m 0 O O O Li (gV O) O ?_;intro u m;simp only[zy,zx,over,zF,zG,aa] at m;refine aM (k2 _ _ ?_);refine jf ?_;try simp only[dl,Exit.then,if_true]
 refine aT O ⟨_,O,((m.b 0 O).full afh Li)⟩ ?_;try simp only[zD,zE]
 exact⟨_,O,m.ext,O⟩
theorem tZ{p:P3}:sZ prog 130 [pt p,pt q] (.bool (decide (p.Lt q))):=by
 intro w;refine⟨bK func130 (by kernel_rfl),?_⟩;have m:=gS.refl w
 go_enter func130,ntmps130
 refine bE fun K1 k1=>ao (oS m O ?_);intro g1 u m;simp only[zz];refine oS m O ?_;intro g2 u m;refine aB aO (aM (k1 _ _ ?_));refine bE fun K2 k2=>bE fun K3 k3=>ao ?_;simp only[zz];refine Pb m O O an0 ?_;intro u m;refine aB aI (aM (k3 _ _ ?_));refine jt (pi 4 (By (bE fun K4 k4=>ao (aB (qW (m:=0) (n:=3) O O (by decide)) (aM (k4 _ _ ?_))))));refine bE fun K5 k5=>Bm O (jz (k5 _ _ ?_));refine bE fun K6 k6=>jt (bE fun K7 k7=>ao (aB (Fs O O) ?_));simp only[zz];refine aB aO (aM (k7 _ _ ?_));refine bE fun K8 k8=>?_;simp only[zz];refine Gmq m aC (by kernel_rfl) (aG aI ?_);simp only[zz];refine Ur O (fun u m=>((m.b 1 O).full aH aA)) ?_;simp only[zz];refine Ia O O apl (aG aI ?_);simp only[zz];refine Ur O (fun u m=>((m.b 0 O).full aH aA)) ?_;simp only[zz];refine Ia O O apl (aG aO (aG aO (bC ?_)));intro u m;refine k8 _ _ ?_;refine bE fun K9 k9=>ao (aB aI ?_);simp only[zz];refine aB aI (aB (rS O O) (aM (k9 _ _ ?_)));simp only[zz];refine bG O ?_ ?_<;>intro hc2
 ·
  refine bE fun K10 k10=>ao (aB aI (aB aI (aB (rR O O) (aB aO ?_))));simp only[zz];refine aM (k10 _ _ ?_);refine jf ?_;try simp only[dl,Exit.then,if_true]
  refine aT O O ?_;try simp only[zD,zE]
  exact⟨_,O,m.ext,by simp only[P3.lt_x hc2]⟩
 ·
  have ex:p.x=q.x:=by omega
  refine jz (k6 _ _ ?_);refine ao (aB (fB (m:=0) (n:=1) (r:=1) O O (by decide)) (aB aI (aM (lR (bE fun K11 k11=>ao (aB (qW (m:=1) (n:=3) O O (by decide)) (aM (k11 _ _ ?_))))))));refine bE fun K12 k12=>Bm O (jz (k12 _ _ ?_));refine bE fun K13 k13=>jt (bE fun K14 k14=>ao (aB (Ft O O) ?_));simp only[zz];refine aB aO (aM (k14 _ _ ?_));refine bE fun K15 k15=>?_;simp only[zz];refine Gmq m aC (by kernel_rfl) (aG aI ?_);simp only[zz];refine Ur O (fun u m=>((m.b 1 O).full aH aA)) ?_;simp only[zz];refine Ia O O apm (aG aI ?_);simp only[zz];refine Ur O (fun u m=>((m.b 0 O).full aH aA)) ?_;simp only[zz];refine Ia O O apm (aG aO (aG aO (bC ?_)));intro u m;refine k15 _ _ ?_;refine bE fun K16 k16=>ao (aB aI ?_);simp only[zz];refine aB aI (aB (rS O O) (aM (k16 _ _ ?_)));simp only[zz];refine bG O ?_ ?_<;>intro hc2
  ·
   refine bE fun K17 k17=>ao (aB aI (aB aI (aB (rR O O) (aB aO ?_))));simp only[zz];refine aM (k17 _ _ ?_);refine jf ?_;try simp only[dl,Exit.then,if_true]
   refine aT O O ?_;try simp only[zD,zE]
   exact⟨_,O,m.ext,by simp only[P3.lt_y ex hc2]⟩
  ·
   have ey:p.y=q.y:=by omega
   refine jz (k13 _ _ ?_);refine ao (aB (fB (m:=1) (n:=1) (r:=2) O O (by decide)) (aB aI (aM (lR (bE fun K18 k18=>ao (aB (qW (m:=2) (n:=3) O O (by decide)) (aM (k18 _ _ ?_))))))));refine bE fun K19 k19=>Bm O (jz (k19 _ _ ?_));refine bE fun K20 k20=>jt (bE fun K21 k21=>ao (aB (Fu O O) ?_));simp only[zz];refine aB aO (aM (k21 _ _ ?_));refine bE fun K22 k22=>?_;simp only[zz];refine Gmq m aC (by kernel_rfl) (aG aI ?_);simp only[zz];refine Ur O (fun u m=>((m.b 1 O).full aH aA)) ?_;simp only[zz];refine Ia O O apn (aG aI ?_);simp only[zz];refine Ur O (fun u m=>((m.b 0 O).full aH aA)) ?_;simp only[zz];refine Ia O O apn (aG aO (aG aO (bC ?_)));intro u m;refine k22 _ _ ?_;refine bE fun K23 k23=>ao (aB aI ?_);simp only[zz];refine aB aI (aB (rS O O) (aM (k23 _ _ ?_)));simp only[zz];refine bG O ?_ ?_<;>intro hc2
   ·
    refine bE fun K24 k24=>ao (aB aI (aB aI (aB (rR O O) (aB aO ?_))));simp only[zz];refine aM (k24 _ _ ?_);refine jf ?_;try simp only[dl,Exit.then,if_true]
    refine aT O O ?_;try simp only[zD,zE]
    exact⟨_,O,m.ext,by simp only[P3.lt_z ex ey]⟩
   ·
    have ez:p.z=q.z:=by omega
    refine jz (k20 _ _ ?_);refine ao (aB (fB (m:=2) (n:=1) (r:=3) O O (by decide)) (aB aI (aM (lR (bE fun K25 k25=>ao (aB (Gf (m:=3) (n:=3) O O (by decide)) (aM (k25 _ _ ?_))))))));refine bE fun K26 k26=>af9 O (wp_exit (k2 _ _ ?_));refine bE fun K27 k27=>ao (aB aO ?_);simp only[zz];refine aM (k27 _ _ ?_);refine jf ?_;try simp only[dl,Exit.then,if_true]
    refine aT O O ?_;try simp only[zD,zE]
    exact⟨_,O,m.ext,by rw[decide_eq_false (fun h=>by unfold P3.Lt at h;omega)]⟩
theorem Et{p:P3}:sZ prog 116 [pt p,pt q] (.int .i64 (qO p q)):=by
 intro w;refine⟨bK func116 (by kernel_rfl),?_⟩;have m:=gS.refl w
 go_enter func116,ntmps116
 refine bE fun K1 k1=>ao (oS m O ?_);intro g1 u m;simp only[zz];refine oS m O ?_;intro g2 u m;refine aB aO (aM (k1 _ _ ?_));refine bE fun K2 k2=>jt (bE fun K3 k3=>ao ?_);simp only[zz];refine aR O ((m.b 1 O).full aH aA) ?_;simp only[zz];refine aR O ((m.b 0 O).full aH aA) ?_;simp only[zz];refine Pb m O O tZ ?_;intro u m;refine aB aO (aM (k3 _ _ ?_));simp only[zz];refine bG O ?_ ?_<;>intro hc1
 ·
  refine bE fun K4 k4=>ao (aB aO (aM (k4 _ _ ?_)));refine jf ?_;simp only[zz];try simp only[dl,Exit.then,if_true]
  refine aT O O ?_;try simp only[zD,zE]
  exact⟨_,O,m.ext,by simp[qO,hc1]⟩
 ·
  refine bE fun K5 k5=>ao (aR O ((m.b 0 O).full aH aA) ?_);simp only[zz];refine aR O ((m.b 1 O).full aH aA) ?_;simp only[zz];refine Pb m O O tZ ?_;intro u m;refine aB aO (aM (k5 _ _ ?_));simp only[zz];refine bG O ?_ ?_<;>intro hc2
  ·
   refine bE fun K6 k6=>ao (aB aO (aM (k6 _ _ ?_)));refine jf ?_;simp only[zz];try simp only[dl,Exit.then,if_true]
   refine aT O O ?_;try simp only[zD,zE]
   exact⟨_,O,m.ext,by simp[qO,hc1,hc2]⟩
  ·
   refine jz (k2 _ _ ?_);refine bE fun K7 k7=>ao (aB aO (aM (k7 _ _ ?_)));refine jf ?_;simp only[zz];try simp only[dl,Exit.then,if_true]
   refine aT O O ?_;try simp only[zD,zE]
   exact⟨_,O,m.ext,by simp[qO,hc1,hc2]⟩
end Go.Proofs.YtfekpcimgncioaaGreatDoor
namespace Go.Lith
open Go.RowKit
def akw(P:Program)(f:FuncId)(args:List ai)(w:aj)(v:ai):Prop:=Entr P f∧Calls P f args.toArray w fun e w'=>∃u,e=.returned u∧GX w w'∧u=v
section
variable {P:Program} {ds:List Deferred} {l:List ai} {x y:bw} {T ty:az}
variable {ops:Array Oper} {Q:Exit→Act→aj→Prop} {rest:List Oper} {d:Nat} {pos:String} {after:Array Edge} {w w0:aj} {is:List It} {v:ai}
theorem akx{E:az}{z:ai}(m:gS w0 w is)(hu:P.underlying T=some (.slice E))(hi:(P.info? E).map (fun i=>(i.size,i.zero))=some (1,some z))(hz:z.cells = #[z]){v v2:ai}(hx:ev l x=v)(hv:v.cells = #[v])(hy:ev l y=v2)(hv2:v2.cells = #[v2])
 (h:∀g u,gS w0 u (bI g [v,v2] E::is)→ar P ops Q rest (Fr (l.set d (.slice (some ⟨g,0,none⟩) 2 2)) ds) u) :
 ar P ops Q (bu (some d) (.buildSlice T 2 #[(0,x),(1,y)]) ty pos after none::rest) (Fr l ds) w:=by
 cases hq:P.info? E with
 | none=>rw[hq] at hi;cases hi
 | some i =>
  rw[hq] at hi;simp only[fm,gw,ft] at hi;obtain⟨e1,e2⟩:=hi;exact mM (w':=w.alloc (.cells #[v,v2] E)) (v:=.slice (some ⟨w.heap.size,0,none⟩) 2 2) (fun o ho _=>by simp[execOp,ho,Instr.buildSlice,cd hu,sizeOf,typeInfo,zeroValue,hq,e1,e2,hz,cD,hx,hv,hy,hv2,Instr.fill,newRow,newObj,Sem.run,Hw]) (h _ _ (m.go (m.mem.newB ((fQ.refl w).alloc _) (aq _) (jH w [v,v2] E)) (aq _)))
theorem aax(z v v2 v3:ai):(((Array.map (fun x=>[z][x%1]?.getD default) (Array.range 3)).setIfInBounds 0 v).setIfInBounds 1 v2).setIfInBounds 2 v3 = #[v,v2,v3]:=by
 apply Array.ext (by simp);intro i h1 h2;have h3:i<3:=by simpa using h2
 rcases Nat.lt_trichotomy i 1 with h | h | h
 · obtain rfl:i=0:=by omega
   simp
 · subst h
   simp
 · obtain rfl:i=2:=by omega
   simp
theorem acj{E:az}{z:ai}{y3:bw}(m:gS w0 w is)(hu:P.underlying T=some (.slice E))(hi:(P.info? E).map (fun i=>(i.size,i.zero))=some (1,some z))(hz:z.cells = #[z]){v v2 v3:ai}(hx:ev l x=v)(hv:v.cells = #[v])(hy:ev l y=v2)(hv2:v2.cells = #[v2])(hy3:ev l y3=v3)(hv3:v3.cells = #[v3])
 (h:∀g u,gS w0 u (bI g [v,v2,v3] E::is)→ar P ops Q rest (Fr (l.set d (.slice (some ⟨g,0,none⟩) 3 3)) ds) u) :
 ar P ops Q (bu (some d) (.buildSlice T 3 #[(0,x),(1,y),(2,y3)]) ty pos after none::rest) (Fr l ds) w:=by
 cases hq:P.info? E with
 | none=>rw[hq] at hi;cases hi
 | some i =>
  rw[hq] at hi;simp only[fm,gw,ft] at hi;obtain⟨e1,e2⟩:=hi;exact mM (w':=w.alloc (.cells #[v,v2,v3] E)) (v:=.slice (some ⟨w.heap.size,0,none⟩) 3 3) (fun o ho _=>by simp[execOp,ho,Instr.buildSlice,cd hu,sizeOf,typeInfo,zeroValue,hq,e1,e2,hz,cD,hx,hv,hy,hv2,hy3,hv3,Instr.fill,newRow,newObj,Sem.run,aax]) (h _ _ (m.go (m.mem.newB ((fQ.refl w).alloc _) (aq _) (jH w [v,v2,v3] E)) (aq _)))
theorem aay{f:FuncId}{fo:bw}{xs:Array bw}{args:List ai}{first cap:Array ai}{a0:Array az}(m:gS w0 w is)(hf:ev l fo=.func (.func f) first cap)(hxs:first.toList++xs.toList.map (ev l)++cap.toList=args)(hc:akw P f args w v)
 (h:∀u,gS w0 u is→ar P ops Q rest (Fr (l.set d v) ds) u):ar P ops Q (bu (some d) (.call { callee:=.value fo,args:=xs,argTypes:=a0 }) ty pos after none::rest) (Fr l ds) w:=by
 refine wpList_plain O fun K hK=>?_;unfold Oper.wp;rw[kJ,pM hc.1 hf hxs _ rfl];refine hc.2.mono ?_;rintro e w' ⟨u,rfl,hE,rfl⟩;show K ((Fr l ds).put (some d) u) w'
 rw[gL];exact hK _ _ (h w' (m.ext' hE))
end
end Go.Lith
namespace Go.Proofs
open Go.Shelf
def Tryz.sort112_ren:Go.Shelf.Ren:=⟨fun | 6=>112 | 15=>181 | 14=>180 | 28=>254 | 29=>255 | 20=>246 | 21=>247 | 22=>248 | 23=>249 | 24=>250 | 25=>251 | 26=>252 | 27=>253 | 46=>309 | 47=>310 | 48=>311 | 49=>312 | 50=>313 | 57=>339 | n=>n,fun | 22=>27 | 24=>39 | 25=>162 | 3=>3 | 39=>141 | 0=>0 | 53=>297 | 55=>231 | 4=>4 | 46=>291 | 45=>290 | 50=>202 | 5=>5 | 9=>9 | 66=>343 | 70=>347 | 76=>369 | 77=>367 | n=>n,fun | n=>n⟩
theorem Tryz.sort112:Go.Proofs.SlLaysF0.n6 Tryz.prog Tryz.sort112_ren:={
 mixed:=by kernel_rfl
 f6:=⟨Tryz.f112.name,by decide,Tryz.func112.trans (congrArg some (by kernel_rfl))⟩
 f14:=⟨Tryz.f180.name,by decide,Tryz.func180.trans (congrArg some (by kernel_rfl))⟩
 f15:=Tryz.func181.trans (congrArg some (by kernel_rfl))
 f20:=⟨Tryz.f246.name,by decide,Tryz.func246.trans (congrArg some (by kernel_rfl))⟩
 f21:=⟨Tryz.f247.name,by decide,Tryz.func247.trans (congrArg some (by kernel_rfl))⟩
 f22:=⟨Tryz.f248.name,by decide,Tryz.func248.trans (congrArg some (by kernel_rfl))⟩
 f23:=⟨Tryz.f249.name,by decide,Tryz.func249.trans (congrArg some (by kernel_rfl))⟩
 f24:=⟨Tryz.f250.name,by decide,Tryz.func250.trans (congrArg some (by kernel_rfl))⟩
 f25:=⟨Tryz.f251.name,by decide,Tryz.func251.trans (congrArg some (by kernel_rfl))⟩
 f26:=⟨Tryz.f252.name,by decide,Tryz.func252.trans (congrArg some (by kernel_rfl))⟩
 f27:=⟨Tryz.f253.name,by decide,Tryz.func253.trans (congrArg some (by kernel_rfl))⟩
 f28:=Tryz.func254.trans (congrArg some (by kernel_rfl))
 f29:=Tryz.func255.trans (congrArg some (by kernel_rfl))
 f46:=⟨Tryz.f309.name,by decide,Tryz.func309.trans (congrArg some (by kernel_rfl))⟩
 f47:=Tryz.func310.trans (congrArg some (by kernel_rfl))
 f48:=Tryz.func311.trans (congrArg some (by kernel_rfl))
 f49:=⟨Tryz.f312.name,by decide,Tryz.func312.trans (congrArg some (by kernel_rfl))⟩
 f50:=⟨Tryz.f313.name,by decide,Tryz.func313.trans (congrArg some (by kernel_rfl))⟩
 f57:=⟨Tryz.f339.name,by decide,Tryz.func339.trans (congrArg some (by kernel_rfl))⟩
 t0:=Tryz.underlying0
 a0:=Tryz.isAgg0
 z0:=Tryz.sizeOf0
 v0:=Tryz.zeroValue0
 t3:=Tryz.underlying3
 a3:=Tryz.isAgg3
 z3:=Tryz.sizeOf3
 v3:=Tryz.zeroValue3
 t4:=Tryz.underlying4
 a4:=Tryz.isAgg4
 z4:=Tryz.sizeOf4
 v4:=Tryz.zeroValue4
 t5:=Tryz.underlying5
 a5:=Tryz.isAgg5
 z5:=Tryz.sizeOf5
 v5:=Tryz.zeroValue5
 t9:=Tryz.underlying9
 a9:=Tryz.isAgg9
 z9:=Tryz.sizeOf9
 v9:=Tryz.zeroValue9
 t22:=Tryz.underlying27
 a22:=Tryz.isAgg27
 z22:=Tryz.sizeOf27
 v22:=Tryz.zeroValue27
 t25:=Tryz.underlying162
 a25:=Tryz.isAgg162
 z25:=Tryz.sizeOf162
 v25:=Tryz.zeroValue162
 t39:=Tryz.underlying141
 a39:=Tryz.isAgg141
 z39:=Tryz.sizeOf141
 v39:=Tryz.zeroValue141
 t45:=Tryz.underlying290
 a45:=Tryz.isAgg290
 z45:=Tryz.sizeOf290
 v45:=Tryz.zeroValue290
 t46:=Tryz.underlying291
 a46:=Tryz.isAgg291
 z46:=Tryz.sizeOf291
 v46:=Tryz.zeroValue291
 t50:=Tryz.underlying202
 a50:=Tryz.isAgg202
 z50:=Tryz.sizeOf202
 v50:=Tryz.zeroValue202
 t53:=Tryz.underlying297
 a53:=Tryz.isAgg297
 z53:=Tryz.sizeOf297
 v53:=Tryz.zeroValue297
 t55:=Tryz.underlying231
 a55:=Tryz.isAgg231
 z55:=Tryz.sizeOf231
 v55:=Tryz.zeroValue231
 t66:=Tryz.underlying343
 a66:=Tryz.isAgg343
 z66:=Tryz.sizeOf343
 v66:=Tryz.zeroValue343
 t70:=Tryz.underlying347
 a70:=Tryz.isAgg347
 z70:=Tryz.sizeOf347
 v70:=Tryz.zeroValue347
 t76:=Tryz.underlying369
 a76:=Tryz.isAgg369
 z76:=Tryz.sizeOf369
 v76:=Tryz.zeroValue369
 t77:=Tryz.underlying367
 a77:=Tryz.isAgg367
 z77:=Tryz.sizeOf367
 v77:=Tryz.zeroValue367 }
def Tryz.sort123_ren:Go.Shelf.Ren:=⟨fun | 6=>123 | 15=>181 | 14=>190 | 28=>254 | 29=>255 | 20=>259 | 21=>260 | 22=>261 | 23=>262 | 24=>263 | 25=>264 | 26=>265 | 27=>266 | 46=>319 | 47=>310 | 48=>311 | 49=>320 | 50=>321 | 57=>343 | n=>n,fun | 22=>105 | 24=>112 | 25=>115 | 3=>3 | 39=>141 | 0=>0 | 53=>297 | 55=>231 | 4=>4 | 46=>291 | 45=>290 | 50=>202 | 5=>5 | 9=>9 | 66=>343 | 70=>347 | 76=>369 | 77=>367 | n=>n,fun | n=>n⟩
theorem Tryz.sort123:Go.Proofs.SlLaysF0.n6 Tryz.prog Tryz.sort123_ren:={
 mixed:=by kernel_rfl
 f6:=⟨Tryz.f123.name,by decide,Tryz.func123.trans (congrArg some (by kernel_rfl))⟩
 f14:=⟨Tryz.f190.name,by decide,Tryz.func190.trans (congrArg some (by kernel_rfl))⟩
 f15:=Tryz.func181.trans (congrArg some (by kernel_rfl))
 f20:=⟨Tryz.f259.name,by decide,Tryz.func259.trans (congrArg some (by kernel_rfl))⟩
 f21:=⟨Tryz.f260.name,by decide,Tryz.func260.trans (congrArg some (by kernel_rfl))⟩
 f22:=⟨Tryz.f261.name,by decide,Tryz.func261.trans (congrArg some (by kernel_rfl))⟩
 f23:=⟨Tryz.f262.name,by decide,Tryz.func262.trans (congrArg some (by kernel_rfl))⟩
 f24:=⟨Tryz.f263.name,by decide,Tryz.func263.trans (congrArg some (by kernel_rfl))⟩
 f25:=⟨Tryz.f264.name,by decide,Tryz.func264.trans (congrArg some (by kernel_rfl))⟩
 f26:=⟨Tryz.f265.name,by decide,Tryz.func265.trans (congrArg some (by kernel_rfl))⟩
 f27:=⟨Tryz.f266.name,by decide,Tryz.func266.trans (congrArg some (by kernel_rfl))⟩
 f28:=Tryz.func254.trans (congrArg some (by kernel_rfl))
 f29:=Tryz.func255.trans (congrArg some (by kernel_rfl))
 f46:=⟨Tryz.f319.name,by decide,Tryz.func319.trans (congrArg some (by kernel_rfl))⟩
 f47:=Tryz.func310.trans (congrArg some (by kernel_rfl))
 f48:=Tryz.func311.trans (congrArg some (by kernel_rfl))
 f49:=⟨Tryz.f320.name,by decide,Tryz.func320.trans (congrArg some (by kernel_rfl))⟩
 f50:=⟨Tryz.f321.name,by decide,Tryz.func321.trans (congrArg some (by kernel_rfl))⟩
 f57:=⟨Tryz.f343.name,by decide,Tryz.func343.trans (congrArg some (by kernel_rfl))⟩
 t0:=Tryz.underlying0
 a0:=Tryz.isAgg0
 z0:=Tryz.sizeOf0
 v0:=Tryz.zeroValue0
 t3:=Tryz.underlying3
 a3:=Tryz.isAgg3
 z3:=Tryz.sizeOf3
 v3:=Tryz.zeroValue3
 t4:=Tryz.underlying4
 a4:=Tryz.isAgg4
 z4:=Tryz.sizeOf4
 v4:=Tryz.zeroValue4
 t5:=Tryz.underlying5
 a5:=Tryz.isAgg5
 z5:=Tryz.sizeOf5
 v5:=Tryz.zeroValue5
 t9:=Tryz.underlying9
 a9:=Tryz.isAgg9
 z9:=Tryz.sizeOf9
 v9:=Tryz.zeroValue9
 t22:=Tryz.underlying105
 a22:=Tryz.isAgg105
 z22:=Tryz.sizeOf105
 v22:=Tryz.zeroValue105
 t25:=Tryz.underlying115
 a25:=Tryz.isAgg115
 z25:=Tryz.sizeOf115
 v25:=Tryz.zeroValue115
 t39:=Tryz.underlying141
 a39:=Tryz.isAgg141
 z39:=Tryz.sizeOf141
 v39:=Tryz.zeroValue141
 t45:=Tryz.underlying290
 a45:=Tryz.isAgg290
 z45:=Tryz.sizeOf290
 v45:=Tryz.zeroValue290
 t46:=Tryz.underlying291
 a46:=Tryz.isAgg291
 z46:=Tryz.sizeOf291
 v46:=Tryz.zeroValue291
 t50:=Tryz.underlying202
 a50:=Tryz.isAgg202
 z50:=Tryz.sizeOf202
 v50:=Tryz.zeroValue202
 t53:=Tryz.underlying297
 a53:=Tryz.isAgg297
 z53:=Tryz.sizeOf297
 v53:=Tryz.zeroValue297
 t55:=Tryz.underlying231
 a55:=Tryz.isAgg231
 z55:=Tryz.sizeOf231
 v55:=Tryz.zeroValue231
 t66:=Tryz.underlying343
 a66:=Tryz.isAgg343
 z66:=Tryz.sizeOf343
 v66:=Tryz.zeroValue343
 t70:=Tryz.underlying347
 a70:=Tryz.isAgg347
 z70:=Tryz.sizeOf347
 v70:=Tryz.zeroValue347
 t76:=Tryz.underlying369
 a76:=Tryz.isAgg369
 z76:=Tryz.sizeOf369
 v76:=Tryz.zeroValue369
 t77:=Tryz.underlying367
 a77:=Tryz.isAgg367
 z77:=Tryz.sizeOf367
 v77:=Tryz.zeroValue367 }
def Tryz.sort128_ren:Go.Shelf.Ren:=⟨fun | 6=>128 | 15=>181 | 14=>194 | 28=>254 | 29=>255 | 20=>268 | 21=>269 | 22=>270 | 23=>271 | 24=>272 | 25=>273 | 26=>274 | 27=>275 | 46=>322 | 47=>310 | 48=>311 | 49=>323 | 50=>324 | 57=>344 | n=>n,fun | 22=>65 | 24=>30 | 25=>123 | 3=>3 | 39=>141 | 0=>0 | 53=>297 | 55=>231 | 4=>4 | 46=>291 | 45=>290 | 50=>202 | 5=>5 | 9=>9 | 66=>343 | 70=>347 | 76=>369 | 77=>367 | n=>n,fun | n=>n⟩
theorem Tryz.sort128:Go.Proofs.SlLaysF0.n6 Tryz.prog Tryz.sort128_ren:={
 mixed:=by kernel_rfl
 f6:=⟨Tryz.f128.name,by decide,Tryz.func128.trans (congrArg some (by kernel_rfl))⟩
 f14:=⟨Tryz.f194.name,by decide,Tryz.func194.trans (congrArg some (by kernel_rfl))⟩
 f15:=Tryz.func181.trans (congrArg some (by kernel_rfl))
 f20:=⟨Tryz.f268.name,by decide,Tryz.func268.trans (congrArg some (by kernel_rfl))⟩
 f21:=⟨Tryz.f269.name,by decide,Tryz.func269.trans (congrArg some (by kernel_rfl))⟩
 f22:=⟨Tryz.f270.name,by decide,Tryz.func270.trans (congrArg some (by kernel_rfl))⟩
 f23:=⟨Tryz.f271.name,by decide,Tryz.func271.trans (congrArg some (by kernel_rfl))⟩
 f24:=⟨Tryz.f272.name,by decide,Tryz.func272.trans (congrArg some (by kernel_rfl))⟩
 f25:=⟨Tryz.f273.name,by decide,Tryz.func273.trans (congrArg some (by kernel_rfl))⟩
 f26:=⟨Tryz.f274.name,by decide,Tryz.func274.trans (congrArg some (by kernel_rfl))⟩
 f27:=⟨Tryz.f275.name,by decide,Tryz.func275.trans (congrArg some (by kernel_rfl))⟩
 f28:=Tryz.func254.trans (congrArg some (by kernel_rfl))
 f29:=Tryz.func255.trans (congrArg some (by kernel_rfl))
 f46:=⟨Tryz.f322.name,by decide,Tryz.func322.trans (congrArg some (by kernel_rfl))⟩
 f47:=Tryz.func310.trans (congrArg some (by kernel_rfl))
 f48:=Tryz.func311.trans (congrArg some (by kernel_rfl))
 f49:=⟨Tryz.f323.name,by decide,Tryz.func323.trans (congrArg some (by kernel_rfl))⟩
 f50:=⟨Tryz.f324.name,by decide,Tryz.func324.trans (congrArg some (by kernel_rfl))⟩
 f57:=⟨Tryz.f344.name,by decide,Tryz.func344.trans (congrArg some (by kernel_rfl))⟩
 t0:=Tryz.underlying0
 a0:=Tryz.isAgg0
 z0:=Tryz.sizeOf0
 v0:=Tryz.zeroValue0
 t3:=Tryz.underlying3
 a3:=Tryz.isAgg3
 z3:=Tryz.sizeOf3
 v3:=Tryz.zeroValue3
 t4:=Tryz.underlying4
 a4:=Tryz.isAgg4
 z4:=Tryz.sizeOf4
 v4:=Tryz.zeroValue4
 t5:=Tryz.underlying5
 a5:=Tryz.isAgg5
 z5:=Tryz.sizeOf5
 v5:=Tryz.zeroValue5
 t9:=Tryz.underlying9
 a9:=Tryz.isAgg9
 z9:=Tryz.sizeOf9
 v9:=Tryz.zeroValue9
 t22:=Tryz.underlying65
 a22:=Tryz.isAgg65
 z22:=Tryz.sizeOf65
 v22:=Tryz.zeroValue65
 t25:=Tryz.underlying123
 a25:=Tryz.isAgg123
 z25:=Tryz.sizeOf123
 v25:=Tryz.zeroValue123
 t39:=Tryz.underlying141
 a39:=Tryz.isAgg141
 z39:=Tryz.sizeOf141
 v39:=Tryz.zeroValue141
 t45:=Tryz.underlying290
 a45:=Tryz.isAgg290
 z45:=Tryz.sizeOf290
 v45:=Tryz.zeroValue290
 t46:=Tryz.underlying291
 a46:=Tryz.isAgg291
 z46:=Tryz.sizeOf291
 v46:=Tryz.zeroValue291
 t50:=Tryz.underlying202
 a50:=Tryz.isAgg202
 z50:=Tryz.sizeOf202
 v50:=Tryz.zeroValue202
 t53:=Tryz.underlying297
 a53:=Tryz.isAgg297
 z53:=Tryz.sizeOf297
 v53:=Tryz.zeroValue297
 t55:=Tryz.underlying231
 a55:=Tryz.isAgg231
 z55:=Tryz.sizeOf231
 v55:=Tryz.zeroValue231
 t66:=Tryz.underlying343
 a66:=Tryz.isAgg343
 z66:=Tryz.sizeOf343
 v66:=Tryz.zeroValue343
 t70:=Tryz.underlying347
 a70:=Tryz.isAgg347
 z70:=Tryz.sizeOf347
 v70:=Tryz.zeroValue347
 t76:=Tryz.underlying369
 a76:=Tryz.isAgg369
 z76:=Tryz.sizeOf369
 v76:=Tryz.zeroValue369
 t77:=Tryz.underlying367
 a77:=Tryz.isAgg367
 z77:=Tryz.sizeOf367
 v77:=Tryz.zeroValue367 }
def Tryz.sort237_ren:Go.Shelf.Ren:=⟨fun | 6=>237 | 15=>181 | 14=>297 | 28=>254 | 29=>255 | 20=>328 | 21=>329 | 22=>330 | 23=>331 | 24=>332 | 25=>333 | 26=>334 | 27=>335 | 46=>345 | 47=>310 | 48=>311 | 49=>346 | 50=>347 | 57=>350 | n=>n,fun | 22=>212 | 24=>215 | 25=>216 | 3=>3 | 39=>141 | 0=>0 | 53=>297 | 55=>231 | 4=>4 | 46=>291 | 45=>290 | 50=>202 | 5=>5 | 9=>9 | 66=>343 | 70=>347 | 76=>369 | 77=>367 | n=>n,fun | n=>n⟩
theorem Tryz.sort237:Go.Proofs.SlLaysF0.n6 Tryz.prog Tryz.sort237_ren:={
 mixed:=by kernel_rfl
 f6:=⟨Tryz.f237.name,by decide,Tryz.func237.trans (congrArg some (by kernel_rfl))⟩
 f14:=⟨Tryz.f297.name,by decide,Tryz.func297.trans (congrArg some (by kernel_rfl))⟩
 f15:=Tryz.func181.trans (congrArg some (by kernel_rfl))
 f20:=⟨Tryz.f328.name,by decide,Tryz.func328.trans (congrArg some (by kernel_rfl))⟩
 f21:=⟨Tryz.f329.name,by decide,Tryz.func329.trans (congrArg some (by kernel_rfl))⟩
 f22:=⟨Tryz.f330.name,by decide,Tryz.func330.trans (congrArg some (by kernel_rfl))⟩
 f23:=⟨Tryz.f331.name,by decide,Tryz.func331.trans (congrArg some (by kernel_rfl))⟩
 f24:=⟨Tryz.f332.name,by decide,Tryz.func332.trans (congrArg some (by kernel_rfl))⟩
 f25:=⟨Tryz.f333.name,by decide,Tryz.func333.trans (congrArg some (by kernel_rfl))⟩
 f26:=⟨Tryz.f334.name,by decide,Tryz.func334.trans (congrArg some (by kernel_rfl))⟩
 f27:=⟨Tryz.f335.name,by decide,Tryz.func335.trans (congrArg some (by kernel_rfl))⟩
 f28:=Tryz.func254.trans (congrArg some (by kernel_rfl))
 f29:=Tryz.func255.trans (congrArg some (by kernel_rfl))
 f46:=⟨Tryz.f345.name,by decide,Tryz.func345.trans (congrArg some (by kernel_rfl))⟩
 f47:=Tryz.func310.trans (congrArg some (by kernel_rfl))
 f48:=Tryz.func311.trans (congrArg some (by kernel_rfl))
 f49:=⟨Tryz.f346.name,by decide,Tryz.func346.trans (congrArg some (by kernel_rfl))⟩
 f50:=⟨Tryz.f347.name,by decide,Tryz.func347.trans (congrArg some (by kernel_rfl))⟩
 f57:=⟨Tryz.f350.name,by decide,Tryz.func350.trans (congrArg some (by kernel_rfl))⟩
 t0:=Tryz.underlying0
 a0:=Tryz.isAgg0
 z0:=Tryz.sizeOf0
 v0:=Tryz.zeroValue0
 t3:=Tryz.underlying3
 a3:=Tryz.isAgg3
 z3:=Tryz.sizeOf3
 v3:=Tryz.zeroValue3
 t4:=Tryz.underlying4
 a4:=Tryz.isAgg4
 z4:=Tryz.sizeOf4
 v4:=Tryz.zeroValue4
 t5:=Tryz.underlying5
 a5:=Tryz.isAgg5
 z5:=Tryz.sizeOf5
 v5:=Tryz.zeroValue5
 t9:=Tryz.underlying9
 a9:=Tryz.isAgg9
 z9:=Tryz.sizeOf9
 v9:=Tryz.zeroValue9
 t22:=Tryz.underlying212
 a22:=Tryz.isAgg212
 z22:=Tryz.sizeOf212
 v22:=Tryz.zeroValue212
 t25:=Tryz.underlying216
 a25:=Tryz.isAgg216
 z25:=Tryz.sizeOf216
 v25:=Tryz.zeroValue216
 t39:=Tryz.underlying141
 a39:=Tryz.isAgg141
 z39:=Tryz.sizeOf141
 v39:=Tryz.zeroValue141
 t45:=Tryz.underlying290
 a45:=Tryz.isAgg290
 z45:=Tryz.sizeOf290
 v45:=Tryz.zeroValue290
 t46:=Tryz.underlying291
 a46:=Tryz.isAgg291
 z46:=Tryz.sizeOf291
 v46:=Tryz.zeroValue291
 t50:=Tryz.underlying202
 a50:=Tryz.isAgg202
 z50:=Tryz.sizeOf202
 v50:=Tryz.zeroValue202
 t53:=Tryz.underlying297
 a53:=Tryz.isAgg297
 z53:=Tryz.sizeOf297
 v53:=Tryz.zeroValue297
 t55:=Tryz.underlying231
 a55:=Tryz.isAgg231
 z55:=Tryz.sizeOf231
 v55:=Tryz.zeroValue231
 t66:=Tryz.underlying343
 a66:=Tryz.isAgg343
 z66:=Tryz.sizeOf343
 v66:=Tryz.zeroValue343
 t70:=Tryz.underlying347
 a70:=Tryz.isAgg347
 z70:=Tryz.sizeOf347
 v70:=Tryz.zeroValue347
 t76:=Tryz.underlying369
 a76:=Tryz.isAgg369
 z76:=Tryz.sizeOf369
 v76:=Tryz.zeroValue369
 t77:=Tryz.underlying367
 a77:=Tryz.isAgg367
 z77:=Tryz.sizeOf367
 v77:=Tryz.zeroValue367 }
end Go.Proofs
namespace Go.Proofs.YtfekpcimgncioaaGreatDoor
open Go.Proofs.Tryz
open Go.RowKit Go.Lith
set_option maxRecDepth 100000
attribute [local irreducible] ar cw gG bQ cO Code.wp
attribute [local congr] rC gX gY gZ iA iB lI iC iD iE iF iG iH iJ iK iL iM iN fJ fK iO iP iR iS iT lK dW dX cX dV iQ lJ fN fO fP iU iV lM
variable{w:aj}{c N cap:Nat}{es:Array c_}{ts:List T3}{A:Option Addr}{op:Bool}{E:List E3}
theorem gD:sR prog 30 pt:=by
 refine sR.agg (cs:=fun p=>#[.int .i64 p.x,.int .i64 p.y,.int .i64 p.z]) (fun _=>rfl) fT (fun e p=>?_) (fun p q=>?_) (fun p=>?_)
 ·
  refine wV.struct (d:=9999) fT fun f hf=>?_;simp only[an,cg,or_false] at hf;rcases hf with rfl | rfl | rfl <;> exact⟨_,cU bD rfl,wV.int (d:=9998) jE⟩
 · exact (oW 9998).iff ⟨fun h=>P3.eq h.1 h.2.1 h.2.2,fun h=>by subst h;exact⟨O,O,O⟩⟩
 · simp[pt,Instr.sameBits]
theorem aem{w0:aj}{is:List It}{g:Nat}{D:List (P3 × Bool)}{p:P3}(m:Mem w0 w is)(k:Nat)(hk:is[k]? = some (mI g es c))(hD1:bO pt bn D es c):Calls prog 114 [.map (some g),pt p].toArray w fun e w'=>∃v i,e=.returned v∧Mem w0 w' (is.set k i)∧(v=.bool (!(cG D p).getD false)∧∃es' c',i=mI g es' c'∧bO pt bn (fI D p true) es' c'):=by
 go_enter func114,ntmps114
 apply jP 10 [0,0] m;simp only[↓aD,aS];intro g1 u m;refine fG (eH (ek:=pt) (en:=bn) (k:=p) (v0:=false) underlying163 oU gD O O (m.p (k+1) hk) hD1) ?_;simp only[zz];apply aL 1 [0] m;simp only[↓aD];refine dK O ?_ ?_<;>intro hc1
 ·
  apply aJ 5 [] m;simp only[↓aD];exact aT O O ⟨_,mI g es c,O,by rw[Rm hk];exact m.tl,by rw[hc1];rfl,es,c,rfl,by rw[Lm (by cases hq:cG D p with | none=>rw[hq] at hc1;cases hc1 | some x=>rw[hq] at hc1;exact congrArg some hc1)];exact hD1⟩
 ·
  apply aJ 5 [0,0] m;simp only[↓aD,aS];refine nN (ek:=pt) (en:=bn) (a:=p) (v:=true) m (k+1) hk underlying163 gD O O O hD1 ?_;intro es1 c1 u m hD1;simp only[zF,zG] at m;apply aL 6 [] m;simp only[↓aD];exact aT O O ⟨_,_,O,m.tl,by rw[hc1];rfl,_,_,rfl,hD1⟩
theorem an1{w0 w:aj}{is:List It}{A:Option Addr}{n cap:Nat}{xs:List P3}(m:Mem w0 w is)(k:Nat)(hi:is[k]? = some (oI 30 3 A n cap (xs.flatMap dF)))(hsz:n<4611686018427387904) :
 Calls prog 128 [.slice A n cap,.func (.func 116) #[] #[]].toArray w fun e w'=>∃v i,e=.returned v∧Mem w0 w' (is.set k i)∧(v=.tuple #[]∧∃ys:List P3,i=oI 30 3 A n cap (ys.flatMap dF)∧ys.Perm xs∧ys.Pairwise fun a b=>ltOf qO b a=false) :=
 Cl (enc:=dF) Tryz.sort128 (fun w=>pN aH w) (fun w=>eG aA w) (fun _=>rfl) (by decide) Ns qO aby (fun x y=>Et) m k hi hsz
theorem ahe{g:Nat}{D:List (P3 × Bool)}(w:aj)(hM:jF w g es c)(hD:bO pt bn D es c)(hl:D.length≤1000000):dQ prog 115 [.map (some g),.func (.func 116) #[] #[]] w (OR 30 3 (fun xs=>∃ps:List P3,xs=ps.flatMap dF∧ps.Perm (D.map (·.1))∧ps.Pairwise fun a b=>¬b.Lt a) w):=by
 refine⟨bK func115 (by kernel_rfl),?_⟩;have m:=Mem.refl w
 go_enter func115,ntmps115
 apply fF 6 [0] m;simp only[↓aD];refine aB aO ?_;replace m:=m.nilO 30 3;apply aL 5 [0] m;simp only[↓aD];refine wM m underlying163 O (hM.ext m.ext) ?_;intro r1 u m;apply aL 2 [0] m;simp only[↓aD];refine bX [5] [6,9,10,11,12,13,14,15,16] (fun n vs wl=>∃(dn rs:List (P3 × Bool)) (A1:Option Addr) (n1 cap1:Nat) (sn:Array Nat),vs=[.slice A1 n1 cap1]∧Mem w wl [iI r1 g c sn,oI 30 3 A1 n1 cap1 ((dn.map (·.1)).flatMap dF)]∧(oK pt bn D es sn dn rs)∧(n1=dn.length)∧(n=rs.length)) ?_ ?_
 ·
  exact⟨_,[],D,none,0,0,#[],O,m,oK.start hD,O,O⟩
 ·
  intro n vs wr hI u K1 hK1;obtain⟨dn,rs,A1,n1,cap1,sn,rfl,m,hT,hn1,hn⟩:=hI;have hlen:=hT.len;simp only[zu,zF,zG];apply aJ 2 [0] m;simp only[↓aD];refine Nr m 0 O O (hM.ext m.ext) hD hT ?_;intro bb kk vv sn u m hN;simp only[zF,zG] at m;refine aB (qB O) ?_;apply aL 2 [0] m;simp only[↓aD];refine dK O ?_ ?_<;>intro hc1
  ·
   obtain⟨kp,kb,rs2,hp,hT2⟩:=Ip hc1 hN;apply aJ 4 [0] m;simp only[↓aD];refine fG (tU O (m.r 0 O) (hM.ext m.ext) hD hT2) ?_;simp only[zz];apply kD 7 [0,0,0] m;simp only[↓aD,eS,aS,aa];intro g2 u m;refine mJ O ?_;intro u g3 e_ h_ k_;replace m:=m.newB e_ h_ k_;simp only[zz];refine bL m 3 O O cT oV O (by decide) O O O (m.b 0 O).rowsO (gB O) (by omega) (by omega) ?_;intro A1 cap1 u m;simp only[zF,zG] at m;apply aL 3 [0] m;simp only[↓aD];exact hK1 rs2.length _ _ (by rw[hn,hp.length_eq];exact fg _) (by kernel_rfl) ⟨dn++[(kp,kb)],rs2,_,_,_,_,O,((m.reO 3 O ((m.o 3 O).as (by simp[dF]))).sel [false,false,true,true]),hT2,by simp[hn1],O⟩
  ·
   obtain rfl:=Io hc1 hN;apply aJ 5 [0] m;simp only[↓aD];refine mO m 1 adm O O (fun m=>an1 m 1 O (by omega)) ?_;rintro v i u m ⟨rfl,ys,rfl,hys,hso⟩;simp only[zF,zG] at m;apply aL 7 [] m;simp only[↓aD];exact aT O O ⟨_,O,m.ext,_,_,_,_,O,(m.o 1 O),_,O,hys.trans (hT.done.map _),hso.imp fun h=>by simpa[ltOf,mB] using h⟩
theorem Dl:sR prog 215 ed:=by
 refine sR.agg (cs:=fun p=>#[.int .i64 p.1.x,.int .i64 p.1.y,.int .i64 p.1.z,.int .i64 p.2.x,.int .i64 p.2.y,.int .i64 p.2.z]) (fun _=>rfl) uQ (fun e p=>?_) (fun p q=>?_) (fun p=>?_)
 ·
  refine wV.struct (d:=9999) uQ fun f hf=>?_;simp only[an,cg,or_false] at hf;rcases hf with rfl | rfl
  ·
   refine⟨_,cR aH aA O,?_⟩;refine wV.struct (d:=9998) fT fun f hf=>?_;simp only[an,cg,or_false] at hf;rcases hf with rfl | rfl | rfl
   · exact⟨_,cU bD O,wV.int (d:=9997) jE⟩
   · exact⟨_,cU bD O,wV.int (d:=9997) jE⟩
   · exact⟨_,cU bD O,wV.int (d:=9997) jE⟩
  ·
   refine⟨_,cR aH aA O,?_⟩;refine wV.struct (d:=9998) fT fun f hf=>?_;simp only[an,cg,or_false] at hf;rcases hf with rfl | rfl | rfl
   · exact⟨_,cU bD O,wV.int (d:=9997) jE⟩
   · exact⟨_,cU bD O,wV.int (d:=9997) jE⟩
   · exact⟨_,cU bD O,wV.int (d:=9997) jE⟩
 · exact (amO _).iff ⟨fun h=>Prod.ext (P3.eq h.1 h.2.1 h.2.2.1) (P3.eq h.2.2.2.1 h.2.2.2.2.1 h.2.2.2.2.2),fun h=>by subst h;simp only[and_self]⟩
 · simp[ed,Instr.sameBits]
theorem atg{x y:Int}{g1:Nat}(w:aj)(hB1:fR w g1 [.int .i64 x,.int .i64 y] 3):akw prog 125 [.slice (some ⟨g1,0,none⟩) 2 2] w (.int .i64 (if x=0 then y else x)):=by
 refine⟨aiy,?_⟩;have m:=gS.refl w
 go_enter func125,ntmps125
 refine bE fun K1 k1=>ao (aB aO (aM (k1 _ _ ?_)));refine bE fun K2 k2=>ao (aB aO (aM (k2 _ _ ?_)));refine bE fun K3 k3=>bE fun K4 k4=>ao (aB aI (aB (Kv O dH O) ?_));simp only[zz];refine aB aI (aM (k4 _ _ ?_));refine jt (pi 3 (By (bE fun K5 k5=>ao (aB (qW (m:=0) (n:=2) O O (by decide)) (aM (k5 _ _ ?_))))));refine bE fun K6 k6=>Bm O (jz (k6 _ _ ?_));refine bE fun K7 k7=>jt (bE fun K8 k8=>ao ?_);simp only[zz];refine aB (aF dH aU O O (by decide) (by omega) O) ?_;simp only[zz];refine aR O ((hB1.ext m.ext.ext).lies1 bD O) ?_;simp only[zz];refine aB aO (aM (k8 _ _ ?_));refine bE fun K9 k9=>ao (aB aI (aB aI (aB (rS O O) ?_)));simp only[zz];refine aM (k9 _ _ ?_);refine bG O ?_ ?_<;>intro hc2
 ·
  refine bE fun K10 k10=>ao (aB aI (aB aO (aM (k10 _ _ ?_))));refine jf ?_;simp only[zz];try simp only[dl,Exit.then,if_true]
  refine aT O O ?_;try simp only[zD,zE]
  exact⟨_,O,m.ext,by rw[if_neg hc2]⟩
 ·
  have hx:x=0:=by omega
  refine jz (k7 _ _ ?_);refine ao (aB (fB (m:=0) (n:=1) (r:=1) O O (by decide)) (aB aI (aM (lR (bE fun K11 k11=>ao (aB (qW (m:=1) (n:=2) O O (by decide)) (aM (k11 _ _ ?_))))))));refine bE fun K12 k12=>Bm O (jz (k12 _ _ ?_));refine bE fun K13 k13=>jt (bE fun K14 k14=>ao ?_);simp only[zz];refine aB (aF dH aU O O (by decide) (by omega) O) ?_;simp only[zz];refine aR O ((hB1.ext m.ext.ext).lies1 bD O) ?_;simp only[zz];refine aB aO (aM (k14 _ _ ?_));refine bE fun K15 k15=>ao (aB aI (aB aI (aB (rS O O) ?_)));simp only[zz];refine aM (k15 _ _ ?_);refine bG O ?_ ?_<;>intro hc2
  ·
   refine bE fun K16 k16=>ao (aB aI (aB aO (aM (k16 _ _ ?_))));refine jf ?_;simp only[zz];try simp only[dl,Exit.then,if_true]
   refine aT O O ?_;try simp only[zD,zE]
   exact⟨_,O,m.ext,by rw[if_pos hx]⟩
  ·
   have hy:y=0:=by omega
   refine jz (k13 _ _ ?_);refine ao (aB (fB (m:=1) (n:=1) (r:=2) O O (by decide)) (aB aI (aM (lR (bE fun K17 k17=>ao (aB (Gf (m:=2) (n:=2) O O (by decide)) (aM (k17 _ _ ?_))))))));refine bE fun K18 k18=>af9 O (wp_exit (k3 _ _ ?_));refine bE fun K19 k19=>ao (aB aI ?_);simp only[zz];refine aB aO (aM (k19 _ _ ?_));refine jf ?_;simp only[zz];try simp only[dl,Exit.then,if_true]
   refine aT O O ?_;try simp only[zD,zE]
   exact⟨_,O,m.ext,by rw[if_pos hx,hy]⟩
def ahf(a b:E3):Int:=if qO a.1 b.1=0 then qO a.2 b.2 else qO a.1 b.1
theorem nR{p q:P3}:qO p q=0↔p=q:=by
 unfold qO;rcases P3.lt_tri p q with h | h | h
 · rw[if_pos h];exact⟨fun e=>(by cases e),fun e=>absurd (e▸h) (P3.lt_irrefl _)⟩
 · subst h;rw[if_neg (P3.lt_irrefl _),if_neg (P3.lt_irrefl _)];exact⟨fun _=>rfl,fun _=>rfl⟩
 · rw[if_neg (fun k=>P3.lt_irrefl _ (P3.lt_trans h k)),if_pos h];exact⟨fun e=>(by cases e),fun e=>absurd (e▸h) (P3.lt_irrefl _)⟩
theorem Jz(a b:E3):(ahf a b<0)↔Nu a b:=by
 unfold ahf Nu;split
 ·
  rename_i h;have h':=nR.1 h;rw[mB];exact⟨fun k=>.inr ⟨h',k⟩,fun k=>k.elim (fun k=>absurd (h'▸k) (P3.lt_irrefl _)) fun k=>k.2⟩
 ·
  rename_i h;rw[mB];exact⟨.inl,fun k=>k.elim id fun k=>absurd (nR.2 k.1) h⟩
instance:Inhabited E3:=⟨(⟨0,0,0⟩,⟨0,0,0⟩)⟩
theorem aky:Go.Sort.SWO (Go.Proofs.ltOf ahf) where
 irrefl a:=by simp only[Go.Proofs.ltOf,decide_eq_false_iff_not,Jz];exact Nu.irrefl a
 trans x y z h1 h2:=by
  simp only[Go.Proofs.ltOf,decide_eq_true_eq,Jz] at *
  exact h1.trans h2
 ntrans x y z h1 h2:=by
  simp only[Go.Proofs.ltOf,decide_eq_false_iff_not,Jz] at *
  intro h;rcases Nu.tri y x with k | k | k
  · exact absurd (k.trans h) (by first | exact h2 | exact h1)
  · subst k;first | exact h2 h | exact h1 h
  · first | exact h1 k | exact h2 k
theorem an2{p q:E3}:sZ prog 168 [ed p,ed q] (.int .i64 (ahf p q)):=by
 intro w;refine⟨bK func168 (by kernel_rfl),?_⟩;have m:=gS.refl w
 go_enter func168,ntmps168
 refine bE fun K1 k1=>ao (oS m O ?_);intro g1 u m;simp only[zz];refine oS m O ?_;intro g2 u m;refine aB aO (aM (k1 _ _ ?_));refine bE fun K2 k2=>?_;simp only[zz];refine Qy m 10 aC (by kernel_rfl) ?_;simp only[zy];refine aG (aV (c:=2) uQ O aA O O) ?_;simp only[zz];refine Ur O (fun u m=>((m.b 1 O).lies aH aA O O)) ?_;simp only[zz,zy,au,aa,ag,ad];refine aG (aV (c:=2) uQ O aA O O) ?_;simp only[zz];refine Ur O (fun u m=>((m.b 0 O).lies aH aA O O)) ?_;simp only[zz,zy,au,aa,ag,ad];refine Ia O O (Et (p:=p.1) (q:=q.1)) (aG (aV (c:=2) uQ O aA O O) ?_);simp only[zz];refine Ur O (fun u m=>((m.b 1 O).lies aH aA O O)) ?_;simp only[zz,zy,au,aa,ag,ad];refine aG (aV (c:=2) uQ O aA O O) ?_;simp only[zz];refine Ur O (fun u m=>((m.b 0 O).lies aH aA O O)) ?_;simp only[zz,zy,au,aa,ag,ad];refine Ia O O (Et (p:=p.2) (q:=q.2)) (bC ?_);intro u m;simp only[zz];refine akx m dH (z:=.int .i64 0) (by kernel_rfl) O O O O O ?_;intro g3 u m;simp only[zz];refine aay m O O (atg _ (m.b 0 O)) ?_;intro u m;refine aB aO (aM (k2 _ _ ?_));refine jf ?_;simp only[zz];try simp only[dl,Exit.then,if_true]
 refine aT O O ?_;try simp only[zD,zE]
 exact⟨_,O,m.ext,O⟩
theorem aaz{w0:aj}{is:List It}{g:Nat}{D:List (E3 × Bool)}{p:E3}(m:Mem w0 w is)(k:Nat)(hk:is[k]? = some (mI g es c))(hD1:bO ed bn D es c):Calls prog 235 [.map (some g),ed p].toArray w fun e w'=>∃v i,e=.returned v∧Mem w0 w' (is.set k i)∧(v=.bool (!(cG D p).getD false)∧∃es' c',i=mI g es' c'∧bO ed bn (fI D p true) es' c'):=by
 go_enter func235,ntmps235
 apply jP 10 [0,0] m;simp only[↓aD,vD];intro g1 u m;refine fG (eH (ek:=ed) (en:=bn) (k:=p) (v0:=false) underlying208 oU Dl O O (m.p (k+1) hk) hD1) ?_;simp only[zz];apply aL 1 [0] m;simp only[↓aD];refine dK O ?_ ?_<;>intro hc1
 ·
  apply aJ 5 [] m;simp only[↓aD];exact aT O O ⟨_,mI g es c,O,by rw[Rm hk];exact m.tl,by rw[hc1];rfl,es,c,rfl,by rw[Lm (by cases hq:cG D p with | none=>rw[hq] at hc1;cases hc1 | some x=>rw[hq] at hc1;exact congrArg some hc1)];exact hD1⟩
 ·
  apply aJ 5 [0,0] m;simp only[↓aD,vD];refine nN (ek:=ed) (en:=bn) (a:=p) (v:=true) m (k+1) hk underlying208 Dl O O O hD1 ?_;intro es1 c1 u m hD1;simp only[zF,zG] at m;apply aL 6 [] m;simp only[↓aD];exact aT O O ⟨_,_,O,m.tl,by rw[hc1];rfl,_,_,rfl,hD1⟩
theorem ack(p:E3):∀v∈dD p,v.oneCell'=true:=fun v h=>by
 simp only[dD,an,cg,or_false] at h;rcases h with rfl | rfl | rfl | rfl | rfl | rfl <;> rfl
theorem an3{w0 w:aj}{is:List It}{A:Option Addr}{n cap:Nat}{xs:List E3}(m:Mem w0 w is)(k:Nat)(hi:is[k]? = some (oI 215 6 A n cap (xs.flatMap dD)))(hsz:n<4611686018427387904) :
 Calls prog 237 [.slice A n cap,.func (.func 168) #[] #[]].toArray w fun e w'=>∃v i,e=.returned v∧Mem w0 w' (is.set k i)∧(v=.tuple #[]∧∃ys:List E3,i=oI 215 6 A n cap (ys.flatMap dD)∧ys.Perm xs∧ys.Pairwise fun a b=>ltOf ahf b a=false) :=
 Cl (enc:=dD) Tryz.sort237 (fun w=>pN Ef w) (fun w=>eG qZ w) (fun _=>rfl) (by decide) ack ahf aky (fun x y=>an2) m k hi hsz
theorem ahg{g:Nat}{D:List (E3 × Bool)}(w:aj)(hM:jF w g es c)(hD:bO ed bn D es c)(hl:D.length≤100000000):dQ prog 167 [.map (some g),.func (.func 168) #[] #[]] w (OR 215 6 (fun xs=>∃ps:List E3,xs=ps.flatMap dD∧ps.Perm (D.map (·.1))∧ps.Pairwise fun a b=>¬Nu b a) w):=by
 refine⟨bK func167 (by kernel_rfl),?_⟩;have m:=Mem.refl w
 go_enter func167,ntmps167
 apply fF 6 [0] m;simp only[↓aD];refine aB aO ?_;replace m:=m.nilO 215 6;apply aL 5 [0] m;simp only[↓aD];refine wM m underlying208 O (hM.ext m.ext) ?_;intro r1 u m;apply aL 2 [0] m;simp only[↓aD];refine bX [5] [6,9,10,11,12,13,14,15,16] (fun n vs wl=>∃(dn rs:List (E3 × Bool)) (A1:Option Addr) (n1 cap1:Nat) (sn:Array Nat),vs=[.slice A1 n1 cap1]∧Mem w wl [iI r1 g c sn,oI 215 6 A1 n1 cap1 ((dn.map (·.1)).flatMap dD)]∧(oK ed bn D es sn dn rs)∧(n1=dn.length)∧(n=rs.length)) ?_ ?_
 ·
  exact⟨_,[],D,none,0,0,#[],O,m,oK.start hD,O,O⟩
 ·
  intro n vs wr hI u K1 hK1;obtain⟨dn,rs,A1,n1,cap1,sn,rfl,m,hT,hn1,hn⟩:=hI;have hlen:=hT.len;simp only[zu,zF,zG];apply aJ 2 [0] m;simp only[↓aD];refine Nr m 0 O O (hM.ext m.ext) hD hT ?_;intro bb kk vv sn u m hN;simp only[zF,zG] at m;refine aB (qB O) ?_;apply aL 2 [0] m;simp only[↓aD];refine dK O ?_ ?_<;>intro hc1
  ·
   obtain⟨kp,kb,rs2,hp,hT2⟩:=Ip hc1 hN;apply aJ 4 [0] m;simp only[↓aD];refine fG (tU O (m.r 0 O) (hM.ext m.ext) hD hT2) ?_;simp only[zz];apply kD 7 [0,0,0] m;simp only[↓aD,Cz,vD,aa];intro g2 u m;refine adx O ?_;intro u g3 e_ h_ k_;replace m:=m.newB e_ h_ k_;simp only[zz];refine bL m 3 O O underlying212 amL O (by decide) O O O (m.b 0 O).rowsO (gB O) (by omega) (by omega) ?_;intro A1 cap1 u m;simp only[zF,zG] at m;apply aL 3 [0] m;simp only[↓aD];exact hK1 rs2.length _ _ (by rw[hn,hp.length_eq];exact fg _) (by kernel_rfl) ⟨dn++[(kp,kb)],rs2,_,_,_,_,O,((m.reO 3 O ((m.o 3 O).as (by simp[dD]))).sel [false,false,true,true]),hT2,by simp[hn1],O⟩
  ·
   obtain rfl:=Io hc1 hN;apply aJ 5 [0] m;simp only[↓aD];refine mO m 1 (bK func237 (by kernel_rfl)) O O (fun m=>an3 m 1 O (by omega)) ?_;rintro v i u m ⟨rfl,ys,rfl,hys,hso⟩;simp only[zF,zG] at m;apply aL 7 [] m;simp only[↓aD];exact aT O O ⟨_,O,m.ext,_,_,_,_,O,(m.o 1 O),_,O,hys.trans (hT.done.map _),hso.imp fun h=>by simpa[ltOf,Jz] using h⟩
theorem Tl{all out:List E3}{e:E3}(h:0<lV all (e.2,e.1)∨0<lV out e):pY all out e=out:=if_pos h
theorem Ye{all out:List E3}{e:E3}{k:Nat}(h1:¬0<lV all (e.2,e.1))(h2:¬0<lV out e)(h:ago out e=k):pY all out e=out.take k++[e]++out.drop k:=by
 rw[pY,if_neg (fun h=>h.elim h1 h2),adh,h]
theorem arc{a:Addr}{e:E3}(h:mX w a (dD e)):mX w a [.int .i64 e.1.x,.int .i64 e.1.y,.int .i64 e.1.z,.int .i64 e.2.x,.int .i64 e.2.y,.int .i64 e.2.z]:=h
theorem gt0{n:Nat}:((0:Int)<(n:Int))↔0<n:=by omega
theorem ath(w:aj)(hT:bV w A N ts)(hN:N≤100000000):dQ prog 28 [.slice A N cap] w (SL 56 6 ((cN ts).flatMap dD) (cN ts).length w):=by
 refine⟨bK func28 (by kernel_rfl),?_⟩;have m:=Mem.refl w
 go_enter func28,ntmps28
 apply fF 7 [0] m;simp only[↓aD];refine bJ O O (afC _ (hT.ext m.ext) (by omega)) ?_;rintro v u e_ ⟨A3,cap3,n3,hn3,rfl,h_⟩;replace m:=m.newO e_ h_;have he3:=uC ts;have htl:=hT.len;apply aL 4 [0] m;simp only[↓aD];refine aB aO ?_;replace m:=m.nilO 56 6;apply aL 7 [0] m;simp only[↓aD];refine bX [4,5] [6,7,8,9,12,13,14,15,16,17,18,19,20,21,22,23,24,25,26,27,28,29,30,31,32,33,34,35,36,37,38,39,40,41,42,43,44,45,46,47,48,49,50,51,52,53,54,55,56,57,58,59,60,61,62,63] (fun n vs wl=>∃(k n4 cap4:Nat) (A4:Option Addr),vs=[.slice A4 n4 cap4,.int .i64 (k:Int)]∧Mem w wl [oI 56 6 A4 n4 cap4 ((((aX ts).take k).foldl (pY (aX ts)) []).flatMap dD),oI 56 6 A3 n3 cap3 ((aX ts).flatMap dD)]∧(n4≤k)∧(k≤n3)∧(n=n3-k)) ?_ ?_
 ·
  exact⟨_,0,_,_,_,O,m,aq _,cv _,O⟩
 ·
  intro n vs wr hI u K1 hK1;obtain⟨k,n4,cap4,A4,rfl,m,hl4,hk,hn⟩:=hI;simp only[zu,zF,zG];apply aJ 8 [0,0] m;simp only[↓aD,abX];refine bG O ?_ ?_<;>intro hc1
  ·
   obtain⟨e,he⟩:∃e,(aX ts)[k]? = some e:=⟨_,am (by omega)⟩
   obtain⟨gO,rfl⟩:=(m.o 1 rfl).some (by omega);apply aJ 7 [0] m;simp only[↓aD];refine aB (aF pZ jQ O O (by omega) (by omega) (cQ (ah _))) ?_;simp only[zz];refine aR O ((arc ((m.o 1 O).at Oq he)).lies Gn jQ) ?_;simp only[zz];apply kD 5 [0] m;simp only[↓aD,Xt,Fx,aa];intro g1 u m;obtain⟨B,hB⟩:∃B,B=((aX ts).take k).foldl (pY (aX ts)) []:=⟨_,rfl⟩
   rw[←hB] at m;have h4:B.length=n4:=(m.o 1 rfl).num Oq (by decide);have hle4:=(m.o 1 rfl).le;have hs:=agp (all:=aX ts) he;rw[←hB] at hs;rcases Nat.eq_zero_or_pos (lV (aX ts) (e.2,e.1)) with hz | hz
   ·
    apply aW 7 [0,0,0] m;simp only[↓aD,Su,aS,Fy,ad,ag,aa];refine⟨by omega,?_⟩;refine dM m O O (Pm (es:=aX ts) (e:=(e.2,e.1)) _ ((m.o 2 O).lat Oq (by decide)) (by omega)) ?_;rintro v u m rfl;apply aL 4 [2,0,0] m;simp only[↓aD,Fx];refine⟨by omega,?_⟩;refine eE O (dM m O O (Pm (es:=B) (e:=e) _ ((m.o 1 O).lat Oq (by decide)) (by omega)) ?_);rintro v u m rfl;apply aL 3 [0,0] m;simp only[↓aD];refine bG O ?_ ?_<;>intro hc2
    ·
     rw[Tl (.inr (gt0.1 hc2))] at hs;apply aJ 6 [0] m;simp only[↓aD];refine⟨by omega,?_⟩;exact hK1 (n3-(k+1)) _ _ (by omega) (by kernel_rfl) ⟨k+1,_,_,_,O,((m.reO 1 O ((m.o 1 O).as (by rw[hs]))).sel [false,true,true]),by omega,by omega,O⟩
    ·
     have hz2:¬0<lV B e:=fun h=>hc2 (gt0.2 h);apply aJ 7 [0] m;simp only[↓aD];refine bX [7] [8,36,37,38,39,40,41,42,43,44,45,46,47,48,49] (fun n vs wl=>∃(j:Nat),vs=[.int .i64 (j:Int)]∧Mem w wl [bI g1 (dD e) 56,oI 56 6 A4 n4 cap4 ((B).flatMap dD),oI 56 6 (some ⟨gO,0,none⟩) n3 cap3 ((aX ts).flatMap dD)]∧(Pre (fun x=>ltE x e) B j)∧(j≤n4)∧(n=n4-j)) ?_ ?_
     ·
      exact⟨_,0,O,m,Pre.zero,cv _,O⟩
     ·
      intro n vs wr hI u K2 hK2;obtain⟨j,rfl,m,hpre,hj,hn2⟩:=hI;simp only[zu,zF,zG];apply aJ 8 [0,0] m;simp only[↓aD,abX];refine bG O ?_ ?_<;>intro hc3
      ·
       obtain⟨x,hx⟩:∃x,B[j]? = some x:=⟨_,am (by omega)⟩
       obtain⟨gP,rfl⟩:=(m.o 1 rfl).some (by omega);apply aJ 3 [0] m;simp only[↓aD];refine mq m aC (by kernel_rfl) (aG aI (aG aI ?_));simp only[zz];refine aG (aF pZ jQ O O (by omega) (by omega) (cQ (ah _))) ?_;simp only[zz];refine ql O (fun u m=>(((m.o 1 O).at Oq hx).lies Gn jQ)) ?_;simp only[zz];refine ql O (fun u m=>((m.b 0 O).full Gn jQ)) ?_;simp only[zz];refine eX O O (ajO (a:=x) (b:=e)) (aG aO (bC ?_));intro u m;apply aW 6 [0] m;simp only[↓aD];refine gF O ?_ ?_<;>intro hc4
       ·
        have hpos:ago B e=j:=aoT hpre hx (by simpa using hc4);rw[Ye (by omega) hz2 hpos] at hs;apply aJ 3 [0] m;simp only[↓aD];refine aB aO ?_;replace m:=m.nilO 56 6;apply aL 6 [0] m;simp only[↓aD];refine aB (mF pZ jQ O O (ah _) (by omega) (by omega)) ?_;simp only[zz];refine bL m 0 O O pZ Cg O (by decide) O O (by rw[kB Oq,bp,gr (show j≤B.length by omega)]) ((((m.o 2 O).lat Oq (by decide)).take (k:=j) (by omega)).cells Oq (by decide)) (Zn _) (by omega) (by omega) ?_;intro A9 cap9 u m;simp only[zF,zG] at m;rw[b_,au] at m;simp only[au];apply aL 6 [1,0] m;simp only[↓aD,Fx];refine Ll O ?_;intro u g2 e_ h_ k_;replace m:=m.newB e_ h_ k_;simp only[zz];refine bL m 1 O O pZ Cg O (by decide) O O O (m.b 0 O).rowsO (gB O) (by omega) (by omega) ?_;intro A9 cap9 u m;simp only[zF,zG] at m;apply aL 6 [0] m;simp only[↓aD];refine aB (uA pZ jQ O O (ah _) (by omega) (by omega) O) ?_;simp only[zz];refine bL m 1 O O pZ Cg O (by decide) O O (by rw[kB Oq,fl,h4]) (((m.o 3 O).lat Oq (by decide)).cellsD Oq (by decide) (by omega)) (Zn _) (by omega) (by omega) ?_;intro A9 cap9 u m;simp only[zF,zG] at m;refine aB aO ?_;simp only[zz];replace m:=(m.pull 1 O).mv 2 O;simp only[dY,dZ,zF,zG] at m;apply aL 7 [0] m;simp only[↓aD];refine⟨by omega,?_⟩;exact hK1 (n3-(k+1)) _ _ (by omega) (by kernel_rfl) ⟨k+1,_,_,_,O,((m.reO 2 O ((m.o 2 O).as (by rw[hs,ay,ay];rfl))).sel [false,false,true,true]),by omega,by omega,rfl⟩
       ·
        have hpre2:=hpre.step hx (by simpa using hc4);apply aJ 7 [0] m;simp only[↓aD];refine⟨by omega,?_⟩;exact hK2 (n4-(j+1)) _ _ (by omega) (by kernel_rfl) ⟨j+1,O,m,hpre2,by omega,O⟩
      ·
       have hjl:j=B.length:=by omega
       have hpos:ago B e=j:=by rw[hjl] at hpre ⊢;exact ait hpre
       rw[Ye (by omega) hz2 hpos] at hs;apply aJ 3 [0] m;simp only[↓aD];refine aB aO ?_;replace m:=m.nilO 56 6;apply aL 6 [0] m;simp only[↓aD];refine aB (mF pZ jQ O O (ah _) (by omega) (by omega)) ?_;simp only[zz];refine bL m 0 O O pZ Cg O (by decide) O O (by rw[kB Oq,bp,gr (show j≤B.length by omega)]) ((((m.o 2 O).lat Oq (by decide)).take (k:=j) (by omega)).cells Oq (by decide)) (Zn _) (by omega) (by omega) ?_;intro A9 cap9 u m;simp only[zF,zG] at m;rw[b_,au] at m;simp only[au];apply aL 6 [1,0] m;simp only[↓aD,Fx];refine Ll O ?_;intro u g2 e_ h_ k_;replace m:=m.newB e_ h_ k_;simp only[zz];refine bL m 1 O O pZ Cg O (by decide) O O O (m.b 0 O).rowsO (gB O) (by omega) (by omega) ?_;intro A9 cap9 u m;simp only[zF,zG] at m;apply aL 6 [0] m;simp only[↓aD];refine aB (uA pZ jQ O O (ah _) (by omega) (by omega) O) ?_;simp only[zz];refine bL m 1 O O pZ Cg O (by decide) O O (by rw[kB Oq,fl,h4]) (((m.o 3 O).lat Oq (by decide)).cellsD Oq (by decide) (by omega)) (Zn _) (by omega) (by omega) ?_;intro A9 cap9 u m;simp only[zF,zG] at m;refine aB aO ?_;simp only[zz];replace m:=(m.pull 1 O).mv 2 O;simp only[dY,dZ,zF,zG] at m;apply aL 7 [0] m;simp only[↓aD];refine⟨by omega,?_⟩;exact hK1 (n3-(k+1)) _ _ (by omega) (by kernel_rfl) ⟨k+1,_,_,_,O,((m.reO 2 O ((m.o 2 O).as (by rw[hs,ay,ay];rfl))).sel [false,false,true,true]),by omega,by omega,rfl⟩
   ·
    rw[Tl (.inl hz)] at hs;apply aW 7 [0,0,0] m;simp only[↓aD,Su,aS,Fy,ad,ag,aa];refine⟨by omega,?_⟩;refine dM m O O (Pm (es:=aX ts) (e:=(e.2,e.1)) _ ((m.o 2 O).lat Oq (by decide)) (by omega)) ?_;rintro v u m rfl;apply aL 15 [1,0] m;simp only[↓aD];refine⟨by omega,?_⟩;exact hK1 (n3-(k+1)) _ _ (by omega) (by kernel_rfl) ⟨k+1,_,_,_,O,((m.reO 1 O ((m.o 1 O).as (by rw[hs]))).sel [false,true,true]),by omega,by omega,O⟩
  ·
   have hkN:k=(aX ts).length:=by omega
   rw[hkN,fp] at m;apply aJ 7 [] m;simp only[↓aD];exact aT O O ⟨_,O,m.ext,⟨_,_,_,((m.o 0 O).num Oq (by decide)).symm,O,(m.o 0 O)⟩⟩
theorem afL(h:ts.any rX=true):fH op ts=20:=by simp[fH,h]
theorem afM(h:ts.any rX=false)(h2:(aX ts).any (fun e=>decide (1<lV (aX ts) e))=true):fH op ts=21:=by rw[fH,h,h2];rfl
theorem afN(h:ts.any rX=false)(h2:(aX ts).any (fun e=>decide (1<lV (aX ts) e))=false)(h3:(!op&&decide (0<(cN ts).length))=false)(h4:(dR ts).any (Ie ts)=true):fH op ts=23:=by rw[fH,h,h2,h3,h4];rfl
theorem akz(h:ts.any rX=false)(h2:(aX ts).any (fun e=>decide (1<lV (aX ts) e))=false)(h3:(!op&&decide (0<(cN ts).length))=false)(h4:(dR ts).any (Ie ts)=false):fH op ts=0:=by rw[fH,h,h2,h3,h4];rfl
theorem gt1{n:Nat}:((1:Int)<(n:Int))↔1<n:=by omega
theorem an4(w:aj)(hT:bV w A N ts)(hN:N≤100000000):dQ prog 79 [.slice A N cap,.bool true] w (fun v _=>v=.int .i64 (fH true ts)):=by
 refine⟨bK func79 (by kernel_rfl),?_⟩;have m:=Mem.refl w;have htl:=hT.len;have he3:=uC ts;have hcl:=Nl ts
 go_enter func79,ntmps79
 apply fF 10 [0] m;simp only[↓aD];refine bX [5] [4,11,12,13,14,15,16,17,18,19,20,21,22,23,24,25,26,27,28,29,30,31,32,33,34,35,36,37,38,39,40,41,42,43,44,45,46,47,48,49,50,51,52,53] (fun n vs wl=>∃(k:Nat),vs=[.int .i64 (k:Int)]∧Mem w wl []∧((ts.take k).any rX=false)∧(k≤N)∧(n=N-k)) ?_ ?_
 ·
  exact⟨_,0,O,m,O,cv _,O⟩
 ·
  intro n vs wr hI u K1 hK1;obtain⟨k,rfl,m,hd0,hk,hn⟩:=hI;simp only[zu,zF,zG];apply aJ 8 [0,0] m;simp only[↓aD,kA];refine bG O ?_ ?_<;>intro hc1
  ·
   obtain⟨t,ht,_,a,rfl,hrow⟩:=hT.get (i:=k) (by omega);apply aJ 4 [0] m;simp only[↓aD];refine mq m aC (by kernel_rfl) (aG aI (aG aI ?_));simp only[zz];refine aG (aF cH aP O O (by omega) (by omega) (cQ (ah _))) (eC 1 [] ?_);simp only[↓aD,bT,ad,ag,aa];refine⟨by omega,?_⟩;refine ql O (fun u m=>((mX.cor ((hrow.ext m.ext)) (c:=0) (by decide)).lies aH aA)) ?_;simp only[zz];refine aG aI (aG aI ?_);simp only[zz];refine aG (aF cH aP O O (by omega) (by omega) (cQ (ah _))) (eC 1 [] ?_);simp only[↓aD,bT,ad,ag,aa];refine⟨by omega,?_⟩;refine ql O (fun u m=>((mX.cor ((hrow.ext m.ext)) (c:=1) (by decide)).lies aH aA)) ?_;simp only[zz];refine aG (cK O O) (aG aI (gM O (fun hb=>aI) (gM O (fun hb=>aI) ?_)));simp only[zz];refine gM O (fun hb=>aF cH aP (aY hb O) (aY hb O) (by omega) (by omega) (cQ (ah _))) (gM O (fun hb=>aK cM aA (aY hb O) O (by decide) (by decide) O) ?_);simp only[zz];refine pX O (fun hb u m=>aZ (aY hb O) ((mX.cor ((hrow.ext m.ext)) (c:=1) (by decide)).lies aH aA)) (gM O (fun hb=>aI) (gM O (fun hb=>aI) ?_));simp only[zz];refine gM O (fun hb=>aF cH aP (aY hb O) (aY hb O) (by omega) (by omega) (cQ (ah _))) (gM O (fun hb=>aK cM aA (aY hb O) O (by decide) (by decide) O) ?_);simp only[zz];refine pX O (fun hb u m=>aZ (aY hb O) ((mX.cor ((hrow.ext m.ext)) (c:=2) (by decide)).lies aH aA)) (gM O (fun hb=>cK (aY hb O) (aY hb O)) (aG (cE O O O) (aG aI (gM O (fun hb=>aI) ?_))));simp only[zz];refine gM O (fun hb=>aI) ?_;simp only[zz];refine gM O (fun hb=>aF cH aP (aY hb O) (aY hb O) (by omega) (by omega) (cQ (ah _))) (gM O (fun hb=>aK cM aA (aY hb O) O (by decide) (by decide) O) ?_);simp only[zz];refine pX O (fun hb u m=>aZ (aY hb O) ((mX.cor ((hrow.ext m.ext)) (c:=2) (by decide)).lies aH aA)) (gM O (fun hb=>aI) (gM O (fun hb=>aI) ?_));simp only[zz];refine gM O (fun hb=>aF cH aP (aY hb O) (aY hb O) (by omega) (by omega) (cQ (ah _))) (gM O (fun hb=>aK cM aA (aY hb O) O (by decide) (by decide) O) ?_);simp only[zz];refine pX O (fun hb u m=>aZ (aY hb O) ((mX.cor ((hrow.ext m.ext)) (c:=0) (by decide)).lies aH aA)) (gM O (fun hb=>cK (aY hb O) (aY hb O)) (aG (cE O O O) (bC ?_)));intro u m;refine gc ?_;simp only[zz];refine gF O ?_ ?_<;>intro hc2
   ·
    have hd:=If (p:=rX) ht (Zo.symm.trans hc2);apply aJ 5 [] m;simp only[↓aD];refine aT O O ?_;try simp only[zD,zE]
    exact⟨_,O,m.ext,by rw[afL hd]⟩
   ·
    have hd1:(ts.take (k+1)).any rX=false:=by rw[xE ht,hd0,←Zo];exact hc2
    apply aJ 7 [0] m;simp only[↓aD];refine⟨by omega,?_⟩;exact hK1 (N-(k+1)) _ _ (by omega) (by kernel_rfl) ⟨k+1,O,m,hd1,by omega,O⟩
  ·
   have hkN:k=N:=by omega
   rw[hkN,show ts.take N=ts from a_ (by omega)] at hd0;apply aJ 4 [0] m;simp only[↓aD];refine bJ O O (afC _ (hT.ext m.ext) (by omega)) ?_;rintro v u e_ ⟨A3,cap3,n3,hn3,rfl,h_⟩;replace m:=m.newO e_ h_;have hle3:=(m.o 0 rfl).le;apply aL 8 [0] m;simp only[↓aD];refine bX [7] [4,56,57,58,59,60,61,62,63,64,65,66,67,68] (fun n vs wl=>∃(k:Nat),vs=[.int .i64 (k:Int)]∧Mem w wl [oI 56 6 A3 n3 cap3 ((aX ts).flatMap dD)]∧(((aX ts).take k).any (fun e=>decide (1<lV (aX ts) e))=false)∧(k≤n3)∧(n=n3-k)) ?_ ?_
   ·
    exact⟨_,0,O,m,O,cv _,O⟩
   ·
    intro n vs wr hI u K2 hK2;obtain⟨k,rfl,m,hc0,hk,hn⟩:=hI;simp only[zu,zF,zG];apply aJ 8 [0,0] m;simp only[↓aD,abX];refine bG O ?_ ?_<;>intro hc3
    ·
     obtain⟨e,he⟩:∃e,(aX ts)[k]? = some e:=⟨_,am (by omega)⟩
     obtain⟨gO,rfl⟩:=(m.o 0 rfl).some (by omega);apply aJ 8 [0] m;simp only[↓aD];refine aB (aF pZ jQ O O (by omega) (by omega) (cQ (ah _))) ?_;simp only[zz];refine aR O (((m.o 0 O).at Oq he).lies Gn jQ) ?_;simp only[zz];refine dM m O O (Pm (es:=aX ts) (e:=e) _ ((m.o 0 O).lat Oq (by decide)) (by omega)) ?_;rintro v u m rfl;apply aL 2 [0,0] m;simp only[↓aD];refine bG O ?_ ?_<;>intro hc4
     ·
      have hc:=If (p:=(fun e=>decide (1<lV (aX ts) e))) he (decide_eq_true (gt1.1 hc4));apply aJ 5 [] m;simp only[↓aD];refine aT O O ?_;try simp only[zD,zE]
      exact⟨_,O,m.ext,by rw[afM hd0 hc]⟩
     ·
      have hc01:((aX ts).take (k+1)).any (fun e=>decide (1<lV (aX ts) e))=false:=by rw[xE he,hc0,decide_eq_false (fun h=>hc4 (gt1.2 h))];rfl
      apply aJ 7 [0] m;simp only[↓aD];refine⟨by omega,?_⟩;exact hK2 (n3-(k+1)) _ _ (by omega) (by kernel_rfl) ⟨k+1,O,m,hc01,by omega,O⟩
    ·
     have hkN:k=(aX ts).length:=by omega
     rw[hkN,fp] at hc0;apply aJ 18 [0] m;simp only[↓aD,Bool.not_true,fh];refine bJ O O (agY _ (hT.ext m.ext) hN) ?_;rintro v u e_ ⟨A8,cap8,n8,hn8,rfl,h_⟩;replace m:=m.newO e_ h_;have hle8:=(m.o 0 rfl).le;apply aL 8 [0] m;simp only[↓aD];refine bX [9] [4,10,79,80,81,82,83,84,85,86,87,88,89,90,91] (fun n vs wl=>∃(k:Nat),vs=[.int .i64 (k:Int)]∧Mem w wl [oI 30 3 A8 n8 cap8 ((dR ts).flatMap lA)]∧(((dR ts).take k).any (Ie ts)=false)∧(k≤n8)∧(n=n8-k)) ?_ ?_
     ·
      exact⟨_,0,O,(m.sel [true,false]),O,cv _,O⟩
     ·
      intro n vs wr hI u K3 hK3;obtain⟨k,rfl,m,hp0,hk,hn⟩:=hI;simp only[zu,zF,zG];apply aJ 8 [0,0] m;simp only[↓aD,kZ];refine bG O ?_ ?_<;>intro hc6
      ·
       obtain⟨x,hx⟩:∃x,(dR ts)[k]? = some x:=⟨_,am (by omega)⟩
       obtain⟨gO,rfl⟩:=(m.o 0 rfl).some (by omega);apply aJ 8 [0] m;simp only[↓aD];refine aB (aF cT aA O O (by omega) (by omega) (cQ (ah _))) ?_;simp only[zz];refine aR O (((m.o 0 O).at yO hx).lies aH aA) ?_;simp only[zz];refine dM m O O (agZ (p:=x) _ (hT.ext m.ext) (by omega)) ?_;rintro v u m rfl;apply aL 6 [0] m;simp only[↓aD];refine gF O ?_ ?_<;>intro hc7
       ·
        have hp:=If (p:=Ie ts) hx hc7;apply aJ 5 [] m;simp only[↓aD];refine aT O O ?_;try simp only[zD,zE]
        exact⟨_,O,m.ext,by rw[afN hd0 hc0 O hp]⟩
       ·
        have hp1:((dR ts).take (k+1)).any (Ie ts)=false:=by rw[xE hx,hp0,hc7];rfl
        apply aJ 7 [0] m;simp only[↓aD];refine⟨by omega,?_⟩;exact hK3 (n8-(k+1)) _ _ (by omega) (by kernel_rfl) ⟨k+1,O,m,hp1,by omega,O⟩
      ·
       have hkN:k=(dR ts).length:=by omega
       rw[hkN,fp] at hp0;apply aJ 6 [] m;simp only[↓aD];refine aT O O ?_;try simp only[zD,zE]
       exact⟨_,O,m.ext,by rw[akz hd0 hc0 O hp0]⟩
theorem aaA(w:aj)(hT:bV w A N ts)(hN:N≤100000000):dQ prog 30 [.slice A N cap] w (fun v _=>v=.int .i64 (fH true ts)):=by
 refine⟨bK func30 (by kernel_rfl),?_⟩;have m:=Mem.refl w
 go_enter func30,ntmps30
 apply fF 7 [0] m;simp only[↓aD];refine dM m O O (an4 _ (hT.ext m.ext) hN) ?_;rintro v u m rfl;apply aL 3 [] m;simp only[↓aD];exact aT O O ⟨_,O,m.ext,O⟩
theorem akA{t:T3}:dT prog 234 [tr t] (.agg #[.int .i64 t.a.x,.int .i64 t.a.y,.int .i64 t.a.z,.int .i64 t.b.x,.int .i64 t.b.y,.int .i64 t.b.z,.int .i64 t.b.x,.int .i64 t.b.y,.int .i64 t.b.z,.int .i64 t.c.x,.int .i64 t.c.y,.int .i64 t.c.z,.int .i64 t.c.x,.int .i64 t.c.y,.int .i64 t.c.z,.int .i64 t.a.x,.int .i64 t.a.y,.int .i64 t.a.z]):=by
 intro w;refine⟨bK func234 (by kernel_rfl),?_⟩;have m:=Mem.refl w
 go_enter func234,ntmps234
 apply jP 23 [1,1,1,1,1,1] m;simp only[↓aD,aqI,bT,aS,Me,aqJ,ad,ag,aa];intro g1 g2;refine⟨by omega,?_⟩;intro u m;apply Rp 3 [0] m;simp only[↓aD,aqH,aa];intro u m;exact aT O ⟨_,O,((m.b 0 O).full amM agu)⟩ ⟨_,O,m.ext,O⟩
theorem ard{e:E3}:dT prog 236 [ed e] (ed (e.2,e.1)):=by
 intro w;refine⟨bK func236 (by kernel_rfl),?_⟩;have m:=Mem.refl w
 go_enter func236,ntmps236
 apply jP 15 [1,1,0] m;simp only[↓aD,Cz,Da,aS,Sx,Me,vD,aa];intro g1 g2 u m;exact aT O ⟨_,O,((m.b 0 O).full Ef qZ)⟩ ⟨_,O,m.ext,O⟩
theorem aen{e:E3}(h:(!!(cG (fY [] E) e).getD false)=true):false=decide (E++[e]).Nodup:=by
 rw[Bool.not_not] at h;exact (decide_eq_false fun k=>(Rt.1 k).2 (abC.1 h)).symm
theorem aaB{e:E3}{b:Bool}(hb:b=decide E.Nodup)(h:(!!(cG (fY [] E) e).getD false)=false):b=decide (E++[e]).Nodup:=by
 rw[Bool.not_not] at h;rw[hb,decide_eq_decide,Rt];exact⟨fun k=>⟨k,fun h2=>by rw[abC.2 h2] at h;cases h⟩,And.left⟩
theorem mL{K:Type}[DecidableEq K](ks:List K)(k:K):fY [] (ks++[k])=fI (fY [] ks) k true:=ai7 [] ks [k]
theorem Tm(w:aj)(hT:bV w A N ts)(hN:N≤10000000):dQ prog 164 [.slice A N cap] w (fun v w'=>∃g es c,v=.tuple #[.map (some g),.bool (decide (aX ts).Nodup)]∧Mem w w' [mI g es c]∧bO ed bn (fY [] (aX ts)) es c):=by
 refine⟨bK func164 (by kernel_rfl),?_⟩;have m:=Mem.refl w
 go_enter func164,ntmps164
 apply fF 7 [0] m;simp only[↓aD];refine mA m ?_;intro q8 u m;have hD8:=bO.nil (K:=E3) (V:=Bool) ed bn;apply aL 14 [0] m;simp only[↓aD,kA];refine bX [5,13] [7,9,14,15,16,17,18,19,20,21,22,23,24,25,26,27] (fun n vs wl=>∃(k:Nat) (es:Array c_) (c:Nat) (b:Bool),vs=[.bool b,.int .i64 (k:Int)]∧Mem w wl [mI q8 es c]∧(bO ed bn (fY [] (aX (ts.take k))) es c)∧(b=decide (aX (ts.take k)).Nodup)∧(k≤N)∧(n=N-k)) ?_ ?_
 ·
  exact⟨_,0,_,_,true,O,m,hD8,O,cv _,O⟩
 ·
  intro n vs wr hI u K1 hK1;obtain⟨k,es,c,b0,rfl,m,hD8,hb0,hk,hn⟩:=hI;simp only[zu,zF,zG];apply aJ 5 [0,0] m;simp only[↓aD];refine bG O ?_ ?_<;>intro hc1
  ·
   obtain⟨t,ht,_,a,rfl,hrow⟩:=hT.get (i:=k) (by omega);apply aJ 5 [0] m;simp only[↓aD];refine aB (aF cH aP O O (by omega) (by omega) (cQ (ah _))) ?_;simp only[zz];refine aR O ((hrow.ext m.ext).lies cF aP) ?_;simp only[zz];apply kD 6 [0,0,0] m;simp only[↓aD,nX,eL,aa];intro g2 u m;refine nV m O O akA 16 [4,1,0] ?_;simp only[↓aD];refine⟨by omega,?_⟩;intro u m;refine aB (Vf O O) ?_;apply kD 7 [0,0,0] m;simp only[↓aD,Cz,vD,aa];intro g3 u m;refine mO m 2 Zp O O (fun m=>aaz (p:=(t.a,t.b)) m 2 O hD8) ?_;rintro v i u m ⟨rfl,es',c',rfl,hD'⟩;simp only[zF,zG] at m;simp only[zz];rw[←mL] at hD';clear hD8;have hD8:=hD';clear hD';apply aL 2 [0] m;simp only[↓aD];refine Rq m [5] [] (fun vs=>∃(b:Bool),vs=[.bool b]∧(b=decide (((aX (ts.take k))++[(t.a,t.b)])).Nodup)) ?_ ?_
   ·
    intro K2 hK2;refine dK O ?_ ?_<;>intro hc3
    ·
     apply aJ 3 [0] m;simp only[↓aD];exact hK2 _ _ (by kernel_rfl) m ⟨false,O,aen hc3⟩
    ·
     skip
     apply aJ 1 [0] m;simp only[↓aD];exact hK2 _ _ (by kernel_rfl) m ⟨b0,O,aaB hb0 hc3⟩
   ·
    intro vs wr m hI u;obtain⟨b1,rfl,hb1⟩:=hI;simp only[zu,zF,zG];apply aW 17 [1,0] m;simp only[↓aD,ak];refine⟨by omega,?_⟩;refine aB (Vg O O) ?_;apply kD 7 [0,0,0] m;simp only[↓aD,Cz,vD,aa];intro g4 u m;refine mO m 3 Zp O O (fun m=>aaz (p:=(t.b,t.c)) m 3 O hD8) ?_;rintro v i u m ⟨rfl,es',c',rfl,hD'⟩;simp only[zF,zG] at m;simp only[zz];rw[←mL] at hD';clear hD8;have hD8:=hD';clear hD';apply aL 2 [0] m;simp only[↓aD];refine Rq m [5] [] (fun vs=>∃(b:Bool),vs=[.bool b]∧(b=decide ((((aX (ts.take k))++[(t.a,t.b)])++[(t.b,t.c)])).Nodup)) ?_ ?_
    ·
     intro K3 hK3;refine dK O ?_ ?_<;>intro hc3
     ·
      apply aJ 3 [0] m;simp only[↓aD];exact hK3 _ _ (by kernel_rfl) m ⟨false,O,aen hc3⟩
     ·
      skip
      apply aJ 1 [0] m;simp only[↓aD];exact hK3 _ _ (by kernel_rfl) m ⟨b1,O,aaB hb1 hc3⟩
    ·
     intro vs wr m hI u;obtain⟨b2,rfl,hb2⟩:=hI;simp only[zu,zF,zG];apply aW 17 [1,0] m;simp only[↓aD,ak];refine⟨by omega,?_⟩;refine aB (Vh O O) ?_;apply kD 7 [0,0,0] m;simp only[↓aD,Cz,vD,aa];intro g5 u m;refine mO m 4 Zp O O (fun m=>aaz (p:=(t.c,t.a)) m 4 O hD8) ?_;rintro v i u m ⟨rfl,es',c',rfl,hD'⟩;simp only[zF,zG] at m;simp only[zz];rw[←mL] at hD';clear hD8;have hD8:=hD';clear hD';apply aL 2 [0] m;simp only[↓aD];refine Rq m [5] [] (fun vs=>∃(b:Bool),vs=[.bool b]∧(b=decide (((((aX (ts.take k))++[(t.a,t.b)])++[(t.b,t.c)])++[(t.c,t.a)])).Nodup)) ?_ ?_
     ·
      intro K4 hK4;refine dK O ?_ ?_<;>intro hc3
      ·
       apply aJ 3 [0] m;simp only[↓aD];exact hK4 _ _ (by kernel_rfl) m ⟨false,O,aen hc3⟩
      ·
       skip
       apply aJ 1 [0] m;simp only[↓aD];exact hK4 _ _ (by kernel_rfl) m ⟨b2,O,aaB hb2 hc3⟩
     ·
      intro vs wr m hI u;obtain⟨b3,rfl,hb3⟩:=hI;simp only[zu,zF,zG];apply aW 18 [2,0] m;simp only[↓aD,ak];refine⟨by omega,?_⟩;exact hK1 (N-(k+1)) _ _ (by omega) (by kernel_rfl) ⟨k+1,_,_,b3,O,(m.sel [false,false,false,false,true]),by rw[uO ht];simpa[cq] using hD8,by rw[hb3,uO ht];simp only[cq,cn,b_],by omega,rfl⟩
  ·
   have hkN:k=N:=by omega
   rw[hkN,show ts.take N=ts from a_ (by rw[hT.len];exact aq _)] at hD8 hb0;apply aJ 9 [] m;simp only[↓aD];refine yE O O O ?_;try simp only[zD,zE]
   exact⟨_,O,m.ext,_,_,_,by rw[hb0],m,hD8⟩
theorem are{dn:List (E3 × Bool)}{kp:E3}{kb:Bool}(h:(!(cG (fY [] E) (kp.2,kp.1)).getD false)=true):((dn++[(kp,kb)]).map (·.1)).filter (fun e=>decide ((e.2,e.1)∉E))=(dn.map (·.1)).filter (fun e=>decide ((e.2,e.1)∉E))++[kp]:=by
 rw[rZ] at h;simp only[ct,il,bj,dx];rw[List.filter_cons_of_pos (by simpa using h)];rfl
theorem arf{dn:List (E3 × Bool)}{kp:E3}{kb:Bool}(h:(!(cG (fY [] E) (kp.2,kp.1)).getD false)=false):((dn++[(kp,kb)]).map (·.1)).filter (fun e=>decide ((e.2,e.1)∉E))=(dn.map (·.1)).filter (fun e=>decide ((e.2,e.1)∉E)):=by
 rw[rZ] at h;simp only[ct,il,bj,dx];rw[List.filter_cons_of_neg (by simpa using h)];simp
theorem akB{dn:List (E3 × Bool)}(h:dn.Perm (fY [] E)):(∀a,a∈(dn.map (·.1)).filter (fun e=>decide ((e.2,e.1)∉E))↔a∈E∧(a.2,a.1)∉E)∧((dn.map (·.1)).filter (fun e=>decide ((e.2,e.1)∉E))).length≤E.length:=by
 refine⟨fun a=>?_,?_⟩
 ·
  rw[dw,(h.map (·.1)).mem_iff,uW];simp
 ·
  refine Nat.le_trans (fu _ _) ?_;have:=pG E [];rw[List.length_map,h.length_eq];simpa using this
theorem ahh{g:Nat}(w:aj)(hM:jF w g es c)(hD:bO ed bn (fY [] E) es c):dQ prog 165 [.map (some g)] w (fun v w'=>∃g es c ks,v=.map (some g)∧Mem w w' [mI g es c]∧bO ed bn (fY [] ks) es c∧(∀a,a∈ks↔a∈E∧(a.2,a.1)∉E)∧ks.length≤E.length):=by
 refine⟨bK func165 (by kernel_rfl),?_⟩;have m:=Mem.refl w
 go_enter func165,ntmps165
 apply fF 6 [0] m;simp only[↓aD];refine mA m ?_;intro q8 u m;have hD8:=bO.nil (K:=E3) (V:=Bool) ed bn;apply aL 6 [0] m;simp only[↓aD];refine wM m underlying208 O (hM.ext m.ext) ?_;intro r1 u m;apply aL 2 [0] m;simp only[↓aD];refine bX [] [4,8,9,10,11,12,13,14,15,16,17,18,19] (fun n vs wl=>∃(dn rs:List (E3 × Bool)) (sn:Array Nat) (es2:Array c_) (c2:Nat),vs=[]∧Mem w wl [iI r1 g c sn,mI q8 es2 c2]∧(bO ed bn (fY [] ((dn.map (·.1)).filter (fun e=>decide ((e.2,e.1)∉E)))) es2 c2)∧(oK ed bn (fY [] E) es sn dn rs)∧(n=rs.length)) ?_ ?_
 ·
  exact⟨_,[],fY [] E,#[],_,_,O,m,hD8,oK.start hD,O⟩
 ·
  intro n vs wr hI u K1 hK1;obtain⟨dn,rs,sn,es2,c2,rfl,m,hD8,hT,hn⟩:=hI;simp only[zu,zF,zG];apply aJ 2 [0] m;simp only[↓aD];refine Nr m 0 O O (hM.ext m.ext) hD hT ?_;intro bb kk vv sn u m hN;simp only[zF,zG] at m;refine aB (qB O) ?_;apply aL 2 [0] m;simp only[↓aD];refine dK O ?_ ?_<;>intro hc1
  ·
   obtain⟨kp,kb,rs2,hp,hT2⟩:=Ip hc1 hN;apply aJ 4 [0] m;simp only[↓aD];refine fG (tU O (m.r 0 O) (hM.ext m.ext) hD hT2) ?_;simp only[zz];apply kD 8 [0,0,0] m;simp only[↓aD,Cz,vD,aa];intro g3 u m;refine kO m O O ard ?_;intro u m;simp only[zz];refine fG (eH (ek:=ed) (en:=bn) (k:=(kp.2,kp.1)) (v0:=false) underlying208 oU Dl O O (hM.ext m.ext) hD) ?_;simp only[zz];apply aL 2 [0] m;simp only[↓aD];refine dK O ?_ ?_<;>intro hc2
   ·
    apply aJ 3 [0,0] m;simp only[↓aD,vD];refine mO m 2 Zp O O (fun m=>aaz (p:=kp) m 2 O hD8) ?_;rintro v i u m ⟨rfl,es',c',rfl,hD'⟩;simp only[zF,zG] at m;simp only[zz];rw[←mL] at hD';clear hD8;have hD8:=hD';clear hD';apply aL 2 [0] m;simp only[↓aD];exact hK1 rs2.length _ _ (by rw[hn,hp.length_eq];exact fg _) (by kernel_rfl) ⟨dn++[(kp,kb)],rs2,_,_,_,O,(m.sel [false,true,true]),by rw[are hc2];exact hD8,hT2,O⟩
   ·
    apply aJ 2 [0] m;simp only[↓aD];exact hK1 rs2.length _ _ (by rw[hn,hp.length_eq];exact fg _) (by kernel_rfl) ⟨dn++[(kp,kb)],rs2,_,_,_,O,(m.sel [false,true,true]),by rw[arf hc2];exact hD8,hT2,O⟩
  ·
   obtain rfl:=Io hc1 hN;apply aJ 7 [] m;simp only[↓aD];exact aT O O ⟨_,O,m.ext,_,_,_,_,O,m.sel [false,true],hD8,akB hT.done⟩
theorem ahi{ks ps:List E3}(hk:∀a,a∈ks↔a∈aX ts∧(a.2,a.1)∉aX ts)(hp:ps.Perm ((fY [] ks).map (·.1)))(hs:ps.Pairwise fun a b=>¬Nu b a):ps=cN ts:=by
 refine abA ?_ (Vn ts) fun a=>?_
 ·
  have hn:ps.Nodup:=hp.nodup_iff.2 (Gr _ _ .nil);refine List.Pairwise.imp₂ (fun a b (h:¬Nu b a) (k:a≠b)=>?_) hs hn;rcases Nu.tri a b with h1 | h1 | h1
  · exact h1
  · exact absurd h1 k
  · exact absurd h1 h
 ·
  rw[hp.mem_iff,uW,adG,hk];simp
theorem ahj(w:aj)(hT:bV w A N ts)(hN:N≤10000000):dQ prog 98 [.slice A N cap] w (SL 56 6 ((cN ts).flatMap dD) (cN ts).length w):=by
 refine⟨bK func98 (by kernel_rfl),?_⟩;have m:=Mem.refl w;have htl:=hT.len;have hel:=uC ts
 go_enter func98,ntmps98
 apply fF 7 [0] m;simp only[↓aD];refine bJ O O (Tm _ (hT.ext m.ext) (by omega)) ?_;rintro v u e_ ⟨g8,es8,c8,rfl,hM,hD8⟩;replace m:=m.plus hM;clear hM;simp only[cn,b_] at m;apply aL 8 [0] m;simp only[↓aD];refine aB aO ?_;replace m:=m.nilO 56 6;apply aL 5 [0] m;simp only[↓aD];refine bJ O O (ahh _ (m.p 1 O) hD8) ?_;rintro v u e_ ⟨g9,es9,c9,ks,rfl,hM,hD9,hks,hkl⟩;replace m:=m.plus hM;clear hM;simp only[cn,b_] at m;simp only[zz];refine bJ O O (ahg _ (m.p 0 O) hD9 (by have h1:=pG ks [];simp only[bv] at h1;omega)) ?_;rintro v u e_ ⟨A5,n5,cap5,_,rfl,h_,ps,rfl,hps,hso⟩;replace m:=m.newO e_ h_;obtain rfl:=ahi hks hps hso;obtain rfl:(cN ts).length=n5:=(m.o 0 rfl).num Oq (by decide);have hle5:=(m.o 0 rfl).le;have hbl:(cN ts).length≤(aX ts).length:=by have:=Rc (all:=aX ts) (aX ts) [];simpa[cN] using this
 apply aL 4 [0] m;simp only[↓aD,aqx];refine bX [5,17] [7,18,19,20,21,22,23,24,25,26,27,28,29] (fun n vs wl=>∃(k:Nat) (A6:Option Addr) (cap6:Nat),vs=[.slice A6 k cap6,.int .i64 (k:Int)]∧Mem w wl [oI 215 6 A5 (cN ts).length cap5 ((cN ts).flatMap dD),oI 56 6 A6 k cap6 (((cN ts).take k).flatMap dD)]∧(k≤(cN ts).length)∧(n=(cN ts).length-k)) ?_ ?_
 ·
  exact⟨_,0,_,_,O,(m.sel [true,false,true,false]),cv _,O⟩
 ·
  intro n vs wr hI u K1 hK1;obtain⟨k,A6,cap6,rfl,m,hk,hn⟩:=hI;simp only[zu,zF,zG];apply aJ 5 [0,0] m;simp only[↓aD];refine bG O ?_ ?_<;>intro hc1
  ·
   obtain⟨e,he⟩:∃e,(cN ts)[k]? = some e:=⟨_,am (by omega)⟩
   obtain⟨gO,rfl⟩:=(m.o 0 rfl).some (by omega);apply aJ 5 [0] m;simp only[↓aD];refine aB (aF underlying212 qZ O O (by omega) (by omega) (cQ (ah _))) ?_;simp only[zz];refine aR O (((m.o 0 O).at Oq he).lies Ef qZ) ?_;simp only[zz];apply kD 10 [0,0,0,0] m;simp only[↓aD,Cz,vD,Sx,aS,Da,Fy,aa];intro g1 u m;refine Ll O ?_;intro u g2 e_ h_ k_;replace m:=m.newB e_ h_ k_;simp only[zz];refine bL m 3 O O pZ Cg O (by decide) O O O (m.b 0 O).rowsO (gB O) (by omega) (by omega) ?_;intro A6 cap6 u m;simp only[zF,zG] at m;apply aL 7 [0] m;simp only[↓aD];refine⟨by omega,?_⟩;exact hK1 ((cN ts).length-(k+1)) _ _ (by omega) (by kernel_rfl) ⟨k+1,_,_,O,((m.reO 3 O ((m.o 3 O).as (by rw[cJ he,ay];rfl))).sel [false,false,true,true]),by omega,rfl⟩
  ·
   obtain rfl:k=(cN ts).length:=by omega
   rw[fp] at m;apply aJ 7 [] m;simp only[↓aD];exact aT O O ⟨_,O,m.ext,⟨_,_,_,O,O,(m.o 1 O)⟩⟩
end Go.Proofs.YtfekpcimgncioaaGreatDoor
namespace Go.Lith
open Go.RowKit Go.ChangeMaps Go.MapKept
def an5{K V:Type}[DecidableEq K](ek:K→ai)(en:V→ai)(D:List (K × V))(k:K)(es:Array c_)(c b:Nat):Prop :=
 ∀u,∃p,es.findIdx? (fun e=>(e.born:Int) == (b:Int))=some p∧bO ek en (fI D k u) (es.modify p fun e=>{ e with val:=en u }) c
section
variable {K V:Type} [DecidableEq K] {P:Program} {T M E ty:az} {ek:K→ai} {en:V→ai} {w w0:aj} {g c:Nat} {es:Array c_} {D:List (K × V)}
theorem arh{α:Type}{l:List α}{p:Nat}{x:α}(h:l[p]? = some x):l.set p x=l:=by
 apply List.ext_getElem?;intro j;rw[List.getElem?_set];split
 · rename_i e;subst e;rw[if_pos (List.getElem?_eq_some_iff.1 h).1,h]
 · rfl
theorem acl{b p:Nat}(hn:(es.toList.map (·.born)).Nodup){e:c_}(he:es[p]? = some e)(hb:e.born=b):es.findIdx? (fun e=>(e.born:Int) == (b:Int))=some p:=by
 rw[Array.findIdx?_eq_some_iff_getElem];have hp:=(ee.1 he).1;have hx:=(ee.1 he).2;refine⟨hp,by rw[hx,hb];simp,fun j hj=>?_⟩;have hj':j<es.size:=by omega
 simp only[Bool.not_eq_true,beq_eq_false_iff_ne,ne_eq,Int.natCast_inj];intro hh;have h1:(es.toList.map (·.born))[j]'(by simpa using hj')=(es.toList.map (·.born))[p]'(by simpa using hp):=by
  simp only[List.getElem_map,Array.getElem_toList];rw[hh,hx,hb]
 have:=(List.getElem_inj hn).1 h1;omega
theorem aeo{p:Nat}{e:c_}(he:es[p]? = some e)(k u:ai)(hk:e.key=k):(es.modify p fun e=>{ e with val:=u })=es.modify p fun e=>{ e with key:=k,val:=u }:=by
 apply ku;intro j;rw[j_,j_];split
 · rename_i hj;subst hj;rw[he];simp[hk]
 · rfl
theorem an6(hD:bO ek en D es c){p:Nat}{k:K}{v:V}(hp:D[p]? = some (k,v)):∃e,es[p]? = some e∧e.key=ek k∧e.val=en v:=by
 have h2:=congrArg (fun L=>L[p]?) hD.cells;simp only[List.getElem?_map,hp,fm] at h2;rw[Array.getElem?_toList] at h2;cases h3:es[p]? with
 | none=>rw[h3] at h2;cases h2
 | some x =>
  rw[h3] at h2;simp only[fm,gw,Vl,ft] at h2;exact⟨x,O,h2.1,h2.2⟩
theorem Vu{v0:V}(hu:P.underlying M=some (.map T E))(hz:oD P E (en v0))(kt:sR P T ek)(hM:jF w g es c)(hD:bO ek en D es c)(k:K) :
 ∃es' c' b,(Instr.mapEntry M (.map (some g)) (ek k)).run P w=.ok (.tuple #[en ((cG D k).getD v0),.int .i64 (b:Nat)]) (setBlock w g (.map es' c'))∧bO ek en (fI D k ((cG D k).getD v0)) es' c'∧an5 ek en D k es' c' b:=by
 unfold jF at hM;cases hf:qS D k 0 with
 | none =>
  obtain⟨h0,h1,_⟩:=rA D k 0 hf;obtain⟨inf,hi,hz⟩:=hz;have hzv:(zeroValue E).run P w=.ok (en v0) w:=by simp[zeroValue,typeInfo,program,Sem.run,hi,hz]
  have hP:=hD.push k v0;refine⟨_,_,c,?_,by rw[h0,h1];exact hP,fun u=>⟨es.size,acl hP.nd (e:={ key:=ek k,val:=en v0,born:=c }) (by simp) O,?_⟩⟩
  · simp only[Instr.mapEntry,Sem.run_bind,cd hu,Result.andThen,getObj,Sem.run,hM,Sem.run_pure,kt.chk,uT kt k w hD,hf,Option.map_none,hzv,run_setObj_map _ hM,h0,ly,goInt]
    rfl
  · rw[h1]
    have e:((es.push { key:=ek k,val:=en v0,born:=c }).modify es.size fun e=>{ e with val:=en u })=es.push { key:=ek k,val:=en u,born:=c }:=by
     apply ku;intro j;rw[j_,Array.getElem?_push,Array.getElem?_push];split
     · rename_i hj;subst hj;simp
     · rename_i hj;simp[Ne.symm hj]
    rw[e];exact hD.push k u
 | some p =>
  obtain⟨j,v⟩:=p;obtain⟨p,rfl,hp,h0,h1,_⟩:=nC D k 0 j v hf;rw[au] at hf;obtain⟨e,he,hk,hv⟩:=an6 hD hp;have hk':((es[p]?).map (·.key)).getD (ek k)=ek k:=by rw[he];simp[hk]
  have hm:(es.modify p fun e=>{ e with key:=ek k })=es:=by
   apply ku;intro j;rw[j_];split
   · rename_i hj;subst hj;rw[he];simp[←hk]
   · rfl
  refine⟨es,c,e.born,?_,by rw[h0,dq,h1,arh hp];exact hD,fun u=>⟨p,acl hD.nd he O,?_⟩⟩
  · simp only[Instr.mapEntry,Sem.run_bind,cd hu,Result.andThen,getObj,Sem.run,hM,Sem.run_pure,kt.chk,uT kt k w hD,hf,fm,hk',Instr.keyThatStays,kt.bits,if_true,hm,run_setObj_map _ hM,h0,dq,he,hk,kt.bits,if_true,Sem.run_pure,hm,goInt]
    rfl
  · rw[h1,aeo he (ek k) (en u) hk]
    exact hD.set hp u
theorem Ov{b:Nat}{k:K}(hM:jF w g es c)(hS:an5 ek en D k es c b)(u:V) :
 ∃es',(Instr.entryStore M (.map (some g)) (.int .i64 (b:Nat)) (en u)).run P w=.ok () (setBlock w g (.map es' c))∧bO ek en (fI D k u) es' c:=by
 obtain⟨p,hp,hD⟩:=hS u;unfold jF at hM;refine⟨_,?_,hD⟩;simp only[Instr.entryStore,Sem.run_bind,Result.andThen,getObj,Sem.run,hM,Sem.run_pure,asInt,asIntOf,hp];exact run_setObj_map _ hM
theorem an7{ds:List Deferred}{l:List ai}{op:Op}{ops:Array Oper}{Q:Exit→Act→aj→Prop}{rest:List Oper}{pos:String}{after:Array Edge}
 (h:∀o:Oper,o.op=op→∃v w',(execOp (Fr l).eval o).run P w=.ok (.value v) w'∧ar P ops Q rest (Fr l ds) w'):ar P ops Q (bu none op ty pos after none::rest) (Fr l ds) w:=by
 refine wpList_plain O fun K hK=>?_;unfold Oper.wp;obtain⟨v,w',hr,hw⟩:=h (bu none op ty pos after none) rfl;rw[kJ,hr];exact hK _ _ hw
variable {is:List It} {ds:List Deferred} {l:List ai} {x y z:bw} {ops:Array Oper} {Q:Exit→Act→aj→Prop} {rest:List Oper} {d:Nat} {pos:String} {after:Array Edge}
theorem Ad{v0:V}{a:K}(m:Mem w0 w is)(k:Nat)(hk:is[k]? = some (mI g es c))(hu:P.underlying M=some (.map T E))(hz:oD P E (en v0))(kt:sR P T ek)(hx:ev l x=.map (some g))(hy:ev l y=ek a)(hD:bO ek en D es c)
 (h:∀es' c' b u,Mem w0 u (is.set k (mI g es' c'))→bO ek en (fI D a ((cG D a).getD v0)) es' c'→an5 ek en D a es' c' b→ar P ops Q rest (Fr (l.set d (.tuple #[en ((cG D a).getD v0),.int .i64 (b:Nat)])) ds) u) :
 ar P ops Q (bu (some d) (.mapEntry M x y) ty pos after none::rest) (Fr l ds) w:=by
 have hM:=m.p k hk;obtain⟨es',c',b,hr,hD',hS⟩:=Vu hu hz kt hM hD a;have hC:=qA (w:=w) (g:=g) (.map es' c');refine mM (w':=setBlock w g (.map es' c')) (fun o ho hty=>by simp[execOp,ho,hty,cD,hx,hy,hr]) (h es' c' b _ ?_ hD' hS);exact m.put k hk hC.os hC.tape hC.output (by rw[hC.size];exact aq _) (fun b _ hne=>hC.block b fun e=>hne (by rw[e];rfl)) (jZ hM) (.inl fun _ h=>h)
theorem qJ{v:V}{a:K}{b:Nat}(m:Mem w0 w is)(k:Nat)(hk:is[k]? = some (mI g es c))(hx:ev l x=.map (some g))(hy:ev l y=.int .i64 (b:Nat))(hz:ev l z=en v)(hS:an5 ek en D a es c b)
 (h:∀es' u,Mem w0 u (is.set k (mI g es' c))→bO ek en (fI D a v) es' c→ar P ops Q rest (Fr l ds) u):ar P ops Q (bu none (.entryStore M x y z) ty pos after none::rest) (Fr l ds) w:=by
 have hM:=m.p k hk;obtain⟨es',hr,hD'⟩:=Ov (P:=P) (M:=M) hM hS v;have hC:=qA (w:=w) (g:=g) (.map es' c);refine Hp (w':=setBlock w g (.map es' c)) (fun o ho=>by simp[execOp,ho,cD,hx,hy,hz,hr]) (h es' _ ?_ hD');exact m.put k hk hC.os hC.tape hC.output (by rw[hC.size];exact aq _) (fun b _ hne=>hC.block b fun e=>hne (by rw[e];rfl)) (jZ hM) (.inl fun _ h=>h)
end
end Go.Lith
namespace Go.Proofs.YtfekpcimgncioaaGreatDoor
open Go.Proofs.Tryz
open Go.RowKit Go.Lith
set_option maxRecDepth 100000
attribute [local irreducible] ar cw gG bQ cO Code.wp
attribute [local congr] rC gX gY gZ iA iB lI iC iD iE iF iG iH iJ iK iL iM iN fJ fK iO iP iR iS iT lK dW dX cX dV iQ lJ fN fO fP iU iV lM
variable{K:Type}{s a y:P3}{z N cap:Nat}{ts:List T3}{t:T3}
def sF(n:Nat):ai:=.int .i64 (n:Int)
theorem Mp{V:Type}[DecidableEq K](xs:List (K × V))(k:K)(v:V):Fb [] (xs++[(k,v)])=fI (Fb [] xs) k v:=ai8 [] xs [(k,v)]
theorem uG[DecidableEq K](ks:List K)(k:K):wN [] (ks++[k])=fI (wN [] ks) k ((cG (wN [] ks) k).getD 0+1):=aja [] ks [k]
theorem acm[DecidableEq K](ks:List K)(k:K):(cG (wN [] ks) k).getD 0=vK ks k:=by rw[abE];simp[cG]
theorem Ps[DecidableEq K](ks:List K)(k:K):(cG (wN [] ks) k).getD 0≤ks.length:=by rw[acm];exact fu _ _
theorem ari{nx:P3→Option P3}{n:Nat}(h:¬a=s)(hb:nx a=some y):Cp nx s (n+1) a z=Cp nx s n y (z+1):=by rw[Cp,if_neg h,hb]
theorem an8{nx:P3→Option P3}{n:Nat}(hb:nx a=none):Cp nx s n a z=(a,z):=by
 cases n with
 | zero=>rfl
 | succ n=>rw[Cp,hb];split <;> rfl
theorem arj{nx:P3→Option P3}{M:Nat}(hz:z≤M+1)(h:a=s∨¬z≤M):Cp nx s (M+1-z) a z=(a,z):=by
 rcases h with rfl | h
 · exact ajb
 · rw[show M+1-z=0 by omega];rfl
theorem ark{x:P3}:(¬x.x=y.x∨¬x.y=y.y∨¬x.z=y.z)↔¬x=y:=by
 rw[←yP];exact⟨fun h k=>h.elim (fun h=>h k.1) fun h=>h.elim (fun h=>h k.2.1) fun h=>h k.2.2,fun h=>by
  rcases Classical.em (x.x=y.x) with h1 | h1
  ·
   rcases Classical.em (x.y=y.y) with h2 | h2
   · exact .inr (.inr fun h3=>h ⟨h1,h2,h3⟩)
   · exact .inr (.inl h2)
  · exact .inl h1⟩
theorem akC{M:Nat}(h:(decide (¬(a.x=s.x∧a.y=s.y∧a.z=s.z))&&decide ((z:Int)≤(M:Int)))=false):a=s∨¬z≤M:=by
 rcases Classical.em (a=s) with k | k
 · exact .inl k
 ·
  refine .inr fun k4=>?_;rw[decide_eq_true (mt yP.1 k),decide_eq_true (Int.ofNat_le.2 k4)] at h;cases h
theorem akD{es:Array c_}{sn:Array Nat}{dn:List (E3 × P3)}(h:oK ed pt (Fb [] (kY ts)) es sn dn [])(hnd:(aX ts).Nodup)(hno:∀y∈dn,¬aad ts y.1)(e:E3):¬aad ts e:=fun he=>by
 obtain⟨x,hx,_⟩:=id he;have h1:cG (Fb [] (kY ts)) e=some x:=by rw[←hx];exact Iu hnd e.1 e.2
 exact hno _ (h.done.mem_iff.2 (Ck h1)) he
theorem Yf(ts:List T3):(dS ts).length=ts.length*3:=tW ts
theorem aep{A:Option Addr}(w:aj)(hT:bV w A N ts)(hN:N≤10000000)(hnd:(aX ts).Nodup):dQ prog 166 [.slice A N cap] w (fun v _=>v=.bool ((dR ts).any (Ie ts))):=by
 refine⟨bK func166 (by kernel_rfl),?_⟩;have m:=Mem.refl w
 go_enter func166,ntmps166
 apply fF 6 [0] m;simp only[↓aD];refine mA m ?_;intro q8 u m;have hD8:=bO.nil (K:=E3) (V:=P3) ed pt;apply aL 4 [0] m;simp only[↓aD];refine mA m ?_;intro q9 u m;have hD9:=bO.nil (K:=P3) (V:=Nat) pt sF;apply aL 10 [0] m;simp only[↓aD,kA];refine bX [18] [6,7,8,19,20,21,22,23,24,25,26,27,28,29,30,31,32,33,34,35,36,37,38,39,40,41,42,43,44,45,46,47] (fun n vs wl=>∃(k:Nat) (es8 es9:Array c_) (c8 c9:Nat),vs=[.int .i64 (k:Int)]∧Mem w wl [mI q9 es9 c9,mI q8 es8 c8]∧(bO ed pt (Fb [] (kY (ts.take k))) es8 c8)∧(bO pt sF (wN [] (dS (ts.take k))) es9 c9)∧(k≤N)∧(n=N-k)) ?_ ?_
 ·
  exact⟨_,0,_,_,_,_,O,m,hD8,hD9,cv _,O⟩
 ·
  intro n vs wr hI u K1 hK1;obtain⟨k,es8,es9,c8,c9,rfl,m,hD8,hD9,hk,hn⟩:=hI;simp only[zu,zF,zG];apply aJ 5 [0,0] m;simp only[↓aD];refine bG O ?_ ?_<;>intro hc1
  ·
   obtain⟨t,ht,_,a,rfl,hrow⟩:=hT.get (i:=k) (by omega);have hcl:=Yf (ts.take k);rw[bp] at hcl;apply aJ 5 [0] m;simp only[↓aD];refine aB (aF cH aP O O (by omega) (by omega) (cQ (ah _))) ?_;simp only[zz];refine aR O ((hrow.ext m.ext).lies cF aP) ?_;simp only[zz];apply kD 8 [0,0] m;simp only[↓aD,nX,eL,aa];intro g3 u m;apply aW 15 [4,1,0] m;simp only[↓aD];refine⟨by omega,?_⟩;refine aB (tQ O O) ?_;apply kD 5 [0,0] m;simp only[↓aD,eS,aS,aa];intro g4 u m;refine cL m 13 aC (by kernel_rfl) ?_;simp only[zy];refine eC 4 [0] ?_;simp only[↓aD,aS,ak];refine⟨by omega,?_⟩;refine aG (cP (m:=1) (n:=3) (r:=1) O O (by decide) (by decide)) (eC 5 [1] ?_);simp only[↓aD,bT,aS,Me,ad,ag,aa,ak];refine⟨by omega,?_⟩;refine aG (cP (m:=2) (n:=3) (r:=2) O O (by decide) (by decide)) (eC 2 [1] ?_);simp only[↓aD,bT,aS,ad,ag,aa];refine⟨by omega,?_⟩;refine bC ?_;intro u m;refine nN (ek:=ed) (en:=pt) (a:=(t.a,t.b)) (v:=t.c) m 3 O Mo Dl O O O hD8 ?_;intro es8 c8 u m hD8;simp only[zF,zG] at m;rw[←Mp] at hD8;refine aM (gc ?_);refine jL m 2 [] [40,41,42,43,44,45] (fun vs i=>∃(es:Array c_) (c:Nat),vs=[]∧i=mI q9 es c∧(bO pt sF (wN [] (((dS (ts.take k))++[t.a]))) es c)) ?_ ?_
   ·
    intro K2 hK2;refine Wi m [true,true,false,true] (.take 0 (.take 1 (.two 2 (.take 3 (.one 4 (.take 5 (.one 6 .nil)))) 4 (.take 5 (.one 2 (.take 3 (.one 6 .nil))))))) aC (by kernel_rfl) (bU (fun _ _ _ _ _ h=>h)) ?_;intro u m;have hb:=Ps (dS (ts.take k)) t.a;try simp only[aw,av,bv] at hb
    refine eN (by simp only[zw];rfl) (bF aI (bW (eN (by simp only[zw];rfl) ?_)));simp only[zz];refine fU O (fun u m=>((m.b 0 O).full aH aA)) ?_;simp only[zz];refine bW ?_;refine abg (by simp only[zw];rfl) (by simp only[zw];rfl) ?_ ?_
    ·
     refine fG (eH (ek:=pt) (en:=sF) (k:=t.a) (v0:=0) oZ lW gD O O (m.p 2 O) hD9) ?_;simp only[zz];refine aM ⟨m.sel [true,true,false,true],?_⟩;refine eN (by simp only[zw];rfl) (bF (fB rfl rfl (bM (by omega) (by omega))) (bW (nU (by simp only[zw];rfl) ?_)));simp only[zz];refine Ad (ek:=pt) (en:=sF) (a:=t.a) (v0:=0) m 2 O oZ lW gD O O hD9 ?_;intro es9 c9 bs u m hD' hS;simp only[zF,zG] at m;refine aM ⟨m.sel [true,true,false,true],?_⟩;refine eN (by simp only[zw];rfl) (bF (eY rfl rfl) (bW (nU (by simp only[zw];rfl) ?_)));simp only[zz];refine qJ (ek:=pt) (en:=sF) (a:=t.a) (v:=(cG (wN [] (dS (ts.take k))) t.a).getD 0+1) m 2 O O O O hS ?_;intro es9 u m hD9;simp only[zF,zG] at m;rw[←uG] at hD9;refine aM ⟨m.sel [true,true,false,true],?_⟩;refine Fo (gk ?_);exact hK2 _ _ _ (by kernel_rfl) m ⟨_,_,O,O,hD9⟩
    ·
     refine Ad (ek:=pt) (en:=sF) (a:=t.a) (v0:=0) m 2 O oZ lW gD O O hD9 ?_;intro es9 c9 bs u m hD' hS;simp only[zF,zG] at m;refine aM ⟨m.sel [true,true,false,true],?_⟩;refine eN (by simp only[zw];rfl) (bF (eY rfl rfl) (bW (nU (by simp only[zw];rfl) ?_)));simp only[zz];refine fG (eH (ek:=pt) (en:=sF) (k:=t.a) (v0:=0) oZ lW gD O O (m.p 2 O) hD') ?_;simp only[zz];rw[mK,if_pos rfl,dq];refine aM ⟨m.sel [true,true,false,true],?_⟩;refine eN (by simp only[zw];rfl) (bF (fB rfl rfl (bM (by omega) (by omega))) (bW (nU (by simp only[zw];rfl) ?_)));simp only[zz];refine qJ (ek:=pt) (en:=sF) (a:=t.a) (v:=(cG (wN [] (dS (ts.take k))) t.a).getD 0+1) m 2 O O O O hS ?_;intro es9 u m hD9;simp only[zF,zG] at m;rw[←uG] at hD9;refine aM ⟨m.sel [true,true,false,true],?_⟩;refine Fo (gk ?_);exact hK2 _ _ _ (by kernel_rfl) m ⟨_,_,O,O,hD9⟩
   ·
    intro vs i wr m hI u;obtain⟨es9,c9,rfl,rfl,hD9⟩:=hI;simp only[zF,zG] at m;simp only[zu,zF,zG];apply aW 18 [1,0] m;simp only[↓aD,ak];refine⟨by omega,?_⟩;refine aB (tR O O) ?_;apply kD 5 [0,0] m;simp only[↓aD,eS,aS,aa];intro g5 u m;refine cL m 13 aC (by kernel_rfl) ?_;simp only[zy];refine eC 4 [0] ?_;simp only[↓aD,aS,ak];refine⟨by omega,?_⟩;refine aG (cP (m:=2) (n:=3) (r:=2) O O (by decide) (by decide)) (eC 5 [2] ?_);simp only[↓aD,bT,aS,Me,ad,ag,aa,ak];refine⟨by omega,?_⟩;refine aG (cP (m:=3) (n:=3) (r:=0) O O (by decide) (by decide)) (eC 2 [2] ?_);simp only[↓aD,bT,aS,ad,ag,aa];refine⟨by omega,?_⟩;refine bC ?_;intro u m;refine nN (ek:=ed) (en:=pt) (a:=(t.b,t.c)) (v:=t.a) m 4 O Mo Dl O O O hD8 ?_;intro es8 c8 u m hD8;simp only[zF,zG] at m;rw[←Mp] at hD8;refine aM (gc ?_);refine jL m 3 [] [40,41,42,43,44,45] (fun vs i=>∃(es:Array c_) (c:Nat),vs=[]∧i=mI q9 es c∧(bO pt sF (wN [] (((((dS (ts.take k))++[t.a]))++[t.b]))) es c)) ?_ ?_
    ·
     intro K3 hK3;refine Wi m [true,true,true,false,true] (.take 0 (.take 1 (.two 2 (.take 3 (.one 4 (.take 5 (.one 6 .nil)))) 4 (.take 5 (.one 2 (.take 3 (.one 6 .nil))))))) aC (by kernel_rfl) (bU (fun _ _ _ _ _ h=>h)) ?_;intro u m;have hb:=Ps (((dS (ts.take k))++[t.a])) t.b;try simp only[aw,av,bv] at hb
     refine eN (by simp only[zw];rfl) (bF aI (bW (eN (by simp only[zw];rfl) ?_)));simp only[zz];refine fU O (fun u m=>((m.b 0 O).full aH aA)) ?_;simp only[zz];refine bW ?_;refine abg (by simp only[zw];rfl) (by simp only[zw];rfl) ?_ ?_
     ·
      refine fG (eH (ek:=pt) (en:=sF) (k:=t.b) (v0:=0) oZ lW gD O O (m.p 3 O) hD9) ?_;simp only[zz];refine aM ⟨m.sel [true,true,true,false,true],?_⟩;refine eN (by simp only[zw];rfl) (bF (fB rfl rfl (bM (by omega) (by omega))) (bW (nU (by simp only[zw];rfl) ?_)));simp only[zz];refine Ad (ek:=pt) (en:=sF) (a:=t.b) (v0:=0) m 3 O oZ lW gD O O hD9 ?_;intro es9 c9 bs u m hD' hS;simp only[zF,zG] at m;refine aM ⟨m.sel [true,true,true,false,true],?_⟩;refine eN (by simp only[zw];rfl) (bF (eY rfl rfl) (bW (nU (by simp only[zw];rfl) ?_)));simp only[zz];refine qJ (ek:=pt) (en:=sF) (a:=t.b) (v:=(cG (wN [] (((dS (ts.take k))++[t.a]))) t.b).getD 0+1) m 3 O O O O hS ?_;intro es9 u m hD9;simp only[zF,zG] at m;rw[←uG] at hD9;refine aM ⟨m.sel [true,true,true,false,true],?_⟩;refine Fo (gk ?_);exact hK3 _ _ _ (by kernel_rfl) m ⟨_,_,O,O,hD9⟩
     ·
      refine Ad (ek:=pt) (en:=sF) (a:=t.b) (v0:=0) m 3 O oZ lW gD O O hD9 ?_;intro es9 c9 bs u m hD' hS;simp only[zF,zG] at m;refine aM ⟨m.sel [true,true,true,false,true],?_⟩;refine eN (by simp only[zw];rfl) (bF (eY rfl rfl) (bW (nU (by simp only[zw];rfl) ?_)));simp only[zz];refine fG (eH (ek:=pt) (en:=sF) (k:=t.b) (v0:=0) oZ lW gD O O (m.p 3 O) hD') ?_;simp only[zz];rw[mK,if_pos rfl,dq];refine aM ⟨m.sel [true,true,true,false,true],?_⟩;refine eN (by simp only[zw];rfl) (bF (fB rfl rfl (bM (by omega) (by omega))) (bW (nU (by simp only[zw];rfl) ?_)));simp only[zz];refine qJ (ek:=pt) (en:=sF) (a:=t.b) (v:=(cG (wN [] (((dS (ts.take k))++[t.a]))) t.b).getD 0+1) m 3 O O O O hS ?_;intro es9 u m hD9;simp only[zF,zG] at m;rw[←uG] at hD9;refine aM ⟨m.sel [true,true,true,false,true],?_⟩;refine Fo (gk ?_);exact hK3 _ _ _ (by kernel_rfl) m ⟨_,_,O,O,hD9⟩
    ·
     intro vs i wr m hI u;obtain⟨es9,c9,rfl,rfl,hD9⟩:=hI;simp only[zF,zG] at m;simp only[zu,zF,zG];apply aW 18 [1,0] m;simp only[↓aD,ak];refine⟨by omega,?_⟩;refine aB (tT O O) ?_;apply kD 5 [0,0] m;simp only[↓aD,eS,aS,aa];intro g6 u m;refine cL m 13 aC (by kernel_rfl) ?_;simp only[zy];refine eC 4 [0] ?_;simp only[↓aD,aS,ak];refine⟨by omega,?_⟩;refine aG (cP (m:=3) (n:=3) (r:=0) O O (by decide) (by decide)) (eC 5 [3] ?_);simp only[↓aD,bT,aS,Me,ad,ag,aa,ak];refine⟨by omega,?_⟩;refine aG (cP (m:=4) (n:=3) (r:=1) O O (by decide) (by decide)) (eC 2 [3] ?_);simp only[↓aD,bT,aS,ad,ag,aa];refine⟨by omega,?_⟩;refine bC ?_;intro u m;refine nN (ek:=ed) (en:=pt) (a:=(t.c,t.a)) (v:=t.b) m 5 O Mo Dl O O O hD8 ?_;intro es8 c8 u m hD8;simp only[zF,zG] at m;rw[←Mp] at hD8;refine aM (gc ?_);refine jL m 4 [] [40,41,42,43,44,45] (fun vs i=>∃(es:Array c_) (c:Nat),vs=[]∧i=mI q9 es c∧(bO pt sF (wN [] (((((((dS (ts.take k))++[t.a]))++[t.b]))++[t.c]))) es c)) ?_ ?_
     ·
      intro K4 hK4;refine Wi m [true,true,true,true,false,true] (.take 0 (.take 1 (.two 2 (.take 3 (.one 4 (.take 5 (.one 6 .nil)))) 4 (.take 5 (.one 2 (.take 3 (.one 6 .nil))))))) aC (by kernel_rfl) (bU (fun _ _ _ _ _ h=>h)) ?_;intro u m;have hb:=Ps (((((dS (ts.take k))++[t.a]))++[t.b])) t.c;try simp only[aw,av,bv] at hb
      refine eN (by simp only[zw];rfl) (bF aI (bW (eN (by simp only[zw];rfl) ?_)));simp only[zz];refine fU O (fun u m=>((m.b 0 O).full aH aA)) ?_;simp only[zz];refine bW ?_;refine abg (by simp only[zw];rfl) (by simp only[zw];rfl) ?_ ?_
      ·
       refine fG (eH (ek:=pt) (en:=sF) (k:=t.c) (v0:=0) oZ lW gD O O (m.p 4 O) hD9) ?_;simp only[zz];refine aM ⟨m.sel [true,true,true,true,false,true],?_⟩;refine eN (by simp only[zw];rfl) (bF (fB rfl rfl (bM (by omega) (by omega))) (bW (nU (by simp only[zw];rfl) ?_)));simp only[zz];refine Ad (ek:=pt) (en:=sF) (a:=t.c) (v0:=0) m 4 O oZ lW gD O O hD9 ?_;intro es9 c9 bs u m hD' hS;simp only[zF,zG] at m;refine aM ⟨m.sel [true,true,true,true,false,true],?_⟩;refine eN (by simp only[zw];rfl) (bF (eY rfl rfl) (bW (nU (by simp only[zw];rfl) ?_)));simp only[zz];refine qJ (ek:=pt) (en:=sF) (a:=t.c) (v:=(cG (wN [] (((((dS (ts.take k))++[t.a]))++[t.b]))) t.c).getD 0+1) m 4 O O O O hS ?_;intro es9 u m hD9;simp only[zF,zG] at m;rw[←uG] at hD9;refine aM ⟨m.sel [true,true,true,true,false,true],?_⟩;refine Fo (gk ?_);exact hK4 _ _ _ (by kernel_rfl) m ⟨_,_,O,O,hD9⟩
      ·
       refine Ad (ek:=pt) (en:=sF) (a:=t.c) (v0:=0) m 4 O oZ lW gD O O hD9 ?_;intro es9 c9 bs u m hD' hS;simp only[zF,zG] at m;refine aM ⟨m.sel [true,true,true,true,false,true],?_⟩;refine eN (by simp only[zw];rfl) (bF (eY rfl rfl) (bW (nU (by simp only[zw];rfl) ?_)));simp only[zz];refine fG (eH (ek:=pt) (en:=sF) (k:=t.c) (v0:=0) oZ lW gD O O (m.p 4 O) hD') ?_;simp only[zz];rw[mK,if_pos rfl,dq];refine aM ⟨m.sel [true,true,true,true,false,true],?_⟩;refine eN (by simp only[zw];rfl) (bF (fB rfl rfl (bM (by omega) (by omega))) (bW (nU (by simp only[zw];rfl) ?_)));simp only[zz];refine qJ (ek:=pt) (en:=sF) (a:=t.c) (v:=(cG (wN [] (((((dS (ts.take k))++[t.a]))++[t.b]))) t.c).getD 0+1) m 4 O O O O hS ?_;intro es9 u m hD9;simp only[zF,zG] at m;rw[←uG] at hD9;refine aM ⟨m.sel [true,true,true,true,false,true],?_⟩;refine Fo (gk ?_);exact hK4 _ _ _ (by kernel_rfl) m ⟨_,_,O,O,hD9⟩
     ·
      intro vs i wr m hI u;obtain⟨es9,c9,rfl,rfl,hD9⟩:=hI;simp only[zF,zG] at m;simp only[zu,zF,zG];apply aW 18 [2,0] m;simp only[↓aD,ak];refine⟨by omega,?_⟩;exact hK1 (N-(k+1)) _ _ (by omega) (by kernel_rfl) ⟨k+1,_,_,_,_,O,(m.sel [false,false,false,false,true,true]),by rw[adH ht];simpa[cq] using hD8,by rw[Rr ht];simpa[cq] using hD9,by omega,rfl⟩
  ·
   have hkN:k=N:=by omega
   rw[hkN,show ts.take N=ts from a_ (by rw[hT.len];exact aq _)] at hD8 hD9;apply aJ 5 [0] m;simp only[↓aD];refine wM m Mo O (m.p 1 O) ?_;intro r1 u m;apply aL 2 [0] m;simp only[↓aD];refine bX [] [2,9,10,11,12,13,50,51,52,53,54,55,56,57,58,59,60,61,62,63,64,65,66,67,68,69,70,71,72,73,74,75,76,77,78,79,80,81,82,83,84,85,86,87,88,89,90,91,92,93,94] (fun n vs wl=>∃(dn rs:List (E3 × P3)) (sn:Array Nat),vs=[]∧Mem w wl [iI r1 q8 c8 sn,mI q9 es9 c9,mI q8 es8 c8]∧(oK ed pt (Fb [] (kY ts)) es8 sn dn rs)∧(∀y∈dn,¬aad ts y.1)∧(n=rs.length)) ?_ ?_
   ·
    exact⟨_,[],_,#[],rfl,m,oK.start hD8,fun _ h=>(by cases h),rfl⟩
   ·
    intro n vs wr hI u K5 hK5;obtain⟨dn,rs,sn,rfl,m,hT1,hno,hn⟩:=hI;simp only[zu,zF,zG];apply aJ 2 [0] m;simp only[↓aD];refine Nr m 0 O O (m.p 2 O) hD8 hT1 ?_;intro bb kk vv sn u m hN;simp only[zF,zG] at m;refine aB (qB O) ?_;apply aL 2 [0] m;simp only[↓aD];refine dK O ?_ ?_<;>intro hc3
    ·
     obtain⟨kp,kb,rs2,hp,hT2⟩:=Ip hc3 hN;obtain⟨x,hx⟩:∃x,cG (Fb [] (kY ts)) kp=some x:=by
      cases h:cG (Fb [] (kY ts)) kp with
      | some x=>exact⟨x,rfl⟩
      | none =>
       refine absurd ?_ (pD.1 h);have h1:=hT2.1.mem_iff (a:=(kp,kb));exact List.mem_map.2 ⟨_,h1.1 (by simp),O⟩
     have hkx:bS ts kp.1 kp.2=some x:=by rw[←Iu hnd];exact hx
     obtain⟨M,hM⟩:∃M,M=vK (dS ts) kp.1:=⟨_,rfl⟩
     have hmM:(cG (wN [] (dS ts)) kp.1).getD 0=M:=by rw[acm,hM]
     have hMl:M≤30000000:=by have h1:=Ps (dS ts) kp.1;rw[hmM,Yf,hT.len] at h1;omega
     apply aJ 4 [0] m;simp only[↓aD];refine fG (tU O (m.r 0 O) (m.p 2 O) hD8 hT2) ?_;simp only[zz];apply kD 12 [0,0,0] m;simp only[↓aD,Cz,vD,aa];intro g4 u m;refine fG (eH (ek:=ed) (en:=pt) (k:=kp) (v0:=⟨0,0,0⟩) Mo iW Dl O O (m.p 3 O) hD8) ?_;simp only[zz];apply kD 3 [0] m;simp only[↓aD,eS,aS,aa];intro g5 u m;rw[hx] at m;simp only[dq] at m;apply aW 2 [0] m;simp only[↓aD];refine bX [10] [12,13,57,58,59,60,61,62,63,64,65,66,67,68,69,70,71,72,73,74,75,76,77,78,79,80,81,82] (fun n vs wl=>∃(z:Nat) (a:P3),vs=[.int .i64 (z:Int)]∧Mem w wl [bI g5 (lA a) 30,bI g4 (dD kp) 215,iI r1 q8 c8 sn,mI q9 es9 c9,mI q8 es8 c8]∧(Cp (bS ts kp.1) kp.2 M x 1=Cp (bS ts kp.1) kp.2 (M+1-z) a z)∧(1≤z)∧(z≤M+1)∧(n=M+1-z)) ?_ ?_
     ·
      exact⟨_,1,x,O,m,O,aq _,by omega,O⟩
     ·
      intro n vs wr hI u K6 hK6;obtain⟨z,a,rfl,m,hrun,hz1,hz2,hn4⟩:=hI;simp only[zu,zF,zG];apply aJ 6 [0,1,0] m;simp only[↓aD,aS,Da,aa];refine aB (gW O O) ?_;apply aL 1 [0] m;simp only[↓aD];refine dA O (fun hb=>aI) (dA O (fun hb=>aI) (dA O (fun hb=>aV (c:=2) uQ O aA O O) ?_));simp only[zz];refine jT O (fun hb=>aZ (aY hb O) ((m.b 1 O).lies aH aA O O)) ?_;simp only[zz,zy,au,aa,ag,ad];refine jT O (fun hb=>eH (ek:=pt) (en:=sF) (k:=kp.1) (v0:=0) oZ lW gD (aY hb O) (aY hb O) (m.p 3 O) hD9) ?_;simp only[zz];refine dA O (fun hb=>Fj (aY hb O) (aY hb O)) (aB (cC O O O) ?_);apply aL 1 [0] m;simp only[↓aD];refine dK O ?_ ?_<;>intro hc4
      ·
       have hs:¬a=kp.2∧z≤M:=by rw[hmM] at hc4;simpa[ark] using hc4
       apply aJ 9 [1,0,0] m;simp only[↓aD,Sx,aS,Me,aa];refine fG (Wv (ek:=ed) (en:=pt) (k:=(kp.1,a)) (v0:=⟨0,0,0⟩) Mo iW Dl O O (m.p 4 O) hD8) ?_;simp only[zz];apply kD 13 [0,0] m;simp only[↓aD,eS,aS,aa];intro g6 u m;refine dK O ?_ ?_<;>intro hc5
       ·
        have hyn:bS ts kp.1 a=none:=by rw[←Iu hnd];simpa using hc5
        have hfin:=hrun.trans (an8 hyn);apply aJ 6 [1,2,0] m;simp only[↓aD,aS,Da,aa];refine aB (cK O O) ?_;apply aL 1 [0] m;simp only[↓aD];refine dA O (fun hb=>aI) (dA O (fun hb=>aI) (dA O (fun hb=>aV (c:=2) uQ O aA O O) ?_));simp only[zz];refine jT O (fun hb=>aZ (aY hb O) ((m.b 2 O).lies aH aA O O)) ?_;simp only[zz,zy,au,aa,ag,ad];refine jT O (fun hb=>eH (ek:=pt) (en:=sF) (k:=kp.1) (v0:=0) oZ lW gD (aY hb O) (aY hb O) (m.p 4 O) hD9) ?_;simp only[zz];refine dA O (fun hb=>rR (aY hb O) (aY hb O)) (aB (cC O O O) ?_);apply aL 1 [0] m;simp only[↓aD];refine dK O ?_ ?_<;>intro hc6
        ·
         have hs:a=kp.2∧z<M:=by rw[hmM] at hc6;simpa[←yP] using hc6
         apply aJ 5 [] m;simp only[↓aD];refine aT O O ?_;try simp only[zD,zE]
         exact⟨_,O,m.ext,by have hp:aad ts kp:=⟨x,hkx,by rw[g_,←hM,hfin];exact hs.1,by rw[g_,←hM,hfin];exact hs.2⟩;rw[pinned.2 ⟨kp,hp⟩]⟩
        ·
         have hs:¬(a=kp.2∧z<M):=by rw[hmM] at hc6;simpa[←yP] using hc6
         have hno2:∀y∈dn++[(kp,kb)],¬aad ts y.1:=fun y hy=>by
          rcases bi.1 hy with hy | hy
          · exact hno y hy
          ·
           obtain rfl:=bf.1 hy;rintro⟨x2,h1,h2,h3⟩;obtain rfl:x=x2:=fq (hkx.symm.trans h1);rw[g_,←hM,hfin] at h2 h3;exact hs ⟨h2,h3⟩
         apply aJ 2 [0] m;simp only[↓aD];exact hK5 rs2.length _ _ (by rw[hn,hp.length_eq];exact fg _) (by kernel_rfl) ⟨dn++[(kp,kb)],rs2,_,O,(m.sel [false,false,false,true,true,true]),hT2,hno2,O⟩
       ·
        obtain⟨y,hy⟩:∃y,cG (Fb [] (kY ts)) (kp.1,a)=some y:=by
         cases h:cG (Fb [] (kY ts)) (kp.1,a) with
         | some y=>exact⟨y,rfl⟩
         | none=>rw[h] at hc5;cases hc5
        have hya:bS ts kp.1 a=some y:=by rw[←Iu hnd];exact hy
        rw[hy] at m;simp only[dq] at m;apply zvc 12 [0,1,0] m;simp only[↓aD,aS,aa];refine⟨by omega,?_⟩;intro u m;exact hK6 (M+1-(z+1)) _ _ (by omega) (by kernel_rfl) ⟨z+1,y,O,(m.sel [false,true,true,true,true,true]),by rw[hrun,show M+1-z=(M+1-(z+1))+1 by omega,ari hs.1 hya],by omega,by omega,O⟩
      ·
       have hs0:a=kp.2∨¬z≤M:=by rw[hmM] at hc4;exact akC hc4
       have hfin:=hrun.trans (arj hz2 hs0);apply aJ 6 [0,1,0] m;simp only[↓aD,aS,Da,aa];refine aB (cK O O) ?_;apply aL 1 [0] m;simp only[↓aD];refine dA O (fun hb=>aI) (dA O (fun hb=>aI) (dA O (fun hb=>aV (c:=2) uQ O aA O O) ?_));simp only[zz];refine jT O (fun hb=>aZ (aY hb O) ((m.b 1 O).lies aH aA O O)) ?_;simp only[zz,zy,au,aa,ag,ad];refine jT O (fun hb=>eH (ek:=pt) (en:=sF) (k:=kp.1) (v0:=0) oZ lW gD (aY hb O) (aY hb O) (m.p 3 O) hD9) ?_;simp only[zz];refine dA O (fun hb=>rR (aY hb O) (aY hb O)) (aB (cC O O O) ?_);apply aL 1 [0] m;simp only[↓aD];refine dK O ?_ ?_<;>intro hc6
       ·
        have hs:a=kp.2∧z<M:=by rw[hmM] at hc6;simpa[←yP] using hc6
        apply aJ 5 [] m;simp only[↓aD];refine aT O O ?_;try simp only[zD,zE]
        exact⟨_,O,m.ext,by have hp:aad ts kp:=⟨x,hkx,by rw[g_,←hM,hfin];exact hs.1,by rw[g_,←hM,hfin];exact hs.2⟩;rw[pinned.2 ⟨kp,hp⟩]⟩
       ·
        have hs:¬(a=kp.2∧z<M):=by rw[hmM] at hc6;simpa[←yP] using hc6
        have hno2:∀y∈dn++[(kp,kb)],¬aad ts y.1:=fun y hy=>by
         rcases bi.1 hy with hy | hy
         · exact hno y hy
         ·
          obtain rfl:=bf.1 hy;rintro⟨x2,h1,h2,h3⟩;obtain rfl:x=x2:=fq (hkx.symm.trans h1);rw[g_,←hM,hfin] at h2 h3;exact hs ⟨h2,h3⟩
        apply aJ 2 [0] m;simp only[↓aD];exact hK5 rs2.length _ _ (by rw[hn,hp.length_eq];exact fg _) (by kernel_rfl) ⟨dn++[(kp,kb)],rs2,_,O,(m.sel [false,false,true,true,true]),hT2,hno2,O⟩
    ·
     obtain rfl:=Io hc3 hN;apply aJ 6 [] m;simp only[↓aD];refine aT O O ?_;try simp only[zD,zE]
     exact⟨_,rfl,m.ext,by cases h:(dR ts).any (Ie ts) with | false=>rfl | true=>(obtain⟨e,he⟩:=pinned.1 h;exact absurd he (akD hT1 hnd hno e))⟩
theorem an9(h:¬(aX ts).Nodup):(aX ts).any (fun e=>decide (1<lV (aX ts) e))=true:=by rw[Is];exact decide_eq_true h
theorem akE(h:(aX ts).Nodup):(aX ts).any (fun e=>decide (1<lV (aX ts) e))=false:=by rw[Is];exact decide_eq_false fun k=>k h
theorem akF{A:Option Addr}(w:aj)(hT:bV w A N ts)(hN:N≤10000000):dQ prog 97 [.slice A N cap,.bool true] w (fun v _=>v=.int .i64 (fH true ts)):=by
 refine⟨bK func97 (by kernel_rfl),?_⟩;have m:=Mem.refl w
 go_enter func97,ntmps97
 apply fF 12 [0] m;simp only[↓aD,kA];refine bX [11] [4,6,12,13,14,15,16,17,18,19,20,21,22,23,24,25,26,27,28,29,30,31,32,33,34] (fun n vs wl=>∃(k:Nat),vs=[.int .i64 (k:Int)]∧Mem w wl []∧((ts.take k).any rX=false)∧(k≤N)∧(n=N-k)) ?_ ?_
 ·
  exact⟨_,0,O,m,O,cv _,O⟩
 ·
  intro n vs wr hI u K1 hK1;obtain⟨k,rfl,m,hd0,hk,hn⟩:=hI;simp only[zu,zF,zG];apply aJ 5 [0,0] m;simp only[↓aD];refine bG O ?_ ?_<;>intro hc1
  ·
   obtain⟨t,ht,_,a,rfl,hrow⟩:=hT.get (i:=k) (by omega);apply aJ 5 [0] m;simp only[↓aD];refine aB (aF cH aP O O (by omega) (by omega) (cQ (ah _))) ?_;simp only[zz];refine aR O ((hrow.ext m.ext).lies cF aP) ?_;simp only[zz];apply kD 9 [0,0,0,0] m;simp only[↓aD,nX,eL,bT,aS,aa,ad,ag];intro g1;refine⟨by omega,?_⟩;intro u m;refine aB (cK O O) ?_;apply aL 1 [0] m;simp only[↓aD];refine bB O (fun hb=>aK cM aA O O (by decide) (by decide) O) ?_;simp only[zz];refine cA O (fun hb=>aZ (aY hb O) ((m.b 0 O).lies aH aA O O)) ?_;simp only[zz,zy,au,aa,ag,ad];refine bB O (fun hb=>aK cM aA O O (by decide) (by decide) O) ?_;simp only[zz];refine cA O (fun hb=>aZ (aY hb O) ((m.b 0 O).lies aH aA O O)) ?_;simp only[zz,zy,au,aa,ag,ad];refine bB O (fun hb=>cK (aY hb O) (aY hb O)) (aB (cE O O O) ?_);apply aL 1 [0] m;simp only[↓aD];refine bB O (fun hb=>aK cM aA O O (by decide) (by decide) O) ?_;simp only[zz];refine cA O (fun hb=>aZ (aY hb O) ((m.b 0 O).lies aH aA O O)) ?_;simp only[zz,zy,au,aa,ag,ad];refine bB O (fun hb=>aK cM aA O O (by decide) (by decide) O) ?_;simp only[zz];refine cA O (fun hb=>aZ (aY hb O) ((m.b 0 O).lies aH aA O O)) ?_;simp only[zz,zy,au,aa,ag,ad];refine bB O (fun hb=>cK (aY hb O) (aY hb O)) (aB (cE O O O) ?_);apply aL 1 [0] m;simp only[↓aD];refine gF O ?_ ?_<;>intro hc2
   ·
    have hd:=If (p:=rX) ht (Zo.symm.trans hc2);apply aJ 5 [] m;simp only[↓aD];refine aT O O ?_;try simp only[zD,zE]
    exact⟨_,O,m.ext,by rw[afL hd]⟩
   ·
    have hd1:(ts.take (k+1)).any rX=false:=by rw[xE ht,hd0,←Zo];exact hc2
    apply aJ 6 [0] m;simp only[↓aD];refine⟨by omega,?_⟩;exact hK1 (N-(k+1)) _ _ (by omega) (by kernel_rfl) ⟨k+1,O,(m.sel [false]),hd1,by omega,O⟩
  ·
   have hkN:k=N:=by omega
   rw[hkN,show ts.take N=ts from a_ (by rw[hT.len];exact aq _)] at hd0;apply aJ 4 [0] m;simp only[↓aD];refine bJ O O (Tm _ (hT.ext m.ext) hN) ?_;rintro v u e_ ⟨g8,es8,c8,rfl,hM,hD8⟩;replace m:=m.plus hM;clear hM;simp only[cn,b_] at m;apply aL 14 [0] m;simp only[↓aD];refine dK O ?_ ?_<;>intro hc3
   ·
    have hnd:¬(aX ts).Nodup:=by simpa using hc3
    apply aJ 5 [] m;simp only[↓aD];refine aT O O ?_;try simp only[zD,zE]
    exact⟨_,O,m.ext,by rw[afM hd0 (an9 hnd)]⟩
   ·
    have hnd:(aX ts).Nodup:=by simpa using hc3
    apply aJ 16 [0] m;simp only[↓aD,Bool.not_true,fh];refine dM m O O (aep _ (hT.ext m.ext) hN hnd) ?_;rintro v u m rfl;apply aL 2 [0] m;simp only[↓aD];refine dK O ?_ ?_<;>intro hc5
    ·
     apply aJ 5 [] m;simp only[↓aD];refine aT O O ?_;try simp only[zD,zE]
     exact⟨_,O,m.ext,by rw[afN hd0 (akE hnd) O hc5]⟩
    ·
     apply aJ 7 [] m;simp only[↓aD];refine aT O O ?_;try simp only[zD,zE]
     exact⟨_,O,m.ext,by rw[akz hd0 (akE hnd) O hc5]⟩
theorem Ae{A:Option Addr}(w:aj)(hT:bV w A N ts)(hN:N≤10000000):dQ prog 49 [.slice A N cap] w (fun v _=>v=.int .i64 (fH true ts)):=by
 refine⟨bK func49 (by kernel_rfl),?_⟩;have m:=Mem.refl w
 go_enter func49,ntmps49
 apply fF 7 [0] m;simp only[↓aD];refine dM m O O (akF _ (hT.ext m.ext) hN) ?_;rintro v u m rfl;apply aL 3 [] m;simp only[↓aD];exact aT O O ⟨_,O,m.ext,O⟩
theorem arl(h1:t.b.Lt t.a)(h2:t.c.Lt t.b):dL t=⟨t.c,t.a,t.b⟩:=if_pos ⟨P3.lt_trans h2 h1,.inl h2⟩
theorem arm(h1:t.b.Lt t.a)(h2:¬t.c.Lt t.b):dL t=⟨t.b,t.c,t.a⟩:=by rw[dL,if_neg (fun h=>h.2.elim h2 fun k=>k h1),if_pos h1]
theorem arn(h1:¬t.b.Lt t.a)(h2:t.c.Lt t.a):dL t=⟨t.c,t.a,t.b⟩:=if_pos ⟨h2,.inr h1⟩
theorem aro(h1:¬t.b.Lt t.a)(h2:¬t.c.Lt t.a):dL t=t:=by rw[dL,if_neg (fun h=>h2 h.1),if_neg h1]
theorem ahk  : dT prog 111 [tr t] (tr (dL t)):=by
 intro w;refine⟨bK func111 (by kernel_rfl),?_⟩;have m:=Mem.refl w
 go_enter func111,ntmps111
 apply jP 28 [3,1,0] m;simp only[↓aD,nX];intro g1 g2;refine⟨by omega,?_⟩;intro u m;refine mq m aC (by kernel_rfl) (eC 6 [1,1] ?_);simp only[↓aD,bT,aS,ad,ag,aa];refine⟨by omega,?_⟩;refine eX O O tZ.pure (bC ?_);intro u m;refine gc ?_;simp only[zz];refine bG O ?_ ?_<;>intro hc2
 ·
  have h1:=hc2;apply aJ 22 [1,0] m;simp only[↓aD,ak];refine⟨by omega,?_⟩;refine mq m aC (by kernel_rfl) (eC 6 [1,1] ?_);simp only[↓aD,bT,aS,ad,ag,aa];refine⟨by omega,?_⟩;refine eX O O tZ.pure (bC ?_);intro u m;refine gc ?_;simp only[zz];refine bG O ?_ ?_<;>intro hc2
  ·
   have h2:=hc2;apply aJ 20 [2,0] m;simp only[↓aD,ak];refine⟨by omega,?_⟩;refine cL m 14 aC (by kernel_rfl) ?_;simp only[zy];refine eC 5 [1] ?_;simp only[↓aD,bT,aS,ad,ag,aa,ak];refine⟨by omega,?_⟩;refine aG (cP (m:=3) (n:=3) (r:=0) O O (by decide) (by decide)) (eC 4 [1] ?_);simp only[↓aD,bT,aS,ad,ag,aa,ak];refine⟨by omega,?_⟩;refine aG (cP (m:=4) (n:=3) (r:=1) O O (by decide) (by decide)) (eC 3 [1] ?_);simp only[↓aD,bT,aS,qT,ad,ag,aa];refine⟨by omega,?_⟩;refine bC ?_;intro u m;refine bP m 0 O O O aP (gV O) O ?_;intro u m;simp only[zy,zx,over,zF,zG,aa] at m;refine aM ?_;apply aW 1 [] m;simp only[↓aD];refine aT O ⟨_,O,((m.b 0 O).full cF aP)⟩ ?_;try simp only[zD,zE]
   exact⟨_,O,m.ext,by rw[arl h1 h2];rfl⟩
  ·
   have h2:=hc2;apply aJ 17 [2,0] m;simp only[↓aD,ak];refine⟨by omega,?_⟩;refine cL m 14 aC (by kernel_rfl) ?_;simp only[zy];refine eC 5 [1] ?_;simp only[↓aD,bT,aS,ad,ag,aa,ak];refine⟨by omega,?_⟩;refine aG (cP (m:=2) (n:=3) (r:=2) O O (by decide) (by decide)) (eC 4 [1] ?_);simp only[↓aD,bT,aS,ad,ag,aa,ak];refine⟨by omega,?_⟩;refine aG (cP (m:=3) (n:=3) (r:=0) O O (by decide) (by decide)) (eC 3 [1] ?_);simp only[↓aD,bT,aS,qT,ad,ag,aa];refine⟨by omega,?_⟩;refine bC ?_;intro u m;refine bP m 0 O O O aP (gV O) O ?_;intro u m;simp only[zy,zx,over,zF,zG,aa] at m;refine aM ?_;apply aW 1 [] m;simp only[↓aD];refine aT O ⟨_,O,((m.b 0 O).full cF aP)⟩ ?_;try simp only[zD,zE]
   exact⟨_,O,m.ext,by rw[arm h1 h2];rfl⟩
 ·
  have h1:=hc2;apply aJ 19 [1,0] m;simp only[↓aD,ak];refine⟨by omega,?_⟩;refine mq m aC (by kernel_rfl) (eC 6 [1,1] ?_);simp only[↓aD,bT,aS,ad,ag,aa];refine⟨by omega,?_⟩;refine eX O O tZ.pure (bC ?_);intro u m;refine gc ?_;simp only[zz];refine bG O ?_ ?_<;>intro hc2
  ·
   have h2:=hc2;apply aJ 20 [2,0] m;simp only[↓aD,ak];refine⟨by omega,?_⟩;refine cL m 14 aC (by kernel_rfl) ?_;simp only[zy];refine eC 5 [1] ?_;simp only[↓aD,bT,aS,ad,ag,aa,ak];refine⟨by omega,?_⟩;refine aG (cP (m:=3) (n:=3) (r:=0) O O (by decide) (by decide)) (eC 4 [1] ?_);simp only[↓aD,bT,aS,ad,ag,aa,ak];refine⟨by omega,?_⟩;refine aG (cP (m:=4) (n:=3) (r:=1) O O (by decide) (by decide)) (eC 3 [1] ?_);simp only[↓aD,bT,aS,qT,ad,ag,aa];refine⟨by omega,?_⟩;refine bC ?_;intro u m;refine bP m 0 O O O aP (gV O) O ?_;intro u m;simp only[zy,zx,over,zF,zG,aa] at m;refine aM ?_;apply aW 1 [] m;simp only[↓aD];refine aT O ⟨_,O,((m.b 0 O).full cF aP)⟩ ?_;try simp only[zD,zE]
   exact⟨_,O,m.ext,by rw[arn h1 h2];rfl⟩
  ·
   have h2:=hc2;apply aJ 17 [2,0] m;simp only[↓aD,ak];refine⟨by omega,?_⟩;refine cL m 14 aC (by kernel_rfl) ?_;simp only[zy];refine eC 5 [1] ?_;simp only[↓aD,bT,aS,ad,ag,aa,ak];refine⟨by omega,?_⟩;refine aG (cP (m:=1) (n:=3) (r:=1) O O (by decide) (by decide)) (eC 4 [1] ?_);simp only[↓aD,bT,aS,ad,ag,aa,ak];refine⟨by omega,?_⟩;refine aG (cP (m:=2) (n:=3) (r:=2) O O (by decide) (by decide)) (eC 3 [1] ?_);simp only[↓aD,bT,aS,qT,ad,ag,aa];refine⟨by omega,?_⟩;refine bC ?_;intro u m;refine bP m 0 O O O aP (gV O) O ?_;intro u m;simp only[zy,zx,over,zF,zG,aa] at m;refine aM ?_;apply aW 1 [] m;simp only[↓aD];refine aT O ⟨_,O,((m.b 0 O).full cF aP)⟩ ?_;try simp only[zD,zE]
   exact⟨_,O,m.ext,by rw[aro h1 h2];rfl⟩
end Go.Proofs.YtfekpcimgncioaaGreatDoor
namespace Go.Proofs.YtfekpcimgncioaaGreatDoor
open Go.Proofs.Tryz
open Go.RowKit Go.Lith
set_option maxRecDepth 100000
attribute [local irreducible] ar cw gG bQ cO Code.wp
variable{q:P3}
theorem akG{x y z:Int}{g1:Nat}(w:aj)(hB1:fR w g1 [.int .i64 x,.int .i64 y,.int .i64 z] 3):akw prog 125 [.slice (some ⟨g1,0,none⟩) 3 3] w (.int .i64 (if x=0 then if y=0 then z else y else x)):=by
 refine⟨aiy,?_⟩;have m:=gS.refl w
 go_enter func125,ntmps125
 refine bE fun K1 k1=>ao (aB aO (aM (k1 _ _ ?_)));try clear k1 K1
 refine bE fun K2 k2=>ao (aB aO (aM (k2 _ _ ?_)));try clear k2 K2
 refine bE fun K3 k3=>bE fun K4 k4=>ao (aB aI (aB (Kv O dH O) ?_));simp only[zz];refine aB aI (aM (k4 _ _ ?_));try clear k4 K4
 refine jt (pi 4 (By (bE fun K5 k5=>ao (aB (qW (m:=0) (n:=3) O O (by decide)) (aM (k5 _ _ ?_))))));try clear k5 K5
 refine bE fun K6 k6=>Bm O (jz (k6 _ _ ?_));try clear k6 K6
 refine bE fun K7 k7=>jt (bE fun K8 k8=>ao ?_);simp only[zz];refine aB (aF dH aU O O (by decide) (by omega) O) ?_;simp only[zz];refine aR O ((hB1.ext m.ext.ext).lies1 bD O) ?_;simp only[zz];refine aB aO (aM (k8 _ _ ?_));try clear k8 K8
 refine bE fun K9 k9=>ao (aB aI (aB aI (aB (rS O O) ?_)));simp only[zz];refine aM (k9 _ _ ?_);try clear k9 K9
 refine bG O ?_ ?_<;>intro hc2
 ·
  refine bE fun K10 k10=>ao (aB aI (aB aO (aM (k10 _ _ ?_))));try clear k10 K10
  refine jf ?_;simp only[zz];try simp only[dl,Exit.then,if_true]
  refine aT O O ?_;try simp only[zD,zE]
  exact⟨_,O,m.ext,by rw[if_neg hc2]⟩
 ·
  have hx:x=0:=by omega
  refine jz (k7 _ _ ?_);try clear k7 K7
  refine ao (aB (fB (m:=0) (n:=1) (r:=1) O O (by decide)) (aB aI (aM (lR (bE fun K11 k11=>ao (aB (qW (m:=1) (n:=3) O O (by decide)) (aM (k11 _ _ ?_))))))));try clear k11 K11
  refine bE fun K12 k12=>Bm O (jz (k12 _ _ ?_));try clear k12 K12
  refine bE fun K13 k13=>jt (bE fun K14 k14=>ao ?_);simp only[zz];refine aB (aF dH aU O O (by decide) (by omega) O) ?_;simp only[zz];refine aR O ((hB1.ext m.ext.ext).lies1 bD O) ?_;simp only[zz];refine aB aO (aM (k14 _ _ ?_));try clear k14 K14
  refine bE fun K15 k15=>ao (aB aI (aB aI (aB (rS O O) ?_)));simp only[zz];refine aM (k15 _ _ ?_);try clear k15 K15
  refine bG O ?_ ?_<;>intro hc2
  ·
   refine bE fun K16 k16=>ao (aB aI (aB aO (aM (k16 _ _ ?_))));try clear k16 K16
   refine jf ?_;simp only[zz];try simp only[dl,Exit.then,if_true]
   refine aT O O ?_;try simp only[zD,zE]
   exact⟨_,O,m.ext,by rw[if_pos hx,if_neg hc2]⟩
  ·
   have hy:y=0:=by omega
   refine jz (k13 _ _ ?_);try clear k13 K13
   refine ao (aB (fB (m:=1) (n:=1) (r:=2) O O (by decide)) (aB aI (aM (lR (bE fun K17 k17=>ao (aB (qW (m:=2) (n:=3) O O (by decide)) (aM (k17 _ _ ?_))))))));try clear k17 K17
   refine bE fun K18 k18=>Bm O (jz (k18 _ _ ?_));try clear k18 K18
   refine bE fun K19 k19=>jt (bE fun K20 k20=>ao ?_);simp only[zz];refine aB (aF dH aU O O (by decide) (by omega) O) ?_;simp only[zz];refine aR O ((hB1.ext m.ext.ext).lies1 bD O) ?_;simp only[zz];refine aB aO (aM (k20 _ _ ?_));try clear k20 K20
   refine bE fun K21 k21=>ao (aB aI (aB aI (aB (rS O O) ?_)));simp only[zz];refine aM (k21 _ _ ?_);try clear k21 K21
   refine bG O ?_ ?_<;>intro hc2
   ·
    refine bE fun K22 k22=>ao (aB aI (aB aO (aM (k22 _ _ ?_))));try clear k22 K22
    refine jf ?_;simp only[zz];try simp only[dl,Exit.then,if_true]
    refine aT O O ?_;try simp only[zD,zE]
    exact⟨_,O,m.ext,by rw[if_pos hx,if_pos hy]⟩
   ·
    have hz:z=0:=by omega
    refine jz (k19 _ _ ?_);try clear k19 K19
    refine ao (aB (fB (m:=2) (n:=1) (r:=3) O O (by decide)) (aB aI (aM (lR (bE fun K23 k23=>ao (aB (Gf (m:=3) (n:=3) O O (by decide)) (aM (k23 _ _ ?_))))))));try clear k23 K23
    refine bE fun K24 k24=>af9 O (wp_exit (k3 _ _ ?_));try clear k3 K3
    refine bE fun K25 k25=>ao (aB aI ?_);simp only[zz];refine aB aO (aM (k25 _ _ ?_));try clear k25 K25
    refine jf ?_;simp only[zz];try simp only[dl,Exit.then,if_true]
    refine aT O O ?_;try simp only[zD,zE]
    exact⟨_,O,m.ext,by rw[if_pos hx,if_pos hy,hz]⟩
def aeq(s t:T3):Int:=if qO s.a t.a=0 then if qO s.b t.b=0 then qO s.c t.c else qO s.b t.b else qO s.a t.a
theorem Ka(s t:T3):(aeq s t<0)↔s.Lt t:=by
 unfold aeq T3.Lt;split
 · rename_i h
   have h':=nR.1 h;have n1:¬s.a.Lt t.a:=fun k=>P3.lt_irrefl _ (h'▸k);split
   · rename_i g
     have g':=nR.1 g;have n2:¬s.b.Lt t.b:=fun k=>P3.lt_irrefl _ (g'▸k);rw[mB];simp[h',g',P3.lt_irrefl]
   · rename_i g
     have g':¬s.b=t.b:=fun e=>g (nR.2 e);rw[mB];simp[h',g',P3.lt_irrefl]
 · rename_i h
   have h':¬s.a=t.a:=fun e=>h (nR.2 e);rw[mB];simp[h']
instance:Inhabited T3:=⟨⟨⟨0,0,0⟩,⟨0,0,0⟩,⟨0,0,0⟩⟩⟩
theorem akH:Go.Sort.SWO (Go.Proofs.ltOf aeq) where
 irrefl a:=by simp only[Go.Proofs.ltOf,decide_eq_false_iff_not,Ka];exact T3.lt_irrefl a
 trans x y z h1 h2:=by
  simp only[Go.Proofs.ltOf,decide_eq_true_eq,Ka] at *
  exact T3.lt_trans h1 h2
 ntrans x y z h1 h2:=by
  simp only[Go.Proofs.ltOf,decide_eq_false_iff_not,Ka] at *
  intro h;rcases T3.lt_tri y x with k | k | k
  · exact absurd (T3.lt_trans k h) (by first | exact h2 | exact h1)
  · subst k;first | exact h2 h | exact h1 h
  · first | exact h1 k | exact h2 k
theorem aaC(t:T3):∀v∈aN t,v.oneCell'=true:=fun v h=>by
 simp only[aN,an,cg,or_false] at h;rcases h with rfl | rfl | rfl | rfl | rfl | rfl | rfl | rfl | rfl <;> rfl
theorem aoa{p q:T3}:sZ prog 113 [tr p,tr q] (.int .i64 (aeq p q)):=by
 intro w;refine⟨bK func113 (by kernel_rfl),?_⟩;have m:=gS.refl w
 go_enter func113,ntmps113
 refine bE fun K1 k1=>ao (oS m O ?_);intro g1 u m;simp only[zz];refine oS m O ?_;intro g2 u m;refine aB aO (aM (k1 _ _ ?_));try clear k1 K1
 refine bE fun K2 k2=>?_;simp only[zz];refine Qy m 15 aC (by kernel_rfl) ?_;simp only[zy];refine aG (aK cM aA O O (by decide) (by decide) O) ?_;simp only[zz];refine Ur O (fun u m=>((m.b 1 O).lies aH aA O O)) ?_;simp only[zz,zy,au,aa,ag,ad];refine aG (aK cM aA O O (by decide) (by decide) O) ?_;simp only[zz];refine Ur O (fun u m=>((m.b 0 O).lies aH aA O O)) ?_;simp only[zz,zy,au,aa,ag,ad];refine Ia O O (Et (p:=p.a) (q:=q.a)) (aG (aK cM aA O O (by decide) (by decide) O) ?_);simp only[zz];refine Ur O (fun u m=>((m.b 1 O).lies aH aA O O)) ?_;simp only[zz,zy,au,aa,ag,ad];refine aG (aK cM aA O O (by decide) (by decide) O) ?_;simp only[zz];refine Ur O (fun u m=>((m.b 0 O).lies aH aA O O)) ?_;simp only[zz,zy,au,aa,ag,ad];refine Ia O O (Et (p:=p.b) (q:=q.b)) (aG (aK cM aA O O (by decide) (by decide) O) ?_);simp only[zz];refine Ur O (fun u m=>((m.b 1 O).lies aH aA O O)) ?_;simp only[zz,zy,au,aa,ag,ad];refine aG (aK cM aA O O (by decide) (by decide) O) ?_;simp only[zz];refine Ur O (fun u m=>((m.b 0 O).lies aH aA O O)) ?_;simp only[zz,zy,au,aa,ag,ad];refine Ia O O (Et (p:=p.c) (q:=q.c)) (bC ?_);intro u m;simp only[zz];refine acj m dH (z:=.int .i64 0) (by kernel_rfl) O O O O O O O ?_;intro g3 u m;simp only[zz];refine aay m O O (akG _ (m.b 0 O)) ?_;intro u m;refine aB aO (aM (k2 _ _ ?_));try clear k2 K2
 refine jf ?_;simp only[zz];try simp only[dl,Exit.then,if_true]
 refine aT O O ?_;try simp only[zD,zE]
 exact⟨_,O,m.ext,O⟩
theorem arp{p:P3}(h:p.x=q.x∧p.y=q.y∧p.z=q.z):(0:Int)=qO p q:=(nR.2 (P3.eq h.1 h.2.1 h.2.2)).symm
theorem arq{p:P3}(h:p.Lt q):(-1:Int)=qO p q:=(if_pos h).symm
theorem ars{p:P3}(h1:¬(p.x=q.x∧p.y=q.y∧p.z=q.z))(h2:¬p.Lt q):(1:Int)=qO p q:=by
 unfold qO;rcases P3.lt_tri p q with h | h | h
 · exact absurd h h2
 · exact absurd (by rw[h];exact⟨O,O,O⟩) h1
 · rw[if_neg h2,if_pos h]
theorem Tn{p:P3}:sZ prog 70 [pt p,pt q] (.int .i64 (qO p q)):=by
 intro w;refine⟨bK func70 (by kernel_rfl),?_⟩;have m:=gS.refl w
 go_enter func70,ntmps70
 refine bE fun K1 k1=>ao (oS m O ?_);intro g1 u m;simp only[zz];refine oS m O ?_;intro g2 u m;refine aB aO (aM (k1 _ _ ?_));try clear k1 K1
 refine bE fun K2 k2=>jt (bE fun K3 k3=>ao ?_);simp only[zz];refine aR O ((m.b 1 O).full aH aA) ?_;simp only[zz];refine aR O ((m.b 0 O).full aH aA) ?_;simp only[zz];refine aB (cK O O) (aB aO (aM (k3 _ _ ?_)));try clear k3 K3
 simp only[zz];refine bG O ?_ ?_<;>intro hc1
 ·
  refine bE fun K4 k4=>ao (aB aO (aM (k4 _ _ ?_)));try clear k4 K4
  refine jf ?_;simp only[zz];try simp only[dl,Exit.then,if_true]
  refine aT O O ?_;try simp only[zD,zE]
  exact⟨_,O,m.ext,by rw[←arp hc1]⟩
 ·
  refine bE fun K5 k5=>ao (aR O ((m.b 1 O).full aH aA) ?_);simp only[zz];refine aR O ((m.b 0 O).full aH aA) ?_;simp only[zz];refine Pb m O O (tZ (p:=p) (q:=q)) ?_;intro u m;refine aB aO (aM (k5 _ _ ?_));try clear k5 K5
  simp only[zz];refine bG O ?_ ?_<;>intro hc2
  ·
   refine bE fun K6 k6=>ao (aB aO (aM (k6 _ _ ?_)));try clear k6 K6
   refine jf ?_;simp only[zz];try simp only[dl,Exit.then,if_true]
   refine aT O O ?_;try simp only[zD,zE]
   exact⟨_,O,m.ext,by rw[←arq hc2]⟩
  ·
   refine jz (k2 _ _ ?_);try clear k2 K2
   refine bE fun K7 k7=>ao (aB aO (aM (k7 _ _ ?_)));try clear k7 K7
   refine jf ?_;simp only[zz];try simp only[dl,Exit.then,if_true]
   refine aT O O ?_;try simp only[zD,zE]
   exact⟨_,O,m.ext,by rw[←ars hc1 hc2]⟩
end Go.Proofs.YtfekpcimgncioaaGreatDoor
namespace Go.Proofs.YtfekpcimgncioaaGreatDoor
open Go.Proofs.Tryz
open Go.RowKit Go.Lith
set_option maxRecDepth 100000
attribute [local irreducible] ar cw gG bQ cO Code.wp
attribute [local congr] rC gX gY gZ iA iB lI iC iD iE iF iG iH iJ iK iL iM iN fJ fK iO iP iR iS iT lK dW dX cX dV iQ lJ fN fO fP iU iV lM
variable{ts:List T3}{cap:Nat}{u x q:P3}{t:T3}
theorem ahl{w0 w:aj}{is:List It}{A:Option Addr}{n cap:Nat}{xs:List T3}(m:Mem w0 w is)(k:Nat)(hi:is[k]? = some (oI 39 9 A n cap (xs.flatMap aN)))(hsz:n<4611686018427387904) :
 Calls prog 112 [.slice A n cap,.func (.func 113) #[] #[]].toArray w fun e w'=>∃v i,e=.returned v∧Mem w0 w' (is.set k i)∧(v=.tuple #[]∧∃ys:List T3,i=oI 39 9 A n cap (ys.flatMap aN)∧ys.Perm xs∧ys.Pairwise fun a b=>ltOf aeq b a=false) :=
 Cl (enc:=aN) Tryz.sort112 (fun w=>pN cF w) (fun w=>eG aP w) (fun _=>rfl) (by decide) aaC aeq akH (fun x y=>aoa) m k hi hsz
theorem aer{ys:List T3}(h:ys.Perm (ts.map dL))(hs:ys.Pairwise fun a b=>Go.Proofs.ltOf aeq b a=false):ys=cS ts :=
 ajr h (hs.imp fun {a b} h k=>by
  have:=(Ka b a).2 k;simp[Go.Proofs.ltOf] at h;omega)
theorem acn{N:Nat}{A:Option Addr}(w:aj)(hT:bV w A N ts)(hN:N≤10000000):dQ prog 55 [.slice A N cap] w (SL 39 9 ((cS ts).flatMap aN) ts.length w):=by
 refine⟨bK func55 (by kernel_rfl),?_⟩;have m:=Mem.refl w;have htl:=hT.len
 go_enter func55,ntmps55
 apply fF 6 [0] m;simp only[↓aD];refine aB aO ?_;replace m:=m.nilO 39 9;apply aL 9 [0] m;simp only[↓aD,kA];refine bX [3,8] [5,9,10,11,12,13,14,15,16,17] (fun n vs wl=>∃(k:Nat) (A1:Option Addr) (cap1:Nat),vs=[.slice A1 k cap1,.int .i64 (k:Int)]∧Mem w wl [oI 39 9 A1 k cap1 (((ts.take k).map dL).flatMap aN)]∧(k≤N)∧(n=N-k)) ?_ ?_
 ·
  exact⟨_,0,_,_,O,m,cv _,O⟩
 · intro n vs wr hI u K1 hK1
   obtain⟨k,A1,cap1,rfl,m,hk,hn⟩:=hI;simp only[zu,zF,zG];apply aJ 5 [0,0] m;simp only[↓aD];refine bG O ?_ ?_<;>intro hc1
   ·
    obtain⟨t,ht,_,a,rfl,hrow⟩:=hT.get (i:=k) (by omega);apply aJ 5 [0] m;simp only[↓aD];refine aB (aF cH aP O O (by omega) (by omega) (cQ (ah _))) ?_;simp only[zz];refine aR O ((hrow.ext m.ext).lies cF aP) ?_;simp only[zz];apply kD 6 [0,0,0] m;simp only[↓aD,nX,eL,aa];intro g1 u m;refine kO m O O ahk ?_;intro u m;simp only[zz];refine eZ O ?_;intro u g2 e_ h_ k_;replace m:=m.newB e_ h_ k_;simp only[zz];refine bL m 2 O O cH jK O (by decide) O O O (m.b 0 O).rowsO (gB O) (by omega) (by omega) ?_;intro A1 cap1 u m;simp only[zF,zG] at m;rw[show ((ts.take k).map dL).flatMap aN++_=((ts.take (k+1)).map dL).flatMap aN by rw[cJ ht,ct,ay];rfl] at m;apply aL 7 [0] m;simp only[↓aD];refine⟨by omega,?_⟩;exact hK1 (N-(k+1)) _ _ (by omega) (by kernel_rfl) ⟨k+1,_,_,O,(m.sel [false,false,true]),by omega,O⟩
   ·
    obtain rfl:k=N:=by omega
    rw[show ts.take k=ts from a_ (by omega)] at m;apply aJ 4 [0] m;simp only[↓aD];refine mO m 0 (bK func112 (by kernel_rfl)) O O (fun m=>ahl m 0 O (by omega)) ?_;rintro v i u m ⟨rfl,ys,rfl,hys,hso⟩;simp only[zF,zG] at m;simp only[zz];obtain rfl:=aer hys hso;apply aL 7 [] m;simp only[↓aD];exact aT O O ⟨_,O,m.ext,⟨_,_,_,htl.symm,O,(m.o 0 O)⟩⟩
theorem akI{v:P3}(h:x.x=u.x∧x.y=u.y∧x.z=u.z):Gw u v x=v:=by
 rw[show x=u from P3.eq h.1 h.2.1 h.2.2];exact asF
theorem aes{v:P3}(h:¬(x.x=u.x∧x.y=u.y∧x.z=u.z)):Gw u v x=x:=asG fun e=>h (by rw[e];exact⟨rfl,rfl,rfl⟩)
theorem pne{p:P3}:decide (¬(p.x=q.x∧p.y=q.y∧p.z=q.z))=decide (p≠q):=decide_eq_decide.2 ⟨fun h e=>h (by rw[e];exact⟨rfl,rfl,rfl⟩),fun h e=>h (P3.eq e.1 e.2.1 e.2.2)⟩
theorem afO{p:P3}:dT prog 54 [tr t,pt p,pt q] (.tuple #[tr (tX p q t),.bool (tX p q t).nd]):=by
 intro w;refine⟨bK func54 (by kernel_rfl),?_⟩;have m:=Mem.refl w
 go_enter func54,ntmps54
 apply jP 31 [4,1,0] m;simp only[↓aD,nX];intro g1 g2 g3 g4;refine⟨by omega,?_⟩;intro u m;refine mq m aC (by kernel_rfl) (eC 4 [3,2] ?_);simp only[↓aD,bT,aS,ad,ag,aa];refine⟨by omega,?_⟩;refine aG (cK O O) (bC ?_);intro u m;refine gc ?_;simp only[zz];refine jL m 3 [] [17,18,19] (fun vs i=>vs=[]∧i=bI g1 [.int .i64 (Gw p q t.a).x,.int .i64 (Gw p q t.a).y,.int .i64 (Gw p q t.a).z,.int .i64 (t.b).x,.int .i64 (t.b).y,.int .i64 (t.b).z,.int .i64 (t.c).x,.int .i64 (t.c).y,.int .i64 (t.c).z] 39) ?_ ?_
 · intro K1 hK1
   refine bG O ?_ ?_<;>intro hc2
   ·
    apply zvc 6 [1,3,0] m;simp only[↓aD,aS,bT,ad,ag,aa];refine⟨by omega,?_⟩;intro u m;exact hK1 _ _ _ (by kernel_rfl) m ⟨O,by rw[akI hc2] <;> rfl⟩
   ·
    apply aJ 1 [0] m;simp only[↓aD];exact hK1 _ _ _ (by kernel_rfl) m ⟨O,by rw[aes hc2] <;> rfl⟩
 · intro vs i wr m hI u
   obtain⟨rfl,rfl⟩:=hI;simp only[zF,zG] at m;simp only[zu,zF,zG];apply aW 21 [1,0] m;simp only[↓aD,ak];refine⟨by omega,?_⟩;refine mq m aC (by kernel_rfl) (eC 4 [3,2] ?_);simp only[↓aD,bT,aS,ad,ag,aa];refine⟨by omega,?_⟩;refine aG (cK O O) (bC ?_);intro u m;refine gc ?_;simp only[zz];refine jL m 3 [] [17,18,19] (fun vs i=>vs=[]∧i=bI g1 [.int .i64 (Gw p q t.a).x,.int .i64 (Gw p q t.a).y,.int .i64 (Gw p q t.a).z,.int .i64 (Gw p q t.b).x,.int .i64 (Gw p q t.b).y,.int .i64 (Gw p q t.b).z,.int .i64 (t.c).x,.int .i64 (t.c).y,.int .i64 (t.c).z] 39) ?_ ?_
   · intro K2 hK2
     refine bG O ?_ ?_<;>intro hc2
     ·
      apply zvc 6 [1,3,0] m;simp only[↓aD,aS,bT,ad,ag,aa];refine⟨by omega,?_⟩;intro u m;exact hK2 _ _ _ (by kernel_rfl) m ⟨O,by rw[akI hc2] <;> rfl⟩
     ·
      apply aJ 1 [0] m;simp only[↓aD];exact hK2 _ _ _ (by kernel_rfl) m ⟨O,by rw[aes hc2] <;> rfl⟩
   · intro vs i wr m hI u
     obtain⟨rfl,rfl⟩:=hI;simp only[zF,zG] at m;simp only[zu,zF,zG];apply aW 21 [1,0] m;simp only[↓aD,ak];refine⟨by omega,?_⟩;refine mq m aC (by kernel_rfl) (eC 4 [3,2] ?_);simp only[↓aD,bT,aS,ad,ag,aa];refine⟨by omega,?_⟩;refine aG (cK O O) (bC ?_);intro u m;refine gc ?_;simp only[zz];refine jL m 3 [] [17,18,19] (fun vs i=>vs=[]∧i=bI g1 [.int .i64 (Gw p q t.a).x,.int .i64 (Gw p q t.a).y,.int .i64 (Gw p q t.a).z,.int .i64 (Gw p q t.b).x,.int .i64 (Gw p q t.b).y,.int .i64 (Gw p q t.b).z,.int .i64 (Gw p q t.c).x,.int .i64 (Gw p q t.c).y,.int .i64 (Gw p q t.c).z] 39) ?_ ?_
     · intro K3 hK3
       refine bG O ?_ ?_<;>intro hc2
       ·
        apply zvc 6 [1,3,0] m;simp only[↓aD,aS,bT,ad,ag,aa];refine⟨by omega,?_⟩;intro u m;exact hK3 _ _ _ (by kernel_rfl) m ⟨O,by rw[akI hc2] <;> rfl⟩
       ·
        apply aJ 1 [0] m;simp only[↓aD];exact hK3 _ _ _ (by kernel_rfl) m ⟨O,by rw[aes hc2] <;> rfl⟩
     · intro vs i wr m hI u
       obtain⟨rfl,rfl⟩:=hI;simp only[zF,zG] at m;simp only[zu,zF,zG];apply aW 14 [2,0] m;simp only[↓aD,ak];refine⟨by omega,?_⟩;refine mh m [false,true,true,true] [(1,true),(3,true),(0,true),(2,true),(4,true),(5,true),(6,true),(7,true),(9,true),(8,true),(10,true),(11,true),(12,true),(13,true),(14,true),(16,true),(15,true),(17,true),(18,true),(19,true),(20,false),(21,true)] aC (by kernel_rfl) (bU (fun _ _ _ _ _ h=>h)) (ol:=?_) ?hol ?_
       case hol=>simp only[zw,zQ,zR];try rfl
       intro u m;refine Pg 5 [2,2,2] ?_;simp only[↓aD,bT,eL,aS,ad,ag,aa];refine⟨by omega,?_⟩;refine bF (gW O O) (bF aI (Ld O (fun hb=>aK cM aA O O (by decide) (by decide) O) (Ld O (fun hb=>aK cM aA O O (by decide) (by decide) O) ?_)));simp only[zz];refine Ib O (fun hb u m=>aZ (aY hb O) ((m.b 2 O).lies aH aA O O)) ?_;simp only[zz,zy,au,aa,ag,ad];refine Ib O (fun hb u m=>aZ (aY hb O) ((m.b 2 O).lies aH aA O O)) ?_;simp only[zz,zy,au,aa,ag,ad];refine Ld O (fun hb=>gW (aY hb O) (aY hb O)) (bF (cC O O O) (bF aI (Ld O (fun hb=>aK cM aA O O (by decide) (by decide) O) ?_)));simp only[zz];refine Ld O (fun hb=>aK cM aA O O (by decide) (by decide) O) ?_;simp only[zz];refine Ib O (fun hb u m=>aZ (aY hb O) ((m.b 2 O).lies aH aA O O)) ?_;simp only[zz,zy,au,aa,ag,ad];refine Ib O (fun hb u m=>aZ (aY hb O) ((m.b 2 O).lies aH aA O O)) ?_;simp only[zz,zy,au,aa,ag,ad];refine Ld O (fun hb=>gW (aY hb O) (aY hb O)) (bF (cC O O O) (bR ?_));simp only[zz];refine bP m 0 O O O aP (gV O) O ?_;intro u m;simp only[zy,zx,over,zF,zG,aa] at m;refine aM ⟨m.sel [false,true,true,true],?_⟩;refine bF aO (bW ?_);apply aW 1 [] m;simp only[↓aD];refine yE O ⟨_,O,((m.b 0 O).full cF aP)⟩ O ?_;try simp only[zD,zE]
       exact⟨_,O,m.ext,by rw[pne,pne,pne] <;> rfl⟩
theorem ahm{p:P3}{k:Nat}(h:ts[k]? = some t):yY p q (ts.take (k+1))=yY p q (ts.take k)++if (tX p q t).nd then [tX p q t] else []:=by
 rw[cJ h];unfold yY;rw[ct,il]
 congr 1
 rw[bj,dx,List.filter_cons,List.filter_nil]
theorem Mq{p:P3}(hq:I3 q)(hx:I3 x):I3 (Gw p q x):=by
 unfold Gw;split
 · exact hq
 · exact hx
theorem aaD{p:P3}(hq:I3 q)(h:∀t∈ts,IT t):∀t∈yY p q ts,IT t:=fun t ht=>by
 obtain⟨s,hs,rfl⟩:=List.mem_map.1 (dw.1 ht).1;have:=h s hs;exact⟨Mq hq this.a,Mq hq this.b,Mq hq this.c⟩
theorem akJ{p:P3}(ts:List T3):(yZ ts p q).length=(yY p q ts).length:=nP _
theorem Ha{N:Nat}{A:Option Addr}{p:P3}[I3 p][I3 q](w:aj)(hT:bV w A N ts)(hN:N≤10000000):dQ prog 22 [.slice A N cap,pt p,pt q] w (SL 39 9 ((yZ ts p q).flatMap aN) (yZ ts p q).length w):=by
 refine⟨bK func22 (by kernel_rfl),?_⟩;have m:=Mem.refl w;have htl:=hT.len
 go_enter func22,ntmps22
 apply jP 8 [0] m;simp only[↓aD];intro g1 g2 u m;refine aB aO ?_;replace m:=m.nilO 39 9;apply aL 9 [0] m;simp only[↓aD,kA];refine bX [7,14] [9,10,11,15,16,17,18,19,20,21,22,23,24,25,26,27,28,29,30] (fun n vs wl=>∃(k:Nat) (A7:Option Addr) (cap7:Nat),vs=[.slice A7 (yY p q (ts.take k)).length cap7,.int .i64 (k:Int)]∧Mem w wl [oI 39 9 A7 (yY p q (ts.take k)).length cap7 ((yY p q (ts.take k)).flatMap aN),bI g2 [.int .i64 q.x,.int .i64 q.y,.int .i64 q.z] 30,bI g1 [.int .i64 p.x,.int .i64 p.y,.int .i64 p.z] 30]∧(k≤N)∧(n=N-k)) ?_ ?_
 ·
  exact⟨_,0,_,_,O,m,cv _,O⟩
 · intro n vs wr hI u K1 hK1
   obtain⟨k,A7,cap7,rfl,m,hk,hn⟩:=hI;simp only[zu,zF,zG];apply aJ 5 [0,0] m;simp only[↓aD];refine bG O ?_ ?_<;>intro hc1
   ·
    obtain⟨t,ht,_,a,rfl,hrow⟩:=hT.get (i:=k) (by omega);have hcs:=ahm (p:=p) (q:=q) ht;have hcl:=afy p q (ts.take k);rw[bp] at hcl;apply aJ 5 [0] m;simp only[↓aD];refine aB (aF cH aP O O (by omega) (by omega) (cQ (ah _))) ?_;simp only[zz];refine aR O ((hrow.ext m.ext).lies cF aP) ?_;simp only[zz];apply kD 8 [0,0,3,2,0] m;simp only[↓aD,nX,eL,aS,aa];intro g3 u m;refine nV m O O (afO (t:=t) (p:=p) (q:=q)) 11 [0,0] ?_;simp only[↓aD,nX,eL,aa];intro g4 u m;refine dK O ?_ ?_<;>intro hc2
    ·
     rw[hc2,if_pos rfl] at hcs;apply aJ 3 [0,0] m;simp only[↓aD,eL];refine eZ O ?_;intro u g5 e_ h_ k_;replace m:=m.newB e_ h_ k_;simp only[zz];refine bL m 3 O O cH jK O (by decide) O O O (m.b 0 O).rowsO (gB O) (by omega) (by omega) ?_;intro A7 cap7 u m;simp only[zF,zG] at m;rw[show (yY p q (ts.take k)).flatMap aN++_=(yY p q (ts.take (k+1))).flatMap aN by rw[hcs,ay];rfl] at m;have hll:(yY p q (ts.take k)).length+1=(yY p q (ts.take (k+1))).length:=by rw[hcs,aw];rfl
     rw[hll] at m;rw[hll];apply aL 7 [0] m;simp only[↓aD];refine⟨by omega,?_⟩;exact hK1 (N-(k+1)) _ _ (by omega) (by kernel_rfl) ⟨k+1,_,_,O,(m.sel [false,false,false,true,true,true]),by omega,O⟩
    ·
     rw[hc2,if_neg Bool.false_ne_true,fa] at hcs;apply aJ 6 [0] m;simp only[↓aD];refine⟨by omega,?_⟩;rw[←hcs] at m ⊢;exact hK1 (N-(k+1)) _ _ (by omega) (by kernel_rfl) ⟨k+1,_,_,O,(m.sel [false,false,true,true,true]),by omega,O⟩
   ·
    obtain rfl:k=N:=by omega
    rw[show ts.take k=ts from a_ (by omega)] at m ⊢;apply aJ 4 [0] m;simp only[↓aD];refine bJ O O (acn (ts:=yY p q ts) _ ((m.o 0 O).tris (aaD inferInstance hT.it)) (by have:=afy p q ts;omega)) ?_;rintro v u e_ ⟨A8,cap8,n8,hn8,rfl,h_⟩;replace m:=m.newO e_ h_;apply aL 3 [] m;simp only[↓aD];exact aT O O ⟨_,O,m.ext,⟨_,_,_,by rw[hn8,akJ],O,(m.o 0 O)⟩⟩
end Go.Proofs.YtfekpcimgncioaaGreatDoor
namespace Go.Lith
open Go.RowKit
variable{q x:P3}
def pJ(D:List (P3 × Hd))(p:P3):Hd:=(cG D p).getD ⟨none,0,0⟩
def nbK(p:P3)(q:P3):List P3:=if q≠p then [q] else []
def nbT(p:P3)(t:T3):List P3:=nbK p t.a++nbK p t.b++nbK p t.c
def nS(ts:List T3)(p:P3):List P3:=(ts.filter fun t=>t.has p).flatMap (nbT p)
theorem Eu{p:P3}:x∈nbK p q↔x=q∧x≠p:=by
 unfold nbK;split
 · rename_i h;rw[bf];exact⟨fun e=>⟨e,e▸h⟩,fun e=>e.1⟩
 · rename_i h;exact⟨fun e=>(by cases e),fun e=>absurd (e.1▸e.2) h⟩
theorem sG{ts:List T3}{p:P3}:x∈nS ts p↔nbB ts p x=true:=by
 unfold nS;rw[aah,Iy,List.mem_flatMap];constructor
 · rintro⟨t,ht,hx⟩
   obtain⟨h1,h2⟩:=dw.1 ht;unfold nbT at hx;rw[bi,bi,Eu,Eu,Eu] at hx;have hne:x≠p:=by rcases hx with (h | h) | h <;> exact h.2
   have hh:t.has x=true:=mR.2 (by rcases hx with (h | h) | h <;> simp[h.1]);exact⟨hne,t,h1,h2,hh⟩
 · rintro⟨hne,t,h1,h2,hh⟩
   refine⟨t,dw.2 ⟨h1,h2⟩,?_⟩;unfold nbT;rw[bi,bi,Eu,Eu,Eu];rcases mR.1 hh with e | e | e
   · exact .inl (.inl ⟨e,hne⟩)
   · exact .inl (.inr ⟨e,hne⟩)
   · exact .inr ⟨e,hne⟩
theorem akK{p:P3}(h:¬(q.x=p.x∧q.y=p.y∧q.z=p.z)):nbK p q=[q]:=if_pos fun e=>h (by rw[e];exact⟨rfl,rfl,rfl⟩)
theorem akL{p:P3}(h:¬¬(q.x=p.x∧q.y=p.y∧q.z=p.z)):nbK p q=[]:=if_neg fun k=>h fun e=>k (P3.eq e.1 e.2.1 e.2.2)
theorem akM{fs:List T3}{p:P3}{k:Nat}{t:T3}(h:fs[k]? = some t):(fs.take (k+1)).flatMap (nbT p)=(fs.take k).flatMap (nbT p)++nbK p t.a++nbK p t.b++nbK p t.c:=by
 rw[cJ h,ay,List.flatMap_cons,List.flatMap_nil,fa];unfold nbT;simp only[cq]
end Go.Lith
namespace Go.Proofs.YtfekpcimgncioaaGreatDoor
open Go.Proofs.Tryz
open Go.RowKit Go.Lith
set_option maxRecDepth 100000
attribute [local irreducible] ar cw gG bQ cO Code.wp
attribute [local congr] rC gX gY gZ iA iB lI iC iD iE iF iG iH iJ iK iL iM iN fJ fK iO iP iR iS iT lK dW dX cX dV iQ lJ fN fO fP iU iV lM
variable{cap ca na nb cb:Nat}{A:Option Addr}{xs ys:List Nat}
theorem aaE{g90 ga gf N:Nat}{ea:Array c_}{D:List (P3 × Hd)}{ts:List T3}{p:P3}(w:aj)(hB90:fR w g90 [.slice A N cap,.map (some ga),.map (some gf)] 109)(hMa:jF w ga ea ca)(hDa:bO pt Hd.v D ea ca)(hS:∀p,bV w (pJ D p).A (pJ D p).n (ts.filter fun t=>t.has p)∧(pJ D p).n≤(pJ D p).cap)(hN:ts.length≤10000000):dQ prog 62 [.pointer (some ⟨g90,0,none⟩),pt p] w (fun v w'=>∃g es c,v=.map (some g)∧Mem w w' [mI g es c]∧bO pt bn (fY [] (nS ts p)) es c):=by
 refine⟨bK func62 (by kernel_rfl),?_⟩;have m:=Mem.refl w
 go_enter func62,ntmps62
 apply jP 7 [0] m;simp only[↓aD];intro g1 u m;refine mA m ?_;intro q8 u m;have hD8:=bO.nil (K:=P3) (V:=Bool) pt bn;apply aL 4 [0] m;simp only[↓aD];refine mq m aC (by kernel_rfl) (eC 3 [] ?_);simp only[↓aD,Sv,aa];refine ql O (fun u m=>((hB90.ext m.ext).lies1 afe O)) ?_;simp only[zz];refine ql O (fun u m=>((m.b 1 O).full aH aA)) ?_;simp only[zz];refine kN (fun u m=>eH (ek:=pt) (en:=Hd.v) (k:=p) (v0:=⟨none,0,0⟩) underlying106 afd gD O O (hMa.ext m.ext) hDa) ?_;simp only[zz];refine aG (Kv O cH O) (aG aI (bC ?_));intro u m;simp only[zz];obtain⟨⟨A9,n9,cap9⟩,hhe⟩:∃h:Hd,h=(cG D p).getD ⟨none,0,0⟩:=⟨_,rfl⟩
 have hT9:=hS p;unfold pJ at hT9;rw[←hhe] at hT9;obtain⟨hT9,hle9⟩:=hT9;simp only at hT9 hle9;have hl9:=hT9.len;have hfl:=fu (fun t=>T3.has t p) ts;rw[←hhe];simp only[Hd.v];apply aW 1 [0] m;simp only[↓aD];refine bX [18] [7,9,19,20,21,22,23,24,25,26,27,28,29,30,31,32] (fun n vs wl=>∃(k:Nat) (es:Array c_) (c:Nat),vs=[.int .i64 (k:Int)]∧Mem w wl [mI q8 es c,bI g1 [.int .i64 p.x,.int .i64 p.y,.int .i64 p.z] 30]∧(bO pt bn (fY [] (((ts.filter fun t=>t.has p).take k).flatMap (nbT p))) es c)∧(k≤n9)∧(n=n9-k)) ?_ ?_
 ·
  exact⟨_,0,_,_,O,m,hD8,cv _,O⟩
 · intro n vs wr hI u K1 hK1
   obtain⟨k,es8,c8,rfl,m,hD8,hk,hn⟩:=hI;simp only[zu,zF,zG];apply aJ 5 [0,0] m;simp only[↓aD];refine bG O ?_ ?_<;>intro hc1
   ·
    obtain⟨t,ht,_,a,rfl,hrow⟩:=hT9.get (i:=k) (by omega);apply aJ 5 [0] m;simp only[↓aD];refine aB (aF cH aP O O (by omega) (by omega) (cQ (ah _))) ?_;simp only[zz];refine aR O ((hrow.ext m.ext).lies cF aP) ?_;simp only[zz];apply kD 22 [0,0,4,1,0] m;simp only[↓aD,nX,eL,aa];intro g3;refine⟨by omega,?_⟩;intro u m;refine aB (tQ O O) ?_;apply kD 7 [0,0,3,0] m;simp only[↓aD,eS,aS,aa];intro g4 u m;refine aB (gW O O) ?_;apply aL 1 [0] m;simp only[↓aD];refine jL m 2 [] [29,30] (fun vs i=>∃(es:Array c_) (c:Nat),vs=[]∧i=mI q8 es c∧(bO pt bn (fY [] ((((ts.filter fun t=>t.has p).take k).flatMap (nbT p))++nbK p t.a)) es c)) ?_ ?_
    · intro K2 hK2
      refine bG O ?_ ?_<;>intro hc3
      ·
       apply aJ 3 [0,0] m;simp only[↓aD,aS];refine nN (ek:=pt) (en:=bn) (a:=t.a) (v:=true) m 2 O nY gD O O O hD8 ?_;intro es8 c8 u m hD8;simp only[zF,zG] at m;rw[←mL] at hD8;apply aL 1 [0] m;simp only[↓aD];exact hK2 _ _ _ (by kernel_rfl) m ⟨_,_,O,O,by rw[akK hc3];exact hD8⟩
      ·
       apply aJ 1 [0] m;simp only[↓aD];exact hK2 _ _ _ (by kernel_rfl) m ⟨_,_,O,O,by rw[akL hc3,fa];exact hD8⟩
    · intro vs i wr m hI u
      obtain⟨es8,c8,rfl,rfl,hD8⟩:=hI;simp only[zF,zG] at m;simp only[zu,zF,zG];apply aW 17 [1,0] m;simp only[↓aD,ak];refine⟨by omega,?_⟩;refine aB (tR O O) ?_;apply kD 7 [0,0,4,0] m;simp only[↓aD,eS,aS,aa];intro g5 u m;refine aB (gW O O) ?_;apply aL 1 [0] m;simp only[↓aD];refine jL m 3 [] [29,30] (fun vs i=>∃(es:Array c_) (c:Nat),vs=[]∧i=mI q8 es c∧(bO pt bn (fY [] (((((ts.filter fun t=>t.has p).take k).flatMap (nbT p))++nbK p t.a)++nbK p t.b)) es c)) ?_ ?_
      · intro K3 hK3
        refine bG O ?_ ?_<;>intro hc3
        ·
         apply aJ 3 [0,0] m;simp only[↓aD,aS];refine nN (ek:=pt) (en:=bn) (a:=t.b) (v:=true) m 3 O nY gD O O O hD8 ?_;intro es8 c8 u m hD8;simp only[zF,zG] at m;rw[←mL] at hD8;apply aL 1 [0] m;simp only[↓aD];exact hK3 _ _ _ (by kernel_rfl) m ⟨_,_,O,O,by rw[akK hc3];exact hD8⟩
        ·
         apply aJ 1 [0] m;simp only[↓aD];exact hK3 _ _ _ (by kernel_rfl) m ⟨_,_,O,O,by rw[akL hc3,fa];exact hD8⟩
      · intro vs i wr m hI u
        obtain⟨es8,c8,rfl,rfl,hD8⟩:=hI;simp only[zF,zG] at m;simp only[zu,zF,zG];apply aW 17 [1,0] m;simp only[↓aD,ak];refine⟨by omega,?_⟩;refine aB (tT O O) ?_;apply kD 7 [0,0,5,0] m;simp only[↓aD,eS,aS,aa];intro g6 u m;refine aB (gW O O) ?_;apply aL 1 [0] m;simp only[↓aD];refine jL m 4 [] [29,30] (fun vs i=>∃(es:Array c_) (c:Nat),vs=[]∧i=mI q8 es c∧(bO pt bn (fY [] ((((((ts.filter fun t=>t.has p).take k).flatMap (nbT p))++nbK p t.a)++nbK p t.b)++nbK p t.c)) es c)) ?_ ?_
        · intro K4 hK4
          refine bG O ?_ ?_<;>intro hc3
          ·
           apply aJ 3 [0,0] m;simp only[↓aD,aS];refine nN (ek:=pt) (en:=bn) (a:=t.c) (v:=true) m 4 O nY gD O O O hD8 ?_;intro es8 c8 u m hD8;simp only[zF,zG] at m;rw[←mL] at hD8;apply aL 1 [0] m;simp only[↓aD];exact hK4 _ _ _ (by kernel_rfl) m ⟨_,_,O,O,by rw[akK hc3];exact hD8⟩
          ·
           apply aJ 1 [0] m;simp only[↓aD];exact hK4 _ _ _ (by kernel_rfl) m ⟨_,_,O,O,by rw[akL hc3,fa];exact hD8⟩
        · intro vs i wr m hI u
          obtain⟨es8,c8,rfl,rfl,hD8⟩:=hI;simp only[zF,zG] at m;simp only[zu,zF,zG];apply aW 18 [2,0] m;simp only[↓aD,ak];refine⟨by omega,?_⟩;exact hK1 (n9-(k+1)) _ _ (by omega) (by kernel_rfl) ⟨k+1,_,_,O,(m.sel [false,false,false,false,true,true]),by rw[akM ht];exact hD8,by omega,O⟩
   ·
    obtain rfl:k=n9:=by omega
    rw[show (ts.filter fun t=>t.has p).take k=ts.filter fun t=>t.has p from a_ (by omega)] at hD8;apply aJ 7 [] m;simp only[↓aD];exact aT O O ⟨_,O,m.ext,_,_,_,O,m.sel [true,false],hD8⟩
theorem mD{os:List Nat}{x:Nat}:os.map sA++[.int .i64 (x:Int)]=(os++[x]).map sA:=by simp[sA]
theorem To{w0 w:aj}{S:List (Option Nat)}{E:az}{n:Nat}{os:List Nat}(h:Ow w0 w S E 1 A n cap (os.map sA))(hn:n=os.length)(hd:eM 65536 os)(hl:n≤17592186044416):gC w w.heap.size A n cap os∧∀a,A=some a→w0.heap.size≤a.block:=by
 obtain⟨_,_,e,r⟩:=gC.of_owns (show ah6 w w0.heap.size E 1 (.slice A n cap) n _ from h.own) hn hd hl;cases e;exact r
theorem aaF{b:Nat}(w:aj)(hS:gC w b A na cap xs):dQ prog 296 [.slice A na cap] w (fun v _=>v=.slice A (trim xs).length cap):=by
 refine⟨bK func296 (by kernel_rfl),?_⟩;have m:=Mem.refl w;obtain rfl:=hS.eq;have hl:=hS.len;have hle:=hS.le;have hcp:=hS.cap
 go_enter func296,ntmps296
 apply fF 6 [0] m;simp only[↓aD];refine bX [0] [3,4,5,6,7,8,9,10,11,12,13,14,15,16,17,18,19] (fun n vs wl=>∃(k:Nat),vs=[.slice A k cap]∧Mem w wl []∧(k≤xs.length)∧(trim (xs.take k)=trim xs)∧(n=k)) ?_ ?_
 ·
  exact⟨_,xs.length,O,m,aq _,by rw[fp],O⟩
 ·
  intro n vs wr hI u K1 hK1;obtain⟨k,rfl,m,hk,ht,hn⟩:=hI;simp only[zu,zF,zG];apply aJ 2 [] m;simp only[↓aD];by_cases hk0:0<k
  ·
   obtain⟨a,rfl,hcell,hlt⟩:=hS.get (show k-1<xs.length by omega);apply aW 9 [1,0] m;simp only[↓aD,kM];refine⟨by omega,?_⟩;refine eE O (aB (aF dH aU O O (by omega) (by omega) (jI (show _=k-1 by omega))) (eE O ?_));simp only[zz];refine aR O (lies1 (m.ext.cell hcell) bD) ?_;simp only[zz];apply aL 3 [0,0] m;simp only[↓aD];refine bG O ?_ ?_<;>intro hc1
   ·
    apply aJ 7 [0] m;simp only[↓aD,kM];refine⟨by omega,?_⟩;refine aB (mF dH aU O O (show _=k-1 by omega) (by omega) (by omega)) ?_;apply aL 3 [0] m;simp only[↓aD];exact hK1 (k-1) _ _ (by omega) (by kernel_rfl) ⟨k-1,O,m,by omega,Wa hk0 (by omega) hc1 ht,O⟩
   ·
    apply aJ 7 [] m;simp only[↓aD];refine aT O O ?_;try simp only[zD,zE]
    exact⟨_,O,m.ext,by rw[←aa5 hk0 (by omega) hc1 ht]⟩
  ·
   obtain rfl:k=0:=by omega
   apply aW 22 [2] m;simp only[↓aD,kM];refine⟨by omega,?_⟩;refine aT O O ?_;try simp only[zD,zE]
   exact⟨_,O,m.ext,by rw[←aa6 ht]⟩
theorem aho{B:Option Addr}{b b2:Nat}(w:aj)(hS:gC w b A na ca xs)(hR:gC w b2 B nb cb ys)(tx:gQ xs)(ty:gQ ys):dQ prog 283 [.slice A na ca,.slice B nb cb] w (fun v _=>v=.int .i64 (ord (val 65536 xs) (val 65536 ys))):=by
 refine⟨bK func283 (by kernel_rfl),?_⟩;have m:=Mem.refl w;obtain rfl:=hS.eq;obtain rfl:=hR.eq;have hl:=hS.len;have hl2:=hR.len
 go_enter func283,ntmps283
 apply fF 13 [0,0] m;simp only[↓aD,kM];refine bG O ?_ ?_<;>intro hc1
 ·
  apply aJ 9 [0,0] m;simp only[↓aD,kM];refine bG O ?_ ?_<;>intro hc2
  ·
   apply aJ 5 [] m;simp only[↓aD];refine aT O O ?_;try simp only[zD,zE]
   exact⟨_,O,m.ext,by rw[ord,if_pos (nM (by omega) hS.digs hR.digs ty (by omega))]⟩
  ·
   apply aJ 6 [] m;simp only[↓aD];refine aT O O ?_;try simp only[zD,zE]
   exact⟨_,O,m.ext,by have:=nM (B:=65536) (by omega) hR.digs hS.digs tx (by omega);rw[ord,if_neg (by omega),if_pos this]⟩
 ·
  apply aJ 10 [0] m;simp only[↓aD,kM];refine⟨by omega,?_⟩;refine bX [5] [4,19,20,21,22,23,24,25,26,27,28,29,30,31,32,33,34,35,36,37,38,39,40] (fun n vs wl=>∃(k:Nat),vs=[.int .i64 ((k:Int)-1)]∧Mem w wl []∧(k≤xs.length)∧(xs.drop k=ys.drop k)∧(n=k)) ?_ ?_
  ·
   exact⟨_,xs.length,O,m,aq _,by rw[lv,show xs.length=ys.length by omega,lv],O⟩
  ·
   intro n vs wr hI u K1 hK1;obtain⟨k,rfl,m,hk,hd,hn⟩:=hI;simp only[zu,zF,zG];apply aJ 6 [0,0] m;simp only[↓aD];refine bG O ?_ ?_<;>intro hc3
   ·
    apply aJ 4 [] m;simp only[↓aD];obtain⟨a,rfl,hca,_⟩:=hS.get (show k-1<xs.length by omega);obtain⟨b,rfl,hcb,_⟩:=hR.get (show k-1<ys.length by omega);refine gc (mq m aC (by kernel_rfl) (aG aI (aG aI ?_)));simp only[zz];refine aG (aF dH aU O O (by omega) (by omega) (jI (show _=k-1 by omega))) ?_;simp only[zz];refine ql O (fun u m=>(lies1 (m.ext.cell hca) bD)) ?_;simp only[zz];refine aG aI (aG aI ?_);simp only[zz];refine aG (aF dH aU O O (by omega) (by omega) (jI (show _=k-1 by omega))) ?_;simp only[zz];refine ql O (fun u m=>(lies1 (m.ext.cell hcb) bD)) ?_;simp only[zz];refine aG (rS O O) (bC ?_);intro u m;refine gc ?_;simp only[zz];refine bG O ?_ ?_<;>intro hc4
    ·
     apply aJ 2 [] m;simp only[↓aD];have hca:=hS.at (show k-1<xs.length by omega);have hcb:=hR.at (show k-1<ys.length by omega);refine gc (mq m aC (by kernel_rfl) (aG aI (aG aI ?_)));simp only[zz];refine aG (aF dH aU O O (by omega) (by omega) (jI (show _=k-1 by omega))) ?_;simp only[zz];refine ql O (fun u m=>(lies1 (m.ext.cell hca) bD)) ?_;simp only[zz];refine aG aI (aG aI ?_);simp only[zz];refine aG (aF dH aU O O (by omega) (by omega) (jI (show _=k-1 by omega))) ?_;simp only[zz];refine ql O (fun u m=>(lies1 (m.ext.cell hcb) bD)) ?_;simp only[zz];refine aG (rR O O) (bC ?_);intro u m;refine gc ?_;simp only[zz];refine bG O ?_ ?_<;>intro hc5
     ·
      apply aJ 5 [] m;simp only[↓aD];refine aT O O ?_;try simp only[zD,zE]
      exact⟨_,O,m.ext,by rw[ord,if_pos (abI hS.digs (by omega) (by omega) (by omega) hd hc5)]⟩
     ·
      apply aJ 6 [] m;simp only[↓aD];refine aT O O ?_;try simp only[zD,zE]
      exact⟨_,O,m.ext,by have:=abI hR.digs (by omega) (by omega) (by omega) hd.symm (by omega);rw[ord,if_neg (by omega),if_pos this]⟩
    ·
     apply aJ 7 [0] m;simp only[↓aD];refine⟨by omega,?_⟩;rw[show ((k:Int)-1-1)=((k-1:Nat):Int)-1 by omega];exact hK1 (k-1) _ _ (by omega) (by kernel_rfl) ⟨k-1,O,m,by omega,ajd (by omega) (by omega) (by omega) hd (by omega),O⟩
   ·
    apply aJ 6 [] m;simp only[↓aD];refine aT O O ?_;try simp only[zD,zE]
    exact⟨_,O,m.ext,by have h0:k=0:=(by omega);subst h0;simp only[List.drop_zero] at hd;rw[hd,ord,if_neg (by omega),if_neg (by omega)]⟩
theorem art{B:Option Addr}(w:aj)(hS:gC w w.heap.size A na ca xs)(hR:gC w w.heap.size B nb cb ys)(hlx:xs.length≤1000000000000)(hly:ys.length≤1000000000000):dQ prog 282 [.slice A na ca,.slice B nb cb] w (aqa (val 65536 xs+val 65536 ys) (max xs.length ys.length+1)):=by
 refine⟨bK func282 (by kernel_rfl),?_⟩;have m:=Mem.refl w;obtain rfl:=hS.eq;obtain rfl:=hR.eq;obtain⟨M,hM⟩:∃M,M=max xs.length ys.length:=⟨_,rfl⟩
 rw[←hM]
 go_enter func282,ntmps282
 apply fF 6 [0] m;simp only[↓aD];refine aB aO ?_;replace m:=m.nilO 3 1;apply aL 11 [0] m;simp only[↓aD];refine bX [5,6,7] [8,9,10,11,12,13,14,15,16,17,18,19,20,21,22,23,24,25,26,27,28,29,30,31,32,33,34,35,36,37,38,39,40,41,42,43,44,45,46,47,48,49,50,51,52] (fun n vs wl=>∃(i c:Nat) (os:List Nat) (A5:Option Addr) (cap5:Nat),vs=[.slice A5 i cap5,.int .i64 (c:Int),.int .i64 (i:Int)]∧Mem w wl [oI 3 1 A5 i cap5 (os.map sA)]∧(os.length=i)∧(val 65536 os+65536^i*c=val 65536 (xs.take i)+val 65536 (ys.take i))∧(eM 65536 os)∧(c≤1)∧(i≤M+1)∧(i=M+1→c=0)∧(n=M+1-i)) ?_ ?_
 ·
  exact⟨_,0,0,[],none,0,O,m,O,by simp[val],mZ _,by omega,by omega,fun _=>rfl,O⟩
 ·
  intro n vs wr hI u K1 hK1;obtain⟨i,c,os,A5,cap5,rfl,m,hlo,hv,hd,hc,hi,hic,hn⟩:=hI;simp only[zu,zF,zG];apply aJ 2 [] m;simp only[↓aD];rcases (show i<xs.length∨(¬i<xs.length∧i<ys.length)∨(¬i<xs.length∧¬i<ys.length∧0<c)∨(¬i<xs.length∧¬i<ys.length∧c=0) by omega) with hw | ⟨hw,hw2⟩ | ⟨hw,hw2,hw3⟩ | ⟨hw,hw2,rfl⟩
  ·
   apply aW 34 [1,1] m;simp only[↓aD,kM];refine⟨by omega,?_⟩;obtain⟨a,rfl,hca,hla⟩:=hS.get (show i<xs.length by omega);apply aW 4 [0] m;simp only[↓aD];refine aB (aF dH aU O O (by omega) (by omega) (jI (ah _))) ?_;simp only[zz];refine aR O (lies1 (m.ext.cell hca) bD) ?_;simp only[zz];apply aL 3 [] m;simp only[↓aD];refine⟨by omega,?_⟩;obtain⟨s1,hs1⟩:∃s1:Nat,s1=c+xs[i]:=⟨_,rfl⟩
   rw[show ((c:Int)+(xs[i]:Int))=(s1:Int) by omega];have hs2:s1=c+xs[i]?.getD 0:=by rw[am (by omega)];exact hs1
   have hs3:s1<65537:=by omega
   apply aW 8 [0,0] m;simp only[↓aD,kM];refine bG O ?_ ?_<;>intro hc3
   ·
    obtain⟨a2,rfl,hcb,hlb⟩:=hR.get (show i<ys.length by omega);apply aJ 4 [0] m;simp only[↓aD];refine aB (aF dH aU O O (by omega) (by omega) (jI (ah _))) ?_;simp only[zz];refine aR O (lies1 (m.ext.cell hcb) bD) ?_;simp only[zz];apply aL 3 [] m;simp only[↓aD];refine⟨by omega,?_⟩;obtain⟨s,hs⟩:∃s:Nat,s=s1+ys[i]:=⟨_,rfl⟩
    rw[show ((s1:Int)+(ys[i]:Int))=(s:Int) by omega];have hs4:s=c+xs[i]?.getD 0+ys[i]?.getD 0:=by rw[am (l:=ys) (by omega)];simp only[dq];omega
    have hs5:s<131072:=by omega
    apply aW 4 [0] m;simp only[↓aD];refine aB (cP O O (by omega) (pU (n:=65536))) ?_;simp only[zz];refine gA dH (z:=.int .i64 0) (by kernel_rfl) O O O ?_;intro u g1 e_ h_ k_;replace m:=m.newB e_ h_ k_;simp only[zz];refine bL m 1 O O dH tA O (by decide) O O O (m.b 0 O).rowsO (gB O) (by omega) (by omega) ?_;intro A5 cap5 u m;simp only[zF,zG] at m;simp only[zA,zB,zC,zD,zE,mD] at m;apply aL 4 [0] m;simp only[↓aD];refine aB (jG O O (by omega) (tO (n:=65536) (by omega))) ?_;apply aL 8 [0] m;simp only[↓aD];refine⟨by omega,?_⟩;obtain⟨r1,r2⟩:=yW hlo hv hd hs4;rw[show ((i:Int)+1)=((i+1:Nat):Int) by omega];exact hK1 (M+1-(i+1)) _ _ (by omega) (by kernel_rfl) ⟨i+1,s / 65536,os++[s%65536],A5,cap5,O,(m.sel [false,true]),by simp;omega,r1,r2,by omega,by omega,fun h=>by rw[bz (l:=xs) (by omega),bz (l:=ys) (by omega)] at hs4;simp at hs4;omega,rfl⟩
   ·
    obtain⟨s,hs⟩:∃s:Nat,s=s1:=⟨_,rfl⟩
    rw[←hs];have hs4:s=c+xs[i]?.getD 0+ys[i]?.getD 0:=by rw[bz (l:=ys) (by omega)];simp only[ly];omega
    have hs5:s<131072:=by omega
    apply aJ 5 [0] m;simp only[↓aD];refine aB (cP O O (by omega) (pU (n:=65536))) ?_;simp only[zz];refine gA dH (z:=.int .i64 0) (by kernel_rfl) O O O ?_;intro u g1 e_ h_ k_;replace m:=m.newB e_ h_ k_;simp only[zz];refine bL m 1 O O dH tA O (by decide) O O O (m.b 0 O).rowsO (gB O) (by omega) (by omega) ?_;intro A5 cap5 u m;simp only[zF,zG] at m;simp only[zA,zB,zC,zD,zE,mD] at m;apply aL 4 [0] m;simp only[↓aD];refine aB (jG O O (by omega) (tO (n:=65536) (by omega))) ?_;apply aL 8 [0] m;simp only[↓aD];refine⟨by omega,?_⟩;obtain⟨r1,r2⟩:=yW hlo hv hd hs4;rw[show ((i:Int)+1)=((i+1:Nat):Int) by omega];exact hK1 (M+1-(i+1)) _ _ (by omega) (by kernel_rfl) ⟨i+1,s / 65536,os++[s%65536],A5,cap5,O,(m.sel [false,true]),by simp;omega,r1,r2,by omega,by omega,fun h=>by rw[bz (l:=xs) (by omega),bz (l:=ys) (by omega)] at hs4;simp at hs4;omega,rfl⟩
  ·
   apply aW 25 [2,1] m;simp only[↓aD,kM];refine⟨by omega,?_⟩;obtain⟨s1,hs1⟩:∃s1:Nat,s1=c:=⟨_,rfl⟩
   rw[←hs1];have hs2:s1=c+xs[i]?.getD 0:=by rw[bz (by omega)];exact hs1
   have hs3:s1<65537:=by omega
   apply aW 19 [2,1] m;simp only[↓aD,kM];refine⟨by omega,?_⟩;obtain⟨a2,rfl,hcb,hlb⟩:=hR.get (show i<ys.length by omega);apply aW 4 [0] m;simp only[↓aD];refine aB (aF dH aU O O (by omega) (by omega) (jI (ah _))) ?_;simp only[zz];refine aR O (lies1 (m.ext.cell hcb) bD) ?_;simp only[zz];apply aL 3 [] m;simp only[↓aD];refine⟨by omega,?_⟩;obtain⟨s,hs⟩:∃s:Nat,s=s1+ys[i]:=⟨_,rfl⟩
   rw[show ((s1:Int)+(ys[i]:Int))=(s:Int) by omega];have hs4:s=c+xs[i]?.getD 0+ys[i]?.getD 0:=by rw[am (l:=ys) (by omega)];simp only[dq];omega
   have hs5:s<131072:=by omega
   apply aW 4 [0] m;simp only[↓aD];refine aB (cP O O (by omega) (pU (n:=65536))) ?_;simp only[zz];refine gA dH (z:=.int .i64 0) (by kernel_rfl) O O O ?_;intro u g1 e_ h_ k_;replace m:=m.newB e_ h_ k_;simp only[zz];refine bL m 1 O O dH tA O (by decide) O O O (m.b 0 O).rowsO (gB O) (by omega) (by omega) ?_;intro A5 cap5 u m;simp only[zF,zG] at m;simp only[zA,zB,zC,zD,zE,mD] at m;apply aL 4 [0] m;simp only[↓aD];refine aB (jG O O (by omega) (tO (n:=65536) (by omega))) ?_;apply aL 8 [0] m;simp only[↓aD];refine⟨by omega,?_⟩;obtain⟨r1,r2⟩:=yW hlo hv hd hs4;rw[show ((i:Int)+1)=((i+1:Nat):Int) by omega];exact hK1 (M+1-(i+1)) _ _ (by omega) (by kernel_rfl) ⟨i+1,s / 65536,os++[s%65536],A5,cap5,O,(m.sel [false,true]),by simp;omega,r1,r2,by omega,by omega,fun h=>by rw[bz (l:=xs) (by omega),bz (l:=ys) (by omega)] at hs4;simp at hs4;omega,rfl⟩
  ·
   apply aW 25 [2,2,1] m;simp only[↓aD,kM];refine⟨by omega,?_⟩;obtain⟨s1,hs1⟩:∃s1:Nat,s1=c:=⟨_,rfl⟩
   rw[←hs1];have hs2:s1=c+xs[i]?.getD 0:=by rw[bz (by omega)];exact hs1
   have hs3:s1<65537:=by omega
   apply aW 21 [2,2] m;simp only[↓aD,kM];refine⟨by omega,?_⟩;obtain⟨s,hs⟩:∃s:Nat,s=s1:=⟨_,rfl⟩
   rw[←hs];have hs4:s=c+xs[i]?.getD 0+ys[i]?.getD 0:=by rw[bz (l:=ys) (by omega)];simp only[ly];omega
   have hs5:s<131072:=by omega
   apply aW 3 [0] m;simp only[↓aD];refine aB (cP O O (by omega) (pU (n:=65536))) ?_;simp only[zz];refine gA dH (z:=.int .i64 0) (by kernel_rfl) O O O ?_;intro u g1 e_ h_ k_;replace m:=m.newB e_ h_ k_;simp only[zz];refine bL m 1 O O dH tA O (by decide) O O O (m.b 0 O).rowsO (gB O) (by omega) (by omega) ?_;intro A5 cap5 u m;simp only[zF,zG] at m;simp only[zA,zB,zC,zD,zE,mD] at m;apply aL 4 [0] m;simp only[↓aD];refine aB (jG O O (by omega) (tO (n:=65536) (by omega))) ?_;apply aL 8 [0] m;simp only[↓aD];refine⟨by omega,?_⟩;obtain⟨r1,r2⟩:=yW hlo hv hd hs4;rw[show ((i:Int)+1)=((i+1:Nat):Int) by omega];exact hK1 (M+1-(i+1)) _ _ (by omega) (by kernel_rfl) ⟨i+1,s / 65536,os++[s%65536],A5,cap5,O,(m.sel [false,true]),by simp;omega,r1,r2,by omega,by omega,fun h=>by rw[bz (l:=xs) (by omega),bz (l:=ys) (by omega)] at hs4;simp at hs4;omega,rfl⟩
  ·
   apply aW 24 [2,2,2] m;simp only[↓aD,kM];refine⟨by omega,?_⟩;refine aT O O ?_;try simp only[zD,zE]
   obtain⟨hD,_⟩:=To (m.o 0 rfl) hlo.symm hd (by omega);obtain rfl:=hlo;exact⟨_,O,m.ext,A5,cap5,os,O,hD,by rw[a_ (by omega),a_ (by omega)] at hv;simpa using hv,by omega⟩
theorem afP{B:Option Addr}(w:aj)(hS:gC w w.heap.size A na ca xs)(hR:gC w w.heap.size B nb cb ys)(hle:ys.length≤xs.length)(hge:val 65536 ys≤val 65536 xs)(hlx:xs.length≤1000000000000):dQ prog 284 [.slice A na ca,.slice B nb cb] w (fun v w'=>wO (val 65536 xs-val 65536 ys) v w'∧wZ w v):=by
 refine⟨bK func284 (by kernel_rfl),?_⟩;have m:=Mem.refl w;obtain rfl:=hS.eq;obtain rfl:=hR.eq
 go_enter func284,ntmps284
 apply fF 6 [0] m;simp only[↓aD];refine aB aO ?_;replace m:=m.nilO 3 1;apply aL 11 [0] m;simp only[↓aD];refine bX [5,6,7] [8,9,10,11,12,13,14,15,16,17,18,19,20,21,22,23,24,25,26,27,28,29,30,31,32,33,34,35,36,37,38] (fun n vs wl=>∃(i c:Nat) (os:List Nat) (A5:Option Addr) (cap5:Nat),vs=[.slice A5 i cap5,.int .i64 (c:Int),.int .i64 (i:Int)]∧Mem w wl [oI 3 1 A5 i cap5 (os.map sA)]∧(os.length=i)∧(val 65536 os+val 65536 (ys.take i)=val 65536 (xs.take i)+65536^i*c)∧(eM 65536 os)∧(c≤1)∧(i≤xs.length)∧(n=xs.length-i)) ?_ ?_
 ·
  exact⟨_,0,0,[],none,0,O,m,O,by simp[val],mZ _,by omega,by omega,O⟩
 ·
  intro n vs wr hI u K1 hK1;obtain⟨i,c,os,A5,cap5,rfl,m,hlo,hv,hd,hc,hi,hn⟩:=hI;simp only[zu,zF,zG];apply aJ 8 [0,0] m;simp only[↓aD,kM];refine bG O ?_ ?_<;>intro hc1
  ·
   apply aJ 4 [] m;simp only[↓aD];obtain⟨a,rfl,hca,hla⟩:=hS.get (show i<xs.length by omega);have hyd:ys[i]?.getD 0<65536:=by
    rcases Nat.lt_or_ge i ys.length with h | h
    · rw[am h];exact hR.lt h
    · rw[bz h];decide
   apply aW 3 [0] m;simp only[↓aD];refine aB (aF dH aU O O (by omega) (by omega) (jI (ah _))) ?_;simp only[zz];refine aR O (lies1 (m.ext.cell hca) bD) ?_;simp only[zz];apply aL 12 [0,0] m;simp only[↓aD,kM];refine⟨by omega,?_⟩;refine bG O ?_ ?_<;>intro hc2
   ·
    obtain⟨a2,rfl,hcb,hlb⟩:=hR.get (show i<ys.length by omega);apply aJ 4 [0] m;simp only[↓aD];refine aB (aF dH aU O O (by omega) (by omega) (jI (ah _))) ?_;simp only[zz];refine aR O (lies1 (m.ext.cell hcb) bD) ?_;simp only[zz];apply aL 3 [] m;simp only[↓aD];refine⟨by omega,?_⟩;obtain⟨e,he⟩:∃e:Int,e=(xs[i]:Int)-(c:Int)-(ys[i]:Int):=⟨_,rfl⟩
    rw[←he];have he2:e=(xs[i]:Int)-(c:Int)-((ys[i]?.getD 0:Nat):Int):=by rw[am (by omega)];exact he
    apply aW 10 [0,0] m;simp only[↓aD];refine bG O ?_ ?_<;>intro hc3
    ·
     obtain⟨s,hs⟩:∃s:Nat,(s:Int)=e+65536:=⟨(e+65536).toNat,by omega⟩
     have hs6:s+ys[i]?.getD 0+c=xs[i]+65536*1:=by omega
     have hs7:s<65536:=by omega
     apply aJ 4 [] m;simp only[↓aD];refine⟨by omega,?_⟩;rw[←hs];apply aW 8 [0] m;simp only[↓aD];refine gA dH (z:=.int .i64 0) (by kernel_rfl) O O O ?_;intro u g1 e_ h_ k_;replace m:=m.newB e_ h_ k_;simp only[zz];refine bL m 1 O O dH tA O (by decide) O O O (m.b 0 O).rowsO (gB O) (by omega) (by omega) ?_;intro A5 cap5 u m;simp only[zF,zG] at m;simp only[zA,zB,zC,zD,zE,mD] at m;apply aL 8 [0] m;simp only[↓aD];refine⟨by omega,?_⟩;obtain⟨r1,r2⟩:=vX (by omega) hlo hv hd hs6 hs7;rw[show ((i:Int)+1)=((i+1:Nat):Int) by omega];exact hK1 (xs.length-(i+1)) _ _ (by omega) (by kernel_rfl) ⟨i+1,1,os++[s],A5,cap5,O,(m.sel [false,true]),by simp;omega,r1,r2,by omega,by omega,rfl⟩
    ·
     obtain⟨s,hs⟩:∃s:Nat,(s:Int)=e:=⟨e.toNat,by omega⟩
     rw[←hs];have hs6:s+ys[i]?.getD 0+c=xs[i]+65536*0:=by omega
     have hs7:s<65536:=by omega
     apply aJ 4 [0] m;simp only[↓aD];refine gA dH (z:=.int .i64 0) (by kernel_rfl) O O O ?_;intro u g1 e_ h_ k_;replace m:=m.newB e_ h_ k_;simp only[zz];refine bL m 1 O O dH tA O (by decide) O O O (m.b 0 O).rowsO (gB O) (by omega) (by omega) ?_;intro A5 cap5 u m;simp only[zF,zG] at m;simp only[zA,zB,zC,zD,zE,mD] at m;apply aL 8 [0] m;simp only[↓aD];refine⟨by omega,?_⟩;obtain⟨r1,r2⟩:=vX (by omega) hlo hv hd hs6 hs7;rw[show ((i:Int)+1)=((i+1:Nat):Int) by omega];exact hK1 (xs.length-(i+1)) _ _ (by omega) (by kernel_rfl) ⟨i+1,0,os++[s],A5,cap5,O,(m.sel [false,true]),by simp;omega,r1,r2,by omega,by omega,rfl⟩
   ·
    obtain⟨e,he⟩:∃e:Int,e=(xs[i]:Int)-(c:Int):=⟨_,rfl⟩
    rw[←he];have he2:e=(xs[i]:Int)-(c:Int)-((ys[i]?.getD 0:Nat):Int):=by rw[bz (by omega)];simp only[ly];omega
    apply aJ 11 [0,0] m;simp only[↓aD];refine bG O ?_ ?_<;>intro hc3
    ·
     obtain⟨s,hs⟩:∃s:Nat,(s:Int)=e+65536:=⟨(e+65536).toNat,by omega⟩
     have hs6:s+ys[i]?.getD 0+c=xs[i]+65536*1:=by omega
     have hs7:s<65536:=by omega
     apply aJ 4 [] m;simp only[↓aD];refine⟨by omega,?_⟩;rw[←hs];apply aW 8 [0] m;simp only[↓aD];refine gA dH (z:=.int .i64 0) (by kernel_rfl) O O O ?_;intro u g1 e_ h_ k_;replace m:=m.newB e_ h_ k_;simp only[zz];refine bL m 1 O O dH tA O (by decide) O O O (m.b 0 O).rowsO (gB O) (by omega) (by omega) ?_;intro A5 cap5 u m;simp only[zF,zG] at m;simp only[zA,zB,zC,zD,zE,mD] at m;apply aL 8 [0] m;simp only[↓aD];refine⟨by omega,?_⟩;obtain⟨r1,r2⟩:=vX (by omega) hlo hv hd hs6 hs7;rw[show ((i:Int)+1)=((i+1:Nat):Int) by omega];exact hK1 (xs.length-(i+1)) _ _ (by omega) (by kernel_rfl) ⟨i+1,1,os++[s],A5,cap5,O,(m.sel [false,true]),by simp;omega,r1,r2,by omega,by omega,rfl⟩
    ·
     obtain⟨s,hs⟩:∃s:Nat,(s:Int)=e:=⟨e.toNat,by omega⟩
     rw[←hs];have hs6:s+ys[i]?.getD 0+c=xs[i]+65536*0:=by omega
     have hs7:s<65536:=by omega
     apply aJ 4 [0] m;simp only[↓aD];refine gA dH (z:=.int .i64 0) (by kernel_rfl) O O O ?_;intro u g1 e_ h_ k_;replace m:=m.newB e_ h_ k_;simp only[zz];refine bL m 1 O O dH tA O (by decide) O O O (m.b 0 O).rowsO (gB O) (by omega) (by omega) ?_;intro A5 cap5 u m;simp only[zF,zG] at m;simp only[zA,zB,zC,zD,zE,mD] at m;apply aL 8 [0] m;simp only[↓aD];refine⟨by omega,?_⟩;obtain⟨r1,r2⟩:=vX (by omega) hlo hv hd hs6 hs7;rw[show ((i:Int)+1)=((i+1:Nat):Int) by omega];exact hK1 (xs.length-(i+1)) _ _ (by omega) (by kernel_rfl) ⟨i+1,0,os++[s],A5,cap5,O,(m.sel [false,true]),by simp;omega,r1,r2,by omega,by omega,rfl⟩
  ·
   apply aJ 2 [] m;simp only[↓aD];obtain rfl:i=xs.length:=by omega
   obtain⟨hD,hbn⟩:=To (m.o 0 rfl) hlo.symm hd (by omega);apply aW 2 [0] m;simp only[↓aD];refine bJ O O (aaF _ hD) ?_;rintro v u e_ rfl;replace m:=m.ext' e_;replace hD:=hD.ext e_;apply aL 3 [] m;simp only[↓aD];exact aT rfl rfl ⟨_,rfl,m.ext,wO.of_trim hD (agN hle hlo hd hv hge),fun a n c e=>by cases e;exact hbn _ O⟩
theorem aob{B:Option Addr}(w:aj)(hS:gC w w.heap.size A na ca xs)(hR:gC w w.heap.size B nb cb ys)(hlx:xs.length≤1000000000000)(hly:ys.length≤1000000000000):dQ prog 295 [.slice A na ca,.slice B nb cb] w (fun v w'=>wO (val 65536 xs*val 65536 ys) v w'∧wZ w v):=by
 refine⟨bK func295 (by kernel_rfl),?_⟩;have m:=Mem.refl w;obtain rfl:=hS.eq;obtain rfl:=hR.eq
 go_enter func295,ntmps295
 apply fF 11 [0] m;simp only[↓aD,kM];refine⟨by omega,?_⟩;refine tK dH tA O O O (show _=xs.length+ys.length by omega) (show _=xs.length+ys.length by omega) (by omega) (by omega) (by omega) (by omega) ?_;intro u g1 e_ h_ k_;replace m:=m.newB e_ h_ k_;apply aL 2 [] m;simp only[↓aD];rw[Vo] at m;apply aW 6 [0] m;simp only[↓aD];refine bX [6] [7,8,9,16,17,18,19,20,21,22,23,24,25,26,27,28,29,30,31,32,33,34,35,36,37,38,39,40,41,42,43,44,45,46,47,48,49,50,51,52,53,54,55,56,57,58,59,60,61] (fun n vs wl=>∃(i:Nat) (os:List Nat),vs=[.int .i64 (i:Int)]∧Mem w wl [bI g1 (os.map sA) 3]∧(i≤xs.length)∧(os.length=xs.length+ys.length)∧(val 65536 os=val 65536 (xs.take i)*val 65536 ys)∧(os.drop (i+ys.length)=cl (xs.length-i) 0)∧(eM 65536 os)∧(n=xs.length-i)) ?_ ?_
 ·
  exact⟨_,0,cl (xs.length+ys.length) 0,O,m,by omega,by simp,by rw[mG,kf];simp only[val,Nat.zero_mul],by rw[List.drop_replicate];congr 1;omega,fun x hx=>by rw[List.eq_of_mem_replicate hx];decide,rfl⟩
 ·
  intro n vs wr hI u K1 hK1;obtain⟨i,os,rfl,m,hi,hlo,hv,hz,hd,hn⟩:=hI;simp only[zu,zF,zG];apply aJ 8 [0,0] m;simp only[↓aD,kM];refine bG O ?_ ?_<;>intro hc1
  ·
   apply aJ 13 [0] m;simp only[↓aD];refine bX [7,8] [9,22,23,24,25,26,27,28,29,30,31,32,33,34,35,36,37,38,39,40,41,42,43,44,45,46,47,48,49,50,51,52,53,54] (fun n vs wl=>∃(k c:Nat) (os:List Nat),vs=[.int .i64 (c:Int),.int .i64 (k:Int)]∧Mem w wl [bI g1 (os.map sA) 3]∧(k≤ys.length)∧(os.length=xs.length+ys.length)∧(val 65536 os+65536^(i+k)*c=val 65536 (xs.take i)*val 65536 ys+65536^i*(xs[i]*val 65536 (ys.take k)))∧(os.drop (i+ys.length)=cl (xs.length-i) 0)∧(eM 65536 os)∧(c<65536)∧(n=ys.length-k)) ?_ ?_
   ·
    exact⟨_,0,0,os,O,m,by omega,hlo,by rw[kf,hv];simp only[val,Nat.mul_zero],hz,hd,by omega,rfl⟩
   ·
    intro n vs wr hI u K2 hK2;obtain⟨k,c,os,rfl,m,hk,hlo,hv2,hz,hd,hc,hn2⟩:=hI;simp only[zu,zF,zG];apply aJ 8 [0,0] m;simp only[↓aD,kM];refine bG O ?_ ?_<;>intro hc2
    ·
     apply aJ 4 [] m;simp only[↓aD];obtain⟨a,rfl,hca,hla⟩:=hS.get (show i<xs.length by omega);obtain⟨a2,rfl,hcb,hlb⟩:=hR.get (show k<ys.length by omega);have hlo2:=hd.get (am (show i+k<os.length by omega));obtain⟨hm0,hm1⟩:=agP hla hlb;refine gc (mq m aC (by kernel_rfl) ?_);refine eC 4 [] ?_;simp only[↓aD];refine⟨by omega,?_⟩;refine aG (aF dH aU O O (by omega) (by omega) (fC (show _=i+k by omega))) ?_;simp only[zz];refine ql O (fun u m=>(lies1 ((m.b 0 O).digit (show i+k<os.length by omega)) bD)) ?_;simp only[zz];refine aG aI (aG aI ?_);simp only[zz];refine aG (aF dH aU O O (by omega) (by omega) (jI (ah _))) ?_;simp only[zz];refine ql O (fun u m=>(lies1 (m.ext.cell hca) bD)) ?_;simp only[zz];refine aG aI (aG aI ?_);simp only[zz];refine aG (aF dH aU O O (by omega) (by omega) (jI (ah _))) ?_;simp only[zz];refine ql O (fun u m=>(lies1 (m.ext.cell hcb) bD)) ?_;simp only[zz];refine eC 5 [] ?_;simp only[↓aD];refine⟨by omega,?_⟩;refine bC ?_;intro u m;obtain⟨s,hs⟩:∃s,s=os[i+k]+xs[i]*ys[k]+c:=⟨_,rfl⟩
     have hsI:(↑os[i+k]+↑xs[i]*↑ys[k]+↑c:Int)=(s:Int):=by rw[hs];simp
     rw[hsI];have hs64:s<4294967296:=by have:=abH hla hlb;omega
     apply aW 7 [0] m;simp only[↓aD];refine⟨by omega,?_⟩;refine aB (cP O O (by omega) (pU (n:=65536))) ?_;simp only[zz];refine aB (aF dH aU O O (by omega) (by omega) (fC (show _=i+k by omega))) ?_;simp only[zz];refine cW m 0 O O O aU (by simp;omega) ⟨rfl,rfl⟩ ?_;intro u m;simp only[zz] at m ;rw[Iz (by omega)] at m;apply aL 3 [0] m;simp only[↓aD];refine aB (jG O O (by omega) (tO (n:=65536) (by omega))) ?_;apply aL 8 [0] m;simp only[↓aD];refine⟨by omega,?_⟩;have r1:=abG (by omega) (by omega) hlo hv2 hs;rw[show ((k:Int)+1)=((k+1:Nat):Int) by omega];exact hK2 (ys.length-(k+1)) _ _ (by omega) (by kernel_rfl) ⟨k+1,s / 65536,os.set (i+k) (s%65536),O,m,by omega,by simpa using hlo,r1,by rw[Nf (by omega)];exact hz,hd.set (by omega),by omega,O⟩
    ·
     apply aJ 1 [] m;simp only[↓aD];obtain rfl:k=ys.length:=by omega
     apply aW 7 [0] m;simp only[↓aD,kM];refine⟨by omega,?_⟩;refine aB (aF dH aU O O (by omega) (by omega) (fC (show _=i+ys.length by omega))) ?_;simp only[zz];refine cW m 0 O O O aU (by simp;omega) ⟨rfl,rfl⟩ ?_;intro u m;simp only[zz] at m ;rw[Iz (by omega)] at m;apply aL 7 [0] m;simp only[↓aD];refine⟨by omega,?_⟩;obtain⟨r1,r2⟩:=agO (by omega) hlo hv2 hz;rw[show ((i:Int)+1)=((i+1:Nat):Int) by omega];exact hK1 (xs.length-(i+1)) _ _ (by omega) (by kernel_rfl) ⟨i+1,os.set (i+ys.length) c,O,m,by omega,by simpa using hlo,r1,r2,hd.set (by omega),O⟩
  ·
   apply aJ 2 [] m;simp only[↓aD];obtain rfl:i=xs.length:=by omega
   apply aW 2 [0] m;simp only[↓aD];rw[←hlo];refine dM m O O (aaF _ (gC.of_blk (m.b 0 O) hd O (by omega))) ?_;rintro v u m rfl;apply aL 3 [] m;simp only[↓aD];exact aT rfl rfl ⟨_,rfl,m.ext,wO.of_trim (gC.of_blk (m.b 0 rfl) hd rfl (by omega)) (by rw[hv,fp]),fun a n c e=>by cases e;exact (m.gb 0 O)⟩
end Go.Proofs.YtfekpcimgncioaaGreatDoor
namespace Go.Proofs.YtfekpcimgncioaaGreatDoor
open Go.Proofs.Tryz
open Go.RowKit Go.Lith
set_option maxRecDepth 100000
attribute [local irreducible] ar cw gG Code.wp
end Go.Proofs.YtfekpcimgncioaaGreatDoor
