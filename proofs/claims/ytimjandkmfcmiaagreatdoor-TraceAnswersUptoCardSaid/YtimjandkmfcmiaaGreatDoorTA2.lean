/-
 Texts of one claim, laid together: Dig, Ref1, Ref2, Ref3, Dig2, Ref4, Ref5, Ref6, Tree, Dig3, Ref7.
-/
import Derived.Test.YtimjandkmfcmiaaGreatDoorTA1
open Go renaming wp_region_lit→aa,Value→aj,wp_skip→ar,wp_block→av,World→aw,wp_ret→bc,TypeId→be,wpList→bh,wp_exit→bw,wpQuiet→ck
open Nat renaming reduceAdd→ab,lt_of_lt_of_le→ai,le_trans→ak,ne_of_gt→au,le_refl→bi,lt_or_ge→cn,mul_le_mul_left→df,mul_comm→dw,lt_of_le_of_lt→d_,eq_zero_or_pos→eg,mul_le_mul_right→ei,pow_succ→el,mul_zero→fk,mod_lt→ft,add_zero→fx,mod_eq_of_lt→gy,le_of_lt→jk,le_sub_one_of_lt→ju,lt_of_not_le→ma
open Go.Exit renaming inBlock→ac,«then»→af
open Int renaming toNat_natCast→an,gcd→gb,natAbs_tdiv→jp,natAbs_tmod→lf
open List renaming getElem?_eq_getElem→ao,length_append→bg,getElem?_eq_none→bj,replicate→bk,take_of_length_le→bp,getElem?_append_left→bv,eq_nil_of_length_eq_zero→bz,getElem?_append_right→cq,flatMap_append→cr,take_length→c_,getElem?_map→db,drop_eq_getElem_cons→dc,eq_of_mem_replicate→di,getElem_mem→dl,drop_zero→fg,drop_length→fh,getElem?_set_ne→fl,take_zero→h_,length_singleton→jq
open Go.Value renaming oneCell'→bf
open Bool renaming and_eq_true→bu
open UInt8 renaming ofNat→cv,toNat_ofNat'→fz,toNat→ib,toNat_inj→km
open Option renaming isSome_iff_exists→dg,getD_some→dt,getD_none→io
set_option maxHeartbeats 8000000
set_option linter.unusedSimpArgs false
set_option linter.unusedVariables false
set_option linter.unusedSectionVars false
namespace Go.Lith
open Go.RowKit
abbrev rJ(x:Nat):aj:=.int .i64 (x:Int)
structure dP(w:aw)(b:Nat)(A:Option Addr)(n cap:Nat)(xs:List Nat):Prop where
 eq:n=xs.length
 row:∀(i x:Nat),xs[i]? = some x→∃a,A=some a∧a.block<b∧w.cell? (a.add i)=some (.int .i64 (x:Int))
 le:xs.length≤cap
 cap:cap≤9223372036854775807
 len:xs.length≤17592186044416
 digs:dR 65536 xs
structure tY(w:aw)(b:Nat):Prop where
 h:b≤w.heap.size
theorem tY.ext{w w':aw}{b:Nat}(h:tY w b)(hE:dU w w'):tY w' b:=⟨ak h.h hE.size⟩
theorem tY.grew{w w':aw}{b base:Nat}(h:tY w b)(hG:Dg w w' base)(_:True:=trivial):tY w' b:=⟨ak h.h hG.size⟩
theorem dU.base{w0 w:aw}(h:dU w0 w):∃b,b=w.heap.size∧w0.heap.size≤b:=⟨_,rfl,h.size⟩
theorem tY.of{w0 w:aw}{b:Nat}(_:dU w0 w)(e:b=w.heap.size):tY w b:=⟨Nat.le_of_eq e⟩
theorem kR.nil_of{w0 w:aw}(_:dU w0 w)(base:Nat)(E:be)(c:Nat):kR w base E c (.slice none 0 0) 0 []:=kR.nil w base E c
theorem gG.row0{w:aw}{g:Nat}{cs:List aj}{t:be}(h:gG w g cs t):qN w ⟨g,0,none⟩ cs:=h.row 0
section
variable {w w':aw} {b:Nat} {A:Option Addr} {n cap:Nat} {xs:List Nat}
theorem dP.ext(h:dP w b A n cap xs)(hE:dU w w'):dP w' b A n cap xs :=
 ⟨h.eq,fun i x hi=>let ⟨a,e,hb,hc⟩:=h.row i x hi;⟨a,e,hb,hE.cell hc⟩,h.le,h.cap,h.len,h.digs⟩
theorem dP.mono{b':Nat}(h:dP w b A n cap xs)(hb:b≤b'):dP w b' A n cap xs :=
 ⟨h.eq,fun i x hi=>let ⟨a,e,h1,hc⟩:=h.row i x hi;⟨a,e,by omega,hc⟩,h.le,h.cap,h.len,h.digs⟩
theorem dP.here(h:dP w b A n cap xs):dP w w.heap.size A n cap xs :=
 ⟨h.eq,fun i x hi=>by
  obtain⟨a,e,_,hc⟩:=h.row i x hi;have:=World.block_lt_of_cell? _ _ hc;rw[nC] at this;exact⟨a,e,this,hc⟩,h.le,h.cap,h.len,h.digs⟩
theorem dP.chg{g:Nat}(h:dP w b A n cap xs)(hC:Qz w w' g)(hb:b≤g):dP w' b A n cap xs :=
 ⟨h.eq,fun i x hi=>by
  obtain⟨a,e,h1,hc⟩:=h.row i x hi;exact⟨a,e,h1,(hC.cell (by rw[nC];omega)).trans hc⟩,h.le,h.cap,h.len,h.digs⟩
theorem dP.grew{base:Nat}(h:dP w b A n cap xs)(hG:Dg w w' base)(hb:b≤base):dP w' b A n cap xs :=
 ⟨h.eq,fun i x hi=>by
  obtain⟨a,e,h1,hc⟩:=h.row i x hi;exact⟨a,e,h1,(World.cell?_of_block (hG.block _ (by rw[nC];omega))).trans hc⟩,h.le,h.cap,h.len,h.digs⟩
theorem dP.take(h:dP w b A n cap xs)(k:Nat):dP w b A (xs.take k).length cap (xs.take k) :=
 ⟨rfl,fun i x hi=>h.row i x (by rw[List.getElem?_take] at hi;split at hi;exact hi;cases hi),ak (by simp;omega) h.le,h.cap,ak (by simp;omega) h.len,h.digs.take k⟩
theorem dP.get(h:dP w b A n cap xs){i:Nat}(hi:i<xs.length):∃a,A=some a∧w.cell? (a.add i)=some (.int .i64 ((xs[i]:Nat):Int))∧xs[i]<65536:=by
 obtain⟨a,e,_,hc⟩:=h.row i xs[i] (ao hi);exact⟨a,e,hc,h.digs _ (dl hi)⟩
theorem dP.at{a:Addr}(h:dP w b (some a) n cap xs){i:Nat}(hi:i<xs.length):w.cell? (a.add i)=some (.int .i64 ((xs[i]:Nat):Int)):=by
 obtain⟨a',e,hc,_⟩:=h.get hi;cases e;exact hc
theorem dP.lt(h:dP w b A n cap xs){i:Nat}(hi:i<xs.length):xs[i]<65536:=h.digs _ (dl hi)
theorem dP.nil(w:aw)(b:Nat):dP w b none 0 0 []:=⟨rfl,fun i x hi=>by simp at hi,bi _,by omega,by simp,fun x hx=>by cases hx⟩
theorem dP.of_blk{g:Nat}{os:List Nat}{t:be}(h:gG w g (os.map rJ) t)(hd:dR 65536 os)(hn:n=os.length)(hl:n≤17592186044416):dP w w.heap.size (some ⟨g,0,none⟩) n n os :=
 ⟨hn,fun i x hi=>⟨_,rfl,h.lt,by rw[gA,Nat.zero_add];exact h.cell (by simp[hi])⟩,by omega,by omega,by omega,hd⟩
theorem dP.of_owns{base:Nat}{v:aj}{E:be}(h:kR w base E 1 v n (xs.map rJ))(hn:n=xs.length)(hd:dR 65536 xs)(hl:n≤17592186044416):∃A c,v=.slice A n c∧dP w w.heap.size A n c xs∧∀a,A=some a→base≤a.block:=by
 rcases h.row with ⟨rfl,rfl,hx⟩ | ⟨g,cap,rfl,hb,h1,h2,hg,hr⟩
 · obtain rfl:xs=[]:=by simpa using hx
   exact⟨none,0,rfl,dP.nil _ _,fun _ e=>by cases e⟩
 · exact⟨_,cap,rfl,⟨hn,fun i x hi=>⟨_,rfl,hg,hr i _ (by simp[hi])⟩,by omega,h2,by omega,hd⟩,fun a e=>by cases e;exact hb⟩
theorem dP.rows(h:dP w b A n cap xs):∀j u,(xs.map rJ)[j]? = some u→∃a,A=some a∧w.cell? (a.add j)=some u:=fun j u hj=>by
 rw[db] at hj;cases hx:xs[j]? with
 | none=>rw[hx] at hj;cases hj
 | some x =>
  rw[hx] at hj;cases hj;obtain⟨a,e,_,hc⟩:=h.row j x hx;exact⟨a,e,hc⟩
end
theorem kR.snoc{w:aw}{b:Nat}{E:be}{v:aj}{os:List Nat}{x:Nat}(h:kR w b E 1 v (os.length+1) (os.map rJ++[.int .i64 (x:Int)])):kR w b E 1 v (os++[x]).length ((os++[x]).map rJ):=by simpa using h
def nT(n:Nat)(v:aj)(w:aw):Prop:=∃A cap,v=.slice A (digs 65536 n).length cap∧dP w w.heap.size A (digs 65536 n).length cap (digs 65536 n)
structure yH(w:aw)(g:Nat)(A:Option Addr)(n cap:Nat)(xs:List Nat):Prop where
 dig:dP w w.heap.size A n cap xs
 ne:∀a,A=some a→a.block≠g
theorem yH.ext{w w':aw}{g n cap:Nat}{A:Option Addr}{xs:List Nat}(h:yH w g A n cap xs)(hE:dU w w'):yH w' g A n cap xs:=⟨(h.dig.ext hE).here,h.ne⟩
theorem yH.chg{w w':aw}{g g' n cap:Nat}{A:Option Addr}{xs:List Nat}(h:yH w g A n cap xs)(hC:Qz w w' g')(e:g'=g):yH w' g A n cap xs:=by
 subst e;refine⟨⟨h.dig.eq,fun i x hi=>?_,h.dig.le,h.dig.cap,h.dig.len,h.dig.digs⟩,h.ne⟩;obtain⟨a,ea,hb,hc⟩:=h.dig.row i x hi;exact⟨a,ea,by rw[hC.size];exact hb,(hC.cell (by rw[nC];exact h.ne a ea)).trans hc⟩
theorem yH.of_trim{w:aw}{b g n cap:Nat}{A:Option Addr}{xs ys:List Nat}(h:dP w b A n cap xs)(e:trim xs=ys)(hne:∀a,A=some a→a.block≠g):yH w g A ys.length cap ys:=by
 refine⟨?_,hne⟩;have:=(h.take (trim xs).length).here;rw[←iX,e] at this;exact this
theorem Dx{qs xs:List Nat}{k Y R low R1:Nat}(hk:0<k)(hkl:k≤xs.length)(hlo:qs.length=xs.length)(hv:val 65536 (xs.drop k)=Y*val 65536 (qs.drop k)+R)(hR1:R1=xs[k-1]+65536*R)(h1:low*Y≤R1)(hd:dR 65536 qs)(h16:low<65536) :
 val 65536 (xs.drop (k-1))=Y*val 65536 ((qs.set (k-1) low).drop (k-1))+(R1-Y*low)∧dR 65536 (qs.set (k-1) low):=by
 refine⟨?_,hd.set h16⟩;rw[kI hk (by omega),kI (xs:=qs.set (k-1) low) hk (by simp;omega),List.getElem_set_self,hv];have e:(qs.set (k-1) low).drop k=qs.drop k:=nE (by omega);rw[e];generalize val 65536 (qs.drop k)=q at *
 generalize xs[k-1]=x at *
 have h2:Y*low=low*Y:=dw _ _;obtain⟨z,hz⟩:=Nat.exists_eq_add_of_le h1;rw[h2,show R1-low*Y=z by omega];have:Y*(low+65536*q)=low*Y+65536*(Y*q):=by grind
 omega
theorem Hi{Y R1 low high:Nat}(h0:0<Y)(hh:R1<high*Y)(hl:¬((1:Int)<(high:Int)-(low:Int))):R1-Y*low<Y:=by
 have h1:high≤low+1:=by omega
 have h2:high*Y≤(low+1)*Y:=ei _ h1;rw[Nat.add_mul,Nat.one_mul,dw low Y] at h2;omega
theorem tZ{a b:Nat}:Jl a b≤0↔a≤b:=by
 unfold Jl;split
 · omega
 · split <;> omega
def adn(n k:Nat)(v:aj)(w:aw):Prop:=∃A cap os,v=.slice A os.length cap∧dP w w.heap.size A os.length cap os∧val 65536 os=n∧os.length≤k
theorem nT.of_trim{w:aw}{b:Nat}{A:Option Addr}{xs:List Nat}{k cap n:Nat}(h:dP w b A k cap xs)(hv:val 65536 xs=n):nT n (.slice A (trim xs).length cap) w:=by
 have e:trim xs=digs 65536 n:=lA (by omega) h.digs hv;refine⟨A,cap,by rw[e],?_⟩;rw[←e];have:=(h.take (trim xs).length).here;rwa [←iX] at this
theorem nT.self{w:aw}{b:Nat}{A:Option Addr}{xs:List Nat}{k cap:Nat}(h:dP w b A k cap xs)(t:gN xs):nT (val 65536 xs) (.slice A k cap) w:=by
 have e:xs=digs 65536 (val 65536 xs):=by rw[←lA (by omega) h.digs rfl,t]
 refine⟨A,cap,by rw[h.eq,←e],?_⟩;rw[←e,←h.eq];exact h.here
theorem wM(n:Nat):bk n (Value.int .i64 0)=(bk n 0).map rJ:=by simp[rJ]
theorem pZ{os:List Nat}{i d:Nat}(hi:i<os.length):aW (os.map rJ) i [rJ d]=(os.set i d).map rJ:=by
 simp only[aW,jq];apply List.ext_getElem?;intro j;rcases Nat.lt_trichotomy j i with h | h | h
 · rw[bv (by simp;omega),bv (by simp;omega)]
   simp[h,fl (au h)]
 · subst h
   rw[bv (by simp;omega),cq (by simp;omega)];have e:j-min j os.length=0:=by omega
   simp[hi,e]
 · rw[cq (by simp;omega)]
   simp only[bg,List.length_take,List.length_map,jq,List.getElem?_drop,db];rw[fl (by omega)]
   congr 2
   omega
theorem gG.digit{w:aw}{g:Nat}{os:List Nat}{t:be}(h:gG w g (os.map rJ) t){i:Nat}(hi:i<os.length):w.cell? ⟨g,i,none⟩=some (.int .i64 ((os[i]:Nat):Int)) :=
 h.cell (by simp[hi])
theorem dD(n:Nat):val 65536 (digs 65536 n)=n:=qS (by omega) n
theorem iL(n:Nat):gN (digs 65536 n):=nO (by omega) n
theorem rO(n:Nat):dR 65536 (digs 65536 n):=sQ (by omega) n
theorem sV{m n:Nat}(h:m≤n):(digs 65536 m).length≤(digs 65536 n).length:=by
 refine fG (by omega) (d_ h ?_);have:=jY (rO n);rwa [dD] at this
theorem lF{k:Nat}{V:Nat}(h:V<2^k):(digs 65536 V).length≤k:=by
 refine fG (by omega) (ai h ?_);rw[show (65536:Nat)=2^16 from rfl,←Nat.pow_mul];exact Nat.pow_le_pow_right (by omega) (by omega)
theorem Mh{m n:Nat}(h:m<9223372036854775808):IntKind.i64.wrap ((m:Int).tdiv (n:Int))=((m / n:Nat):Int):=mP h
section
variable {P:Program} {ds:List Deferred} {l:List aj} {T ty:be}
variable {ops:Array Oper} {Q:Exit→Act→aw→Prop} {rest:List Oper} {d:Nat} {pos:String} {after:Array Edge} {w:aw}
theorem Tq{s0 x0:Operand}{base c b nn mm cap:Nat}{E:be}{z v:aj}{xs:List aj}{A:Option Addr}{a0:Array be}(ha:a0 = #[T,T])(hu:P.underlying T=some (.slice E))(hi:(P.info? E).map (fun i=>(i.size,i.bytes,i.zero))=some (c,b,some z))(hz:z.cells.size=c)(hc:0<c)
 (hs:ev l s0=v) (hown:kR w base E c v nn xs) (hx:ev l x0=.slice A mm cap) {news:List aj} (hl:news.length=mm*c) (hrow:∀j u,news[j]? = some u→∃a,A=some a∧w.cell? (a.add j)=some u) (h1:∀u∈news,u.oneCell'=true) (h63:nn+mm≤9223372036854775807) (hbytes:(nn+mm)*b≤140737488355328) (hbase:base≤w.heap.size)
 (h:∀v' w',kR w' base E c v' (nn+mm) (xs++news)→Dg w w' base→True→bh P ops Q rest (Fr (l.set d v') ds) w') :
 bh P ops Q (Oper.mk (some d) (.call { callee:=.builtin .append,args:=#[s0,x0],argTypes:=a0 }) ty pos after none::rest) (Fr l ds) w:=by
 cases A with
 | none =>
  obtain rfl:news=[]:=by
   cases news with
   | nil=>rfl
   | cons u us=>obtain⟨a,e,_⟩:=hrow 0 u rfl;cases e
  have hm:mm=0:=by
   rcases eg mm with h0 | h0
   · exact h0
   · have:=Nat.mul_pos h0 hc;simp at hl;omega
  subst hm;exact Su ha hu hi hs hown hx (h _ _ (by simpa using hown) (Dg.refl _ _) trivial)
 | some a =>
  refine iJ ha hu hi hz hc hs hown hx hl (fun j u hj=>?_) h1 h63 hbytes hbase (fun v' w' h2 h3 _=>h v' w' h2 h3 trivial);obtain⟨a',e,hc'⟩:=hrow j u hj;cases e;exact hc'
end
theorem uA{os xs ys:List Nat}{i c s:Nat}(hl:os.length=i)(hv:val 65536 os+65536^i*c=val 65536 (xs.take i)+val 65536 (ys.take i))(hd:dR 65536 os)
 (hs:s=c+xs[i]?.getD 0+ys[i]?.getD 0) :
 val 65536 (os++[s%65536])+65536^(i+1)*(s / 65536)=val 65536 (xs.take (i+1))+val 65536 (ys.take (i+1))∧dR 65536 (os++[s%65536]):=by
 refine⟨?_,hd.append (oH (ft _ (by omega)) (lE _))⟩;have ht:∀l:List Nat,val 65536 (l.take (i+1))=val 65536 (l.take i)+65536^i*l[i]?.getD 0:=fun l=>by
  rcases cn i l.length with h | h
  · rw[dK h,ao h];rfl
  · rw[bp (by omega),bp h,bj h];simp
 rw[ht xs,ht ys,fV,hl];simp only[val,fk,fx];have e:s=s%65536+65536*(s / 65536):=by omega
 rw[el];generalize s / 65536=q at *
 generalize s%65536=r at *
 generalize 65536^i=p at *
 generalize xs[i]?.getD 0=x at *
 generalize ys[i]?.getD 0=y at *
 subst hs;have e2:p*(c+x+y)=p*r+p*65536*q:=by rw[e];grind
 grind
theorem rP{os xs ys:List Nat}{i c s b:Nat}(hi:i<xs.length)(hl:os.length=i)(hv:val 65536 os+val 65536 (ys.take i)=val 65536 (xs.take i)+65536^i*c)(hd:dR 65536 os)
 (hs:s+ys[i]?.getD 0+c=xs[i]+65536*b) (h16:s<65536) :
 val 65536 (os++[s])+val 65536 (ys.take (i+1))=val 65536 (xs.take (i+1))+65536^(i+1)*b∧dR 65536 (os++[s]):=by
 refine⟨?_,hd.append (oH h16 (lE _))⟩;have ht:val 65536 (ys.take (i+1))=val 65536 (ys.take i)+65536^i*ys[i]?.getD 0:=by
  rcases cn i ys.length with h | h
  · rw[dK h,ao h];rfl
  · rw[bp (by omega),bp h,bj h];simp
 rw[ht,dK hi,fV,hl];simp only[val,fk,fx];rw[el];generalize 65536^i=p at *
 generalize ys[i]?.getD 0=y at *
 generalize xs[i]=x at *
 have e2:p*(s+y+c)=p*x+p*65536*b:=by rw[hs];grind
 grind
theorem Tr{os xs ys:List Nat}{c:Nat}(hle:ys.length≤xs.length)(hl:os.length=xs.length)(hd:dR 65536 os)(hv:val 65536 os+val 65536 (ys.take xs.length)=val 65536 (xs.take xs.length)+65536^xs.length*c)(hge:val 65536 ys≤val 65536 xs):val 65536 os=val 65536 xs-val 65536 ys:=by
 rw[c_,bp hle] at hv;have h1:=jY hd;rw[hl] at h1;rcases eg c with h | h
 · subst h;omega
 · have:65536^xs.length*1≤65536^xs.length*c:=df _ h
   omega
theorem Pg{os:List Nat}{i d c c' s t T:Nat}(hi:i<os.length)(hs:os[i]+s+c=d+65536*c')(hT:val 65536 os+65536^i*c=T)(ht:T+65536^i*s=t) :
 val 65536 (os.set i d)+65536^(i+1)*c'=t:=by
 have h:=lR (B:=65536) (d:=d) hi;rw[el];generalize 65536^i=p at *
 have e:p*(os[i]+s+c)=p*d+p*65536*c':=by rw[hs];grind
 grind
theorem Mi{os xs ys:List Nat}{i k c s:Nat}(hi:i<xs.length)(hk:k<ys.length)(hlo:os.length=xs.length+ys.length)(hv:val 65536 os+65536^(i+k)*c=val 65536 (xs.take i)*val 65536 ys+65536^i*(xs[i]*val 65536 (ys.take k)))
 (hs:s=os[i+k]+xs[i]*ys[k]+c):val 65536 (os.set (i+k) (s%65536))+65536^(i+(k+1))*(s / 65536)=val 65536 (xs.take i)*val 65536 ys+65536^i*(xs[i]*val 65536 (ys.take (k+1))):=by
 refine Pg (s:=xs[i]*ys[k]) (i:=i+k) (by omega) (by omega) hv ?_;rw[dK hk,Nat.pow_add]
 grind
theorem Ts{os xs ys:List Nat}{i c:Nat}(hi:i<xs.length)(hlo:os.length=xs.length+ys.length)(hv:val 65536 os+65536^(i+ys.length)*c=val 65536 (xs.take i)*val 65536 ys+65536^i*(xs[i]*val 65536 (ys.take ys.length)))(hz:os.drop (i+ys.length)=bk (xs.length-i) 0) :
 val 65536 (os.set (i+ys.length) c)=val 65536 (xs.take (i+1))*val 65536 ys∧(os.set (i+ys.length) c).drop (i+1+ys.length)=bk (xs.length-(i+1)) 0:=by
 obtain⟨z1,z2⟩:=iZ hz (by omega);have h:=lR (B:=65536) (d:=c) (show i+ys.length<os.length by omega);rw[z1] at h;rw[c_] at hv;refine⟨?_,?_⟩
 · rw[dK hi]
   grind
 · rw[show i+1+ys.length=i+ys.length+1 by omega,kG,z2]
   congr 1
theorem Mj{x y:Nat}(hx:x<65536)(hy:y<65536):x*y≤4294836225:=by
 have:=Nat.mul_le_mul (ju hx) (ju hy);omega
theorem Tt{x y:Nat}(hx:x<65536)(hy:y<65536):(0:Int)≤(x:Int)*(y:Int)∧(x:Int)*(y:Int)≤4294836225:=by
 have:=Mj hx hy;rw[←Int.natCast_mul];omega
theorem Mk{xs ys:List Nat}{k:Nat}(hx:dR 65536 xs)(hk:0<k)(hlx:k-1<xs.length)(hly:k-1<ys.length)(hd:xs.drop k=ys.drop k)(h:((xs[k-1]:Nat):Int)<((ys[k-1]:Nat):Int)):val 65536 xs<val 65536 ys :=
 wK (by omega) hx hlx hly (by rw[show k-1+1=k by omega];exact hd) (by omega)
theorem Xh{xs ys:List Nat}{k:Nat}(hk:0<k)(hlx:k-1<xs.length)(hly:k-1<ys.length)(hd:xs.drop k=ys.drop k)(h1:((xs[k-1]:Nat):Int)=((ys[k-1]:Nat):Int)):xs.drop (k-1)=ys.drop (k-1):=by
 rw[dc hlx,dc hly,show k-1+1=k by omega,hd,show xs[k-1]=ys[k-1] by omega]
end Go.Lith
namespace Go.Proofs.YtimjandkmfcmiaaGreatDoor
open Go.Proofs.Tryz
open Go.RowKit Go.Lith
set_option maxRecDepth 100000
attribute [local irreducible] bh ck eY Code.wp
theorem Am{A:Option Addr}{xs:List Nat}{b na cap:Nat}(w:aw)(hS:dP w b A na cap xs):gZ prog 99 [.slice A na cap] w (fun v _=>v=.slice A (trim xs).length cap):=by
 skip
 refine⟨afz,?_⟩;have hX:=dU.refl w;obtain rfl:=hS.eq;have hl:=hS.len;have hle:=hS.le;have hcp:=hS.cap
 go_enter func99,ntmps99
 refine aF (fun K1 hK1=>aa (aA aD ?_));simp only[zz];refine aC (hK1 _ _ ?_);refine aF (fun K2 hK2=>av ?_);refine dI [0] [3,4,5,6,7,8,9,10,11,12,13,14,15,16,17,18,19] (fun n vs wl=>∃(k:Nat),vs=[.slice A k cap]∧(dU w wl)∧(k≤xs.length)∧(trim (xs.take k)=trim xs)∧(n=k)) ?_ ?_
 ·
  apply Exists.intro;simp only[zQ,zR,zD,zE];exact⟨xs.length,rfl,hX,bi _,by rw[c_],rfl⟩
 ·
  intro n vs wr hI u;obtain⟨k,rfl,hX,hk,ht,hn⟩:=hI;simp only[zu,zF,zG];refine aF (fun K3 hK3=>aF (fun K4 hK4=>?_));by_cases hk0:0<k
  ·
   obtain⟨a,rfl,hcell,hlt⟩:=(hS.ext hX).get (show k-1<xs.length by omega);refine aa (aA aB (aA (bR rfl bM rfl) (aA (lN rfl rfl (by omega)) ?_)));simp only[zz];refine aA aB ?_;simp only[zz];refine aR rfl (aA aB ?_);simp only[zz];refine aR rfl (aA aB ?_);simp only[zz];refine aR rfl (aA (bR rfl bM rfl) ?_);simp only[zz];refine aR rfl (aA (eH rfl rfl (aO (by omega) (by omega))) ?_);simp only[zz];refine aR rfl (aA (aS bM aM rfl rfl (by omega) (by omega) (fH (show _=k-1 by omega))) ?_);simp only[zz];refine aR rfl (aI rfl (lies1 hcell aV) ?_);simp only[zz];refine aR rfl (aA (mF rfl rfl) (aA (cT rfl) ?_));simp only[zz];refine aC (hK4 _ _ ?_);refine cW rfl (fun hc1=>?_) (fun hc1=>?_)
   ·
    refine ar ?_;refine hK3 _ _ (av (aa (aA aB (aA aB (aA (bR rfl bM rfl) ?_)))));simp only[zz];refine aA (eH rfl rfl (aO (by omega) (by omega))) (aA (oB bM aM rfl rfl (show _=k-1 by omega) (by omega) (by omega)) (aA aD ?_));simp only[zz];refine aC ?_;simp only[ac,af];refine⟨k-1,_,?_,rfl,?_,?_⟩
    · omega
    · simp only[zz,zv]
    ·
     simp only[zQ,zR,zD,zE];exact⟨k-1,rfl,hX,by omega,Gz hk0 (by omega) hc1 ht,rfl⟩
   ·
    refine bw ?_;refine hK2 _ _ (aF (fun K5 hK5=>aa (aA aB (aA aD ?_))));simp only[zz];refine aC (hK5 _ _ ?_);refine bc ?_;try simp only[ac,af]
    refine bY rfl rfl ?_;try simp only[zD,zE]
    exact⟨_,rfl,hX,by rw[←Lx hk0 (by omega) hc1 ht]⟩
  ·
   obtain rfl:k=0:=by omega
   refine aa (aA aB (aA (bR rfl bM rfl) (aA (kE rfl rfl (by omega)) ?_)));simp only[zz];refine aA aB ?_;simp only[zz];refine bO rfl ?_;simp only[zz];refine bO rfl ?_;simp only[zz];refine bO rfl ?_;simp only[zz];refine bO rfl ?_;simp only[zz];refine bO rfl ?_;simp only[zz];refine bO rfl ?_;simp only[zz];refine bO rfl ?_;simp only[zz];refine aA (cV rfl) ?_;simp only[zz];refine aC (hK4 _ _ ?_);refine eZ rfl (bw ?_);refine hK2 _ _ (aF (fun K6 hK6=>aa (aA aB (aA aD ?_))));simp only[zz];refine aC (hK6 _ _ ?_);refine bc ?_;try simp only[ac,af]
   refine bY rfl rfl ?_;try simp only[zD,zE]
   exact⟨_,rfl,hX,by rw[←Ly ht]⟩
theorem vY{A B:Option Addr}{xs ys:List Nat}{b b2 na nb ca cb:Nat}(w:aw)(hS:dP w b A na ca xs)(hR:dP w b2 B nb cb ys)(tx:gN xs)(ty:gN ys):gZ prog 117 [.slice A na ca,.slice B nb cb] w (fun v _=>v=.int .i64 (Jl (val 65536 xs) (val 65536 ys))):=by
 skip
 refine⟨acB,?_⟩;have hX:=dU.refl w;obtain rfl:=hS.eq;obtain rfl:=hR.eq;have hl:=hS.len;have hl2:=hR.len
 go_enter func117,ntmps117
 refine aF (fun K1 hK1=>aa (aA aD ?_));simp only[zz];refine aC (hK1 _ _ ?_);refine aF (fun K2 hK2=>aF (fun K3 hK3=>aa (aA aB (aA (bR rfl bM rfl) (aA aB ?_)))));simp only[zz];refine aA (bR rfl bM rfl) (aA (nZ rfl rfl) ?_);simp only[zz];refine aC (hK3 _ _ ?_);refine cW rfl (fun hc1=>?_) (fun hc1=>?_)
 ·
  refine aF (fun K4 hK4=>aF (fun K5 hK5=>aa (aA aB (aA (bR rfl bM rfl) (aA aB ?_)))));simp only[zz];refine aA (bR rfl bM rfl) (aA (dZ rfl rfl) ?_);simp only[zz];refine aC (hK5 _ _ ?_);refine cW rfl (fun hc2=>?_) (fun hc2=>?_)
  ·
   refine aF (fun K6 hK6=>aa (aA aD ?_));simp only[zz];refine aC (hK6 _ _ ?_);refine bc ?_;try simp only[ac,af]
   refine bY rfl rfl ?_;try simp only[zD,zE]
   exact⟨_,rfl,hX,by rw[Jl,if_pos (kT (by omega) hS.digs hR.digs ty (by omega))]⟩
  ·
   refine ar ?_;refine hK4 _ _ (aF (fun K7 hK7=>aa (aA aD ?_)));simp only[zz];refine aC (hK7 _ _ ?_);refine bc ?_;try simp only[ac,af]
   refine bY rfl rfl ?_;try simp only[zD,zE]
   exact⟨_,rfl,hX,by have:=kT (B:=65536) (by omega) hR.digs hS.digs tx (by omega);rw[Jl,if_neg (by omega),if_pos this]⟩
 ·
  refine ar ?_;refine hK2 _ _ (aF (fun K8 hK8=>aF (fun K9 hK9=>aa (aA aB (aA (bR rfl bM rfl) (aA (eH rfl rfl (aO (by omega) (by omega))) ?_))))));simp only[zz];refine aA aD ?_;simp only[zz];refine aC (hK9 _ _ ?_);refine av (dI [5] [4,19,20,21,22,23,24,25,26,27,28,29,30,31,32,33,34,35,36,37,38,39,40] (fun n vs wl=>∃(k:Nat),vs=[.int .i64 ((k:Int)-1)]∧(dU w wl)∧(k≤xs.length)∧(xs.drop k=ys.drop k)∧(n=k)) ?_ ?_)
  ·
   apply Exists.intro;simp only[zQ,zR,zD,zE];exact⟨xs.length,rfl,hX,bi _,by rw[fh,show xs.length=ys.length by omega,fh],rfl⟩
  ·
   intro n vs wr hI u;obtain⟨k,rfl,hX,hk,hd,hn⟩:=hI;simp only[zu,zF,zG];refine aF (fun K10 hK10=>aF (fun K11 hK11=>aa (aA aB (aA (lD rfl rfl) ?_))));simp only[zz];refine aC (hK11 _ _ ?_);refine cW rfl (fun hc3=>?_) (fun hc3=>?_)
   ·
    refine ar ?_;refine hK10 _ _ (aF (fun K12 hK12=>av (aF (fun K13 hK13=>?_))));obtain⟨a,rfl,hca,_⟩:=(hS.ext hX).get (show k-1<xs.length by omega);obtain⟨b,rfl,hcb,_⟩:=(hR.ext hX).get (show k-1<ys.length by omega);refine iH aP (by kernel_rfl) (aQ aB (aQ aB (aQ (aS bM aM rfl rfl (by omega) (by omega) (fH (show _=k-1 by omega))) ?_)));simp only[zz];refine iA rfl (fun _ hE'=>(lies1 (hE'.cell hca) aV)) ?_;simp only[zz];refine aQ aB (aQ aB (aQ (aS bM aM rfl rfl (by omega) (by omega) (fH (show _=k-1 by omega))) ?_));simp only[zz];refine iA rfl (fun _ hE'=>(lies1 (hE'.cell hcb) aV)) ?_;simp only[zz];refine aQ (nZ rfl rfl) ?_;simp only[zz];refine eD ?_;intro w1 hE;replace hX:=hX.trans hE;clear hE;refine hK13 _ _ (cW rfl (fun hc4=>?_) (fun hc4=>?_))
    ·
     refine aF (fun K14 hK14=>aF (fun K15 hK15=>?_));have hca:=(hS.ext hX).at (show k-1<xs.length by omega);have hcb:=(hR.ext hX).at (show k-1<ys.length by omega);refine iH aP (by kernel_rfl) (aQ aB (aQ aB (aQ (aS bM aM rfl rfl (by omega) (by omega) (fH (show _=k-1 by omega))) ?_)));simp only[zz];refine iA rfl (fun _ hE'=>(lies1 (hE'.cell hca) aV)) ?_;simp only[zz];refine aQ aB (aQ aB (aQ (aS bM aM rfl rfl (by omega) (by omega) (fH (show _=k-1 by omega))) ?_));simp only[zz];refine iA rfl (fun _ hE'=>(lies1 (hE'.cell hcb) aV)) ?_;simp only[zz];refine aQ (dZ rfl rfl) ?_;simp only[zz];refine eD ?_;intro w2 hE;replace hX:=hX.trans hE;clear hE;refine hK15 _ _ (cW rfl (fun hc5=>?_) (fun hc5=>?_))
     ·
      refine aF (fun K16 hK16=>aa (aA aD ?_));simp only[zz];refine aC (hK16 _ _ ?_);refine bc ?_;try simp only[ac,af]
      refine bY rfl rfl ?_;try simp only[zD,zE]
      exact⟨_,rfl,hX,by rw[Jl,if_pos (Mk hS.digs (by omega) (by omega) (by omega) hd hc5)]⟩
     ·
      refine ar ?_;refine hK14 _ _ (aF (fun K17 hK17=>aa (aA aD ?_)));simp only[zz];refine aC (hK17 _ _ ?_);refine bc ?_;try simp only[ac,af]
      refine bY rfl rfl ?_;try simp only[zD,zE]
      exact⟨_,rfl,hX,by have:=Mk hR.digs (by omega) (by omega) (by omega) hd.symm (by omega);rw[Jl,if_neg (by omega),if_pos this]⟩
    ·
     refine ar ?_;refine hK12 _ _ (aa (aA aB (aA (eH rfl rfl (aO (by omega) (by omega))) (aA aD ?_))));simp only[zz];refine aC ?_;rw[show ((k:Int)-1-1)=((k-1:Nat):Int)-1 by omega];simp only[ac,af];refine⟨k-1,_,?_,rfl,?_,?_⟩
     · omega
     · simp only[zz,zv]
     ·
      simp only[zQ,zR,zD,zE];exact⟨k-1,rfl,hX,by omega,Xh (by omega) (by omega) (by omega) hd (by omega),rfl⟩
   ·
    refine bw ?_;refine hK8 _ _ (aF (fun K18 hK18=>aa (aA aD ?_)));simp only[zz];refine aC (hK18 _ _ ?_);refine bc ?_;try simp only[ac,af]
    refine bY rfl rfl ?_;try simp only[zD,zE]
    exact⟨_,rfl,hX,by have h0:k=0:=(by omega);subst h0;simp only[fg] at hd;rw[hd,Jl,if_neg (by omega),if_neg (by omega)]⟩
theorem ado{A B:Option Addr}{xs ys:List Nat}{na nb ca cb:Nat}(w:aw)(hS:dP w w.heap.size A na ca xs)(hR:dP w w.heap.size B nb cb ys)(hlx:xs.length≤1000000000000)(hly:ys.length≤1000000000000):gZ prog 116 [.slice A na ca,.slice B nb cb] w (adn (val 65536 xs+val 65536 ys) (max xs.length ys.length+1)):=by
 skip
 refine⟨acA,?_⟩;have hX:=dU.refl w;obtain rfl:=hS.eq;obtain rfl:=hR.eq;obtain⟨M,hM⟩:∃M,M=max xs.length ys.length:=⟨_,rfl⟩
 rw[←hM]
 go_enter func116,ntmps116
 refine aF (fun K1 hK1=>aa (aA aD ?_));simp only[zz];refine aC (hK1 _ _ ?_);refine aF (fun K2 hK2=>aa (aA aD ?_));simp only[zz];obtain⟨b5,hb5e,hb5l⟩:=hX.base;have hS5:=tY.of hX hb5e;have hO5:=kR.nil_of hX b5 3 1;clear hb5e;refine aC (hK2 _ _ ?_);refine aF (fun K3 hK3=>aa (aA aD ?_));simp only[zz];refine aC (hK3 _ _ ?_);refine aF (fun K4 hK4=>aF (fun K5 hK5=>aa (aA aD ?_)));simp only[zz];refine aC (hK5 _ _ ?_);refine av (dI [5,6,7] [8,9,10,11,12,13,14,15,16,17,18,19,20,21,22,23,24,25,26,27,28,29,30,31,32,33,34,35,36,37,38,39,40,41,42,43,44,45,46,47,48,49,50,51,52] (fun n vs wl=>∃(i c:Nat) (os:List Nat) (v5:aj),vs=[v5,.int .i64 (c:Int),.int .i64 (i:Int)]∧(dU w wl)∧(dP wl w.heap.size A xs.length ca xs)∧(dP wl w.heap.size B ys.length cb ys)∧(tY wl b5)∧(kR wl b5 3 1 v5 os.length (os.map rJ))∧(os.length=i)∧(val 65536 os+65536^i*c=val 65536 (xs.take i)+val 65536 (ys.take i))∧(dR 65536 os)∧(c≤1)∧(i≤M+1)∧(i=M+1→c=0)∧(n=M+1-i)) ?_ ?_)
 ·
  apply Exists.intro;simp only[zQ,zR,zD,zE];exact⟨0,0,[],_,rfl,hX,hS,hR,hS5,hO5,rfl,by simp[val],lE _,by omega,by omega,fun _=>rfl,rfl⟩
 ·
  intro n vs wr hI u;obtain⟨i,c,os,v5,rfl,hX,hS,hR,hS5,hO5,hlo,hv,hd,hc,hi,hic,hn⟩:=hI;simp only[zu,zF,zG];refine aF (fun K6 hK6=>aF (fun K7 hK7=>?_));rcases (show i<xs.length∨(¬i<xs.length∧i<ys.length)∨(¬i<xs.length∧¬i<ys.length∧0<c)∨(¬i<xs.length∧¬i<ys.length∧c=0) by omega) with hw | ⟨hw,hw2⟩ | ⟨hw,hw2,hw3⟩ | ⟨hw,hw2,rfl⟩
  ·
   refine aa (aA aB (aA aB (aA (bR rfl bM rfl) ?_)));simp only[zz];refine aA (cD rfl rfl (by omega)) (aA aB ?_);simp only[zz];refine bK rfl ?_;simp only[zz];refine bK rfl ?_;simp only[zz];refine bK rfl ?_;simp only[zz];refine bK rfl ?_;simp only[zz];refine aA (cT rfl) (aA aB ?_);simp only[zz];refine bK rfl ?_;simp only[zz];refine bK rfl ?_;simp only[zz];refine aA (cT rfl) ?_;simp only[zz];refine aC (hK7 _ _ ?_);refine bX rfl (ar ?_);refine hK6 _ _ (aF (fun K8 hK8=>av (aF (fun K9 hK9=>aa (aA aB (aA aD ?_))))));simp only[zz];refine aC (hK9 _ _ ?_);refine aF (fun K10 hK10=>aF (fun K11 hK11=>aa (aA aB (aA aB (aA (bR rfl bM rfl) ?_)))));simp only[zz];refine aA (cD rfl rfl (by omega)) ?_;simp only[zz];refine aC (hK11 _ _ ?_);refine bX rfl ?_;obtain⟨a,rfl,hca,hla⟩:=hS.get (show i<xs.length by omega);refine aa (aA aB (aA aB (aA aB ?_)));simp only[zz];refine aA (aS bM aM rfl rfl (by omega) (by omega) (fH (an _))) ?_;simp only[zz];refine aI rfl (lies1 hca aV) ?_;simp only[zz];refine aA (aZ rfl rfl (aO (by omega) (by omega))) (aA aD ?_);simp only[zz];refine aC ?_;obtain⟨s1,hs1⟩:∃s1:Nat,s1=c+xs[i]:=⟨_,rfl⟩
   rw[show ((c:Int)+(xs[i]:Int))=(s1:Int) by omega];have hs2:s1=c+xs[i]?.getD 0:=by rw[ao (by omega)];exact hs1
   have hs3:s1<65537:=by omega
   refine hK10 _ _ ?_;refine aF (fun K12 hK12=>aF (fun K13 hK13=>aa (aA aB (aA aB (aA (bR rfl bM rfl) ?_)))));simp only[zz];refine aA (dZ rfl rfl) ?_;simp only[zz];refine aC (hK13 _ _ ?_);refine cW rfl (fun hc3=>?_) (fun hc3=>?_)
   ·
    obtain⟨a2,rfl,hcb,hlb⟩:=hR.get (show i<ys.length by omega);refine aa (aA aB (aA aB (aA aB ?_)));simp only[zz];refine aA (aS bM aM rfl rfl (by omega) (by omega) (fH (an _))) ?_;simp only[zz];refine aI rfl (lies1 hcb aV) ?_;simp only[zz];refine aA (aZ rfl rfl (aO (by omega) (by omega))) (aA aD ?_);simp only[zz];refine aC ?_;obtain⟨s,hs⟩:∃s:Nat,s=s1+ys[i]:=⟨_,rfl⟩
    rw[show ((s1:Int)+(ys[i]:Int))=(s:Int) by omega];have hs4:s=c+xs[i]?.getD 0+ys[i]?.getD 0:=by rw[ao (l:=ys) (by omega)];simp only[dt];omega
    have hs5:s<131072:=by omega
    refine hK12 _ _ ?_;refine aF (fun K14 hK14=>aa (aA aB (aA aB (aA (fL rfl rfl (by omega) (lW (n:=65536))) ?_))));simp only[zz];refine cN bM (z:=.int .i64 0) (by kernel_rfl) rfl (by simp only[zz];rfl) (by rfl) ?_;intro w1 g1 hE hg1 hB1;have hG1:=ak hX.size hg1
    (try replace hS:=hS.ext hE);(try replace hR:=hR.ext hE);(try replace hS5:=hS5.ext hE);(try replace hO5:=hO5.ext hE);replace hX:=hX.trans hE
    clear hE hg1;simp only[zz];refine iJ rfl bM iF rfl (by decide) rfl hO5 rfl (news:=_) rfl hB1.row0 (by simp[bf]) (by omega) (by omega) hS5.h ?_;clear hO5;intro v5 w2 hO5 hGr _
    (try replace hS:=hS.grew hGr (by first | trivial | omega));(try replace hR:=hR.grew hGr (by first | trivial | omega));(try replace hS5:=hS5.grew hGr (by first | trivial | omega));replace hX:=hX.grown hGr hb5l
    clear hGr;replace hO5:=hO5.snoc;simp only[zz];refine aA aD ?_;simp only[zz];refine aC (hK14 _ _ ?_);refine aa (aA aB (aA (jA rfl rfl (by omega) (mP (n:=65536) (by omega))) (aA aD ?_)));simp only[zz];refine aC (hK8 _ _ ?_);refine aa (aA aB (aA (aZ rfl rfl (aO (by omega) (by omega))) (aA aD ?_)));simp only[zz];refine aC ?_;obtain⟨r1,r2⟩:=uA hlo hv hd hs4;rw[show ((i:Int)+1)=((i+1:Nat):Int) by omega];simp only[ac,af];refine⟨M+1-(i+1),_,?_,rfl,?_,?_⟩
    · omega
    · simp only[zz,zv]
    ·
     simp only[zQ,zR,zD,zE];exact⟨i+1,s / 65536,os++[s%65536],v5,rfl,hX,hS,hR,hS5,hO5,by simp;omega,r1,r2,by omega,by omega,fun h=>by rw[bj (l:=xs) (by omega),bj (l:=ys) (by omega)] at hs4;simp at hs4;omega,rfl⟩
   ·
    obtain⟨s,hs⟩:∃s:Nat,s=s1:=⟨_,rfl⟩
    rw[←hs];have hs4:s=c+xs[i]?.getD 0+ys[i]?.getD 0:=by rw[bj (l:=ys) (by omega)];simp only[io];omega
    have hs5:s<131072:=by omega
    refine ar ?_;refine hK12 _ _ (aF (fun K15 hK15=>aa (aA aB (aA aB (aA (fL rfl rfl (by omega) (lW (n:=65536))) ?_)))));simp only[zz];refine cN bM (z:=.int .i64 0) (by kernel_rfl) rfl (by simp only[zz];rfl) (by rfl) ?_;intro w1 g1 hE hg1 hB1;have hG1:=ak hX.size hg1
    (try replace hS:=hS.ext hE);(try replace hR:=hR.ext hE);(try replace hS5:=hS5.ext hE);(try replace hO5:=hO5.ext hE);replace hX:=hX.trans hE
    clear hE hg1;simp only[zz];refine iJ rfl bM iF rfl (by decide) rfl hO5 rfl (news:=_) rfl hB1.row0 (by simp[bf]) (by omega) (by omega) hS5.h ?_;clear hO5;intro v5 w2 hO5 hGr _
    (try replace hS:=hS.grew hGr (by first | trivial | omega));(try replace hR:=hR.grew hGr (by first | trivial | omega));(try replace hS5:=hS5.grew hGr (by first | trivial | omega));replace hX:=hX.grown hGr hb5l
    clear hGr;replace hO5:=hO5.snoc;simp only[zz];refine aA aD ?_;simp only[zz];refine aC (hK15 _ _ ?_);refine aa (aA aB (aA (jA rfl rfl (by omega) (mP (n:=65536) (by omega))) (aA aD ?_)));simp only[zz];refine aC (hK8 _ _ ?_);refine aa (aA aB (aA (aZ rfl rfl (aO (by omega) (by omega))) (aA aD ?_)));simp only[zz];refine aC ?_;obtain⟨r1,r2⟩:=uA hlo hv hd hs4;rw[show ((i:Int)+1)=((i+1:Nat):Int) by omega];simp only[ac,af];refine⟨M+1-(i+1),_,?_,rfl,?_,?_⟩
    · omega
    · simp only[zz,zv]
    ·
     simp only[zQ,zR,zD,zE];exact⟨i+1,s / 65536,os++[s%65536],v5,rfl,hX,hS,hR,hS5,hO5,by simp;omega,r1,r2,by omega,by omega,fun h=>by rw[bj (l:=xs) (by omega),bj (l:=ys) (by omega)] at hs4;simp at hs4;omega,rfl⟩
  ·
   refine aa (aA aB (aA aB (aA (bR rfl bM rfl) ?_)));simp only[zz];refine aA (fD rfl rfl (by omega)) (aA aB ?_);simp only[zz];refine aR rfl (aA aB ?_);simp only[zz];refine aR rfl (aA aB ?_);simp only[zz];refine aR rfl (aA (bR rfl bM rfl) ?_);simp only[zz];refine aR rfl (aA (cD rfl rfl (by omega)) (aA (cV rfl) (aA aB ?_)));simp only[zz];refine bK rfl ?_;simp only[zz];refine bK rfl ?_;simp only[zz];refine aA (cT rfl) ?_;simp only[zz];refine aC (hK7 _ _ ?_);refine bX rfl (ar ?_);refine hK6 _ _ (aF (fun K16 hK16=>av (aF (fun K17 hK17=>aa (aA aB (aA aD ?_))))));simp only[zz];refine aC ?_;obtain⟨s1,hs1⟩:∃s1:Nat,s1=c:=⟨_,rfl⟩
   rw[←hs1];have hs2:s1=c+xs[i]?.getD 0:=by rw[bj (by omega)];exact hs1
   have hs3:s1<65537:=by omega
   refine hK17 _ _ ?_;refine aF (fun K18 hK18=>aF (fun K19 hK19=>aa (aA aB (aA aB (aA (bR rfl bM rfl) ?_)))));simp only[zz];refine aA (fD rfl rfl (by omega)) ?_;simp only[zz];refine aC (hK19 _ _ ?_);refine eZ rfl (ar ?_);refine hK18 _ _ (aF (fun K20 hK20=>aF (fun K21 hK21=>aa (aA aB (aA aB (aA (bR rfl bM rfl) ?_))))));simp only[zz];refine aA (cD rfl rfl (by omega)) ?_;simp only[zz];refine aC (hK21 _ _ ?_);refine bX rfl ?_;obtain⟨a2,rfl,hcb,hlb⟩:=hR.get (show i<ys.length by omega);refine aa (aA aB (aA aB (aA aB ?_)));simp only[zz];refine aA (aS bM aM rfl rfl (by omega) (by omega) (fH (an _))) ?_;simp only[zz];refine aI rfl (lies1 hcb aV) ?_;simp only[zz];refine aA (aZ rfl rfl (aO (by omega) (by omega))) (aA aD ?_);simp only[zz];refine aC ?_;obtain⟨s,hs⟩:∃s:Nat,s=s1+ys[i]:=⟨_,rfl⟩
   rw[show ((s1:Int)+(ys[i]:Int))=(s:Int) by omega];have hs4:s=c+xs[i]?.getD 0+ys[i]?.getD 0:=by rw[ao (l:=ys) (by omega)];simp only[dt];omega
   have hs5:s<131072:=by omega
   refine hK20 _ _ ?_;refine aF (fun K22 hK22=>aa (aA aB (aA aB (aA (fL rfl rfl (by omega) (lW (n:=65536))) ?_))));simp only[zz];refine cN bM (z:=.int .i64 0) (by kernel_rfl) rfl (by simp only[zz];rfl) (by rfl) ?_;intro w1 g1 hE hg1 hB1;have hG1:=ak hX.size hg1
   (try replace hS:=hS.ext hE);(try replace hR:=hR.ext hE);(try replace hS5:=hS5.ext hE);(try replace hO5:=hO5.ext hE);replace hX:=hX.trans hE
   clear hE hg1;simp only[zz];refine iJ rfl bM iF rfl (by decide) rfl hO5 rfl (news:=_) rfl hB1.row0 (by simp[bf]) (by omega) (by omega) hS5.h ?_;clear hO5;intro v5 w2 hO5 hGr _
   (try replace hS:=hS.grew hGr (by first | trivial | omega));(try replace hR:=hR.grew hGr (by first | trivial | omega));(try replace hS5:=hS5.grew hGr (by first | trivial | omega));replace hX:=hX.grown hGr hb5l
   clear hGr;replace hO5:=hO5.snoc;simp only[zz];refine aA aD ?_;simp only[zz];refine aC (hK22 _ _ ?_);refine aa (aA aB (aA (jA rfl rfl (by omega) (mP (n:=65536) (by omega))) (aA aD ?_)));simp only[zz];refine aC (hK16 _ _ ?_);refine aa (aA aB (aA (aZ rfl rfl (aO (by omega) (by omega))) (aA aD ?_)));simp only[zz];refine aC ?_;obtain⟨r1,r2⟩:=uA hlo hv hd hs4;rw[show ((i:Int)+1)=((i+1:Nat):Int) by omega];simp only[ac,af];refine⟨M+1-(i+1),_,?_,rfl,?_,?_⟩
   · omega
   · simp only[zz,zv]
   ·
    simp only[zQ,zR,zD,zE];exact⟨i+1,s / 65536,os++[s%65536],v5,rfl,hX,hS,hR,hS5,hO5,by simp;omega,r1,r2,by omega,by omega,fun h=>by rw[bj (l:=xs) (by omega),bj (l:=ys) (by omega)] at hs4;simp at hs4;omega,rfl⟩
  ·
   refine aa (aA aB (aA aB (aA (bR rfl bM rfl) ?_)));simp only[zz];refine aA (fD rfl rfl (by omega)) (aA aB ?_);simp only[zz];refine aR rfl (aA aB ?_);simp only[zz];refine aR rfl (aA aB ?_);simp only[zz];refine aR rfl (aA (bR rfl bM rfl) ?_);simp only[zz];refine aR rfl (aA (fD rfl rfl (by omega)) (aA (cV rfl) (aA aB ?_)));simp only[zz];refine aR rfl (aA aB ?_);simp only[zz];refine aR rfl (aA (lN rfl rfl (by omega)) (aA (cV rfl) ?_));simp only[zz];refine aC (hK7 _ _ ?_);refine bX rfl (ar ?_);refine hK6 _ _ (aF (fun K23 hK23=>av (aF (fun K24 hK24=>aa (aA aB (aA aD ?_))))));simp only[zz];refine aC ?_;obtain⟨s1,hs1⟩:∃s1:Nat,s1=c:=⟨_,rfl⟩
   rw[←hs1];have hs2:s1=c+xs[i]?.getD 0:=by rw[bj (by omega)];exact hs1
   have hs3:s1<65537:=by omega
   refine hK24 _ _ ?_;refine aF (fun K25 hK25=>aF (fun K26 hK26=>aa (aA aB (aA aB (aA (bR rfl bM rfl) ?_)))));simp only[zz];refine aA (fD rfl rfl (by omega)) ?_;simp only[zz];refine aC (hK26 _ _ ?_);refine eZ rfl (ar ?_);refine hK25 _ _ (aF (fun K27 hK27=>aF (fun K28 hK28=>aa (aA aB (aA aB (aA (bR rfl bM rfl) ?_))))));simp only[zz];refine aA (fD rfl rfl (by omega)) ?_;simp only[zz];refine aC (hK28 _ _ ?_);refine eZ rfl (ar ?_);refine hK27 _ _ (aF (fun K29 hK29=>?_));obtain⟨s,hs⟩:∃s:Nat,s=s1:=⟨_,rfl⟩
   rw[←hs];have hs4:s=c+xs[i]?.getD 0+ys[i]?.getD 0:=by rw[bj (l:=ys) (by omega)];simp only[io];omega
   have hs5:s<131072:=by omega
   refine aa (aA aB (aA aB (aA (fL rfl rfl (by omega) (lW (n:=65536))) ?_)));simp only[zz];refine cN bM (z:=.int .i64 0) (by kernel_rfl) rfl (by simp only[zz];rfl) (by rfl) ?_;intro w1 g1 hE hg1 hB1;have hG1:=ak hX.size hg1
   (try replace hS:=hS.ext hE);(try replace hR:=hR.ext hE);(try replace hS5:=hS5.ext hE);(try replace hO5:=hO5.ext hE);replace hX:=hX.trans hE
   clear hE hg1;simp only[zz];refine iJ rfl bM iF rfl (by decide) rfl hO5 rfl (news:=_) rfl hB1.row0 (by simp[bf]) (by omega) (by omega) hS5.h ?_;clear hO5;intro v5 w2 hO5 hGr _
   (try replace hS:=hS.grew hGr (by first | trivial | omega));(try replace hR:=hR.grew hGr (by first | trivial | omega));(try replace hS5:=hS5.grew hGr (by first | trivial | omega));replace hX:=hX.grown hGr hb5l
   clear hGr;replace hO5:=hO5.snoc;simp only[zz];refine aA aD ?_;simp only[zz];refine aC (hK29 _ _ ?_);refine aa (aA aB (aA (jA rfl rfl (by omega) (mP (n:=65536) (by omega))) (aA aD ?_)));simp only[zz];refine aC (hK23 _ _ ?_);refine aa (aA aB (aA (aZ rfl rfl (aO (by omega) (by omega))) (aA aD ?_)));simp only[zz];refine aC ?_;obtain⟨r1,r2⟩:=uA hlo hv hd hs4;rw[show ((i:Int)+1)=((i+1:Nat):Int) by omega];simp only[ac,af];refine⟨M+1-(i+1),_,?_,rfl,?_,?_⟩
   · omega
   · simp only[zz,zv]
   ·
    simp only[zQ,zR,zD,zE];exact⟨i+1,s / 65536,os++[s%65536],v5,rfl,hX,hS,hR,hS5,hO5,by simp;omega,r1,r2,by omega,by omega,fun h=>by rw[bj (l:=xs) (by omega),bj (l:=ys) (by omega)] at hs4;simp at hs4;omega,rfl⟩
  ·
   refine aa (aA aB (aA aB (aA (bR rfl bM rfl) ?_)));simp only[zz];refine aA (fD rfl rfl (by omega)) (aA aB ?_);simp only[zz];refine aR rfl (aA aB ?_);simp only[zz];refine aR rfl (aA aB ?_);simp only[zz];refine aR rfl (aA (bR rfl bM rfl) ?_);simp only[zz];refine aR rfl (aA (fD rfl rfl (by omega)) (aA (cV rfl) (aA aB ?_)));simp only[zz];refine aR rfl (aA aB ?_);simp only[zz];refine aR rfl (aA (kE rfl rfl (by omega)) (aA (cV rfl) ?_));simp only[zz];refine aC (hK7 _ _ ?_);refine eZ rfl (bw ?_);refine hK4 _ _ (aF (fun K30 hK30=>aa (aA aB (aA aD ?_))));simp only[zz];refine aC (hK30 _ _ ?_);refine bc ?_;try simp only[ac,af]
   refine bY rfl rfl ?_;try simp only[zD,zE]
   (obtain⟨A5,c5,rfl,hD,_⟩:=dP.of_owns hO5 rfl hd (by omega));exact⟨_,rfl,hX,A5,c5,os,rfl,hD,by rw[bp (by omega),bp (by omega)] at hv;simpa using hv,by omega⟩
end Go.Proofs.YtimjandkmfcmiaaGreatDoor
namespace Go.Proofs.YtimjandkmfcmiaaGreatDoor
open Go.Proofs.Tryz
open Go.RowKit Go.Lith
set_option maxRecDepth 100000
attribute [local irreducible] bh ck eY Code.wp
theorem Cs{A B:Option Addr}{xs ys:List Nat}{na nb ca cb:Nat}(w:aw)(hS:dP w w.heap.size A na ca xs)(hR:dP w w.heap.size B nb cb ys)(hle:ys.length≤xs.length)(hge:val 65536 ys≤val 65536 xs)(hlx:xs.length≤1000000000000):gZ prog 118 [.slice A na ca,.slice B nb cb] w (fun v w'=>nT (val 65536 xs-val 65536 ys) v w'∧qT w v):=by
 skip
 refine⟨acC,?_⟩;have hX:=dU.refl w;obtain rfl:=hS.eq;obtain rfl:=hR.eq
 go_enter func118,ntmps118
 refine aF (fun K1 hK1=>aa (aA aD ?_));simp only[zz];refine aC (hK1 _ _ ?_);refine aF (fun K2 hK2=>aa (aA aD ?_));simp only[zz];obtain⟨b5,hb5e,hb5l⟩:=hX.base;have hS5:=tY.of hX hb5e;have hO5:=kR.nil_of hX b5 3 1;clear hb5e;refine aC (hK2 _ _ ?_);refine aF (fun K3 hK3=>aa (aA aD ?_));simp only[zz];refine aC (hK3 _ _ ?_);refine aF (fun K4 hK4=>aF (fun K5 hK5=>aa (aA aD ?_)));simp only[zz];refine aC (hK5 _ _ ?_);refine av (dI [5,6,7] [8,9,10,11,12,13,14,15,16,17,18,19,20,21,22,23,24,25,26,27,28,29,30,31,32,33,34,35,36,37,38] (fun n vs wl=>∃(i c:Nat) (os:List Nat) (v5:aj),vs=[v5,.int .i64 (c:Int),.int .i64 (i:Int)]∧(dU w wl)∧(dP wl w.heap.size A xs.length ca xs)∧(dP wl w.heap.size B ys.length cb ys)∧(tY wl b5)∧(kR wl b5 3 1 v5 os.length (os.map rJ))∧(os.length=i)∧(val 65536 os+val 65536 (ys.take i)=val 65536 (xs.take i)+65536^i*c)∧(dR 65536 os)∧(c≤1)∧(i≤xs.length)∧(n=xs.length-i)) ?_ ?_)
 ·
  apply Exists.intro;simp only[zQ,zR,zD,zE];exact⟨0,0,[],_,rfl,hX,hS,hR,hS5,hO5,rfl,by simp[val],lE _,by omega,by omega,rfl⟩
 ·
  intro n vs wr hI u;obtain⟨i,c,os,v5,rfl,hX,hS,hR,hS5,hO5,hlo,hv,hd,hc,hi,hn⟩:=hI;simp only[zu,zF,zG];refine aF (fun K6 hK6=>aF (fun K7 hK7=>aa (aA aB (aA aB (aA (bR rfl bM rfl) ?_)))));simp only[zz];refine aA (dZ rfl rfl) ?_;simp only[zz];refine aC (hK7 _ _ ?_);refine cW rfl (fun hc1=>?_) (fun hc1=>?_)
  ·
   refine ar ?_;refine hK6 _ _ (aF (fun K8 hK8=>av (aF (fun K9 hK9=>?_))));obtain⟨a,rfl,hca,hla⟩:=hS.get (show i<xs.length by omega);have hyd:ys[i]?.getD 0<65536:=by
    rcases cn i ys.length with h | h
    · rw[ao h];exact hR.lt h
    · rw[bj h];decide
   refine aa (aA aB (aA aB (aA (aS bM aM rfl rfl (by omega) (by omega) (fH (an _))) ?_)));simp only[zz];refine aI rfl (lies1 hca aV) ?_;simp only[zz];refine aA aB (aA (eH rfl rfl (aO (by omega) (by omega))) (aA aD ?_));simp only[zz];refine aC (hK9 _ _ ?_);refine aF (fun K10 hK10=>aF (fun K11 hK11=>aa (aA aB (aA aB (aA (bR rfl bM rfl) ?_)))));simp only[zz];refine aA (dZ rfl rfl) ?_;simp only[zz];refine aC (hK11 _ _ ?_);refine cW rfl (fun hc2=>?_) (fun hc2=>?_)
   ·
    obtain⟨a2,rfl,hcb,hlb⟩:=hR.get (show i<ys.length by omega);refine aa (aA aB (aA aB (aA aB ?_)));simp only[zz];refine aA (aS bM aM rfl rfl (by omega) (by omega) (fH (an _))) ?_;simp only[zz];refine aI rfl (lies1 hcb aV) ?_;simp only[zz];refine aA (eH rfl rfl (aO (by omega) (by omega))) (aA aD ?_);simp only[zz];refine aC ?_;obtain⟨e,he⟩:∃e:Int,e=(xs[i]:Int)-(c:Int)-(ys[i]:Int):=⟨_,rfl⟩
    rw[←he];have he2:e=(xs[i]:Int)-(c:Int)-((ys[i]?.getD 0:Nat):Int):=by rw[ao (by omega)];exact he
    refine hK10 _ _ ?_;refine aF (fun K12 hK12=>aa (aA aD ?_));simp only[zz];refine aC (hK12 _ _ ?_);refine aF (fun K13 hK13=>aF (fun K14 hK14=>aa (aA aB (aA (dZ rfl rfl) ?_))));simp only[zz];refine aC (hK14 _ _ ?_);refine cW rfl (fun hc3=>?_) (fun hc3=>?_)
    ·
     obtain⟨s,hs⟩:∃s:Nat,(s:Int)=e+65536:=⟨(e+65536).toNat,by omega⟩
     have hs6:s+ys[i]?.getD 0+c=xs[i]+65536*1:=by omega
     have hs7:s<65536:=by omega
     refine aF (fun K15 hK15=>aa (aA aB (aA (xR (aZ rfl rfl (aO (by omega) (by omega))) (Vs hs.symm)) (aA aD ?_))));simp only[zz];refine aC (hK15 _ _ ?_);refine aa (aA aD ?_);simp only[zz];refine aC (hK13 _ _ ?_);refine aa (aA aB (aA aB ?_));simp only[zz];refine cN bM (z:=.int .i64 0) (by kernel_rfl) rfl (by simp only[zz];rfl) (by rfl) ?_;intro w1 g1 hE hg1 hB1;have hG1:=ak hX.size hg1
     (try replace hS:=hS.ext hE);(try replace hR:=hR.ext hE);(try replace hS5:=hS5.ext hE);(try replace hO5:=hO5.ext hE);replace hX:=hX.trans hE
     clear hE hg1;simp only[zz];refine iJ rfl bM iF rfl (by decide) rfl hO5 rfl (news:=_) rfl hB1.row0 (by simp[bf]) (by omega) (by omega) hS5.h ?_;clear hO5;intro v5 w2 hO5 hGr _
     (try replace hS:=hS.grew hGr (by first | trivial | omega));(try replace hR:=hR.grew hGr (by first | trivial | omega));(try replace hS5:=hS5.grew hGr (by first | trivial | omega));replace hX:=hX.grown hGr hb5l
     clear hGr;replace hO5:=hO5.snoc;simp only[zz];refine aA aD ?_;simp only[zz];refine aC (hK8 _ _ ?_);refine aa (aA aB (aA (aZ rfl rfl (aO (by omega) (by omega))) (aA aD ?_)));simp only[zz];refine aC ?_;obtain⟨r1,r2⟩:=rP (by omega) hlo hv hd hs6 hs7;rw[show ((i:Int)+1)=((i+1:Nat):Int) by omega];simp only[ac,af];refine⟨xs.length-(i+1),_,?_,rfl,?_,?_⟩
     · omega
     · simp only[zz,zv]
     ·
      simp only[zQ,zR,zD,zE];exact⟨i+1,1,os++[s],v5,rfl,hX,hS,hR,hS5,hO5,by simp;omega,r1,r2,by omega,by omega,rfl⟩
    ·
     obtain⟨s,hs⟩:∃s:Nat,(s:Int)=e:=⟨e.toNat,by omega⟩
     rw[←hs];have hs6:s+ys[i]?.getD 0+c=xs[i]+65536*0:=by omega
     have hs7:s<65536:=by omega
     refine ar ?_;refine hK13 _ _ (aa (aA aB (aA aB ?_)));simp only[zz];refine cN bM (z:=.int .i64 0) (by kernel_rfl) rfl (by simp only[zz];rfl) (by rfl) ?_;intro w1 g1 hE hg1 hB1;have hG1:=ak hX.size hg1
     (try replace hS:=hS.ext hE);(try replace hR:=hR.ext hE);(try replace hS5:=hS5.ext hE);(try replace hO5:=hO5.ext hE);replace hX:=hX.trans hE
     clear hE hg1;simp only[zz];refine iJ rfl bM iF rfl (by decide) rfl hO5 rfl (news:=_) rfl hB1.row0 (by simp[bf]) (by omega) (by omega) hS5.h ?_;clear hO5;intro v5 w2 hO5 hGr _
     (try replace hS:=hS.grew hGr (by first | trivial | omega));(try replace hR:=hR.grew hGr (by first | trivial | omega));(try replace hS5:=hS5.grew hGr (by first | trivial | omega));replace hX:=hX.grown hGr hb5l
     clear hGr;replace hO5:=hO5.snoc;simp only[zz];refine aA aD ?_;simp only[zz];refine aC (hK8 _ _ ?_);refine aa (aA aB (aA (aZ rfl rfl (aO (by omega) (by omega))) (aA aD ?_)));simp only[zz];refine aC ?_;obtain⟨r1,r2⟩:=rP (by omega) hlo hv hd hs6 hs7;rw[show ((i:Int)+1)=((i+1:Nat):Int) by omega];simp only[ac,af];refine⟨xs.length-(i+1),_,?_,rfl,?_,?_⟩
     · omega
     · simp only[zz,zv]
     ·
      simp only[zQ,zR,zD,zE];exact⟨i+1,0,os++[s],v5,rfl,hX,hS,hR,hS5,hO5,by simp;omega,r1,r2,by omega,by omega,rfl⟩
   ·
    obtain⟨e,he⟩:∃e:Int,e=(xs[i]:Int)-(c:Int):=⟨_,rfl⟩
    rw[←he];have he2:e=(xs[i]:Int)-(c:Int)-((ys[i]?.getD 0:Nat):Int):=by rw[bj (by omega)];simp only[io];omega
    refine ar ?_;refine hK10 _ _ (aF (fun K16 hK16=>aa (aA aD ?_)));simp only[zz];refine aC (hK16 _ _ ?_);refine aF (fun K17 hK17=>aF (fun K18 hK18=>aa (aA aB (aA (dZ rfl rfl) ?_))));simp only[zz];refine aC (hK18 _ _ ?_);refine cW rfl (fun hc3=>?_) (fun hc3=>?_)
    ·
     obtain⟨s,hs⟩:∃s:Nat,(s:Int)=e+65536:=⟨(e+65536).toNat,by omega⟩
     have hs6:s+ys[i]?.getD 0+c=xs[i]+65536*1:=by omega
     have hs7:s<65536:=by omega
     refine aF (fun K19 hK19=>aa (aA aB (aA (xR (aZ rfl rfl (aO (by omega) (by omega))) (Vs hs.symm)) (aA aD ?_))));simp only[zz];refine aC (hK19 _ _ ?_);refine aa (aA aD ?_);simp only[zz];refine aC (hK17 _ _ ?_);refine aa (aA aB (aA aB ?_));simp only[zz];refine cN bM (z:=.int .i64 0) (by kernel_rfl) rfl (by simp only[zz];rfl) (by rfl) ?_;intro w1 g1 hE hg1 hB1;have hG1:=ak hX.size hg1
     (try replace hS:=hS.ext hE);(try replace hR:=hR.ext hE);(try replace hS5:=hS5.ext hE);(try replace hO5:=hO5.ext hE);replace hX:=hX.trans hE
     clear hE hg1;simp only[zz];refine iJ rfl bM iF rfl (by decide) rfl hO5 rfl (news:=_) rfl hB1.row0 (by simp[bf]) (by omega) (by omega) hS5.h ?_;clear hO5;intro v5 w2 hO5 hGr _
     (try replace hS:=hS.grew hGr (by first | trivial | omega));(try replace hR:=hR.grew hGr (by first | trivial | omega));(try replace hS5:=hS5.grew hGr (by first | trivial | omega));replace hX:=hX.grown hGr hb5l
     clear hGr;replace hO5:=hO5.snoc;simp only[zz];refine aA aD ?_;simp only[zz];refine aC (hK8 _ _ ?_);refine aa (aA aB (aA (aZ rfl rfl (aO (by omega) (by omega))) (aA aD ?_)));simp only[zz];refine aC ?_;obtain⟨r1,r2⟩:=rP (by omega) hlo hv hd hs6 hs7;rw[show ((i:Int)+1)=((i+1:Nat):Int) by omega];simp only[ac,af];refine⟨xs.length-(i+1),_,?_,rfl,?_,?_⟩
     · omega
     · simp only[zz,zv]
     ·
      simp only[zQ,zR,zD,zE];exact⟨i+1,1,os++[s],v5,rfl,hX,hS,hR,hS5,hO5,by simp;omega,r1,r2,by omega,by omega,rfl⟩
    ·
     obtain⟨s,hs⟩:∃s:Nat,(s:Int)=e:=⟨e.toNat,by omega⟩
     rw[←hs];have hs6:s+ys[i]?.getD 0+c=xs[i]+65536*0:=by omega
     have hs7:s<65536:=by omega
     refine ar ?_;refine hK17 _ _ (aa (aA aB (aA aB ?_)));simp only[zz];refine cN bM (z:=.int .i64 0) (by kernel_rfl) rfl (by simp only[zz];rfl) (by rfl) ?_;intro w1 g1 hE hg1 hB1;have hG1:=ak hX.size hg1
     (try replace hS:=hS.ext hE);(try replace hR:=hR.ext hE);(try replace hS5:=hS5.ext hE);(try replace hO5:=hO5.ext hE);replace hX:=hX.trans hE
     clear hE hg1;simp only[zz];refine iJ rfl bM iF rfl (by decide) rfl hO5 rfl (news:=_) rfl hB1.row0 (by simp[bf]) (by omega) (by omega) hS5.h ?_;clear hO5;intro v5 w2 hO5 hGr _
     (try replace hS:=hS.grew hGr (by first | trivial | omega));(try replace hR:=hR.grew hGr (by first | trivial | omega));(try replace hS5:=hS5.grew hGr (by first | trivial | omega));replace hX:=hX.grown hGr hb5l
     clear hGr;replace hO5:=hO5.snoc;simp only[zz];refine aA aD ?_;simp only[zz];refine aC (hK8 _ _ ?_);refine aa (aA aB (aA (aZ rfl rfl (aO (by omega) (by omega))) (aA aD ?_)));simp only[zz];refine aC ?_;obtain⟨r1,r2⟩:=rP (by omega) hlo hv hd hs6 hs7;rw[show ((i:Int)+1)=((i+1:Nat):Int) by omega];simp only[ac,af];refine⟨xs.length-(i+1),_,?_,rfl,?_,?_⟩
     · omega
     · simp only[zz,zv]
     ·
      simp only[zQ,zR,zD,zE];exact⟨i+1,0,os++[s],v5,rfl,hX,hS,hR,hS5,hO5,by simp;omega,r1,r2,by omega,by omega,rfl⟩
  ·
   refine bw ?_;refine hK4 _ _ (aF (fun K20 hK20=>?_));obtain rfl:i=xs.length:=by omega
   obtain⟨A5,c5,rfl,hD,hbn⟩:=dP.of_owns hO5 rfl hd (by omega);refine aa (aA aB ?_);simp only[zz];refine bT rfl rfl (Am _ hD) ?_;rintro v w1 hE rfl
   (try replace hD:=hD.ext hE);replace hX:=hX.trans hE
   clear hE;simp only[zz];refine aA aD ?_;simp only[zz];refine aC (hK20 _ _ ?_);refine bc ?_;try simp only[ac,af]
   refine bY rfl rfl ?_;try simp only[zD,zE]
   exact⟨_,rfl,hX,nT.of_trim hD (Tr hle hlo hd hv hge),fun a n c e=>by cases e;exact ak hb5l (hbn _ rfl)⟩
theorem Rk{A B:Option Addr}{xs ys:List Nat}{na nb ca cb:Nat}(w:aw)(hS:dP w w.heap.size A na ca xs)(hR:dP w w.heap.size B nb cb ys)(hlx:xs.length≤1000000000000)(hly:ys.length≤1000000000000):gZ prog 88 [.slice A na ca,.slice B nb cb] w (fun v w'=>nT (val 65536 xs*val 65536 ys) v w'∧qT w v):=by
 skip
 refine⟨afo,?_⟩;have hX:=dU.refl w;obtain rfl:=hS.eq;obtain rfl:=hR.eq
 go_enter func88,ntmps88
 refine aF (fun K1 hK1=>aa (aA aD ?_));simp only[zz];refine aC (hK1 _ _ ?_);refine aF (fun K2 hK2=>aa (aA aB (aA (bR rfl bM rfl) (aA aB ?_))));simp only[zz];refine aA (bR rfl bM rfl) (aA (aZ rfl rfl (aO (by omega) (by omega))) ?_);simp only[zz];refine lU bM iF rfl rfl rfl (show _=xs.length+ys.length by omega) (show _=xs.length+ys.length by omega) (by omega) (by omega) (by omega) (by omega) ?_;intro w1 g1 hE hg1 hB1;have hG1:=ak hX.size hg1
 (try replace hS:=hS.ext hE);(try replace hR:=hR.ext hE);replace hX:=hX.trans hE
 clear hE hg1;simp only[zz];refine aA aD ?_;simp only[zz];refine aC ?_;rw[wM] at hB1;refine hK2 _ _ (aF (fun K3 hK3=>aF (fun K4 hK4=>aa (aA aD ?_))));simp only[zz];refine aC (hK4 _ _ ?_);refine av (dI [6] [7,8,9,16,17,18,19,20,21,22,23,24,25,26,27,28,29,30,31,32,33,34,35,36,37,38,39,40,41,42,43,44,45,46,47,48,49,50,51,52,53,54,55,56,57,58,59,60,61] (fun n vs wl=>∃(i:Nat) (os:List Nat),vs=[.int .i64 (i:Int)]∧(dU w wl)∧(dP wl w.heap.size A xs.length ca xs)∧(dP wl w.heap.size B ys.length cb ys)∧(gG wl g1 (os.map rJ) 3)∧(i≤xs.length)∧(os.length=xs.length+ys.length)∧(val 65536 os=val 65536 (xs.take i)*val 65536 ys)∧(os.drop (i+ys.length)=bk (xs.length-i) 0)∧(dR 65536 os)∧(n=xs.length-i)) ?_ ?_)
 ·
  apply Exists.intro;simp only[zQ,zR,zD,zE];exact⟨0,bk (xs.length+ys.length) 0,rfl,hX,hS,hR,hB1,by omega,by simp,by rw[gT,h_];simp only[val,Nat.zero_mul],by rw[List.drop_replicate];congr 1;omega,fun x hx=>by rw[di hx];decide,rfl⟩
 ·
  intro n vs wr hI u;obtain⟨i,os,rfl,hX,hS,hR,hB1,hi,hlo,hv,hz,hd,hn⟩:=hI;simp only[zu,zF,zG];refine aF (fun K5 hK5=>aF (fun K6 hK6=>aa (aA aB (aA aB (aA (bR rfl bM rfl) ?_)))));simp only[zz];refine aA (dZ rfl rfl) ?_;simp only[zz];refine aC (hK6 _ _ ?_);refine cW rfl (fun hc1=>?_) (fun hc1=>?_)
  ·
   refine ar ?_;refine hK5 _ _ (aF (fun K7 hK7=>av (aF (fun K8 hK8=>aa (aA aD ?_)))));simp only[zz];refine aC (hK8 _ _ ?_);refine aF (fun K9 hK9=>aF (fun K10 hK10=>aa (aA aD ?_)));simp only[zz];refine aC (hK10 _ _ ?_);refine av (dI [7,8] [9,22,23,24,25,26,27,28,29,30,31,32,33,34,35,36,37,38,39,40,41,42,43,44,45,46,47,48,49,50,51,52,53,54] (fun n vs wl=>∃(k c:Nat) (os:List Nat),vs=[.int .i64 (c:Int),.int .i64 (k:Int)]∧(dU w wl)∧(dP wl w.heap.size A xs.length ca xs)∧(dP wl w.heap.size B ys.length cb ys)∧(gG wl g1 (os.map rJ) 3)∧(k≤ys.length)∧(os.length=xs.length+ys.length)∧(val 65536 os+65536^(i+k)*c=val 65536 (xs.take i)*val 65536 ys+65536^i*(xs[i]*val 65536 (ys.take k)))∧(os.drop (i+ys.length)=bk (xs.length-i) 0)∧(dR 65536 os)∧(c<65536)∧(n=ys.length-k)) ?_ ?_)
   ·
    apply Exists.intro;simp only[zQ,zR,zD,zE];exact⟨0,0,os,rfl,hX,hS,hR,hB1,by omega,hlo,by rw[h_,hv];simp only[val,fk],hz,hd,by omega,rfl⟩
   ·
    intro n vs wr hI u;obtain⟨k,c,os,rfl,hX,hS,hR,hB1,hk,hlo,hv2,hz,hd,hc,hn2⟩:=hI;simp only[zu,zF,zG];refine aF (fun K11 hK11=>aF (fun K12 hK12=>aa (aA aB (aA aB (aA (bR rfl bM rfl) ?_)))));simp only[zz];refine aA (dZ rfl rfl) ?_;simp only[zz];refine aC (hK12 _ _ ?_);refine cW rfl (fun hc2=>?_) (fun hc2=>?_)
    ·
     refine ar ?_;refine hK11 _ _ (aF (fun K13 hK13=>av (aF (fun K14 hK14=>?_))));obtain⟨a,rfl,hca,hla⟩:=hS.get (show i<xs.length by omega);obtain⟨a2,rfl,hcb,hlb⟩:=hR.get (show k<ys.length by omega);have hco:=hB1.digit (show i+k<os.length by omega);have hlo2:=hd.get (ao (show i+k<os.length by omega));obtain⟨hm0,hm1⟩:=Tt hla hlb;refine iH aP (by kernel_rfl) (aQ aB (aQ aB (aQ aB ?_)));simp only[zz];refine aQ (aZ rfl rfl (aO (by omega) (by omega))) (aQ (aS bM aM rfl rfl (by omega) (by omega) (fS (show _=i+k by omega))) ?_);simp only[zz];refine iA rfl (fun _ hE'=>(lies1 (hE'.cell hco) aV)) ?_;simp only[zz];refine aQ aB (aQ aB (aQ (aS bM aM rfl rfl (by omega) (by omega) (fH (an _))) ?_));simp only[zz];refine iA rfl (fun _ hE'=>(lies1 (hE'.cell hca) aV)) ?_;simp only[zz];refine aQ aB (aQ aB (aQ (aS bM aM rfl rfl (by omega) (by omega) (fH (an _))) ?_));simp only[zz];refine iA rfl (fun _ hE'=>(lies1 (hE'.cell hcb) aV)) ?_;simp only[zz];refine aQ (fC rfl rfl (aO (by omega) (by omega))) (aQ (aZ rfl rfl (aO (by omega) (by omega))) (aQ aB ?_));simp only[zz];refine aQ (aZ rfl rfl (aO (by omega) (by omega))) (aQ aD ?_);simp only[zz];refine eD ?_;intro w2 hE;replace hB1:=hB1.ext hE;(try replace hS:=hS.ext hE);(try replace hR:=hR.ext hE);replace hX:=hX.trans hE;clear hE;obtain⟨s,hs⟩:∃s,s=os[i+k]+xs[i]*ys[k]+c:=⟨_,rfl⟩
     have hsI:(↑os[i+k]+↑xs[i]*↑ys[k]+↑c:Int)=(s:Int):=by rw[hs];simp
     rw[hsI];have hs64:s<4294967296:=by have:=Mj hla hlb;omega
     refine hK14 _ _ ?_;refine aF (fun K15 hK15=>aa (aA aB (aA aB (aA aB ?_))));simp only[zz];refine aA (aZ rfl rfl (aO (by omega) (by omega))) (aA aB (aA (fL rfl rfl (by omega) (lW (n:=65536))) ?_));simp only[zz];refine aA (aS bM aM rfl rfl (by omega) (by omega) (fS (show _=i+k by omega))) ?_;simp only[zz];refine cE rfl (by simp only[zz];rfl) (by exact aM) hB1 (by simp;omega) (by simp[bf]) ?_;clear hB1;intro w3 hC hB1
     (try replace hS:=hS.chg hC (by first | assumption | rfl));(try replace hR:=hR.chg hC (by first | assumption | rfl));replace hX:=hX.chg hC hG1
     clear hC;rw[pZ (by omega)] at hB1;refine aC (hK15 _ _ ?_);refine aa (aA aB (aA (jA rfl rfl (by omega) (mP (n:=65536) (by omega))) (aA aD ?_)));simp only[zz];refine aC (hK13 _ _ ?_);refine aa (aA aB (aA (aZ rfl rfl (aO (by omega) (by omega))) (aA aD ?_)));simp only[zz];refine aC ?_;have r1:=Mi (by omega) (by omega) hlo hv2 hs;rw[show ((k:Int)+1)=((k+1:Nat):Int) by omega];simp only[ac,af];refine⟨ys.length-(k+1),_,?_,rfl,?_,?_⟩
     · omega
     · simp only[zz,zv]
     ·
      simp only[zQ,zR,zD,zE];exact⟨k+1,s / 65536,os.set (i+k) (s%65536),rfl,hX,hS,hR,hB1,by omega,by simpa using hlo,r1,by rw[nE (by omega)];exact hz,hd.set (by omega),by omega,rfl⟩
    ·
     refine bw ?_;refine hK9 _ _ ?_;obtain rfl:k=ys.length:=by omega
     refine aa (aA aB (aA aB (aA aB ?_)));simp only[zz];refine aA (bR rfl bM rfl) (aA (aZ rfl rfl (aO (by omega) (by omega))) (aA aB ?_));simp only[zz];refine aA (aS bM aM rfl rfl (by omega) (by omega) (fS (show _=i+ys.length by omega))) ?_;simp only[zz];refine cE rfl (by simp only[zz];rfl) (by exact aM) hB1 (by simp;omega) (by simp[bf]) ?_;clear hB1;intro w2 hC hB1
     (try replace hS:=hS.chg hC (by first | assumption | rfl));(try replace hR:=hR.chg hC (by first | assumption | rfl));replace hX:=hX.chg hC hG1
     clear hC;rw[pZ (by omega)] at hB1;refine aC (hK7 _ _ ?_);refine aa (aA aB (aA (aZ rfl rfl (aO (by omega) (by omega))) (aA aD ?_)));simp only[zz];refine aC ?_;obtain⟨r1,r2⟩:=Ts (by omega) hlo hv2 hz;rw[show ((i:Int)+1)=((i+1:Nat):Int) by omega];simp only[ac,af];refine⟨xs.length-(i+1),_,?_,rfl,?_,?_⟩
     · omega
     · simp only[zz,zv]
     ·
      simp only[zQ,zR,zD,zE];exact⟨i+1,os.set (i+ys.length) c,rfl,hX,hS,hR,hB1,by omega,by simpa using hlo,r1,r2,hd.set (by omega),rfl⟩
  ·
   refine bw ?_;refine hK3 _ _ (aF (fun K16 hK16=>?_));obtain rfl:i=xs.length:=by omega
   refine aa (aA aB ?_);simp only[zz];rw[←hlo];refine bT rfl rfl (Am _ (dP.of_blk hB1 hd rfl (by omega))) ?_;rintro v w2 hE rfl;replace hB1:=hB1.ext hE;replace hX:=hX.trans hE;clear hE;simp only[zz];refine aA aD ?_;simp only[zz];refine aC (hK16 _ _ ?_);refine bc ?_;try simp only[ac,af]
   refine bY rfl rfl ?_;try simp only[zD,zE]
   exact⟨_,rfl,hX,nT.of_trim (dP.of_blk hB1 hd rfl (by omega)) (by rw[hv,c_]),fun a n c e=>by cases e;exact hG1⟩
theorem aaJ{A:Option Addr}{xs:List Nat}{na ca d:Nat}(w:aw)(hS:dP w w.heap.size A na ca xs)(hlx:xs.length≤1000000000000)(hd:d<65536):gZ prog 157 [.slice A na ca,.int .i64 (d:Int)] w (fun v w'=>nT (val 65536 xs*d) v w'∧qT w v):=by
 skip
 refine⟨ac0,?_⟩;have hX:=dU.refl w;obtain rfl:=hS.eq
 go_enter func157,ntmps157
 refine aF (fun K1 hK1=>aa (aA aD ?_));simp only[zz];refine aC (hK1 _ _ ?_);refine aF (fun K2 hK2=>aa (aA aB (aA aB ?_)));simp only[zz];refine cN bM (z:=.int .i64 0) (by kernel_rfl) rfl (by simp only[zz];rfl) (by rfl) ?_;intro w1 g1 hE hg1 hB1;have hG1:=ak hX.size hg1;replace hX:=hX.trans hE;clear hE hg1;simp only[zz];have hsz:=hX.size;refine bT rfl rfl (Rk _ (hS.ext hX).here (dP.of_blk (os:=[d]) hB1 (oH hd (lE _)) rfl (by simp)) hlx (by simp)) ?_;rintro v w2 hE ⟨hD,hnw⟩;replace hX:=hX.trans hE;clear hE;simp only[zz];refine aA aD ?_;simp only[zz];refine aC (hK2 _ _ ?_);refine bc ?_;try simp only[ac,af]
 refine bY rfl rfl ?_;try simp only[zD,zE]
 exact⟨_,rfl,hX,by simpa[val] using hD,fun a n c e=>ak hsz (hnw a n c e)⟩
end Go.Proofs.YtimjandkmfcmiaaGreatDoor
namespace Go.Proofs.YtimjandkmfcmiaaGreatDoor
open Go.Proofs.Tryz
open Go.RowKit Go.Lith
set_option maxRecDepth 100000
attribute [local irreducible] bh ck eY Code.wp
theorem Xi{A B:Option Addr}{xs ys:List Nat}{na nb ca cb:Nat}(w:aw)(hS:dP w w.heap.size A na ca xs)(hR:dP w w.heap.size B nb cb ys)(ty:gN ys)(h0:0<val 65536 ys)(hlx:xs.length≤1000000000000)(hly:ys.length≤100000000000):gZ prog 142 [.slice A na ca,.slice B nb cb] w (fun v w'=>∃q r,v=.tuple #[q,r]∧nT (val 65536 xs / val 65536 ys) q w'∧nT (val 65536 xs%val 65536 ys) r w'):=by
 skip
 refine⟨acT,?_⟩;have hX:=dU.refl w;obtain rfl:=hS.eq;obtain rfl:=hR.eq;obtain⟨Y,hY⟩:∃Y,Y=val 65536 ys:=⟨_,rfl⟩
 rw[←hY] at h0 ⊢;have hYl:∀V:Nat,V<Y→(digs 65536 V).length≤ys.length:=fun V h=>fG (by omega) (Nat.lt_trans h (by rw[hY];exact jY hR.digs));have hYb:∀V:Nat,V<65536*Y→(digs 65536 V).length≤ys.length+1:=fun V h=>fG (by omega) (ai h (by rw[hY,el,dw];exact ei _ (jk (jY hR.digs))))
 go_enter func142,ntmps142
 refine aF (fun K1 hK1=>aa (aA aD (aA aD ?_)));simp only[zz];refine aC (hK1 _ _ ?_);refine aF (fun K2 hK2=>aa (aA aB (aA (bR rfl bM rfl) ?_)));simp only[zz];refine lU bM iF rfl rfl rfl (show _=xs.length by omega) (show _=xs.length by omega) (by omega) (by omega) (by omega) (by omega) ?_;intro w1 g1 hE hg1 hB1;have hG1:=ak hX.size hg1
 (try replace hS:=hS.ext hE);(try replace hR:=hR.ext hE);replace hX:=hX.trans hE
 clear hE;simp only[zz];refine aA aD ?_;simp only[zz];refine aC ?_;rw[wM] at hB1;refine hK2 _ _ (aF (fun K3 hK3=>aa (aA aD ?_)));simp only[zz];refine aC (hK3 _ _ ?_);refine aF (fun K4 hK4=>aF (fun K5 hK5=>aa (aA aB (aA (bR rfl bM rfl) (aA (eH rfl rfl (aO (by omega) (by omega))) ?_)))));simp only[zz];refine aA aD ?_;simp only[zz];refine aC (hK5 _ _ ?_);refine av (dI [7,8] [9,10,11,18,19,20,21,22,23,24,25,26,27,28,29,30,31,32,33,34,35,36,37,38,39,40,41,42,43,44,45,46,47,48,49,50,51,52,53,54,55,56,57,58] (fun n vs wl=>∃(k R:Nat) (qs:List Nat) (A7:Option Addr) (c7:Nat),vs=[.slice A7 (digs 65536 R).length c7,.int .i64 ((k:Int)-1)]∧(dU w wl)∧(dP wl w.heap.size A xs.length ca xs)∧(dP wl w.heap.size B ys.length cb ys)∧(gG wl g1 (qs.map rJ) 3)∧(yH wl g1 A7 (digs 65536 R).length c7 (digs 65536 R))∧(k≤xs.length)∧(qs.length=xs.length)∧(val 65536 (xs.drop k)=Y*val 65536 (qs.drop k)+R)∧(R<Y)∧(dR 65536 qs)∧(n=k)) ?_ ?_)
 ·
  apply Exists.intro;simp only[zQ,zR,zD,zE];exact⟨xs.length,0,bk xs.length 0,none,0,rfl,hX,hS,hR,hB1,⟨dP.nil _ _,fun _ e=>by cases e⟩,bi _,by simp,by rw[fh,List.drop_of_length_le (by simp)];rfl,h0,fun x hx=>by rw[di hx];decide,rfl⟩
 ·
  intro n vs wr hI u;obtain⟨k,R,qs,A7,c7,rfl,hX,hS,hR,hB1,hN7,hk,hlq,hv,hRY,hd,hn⟩:=hI;simp only[zu,zF,zG];refine aF (fun K6 hK6=>aF (fun K7 hK7=>aa (aA aB (aA (lD rfl rfl) ?_))));simp only[zz];refine aC (hK7 _ _ ?_);refine cW rfl (fun hc1=>?_) (fun hc1=>?_)
  ·
   refine ar ?_;refine hK6 _ _ (aF (fun K8 hK8=>av (aF (fun K9 hK9=>?_))));obtain⟨a,rfl,hca,hla⟩:=hS.get (show k-1<xs.length by omega);have hlR:=hYl R hRY;refine aa (aA aB (aA aB (aA (aS bM aM rfl rfl (by omega) (by omega) (fH (show _=k-1 by omega))) ?_)));simp only[zz];refine aI rfl (lies1 hca aV) ?_;simp only[zz];refine cN bM (z:=.int .i64 0) (by kernel_rfl) rfl (by simp only[zz];rfl) (by rfl) ?_;intro w2 g2 hE hg2 hB2;have hG2:=ak hX.size hg2;have hN2_1:g2≠g1:=au (ai hB1.lt hg2);have hL2_1:=ai hB1.lt hg2;replace hB1:=hB1.ext hE;(try replace hS:=hS.ext hE);(try replace hR:=hR.ext hE);(try replace hN7:=hN7.ext hE);(try replace hN7:=hN7.ext hE);replace hX:=hX.trans hE;clear hE;simp only[zz];refine aA aB ?_;simp only[zz];have hO6:=kR.full (base:=g2) (n:=1) hB2 (bi _) rfl (by omega);refine Tq rfl bM iF rfl (by decide) rfl hO6 rfl (news:=(digs 65536 R).map rJ) (by simp) hN7.dig.rows (fun u hu=>by obtain⟨x,_,rfl⟩:=List.mem_map.1 hu;rfl) (by omega) (by omega) (jk hB2.lt) ?_;intro v6 w9 hO hGr _;replace hB1:=hB1.grew hGr hL2_1;replace hX:=hX.grown hGr hG2;replace hS:=hS.grew hGr hG2;replace hR:=hR.grew hGr hG2;clear hB2 hO6;obtain⟨A6,c6,rfl,hD6,hn6⟩:=dP.of_owns (xs:=xs[k-1]::digs 65536 R) (by simpa[Nat.add_comm] using hO) (by simp;omega) (oH hla (rO _)) (by omega);simp only[zz];refine bT rfl rfl (Am _ hD6) ?_;rintro v w3 hE rfl;replace hB1:=hB1.ext hE;(try replace hS:=hS.ext hE);(try replace hR:=hR.ext hE);(try replace hN7:=hN7.ext hE);(try replace hN7:=hN7.ext hE);(try replace hD6:=hD6.ext hE);replace hX:=hX.trans hE;clear hE;simp only[zz];refine aA aD ?_;simp only[zz];refine aC (hK9 _ _ ?_);refine aF (fun K10 hK10=>?_);obtain⟨R1,hR1⟩:∃R1,R1=xs[k-1]+65536*R:=⟨_,rfl⟩
   have ht6:trim (xs[k-1]::digs 65536 R)=digs 65536 R1:=lA (by omega) hD6.digs (by simp only[val];rw[dD];exact hR1.symm);rw[ht6];have hN7:=yH.of_trim (g:=g1) hD6 ht6 (fun a e=>by have:=hn6 a e;omega);clear hD6;have hR1Y:R1<65536*Y:=by have:=df 65536 (show R+1≤Y from hRY);omega
   have hlR1:=hYb R1 hR1Y;refine aa (aA aD ?_);simp only[zz];refine aC (hK10 _ _ ?_);refine aF (fun K11 hK11=>aa (aA aD ?_));simp only[zz];refine aC (hK11 _ _ ?_);refine aF (fun K12 hK12=>aF (fun K13 hK13=>aa (aA aB (aA aB ?_))));simp only[zz];refine bT rfl rfl (vY _ hN7.dig hR (iL _) ty) ?_;rintro v w4 hE rfl;replace hB1:=hB1.ext hE;(try replace hS:=hS.ext hE);(try replace hR:=hR.ext hE);(try replace hN7:=hN7.ext hE);(try replace hN7:=hN7.ext hE);(try replace hN7:=hN7.ext hE);replace hX:=hX.trans hE;clear hE;rw[dD,←hY];simp only[zz];refine aA (dZ rfl rfl) ?_;simp only[zz];refine aC (hK13 _ _ ?_);refine cW rfl (fun hc2=>?_) (fun hc2=>?_)
   ·
    have hlt2:=qV.1 hc2;refine aa (aA aD ?_);simp only[zz];refine aC (hK12 _ _ ?_);refine aF (fun K14 hK14=>av ?_);refine dI [9,10] [11,34,35,36,37,38,39,40,41,42,43,44,45,46,47,48,49] (fun n vs wl=>∃(low high:Nat),vs=[.int .i64 (low:Int),.int .i64 (high:Int)]∧(dU w wl)∧(dP wl w.heap.size (some a) xs.length ca xs)∧(dP wl w.heap.size B ys.length cb ys)∧(gG wl g1 (qs.map rJ) 3)∧(yH wl g1 A6 (digs 65536 R1).length c6 (digs 65536 R1))∧(low*Y≤R1)∧(R1<high*Y)∧(low<high)∧(high≤65536)∧(n=high-low)) ?_ ?_
    ·
     apply Exists.intro;simp only[zQ,zR,zD,zE];exact⟨0,1,rfl,hX,hS,hR,hB1,hN7,by simp,by rw[Nat.one_mul];exact hlt2,by omega,by omega,rfl⟩
    ·
     intro n vs wr hI u;obtain⟨low,high,rfl,hX,hS,hR,hB1,hN7,hlow,hhigh,hl1,hl2,hn2⟩:=hI;simp only[zu,zF,zG];refine aF (fun K15 hK15=>aF (fun K16 hK16=>aa (aA aB (aA aB (aA (eH rfl rfl (aO (by omega) (by omega))) ?_)))));simp only[zz];refine aA (gW rfl rfl) ?_;simp only[zz];refine aC (hK16 _ _ ?_);refine cW rfl (fun hc3=>?_) (fun hc3=>?_)
     ·
      have hm1:low<(low+high) / 2:=by omega
      have hm2:(low+high) / 2<high:=by omega
      refine ar ?_;refine hK15 _ _ (av (aF (fun K17 hK17=>aa (aA aB (aA aB (aA (aZ rfl rfl (aO (by omega) (by omega))) ?_))))));simp only[zz];rw[show ((low:Int)+(high:Int))=((low+high:Nat):Int) by omega];refine aA (jA rfl rfl (by omega) (mP (m:=low+high) (n:=2) (by omega))) (aA aD ?_);simp only[zz];refine aC (hK17 _ _ ?_);refine aF (fun K18 hK18=>aa (aA aB (aA aB ?_)));simp only[zz];refine bT rfl rfl (aaJ _ hR.here (ak hly (by decide)) (by omega)) ?_;rintro v w5 hE ⟨⟨A8,c8,rfl,hD8⟩,_⟩;replace hB1:=hB1.ext hE;(try replace hS:=hS.ext hE);(try replace hR:=hR.ext hE);(try replace hN7:=hN7.ext hE);(try replace hN7:=hN7.ext hE);(try replace hN7:=hN7.ext hE);replace hX:=hX.trans hE;clear hE;rw[←hY] at hD8 ⊢;simp only[zz];refine aA aB ?_;simp only[zz];refine bT rfl rfl (vY _ hD8 hN7.dig (iL _) (iL _)) ?_;rintro v w6 hE rfl;replace hB1:=hB1.ext hE;(try replace hS:=hS.ext hE);(try replace hR:=hR.ext hE);(try replace hN7:=hN7.ext hE);(try replace hN7:=hN7.ext hE);(try replace hN7:=hN7.ext hE);replace hX:=hX.trans hE;clear hE;rw[dD,dD];simp only[zz];refine aA (Bm rfl rfl) ?_;simp only[zz];refine aC (hK18 _ _ ?_);refine cW rfl (fun hc4=>?_) (fun hc4=>?_)
      ·
       have hle4:Y*((low+high) / 2)≤R1:=tZ.1 hc4;refine aa (aA aB (aA aD ?_));simp only[zz];refine aC ?_;simp only[ac,af];refine⟨high-(low+high) / 2,_,?_,rfl,?_,?_⟩
       · omega
       · simp only[zz,zv]
       ·
        simp only[zQ,zR,zD,zE];exact⟨(low+high) / 2,high,rfl,hX,hS,hR,hB1,hN7,by rw[dw];exact hle4,hhigh,hm2,hl2,rfl⟩
      ·
       have hle4:R1<Y*((low+high) / 2):=ma fun h=>hc4 (tZ.2 h);refine aa (aA aB (aA aD ?_));simp only[zz];refine aC ?_;simp only[ac,af];refine⟨(low+high) / 2-low,_,?_,rfl,?_,?_⟩
       · omega
       · simp only[zz,zv]
       ·
        simp only[zQ,zR,zD,zE];exact⟨low,(low+high) / 2,rfl,hX,hS,hR,hB1,hN7,hlow,by rw[dw];exact hle4,hm1,by omega,rfl⟩
     ·
      refine bw ?_;refine hK14 _ _ (aF (fun K19 hK19=>aa (aA aB (aA aB (aA aB ?_)))));simp only[zz];refine aA (aS bM aM rfl rfl (by omega) (by omega) (fS (show _=k-1 by omega))) ?_;simp only[zz];refine cE rfl (by simp only[zz];rfl) (by exact aM) hB1 (by simp;omega) (by simp[bf]) ?_;clear hB1;intro w5 hC hB1
      (try replace hS:=hS.chg hC (by first | assumption | rfl));(try replace hR:=hR.chg hC (by first | assumption | rfl));(try replace hN7:=hN7.chg hC (by first | assumption | rfl));(try replace hN7:=hN7.chg hC (by first | assumption | rfl));(try replace hN7:=hN7.chg hC (by first | assumption | rfl));replace hX:=hX.chg hC hG1
      clear hC;rw[pZ (by omega)] at hB1;refine aC (hK19 _ _ ?_);refine aa (aA aB (aA aB (aA aB ?_)));simp only[zz];have hlt1:=hB1.lt;refine bT rfl rfl (aaJ _ hR.here (ak hly (by decide)) (by omega)) ?_;rintro v w6 hE ⟨⟨A8,c8,rfl,hD8⟩,_⟩;replace hB1:=hB1.ext hE;(try replace hS:=hS.ext hE);(try replace hR:=hR.ext hE);(try replace hN7:=hN7.ext hE);(try replace hN7:=hN7.ext hE);(try replace hN7:=hN7.ext hE);replace hX:=hX.trans hE;clear hE;rw[←hY] at hD8 ⊢;simp only[zz];have hlt2:=hB1.lt;have hlb2:=sV (show Y*low≤R1 by rw[dw];exact hlow);refine bT rfl rfl (Cs _ hN7.dig hD8 hlb2 (by rw[dD,dD,dw];exact hlow) (by omega)) ?_;rintro v w7 hE ⟨⟨A9,c9,rfl,hD9⟩,hn9⟩;replace hB1:=hB1.ext hE;(try replace hS:=hS.ext hE);(try replace hR:=hR.ext hE);replace hX:=hX.trans hE;clear hE;rw[dD,dD] at hD9 ⊢;have hN9:=yH.mk (g:=g1) hD9 (fun a e=>by subst e;have:=hn9 a _ _ rfl;have:=hB1.lt;omega);simp only[zz];refine aA aD ?_;simp only[zz];refine aC (hK8 _ _ ?_);refine aa (aA aB (aA (eH rfl rfl (aO (by omega) (by omega))) (aA aD ?_)));simp only[zz];refine aC ?_;obtain⟨r1,r2⟩:=Dx (by omega) hk hlq hv hR1 hlow hd (by omega);rw[show ((k:Int)-1-1)=((k-1:Nat):Int)-1 by omega];simp only[ac,af];refine⟨k-1,_,?_,rfl,?_,?_⟩
      · omega
      · simp only[zz,zv]
      ·
       simp only[zQ,zR,zD,zE];exact⟨k-1,R1-Y*low,qs.set (k-1) low,A9,c9,rfl,hX,hS,hR,hB1,hN9,by omega,by simpa using hlq,r1,Hi h0 hhigh hc3,r2,rfl⟩
   ·
    refine ar ?_;refine hK12 _ _ (aF (fun K20 hK20=>av ?_));refine dI [9,10] [11,34,35,36,37,38,39,40,41,42,43,44,45,46,47,48,49] (fun n vs wl=>∃(low high:Nat),vs=[.int .i64 (low:Int),.int .i64 (high:Int)]∧(dU w wl)∧(dP wl w.heap.size (some a) xs.length ca xs)∧(dP wl w.heap.size B ys.length cb ys)∧(gG wl g1 (qs.map rJ) 3)∧(yH wl g1 A6 (digs 65536 R1).length c6 (digs 65536 R1))∧(low*Y≤R1)∧(R1<high*Y)∧(low<high)∧(high≤65536)∧(n=high-low)) ?_ ?_
    ·
     apply Exists.intro;simp only[zQ,zR,zD,zE];exact⟨0,65536,rfl,hX,hS,hR,hB1,hN7,by simp,hR1Y,by omega,by omega,rfl⟩
    ·
     intro n vs wr hI u;obtain⟨low,high,rfl,hX,hS,hR,hB1,hN7,hlow,hhigh,hl1,hl2,hn2⟩:=hI;simp only[zu,zF,zG];refine aF (fun K21 hK21=>aF (fun K22 hK22=>aa (aA aB (aA aB (aA (eH rfl rfl (aO (by omega) (by omega))) ?_)))));simp only[zz];refine aA (gW rfl rfl) ?_;simp only[zz];refine aC (hK22 _ _ ?_);refine cW rfl (fun hc3=>?_) (fun hc3=>?_)
     ·
      have hm1:low<(low+high) / 2:=by omega
      have hm2:(low+high) / 2<high:=by omega
      refine ar ?_;refine hK21 _ _ (av (aF (fun K23 hK23=>aa (aA aB (aA aB (aA (aZ rfl rfl (aO (by omega) (by omega))) ?_))))));simp only[zz];rw[show ((low:Int)+(high:Int))=((low+high:Nat):Int) by omega];refine aA (jA rfl rfl (by omega) (mP (m:=low+high) (n:=2) (by omega))) (aA aD ?_);simp only[zz];refine aC (hK23 _ _ ?_);refine aF (fun K24 hK24=>aa (aA aB (aA aB ?_)));simp only[zz];refine bT rfl rfl (aaJ _ hR.here (ak hly (by decide)) (by omega)) ?_;rintro v w5 hE ⟨⟨A8,c8,rfl,hD8⟩,_⟩;replace hB1:=hB1.ext hE;(try replace hS:=hS.ext hE);(try replace hR:=hR.ext hE);(try replace hN7:=hN7.ext hE);(try replace hN7:=hN7.ext hE);(try replace hN7:=hN7.ext hE);replace hX:=hX.trans hE;clear hE;rw[←hY] at hD8 ⊢;simp only[zz];refine aA aB ?_;simp only[zz];refine bT rfl rfl (vY _ hD8 hN7.dig (iL _) (iL _)) ?_;rintro v w6 hE rfl;replace hB1:=hB1.ext hE;(try replace hS:=hS.ext hE);(try replace hR:=hR.ext hE);(try replace hN7:=hN7.ext hE);(try replace hN7:=hN7.ext hE);(try replace hN7:=hN7.ext hE);replace hX:=hX.trans hE;clear hE;rw[dD,dD];simp only[zz];refine aA (Bm rfl rfl) ?_;simp only[zz];refine aC (hK24 _ _ ?_);refine cW rfl (fun hc4=>?_) (fun hc4=>?_)
      ·
       have hle4:Y*((low+high) / 2)≤R1:=tZ.1 hc4;refine aa (aA aB (aA aD ?_));simp only[zz];refine aC ?_;simp only[ac,af];refine⟨high-(low+high) / 2,_,?_,rfl,?_,?_⟩
       · omega
       · simp only[zz,zv]
       ·
        simp only[zQ,zR,zD,zE];exact⟨(low+high) / 2,high,rfl,hX,hS,hR,hB1,hN7,by rw[dw];exact hle4,hhigh,hm2,hl2,rfl⟩
      ·
       have hle4:R1<Y*((low+high) / 2):=ma fun h=>hc4 (tZ.2 h);refine aa (aA aB (aA aD ?_));simp only[zz];refine aC ?_;simp only[ac,af];refine⟨(low+high) / 2-low,_,?_,rfl,?_,?_⟩
       · omega
       · simp only[zz,zv]
       ·
        simp only[zQ,zR,zD,zE];exact⟨low,(low+high) / 2,rfl,hX,hS,hR,hB1,hN7,hlow,by rw[dw];exact hle4,hm1,by omega,rfl⟩
     ·
      refine bw ?_;refine hK20 _ _ (aF (fun K25 hK25=>aa (aA aB (aA aB (aA aB ?_)))));simp only[zz];refine aA (aS bM aM rfl rfl (by omega) (by omega) (fS (show _=k-1 by omega))) ?_;simp only[zz];refine cE rfl (by simp only[zz];rfl) (by exact aM) hB1 (by simp;omega) (by simp[bf]) ?_;clear hB1;intro w5 hC hB1
      (try replace hS:=hS.chg hC (by first | assumption | rfl));(try replace hR:=hR.chg hC (by first | assumption | rfl));(try replace hN7:=hN7.chg hC (by first | assumption | rfl));(try replace hN7:=hN7.chg hC (by first | assumption | rfl));(try replace hN7:=hN7.chg hC (by first | assumption | rfl));replace hX:=hX.chg hC hG1
      clear hC;rw[pZ (by omega)] at hB1;refine aC (hK25 _ _ ?_);refine aa (aA aB (aA aB (aA aB ?_)));simp only[zz];have hlt1:=hB1.lt;refine bT rfl rfl (aaJ _ hR.here (ak hly (by decide)) (by omega)) ?_;rintro v w6 hE ⟨⟨A8,c8,rfl,hD8⟩,_⟩;replace hB1:=hB1.ext hE;(try replace hS:=hS.ext hE);(try replace hR:=hR.ext hE);(try replace hN7:=hN7.ext hE);(try replace hN7:=hN7.ext hE);(try replace hN7:=hN7.ext hE);replace hX:=hX.trans hE;clear hE;rw[←hY] at hD8 ⊢;simp only[zz];have hlt2:=hB1.lt;have hlb2:=sV (show Y*low≤R1 by rw[dw];exact hlow);refine bT rfl rfl (Cs _ hN7.dig hD8 hlb2 (by rw[dD,dD,dw];exact hlow) (by omega)) ?_;rintro v w7 hE ⟨⟨A9,c9,rfl,hD9⟩,hn9⟩;replace hB1:=hB1.ext hE;(try replace hS:=hS.ext hE);(try replace hR:=hR.ext hE);replace hX:=hX.trans hE;clear hE;rw[dD,dD] at hD9 ⊢;have hN9:=yH.mk (g:=g1) hD9 (fun a e=>by subst e;have:=hn9 a _ _ rfl;have:=hB1.lt;omega);simp only[zz];refine aA aD ?_;simp only[zz];refine aC (hK8 _ _ ?_);refine aa (aA aB (aA (eH rfl rfl (aO (by omega) (by omega))) (aA aD ?_)));simp only[zz];refine aC ?_;obtain⟨r1,r2⟩:=Dx (by omega) hk hlq hv hR1 hlow hd (by omega);rw[show ((k:Int)-1-1)=((k-1:Nat):Int)-1 by omega];simp only[ac,af];refine⟨k-1,_,?_,rfl,?_,?_⟩
      · omega
      · simp only[zz,zv]
      ·
       simp only[zQ,zR,zD,zE];exact⟨k-1,R1-Y*low,qs.set (k-1) low,A9,c9,rfl,hX,hS,hR,hB1,hN9,by omega,by simpa using hlq,r1,Hi h0 hhigh hc3,r2,rfl⟩
  ·
   refine bw ?_;refine hK4 _ _ (aF (fun K26 hK26=>aa (aA aB ?_)));simp only[zz];refine bT rfl rfl (Am _ (dP.of_blk hB1 hd hlq.symm (by omega))) ?_;rintro v w2 hE rfl;replace hB1:=hB1.ext hE;(try replace hN7:=hN7.ext hE);replace hX:=hX.trans hE;clear hE;simp only[zz];refine aA aB (aA aD (aA aD ?_));simp only[zz];refine aC (hK26 _ _ ?_);refine bc ?_;try simp only[ac,af]
   refine kD rfl rfl rfl ?_;try simp only[zD,zE]
   (obtain rfl:k=0:=by omega);(rw[fg,fg] at hv);(have hq:=wX h0 hRY hv);exact⟨_,rfl,hX,_,_,rfl,by rw[←hq.1];exact nT.of_trim (dP.of_blk hB1 hd hlq.symm (by omega)) rfl,by rw[←hq.2];exact⟨A7,c7,rfl,hN7.dig⟩⟩
end Go.Proofs.YtimjandkmfcmiaaGreatDoor
namespace Go.Lith
open Go.RowKit
theorem adp(k:Nat):(65536:Nat)^k=256^(2*k):=by rw[show (65536:Nat)=256^2 from rfl,←Nat.pow_mul]
theorem yI{os bs:List Nat}{k d:Nat}(hl:os.length=k)(hv:val 65536 os=val 256 (bs.take (2*k)))(h:2*k<bs.length)(hd:d=bs[2*k]+256*(bs[2*k+1]?.getD 0))(hb:dR 256 bs)(ho:dR 65536 os) :
 val 65536 (os++[d])=val 256 (bs.take (2*(k+1)))∧dR 65536 (os++[d]):=by
 have h1:=hb _ (dl h);have h2:bs[2*k+1]?.getD 0<256:=by
  rcases cn (2*k+1) bs.length with h | h
  · rw[ao h];exact hb _ (dl h)
  · rw[bj h];decide
 refine⟨?_,ho.append (oH (by omega) (lE _))⟩;have ht:val 256 (bs.take (2*k+1+1))=val 256 (bs.take (2*k+1))+256^(2*k+1)*bs[2*k+1]?.getD 0:=by
  rcases cn (2*k+1) bs.length with h | h
  · rw[dK h,ao h];rfl
  · rw[bp (by omega),bp h,bj h];simp
 rw[show 2*(k+1)=2*k+1+1 by omega,ht,dK h,fV,hl,hv,adp,el];simp only[val,fk,fx];subst hd;generalize 256^(2*k)=p
 grind
def Rl(x:Nat):List UInt8:=[cv (x / 256),cv x]
theorem Dy(ys:List Nat)(h:dR 65536 ys):val 256 (((ys.reverse.flatMap Rl).reverse).map ib)=val 65536 ys∧dR 256 (((ys.reverse.flatMap Rl).reverse).map ib):=by
 induction ys with
 | nil=>exact⟨rfl,fun _ h=>by cases h⟩
 | cons y ys ih =>
  have hy:=h y (by simp);obtain⟨i1,i2⟩:=ih (fun x hx=>h x (by simp[hx]));have e:(((y::ys).reverse.flatMap Rl).reverse).map ib=[y%256,y / 256%256]++(((ys.reverse.flatMap Rl).reverse).map ib):=by
   simp[cr,Rl,fz]
  rw[e];refine⟨?_,?_⟩
  · rw[fV,i1]
    simp only[val,List.length_cons,List.length_nil];omega
  · refine dR.append ?_ i2
    intro x hx;simp at hx;omega
theorem Ml{ys:List Nat}(h:dR 65536 ys)(neg:Bool):mA (jH (ys.reverse.flatMap Rl))=dQ (Dr neg (val 65536 ys)):=by
 obtain⟨h1,h2⟩:=Dy ys h;rw[Br,lA (by omega) h2 h1,dQ,xA,tV];rfl
def mJ(ys:List Nat)(k:Nat):List UInt8:=jH ((ys.drop k).reverse.flatMap Rl)
theorem Ju{l m:List UInt8}(h:jH l≠[]):jH (l++m)=jH l++m:=by
 induction l with
 | nil=>exact absurd rfl h
 | cons b l ih =>
  by_cases hb:b=0
  · subst hb
    have e:jH (0::l)=jH l:=by simp[jH]
    have e2:jH ((0::l)++m)=jH (l++m):=by simp[jH]
    rw[e] at h;rw[e,e2,ih h]
  · simp[jH,hb]
theorem Ph{ys:List Nat}{k:Nat}(hk:0<k)(hl:k-1<ys.length)(h:mJ ys k≠[]):mJ ys (k-1)=mJ ys k++[cv (ys[k-1] / 256)]++[cv (ys[k-1]%256)]∧mJ ys (k-1)≠[]:=by
 have e:mJ ys (k-1)=mJ ys k++[cv (ys[k-1] / 256)]++[cv (ys[k-1]%256)]:=by
  unfold mJ at *
  rw[dc hl,show k-1+1=k by omega,List.reverse_cons,cr,Ju h];have:cv (ys[k-1]%256)=cv (ys[k-1]):=by
   apply km.1;simp[fz]
  rw[this];simp[Rl]
 exact⟨e,by rw[e];simp⟩
theorem Mm{ys:List Nat}(hl:ys.length-1<ys.length)(h0:0<ys[ys.length-1])(h16:ys[ys.length-1]<65536) :
 mJ ys (ys.length-1)=(if 256≤ys[ys.length-1] then [cv (ys[ys.length-1] / 256)] else [])++[cv (ys[ys.length-1]%256)]∧mJ ys (ys.length-1)≠[]:=by
 have e:mJ ys (ys.length-1)=jH (Rl (ys[ys.length-1])):=by
  unfold mJ;rw[dc hl,show ys.length-1+1=ys.length by omega,fh];simp
 generalize ys[ys.length-1]=x at *
 have hm:cv (x%256)=cv x:=by
  apply km.1;simp[fz]
 have ez:∀y:Nat,y<256→(cv y=0↔y=0):=fun y hy=>by
  rw[←km];simp only[fz,UInt8.toNat_zero];rw[gy (by omega)]
 have e2:jH (Rl x)=(if 256≤x then [cv (x / 256)] else [])++[cv (x%256)]:=by
  split
  · rename_i h
    have hn:¬cv (x / 256)=0:=fun e=>by have:=(ez _ (by omega)).1 e;omega
    rw[hm];simp[jH,Rl,hn]
  · rename_i h
    have hz:cv (x / 256)=0:=(ez _ (by omega)).2 (by omega);have hn:¬cv x=0:=fun e=>by have:=(ez _ (by omega)).1 e;omega
    rw[hm];simp[jH,Rl,hz,hn]
 exact⟨e.trans e2,by rw[e,e2];simp⟩
theorem Hj(ys:List Nat):mJ ys ys.length=[]:=by unfold mJ;rw[fh];rfl
theorem Pi{ys:List Nat}(h:dR 65536 ys)(neg:Bool):mA (mJ ys 0)=dQ (Dr neg (val 65536 ys)):=by
 unfold mJ;rw[fg];exact Ml h neg
theorem Tu(ys:List Nat)(k:Nat):(mJ ys k).length≤2*ys.length:=by
 have h1:∀l:List UInt8,(jH l).length≤l.length:=fun l=>by
  induction l with
  | nil=>simp[jH]
  | cons b l ih =>
   unfold jH at *
   rw[List.dropWhile_cons];split
   · simp;omega
   · simp
 have h2:∀l:List Nat,(l.flatMap Rl).length=2*l.length:=fun l=>by
  induction l with
  | nil=>rfl
  | cons x l ih=>rw[List.flatMap_cons,bg,ih];simp[Rl];omega
 refine ak (h1 _) ?_;rw[h2];simp;omega
theorem kR.snoc8{w:aw}{b:Nat}{E:be}{v:aj}{os:List UInt8}{x:Nat}(h:kR w b E 1 v (os.length+1) (os.map u8v++[.int .u8 (x:Int)]))(hx:x<256):kR w b E 1 v (os++[cv x]).length ((os++[cv x]).map u8v):=by
 have:u8v (cv x)=.int .u8 (x:Int):=by simp only[u8v,fz,Value.int.injEq,true_and];rw[gy (by omega)]
 rw[List.map_append,List.map_singleton,this,bg];exact h
theorem uZ{x:Nat}(h:x<256):IntKind.u8.wrap (x:Int)=(x:Int):=pY (by omega) (by omega)
theorem Dz{os:List Nat}{m V:Nat}(hv:val 65536 os+65536^os.length*m=V)(hd:dR 65536 os)(h2:m<2^(64-os.length))(h3:os.length≤64)(h0:0<m) :
 val 65536 (os++[m%65536])+65536^(os++[m%65536]).length*(m / 65536)=V∧dR 65536 (os++[m%65536])∧m / 65536<2^(64-(os++[m%65536]).length)∧(os++[m%65536]).length≤64:=by
 have hl:os.length<64:=by
  rcases cn os.length 64 with h | h
  · exact h
  · rw[show 64-os.length=0 by omega] at h2;omega
 refine⟨?_,hd.append (oH (ft _ (by omega)) (lE _)),?_,by simp;omega⟩
 · rw[fV,bg,jq,el]
   simp only[val,fk,fx];have e:m=m%65536+65536*(m / 65536):=by omega
   generalize m / 65536=q at *
   generalize m%65536=r at *
   generalize 65536^os.length=p at *
   subst e
   grind
 · rw[bg,jq]
   have e:2^(64-os.length)=2*2^(64-(os.length+1)):=by rw[←Nat.pow_succ'];congr 1;omega
   rw[e] at h2;omega
end Go.Lith
namespace Go.Proofs.YtimjandkmfcmiaaGreatDoor
open Go.Proofs.Tryz
open Go.RowKit Go.Lith
set_option maxRecDepth 100000
attribute [local irreducible] bh ck eY Code.wp
theorem lT{neg:Bool}{s:ByteArray}(w:aw)(hs:s.size≤1000000000000):gZ prog 89 [.agg #[.bool neg,.string s]] w (nT (aaH s)):=by
 skip
 refine⟨afp,?_⟩;have hX:=dU.refl w;have hbl:=sA s;have hbd:=Bp s
 go_enter func89,ntmps89
 refine aF (fun K1 hK1=>aa ?_);refine gX (by simp only[zz];rfl) ?_;intro w1 g1 hE hg1 hB1;have hG1:=ak hX.size hg1;replace hX:=hX.trans hE;clear hE hg1;simp only[zz];refine aA aD ?_;simp only[zz];refine aC (hK1 _ _ ?_);refine aF (fun K2 hK2=>aa (aA aD ?_));simp only[zz];obtain⟨b3,hb3e,hb3l⟩:=hX.base;have hS3:=tY.of hX hb3e;have hO3:=kR.nil_of hX b3 3 1;have hl3_1:g1<b3:=by rw[hb3e];exact hB1.lt
 clear hb3e;refine aC (hK2 _ _ ?_);refine aF (fun K3 hK3=>aa (aA (aG (c:=0) iK rfl rK rfl rfl) ?_));simp only[zz];refine aI rfl (hB1.lies1 xU rfl) ?_;simp only[zz];refine aA (qP rfl nJ rfl) (aA aD ?_);simp only[zz];refine aC (hK3 _ _ ?_);refine aF (fun K4 hK4=>aF (fun K5 hK5=>aa (aA aB (aA aD ?_))));simp only[zz];refine aC (hK5 _ _ ?_);refine av (dI [3,5] [6,11,12,13,14,15,16,17,18,19,20,21,22,23,24,25,26,27,28,29,30,31,32,33,34,35] (fun n vs wl=>∃(k:Nat) (os:List Nat) (v3:aj),vs=[v3,.int .i64 ((s.size:Int)-2*(k:Int))]∧(dU w wl)∧(gG wl g1 [.bool neg,.string s] 35)∧(tY wl b3)∧(kR wl b3 3 1 v3 os.length (os.map rJ))∧(os.length=k)∧(val 65536 os=val 256 ((mX s).take (2*k)))∧(dR 65536 os)∧(2*k≤s.size+1)∧(n=s.size-2*k)) ?_ ?_)
 ·
  rw[show ((s.size:Int))=(s.size:Int)-2*((0:Nat):Int) by omega];apply Exists.intro;simp only[zQ,zR,zD,zE];exact⟨0,[],_,rfl,hX,hB1,hS3,hO3,rfl,by simp[val],lE _,by omega,rfl⟩
 ·
  intro n vs wr hI u;obtain⟨k,os,v3,rfl,hX,hB1,hS3,hO3,hlo,hv,hd,hk,hn⟩:=hI;simp only[zu,zF,zG];refine aF (fun K6 hK6=>aF (fun K7 hK7=>aa (aA aB (aA (gW rfl rfl) ?_))));simp only[zz];refine aC (hK7 _ _ ?_);refine cW rfl (fun hc1=>?_) (fun hc1=>?_)
  ·
   refine ar ?_;refine hK6 _ _ (aF (fun K8 hK8=>av (aF (fun K9 hK9=>?_))));obtain⟨y1,hb1,hp1,hy1⟩:=wY (show 2*k+1+(s.size-2*k-1)=s.size by omega);have hy1l:y1.toNat<256:=y1.toNat_lt;refine aa (aA (aG (c:=0) iK rfl rK rfl rfl) ?_);simp only[zz];refine aI rfl (hB1.lies1 xU rfl) ?_;simp only[zz];refine aA aB (aA (eH rfl rfl (aO (by omega) (by omega))) ?_);simp only[zz];refine aA ((mT nJ rfl rfl (by omega) (by rw[show ((s.size:Int)-2*(k:Int)-1).toNat=s.size-2*k-1 by omega];exact hb1))) ?_;simp only[zz];refine aA (eT jR nL rfl (aO (by omega) (by omega))) (aA aD ?_);simp only[zz];refine aC (hK9 _ _ ?_);refine aF (fun K10 hK10=>aF (fun K11 hK11=>aa (aA aB (aA (gW rfl rfl) ?_))));simp only[zz];refine aC (hK11 _ _ ?_);refine cW rfl (fun hc2=>?_) (fun hc2=>?_)
   ·
    obtain⟨y2,hb2,hp2,hy2⟩:=wY (show 2*k+1+1+(s.size-2*k-2)=s.size by omega);have hy2l:y2.toNat<256:=y2.toNat_lt;refine aa (aA aB (aA (aG (c:=0) iK rfl rK rfl rfl) ?_));simp only[zz];refine aI rfl (hB1.lies1 xU rfl) ?_;simp only[zz];refine aA aB (aA (eH rfl rfl (aO (by omega) (by omega))) ?_);simp only[zz];refine aA ((mT nJ rfl rfl (by omega) (by rw[show ((s.size:Int)-2*(k:Int)-2).toNat=s.size-2*k-2 by omega];exact hb2))) ?_;simp only[zz];refine aA (eT jR nL rfl (aO (by omega) (by omega))) (aA (fC rfl rfl (aO (by omega) (by omega))) (aA (aZ rfl rfl (aO (by omega) (by omega))) ?_));simp only[zz];refine aA aD ?_;simp only[zz];refine aC ?_;obtain⟨d,hd1⟩:∃d:Nat,d=y1.toNat+256*y2.toNat:=⟨_,rfl⟩
    rw[show ((y1.toNat:Int)+256*(y2.toNat:Int))=(d:Int) by omega];have hd2:d=(mX s)[2*k]+256*((mX s)[2*k+1]?.getD 0):=by rw[ao hp2,hy1];simp only[dt];rw[hy2];exact hd1
    refine hK10 _ _ ?_;refine aa (aA aB (aA aB ?_));simp only[zz];refine cN bM (z:=.int .i64 0) (by kernel_rfl) rfl (by simp only[zz];rfl) (by rfl) ?_;intro w2 g2 hE hg2 hB2;have hG2:=ak hX.size hg2;have hN2_1:g2≠g1:=au (ai hB1.lt hg2);replace hB1:=hB1.ext hE;(try replace hS3:=hS3.ext hE);(try replace hO3:=hO3.ext hE);replace hX:=hX.trans hE;clear hE hg2;simp only[zz];refine iJ rfl bM iF rfl (by decide) rfl hO3 rfl (news:=_) rfl hB2.row0 (by simp[bf]) (by omega) (by omega) hS3.h ?_;clear hO3;intro v3 w3 hO3 hGr _;replace hB1:=hB1.grew hGr hl3_1;(try replace hS3:=hS3.grew hGr (by first | trivial | omega));replace hX:=hX.grown hGr hb3l;clear hGr;replace hO3:=hO3.snoc;simp only[zz];refine aA aD ?_;simp only[zz];refine aC (hK8 _ _ ?_);refine aa (aA aB (aA (eH rfl rfl (aO (by omega) (by omega))) (aA aD ?_)));simp only[zz];refine aC ?_;obtain⟨r1,r2⟩:=yI hlo hv (by omega) hd2 hbd hd;rw[show ((s.size:Int)-2*(k:Int)-2)=(s.size:Int)-2*((k+1:Nat):Int) by omega];simp only[ac,af];refine⟨s.size-2*(k+1),_,?_,rfl,?_,?_⟩
    · omega
    · simp only[zz,zv]
    ·
     simp only[zQ,zR,zD,zE];exact⟨k+1,os++[d],v3,rfl,hX,hB1,hS3,hO3,by simp;omega,r1,r2,by omega,rfl⟩
   ·
    obtain⟨d,hd1⟩:∃d:Nat,d=y1.toNat:=⟨_,rfl⟩
    rw[←hd1];have hd2:d=(mX s)[2*k]+256*((mX s)[2*k+1]?.getD 0):=by rw[bj (by omega),hy1];simp only[io];omega
    refine ar ?_;refine hK10 _ _ (aa (aA aB (aA aB ?_)));simp only[zz];refine cN bM (z:=.int .i64 0) (by kernel_rfl) rfl (by simp only[zz];rfl) (by rfl) ?_;intro w2 g2 hE hg2 hB2;have hG2:=ak hX.size hg2;have hN2_1:g2≠g1:=au (ai hB1.lt hg2);replace hB1:=hB1.ext hE;(try replace hS3:=hS3.ext hE);(try replace hO3:=hO3.ext hE);replace hX:=hX.trans hE;clear hE hg2;simp only[zz];refine iJ rfl bM iF rfl (by decide) rfl hO3 rfl (news:=_) rfl hB2.row0 (by simp[bf]) (by omega) (by omega) hS3.h ?_;clear hO3;intro v3 w3 hO3 hGr _;replace hB1:=hB1.grew hGr hl3_1;(try replace hS3:=hS3.grew hGr (by first | trivial | omega));replace hX:=hX.grown hGr hb3l;clear hGr;replace hO3:=hO3.snoc;simp only[zz];refine aA aD ?_;simp only[zz];refine aC (hK8 _ _ ?_);refine aa (aA aB (aA (eH rfl rfl (aO (by omega) (by omega))) (aA aD ?_)));simp only[zz];refine aC ?_;obtain⟨r1,r2⟩:=yI hlo hv (by omega) hd2 hbd hd;rw[show ((s.size:Int)-2*(k:Int)-2)=(s.size:Int)-2*((k+1:Nat):Int) by omega];simp only[ac,af];refine⟨s.size-2*(k+1),_,?_,rfl,?_,?_⟩
    · omega
    · simp only[zz,zv]
    ·
     simp only[zQ,zR,zD,zE];exact⟨k+1,os++[d],v3,rfl,hX,hB1,hS3,hO3,by simp;omega,r1,r2,by omega,rfl⟩
  ·
   refine bw ?_;refine hK4 _ _ (aF (fun K12 hK12=>?_));obtain⟨A3,c3,rfl,hD,_⟩:=dP.of_owns hO3 rfl hd (by omega);refine aa (aA aB ?_);simp only[zz];refine bT rfl rfl (Am _ hD) ?_;rintro v w2 hE rfl
   (try replace hD:=hD.ext hE);replace hX:=hX.trans hE
   clear hE;simp only[zz];refine aA aD ?_;simp only[zz];refine aC (hK12 _ _ ?_);refine bc ?_;try simp only[ac,af]
   refine bY rfl rfl ?_;try simp only[zD,zE]
   exact⟨_,rfl,hX,nT.of_trim hD (by rw[hv,bp (by omega)];rfl)⟩
theorem oQ{A:Option Addr}{xs:List Nat}{b na cap:Nat}{neg:Bool}(w:aw)(hS:dP w b A na cap xs)(hl:xs.length≤100000000000):gZ prog 60 [.bool neg,.slice A na cap] w (fun v _=>v=W (Dr neg (val 65536 xs))):=by
 skip
 refine⟨aeY,?_⟩;have hX:=dU.refl w;obtain rfl:=hS.eq;have hlt:=qU xs;have hT:dP w w.heap.size A (trim xs).length cap (trim xs):=by
  have h:=(hS.take (trim xs).length).here;rwa [←iX] at h
 have htr:=tT xs;have hvx:=sP 65536 xs;obtain⟨ys,hys⟩:∃ys,ys=trim xs:=⟨_,rfl⟩
 rw[←hys] at hT htr hlt hvx;have hyd:=hT.digs;have h2l:=Tu ys
 go_enter func60,ntmps60
 refine aF (fun K1 hK1=>aa ?_);refine eK cL rfl ?_;intro w1 g1 hE hg1 hB1;have hG1:=ak hX.size hg1
 (try replace hT:=hT.ext hE);replace hX:=hX.trans hE
 clear hE hg1;simp only[zz];refine aC (hK1 _ _ ?_);refine aF (fun K2 hK2=>aa (aA aB ?_));simp only[zz];refine bT rfl rfl (Am _ (hS.ext hX)) ?_;rintro v w2 hE rfl;replace hB1:=hB1.ext hE;(try replace hT:=hT.ext hE);replace hX:=hX.trans hE;clear hE;rw[←hys];clear hys;simp only[zz];refine aA aD ?_;simp only[zz];refine aC (hK2 _ _ ?_);refine aF (fun K3 hK3=>aF (fun K4 hK4=>?_));by_cases hy0:ys=[]
 ·
  subst hy0;refine aa (aA aB (aA (bR rfl bM rfl) (aA (pL rfl rfl (by rfl)) ?_)));simp only[zz];refine aC (hK4 _ _ ?_);refine bX rfl (aF (fun K5 hK5=>aa (aA Bn ?_)));simp only[zz];refine cE rfl (by simp only[zz];rfl) (by exact aH) hB1 (by simp) (by simp[bf]) ?_;clear hB1;intro w3 hC hB1;replace hX:=hX.chg hC hG1;clear hC;simp only[zy,zx,aW,ab] at hB1;refine aC (hK5 _ _ ?_);refine bc ?_;try simp only[ac,af]
  refine bY rfl ⟨_,rfl,(hB1.lies aT aH rfl rfl)⟩ ?_;try simp only[zD,zE]
  exact⟨_,rfl,hX,by rw[←hvx];cases neg <;> rfl⟩
 ·
  have hyl:0<ys.length:=List.length_pos_iff.2 hy0;have htop:=uX htr hyl;refine aa (aA aB (aA (bR rfl bM rfl) (aA (mU rfl rfl (by omega)) ?_)));simp only[zz];refine aC (hK4 _ _ ?_);refine eZ rfl (ar ?_);refine hK3 _ _ (aF (fun K6 hK6=>aa (aA aD ?_)));simp only[zz];obtain⟨b5,hb5e,hb5l⟩:=hX.base;have hS5:=tY.of hX hb5e;have hO5:=kR.nil_of hX b5 5 1;have hl5_1:g1<b5:=by rw[hb5e];exact hB1.lt
  clear hb5e;refine aC (hK6 _ _ ?_);refine aF (fun K7 hK7=>aF (fun K8 hK8=>aa (aA aB (aA (bR rfl bM rfl) (aA (eH rfl rfl (aO (by omega) (by omega))) ?_)))));simp only[zz];refine aA aD ?_;simp only[zz];refine aC (hK8 _ _ ?_);refine av (dI [5,6] [16,17,18,19,20,21,22,23,24,25,26,27,28,29,30,31,32,33,34,35,36,37,38,39,40,41,42,43,44,45,46,47,48,49] (fun n vs wl=>∃(k:Nat) (os:List UInt8) (v5:aj),vs=[v5,.int .i64 ((k:Int)-1)]∧(dU w wl)∧(gG wl g1 [.bool false,.string ⟨#[]⟩] 35)∧(dP wl w.heap.size A ys.length cap ys)∧(tY wl b5)∧(kR wl b5 5 1 v5 os.length (os.map u8v))∧(os=mJ ys k)∧(k≤ys.length)∧(k<ys.length→mJ ys k≠[])∧(os.length≤2*ys.length)∧(n=k)) ?_ ?_)
  ·
   apply Exists.intro;simp only[zQ,zR,zD,zE];exact⟨ys.length,[],_,rfl,hX,hB1,hT,hS5,hO5,(Hj ys).symm,by omega,fun h=>absurd h (by omega),by simp,rfl⟩
  ·
   intro n vs wr hI u;obtain⟨k,os,v5,rfl,hX,hB1,hT,hS5,hO5,hos,hk,hne,hosl,hn⟩:=hI;simp only[zu,zF,zG];refine aF (fun K9 hK9=>aF (fun K10 hK10=>aa (aA aB (aA (lD rfl rfl) ?_))));simp only[zz];refine aC (hK10 _ _ ?_);refine cW rfl (fun hc2=>?_) (fun hc2=>?_)
   ·
    refine ar ?_;refine hK9 _ _ (aF (fun K11 hK11=>av (aF (fun K12 hK12=>aF (fun K13 hK13=>?_)))));obtain⟨a,rfl,hca,hla⟩:=hT.get (show k-1<ys.length by omega);rcases (show k<ys.length∨k=ys.length by omega) with hkl | hkl
    ·
     obtain⟨r1,r2⟩:=Ph (show 0<k by omega) (by omega) (hne hkl);refine aa (aA aB (aA aB (aA (bR rfl bM rfl) ?_)));simp only[zz];refine aA (eH rfl rfl (aO (by omega) (by omega))) (aA (cD rfl rfl (by omega)) (aA aB ?_));simp only[zz];refine bK rfl ?_;simp only[zz];refine bK rfl ?_;simp only[zz];refine bK rfl ?_;simp only[zz];refine bK rfl ?_;simp only[zz];refine bK rfl ?_;simp only[zz];refine aA (cT rfl) ?_;simp only[zz];refine aC (hK13 _ _ ?_);refine bX rfl ?_;have hca:=hT.at (show k-1<ys.length by omega);refine aa (aA aB (aA aB (aA aB ?_)));simp only[zz];refine aA (aS bM aM rfl rfl (by omega) (by omega) (fH (show _=k-1 by omega))) ?_;simp only[zz];refine aI rfl (lies1 hca aV) ?_;simp only[zz];refine aA (jA rfl rfl (by omega) (mP (n:=256) (by omega))) (aA (eT nL jR rfl (uZ (by omega))) ?_);simp only[zz];refine cN mV (z:=.int .u8 0) (by kernel_rfl) rfl (by simp only[zz];rfl) (by rfl) ?_;intro w3 g2 hE hg2 hB2;have hG2:=ak hX.size hg2;have hN2_1:g2≠g1:=au (ai hB1.lt hg2);replace hB1:=hB1.ext hE;(try replace hT:=hT.ext hE);(try replace hS5:=hS5.ext hE);(try replace hO5:=hO5.ext hE);replace hX:=hX.trans hE;clear hE hg2;simp only[zz];refine iJ rfl mV Gr rfl (by decide) rfl hO5 rfl (news:=_) rfl hB2.row0 (by simp[bf]) (by omega) (by omega) hS5.h ?_;clear hO5;intro v5 w4 hO5 hGr _;replace hB1:=hB1.grew hGr hl5_1;(try replace hT:=hT.grew hGr (by first | trivial | omega));(try replace hS5:=hS5.grew hGr (by first | trivial | omega));replace hX:=hX.grown hGr hb5l;clear hGr;replace hO5:=hO5.snoc8 (by omega);simp only[zz];refine aA aD ?_;simp only[zz];refine aC (hK12 _ _ ?_);have hca:=hT.at (show k-1<ys.length by omega);refine aa (aA aB (aA aB (aA aB ?_)));simp only[zz];refine aA (aS bM aM rfl rfl (by omega) (by omega) (fH (show _=k-1 by omega))) ?_;simp only[zz];refine aI rfl (lies1 hca aV) ?_;simp only[zz];refine aA (fL rfl rfl (by omega) (lW (n:=256))) (aA (eT nL jR rfl (uZ (by omega))) ?_);simp only[zz];refine cN mV (z:=.int .u8 0) (by kernel_rfl) rfl (by simp only[zz];rfl) (by rfl) ?_;intro w5 g3 hE hg3 hB3;have hG3:=ak hX.size hg3;have hN3_1:g3≠g1:=au (ai hB1.lt hg3);replace hB1:=hB1.ext hE;(try replace hT:=hT.ext hE);(try replace hS5:=hS5.ext hE);(try replace hO5:=hO5.ext hE);replace hX:=hX.trans hE;clear hE hg3;simp only[zz];refine iJ rfl mV Gr rfl (by decide) rfl hO5 rfl (news:=_) rfl hB3.row0 (by simp[bf]) (by first | omega | (simp;omega)) (by first | omega | (simp;omega)) hS5.h ?_;clear hO5;intro v5 w6 hO5 hGr _;replace hB1:=hB1.grew hGr hl5_1;(try replace hT:=hT.grew hGr (by first | trivial | omega));(try replace hS5:=hS5.grew hGr (by first | trivial | omega));replace hX:=hX.grown hGr hb5l;clear hGr;replace hO5:=hO5.snoc8 (by omega);simp only[zz];refine aA aD ?_;simp only[zz];refine aC (hK11 _ _ ?_);refine aa (aA aB (aA (eH rfl rfl (aO (by omega) (by omega))) (aA aD ?_)));simp only[zz];refine aC ?_;have hos2:os++[cv (ys[k-1] / 256)]++[cv (ys[k-1]%256)]=mJ ys (k-1):=by rw[r1,hos]
     rw[show ((k:Int)-1-1)=((k-1:Nat):Int)-1 by omega];simp only[ac,af];refine⟨k-1,_,?_,rfl,?_,?_⟩
     · omega
     · simp only[zz,zv]
     ·
      simp only[zQ,zR,zD,zE];exact⟨k-1,os++[cv (ys[k-1] / 256)]++[cv (ys[k-1]%256)],v5,rfl,hX,hB1,hT,hS5,hO5,hos2,by omega,fun _=>r2,by rw[hos2];exact h2l _,rfl⟩
    ·
     subst hkl;obtain⟨f1,f2⟩:=Mm (by omega) htop hla;have hos0:os=[]:=by rw[hos];exact Hj ys
     refine aa (aA aB (aA aB (aA (bR rfl bM rfl) ?_)));simp only[zz];refine aA (eH rfl rfl (aO (by omega) (by omega))) (aA (fD rfl rfl (by omega)) (aA aB ?_));simp only[zz];refine aR rfl (aA aB ?_);simp only[zz];refine aR rfl (aA aB ?_);simp only[zz];refine aR rfl (aA (aS bM aM rfl rfl (by omega) (by omega) (fH (show _=ys.length-1 by omega))) ?_);simp only[zz];refine aR rfl (aI rfl (lies1 hca aV) ?_);simp only[zz];refine aR rfl (aA (lD rfl rfl) (aA (cV rfl) ?_));simp only[zz];refine aC (hK13 _ _ ?_);refine cW rfl (fun hc3=>?_) (fun hc3=>?_)
     ·
      have hca:=hT.at (show ys.length-1<ys.length by omega);refine aa (aA aB (aA aB (aA aB ?_)));simp only[zz];refine aA (aS bM aM rfl rfl (by omega) (by omega) (fH (show _=ys.length-1 by omega))) ?_;simp only[zz];refine aI rfl (lies1 hca aV) ?_;simp only[zz];refine aA (jA rfl rfl (by omega) (mP (n:=256) (by omega))) (aA (eT nL jR rfl (uZ (by omega))) ?_);simp only[zz];refine cN mV (z:=.int .u8 0) (by kernel_rfl) rfl (by simp only[zz];rfl) (by rfl) ?_;intro w3 g2 hE hg2 hB2;have hG2:=ak hX.size hg2;have hN2_1:g2≠g1:=au (ai hB1.lt hg2);replace hB1:=hB1.ext hE;(try replace hT:=hT.ext hE);(try replace hS5:=hS5.ext hE);(try replace hO5:=hO5.ext hE);replace hX:=hX.trans hE;clear hE hg2;simp only[zz];refine iJ rfl mV Gr rfl (by decide) rfl hO5 rfl (news:=_) rfl hB2.row0 (by simp[bf]) (by omega) (by omega) hS5.h ?_;clear hO5;intro v5 w4 hO5 hGr _;replace hB1:=hB1.grew hGr hl5_1;(try replace hT:=hT.grew hGr (by first | trivial | omega));(try replace hS5:=hS5.grew hGr (by first | trivial | omega));replace hX:=hX.grown hGr hb5l;clear hGr;replace hO5:=hO5.snoc8 (by omega);simp only[zz];refine aA aD ?_;simp only[zz];refine aC (hK12 _ _ ?_);have hca:=hT.at (show ys.length-1<ys.length by omega);refine aa (aA aB (aA aB (aA aB ?_)));simp only[zz];refine aA (aS bM aM rfl rfl (by omega) (by omega) (fH (show _=ys.length-1 by omega))) ?_;simp only[zz];refine aI rfl (lies1 hca aV) ?_;simp only[zz];refine aA (fL rfl rfl (by omega) (lW (n:=256))) (aA (eT nL jR rfl (uZ (by omega))) ?_);simp only[zz];refine cN mV (z:=.int .u8 0) (by kernel_rfl) rfl (by simp only[zz];rfl) (by rfl) ?_;intro w5 g3 hE hg3 hB3;have hG3:=ak hX.size hg3;have hN3_1:g3≠g1:=au (ai hB1.lt hg3);replace hB1:=hB1.ext hE;(try replace hT:=hT.ext hE);(try replace hS5:=hS5.ext hE);(try replace hO5:=hO5.ext hE);replace hX:=hX.trans hE;clear hE hg3;simp only[zz];refine iJ rfl mV Gr rfl (by decide) rfl hO5 rfl (news:=_) rfl hB3.row0 (by simp[bf]) (by first | omega | (simp;omega)) (by first | omega | (simp;omega)) hS5.h ?_;clear hO5;intro v5 w6 hO5 hGr _;replace hB1:=hB1.grew hGr hl5_1;(try replace hT:=hT.grew hGr (by first | trivial | omega));(try replace hS5:=hS5.grew hGr (by first | trivial | omega));replace hX:=hX.grown hGr hb5l;clear hGr;replace hO5:=hO5.snoc8 (by omega);simp only[zz];refine aA aD ?_;simp only[zz];refine aC (hK11 _ _ ?_);refine aa (aA aB (aA (eH rfl rfl (aO (by omega) (by omega))) (aA aD ?_)));simp only[zz];refine aC ?_;have hos2:os++[cv (ys[ys.length-1] / 256)]++[cv (ys[ys.length-1]%256)]=mJ ys (ys.length-1):=by rw[f1,if_pos (by omega),hos0];rfl
      rw[show ((ys.length:Int)-1-1)=((ys.length-1:Nat):Int)-1 by omega];simp only[ac,af];refine⟨ys.length-1,_,?_,rfl,?_,?_⟩
      · omega
      · simp only[zz,zv]
      ·
       simp only[zQ,zR,zD,zE];exact⟨ys.length-1,os++[cv (ys[ys.length-1] / 256)]++[cv (ys[ys.length-1]%256)],v5,rfl,hX,hB1,hT,hS5,hO5,hos2,by omega,fun _=>f2,by rw[hos2];exact h2l _,rfl⟩
     ·
      refine ar ?_;refine hK12 _ _ ?_;have hca:=hT.at (show ys.length-1<ys.length by omega);refine aa (aA aB (aA aB (aA aB ?_)));simp only[zz];refine aA (aS bM aM rfl rfl (by omega) (by omega) (fH (show _=ys.length-1 by omega))) ?_;simp only[zz];refine aI rfl (lies1 hca aV) ?_;simp only[zz];refine aA (fL rfl rfl (by omega) (lW (n:=256))) (aA (eT nL jR rfl (uZ (by omega))) ?_);simp only[zz];refine cN mV (z:=.int .u8 0) (by kernel_rfl) rfl (by simp only[zz];rfl) (by rfl) ?_;intro w3 g2 hE hg2 hB2;have hG2:=ak hX.size hg2;have hN2_1:g2≠g1:=au (ai hB1.lt hg2);replace hB1:=hB1.ext hE;(try replace hT:=hT.ext hE);(try replace hS5:=hS5.ext hE);(try replace hO5:=hO5.ext hE);replace hX:=hX.trans hE;clear hE hg2;simp only[zz];refine iJ rfl mV Gr rfl (by decide) rfl hO5 rfl (news:=_) rfl hB2.row0 (by simp[bf]) (by first | omega | (simp;omega)) (by first | omega | (simp;omega)) hS5.h ?_;clear hO5;intro v5 w4 hO5 hGr _;replace hB1:=hB1.grew hGr hl5_1;(try replace hT:=hT.grew hGr (by first | trivial | omega));(try replace hS5:=hS5.grew hGr (by first | trivial | omega));replace hX:=hX.grown hGr hb5l;clear hGr;replace hO5:=hO5.snoc8 (by omega);simp only[zz];refine aA aD ?_;simp only[zz];refine aC (hK11 _ _ ?_);refine aa (aA aB (aA (eH rfl rfl (aO (by omega) (by omega))) (aA aD ?_)));simp only[zz];refine aC ?_;have hos2:os++[cv (ys[ys.length-1]%256)]=mJ ys (ys.length-1):=by rw[f1,if_neg (by omega),hos0]
      rw[show ((ys.length:Int)-1-1)=((ys.length-1:Nat):Int)-1 by omega];simp only[ac,af];refine⟨ys.length-1,_,?_,rfl,?_,?_⟩
      · omega
      · simp only[zz,zv]
      ·
       simp only[zQ,zR,zD,zE];exact⟨ys.length-1,os++[cv (ys[ys.length-1]%256)],v5,rfl,hX,hB1,hT,hS5,hO5,hos2,by omega,fun _=>f2,by rw[hos2];exact h2l _,rfl⟩
   ·
    refine bw ?_;refine hK7 _ _ (aF (fun K14 hK14=>aa (aA aB (aA aB ?_))));simp only[zz];refine uT (Dp mV nL nJ rfl hO5) ?_;simp only[zz];refine aA (qR rfl rfl) ?_;simp only[zz];refine cE rfl (by simp only[zz];rfl) (by exact aH) hB1 (by simp) (by simp[bf]) ?_;clear hB1;intro w3 hC hB1;replace hX:=hX.chg hC hG1;clear hC;simp only[zy,zx,aW,ab] at hB1;refine aC (hK14 _ _ ?_);refine bc ?_;try simp only[ac,af]
    refine bY rfl ⟨_,rfl,(hB1.lies aT aH rfl rfl)⟩ ?_;try simp only[zD,zE]
    exact⟨_,rfl,hX,by (obtain rfl:k=0:=by omega);(have hV:val 65536 ys≠0:=au (yE (by omega) htr hy0));rw[hos,Pi hyd neg,←hvx];simp[Lith.W,Jq,hV]⟩
end Go.Proofs.YtimjandkmfcmiaaGreatDoor
namespace Go.Proofs.YtimjandkmfcmiaaGreatDoor
open Go.Proofs.Tryz
open Go.RowKit Go.Lith
set_option maxRecDepth 100000
attribute [local irreducible] bh ck eY Code.wp
theorem Tv{k:Nat}{a b:Int}(ha:Bd k a)(hb:Bd k b):(digs 65536 (a*b).natAbs).length≤k+k:=lF (Bd.mul ha hb)
theorem An{a:Int}:(((digs 65536 a.natAbs).length:Int)=0)↔a=0:=by
 constructor
 ·
  intro h;have h0:digs 65536 a.natAbs=[]:=bz (by omega);have:=(nB (by omega)).1 h0;omega
 · rintro rfl;rfl
theorem mQ{a:Int}(ha:Bd 1000000 a):eB prog 81 [W a] (.int .i64 (dS a)):=by
 intro w;refine⟨afi,?_⟩;have hX:=dU.refl w
 go_enter func81,ntmps81
 refine aF (fun K1 hK1=>aa ?_);refine gX (by simp only[zz];rfl) ?_;intro w1 g1 hE hg1 hB1;have hG1:=ak hX.size hg1;replace hX:=hX.trans hE;clear hE hg1;simp only[zz];refine aA aD ?_;simp only[zz];refine aC (hK1 _ _ ?_);refine aF (fun K2 hK2=>aF (fun K3 hK3=>aa ?_));refine aI rfl (hB1.lies aT aH rfl rfl) ?_;simp only[zz];refine bT rfl rfl (lT _ (fU ha)) ?_;rintro v w2 hE ⟨A1,c1,rfl,hD1⟩;replace hB1:=hB1.ext hE;replace hX:=hX.trans hE;clear hE;rw[fT] at hD1 ⊢;simp only[zz];refine aA (bR rfl bM rfl) (aA (mF rfl rfl) ?_);simp only[zz];refine aC (hK3 _ _ ?_);refine cW rfl (fun hc1=>?_) (fun hc1=>?_)
 ·
  have h0:=An.1 hc1;refine aF (fun K4 hK4=>aa (aA aD ?_));simp only[zz];refine aC (hK4 _ _ ?_);refine bc ?_;try simp only[ac,af]
  refine bY rfl rfl ?_;try simp only[zD,zE]
  exact⟨_,rfl,hX,by rw[h0];rfl⟩
 ·
  refine ar ?_;refine hK2 _ _ (aF (fun K5 hK5=>aF (fun K6 hK6=>aa (aA (aG (c:=0) iK rfl fA rfl rfl) ?_))));simp only[zz];refine aI rfl (hB1.lies1 jP rfl) ?_;simp only[zz];refine aC (hK6 _ _ ?_);refine pK rfl (fun hc2=>?_) (fun hc2=>?_)
  ·
   have hn:=Ak hc2;refine aF (fun K7 hK7=>aa (aA aD ?_));simp only[zz];refine aC (hK7 _ _ ?_);refine bc ?_;try simp only[ac,af]
   refine bY rfl rfl ?_;try simp only[zD,zE]
   exact⟨_,rfl,hX,by rw[nG hn]⟩
  ·
   have hn:=xB hc2;have h0:¬a=0:=fun e=>hc1 (An.2 e);refine ar (hK5 _ _ ?_);refine aF (fun K8 hK8=>aa (aA aD ?_));simp only[zz];refine aC (hK8 _ _ ?_);refine bc ?_;try simp only[ac,af]
   refine bY rfl rfl ?_;try simp only[zD,zE]
   exact⟨_,rfl,hX,by rw[lX (by omega)]⟩
theorem Xj{a:Int}(ha:Bd 1000000 a):eB prog 114 [W a] (W (-a)):=by
 intro w;refine⟨acy,?_⟩;have hX:=dU.refl w;have hla:(digs 65536 a.natAbs).length≤1000000:=lF ha
 go_enter func114,ntmps114
 refine aF (fun K1 hK1=>aa ?_);refine gX (by simp only[zz];rfl) ?_;intro w1 g1 hE hg1 hB1;have hG1:=ak hX.size hg1;replace hX:=hX.trans hE;clear hE hg1;simp only[zz];refine eK cL rfl ?_;intro w2 g2 hE hg2 hB2;have hG2:=ak hX.size hg2;have hN2_1:g2≠g1:=au (ai hB1.lt hg2);replace hB1:=hB1.ext hE;replace hX:=hX.trans hE;clear hE hg2;simp only[zz];refine aC (hK1 _ _ ?_);refine aF (fun K2 hK2=>?_);refine eF [(0,true),(1,true),(2,true),(3,true),(4,false),(5,false),(6,false)] aP (by kernel_rfl) (dJ (fun _ _ _ _ _ h=>h)) (ol:=?_) ?hol ?_
 case hol=>simp only[zw,zQ,zR];try rfl
 intro w3 hE;replace hB1:=hB1.ext hE;replace hB2:=hB2.ext hE;replace hX:=hX.trans hE;clear hE;refine⟨_,(kF.blk hB1 kF.nil),?_⟩;refine bA (aG (c:=0) iK rfl fA rfl rfl) ?_;simp only[zz];refine cO rfl (fun _ ⟨hB1,_⟩=>(hB1.lies1 jP rfl)) ?_;simp only[zz];refine bA (fM rfl) ?_;simp only[zz];refine cO rfl (fun _ ⟨hB1,_⟩=>(hB1.lies aT aH rfl rfl)) ?_;simp only[zz];refine dM (bT rfl rfl (lT _ (fU ha)) ?_);rintro v w4 hE ⟨A1,c1,rfl,hD1⟩;replace hB1:=hB1.ext hE;replace hB2:=hB2.ext hE;replace hX:=hX.trans hE;clear hE;rw[fT] at hD1 ⊢;simp only[zz];refine aC (⟨⟨hB1,trivial⟩,?_⟩);refine dM (bT rfl rfl (oQ _ hD1 (ak hla (by decide))) ?_);rintro v w5 hE rfl;replace hB1:=hB1.ext hE;replace hB2:=hB2.ext hE;replace hX:=hX.trans hE;clear hE;simp only[dD];simp only[zz];refine aC (⟨⟨hB1,trivial⟩,?_⟩);refine dM ?_;refine cE rfl (by simp only[zz];rfl) (by exact aH) hB2 (by simp) (by simp[bf]) ?_;clear hB2;intro w6 hC hB2;replace hB1:=hB1.chg hC (by first | exact hN1_2 | exact Ne.symm hN2_1);replace hX:=hX.chg hC hG2;clear hC;simp only[zy,zx,aW,ab] at hB2;refine aC (⟨⟨hB1,trivial⟩,?_⟩);refine bB ?_;rw[Re] at hB2;refine hK2 _ _ (bc ?_);try simp only[ac,af]
 refine bY rfl ⟨_,rfl,(hB2.lies aT aH rfl rfl)⟩ ?_;try simp only[zD,zE]
 exact⟨_,rfl,hX,rfl⟩
theorem sB{a b:Int}(ha:Bd 1000000 a)(hb:Bd 1000000 b):eB prog 84 [W a,W b] (W (a+b)):=by
 intro w;refine⟨afk,?_⟩;have hX:=dU.refl w;have hla:(digs 65536 a.natAbs).length≤1000000:=lF ha;have hlb:(digs 65536 b.natAbs).length≤1000000:=lF hb
 go_enter func84,ntmps84
 refine aF (fun K1 hK1=>aa ?_);refine gX (by simp only[zz];rfl) ?_;intro w1 g1 hE hg1 hB1;have hG1:=ak hX.size hg1;replace hX:=hX.trans hE;clear hE hg1;simp only[zz];refine gX (by simp only[zz];rfl) ?_;intro w2 g2 hE hg2 hB2;have hG2:=ak hX.size hg2;have hN2_1:g2≠g1:=au (ai hB1.lt hg2);replace hB1:=hB1.ext hE;replace hX:=hX.trans hE;clear hE hg2;simp only[zz];refine eK cL rfl ?_;intro w3 g3 hE hg3 hB3;have hG3:=ak hX.size hg3;have hN3_1:g3≠g1:=au (ai hB1.lt hg3);have hN3_2:g3≠g2:=au (ai hB2.lt hg3);replace hB1:=hB1.ext hE;replace hB2:=hB2.ext hE;replace hX:=hX.trans hE;clear hE hg3;simp only[zz];refine aC (hK1 _ _ ?_);refine aF (fun K2 hK2=>aa ?_);refine aI rfl (hB1.lies aT aH rfl rfl) ?_;simp only[zz];refine bT rfl rfl (lT _ (fU ha)) ?_;rintro v w4 hE ⟨A1,c1,rfl,hD1⟩;replace hB1:=hB1.ext hE;replace hB2:=hB2.ext hE;replace hB3:=hB3.ext hE;replace hX:=hX.trans hE;clear hE;rw[fT] at hD1 ⊢;simp only[zz];refine aA aD ?_;simp only[zz];refine aC (hK2 _ _ ?_);refine aF (fun K3 hK3=>aa ?_);refine aI rfl (hB2.lies aT aH rfl rfl) ?_;simp only[zz];refine bT rfl rfl (lT _ (fU hb)) ?_;rintro v w5 hE ⟨A2,c2,rfl,hD2⟩;replace hB1:=hB1.ext hE;replace hB2:=hB2.ext hE;replace hB3:=hB3.ext hE;(try replace hD1:=hD1.ext hE);replace hX:=hX.trans hE;clear hE;rw[fT] at hD2 ⊢;simp only[zz];refine aA aD ?_;simp only[zz];refine aC (hK3 _ _ ?_);refine aF (fun K4 hK4=>aF (fun K5 hK5=>aa (aA (aG (c:=0) iK rfl fA rfl rfl) ?_)));simp only[zz];refine aI rfl (hB1.lies1 jP rfl) ?_;simp only[zz];refine aA (aG (c:=0) iK rfl fA rfl rfl) ?_;simp only[zz];refine aI rfl (hB2.lies1 jP rfl) ?_;simp only[zz];refine aA (Vx Fw rfl rfl) ?_;simp only[zz];refine aC (hK5 _ _ ?_);refine cW rfl (fun hc1=>?_) (fun hc1=>?_)
 ·
  refine aF (fun K6 hK6=>?_);refine eF [(0,true),(2,true),(3,true),(1,true),(4,false),(5,false),(6,false)] aP (by kernel_rfl) (dJ (fun _ _ _ _ _ h=>h)) (ol:=?_) ?hol ?_
  case hol=>simp only[zw,zQ,zR];try rfl
  intro w6 hE;replace hB1:=hB1.ext hE;replace hB3:=hB3.ext hE;(try replace hD1:=hD1.ext hE);(try replace hD2:=hD2.ext hE);replace hX:=hX.trans hE;clear hE;refine⟨_,(kF.blk hB1 kF.nil),?_⟩;refine bA (aG (c:=0) iK rfl fA rfl rfl) (bA aB (bA aB ?_));simp only[zz];refine cO rfl (fun _ ⟨hB1,_⟩=>(hB1.lies1 jP rfl)) ?_;simp only[zz];refine dM (bT rfl rfl (ado _ hD1.here hD2.here (ak hla (by decide)) (ak hlb (by decide))) ?_);rintro v w7 hE ⟨A3,c3,os,rfl,hD3,hv3,hl3⟩;replace hB1:=hB1.ext hE;replace hB3:=hB3.ext hE;replace hX:=hX.trans hE;clear hE;simp only[dD] at hv3;simp only[zz];refine aC (⟨⟨hB1,trivial⟩,?_⟩);refine dM (bT rfl rfl (oQ _ hD3 (by omega)) ?_);rintro v w8 hE rfl;replace hB1:=hB1.ext hE;replace hB3:=hB3.ext hE;replace hX:=hX.trans hE;clear hE;rw[hv3];simp only[zz];refine aC (⟨⟨hB1,trivial⟩,?_⟩);refine dM ?_;refine cE rfl (by simp only[zz];rfl) (by exact aH) hB3 (by simp) (by simp[bf]) ?_;clear hB3;intro w9 hC hB3;replace hB1:=hB1.chg hC (by first | exact hN1_3 | exact Ne.symm hN3_1);replace hX:=hX.chg hC hG3;clear hC;simp only[zy,zx,aW,ab] at hB3;refine aC (⟨⟨hB1,trivial⟩,?_⟩);refine bB ?_;rw[Rf hc1] at hB3;refine hK6 _ _ (bc ?_);try simp only[ac,af]
  refine bY rfl ⟨_,rfl,(hB3.lies aT aH rfl rfl)⟩ ?_;try simp only[zD,zE]
  exact⟨_,rfl,hX,rfl⟩
 ·
  refine ar ?_;refine hK4 _ _ (aF (fun K7 hK7=>aF (fun K8 hK8=>aa (aA aB (aA aB ?_)))));simp only[zz];refine bT rfl rfl (vY _ hD1 hD2 (iL _) (iL _)) ?_;rintro v w6 hE rfl;replace hB1:=hB1.ext hE;replace hB2:=hB2.ext hE;replace hB3:=hB3.ext hE;(try replace hD1:=hD1.ext hE);(try replace hD2:=hD2.ext hE);replace hX:=hX.trans hE;clear hE;simp only[dD];simp only[zz];refine aA (lD rfl rfl) ?_;simp only[zz];refine aC (hK8 _ _ ?_);refine cW rfl (fun hc2=>?_) (fun hc2=>?_)
  ·
   have hge:=Dw.1 hc2;refine aF (fun K9 hK9=>?_);refine eF [(0,true),(2,true),(3,true),(1,true),(4,false),(5,false),(6,false)] aP (by kernel_rfl) (dJ (fun _ _ _ _ _ h=>h)) (ol:=?_) ?hol ?_
   case hol=>simp only[zw,zQ,zR];try rfl
   intro w7 hE;replace hB1:=hB1.ext hE;replace hB3:=hB3.ext hE;(try replace hD1:=hD1.ext hE);(try replace hD2:=hD2.ext hE);replace hX:=hX.trans hE;clear hE;refine⟨_,(kF.blk hB1 kF.nil),?_⟩;refine bA (aG (c:=0) iK rfl fA rfl rfl) (bA aB (bA aB ?_));simp only[zz];refine cO rfl (fun _ ⟨hB1,_⟩=>(hB1.lies1 jP rfl)) ?_;simp only[zz];refine dM ?_;refine bT rfl rfl (Cs _ hD1.here hD2.here (sV hge) (by simp only[dD];omega) (ak hla (by decide))) ?_;rintro v w8 hE ⟨⟨A3,c3,rfl,hD3⟩,_⟩;replace hB1:=hB1.ext hE;replace hB3:=hB3.ext hE;replace hX:=hX.trans hE;clear hE;simp only[dD] at hD3 ⊢;have hl3:=sV (Nat.sub_le a.natAbs b.natAbs);simp only[zz];refine aC (⟨⟨hB1,trivial⟩,?_⟩);refine dM (bT rfl rfl (oQ _ hD3 (ak hl3 (ak hla (by decide)))) ?_);rintro v w9 hE rfl;replace hB1:=hB1.ext hE;replace hB3:=hB3.ext hE;replace hX:=hX.trans hE;clear hE;simp only[dD];simp only[zz];refine aC (⟨⟨hB1,trivial⟩,?_⟩);refine dM ?_;refine cE rfl (by simp only[zz];rfl) (by exact aH) hB3 (by simp) (by simp[bf]) ?_;clear hB3;intro w10 hC hB3;replace hB1:=hB1.chg hC (by first | exact hN1_3 | exact Ne.symm hN3_1);replace hX:=hX.chg hC hG3;clear hC;simp only[zy,zx,aW,ab] at hB3;refine aC (⟨⟨hB1,trivial⟩,?_⟩);refine bB ?_;rw[Xf hc1 hge] at hB3;refine hK9 _ _ (bc ?_);try simp only[ac,af]
   refine bY rfl ⟨_,rfl,(hB3.lies aT aH rfl rfl)⟩ ?_;try simp only[zD,zE]
   exact⟨_,rfl,hX,rfl⟩
  ·
   have hlt:a.natAbs<b.natAbs:=ma fun h=>hc2 (Dw.2 h);refine ar (hK7 _ _ ?_);refine aF (fun K10 hK10=>?_);refine eF [(0,true),(2,true),(3,true),(1,true),(4,false),(5,false),(6,false)] aP (by kernel_rfl) (dJ (fun _ _ _ _ _ h=>h)) (ol:=?_) ?hol ?_
   case hol=>simp only[zw,zQ,zR];try rfl
   intro w7 hE;replace hB2:=hB2.ext hE;replace hB3:=hB3.ext hE;(try replace hD1:=hD1.ext hE);(try replace hD2:=hD2.ext hE);replace hX:=hX.trans hE;clear hE;refine⟨_,(kF.blk hB2 kF.nil),?_⟩;refine bA (aG (c:=0) iK rfl fA rfl rfl) (bA aB (bA aB ?_));simp only[zz];refine cO rfl (fun _ ⟨hB2,_⟩=>(hB2.lies1 jP rfl)) ?_;simp only[zz];refine dM ?_;refine bT rfl rfl (Cs _ hD2.here hD1.here (sV (jk hlt)) (by simp only[dD];omega) (ak hlb (by decide))) ?_;rintro v w8 hE ⟨⟨A3,c3,rfl,hD3⟩,_⟩;replace hB2:=hB2.ext hE;replace hB3:=hB3.ext hE;replace hX:=hX.trans hE;clear hE;simp only[dD] at hD3 ⊢;have hl3:=sV (Nat.sub_le b.natAbs a.natAbs);simp only[zz];refine aC (⟨⟨hB2,trivial⟩,?_⟩);refine dM (bT rfl rfl (oQ _ hD3 (ak hl3 (ak hlb (by decide)))) ?_);rintro v w9 hE rfl;replace hB2:=hB2.ext hE;replace hB3:=hB3.ext hE;replace hX:=hX.trans hE;clear hE;simp only[dD];simp only[zz];refine aC (⟨⟨hB2,trivial⟩,?_⟩);refine dM ?_;refine cE rfl (by simp only[zz];rfl) (by exact aH) hB3 (by simp) (by simp[bf]) ?_;clear hB3;intro w10 hC hB3;replace hB2:=hB2.chg hC (by first | exact hN2_3 | exact Ne.symm hN3_2);replace hX:=hX.chg hC hG3;clear hC;simp only[zy,zx,aW,ab] at hB3;refine aC (⟨⟨hB2,trivial⟩,?_⟩);refine bB ?_;rw[Xe hc1 hlt] at hB3;refine hK10 _ _ (bc ?_);try simp only[ac,af]
   refine bY rfl ⟨_,rfl,(hB3.lies aT aH rfl rfl)⟩ ?_;try simp only[zD,zE]
   exact⟨_,rfl,hX,rfl⟩
theorem mY{a b:Int}(ha:Bd 1000000 a)(hb:Bd 1000000 b):eB prog 87 [W a,W b] (W (a-b)):=by
 intro w;refine⟨afn,?_⟩;have hX:=dU.refl w
 go_enter func87,ntmps87
 refine aF (fun K1 hK1=>aa ?_);refine gX (by simp only[zz];rfl) ?_;intro w1 g1 hE hg1 hB1;have hG1:=ak hX.size hg1;replace hX:=hX.trans hE;clear hE hg1;simp only[zz];refine gX (by simp only[zz];rfl) ?_;intro w2 g2 hE hg2 hB2;have hG2:=ak hX.size hg2;have hN2_1:g2≠g1:=au (ai hB1.lt hg2);replace hB1:=hB1.ext hE;replace hX:=hX.trans hE;clear hE hg2;simp only[zz];refine eK cL rfl ?_;intro w3 g3 hE hg3 hB3;have hG3:=ak hX.size hg3;have hN3_1:g3≠g1:=au (ai hB1.lt hg3);have hN3_2:g3≠g2:=au (ai hB2.lt hg3);replace hB1:=hB1.ext hE;replace hB2:=hB2.ext hE;replace hX:=hX.trans hE;clear hE hg3;simp only[zz];refine aC (hK1 _ _ ?_);refine aF (fun K2 hK2=>?_);refine jQ 4 aP (by kernel_rfl) ?_;simp only[zy];refine iA rfl (fun _ hE'=>((hB1.ext hE').lies aT aH rfl rfl)) ?_;simp only[zz];refine iA rfl (fun _ hE'=>((hB2.ext hE').lies aT aH rfl rfl)) ?_;simp only[zz];refine oO rfl rfl (Xj hb) ?_;simp only[zz];refine oO rfl rfl (sB ha hb.neg) ?_;simp only[zz];refine eD ?_;intro w4 hE;replace hB3:=hB3.ext hE;replace hX:=hX.trans hE;clear hE;refine cE rfl (by simp only[zz];rfl) (by exact aH) hB3 (by simp) (by simp[bf]) ?_;clear hB3;intro w5 hC hB3;replace hX:=hX.chg hC hG3;clear hC;simp only[zy,zx,aW,ab] at hB3;refine aC ?_;rw[←Int.sub_eq_add_neg] at hB3;refine hK2 _ _ (bc ?_);try simp only[ac,af]
 refine bY rfl ⟨_,rfl,(hB3.lies aT aH rfl rfl)⟩ ?_;try simp only[zD,zE]
 exact⟨_,rfl,hX,rfl⟩
theorem gI{a b:Int}(ha:Bd 1000000 a)(hb:Bd 1000000 b):eB prog 52 [W a,W b] (W (a*b)):=by
 intro w;refine⟨aeQ,?_⟩;have hX:=dU.refl w;have hla:(digs 65536 a.natAbs).length≤1000000:=lF ha;have hlb:(digs 65536 b.natAbs).length≤1000000:=lF hb;have hls:=Tv ha hb
 go_enter func52,ntmps52
 refine aF (fun K1 hK1=>aa ?_);refine gX (by simp only[zz];rfl) ?_;intro w1 g1 hE hg1 hB1;have hG1:=ak hX.size hg1;replace hX:=hX.trans hE;clear hE hg1;simp only[zz];refine gX (by simp only[zz];rfl) ?_;intro w2 g2 hE hg2 hB2;have hG2:=ak hX.size hg2;have hN2_1:g2≠g1:=au (ai hB1.lt hg2);replace hB1:=hB1.ext hE;replace hX:=hX.trans hE;clear hE hg2;simp only[zz];refine eK cL rfl ?_;intro w3 g3 hE hg3 hB3;have hG3:=ak hX.size hg3;have hN3_1:g3≠g1:=au (ai hB1.lt hg3);have hN3_2:g3≠g2:=au (ai hB2.lt hg3);replace hB1:=hB1.ext hE;replace hB2:=hB2.ext hE;replace hX:=hX.trans hE;clear hE hg3;simp only[zz];refine aC (hK1 _ _ ?_);refine aF (fun K2 hK2=>?_);refine eF [(0,true),(2,true),(1,true),(3,true),(4,true),(5,true),(7,true),(6,false),(8,false),(9,false),(10,false),(11,false)] aP (by kernel_rfl) (dJ (fun _ _ _ _ _ h=>h)) (ol:=?_) ?hol ?_
 case hol=>simp only[zw,zQ,zR];try rfl
 intro w4 hE;replace hB1:=hB1.ext hE;replace hB2:=hB2.ext hE;replace hB3:=hB3.ext hE;replace hX:=hX.trans hE;clear hE;refine⟨_,(kF.blk hB1 (kF.blk hB2 kF.nil)),?_⟩;refine bA (aG (c:=0) iK rfl fA rfl rfl) (bA (aG (c:=0) iK rfl fA rfl rfl) ?_);simp only[zz];refine cO rfl (fun _ ⟨hB1,hB2,_⟩=>(hB1.lies1 jP rfl)) ?_;simp only[zz];refine cO rfl (fun _ ⟨hB1,hB2,_⟩=>(hB2.lies1 jP rfl)) ?_;simp only[zz];refine bA (Dj Fw rfl rfl) ?_;simp only[zz];refine cO rfl (fun _ ⟨hB1,hB2,_⟩=>(hB1.lies aT aH rfl rfl)) ?_;simp only[zz];refine cO rfl (fun _ ⟨hB1,hB2,_⟩=>(hB2.lies aT aH rfl rfl)) ?_;simp only[zz];refine dM (bT rfl rfl (lT _ (fU ha)) ?_);rintro v w5 hE ⟨A1,c1,rfl,hD1⟩;replace hB1:=hB1.ext hE;replace hB2:=hB2.ext hE;replace hB3:=hB3.ext hE;replace hX:=hX.trans hE;clear hE;rw[fT] at hD1 ⊢;simp only[zz];refine aC (⟨⟨hB1,hB2,trivial⟩,?_⟩);refine dM (bT rfl rfl (lT _ (fU hb)) ?_);rintro v w6 hE ⟨A2,c2,rfl,hD2⟩;replace hB1:=hB1.ext hE;replace hB2:=hB2.ext hE;replace hB3:=hB3.ext hE;(try replace hD1:=hD1.ext hE);replace hX:=hX.trans hE;clear hE;rw[fT] at hD2 ⊢;simp only[zz];refine aC (⟨⟨hB1,hB2,trivial⟩,?_⟩);refine dM (bT rfl rfl (Rk _ hD1.here hD2.here (ak hla (by decide)) (ak hlb (by decide))) ?_);rintro v w7 hE ⟨⟨A3,c3,rfl,hD3⟩,_⟩;replace hB1:=hB1.ext hE;replace hB2:=hB2.ext hE;replace hB3:=hB3.ext hE;replace hX:=hX.trans hE;clear hE;simp only[dD] at hD3 ⊢;rw[←Int.natAbs_mul] at hD3 ⊢;simp only[zz];refine aC (⟨⟨hB1,hB2,trivial⟩,?_⟩);refine dM (bT rfl rfl (oQ _ hD3 (ak hls (by decide))) ?_);rintro v w8 hE rfl;replace hB1:=hB1.ext hE;replace hB2:=hB2.ext hE;replace hB3:=hB3.ext hE;replace hX:=hX.trans hE;clear hE;simp only[dD];simp only[zz];refine aC (⟨⟨hB1,hB2,trivial⟩,?_⟩);refine dM ?_;refine cE rfl (by simp only[zz];rfl) (by exact aH) hB3 (by simp) (by simp[bf]) ?_;clear hB3;intro w9 hC hB3;replace hB1:=hB1.chg hC (by first | exact hN1_3 | exact Ne.symm hN3_1);replace hB2:=hB2.chg hC (by first | exact hN2_3 | exact Ne.symm hN3_2);replace hX:=hX.chg hC hG3;clear hC;simp only[zy,zx,aW,ab] at hB3;refine aC (⟨⟨hB1,hB2,trivial⟩,?_⟩);refine bB ?_;rw[Int.natAbs_mul,Rg] at hB3;refine hK2 _ _ (bc ?_);try simp only[ac,af]
 refine bY rfl ⟨_,rfl,(hB3.lies aT aH rfl rfl)⟩ ?_;try simp only[zD,zE]
 exact⟨_,rfl,hX,rfl⟩
theorem adq{a b:Int}(ha:Bd 900000 a)(hb:Bd 900000 b):eB prog 51 [W a,W b] (.int .i64 (dS (a-b))):=by
 intro w;refine⟨aeP,?_⟩;have hX:=dU.refl w
 go_enter func51,ntmps51
 refine aF (fun K1 hK1=>aa ?_);refine gX (by simp only[zz];rfl) ?_;intro w1 g1 hE hg1 hB1;have hG1:=ak hX.size hg1;replace hX:=hX.trans hE;clear hE hg1;simp only[zz];refine gX (by simp only[zz];rfl) ?_;intro w2 g2 hE hg2 hB2;have hG2:=ak hX.size hg2;have hN2_1:g2≠g1:=au (ai hB1.lt hg2);replace hB1:=hB1.ext hE;replace hX:=hX.trans hE;clear hE hg2;simp only[zz];refine aA aD ?_;simp only[zz];refine aC (hK1 _ _ ?_);refine aF (fun K2 hK2=>aa ?_);refine aI rfl (hB1.lies aT aH rfl rfl) ?_;simp only[zz];refine aI rfl (hB2.lies aT aH rfl rfl) ?_;simp only[zz];refine gK rfl rfl (mY (ha.mono (by decide)) (hb.mono (by decide))) ?_;intro w3 hE;replace hX:=hX.trans hE;clear hE;simp only[zz];refine gK rfl rfl (mQ ((Bd.sub ha hb).mono (by decide))) ?_;intro w4 hE;replace hX:=hX.trans hE;clear hE;simp only[zz];refine aA aD ?_;simp only[zz];refine aC (hK2 _ _ ?_);refine bc ?_;try simp only[ac,af]
 refine bY rfl rfl ?_;try simp only[zD,zE]
 exact⟨_,rfl,hX,rfl⟩
theorem eA{n:Int}(h:kO n):eB prog 39 [.int .i64 n] (W n):=by
 intro w;refine⟨aeD,?_⟩;have hX:=dU.refl w;have hna:=h.natAbs
 go_enter func39,ntmps39
 refine aF (fun K1 hK1=>aa ?_);refine eK cL rfl ?_;intro w1 g1 hE hg1 hB1;have hG1:=ak hX.size hg1;replace hX:=hX.trans hE;clear hE hg1;simp only[zz];refine aC (hK1 _ _ ?_);refine aF (fun K2 hK2=>aa (aA aD ?_));simp only[zz];obtain⟨b3,hb3e,hb3l⟩:=hX.base;have hS3:=tY.of hX hb3e;have hO3:=kR.nil_of hX b3 3 1;have hl3_1:g1<b3:=by rw[hb3e];exact hB1.lt
 clear hb3e;refine aC (hK2 _ _ ?_);refine aF (fun K3 hK3=>?_);rcases (show n<0∨0≤n by omega) with h0 | h0
 ·
  have hwn:true=cY n:=(decide_eq_true h0).symm;refine aa (aA aB (aA (eT iB jR rfl (Rj h h0)) (aA aD ?_)));simp only[zz];refine aC (hK3 _ _ ?_);refine aF (fun K4 hK4=>aF (fun K5 hK5=>aa (aA aB (aA (cD rfl rfl (by omega)) ?_))));simp only[zz];refine aC (hK5 _ _ ?_);refine bX rfl (aa (aA aB (aA (qO rfl (Hg hna (by omega))) (aA aD ?_))));simp only[zz];refine aC (hK4 _ _ ?_);refine aF (fun K6 hK6=>av ?_);refine dI [3,4] [11,12,13,14,15,16,17,18,19,20] (fun k vs wl=>∃(m:Nat) (os:List Nat) (v3:aj),vs=[v3,.int .u64 (m:Int)]∧(dU w wl)∧(gG wl g1 [.bool false,.string ⟨#[]⟩] 35)∧(tY wl b3)∧(kR wl b3 3 1 v3 os.length (os.map rJ))∧(val 65536 os+65536^os.length*m=n.natAbs)∧(dR 65536 os)∧(m≤9223372036854775808)∧(os.length+m≤9223372036854775808+64)∧(m<2^(64-os.length))∧(os.length≤64)∧(k=m)) ?_ ?_
  ·
   apply Exists.intro;simp only[zQ,zR,zD,zE];exact⟨n.natAbs,[],_,rfl,hX,hB1,hS3,hO3,by simp[val],lE _,hna,by simp;omega,by simp;omega,by simp,rfl⟩
  ·
   intro n vs wr hI u;obtain⟨m,os,v3,rfl,hX,hB1,hS3,hO3,hv,hd,hm,hol,hol2,hol3,hn⟩:=hI;simp only[zu,zF,zG];refine aF (fun K7 hK7=>aF (fun K8 hK8=>aa (aA aB (aA (gW rfl rfl) ?_))));simp only[zz];refine aC (hK8 _ _ ?_);refine cW rfl (fun hc2=>?_) (fun hc2=>?_)
   ·
    refine ar ?_;refine hK7 _ _ (av (aF (fun K9 hK9=>aa (aA aB (aA aB (aA (fL rfl rfl (by omega) (lW (n:=65536))) ?_))))));simp only[zz];refine aA (eT jR iB rfl (aO (by omega) (by omega))) ?_;simp only[zz];refine cN bM (z:=.int .i64 0) (by kernel_rfl) rfl (by simp only[zz];rfl) (by rfl) ?_;intro w2 g2 hE hg2 hB2;have hG2:=ak hX.size hg2;have hN2_1:g2≠g1:=au (ai hB1.lt hg2);replace hB1:=hB1.ext hE;(try replace hS3:=hS3.ext hE);(try replace hO3:=hO3.ext hE);replace hX:=hX.trans hE;clear hE hg2;simp only[zz];refine iJ rfl bM iF rfl (by decide) rfl hO3 rfl (news:=_) rfl hB2.row0 (by simp[bf]) (by omega) (by omega) hS3.h ?_;clear hO3;intro v3 w3 hO3 hGr _;replace hB1:=hB1.grew hGr hl3_1;(try replace hS3:=hS3.grew hGr (by first | trivial | omega));replace hX:=hX.grown hGr hb3l;clear hGr;replace hO3:=hO3.snoc;simp only[zz];refine aA aD ?_;simp only[zz];refine aC (hK9 _ _ ?_);refine aa (aA aB (aA (jA rfl rfl (by omega) (Cp (n:=65536) (by omega))) (aA aD ?_)));simp only[zz];refine aC ?_;have r:=Dz hv hd hol2 hol3 (show 0<m by omega);simp only[ac,af];refine⟨m / 65536,_,?_,rfl,?_,?_⟩
    · omega
    · simp only[zz,zv]
    ·
     simp only[zQ,zR,zD,zE];exact⟨m / 65536,os++[m%65536],v3,rfl,hX,hB1,hS3,hO3,r.1,r.2.1,by omega,by simp;omega,r.2.2.1,r.2.2.2,rfl⟩
   ·
    refine bw ?_;refine hK6 _ _ (aF (fun K10 hK10=>?_));obtain rfl:m=0:=by omega
    rw[fk,fx] at hv;obtain⟨A3,c3,rfl,hD,_⟩:=dP.of_owns hO3 rfl hd (by omega);refine aa (aA aB (aA (cD rfl rfl (by omega)) (aA aB ?_)));simp only[zz];refine bT rfl rfl (oQ _ hD (by omega)) ?_;rintro v w2 hE rfl;replace hB1:=hB1.ext hE;replace hX:=hX.trans hE;clear hE;rw[hv,hwn,yG];simp only[zz];refine cE rfl (by simp only[zz];rfl) (by exact aH) hB1 (by simp) (by simp[bf]) ?_;clear hB1;intro w3 hC hB1;replace hX:=hX.chg hC hG1;clear hC;simp only[zy,zx,aW,ab] at hB1;refine aC (hK10 _ _ ?_);refine bc ?_;try simp only[ac,af]
    refine bY rfl ⟨_,rfl,(hB1.lies aT aH rfl rfl)⟩ ?_;try simp only[zD,zE]
    exact⟨_,rfl,hX,rfl⟩
 ·
  have hwn:false=cY n:=(decide_eq_false (by omega)).symm;refine aa (aA aB (aA (eT iB jR rfl (Xg h h0)) (aA aD ?_)));simp only[zz];refine aC (hK3 _ _ ?_);refine aF (fun K11 hK11=>aF (fun K12 hK12=>aa (aA aB (aA (fD rfl rfl (by omega)) ?_))));simp only[zz];refine aC (hK12 _ _ ?_);refine eZ rfl (ar ?_);refine hK11 _ _ (aF (fun K13 hK13=>av ?_));refine dI [3,4] [11,12,13,14,15,16,17,18,19,20] (fun k vs wl=>∃(m:Nat) (os:List Nat) (v3:aj),vs=[v3,.int .u64 (m:Int)]∧(dU w wl)∧(gG wl g1 [.bool false,.string ⟨#[]⟩] 35)∧(tY wl b3)∧(kR wl b3 3 1 v3 os.length (os.map rJ))∧(val 65536 os+65536^os.length*m=n.natAbs)∧(dR 65536 os)∧(m≤9223372036854775808)∧(os.length+m≤9223372036854775808+64)∧(m<2^(64-os.length))∧(os.length≤64)∧(k=m)) ?_ ?_
  ·
   apply Exists.intro;simp only[zQ,zR,zD,zE];exact⟨n.natAbs,[],_,rfl,hX,hB1,hS3,hO3,by simp[val],lE _,hna,by simp;omega,by simp;omega,by simp,rfl⟩
  ·
   intro n vs wr hI u;obtain⟨m,os,v3,rfl,hX,hB1,hS3,hO3,hv,hd,hm,hol,hol2,hol3,hn⟩:=hI;simp only[zu,zF,zG];refine aF (fun K14 hK14=>aF (fun K15 hK15=>aa (aA aB (aA (gW rfl rfl) ?_))));simp only[zz];refine aC (hK15 _ _ ?_);refine cW rfl (fun hc2=>?_) (fun hc2=>?_)
   ·
    refine ar ?_;refine hK14 _ _ (av (aF (fun K16 hK16=>aa (aA aB (aA aB (aA (fL rfl rfl (by omega) (lW (n:=65536))) ?_))))));simp only[zz];refine aA (eT jR iB rfl (aO (by omega) (by omega))) ?_;simp only[zz];refine cN bM (z:=.int .i64 0) (by kernel_rfl) rfl (by simp only[zz];rfl) (by rfl) ?_;intro w2 g2 hE hg2 hB2;have hG2:=ak hX.size hg2;have hN2_1:g2≠g1:=au (ai hB1.lt hg2);replace hB1:=hB1.ext hE;(try replace hS3:=hS3.ext hE);(try replace hO3:=hO3.ext hE);replace hX:=hX.trans hE;clear hE hg2;simp only[zz];refine iJ rfl bM iF rfl (by decide) rfl hO3 rfl (news:=_) rfl hB2.row0 (by simp[bf]) (by omega) (by omega) hS3.h ?_;clear hO3;intro v3 w3 hO3 hGr _;replace hB1:=hB1.grew hGr hl3_1;(try replace hS3:=hS3.grew hGr (by first | trivial | omega));replace hX:=hX.grown hGr hb3l;clear hGr;replace hO3:=hO3.snoc;simp only[zz];refine aA aD ?_;simp only[zz];refine aC (hK16 _ _ ?_);refine aa (aA aB (aA (jA rfl rfl (by omega) (Cp (n:=65536) (by omega))) (aA aD ?_)));simp only[zz];refine aC ?_;have r:=Dz hv hd hol2 hol3 (show 0<m by omega);simp only[ac,af];refine⟨m / 65536,_,?_,rfl,?_,?_⟩
    · omega
    · simp only[zz,zv]
    ·
     simp only[zQ,zR,zD,zE];exact⟨m / 65536,os++[m%65536],v3,rfl,hX,hB1,hS3,hO3,r.1,r.2.1,by omega,by simp;omega,r.2.2.1,r.2.2.2,rfl⟩
   ·
    refine bw ?_;refine hK13 _ _ (aF (fun K17 hK17=>?_));obtain rfl:m=0:=by omega
    rw[fk,fx] at hv;obtain⟨A3,c3,rfl,hD,_⟩:=dP.of_owns hO3 rfl hd (by omega);refine aa (aA aB (aA (fD rfl rfl (by omega)) (aA aB ?_)));simp only[zz];refine bT rfl rfl (oQ _ hD (by omega)) ?_;rintro v w2 hE rfl;replace hB1:=hB1.ext hE;replace hX:=hX.trans hE;clear hE;rw[hv,hwn,yG];simp only[zz];refine cE rfl (by simp only[zz];rfl) (by exact aH) hB1 (by simp) (by simp[bf]) ?_;clear hB1;intro w3 hC hB1;replace hX:=hX.chg hC hG1;clear hC;simp only[zy,zx,aW,ab] at hB1;refine aC (hK17 _ _ ?_);refine bc ?_;try simp only[ac,af]
    refine bY rfl ⟨_,rfl,(hB1.lies aT aH rfl rfl)⟩ ?_;try simp only[zD,zE]
    exact⟨_,rfl,hX,rfl⟩
end Go.Proofs.YtimjandkmfcmiaaGreatDoor
namespace Go.Proofs.YtimjandkmfcmiaaGreatDoor
open Go.Proofs.Tryz
open Go.RowKit Go.Lith
set_option maxRecDepth 100000
attribute [local irreducible] bh ck eY Code.wp
theorem Jv{a b:Int}(ha:Bd 1000000 a)(hb:Bd 1000000 b)(h0:b≠0):eB prog 115 [W a,W b] (.tuple #[W (a.tdiv b),W (a.tmod b),.bool true]):=by
 intro w;refine⟨acz,?_⟩;have hX:=dU.refl w;have hla:(digs 65536 a.natAbs).length≤1000000:=lF ha;have hlb:(digs 65536 b.natAbs).length≤1000000:=lF hb;have hq:(digs 65536 (a.tdiv b).natAbs).length≤1000000:=lF (show Bd 1000000 (a.tdiv b) from ha.of_le (by rw[jp];exact Nat.div_le_self ..));have hr:(digs 65536 (a.tmod b).natAbs).length≤1000000:=lF (show Bd 1000000 (a.tmod b) from ha.of_le (by rw[lf];exact Nat.mod_le ..));rw[jp] at hq;rw[lf] at hr
 go_enter func115,ntmps115
 refine aF (fun K1 hK1=>aa ?_);refine gX (by simp only[zz];rfl) ?_;intro w1 g1 hE hg1 hB1;have hG1:=ak hX.size hg1;replace hX:=hX.trans hE;clear hE hg1;simp only[zz];refine gX (by simp only[zz];rfl) ?_;intro w2 g2 hE hg2 hB2;have hG2:=ak hX.size hg2;have hN2_1:g2≠g1:=au (ai hB1.lt hg2);replace hB1:=hB1.ext hE;replace hX:=hX.trans hE;clear hE hg2;simp only[zz];refine eK cL rfl ?_;intro w3 g3 hE hg3 hB3;have hG3:=ak hX.size hg3;have hN3_1:g3≠g1:=au (ai hB1.lt hg3);have hN3_2:g3≠g2:=au (ai hB2.lt hg3);replace hB1:=hB1.ext hE;replace hB2:=hB2.ext hE;replace hX:=hX.trans hE;clear hE hg3;simp only[zz];refine eK cL rfl ?_;intro w4 g4 hE hg4 hB4;have hG4:=ak hX.size hg4;have hN4_1:g4≠g1:=au (ai hB1.lt hg4);have hN4_2:g4≠g2:=au (ai hB2.lt hg4);have hN4_3:g4≠g3:=au (ai hB3.lt hg4);replace hB1:=hB1.ext hE;replace hB2:=hB2.ext hE;replace hB3:=hB3.ext hE;replace hX:=hX.trans hE;clear hE hg4;simp only[zz];refine aA aD ?_;simp only[zz];refine aC (hK1 _ _ ?_);refine aF (fun K2 hK2=>aa ?_);refine aI rfl (hB2.lies aT aH rfl rfl) ?_;simp only[zz];refine bT rfl rfl (lT _ (fU hb)) ?_;rintro v w5 hE ⟨A1,c1,rfl,hD1⟩;replace hB1:=hB1.ext hE;replace hB2:=hB2.ext hE;replace hB3:=hB3.ext hE;replace hB4:=hB4.ext hE;replace hX:=hX.trans hE;clear hE;rw[fT] at hD1 ⊢;simp only[zz];refine aA aD ?_;simp only[zz];refine aC (hK2 _ _ ?_);refine aF (fun K3 hK3=>aF (fun K4 hK4=>aa (aA aB (aA (bR rfl bM rfl) (aA (mU rfl rfl (fun e=>h0 (An.1 e))) ?_)))));simp only[zz];refine aC (hK4 _ _ ?_);refine eZ rfl (ar ?_);refine hK3 _ _ (aF (fun K5 hK5=>aa ?_));refine aI rfl (hB1.lies aT aH rfl rfl) ?_;simp only[zz];refine bT rfl rfl (lT _ (fU ha)) ?_;rintro v w6 hE ⟨A2,c2,rfl,hD2⟩;replace hB1:=hB1.ext hE;replace hB2:=hB2.ext hE;replace hB3:=hB3.ext hE;replace hB4:=hB4.ext hE;(try replace hD1:=hD1.ext hE);replace hX:=hX.trans hE;clear hE;rw[fT] at hD2 ⊢;simp only[zz];refine aA aB ?_;simp only[zz];refine bT rfl rfl (Xi _ hD2.here hD1.here (iL _) (by rw[dD];omega) (ak hla (by decide)) (ak hlb (by decide))) ?_;rintro v w7 hE ⟨_,_,rfl,⟨A3,c3,rfl,hD3⟩,⟨A4,c4,rfl,hD4⟩⟩;replace hB1:=hB1.ext hE;replace hB2:=hB2.ext hE;replace hB3:=hB3.ext hE;replace hB4:=hB4.ext hE;replace hX:=hX.trans hE;clear hE;simp only[dD] at hD3 hD4 ⊢;simp only[zz];refine aA aB (aA (aU rfl rfl) (aA (aU rfl rfl) ?_));simp only[zz];refine aA aD (aA aD ?_);simp only[zz];refine aC (hK5 _ _ ?_);refine aF (fun K6 hK6=>?_);refine eF [(0,true),(2,true),(5,true),(7,true),(9,true),(1,true),(3,true),(4,true),(8,true),(6,false),(10,false),(11,false),(12,false),(13,true)] aP (by kernel_rfl) (dJ (fun _ _ _ _ _ h=>h)) (ol:=?_) ?hol ?_
 case hol=>simp only[zw,zQ,zR];try rfl
 intro w8 hE;replace hB1:=hB1.ext hE;replace hB2:=hB2.ext hE;replace hB3:=hB3.ext hE;replace hB4:=hB4.ext hE;(try replace hD3:=hD3.ext hE);(try replace hD4:=hD4.ext hE);replace hX:=hX.trans hE;clear hE;refine⟨_,(kF.blk hB1 (kF.blk hB2 kF.nil)),?_⟩;refine bA (aG (c:=0) iK rfl fA rfl rfl) (bA (aG (c:=0) iK rfl fA rfl rfl) (bA aB ?_));simp only[zz];refine bA (aG (c:=0) iK rfl fA rfl rfl) (bA aB ?_);simp only[zz];refine cO rfl (fun _ ⟨hB1,hB2,_⟩=>(hB1.lies1 jP rfl)) ?_;simp only[zz];refine cO rfl (fun _ ⟨hB1,hB2,_⟩=>(hB2.lies1 jP rfl)) ?_;simp only[zz];refine bA (Dj Fw rfl rfl) ?_;simp only[zz];refine cO rfl (fun _ ⟨hB1,hB2,_⟩=>(hB1.lies1 jP rfl)) ?_;simp only[zz];refine dM (bT rfl rfl (oQ _ hD3 (ak hq (by decide))) ?_);rintro v w9 hE rfl;replace hB1:=hB1.ext hE;replace hB2:=hB2.ext hE;replace hB3:=hB3.ext hE;replace hB4:=hB4.ext hE;(try replace hD4:=hD4.ext hE);replace hX:=hX.trans hE;clear hE;simp only[dD,Rh];simp only[zz];refine aC (⟨⟨hB1,hB2,trivial⟩,?_⟩);refine dM (bT rfl rfl (oQ _ hD4 (ak hr (by decide))) ?_);rintro v w10 hE rfl;replace hB1:=hB1.ext hE;replace hB2:=hB2.ext hE;replace hB3:=hB3.ext hE;replace hB4:=hB4.ext hE;replace hX:=hX.trans hE;clear hE;simp only[dD,Ri];simp only[zz];refine aC (⟨⟨hB1,hB2,trivial⟩,?_⟩);refine dM ?_;refine cE rfl (by simp only[zz];rfl) (by exact aH) hB3 (by simp) (by simp[bf]) ?_;clear hB3;intro w11 hC hB3;replace hB1:=hB1.chg hC (by first | exact hN1_3 | exact Ne.symm hN3_1);replace hB2:=hB2.chg hC (by first | exact hN2_3 | exact Ne.symm hN3_2);replace hB4:=hB4.chg hC (by first | exact hN4_3 | exact Ne.symm hN3_4);replace hX:=hX.chg hC hG3;clear hC;simp only[zy,zx,aW,ab] at hB3;refine aC (⟨⟨hB1,hB2,trivial⟩,?_⟩);refine dM ?_;refine cE rfl (by simp only[zz];rfl) (by exact aH) hB4 (by simp) (by simp[bf]) ?_;clear hB4;intro w12 hC hB4;replace hB1:=hB1.chg hC (by first | exact hN1_4 | exact Ne.symm hN4_1);replace hB2:=hB2.chg hC (by first | exact hN2_4 | exact Ne.symm hN4_2);replace hB3:=hB3.chg hC (by first | exact hN3_4 | exact Ne.symm hN4_3);replace hX:=hX.chg hC hG4;clear hC;simp only[zy,zx,aW,ab] at hB4;refine aC (⟨⟨hB1,hB2,trivial⟩,?_⟩);refine bA aD ?_;simp only[zz];refine bB (hK6 _ _ ?_);refine bc ?_;try simp only[ac,af]
 refine pX rfl ⟨_,rfl,(hB3.lies aT aH rfl rfl)⟩ ⟨_,rfl,(hB4.lies aT aH rfl rfl)⟩ rfl ?_;try simp only[zD,zE]
 exact⟨_,rfl,hX,rfl⟩
theorem adr{a b:Int}(ha:Bd 1000000 a)(hb:Bd 1000000 b):eB prog 113 [W a,W b] (W (gb a b:Int)):=by
 intro w;refine⟨acx,?_⟩;have hX:=dU.refl w;obtain⟨K,hK⟩:∃K,K=2^1000000:=⟨_,rfl⟩
 have ha':a.natAbs<K:=by rw[hK];exact ha
 have hb':b.natAbs<K:=by rw[hK];exact hb
 have hlen:∀V:Nat,V<K→(digs 65536 V).length≤1000000:=fun V h=>lF (by rw[←hK];exact h);clear hK
 go_enter func113,ntmps113
 refine aF (fun K1 hK1=>aa ?_);refine gX (by simp only[zz];rfl) ?_;intro w1 g1 hE hg1 hB1;have hG1:=ak hX.size hg1;replace hX:=hX.trans hE;clear hE hg1;simp only[zz];refine gX (by simp only[zz];rfl) ?_;intro w2 g2 hE hg2 hB2;have hG2:=ak hX.size hg2;have hN2_1:g2≠g1:=au (ai hB1.lt hg2);replace hB1:=hB1.ext hE;replace hX:=hX.trans hE;clear hE hg2;simp only[zz];refine eK cL rfl ?_;intro w3 g3 hE hg3 hB3;have hG3:=ak hX.size hg3;have hN3_1:g3≠g1:=au (ai hB1.lt hg3);have hN3_2:g3≠g2:=au (ai hB2.lt hg3);replace hB1:=hB1.ext hE;replace hB2:=hB2.ext hE;replace hX:=hX.trans hE;clear hE hg3;simp only[zz];refine aC (hK1 _ _ ?_);refine aF (fun K2 hK2=>aa ?_);refine aI rfl (hB1.lies aT aH rfl rfl) ?_;simp only[zz];refine bT rfl rfl (lT _ (fU ha)) ?_;rintro v w4 hE ⟨A1,c1,rfl,hD1⟩;replace hB2:=hB2.ext hE;replace hB3:=hB3.ext hE;(try replace hD1:=hD1.ext hE);replace hX:=hX.trans hE;clear hE;rw[fT] at hD1 ⊢;simp only[zz];refine aA aD ?_;simp only[zz];refine aC (hK2 _ _ ?_);refine aF (fun K3 hK3=>aa ?_);refine aI rfl (hB2.lies aT aH rfl rfl) ?_;simp only[zz];refine bT rfl rfl (lT _ (fU hb)) ?_;rintro v w5 hE ⟨A2,c2,rfl,hD2⟩;replace hB3:=hB3.ext hE;(try replace hD1:=hD1.ext hE);(try replace hD2:=hD2.ext hE);(try replace hD1:=hD1.ext hE);replace hX:=hX.trans hE;clear hE;rw[fT] at hD2 ⊢;simp only[zz];refine aA aD ?_;simp only[zz];refine aC (hK3 _ _ ?_);refine aF (fun K4 hK4=>av ?_);refine dI [5,6] [7,8,13,14,15,16,17,18,19,20,21,22,23] (fun n vs wl=>∃(X Y:Nat) (A1 A2:Option Addr) (c1 c2:Nat),vs=[.slice A1 (digs 65536 X).length c1,.slice A2 (digs 65536 Y).length c2]∧(dU w wl)∧(gG wl g3 [.bool false,.string ⟨#[]⟩] 35)∧(dP wl wl.heap.size A1 (digs 65536 X).length c1 (digs 65536 X))∧(dP wl wl.heap.size A2 (digs 65536 Y).length c2 (digs 65536 Y))∧(Nat.gcd X Y=gb a b)∧(X<K)∧(Y<K)∧(n=Y)) ?_ ?_
 ·
  apply Exists.intro;simp only[zQ,zR,zD,zE];exact⟨a.natAbs,b.natAbs,A1,A2,c1,c2,rfl,hX,hB3,hD1.here,hD2.here,rfl,ha',hb',rfl⟩
 ·
  intro n vs wr hI u;obtain⟨X,Y,A1,A2,c1,c2,rfl,hX,hB3,hD1,hD2,hg,hXK,hYK,hn⟩:=hI;simp only[zu,zF,zG];refine aF (fun K5 hK5=>aF (fun K6 hK6=>aa (aA aB (aA (bR rfl bM rfl) (aA (gW rfl rfl) ?_)))));simp only[zz];refine aC (hK6 _ _ ?_);refine cW rfl (fun hc1=>?_) (fun hc1=>?_)
  ·
   have hY0:0<Y:=by
    rcases eg Y with h | h
    · subst h;exact absurd hc1 (by decide)
    · exact h
   refine ar ?_;refine hK5 _ _ (av (aF (fun K7 hK7=>aa (aA aB (aA aB ?_)))));simp only[zz];refine bT rfl rfl (Xi _ hD1.here hD2.here (iL _) (by rw[dD];exact hY0) (ak (hlen _ hXK) (by decide)) (ak (hlen _ hYK) (by decide))) ?_;rintro v w6 hE ⟨_,_,rfl,⟨A3,c3,rfl,hD3⟩,⟨A4,c4,rfl,hD4⟩⟩;replace hB3:=hB3.ext hE;(try replace hD2:=hD2.ext hE);(try replace hD2:=hD2.ext hE);replace hX:=hX.trans hE;clear hE;simp only[dD] at hD3 hD4 ⊢;simp only[zz];refine aA aB (aA (aU rfl rfl) (aA (aU rfl rfl) ?_));simp only[zz];refine aA aD (aA aD ?_);simp only[zz];refine aC (hK7 _ _ ?_);refine aF (fun K8 hK8=>aa (aA aB (aA aD ?_)));simp only[zz];refine aC (hK8 _ _ ?_);refine aa (aA aB (aA aD ?_));simp only[zz];refine aC ?_;simp only[ac,af];refine⟨X%Y,_,?_,rfl,?_,?_⟩
   · rw[hn];exact ft _ hY0
   · simp only[zz,zv]
   ·
    simp only[zQ,zR,zD,zE];exact⟨Y,X%Y,A2,A4,c2,c4,rfl,hX,hB3,hD2.here,hD4.here,Mg.trans hg,hYK,d_ (Nat.mod_le _ _) hXK,rfl⟩
  ·
   obtain rfl:Y=0:=(nB (B:=65536) (by omega)).1 (bz (by omega));rw[Nat.gcd_zero_right] at hg;subst hg;refine bw (hK4 _ _ ?_);refine aF (fun K9 hK9=>aa (aA aB ?_));simp only[zz];refine bT rfl rfl (oQ _ hD1 (ak (hlen _ hXK) (by decide))) ?_;rintro v w6 hE rfl;replace hB3:=hB3.ext hE;replace hX:=hX.trans hE;clear hE;simp only[dD];simp only[zz];refine cE rfl (by simp only[zz];rfl) (by exact aH) hB3 (by simp) (by simp[bf]) ?_;clear hB3;intro w7 hC hB3;replace hX:=hX.chg hC hG3;clear hC;simp only[zy,zx,aW,ab] at hB3;refine aC (hK9 _ _ ?_);refine bc ?_;try simp only[ac,af]
   refine bY rfl ⟨_,rfl,(hB3.lies aT aH rfl rfl)⟩ ?_;try simp only[zD,zE]
   exact⟨_,rfl,hX,by rw[nF];rfl⟩
theorem jN{n d:Int}(hn:Bd 400000 n)(hd:Bd 400000 d)(h0:d≠0):eB prog 82 [W n,W d] (.tuple #[Q (Rat.divInt n d),.bool true]):=by
 intro w;refine⟨abV,?_⟩;have hX:=dU.refl w;obtain⟨e1,hg0⟩:=Du (n:=n) h0;have e2:=Dv (n:=n) h0;have hn':=hn.mono (show 400000≤1000000 by decide);have hd':=hd.mono (show 400000≤1000000 by decide);have hs1:Bd 1 (dS d):=by unfold Bd dS;split <;> (try split) <;> decide
 have hg:Bd 400001 ((gb n d:Int)):=by
  have h1:gb n d∣d.natAbs:=Nat.gcd_dvd_right ..;have h2:=Nat.le_of_dvd (by omega) h1;exact (hd.of_le (by simpa using h2)).mono (by decide)
 have hG:Bd 1000000 ((gb n d:Int)*dS d):=(hg.mul hs1).mono (by decide);obtain⟨G,hGe⟩:∃G,G=(gb n d:Int)*dS d:=⟨_,rfl⟩
 rw[←hGe] at e1 e2 hg0 hG
 go_enter func82,ntmps82
 refine aF (fun K1 hK1=>aa ?_);refine gX (by simp only[zz];rfl) ?_;intro w1 g1 hE hg1 hB1;have hG1:=ak hX.size hg1;replace hX:=hX.trans hE;clear hE hg1;simp only[zz];refine gX (by simp only[zz];rfl) ?_;intro w2 g2 hE hg2 hB2;have hG2:=ak hX.size hg2;have hN2_1:g2≠g1:=au (ai hB1.lt hg2);replace hB1:=hB1.ext hE;replace hX:=hX.trans hE;clear hE hg2;simp only[zz];refine eK cF rfl ?_;intro w3 g3 hE hg3 hB3;have hG3:=ak hX.size hg3;have hN3_1:g3≠g1:=au (ai hB1.lt hg3);have hN3_2:g3≠g2:=au (ai hB2.lt hg3);replace hB1:=hB1.ext hE;replace hB2:=hB2.ext hE;replace hX:=hX.trans hE;clear hE hg3;simp only[zz];refine aA aD ?_;simp only[zz];refine aC (hK1 _ _ ?_);refine aF (fun K2 hK2=>aa ?_);refine aI rfl (hB2.lies aT aH rfl rfl) ?_;simp only[zz];refine gK rfl rfl (mQ hd') ?_;intro w4 hE;replace hB1:=hB1.ext hE;replace hB2:=hB2.ext hE;replace hB3:=hB3.ext hE;replace hX:=hX.trans hE;clear hE;simp only[zz];refine aA aD ?_;simp only[zz];refine aC (hK2 _ _ ?_);refine aF (fun K3 hK3=>aF (fun K4 hK4=>aa (aA aB (aA (mU rfl rfl (by unfold dS;split <;> (try split) <;> omega)) ?_))));simp only[zz];refine aC (hK4 _ _ ?_);refine eZ rfl (ar ?_);refine hK3 _ _ (aF (fun K5 hK5=>aa ?_));refine aI rfl (hB1.lies aT aH rfl rfl) ?_;simp only[zz];refine aI rfl (hB2.lies aT aH rfl rfl) ?_;simp only[zz];refine gK rfl rfl (adr hn' hd') ?_;intro w5 hE;replace hB1:=hB1.ext hE;replace hB2:=hB2.ext hE;replace hB3:=hB3.ext hE;replace hX:=hX.trans hE;clear hE;simp only[zz];refine eK cL rfl ?_;intro w6 g4 hE hg4 hB4;have hG4:=ak hX.size hg4;have hN4_1:g4≠g1:=au (ai hB1.lt hg4);have hN4_2:g4≠g2:=au (ai hB2.lt hg4);have hN4_3:g4≠g3:=au (ai hB3.lt hg4);replace hB1:=hB1.ext hE;replace hB2:=hB2.ext hE;replace hB3:=hB3.ext hE;replace hX:=hX.trans hE;clear hE hg4;simp only[zz];refine cE rfl (by simp only[zz];rfl) (by exact aH) hB4 (by simp) (by simp[bf]) ?_;clear hB4;intro w7 hC hB4;replace hB1:=hB1.chg hC (by first | exact hN1_4 | exact Ne.symm hN4_1);replace hB2:=hB2.chg hC (by first | exact hN2_4 | exact Ne.symm hN4_2);replace hB3:=hB3.chg hC (by first | exact hN3_4 | exact Ne.symm hN4_3);replace hX:=hX.chg hC hG4;clear hC;simp only[zy,zx,aW,ab] at hB4;refine aC (hK5 _ _ ?_);refine aF (fun K6 hK6=>aF (fun K7 hK7=>aa (aA aB (aA (dZ rfl rfl) ?_))));simp only[zz];refine aC (hK7 _ _ ?_);refine cW rfl (fun hc2=>?_) (fun hc2=>?_)
 ·
  have hGn : -(gb n d:Int)=G:=by
   have:d<0:=by
    unfold dS at hc2;split at hc2
    · assumption
    · split at hc2 <;> omega
   rw[hGe,nG this];omega
  refine aa ?_;refine aI rfl (hB4.lies aT aH rfl rfl) ?_;simp only[zz];refine gK rfl rfl (Xj (hg.mono (by decide))) ?_;intro w8 hE;replace hB1:=hB1.ext hE;replace hB2:=hB2.ext hE;replace hB3:=hB3.ext hE;replace hB4:=hB4.ext hE;replace hX:=hX.trans hE;clear hE;simp only[zz];refine cE rfl (by simp only[zz];rfl) (by exact aH) hB4 (by simp) (by simp[bf]) ?_;clear hB4;intro w9 hC hB4;replace hB1:=hB1.chg hC (by first | exact hN1_4 | exact Ne.symm hN4_1);replace hB2:=hB2.chg hC (by first | exact hN2_4 | exact Ne.symm hN4_2);replace hB3:=hB3.chg hC (by first | exact hN3_4 | exact Ne.symm hN4_3);replace hX:=hX.chg hC hG4;clear hC;simp only[zy,zx,aW,ab] at hB4;refine aC ?_;rw[hGn] at hB4;refine hK6 _ _ (aF (fun K8 hK8=>aa ?_));refine aI rfl (hB1.lies aT aH rfl rfl) ?_;simp only[zz];refine aI rfl (hB4.lies aT aH rfl rfl) ?_;simp only[zz];refine gK rfl rfl (Jv hn' hG hg0) ?_;intro w10 hE;replace hB1:=hB1.ext hE;replace hB2:=hB2.ext hE;replace hB3:=hB3.ext hE;replace hB4:=hB4.ext hE;replace hX:=hX.trans hE;clear hE;simp only[zz];refine aA aB (aA (aU rfl rfl) (aA (aU rfl rfl) ?_));simp only[zz];refine aA (aU rfl rfl) ?_;simp only[zz];refine eK cL rfl ?_;intro w11 g5 hE hg5 hB5;have hG5:=ak hX.size hg5;have hN5_1:g5≠g1:=au (ai hB1.lt hg5);have hN5_2:g5≠g2:=au (ai hB2.lt hg5);have hN5_3:g5≠g3:=au (ai hB3.lt hg5);have hN5_4:g5≠g4:=au (ai hB4.lt hg5);replace hB1:=hB1.ext hE;replace hB2:=hB2.ext hE;replace hB3:=hB3.ext hE;replace hB4:=hB4.ext hE;replace hX:=hX.trans hE;clear hE hg5;simp only[zz];refine eK cL rfl ?_;intro w12 g6 hE hg6 hB6;have hG6:=ak hX.size hg6;have hN6_1:g6≠g1:=au (ai hB1.lt hg6);have hN6_2:g6≠g2:=au (ai hB2.lt hg6);have hN6_3:g6≠g3:=au (ai hB3.lt hg6);have hN6_4:g6≠g4:=au (ai hB4.lt hg6);have hN6_5:g6≠g5:=au (ai hB5.lt hg6);replace hB1:=hB1.ext hE;replace hB2:=hB2.ext hE;replace hB3:=hB3.ext hE;replace hB4:=hB4.ext hE;replace hB5:=hB5.ext hE;replace hX:=hX.trans hE;clear hE hg6;simp only[zz];refine cE rfl (by simp only[zz];rfl) (by exact aH) hB5 (by simp) (by simp[bf]) ?_;clear hB5;intro w13 hC hB5;replace hB1:=hB1.chg hC (by first | exact hN1_5 | exact Ne.symm hN5_1);replace hB2:=hB2.chg hC (by first | exact hN2_5 | exact Ne.symm hN5_2);replace hB3:=hB3.chg hC (by first | exact hN3_5 | exact Ne.symm hN5_3);replace hB4:=hB4.chg hC (by first | exact hN4_5 | exact Ne.symm hN5_4);replace hB6:=hB6.chg hC (by first | exact hN6_5 | exact Ne.symm hN5_6);replace hX:=hX.chg hC hG5;clear hC;simp only[zy,zx,aW,ab] at hB5;refine cE rfl (by simp only[zz];rfl) (by exact aH) hB6 (by simp) (by simp[bf]) ?_;clear hB6;intro w14 hC hB6;replace hB1:=hB1.chg hC (by first | exact hN1_6 | exact Ne.symm hN6_1);replace hB2:=hB2.chg hC (by first | exact hN2_6 | exact Ne.symm hN6_2);replace hB3:=hB3.chg hC (by first | exact hN3_6 | exact Ne.symm hN6_3);replace hB4:=hB4.chg hC (by first | exact hN4_6 | exact Ne.symm hN6_4);replace hB5:=hB5.chg hC (by first | exact hN5_6 | exact Ne.symm hN6_5);replace hX:=hX.chg hC hG6;clear hC;simp only[zy,zx,aW,ab] at hB6;refine aA aD ?_;simp only[zz];refine aC (hK8 _ _ ?_);refine aF (fun K9 hK9=>aa ?_);refine aI rfl (hB2.lies aT aH rfl rfl) ?_;simp only[zz];refine aI rfl (hB4.lies aT aH rfl rfl) ?_;simp only[zz];refine gK rfl rfl (Jv hd' hG hg0) ?_;intro w15 hE;replace hB1:=hB1.ext hE;replace hB2:=hB2.ext hE;replace hB3:=hB3.ext hE;replace hB4:=hB4.ext hE;replace hB5:=hB5.ext hE;replace hB6:=hB6.ext hE;replace hX:=hX.trans hE;clear hE;simp only[zz];refine aA aB (aA (aU rfl rfl) (aA (aU rfl rfl) ?_));simp only[zz];refine aA (aU rfl rfl) ?_;simp only[zz];refine eK cL rfl ?_;intro w16 g7 hE hg7 hB7;have hG7:=ak hX.size hg7;have hN7_1:g7≠g1:=au (ai hB1.lt hg7);have hN7_2:g7≠g2:=au (ai hB2.lt hg7);have hN7_3:g7≠g3:=au (ai hB3.lt hg7);have hN7_4:g7≠g4:=au (ai hB4.lt hg7);have hN7_5:g7≠g5:=au (ai hB5.lt hg7);have hN7_6:g7≠g6:=au (ai hB6.lt hg7);replace hB1:=hB1.ext hE;replace hB2:=hB2.ext hE;replace hB3:=hB3.ext hE;replace hB4:=hB4.ext hE;replace hB5:=hB5.ext hE;replace hB6:=hB6.ext hE;replace hX:=hX.trans hE;clear hE hg7;simp only[zz];refine eK cL rfl ?_;intro w17 g8 hE hg8 hB8;have hG8:=ak hX.size hg8;have hN8_1:g8≠g1:=au (ai hB1.lt hg8);have hN8_2:g8≠g2:=au (ai hB2.lt hg8);have hN8_3:g8≠g3:=au (ai hB3.lt hg8);have hN8_4:g8≠g4:=au (ai hB4.lt hg8);have hN8_5:g8≠g5:=au (ai hB5.lt hg8);have hN8_6:g8≠g6:=au (ai hB6.lt hg8);have hN8_7:g8≠g7:=au (ai hB7.lt hg8);replace hB3:=hB3.ext hE;replace hB5:=hB5.ext hE;replace hB7:=hB7.ext hE;replace hX:=hX.trans hE;clear hE hg8;simp only[zz];refine cE rfl (by simp only[zz];rfl) (by exact aH) hB7 (by simp) (by simp[bf]) ?_;clear hB7;intro w18 hC hB7;replace hB3:=hB3.chg hC (by first | exact hN3_7 | exact Ne.symm hN7_3);replace hB5:=hB5.chg hC (by first | exact hN5_7 | exact Ne.symm hN7_5);replace hB8:=hB8.chg hC (by first | exact hN8_7 | exact Ne.symm hN7_8);replace hX:=hX.chg hC hG7;clear hC;simp only[zy,zx,aW,ab] at hB7;refine cE rfl (by simp only[zz];rfl) (by exact aH) hB8 (by simp) (by simp[bf]) ?_;clear hB8;intro w19 hC hB8;replace hB3:=hB3.chg hC (by first | exact hN3_8 | exact Ne.symm hN8_3);replace hB5:=hB5.chg hC (by first | exact hN5_8 | exact Ne.symm hN8_5);replace hB7:=hB7.chg hC (by first | exact hN7_8 | exact Ne.symm hN8_7);replace hX:=hX.chg hC hG8;clear hC;simp only[zy,zx,aW,ab] at hB8;refine aA aD ?_;simp only[zz];refine aC (hK9 _ _ ?_);refine aF (fun K10 hK10=>aa ?_);refine aI rfl (hB5.lies aT aH rfl rfl) ?_;simp only[zz];refine aI rfl (hB7.lies aT aH rfl rfl) ?_;simp only[zz];refine aA (gS rfl rfl) ?_;simp only[zz];refine cE rfl (by simp only[zz];rfl) (by exact aK) hB3 (by simp) (by simp[bf]) ?_;clear hB3;intro w20 hC hB3;replace hX:=hX.chg hC hG3;clear hC;simp only[zy,zx,aW,ab] at hB3;refine aA aD ?_;simp only[zz];refine aC (hK10 _ _ ?_);refine bc ?_;try simp only[ac,af]
  refine kD rfl ⟨_,rfl,(hB3.lies bF aK rfl rfl)⟩ rfl ?_;try simp only[zD,zE]
  exact⟨_,rfl,hX,by rw[e1,e2] at *;rfl⟩
 ·
  have hGn:(gb n d:Int)=G:=by
   have:0<d:=by
    unfold dS at hc2;split at hc2
    · omega
    · omega
   rw[hGe,lX this];omega
  rw[hGn] at hB4;refine ar (hK6 _ _ ?_);refine aF (fun K11 hK11=>aa ?_);refine aI rfl (hB1.lies aT aH rfl rfl) ?_;simp only[zz];refine aI rfl (hB4.lies aT aH rfl rfl) ?_;simp only[zz];refine gK rfl rfl (Jv hn' hG hg0) ?_;intro w8 hE;replace hB1:=hB1.ext hE;replace hB2:=hB2.ext hE;replace hB3:=hB3.ext hE;replace hB4:=hB4.ext hE;replace hX:=hX.trans hE;clear hE;simp only[zz];refine aA aB (aA (aU rfl rfl) (aA (aU rfl rfl) ?_));simp only[zz];refine aA (aU rfl rfl) ?_;simp only[zz];refine eK cL rfl ?_;intro w9 g5 hE hg5 hB5;have hG5:=ak hX.size hg5;have hN5_1:g5≠g1:=au (ai hB1.lt hg5);have hN5_2:g5≠g2:=au (ai hB2.lt hg5);have hN5_3:g5≠g3:=au (ai hB3.lt hg5);have hN5_4:g5≠g4:=au (ai hB4.lt hg5);replace hB1:=hB1.ext hE;replace hB2:=hB2.ext hE;replace hB3:=hB3.ext hE;replace hB4:=hB4.ext hE;replace hX:=hX.trans hE;clear hE hg5;simp only[zz];refine eK cL rfl ?_;intro w10 g6 hE hg6 hB6;have hG6:=ak hX.size hg6;have hN6_1:g6≠g1:=au (ai hB1.lt hg6);have hN6_2:g6≠g2:=au (ai hB2.lt hg6);have hN6_3:g6≠g3:=au (ai hB3.lt hg6);have hN6_4:g6≠g4:=au (ai hB4.lt hg6);have hN6_5:g6≠g5:=au (ai hB5.lt hg6);replace hB1:=hB1.ext hE;replace hB2:=hB2.ext hE;replace hB3:=hB3.ext hE;replace hB4:=hB4.ext hE;replace hB5:=hB5.ext hE;replace hX:=hX.trans hE;clear hE hg6;simp only[zz];refine cE rfl (by simp only[zz];rfl) (by exact aH) hB5 (by simp) (by simp[bf]) ?_;clear hB5;intro w11 hC hB5;replace hB1:=hB1.chg hC (by first | exact hN1_5 | exact Ne.symm hN5_1);replace hB2:=hB2.chg hC (by first | exact hN2_5 | exact Ne.symm hN5_2);replace hB3:=hB3.chg hC (by first | exact hN3_5 | exact Ne.symm hN5_3);replace hB4:=hB4.chg hC (by first | exact hN4_5 | exact Ne.symm hN5_4);replace hB6:=hB6.chg hC (by first | exact hN6_5 | exact Ne.symm hN5_6);replace hX:=hX.chg hC hG5;clear hC;simp only[zy,zx,aW,ab] at hB5;refine cE rfl (by simp only[zz];rfl) (by exact aH) hB6 (by simp) (by simp[bf]) ?_;clear hB6;intro w12 hC hB6;replace hB1:=hB1.chg hC (by first | exact hN1_6 | exact Ne.symm hN6_1);replace hB2:=hB2.chg hC (by first | exact hN2_6 | exact Ne.symm hN6_2);replace hB3:=hB3.chg hC (by first | exact hN3_6 | exact Ne.symm hN6_3);replace hB4:=hB4.chg hC (by first | exact hN4_6 | exact Ne.symm hN6_4);replace hB5:=hB5.chg hC (by first | exact hN5_6 | exact Ne.symm hN6_5);replace hX:=hX.chg hC hG6;clear hC;simp only[zy,zx,aW,ab] at hB6;refine aA aD ?_;simp only[zz];refine aC (hK11 _ _ ?_);refine aF (fun K12 hK12=>aa ?_);refine aI rfl (hB2.lies aT aH rfl rfl) ?_;simp only[zz];refine aI rfl (hB4.lies aT aH rfl rfl) ?_;simp only[zz];refine gK rfl rfl (Jv hd' hG hg0) ?_;intro w13 hE;replace hB1:=hB1.ext hE;replace hB2:=hB2.ext hE;replace hB3:=hB3.ext hE;replace hB4:=hB4.ext hE;replace hB5:=hB5.ext hE;replace hB6:=hB6.ext hE;replace hX:=hX.trans hE;clear hE;simp only[zz];refine aA aB (aA (aU rfl rfl) (aA (aU rfl rfl) ?_));simp only[zz];refine aA (aU rfl rfl) ?_;simp only[zz];refine eK cL rfl ?_;intro w14 g7 hE hg7 hB7;have hG7:=ak hX.size hg7;have hN7_1:g7≠g1:=au (ai hB1.lt hg7);have hN7_2:g7≠g2:=au (ai hB2.lt hg7);have hN7_3:g7≠g3:=au (ai hB3.lt hg7);have hN7_4:g7≠g4:=au (ai hB4.lt hg7);have hN7_5:g7≠g5:=au (ai hB5.lt hg7);have hN7_6:g7≠g6:=au (ai hB6.lt hg7);replace hB1:=hB1.ext hE;replace hB2:=hB2.ext hE;replace hB3:=hB3.ext hE;replace hB4:=hB4.ext hE;replace hB5:=hB5.ext hE;replace hB6:=hB6.ext hE;replace hX:=hX.trans hE;clear hE hg7;simp only[zz];refine eK cL rfl ?_;intro w15 g8 hE hg8 hB8;have hG8:=ak hX.size hg8;have hN8_1:g8≠g1:=au (ai hB1.lt hg8);have hN8_2:g8≠g2:=au (ai hB2.lt hg8);have hN8_3:g8≠g3:=au (ai hB3.lt hg8);have hN8_4:g8≠g4:=au (ai hB4.lt hg8);have hN8_5:g8≠g5:=au (ai hB5.lt hg8);have hN8_6:g8≠g6:=au (ai hB6.lt hg8);have hN8_7:g8≠g7:=au (ai hB7.lt hg8);replace hB3:=hB3.ext hE;replace hB5:=hB5.ext hE;replace hB7:=hB7.ext hE;replace hX:=hX.trans hE;clear hE hg8;simp only[zz];refine cE rfl (by simp only[zz];rfl) (by exact aH) hB7 (by simp) (by simp[bf]) ?_;clear hB7;intro w16 hC hB7;replace hB3:=hB3.chg hC (by first | exact hN3_7 | exact Ne.symm hN7_3);replace hB5:=hB5.chg hC (by first | exact hN5_7 | exact Ne.symm hN7_5);replace hB8:=hB8.chg hC (by first | exact hN8_7 | exact Ne.symm hN7_8);replace hX:=hX.chg hC hG7;clear hC;simp only[zy,zx,aW,ab] at hB7;refine cE rfl (by simp only[zz];rfl) (by exact aH) hB8 (by simp) (by simp[bf]) ?_;clear hB8;intro w17 hC hB8;replace hB3:=hB3.chg hC (by first | exact hN3_8 | exact Ne.symm hN8_3);replace hB5:=hB5.chg hC (by first | exact hN5_8 | exact Ne.symm hN8_5);replace hB7:=hB7.chg hC (by first | exact hN7_8 | exact Ne.symm hN8_7);replace hX:=hX.chg hC hG8;clear hC;simp only[zy,zx,aW,ab] at hB8;refine aA aD ?_;simp only[zz];refine aC (hK12 _ _ ?_);refine aF (fun K13 hK13=>aa ?_);refine aI rfl (hB5.lies aT aH rfl rfl) ?_;simp only[zz];refine aI rfl (hB7.lies aT aH rfl rfl) ?_;simp only[zz];refine aA (gS rfl rfl) ?_;simp only[zz];refine cE rfl (by simp only[zz];rfl) (by exact aK) hB3 (by simp) (by simp[bf]) ?_;clear hB3;intro w18 hC hB3;replace hX:=hX.chg hC hG3;clear hC;simp only[zy,zx,aW,ab] at hB3;refine aA aD ?_;simp only[zz];refine aC (hK13 _ _ ?_);refine bc ?_;try simp only[ac,af]
  refine kD rfl ⟨_,rfl,(hB3.lies bF aK rfl rfl)⟩ rfl ?_;try simp only[zD,zE]
  exact⟨_,rfl,hX,by rw[e1,e2] at *;rfl⟩
theorem vZ{q:Rat}(hq:Bq 400000 q):eB prog 50 [Q q] (Q q):=by
 intro w;refine⟨aeO,?_⟩;have hX:=dU.refl w;have h0:(0:Int)<q.den:=by have:=q.den_pos;omega
 have hd:=hq.d.mono (show 400000≤1000000 by decide)
 go_enter func50,ntmps50
 refine aF (fun K1 hK1=>aa ?_);refine gX (by simp only[zz];rfl) ?_;intro w1 g1 hE hg1 hB1;have hG1:=ak hX.size hg1;replace hX:=hX.trans hE;clear hE hg1;simp only[zz];refine eK cF rfl ?_;intro w2 g2 hE hg2 hB2;have hG2:=ak hX.size hg2;have hN2_1:g2≠g1:=au (ai hB1.lt hg2);replace hB1:=hB1.ext hE;replace hX:=hX.trans hE;clear hE hg2;simp only[zz];refine aC (hK1 _ _ ?_);refine aF (fun K2 hK2=>aF (fun K3 hK3=>aa (aA (aG (c:=1) lS rfl aH rfl rfl) ?_)));simp only[zz];refine aI rfl (hB1.lies aT aH rfl rfl) ?_;simp only[zz];refine gK rfl rfl (mQ (a:=(q.den:Int)) hd) ?_;intro w3 hE;replace hB1:=hB1.ext hE;replace hB2:=hB2.ext hE;replace hX:=hX.trans hE;clear hE;simp only[zz];refine aA (Dh rfl rfl (by rw[lX h0];decide)) ?_;simp only[zz];refine aC (hK3 _ _ ?_);refine eZ rfl (ar ?_);refine hK2 _ _ (aF (fun K4 hK4=>aa ?_));refine aI rfl (hB1.lies bF aK rfl rfl) ?_;simp only[zz];refine cE rfl (by simp only[zz];rfl) (by exact aK) hB2 (by simp) (by simp[bf]) ?_;clear hB2;intro w4 hC hB2;replace hX:=hX.chg hC hG2;clear hC;simp only[zy,zx,aW,ab] at hB2;refine aC (hK4 _ _ ?_);refine bc ?_;try simp only[ac,af]
 refine bY rfl ⟨_,rfl,(hB2.lies bF aK rfl rfl)⟩ ?_;try simp only[zD,zE]
 exact⟨_,rfl,hX,rfl⟩
theorem kJ{p q:Rat}(hp:Bq 400000 p)(hq:Bq 400000 q):eB prog 34 [Q p,Q q] (.int .i64 (Jt p q)):=by
 intro w;refine⟨aey,?_⟩;have hX:=dU.refl w
 go_enter func34,ntmps34
 refine aF (fun K1 hK1=>aa ?_);refine gX (by simp only[zz];rfl) ?_;intro w1 g1 hE hg1 hB1;have hG1:=ak hX.size hg1;replace hX:=hX.trans hE;clear hE hg1;simp only[zz];refine gX (by simp only[zz];rfl) ?_;intro w2 g2 hE hg2 hB2;have hG2:=ak hX.size hg2;have hN2_1:g2≠g1:=au (ai hB1.lt hg2);replace hB1:=hB1.ext hE;replace hX:=hX.trans hE;clear hE hg2;simp only[zz];refine aA aD ?_;simp only[zz];refine aC (hK1 _ _ ?_);refine aF (fun K2 hK2=>aa ?_);refine aI rfl (hB1.lies bF aK rfl rfl) ?_;simp only[zz];refine gK rfl rfl (vZ hp) ?_;intro w3 hE;replace hB1:=hB1.ext hE;replace hB2:=hB2.ext hE;replace hX:=hX.trans hE;clear hE;simp only[zz];refine eK cF rfl ?_;intro w4 g3 hE hg3 hB3;have hG3:=ak hX.size hg3;have hN3_1:g3≠g1:=au (ai hB1.lt hg3);have hN3_2:g3≠g2:=au (ai hB2.lt hg3);replace hB1:=hB1.ext hE;replace hB2:=hB2.ext hE;replace hX:=hX.trans hE;clear hE hg3;simp only[zz];refine cE rfl (by simp only[zz];rfl) (by exact aK) hB3 (by simp) (by simp[bf]) ?_;clear hB3;intro w5 hC hB3;replace hB1:=hB1.chg hC (by first | exact hN1_3 | exact Ne.symm hN3_1);replace hB2:=hB2.chg hC (by first | exact hN2_3 | exact Ne.symm hN3_2);replace hX:=hX.chg hC hG3;clear hC;simp only[zy,zx,aW,ab] at hB3;refine aC (hK2 _ _ ?_);refine aF (fun K3 hK3=>aa ?_);refine aI rfl (hB2.lies bF aK rfl rfl) ?_;simp only[zz];refine gK rfl rfl (vZ hq) ?_;intro w6 hE;replace hB1:=hB1.ext hE;replace hB2:=hB2.ext hE;replace hB3:=hB3.ext hE;replace hX:=hX.trans hE;clear hE;simp only[zz];refine eK cF rfl ?_;intro w7 g4 hE hg4 hB4;have hG4:=ak hX.size hg4;have hN4_1:g4≠g1:=au (ai hB1.lt hg4);have hN4_2:g4≠g2:=au (ai hB2.lt hg4);have hN4_3:g4≠g3:=au (ai hB3.lt hg4);replace hB3:=hB3.ext hE;replace hX:=hX.trans hE;clear hE hg4;simp only[zz];refine cE rfl (by simp only[zz];rfl) (by exact aK) hB4 (by simp) (by simp[bf]) ?_;clear hB4;intro w8 hC hB4;replace hB3:=hB3.chg hC (by first | exact hN3_4 | exact Ne.symm hN4_3);replace hX:=hX.chg hC hG4;clear hC;simp only[zy,zx,aW,ab] at hB4;refine aC (hK3 _ _ ?_);refine aF (fun K4 hK4=>?_);refine iH aP (by kernel_rfl) (aQ (aG (c:=1) lS rfl aH rfl rfl) ?_);simp only[zz];refine iA rfl (fun _ hE'=>((hB3.ext hE').lies aT aH rfl rfl)) ?_;simp only[zz];refine aQ (aG (c:=1) lS rfl aH rfl rfl) ?_;simp only[zz];refine iA rfl (fun _ hE'=>((hB4.ext hE').lies aT aH rfl rfl)) ?_;simp only[zz];refine oO rfl rfl (gI (a:=p.num) (b:=(q.den:Int)) (hp.n.mono (by decide)) (hq.d.mono (by decide))) ?_;simp only[zz];refine aQ (aG (c:=1) lS rfl aH rfl rfl) ?_;simp only[zz];refine iA rfl (fun _ hE'=>((hB4.ext hE').lies aT aH rfl rfl)) ?_;simp only[zz];refine aQ (aG (c:=1) lS rfl aH rfl rfl) ?_;simp only[zz];refine iA rfl (fun _ hE'=>((hB3.ext hE').lies aT aH rfl rfl)) ?_;simp only[zz];refine oO rfl rfl (gI (a:=q.num) (b:=(p.den:Int)) (hq.n.mono (by decide)) (hp.d.mono (by decide))) ?_;simp only[zz];refine oO rfl rfl (adq ((hp.n.mul hq.d).mono (by decide)) ((hq.n.mul hp.d).mono (by decide))) ?_;simp only[zz];refine aQ aD ?_;simp only[zz];refine eD ?_;intro w9 hE;replace hX:=hX.trans hE;clear hE;refine hK4 _ _ (bc ?_);try simp only[ac,af]
 refine bY rfl rfl ?_;try simp only[zD,zE]
 exact⟨_,rfl,hX,rfl⟩
end Go.Proofs.YtimjandkmfcmiaaGreatDoor
namespace Go.Lith
open Go.RowKit
inductive qA where
 | nil:qA
 | take:Nat→qA→qA
 | one:Nat→qA→qA
 | two:Nat→qA→Nat→qA→qA
 | three:Nat→qA→Nat→qA→Nat→qA→qA
section
variable {P:Program} {ops:Array Oper} {md:Region.Mode} {S:aw→Prop}
def qA.ok(md:Region.Mode)(ops:Array Oper):qA→Nat→Array Bool→Bool
 | .nil,f,listed=>f == 0&&(Region.ready md ops listed).isEmpty
 | .take i t,f,listed=>decide (0<f)&&(ops[i]?).isSome&&Region.free md ops listed i&&(Region.ready md ops listed).contains i&&t.ok md ops (f-1) (listed.setIfInBounds i true)
 | .one i t,f,listed=>decide (0<f)&&(ops[i]?).isSome&&decide (Region.ready md ops listed=[i])&&t.ok md ops (f-1) (listed.setIfInBounds i true)
 | .two i t j u,f,listed=>decide (0<f)&&(ops[i]?).isSome&&(ops[j]?).isSome&&decide (Region.ready md ops listed=[i,j])&&t.ok md ops (f-1) (listed.setIfInBounds i true)&&u.ok md ops (f-1) (listed.setIfInBounds j true)
 | .three i t j u k v,f,listed=>decide (0<f)&&(ops[i]?).isSome&&(ops[j]?).isSome&&(ops[k]?).isSome&&decide (Region.ready md ops listed=[i,j,k])&&t.ok md ops (f-1) (listed.setIfInBounds i true)&&u.ok md ops (f-1) (listed.setIfInBounds j true)&&v.ok md ops (f-1) (listed.setIfInBounds k true)
def eJ(P:Program)(ops:Array Oper)(S:aw→Prop)(Q:Exit→Act→aw→Prop):qA→Act→aw→Prop
 | .nil,a,w=>Q .normal a w
 | .take i t,a,w=>eO P ops S (fun _ a w=>eJ P ops S Q t a w) [((ops[i]?).getD default,true)] a w
 | .one i t,a,w=>bh P ops (af (fun a w=>S w∧eJ P ops S Q t a w) Q) [(ops[i]?).getD default] a w
 | .two i t j u,a,w=>bh P ops (af (fun a w=>S w∧eJ P ops S Q t a w) Q) [(ops[i]?).getD default] a w∧bh P ops (af (fun a w=>S w∧eJ P ops S Q u a w) Q) [(ops[j]?).getD default] a w
 | .three i t j u k v,a,w=>bh P ops (af (fun a w=>S w∧eJ P ops S Q t a w) Q) [(ops[i]?).getD default] a w∧bh P ops (af (fun a w=>S w∧eJ P ops S Q u a w) Q) [(ops[j]?).getD default] a w∧bh P ops (af (fun a w=>S w∧eJ P ops S Q v a w) Q) [(ops[k]?).getD default] a w
theorem lB{Q:Exit→Act→aw→Prop}{K:Act→aw→Prop}{i:Nat}{o:Oper}(ho:ops[i]? = some o){a:Act}{w:aw}(h:bh P ops (af K Q) [o] a w):wpOp P ops Q i K a w:=by
 unfold wpOp;simp only[ho];simp only[bh] at h;split
 · rename_i hw
   rw[if_pos hw] at h;rcases h with h | ⟨ha,x,y,hl⟩
   · refine .inl ?_
     unfold Oper.wp at h ⊢;generalize (execOp a.eval o).run P w=res at *
     cases res with
     | ok n w' =>
      cases n <;> simp only[Oper.upon] at h ⊢ <;>
       first
        | exact h
        | exact Calls.mono h (fun e w'' he=>by cases e <;> exact he)
        | exact Rows.mono h (fun _ _ he=>he)
     | halt x w'=>cases x <;> simp only[Oper.upon] at h ⊢ <;> exact h
   · exact .inr ⟨ha,x,y,hl⟩
 · rename_i hw
   rw[if_neg hw] at h;exact h
theorem jD{Q:Exit→Act→aw→Prop}(hs:Region.noSelect ops=true)(hQ:∀c d v a w,Q (.panic c) (Act.put a d v) w→Q (.panic c) a w):∀(t:qA) (f:Nat) (listed:Array Bool) (a:Act) (w:aw),
 t.ok md ops f listed=true→S w→eJ P ops S Q t a w→wpAnyH P md ops Q S f listed a w
 | .nil,f,listed,a,w,hB,_,h=>by
  simp only[qA.ok,bu,beq_iff_eq] at hB;obtain⟨rfl,h2⟩:=hB;exact⟨by simpa using h2,h⟩
 | .take i t,f,listed,a,w,hB,hS,h=>by
  simp only[qA.ok,bu,decide_eq_true_eq] at hB;obtain⟨⟨⟨⟨h0,h1⟩,h2⟩,h3⟩,h4⟩:=hB;obtain⟨o,ho⟩:=dg.1 h1;simp only[eJ,eO,ho,dt] at h;obtain⟨v,hy,hr⟩:=h;obtain⟨f,rfl⟩:∃g,f=g+1:=⟨f-1,by omega⟩
  exact wpAnyH_take ho hs h2 h3 (fun c a w=>hQ c _ v a w) hy hS (jD hs hQ t f _ _ _ h4 hS hr)
 | .one i t,f,listed,a,w,hB,hS,h=>by
  simp only[qA.ok,bu,decide_eq_true_eq] at hB;obtain⟨⟨⟨h0,h1⟩,h2⟩,h4⟩:=hB;obtain⟨o,ho⟩:=dg.1 h1;obtain⟨f,rfl⟩:∃g,f=g+1:=⟨f-1,by omega⟩
  refine wpAnyH_all h2 (by simp) fun j hj=>?_;obtain rfl:j=i:=by simpa using hj
  simp only[eJ,ho,dt] at h;exact wpOp_mono (fun a' w' hh=>⟨hh.1,jD hs hQ t f _ a' w' h4 hh.1 hh.2⟩) (lB ho h)
 | .two i t j u,f,listed,a,w,hB,hS,h=>by
  simp only[qA.ok,bu,decide_eq_true_eq] at hB;obtain⟨⟨⟨⟨⟨h0,h1⟩,h1'⟩,h2⟩,h4⟩,h5⟩:=hB;obtain⟨o,ho⟩:=dg.1 h1;obtain⟨o',ho'⟩:=dg.1 h1';obtain⟨f,rfl⟩:∃g,f=g+1:=⟨f-1,by omega⟩
  simp only[eJ,ho,ho',dt] at h;refine wpAnyH_all h2 (by simp) fun k hk=>?_;have hk':k=i∨k=j:=by simpa using hk
  rcases hk' with rfl | rfl
  · exact wpOp_mono (fun a' w' hh=>⟨hh.1,jD hs hQ t f _ a' w' h4 hh.1 hh.2⟩) (lB ho h.1)
  · exact wpOp_mono (fun a' w' hh=>⟨hh.1,jD hs hQ u f _ a' w' h5 hh.1 hh.2⟩) (lB ho' h.2)
 | .three i t j u k v,f,listed,a,w,hB,hS,h=>by
  simp only[qA.ok,bu,decide_eq_true_eq] at hB;obtain⟨⟨⟨⟨⟨⟨⟨h0,h1⟩,h1'⟩,h1''⟩,h2⟩,h4⟩,h5⟩,h6⟩:=hB;obtain⟨o,ho⟩:=dg.1 h1;obtain⟨o',ho'⟩:=dg.1 h1';obtain⟨o'',ho''⟩:=dg.1 h1'';obtain⟨f,rfl⟩:∃g,f=g+1:=⟨f-1,by omega⟩
  simp only[eJ,ho,ho',ho'',dt] at h;refine wpAnyH_all h2 (by simp) fun m hm=>?_;have hm':m=i∨m=j∨m=k:=by simpa using hm
  rcases hm' with rfl | rfl | rfl
  · exact wpOp_mono (fun a' w' hh=>⟨hh.1,jD hs hQ t f _ a' w' h4 hh.1 hh.2⟩) (lB ho h.1)
  · exact wpOp_mono (fun a' w' hh=>⟨hh.1,jD hs hQ u f _ a' w' h5 hh.1 hh.2⟩) (lB ho' h.2.1)
  · exact wpOp_mono (fun a' w' hh=>⟨hh.1,jD hs hQ v f _ a' w' h6 hh.1 hh.2⟩) (lB ho'' h.2.2)
theorem Ea{id:Nat}{Q:Exit→Act→aw→Prop}{a:Act}{w:aw}{l:List Oper}(t:qA)(hm:P.follows .mixedOrders=true)(hB:(Region.noSelect l.toArray&&t.ok .any l.toArray l.toArray.size (Array.replicate l.toArray.size false))=true)
 (hQ:∀c d v a w,Q (.panic c) (Act.put a d v) w→Q (.panic c) a w)
 (h:∀w',dU w w'→∃S,kF w' S∧eJ P l.toArray S Q t a w'):(Code.region id l.toArray true).wp P Q a w:=by
 simp only[bu] at hB;obtain⟨S,hS,h⟩:=h _ (dU.refl w).drawn;exact wp_region_held (S:=S) hm (jD (md:=.any) hB.1 hQ t _ _ a _ hB.2 hS h)
variable {Q:Exit→Act→aw→Prop} {a:Act} {w:aw} {o o':Oper} {i j:Nat} {t u:qA}
theorem eV(h:Q .normal a w):eJ P ops S Q .nil a w:=h
theorem aY(ho:(ops[i]?).getD default=o)(h:eO P ops S (fun _ a w=>eJ P ops S Q t a w) [(o,true)] a w):eJ P ops S Q (.take i t) a w:=by subst ho;exact h
theorem bQ(ho:(ops[i]?).getD default=o)(h:bh P ops (af (fun a w=>S w∧eJ P ops S Q t a w) Q) [o] a w):eJ P ops S Q (.one i t) a w:=by subst ho;exact h
theorem iM(ho:(ops[i]?).getD default=o)(ho':(ops[j]?).getD default=o')(h:bh P ops (af (fun a w=>S w∧eJ P ops S Q t a w) Q) [o] a w)(h':bh P ops (af (fun a w=>S w∧eJ P ops S Q u a w) Q) [o'] a w):eJ P ops S Q (.two i t j u) a w:=by
 subst ho;subst ho';exact⟨h,h'⟩
end
end Go.Lith
namespace Go.Lith
open Go.RowKit
end Go.Lith
namespace Go.Proofs.YtimjandkmfcmiaaGreatDoor
open Go.Proofs.Tryz
open Go.RowKit Go.Lith
set_option maxRecDepth 100000
attribute [local irreducible] bh ck eY Code.wp
end Go.Proofs.YtimjandkmfcmiaaGreatDoor
