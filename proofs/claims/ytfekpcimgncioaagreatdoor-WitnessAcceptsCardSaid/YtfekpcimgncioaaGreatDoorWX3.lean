/-
 Texts of one claim, laid together: Vg, Vs, Cj, Vj, Sort, Sets, Box, Wa, Wb, Wc, Wd, Dig, Dig2, Dig3, Cst, We, Wf, Wg, Wh, Wi, Ca, Near, Cb, Cc, Wk, Wl, Wm, Wn, Cd, Ce, Cf, Cg, Qd, Vt, Vu.
-/
import Derived.Shelf.SlSortCmp.WholeK
import Derived.Shelf.SlSortCmp.NoneTotal
import Derived.Test.YtfekpcimgncioaaGreatDoorWX2
open Go renaming Value→ak,World→am,wpList→au,TypeId→ay,Program→bz,Operand→cd,wpQuiet→cq,Deferred→dl
open List renaming mem_cons→ao,getElem?_eq_getElem→ar,getElem?_eq_some_iff→ax,length_cons→az,length_append→a_,flatMap_append→be,take_of_length_le→bf,mem_singleton→bg,map_cons→bi,mem_cons_self→bj,mem_cons_of_mem→bm,mem_of_getElem?→bn,pairwise_cons→bq,mem_append→br,not_mem_nil→bt,length_take→bx,length_nil→b_,flatMap_cons→ci,mem_map→cu,map_append→cz,mem_filter→c_,mem_flatMap→df,append_assoc→dh,length_map→dm,all_eq_true→dt,any_eq_true→d_,mem_iff_getElem?→ej,filter_cons→ep,append_nil→fe,getElem?_eq_none→fm,getElem?_take→fq,filter_append→fx,nodup_cons→fz,ext_getElem?→gg,set_cons_succ→gl,range→gm,mem_range→gn,drop_of_length_le→gp,pairwise_append→gu,length_drop→ip,foldl_append→iu,getElem?_cons_succ→jc,filter_cons_of_neg→jd,getD_eq_getElem?_getD→jf,nodup_append→jj,take_append_drop→jm,foldl_cons→jp,pairwise_singleton→jq,filter_cons_of_pos→jr,toArray→jw,flatMap_nil→ki,length_range→ky,pairwise_map→la,getElem?_toArray→lz,filter_nil→mb,takeWhile_append_dropWhile→mn,takeWhile_cons→mp,length_pos_iff_exists_mem→my,any_eq_false→ob,take_add_one→ox,dropWhile_cons→po,Nodup→qk
open Nat renaming zero_add→ap,le_refl→av,zero_le→bw,lt_or_ge→dz,le_of_not_lt→gv,mod_eq_of_lt→lp,sub_self→ov,strongRecOn→qo
open Bool renaming and_eq_true→bh,false_ne_true→ei,eq_iff_iff→ii,or_eq_true→im,false_eq_true→pv
open Go.Oper renaming mk→bp
open Go.Exit renaming inBlock→bu
open Option renaming getD_some→de,bind_some→gw,bind_eq_some_iff→ir
open Array renaming getElem?_eq_some_iff→dj,getElem?_toList→fv,getElem?_eq_getElem→ig,getElem?_modify→kg
open Prod.mk renaming injEq→fc
open Option.some renaming inj→fh
open List.Pairwise renaming nil→kz,imp→oa
open Int renaming tdiv_eq_ediv_of_nonneg→lw
open Prod renaming ext→pa,snd→qh,fst→qz
set_option linter.unusedSimpArgs false
set_option linter.unusedVariables false
set_option linter.unusedSectionVars false
namespace Go.Lith
open Go.RowKit
variable{P:bz}{T:ay}{n:Nat}{α:Type}{w0:am}{is:List It}{op:Op}{q:Prop}{ops:Array Oper}{c:Code}
inductive Ko where
 | c (c:Code)
 | b (id:Nat)
 | o (ops:Array Oper) (rest:List Oper)
 | k (K:Act→am→Prop)
 | r (c:Code) (n:Nat)
def Ct(P:bz)(R:Exit→Act→am→Prop):List Ko→Exit→Act→am→Prop
 | []=>R
 | .c c::s=>Exit.then (c.wp P (Ct P R s)) (Ct P R s)
 | .b id::s=>bu id (Ct P R s)
 | .o ops rest::s=>Exit.then (au P ops (Ct P R s) rest) (Ct P R s)
 | .k K::s=>Exit.then K (Ct P R s)
 | .r c n::s=>Exit.then (Code.rounds P c (Ct P R s) n) (Ct P R s)
def Gt(P:bz)(R:Exit→Act→am→Prop)(s:List Ko)(a:Act)(w:am):Prop:=Ct P R s .normal a w
theorem ajV{P:bz}{R:Exit→Act→am→Prop}{a:Act}{w:am}(h:R .ret a w):∀s,Ct P R s .ret a w
 | []=>h
 | .c _::s | .b _::s | .o _ _::s | .k _::s | .r _ _::s=>ajV h s
/-! ### Values taken apart -/
def tJ(v:ak)(f:IntKind→Int→Prop):Prop:=match v with | .int k m=>f k m | _=>False
def vvB(v:ak)(f:Bool→Prop):Prop:=match v with | .bool b=>f b | _=>False
def vvP(v:ak)(f:Addr→Prop):Prop:=match v with | .pointer (some a)=>f a | _=>False
def vvS(v:ak)(f:Option Addr→Nat→Nat→Prop):Prop:=match v with | .slice a n c=>f a n c | _=>False
def vvA(v:ak)(f:List ak→Prop):Prop:=match v with | .agg cs=>f cs.toList | _=>False
def vvT(v:ak)(f:List ak→Prop):Prop:=match v with | .tuple cs=>f cs.toList | _=>False
def Cm{α:Type}(o:Option α)(f:α→Prop):Prop:=match o with | some x=>f x | none=>False
def vbX(b:Bool)(p q:Prop):Prop:=match b with | true=>p | false=>q
def vnX(n:Nat)(p:Prop):Prop:=match n with | 0=>False | _+1=>p
def vnE:Nat→Nat→Prop→Prop→Prop
 | 0,0,p,_=>p
 | n+1,m+1,p,q=>vnE n m p q
 | _,_,_,q=>q
def Mb:List ak→Nat→(ak→Prop)→Prop
 | x::_,0,f=>f x
 | _::l,n+1,f=>Mb l n f
 | [],_,_=>False
def Hm:List ak→Nat→Prop
 | [],0=>True
 | _::l,n+1=>Hm l n
 | _,_=>False
theorem Ft:∀{l:List ak} {n:Nat},Hm l n→l.length=n
 | [],0,_=>rfl
 | _::l,n+1,h=>by rw[az,Ft (l:=l) h]
theorem Pt:∀{l:List ak} {n:Nat} {f:ak→Prop},Mb l n f→∃v,l[n]? = some v∧f v
 | x::_,0,_,h=>⟨x,rfl,h⟩
 | _::l,n+1,_,h=>by rw[jc];exact Pt (l:=l) h
def aao:List ak→Prop
 | []=>True
 | v::l=>v.oneCell'=true∧aao l
theorem afE:∀{l:List ak},aao l→(l.all (·.oneCell'))=true
 | [],_=>rfl
 | v::l,h=>by rw[List.all_cons,h.1,afE (l:=l) h.2];rfl
def InR(k:IntKind)(n:Int):Prop:=match k with
 | .i64=>-9223372036854775808≤n∧n<9223372036854775808
 | .i32=>-2147483648≤n∧n<2147483648
 | .u64=>0≤n∧n<18446744073709551616
 | .u32=>0≤n∧n<4294967296
 | .u8=>0≤n∧n<256
 | _=>False
theorem InR.wrap{k:IntKind}{n:Int}(h:InR k n):k.wrap n=n:=by
 cases k <;> first | exact h.elim | exact bH h.1 h.2 | exact aiG h.1 h.2 | exact kQ h.1 h.2 | exact aiF h.1 h.2 | exact amO h.1 h.2
/-! ### Types -/
def sS(P:bz)(T:ay):Option (Bool × Nat):=match P.underlying T,P.info? T with
 | some d,some i=>some (Fb d,i.size)
 | _,_=>none
theorem Ay{b:Bool}(h:sS P T=some (b,n)):fP P T b∧dQ P T n:=by
 unfold sS at h;split at h
 · rename_i d i h1 h2
   cases h;exact⟨⟨d,h1,O⟩,⟨i,h2,O⟩⟩
 · cases h
def lQ(P:bz)(T:ay)(i:Nat):Option (Nat × Bool × Nat):=match P.underlying T with
 | some (.struct fs)=>match fs[i]? with
  | some f=>(sS P f.type).map fun x=>(f.offset,x)
  | none=>none
 | _=>none
theorem afF{i o:Nat}{b:Bool}(h:lQ P T i=some (o,b,n)):∃fs f,P.underlying T=some (.struct fs)∧fs[i]? = some f∧f.offset=o∧fP P f.type b∧dQ P f.type n:=by
 unfold lQ at h;split at h
 · rename_i fs hu
   split at h
   · rename_i f hf
     cases hs:sS P f.type with
     | none=>rw[hs] at h;cases h
     | some x =>
      obtain⟨b',n'⟩:=x;rw[hs] at h;cases h;exact⟨fs,f,hu,hf,O,(Ay hs).1,(Ay hs).2⟩
   · cases h
 · cases h
def ixP(P:bz)(T:ay):Option (Option Nat × Nat):=match P.underlying T with
 | some (.array n E)=>(sS P E).map fun x=>(some n,x.2)
 | some (.slice E)=>(sS P E).map fun x=>(none,x.2)
 | _=>none
def Hn(P:bz)(T:ay):Option ay:=match P.underlying T with
 | some (.slice E)=>some E
 | _=>none
theorem anv{E:ay}(h:Hn P T=some E):P.underlying T=some (.slice E):=by
 unfold Hn at h;split at h
 · rename_i E' hu;cases h;exact hu
 · cases h
def ikP(P:bz)(T:ay):Option IntKind:=match P.underlying T with
 | some (.int k)=>some k
 | _=>none
theorem ajW{k:IntKind}(h:ikP P T=some k):P.underlying T=some (.int k):=by
 unfold ikP at h;split at h
 · rename_i k' hu;cases h;exact hu
 · cases h
def Jv(P:bz)(T:ay):Option (List ak):=((P.info? T).bind (·.zero)).map (·.cells.toList)
theorem aap{cs:List ak}(h:Jv P T=some cs):∃z,pU P T z∧z.cells=cs.toArray:=by
 unfold Jv at h;cases hz:(P.info? T).bind (·.zero) with
 | none=>rw[hz] at h;cases h
 | some z=>rw[hz] at h;cases h;exact⟨z,lR hz,by simp⟩
def Az(P:bz)(T:ay):Option (List (Nat × Nat) × List ak):=match P.underlying T,Jv P T with
 | some (.struct fs),some z=>(fs.toList.mapM fun (f:Field)=>(sS P f.type).map fun x=>(f.offset,x.2)).map fun l=>(l,z)
 | some (.array n E),some z=>(sS P E).map fun x=>((gm n).map fun i=>(i*x.2,x.2),z)
 | _,_=>none
def aaq:List (Nat × Nat)→Nat→(Nat × Nat→Prop)→Prop
 | x::_,0,f=>f x
 | _::l,n+1,f=>aaq l n f
 | [],_,_=>False
def blV(l:List ak)(pl:List (Nat × Nat)):List (Nat × cd)→List ak→Prop→(Prop→List ak→Prop)→Prop
 | [],cs,q,f=>f q cs
 | (i,x)::ps,cs,q,f=>aaq pl i fun z=>vnX z.2 (blV l pl ps (bQ cs z.1 (ev l x).cells.toList) (Hm (ev l x).cells.toList z.2∧Hm ((cs.drop z.1).take z.2) z.2∧q) f)
/-! ### Operations -/
def vvX(n:Option Nat)(v:ak)(f:Addr→Nat→Prop):Prop:=match n with
 | some n=>vvP v fun a=>f a n
 | none=>vvS v fun A n _=>Cm A fun a=>f a n
abbrev KV:Type:=Prop→ak→List Nat→List It→Prop
variable{K:KV}
def cV(sc:List Nat)(p:Prop)[Decidable p](K:KV)(is:List It):Prop:=match sc with
 | 0::sc=>K True (.bool (decide p)) sc is
 | 1::sc=>K p (.bool true) sc is
 | 2::sc=>K (¬p) (.bool false) sc is
 | _=>False
def biV(b:BinOp)(x y:ak)(sc:List Nat)(is:List It)(K:KV):Prop:=match b with
 | .add=>tJ x fun k m=>tJ y fun k' n=>K (k'=k∧InR k (m+n)) (.int k (m+n)) sc is
 | .sub=>tJ x fun k m=>tJ y fun k' n=>K (k'=k∧InR k (m-n)) (.int k (m-n)) sc is
 | .mul=>tJ x fun k m=>tJ y fun k' n=>K (k'=k∧InR k (m*n)) (.int k (m*n)) sc is
 | .lss=>tJ x fun k m=>tJ y fun k' n=>cV sc (m<n) (fun p=>K (k'=k∧p)) is
 | .leq=>tJ x fun k m=>tJ y fun k' n=>cV sc (m≤n) (fun p=>K (k'=k∧p)) is
 | .gtr=>tJ x fun k m=>tJ y fun k' n=>cV sc (n<m) (fun p=>K (k'=k∧p)) is
 | .geq=>tJ x fun k m=>tJ y fun k' n=>cV sc (n≤m) (fun p=>K (k'=k∧p)) is
 | .eql=>tJ x fun k m=>tJ y fun k' n=>cV sc (m=n) (fun p=>K (k'=k∧p)) is
 | .neq=>tJ x fun k m=>tJ y fun k' n=>cV sc (m≠n) (fun p=>K (k'=k∧p)) is
 | _=>False
abbrev Ob:Type:=Nat × List ak × ay
def atO:List Ob→Nat→(Ob→Prop)→Prop
 | x::_,0,f=>f x
 | _::l,n+1,f=>atO l n f
 | [],_,_=>False
def atB:List It→List Ob→Nat→(Ob→Prop)→Prop
 | i::_,_,0,f=>Cm i.bk f
 | _::is,os,n+1,f=>atB is os n f
 | [],os,n,f=>atO os n f
def atM:List It→Nat→(Ob→Prop)→Prop
 | i::_,0,f=>Cm i.bk f
 | _::is,n+1,f=>atM is n f
 | [],_,_=>False
theorem ajZ:∀{os:List Ob} {k:Nat} {f:Ob→Prop},atO os k f→∃x∈os,f x
 | x::_,0,_,h=>⟨x,bj ..,h⟩
 | _::os,k+1,_,h=>let ⟨x,hx,hf⟩:=ajZ (os:=os) h;⟨x,bm _ hx,hf⟩
theorem pX{o:Option α}{f:α→Prop}(h:Cm o f):∃x,o=some x∧f x:=by
 cases o with
 | none=>exact h.elim
 | some x=>exact⟨x,rfl,h⟩
theorem ad7:∀{is:List It} {k:Nat} {f:Ob→Prop},atM is k f→∃i x,is[k]? = some i∧i.bk=some x∧f x
 | i::_,0,_,h=>let ⟨x,hx,hf⟩:=pX h;⟨i,x,rfl,hx,hf⟩
 | _::is,k+1,_,h=>by rw[jc];exact ad7 (is:=is) h
theorem aj0:∀{is:List It} {os:List Ob} {k:Nat} {f:Ob→Prop},atB is os k f→(∃i∈is,∃x,i.bk=some x∧f x)∨∃x∈os,f x
 | i::_,_,0,_,h=>let ⟨x,hx,hf⟩:=pX h;.inl ⟨i,bj ..,x,hx,hf⟩
 | _::is,os,k+1,_,h=>(aj0 (is:=is) (os:=os) h).imp (fun⟨i,hi,r⟩=>⟨i,bm _ hi,r⟩) id
 | [],_,_,_,h=>.inr (ajZ h)
def caV(P:bz)(l:List ak)(is:List It)(b:Builtin)(xs:List cd)(ts:List ay)(sc:List Nat)(K:KV):Prop:=match b,xs,ts with
 | .len,[x],[T]=>Cm (Hn P T) fun _=>vvS (ev l x) fun _ n _=>K True (.int .i64 n) sc is
 | .min,[x,y],_=>tJ (ev l x) fun k m=>tJ (ev l y) fun k' n=>K (k'=k) (.int k (if n<m then n else m)) sc is
 | .max,[x,y],_=>tJ (ev l x) fun k m=>tJ (ev l y) fun k' n=>K (k'=k) (.int k (if m<n then n else m)) sc is
 | _,_,_=>False
def Ha(P:bz)(l:List ak)(is:List It)(os:List Ob)(pr:Bool)(op:Op)(sc:List Nat)(K:KV):Prop:=match op with
 | .move x=>K True (ev l x) sc is
 | .assign x=>K True (ev l x) sc is
 | .nilCheck x=>vvP (ev l x) fun a=>K True (.pointer (some a)) sc is
 | .pick c x y=>vvB (ev l c) fun b=>vbX b (K True (ev l x) sc is) (K True (ev l y) sc is)
 | .binOp b _ x y _=>biV b (ev l x) (ev l y) sc is K
 | .unOp .not _ x=>vvB (ev l x) fun b=>K True (.bool (!b)) sc is
 | .unOp .neg _ x=>tJ (ev l x) fun k m=>K (InR k (0-m)) (.int k (0-m)) sc is
 | .convert T T' x=>Cm (ikP P T) fun _=>Cm (ikP P T') fun k=>tJ (ev l x) fun _ m=>K (InR k m) (.int k m) sc is
 | .fieldAddr T x i=>Cm (lQ P T i) fun f=>vvP (ev l x) fun a=>vnX f.2.2 (K True (.pointer (some (a.add f.1))) sc is)
 | .indexAddr T x y=>Cm (ixP P T) fun z=>vvX z.1 (ev l x) fun a n=>tJ (ev l y) fun _ m=>K (0≤m∧m<n) (.pointer (some (a.add (m.toNat*z.2)))) sc is
 | .field T x i=>Cm (lQ P T i) fun f=>vvA (ev l x) fun cs=>vbX f.2.1 (K True (.agg ((cs.drop f.1).take f.2.2).toArray) sc is) (Mb cs f.1 fun v=>K True v sc is)
 | .build T parts=>Cm (Az P T) fun z=>blV l z.1 parts.toList z.2 True fun q cs=>K q (.agg cs.toArray) sc is
 | .extract x i=>vvT (ev l x) fun cs=>Mb cs i fun v=>K True v sc is
 | .load T x=>match sc with
  | k::sc=>Cm (sS P T) fun z=>vvP (ev l x) fun a=>atB is os k fun g=>vbX z.1 (K (a=⟨g.1,a.off,none⟩∧Hm ((g.2.1.drop a.off).take z.2) z.2) (.agg ((g.2.1.drop a.off).take z.2).toArray) sc is) (Mb g.2.1 a.off fun v=>K (a=⟨g.1,a.off,none⟩) v sc is)
  | []=>False
 | .box T x=>vbX pr False (∀g,K True (.pointer (some ⟨g,0,none⟩)) sc (bI g (ev l x).cells.toList T::is))
 | .alloc T=>vbX pr False (Cm (Jv P T) fun z=>∀g,K True (.pointer (some ⟨g,0,none⟩)) sc (bI g z T::is))
 | .call c=>match c.callee with
  | .builtin b=>caV P l is b c.args.toList c.argTypes.toList sc K
  | _=>False
 | _=>False
def stV(P:bz)(l:List ak)(is:List It)(pr:Bool)(op:Op)(sc:List Nat)(K:KV):Prop:=match op,sc with
 | .store T x y,k::sc=>vbX pr False (Cm (sS P T) fun z=>vnX z.2 (vvP (ev l x) fun a=>atM is k fun g=>K (a=⟨g.1,a.off,none⟩∧Hm ((g.2.1.drop a.off).take z.2) z.2∧Hm (ev l y).cells.toList z.2∧aao (ev l y).cells.toList) undef sc (is.set k (bI g.1 (bQ g.2.1 a.off (ev l y).cells.toList) g.2.2))))
 | _,_=>False
def vyv(ops:List Oper)(l:List ak)(j:Nat):ak:=match ops[j]? with
 | some o=>match o.dst with
  | some d=>l.getD d undef
  | none=>undef
 | none=>undef
def vvG(v:ak)(b:Bool)(p q:Prop):Prop:=match v with
 | .bool c=>if c=b then p else q
 | .tuple _=>q
 | _=>False
def Sg(ops:Array Oper)(l:List ak)(g:Option (Nat × Bool))(p q:Prop):Prop:=match g with
 | none=>p
 | some (j,b)=>vvG (vyv ops.toList l j) b p q
def Vl(id:Nat):List Ko→(List Ko→Prop)→Prop
 | .b j::s,f=>vnE id j (f s) (Vl id s f)
 | .c _::s,f=>Vl id s f
 | .o _ _::s,f=>Vl id s f
 | .k _::s,f=>Vl id s f
 | .r _ _::s,f=>Vl id s f
 | [],_=>False
abbrev Kw:Type:=Option (Bool × am)
def kr:Bool→am→am→Prop
 | true,v,w=>v=w
 | false,v,w=>dY v w
def kpt(k:Kw)(w:am):Prop:=∀b v,k=some (b,v)→kr b v w
def kpb:Kw→Bool
 | some (b,_)=>b
 | none=>false
def aj2(w0:am)(is:List It)(X:am→Prop):Kw→Prop
 | some (true,v)=>X v
 | k=>∀w,Mem w0 w is→kpt k w→X w
theorem afH{w:am}{X:am→Prop}{k:Kw}(h:aj2 w0 is X k)(m:Mem w0 w is)(hk:kpt k w):X w:=by
 rcases k with _ | ⟨b,v⟩
 · exact h w m hk
 · cases b
   · exact h w m hk
   · have e:v=w:=hk true v rfl
     exact e▸h
def V(P:bz)(R:Exit→Act→am→Prop)(w0:am)(ds:List dl)(kw:Kw):Nat→List Nat→Prop→List Ko→List ak→List It→Prop
 | 0,_,q,s,l,is=>q∧aj2 w0 is (Gt P R s (Fr l ds)) kw
 | n+1,sc,q,.b _::s,l,is=>V P R w0 ds kw n sc q s l is
 | n+1,sc,q,.o _ []::s,l,is=>V P R w0 ds kw n sc q s l is
 | n+1,sc,q,.o ops (o::rest)::s,l,is=>match o.dst with
  | some d=>Sg ops l o.guard (Ha P l is [] (kpb kw) o.op sc fun vc v sc is=>V P R w0 ds kw n sc (vc∧q) (.o ops rest::s) (l.set d v) is) (V P R w0 ds kw n sc q (.o ops rest::s) (l.set d undef) is)
  | none=>Sg ops l o.guard (stV P l is kw.isSome o.op sc fun vc _ sc is=>V P R w0 ds kw n sc (vc∧q) (.o ops rest::s) l is) (V P R w0 ds kw n sc q (.o ops rest::s) l is)
 | n+1,sc,q,.c c::s,l,is=>match c with
  | .seq a b=>V P R w0 ds kw n sc q (.c a :: .c b::s) l is
  | .skip=>V P R w0 ds kw n sc q s l is
  | .block id c=>V P R w0 ds kw n sc q (.c c :: .b id::s) l is
  | .exit id=>Vl id s fun s=>V P R w0 ds kw n sc q s l is
  | .ret=>q∧aj2 w0 is (R .ret (Fr l ds)) kw
  | .cond x a b=>vvB (ev l x) fun t=>vbX t (V P R w0 ds kw n sc q (.c a::s) l is) (V P R w0 ds kw n sc q (.c b::s) l is)
  | .region _ ops d=>vbX d False (V P R w0 ds kw n sc q (.o ops ops.toList::s) l is)
  | .loop c=>match sc with
   | k::sc=>V P R w0 ds kw n sc q (.r c k::s) l is
   | []=>False
  | _=>False
 | n+1,sc,q,.r c (k+1)::s,l,is=>V P R w0 ds kw n sc q (.c c :: .r c k::s) l is
 | _,_,_,_,_,_=>False
theorem uL{v:ak}{f:IntKind→Int→Prop}(h:tJ v f):∃k m,v=.int k m∧f k m:=by
 cases v <;> first | exact h.elim | exact⟨_,_,rfl,h⟩
theorem ad8{v:ak}{f:Bool→Prop}(h:vvB v f):∃b,v=.bool b∧f b:=by
 cases v <;> first | exact h.elim | exact⟨_,rfl,h⟩
theorem Mc{v:ak}{f:Addr→Prop}(h:vvP v f):∃a,v=.pointer (some a)∧f a:=by
 cases v with
 | pointer a=>cases a with
  | none=>exact h.elim
  | some a=>exact⟨_,rfl,h⟩
 | _=>exact h.elim
theorem aj3{v:ak}{f:Option Addr→Nat→Nat→Prop}(h:vvS v f):∃a n c,v=.slice a n c∧f a n c:=by
 cases v <;> first | exact h.elim | exact⟨_,_,_,rfl,h⟩
theorem aqi{v:ak}{f:List ak→Prop}(h:vvA v f):∃cs,v=.agg cs∧f cs.toList:=by
 cases v <;> first | exact h.elim | exact⟨_,rfl,h⟩
theorem aqj{v:ak}{f:List ak→Prop}(h:vvT v f):∃cs,v=.tuple cs∧f cs.toList:=by
 cases v <;> first | exact h.elim | exact⟨_,rfl,h⟩
theorem aar{p:Prop}(h:vnX n p):∃m,n=m+1∧p:=by
 cases n with
 | zero=>exact h.elim
 | succ m=>exact⟨m,rfl,h⟩
theorem aj4:∀{n m:Nat} {p q:Prop},vnE n m p q→(n=m∧p)∨(n≠m∧q)
 | 0,0,_,_,h=>.inl ⟨rfl,h⟩
 | n+1,m+1,_,_,h=>(aj4 (n:=n) (m:=m) h).imp (fun⟨e,h⟩=>⟨by rw[e],h⟩) fun⟨e,h⟩=>⟨fun c=>e (Nat.succ.inj c),h⟩
 | 0,_+1,_,_,h=>.inr ⟨fun c=>(by cases c),h⟩
 | _+1,0,_,_,h=>.inr ⟨fun c=>(by cases c),h⟩
section
variable {P:bz} {l:List ak} {is:List It} {os:List Ob} {w0:am} {ds:List dl}
def Yd(P:bz)(l:List ak)(is:List It)(w0:am)(op:Op)(v:ak):Prop:=∀w,Mem w0 w is→∀ty,Aa P l op ty v w
theorem qK{v:ak}(h:∀ty,iO P l op ty v):Yd P l is w0 op v:=fun w _ ty=>h ty w
theorem asM{sc:List Nat}{p:Prop}[Decidable p]{is':List It}(h:cV sc p (fun p=>K (q∧p)) is'):∃vc v sc',K (q∧vc) v sc' is'∧(vc→∀{X:ak→Prop},(X (.bool (decide p)))→X v):=by
 unfold cV at h;split at h
 · exact⟨_,_,_,h,fun _ _ hX=>hX⟩
 · exact⟨_,_,_,h,fun hp X hX=>by rwa [decide_eq_true hp] at hX⟩
 · exact⟨_,_,_,h,fun hp X hX=>by rwa [decide_eq_false hp] at hX⟩
 · exact h.elim
theorem aqk{b:BinOp}{x y:cd}{T':ay}{sc:List Nat}(h:biV b (ev l x) (ev l y) sc is K):∃vc v sc',K vc v sc' is∧(vc→Yd P l is w0 (.binOp b T x y T') v):=by
 cases b
 case add | sub | mul =>
  obtain⟨k,m,hx,h⟩:=uL h;obtain⟨k',n,hy,h⟩:=uL h;refine⟨_,_,_,h,fun⟨e,hr⟩=>qK fun ty=>?_⟩;subst e
  first | exact fH hx hy hr.wrap | exact mG hx hy hr.wrap | exact sD hx hy hr.wrap
 case lss | leq | gtr | geq | eql | neq =>
  obtain⟨k,m,hx,h⟩:=uL h;obtain⟨k',n,hy,h⟩:=uL h;obtain⟨vc,v,sc',h,hX⟩:=asM h;refine⟨_,_,_,h,fun⟨e,hv⟩=>?_⟩;subst e;refine hX hv (X:=fun v=>Yd P l is w0 _ v) (qK fun ty=>?_)
  first | exact tQ hx hy | exact Ws hx hy | exact Nr hx hy | exact Qs hx hy | exact Qt hx hy | exact uT hx hy
 all_goals exact h.elim
theorem aql{b:Builtin}{xs:List cd}{ts:List ay}{sc:List Nat}(h:caV P l is b xs ts sc K):∃vc v sc',K vc v sc' is∧(vc→Yd P l is w0 (.call { callee:=.builtin b,args:=xs.toArray,argTypes:=ts.toArray }) v):=by
 unfold caV at h;split at h
 · obtain⟨E,hE,h⟩:=pX h
   obtain⟨a,n,c,hx,h⟩:=aj3 h;exact⟨_,_,_,h,fun _=>qK fun ty=>jD O (anv hE) hx⟩
 · obtain⟨k,m,hx,h⟩:=uL h
   obtain⟨k',n,hy,h⟩:=uL h;refine⟨_,_,_,h,fun e=>qK fun ty=>?_⟩;subst e;exact ash hx hy O
 · obtain⟨k,m,hx,h⟩:=uL h
   obtain⟨k',n,hy,h⟩:=uL h;refine⟨_,_,_,h,fun e=>qK fun ty=>?_⟩;subst e;exact wU hx hy O
 · exact h.elim
theorem anC{k:Nat}{f:Ob→Prop}(hos:∀x∈os,fE w0 x.1 x.2.1 x.2.2)(h:atB is os k f):∃x:Ob,(∀w,Mem w0 w is→fE w x.1 x.2.1 x.2.2)∧f x:=by
 rcases aj0 h with ⟨i,hi,x,hx,hf⟩ | ⟨x,hx,hf⟩
 · exact⟨x,fun w m=>(i.bkP x hx).2 w (m.all i hi),hf⟩
 · exact⟨x,fun w m=>(hos x hx).ext m.ext,hf⟩
theorem aas(cs:Array ak)(o n:Nat):cs.extract o (o+n)=((cs.toList.drop o).take n).toArray:=by
 apply Array.ext';simp
theorem afI:∀{l:List (Nat × Nat)} {n:Nat} {f:Nat × Nat→Prop},aaq l n f→∃z,l[n]? = some z∧f z
 | x::_,0,_,h=>⟨x,rfl,h⟩
 | _::l,n+1,_,h=>by rw[jc];exact afI (l:=l) h
theorem ahs{cs us:List ak}{o:Nat}{c:ak}(h:o<cs.length):bQ (cs.set o c) (o+1) us=bQ cs o (c::us):=by
 unfold bQ;have e1:(cs.set o c).take (o+1)=cs.take o++[c]:=by
  rw[ox,List.take_set_of_le (av o),List.getElem?_set_self h];rfl
 have e2:(cs.set o c).drop (o+1+us.length)=cs.drop (o+(us.length+1)):=by
  rw[List.drop_set_of_lt (by omega)]
  congr 1
  omega
 rw[e1,e2];simp
theorem Xx:∀(us:List ak) (off k:Nat) (cs:Array ak),off+k+us.length≤cs.size →
 (us.zipIdx k).foldl (fun (cs:Array ak) (x:ak × Nat)=>cs.setIfInBounds (off+x.2) x.1) cs=(bQ cs.toList (off+k) us).toArray
 | [],off,k,cs,h=>by simp[bQ]
 | c::us,off,k,cs,h=>by
  simp only[az] at h;rw[List.zipIdx_cons,jp,Xx us off (k+1) _ (by simp;omega),←ahs (by simp;omega)];simp[Nat.add_assoc]
theorem aht{place:Nat→Option (Nat × Nat)}{cells:Array ak}{i off size:Nat}{v:ak}{rest:List (Nat × ak)}(hp:place i=some (off,size))(hs:v.cells.size=size)(hf:off+size≤cells.size) :
 Instr.fill place cells ((i,v)::rest)=Instr.fill place (bQ cells.toList off v.cells.toList).toArray rest:=by
 have hc:¬(v.cells.size≠size||off+v.cells.size>cells.size)=true:=by simp;omega
 have hfo:=Xx v.cells.toList off 0 cells (by simp;omega);rw[Instr.fill];simp only[hp];rw[if_neg hc]
 congr 1
 rw[←Array.foldl_toList,Array.toList_zipIdx];exact hfo
theorem aj5{pl:List (Nat × Nat)}:∀{ps:List (Nat × cd)} {cs:List ak} {q:Prop} {f:Prop→List ak→Prop},blV l pl ps cs q f →
 ∃q' cs',f q' cs'∧(q'→q∧Instr.fill (fun i=>pl[i]?) cs.toArray (ps.map fun x=>(x.1,ev l x.2))=some cs'.toArray)
 | [],cs,q,f,h=>⟨q,cs,h,fun hq=>⟨hq,rfl⟩⟩
 | (i,x)::ps,cs,q,f,h=>by
  obtain⟨z,hz,h⟩:=afI h;obtain⟨k,hk,h⟩:=aar h;obtain⟨q',cs',hf,hq⟩:=aj5 h;refine⟨q',cs',hf,fun h=>?_⟩;obtain⟨⟨h1,h2,hq0⟩,hfl⟩:=hq h;have h1:=Ft h1;have h2:=Ft h2;rw[bx,ip] at h2;refine⟨hq0,?_⟩;rw[bi,aht (off:=z.1) (size:=z.2) (by rw[hz]) (by simpa using h1) ?_]
  · exact hfl
  · simp
    omega
theorem Xy{p p':Nat→Option (Nat × Nat)}(h:∀i x,p i=some x→p' i=some x):∀{l:List (Nat × ak)} {cells cs:Array ak},Instr.fill p cells l=some cs→Instr.fill p' cells l=some cs
 | [],_,_,e=>e
 | (i,v)::l,cells,cs,e=>by
  rw[Instr.fill] at e ⊢;cases hp:p i with
  | none=>rw[hp] at e;cases e
  | some x =>
   rw[hp] at e;rw[h i x hp];simp only at e ⊢;split at e
   · cases e
   · rename_i hc
     rw[if_neg hc];exact Xy h e
theorem Sh{P:bz}:∀{fs:List Field} {l:List (Nat × Nat)},fs.mapM (fun (f:Field)=>(sS P f.type).map fun x=>(f.offset,x.2))=some l→∀w,(fs.mapM fun f=>do pure (f.offset,←sizeOf f.type):Sem (List (Nat × Nat))).run P w=.ok l w
 | [],l,h,w=>by
  rw[List.mapM_nil] at h ⊢;cases h;rfl
 | f::fs,l,h,w=>by
  rw[List.mapM_cons] at h ⊢;cases hs:sS P f.type with
  | none=>rw[hs] at h;cases h
  | some x =>
   obtain⟨b,n⟩:=x;rw[hs] at h;cases hm:fs.mapM (fun (f:Field)=>(sS P f.type).map fun x=>(f.offset,x.2)) with
   | none=>simp[hm] at h
   | some l' =>
    simp[hm] at h;subst h;have hr:=Sh hm w;simp only[bind_pure_comp] at hr;simp[fA (Ay hs).2,hr]
theorem anD{P:bz}{pl:List (Nat × Nat)}{z:List ak}(h:Az P T=some (pl,z)){vs:Array (Nat × ak)}{cs:List ak}(hf:Instr.fill (fun i=>pl[i]?) z.toArray vs.toList=some cs.toArray)(w:am):(Instr.build T vs).run P w=.ok (.agg cs.toArray) w:=by
 unfold Az at h;split at h
 · rename_i fs z' hu hz
   obtain⟨z0,hz0,hzc⟩:=aap hz;cases hm:fs.toList.mapM (fun (f:Field)=>(sS P f.type).map fun x=>(f.offset,x.2)) with
   | none=>rw[hm] at h;cases h
   | some l' =>
    rw[hm] at h;cases h;refine eT (places:=pl.toArray) hu hz0 (fun w=>?_) (by rw[hzc];simpa using hf) w;have hr:=Sh hm w;rw[Array.mapM_eq_mapM_toList];simp only[bind_pure_comp] at hr ⊢;simp[hr]
 · rename_i n E z' hu hz
   obtain⟨z0,hz0,hzc⟩:=aap hz;cases hs:sS P E with
   | none=>rw[hs] at h;cases h
   | some x =>
    obtain⟨b,c⟩:=x;rw[hs] at h;cases h;refine mW hu hz0 (Ay hs).2 ?_ w;rw[hzc];refine Xy (fun i x hx=>?_) hf;rw[List.getElem?_map] at hx;cases hr:(gm n)[i]? with
    | none=>rw[hr] at hx;cases hx
    | some j =>
     rw[hr] at hx;have:=ax.1 hr;obtain⟨h1,h2⟩:=this;rw[List.getElem_range] at h2;subst h2;cases hx;rfl
 · cases h
def Bx(P:bz)(l:List ak)(is:List It)(w0:am)(ds:List dl)(op:Op)(cs:List ak)(T:ay):Prop:=∀(d:Nat) (ty:ay) (pos:String) (af:Array Edge) (ops:Array Oper) (Q:Exit→Act→am→Prop) (rest:List Oper) (w:am),Mem w0 w is→(∀g u,dY w u→Mem w0 u (bI g cs T::is)→au P ops Q rest (Fr (l.set d (.pointer (some ⟨g,0,none⟩))) ds) u)→au P ops Q (bp (some d) op ty pos af none::rest) (Fr l ds) w
theorem aat{pr:Bool}{op:Op}{sc:List Nat}{K:KV}(hos:∀x∈os,fE w0 x.1 x.2.1 x.2.2)(h:Ha P l is os pr op sc K) :
 (∃vc v sc',K vc v sc' is∧(vc→Yd P l is w0 op v))∨(pr=false∧∃cs T,(∀g,K True (.pointer (some ⟨g,0,none⟩)) sc (bI g cs T::is))∧Bx P l is w0 ds op cs T):=by
 unfold Ha at h;split at h
 · exact .inl ⟨_,_,_,h,fun _=>qK fun ty=>aC⟩
 · exact .inl ⟨_,_,_,h,fun _=>qK fun ty=>aJ⟩
 · obtain⟨a,hx,h⟩:=Mc h
   exact .inl ⟨_,_,_,h,fun _=>qK fun ty=>eV hx⟩
 · obtain⟨b,hc,h⟩:=ad8 h
   cases b
   · exact .inl ⟨_,_,_,h,fun _=>qK fun ty=>Ff hc⟩
   · exact .inl ⟨_,_,_,h,fun _=>qK fun ty=>Fe hc⟩
 · exact .inl (aqk h)
 · obtain⟨b,hx,h⟩:=ad8 h
   exact .inl ⟨_,_,_,h,fun _=>qK fun ty=>mH hx⟩
 · obtain⟨k,m,hx,h⟩:=uL h
   exact .inl ⟨_,_,_,h,fun hr=>qK fun ty=>vT hx hr.wrap⟩
 · obtain⟨k1,h1,h⟩:=pX h
   obtain⟨k2,h2,h⟩:=pX h;obtain⟨k,m,hx,h⟩:=uL h;exact .inl ⟨_,_,_,h,fun hr=>qK fun ty=>lT (ajW h2) (ajW h1) hx hr.wrap⟩
 · obtain⟨f,hf,h⟩:=pX h
   obtain⟨a,hx,h⟩:=Mc h;obtain⟨m,hm,h⟩:=aar h;obtain⟨o,b,n⟩:=f;obtain⟨fs,f,h1,h2,h3,h4,h5⟩:=afF hf;simp only at hm h;rw[hm] at h5;exact .inl ⟨_,_,_,h,fun _=>qK fun ty=>bD h1 h2 h5 hx (by rw[h3])⟩
 · obtain⟨⟨z,c⟩,hz,h⟩:=pX h
   unfold ixP at hz;split at hz
   · rename_i n E hu
     cases hs:sS P E with
     | none=>rw[hs] at hz;cases hz
     | some x =>
      obtain⟨b,c'⟩:=x;rw[hs] at hz;cases hz;obtain⟨a,hx,h⟩:=Mc (show vvP _ _ from h);obtain⟨k,m,hy,h⟩:=uL h;exact .inl ⟨_,_,_,h,fun hv=>qK fun ty=>aN hu (Ay hs).2 hx hy hv.1 hv.2 O⟩
   · rename_i E hu
     cases hs:sS P E with
     | none=>rw[hs] at hz;cases hz
     | some x =>
      obtain⟨b,c'⟩:=x;rw[hs] at hz;cases hz;obtain⟨A,n,cp,hx,h⟩:=aj3 (show vvS _ _ from h);obtain⟨a,rfl,h⟩:=pX h;obtain⟨k,m,hy,h⟩:=uL h;exact .inl ⟨_,_,_,h,fun hv=>qK fun ty=>aG hu (Ay hs).2 hx hy hv.1 hv.2 O⟩
   · cases hz
 · obtain⟨f,hf,h⟩:=pX h
   obtain⟨cs,hx,h⟩:=aqi h;obtain⟨o,b,n⟩:=f;obtain⟨fs,f,h1,h2,h3,h4,h5⟩:=afF hf;simp only at h;cases b
   · obtain⟨v,hv,h⟩:=Pt h
     exact .inl ⟨_,_,_,h,fun _=>qK fun ty=>aiH h1 h2 h4 hx (by rw[h3];simpa using hv)⟩
   · exact .inl ⟨_,_,_,h,fun _=>qK fun ty=>aiI h1 h2 h4 h5 hx (by rw[h3];exact aas _ _ _)⟩
 · obtain⟨⟨pl,z⟩,hz,h⟩:=pX h
   obtain⟨q,cs,h,hq⟩:=aj5 h;exact .inl ⟨_,_,_,h,fun hv=>qK fun ty=>mP O (anD hz (by simpa using (hq hv).2))⟩
 · obtain⟨cs,hx,h⟩:=aqj h
   obtain⟨v,hv,h⟩:=Pt h;exact .inl ⟨_,_,_,h,fun _=>qK fun ty=>dD hx (by simpa using hv)⟩
 · split at h
   · obtain⟨z,hz,h⟩:=pX h
     obtain⟨a,hx,h⟩:=Mc h;obtain⟨g,hB,h⟩:=anC hos h;obtain⟨b,n⟩:=z;have hA:=(Ay hz).1;have hC:=(Ay hz).2;cases b
     · obtain⟨v,hv,h⟩:=Pt h
       exact .inl ⟨_,_,_,h,fun e w m ty=>aZ hx (by rw[e];exact (hB w m).lies1 hA hv)⟩
     · exact .inl ⟨_,_,_,h,fun e w m ty=>aZ hx (by rw[e.1];exact (hB w m).lies hA hC O (Ft e.2))⟩
   · exact h.elim
 · cases pr
   · refine .inr ⟨O,_,_,h,fun d ty pos af ops Q rest w m hk=>aff (by simp) fun u g e hg hB=>hk g u e (m.newB e hg hB)⟩
   · exact h.elim
 · cases pr
   · obtain⟨cs,hz,h⟩:=pX (show Cm _ _ from h)
     obtain⟨z,h1,h2⟩:=aap hz;refine .inr ⟨O,_,_,h,fun d ty pos af ops Q rest w m hk=>Ab h1 h2 fun u g e hg hB=>hk g u e (m.newB e hg hB)⟩
   · exact h.elim
 · rename_i c
   split at h
   · rename_i b hb
     obtain⟨ce,xs,ts⟩:=c;simp only at hb h;subst hb;have:=aql (w0:=w0) h;simpa using Or.inl this
   · exact h.elim
 · exact h.elim
theorem aj6{pr:Bool}{sc:List Nat}(h:stV P l is pr op sc K):pr=false∧∃vc sc' is',K vc undef sc' is'∧(vc→∀(ty:ay) (pos:String) (af:Array Edge) (ops:Array Oper) (Q:Exit→Act→am→Prop) (rest:List Oper) (w:am),Mem w0 w is→(∀u,Mem w0 u is'→au P ops Q rest (Fr l ds) u)→au P ops Q (bp none op ty pos af none::rest) (Fr l ds) w):=by
 unfold stV at h;split at h
 · rename_i T x y k sc
   cases pr with
   | true=>exact h.elim
   | false =>
   obtain⟨z,hz,h⟩:=pX (show Cm _ _ from h);obtain⟨n,hn,h⟩:=aar h;obtain⟨a,hx,h⟩:=Mc h;obtain⟨i,g,hi,hb,h⟩:=ad7 h;obtain⟨b,z⟩:=z;refine⟨O,_,_,_,h,fun⟨e,h1,h2,h3⟩ ty pos af ops Q rest w m hk=>?_⟩;have hC:=(Ay hz).2;have h1:=Ft h1;have h2:=Ft h2;simp only at hn h1 h2;have hP:=i.bkP g hb;have hB:=hP.2 w (m.all i (bn hi));rw[e] at hx;refine kY hx (us:=(ev l y).cells.toList) (by simp) (by rw[h2];exact hC) hB ?_ (nQ (afE h3)) fun u hc hB'=>hk u (m.put k hi hc.os hc.tape hc.output (by rw[hc.size];exact av _) (fun b _ hne=>hc.block b fun e=>hne ((hP.1 b).2 e)) hB' (.inl fun b hb=>(hP.1 b).2 (by cases hb;rfl)));rw[bx,ip] at h1;omega
 · exact h.elim
theorem aqm{v:ak}{b:Bool}{p:Prop}(h:vvG v b p q):(v=.bool b∧p)∨((∀c,v=.bool c→(c == b)=false)∧q):=by
 cases v with
 | bool c =>
  unfold vvG at h;simp only at h;split at h
  · rename_i e;exact .inl ⟨by rw[e],h⟩
  · rename_i e;exact .inr ⟨fun c' e'=>by cases e';simpa using e,h⟩
 | tuple=>exact .inr ⟨fun c e=>(by cases e),h⟩
 | _=>exact h.elim
theorem anE{j:Nat}{b:Bool}(h:vyv ops.toList l j=.bool b):yielded ops l.toArray j=some b:=by
 unfold vyv at h;unfold yielded;simp only[fv] at h;cases ho:ops[j]? with
 | none=>rw[ho] at h;cases h
 | some o =>
  rw[ho] at h;simp only at h;cases hd:o.dst with
  | none=>rw[hd] at h;cases h
  | some d =>
   rw[hd] at h;simp only[jf] at h;simp only[gw,hd,lz];cases hv:l[d]? with
   | none=>rw[hv] at h;cases h
   | some v=>rw[hv] at h;simp only[de] at h;rw[h]
theorem aqn{j:Nat}{b:Bool}(h:yielded ops l.toArray j=some b):vyv ops.toList l j=.bool b:=by
 unfold yielded at h;unfold vyv;simp only[fv];cases ho:ops[j]? with
 | none=>rw[ho] at h;cases h
 | some o =>
  rw[ho] at h;simp only[gw] at h ⊢;cases hd:o.dst with
  | none=>rw[hd] at h;cases h
  | some d =>
   rw[hd] at h;simp only[gw,lz] at h;simp only[jf];cases hv:l[d]? with
   | none=>rw[hv] at h;cases h
   | some v =>
    rw[hv] at h;simp only[de];cases v <;> first | (cases h;done) | (cases h;rfl)
theorem Md{g:Option (Nat × Bool)}{p:Prop}(h:Sg ops l g p q):(p∧∀d op ty pos af,Region.wanted (bp d op ty pos af g) (yielded ops l.toArray)=true)∨(q∧∀d op ty pos af,Region.wanted (bp d op ty pos af g) (yielded ops l.toArray)=false):=by
 cases g with
 | none=>exact .inl ⟨h,fun _ _ _ _ _=>rfl⟩
 | some g =>
  obtain⟨j,b⟩:=g;rcases aqm h with ⟨e,h⟩ | ⟨e,h⟩
  · exact .inl ⟨h,fun _ _ _ _ _=>by simp[Region.wanted,anE e]⟩
  · refine .inr ⟨h,fun _ _ _ _ _=>?_⟩
    cases hy:yielded ops l.toArray j with
    | none=>simp[Region.wanted,hy]
    | some c=>simpa[Region.wanted,hy] using e c (aqn hy)
theorem qL{ops:Array Oper}{Q:Exit→Act→am→Prop}{rest:List Oper}{d:Option Nat}{op:Op}{ty:ay}{pos:String}{af:Array Edge}{g:Option (Nat × Bool)}{w:am}(hw:Region.wanted (bp d op ty pos af g) (yielded ops l.toArray)=true)
 (h:au P ops Q (bp d op ty pos af none::rest) (Fr l ds) w):au P ops Q (bp d op ty pos af g::rest) (Fr l ds) w:=by
 unfold au at h ⊢;rw[if_pos (by simp[Region.wanted])] at h;rw[if_pos hw];exact h
theorem xB{ops:Array Oper}{Q:Exit→Act→am→Prop}{rest:List Oper}{o:Oper}{w:am}(hw:Region.wanted o (yielded ops l.toArray)=false)
 (h:au P ops Q rest ((Fr l ds).put o.dst undef) w):au P ops Q (o::rest) (Fr l ds) w:=by
 unfold au;rw[if_neg (by rw[hw];simp)];exact h
theorem aau{R:Exit→Act→am→Prop}{id:Nat}{a:Act}{w:am}{G:List Ko→Prop}:∀{s:List Ko},Vl id s G→∃s',G s'∧(Ct P R s' .normal a w→Ct P R s (.exit id) a w)
 | .b j::s,h=>by
  rcases aj4 h with ⟨e,h⟩ | ⟨e,h⟩
  · refine⟨s,h,fun hs=>?_⟩
    show bu j (Ct P R s) (.exit id) a w
    simp only[bu];rw[if_pos e];exact hs
  · obtain⟨s',hG,hs⟩:=aau (R:=R) (a:=a) (w:=w) h
    refine⟨s',hG,fun h=>?_⟩;show bu j (Ct P R s) (.exit id) a w
    simp only[bu];rw[if_neg e];exact hs h
 | .c _::s,h | .o _ _::s,h | .k _::s,h | .r _ _::s,h=>let ⟨s',hG,hs⟩:=aau (R:=R) (a:=a) (w:=w) (s:=s) h;⟨s',hG,fun h=>hs h⟩
 | [],h=>h.elim
theorem ab6:∀x∈([]:List Ob),fE w0 x.1 x.2.1 x.2.2:=fun _ h=>(by cases h)
theorem anF{k:Kw}{w u:am}(hp:kpb k=false)(h:kpt k w)(e:dY w u):kpt k u:=by
 intro b v hk;subst hk;have hb:b=false:=hp;subst hb;exact dY.trans (h false v O) e
theorem sT{R:Exit→Act→am→Prop}(kw:Kw):∀(n:Nat) (sc:List Nat) (q:Prop) (s:List Ko) (l:List ak) (is:List It),V P R w0 ds kw n sc q s l is→q∧∀w,Mem w0 w is→kpt kw w→Gt P R s (Fr l ds) w
 | 0,_,_,_,_,_,h=>⟨h.1,fun _ m hk=>afH h.2 m hk⟩
 | n+1,sc,q,.b _::s,l,is,h=>sT kw n sc q s l is h
 | n+1,sc,q,.o _ []::s,l,is,h=>sT kw n sc q s l is h
 | n+1,sc,q,.o ops (⟨some d,op,ty,pos,af,g⟩::rest)::s,l,is,h=>by
  rcases Md (show Sg _ _ _ _ _ from h) with ⟨h,hw⟩ | ⟨h,hw⟩
  · rcases aat (ds:=ds) ab6 h with ⟨vc,v,sc',h,hy⟩ | ⟨hpr,cs,T,h,hb⟩
    · obtain⟨⟨hv,hq⟩,hk⟩:=sT kw n _ _ _ _ _ h
      exact⟨hq,fun w m hkp=>qL (hw _ _ _ _ _) (eD (hy hv w m ty) (hk w m hkp))⟩
    · exact⟨(sT kw n _ _ _ _ _ (h 0)).1.2,fun w m hkp=>qL (hw _ _ _ _ _) (hb d ty pos af ops _ rest w m fun g u e mu=>(sT kw n _ _ _ _ _ (h g)).2 u mu (anF hpr hkp e))⟩
  · obtain⟨hq,hk⟩:=sT kw n _ _ _ _ _ h
    exact⟨hq,fun w m hkp=>xB (hw _ _ _ _ _) (by rw[gY];exact hk w m hkp)⟩
 | n+1,sc,q,.o ops (⟨none,op,ty,pos,af,g⟩::rest)::s,l,is,h=>by
  rcases Md (show Sg _ _ _ _ _ from h) with ⟨h,hw⟩ | ⟨h,hw⟩
  · obtain⟨hpr,vc,sc',is',h,hy⟩:=aj6 (w0:=w0) (ds:=ds) h
    obtain⟨⟨hv,hq⟩,hk⟩:=sT kw n _ _ _ _ _ h;exact⟨hq,fun w m hkp=>qL (hw _ _ _ _ _) (hy hv ty pos af ops _ rest w m fun u mu=>hk u mu fun b v e=>(by rw[e] at hpr;cases hpr))⟩
  · obtain⟨hq,hk⟩:=sT kw n _ _ _ _ _ h
    exact⟨hq,fun w m hkp=>xB (hw _ _ _ _ _) (hk w m hkp)⟩
 | n+1,sc,q,.c c::s,l,is,h=>by
  cases c with
  | seq a b=>exact (sT kw n _ _ _ _ _ h).imp id fun hk w m hkp=>wp_seq (hk w m hkp)
  | skip=>exact (sT kw n _ _ _ _ _ h).imp id fun hk w m hkp=>wp_skip (hk w m hkp)
  | block id c=>exact (sT kw n _ _ _ _ _ h).imp (fun h=>h) fun hk w m hkp=>wp_block (hk w m hkp)
  | exit id =>
   refine⟨?_,fun w m hkp=>?_⟩
   · obtain⟨s',hG,_⟩:=aau (P:=P) (R:=R) (a:=Fr l ds) (w:=w0) h
     exact (sT kw n _ _ _ _ _ hG).1
   · obtain⟨s',hG,hs⟩:=aau (P:=P) (R:=R) (a:=Fr l ds) (w:=w) h
     exact wp_exit (hs ((sT kw n _ _ _ _ _ hG).2 w m hkp))
  | ret=>exact⟨h.1,fun w m hkp=>wp_ret (ajV (afH h.2 m hkp) s)⟩
  | cond x a b =>
   obtain⟨t,hx,h⟩:=ad8 h;cases t
   · exact (sT kw n _ _ _ _ _ h).imp id fun hk w m hkp=>Zk hx (hk w m hkp)
   · exact (sT kw n _ _ _ _ _ h).imp id fun hk w m hkp=>wV hx (hk w m hkp)
  | region id ops d =>
   cases d
   · exact (sT kw n _ _ _ _ _ h).imp (fun h=>h) fun hk w m hkp=>wp_region_list (hk w m hkp)
   · exact h.elim
  | loop c =>
   cases sc with
   | nil=>exact h.elim
   | cons k sc=>exact (sT kw n _ _ _ _ _ h).imp (fun h=>h) fun hk w m hkp=>wp_loop_rounds k (hk w m hkp)
  | _=>exact h.elim
 | n+1,sc,q,.r c (k+1)::s,l,is,h=>(sT kw n sc q _ l is h).imp (fun h=>h) fun hk w m hkp=>hk w m hkp
 | _+1,_,_,.r _ 0::_,_,_,h=>h.elim
 | _+1,_,_,.k _::_,_,_,h=>h.elim
 | _+1,_,_,[],_,_,h=>h.elim
/-! ### Regions in a drawn order -/
def VQ{α:Type}(hd:α→Option Oper)(P:bz)(is:List It)(os:List Ob)(ops:Array Oper)(K:List α→List ak→Prop):Nat→List Nat→Prop→List α→List ak→Prop
 | 0,_,q,rest,l=>q∧K rest l
 | n+1,sc,q,x::rest,l=>match hd x with
  | some ⟨some d,op,_,_,_,g⟩=>Sg ops l g (Ha P l is os true op sc fun vc v sc _=>VQ hd P is os ops K n sc (vc∧q) rest (l.set d v)) (VQ hd P is os ops K n sc q rest (l.set d undef))
  | _=>False
 | _+1,_,_,[],_=>False
theorem afJ{α:Type}{hd:α→Option Oper}{ops:Array Oper}{K Y:List α→List ak→Prop}(hos:∀x∈os,fE w0 x.1 x.2.1 x.2.2)(hK:∀rest l,K rest l→Y rest l)
 (hv:∀x d op ty pos af g rest l v,hd x=some ⟨some d,op,ty,pos,af,g⟩→Region.wanted (bp (some d) op ty pos af g) (yielded ops l.toArray)=true→Yd P l is w0 op v→Y rest (l.set d v)→Y (x::rest) l)
 (hp:∀x d op ty pos af g rest l,hd x=some ⟨some d,op,ty,pos,af,g⟩→Region.wanted (bp (some d) op ty pos af g) (yielded ops l.toArray)=false→Y rest (l.set d undef)→Y (x::rest) l) :
 ∀(n:Nat) (sc:List Nat) (q:Prop) (rest:List α) (l:List ak),VQ hd P is os ops K n sc q rest l→q∧Y rest l
 | 0,_,_,_,_,h=>⟨h.1,hK _ _ h.2⟩
 | n+1,sc,q,x::rest,l,h=>by
  unfold VQ at h;split at h
  · rename_i d op ty pos af g hx
    rcases Md h with ⟨h,hwt⟩ | ⟨h,hwt⟩
    · rcases aat (ds:=[]) hos h with ⟨vc,v,sc',h,hy⟩ | ⟨e,_⟩
      · obtain⟨⟨h1,hq⟩,hk⟩:=afJ hos hK hv hp n _ _ _ _ h
        exact⟨hq,hv _ _ _ _ _ _ _ _ _ _ hx (hwt _ _ _ _ _) (hy h1) hk⟩
      · cases e
    · obtain⟨hq,hk⟩:=afJ hos hK hv hp n _ _ _ _ h
      exact⟨hq,hp _ _ _ _ _ _ _ _ _ hx (hwt _ _ _ _ _) hk⟩
  · exact h.elim
 | _+1,_,_,[],_,h=>h.elim
theorem at0{Q:Act→Prop}(hos:∀x∈os,fE w0 x.1 x.2.1 x.2.2){sc:List Nat}{rest:List Oper}{l:List ak}(h:VQ some P is os ops (fun rest l=>cq P ops (fun u=>Mem w0 u is) Q rest (Fr l ds)) n sc True rest l):cq P ops (fun u=>Mem w0 u is) Q rest (Fr l ds):=by
 refine (afJ (Y:=fun rest l=>cq P ops (fun u=>Mem w0 u is) Q rest (Fr l ds)) hos (fun _ _ h=>h) (fun x d op ty pos af g rest l v hx hw hy h=>?_) (fun x d op ty pos af g rest l hx hw h=>?_) n sc True rest l h).2
 · cases hx
   have h:=jZ (ty:=ty) (pos:=pos) (after:=af) (fun u m=>hy u m ty) h;unfold cq at h ⊢;rw[if_pos (by simp[Region.wanted])] at h;rw[if_pos hw];exact h
 · cases hx
   unfold cq;rw[if_neg (by rw[hw];simp)];show cq P ops _ Q rest ((Fr l ds).put (some d) undef)
   rw[gY];exact h
def hdH(x:Oper × Bool):Option Oper:=match x.2 with
 | true=>some x.1
 | false=>none
theorem at1{Q:Exit→Act→am→Prop}{w:am}(hos:∀x∈os,fE w0 x.1 x.2.1 x.2.2){sc:List Nat}{rest:List (Oper × Bool)}{l:List ak}(h:VQ hdH P is os ops (fun rest l=>bJ P ops (fun u=>Mem w0 u is) Q rest (Fr l ds) w) n sc True rest l):bJ P ops (fun u=>Mem w0 u is) Q rest (Fr l ds) w:=by
 refine (afJ (Y:=fun rest l=>bJ P ops (fun u=>Mem w0 u is) Q rest (Fr l ds) w) hos (fun _ _ h=>h) (fun x d op ty pos af g rest l v hx hw hy h=>?_) (fun x d op ty pos af g rest l hx hw h=>?_) n sc True rest l h).2
 · obtain⟨o,b⟩:=x
   cases b
   · cases hx
   · cases hx
     obtain⟨v,hy,h⟩:=Zu (ty:=ty) (pos:=pos) (after:=af) (fun u m=>hy u m ty) h;refine⟨v,?_,h⟩;rcases hy with ⟨_,hy⟩ | ⟨hn,_⟩
     · exact .inl ⟨hw,hy⟩
     · simp[Region.wanted] at hn
 · obtain⟨o,b⟩:=x
   cases b
   · cases hx
   · cases hx
     refine⟨undef,.inr ⟨hw,O⟩,?_⟩;show bJ P ops _ Q rest ((Fr l ds).put (some d) undef) w
     rw[gY];exact h
end
theorem oG{P R w0 ds k n sc q s l l' is is'}(h:l=l')(h':is=is'):V P R w0 ds k n sc q s l is=V P R w0 ds k n sc q s l' is':=by rw[h,h']
theorem fS{ops l l' g p q}(h:l=l'):Sg ops l g p q=Sg ops l' g p q:=by rw[h]
theorem fT{P l l' is os pr op sc K}(h:l=l'):Ha P l is os pr op sc K=Ha P l' is os pr op sc K:=by rw[h]
theorem fU{P l l' is pr op sc K}(h:l=l'):stV P l is pr op sc K=stV P l' is pr op sc K:=by rw[h]
theorem fV{P l l' is b xs ts sc K}(h:l=l'):caV P l is b xs ts sc K=caV P l' is b xs ts sc K:=by rw[h]
theorem fW{b x y x' y' sc is K}(h:x=x')(h':y=y'):biV b x y sc is K=biV b x' y' sc is K:=by rw[h,h']
theorem jR{sc sc' p K is}[Decidable p](h:sc=sc'):cV sc p K is=cV sc' p K is:=by rw[h]
theorem fX{v v' f}(h:v=v'):tJ v f=tJ v' f:=by rw[h]
theorem fY{v v' f}(h:v=v'):vvB v f=vvB v' f:=by rw[h]
theorem fZ{v v' f}(h:v=v'):vvP v f=vvP v' f:=by rw[h]
theorem gA{v v' f}(h:v=v'):vvS v f=vvS v' f:=by rw[h]
theorem gB{v v' f}(h:v=v'):vvA v f=vvA v' f:=by rw[h]
theorem gC{v v' f}(h:v=v'):vvT v f=vvT v' f:=by rw[h]
theorem gD{v v' b p q}(h:v=v'):vvG v b p q=vvG v' b p q:=by rw[h]
theorem gE{o o':Option α}{f}(h:o=o'):Cm o f=Cm o' f:=by rw[h]
theorem gF{b b' p q}(h:b=b'):vbX b p q=vbX b' p q:=by rw[h]
theorem gG{n n' p}(h:n=n'):vnX n p=vnX n' p:=by rw[h]
theorem gH{n n' m p q}(h:n=n'):vnE n m p q=vnE n' m p q:=by rw[h]
theorem eM{l l' n n' f}(h:l=l')(h':n=n'):Mb l n f=Mb l' n' f:=by rw[h,h']
theorem eN{l l' n f}(h:l=l'):aaq l n f=aaq l' n f:=by rw[h]
theorem gI{l pl ps cs cs' q f}(h:cs=cs'):blV l pl ps cs q f=blV l pl ps cs' q f:=by rw[h]
theorem gJ{is is' os k f}(h:is=is'):atB is os k f=atB is' os k f:=by rw[h]
theorem gK{n v v' f}(h:v=v'):vvX n v f=vvX n v' f:=by rw[h]
theorem jS{hd:α→Option Oper}{P is os ops K n sc q rest l l'}(h:l=l'):VQ hd P is os ops K n sc q rest l=VQ hd P is os ops K n sc q rest l':=by rw[h]
theorem cU{P ops S Q ol a a' w}(h:a=a'):bJ P ops S Q ol a w=bJ P ops S Q ol a' w:=by rw[h]
theorem gL{os k k' f}(h:k=k'):atO os k f=atO os k' f:=by rw[h]
theorem gM{is k k' f}(h:k=k'):atM is k f=atM is k' f:=by rw[h]
theorem gN{i i' s f}(h:i=i'):Vl i s f=Vl i' s f:=by rw[h]
theorem jT{P R s e a a' w}(h:a=a'):Ct P R s e a w=Ct P R s e a' w:=by rw[h]
theorem cW{P ops Q rest a a' w}(h:a=a'):au P ops Q rest a w=au P ops Q rest a' w:=by rw[h]
theorem cX{P Q a a' w}(h:a=a'):c.wp P Q a w=c.wp P Q a' w:=by rw[h]
theorem cA{P ops C Q rest a a'}(h:a=a'):cq P ops C Q rest a=cq P ops C Q rest a':=by rw[h]
theorem ab7:∀(n:Nat) (p q:Prop),vnE n n p q=p
 | 0,_,_=>rfl
 | n+1,p,q=>ab7 n p q
theorem asO{i:Nat}{s:List Ko}{f:List Ko→Prop}:Vl i (.b i::s) f=f s:=ab7 i _ _
theorem kp0{X:am→Prop}:(q∧aj2 w0 is X none)=(q∧∀w,Mem w0 w is→X w):=propext ⟨fun h=>⟨h.1,fun w m=>h.2 w m fun _ _ e=>(by cases e)⟩,fun h=>⟨h.1,fun w m _=>h.2 w m⟩⟩
theorem kp1{w1:am}{X:am→Prop}:(q∧aj2 w0 is X (some (false,w1)))=(q∧∀w,Mem w0 w is→dY w1 w→X w):=propext ⟨fun h=>⟨h.1,fun w m e=>h.2 w m fun _ _ e'=>(by cases e';exact e)⟩,fun h=>⟨h.1,fun w m e=>h.2 w m (e _ _ rfl)⟩⟩
def Fz(l:List ak)(ds:List dl):Act:=Fr l ds
section
variable {P:bz} {R:Exit→Act→am→Prop} {w0 w:am} {ds:List dl} {s:List Ko} {l:List ak} {is:List It}
theorem Wi(n:Nat)(sc:List Nat)(m:Mem w0 w is)(h:V P R w0 ds none n sc True (.c c::s) l is):c.wp P (Ct P R s) (Fr l ds) w:=(sT none n sc True _ l is h).2 w m fun _ _ e=>(by cases e)
theorem aL(n:Nat)(sc:List Nat)(m:Mem w0 w is)(h:V P R w0 ds (some (true,w)) n sc True (.c c::s) l is):c.wp P (Ct P R s) (Fr l ds) w:=(sT (some (true,w)) n sc True _ l is h).2 w m fun _ _ e=>(by cases e;rfl)
theorem nM(n:Nat)(sc:List Nat)(m:Mem w0 w is)(h:V P R w0 ds none n sc True [.c c] l is):c.wp P R (Fr l ds) w:=(sT none n sc True _ l is h).2 w m fun _ _ e=>(by cases e)
theorem iE(n:Nat)(sc:List Nat)(m:Mem w0 w is)(h:V P R w0 ds (some (true,w)) n sc True [.c c] l is):c.wp P R (Fr l ds) w:=(sT (some (true,w)) n sc True _ l is h).2 w m fun _ _ e=>(by cases e;rfl)
theorem iH{rest:List Oper}(n:Nat)(sc:List Nat)(m:Mem w0 w is)(h:V P R w0 ds none n sc True (.o ops rest::s) l is):au P ops (Ct P R s) rest (Fr l ds) w:=(sT none n sc True _ l is h).2 w m fun _ _ e=>(by cases e)
theorem aM{rest:List Oper}(n:Nat)(sc:List Nat)(m:Mem w0 w is)(h:V P R w0 ds (some (true,w)) n sc True (.o ops rest::s) l is):au P ops (Ct P R s) rest (Fr l ds) w:=(sT (some (true,w)) n sc True _ l is h).2 w m fun _ _ e=>(by cases e;rfl)
theorem iB{Q:Act→Prop}{rest:List Oper}(n:Nat)(sc:List Nat)(h:VQ some P is [] ops (fun rest l=>cq P ops (fun u=>Mem w0 u is) Q rest (Fz l ds)) n sc True rest l):cq P ops (fun u=>Mem w0 u is) Q rest (Fr l ds):=at0 ab6 h
theorem Oc{Q:Exit→Act→am→Prop}{ol:List (Oper × Bool)}(n:Nat)(sc:List Nat)(h:VQ hdH P is [] ops (fun rest l=>bJ P ops (fun u=>Mem w0 u is) Q rest (Fz l ds) w) n sc True ol l):bJ P ops (fun u=>Mem w0 u is) Q ol (Fr l ds) w:=at1 ab6 h
theorem wQ{rest:List Oper}{f:FuncId}{fo:cd}{xs:Array cd}{args:List ak}{first cap:Array ak}{a0:Array ay}{v:ak}{d:Nat}{ty:ay}{pos:String}{af:Array Edge}(m:Mem w0 w is)(hf:ev l fo=.func (.func f) first cap)(hxs:first.toList++xs.toList.map (ev l)++cap.toList=args)(hc:gS P f args v)(n:Nat)(sc:List Nat)(h:V P R w0 ds none n sc True (.o ops rest::s) (l.set d v) is):au P ops (Ct P R s) (bp (some d) (.call { callee:=.value fo,args:=xs,argTypes:=a0 }) ty pos af none::rest) (Fr l ds) w :=
 oP m hf hxs hc fun u m=>(sT none n sc True _ _ is h).2 u m fun _ _ e=>(by cases e)
theorem g0{a:Act}(h:c.wp P (Ct P R []) a w):c.wp P R a w:=h
theorem gc{a:Act}(h:c.wp P (Ct P R s) a w):Ct P R (.c c::s) .normal a w:=h
theorem go{rest:List Oper}{a:Act}(h:au P ops (Ct P R s) rest a w):Ct P R (.o ops rest::s) .normal a w:=h
theorem gk{K:Act→am→Prop}{a:Act}(h:K a w):Ct P R (.k K::s) .normal a w:=h
theorem cP{c:Code}(ts ss:List Nat)(I:Nat→List ak→am→Prop)(h0:∃n,I n (ts.map (l.getD · undef)) w)
 (hr:∀n vs w,I n vs w→∀(g:Nat→ak) (K:Act→am→Prop),(∀n' l' w',n'<n→qZ (fN l ts (ts.map (l'.getD · undef))) ss (l'.getD · undef)=l'→I n' (ts.map (l'.getD · undef)) w'→K (Fr l') w')→c.wp P (Ct P R (.k K::s)) (Fr (qZ (fN l ts vs) ss g)) w):(Code.loop c).wp P (Ct P R s) (Fr l) w :=
 vB ts ss I h0 fun n vs w hI g=>hr n vs w hI g _ fun n' l' w' h1 h2 h3=>⟨n',l',h1,rfl,h2,h3⟩
theorem zvn(n:Nat)(sc:List Nat)(m:Mem w0 w is)(h:V P R w0 ds none n sc True s l is):Ct P R s .normal (Fr l ds) w:=(sT none n sc True _ l is h).2 w m fun _ _ e=>(by cases e)
theorem bF(n:Nat)(sc:List Nat)(m:Mem w0 w is)(h:V P R w0 ds (some (true,w)) n sc True s l is):Ct P R s .normal (Fr l ds) w:=(sT (some (true,w)) n sc True _ l is h).2 w m fun _ _ e=>(by cases e;rfl)
end
section
variable {P:bz} {ds:List dl} {l:List ak}
theorem afK{c:Code}{Q:Exit→Act→am→Prop}{w:am}(ts ss:List Nat)(J:List ak→am→Prop)
 (hc:c.wp P (Exit.then (fun a' w'=>∃l',a'=Fr l' ds∧qZ (fN l ts (ts.map (l'.getD · undef))) ss (l'.getD · undef)=l'∧J (ts.map (l'.getD · undef)) w') Q) (Fr l ds) w)
 (hn:∀vs u,J vs u→∀g:Nat→ak,Q .normal (Fr (qZ (fN l ts vs) ss g) ds) u):c.wp P Q (Fr l ds) w:=by
 refine Code.wp_mono ?_ hc;intro e a w' h;cases e with
 | normal =>
  obtain⟨l',rfl,he,hJ⟩:=h;rw[←he];exact hn _ _ hJ _
 | exit id=>exact h
 | goto id=>exact h
 | ret=>exact h
 | panic ch=>exact h
 | outgrown=>exact h
theorem anG{c:Code}{Q:Exit→Act→am→Prop}{w0 w:am}{is:List It}(m:Mem w0 w is)(ts ss:List Nat)(J:List ak→Prop)
 (hc:c.wp P (Exit.then (fun a' w'=>∃l',a'=Fr l' ds∧qZ (fN l ts (ts.map (l'.getD · undef))) ss (l'.getD · undef)=l'∧Mem w0 w' is∧J (ts.map (l'.getD · undef))) Q) (Fr l ds) w)
 (hn:∀vs u,Mem w0 u is→J vs→∀g:Nat→ak,Q .normal (Fr (qZ (fN l ts vs) ss g) ds) u):c.wp P Q (Fr l ds) w :=
 afK ts ss (fun vs w'=>Mem w0 w' is∧J vs) hc fun vs u h g=>hn vs u h.1 h.2 g
theorem anH{c:Code}{Q:Exit→Act→am→Prop}{w0 w:am}{is:List It}(m:Mem w0 w is)(k:Nat)(ts ss:List Nat)(J:List ak→It→Prop)
 (hc:c.wp P (Exit.then (fun a' w'=>∃l' i,a'=Fr l' ds∧qZ (fN l ts (ts.map (l'.getD · undef))) ss (l'.getD · undef)=l'∧Mem w0 w' (is.set k i)∧J (ts.map (l'.getD · undef)) i) Q) (Fr l ds) w)
 (hn:∀vs i u,Mem w0 u (is.set k i)→J vs i→∀g:Nat→ak,Q .normal (Fr (qZ (fN l ts vs) ss g) ds) u):c.wp P Q (Fr l ds) w:=by
 refine afK ts ss (fun vs w'=>∃i,Mem w0 w' (is.set k i)∧J vs i) (Code.wp_mono ?_ hc) fun vs u h g=>?_
 · intro e a w' h
   cases e with
   | normal=>obtain⟨l',i,h1,h2,h3,h4⟩:=h;exact⟨l',h1,h2,i,h3,h4⟩
   | exit id=>exact h
   | goto id=>exact h
   | ret=>exact h
   | panic ch=>exact h
   | outgrown=>exact h
 · obtain⟨i,h1,h2⟩:=h
   exact hn vs i u h1 h2 g
end
section
variable {P:bz} {R:Exit→Act→am→Prop} {w0 w:am} {ds:List dl} {s:List Ko} {l:List ak} {is:List It}
theorem afL{c:Code}(m:Mem w0 w is)(ts ss:List Nat)(J:List ak→Prop)
 (hc:∀K:Act→am→Prop,(∀l' w',qZ (fN l ts (ts.map (l'.getD · undef))) ss (l'.getD · undef)=l'→Mem w0 w' is→J (ts.map (l'.getD · undef))→K (Fr l' ds) w')→c.wp P (Ct P R (.k K::s)) (Fr l ds) w)
 (hn:∀vs u,Mem w0 u is→J vs→∀g:Nat→ak,Ct P R s .normal (Fr (qZ (fN l ts vs) ss g) ds) u):c.wp P (Ct P R s) (Fr l ds) w :=
 anG m ts ss J (hc _ fun l' w' h1 h2 h3=>⟨l',rfl,h1,h2,h3⟩) hn
theorem lY{c:Code}(m:Mem w0 w is)(k:Nat)(ts ss:List Nat)(J:List ak→It→Prop)
 (hc:∀K:Act→am→Prop,(∀l' i w',qZ (fN l ts (ts.map (l'.getD · undef))) ss (l'.getD · undef)=l'→Mem w0 w' (is.set k i)→J (ts.map (l'.getD · undef)) i→K (Fr l' ds) w')→c.wp P (Ct P R (.k K::s)) (Fr l ds) w)
 (hn:∀vs i u,Mem w0 u (is.set k i)→J vs i→∀g:Nat→ak,Ct P R s .normal (Fr (qZ (fN l ts vs) ss g) ds) u):c.wp P (Ct P R s) (Fr l ds) w :=
 anH m k ts ss J (hc _ fun l' i w' h1 h2 h3=>⟨l',i,rfl,h1,h2,h3⟩) hn
end
end Go.Lith
namespace Go.Lith
open Go.RowKit Go.Proofs Go.Sort Go.Shelf
theorem aj7{α:Type}{enc:α→List ak}{k:Nat}(hk:∀x,(enc x).length=k)(h0:0<k):∀(L:List α) (t:Nat),(L.flatMap enc)[t]? = (L[t / k]?).bind fun x=>(enc x)[t%k]?
 | [],t=>by simp
 | x::L,t=>by
  rw[ci,List.getElem?_append];by_cases h:t<k
  · rw[if_pos (by rw[hk];exact h),Nat.div_eq_of_lt h,lp h]
    rfl
  · rw[if_neg (by rw[hk];exact h),hk,aj7 hk h0 L (t-k)]
    have e1:t / k=(t-k) / k+1:=by rw[Nat.div_eq t k,if_pos ⟨h0,gv h⟩]
    have e2:t%k=(t-k)%k:=Nat.mod_eq_sub_mod (gv h);rw[e1,e2,jc]
theorem Ba{α:Type}[Inhabited α]{enc:α→List ak}{k:Nat}(hk:∀x,(enc x).length=k)(h0:0<k)(L:List α):(flatK enc k L.toArray).toList=L.flatMap enc:=by
 have hlen:(L.flatMap enc).length=L.length*k:=by
  induction L with
  | nil=>simp
  | cons x L ih=>rw[ci,a_,ih,hk,az,Nat.add_mul];omega
 apply gg;intro t;by_cases ht:t<L.length*k
 · have hd:t / k<L.length:=by
    rw[Nat.div_lt_iff_lt_mul h0];exact ht
   have hm:t%k<k:=Nat.mod_lt _ h0;have h1:=get_flatK enc k L.toArray t (by simpa using ht);rw[getElem!_pos _ t (by simpa using ht)] at h1;rw[aj7 hk h0,ar hd,gw,fv,ig (by simpa using ht),h1,ar (show t%k<(enc L[t / k]).length by rw[hk];exact hm)]
   congr 1
   rw[getElem!_pos L.toArray _ (by simpa using hd),List.getElem_toArray,getElem!_pos _ _ (by rw[hk];exact hm)]
 · rw[fm (by simpa using gv ht),fm (by rw[hlen];exact gv ht)]
section
variable {α:Type} [Inhabited α] {P:bz} {ρ:Ren} {enc:α→List ak} {c:Nat} {E:ay} {w w0:am} {is:List It} {A:Option Addr} {n cap:Nat}
theorem ahu{g:Nat}{xs:List α}{cur:Array ak}(hk:∀x,(enc x).length=c)(h0:0<c)(hg:w.heap[g]? = some (.cells cur E (0,0)))(h:cur.toList.take (xs.length*c)=xs.flatMap enc):HoldsK enc c w g 0 xs.toArray:=by
 intro j hj;have hl:=Ba hk h0 xs;have hj':j<xs.length*c:=by simpa using hj
 have e:(flatK enc c xs.toArray)[j]? = cur[j]?:=by
  rw[←fv,hl,←h,fq,if_pos hj',fv]
 rw[ig hj] at e;refine⟨?_,?_⟩
 · simp only[World.cell?,hg,ap,Option.isSome_none,pv,if_false]
   rw[←e,getElem!_pos _ j hj];rfl
 · simp[World.frozen?,hg]
theorem Wj{g:Nat}{xs ys:List α}{cur:Array ak}{q:Nat}{os:Array Obj}(hk:∀x,(enc x).length=c)(h0:0<c)(hg:w.heap[g]? = some (.cells cur E (0,0)))(hl:xs.length*c≤cur.size)(hlen:ys.length=xs.length) :
 ∃cur':Array ak,(sortWorldK enc c w g 0 q ys.toArray os).heap[g]? = some (.cells cur' E (0,0))∧cur'.size=cur.size∧cur'.toList.take (xs.length*c)=ys.flatMap enc:=by
 have hlt:g<w.heap.size:=(dj.1 hg).1;refine⟨putCells id 0 (flatK enc c ys.toArray) cur,?_,by simp[putCells],?_⟩
 · unfold sortWorldK putRowK putRow mapBlock grow
   simp only;rw[Array.getElem?_append_left (by simpa[ahead] using hlt),kg];simp[ahead,hg,onCells]
 · have hf:=Ba hk h0 ys
   apply gg;intro t;rw[fq,←hf,fv,fv];have hs:(flatK enc c ys.toArray).size=xs.length*c:=by simp[hlen]
   split
   · rename_i ht
     have:t<cur.size:=Nat.lt_of_lt_of_le ht hl;simp only[putCells,Array.getElem?_mapIdx,ig this,Option.map_some,bw,ap,true_and,Nat.sub_zero,hs,ht,if_true];rw[ig (by rw[hs];exact ht),getElem!_pos _ t (by rw[hs];exact ht)];rfl
   · rename_i ht
     rw[Array.getElem?_eq_none (by rw[hs];exact gv ht)]
theorem Ds(L:SlLaysF0.n6 P ρ)(aE:∀w,(isAgg (ρ.t 24)).run P w=.ok true w)(zE:∀w,(Go.sizeOf (ρ.t 24)).run P w=.ok c w)(hk:∀x,(enc x).length=c)(h0:0<c)(h1:∀x,∀v∈enc x,v.oneCell'=true)
 (cf:α→α→Int) (hO:SWO (ltOf cf)) {f:FuncId} (hcmp:∀x y,uU P f [.agg (enc x).toArray,.agg (enc y).toArray] (.int .i64 (cf x y))) {xs:List α} (m:Mem w0 w is) (k:Nat) (hi:is[k]? = some (oI E c A n cap (xs.flatMap enc))) (hsz:n<4611686018427387904) :
 Calls P (ρ.f 6) #[.slice A n cap,.func (.func f) #[] #[]] w fun e w'=>∃v i,e=.returned v∧Mem w0 w' (is.set k i)∧(v=.tuple #[]∧∃ys:List α,i=oI E c A n cap (ys.flatMap enc)∧ys.Perm xs∧ys.Pairwise fun a b=>ltOf cf b a=false):=by
 have h:w.ownsRow 0 E c (.slice A n cap) n (xs.flatMap enc):=m.get k hi;have hlen:(xs.flatMap enc).length=xs.length*c:=by
  have:=Ba hk h0 xs;rw[←this];simp
 have hn:xs.length=n:=by
  have:=h.1;rw[hlen] at this;exact Nat.eq_of_mul_eq_mul_right h0 this
 have hge:=fun b hb=>m.ge _ (bn hi) b hb;rcases oY h with ⟨rfl,rfl,rfl,hx⟩ | ⟨g,cur,rfl,_,hg,hcap,hmax,hcur,htake⟩
 · refine (AnyF.slices_SortFunc_none L none 0 _ w).mono ?_
   rintro e w' ⟨rfl,rfl⟩;obtain rfl:xs=[]:=List.eq_nil_of_length_eq_zero hn;refine⟨_,oI E c none 0 0 [],O,?_,O,[],O,List.Perm.refl _,.nil⟩;have:is.set k (oI E c none 0 0 [])=is:=by
    apply gg;intro j;rw[List.getElem?_set];split
    · rename_i e;subst e
      have:=(ax.1 hi).1;rw[if_pos this,hi];rfl
    · rfl
   rw[this];exact m
 · have hlt:g<w.heap.size:=(dj.1 hg).1
   rw[←hn] at htake;have hH:=ahu (xs:=xs) hk h0 hg htake;have hx:=AnyQ.slices_SortFunc L c aE zE enc hk h1 cf hO f #[] g 0 cap xs.toArray w (fun args w'=>vA (hcmp default default w').1) (fun mm os dk _ x y=>by
    have:=((hcmp x y (sortWorldK enc c w g 0 mm dk os)).2.mono fun e w' h=>(show e=.returned (.int .i64 (cf x y))∧∃q os',w'=grow ((sortWorldK enc c w g 0 mm dk os).drewN q) os' from by obtain⟨u,rfl,hX,rfl⟩:=h;exact⟨O,hX.grow⟩))
    simpa using this) hH hlt (by simpa[hn] using hsz)
   have es:xs.toArray.size=n:=by simpa using hn
   rw[es] at hx;refine hx.mono ?_;rintro e w' ⟨rfl,d',q,os,hp,hs,rfl⟩;have hd:d'.size=n:=by rw[hp.1];exact es
   obtain⟨ys,rfl⟩:∃ys:List α,d'=ys.toArray:=⟨d'.toList,by simp⟩
   have hyl:ys.length=n:=by simpa using hd
   have hcs:xs.length*c≤cur.size:=by rw[hn,hcur];exact Nat.mul_le_mul_right _ hcap
   obtain⟨cur',e1,e2,e3⟩:=Wj (q:=q) (os:=os) (ys:=ys) hk h0 hg hcs (by rw[hyl,hn]);refine⟨_,oI E c (some ⟨g,0,none⟩) n cap (ys.flatMap enc),O,?_,O,ys,O,?_,?_⟩
   · refine m.put k hi O O O ?_ (fun b hb hne=>?_) ?_ (.inl fun _ h=>h)
     · simp[sortWorldK,putRowK,putRow,mapBlock,grow,ahead]
     · have hbg:g≠b:=fun e=>hne (by rw[e];rfl)
       unfold sortWorldK putRowK putRow mapBlock grow;simp only;rw[Array.getElem?_append_left (by simpa[ahead] using hb),kg,if_neg hbg];rfl
     · refine⟨?_,.inr ⟨g,cap,cur',O,bw _,e1,hcap,hmax,by rw[e2,hcur],?_⟩⟩
       · have:=Ba hk h0 ys
         rw[←this];simp[hyl]
       · rw[←hn];exact e3
   · have:=hp.2.2
     simpa[hyl,hn,bf (Nat.le_of_eq hyl),bf (Nat.le_of_eq hn),List.extract_eq_take_drop] using this
   · rw[List.pairwise_iff_getElem]
     intro i j hi' hj' hij;have:=hs i j (bw _) hij (by rw[←hyl];exact hj');rw[getElem!_pos _ i (by simpa using hi'),getElem!_pos _ j (by simpa using hj')] at this;simpa using this
end
end Go.Lith
namespace Go.Lith
open Go.RowKit Go.Sort
variable{K:Type}
instance:Inhabited P3:=⟨⟨0,0,0⟩⟩
def gX(p:P3):List ak:=[.int .i64 p.x,.int .i64 p.y,.int .i64 p.z]
theorem Od(p:P3):∀v∈gX p,v.oneCell'=true:=fun v h=>by
 simp only[gX,ao,bt,or_false] at h;rcases h with rfl | rfl | rfl <;> rfl
theorem mY(p q:P3):(sA p q<0)↔p.Lt q:=by
 unfold sA;split
 · simp[*]
 · split <;> simp[*]
theorem ab9:SWO (Go.Proofs.ltOf sA) where
 irrefl x:=by simp[Go.Proofs.ltOf,mY,P3.lt_irrefl]
 trans x y z h1 h2:=by
  simp only[Go.Proofs.ltOf,decide_eq_true_eq,mY] at *
  exact P3.lt_trans h1 h2
 ntrans x y z h1 h2:=by
  simp only[Go.Proofs.ltOf,decide_eq_false_iff_not,mY] at *
  unfold P3.Lt at *
  omega
theorem lP.len{V:Type}[DecidableEq K]{ek:K→ak}{en:V→ak}{D dn rs:List (K × V)}{es:Array MapEntry}{seen:Array Nat}(h:lP ek en D es seen dn rs):dn.length+rs.length=D.length:=by
 have:=h.1.length_eq;simpa using this
theorem Cc{V:Type}[DecidableEq K]{ek:K→ak}{en:V→ak}{D dn rs:List (K × V)}{es:Array MapEntry}{b:Bool}{kv vv:ak}{sn:Array Nat}(hb:b=false)(h:Nxt ek en D es dn rs b kv vv sn):rs=[]:=by
 rcases h with ⟨_,h⟩ | ⟨h,_⟩
 · exact h
 · rw[h] at hb;cases hb
theorem Cd{K V:Type}[DecidableEq K]{ek:K→ak}{en:V→ak}{D dn rs:List (K × V)}{es:Array MapEntry}{b:Bool}{kv vv:ak}{sn:Array Nat}(hb:b=true)(h:Nxt ek en D es dn rs b kv vv sn) :
 ∃k v rs',rs.Perm ((k,v)::rs')∧lP ek en D es sn (dn++[(k,v)]) rs':=by
 rcases h with ⟨h,_⟩ | ⟨_,k,v,rs',h1,_,_,h2⟩
 · rw[h] at hb;cases hb
 · exact⟨k,v,rs',h1,h2⟩
def Dt(D:List (P3 × Bool))(ps:List P3):List (P3 × Bool):=ps.foldl (fun D p=>fI D p true) D
theorem aca{V:Type}[DecidableEq K](D:List (K × V))(k a:K)(v:V):a∈(fI D k v).map (·.1)↔a∈D.map (·.1)∨a=k:=by
 rw[vL];split
 · exact⟨.inl,fun h=>h.elim id (fun e=>e▸‹_›)⟩
 · simp
theorem Xz:∀(ps:List P3) (D:List (P3 × Bool)) (a:P3),a∈(Dt D ps).map (·.1)↔a∈D.map (·.1)∨a∈ps
 | [],D,a=>by simp[Dt]
 | p::ps,D,a=>by
  have:=Xz ps (fI D p true) a;unfold Dt at this ⊢;rw[jp,this,aca,ao,or_assoc]
theorem Oe:∀(ps:List P3) (D:List (P3 × Bool)),(D.map (·.1)).Nodup→((Dt D ps).map (·.1)).Nodup
 | [],_,h=>h
 | p::ps,D,h=>Oe ps (fI D p true) (sP h p true)
theorem xC{K V:Type}[DecidableEq K]:∀(D:List (K × V)) (k:K) (v:V),(fI D k v).length≤D.length+1
 | [],_,_=>by simp[fI]
 | x::D,k,v=>by
  unfold fI;split
  · simp
  · simp only[az]
    exact Nat.succ_le_succ (xC D k v)
theorem Jw:∀(ps:List P3) (D:List (P3 × Bool)),(Dt D ps).length≤D.length+ps.length
 | [],D=>av _
 | p::ps,D=>Nat.le_trans (Jw ps (fI D p true)) (by
  have:=xC D p true;simp only[az];omega)
theorem ahv(D:List (P3 × Bool))(ps qs:List P3):Dt D (ps++qs)=Dt (Dt D ps) qs:=iu ..
def bG(ts:List T3):List P3:=ts.flatMap fun t=>[t.a,t.b,t.c]
def sU(ps:List P3):Prop:=ps.Pairwise fun a b=>a.Lt b
theorem ahw{ps:List P3}(hn:ps.Nodup)(h:ps.Pairwise fun a b=>¬b.Lt a):sU ps:=by
 have:=hn.and h;exact this.imp fun {a b} h=>(P3.lt_tri a b).resolve_right (by rintro (e | e);exact h.1 e;exact h.2 e)
theorem Si:∀{ps qs:List P3},sU ps→sU qs→(∀a,a∈ps↔a∈qs)→ps=qs
 | [],[],_,_,_=>rfl
 | [],q::qs,_,_,h=>by have:=(h q).2 (bj ..);cases this
 | p::ps,[],_,_,h=>by have:=(h p).1 (bj ..);cases this
 | p::ps,q::qs,hp,hq,h=>by
  have hp':=bq.1 hp;have hq':=bq.1 hq;have e:p=q:=by
   rcases ao.1 ((h p).1 (bj ..)) with e | e
   · exact e
   · rcases ao.1 ((h q).2 (bj ..)) with e' | e'
     · exact e'.symm
     · exact absurd (P3.lt_trans (hq'.1 p e) (hp'.1 q e')) (P3.lt_irrefl _)
  subst e
  congr 1
  refine Si hp'.2 hq'.2 fun a=>⟨fun ha=>?_,fun ha=>?_⟩
  · rcases ao.1 ((h a).1 (bm _ ha)) with e | e
    · subst e;exact absurd (hp'.1 _ ha) (P3.lt_irrefl _)
    · exact e
  · rcases ao.1 ((h a).2 (bm _ ha)) with e | e
    · subst e;exact absurd (hq'.1 _ ha) (P3.lt_irrefl _)
    · exact e
end Go.Lith
namespace Go.Lith
open Go.RowKit
variable{k n i m j:Nat}{a x y z q s u:P3}{es:List E3}{f:P3→P3}{L:List Int}{op:Op}
theorem ahx{α:Type}{ps:List α}{p:α}(h:ps[k]? = some p):ps.take (k+1)=ps.take k++[p]:=by
 rw[ox,h];rfl
theorem Sj{ts:List T3}{t:T3}(h:ts[k]? = some t):bG (ts.take (k+1))=bG (ts.take k)++[t.a,t.b,t.c]:=by
 unfold bG;rw[ahx h,be];simp
theorem ad9{ts:List T3}{t:T3}(h:ts[k]? = some t):Dt [] (bG (ts.take (k+1)))=fI (fI (fI (Dt [] (bG (ts.take k))) t.a true) t.b true) t.c true:=by
 rw[Sj h,ahv];rfl
theorem vG(ts:List T3):(bG ts).length=ts.length*3:=by
 unfold bG
 induction ts with
 | nil=>rfl
 | cons t ts ih=>rw[ci,a_,ih];simp only[az,b_];omega
theorem Ow.max{w0 w:am}{S:List (Option Nat)}{E:ay}{c cap:Nat}{A:Option Addr}{xs:List ak}(h:Ow w0 w S E c A n cap xs):cap≤9223372036854775807:=by
 rcases h.cases with ⟨_,_,rfl,_⟩ | ⟨_,_,_,_,_,_,h,_⟩
 · exact bw _
 · exact h
theorem aj8{ps:List P3}:(ps.flatMap gX).length=ps.length*3:=by
 induction ps with
 | nil=>rfl
 | cons p ps ih=>rw[ci,a_,ih,show (gX p).length=3 from rfl,az];omega
theorem Ho{α:Type}{R:α→α→Prop}(irr:∀a,¬R a a)(tr:∀a b c,R a b→R b c→R a c):∀{l m:List α},l.Pairwise R→m.Pairwise R→(∀a,a∈l↔a∈m)→l=m
 | [],[],_,_,_=>rfl
 | [],y::m,_,_,h=>absurd ((h y).2 (bj ..)) (by simp)
 | x::l,[],_,_,h=>absurd ((h x).1 (bj ..)) (by simp)
 | x::l,y::m,hl,hm,h=>by
  obtain⟨h1,h2⟩:=bq.1 hl;obtain⟨k1,k2⟩:=bq.1 hm;have e:x=y:=by
   rcases ao.1 ((h x).1 (bj ..)) with e | hx
   · exact e
   · rcases ao.1 ((h y).2 (bj ..)) with e | hy
     · exact e.symm
     · exact absurd (tr _ _ _ (h1 y hy) (k1 x hx)) (irr x)
  subst e;rw[Ho irr tr h2 k2 fun a=>⟨fun ha=>?_,fun ha=>?_⟩]
  · rcases ao.1 ((h a).1 (bm _ ha)) with rfl | k
    · exact absurd (h1 a ha) (irr a)
    · exact k
  · rcases ao.1 ((h a).2 (bm _ ha)) with rfl | k
    · exact absurd (k1 a ha) (irr a)
    · exact k
/-! ### Edges in order -/
def Lh(a b:E3):Prop:=a.1.Lt b.1∨a.1=b.1∧a.2.Lt b.2
theorem afM{a b:E3}:ltE a b=true↔Lh a b:=by
 unfold ltE Lh;by_cases h:a.1=b.1
 · rw[if_neg (not_not_intro h),decide_eq_true_eq]
   exact⟨fun k=>.inr ⟨h,k⟩,fun k=>k.elim (fun k=>absurd (h▸k) (P3.lt_irrefl _)) (·.2)⟩
 · rw[if_pos h,decide_eq_true_eq]
   exact⟨.inl,fun k=>k.elim id (fun k=>absurd k.1 h)⟩
theorem Lh.irrefl(a:E3):¬Lh a a:=fun h=>h.elim (P3.lt_irrefl _) fun h=>P3.lt_irrefl _ h.2
theorem Lh.trans{a b c:E3}(h:Lh a b)(k:Lh b c):Lh a c:=by
 rcases h with h | ⟨h,h'⟩
 · rcases k with k | ⟨k,_⟩
   · exact .inl (P3.lt_trans h k)
   · exact .inl (k▸h)
 · rcases k with k | ⟨k,k'⟩
   · exact .inl (h▸k)
   · exact .inr ⟨h.trans k,P3.lt_trans h' k'⟩
theorem Lh.tri(a b:E3):Lh a b∨a=b∨Lh b a:=by
 rcases P3.lt_tri a.1 b.1 with h | h | h
 · exact .inl (.inl h)
 · rcases P3.lt_tri a.2 b.2 with k | k | k
   · exact .inl (.inr ⟨h,k⟩)
   · exact .inr (.inl (pa h k))
   · exact .inr (.inr (.inr ⟨h.symm,k⟩))
 · exact .inr (.inr (.inl h))
def pR(es:List E3):Prop:=es.Pairwise Lh
theorem Of{fs:List E3}(h:pR es)(k:pR fs)(e:∀a,a∈es↔a∈fs):es=fs:=Ho Lh.irrefl (fun _ _ _=>Lh.trans) h k e
theorem aav{α:Type}{p:α→Bool}:∀(l:List α),l.take (l.takeWhile p).length=l.takeWhile p
 | []=>rfl
 | x::l=>by
  rw[mp];split
  · rw[az,List.take_succ_cons,aav l]
  · rfl
theorem aaw{α:Type}{p:α→Bool}:∀(l:List α),l.drop (l.takeWhile p).length=l.dropWhile p
 | []=>rfl
 | x::l=>by
  rw[mp,po];split
  · rw[az,List.drop_succ_cons,aaw l]
  · rfl
theorem afN(es:List E3)(e:E3):adK es e=es.takeWhile (fun x=>ltE x e)++[e]++es.dropWhile (fun x=>ltE x e):=by
 unfold adK ahb;rw[aav,aaw]
theorem aj9{e x:E3}:x∈adK es e↔x=e∨x∈es:=by
 rw[afN]
 conv=>rhs;rw[←mn (p:=fun x=>ltE x e) (l:=es)]
 simp only[br,bg];exact⟨fun h=>h.elim (fun h=>h.elim (fun h=>.inr (.inl h)) .inl) (fun h=>.inr (.inr h)),fun h=>h.elim (fun h=>.inl (.inr h)) (fun h=>h.elim (fun h=>.inl (.inl h)) .inr)⟩
theorem apf{e:E3}:∀{es:List E3},pR es→e∉es→∀x∈es.dropWhile (fun x=>ltE x e),Lh e x
 | [],_,_,x,h=>by cases h
 | y::ys,hs,he,x,h=>by
  obtain⟨h1,h2⟩:=bq.1 hs;rw[po] at h;split at h
  · exact apf h2 (fun k=>he (bm _ k)) x h
  · rename_i hy
    have hy':Lh e y:=by
     rcases Lh.tri y e with k | k | k
     · exact absurd (afM.2 k) hy
     · exact absurd (k▸bj ..) he
     · exact k
    rcases ao.1 h with rfl | h
    · exact hy'
    · exact hy'.trans (h1 x h)
theorem aea{α:Type}{p:α→Bool}{x:α}:∀{l:List α},x∈l.takeWhile p→p x=true
 | [],h=>by cases h
 | y::l,h=>by
  rw[mp] at h;split at h
  · rename_i hy
    rcases ao.1 h with rfl | h
    · exact hy
    · exact aea h
  · cases h
theorem asP{e:E3}  : ∀x∈es.takeWhile (fun x=>ltE x e),Lh x e:=fun x h=>afM.1 (aea (p:=fun x=>ltE x e) h)
theorem acb{e:E3}(hs:pR es)(he:e∉es):pR (adK es e):=by
 rw[afN];have h0:=hs;rw[pR,←mn (p:=fun x=>ltE x e) (l:=es)] at h0;obtain⟨h1,h2,h3⟩:=gu.1 h0;refine gu.2 ⟨gu.2 ⟨h1,jq _ _,fun x hx y hy=>?_⟩,h2,fun x hx y hy=>?_⟩
 · rw[bg.1 hy];exact asP x hx
 · rcases br.1 hx with hx | hx
   · exact h3 x hx y hy
   · rw[bg.1 hx];exact apf hs he y hy
theorem pC{e:E3}:0<kN es e↔e∈es:=by
 unfold kN;rw[my];simp
theorem Me{all:List E3}:∀(es out:List E3),pR out→pR (es.foldl (rJ all) out)∧∀x,x∈es.foldl (rJ all) out↔x∈out∨x∈es∧(x.2,x.1)∉all
 | [],out,h=>⟨h,fun x=>by simp⟩
 | e::es,out,h=>by
  have key:pR (rJ all out e)∧∀x,x∈rJ all out e↔x∈out∨x=e∧(x.2,x.1)∉all:=by
   unfold rJ;split
   · rename_i hc
     refine⟨h,fun x=>⟨.inl,fun k=>k.elim id fun q=>?_⟩⟩;obtain⟨rfl,q⟩:=q;exact hc.elim (fun hc=>absurd (pC.1 hc) q) (fun hc=>pC.1 hc)
   · rename_i hc
     have h1:e∉out:=fun k=>hc (.inr (pC.2 k));have h2:(e.2,e.1)∉all:=fun k=>hc (.inl (pC.2 k));refine⟨acb h h1,fun x=>aj9.trans ⟨fun k=>k.elim (fun k=>.inr ⟨k,k▸h2⟩) .inl,fun k=>k.elim .inr fun k=>.inl k.1⟩⟩
  obtain⟨i1,i2⟩:=Me es (rJ all out e) key.1;refine⟨i1,fun x=>?_⟩;rw[jp,i2,key.2,ao,or_assoc];refine or_congr Iff.rfl ⟨fun k=>k.elim (fun k=>⟨.inl k.1,k.2⟩) (fun k=>⟨.inr k.1,k.2⟩),fun k=>k.1.elim (fun h=>.inl ⟨h,k.2⟩) (fun h=>.inr ⟨h,k.2⟩)⟩
theorem pD(ts:List T3):pR (aO ts):=(Me (all:=aU ts) (aU ts) [] kz).1
theorem wE{ts:List T3}{e:E3}:e∈aO ts↔e∈aU ts∧(e.2,e.1)∉aU ts:=by
 have:=(Me (all:=aU ts) (aU ts) [] kz).2 e;unfold aO;rw[this];simp
/-! ### Keys put into a set -/
section
variable {K:Type} [DecidableEq K]
def dX(D:List (K × Bool))(ks:List K):List (K × Bool):=ks.foldl (fun D k=>fI D k true) D
theorem rP:∀(ks:List K) (D:List (K × Bool)) (a:K),a∈(dX D ks).map (·.1)↔a∈D.map (·.1)∨a∈ks
 | [],D,a=>by simp[dX]
 | k::ks,D,a=>by
  have:=rP ks (fI D k true) a;unfold dX at this ⊢;rw[jp,this,aca,ao,or_assoc]
theorem pY:∀(ks:List K) (D:List (K × Bool)),(D.map (·.1)).Nodup→((dX D ks).map (·.1)).Nodup
 | [],_,h=>h
 | k::ks,D,h=>pY ks (fI D k true) (sP h k true)
theorem qM:∀(ks:List K) (D:List (K × Bool)),(dX D ks).length≤D.length+ks.length
 | [],_=>av _
 | k::ks,D=>by
  have h1:=qM ks (fI D k true);have h2:=xC D k true;show (dX (fI D k true) ks).length≤_
  rw[az];omega
theorem Jy:∀(ks:List K) (D:List (K × Bool)) (a:K),bL (dX D ks) a=if a∈ks then some true else bL D a
 | [],D,a=>by simp[dX]
 | k::ks,D,a=>by
  have h:=Jy ks (fI D k true) a;show bL (dX (fI D k true) ks) a=_
  rw[h,kO];by_cases h1:a∈ks
  · rw[if_pos h1,if_pos (bm _ h1)]
  · rw[if_neg h1]
    by_cases h2:k=a
    · rw[if_pos h2,if_pos (h2▸bj ..)]
    · rw[if_neg h2,if_neg (fun k'=>(ao.1 k').elim (fun e=>h2 e.symm) h1)]
theorem acd(D:List (K × Bool))(ks ls:List K):dX D (ks++ls)=dX (dX D ks) ls:=iu ..
theorem lZ(ks:List K)(a:K):(bL (dX [] ks) a).getD false=decide (a∈ks):=by
 rw[Jy];by_cases h:a∈ks
 · rw[if_pos h,decide_eq_true h];rfl
 · rw[if_neg h,decide_eq_false h];rfl
theorem Sk{ks:List K}{a:K}:(bL (dX [] ks) a).getD false=true↔a∈ks:=by
 rw[Jy];by_cases h:a∈ks
 · rw[if_pos h];exact⟨fun _=>h,fun _=>rfl⟩
 · rw[if_neg h];exact⟨fun k=>(by cases k),fun k=>absurd k h⟩
end
/-! ### No edge twice -/
theorem oH{x e:E3}  : kN (x::es) e=(if x=e then 1 else 0)+kN es e:=by
 unfold kN;by_cases h:x=e
 · rw[jr (by simpa using h),az,if_pos h];omega
 · rw[jd (by simpa using h),if_neg h];omega
theorem Fu:∀{es:List E3},es.Nodup↔∀e,kN es e≤1
 | []=>by simp[kN]
 | x::es=>by
  rw[fz,Fu (es:=es)];constructor
  · rintro⟨h1,h2⟩ e
    rw[oH];by_cases h:x=e
    · have:¬0<kN es e:=fun k=>h1 (h▸pC.1 k)
      rw[if_pos h];omega
    · rw[if_neg h];have:=h2 e;omega
  · intro h
    refine⟨fun k=>?_,fun e=>?_⟩
    · have h1:=h x
      rw[oH,if_pos rfl] at h1;have:=pC.2 k;omega
    · have:=h e
      rw[oH] at this;omega
theorem Jz  : (es.any fun e=>decide (1<kN es e))=decide (¬es.Nodup):=by
 rw[ii,d_,decide_eq_true_eq,Fu];constructor
 · rintro⟨e,_,h⟩ k
   have:=k e;simp only[decide_eq_true_eq] at h;omega
 · intro h
   obtain⟨e,he⟩:=Classical.not_forall.1 h;exact⟨e,pC.1 (by omega),by simpa using Nat.not_le.1 he⟩
theorem sV{α:Type}{es:List α}{e:α}:(es++[e]).Nodup↔es.Nodup∧e∉es:=by
 rw[jj];constructor
 · rintro⟨h1,_,h3⟩
   exact⟨h1,fun k=>h3 e k e (by simp) O⟩
 · rintro⟨h1,h2⟩
   exact⟨h1,by simp,fun a ha b hb e'=>h2 (by rw[←bg.1 hb,←e'];exact ha)⟩
section
variable {K V:Type} [DecidableEq K]
def qQ(D:List (K × V))(xs:List (K × V)):List (K × V):=xs.foldl (fun D x=>fI D x.1 x.2) D
theorem Sl:∀(xs D:List (K × V)) (k:K),(xs.map (·.1)).Nodup→bL (qQ D xs) k=match bL xs k with | some v=>some v | none=>bL D k
 | [],D,k,_=>rfl
 | (a,v)::xs,D,k,h=>by
  rw[bi,fz] at h;have ih:=Sl xs (fI D a v) k h.2;show bL (qQ (fI D a v) xs) k=_
  rw[ih,kO,bL];by_cases e:a=k
  · rw[if_pos e,if_pos e]
    have:bL xs k=none:=lD.2 (e▸h.1);rw[this]
  · rw[if_neg e,if_neg e]
theorem ace(D xs ys:List (K × V)):qQ D (xs++ys)=qQ (qQ D xs) ys:=iu ..
def xV(D:List (K × Nat))(ks:List K):List (K × Nat):=ks.foldl (fun D k=>fI D k ((bL D k).getD 0+1)) D
def qR(ks:List K)(a:K):Nat:=(ks.filter fun x=>decide (x=a)).length
theorem sW{x a:K}{ks:List K}:qR (x::ks) a=(if x=a then 1 else 0)+qR ks a:=by
 unfold qR;by_cases h:x=a
 · rw[jr (by simpa using h),az,if_pos h];omega
 · rw[jd (by simpa using h),if_neg h];omega
theorem Sn{a:K}{ks ls:List K}:qR (ks++ls) a=qR ks a+qR ls a:=by simp[qR]
theorem acf:∀(ks:List K) (D:List (K × Nat)) (a:K),(bL (xV D ks) a).getD 0=(bL D a).getD 0+qR ks a
 | [],D,a=>rfl
 | k::ks,D,a=>by
  have h:=acf ks (fI D k ((bL D k).getD 0+1)) a;show (bL (xV (fI D k ((bL D k).getD 0+1)) ks) a).getD 0=_
  rw[h,kO,sW];by_cases e:k=a
  · subst e
    rw[if_pos rfl,if_pos rfl,de];omega
  · rw[if_neg e,if_neg e];omega
theorem aka(D:List (K × Nat))(ks ls:List K):xV D (ks++ls)=xV (xV D ks) ls:=iu ..
theorem nY:∀{l m:List K},l.Nodup→(∀a∈l,a∈m)→l.length≤m.length
 | [],_,_,_=>bw _
 | x::l,m,h,k=>by
  rw[fz] at h;have hx:=k x (bj ..);have h1:=nY (m:=m.erase x) h.2 fun a ha=>(List.mem_erase_of_ne (fun (e:a=x)=>h.1 (e▸ha))).2 (k a (bm _ ha));rw[List.length_erase_of_mem hx] at h1;have:=List.length_pos_of_mem hx;rw[az];omega
end
/-! ### What lies behind an edge -/
def kL(ts:List T3):List (E3 × P3):=ts.flatMap fun t=>[((t.a,t.b),t.c),((t.b,t.c),t.a),((t.c,t.a),t.b)]
theorem mT:∀ts:List T3,(kL ts).map (·.1)=aU ts
 | []=>rfl
 | t::ts=>by
  have:=mT ts;unfold kL aU at this ⊢;rw[ci,cz,this];rfl
theorem So{ts:List T3}{t:T3}(h:ts[k]? = some t):kL (ts.take (k+1))=kL (ts.take k)++[((t.a,t.b),t.c),((t.b,t.c),t.a),((t.c,t.a),t.b)]:=by
 unfold kL;rw[cC h,be];simp
theorem Bb(p q:P3):∀ts:List T3,bE ts p q=bL (kL ts) (p,q)
 | []=>rfl
 | t::ts=>by
  have ih:=Bb p q ts;have e:kL (t::ts)=((t.a,t.b),t.c)::((t.b,t.c),t.a)::((t.c,t.a),t.b)::kL ts:=rfl;rw[e,bE,bL,bL,bL,←ih,T3.fnd];by_cases h1:t.a=p∧t.b=q
  · rw[if_pos h1,if_pos (pa h1.1 h1.2)]
  · rw[if_neg h1,if_neg (fun e=>h1 ⟨congrArg qz e,congrArg qh e⟩)]
    by_cases h2:t.b=p∧t.c=q
    · rw[if_pos h2,if_pos (pa h2.1 h2.2)]
    · rw[if_neg h2,if_neg (fun e=>h2 ⟨congrArg qz e,congrArg qh e⟩)]
      by_cases h3:t.c=p∧t.a=q
      · rw[if_pos h3,if_pos (pa h3.1 h3.2)]
      · rw[if_neg h3,if_neg (fun e=>h3 ⟨congrArg qz e,congrArg qh e⟩)]
theorem yN{ts:List T3}(h:(aU ts).Nodup)(p q:P3):bL (qQ [] (kL ts)) (p,q)=bE ts p q:=by
 rw[Sl _ _ _ (by rw[mT];exact h),Bb];cases bL (kL ts) (p,q) <;> rfl
theorem pZ{ts:List T3}(h:((x,y),z)∈kL ts):((y,z),x)∈kL ts:=by
 obtain⟨t,ht,hx⟩:=df.1 h;refine df.2 ⟨t,ht,?_⟩;simp only[ao,bt,or_false,fc] at hx ⊢;rcases hx with ⟨⟨rfl,rfl⟩,rfl⟩ | ⟨⟨rfl,rfl⟩,rfl⟩ | ⟨⟨rfl,rfl⟩,rfl⟩
 · exact .inr (.inl ⟨⟨O,O⟩,O⟩)
 · exact .inr (.inr ⟨⟨O,O⟩,O⟩)
 · exact .inl ⟨⟨O,O⟩,O⟩
theorem wF{ts:List T3}(h:(aU ts).Nodup){e:E3}(h1:(e,x)∈kL ts)(h2:(e,y)∈kL ts):x=y:=by
 have k:((kL ts).map (·.1)).Nodup:=by rw[mT];exact h
 have a:=lH k h1;rw[lH k h2] at a;exact (fh a).symm
theorem sX{ts:List T3}{p:P3}(h:bE ts p q=some x):((p,q),x)∈kL ts:=rM (by rw[←Bb];exact h)
theorem uB{ts:List T3}{p:P3}(h:bE ts p q=some x):(p,q)∈aU ts:=by
 rw[←mT];exact cu.2 ⟨_,sX h,O⟩
theorem Du{ts:List T3}{p:P3}(h:(p,q)∈aU ts):∃x,bE ts p q=some x:=by
 rw[Bb];cases e:bL (kL ts) (p,q) with
 | some x=>exact⟨x,rfl⟩
 | none =>
  have:=lD.1 e;rw[mT] at this;exact absurd h this
theorem Sq{ts:List T3}(h:(aU ts).Nodup){p:P3}(h1:bE ts p x=some z)(h2:bE ts p y=some z):x=y :=
 wF h (pZ (pZ (sX h1))) (pZ (pZ (sX h2)))
theorem acg{ts:List T3}{p:P3}(h:bE ts p x=some z):(z,p)∈aU ts:=by
 rw[←mT];exact cu.2 ⟨_,pZ (pZ (sX h)),O⟩
def pE(ts:List T3)(p:P3):Nat→P3→Option P3
 | 0,x=>some x
 | n+1,x=>(bE ts p x).bind (pE ts p n)
theorem pF{ts:List T3}{p:P3}:∀(n:Nat) (x:P3),pE ts p (n+1) x=(pE ts p n x).bind (bE ts p)
 | 0,x=>by simp[pE]
 | n+1,x=>by
  rw[pE];cases h:bE ts p x with
  | none=>simp[pE,h]
  | some y =>
   rw[gw,pF n y,pE,h];rfl
theorem Sr{ms:List T3}{p s:P3}:∀(n:Nat) (x:P3),pA ms p s n x=true↔∃j,1≤j∧j≤n∧pE ms p j x=some s
 | 0,x=>⟨fun h=>(by cases h),fun⟨j,h1,h2,_⟩=>by omega⟩
 | n+1,x=>by
  cases h:bE ms p x with
  | none =>
   rw[Xn h];refine⟨fun k=>(by cases k),fun⟨j,h1,_,h3⟩=>?_⟩;obtain⟨i,rfl⟩:∃i,j=i+1:=⟨j-1,by omega⟩
   rw[pE,h] at h3;cases h3
  | some y =>
   by_cases e:y=s
   · subst e
     rw[abU h];exact⟨fun _=>⟨1,av _,by omega,by simp[pE,h]⟩,fun _=>rfl⟩
   · rw[Xo h e,Sr n y]
     constructor
     · rintro⟨j,h1,h2,h3⟩
       exact⟨j+1,by omega,by omega,by rw[pE,h];exact h3⟩
     · rintro⟨j,h1,h2,h3⟩
       obtain⟨i,rfl⟩:∃i,j=i+1:=⟨j-1,by omega⟩
       rw[pE,h,gw] at h3;cases i with
       | zero=>exact absurd (fh h3) e
       | succ i=>exact⟨i+1,by omega,by omega,h3⟩
def Dv(nx:P3→Option P3)(s:P3):Nat→P3→Nat→P3 × Nat
 | 0,a,z=>(a,z)
 | n+1,a,z=>if a=s then (a,z) else match nx a with | none=>(a,z) | some b=>Dv nx s n b (z+1)
theorem akb{nx:P3→Option P3}{z:Nat}:Dv nx s n s z=(s,z):=by
 cases n with
 | zero=>rfl
 | succ n=>rw[Dv,if_pos rfl]
theorem aax{ts:List T3}{p s:P3}{M:Nat}:∀(n:Nat) (a:P3) (z:Nat),n=M+1-z→((Dv (bE ts p) s n a z).1=s∧(Dv (bE ts p) s n a z).2<M↔∃j,z≤j∧j<M∧pE ts p (j-z) a=some s)
 | 0,a,z,h=>by
  rw[Dv];refine⟨fun k=>?_,fun⟨j,h1,h2,_⟩=>?_⟩
  · have:=k.2;simp only at this;omega
  · omega
 | n+1,a,z,h=>by
  rw[Dv];by_cases e:a=s
  · rw[if_pos e]
    refine⟨fun k=>⟨z,av _,k.2,by rw[ov,pE,e]⟩,fun⟨j,h1,h2,_⟩=>⟨e,by simp only;omega⟩⟩
  · rw[if_neg e]
    cases hb:bE ts p a with
    | none =>
     refine⟨fun k=>absurd k.1 e,fun⟨j,h1,h2,h3⟩=>?_⟩;cases hj:j-z with
     | zero=>rw[hj,pE] at h3;exact absurd (fh h3) e
     | succ i=>rw[hj,pE,hb] at h3;cases h3
    | some b =>
     rw[aax n b (z+1) (by omega)];constructor
     · rintro⟨j,h1,h2,h3⟩
       refine⟨j,by omega,h2,?_⟩;rw[show j-z=(j-(z+1))+1 by omega,pE,hb];exact h3
     · rintro⟨j,h1,h2,h3⟩
       rcases dz z j with hz | hz
       · refine⟨j,by omega,h2,?_⟩
         rw[show j-z=(j-(z+1))+1 by omega,pE,hb] at h3;exact h3
       · rw[show j-z=0 by omega,pE] at h3
         exact absurd (fh h3) e
/-! ### The triangles of a corner -/
theorem anI{t:T3}{p:P3}(h:t.fnd p q=some x):∃c,c<3∧t.cor c=p:=by
 unfold T3.fnd at h;split at h
 · rename_i h';exact⟨0,by decide,h'.1⟩
 · split at h
   · rename_i h';exact⟨1,by decide,h'.1⟩
   · split at h
     · rename_i h';exact⟨2,by decide,h'.1⟩
     · cases h
theorem aeb{ts us:List T3}{p:P3}:bE (ts++us) p q=match bE ts p q with | some x=>some x | none=>bE us p q:=by
 induction ts with
 | nil=>rfl
 | cons t ts ih =>
  rw[List.cons_append,bE,bE];cases t.fnd p q with
  | some x=>rfl
  | none=>exact ih
theorem ahy{t u:T3}{p:P3}(h:u∈yK p t 3):u=t∧∃c,c<3∧t.cor c=p:=by
 obtain⟨c,hc,h⟩:=df.1 h;unfold Rv at h;split at h
 · rename_i e
   exact⟨bg.1 h,c,gn.1 hc,e⟩
 · cases h
theorem aec{t:T3}{p:P3}{c:Nat}(hc:c<3)(h:t.cor c=p):t∈yK p t 3 :=
 df.2 ⟨c,gn.2 hc,by rw[Rv,if_pos h];exact bg.2 O⟩
theorem Ss{t:T3}{p q:P3}:∀us:List T3,(∀u∈us,u=t)→bE us p q=if us=[] then none else t.fnd p q
 | [],_=>rfl
 | u::us,h=>by
  have e:=h u (bj ..);have ih:=Ss (p:=p) (q:=q) us fun v hv=>h v (bm _ hv);rw[bE,e,if_neg (by simp)];cases hf:t.fnd p q with
  | some x=>rfl
  | none =>
   simp only;rw[ih];split
   · rfl
   · exact hf
theorem Og(p q:P3):∀ts:List T3,bE (oZ ts p) p q=bE ts p q
 | []=>rfl
 | t::ts=>by
  have e:oZ (t::ts) p=yK p t 3++oZ ts p:=by simp[oZ]
  rw[e,aeb,Og p q ts,bE,Ss (t:=t) _ (fun u hu=>(ahy hu).1)];by_cases h:yK p t 3=[]
  · rw[if_pos h]
    cases hf:t.fnd p q with
    | none=>rfl
    | some x =>
     obtain⟨c,hc,k⟩:=anI hf;have:=aec hc k;rw[h] at this;cases this
  · rw[if_neg h] <;> rfl
theorem Ka(ts:List T3)(p:P3):∀(n:Nat) (x:P3),pE (oZ ts p) p n x=pE ts p n x
 | 0,_=>rfl
 | n+1,x=>by
  rw[pE,pE,Og];cases bE ts p x with
  | none=>rfl
  | some y=>exact Ka ts p n y
theorem St(p:P3):∀ts:List T3,(oZ ts p).length=qR (bG ts) p
 | []=>rfl
 | t::ts=>by
  have ih:=St p ts;have e:oZ (t::ts) p=yK p t 3++oZ ts p:=by simp[oZ]
  have e2:bG (t::ts)=[t.a,t.b,t.c]++bG ts:=rfl;rw[e,e2,a_,Sn,ih]
  congr 1
  have r3:gm 3=[0,1,2]:=rfl;unfold yK;rw[r3];simp only[ci,ki,fe,a_,Rv];rw[sW,sW,sW];have k:∀(c:Nat) (x:P3),t.cor c=x→(if t.cor c=p then [t] else []).length=if x=p then 1 else 0:=fun c x hx=>by
   subst hx;split <;> rfl
  rw[k 0 t.a rfl,k 1 t.b rfl,k 2 t.c rfl];rfl
theorem Ya{p:P3}{ts:List T3}:s∈wB ts p↔(p,s)∈aU ts:=by
 unfold wB aU;rw[df,df];refine exists_congr fun t=>and_congr Iff.rfl ?_;unfold Dk;rw[show gm 3=[0,1,2] from rfl];simp only[ci,ki,fe,br,Rw,ao,bt,or_false,fc];have k:∀(c:Nat) (x y:P3),t.cor c=x→t.cor ((c+1)%3)=y→(s∈(if t.cor c=p then [t.cor ((c+1)%3)] else [])↔p=x∧s=y):=fun c x y hx hy=>by
  subst hx;subst hy;split
  · rename_i h;rw[bg];exact⟨fun e=>⟨h.symm,e⟩,fun e=>e.2⟩
  · rename_i h;exact⟨fun e=>(by cases e),fun e=>absurd e.1.symm h⟩
 rw[k 0 t.a t.b rfl rfl,k 1 t.b t.c rfl rfl,k 2 t.c t.a rfl rfl]
theorem Mf{ps:List P3}{p:P3}:x∈iW ps p↔x=p∨x∈ps:=by
 unfold iW;split
 · rename_i h
   exact⟨.inr,fun k=>k.elim (fun e=>e▸bn h) id⟩
 · conv=>rhs;rw[←jm (abT ps p) ps]
   simp only[br,bg];exact⟨fun h=>h.elim (fun h=>h.elim (fun h=>.inr (.inl h)) .inl) (fun h=>.inr (.inr h)),fun h=>h.elim (fun h=>.inl (.inr h)) (fun h=>h.elim (fun h=>.inl (.inl h)) .inr)⟩
theorem mM{ts:List T3}:x∈cK ts↔x∈bG ts:=by
 have:∀(ts:List T3) (ps:List P3),x∈ts.foldl (fun ps t=>iW (iW (iW ps t.a) t.b) t.c) ps↔x∈ps∨x∈bG ts:=by
  intro ts
  induction ts with
  | nil=>intro ps;simp[bG]
  | cons t ts ih =>
   intro ps;rw[jp,ih,Mf,Mf,Mf];have e:bG (t::ts)=[t.a,t.b,t.c]++bG ts:=rfl;rw[e];simp only[br,ao,bt,or_false];constructor
   · rintro ((h | h | h | h) | h)
     · exact .inr (.inl (.inr (.inr h)))
     · exact .inr (.inl (.inr (.inl h)))
     · exact .inr (.inl (.inl h))
     · exact .inl h
     · exact .inr (.inr h)
   · rintro (h | (h | h | h) | h)
     · exact .inl (.inr (.inr (.inr h)))
     · exact .inl (.inr (.inr (.inl h)))
     · exact .inl (.inr (.inl h))
     · exact .inl (.inl h)
     · exact .inr h
 have:=this ts [];simpa[cK] using this
theorem yO{ts:List T3}{e:E3}(h:e∈aU ts):e.1∈bG ts∧e.2∈bG ts:=by
 obtain⟨t,ht,hx⟩:=df.1 h;have key:∀x,x=t.a∨x=t.b∨x=t.c→x∈bG ts:=fun x hx=>df.2 ⟨t,ht,by simpa using hx⟩;simp only[ao,bt,or_false] at hx;rcases hx with rfl | rfl | rfl
 · exact⟨key _ (.inl O),key _ (.inr (.inl O))⟩
 · exact⟨key _ (.inr (.inl O)),key _ (.inr (.inr O))⟩
 · exact⟨key _ (.inr (.inr O)),key _ (.inl O)⟩
def aay(ts:List T3)(e:E3):Prop:=∃x,bE ts e.1 e.2=some x∧(Dv (bE ts e.1) e.2 (qR (bG ts) e.1+1-1) x 1).1=e.2∧(Dv (bE ts e.1) e.2 (qR (bG ts) e.1+1-1) x 1).2<qR (bG ts) e.1
theorem Su{ts:List T3}{e:E3}:aay ts e↔e∈aU ts∧pA (oZ ts e.1) e.1 e.2 ((oZ ts e.1).length-1) e.2=true:=by
 rw[Sr,St];constructor
 · rintro⟨x,hx,h⟩
   obtain⟨j,h1,h2,h3⟩:=(aax (M:=qR (bG ts) e.1) _ x 1 (by omega)).1 h;refine⟨uB hx,j,h1,by omega,?_⟩;rw[Ka,show j=(j-1)+1 by omega,pE,hx];exact h3
 · rintro⟨he,j,h1,h2,h3⟩
   obtain⟨x,hx⟩:=Du he;refine⟨x,hx,(aax (M:=qR (bG ts) e.1) _ x 1 (by omega)).2 ⟨j,h1,by omega,?_⟩⟩;rw[Ka,show j=(j-1)+1 by omega,pE,hx] at h3;exact h3
theorem pinned{ts:List T3}:(cK ts).any (Jo ts)=true↔∃e,aay ts e:=by
 rw[d_];constructor
 · rintro⟨p,_,h⟩
   obtain⟨s,hs,hr⟩:=d_.1 h;exact⟨(p,s),Su.2 ⟨Ya.1 hs,hr⟩⟩
 · rintro⟨e,h⟩
   obtain⟨he,hr⟩:=Su.1 h;exact⟨e.1,mM.2 (yO he).1,d_.2 ⟨e.2,Ya.2 he,hr⟩⟩
/-! ### The ends of fans -/
def aaz(ts:List T3)(p:P3):Nat→P3→P3
 | 0,a=>a
 | n+1,a=>match bE ts p a with
  | none=>a
  | some x=>aaz ts p n x
theorem aed{ts:List T3}{p:P3}:∀(i n:Nat) (a x:P3),i≤n→pE ts p i a=some x→bE ts p x=none→aaz ts p n a=x
 | 0,n,a,x,_,h,hn=>by
  cases h;cases n with
  | zero=>rfl
  | succ n=>simp only[aaz,hn]
 | i+1,n,a,x,hi,h,hn=>by
  obtain⟨m,rfl⟩:∃m,n=m+1:=⟨n-1,by omega⟩
  rw[pE] at h;cases hb:bE ts p a with
  | none=>rw[hb] at h;cases h
  | some y =>
   rw[hb,gw] at h;simp only[aaz,hb];exact aed i m y x (by omega) h hn
def pG(ts:List T3):Prop:=∀t∈ts,tX t=false
theorem anJ{t:T3}(h:tX t=false):t.a≠t.b∧t.b≠t.c∧t.c≠t.a:=by
 unfold tX at h;simp only[Bool.or_eq_false_iff,decide_eq_false_iff_not] at h;exact⟨h.1.1,h.1.2,h.2⟩
theorem ach{p:P3}:∀{ts:List T3},pG ts→((aU ts).filter fun e=>decide (e.1=p)).length≤ts.length
 | [],_=>av _
 | t::ts,h=>by
  have ih:=ach (p:=p) (ts:=ts) fun u hu=>h u (bm _ hu);obtain⟨h1,h2,h3⟩:=anJ (h t (bj ..));have e:aU (t::ts)=[(t.a,t.b),(t.b,t.c),(t.c,t.a)]++aU ts:=rfl;rw[e,fx,a_,az];have:(List.filter (fun e:E3=>decide (e.1=p)) [(t.a,t.b),(t.b,t.c),(t.c,t.a)]).length≤1:=by
   simp only[ep,mb];by_cases ha:t.a=p
   · have hb:¬t.b=p:=fun e=>h1 (ha.trans e.symm)
     have hc:¬t.c=p:=fun e=>h3 (e.trans ha.symm);simp[ha,hb,hc]
   · by_cases hb:t.b=p
     · have hc:¬t.c=p:=fun e=>h2 (hb.trans e.symm)
       simp[ha,hb,hc]
     · by_cases hc:t.c=p <;> simp[ha,hb,hc]
  omega
theorem Pu{ts:List T3}{p:P3}:∀(i j:Nat) (a:P3),pE ts p (i+j) a=(pE ts p i a).bind (pE ts p j)
 | 0,j,a=>by simp[pE]
 | i+1,j,a=>by
  rw[show i+1+j=(i+j)+1 by omega,pE,pE];cases bE ts p a with
  | none=>rfl
  | some y=>rw[gw,gw];exact Pu i j y
theorem Yb{ts:List T3}{p a:P3}(hn:(aU ts).Nodup)(hb:(a,p)∉aU ts):∀(i j:Nat) (x:P3),i<j→pE ts p i a=some x→pE ts p j a≠some x
 | 0,j,x,hij,h,k=>by
  cases h;obtain⟨m,rfl⟩:∃m,j=m+1:=⟨j-1,by omega⟩
  rw[pF] at k;obtain⟨y,_,hy⟩:=ir.1 k;exact hb (acg hy)
 | i+1,j,x,hij,h,k=>by
  obtain⟨m,rfl⟩:∃m,j=m+1:=⟨j-1,by omega⟩
  rw[pF] at h k;obtain⟨y,hy,hy'⟩:=ir.1 h;obtain⟨z,hz,hz'⟩:=ir.1 k;have e:=Sq hn hy' hz';subst e;exact Yb hn hb i m y (by omega) hy hz
theorem aaA{ts:List T3}{p:P3}(hd:pG ts)(hn:(aU ts).Nodup)(hb:(a,p)∉aU ts)(h:pE ts p i a=some x):i≤ts.length:=by
 have key:∀j,j≤i→∃y,pE ts p j a=some y:=fun j hj=>by
  have e:i=j+(i-j):=by omega
  rw[e,Pu] at h;obtain⟨y,hy,_⟩:=ir.1 h;exact⟨y,hy⟩
 have h1:=ach (p:=p) hd;have h2:((gm i).map fun j=>(p,(pE ts p j a).getD p)).length≤((aU ts).filter fun e=>decide (e.1=p)).length:=by
  refine nY ?_ fun e he=>?_
  · rw[qk,la]
    refine (List.pairwise_lt_range (n:=i)).imp_of_mem fun {j k} hj hk hjk e=>?_;obtain⟨y,hy⟩:=key j (by have:=gn.1 hj;omega);obtain⟨z,hz⟩:=key k (by have:=gn.1 hk;omega);rw[hy,hz] at e;have e':y=z:=(Prod.mk.inj e).2;subst e';exact Yb hn hb j k y hjk hy hz
  · obtain⟨j,hj,rfl⟩:=cu.1 he
    have hj':=gn.1 hj;obtain⟨y,hy⟩:=key j (by omega);obtain⟨z,hz⟩:=key (j+1) (by omega);rw[pF,hy,gw] at hz;refine c_.2 ⟨?_,by simp⟩;rw[hy];exact uB hz
 rw[dm,ky] at h2;omega
/-! ### As the reference says it -/
abbrev Mv:=P3 × P3
variable{ms:List Mv}
def mU:List Mv→P3→P3
 | [],p=>p
 | m::ms,p=>if m.1=p then m.2 else mU ms p
def T3.has(t:T3)(p:P3):Bool:=decide (t.a=p)||decide (t.b=p)||decide (t.c=p)
def wG(ts:List T3)(p:P3):Bool:=ts.any fun t=>t.has p
def kP(ts:List T3)(p q:P3):Bool:=ts.any fun t=>t.has p&&t.has q
def wH(rim:List E3)(p:P3):Bool:=rim.any fun e=>decide (e.1=p)||decide (e.2=p)
def Dw(fine coarse:List T3)(rim:List E3):Bool:=rim.all fun e=>decide (aaz fine e.1 fine.length e.2=aaz coarse e.1 coarse.length e.2)
def uM(fine coarse:List T3)(rim:List E3):Bool:=(aU coarse).any fun e=>wH rim e.1&&wH rim e.2 && !kP fine e.1 e.2
def xD(fine coarse:List T3)(ms:List Mv)(rim:List E3)(i:Nat)(m:Mv):Bool :=
 (decide (i=0)||(ms[i-1]?).any fun k=>decide (k.1.Lt m.1))&&wG fine m.1&&(wG coarse m.2&&wG fine m.2&&ms.all fun k=>decide (k.1≠m.2)) && !wH rim m.1
def uN(fine coarse:List T3)(ms:List Mv)(rim:List E3):Bool:=ms.zipIdx.all fun x=>xD fine coarse ms rim x.2 x.1
def eX(t:T3):T3:=if t.c.Lt t.a∧(t.c.Lt t.b∨¬t.b.Lt t.a) then ⟨t.c,t.a,t.b⟩ else if t.b.Lt t.a then ⟨t.b,t.c,t.a⟩ else t
theorem Mg{t u:T3}(h1:t.a=u.a)(h2:t.b=u.b)(h3:t.c=u.c):t=u:=by
 cases t;cases u;simp only at h1 h2 h3;subst h1;subst h2;subst h3;rfl
instance:DecidableEq T3:=fun t u=>decidable_of_iff (t.a=u.a∧t.b=u.b∧t.c=u.c) ⟨fun h=>Mg h.1 h.2.1 h.2.2,fun h=>by rw[h];exact⟨rfl,rfl,rfl⟩⟩
def T3.img(ms:List Mv)(t:T3):T3:=⟨mU ms t.a,mU ms t.b,mU ms t.c⟩
def T3.nd(t:T3):Bool:=decide (t.a≠t.b)&&decide (t.b≠t.c)&&decide (t.c≠t.a)
def Sv(coarse:List T3)(x:T3):Bool:=if x.nd then coarse.any fun u=>decide (eX u=eX x) else kP coarse x.a (if x.a=x.b then x.c else x.b)
def akc(ms:List Mv)(fine:List T3)(u:T3):Nat:=(fine.filter fun t=>(t.img ms).nd&&decide (eX u=eX (t.img ms))).length
def uO(fine coarse:List T3)(ms:List Mv):Bool:=(fine.all fun t=>Sv coarse (t.img ms))&&coarse.all fun u=>decide (akc ms fine u=1)
/-! ### Corners and edges -/
theorem iJ{t:T3}{p:P3}:t.has p=true↔p=t.a∨p=t.b∨p=t.c:=by
 unfold T3.has;simp only[im,decide_eq_true_eq,or_assoc];exact or_congr ⟨Eq.symm,Eq.symm⟩ (or_congr ⟨Eq.symm,Eq.symm⟩ ⟨Eq.symm,Eq.symm⟩)
theorem Dx{ts:List T3}{p:P3}:wG ts p=true↔p∈bG ts:=by
 unfold wG bG;rw[d_,df];exact exists_congr fun t=>and_congr Iff.rfl (by rw[iJ];simp)
theorem aaB(ts:List T3)(p:P3):wG ts p=decide (p∈bG ts):=by rw[ii,Dx,decide_eq_true_eq]
theorem kU{ts:List T3}{p:P3}:kP ts p q=true↔∃t∈ts,t.has p=true∧t.has q=true:=by
 unfold kP;rw[d_];exact exists_congr fun t=>and_congr Iff.rfl (by rw[bh])
theorem iF{ts:List T3}{p:P3}(h:kP ts p q=true):kP ts q p=true:=by
 obtain⟨t,ht,h1,h2⟩:=kU.1 h;exact kU.2 ⟨t,ht,h2,h1⟩
theorem Mh{ts:List T3}{p:P3}:kP ts p p=true↔p∈bG ts:=by
 rw[kU,←Dx,wG,d_];exact exists_congr fun t=>and_congr Iff.rfl ⟨fun h=>h.1,fun h=>⟨h,h⟩⟩
theorem Mi{ts:List T3}{p:P3}(h:kP ts p q=true):kP ts p p=true:=by
 obtain⟨t,ht,h1,_⟩:=kU.1 h;exact kU.2 ⟨t,ht,h1,h1⟩
theorem Hp{ts:List T3}{e:E3}(h:e∈aU ts):kP ts e.1 e.2=true:=by
 obtain⟨t,ht,hx⟩:=df.1 h;refine kU.2 ⟨t,ht,?_,?_⟩ <;> rw[iJ] <;> (simp only[ao,bt,or_false] at hx;rcases hx with rfl | rfl | rfl <;> simp)
theorem Sw{ts:List T3}{p:P3}(h:kP ts p q=true)(hne:p≠q):(p,q)∈aU ts∨(q,p)∈aU ts:=by
 obtain⟨t,ht,h1,h2⟩:=kU.1 h;have key:∀e,e=(t.a,t.b)∨e=(t.b,t.c)∨e=(t.c,t.a)→e∈aU ts:=fun e he=>df.2 ⟨t,ht,by simpa using he⟩;rcases iJ.1 h1 with rfl | rfl | rfl <;> rcases iJ.1 h2 with rfl | rfl | rfl
 · exact absurd O hne
 · exact .inl (key _ (.inl O))
 · exact .inr (key _ (.inr (.inr O)))
 · exact .inr (key _ (.inl O))
 · exact absurd O hne
 · exact .inl (key _ (.inr (.inl O)))
 · exact .inl (key _ (.inr (.inr O)))
 · exact .inr (key _ (.inr (.inl O)))
 · exact absurd O hne
def akd(t:T3):List E3:=[(t.a,t.a),(t.a,t.b),(t.a,t.c),(t.b,t.a),(t.b,t.b),(t.b,t.c),(t.c,t.a),(t.c,t.b),(t.c,t.c)]
def oR(ts:List T3):List E3:=ts.flatMap akd
theorem Mj{ts:List T3}{e:E3}:e∈oR ts↔kP ts e.1 e.2=true:=by
 unfold oR;rw[df,kU];refine exists_congr fun t=>and_congr Iff.rfl ?_;rw[iJ,iJ];obtain⟨p,q⟩:=e;simp only[akd,ao,bt,or_false,fc];constructor
 · rintro (h | h | h | h | h | h | h | h | h) <;> simp[h.1,h.2]
 · rintro⟨h1 | h1 | h1,h2 | h2 | h2⟩ <;> simp[h1,h2]
theorem Fv(ts:List T3)(e:E3):(bL (dX [] (oR ts)) e).getD false=kP ts e.1 e.2:=by
 exact ii.2 (Sk.trans Mj)
theorem aee{ts:List T3}{t:T3}(h:ts[k]? = some t):oR (ts.take (k+1))=oR (ts.take k)++akd t:=by
 unfold oR;rw[cC h,be];simp
/-! ### The border -/
def Sx(rim:List E3):List P3:=rim.flatMap fun e=>[e.1,e.2]
theorem Pv{rim:List E3}{p:P3}:wH rim p=true↔p∈Sx rim:=by
 unfold wH Sx;rw[d_,df];refine exists_congr fun e=>and_congr Iff.rfl ?_;simp only[im,decide_eq_true_eq,ao,bt,or_false];exact or_congr ⟨Eq.symm,Eq.symm⟩ ⟨Eq.symm,Eq.symm⟩
theorem Pw(rim:List E3)(p:P3):(bL (dX [] (Sx rim)) p).getD false=wH rim p:=by
 rw[lZ,ii,decide_eq_true_eq,Pv]
theorem aci{rim:List E3}{e:E3}(h:rim[k]? = some e):Sx (rim.take (k+1))=Sx (rim.take k)++[e.1,e.2]:=by
 unfold Sx;rw[cC h,be];simp
theorem acj{ts:List T3}{p:P3}(h:wH (aO ts) p=true):p∈bG ts:=by
 obtain⟨e,he,hp⟩:=df.1 (Pv.1 h);have hc:=yO (wE.1 he).1;simp only[ao,bt,or_false] at hp;rcases hp with rfl | rfl
 · exact hc.1
 · exact hc.2
def aef(fine:List T3)(rim:List E3)(e:E3):Bool:=wH rim e.1&&wH rim e.2 && !kP fine e.1 e.2
theorem Yc{fine coarse:List T3}:uM fine coarse (aO fine)=true↔∃e∈oR coarse,aef fine (aO fine) e=true:=by
 unfold uM;rw[d_];constructor
 · rintro⟨e,he,h⟩
   exact⟨e,Mj.2 (Hp he),h⟩
 · rintro⟨e,he,h⟩
   have h0:=Mj.1 he;unfold aef at h;simp only[bh,Bool.not_eq_true'] at h;obtain⟨⟨h1,h2⟩,h3⟩:=h;obtain⟨p,q⟩:=e;have hne:p≠q:=fun e=>by
    subst e;rw[Mh.2 (acj h1)] at h3;cases h3
   rcases Sw h0 hne with k | k
   · exact⟨_,k,by simp only at h1 h2 h3;simp[h1,h2,h3]⟩
   · refine⟨_,k,?_⟩
     have h4:kP fine q p=false:=by
      cases hh:kP fine q p with
      | false=>rfl
      | true=>rw[iF hh] at h3;cases h3
     simp only at h1 h2;simp[h1,h2,h4]
/-! ### The ends of fans -/
def Hb(ts:List T3)(rim:List E3):List (E3 × P3):=rim.map fun e=>(e,aaz ts e.1 ts.length e.2)
theorem Fw(ts:List T3)(rim:List E3):(Hb ts rim).map (·.1)=rim:=by
 unfold Hb;rw[List.map_map];exact List.map_id' rim
theorem pR.nodup(h:pR es):es.Nodup:=oa (fun {a b} (k:Lh a b) (e:a=b)=>Lh.irrefl b (e▸k)) h
/-! ### Moves -/
theorem Bc{fine coarse:List T3}{rim:List E3}:uN fine coarse ms rim=true↔∀i m,ms[i]? = some m→xD fine coarse ms rim i m=true:=by
 unfold uN;rw[dt];constructor
 · intro h i m hm
   exact h (m,i) (List.mem_zipIdx_iff_getElem?.2 hm)
 · intro h x hx
   exact h x.2 x.1 (List.mem_zipIdx_iff_getElem?.1 hx)
theorem aeg{fine coarse:List T3}{rim:List E3}(h:uN fine coarse ms rim=true):∀i m k,ms[i]? = some k→ms[i+1]? = some m→k.1.Lt m.1:=fun i m k hk hm=>by
 have:=Bc.1 h (i+1) m hm;unfold xD at this;simp only[bh,im] at this;have h1:=this.1.1.1;rw[Nat.add_sub_cancel,hk] at h1;simpa using h1
theorem Oh:∀{ms:List Mv},(∀(i:Nat) (m k:Mv),ms[i]? = some k→ms[i+1]? = some m→k.1.Lt m.1)→(ms.map (·.1)).Pairwise P3.Lt
 | [],_=>kz
 | [m],_=>jq _ _
 | m::k::ms,h=>by
  have ih:=Oh (ms:=k::ms) fun i a b h1 h2=>h (i+1) a b h1 h2;have h0:=h 0 k m rfl rfl;rw[bi];refine bq.2 ⟨fun x hx=>?_,ih⟩;rw[bi] at hx ih;rcases ao.1 hx with rfl | hx
  · exact h0
  · exact P3.lt_trans h0 ((bq.1 ih).1 x hx)
theorem ack{fine coarse:List T3}{rim:List E3}(h:uN fine coarse ms rim=true):(ms.map (·.1)).Nodup :=
 oa (fun {a b} (k:P3.Lt a b) (e:a=b)=>P3.lt_irrefl b (e▸k)) (Oh (aeg h))
theorem aaC(p:P3):∀ms:List Mv,mU ms p=(bL ms p).getD p
 | []=>rfl
 | m::ms=>by
  rw[mU,bL];split
  · rfl
  · exact aaC p ms
theorem anK(h:(ms.map (·.1)).Nodup)(p:P3):(bL (qQ [] ms) p).getD p=mU ms p:=by
 rw[aaC,Sl _ _ _ h];cases bL ms p <;> rfl
theorem Sy{K:Type}[DecidableEq K]{V:Type}:∀(ks:List K) (D:List (K × V)) (a:K),(D.map (·.1)).Nodup→((ks.foldl sB D).map (·.1)).Nodup∧bL (ks.foldl sB D) a=if a∈ks then none else bL D a
 | [],D,a,h=>⟨h,by simp⟩
 | k::ks,D,a,h=>by
  obtain⟨h1,h2⟩:=Sy ks (sB D k) a (Sd h k);refine⟨h1,?_⟩;rw[jp,h2,Lz k a h];by_cases ha:a∈ks
  · rw[if_pos ha,if_pos (bm _ ha)]
  · rw[if_neg ha]
    by_cases e:k=a
    · rw[if_pos e,if_pos (e▸bj ..)]
    · rw[if_neg e,if_neg (fun k'=>(ao.1 k').elim (fun e'=>e e'.symm) ha)]
theorem Fx{fine coarse:List T3}{ms:List Mv}{rim:List E3}{cf cc:List P3}(hf:∀a,a∈cf↔a∈bG fine)(hc:∀a,a∈cc↔a∈bG coarse)(i:Nat)(m:Mv) :
 xD fine coarse ms rim i m=((decide (i=0)||(ms[i-1]?).any fun k=>decide (k.1.Lt m.1))&&(bL ((Sx rim).foldl sB (dX [] cf)) m.1).getD false&&(bL (dX [] cf) m.2).getD false&&(bL ((ms.map (·.1)).foldl sB (dX [] cc)) m.2).getD false):=by
 have n1:=pY cf [] (by simp);have n2:=pY cc [] (by simp);have e1:(bL ((Sx rim).foldl sB (dX [] cf)) m.1).getD false=(wG fine m.1 && !wH rim m.1):=by
  rw[(Sy _ _ m.1 n1).2];by_cases h:m.1∈Sx rim
  · rw[if_pos h,Pv.2 h];simp
  · have:wH rim m.1=false:=by
     cases hh:wH rim m.1 with
     | false=>rfl
     | true=>exact absurd (Pv.1 hh) h
    rw[if_neg h,lZ,this,aaB];simp[hf]
 have e2:(bL (dX [] cf) m.2).getD false=wG fine m.2:=by rw[lZ,aaB];simp[hf]
 have e3:(bL ((ms.map (·.1)).foldl sB (dX [] cc)) m.2).getD false=(wG coarse m.2&&ms.all fun k=>decide (k.1≠m.2)):=by
  rw[(Sy _ _ m.2 n2).2];by_cases h:m.2∈ms.map (·.1)
  · obtain⟨k,hk,e⟩:=cu.1 h
    have:(ms.all fun k=>decide (k.1≠m.2))=false:=by
     rw[List.all_eq_false];exact⟨k,hk,by simp[e]⟩
    rw[if_pos h,this];simp
  · have:(ms.all fun k=>decide (k.1≠m.2))=true:=by
     rw[dt];exact fun k hk=>decide_eq_true fun e=>h (cu.2 ⟨k,hk,e⟩)
    rw[if_neg h,lZ,this,aaB];simp[hc]
 rw[e1,e2,e3,xD];cases (decide (i=0)||(ms[i-1]?).any fun k=>decide (k.1.Lt m.1)) <;> cases wG fine m.1 <;> cases wH rim m.1 <;> cases wG fine m.2 <;> cases wG coarse m.2 <;> simp
/-! ### Covers -/
def rQ(ms:List Mv)(ts:List T3):List T3:=(ts.filter fun t=>(t.img ms).nd).map fun t=>eX (t.img ms)
theorem Kb{ts:List T3}{t:T3}(h:ts[k]? = some t):rQ ms (ts.take (k+1))=rQ ms (ts.take k)++if (t.img ms).nd then [eX (t.img ms)] else []:=by
 unfold rQ;rw[cC h,fx,cz];cases hn:(t.img ms).nd <;> simp[hn]
theorem Kc(ms:List Mv)(u:T3):∀ts:List T3,akc ms ts u=qR (rQ ms ts) (eX u)
 | []=>rfl
 | t::ts=>by
  have ih:=Kc ms u ts;unfold akc rQ at ih ⊢;cases hn:(t.img ms).nd with
  | false=>rw[jd (by simp[hn]),jd (by simp[hn])];exact ih
  | true =>
   rw[jr (p:=fun t:T3=>(t.img ms).nd) (by simp[hn]),bi,sW];by_cases e:eX u=eX (t.img ms)
   · rw[jr (by simp[hn,e]),az,if_pos e.symm];omega
   · rw[jd (by simp[e]),if_neg (fun h=>e h.symm)];omega
theorem Dy{K:Type}[DecidableEq K]{ks:List K}{a:K}:0<qR ks a↔a∈ks:=by
 unfold qR;rw[my];simp
def okP(fine coarse:List T3)(ms:List Mv)(j:Nat)(t:T3):Prop :=
 if (t.img ms).nd then eX (t.img ms)∈coarse.map eX∧eX (t.img ms)∉rQ ms (fine.take j) else kP coarse (t.img ms).a (t.img ms).b=true∧kP coarse (t.img ms).b (t.img ms).c=true
theorem Hq{coarse:List T3}{x:T3}(h:x.nd=false):Sv coarse x=true↔kP coarse x.a x.b=true∧kP coarse x.b x.c=true:=by
 unfold Sv;rw[h];simp only[pv,if_false];by_cases e:x.a=x.b
 · rw[if_pos e,←e]
   exact⟨fun k=>⟨Mi k,k⟩,fun k=>k.2⟩
 · rw[if_neg e]
   refine⟨fun k=>⟨k,?_⟩,fun k=>k.1⟩;by_cases e2:x.b=x.c
   · rw[←e2];exact Mi (iF k)
   · have e3:x.c=x.a:=by
      unfold T3.nd at h;simp only[Bool.and_eq_false_iff,decide_eq_false_iff_not,ne_eq] at h;rcases h with (h | h) | h
      · exact absurd (Decidable.not_not.1 h) e
      · exact absurd (Decidable.not_not.1 h) e2
      · exact Decidable.not_not.1 h
     rw[e3];exact iF k
theorem Sz{coarse:List T3}{x:T3}(h:x.nd=true):Sv coarse x=true↔eX x∈coarse.map eX:=by
 unfold Sv;rw[h,if_pos rfl,d_,cu];exact exists_congr fun u=>and_congr Iff.rfl (by rw[decide_eq_true_eq])
theorem Hr{K:Type}[DecidableEq K]:∀{ks:List K},ks.Nodup→∀a,qR ks a≤1
 | [],_,a=>bw _
 | k::ks,h,a=>by
  rw[fz] at h;rw[sW];by_cases e:k=a
  · subst e
    have:¬0<qR ks k:=fun q=>h.1 (Dy.1 q);rw[if_pos rfl];omega
  · rw[if_neg e];have:=Hr h.2 a;omega
theorem Mk{fine coarse:List T3}  : uO fine coarse ms=true↔(∀j t,fine[j]? = some t→okP fine coarse ms j t)∧∀u∈coarse,eX u∈rQ ms fine:=by
 unfold uO;rw[bh,dt,dt];constructor
 · rintro⟨h1,h2⟩
   have h3:∀u∈coarse,qR (rQ ms fine) (eX u)=1:=fun u hu=>by rw[←Kc];exact of_decide_eq_true (h2 u hu)
   refine⟨fun j t ht=>?_,fun u hu=>Dy.1 (by rw[h3 u hu];decide)⟩;have hp:=h1 t (bn ht);unfold okP;cases hn:(t.img ms).nd with
   | false=>rw[if_neg (by simp)];exact (Hq hn).1 hp
   | true =>
    rw[if_pos rfl];have hm:=(Sz hn).1 hp;refine⟨hm,fun k=>?_⟩;obtain⟨u,hu,e⟩:=cu.1 hm;have hc:=h3 u hu;have e2:rQ ms fine=rQ ms (fine.take (j+1))++rQ ms (fine.drop (j+1)):=by
     unfold rQ;rw[←cz,←fx,jm]
    rw[e2,Sn,Kb ht,hn,if_pos rfl,Sn,e,sW,if_pos rfl] at hc;have:=Dy.2 k;omega
 · rintro⟨h1,h2⟩
   have nd:∀j,(rQ ms (fine.take j)).Nodup:=by
    intro j
    induction j with
    | zero=>simp[rQ]
    | succ j ih =>
     cases ht:fine[j]? with
     | none =>
      have e:fine.take (j+1)=fine.take j:=by
       have:=List.getElem?_eq_none_iff.1 ht;rw[bf (by omega),bf (by omega)]
      rw[e];exact ih
     | some t =>
      rw[Kb ht];have k:=h1 j t ht;unfold okP at k;cases hn:(t.img ms).nd with
      | false=>simpa using ih
      | true =>
       rw[hn,if_pos rfl] at k;rw[if_pos rfl];exact sV.2 ⟨ih,k.2⟩
   refine⟨fun t ht=>?_,fun u hu=>?_⟩
   · obtain⟨j,hj⟩:=ej.1 ht
     have k:=h1 j t hj;unfold okP at k;cases hn:(t.img ms).nd with
     | false=>rw[hn,if_neg (by simp)] at k;exact (Hq hn).2 k
     | true=>rw[hn,if_pos rfl] at k;exact (Sz hn).2 k.1
   · refine decide_eq_true ?_
     rw[Kc];have h3:=Hr (by have:=nd fine.length;rwa [List.take_length] at this) (eX u);have h4:=Dy.2 (h2 u hu);omega
section
variable {w w':am} {b:Nat} {A:Option Addr} {n cap:Nat} {xs:List Nat}
end
theorem acl(h:m<9223372036854775808):IntKind.i64.wrap ((m:Int).tdiv (n:Int))=((m / n:Nat):Int):=Pp h
section
variable {P:bz} {ds:List dl} {l:List ak} {T ty:ay}
variable {ops:Array Oper} {Q:Exit→Act→am→Prop} {rest:List Oper} {d:Nat} {pos:String} {after:Array Edge} {w:am}
end
instance (a:Int):Decidable (pV a):=inferInstanceAs (Decidable (_∧_))
def ahz(a:Int):Int:=if pV a then a else 0
theorem ahA{a:Int}{X:Nat}(h:X=a.natAbs):(fM a=true∧X≤9223372036854775808∧pV a∧a = -(X:Int))∨(fM a=true∧9223372036854775808<X∧¬pV a) ∨
 (fM a=false∧9223372036854775808≤X∧¬pV a)∨(fM a=false∧X<9223372036854775808∧pV a∧a=(X:Int)):=by
 unfold pV fM;rcases Int.lt_or_le a 0 with h0 | h0
 · rw[decide_eq_true h0]
   rcases dz 9223372036854775808 X with h1 | h1
   · exact .inr (.inl ⟨O,h1,by omega⟩)
   · exact .inl ⟨O,h1,by omega,by omega⟩
 · rw[decide_eq_false (by omega)]
   rcases dz X 9223372036854775808 with h1 | h1
   · exact .inr (.inr (.inr ⟨O,h1,by omega,by omega⟩))
   · exact .inr (.inr (.inl ⟨O,h1,by omega⟩))
theorem aei{a:Int}(h:¬pV a):Value.tuple #[.int .i64 0,.bool false]=.tuple #[.int .i64 (ahz a),.bool (decide (pV a))]:=by rw[ahz,if_neg h,decide_eq_false h]
theorem afO{a n:Int}(h:pV a)(e:n=a):Value.tuple #[.int .i64 n,.bool true]=.tuple #[.int .i64 (ahz a),.bool (decide (pV a))]:=by rw[ahz,if_pos h,decide_eq_true h,e]
theorem ake{X:Nat}(h:X≤9223372036854775808):IntKind.i64.wrap (IntKind.u64.wrap (0-(X:Int))) = -(X:Int):=by
 rw[iQ];simp[IntKind.wrap,IntKind.bits,IntKind.signed];split <;> omega
def rR(p q:P3):Nat:=((q.sub p).dot (q.sub p)).natAbs
def wR(p q:P3):Int:=(fB (rR p q):Int)+if fB (rR p q)*fB (rR p q)=rR p q then 0 else 1
def pH:List Mv→Int→Option Int
 | [],n=>some n
 | m::ms,n=>if pV (wR m.1 m.2) then pH ms (max n (wR m.1 m.2)) else none
def oS(fine coarse:List T3)(ms:List Mv):Int × Int :=
 if cQ true fine≠0 then (0,cQ true fine)
 else if cQ true coarse≠0 then (0,cQ true coarse)
 else if aO fine≠aO coarse then (0,30)
 else if uM fine coarse (aO fine)=true∨Dw fine coarse (aO fine)=false then (0,30)
 else if uN fine coarse ms (aO fine)=false then (0,31)
 else if uO fine coarse ms=false then (0,32)
 else match pH ms 0 with
  | some n=>(n,0)
  | none=>(0,3)
/-! ### What CheckOpen says -/
theorem yP{ts:List T3}(h:cQ true ts=0):pG ts∧(aU ts).Nodup:=by
 unfold cQ at h;split at h
 · cases h
 · rename_i h1
   split at h
   · cases h
   · rename_i h2
     refine⟨fun t ht=>?_,?_⟩
     · cases hd:tX t with
       | false=>rfl
       | true=>exact absurd (d_.2 ⟨t,ht,hd⟩) h1
     · rw[Jz] at h2
       exact Decidable.not_not.1 fun k=>h2 (decide_eq_true k)
def Wk(t:T3):List E3:=[(t.a,t.b),(t.b,t.c),(t.c,t.a)]
theorem Ye{t:T3}{e:E3}:e∈Wk (eX t)↔e∈Wk t:=by
 unfold eX;split
 · simp only[Wk,ao,bt,or_false]
   exact⟨fun h=>h.elim (fun h=>.inr (.inr h)) fun h=>h.elim .inl fun h=>.inr (.inl h),fun h=>h.elim (fun h=>.inr (.inl h)) fun h=>h.elim (fun h=>.inr (.inr h)) .inl⟩
 · split
   · simp only[Wk,ao,bt,or_false]
     exact⟨fun h=>h.elim (fun h=>.inr (.inl h)) fun h=>h.elim (fun h=>.inr (.inr h)) .inl,fun h=>h.elim (fun h=>.inr (.inr h)) fun h=>h.elim .inl fun h=>.inr (.inl h)⟩
   · exact Iff.rfl
theorem Yf:∀{ts:List T3},(aU ts).Nodup→(ts.map eX).Nodup
 | [],_=>by simp
 | t::ts,h=>by
  have e:aU (t::ts)=Wk t++aU ts:=rfl;rw[e] at h;obtain⟨_,h2,h3⟩:=jj.1 h;rw[bi,fz];refine⟨fun k=>?_,Yf h2⟩;obtain⟨u,hu,hr⟩:=cu.1 k;have h0:(t.a,t.b)∈Wk t:=by simp[Wk]
  have h1:(t.a,t.b)∈Wk u:=Ye.1 (hr▸Ye.2 h0);exact h3 _ h0 _ (df.2 ⟨u,hu,h1⟩) O
theorem nd_of{t:T3}(h:tX t=false):t.nd=true:=by
 obtain⟨h1,h2,h3⟩:=anJ h;simp[T3.nd,h1,h2,h3]
/-! ### One far move -/
theorem P3.lt_asymm{p:P3}(h:p.Lt q):¬q.Lt p:=fun k=>P3.lt_irrefl _ (P3.lt_trans h k)
theorem Ta{t:T3}(h:t.nd=true):eX ⟨t.b,t.c,t.a⟩=eX t:=by
 unfold T3.nd at h;simp only[bh,decide_eq_true_eq] at h;obtain⟨⟨h1,h2⟩,h3⟩:=h;unfold eX;simp only;rcases P3.lt_tri t.a t.b with ab | ab | ab
 · rcases P3.lt_tri t.b t.c with bc | bc | bc
   · have ac:=P3.lt_trans ab bc
     simp[ab,bc,ac,P3.lt_asymm ab,P3.lt_asymm bc,P3.lt_asymm ac]
   · exact absurd bc h2
   · rcases P3.lt_tri t.a t.c with ac | ac | ac
     · simp[ab,bc,ac,P3.lt_asymm ab,P3.lt_asymm bc,P3.lt_asymm ac]
     · exact absurd ac.symm h3
     · simp[ab,bc,ac,P3.lt_asymm ab,P3.lt_asymm bc,P3.lt_asymm ac]
 · exact absurd ab h1
 · rcases P3.lt_tri t.b t.c with bc | bc | bc
   · rcases P3.lt_tri t.a t.c with ac | ac | ac
     · simp[ab,bc,ac,P3.lt_asymm ab,P3.lt_asymm bc,P3.lt_asymm ac]
     · exact absurd ac.symm h3
     · simp[ab,bc,ac,P3.lt_asymm ab,P3.lt_asymm bc,P3.lt_asymm ac]
   · exact absurd bc h2
   · have ca:=P3.lt_trans bc ab
     simp[ab,bc,ca,P3.lt_asymm ab,P3.lt_asymm bc,P3.lt_asymm ca]
theorem Px{t:T3}:(⟨t.b,t.c,t.a⟩:T3).nd=t.nd:=by
 unfold T3.nd;simp only;cases decide (t.a≠t.b) <;> cases decide (t.b≠t.c) <;> cases decide (t.c≠t.a) <;> rfl
def aaD(t u:T3):Prop:=u=t∨u=⟨t.b,t.c,t.a⟩∨u=⟨t.c,t.a,t.b⟩
theorem acm{t u:T3}(h:aaD t u)(hn:t.nd=true):eX u=eX t:=by
 rcases h with rfl | rfl | rfl
 · rfl
 · exact Ta hn
 · have h2:=Ta (t:=⟨t.b,t.c,t.a⟩) (by rw[Px];exact hn)
   exact h2.trans (Ta hn)
theorem aaE{t u:T3}(h:aaD t u):u.nd=t.nd:=by
 rcases h with rfl | rfl | rfl
 · rfl
 · exact Px
 · exact (Px (t:=⟨t.b,t.c,t.a⟩)).trans Px
/-! ### Edges of a list in which triangles are changed -/
def sE(ts:List T3)(e:E3):Prop:=e∈aU ts∧(e.2,e.1)∉aU ts
theorem yQ{ts:List T3}{e:E3}:e∈aO ts↔sE ts e:=wE
theorem xE{ts us:List T3}(h:∀e,sE ts e↔sE us e):aO ts=aO us :=
 Of (pD ts) (pD us) fun e=>yQ.trans ((h e).trans yQ.symm)
section
variable {p:P3} {X:E3→Prop} {old new R fine fine':List T3}
end
/-! ### The two kinds of division -/
theorem acn{t u:T3}(h:aaD t u)(x:P3):u.has x=t.has x:=by
 unfold T3.has;rcases h with rfl | rfl | rfl
 · rfl
 · simp only;cases decide (t.a=x) <;> cases decide (t.b=x) <;> cases decide (t.c=x) <;> rfl
 · simp only;cases decide (t.a=x) <;> cases decide (t.b=x) <;> cases decide (t.c=x) <;> rfl
def akf(t:T3):List (E3 × P3):=[((t.a,t.b),t.c),((t.b,t.c),t.a),((t.c,t.a),t.b)]
theorem fC{ts:List T3}{x:E3 × P3}:x∈kL ts↔∃t∈ts,x∈akf t:=df
theorem aej{ts us:List T3}(h:ts.Perm us){x:E3 × P3}:x∈kL ts↔x∈kL us:=by
 rw[fC,fC];exact exists_congr fun t=>and_congr h.mem_iff Iff.rfl
/-! ### Images -/
section
variable {l fine fine' R:List T3} {ms:List Mv} {B B':Int} {p:P3}
end
structure Q4 where
 a:Int
 b:Int
 c:Int
 d:Int
def q4C(q:Q4):List ak:=[.int .i64 q.a,.int .i64 q.b,.int .i64 q.c,.int .i64 q.d]
class IQ(q:Q4):Prop where
 a:pV q.a
 b:pV q.b
 c:pV q.c
 d:pV q.d
def aqo(i:Nat)(q:Q4):P3:=⟨100+50*(i:Int)+q.b%40,q.b.tdiv 40%200,q.c%300-50⟩
def Yg(i:Nat)(p:P3):Prop:=100+50*(i:Int)≤p.x∧p.x<150+50*(i:Int)∧0≤p.y∧p.y<200∧-50≤p.z∧p.z<250
theorem anL(i:Nat)(q:Q4):Yg i (aqo i q):=by
 have h1:=tF (n:=q.b) (m:=40) (by decide);have h2:=tF (n:=q.b.tdiv 40) (m:=200) (by decide);have h3:=tF (n:=q.c) (m:=300) (by decide);refine⟨?_,?_,?_,?_,?_,?_⟩ <;> (simp only[aqo];omega)
theorem akg{z:Int}(h:pV z):IntKind.i64.wrap (z.tdiv 40)=z.tdiv 40∧pV (z.tdiv 40):=by
 obtain⟨h1,h2⟩:=h;have hb : -9223372036854775808≤z.tdiv 40∧z.tdiv 40<9223372036854775808:=by
  rcases Int.le_total 0 z with hz | hz
  · rw[lw hz];omega
  · have e:z.tdiv 40 = -((-z) / 40):=by
     rw[←lw (show 0 ≤ -z by omega),Int.neg_tdiv,Int.neg_neg]
    rw[e];omega
 exact⟨bH (by omega) (by omega),⟨by omega,by omega⟩⟩
def lI(e x a b:P3):P3:=if x≠a∧x≠b then x else e
def Hs(o:T3)(a b:P3):P3:=lI (lI (lI (o.cor 0) (o.cor 0) a b) (o.cor 1) a b) (o.cor 2) a b
theorem akh{e b:P3}(h:(decide (¬(x.x=a.x∧x.y=a.y∧x.z=a.z))&&decide (¬(x.x=b.x∧x.y=b.y∧x.z=b.z)))=true):lI e x a b=x:=by
 simp only[nV,bh,decide_eq_true_eq] at h;exact if_pos h
theorem aki{e b:P3}(h:(decide (¬(x.x=a.x∧x.y=a.y∧x.z=a.z))&&decide (¬(x.x=b.x∧x.y=b.y∧x.z=b.z)))=false):lI e x a b=e:=by
 refine if_neg fun k=>?_;simp only[nV] at h;rw[decide_eq_true k.1,decide_eq_true k.2] at h;cases h
inductive aqp(rim:List E3)(i:Nat)(us:List T3)(ms:List Mv):List T3→List Mv→Prop
 | tri (k:Nat) (t:T3) (c:Nat) (p:P3) (ht:us[k]? = some t) (hc:c<3) (hp:Yg i p) :
  aqp rim i us ms (us.set k ⟨t.cor c,t.cor ((c+1)%3),p⟩++[⟨t.cor ((c+1)%3),t.cor ((c+2)%3),p⟩,⟨t.cor ((c+2)%3),t.cor c,p⟩]) (ms++[(p,mU ms (t.cor c))])
 | edge (k j:Nat) (t o:T3) (x:P3) (c:Nat) (p:P3) (ht:us[k]? = some t) (hc:c<3) (ho:us[j]? = some o) (hx:o.fnd (t.cor ((c+1)%3)) (t.cor c)=some x)
  (hb:¬(wH rim (t.cor c)=true∧wH rim (t.cor ((c+1)%3))=true)) (hp:Yg i p) :
  aqp rim i us ms (((us.set k ⟨t.cor c,p,t.cor ((c+2)%3)⟩).set j ⟨t.cor ((c+1)%3),p,Hs o (t.cor c) (t.cor ((c+1)%3))⟩)++[⟨p,t.cor ((c+1)%3),t.cor ((c+2)%3)⟩,⟨p,t.cor c,Hs o (t.cor c) (t.cor ((c+1)%3))⟩]) (ms++[(p,mU ms (t.cor c))])
inductive Ml(rim:List E3)(l:List T3):Nat→List T3→List Mv→Prop
 | nil:Ml rim l 0 l []
 | step {i:Nat} {us us':List T3} {ms ms':List Mv} (h:Ml rim l i us ms) (s:aqp rim i us ms us' ms'):Ml rim l (i+1) us' ms'
theorem Ml.len{rim:List E3}{l us:List T3}(h:Ml rim l i us ms):us.length=l.length+2*i∧ms.length=i:=by
 induction h with
 | nil=>exact⟨rfl,rfl⟩
 | step h s ih=>cases s <;> (simp only[a_,List.length_set,az,b_];omega)
def Ht(l:List T3)(i:Nat)(x:P3):Prop:=x∈bG l∨∃j,j<i∧Yg j x
theorem lJ{ts:List T3}  : x∈bG ts↔∃t∈ts,x=t.cor 0∨x=t.cor 1∨x=t.cor 2:=by
 unfold bG;rw[df];exact exists_congr fun t=>and_congr Iff.rfl (by simp[T3.cor])
theorem wI{ts:List T3}{c:Nat}{t:T3}(h:ts[k]? = some t)(hc:c<3):t.cor c∈bG ts:=by
 refine lJ.2 ⟨t,bn h,?_⟩;obtain rfl | rfl | rfl:c=0∨c=1∨c=2:=by omega
 · exact .inl O
 · exact .inr (.inl O)
 · exact .inr (.inr O)
theorem akj(o:T3)(a b:P3):∃c,c<3∧Hs o a b=o.cor c:=by
 have h0:∃c,c<3∧lI (o.cor 0) (o.cor 0) a b=o.cor c:=⟨0,by decide,by unfold lI;split <;> rfl⟩
 obtain⟨c,hc,e⟩:=h0;have h1:∃c,c<3∧lI (lI (o.cor 0) (o.cor 0) a b) (o.cor 1) a b=o.cor c:=by
  rw[e];unfold lI;split
  · exact⟨1,by decide,O⟩
  · exact⟨c,hc,O⟩
 obtain⟨c,hc,e⟩:=h1;unfold Hs;rw[e];unfold lI;split
 · exact⟨2,by decide,O⟩
 · exact⟨c,hc,O⟩
theorem Tb{ts:List T3}{u:T3}(h:x∈bG (ts.set k u)):x∈bG ts∨x=u.a∨x=u.b∨x=u.c:=by
 obtain⟨t,ht,hx⟩:=lJ.1 h;rcases List.mem_or_eq_of_mem_set ht with h | rfl
 · exact .inl (lJ.2 ⟨t,h,hx⟩)
 · exact .inr hx
theorem aco{ts us:List T3}  : x∈bG (ts++us)↔x∈bG ts∨x∈bG us:=by unfold bG;rw[be,br]
theorem Ml.pts{rim:List E3}{l us:List T3}(h:Ml rim l i us ms):(∀x∈bG us,Ht l i x)∧∀m∈ms,Ht l i m.1∧Ht l i m.2:=by
 induction h with
 | nil=>exact⟨fun x h=>.inl h,fun m h=>by cases h⟩
 | @step i us us' ms ms' h s ih =>
  obtain⟨h1,h2⟩:=ih;have up:∀x,Ht l i x→Ht l (i+1) x:=fun x h=>h.elim .inl fun⟨j,hj,hx⟩=>.inr ⟨j,by omega,hx⟩;have img:∀(ms:List Mv) (x:P3),(∀m∈ms,Ht l i m.2)→Ht l i x→Ht l i (mU ms x):=by
   intro ms
   induction ms with
   | nil=>intro x _ h;exact h
   | cons m ms ih =>
    intro x hm hx;unfold mU;split
    · exact hm m (bj ..)
    · exact ih x (fun m h=>hm m (bm _ h)) hx
  have mv:∀p a,Yg i p→Ht l i a→∀m∈ms++[(p,mU ms a)],Ht l (i+1) m.1∧Ht l (i+1) m.2:=fun p a hp ha m hm=>by
   rcases br.1 hm with hm | hm
   · exact⟨up _ (h2 m hm).1,up _ (h2 m hm).2⟩
   · obtain rfl:=bg.1 hm
     exact⟨.inr ⟨i,by omega,hp⟩,up _ (img ms a (fun m hm=>(h2 m hm).2) ha)⟩
  cases s with
  | tri k t c p ht hc hp =>
   have ha:=h1 _ (wI ht hc);have hb:=h1 _ (wI ht (show (c+1)%3<3 by omega));have hd:=h1 _ (wI ht (show (c+2)%3<3 by omega));refine⟨fun x hx=>?_,mv p _ hp ha⟩;have hpp:Ht l (i+1) p:=.inr ⟨i,by omega,hp⟩;rcases aco.1 hx with hx | hx
   · rcases Tb hx with hx | rfl | rfl | rfl
     · exact up _ (h1 x hx)
     · exact up _ ha
     · exact up _ hb
     · exact hpp
   · simp only[bG,ci,ki,fe,br,ao,bt,or_false] at hx
     rcases hx with (rfl | rfl | rfl) | rfl | rfl | rfl
     · exact up _ hb
     · exact up _ hd
     · exact hpp
     · exact up _ hd
     · exact up _ ha
     · exact hpp
  | edge k j t o x0 c p ht hc ho hx0 hb0 hp =>
   have ha:=h1 _ (wI ht hc);have hb:=h1 _ (wI ht (show (c+1)%3<3 by omega));have hd:=h1 _ (wI ht (show (c+2)%3<3 by omega));obtain⟨c2,hc2,e2⟩:=akj o (t.cor c) (t.cor ((c+1)%3));have he:=h1 _ (wI ho hc2);rw[e2];refine⟨fun x hx=>?_,mv p _ hp ha⟩;have hpp:Ht l (i+1) p:=.inr ⟨i,by omega,hp⟩;rcases aco.1 hx with hx | hx
   · rcases Tb hx with hx | rfl | rfl | rfl
     · rcases Tb hx with hx | rfl | rfl | rfl
       · exact up _ (h1 x hx)
       · exact up _ ha
       · exact hpp
       · exact up _ hd
     · exact up _ hb
     · exact hpp
     · exact up _ he
   · simp only[bG,ci,ki,fe,br,ao,bt,or_false] at hx
     rcases hx with (rfl | rfl | rfl) | rfl | rfl | rfl
     · exact hpp
     · exact up _ hb
     · exact up _ hd
     · exact hpp
     · exact up _ ha
     · exact up _ he
def Mid(x:P3):Prop:=-2000000≤x.x∧x.x≤2000000∧-1000000≤x.y∧x.y≤1000000∧-1000000≤x.z∧x.z≤1000000
theorem Mid.i3(h:Mid x):I3 x:=by
 obtain⟨h1,h2,h3,h4,h5,h6⟩:=h;exact⟨⟨by omega,by omega⟩,⟨by omega,by omega⟩,⟨by omega,by omega⟩⟩
theorem Ht.mid{l:List T3}(hl:∀x∈bG l,Mid x)(hi:i≤100)(h:Ht l i x):Mid x:=by
 rcases h with h | ⟨j,hj,h1,h2,h3,h4,h5,h6⟩
 · exact hl x h
 · exact⟨by omega,by omega,by omega,by omega,by omega,by omega⟩
theorem asQ{ts:List T3}(h:∀x∈bG ts,I3 x):∀t∈ts,IT t:=fun t ht =>
 ⟨h _ (lJ.2 ⟨t,ht,.inl rfl⟩),h _ (lJ.2 ⟨t,ht,.inr (.inl rfl)⟩),h _ (lJ.2 ⟨t,ht,.inr (.inr rfl)⟩)⟩
theorem akk{ts:List T3}(h:∀t∈ts,SmT 200 t):∀x∈bG ts,Mid x:=fun x hx=>by
 obtain⟨t,ht,hx⟩:=lJ.1 hx;have key:∀y,Sm 200 y→Mid y:=fun y ⟨⟨h1,h2⟩,⟨h3,h4⟩,h5,h6⟩=>⟨by omega,by omega,by omega,by omega,by omega,by omega⟩
 rcases hx with rfl | rfl | rfl
 · exact key _ (h t ht).1
 · exact key _ (h t ht).2.1
 · exact key _ (h t ht).2.2
def uV(a b c:P3):P3:=(b.sub a).cross (c.sub a)
def Iq(a b c d:P3):Int:=(uV a b c).dot (d.sub a)
def qA(v:P3)(k:Nat):Int:=if k=0 then v.x else if k=1 then v.y else v.z
def Py(v:P3):Nat:=if v.x≠0 then 0 else if v.y≠0 then 1 else if v.z≠0 then 2 else 3
/-! ### Points in a plane -/
def Z3(u:P3):Prop:=u.x=0∧u.y=0∧u.z=0
instance (u:P3):Decidable (Z3 u):=inferInstanceAs (Decidable (_∧_∧_))
def xF(p q:P3):P3:=if q.Lt p then q else p
def Cn(p q:P3):P3:=if q.Lt p then p else q
def akl(a b c:P3):Bool:=decide (Py (uV a b c)=3)
def asR(p q r s:P3):Bool:=(if xF p q=Cn p q then akl (xF r s) (Cn r s) (xF p q) else akl (xF p q) (Cn p q) (xF r s)) && !decide ((Cn p q).Lt (xF r s)) && !decide ((Cn r s).Lt (xF p q))
def Hu(p q r s:P3):P3:=(q.sub p).cross (s.sub r)
def mA(p q r s:P3):Bool :=
 if Py (Hu p q r s)<3 then
  decide (Iq p q r s=0)&&decide (qA (uV p q r) (Py (Hu p q r s))*qA (uV p q s) (Py (Hu p q r s))≤0)&&decide (qA (uV r s p) (Py (Hu p q r s))*qA (uV r s q) (Py (Hu p q r s))≤0)
 else asR p q r s
theorem lt_tri(p q:P3):p.Lt q∨p=q∨q.Lt p:=by
 by_cases h:p=q
 · exact .inr (.inl h)
 · have:¬(p.x=q.x∧p.y=q.y∧p.z=q.z):=fun k=>h (P3.eq k.1 k.2.1 k.2.2)
   unfold P3.Lt;omega
/-! ### In the plane of a triangle -/
def wth(a b c x:P3)(k:Nat):Prop:=(0≤qA (uV a b x) k∧0≤qA (uV b c x) k∧0≤qA (uV c a x) k)∨(qA (uV a b x) k≤0∧qA (uV b c x) k≤0∧qA (uV c a x) k≤0)
instance (a b c x:P3)(k:Nat):Decidable (wth a b c x k):=by unfold wth;infer_instance
def asS(x y z:Int):Bool:=(decide (0≤x)&&decide (0≤y)&&decide (0≤z))||(decide (x≤0)&&decide (y≤0)&&decide (z≤0))
def kI(p q:P3)(t:T3):Bool :=
 if Py (uV t.a t.b t.c)<3 then
  if 0<Iq t.a t.b t.c p*Iq t.a t.b t.c q then false
  else if Iq t.a t.b t.c p=0∧Iq t.a t.b t.c q=0 then mA p q t.a t.b||mA p q t.b t.c||mA p q t.c t.a||decide (wth t.a t.b t.c p (Py (uV t.a t.b t.c)))
  else asS (Iq p q t.a t.b) (Iq p q t.b t.c) (Iq p q t.c t.a)
 else mA p q (xF (xF t.a t.b) t.c) (Cn (Cn t.a t.b) t.c)
/-! ### Two places of a list -/
/-! ### A step -/
/-! ### The surfaces -/
def T3.mapP(f:P3→P3)(t:T3):T3:=⟨f t.a,f t.b,f t.c⟩
section
variable {f:P3→P3} {S:P3→Prop} {ts:List T3}
end
theorem Yh{ts:List T3}:(cK ts).any (Jo ts)=true↔∃e∈aU ts,∃j,1≤j∧j<qR (bG ts) e.1∧pE ts e.1 j e.2=some e.2:=by
 rw[pinned];refine exists_congr fun e=>?_;rw[Su,Sr,St];refine and_congr Iff.rfl (exists_congr fun j=>?_);rw[Ka];constructor
 · rintro⟨h1,h2,h3⟩;exact⟨h1,by omega,h3⟩
 · rintro⟨h1,h2,h3⟩;exact⟨h1,by omega,h3⟩
theorem ahB{ts:List T3}:cQ true ts=0↔pG ts∧(aU ts).Nodup∧¬∃e∈aU ts,∃j,1≤j∧j<qR (bG ts) e.1∧pE ts e.1 j e.2=some e.2:=by
 constructor
 · intro h
   obtain⟨h1,h2⟩:=yP h;refine⟨h1,h2,fun k=>?_⟩;have hp:=Yh.2 k;have hd:ts.any tX=false:=ob.2 fun t ht=>by rw[h1 t ht];exact ei
   have hn:=Jz (es:=aU ts);rw[decide_eq_false (fun k=>k h2)] at hn;unfold cQ at h;rw[hd,hn,hp] at h;simp at h
 · rintro⟨h1,h2,h3⟩
   have hp:(cK ts).any (Jo ts)=false:=by
    cases hh:(cK ts).any (Jo ts) with
    | false=>rfl
    | true=>exact absurd (Yh.1 hh) h3
   have hd:ts.any tX=false:=ob.2 fun t ht=>by rw[h1 t ht];exact ei
   have hn:=Jz (es:=aU ts);rw[decide_eq_false (fun k=>k h2)] at hn;unfold cQ;rw[hd,hn,hp];rfl
/-! ### An edge is divided -/
section
variable {f:P3→P3} {S:P3→Prop}
end
inductive tK(N:P3→P3→Prop):P3→P3→Prop
 | refl (a:P3):tK N a a
 | tail {a b c:P3} (h:tK N a b) (s:N b c):tK N a c
section
variable {N N':P3→P3→Prop} {a b c p q x0 y0:P3}
theorem tK.one(h:N a b):tK N a b:=.tail (.refl a) h
theorem tK.trans(h:tK N a b)(k:tK N b c):tK N a c:=by
 induction k with
 | refl=>exact h
 | tail _ s ih=>exact .tail ih s
theorem tK.head(h:tK N a b):a=b∨∃c,N a c∧tK N c b:=by
 induction h with
 | refl=>exact .inl rfl
 | tail _ s ih =>
  rcases ih with rfl | ⟨d,hd,k⟩
  · exact .inr ⟨_,s,.refl _⟩
  · exact .inr ⟨d,hd,.tail k s⟩
def Cyc(N:P3→P3→Prop)(s:P3):Prop:=∃y,N s y∧tK N y s
def oT(N:P3→P3→Prop):Prop:=∀s,Cyc N s→∀x y,N x y→tK N s x
def Hv(N:P3→P3→Prop)(a z:P3):Prop:=tK N a z∧∀y,¬N z y
/-! ### A corner between two -/
structure Ins(p x0 y0:P3)(N N':P3→P3→Prop):Prop where
 no:∀x y,N x y→x≠p∧y≠p
 was:N x0 y0
 iff:∀x y,N' x y↔(N x y∧¬(x=x0∧y=y0))∨(x=x0∧y=p)∨(x=p∧y=y0)
theorem Ins.up(h:Ins p x0 y0 N N')(k:tK N a b):tK N' a b:=by
 induction k with
 | refl=>exact .refl _
 | @tail b c _ s ih =>
  by_cases e:b=x0∧c=y0
  · obtain⟨rfl,rfl⟩:=e
    exact .tail (.tail ih ((h.iff _ _).2 (.inr (.inl ⟨O,O⟩)))) ((h.iff _ _).2 (.inr (.inr ⟨O,O⟩)))
  · exact .tail ih ((h.iff _ _).2 (.inl ⟨s,e⟩))
theorem Ins.down(h:Ins p x0 y0 N N')(ha:a≠p)(k:tK N' a b):(b≠p∧tK N a b)∨(b=p∧tK N a x0):=by
 obtain⟨n1,n2⟩:=h.no _ _ h.was
 induction k with
 | refl=>exact .inl ⟨ha,.refl _⟩
 | @tail b c _ s ih =>
  rcases (h.iff _ _).1 s with ⟨s,_⟩ | ⟨rfl,rfl⟩ | ⟨rfl,rfl⟩
  · rcases ih with ⟨_,ih⟩ | ⟨e,_⟩
    · exact .inl ⟨(h.no _ _ s).2,.tail ih s⟩
    · exact absurd e (h.no _ _ s).1
  · rcases ih with ⟨_,ih⟩ | ⟨e,_⟩
    · exact .inr ⟨O,ih⟩
    · exact absurd e n1
  · rcases ih with ⟨e,_⟩ | ⟨_,ih⟩
    · exact absurd O e
    · exact .inl ⟨n2,.tail ih h.was⟩
theorem Ins.fan(h:Ins p x0 y0 N N'){z:P3}(hz:z≠p)(k:Hv N a z):Hv N' a z :=
 ⟨h.up k.1,fun y hy=>by
  rcases (h.iff _ _).1 hy with ⟨s,_⟩ | ⟨rfl,rfl⟩ | ⟨e,_⟩
  · exact k.2 _ s
  · exact k.2 _ h.was
  · exact hz e⟩
/-! ### A corner in another's place -/
def ren(q p x:P3):P3:=if x=q then p else x
theorem apg:ren q p q=p:=if_pos rfl
theorem afQ{x:P3}(h:x≠q):ren q p x=x:=if_neg h
theorem aaG{x y:P3}(hx:x≠p)(hy:y≠p)(h:ren q p x=ren q p y):x=y:=by
 unfold ren at h;by_cases e1:x=q <;> by_cases e2:y=q
 · rw[e1,e2]
 · rw[if_pos e1,if_neg e2] at h;exact absurd h.symm hy
 · rw[if_neg e1,if_pos e2] at h;exact absurd h hx
 · rwa [if_neg e1,if_neg e2] at h
structure Ren(q p:P3)(N N':P3→P3→Prop):Prop where
 no:∀x y,N x y→x≠p∧y≠p
 iff:∀x y,N' x y↔∃u v,N u v∧x=ren q p u∧y=ren q p v
theorem Ren.up(h:Ren q p N N')(k:tK N a b):tK N' (ren q p a) (ren q p b):=by
 induction k with
 | refl=>exact .refl _
 | tail _ s ih=>exact .tail ih ((h.iff _ _).2 ⟨_,_,s,rfl,rfl⟩)
theorem Ren.down(h:Ren q p N N')(ha:a≠p)(k:tK N' (ren q p a) b):∃c,c≠p∧b=ren q p c∧tK N a c:=by
 induction k with
 | refl=>exact⟨a,ha,rfl,.refl _⟩
 | tail _ s ih =>
  obtain⟨c,hc,rfl,r⟩:=ih;obtain⟨u,v,hs,e,rfl⟩:=(h.iff _ _).1 s;obtain rfl:=aaG hc (h.no _ _ hs).1 e;exact⟨v,(h.no _ _ hs).2,O,.tail r hs⟩
theorem Ren.nopin(h:Ren q p N N')(hN:oT N):oT N':=by
 rintro s ⟨y,hy,hr⟩ x' y' hx;obtain⟨u,v,hs,rfl,rfl⟩:=(h.iff _ _).1 hy;obtain⟨n1,n2⟩:=h.no _ _ hs;obtain⟨c,hc,e,r⟩:=h.down n2 hr;obtain rfl:=aaG n1 hc e;obtain⟨u2,v2,hs2,rfl,rfl⟩:=(h.iff _ _).1 hx;exact h.up (hN _ ⟨_,hs,r⟩ _ _ hs2)
theorem Ren.fan(h:Ren q p N N'){z:P3}(ha:a≠q)(hzq:z≠q)(hz:z≠p)(k:Hv N a z):Hv N' a z:=by
 have r:=h.up k.1;rw[afQ ha,afQ hzq] at r;refine⟨r,fun y hy=>?_⟩;obtain⟨u,v,hs,e,rfl⟩:=(h.iff _ _).1 hy;by_cases eu:u=q
 · rw[eu,apg] at e;exact hz e
 · rw[afQ eu] at e;exact k.2 _ (e▸hs)
theorem aek(h:∀x y,N' x y↔N x y)(hN:oT N):oT N':=by
 have:N'=N:=funext fun x=>funext fun y=>propext (h x y);rwa [this]
theorem akm(h:∀x y,N' x y↔N x y){z:P3}(k:Hv N a z):Hv N' a z:=by
 have:N'=N:=funext fun x=>funext fun y=>propext (h x y);rwa [this]
end
/-! ### The corners behind each other round a corner -/
def Nx(ts:List T3)(v x y:P3):Prop:=((v,x),y)∈kL ts
theorem Be{ts:List T3}(hn:(aU ts).Nodup){v:P3}:Nx ts v x y↔bE ts v x=some y:=by
 constructor
 · intro h
   obtain⟨z,hz⟩:=Du (show (v,x)∈aU ts by rw[←mT];exact cu.2 ⟨_,h,O⟩);rw[hz,wF hn h (sX hz)]
 · exact sX
theorem Tc{ts:List T3}(hn:(aU ts).Nodup){v b:P3}:tK (Nx ts v) a b↔∃n,pE ts v n a=some b:=by
 constructor
 · intro h
   induction h with
   | refl=>exact⟨0,rfl⟩
   | tail _ s ih =>
    obtain⟨n,h⟩:=ih;exact⟨n+1,by rw[pF,h,gw];exact (Be hn).1 s⟩
 · rintro⟨n,h⟩
   induction n generalizing b with
   | zero=>cases h;exact .refl _
   | succ n ih =>
    rw[pF] at h;obtain⟨c,hc,h⟩:=ir.1 h;exact .tail (ih hc) ((Be hn).2 h)
theorem aph{P:Nat→Prop}:∀n,P n→∃m,P m∧∀k,k<m→¬P k:=by
 intro n
 induction n using qo with
 | _ n ih =>
  intro h;by_cases k:∃m,m<n∧P m
  · obtain⟨m,hm,hp⟩:=k
    exact ih m hm hp
  · exact⟨n,h,fun m hm hp=>k ⟨m,hm,hp⟩⟩
def acp(ts:List T3)(v:P3):List P3:=((aU ts).filter fun e=>decide (e.1=v)).map (·.2)
theorem Td{ts:List T3}{v:P3}:x∈acp ts v↔(v,x)∈aU ts:=by
 unfold acp;rw[cu];constructor
 · rintro⟨e,he,rfl⟩
   obtain⟨h1,h2⟩:=c_.1 he;rw[←of_decide_eq_true h2];exact h1
 · exact fun h=>⟨(v,x),c_.2 ⟨h,decide_eq_true O⟩,O⟩
theorem ael{ts:List T3}{v:P3}(hn:(aU ts).Nodup):(acp ts v).Nodup:=by
 unfold acp;rw[qk,la];refine (hn.sublist List.filter_sublist).imp_of_mem fun {a b} ha hb hne e=>hne ?_;have h1:=of_decide_eq_true (c_.1 ha).2;have h2:=of_decide_eq_true (c_.1 hb).2;exact pa (h1.trans h2.symm) e
theorem akn:∀ts:List T3,(aU ts).map (·.1)=bG ts:=by
 intro ts;unfold aU bG;rw[List.map_flatMap];rfl
theorem acq(ts:List T3)(v:P3):(acp ts v).length=qR (bG ts) v:=by
 rw[←akn];unfold acp qR;rw[dm,List.filter_map,dm];rfl
theorem full{S E:List P3}(hS:S.Nodup)(hs:∀x∈S,x∈E)(hl:E.length≤S.length):∀x∈E,x∈S:=fun x hx=>by
 refine Decidable.byContradiction fun hn=>?_;have h1:S.length≤(E.erase x).length:=nY hS fun y hy=>by
  have hne:y≠x:=fun e=>hn (e▸hy);exact (List.mem_erase_of_ne hne).2 (hs y hy)
 rw[List.length_erase_of_mem hx] at h1;have:0<E.length:=List.length_pos_of_mem hx;omega
theorem aem{ts:List T3}{v b:P3}(h:pE ts v i a=some b):pE ts v (i+j) a=pE ts v j b:=by rw[Pu,h,gw]
theorem aqq{ts:List T3}{v:P3}(h1:1≤j)(h:pE ts v j s=some s):∀n,pE ts v n s=pE ts v (n%j) s:=fun n=>by
 induction n using qo with
 | _ n ih =>
  rcases dz n j with hl | hl
  · rw[lp hl]
  · have e:n=j+(n-j):=by omega
    rw[e,aem h,ih (n-j) (by omega),Nat.add_mod_left]
theorem acr{ts:List T3}(hn:(aU ts).Nodup){v s:P3}{j:Nat}(hm:∀k,1≤k→k<j→pE ts v k s≠some s):∀(i k:Nat) (x:P3),i<k→k<j→pE ts v i s=some x→pE ts v k s≠some x
 | 0,k,x,hik,hk,h,h2=>by cases h;exact hm k (by omega) hk h2
 | i+1,k,x,hik,hk,h,h2=>by
  obtain⟨m,rfl⟩:∃m,k=m+1:=⟨k-1,by omega⟩
  rw[pF] at h h2;obtain⟨y,hy,hy'⟩:=ir.1 h;obtain⟨z,hz,hz'⟩:=ir.1 h2;obtain rfl:=Sq hn hy' hz';exact acr hn hm i m y (by omega) (by omega) hy hz
theorem afR{ts:List T3}{v b:P3}(hij:i≤j)(h:pE ts v j a=some b):∃y,pE ts v i a=some y:=by
 have e:j=i+(j-i):=by omega
 rw[e,Pu] at h;obtain⟨y,hy,_⟩:=ir.1 h;exact⟨y,hy⟩
theorem Yi{ts:List T3}(hn:(aU ts).Nodup){v s:P3}{j:Nat}(h1:1≤j)(h:pE ts v j s=some s)(hm:∀k,1≤k→k<j→pE ts v k s≠some s) :
 ∃L:List P3,L.Nodup∧L.length=j∧(∀x∈L,x∈acp ts v)∧∀x,x∈L↔tK (Nx ts v) s x:=by
 have get:∀i,i≤j→∃y,pE ts v i s=some y:=fun i hi=>afR hi h;refine⟨(gm j).map fun i=>(pE ts v i s).getD s,?_,by rw[dm,ky],fun x hx=>?_,fun x=>?_⟩
 · rw[qk,la]
   refine (List.pairwise_lt_range (n:=j)).imp_of_mem fun {a b} ha hb hab e=>?_;have hb':=gn.1 hb;obtain⟨y,hy⟩:=get a (by omega);obtain⟨z,hz⟩:=get b (by omega);rw[hy,hz] at e;obtain rfl:y=z:=e;exact acr hn hm a b y hab hb' hy hz
 · obtain⟨i,hi,rfl⟩:=cu.1 hx
   have hi':=gn.1 hi;obtain⟨y,hy⟩:=get i (by omega);obtain⟨z,hz⟩:=get (i+1) (by omega);rw[pF,hy,gw] at hz;rw[hy];exact Td.2 (uB hz)
 · rw[Tc hn,cu]
   constructor
   · rintro⟨i,hi,rfl⟩
     obtain⟨y,hy⟩:=get i (by have:=gn.1 hi;omega);exact⟨i,by rw[hy];rfl⟩
   · rintro⟨n,hx⟩
     rw[aqq h1 h] at hx;exact⟨n%j,gn.2 (Nat.mod_lt _ (by omega)),by rw[hx];rfl⟩
theorem Yj{ts:List T3}(hn:(aU ts).Nodup):(¬∃e∈aU ts,∃j,1≤j∧j<qR (bG ts) e.1∧pE ts e.1 j e.2=some e.2)↔∀v,oT (Nx ts v):=by
 constructor
 · rintro hno v s ⟨y,hy,hr⟩ x z hx
   obtain⟨n,hr⟩:=(Tc hn).1 hr;have h0:pE ts v (1+n) s=some s:=by rw[aem (b:=y) (by rw[pE,(Be hn).1 hy];rfl)];exact hr
   obtain⟨j,⟨hj1,hj⟩,hm⟩:=aph (P:=fun k=>1≤k∧pE ts v k s=some s) (1+n) ⟨by omega,h0⟩;obtain⟨L,hL1,hL2,hL3,hL4⟩:=Yi hn hj1 hj (fun k h1 h2 h3=>hm k h2 ⟨h1,h3⟩);have hge:qR (bG ts) v≤j:=by
    refine gv fun hlt=>hno ⟨(v,s),uB ((Be hn).1 hy),j,hj1,hlt,hj⟩
   exact (hL4 x).1 (full hL1 hL3 (by rw[hL2,acq];exact hge) x (Td.2 (uB ((Be hn).1 hx))))
 · rintro hall ⟨⟨v,s⟩,he,j0,h1,h2,h3⟩
   simp only at h2 h3;obtain⟨j,⟨hj1,hj⟩,hm⟩:=aph (P:=fun k=>1≤k∧pE ts v k s=some s) j0 ⟨h1,h3⟩;have hjj:j≤j0:=gv fun hlt=>hm j0 hlt ⟨h1,h3⟩;obtain⟨L,hL1,hL2,hL3,hL4⟩:=Yi hn hj1 hj (fun k h1 h2 h3=>hm k h2 ⟨h1,h3⟩);have hcyc:Cyc (Nx ts v) s:=by
    obtain⟨y,hy⟩:=afR (i:=1) hj1 hj;have hy':bE ts v s=some y:=by
     rw[pE] at hy;cases hb:bE ts v s with
     | none=>rw[hb] at hy;cases hy
     | some w=>rw[hb] at hy;exact hy
    refine⟨y,(Be hn).2 hy',(Tc hn).2 ⟨j-1,?_⟩⟩;have e:j=1+(j-1):=by omega
    rw[e,aem hy] at hj;exact hj
   have hle:(acp ts v).length≤L.length:=nY (ael hn) fun x hx=>by
    obtain⟨y,hy⟩:=Du (Td.1 hx);exact (hL4 x).2 (hall v s hcyc x y ((Be hn).2 hy))
   rw[acq,hL2] at hle;omega
theorem lK{ts:List T3}:cQ true ts=0↔pG ts∧(aU ts).Nodup∧∀v,oT (Nx ts v):=by
 rw[ahB];constructor
 · rintro⟨h1,h2,h3⟩;exact⟨h1,h2,(Yj h2).1 h3⟩
 · rintro⟨h1,h2,h3⟩;exact⟨h1,h2,(Yj h2).2 h3⟩
/-! ### Images -/
theorem uP{t:T3}:t.nd=true↔t.a≠t.b∧t.b≠t.c∧t.c≠t.a:=by
 unfold T3.nd;simp only[bh,decide_eq_true_eq,and_assoc]
theorem ako{t:T3}:t.nd=false↔t.a=t.b∨t.b=t.c∨t.c=t.a:=by
 cases h:t.nd with
 | true =>
  obtain⟨h1,h2,h3⟩:=uP.1 h;exact⟨fun k=>(by cases k),fun k=>k.elim (fun k=>absurd k h1) fun k=>k.elim (fun k=>absurd k h2) fun k=>absurd k h3⟩
 | false =>
  refine⟨fun _=>?_,fun _=>rfl⟩;by_cases h1:t.a=t.b
  · exact .inl h1
  · by_cases h2:t.b=t.c
    · exact .inr (.inl h2)
    · refine .inr (.inr (Decidable.byContradiction fun h3=>?_))
      rw[uP.2 ⟨h1,h2,h3⟩] at h;cases h
theorem anM{t:T3}(h:t.nd=false):(t.mapP f).nd=false:=by
 rw[ako] at h ⊢;unfold T3.mapP;rcases h with h | h | h
 · exact .inl (by simp only[h])
 · exact .inr (.inl (by simp only[h]))
 · exact .inr (.inr (by simp only[h]))
theorem lE(t:T3):aaD t (eX t):=by
 unfold eX;split
 · exact .inr (.inr O)
 · split
   · exact .inr (.inl O)
   · exact .inl O
theorem ahC{t u:T3}(f:P3→P3)(h:aaD t u):aaD (t.mapP f) (u.mapP f):=by
 rcases h with rfl | rfl | rfl
 · exact .inl O
 · exact .inr (.inl O)
 · exact .inr (.inr O)
def hF(f:P3→P3)(t:T3):List T3:=if (t.mapP f).nd then [eX (t.mapP f)] else []
def yR(f:P3→P3)(us:List T3):List T3:=us.flatMap (hF f)
theorem afS(ms:List Mv):∀us:List T3,rQ ms us=yR (mU ms) us
 | []=>rfl
 | t::us=>by
  have ih:=afS ms us;unfold rQ yR at ih ⊢;rw[ci,←ih];show _=(if (t.img ms).nd then [eX (t.img ms)] else [])++_
  cases h:(t.img ms).nd with
  | true=>rw[jr (p:=fun t:T3=>(t.img ms).nd) h];rfl
  | false=>rw[jd (by simp[h])];rfl
theorem aaH{t u:T3}(h:aaD t u):hF f u=hF f t:=by
 have k:=ahC f h;unfold hF;rw[aaE k];cases hn:(t.mapP f).nd with
 | true=>rw[acm k hn]
 | false=>rfl
theorem anN(f g:P3→P3)(t:T3):hF (fun x=>f (g x)) t=(hF g t).flatMap (hF f):=by
 have e:t.mapP (fun x=>f (g x))=(t.mapP g).mapP f:=rfl;cases h:(t.mapP g).nd with
 | true =>
  have:hF g t=[eX (t.mapP g)]:=if_pos h;rw[this,ci,ki,fe,aaH (lE _)];unfold hF;rw[e]
 | false =>
  have k:hF g t=[]:=if_neg (by rw[h];exact ei);rw[k,ki];unfold hF;rw[e,anM h];rfl
theorem Yk(f g:P3→P3):∀us:List T3,yR (fun x=>f (g x)) us=(yR g us).flatMap (hF f)
 | []=>rfl
 | t::us=>by
  have ih:=Yk f g us;unfold yR at ih ⊢;rw[ci,ci,be,ih,anN]
theorem Te{g:P3→P3}{us:List T3}(h:∀x∈bG us,f x=g x):yR f us=yR g us:=by
 unfold yR;have key:∀t∈us,hF f t=hF g t:=fun t ht=>by
  have e:t.mapP f=t.mapP g:=Mg (h _ (lJ.2 ⟨t,ht,.inl rfl⟩)) (h _ (lJ.2 ⟨t,ht,.inr (.inl rfl)⟩)) (h _ (lJ.2 ⟨t,ht,.inr (.inr rfl)⟩));unfold hF;rw[e]
 clear h
 induction us with
 | nil=>rfl
 | cons t us ih=>rw[ci,ci,key t (bj ..),ih fun u hu=>key u (bm _ hu)]
theorem anO{us:List T3}(hd:pG us)(h:∀x∈bG us,f x=x):yR f us=us.map eX:=by
 rw[Te (g:=fun x=>x) h];clear h
 induction us with
 | nil=>rfl
 | cons t us ih =>
  have e:hF (fun x=>x) t=[eX t]:=by
   unfold hF;have:t.mapP (fun x=>x)=t:=rfl;rw[this,nd_of (hd t (bj ..))];rfl
  unfold yR at ih ⊢;rw[ci,e,ih fun u hu=>hd u (bm _ hu)];rfl
/-! ### What holds of both -/
theorem rS{ts:List T3}{t:T3}(ht:t∈ts)(h:t.has x=true):x∈bG ts:=lJ.2 ⟨t,ht,iJ.1 h⟩
/-! ### One step -/
def kZ(p a x:P3):P3:=if x=p then a else x
theorem lO{p:P3}:kZ p a p=a:=if_pos rfl
theorem iA{p:P3}(h:x≠p):kZ p a x=x:=if_neg h
section
variable {p a:P3} {X:E3→Prop} {old new R us us':List T3}
end
/-! ### The corners round a corner,in a step -/
theorem Hw{u:T3}{v:P3}:((v,x),y)∈akf u↔(v=u.a∧x=u.b∧y=u.c)∨(v=u.b∧x=u.c∧y=u.a)∨(v=u.c∧x=u.a∧y=u.b):=by
 simp only[akf,ao,bt,or_false,fc,and_assoc]
theorem acs{t u:T3}(h:aaD t u){x:E3 × P3}:x∈akf u↔x∈akf t:=by
 obtain⟨⟨v,w⟩,y⟩:=x;rw[Hw,Hw];rcases h with rfl | rfl | rfl
 · exact Iff.rfl
 · exact⟨fun h=>h.elim (fun h=>.inr (.inl h)) fun h=>h.elim (fun h=>.inr (.inr h)) .inl,fun h=>h.elim (fun h=>.inr (.inr h)) fun h=>h.elim .inl fun h=>.inr (.inl h)⟩
 · exact⟨fun h=>h.elim (fun h=>.inr (.inr h)) fun h=>h.elim .inl fun h=>.inr (.inl h),fun h=>h.elim (fun h=>.inr (.inl h)) fun h=>h.elim (fun h=>.inr (.inr h)) .inl⟩
theorem anP{us vs:List T3}(h:us.Perm vs){v:P3}:Nx us v x y↔Nx vs v x y:=aej h
theorem Bf{us:List T3}{v:P3}(h:Nx us v x y):(v,x)∈aU us:=by rw[←mT];exact cu.2 ⟨_,h,rfl⟩
def oO(t:T3):Bool:=decide (¬Py (uV t.a t.b t.c)<3)
def wJ(s t:T3):List P3:=[s.a,s.b,s.c].filter fun p=>t.has p
def Bg(s t:T3):List P3:=[s.a,s.b,s.c].filter fun p=>!t.has p
def aaI(s t:T3):Bool:=kI s.a s.b t||kI s.b s.c t||kI s.c s.a t
def sgE(u v:P3):Bool:=decide (bR u.x=bR v.x∧bR u.y=bR v.y∧bR u.z=bR v.z)
def afT(s t:T3):List P3→List P3→List P3→Bool
 | [_],[u,x],[v,y]=>kI u x t||kI v y s
 | [a,b],[u],[v]=>decide (Iq a b u v=0)&&sgE (uV a b u) (uV a b v)
 | _,_,_=>true
def Yl(s t:T3):Bool :=
 if (wJ s t).length=0∨oO s=true∨oO t=true then aaI s t||aaI t s else afT s t (wJ s t) (Bg s t) (Bg t s)
theorem aqr(s t:T3):wJ s t=(if t.has s.a then [s.a] else [])++((if t.has s.b then [s.b] else [])++if t.has s.c then [s.c] else []):=by
 unfold wJ;simp only[ep,mb];cases t.has s.a <;> cases t.has s.b <;> cases t.has s.c <;> rfl
theorem aqs(s t:T3):Bg s t=(if t.has s.a then [] else [s.a])++((if t.has s.b then [] else [s.b])++if t.has s.c then [] else [s.c]):=by
 unfold Bg;simp only[ep,mb];cases t.has s.a <;> cases t.has s.b <;> cases t.has s.c <;> rfl
theorem Ym{t:T3}(h:t.nd=true):[t.a,t.b,t.c].Nodup:=by
 obtain⟨h1,h2,h3⟩:=uP.1 h;simp only[fz,ao,bt,or_false,not_or,not_false_eq_true,List.nodup_nil,and_true];exact⟨⟨h1,h3.symm⟩,h2⟩
theorem akp{s t:T3}(hs:s.nd=true)(ht:t.nd=true):(wJ s t).Perm (wJ t s):=by
 refine (List.perm_ext_iff_of_nodup ((Ym hs).filter _) ((Ym ht).filter _)).2 fun p=>?_;rw[c_,c_,iJ,iJ];simp only[ao,bt,or_false];exact and_comm
def T3.Lt(s t:T3):Prop:=s.a.Lt t.a∨s.a=t.a∧(s.b.Lt t.b∨s.b=t.b∧s.c.Lt t.c)
variable{t:T3}{l:List T3}
instance (s t:T3):Decidable (s.Lt t):=by unfold T3.Lt;infer_instance
theorem T3.lt_irrefl(s:T3):¬s.Lt s:=fun h=>by
 rcases h with h | ⟨_,h | ⟨_,h⟩⟩ <;> exact P3.lt_irrefl _ h
theorem T3.lt_trans{s u:T3}(h:s.Lt t)(k:t.Lt u):s.Lt u:=by
 rcases h with h | ⟨e,h | ⟨f,h⟩⟩ <;> rcases k with k | ⟨e2,k | ⟨f2,k⟩⟩
 · exact .inl (P3.lt_trans h k)
 · exact .inl (e2▸h)
 · exact .inl (e2▸h)
 · exact .inl (e▸k)
 · exact .inr ⟨e.trans e2,.inl (P3.lt_trans h k)⟩
 · exact .inr ⟨e.trans e2,.inl (f2▸h)⟩
 · exact .inl (e▸k)
 · exact .inr ⟨e.trans e2,.inl (f▸k)⟩
 · exact .inr ⟨e.trans e2,.inr ⟨f.trans f2,P3.lt_trans h k⟩⟩
theorem T3.lt_tri(s t:T3):s.Lt t∨s=t∨t.Lt s:=by
 rcases Go.Lith.lt_tri s.a t.a with h | h | h
 · exact .inl (.inl h)
 · rcases Go.Lith.lt_tri s.b t.b with k | k | k
   · exact .inl (.inr ⟨h,.inl k⟩)
   · rcases Go.Lith.lt_tri s.c t.c with l | l | l
     · exact .inl (.inr ⟨h,.inr ⟨k,l⟩⟩)
     · exact .inr (.inl (Mg h k l))
     · exact .inr (.inr (.inr ⟨h.symm,.inr ⟨k.symm,l⟩⟩))
   · exact .inr (.inr (.inr ⟨h.symm,.inl k⟩))
 · exact .inr (.inr (.inl h))
def Ce(s t:T3):Prop:=¬t.Lt s
theorem acu{s u:T3}(h:Ce s t)(k:Ce t u):Ce s u:=fun l=>by
 rcases T3.lt_tri s t with e | e | e
 · exact k (T3.lt_trans l e)
 · exact k (e▸l)
 · exact h e
theorem aen{s:T3}(h:Ce s t)(k:Ce t s):s=t:=by
 rcases T3.lt_tri s t with e | e | e
 · exact absurd e k
 · exact e
 · exact absurd e h
def ahD(t:T3):List T3→List T3
 | []=>[t]
 | u::l=>if u.Lt t then u::ahD t l else t::u::l
def afU:List T3→List T3
 | []=>[]
 | t::l=>ahD t (afU l)
def dG(l:List T3):List T3:=afU (l.map eX)
theorem Tf(t:T3):∀l:List T3,(ahD t l).Perm (t::l)
 | []=>.refl _
 | u::l=>by
  rw[ahD];split
  · exact ((Tf t l).cons u).trans (.swap ..)
  · exact .refl _
theorem Yn:∀l:List T3,(afU l).Perm l
 | []=>.refl _
 | t::l=>(Tf t _).trans ((Yn l).cons t)
theorem Tg(t:T3):∀l:List T3,l.Pairwise Ce→(ahD t l).Pairwise Ce
 | [],_=>jq _ _
 | u::l,h=>by
  rw[ahD];obtain⟨h1,h2⟩:=bq.1 h;split
  · rename_i k
    refine bq.2 ⟨fun x hx=>?_,Tg t l h2⟩;rcases ao.1 ((Tf t l).subset hx) with rfl | hx
    · exact fun k2=>T3.lt_irrefl _ (T3.lt_trans k k2)
    · exact h1 x hx
  · rename_i k
    refine bq.2 ⟨fun x hx=>?_,h⟩;rcases ao.1 hx with rfl | hx
    · exact k
    · exact acu k (h1 x hx)
theorem Oi:∀l:List T3,(afU l).Pairwise Ce
 | []=>kz
 | t::l=>Tg t _ (Oi l)
theorem Oj:∀{l m:List T3},l.Perm m→l.Pairwise Ce→m.Pairwise Ce→l=m
 | [],m,h,_,_=>h.symm.eq_nil.symm
 | s::l,[],h,_,_=>by have:=h.length_eq;simp at this
 | s::l,t::m,h,h1,h2=>by
  obtain⟨a1,a2⟩:=bq.1 h1;obtain⟨b1,b2⟩:=bq.1 h2;have e:s=t:=by
   have hs:s∈t::m:=h.subset (bj ..);have ht:t∈s::l:=h.symm.subset (bj ..);rcases ao.1 hs with e | hs
   · exact e
   · rcases ao.1 ht with e | ht
     · exact e.symm
     · exact aen (a1 t ht) (b1 s hs)
  subst e;rw[Oj ((List.perm_cons s).1 h) a2 b2]
theorem nZ(l:List T3):(dG l).Perm (l.map eX):=Yn _
theorem aaJ(l:List T3):(dG l).Pairwise Ce:=Oi _
theorem akq{m:List T3}(h:m.Perm (l.map eX))(hs:m.Pairwise Ce):m=dG l:=Oj (h.trans (nZ l).symm) hs (aaJ l)
def pI(u v:P3)(t:T3):T3:=t.mapP (kZ u v)
def uQ(u v:P3)(l:List T3):List T3:=(l.map (pI u v)).filter T3.nd
def iC(l:List T3)(u v:P3):List T3:=dG (uQ u v l)
def nJ(u v:P3)(l:List T3):List T3:=l.filter fun t=>!decide (pI u v t=t)&&(pI u v t).nd
def nK(u v:P3)(l:List T3):List T3:=(nJ u v l).map (pI u v)
def sC(u v:P3)(l:List T3):List T3:=l.filter fun t=>decide (pI u v t=t)
def Mm(l:List T3)(p q:P3):Bool:=decide (q≠p)&&kP l p q
def nbL(l:List T3)(p:P3):List P3:=(cK l).filter (Mm l p)
def ahE(p:P3):List P3→List P3
 | []=>[p]
 | q::l=>if q.Lt p then q::ahE p l else p::q::l
def yS:List P3→List P3
 | []=>[]
 | p::l=>ahE p (yS l)
def Th(t:T3):List P3:=yS [t.a,t.b,t.c]
def Hx(t:T3)(k:Nat):Int:=min (min (qA t.a k) (qA t.b k)) (qA t.c k)
def Hy(t:T3)(k:Nat):Int:=max (max (qA t.a k) (qA t.b k)) (qA t.c k)
def ahF(s t:T3)(k:Nat):Bool:=decide (Hy s k<Hx t k)||decide (Hy t k<Hx s k)
def Ol(s t:T3):Bool:=!ahF s t 0 && !ahF s t 1 && !ahF s t 2
def xG(t s:T3):Bool:=Ol t s&&Yl s t
def akr(s t:T3):Int:=bR ((uV s.a s.b s.c).dot (uV t.a t.b t.c))
def vH(l:List T3)(u v:P3):Bool:=Mm l u v && !wH (aO l) u
def Fy(l:List T3)(u v:P3):Bool:=decide (((nbL l u).filter (Mm l v)).length=2)
def Pz(l:List T3)(u v:P3):Bool:=decide (((nK u v l++sC u v l).map Th).Nodup)
def Hz(l:List T3)(u v:P3):Bool:=!wH (aO l) v||(nbL l u).all fun p=>decide (p=v) || !wH (aO l) p||Mm l v p
def Dz(l:List T3)(u v:P3):Bool:=(nJ u v l).all fun t=>!oO (pI u v t)&&decide (akr t (pI u v t)=1)
def aaK(l:List T3)(u v:P3):Bool:=(nK u v l).zipIdx.all fun x=>!(sC u v l).any (xG x.1) && !((nK u v l).take x.2).any (xG x.1)
def dT(l:List T3)(u v:P3):Bool:=vH l u v&&Fy l u v&&Pz l u v&&Hz l u v&&Dz l u v&&aaK l u v
theorem Ea{p:P3}:Mm l p q=true↔q≠p∧kP l p q=true:=by
 unfold Mm;rw[bh,decide_eq_true_eq]
theorem Bh{p:P3}:q∈nbL l p↔Mm l p q=true:=by
 unfold nbL;rw[c_,mM];refine⟨fun h=>h.2,fun h=>⟨?_,h⟩⟩;obtain⟨t,ht,_,hq⟩:=kU.1 (Ea.1 h).2;exact rS ht hq
theorem aqt{v:P3}(hne:u≠v)(hd:t.nd=true):(pI u v t).nd=true↔¬(t.has u=true∧t.has v=true):=by
 obtain⟨h1,h2,h3⟩:=uP.1 hd;rw[uP,iJ,iJ];unfold pI T3.mapP kZ;simp only
 grind
theorem afW{v:P3}(l:List T3):∀t∈uQ u v l,t.nd=true:=fun t h=>(c_.1 h).2
theorem aqu(t:T3):(eX t).nd=t.nd:=(aaE (lE t))
theorem aks(h:∀t∈l,t.nd=true):∀t∈dG l,t.nd=true:=fun t ht=>by
 obtain⟨s,hs,rfl⟩:=cu.1 ((nZ l).mem_iff.1 ht);rw[aqu];exact h s hs
theorem akt(l:List T3)(u v:P3):∀t∈iC l u v,t.nd=true:=aks (afW l)
theorem sY(l:List T3):(dG l).length=l.length:=by rw[(nZ l).length_eq,dm]
theorem aku{v:P3}(h:vH l u v=true):(iC l u v).length<l.length:=by
 have hj:=(Bool.and_eq_true_iff.1 h).1;obtain⟨hne,he⟩:=Ea.1 hj;obtain⟨t,ht,h1,h2⟩:=kU.1 he;unfold iC;rw[sY];unfold uQ;have hn:(pI u v t).nd=false:=by
  rw[ako];rw[iJ] at h1 h2;unfold pI T3.mapP kZ;simp only
  grind
 have hm:pI u v t∈l.map (pI u v):=List.mem_map_of_mem ht;have:=List.length_filter_lt_length_iff_exists (p:=T3.nd) (l:=l.map (pI u v)) |>.2 ⟨_,hm,by rw[hn];exact ei⟩
 rwa [dm] at this
theorem afX(u v:P3)(l:List T3):(uQ u v l).length≤l.length:=by
 have:=List.length_filter_le T3.nd (l.map (pI u v));rwa [dm] at this
def Gi(a b:List Int):List Int:=List.zipWith (· + ·) a b
def q0:List Int:=[0,0,0,0,0,0,0,0,0,0]
def qPr(a b c d:Int):List Int:=[a*a,2*(a*b),2*(a*c),2*(a*d),b*b,2*(b*c),2*(b*d),c*c,2*(c*d),d*d]
def qOf(t:T3):List Int:=qPr (uV t.a t.b t.c).x (uV t.a t.b t.c).y (uV t.a t.b t.c).z (-((uV t.a t.b t.c).dot t.a))
def asT(q:List Int)(x y z:Int):Int:=match q with
 | [a,b,c,d,e,f,g,h,i,j]=>a*(x*x)+b*(x*y)+c*(x*z)+d*x+e*(y*y)+f*(y*z)+g*y+h*(z*z)+i*z+j
 | _=>0
def qAt(q:List Int)(p:P3):Int:=asT q p.x p.y p.z
def wS(l:List T3)(p:P3):List Int:=(l.filter fun t=>t.has p).foldl (fun s t=>Gi s (qOf t)) q0
structure mN where
 u:P3
 v:P3
 c:Int
def mN.Lt(a b:mN):Prop:=a.c<b.c∨a.c=b.c∧(a.u.Lt b.u∨a.u=b.u∧a.v.Lt b.v)
variable{c:mN}
instance (a b:mN):Decidable (a.Lt b):=by unfold mN.Lt;infer_instance
theorem mN.ext' {a b:mN}(h1:a.u=b.u)(h2:a.v=b.v)(h3:a.c=b.c):a=b:=by
 obtain⟨u,v,c⟩:=a;obtain⟨u',v',c'⟩:=b;simp only at h1 h2 h3;rw[h1,h2,h3]
theorem mN.lt_irrefl(a:mN):¬a.Lt a:=fun h=>by
 rcases h with h | ⟨_,h | ⟨_,h⟩⟩
 · omega
 · exact P3.lt_irrefl _ h
 · exact P3.lt_irrefl _ h
theorem mN.lt_trans{a b:mN}(h:a.Lt b)(k:b.Lt c):a.Lt c:=by
 rcases h with h | ⟨e,h | ⟨f,h⟩⟩ <;> rcases k with k | ⟨e2,k | ⟨f2,k⟩⟩
 · exact .inl (by omega)
 · exact .inl (by omega)
 · exact .inl (by omega)
 · exact .inl (by omega)
 · exact .inr ⟨e.trans e2,.inl (P3.lt_trans h k)⟩
 · exact .inr ⟨e.trans e2,.inl (f2▸h)⟩
 · exact .inl (by omega)
 · exact .inr ⟨e.trans e2,.inl (f▸k)⟩
 · exact .inr ⟨e.trans e2,.inr ⟨f.trans f2,P3.lt_trans h k⟩⟩
theorem mN.lt_tri(a b:mN):a.Lt b∨a=b∨b.Lt a:=by
 rcases Int.lt_trichotomy a.c b.c with h | h | h
 · exact .inl (.inl h)
 · rcases Go.Lith.lt_tri a.u b.u with k | k | k
   · exact .inl (.inr ⟨h,.inl k⟩)
   · rcases Go.Lith.lt_tri a.v b.v with l | l | l
     · exact .inl (.inr ⟨h,.inr ⟨k,l⟩⟩)
     · exact .inr (.inl (mN.ext' k l h))
     · exact .inr (.inr (.inr ⟨h.symm,.inr ⟨k.symm,l⟩⟩))
   · exact .inr (.inr (.inr ⟨h.symm,.inl k⟩))
 · exact .inr (.inr (.inl h))
def Wl:List mN→Option mN
 | []=>none
 | c::cs=>match Wl cs with
  | none=>some c
  | some d=>if d.Lt c then some d else some c
theorem Mn:∀{cs:List mN},Wl cs=none↔cs=[]
 | []=>⟨fun _=>rfl,fun _=>rfl⟩
 | c::cs=>by
  unfold Wl;constructor
  · intro h
    cases hm:Wl cs with
    | none=>rw[hm] at h;cases h
    | some d=>rw[hm] at h;simp only at h;split at h <;> cases h
  · intro h;cases h
theorem Mo:∀{cs:List mN} {c:mN},Wl cs=some c→c∈cs∧∀d∈cs,¬d.Lt c
 | [],c,h=>by cases h
 | a::cs,c,h=>by
  unfold Wl at h;cases hm:Wl cs with
  | none =>
   rw[hm] at h;cases h;rw[Mn.1 hm];exact⟨List.mem_singleton_self _,fun d hd=>by rw[bg.1 hd];exact mN.lt_irrefl _⟩
  | some d =>
   rw[hm] at h;simp only at h;obtain⟨h1,h2⟩:=Mo hm;split at h
   · rename_i k
     cases h;refine⟨bm _ h1,fun e he=>?_⟩;rcases ao.1 he with rfl | he
     · exact fun k2=>mN.lt_irrefl _ (mN.lt_trans k k2)
     · exact h2 e he
   · rename_i k
     cases h;refine⟨bj ..,fun e he k2=>?_⟩;rcases ao.1 he with rfl | he
     · exact mN.lt_irrefl _ k2
     · rcases mN.lt_tri d e with k3 | k3 | k3
       · exact k (mN.lt_trans k3 k2)
       · exact k (k3▸k2)
       · exact h2 e he k3
theorem anR{cs:List mN}(hc:c∈cs)(h:∀d∈cs,¬d.Lt c):Wl cs=some c:=by
 cases hm:Wl cs with
 | none=>rw[Mn.1 hm] at hc;cases hc
 | some d =>
  obtain⟨h1,h2⟩:=Mo hm;rcases mN.lt_tri c d with k | k | k
  · exact absurd k (h2 c hc)
  · rw[k]
  · exact absurd k (h d h1)
def uW(q:P3→List Int)(u v:P3):Int:=qAt (Gi (q u) (q v)) v
def aqv(l:List T3)(q:P3→List Int)(u:P3):List mN:=if wH (aO l) u then [] else (nbL l u).map fun v=>⟨u,v,uW q u v⟩
def aeo(l:List T3)(q:P3→List Int):List mN:=(cK l).flatMap (aqv l q)
def Cf(l:List T3)(q:P3→List Int):Option mN:=Wl ((aeo l q).filter fun c=>dT l c.u c.v)
def aaL(q:P3→List Int)(u v:P3)(p:P3):List Int:=if p=v then Gi (q u) (q v) else q p
def toF(D:List Mv)(u v:P3):List Mv:=fI (D.map fun e=>(e.1,kZ u v e.2)) u v
def oA:Nat→Int→List T3→(P3→List Int)→List Mv→List T3 × List Mv
 | 0,_,l,_,D=>(l,D)
 | n+1,want,l,q,D=>if (l.length:Int)≤want then (l,D) else match Cf l q with
  | none=>(l,D)
  | some c=>oA n want (iC l c.u c.v) (aaL q c.u c.v) (toF D c.u c.v)
def lB(D:List Mv):List Mv:=(yS (D.map (·.1))).map fun k=>(k,(bL D k).getD k)
def mZ(l:List T3)(want:Int):List T3 × List Mv :=
 if cQ true (dG l)≠0 then (dG l,[]) else
 ((oA (dG l).length want (dG l) (wS (dG l)) []).1,lB (oA (dG l).length want (dG l) (wS (dG l)) []).2)
theorem afY{q:P3→List Int}  : c∈aeo l q↔wH (aO l) c.u=false∧Mm l c.u c.v=true∧c.c=uW q c.u c.v:=by
 unfold aeo;rw[df];constructor
 · rintro⟨u,hu,hc⟩
   unfold aqv at hc;split at hc
   · cases hc
   · rename_i hb
     obtain⟨v,hv,rfl⟩:=cu.1 hc;exact⟨by simpa using hb,Bh.1 hv,O⟩
 · rintro⟨h1,h2,h3⟩
   obtain⟨t,ht,hu,_⟩:=kU.1 (Ea.1 h2).2;refine⟨c.u,mM.2 (rS ht hu),?_⟩;unfold aqv;rw[if_neg (by rw[h1];exact ei)];exact cu.2 ⟨c.v,Bh.2 h2,mN.ext' O O h3.symm⟩
theorem Ti{v:P3}(h:dT l u v=true):vH l u v=true:=by
 unfold dT at h;simp only[bh] at h;exact h.1.1.1.1.1
theorem Mp{q:P3→List Int}(h:Cf l q=some c):c∈aeo l q∧dT l c.u c.v=true:=by
 have:=(Mo h).1;exact c_.1 this
theorem yT{q:P3→List Int}(h:Cf l q=some c):(iC l c.u c.v).length<l.length:=aku (Ti (Mp h).2)
theorem Yo:∀(n m:Nat) (want:Int) (l:List T3) (q:P3→List Int) (D:List Mv),l.length≤n→l.length≤m→0≤want→oA n want l q D=oA m want l q D
 | 0,0,_,_,_,_,_,_,_=>rfl
 | 0,m+1,want,l,q,D,h1,h2,hw=>by
  have:l.length=0:=by omega
  unfold oA;rw[if_pos (by omega)]
 | n+1,0,want,l,q,D,h1,h2,hw=>by
  have:l.length=0:=by omega
  unfold oA;rw[if_pos (by omega)]
 | n+1,m+1,want,l,q,D,h1,h2,hw=>by
  unfold oA;split
  · rfl
  · cases hb:Cf l q with
    | none=>rfl
    | some c =>
     have:=yT hb;exact Yo n m want _ _ _ (by omega) (by omega) hw
theorem akv{want:Int}{q:P3→List Int}{D:List Mv}(h:(l.length:Int)≤want):oA n want l q D=(l,D):=by
 cases n with
 | zero=>rfl
 | succ n=>unfold oA;rw[if_pos h]
def wC(n:Int):List ak:=[.bool (fM n),.string (kA n)]
def qC(L:List Int):List ak:=L.flatMap wC
def qV(L:List Int):ak:=.agg (qC L).toArray
theorem wC2(n:Int):(wC n).length=2:=rfl
theorem Eb(L:List Int):(qC L).length=L.length*2:=kM wC2 ..
theorem Ec{w:am}{g:Nat}{T:ay}{x:Int}(h:fE w g (qC L) T)(hx:L[k]? = some x):mE w ⟨g,k*2,none⟩ (wC x):=by
 have h2:=h.row (k*2);rw[qC,Rt wC2 hx] at h2;exact fun j u hj=>h2 j u (by rw[List.getElem?_append_left (ax.1 hj).1];exact hj)
theorem aaM{x:Int}(h:k<L.length):bQ (qC L) (k*2) (wC x)=qC (L.set k x):=by
 unfold bQ qC;rw[show k*2+(wC x).length=(k+1)*2 by rw[wC2];omega,←Rs wC2,←As wC2,List.set_eq_take_append_cons_drop,if_pos h,be,ci,dh]
theorem aqw(L:List Int):∀u∈qC L,u.oneCell'=true:=fun u hu=>by
 obtain⟨x,_,h⟩:=df.1 hu;simp only[wC,ao,bt,or_false] at h;rcases h with rfl | rfl <;> rfl
def Ia(k:Nat)(L:List Int):Prop:=∀x∈L,Bd k x
theorem Ia.mono(h:Ia k L)(hk:k≤m):Ia m L:=fun x hx=>(h x hx).mono hk
theorem Ia.at{x:Int}(h:Ia k L)(hx:L[i]? = some x):Bd k x:=h x (bn hx)
theorem mB{a b:List Int}(ha:a.length=10)(hb:b.length=10):(Gi a b).length=10:=by unfold Gi;rw[List.length_zipWith,ha,hb];rfl
theorem Qd{a b:List Int}(ha:Ia k a)(hb:Ia k b):Ia (k+1) (Gi a b):=fun x hx=>by
 unfold Gi at hx;obtain⟨i,hi⟩:=ej.1 hx;rw[List.getElem?_zipWith] at hi;cases h1:a[i]? with
 | none=>simp[h1] at hi
 | some y =>
  cases h2:b[i]? with
  | none=>simp[h1,h2] at hi
  | some z =>
   simp[h1,h2] at hi;subst hi;exact ((ha.at h1).add (hb.at h2)).mono (by omega)
section
variable {P:bz} {ds:List dl} {l:List ak} {x y:cd} {T ty:ay} {ops:Array Oper} {Q:Exit→Act→am→Prop} {rest:List Oper} {pos:String} {after:Array Edge} {w w0:am} {is:List It}
theorem acv{cs us:List ak}(h:us.length=cs.length):bQ cs 0 us=us:=by unfold bQ;rw[List.take_zero,List.nil_append,ap,gp (by omega),fe]
theorem Ga{g n:Nat}{cs:List ak}{L:List Int}{t:ay}(m:Mem w0 w is)(k:Nat)(hk:is[k]? = some (bI g cs t))(hx:ev l x=.pointer (some ⟨g,0,none⟩))(hv:ev l y=qV L)(hl:L.length*2=n)(hcs:cs.length=n)(hc:dQ P T n)
 (h:∀u,Mem w0 u (is.set k (bI g (qC L) t))→au P ops Q rest (Fr l ds) u):au P ops Q (bp none (.store T x y) ty pos after none::rest) (Fr l ds) w :=
 cL (us:=qC L) m k hk hx hv (by rw[Eb,hl];exact hc) (by rw[Eb,hl,hcs,ap];exact av _) (dt.2 (aqw L)) fun u hu=>h u (by rw[acv (by rw[Eb,hl,hcs])] at hu;exact hu)
theorem xW{g:Nat}{L:List Int}{t:ay}(h:fE w g (qC L) t)(hA:fP P T true)(hc:dQ P T n)(hl:L.length*2=n):nO P w T ⟨g,0,none⟩ (qV L):=h.full hA (by rw[Eb,hl];exact hc)
theorem anS{a:Addr}(h:nO P w T a (.agg #[.bool false,.string ⟨#[]⟩])):nO P w T a (W 0):=by rw[Zx];exact h
end
def qP(a b:List Int)(k:Nat):List Int:=(Gi a b).take k++a.drop k
theorem aqx{a b:List Int}(ha:a.length=10)(hb:b.length=10):qP a b 10=Gi a b:=by
 unfold qP;rw[bf (by rw[mB ha hb];exact av _),gp (by omega),fe]
theorem akw{a b:List Int}(ha:a.length=10)(hb:b.length=10)(hk:k≤10):(qP a b k).length=10:=by
 unfold qP;rw[a_,bx,ip,mB ha hb,ha];omega
theorem asV{a b:List Int}(ha:a.length=10)(hb:b.length=10){x:Int}(hk:k<10)(hx:a[k]? = some x):(qP a b k)[k]? = some x:=by
 unfold qP;rw[List.getElem?_append_right (by rw[bx];omega),bx,mB ha hb,Nat.min_eq_left (by omega),ov,List.getElem?_drop,Nat.add_zero];exact hx
theorem aqy{a b:List Int}(ha:a.length=10)(hb:b.length=10){x y:Int}(hk:k<10)(hx:a[k]? = some x)(hy:b[k]? = some y):(qP a b k).set k (x+y)=qP a b (k+1):=by
 have h1:(Gi a b)[k]? = some (x+y):=by unfold Gi;rw[List.getElem?_zipWith,hx,hy]
 have h2:((Gi a b).take k).length=k:=by rw[bx,mB ha hb];omega
 unfold qP;rw[ox,h1,List.set_append_right _ _ (by rw[h2];exact av _),h2,ov,Option.toList,dh]
 congr 1
 rw[List.drop_eq_getElem_cons (by omega:k<a.length)];rfl
/-! ### The pairs,in order -/
def eI(n:Nat):Nat:=[0,0,0,0,1,1,1,2,2,3].getD n 0
def eJ(n:Nat):Nat:=[0,1,2,3,1,2,3,2,3,3].getD n 0
theorem aaN{Q:Nat→Prop}(hn:n<10)(h0:Q 0)(h1:Q 1)(h2:Q 2)(h3:Q 3)(h4:Q 4)(h5:Q 5)(h6:Q 6)(h7:Q 7)(h8:Q 8)(h9:Q 9):Q n:=by
 rcases n with _ | _ | _ | _ | _ | _ | _ | _ | _ | _ | n
 all_goals first | assumption | omega
theorem akx(hn:n<10):eI n<4:=aaN (Q:=fun n=>eI n<4) hn (by decide) (by decide) (by decide) (by decide) (by decide) (by decide) (by decide) (by decide) (by decide) (by decide)
theorem aky(hn:n<10):eJ n<4:=aaN (Q:=fun n=>eJ n<4) hn (by decide) (by decide) (by decide) (by decide) (by decide) (by decide) (by decide) (by decide) (by decide) (by decide)
def Yp(p:List Int)(n:Nat):Int:=p.getD (eI n) 0*p.getD (eJ n) 0
def qF(a b c d:Int)(n:Nat):List Int:=(qPr a b c d).take n++List.replicate (10-n) 0
theorem aqz(a b c d:Int)(hn:n≤10):(qF a b c d n).length=10:=by
 unfold qF;rw[a_,bx,List.length_replicate,show (qPr a b c d).length=10 from rfl];omega
theorem akz{a b c d:Int}(hn:n<10):((qF a b c d n).set n (Yp [a,b,c,d] n)).set n (if eI n=eJ n then Yp [a,b,c,d] n else Yp [a,b,c,d] n*2)=qF a b c d (n+1):=by
 rw[List.set_set];refine aaN (Q:=fun n=>(qF a b c d n).set n (if eI n=eJ n then Yp [a,b,c,d] n else Yp [a,b,c,d] n*2)=qF a b c d (n+1)) hn ?_ ?_ ?_ ?_ ?_ ?_ ?_ ?_ ?_ ?_
 all_goals simp[qF,qPr,Yp,eI,eJ,Int.mul_comm]
theorem asW(a b c d:Int):qF a b c d 10=qPr a b c d:=by unfold qF qPr;rfl
theorem api(a b c d:Int)(hi:i<4):[a,b,c,d][i]? = some ([a,b,c,d].getD i 0):=by
 rcases i with _ | _ | _ | _ | i
 all_goals first | rfl | omega
theorem asX{a b c d:Int}(h:Ia k [a,b,c,d]):Ia (k+k+2) (qPr a b c d):=fun x hx=>by
 have ha:=h a (by simp);have hb:=h b (by simp);have hc:=h c (by simp);have hd:=h d (by simp);have two:∀{x:Int},Bd (k+k) x→Bd (k+k+2) (2*x):=fun {x} hx=>by
  have h2:Bd 2 (2:Int):=by unfold Bd;decide
  rw[Nat.add_comm];exact h2.mul hx
 simp only[qPr,ao,bt,or_false] at hx;rcases hx with rfl | rfl | rfl | rfl | rfl | rfl | rfl | rfl | rfl | rfl
 · exact (ha.mul ha).mono (by omega)
 · exact two (ha.mul hb)
 · exact two (ha.mul hc)
 · exact two (ha.mul hd)
 · exact (hb.mul hb).mono (by omega)
 · exact two (hb.mul hc)
 · exact two (hb.mul hd)
 · exact (hc.mul hc).mono (by omega)
 · exact two (hc.mul hd)
 · exact (hd.mul hd).mono (by omega)
/-! ### A quadric's value -/
def atS(q x:List Int):Nat→Int
 | 0=>0
 | n+1=>atS q x n+q.getD n 0*Yp x n
theorem aaO{q:List Int}(hq:q.length=10)(hn:n<10):q[n]? = some (q.getD n 0):=by
 rw[jf,ar (by omega)];rfl
theorem akA{q:List Int}(hq:q.length=10)(p:P3):atS q [p.x,p.y,p.z,1] 10=qAt q p:=by
 rcases q with _ | ⟨a,_ | ⟨b,_ | ⟨c,_ | ⟨d,_ | ⟨e,_ | ⟨f,_ | ⟨g,_ | ⟨h,_ | ⟨i,_ | ⟨j,_ | ⟨k,q⟩⟩⟩⟩⟩⟩⟩⟩⟩⟩⟩ <;> simp only[az,b_] at hq <;> try omega
 simp only[atS,Yp,eI,eJ,qAt,asT,List.getD_cons_zero,List.getD_cons_succ,List.getD_nil]
 grind
theorem aep{p:List Int}(h:Ia k p)(hl:p.length=4)(hn:n<10):Bd (k+k) (Yp p n):=by
 have key:∀i,i<4→Bd k (p.getD i 0):=fun i hi=>by
  rw[jf,ar (by omega:i<p.length)];exact h _ (List.getElem_mem _)
 exact (key _ (akx hn)).mul (key _ (aky hn))
theorem aeq{k m:Nat}{q p:List Int}(hq:Ia k q)(hl:q.length=10)(hp:Ia m p)(hpl:p.length=4):∀n,n≤10→Bd (k+m+m+n) (atS q p n)
 | 0,_=>Ph _
 | n+1,hn=>by
  have h1:=aeq hq hl hp hpl n (by omega);have h2:=(hq.at (aaO hl (by omega:n<10))).mul (aep hp hpl (by omega:n<10));exact (h1.add (h2.mono (by omega:k+(m+m)≤k+m+m+n))).mono (by omega)
theorem bd4{p:P3}(h:I3 p):Ia 64 [p.x,p.y,p.z,1]:=fun x hx=>by
 simp only[ao,bt,or_false] at hx;rcases hx with rfl | rfl | rfl | rfl
 · exact h.x.bd
 · exact h.y.bd
 · exact h.z.bd
 · unfold Bd;decide
theorem aD:(∀P R w0 ds q s l is,V P R w0 ds none 0 [] q s l is=(q∧∀w,Mem w0 w is→Ct P R s .normal (Fz l ds) w))
 ∧ (∀P R w0 ds w1 q s l is,V P R w0 ds (some (false,w1)) 0 [] q s l is=(q∧∀w,Mem w0 w is→dY w1 w→Ct P R s .normal (Fz l ds) w))∧(∀P R w0 ds w1 q s l is,V P R w0 ds (some (true,w1)) 0 [] q s l is=(q∧Ct P R s .normal (Fz l ds) w1))
 ∧ (∀P R w0 ds k sc q l is,V P R w0 ds none 0 (k::sc) q [] l is=(q∧∀w,Mem w0 w is→R .normal (Fz l ds) w))
 ∧ (∀P R w0 ds w1 k sc q l is,V P R w0 ds (some (false,w1)) 0 (k::sc) q [] l is=(q∧∀w,Mem w0 w is→dY w1 w→R .normal (Fz l ds) w))∧(∀P R w0 ds w1 k sc q l is,V P R w0 ds (some (true,w1)) 0 (k::sc) q [] l is=(q∧R .normal (Fz l ds) w1))
 ∧ (∀P R w0 ds k sc q c s l is,V P R w0 ds none 0 (k::sc) q (.c c::s) l is=(q∧∀w,Mem w0 w is→c.wp P (Ct P R s) (Fz l ds) w))
 ∧ (∀P R w0 ds w1 k sc q c s l is,V P R w0 ds (some (false,w1)) 0 (k::sc) q (.c c::s) l is=(q∧∀w,Mem w0 w is→dY w1 w→c.wp P (Ct P R s) (Fz l ds) w))∧(∀P R w0 ds w1 k sc q c s l is,V P R w0 ds (some (true,w1)) 0 (k::sc) q (.c c::s) l is=(q∧c.wp P (Ct P R s) (Fz l ds) w1))
 ∧ (∀P R w0 ds k sc q ops rest s l is,V P R w0 ds none 0 (k::sc) q (.o ops rest::s) l is=(q∧∀w,Mem w0 w is→au P ops (Ct P R s) rest (Fz l ds) w))
 ∧ (∀P R w0 ds w1 k sc q ops rest s l is,V P R w0 ds (some (false,w1)) 0 (k::sc) q (.o ops rest::s) l is=(q∧∀w,Mem w0 w is→dY w1 w→au P ops (Ct P R s) rest (Fz l ds) w))∧(∀P R w0 ds w1 k sc q ops rest s l is,V P R w0 ds (some (true,w1)) 0 (k::sc) q (.o ops rest::s) l is=(q∧au P ops (Ct P R s) rest (Fz l ds) w1))
 ∧ (∀P R w0 ds k sc q K s l is,V P R w0 ds none 0 (k::sc) q (.k K::s) l is=(q∧∀w,Mem w0 w is→K (Fz l ds) w))
 ∧ (∀P R w0 ds w1 k sc q K s l is,V P R w0 ds (some (false,w1)) 0 (k::sc) q (.k K::s) l is=(q∧∀w,Mem w0 w is→dY w1 w→K (Fz l ds) w))∧(∀P R w0 ds w1 k sc q K s l is,V P R w0 ds (some (true,w1)) 0 (k::sc) q (.k K::s) l is=(q∧K (Fz l ds) w1))
 ∧ (∀P R w0 ds os n sc q i s l is,V P R w0 ds os (n+1) sc q (.b i::s) l is=V P R w0 ds os n sc q s l is)
 ∧ (∀P R w0 ds os n sc q ops s l is,V P R w0 ds os (n+1) sc q (.o ops []::s) l is=V P R w0 ds os n sc q s l is)
 ∧ (∀P R w0 ds os n sc q ops d op ty pos af g rest s l is,V P R w0 ds os (n+1) sc q (.o ops (⟨some d,op,ty,pos,af,g⟩::rest)::s) l is=Sg ops l g (Ha P l is [] (kpb os) op sc fun vc v sc is=>V P R w0 ds os n sc (vc∧q) (.o ops rest::s) (l.set d v) is) (V P R w0 ds os n sc q (.o ops rest::s) (l.set d undef) is))
 ∧ (∀P R w0 ds os n sc q ops op ty pos af g rest s l is,V P R w0 ds os (n+1) sc q (.o ops (⟨none,op,ty,pos,af,g⟩::rest)::s) l is=Sg ops l g (stV P l is os.isSome op sc fun vc _ sc is=>V P R w0 ds os n sc (vc∧q) (.o ops rest::s) l is) (V P R w0 ds os n sc q (.o ops rest::s) l is))
 ∧ (∀P R w0 ds os n sc q a b s l is,V P R w0 ds os (n+1) sc q (.c (.seq a b)::s) l is=V P R w0 ds os n sc q (.c a :: .c b::s) l is)
 ∧ (∀P R w0 ds os n sc q s l is,V P R w0 ds os (n+1) sc q (.c .skip::s) l is=V P R w0 ds os n sc q s l is)
 ∧ (∀P R w0 ds os n sc q i c s l is,V P R w0 ds os (n+1) sc q (.c (.block i c)::s) l is=V P R w0 ds os n sc q (.c c :: .b i::s) l is)
 ∧ (∀P R w0 ds os n sc q i s l is,V P R w0 ds os (n+1) sc q (.c (.exit i)::s) l is=Vl i s fun s=>V P R w0 ds os n sc q s l is)
 ∧ (∀P R w0 ds n sc q s l is,V P R w0 ds none (n+1) sc q (.c .ret::s) l is=(q∧∀w,Mem w0 w is→R .ret (Fz l ds) w))∧(∀P R w0 ds w1 n sc q s l is,V P R w0 ds (some (false,w1)) (n+1) sc q (.c .ret::s) l is=(q∧∀w,Mem w0 w is→dY w1 w→R .ret (Fz l ds) w))∧(∀P R w0 ds w1 n sc q s l is,V P R w0 ds (some (true,w1)) (n+1) sc q (.c .ret::s) l is=(q∧R .ret (Fz l ds) w1))
 ∧ (∀P R w0 ds os n sc q x a b s l is,V P R w0 ds os (n+1) sc q (.c (.cond x a b)::s) l is=vvB (ev l x) fun t=>vbX t (V P R w0 ds os n sc q (.c a::s) l is) (V P R w0 ds os n sc q (.c b::s) l is))
 ∧ (∀P R w0 ds os n sc q i ops s l is,V P R w0 ds os (n+1) sc q (.c (.region i (jw ops) false)::s) l is=V P R w0 ds os n sc q (.o ops.toArray ops::s) l is)
 ∧ (∀ops l p q,Sg ops l none p q=p)∧(∀ops l j b p q,Sg (jw ops) l (some (j,b)) p q=vvG (vyv ops l j) b p q)
 ∧ (∀o ops l j,vyv (o::ops) l (j+1)=vyv ops l j)∧(∀d op ty pos af g ops l,vyv (⟨some d,op,ty,pos,af,g⟩::ops) l 0=l.getD d undef)
 ∧ (∀p q,vvG (.bool true) true p q=p)∧(∀p q,vvG (.bool false) true p q=q)∧(∀p q,vvG (.bool true) false p q=q)∧(∀p q,vvG (.bool false) false p q=p)∧(∀b p q,vvG undef b p q=q)
 ∧ (∀i s f,Vl i (.b i::s) f=f s)∧(∀i j s f,Vl i (.b j::s) f=vnE i j (f s) (Vl i s f))∧(∀i c s f,Vl i (.c c::s) f=Vl i s f)∧(∀i ops rest s f,Vl i (.o ops rest::s) f=Vl i s f)∧(∀i K s f,Vl i (.k K::s) f=Vl i s f)∧(∀i c n s f,Vl i (.r c n::s) f=Vl i s f)
 ∧ (∀P R w0 ds os n sc q c k s l is,V P R w0 ds os (n+1) (k::sc) q (.c (.loop c)::s) l is=V P R w0 ds os n sc q (.r c k::s) l is)∧(∀P R w0 ds os n sc q c k s l is,V P R w0 ds os (n+1) sc q (.r c (k+1)::s) l is=V P R w0 ds os n sc q (.c c :: .r c k::s) l is)
 ∧ (∀p q,vnE 0 0 p q=p)∧(∀n m p q,vnE (n+1) (m+1) p q=vnE n m p q)∧(∀n p q,vnE (n+1) 0 p q=q)∧(∀n p q,vnE 0 (n+1) p q=q)
 ∧ (∀k m f,tJ (.int k m) f=f k m)∧(∀b f,vvB (.bool b) f=f b)∧(∀a f,vvP (.pointer (some a)) f=f a)∧(∀a n c f,vvS (.slice a n c) f=f a n c)∧(∀cs f,vvA (.agg (jw cs)) f=f cs)∧(∀cs f,vvT (.tuple (jw cs)) f=f cs)
 ∧ (∀p q,vbX true p q=p)∧(∀p q,vbX false p q=q)∧(∀n p,vnX (n+1) p=p)
 ∧ (∀x l f,Mb (x::l) 0 f=f x)∧(∀x l n f,Mb (x::l) (n+1) f=Mb l n f)
 ∧ (∀P l is os pr x sc K,Ha P l is os pr (.move x) sc K=K True (ev l x) sc is)
 ∧ (∀P l is os pr x sc K,Ha P l is os pr (.assign x) sc K=K True (ev l x) sc is)
 ∧ (∀P l is os pr x sc K,Ha P l is os pr (.nilCheck x) sc K=vvP (ev l x) fun a=>K True (.pointer (some a)) sc is)
 ∧ (∀P l is os pr c x y sc K,Ha P l is os pr (.pick c x y) sc K=vvB (ev l c) fun b=>vbX b (K True (ev l x) sc is) (K True (ev l y) sc is))
 ∧ (∀P l is os pr b T x y T' sc K,Ha P l is os pr (.binOp b T x y T') sc K=biV b (ev l x) (ev l y) sc is K)
 ∧ (∀P l is os pr T x sc K,Ha P l is os pr (.unOp .not T x) sc K=vvB (ev l x) fun b=>K True (.bool (!b)) sc is)
 ∧ (∀P l is os pr T x sc K,Ha P l is os pr (.unOp .neg T x) sc K=tJ (ev l x) fun k m=>K (InR k (0-m)) (.int k (0-m)) sc is)
 ∧ (∀P l is os pr T T' x sc K,Ha P l is os pr (.convert T T' x) sc K=Cm (ikP P T) fun _=>Cm (ikP P T') fun k=>tJ (ev l x) fun _ m=>K (InR k m) (.int k m) sc is)
 ∧ (∀P l is os pr x i sc K,Ha P l is os pr (.extract x i) sc K=vvT (ev l x) fun cs=>Mb cs i fun v=>K True v sc is)
 ∧ (∀P l is os pr b xs ts sc K,Ha P l is os pr (.call ⟨.builtin b,jw xs,jw ts⟩) sc K=caV P l is b xs ts sc K)
 ∧ (∀P l is x T sc K,caV P l is .len [x] [T] sc K=Cm (Hn P T) fun _=>vvS (ev l x) fun _ n _=>K True (.int .i64 n) sc is)
 ∧ (∀P l is x y ts sc K,caV P l is .min [x,y] ts sc K=tJ (ev l x) fun k m=>tJ (ev l y) fun k' n=>K (k'=k) (.int k (if n<m then n else m)) sc is)
 ∧ (∀P l is x y ts sc K,caV P l is .max [x,y] ts sc K=tJ (ev l x) fun k m=>tJ (ev l y) fun k' n=>K (k'=k) (.int k (if m<n then n else m)) sc is)
 ∧ (∀x y sc is K,biV .add x y sc is K=tJ x fun k m=>tJ y fun k' n=>K (k'=k∧InR k (m+n)) (.int k (m+n)) sc is)
 ∧ (∀x y sc is K,biV .sub x y sc is K=tJ x fun k m=>tJ y fun k' n=>K (k'=k∧InR k (m-n)) (.int k (m-n)) sc is)
 ∧ (∀x y sc is K,biV .mul x y sc is K=tJ x fun k m=>tJ y fun k' n=>K (k'=k∧InR k (m*n)) (.int k (m*n)) sc is)
 ∧ (∀x y sc is K,biV .lss x y sc is K=tJ x fun k m=>tJ y fun k' n=>cV sc (m<n) (fun p=>K (k'=k∧p)) is)
 ∧ (∀x y sc is K,biV .leq x y sc is K=tJ x fun k m=>tJ y fun k' n=>cV sc (m≤n) (fun p=>K (k'=k∧p)) is)
 ∧ (∀x y sc is K,biV .gtr x y sc is K=tJ x fun k m=>tJ y fun k' n=>cV sc (n<m) (fun p=>K (k'=k∧p)) is)
 ∧ (∀x y sc is K,biV .geq x y sc is K=tJ x fun k m=>tJ y fun k' n=>cV sc (n≤m) (fun p=>K (k'=k∧p)) is)
 ∧ (∀x y sc is K,biV .eql x y sc is K=tJ x fun k m=>tJ y fun k' n=>cV sc (m=n) (fun p=>K (k'=k∧p)) is)
 ∧ (∀x y sc is K,biV .neq x y sc is K=tJ x fun k m=>tJ y fun k' n=>cV sc (m≠n) (fun p=>K (k'=k∧p)) is)
 ∧ (∀sc p K is [Decidable p],cV (0::sc) p K is=K True (.bool (decide p)) sc is)∧(∀sc p K is [Decidable p],cV (1::sc) p K is=K p (.bool true) sc is)∧(∀sc p K is [Decidable p],cV (2::sc) p K is=K (¬p) (.bool false) sc is)
 ∧ (∀n,InR .i64 n=(-9223372036854775808≤n∧n<9223372036854775808))∧(∀n,InR .i32 n=(-2147483648≤n∧n<2147483648))∧(∀n,InR .u64 n=(0≤n∧n<18446744073709551616))∧(∀n,InR .u32 n=(0≤n∧n<4294967296))∧(∀n,InR .u8 n=(0≤n∧n<256))
 ∧ (∀{α:Type} (hd:α→Option Oper) P is os ops K q rest l,VQ hd P is os ops K 0 [] q rest l=(q∧K rest l))∧(∀P is os ops K n sc q d op ty pos af g rest l,VQ some P is os ops K (n+1) sc q (⟨some d,op,ty,pos,af,g⟩::rest) l=Sg ops l g (Ha P l is os true op sc fun vc v sc _=>VQ some P is os ops K n sc (vc∧q) rest (l.set d v)) (VQ some P is os ops K n sc q rest (l.set d undef)))
 ∧ (∀P is os ops K n sc q d op ty pos af g rest l,VQ hdH P is os ops K (n+1) sc q ((⟨some d,op,ty,pos,af,g⟩,true)::rest) l=Sg ops l g (Ha P l is os true op sc fun vc v sc _=>VQ hdH P is os ops K n sc (vc∧q) rest (l.set d v)) (VQ hdH P is os ops K n sc q rest (l.set d undef)))
 ∧ (∀(w:Bool × am),(some w).isSome=true)∧((none:Kw).isSome=false)∧(∀b w,kpb (some (b,w))=b)∧(kpb none=false)
 ∧ (∀{α:Type} (x:α) f,Cm (some x) f=f x)∧(∀l ds,Fz l ds=Fr l ds)
 ∧ (∀p:Prop,(True∧p)=p)∧(∀p:Prop,(p∧True)=p)
 ∧ (∀(l:List Go.Value) (t:Nat),ev l (.tmp t)=l.getD t undef)∧(∀(l:List Go.Value) (v:Go.Value),ev l (.const v)=v)∧(∀(l:List Go.Value) (f:Nat),ev l (.func f)=.func (.func f) #[] #[])∧(∀{α:Type} (x:α) (xs:List α) (n:Nat) (d:α),(x::xs).getD (n+1) d=xs.getD n d)∧(∀{α:Type} (x:α) (xs:List α) (d:α),(x::xs).getD 0 d=x)∧(∀{α:Type} (x:α) (xs:List α) (n:Nat) (a:α),(x::xs).set (n+1) a=x::xs.set n a)∧(∀{α:Type} (x:α) (xs:List α) (a:α),(x::xs).set 0 a=a::xs)
 ∧ (∀P l is os pr T x i sc K,Ha P l is os pr (.fieldAddr T x i) sc K=Cm (lQ P T i) fun f=>vvP (ev l x) fun a=>vnX f.2.2 (K True (.pointer (some (a.add f.1))) sc is))
 ∧ (∀P l is os pr T x i sc K,Ha P l is os pr (.field T x i) sc K=Cm (lQ P T i) fun f=>vvA (ev l x) fun cs=>vbX f.2.1 (K True (.agg ((cs.drop f.1).take f.2.2).toArray) sc is) (Mb cs f.1 fun v=>K True v sc is))
 ∧ (∀P l is os pr T x k sc K,Ha P l is os pr (.load T x) (k::sc) K=Cm (sS P T) fun z=>vvP (ev l x) fun a=>atB is os k fun g=>vbX z.1 (K (a=⟨g.1,a.off,none⟩∧Hm ((g.2.1.drop a.off).take z.2) z.2) (.agg ((g.2.1.drop a.off).take z.2).toArray) sc is) (Mb g.2.1 a.off fun v=>K (a=⟨g.1,a.off,none⟩) v sc is))
 ∧ (∀P l is os pr T ps sc K,Ha P l is os pr (.build T (jw ps)) sc K=Cm (Az P T) fun z=>blV l z.1 ps z.2 True fun q cs=>K q (.agg cs.toArray) sc is)
 ∧ (∀l pl cs q f,blV l pl [] cs q f=f q cs)∧(∀l pl i x ps cs q f,blV l pl ((i,x)::ps) cs q f=aaq pl i fun z=>vnX z.2 (blV l pl ps (bQ cs z.1 (ev l x).cells.toList) (Hm (ev l x).cells.toList z.2∧Hm ((cs.drop z.1).take z.2) z.2∧q) f))
 ∧ (∀x l f,aaq (x::l) 0 f=f x)∧(∀x l n f,aaq (x::l) (n+1) f=aaq l n f)
 ∧ (∀P l is os T x sc K,Ha P l is os false (.box T x) sc K=∀g,K True (.pointer (some ⟨g,0,none⟩)) sc (bI g (ev l x).cells.toList T::is))
 ∧ (∀P l is os T sc K,Ha P l is os false (.alloc T) sc K=Cm (Jv P T) fun z=>∀g,K True (.pointer (some ⟨g,0,none⟩)) sc (bI g z T::is))
 ∧ (∀P l is T x y k sc K,stV P l is false (.store T x y) (k::sc) K=Cm (sS P T) fun z=>vnX z.2 (vvP (ev l x) fun a=>atM is k fun g=>K (a=⟨g.1,a.off,none⟩∧Hm ((g.2.1.drop a.off).take z.2) z.2∧Hm (ev l y).cells.toList z.2∧aao (ev l y).cells.toList) undef sc (is.set k (bI g.1 (bQ g.2.1 a.off (ev l y).cells.toList) g.2.2))))
 ∧ (∀P l is os pr T x y sc K,Ha P l is os pr (.indexAddr T x y) sc K=Cm (ixP P T) fun z=>vvX z.1 (ev l x) fun a n=>tJ (ev l y) fun _ m=>K (0≤m∧m<n) (.pointer (some (a.add (m.toNat*z.2)))) sc is)
 ∧ (∀n v f,vvX (some n) v f=vvP v fun a=>f a n)∧(∀v f,vvX none v f=vvS v fun A n _=>Cm A fun a=>f a n)
 ∧ (∀bs i is,rG (true::bs) (i::is)=i::rG bs is)∧(∀bs i is,rG (false::bs) (i::is)=rG bs is)∧(∀is,rG [] is=[])
 ∧ (∀i is os f,atB (i::is) os 0 f=Cm i.bk f)∧(∀i is os k f,atB (i::is) os (k+1) f=atB is os k f)∧(∀os k f,atB [] os k f=atO os k f)∧(∀x os f,atO (x::os) 0 f=f x)∧(∀x os k f,atO (x::os) (k+1) f=atO os k f)
 ∧ (∀i is f,atM (i::is) 0 f=Cm i.bk f)∧(∀i is k f,atM (i::is) (k+1) f=atM is k f)∧(∀g cs t,(bI g cs t).bk=some (g,cs,t))
 ∧ (∀x l n,Hm (x::l) (n+1)=Hm l n)∧(Hm [] 0=True)∧(∀v l,aao (v::l)=(v.oneCell'=true∧aao l))∧(aao []=True)
 ∧ (∀g n,(⟨g,0,none⟩:Addr).add n=⟨g,n,none⟩)∧(∀g o n,(⟨g,o,none⟩:Addr).add n=⟨g,o+n,none⟩)
 ∧ (∀cs o us,bQ cs o us=cs.take o++us++cs.drop (o+us.length))
 ∧ (∀cs,(Value.agg (jw cs)).cells.toList=cs)∧(∀k n,(Value.int k n).cells.toList=[.int k n])∧(∀b,(Value.bool b).cells.toList=[.bool b])∧(∀b,(Value.string b).cells.toList=[.string b])∧(∀a,(Value.pointer a).cells.toList=[.pointer a])∧(∀a n c,(Value.slice a n c).cells.toList=[.slice a n c])∧(∀a,(Value.map a).cells.toList=[.map a])∧(∀a b c,(Value.func a b c).cells.toList=[.func a b c])
 ∧ (∀k n,(Value.int k n).oneCell'=true)∧(∀b,(Value.bool b).oneCell'=true)∧(∀b,(Value.string b).oneCell'=true)∧(∀a,(Value.pointer a).oneCell'=true)∧(∀a n c,(Value.slice a n c).oneCell'=true)∧(∀a,(Value.map a).oneCell'=true)∧(∀a b c,(Value.func a b c).oneCell'=true)
 ∧ (∀{α:Type} (x:α) (xs:List α) (n:Nat),(x::xs).take (n+1)=x::xs.take n)∧(∀{α:Type} (xs:List α),xs.take 0=[])∧(∀{α:Type} (x:α) (xs:List α) (n:Nat),(x::xs).drop (n+1)=xs.drop n)∧(∀{α:Type} (xs:List α),xs.drop 0=xs)∧(∀{α:Type} (n:Nat),([]:List α).drop n=[])∧(∀{α:Type} (x:α) (xs ys:List α),(x::xs)++ys=x::(xs++ys))∧(∀{α:Type} (ys:List α),[]++ys=ys)∧(∀{α:Type} (ys:List α),ys++[]=ys)∧(∀{α:Type} (x:α) (xs:List α),(x::xs).length=xs.length+1)∧(∀{α:Type},([]:List α).length=0)
 ∧ (∀p:P3,(pt p).cells.toList=[.int .i64 p.x,.int .i64 p.y,.int .i64 p.z])∧(∀p f,vvA (pt p) f=f [.int .i64 p.x,.int .i64 p.y,.int .i64 p.z])
 ∧ (∀t:T3,(tr t).cells.toList=[.int .i64 t.a.x,.int .i64 t.a.y,.int .i64 t.a.z,.int .i64 t.b.x,.int .i64 t.b.y,.int .i64 t.b.z,.int .i64 t.c.x,.int .i64 t.c.y,.int .i64 t.c.z])∧(∀t f,vvA (tr t) f=f [.int .i64 t.a.x,.int .i64 t.a.y,.int .i64 t.a.z,.int .i64 t.b.x,.int .i64 t.b.y,.int .i64 t.b.z,.int .i64 t.c.x,.int .i64 t.c.y,.int .i64 t.c.z])
 ∧ (∀v:P3,(wv v).cells.toList=[.bool (fM v.x),.string (kA v.x),.bool (fM v.y),.string (kA v.y),.bool (fM v.z),.string (kA v.z)])∧(∀v f,vvA (wv v) f=f [.bool (fM v.x),.string (kA v.x),.bool (fM v.y),.string (kA v.y),.bool (fM v.z),.string (kA v.z)])
 ∧ (∀v:P3,(nv v).cells.toList=[.int .i64 v.x,.int .i64 v.y,.int .i64 v.z])∧(∀v f,vvA (nv v) f=f [.int .i64 v.x,.int .i64 v.y,.int .i64 v.z])
 ∧ (∀v:P3,(sg v).cells.toList=[.int .i64 (bR v.x),.int .i64 (bR v.y),.int .i64 (bR v.z)])∧(∀v f,vvA (sg v) f=f [.int .i64 (bR v.x),.int .i64 (bR v.y),.int .i64 (bR v.z)])
 ∧ (∀e:E3,(ed e).cells.toList=[.int .i64 e.1.x,.int .i64 e.1.y,.int .i64 e.1.z,.int .i64 e.2.x,.int .i64 e.2.y,.int .i64 e.2.z])∧(∀e f,vvA (ed e) f=f [.int .i64 e.1.x,.int .i64 e.1.y,.int .i64 e.1.z,.int .i64 e.2.x,.int .i64 e.2.y,.int .i64 e.2.z])
 ∧ (∀p,qO p=[.int .i64 p.x,.int .i64 p.y,.int .i64 p.z])∧(∀p,gX p=[.int .i64 p.x,.int .i64 p.y,.int .i64 p.z])∧(∀e,bM e=[.int .i64 e.1.x,.int .i64 e.1.y,.int .i64 e.1.z,.int .i64 e.2.x,.int .i64 e.2.y,.int .i64 e.2.z])∧(∀n,wC n=[.bool (fM n),.string (kA n)])
 ∧ (∀n,(W n).cells.toList=[.bool (fM n),.string (kA n)])∧(∀n f,vvA (W n) f=f [.bool (fM n),.string (kA n)])
 ∧ (∀q:Rat,(Q q).cells.toList=[.bool (fM q.num),.string (kA q.num),.bool (fM (q.den:Int)),.string (kA (q.den:Int))])∧(∀q f,vvA (Q q) f=f [.bool (fM q.num),.string (kA q.num),.bool (fM (q.den:Int)),.string (kA (q.den:Int))]):=by
 repeat' apply And.intro
 all_goals intros
 all_goals first | rfl | exact asO | exact true_and _ | exact and_true _ | exact kp0 | exact kp1 | exact List.drop_nil | exact fe _ | exact (gV ..).trans (by rw[ap]) | exact gV ..
def Gj:List Oper→Nat→(Oper→Prop)→Prop
 | o::_,0,f=>f o
 | _::r,n+1,f=>Gj r n f
 | [],_,_=>False
def Ed:List (List Nat)→Nat→(List Nat→Prop)→Prop
 | s::_,0,f=>f s
 | _::r,n+1,f=>Ed r n f
 | [],_,f=>f []
theorem xH:∀{ss:List (List Nat)} {i:Nat} {f:List Nat→Prop},Ed ss i f→∃s,f s
 | s::_,0,_,h=>⟨s,h⟩
 | _::r,n+1,_,h=>xH (ss:=r) h
 | [],_,_,h=>⟨[],h⟩
def Yq(op:Op)(bs:List Bool):List Bool:=match op with
 | .box _ _ | .alloc _=>false::bs
 | _=>bs
def Tj:List Bool→Nat→Prop→Prop
 | false::_,0,p=>p
 | _::bs,n+1,p=>Tj bs n p
 | _,_,_=>False
def tkV(P:bz)(ops:Array Oper)(l:List ak)(hs:List It)(o:Oper)(sc:List Nat)(q:Prop)(K:List Nat→Prop→List ak→Prop):Prop:=match o with
 | ⟨some d,op,_,_,_,g⟩=>Sg ops l g (Ha P l hs [] true op sc fun vc v sc _=>K sc (vc∧q) (l.set d v)) (K sc q (l.set d undef))
 | _=>False
def onV(P:bz)(ops:Array Oper)(l:List ak)(is:List It)(bs:List Bool)(o:Oper)(sc:List Nat)(q:Prop)(K:List Nat→Prop→List ak→List It→List Bool→Prop):Prop:=match o with
 | ⟨some d,op,_,_,_,g⟩=>Sg ops l g (Ha P l is [] false op sc fun vc v sc is'=>K sc (vc∧q) (l.set d v) is' (Yq op bs)) (K sc q (l.set d undef) is bs)
 | ⟨none,op,_,_,_,g⟩=>Sg ops l g (Tj bs (sc.headD 0) (stV P l is false op sc fun vc _ sc is'=>K sc (vc∧q) l is' bs)) (K sc q l is bs)
def VT(P:bz)(ops:Array Oper)(hs:List It)(ss:List (List Nat))(K:List ak→List It→Prop):rZ→Prop→List ak→List It→List Bool→Prop
 | .nil,q,l,is,_=>q∧K l is
 | .take i t,q,l,is,bs=>Gj ops.toList i fun o=>Ed ss i fun sc=>tkV P ops l hs o sc q fun _ q l=>VT P ops hs ss K t q l is bs
 | .one i t,q,l,is,bs=>Gj ops.toList i fun o=>Ed ss i fun sc=>onV P ops l is bs o sc q fun _ q l is bs=>VT P ops hs ss K t q l is bs
 | .two i t j u,q,l,is,bs=>(Gj ops.toList i fun o=>Ed ss i fun sc=>onV P ops l is bs o sc q fun _ q l is bs=>VT P ops hs ss K t q l is bs)∧Gj ops.toList j fun o=>Ed ss j fun sc=>onV P ops l is bs o sc q fun _ q l is bs=>VT P ops hs ss K u q l is bs
 | .three i t j u k v,q,l,is,bs=>(Gj ops.toList i fun o=>Ed ss i fun sc=>onV P ops l is bs o sc q fun _ q l is bs=>VT P ops hs ss K t q l is bs)∧(Gj ops.toList j fun o=>Ed ss j fun sc=>onV P ops l is bs o sc q fun _ q l is bs=>VT P ops hs ss K u q l is bs)∧Gj ops.toList k fun o=>Ed ss k fun sc=>onV P ops l is bs o sc q fun _ q l is bs=>VT P ops hs ss K v q l is bs
theorem xI:∀{ops:List Oper} {i:Nat} {f:Oper→Prop},Gj ops i f→∃o,ops[i]? = some o∧f o
 | o::_,0,_,h=>⟨o,rfl,h⟩
 | _::r,n+1,_,h=>by rw[jc];exact xI (ops:=r) h
theorem aaP:∀{bs:List Bool} {k:Nat} {p:Prop},Tj bs k p→bs[k]? = some false∧p
 | false::_,0,_,h=>⟨rfl,h⟩
 | true::_,0,_,h=>h.elim
 | false::bs,n+1,_,h=>by rw[jc];exact aaP (bs:=bs) h
 | true::bs,n+1,_,h=>by rw[jc];exact aaP (bs:=bs) h
 | [],0,_,h=>h.elim
 | [],_+1,_,h=>h.elim
theorem Tk:∀{bs:List Bool} {is:List It} {k:Nat} {i:It},bs[k]? = some false→rG bs (is.set k i)=rG bs is
 | false::bs,_::is,0,_,_=>rfl
 | true::bs,_::is,0,_,h=>by cases h
 | true::bs,j::is,k+1,i,h=>by
  rw[gl];show j::rG bs (is.set k i)=j::rG bs is
  rw[Tk (by simpa using h)]
 | false::bs,j::is,k+1,i,h=>by
  rw[gl];show rG bs (is.set k i)=rG bs is
  exact Tk (by simpa using h)
 | _,[],k,i,_=>by rw[List.set_nil]
 | [],_::_,_,_,h=>by cases h
section
variable {P:bz} {w0:am} {ds:List dl} {ops:Array Oper} {hs:List It} {K:List ak→List It→Prop} {Q:Exit→Act→am→Prop}
theorem aqA{p:Prop}(h:n=m+1)(hp:p):vnX n p:=by subst h;exact hp
theorem aqB{l:List ak}{is:List It}{sc:List Nat}{K:KV}(h:stV P l is false op sc K):∃i',stV P l is false op sc (fun vc v sc' is'=>is'=is.set (sc.headD 0) i'∧K vc v sc' is'):=by
 unfold stV at h ⊢;split at h
 · rename_i T x y k sc
   obtain⟨z,hz,h⟩:=pX (show Cm _ _ from h);obtain⟨n,hn,h⟩:=aar h;obtain⟨a,hx,h⟩:=Mc h;obtain⟨i,g,hi,hb,h⟩:=ad7 h;refine⟨bI g.1 (bQ g.2.1 a.off (ev l y).cells.toList) g.2.2,?_⟩;refine (show Cm (sS P T) _ from ?_);rw[hz];refine (show vnX z.2 _ from aqA hn ?_);rw[hx];refine (show atM is k _ from ?_);have key:∀{is:List It} {k:Nat} {f:Ob→Prop},is[k]? = some i→f g→atM is k f:=by
    intro is
    induction is with
    | nil=>intro k f h;cases h
    | cons j is ih =>
     intro k f h hf;cases k with
     | zero=>cases h;show Cm i.bk f;rw[hb];exact hf
     | succ k=>exact ih (by simpa using h) hf
   exact key hi ⟨O,h⟩
 · exact h.elim
theorem aqC{l:List ak}{is:List It}{os:List Ob}{sc:List Nat}{K:KV}(h:Ha P l is os false op sc K):(∃cs T,(∀g,K True (.pointer (some ⟨g,0,none⟩)) sc (bI g cs T::is))∧Bx P l is w0 ds op cs T∧∀bs,Yq op bs=false::bs)∨(Ha P l is os true op sc K∧∀bs,Yq op bs=bs):=by
 cases op
 case box T x=>exact .inl ⟨_,_,h,fun d ty pos af ops Q rest w m hk=>aff (by simp) fun u g e hg hB=>hk g u e (m.newB e hg hB),fun _=>rfl⟩
 case alloc T =>
  obtain⟨cs,hz,h⟩:=pX (show Cm _ _ from h);obtain⟨z,h1,h2⟩:=aap hz;exact .inl ⟨_,_,h,fun d ty pos af ops Q rest w m hk=>Ab h1 h2 fun u g e hg hB=>hk g u e (m.newB e hg hB),fun _=>rfl⟩
 case unOp u T x=>cases u <;> exact .inr ⟨h,fun _=>rfl⟩
 all_goals exact .inr ⟨h,fun _=>rfl⟩
theorem Mq{l:List ak}{is:List It}{bs:List Bool}{o:Oper}{i:Nat}{t:rZ}{sc:List Nat}{q:Prop}{G:List Nat→Prop→List ak→List It→List Bool→Prop}(hsel:rG bs is=hs)(ho:ops.toList[i]? = some o)(h:onV P ops l is bs o sc q G)
 (ih:∀sc q l is bs,rG bs is=hs→G sc q l is bs→q∧∀w,Mem w0 w is→cD P ops (fun u=>Mem w0 u hs) Q t (Fr l ds) w) :
 q∧∀w,Mem w0 w is→au P ops (Exit.then (fun a w=>Mem w0 w hs∧cD P ops (fun u=>Mem w0 u hs) Q t a w) Q) [(ops[i]?).getD default] (Fr l ds) w:=by
 have ho':(ops[i]?).getD default=o:=by
  rw[←fv,ho];rfl
 rw[ho'];have stay:∀{bs':List Bool} {is':List It} {w:am},rG bs' is'=hs→Mem w0 w is'→Mem w0 w hs:=fun e m=>e▸m.sel _;obtain⟨d,op,ty,pos,af,g⟩:=o;cases d with
 | some d =>
  rcases Md (show Sg _ _ _ _ _ from h) with ⟨h,hw⟩ | ⟨h,hw⟩
  · rcases aqC (w0:=w0) (ds:=ds) h with ⟨cs,T,h,hb,hn⟩ | ⟨h,hn⟩
    · rw[hn] at h
      have e:∀g,rG (false::bs) (bI g cs T::is)=hs:=fun _=>hsel;exact⟨(ih _ _ _ _ _ (e 0) (h 0)).1.2,fun w m=>qL (hw _ _ _ _ _) (hb d ty pos af ops _ [] w m fun g u _ mu=>aI ⟨stay (e g) mu,(ih _ _ _ _ _ (e g) (h g)).2 u mu⟩)⟩
    · rcases aat (ds:=ds) ab6 h with ⟨vc,v,sc',h,hy⟩ | ⟨e,_⟩
      · rw[hn] at h
        obtain⟨⟨hv,hq⟩,hk⟩:=ih _ _ _ _ _ hsel h;exact⟨hq,fun w m=>qL (hw _ _ _ _ _) (eD (hy hv w m ty) (aI ⟨stay hsel m,hk w m⟩))⟩
      · cases e
  · obtain⟨hq,hk⟩:=ih _ _ _ _ _ hsel h
    exact⟨hq,fun w m=>xB (hw _ _ _ _ _) (by rw[gY];exact aI ⟨stay hsel m,hk w m⟩)⟩
 | none =>
  rcases Md (show Sg _ _ _ _ _ from h) with ⟨h,hw⟩ | ⟨h,hw⟩
  · obtain⟨hb,h⟩:=aaP h
    obtain⟨i',h⟩:=aqB h;obtain⟨_,vc,sc',is',⟨rfl,h⟩,hy⟩:=aj6 (w0:=w0) (ds:=ds) h;have e:=(Tk (i:=i') (is:=is) hb).trans hsel;obtain⟨⟨hv,hq⟩,hk⟩:=ih _ _ _ _ _ e h;exact⟨hq,fun w m=>qL (hw _ _ _ _ _) (hy hv ty pos af ops _ [] w m fun u mu=>aI ⟨stay e mu,hk u mu⟩)⟩
  · obtain⟨hq,hk⟩:=ih _ _ _ _ _ hsel h
    exact⟨hq,fun w m=>xB (hw _ _ _ _ _) (aI ⟨stay hsel m,hk w m⟩)⟩
theorem Kd{ss:List (List Nat)}(hK:∀l is,K l is→∀w,Mem w0 w is→Q .normal (Fr l ds) w):∀(t:rZ) (q:Prop) (l:List ak) (is:List It) (bs:List Bool),rG bs is=hs→VT P ops hs ss K t q l is bs→q∧∀w,Mem w0 w is→cD P ops (fun u=>Mem w0 u hs) Q t (Fr l ds) w
 | .nil,q,l,is,bs,_,h=>⟨h.1,fun w m=>hK _ _ h.2 w m⟩
 | .take i t,q,l,is,bs,hsel,h=>by
  obtain⟨⟨d,op,ty,pos,af,g⟩,ho,h⟩:=xI h;obtain⟨sc,h⟩:=xH h;have ho':(ops[i]?).getD default=⟨d,op,ty,pos,af,g⟩:=by
   rw[←fv,ho];rfl
  cases d with
  | none=>exact h.elim
  | some d =>
   rcases Md (show Sg _ _ _ _ _ from h) with ⟨h,hw⟩ | ⟨h,hw⟩
   · rcases aat (w0:=w0) (ds:=ds) ab6 h with ⟨vc,v,sc',h,hy⟩ | ⟨e,_⟩
     · obtain⟨⟨hv,hq⟩,hk⟩:=Kd hK t _ _ _ _ hsel h
       refine⟨hq,fun w m=>fD ho' ?_⟩;refine⟨v,.inl ⟨hw _ _ _ _ _,fun u mu=>hy hv u mu ty _ O O⟩,?_⟩;show cD P ops _ Q t ((Fr l ds).put (some d) v) w
       rw[gY];exact hk w m
     · cases e
   · obtain⟨hq,hk⟩:=Kd hK t _ _ _ _ hsel h
     refine⟨hq,fun w m=>fD ho' ?_⟩;refine⟨undef,.inr ⟨hw _ _ _ _ _,O⟩,?_⟩;show cD P ops _ Q t ((Fr l ds).put (some d) undef) w
     rw[gY];exact hk w m
 | .one i t,q,l,is,bs,hsel,h=>by
  obtain⟨o,ho,h⟩:=xI h;obtain⟨sc,h⟩:=xH h;exact Mq hsel ho h fun sc q l is bs e h=>Kd hK t q l is bs e h
 | .two i t j u,q,l,is,bs,hsel,h=>by
  obtain⟨h1,h2⟩:=h;obtain⟨o,ho,h1⟩:=xI h1;obtain⟨_,h1⟩:=xH h1;obtain⟨o2,ho2,h2⟩:=xI h2;obtain⟨_,h2⟩:=xH h2;have r1:=Mq (Q:=Q) (t:=t) hsel ho h1 fun sc q l is bs e h=>Kd hK t q l is bs e h;have r2:=Mq (Q:=Q) (t:=u) hsel ho2 h2 fun sc q l is bs e h=>Kd hK u q l is bs e h;exact⟨r1.1,fun w m=>⟨r1.2 w m,r2.2 w m⟩⟩
 | .three i t j u k v,q,l,is,bs,hsel,h=>by
  obtain⟨h1,h2,h3⟩:=h;obtain⟨o,ho,h1⟩:=xI h1;obtain⟨_,h1⟩:=xH h1;obtain⟨o2,ho2,h2⟩:=xI h2;obtain⟨_,h2⟩:=xH h2;obtain⟨o3,ho3,h3⟩:=xI h3;obtain⟨_,h3⟩:=xH h3;have r1:=Mq (Q:=Q) (t:=t) hsel ho h1 fun sc q l is bs e h=>Kd hK t q l is bs e h;have r2:=Mq (Q:=Q) (t:=u) hsel ho2 h2 fun sc q l is bs e h=>Kd hK u q l is bs e h;have r3:=Mq (Q:=Q) (t:=v) hsel ho3 h3 fun sc q l is bs e h=>Kd hK v q l is bs e h;exact⟨r1.1,fun w m=>⟨r1.2 w m,r2.2 w m,r3.2 w m⟩⟩
end
theorem zvt{P:bz}{w0 w:am}{ds:List dl}{s:List Ko}{R:Exit→Act→am→Prop}{is:List It}{id:Nat}{l0:List ak}{l:List Oper}(bs:List Bool)(ss:List (List Nat))(t:rZ)(m:Mem w0 w is)(hm:P.follows .mixedOrders=true)(hB:(Region.noSelect l.toArray&&t.ok .any l.toArray l.toArray.size (Array.replicate l.toArray.size false))=true)
 (hQ:∀c d v a w,Ct P R s (.panic c) (Act.put a d v) w→Ct P R s (.panic c) a w)
 (h:VT P l.toArray (rG bs is) ss (fun l is=>∀w,Mem w0 w is→Ct P R s .normal (Fz l ds) w) t True l0 is bs):(Code.region id l.toArray true).wp P (Ct P R s) (Fr l0 ds) w :=
 Xh m bs t hm hB hQ fun _ mu=>(Kd (fun _ _ h=>h) t True l0 is bs rfl h).2 _ mu
theorem eO{ops i i' f}(h:i=i'):Gj ops i f=Gj ops i' f:=by rw[h]
theorem eP{ss i i' f}(h:i=i'):Ed ss i f=Ed ss i' f:=by rw[h]
theorem eQ{bs bs' k p}(h:bs=bs'):Tj bs k p=Tj bs' k p:=by rw[h]
theorem gQ{P ops l l' hs o sc q K}(h:l=l'):tkV P ops l hs o sc q K=tkV P ops l' hs o sc q K:=by rw[h]
theorem gR{P ops l l' is bs o sc q K}(h:l=l'):onV P ops l is bs o sc q K=onV P ops l' is bs o sc q K:=by rw[h]
theorem jU{P ops hs ss K t q l l' is bs}(h:l=l'):VT P ops hs ss K t q l is bs=VT P ops hs ss K t q l' is bs:=by rw[h]
theorem aqD{b:Bool}{bs:List Bool}{p:Prop}:Tj (b::bs) (n+1) p=Tj bs n p:=by cases b <;> rfl
theorem zzu:(∀o r f,Gj (o::r) 0 f=f o)∧(∀o r n f,Gj (o::r) (n+1) f=Gj r n f)
 ∧ (∀s r f,Ed (s::r) 0 f=f s)∧(∀s r n f,Ed (s::r) (n+1) f=Ed r n f)∧(∀n f,Ed [] n f=f [])
 ∧ (∀T x bs,Yq (.box T x) bs=false::bs)∧(∀T bs,Yq (.alloc T) bs=false::bs)∧(∀x bs,Yq (.move x) bs=bs)∧(∀x bs,Yq (.assign x) bs=bs)∧(∀x bs,Yq (.nilCheck x) bs=bs)∧(∀a b c bs,Yq (.pick a b c) bs=bs)∧(∀a b c d e bs,Yq (.binOp a b c d e) bs=bs)∧(∀a b c bs,Yq (.unOp a b c) bs=bs)∧(∀a b c bs,Yq (.convert a b c) bs=bs)∧(∀a b c bs,Yq (.fieldAddr a b c) bs=bs)∧(∀a b c bs,Yq (.field a b c) bs=bs)∧(∀a b c bs,Yq (.indexAddr a b c) bs=bs)∧(∀a b bs,Yq (.build a b) bs=bs)∧(∀a b bs,Yq (.extract a b) bs=bs)∧(∀a b bs,Yq (.load a b) bs=bs)∧(∀a bs,Yq (.call a) bs=bs)
 ∧ (∀bs p,Tj (false::bs) 0 p=p)∧(∀b bs n p,Tj (b::bs) (n+1) p=Tj bs n p)∧(∀(k:Nat) sc,List.headD (k::sc) 0=k)
 ∧ (∀P ops l hs d op ty pos af g sc q K,tkV P ops l hs ⟨some d,op,ty,pos,af,g⟩ sc q K=Sg ops l g (Ha P l hs [] true op sc fun vc v sc _=>K sc (vc∧q) (l.set d v)) (K sc q (l.set d undef)))
 ∧ (∀P ops l is bs d op ty pos af g sc q K,onV P ops l is bs ⟨some d,op,ty,pos,af,g⟩ sc q K=Sg ops l g (Ha P l is [] false op sc fun vc v sc is'=>K sc (vc∧q) (l.set d v) is' (Yq op bs)) (K sc q (l.set d undef) is bs))
 ∧ (∀P ops l is bs op ty pos af g k sc q K,onV P ops l is bs ⟨none,op,ty,pos,af,g⟩ (k::sc) q K=Sg ops l g (Tj bs k (stV P l is false op (k::sc) fun vc _ sc is'=>K sc (vc∧q) l is' bs)) (K (k::sc) q l is bs))
 ∧ (∀P ops hs ss K q l is bs,VT P ops hs ss K .nil q l is bs=(q∧K l is))
 ∧ (∀P ol hs ss K i t q l is bs,VT P (jw ol) hs ss K (.take i t) q l is bs=Gj ol i fun o=>Ed ss i fun sc=>tkV P ol.toArray l hs o sc q fun _ q l=>VT P ol.toArray hs ss K t q l is bs)
 ∧ (∀P ol hs ss K i t q l is bs,VT P (jw ol) hs ss K (.one i t) q l is bs=Gj ol i fun o=>Ed ss i fun sc=>onV P ol.toArray l is bs o sc q fun _ q l is bs=>VT P ol.toArray hs ss K t q l is bs)
 ∧ (∀P ol hs ss K i t j u q l is bs,VT P (jw ol) hs ss K (.two i t j u) q l is bs=(VT P ol.toArray hs ss K (.one i t) q l is bs∧VT P ol.toArray hs ss K (.one j u) q l is bs))
 ∧ (∀P ol hs ss K i t j u k v q l is bs,VT P (jw ol) hs ss K (.three i t j u k v) q l is bs=(VT P ol.toArray hs ss K (.one i t) q l is bs∧VT P ol.toArray hs ss K (.one j u) q l is bs∧VT P ol.toArray hs ss K (.one k v) q l is bs))
 ∧ (∀p:Prop,(p∧p)=p)∧(∀p q r:Prop,((p∧r)∧(q∧r))=((p∧q)∧r)):=by
 repeat' apply And.intro
 all_goals intros
 all_goals first | rfl | exact aqD | exact and_self _ | exact propext ⟨fun h=>⟨⟨h.1.1,h.2.1⟩,h.1.2⟩,fun h=>⟨⟨h.1.1,h.2⟩,h.1.2,h.2⟩⟩
end Go.Lith
