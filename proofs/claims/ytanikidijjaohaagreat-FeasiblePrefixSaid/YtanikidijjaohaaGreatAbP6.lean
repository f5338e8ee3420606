import Derived.Test.YtanikidijjaohaaGreatAbP5
import Derived.Lib.SliceRun
import Derived.Laws.IdiomStrings
set_option linter.unusedVariables false
namespace Go.Ab
open Go.RowKit (Below)
section
variable {R:Type} {E:Env}
variable{t:TypeId}
theorem Gk{P:Program}{w:World}{ms:Array (String×TypeId)}(hu:P.underlying t=some (.interface ms)){b:Bool}{x:Value}{μ:Ro}(hx:af P μ (.WC b) x):(Op.equalIn 10000 t x .nilIface).run P w=.ok (!b) w:=by show(Op.equalIn (9999+1) t x .nilIface).run P w=.ok (!b) w;cases hx<;>(unfold Op.equalIn;simp only[Sem.run_bind,run_underlying hu,Result.andThen_ok];rfl)
theorem BS{P:Program}{w:World}{op:BinOp}{ox:Operand}{c:Value}{b:Bool}{x:Value}{μ:Ro}(hx:af P μ (.WC b) x):(eqGuard op t ox (.const c) x .nilIface).run P w=.ok () w:=by
 cases hx
 ·rw[eqGuard_nil_constR];rfl
 ·rename_i d z;have:eqGuard op t ox (.const c) (.iface d z) .nilIface=pure ():=by cases op<;>rfl
  rw[this];rfl
theorem Uk{op:BinOp}{oy:Operand}{a b:V}{k:PV→Option R}{r:R}(h:I7 E op t oy a b k=some r):∃q,(∀(R':Type)(k':PV→Option R'),I7 E op t oy a b k'=k' q)∧k q=some r∧∀(μ:Ro)(φ:Nat→aA)(w:World)(ox:Operand)(x y:Value),(CZ oy=true→y=.nilIface)→ae E.P μ φ a x→ae E.P μ φ b y→∃z,(sl op t ox oy x y).run E.P w=.ok z w∧af E.P μ q z:=by
 unfold I7 at h⊢;cases hn:CZ oy with
 |false=>rw[hn]at h;obtain⟨q,q1,q2,q3⟩:=Xa h;exact⟨q,fun R' k'=>q1 R' k',q2,fun μ φ w ox x y _ hx hy=>q3 μ φ w ox oy x y hx hy⟩
 |true=>
  rw[hn]at h;simp only[cond]at h⊢;have hoy:oy=.const .nilIface:=by
   unfold CZ at hn;split at hn
   ·rfl
   ·cases hn
  subst hoy;unfold Tw at h⊢;split at h
  ·rename_i c;split at h
   ·rename_i ms hu;refine⟨_,fun R' k'=>by simp only[hu],h,fun μ φ w ox x y hy hx _=>?_⟩;have:=hy trivial;subst this;cases hx with
    |pv hx=>exact⟨_,bU (BS hx) (iL (by cases hx<;>rfl) (Gk hu hx)),.bool⟩
   ·rename_i ms hu;refine⟨_,fun R' k'=>by simp only[hu],h,fun μ φ w ox x y hy hx _=>?_⟩;have:=hy trivial;subst this;cases hx with
    |pv hx=>refine⟨_,bU (BS hx) (iM (by cases hx<;>rfl) (Gk hu hx)),?_⟩;rw[Bool.not_not];exact .bool
   ·cases h
  ·cases h
theorem Gl{P:Program}{μ:Ro}:∀{es:List PV}{b:Bytes}{xs:List Value},As es=some b→Cells P μ 1 es xs→b.length=es.length∧xs=b.map fun c=>.int .u8 (c.toNat:Int)
 |[],b,xs,h,hC=>by simp only[As,Option.some.injEq]at h;subst h;have:=hC.len;simp only[List.length_nil,Nat.zero_mul]at this;exact⟨rfl,by rw[List.length_eq_zero_iff.1 this];rfl⟩
 |e::es,b,xs,h,hC=>by
  unfold As at h;split at h
  ·rename_i he;cases he
  ·rename_i n r he;simp only[List.cons.injEq]at he;obtain⟨rfl,rfl⟩:=he;obtain⟨b',gB,rfl⟩:=Option.map_eq_some_iff.1 h;cases xs with
   |nil=>have:=hC.len;simp at this
   |cons x xs=>
    have hx:x=.int .u8 n∧(Lit.int .u8 n).wf=true:=by
     have:=hC.rep 0 _ 0 _ x rfl rfl rfl;cases this with
     |int hw=>exact⟨rfl,hw⟩
    obtain⟨rfl,hw⟩:=hx;have hC':Cells P μ 1 es xs:=⟨by have:=hC.len;simp at this⊢;omega,fun i e hi=>hC.each (i+1) e (by simpa using hi),fun i e j p y hi hj hy=>hC.rep (i+1) e j p y (by simpa using hi) hj (by rw[show(i+1)*1+j=(i*1+j)+1 by omega];simpa using hy),fun i y hy=>hC.one (i+1) y (by simpa using hy)⟩;obtain⟨h1,h2⟩:=Gl gB hC';refine⟨by simp[h1],?_⟩;rw[List.map_cons,←h2];rw[nX]at hw;have h0:0≤n∧n≤255:=by simpa[IntKind.min,IntKind.max,IntKind.signed,IntKind.bits]using hw
    have:((UInt8.ofNat n.toNat).toNat:Int)=n:=by rw[UInt8.toNat_ofNat'];omega
    rw[this]
  ·cases h
theorem RW{s d:TypeId}{a:V}{m:Mem}{k:PV→bk→Option R}{r:R}(h:Au E s d a m k=some r):∃q ft,(∀m2:Mem,(∀x∈ft,m2 x.2=m x.2)→∀(R':Type)(k':PV→bk→Option R'),Au E s d a m2 k'=k' q ft)∧k q ft=some r∧(∀x∈ft,x.1=false)∧∀(G:Nat→Option (List PV))(w0:br)(μ:Ro)(φ:Nat→aA)(w:World)(x:Value),av E.P G w0 μ φ m w→ae E.P μ φ a x→∃z,(convert s d x).run E.P w=.ok z w∧af E.P μ q z:=by
 unfold Au at h;split at h
 ·rename_i e hs hd;split at h
  ·rename_i es ft hu AG;obtain⟨b,hb,hk⟩:=Option.bind_eq_some_iff.1 h;obtain⟨e1,e2,e3⟩:=nA AG;refine⟨.str b,ft,fun m2 cq R' k'=>by unfold Au;simp only[hs,hd,hu,e1 m2 cq,hb,Option.bind_some],hk,e2,fun G w0 μ φ w x hM hx=>?_⟩;have yj:=e3 _ _ _ _ _ _ _ hM hx;cases yj with
   |none he=>subst he;simp only[As,Option.some.injEq]at hb;subst hb;exact⟨_,by simp[convert,run_underlying hs,run_underlying hd,run_underlying hu,Conv.bytesToString];rfl,.str (by simp[maxLen])⟩
   | @some a c xs hC hc hl hm=>obtain⟨h1,h2⟩:=Gl hb hC;subst h2;rw[←h1];refine⟨_,run_convert_bytes_back w s d e a c b hs hu hd fun j hj=>hc j _ (by simp[List.getElem?_eq_getElem hj]),.str (by omega)⟩
  ·cases h
 ·rename_i AM;obtain⟨q,q1,q2,q3⟩:=TO h;refine⟨q,[],fun m2 _ R' k'=>?_,q2,by simp,fun G w0 μ φ w x _ hx=>q3 μ φ w x hx⟩;unfold Au;split
  ·rename_i e hs hd;exact absurd hd (AM e hs)
  ·exact q1 R' _
end
structure uf(E:Env)(draw:Bool)(site:Nat)(o:Oper)(f:Fr)(m:Mem)(v:V)(f':Fr)(m':Mem)(ft:bk):Prop where
 drawn:draw=true→f'=f∧∃wr:List (Nat×bE),m'=sN wr m∧(∀x∈wr,(true,x.1)∈ft)∧∀(f2:Fr)(m2:Mem),(∀x∈o.op.operands,bw E f2 x=bw E f x)→(∀x∈ft,m2 x.2=m x.2)→∀(R':Type)(k':V→Fr→Mem→bk→Option R'),cJ E true site o f2 m2 k'=k' v f2 (sN wr m2) ft
 same:ff o=true→(∀x∈ft,x.1=false)→f'=f∧m'=m
 sound:∀(w0:br)(μ:Ro)(φ:Nat→aA)(a:Act)(w:World)(K:Act→World→Prop)(Q:Exit→Act→World→Prop),Rel E.P E.aD E.fn.ntmps w0 μ φ f m a w→(∀y w' μ' φ',av E.P E.aD w0 μ' φ' m' w'→bZ E.P μ' φ' m' f' (az E.fn.ntmps w0 a)→ae E.P μ' φ' v y→(∀id,v.has id=true→(m' id).isSome=true)→K (a.put o.dst y) w')→o.wp E.P a w K Q
def FR(rd:Option Nat):Fence:={Fence.wide with round:=rd}
variable{rd:Option Nat}{P:Program}
theorem FR.Xq{m m':Machine}:StepsIn (Machine.fenced P (FR rd)) P m m'↔Steps P m m':=stepsIn_wide (P:=P)
variable{args:Array Value}{w:World}{R:Ending→World→Prop}
theorem FR.Qg{n:Nat}{f:FuncId}(h:Calls P f args w R):CallsIn (FR rd) n P f args w R:=(callsIn_wide (n:=n)).2 h
theorem FR.aai{n:Nat}{row:String}{R:Value→World→Prop}(h:Rows P row args w R):RowsIn (FR rd) n P row args w R:=fun c cs _=>let⟨v,w',r,s⟩:=h c cs;⟨v,w',r,FR.Xq.2 s⟩
theorem FR.Xr{n n':Nat}{l:Nat}{f:FuncId}{tmps:Array Value}{assign body:Code}(h:RoundIn Fence.wide n P l f tmps assign body w R):RoundIn (FR rd) n' P l f tmps assign body w R:=⟨trivial,fun c cs _=>h.2 c cs (room_wide _)⟩
theorem AN{o:Oper}{a:Act}{K:Act→World→Prop}{Q:Exit→Act→World→Prop}(hd:∀c,o.op≠.defer c)(h:o.wp P a w K Q):o.wpIn (FR rd) 0 P a w K Q:=by
 refine⟨fun _ _=>trivial,?_⟩;rw[Oper.semAt_eq _ _ _ hd];unfold Oper.wp at h;cases hr:(execOp a.eval o).run P w with
 |ok nx w'=>
  rw[hr]at h;cases nx with
  |value v=>exact h
  |skip=>exact h
  |defer d=>exact h
  |enter f args=>exact⟨fun h=>(by cases h),FR.Qg h⟩
  |row row args=>exact⟨fun h=>(by cases h),FR.aai h⟩
  |_=>exact h.elim
 |halt h' w'=>
  rw[hr]at h;cases h' with
  |panic v=>exact h
  |_=>exact h.elim
def DQ{R:Type}(E:Env)(o:Oper)(f:Fr)(m:Mem)(k:V→Fr→Mem→bk→Option R)(r:R):Prop:=
 (∀c x y,o.op≠.pick c x y)∧
 ∀(rd:Option Nat)(w0:br)(μ:Ro)(φ:Nat→aA)(a:Act)(w:World)(K:Act→World→Prop)(Q:Exit→Act→World→Prop),sV E.P E.aD E.fn.ntmps E.yl w0→Rel E.P E.aD E.fn.ntmps w0 μ φ f m a w→(∀v f' m' y w' μ' φ',k v f' m' [(true,0)]=some r→av E.P E.aD w0 μ' φ' m' w'→bZ E.P μ' φ' m' f' (az E.fn.ntmps w0 a)→ae E.P μ' φ' v y→(∀id,v.has id=true→(m' id).isSome=true)→K (a.put o.dst y) w')→o.wpIn (FR rd) 0 E.P a w K Q
section
variable {R:Type} {E:Env}
variable{w0:br}{μ:Ro}{φ:Nat→aA}{f:Fr}{m:Mem}{a:Act}{w:World}
theorem Rel.kz(h:Rel E.P E.aD E.fn.ntmps w0 μ φ f m a w):bZ E.P μ φ m f (az E.fn.ntmps w0 a):=⟨h.fr,h.live⟩
variable{P:Program}{o:Oper}{K:Act→World→Prop}{Q:Exit→Act→World→Prop}
theorem fK{w':World}{y:Value}(hr:(execOp a.eval o).run P w=.ok (.value y) w')(h:K (a.put o.dst y) w'):o.wp P a w K Q:=by unfold Oper.wp;rw[hr];exact h
theorem vI{w':World}(hr:(execOp a.eval o).run P w=.ok .skip w')(h:K (a.put o.dst undef) w'):o.wp P a w K Q:=by unfold Oper.wp;rw[hr];exact h
variable{draw:Bool}{site:Nat}{v:V}
theorem uf.read{ft:bk}(nat:∀(f2:Fr)(m2:Mem),(∀x∈o.op.operands,bw E f2 x=bw E f x)→(∀x∈ft,m2 x.2=m x.2)→∀(R':Type)(k':V→Fr→Mem→bk→Option R'),cJ E true site o f2 m2 k'=k' v f2 m2 ft)(hs:∀(w0:br)(μ:Ro)(φ:Nat→aA)(a:Act)(w:World),Rel E.P E.aD E.fn.ntmps w0 μ φ f m a w→∃y,(execOp a.eval o).run E.P w=.ok (.value y) w∧ae E.P μ φ v y∧∀id,v.has id=true→(m id).isSome=true):uf E draw site o f m v f m ft:=by refine⟨fun _=>⟨rfl,[],rfl,by simp,nat⟩,fun _ _=>⟨rfl,rfl⟩,fun w0 μ φ a w K Q hR hK=>?_⟩;obtain⟨y,hr,hy,hl⟩:=hs w0 μ φ a w hR;exact fK hr (hK y w μ φ hR.toav hR.kz hy hl)
variable{m':Mem}
theorem uf.make{f':Fr}{b:bE}(hd:draw=true→m site=none∧f'=f∧m'=ak m site b)(nat:draw=true→∀(f2:Fr)(m2:Mem),(∀x∈o.op.operands,bw E f2 x=bw E f x)→m2 site=none→∀(R':Type)(k':V→Fr→Mem→bk→Option R'),cJ E true site o f2 m2 k'=k' v f2 (ak m2 site b) [(true,site)])(hs:∀(w0:br)(μ:Ro)(φ:Nat→aA)(a:Act)(w:World),Rel E.P E.aD E.fn.ntmps w0 μ φ f m a w→∃y w' μ' φ',(execOp a.eval o).run E.P w=.ok (.value y) w'∧av E.P E.aD w0 μ' φ' m' w'∧bZ E.P μ' φ' m' f' (az E.fn.ntmps w0 a)∧ae E.P μ' φ' v y∧∀id,v.has id=true→(m' id).isSome=true):uf E draw site o f m v f' m' [(true,site)]:=by
 refine⟨fun h=>?_,fun _ h=>by(have:=h (true,site) (by simp);cases this),fun w0 μ φ a w K Q hR hK=>?_⟩
 ·obtain⟨h1,h2,h3⟩:=hd h;exact⟨h2,[(site,b)],h3,by simp,fun f2 m2 hf hm R' k'=>nat h f2 m2 hf (by rw[hm (true,site) (by simp)];exact h1) R' k'⟩
 ·obtain⟨y,w',μ',φ',hr,h1,h2,h3,h4⟩:=hs w0 μ φ a w hR;exact fK hr (hK y w' μ' φ' h1 h2 h3 h4)
variable{args:Array Operand}
theorem kT(h:Rel E.P E.aD E.fn.ntmps w0 μ φ f m a w):(args.toList.map (bw E f)).length=(args.map a.eval).size∧∀(i:Nat)v x,(args.toList.map (bw E f))[i]?=some v→(args.map a.eval)[i]?=some x→ae E.P μ φ v x:=by refine⟨by simp,fun i v x hv hx=>?_⟩;simp only[List.getElem?_map,Option.map_eq_some_iff]at hv;obtain⟨o,ho,rfl⟩:=hv;rw[Array.getElem?_map,←Array.getElem?_toList,ho]at hx;simp only[Option.map_some,Option.some.injEq]at hx;subst hx;exact(aj h o).1
theorem pV(h:Rel E.P E.aD E.fn.ntmps w0 μ φ f m a w){args:List Operand}{id:Nat}(hid:cm id (args.map (bw E f))=true):(m id).isSome=true:=by obtain⟨v,hv,hh⟩:=cL.1 hid;obtain⟨o,_,rfl⟩:=List.mem_map.1 hv;exact(aj h o).2 id hh
theorem ob{f2:Fr}{l:List Operand}(h:∀x∈l,bw E f2 x=bw E f x):l.map (bw E f2)=l.map (bw E f):=List.map_congr_left h
theorem rX{f2:Fr}{l:List (Nat×Operand)}(h:∀x∈l,bw E f2 x.2=bw E f x.2):(l.map fun(x:Nat×Operand)=>(x.1,bw E f2 x.2))=l.map fun(x:Nat×Operand)=>(x.1,bw E f x.2):=List.map_congr_left fun x hx=>by rw[h x hx]
variable{g:FuncId}
theorem wV{fn:Func}{c:Code}(hf:P.funcs[g]?=some fn)(Ul:(fn.name== "runtime.NumGoroutine")=false)(hb:fn.body=some c){args:Array Value}:(callFunc g args).run P w=.ok (.enter g args) w:=by
 have h1:fn.name≠ "runtime.NumGoroutine" :=by simpa using Ul
 simp[callFunc,hf,h1,hb]
theorem qC{b:Bool}{x:Value}(h:ae P μ φ (.pv (.bool b)) x):x=.bool b:=by cases h with|pv h=>cases h;rfl
theorem Um{p:PV}(h:CY cW v=some (p,m'))(m:Mem):CY m v=some (p,m):=by
 unfold CY at h⊢;split at h
 ·simp only[Option.some.injEq,Prod.mk.injEq]at h;rw[h.1]
 ·simp only[Option.some.injEq,Prod.mk.injEq]at h;rw[h.1]
 ·simp[cW]at h
 ·cases h
theorem AO:∀{cs:List V}{ps:List PV}{m':Mem},lS cW cs=some (ps,m')→∀m:Mem,lS m cs=some (ps,m)
 |[],ps,m',h,m=>by simp only[lS,Option.some.injEq,Prod.mk.injEq]at h;rw[←h.1];rfl
 |c::r,ps,m',h,m=>by
  simp only[lS]at h;split at h
  ·rename_i p m1 h1;have e1:=qx h1;subst e1;split at h
   ·rename_i RC m2 h2;simp only[Option.some.injEq,Prod.mk.injEq]at h;simp only[lS,Um h1 m,AO h2 m,h.1]
   ·cases h
  ·cases h
theorem BT:∀{cs:List V}{ps:List PV}{m':Mem},lS cW cs=some (ps,m')→m'=cW
 |[],ps,m',h=>by simp only[lS,Option.some.injEq,Prod.mk.injEq]at h;exact h.2.symm
 |c::r,ps,m',h=>by
  simp only[lS]at h;split at h
  ·rename_i p m1 h1;have e1:=qx h1;subst e1;split at h
   ·rename_i RC m2 h2;simp only[Option.some.injEq,Prod.mk.injEq]at h;rw[←h.2];exact BT h2
   ·cases h
  ·cases h
theorem JB{n:Nat}{agg:Bool}{p:PV}(h:kq cW n agg v=some (p,m')):m'=cW∧∀m:Mem,kq m n agg v=some (p,m):=by
 unfold kq at h;split at h
 ·rename_i cs hc;split at h
  ·rename_i ps m1 h1;have e1:=BT h1;subst e1;cases agg with
   |true=>simp only[if_true,Option.some.injEq,Prod.mk.injEq]at h;refine⟨h.2.symm,fun m=>?_⟩;unfold kq;simp only[hc,AO h1 m,if_true,h.1]
   |false=>
    simp only[Bool.false_eq_true,if_false]at h;split at h
    ·simp only[Option.some.injEq,Prod.mk.injEq]at h;refine⟨h.2.symm,fun m=>?_⟩;unfold kq;simp only[hc,AO h1 m,Bool.false_eq_true,if_false,h.1]
    ·cases h
  ·cases h
 ·cases h
theorem qD{n:Nat}{agg:Bool}:∀{parts:List (Nat×V)}{i:Nat}{ps:List PV}{m':Mem},ep cW n agg i parts=some (ps,m')→m'=cW∧∀m:Mem,ep m n agg i parts=some (ps,m)
 |[],i,ps,m',h=>by simp only[ep,Option.some.injEq,Prod.mk.injEq]at h;exact⟨h.2.symm,fun m=>by simp only[ep,h.1]⟩
 |(j,v)::r,i,ps,m',h=>by
  simp only[ep]at h;split at h
  ·rename_i Hz;split at h
   ·rename_i p m1 h1;obtain⟨e1,e2⟩:=JB h1;subst e1;split at h
    ·rename_i RC m2 h2;obtain⟨e3,e4⟩:=qD h2;simp only[Option.some.injEq,Prod.mk.injEq]at h;refine⟨by rw[←h.2];exact e3,fun m=>?_⟩;unfold ep;rw[if_pos Hz,e2 m];simp only;rw[e4 m,←h.1]
    ·cases h
   ·cases h
  ·cases h
def zq(g:FuncId)(xs ys:Array Value):Array Value:=bif Nat.blt g Cg then ys++xs else xs++ys
theorem Qh{l1 l2:List V}{x1 x2:Array Value}(e1:l1.length=x1.size)(e2:l2.length=x2.size)(h1:∀(i:Nat)v x,l1[i]?=some v→x1[i]?=some x→ae P μ φ v x)(h2:∀(i:Nat)v x,l2[i]?=some v→x2[i]?=some x→ae P μ φ v x):(l1++l2).length=(x1++x2).size∧∀(i:Nat)v x,(l1++l2)[i]?=some v→(x1++x2)[i]?=some x→ae P μ φ v x:=by
 refine⟨by simp[e1,e2],fun i v x hv hx=>?_⟩;rw[List.getElem?_append]at hv;rw[Array.getElem?_append]at hx;rw[e1]at hv;split at hv
 ·rename_i hi;rw[if_pos hi]at hx;exact h1 i v x hv hx
 ·rename_i hi;rw[if_neg hi]at hx;exact h2 _ v x hv hx
theorem Qi{caps args:List V}{xs ys:Array Value}(e1:args.length=ys.size)(h1:∀(i:Nat)v x,args[i]?=some v→ys[i]?=some x→ae P μ φ v x)(e2:caps.length=xs.size)(h2:∀(i:Nat)v x,caps[i]?=some v→xs[i]?=some x→ae P μ φ v x):(xW g caps args).length=(zq g xs ys).size∧∀(i:Nat)v x,(xW g caps args)[i]?=some v→(zq g xs ys)[i]?=some x→ae P μ φ v x:=by
 unfold xW zq;cases Nat.blt g Cg with
 |true=>exact Qh e1 e2 h1 h2
 |false=>exact Qh e2 e1 h2 h1
theorem Un{caps args:List V}(h:v∈xW g caps args):v∈args∨v∈caps:=by
 unfold xW at h;cases e:Nat.blt g Cg with
 |true=>rw[e]at h;simpa using h
 |false=>rw[e]at h;simp only[cond_false,List.mem_append]at h;exact h.symm
theorem Uo(g:FuncId)(xs:Array Value):zh (g+Cg) xs=.func (.func g) xs #[]:=by unfold zh;rw[if_neg (Nat.not_lt.2 (Nat.le_add_left _ _)),Nat.add_sub_cancel]
theorem ug{site:Nat}:∀{ts:List TypeId}{j:Nat}{F:Fr}{m:Mem}{k:Fr→Mem→Option R}{r:R},wI E site ts j F m k=some r→∃F' m',k F' m'=some r∧∀(G:Nat→Option (List PV))(w0:br)(μ:Ro)(φ:Nat→aA)(w:World)(ρ:Nat→Value),av E.P G w0 μ φ m w→bZ E.P μ φ m F ρ→∃φ',av E.P G w0 μ φ' m' w∧bZ E.P μ φ' m' F' ρ
 |[],j,F,m,k,r,h=>⟨F,m,h,fun G w0 μ φ w ρ hM hF=>⟨φ,hM,hF⟩⟩
 |t::ts,j,F,m,k,r,h=>by
  simp only[wI]at h;split at h
  ·rename_i hj;split at h
   ·rename_i e hu;split at h
    ·rename_i ec;obtain⟨f1,m1,hn,hk,vl,xf,vi⟩:=ei h;obtain⟨F',m',c1,c2⟩:=ug hk;refine⟨F',m',c1,fun G w0 μ φ w ρ hM hF=>?_⟩;obtain⟨φ',a1,a2,a3⟩:=vi E.P G w0 μ φ w w ρ (Ci none 0 0 (aP E.P e)) hM hF ⟨kG.refl _ _,hM.ro,fun _ _ _ _ _=>rfl,by simp,fun φ' hp _=>by refine⟨by rw[hp];rfl,by rw[hp],rfl,ec,by simp,by rw[hp];simp[maxLen],?_⟩;rw[hp];exact⟨rfl,rfl⟩,by simp[bE.names],fun st h=>by cases h⟩;have hv:ρ j=.slice none 0 0:=by have:=hF.fr j;rw[hj]at this;generalize ρ j=y at this;cases this;rfl
     refine c2 G w0 μ φ' w ρ a2 ⟨fun s=>?_,fun s id hid=>?_⟩
     ·by_cases e:s=j
      ·subst e;rw[show fI f1 s (.os (sS site s)) s=.os (sS site s) by simp[fI,Nat.beq_refl],hv];exact .rL (by rw[a1])
      ·rw[qu e];exact a3.fr s
     ·by_cases e:s=j
      ·subst e;rw[show fI f1 s (.os (sS site s)) s=.os (sS site s) by simp[fI,Nat.beq_refl]]at hid;have hid:=Nat.eq_of_beq_eq_true hid;subst hid;simp[vl]
      ·rw[qu e]at hid;exact a3.live s id hid
    ·cases h
   ·cases h
  ·exact ug h
variable{k:V→Fr→Mem→bk→Option R}{r:R}
theorem Xs(hE:jS E)(h:cJ E draw site o f m k=some r)(hc:∀c,o.op≠.call c)(hb:∀op t x y ty s es,o.op=.binOp op t x y ty→bw E f x=.pv (.rs s es)→bw E f y≠.hZ)(hit:L2 o.op=false):∃v f' m' ft,k v f' m' ft=some r∧uf E draw site o f m v f' m' ft:=by
 obtain⟨dst,op,type,pos,after,guard⟩:=o;unfold cJ at h;cases op<;>simp only at h;case move x=>refine⟨_,_,_,_,h,.read (fun f2 m2 hf _ R' k'=>by simp only[cJ];rw[hf x (by simp[Op.operands])]) fun w0 μ φ a w hR=>⟨_,rfl,(aj hR x).1,(aj hR x).2⟩⟩
 case pick c x y=>
  split at h
  ·rename_i t hc;cases t with
   |true=>simp only[if_true]at h;refine⟨_,_,_,_,h,.read (fun f2 m2 hf _ R' k'=>by simp only[cJ];rw[hf c (by simp[Op.operands]),hf x (by simp[Op.operands]),hc];simp) fun w0 μ φ a w hR=>?_⟩;have h1:=(aj hR c).1;rw[hc]at h1;exact⟨a.eval x,by simp[execOp,Go.asBool,qC h1],(aj hR x).1,(aj hR x).2⟩
   |false=>simp only[Bool.false_eq_true,if_false]at h;refine⟨_,_,_,_,h,.read (fun f2 m2 hf _ R' k'=>by simp only[cJ];rw[hf c (by simp[Op.operands]),hf y (by simp[Op.operands]),hc];simp) fun w0 μ φ a w hR=>?_⟩;have h1:=(aj hR c).1;rw[hc]at h1;exact⟨a.eval y,by simp[execOp,Go.asBool,qC h1],(aj hR y).1,(aj hR y).2⟩
  ·cases h
 case assign x=>
  have mk:∀{v},bw E f x=v→(v=.hZ→∀e,E.P.underlying type≠some (.slice e))→k v f m []=some r→∃v f' m' ft,k v f' m' ft=some r∧uf E draw site {dst,op:=.assign x,type,pos,after,guard} f m v f' m' ft:=by
   intro v hv cB hk;refine⟨v,f,m,[],hk,.read (fun f2 m2 hf _ R' k'=>?_) fun w0 μ φ a w hR=>⟨_,rfl,hv▸(aj hR x).1,hv▸(aj hR x).2⟩⟩;simp only[cJ];rw[hf x (by simp[Op.operands]),hv];cases v<;>try rfl
   simp only;split
   ·rename_i e hu;exact absurd hu (cB rfl e)
   ·rfl
  split at h
  ·rename_i hx;split at h
   ·rename_i e hu;split at h
    ·rename_i ec;obtain⟨f',m',hn,hk,vl,xf,vi⟩:=ei h;refine⟨_,_,_,_,hk,.make xf (fun _ f2 m2 hf hs R' k'=>?_) fun w0 μ φ a w hR=>?_⟩
     ·simp only[cJ];rw[hf x (by simp[Op.operands]),hx];simp only[hu,ec,if_true,fresh,hs]
     ·have h1:=(aj hR x).1;rw[hx]at h1;obtain⟨φ',a1,a2,a3⟩:=vi E.P E.aD w0 μ φ w w _ (Ci none 0 0 (aP E.P e)) hR.toav hR.kz ⟨kG.refl _ _,hR.ro,fun _ _ _ _ _=>rfl,by simp,fun φ' hp _=>by refine⟨by rw[hp];rfl,by rw[hp],rfl,ec,by simp,by rw[hp];simp[maxLen],?_⟩;rw[hp];exact⟨rfl,rfl⟩,by simp[bE.names],fun st h=>by cases h⟩;refine⟨.slice none 0 0,w,μ,φ',?_,a2,a3,.rL (by rw[a1]),fun id hid=>?_⟩
      ·simp only[execOp,Sem.run_pure];generalize a.eval x=y at h1;cases h1;rfl
      ·have hid:=Nat.eq_of_beq_eq_true hid;subst hid;simp[vl]
    ·cases h
   ·rename_i hu;exact mk hx (fun _ e he=>hu e he) h
  ·rename_i hx;exact mk rfl (fun he=>absurd he hx) h
 case alloc t=>
  split at h
  ·rename_i cs hz;obtain⟨i,zv,z1,z2,z3,z4,z5,z6,z7,z8⟩:=eE hz;cases F7:E.Ak site with
   |true=>
    rw[F7]at h;simp only[cond_true]at h;split at h
    ·rename_i n e ps hu nd;split at h
     ·rename_i hcc;obtain⟨ha,hl,ec,afp⟩:=hcc;obtain⟨f',m',hn,hk,vl,xf,vi⟩:=ei h;obtain⟨q1,q2⟩:=gV nd;have sP:(fl (aP E.P e) n (.agg ps)).length=n:=by simp[fl]
      refine⟨_,_,_,_,hk,.make xf (fun _ f2 m2 hf hs R' k'=>by simp only[cJ,hz,F7,hu,nd,cond_true];rw[if_pos ⟨ha,hl,ec,afp⟩];simp only[fresh,hs]) fun w0 μ φ a w hR=>?_⟩;have nf:af E.P μ (.agg ps) (.agg zv.cells):=.agg (by omega) (fun i p x hp hx=>by obtain⟨v,hv,hpo⟩:=q2 i p hp;have:=z7 μ φ i v x hv hx;cases v<;>simp[pvO]at hpo;subst hpo;cases this with|pv h=>exact h) z8;have hC:Cells E.P μ (aP E.P e) (fl (aP E.P e) n (.agg ps)) (zv.cells.toList.take ((fl (aP E.P e) n (.agg ps)).length*aP E.P e)):=by
       refine⟨by rw[sP];simp;omega,fun i e' RS=>?_,fun i e' j p y hi hj hy=>?_,fun i y hy=>z8 i y (by simpa using(dB hy).2)⟩
       ·obtain⟨_,rfl⟩:=yg RS;exact so
       ·obtain⟨x',x1,x2,_⟩:=Gb (k:=i*aP E.P e+j) nf (by omega) hi hj rfl;have:=(dB hy).2;rw[Array.getElem?_toList,x1]at this;cases this;exact x2
      obtain⟨φ',a1,a2,a3⟩:=vi E.P E.aD w0 μ φ w _ _ (Ci (some w.heap.size) n (fl (aP E.P e) n (.agg ps)).length (aP E.P e)) hR.toav hR.kz (kF.alloc (o:=.cells zv.cells t) hR.toav rfl (fun φ' hp _=>aF.ov (g:=w.heap.size) (by rw[hp]) rfl ec (by rw[hp];simp only[maxLen,Ci];omega) (fA w _) (by rw[hp];simp only[Ci];omega) (by rw[hp,sP];exact Nat.le_refl _) hC) (by simp[bE.names]));refine⟨.pointer (some ⟨w.heap.size,0,none⟩),w.alloc (.cells zv.cells t),μ,φ',by simp[execOp,AF z1 z2],a2,a3,?_,fun id hid=>?_⟩
      ·have:=ae.oe (P:=E.P) (μ:=μ) (φ:=φ') (id:=site) (i:=0) (off:=0) (g:=w.heap.size) (by rw[a1]);simpa using this
      ·have hid:=Nat.eq_of_beq_eq_true hid;subst hid;simp[vl]
     ·cases h
    ·cases h
   |false=>
   rw[F7]at h;simp only[cond_false]at h;split at h
   ·rename_i Mv;have hdf:draw=false:=by simp only[Bool.and_eq_true,Bool.not_eq_true']at Mv;exact Mv.1
    obtain⟨F,m1,g1,g2⟩:=ug h;obtain⟨f',m',hn,hk,vl,xf,vi⟩:=ei g1;refine⟨_,_,_,_,hk,⟨fun hd=>(by rw[hdf]at hd;cases hd),fun _ h=>(by have:=h (true,site) (by simp);cases this),fun w0 μ φ a w K Q hR hK=>?_⟩⟩;have x1:cs.length=zv.cells.size:=by omega
    have x2:=z7 μ φ;have x3:=z8;have hF0:bZ E.P μ φ m (uU cs.length cs f) (fun t=>if t<cs.length then zv.cells.getD t undef else az E.fn.ntmps w0 a (t-cs.length)):=by
     refine⟨fun t=>?_,fun t id hid=>?_⟩
     ·unfold uU;by_cases ht:t<cs.length
      ·rw[show Nat.blt t cs.length=true by rw[Nat.blt_eq];exact ht,if_pos ht];show ae E.P μ φ (cs.getD t .top) _;have hx:t<zv.cells.size:=by omega
       rw[show cs.getD t .top=cs[t] by simp[List.getD,ht],show zv.cells.getD t undef=zv.cells[t] by simp[Array.getD,hx]];exact x2 t _ _ (List.getElem?_eq_getElem ht) (Array.getElem?_eq_getElem hx)
      ·rw[show Nat.blt t cs.length=false by rw[←Bool.not_eq_true,Nat.blt_eq];exact ht,if_neg ht];exact hR.kz.fr _
     ·unfold uU at hid;cases e:Nat.blt t cs.length with
      |true=>
       rw[e]at hid;have ht:t<cs.length:=by rwa[Nat.blt_eq]at e
       have hid:(cs.getD t .top).has id=true:=hid;rw[show cs.getD t .top=cs[t] by simp[List.getD,ht]]at hid;exact absurd (bI (List.getElem_mem ht) hid) (by rw[z6];simp)
      |false=>rw[e]at hid;exact hR.kz.live _ id hid
    obtain⟨φ1,ta,Cm⟩:=g2 E.aD w0 μ φ w _ hR.toav hF0;have Xi:bZ E.P μ φ1 m1 (vt cs.length F) (az E.fn.ntmps w0 a):=by refine⟨fun t=>?_,fun t id hid=>Cm.live _ id hid⟩;have:=Cm.fr (t+cs.length);rw[if_neg (by omega),Nat.add_sub_cancel]at this;exact this
    have Qc:∀(i:Nat)u y,((List.range cs.length).map F)[i]?=some u→zv.cells[i]?=some y→ae E.P μ φ1 u y:=fun i u y hu hy=>by
     have hi:i<cs.length:=by have:=(List.getElem?_eq_some_iff.1 hu).1;simpa using this
     have qt:F i=u:=by simpa[hi]using hu
     have:=Cm.fr i;rw[if_pos hi,qt,show zv.cells.getD i undef=y by simp[Array.getD_eq_getD_getElem?,hy]]at this;exact this
    obtain⟨φ',a1,a2,a3⟩:=vi E.P E.aD w0 μ φ1 w _ _ _ ta Xi (kF.box (T:=t) ta (c:=zv.cells) (by simp;omega) Qc x3 (fun id hid=>by obtain⟨u,hu,hh⟩:=cL.1 hid;obtain⟨i,_,rfl⟩:=List.mem_map.1 hu;exact Cm.live i id hh));refine fK (y:=.pointer (some ⟨w.heap.size,0,none⟩)) (w':=w.alloc (.cells zv.cells t)) (by simp[execOp,AF z1 z2]) (hK _ _ μ φ' a2 a3 (.op (by rw[a1])) fun id hid=>?_);have hid:=Nat.eq_of_beq_eq_true hid;subst hid;simp[vl]
   rename_i Mv;have h:fresh draw site (.box cs) f m (fun f m ft=>k (.op site 0) f m ft)=some r:=h;obtain⟨f',m',hn,hk,vl,xf,vi⟩:=ei h;refine⟨_,_,_,_,hk,.make xf (fun _ f2 m2 hf hs R' k'=>by simp only[cJ,hz,F7,cond_false,fresh,hs,Bool.not_true,Bool.false_and,Bool.false_eq_true,if_false]) fun w0 μ φ a w hR=>?_⟩;obtain⟨φ',a1,a2,a3⟩:=vi E.P E.aD w0 μ φ w _ _ _ hR.toav hR.kz (kF.box (T:=t) hR.toav (c:=zv.cells) (by omega) (z7 μ φ) z8 (fun id hid=>by rw[z6]at hid;cases hid));refine⟨.pointer (some ⟨w.heap.size,0,none⟩),w.alloc (.cells zv.cells t),μ,φ',by simp[execOp,AF z1 z2],a2,a3,.op (by rw[a1]),fun id hid=>?_⟩;have hid:=Nat.eq_of_beq_eq_true hid;subst hid;simp[vl]
  ·cases h
 case box t x=>
  split at h
  ·rename_i cs hc;obtain⟨n1,n2,n3⟩:=toCells_ok hc;split at h
   ·rename_i Mv;have hdf:draw=false:=by simp only[Bool.and_eq_true,Bool.not_eq_true']at Mv;exact Mv.1
    split at h
    ·rename_i ts hts;split at h
     ·rename_i hlen;obtain⟨F,m1,g1,g2⟩:=ug h;obtain⟨f',m',hn,hk,vl,xf,vi⟩:=ei g1;refine⟨_,_,_,_,hk,⟨fun hd=>(by rw[hdf]at hd;cases hd),fun _ h=>(by have:=h (true,site) (by simp);cases this),fun w0 μ φ a w K Q hR hK=>?_⟩⟩;obtain⟨h1,h2⟩:=aj hR x;obtain⟨x1,x2,x3⟩:=n3 _ _ _ _ h1;have hF0:bZ E.P μ φ m (uU cs.length cs f) (fun t=>if t<cs.length then(a.eval x).cells.getD t undef else az E.fn.ntmps w0 a (t-cs.length)):=by
       refine⟨fun t=>?_,fun t id hid=>?_⟩
       ·unfold uU;by_cases ht:t<cs.length
        ·rw[show Nat.blt t cs.length=true by rw[Nat.blt_eq];exact ht,if_pos ht];show ae E.P μ φ (cs.getD t .top) _;have hx:t<(a.eval x).cells.size:=by omega
         rw[show cs.getD t .top=cs[t] by simp[List.getD,ht],show(a.eval x).cells.getD t undef=(a.eval x).cells[t] by simp[Array.getD,hx]];exact x2 t _ _ (List.getElem?_eq_getElem ht) (Array.getElem?_eq_getElem hx)
        ·rw[show Nat.blt t cs.length=false by rw[←Bool.not_eq_true,Nat.blt_eq];exact ht,if_neg ht];exact hR.kz.fr _
       ·unfold uU at hid;cases e:Nat.blt t cs.length with
        |true=>
         rw[e]at hid;have ht:t<cs.length:=by rwa[Nat.blt_eq]at e
         have hid:(cs.getD t .top).has id=true:=hid;rw[show cs.getD t .top=cs[t] by simp[List.getD,ht]]at hid;exact h2 id (n2 id (bI (List.getElem_mem ht) hid))
        |false=>rw[e]at hid;exact hR.kz.live _ id hid
      obtain⟨φ1,ta,Cm⟩:=g2 E.aD w0 μ φ w _ hR.toav hF0;have Xi:bZ E.P μ φ1 m1 (vt cs.length F) (az E.fn.ntmps w0 a):=by refine⟨fun t=>?_,fun t id hid=>Cm.live _ id hid⟩;have:=Cm.fr (t+cs.length);rw[if_neg (by omega),Nat.add_sub_cancel]at this;exact this
      have Qc:∀(i:Nat)u y,((List.range cs.length).map F)[i]?=some u→(a.eval x).cells[i]?=some y→ae E.P μ φ1 u y:=fun i u y hu hy=>by
       have hi:i<cs.length:=by have:=(List.getElem?_eq_some_iff.1 hu).1;simpa using this
       have qt:F i=u:=by simpa[hi]using hu
       have:=Cm.fr i;rw[if_pos hi,qt,show(a.eval x).cells.getD i undef=y by simp[Array.getD_eq_getD_getElem?,hy]]at this;exact this
      obtain⟨φ',a1,a2,a3⟩:=vi E.P E.aD w0 μ φ1 w _ _ _ ta Xi (kF.box (T:=t) ta (c:=(a.eval x).cells) (by simp;omega) Qc x3 (fun id hid=>by obtain⟨u,hu,hh⟩:=cL.1 hid;obtain⟨i,_,rfl⟩:=List.mem_map.1 hu;exact Cm.live i id hh));refine fK (y:=.pointer (some ⟨w.heap.size,0,none⟩)) (w':=w.alloc (.cells (a.eval x).cells t)) (by simp[execOp,P4]) (hK _ _ μ φ' a2 a3 (.op (by rw[a1])) fun id hid=>?_);have hid:=Nat.eq_of_beq_eq_true hid;subst hid;simp[vl]
     ·cases h
    ·cases h
   rename_i Mv;have h:fresh draw site (.box cs) f m (fun f m ft=>k (.op site 0) f m ft)=some r:=h;have Mv:draw=true→(!true&&cs.any Tz)=false:=fun _=>rfl;obtain⟨f',m',hn,hk,vl,xf,vi⟩:=ei h;refine⟨_,_,_,_,hk,.make xf (fun _ f2 m2 hf hs R' k'=>by simp only[cJ];rw[hf x (by simp[Op.operands])];simp only[hc,fresh,hs,Bool.not_true,Bool.false_and,Bool.false_eq_true,if_false]) fun w0 μ φ a w hR=>?_⟩;obtain⟨h1,h2⟩:=aj hR x;obtain⟨x1,x2,x3⟩:=n3 _ _ _ _ h1;obtain⟨φ',a1,a2,a3⟩:=vi E.P E.aD w0 μ φ w _ _ _ hR.toav hR.kz (kF.box (T:=t) hR.toav (c:=(a.eval x).cells) (by omega) x2 x3 (fun id hid=>h2 id (n2 id hid)));refine⟨.pointer (some ⟨w.heap.size,0,none⟩),w.alloc (.cells (a.eval x).cells t),μ,φ',by simp[execOp,P4],a2,a3,.op (by rw[a1]),fun id hid=>?_⟩;have hid:=Nat.eq_of_beq_eq_true hid;subst hid;simp[vl]
  ·cases h
 case build t parts=>obtain⟨v,v1,v2,v3,v4⟩:=RH h;have Ms:∀f2:Fr,(∀x∈(Op.build t parts).operands,bw E f2 x=bw E f x)→(parts.toList.map fun(x:Nat×Operand)=>(x.1,bw E f2 x.2))=parts.toList.map fun(x:Nat×Operand)=>(x.1,bw E f x.2):=fun f2 hf=>rX fun x hx=>hf x.2 (by simp only[Op.operands,List.mem_toArray,List.mem_map];exact⟨x,hx,rfl⟩);refine⟨_,_,_,_,v2,.read (fun f2 m2 hf _ R' k'=>by simp only[cJ];rw[Ms f2 hf];exact v1 _ _) fun w0 μ φ a w hR=>?_⟩;obtain⟨z,z1,z2⟩:=v4 μ φ w (parts.map fun(i,x)=>(i,a.eval x)) (by simp) (fun j i v hj=>by simp only[List.getElem?_map,Option.map_eq_some_iff]at hj;obtain⟨y,hy,he⟩:=hj;simp only[Prod.mk.injEq]at he;obtain⟨rfl,rfl⟩:=he;refine⟨a.eval y.2,?_,(aj hR y.2).1⟩;rw[Array.getElem?_map,←Array.getElem?_toList,hy];rfl);refine⟨z,by simp only[execOp,Sem.run_bind,z1,Result.andThen_ok,Sem.run_pure],z2,fun id hid=>?_⟩;have h5:=v3 id hid;rw[List.map_map]at h5;obtain⟨u,hu,hh⟩:=cL.1 h5;obtain⟨y,hy,rfl⟩:=List.mem_map.1 hu;exact(aj hR y.2).2 id hh
 case load t x=>obtain⟨v,ft,v1,v2,v3,v4⟩:=Jj h;refine⟨_,_,_,_,v2,.read (fun f2 m2 hf hm R' k'=>by simp only[cJ];rw[hf x (by simp[Op.operands])];exact v1 m2 hm _ _) fun w0 μ φ a w hR=>?_⟩;obtain⟨y,y1,y2,y3⟩:=v4 _ _ _ _ _ _ hR.toav (aj hR x).1;exact⟨y,by simp[execOp,y1],y2,y3⟩
 case store t x y=>
  obtain⟨m',ft,k1,k2,k3,k4⟩:=RE h;refine⟨_,_,_,_,k1,⟨fun hd=>?_,fun h _=>by(simp[ff]at h),fun w0 μ φ a w K Q hR hK=>?_⟩⟩
  ·obtain⟨id,b,rfl,rfl,d3⟩:=k2 hd;refine⟨rfl,[(id,b)],rfl,by simp,fun f2 m2 hf hm R' k'=>?_⟩;simp only[cJ];rw[hf x (by simp[Op.operands]),hf y (by simp[Op.operands])];exact d3 m2 (hm (true,id) (by simp)) _ _
  ·obtain⟨w',μ',s1,s2,s3⟩:=k4 _ _ _ _ _ _ _ hR.toav (aj hR x).1 (aj hR y).1 (aj hR y).2;exact vI (by simp[execOp,s1]) (hK undef w' μ' φ s3 (hR.kz.ml s2 k3) .top (by simp))
 case nilCheck x=>
  have key:∀{v},bw E f x=v→(∀(μ:Ro)(φ:Nat→aA)y,ae E.P μ φ v y→(∃ad,y=.pointer (some ad))∨∃g xs ys,y=.func (.func g) xs ys)→k v f m []=some r→(∀(R':Type)(k':V→Fr→Mem→bk→Option R')(f2:Fr)(m2:Mem),bw E f2 x=v→cJ E true site {dst,op:=.nilCheck x,type,pos,after,guard} f2 m2 k'=k' v f2 m2 [])→∃v f' m' ft,k v f' m' ft=some r∧uf E draw site {dst,op:=.nilCheck x,type,pos,after,guard} f m v f' m' ft:=by
   intro v hv hp hk hn;refine⟨v,f,m,[],hk,.read (fun f2 m2 hf _ R' k'=>hn R' k' f2 m2 (by rw[hf x (by simp[Op.operands]),hv])) fun w0 μ φ a w hR=>?_⟩;obtain⟨h1,h2⟩:=aj hR x;rw[hv]at h1 h2;refine⟨a.eval x,?_,h1,h2⟩;rcases hp μ φ _ h1 with⟨ad,e⟩|⟨g,xs,ys,e⟩
   ·simp only[execOp,e];rfl
   ·simp only[execOp,e];rfl
  split at h
  ·rename_i cs hx;exact key hx (fun μ φ y hy=>by cases hy with|pv hy=>cases hy;exact .inl ⟨_,rfl⟩) h fun R' k' f2 m2 e=>by simp only[cJ,e]
  ·rename_i id off hx;exact key hx (fun μ φ y hy=>by cases hy;exact .inl ⟨_,rfl⟩) h fun R' k' f2 m2 e=>by simp only[cJ,e]
  ·rename_i id i off hx;exact key hx (fun μ φ y hy=>by cases hy;exact .inl ⟨_,rfl⟩) h fun R' k' f2 m2 e=>by simp only[cJ,e]
  ·rename_i id i off s j off2 hx;exact key hx (fun μ φ y hy=>by cases hy;exact .inl ⟨_,rfl⟩) h fun R' k' f2 m2 e=>by simp only[cJ,e]
  ·rename_i g cs hx;exact key hx (fun μ φ y hy=>by cases hy;exact .inr (qp _ _)) h fun R' k' f2 m2 e=>by simp only[cJ,e]
  ·rename_i g cs hx;exact key hx (fun μ φ y hy=>by cases hy with|pv hy=>cases hy;exact .inr (qp _ _)) h fun R' k' f2 m2 e=>by simp only[cJ,e]
  ·cases h
 case binOp op t x y ty=>
  have sX:∀(f2:Fr)(m2:Mem)(R':Type)(k':V→Fr→Mem→bk→Option R')(d:Bool),bw E f2 x=bw E f x→bw E f2 y=bw E f y→cJ E d site ⟨dst,.binOp op t x y ty,type,pos,after,guard⟩ f2 m2 k'=I7 E op t y (bw E f x) (bw E f y) fun p=>k' (.pv p) f2 m2 []:=by
   intro f2 m2 R' k' d e1 e2;simp only[cJ];rw[e1,e2];split
   ·rename_i s es h1 h2;exact absurd h2 (hb op t x y ty s es rfl h1)
   ·rfl
  have h:cJ E draw site ⟨dst,.binOp op t x y ty,type,pos,after,guard⟩ f m k=some r:=by simp only[cJ];exact h
  rw[sX f m R k draw rfl rfl]at h;obtain⟨q,q1,q2,q3⟩:=Uk h;refine⟨_,_,_,_,q2,.read (fun f2 m2 hf hm R' k'=>by rw[sX f2 m2 R' k' true (hf x (by simp[Op.operands])) (hf y (by simp[Op.operands]))];exact q1 _ _) fun w0 μ φ a w hR=>?_⟩;obtain⟨z,z1,z2⟩:=q3 μ φ w x _ _ (fun hn=>by
   unfold CZ at hn;split at hn
   ·rfl
   ·cases hn) (aj hR x).1 (aj hR y).1
  exact⟨z,by simp only[sl]at z1;simp only[execOp,Sem.run_bind,Sem.run_pure]at z1⊢;rw[z1];rfl,.pv z2,by simp⟩
 case unOp op t x=>obtain⟨q,q1,q2,q3⟩:=aab h;refine⟨_,_,_,_,q2,.read (fun f2 m2 hf hm R' k'=>by simp only[cJ];rw[hf x (by simp[Op.operands])];exact q1 _ _) fun w0 μ φ a w hR=>?_⟩;obtain⟨z,z1,z2⟩:=q3 E.P μ φ w _ (aj hR x).1;exact⟨z,by simp[execOp,z1],.pv z2,by simp⟩
 case convert s d x=>obtain⟨q,ft,q1,q2,_,q3⟩:=RW h;refine⟨_,_,_,_,q2,.read (fun f2 m2 hf hm R' k'=>by simp only[cJ];rw[hf x (by simp[Op.operands])];exact q1 m2 hm _ _) fun w0 μ φ a w hR=>?_⟩;obtain⟨z,z1,z2⟩:=q3 _ _ μ φ w _ hR.toav (aj hR x).1;exact⟨z,by simp[execOp,z1],.pv z2,by simp⟩
 case fieldAddr s x j=>obtain⟨v,v1,v2,v3,v4⟩:=Fl h;refine⟨_,_,_,_,v2,.read (fun f2 m2 hf hm R' k'=>by simp only[cJ];rw[hf x (by simp[Op.operands])];exact v1 _ _) fun w0 μ φ a w hR=>?_⟩;obtain⟨z,z1,z2⟩:=v4 μ φ w _ (aj hR x).1;exact⟨z,by simp[execOp,z1],z2,fun id hid=>(aj hR x).2 id (by rw[←v3];exact hid)⟩
 case field s x j=>obtain⟨v,v1,v2,v3,v4⟩:=Rw h;refine⟨_,_,_,_,v2,.read (fun f2 m2 hf hm R' k'=>by simp only[cJ];rw[hf x (by simp[Op.operands])];exact v1 _ _) fun w0 μ φ a w hR=>?_⟩;obtain⟨z,z1,z2⟩:=v4 μ φ w _ (aj hR x).1;exact⟨z,by simp[execOp,z1],z2,fun id hid=>(aj hR x).2 id (v3 id hid)⟩
 case indexAddr t x ix=>obtain⟨v,ft,v1,v2,v3,v4,v5⟩:=Fm h;refine⟨_,_,_,_,v2,.read (fun f2 m2 hf hm R' k'=>by simp only[cJ];rw[hf x (by simp[Op.operands]),hf ix (by simp[Op.operands])];exact v1 m2 hm _ _) fun w0 μ φ a w hR=>?_⟩;obtain⟨z,z1,z2⟩:=v5 _ _ μ φ w _ _ hR.toav (aj hR x).1 (aj hR ix).1;exact⟨z,by simp[execOp,z1],z2,fun id hid=>(aj hR x).2 id (v4 id hid)⟩
 case index t x ix=>obtain⟨v,v1,v2,v3,v4⟩:=Rx h;refine⟨_,_,_,_,v2,.read (fun f2 m2 hf hm R' k'=>by simp only[cJ];rw[hf x (by simp[Op.operands]),hf ix (by simp[Op.operands])];exact v1 _ _) fun w0 μ φ a w hR=>?_⟩;obtain⟨z,z1,z2⟩:=v4 μ φ w _ _ (aj hR x).1 (aj hR ix).1;exact⟨z,by simp[execOp,z1],z2,fun id hid=>(aj hR x).2 id (v3 id hid)⟩
 case lookup t x ix ok=>
  split at h
  ·rename_i hn;have AP:ok=false:=by cases ok<;>simp at hn⊢
   subst AP;obtain⟨id,b1,b2,m',rfl,hk,hs,rV,WE,hid,Ju,aaj⟩:=Ua h;refine⟨_,_,_,_,hk,⟨fun hd=>⟨rfl,[(id,b1),(site,b2)],rfl,by simp,fun f2 m2 hf hm R' k'=>?_⟩,fun _ h=>absurd (h (true,id) (by simp)) (by simp),fun w0 μ φ a w K Q hR hK=>?_⟩⟩
   ·simp only[cJ];rw[if_pos hn,hf x (by simp[Op.operands]),hf ix (by simp[Op.operands])];exact Ju m2 (hm (true,id) (by simp)) (by rw[hm (true,site) (by simp)];exact hs) _ _
   ·obtain⟨u,φ',u1,u2,u3,u4⟩:=aaj _ _ _ _ _ _ _ _ _ hR.toav hR.kz (aj hR x).1 (aj hR ix).1;exact fK (y:=u) (w':=w) (by simp[execOp,u1]) (hK u w μ φ' u2 u3 u4 fun j hj=>by have hj:=Nat.eq_of_beq_eq_true hj;subst hj;simp[sN])
  rename_i hn;obtain⟨v,ft,v1,v2,v3,v4,v5⟩:=Mf h;refine⟨_,_,_,_,v2,.read (fun f2 m2 hf hm R' k'=>by simp only[cJ];rw[if_neg hn,hf x (by simp[Op.operands]),hf ix (by simp[Op.operands])];exact v1 m2 hm _ _) fun w0 μ φ a w hR=>?_⟩;obtain⟨z,z1,z2⟩:=v5 _ _ μ φ w _ _ hR.toav (aj hR x).1 (aj hR ix).1;exact⟨z,by simp[execOp,z1],z2,fun id hid=>by rw[v4]at hid;cases hid⟩
 case mapUpdate t x key val=>
  obtain⟨m',ft,k1,k2,k3,k4⟩:=xE h;refine⟨_,_,_,_,k1,⟨fun hd=>?_,fun h _=>by(simp[ff]at h),fun w0 μ φ a w K Q hR hK=>?_⟩⟩
  ·obtain⟨id,b,rfl,rfl,d3⟩:=k2 hd;refine⟨rfl,[(id,b)],rfl,by simp,fun f2 m2 hf hm R' k'=>?_⟩;simp only[cJ];rw[hf x (by simp[Op.operands]),hf key (by simp[Op.operands]),hf val (by simp[Op.operands])];exact d3 m2 (hm (true,id) (by simp)) _ _
  ·obtain⟨w',μ',s1,s2,s3⟩:=k4 _ _ _ _ _ _ _ _ hR.toav (aj hR x).1 (aj hR key).1 (aj hR val).1;exact vI (by simp[execOp,s1]) (hK undef w' μ' φ s3 (hR.kz.ml s2 k3) .top (by simp))
 case insert t x key val=>
  obtain⟨m',ft,k1,k2,k3,k4⟩:=xE h;refine⟨_,_,_,_,k1,⟨fun hd=>?_,fun h _=>by(simp[ff]at h),fun w0 μ φ a w K Q hR hK=>?_⟩⟩
  ·obtain⟨id,b,rfl,rfl,d3⟩:=k2 hd;refine⟨rfl,[(id,b)],rfl,by simp,fun f2 m2 hf hm R' k'=>?_⟩;simp only[cJ];rw[hf x (by simp[Op.operands]),hf key (by simp[Op.operands]),hf val (by simp[Op.operands])];exact d3 m2 (hm (true,id) (by simp)) _ _
  ·obtain⟨w',μ',s1,s2,s3⟩:=k4 _ _ _ _ _ _ _ _ hR.toav (aj hR x).1 (aj hR key).1 (aj hR val).1;exact vI (by simp[execOp,s1]) (hK undef w' μ' φ s3 (hR.kz.ml s2 k3) .top (by simp))
 case extract t i=>
  split at h
  ·rename_i vs hx;split at h
   ·rename_i v hv;refine⟨_,_,_,_,h,.read (fun f2 m2 hf hm R' k'=>by simp only[cJ];rw[hf t (by simp[Op.operands]),hx];simp only[hv]) fun w0 μ φ a w hR=>?_⟩;obtain⟨h1,h2⟩:=aj hR t;rw[hx]at h1 h2;generalize hy:a.eval t=y at h1;cases h1 with
    | @bt _ xs t1 t2=>
     have bm:i<xs.size:=by have:=(List.getElem?_eq_some_iff.1 hv).1;omega
     refine⟨xs[i],by simp[execOp,hy,Instr.extract,bm],t2 i v _ hv (Array.getElem?_eq_getElem bm),fun id hid=>h2 id (by simp only[V.has];exact bI (List.mem_of_getElem? hv) hid)⟩
   ·cases h
  ·cases h
 case makeSlice t l c=>
  obtain⟨f',m',b,hd,hk,vl,hs⟩:=Fq h;refine⟨_,_,_,_,hk,.make (fun xf=>⟨(hd xf).1,(hd xf).2.1,(hd xf).2.2.1⟩) (fun xf f2 m2 hf hs' R' k'=>?_) fun w0 μ φ a w hR=>?_⟩
  ·simp only[cJ];rw[hf l (by simp[Op.operands]),hf c (by simp[Op.operands])];exact(hd xf).2.2.2 f2 m2 hs' _ _
  ·obtain⟨w',y,φ',r1,r2,r3,r4⟩:=hs _ w0 μ φ w (az E.fn.ntmps w0 a) _ _ hR.toav hR.kz (aj hR l).1 (aj hR c).1;refine⟨y,w',μ,φ',by simp[execOp,r1],r2,r3,r4,fun id hid=>?_⟩;have hid:=Nat.eq_of_beq_eq_true hid;subst hid;exact vl
 case makeMap t hint=>
  split at h
  ·rename_i hh;split at h
   ·rename_i kt et hu;split at h
    ·rename_i hk;obtain⟨ks,TN⟩:=Option.isSome_iff_exists.1 hk;have Ju:∀f2:Fr,(∀x∈(Op.makeMap t hint).operands,bw E f2 x=bw E f x)→Hi E f2 hint=true:=fun f2 hf=>by
      cases hint with
      |none=>rfl
      |some x=>simp only[Hi]at hh⊢;rw[hf x (by simp[Op.operands])];exact hh
     have mk:∀b:bE,(∀i off,b.rowAt i off=true→False)→(∀(μ:Ro)(φ':Nat→aA)(w:World),(φ' site).g=some w.heap.size→gC E.P μ φ' (w.alloc (.map #[] 0)) site b)→(∀id,b.names id=false)→(∀st,b≠.loop st)→fresh draw site b f m (fun f m ft=>k (.om site) f m ft)=some r→(∀(f2:Fr)(m2:Mem),(∀x∈(Op.makeMap t hint).operands,bw E f2 x=bw E f x)→m2 site=none→∀(R':Type)(k':V→Fr→Mem→bk→Option R'),cJ E true site ⟨dst,.makeMap t hint,type,pos,after,guard⟩ f2 m2 k'=k' (.om site) f2 (ak m2 site b) [(true,site)])→∃v f' m' ft,k v f' m' ft=some r∧uf E draw site ⟨dst,.makeMap t hint,type,pos,after,guard⟩ f m v f' m' ft:=by
      intro b Jq jd hnm Y0 h TI;obtain⟨f',m',hn,qz,vl,xf,vi⟩:=ei h Jq;refine⟨_,_,_,_,qz,.make xf (fun _ f2 m2 hf hs R' k'=>TI f2 m2 hf hs R' k') fun w0 μ φ a w hR=>?_⟩;obtain⟨φ',a1,a2,a3⟩:=vi E.P E.aD w0 μ φ w _ _ (Ci (some w.heap.size) 0 0 0) hR.toav hR.kz (kF.alloc (o:=.map #[] 0) hR.toav rfl (fun φ' hp _=>jd _ _ _ (by rw[hp])) (fun id hid=>by rw[hnm]at hid;cases hid) (fun st h=>absurd h (Y0 st)));have nu:(Instr.makeMap t (hint.map a.eval)).run E.P w=.ok (.map (some w.heap.size)) (w.alloc (.map #[] 0)):=by
       cases hint with
       |none=>rfl
       |some x=>
        have h1:=(aj hR x).1;simp only[Hi]at hh;split at hh
        ·rename_i q n hx;rw[hx]at h1;generalize hy:a.eval x=y at h1;cases h1 with
         |pv h1=>cases h1;simp[Instr.makeMap,hy,run_underlying hu,Go.asInt,asIntOf,newObj];rfl
        ·cases hh
      refine⟨.map (some w.heap.size),w.alloc (.map #[] 0),μ,φ',by simp only[execOp,Sem.run_bind,nu];rfl,a2,a3,.om (by rw[a1]),fun id hid=>?_⟩;have hid:=Nat.eq_of_beq_eq_true hid;subst hid;simp[vl]
     split at h
     ·rename_i aak;split at h
      ·rename_i e hue;exact mk (.fe kt e []) (fun i off h=>by cases off<;>simp[bE.rowAt]at h) (fun μ φ' w hg=>⟨w.heap.size,#[],0,ks,hg,fA w _,rfl,TN,by simp,fun i e h=>by simp at h,by simp⟩) (fun _=>rfl) (fun st h=>by cases h) h fun f2 m2 hf hs R' k'=>by simp only[cJ,Ju f2 hf,hu,hk,fresh,hs,if_true,aak,hue]
      ·cases h
     ·rename_i aak;exact mk (.map kt []) (fun i off h=>by simp[bE.rowAt]at h) (fun μ φ' w hg=>Jv TN hg) (fun _=>rfl) (fun st h=>by cases h) h fun f2 m2 hf hs R' k'=>by simp only[cJ,Ju f2 hf,hu,hk,fresh,hs,if_true];rw[if_neg aak]
    ·cases h
   ·cases h
  ·cases h
 case makeFunc fn first caps=>
  cases fn<;>simp only at h;case func g=>
   cases Ue:Nat.blt g Cg with
   |false=>rw[Ue]at h;cases h
   |true=>
   rw[Ue]at h;simp only[cond_true]at h;split at h
   ·rename_i aal;have hf0:first= #[]:=by simpa using aal
    subst hf0;refine⟨_,_,_,_,h,.read (fun f2 m2 hf hm R' k'=>?_) fun w0 μ φ a w hR=>⟨.func (.func g) #[] (caps.map a.eval),by simp[execOp,Instr.makeFunc],by rw[←qo Ue];exact .fn (kT hR).1 (kT hR).2,fun id hid=>pV hR (by simpa only[V.has]using hid)⟩⟩;simp only[cJ,Ue,cond_true];rw[if_pos (by simp),ob fun x hx=>hf x (by simpa[Op.operands]using hx)]
   ·rename_i aal;split at h
    ·rename_i hcp;have Y2:caps= #[]:=by simpa using hcp
     subst Y2;refine⟨_,_,_,_,h,.read (fun f2 m2 hf hm R' k'=>?_) fun w0 μ φ a w hR=>⟨.func (.func g) (first.map a.eval) #[],by simp[execOp,Instr.makeFunc],by rw[←Uo];exact .fn (kT hR).1 (kT hR).2,fun id hid=>pV hR (by simpa only[V.has]using hid)⟩⟩;simp only[cJ,Ue,cond_true];rw[if_neg aal,if_pos (by simp),ob fun x hx=>hf x (by simpa[Op.operands]using hx)]
    ·cases h
  all_goals (cases h)
 case slice t x lo hi mx=>
  obtain⟨v,ft,v1,v2,v3,v4,v6⟩:=Ry h;have hlo:∀f2:Fr,(∀y∈(Op.slice t x lo hi mx).operands,bw E f2 y=bw E f y)→lo.map (bw E f2)=lo.map (bw E f)∧hi.map (bw E f2)=hi.map (bw E f)∧mx.map (bw E f2)=mx.map (bw E f):=fun f2 hf=>by
   refine⟨?_,?_,?_⟩
   ·cases lo with
    |none=>rfl
    |some y=>simp only[Option.map_some];rw[hf y (by simp[Op.operands])]
   ·cases hi with
    |none=>rfl
    |some y=>simp only[Option.map_some];rw[hf y (by simp[Op.operands])]
   ·cases mx with
    |none=>rfl
    |some y=>simp only[Option.map_some];rw[hf y (by simp[Op.operands])]
  refine⟨_,_,_,_,v2,.read (fun f2 m2 hf hm R' k'=>by simp only[cJ];rw[hf x (by simp[Op.operands]),(hlo f2 hf).1,(hlo f2 hf).2.1,(hlo f2 hf).2.2];exact v1 m2 hm _ _) fun w0 μ φ a w hR=>?_⟩;obtain⟨z,z1,z2⟩:=v6 _ _ μ φ w (a.eval x) (lo.map a.eval) (hi.map a.eval) (mx.map a.eval) hR.toav (aj hR x).1 (fun v hv=>by
   obtain⟨y,rfl,rfl⟩:=Option.map_eq_some_iff.1 hv;exact⟨_,rfl,(aj hR y).1⟩) (fun hv=>by cases lo<;>simp at hv⊢) (fun v hv=>by
   obtain⟨y,rfl,rfl⟩:=Option.map_eq_some_iff.1 hv;exact⟨_,rfl,(aj hR y).1⟩) (fun hv=>by cases hi<;>simp at hv⊢) (fun v hv=>by
   obtain⟨y,rfl,rfl⟩:=Option.map_eq_some_iff.1 hv;exact⟨_,rfl,(aj hR y).1⟩) (fun hv=>by cases mx<;>simp at hv⊢)
  exact⟨z,by simp[execOp,z1],z2,fun id hid=>(aj hR x).2 id (v4 id hid)⟩
 case buildSlice t len parts=>
  split at h
  ·rename_i e hu;split at h
   ·rename_i Ti;split at h
    ·rename_i cs nf;split at h
     ·rename_i hc;obtain⟨hlen,sX,AL,Jt⟩:=hc;obtain⟨zc,Tl⟩:=Option.isSome_iff_exists.1 Jt;obtain⟨iz,zv,z1,z2,z3,_⟩:=eE Tl;obtain⟨p1,p2,p3⟩:=Ge nf;obtain⟨f',m',hn,hk,vl,xf,vi⟩:=ei h;refine⟨_,_,_,_,hk,.make (b:=.box cs) xf (fun _ f2 m2 hf hs R' k'=>by have Ms:(parts.toList.map fun(x:Nat×Operand)=>(x.1,bw E f2 x.2))=parts.toList.map fun(x:Nat×Operand)=>(x.1,bw E f x.2):=rX fun x hx=>hf x.2 (by simp only[Op.operands,List.mem_toArray,List.mem_map];exact⟨x,hx,rfl⟩);simp only[cJ,hu,Ti,if_true];rw[Ms];simp only[nf];rw[if_pos ⟨hlen,sX,AL,Jt⟩];simp only[fresh,hs]) fun w0 μ φ a w hR=>?_⟩;have CJ:parts.toList.length=len:=by rw[←hlen];simp
      have sP:cs.length=len:=by rw[p1];simp[←CJ]
      have JC:∃c0:Array Value,c0.size=0+parts.toList.length∧∀cells,Instr.fill (fun i=>some (i*1,1)) c0 (parts.map fun(i,x)=>(i,a.eval x)).toList=some cells→(Instr.buildSlice t len (parts.map fun(i,x)=>(i,a.eval x))).run E.P w=.ok (.slice (some ⟨w.heap.size,0,none⟩) len len) (w.alloc (.cells cells e)):=by
       by_cases h0:len*aP E.P e=0
       ·have LK:len=0:=by rw[sX]at h0;omega
        refine⟨#[],by simp[CJ,LK],fun cells hf=>?_⟩;subst LK;have F1:parts= #[]:=by apply Array.ext';simpa using List.eq_nil_of_length_eq_zero CJ
        subst F1;have hf':cells= #[]:=by simpa[Instr.fill]using hf.symm
        subst hf';simp[Instr.buildSlice,run_underlying hu,sizeOf,typeInfo,z1,newRow,Instr.fill,Array.range_zero']
       ·refine⟨(Array.range (len*aP E.P e)).map (zv.cells[·%zv.cells.size]!),by simp[CJ,sX],fun cells hf=>?_⟩;exact run_buildSlice w t e len _ cells iz zv hu z1 z2 (by rw[z3,sX];omega) (by rw[z3];exact h0) (by rw[z3];simp only[sX]at hf⊢;exact hf)
      obtain⟨c0,c1,c2⟩:=JC;obtain⟨c',d1,d2,d3,d4⟩:=p3 E.P μ φ (parts.map fun(i,x)=>(i,a.eval x)).toList c0 (by simp) (fun j i v hj=>by simp only[List.getElem?_map,Option.map_eq_some_iff]at hj;obtain⟨y,hy,he⟩:=hj;simp only[Prod.mk.injEq]at he;obtain⟨rfl,rfl⟩:=he;exact⟨a.eval y.2,by simp[hy],(aj hR y.2).1⟩) (by rw[c1];simp);have l0:c'.size=cs.length:=by rw[d2,c1,sP];omega
      have er:∀(i:Nat)u y,cs[i]?=some u→c'[i]?=some y→ae E.P μ φ u y∧y.oneCell'=true:=fun i u y hu hy=>by obtain⟨z,e1,e2,e3⟩:=d4 i u hu;rw[Nat.zero_add,hy]at e1;cases e1;exact⟨e2,e3⟩
      obtain⟨φ',a1,a2,a3⟩:=vi E.P E.aD w0 μ φ w (w.alloc (.cells c' e)) _ (Ci (some w.heap.size) len cs.length 1) hR.toav hR.kz (kF.alloc (o:=.cells c' e) hR.toav rfl (fun φ' hp RB=>⟨w.heap.size,c',e,by rw[hp],fA w _,l0,fun i u y hu hy=>(er i u y hu hy).1.mono (fun _ _ h=>h) fun id hid=>RB id (bI (List.mem_of_getElem? hu) hid),fun i y hy=>by
       have bm:=(Array.getElem?_eq_some_iff.1 hy).1;have hu:cs[i]?=some (cs[i]'(by omega)):=List.getElem?_eq_getElem (by omega);exact(er i _ y hu hy).2,by rw[hp]⟩) (fun id hid=>by
       have h5:=p2 id hid;rw[List.map_map]at h5;obtain⟨u,hu,hh⟩:=cL.1 h5;obtain⟨y,hy,rfl⟩:=List.mem_map.1 hu;exact(aj hR y.2).2 id hh))
      refine⟨.slice (some ⟨w.heap.size,0,none⟩) len len,w.alloc (.cells c' e),μ,φ',by simp only[execOp,Sem.run_bind,c2 c' d1,Result.andThen_ok,Sem.run_pure],a2,a3,?_,fun id hid=>?_⟩
      ·have:=ae.os (P:=E.P) (μ:=μ) (φ:=φ') (id:=site) (g:=w.heap.size) (by rw[a1]);rw[a1,sP]at this;exact this
      ·have hid:=Nat.eq_of_beq_eq_true hid;subst hid;simp[vl]
     ·cases h
    ·cases h
   rename_i afq;have hnf:PO E e=false:=by simpa using afq
   split at h
   ·rename_i hfz;split at h
    ·rename_i es m1 Fs;split at h
     ·rename_i hc;obtain⟨hlen,ec,AL,Jt⟩:=hc;obtain⟨zc,Tl⟩:=Option.isSome_iff_exists.1 Jt;obtain⟨iz,zv,z1,z2,z3,_⟩:=eE Tl;have hpm:=(qD Fs).2 m;obtain⟨p1,p2,p3⟩:=sq hpm;refine⟨_,_,_,_,h,⟨fun hd=>⟨rfl,[],rfl,by simp,fun f2 m2 hf _ R' k'=>?_⟩,fun _ _=>⟨rfl,rfl⟩,fun w0 μ φ a w K Q hR hK=>?_⟩⟩
      ·have Ms:(parts.toList.map fun(x:Nat×Operand)=>(x.1,bw E f2 x.2))=parts.toList.map fun(x:Nat×Operand)=>(x.1,bw E f x.2):=rX fun x hx=>hf x.2 (by simp only[Op.operands,List.mem_toArray,List.mem_map];exact⟨x,hx,rfl⟩);simp only[cJ,hu,hnf,Bool.false_eq_true,if_false,hfz,if_true];rw[Ms];simp only[Fs];rw[if_pos ⟨hlen,ec,AL,Jt⟩];rfl
      have CJ:parts.toList.length=len:=by rw[←hlen,p2];simp
      have JC:∃c0:Array Value,c0.size=(0+parts.toList.length)*aP E.P e∧∀cells,Instr.fill (fun i=>some (i*aP E.P e,aP E.P e)) c0 (parts.map fun(i,x)=>(i,a.eval x)).toList=some cells→(Instr.buildSlice t len (parts.map fun(i,x)=>(i,a.eval x))).run E.P w=.ok (.slice (some ⟨w.heap.size,0,none⟩) len len) (w.alloc (.cells cells e)):=by
       by_cases h0:len*aP E.P e=0
       ·have LK:len=0:=by rcases Nat.mul_eq_zero.1 h0 with h|h<;>omega
        refine⟨#[],by simp[CJ,LK],fun cells hf=>?_⟩;subst LK;have F1:parts= #[]:=by apply Array.ext';simpa using List.eq_nil_of_length_eq_zero CJ
        subst F1;have hf':cells= #[]:=by simpa[Instr.fill]using hf.symm
        subst hf';simp[Instr.buildSlice,run_underlying hu,sizeOf,typeInfo,z1,newRow,Instr.fill,Array.range_zero']
       ·refine⟨(Array.range (len*aP E.P e)).map (zv.cells[·%zv.cells.size]!),by simp[CJ],fun cells hf=>?_⟩;exact run_buildSlice w t e len _ cells iz zv hu z1 z2 (by rw[z3];omega) (by rw[z3];exact h0) (by rw[z3];exact hf)
      obtain⟨c0,c1,c2⟩:=JC;obtain⟨μ',c',d1,d2,d3,d4,d5⟩:=p3 E.P E.aD w0 μ φ w (parts.map fun(i,x)=>(i,a.eval x)).toList [] c0 hR.toav (by simp) (fun j i v hj=>by simp only[List.getElem?_map,Option.map_eq_some_iff]at hj;obtain⟨y,hy,he⟩:=hj;simp only[Prod.mk.injEq]at he;obtain⟨rfl,rfl⟩:=he;exact⟨a.eval y.2,by simp[hy],(aj hR y.2).1⟩) rfl (by simpa using c1) (by simpa using Cells.nil);simp only[List.nil_append]at d5;have hb:kG w.heap.size w (w.alloc (.cells c' e)):=(kG.refl _ w).alloc (Nat.le_refl _) _;have hA:aF E.P μ' (fun _=>Ci (some w.heap.size) len es.length (aP E.P e)) (w.alloc (.cells c' e)) 0 (aP E.P e) e es:=aF.ov (g:=w.heap.size) rfl rfl ec (by simp only[maxLen,Ci];have:len*1≤len*aP E.P e:=Nat.mul_le_mul_left _ ec;omega) (fA w _) (by simp only[Ci];rw[d4];simp[←CJ]) (by simp only[Ci];omega) (by have h1:=d5.len;rw[List.take_of_length_le (by rw[h1];exact Nat.le_refl _)];exact d5);have Gi:=kv d2 (w.alloc (.cells c' e));have hV:=hA.Hs (g:=w.heap.size) rfl (lo:=0) (len:=len) (by omega) (cap:=len) (by simp only[Ci];omega) (Nat.le_refl _) Gi (by simp[cF]);rw[Nat.zero_mul,List.drop_zero,List.take_of_length_le (by omega)]at hV;exact fK (by simp only[execOp,Sem.run_bind,c2 c' d3,Result.andThen_ok,Sem.run_pure]) (hK _ _ _ φ (d2.called hb) ((hR.kz.ml d1 p1).ml Gi (.refl _)) (.pv hV) (fun id hid=>by cases hid))
     ·cases h
    ·cases h
   rename_i afr;split at h
   ·rename_i es m1 Fs;split at h
    ·rename_i hc;obtain⟨hlen,ec,AL,Jt⟩:=hc;obtain⟨zc,Tl⟩:=Option.isSome_iff_exists.1 Jt;obtain⟨iz,zv,z1,z2,z3,_⟩:=eE Tl;have Qe:∃mm,mm=(if draw then m else m1)∧ep m (aP E.P e) (ao E.P e) 0 (parts.toList.map fun(i,x)=>(i,bw E f x))=some (es,mm):=by
      cases draw with
      |true=>exact⟨m,rfl,(qD Fs).2 m⟩
      |false=>exact⟨m1,rfl,Fs⟩
     obtain⟨mm,hme,hpm⟩:=Qe;rw[←hme]at h;obtain⟨p1,p2,p3⟩:=sq hpm;obtain⟨f',m',hn,hk,vl,xf,vi⟩:=ei h;refine⟨_,_,_,_,hk,.make (b:=.arr (aP E.P e) e es) (fun hd=>by
      have:=xf hd;rw[hd]at hme;simp only[if_true]at hme;rw[hme]at this;exact this) (fun hd f2 m2 hf hs R' k'=>by
      subst hd;have Ms:(parts.toList.map fun(x:Nat×Operand)=>(x.1,bw E f2 x.2))=parts.toList.map fun(x:Nat×Operand)=>(x.1,bw E f x.2):=rX fun x hx=>hf x.2 (by simp only[Op.operands,List.mem_toArray,List.mem_map];exact⟨x,hx,rfl⟩);simp only[cJ,hu,hnf,Bool.false_eq_true,if_false,afr,if_true];rw[Ms];simp only[if_true]at Fs;simp only[Fs];rw[if_pos ⟨hlen,ec,AL,Jt⟩];simp only[fresh,hs]) fun w0 μ φ a w hR=>?_⟩
     have CJ:parts.toList.length=len:=by rw[←hlen,p2];simp
     have JC:∃c0:Array Value,c0.size=(0+parts.toList.length)*aP E.P e∧∀cells,Instr.fill (fun i=>some (i*aP E.P e,aP E.P e)) c0 (parts.map fun(i,x)=>(i,a.eval x)).toList=some cells→(Instr.buildSlice t len (parts.map fun(i,x)=>(i,a.eval x))).run E.P w=.ok (.slice (some ⟨w.heap.size,0,none⟩) len len) (w.alloc (.cells cells e)):=by
      by_cases h0:len*aP E.P e=0
      ·have LK:len=0:=by rcases Nat.mul_eq_zero.1 h0 with h|h<;>omega
       refine⟨#[],by simp[CJ,LK],fun cells hf=>?_⟩;subst LK;have F1:parts= #[]:=by apply Array.ext';simpa using List.eq_nil_of_length_eq_zero CJ
       subst F1;have hf':cells= #[]:=by simpa[Instr.fill]using hf.symm
       subst hf';simp[Instr.buildSlice,run_underlying hu,sizeOf,typeInfo,z1,newRow,Instr.fill,Array.range_zero']
      ·refine⟨(Array.range (len*aP E.P e)).map (zv.cells[·%zv.cells.size]!),by simp[CJ],fun cells hf=>?_⟩;exact run_buildSlice w t e len _ cells iz zv hu z1 z2 (by rw[z3];omega) (by rw[z3];exact h0) (by rw[z3];exact hf)
     obtain⟨c0,c1,c2⟩:=JC;obtain⟨μ',c',d1,d2,d3,d4,d5⟩:=p3 E.P E.aD w0 μ φ w (parts.map fun(i,x)=>(i,a.eval x)).toList [] c0 hR.toav (by simp) (fun j i v hj=>by simp only[List.getElem?_map,Option.map_eq_some_iff]at hj;obtain⟨y,hy,he⟩:=hj;simp only[Prod.mk.injEq]at he;obtain⟨rfl,rfl⟩:=he;exact⟨a.eval y.2,by simp[hy],(aj hR y.2).1⟩) rfl (by simpa using c1) (by simpa using Cells.nil);simp only[List.nil_append]at d5;obtain⟨φ',a1,a2,a3⟩:=vi E.P E.aD w0 μ' φ w _ _ (Ci (some w.heap.size) len es.length (aP E.P e)) d2 (hR.kz.ml d1 p1) (kF.alloc (o:=.cells c' e) d2 rfl (fun φ' hp _=>aF.ov (g:=w.heap.size) (by rw[hp]) rfl ec (by rw[hp];simp only[maxLen];have:len*1≤len*aP E.P e:=Nat.mul_le_mul_left _ ec;omega) (fA w _) (by rw[hp,d4];simp[←CJ]) (by rw[hp];simp[hlen]) (by have h1:=d5.len;rw[List.take_of_length_le (by rw[h1];exact Nat.le_refl _)];exact d5)) (by simp[bE.names]));refine⟨.slice (some ⟨w.heap.size,0,none⟩) len len,w.alloc (.cells c' e),μ',φ',by simp only[execOp,Sem.run_bind,c2 c' d3,Result.andThen_ok,Sem.run_pure],a2,a3,?_,fun id hid=>?_⟩
     ·have:=ae.os (P:=E.P) (μ:=μ') (φ:=φ') (id:=site) (g:=w.heap.size) (by rw[a1]);rw[a1,hlen]at this;exact this
     ·have hid:=Nat.eq_of_beq_eq_true hid;subst hid;simp[vl]
    ·cases h
   ·cases h
  ·cases h
 case call c=>exact absurd rfl (hc c)
 case range t x=>cases hit
 case next x s=>cases hit
 case entry x=>cases hit
 all_goals (cases h)
variable{dst:Option Nat}{after:Array Edge}{guard:Option (Nat×Bool)}
theorem Up(hE:jS E){callee:Callee}{argTypes:Array TypeId}{type:TypeId}{pos:String}(h:cJ E draw site ⟨dst,.call ⟨callee,args,argTypes⟩,type,pos,after,guard⟩ f m k=some r):(∃v f' m' ft,k v f' m' ft=some r∧uf E draw site ⟨dst,.call ⟨callee,args,argTypes⟩,type,pos,after,guard⟩ f m v f' m' ft)∨(draw=false∧DQ E ⟨dst,.call ⟨callee,args,argTypes⟩,type,pos,after,guard⟩ f m k r):=by
 unfold cJ at h;simp only at h;have jf:∀f2:Fr,(∀x∈(Op.call ⟨callee,args,argTypes⟩).operands,bw E f2 x=bw E f x)→args.toList.map (bw E f2)=args.toList.map (bw E f):=fun f2 hf=>ob fun x hx=>hf x (by simp only[Op.operands,Call.operands];cases callee<;>simp[Array.mem_toList_iff.1 hx]);have jd:=fun{w0 μ φ a w}(hR:Rel E.P E.aD E.fn.ntmps w0 μ φ f m a w)=>kT hR (args:=args);have known:∀(g:FuncId)(vs:List V),uT E draw site g vs f m k=some r→(∀w0 μ φ a w,Rel E.P E.aD E.fn.ntmps w0 μ φ f m a w→∃xs,(execOp a.eval ⟨dst,.call ⟨callee,args,argTypes⟩,type,pos,after,guard⟩).run E.P w=(callFunc g xs).run E.P w∧vs.length=xs.size∧(∀(i:Nat)v x,vs[i]?=some v→xs[i]?=some x→ae E.P μ φ v x)∧∀id,cm id vs=true→(m id).isSome=true)→(∀(f2:Fr)(m2:Mem),(∀x∈(Op.call ⟨callee,args,argTypes⟩).operands,bw E f2 x=bw E f x)→∀(R':Type)(k':V→Fr→Mem→bk→Option R'),cJ E true site ⟨dst,.call ⟨callee,args,argTypes⟩,type,pos,after,guard⟩ f2 m2 k'=uT E true site g vs f2 m2 k')→(∃v f' m' ft,k v f' m' ft=some r∧uf E draw site ⟨dst,.call ⟨callee,args,argTypes⟩,type,pos,after,guard⟩ f m v f' m' ft)∨(draw=false∧DQ E ⟨dst,.call ⟨callee,args,argTypes⟩,type,pos,after,guard⟩ f m k r):=by
  intro g vs hx nu Ju;obtain h0|⟨xf,⟨fn,c,f1,f2,f3⟩,k5⟩:=T7 hE hx;rotate_left
  ·refine .inr ⟨xf,And.intro (fun c x y h=>by cases h) fun rd w0 μ φ a w K Q _ hR hK=>AN (fun c h=>by cases h) ?_⟩;obtain⟨xs,x1,x2,x3,x4⟩:=nu w0 μ φ a w hR;unfold Oper.wp;rw[x1,wV f1 f3 f2];rw[Oper.upon_enter];refine(k5 w0 μ φ _ w xs hR.toav hR.kz x2 x3 x4).mono ?_;rintro e w' ⟨v,f',m',y,μ',φ',h0,rfl,h1,h2,h3,h4⟩;exact hK v f' m' y w' μ' φ' h0 h1 h2 h3 h4
  obtain⟨v,f',m',ft,k1,k2,ks,⟨fn,c,f1,f2,f3⟩,k5⟩:=h0;refine .inl ⟨v,f',m',ft,k1,⟨fun hd=>?_,fun _ h=>ks h,fun w0 μ φ a w K Q hR hK=>?_⟩⟩
  ·obtain⟨d1,wr,d2,d3,d4⟩:=k2 hd;exact⟨d1,wr.toList,by rw[d2];cases wr<;>rfl,fun x hx=>(by
    cases wr with
    |none=>cases hx
    |some y=>have:x=y:=(by simpa using hx);subst this;exact d3 _ _ rfl),fun f2 m2 hf hm R' k'=>by rw[Ju f2 m2 hf,d4 f2 m2 hm R' k'];cases wr<;>rfl⟩
  ·obtain⟨xs,x1,x2,x3,x4⟩:=nu w0 μ φ a w hR;unfold Oper.wp;rw[x1,wV f1 f3 f2];rw[Oper.upon_enter];refine(k5 w0 μ φ _ w xs hR.toav hR.kz x2 x3 x4).mono ?_;rintro e w' ⟨y,μ',φ',rfl,h1,h2,h3,h4⟩;exact hK y w' μ' φ' h1 h2 h3 h4
 have read:∀{v:V}{ft:bk},k v f m ft=some r→(∀(f2:Fr)(m2:Mem),(∀x∈(Op.call ⟨callee,args,argTypes⟩).operands,bw E f2 x=bw E f x)→(∀x∈ft,m2 x.2=m x.2)→∀(R':Type)(k':V→Fr→Mem→bk→Option R'),cJ E true site ⟨dst,.call ⟨callee,args,argTypes⟩,type,pos,after,guard⟩ f2 m2 k'=k' v f2 m2 ft)→(∀w0 μ φ a w,Rel E.P E.aD E.fn.ntmps w0 μ φ f m a w→∃y,(execOp a.eval ⟨dst,.call ⟨callee,args,argTypes⟩,type,pos,after,guard⟩).run E.P w=.ok (.value y) w∧ae E.P μ φ v y∧∀id,v.has id=true→(m id).isSome=true)→(∃v f' m' ft,k v f' m' ft=some r∧uf E draw site ⟨dst,.call ⟨callee,args,argTypes⟩,type,pos,after,guard⟩ f m v f' m' ft)∨(draw=false∧DQ E ⟨dst,.call ⟨callee,args,argTypes⟩,type,pos,after,guard⟩ f m k r):=fun hk hn hs=>.inl ⟨_,_,_,_,hk,.read hn hs⟩;have one:∀{l:List Operand}{u:V},l.map (bw E f)=[u]→∃x,l=[x]∧u=bw E f x:=by
  intro l u h;match l with
  |[]=>simp at h
  |[x]=>simp at h;exact⟨x,rfl,h.symm⟩
  |_::_::_=>simp at h
 have two:∀{l:List Operand}{u v:V},l.map (bw E f)=[u,v]→∃x y,l=[x,y]∧u=bw E f x∧v=bw E f y:=by
  intro l u v h;match l with
  |[]=>simp at h
  |[x]=>simp at h
  |[x,y]=>simp at h;exact⟨x,y,rfl,h.1.symm,h.2.symm⟩
  |_::_::_::_=>simp at h
 have four:∀{l:List Operand}{u1 u2 u3 u4:V},l.map (bw E f)=[u1,u2,u3,u4]→∃x y z t,l=[x,y,z,t]∧u1=bw E f x∧u2=bw E f y∧u3=bw E f z∧u4=bw E f t:=by
  intro l u1 u2 u3 u4 h;match l with
  |[]=>simp at h
  |[x]=>simp at h
  |[x,y]=>simp at h
  |[x,y,z]=>simp at h
  |[x,y,z,t]=>simp at h;exact⟨x,y,z,t,rfl,h.1.symm,h.2.1.symm,h.2.2.1.symm,h.2.2.2.symm⟩
  |_::_::_::_::_::_=>simp at h
 have aam:∀{A:Type}{xs:Array A}{x:A},xs.toList=[x]→xs= #[x]:=fun h=>Array.ext' (by simpa using h);have Uq:∀{A:Type}{xs:Array A}{x y:A},xs.toList=[x,y]→xs= #[x,y]:=fun h=>Array.ext' (by simpa using h);split at h
 ·rename_i u hu;obtain⟨x,hx,rfl⟩:=one hu;split at h
  ·rename_i t ht;obtain⟨v,ft,v1,v2,v3,v4,v5⟩:=W7 h;refine read v2 (fun f2 m2 hf hm R' k'=>?_) (fun w0 μ φ a w hR=>?_)
   ·simp only[cJ,jf f2 hf,hu,ht];exact v1 m2 hm _ _
   ·have e1:=aam hx;have e2:=aam ht;subst e1;subst e2;obtain⟨z,z1,z2⟩:=v5 _ _ μ φ w _ type hR.toav (aj hR x).1 (aj hR x).2;exact⟨z,by simp[execOp,resolve,invoke,builtin,z1],z2,fun id hid=>by rw[v4]at hid;cases hid⟩
  ·cases h
 ·rename_i u u' hu;obtain⟨x,y,hx,rfl,rfl⟩:=two hu;split at h
  ·rename_i t t' ht;obtain⟨hd,ht',place,f',m',k1,k2,k3⟩:=Mc h;subst ht';refine .inl ⟨_,_,_,_,k1,⟨fun TU=>(by rw[hd]at TU;cases TU),fun h _=>by(simp[ff]at h),fun w0 μ φ a w K Q hR hK=>?_⟩⟩;have e1:=Uq hx;have e2:=Uq ht;subst e1;subst e2;obtain⟨w',z,φ',z1,z2,z3,z4⟩:=k3 _ w0 μ φ w (az E.fn.ntmps w0 a) _ _ type hR.toav hR.kz (aj hR x).1 (aj hR y).1;exact fK (y:=z) (w':=w') (by simp[execOp,resolve,invoke,builtin,z1]) (hK z w' μ φ' z2 z3 z4 fun id hid=>by have hid:=Nat.eq_of_beq_eq_true hid;subst hid;exact k2)
  ·cases h
 ·rename_i u u' hu;obtain⟨x,y,hx,rfl,rfl⟩:=two hu;split at h
  ·rename_i t ts ht;obtain⟨n,id,b,ft,c1,c2,c3⟩:=TZ h;refine .inl ⟨_,_,_,_,c2,⟨fun hd=>⟨rfl,[(id,b)],rfl,by simp,fun f2 m2 hf hm R' k'=>?_⟩,fun h _=>by(simp[ff]at h),fun w0 μ φ a w K Q hR hK=>?_⟩⟩
   ·simp only[cJ,jf f2 hf,hu,ht];exact c1 m2 hm _ _
   ·have e1:=Uq hx;subst e1;have e2:argTypes=(t::ts).toArray:=Array.ext' (by simpa using ht);subst e2;obtain⟨w',φ',z1,z2,z3,z4⟩:=c3 _ w0 μ φ w (az E.fn.ntmps w0 a) f _ _ ts type hR.toav hR.kz (aj hR x).1 (aj hR y).1;exact fK (y:=.int .i64 n) (w':=w') (by simp only[execOp,resolve,invoke,builtin,Sem.run_bind,Sem.run_pure,Result.andThen_ok];rw[show(#[x,y].map a.eval)= #[a.eval x,a.eval y] by simp,z1];rfl) (hK _ w' μ φ' z2 z3 (.pv (.int z4)) (by simp))
  ·cases h
 ·rename_i u hu;obtain⟨x,hx,rfl⟩:=one hu;split at h
  ·rename_i t ts ht;obtain⟨id,b,c1,c2,c3⟩:=RG h;refine .inl ⟨_,_,_,_,c2,⟨fun hd=>⟨rfl,[(id,b)],rfl,by simp,fun f2 m2 hf hm R' k'=>?_⟩,fun h _=>by(simp[ff]at h),fun w0 μ φ a w K Q hR hK=>?_⟩⟩
   ·simp only[cJ,jf f2 hf,hu,ht];exact c1 m2 (hm (true,id) (by simp)) _ _
   ·have e1:=aam hx;subst e1;have e2:argTypes=(t::ts).toArray:=Array.ext' (by simpa using ht);subst e2;obtain⟨w',z1,z2,z3⟩:=c3 _ w0 μ φ w (az E.fn.ntmps w0 a) f _ ts type hR.toav hR.kz (aj hR x).1;exact fK (y:=.tuple #[]) (w':=w') (by simp only[execOp,resolve,invoke,builtin,Sem.run_bind,Sem.run_pure,Result.andThen_ok];rw[show(#[x].map a.eval)= #[a.eval x] by simp,z1];rfl) (hK _ w' μ φ z2 z3 .top (by simp))
  ·cases h
 ·rename_i u u' hu;obtain⟨x,y,hx,rfl,rfl⟩:=two hu;obtain⟨q,q1,q2,q3⟩:=TP h;refine read q2 (fun f2 m2 hf hm R' k'=>?_) (fun w0 μ φ a w hR=>?_)
  ·simp only[cJ,jf f2 hf,hu];exact q1 _ _
  ·have e1:=Uq hx;subst e1;obtain⟨z,z1,z2⟩:=q3 E.P μ φ w _ _ (aj hR x).1 (aj hR y).1;exact⟨z,by simp[execOp,resolve,invoke,builtin,Builtin.min_,z1],.pv z2,by simp⟩
 ·rename_i u u' hu;obtain⟨x,y,hx,rfl,rfl⟩:=two hu;obtain⟨q,q1,q2,q3⟩:=zl h;refine read q2 (fun f2 m2 hf hm R' k'=>?_) (fun w0 μ φ a w hR=>?_)
  ·simp only[cJ,jf f2 hf,hu];exact q1 _ _
  ·have e1:=Uq hx;subst e1;obtain⟨z,z1,z2⟩:=q3 E.P μ φ w _ _ (aj hR x).1 (aj hR y).1;exact⟨z,by simp[execOp,resolve,invoke,builtin,Builtin.max_,z1],.pv z2,by simp⟩
 ·rename_i u1 u2 u3 u4 hu;obtain⟨x,y,z,t,hx,rfl,rfl,rfl,rfl⟩:=four hu;obtain⟨q,q1,q2,q3⟩:=TQ h;refine read q2 (fun f2 m2 hf hm R' k'=>?_) (fun w0 μ φ a w hR=>?_)
  ·simp only[cJ,jf f2 hf,hu];exact q1 _ _
  ·have e1:args= #[x,y,z,t]:=Array.ext' (by simpa using hx);subst e1;obtain⟨v1,v2,v3,z1,z2,z3,z4⟩:=q3 E.P μ φ w _ _ _ _ (aj hR x).1 (aj hR y).1 (aj hR z).1 (aj hR t).1;exact⟨v3,by simp[execOp,resolve,invoke,builtin,Builtin.max_,z1,z2,z3],.pv z4,by simp⟩
 ·rename_i _ g;refine known g _ h (fun w0 μ φ a w hR=>⟨args.map a.eval,?_,(kT hR).1,(kT hR).2,fun id hid=>pV hR hid⟩) (fun f2 m2 hf R' k'=>?_)
  ·simp[execOp,resolve,Deferred.ofValue,invoke,Act.eval]
  ·simp only[cJ,jf f2 hf]
 ·rename_i _ tm;split at h
  ·rename_i g caps oR;refine known (uV g) _ h (fun w0 μ φ a w hR=>?_) (fun f2 m2 hf R' k'=>?_)
   ·have h1:=(aj hR (.tmp tm)).1;rw[oR]at h1;have hlc:=(aj hR (.tmp tm)).2;rw[oR]at hlc;generalize hy:a.eval (.tmp tm)=y at h1;cases h1 with
    | @fn _ _ xs c1 c2=>
     obtain⟨o1,o2⟩:=kT hR (args:=args);obtain⟨b1,b2⟩:=Qi (g:=g) (by simp) o2 c1 c2;refine⟨zq g xs (args.map a.eval),?_,b1,b2,fun id hid=>?_⟩
     ·cases e:Nat.blt g Cg with
      |true=>rw[qo e]at hy;simp[execOp,resolve,Deferred.ofValue,invoke,hy,uV,zq,e]
      |false=>rw[Jk e]at hy;simp[execOp,resolve,Deferred.ofValue,invoke,hy,uV,zq,e]
     ·obtain⟨v,hv,hh⟩:=cL.1 hid;rcases Un hv with hv|hv
      ·exact pV hR (cL.2 ⟨v,hv,hh⟩)
      ·exact hlc id (by simp only[V.has];exact cL.2 ⟨v,hv,hh⟩)
   ·have:=hf (.tmp tm) (by simp[Op.operands,Call.operands]);simp only[cJ,jf f2 hf,this,oR]
  ·rename_i g caps oR;refine known (uV g) _ h (fun w0 μ φ a w hR=>?_) (fun f2 m2 hf R' k'=>?_)
   ·have h1:=(aj hR (.tmp tm)).1;rw[oR]at h1;generalize hy:a.eval (.tmp tm)=y at h1;cases h1 with
    |pv h1=>cases h1 with
     | @fn _ _ xs c1 c2=>
      obtain⟨o1,o2⟩:=kT hR (args:=args);obtain⟨b1,b2⟩:=Qi (g:=g) (caps:=caps.map .pv) (xs:=xs) (by simp) o2 (by simpa using c1) (fun i v x hv hx=>by simp only[List.getElem?_map,Option.map_eq_some_iff]at hv;obtain⟨q,hq,rfl⟩:=hv;exact .pv (c2 _ q x hq hx));refine⟨zq g xs (args.map a.eval),?_,b1,b2,fun id hid=>?_⟩
      ·cases e:Nat.blt g Cg with
       |true=>rw[qo e]at hy;simp[execOp,resolve,Deferred.ofValue,invoke,hy,uV,zq,e]
       |false=>rw[Jk e]at hy;simp[execOp,resolve,Deferred.ofValue,invoke,hy,uV,zq,e]
      ·obtain⟨v,hv,hh⟩:=cL.1 hid;rcases Un hv with hv|hv
       ·exact pV hR (cL.2 ⟨v,hv,hh⟩)
       ·obtain⟨q,_,rfl⟩:=List.mem_map.1 hv;cases hh
   ·have:=hf (.tmp tm) (by simp[Op.operands,Call.operands]);simp only[cJ,jf f2 hf,this,oR]
  ·rename_i id oR;split at h
   ·cases h
   ·rename_i xf;refine .inr ⟨by simpa using xf,And.intro (fun c x y h=>by cases h) fun rd w0 μ φ a w K Q hY hR hK=>?_⟩;have h1:=(aj hR (.tmp tm)).1;rw[oR]at h1;generalize hy:a.eval (.tmp tm)=y at h1;cases h1 with
    | @yl _ g hg=>
     obtain⟨o1,o2⟩:=kT hR (args:=args);obtain⟨fn,tmps,assign,body,y1,y2⟩:=hY _ _ _ _ _ _ _ _ h μ φ (az E.fn.ntmps w0 a) w (args.map a.eval) hR.toav hR.kz (fun t ht=>by unfold az;rw[if_neg (by omega)]) o1 o2 (fun id hid=>pV hR hid) g hg;refine⟨fun _ _=>trivial,?_⟩;rw[Oper.semAt_eq _ _ _ (fun c h=>by cases h)];have nu:(execOp a.eval ⟨dst,.call ⟨.value (.tmp tm),args,argTypes⟩,type,pos,after,guard⟩).run E.P w=.ok (.round g fn tmps assign body) w:=by simp only[execOp,resolve,Deferred.ofValue,hy];simpa[invoke]using y1
     rw[nu,Oper.uponIn_round];refine⟨fun h=>(by cases h),(FR.Xr y2).mono ?_⟩;rintro e w' ⟨v,f',m',y,μ',φ',h0,rfl,_,h1,h2,h3,h4⟩;exact hK v f' m' y w' μ' φ' h0 h1 h2 h3 h4
  ·cases h
 ·cases h
theorem JD{a b:Option R}(h:agree a b=some r):a=some r∧b=some r:=by
 unfold agree at h;split at h
 ·rename_i e;exact⟨h,by rw[←e];exact h⟩
 ·cases h
theorem RX{op:BinOp}{t:TypeId}{es:List PV}{k:Bool→Option R}(h:LW E op t es k=some r):∃e,E.P.underlying t=some (.slice e)∧((op=.eql∧∀b,(b=true→es=[])→k b=some r)∨(op=.neq∧∀b,(b=false→es=[])→k b=some r)):=by
 unfold LW at h;split at h
 ·rename_i e hu;refine⟨e,hu,.inl ⟨rfl,fun b hb=>?_⟩⟩;split at h
  ·obtain⟨h1,h2⟩:=JD h;cases b<;>assumption
  ·rename_i cB;cases b with
   |true=>exact absurd (by simp[hb rfl]) cB
   |false=>exact h
 ·rename_i e hu;refine⟨e,hu,.inr ⟨rfl,fun b hb=>?_⟩⟩;split at h
  ·obtain⟨h1,h2⟩:=JD h;cases b<;>assumption
  ·rename_i cB;cases b with
   |false=>exact absurd (by simp[hb rfl]) cB
   |true=>exact h
 ·cases h
theorem Xt{op:BinOp}{t:TypeId}{x y:Operand}{ty type:TypeId}{pos:String}{s:Nat}{es:List PV}(h:cJ E draw site ⟨dst,.binOp op t x y ty,type,pos,after,guard⟩ f m k=some r)(hx:bw E f x=.pv (.rs s es))(hy:bw E f y=.hZ):draw=false∧DQ E ⟨dst,.binOp op t x y ty,type,pos,after,guard⟩ f m k r:=by
 simp only[cJ,hx,hy]at h;split at h
 ·cases h
 ·rename_i hd;refine⟨by simpa using hd,And.intro (fun c x y h=>by cases h) fun rd w0 μ φ a w K Q _ hR hK=>AN (fun c h=>by cases h) ?_⟩;obtain⟨e,hu,hk⟩:=RX h;have h1:=(aj hR x).1;have h2:=(aj hR y).1;rw[hx]at h1;rw[hy]at h2;generalize hvx:a.eval x=vx at h1;generalize Xf:a.eval y=vy at h2;have BK:∃(ad:Option Addr)(n c:Nat),vx=.slice ad n c∧(ad=none→es=[]):=by
   cases h1 with
   |pv h1=>
    cases h1 with
    |kE=>exact⟨none,0,0,rfl,fun _=>rfl⟩
    |Fk _=>exact⟨_,_,_,rfl,fun _=>rfl⟩
    |rs _ _ _ _ _ _ _=>exact⟨_,_,_,rfl,fun h=>by cases h⟩
  obtain⟨ad,n,c,rfl,Xj⟩:=BK;cases h2;have go:∀b,(binOp op t (.slice ad n c) (.slice none 0 0)).run E.P w=.ok (.bool b) w→k (.pv (.bool b)) f m [(true,0)]=some r→(⟨dst,.binOp op t x y ty,type,pos,after,guard⟩:Oper).wp E.P a w K Q:=fun b hb hkb=>by refine fK (y:=.bool b) (w':=w) ?_ (hK _ _ _ _ _ _ _ hkb hR.toav hR.kz (.pv .bool) (by simp));simp only[execOp,eqGuard_at_slice,Sem.run_bind,Sem.run_pure,hvx,Xf,Result.andThen_ok];rw[hb];rfl
  rcases hk with⟨rfl,hk⟩|⟨rfl,hk⟩
  ·refine go ad.isNone (Lib.run_eql_slice_nil w t e ad n c 0 0 hu) (hk _ fun hb=>Xj (by simpa using hb))
  ·refine go (!ad.isNone) ?_ (hk _ fun hb=>Xj (by simpa using hb));simp only[binOp];simp[Op.equal,Op.maxDepth,Lib.run_equalIn_slice_nil w 9999 t e ad n c 0 0 hu]
theorem Ur(h:cJ E draw site o f m k=some r)(hi:L2 o.op=true):draw=false∧DQ E o f m k r:=by
 obtain⟨dst,op,type,pos,after,guard⟩:=o;unfold cJ at h;cases op<;>first|(cases hi;done)|skip
 case range t x=>
  simp only at h;split at h
  ·cases h
  ·rename_i hd;refine⟨by simpa using hd,And.intro (fun c x y h=>by cases h) fun rd w0 μ φ a w K Q _ hR hK=>AN (fun c h=>by cases h) ?_⟩;obtain⟨f',m',hk,hl,hs⟩:=RO h;obtain⟨w',y',μ',φ',r1,r2,r3,r4⟩:=hs _ _ _ _ _ _ _ hR.toav hR.kz (aj hR x).1;exact fK (y:=y') (w':=w') (by simp[execOp,r1]) (hK _ _ _ _ _ _ _ hk r2 r3 r4 fun id hid=>by have:=Nat.eq_of_beq_eq_true hid;subst this;exact hl)
 case next x s=>
  simp only at h;split at h
  ·cases h
  ·rename_i hd;simp only[Bool.or_eq_true,not_or,Bool.not_eq_true]at hd;obtain⟨hd,rfl⟩:=hd;refine⟨hd,And.intro (fun c x y h=>by cases h) fun rd w0 μ φ a w K Q _ hR hK=>AN (fun c h=>by cases h) ?_⟩;obtain⟨v,m',y',w',hk,hv,hl,r1,r2,r3⟩:=T8 h _ _ _ _ _ _ type hR.toav (aj hR x).1;exact fK (y:=y') (w':=w') (by simp[execOp,r1]) (hK _ _ _ _ _ _ _ hk r2 (hR.kz.ml (fun _ _ h=>h) hl) r3 fun id hid=>by rw[hv id]at hid;cases hid)
 case entry x=>
  simp only at h;split at h
  ·cases h
  ·rename_i hd;refine⟨by simpa using hd,And.intro (fun c x y h=>by cases h) fun rd w0 μ φ a w K Q _ hR hK=>AN (fun c h=>by cases h) ?_⟩;obtain⟨v,m',y',hk,hv,hl,r1,r3,r2⟩:=RP h _ _ _ _ _ _ _ hR.toav (aj hR x).1;exact fK (y:=y') (w':=w) (by simp[execOp,r1]) (hK _ _ _ _ _ _ _ hk r3 (hR.kz.ml (fun _ _ h=>h) hl) r2 fun id hid=>by rw[hv id]at hid;cases hid)
theorem Xu(hE:jS E)(h:cJ E draw site o f m k=some r):(∃v f' m' ft,k v f' m' ft=some r∧uf E draw site o f m v f' m' ft)∨(draw=false∧DQ E o f m k r):=by
 by_cases hc:∃c,o.op=.call c
 ·obtain⟨dst,op,type,pos,after,guard⟩:=o;obtain⟨⟨callee,args,argTypes⟩,hc⟩:=hc;simp only at hc;subst hc;exact Up hE h
 ·by_cases hb:∃op t x y ty s es,o.op=.binOp op t x y ty∧bw E f x=.pv (.rs s es)∧bw E f y=.hZ
  ·obtain⟨op,t,x,y,ty,s,es,h1,h2,h3⟩:=hb;obtain⟨dst,op',type,pos,after,guard⟩:=o;simp only at h1;subst h1;exact .inr (Xt h h2 h3)
  ·cases hi:L2 o.op with
   |true=>exact .inr (Ur h hi)
   |false=>exact .inl (Xs hE h (fun c hcc=>hc ⟨c,hcc⟩) (fun op t x y ty s es h1 h2 h3=>hb ⟨op,t,x,y,ty,s,es,h1,h2,h3⟩) hi)
theorem Rel.yn{nt:Nat}{P:Program}{G:Nat→Option (List PV)}{w0:br}{μ:Ro}{φ:Nat→aA}{f:Fr}{m:Mem}{a:Act}{w:World}(h:Rel P G nt w0 μ φ f m a w){K:Ro}(hK:∀b o,K b=some o→μ b=some o)(hK0:∀b o,w0.dA b=some o→K b=some o):Rel P G nt {w0 with dA:=K} μ φ f m a w:={toav:=h.toav.yn hK,size:=h.size,defers:=h.defers,l5:=fun b o hb=>hK0 b o (h.l5 b o hb),fr:=h.fr,live:=h.live}
theorem Rel.DC{nt:Nat}{P:Program}{G:Nat→Option (List PV)}{w0:br}{μ:Ro}{φ:Nat→aA}{f:Fr}{m:Mem}{a:Act}{w:World}{K:Ro}(h:Rel P G nt {w0 with dA:=K} μ φ f m a w)(hK:∀b o,w0.dA b=some o→K b=some o)(ho:∀b o,w0.l5 b=some o→w0.dA b=some o):Rel P G nt w0 μ φ f m a w:={toav:=h.toav.DC hK,size:=h.size,defers:=h.defers,l5:=ho,fr:=h.fr,live:=h.live}
abbrev JE(μ μ':Ro):Prop:=∀b o,μ b=some o→μ' b=some o
theorem Mw(h:cJ E draw site o f m k=some r):∀c,o.op≠.defer c:=by intro c hc;obtain⟨dst,op,type,pos,after,guard⟩:=o;simp only at hc;subst hc;simp[cJ]at h
theorem uf.yp{f':Fr}{ft:bk}(h:uf E draw site o f m v f' m' ft)(hd:∀c,o.op≠.defer c)(rd:Option Nat)(w0:br)(μ:Ro)(φ:Nat→aA)(a:Act)(w:World)(K:Act→World→Prop)(Q:Exit→Act→World→Prop)(hR:Rel E.P E.aD E.fn.ntmps w0 μ φ f m a w)(hK:∀y w' μ' φ',JE μ μ'→av E.P E.aD w0 μ' φ' m' w'→bZ E.P μ' φ' m' f' (az E.fn.ntmps w0 a)→ae E.P μ' φ' v y→(∀id,v.has id=true→(m' id).isSome=true)→K (a.put o.dst y) w'):o.wpIn (FR rd) 0 E.P a w K Q:=AN hd (h.sound {w0 with dA:=μ} μ φ a w K Q (hR.yn (fun _ _ h=>h) hR.dA) fun y w' μ' φ' h1 h2 h3 h4=>hK y w' μ' φ' h1.dA (h1.DC hR.dA) h2 h3 h4)
theorem DQ.yp(h:DQ E o f m k r)(rd:Option Nat)(w0:br)(μ:Ro)(φ:Nat→aA)(a:Act)(w:World)(K:Act→World→Prop)(Q:Exit→Act→World→Prop)(hY:sV E.P E.aD E.fn.ntmps E.yl w0)(hR:Rel E.P E.aD E.fn.ntmps w0 μ φ f m a w)(hK:∀v f' m' y w' μ' φ',k v f' m' [(true,0)]=some r→JE μ μ'→av E.P E.aD w0 μ' φ' m' w'→bZ E.P μ' φ' m' f' (az E.fn.ntmps w0 a)→ae E.P μ' φ' v y→(∀id,v.has id=true→(m' id).isSome=true)→K (a.put o.dst y) w'):o.wpIn (FR rd) 0 E.P a w K Q:=h.2 rd {w0 with dA:=μ} μ φ a w K Q (hY.yn hR.dA) (hR.yn (fun _ _ h=>h) hR.dA) fun v f' m' y w' μ' φ' h0 h1 h2 h3 h4=>hK v f' m' y w' μ' φ' h0 h1.dA (h1.DC hR.dA) h2 h3 h4
end
end Go.Ab
set_option linter.unusedVariables false
namespace Go.Ab
section
variable {R:Type} {E:Env}
variable{site:Nat}{o:Oper}{k:V→Fr→Mem→bk→Option R}
theorem My{f:Fr}{m:Mem}{sp:Sp}{r:R}(hs:xV E site o f m=some sp)(h:YS E site sp f m k=some r):∃v wr,k v (kf (sp.info site).1 f) (sN wr (km (sp.info site).1 m)) (sp.info site).2=some r∧(∀x∈wr,(true,x.1)∈(sp.info site).2)∧(∀x∈(sp.info site).1,(true,x.2)∈(sp.info site).2)∧(∀(f2:Fr)(m2:Mem)(R':Type)(k':V→Fr→Mem→bk→Option R'),YS E site sp f2 m2 k'=k' v (kf (sp.info site).1 f2) (sN wr (km (sp.info site).1 m2)) (sp.info site).2)∧(∀c,o.op≠.defer c)∧uf E false site o f m v (kf (sp.info site).1 f) (sN wr (km (sp.info site).1 m)) (sp.info site).2:=by
 obtain⟨dst,op,type,pos,after,guard⟩:=o;unfold xV at hs;cases op;case store t a x=>
  simp only at hs;split at hs
  ·rename_i id i off ha;split at hs
   ·rename_i s et es hm;split at hs
    ·rename_i cs hc;split at hs
     ·rename_i ps j id2 ht;split at hs
      ·rename_i jX;simp only[Option.some.injEq]at hs;subst hs;simp only[Bool.and_eq_true,decide_eq_true_eq,Bool.not_eq_true']at jX;obtain⟨⟨hb,h0⟩,cB⟩:=jX;have cB:id2≠id:=fun e=>by subst e;simp[Nat.beq_refl]at cB
       unfold YS at h;obtain⟨e,he,h⟩:=Option.bind_eq_some_iff.1 h;refine⟨_,_,h,by simp[Sp.info],by simp[Sp.info],fun f2 m2 R' k'=>by simp only[YS,he,Option.bind_some];rfl,by simp,⟨fun h=>(nomatch h),fun _ h=>absurd (h (true,id) (by simp[Sp.info])) (by simp),fun w0 μ φ ac w K Q hR hK=>?_⟩⟩;obtain⟨w',φ',u1,u2,u3⟩:=Uc hm hc ht hb h0 cB he hR.toav hR.kz (by have:=(aj hR a).1;rw[ha]at this;exact this) (aj hR x).1;exact vI (by simp[execOp,u1]) (hK undef w' μ φ' u2 u3 .top (by simp))
      ·cases hs
     ·cases hs
    ·cases hs
   ·cases hs
  ·cases hs
 case buildSlice t len parts=>
  simp only at hs;split at hs
  ·rename_i e v hu hp;split at hs
   ·rename_i cs hc;split at hs
    ·rename_i ps j id2 ht abR;split at hs
     ·rename_i p Fs;split at hs
      ·rename_i jX;simp only[Option.some.injEq]at hs;subst hs;simp only[Bool.and_eq_true,decide_eq_true_eq]at jX;obtain⟨⟨⟨hlen,ec⟩,hsm⟩,hz⟩:=jX;have hlen:=Nat.eq_of_beq_eq_true hlen;subst hlen;refine⟨_,_,h,by simp[Sp.info],by simp[Sp.info],fun f2 m2 R' k'=>rfl,by simp,⟨fun h=>(nomatch h),fun h _=>by(simp[ff]at h),fun w0 μ φ ac w K Q hR hK=>?_⟩⟩;obtain⟨x,hx,hxv⟩:∃x,parts= #[(0,x)]∧bw E f x=v:=by
        obtain⟨l⟩:=parts;match l,hp with
        |[(a,x)],hp=>simp only[List.map_cons,List.map_nil,List.cons.injEq,Prod.mk.injEq,and_true]at hp;exact⟨x,by rw[hp.1],hp.2⟩
       subst hx;obtain⟨y,w',φ',u1,u2,u3,u4⟩:=RR hu hc ht abR Fs ec hsm hz hR.toav hR.kz (by have:=(aj hR x).1;rw[hxv]at this;exact this);exact fK (y:=y) (w':=w') (by
        have:(#[((0:Nat),x)].map fun(x:Nat×Operand)=>(x.1,ac.eval x.2))= #[(0,ac.eval x)]:=by simp
        simp only[execOp,Sem.run_bind,this,u1,Result.andThen_ok,Sem.run_pure]) (hK y w' μ φ' u2 u3 u4 fun j hj=>by have hj:=Nat.eq_of_beq_eq_true hj;subst hj;simp[sN])
      ·cases hs
     ·cases hs
    ·cases hs
   ·cases hs
  ·cases hs
 case call c=>
  obtain⟨callee,args,argTypes⟩:=c;simp only at hs;split at hs
  ·rename_i id x t t' ha Qf;split at hs
   ·rename_i e s et es hu hm;split at hs
    ·rename_i jX;simp only[Bool.and_eq_true,decide_eq_true_eq]at jX;obtain⟨⟨⟨⟨⟨h1,h2⟩,h3⟩,h4⟩,h5⟩,h6⟩:=jX;subst h3;have h1:et=e:=by simpa using h1
     subst h1;have jf:∃y z,args= #[y,z]∧bw E f y=.os id∧bw E f z=x:=by
      obtain⟨l⟩:=args;rcases l with _|⟨y,_|⟨z,_|⟨u,l⟩⟩⟩
      ·simp at ha
      ·simp at ha
      ·simp only[List.map_cons,List.map_nil,List.cons.injEq,and_true]at ha;exact⟨y,z,rfl,ha.1,ha.2⟩
      ·simp at ha
     obtain⟨y,z,rfl,hy,hz⟩:=jf;have Us:argTypes= #[t',t']:=Array.ext' (by simpa using Qf);subst Us;have main:∀(new:List PV)(src:Option Nat)(rd:bk),sp=.app id s et es new src rd→((∃id2,src=some id2∧id2≠id∧x=.os id2∧m id2=some (.nest s et new))∨(src=none∧eM m s x=some (new,rd)))→∃v wr,k v (kf (sp.info site).1 f) (sN wr (km (sp.info site).1 m)) (sp.info site).2=some r∧(∀x∈wr,(true,x.1)∈(sp.info site).2)∧(∀x∈(sp.info site).1,(true,x.2)∈(sp.info site).2)∧(∀(f2:Fr)(m2:Mem)(R':Type)(k':V→Fr→Mem→bk→Option R'),YS E site sp f2 m2 k'=k' v (kf (sp.info site).1 f2) (sN wr (km (sp.info site).1 m2)) (sp.info site).2)∧(∀c,(⟨dst,.call ⟨.builtin .append,#[y,z],#[t',t']⟩,type,pos,after,guard⟩:Oper).op≠.defer c)∧uf E false site ⟨dst,.call ⟨.builtin .append,#[y,z],#[t',t']⟩,type,pos,after,guard⟩ f m v (kf (sp.info site).1 f) (sN wr (km (sp.info site).1 m)) (sp.info site).2:=by
      intro new src rd pT yj;subst pT;simp only[YS]at h;split at h
      ·rename_i gu;have hw:(true,id)∈(Sp.info site (.app id s et es new src rd)).2:=by cases src<;>simp[Sp.info]
       have hkm:sN [(id,.nest s et (es++new))] (km (Sp.info site (.app id s et es new src rd)).1 m)=ak (bh (bx id (Qd src m)) id) id (.nest s et (es++new)):=by cases src<;>rfl
       have hkf:kf (Sp.info site (.app id s et es new src rd)).1 f=eU id (kfS src f):=by cases src<;>rfl
       refine⟨_,_,h,fun q hq=>(by simp only[List.mem_singleton]at hq;subst hq;exact hw),fun q hq=>?_,fun f2 m2 R' k'=>by simp only[YS];rw[if_pos gu],by simp,⟨fun h=>(nomatch h),fun _ h=>absurd (h (true,id) hw) (by simp),fun w0 μ φ ac w K Q hR hK=>?_⟩⟩
       ·cases src<;>simp only[Sp.info,List.mem_cons,List.not_mem_nil,or_false]at hq⊢
        ·subst hq;simp
        ·rcases hq with rfl|rfl<;>simp
       ·obtain⟨w',y',φ',u1,u2,u3,u4⟩:=RU (ty:=type) hu hm h2 h4 h5 h6 gu yj hR.toav hR.kz (by have:=(aj hR y).1;rw[hy]at this;exact this) (by have:=(aj hR z).1;rw[hz]at this;exact this);exact fK (y:=y') (w':=w') (by simp[execOp,resolve,invoke,builtin,u1]) (hK y' w' μ φ' (by rw[hkm];exact u2) (by rw[hkm,hkf];exact u3) u4 fun j hj=>by have hj:=Nat.eq_of_beq_eq_true hj;subst hj;simp[sN])
      ·cases h
     split at hs
     ·rename_i pI;split at hs
      ·rename_i s' C4 new hm';split at hs
       ·rename_i Rv;simp only[Bool.and_eq_true,decide_eq_true_eq]at Rv;obtain⟨⟨c1,c2⟩,c3⟩:=Rv;have c1:=Nat.eq_of_beq_eq_true c1;subst c1;subst c2;simp only[Option.some.injEq]at hs;exact main new (some pI) [] hs.symm (.inl ⟨pI,rfl,fun e=>by subst e;simp[Nat.beq_refl]at c3,rfl,hm'⟩)
       ·cases hs
      ·split at hs
       ·rename_i new rd AG;split at hs
        ·cases hs
        ·simp only[Option.some.injEq]at hs;exact main new none rd hs.symm (.inr ⟨rfl,AG⟩)
       ·cases hs
     ·split at hs
      ·rename_i new rd AG;split at hs
       ·cases hs
       ·simp only[Option.some.injEq]at hs;exact main new none rd hs.symm (.inr ⟨rfl,AG⟩)
      ·cases hs
    ·cases hs
   ·cases hs
  ·cases hs
 case mapUpdate t x key v=>
  simp only at hs;split at hs
  ·rename_i kt et id id2 hu hx hv;split at hs
   ·rename_i vh e es s e' rs kp h1 h2 hk;split at hs
    ·rename_i jX;simp only[Option.some.injEq]at hs;subst hs;simp only[Bool.and_eq_true,decide_eq_true_eq]at jX;obtain⟨⟨hkt,hee⟩,_⟩:=jX;subst hkt;subst hee;refine⟨_,_,h,by simp[Sp.info],by simp[Sp.info],fun f2 m2 R' k'=>rfl,by simp,⟨fun h=>(nomatch h),fun h _=>by(simp[ff]at h),fun w0 μ φ ac w K Q hR hK=>?_⟩⟩;obtain⟨w',φ',u1,u2,u3⟩:=RT hu h1 h2 hk hR.toav hR.kz (by have:=(aj hR x).1;rw[hx]at this;exact this) (aj hR key).1 (by have:=(aj hR v).1;rw[hv]at this;exact this);exact vI (by simp[execOp,u1]) (hK undef w' μ φ' u2 u3 .top (by simp))
    ·cases hs
   ·cases hs
  ·cases hs
 all_goals (cases hs)
theorem HG(hE:jS E){draw:Bool}{f:Fr}{m:Mem}{r:R}(h:Jd E draw site o f m k=some r):(∃v f' m' ft,k v f' m' ft=some r∧uf E draw site o f m v f' m' ft)∨(draw=false∧DQ E o f m k r):=by
 unfold Jd at h;split at h
 ·rename_i sp pT;cases draw with
  |true=>cases pT
  |false=>
   simp only[cond]at pT;cases hn:E.Ak site with
   |false=>rw[hn]at pT;cases pT
   |true=>rw[hn]at pT;obtain⟨v,wr,h1,_,_,_,_,h2⟩:=My pT h;exact .inl ⟨_,_,_,_,h1,h2⟩
 ·exact Xu hE h
theorem AQ{draw:Bool}{f:Fr}{m:Mem}{r:R}(h:Jd E draw site o f m k=some r):∀c,o.op≠.defer c:=by
 unfold Jd at h;split at h
 ·rename_i sp pT;cases draw with
  |true=>cases pT
  |false=>
   simp only[cond]at pT;cases hn:E.Ak site with
   |false=>rw[hn]at pT;cases pT
   |true=>rw[hn]at pT;obtain⟨v,wr,h1,_,_,_,h3,h2⟩:=My pT h;exact h3
 ·exact Mw h
end
end Go.Ab
